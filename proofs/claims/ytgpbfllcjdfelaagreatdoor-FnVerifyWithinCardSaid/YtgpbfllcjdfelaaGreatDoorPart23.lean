/-
  The reference's search, the walk.
-/
import Derived.Test.YtgpbfllcjdfelaaGreatDoorPart21
import Derived.Lib.TrailingZeros
import Derived.Test.YtgpbfllcjdfelaaGreatDoorPart14
set_option linter.all false
namespace Go.Am
open Go Go.Proofs
set_option maxHeartbeats 1000000
set_option maxRecDepth 4000
attribute [local irreducible] AW BQ Lex A9 Aj Spec
variable {TB:Bp}
theorem Zv{l:List Int}(h:l.Pairwise (· < ·)){i j:Nat}{a b:Int}(hi:l[i]? = some a)(d:l[j]? = some b)(e:a < b):i < j:=by
 obtain⟨g,rfl⟩:=ce.1 hi;obtain⟨f,rfl⟩:=ce.1 d;rw [lI] at h
 rcases ou i j with c|c|c
 ·exact c
 ·subst c;omega
 ·have:=h j i f g c;omega
theorem Uo{n:Net}(B:Dm n)(hk:YP n)(U:Fits (Ag n) n.st){r:Option (List Int)}(hr:Ch (DJ n) r):Pure Tryz.prog TB 175 [Lp n] (gU r):=by
 have hpr:=Nl B;have hg:=Lx B U;have hnp:=B.np;have hna:=B.na;have hzl:=OC B;have hll:(Ac n.ls).length<=6:=AN n.ls 6;have Q:=Fz B;have hsz:=Us (TB:=TB) n (by omega);have hmv:=Uq (TB:=TB) B (DJ n).N (by show (Au (Ag n)).toNat<=1048576;omega)
 have hpN:Au (Ag n)=(((DJ n).N:Nat):Int):=by show _=(((Au (Ag n)).toNat:Nat):Int);omega
 have hNle:(DJ n).N<=1048576:=by omega
 have t:(Db n (DJ n).N).length=(DJ n).N:=by simp [Db]
 have hdec:∀(x:Nat),x < (DJ n).N->Pure Tryz.prog TB 232 [Av (Ag n),eI .i64 x] (Av (Bq (Ag n) x)):=λx A=>
  Mu _ _ (by omega) (by omega) (λz hz=>by have:=Q z hz;omega) (by omega)
 have hfnd:∀(x:Nat),Pure Tryz.prog TB 231 [Lp n,Av (Bq (Ag n) x),Fi (Ez n x)] (eB (Cm n (Bq (Ag n) x) (Ez n x))):=λx=>Up B hk (Ki B _) _;have H:=Sv (TB:=TB) (Ag n) n.st U (by omega);have hlet:=C3 (TB:=TB) n.ls;have c:=λdist h1 P=>XD (TB:=TB) (Db n (DJ n).N) (λi=>Cm n (Bq (Ag n) i) (Ez n i)) dist (Kx B) (by omega) h1 P;refine eN Tryz.func175 rfl (by kernel_rfl) rfl ?_;intro Z a;(repeat first|refine tA rfl ?_ |refine sP rfl (hsz) rfl ?_ |refine aU rfl ?_ |refine Aa ?_);refine aB ?_;refine Aj.A6 (α:={k:Nat // k<=(Ag n).length}) (λ⟨k,G⟩=>[(1,.o (.ip (MW n))),(4,Av (Ag n)),(5,eI .i64 (Au ((Ag n).take k))),(6,eI .i64 k)]) (λ⟨k,G⟩=>[]) 0 (λ⟨k,G⟩=>(Ag n).length - k) (⟨0,by omega⟩) [] (Ea a rfl rfl) (by (simp[cX,zC,a,Au])) ?_;rintro⟨k,G⟩;(try dsimp only);(repeat first|refine sN rfl ?_ |refine tA rfl ?_ |refine s2 rfl λ_ b=>?_ |refine aU rfl ?_ |refine Aa ?_);(refine aC rfl ?_ ?_<;>rintro⟨⟩)
 ·obtain⟨z,hz⟩:=get_some (l:=Ag n) (k:=k) (by (simp only[oZ] at *;omega))
  have hz':=get_map (g:=BB) hz;have h1:=JI hz;have P:=Hf ((Ag n).take (k+1)) λz hz=>Q z (lU hz);have h3:=(U.take (k+1)).2;rw [h1] at P h3;refine aK ?_;refine aS (aB ?_);(repeat first|(refine sA rfl ?_ ?_;first|exact tI|omega) |(refine s4 rfl ‹_› rfl ?_ ?_;omega) |refine aU rfl ?_ |refine Aa ?_);refine⟨⟨k+1,by (simp only[oZ] at *;omega)⟩,by dsimp only;((simp only[oZ] at *;omega)),[],?_⟩;simp[cX,zC,a,h1]
 obtain rfl:k=(Ag n).length:=by (simp only[oZ] at *;omega)
 refine aE ?_;rw [i7,hpN];generalize p:(DJ n).N=N at *;generalize F:Db n N=mv at *;(repeat first|refine tM rfl ?_ |refine sP rfl (hmv) rfl ?_ |refine aU rfl ?_ |refine Aa ?_);(refine pW rfl ?_ rfl (by rfl);refine N8 rfl rfl (by rfl) (by rfl) (am rfl) (by omega) (by omega) (by omega) ?_);(repeat first|refine tM rfl ?_ |refine aU rfl ?_ |refine Aa ?_);refine aB ?_;refine Aj.A6 (α:={i:Nat // i<=N}) (λ⟨i,hi⟩=>[(1,.o (.ip (MW n))),(4,Av (Ag n)),(5,eI .i64 N),(7,Dy mv),(8,.o (.arr 0 1 0 N)),(9,eI .i64 i)]) (λ⟨i,hi⟩=>[(0,.cells 3 1 ((dl (λj=>if Cm n (Bq (Ag n) (j:Nat)) (Ez n j) then 0 else -1) N i).map AP))]) 1 (λ⟨i,hi⟩=>N - i) (⟨0,by omega⟩) [0] (Ea a rfl rfl) (by (simp[cX,zC,a,dl])) ?_;rintro⟨i,hi⟩;(try dsimp only);(repeat first|refine tM rfl ?_ |refine s2 rfl λ_ b=>?_ |refine aU rfl ?_ |refine Aa ?_);(refine aC rfl ?_ ?_<;>rintro⟨⟩)
 ·have v:i < N:=by (simp only[oZ] at *;omega)
  have hd0:=fa (f:=λj=>if Cm n (Bq (Ag n) (j:Nat)) (Ez n j) then 0 else -1) v;have L:=fb (f:=λj=>if Cm n (Bq (Ag n) (j:Nat)) (Ez n j) then 0 else -1) v;have hdl:=Zm (f:=λj=>if Cm n (Bq (Ag n) (j:Nat)) (Ez n j) then 0 else -1) (po v);generalize dl (λj=>if Cm n (Bq (Ag n) (j:Nat)) (Ez n j) then 0 else -1) N i=cur at *;have hd0':=GW (g:=AP) hd0
  have hd1:(cur.set i (-1))[i]? = some (-1):=by simp [hdl,v]
  have hd1':=GW (g:=AP) hd1;rw [<-Hi (x:=0)] at hd1'
  have hmi:(mv.map JB)[((i:Nat):Int).toNat]? = some (JB (Ez n i)):=by rw [<-F];exact get_map (JG v)
  refine aK ?_;refine aS (aB ?_);(repeat' first|((first|refine sM rfl ?_ ?_|refine s4 rfl ‹_› rfl ?_ ?_);first|exact tI|omega) |refine sP rfl (hdec i v) rfl ?_|(refine sC rfl (hfnd i) ?_;intro _ b) |refine aU rfl ?_ |refine Aa ?_ |refine rE (by kernel_rfl) ?_|(refine aC rfl ?_ ?_<;>rintro⟨⟩)|refine aK ?_|refine aE ?_|refine aB ?_|refine aR ⟨_,rfl,?_⟩)
  ·rw [if_pos (by assumption)] at L
   refine⟨⟨i+1,by omega⟩,by dsimp only;(omega),[0],?_⟩;rw [Hi,Hi,List.set_set];simp[cX,zC,a,L]
  ·rw [if_neg (by grind)] at L
   refine⟨⟨i+1,by omega⟩,by dsimp only;(omega),[0],?_⟩;rw [Hi];simp[cX,zC,a,L]
 obtain rfl:i=N:=by (simp only[oZ] at *;omega)
 refine aE ?_;(repeat first|refine tM rfl ?_ |refine aU rfl ?_)
 have hdlg:∀x,x < i->(dl (λj=>if Cm n (Bq (Ag n) (j:Nat)) (Ez n j) then 0 else -1) i i).getD x 0=if Cm n (Bq (Ag n) (x:Nat)) (Ez n x) then 0 else -1:=by
  intro x A;simp [dl,List.getD,A]
 have hdll:(dl (λj=>if Cm n (Bq (Ag n) (j:Nat)) (Ez n j) then 0 else -1) i i).length=i:=Zm (io _);generalize dl (λj=>if Cm n (Bq (Ag n) (j:Nat)) (Ez n j) then 0 else -1) i i=d0 at *;have c:=c d0 (by omega) (by rw [t];exact hdlg);rw [t] at c;(refine pW rfl ?_ rfl (by rfl);refine Ae [0] rfl rfl c ⟨rfl,by simp,by simp⟩ rfl (by simp[cX,zC,a]) ?_;rintro x0 σ1 nx1 ⟨rfl,rfl,dist,hD,rfl⟩ _);refine Aa ?_;refine aS ?_;refine Aj.freeze [0] [(1,.o (.ip (MW n))),(4,Av (Ag n)),(7,Dy mv),(8,Av dist)] ⟨⟨_,rfl,.AL⟩,⟨_,rfl,.AL⟩,⟨_,rfl,.AL⟩,⟨.o (.arr 0 1 0 i),rfl,.o (.full (T:=3) (rows:=dist.map AP) (by simp) (by simp[cX,zC,a,Ab.A7,BP,HR]) (by simp [d6]) (by simp [hD.len,t]))⟩,trivial⟩ ?_;have hG:JT (DJ n) (λx=>dist.getD x.toNat 0):=Zl (by rw [p,F];exact hD);have hdl:=hD.len;have hin:=Kx B;rw [p,F] at hin
 have hrow:∀x:Int,0<=x/\x < i->mv.getD x.toNat []=(Ac n.ls).map λl=>(DJ n).succ x l:=by
  intro x A;rw [<-F,<-p];exact Gb (by rw [p];exact A)
 have hrl:∀x,x < mv.length->(mv.getD x []).length=(Ac n.ls).length:=by
  intro x A;have:=hrow (x:Nat) (by omega);rw [i9] at this;rw [this];simp
 have hcl:∀(at':List Int) (k:Nat) (d:Int),Dk i at'->k < (Ac n.ls).length->Pure Tryz.prog TB 235 [Dy mv,Av dist,Av at',eI .i64 k,eI .i64 d] (Av (EX mv dist at' k d)):=λat' k d ha hk=>
  Su mv dist at' k d hin (by omega) hdl (by rw [t];exact ha.2) (by have:=Fw _ _ ha.1 ha.2;omega) (λx A=>by rw [hrl x A];exact hk)
 have hcm:∀(at':List Int) (k:Nat) (d:Int) (m:Int),(Ac n.ls)[k]? = some m->Dk i at'->∀y,y∈EX mv dist at' k d↔∃x∈at',y∈(DJ n).succ x m/\dist.getD y.toNat 0=d:=by
  intro at' k d m X ha y;rw [<-F,<-p];exact Zh X (by rw [p];exact ha.2)
 have hac:∀(at':List Int) (k:Nat) (d:Int),Dk i at'->Dk i (EX mv dist at' k d):=by
  intro at' k d ha;have:=Dk.eU hin (dist:=dist) (d:=d) (k:=k) (l:=at') .nil (by rw [t];exact ha.2);rwa [t] at this
 obtain⟨s,hs⟩:∃s,Dj (Ag n) n.st 0=s:=⟨_,rfl⟩
 have hgs:(DJ n).s0=s:=hs;have hsin:=hg.s0;rw [hgs,p] at hsin;rw [hs] at H;obtain⟨dd,hdd⟩:=get_some (l:=dist) (k:=s.toNat) (by omega)
 have hdd':(dist.map BB)[s.toNat]? = some (BB dd):=by simp [hdd]
 have I:dist.getD (DJ n).s0.toNat 0=dd:=by rw [hgs];simp [List.getD,hdd]
 have hs0':([s].map BB)[(0:Int).toNat]? = some (BB s):=rfl;have hbd:=hD.bound s.toNat (by omega)
 have S:dist.getD s.toNat 0=dd:=by simp [List.getD,hdd]
 rw [S] at hbd;(repeat first|refine tA rfl ?_ |(refine s4 rfl ‹_› rfl ?_ ?_;omega) |refine sP rfl (H) rfl ?_|refine sP rfl (hlet) rfl ?_ |refine aU rfl ?_ |refine Aa ?_);by_cases hneg:dd < 0
 ·have J:=Y3 hg hG (by show dist.getD (DJ n).s0.toNat 0 < 0;rw [I];exact hneg)
  have V:=Ch.unique hr J;subst V;refine aB ?_;refine Aj.A6 (α:=Unit) (λ_=>[(12,eT []),(13,eI .i64 dd)]) (λ_=>[]) 0 (λ_=>0) (()) [] (Ea a rfl rfl) (by (simp[cX,zC,a])) ?_;rintro _;(try dsimp only);(repeat first|refine tA rfl ?_ |refine s2 rfl λ_ b=>?_ |refine aU rfl ?_ |refine Aa ?_);(refine aC rfl ?_ ?_<;>rintro⟨⟩)
  ·exfalso;(simp only[oZ] at *;omega)
  (repeat' first|refine tA rfl ?_ |refine s2 rfl λ_ b=>?_ |refine aU rfl ?_ |refine Aa ?_|(refine aC rfl ?_ ?_<;>rintro⟨⟩)|refine aK ?_|refine aE ?_|refine aB ?_|refine aR ⟨_,rfl,?_⟩)
  all_goals first
   | (exfalso;omega;done)
   | (subst b;rw [show decide (dd=0)=false from decide_eq_false (by omega)];rfl)
 ·have M := MP.init (dx:=λx=>dist.getD x.toNat 0) hg (by show 0<=dist.getD (DJ n).s0.toNat 0;rw [I];omega)
  have M:MP (DJ n) (λx=>dist.getD x.toNat 0) [] [s] dd:=by rw [hgs,S] at M;exact M
  refine aB ?_;refine Aj.A6 (α:={x:List Int×List Int×Int // MP (DJ n) (λx=>dist.getD x.toNat 0) x.1 x.2.1 x.2.2}) (λ⟨⟨w,at',d⟩,K⟩=>[(7,Dy mv),(8,Av dist),(10,Av at'),(11,Av (Ac n.ls)),(12,eT (CA w)),(13,eI .i64 d)]) (λ⟨⟨w,at',d⟩,K⟩=>[]) 0 (λ⟨⟨w,at',d⟩,K⟩=>d.toNat) (⟨([],[s],dd),M⟩) [] (Ea a rfl rfl) (by (repeat' first|exact tI|rfl|refine And.intro ?_ ?_)) ?_;rintro⟨⟨w,at',d⟩,K⟩;(try dsimp only);simp only at K;have hWl:=K.len;have hWd:=K.d0;have q:=K.acc
  have hWl:(w.length:Int)+d=dd:=by rw [<-I];exact hWl
  rw [p] at q;(repeat first|refine tA rfl ?_ |refine s2 rfl λ_ b=>?_ |refine aU rfl ?_ |refine Aa ?_);(refine aC rfl ?_ ?_<;>rintro⟨⟩)
  ·have hdp:0 < d:=by (simp only[oZ] at *;omega)
   obtain⟨l0,hl0,hx0⟩:=K.prog hG hdp;have hlx:∀l:Int,l∈(DJ n).ls->∃k:Nat,(Ac n.ls)[k]? = some l:=λl hl=>nt hl
   have Y:∀k:Nat,(∀k',k' < k->EX mv dist at' k' (d - 1)=[])->k < (Ac n.ls).length:=by
    intro k hk2
    rcases l9 k (Ac n.ls).length with h|h
    ·exact h
    ·exfalso
     obtain⟨j,hj⟩:=hlx l0 hl0;have h1:=hk2 j (by have:=(ce.1 hj).1;omega);obtain⟨x,A,y,hy,hdy⟩:=hx0;have P:=(hcm at' j (d - 1) l0 hj q y).2 ⟨x,A,hy,hdy⟩;rw [h1] at P;cases P
   have hk0:=Y 0 (λk' h=>by omega);refine aK ?_;refine aS (aB ?_);(repeat first|(refine sA rfl ?_ ?_;first|exact tI|omega) |refine sP rfl (hcl at' 0 (d - 1) q hk0) rfl ?_ |refine aU rfl ?_ |refine Aa ?_);refine aB ?_;refine Aj.A6 (α:={k:Nat // ∀k',k' < k->EX mv dist at' k' (d - 1)=[]}) (λ⟨k,u⟩=>[(7,Dy mv),(8,Av dist),(10,Av at'),(11,Av (Ac n.ls)),(12,eT (CA w)),(13,eI .i64 d),(14,eI .i64 k),(15,Av (EX mv dist at' k (d - 1)))]) (λ⟨k,u⟩=>[]) 0 (λ⟨k,u⟩=>(Ac n.ls).length - k) (⟨0,λk' h=>by omega⟩) [] (Ea a rfl rfl) (by (simp[cX,zC,a])) ?_;rintro⟨k,u⟩;(try dsimp only);have G:=Y k u;have hacK:=hac at' k (d - 1) q;(repeat first|refine sN rfl ?_ |refine tA rfl ?_ |refine s2 rfl λ_ b=>?_ |refine aU rfl ?_ |refine Aa ?_);(refine aC rfl ?_ ?_<;>rintro⟨⟩)
   ·have hnil:EX mv dist at' k (d - 1)=[]:=lw.1 (by (simp only[oZ] at *;omega))
    have R:∀k',k' < k+1->EX mv dist at' k' (d - 1)=[]:=λk' h=>by
     rcases nz.1 h with h|h
     ·exact u k' h
     ·rw [h];exact hnil
    have hc2:=hcl at' (k+1) (d - 1) q (Y _ R);rw [show (((k+1:Nat)):Int)=(k:Int)+1 from rfl] at hc2;refine aK ?_;refine aB ?_;(repeat first|(refine sA rfl ?_ ?_;first|exact tI|omega) |refine sP rfl (hc2) rfl ?_ |refine aU rfl ?_ |refine Aa ?_);refine⟨⟨k+1,R⟩,by dsimp only;(omega),[],?_⟩;simp[cX,zC,a]
   ·obtain⟨m,X⟩:=get_some (l:=Ac n.ls) (k:=k) G
    have hm':=get_map (g:=BB) X;have hmb:=Ak (co X)
    have hne:EX mv dist at' k (d - 1)≠[]:=λe=>by rw [e] at b;simp at b
    have hN2:=K.next hg hG hdp (l:=m) (co X) (at2:=EX mv dist at' k (d - 1)) (by rw [p];exact hacK) hne (λy=>by
     rw [hcm at' k (d - 1) m X q y]) (λm' hm' hlt=>by
     rintro⟨x,A,y,hy,hdy⟩;obtain⟨j,hj⟩:=hlx m' hm';have hjk:=Zv (Dq n.ls 6) hj X hlt;have P:=(hcm at' j (d - 1) m' hj q y).2 ⟨x,A,hy,hdy⟩
     rw [u j hjk] at P;cases P)
    have htl:(CA w).length=w.length:=by simp [CA]
    have htx:CA w++[97+UInt8.ofNat m.toNat]=CA (w++[m]):=by simp [CA]
    refine aE ?_;(repeat first|(refine sA rfl ?_ ?_;first|exact tI|omega|simp only[oZ] at *;omega) |(refine s4 rfl ‹_› rfl ?_ ?_;omega) |refine sP rfl (LF m (by omega) (by omega)) rfl ?_ |refine aU rfl ?_ |refine Aa ?_);refine⟨⟨(w++[m],EX mv dist at' k (d - 1),d - 1),hN2⟩,by dsimp only;omega,[],?_⟩;simp[cX,zC,a,htx]
  ·obtain rfl:d=0:=by (simp only[oZ] at *;omega)
   have J:=K.kU hg hG;have V:=Ch.unique hr J;subst V;(repeat' first|refine tA rfl ?_ |refine s2 rfl λ_ b=>?_ |refine aU rfl ?_ |refine Aa ?_|(refine aC rfl ?_ ?_<;>rintro⟨⟩)|refine aK ?_|refine aE ?_|refine aB ?_|refine aR ⟨_,rfl,?_⟩)
   all_goals first
    | (subst b;rfl)
abbrev TR(r:Option (List Int)):List UInt8:=(r.map CA).getD []
abbrev Je(r:Option (List Int)):E:=.t [(false,[.d (tD (TR r))]),(false,[.d (bD r.isSome)])]
theorem bU(r:Option (List Int)):gU r=Je r:=by cases r<;>rfl
noncomputable def Cu(g:Gr):Option (List Int):=Classical.choose (NJ g)
theorem CM(g:Gr):Ch g (Cu g):=Classical.choose_spec (NJ g)
theorem Nx{g:Gr}{r:Option (List Int)}(h:Ch g r):Cu g=r:=Ch.unique (CM g) h
def DO(s:Sys)(a p:AX):Net:=⟨[s],[a,p],[0,0,0],FV .i64 s.al a.al,2,0⟩
def Df(s:Sys)(a p:AX):Bool:=AZ s && AE a && AE p
noncomputable def EE(s:Sys)(a p:AX):Option (List Int):=if Df s a p then Cu (DJ (DO s a p)) else none
noncomputable def LB(s:Sys)(a p:AX):Bool:=Df s a p && !(EE s a p).isSome
def LO(l:List Sys)(n:Int):Int:=l.foldl (λn s=>FV .i64 n s.al) n
def Bc(l:List Sys):Bool:=decide (1<=l.length/\l.length<=3) && l.all AZ
def BI(l:List Sys):Int:=if Bc l then LO l 0 else -1
def CO(l:List Sys)(p:AX):Net:=⟨l,[p],List.replicate (l.length+1) 0,BI l,3,0⟩
noncomputable def CW(l:List Sys)(p:AX):Option (List Int):=if Bc l && AE p then Cu (DJ (CO l p)) else none
noncomputable def EK(l:List Sys)(p:AX):Bool:=Bc l && AE p && !(CW l p).isSome
def BL(s:Sys)(p:AX)(t:Sys):Int:=if AZ s && AE p && AZ t then Jg .i64 (FV .i64 s.al p.al) t.al else -1
noncomputable def It(s t:Sys)(p a:AX):Int:=
 if BL s p t < 0\/AE a=false then 1 else if a.al≠BL s p t then 2 else if LB s a p=false then 3 else if EK [t] a=false then 4 else 0
theorem Nh{a b:Nat}(ha:a < 64)(hb:b < 64):FV .i64 a b=((a ||| b:Nat):Int)/\a ||| b < 64:=by
 have d:a ||| b < 64:=nK (n:=6) ha hb;refine⟨?_,d⟩;unfold FV
 have c:(BitVec.ofInt IntKind.i64.bits (a:Int) ||| BitVec.ofInt IntKind.i64.bits (b:Int)).toNat=a ||| b:=by
  have e:IntKind.i64.bits=64:=rfl;rw [e];simp only [BitVec.toNat_or,BitVec.ofInt_natCast,BitVec.toNat_ofNat];rw [lW (by omega),lW (by omega)]
 rw [c];exact IntWalk.i64_in _ (by omega)
theorem Km{a b:Int}(ha:Bm a=true)(hb:Bm b=true):Bm (FV .i64 a b)=true:=by
 unfold Bm at *;simp only [decide_eq_true_eq] at *;have c:=Nh (a:=a.toNat) (b:=b.toNat) (by omega) (by omega)
 have e:((a.toNat:Nat):Int)=a:=by omega
 have d:((b.toNat:Nat):Int)=b:=by omega
 rw [e,d] at c;omega
theorem MD:∀ {l:List Sys} {n:Int},l.all AZ=true->Bm n=true->Bm (LO l n)=true
 | [],_,_,a=>a
 | s::l,n,h,a=>by
  simp only [List.all_cons,d4] at h;exact MD (l:=l) h.2 (Km a (AQ h.1).1)
theorem QS{s:Sys}{a p:AX}(h:Df s a p=true):Dm (DO s a p)/\YP (DO s a p)/\Fits (Ag (DO s a p)) (DO s a p).st:=by
 unfold Df at h;simp only [d4] at h;obtain⟨⟨e,d⟩,c⟩:=h;have i:=AQ e;have g:=Ay d;have f:=Ay c;refine⟨⟨λx b=>by simp [DO] at b;subst b;exact e,λx b=>by simp [DO] at b;rcases b with rfl|rfl;exact d;exact c,by simp [DO],by simp [DO]⟩,⟨λ_=>by simp [DO],λ_=>by simp [DO]⟩,?_⟩
 show Fits [s.st,(a.nx.length:Int),(p.nx.length:Int)] [0,0,0]
 exact .cons (by omega) (by omega) (.cons (by omega) (by omega) (.cons (by omega) (by omega) .nil))
theorem Ls:∀ {zs:List Int},(∀z∈zs,0 < z)->Fits zs (List.replicate zs.length 0)
 | [],_=>.nil
 | z::zs,h=>by
  rw [l7,nZ];exact .cons (by omega) (h z (by simp)) (Ls λx a=>h x (by simp [a]))
theorem QR{l:List Sys}{p:AX}(h:(Bc l && AE p)=true):Dm (CO l p)/\YP (CO l p)/\Fits (Ag (CO l p)) (CO l p).st:=by
 rw [d4] at h;obtain⟨a,g⟩:=h;unfold Bc at a;simp only [d4,decide_eq_true_eq,gc] at a
 have c:Dm (CO l p):=⟨a.2,λx b=>by simp [CO] at b;subst b;exact g,a.1.2,by simp [CO]⟩
 refine⟨c,⟨λ_=>by simp [CO],λh=>by simp [CO] at h⟩,?_⟩
 have d:=Ls (zs:=Ag (CO l p)) λz e=>by have:=Fz c z e;omega
 have f:(Ag (CO l p)).length=l.length+1:=by simp [Ag,CO]
 rw [f] at d;exact d
end Go.Am
namespace Go.Am
open Go
def BE:List Int->Nat
 | []=>0
 | x::l=>2 ^ x.toNat+BE l
theorem OA:∀(l m:List Int),BE (l++m)=BE l+BE m
 | [],m=>by simp [BE]
 | x::l,m=>by simp [BE,OA l m,lX]
theorem KN:∀ {l:List Int} {t:Nat},l.Pairwise (· < ·)->(∀x∈l,0<=x/\x < t)->BE l < 2 ^ t
 | [],t,_,_=>oW t
 | x :: l,t,f,h=>by
  have key:∀(l:List Int) (a t:Nat),(∀x∈l,(a:Int)<=x/\x < t)->l.Pairwise (· < ·)->a<=t->2 ^ a+BE l<=2 ^ t:=by
   intro l
   induction l with
   | nil=>intro a t _ _ c;simpa [BE] using mE (by omega) c
   | cons y l i=>
    intro a t h f c;have d:=h y (by simp);have b:=ma.1 f;have g:=i (y.toNat+1) t (λx e=>by have:=b.1 x e;have:=h x (by simp [e]);omega) b.2 (by omega);have j:2 ^ a<=2 ^ y.toNat:=mE (by omega) (by omega);rw [og] at g;simp only [BE];omega
  have e:=h x (by simp);have b:=ma.1 f;have g:=key l (x.toNat+1) t (λy d=>by have:=b.1 y d;have:=h y (by simp [d]);omega) b.2 (by omega);rw [og] at g;simp only [BE];have:=oW x.toNat;omega
theorem dC{l:List Int}{t:Nat}(b:l.Pairwise (· < ·))(h:∀x∈l,0<=x/\x < t):BE l ||| 2 ^ t=BE (l++[(t:Int)]):=by
 have c:=KN b h;rw [OA];have a:=Nat.two_pow_add_eq_or_of_lt c 1;simp only [pE] at a;rw [Nat.or_comm,<-a];simp [BE];omega
theorem RQ:∀(k m:Nat),(2 ^ k*(2*m+1)) &&& (2 ^ k*(2*m+1) - 1)=2 ^ k*(2*m)
 | 0, m=>by
  apply mU;intro i
  cases i with
  | zero=>simp
  | succ i=>
   simp only [Nat.pow_zero,Nat.one_mul,Nat.add_sub_cancel]
   have c:(2*m+1) / 2=m:=by omega
   have b:2*m / 2=m:=by omega
   rw [oX,ng,ng,c,b];simp
 | k + 1,m=>by
  have d:=RQ k m;have e:0 < 2 ^ k*(2*m+1):=Nat.mul_pos (oW k) (by omega)
  have h:2 ^ (k+1)*(2*m+1)=2*(2 ^ k*(2*m+1)):=by rw [og,oc (2 ^ k) 2,Nat.mul_assoc]
  have g:2 ^ (k+1)*(2*m)=2*(2 ^ k*(2*m)):=by rw [og,oc (2 ^ k) 2,Nat.mul_assoc]
  rw [h,g,<-d];generalize 2 ^ k*(2*m+1)=a at e;apply mU;intro i
  cases i with
  | zero=>simp
  | succ i=>
   have c:2*a / 2=a:=by omega
   have b:(2*a - 1) / 2=a - 1:=by omega
   have f:2*(a &&& (a - 1)) / 2=a &&& (a - 1):=by omega
   rw [oX,ng,ng,ng,c,b,f,oX]
theorem OB:∀ {l:List Int} {k:Nat},l.Pairwise (· < ·)->(∀x∈l,(k:Int) < x)->∃m,BE l=2 ^ k*(2*m)
 | [],k,_,_=>⟨0,by simp [BE]⟩
 | x :: l,k,c,h=>by
  have a:=ma.1 c;have f:=h x (by simp)
  obtain⟨m,d⟩:=OB (l:=l) (k:=k) a.2 λy b=>by have:=a.1 y b;omega
  refine⟨2 ^ (x.toNat - k - 1)+m,?_⟩
  have e:x.toNat=k+(1+(x.toNat - k - 1)):=by omega
  have:2 ^ x.toNat=2 ^ k*(2*2 ^ (x.toNat - k - 1)):=by
   conv=>lhs;rw [e,Nat.pow_add,Nat.pow_add]
  simp only [BE,d,this,<-Nat.mul_add]
theorem LW{x:Int}{l:List Int}(d:(x::l).Pairwise (· < ·))(e:0<=x):∃m,BE (x::l)=2 ^ x.toNat*(2*m+1)/\BE l=2 ^ x.toNat*(2*m):=by
 have a:=ma.1 d
 obtain⟨m,b⟩:=OB (l:=l) (k:=x.toNat) a.2 λy c=>by have:=a.1 y c;omega
 exact⟨m,by simp only [BE,b];rw [Nat.mul_add];omega,b⟩
theorem Yu{x:Int}{l:List Int}(a:(x::l).Pairwise (· < ·))(d:0<=x):BE (x::l) &&& (BE (x::l) - 1)=BE l:=by
 obtain⟨m,c,b⟩:=LW a d;rw [c,b,RQ]
theorem IH{x:Int}{l:List Int}:0 < BE (x::l):=by
 simp only [BE];have:=oW x.toNat;omega
theorem Tj{x:Int}{l:List Int}(d:(x::l).Pairwise (· < ·))(f:0<=x)(a:BE (x::l) < 2 ^ 64):Lib.ctz 64 (BE (x::l))=x.toNat:=by
 obtain⟨m,c,_⟩:=LW d f;have e:=Lib.lowest_bit 64 _ (by have:=IH (x:=x) (l:=l);omega) a;have b:=Lib.and_neg 64 x.toNat m (by rw [<-c];exact a);rw [<-c,e.1] at b;exact(Nat.pow_right_inj (by omega)).1 b
end Go.Am
namespace Go.Am
open Go Go.Proofs
set_option maxHeartbeats 1000000
set_option maxRecDepth 4000
attribute [local irreducible] AW BQ Lex A9 Aj Spec
variable {TB:Bp}
theorem dK(i:Nat)(h:i < 64):Bt[i]? = some (.int .u8 (Lib.deBruijn64tab.getD i 0:Nat)):=by
 have e:Bt=Lib.deBruijn64tab.map λn=>Value.int .u8 (n:Nat):=rfl;have a:Lib.deBruijn64tab.length=64:=rfl;rw [e,ge,d5 (by omega)];simp [List.getD,a,h]
theorem gp(x a:Nat)(j:x < 18446744073709551616)(d:x≠0)(b:x &&& (18446744073709551616 - x)=a) :
 (IntKind.u64.wrap (Jg .u64 (x:Int) (IntKind.u64.wrap (-(x:Int)))*285870213051353865)).fdiv (2 ^ (min (58:Int).toNat IntKind.u64.bits))=((a*285870213051353865 % 18446744073709551616 / 288230376151711744:Nat):Int):=by
 have c:∀n:Int,IntKind.u64.wrap n=n % 18446744073709551616:=λn=>by simp [IntKind.wrap,IntKind.signed,IntKind.bits]
 have i:IntKind.u64.wrap (-(x:Int))=((18446744073709551616 - x:Nat):Int):=by rw [c];omega
 have h:Jg .u64 (x:Int) ((18446744073709551616 - x:Nat):Int)=(a:Int):=by
  unfold Jg;have e:IntKind.u64.bits=64:=rfl;rw [e]
  have f:(BitVec.ofInt 64 (x:Int) &&& BitVec.ofInt 64 ((18446744073709551616 - x:Nat):Int)).toNat=a:=by
   simp only [BitVec.toNat_and,BitVec.ofInt_natCast,BitVec.toNat_ofNat];rw [lW (by omega),lW (by omega),b]
  rw [f,c]
  have k:a<=x:=by rw [<-b];exact oY
  omega
 rw [i,h,c];have g:(2:Int) ^ (min (58:Int).toNat IntKind.u64.bits)=288230376151711744:=rfl;rw [g,Int.fdiv_eq_ediv_of_nonneg _ (by omega)];omega
theorem dP[Dx TB](x:Nat)(d:x≠0)(f:x < 18446744073709551616):Pure Tryz.prog TB 295 [eI .u64 x] (eI .i64 (Lib.ctz 64 x)):=by
 obtain⟨b,hk⟩:=Lib.lowest_bit 64 x d f;obtain⟨hi,a⟩:=Lib.deBruijn64_at _ hk;have c:=gp x _ f d b;have e:=dK _ hi;rw [a] at e;generalize Lib.ctz 64 x=cz at *;generalize 2 ^ cz*285870213051353865 % 18446744073709551616 / 288230376151711744=idx at *;refine eN Tryz.func295 rfl (by kernel_rfl) rfl ?_;intro Z g;(repeat' first|(refine sA rfl ?_ ?_;first|exact tI|omega) |refine s2 rfl λ_ h=>?_|(refine Ai rfl ?_;refine gA rfl ?_;first| refine gS (λ_ _=>SW rfl rfl) ?_|refine gS (λ_ _=>en rfl rfl rfl) ?_) |refine aU rfl ?_ |refine Aa ?_|(refine aC rfl ?_ ?_<;>rintro⟨⟩)|refine aK ?_|refine aE ?_|refine aB ?_|refine aR ⟨_,rfl,?_⟩)
 ·exfalso;(simp only[oZ] at *;omega)
 rw [c];clear c b a;(repeat' first|(refine sA rfl ?_ ?_;first|exact tI|omega)|(refine Ai rfl ?_;refine gA rfl ?_;first| refine gS (λ_ _=>av (v:=.int .u8 ((cz:Nat):Int)) rfl (by omega) (by omega) (by rw [i9];exact e)) ?_) |refine Aa ?_|(refine aC rfl ?_ ?_<;>rintro⟨⟩)|refine aK ?_|refine aE ?_|refine aB ?_|refine aR ⟨_,rfl,?_⟩);rfl
theorem er[Dx TB](x:Nat)(a:x≠0)(c:x < 18446744073709551616):Pure Tryz.prog TB 279 [eI .u64 x] (eI .i64 (Lib.ctz 64 x)):=by
 refine eN Tryz.func279 rfl (by kernel_rfl) rfl ?_;intro Z b;(repeat' first|refine tA rfl ?_ |refine sP rfl (dP x a c) rfl ?_ |refine aU rfl ?_ |refine Aa ?_|(refine aC rfl ?_ ?_<;>rintro⟨⟩)|refine aK ?_|refine aE ?_|refine aB ?_|refine aR ⟨_,rfl,?_⟩)
 all_goals rfl
theorem PC{x:Int}{l:List Int}(b:(x::l).Pairwise (· < ·))(g:0<=x)(c:BE (x::l) < 2 ^ 62):Jg .i64 (BE (x::l):Nat) ((BE (x::l):Nat) - 1)=(BE l:Nat):=by
 have f:=Yu b g;have j:=IH (x:=x) (l:=l);have i:BE l<=BE (x::l):=Nat.le_add_left _ _;generalize BE (x::l)=a at *
 have h:((a:Nat):Int) - 1=((a - 1:Nat):Int):=by omega
 rw [h];unfold Jg;have e:IntKind.i64.bits=64:=rfl;rw [e]
 have d:(BitVec.ofInt 64 (a:Int) &&& BitVec.ofInt 64 ((a - 1:Nat):Int)).toNat=BE l:=by
  simp only [BitVec.toNat_and,BitVec.ofInt_natCast,BitVec.toNat_ofNat];rw [lW (by omega),lW (by omega),f]
 rw [d];exact IntWalk.i64_in _ (by omega)
theorem Uy[Dx TB](l:List Int)(v:l.Pairwise (· < ·))(hb:∀x∈l,0<=x/\x < 60):Pure Tryz.prog TB 286 [eI .i64 (BE l:Nat)] (Av l):=by
 have w:l.length<=60:=by
  cases l with
  | nil=>simp
  | cons a m=>
   have A:=NQ m a 60 v λx d=>(hb x d).2;have z:=hb a (by simp);simp;omega
 refine eN Tryz.func286 rfl (by kernel_rfl) rfl ?_;intro Z c;(repeat first|refine sN rfl ?_ |((first|refine sM rfl ?_ ?_|refine s4 rfl ‹_› rfl ?_ ?_);first|exact tI|omega|simp only[oZ] at *;omega) |refine s2 rfl λ_ b=>?_ |refine s3 rfl ?_ ?_<;>rintro rfl |refine aU rfl ?_ |refine Aa ?_ |refine rE (by kernel_rfl) ?_);(refine Ai rfl ?_;refine Cv (λ_ _=>Cy rfl) rfl ?_);(repeat first|refine sN rfl ?_ |((first|refine sM rfl ?_ ?_|refine s4 rfl ‹_› rfl ?_ ?_);first|exact tI|omega|simp only[oZ] at *;omega) |refine s2 rfl λ_ b=>?_ |refine s3 rfl ?_ ?_<;>rintro rfl |refine aU rfl ?_ |refine Aa ?_ |refine rE (by kernel_rfl) ?_);(refine pW rfl ?_ rfl (by rfl);refine Gx 1 3 ?_);(repeat first|refine sN rfl ?_ |((first|refine sM rfl ?_ ?_|refine s4 rfl ‹_› rfl ?_ ?_);first|exact tI|omega|simp only[oZ] at *;omega) |refine s2 rfl λ_ b=>?_ |refine s3 rfl ?_ ?_<;>rintro rfl |refine aU rfl ?_ |refine Aa ?_ |refine rE (by kernel_rfl) ?_);refine aB ?_;refine Aj.A6 (α:={k:Nat // k<=l.length}) (λ⟨k,hk⟩=>[(0,eI .i64 (BE (l.drop k):Nat)),(3,.o (.arr 0 1 0 k))]) (λ⟨k,hk⟩=>[(0,.cells 3 1 ((l.take k).map AP))]) 1 (λ⟨k,hk⟩=>l.length - k) (⟨0,by omega⟩) [0] (Ea c rfl rfl) (by ((repeat' first|exact tI|rfl|refine And.intro ?_ ?_)<;>(simp[cX,zC,c]))) ?_;rintro⟨k,hk⟩;(try dsimp only);(repeat first|refine sN rfl ?_ |((first|refine sM rfl ?_ ?_|refine s4 rfl ‹_› rfl ?_ ?_);first|exact tI|omega|simp only[oZ] at *;omega) |refine s2 rfl λ_ b=>?_ |refine s3 rfl ?_ ?_<;>rintro rfl |refine aU rfl ?_ |refine Aa ?_ |refine rE (by kernel_rfl) ?_);(refine aC rfl ?_ ?_<;>rintro⟨⟩)
 ·have s:k < l.length:=by
   rcases l9 k l.length with h|h
   ·exact h
   ·rw [mH h] at b;simp [BE] at b
  obtain⟨x,d⟩:=get_some s;have n:=BA d;have j:=hb x (co d)
  have g:(x::l.drop (k+1)).Pairwise (· < ·):=by rw [<-n];exact v.sublist (List.drop_sublist _ _)
  have q:BE (x::l.drop (k+1)) < 2 ^ 60:=by
   refine KN g λy t=>?_;rw [<-n] at t;exact hb y (mK t)
  have f:=IH (x:=x) (l:=l.drop (k+1));have p:=Tj g j.1 (by omega);have i:=PC g j.1 (by omega);rw [<-n] at q f p i;have e:=er (TB:=TB) (BE (l.drop k)) (by omega) (by omega);rw [p] at e
  have ex:((x.toNat:Nat):Int)=x:=by omega
  rw [ex] at e;refine aK ?_;refine aS (aB ?_);(repeat first|refine sN rfl ?_ |((first|refine sA rfl ?_ ?_|refine s4 rfl ‹_› rfl ?_ ?_);first|exact tI|omega|simp only[oZ] at *;omega) |refine s2 rfl λ_ b=>?_ |refine sP rfl (e) rfl ?_ |refine s3 rfl ?_ ?_<;>rintro rfl |refine aU rfl ?_ |refine Aa ?_ |refine rE (by kernel_rfl) ?_);(refine pW rfl ?_ rfl (by rfl);refine Aw rfl rfl rfl (by first| (simp;done)|(simp;(first|omega|simp only[oZ] at *;omega))) rfl (by intro r u;simp at u;subst u;rfl) (by rfl) (am rfl) (by simp;first|omega|simp only[oZ] at *;omega) ?_);(repeat first|refine sN rfl ?_ |((first|refine sX rfl ?_ ?_|refine s4 rfl ‹_› rfl ?_ ?_);first|exact tI|omega|simp only[oZ] at *;omega) |refine s2 rfl λ_ b=>?_|(refine Ai rfl ?_;refine gA rfl ?_;first| refine gS (λ_ _=>ei rfl rfl i) ?_) |refine s3 rfl ?_ ?_<;>rintro rfl |refine aU rfl ?_ |refine Aa ?_ |refine rE (by kernel_rfl) ?_);refine⟨⟨k+1,by first|omega|simp only[oZ] at *;omega⟩,by dsimp only;(first|omega|simp only[oZ] at *;omega),[1],?_⟩;simp[cX,zC,c,i,gt,d]
 ·obtain rfl:k=l.length:=by
   rcases l9 k l.length with h|h
   ·exfalso
    obtain⟨x,d⟩:=get_some h;have n:=BA d;have f:=IH (x:=x) (l:=l.drop (k+1));rw [<-n] at f
    first|omega|simp only[oZ] at *;omega
   ·omega
  rw [i7];refine aE ?_;(repeat first|refine sN rfl ?_ |((first|refine sX rfl ?_ ?_|refine s4 rfl ‹_› rfl ?_ ?_);first|exact tI|omega|simp only[oZ] at *;omega) |refine s2 rfl λ_ b=>?_ |refine s3 rfl ?_ ?_<;>rintro rfl |refine aU rfl ?_ |refine Aa ?_ |refine rE (by kernel_rfl) ?_);refine Aj.freeze [0] [(2,Av l)] ⟨⟨_,rfl,.o (.full (by simp) rfl (by simp [d6]) (by simp))⟩,trivial⟩ ?_;refine aR ⟨_,rfl,rfl⟩
theorem Rr(r:Nat->Nat):∀ds:List D,C.Cj r (ds.map .d)=ds.map .d
 | []=>rfl
 | d::l=>by simp [C.Cj,C.A7,Rr r l]
def Lh(es:List Ec)(f l:Nat):List Int:=(es.filter λe:Ec=>decide (e.f=(f:Int)) && decide (e.l=(l:Int))).map (·.t)
def E8(es:List Ec):List D:=(List.range 96).map λi=>iD (BE (Lh es (i / 6) (i % 6)):Nat)
theorem IW{es:List Ec}{i:Nat}(h:i < 96):(E8 es)[i]? = some (iD (BE (Lh es (i / 6) (i % 6)):Nat)):=by simp [E8,h]
theorem WZ(es:List Ec)(e:Ec)(f l:Nat):Lh (es++[e]) f l=Lh es f l++if e.f=(f:Int)/\e.l=(l:Int) then [e.t] else []:=by
 simp only [Lh,mB,mn,nX,List.filter_nil];grind
theorem HF{r:List C}{j:Nat}{c:C}(h:j < r.length):Af r j [c]=r.set j c:=by
 unfold Af;rw [List.set_eq_take_append_cons_drop,if_pos h];simp
theorem UA{es:List Ec}{e:Ec}{v:Int}(k:0<=e.f/\e.f < 16)(j:0<=e.l/\e.l < 6)(b:v=(BE (Lh (es++[e]) e.f.toNat e.l.toNat):Nat)) :
 Af ((E8 es).map .d) (0+e.f.toNat*6+e.l.toNat*1) (eC (eI .i64 v))=(E8 (es++[e])).map .d:=by
 have h:0+e.f.toNat*6+e.l.toNat*1 < 96:=by omega
 have:eC (eI .i64 v)=[C.d (iD v)]:=rfl;rw [this,HF (by simp [E8];omega),<-mx];congr 1;apply mZ;intro i;by_cases hi:i < 96
 ·rw [IW hi]
  by_cases a:0+e.f.toNat*6+e.l.toNat*1=i
  ·subst a
   rw [mf (by simp [E8];omega),b]
   have g:(0+e.f.toNat*6+e.l.toNat*1) / 6=e.f.toNat:=by omega
   have c:(0+e.f.toNat*6+e.l.toNat*1) % 6=e.l.toNat:=by omega
   rw [g,c]
  ·rw [mg a,IW hi,WZ,if_neg (by omega),l8]
 ·rw [lQ (by simp [E8];omega),lQ (by simp [E8];omega)]
theorem ES{s:Sys}(h:AZ s=true)(k f l:Nat):(Lh (s.es.take k) f l).Pairwise (· < ·):=by
 unfold Lh;rw [mY];refine List.Pairwise.imp_of_mem (λ{a b} ha hb c=>?_) (((KQ h).sublist (List.take_sublist k s.es)).filter _);have e:=(lJ.1 ha).2;have d:=(lJ.1 hb).2;unfold Jd at c;grind
theorem Mc{s:Sys}(h:AZ s=true){k f l:Nat}{x:Int}(a:x∈Lh (s.es.take k) f l):0<=x/\x < 16:=by
 unfold Lh at a;obtain⟨e,b,rfl⟩:=d8.1 a;have c:=ER h (lU (lJ.1 b).1);have d:=AQ h;unfold Ek at c;grind
theorem Yz{s:Sys}{f l:Nat}(hb:AR s.al l=true):Lh s.es f l=BF s f l:=by
 unfold Lh BF;rw [if_pos (by simpa using hb)]
theorem cG{a t:Nat}(ha:a < 2 ^ 16)(ht:t < 16):FV .i64 (a:Nat) ((2 ^ t:Nat):Int)=((a ||| 2 ^ t:Nat):Int):=by
 have b:2 ^ t < 2 ^ 16:=Nat.pow_lt_pow_right (by omega) ht;have d:a ||| 2 ^ t < 2 ^ 16:=nK ha b;unfold FV
 have c:(BitVec.ofInt IntKind.i64.bits (a:Int) ||| BitVec.ofInt IntKind.i64.bits ((2 ^ t:Nat):Int)).toNat=a ||| 2 ^ t:=by
  have e:IntKind.i64.bits=64:=rfl;rw [e];simp only [BitVec.toNat_or,BitVec.ofInt_natCast,BitVec.toNat_ofNat];rw [lW (by omega),lW (by omega)]
 rw [c];exact IntWalk.i64_in _ (by omega)
theorem dE{t:Int}(d:0<=t)(c:t < 16):IntKind.i64.wrap (1*2 ^ (min t.toNat IntKind.i64.bits))=((2 ^ t.toNat:Nat):Int):=by
 have e:min t.toNat IntKind.i64.bits=t.toNat:=by
  have:IntKind.i64.bits=64:=rfl;omega
 rw [e,pD];have b:2 ^ t.toNat < 2 ^ 16:=Nat.pow_lt_pow_right (by omega) (by omega)
 have a:(2:Int) ^ t.toNat=((2 ^ t.toNat:Nat):Int):=by push_cast;rfl
 rw [a];generalize 2 ^ t.toNat=p at *;exact IntWalk.i64_in _ (by omega)
theorem N7(s:Sys)(h:AZ s=true):Pure Tryz.prog TB 177 [BN s] (.o (.ip (E8 s.es))):=by
 refine eN Tryz.func177 rfl (by kernel_rfl) rfl ?_;intro Z i;(repeat first|refine sN rfl ?_ |refine tA rfl ?_ |refine aU rfl ?_ |refine Aa ?_);refine Aj.bound 8 rfl λG=>?_;have R:=G (s.es.map EA) .refl;refine aB ?_;refine Aj.A6 (α:={k:Nat // k<=s.es.length}) (λ⟨k,hk⟩=>[(3,.o (.ptr 0 96 0 0)),(8,dW s.es),(9,eI .i64 s.es.length),(10,eI .i64 k)]) (λ⟨k,hk⟩=>[(0,.cells 237 96 [(E8 (s.es.take k)).map .d])]) 1 (λ⟨k,hk⟩=>s.es.length - k) (⟨0,by omega⟩) [0] (Ea i rfl rfl) (by (repeat' first|exact tI|rfl|refine And.intro ?_ ?_)) ?_;rintro⟨k,hk⟩;(try dsimp only);(repeat first|refine s2 rfl λ_ P=>?_ |refine aU rfl ?_ |refine Aa ?_);(refine aC rfl ?_ ?_<;>rintro⟨⟩)
 ·obtain⟨e,F⟩:=get_some (l:=s.es) (k:=k) (by (simp only[oZ] at *;omega))
  have L:=get_map (g:=EA) F;have c:=ER h (co F);have Q:=AQ h;unfold Ek at c;simp only [d4,decide_eq_true_eq] at c;obtain⟨⟨B,K,v,J,A,z⟩,H⟩:=c
  have p:0+e.f.toNat*6+e.l.toNat*1+1<=96:=by omega
  have j:=dE v (by omega)
  have b:s.es.take (k+1)=s.es.take k++[e]:=by rw [gt,F];rfl
  have r:Lh (s.es.take (k+1)) e.f.toNat e.l.toNat=Lh (s.es.take k) e.f.toNat e.l.toNat++[e.t]:=by
   rw [b,WZ,if_pos (by omega)]
  have q:∀x∈Lh (s.es.take k) e.f.toNat e.l.toNat,0<=x/\x < e.t.toNat:=by
   intro x u;have I:=ES h (k+1) e.f.toNat e.l.toNat;rw [r,mS] at I;have T:=I.2.2 x u e.t (by simp);have S:=Mc h u;omega
  have m:=dC (ES h k e.f.toNat e.l.toNat) q;have w:=KN (t:=16) (ES h k e.f.toNat e.l.toNat) λx u=>Mc h u;have n:=cG w (t:=e.t.toNat) (by omega)
  have et:((e.t.toNat:Nat):Int)=e.t:=by omega
  rw [m,et,<-r,b] at n;have a:=UA (es:=s.es.take k) (e:=e) ⟨B,by omega⟩ ⟨A,z⟩ rfl;rw [<-n] at a
  have y:((E8 (s.es.take k)).map C.d)[0+e.f.toNat*6+e.l.toNat*1]? = some (.d (iD (BE (Lh (s.es.take k) e.f.toNat e.l.toNat):Nat))):=by
   have N:(0+e.f.toNat*6+e.l.toNat*1) / 6=e.f.toNat:=by omega
   have M:(0+e.f.toNat*6+e.l.toNat*1) % 6=e.l.toNat:=by omega
   rw [ge,IW (by omega),N,M];rfl
  refine aK ?_;refine aS (aB ?_);(repeat first|refine tA rfl ?_ |(refine s4 rfl ‹_› rfl ?_ ?_;omega) |refine aU rfl ?_ |refine Aa ?_);refine rG (HQ [16]) (by kernel_rfl) ?_;(repeat first|(refine sA rfl ?_ ?_;first|exact tI|omega)|(refine Ai rfl ?_;refine gA rfl ?_;first| refine gS (λ_ _=>iZ rfl rfl (by omega) j) ?_|refine gQ (Rm rfl rfl rfl y) (by rfl) ?_));(refine Ai rfl ?_;refine He ?_ rfl (by rfl);refine Bs rfl rfl rfl rfl (rfl) rfl (p) ?_);(repeat first|(refine sA rfl ?_ ?_;first|exact tI|simp only[oZ] at *;omega) |refine aU rfl ?_ |refine Aa ?_);refine⟨⟨k+1,by (simp only[oZ] at *;omega)⟩,by dsimp only;((simp only[oZ] at *;omega)),[0],?_⟩;rw [a,<-b];simp[cX,zC,i,List.set_cons_zero,Rr]
 ·obtain rfl:k=s.es.length:=by (simp only[oZ] at *;omega)
  refine aE ?_;rw [i7];(repeat first|refine tM rfl ?_ |refine aU rfl ?_ |refine Aa ?_);refine Aj.freeze [0] [(2,.o (.ip (E8 s.es)))] ⟨⟨_,rfl,.o (.ptr (by simp) rfl rfl rfl)⟩,trivial⟩ ?_;refine aR ⟨_,rfl,rfl⟩
def Ot(h:Nat->Int):List C:=(List.range 6).map λl=>.d (iD (h l))
def UM(h:Nat->Int):List D:=(List.range 6).map λl=>iD (h l)
theorem bg(h:Nat->Int):Ot h=(UM h).map .d:=by simp [Ot,UM]
def Bx{α:Type}(n:Nat)(g:Nat->α):List α:=(List.range n).map g
theorem DA{α:Type}{n q:Nat}{g:Nat->α}(h:q < n):(Bx n g)[q]? = some (g q):=by simp [Bx,h]
theorem LU{α:Type}{n q:Nat}{g:Nat->α}{x:α}:(Bx n g).set q x=Bx n λi=>if i=q then x else g i:=by
 apply mZ;intro i;by_cases hi:i < n
 ·rw [DA hi]
  by_cases a:q=i
  ·subst a;rw [mf (by simp [Bx,hi])];simp
  ·rw [mg a,DA hi,if_neg (Ne.symm a)]
 ·rw [lQ (by simp [Bx];omega),lQ (by simp [Bx];omega)]
theorem CU{α:Type}{n:Nat}{g g':Nat->α}(h:∀i,i < n->g i=g' i):Bx n g=Bx n g':=by
 unfold Bx;exact m9 λi hi=>h i (lN.1 hi)
theorem bh{h:Nat->Int}{l:Nat}{v:Int}(b:l < 6):Af (Ot h) (0+l*1) (eC (eI .i64 v))=Ot λx=>if x=l then v else h x:=by
 have e:eC (eI .i64 v)=[C.d (iD v)]:=rfl;rw [e,HF (by simp [Ot];omega)];have:=LU (n:=6) (q:=l) (g:=λl=>C.d (iD (h l))) (x:=C.d (iD v))
 have a:0+l*1=l:=by omega
 rw [a];refine Eq.trans this (CU λi _=>?_);by_cases e:i=l<;>simp [e]
theorem JJ{h a:Nat->Int}(b:∀l,l < 6->h l=a l):Ot h=Ot a:=CU λi hi=>by rw [b i hi]
theorem Jo(s:Int):∀(n k:Nat),k<=n->AG s k <+: AG s n
  | 0, k, h => by have:k=0:=by omega
                  subst this;exact oM _
  | n + 1,k,h=>by
    rcases l9 k (n+1) with a|a
    · rw [CN]
      exact(Jo s n k (by omega)).trans (pb _ _)
    · have:k=n+1:=by omega
      subst this;exact oM _
theorem Jp{s:Int}{k n:Nat}{l:Int}(h:(AG s n)[k]? = some l):(AG s l.toNat).length=k:=by
 have g:=Ak (co h)
 have c:(AG s (l.toNat+1))[(AG s l.toNat).length]? = some l:=by
  rw [CN,if_pos g.2.2,em (io _)];simp;omega
 have f:(AG s n)[(AG s l.toNat).length]? = some l:=by
  obtain⟨t,ht⟩:=Jo s n (l.toNat+1) (by omega);rw [<-ht,d9 (ce.1 c).1];exact c
 have b:=Dq s n;rw [lI] at b;obtain⟨e,j⟩:=ce.1 h;obtain⟨d,i⟩:=ce.1 f
 rcases ou (AG s l.toNat).length k with a|a|a
 ·have:=b _ _ d e a;omega
 ·exact a
 ·have:=b _ _ e d a;omega
theorem C8{s:Int}{n l:Nat}:(l:Int)∈AG s n↔l < n/\AR s l=true:=by
 unfold AG;simp only [d8,lJ,lN];constructor
 ·rintro⟨a,ha,e⟩
  have:a=l:=by have e:((a:Nat):Int)=l:=e;omega
  subst this;exact ha
 ·intro h;exact⟨l,h,rfl⟩
def OW(n:Nat)(H:Nat->Nat->Int):List (List C):=Bx n λi=>Ot (H i)
theorem I8(r:Nat->Nat)(n:Nat)(H:Nat->Nat->Int):(OW n H).map (C.Cj r)=OW n H:=by
 unfold OW Bx;rw [mr]
 exact m9 λi _=>by simp only [d6,bg,Rr]
theorem bI(n:Nat):OW n (λ_ _=>0)=List.replicate n [C.d (D.v (Value.int IntKind.i64 0)),C.d (D.v (Value.int IntKind.i64 0)),C.d (D.v (Value.int IntKind.i64 0)),C.d (D.v (Value.int IntKind.i64 0)),C.d (D.v (Value.int IntKind.i64 0)),C.d (D.v (Value.int IntKind.i64 0))]:=by
 unfold OW Bx;rw [List.map_const'];simp;exact .inr rfl
theorem WW{n q:Nat}{H:Nat->Nat->Int}(h:q < n):(OW n H)[0+((q:Nat):Int).toNat]? = some (Ot (H q)):=by
 rw [lE,i9];exact DA (g:=λi=>Ot (H i)) h
theorem WX{n q l:Nat}{v:Int}{H:Nat->Nat->Int}(a:l < 6):(OW n H).set (0+((q:Nat):Int).toNat) (Af (Ot (H q)) (0+((l:Nat):Int).toNat*1) (eC (eI .i64 v)))=OW n λi x=>if i=q/\x=l then v else H i x:=by
 rw [lE,i9,i9,bh a];unfold OW;rw [LU];refine CU λi _=>?_;by_cases e:i=q
 ·subst e;rw [if_pos rfl];exact JJ λl _=>by simp
 ·rw [if_neg e];exact JJ λl _=>by simp [e]
theorem Hk{n:Nat}{H H':Nat->Nat->Int}(h:∀i,i < n->∀l,l < 6->H i l=H' i l):OW n H=OW n H':=CU λi hi=>JJ λl a=>h i hi l a
theorem dL(n:Nat)(H:Nat->Nat->Int):(OW n H).length=n:=by simp [OW,Bx]
def DK(a:AX):List (List D):=Bx a.nx.length λq=>UM λl=>Cg a q l
theorem jg(a:AX):OW a.nx.length (λi l=>Cg a i l)=(DK a).map λr=>r.map .d:=by
 unfold OW DK Bx;rw [mr]
 exact m9 λi _=>by simp only [d6,bg]
def ew(a:AX):Prop:=a.nx.length<=64/\∀q,q < a.nx.length->∃row:List Int,a.nx[q]? = some row/\row.length=(Ac a.al).length/\∀(k:Nat) y,row[k]? = some y->0<=y/\y < a.nx.length
theorem bZ{a:AX}(h:AE a=true):ew a:=⟨by have:=Ay h;omega,λq b=>GR h b⟩
theorem Tv(a:AX)(h:ew a):Pure Tryz.prog TB 81 [Bd a] (.o (.d (.l (DK a)))):=by
 have T:=h.1;have Q:(Ac a.al).length<=6:=AN a.al 6;refine eN Tryz.func81 rfl (by kernel_rfl) rfl ?_;intro Z b;(repeat first|refine aU rfl ?_);(refine Ai rfl ?_;refine Cv (λ_ _=>C4 rfl rfl rfl) rfl ?_);(refine Ai rfl ?_;refine Cv (λ_ _=>Cy rfl) rfl ?_);(repeat first|refine sN rfl ?_ |refine tM rfl ?_ |refine aU rfl ?_ |refine Aa ?_);(refine pW rfl ?_ rfl (by rfl);refine N8 rfl rfl (by rfl) (by rfl) (am rfl) (by omega) (by omega) (by omega) ?_);(repeat first|refine sN rfl ?_ |refine tM rfl ?_ |refine sP rfl (Cn a.al) rfl ?_ |refine aU rfl ?_ |refine Aa ?_);refine aB ?_;refine Aj.A6 (α:={q:Nat // q<=a.nx.length}) (λ⟨q,z⟩=>[(1,.o (.ip (AM a))),(3,.o (.arr 0 6 0 a.nx.length)),(4,Av (Ac a.al)),(18,Fi a.nx),(19,eI .i64 a.nx.length),(20,eI .i64 q)]) (λ⟨q,z⟩=>[(0,.cells 109 6 (OW a.nx.length λi l=>if i < q then Cg a i l else 0))]) 1 (λ⟨q,z⟩=>a.nx.length - q) (⟨0,by omega⟩) [0] (Ea b rfl rfl) (by (simp[cX,zC,b,I8,bI])) ?_;rintro⟨q,z⟩;(try dsimp only);(repeat first|refine s2 rfl λ_ u=>?_ |refine aU rfl ?_ |refine Aa ?_);(refine aC rfl ?_ ?_<;>rintro⟨⟩)
 ·have j : q < a.nx.length:=by (simp only[oZ] at *;omega)
  obtain⟨row,K,N,M⟩:=h.2 q j;have P:=get_map (g:=Fs) K;refine aK ?_;refine aS (aB ?_);(repeat first|refine tM rfl ?_ |(refine s4 rfl ‹_› rfl ?_ ?_;omega) |refine aU rfl ?_ |refine Aa ?_);refine aB ?_;refine Aj.A6 (α:={m:Nat // m<=6}) (λ⟨m,B⟩=>[(1,.o (.ip (AM a))),(3,.o (.arr 0 6 0 a.nx.length)),(4,Av (Ac a.al)),(18,Fi a.nx),(19,eI .i64 a.nx.length),(20,eI .i64 q),(5,eI .i64 q),(6,Av row),(25,eI .i64 m)]) (λ⟨m,B⟩=>[(0,.cells 109 6 (OW a.nx.length λi l=>if i < q then Cg a i l else if i=q/\l < m then q else 0))]) 1 (λ⟨m,B⟩=>6 - m) (⟨0,by omega⟩) [0] (Ea b rfl rfl) (by (simp[cX,zC,b,I8])) ?_;rintro⟨m,B⟩;(try dsimp only);(repeat first|refine s2 rfl λ_ u=>?_ |refine aU rfl ?_ |refine Aa ?_);(refine aC rfl ?_ ?_<;>rintro⟨⟩)
  ·have r:m < 6:=by (simp only[oZ] at *;omega)
   have p:0+((m:Nat):Int).toNat*1+1<=6:=by omega
   have I:=WW (H:=λi l=>if i < q then Cg a i l else if i=q/\l < m then q else 0) j;have w:=WX (n:=a.nx.length) (q:=q) (v:=q) (H:=λi l=>if i < q then Cg a i l else if i=q/\l < m then q else 0) r
   have t:(OW a.nx.length λ(i x:Nat)=>if i=q/\x=m then (q:Int) else (λ(i l:Nat)=>if i < q then Cg a i l else if i=q/\l < m then (q:Int) else 0) i x)=OW a.nx.length λi l=>if i < q then Cg a i l else if i=q/\l < m+1 then (q:Int) else 0:=Hk λi _ l _=>by dsimp only;grind
   refine aK ?_;refine aS (aB ?_);(repeat first|(refine sM rfl ?_ ?_;first|exact tI|omega) |refine aU rfl ?_ |refine Aa ?_);(refine Ai rfl ?_;refine He ?_ rfl (by rfl);refine Bs rfl rfl rfl rfl (I) rfl (p) ?_);(repeat first|(refine sM rfl ?_ ?_;first|exact tI|omega) |refine aU rfl ?_ |refine Aa ?_);refine⟨⟨m+1,by omega⟩,by dsimp only;(omega),[0],?_⟩;rw [w,t];simp[cX,zC,b,I8]
  ·obtain rfl:m=6:=by (simp only[oZ] at *;omega)
   have s:=Hk (n:=a.nx.length) (H:=λi l=>if i < q then Cg a i l else if i=q/\l < 6 then (q:Int) else 0) (H':=λi l=>if i < q then Cg a i l else if i=q then (if (l:Int)∈(Ac a.al).take 0 then Cg a q l else (q:Int)) else 0) λi _ l f=>by simp [f]
   rw [s];refine aE ?_;(repeat first|refine sN rfl ?_ |refine tM rfl ?_ |refine aU rfl ?_ |refine Aa ?_);refine aB ?_;refine Aj.A6 (α:={k:Nat // k<=(Ac a.al).length}) (λ⟨k,hk⟩=>[(1,.o (.ip (AM a))),(3,.o (.arr 0 6 0 a.nx.length)),(4,Av (Ac a.al)),(18,Fi a.nx),(19,eI .i64 a.nx.length),(20,eI .i64 q),(5,eI .i64 q),(6,Av row),(35,Av (Ac a.al)),(36,eI .i64 (Ac a.al).length),(37,eI .i64 k)]) (λ⟨k,hk⟩=>[(0,.cells 109 6 (OW a.nx.length λi l=>if i < q then Cg a i l else if i=q then (if (l:Int)∈(Ac a.al).take k then Cg a q l else (q:Int)) else 0))]) 1 (λ⟨k,hk⟩=>(Ac a.al).length - k) (⟨0,by omega⟩) [0] (Ea b rfl rfl) (by (simp[cX,zC,b,I8])) ?_;rintro⟨k,hk⟩;(try dsimp only);(repeat first|refine s2 rfl λ_ u=>?_ |refine aU rfl ?_ |refine Aa ?_);(refine aC rfl ?_ ?_<;>rintro⟨⟩)
   ·obtain⟨l,f⟩:=get_some (l:=Ac a.al) (k:=k) (by (simp only[oZ] at *;omega))
    have R:=get_map (g:=BB) f;have F:=Ak (co f);have A:=Jp f;obtain⟨y,J⟩:=get_some (l:=row) (k:=k) (by (simp only[oZ] at *;omega));have L:=get_map (g:=BB) J
    obtain⟨m,rfl⟩:∃m:Nat,l=m:=⟨l.toNat,by omega⟩
    have G:Cg a q m=y:=by
     unfold Cg;rw [if_pos F.2.2,A];simp [List.getD,K,J]
    have r:m < 6:=by omega
    have p:0+((m:Nat):Int).toNat*1+1<=6:=by omega
    have I:=WW (H:=λi l=>if i < q then Cg a i l else if i=q then (if (l:Int)∈(Ac a.al).take k then Cg a q l else (q:Int)) else 0) j;have w:=WX (n:=a.nx.length) (q:=q) (v:=y) (H:=λi l=>if i < q then Cg a i l else if i=q then (if (l:Int)∈(Ac a.al).take k then Cg a q l else (q:Int)) else 0) r
    have t:(OW a.nx.length λ(i x:Nat)=>if i=q/\x=m then y else (λ(i l:Nat)=>if i < q then Cg a i l else if i=q then (if (l:Int)∈(Ac a.al).take k then Cg a q l else (q:Int)) else 0) i x)=OW a.nx.length λi l=>if i < q then Cg a i l else if i=q then (if (l:Int)∈(Ac a.al).take (k+1) then Cg a q l else (q:Int)) else 0:=Hk λi _ l _=>by
     try dsimp only
     rw [gt,f];by_cases e:i=q
     ·subst e
      by_cases c:l=m
      ·subst c;simp [G]
      ·have S:¬(l:Int)=(m:Int):=by omega
       simp [c,S]
     ·simp [e]
    refine aK ?_;refine aS (aB ?_);(repeat first|refine tM rfl ?_ |(refine s4 rfl ‹_› rfl ?_ ?_;omega) |refine aU rfl ?_ |refine Aa ?_);refine rG (HQ [9]) (by kernel_rfl) ?_;(repeat first|(refine sM rfl ?_ ?_;first|exact tI|omega) |(refine s4 rfl ‹_› rfl ?_ ?_;omega));(refine Ai rfl ?_;refine He ?_ rfl (by rfl);refine Bs rfl rfl rfl rfl (I) rfl (p) ?_);(repeat first|(refine sM rfl ?_ ?_;first|exact tI|omega) |refine aU rfl ?_ |refine Aa ?_);refine⟨⟨k+1,by (simp only[oZ] at *;omega)⟩,by dsimp only;((simp only[oZ] at *;omega)),[0],?_⟩;rw [w,t];simp[cX,zC,b,I8]
   ·obtain rfl:k=(Ac a.al).length:=by (simp only[oZ] at *;omega)
    have s:=Hk (n:=a.nx.length) (H:=λi l=>if i < q then Cg a i l else if i=q then (if (l:Int)∈(Ac a.al).take (Ac a.al).length then Cg a q l else (q:Int)) else 0) (H':=λi l=>if i < q+1 then Cg a i l else 0) λi _ l f=>by
     try dsimp only
     rw [i7];by_cases e:i=q
     ·subst e
      simp only [Nat.lt_irrefl,if_false,if_true,nw];by_cases c:AR a.al l=true
      ·rw [if_pos (C8.2 ⟨f,c⟩)]
      ·rw [if_neg (λh=>c (C8.1 h).2)];unfold Cg;rw [if_neg (by simpa using c)]
     ·by_cases c:i < q
      ·rw [if_pos c,if_pos (by omega)]
      ·rw [if_neg c,if_neg e,if_neg (by omega)]
    rw [s];refine aE ?_;(repeat first|(refine sM rfl ?_ ?_;first|exact tI|omega) |refine aU rfl ?_ |refine Aa ?_);refine⟨⟨q+1,by omega⟩,by dsimp only;(omega),[0],?_⟩;simp[cX,zC,b,I8]
 ·obtain rfl:q=a.nx.length:=by (simp only[oZ] at *;omega)
  have t:=Hk (n:=a.nx.length) (H:=λi l=>if i < a.nx.length then Cg a i l else 0) (H':=λi l=>Cg a i l) λi hi l _=>by rw [if_pos hi]
  rw [t];refine aE ?_;(repeat first|refine tM rfl ?_ |refine aU rfl ?_ |refine Aa ?_);refine Aj.freeze [0] [(2,.o (.d (.l (DK a))))] ⟨⟨_,rfl,.o (.full (by simp) rfl (jg a) (by simp [dL]))⟩,trivial⟩ ?_;refine aR ⟨_,rfl,rfl⟩
theorem Du(a:AX)(h:AE a=true):Pure Tryz.prog TB 81 [Bd a] (.o (.d (.l (DK a)))):=Tv a (bZ h)
abbrev QQ(s:Sys):List D:=[.p (E8 s.es)]
abbrev cU(s:Sys):List C:=[.d (.p (E8 s.es))]
abbrev Ub(l:List Sys):E:=.a [.d (JO l),.d (.l (l.map QQ))]
abbrev Gc(l:List Sys):List D:=[JO l,.l (l.map QQ)]
theorem Mz(l:List Sys)(h:∀s∈l,AZ s=true)(m:l.length<=3):Pure Tryz.prog TB 258 [HP l] (Ub l):=by
 refine Spec.lh 2 256 2 [1] Tryz.func258 rfl (by kernel_rfl) rfl (am rfl) ?_;intro Z b;(repeat first |refine sN rfl ?_ |((first|refine sM rfl ?_ ?_|refine s4 rfl ‹_› rfl ?_ ?_);first|exact tI|omega|simp only[oZ] at *;omega) |refine s2 rfl λ_ a=>?_ |refine s3 rfl ?_ ?_<;>rintro rfl |refine aU rfl ?_ |refine Aa ?_);(refine pW rfl ?_ rfl (by rfl);refine IC 1 1 127 rfl rfl rfl (by rfl) (by rfl) ?_);(repeat first |refine sN rfl ?_ |((first|refine sM rfl ?_ ?_|refine s4 rfl ‹_› rfl ?_ ?_);first|exact tI|omega|simp only[oZ] at *;omega) |refine s2 rfl λ_ a=>?_ |refine s3 rfl ?_ ?_<;>rintro rfl |refine aU rfl ?_ |refine Aa ?_);refine aB ?_;refine Aj.A6 (α:={k:Nat // k<=l.length}) (λ⟨k,hk⟩=>[(2,.o (.ptr 0 2 0 0)),(3,.o (.ptr 2 2 0 0)),(8,HP l),(9,eI .i64 l.length),(10,eI .i64 k)]) (λ⟨k,hk⟩=>[(0,.cells 256 2 [[.d (.l []),.d (.l [])]]),(1,.cells 127 1 ((l.take k).map cU)),(2,.cells 256 2 [[.d (JO l),.arr 1 1 0 k]])]) 3 (λ⟨k,hk⟩=>l.length - k) (⟨0,by omega⟩) [0,1,2] (Ea b rfl rfl) (by ((repeat' first|exact tI|rfl|refine And.intro ?_ ?_)<;>(simp[cX,zC,b,List.set_cons_zero,Af,eC]))) ?_;rintro⟨k,hk⟩;(try dsimp only);(repeat first |refine sN rfl ?_ |((first|refine sM rfl ?_ ?_|refine s4 rfl ‹_› rfl ?_ ?_);first|exact tI|omega|simp only[oZ] at *;omega) |refine s2 rfl λ_ a=>?_ |refine s3 rfl ?_ ?_<;>rintro rfl |refine aU rfl ?_ |refine Aa ?_ |refine rE (by kernel_rfl) ?_);(refine aC rfl ?_ ?_<;>rintro⟨⟩)
 ·obtain⟨x,e⟩:=get_some (l:=l) (k:=k) (by first|omega|simp only[oZ] at *;omega)
  have j:=get_map (g:=AJ) e;have c:=h x (co e);refine aK ?_;refine aS (aB ?_);(repeat first |refine sN rfl ?_ |((first|refine sA rfl ?_ ?_|refine s4 rfl ‹_› rfl ?_ ?_);first|exact tI|omega|simp only[oZ] at *;omega) |refine s2 rfl λ_ a=>?_ |refine s3 rfl ?_ ?_<;>rintro rfl |refine aU rfl ?_ |refine Aa ?_);refine rG (HQ [5,7]) (by kernel_rfl) ?_;(repeat first |refine sN rfl ?_ |((first|refine sA rfl ?_ ?_|refine s4 rfl ‹_› rfl ?_ ?_);first|exact tI|omega|simp only[oZ] at *;omega) |refine s2 rfl λ_ a=>?_ |refine sP rfl (N7 x c) rfl ?_ |refine s3 rfl ?_ ?_<;>rintro rfl |refine aU rfl ?_ |refine Aa ?_ |refine rE (by kernel_rfl) ?_);(refine pW rfl ?_ rfl (by rfl);refine Aw rfl rfl rfl (by first|(simp;done)|(simp;(first|omega|simp only[oZ] at *;omega))) rfl (by intro r f;simp at f;subst f;rfl) (by rfl) (am rfl) (by simp;first|omega|simp only[oZ] at *;omega) ?_);(repeat first |refine sN rfl ?_ |((first|refine sX rfl ?_ ?_|refine s4 rfl ‹_› rfl ?_ ?_);first|exact tI|omega|simp only[oZ] at *;omega) |refine s2 rfl λ_ a=>?_ |refine s3 rfl ?_ ?_<;>rintro rfl |refine aU rfl ?_ |refine Aa ?_ |refine rE (by kernel_rfl) ?_);refine⟨⟨k+1,by first|omega|simp only[oZ] at *;omega⟩,by dsimp only;(first|omega|simp only[oZ] at *;omega),[0,4,2],?_⟩;simp[cX,zC,b,gt,e,Af,eC]
 ·obtain rfl:k=l.length:=by first|omega|simp only[oZ] at *;omega
  refine aE ?_;(repeat first |refine sN rfl ?_ |((first|refine sM rfl ?_ ?_|refine s4 rfl ‹_› rfl ?_ ?_);first|exact tI|omega|simp only[oZ] at *;omega) |refine s2 rfl λ_ a=>?_ |refine s3 rfl ?_ ?_<;>rintro rfl |refine aU rfl ?_ |refine Aa ?_ |refine rE (by kernel_rfl) ?_);rw [i7];refine aR ⟨⟨0,2,0,256,_,[.d (JO l),.arr 1 1 0 l.length],_,rfl,rfl,rfl,.cons .AL (.cons (.full (by simp) rfl (by simp [d6]) (by simp)) .nil),rfl⟩,?_⟩;intro id k i h
  injection h with h;injection h with h;injection h with _ h;exact h.symm
theorem WO(l:List Sys)(h:∀s∈l,AZ s=true)(p:l.length<=3):Pure Tryz.prog TB 263 [Ub l] (eI .i64 (Au (l.map (·.st)))):=by
 have b:∀z∈l.map (·.st),1<=z/\z<=16:=by
  intro z d;obtain⟨s,m,rfl⟩:=d8.1 d;have:=AQ (h s m);omega
 refine eN Tryz.func263 rfl (by kernel_rfl) rfl ?_;intro Z c;(repeat first |refine sN rfl ?_ |((first|refine sM rfl ?_ ?_|refine s4 rfl ‹_› rfl ?_ ?_);first|exact tI|omega|simp only[oZ] at *;omega) |refine s2 rfl λ_ a=>?_ |refine s3 rfl ?_ ?_<;>rintro rfl |refine aU rfl ?_ |refine Aa ?_ |refine rE (by kernel_rfl) ?_);(refine Ai rfl ?_;refine Cv (λ_ _=>C4 rfl rfl rfl) rfl ?_);(repeat first |refine sN rfl ?_ |((first|refine sM rfl ?_ ?_|refine s4 rfl ‹_› rfl ?_ ?_);first|exact tI|omega|simp only[oZ] at *;omega) |refine s2 rfl λ_ a=>?_ |refine s3 rfl ?_ ?_<;>rintro rfl |refine aU rfl ?_ |refine Aa ?_ |refine rE (by kernel_rfl) ?_);refine aB ?_;refine Aj.A6 (α:={k:Nat // k<=l.length}) (λ⟨k,hk⟩=>[(3,eI .i64 (Au ((l.map (·.st)).take k))),(7,HP l),(8,eI .i64 l.length),(9,eI .i64 k)]) (λ⟨k,hk⟩=>[]) 0 (λ⟨k,hk⟩=>l.length - k) (⟨0,by omega⟩) [] (Ea c rfl rfl) (by ((repeat' first|exact tI|rfl|refine And.intro ?_ ?_)<;>(simp[cX,zC,c,Au]))) ?_;rintro⟨k,hk⟩;(try dsimp only);(repeat first |refine sN rfl ?_ |((first|refine sM rfl ?_ ?_|refine s4 rfl ‹_› rfl ?_ ?_);first|exact tI|omega|simp only[oZ] at *;omega) |refine s2 rfl λ_ a=>?_ |refine s3 rfl ?_ ?_<;>rintro rfl |refine aU rfl ?_ |refine Aa ?_ |refine rE (by kernel_rfl) ?_);(refine aC rfl ?_ ?_<;>rintro⟨⟩)
 ·obtain⟨x,e⟩:=get_some (l:=l) (k:=k) (by first|omega|simp only[oZ] at *;omega)
  have j:=get_map (g:=AJ) e;have i:=b x.st (d8.2 ⟨x,co e,rfl⟩)
  have d:(l.map (·.st))[k]? = some x.st:=by simp [e]
  have f:=JI d;have o:=Hf ((l.map (·.st)).take (k+1)) λz d=>b z (lU d)
  have q:(16:Int) ^ ((l.map (·.st)).take (k+1)).length<=4096:=by
   have:((l.map (·.st)).take (k+1)).length<=3:=by simp;omega
   generalize ((l.map (·.st)).take (k+1)).length=n at this
   have:n=0\/n=1\/n=2\/n=3:=by omega
   rcases this with rfl|rfl|rfl|rfl<;>decide
  rw [f] at o;refine aK ?_;refine aS (aB ?_);(repeat first |refine sN rfl ?_ |((first|refine sA rfl ?_ ?_|refine s4 rfl ‹_› rfl ?_ ?_);first|exact tI|omega|simp only[oZ] at *;omega) |refine s2 rfl λ_ a=>?_ |refine s3 rfl ?_ ?_<;>rintro rfl |refine aU rfl ?_ |refine Aa ?_ |refine rE (by kernel_rfl) ?_);refine⟨⟨k+1,by first|omega|simp only[oZ] at *;omega⟩,by dsimp only;(first|omega|simp only[oZ] at *;omega),[],?_⟩;simp[cX,zC,c,f]
 ·obtain rfl:k=l.length:=by first|omega|simp only[oZ] at *;omega
  refine aE ?_;(repeat first |refine sN rfl ?_ |((first|refine sM rfl ?_ ?_|refine s4 rfl ‹_› rfl ?_ ?_);first|exact tI|omega|simp only[oZ] at *;omega) |refine s2 rfl λ_ a=>?_ |refine s3 rfl ?_ ?_<;>rintro rfl |refine aU rfl ?_ |refine Aa ?_ |refine rE (by kernel_rfl) ?_);rw [lm (by simp)];refine aR ⟨_,rfl,rfl⟩
end Go.Am
namespace Go.Am
open Go
def DN:List Int->List (List Int)->List Int
 | _::zs,c::cs=>c.flatMap λq=>(DN zs cs).map λr=>q*Au zs+r
 | _,_=>[0]
theorem ZH:∀ {zs:List Int} {cs:List (List Int)},EW zs cs->∀out:List Int,Gk zs cs out=out.flatMap λo=>(DN zs cs).map λr=>o*Au zs+r:=by
 intro zs cs h
 induction h with
 | nil=>intro out;simp [Gk,DN,Au]
 | @cons z c zs cs _ _ _ a=>
  intro out;rw [Gk,a,List.flatMap_assoc];congr 1;funext o;rw [List.flatMap_map,DN,List.map_flatMap];congr 1;funext q;rw [mr];congr 1;funext r;simp only [d6,Au];rw [mP,m7];omega
theorem PI{zs:List Int}{cs:List (List Int)}(h:EW zs cs):Gk zs cs [0]=DN zs cs:=by
 rw [ZH h];simp
theorem EW.drop{zs:List Int}{cs:List (List Int)}(h:EW zs cs):∀k,EW (zs.drop k) (cs.drop k):=by
 induction h with
 | nil=>intro k;simp;exact .nil
 | cons d c b a=>
  intro k
  cases k with
  | zero=>exact .cons d c b
  | succ k=>exact a k
theorem QM{zs:List Int}{cs:List (List Int)}(h:EW zs cs):(∀v∈DN zs cs,0<=v/\v < Au zs)/\((DN zs cs).length:Int)<=Au zs:=by
 have:=QO h [0] 1 (by simp) (by omega) (by simp);rw [PI h,pD] at this;exact this
theorem XK{zs:List Int}{cs:List (List Int)}{k:Nat}{z:Int}{c:List Int}(a:zs[k]? = some z)(b:cs[k]? = some c):DN (zs.drop k) (cs.drop k)=c.flatMap λq=>(DN (zs.drop (k+1)) (cs.drop (k+1))).map λr=>q*Au (zs.drop (k+1))+r:=by
 rw [BA a,BA b,DN]
theorem UG{zs:List Int}{k:Nat}{z:Int}(a:zs[k]? = some z):Au (zs.drop k)=z*Au (zs.drop (k+1)):=by
 rw [BA a,Au]
theorem Sb:∀ {zs:List Int} {k:Nat} {z:Int} (n:Int),zs[k]? = some z->(Bq zs n)[k]? = some (n / Au (zs.drop (k+1)) % z)
 | [],k,z,n,h=>by simp at h
 | a::zs,0,z,n,h=>by simp at h;subst h;simp [Bq]
 | a::zs,k+1,z,n,h=>by
  rw [Bq,oq,List.drop_succ_cons];exact Sb n (by simpa using h)
theorem LP:∀(zs ws:List Int),Au (zs++ws)=Au zs*Au ws
 | [],ws=>by simp [Au]
 | z::zs,ws=>by simp [Au,LP zs ws,m7]
theorem NH:∀(zs ws:List Int) (n:Int),(∀w∈ws,0 < w)->Bq (zs++ws) n=Bq zs (n / Au ws)++Bq ws n
 | [],ws,n,_=>rfl
 | z::zs,ws,n,h=>by
  have a:=PU h;simp only [mD,Bq,NH zs ws n h,LP];rw [nQ (Au zs),nB (by omega)]
def VI(l:List Sys)(node letter:Int):List (List Int):=l.zipWith (λs q=>BF s q letter) (Bq (l.map (·.st)) node)
theorem Qx{l:List Sys}(h:∀s∈l,AZ s=true)(d:l.length<=3){letter:Int}(g:0<=letter)(f:letter < 6)(node:Int):EW (l.map (·.st)) (VI l node letter):=by
 have b:Dm ⟨l,[],[],0,0,0⟩:=⟨h,λa ha=>(by cases ha),d,by simp⟩
 have c:Ag ⟨l,[],[],0,0,0⟩=l.map (·.st):=by simp [Ag]
 have e:=Ki b node;have:=Hs b e g f;rw [c] at this;unfold Jx at this
 simpa [VI] using this
theorem cg{l:List Sys}{k:Nat}{s:Sys}(a:l[k]? = some s)(node letter:Int):(VI l node letter)[k]? = some (BF s (node / Au ((l.map (·.st)).drop (k+1)) % s.st) letter):=by
 unfold VI;rw [oQ,a,Sb (z:=s.st) node (by simp [a])]
end Go.Am
