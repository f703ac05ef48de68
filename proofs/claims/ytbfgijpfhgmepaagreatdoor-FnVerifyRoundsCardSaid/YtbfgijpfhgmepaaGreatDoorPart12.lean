/-
  The reference's search, the walk.
-/
import Derived.Test.YtbfgijpfhgmepaaGreatDoorPart11
import Derived.Test.YtbfgijpfhgmepaaGreatDoorPart9
import Derived.Lib.TrailingZeros
set_option linter.constructorNameAsVariable false
set_option linter.unusedSectionVars false
set_option linter.unusedSimpArgs false
set_option linter.unusedVariables false
namespace Go.Am
open Go Go.Proofs
set_option maxHeartbeats 1000000
attribute [local irreducible] AX Cb Lex Bh Aj Spec
variable {TB:Bz}
theorem bE{l:List Int}(h:l.Pairwise (· < ·)){i j:Nat}{a b:Int}(hi:l[i]? = some a)(d:l[j]? = some b)(e:a < b):i < j:=by
 obtain⟨g,rfl⟩:=ce.1 hi;obtain⟨f,rfl⟩:=ce.1 d;rw [nn] at h
 rcases qe i j with c|c|c
 ·exact c
 ·subst c;omega
 ·have:=h j i f g c;omega
theorem OU{n:Net}(B:DM n)(hk:dQ n)(U:Fits (Af n) n.st){r:Option (List Int)}(hr:Cy (Eh n) r):Pure Tryz.prog TB 132 [Ml n] (jE r):=by
 have hpr:=Ob B;have hg:=OL B U;have hnp:=B.np;have hna:=B.na;have hzl:=Pu B;have hll:(Ac n.ls).length<=6:=AK n.ls 6;have Q:=Gn B;have hsz:=Wh (TB:=TB) n (by omega);have hmv:=VY (TB:=TB) B (Eh n).N (by show (Aw (Af n)).toNat<=1048576;omega)
 have hpN:Aw (Af n)=(((Eh n).N:Nat):Int):=by show _=(((Aw (Af n)).toNat:Nat):Int);omega
 have hNle:(Eh n).N<=1048576:=by omega
 have t:(Dm n (Eh n).N).length=(Eh n).N:=by simp [Dm]
 have hdec:∀(x:Nat),x < (Eh n).N->Pure Tryz.prog TB 188 [Ak (Af n),eI .i64 x] (Ak (BE (Af n) x)):=λx A=>
  Nj _ _ (by omega) (by omega) (λz hz=>by have:=Q z hz;omega) (by omega)
 have hfnd:∀(x:Nat),Pure Tryz.prog TB 187 [Ml n,Ak (BE (Af n) x),FU (Fk n x)] (eB (CL n (BE (Af n) x) (Fk n x))):=λx=>VX B hk (KV B _) _;have H:=Ua (TB:=TB) (Af n) n.st U (by omega);have hlet:=Ch (TB:=TB) n.ls;have c:=λdist h1 P=>Zo (TB:=TB) (Dm n (Eh n).N) (λi=>CL n (BE (Af n) i) (Fk n i)) dist (Lf B) (by omega) h1 P;refine eN Tryz.func132 rfl (by kernel_rfl) rfl ?_;intro Z a;(repeat first|refine tA rfl ?_ |refine sP rfl (hsz) rfl ?_ |refine aU rfl ?_ |refine Aa ?_);refine aB ?_;refine Aj.A2 (α:={k:Nat // k<=(Af n).length}) (λ⟨k,G⟩=>[(1,.o (.ip (NP n))),(4,Ak (Af n)),(5,eI .i64 (Aw ((Af n).take k))),(6,eI .i64 k)]) (λ⟨k,G⟩=>[]) 0 (λ⟨k,G⟩=>(Af n).length - k) (⟨0,by omega⟩) [] (DV a rfl rfl) (by (simp[cX,zC,a,Aw])) ?_;rintro⟨k,G⟩;(try dsimp only);(repeat first|refine sN rfl ?_ |refine tA rfl ?_ |refine s2 rfl λ_ b=>?_ |refine aU rfl ?_ |refine Aa ?_);(refine aC rfl ?_ ?_<;>rintro⟨⟩)
 ·obtain⟨z,hz⟩:=get_some (l:=Af n) (k:=k) (by (simp only[oZ] at *;omega))
  have hz':=get_map (g:=Bq) hz;have h1:=Ku hz;have P:=HL ((Af n).take (k+1)) λz hz=>Q z (nt hz);have h3:=(U.take (k+1)).2;rw [h1] at P h3;refine aK ?_;refine aS (aB ?_);(repeat first|(refine sA rfl ?_ ?_;first|exact tI|omega) |(refine s4 rfl ‹_› rfl ?_ ?_;omega) |refine aU rfl ?_ |refine Aa ?_);refine⟨⟨k+1,by (simp only[oZ] at *;omega)⟩,by dsimp only;((simp only[oZ] at *;omega)),[],?_⟩;simp[cX,zC,a,h1]
 obtain rfl:k=(Af n).length:=by (simp only[oZ] at *;omega)
 refine aE ?_;rw [io,hpN];generalize p:(Eh n).N=N at *;generalize F:Dm n N=mv at *;(repeat first|refine tM rfl ?_ |refine sP rfl (hmv) rfl ?_ |refine aU rfl ?_ |refine Aa ?_);(refine pW rfl ?_ rfl (by rfl);refine Kt rfl rfl (by rfl) (by rfl) (am rfl) (by omega) (by omega) (by omega) ?_);(repeat first|refine tM rfl ?_ |refine aU rfl ?_ |refine Aa ?_);refine aB ?_;refine Aj.A2 (α:={i:Nat // i<=N}) (λ⟨i,hi⟩=>[(1,.o (.ip (NP n))),(4,Ak (Af n)),(5,eI .i64 N),(7,DF mv),(8,.o (.arr 0 1 0 N)),(9,eI .i64 i)]) (λ⟨i,hi⟩=>[(0,.cells 3 1 ((dl (λj=>if CL n (BE (Af n) (j:Nat)) (Fk n j) then 0 else -1) N i).map AD))]) 1 (λ⟨i,hi⟩=>N - i) (⟨0,by omega⟩) [0] (DV a rfl rfl) (by (simp[cX,zC,a,dl])) ?_;rintro⟨i,hi⟩;(try dsimp only);(repeat first|refine tM rfl ?_ |refine s2 rfl λ_ b=>?_ |refine aU rfl ?_ |refine Aa ?_);(refine aC rfl ?_ ?_<;>rintro⟨⟩)
 ·have v:i < N:=by (simp only[oZ] at *;omega)
  have hd0:=hY (f:=λj=>if CL n (BE (Af n) (j:Nat)) (Fk n j) then 0 else -1) v;have L:=ia (f:=λj=>if CL n (BE (Af n) (j:Nat)) (Fk n j) then 0 else -1) v;have hdl:=bq (f:=λj=>if CL n (BE (Af n) (j:Nat)) (Fk n j) then 0 else -1) (qN v);generalize dl (λj=>if CL n (BE (Af n) (j:Nat)) (Fk n j) then 0 else -1) N i=cur at *;have hd0':=HA (g:=AD) hd0
  have hd1:(cur.set i (-1))[i]? = some (-1):=by simp [hdl,v]
  have hd1':=HA (g:=AD) hd1;rw [<-HP (x:=0)] at hd1'
  have hmi:(mv.map Kh)[((i:Nat):Int).toNat]? = some (Kh (Fk n i)):=by rw [<-F];exact get_map (Kr v)
  refine aK ?_;refine aS (aB ?_);(repeat' first|((first|refine sM rfl ?_ ?_|refine s4 rfl ‹_› rfl ?_ ?_);first|exact tI|omega) |refine sP rfl (hdec i v) rfl ?_|(refine sC rfl (hfnd i) ?_;intro _ b) |refine aU rfl ?_ |refine Aa ?_ |refine rE (by kernel_rfl) ?_|(refine aC rfl ?_ ?_<;>rintro⟨⟩)|refine aK ?_|refine aE ?_|refine aB ?_|refine aR ⟨_,rfl,?_⟩)
  ·rw [if_pos (by assumption)] at L
   refine⟨⟨i+1,by omega⟩,by dsimp only;(omega),[0],?_⟩;rw [HP,HP,List.set_set];simp[cX,zC,a,L]
  ·rw [if_neg (by grind)] at L
   refine⟨⟨i+1,by omega⟩,by dsimp only;(omega),[0],?_⟩;rw [HP];simp[cX,zC,a,L]
 obtain rfl:i=N:=by (simp only[oZ] at *;omega)
 refine aE ?_;(repeat first|refine tM rfl ?_ |refine aU rfl ?_)
 have hdlg:∀x,x < i->(dl (λj=>if CL n (BE (Af n) (j:Nat)) (Fk n j) then 0 else -1) i i).getD x 0=if CL n (BE (Af n) (x:Nat)) (Fk n x) then 0 else -1:=by
  intro x A;simp [dl,List.getD,A]
 have hdll:(dl (λj=>if CL n (BE (Af n) (j:Nat)) (Fk n j) then 0 else -1) i i).length=i:=bq (jp _);generalize dl (λj=>if CL n (BE (Af n) (j:Nat)) (Fk n j) then 0 else -1) i i=d0 at *;have c:=c d0 (by omega) (by rw [t];exact hdlg);rw [t] at c;(refine pW rfl ?_ rfl (by rfl);refine Ai [0] rfl rfl c ⟨rfl,by simp,by simp⟩ rfl (by simp[cX,zC,a]) ?_;rintro x0 σ1 nx1 ⟨rfl,rfl,dist,hD,rfl⟩ _);refine Aa ?_;refine aS ?_;refine Aj.freeze [0] [(1,.o (.ip (NP n))),(4,Ak (Af n)),(7,DF mv),(8,Ak dist)] ⟨⟨_,rfl,.AQ⟩,⟨_,rfl,.AQ⟩,⟨_,rfl,.AQ⟩,⟨.o (.arr 0 1 0 i),rfl,.o (.full (T:=3) (rows:=dist.map AD) (by simp) (by simp[cX,zC,a,Ab.Be,BU,IA]) (by simp [d5]) (by simp [hD.len,t]))⟩,trivial⟩ ?_;have hG:KE (Eh n) (λx=>dist.getD x.toNat 0):=bp (by rw [p,F];exact hD);have hdl:=hD.len;have hin:=Lf B;rw [p,F] at hin
 have hrow:∀x:Int,0<=x/\x < i->mv.getD x.toNat []=(Ac n.ls).map λl=>(Eh n).succ x l:=by
  intro x A;rw [<-F,<-p];exact GJ (by rw [p];exact A)
 have hrl:∀x,x < mv.length->(mv.getD x []).length=(Ac n.ls).length:=by
  intro x A;have:=hrow (x:Nat) (by omega);rw [i7] at this;rw [this];simp
 have hcl:∀(at':List Int) (k:Nat) (d:Int),Dv i at'->k < (Ac n.ls).length->Pure Tryz.prog TB 191 [DF mv,Ak dist,Ak at',eI .i64 k,eI .i64 d] (Ak (FB mv dist at' k d)):=λat' k d ha hk=>
  T9 mv dist at' k d hin (by omega) hdl (by rw [t];exact ha.2) (by have:=Gl _ _ ha.1 ha.2;omega) (λx A=>by rw [hrl x A];exact hk)
 have hcm:∀(at':List Int) (k:Nat) (d:Int) (m:Int),(Ac n.ls)[k]? = some m->Dv i at'->∀y,y∈FB mv dist at' k d↔∃x∈at',y∈(Eh n).succ x m/\dist.getD y.toNat 0=d:=by
  intro at' k d m X ha y;rw [<-F,<-p];exact bj X (by rw [p];exact ha.2)
 have hac:∀(at':List Int) (k:Nat) (d:Int),Dv i at'->Dv i (FB mv dist at' k d):=by
  intro at' k d ha;have:=Dv.gZ hin (dist:=dist) (d:=d) (k:=k) (l:=at') .nil (by rw [t];exact ha.2);rwa [t] at this
 obtain⟨s,hs⟩:∃s,Du (Af n) n.st 0=s:=⟨_,rfl⟩
 have hgs:(Eh n).s0=s:=hs;have hsin:=hg.s0;rw [hgs,p] at hsin;rw [hs] at H;obtain⟨dd,hdd⟩:=get_some (l:=dist) (k:=s.toNat) (by omega)
 have hdd':(dist.map Bq)[s.toNat]? = some (Bq dd):=by simp [hdd]
 have I:dist.getD (Eh n).s0.toNat 0=dd:=by rw [hgs];simp [List.getD,hdd]
 have hs0':([s].map Bq)[(0:Int).toNat]? = some (Bq s):=rfl;have hbd:=hD.bound s.toNat (by omega)
 have S:dist.getD s.toNat 0=dd:=by simp [List.getD,hdd]
 rw [S] at hbd;(repeat first|refine tA rfl ?_ |(refine s4 rfl ‹_› rfl ?_ ?_;omega) |refine sP rfl (H) rfl ?_|refine sP rfl (hlet) rfl ?_ |refine aU rfl ?_ |refine Aa ?_);by_cases hneg:dd < 0
 ·have J:=aQ hg hG (by show dist.getD (Eh n).s0.toNat 0 < 0;rw [I];exact hneg)
  have V:=Cy.unique hr J;subst V;refine aB ?_;refine Aj.A2 (α:=Unit) (λ_=>[(12,eT []),(13,eI .i64 dd)]) (λ_=>[]) 0 (λ_=>0) (()) [] (DV a rfl rfl) (by (simp[cX,zC,a])) ?_;rintro _;(try dsimp only);(repeat first|refine tA rfl ?_ |refine s2 rfl λ_ b=>?_ |refine aU rfl ?_ |refine Aa ?_);(refine aC rfl ?_ ?_<;>rintro⟨⟩)
  ·exfalso;(simp only[oZ] at *;omega)
  (repeat' first|refine tA rfl ?_ |refine s2 rfl λ_ b=>?_ |refine aU rfl ?_ |refine Aa ?_|(refine aC rfl ?_ ?_<;>rintro⟨⟩)|refine aK ?_|refine aE ?_|refine aB ?_|refine aR ⟨_,rfl,?_⟩)
  all_goals first
   | (exfalso;omega;done)
   | (subst b;rw [show decide (dd=0)=false from decide_eq_false (by omega)];rfl)
 ·have M := NF.init (dx:=λx=>dist.getD x.toNat 0) hg (by show 0<=dist.getD (Eh n).s0.toNat 0;rw [I];omega)
  have M:NF (Eh n) (λx=>dist.getD x.toNat 0) [] [s] dd:=by rw [hgs,S] at M;exact M
  refine aB ?_;refine Aj.A2 (α:={x:List Int×List Int×Int // NF (Eh n) (λx=>dist.getD x.toNat 0) x.1 x.2.1 x.2.2}) (λ⟨⟨w,at',d⟩,K⟩=>[(7,DF mv),(8,Ak dist),(10,Ak at'),(11,Ak (Ac n.ls)),(12,eT (Dp w)),(13,eI .i64 d)]) (λ⟨⟨w,at',d⟩,K⟩=>[]) 0 (λ⟨⟨w,at',d⟩,K⟩=>d.toNat) (⟨([],[s],dd),M⟩) [] (DV a rfl rfl) (by (repeat' first|exact tI|rfl|refine And.intro ?_ ?_)) ?_;rintro⟨⟨w,at',d⟩,K⟩;(try dsimp only);simp only at K;have hWl:=K.len;have hWd:=K.d0;have q:=K.acc
  have hWl:(w.length:Int)+d=dd:=by rw [<-I];exact hWl
  rw [p] at q;(repeat first|refine tA rfl ?_ |refine s2 rfl λ_ b=>?_ |refine aU rfl ?_ |refine Aa ?_);(refine aC rfl ?_ ?_<;>rintro⟨⟩)
  ·have hdp:0 < d:=by (simp only[oZ] at *;omega)
   obtain⟨l0,hl0,hx0⟩:=K.prog hG hdp;have hlx:∀l:Int,l∈(Eh n).ls->∃k:Nat,(Ac n.ls)[k]? = some l:=λl hl=>pj hl
   have Y:∀k:Nat,(∀k',k' < k->FB mv dist at' k' (d - 1)=[])->k < (Ac n.ls).length:=by
    intro k hk2
    rcases nG k (Ac n.ls).length with h|h
    ·exact h
    ·exfalso
     obtain⟨j,hj⟩:=hlx l0 hl0;have h1:=hk2 j (by have:=(ce.1 hj).1;omega);obtain⟨x,A,y,hy,hdy⟩:=hx0;have P:=(hcm at' j (d - 1) l0 hj q y).2 ⟨x,A,hy,hdy⟩;rw [h1] at P;cases P
   have hk0:=Y 0 (λk' h=>by omega);refine aK ?_;refine aS (aB ?_);(repeat first|(refine sA rfl ?_ ?_;first|exact tI|omega) |refine sP rfl (hcl at' 0 (d - 1) q hk0) rfl ?_ |refine aU rfl ?_ |refine Aa ?_);refine aB ?_;refine Aj.A2 (α:={k:Nat // ∀k',k' < k->FB mv dist at' k' (d - 1)=[]}) (λ⟨k,u⟩=>[(7,DF mv),(8,Ak dist),(10,Ak at'),(11,Ak (Ac n.ls)),(12,eT (Dp w)),(13,eI .i64 d),(14,eI .i64 k),(15,Ak (FB mv dist at' k (d - 1)))]) (λ⟨k,u⟩=>[]) 0 (λ⟨k,u⟩=>(Ac n.ls).length - k) (⟨0,λk' h=>by omega⟩) [] (DV a rfl rfl) (by (simp[cX,zC,a])) ?_;rintro⟨k,u⟩;(try dsimp only);have G:=Y k u;have hacK:=hac at' k (d - 1) q;(repeat first|refine sN rfl ?_ |refine tA rfl ?_ |refine s2 rfl λ_ b=>?_ |refine aU rfl ?_ |refine Aa ?_);(refine aC rfl ?_ ?_<;>rintro⟨⟩)
   ·have hnil:FB mv dist at' k (d - 1)=[]:=ms.1 (by (simp only[oZ] at *;omega))
    have R:∀k',k' < k+1->FB mv dist at' k' (d - 1)=[]:=λk' h=>by
     rcases pA.1 h with h|h
     ·exact u k' h
     ·rw [h];exact hnil
    have hc2:=hcl at' (k+1) (d - 1) q (Y _ R);rw [show (((k+1:Nat)):Int)=(k:Int)+1 from rfl] at hc2;refine aK ?_;refine aB ?_;(repeat first|(refine sA rfl ?_ ?_;first|exact tI|omega) |refine sP rfl (hc2) rfl ?_ |refine aU rfl ?_ |refine Aa ?_);refine⟨⟨k+1,R⟩,by dsimp only;(omega),[],?_⟩;simp[cX,zC,a]
   ·obtain⟨m,X⟩:=get_some (l:=Ac n.ls) (k:=k) G
    have hm':=get_map (g:=Bq) X;have hmb:=Au (co X)
    have hne:FB mv dist at' k (d - 1)≠[]:=λe=>by rw [e] at b;simp at b
    have hN2:=K.next hg hG hdp (l:=m) (co X) (at2:=FB mv dist at' k (d - 1)) (by rw [p];exact hacK) hne (λy=>by
     rw [hcm at' k (d - 1) m X q y]) (λm' hm' hlt=>by
     rintro⟨x,A,y,hy,hdy⟩;obtain⟨j,hj⟩:=hlx m' hm';have hjk:=bE (EM n.ls 6) hj X hlt;have P:=(hcm at' j (d - 1) m' hj q y).2 ⟨x,A,hy,hdy⟩
     rw [u j hjk] at P;cases P)
    have htl:(Dp w).length=w.length:=by simp [Dp]
    have htx:Dp w++[97+UInt8.ofNat m.toNat]=Dp (w++[m]):=by simp [Dp]
    refine aE ?_;(repeat first|(refine sA rfl ?_ ?_;first|exact tI|omega|simp only[oZ] at *;omega) |(refine s4 rfl ‹_› rfl ?_ ?_;omega) |refine sP rfl (HE m (by omega) (by omega)) rfl ?_ |refine aU rfl ?_ |refine Aa ?_);refine⟨⟨(w++[m],FB mv dist at' k (d - 1),d - 1),hN2⟩,by dsimp only;omega,[],?_⟩;simp[cX,zC,a,htx]
  ·obtain rfl:d=0:=by (simp only[oZ] at *;omega)
   have J:=K.mL hg hG;have V:=Cy.unique hr J;subst V;(repeat' first|refine tA rfl ?_ |refine s2 rfl λ_ b=>?_ |refine aU rfl ?_ |refine Aa ?_|(refine aC rfl ?_ ?_<;>rintro⟨⟩)|refine aK ?_|refine aE ?_|refine aB ?_|refine aR ⟨_,rfl,?_⟩)
   all_goals first
    | (subst b;rfl)
abbrev NH(r:Option (List Int)):List UInt8:=(r.map Dp).getD []
abbrev KX(r:Option (List Int)):E:=.t [(false,[.d (tD (NH r))]),(false,[.d (bD r.isSome)])]
theorem Xq(r:Option (List Int)):jE r=KX r:=by cases r<;>rfl
noncomputable def Dw(g:Gr):Option (List Int):=Classical.choose (OG g)
theorem Dx(g:Gr):Cy g (Dw g):=Classical.choose_spec (OG g)
theorem Tm{g:Gr}{r:Option (List Int)}(h:Cy g r):Dw g=r:=Cy.unique (Dx g) h
def DT(s:Sys)(a p:AZ):Net:=⟨[s],[a,p],[0,0,0],Gk .i64 s.al a.al,2,0⟩
def CY(s:Sys)(a p:AZ):Bool:=AU s && AP a && AP p
noncomputable def DD(s:Sys)(a p:AZ):Option (List Int):=if CY s a p then Dw (Eh (DT s a p)) else none
noncomputable def Mu(s:Sys)(a p:AZ):Bool:=CY s a p && !(DD s a p).isSome
def Hm(l:List Sys)(n:Int):Int:=l.foldl (λn s=>Gk .i64 n s.al) n
def A1(l:List Sys):Bool:=decide (1<=l.length/\l.length<=3) && l.all AU
def Bx(l:List Sys):Int:=if A1 l then Hm l 0 else -1
def CX(l:List Sys)(p:AZ):Net:=⟨l,[p],List.replicate (l.length+1) 0,Bx l,3,0⟩
noncomputable def BQ(l:List Sys)(p:AZ):Option (List Int):=if A1 l && AP p then Dw (Eh (CX l p)) else none
noncomputable def Ep(l:List Sys)(p:AZ):Bool:=A1 l && AP p && !(BQ l p).isSome
def Br(s:Sys)(p:AZ)(t:Sys):Int:=if AU s && AP p && AU t then FW .i64 (Gk .i64 s.al p.al) t.al else -1
noncomputable def Ib(s t:Sys)(p a:AZ):Int:=
 if Br s p t < 0\/AP a=false then 1 else if a.al≠Br s p t then 2 else if Mu s a p=false then 3 else if Ep [t] a=false then 4 else 0
theorem K6{a b:Nat}(ha:a < 64)(hb:b < 64):Gk .i64 a b=((a ||| b:Nat):Int)/\a ||| b < 64:=by
 have d:a ||| b < 64:=o4 (n:=6) ha hb;refine⟨?_,d⟩;unfold Gk
 have c:(BitVec.ofInt IntKind.i64.bits (a:Int) ||| BitVec.ofInt IntKind.i64.bits (b:Int)).toNat=a ||| b:=by
  have e:IntKind.i64.bits=64:=rfl;rw [e];simp only [BitVec.toNat_or,BitVec.ofInt_natCast,BitVec.toNat_ofNat];rw [nD (by omega),nD (by omega)]
 rw [c];exact IntWalk.i64_in _ (by omega)
theorem K5{a b:Int}(ha:A7 a=true)(hb:A7 b=true):A7 (Gk .i64 a b)=true:=by
 unfold A7 at *;simp only [decide_eq_true_eq] at *;have c:=K6 (a:=a.toNat) (b:=b.toNat) (by omega) (by omega)
 have e:((a.toNat:Nat):Int)=a:=by omega
 have d:((b.toNat:Nat):Int)=b:=by omega
 rw [e,d] at c;omega
theorem Jb:∀ {l:List Sys} {n:Int},l.all AU=true->A7 n=true->A7 (Hm l n)=true
 | [],_,_,a=>a
 | s::l,n,h,a=>by
  simp only [List.all_cons,d4] at h;exact Jb (l:=l) h.2 (K5 a (AN h.1).1)
theorem Ss{l:List Sys}:(0<=Bx l)=(A1 l=true):=by
 unfold Bx;split
 ·rename_i h
  have a:l.all AU=true:=by unfold A1 at h;rw [d4] at h;exact h.2
  have:=Jb (n:=0) a rfl;unfold A7 at this;simp only [decide_eq_true_eq] at this;simp [h];omega
 ·rename_i h;simp [h]
theorem N8{s:Sys}{a p:AZ}(h:CY s a p=true):DM (DT s a p)/\dQ (DT s a p)/\Fits (Af (DT s a p)) (DT s a p).st:=by
 unfold CY at h;simp only [d4] at h;obtain⟨⟨e,d⟩,c⟩:=h;have i:=AN e;have g:=AH d;have f:=AH c;refine⟨⟨λx b=>by simp [DT] at b;subst b;exact e,λx b=>by simp [DT] at b;rcases b with rfl|rfl;exact d;exact c,by simp [DT],by simp [DT]⟩,⟨λ_=>by simp [DT],λ_=>by simp [DT]⟩,?_⟩
 show Fits [s.st,(a.nx.length:Int),(p.nx.length:Int)] [0,0,0]
 exact .cons (by omega) (by omega) (.cons (by omega) (by omega) (.cons (by omega) (by omega) .nil))
theorem QD:∀ {zs:List Int},(∀z∈zs,0 < z)->Fits zs (List.replicate zs.length 0)
 | [],_=>.nil
 | z::zs,h=>by
  rw [nM,pU];exact .cons (by omega) (h z (by simp)) (QD λx a=>h x (by simp [a]))
theorem N7{l:List Sys}{p:AZ}(h:(A1 l && AP p)=true):DM (CX l p)/\dQ (CX l p)/\Fits (Af (CX l p)) (CX l p).st:=by
 rw [d4] at h;obtain⟨a,g⟩:=h;unfold A1 at a;simp only [d4,decide_eq_true_eq,f9] at a
 have c:DM (CX l p):=⟨a.2,λx b=>by simp [CX] at b;subst b;exact g,a.1.2,by simp [CX]⟩
 refine⟨c,⟨λ_=>by simp [CX],λh=>by simp [CX] at h⟩,?_⟩
 have d:=QD (zs:=Af (CX l p)) λz e=>by have:=Gn c z e;omega
 have f:(Af (CX l p)).length=l.length+1:=by simp [Af,CX]
 rw [f] at d;exact d
theorem FP(l:List Sys):Pure Tryz.prog TB 130 [GC l] (eI .i64 (Bx l)):=by
 refine eN Tryz.func130 rfl (by kernel_rfl) rfl ?_;intro Z b;refine Aj.bound 0 rfl λe=>?_;have j:=e (l.map AI) .refl;(repeat' first |refine sN rfl ?_ |((first|refine sA rfl ?_ ?_|refine s4 rfl ‹_› rfl ?_ ?_);first|exact tI|omega|simp only[oZ] at *;omega) |refine s2 rfl λ_ a=>?_ |refine s3 rfl ?_ ?_<;>rintro rfl |refine aU rfl ?_ |refine Aa ?_ |refine rE (by kernel_rfl) ?_|(refine aC rfl ?_ ?_<;>rintro⟨⟩)|refine aK ?_|refine aE ?_|refine aB ?_|refine aR ⟨_,rfl,?_⟩)
 all_goals try (show E.o _=E.o _;congr;unfold Bx A1;rw [if_neg (by grind)])
 refine Aj.A2 (α:={k:Nat // k<=l.length/\(l.take k).all AU=true}) (λ⟨k,hk,ha⟩=>[(0,GC l),(3,eI .i64 (Hm (l.take k) 0)),(4,eI .i64 k)]) (λ⟨k,hk,ha⟩=>[]) 0 (λ⟨k,hk,ha⟩=>l.length - k) (⟨0,by omega,rfl⟩) [] (DV b rfl rfl) (by ((repeat' first|exact tI|rfl|refine And.intro ?_ ?_)<;>(simp[cX,zC,b]))) ?_;rintro⟨k,hk,ha⟩;(try dsimp only);(repeat first |refine sN rfl ?_ |((first|refine sA rfl ?_ ?_|refine s4 rfl ‹_› rfl ?_ ?_);first|exact tI|omega|simp only[oZ] at *;omega) |refine s2 rfl λ_ a=>?_ |refine s3 rfl ?_ ?_<;>rintro rfl |refine aU rfl ?_ |refine Aa ?_ |refine rE (by kernel_rfl) ?_);(refine aC rfl ?_ ?_<;>rintro⟨⟩)
 ·obtain⟨x,c⟩:=get_some (l:=l) (k:=k) (by first|omega|simp only[oZ] at *;omega)
  have i:=get_map (g:=AI) c
  have d:Hm (l.take (k+1)) 0=Gk .i64 (Hm (l.take k) 0) x.al:=by unfold Hm;rw [GF c]
  (repeat' first |refine sN rfl ?_ |((first|refine sA rfl ?_ ?_|refine s4 rfl ‹_› rfl ?_ ?_);first|exact tI|omega|simp only[oZ] at *;omega) |refine s2 rfl λ_ a=>?_ |(refine sC rfl (BZ x) ?_;intro _ a) |refine s3 rfl ?_ ?_<;>rintro rfl |refine aU rfl ?_ |refine Aa ?_ |refine rE (by kernel_rfl) ?_|(refine aC rfl ?_ ?_<;>rintro⟨⟩)|refine aK ?_|refine aE ?_|refine aB ?_|refine aR ⟨_,rfl,?_⟩)
  all_goals first
   | (have h:=HY c (f:=AU) (by grind);show E.o _=E.o _;congr;unfold Bx A1;rw [h];simp;done)
   | (refine⟨⟨k+1,by first|omega|simp only[oZ] at *;omega,GA c ha (by grind)⟩,by dsimp only;(first|omega|simp only[oZ] at *;omega),[],?_⟩;simp[cX,zC,b,d];done)
 ·have h:=Gz ha (by first|omega|simp only[oZ] at *;omega)
  (repeat' first |refine sN rfl ?_ |((first|refine sA rfl ?_ ?_|refine s4 rfl ‹_› rfl ?_ ?_);first|exact tI|omega|simp only[oZ] at *;omega) |refine s2 rfl λ_ a=>?_ |refine s3 rfl ?_ ?_<;>rintro rfl |refine aU rfl ?_ |refine Aa ?_ |refine rE (by kernel_rfl) ?_|(refine aC rfl ?_ ?_<;>rintro⟨⟩)|refine aK ?_|refine aE ?_|refine aB ?_|refine aR ⟨_,rfl,?_⟩);rw [ge (by first|omega|simp only[oZ] at *;omega)]
  show E.o _=E.o _;congr;unfold Bx A1;rw [if_pos (by grind)]
theorem Fb(l:List Sys)(p:AZ):Pure Tryz.prog TB 72 [GC l,Bi p] (KX (BQ l p)):=by
 have m:=Ss (l:=l);by_cases f:(A1 l && AP p)=true
 ·obtain⟨n,hk,k⟩:=N7 f
  have j:=OU (TB:=TB) n hk k (Dx _);rw [Xq] at j
  have i:1<=l.length/\l.length<=3:=by unfold A1 at f;grind
  have b:BQ l p=Dw (Eh (CX l p)):=by unfold BQ;rw [if_pos f]
  rw [b]
  have e:(List.replicate (l.length+1) 0).map Bq=List.replicate ((l.length:Int)+1).toNat (Bq 0):=by
   rw [List.map_replicate];congr
  have h:Pure Tryz.prog TB 132 [.a [.d (Jj l),.d (Vy [p]),.d (.l (List.replicate ((l.length:Int)+1).toNat (Bq 0))),.d (iD (Bx l)),.d (iD 3),.d (iD 0)]] (KX (Dw (Eh (CX l p)))):=by rw [<-e];exact j
  refine eN Tryz.func72 rfl (by kernel_rfl) rfl ?_;intro Z g;(repeat' first|refine sN rfl ?_ |((first|refine sA rfl ?_ ?_|refine s4 rfl ‹_› rfl ?_ ?_);first|exact tI|omega|simp only[oZ] at *;omega) |refine s2 rfl λ_ c=>?_ |refine sP rfl (FP l) rfl ?_|(refine sC rfl (Bk p) ?_;intro _ c)|refine sP rfl (h) rfl ?_|(refine Ag rfl ?_;refine gA rfl ?_;first| refine gS (λ_ _=>X9 (dz:=Bq 0) rfl rfl (by rfl) (by rfl) (by rfl) (am rfl) (by first|omega|simp only[oZ] at *;omega) (by first|omega|simp only[oZ] at *;omega)) ?_|refine gS (λ_ _=>AF rfl rfl (by rfl) (by rfl)) ?_) |refine s3 rfl ?_ ?_<;>rintro rfl |refine aU rfl ?_ |refine Aa ?_ |refine rE (by kernel_rfl) ?_|(refine aC rfl ?_ ?_<;>rintro⟨⟩)|refine aK ?_|refine aE ?_|refine aB ?_|refine aR ⟨_,rfl,?_⟩)
  all_goals first
   | rfl
   | (exfalso;grind;done)
 ·have b:BQ l p=none:=by unfold BQ;rw [if_neg f]
  rw [b];refine eN Tryz.func72 rfl (by kernel_rfl) rfl ?_;intro Z g;(repeat' first|refine sN rfl ?_ |((first|refine sA rfl ?_ ?_|refine s4 rfl ‹_› rfl ?_ ?_);first|exact tI|omega|simp only[oZ] at *;omega) |refine s2 rfl λ_ c=>?_ |refine sP rfl (FP l) rfl ?_|(refine sC rfl (Bk p) ?_;intro _ c) |refine s3 rfl ?_ ?_<;>rintro rfl |refine aU rfl ?_ |refine Aa ?_ |refine rE (by kernel_rfl) ?_|(refine aC rfl ?_ ?_<;>rintro⟨⟩)|refine aK ?_|refine aE ?_|refine aB ?_|refine aR ⟨_,rfl,?_⟩)
  all_goals first
   | rfl
   | (exfalso;grind;done)
theorem Fc(s:Sys)(a p:AZ):Pure Tryz.prog TB 126 [Bv s,Bi a,Bi p] (KX (DD s a p)):=by
 by_cases d:CY s a p=true
 ·obtain⟨h,hk,g⟩:=N8 d
  have f:=OU (TB:=TB) h hk g (Dx _);rw [Xq] at f
  have b:DD s a p=Dw (Eh (DT s a p)):=by unfold DD;rw [if_pos d]
  rw [b];refine eN Tryz.func126 rfl (by kernel_rfl) rfl ?_;intro Z e;(repeat' first|refine sN rfl ?_ |((first|refine sA rfl ?_ ?_|refine s4 rfl ‹_› rfl ?_ ?_);first|exact tI|omega|simp only[oZ] at *;omega) |refine s2 rfl λ_ c=>?_ |(refine sC rfl (OV s a p) ?_;intro _ c)|refine sP rfl (f) rfl ?_|(refine Ag rfl ?_;refine gA rfl ?_;first| refine gS (λ_ _=>X9 (dz:=Bq 0) rfl rfl (by rfl) (by rfl) (by rfl) (am rfl) (by first|omega|simp only[oZ] at *;omega) (by first|omega|simp only[oZ] at *;omega)) ?_|refine gS (λ_ _=>AF rfl rfl (by rfl) (by rfl)) ?_) |refine s3 rfl ?_ ?_<;>rintro rfl |refine aU rfl ?_ |refine Aa ?_ |refine rE (by kernel_rfl) ?_|(refine aC rfl ?_ ?_<;>rintro⟨⟩)|refine aK ?_|refine aE ?_|refine aB ?_|refine aR ⟨_,rfl,?_⟩)
  all_goals first
   | rfl
   | (exfalso;unfold CY at d;grind;done)
 ·have b:DD s a p=none:=by unfold DD;rw [if_neg d]
  rw [b];refine eN Tryz.func126 rfl (by kernel_rfl) rfl ?_;intro Z e;(repeat' first|refine sN rfl ?_ |((first|refine sA rfl ?_ ?_|refine s4 rfl ‹_› rfl ?_ ?_);first|exact tI|omega|simp only[oZ] at *;omega) |refine s2 rfl λ_ c=>?_ |(refine sC rfl (OV s a p) ?_;intro _ c) |refine s3 rfl ?_ ?_<;>rintro rfl |refine aU rfl ?_ |refine Aa ?_ |refine rE (by kernel_rfl) ?_|(refine aC rfl ?_ ?_<;>rintro⟨⟩)|refine aK ?_|refine aE ?_|refine aB ?_|refine aR ⟨_,rfl,?_⟩)
  all_goals first
   | rfl
   | (exfalso;unfold CY at d;grind;done)
theorem KA(s:Sys)(p:AZ)(t:Sys):Pure Tryz.prog TB 115 [Bv s,Bi p,Bv t] (eI .i64 (Br s p t)):=by
 refine eN Tryz.func115 rfl (by kernel_rfl) rfl ?_;intro Z b;(repeat' first|refine tA rfl ?_ |refine s2 rfl λ_ a=>?_ |(refine sC rfl (BZ s) ?_;intro _ a)|(refine sC rfl (Bk p) ?_;intro _ a)|(refine sC rfl (BZ t) ?_;intro _ a) |refine s3 rfl ?_ ?_<;>rintro rfl |refine aU rfl ?_ |refine Aa ?_|(refine aC rfl ?_ ?_<;>rintro⟨⟩)|refine aK ?_|refine aE ?_|refine aB ?_|refine aR ⟨_,rfl,?_⟩)
 all_goals (show E.o _=E.o _;congr;unfold Br;grind)
end Go.Am
namespace Go.Am
open Go
def BI:List Int->Nat
 | []=>0
 | x::l=>2 ^ x.toNat+BI l
theorem Ps:∀(l m:List Int),BI (l++m)=BI l+BI m
 | [],m=>by simp [BI]
 | x::l,m=>by simp [BI,Ps l m,nE]
theorem Lv:∀ {l:List Int} {t:Nat},l.Pairwise (· < ·)->(∀x∈l,0<=x/\x < t)->BI l < 2 ^ t
 | [],t,_,_=>p6 t
 | x :: l,t,f,h=>by
  have key:∀(l:List Int) (a t:Nat),(∀x∈l,(a:Int)<=x/\x < t)->l.Pairwise (· < ·)->a<=t->2 ^ a+BI l<=2 ^ t:=by
   intro l
   induction l with
   | nil=>intro a t _ _ c;simpa [BI] using nU (by omega) c
   | cons y l i=>
    intro a t h f c;have d:=h y (by simp);have b:=nP.1 f;have g:=i (y.toNat+1) t (λx e=>by have:=b.1 x e;have:=h x (by simp [e]);omega) b.2 (by omega);have j:2 ^ a<=2 ^ y.toNat:=nU (by omega) (by omega);rw [qb] at g;simp only [BI];omega
  have e:=h x (by simp);have b:=nP.1 f;have g:=key l (x.toNat+1) t (λy d=>by have:=b.1 y d;have:=h y (by simp [d]);omega) b.2 (by omega);rw [qb] at g;simp only [BI];have:=p6 x.toNat;omega
theorem fH{l:List Int}{t:Nat}(b:l.Pairwise (· < ·))(h:∀x∈l,0<=x/\x < t):BI l ||| 2 ^ t=BI (l++[(t:Int)]):=by
 have c:=Lv b h;rw [Ps];have a:=Nat.two_pow_add_eq_or_of_lt c 1;simp only [qW] at a;rw [Nat.or_comm,<-a];simp [BI];omega
theorem Tl:∀(k m:Nat),(2 ^ k*(2*m+1)) &&& (2 ^ k*(2*m+1) - 1)=2 ^ k*(2*m)
 | 0, m=>by
  apply oJ;intro i
  cases i with
  | zero=>simp
  | succ i=>
   simp only [Nat.pow_zero,Nat.one_mul,Nat.add_sub_cancel]
   have c:(2*m+1) / 2=m:=by omega
   have b:2*m / 2=m:=by omega
   rw [pH,pb,pb,c,b];simp
 | k + 1,m=>by
  have d:=Tl k m;have e:0 < 2 ^ k*(2*m+1):=Nat.mul_pos (p6 k) (by omega)
  have h:2 ^ (k+1)*(2*m+1)=2*(2 ^ k*(2*m+1)):=by rw [qb,p9 (2 ^ k) 2,Nat.mul_assoc]
  have g:2 ^ (k+1)*(2*m)=2*(2 ^ k*(2*m)):=by rw [qb,p9 (2 ^ k) 2,Nat.mul_assoc]
  rw [h,g,<-d];generalize 2 ^ k*(2*m+1)=a at e;apply oJ;intro i
  cases i with
  | zero=>simp
  | succ i=>
   have c:2*a / 2=a:=by omega
   have b:(2*a - 1) / 2=a - 1:=by omega
   have f:2*(a &&& (a - 1)) / 2=a &&& (a - 1):=by omega
   rw [pH,pb,pb,pb,c,b,f,pH]
theorem Pt:∀ {l:List Int} {k:Nat},l.Pairwise (· < ·)->(∀x∈l,(k:Int) < x)->∃m,BI l=2 ^ k*(2*m)
 | [],k,_,_=>⟨0,by simp [BI]⟩
 | x :: l,k,c,h=>by
  have a:=nP.1 c;have f:=h x (by simp)
  obtain⟨m,d⟩:=Pt (l:=l) (k:=k) a.2 λy b=>by have:=a.1 y b;omega
  refine⟨2 ^ (x.toNat - k - 1)+m,?_⟩
  have e:x.toNat=k+(1+(x.toNat - k - 1)):=by omega
  have:2 ^ x.toNat=2 ^ k*(2*2 ^ (x.toNat - k - 1)):=by
   conv=>lhs;rw [e,Nat.pow_add,Nat.pow_add]
  simp only [BI,d,this,<-Nat.mul_add]
theorem ML{x:Int}{l:List Int}(d:(x::l).Pairwise (· < ·))(e:0<=x):∃m,BI (x::l)=2 ^ x.toNat*(2*m+1)/\BI l=2 ^ x.toNat*(2*m):=by
 have a:=nP.1 d
 obtain⟨m,b⟩:=Pt (l:=l) (k:=x.toNat) a.2 λy c=>by have:=a.1 y c;omega
 exact⟨m,by simp only [BI,b];rw [Nat.mul_add];omega,b⟩
theorem ZQ{x:Int}{l:List Int}(a:(x::l).Pairwise (· < ·))(d:0<=x):BI (x::l) &&& (BI (x::l) - 1)=BI l:=by
 obtain⟨m,c,b⟩:=ML a d;rw [c,b,Tl]
theorem Jg{x:Int}{l:List Int}:0 < BI (x::l):=by
 simp only [BI];have:=p6 x.toNat;omega
theorem UI{x:Int}{l:List Int}(d:(x::l).Pairwise (· < ·))(f:0<=x)(a:BI (x::l) < 2 ^ 64):Lib.ctz 64 (BI (x::l))=x.toNat:=by
 obtain⟨m,c,_⟩:=ML d f;have e:=Lib.lowest_bit 64 _ (by have:=Jg (x:=x) (l:=l);omega) a;have b:=Lib.and_neg 64 x.toNat m (by rw [<-c];exact a);rw [<-c,e.1] at b;exact(Nat.pow_right_inj (by omega)).1 b
end Go.Am
namespace Go.Am
open Go Go.Proofs
set_option maxHeartbeats 1000000
attribute [local irreducible] AX Cb Lex Bh Aj Spec
variable {TB:Bz}
theorem fS(i:Nat)(h:i < 64):BC[i]? = some (.int .u8 (Lib.deBruijn64tab.getD i 0:Nat)):=by
 have e:BC=Lib.deBruijn64tab.map λn=>Value.int .u8 (n:Nat):=rfl;have a:Lib.deBruijn64tab.length=64:=rfl;rw [e,i9,d6 (by omega)];simp [List.getD,a,h]
theorem jj(x a:Nat)(j:x < 18446744073709551616)(d:x≠0)(b:x &&& (18446744073709551616 - x)=a) :
 (IntKind.u64.wrap (FW .u64 (x:Int) (IntKind.u64.wrap (-(x:Int)))*285870213051353865)).fdiv (2 ^ (min (58:Int).toNat IntKind.u64.bits))=((a*285870213051353865 % 18446744073709551616 / 288230376151711744:Nat):Int):=by
 have c:∀n:Int,IntKind.u64.wrap n=n % 18446744073709551616:=λn=>by simp [IntKind.wrap,IntKind.signed,IntKind.bits]
 have i:IntKind.u64.wrap (-(x:Int))=((18446744073709551616 - x:Nat):Int):=by rw [c];omega
 have h:FW .u64 (x:Int) ((18446744073709551616 - x:Nat):Int)=(a:Int):=by
  unfold FW;have e:IntKind.u64.bits=64:=rfl;rw [e]
  have f:(BitVec.ofInt 64 (x:Int) &&& BitVec.ofInt 64 ((18446744073709551616 - x:Nat):Int)).toNat=a:=by
   simp only [BitVec.toNat_and,BitVec.ofInt_natCast,BitVec.toNat_ofNat];rw [nD (by omega),nD (by omega),b]
  rw [f,c]
  have k:a<=x:=by rw [<-b];exact qv
  omega
 rw [i,h,c];have g:(2:Int) ^ (min (58:Int).toNat IntKind.u64.bits)=288230376151711744:=rfl;rw [g,Int.fdiv_eq_ediv_of_nonneg _ (by omega)];omega
theorem fX[Dt TB](x:Nat)(d:x≠0)(f:x < 18446744073709551616):Pure Tryz.prog TB 227 [eI .u64 x] (eI .i64 (Lib.ctz 64 x)):=by
 obtain⟨b,hk⟩:=Lib.lowest_bit 64 x d f;obtain⟨hi,a⟩:=Lib.deBruijn64_at _ hk;have c:=jj x _ f d b;have e:=fS _ hi;rw [a] at e;generalize Lib.ctz 64 x=cz at *;generalize 2 ^ cz*285870213051353865 % 18446744073709551616 / 288230376151711744=idx at *;refine eN Tryz.func227 rfl (by kernel_rfl) rfl ?_;intro Z g;(repeat' first|(refine sA rfl ?_ ?_;first|exact tI|omega) |refine s2 rfl λ_ h=>?_|(refine Ag rfl ?_;refine gA rfl ?_;first| refine gS (λ_ _=>Ut rfl rfl) ?_|refine gS (λ_ _=>gv rfl rfl rfl) ?_) |refine aU rfl ?_ |refine Aa ?_|(refine aC rfl ?_ ?_<;>rintro⟨⟩)|refine aK ?_|refine aE ?_|refine aB ?_|refine aR ⟨_,rfl,?_⟩)
 ·exfalso;(simp only[oZ] at *;omega)
 rw [c];clear c b a;(repeat' first|(refine sA rfl ?_ ?_;first|exact tI|omega)|(refine Ag rfl ?_;refine gA rfl ?_;first| refine gS (λ_ _=>cK (v:=.int .u8 ((cz:Nat):Int)) rfl (by omega) (by omega) (by rw [i7];exact e)) ?_) |refine Aa ?_|(refine aC rfl ?_ ?_<;>rintro⟨⟩)|refine aK ?_|refine aE ?_|refine aB ?_|refine aR ⟨_,rfl,?_⟩);rfl
theorem gC[Dt TB](x:Nat)(a:x≠0)(c:x < 18446744073709551616):Pure Tryz.prog TB 223 [eI .u64 x] (eI .i64 (Lib.ctz 64 x)):=by
 refine eN Tryz.func223 rfl (by kernel_rfl) rfl ?_;intro Z b;(repeat' first|refine tA rfl ?_ |refine sP rfl (fX x a c) rfl ?_ |refine aU rfl ?_ |refine Aa ?_|(refine aC rfl ?_ ?_<;>rintro⟨⟩)|refine aK ?_|refine aE ?_|refine aB ?_|refine aR ⟨_,rfl,?_⟩)
 all_goals rfl
theorem QG{x:Int}{l:List Int}(b:(x::l).Pairwise (· < ·))(g:0<=x)(c:BI (x::l) < 2 ^ 62):FW .i64 (BI (x::l):Nat) ((BI (x::l):Nat) - 1)=(BI l:Nat):=by
 have f:=ZQ b g;have j:=Jg (x:=x) (l:=l);have i:BI l<=BI (x::l):=Nat.le_add_left _ _;generalize BI (x::l)=a at *
 have h:((a:Nat):Int) - 1=((a - 1:Nat):Int):=by omega
 rw [h];unfold FW;have e:IntKind.i64.bits=64:=rfl;rw [e]
 have d:(BitVec.ofInt 64 (a:Int) &&& BitVec.ofInt 64 ((a - 1:Nat):Int)).toNat=BI l:=by
  simp only [BitVec.toNat_and,BitVec.ofInt_natCast,BitVec.toNat_ofNat];rw [nD (by omega),nD (by omega),f]
 rw [d];exact IntWalk.i64_in _ (by omega)
theorem Ww[Dt TB](l:List Int)(v:l.Pairwise (· < ·))(hb:∀x∈l,0<=x/\x < 60):Pure Tryz.prog TB 207 [eI .i64 (BI l:Nat)] (Ak l):=by
 have w:l.length<=60:=by
  cases l with
  | nil=>simp
  | cons a m=>
   have A:=ON m a 60 v λx d=>(hb x d).2;have z:=hb a (by simp);simp;omega
 refine eN Tryz.func207 rfl (by kernel_rfl) rfl ?_;intro Z c;(repeat first|refine sN rfl ?_ |((first|refine sM rfl ?_ ?_|refine s4 rfl ‹_› rfl ?_ ?_);first|exact tI|omega|simp only[oZ] at *;omega) |refine s2 rfl λ_ b=>?_ |refine s3 rfl ?_ ?_<;>rintro rfl |refine aU rfl ?_ |refine Aa ?_ |refine rE (by kernel_rfl) ?_);(refine Ag rfl ?_;refine CB (λ_ _=>CG rfl) rfl ?_);(repeat first|refine sN rfl ?_ |((first|refine sM rfl ?_ ?_|refine s4 rfl ‹_› rfl ?_ ?_);first|exact tI|omega|simp only[oZ] at *;omega) |refine s2 rfl λ_ b=>?_ |refine s3 rfl ?_ ?_<;>rintro rfl |refine aU rfl ?_ |refine Aa ?_ |refine rE (by kernel_rfl) ?_);(refine pW rfl ?_ rfl (by rfl);refine Hc 1 3 ?_);(repeat first|refine sN rfl ?_ |((first|refine sM rfl ?_ ?_|refine s4 rfl ‹_› rfl ?_ ?_);first|exact tI|omega|simp only[oZ] at *;omega) |refine s2 rfl λ_ b=>?_ |refine s3 rfl ?_ ?_<;>rintro rfl |refine aU rfl ?_ |refine Aa ?_ |refine rE (by kernel_rfl) ?_);refine aB ?_;refine Aj.A2 (α:={k:Nat // k<=l.length}) (λ⟨k,hk⟩=>[(0,eI .i64 (BI (l.drop k):Nat)),(3,.o (.arr 0 1 0 k))]) (λ⟨k,hk⟩=>[(0,.cells 3 1 ((l.take k).map AD))]) 1 (λ⟨k,hk⟩=>l.length - k) (⟨0,by omega⟩) [0] (DV c rfl rfl) (by ((repeat' first|exact tI|rfl|refine And.intro ?_ ?_)<;>(simp[cX,zC,c]))) ?_;rintro⟨k,hk⟩;(try dsimp only);(repeat first|refine sN rfl ?_ |((first|refine sM rfl ?_ ?_|refine s4 rfl ‹_› rfl ?_ ?_);first|exact tI|omega|simp only[oZ] at *;omega) |refine s2 rfl λ_ b=>?_ |refine s3 rfl ?_ ?_<;>rintro rfl |refine aU rfl ?_ |refine Aa ?_ |refine rE (by kernel_rfl) ?_);(refine aC rfl ?_ ?_<;>rintro⟨⟩)
 ·have s:k < l.length:=by
   rcases nG k l.length with h|h
   ·exact h
   ·rw [ox h] at b;simp [BI] at b
  obtain⟨x,d⟩:=get_some s;have n:=BA d;have j:=hb x (co d)
  have g:(x::l.drop (k+1)).Pairwise (· < ·):=by rw [<-n];exact v.sublist (List.drop_sublist _ _)
  have q:BI (x::l.drop (k+1)) < 2 ^ 60:=by
   refine Lv g λy t=>?_;rw [<-n] at t;exact hb y (oI t)
  have f:=Jg (x:=x) (l:=l.drop (k+1));have p:=UI g j.1 (by omega);have i:=QG g j.1 (by omega);rw [<-n] at q f p i;have e:=gC (TB:=TB) (BI (l.drop k)) (by omega) (by omega);rw [p] at e
  have ex:((x.toNat:Nat):Int)=x:=by omega
  rw [ex] at e;refine aK ?_;refine aS (aB ?_);(repeat first|refine sN rfl ?_ |((first|refine sA rfl ?_ ?_|refine s4 rfl ‹_› rfl ?_ ?_);first|exact tI|omega|simp only[oZ] at *;omega) |refine s2 rfl λ_ b=>?_ |refine sP rfl (e) rfl ?_ |refine s3 rfl ?_ ?_<;>rintro rfl |refine aU rfl ?_ |refine Aa ?_ |refine rE (by kernel_rfl) ?_);(refine pW rfl ?_ rfl (by rfl);refine Al rfl rfl rfl (by first| (simp;done)|(simp;(first|omega|simp only[oZ] at *;omega))) rfl (by intro r u;simp at u;subst u;rfl) (by rfl) (am rfl) (by simp;first|omega|simp only[oZ] at *;omega) ?_);(repeat first|refine sN rfl ?_ |((first|refine sX rfl ?_ ?_|refine s4 rfl ‹_› rfl ?_ ?_);first|exact tI|omega|simp only[oZ] at *;omega) |refine s2 rfl λ_ b=>?_|(refine Ag rfl ?_;refine gA rfl ?_;first| refine gS (λ_ _=>gu rfl rfl i) ?_) |refine s3 rfl ?_ ?_<;>rintro rfl |refine aU rfl ?_ |refine Aa ?_ |refine rE (by kernel_rfl) ?_);refine⟨⟨k+1,by first|omega|simp only[oZ] at *;omega⟩,by dsimp only;(first|omega|simp only[oZ] at *;omega),[1],?_⟩;simp[cX,zC,c,i,d8,d]
 ·obtain rfl:k=l.length:=by
   rcases nG k l.length with h|h
   ·exfalso
    obtain⟨x,d⟩:=get_some h;have n:=BA d;have f:=Jg (x:=x) (l:=l.drop (k+1));rw [<-n] at f
    first|omega|simp only[oZ] at *;omega
   ·omega
  rw [io];refine aE ?_;(repeat first|refine sN rfl ?_ |((first|refine sX rfl ?_ ?_|refine s4 rfl ‹_› rfl ?_ ?_);first|exact tI|omega|simp only[oZ] at *;omega) |refine s2 rfl λ_ b=>?_ |refine s3 rfl ?_ ?_<;>rintro rfl |refine aU rfl ?_ |refine Aa ?_ |refine rE (by kernel_rfl) ?_);refine Aj.freeze [0] [(2,Ak l)] ⟨⟨_,rfl,.o (.full (by simp) rfl (by simp [d5]) (by simp))⟩,trivial⟩ ?_;refine aR ⟨_,rfl,rfl⟩
theorem SE(r:Nat->Nat):∀ds:List D,C.Cv r (ds.map .d)=ds.map .d
 | []=>rfl
 | d::l=>by simp [C.Cv,C.Be,SE r l]
def Ma(es:List DW)(f l:Nat):List Int:=(es.filter λe:DW=>decide (e.f=(f:Int)) && decide (e.l=(l:Int))).map (·.t)
def FH(es:List DW):List D:=(List.range 96).map λi=>iD (BI (Ma es (i / 6) (i % 6)):Nat)
theorem Ju{es:List DW}{i:Nat}(h:i < 96):(FH es)[i]? = some (iD (BI (Ma es (i / 6) (i % 6)):Nat)):=by simp [FH,h]
theorem YO(es:List DW)(e:DW)(f l:Nat):Ma (es++[e]) f l=Ma es f l++if e.f=(f:Int)/\e.l=(l:Int) then [e.t] else []:=by
 simp only [Ma,oq,nY,pR,List.filter_nil];grind
theorem It{r:List C}{j:Nat}{c:C}(h:j < r.length):Ae r j [c]=r.set j c:=by
 unfold Ae;rw [List.set_eq_take_append_cons_drop,if_pos h];simp
theorem Wx{es:List DW}{e:DW}{v:Int}(k:0<=e.f/\e.f < 16)(j:0<=e.l/\e.l < 6)(b:v=(BI (Ma (es++[e]) e.f.toNat e.l.toNat):Nat)) :
 Ae ((FH es).map .d) (0+e.f.toNat*6+e.l.toNat*1) (eC (eI .i64 v))=(FH (es++[e])).map .d:=by
 have h:0+e.f.toNat*6+e.l.toNat*1 < 96:=by omega
 have:eC (eI .i64 v)=[C.d (iD v)]:=rfl;rw [this,It (by simp [FH];omega),<-oe];congr 1;apply oy;intro i;by_cases hi:i < 96
 ·rw [Ju hi]
  by_cases a:0+e.f.toNat*6+e.l.toNat*1=i
  ·subst a
   rw [nS (by simp [FH];omega),b]
   have g:(0+e.f.toNat*6+e.l.toNat*1) / 6=e.f.toNat:=by omega
   have c:(0+e.f.toNat*6+e.l.toNat*1) % 6=e.l.toNat:=by omega
   rw [g,c]
  ·rw [nT a,Ju hi,YO,if_neg (by omega),nO]
 ·rw [nj (by simp [FH];omega),nj (by simp [FH];omega)]
theorem Fs{s:Sys}(h:AU s=true)(k f l:Nat):(Ma (s.es.take k) f l).Pairwise (· < ·):=by
 unfold Ma;rw [oY];refine List.Pairwise.imp_of_mem (λ{a b} ha hb c=>?_) (((LF h).sublist (List.take_sublist k s.es)).filter _);have e:=(nr.1 ha).2;have d:=(nr.1 hb).2;unfold JO at c;grind
theorem MQ{s:Sys}(h:AU s=true){k f l:Nat}{x:Int}(a:x∈Ma (s.es.take k) f l):0<=x/\x < 16:=by
 unfold Ma at a;obtain⟨e,b,rfl⟩:=d9.1 a;have c:=Dc h (nt (nr.1 b).1);have d:=AN h;unfold Dy at c;grind
theorem ZW{s:Sys}{f l:Nat}(hb:AV s.al l=true):Ma s.es f l=BJ s f l:=by
 unfold Ma BJ;rw [if_pos (by simpa using hb)]
theorem eH{a t:Nat}(ha:a < 2 ^ 16)(ht:t < 16):Gk .i64 (a:Nat) ((2 ^ t:Nat):Int)=((a ||| 2 ^ t:Nat):Int):=by
 have b:2 ^ t < 2 ^ 16:=pk (by omega) ht;have d:a ||| 2 ^ t < 2 ^ 16:=o4 ha b;unfold Gk
 have c:(BitVec.ofInt IntKind.i64.bits (a:Int) ||| BitVec.ofInt IntKind.i64.bits ((2 ^ t:Nat):Int)).toNat=a ||| 2 ^ t:=by
  have e:IntKind.i64.bits=64:=rfl;rw [e];simp only [BitVec.toNat_or,BitVec.ofInt_natCast,BitVec.toNat_ofNat];rw [nD (by omega),nD (by omega)]
 rw [c];exact IntWalk.i64_in _ (by omega)
theorem YC{t:Int}(d:0<=t)(c:t < 16):IntKind.i64.wrap (1*2 ^ (min t.toNat IntKind.i64.bits))=((2 ^ t.toNat:Nat):Int):=by
 have e:min t.toNat IntKind.i64.bits=t.toNat:=by
  have:IntKind.i64.bits=64:=rfl;omega
 rw [e,qA];have b:2 ^ t.toNat < 2 ^ 16:=pk (by omega) (by omega)
 have a:(2:Int) ^ t.toNat=((2 ^ t.toNat:Nat):Int):=by push_cast;rfl
 rw [a];generalize 2 ^ t.toNat=p at *;exact IntWalk.i64_in _ (by omega)
theorem O1(s:Sys)(h:AU s=true):Pure Tryz.prog TB 153 [Bv s] (.o (.ip (FH s.es))):=by
 refine eN Tryz.func153 rfl (by kernel_rfl) rfl ?_;intro Z i;(repeat first|refine sN rfl ?_ |refine tA rfl ?_ |refine aU rfl ?_ |refine Aa ?_);refine Aj.bound 8 rfl λG=>?_;have R:=G (s.es.map Df) .refl;refine aB ?_;refine Aj.A2 (α:={k:Nat // k<=s.es.length}) (λ⟨k,hk⟩=>[(3,.o (.ptr 0 96 0 0)),(8,gj s.es),(9,eI .i64 s.es.length),(10,eI .i64 k)]) (λ⟨k,hk⟩=>[(0,.cells 236 96 [(FH (s.es.take k)).map .d])]) 1 (λ⟨k,hk⟩=>s.es.length - k) (⟨0,by omega⟩) [0] (DV i rfl rfl) (by (repeat' first|exact tI|rfl|refine And.intro ?_ ?_)) ?_;rintro⟨k,hk⟩;(try dsimp only);(repeat first|refine s2 rfl λ_ P=>?_ |refine aU rfl ?_ |refine Aa ?_);(refine aC rfl ?_ ?_<;>rintro⟨⟩)
 ·obtain⟨e,F⟩:=get_some (l:=s.es) (k:=k) (by (simp only[oZ] at *;omega))
  have L:=get_map (g:=Df) F;have c:=Dc h (co F);have Q:=AN h;unfold Dy at c;simp only [d4,decide_eq_true_eq] at c;obtain⟨⟨B,K,v,J,A,z⟩,H⟩:=c
  have p:0+e.f.toNat*6+e.l.toNat*1+1<=96:=by omega
  have j:=YC v (by omega)
  have b:s.es.take (k+1)=s.es.take k++[e]:=by rw [d8,F];rfl
  have r:Ma (s.es.take (k+1)) e.f.toNat e.l.toNat=Ma (s.es.take k) e.f.toNat e.l.toNat++[e.t]:=by
   rw [b,YO,if_pos (by omega)]
  have q:∀x∈Ma (s.es.take k) e.f.toNat e.l.toNat,0<=x/\x < e.t.toNat:=by
   intro x u;have I:=Fs h (k+1) e.f.toNat e.l.toNat;rw [r,oV] at I;have T:=I.2.2 x u e.t (by simp);have S:=MQ h u;omega
  have m:=fH (Fs h k e.f.toNat e.l.toNat) q;have w:=Lv (t:=16) (Fs h k e.f.toNat e.l.toNat) λx u=>MQ h u;have n:=eH w (t:=e.t.toNat) (by omega)
  have et:((e.t.toNat:Nat):Int)=e.t:=by omega
  rw [m,et,<-r,b] at n;have a:=Wx (es:=s.es.take k) (e:=e) ⟨B,by omega⟩ ⟨A,z⟩ rfl;rw [<-n] at a
  have y:((FH (s.es.take k)).map C.d)[0+e.f.toNat*6+e.l.toNat*1]? = some (.d (iD (BI (Ma (s.es.take k) e.f.toNat e.l.toNat):Nat))):=by
   have N:(0+e.f.toNat*6+e.l.toNat*1) / 6=e.f.toNat:=by omega
   have M:(0+e.f.toNat*6+e.l.toNat*1) % 6=e.l.toNat:=by omega
   rw [i9,Ju (by omega),N,M];rfl
  refine aK ?_;refine aS (aB ?_);(repeat first|refine tA rfl ?_ |(refine s4 rfl ‹_› rfl ?_ ?_;omega) |refine aU rfl ?_ |refine Aa ?_);refine rG (Gj [16]) (by kernel_rfl) ?_;(repeat first|(refine sA rfl ?_ ?_;first|exact tI|omega)|(refine Ag rfl ?_;refine gA rfl ?_;first| refine gS (λ_ _=>cV rfl rfl (by omega) j) ?_|refine gQ (SA rfl rfl rfl y) (by rfl) ?_));(refine Ag rfl ?_;refine HK ?_ rfl (by rfl);refine Ei rfl rfl rfl rfl (rfl) rfl (p) ?_);(repeat first|(refine sA rfl ?_ ?_;first|exact tI|simp only[oZ] at *;omega) |refine aU rfl ?_ |refine Aa ?_);refine⟨⟨k+1,by (simp only[oZ] at *;omega)⟩,by dsimp only;((simp only[oZ] at *;omega)),[0],?_⟩;rw [a,<-b];simp[cX,zC,i,List.set_cons_zero,SE]
 ·obtain rfl:k=s.es.length:=by (simp only[oZ] at *;omega)
  refine aE ?_;rw [io];(repeat first|refine tM rfl ?_ |refine aU rfl ?_ |refine Aa ?_);refine Aj.freeze [0] [(2,.o (.ip (FH s.es)))] ⟨⟨_,rfl,.o (.ptr (by simp) rfl rfl rfl)⟩,trivial⟩ ?_;refine aR ⟨_,rfl,rfl⟩
def Pm(h:Nat->Int):List C:=(List.range 6).map λl=>.d (iD (h l))
def WI(h:Nat->Int):List D:=(List.range 6).map λl=>iD (h l)
theorem df(h:Nat->Int):Pm h=(WI h).map .d:=by simp [Pm,WI]
def BG{α:Type}(n:Nat)(g:Nat->α):List α:=(List.range n).map g
theorem DK{α:Type}{n q:Nat}{g:Nat->α}(h:q < n):(BG n g)[q]? = some (g q):=by simp [BG,h]
theorem MJ{α:Type}{n q:Nat}{g:Nat->α}{x:α}:(BG n g).set q x=BG n λi=>if i=q then x else g i:=by
 apply oy;intro i;by_cases hi:i < n
 ·rw [DK hi]
  by_cases a:q=i
  ·subst a;rw [nS (by simp [BG,hi])];simp
  ·rw [nT a,DK hi,if_neg (Ne.symm a)]
 ·rw [nj (by simp [BG];omega),nj (by simp [BG];omega)]
theorem C6{α:Type}{n:Nat}{g g':Nat->α}(h:∀i,i < n->g i=g' i):BG n g=BG n g':=by
 unfold BG;exact o6 λi hi=>h i (nk.1 hi)
theorem dg{h:Nat->Int}{l:Nat}{v:Int}(b:l < 6):Ae (Pm h) (0+l*1) (eC (eI .i64 v))=Pm λx=>if x=l then v else h x:=by
 have e:eC (eI .i64 v)=[C.d (iD v)]:=rfl;rw [e,It (by simp [Pm];omega)];have:=MJ (n:=6) (q:=l) (g:=λl=>C.d (iD (h l))) (x:=C.d (iD v))
 have a:0+l*1=l:=by omega
 rw [a];refine Eq.trans this (C6 λi _=>?_);by_cases e:i=l<;>simp [e]
theorem Kw{h a:Nat->Int}(b:∀l,l < 6->h l=a l):Pm h=Pm a:=C6 λi hi=>by rw [b i hi]
theorem JY(s:Int):∀(n k:Nat),k<=n->AM s k <+: AM s n
  | 0, k, h => by have:k=0:=by omega
                  subst this;exact qj _
  | n + 1,k,h=>by
    rcases nG k (n+1) with a|a
    · rw [C1]
      exact(JY s n k (by omega)).trans (qC _ _)
    · have:k=n+1:=by omega
      subst this;exact qj _
theorem JZ{s:Int}{k n:Nat}{l:Int}(h:(AM s n)[k]? = some l):(AM s l.toNat).length=k:=by
 have g:=Au (co h)
 have c:(AM s (l.toNat+1))[(AM s l.toNat).length]? = some l:=by
  rw [C1,if_pos g.2.2,gc (jp _)];simp;omega
 have f:(AM s n)[(AM s l.toNat).length]? = some l:=by
  obtain⟨t,ht⟩:=JY s n (l.toNat+1) (by omega);rw [<-ht,f7 (ce.1 c).1];exact c
 have b:=EM s n;rw [nn] at b;obtain⟨e,j⟩:=ce.1 h;obtain⟨d,i⟩:=ce.1 f
 rcases qe (AM s l.toNat).length k with a|a|a
 ·have:=b _ _ d e a;omega
 ·exact a
 ·have:=b _ _ e d a;omega
theorem D0{s:Int}{n l:Nat}:(l:Int)∈AM s n↔l < n/\AV s l=true:=by
 unfold AM;simp only [d9,nr,nk];constructor
 ·rintro⟨a,ha,e⟩
  have:a=l:=by have e:((a:Nat):Int)=l:=e;omega
  subst this;exact ha
 ·intro h;exact⟨l,h,rfl⟩
def PO(n:Nat)(H:Nat->Nat->Int):List (List C):=BG n λi=>Pm (H i)
theorem JH(r:Nat->Nat)(n:Nat)(H:Nat->Nat->Int):(PO n H).map (C.Cv r)=PO n H:=by
 unfold PO BG;rw [n7]
 exact o6 λi _=>by simp only [d5,df,SE]
theorem dG(n:Nat):PO n (λ_ _=>0)=List.replicate n [C.d (D.v (Value.int IntKind.i64 0)),C.d (D.v (Value.int IntKind.i64 0)),C.d (D.v (Value.int IntKind.i64 0)),C.d (D.v (Value.int IntKind.i64 0)),C.d (D.v (Value.int IntKind.i64 0)),C.d (D.v (Value.int IntKind.i64 0))]:=by
 unfold PO BG;rw [List.map_const'];simp;exact .inr rfl
theorem YL{n q:Nat}{H:Nat->Nat->Int}(h:q < n):(PO n H)[0+((q:Nat):Int).toNat]? = some (Pm (H q)):=by
 rw [nf,i7];exact DK (g:=λi=>Pm (H i)) h
theorem YM{n q l:Nat}{v:Int}{H:Nat->Nat->Int}(a:l < 6):(PO n H).set (0+((q:Nat):Int).toNat) (Ae (Pm (H q)) (0+((l:Nat):Int).toNat*1) (eC (eI .i64 v)))=PO n λi x=>if i=q/\x=l then v else H i x:=by
 rw [nf,i7,i7,dg a];unfold PO;rw [MJ];refine C6 λi _=>?_;by_cases e:i=q
 ·subst e;rw [if_pos rfl];exact Kw λl _=>by simp
 ·rw [if_neg e];exact Kw λl _=>by simp [e]
theorem HR{n:Nat}{H H':Nat->Nat->Int}(h:∀i,i < n->∀l,l < 6->H i l=H' i l):PO n H=PO n H':=C6 λi hi=>Kw λl a=>h i hi l a
theorem fT(n:Nat)(H:Nat->Nat->Int):(PO n H).length=n:=by simp [PO,BG]
def GS(a:AZ):List (List D):=BG a.nx.length λq=>WI λl=>CA a q l
theorem kR(a:AZ):PO a.nx.length (λi l=>CA a i l)=(GS a).map λr=>r.map .d:=by
 unfold PO GS BG;rw [n7]
 exact o6 λi _=>by simp only [d5,df]
def gD(a:AZ):Prop:=a.nx.length<=64/\∀q,q < a.nx.length->∃row:List Int,a.nx[q]? = some row/\row.length=(Ac a.al).length/\∀(k:Nat) y,row[k]? = some y->0<=y/\y < a.nx.length
theorem ed{a:AZ}(h:AP a=true):gD a:=⟨by have:=AH h;omega,λq b=>Hv h b⟩
theorem UW(a:AZ)(h:gD a):Pure Tryz.prog TB 76 [Bi a] (.o (.d (.l (GS a)))):=by
 have T:=h.1;have Q:(Ac a.al).length<=6:=AK a.al 6;refine eN Tryz.func76 rfl (by kernel_rfl) rfl ?_;intro Z b;(repeat first|refine aU rfl ?_);(refine Ag rfl ?_;refine CB (λ_ _=>C4 rfl rfl rfl) rfl ?_);(refine Ag rfl ?_;refine CB (λ_ _=>CG rfl) rfl ?_);(repeat first|refine sN rfl ?_ |refine tM rfl ?_ |refine aU rfl ?_ |refine Aa ?_);(refine pW rfl ?_ rfl (by rfl);refine Kt rfl rfl (by rfl) (by rfl) (am rfl) (by omega) (by omega) (by omega) ?_);(repeat first|refine sN rfl ?_ |refine tM rfl ?_ |refine sP rfl (CR a.al) rfl ?_ |refine aU rfl ?_ |refine Aa ?_);refine aB ?_;refine Aj.A2 (α:={q:Nat // q<=a.nx.length}) (λ⟨q,z⟩=>[(1,.o (.ip (AL a))),(3,.o (.arr 0 6 0 a.nx.length)),(4,Ak (Ac a.al)),(18,FU a.nx),(19,eI .i64 a.nx.length),(20,eI .i64 q)]) (λ⟨q,z⟩=>[(0,.cells 121 6 (PO a.nx.length λi l=>if i < q then CA a i l else 0))]) 1 (λ⟨q,z⟩=>a.nx.length - q) (⟨0,by omega⟩) [0] (DV b rfl rfl) (by (simp[cX,zC,b,JH,dG])) ?_;rintro⟨q,z⟩;(try dsimp only);(repeat first|refine s2 rfl λ_ u=>?_ |refine aU rfl ?_ |refine Aa ?_);(refine aC rfl ?_ ?_<;>rintro⟨⟩)
 ·have j : q < a.nx.length:=by (simp only[oZ] at *;omega)
  obtain⟨row,K,N,M⟩:=h.2 q j;have P:=get_map (g:=EL) K;refine aK ?_;refine aS (aB ?_);(repeat first|refine tM rfl ?_ |(refine s4 rfl ‹_› rfl ?_ ?_;omega) |refine aU rfl ?_ |refine Aa ?_);refine aB ?_;refine Aj.A2 (α:={m:Nat // m<=6}) (λ⟨m,B⟩=>[(1,.o (.ip (AL a))),(3,.o (.arr 0 6 0 a.nx.length)),(4,Ak (Ac a.al)),(18,FU a.nx),(19,eI .i64 a.nx.length),(20,eI .i64 q),(5,eI .i64 q),(6,Ak row),(25,eI .i64 m)]) (λ⟨m,B⟩=>[(0,.cells 121 6 (PO a.nx.length λi l=>if i < q then CA a i l else if i=q/\l < m then q else 0))]) 1 (λ⟨m,B⟩=>6 - m) (⟨0,by omega⟩) [0] (DV b rfl rfl) (by (simp[cX,zC,b,JH])) ?_;rintro⟨m,B⟩;(try dsimp only);(repeat first|refine s2 rfl λ_ u=>?_ |refine aU rfl ?_ |refine Aa ?_);(refine aC rfl ?_ ?_<;>rintro⟨⟩)
  ·have r:m < 6:=by (simp only[oZ] at *;omega)
   have p:0+((m:Nat):Int).toNat*1+1<=6:=by omega
   have I:=YL (H:=λi l=>if i < q then CA a i l else if i=q/\l < m then q else 0) j;have w:=YM (n:=a.nx.length) (q:=q) (v:=q) (H:=λi l=>if i < q then CA a i l else if i=q/\l < m then q else 0) r
   have t:(PO a.nx.length λ(i x:Nat)=>if i=q/\x=m then (q:Int) else (λ(i l:Nat)=>if i < q then CA a i l else if i=q/\l < m then (q:Int) else 0) i x)=PO a.nx.length λi l=>if i < q then CA a i l else if i=q/\l < m+1 then (q:Int) else 0:=HR λi _ l _=>by dsimp only;grind
   refine aK ?_;refine aS (aB ?_);(repeat first|(refine sM rfl ?_ ?_;first|exact tI|omega) |refine aU rfl ?_ |refine Aa ?_);(refine Ag rfl ?_;refine HK ?_ rfl (by rfl);refine Ei rfl rfl rfl rfl (I) rfl (p) ?_);(repeat first|(refine sM rfl ?_ ?_;first|exact tI|omega) |refine aU rfl ?_ |refine Aa ?_);refine⟨⟨m+1,by omega⟩,by dsimp only;(omega),[0],?_⟩;rw [w,t];simp[cX,zC,b,JH]
  ·obtain rfl:m=6:=by (simp only[oZ] at *;omega)
   have s:=HR (n:=a.nx.length) (H:=λi l=>if i < q then CA a i l else if i=q/\l < 6 then (q:Int) else 0) (H':=λi l=>if i < q then CA a i l else if i=q then (if (l:Int)∈(Ac a.al).take 0 then CA a q l else (q:Int)) else 0) λi _ l f=>by simp [f]
   rw [s];refine aE ?_;(repeat first|refine sN rfl ?_ |refine tM rfl ?_ |refine aU rfl ?_ |refine Aa ?_);refine aB ?_;refine Aj.A2 (α:={k:Nat // k<=(Ac a.al).length}) (λ⟨k,hk⟩=>[(1,.o (.ip (AL a))),(3,.o (.arr 0 6 0 a.nx.length)),(4,Ak (Ac a.al)),(18,FU a.nx),(19,eI .i64 a.nx.length),(20,eI .i64 q),(5,eI .i64 q),(6,Ak row),(35,Ak (Ac a.al)),(36,eI .i64 (Ac a.al).length),(37,eI .i64 k)]) (λ⟨k,hk⟩=>[(0,.cells 121 6 (PO a.nx.length λi l=>if i < q then CA a i l else if i=q then (if (l:Int)∈(Ac a.al).take k then CA a q l else (q:Int)) else 0))]) 1 (λ⟨k,hk⟩=>(Ac a.al).length - k) (⟨0,by omega⟩) [0] (DV b rfl rfl) (by (simp[cX,zC,b,JH])) ?_;rintro⟨k,hk⟩;(try dsimp only);(repeat first|refine s2 rfl λ_ u=>?_ |refine aU rfl ?_ |refine Aa ?_);(refine aC rfl ?_ ?_<;>rintro⟨⟩)
   ·obtain⟨l,f⟩:=get_some (l:=Ac a.al) (k:=k) (by (simp only[oZ] at *;omega))
    have R:=get_map (g:=Bq) f;have F:=Au (co f);have A:=JZ f;obtain⟨y,J⟩:=get_some (l:=row) (k:=k) (by (simp only[oZ] at *;omega));have L:=get_map (g:=Bq) J
    obtain⟨m,rfl⟩:∃m:Nat,l=m:=⟨l.toNat,by omega⟩
    have G:CA a q m=y:=by
     unfold CA;rw [if_pos F.2.2,A];simp [List.getD,K,J]
    have r:m < 6:=by omega
    have p:0+((m:Nat):Int).toNat*1+1<=6:=by omega
    have I:=YL (H:=λi l=>if i < q then CA a i l else if i=q then (if (l:Int)∈(Ac a.al).take k then CA a q l else (q:Int)) else 0) j;have w:=YM (n:=a.nx.length) (q:=q) (v:=y) (H:=λi l=>if i < q then CA a i l else if i=q then (if (l:Int)∈(Ac a.al).take k then CA a q l else (q:Int)) else 0) r
    have t:(PO a.nx.length λ(i x:Nat)=>if i=q/\x=m then y else (λ(i l:Nat)=>if i < q then CA a i l else if i=q then (if (l:Int)∈(Ac a.al).take k then CA a q l else (q:Int)) else 0) i x)=PO a.nx.length λi l=>if i < q then CA a i l else if i=q then (if (l:Int)∈(Ac a.al).take (k+1) then CA a q l else (q:Int)) else 0:=HR λi _ l _=>by
     try dsimp only
     rw [d8,f];by_cases e:i=q
     ·subst e
      by_cases c:l=m
      ·subst c;simp [G]
      ·have S:¬(l:Int)=(m:Int):=by omega
       simp [c,S]
     ·simp [e]
    refine aK ?_;refine aS (aB ?_);(repeat first|refine tM rfl ?_ |(refine s4 rfl ‹_› rfl ?_ ?_;omega) |refine aU rfl ?_ |refine Aa ?_);refine rG (Gj [9]) (by kernel_rfl) ?_;(repeat first|(refine sM rfl ?_ ?_;first|exact tI|omega) |(refine s4 rfl ‹_› rfl ?_ ?_;omega));(refine Ag rfl ?_;refine HK ?_ rfl (by rfl);refine Ei rfl rfl rfl rfl (I) rfl (p) ?_);(repeat first|(refine sM rfl ?_ ?_;first|exact tI|omega) |refine aU rfl ?_ |refine Aa ?_);refine⟨⟨k+1,by (simp only[oZ] at *;omega)⟩,by dsimp only;((simp only[oZ] at *;omega)),[0],?_⟩;rw [w,t];simp[cX,zC,b,JH]
   ·obtain rfl:k=(Ac a.al).length:=by (simp only[oZ] at *;omega)
    have s:=HR (n:=a.nx.length) (H:=λi l=>if i < q then CA a i l else if i=q then (if (l:Int)∈(Ac a.al).take (Ac a.al).length then CA a q l else (q:Int)) else 0) (H':=λi l=>if i < q+1 then CA a i l else 0) λi _ l f=>by
     try dsimp only
     rw [io];by_cases e:i=q
     ·subst e
      simp only [Nat.lt_irrefl,if_false,if_true,pv];by_cases c:AV a.al l=true
      ·rw [if_pos (D0.2 ⟨f,c⟩)]
      ·rw [if_neg (λh=>c (D0.1 h).2)];unfold CA;rw [if_neg (by simpa using c)]
     ·by_cases c:i < q
      ·rw [if_pos c,if_pos (by omega)]
      ·rw [if_neg c,if_neg e,if_neg (by omega)]
    rw [s];refine aE ?_;(repeat first|(refine sM rfl ?_ ?_;first|exact tI|omega) |refine aU rfl ?_ |refine Aa ?_);refine⟨⟨q+1,by omega⟩,by dsimp only;(omega),[0],?_⟩;simp[cX,zC,b,JH]
 ·obtain rfl:q=a.nx.length:=by (simp only[oZ] at *;omega)
  have t:=HR (n:=a.nx.length) (H:=λi l=>if i < a.nx.length then CA a i l else 0) (H':=λi l=>CA a i l) λi hi l _=>by rw [if_pos hi]
  rw [t];refine aE ?_;(repeat first|refine tM rfl ?_ |refine aU rfl ?_ |refine Aa ?_);refine Aj.freeze [0] [(2,.o (.d (.l (GS a))))] ⟨⟨_,rfl,.o (.full (by simp) rfl (kR a) (by simp [fT]))⟩,trivial⟩ ?_;refine aR ⟨_,rfl,rfl⟩
theorem Fp(a:AZ)(h:AP a=true):Pure Tryz.prog TB 76 [Bi a] (.o (.d (.l (GS a)))):=UW a (ed h)
abbrev Sl(s:Sys):List D:=[.p (FH s.es)]
abbrev fa(s:Sys):List C:=[.d (.p (FH s.es))]
abbrev VI(l:List Sys):E:=.a [.d (Jj l),.d (.l (l.map Sl))]
abbrev GM(l:List Sys):List D:=[Jj l,.l (l.map Sl)]
theorem Nn(l:List Sys)(h:∀s∈l,AU s=true)(m:l.length<=3):Pure Tryz.prog TB 159 [GC l] (VI l):=by
 refine Spec.mU 2 205 2 [1] Tryz.func159 rfl (by kernel_rfl) rfl (am rfl) ?_;intro Z b;(repeat first |refine sN rfl ?_ |((first|refine sM rfl ?_ ?_|refine s4 rfl ‹_› rfl ?_ ?_);first|exact tI|omega|simp only[oZ] at *;omega) |refine s2 rfl λ_ a=>?_ |refine s3 rfl ?_ ?_<;>rintro rfl |refine aU rfl ?_ |refine Aa ?_);(refine pW rfl ?_ rfl (by rfl);refine I8 1 1 190 rfl rfl rfl (by rfl) (by rfl) ?_);(repeat first |refine sN rfl ?_ |((first|refine sM rfl ?_ ?_|refine s4 rfl ‹_› rfl ?_ ?_);first|exact tI|omega|simp only[oZ] at *;omega) |refine s2 rfl λ_ a=>?_ |refine s3 rfl ?_ ?_<;>rintro rfl |refine aU rfl ?_ |refine Aa ?_);refine aB ?_;refine Aj.A2 (α:={k:Nat // k<=l.length}) (λ⟨k,hk⟩=>[(2,.o (.ptr 0 2 0 0)),(3,.o (.ptr 2 2 0 0)),(8,GC l),(9,eI .i64 l.length),(10,eI .i64 k)]) (λ⟨k,hk⟩=>[(0,.cells 205 2 [[.d (.l []),.d (.l [])]]),(1,.cells 190 1 ((l.take k).map fa)),(2,.cells 205 2 [[.d (Jj l),.arr 1 1 0 k]])]) 3 (λ⟨k,hk⟩=>l.length - k) (⟨0,by omega⟩) [0,1,2] (DV b rfl rfl) (by ((repeat' first|exact tI|rfl|refine And.intro ?_ ?_)<;>(simp[cX,zC,b,List.set_cons_zero,Ae,eC]))) ?_;rintro⟨k,hk⟩;(try dsimp only);(repeat first |refine sN rfl ?_ |((first|refine sM rfl ?_ ?_|refine s4 rfl ‹_› rfl ?_ ?_);first|exact tI|omega|simp only[oZ] at *;omega) |refine s2 rfl λ_ a=>?_ |refine s3 rfl ?_ ?_<;>rintro rfl |refine aU rfl ?_ |refine Aa ?_ |refine rE (by kernel_rfl) ?_);(refine aC rfl ?_ ?_<;>rintro⟨⟩)
 ·obtain⟨x,e⟩:=get_some (l:=l) (k:=k) (by first|omega|simp only[oZ] at *;omega)
  have j:=get_map (g:=AI) e;have c:=h x (co e);refine aK ?_;refine aS (aB ?_);(repeat first |refine sN rfl ?_ |((first|refine sA rfl ?_ ?_|refine s4 rfl ‹_› rfl ?_ ?_);first|exact tI|omega|simp only[oZ] at *;omega) |refine s2 rfl λ_ a=>?_ |refine s3 rfl ?_ ?_<;>rintro rfl |refine aU rfl ?_ |refine Aa ?_);refine rG (Gj [5,7]) (by kernel_rfl) ?_;(repeat first |refine sN rfl ?_ |((first|refine sA rfl ?_ ?_|refine s4 rfl ‹_› rfl ?_ ?_);first|exact tI|omega|simp only[oZ] at *;omega) |refine s2 rfl λ_ a=>?_ |refine sP rfl (O1 x c) rfl ?_ |refine s3 rfl ?_ ?_<;>rintro rfl |refine aU rfl ?_ |refine Aa ?_ |refine rE (by kernel_rfl) ?_);(refine pW rfl ?_ rfl (by rfl);refine Al rfl rfl rfl (by first|(simp;done)|(simp;(first|omega|simp only[oZ] at *;omega))) rfl (by intro r f;simp at f;subst f;rfl) (by rfl) (am rfl) (by simp;first|omega|simp only[oZ] at *;omega) ?_);(repeat first |refine sN rfl ?_ |((first|refine sX rfl ?_ ?_|refine s4 rfl ‹_› rfl ?_ ?_);first|exact tI|omega|simp only[oZ] at *;omega) |refine s2 rfl λ_ a=>?_ |refine s3 rfl ?_ ?_<;>rintro rfl |refine aU rfl ?_ |refine Aa ?_ |refine rE (by kernel_rfl) ?_);refine⟨⟨k+1,by first|omega|simp only[oZ] at *;omega⟩,by dsimp only;(first|omega|simp only[oZ] at *;omega),[0,4,2],?_⟩;simp[cX,zC,b,d8,e,Ae,eC]
 ·obtain rfl:k=l.length:=by first|omega|simp only[oZ] at *;omega
  refine aE ?_;(repeat first |refine sN rfl ?_ |((first|refine sM rfl ?_ ?_|refine s4 rfl ‹_› rfl ?_ ?_);first|exact tI|omega|simp only[oZ] at *;omega) |refine s2 rfl λ_ a=>?_ |refine s3 rfl ?_ ?_<;>rintro rfl |refine aU rfl ?_ |refine Aa ?_ |refine rE (by kernel_rfl) ?_);rw [io];refine aR ⟨⟨0,2,0,205,_,[.d (Jj l),.arr 1 1 0 l.length],_,rfl,rfl,rfl,.cons .AQ (.cons (.full (by simp) rfl (by simp [d5]) (by simp)) .nil),rfl⟩,?_⟩;intro id k i h
  injection h with h;injection h with h;injection h with _ h;exact h.symm
theorem YD(l:List Sys)(h:∀s∈l,AU s=true)(p:l.length<=3):Pure Tryz.prog TB 164 [VI l] (eI .i64 (Aw (l.map (·.st)))):=by
 have b:∀z∈l.map (·.st),1<=z/\z<=16:=by
  intro z d;obtain⟨s,m,rfl⟩:=d9.1 d;have:=AN (h s m);omega
 refine eN Tryz.func164 rfl (by kernel_rfl) rfl ?_;intro Z c;(repeat first |refine sN rfl ?_ |((first|refine sM rfl ?_ ?_|refine s4 rfl ‹_› rfl ?_ ?_);first|exact tI|omega|simp only[oZ] at *;omega) |refine s2 rfl λ_ a=>?_ |refine s3 rfl ?_ ?_<;>rintro rfl |refine aU rfl ?_ |refine Aa ?_ |refine rE (by kernel_rfl) ?_);(refine Ag rfl ?_;refine CB (λ_ _=>C4 rfl rfl rfl) rfl ?_);(repeat first |refine sN rfl ?_ |((first|refine sM rfl ?_ ?_|refine s4 rfl ‹_› rfl ?_ ?_);first|exact tI|omega|simp only[oZ] at *;omega) |refine s2 rfl λ_ a=>?_ |refine s3 rfl ?_ ?_<;>rintro rfl |refine aU rfl ?_ |refine Aa ?_ |refine rE (by kernel_rfl) ?_);refine aB ?_;refine Aj.A2 (α:={k:Nat // k<=l.length}) (λ⟨k,hk⟩=>[(3,eI .i64 (Aw ((l.map (·.st)).take k))),(7,GC l),(8,eI .i64 l.length),(9,eI .i64 k)]) (λ⟨k,hk⟩=>[]) 0 (λ⟨k,hk⟩=>l.length - k) (⟨0,by omega⟩) [] (DV c rfl rfl) (by ((repeat' first|exact tI|rfl|refine And.intro ?_ ?_)<;>(simp[cX,zC,c,Aw]))) ?_;rintro⟨k,hk⟩;(try dsimp only);(repeat first |refine sN rfl ?_ |((first|refine sM rfl ?_ ?_|refine s4 rfl ‹_› rfl ?_ ?_);first|exact tI|omega|simp only[oZ] at *;omega) |refine s2 rfl λ_ a=>?_ |refine s3 rfl ?_ ?_<;>rintro rfl |refine aU rfl ?_ |refine Aa ?_ |refine rE (by kernel_rfl) ?_);(refine aC rfl ?_ ?_<;>rintro⟨⟩)
 ·obtain⟨x,e⟩:=get_some (l:=l) (k:=k) (by first|omega|simp only[oZ] at *;omega)
  have j:=get_map (g:=AI) e;have i:=b x.st (d9.2 ⟨x,co e,rfl⟩)
  have d:(l.map (·.st))[k]? = some x.st:=by simp [e]
  have f:=Ku d;have o:=HL ((l.map (·.st)).take (k+1)) λz d=>b z (nt d)
  have q:(16:Int) ^ ((l.map (·.st)).take (k+1)).length<=4096:=by
   have:((l.map (·.st)).take (k+1)).length<=3:=by simp;omega
   generalize ((l.map (·.st)).take (k+1)).length=n at this
   have:n=0\/n=1\/n=2\/n=3:=by omega
   rcases this with rfl|rfl|rfl|rfl<;>decide
  rw [f] at o;refine aK ?_;refine aS (aB ?_);(repeat first |refine sN rfl ?_ |((first|refine sA rfl ?_ ?_|refine s4 rfl ‹_› rfl ?_ ?_);first|exact tI|omega|simp only[oZ] at *;omega) |refine s2 rfl λ_ a=>?_ |refine s3 rfl ?_ ?_<;>rintro rfl |refine aU rfl ?_ |refine Aa ?_ |refine rE (by kernel_rfl) ?_);refine⟨⟨k+1,by first|omega|simp only[oZ] at *;omega⟩,by dsimp only;(first|omega|simp only[oZ] at *;omega),[],?_⟩;simp[cX,zC,c,f]
 ·obtain rfl:k=l.length:=by first|omega|simp only[oZ] at *;omega
  refine aE ?_;(repeat first |refine sN rfl ?_ |((first|refine sM rfl ?_ ?_|refine s4 rfl ‹_› rfl ?_ ?_);first|exact tI|omega|simp only[oZ] at *;omega) |refine s2 rfl λ_ a=>?_ |refine s3 rfl ?_ ?_<;>rintro rfl |refine aU rfl ?_ |refine Aa ?_ |refine rE (by kernel_rfl) ?_);rw [ge (by simp)];refine aR ⟨_,rfl,rfl⟩
end Go.Am
