/-
  The reference's search, the walk.
-/
import Derived.Test.YtgpbfllcjdfelaaGreatDoorPart17
import Derived.Lib.TrailingZeros
import Derived.Test.YtgpbfllcjdfelaaGreatDoorPart13
set_option linter.all false
namespace Go.Am
open Go Go.Proofs
set_option maxHeartbeats 1000000
set_option maxRecDepth 4000
attribute [local irreducible] AP BH Lex A4 Al Spec
variable {TB:Bg}
theorem SL{l:List Int}(h:l.Pairwise (· < ·)){i j:Nat}{a b:Int}(hi:l[i]? = some a)(d:l[j]? = some b)(e:a < b):i < j:=by
 obtain⟨g,rfl⟩:=am.1 hi;obtain⟨f,rfl⟩:=am.1 d;rw [bZ] at h
 rcases d7 i j with c|c|c
 ·exact c
 ·subst c;omega
 ·have:=h j i f g c;omega
theorem Pl{n:Net}(B:Dm n)(hk:Vy n)(U:Fits (Ae n) n.st){r:Option (List Int)}(hr:BE (EE n) r):Pure Tryz.prog TB 175 [It n] (Xw r):=by
 have hpr:=JI B;have hg:=SE B U;have hnp:=B.np;have hna:=B.na;have hzl:=KR B;have hll:(Ac n.ls).length<=6:=AZ n.ls 6;have Q:=EU B;have hsz:=Pp (TB:=TB) n (by omega);have hmv:=Pn (TB:=TB) B (EE n).N (by show (AE (Ae n)).toNat<=1048576;omega)
 have hpN:AE (Ae n)=(((EE n).N:Nat):Int):=by show _=(((AE (Ae n)).toNat:Nat):Int);omega
 have hNle:(EE n).N<=1048576:=by omega
 have t:(Cm n (EE n).N).length=(EE n).N:=by simp [Cm]
 have hdec:∀(x:Nat),x < (EE n).N->Pure Tryz.prog TB 232 [Ag (Ae n),eI .i64 x] (Ag (Bs (Ae n) x)):=λx A=>
  I7 _ _ (by omega) (by omega) (λz hz=>by have:=Q z hz;omega) (by omega)
 have hfnd:∀(x:Nat),Pure Tryz.prog TB 231 [It n,Ag (Bs (Ae n) x),Bu (DA n x)] (eB (BS n (Bs (Ae n) x) (DA n x))):=λx=>Pm B hk (Hy B _) _;have H:=N0 (TB:=TB) (Ae n) n.st U (by omega);have hlet:=C3 (TB:=TB) n.ls;have c:=λdist h1 P=>Rw (TB:=TB) (Cm n (EE n).N) (λi=>BS n (Bs (Ae n) i) (DA n i)) dist (HN B) (by omega) h1 P;refine eN Tryz.func175 rfl (by kernel_rfl) rfl ?_;intro Z a;(repeat first|refine tA rfl ?_ |refine sP rfl (hsz) rfl ?_ |refine aU rfl ?_ |refine Aa ?_);refine aB ?_;refine Al.AS (α:={k:Nat // k<=(Ae n).length}) (λ⟨k,G⟩=>[(1,.o (.ip (Jo n))),(4,Ag (Ae n)),(5,eI .i64 (AE ((Ae n).take k))),(6,eI .i64 k)]) (λ⟨k,G⟩=>[]) 0 (λ⟨k,G⟩=>(Ae n).length - k) (⟨0,by omega⟩) [] (Dn a rfl rfl) (by (simp[cX,zC,a,AE])) ?_;rintro⟨k,G⟩;(try dsimp only);(repeat first|refine sN rfl ?_ |refine tA rfl ?_ |refine s2 rfl λ_ b=>?_ |refine aU rfl ?_ |refine Aa ?_);(refine aC rfl ?_ ?_<;>rintro⟨⟩)
 ·obtain⟨z,hz⟩:=get_some (l:=Ae n) (k:=k) (by (simp only[oZ] at *;omega))
  have hz':=get_map (g:=Bp) hz;have h1:=KE hz;have P:=KD ((Ae n).take (k+1)) λz hz=>Q z (ce hz);have h3:=(U.take (k+1)).2;rw [h1] at P h3;refine aK ?_;refine aS (aB ?_);(repeat first|(refine sA rfl ?_ ?_;first|exact tI|omega) |(refine s4 rfl ‹_› rfl ?_ ?_;omega) |refine aU rfl ?_ |refine Aa ?_);refine⟨⟨k+1,by (simp only[oZ] at *;omega)⟩,by dsimp only;((simp only[oZ] at *;omega)),[],?_⟩;simp[cX,zC,a,h1]
 obtain rfl:k=(Ae n).length:=by (simp only[oZ] at *;omega)
 refine aE ?_;rw [bO,hpN];generalize p:(EE n).N=N at *;generalize F:Cm n N=mv at *;(repeat first|refine tM rfl ?_ |refine sP rfl (hmv) rfl ?_ |refine aU rfl ?_ |refine Aa ?_);(refine pW rfl ?_ rfl (by rfl);refine Ee rfl rfl (by rfl) (by rfl) (bn rfl) (by omega) (by omega) (by omega) ?_);(repeat first|refine tM rfl ?_ |refine aU rfl ?_ |refine Aa ?_);refine aB ?_;refine Al.AS (α:={i:Nat // i<=N}) (λ⟨i,hi⟩=>[(1,.o (.ip (Jo n))),(4,Ag (Ae n)),(5,eI .i64 N),(7,Cz mv),(8,.o (.arr 0 1 0 N)),(9,eI .i64 i)]) (λ⟨i,hi⟩=>[(0,.cells 3 1 ((dl (λj=>if BS n (Bs (Ae n) (j:Nat)) (DA n j) then 0 else -1) N i).map Az))]) 1 (λ⟨i,hi⟩=>N - i) (⟨0,by omega⟩) [0] (Dn a rfl rfl) (by (simp[cX,zC,a,dl])) ?_;rintro⟨i,hi⟩;(try dsimp only);(repeat first|refine tM rfl ?_ |refine s2 rfl λ_ b=>?_ |refine aU rfl ?_ |refine Aa ?_);(refine aC rfl ?_ ?_<;>rintro⟨⟩)
 ·have v:i < N:=by (simp only[oZ] at *;omega)
  have hd0:=VO (f:=λj=>if BS n (Bs (Ae n) (j:Nat)) (DA n j) then 0 else -1) v;have L:=VP (f:=λj=>if BS n (Bs (Ae n) (j:Nat)) (DA n j) then 0 else -1) v;have hdl:=Sz (f:=λj=>if BS n (Bs (Ae n) (j:Nat)) (DA n j) then 0 else -1) (Nat.le_of_lt v);generalize dl (λj=>if BS n (Bs (Ae n) (j:Nat)) (DA n j) then 0 else -1) N i=cur at *;have hd0':=Gc (g:=Az) hd0
  have hd1:(cur.set i (-1))[i]? = some (-1):=by simp [hdl,v]
  have hd1':=Gc (g:=Az) hd1;rw [<-Gq (x:=0)] at hd1'
  have hmi:(mv.map Hf)[((i:Nat):Int).toNat]? = some (Hf (DA n i)):=by rw [<-F];exact get_map (Hi v)
  refine aK ?_;refine aS (aB ?_);(repeat' first|((first|refine sM rfl ?_ ?_|refine s4 rfl ‹_› rfl ?_ ?_);first|exact tI|omega) |refine sP rfl (hdec i v) rfl ?_|(refine sC rfl (hfnd i) ?_;intro _ b) |refine aU rfl ?_ |refine Aa ?_ |refine rE (by kernel_rfl) ?_|(refine aC rfl ?_ ?_<;>rintro⟨⟩)|refine aK ?_|refine aE ?_|refine aB ?_|refine aR ⟨_,rfl,?_⟩)
  ·rw [if_pos (by assumption)] at L
   refine⟨⟨i+1,by omega⟩,by dsimp only;(omega),[0],?_⟩;rw [Gq,Gq,List.set_set];simp[cX,zC,a,L]
  ·rw [if_neg (by grind)] at L
   refine⟨⟨i+1,by omega⟩,by dsimp only;(omega),[0],?_⟩;rw [Gq];simp[cX,zC,a,L]
 obtain rfl:i=N:=by (simp only[oZ] at *;omega)
 refine aE ?_;(repeat first|refine tM rfl ?_ |refine aU rfl ?_)
 have hdlg:∀x,x < i->(dl (λj=>if BS n (Bs (Ae n) (j:Nat)) (DA n j) then 0 else -1) i i).getD x 0=if BS n (Bs (Ae n) (x:Nat)) (DA n x) then 0 else -1:=by
  intro x A;simp [dl,List.getD,A]
 have hdll:(dl (λj=>if BS n (Bs (Ae n) (j:Nat)) (DA n j) then 0 else -1) i i).length=i:=Sz (bJ _);generalize dl (λj=>if BS n (Bs (Ae n) (j:Nat)) (DA n j) then 0 else -1) i i=d0 at *;have c:=c d0 (by omega) (by rw [t];exact hdlg);rw [t] at c;(refine pW rfl ?_ rfl (by rfl);refine Bx [0] rfl rfl c ⟨rfl,by simp,by simp⟩ rfl (by simp[cX,zC,a]) ?_;rintro x0 σ1 nx1 ⟨rfl,rfl,dist,hD,rfl⟩ _);refine Aa ?_;refine aS ?_;refine Al.freeze [0] [(1,.o (.ip (Jo n))),(4,Ag (Ae n)),(7,Cz mv),(8,Ag dist)] ⟨⟨_,rfl,.AU⟩,⟨_,rfl,.AU⟩,⟨_,rfl,.AU⟩,⟨.o (.arr 0 1 0 i),rfl,.o (.full (T:=3) (rows:=dist.map Az) (by simp) (by simp[cX,zC,a,Ab.AN,Bt,FJ]) (by simp [bC]) (by simp [hD.len,t]))⟩,trivial⟩ ?_;have hG:Hq (EE n) (λx=>dist.getD x.toNat 0):=Sy (by rw [p,F];exact hD);have hdl:=hD.len;have hin:=HN B;rw [p,F] at hin
 have hrow:∀x:Int,0<=x/\x < i->mv.getD x.toNat []=(Ac n.ls).map λl=>(EE n).succ x l:=by
  intro x A;rw [<-F,<-p];exact Ed (by rw [p];exact A)
 have hrl:∀x,x < mv.length->(mv.getD x []).length=(Ac n.ls).length:=by
  intro x A;have:=hrow (x:Nat) (by omega);rw [bL] at this;rw [this];simp
 have hcl:∀(at':List Int) (k:Nat) (d:Int),Cr i at'->k < (Ac n.ls).length->Pure Tryz.prog TB 235 [Cz mv,Ag dist,Ag at',eI .i64 k,eI .i64 d] (Ag (Dx mv dist at' k d)):=λat' k d ha hk=>
  NZ mv dist at' k d hin (by omega) hdl (by rw [t];exact ha.2) (by have:=DQ _ _ ha.1 ha.2;omega) (λx A=>by rw [hrl x A];exact hk)
 have hcm:∀(at':List Int) (k:Nat) (d:Int) (m:Int),(Ac n.ls)[k]? = some m->Cr i at'->∀y,y∈Dx mv dist at' k d↔∃x∈at',y∈(EE n).succ x m/\dist.getD y.toNat 0=d:=by
  intro at' k d m hm ha y;rw [<-F,<-p];exact Sx hm (by rw [p];exact ha.2)
 have hac:∀(at':List Int) (k:Nat) (d:Int),Cr i at'->Cr i (Dx mv dist at' k d):=by
  intro at' k d ha;have:=Cr.VI hin (dist:=dist) (d:=d) (k:=k) (l:=at') .nil (by rw [t];exact ha.2);rwa [t] at this
 obtain⟨s,hs⟩:∃s,Fc (Ae n) n.st 0=s:=⟨_,rfl⟩
 have hgs:(EE n).s0=s:=hs;have hsin:=hg.s0;rw [hgs,p] at hsin;rw [hs] at H;obtain⟨dd,hdd⟩:=get_some (l:=dist) (k:=s.toNat) (by omega)
 have hdd':(dist.map Bp)[s.toNat]? = some (Bp dd):=by simp [hdd]
 have I:dist.getD (EE n).s0.toNat 0=dd:=by rw [hgs];simp [List.getD,hdd]
 have hs0':([s].map Bp)[(0:Int).toNat]? = some (Bp s):=rfl;have hbd:=hD.bound s.toNat (by omega)
 have S:dist.getD s.toNat 0=dd:=by simp [List.getD,hdd]
 rw [S] at hbd;(repeat first|refine tA rfl ?_ |(refine s4 rfl ‹_› rfl ?_ ?_;omega) |refine sP rfl (H) rfl ?_|refine sP rfl (hlet) rfl ?_ |refine aU rfl ?_ |refine Aa ?_);by_cases hneg:dd < 0
 ·have J:=Sm hg hG (by show dist.getD (EE n).s0.toNat 0 < 0;rw [I];exact hneg)
  have V:=BE.unique hr J;subst V;refine aB ?_;refine Al.AS (α:=Unit) (λ_=>[(12,eT []),(13,eI .i64 dd)]) (λ_=>[]) 0 (λ_=>0) (()) [] (Dn a rfl rfl) (by (simp[cX,zC,a])) ?_;rintro _;(try dsimp only);(repeat first|refine tA rfl ?_ |refine s2 rfl λ_ b=>?_ |refine aU rfl ?_ |refine Aa ?_);(refine aC rfl ?_ ?_<;>rintro⟨⟩)
  ·exfalso;(simp only[oZ] at *;omega)
  (repeat' first|refine tA rfl ?_ |refine s2 rfl λ_ b=>?_ |refine aU rfl ?_ |refine Aa ?_|(refine aC rfl ?_ ?_<;>rintro⟨⟩)|refine aK ?_|refine aE ?_|refine aB ?_|refine aR ⟨_,rfl,?_⟩)
  all_goals first
   | (exfalso;omega;done)
   | (subst b;rw [show decide (dd=0)=false from decide_eq_false (by omega)];rfl)
 ·have M := Jk.init (dx:=λx=>dist.getD x.toNat 0) hg (by show 0<=dist.getD (EE n).s0.toNat 0;rw [I];omega)
  have M:Jk (EE n) (λx=>dist.getD x.toNat 0) [] [s] dd:=by rw [hgs,S] at M;exact M
  refine aB ?_;refine Al.AS (α:={x:List Int×List Int×Int // Jk (EE n) (λx=>dist.getD x.toNat 0) x.1 x.2.1 x.2.2}) (λ⟨⟨w,at',d⟩,K⟩=>[(7,Cz mv),(8,Ag dist),(10,Ag at'),(11,Ag (Ac n.ls)),(12,eT (Eo w)),(13,eI .i64 d)]) (λ⟨⟨w,at',d⟩,K⟩=>[]) 0 (λ⟨⟨w,at',d⟩,K⟩=>d.toNat) (⟨([],[s],dd),M⟩) [] (Dn a rfl rfl) (by (repeat' first|exact tI|rfl|refine And.intro ?_ ?_)) ?_;rintro⟨⟨w,at',d⟩,K⟩;(try dsimp only);simp only at K;have hWl:=K.len;have hWd:=K.d0;have q:=K.acc
  have hWl:(w.length:Int)+d=dd:=by rw [<-I];exact hWl
  rw [p] at q;(repeat first|refine tA rfl ?_ |refine s2 rfl λ_ b=>?_ |refine aU rfl ?_ |refine Aa ?_);(refine aC rfl ?_ ?_<;>rintro⟨⟩)
  ·have hdp:0 < d:=by (simp only[oZ] at *;omega)
   obtain⟨l0,hl0,hx0⟩:=K.prog hG hdp;have hlx:∀l:Int,l∈(EE n).ls->∃k:Nat,(Ac n.ls)[k]? = some l:=λl hl=>dv hl
   have hkp:∀k:Nat,(∀k',k' < k->Dx mv dist at' k' (d - 1)=[])->k < (Ac n.ls).length:=by
    intro k hk2
    rcases cL k (Ac n.ls).length with h|h
    ·exact h
    ·exfalso
     obtain⟨j,hj⟩:=hlx l0 hl0;have h1:=hk2 j (by have:=(am.1 hj).1;omega);obtain⟨x,A,y,hy,hdy⟩:=hx0;have P:=(hcm at' j (d - 1) l0 hj q y).2 ⟨x,A,hy,hdy⟩;rw [h1] at P;cases P
   have hk0:=hkp 0 (λk' h=>by omega);refine aK ?_;refine aS (aB ?_);(repeat first|(refine sA rfl ?_ ?_;first|exact tI|omega) |refine sP rfl (hcl at' 0 (d - 1) q hk0) rfl ?_ |refine aU rfl ?_ |refine Aa ?_);refine aB ?_;refine Al.AS (α:={k:Nat // ∀k',k' < k->Dx mv dist at' k' (d - 1)=[]}) (λ⟨k,u⟩=>[(7,Cz mv),(8,Ag dist),(10,Ag at'),(11,Ag (Ac n.ls)),(12,eT (Eo w)),(13,eI .i64 d),(14,eI .i64 k),(15,Ag (Dx mv dist at' k (d - 1)))]) (λ⟨k,u⟩=>[]) 0 (λ⟨k,u⟩=>(Ac n.ls).length - k) (⟨0,λk' h=>by omega⟩) [] (Dn a rfl rfl) (by (simp[cX,zC,a])) ?_;rintro⟨k,u⟩;(try dsimp only);have G:=hkp k u;have hacK:=hac at' k (d - 1) q;(repeat first|refine sN rfl ?_ |refine tA rfl ?_ |refine s2 rfl λ_ b=>?_ |refine aU rfl ?_ |refine Aa ?_);(refine aC rfl ?_ ?_<;>rintro⟨⟩)
   ·have hnil:Dx mv dist at' k (d - 1)=[]:=bM.1 (by (simp only[oZ] at *;omega))
    have R:∀k',k' < k+1->Dx mv dist at' k' (d - 1)=[]:=λk' h=>by
     rcases dZ.1 h with h|h
     ·exact u k' h
     ·rw [h];exact hnil
    have hc2:=hcl at' (k+1) (d - 1) q (hkp _ R);rw [show (((k+1:Nat)):Int)=(k:Int)+1 from rfl] at hc2;refine aK ?_;refine aB ?_;(repeat first|(refine sA rfl ?_ ?_;first|exact tI|omega) |refine sP rfl (hc2) rfl ?_ |refine aU rfl ?_ |refine Aa ?_);refine⟨⟨k+1,R⟩,by dsimp only;(omega),[],?_⟩;simp[cX,zC,a]
   ·obtain⟨m,hm⟩:=get_some (l:=Ac n.ls) (k:=k) G
    have hm':=get_map (g:=Bp) hm;have hmb:=AK (bm hm)
    have hne:Dx mv dist at' k (d - 1)≠[]:=λe=>by rw [e] at b;simp at b
    have hN2:=K.next hg hG hdp (l:=m) (bm hm) (at2:=Dx mv dist at' k (d - 1)) (by rw [p];exact hacK) hne (λy=>by
     rw [hcm at' k (d - 1) m hm q y]) (λm' hm' hlt=>by
     rintro⟨x,A,y,hy,hdy⟩;obtain⟨j,hj⟩:=hlx m' hm';have hjk:=SL (C4 n.ls 6) hj hm hlt;have P:=(hcm at' j (d - 1) m' hj q y).2 ⟨x,A,hy,hdy⟩
     rw [u j hjk] at P;cases P)
    have htl:(Eo w).length=w.length:=by simp [Eo]
    have htx:Eo w++[97+UInt8.ofNat m.toNat]=Eo (w++[m]):=by simp [Eo]
    refine aE ?_;(repeat first|(refine sA rfl ?_ ?_;first|exact tI|omega|simp only[oZ] at *;omega) |(refine s4 rfl ‹_› rfl ?_ ?_;omega) |refine sP rfl (Iy m (by omega) (by omega)) rfl ?_ |refine aU rfl ?_ |refine Aa ?_);refine⟨⟨(w++[m],Dx mv dist at' k (d - 1),d - 1),hN2⟩,by dsimp only;omega,[],?_⟩;simp[cX,zC,a,htx]
  ·obtain rfl:d=0:=by (simp only[oZ] at *;omega)
   have J:=K.aN hg hG;have V:=BE.unique hr J;subst V;(repeat' first|refine tA rfl ?_ |refine s2 rfl λ_ b=>?_ |refine aU rfl ?_ |refine Aa ?_|(refine aC rfl ?_ ?_<;>rintro⟨⟩)|refine aK ?_|refine aE ?_|refine aB ?_|refine aR ⟨_,rfl,?_⟩)
   all_goals first
    | (subst b;rfl)
abbrev Xx(r:Option (List Int)):List UInt8:=(r.map Eo).getD []
abbrev Jn(r:Option (List Int)):E:=.t [(false,[.d (tD (Xx r))]),(false,[.d (bD r.isSome)])]
theorem Uq(r:Option (List Int)):Xw r=Jn r:=by cases r<;>rfl
noncomputable def FP(g:Gr):Option (List Int):=Classical.choose (J0 g)
theorem FQ(g:Gr):BE g (FP g):=Classical.choose_spec (J0 g)
theorem Sl{g:Gr}{r:Option (List Int)}(h:BE g r):FP g=r:=BE.unique (FQ g) h
theorem Uz{a b:Nat}(ha:a < 64)(hb:b < 64):XN .i64 a b=((a ||| b:Nat):Int)/\a ||| b < 64:=by
 have d:a ||| b < 64:=Nat.or_lt_two_pow (n:=6) ha hb;refine⟨?_,d⟩;unfold XN
 have c:(BitVec.ofInt IntKind.i64.bits (a:Int) ||| BitVec.ofInt IntKind.i64.bits (b:Int)).toNat=a ||| b:=by
  have e:IntKind.i64.bits=64:=rfl;rw [e];simp only [BitVec.toNat_or,BitVec.ofInt_natCast,BitVec.toNat_ofNat];rw [de (by omega),de (by omega)]
 rw [c];exact IntWalk.i64_in _ (by omega)
theorem LR:∀ {zs:List Int},(∀z∈zs,0 < z)->Fits zs (List.replicate zs.length 0)
 | [],_=>.nil
 | z::zs,h=>by
  rw [cg,da];exact .cons (by omega) (h z (by simp)) (LR λx a=>h x (by simp [a]))
end Go.Am
namespace Go.Am
open Go
end Go.Am
namespace Go.Am
open Go Go.Proofs
set_option maxHeartbeats 1000000
set_option maxRecDepth 4000
attribute [local irreducible] AP BH Lex A4 Al Spec
variable {TB:Bg}
theorem TH(r:Nat->Nat):∀ds:List D,C.Bh r (ds.map .d)=ds.map .d
 | []=>rfl
 | d::l=>by simp [C.Bh,C.AN,TH r l]
theorem PJ{r:List C}{j:Nat}{c:C}(h:j < r.length):Aj r j [c]=r.set j c:=by
 unfold Aj;rw [List.set_eq_take_append_cons_drop,if_pos h];simp
theorem U9{t:Int}(d:0<=t)(c:t < 16):IntKind.i64.wrap (1*2 ^ (min t.toNat IntKind.i64.bits))=((2 ^ t.toNat:Nat):Int):=by
 have e:min t.toNat IntKind.i64.bits=t.toNat:=by
  have:IntKind.i64.bits=64:=rfl;omega
 rw [e,Int.one_mul];have b:2 ^ t.toNat < 2 ^ 16:=eo (by omega) (by omega)
 have a:(2:Int) ^ t.toNat=((2 ^ t.toNat:Nat):Int):=by push_cast;rfl
 rw [a];generalize 2 ^ t.toNat=p at *;exact IntWalk.i64_in _ (by omega)
def KN(h:Nat->Int):List C:=(List.range 6).map λl=>.d (iD (h l))
def PE(h:Nat->Int):List D:=(List.range 6).map λl=>iD (h l)
theorem TR(h:Nat->Int):KN h=(PE h).map .d:=by simp [KN,PE]
def Bc{α:Type}(n:Nat)(g:Nat->α):List α:=(List.range n).map g
theorem CB{α:Type}{n q:Nat}{g:Nat->α}(h:q < n):(Bc n g)[q]? = some (g q):=by simp [Bc,h]
theorem IK{α:Type}{n q:Nat}{g:Nat->α}{x:α}:(Bc n g).set q x=Bc n λi=>if i=q then x else g i:=by
 apply dG;intro i;by_cases hi:i < n
 ·rw [CB hi]
  by_cases a:q=i
  ·subst a;rw [eb (by simp [Bc,hi])];simp
  ·rw [dN a,CB hi,if_neg (Ne.symm a)]
 ·rw [co (by simp [Bc];omega),co (by simp [Bc];omega)]
theorem BV{α:Type}{n:Nat}{g g':Nat->α}(h:∀i,i < n->g i=g' i):Bc n g=Bc n g':=by
 unfold Bc;exact db λi hi=>h i (cG.1 hi)
theorem TS{h:Nat->Int}{l:Nat}{v:Int}(b:l < 6):Aj (KN h) (0+l*1) (eC (eI .i64 v))=KN λx=>if x=l then v else h x:=by
 have e:eC (eI .i64 v)=[C.d (iD v)]:=rfl;rw [e,PJ (by simp [KN];omega)];have:=IK (n:=6) (q:=l) (g:=λl=>C.d (iD (h l))) (x:=C.d (iD v))
 have a:0+l*1=l:=by omega
 rw [a];refine Eq.trans this (BV λi _=>?_);by_cases e:i=l<;>simp [e]
theorem Hk{h a:Nat->Int}(b:∀l,l < 6->h l=a l):KN h=KN a:=BV λi hi=>by rw [b i hi]
theorem GO(s:Int):∀(n k:Nat),k<=n->Ay s k <+: Ay s n
  | 0, k, h => by have:k=0:=by omega
                  subst this;exact fa _
  | n + 1,k,h=>by
    rcases cL k (n+1) with a|a
    · rw [BT]
      exact(GO s n k (by omega)).trans (List.prefix_append _ _)
    · have:k=n+1:=by omega
      subst this;exact fa _
theorem GP{s:Int}{k n:Nat}{l:Int}(h:(Ay s n)[k]? = some l):(Ay s l.toNat).length=k:=by
 have g:=AK (bm h)
 have c:(Ay s (l.toNat+1))[(Ay s l.toNat).length]? = some l:=by
  rw [BT,if_pos g.2.2,bz (bJ _)];simp;omega
 have f:(Ay s n)[(Ay s l.toNat).length]? = some l:=by
  obtain⟨t,ht⟩:=GO s n (l.toNat+1) (by omega);rw [<-ht,bx (am.1 c).1];exact c
 have b:=C4 s n;rw [bZ] at b;obtain⟨e,j⟩:=am.1 h;obtain⟨d,i⟩:=am.1 f
 rcases d7 (Ay s l.toNat).length k with a|a|a
 ·have:=b _ _ d e a;omega
 ·exact a
 ·have:=b _ _ e d a;omega
theorem Ez{s:Int}{n l:Nat}:(l:Int)∈Ay s n↔l < n/\En s l=true:=by
 unfold Ay;simp only [bB,dB,cG];constructor
 ·rintro⟨a,ha,e⟩
  have:a=l:=by have e:((a:Nat):Int)=l:=e;omega
  subst this;exact ha
 ·intro h;exact⟨l,h,rfl⟩
def Li(n:Nat)(H:Nat->Nat->Int):List (List C):=Bc n λi=>KN (H i)
theorem GB(r:Nat->Nat)(n:Nat)(H:Nat->Nat->Int):(Li n H).map (C.Bh r)=Li n H:=by
 unfold Li Bc;rw [c6]
 exact db λi _=>by simp only [bC,TR,TH]
theorem Ua(n:Nat):Li n (λ_ _=>0)=List.replicate n [C.d (D.v (Value.int IntKind.i64 0)),C.d (D.v (Value.int IntKind.i64 0)),C.d (D.v (Value.int IntKind.i64 0)),C.d (D.v (Value.int IntKind.i64 0)),C.d (D.v (Value.int IntKind.i64 0)),C.d (D.v (Value.int IntKind.i64 0))]:=by
 unfold Li Bc;rw [List.map_const'];simp;exact .inr rfl
theorem QV{n q:Nat}{H:Nat->Nat->Int}(h:q < n):(Li n H)[0+((q:Nat):Int).toNat]? = some (KN (H q)):=by
 rw [bW,bL];exact CB (g:=λi=>KN (H i)) h
theorem QW{n q l:Nat}{v:Int}{H:Nat->Nat->Int}(a:l < 6):(Li n H).set (0+((q:Nat):Int).toNat) (Aj (KN (H q)) (0+((l:Nat):Int).toNat*1) (eC (eI .i64 v)))=Li n λi x=>if i=q/\x=l then v else H i x:=by
 rw [bW,bL,bL,TS a];unfold Li;rw [IK];refine BV λi _=>?_;by_cases e:i=q
 ·subst e;rw [if_pos rfl];exact Hk λl _=>by simp
 ·rw [if_neg e];exact Hk λl _=>by simp [e]
theorem E4{n:Nat}{H H':Nat->Nat->Int}(h:∀i,i < n->∀l,l < 6->H i l=H' i l):Li n H=Li n H':=BV λi hi=>Hk λl a=>h i hi l a
theorem Vl(n:Nat)(H:Nat->Nat->Int):(Li n H).length=n:=by simp [Li,Bc]
def Fw(a:A5):List (List D):=Bc a.nx.length λq=>PE λl=>CE a q l
theorem YS(a:A5):Li a.nx.length (λi l=>CE a i l)=(Fw a).map λr=>r.map .d:=by
 unfold Li Fw Bc;rw [c6]
 exact db λi _=>by simp only [bC,TR]
def Xo(a:A5):Prop:=a.nx.length<=64/\∀q,q < a.nx.length->∃row:List Int,a.nx[q]? = some row/\row.length=(Ac a.al).length/\∀(k:Nat) y,row[k]? = some y->0<=y/\y < a.nx.length
theorem Qj{a:A5}(h:Ax a=true):Xo a:=⟨by have:=Au h;omega,λq b=>Ip h b⟩
theorem OO(a:A5)(h:Xo a):Pure Tryz.prog TB 81 [A9 a] (.o (.d (.l (Fw a)))):=by
 have U:=h.1;have R:(Ac a.al).length<=6:=AZ a.al 6;refine eN Tryz.func81 rfl (by kernel_rfl) rfl ?_;intro Z b;(repeat first|refine aU rfl ?_);(refine Av rfl ?_;refine BU (λ_ _=>CS rfl rfl rfl) rfl ?_);(refine Av rfl ?_;refine BU (λ_ _=>Bw rfl) rfl ?_);(repeat first|refine sN rfl ?_ |refine tM rfl ?_ |refine aU rfl ?_ |refine Aa ?_);(refine pW rfl ?_ rfl (by rfl);refine Ee rfl rfl (by rfl) (by rfl) (bn rfl) (by omega) (by omega) (by omega) ?_);(repeat first|refine sN rfl ?_ |refine tM rfl ?_ |refine sP rfl (CA a.al) rfl ?_ |refine aU rfl ?_ |refine Aa ?_);refine aB ?_;refine Al.AS (α:={q:Nat // q<=a.nx.length}) (λ⟨q,z⟩=>[(1,.o (.ip (BR a))),(3,.o (.arr 0 6 0 a.nx.length)),(4,Ag (Ac a.al)),(18,Bu a.nx),(19,eI .i64 a.nx.length),(20,eI .i64 q)]) (λ⟨q,z⟩=>[(0,.cells 109 6 (Li a.nx.length λi l=>if i < q then CE a i l else 0))]) 1 (λ⟨q,z⟩=>a.nx.length - q) (⟨0,by omega⟩) [0] (Dn b rfl rfl) (by (simp[cX,zC,b,GB,Ua])) ?_;rintro⟨q,z⟩;(try dsimp only);(repeat first|refine s2 rfl λ_ u=>?_ |refine aU rfl ?_ |refine Aa ?_);(refine aC rfl ?_ ?_<;>rintro⟨⟩)
 ·have j : q < a.nx.length:=by (simp only[oZ] at *;omega)
  obtain⟨row,L,P,N⟩:=h.2 q j;have Q:=get_map (g:=CK) L;refine aK ?_;refine aS (aB ?_);(repeat first|refine tM rfl ?_ |(refine s4 rfl ‹_› rfl ?_ ?_;omega) |refine aU rfl ?_ |refine Aa ?_);refine aB ?_;refine Al.AS (α:={m:Nat // m<=6}) (λ⟨m,B⟩=>[(1,.o (.ip (BR a))),(3,.o (.arr 0 6 0 a.nx.length)),(4,Ag (Ac a.al)),(18,Bu a.nx),(19,eI .i64 a.nx.length),(20,eI .i64 q),(5,eI .i64 q),(6,Ag row),(25,eI .i64 m)]) (λ⟨m,B⟩=>[(0,.cells 109 6 (Li a.nx.length λi l=>if i < q then CE a i l else if i=q/\l < m then q else 0))]) 1 (λ⟨m,B⟩=>6 - m) (⟨0,by omega⟩) [0] (Dn b rfl rfl) (by (simp[cX,zC,b,GB])) ?_;rintro⟨m,B⟩;(try dsimp only);(repeat first|refine s2 rfl λ_ u=>?_ |refine aU rfl ?_ |refine Aa ?_);(refine aC rfl ?_ ?_<;>rintro⟨⟩)
  ·have r:m < 6:=by (simp only[oZ] at *;omega)
   have p:0+((m:Nat):Int).toNat*1+1<=6:=by omega
   have J:=QV (H:=λi l=>if i < q then CE a i l else if i=q/\l < m then q else 0) j;have w:=QW (n:=a.nx.length) (q:=q) (v:=q) (H:=λi l=>if i < q then CE a i l else if i=q/\l < m then q else 0) r
   have t:(Li a.nx.length λ(i x:Nat)=>if i=q/\x=m then (q:Int) else (λ(i l:Nat)=>if i < q then CE a i l else if i=q/\l < m then (q:Int) else 0) i x)=Li a.nx.length λi l=>if i < q then CE a i l else if i=q/\l < m+1 then (q:Int) else 0:=E4 λi _ l _=>by dsimp only;grind
   refine aK ?_;refine aS (aB ?_);(repeat first|(refine sM rfl ?_ ?_;first|exact tI|omega) |refine aU rfl ?_ |refine Aa ?_);(refine Av rfl ?_;refine KC ?_ rfl (by rfl);refine HO rfl rfl rfl rfl (J) rfl (p) ?_);(repeat first|(refine sM rfl ?_ ?_;first|exact tI|omega) |refine aU rfl ?_ |refine Aa ?_);refine⟨⟨m+1,by omega⟩,by dsimp only;(omega),[0],?_⟩;rw [w,t];simp[cX,zC,b,GB]
  ·obtain rfl:m=6:=by (simp only[oZ] at *;omega)
   have s:=E4 (n:=a.nx.length) (H:=λi l=>if i < q then CE a i l else if i=q/\l < 6 then (q:Int) else 0) (H':=λi l=>if i < q then CE a i l else if i=q then (if (l:Int)∈(Ac a.al).take 0 then CE a q l else (q:Int)) else 0) λi _ l f=>by simp [f]
   rw [s];refine aE ?_;(repeat first|refine sN rfl ?_ |refine tM rfl ?_ |refine aU rfl ?_ |refine Aa ?_);refine aB ?_;refine Al.AS (α:={k:Nat // k<=(Ac a.al).length}) (λ⟨k,G⟩=>[(1,.o (.ip (BR a))),(3,.o (.arr 0 6 0 a.nx.length)),(4,Ag (Ac a.al)),(18,Bu a.nx),(19,eI .i64 a.nx.length),(20,eI .i64 q),(5,eI .i64 q),(6,Ag row),(35,Ag (Ac a.al)),(36,eI .i64 (Ac a.al).length),(37,eI .i64 k)]) (λ⟨k,G⟩=>[(0,.cells 109 6 (Li a.nx.length λi l=>if i < q then CE a i l else if i=q then (if (l:Int)∈(Ac a.al).take k then CE a q l else (q:Int)) else 0))]) 1 (λ⟨k,G⟩=>(Ac a.al).length - k) (⟨0,by omega⟩) [0] (Dn b rfl rfl) (by (simp[cX,zC,b,GB])) ?_;rintro⟨k,G⟩;(try dsimp only);(repeat first|refine s2 rfl λ_ u=>?_ |refine aU rfl ?_ |refine Aa ?_);(refine aC rfl ?_ ?_<;>rintro⟨⟩)
   ·obtain⟨l,f⟩:=get_some (l:=Ac a.al) (k:=k) (by (simp only[oZ] at *;omega))
    have S:=get_map (g:=Bp) f;have F:=AK (bm f);have A:=GP f;obtain⟨y,K⟩:=get_some (l:=row) (k:=k) (by (simp only[oZ] at *;omega));have M:=get_map (g:=Bp) K
    obtain⟨m,rfl⟩:∃m:Nat,l=m:=⟨l.toNat,by omega⟩
    have I:CE a q m=y:=by
     unfold CE;rw [if_pos F.2.2,A];simp [List.getD,L,K]
    have r:m < 6:=by omega
    have p:0+((m:Nat):Int).toNat*1+1<=6:=by omega
    have J:=QV (H:=λi l=>if i < q then CE a i l else if i=q then (if (l:Int)∈(Ac a.al).take k then CE a q l else (q:Int)) else 0) j;have w:=QW (n:=a.nx.length) (q:=q) (v:=y) (H:=λi l=>if i < q then CE a i l else if i=q then (if (l:Int)∈(Ac a.al).take k then CE a q l else (q:Int)) else 0) r
    have t:(Li a.nx.length λ(i x:Nat)=>if i=q/\x=m then y else (λ(i l:Nat)=>if i < q then CE a i l else if i=q then (if (l:Int)∈(Ac a.al).take k then CE a q l else (q:Int)) else 0) i x)=Li a.nx.length λi l=>if i < q then CE a i l else if i=q then (if (l:Int)∈(Ac a.al).take (k+1) then CE a q l else (q:Int)) else 0:=E4 λi _ l _=>by
     try dsimp only
     rw [bF,f];by_cases e:i=q
     ·subst e
      by_cases c:l=m
      ·subst c;simp [I]
      ·have T:¬(l:Int)=(m:Int):=by omega
       simp [c,T]
     ·simp [e]
    refine aK ?_;refine aS (aB ?_);(repeat first|refine tM rfl ?_ |(refine s4 rfl ‹_› rfl ?_ ?_;omega) |refine aU rfl ?_ |refine Aa ?_);refine rG (LU [9]) (by kernel_rfl) ?_;(repeat first|(refine sM rfl ?_ ?_;first|exact tI|omega) |(refine s4 rfl ‹_› rfl ?_ ?_;omega));(refine Av rfl ?_;refine KC ?_ rfl (by rfl);refine HO rfl rfl rfl rfl (J) rfl (p) ?_);(repeat first|(refine sM rfl ?_ ?_;first|exact tI|omega) |refine aU rfl ?_ |refine Aa ?_);refine⟨⟨k+1,by (simp only[oZ] at *;omega)⟩,by dsimp only;((simp only[oZ] at *;omega)),[0],?_⟩;rw [w,t];simp[cX,zC,b,GB]
   ·obtain rfl:k=(Ac a.al).length:=by (simp only[oZ] at *;omega)
    have s:=E4 (n:=a.nx.length) (H:=λi l=>if i < q then CE a i l else if i=q then (if (l:Int)∈(Ac a.al).take (Ac a.al).length then CE a q l else (q:Int)) else 0) (H':=λi l=>if i < q+1 then CE a i l else 0) λi _ l f=>by
     try dsimp only
     rw [bO];by_cases e:i=q
     ·subst e
      simp only [Nat.lt_irrefl,if_false,if_true,dy];by_cases c:En a.al l=true
      ·rw [if_pos (Ez.2 ⟨f,c⟩)]
      ·rw [if_neg (λh=>c (Ez.1 h).2)];unfold CE;rw [if_neg (by simpa using c)]
     ·by_cases c:i < q
      ·rw [if_pos c,if_pos (by omega)]
      ·rw [if_neg c,if_neg e,if_neg (by omega)]
    rw [s];refine aE ?_;(repeat first|(refine sM rfl ?_ ?_;first|exact tI|omega) |refine aU rfl ?_ |refine Aa ?_);refine⟨⟨q+1,by omega⟩,by dsimp only;(omega),[0],?_⟩;simp[cX,zC,b,GB]
 ·obtain rfl:q=a.nx.length:=by (simp only[oZ] at *;omega)
  have t:=E4 (n:=a.nx.length) (H:=λi l=>if i < a.nx.length then CE a i l else 0) (H':=λi l=>CE a i l) λi hi l _=>by rw [if_pos hi]
  rw [t];refine aE ?_;(repeat first|refine tM rfl ?_ |refine aU rfl ?_ |refine Aa ?_);refine Al.freeze [0] [(2,.o (.d (.l (Fw a))))] ⟨⟨_,rfl,.o (.full (by simp) rfl (YS a) (by simp [Vl]))⟩,trivial⟩ ?_;refine aR ⟨_,rfl,rfl⟩
theorem Fv(a:A5)(h:Ax a=true):Pure Tryz.prog TB 81 [A9 a] (.o (.d (.l (Fw a)))):=OO a (Qj h)
end Go.Am
namespace Go.Am
open Go
def Iz:List Int->List (List Int)->List Int
 | _::zs,c::cs=>c.flatMap λq=>(Iz zs cs).map λr=>q*AE zs+r
 | _,_=>[0]
theorem Tb:∀ {zs:List Int} {cs:List (List Int)},Ev zs cs->∀out:List Int,Fj zs cs out=out.flatMap λo=>(Iz zs cs).map λr=>o*AE zs+r:=by
 intro zs cs h
 induction h with
 | nil=>intro out;simp [Fj,Iz,AE]
 | @cons z c zs cs _ _ _ a=>
  intro out;rw [Fj,a,List.flatMap_assoc];congr 1;funext o;rw [List.flatMap_map,Iz,List.map_flatMap];congr 1;funext q;rw [c6];congr 1;funext r;simp only [bC,AE];rw [dQ,dO];omega
theorem RD{zs:List Int}{cs:List (List Int)}(h:Ev zs cs):Fj zs cs [0]=Iz zs cs:=by
 rw [Tb h];simp
theorem IE:∀(zs ws:List Int),AE (zs++ws)=AE zs*AE ws
 | [],ws=>by simp [AE]
 | z::zs,ws=>by simp [AE,IE zs ws,dO]
theorem NG:∀(zs ws:List Int) (n:Int),(∀w∈ws,0 < w)->Bs (zs++ws) n=Bs zs (n / AE ws)++Bs ws n
 | [],ws,n,_=>rfl
 | z::zs,ws,n,h=>by
  have a:=Mh h;simp only [cQ,Bs,NG zs ws n h,IE];rw [eZ (AE zs),Int.ediv_ediv_of_nonneg (by omega)]
def Xf(l:List Sys)(node letter:Int):List (List Int):=l.zipWith (λs q=>BW s q letter) (Bs (l.map (·.st)) node)
theorem VN{l:List Sys}(h:∀s∈l,EW s=true)(d:l.length<=3){letter:Int}(g:0<=letter)(f:letter < 6)(node:Int):Ev (l.map (·.st)) (Xf l node letter):=by
 have b:Dm ⟨l,[],[],0,0,0⟩:=⟨h,λa ha=>(by cases ha),d,by simp⟩
 have c:Ae ⟨l,[],[],0,0,0⟩=l.map (·.st):=by simp [Ae]
 have e:=Hy b node;have:=Hv b e g f;rw [c] at this;unfold Jm at this
 simpa [Xf] using this
end Go.Am
namespace Go.Am
open Go Go.Proofs
set_option maxHeartbeats 1000000
set_option maxRecDepth 4000
attribute [local irreducible] AP BH Lex A4 Al Spec
variable {TB:Bg}
theorem ET{P:Program}{Z:Ctx}{d:Option Tmp}{ty:TypeId}{pos:String}{af:Array Edge}{g:Option (Nat×Bool)}{f:Env}{σ:Ab}{nx:Nat}{t:TypeId}{x:Operand}{c:D}{cs:List D}{n:Nat}[h:Dl P t false n](e:ev f x=some (.o (.ip cs)))(b:cs[0]? = some c):AP P TB Z ⟨d,.load t x,ty,pos,af,g⟩ f σ nx (.o (.d c)):=by
 cases cs with
 | nil=>cases b
 | cons a l=>injection b with b;subst b;exact Ou e
end Go.Am
namespace Go.Am
open Go
structure Jv where
 p:Int
 l:Int
 ns:List Int
structure VA where
 seen:List Bool
 fresh:List Int
 found:Bool
def sn(seen:List Bool)(n:Int):Bool:=seen.getD n.toNat false
def OU(goal:Int->Bool)(st:VA)(n:Int):VA:=if sn st.seen n then st else ⟨st.seen.set n.toNat true,st.fresh++[n],st.found || goal n⟩
def Np(goal:Int->Bool)(seen:List Bool)(nodes:List Int):VA:=nodes.foldl (OU goal) ⟨seen,[],false⟩
theorem WU{seen:List Bool}{n m:Int}(a:0<=n/\n.toNat < seen.length)(b:0<=m):sn (seen.set n.toNat true) m=(sn seen m || decide (m=n)):=by
 unfold sn;by_cases h:m=n
 ·subst h;simp [List.getD,a.2]
 ·have:n.toNat≠m.toNat:=by omega
  simp [List.getD,dN this,h]
theorem count_set{seen:List Bool}{k:Nat}(h:seen[k]? = some false):(seen.set k true).count true=seen.count true+1:=by
 induction seen generalizing k with
 | nil=>simp at h
 | cons a l b=>
  cases k with
  | zero=>simp at h;subst h;simp
  | succ k=>
   have:=b (k:=k) (by simpa using h);simp only [List.set_cons_succ,List.count_cons,this];omega
structure Xe (goal:Int->Bool) (N:Nat) (seen:List Bool) (nodes:List Int) (st:VA):Prop where
 len:st.seen.length=N
 snI:∀n:Int,0<=n->(sn st.seen n=true↔sn seen n=true\/n∈nodes)
 fr:∀n:Int,n∈st.fresh↔n∈nodes/\sn seen n=false
 nd:st.fresh.Nodup
 fd:st.found=st.fresh.any goal
 cnt:st.seen.count true=seen.count true+st.fresh.length
theorem PZ{goal:Int->Bool}{N:Nat}{seen:List Bool}{nodes:List Int}(r:seen.length=N)(j:∀n∈nodes,0<=n/\n < N):Xe goal N seen nodes (Np goal seen nodes):=by
 have key : ∀ (l done:List Int) (st:VA),(∀n∈l,0<=n/\n < N)->(∀n∈done,0<=n)->Xe goal N seen done st->Xe goal N seen (done++l) (l.foldl (OU goal) st):=by
  intro l
  induction l with
  | nil=>intro done st _ _ h;simpa using h
  | cons a l p=>
   intro done st o t h;have ha:=o a (by simp);rw [cY,show done++a::l=(done++[a])++l by simp];refine p (done++[a]) _ (λn j=>o n (by simp [j])) (λn j=>by rcases bE.1 j with f|f;exact t n f;simp at f;omega) ?_;have m:=h.len
   have g:∀n:Int,n∈done++[a]↔n∈done\/n=a:=λn=>by simp
   unfold OU;by_cases b:sn st.seen a=true
   ·rw [if_pos b]
    have f:=(h.snI a ha.1).1 b;refine⟨h.len,λn i=>?_,λn=>?_,h.nd,h.fd,h.cnt⟩
    ·rw [h.snI n i,g]
     constructor
     ·rintro(c|c);exact .inl c;exact .inr (.inl c)
     ·rintro(c|c|rfl);exact .inl c;exact .inr c;exact f
    ·rw [h.fr n,g]
     constructor
     ·rintro⟨c,d⟩;exact⟨.inl c,d⟩
     ·rintro⟨c|rfl,d⟩
      ·exact⟨c,d⟩
      ·rcases f with f|f
       ·rw [f] at d;cases d
       ·exact⟨f,d⟩
   ·rw [if_neg b]
    have f:sn seen a=false/\a∉done:=by
     have c:¬(sn seen a=true\/a∈done):=λd=>b ((h.snI a ha.1).2 d);exact⟨by simpa using λd=>c (.inl d),λd=>c (.inr d)⟩
    have s:st.seen[a.toNat]? = some false:=by
     unfold sn at b
     have:a.toNat < st.seen.length:=by omega
     simp [List.getD,this] at b;rw [bt this,b]
    refine⟨by simpa using h.len,λn i=>?_,λn=>?_,?_,?_,?_⟩
    ·rw [WU ⟨ha.1,by omega⟩ i,g,cu,h.snI n i];simp;grind
    ·simp only [bE,eF,h.fr n]
     grind
    ·refine dp.2 ⟨h.nd,by simp,λx q y k=>?_⟩
     simp at k;subst k;intro e;subst e;exact f.2 ((h.fr x).1 q).1
    ·simp [List.any_append,h.fd]
    ·rw [count_set s,h.cnt];simp;omega
 have:=key nodes [] ⟨seen,[],false⟩ j (by simp) ⟨r,λn _=>by simp,λn=>by simp,.nil,rfl,by simp⟩
 simpa [Np] using this
theorem LY:∀ {a b c:List Int},OW a b->OW b c->OW a c
 | [],_,_,h,_=>h.elim
 | _::_,[],_,h,_=>h.elim
 | _::_,_::_,[],_,h=>h.elim
 | x::a,y::b,z::c,h,k=>by
  simp only [OW] at *
  rcases h with h|⟨h,d⟩<;>rcases k with k|⟨k,k'⟩
  ·exact .inl (by omega)
  ·exact .inl (by omega)
  ·exact .inl (by omega)
  ·exact .inr ⟨by omega,LY d k'⟩
theorem MQ:∀ {a:List Int},¬OW a a
 | [],h=>h
 | x::a,h=>by rcases h with h|⟨_,h⟩;omega;exact MQ h
theorem DT{a b c:List Int}(h:slt a b)(k:slt b c):slt a c:=by
 unfold slt at *
 rcases h with h|⟨h,d⟩<;>rcases k with k|⟨k,k'⟩
 ·exact .inl (by omega)
 ·exact .inl (by omega)
 ·exact .inl (by omega)
 ·exact .inr ⟨by omega,LY d k'⟩
theorem H0{a:List Int}:¬slt a a:=by
 rintro(h|⟨_,h⟩);omega;exact MQ h
theorem OE(a b:List Int):slt a b\/a=b\/slt b a:=by
 rcases d7 a.length b.length with h|h|h
 ·exact .inl (.inl h)
 ·rcases MR h with c|c|c
  ·exact .inl (.inr ⟨h,c⟩)
  ·exact .inr (.inl c)
  ·exact .inr (.inr (.inr ⟨h.symm,c⟩))
 ·exact .inr (.inr (.inl h))
theorem QQ{a b:List Int}{l m:Int}(h:slt a b):slt (a++[l]) (b++[m]):=by
 rcases h with h|⟨h,c⟩
 ·exact .inl (by simp;omega)
 ·exact .inr ⟨by simp;omega,(Gg h).2 (.inl c)⟩
theorem TW{a:List Int}{l m:Int}(h:l < m):slt (a++[l]) (a++[m]):=.inr ⟨by simp,(Gg rfl).2 (.inr ⟨rfl,h⟩)⟩
theorem TY{a b:List Int}{l m:Int}:slt (a++[l]) (b++[m])->slt a b\/a=b/\l < m:=by
 intro h
 rcases OE a b with c|c|c
 ·exact .inl c
 ·subst c
  rcases h with h|⟨h,e⟩
  ·simp at h
  ·rcases(Gg rfl).1 e with d|d
   ·exact absurd d MQ
   ·exact .inr d
 ·exact absurd (DT h (QQ c)) H0
theorem TX{a:List Int}{l:Int}:slt a (a++[l]):=.inl (by simp)
structure FI (g:Gr) (seen:List Bool) (steps:List Jv) (ws:List (List Int)) (i j:Nat):Prop where
 slen:seen.length=g.N
 wlen:ws.length=steps.length
 chain:∀(t:Nat) s,steps[t]? = some s->(s.p = -1/\ws[t]? = some [])\/∃(q:Nat) (w:List Int),s.p=(q:Int)/\q < t/\ws[q]? = some w/\ws[t]? = some (w++[s.l])/\s.l∈g.ls
 rch:∀(t:Nat) s w,steps[t]? = some s->ws[t]? = some w->∀n∈s.ns,reach g w g.s0 n
 ov:∀w∈ws,over g w
 min:∀(t:Nat) s w,steps[t]? = some s->ws[t]? = some w->∀n∈s.ns,∀u,over g u->slt u w->¬reach g u g.s0 n
 ord:ws.Pairwise slt
 par:∀w∈ws,w=[]\/∃(p:Nat) (v:List Int) (l:Int),ws[p]? = some v/\w=v++[l]/\l∈g.ls/\(p < i\/p=i/\∃j',j' < j/\g.ls[j']? = some l)
 snI:∀n:Int,0<=n->(sn seen n=true↔∃s∈steps,n∈s.ns)
 done:∀(t:Nat) s,steps[t]? = some s->∀l,(t < i/\l∈g.ls\/t=i/\∃j',j' < j/\g.ls[j']? = some l)->∀n∈s.ns,∀y∈g.succ n l,sn seen y=true
 nogoal:∀s∈steps,∀n∈s.ns,g.goal n=false
 inn:∀s∈steps,∀n∈s.ns,0<=n/\n < g.N
 start:sn seen g.s0=true
 cnt:steps.length<=seen.count true
 le:i<=steps.length
 nd:∀s∈steps,s.ns.Nodup
theorem FI.XQ{g:Gr}{seen:List Bool}{steps:List Jv}{ws:List (List Int)}{i j:Nat}(h:FI g seen steps ws i j):steps.length<=g.N:=by
 have b:=h.cnt;have a:seen.count true<=seen.length:=List.count_le_length;rw [h.slen] at a;omega
theorem FI.Vp{g:Gr}(I:FM g){seen:List Bool}{steps:List Jv}{ws:List (List Int)}{i j:Nat}(h:FI g seen steps ws i j){wi:List Int}{lj:Int}(J:ws[i]? = some wi)(Q:g.ls[j]? = some lj) :
 ∀(n:Nat) (u:List Int),u.length=n->over g u->slt u (wi++[lj])->∀x,reach g u g.s0 x->sn seen x=true:=by
 intro n
 induction n with
 | zero=>
  intro u B _ _ x p;have:u=[]:=bM.1 B;subst this;have p:g.s0=x:=p;rw [<-p];exact h.start
 | succ n L=>
  intro u B P w x p
  have q:u≠[]:=λe=>by subst e;simp at B
  obtain⟨v,l,rfl⟩:∃v l,u=v++[l]:=⟨u.dropLast,u.getLast q,(dI q).symm⟩
  obtain⟨m,H,F⟩:=CT.1 p;obtain⟨k,K⟩:=DS.1 P;have G:=L v (by simpa using B) k (DT TX w) m H;have r:=Cw I k I.s0 H;obtain⟨s,N,c⟩:=(h.snI m r.1).1 G;obtain⟨t,ht⟩:=dv N;obtain⟨wt,a⟩:∃wt,ws[t]? = some wt:=get_some (by have:=(am.1 ht).1;rw [h.wlen];exact this);have y:¬slt v wt:=λd=>h.min t s wt ht a m c v k d H;have f:=TY w
  have M:t<=i:=by
   rcases cL i t with d|d
   ·exfalso
    obtain⟨V,U⟩:=am.1 J;obtain⟨T,S⟩:=am.1 a;have A:=(bZ.1 h.ord) i t V T d;rw [U,S] at A
    rcases OE v wt with o|o|o
    ·exact y o
    ·subst o
     rcases f with b|⟨b,_⟩
     ·exact H0 (DT A b)
     ·subst b;exact H0 A
    ·rcases f with b|⟨b,_⟩
     ·exact H0 (DT (DT A o) b)
     ·subst b;exact H0 (DT A o)
   ·exact d
  refine h.done t s ht l ?_ m c x F
  rcases cL t i with d|d
  ·exact .inl ⟨d,K⟩
  ·have:t=i:=by omega
   subst this;rw [J] at a
   injection a with a
   subst a
   rcases f with b|⟨b,R⟩
   ·exact absurd b y
   ·obtain⟨j',z⟩:=dv K
    exact .inr ⟨rfl,j',SL I.srt z Q R,z⟩
theorem BE.found{g:Gr}(l:FM g){seen:List Bool}{steps:List Jv}{ws:List (List Int)}{i j:Nat}(h:FI g seen steps ws i j){wi:List Int}{lj:Int}(d:ws[i]? = some wi)(p:g.ls[j]? = some lj){n x:Int}{s:Jv}(r:steps[i]? = some s)(t:n∈s.ns)(q:x∈g.succ n lj)(k:g.goal x=true):BE g (some (wi++[lj])):=by
 have v:=bm p;refine⟨DS.2 ⟨h.ov wi (bm d),v⟩,⟨x,CT.2 ⟨n,h.rch i s wi r d n t,q⟩,k⟩,λu o w f=>?_⟩;obtain⟨y,m,a⟩:=w;have b:=h.Vp l d p u.length u rfl o f y m;obtain⟨s',e,c⟩:=(h.snI y (Cw l o l.s0 m).1).1 b;rw [h.nogoal s' e y c] at a;cases a
theorem BE.aO{g:Gr}(k:FM g){seen:List Bool}{steps:List Jv}{ws:List (List Int)}(h:FI g seen steps ws steps.length 0):BE g none:=by
 have key:∀(n:Nat) (u:List Int),u.length=n->over g u->∀x,reach g u g.s0 x->sn seen x=true:=by
  intro n
  induction n with
  | zero=>
   intro u b _ x a;have:u=[]:=bM.1 b;subst this;have a:g.s0=x:=a;rw [<-a];exact h.start
  | succ n y=>
   intro u b z x a
   have d:u≠[]:=λe=>by subst e;simp at b
   obtain⟨v,l,rfl⟩:∃v l,u=v++[l]:=⟨u.dropLast,u.getLast d,(dI d).symm⟩
   obtain⟨m,w,p⟩:=CT.1 a;obtain⟨f,A⟩:=DS.1 z;have r:=y v (by simpa using b) f m w;obtain⟨s,q,i⟩:=(h.snI m (Cw k f k.s0 w).1).1 r;obtain⟨t,ht⟩:=dv q;exact h.done t s ht l (.inl ⟨(am.1 ht).1,A⟩) m i x p
 rintro u b ⟨x,a,j⟩;have o:=key u.length u rfl b x a;obtain⟨s,q,c⟩:=(h.snI x (Cw k b k.s0 a).1).1 o;rw [h.nogoal s q x c] at j;cases j
theorem FI.XX{g:Gr}{seen:List Bool}{steps:List Jv}{ws:List (List Int)}{i:Nat}(h:FI g seen steps ws i g.ls.length)(hi:i < steps.length):FI g seen steps ws (i+1) 0:=by
 refine⟨h.slen,h.wlen,h.chain,h.rch,h.ov,h.min,h.ord,λw f=>?_,h.snI,λt s j l k=>?_,h.nogoal,h.inn,h.start,h.cnt,by omega,h.nd⟩
 ·rcases h.par w f with b|⟨p,v,l,b,d,c,e⟩
  ·exact .inl b
  ·exact .inr ⟨p,v,l,b,d,c,.inl (by rcases e with e|⟨e,_⟩<;>omega)⟩
 ·refine h.done t s j l ?_
  rcases k with ⟨b,d⟩|⟨_,j',b,_⟩
  ·rcases cL t i with c|c
   ·exact .inl ⟨c,d⟩
   ·obtain⟨j',a⟩:=dv d
    exact .inr ⟨by omega,j',(am.1 a).1,a⟩
  ·omega
def Dd(steps:List Jv)(p l:Int)(fresh:List Int):List Jv:=if fresh=[] then steps else steps++[⟨p,l,fresh⟩]
def ZS(ws:List (List Int))(w fresh:List Int):List (List Int):=if fresh=[] then ws else ws++[w]
structure Chain (ls:List Int) (steps:List Jv) (ws:List (List Int)):Prop where
 wlen:ws.length=steps.length
 chain:∀(t:Nat) s,steps[t]? = some s->(s.p = -1/\ws[t]? = some [])\/∃(q:Nat) (w:List Int),s.p=(q:Int)/\q < t/\ws[q]? = some w/\ws[t]? = some (w++[s.l])/\s.l∈ls
theorem Er{α:Type}{l:List α}{x y:α}{t:Nat}(h:(l++[x])[t]? = some y):l[t]? = some y\/t=l.length/\y=x:=by
 rcases cL t l.length with a|a
 ·rw [bx a] at h;exact .inl h
 ·rw [bz a] at h
  have b:=(am.1 h).1;simp at b
  have:t=l.length:=by omega
  subst this;simp at h;exact .inr ⟨rfl,h.symm⟩
theorem Gt{α:Type}{l:List α}{x y:α}{t:Nat}(h:l[t]? = some y):(l++[x])[t]? = some y:=by
 rw [bx (am.1 h).1];exact h
theorem Chain.app{ls:List Int}{steps:List Jv}{ws:List (List Int)}(h:Chain ls steps ws){i:Nat}{wi:List Int}{l:Int}{ns:List Int}(d:ws[i]? = some wi)(f:l∈ls):Chain ls (steps++[⟨i,l,ns⟩]) (ws++[wi++[l]]):=by
 have hi:=(am.1 d).1;refine⟨by simp [h.wlen],λt s e=>?_⟩
 rcases Er e with b|⟨b,a⟩
 ·rcases h.chain t s b with ⟨a,c⟩|⟨q,w,a,c,k,j,g⟩
  ·exact .inl ⟨a,Gt c⟩
  ·exact .inr ⟨q,w,a,c,Gt k,Gt j,g⟩
 ·subst a
  refine .inr ⟨i,wi,rfl,?_,Gt d,?_,f⟩
  ·rw [b,<-h.wlen];exact hi
  ·rw [b,<-h.wlen];simp
theorem FI.QX{g:Gr}{seen:List Bool}{steps:List Jv}{ws:List (List Int)}{i j:Nat}(h:FI g seen steps ws i j):Chain g.ls steps ws:=⟨h.wlen,h.chain⟩
theorem FI.visit{g:Gr}(Q:FM g){seen:List Bool}{steps:List Jv}{ws:List (List Int)}{i j:Nat}(h:FI g seen steps ws i j){wi:List Int}{lj:Int}(K:ws[i]? = some wi)(U:g.ls[j]? = some lj){s:Jv}(hs:steps[i]? = some s)
 {R:List Int} (hR:∀y,y∈R↔∃n∈s.ns,y∈g.succ n lj) {st:VA} (z:Xe g.goal g.N seen R st) (hf:st.found=false):FI g st.seen (Dd steps i lj st.fresh) (ZS ws (wi++[lj]) st.fresh) i (j+1):=by
 have hl:=bm U
 have hRin:∀y∈R,0<=y/\y < g.N:=λy J=>by
  obtain⟨n,e,J⟩:=(hR y).1 J;exact Q.inn n (h.inn s (bm hs) n e) lj hl y J
 have q:∀n:Int,0<=n->sn seen n=true->sn st.seen n=true:=λn e hx=>(z.snI n e).2 (.inl hx)
 have S:∀n∈st.fresh,g.goal n=false:=λn e=>by
  have:=z.fd;rw [hf] at this;have o:=List.any_eq_false.1 this.symm n e
  simpa using o
 have L:∀w∈ws,w=[]\/∃(p:Nat) (v:List Int) (l:Int),ws[p]? = some v/\w=v++[l]/\l∈g.ls/\(p < i\/p=i/\∃j',j' < j+1/\g.ls[j']? = some l):=λw K=>by
  rcases h.par w K with c|⟨p,v,l,c,o,f,k⟩
  ·exact .inl c
  ·refine .inr ⟨p,v,l,c,o,f,?_⟩
   rcases k with k|⟨k,j',h5,h6⟩
   ·exact .inl k
   ·exact .inr ⟨k,j',by omega,h6⟩
 have I:∀(t:Nat) s',steps[t]? = some s'->∀l,(t < i/\l∈g.ls\/t=i/\∃j',j' < j+1/\g.ls[j']? = some l)->∀n∈s'.ns,∀y∈g.succ n l,sn st.seen y=true:=by
  intro t s' d l H n e y J
  have B:0<=y/\y < g.N:=by
   refine Q.inn n (h.inn s' (bm d) n e) l ?_ y J
   rcases H with ⟨_,c⟩|⟨_,j',_,c⟩
   ·exact c
   ·exact bm c
  rcases H with c|⟨c,j',o,f⟩
  ·exact q y B.1 (h.done t s' d l (.inl c) n e y J)
  ·subst c
   rcases dZ.1 o with k|k
   ·exact q y B.1 (h.done t s' d l (.inr ⟨rfl,j',k,f⟩) n e y J)
   ·subst k
    rw [U] at f
    injection f with f
    subst f;rw [hs] at d
    injection d with d
    subst d;exact(z.snI y B.1).2 (.inr ((hR y).2 ⟨n,e,J⟩))
 unfold Dd ZS;by_cases r:st.fresh=[]
 ·rw [if_pos r,if_pos r]
  have M:∀n:Int,0<=n->(sn st.seen n=true↔sn seen n=true):=λn e=>by
   rw [z.snI n e];refine⟨λc=>?_,.inl⟩
   rcases c with c|c
   ·exact c
   ·rcases Bool.eq_false_or_eq_true (sn seen n) with o|o
    ·exact o
    ·have:=(z.fr n).2 ⟨c,o⟩
     rw [r] at this;cases this
  refine⟨z.len,h.wlen,h.chain,h.rch,h.ov,h.min,h.ord,L,λn e=>by rw [M n e];exact h.snI n e,I,h.nogoal,h.inn,q _ Q.s0.1 h.start,?_,h.le,h.nd⟩;rw [z.cnt,r];exact h.cnt
 ·rw [if_neg r,if_neg r]
  have V:=h.QX.app (ns:=st.fresh) K hl;have x:∀n∈st.fresh,n∈R/\sn seen n=false:=λn e=>(z.fr n).1 e
  have hbig:∀w∈ws,slt w (wi++[lj]):=by
   intro w F
   rcases h.par w F with rfl|⟨p,v,l,c,rfl,f,k⟩
   ·exact .inl (by simp)
   ·rcases k with k|⟨k,j',h5,h6⟩
    ·obtain⟨a1,a2⟩:=am.1 c
     obtain⟨b1,b2⟩:=am.1 K;have h7:=(bZ.1 h.ord) p i a1 b1 k;rw [a2,b2] at h7;exact QQ h7
    ·subst k
     rw [K] at c
     injection c with c
     subst c;obtain⟨a1,a2⟩:=am.1 h6;obtain⟨b1,b2⟩:=am.1 U;have h7:=(bZ.1 Q.srt) j' j a1 b1 h5;rw [a2,b2] at h7;exact TW h7
  have P:∀n∈st.fresh,∃m∈s.ns,n∈g.succ m lj:=λn e=>(hR n).1 (x n e).1;refine⟨z.len,V.wlen,V.chain,λt s' w d G n e=>?_,λw F=>?_,λt s' w d G n e u hu T hr=>?_,?_,λw F=>?_,λn e=>?_,λt s' d l H n e y J=>?_,λs' d n e=>?_,λs' d n e=>?_,q _ Q.s0.1 h.start,?_,?_,λs' d=>?_⟩
  ·rcases Er d with c|⟨c,o⟩
   ·rcases Er G with f|⟨f,k⟩
    ·exact h.rch t s' w c f n e
    ·have:=(am.1 c).1
     rw [h.wlen] at f;omega
   ·subst o
    rcases Er G with f|⟨f,k⟩
    ·have:=(am.1 f).1
     rw [h.wlen] at this;omega
    ·subst k
     obtain⟨m,hm,hnm⟩:=P n e;exact CT.2 ⟨m,h.rch i s wi hs K m hm,hnm⟩
  ·rcases bE.1 F with c|c
   ·exact h.ov w c
   ·simp at c;subst c
    exact DS.2 ⟨h.ov wi (bm K),hl⟩
  ·rcases Er d with c|⟨c,o⟩
   ·rcases Er G with f|⟨f,k⟩
    ·exact h.min t s' w c f n e u hu T hr
    ·have:=(am.1 c).1
     rw [h.wlen] at f;omega
   ·subst o
    rcases Er G with f|⟨f,k⟩
    ·have:=(am.1 f).1
     rw [h.wlen] at this;omega
    ·subst k
     have:=h.Vp Q K U u.length u rfl hu T n hr;rw [(x n e).2] at this;cases this
  ·refine dr.2 ⟨h.ord,by simp,λa ha b hb=>?_⟩
   simp at hb;subst hb;exact hbig a ha
  ·rcases bE.1 F with c|c
   ·rcases L w c with o|⟨p,v,l,o,f,k,h5⟩
    ·exact .inl o
    ·exact .inr ⟨p,v,l,Gt o,f,k,h5⟩
   ·simp at c;subst c
    exact .inr ⟨i,wi,lj,Gt K,rfl,hl,.inr ⟨rfl,j,by omega,U⟩⟩
  ·rw [z.snI n e,h.snI n e]
   constructor
   ·rintro(⟨s',d,A⟩|hnR)
    ·exact⟨s',cd _ d,A⟩
    ·rcases Bool.eq_false_or_eq_true (sn seen n) with o|o
     ·obtain⟨s',d,A⟩:=(h.snI n e).1 o
      exact⟨s',cd _ d,A⟩
     ·exact⟨⟨i,lj,st.fresh⟩,cn _ (by simp),(z.fr n).2 ⟨hnR,o⟩⟩
   ·rintro⟨s',d,A⟩
    rcases bE.1 d with c|c
    ·exact .inl ⟨s',c,A⟩
    ·simp at c;subst c
     exact .inr (x n A).1
  ·rcases Er d with c|⟨c,o⟩
   ·exact I t s' c l H n e y J
   ·have:=(am.1 hs).1
    rcases H with ⟨f,_⟩|⟨f,_⟩<;>omega
  ·rcases bE.1 d with c|c
   ·exact h.nogoal s' c n e
   ·simp at c;subst c;exact S n e
  ·rcases bE.1 d with c|c
   ·exact h.inn s' c n e
   ·simp at c;subst c;exact hRin n (x n e).1
  ·have c:=z.cnt
   have o:=h.cnt;have f:0 < st.fresh.length:=List.length_pos_iff.2 r;simp;omega
  ·have:=h.le;simp;omega
  ·rcases bE.1 d with c|c
   ·exact h.nd s' c
   ·simp at c;subst c;exact z.nd
theorem FI.init{g:Gr}(q:FM g){st:VA}(j:Xe g.goal g.N (List.replicate g.N false) [g.s0] st)(r:st.found=false):st.fresh=[g.s0]/\FI g st.seen [⟨-1,0,[g.s0]⟩] [[]] 0 0:=by
 have hno:∀n,sn (List.replicate g.N false) n=false:=λn=>by
  unfold sn;by_cases h:n.toNat < g.N<;>simp [List.getD,h]
 have d:∀n,n∈st.fresh↔n=g.s0:=λn=>by rw [j.fr n];simp [hno]
 have k:st.fresh=[g.s0]:=by
  have i:=j.nd;generalize st.fresh=l at d i
  cases l with
  | nil=>have:=(d g.s0).2 rfl;cases this
  | cons a l=>
   have ha:=(d a).1 (by simp);subst ha
   cases l with
   | nil=>rfl
   | cons b l=>
    have hb:=(d b).1 (by simp);subst hb;simp at i
 refine⟨k,?_⟩
 have m:g.goal g.s0=false:=by
  have:=j.fd;rw [r,k] at this
  simpa using this.symm
 have one:∀(t:Nat) (s:Jv),[(⟨-1,0,[g.s0]⟩:Jv)][t]? = some s->t=0/\s=⟨-1,0,[g.s0]⟩:=λt s h=>by
  cases t with
  | zero=>simp at h;exact⟨rfl,h.symm⟩
  | succ t=>simp at h
 have one':∀(t:Nat) (w:List Int),[([]:List Int)][t]? = some w->w=[]:=λt w h=>by
  cases t with
  | zero=>exact(Option.some.inj h).symm
  | succ t=>simp at h
 refine⟨j.len,rfl,λt s c=>?_,λt s w c f n e=>?_,λw f=>?_,λt s w c f n e u _ o=>?_,by simp,λw f=>by simp at f;exact .inl f,λn e=>?_,λt s c l p n e y v=>?_,λs c n e=>?_,λs c n e=>?_,?_,?_,by simp,λs c=>?_⟩
 ·obtain⟨rfl,rfl⟩:=one t s c;exact .inl ⟨rfl,rfl⟩
 ·obtain⟨rfl,rfl⟩:=one t s c
  have:=one' 0 w f;subst this;simp at e;subst e;exact(rfl:g.s0=g.s0)
 ·simp at f;subst f;exact λl p=>(by cases p)
 ·have:=one' t w f
  subst this
  rcases o with i|⟨_,i⟩
  ·simp at i
  ·cases u<;>exact i.elim
 ·rw [j.snI n e];simp [hno]
 ·rcases p with ⟨i,_⟩|⟨_,j',i,_⟩<;>omega
 ·simp at c;subst c;simp at e;subst e;exact m
 ·simp at c;subst c;simp at e;subst e;exact q.s0
 ·exact(j.snI _ q.s0.1).2 (.inr (by simp))
 ·rw [j.cnt,k];simp
 ·simp at c;subst c;simp
theorem BE.start{g:Gr}(h:g.goal g.s0=true):BE g (some []):=
 ⟨λl c=>(by cases c),⟨g.s0,rfl,h⟩,λu _ _ a=>by rcases a with b|⟨_,b⟩;(simp at b);(cases u<;>exact b.elim)⟩
end Go.Am
namespace Go.Am
open Go Go.Proofs
set_option maxHeartbeats 1000000
set_option maxRecDepth 4000
attribute [local irreducible] AP BH Lex A4 Al Spec
variable {TB:Bg}
def Dc(bs:List UInt8)(k i:Nat):UInt8:=if i < k\/bs.length<=i+k then bs.getD (bs.length - 1 - i) 0 else bs.getD i 0
theorem WR(bs:List UInt8):(Bc bs.length λi=>DY (Dc bs 0 i))=bs.map DY:=by
 apply dG;intro i;by_cases hi:i < bs.length
 ·rw [CB (g:=λi=>DY (Dc bs 0 i)) hi]
  unfold Dc;rw [if_neg (by omega)];simp [List.getD,hi]
 ·rw [co (by simp [Bc];omega),co (by simp;omega)]
theorem TQ(bs:List UInt8){k:Nat}(c:bs.length<=2*k+1):(Bc bs.length λi=>DY (Dc bs k i))=bs.reverse.map DY:=by
 apply dG;intro i;by_cases hi:i < bs.length
 ·rw [CB (g:=λi=>DY (Dc bs k i)) hi]
  unfold Dc
  have b:bs.reverse[i]? = some (bs.getD (bs.length - 1 - i) 0):=by
   rw [List.getElem?_reverse hi]
   have:bs.length - 1 - i < bs.length:=by omega
   simp [List.getD,this]
  rw [bG,b];by_cases a:i < k\/bs.length<=i+k
  ·rw [if_pos a];rfl
  ·rw [if_neg a]
   have:bs.length - 1 - i=i:=by omega
   rw [this];rfl
 ·rw [co (by simp [Bc];omega),co (by simp;omega)]
theorem UY(r:Nat->Nat)(l:List UInt8):(l.map DY).map (C.Bh r)=l.map DY:=by
 rw [c6];exact db λc _=>rfl
theorem HX(r:Nat->Nat)(c:UInt8):C.Bh r (DY c)=DY c:=rfl
theorem KM(r:Nat->Nat)(n:Nat)(H:Nat->UInt8):(Bc n λi=>DY (H i)).map (C.Bh r)=Bc n λi=>DY (H i):=by
 unfold Bc;rw [c6];exact db λi _=>rfl
theorem HD{n q:Nat}{H:Nat->UInt8}(h:q < n):(Bc n λi=>DY (H i))[0+((q:Nat):Int).toNat]? = some (DY (H q)):=by
 rw [bW,bL];exact CB (g:=λi=>DY (H i)) h
theorem JK{n q:Nat}{H:Nat->UInt8}{c d:UInt8}:(Bc n λi=>DY (H i)).set (0+((q:Nat):Int).toNat) (Aj (DY d) 0 (eC (eI .u8 (c.toNat:Nat))))=Bc n λi=>DY (if i=q then c else H i):=by
 rw [bW,bL];have e:Aj (DY d) 0 (eC (eI .u8 (c.toNat:Nat)))=DY c:=rfl;rw [e,IK];refine BV λi _=>?_;by_cases h:i=q<;>simp [h]
theorem PD(bs:List UInt8)(hb:bs.length<=1099511627776):Spec Tryz.prog TB 271 [(0,.cells 5 1 (bs.map DY))] 1 [.o (.arr 0 1 0 bs.length)] (λx σ nx=>x=.t []/\nx=1/\σ=[(0,.cells 5 1 (bs.reverse.map DY))]):=by
 refine eN Tryz.func271 rfl (by kernel_rfl) rfl ?_;intro Z b;(repeat first|(refine sM rfl ?_ ?_;first|exact tI|omega) |refine aU rfl ?_ |refine Aa ?_);refine aB ?_;refine Al.AS (α:={k:Nat // k<=bs.length}) (λ⟨k,p⟩=>[(0,.o (.arr 0 1 0 bs.length)),(2,eI .i64 k),(3,eI .i64 ((bs.length:Int) - 1 - k))]) (λ⟨k,p⟩=>[(0,.cells 5 1 (Bc bs.length λi=>DY (Dc bs k i)))]) 1 (λ⟨k,p⟩=>bs.length - k) (⟨0,by omega⟩) [0] (Dn b rfl rfl) (by (simp[cX,zC,b,KM,WR,HX])) ?_;rintro⟨k,p⟩;(try dsimp only);(repeat first|refine tM rfl ?_ |refine s2 rfl λ_ F=>?_ |refine aU rfl ?_ |refine Aa ?_);(refine aC rfl ?_ ?_<;>rintro⟨⟩)
 ·have v:2*k+1 < bs.length:=by (simp only[oZ] at *;omega)
  obtain⟨m,G⟩:∃m:Nat,m=bs.length - 1 - k:=⟨_,rfl⟩
  have B:(bs.length:Int) - 1 - k=((m:Nat):Int):=by omega
  have l:Dc bs k k=bs.getD k 0:=by unfold Dc;rw [if_neg (by omega)]
  have h:Dc bs k m=bs.getD m 0:=by unfold Dc;rw [if_neg (by omega)]
  have y:=HD (H:=Dc bs k) (q:=k) (n:=bs.length) (by omega);have w:=HD (H:=Dc bs k) (q:=m) (n:=bs.length) (by omega);have e:=JK (n:=bs.length) (q:=k) (H:=Dc bs k) (c:=Dc bs k m) (d:=Dc bs k k);have a:=HD (H:=λi=>if i=k then Dc bs k m else Dc bs k i) (q:=m) (n:=bs.length) (by omega);have f:=JK (n:=bs.length) (q:=m) (H:=λi=>if i=k then Dc bs k m else Dc bs k i) (c:=Dc bs k k) (d:=Dc bs k m)
  have g:m≠k:=by omega
  rw [if_neg g] at a
  have z:(Bc bs.length λi=>DY (if i=m then Dc bs k k else if i=k then Dc bs k m else Dc bs k i))=Bc bs.length λi=>DY (Dc bs (k+1) i):=BV λi hi=>by
   congr 1;by_cases u:i=m
   ·subst u;rw [if_pos rfl,l];unfold Dc;rw [if_pos (by omega)];congr 1;omega
   ·rw [if_neg u]
    by_cases s:i=k
    ·subst s;rw [if_pos rfl,h];unfold Dc;rw [if_pos (by omega)];congr 1
    ·rw [if_neg s];unfold Dc
     by_cases r:i < k\/bs.length<=i+k
     ·rw [if_pos r,if_pos (by omega)]
     ·rw [if_neg r,if_neg (by omega)]
  rw [<-e] at a;rw [B];refine aK ?_;refine aS (aB ?_);refine rG (aP [13,15] [2,3]) (by kernel_rfl) ?_;(repeat first|(refine sM rfl ?_ ?_;first|exact tI|omega) |refine t4 rfl ‹_› rfl ?_ |refine aU rfl ?_ |refine Aa ?_);refine⟨⟨k+1,by omega⟩,by dsimp only;(omega),[0],?_⟩;rw [e,f,z]
  have A:(m:Int) - 1=bs.length - 1 - (k+1):=by omega
  simp[cX,zC,b,KM,A]
 ·have j:bs.length<=2*k+1:=by (simp only[oZ] at *;omega)
  rw [TQ bs j];exact aE ⟨_,rfl,rfl,rfl,rfl⟩
end Go.Am
