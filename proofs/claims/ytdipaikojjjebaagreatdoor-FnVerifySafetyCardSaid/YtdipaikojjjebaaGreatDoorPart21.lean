/-
  The table of an automaton.
-/
import Derived.Test.YtdipaikojjjebaaGreatDoorPart19
import Derived.Test.YtdipaikojjjebaaGreatDoorPart13
set_option linter.all false
namespace Go.Am
open Go Go.Proofs
set_option maxHeartbeats 1000000
set_option maxRecDepth 4000
attribute [local irreducible] A6 CC Lex Bz Ak Spec
variable {TB:BJ}
def Qk(h:Nat->Int):List C:=(List.range 6).map λl=>.d (iD (h l))
def XP(h:Nat->Int):List D:=(List.range 6).map λl=>iD (h l)
theorem eM(h:Nat->Int):Qk h=(XP h).map .d:=by simp[Qk,XP]
def BO{α:Type}(n:Nat)(g:Nat->α):List α:=(List.range n).map g
theorem Ed{α:Type}{n q:Nat}{g:Nat->α}(h:q<n):(BO n g)[q]?=some (g q):=by simp[BO,h]
theorem NG{α:Type}{n q:Nat}{g:Nat->α}{x:α}:(BO n g).set q x=BO n λi=>if i=q then x else g i:=by
 apply pY;intro i;by_cases hi:i<n
 ·rw[Ed hi]
  by_cases a:q=i
  ·subst a;rw[pI (by simp[BO,hi])];simp
  ·rw[pJ a,Ed hi,if_neg (Ne.symm a)]
 ·rw[o4 (by simp[BO];omega),o4 (by simp[BO];omega)]
theorem Dn{α:Type}{n:Nat}{g g':Nat->α}(h:∀i,i<n->g i=g' i):BO n g=BO n g':=by
 unfold BO;exact qH λi hi=>h i (o5.1 hi)
theorem eO{h:Nat->Int}{l:Nat}{v:Int}(b:l<6):Ae (Qk h) (0+l*1) (eC (eI .i64 v))=Qk λx=>if x=l then v else h x:=by
 have e:eC (eI .i64 v)=[C.d (iD v)]:=rfl;rw[e,IP (by simp[Qk];omega)];have:=NG (n:=6) (q:=l) (g:=λl=>C.d (iD (h l))) (x:=C.d (iD v))
 have a:0+l*1=l:=by omega
 rw[a];refine Eq.trans this (Dn λi _=>?_);by_cases e:i=l<;>simp[e]
theorem Ll{h a:Nat->Int}(b:∀l,l<6->h l=a l):Qk h=Qk a:=Dn λi hi=>by rw[b i hi]
theorem KG(s:Int):∀(n k:Nat),k<=n->AI s k <+: AI s n
  | 0, k, h => by have:k=0:=by omega
                  subst this;exact rH _
  | n + 1,k,h=>by
    rcases po k (n+1) with a|a
    · rw[Dh]
      exact(KG s n k (by omega)).trans (sv _ _)
    · have:k=n+1:=by omega
      subst this;exact rH _
theorem FO{s:Int}{k n:Nat}{l:Int}(h:(AI s n)[k]?=some l):(AI s l.toNat).length=k:=by
 have g:=Aj (co h)
 have c:(AI s (l.toNat+1))[(AI s l.toNat).length]?=some l:=by
  rw[Dh,if_pos g.2.2,gc (jp _)];simp;omega
 have f:(AI s n)[(AI s l.toNat).length]?=some l:=by
  obtain⟨t,ht⟩:=KG s n (l.toNat+1) (by omega);rw[<-ht,f9 (ce.1 c).1];exact c
 have b:=Fb s n;rw[o7]at b;obtain⟨e,j⟩:=ce.1 h;obtain⟨d,i⟩:=ce.1 f
 rcases rU (AI s l.toNat).length k with a|a|a
 ·have:=b _ _ d e a;omega
 ·exact a
 ·have:=b _ _ e d a;omega
theorem Eu{s:Int}{n l:Nat}:(l:Int)∈AI s n↔l<n/\AZ s l=true:=by
 unfold AI;simp only[d9,o9,o5];constructor
 ·rintro⟨a,ha,e⟩
  have:a=l:=by have e:((a:Nat):Int)=l:=e;omega
  subst this;exact ha
 ·intro h;exact⟨l,h,rfl⟩
def QR(n:Nat)(H:Nat->Nat->Int):List (List C):=BO n λi=>Qk (H i)
theorem Kp(r:Nat->Nat)(n:Nat)(H:Nat->Nat->Int):(QR n H).map (C.CB r)=QR n H:=by
 unfold QR BO;rw[pR]
 exact qH λi _=>by simp only[d5,eM,TW]
theorem fm(n:Nat):QR n (λ_ _=>0)=List.replicate n [C.d (D.v (Value.int IntKind.i64 0)),C.d (D.v (Value.int IntKind.i64 0)),C.d (D.v (Value.int IntKind.i64 0)),C.d (D.v (Value.int IntKind.i64 0)),C.d (D.v (Value.int IntKind.i64 0)),C.d (D.v (Value.int IntKind.i64 0))]:=by
 unfold QR BO;rw[List.map_const'];simp;exact .inr rfl
theorem ZN{n q:Nat}{H:Nat->Nat->Int}(h:q<n):(QR n H)[0+((q:Nat):Int).toNat]?=some (Qk (H q)):=by
 rw[oY,i7];exact Ed (g:=λi=>Qk (H i)) h
theorem ZO{n q l:Nat}{v:Int}{H:Nat->Nat->Int}(a:l<6):(QR n H).set (0+((q:Nat):Int).toNat) (Ae (Qk (H q)) (0+((l:Nat):Int).toNat*1) (eC (eI .i64 v)))=QR n λi x=>if i=q/\x=l then v else H i x:=by
 rw[oY,i7,i7,eO a];unfold QR;rw[NG];refine Dn λi _=>?_;by_cases e:i=q
 ·subst e;rw[if_pos rfl];exact Ll λl _=>by simp
 ·rw[if_neg e];exact Ll λl _=>by simp[e]
theorem Ij{n:Nat}{H H':Nat->Nat->Int}(h:∀i,i<n->∀l,l<6->H i l=H' i l):QR n H=QR n H':=Dn λi hi=>Ll λl a=>h i hi l a
theorem ir(n:Nat)(H:Nat->Nat->Int):(QR n H).length=n:=by simp[QR,BO]
def Hj(a:AY):List (List D):=BO a.nx.length λq=>XP λl=>Cz a q l
theorem mu(a:AY):QR a.nx.length (λi l=>Cz a i l)=(Hj a).map λr=>r.map .d:=by
 unfold QR Hj BO;rw[pR]
 exact qH λi _=>by simp only[d5,eM]
def ZS(a:AY):Prop:=a.nx.length<=64/\∀q,q<a.nx.length->∃row:List Int,a.nx[q]?=some row/\row.length=(Ac a.al).length/\∀(k:Nat) y,row[k]?=some y->0<=y/\y<a.nx.length
theorem fO{a:AY}(h:AE a=true):ZS a:=⟨by have:=AJ h;omega,λq b=>HO h b⟩
theorem Wu(a:AY)(h:ZS a):Pure Tryz.prog TB 62 [Bk a] (.o (.d (.l (Hj a)))):=by
 have T:=h.1;have Q:(Ac a.al).length<=6:=AM a.al 6;refine eN Tryz.func62 rfl (by kernel_rfl) rfl ?_;intro Γ b;(repeat first|refine aU rfl ?_);(refine Ag rfl ?_;refine CM (λ_ _=>Dj rfl rfl rfl) rfl ?_);(refine Ag rfl ?_;refine CM (λ_ _=>CQ rfl) rfl ?_);(repeat first|refine sN rfl ?_|refine tM rfl ?_|refine aU rfl ?_|apply Aa);(refine pW rfl ?_ rfl (by rfl);refine Lh rfl rfl (by rfl) (by rfl) (am rfl) (by omega) (by omega) (by omega) ?_);(repeat first|refine sN rfl ?_|refine tM rfl ?_|refine sP rfl (C1 a.al) rfl ?_|refine aU rfl ?_|apply Aa);apply aB;refine Ak.A5 (α:={q:Nat // q<=a.nx.length}) (λ⟨q,z⟩=>[(1,.o (.ip (AQ a))),(3,.o (.arr 0 6 0 a.nx.length)),(4,Al (Ac a.al)),(18,Gm a.nx),(19,eI .i64 a.nx.length),(20,eI .i64 q)]) (λ⟨q,z⟩=>[(0,.cells 94 6 (QR a.nx.length λi l=>if i<q then Cz a i l else 0))]) 1 (λ⟨q,z⟩=>a.nx.length-q) (⟨0,by omega⟩) [0] (En b rfl rfl) (by (simp[cX,zC,b,Kp,fm])) ?_;rintro⟨q,z⟩;(try dsimp only);(repeat first|refine s2 rfl λ_ u=>?_|refine aU rfl ?_|apply Aa);(refine aC rfl ?_ ?_<;>rintro⟨⟩)
 ·have j : q<a.nx.length:=by (simp only[oZ] at *;omega)
  obtain⟨row,K,N,M⟩:=h.2 q j;have P:=get_map (g:=Fa) K;apply aK;refine aS (aB ?_);(repeat first|refine tM rfl ?_|(refine s4 rfl ‹_› rfl ?_ ?_;omega)|refine aU rfl ?_|apply Aa);apply aB;refine Ak.A5 (α:={m:Nat // m<=6}) (λ⟨m,B⟩=>[(1,.o (.ip (AQ a))),(3,.o (.arr 0 6 0 a.nx.length)),(4,Al (Ac a.al)),(18,Gm a.nx),(19,eI .i64 a.nx.length),(20,eI .i64 q),(5,eI .i64 q),(6,Al row),(25,eI .i64 m)]) (λ⟨m,B⟩=>[(0,.cells 94 6 (QR a.nx.length λi l=>if i<q then Cz a i l else if i=q/\l<m then q else 0))]) 1 (λ⟨m,B⟩=>6-m) (⟨0,by omega⟩) [0] (En b rfl rfl) (by (simp[cX,zC,b,Kp])) ?_;rintro⟨m,B⟩;(try dsimp only);(repeat first|refine s2 rfl λ_ u=>?_|refine aU rfl ?_|apply Aa);(refine aC rfl ?_ ?_<;>rintro⟨⟩)
  ·have r:m<6:=by (simp only[oZ] at *;omega)
   have p:0+((m:Nat):Int).toNat*1+1<=6:=by omega
   have I:=ZN (H:=λi l=>if i<q then Cz a i l else if i=q/\l<m then q else 0) j;have w:=ZO (n:=a.nx.length) (q:=q) (v:=q) (H:=λi l=>if i<q then Cz a i l else if i=q/\l<m then q else 0) r
   have t:(QR a.nx.length λ(i x:Nat)=>if i=q/\x=m then (q:Int) else (λ(i l:Nat)=>if i<q then Cz a i l else if i=q/\l<m then (q:Int) else 0) i x)=QR a.nx.length λi l=>if i<q then Cz a i l else if i=q/\l<m+1 then (q:Int) else 0:=Ij λi _ l _=>by dsimp only;grind
   apply aK;refine aS (aB ?_);(repeat first|(refine sM rfl ?_ ?_;first|exact tI|omega)|refine aU rfl ?_|apply Aa);(refine Ag rfl ?_;refine Ia ?_ rfl (by rfl);refine EB rfl rfl rfl rfl (I) rfl (p) ?_);(repeat first|(refine sM rfl ?_ ?_;first|exact tI|omega)|refine aU rfl ?_|apply Aa);refine⟨⟨m+1,by omega⟩,by dsimp only;(omega),[0],?_⟩;rw[w,t];simp[cX,zC,b,Kp]
  ·obtain rfl:m=6:=by (simp only[oZ] at *;omega)
   have s:=Ij (n:=a.nx.length) (H:=λi l=>if i<q then Cz a i l else if i=q/\l<6 then (q:Int) else 0) (H':=λi l=>if i<q then Cz a i l else if i=q then (if (l:Int)∈(Ac a.al).take 0 then Cz a q l else (q:Int)) else 0) λi _ l f=>by simp[f]
   rw[s];apply aE;(repeat first|refine sN rfl ?_|refine tM rfl ?_|refine aU rfl ?_|apply Aa);apply aB;refine Ak.A5 (α:={k:Nat // k<=(Ac a.al).length}) (λ⟨k,hk⟩=>[(1,.o (.ip (AQ a))),(3,.o (.arr 0 6 0 a.nx.length)),(4,Al (Ac a.al)),(18,Gm a.nx),(19,eI .i64 a.nx.length),(20,eI .i64 q),(5,eI .i64 q),(6,Al row),(35,Al (Ac a.al)),(36,eI .i64 (Ac a.al).length),(37,eI .i64 k)]) (λ⟨k,hk⟩=>[(0,.cells 94 6 (QR a.nx.length λi l=>if i<q then Cz a i l else if i=q then (if (l:Int)∈(Ac a.al).take k then Cz a q l else (q:Int)) else 0))]) 1 (λ⟨k,hk⟩=>(Ac a.al).length-k) (⟨0,by omega⟩) [0] (En b rfl rfl) (by (simp[cX,zC,b,Kp])) ?_;rintro⟨k,hk⟩;(try dsimp only);(repeat first|refine s2 rfl λ_ u=>?_|refine aU rfl ?_|apply Aa);(refine aC rfl ?_ ?_<;>rintro⟨⟩)
   ·obtain⟨l,f⟩:=get_some (l:=Ac a.al) (k:=k) (by (simp only[oZ] at *;omega))
    have R:=get_map (g:=Bs) f;have F:=Aj (co f);have A:=FO f;obtain⟨y,J⟩:=get_some (l:=row) (k:=k) (by (simp only[oZ] at *;omega));have L:=get_map (g:=Bs) J
    obtain⟨m,rfl⟩:∃m:Nat,l=m:=⟨l.toNat,by omega⟩
    have G:Cz a q m=y:=by
     unfold Cz;rw[if_pos F.2.2,A];simp[List.getD,K,J]
    have r:m<6:=by omega
    have p:0+((m:Nat):Int).toNat*1+1<=6:=by omega
    have I:=ZN (H:=λi l=>if i<q then Cz a i l else if i=q then (if (l:Int)∈(Ac a.al).take k then Cz a q l else (q:Int)) else 0) j;have w:=ZO (n:=a.nx.length) (q:=q) (v:=y) (H:=λi l=>if i<q then Cz a i l else if i=q then (if (l:Int)∈(Ac a.al).take k then Cz a q l else (q:Int)) else 0) r
    have t:(QR a.nx.length λ(i x:Nat)=>if i=q/\x=m then y else (λ(i l:Nat)=>if i<q then Cz a i l else if i=q then (if (l:Int)∈(Ac a.al).take k then Cz a q l else (q:Int)) else 0) i x)=QR a.nx.length λi l=>if i<q then Cz a i l else if i=q then (if (l:Int)∈(Ac a.al).take (k+1) then Cz a q l else (q:Int)) else 0:=Ij λi _ l _=>by
     try dsimp only
     rw[d8,f];by_cases e:i=q
     ·subst e
      by_cases c:l=m
      ·subst c;simp[G]
      ·have S:¬(l:Int)=(m:Int):=by omega
       simp[c,S]
     ·simp[e]
    apply aK;refine aS (aB ?_);(repeat first|refine tM rfl ?_|(refine s4 rfl ‹_› rfl ?_ ?_;omega)|refine aU rfl ?_|apply Aa);refine rG (Hm [9]) (by kernel_rfl) ?_;(repeat first|(refine sM rfl ?_ ?_;first|exact tI|omega)|(refine s4 rfl ‹_› rfl ?_ ?_;omega));(refine Ag rfl ?_;refine Ia ?_ rfl (by rfl);refine EB rfl rfl rfl rfl (I) rfl (p) ?_);(repeat first|(refine sM rfl ?_ ?_;first|exact tI|omega)|refine aU rfl ?_|apply Aa);refine⟨⟨k+1,by (simp only[oZ] at *;omega)⟩,by dsimp only;((simp only[oZ] at *;omega)),[0],?_⟩;rw[w,t];simp[cX,zC,b,Kp]
   ·obtain rfl:k=(Ac a.al).length:=by (simp only[oZ] at *;omega)
    have s:=Ij (n:=a.nx.length) (H:=λi l=>if i<q then Cz a i l else if i=q then (if (l:Int)∈(Ac a.al).take (Ac a.al).length then Cz a q l else (q:Int)) else 0) (H':=λi l=>if i<q+1 then Cz a i l else 0) λi _ l f=>by
     try dsimp only
     rw[io];by_cases e:i=q
     ·subst e
      simp only[Nat.lt_irrefl,if_false,if_true,qZ];by_cases c:AZ a.al l=true
      ·rw[if_pos (Eu.2 ⟨f,c⟩)]
      ·rw[if_neg (λh=>c (Eu.1 h).2)];unfold Cz;rw[if_neg (by simpa using c)]
     ·by_cases c:i<q
      ·rw[if_pos c,if_pos (by omega)]
      ·rw[if_neg c,if_neg e,if_neg (by omega)]
    rw[s];apply aE;(repeat first|(refine sM rfl ?_ ?_;first|exact tI|omega)|refine aU rfl ?_|apply Aa);refine⟨⟨q+1,by omega⟩,by dsimp only;(omega),[0],?_⟩;simp[cX,zC,b,Kp]
 ·obtain rfl:q=a.nx.length:=by (simp only[oZ] at *;omega)
  have t:=Ij (n:=a.nx.length) (H:=λi l=>if i<a.nx.length then Cz a i l else 0) (H':=λi l=>Cz a i l) λi hi l _=>by rw[if_pos hi]
  rw[t];apply aE;(repeat first|refine tM rfl ?_|refine aU rfl ?_|apply Aa);refine Ak.freeze [0] [(2,.o (.d (.l (Hj a))))] ⟨⟨_,rfl,.o (.full (by simp) rfl (mu a) (by simp[ir]))⟩,trivial⟩ ?_;refine aR ⟨_,rfl,rfl⟩
theorem FJ(a:AY)(h:AE a=true):Pure Tryz.prog TB 62 [Bk a] (.o (.d (.l (Hj a)))):=Wu a (fO h)
abbrev TA(s:Sys):List D:=[.p (Ga s.es)]
abbrev gx(s:Sys):List C:=[.d (.p (Ga s.es))]
abbrev Xg(l:List Sys):E:=.a [.d (JI l),.d (.l (l.map TA))]
abbrev Hd(l:List Sys):List D:=[JI l,.l (l.map TA)]
theorem Oj(l:List Sys)(h:∀s∈l,AX s=true)(m:l.length<=3):Pure Tryz.prog TB 160 [Gx l] (Xg l):=by
 refine Spec.oO 2 201 2 [1] Tryz.func160 rfl (by kernel_rfl) rfl (am rfl) ?_;intro Γ a;(repeat first|refine tM rfl ?_|refine aU rfl ?_|apply Aa);(refine pW rfl ?_ rfl (by rfl);refine Jw 1 1 84 rfl rfl rfl (by rfl) (by rfl) ?_);(repeat first|refine sN rfl ?_|refine tM rfl ?_|refine aU rfl ?_|apply Aa);apply aB;refine Ak.A5 (α:={k:Nat // k<=l.length}) (λ⟨k,hk⟩=>[(2,.o (.ptr 0 2 0 0)),(3,.o (.ptr 2 2 0 0)),(8,Gx l),(9,eI .i64 l.length),(10,eI .i64 k)]) (λ⟨k,hk⟩=>[(0,.cells 201 2 [[.d (.l []),.d (.l [])]]),(1,.cells 84 1 ((l.take k).map gx)),(2,.cells 201 2 [[.d (JI l),.arr 1 1 0 k]])]) 3 (λ⟨k,hk⟩=>l.length-k) (⟨0,by omega⟩) [0,1,2] (En a rfl rfl) (by (simp[cX,zC,a,List.set_cons_zero,Ae,eC])) ?_;rintro⟨k,hk⟩;(try dsimp only);(repeat first|refine s2 rfl λ_ j=>?_|refine aU rfl ?_|apply Aa);(refine aC rfl ?_ ?_<;>rintro⟨⟩)
 ·obtain⟨x,c⟩:=get_some (l:=l) (k:=k) (by (simp only[oZ] at *;omega))
  have f:=get_map (g:=AL) c;have b:=h x (co c);apply aK;refine aS (aB ?_);(repeat first|refine tA rfl ?_|(refine s4 rfl ‹_› rfl ?_ ?_;omega)|refine aU rfl ?_|apply Aa);refine rG (Hm [5,7]) (by kernel_rfl) ?_;(repeat first|refine tA rfl ?_|refine sP rfl (PW x b) rfl ?_);(refine pW rfl ?_ rfl (by rfl);refine Au rfl rfl rfl (by first|(simp;done)|(simp;(omega))) rfl (by intro r e;simp at e;subst e;rfl) (by rfl) (am rfl) (by simp;omega) ?_);(repeat first|(refine sX rfl ?_ ?_;first|exact tI|omega)|refine aU rfl ?_|apply Aa);refine⟨⟨k+1,by (simp only[oZ] at *;omega)⟩,by dsimp only;((simp only[oZ] at *;omega)),[0,4,2],?_⟩;simp[cX,zC,a,d8,c,Ae,eC]
 ·obtain rfl:k=l.length:=by (simp only[oZ] at *;omega)
  apply aE;(repeat first|refine tM rfl ?_|refine aU rfl ?_|apply Aa);rw[io];refine aR ⟨⟨0,2,0,201,_,[.d (JI l),.arr 1 1 0 l.length],_,rfl,rfl,rfl,.cons .AS (.cons (.full (by simp) rfl (by simp[d5]) (by simp)) .nil),rfl⟩,?_⟩;intro id k i h
  injection h with h;injection h with h;injection h with _ h;exact h.symm
theorem ZF(l:List Sys)(h:∀s∈l,AX s=true)(p:l.length<=3):Pure Tryz.prog TB 165 [Xg l] (eI .i64 (Aw (l.map (·.st)))):=by
 have a:∀z∈l.map (·.st),1<=z/\z<=16:=by
  intro z c;obtain⟨s,j,rfl⟩:=d9.1 c;have:=AN (h s j);omega
 refine eN Tryz.func165 rfl (by kernel_rfl) rfl ?_;intro Γ b;(repeat first|refine aU rfl ?_);(refine Ag rfl ?_;refine CM (λ_ _=>Dj rfl rfl rfl) rfl ?_);(repeat first|refine sN rfl ?_|refine tM rfl ?_|refine aU rfl ?_|apply Aa);apply aB;refine Ak.A5 (α:={k:Nat // k<=l.length}) (λ⟨k,hk⟩=>[(3,eI .i64 (Aw ((l.map (·.st)).take k))),(7,Gx l),(8,eI .i64 l.length),(9,eI .i64 k)]) (λ⟨k,hk⟩=>[]) 0 (λ⟨k,hk⟩=>l.length-k) (⟨0,by omega⟩) [] (En b rfl rfl) (by (simp[cX,zC,b,Aw])) ?_;rintro⟨k,hk⟩;(try dsimp only);(repeat first|refine s2 rfl λ_ o=>?_|refine aU rfl ?_|apply Aa);(refine aC rfl ?_ ?_<;>rintro⟨⟩)
 ·obtain⟨x,d⟩:=get_some (l:=l) (k:=k) (by (simp only[oZ] at *;omega))
  have i:=get_map (g:=AL) d;have f:=a x.st (d9.2 ⟨x,co d,rfl⟩)
  have c:(l.map (·.st))[k]?=some x.st:=by simp[d]
  have e:=Li c;have m:=Ib ((l.map (·.st)).take (k+1)) λz c=>a z (pb c)
  have q:(16:Int) ^ ((l.map (·.st)).take (k+1)).length<=4096:=by
   have:((l.map (·.st)).take (k+1)).length<=3:=by simp;omega
   generalize ((l.map (·.st)).take (k+1)).length=n at this
   have:n=0\/n=1\/n=2\/n=3:=by omega
   rcases this with rfl|rfl|rfl|rfl<;>decide
  rw[e]at m;apply aK;refine aS (aB ?_);(repeat first|(refine sA rfl ?_ ?_;first|exact tI|omega)|(refine s4 rfl ‹_› rfl ?_ ?_;omega)|refine aU rfl ?_|apply Aa);refine⟨⟨k+1,by (simp only[oZ] at *;omega)⟩,by dsimp only;((simp only[oZ] at *;omega)),[],?_⟩;simp[cX,zC,b,e]
 ·obtain rfl:k=l.length:=by (simp only[oZ] at *;omega)
  apply aE;(repeat first|refine tM rfl ?_|refine aU rfl ?_|apply Aa);rw[ge (by simp)];refine aR ⟨_,rfl,rfl⟩
end Go.Am
namespace Go.Am
open Go
def EK:List Int->List (List Int)->List Int
 | _::zs,c::cs=>c.flatMap λq=>(EK zs cs).map λr=>q*Aw zs+r
 | _,_=>[0]
theorem dv:∀ {zs:List Int} {cs:List (List Int)},FQ zs cs->∀out:List Int,Hn zs cs out=out.flatMap λo=>(EK zs cs).map λr=>o*Aw zs+r:=by
 intro zs cs h
 induction h with
 | nil=>intro out;simp[Hn,EK,Aw]
 | @cons z c zs cs _ _ _ a=>
  intro out;rw[Hn,a,List.flatMap_assoc];congr 1;funext o;rw[List.flatMap_map,EK,List.map_flatMap];congr 1;funext q;rw[pR];congr 1;funext r;simp only[d5,Aw];rw[qW,qG];omega
theorem Sg{zs:List Int}{cs:List (List Int)}(h:FQ zs cs):Hn zs cs [0]=EK zs cs:=by
 rw[dv h];simp
theorem FQ.drop{zs:List Int}{cs:List (List Int)}(h:FQ zs cs):∀k,FQ (zs.drop k) (cs.drop k):=by
 induction h with
 | nil=>intro k;simp;exact .nil
 | cons d c b a=>
  intro k
  cases k with
  | zero=>exact .cons d c b
  | succ k=>exact a k
theorem Tv{zs:List Int}{cs:List (List Int)}(h:FQ zs cs):(∀v∈EK zs cs,0<=v/\v<Aw zs)/\((EK zs cs).length:Int)<=Aw zs:=by
 have:=Tx h [0] 1 (by simp) (by omega) (by simp);rw[Sg h,sr]at this;exact this
theorem aQ{zs:List Int}{cs:List (List Int)}{k:Nat}{z:Int}{c:List Int}(a:zs[k]?=some z)(b:cs[k]?=some c):EK (zs.drop k) (cs.drop k)=c.flatMap λq=>(EK (zs.drop (k+1)) (cs.drop (k+1))).map λr=>q*Aw (zs.drop (k+1))+r:=by
 rw[BF a,BF b,EK]
theorem XJ{zs:List Int}{k:Nat}{z:Int}(a:zs[k]?=some z):Aw (zs.drop k)=z*Aw (zs.drop (k+1)):=by
 rw[BF a,Aw]
theorem UC:∀ {zs:List Int} {k:Nat} {z:Int} (n:Int),zs[k]?=some z->(BK zs n)[k]?=some (n / Aw (zs.drop (k+1))%z)
 | [],k,z,n,h=>by simp at h
 | a::zs,0,z,n,h=>by simp at h;subst h;simp[BK]
 | a::zs,k+1,z,n,h=>by
  rw[BK,rS,List.drop_succ_cons];exact UC n (by simpa using h)
theorem NA:∀(zs ws:List Int),Aw (zs++ws)=Aw zs*Aw ws
 | [],ws=>by simp[Aw]
 | z::zs,ws=>by simp[Aw,NA zs ws,qG]
theorem Px:∀(zs ws:List Int) (n:Int),(∀w∈ws,0<w)->BK (zs++ws) n=BK zs (n / Aw ws)++BK ws n
 | [],ws,n,_=>rfl
 | z::zs,ws,n,h=>by
  have a:=Ss h;simp only[qf,BK,Px zs ws n h,NA];rw[q6 (Aw zs),rh (by omega)]
def ae(l:List Sys)(node letter:Int):List (List Int):=l.zipWith (λs q=>BR s q letter) (BK (l.map (·.st)) node)
theorem Tf{l:List Sys}(h:∀s∈l,AX s=true)(d:l.length<=3){letter:Int}(g:0<=letter)(f:letter<6)(node:Int):FQ (l.map (·.st)) (ae l node letter):=by
 have b:Eh ⟨l,[],[],0,0,0⟩:=⟨h,λa ha=>(by cases ha),d,by simp⟩
 have c:Af ⟨l,[],[],0,0,0⟩=l.map (·.st):=by simp[Af]
 have e:=LQ b node;have:=Iu b e g f;rw[c]at this;unfold KR at this
 simpa[ae]using this
theorem fT{l:List Sys}{k:Nat}{s:Sys}(a:l[k]?=some s)(node letter:Int):(ae l node letter)[k]?=some (BR s (node / Aw ((l.map (·.st)).drop (k+1))%s.st) letter):=by
 unfold ae;rw[r7,a,UC (z:=s.st) node (by simp[a])]
end Go.Am
namespace Go.Am
open Go Go.Proofs
set_option maxHeartbeats 1000000
set_option maxRecDepth 4000
attribute [local irreducible] A6 CC Lex Bz Ak Spec
variable {TB:BJ}
theorem ET{P:Program}{Γ:Ctx}{d:Option Tmp}{ty:TypeId}{pos:String}{af:Array Edge}{g:Option (Nat×Bool)}{f:Env}{σ:Ab}{nx:Nat}{t:TypeId}{x:Operand}{c:D}{cs:List D}{n:Nat}[h:Eg P t false n](e:ev f x=some (.o (.ip cs)))(b:cs[0]?=some c):A6 P TB Γ ⟨d,.load t x,ty,pos,af,g⟩ f σ nx (.o (.d c)):=by
 cases cs with
 | nil=>cases b
 | cons a l=>injection b with b;subst b;exact Vz e
theorem dC{es:List Eo}{q l:Int}(d:0<=q/\q<16)(c:0<=l/\l<6):(((Ga es).drop (q.toNat*6)).drop (l.toNat*1))[0]?=some (iD (BQ (MX es q.toNat l.toNat):Nat)):=by
 rw[pj,pj,JW (by omega)]
 have b:(q.toNat*6+(l.toNat*1+0)) / 6=q.toNat:=by omega
 have a:(q.toNat*6+(l.toNat*1+0))%6=l.toNat:=by omega
 rw[b,a]
theorem gF[Dl TB](l:List Sys)(h:∀s∈l,AX s=true)(hl:l.length<=3)(node letter:Int)(hn0:0<=node)(hn1:node<=1048576)(h0:0<=letter)(h1:letter<6)(outs:List Int)(hol:outs.length<=1099511627776) :
 Spec Tryz.prog TB 163 [(0,.cells 3 1 (outs.map AD))] 1 [Xg l,eI .i64 node,eI .i64 letter,.o (.arr 0 1 0 outs.length)]
  (λx σ nx=>x=.o (.arr 1 1 0 (outs++EK (l.map (·.st)) (ae l node letter)).length)/\nx=2/\σ=[(1,.cells 3 1 ((outs++EK (l.map (·.st)) (ae l node letter)).map AD))]):=by
 have hch:=Tf h hl h0 h1 node
 have hpos:∀z∈l.map (·.st),1<=z/\z<=16:=by
  intro z Z;obtain⟨s,F,rfl⟩:=d9.1 Z;have:=AN (h s F);omega
 have v:∀k,1<=Aw ((l.map (·.st)).drop k)/\Aw ((l.map (·.st)).drop k)<=4096:=by
  intro k;have h2:=Ib ((l.map (·.st)).drop k) λz Z=>hpos z (qk Z)
  have h3:(16:Int) ^ ((l.map (·.st)).drop k).length<=4096:=by
   have:((l.map (·.st)).drop k).length<=3:=by simp;omega
   generalize ((l.map (·.st)).drop k).length=n at this
   have:n=0\/n=1\/n=2\/n=3:=by omega
   rcases this with rfl|rfl|rfl|rfl<;>decide
  omega
 have H:=λk=>Tv (hch.drop k);have hget:=λ(k:Nat) (s:Sys) (F:l[k]?=some s)=>fT F node letter;generalize ae l node letter=cs at *
 have hzs:∀(k:Nat) (s:Sys),l[k]?=some s->(l.map (·.st))[k]?=some s.st:=λk s F=>by simp[F]
 have T:(l.map (·.st)).length=l.length:=by simp
 generalize l.map (·.st)=zs at *;have hcl:=hch.len;refine eN Tryz.func163 rfl (by kernel_rfl) rfl ?_;intro Γ b;(repeat first|refine aU rfl ?_);(refine Ag rfl ?_;refine CM (λ_ _=>Dj rfl rfl rfl) rfl ?_);(refine Ag rfl ?_;refine CM (λ_ _=>CQ rfl) rfl ?_);(repeat first|refine sN rfl ?_|(refine sA rfl ?_ ?_;first|exact tI|omega)|refine aU rfl ?_|apply Aa);apply aB;refine Ak.A5 (α:={k:Nat // k<=l.length}) (λ⟨k,hk⟩=>[(1,eI .i64 (node / Aw (zs.drop k))),(2,eI .i64 letter),(3,.o (.arr 0 1 0 outs.length)),(4,.o (.ip (Hd l))),(9,Al (EK (zs.drop k) (cs.drop k))),(10,eI .i64 (Aw (zs.drop k))),(11,eI .i64 ((k:Int)-1))]) (λ⟨k,hk⟩=>[(0,.cells 3 1 (outs.map AD))]) 1 (λ⟨k,hk⟩=>k) (⟨l.length,by omega⟩) [0] (En b rfl rfl) (by (simp[cX,zC,b,qh,T,hcl.symm,Aw,EK])) ?_;rintro⟨k,hk⟩;(try dsimp only);(repeat first|refine tM rfl ?_|refine s2 rfl λ_ A=>?_|refine aU rfl ?_|apply Aa);(refine aC rfl ?_ ?_<;>rintro⟨⟩)
 ·obtain⟨k,rfl⟩:∃k',k=k'+1:=⟨k-1,by (simp only[oZ] at *;omega)⟩
  obtain⟨s,F⟩:=get_some (l:=l) (k:=k) (by omega)
  have hs':(l.map AL)[(((k+1:Nat):Int)-1).toNat]?=some (AL s):=by simp[F]
  have hm':(l.map TA)[(((k+1:Nat):Int)-1).toNat]?=some (TA s):=by simp[F]
  have B:=h s (co F);have hsh:=AN B;have Z:=hzs k s F;have hck:=hget k s F;have c:=aQ Z hck;have G:=XJ Z;have M:=v (k+1);have hpr0:=v k;have hlk:=H (k+1);have P:=(H k).2;rw[c]at P
  have hnd:node / Aw (zs.drop k)=node / Aw (zs.drop (k+1)) / s.st:=by
   rw[G,q6,rh (by omega)]
  have hn2:0<=node / Aw (zs.drop (k+1)):=qP hn0 (by omega);have hn3:node / Aw (zs.drop (k+1))<=node:=qJ _ hn0;rw[G]at hpr0;generalize Aw (zs.drop (k+1))=W at *;generalize EK (zs.drop (k+1)) (cs.drop (k+1))=low at *;generalize node / W=nd at *
  have I:0<=nd%s.st/\nd%s.st<s.st:=⟨pX _ (by omega),pM _ (by omega)⟩
  apply aK;refine aS (aB ?_);(repeat first|(refine sA rfl ?_ ?_;first|exact tI|omega)|(refine s4 rfl ‹_› rfl ?_ ?_;omega)|refine aU rfl ?_|apply Aa)
  have X:∃to,to=BR s (nd%s.st) letter/\(AZ s.al letter.toNat=false->to=[nd%s.st])/\(AZ s.al letter.toNat=true->to=MX s.es (nd%s.st).toNat letter.toNat):=by
   refine⟨_,rfl,λhb=>?_,λhb=>?_⟩
   ·unfold BR;rw[if_neg (by simp[hb])]
   ·rw[bL hb];congr 1<;>omega
  have u:∀x∈BR s (nd%s.st) letter,0<=x/\x<s.st:=λx e=>JK B I.1 I.2 e;have J:=NM B (l:=letter) I.1 I.2;obtain⟨to,X,hto0,hto1⟩:=X;rw[<-X]at u J c P
  have hmem:AZ s.al letter.toNat=true->Pure Tryz.prog TB 94 [eI .i64 (BQ (MX s.es (nd%s.st).toNat letter.toNat):Nat)] (Al (MX s.es (nd%s.st).toNat letter.toNat)):=λhb=>by
   have h2:=FK B s.es.length (nd%s.st).toNat letter.toNat;have h3:=λx e=>NP B (k:=s.es.length) (f:=(nd%s.st).toNat) (l:=letter.toNat) (x:=x) e;rw[io]at h2 h3
   exact XF _ h2 λx e=>by have:=h3 x e;omega
  have hld:=dC (es:=s.es) (q:=nd%s.st) (l:=letter) ⟨I.1,by omega⟩ ⟨h0,h1⟩
  have R:hasB s.al letter=AZ s.al letter.toNat:=by simp[hasB,h0]
  (repeat first|(refine sC rfl (Np _ _) ?_;intro _ A)|apply Aa)
  have N:node / (s.st*W)=nd / s.st:=by rw[<-G];exact hnd
  have S:W*s.st=s.st*W:=q6 _ _
  have Q:∀m,(((to.take m).flatMap λq=>low.map λr=>q*W+r).length:Int)<=1048576:=by
   intro m;have h2:=LW (to.take m) (λq=>low.map λr=>q*W+r) 4096 (λx _=>by simp;omega)
   have h3:(to.take m).length<=to.length:=by simp;omega
   omega
  (refine aC rfl ?_ ?_<;>rintro⟨⟩)
  ·have hb:AZ s.al letter.toNat=true:=by rw[<-R];exact A
   have K:=hmem hb;have p:=hto1 hb;(repeat first|(refine sM rfl ?_ ?_;first|exact tI|omega)|(refine s4 rfl ‹_› rfl ?_ ?_;omega)|refine sP rfl (K) rfl ?_|(refine Ag rfl ?_;refine gA rfl ?_;first|refine gS (λ_ _=>ET rfl hld) ?_)|refine aU rfl ?_|apply Aa|refine rE (by kernel_rfl) ?_);(refine pW rfl ?_ rfl (by rfl);refine Hv 1 3 ?_);(repeat first|refine sN rfl ?_|refine tM rfl ?_|refine aU rfl ?_|apply Aa);apply aB;refine Ak.A5 (α:={m:Nat // m<=to.length}) (λ⟨m,K⟩=>[(1,eI .i64 nd),(2,eI .i64 letter),(3,.o (.arr 0 1 0 outs.length)),(4,.o (.ip (Hd l))),(9,Al low),(10,eI .i64 W),(11,eI .i64 (((k+1:Nat):Int)-1)),(12,.o (.ptr 1 3 0 0)),(14,.o (.arr 2 1 0 ((to.take m).flatMap λq=>low.map λr=>q*W+r).length)),(57,Al to),(58,eI .i64 to.length),(59,eI .i64 m)]) (λ⟨m,K⟩=>[(0,.cells 3 1 (outs.map AD)),(1,.cells 25 3 [[.d (iD s.al),.d (iD s.st),.d (EG s.es)]]),(2,.cells 3 1 (((to.take m).flatMap λq=>low.map λr=>q*W+r).map AD))]) 3 (λ⟨m,K⟩=>to.length-m) (⟨0,by omega⟩) [0,1,2] (En b rfl rfl) (by (simp[cX,zC,b,Ae,eC,p])) ?_;rintro⟨m,K⟩;(try dsimp only);clear p
   have w:∀x,to[m]?=some x->(to.take (m+1)).flatMap (λq=>low.map λr=>q*W+r)=(to.take m).flatMap (λq=>low.map λr=>q*W+r)++low.map λr=>x*W+r:=λx e=>by
    rw[d8,e];simp
   have hlm:=Q m;generalize t:(to.take m).flatMap (λq=>low.map λr=>q*W+r)=pre at *;(repeat first|refine s2 rfl λ_ A=>?_|refine aU rfl ?_|apply Aa);(refine aC rfl ?_ ?_<;>rintro⟨⟩)
   ·obtain⟨x,e⟩:=get_some (l:=to) (k:=m) (by (simp only[oZ] at *;omega))
    have hx':=get_map (g:=Bs) e;have V:=u x (co e);have w:=w x e;apply aK;refine aS (aB ?_);(repeat first|refine sN rfl ?_|refine tM rfl ?_|(refine s4 rfl ‹_› rfl ?_ ?_;omega)|refine aU rfl ?_|apply Aa);apply aB;refine Ak.A5 (α:={j:Nat // j<=low.length}) (λ⟨j,Y⟩=>[(1,eI .i64 nd),(2,eI .i64 letter),(3,.o (.arr 0 1 0 outs.length)),(4,.o (.ip (Hd l))),(9,Al low),(10,eI .i64 W),(11,eI .i64 (((k+1:Nat):Int)-1)),(12,.o (.ptr 1 3 0 0)),(14,.o (.arr 2 1 0 (pre.length+j))),(57,Al to),(58,eI .i64 to.length),(59,eI .i64 m),(16,eI .i64 x),(63,Al low),(64,eI .i64 low.length),(65,eI .i64 j)]) (λ⟨j,Y⟩=>[(0,.cells 3 1 (outs.map AD)),(1,.cells 25 3 [[.d (iD s.al),.d (iD s.st),.d (EG s.es)]]),(2,.cells 3 1 ((pre++(low.take j).map λr=>x*W+r).map AD))]) 3 (λ⟨j,Y⟩=>low.length-j) (⟨0,by omega⟩) [0,1,2] (En b rfl rfl) (by (simp[cX,zC,b])) ?_;rintro⟨j,Y⟩;(try dsimp only);(repeat first|refine s2 rfl λ_ A=>?_|refine aU rfl ?_|apply Aa);(refine aC rfl ?_ ?_<;>rintro⟨⟩)
    ·obtain⟨y,U⟩:=get_some (l:=low) (k:=j) (by (simp only[oZ] at *;omega))
     have hy':=get_map (g:=Bs) U;have hyb:=hlk.1 y (co U)
     have h16:0<=x*W/\x*W<=65536:=⟨pG V.1 (by omega),by
      have h5:x*W<=16*4096:=pE (by omega) M.2 (by omega) (by omega)
      omega⟩
     apply aK;refine aS (aB ?_);(repeat first|(refine sA rfl ?_ ?_;first|exact tI|omega)|(refine s4 rfl ‹_› rfl ?_ ?_;omega)|refine aU rfl ?_|apply Aa);(refine pW rfl ?_ rfl (by rfl);refine Au rfl rfl rfl (by first|(simp;done)|(simp;(omega))) rfl (by intro r L;simp at L;subst L;rfl) (by rfl) (am rfl) (by simp;omega) ?_);(repeat first|(refine sX rfl ?_ ?_;first|exact tI|omega)|refine aU rfl ?_|apply Aa);refine⟨⟨j+1,by (simp only[oZ] at *;omega)⟩,by dsimp only;((simp only[oZ] at *;omega)),[0,1,3],?_⟩;simp[cX,zC,b,d8,U,pu]
    ·obtain rfl:j=low.length:=by (simp only[oZ] at *;omega)
     rw[io];apply aE;(repeat first|(refine sM rfl ?_ ?_;first|exact tI|omega)|refine aU rfl ?_|apply Aa);refine⟨⟨m+1,by (simp only[oZ] at *;omega)⟩,by dsimp only;((simp only[oZ] at *;omega)),[0,1,2],?_⟩;simp[cX,zC,b,w]
   ·obtain rfl:m=to.length:=by (simp only[oZ] at *;omega)
    rw[io]at t;rw[t]at c;subst c;apply aE;refine Ak.freeze [2] [(1,eI .i64 nd),(2,eI .i64 letter),(3,.o (.arr 0 1 0 outs.length)),(4,.o (.ip (Hd l))),(10,eI .i64 W),(11,eI .i64 (((k+1:Nat):Int)-1)),(12,.o (.ptr 1 3 0 0)),(14,Al (EK (zs.drop k) (cs.drop k)))] ⟨⟨_,rfl,.AS⟩,⟨_,rfl,.AS⟩,⟨_,rfl,.AS⟩,⟨_,rfl,.AS⟩,⟨_,rfl,.AS⟩,⟨_,rfl,.AS⟩,⟨_,rfl,.AS⟩,⟨_,rfl,.o (.full (by simp) rfl (by simp[d5]) (by simp))⟩,trivial⟩ ?_;(repeat first|(refine sM rfl ?_ ?_;first|exact tI|omega)|refine aU rfl ?_|apply Aa);refine⟨⟨k,by omega⟩,by dsimp only;(omega),[0],?_⟩;simp[cX,zC,b,N,G,S,Ce]
  ·have hb:AZ s.al letter.toNat=false:=by rw[<-R];exact A
   have p:=hto0 hb;apply aK;(repeat first|refine aU rfl ?_);(refine pW rfl ?_ rfl (by rfl);refine Hv 1 3 ?_);(repeat first|refine tM rfl ?_|refine aU rfl ?_|apply Aa);apply aB;refine Ak.A5 (α:={m:Nat // m<=to.length}) (λ⟨m,K⟩=>[(1,eI .i64 nd),(2,eI .i64 letter),(3,.o (.arr 0 1 0 outs.length)),(4,.o (.ip (Hd l))),(9,Al low),(10,eI .i64 W),(11,eI .i64 (((k+1:Nat):Int)-1)),(12,.o (.ptr 1 3 0 0)),(14,.o (.arr 2 1 0 ((to.take m).flatMap λq=>low.map λr=>q*W+r).length)),(57,Al to),(58,eI .i64 to.length),(59,eI .i64 m)]) (λ⟨m,K⟩=>[(0,.cells 3 1 (outs.map AD)),(1,.cells 25 3 [[.d (iD s.al),.d (iD s.st),.d (EG s.es)]]),(2,.cells 3 1 (((to.take m).flatMap λq=>low.map λr=>q*W+r).map AD))]) 3 (λ⟨m,K⟩=>to.length-m) (⟨0,by omega⟩) [0,1,2] (En b rfl rfl) (by (simp[cX,zC,b,Ae,eC,p])) ?_;rintro⟨m,K⟩;(try dsimp only);clear p
   have w:∀x,to[m]?=some x->(to.take (m+1)).flatMap (λq=>low.map λr=>q*W+r)=(to.take m).flatMap (λq=>low.map λr=>q*W+r)++low.map λr=>x*W+r:=λx e=>by
    rw[d8,e];simp
   have hlm:=Q m;generalize t:(to.take m).flatMap (λq=>low.map λr=>q*W+r)=pre at *;(repeat first|refine s2 rfl λ_ A=>?_|refine aU rfl ?_|apply Aa);(refine aC rfl ?_ ?_<;>rintro⟨⟩)
   ·obtain⟨x,e⟩:=get_some (l:=to) (k:=m) (by (simp only[oZ] at *;omega))
    have hx':=get_map (g:=Bs) e;have V:=u x (co e);have w:=w x e;apply aK;refine aS (aB ?_);(repeat first|refine sN rfl ?_|refine tM rfl ?_|(refine s4 rfl ‹_› rfl ?_ ?_;omega)|refine aU rfl ?_|apply Aa);apply aB;refine Ak.A5 (α:={j:Nat // j<=low.length}) (λ⟨j,Y⟩=>[(1,eI .i64 nd),(2,eI .i64 letter),(3,.o (.arr 0 1 0 outs.length)),(4,.o (.ip (Hd l))),(9,Al low),(10,eI .i64 W),(11,eI .i64 (((k+1:Nat):Int)-1)),(12,.o (.ptr 1 3 0 0)),(14,.o (.arr 2 1 0 (pre.length+j))),(57,Al to),(58,eI .i64 to.length),(59,eI .i64 m),(16,eI .i64 x),(63,Al low),(64,eI .i64 low.length),(65,eI .i64 j)]) (λ⟨j,Y⟩=>[(0,.cells 3 1 (outs.map AD)),(1,.cells 25 3 [[.d (iD s.al),.d (iD s.st),.d (EG s.es)]]),(2,.cells 3 1 ((pre++(low.take j).map λr=>x*W+r).map AD))]) 3 (λ⟨j,Y⟩=>low.length-j) (⟨0,by omega⟩) [0,1,2] (En b rfl rfl) (by (simp[cX,zC,b])) ?_;rintro⟨j,Y⟩;(try dsimp only);(repeat first|refine s2 rfl λ_ A=>?_|refine aU rfl ?_|apply Aa);(refine aC rfl ?_ ?_<;>rintro⟨⟩)
    ·obtain⟨y,U⟩:=get_some (l:=low) (k:=j) (by (simp only[oZ] at *;omega))
     have hy':=get_map (g:=Bs) U;have hyb:=hlk.1 y (co U)
     have h16:0<=x*W/\x*W<=65536:=⟨pG V.1 (by omega),by
      have h5:x*W<=16*4096:=pE (by omega) M.2 (by omega) (by omega)
      omega⟩
     apply aK;refine aS (aB ?_);(repeat first|(refine sA rfl ?_ ?_;first|exact tI|omega)|(refine s4 rfl ‹_› rfl ?_ ?_;omega)|refine aU rfl ?_|apply Aa);(refine pW rfl ?_ rfl (by rfl);refine Au rfl rfl rfl (by first|(simp;done)|(simp;(omega))) rfl (by intro r L;simp at L;subst L;rfl) (by rfl) (am rfl) (by simp;omega) ?_);(repeat first|(refine sX rfl ?_ ?_;first|exact tI|omega)|refine aU rfl ?_|apply Aa);refine⟨⟨j+1,by (simp only[oZ] at *;omega)⟩,by dsimp only;((simp only[oZ] at *;omega)),[0,1,3],?_⟩;simp[cX,zC,b,d8,U,pu]
    ·obtain rfl:j=low.length:=by (simp only[oZ] at *;omega)
     rw[io];apply aE;(repeat first|(refine sM rfl ?_ ?_;first|exact tI|omega)|refine aU rfl ?_|apply Aa);refine⟨⟨m+1,by (simp only[oZ] at *;omega)⟩,by dsimp only;((simp only[oZ] at *;omega)),[0,1,2],?_⟩;simp[cX,zC,b,w]
   ·obtain rfl:m=to.length:=by (simp only[oZ] at *;omega)
    rw[io]at t;rw[t]at c;subst c;apply aE;refine Ak.freeze [2] [(1,eI .i64 nd),(2,eI .i64 letter),(3,.o (.arr 0 1 0 outs.length)),(4,.o (.ip (Hd l))),(10,eI .i64 W),(11,eI .i64 (((k+1:Nat):Int)-1)),(12,.o (.ptr 1 3 0 0)),(14,Al (EK (zs.drop k) (cs.drop k)))] ⟨⟨_,rfl,.AS⟩,⟨_,rfl,.AS⟩,⟨_,rfl,.AS⟩,⟨_,rfl,.AS⟩,⟨_,rfl,.AS⟩,⟨_,rfl,.AS⟩,⟨_,rfl,.AS⟩,⟨_,rfl,.o (.full (by simp) rfl (by simp[d5]) (by simp))⟩,trivial⟩ ?_;(repeat first|(refine sM rfl ?_ ?_;first|exact tI|omega)|refine aU rfl ?_|apply Aa);refine⟨⟨k,by omega⟩,by dsimp only;(omega),[0],?_⟩;simp[cX,zC,b,N,G,S,Ce]
 ·obtain rfl:k=0:=by (simp only[oZ] at *;omega)
  rw[pN,pN];have hl0:=(H 0).2;have hp0:=v 0;rw[pN,pN]at hl0;rw[pN]at hp0;apply aE;(repeat first|refine tM rfl ?_|refine aU rfl ?_);(refine pW rfl ?_ rfl (by rfl);refine Au rfl rfl rfl (by first|(simp;done)|(simp;(omega))) rfl (by intro r L;simp at L;obtain⟨a,_,rfl⟩:=L;rfl) (by rfl) (am rfl) (by simp;omega) ?_);(repeat first|refine tX rfl ?_|apply Aa);refine Ak.names [0,1] [(8,.o (.arr 1 1 0 (outs++EK zs cs).length))] [(1,.cells 3 1 ((outs++EK zs cs).map AD))] (by intro i hi;rw[b]at hi;obtain rfl:i=0:=(by omega);rfl) (by simp) (by simp[cX,zC,b]) (by simp[cX,zC,b]) ?_;refine aR ⟨_,rfl,rfl,rfl,rfl⟩
end Go.Am
namespace Go.Am
open Go
structure OO where
 p:Int
 l:Int
 ns:List Int
structure ja where
 seen:List Bool
 fresh:List Int
 found:Bool
def sn(seen:List Bool)(n:Int):Bool:=seen.getD n.toNat false
def WG(goal:Int->Bool)(st:ja)(n:Int):ja:=if sn st.seen n then st else ⟨st.seen.set n.toNat true,st.fresh++[n],st.found || goal n⟩
def Ug(goal:Int->Bool)(seen:List Bool)(nodes:List Int):ja:=nodes.foldl (WG goal) ⟨seen,[],false⟩
theorem kj{seen:List Bool}{n m:Int}(a:0<=n/\n.toNat<seen.length)(b:0<=m):sn (seen.set n.toNat true) m=(sn seen m || decide (m=n)):=by
 unfold sn;by_cases h:m=n
 ·subst h;simp[List.getD,a.2]
 ·have:n.toNat≠m.toNat:=by omega
  simp[List.getD,pJ this,h]
theorem count_set{seen:List Bool}{k:Nat}(h:seen[k]?=some false):(seen.set k true).count true=seen.count true+1:=by
 induction seen generalizing k with
 | nil=>simp at h
 | cons a l b=>
  cases k with
  | zero=>simp at h;subst h;simp
  | succ k=>
   have:=b (k:=k) (by simpa using h);simp only[List.set_cons_succ,List.count_cons,this];omega
structure kz (goal:Int->Bool) (N:Nat) (seen:List Bool) (nodes:List Int) (st:ja):Prop where
 len:st.seen.length=N
 snI:∀n:Int,0<=n->(sn st.seen n=true↔sn seen n=true\/n∈nodes)
 fr:∀n:Int,n∈st.fresh↔n∈nodes/\sn seen n=false
 nd:st.fresh.Nodup
 fd:st.found=st.fresh.any goal
 cnt:st.seen.count true=seen.count true+st.fresh.length
theorem Yv{goal:Int->Bool}{N:Nat}{seen:List Bool}{nodes:List Int}(r:seen.length=N)(j:∀n∈nodes,0<=n/\n<N):kz goal N seen nodes (Ug goal seen nodes):=by
 have key : ∀ (l done:List Int) (st:ja),(∀n∈l,0<=n/\n<N)->(∀n∈done,0<=n)->kz goal N seen done st->kz goal N seen (done++l) (l.foldl (WG goal) st):=by
  intro l
  induction l with
  | nil=>intro done st _ _ h;simpa using h
  | cons a l p=>
   intro done st o s h;have ha:=o a (by simp);rw[p8,show done++a::l=(done++[a])++l by simp];refine p (done++[a]) _ (λn j=>o n (by simp[j])) (λn j=>by rcases f6.1 j with f|f;exact s n f;simp at f;omega) ?_;have m:=h.len
   have g:∀n:Int,n∈done++[a]↔n∈done\/n=a:=λn=>by simp
   unfold WG;by_cases b:sn st.seen a=true
   ·rw [if_pos b]
    have f:=(h.snI a ha.1).1 b;refine⟨h.len,λn i=>?_,λn=>?_,h.nd,h.fd,h.cnt⟩
    ·rw[h.snI n i,g]
     constructor
     ·rintro(c|c);exact .inl c;exact .inr (.inl c)
     ·rintro(c|c|rfl);exact .inl c;exact .inr c;exact f
    ·rw [h.fr n,g]
     constructor
     ·rintro⟨c,d⟩;exact⟨.inl c,d⟩
     ·rintro⟨c|rfl,d⟩
      ·exact⟨c,d⟩
      ·rcases f with f|f
       ·rw[f]at d;cases d
       ·exact⟨f,d⟩
   ·rw [if_neg b]
    have f:sn seen a=false/\a∉done:=by
     have c:¬(sn seen a=true\/a∈done):=λd=>b ((h.snI a ha.1).2 d);exact⟨by simpa using λd=>c (.inl d),λd=>c (.inr d)⟩
    have hk:st.seen[a.toNat]?=some false:=by
     unfold sn at b
     have:a.toNat<st.seen.length:=by omega
     simp[List.getD,this]at b;rw[d6 this,b]
    refine⟨by simpa using h.len,λn i=>?_,λn=>?_,?_,?_,?_⟩
    ·rw[kj ⟨ha.1,by omega⟩ i,g,o8,h.snI n i];simp;grind
    ·simp only[f6,su,h.fr n]
     grind
    ·refine qD.2 ⟨h.nd,by simp,λx q y k=>?_⟩
     simp at k;subst k;intro e;subst e;exact f.2 ((h.fr x).1 q).1
    ·simp[sU,h.fd]
    ·rw[count_set hk,h.cnt];simp;omega
 have:=key nodes [] ⟨seen,[],false⟩ j (by simp) ⟨r,λn _=>by simp,λn=>by simp,.nil,rfl,by simp⟩
 simpa[Ug]using this
theorem Se:∀ {a b c:List Int},WJ a b->WJ b c->WJ a c
 | [],_,_,h,_=>h.elim
 | _::_,[],_,h,_=>h.elim
 | _::_,_::_,[],_,h=>h.elim
 | x::a,y::b,z::c,h,k=>by
  simp only[WJ] at *
  rcases h with h|⟨h,d⟩<;>rcases k with k|⟨k,k'⟩
  ·exact .inl (by omega)
  ·exact .inl (by omega)
  ·exact .inl (by omega)
  ·exact .inr ⟨by omega,Se d k'⟩
theorem Tt:∀ {a:List Int},¬WJ a a
 | [],h=>h
 | x::a,h=>by rcases h with h|⟨_,h⟩;omega;exact Tt h
theorem GJ{a b c:List Int}(h:slt a b)(k:slt b c):slt a c:=by
 unfold slt at *
 rcases h with h|⟨h,d⟩<;>rcases k with k|⟨k,k'⟩
 ·exact .inl (by omega)
 ·exact .inl (by omega)
 ·exact .inl (by omega)
 ·exact .inr ⟨by omega,Se d k'⟩
theorem MB{a:List Int}:¬slt a a:=by
 rintro(h|⟨_,h⟩);omega;exact Tt h
theorem VU(a b:List Int):slt a b\/a=b\/slt b a:=by
 rcases rU a.length b.length with h|h|h
 ·exact .inl (.inl h)
 ·rcases Tu h with c|c|c
  ·exact .inl (.inr ⟨h,c⟩)
  ·exact .inr (.inl c)
  ·exact .inr (.inr (.inr ⟨h.symm,c⟩))
 ·exact .inr (.inr (.inl h))
theorem ZG{a b:List Int}{l m:Int}(h:slt a b):slt (a++[l]) (b++[m]):=by
 rcases h with h|⟨h,c⟩
 ·exact .inl (by simp;omega)
 ·exact .inr ⟨by simp;omega,(Jv h).2 (.inl c)⟩
theorem fc{a:List Int}{l m:Int}(h:l<m):slt (a++[l]) (a++[m]):=.inr ⟨by simp,(Jv rfl).2 (.inr ⟨rfl,h⟩)⟩
theorem ff{a b:List Int}{l m:Int}:slt (a++[l]) (b++[m])->slt a b\/a=b/\l<m:=by
 intro h
 rcases VU a b with c|c|c
 ·exact .inl c
 ·subst c
  rcases h with h|⟨h,e⟩
  ·simp at h
  ·rcases(Jv rfl).1 e with d|d
   ·exact absurd d Tt
   ·exact .inr d
 ·exact absurd (GJ h (ZG c)) MB
theorem fe{a:List Int}{l:Int}:slt a (a++[l]):=.inl (by simp)
structure FI (g:Gr) (seen:List Bool) (steps:List OO) (ws:List (List Int)) (i j:Nat):Prop where
 slen:seen.length=g.N
 wlen:ws.length=steps.length
 chain:∀(t:Nat) s,steps[t]?=some s->(s.p = -1/\ws[t]?=some [])\/∃(q:Nat) (w:List Int),s.p=(q:Int)/\q<t/\ws[q]?=some w/\ws[t]?=some (w++[s.l])/\s.l∈g.ls
 rch:∀(t:Nat) s w,steps[t]?=some s->ws[t]?=some w->∀n∈s.ns,reach g w g.s0 n
 ov:∀w∈ws,over g w
 min:∀(t:Nat) s w,steps[t]?=some s->ws[t]?=some w->∀n∈s.ns,∀u,over g u->slt u w->¬reach g u g.s0 n
 ord:ws.Pairwise slt
 par:∀w∈ws,w=[]\/∃(p:Nat) (v:List Int) (l:Int),ws[p]?=some v/\w=v++[l]/\l∈g.ls/\(p<i\/p=i/\∃j',j'<j/\g.ls[j']?=some l)
 snI:∀n:Int,0<=n->(sn seen n=true↔∃s∈steps,n∈s.ns)
 done:∀(t:Nat) s,steps[t]?=some s->∀l,(t<i/\l∈g.ls\/t=i/\∃j',j'<j/\g.ls[j']?=some l)->∀n∈s.ns,∀y∈g.succ n l,sn seen y=true
 nogoal:∀s∈steps,∀n∈s.ns,g.goal n=false
 inn:∀s∈steps,∀n∈s.ns,0<=n/\n<g.N
 start:sn seen g.s0=true
 cnt:steps.length<=seen.count true
 le:i<=steps.length
 nd:∀s∈steps,s.ns.Nodup
theorem FI.lE{g:Gr}{seen:List Bool}{steps:List OO}{ws:List (List Int)}{i j:Nat}(h:FI g seen steps ws i j):steps.length<=g.N:=by
 have b:=h.cnt;have a:seen.count true<=seen.length:=List.count_le_length;rw[h.slen]at a;omega
theorem FI.iF{g:Gr}(I:Jg g){seen:List Bool}{steps:List OO}{ws:List (List Int)}{i j:Nat}(h:FI g seen steps ws i j){wi:List Int}{lj:Int}(J:ws[i]?=some wi)(Q:g.ls[j]?=some lj) :
 ∀(n:Nat) (u:List Int),u.length=n->over g u->slt u (wi++[lj])->∀x,reach g u g.s0 x->sn seen x=true:=by
 intro n
 induction n with
 | zero=>
  intro u B _ _ x p;have:u=[]:=mt.1 B;subst this;have p:g.s0=x:=p;rw[<-p];exact h.start
 | succ n L=>
  intro u B P w x p
  have q:u≠[]:=λe=>by subst e;simp at B
  obtain⟨v,l,rfl⟩:∃v l,u=v++[l]:=⟨u.dropLast,u.getLast q,(rA q).symm⟩
  obtain⟨m,H,F⟩:=EL.1 p;obtain⟨k,K⟩:=GH.1 P;have G:=L v (by simpa using B) k (GJ fe w) m H;have r:=DY I k I.s0 H;obtain⟨s,N,c⟩:=(h.snI m r.1).1 G;obtain⟨t,ht⟩:=qT N;obtain⟨wt,a⟩:∃wt,ws[t]?=some wt:=get_some (by have:=(ce.1 ht).1;rw[h.wlen];exact this);have y:¬slt v wt:=λd=>h.min t s wt ht a m c v k d H;have f:=ff w
  have M:t<=i:=by
   rcases po i t with d|d
   ·exfalso
    obtain⟨V,U⟩:=ce.1 J;obtain⟨T,S⟩:=ce.1 a;have A:=(o7.1 h.ord) i t V T d;rw[U,S]at A
    rcases VU v wt with o|o|o
    ·exact y o
    ·subst o
     rcases f with b|⟨b,_⟩
     ·exact MB (GJ A b)
     ·subst b;exact MB A
    ·rcases f with b|⟨b,_⟩
     ·exact MB (GJ (GJ A o) b)
     ·subst b;exact MB (GJ A o)
   ·exact d
  refine h.done t s ht l ?_ m c x F
  rcases po t i with d|d
  ·exact .inl ⟨d,K⟩
  ·have:t=i:=by omega
   subst this;rw[J]at a
   injection a with a
   subst a
   rcases f with b|⟨b,R⟩
   ·exact absurd b y
   ·obtain⟨j',z⟩:=qT K
    exact .inr ⟨rfl,j',db I.srt z Q R,z⟩
theorem CI.found{g:Gr}(l:Jg g){seen:List Bool}{steps:List OO}{ws:List (List Int)}{i j:Nat}(h:FI g seen steps ws i j){wi:List Int}{lj:Int}(d:ws[i]?=some wi)(p:g.ls[j]?=some lj){n x:Int}{s:OO}(r:steps[i]?=some s)(t:n∈s.ns)(q:x∈g.succ n lj)(k:g.goal x=true):CI g (some (wi++[lj])):=by
 have v:=co p;refine⟨GH.2 ⟨h.ov wi (co d),v⟩,⟨x,EL.2 ⟨n,h.rch i s wi r d n t,q⟩,k⟩,λu o w f=>?_⟩;obtain⟨y,m,a⟩:=w;have b:=h.iF l d p u.length u rfl o f y m;obtain⟨s',e,c⟩:=(h.snI y (DY l o l.s0 m).1).1 b;rw[h.nogoal s' e y c]at a;cases a
theorem CI.oL{g:Gr}(k:Jg g){seen:List Bool}{steps:List OO}{ws:List (List Int)}(h:FI g seen steps ws steps.length 0):CI g none:=by
 have key:∀(n:Nat) (u:List Int),u.length=n->over g u->∀x,reach g u g.s0 x->sn seen x=true:=by
  intro n
  induction n with
  | zero=>
   intro u b _ x a;have:u=[]:=mt.1 b;subst this;have a:g.s0=x:=a;rw[<-a];exact h.start
  | succ n y=>
   intro u b z x a
   have d:u≠[]:=λe=>by subst e;simp at b
   obtain⟨v,l,rfl⟩:∃v l,u=v++[l]:=⟨u.dropLast,u.getLast d,(rA d).symm⟩
   obtain⟨m,w,p⟩:=EL.1 a;obtain⟨f,A⟩:=GH.1 z;have r:=y v (by simpa using b) f m w;obtain⟨s,q,i⟩:=(h.snI m (DY k f k.s0 w).1).1 r;obtain⟨t,ht⟩:=qT q;exact h.done t s ht l (.inl ⟨(ce.1 ht).1,A⟩) m i x p
 rintro u b ⟨x,a,j⟩;have o:=key u.length u rfl b x a;obtain⟨s,q,c⟩:=(h.snI x (DY k b k.s0 a).1).1 o;rw[h.nogoal s q x c]at j;cases j
theorem FI.lL{g:Gr}{seen:List Bool}{steps:List OO}{ws:List (List Int)}{i:Nat}(h:FI g seen steps ws i g.ls.length)(hi:i<steps.length):FI g seen steps ws (i+1) 0:=by
 refine⟨h.slen,h.wlen,h.chain,h.rch,h.ov,h.min,h.ord,λw f=>?_,h.snI,λt s j l k=>?_,h.nogoal,h.inn,h.start,h.cnt,by omega,h.nd⟩
 ·rcases h.par w f with b|⟨p,v,l,b,d,c,e⟩
  ·exact .inl b
  ·exact .inr ⟨p,v,l,b,d,c,.inl (by rcases e with e|⟨e,_⟩<;>omega)⟩
 ·refine h.done t s j l ?_
  rcases k with ⟨b,d⟩|⟨_,j',b,_⟩
  ·rcases po t i with c|c
   ·exact .inl ⟨c,d⟩
   ·obtain⟨j',a⟩:=qT d
    exact .inr ⟨by omega,j',(ce.1 a).1,a⟩
  ·omega
def Fj(steps:List OO)(p l:Int)(fresh:List Int):List OO:=if fresh=[] then steps else steps++[⟨p,l,fresh⟩]
def nL(ws:List (List Int))(w fresh:List Int):List (List Int):=if fresh=[] then ws else ws++[w]
structure Chain (ls:List Int) (steps:List OO) (ws:List (List Int)):Prop where
 wlen:ws.length=steps.length
 chain:∀(t:Nat) s,steps[t]?=some s->(s.p = -1/\ws[t]?=some [])\/∃(q:Nat) (w:List Int),s.p=(q:Int)/\q<t/\ws[q]?=some w/\ws[t]?=some (w++[s.l])/\s.l∈ls
theorem Ho{α:Type}{l:List α}{x y:α}{t:Nat}(h:(l++[x])[t]?=some y):l[t]?=some y\/t=l.length/\y=x:=by
 rcases po t l.length with a|a
 ·rw[f9 a]at h;exact .inl h
 ·rw[gc a]at h
  have b:=(ce.1 h).1;simp at b
  have:t=l.length:=by omega
  subst this;simp at h;exact .inr ⟨rfl,h.symm⟩
theorem JS{α:Type}{l:List α}{x y:α}{t:Nat}(h:l[t]?=some y):(l++[x])[t]?=some y:=by
 rw[f9 (ce.1 h).1];exact h
theorem Chain.app{ls:List Int}{steps:List OO}{ws:List (List Int)}(h:Chain ls steps ws){i:Nat}{wi:List Int}{l:Int}{ns:List Int}(d:ws[i]?=some wi)(f:l∈ls):Chain ls (steps++[⟨i,l,ns⟩]) (ws++[wi++[l]]):=by
 have hi:=(ce.1 d).1;refine⟨by simp[h.wlen],λt s e=>?_⟩
 rcases Ho e with b|⟨b,a⟩
 ·rcases h.chain t s b with ⟨a,c⟩|⟨q,w,a,c,k,j,g⟩
  ·exact .inl ⟨a,JS c⟩
  ·exact .inr ⟨q,w,a,c,JS k,JS j,g⟩
 ·subst a
  refine .inr ⟨i,wi,rfl,?_,JS d,?_,f⟩
  ·rw[b,<-h.wlen];exact hi
  ·rw[b,<-h.wlen];simp
theorem FI.ZP{g:Gr}{seen:List Bool}{steps:List OO}{ws:List (List Int)}{i j:Nat}(h:FI g seen steps ws i j):Chain g.ls steps ws:=⟨h.wlen,h.chain⟩
theorem FI.visit{g:Gr}(Q:Jg g){seen:List Bool}{steps:List OO}{ws:List (List Int)}{i j:Nat}(h:FI g seen steps ws i j){wi:List Int}{lj:Int}(K:ws[i]?=some wi)(U:g.ls[j]?=some lj){s:OO}(hs:steps[i]?=some s)
 {R:List Int} (hR:∀y,y∈R↔∃n∈s.ns,y∈g.succ n lj) {st:ja} (z:kz g.goal g.N seen R st) (hf:st.found=false):FI g st.seen (Fj steps i lj st.fresh) (nL ws (wi++[lj]) st.fresh) i (j+1):=by
 have hl:=co U
 have Y:∀y∈R,0<=y/\y<g.N:=λy J=>by
  obtain⟨n,e,J⟩:=(hR y).1 J;exact Q.inn n (h.inn s (co hs) n e) lj hl y J
 have q:∀n:Int,0<=n->sn seen n=true->sn st.seen n=true:=λn e hx=>(z.snI n e).2 (.inl hx)
 have S:∀n∈st.fresh,g.goal n=false:=λn e=>by
  have:=z.fd;rw[hf]at this;have o:=List.any_eq_false.1 this.symm n e
  simpa using o
 have L:∀w∈ws,w=[]\/∃(p:Nat) (v:List Int) (l:Int),ws[p]?=some v/\w=v++[l]/\l∈g.ls/\(p<i\/p=i/\∃j',j'<j+1/\g.ls[j']?=some l):=λw K=>by
  rcases h.par w K with c|⟨p,v,l,c,o,f,k⟩
  ·exact .inl c
  ·refine .inr ⟨p,v,l,c,o,f,?_⟩
   rcases k with k|⟨k,j',h5,h6⟩
   ·exact .inl k
   ·exact .inr ⟨k,j',by omega,h6⟩
 have I:∀(t:Nat) s',steps[t]?=some s'->∀l,(t<i/\l∈g.ls\/t=i/\∃j',j'<j+1/\g.ls[j']?=some l)->∀n∈s'.ns,∀y∈g.succ n l,sn st.seen y=true:=by
  intro t s' d l H n e y J
  have B:0<=y/\y<g.N:=by
   refine Q.inn n (h.inn s' (co d) n e) l ?_ y J
   rcases H with ⟨_,c⟩|⟨_,j',_,c⟩
   ·exact c
   ·exact co c
  rcases H with c|⟨c,j',o,f⟩
  ·exact q y B.1 (h.done t s' d l (.inl c) n e y J)
  ·subst c
   rcases q8.1 o with k|k
   ·exact q y B.1 (h.done t s' d l (.inr ⟨rfl,j',k,f⟩) n e y J)
   ·subst k
    rw[U]at f
    injection f with f
    subst f;rw[hs]at d
    injection d with d
    subst d;exact(z.snI y B.1).2 (.inr ((hR y).2 ⟨n,e,J⟩))
 unfold Fj nL;by_cases r:st.fresh=[]
 ·rw [if_pos r,if_pos r]
  have M:∀n:Int,0<=n->(sn st.seen n=true↔sn seen n=true):=λn e=>by
   rw[z.snI n e];refine⟨λc=>?_,.inl⟩
   rcases c with c|c
   ·exact c
   ·rcases Bool.eq_false_or_eq_true (sn seen n) with o|o
    ·exact o
    ·have:=(z.fr n).2 ⟨c,o⟩
     rw[r]at this;cases this
  refine⟨z.len,h.wlen,h.chain,h.rch,h.ov,h.min,h.ord,L,λn e=>by rw[M n e];exact h.snI n e,I,h.nogoal,h.inn,q _ Q.s0.1 h.start,?_,h.le,h.nd⟩;rw[z.cnt,r];exact h.cnt
 ·rw [if_neg r,if_neg r]
  have V:=h.ZP.app (ns:=st.fresh) K hl;have x:∀n∈st.fresh,n∈R/\sn seen n=false:=λn e=>(z.fr n).1 e
  have X:∀w∈ws,slt w (wi++[lj]):=by
   intro w F
   rcases h.par w F with rfl|⟨p,v,l,c,rfl,f,k⟩
   ·exact .inl (by simp)
   ·rcases k with k|⟨k,j',h5,h6⟩
    ·obtain⟨a1,a2⟩:=ce.1 c
     obtain⟨b1,b2⟩:=ce.1 K;have Z:=(o7.1 h.ord) p i a1 b1 k;rw[a2,b2]at Z;exact ZG Z
    ·subst k
     rw[K]at c
     injection c with c
     subst c;obtain⟨a1,a2⟩:=ce.1 h6;obtain⟨b1,b2⟩:=ce.1 U;have Z:=(o7.1 Q.srt) j' j a1 b1 h5;rw[a2,b2]at Z;exact fc Z
  have P:∀n∈st.fresh,∃m∈s.ns,n∈g.succ m lj:=λn e=>(hR n).1 (x n e).1;refine⟨z.len,V.wlen,V.chain,λt s' w d G n e=>?_,λw F=>?_,λt s' w d G n e u hu T hr=>?_,?_,λw F=>?_,λn e=>?_,λt s' d l H n e y J=>?_,λs' d n e=>?_,λs' d n e=>?_,q _ Q.s0.1 h.start,?_,?_,λs' d=>?_⟩
  ·rcases Ho d with c|⟨c,o⟩
   ·rcases Ho G with f|⟨f,k⟩
    ·exact h.rch t s' w c f n e
    ·have:=(ce.1 c).1
     rw[h.wlen]at f;omega
   ·subst o
    rcases Ho G with f|⟨f,k⟩
    ·have:=(ce.1 f).1
     rw[h.wlen]at this;omega
    ·subst k
     obtain⟨m,hm,hnm⟩:=P n e;exact EL.2 ⟨m,h.rch i s wi hs K m hm,hnm⟩
  ·rcases f6.1 F with c|c
   ·exact h.ov w c
   ·simp at c;subst c
    exact GH.2 ⟨h.ov wi (co K),hl⟩
  ·rcases Ho d with c|⟨c,o⟩
   ·rcases Ho G with f|⟨f,k⟩
    ·exact h.min t s' w c f n e u hu T hr
    ·have:=(ce.1 c).1
     rw[h.wlen]at f;omega
   ·subst o
    rcases Ho G with f|⟨f,k⟩
    ·have:=(ce.1 f).1
     rw[h.wlen]at this;omega
    ·subst k
     have:=h.iF Q K U u.length u rfl hu T n hr;rw[(x n e).2]at this;cases this
  ·refine qA.2 ⟨h.ord,by simp,λa ha b hb=>?_⟩
   simp at hb;subst hb;exact X a ha
  ·rcases f6.1 F with c|c
   ·rcases L w c with o|⟨p,v,l,o,f,k,h5⟩
    ·exact .inl o
    ·exact .inr ⟨p,v,l,JS o,f,k,h5⟩
   ·simp at c;subst c
    exact .inr ⟨i,wi,lj,JS K,rfl,hl,.inr ⟨rfl,j,by omega,U⟩⟩
  ·rw [z.snI n e,h.snI n e]
   constructor
   ·rintro(⟨s',d,A⟩|hnR)
    ·exact⟨s',pf _ d,A⟩
    ·rcases Bool.eq_false_or_eq_true (sn seen n) with o|o
     ·obtain⟨s',d,A⟩:=(h.snI n e).1 o
      exact⟨s',pf _ d,A⟩
     ·exact⟨⟨i,lj,st.fresh⟩,pm _ (by simp),(z.fr n).2 ⟨hnR,o⟩⟩
   ·rintro⟨s',d,A⟩
    rcases f6.1 d with c|c
    ·exact .inl ⟨s',c,A⟩
    ·simp at c;subst c
     exact .inr (x n A).1
  ·rcases Ho d with c|⟨c,o⟩
   ·exact I t s' c l H n e y J
   ·have:=(ce.1 hs).1
    rcases H with ⟨f,_⟩|⟨f,_⟩<;>omega
  ·rcases f6.1 d with c|c
   ·exact h.nogoal s' c n e
   ·simp at c;subst c;exact S n e
  ·rcases f6.1 d with c|c
   ·exact h.inn s' c n e
   ·simp at c;subst c;exact Y n (x n e).1
  ·have c:=z.cnt
   have o:=h.cnt;have f:0<st.fresh.length:=sq.2 r;simp;omega
  ·have:=h.le;simp;omega
  ·rcases f6.1 d with c|c
   ·exact h.nd s' c
   ·simp at c;subst c;exact z.nd
theorem FI.init{g:Gr}(q:Jg g){st:ja}(j:kz g.goal g.N (List.replicate g.N false) [g.s0] st)(r:st.found=false):st.fresh=[g.s0]/\FI g st.seen [⟨-1,0,[g.s0]⟩] [[]] 0 0:=by
 have hno:∀n,sn (List.replicate g.N false) n=false:=λn=>by
  unfold sn;by_cases h:n.toNat<g.N<;>simp[List.getD,h]
 have d:∀n,n∈st.fresh↔n=g.s0:=λn=>by rw[j.fr n];simp[hno]
 have k:st.fresh=[g.s0]:=by
  have i:=j.nd;generalize st.fresh=l at d i
  cases l with
  | nil=>have:=(d g.s0).2 rfl;cases this
  | cons a l=>
   have ha:=(d a).1 (by simp);subst ha
   cases l with
   | nil=>rfl
   | cons b l=>
    have hb:=(d b).1 (by simp);subst hb;simp at i
 refine⟨k,?_⟩
 have m:g.goal g.s0=false:=by
  have:=j.fd;rw[r,k]at this
  simpa using this.symm
 have one:∀(t:Nat) (s:OO),[(⟨-1,0,[g.s0]⟩:OO)][t]?=some s->t=0/\s=⟨-1,0,[g.s0]⟩:=λt s h=>by
  cases t with
  | zero=>simp at h;exact⟨rfl,h.symm⟩
  | succ t=>simp at h
 have one':∀(t:Nat) (w:List Int),[([]:List Int)][t]?=some w->w=[]:=λt w h=>by
  cases t with
  | zero=>exact(Option.some.inj h).symm
  | succ t=>simp at h
 refine⟨j.len,rfl,λt s c=>?_,λt s w c f n e=>?_,λw f=>?_,λt s w c f n e u _ o=>?_,by simp,λw f=>by simp at f;exact .inl f,λn e=>?_,λt s c l p n e y v=>?_,λs c n e=>?_,λs c n e=>?_,?_,?_,by simp,λs c=>?_⟩
 ·obtain⟨rfl,rfl⟩:=one t s c;exact .inl ⟨rfl,rfl⟩
 ·obtain⟨rfl,rfl⟩:=one t s c
  have:=one' 0 w f;subst this;simp at e;subst e;exact(rfl:g.s0=g.s0)
 ·simp at f;subst f;exact λl p=>(by cases p)
 ·have:=one' t w f
  subst this
  rcases o with i|⟨_,i⟩
  ·simp at i
  ·cases u<;>exact i.elim
 ·rw[j.snI n e];simp[hno]
 ·rcases p with ⟨i,_⟩|⟨_,j',i,_⟩<;>omega
 ·simp at c;subst c;simp at e;subst e;exact m
 ·simp at c;subst c;simp at e;subst e;exact q.s0
 ·exact(j.snI _ q.s0.1).2 (.inr (by simp))
 ·rw[j.cnt,k];simp
 ·simp at c;subst c;simp
theorem CI.start{g:Gr}(h:g.goal g.s0=true):CI g (some []):=
 ⟨λl c=>(by cases c),⟨g.s0,rfl,h⟩,λu _ _ a=>by rcases a with b|⟨_,b⟩;(simp at b);(cases u<;>exact b.elim)⟩
end Go.Am
