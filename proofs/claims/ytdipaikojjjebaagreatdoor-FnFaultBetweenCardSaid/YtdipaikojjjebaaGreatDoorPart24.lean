/-
  The table of an automaton.
-/
import Derived.Test.YtdipaikojjjebaaGreatDoorPart22
import Derived.Test.YtdipaikojjjebaaGreatDoorPart14
set_option linter.all false
namespace Go.Am
open Go Go.Proofs
set_option maxHeartbeats 1000000
set_option maxRecDepth 4000
attribute [local irreducible] A5 Ck Lex Br Aj Spec
variable {TB:BJ}
def Qi(h:Nat->Int):List C:=(List.range 6).map λl=>.d (iD (h l))
def Yx(h:Nat->Int):List D:=(List.range 6).map λl=>iD (h l)
theorem gH(h:Nat->Int):Qi h=(Yx h).map .d:=by simp[Qi,Yx]
def CC{α:Type}(n:Nat)(g:Nat->α):List α:=(List.range n).map g
theorem Fy{α:Type}{n q:Nat}{g:Nat->α}(h:q<n):(CC n g)[q]?=some (g q):=by simp[CC,h]
theorem Nw{α:Type}{n q:Nat}{g:Nat->α}{x:α}:(CC n g).set q x=CC n λi=>if i=q then x else g i:=by
 apply sw;intro i;by_cases hi:i<n
 ·rw[Fy hi]
  by_cases a:q=i
  ·subst a;rw[rS (by simp[CC,hi])];simp
  ·rw[rT a,Fy hi,if_neg (Ne.symm a)]
 ·rw[qT (by simp[CC];omega),qT (by simp[CC];omega)]
theorem ED{α:Type}{n:Nat}{g g':Nat->α}(h:∀i,i<n->g i=g' i):CC n g=CC n g':=by
 unfold CC;exact rB λi hi=>h i (pi.1 hi)
theorem gJ{h:Nat->Int}{l:Nat}{v:Int}(b:l<6):Ae (Qi h) (0+l*1) (eC (eI .i64 v))=Qi λx=>if x=l then v else h x:=by
 have e:eC (eI .i64 v)=[C.d (iD v)]:=rfl;rw[e,IW (by simp[Qi];omega)];have:=Nw (n:=6) (q:=l) (g:=λl=>C.d (iD (h l))) (x:=C.d (iD v))
 have a:0+l*1=l:=by omega
 rw[a];refine Eq.trans this (ED λi _=>?_);by_cases e:i=l<;>simp[e]
theorem Lf{h a:Nat->Int}(b:∀l,l<6->h l=a l):Qi h=Qi a:=ED λi hi=>by rw[b i hi]
theorem KF(s:Int):∀(n k:Nat),k<=n->AI s k <+: AI s n
  | 0, k, h => by have:k=0:=by omega
                  subst this;exact td _
  | n + 1,k,h=>by
    rcases rn k (n+1) with a|a
    · rw[CU]
      exact(KF s n k (by omega)).trans (um _ _)
    · have:k=n+1:=by omega
      subst this;exact td _
theorem FG{s:Int}{k n:Nat}{l:Int}(h:(AI s n)[k]?=some l):(AI s l.toNat).length=k:=by
 have f:=Af (co h)
 have b:(AI s (l.toNat+1))[(AI s l.toNat).length]?=some l:=by
  rw[CU,if_pos f.2.2,io (lc _)];simp;omega
 have e:(AI s n)[(AI s l.toNat).length]?=some l:=by
  obtain⟨t,ht⟩:=KF s n (l.toNat+1) (by omega);rw[<-ht,f9 (am.1 b).1];exact b
 have hp:=ER s n;rw[q8]at hp;obtain⟨d,i⟩:=am.1 h;obtain⟨c,g⟩:=am.1 e
 rcases uu (AI s l.toNat).length k with a|a|a
 ·have:=hp _ _ c d a;omega
 ·exact a
 ·have:=hp _ _ d c a;omega
theorem Dj{s:Int}{n l:Nat}:(l:Int)∈AI s n↔l<n/\AV s l=true:=by
 unfold AI;simp only[d9,qX,pi];constructor
 ·rintro⟨a,ha,e⟩
  have:a=l:=by have e:((a:Nat):Int)=l:=e;omega
  subst this;exact ha
 ·intro h;exact⟨l,h,rfl⟩
def QR(n:Nat)(H:Nat->Nat->Int):List (List C):=CC n λi=>Qi (H i)
theorem Kr(r:Nat->Nat)(n:Nat)(H:Nat->Nat->Int):(QR n H).map (C.Cp r)=QR n H:=by
 unfold QR CC;rw[rL]
 exact rB λi _=>by simp only[d5,gH,TV]
theorem hY(n:Nat):QR n (λ_ _=>0)=List.replicate n [C.d (D.v (Value.int IntKind.i64 0)),C.d (D.v (Value.int IntKind.i64 0)),C.d (D.v (Value.int IntKind.i64 0)),C.d (D.v (Value.int IntKind.i64 0)),C.d (D.v (Value.int IntKind.i64 0)),C.d (D.v (Value.int IntKind.i64 0))]:=by
 unfold QR CC;rw[List.map_const'];simp;exact .inr rfl
theorem aH{n q:Nat}{H:Nat->Nat->Int}(h:q<n):(QR n H)[0+((q:Nat):Int).toNat]?=some (Qi (H q)):=by
 rw[ms,d8];exact Fy (g:=λi=>Qi (H i)) h
theorem aI{n q l:Nat}{v:Int}{H:Nat->Nat->Int}(a:l<6):(QR n H).set (0+((q:Nat):Int).toNat) (Ae (Qi (H q)) (0+((l:Nat):Int).toNat*1) (eC (eI .i64 v)))=QR n λi x=>if i=q/\x=l then v else H i x:=by
 rw[ms,d8,d8,gJ a];unfold QR;rw[Nw];refine ED λi _=>?_;by_cases e:i=q
 ·subst e;rw[if_pos rfl];exact Lf λl _=>by simp
 ·rw[if_neg e];exact Lf λl _=>by simp[e]
theorem Im{n:Nat}{H H':Nat->Nat->Int}(h:∀i,i<n->∀l,l<6->H i l=H' i l):QR n H=QR n H':=ED λi hi=>Lf λl a=>h i hi l a
theorem kg(n:Nat)(H:Nat->Nat->Int):(QR n H).length=n:=by simp[QR,CC]
def Dq(a:AK):List (List D):=CC a.nx.length λq=>Yx λl=>Bg a q l
theorem oN(a:AK):QR a.nx.length (λi l=>Bg a i l)=(Dq a).map λr=>r.map .d:=by
 unfold QR Dq CC;rw[rL]
 exact rB λi _=>by simp only[d5,gH]
def Kw(a:AK):Prop:=a.nx.length<=64/\∀q,q<a.nx.length->∃row:List Int,a.nx[q]?=some row/\row.length=(Ab a.al).length/\∀(k:Nat) y,row[k]?=some y->0<=y/\y<a.nx.length
theorem iH{a:AK}(h:AD a=true):Kw a:=⟨by have:=AB h;omega,λq b=>GC h b⟩
theorem Of(a:AK)(h:Kw a):Pure Tryz.prog TB 62 [Bh a] (.o (.d (.l (Dq a)))):=by
 have T:=h.1;have Q:(Ab a.al).length<=6:=AJ a.al 6;refine eN Tryz.func62 rfl (by kernel_rfl) rfl ?_;intro U b;(repeat first|refine aU rfl ?_);(refine Al rfl ?_;refine CX (λ_ _=>Gm rfl rfl rfl) rfl ?_);(refine Al rfl ?_;refine CX (λ_ _=>CK rfl) rfl ?_);(repeat first|refine sN rfl ?_|refine tM rfl ?_|refine aU rfl ?_|apply Aa);(refine pW rfl ?_ rfl (by rfl);refine JC rfl rfl (by rfl) (by rfl) (ce rfl) (by omega) (by omega) (by omega) ?_);(repeat first|refine sN rfl ?_|refine tM rfl ?_|refine sP rfl (CJ a.al) rfl ?_|refine aU rfl ?_|apply Aa);apply aB;refine Aj.Be (α:={q:Nat // q<=a.nx.length}) (λ⟨q,z⟩=>[(1,.o (.ip (AE a))),(3,.o (.arr 0 6 0 a.nx.length)),(4,Ak (Ab a.al)),(18,EN a.nx),(19,eI .i64 a.nx.length),(20,eI .i64 q)]) (λ⟨q,z⟩=>[(0,.cells 94 6 (QR a.nx.length λi l=>if i<q then Bg a i l else 0))]) 1 (λ⟨q,z⟩=>a.nx.length-q) (⟨0,by omega⟩) [0] (Fw b rfl rfl) (by (simp[cX,zC,b,Kr,hY])) ?_;rintro⟨q,z⟩;(try dsimp only);(repeat first|refine s2 rfl λ_ u=>?_|refine aU rfl ?_|apply Aa);(refine aC rfl ?_ ?_<;>rintro⟨⟩)
 ·have j : q<a.nx.length:=by (simp only[oZ] at *;omega)
  obtain⟨row,K,N,M⟩:=h.2 q j;have P:=get_map (g:=Fb) K;apply aK;refine aS (aB ?_);(repeat first|refine tM rfl ?_|(refine s4 rfl ‹_› rfl ?_ ?_;omega)|refine aU rfl ?_|apply Aa);apply aB;refine Aj.Be (α:={m:Nat // m<=6}) (λ⟨m,B⟩=>[(1,.o (.ip (AE a))),(3,.o (.arr 0 6 0 a.nx.length)),(4,Ak (Ab a.al)),(18,EN a.nx),(19,eI .i64 a.nx.length),(20,eI .i64 q),(5,eI .i64 q),(6,Ak row),(25,eI .i64 m)]) (λ⟨m,B⟩=>[(0,.cells 94 6 (QR a.nx.length λi l=>if i<q then Bg a i l else if i=q/\l<m then q else 0))]) 1 (λ⟨m,B⟩=>6-m) (⟨0,by omega⟩) [0] (Fw b rfl rfl) (by (simp[cX,zC,b,Kr])) ?_;rintro⟨m,B⟩;(try dsimp only);(repeat first|refine s2 rfl λ_ u=>?_|refine aU rfl ?_|apply Aa);(refine aC rfl ?_ ?_<;>rintro⟨⟩)
  ·have r:m<6:=by (simp only[oZ] at *;omega)
   have p:0+((m:Nat):Int).toNat*1+1<=6:=by omega
   have I:=aH (H:=λi l=>if i<q then Bg a i l else if i=q/\l<m then q else 0) j;have w:=aI (n:=a.nx.length) (q:=q) (v:=q) (H:=λi l=>if i<q then Bg a i l else if i=q/\l<m then q else 0) r
   have t:(QR a.nx.length λ(i x:Nat)=>if i=q/\x=m then (q:Int) else (λ(i l:Nat)=>if i<q then Bg a i l else if i=q/\l<m then (q:Int) else 0) i x)=QR a.nx.length λi l=>if i<q then Bg a i l else if i=q/\l<m+1 then (q:Int) else 0:=Im λi _ l _=>by dsimp only;grind
   apply aK;refine aS (aB ?_);(repeat first|(refine sM rfl ?_ ?_;first|exact tI|omega)|refine aU rfl ?_|apply Aa);(refine Al rfl ?_;refine Gf ?_ rfl (by rfl);refine Ek rfl rfl rfl rfl (I) rfl (p) ?_);(repeat first|(refine sM rfl ?_ ?_;first|exact tI|omega)|refine aU rfl ?_|apply Aa);refine⟨⟨m+1,by omega⟩,by dsimp only;(omega),[0],?_⟩;rw[w,t];simp[cX,zC,b,Kr]
  ·obtain rfl:m=6:=by (simp only[oZ] at *;omega)
   have s:=Im (n:=a.nx.length) (H:=λi l=>if i<q then Bg a i l else if i=q/\l<6 then (q:Int) else 0) (H':=λi l=>if i<q then Bg a i l else if i=q then (if (l:Int)∈(Ab a.al).take 0 then Bg a q l else (q:Int)) else 0) λi _ l f=>by simp[f]
   rw[s];apply aE;(repeat first|refine sN rfl ?_|refine tM rfl ?_|refine aU rfl ?_|apply Aa);apply aB;refine Aj.Be (α:={k:Nat // k<=(Ab a.al).length}) (λ⟨k,hk⟩=>[(1,.o (.ip (AE a))),(3,.o (.arr 0 6 0 a.nx.length)),(4,Ak (Ab a.al)),(18,EN a.nx),(19,eI .i64 a.nx.length),(20,eI .i64 q),(5,eI .i64 q),(6,Ak row),(35,Ak (Ab a.al)),(36,eI .i64 (Ab a.al).length),(37,eI .i64 k)]) (λ⟨k,hk⟩=>[(0,.cells 94 6 (QR a.nx.length λi l=>if i<q then Bg a i l else if i=q then (if (l:Int)∈(Ab a.al).take k then Bg a q l else (q:Int)) else 0))]) 1 (λ⟨k,hk⟩=>(Ab a.al).length-k) (⟨0,by omega⟩) [0] (Fw b rfl rfl) (by (simp[cX,zC,b,Kr])) ?_;rintro⟨k,hk⟩;(try dsimp only);(repeat first|refine s2 rfl λ_ u=>?_|refine aU rfl ?_|apply Aa);(refine aC rfl ?_ ?_<;>rintro⟨⟩)
   ·obtain⟨l,f⟩:=get_some (l:=Ab a.al) (k:=k) (by (simp only[oZ] at *;omega))
    have R:=get_map (g:=Bc) f;have F:=Af (co f);have A:=FG f;obtain⟨y,J⟩:=get_some (l:=row) (k:=k) (by (simp only[oZ] at *;omega));have L:=get_map (g:=Bc) J
    obtain⟨m,rfl⟩:∃m:Nat,l=m:=⟨l.toNat,by omega⟩
    have G:Bg a q m=y:=by
     unfold Bg;rw[if_pos F.2.2,A];simp[List.getD,K,J]
    have r:m<6:=by omega
    have p:0+((m:Nat):Int).toNat*1+1<=6:=by omega
    have I:=aH (H:=λi l=>if i<q then Bg a i l else if i=q then (if (l:Int)∈(Ab a.al).take k then Bg a q l else (q:Int)) else 0) j;have w:=aI (n:=a.nx.length) (q:=q) (v:=y) (H:=λi l=>if i<q then Bg a i l else if i=q then (if (l:Int)∈(Ab a.al).take k then Bg a q l else (q:Int)) else 0) r
    have t:(QR a.nx.length λ(i x:Nat)=>if i=q/\x=m then y else (λ(i l:Nat)=>if i<q then Bg a i l else if i=q then (if (l:Int)∈(Ab a.al).take k then Bg a q l else (q:Int)) else 0) i x)=QR a.nx.length λi l=>if i<q then Bg a i l else if i=q then (if (l:Int)∈(Ab a.al).take (k+1) then Bg a q l else (q:Int)) else 0:=Im λi _ l _=>by
     try dsimp only
     rw[i7,f];by_cases e:i=q
     ·subst e
      by_cases c:l=m
      ·subst c;simp[G]
      ·have S:¬(l:Int)=(m:Int):=by omega
       simp[c,S]
     ·simp[e]
    apply aK;refine aS (aB ?_);(repeat first|refine tM rfl ?_|(refine s4 rfl ‹_› rfl ?_ ?_;omega)|refine aU rfl ?_|apply Aa);refine rG (Hz [9]) (by kernel_rfl) ?_;(repeat first|(refine sM rfl ?_ ?_;first|exact tI|omega)|(refine s4 rfl ‹_› rfl ?_ ?_;omega));(refine Al rfl ?_;refine Gf ?_ rfl (by rfl);refine Ek rfl rfl rfl rfl (I) rfl (p) ?_);(repeat first|(refine sM rfl ?_ ?_;first|exact tI|omega)|refine aU rfl ?_|apply Aa);refine⟨⟨k+1,by (simp only[oZ] at *;omega)⟩,by dsimp only;((simp only[oZ] at *;omega)),[0],?_⟩;rw[w,t];simp[cX,zC,b,Kr]
   ·obtain rfl:k=(Ab a.al).length:=by (simp only[oZ] at *;omega)
    have s:=Im (n:=a.nx.length) (H:=λi l=>if i<q then Bg a i l else if i=q then (if (l:Int)∈(Ab a.al).take (Ab a.al).length then Bg a q l else (q:Int)) else 0) (H':=λi l=>if i<q+1 then Bg a i l else 0) λi _ l f=>by
     try dsimp only
     rw[i8];by_cases e:i=q
     ·subst e
      simp only[Nat.lt_irrefl,if_false,if_true,tG];by_cases c:AV a.al l=true
      ·rw[if_pos (Dj.2 ⟨f,c⟩)]
      ·rw[if_neg (λh=>c (Dj.1 h).2)];unfold Bg;rw[if_neg (by simpa using c)]
     ·by_cases c:i<q
      ·rw[if_pos c,if_pos (by omega)]
      ·rw[if_neg c,if_neg e,if_neg (by omega)]
    rw[s];apply aE;(repeat first|(refine sM rfl ?_ ?_;first|exact tI|omega)|refine aU rfl ?_|apply Aa);refine⟨⟨q+1,by omega⟩,by dsimp only;(omega),[0],?_⟩;simp[cX,zC,b,Kr]
 ·obtain rfl:q=a.nx.length:=by (simp only[oZ] at *;omega)
  have t:=Im (n:=a.nx.length) (H:=λi l=>if i<a.nx.length then Bg a i l else 0) (H':=λi l=>Bg a i l) λi hi l _=>by rw[if_pos hi]
  rw[t];apply aE;(repeat first|refine tM rfl ?_|refine aU rfl ?_|apply Aa);refine Aj.freeze [0] [(2,.o (.d (.l (Dq a))))] ⟨⟨_,rfl,.o (.full (by simp) rfl (oN a) (by simp[kg]))⟩,trivial⟩ ?_;refine aR ⟨_,rfl,rfl⟩
theorem Ev(a:AK)(h:AD a=true):Pure Tryz.prog TB 62 [Bh a] (.o (.d (.l (Dq a)))):=Of a (iH h)
abbrev Tz(s:Sys):List D:=[.p (Gc s.es)]
abbrev jm(s:Sys):List C:=[.d (.p (Gc s.es))]
abbrev Xs(l:List Sys):E:=.a [.d (JO l),.d (.l (l.map Tz))]
abbrev Hb(l:List Sys):List D:=[JO l,.l (l.map Tz)]
theorem N0(l:List Sys)(h:∀s∈l,AU s=true)(m:l.length<=3):Pure Tryz.prog TB 160 [FX l] (Xs l):=by
 refine Spec.qL 2 201 2 [1] Tryz.func160 rfl (by kernel_rfl) rfl (ce rfl) ?_;intro U a;(repeat first|refine tM rfl ?_|refine aU rfl ?_|apply Aa);(refine pW rfl ?_ rfl (by rfl);refine Gd 1 1 84 rfl rfl rfl (by rfl) (by rfl) ?_);(repeat first|refine sN rfl ?_|refine tM rfl ?_|refine aU rfl ?_|apply Aa);apply aB;refine Aj.Be (α:={k:Nat // k<=l.length}) (λ⟨k,hk⟩=>[(2,.o (.ptr 0 2 0 0)),(3,.o (.ptr 2 2 0 0)),(8,FX l),(9,eI .i64 l.length),(10,eI .i64 k)]) (λ⟨k,hk⟩=>[(0,.cells 201 2 [[.d (.l []),.d (.l [])]]),(1,.cells 84 1 ((l.take k).map jm)),(2,.cells 201 2 [[.d (JO l),.arr 1 1 0 k]])]) 3 (λ⟨k,hk⟩=>l.length-k) (⟨0,by omega⟩) [0,1,2] (Fw a rfl rfl) (by (simp[cX,zC,a,uN,Ae,eC])) ?_;rintro⟨k,hk⟩;(try dsimp only);(repeat first|refine s2 rfl λ_ j=>?_|refine aU rfl ?_|apply Aa);(refine aC rfl ?_ ?_<;>rintro⟨⟩)
 ·obtain⟨x,c⟩:=get_some (l:=l) (k:=k) (by (simp only[oZ] at *;omega))
  have f:=get_map (g:=AF) c;have b:=h x (co c);apply aK;refine aS (aB ?_);(repeat first|refine tA rfl ?_|(refine s4 rfl ‹_› rfl ?_ ?_;omega)|refine aU rfl ?_|apply Aa);refine rG (Hz [5,7]) (by kernel_rfl) ?_;(repeat first|refine tA rfl ?_|refine sP rfl (PQ x b) rfl ?_);(refine pW rfl ?_ rfl (by rfl);refine Au rfl rfl rfl (by first|(simp;done)|(simp;(omega))) rfl (by intro r e;simp at e;subst e;rfl) (by rfl) (ce rfl) (by simp;omega) ?_);(repeat first|(refine sX rfl ?_ ?_;first|exact tI|omega)|refine aU rfl ?_|apply Aa);refine⟨⟨k+1,by (simp only[oZ] at *;omega)⟩,by dsimp only;((simp only[oZ] at *;omega)),[0,4,2],?_⟩;simp[cX,zC,a,i7,c,Ae,eC]
 ·obtain rfl:k=l.length:=by (simp only[oZ] at *;omega)
  apply aE;(repeat first|refine tM rfl ?_|refine aU rfl ?_|apply Aa);rw[i8];refine aR ⟨⟨0,2,0,201,_,[.d (JO l),.arr 1 1 0 l.length],_,rfl,rfl,rfl,.cons .A0 (.cons (.full (by simp) rfl (by simp[d5]) (by simp)) .nil),rfl⟩,?_⟩;intro id k i h
  injection h with h;injection h with h;injection h with _ h;exact h.symm
theorem ax(l:List Sys)(h:∀s∈l,AU s=true)(p:l.length<=3):Pure Tryz.prog TB 165 [Xs l] (eI .i64 (Ax (l.map (·.st)))):=by
 have a:∀z∈l.map (·.st),1<=z/\z<=16:=by
  intro z c;obtain⟨s,j,rfl⟩:=d9.1 c;have:=AN (h s j);omega
 refine eN Tryz.func165 rfl (by kernel_rfl) rfl ?_;intro U b;(repeat first|refine aU rfl ?_);(refine Al rfl ?_;refine CX (λ_ _=>Gm rfl rfl rfl) rfl ?_);(repeat first|refine sN rfl ?_|refine tM rfl ?_|refine aU rfl ?_|apply Aa);apply aB;refine Aj.Be (α:={k:Nat // k<=l.length}) (λ⟨k,hk⟩=>[(3,eI .i64 (Ax ((l.map (·.st)).take k))),(7,FX l),(8,eI .i64 l.length),(9,eI .i64 k)]) (λ⟨k,hk⟩=>[]) 0 (λ⟨k,hk⟩=>l.length-k) (⟨0,by omega⟩) [] (Fw b rfl rfl) (by (simp[cX,zC,b,Ax])) ?_;rintro⟨k,hk⟩;(try dsimp only);(repeat first|refine s2 rfl λ_ o=>?_|refine aU rfl ?_|apply Aa);(refine aC rfl ?_ ?_<;>rintro⟨⟩)
 ·obtain⟨x,d⟩:=get_some (l:=l) (k:=k) (by (simp only[oZ] at *;omega))
  have i:=get_map (g:=AF) d;have f:=a x.st (d9.2 ⟨x,co d,rfl⟩)
  have c:(l.map (·.st))[k]?=some x.st:=by simp[d]
  have e:=Ld c;have m:=Ic ((l.map (·.st)).take (k+1)) λz c=>a z (q7 c)
  have q:(16:Int) ^ ((l.map (·.st)).take (k+1)).length<=4096:=by
   have:((l.map (·.st)).take (k+1)).length<=3:=by simp;omega
   generalize ((l.map (·.st)).take (k+1)).length=n at this
   have:n=0\/n=1\/n=2\/n=3:=by omega
   rcases this with rfl|rfl|rfl|rfl<;>decide
  rw[e]at m;apply aK;refine aS (aB ?_);(repeat first|(refine sA rfl ?_ ?_;first|exact tI|omega)|(refine s4 rfl ‹_› rfl ?_ ?_;omega)|refine aU rfl ?_|apply Aa);refine⟨⟨k+1,by (simp only[oZ] at *;omega)⟩,by dsimp only;((simp only[oZ] at *;omega)),[],?_⟩;simp[cX,zC,b,e]
 ·obtain rfl:k=l.length:=by (simp only[oZ] at *;omega)
  apply aE;(repeat first|refine tM rfl ?_|refine aU rfl ?_|apply Aa);rw[kw (by simp)];refine aR ⟨_,rfl,rfl⟩
end Go.Am
namespace Go.Am
open Go
def Ep:List Int->List (List Int)->List Int
 | _::zs,c::cs=>c.flatMap λq=>(Ep zs cs).map λr=>q*Ax zs+r
 | _,_=>[0]
theorem fh:∀ {zs:List Int} {cs:List (List Int)},FM zs cs->∀out:List Int,Hh zs cs out=out.flatMap λo=>(Ep zs cs).map λr=>o*Ax zs+r:=by
 intro zs cs h
 induction h with
 | nil=>intro out;simp[Hh,Ep,Ax]
 | @cons z c zs cs _ _ _ a=>
  intro out;rw[Hh,a,List.flatMap_assoc];congr 1;funext o;rw[List.flatMap_map,Ep,List.map_flatMap];congr 1;funext q;rw[rL];congr 1;funext r;simp only[d5,Ax];rw[tg,s5];omega
theorem Sf{zs:List Int}{cs:List (List Int)}(h:FM zs cs):Hh zs cs [0]=Ep zs cs:=by
 rw[fh h];simp
theorem FM.drop{zs:List Int}{cs:List (List Int)}(h:FM zs cs):∀k,FM (zs.drop k) (cs.drop k):=by
 induction h with
 | nil=>intro k;simp;exact .nil
 | cons d c b a=>
  intro k
  cases k with
  | zero=>exact .cons d c b
  | succ k=>exact a k
theorem Ts{zs:List Int}{cs:List (List Int)}(h:FM zs cs):(∀v∈Ep zs cs,0<=v/\v<Ax zs)/\((Ep zs cs).length:Int)<=Ax zs:=by
 have:=Tv h [0] 1 (by simp) (by omega) (by simp);rw[Sf h,uy]at this;exact this
theorem bX{zs:List Int}{cs:List (List Int)}{k:Nat}{z:Int}{c:List Int}(a:zs[k]?=some z)(b:cs[k]?=some c):Ep (zs.drop k) (cs.drop k)=c.flatMap λq=>(Ep (zs.drop (k+1)) (cs.drop (k+1))).map λr=>q*Ax (zs.drop (k+1))+r:=by
 rw[Bv a,Bv b,Ep]
theorem X7{zs:List Int}{k:Nat}{z:Int}(a:zs[k]?=some z):Ax (zs.drop k)=z*Ax (zs.drop (k+1)):=by
 rw[Bv a,Ax]
theorem UF:∀ {zs:List Int} {k:Nat} {z:Int} (n:Int),zs[k]?=some z->(BF zs n)[k]?=some (n / Ax (zs.drop (k+1))%z)
 | [],k,z,n,h=>by simp at h
 | a::zs,0,z,n,h=>by simp at h;subst h;simp[BF]
 | a::zs,k+1,z,n,h=>by
  rw[BF,ur,List.drop_succ_cons];exact UF n (by simpa using h)
theorem Nt:∀(zs ws:List Int),Ax (zs++ws)=Ax zs*Ax ws
 | [],ws=>by simp[Ax]
 | z::zs,ws=>by simp[Ax,Nt zs ws,s5]
theorem Pp:∀(zs ws:List Int) (n:Int),(∀w∈ws,0<w)->BF (zs++ws) n=BF zs (n / Ax ws)++BF ws n
 | [],ws,n,_=>rfl
 | z::zs,ws,n,h=>by
  have hp:=Sl h;simp only[su,BF,Pp zs ws n h,Nt];rw[tH (Ax zs),tN (by omega)]
def bn(l:List Sys)(node letter:Int):List (List Int):=l.zipWith (λs q=>BI s q letter) (BF (l.map (·.st)) node)
theorem Tc{l:List Sys}(h:∀s∈l,AU s=true)(d:l.length<=3){letter:Int}(g:0<=letter)(f:letter<6)(node:Int):FM (l.map (·.st)) (bn l node letter):=by
 have b:DS ⟨l,[],[],0,0,0⟩:=⟨h,λa ha=>(by cases ha),d,by simp⟩
 have c:Ai ⟨l,[],[],0,0,0⟩=l.map (·.st):=by simp[Ai]
 have e:=Lz b node;have:=Iz b e g f;rw[c]at this;unfold KP at this
 simpa[bn]using this
theorem iK{l:List Sys}{k:Nat}{s:Sys}(a:l[k]?=some s)(node letter:Int):(bn l node letter)[k]?=some (BI s (node / Ax ((l.map (·.st)).drop (k+1))%s.st) letter):=by
 unfold bn;rw[uC,a,UF (z:=s.st) node (by simp[a])]
end Go.Am
namespace Go.Am
open Go Go.Proofs
set_option maxHeartbeats 1000000
set_option maxRecDepth 4000
attribute [local irreducible] A5 Ck Lex Br Aj Spec
variable {TB:BJ}
theorem DO{P:Program}{U:Ctx}{d:Option Tmp}{ty:TypeId}{pos:String}{af:Array Edge}{g:Option (Nat×Bool)}{f:Env}{σ:Ac}{nx:Nat}{t:TypeId}{x:Operand}{c:D}{cs:List D}{n:Nat}[h:Fa P t false n](e:ev f x=some (.o (.ip cs)))(b:cs[0]?=some c):A5 P TB U ⟨d,.load t x,ty,pos,af,g⟩ f σ nx (.o (.d c)):=by
 cases cs with
 | nil=>cases b
 | cons a l=>injection b with b;subst b;exact VK e
theorem fm{es:List Ea}{q l:Int}(d:0<=q/\q<16)(c:0<=l/\l<6):(((Gc es).drop (q.toNat*6)).drop (l.toNat*1))[0]?=some (iD (BH (MM es q.toNat l.toNat):Nat)):=by
 rw[rm,rm,J5 (by omega)]
 have b:(q.toNat*6+(l.toNat*1+0)) / 6=q.toNat:=by omega
 have a:(q.toNat*6+(l.toNat*1+0))%6=l.toNat:=by omega
 rw[b,a]
theorem ju[EK TB](l:List Sys)(h:∀s∈l,AU s=true)(hl:l.length<=3)(node letter:Int)(hn0:0<=node)(hn1:node<=1048576)(h0:0<=letter)(h1:letter<6)(outs:List Int)(hol:outs.length<=1099511627776) :
 Spec Tryz.prog TB 163 [(0,.cells 3 1 (outs.map Av))] 1 [Xs l,eI .i64 node,eI .i64 letter,.o (.arr 0 1 0 outs.length)]
  (λx σ nx=>x=.o (.arr 1 1 0 (outs++Ep (l.map (·.st)) (bn l node letter)).length)/\nx=2/\σ=[(1,.cells 3 1 ((outs++Ep (l.map (·.st)) (bn l node letter)).map Av))]):=by
 have hch:=Tc h hl h0 h1 node
 have hpos:∀z∈l.map (·.st),1<=z/\z<=16:=by
  intro z hz;obtain⟨s,F,rfl⟩:=d9.1 hz;have:=AN (h s F);omega
 have v:∀k,1<=Ax ((l.map (·.st)).drop k)/\Ax ((l.map (·.st)).drop k)<=4096:=by
  intro k;have h2:=Ic ((l.map (·.st)).drop k) λz hz=>hpos z (sQ hz)
  have h3:(16:Int) ^ ((l.map (·.st)).drop k).length<=4096:=by
   have:((l.map (·.st)).drop k).length<=3:=by simp;omega
   generalize ((l.map (·.st)).drop k).length=n at this
   have:n=0\/n=1\/n=2\/n=3:=by omega
   rcases this with rfl|rfl|rfl|rfl<;>decide
  omega
 have H:=λk=>Ts (hch.drop k);have hget:=λ(k:Nat) (s:Sys) (F:l[k]?=some s)=>iK F node letter;generalize bn l node letter=cs at *
 have hzs:∀(k:Nat) (s:Sys),l[k]?=some s->(l.map (·.st))[k]?=some s.st:=λk s F=>by simp[F]
 have T:(l.map (·.st)).length=l.length:=by simp
 generalize l.map (·.st)=zs at *;have hcl:=hch.len;refine eN Tryz.func163 rfl (by kernel_rfl) rfl ?_;intro U b;(repeat first|refine aU rfl ?_);(refine Al rfl ?_;refine CX (λ_ _=>Gm rfl rfl rfl) rfl ?_);(refine Al rfl ?_;refine CX (λ_ _=>CK rfl) rfl ?_);(repeat first|refine sN rfl ?_|(refine sA rfl ?_ ?_;first|exact tI|omega)|refine aU rfl ?_|apply Aa);apply aB;refine Aj.Be (α:={k:Nat // k<=l.length}) (λ⟨k,hk⟩=>[(1,eI .i64 (node / Ax (zs.drop k))),(2,eI .i64 letter),(3,.o (.arr 0 1 0 outs.length)),(4,.o (.ip (Hb l))),(9,Ak (Ep (zs.drop k) (cs.drop k))),(10,eI .i64 (Ax (zs.drop k))),(11,eI .i64 ((k:Int)-1))]) (λ⟨k,hk⟩=>[(0,.cells 3 1 (outs.map Av))]) 1 (λ⟨k,hk⟩=>k) (⟨l.length,by omega⟩) [0] (Fw b rfl rfl) (by (simp[cX,zC,b,tf,T,hcl.symm,Ax,Ep])) ?_;rintro⟨k,hk⟩;(try dsimp only);(repeat first|refine tM rfl ?_|refine s2 rfl λ_ A=>?_|refine aU rfl ?_|apply Aa);(refine aC rfl ?_ ?_<;>rintro⟨⟩)
 ·obtain⟨k,rfl⟩:∃k',k=k'+1:=⟨k-1,by (simp only[oZ] at *;omega)⟩
  obtain⟨s,F⟩:=get_some (l:=l) (k:=k) (by omega)
  have hs':(l.map AF)[(((k+1:Nat):Int)-1).toNat]?=some (AF s):=by simp[F]
  have hm':(l.map Tz)[(((k+1:Nat):Int)-1).toNat]?=some (Tz s):=by simp[F]
  have B:=h s (co F);have hsh:=AN B;have hz:=hzs k s F;have hck:=hget k s F;have c:=bX hz hck;have G:=X7 hz;have M:=v (k+1);have hpr0:=v k;have hlk:=H (k+1);have P:=(H k).2;rw[c]at P
  have hnd:node / Ax (zs.drop k)=node / Ax (zs.drop (k+1)) / s.st:=by
   rw[G,tH,tN (by omega)]
  have hn2:0<=node / Ax (zs.drop (k+1)):=sx hn0 (by omega);have hn3:node / Ax (zs.drop (k+1))<=node:=s7 _ hn0;rw[G]at hpr0;generalize Ax (zs.drop (k+1))=W at *;generalize Ep (zs.drop (k+1)) (cs.drop (k+1))=low at *;generalize node / W=nd at *
  have I:0<=nd%s.st/\nd%s.st<s.st:=⟨rN _ (by omega),rA _ (by omega)⟩
  apply aK;refine aS (aB ?_);(repeat first|(refine sA rfl ?_ ?_;first|exact tI|omega)|(refine s4 rfl ‹_› rfl ?_ ?_;omega)|refine aU rfl ?_|apply Aa)
  have Y:∃to,to=BI s (nd%s.st) letter/\(AV s.al letter.toNat=false->to=[nd%s.st])/\(AV s.al letter.toNat=true->to=MM s.es (nd%s.st).toNat letter.toNat):=by
   refine⟨_,rfl,λhb=>?_,λhb=>?_⟩
   ·unfold BI;rw[if_neg (by simp[hb])]
   ·rw[dc hb];congr 1<;>omega
  have u:∀x∈BI s (nd%s.st) letter,0<=x/\x<s.st:=λx e=>JQ B I.1 I.2 e;have J:=NC B (l:=letter) I.1 I.2;obtain⟨to,Y,hto0,hto1⟩:=Y;rw[<-Y]at u J c P
  have hmem:AV s.al letter.toNat=true->Pure Tryz.prog TB 94 [eI .i64 (BH (MM s.es (nd%s.st).toNat letter.toNat):Nat)] (Ak (MM s.es (nd%s.st).toNat letter.toNat)):=λhb=>by
   have h2:=FB B s.es.length (nd%s.st).toNat letter.toNat;have h3:=λx e=>NF B (k:=s.es.length) (f:=(nd%s.st).toNat) (l:=letter.toNat) (x:=x) e;rw[i8]at h2 h3
   exact XU _ h2 λx e=>by have:=h3 x e;omega
  have hld:=fm (es:=s.es) (q:=nd%s.st) (l:=letter) ⟨I.1,by omega⟩ ⟨h0,h1⟩
  have R:hasB s.al letter=AV s.al letter.toNat:=by simp[hasB,h0]
  (repeat first|(refine sC rfl (PB _ _) ?_;intro _ A)|apply Aa)
  have N:node / (s.st*W)=nd / s.st:=by rw[<-G];exact hnd
  have S:W*s.st=s.st*W:=tH _ _
  have Q:∀m,(((to.take m).flatMap λq=>low.map λr=>q*W+r).length:Int)<=1048576:=by
   intro m;have h2:=LC (to.take m) (λq=>low.map λr=>q*W+r) 4096 (λx _=>by simp;omega)
   have h3:(to.take m).length<=to.length:=by simp;omega
   omega
  (refine aC rfl ?_ ?_<;>rintro⟨⟩)
  ·have hb:AV s.al letter.toNat=true:=by rw[<-R];exact A
   have K:=hmem hb;have p:=hto1 hb;(repeat first|(refine sM rfl ?_ ?_;first|exact tI|omega)|(refine s4 rfl ‹_› rfl ?_ ?_;omega)|refine sP rfl (K) rfl ?_|(refine Al rfl ?_;refine gA rfl ?_;first|refine gS (λ_ _=>DO rfl hld) ?_)|refine aU rfl ?_|apply Aa|refine rE (by kernel_rfl) ?_);(refine pW rfl ?_ rfl (by rfl);refine G0 1 3 ?_);(repeat first|refine sN rfl ?_|refine tM rfl ?_|refine aU rfl ?_|apply Aa);apply aB;refine Aj.Be (α:={m:Nat // m<=to.length}) (λ⟨m,K⟩=>[(1,eI .i64 nd),(2,eI .i64 letter),(3,.o (.arr 0 1 0 outs.length)),(4,.o (.ip (Hb l))),(9,Ak low),(10,eI .i64 W),(11,eI .i64 (((k+1:Nat):Int)-1)),(12,.o (.ptr 1 3 0 0)),(14,.o (.arr 2 1 0 ((to.take m).flatMap λq=>low.map λr=>q*W+r).length)),(57,Ak to),(58,eI .i64 to.length),(59,eI .i64 m)]) (λ⟨m,K⟩=>[(0,.cells 3 1 (outs.map Av)),(1,.cells 25 3 [[.d (iD s.al),.d (iD s.st),.d (Em s.es)]]),(2,.cells 3 1 (((to.take m).flatMap λq=>low.map λr=>q*W+r).map Av))]) 3 (λ⟨m,K⟩=>to.length-m) (⟨0,by omega⟩) [0,1,2] (Fw b rfl rfl) (by (simp[cX,zC,b,Ae,eC,p])) ?_;rintro⟨m,K⟩;(try dsimp only);clear p
   have w:∀x,to[m]?=some x->(to.take (m+1)).flatMap (λq=>low.map λr=>q*W+r)=(to.take m).flatMap (λq=>low.map λr=>q*W+r)++low.map λr=>x*W+r:=λx e=>by
    rw[i7,e];simp
   have hlm:=Q m;generalize t:(to.take m).flatMap (λq=>low.map λr=>q*W+r)=pre at *;(repeat first|refine s2 rfl λ_ A=>?_|refine aU rfl ?_|apply Aa);(refine aC rfl ?_ ?_<;>rintro⟨⟩)
   ·obtain⟨x,e⟩:=get_some (l:=to) (k:=m) (by (simp only[oZ] at *;omega))
    have hx':=get_map (g:=Bc) e;have X:=u x (co e);have w:=w x e;apply aK;refine aS (aB ?_);(repeat first|refine sN rfl ?_|refine tM rfl ?_|(refine s4 rfl ‹_› rfl ?_ ?_;omega)|refine aU rfl ?_|apply Aa);apply aB;refine Aj.Be (α:={j:Nat // j<=low.length}) (λ⟨j,Z⟩=>[(1,eI .i64 nd),(2,eI .i64 letter),(3,.o (.arr 0 1 0 outs.length)),(4,.o (.ip (Hb l))),(9,Ak low),(10,eI .i64 W),(11,eI .i64 (((k+1:Nat):Int)-1)),(12,.o (.ptr 1 3 0 0)),(14,.o (.arr 2 1 0 (pre.length+j))),(57,Ak to),(58,eI .i64 to.length),(59,eI .i64 m),(16,eI .i64 x),(63,Ak low),(64,eI .i64 low.length),(65,eI .i64 j)]) (λ⟨j,Z⟩=>[(0,.cells 3 1 (outs.map Av)),(1,.cells 25 3 [[.d (iD s.al),.d (iD s.st),.d (Em s.es)]]),(2,.cells 3 1 ((pre++(low.take j).map λr=>x*W+r).map Av))]) 3 (λ⟨j,Z⟩=>low.length-j) (⟨0,by omega⟩) [0,1,2] (Fw b rfl rfl) (by (simp[cX,zC,b])) ?_;rintro⟨j,Z⟩;(try dsimp only);(repeat first|refine s2 rfl λ_ A=>?_|refine aU rfl ?_|apply Aa);(refine aC rfl ?_ ?_<;>rintro⟨⟩)
    ·obtain⟨y,V⟩:=get_some (l:=low) (k:=j) (by (simp only[oZ] at *;omega))
     have hy':=get_map (g:=Bc) V;have hyb:=hlk.1 y (co V)
     have h16:0<=x*W/\x*W<=65536:=⟨rH X.1 (by omega),by
      have h5:x*W<=16*4096:=rf (by omega) M.2 (by omega) (by omega)
      omega⟩
     apply aK;refine aS (aB ?_);(repeat first|(refine sA rfl ?_ ?_;first|exact tI|omega)|(refine s4 rfl ‹_› rfl ?_ ?_;omega)|refine aU rfl ?_|apply Aa);(refine pW rfl ?_ rfl (by rfl);refine Au rfl rfl rfl (by first|(simp;done)|(simp;(omega))) rfl (by intro r L;simp at L;subst L;rfl) (by rfl) (ce rfl) (by simp;omega) ?_);(repeat first|(refine sX rfl ?_ ?_;first|exact tI|omega)|refine aU rfl ?_|apply Aa);refine⟨⟨j+1,by (simp only[oZ] at *;omega)⟩,by dsimp only;((simp only[oZ] at *;omega)),[0,1,3],?_⟩;simp[cX,zC,b,i7,V,rz]
    ·obtain rfl:j=low.length:=by (simp only[oZ] at *;omega)
     rw[i8];apply aE;(repeat first|(refine sM rfl ?_ ?_;first|exact tI|omega)|refine aU rfl ?_|apply Aa);refine⟨⟨m+1,by (simp only[oZ] at *;omega)⟩,by dsimp only;((simp only[oZ] at *;omega)),[0,1,2],?_⟩;simp[cX,zC,b,w]
   ·obtain rfl:m=to.length:=by (simp only[oZ] at *;omega)
    rw[i8]at t;rw[t]at c;subst c;apply aE;refine Aj.freeze [2] [(1,eI .i64 nd),(2,eI .i64 letter),(3,.o (.arr 0 1 0 outs.length)),(4,.o (.ip (Hb l))),(10,eI .i64 W),(11,eI .i64 (((k+1:Nat):Int)-1)),(12,.o (.ptr 1 3 0 0)),(14,Ak (Ep (zs.drop k) (cs.drop k)))] ⟨⟨_,rfl,.A0⟩,⟨_,rfl,.A0⟩,⟨_,rfl,.A0⟩,⟨_,rfl,.A0⟩,⟨_,rfl,.A0⟩,⟨_,rfl,.A0⟩,⟨_,rfl,.A0⟩,⟨_,rfl,.o (.full (by simp) rfl (by simp[d5]) (by simp))⟩,trivial⟩ ?_;(repeat first|(refine sM rfl ?_ ?_;first|exact tI|omega)|refine aU rfl ?_|apply Aa);refine⟨⟨k,by omega⟩,by dsimp only;(omega),[0],?_⟩;simp[cX,zC,b,N,G,S,CS]
  ·have hb:AV s.al letter.toNat=false:=by rw[<-R];exact A
   have p:=hto0 hb;apply aK;(repeat first|refine aU rfl ?_);(refine pW rfl ?_ rfl (by rfl);refine G0 1 3 ?_);(repeat first|refine tM rfl ?_|refine aU rfl ?_|apply Aa);apply aB;refine Aj.Be (α:={m:Nat // m<=to.length}) (λ⟨m,K⟩=>[(1,eI .i64 nd),(2,eI .i64 letter),(3,.o (.arr 0 1 0 outs.length)),(4,.o (.ip (Hb l))),(9,Ak low),(10,eI .i64 W),(11,eI .i64 (((k+1:Nat):Int)-1)),(12,.o (.ptr 1 3 0 0)),(14,.o (.arr 2 1 0 ((to.take m).flatMap λq=>low.map λr=>q*W+r).length)),(57,Ak to),(58,eI .i64 to.length),(59,eI .i64 m)]) (λ⟨m,K⟩=>[(0,.cells 3 1 (outs.map Av)),(1,.cells 25 3 [[.d (iD s.al),.d (iD s.st),.d (Em s.es)]]),(2,.cells 3 1 (((to.take m).flatMap λq=>low.map λr=>q*W+r).map Av))]) 3 (λ⟨m,K⟩=>to.length-m) (⟨0,by omega⟩) [0,1,2] (Fw b rfl rfl) (by (simp[cX,zC,b,Ae,eC,p])) ?_;rintro⟨m,K⟩;(try dsimp only);clear p
   have w:∀x,to[m]?=some x->(to.take (m+1)).flatMap (λq=>low.map λr=>q*W+r)=(to.take m).flatMap (λq=>low.map λr=>q*W+r)++low.map λr=>x*W+r:=λx e=>by
    rw[i7,e];simp
   have hlm:=Q m;generalize t:(to.take m).flatMap (λq=>low.map λr=>q*W+r)=pre at *;(repeat first|refine s2 rfl λ_ A=>?_|refine aU rfl ?_|apply Aa);(refine aC rfl ?_ ?_<;>rintro⟨⟩)
   ·obtain⟨x,e⟩:=get_some (l:=to) (k:=m) (by (simp only[oZ] at *;omega))
    have hx':=get_map (g:=Bc) e;have X:=u x (co e);have w:=w x e;apply aK;refine aS (aB ?_);(repeat first|refine sN rfl ?_|refine tM rfl ?_|(refine s4 rfl ‹_› rfl ?_ ?_;omega)|refine aU rfl ?_|apply Aa);apply aB;refine Aj.Be (α:={j:Nat // j<=low.length}) (λ⟨j,Z⟩=>[(1,eI .i64 nd),(2,eI .i64 letter),(3,.o (.arr 0 1 0 outs.length)),(4,.o (.ip (Hb l))),(9,Ak low),(10,eI .i64 W),(11,eI .i64 (((k+1:Nat):Int)-1)),(12,.o (.ptr 1 3 0 0)),(14,.o (.arr 2 1 0 (pre.length+j))),(57,Ak to),(58,eI .i64 to.length),(59,eI .i64 m),(16,eI .i64 x),(63,Ak low),(64,eI .i64 low.length),(65,eI .i64 j)]) (λ⟨j,Z⟩=>[(0,.cells 3 1 (outs.map Av)),(1,.cells 25 3 [[.d (iD s.al),.d (iD s.st),.d (Em s.es)]]),(2,.cells 3 1 ((pre++(low.take j).map λr=>x*W+r).map Av))]) 3 (λ⟨j,Z⟩=>low.length-j) (⟨0,by omega⟩) [0,1,2] (Fw b rfl rfl) (by (simp[cX,zC,b])) ?_;rintro⟨j,Z⟩;(try dsimp only);(repeat first|refine s2 rfl λ_ A=>?_|refine aU rfl ?_|apply Aa);(refine aC rfl ?_ ?_<;>rintro⟨⟩)
    ·obtain⟨y,V⟩:=get_some (l:=low) (k:=j) (by (simp only[oZ] at *;omega))
     have hy':=get_map (g:=Bc) V;have hyb:=hlk.1 y (co V)
     have h16:0<=x*W/\x*W<=65536:=⟨rH X.1 (by omega),by
      have h5:x*W<=16*4096:=rf (by omega) M.2 (by omega) (by omega)
      omega⟩
     apply aK;refine aS (aB ?_);(repeat first|(refine sA rfl ?_ ?_;first|exact tI|omega)|(refine s4 rfl ‹_› rfl ?_ ?_;omega)|refine aU rfl ?_|apply Aa);(refine pW rfl ?_ rfl (by rfl);refine Au rfl rfl rfl (by first|(simp;done)|(simp;(omega))) rfl (by intro r L;simp at L;subst L;rfl) (by rfl) (ce rfl) (by simp;omega) ?_);(repeat first|(refine sX rfl ?_ ?_;first|exact tI|omega)|refine aU rfl ?_|apply Aa);refine⟨⟨j+1,by (simp only[oZ] at *;omega)⟩,by dsimp only;((simp only[oZ] at *;omega)),[0,1,3],?_⟩;simp[cX,zC,b,i7,V,rz]
    ·obtain rfl:j=low.length:=by (simp only[oZ] at *;omega)
     rw[i8];apply aE;(repeat first|(refine sM rfl ?_ ?_;first|exact tI|omega)|refine aU rfl ?_|apply Aa);refine⟨⟨m+1,by (simp only[oZ] at *;omega)⟩,by dsimp only;((simp only[oZ] at *;omega)),[0,1,2],?_⟩;simp[cX,zC,b,w]
   ·obtain rfl:m=to.length:=by (simp only[oZ] at *;omega)
    rw[i8]at t;rw[t]at c;subst c;apply aE;refine Aj.freeze [2] [(1,eI .i64 nd),(2,eI .i64 letter),(3,.o (.arr 0 1 0 outs.length)),(4,.o (.ip (Hb l))),(10,eI .i64 W),(11,eI .i64 (((k+1:Nat):Int)-1)),(12,.o (.ptr 1 3 0 0)),(14,Ak (Ep (zs.drop k) (cs.drop k)))] ⟨⟨_,rfl,.A0⟩,⟨_,rfl,.A0⟩,⟨_,rfl,.A0⟩,⟨_,rfl,.A0⟩,⟨_,rfl,.A0⟩,⟨_,rfl,.A0⟩,⟨_,rfl,.A0⟩,⟨_,rfl,.o (.full (by simp) rfl (by simp[d5]) (by simp))⟩,trivial⟩ ?_;(repeat first|(refine sM rfl ?_ ?_;first|exact tI|omega)|refine aU rfl ?_|apply Aa);refine⟨⟨k,by omega⟩,by dsimp only;(omega),[0],?_⟩;simp[cX,zC,b,N,G,S,CS]
 ·obtain rfl:k=0:=by (simp only[oZ] at *;omega)
  rw[sv,sv];have hl0:=(H 0).2;have hp0:=v 0;rw[sv,sv]at hl0;rw[sv]at hp0;apply aE;(repeat first|refine tM rfl ?_|refine aU rfl ?_);(refine pW rfl ?_ rfl (by rfl);refine Au rfl rfl rfl (by first|(simp;done)|(simp;(omega))) rfl (by intro r L;simp at L;obtain⟨a,_,rfl⟩:=L;rfl) (by rfl) (ce rfl) (by simp;omega) ?_);(repeat first|refine tX rfl ?_|apply Aa);refine Aj.names [0,1] [(8,.o (.arr 1 1 0 (outs++Ep zs cs).length))] [(1,.cells 3 1 ((outs++Ep zs cs).map Av))] (by intro i hi;rw[b]at hi;obtain rfl:i=0:=(by omega);rfl) (by simp) (by simp[cX,zC,b]) (by simp[cX,zC,b]) ?_;refine aR ⟨_,rfl,rfl,rfl,rfl⟩
end Go.Am
namespace Go.Am
open Go
structure OE where
 p:Int
 l:Int
 ns:List Int
structure kS where
 seen:List Bool
 fresh:List Int
 found:Bool
def sn(seen:List Bool)(n:Int):Bool:=seen.getD n.toNat false
def WQ(goal:Int->Bool)(st:kS)(n:Int):kS:=if sn st.seen n then st else ⟨st.seen.set n.toNat true,st.fresh++[n],st.found || goal n⟩
def Uf(goal:Int->Bool)(seen:List Bool)(nodes:List Int):kS:=nodes.foldl (WQ goal) ⟨seen,[],false⟩
theorem mC{seen:List Bool}{n m:Int}(a:0<=n/\n.toNat<seen.length)(b:0<=m):sn (seen.set n.toNat true) m=(sn seen m || decide (m=n)):=by
 unfold sn;by_cases h:m=n
 ·subst h;simp[List.getD,a.2]
 ·have:n.toNat≠m.toNat:=by omega
  simp[List.getD,rT this,h]
theorem count_set{seen:List Bool}{k:Nat}(h:seen[k]?=some false):(seen.set k true).count true=seen.count true+1:=by
 induction seen generalizing k with
 | nil=>simp at h
 | cons a l b=>
  cases k with
  | zero=>simp at h;subst h;simp
  | succ k=>
   have:=b (k:=k) (by simpa using h);simp only[List.set_cons_succ,List.count_cons,this];omega
structure mQ (goal:Int->Bool) (N:Nat) (seen:List Bool) (nodes:List Int) (st:kS):Prop where
 len:st.seen.length=N
 snI:∀n:Int,0<=n->(sn st.seen n=true↔sn seen n=true\/n∈nodes)
 fr:∀n:Int,n∈st.fresh↔n∈nodes/\sn seen n=false
 nd:st.fresh.Nodup
 fd:st.found=st.fresh.any goal
 cnt:st.seen.count true=seen.count true+st.fresh.length
theorem YT{goal:Int->Bool}{N:Nat}{seen:List Bool}{nodes:List Int}(r:seen.length=N)(j:∀n∈nodes,0<=n/\n<N):mQ goal N seen nodes (Uf goal seen nodes):=by
 have key : ∀ (l done:List Int) (st:kS),(∀n∈l,0<=n/\n<N)->(∀n∈done,0<=n)->mQ goal N seen done st->mQ goal N seen (done++l) (l.foldl (WQ goal) st):=by
  intro l
  induction l with
  | nil=>intro done st _ _ h;simpa using h
  | cons a l p=>
   intro done st o s h;have ha:=o a (by simp);rw[si,show done++a::l=(done++[a])++l by simp];refine p (done++[a]) _ (λn j=>o n (by simp[j])) (λn j=>by rcases gc.1 j with f|f;exact s n f;simp at f;omega) ?_;have m:=h.len
   have g:∀n:Int,n∈done++[a]↔n∈done\/n=a:=λn=>by simp
   unfold WQ;by_cases b:sn st.seen a=true
   ·rw [if_pos b]
    have f:=(h.snI a ha.1).1 b;refine⟨h.len,λn i=>?_,λn=>?_,h.nd,h.fd,h.cnt⟩
    ·rw[h.snI n i,g]
     constructor
     ·rintro(c|c);exact .inl c;exact .inr (.inl c)
     ·rintro(c|c|rfl);exact .inl c;exact .inr c;exact f
    ·rw [h.fr n,g]
     constructor
     ·rintro⟨c,d⟩;exact⟨.inl c,d⟩
     ·rintro⟨c|rfl,d⟩
      ·exact⟨c,d⟩
      ·rcases f with f|f
       ·rw[f]at d;cases d
       ·exact⟨f,d⟩
   ·rw [if_neg b]
    have f:sn seen a=false/\a∉done:=by
     have c:¬(sn seen a=true\/a∈done):=λd=>b ((h.snI a ha.1).2 d);exact⟨by simpa using λd=>c (.inl d),λd=>c (.inr d)⟩
    have hk:st.seen[a.toNat]?=some false:=by
     unfold sn at b
     have:a.toNat<st.seen.length:=by omega
     simp[List.getD,this]at b;rw[d6 this,b]
    refine⟨by simpa using h.len,λn i=>?_,λn=>?_,?_,?_,?_⟩
    ·rw[mC ⟨ha.1,by omega⟩ i,g,qW,h.snI n i];simp;grind
    ·simp only[gc,uk,h.fr n]
     grind
    ·refine r8.2 ⟨h.nd,by simp,λx q y k=>?_⟩
     simp at k;subst k;intro e;subst e;exact f.2 ((h.fr x).1 q).1
    ·simp[vi,h.fd]
    ·rw[count_set hk,h.cnt];simp;omega
 have:=key nodes [] ⟨seen,[],false⟩ j (by simp) ⟨r,λn _=>by simp,λn=>by simp,.nil,rfl,by simp⟩
 simpa[Uf]using this
theorem Sd:∀ {a b c:List Int},WV a b->WV b c->WV a c
 | [],_,_,h,_=>h.elim
 | _::_,[],_,h,_=>h.elim
 | _::_,_::_,[],_,h=>h.elim
 | x::a,y::b,z::c,h,k=>by
  simp only[WV] at *
  rcases h with h|⟨h,d⟩<;>rcases k with k|⟨k,k'⟩
  ·exact .inl (by omega)
  ·exact .inl (by omega)
  ·exact .inl (by omega)
  ·exact .inr ⟨by omega,Sd d k'⟩
theorem Tq:∀ {a:List Int},¬WV a a
 | [],h=>h
 | x::a,h=>by rcases h with h|⟨_,h⟩;omega;exact Tq h
theorem GH{a b c:List Int}(h:slt a b)(k:slt b c):slt a c:=by
 unfold slt at *
 rcases h with h|⟨h,d⟩<;>rcases k with k|⟨k,k'⟩
 ·exact .inl (by omega)
 ·exact .inl (by omega)
 ·exact .inl (by omega)
 ·exact .inr ⟨by omega,Sd d k'⟩
theorem Ms{a:List Int}:¬slt a a:=by
 rintro(h|⟨_,h⟩);omega;exact Tq h
theorem Ww(a b:List Int):slt a b\/a=b\/slt b a:=by
 rcases uu a.length b.length with h|h|h
 ·exact .inl (.inl h)
 ·rcases Tr h with c|c|c
  ·exact .inl (.inr ⟨h,c⟩)
  ·exact .inr (.inl c)
  ·exact .inr (.inr (.inr ⟨h.symm,c⟩))
 ·exact .inr (.inr (.inl h))
theorem ay{a b:List Int}{l m:Int}(h:slt a b):slt (a++[l]) (b++[m]):=by
 rcases h with h|⟨h,c⟩
 ·exact .inl (by simp;omega)
 ·exact .inr ⟨by simp;omega,(Jy h).2 (.inl c)⟩
theorem gU{a:List Int}{l m:Int}(h:l<m):slt (a++[l]) (a++[m]):=.inr ⟨by simp,(Jy rfl).2 (.inr ⟨rfl,h⟩)⟩
theorem gX{a b:List Int}{l m:Int}:slt (a++[l]) (b++[m])->slt a b\/a=b/\l<m:=by
 intro h
 rcases Ww a b with c|c|c
 ·exact .inl c
 ·subst c
  rcases h with h|⟨h,e⟩
  ·simp at h
  ·rcases(Jy rfl).1 e with d|d
   ·exact absurd d Tq
   ·exact .inr d
 ·exact absurd (GH h (ay c)) Ms
theorem gV{a:List Int}{l:Int}:slt a (a++[l]):=.inl (by simp)
structure FI (g:Gr) (seen:List Bool) (steps:List OE) (ws:List (List Int)) (i j:Nat):Prop where
 slen:seen.length=g.N
 wlen:ws.length=steps.length
 chain:∀(t:Nat) s,steps[t]?=some s->(s.p = -1/\ws[t]?=some [])\/∃(q:Nat) (w:List Int),s.p=(q:Int)/\q<t/\ws[q]?=some w/\ws[t]?=some (w++[s.l])/\s.l∈g.ls
 rch:∀(t:Nat) s w,steps[t]?=some s->ws[t]?=some w->∀n∈s.ns,reach g w g.s0 n
 ov:∀w∈ws,over g w
 min:∀(t:Nat) s w,steps[t]?=some s->ws[t]?=some w->∀n∈s.ns,∀u,over g u->slt u w->¬reach g u g.s0 n
 ord:ws.Pairwise slt
 par:∀w∈ws,w=[]\/∃(p:Nat) (v:List Int) (l:Int),ws[p]?=some v/\w=v++[l]/\l∈g.ls/\(p<i\/p=i/\∃j',j'<j/\g.ls[j']?=some l)
 snI:∀n:Int,0<=n->(sn seen n=true↔∃s∈steps,n∈s.ns)
 done:∀(t:Nat) s,steps[t]?=some s->∀l,(t<i/\l∈g.ls\/t=i/\∃j',j'<j/\g.ls[j']?=some l)->∀n∈s.ns,∀y∈g.succ n l,sn seen y=true
 nogoal:∀s∈steps,∀n∈s.ns,g.goal n=false
 inn:∀s∈steps,∀n∈s.ns,0<=n/\n<g.N
 start:sn seen g.s0=true
 cnt:steps.length<=seen.count true
 le:i<=steps.length
 nd:∀s∈steps,s.ns.Nodup
theorem FI.nM{g:Gr}{seen:List Bool}{steps:List OE}{ws:List (List Int)}{i j:Nat}(h:FI g seen steps ws i j):steps.length<=g.N:=by
 have b:=h.cnt;have a:seen.count true<=seen.length:=List.count_le_length;rw[h.slen]at a;omega
theorem FI.kv{g:Gr}(I:Jh g){seen:List Bool}{steps:List OE}{ws:List (List Int)}{i j:Nat}(h:FI g seen steps ws i j){wi:List Int}{lj:Int}(J:ws[i]?=some wi)(Q:g.ls[j]?=some lj) :
 ∀(n:Nat) (u:List Int),u.length=n->over g u->slt u (wi++[lj])->∀x,reach g u g.s0 x->sn seen x=true:=by
 intro n
 induction n with
 | zero=>
  intro u B _ _ x p;have:u=[]:=pp.1 B;subst this;have p:g.s0=x:=p;rw[<-p];exact h.start
 | succ n L=>
  intro u B P w x p
  have q:u≠[]:=λe=>by subst e;simp at B
  obtain⟨v,l,rfl⟩:∃v l,u=v++[l]:=⟨u.dropLast,u.getLast q,(tZ q).symm⟩
  obtain⟨m,H,F⟩:=Es.1 p;obtain⟨k,K⟩:=GF.1 P;have G:=L v (by simpa using B) k (GH gV w) m H;have r:=DE I k I.s0 H;obtain⟨s,N,c⟩:=(h.snI m r.1).1 G;obtain⟨t,ht⟩:=tw N;obtain⟨wt,a⟩:∃wt,ws[t]?=some wt:=get_some (by have:=(am.1 ht).1;rw[h.wlen];exact this);have y:¬slt v wt:=λd=>h.min t s wt ht a m c v k d H;have f:=gX w
  have M:t<=i:=by
   rcases rn i t with d|d
   ·exfalso
    obtain⟨X,V⟩:=am.1 J;obtain⟨T,S⟩:=am.1 a;have A:=(q8.1 h.ord) i t X T d;rw[V,S]at A
    rcases Ww v wt with o|o|o
    ·exact y o
    ·subst o
     rcases f with b|⟨b,_⟩
     ·exact Ms (GH A b)
     ·subst b;exact Ms A
    ·rcases f with b|⟨b,_⟩
     ·exact Ms (GH (GH A o) b)
     ·subst b;exact Ms (GH A o)
   ·exact d
  refine h.done t s ht l ?_ m c x F
  rcases rn t i with d|d
  ·exact .inl ⟨d,K⟩
  ·have:t=i:=by omega
   subst this;rw[J]at a
   injection a with a
   subst a
   rcases f with b|⟨b,R⟩
   ·exact absurd b y
   ·obtain⟨j',z⟩:=tw K
    exact .inr ⟨rfl,j',eF I.srt z Q R,z⟩
theorem Cs.found{g:Gr}(l:Jh g){seen:List Bool}{steps:List OE}{ws:List (List Int)}{i j:Nat}(h:FI g seen steps ws i j){wi:List Int}{lj:Int}(d:ws[i]?=some wi)(p:g.ls[j]?=some lj){n x:Int}{s:OE}(r:steps[i]?=some s)(t:n∈s.ns)(q:x∈g.succ n lj)(k:g.goal x=true):Cs g (some (wi++[lj])):=by
 have v:=co p;refine⟨GF.2 ⟨h.ov wi (co d),v⟩,⟨x,Es.2 ⟨n,h.rch i s wi r d n t,q⟩,k⟩,λu o w f=>?_⟩;obtain⟨y,m,a⟩:=w;have b:=h.kv l d p u.length u rfl o f y m;obtain⟨s',e,c⟩:=(h.snI y (DE l o l.s0 m).1).1 b;rw[h.nogoal s' e y c]at a;cases a
theorem Cs.qD{g:Gr}(k:Jh g){seen:List Bool}{steps:List OE}{ws:List (List Int)}(h:FI g seen steps ws steps.length 0):Cs g none:=by
 have key:∀(n:Nat) (u:List Int),u.length=n->over g u->∀x,reach g u g.s0 x->sn seen x=true:=by
  intro n
  induction n with
  | zero=>
   intro u b _ x a;have:u=[]:=pp.1 b;subst this;have a:g.s0=x:=a;rw[<-a];exact h.start
  | succ n y=>
   intro u b z x a
   have d:u≠[]:=λe=>by subst e;simp at b
   obtain⟨v,l,rfl⟩:∃v l,u=v++[l]:=⟨u.dropLast,u.getLast d,(tZ d).symm⟩
   obtain⟨m,w,p⟩:=Es.1 a;obtain⟨f,A⟩:=GF.1 z;have r:=y v (by simpa using b) f m w;obtain⟨s,q,i⟩:=(h.snI m (DE k f k.s0 w).1).1 r;obtain⟨t,ht⟩:=tw q;exact h.done t s ht l (.inl ⟨(am.1 ht).1,A⟩) m i x p
 rintro u b ⟨x,a,j⟩;have o:=key u.length u rfl b x a;obtain⟨s,q,c⟩:=(h.snI x (DE k b k.s0 a).1).1 o;rw[h.nogoal s q x c]at j;cases j
theorem FI.nS{g:Gr}{seen:List Bool}{steps:List OE}{ws:List (List Int)}{i:Nat}(h:FI g seen steps ws i g.ls.length)(hi:i<steps.length):FI g seen steps ws (i+1) 0:=by
 refine⟨h.slen,h.wlen,h.chain,h.rch,h.ov,h.min,h.ord,λw f=>?_,h.snI,λt s j l k=>?_,h.nogoal,h.inn,h.start,h.cnt,by omega,h.nd⟩
 ·rcases h.par w f with b|⟨p,v,l,b,d,c,e⟩
  ·exact .inl b
  ·exact .inr ⟨p,v,l,b,d,c,.inl (by rcases e with e|⟨e,_⟩<;>omega)⟩
 ·refine h.done t s j l ?_
  rcases k with ⟨b,d⟩|⟨_,j',b,_⟩
  ·rcases rn t i with c|c
   ·exact .inl ⟨c,d⟩
   ·obtain⟨j',a⟩:=tw d
    exact .inr ⟨by omega,j',(am.1 a).1,a⟩
  ·omega
def EX(steps:List OE)(p l:Int)(fresh:List Int):List OE:=if fresh=[] then steps else steps++[⟨p,l,fresh⟩]
def pX(ws:List (List Int))(w fresh:List Int):List (List Int):=if fresh=[] then ws else ws++[w]
structure Chain (ls:List Int) (steps:List OE) (ws:List (List Int)):Prop where
 wlen:ws.length=steps.length
 chain:∀(t:Nat) s,steps[t]?=some s->(s.p = -1/\ws[t]?=some [])\/∃(q:Nat) (w:List Int),s.p=(q:Int)/\q<t/\ws[q]?=some w/\ws[t]?=some (w++[s.l])/\s.l∈ls
theorem Hj{α:Type}{l:List α}{x y:α}{t:Nat}(h:(l++[x])[t]?=some y):l[t]?=some y\/t=l.length/\y=x:=by
 rcases rn t l.length with a|a
 ·rw[f9 a]at h;exact .inl h
 ·rw[io a]at h
  have b:=(am.1 h).1;simp at b
  have:t=l.length:=by omega
  subst this;simp at h;exact .inr ⟨rfl,h.symm⟩
theorem JW{α:Type}{l:List α}{x y:α}{t:Nat}(h:l[t]?=some y):(l++[x])[t]?=some y:=by
 rw[f9 (am.1 h).1];exact h
theorem Chain.app{ls:List Int}{steps:List OE}{ws:List (List Int)}(h:Chain ls steps ws){i:Nat}{wi:List Int}{l:Int}{ns:List Int}(d:ws[i]?=some wi)(f:l∈ls):Chain ls (steps++[⟨i,l,ns⟩]) (ws++[wi++[l]]):=by
 have hi:=(am.1 d).1;refine⟨by simp[h.wlen],λt s e=>?_⟩
 rcases Hj e with b|⟨b,a⟩
 ·rcases h.chain t s b with ⟨a,c⟩|⟨q,w,a,c,k,j,g⟩
  ·exact .inl ⟨a,JW c⟩
  ·exact .inr ⟨q,w,a,c,JW k,JW j,g⟩
 ·subst a
  refine .inr ⟨i,wi,rfl,?_,JW d,?_,f⟩
  ·rw[b,<-h.wlen];exact hi
  ·rw[b,<-h.wlen];simp
theorem FI.aJ{g:Gr}{seen:List Bool}{steps:List OE}{ws:List (List Int)}{i j:Nat}(h:FI g seen steps ws i j):Chain g.ls steps ws:=⟨h.wlen,h.chain⟩
theorem FI.visit{g:Gr}(Q:Jh g){seen:List Bool}{steps:List OE}{ws:List (List Int)}{i j:Nat}(h:FI g seen steps ws i j){wi:List Int}{lj:Int}(K:ws[i]?=some wi)(V:g.ls[j]?=some lj){s:OE}(hs:steps[i]?=some s)
 {R:List Int} (hR:∀y,y∈R↔∃n∈s.ns,y∈g.succ n lj) {st:kS} (z:mQ g.goal g.N seen R st) (hf:st.found=false):FI g st.seen (EX steps i lj st.fresh) (pX ws (wi++[lj]) st.fresh) i (j+1):=by
 have hl:=co V
 have Z:∀y∈R,0<=y/\y<g.N:=λy J=>by
  obtain⟨n,e,J⟩:=(hR y).1 J;exact Q.inn n (h.inn s (co hs) n e) lj hl y J
 have q:∀n:Int,0<=n->sn seen n=true->sn st.seen n=true:=λn e hx=>(z.snI n e).2 (.inl hx)
 have S:∀n∈st.fresh,g.goal n=false:=λn e=>by
  have:=z.fd;rw[hf]at this;have o:=List.any_eq_false.1 this.symm n e
  simpa using o
 have L:∀w∈ws,w=[]\/∃(p:Nat) (v:List Int) (l:Int),ws[p]?=some v/\w=v++[l]/\l∈g.ls/\(p<i\/p=i/\∃j',j'<j+1/\g.ls[j']?=some l):=λw K=>by
  rcases h.par w K with c|⟨p,v,l,c,o,f,k⟩
  ·exact .inl c
  ·refine .inr ⟨p,v,l,c,o,f,?_⟩
   rcases k with k|⟨k,j',h5,h6⟩
   ·exact .inl k
   ·exact .inr ⟨k,j',by omega,h6⟩
 have I:∀(t:Nat) s',steps[t]?=some s'->∀l,(t<i/\l∈g.ls\/t=i/\∃j',j'<j+1/\g.ls[j']?=some l)->∀n∈s'.ns,∀y∈g.succ n l,sn st.seen y=true:=by
  intro t s' d l H n e y J
  have B:0<=y/\y<g.N:=by
   refine Q.inn n (h.inn s' (co d) n e) l ?_ y J
   rcases H with ⟨_,c⟩|⟨_,j',_,c⟩
   ·exact c
   ·exact co c
  rcases H with c|⟨c,j',o,f⟩
  ·exact q y B.1 (h.done t s' d l (.inl c) n e y J)
  ·subst c
   rcases tJ.1 o with k|k
   ·exact q y B.1 (h.done t s' d l (.inr ⟨rfl,j',k,f⟩) n e y J)
   ·subst k
    rw[V]at f
    injection f with f
    subst f;rw[hs]at d
    injection d with d
    subst d;exact(z.snI y B.1).2 (.inr ((hR y).2 ⟨n,e,J⟩))
 unfold EX pX;by_cases r:st.fresh=[]
 ·rw [if_pos r,if_pos r]
  have M:∀n:Int,0<=n->(sn st.seen n=true↔sn seen n=true):=λn e=>by
   rw[z.snI n e];refine⟨λc=>?_,.inl⟩
   rcases c with c|c
   ·exact c
   ·rcases Bool.eq_false_or_eq_true (sn seen n) with o|o
    ·exact o
    ·have:=(z.fr n).2 ⟨c,o⟩
     rw[r]at this;cases this
  refine⟨z.len,h.wlen,h.chain,h.rch,h.ov,h.min,h.ord,L,λn e=>by rw[M n e];exact h.snI n e,I,h.nogoal,h.inn,q _ Q.s0.1 h.start,?_,h.le,h.nd⟩;rw[z.cnt,r];exact h.cnt
 ·rw [if_neg r,if_neg r]
  have X:=h.aJ.app (ns:=st.fresh) K hl;have x:∀n∈st.fresh,n∈R/\sn seen n=false:=λn e=>(z.fr n).1 e
  have Y:∀w∈ws,slt w (wi++[lj]):=by
   intro w F
   rcases h.par w F with rfl|⟨p,v,l,c,rfl,f,k⟩
   ·exact .inl (by simp)
   ·rcases k with k|⟨k,j',h5,h6⟩
    ·obtain⟨a1,a2⟩:=am.1 c
     obtain⟨b1,b2⟩:=am.1 K;have h7:=(q8.1 h.ord) p i a1 b1 k;rw[a2,b2]at h7;exact ay h7
    ·subst k
     rw[K]at c
     injection c with c
     subst c;obtain⟨a1,a2⟩:=am.1 h6;obtain⟨b1,b2⟩:=am.1 V;have h7:=(q8.1 Q.srt) j' j a1 b1 h5;rw[a2,b2]at h7;exact gU h7
  have P:∀n∈st.fresh,∃m∈s.ns,n∈g.succ m lj:=λn e=>(hR n).1 (x n e).1;refine⟨z.len,X.wlen,X.chain,λt s' w d G n e=>?_,λw F=>?_,λt s' w d G n e u hu T hr=>?_,?_,λw F=>?_,λn e=>?_,λt s' d l H n e y J=>?_,λs' d n e=>?_,λs' d n e=>?_,q _ Q.s0.1 h.start,?_,?_,λs' d=>?_⟩
  ·rcases Hj d with c|⟨c,o⟩
   ·rcases Hj G with f|⟨f,k⟩
    ·exact h.rch t s' w c f n e
    ·have:=(am.1 c).1
     rw[h.wlen]at f;omega
   ·subst o
    rcases Hj G with f|⟨f,k⟩
    ·have:=(am.1 f).1
     rw[h.wlen]at this;omega
    ·subst k
     obtain⟨m,hm,hnm⟩:=P n e;exact Es.2 ⟨m,h.rch i s wi hs K m hm,hnm⟩
  ·rcases gc.1 F with c|c
   ·exact h.ov w c
   ·simp at c;subst c
    exact GF.2 ⟨h.ov wi (co K),hl⟩
  ·rcases Hj d with c|⟨c,o⟩
   ·rcases Hj G with f|⟨f,k⟩
    ·exact h.min t s' w c f n e u hu T hr
    ·have:=(am.1 c).1
     rw[h.wlen]at f;omega
   ·subst o
    rcases Hj G with f|⟨f,k⟩
    ·have:=(am.1 f).1
     rw[h.wlen]at this;omega
    ·subst k
     have:=h.kv Q K V u.length u rfl hu T n hr;rw[(x n e).2]at this;cases this
  ·refine sU.2 ⟨h.ord,by simp,λa ha b hb=>?_⟩
   simp at hb;subst hb;exact Y a ha
  ·rcases gc.1 F with c|c
   ·rcases L w c with o|⟨p,v,l,o,f,k,h5⟩
    ·exact .inl o
    ·exact .inr ⟨p,v,l,JW o,f,k,h5⟩
   ·simp at c;subst c
    exact .inr ⟨i,wi,lj,JW K,rfl,hl,.inr ⟨rfl,j,by omega,V⟩⟩
  ·rw [z.snI n e,h.snI n e]
   constructor
   ·rintro(⟨s',d,A⟩|hnR)
    ·exact⟨s',q6 _ d,A⟩
    ·rcases Bool.eq_false_or_eq_true (sn seen n) with o|o
     ·obtain⟨s',d,A⟩:=(h.snI n e).1 o
      exact⟨s',q6 _ d,A⟩
     ·exact⟨⟨i,lj,st.fresh⟩,rr _ (by simp),(z.fr n).2 ⟨hnR,o⟩⟩
   ·rintro⟨s',d,A⟩
    rcases gc.1 d with c|c
    ·exact .inl ⟨s',c,A⟩
    ·simp at c;subst c
     exact .inr (x n A).1
  ·rcases Hj d with c|⟨c,o⟩
   ·exact I t s' c l H n e y J
   ·have:=(am.1 hs).1
    rcases H with ⟨f,_⟩|⟨f,_⟩<;>omega
  ·rcases gc.1 d with c|c
   ·exact h.nogoal s' c n e
   ·simp at c;subst c;exact S n e
  ·rcases gc.1 d with c|c
   ·exact h.inn s' c n e
   ·simp at c;subst c;exact Z n (x n e).1
  ·have c:=z.cnt
   have o:=h.cnt;have f:0<st.fresh.length:=uM.2 r;simp;omega
  ·have:=h.le;simp;omega
  ·rcases gc.1 d with c|c
   ·exact h.nd s' c
   ·simp at c;subst c;exact z.nd
theorem FI.init{g:Gr}(q:Jh g){st:kS}(j:mQ g.goal g.N (List.replicate g.N false) [g.s0] st)(r:st.found=false):st.fresh=[g.s0]/\FI g st.seen [⟨-1,0,[g.s0]⟩] [[]] 0 0:=by
 have hno:∀n,sn (List.replicate g.N false) n=false:=λn=>by
  unfold sn;by_cases h:n.toNat<g.N<;>simp[List.getD,h]
 have d:∀n,n∈st.fresh↔n=g.s0:=λn=>by rw[j.fr n];simp[hno]
 have k:st.fresh=[g.s0]:=by
  have i:=j.nd;generalize st.fresh=l at d i
  cases l with
  | nil=>have:=(d g.s0).2 rfl;cases this
  | cons a l=>
   have ha:=(d a).1 (by simp);subst ha
   cases l with
   | nil=>rfl
   | cons b l=>
    have hb:=(d b).1 (by simp);subst hb;simp at i
 refine⟨k,?_⟩
 have m:g.goal g.s0=false:=by
  have:=j.fd;rw[r,k]at this
  simpa using this.symm
 have one:∀(t:Nat) (s:OE),[(⟨-1,0,[g.s0]⟩:OE)][t]?=some s->t=0/\s=⟨-1,0,[g.s0]⟩:=λt s h=>by
  cases t with
  | zero=>simp at h;exact⟨rfl,h.symm⟩
  | succ t=>simp at h
 have one':∀(t:Nat) (w:List Int),[([]:List Int)][t]?=some w->w=[]:=λt w h=>by
  cases t with
  | zero=>exact(Option.some.inj h).symm
  | succ t=>simp at h
 refine⟨j.len,rfl,λt s c=>?_,λt s w c f n e=>?_,λw f=>?_,λt s w c f n e u _ o=>?_,by simp,λw f=>by simp at f;exact .inl f,λn e=>?_,λt s c l p n e y v=>?_,λs c n e=>?_,λs c n e=>?_,?_,?_,by simp,λs c=>?_⟩
 ·obtain⟨rfl,rfl⟩:=one t s c;exact .inl ⟨rfl,rfl⟩
 ·obtain⟨rfl,rfl⟩:=one t s c
  have:=one' 0 w f;subst this;simp at e;subst e;exact(rfl:g.s0=g.s0)
 ·simp at f;subst f;exact λl p=>(by cases p)
 ·have:=one' t w f
  subst this
  rcases o with i|⟨_,i⟩
  ·simp at i
  ·cases u<;>exact i.elim
 ·rw[j.snI n e];simp[hno]
 ·rcases p with ⟨i,_⟩|⟨_,j',i,_⟩<;>omega
 ·simp at c;subst c;simp at e;subst e;exact m
 ·simp at c;subst c;simp at e;subst e;exact q.s0
 ·exact(j.snI _ q.s0.1).2 (.inr (by simp))
 ·rw[j.cnt,k];simp
 ·simp at c;subst c;simp
theorem Cs.start{g:Gr}(h:g.goal g.s0=true):Cs g (some []):=
 ⟨λl c=>(by cases c),⟨g.s0,rfl,h⟩,λu _ _ a=>by rcases a with b|⟨_,b⟩;(simp at b);(cases u<;>exact b.elim)⟩
end Go.Am
