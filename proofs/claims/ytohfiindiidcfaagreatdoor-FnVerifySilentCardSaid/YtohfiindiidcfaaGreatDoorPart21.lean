/-
  The table of an automaton.
-/
import Derived.Test.YtohfiindiidcfaaGreatDoorPart19
import Derived.Test.YtohfiindiidcfaaGreatDoorPart13
set_option linter.all false
namespace Go.Am
open Go Go.Proofs
set_option maxHeartbeats 1000000
set_option maxRecDepth 4000
attribute [local irreducible] A3 Cp Lex Bl Aj Spec
variable {TB:BC}
def P4(h:Nat->Int):List C:=(List.range 6).map λl=>.d (iD (h l))
def Xw(h:Nat->Int):List D:=(List.range 6).map λl=>iD (h l)
theorem ep(h:Nat->Int):P4 h=(Xw h).map .d:=by simp [P4,Xw]
def BM{α:Type}(n:Nat)(g:Nat->α):List α:=(List.range n).map g
theorem DU{α:Type}{n q:Nat}{g:Nat->α}(h:q < n):(BM n g)[q]? = some (g q):=by simp [BM,h]
theorem Nr{α:Type}{n q:Nat}{g:Nat->α}{x:α}:(BM n g).set q x=BM n λi=>if i=q then x else g i:=by
 apply pP;intro i;by_cases hi:i < n
 ·rw [DU hi]
  by_cases a:q=i
  ·subst a;rw [pj (by simp [BM,hi])];simp
  ·rw [pk a,DU hi,if_neg (Ne.symm a)]
 ·rw [oL (by simp [BM];omega),oL (by simp [BM];omega)]
theorem Df{α:Type}{n:Nat}{g g':Nat->α}(h:∀i,i < n->g i=g' i):BM n g=BM n g':=by
 unfold BM;exact qm λi hi=>h i (oJ.1 hi)
theorem er{h:Nat->Int}{l:Nat}{v:Int}(b:l < 6):Ae (P4 h) (0+l*1) (eC (eI .i64 v))=P4 λx=>if x=l then v else h x:=by
 have e:eC (eI .i64 v)=[C.d (iD v)]:=rfl;rw [e,IF (by simp [P4];omega)];have:=Nr (n:=6) (q:=l) (g:=λl=>C.d (iD (h l))) (x:=C.d (iD v))
 have a:0+l*1=l:=by omega
 rw [a];refine Eq.trans this (Df λi _=>?_);by_cases e:i=l<;>simp [e]
theorem KU{h a:Nat->Int}(b:∀l,l < 6->h l=a l):P4 h=P4 a:=Df λi hi=>by rw [b i hi]
theorem Kl(s:Int):∀(n k:Nat),k<=n->AJ s k <+: AJ s n
  | 0, k, h => by have:k=0:=by omega
                  subst this;exact qL _
  | n + 1,k,h=>by
    rcases oY k (n+1) with a|a
    · rw [C9]
      exact(Kl s n k (by omega)).trans (p9 _ _)
    · have:k=n+1:=by omega
      subst this;exact qL _
theorem Kn{s:Int}{k n:Nat}{l:Int}(h:(AJ s n)[k]? = some l):(AJ s l.toNat).length=k:=by
 have g:=Al (co h)
 have c:(AJ s (l.toNat+1))[(AJ s l.toNat).length]? = some l:=by
  rw [C9,if_pos g.2.2,f9 (i9 _)];simp;omega
 have f:(AJ s n)[(AJ s l.toNat).length]? = some l:=by
  obtain⟨t,ht⟩:=Kl s n (l.toNat+1) (by omega);rw [<-ht,f6 (ce.1 c).1];exact c
 have b:=ET s n;rw [oM] at b;obtain⟨e,j⟩:=ce.1 h;obtain⟨d,i⟩:=ce.1 f
 rcases rH (AJ s l.toNat).length k with a|a|a
 ·have:=b _ _ d e a;omega
 ·exact a
 ·have:=b _ _ e d a;omega
theorem Ej{s:Int}{n l:Nat}:(l:Int)∈AJ s n↔l < n/\AX s l=true:=by
 unfold AJ;simp only [d8,oO,oJ];constructor
 ·rintro⟨a,ha,e⟩
  have:a=l:=by have e:((a:Nat):Int)=l:=e;omega
  subst this;exact ha
 ·intro h;exact⟨l,h,rfl⟩
def QD(n:Nat)(H:Nat->Nat->Int):List (List C):=BM n λi=>P4 (H i)
theorem JW(r:Nat->Nat)(n:Nat)(H:Nat->Nat->Int):(QD n H).map (C.CA r)=QD n H:=by
 unfold QD BM;rw [pz]
 exact qm λi _=>by simp only [d5,ep,TK]
theorem fb(n:Nat):QD n (λ_ _=>0)=List.replicate n [C.d (D.v (Value.int IntKind.i64 0)),C.d (D.v (Value.int IntKind.i64 0)),C.d (D.v (Value.int IntKind.i64 0)),C.d (D.v (Value.int IntKind.i64 0)),C.d (D.v (Value.int IntKind.i64 0)),C.d (D.v (Value.int IntKind.i64 0))]:=by
 unfold QD BM;rw [List.map_const'];simp;exact .inr rfl
theorem Zu{n q:Nat}{H:Nat->Nat->Int}(h:q < n):(QD n H)[0+((q:Nat):Int).toNat]? = some (P4 (H q)):=by
 rw [oH,io];exact DU (g:=λi=>P4 (H i)) h
theorem Zv{n q l:Nat}{v:Int}{H:Nat->Nat->Int}(a:l < 6):(QD n H).set (0+((q:Nat):Int).toNat) (Ae (P4 (H q)) (0+((l:Nat):Int).toNat*1) (eC (eI .i64 v)))=QD n λi x=>if i=q/\x=l then v else H i x:=by
 rw [oH,io,io,er a];unfold QD;rw [Nr];refine Df λi _=>?_;by_cases e:i=q
 ·subst e;rw [if_pos rfl];exact KU λl _=>by simp
 ·rw [if_neg e];exact KU λl _=>by simp [e]
theorem Ib{n:Nat}{H H':Nat->Nat->Int}(h:∀i,i < n->∀l,l < 6->H i l=H' i l):QD n H=QD n H':=Df λi hi=>KU λl a=>h i hi l a
theorem ig(n:Nat)(H:Nat->Nat->Int):(QD n H).length=n:=by simp [QD,BM]
def Hb(a:AY):List (List D):=BM a.nx.length λq=>Xw λl=>CB a q l
theorem mf(a:AY):QD a.nx.length (λi l=>CB a i l)=(Hb a).map λr=>r.map .d:=by
 unfold QD Hb BM;rw [pz]
 exact qm λi _=>by simp only [d5,ep]
def iO(a:AY):Prop:=a.nx.length<=64/\∀q,q < a.nx.length->∃row:List Int,a.nx[q]? = some row/\row.length=(Ac a.al).length/\∀(k:Nat) y,row[k]? = some y->0<=y/\y < a.nx.length
theorem fE{a:AY}(h:AI a=true):iO a:=⟨by have:=AE h;omega,λq b=>HG h b⟩
theorem VN(a:AY)(h:iO a):Pure Tryz.prog TB 93 [Bj a] (.o (.d (.l (Hb a)))):=by
 have T:=h.1;have Q:(Ac a.al).length<=6:=AM a.al 6;refine eN Tryz.func93 rfl (by kernel_rfl) rfl ?_;intro Z b;(repeat first|refine aU rfl ?_);(refine Ag rfl ?_;refine CI (λ_ _=>Db rfl rfl rfl) rfl ?_);(refine Ag rfl ?_;refine CI (λ_ _=>CL rfl) rfl ?_);(repeat first|refine sN rfl ?_ |refine tM rfl ?_ |refine aU rfl ?_ |refine Aa ?_);(refine pW rfl ?_ rfl (by rfl);refine KQ rfl rfl (by rfl) (by rfl) (am rfl) (by omega) (by omega) (by omega) ?_);(repeat first|refine sN rfl ?_ |refine tM rfl ?_ |refine sP rfl (C0 a.al) rfl ?_ |refine aU rfl ?_ |refine Aa ?_);refine aB ?_;refine Aj.A5 (α:={q:Nat // q<=a.nx.length}) (λ⟨q,z⟩=>[(1,.o (.ip (AP a))),(3,.o (.arr 0 6 0 a.nx.length)),(4,Ak (Ac a.al)),(18,Gf a.nx),(19,eI .i64 a.nx.length),(20,eI .i64 q)]) (λ⟨q,z⟩=>[(0,.cells 127 6 (QD a.nx.length λi l=>if i < q then CB a i l else 0))]) 1 (λ⟨q,z⟩=>a.nx.length - q) (⟨0,by omega⟩) [0] (Ee b rfl rfl) (by (simp[cX,zC,b,JW,fb])) ?_;rintro⟨q,z⟩;(try dsimp only);(repeat first|refine s2 rfl λ_ u=>?_ |refine aU rfl ?_ |refine Aa ?_);(refine aC rfl ?_ ?_<;>rintro⟨⟩)
 ·have j : q < a.nx.length:=by (simp only[oZ] at *;omega)
  obtain⟨row,K,N,M⟩:=h.2 q j;have P:=get_map (g:=ES) K;refine aK ?_;refine aS (aB ?_);(repeat first|refine tM rfl ?_ |(refine s4 rfl ‹_› rfl ?_ ?_;omega) |refine aU rfl ?_ |refine Aa ?_);refine aB ?_;refine Aj.A5 (α:={m:Nat // m<=6}) (λ⟨m,B⟩=>[(1,.o (.ip (AP a))),(3,.o (.arr 0 6 0 a.nx.length)),(4,Ak (Ac a.al)),(18,Gf a.nx),(19,eI .i64 a.nx.length),(20,eI .i64 q),(5,eI .i64 q),(6,Ak row),(25,eI .i64 m)]) (λ⟨m,B⟩=>[(0,.cells 127 6 (QD a.nx.length λi l=>if i < q then CB a i l else if i=q/\l < m then q else 0))]) 1 (λ⟨m,B⟩=>6 - m) (⟨0,by omega⟩) [0] (Ee b rfl rfl) (by (simp[cX,zC,b,JW])) ?_;rintro⟨m,B⟩;(try dsimp only);(repeat first|refine s2 rfl λ_ u=>?_ |refine aU rfl ?_ |refine Aa ?_);(refine aC rfl ?_ ?_<;>rintro⟨⟩)
  ·have r:m < 6:=by (simp only[oZ] at *;omega)
   have p:0+((m:Nat):Int).toNat*1+1<=6:=by omega
   have I:=Zu (H:=λi l=>if i < q then CB a i l else if i=q/\l < m then q else 0) j;have w:=Zv (n:=a.nx.length) (q:=q) (v:=q) (H:=λi l=>if i < q then CB a i l else if i=q/\l < m then q else 0) r
   have t:(QD a.nx.length λ(i x:Nat)=>if i=q/\x=m then (q:Int) else (λ(i l:Nat)=>if i < q then CB a i l else if i=q/\l < m then (q:Int) else 0) i x)=QD a.nx.length λi l=>if i < q then CB a i l else if i=q/\l < m+1 then (q:Int) else 0:=Ib λi _ l _=>by dsimp only;grind
   refine aK ?_;refine aS (aB ?_);(repeat first|(refine sM rfl ?_ ?_;first|exact tI|omega) |refine aU rfl ?_ |refine Aa ?_);(refine Ag rfl ?_;refine HU ?_ rfl (by rfl);refine Er rfl rfl rfl rfl (I) rfl (p) ?_);(repeat first|(refine sM rfl ?_ ?_;first|exact tI|omega) |refine aU rfl ?_ |refine Aa ?_);refine⟨⟨m+1,by omega⟩,by dsimp only;(omega),[0],?_⟩;rw [w,t];simp[cX,zC,b,JW]
  ·obtain rfl:m=6:=by (simp only[oZ] at *;omega)
   have s:=Ib (n:=a.nx.length) (H:=λi l=>if i < q then CB a i l else if i=q/\l < 6 then (q:Int) else 0) (H':=λi l=>if i < q then CB a i l else if i=q then (if (l:Int)∈(Ac a.al).take 0 then CB a q l else (q:Int)) else 0) λi _ l f=>by simp [f]
   rw [s];refine aE ?_;(repeat first|refine sN rfl ?_ |refine tM rfl ?_ |refine aU rfl ?_ |refine Aa ?_);refine aB ?_;refine Aj.A5 (α:={k:Nat // k<=(Ac a.al).length}) (λ⟨k,hk⟩=>[(1,.o (.ip (AP a))),(3,.o (.arr 0 6 0 a.nx.length)),(4,Ak (Ac a.al)),(18,Gf a.nx),(19,eI .i64 a.nx.length),(20,eI .i64 q),(5,eI .i64 q),(6,Ak row),(35,Ak (Ac a.al)),(36,eI .i64 (Ac a.al).length),(37,eI .i64 k)]) (λ⟨k,hk⟩=>[(0,.cells 127 6 (QD a.nx.length λi l=>if i < q then CB a i l else if i=q then (if (l:Int)∈(Ac a.al).take k then CB a q l else (q:Int)) else 0))]) 1 (λ⟨k,hk⟩=>(Ac a.al).length - k) (⟨0,by omega⟩) [0] (Ee b rfl rfl) (by (simp[cX,zC,b,JW])) ?_;rintro⟨k,hk⟩;(try dsimp only);(repeat first|refine s2 rfl λ_ u=>?_ |refine aU rfl ?_ |refine Aa ?_);(refine aC rfl ?_ ?_<;>rintro⟨⟩)
   ·obtain⟨l,f⟩:=get_some (l:=Ac a.al) (k:=k) (by (simp only[oZ] at *;omega))
    have R:=get_map (g:=Bs) f;have F:=Al (co f);have A:=Kn f;obtain⟨y,J⟩:=get_some (l:=row) (k:=k) (by (simp only[oZ] at *;omega));have L:=get_map (g:=Bs) J
    obtain⟨m,rfl⟩:∃m:Nat,l=m:=⟨l.toNat,by omega⟩
    have G:CB a q m=y:=by
     unfold CB;rw [if_pos F.2.2,A];simp [List.getD,K,J]
    have r:m < 6:=by omega
    have p:0+((m:Nat):Int).toNat*1+1<=6:=by omega
    have I:=Zu (H:=λi l=>if i < q then CB a i l else if i=q then (if (l:Int)∈(Ac a.al).take k then CB a q l else (q:Int)) else 0) j;have w:=Zv (n:=a.nx.length) (q:=q) (v:=y) (H:=λi l=>if i < q then CB a i l else if i=q then (if (l:Int)∈(Ac a.al).take k then CB a q l else (q:Int)) else 0) r
    have t:(QD a.nx.length λ(i x:Nat)=>if i=q/\x=m then y else (λ(i l:Nat)=>if i < q then CB a i l else if i=q then (if (l:Int)∈(Ac a.al).take k then CB a q l else (q:Int)) else 0) i x)=QD a.nx.length λi l=>if i < q then CB a i l else if i=q then (if (l:Int)∈(Ac a.al).take (k+1) then CB a q l else (q:Int)) else 0:=Ib λi _ l _=>by
     try dsimp only
     rw [d9,f];by_cases e:i=q
     ·subst e
      by_cases c:l=m
      ·subst c;simp [G]
      ·have S:¬(l:Int)=(m:Int):=by omega
       simp [c,S]
     ·simp [e]
    refine aK ?_;refine aS (aB ?_);(repeat first|refine tM rfl ?_ |(refine s4 rfl ‹_› rfl ?_ ?_;omega) |refine aU rfl ?_ |refine Aa ?_);refine rG (Hg [9]) (by kernel_rfl) ?_;(repeat first|(refine sM rfl ?_ ?_;first|exact tI|omega) |(refine s4 rfl ‹_› rfl ?_ ?_;omega));(refine Ag rfl ?_;refine HU ?_ rfl (by rfl);refine Er rfl rfl rfl rfl (I) rfl (p) ?_);(repeat first|(refine sM rfl ?_ ?_;first|exact tI|omega) |refine aU rfl ?_ |refine Aa ?_);refine⟨⟨k+1,by (simp only[oZ] at *;omega)⟩,by dsimp only;((simp only[oZ] at *;omega)),[0],?_⟩;rw [w,t];simp[cX,zC,b,JW]
   ·obtain rfl:k=(Ac a.al).length:=by (simp only[oZ] at *;omega)
    have s:=Ib (n:=a.nx.length) (H:=λi l=>if i < q then CB a i l else if i=q then (if (l:Int)∈(Ac a.al).take (Ac a.al).length then CB a q l else (q:Int)) else 0) (H':=λi l=>if i < q+1 then CB a i l else 0) λi _ l f=>by
     try dsimp only
     rw [gt];by_cases e:i=q
     ·subst e
      simp only [Nat.lt_irrefl,if_false,if_true,qI];by_cases c:AX a.al l=true
      ·rw [if_pos (Ej.2 ⟨f,c⟩)]
      ·rw [if_neg (λh=>c (Ej.1 h).2)];unfold CB;rw [if_neg (by simpa using c)]
     ·by_cases c:i < q
      ·rw [if_pos c,if_pos (by omega)]
      ·rw [if_neg c,if_neg e,if_neg (by omega)]
    rw [s];refine aE ?_;(repeat first|(refine sM rfl ?_ ?_;first|exact tI|omega) |refine aU rfl ?_ |refine Aa ?_);refine⟨⟨q+1,by omega⟩,by dsimp only;(omega),[0],?_⟩;simp[cX,zC,b,JW]
 ·obtain rfl:q=a.nx.length:=by (simp only[oZ] at *;omega)
  have t:=Ib (n:=a.nx.length) (H:=λi l=>if i < a.nx.length then CB a i l else 0) (H':=λi l=>CB a i l) λi hi l _=>by rw [if_pos hi]
  rw [t];refine aE ?_;(repeat first|refine tM rfl ?_ |refine aU rfl ?_ |refine Aa ?_);refine Aj.freeze [0] [(2,.o (.d (.l (Hb a))))] ⟨⟨_,rfl,.o (.full (by simp) rfl (mf a) (by simp [ig]))⟩,trivial⟩ ?_;refine aR ⟨_,rfl,rfl⟩
theorem Fz(a:AY)(h:AI a=true):Pure Tryz.prog TB 93 [Bj a] (.o (.d (.l (Hb a)))):=VN a (fE h)
abbrev Tn(s:Sys):List D:=[.p (FR s.es)]
abbrev gk(s:Sys):List C:=[.d (.p (FR s.es))]
abbrev WI(l:List Sys):E:=.a [.d (JA l),.d (.l (l.map Tn))]
abbrev GX(l:List Sys):List D:=[JA l,.l (l.map Tn)]
theorem NX(l:List Sys)(h:∀s∈l,AV s=true)(m:l.length<=3):Pure Tryz.prog TB 92 [Gl l] (WI l):=by
 refine Spec.oq 2 123 2 [1] Tryz.func92 rfl (by kernel_rfl) rfl (am rfl) ?_;intro Z b;(repeat first |refine sN rfl ?_ |((first|refine sM rfl ?_ ?_|refine s4 rfl ‹_› rfl ?_ ?_);first|exact tI|omega|simp only[oZ] at *;omega) |refine s2 rfl λ_ a=>?_ |refine s3 rfl ?_ ?_<;>rintro rfl |refine aU rfl ?_ |refine Aa ?_);(refine pW rfl ?_ rfl (by rfl);refine Jp 1 1 174 rfl rfl rfl (by rfl) (by rfl) ?_);(repeat first |refine sN rfl ?_ |((first|refine sM rfl ?_ ?_|refine s4 rfl ‹_› rfl ?_ ?_);first|exact tI|omega|simp only[oZ] at *;omega) |refine s2 rfl λ_ a=>?_ |refine s3 rfl ?_ ?_<;>rintro rfl |refine aU rfl ?_ |refine Aa ?_);refine aB ?_;refine Aj.A5 (α:={k:Nat // k<=l.length}) (λ⟨k,hk⟩=>[(2,.o (.ptr 0 2 0 0)),(3,.o (.ptr 2 2 0 0)),(8,Gl l),(9,eI .i64 l.length),(10,eI .i64 k)]) (λ⟨k,hk⟩=>[(0,.cells 123 2 [[.d (.l []),.d (.l [])]]),(1,.cells 174 1 ((l.take k).map gk)),(2,.cells 123 2 [[.d (JA l),.arr 1 1 0 k]])]) 3 (λ⟨k,hk⟩=>l.length - k) (⟨0,by omega⟩) [0,1,2] (Ee b rfl rfl) (by ((repeat' first|exact tI|rfl|refine And.intro ?_ ?_)<;>(simp[cX,zC,b,List.set_cons_zero,Ae,eC]))) ?_;rintro⟨k,hk⟩;(try dsimp only);(repeat first |refine sN rfl ?_ |((first|refine sM rfl ?_ ?_|refine s4 rfl ‹_› rfl ?_ ?_);first|exact tI|omega|simp only[oZ] at *;omega) |refine s2 rfl λ_ a=>?_ |refine s3 rfl ?_ ?_<;>rintro rfl |refine aU rfl ?_ |refine Aa ?_ |refine rE (by kernel_rfl) ?_);(refine aC rfl ?_ ?_<;>rintro⟨⟩)
 ·obtain⟨x,e⟩:=get_some (l:=l) (k:=k) (by first|omega|simp only[oZ] at *;omega)
  have j:=get_map (g:=AL) e;have c:=h x (co e);refine aK ?_;refine aS (aB ?_);(repeat first |refine sN rfl ?_ |((first|refine sA rfl ?_ ?_|refine s4 rfl ‹_› rfl ?_ ?_);first|exact tI|omega|simp only[oZ] at *;omega) |refine s2 rfl λ_ a=>?_ |refine s3 rfl ?_ ?_<;>rintro rfl |refine aU rfl ?_ |refine Aa ?_);refine rG (Hg [5,7]) (by kernel_rfl) ?_;(repeat first |refine sN rfl ?_ |((first|refine sA rfl ?_ ?_|refine s4 rfl ‹_› rfl ?_ ?_);first|exact tI|omega|simp only[oZ] at *;omega) |refine s2 rfl λ_ a=>?_ |refine sP rfl (PE x c) rfl ?_ |refine s3 rfl ?_ ?_<;>rintro rfl |refine aU rfl ?_ |refine Aa ?_ |refine rE (by kernel_rfl) ?_);(refine pW rfl ?_ rfl (by rfl);refine Au rfl rfl rfl (by first|(simp;done)|(simp;(first|omega|simp only[oZ] at *;omega))) rfl (by intro r f;simp at f;subst f;rfl) (by rfl) (am rfl) (by simp;first|omega|simp only[oZ] at *;omega) ?_);(repeat first |refine sN rfl ?_ |((first|refine sX rfl ?_ ?_|refine s4 rfl ‹_› rfl ?_ ?_);first|exact tI|omega|simp only[oZ] at *;omega) |refine s2 rfl λ_ a=>?_ |refine s3 rfl ?_ ?_<;>rintro rfl |refine aU rfl ?_ |refine Aa ?_ |refine rE (by kernel_rfl) ?_);refine⟨⟨k+1,by first|omega|simp only[oZ] at *;omega⟩,by dsimp only;(first|omega|simp only[oZ] at *;omega),[0,4,2],?_⟩;simp[cX,zC,b,d9,e,Ae,eC]
 ·obtain rfl:k=l.length:=by first|omega|simp only[oZ] at *;omega
  refine aE ?_;(repeat first |refine sN rfl ?_ |((first|refine sM rfl ?_ ?_|refine s4 rfl ‹_› rfl ?_ ?_);first|exact tI|omega|simp only[oZ] at *;omega) |refine s2 rfl λ_ a=>?_ |refine s3 rfl ?_ ?_<;>rintro rfl |refine aU rfl ?_ |refine Aa ?_ |refine rE (by kernel_rfl) ?_);rw [gt];refine aR ⟨⟨0,2,0,123,_,[.d (JA l),.arr 1 1 0 l.length],_,rfl,rfl,rfl,.cons .AR (.cons (.full (by simp) rfl (by simp [d5]) (by simp)) .nil),rfl⟩,?_⟩;intro id k i h
  injection h with h;injection h with h;injection h with _ h;exact h.symm
theorem Zm(l:List Sys)(h:∀s∈l,AV s=true)(p:l.length<=3):Pure Tryz.prog TB 98 [WI l] (eI .i64 (Aw (l.map (·.st)))):=by
 have b:∀z∈l.map (·.st),1<=z/\z<=16:=by
  intro z d;obtain⟨s,m,rfl⟩:=d8.1 d;have:=AN (h s m);omega
 refine eN Tryz.func98 rfl (by kernel_rfl) rfl ?_;intro Z c;(repeat first |refine sN rfl ?_ |((first|refine sM rfl ?_ ?_|refine s4 rfl ‹_› rfl ?_ ?_);first|exact tI|omega|simp only[oZ] at *;omega) |refine s2 rfl λ_ a=>?_ |refine s3 rfl ?_ ?_<;>rintro rfl |refine aU rfl ?_ |refine Aa ?_ |refine rE (by kernel_rfl) ?_);(refine Ag rfl ?_;refine CI (λ_ _=>Db rfl rfl rfl) rfl ?_);(repeat first |refine sN rfl ?_ |((first|refine sM rfl ?_ ?_|refine s4 rfl ‹_› rfl ?_ ?_);first|exact tI|omega|simp only[oZ] at *;omega) |refine s2 rfl λ_ a=>?_ |refine s3 rfl ?_ ?_<;>rintro rfl |refine aU rfl ?_ |refine Aa ?_ |refine rE (by kernel_rfl) ?_);refine aB ?_;refine Aj.A5 (α:={k:Nat // k<=l.length}) (λ⟨k,hk⟩=>[(3,eI .i64 (Aw ((l.map (·.st)).take k))),(7,Gl l),(8,eI .i64 l.length),(9,eI .i64 k)]) (λ⟨k,hk⟩=>[]) 0 (λ⟨k,hk⟩=>l.length - k) (⟨0,by omega⟩) [] (Ee c rfl rfl) (by ((repeat' first|exact tI|rfl|refine And.intro ?_ ?_)<;>(simp[cX,zC,c,Aw]))) ?_;rintro⟨k,hk⟩;(try dsimp only);(repeat first |refine sN rfl ?_ |((first|refine sM rfl ?_ ?_|refine s4 rfl ‹_› rfl ?_ ?_);first|exact tI|omega|simp only[oZ] at *;omega) |refine s2 rfl λ_ a=>?_ |refine s3 rfl ?_ ?_<;>rintro rfl |refine aU rfl ?_ |refine Aa ?_ |refine rE (by kernel_rfl) ?_);(refine aC rfl ?_ ?_<;>rintro⟨⟩)
 ·obtain⟨x,e⟩:=get_some (l:=l) (k:=k) (by first|omega|simp only[oZ] at *;omega)
  have j:=get_map (g:=AL) e;have i:=b x.st (d8.2 ⟨x,co e,rfl⟩)
  have d:(l.map (·.st))[k]? = some x.st:=by simp [e]
  have f:=KR d;have o:=HV ((l.map (·.st)).take (k+1)) λz d=>b z (oP d)
  have q:(16:Int) ^ ((l.map (·.st)).take (k+1)).length<=4096:=by
   have:((l.map (·.st)).take (k+1)).length<=3:=by simp;omega
   generalize ((l.map (·.st)).take (k+1)).length=n at this
   have:n=0\/n=1\/n=2\/n=3:=by omega
   rcases this with rfl|rfl|rfl|rfl<;>decide
  rw [f] at o;refine aK ?_;refine aS (aB ?_);(repeat first |refine sN rfl ?_ |((first|refine sA rfl ?_ ?_|refine s4 rfl ‹_› rfl ?_ ?_);first|exact tI|omega|simp only[oZ] at *;omega) |refine s2 rfl λ_ a=>?_ |refine s3 rfl ?_ ?_<;>rintro rfl |refine aU rfl ?_ |refine Aa ?_ |refine rE (by kernel_rfl) ?_);refine⟨⟨k+1,by first|omega|simp only[oZ] at *;omega⟩,by dsimp only;(first|omega|simp only[oZ] at *;omega),[],?_⟩;simp[cX,zC,c,f]
 ·obtain rfl:k=l.length:=by first|omega|simp only[oZ] at *;omega
  refine aE ?_;(repeat first |refine sN rfl ?_ |((first|refine sM rfl ?_ ?_|refine s4 rfl ‹_› rfl ?_ ?_);first|exact tI|omega|simp only[oZ] at *;omega) |refine s2 rfl λ_ a=>?_ |refine s3 rfl ?_ ?_<;>rintro rfl |refine aU rfl ?_ |refine Aa ?_ |refine rE (by kernel_rfl) ?_);rw [gc (by simp)];refine aR ⟨_,rfl,rfl⟩
end Go.Am
namespace Go.Am
open Go
def Ey:List Int->List (List Int)->List Int
 | _::zs,c::cs=>c.flatMap λq=>(Ey zs cs).map λr=>q*Aw zs+r
 | _,_=>[0]
theorem da:∀ {zs:List Int} {cs:List (List Int)},FH zs cs->∀out:List Int,Hh zs cs out=out.flatMap λo=>(Ey zs cs).map λr=>o*Aw zs+r:=by
 intro zs cs h
 induction h with
 | nil=>intro out;simp [Hh,Ey,Aw]
 | @cons z c zs cs _ _ _ a=>
  intro out;rw [Hh,a,List.flatMap_assoc];congr 1;funext o;rw [List.flatMap_map,Ey,List.map_flatMap];congr 1;funext q;rw [pz];congr 1;funext r;simp only [d5,Aw];rw [qE,ql];omega
theorem RS{zs:List Int}{cs:List (List Int)}(h:FH zs cs):Hh zs cs [0]=Ey zs cs:=by
 rw [da h];simp
theorem FH.drop{zs:List Int}{cs:List (List Int)}(h:FH zs cs):∀k,FH (zs.drop k) (cs.drop k):=by
 induction h with
 | nil=>intro k;simp;exact .nil
 | cons d c b a=>
  intro k
  cases k with
  | zero=>exact .cons d c b
  | succ k=>exact a k
theorem Tj{zs:List Int}{cs:List (List Int)}(h:FH zs cs):(∀v∈Ey zs cs,0<=v/\v < Aw zs)/\((Ey zs cs).length:Int)<=Aw zs:=by
 have:=Tl h [0] 1 (by simp) (by omega) (by simp);rw [RS h,r5] at this;exact this
theorem ao{zs:List Int}{cs:List (List Int)}{k:Nat}{z:Int}{c:List Int}(a:zs[k]? = some z)(b:cs[k]? = some c):Ey (zs.drop k) (cs.drop k)=c.flatMap λq=>(Ey (zs.drop (k+1)) (cs.drop (k+1))).map λr=>q*Aw (zs.drop (k+1))+r:=by
 rw [BD a,BD b,Ey]
theorem Xr{zs:List Int}{k:Nat}{z:Int}(a:zs[k]? = some z):Aw (zs.drop k)=z*Aw (zs.drop (k+1)):=by
 rw [BD a,Aw]
theorem Ut:∀ {zs:List Int} {k:Nat} {z:Int} (n:Int),zs[k]? = some z->(BI zs n)[k]? = some (n / Aw (zs.drop (k+1)) % z)
 | [],k,z,n,h=>by simp at h
 | a::zs,0,z,n,h=>by simp at h;subst h;simp [BI]
 | a::zs,k+1,z,n,h=>by
  rw [BI,rC,List.drop_succ_cons];exact Ut n (by simpa using h)
theorem Nm:∀(zs ws:List Int),Aw (zs++ws)=Aw zs*Aw ws
 | [],ws=>by simp [Aw]
 | z::zs,ws=>by simp [Aw,Nm zs ws,ql]
theorem Pe:∀(zs ws:List Int) (n:Int),(∀w∈ws,0 < w)->BI (zs++ws) n=BI zs (n / Aw ws)++BI ws n
 | [],ws,n,_=>rfl
 | z::zs,ws,n,h=>by
  have a:=Se h;simp only [pM,BI,Pe zs ws n h,Nm];rw [qJ (Aw zs),qP (by omega)]
def ZM(l:List Sys)(node letter:Int):List (List Int):=l.zipWith (λs q=>BH s q letter) (BI (l.map (·.st)) node)
theorem SU{l:List Sys}(h:∀s∈l,AV s=true)(d:l.length<=3){letter:Int}(g:0<=letter)(f:letter < 6)(node:Int):FH (l.map (·.st)) (ZM l node letter):=by
 have b:DW ⟨l,[],[],0,0,0⟩:=⟨h,λa ha=>(by cases ha),d,by simp⟩
 have c:Af ⟨l,[],[],0,0,0⟩=l.map (·.st):=by simp [Af]
 have e:=Lu b node;have:=Im b e g f;rw [c] at this;unfold KA at this
 simpa [ZM] using this
theorem fI{l:List Sys}{k:Nat}{s:Sys}(a:l[k]? = some s)(node letter:Int):(ZM l node letter)[k]? = some (BH s (node / Aw ((l.map (·.st)).drop (k+1)) % s.st) letter):=by
 unfold ZM;rw [rO,a,Ut (z:=s.st) node (by simp [a])]
end Go.Am
namespace Go.Am
open Go Go.Proofs
set_option maxHeartbeats 1000000
set_option maxRecDepth 4000
attribute [local irreducible] A3 Cp Lex Bl Aj Spec
variable {TB:BC}
theorem EI{P:Program}{Z:Ctx}{d:Option Tmp}{ty:TypeId}{pos:String}{af:Array Edge}{g:Option (Nat×Bool)}{f:Env}{σ:Ab}{nx:Nat}{t:TypeId}{x:Operand}{c:D}{cs:List D}{n:Nat}[h:DV P t false n](e:ev f x=some (.o (.ip cs)))(b:cs[0]? = some c):A3 P TB Z ⟨d,.load t x,ty,pos,af,g⟩ f σ nx (.o (.d c)):=by
 cases cs with
 | nil=>cases b
 | cons a l=>injection b with b;subst b;exact Vo e
theorem dg{es:List Ef}{q l:Int}(d:0<=q/\q < 16)(c:0<=l/\l < 6):(((FR es).drop (q.toNat*6)).drop (l.toNat*1))[0]? = some (iD (BP (MI es q.toNat l.toNat):Nat)):=by
 rw [oV,oV,JL (by omega)]
 have b:(q.toNat*6+(l.toNat*1+0)) / 6=q.toNat:=by omega
 have a:(q.toNat*6+(l.toNat*1+0)) % 6=l.toNat:=by omega
 rw [b,a]
theorem gu[Dc TB](l:List Sys)(h:∀s∈l,AV s=true)(hl:l.length<=3)(node letter:Int)(hn0:0<=node)(hn1:node<=1048576)(h0:0<=letter)(h1:letter < 6)(outs:List Int)(hol:outs.length<=1099511627776) :
 Spec Tryz.prog TB 95 [(0,.cells 3 1 (outs.map AD))] 1 [WI l,eI .i64 node,eI .i64 letter,.o (.arr 0 1 0 outs.length)]
  (λx σ nx=>x=.o (.arr 1 1 0 (outs++Ey (l.map (·.st)) (ZM l node letter)).length)/\nx=2/\σ=[(1,.cells 3 1 ((outs++Ey (l.map (·.st)) (ZM l node letter)).map AD))]):=by
 have hch:=SU h hl h0 h1 node
 have hpos:∀z∈l.map (·.st),1<=z/\z<=16:=by
  intro z hz;obtain⟨s,F,rfl⟩:=d8.1 hz;have:=AN (h s F);omega
 have w:∀k,1<=Aw ((l.map (·.st)).drop k)/\Aw ((l.map (·.st)).drop k)<=4096:=by
  intro k;have h2:=HV ((l.map (·.st)).drop k) λz hz=>hpos z (pS hz)
  have h3:(16:Int) ^ ((l.map (·.st)).drop k).length<=4096:=by
   have:((l.map (·.st)).drop k).length<=3:=by simp;omega
   generalize ((l.map (·.st)).drop k).length=n at this
   have:n=0\/n=1\/n=2\/n=3:=by omega
   rcases this with rfl|rfl|rfl|rfl<;>decide
  omega
 have H:=λk=>Tj (hch.drop k);have hget:=λ(k:Nat) (s:Sys) (F:l[k]? = some s)=>fI F node letter;generalize ZM l node letter=cs at *
 have hzs:∀(k:Nat) (s:Sys),l[k]? = some s->(l.map (·.st))[k]? = some s.st:=λk s F=>by simp [F]
 have T:(l.map (·.st)).length=l.length:=by simp
 generalize l.map (·.st)=zs at *;have hcl:=hch.len;refine eN Tryz.func95 rfl (by kernel_rfl) rfl ?_;intro Z c;(repeat first |refine sN rfl ?_ |((first|refine sM rfl ?_ ?_|refine s4 rfl ‹_› rfl ?_ ?_);first|exact tI|omega|simp only[oZ] at *;omega) |refine s2 rfl λ_ b=>?_ |refine s3 rfl ?_ ?_<;>rintro rfl |refine aU rfl ?_ |refine Aa ?_ |refine rE (by kernel_rfl) ?_);(refine Ag rfl ?_;refine CI (λ_ _=>Db rfl rfl rfl) rfl ?_);(refine Ag rfl ?_;refine CI (λ_ _=>CL rfl) rfl ?_);(repeat first |refine sN rfl ?_ |((first|refine sA rfl ?_ ?_|refine s4 rfl ‹_› rfl ?_ ?_);first|exact tI|omega|simp only[oZ] at *;omega) |refine s2 rfl λ_ b=>?_ |refine s3 rfl ?_ ?_<;>rintro rfl |refine aU rfl ?_ |refine Aa ?_ |refine rE (by kernel_rfl) ?_);refine aB ?_;refine Aj.A5 (α:={k:Nat // k<=l.length}) (λ⟨k,hk⟩=>[(1,eI .i64 (node / Aw (zs.drop k))),(2,eI .i64 letter),(3,.o (.arr 0 1 0 outs.length)),(4,.o (.ip (GX l))),(9,Ak (Ey (zs.drop k) (cs.drop k))),(10,eI .i64 (Aw (zs.drop k))),(11,eI .i64 ((k:Int) - 1))]) (λ⟨k,hk⟩=>[(0,.cells 3 1 (outs.map AD))]) 1 (λ⟨k,hk⟩=>k) (⟨l.length,by omega⟩) [0] (Ee c rfl rfl) (by ((repeat' first|exact tI|rfl|refine And.intro ?_ ?_)<;>(simp[cX,zC,c,pO,T,hcl.symm,Aw,Ey]))) ?_;rintro⟨k,hk⟩;(try dsimp only);(repeat first |refine sN rfl ?_ |((first|refine sM rfl ?_ ?_|refine s4 rfl ‹_› rfl ?_ ?_);first|exact tI|omega|simp only[oZ] at *;omega) |refine s2 rfl λ_ b=>?_ |refine s3 rfl ?_ ?_<;>rintro rfl |refine aU rfl ?_ |refine Aa ?_ |refine rE (by kernel_rfl) ?_);(refine aC rfl ?_ ?_<;>rintro⟨⟩)
 ·obtain⟨k,rfl⟩:∃k',k=k'+1:=⟨k - 1,by first|omega|simp only[oZ] at *;omega⟩
  obtain⟨s,F⟩:=get_some (l:=l) (k:=k) (by first|omega|simp only[oZ] at *;omega)
  have hs':(l.map AL)[(((k+1:Nat):Int) - 1).toNat]? = some (AL s):=by simp [F]
  have hm':(l.map Tn)[(((k+1:Nat):Int) - 1).toNat]? = some (Tn s):=by simp [F]
  have B:=h s (co F);have hsh:=AN B;have hz:=hzs k s F;have hck:=hget k s F;have e:=ao hz hck;have G:=Xr hz;have M:=w (k+1);have hpr0:=w k;have hlk:=H (k+1);have P:=(H k).2;rw [e] at P
  have hnd:node / Aw (zs.drop k)=node / Aw (zs.drop (k+1)) / s.st:=by
   rw [G,qJ,qP (by omega)]
  have hn2:0<=node / Aw (zs.drop (k+1)):=qx hn0 (by omega);have hn3:node / Aw (zs.drop (k+1))<=node:=qo _ hn0;rw [G] at hpr0;generalize Aw (zs.drop (k+1))=W at *;generalize Ey (zs.drop (k+1)) (cs.drop (k+1))=low at *;generalize node / W=nd at *
  have I:0<=nd % s.st/\nd % s.st < s.st:=⟨pD _ (by omega),pp _ (by omega)⟩
  refine aK ?_;refine aS (aB ?_);(repeat first |refine sN rfl ?_ |((first|refine sA rfl ?_ ?_|refine s4 rfl ‹_› rfl ?_ ?_);first|exact tI|omega|simp only[oZ] at *;omega) |refine s2 rfl λ_ b=>?_ |refine s3 rfl ?_ ?_<;>rintro rfl |refine aU rfl ?_ |refine Aa ?_)
  have X:∃to,to=BH s (nd % s.st) letter/\(AX s.al letter.toNat=false->to=[nd % s.st])/\(AX s.al letter.toNat=true->to=MI s.es (nd % s.st).toNat letter.toNat):=by
   refine⟨_,rfl,λhb=>?_,λhb=>?_⟩
   ·unfold BH;rw [if_neg (by simp [hb])]
   ·rw [bn hb];congr 1<;>omega
  have v:∀x∈BH s (nd % s.st) letter,0<=x/\x < s.st:=λx p=>JC B I.1 I.2 p;have J:=Nx B (l:=letter) I.1 I.2;obtain⟨to,X,hto0,hto1⟩:=X;rw [<-X] at v J e P
  have hmem:AX s.al letter.toNat=true->Pure Tryz.prog TB 146 [eI .i64 (BP (MI s.es (nd % s.st).toNat letter.toNat):Nat)] (Ak (MI s.es (nd % s.st).toNat letter.toNat)):=λhb=>by
   have h2:=FB B s.es.length (nd % s.st).toNat letter.toNat;have h3:=λx p=>Nz B (k:=s.es.length) (f:=(nd % s.st).toNat) (l:=letter.toNat) (x:=x) p;rw [gt] at h2 h3
   exact Xk _ h2 λx p=>by have:=h3 x p;omega
  have hld:=dg (es:=s.es) (q:=nd % s.st) (l:=letter) ⟨I.1,by omega⟩ ⟨h0,h1⟩
  have R:hasB s.al letter=AX s.al letter.toNat:=by simp [hasB,h0]
  (repeat first |refine sN rfl ?_ |((first|refine sM rfl ?_ ?_|refine s4 rfl ‹_› rfl ?_ ?_);first|exact tI|omega|simp only[oZ] at *;omega) |refine s2 rfl λ_ b=>?_ |refine s3 rfl ?_ ?_<;>rintro rfl |refine aU rfl ?_ |refine Aa ?_);(repeat first |refine sN rfl ?_ |((first|refine sA rfl ?_ ?_|refine s4 rfl ‹_› rfl ?_ ?_);first|exact tI|omega|simp only[oZ] at *;omega) |refine s2 rfl λ_ b=>?_ |(refine sC rfl (MZ _ _) ?_;intro _ b) |refine s3 rfl ?_ ?_<;>rintro rfl |refine aU rfl ?_ |refine Aa ?_ |refine rE (by kernel_rfl) ?_)
  have N:node / (s.st*W)=nd / s.st:=by rw [<-G];exact hnd
  have S:W*s.st=s.st*W:=qJ _ _
  have Q:∀m,(((to.take m).flatMap λq=>low.map λr=>q*W+r).length:Int)<=1048576:=by
   intro m;have h2:=Ly (to.take m) (λq=>low.map λr=>q*W+r) 4096 (λx _=>by simp;omega)
   have h3:(to.take m).length<=to.length:=by simp;omega
   omega
  (refine aC rfl ?_ ?_<;>rintro⟨⟩)
  ·have hb:AX s.al letter.toNat=true:=by rw [<-R];exact b
   have K:=hmem hb;have t:=hto1 hb;(repeat first |refine sN rfl ?_ |((first|refine sM rfl ?_ ?_|refine s4 rfl ‹_› rfl ?_ ?_);first|exact tI|omega|simp only[oZ] at *;omega) |refine s2 rfl λ_ b=>?_ |refine sP rfl (K) rfl ?_|(refine Ag rfl ?_;refine gA rfl ?_;first|refine gS (λ_ _=>EI rfl hld) ?_) |refine s3 rfl ?_ ?_<;>rintro rfl |refine aU rfl ?_ |refine Aa ?_ |refine rE (by kernel_rfl) ?_);(refine pW rfl ?_ rfl (by rfl);refine Hp 1 3 ?_);(repeat first |refine sN rfl ?_ |((first|refine sM rfl ?_ ?_|refine s4 rfl ‹_› rfl ?_ ?_);first|exact tI|omega|simp only[oZ] at *;omega) |refine s2 rfl λ_ b=>?_ |refine s3 rfl ?_ ?_<;>rintro rfl |refine aU rfl ?_ |refine Aa ?_ |refine rE (by kernel_rfl) ?_);refine aB ?_;refine Aj.A5 (α:={m:Nat // m<=to.length}) (λ⟨m,K⟩=>[(1,eI .i64 nd),(2,eI .i64 letter),(3,.o (.arr 0 1 0 outs.length)),(4,.o (.ip (GX l))),(9,Ak low),(10,eI .i64 W),(11,eI .i64 (((k+1:Nat):Int) - 1)),(12,.o (.ptr 1 3 0 0)),(14,.o (.arr 2 1 0 ((to.take m).flatMap λq=>low.map λr=>q*W+r).length)),(57,Ak to),(58,eI .i64 to.length),(59,eI .i64 m)]) (λ⟨m,K⟩=>[(0,.cells 3 1 (outs.map AD)),(1,.cells 25 3 [[.d (iD s.al),.d (iD s.st),.d (Ev s.es)]]),(2,.cells 3 1 (((to.take m).flatMap λq=>low.map λr=>q*W+r).map AD))]) 3 (λ⟨m,K⟩=>to.length - m) (⟨0,by omega⟩) [0,1,2] (Ee c rfl rfl) (by ((repeat' first|exact tI|rfl|refine And.intro ?_ ?_)<;>(simp[cX,zC,c,Ae,eC,t]))) ?_;rintro⟨m,K⟩;(try dsimp only);clear t
   have A:∀x,to[m]? = some x->(to.take (m+1)).flatMap (λq=>low.map λr=>q*W+r)=(to.take m).flatMap (λq=>low.map λr=>q*W+r)++low.map λr=>x*W+r:=λx p=>by
    rw [d9,p];simp
   have hlm:=Q m;generalize u:(to.take m).flatMap (λq=>low.map λr=>q*W+r)=pre at *;(repeat first |refine sN rfl ?_ |((first|refine sM rfl ?_ ?_|refine s4 rfl ‹_› rfl ?_ ?_);first|exact tI|omega|simp only[oZ] at *;omega) |refine s2 rfl λ_ b=>?_ |refine s3 rfl ?_ ?_<;>rintro rfl |refine aU rfl ?_ |refine Aa ?_ |refine rE (by kernel_rfl) ?_);(refine aC rfl ?_ ?_<;>rintro⟨⟩)
   ·obtain⟨x,p⟩:=get_some (l:=to) (k:=m) (by first|omega|simp only[oZ] at *;omega)
    have hx':=get_map (g:=Bs) p;have V:=v x (co p);have A:=A x p;refine aK ?_;refine aS (aB ?_);(repeat first |refine sN rfl ?_ |((first|refine sM rfl ?_ ?_|refine s4 rfl ‹_› rfl ?_ ?_);first|exact tI|omega|simp only[oZ] at *;omega) |refine s2 rfl λ_ b=>?_ |refine s3 rfl ?_ ?_<;>rintro rfl |refine aU rfl ?_ |refine Aa ?_ |refine rE (by kernel_rfl) ?_);refine aB ?_;refine Aj.A5 (α:={j:Nat // j<=low.length}) (λ⟨j,Y⟩=>[(1,eI .i64 nd),(2,eI .i64 letter),(3,.o (.arr 0 1 0 outs.length)),(4,.o (.ip (GX l))),(9,Ak low),(10,eI .i64 W),(11,eI .i64 (((k+1:Nat):Int) - 1)),(12,.o (.ptr 1 3 0 0)),(14,.o (.arr 2 1 0 (pre.length+j))),(57,Ak to),(58,eI .i64 to.length),(59,eI .i64 m),(16,eI .i64 x),(63,Ak low),(64,eI .i64 low.length),(65,eI .i64 j)]) (λ⟨j,Y⟩=>[(0,.cells 3 1 (outs.map AD)),(1,.cells 25 3 [[.d (iD s.al),.d (iD s.st),.d (Ev s.es)]]),(2,.cells 3 1 ((pre++(low.take j).map λr=>x*W+r).map AD))]) 3 (λ⟨j,Y⟩=>low.length - j) (⟨0,by omega⟩) [0,1,2] (Ee c rfl rfl) (by ((repeat' first|exact tI|rfl|refine And.intro ?_ ?_)<;>(simp[cX,zC,c]))) ?_;rintro⟨j,Y⟩;(try dsimp only);(repeat first |refine sN rfl ?_ |((first|refine sM rfl ?_ ?_|refine s4 rfl ‹_› rfl ?_ ?_);first|exact tI|omega|simp only[oZ] at *;omega) |refine s2 rfl λ_ b=>?_ |refine s3 rfl ?_ ?_<;>rintro rfl |refine aU rfl ?_ |refine Aa ?_ |refine rE (by kernel_rfl) ?_);(refine aC rfl ?_ ?_<;>rintro⟨⟩)
    ·obtain⟨y,U⟩:=get_some (l:=low) (k:=j) (by first|omega|simp only[oZ] at *;omega)
     have hy':=get_map (g:=Bs) U;have hyb:=hlk.1 y (co U)
     have h16:0<=x*W/\x*W<=65536:=⟨ph V.1 (by omega),by
      have h5:x*W<=16*4096:=pe (by omega) M.2 (by omega) (by omega)
      omega⟩
     refine aK ?_;refine aS (aB ?_);(repeat first |refine sN rfl ?_ |((first|refine sA rfl ?_ ?_|refine s4 rfl ‹_› rfl ?_ ?_);first|exact tI|omega|simp only[oZ] at *;omega) |refine s2 rfl λ_ b=>?_ |refine s3 rfl ?_ ?_<;>rintro rfl |refine aU rfl ?_ |refine Aa ?_ |refine rE (by kernel_rfl) ?_);(refine pW rfl ?_ rfl (by rfl);refine Au rfl rfl rfl (by first|(simp;done)|(simp;(first|omega|simp only[oZ] at *;omega))) rfl (by intro r L;simp at L;subst L;rfl) (by rfl) (am rfl) (by simp;first|omega|simp only[oZ] at *;omega) ?_);(repeat first |refine sN rfl ?_ |((first|refine sX rfl ?_ ?_|refine s4 rfl ‹_› rfl ?_ ?_);first|exact tI|omega|simp only[oZ] at *;omega) |refine s2 rfl λ_ b=>?_ |refine s3 rfl ?_ ?_<;>rintro rfl |refine aU rfl ?_ |refine Aa ?_ |refine rE (by kernel_rfl) ?_);refine⟨⟨j+1,by first|omega|simp only[oZ] at *;omega⟩,by dsimp only;(first|omega|simp only[oZ] at *;omega),[0,1,3],?_⟩;simp[cX,zC,c,d9,U,o4]
    ·obtain rfl:j=low.length:=by first|omega|simp only[oZ] at *;omega
     rw [gt];refine aE ?_;(repeat first |refine sN rfl ?_ |((first|refine sM rfl ?_ ?_|refine s4 rfl ‹_› rfl ?_ ?_);first|exact tI|omega|simp only[oZ] at *;omega) |refine s2 rfl λ_ b=>?_ |refine s3 rfl ?_ ?_<;>rintro rfl |refine aU rfl ?_ |refine Aa ?_ |refine rE (by kernel_rfl) ?_);refine⟨⟨m+1,by first|omega|simp only[oZ] at *;omega⟩,by dsimp only;(first|omega|simp only[oZ] at *;omega),[0,1,2],?_⟩;simp[cX,zC,c,A]
   ·obtain rfl:m=to.length:=by first|omega|simp only[oZ] at *;omega
    rw [gt] at u;rw [u] at e;subst e;refine aE ?_;refine Aj.freeze [2] [(1,eI .i64 nd),(2,eI .i64 letter),(3,.o (.arr 0 1 0 outs.length)),(4,.o (.ip (GX l))),(10,eI .i64 W),(11,eI .i64 (((k+1:Nat):Int) - 1)),(12,.o (.ptr 1 3 0 0)),(14,Ak (Ey (zs.drop k) (cs.drop k)))] ⟨⟨_,rfl,.AR⟩,⟨_,rfl,.AR⟩,⟨_,rfl,.AR⟩,⟨_,rfl,.AR⟩,⟨_,rfl,.AR⟩,⟨_,rfl,.AR⟩,⟨_,rfl,.AR⟩,⟨_,rfl,.o (.full (by simp) rfl (by simp [d5]) (by simp))⟩,trivial⟩ ?_;(repeat first |refine sN rfl ?_ |((first|refine sM rfl ?_ ?_|refine s4 rfl ‹_› rfl ?_ ?_);first|exact tI|omega|simp only[oZ] at *;omega) |refine s2 rfl λ_ b=>?_ |refine s3 rfl ?_ ?_<;>rintro rfl |refine aU rfl ?_ |refine Aa ?_ |refine rE (by kernel_rfl) ?_);refine⟨⟨k,by first|omega|simp only[oZ] at *;omega⟩,by dsimp only;(first|omega|simp only[oZ] at *;omega),[0],?_⟩;simp[cX,zC,c,N,G,S,BY]
  ·have hb:AX s.al letter.toNat=false:=by rw [<-R];exact b
   have t:=hto0 hb;refine aK ?_;(repeat first |refine sN rfl ?_ |((first|refine sM rfl ?_ ?_|refine s4 rfl ‹_› rfl ?_ ?_);first|exact tI|omega|simp only[oZ] at *;omega) |refine s2 rfl λ_ b=>?_ |refine s3 rfl ?_ ?_<;>rintro rfl |refine aU rfl ?_ |refine Aa ?_ |refine rE (by kernel_rfl) ?_);(refine pW rfl ?_ rfl (by rfl);refine Hp 1 3 ?_);(repeat first |refine sN rfl ?_ |((first|refine sM rfl ?_ ?_|refine s4 rfl ‹_› rfl ?_ ?_);first|exact tI|omega|simp only[oZ] at *;omega) |refine s2 rfl λ_ b=>?_ |refine s3 rfl ?_ ?_<;>rintro rfl |refine aU rfl ?_ |refine Aa ?_ |refine rE (by kernel_rfl) ?_);refine aB ?_;refine Aj.A5 (α:={m:Nat // m<=to.length}) (λ⟨m,K⟩=>[(1,eI .i64 nd),(2,eI .i64 letter),(3,.o (.arr 0 1 0 outs.length)),(4,.o (.ip (GX l))),(9,Ak low),(10,eI .i64 W),(11,eI .i64 (((k+1:Nat):Int) - 1)),(12,.o (.ptr 1 3 0 0)),(14,.o (.arr 2 1 0 ((to.take m).flatMap λq=>low.map λr=>q*W+r).length)),(57,Ak to),(58,eI .i64 to.length),(59,eI .i64 m)]) (λ⟨m,K⟩=>[(0,.cells 3 1 (outs.map AD)),(1,.cells 25 3 [[.d (iD s.al),.d (iD s.st),.d (Ev s.es)]]),(2,.cells 3 1 (((to.take m).flatMap λq=>low.map λr=>q*W+r).map AD))]) 3 (λ⟨m,K⟩=>to.length - m) (⟨0,by omega⟩) [0,1,2] (Ee c rfl rfl) (by ((repeat' first|exact tI|rfl|refine And.intro ?_ ?_)<;>(simp[cX,zC,c,Ae,eC,t]))) ?_;rintro⟨m,K⟩;(try dsimp only);clear t
   have A:∀x,to[m]? = some x->(to.take (m+1)).flatMap (λq=>low.map λr=>q*W+r)=(to.take m).flatMap (λq=>low.map λr=>q*W+r)++low.map λr=>x*W+r:=λx p=>by
    rw [d9,p];simp
   have hlm:=Q m;generalize u:(to.take m).flatMap (λq=>low.map λr=>q*W+r)=pre at *;(repeat first |refine sN rfl ?_ |((first|refine sM rfl ?_ ?_|refine s4 rfl ‹_› rfl ?_ ?_);first|exact tI|omega|simp only[oZ] at *;omega) |refine s2 rfl λ_ b=>?_ |refine s3 rfl ?_ ?_<;>rintro rfl |refine aU rfl ?_ |refine Aa ?_ |refine rE (by kernel_rfl) ?_);(refine aC rfl ?_ ?_<;>rintro⟨⟩)
   ·obtain⟨x,p⟩:=get_some (l:=to) (k:=m) (by first|omega|simp only[oZ] at *;omega)
    have hx':=get_map (g:=Bs) p;have V:=v x (co p);have A:=A x p;refine aK ?_;refine aS (aB ?_);(repeat first |refine sN rfl ?_ |((first|refine sM rfl ?_ ?_|refine s4 rfl ‹_› rfl ?_ ?_);first|exact tI|omega|simp only[oZ] at *;omega) |refine s2 rfl λ_ b=>?_ |refine s3 rfl ?_ ?_<;>rintro rfl |refine aU rfl ?_ |refine Aa ?_ |refine rE (by kernel_rfl) ?_);refine aB ?_;refine Aj.A5 (α:={j:Nat // j<=low.length}) (λ⟨j,Y⟩=>[(1,eI .i64 nd),(2,eI .i64 letter),(3,.o (.arr 0 1 0 outs.length)),(4,.o (.ip (GX l))),(9,Ak low),(10,eI .i64 W),(11,eI .i64 (((k+1:Nat):Int) - 1)),(12,.o (.ptr 1 3 0 0)),(14,.o (.arr 2 1 0 (pre.length+j))),(57,Ak to),(58,eI .i64 to.length),(59,eI .i64 m),(16,eI .i64 x),(63,Ak low),(64,eI .i64 low.length),(65,eI .i64 j)]) (λ⟨j,Y⟩=>[(0,.cells 3 1 (outs.map AD)),(1,.cells 25 3 [[.d (iD s.al),.d (iD s.st),.d (Ev s.es)]]),(2,.cells 3 1 ((pre++(low.take j).map λr=>x*W+r).map AD))]) 3 (λ⟨j,Y⟩=>low.length - j) (⟨0,by omega⟩) [0,1,2] (Ee c rfl rfl) (by ((repeat' first|exact tI|rfl|refine And.intro ?_ ?_)<;>(simp[cX,zC,c]))) ?_;rintro⟨j,Y⟩;(try dsimp only);(repeat first |refine sN rfl ?_ |((first|refine sM rfl ?_ ?_|refine s4 rfl ‹_› rfl ?_ ?_);first|exact tI|omega|simp only[oZ] at *;omega) |refine s2 rfl λ_ b=>?_ |refine s3 rfl ?_ ?_<;>rintro rfl |refine aU rfl ?_ |refine Aa ?_ |refine rE (by kernel_rfl) ?_);(refine aC rfl ?_ ?_<;>rintro⟨⟩)
    ·obtain⟨y,U⟩:=get_some (l:=low) (k:=j) (by first|omega|simp only[oZ] at *;omega)
     have hy':=get_map (g:=Bs) U;have hyb:=hlk.1 y (co U)
     have h16:0<=x*W/\x*W<=65536:=⟨ph V.1 (by omega),by
      have h5:x*W<=16*4096:=pe (by omega) M.2 (by omega) (by omega)
      omega⟩
     refine aK ?_;refine aS (aB ?_);(repeat first |refine sN rfl ?_ |((first|refine sA rfl ?_ ?_|refine s4 rfl ‹_› rfl ?_ ?_);first|exact tI|omega|simp only[oZ] at *;omega) |refine s2 rfl λ_ b=>?_ |refine s3 rfl ?_ ?_<;>rintro rfl |refine aU rfl ?_ |refine Aa ?_ |refine rE (by kernel_rfl) ?_);(refine pW rfl ?_ rfl (by rfl);refine Au rfl rfl rfl (by first|(simp;done)|(simp;(first|omega|simp only[oZ] at *;omega))) rfl (by intro r L;simp at L;subst L;rfl) (by rfl) (am rfl) (by simp;first|omega|simp only[oZ] at *;omega) ?_);(repeat first |refine sN rfl ?_ |((first|refine sX rfl ?_ ?_|refine s4 rfl ‹_› rfl ?_ ?_);first|exact tI|omega|simp only[oZ] at *;omega) |refine s2 rfl λ_ b=>?_ |refine s3 rfl ?_ ?_<;>rintro rfl |refine aU rfl ?_ |refine Aa ?_ |refine rE (by kernel_rfl) ?_);refine⟨⟨j+1,by first|omega|simp only[oZ] at *;omega⟩,by dsimp only;(first|omega|simp only[oZ] at *;omega),[0,1,3],?_⟩;simp[cX,zC,c,d9,U,o4]
    ·obtain rfl:j=low.length:=by first|omega|simp only[oZ] at *;omega
     rw [gt];refine aE ?_;(repeat first |refine sN rfl ?_ |((first|refine sM rfl ?_ ?_|refine s4 rfl ‹_› rfl ?_ ?_);first|exact tI|omega|simp only[oZ] at *;omega) |refine s2 rfl λ_ b=>?_ |refine s3 rfl ?_ ?_<;>rintro rfl |refine aU rfl ?_ |refine Aa ?_ |refine rE (by kernel_rfl) ?_);refine⟨⟨m+1,by first|omega|simp only[oZ] at *;omega⟩,by dsimp only;(first|omega|simp only[oZ] at *;omega),[0,1,2],?_⟩;simp[cX,zC,c,A]
   ·obtain rfl:m=to.length:=by first|omega|simp only[oZ] at *;omega
    rw [gt] at u;rw [u] at e;subst e;refine aE ?_;refine Aj.freeze [2] [(1,eI .i64 nd),(2,eI .i64 letter),(3,.o (.arr 0 1 0 outs.length)),(4,.o (.ip (GX l))),(10,eI .i64 W),(11,eI .i64 (((k+1:Nat):Int) - 1)),(12,.o (.ptr 1 3 0 0)),(14,Ak (Ey (zs.drop k) (cs.drop k)))] ⟨⟨_,rfl,.AR⟩,⟨_,rfl,.AR⟩,⟨_,rfl,.AR⟩,⟨_,rfl,.AR⟩,⟨_,rfl,.AR⟩,⟨_,rfl,.AR⟩,⟨_,rfl,.AR⟩,⟨_,rfl,.o (.full (by simp) rfl (by simp [d5]) (by simp))⟩,trivial⟩ ?_;(repeat first |refine sN rfl ?_ |((first|refine sM rfl ?_ ?_|refine s4 rfl ‹_› rfl ?_ ?_);first|exact tI|omega|simp only[oZ] at *;omega) |refine s2 rfl λ_ b=>?_ |refine s3 rfl ?_ ?_<;>rintro rfl |refine aU rfl ?_ |refine Aa ?_ |refine rE (by kernel_rfl) ?_);refine⟨⟨k,by first|omega|simp only[oZ] at *;omega⟩,by dsimp only;(first|omega|simp only[oZ] at *;omega),[0],?_⟩;simp[cX,zC,c,N,G,S,BY]
 ·obtain rfl:k=0:=by first|omega|simp only[oZ] at *;omega
  rw [pu,pu];have hl0:=(H 0).2;have hp0:=w 0;rw [pu,pu] at hl0;rw [pu] at hp0;refine aE ?_;(repeat first |refine sN rfl ?_ |((first|refine sM rfl ?_ ?_|refine s4 rfl ‹_› rfl ?_ ?_);first|exact tI|omega|simp only[oZ] at *;omega) |refine s2 rfl λ_ b=>?_ |refine s3 rfl ?_ ?_<;>rintro rfl |refine aU rfl ?_ |refine Aa ?_ |refine rE (by kernel_rfl) ?_);(refine pW rfl ?_ rfl (by rfl);refine Au rfl rfl rfl (by first|(simp;done)|(simp;(first|omega|simp only[oZ] at *;omega))) rfl (by intro r L;simp at L;obtain⟨a,_,rfl⟩:=L;rfl) (by rfl) (am rfl) (by simp;first|omega|simp only[oZ] at *;omega) ?_);(repeat first |refine sN rfl ?_ |((first|refine sX rfl ?_ ?_|refine s4 rfl ‹_› rfl ?_ ?_);first|exact tI|omega|simp only[oZ] at *;omega) |refine s2 rfl λ_ b=>?_ |refine s3 rfl ?_ ?_<;>rintro rfl |refine aU rfl ?_ |refine Aa ?_ |refine rE (by kernel_rfl) ?_);refine Aj.names [0,1] [(8,.o (.arr 1 1 0 (outs++Ey zs cs).length))] [(1,.cells 3 1 ((outs++Ey zs cs).map AD))] (by intro i hi;rw [c] at hi;obtain rfl:i=0:=(by omega);rfl) (by simp) (by simp[cX,zC,c]) (by simp[cX,zC,c]) ?_;refine aR ⟨_,rfl,rfl,rfl,rfl⟩
end Go.Am
namespace Go.Am
open Go
structure Ov where
 p:Int
 l:Int
 ns:List Int
structure iS where
 seen:List Bool
 fresh:List Int
 found:Bool
def sn(seen:List Bool)(n:Int):Bool:=seen.getD n.toNat false
def VX(goal:Int->Bool)(st:iS)(n:Int):iS:=if sn st.seen n then st else ⟨st.seen.set n.toNat true,st.fresh++[n],st.found || goal n⟩
def TZ(goal:Int->Bool)(seen:List Bool)(nodes:List Int):iS:=nodes.foldl (VX goal) ⟨seen,[],false⟩
theorem j9{seen:List Bool}{n m:Int}(a:0<=n/\n.toNat < seen.length)(b:0<=m):sn (seen.set n.toNat true) m=(sn seen m || decide (m=n)):=by
 unfold sn;by_cases h:m=n
 ·subst h;simp [List.getD,a.2]
 ·have:n.toNat≠m.toNat:=by omega
  simp [List.getD,pk this,h]
theorem count_set{seen:List Bool}{k:Nat}(h:seen[k]? = some false):(seen.set k true).count true=seen.count true+1:=by
 induction seen generalizing k with
 | nil=>simp at h
 | cons a l b=>
  cases k with
  | zero=>simp at h;subst h;simp
  | succ k=>
   have:=b (k:=k) (by simpa using h);simp only [List.set_cons_succ,List.count_cons,this];omega
structure kr (goal:Int->Bool) (N:Nat) (seen:List Bool) (nodes:List Int) (st:iS):Prop where
 len:st.seen.length=N
 snI:∀n:Int,0<=n->(sn st.seen n=true↔sn seen n=true\/n∈nodes)
 fr:∀n:Int,n∈st.fresh↔n∈nodes/\sn seen n=false
 nd:st.fresh.Nodup
 fd:st.found=st.fresh.any goal
 cnt:st.seen.count true=seen.count true+st.fresh.length
theorem XR{goal:Int->Bool}{N:Nat}{seen:List Bool}{nodes:List Int}(r:seen.length=N)(j:∀n∈nodes,0<=n/\n < N):kr goal N seen nodes (TZ goal seen nodes):=by
 have key : ∀ (l done:List Int) (st:iS),(∀n∈l,0<=n/\n < N)->(∀n∈done,0<=n)->kr goal N seen done st->kr goal N seen (done++l) (l.foldl (VX goal) st):=by
  intro l
  induction l with
  | nil=>intro done st _ _ h;simpa using h
  | cons a l p=>
   intro done st o s h;have ha:=o a (by simp);rw [pI,show done++a::l=(done++[a])++l by simp];refine p (done++[a]) _ (λn j=>o n (by simp [j])) (λn j=>by rcases em.1 j with f|f;exact s n f;simp at f;omega) ?_;have m:=h.len
   have g:∀n:Int,n∈done++[a]↔n∈done\/n=a:=λn=>by simp
   unfold VX;by_cases b:sn st.seen a=true
   ·rw [if_pos b]
    have f:=(h.snI a ha.1).1 b;refine⟨h.len,λn i=>?_,λn=>?_,h.nd,h.fd,h.cnt⟩
    ·rw [h.snI n i,g]
     constructor
     ·rintro(c|c);exact .inl c;exact .inr (.inl c)
     ·rintro(c|c|rfl);exact .inl c;exact .inr c;exact f
    ·rw [h.fr n,g]
     constructor
     ·rintro⟨c,d⟩;exact⟨.inl c,d⟩
     ·rintro⟨c|rfl,d⟩
      ·exact⟨c,d⟩
      ·rcases f with f|f
       ·rw [f] at d;cases d
       ·exact⟨f,d⟩
   ·rw [if_neg b]
    have f:sn seen a=false/\a∉done:=by
     have c:¬(sn seen a=true\/a∈done):=λd=>b ((h.snI a ha.1).2 d);exact⟨by simpa using λd=>c (.inl d),λd=>c (.inr d)⟩
    have hk:st.seen[a.toNat]? = some false:=by
     unfold sn at b
     have:a.toNat < st.seen.length:=by omega
     simp [List.getD,this] at b;rw [d6 this,b]
    refine⟨by simpa using h.len,λn i=>?_,λn=>?_,?_,?_,?_⟩
    ·rw [j9 ⟨ha.1,by omega⟩ i,g,oN,h.snI n i];simp;grind
    ·simp only [em,r6,h.fr n]
     grind
    ·refine qj.2 ⟨h.nd,by simp,λx q y k=>?_⟩
     simp at k;subst k;intro e;subst e;exact f.2 ((h.fr x).1 q).1
    ·simp [sB,h.fd]
    ·rw [count_set hk,h.cnt];simp;omega
 have:=key nodes [] ⟨seen,[],false⟩ j (by simp) ⟨r,λn _=>by simp,λn=>by simp,.nil,rfl,by simp⟩
 simpa [TZ] using this
theorem RQ:∀ {a b c:List Int},Wi a b->Wi b c->Wi a c
 | [],_,_,h,_=>h.elim
 | _::_,[],_,h,_=>h.elim
 | _::_,_::_,[],_,h=>h.elim
 | x::a,y::b,z::c,h,k=>by
  simp only [Wi] at *
  rcases h with h|⟨h,d⟩<;>rcases k with k|⟨k,k'⟩
  ·exact .inl (by omega)
  ·exact .inl (by omega)
  ·exact .inl (by omega)
  ·exact .inr ⟨by omega,RQ d k'⟩
theorem Th:∀ {a:List Int},¬Wi a a
 | [],h=>h
 | x::a,h=>by rcases h with h|⟨_,h⟩;omega;exact Th h
theorem Gy{a b c:List Int}(h:slt a b)(k:slt b c):slt a c:=by
 unfold slt at *
 rcases h with h|⟨h,d⟩<;>rcases k with k|⟨k,k'⟩
 ·exact .inl (by omega)
 ·exact .inl (by omega)
 ·exact .inl (by omega)
 ·exact .inr ⟨by omega,RQ d k'⟩
theorem Ml{a:List Int}:¬slt a a:=by
 rintro(h|⟨_,h⟩);omega;exact Th h
theorem VJ(a b:List Int):slt a b\/a=b\/slt b a:=by
 rcases rH a.length b.length with h|h|h
 ·exact .inl (.inl h)
 ·rcases Ti h with c|c|c
  ·exact .inl (.inr ⟨h,c⟩)
  ·exact .inr (.inl c)
  ·exact .inr (.inr (.inr ⟨h.symm,c⟩))
 ·exact .inr (.inr (.inl h))
theorem Zn{a b:List Int}{l m:Int}(h:slt a b):slt (a++[l]) (b++[m]):=by
 rcases h with h|⟨h,c⟩
 ·exact .inl (by simp;omega)
 ·exact .inr ⟨by simp;omega,(Jo h).2 (.inl c)⟩
theorem eM{a:List Int}{l m:Int}(h:l < m):slt (a++[l]) (a++[m]):=.inr ⟨by simp,(Jo rfl).2 (.inr ⟨rfl,h⟩)⟩
theorem eP{a b:List Int}{l m:Int}:slt (a++[l]) (b++[m])->slt a b\/a=b/\l < m:=by
 intro h
 rcases VJ a b with c|c|c
 ·exact .inl c
 ·subst c
  rcases h with h|⟨h,e⟩
  ·simp at h
  ·rcases(Jo rfl).1 e with d|d
   ·exact absurd d Th
   ·exact .inr d
 ·exact absurd (Gy h (Zn c)) Ml
theorem eO{a:List Int}{l:Int}:slt a (a++[l]):=.inl (by simp)
structure FI (g:Gr) (seen:List Bool) (steps:List Ov) (ws:List (List Int)) (i j:Nat):Prop where
 slen:seen.length=g.N
 wlen:ws.length=steps.length
 chain:∀(t:Nat) s,steps[t]? = some s->(s.p = -1/\ws[t]? = some [])\/∃(q:Nat) (w:List Int),s.p=(q:Int)/\q < t/\ws[q]? = some w/\ws[t]? = some (w++[s.l])/\s.l∈g.ls
 rch:∀(t:Nat) s w,steps[t]? = some s->ws[t]? = some w->∀n∈s.ns,reach g w g.s0 n
 ov:∀w∈ws,over g w
 min:∀(t:Nat) s w,steps[t]? = some s->ws[t]? = some w->∀n∈s.ns,∀u,over g u->slt u w->¬reach g u g.s0 n
 ord:ws.Pairwise slt
 par:∀w∈ws,w=[]\/∃(p:Nat) (v:List Int) (l:Int),ws[p]? = some v/\w=v++[l]/\l∈g.ls/\(p < i\/p=i/\∃j',j' < j/\g.ls[j']? = some l)
 snI:∀n:Int,0<=n->(sn seen n=true↔∃s∈steps,n∈s.ns)
 done:∀(t:Nat) s,steps[t]? = some s->∀l,(t < i/\l∈g.ls\/t=i/\∃j',j' < j/\g.ls[j']? = some l)->∀n∈s.ns,∀y∈g.succ n l,sn seen y=true
 nogoal:∀s∈steps,∀n∈s.ns,g.goal n=false
 inn:∀s∈steps,∀n∈s.ns,0<=n/\n < g.N
 start:sn seen g.s0=true
 cnt:steps.length<=seen.count true
 le:i<=steps.length
 nd:∀s∈steps,s.ns.Nodup
theorem FI.lr{g:Gr}{seen:List Bool}{steps:List Ov}{ws:List (List Int)}{i j:Nat}(h:FI g seen steps ws i j):steps.length<=g.N:=by
 have b:=h.cnt;have a:seen.count true<=seen.length:=List.count_le_length;rw [h.slen] at a;omega
theorem FI.ix{g:Gr}(I:I6 g){seen:List Bool}{steps:List Ov}{ws:List (List Int)}{i j:Nat}(h:FI g seen steps ws i j){wi:List Int}{lj:Int}(J:ws[i]? = some wi)(Q:g.ls[j]? = some lj) :
 ∀(n:Nat) (u:List Int),u.length=n->over g u->slt u (wi++[lj])->∀x,reach g u g.s0 x->sn seen x=true:=by
 intro n
 induction n with
 | zero=>
  intro u B _ _ x p;have:u=[]:=ms.1 B;subst this;have p:g.s0=x:=p;rw [<-p];exact h.start
 | succ n L=>
  intro u B P w x p
  have q:u≠[]:=λe=>by subst e;simp at B
  obtain⟨v,l,rfl⟩:∃v l,u=v++[l]:=⟨u.dropLast,u.getLast q,(q7 q).symm⟩
  obtain⟨m,H,F⟩:=Ez.1 p;obtain⟨k,K⟩:=Gw.1 P;have G:=L v (by simpa using B) k (Gy eO w) m H;have r:=DL I k I.s0 H;obtain⟨s,N,c⟩:=(h.snI m r.1).1 G;obtain⟨t,ht⟩:=qC N;obtain⟨wt,a⟩:∃wt,ws[t]? = some wt:=get_some (by have:=(ce.1 ht).1;rw [h.wlen];exact this);have y:¬slt v wt:=λd=>h.min t s wt ht a m c v k d H;have f:=eP w
  have M:t<=i:=by
   rcases oY i t with d|d
   ·exfalso
    obtain⟨V,U⟩:=ce.1 J;obtain⟨T,S⟩:=ce.1 a;have A:=(oM.1 h.ord) i t V T d;rw [U,S] at A
    rcases VJ v wt with o|o|o
    ·exact y o
    ·subst o
     rcases f with b|⟨b,_⟩
     ·exact Ml (Gy A b)
     ·subst b;exact Ml A
    ·rcases f with b|⟨b,_⟩
     ·exact Ml (Gy (Gy A o) b)
     ·subst b;exact Ml (Gy A o)
   ·exact d
  refine h.done t s ht l ?_ m c x F
  rcases oY t i with d|d
  ·exact .inl ⟨d,K⟩
  ·have:t=i:=by omega
   subst this;rw [J] at a
   injection a with a
   subst a
   rcases f with b|⟨b,R⟩
   ·exact absurd b y
   ·obtain⟨j',z⟩:=qC K
    exact .inr ⟨rfl,j',cP I.srt z Q R,z⟩
theorem CE.found{g:Gr}(l:I6 g){seen:List Bool}{steps:List Ov}{ws:List (List Int)}{i j:Nat}(h:FI g seen steps ws i j){wi:List Int}{lj:Int}(d:ws[i]? = some wi)(p:g.ls[j]? = some lj){n x:Int}{s:Ov}(r:steps[i]? = some s)(t:n∈s.ns)(q:x∈g.succ n lj)(k:g.goal x=true):CE g (some (wi++[lj])):=by
 have v:=co p;refine⟨Gw.2 ⟨h.ov wi (co d),v⟩,⟨x,Ez.2 ⟨n,h.rch i s wi r d n t,q⟩,k⟩,λu o w f=>?_⟩;obtain⟨y,m,a⟩:=w;have b:=h.ix l d p u.length u rfl o f y m;obtain⟨s',e,c⟩:=(h.snI y (DL l o l.s0 m).1).1 b;rw [h.nogoal s' e y c] at a;cases a
theorem CE.og{g:Gr}(k:I6 g){seen:List Bool}{steps:List Ov}{ws:List (List Int)}(h:FI g seen steps ws steps.length 0):CE g none:=by
 have key:∀(n:Nat) (u:List Int),u.length=n->over g u->∀x,reach g u g.s0 x->sn seen x=true:=by
  intro n
  induction n with
  | zero=>
   intro u b _ x a;have:u=[]:=ms.1 b;subst this;have a:g.s0=x:=a;rw [<-a];exact h.start
  | succ n y=>
   intro u b z x a
   have d:u≠[]:=λe=>by subst e;simp at b
   obtain⟨v,l,rfl⟩:∃v l,u=v++[l]:=⟨u.dropLast,u.getLast d,(q7 d).symm⟩
   obtain⟨m,w,p⟩:=Ez.1 a;obtain⟨f,A⟩:=Gw.1 z;have r:=y v (by simpa using b) f m w;obtain⟨s,q,i⟩:=(h.snI m (DL k f k.s0 w).1).1 r;obtain⟨t,ht⟩:=qC q;exact h.done t s ht l (.inl ⟨(ce.1 ht).1,A⟩) m i x p
 rintro u b ⟨x,a,j⟩;have o:=key u.length u rfl b x a;obtain⟨s,q,c⟩:=(h.snI x (DL k b k.s0 a).1).1 o;rw [h.nogoal s q x c] at j;cases j
theorem FI.lD{g:Gr}{seen:List Bool}{steps:List Ov}{ws:List (List Int)}{i:Nat}(h:FI g seen steps ws i g.ls.length)(hi:i < steps.length):FI g seen steps ws (i+1) 0:=by
 refine⟨h.slen,h.wlen,h.chain,h.rch,h.ov,h.min,h.ord,λw f=>?_,h.snI,λt s j l k=>?_,h.nogoal,h.inn,h.start,h.cnt,by omega,h.nd⟩
 ·rcases h.par w f with b|⟨p,v,l,b,d,c,e⟩
  ·exact .inl b
  ·exact .inr ⟨p,v,l,b,d,c,.inl (by rcases e with e|⟨e,_⟩<;>omega)⟩
 ·refine h.done t s j l ?_
  rcases k with ⟨b,d⟩|⟨_,j',b,_⟩
  ·rcases oY t i with c|c
   ·exact .inl ⟨c,d⟩
   ·obtain⟨j',a⟩:=qC d
    exact .inr ⟨by omega,j',(ce.1 a).1,a⟩
  ·omega
end Go.Am
