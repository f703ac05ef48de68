/-
  The table of an automaton.
-/
import Derived.Test.YtohfiindiidcfaaGreatDoorPart19
import Derived.Test.YtohfiindiidcfaaGreatDoorPart13
set_option linter.all false
namespace Go.Am
open Go Go.Proofs
set_option maxHeartbeats 1000000
set_option maxRecDepth 4000
attribute [local irreducible] A6 Cz Lex Bv Aj Spec
variable {TB:BF}
def PL(h:Nat->Int):List C:=(List.range 6).map λl=>.d (iD (h l))
def Xn(h:Nat->Int):List D:=(List.range 6).map λl=>iD (h l)
theorem dV(h:Nat->Int):PL h=(Xn h).map .d:=by simp [PL,Xn]
def BK{α:Type}(n:Nat)(g:Nat->α):List α:=(List.range n).map g
theorem DS{α:Type}{n q:Nat}{g:Nat->α}(h:q < n):(BK n g)[q]? = some (g q):=by simp [BK,h]
theorem Ni{α:Type}{n q:Nat}{g:Nat->α}{x:α}:(BK n g).set q x=BK n λi=>if i=q then x else g i:=by
 apply px;intro i;by_cases hi:i < n
 ·rw [DS hi]
  by_cases a:q=i
  ·subst a;rw [oW (by simp [BK,hi])];simp
  ·rw [oX a,DS hi,if_neg (Ne.symm a)]
 ·rw [oa (by simp [BK];omega),oa (by simp [BK];omega)]
theorem Da{α:Type}{n:Nat}{g g':Nat->α}(h:∀i,i < n->g i=g' i):BK n g=BK n g':=by
 unfold BK;exact pV λi hi=>h i (oc.1 hi)
theorem dW{h:Nat->Int}{l:Nat}{v:Int}(b:l < 6):Ae (PL h) (0+l*1) (eC (eI .i64 v))=PL λx=>if x=l then v else h x:=by
 have e:eC (eI .i64 v)=[C.d (iD v)]:=rfl;rw [e,ID (by simp [PL];omega)];have:=Ni (n:=6) (q:=l) (g:=λl=>C.d (iD (h l))) (x:=C.d (iD v))
 have a:0+l*1=l:=by omega
 rw [a];refine Eq.trans this (Da λi _=>?_);by_cases e:i=l<;>simp [e]
theorem KJ{h a:Nat->Int}(b:∀l,l < 6->h l=a l):PL h=PL a:=Da λi hi=>by rw [b i hi]
theorem Kf(s:Int):∀(n k:Nat),k<=n->AN s k <+: AN s n
  | 0, k, h => by have:k=0:=by omega
                  subst this;exact q8 _
  | n + 1,k,h=>by
    rcases oK k (n+1) with a|a
    · rw [C5]
      exact(Kf s n k (by omega)).trans (rC _ _)
    · have:k=n+1:=by omega
      subst this;exact q8 _
theorem Kg{s:Int}{k n:Nat}{l:Int}(h:(AN s n)[k]? = some l):(AN s l.toNat).length=k:=by
 have g:=Au (co h)
 have c:(AN s (l.toNat+1))[(AN s l.toNat).length]? = some l:=by
  rw [C5,if_pos g.2.2,f9 (i8 _)];simp;omega
 have f:(AN s n)[(AN s l.toNat).length]? = some l:=by
  obtain⟨t,ht⟩:=Kf s n (l.toNat+1) (by omega);rw [<-ht,f6 (ce.1 c).1];exact c
 have b:=ET s n;rw [oe] at b;obtain⟨e,j⟩:=ce.1 h;obtain⟨d,i⟩:=ce.1 f
 rcases qX (AN s l.toNat).length k with a|a|a
 ·have:=b _ _ d e a;omega
 ·exact a
 ·have:=b _ _ e d a;omega
theorem Eg{s:Int}{n l:Nat}:(l:Int)∈AN s n↔l < n/\AY s l=true:=by
 unfold AN;simp only [d9,oh,oc];constructor
 ·rintro⟨a,ha,e⟩
  have:a=l:=by have e:((a:Nat):Int)=l:=e;omega
  subst this;exact ha
 ·intro h;exact⟨l,h,rfl⟩
def Qm(n:Nat)(H:Nat->Nat->Int):List (List C):=BK n λi=>PL (H i)
theorem JO(r:Nat->Nat)(n:Nat)(H:Nat->Nat->Int):(Qm n H).map (C.Cy r)=Qm n H:=by
 unfold Qm BK;rw [o9]
 exact pV λi _=>by simp only [d5,dV,Tr]
theorem eH(n:Nat):Qm n (λ_ _=>0)=List.replicate n [C.d (D.v (Value.int IntKind.i64 0)),C.d (D.v (Value.int IntKind.i64 0)),C.d (D.v (Value.int IntKind.i64 0)),C.d (D.v (Value.int IntKind.i64 0)),C.d (D.v (Value.int IntKind.i64 0)),C.d (D.v (Value.int IntKind.i64 0))]:=by
 unfold Qm BK;rw [List.map_const'];simp;exact .inr rfl
theorem Zo{n q:Nat}{H:Nat->Nat->Int}(h:q < n):(Qm n H)[0+((q:Nat):Int).toNat]? = some (PL (H q)):=by
 rw [n7,io];exact DS (g:=λi=>PL (H i)) h
theorem Zp{n q l:Nat}{v:Int}{H:Nat->Nat->Int}(a:l < 6):(Qm n H).set (0+((q:Nat):Int).toNat) (Ae (PL (H q)) (0+((l:Nat):Int).toNat*1) (eC (eI .i64 v)))=Qm n λi x=>if i=q/\x=l then v else H i x:=by
 rw [n7,io,io,dW a];unfold Qm;rw [Ni];refine Da λi _=>?_;by_cases e:i=q
 ·subst e;rw [if_pos rfl];exact KJ λl _=>by simp
 ·rw [if_neg e];exact KJ λl _=>by simp [e]
theorem Ib{n:Nat}{H H':Nat->Nat->Int}(h:∀i,i < n->∀l,l < 6->H i l=H' i l):Qm n H=Qm n H':=Da λi hi=>KJ λl a=>h i hi l a
theorem gR(n:Nat)(H:Nat->Nat->Int):(Qm n H).length=n:=by simp [Qm,BK]
def Hb(a:AX):List (List D):=BK a.nx.length λq=>Xn λl=>CC a q l
theorem lQ(a:AX):Qm a.nx.length (λi l=>CC a i l)=(Hb a).map λr=>r.map .d:=by
 unfold Qm Hb BK;rw [o9]
 exact pV λi _=>by simp only [d5,dV]
def iv(a:AX):Prop:=a.nx.length<=64/\∀q,q < a.nx.length->∃row:List Int,a.nx[q]? = some row/\row.length=(Ac a.al).length/\∀(k:Nat) y,row[k]? = some y->0<=y/\y < a.nx.length
theorem fp{a:AX}(h:AJ a=true):iv a:=⟨by have:=AG h;omega,λq b=>HH h b⟩
theorem VF(a:AX)(h:iv a):Pure Tryz.prog TB 93 [Bc a] (.o (.d (.l (Hb a)))):=by
 have R:=h.1;have N:(Ac a.al).length<=6:=AM a.al 6;refine eN Tryz.func93 rfl (by kernel_rfl) rfl ?_;intro Γ b;(repeat first|refine aU rfl ?_);(refine Af rfl ?_;refine CE (λ_ _=>C7 rfl rfl rfl) rfl ?_);(refine Af rfl ?_;refine CE (λ_ _=>CJ rfl) rfl ?_);(repeat first|refine sN rfl ?_ |refine tM rfl ?_ |refine aU rfl ?_ |apply Aa);(refine pW rfl ?_ rfl (by rfl);refine KG rfl rfl (by rfl) (by rfl) (am rfl) (by omega) (by omega) (by omega) ?_);(repeat first|refine sN rfl ?_ |refine tM rfl ?_ |refine sP rfl (CW a.al) rfl ?_ |refine aU rfl ?_ |apply Aa);apply aB;refine Aj.A4 (α:={q:Nat // q<=a.nx.length}) (λ⟨q,w⟩=>[(1,.o (.ip (AT a))),(3,.o (.arr 0 6 0 a.nx.length)),(4,Ak (Ac a.al)),(18,Gg a.nx),(19,eI .i64 a.nx.length),(20,eI .i64 q)]) (λ⟨q,w⟩=>[(0,.cells 127 6 (Qm a.nx.length λi l=>if i < q then CC a i l else 0))]) 1 (λ⟨q,w⟩=>a.nx.length - q) (⟨0,by omega⟩) [0] (Ed b rfl rfl) (by (simp[cX,zC,b,JO,eH])) ?_;rintro⟨q,w⟩;(try dsimp only);(repeat first|refine s2 rfl λ_ u=>?_ |refine aU rfl ?_ |apply Aa);(refine aC rfl ?_ ?_<;>rintro⟨⟩)
 ·have j : q < a.nx.length:=by (simp only[oZ] at *;omega)
  obtain⟨row,I,L,K⟩:=h.2 q j;have M:=get_map (g:=ES) I;apply aK;refine aS (aB ?_);(repeat first|refine tM rfl ?_ |(refine s4 rfl ‹_› rfl ?_ ?_;omega) |refine aU rfl ?_ |apply Aa);apply aB;refine Aj.A4 (α:={m:Nat // m<=6}) (λ⟨m,A⟩=>[(1,.o (.ip (AT a))),(3,.o (.arr 0 6 0 a.nx.length)),(4,Ak (Ac a.al)),(18,Gg a.nx),(19,eI .i64 a.nx.length),(20,eI .i64 q),(5,eI .i64 q),(6,Ak row),(25,eI .i64 m)]) (λ⟨m,A⟩=>[(0,.cells 127 6 (Qm a.nx.length λi l=>if i < q then CC a i l else if i=q/\l < m then q else 0))]) 1 (λ⟨m,A⟩=>6 - m) (⟨0,by omega⟩) [0] (Ed b rfl rfl) (by (simp[cX,zC,b,JO])) ?_;rintro⟨m,A⟩;(try dsimp only);(repeat first|refine s2 rfl λ_ u=>?_ |refine aU rfl ?_ |apply Aa);(refine aC rfl ?_ ?_<;>rintro⟨⟩)
  ·have r:m < 6:=by (simp only[oZ] at *;omega)
   have p:0+((m:Nat):Int).toNat*1+1<=6:=by omega
   have hg:=Zo (H:=λi l=>if i < q then CC a i l else if i=q/\l < m then q else 0) j;have hs:=Zp (n:=a.nx.length) (q:=q) (v:=q) (H:=λi l=>if i < q then CC a i l else if i=q/\l < m then q else 0) r
   have t:(Qm a.nx.length λ(i x:Nat)=>if i=q/\x=m then (q:Int) else (λ(i l:Nat)=>if i < q then CC a i l else if i=q/\l < m then (q:Int) else 0) i x)=Qm a.nx.length λi l=>if i < q then CC a i l else if i=q/\l < m+1 then (q:Int) else 0:=Ib λi _ l _=>by dsimp only;grind
   apply aK;refine aS (aB ?_);(repeat first|(refine sM rfl ?_ ?_;first|exact tI|omega) |refine aU rfl ?_ |apply Aa);(refine Af rfl ?_;refine HV ?_ rfl (by rfl);refine Eo rfl rfl rfl rfl (hg) rfl (p) ?_);(repeat first|(refine sM rfl ?_ ?_;first|exact tI|omega) |refine aU rfl ?_ |apply Aa);refine⟨⟨m+1,by omega⟩,by dsimp only;(omega),[0],?_⟩;rw [hs,t];simp[cX,zC,b,JO]
  ·obtain rfl:m=6:=by (simp only[oZ] at *;omega)
   have s:=Ib (n:=a.nx.length) (H:=λi l=>if i < q then CC a i l else if i=q/\l < 6 then (q:Int) else 0) (H':=λi l=>if i < q then CC a i l else if i=q then (if (l:Int)∈(Ac a.al).take 0 then CC a q l else (q:Int)) else 0) λi _ l f=>by simp [f]
   rw [s];apply aE;(repeat first|refine sN rfl ?_ |refine tM rfl ?_ |refine aU rfl ?_ |apply Aa);apply aB;refine Aj.A4 (α:={k:Nat // k<=(Ac a.al).length}) (λ⟨k,hk⟩=>[(1,.o (.ip (AT a))),(3,.o (.arr 0 6 0 a.nx.length)),(4,Ak (Ac a.al)),(18,Gg a.nx),(19,eI .i64 a.nx.length),(20,eI .i64 q),(5,eI .i64 q),(6,Ak row),(35,Ak (Ac a.al)),(36,eI .i64 (Ac a.al).length),(37,eI .i64 k)]) (λ⟨k,hk⟩=>[(0,.cells 127 6 (Qm a.nx.length λi l=>if i < q then CC a i l else if i=q then (if (l:Int)∈(Ac a.al).take k then CC a q l else (q:Int)) else 0))]) 1 (λ⟨k,hk⟩=>(Ac a.al).length - k) (⟨0,by omega⟩) [0] (Ed b rfl rfl) (by (simp[cX,zC,b,JO])) ?_;rintro⟨k,hk⟩;(try dsimp only);(repeat first|refine s2 rfl λ_ u=>?_ |refine aU rfl ?_ |apply Aa);(refine aC rfl ?_ ?_<;>rintro⟨⟩)
   ·obtain⟨l,f⟩:=get_some (l:=Ac a.al) (k:=k) (by (simp only[oZ] at *;omega))
    have P:=get_map (g:=Br) f;have B:=Au (co f);have z:=Kg f;obtain⟨y,G⟩:=get_some (l:=row) (k:=k) (by (simp only[oZ] at *;omega));have J:=get_map (g:=Br) G
    obtain⟨m,rfl⟩:∃m:Nat,l=m:=⟨l.toNat,by omega⟩
    have F:CC a q m=y:=by
     unfold CC;rw [if_pos B.2.2,z];simp [List.getD,I,G]
    have r:m < 6:=by omega
    have p:0+((m:Nat):Int).toNat*1+1<=6:=by omega
    have hg:=Zo (H:=λi l=>if i < q then CC a i l else if i=q then (if (l:Int)∈(Ac a.al).take k then CC a q l else (q:Int)) else 0) j;have hs:=Zp (n:=a.nx.length) (q:=q) (v:=y) (H:=λi l=>if i < q then CC a i l else if i=q then (if (l:Int)∈(Ac a.al).take k then CC a q l else (q:Int)) else 0) r
    have t:(Qm a.nx.length λ(i x:Nat)=>if i=q/\x=m then y else (λ(i l:Nat)=>if i < q then CC a i l else if i=q then (if (l:Int)∈(Ac a.al).take k then CC a q l else (q:Int)) else 0) i x)=Qm a.nx.length λi l=>if i < q then CC a i l else if i=q then (if (l:Int)∈(Ac a.al).take (k+1) then CC a q l else (q:Int)) else 0:=Ib λi _ l _=>by
     try dsimp only
     rw [d8,f];by_cases e:i=q
     ·subst e
      by_cases c:l=m
      ·subst c;simp [F]
      ·have Q:¬(l:Int)=(m:Int):=by omega
       simp [c,Q]
     ·simp [e]
    apply aK;refine aS (aB ?_);(repeat first|refine tM rfl ?_ |(refine s4 rfl ‹_› rfl ?_ ?_;omega) |refine aU rfl ?_ |apply Aa);refine rG (He [9]) (by kernel_rfl) ?_;(repeat first|(refine sM rfl ?_ ?_;first|exact tI|omega) |(refine s4 rfl ‹_› rfl ?_ ?_;omega));(refine Af rfl ?_;refine HV ?_ rfl (by rfl);refine Eo rfl rfl rfl rfl (hg) rfl (p) ?_);(repeat first|(refine sM rfl ?_ ?_;first|exact tI|omega) |refine aU rfl ?_ |apply Aa);refine⟨⟨k+1,by (simp only[oZ] at *;omega)⟩,by dsimp only;((simp only[oZ] at *;omega)),[0],?_⟩;rw [hs,t];simp[cX,zC,b,JO]
   ·obtain rfl:k=(Ac a.al).length:=by (simp only[oZ] at *;omega)
    have s:=Ib (n:=a.nx.length) (H:=λi l=>if i < q then CC a i l else if i=q then (if (l:Int)∈(Ac a.al).take (Ac a.al).length then CC a q l else (q:Int)) else 0) (H':=λi l=>if i < q+1 then CC a i l else 0) λi _ l f=>by
     try dsimp only
     rw [ge];by_cases e:i=q
     ·subst e
      simp only [Nat.lt_irrefl,if_false,if_true,qk];by_cases c:AY a.al l=true
      ·rw [if_pos (Eg.2 ⟨f,c⟩)]
      ·rw [if_neg (λh=>c (Eg.1 h).2)];unfold CC;rw [if_neg (by simpa using c)]
     ·by_cases c:i < q
      ·rw [if_pos c,if_pos (by omega)]
      ·rw [if_neg c,if_neg e,if_neg (by omega)]
    rw [s];apply aE;(repeat first|(refine sM rfl ?_ ?_;first|exact tI|omega) |refine aU rfl ?_ |apply Aa);refine⟨⟨q+1,by omega⟩,by dsimp only;(omega),[0],?_⟩;simp[cX,zC,b,JO]
 ·obtain rfl:q=a.nx.length:=by (simp only[oZ] at *;omega)
  have t:=Ib (n:=a.nx.length) (H:=λi l=>if i < a.nx.length then CC a i l else 0) (H':=λi l=>CC a i l) λi hi l _=>by rw [if_pos hi]
  rw [t];apply aE;(repeat first|refine tM rfl ?_ |refine aU rfl ?_ |apply Aa);refine Aj.freeze [0] [(2,.o (.d (.l (Hb a))))] ⟨⟨_,rfl,.o (.full (by simp) rfl (lQ a) (by simp [gR]))⟩,trivial⟩ ?_;refine aR ⟨_,rfl,rfl⟩
theorem EA(a:AX)(h:AJ a=true):Pure Tryz.prog TB 93 [Bc a] (.o (.d (.l (Hb a)))):=VF a (fp h)
abbrev SS(s:Sys):List D:=[.p (FU s.es)]
abbrev fU(s:Sys):List C:=[.d (.p (FU s.es))]
abbrev WD(l:List Sys):E:=.a [.d (Js l),.d (.l (l.map SS))]
abbrev GV(l:List Sys):List D:=[Js l,.l (l.map SS)]
theorem NP(l:List Sys)(h:∀s∈l,AW s=true)(m:l.length<=3):Pure Tryz.prog TB 92 [Gm l] (WD l):=by
 refine Spec.nR 2 123 2 [1] Tryz.func92 rfl (by kernel_rfl) rfl (am rfl) ?_;intro Γ a;(repeat first|refine tM rfl ?_ |refine aU rfl ?_ |apply Aa);(refine pW rfl ?_ rfl (by rfl);refine Jj 1 1 174 rfl rfl rfl (by rfl) (by rfl) ?_);(repeat first|refine sN rfl ?_ |refine tM rfl ?_ |refine aU rfl ?_ |apply Aa);apply aB;refine Aj.A4 (α:={k:Nat // k<=l.length}) (λ⟨k,hk⟩=>[(2,.o (.ptr 0 2 0 0)),(3,.o (.ptr 2 2 0 0)),(8,Gm l),(9,eI .i64 l.length),(10,eI .i64 k)]) (λ⟨k,hk⟩=>[(0,.cells 123 2 [[.d (.l []),.d (.l [])]]),(1,.cells 174 1 ((l.take k).map fU)),(2,.cells 123 2 [[.d (Js l),.arr 1 1 0 k]])]) 3 (λ⟨k,hk⟩=>l.length - k) (⟨0,by omega⟩) [0,1,2] (Ed a rfl rfl) (by (simp[cX,zC,a,List.set_cons_zero,Ae,eC])) ?_;rintro⟨k,hk⟩;(try dsimp only);(repeat first|refine s2 rfl λ_ j=>?_ |refine aU rfl ?_ |apply Aa);(refine aC rfl ?_ ?_<;>rintro⟨⟩)
 ·obtain⟨x,c⟩:=get_some (l:=l) (k:=k) (by (simp only[oZ] at *;omega))
  have f:=get_map (g:=AL) c;have b:=h x (co c);apply aK;refine aS (aB ?_);(repeat first|refine tA rfl ?_ |(refine s4 rfl ‹_› rfl ?_ ?_;omega) |refine aU rfl ?_ |apply Aa);refine rG (He [5,7]) (by kernel_rfl) ?_;(repeat first|refine tA rfl ?_ |refine sP rfl (Pr x b) rfl ?_);(refine pW rfl ?_ rfl (by rfl);refine Al rfl rfl rfl (by first| (simp;done)|(simp;(omega))) rfl (by intro r e;simp at e;subst e;rfl) (by rfl) (am rfl) (by simp;omega) ?_);(repeat first|(refine sX rfl ?_ ?_;first|exact tI|omega) |refine aU rfl ?_ |apply Aa);refine⟨⟨k+1,by (simp only[oZ] at *;omega)⟩,by dsimp only;((simp only[oZ] at *;omega)),[0,4,2],?_⟩;simp[cX,zC,a,d8,c,Ae,eC]
 ·obtain rfl:k=l.length:=by (simp only[oZ] at *;omega)
  apply aE;(repeat first|refine tM rfl ?_ |refine aU rfl ?_ |apply Aa);rw [ge];refine aR ⟨⟨0,2,0,123,_,[.d (Js l),.arr 1 1 0 l.length],_,rfl,rfl,rfl,.cons .AQ (.cons (.full (by simp) rfl (by simp [d5]) (by simp)) .nil),rfl⟩,?_⟩;intro id k i h
  injection h with h;injection h with h;injection h with _ h;exact h.symm
theorem Zf(l:List Sys)(h:∀s∈l,AW s=true)(o:l.length<=3):Pure Tryz.prog TB 98 [WD l] (eI .i64 (Aw (l.map (·.st)))):=by
 have a:∀z∈l.map (·.st),1<=z/\z<=16:=by
  intro z c;obtain⟨s,hs,rfl⟩:=d9.1 c;have:=AO (h s hs);omega
 refine eN Tryz.func98 rfl (by kernel_rfl) rfl ?_;intro Γ b;(repeat first|refine aU rfl ?_);(refine Af rfl ?_;refine CE (λ_ _=>C7 rfl rfl rfl) rfl ?_);(repeat first|refine sN rfl ?_ |refine tM rfl ?_ |refine aU rfl ?_ |apply Aa);apply aB;refine Aj.A4 (α:={k:Nat // k<=l.length}) (λ⟨k,hk⟩=>[(3,eI .i64 (Aw ((l.map (·.st)).take k))),(7,Gm l),(8,eI .i64 l.length),(9,eI .i64 k)]) (λ⟨k,hk⟩=>[]) 0 (λ⟨k,hk⟩=>l.length - k) (⟨0,by omega⟩) [] (Ed b rfl rfl) (by (simp[cX,zC,b,Aw])) ?_;rintro⟨k,hk⟩;(try dsimp only);(repeat first|refine s2 rfl λ_ m=>?_ |refine aU rfl ?_ |apply Aa);(refine aC rfl ?_ ?_<;>rintro⟨⟩)
 ·obtain⟨x,d⟩:=get_some (l:=l) (k:=k) (by (simp only[oZ] at *;omega))
  have i:=get_map (g:=AL) d;have f:=a x.st (d9.2 ⟨x,co d,rfl⟩)
  have c:(l.map (·.st))[k]? = some x.st:=by simp [d]
  have e:=KH c;have j:=HW ((l.map (·.st)).take (k+1)) λz c=>a z (ol c)
  have p:(16:Int) ^ ((l.map (·.st)).take (k+1)).length<=4096:=by
   have:((l.map (·.st)).take (k+1)).length<=3:=by simp;omega
   generalize ((l.map (·.st)).take (k+1)).length=n at this
   have:n=0\/n=1\/n=2\/n=3:=by omega
   rcases this with rfl|rfl|rfl|rfl<;>decide
  rw [e] at j;apply aK;refine aS (aB ?_);(repeat first|(refine sA rfl ?_ ?_;first|exact tI|omega) |(refine s4 rfl ‹_› rfl ?_ ?_;omega) |refine aU rfl ?_ |apply Aa);refine⟨⟨k+1,by (simp only[oZ] at *;omega)⟩,by dsimp only;((simp only[oZ] at *;omega)),[],?_⟩;simp[cX,zC,b,e]
 ·obtain rfl:k=l.length:=by (simp only[oZ] at *;omega)
  apply aE;(repeat first|refine tM rfl ?_ |refine aU rfl ?_ |apply Aa);rw [gc (by simp)];refine aR ⟨_,rfl,rfl⟩
end Go.Am
namespace Go.Am
open Go
def Ex:List Int->List (List Int)->List Int
 | _::zs,c::cs=>c.flatMap λq=>(Ex zs cs).map λr=>q*Aw zs+r
 | _,_=>[0]
theorem cQ:∀ {zs:List Int} {cs:List (List Int)},FB zs cs->∀out:List Int,Hf zs cs out=out.flatMap λo=>(Ex zs cs).map λr=>o*Aw zs+r:=by
 intro zs cs h
 induction h with
 | nil=>intro out;simp [Hf,Ex,Aw]
 | @cons z c zs cs _ _ _ a=>
  intro out;rw [Hf,a,List.flatMap_assoc];congr 1;funext o;rw [List.flatMap_map,Ex,List.map_flatMap];congr 1;funext q;rw [o9];congr 1;funext r;simp only [d5,Aw];rw [qg,pU];omega
theorem RC{zs:List Int}{cs:List (List Int)}(h:FB zs cs):Hf zs cs [0]=Ex zs cs:=by
 rw [cQ h];simp
theorem FB.drop{zs:List Int}{cs:List (List Int)}(h:FB zs cs):∀k,FB (zs.drop k) (cs.drop k):=by
 induction h with
 | nil=>intro k;simp;exact .nil
 | cons d c b a=>
  intro k
  cases k with
  | zero=>exact .cons d c b
  | succ k=>exact a k
theorem SM{zs:List Int}{cs:List (List Int)}(h:FB zs cs):(∀v∈Ex zs cs,0<=v/\v < Aw zs)/\((Ex zs cs).length:Int)<=Aw zs:=by
 have:=SP h [0] 1 (by simp) (by omega) (by simp);rw [RC h,rA] at this;exact this
theorem ZW{zs:List Int}{cs:List (List Int)}{k:Nat}{z:Int}{c:List Int}(a:zs[k]? = some z)(b:cs[k]? = some c):Ex (zs.drop k) (cs.drop k)=c.flatMap λq=>(Ex (zs.drop (k+1)) (cs.drop (k+1))).map λr=>q*Aw (zs.drop (k+1))+r:=by
 rw [BB a,BB b,Ex]
theorem Xi{zs:List Int}{k:Nat}{z:Int}(a:zs[k]? = some z):Aw (zs.drop k)=z*Aw (zs.drop (k+1)):=by
 rw [BB a,Aw]
theorem Ug:∀ {zs:List Int} {k:Nat} {z:Int} (n:Int),zs[k]? = some z->(BG zs n)[k]? = some (n / Aw (zs.drop (k+1)) % z)
 | [],k,z,n,h=>by simp at h
 | a::zs,0,z,n,h=>by simp at h;subst h;simp [BG]
 | a::zs,k+1,z,n,h=>by
  rw [BG,qV,List.drop_succ_cons];exact Ug n (by simpa using h)
theorem Nd:∀(zs ws:List Int),Aw (zs++ws)=Aw zs*Aw ws
 | [],ws=>by simp [Aw]
 | z::zs,ws=>by simp [Aw,Nd zs ws,pU]
theorem O2:∀(zs ws:List Int) (n:Int),(∀w∈ws,0 < w)->BG (zs++ws) n=BG zs (n / Aw ws)++BG ws n
 | [],ws,n,_=>rfl
 | z::zs,ws,n,h=>by
  have a:=RN h;simp only [pp,BG,O2 zs ws n h,Nd];rw [ql (Aw zs),qu (by omega)]
def ZE(l:List Sys)(node letter:Int):List (List Int):=l.zipWith (λs q=>BO s q letter) (BG (l.map (·.st)) node)
theorem Sy{l:List Sys}(h:∀s∈l,AW s=true)(d:l.length<=3){letter:Int}(g:0<=letter)(f:letter < 6)(node:Int):FB (l.map (·.st)) (ZE l node letter):=by
 have b:DW ⟨l,[],[],0,0,0⟩:=⟨h,λa ha=>(by cases ha),d,by simp⟩
 have c:Ag ⟨l,[],[],0,0,0⟩=l.map (·.st):=by simp [Ag]
 have e:=Ll b node;have:=Il b e g f;rw [c] at this;unfold Ks at this
 simpa [ZE] using this
theorem fw{l:List Sys}{k:Nat}{s:Sys}(hs:l[k]? = some s)(node letter:Int):(ZE l node letter)[k]? = some (BO s (node / Aw ((l.map (·.st)).drop (k+1)) % s.st) letter):=by
 unfold ZE;rw [rm,hs,Ug (z:=s.st) node (by simp [hs])]
end Go.Am
namespace Go.Am
open Go Go.Proofs
set_option maxHeartbeats 1000000
set_option maxRecDepth 4000
attribute [local irreducible] A6 Cz Lex Bv Aj Spec
variable {TB:BF}
theorem DQ{P:Program}{Γ:Ctx}{d:Option Tmp}{ty:TypeId}{pos:String}{af:Array Edge}{g:Option (Nat×Bool)}{f:Env}{σ:Ab}{nx:Nat}{t:TypeId}{x:Operand}{c:D}{cs:List D}{n:Nat}[h:DV P t false n](e:ev f x=some (.o (.ip cs)))(b:cs[0]? = some c):A6 P TB Γ ⟨d,.load t x,ty,pos,af,g⟩ f σ nx (.o (.d c)):=by
 cases cs with
 | nil=>cases b
 | cons a l=>injection b with b;subst b;exact U0 e
theorem cV{es:List Ee}{q l:Int}(d:0<=q/\q < 16)(c:0<=l/\l < 6):(((FU es).drop (q.toNat*6)).drop (l.toNat*1))[0]? = some (iD (BN (MC es q.toNat l.toNat):Nat)):=by
 rw [ox,ox,JD (by omega)]
 have b:(q.toNat*6+(l.toNat*1+0)) / 6=q.toNat:=by omega
 have a:(q.toNat*6+(l.toNat*1+0)) % 6=l.toNat:=by omega
 rw [b,a]
theorem ga[C8 TB](l:List Sys)(h:∀s∈l,AW s=true)(hl:l.length<=3)(node letter:Int)(hn0:0<=node)(hn1:node<=1048576)(h0:0<=letter)(h1:letter < 6)(outs:List Int)(hol:outs.length<=1099511627776) :
 Spec Tryz.prog TB 95 [(0,.cells 3 1 (outs.map AE))] 1 [WD l,eI .i64 node,eI .i64 letter,.o (.arr 0 1 0 outs.length)]
  (λx σ nx=>x=.o (.arr 1 1 0 (outs++Ex (l.map (·.st)) (ZE l node letter)).length)/\nx=2/\σ=[(1,.cells 3 1 ((outs++Ex (l.map (·.st)) (ZE l node letter)).map AE))]):=by
 have hch:=Sy h hl h0 h1 node
 have hpos:∀z∈l.map (·.st),1<=z/\z<=16:=by
  intro z Y;obtain⟨s,hs,rfl⟩:=d9.1 Y;have:=AO (h s hs);omega
 have v:∀k,1<=Aw ((l.map (·.st)).drop k)/\Aw ((l.map (·.st)).drop k)<=4096:=by
  intro k;have h2:=HW ((l.map (·.st)).drop k) λz Y=>hpos z (pB Y)
  have h3:(16:Int) ^ ((l.map (·.st)).drop k).length<=4096:=by
   have:((l.map (·.st)).drop k).length<=3:=by simp;omega
   generalize ((l.map (·.st)).drop k).length=n at this
   have:n=0\/n=1\/n=2\/n=3:=by omega
   rcases this with rfl|rfl|rfl|rfl<;>decide
  omega
 have G:=λk=>SM (hch.drop k);have hget:=λ(k:Nat) (s:Sys) (hs:l[k]? = some s)=>fw hs node letter;generalize ZE l node letter=cs at *
 have hzs:∀(k:Nat) (s:Sys),l[k]? = some s->(l.map (·.st))[k]? = some s.st:=λk s hs=>by simp [hs]
 have S:(l.map (·.st)).length=l.length:=by simp
 generalize l.map (·.st)=zs at *;have hcl:=hch.len;refine eN Tryz.func95 rfl (by kernel_rfl) rfl ?_;intro Γ b;(repeat first|refine aU rfl ?_);(refine Af rfl ?_;refine CE (λ_ _=>C7 rfl rfl rfl) rfl ?_);(refine Af rfl ?_;refine CE (λ_ _=>CJ rfl) rfl ?_);(repeat first|refine sN rfl ?_ |(refine sA rfl ?_ ?_;first|exact tI|omega) |refine aU rfl ?_ |apply Aa);apply aB;refine Aj.A4 (α:={k:Nat // k<=l.length}) (λ⟨k,hk⟩=>[(1,eI .i64 (node / Aw (zs.drop k))),(2,eI .i64 letter),(3,.o (.arr 0 1 0 outs.length)),(4,.o (.ip (GV l))),(9,Ak (Ex (zs.drop k) (cs.drop k))),(10,eI .i64 (Aw (zs.drop k))),(11,eI .i64 ((k:Int) - 1))]) (λ⟨k,hk⟩=>[(0,.cells 3 1 (outs.map AE))]) 1 (λ⟨k,hk⟩=>k) (⟨l.length,by omega⟩) [0] (Ed b rfl rfl) (by (simp[cX,zC,b,pv,S,hcl.symm,Aw,Ex])) ?_;rintro⟨k,hk⟩;(try dsimp only);(repeat first|refine tM rfl ?_ |refine s2 rfl λ_ A=>?_ |refine aU rfl ?_ |apply Aa);(refine aC rfl ?_ ?_<;>rintro⟨⟩)
 ·obtain⟨k,rfl⟩:∃k',k=k'+1:=⟨k - 1,by (simp only[oZ] at *;omega)⟩
  obtain⟨s,hs⟩:=get_some (l:=l) (k:=k) (by omega)
  have hs':(l.map AL)[(((k+1:Nat):Int) - 1).toNat]? = some (AL s):=by simp [hs]
  have hm':(l.map SS)[(((k+1:Nat):Int) - 1).toNat]? = some (SS s):=by simp [hs]
  have B:=h s (co hs);have hsh:=AO B;have Y:=hzs k s hs;have hck:=hget k s hs;have c:=ZW Y hck;have F:=Xi Y;have L:=v (k+1);have hpr0:=v k;have hlk:=G (k+1);have N:=(G k).2;rw [c] at N
  have hnd:node / Aw (zs.drop k)=node / Aw (zs.drop (k+1)) / s.st:=by
   rw [F,ql,qu (by omega)]
  have hn2:0<=node / Aw (zs.drop (k+1)):=qb hn0 (by omega);have hn3:node / Aw (zs.drop (k+1))<=node:=pX _ hn0;rw [F] at hpr0;generalize Aw (zs.drop (k+1))=W at *;generalize Ex (zs.drop (k+1)) (cs.drop (k+1))=low at *;generalize node / W=nd at *
  have H:0<=nd % s.st/\nd % s.st < s.st:=⟨pe _ (by omega),o4 _ (by omega)⟩
  apply aK;refine aS (aB ?_);(repeat first|(refine sA rfl ?_ ?_;first|exact tI|omega) |(refine s4 rfl ‹_› rfl ?_ ?_;omega) |refine aU rfl ?_ |apply Aa)
  have V:∃to,to=BO s (nd % s.st) letter/\(AY s.al letter.toNat=false->to=[nd % s.st])/\(AY s.al letter.toNat=true->to=MC s.es (nd % s.st).toNat letter.toNat):=by
   refine⟨_,rfl,λhb=>?_,λhb=>?_⟩
   ·unfold BO;rw [if_neg (by simp [hb])]
   ·rw [aN hb];congr 1<;>omega
  have u:∀x∈BO s (nd % s.st) letter,0<=x/\x < s.st:=λx e=>Ju B H.1 H.2 e;have I:=Np B (l:=letter) H.1 H.2;obtain⟨to,V,hto0,Z⟩:=V;rw [<-V] at u I c N
  have hmem:AY s.al letter.toNat=true->Pure Tryz.prog TB 146 [eI .i64 (BN (MC s.es (nd % s.st).toNat letter.toNat):Nat)] (Ak (MC s.es (nd % s.st).toNat letter.toNat)):=λhb=>by
   have h2:=Fv B s.es.length (nd % s.st).toNat letter.toNat;have h3:=λx e=>Nr B (k:=s.es.length) (f:=(nd % s.st).toNat) (l:=letter.toNat) (x:=x) e;rw [ge] at h2 h3
   exact Xf _ h2 λx e=>by have:=h3 x e;omega
  have hld:=cV (es:=s.es) (q:=nd % s.st) (l:=letter) ⟨H.1,by omega⟩ ⟨h0,h1⟩
  have Q:hasB s.al letter=AY s.al letter.toNat:=by simp [hasB,h0]
  (repeat first|(refine sC rfl (Kv _ _) ?_;intro _ A) |apply Aa)
  have M:node / (s.st*W)=nd / s.st:=by rw [<-F];exact hnd
  have R:W*s.st=s.st*W:=ql _ _
  have P:∀m,(((to.take m).flatMap λq=>low.map λr=>q*W+r).length:Int)<=1048576:=by
   intro m;have h2:=Lp (to.take m) (λq=>low.map λr=>q*W+r) 4096 (λx _=>by simp;omega)
   have h3:(to.take m).length<=to.length:=by simp;omega
   omega
  (refine aC rfl ?_ ?_<;>rintro⟨⟩)
  ·have hb:AY s.al letter.toNat=true:=by rw [<-Q];exact A
   have J:=hmem hb;have p:=Z hb;(repeat first|(refine sM rfl ?_ ?_;first|exact tI|omega) |(refine s4 rfl ‹_› rfl ?_ ?_;omega) |refine sP rfl (J) rfl ?_|(refine Af rfl ?_;refine gA rfl ?_;first| refine gS (λ_ _=>DQ rfl hld) ?_) |refine aU rfl ?_ |apply Aa |refine rE (by kernel_rfl) ?_);(refine pW rfl ?_ rfl (by rfl);refine Hp 1 3 ?_);(repeat first|refine sN rfl ?_ |refine tM rfl ?_ |refine aU rfl ?_ |apply Aa);apply aB;refine Aj.A4 (α:={m:Nat // m<=to.length}) (λ⟨m,J⟩=>[(1,eI .i64 nd),(2,eI .i64 letter),(3,.o (.arr 0 1 0 outs.length)),(4,.o (.ip (GV l))),(9,Ak low),(10,eI .i64 W),(11,eI .i64 (((k+1:Nat):Int) - 1)),(12,.o (.ptr 1 3 0 0)),(14,.o (.arr 2 1 0 ((to.take m).flatMap λq=>low.map λr=>q*W+r).length)),(57,Ak to),(58,eI .i64 to.length),(59,eI .i64 m)]) (λ⟨m,J⟩=>[(0,.cells 3 1 (outs.map AE)),(1,.cells 25 3 [[.d (iD s.al),.d (iD s.st),.d (Eu s.es)]]),(2,.cells 3 1 (((to.take m).flatMap λq=>low.map λr=>q*W+r).map AE))]) 3 (λ⟨m,J⟩=>to.length - m) (⟨0,by omega⟩) [0,1,2] (Ed b rfl rfl) (by (simp[cX,zC,b,Ae,eC,p])) ?_;rintro⟨m,J⟩;(try dsimp only);clear p
   have w:∀x,to[m]? = some x->(to.take (m+1)).flatMap (λq=>low.map λr=>q*W+r)=(to.take m).flatMap (λq=>low.map λr=>q*W+r)++low.map λr=>x*W+r:=λx e=>by
    rw [d8,e];simp
   have hlm:=P m;generalize t:(to.take m).flatMap (λq=>low.map λr=>q*W+r)=pre at *;(repeat first|refine s2 rfl λ_ A=>?_ |refine aU rfl ?_ |apply Aa);(refine aC rfl ?_ ?_<;>rintro⟨⟩)
   ·obtain⟨x,e⟩:=get_some (l:=to) (k:=m) (by (simp only[oZ] at *;omega))
    have hx':=get_map (g:=Br) e;have U:=u x (co e);have w:=w x e;apply aK;refine aS (aB ?_);(repeat first|refine sN rfl ?_ |refine tM rfl ?_ |(refine s4 rfl ‹_› rfl ?_ ?_;omega) |refine aU rfl ?_ |apply Aa);apply aB;refine Aj.A4 (α:={j:Nat // j<=low.length}) (λ⟨j,X⟩=>[(1,eI .i64 nd),(2,eI .i64 letter),(3,.o (.arr 0 1 0 outs.length)),(4,.o (.ip (GV l))),(9,Ak low),(10,eI .i64 W),(11,eI .i64 (((k+1:Nat):Int) - 1)),(12,.o (.ptr 1 3 0 0)),(14,.o (.arr 2 1 0 (pre.length+j))),(57,Ak to),(58,eI .i64 to.length),(59,eI .i64 m),(16,eI .i64 x),(63,Ak low),(64,eI .i64 low.length),(65,eI .i64 j)]) (λ⟨j,X⟩=>[(0,.cells 3 1 (outs.map AE)),(1,.cells 25 3 [[.d (iD s.al),.d (iD s.st),.d (Eu s.es)]]),(2,.cells 3 1 ((pre++(low.take j).map λr=>x*W+r).map AE))]) 3 (λ⟨j,X⟩=>low.length - j) (⟨0,by omega⟩) [0,1,2] (Ed b rfl rfl) (by (simp[cX,zC,b])) ?_;rintro⟨j,X⟩;(try dsimp only);(repeat first|refine s2 rfl λ_ A=>?_ |refine aU rfl ?_ |apply Aa);(refine aC rfl ?_ ?_<;>rintro⟨⟩)
    ·obtain⟨y,T⟩:=get_some (l:=low) (k:=j) (by (simp only[oZ] at *;omega))
     have hy':=get_map (g:=Br) T;have hyb:=hlk.1 y (co T)
     have h16:0<=x*W/\x*W<=65536:=⟨oU U.1 (by omega),by
      have h5:x*W<=16*4096:=oS (by omega) L.2 (by omega) (by omega)
      omega⟩
     apply aK;refine aS (aB ?_);(repeat first|(refine sA rfl ?_ ?_;first|exact tI|omega) |(refine s4 rfl ‹_› rfl ?_ ?_;omega) |refine aU rfl ?_ |apply Aa);(refine pW rfl ?_ rfl (by rfl);refine Al rfl rfl rfl (by first| (simp;done)|(simp;(omega))) rfl (by intro r K;simp at K;subst K;rfl) (by rfl) (am rfl) (by simp;omega) ?_);(repeat first|(refine sX rfl ?_ ?_;first|exact tI|omega) |refine aU rfl ?_ |apply Aa);refine⟨⟨j+1,by (simp only[oZ] at *;omega)⟩,by dsimp only;((simp only[oZ] at *;omega)),[0,1,3],?_⟩;simp[cX,zC,b,d8,T,oI]
    ·obtain rfl:j=low.length:=by (simp only[oZ] at *;omega)
     rw [ge];apply aE;(repeat first|(refine sM rfl ?_ ?_;first|exact tI|omega) |refine aU rfl ?_ |apply Aa);refine⟨⟨m+1,by (simp only[oZ] at *;omega)⟩,by dsimp only;((simp only[oZ] at *;omega)),[0,1,2],?_⟩;simp[cX,zC,b,w]
   ·obtain rfl:m=to.length:=by (simp only[oZ] at *;omega)
    rw [ge] at t;rw [t] at c;subst c;apply aE;refine Aj.freeze [2] [(1,eI .i64 nd),(2,eI .i64 letter),(3,.o (.arr 0 1 0 outs.length)),(4,.o (.ip (GV l))),(10,eI .i64 W),(11,eI .i64 (((k+1:Nat):Int) - 1)),(12,.o (.ptr 1 3 0 0)),(14,Ak (Ex (zs.drop k) (cs.drop k)))] ⟨⟨_,rfl,.AQ⟩,⟨_,rfl,.AQ⟩,⟨_,rfl,.AQ⟩,⟨_,rfl,.AQ⟩,⟨_,rfl,.AQ⟩,⟨_,rfl,.AQ⟩,⟨_,rfl,.AQ⟩,⟨_,rfl,.o (.full (by simp) rfl (by simp [d5]) (by simp))⟩,trivial⟩ ?_;(repeat first|(refine sM rfl ?_ ?_;first|exact tI|omega) |refine aU rfl ?_ |apply Aa);refine⟨⟨k,by omega⟩,by dsimp only;(omega),[0],?_⟩;simp[cX,zC,b,M,F,R,BZ]
  ·have hb:AY s.al letter.toNat=false:=by rw [<-Q];exact A
   have p:=hto0 hb;apply aK;(repeat first|refine aU rfl ?_);(refine pW rfl ?_ rfl (by rfl);refine Hp 1 3 ?_);(repeat first|refine tM rfl ?_ |refine aU rfl ?_ |apply Aa);apply aB;refine Aj.A4 (α:={m:Nat // m<=to.length}) (λ⟨m,J⟩=>[(1,eI .i64 nd),(2,eI .i64 letter),(3,.o (.arr 0 1 0 outs.length)),(4,.o (.ip (GV l))),(9,Ak low),(10,eI .i64 W),(11,eI .i64 (((k+1:Nat):Int) - 1)),(12,.o (.ptr 1 3 0 0)),(14,.o (.arr 2 1 0 ((to.take m).flatMap λq=>low.map λr=>q*W+r).length)),(57,Ak to),(58,eI .i64 to.length),(59,eI .i64 m)]) (λ⟨m,J⟩=>[(0,.cells 3 1 (outs.map AE)),(1,.cells 25 3 [[.d (iD s.al),.d (iD s.st),.d (Eu s.es)]]),(2,.cells 3 1 (((to.take m).flatMap λq=>low.map λr=>q*W+r).map AE))]) 3 (λ⟨m,J⟩=>to.length - m) (⟨0,by omega⟩) [0,1,2] (Ed b rfl rfl) (by (simp[cX,zC,b,Ae,eC,p])) ?_;rintro⟨m,J⟩;(try dsimp only);clear p
   have w:∀x,to[m]? = some x->(to.take (m+1)).flatMap (λq=>low.map λr=>q*W+r)=(to.take m).flatMap (λq=>low.map λr=>q*W+r)++low.map λr=>x*W+r:=λx e=>by
    rw [d8,e];simp
   have hlm:=P m;generalize t:(to.take m).flatMap (λq=>low.map λr=>q*W+r)=pre at *;(repeat first|refine s2 rfl λ_ A=>?_ |refine aU rfl ?_ |apply Aa);(refine aC rfl ?_ ?_<;>rintro⟨⟩)
   ·obtain⟨x,e⟩:=get_some (l:=to) (k:=m) (by (simp only[oZ] at *;omega))
    have hx':=get_map (g:=Br) e;have U:=u x (co e);have w:=w x e;apply aK;refine aS (aB ?_);(repeat first|refine sN rfl ?_ |refine tM rfl ?_ |(refine s4 rfl ‹_› rfl ?_ ?_;omega) |refine aU rfl ?_ |apply Aa);apply aB;refine Aj.A4 (α:={j:Nat // j<=low.length}) (λ⟨j,X⟩=>[(1,eI .i64 nd),(2,eI .i64 letter),(3,.o (.arr 0 1 0 outs.length)),(4,.o (.ip (GV l))),(9,Ak low),(10,eI .i64 W),(11,eI .i64 (((k+1:Nat):Int) - 1)),(12,.o (.ptr 1 3 0 0)),(14,.o (.arr 2 1 0 (pre.length+j))),(57,Ak to),(58,eI .i64 to.length),(59,eI .i64 m),(16,eI .i64 x),(63,Ak low),(64,eI .i64 low.length),(65,eI .i64 j)]) (λ⟨j,X⟩=>[(0,.cells 3 1 (outs.map AE)),(1,.cells 25 3 [[.d (iD s.al),.d (iD s.st),.d (Eu s.es)]]),(2,.cells 3 1 ((pre++(low.take j).map λr=>x*W+r).map AE))]) 3 (λ⟨j,X⟩=>low.length - j) (⟨0,by omega⟩) [0,1,2] (Ed b rfl rfl) (by (simp[cX,zC,b])) ?_;rintro⟨j,X⟩;(try dsimp only);(repeat first|refine s2 rfl λ_ A=>?_ |refine aU rfl ?_ |apply Aa);(refine aC rfl ?_ ?_<;>rintro⟨⟩)
    ·obtain⟨y,T⟩:=get_some (l:=low) (k:=j) (by (simp only[oZ] at *;omega))
     have hy':=get_map (g:=Br) T;have hyb:=hlk.1 y (co T)
     have h16:0<=x*W/\x*W<=65536:=⟨oU U.1 (by omega),by
      have h5:x*W<=16*4096:=oS (by omega) L.2 (by omega) (by omega)
      omega⟩
     apply aK;refine aS (aB ?_);(repeat first|(refine sA rfl ?_ ?_;first|exact tI|omega) |(refine s4 rfl ‹_› rfl ?_ ?_;omega) |refine aU rfl ?_ |apply Aa);(refine pW rfl ?_ rfl (by rfl);refine Al rfl rfl rfl (by first| (simp;done)|(simp;(omega))) rfl (by intro r K;simp at K;subst K;rfl) (by rfl) (am rfl) (by simp;omega) ?_);(repeat first|(refine sX rfl ?_ ?_;first|exact tI|omega) |refine aU rfl ?_ |apply Aa);refine⟨⟨j+1,by (simp only[oZ] at *;omega)⟩,by dsimp only;((simp only[oZ] at *;omega)),[0,1,3],?_⟩;simp[cX,zC,b,d8,T,oI]
    ·obtain rfl:j=low.length:=by (simp only[oZ] at *;omega)
     rw [ge];apply aE;(repeat first|(refine sM rfl ?_ ?_;first|exact tI|omega) |refine aU rfl ?_ |apply Aa);refine⟨⟨m+1,by (simp only[oZ] at *;omega)⟩,by dsimp only;((simp only[oZ] at *;omega)),[0,1,2],?_⟩;simp[cX,zC,b,w]
   ·obtain rfl:m=to.length:=by (simp only[oZ] at *;omega)
    rw [ge] at t;rw [t] at c;subst c;apply aE;refine Aj.freeze [2] [(1,eI .i64 nd),(2,eI .i64 letter),(3,.o (.arr 0 1 0 outs.length)),(4,.o (.ip (GV l))),(10,eI .i64 W),(11,eI .i64 (((k+1:Nat):Int) - 1)),(12,.o (.ptr 1 3 0 0)),(14,Ak (Ex (zs.drop k) (cs.drop k)))] ⟨⟨_,rfl,.AQ⟩,⟨_,rfl,.AQ⟩,⟨_,rfl,.AQ⟩,⟨_,rfl,.AQ⟩,⟨_,rfl,.AQ⟩,⟨_,rfl,.AQ⟩,⟨_,rfl,.AQ⟩,⟨_,rfl,.o (.full (by simp) rfl (by simp [d5]) (by simp))⟩,trivial⟩ ?_;(repeat first|(refine sM rfl ?_ ?_;first|exact tI|omega) |refine aU rfl ?_ |apply Aa);refine⟨⟨k,by omega⟩,by dsimp only;(omega),[0],?_⟩;simp[cX,zC,b,M,F,R,BZ]
 ·obtain rfl:k=0:=by (simp only[oZ] at *;omega)
  rw [o5,o5];have hl0:=(G 0).2;have hp0:=v 0;rw [o5,o5] at hl0;rw [o5] at hp0;apply aE;(repeat first|refine tM rfl ?_ |refine aU rfl ?_);(refine pW rfl ?_ rfl (by rfl);refine Al rfl rfl rfl (by first| (simp;done)|(simp;(omega))) rfl (by intro r K;simp at K;obtain⟨a,_,rfl⟩:=K;rfl) (by rfl) (am rfl) (by simp;omega) ?_);(repeat first|refine tX rfl ?_ |apply Aa);refine Aj.names [0,1] [(8,.o (.arr 1 1 0 (outs++Ex zs cs).length))] [(1,.cells 3 1 ((outs++Ex zs cs).map AE))] (by intro i hi;rw [b] at hi;obtain rfl:i=0:=(by omega);rfl) (by simp) (by simp[cX,zC,b]) (by simp[cX,zC,b]) ?_;refine aR ⟨_,rfl,rfl,rfl,rfl⟩
end Go.Am
namespace Go.Am
open Go
structure Ok where
 p:Int
 l:Int
 ns:List Int
structure iz where
 seen:List Bool
 fresh:List Int
 found:Bool
def sn(seen:List Bool)(n:Int):Bool:=seen.getD n.toNat false
def VP(goal:Int->Bool)(st:iz)(n:Int):iz:=if sn st.seen n then st else ⟨st.seen.set n.toNat true,st.fresh++[n],st.found || goal n⟩
def TG(goal:Int->Bool)(seen:List Bool)(nodes:List Int):iz:=nodes.foldl (VP goal) ⟨seen,[],false⟩
theorem jK{seen:List Bool}{n m:Int}(a:0<=n/\n.toNat < seen.length)(b:0<=m):sn (seen.set n.toNat true) m=(sn seen m || decide (m=n)):=by
 unfold sn;by_cases h:m=n
 ·subst h;simp [List.getD,a.2]
 ·have:n.toNat≠m.toNat:=by omega
  simp [List.getD,oX this,h]
theorem count_set{seen:List Bool}{k:Nat}(h:seen[k]? = some false):(seen.set k true).count true=seen.count true+1:=by
 induction seen generalizing k with
 | nil=>simp at h
 | cons a l b=>
  cases k with
  | zero=>simp at h;subst h;simp
  | succ k=>
   have:=b (k:=k) (by simpa using h);simp only [List.set_cons_succ,List.count_cons,this];omega
structure jU (goal:Int->Bool) (N:Nat) (seen:List Bool) (nodes:List Int) (st:iz):Prop where
 len:st.seen.length=N
 snI:∀n:Int,0<=n->(sn st.seen n=true↔sn seen n=true\/n∈nodes)
 fr:∀n:Int,n∈st.fresh↔n∈nodes/\sn seen n=false
 nd:st.fresh.Nodup
 fd:st.found=st.fresh.any goal
 cnt:st.seen.count true=seen.count true+st.fresh.length
theorem XG{goal:Int->Bool}{N:Nat}{seen:List Bool}{nodes:List Int}(hs:seen.length=N)(j:∀n∈nodes,0<=n/\n < N):jU goal N seen nodes (TG goal seen nodes):=by
 have key : ∀ (l done:List Int) (st:iz),(∀n∈l,0<=n/\n < N)->(∀n∈done,0<=n)->jU goal N seen done st->jU goal N seen (done++l) (l.foldl (VP goal) st):=by
  intro l
  induction l with
  | nil=>intro done st _ _ h;simpa using h
  | cons a l p=>
   intro done st o r h;have ha:=o a (by simp);rw [pi,show done++a::l=(done++[a])++l by simp];refine p (done++[a]) _ (λn j=>o n (by simp [j])) (λn j=>by rcases em.1 j with f|f;exact r n f;simp at f;omega) ?_;have m:=h.len
   have g:∀n:Int,n∈done++[a]↔n∈done\/n=a:=λn=>by simp
   unfold VP;by_cases b:sn st.seen a=true
   ·rw [if_pos b]
    have f:=(h.snI a ha.1).1 b;refine⟨h.len,λn i=>?_,λn=>?_,h.nd,h.fd,h.cnt⟩
    ·rw [h.snI n i,g]
     constructor
     ·rintro(c|c);exact .inl c;exact .inr (.inl c)
     ·rintro(c|c|rfl);exact .inl c;exact .inr c;exact f
    ·rw [h.fr n,g]
     constructor
     ·rintro⟨c,d⟩;exact⟨.inl c,d⟩
     ·rintro⟨c|rfl,d⟩
      ·exact⟨c,d⟩
      ·rcases f with f|f
       ·rw [f] at d;cases d
       ·exact⟨f,d⟩
   ·rw [if_neg b]
    have f:sn seen a=false/\a∉done:=by
     have c:¬(sn seen a=true\/a∈done):=λd=>b ((h.snI a ha.1).2 d);exact⟨by simpa using λd=>c (.inl d),λd=>c (.inr d)⟩
    have hk:st.seen[a.toNat]? = some false:=by
     unfold sn at b
     have:a.toNat < st.seen.length:=by omega
     simp [List.getD,this] at b;rw [d6 this,b]
    refine⟨by simpa using h.len,λn i=>?_,λn=>?_,?_,?_,?_⟩
    ·rw [jK ⟨ha.1,by omega⟩ i,g,og,h.snI n i];simp;grind
    ·simp only [em,rB,h.fr n]
     grind
    ·refine pR.2 ⟨h.nd,by simp,λx q y k=>?_⟩
     simp at k;subst k;intro e;subst e;exact f.2 ((h.fr x).1 q).1
    ·simp [rW,h.fd]
    ·rw [count_set hk,h.cnt];simp;omega
 have:=key nodes [] ⟨seen,[],false⟩ j (by simp) ⟨hs,λn _=>by simp,λn=>by simp,.nil,rfl,by simp⟩
 simpa [TG] using this
theorem RA:∀ {a b c:List Int},VS a b->VS b c->VS a c
 | [],_,_,h,_=>h.elim
 | _::_,[],_,h,_=>h.elim
 | _::_,_::_,[],_,h=>h.elim
 | x::a,y::b,z::c,h,k=>by
  simp only [VS] at *
  rcases h with h|⟨h,d⟩<;>rcases k with k|⟨k,k'⟩
  ·exact .inl (by omega)
  ·exact .inl (by omega)
  ·exact .inl (by omega)
  ·exact .inr ⟨by omega,RA d k'⟩
theorem SJ:∀ {a:List Int},¬VS a a
 | [],h=>h
 | x::a,h=>by rcases h with h|⟨_,h⟩;omega;exact SJ h
theorem GA{a b c:List Int}(h:slt a b)(k:slt b c):slt a c:=by
 unfold slt at *
 rcases h with h|⟨h,d⟩<;>rcases k with k|⟨k,k'⟩
 ·exact .inl (by omega)
 ·exact .inl (by omega)
 ·exact .inl (by omega)
 ·exact .inr ⟨by omega,RA d k'⟩
theorem Mf{a:List Int}:¬slt a a:=by
 rintro(h|⟨_,h⟩);omega;exact SJ h
theorem Vx(a b:List Int):slt a b\/a=b\/slt b a:=by
 rcases qX a.length b.length with h|h|h
 ·exact .inl (.inl h)
 ·rcases SL h with c|c|c
  ·exact .inl (.inr ⟨h,c⟩)
  ·exact .inr (.inl c)
  ·exact .inr (.inr (.inr ⟨h.symm,c⟩))
 ·exact .inr (.inr (.inl h))
theorem Zg{a b:List Int}{l m:Int}(h:slt a b):slt (a++[l]) (b++[m]):=by
 rcases h with h|⟨h,c⟩
 ·exact .inl (by simp;omega)
 ·exact .inr ⟨by simp;omega,(Ji h).2 (.inl c)⟩
theorem eo{a:List Int}{l m:Int}(h:l < m):slt (a++[l]) (a++[m]):=.inr ⟨by simp,(Ji rfl).2 (.inr ⟨rfl,h⟩)⟩
theorem er{a b:List Int}{l m:Int}:slt (a++[l]) (b++[m])->slt a b\/a=b/\l < m:=by
 intro h
 rcases Vx a b with c|c|c
 ·exact .inl c
 ·subst c
  rcases h with h|⟨h,e⟩
  ·simp at h
  ·rcases(Ji rfl).1 e with d|d
   ·exact absurd d SJ
   ·exact .inr d
 ·exact absurd (GA h (Zg c)) Mf
theorem ep{a:List Int}{l:Int}:slt a (a++[l]):=.inl (by simp)
structure FI (g:Gr) (seen:List Bool) (steps:List Ok) (ws:List (List Int)) (i j:Nat):Prop where
 slen:seen.length=g.N
 wlen:ws.length=steps.length
 chain:∀(t:Nat) s,steps[t]? = some s->(s.p = -1/\ws[t]? = some [])\/∃(q:Nat) (w:List Int),s.p=(q:Int)/\q < t/\ws[q]? = some w/\ws[t]? = some (w++[s.l])/\s.l∈g.ls
 rch:∀(t:Nat) s w,steps[t]? = some s->ws[t]? = some w->∀n∈s.ns,reach g w g.s0 n
 ov:∀w∈ws,over g w
 min:∀(t:Nat) s w,steps[t]? = some s->ws[t]? = some w->∀n∈s.ns,∀u,over g u->slt u w->¬reach g u g.s0 n
 ord:ws.Pairwise slt
 par:∀w∈ws,w=[]\/∃(p:Nat) (v:List Int) (l:Int),ws[p]? = some v/\w=v++[l]/\l∈g.ls/\(p < i\/p=i/\∃j',j' < j/\g.ls[j']? = some l)
 snI:∀n:Int,0<=n->(sn seen n=true↔∃s∈steps,n∈s.ns)
 done:∀(t:Nat) s,steps[t]? = some s->∀l,(t < i/\l∈g.ls\/t=i/\∃j',j' < j/\g.ls[j']? = some l)->∀n∈s.ns,∀y∈g.succ n l,sn seen y=true
 nogoal:∀s∈steps,∀n∈s.ns,g.goal n=false
 inn:∀s∈steps,∀n∈s.ns,0<=n/\n < g.N
 start:sn seen g.s0=true
 cnt:steps.length<=seen.count true
 le:i<=steps.length
 nd:∀s∈steps,s.ns.Nodup
theorem FI.kO{g:Gr}{seen:List Bool}{steps:List Ok}{ws:List (List Int)}{i j:Nat}(h:FI g seen steps ws i j):steps.length<=g.N:=by
 have b:=h.cnt;have a:seen.count true<=seen.length:=List.count_le_length;rw [h.slen] at a;omega
theorem FI.g9{g:Gr}(hg:IX g){seen:List Bool}{steps:List Ok}{ws:List (List Int)}{i j:Nat}(h:FI g seen steps ws i j){wi:List Int}{lj:Int}(I:ws[i]? = some wi)(N:g.ls[j]? = some lj) :
 ∀(n:Nat) (u:List Int),u.length=n->over g u->slt u (wi++[lj])->∀x,reach g u g.s0 x->sn seen x=true:=by
 intro n
 induction n with
 | zero=>
  intro u B _ _ x p;have:u=[]:=ms.1 B;subst this;have p:g.s0=x:=p;rw [<-p];exact h.start
 | succ n K=>
  intro u B M w x p
  have q:u≠[]:=λe=>by subst e;simp at B
  obtain⟨v,l,rfl⟩:∃v l,u=v++[l]:=⟨u.dropLast,u.getLast q,(qG q).symm⟩
  obtain⟨m,H,F⟩:=Ey.1 p;obtain⟨k,J⟩:=Gy.1 M;have G:=K v (by simpa using B) k (GA ep w) m H;have r:=DJ hg k hg.s0 H;obtain⟨s,hs,c⟩:=(h.snI m r.1).1 G;obtain⟨t,ht⟩:=qe hs;obtain⟨wt,a⟩:∃wt,ws[t]? = some wt:=get_some (by have:=(ce.1 ht).1;rw [h.wlen];exact this);have y:¬slt v wt:=λd=>h.min t s wt ht a m c v k d H;have f:=er w
  have L:t<=i:=by
   rcases oK i t with d|d
   ·exfalso
    obtain⟨T,S⟩:=ce.1 I;obtain⟨R,Q⟩:=ce.1 a;have A:=(oe.1 h.ord) i t T R d;rw [S,Q] at A
    rcases Vx v wt with o|o|o
    ·exact y o
    ·subst o
     rcases f with b|⟨b,_⟩
     ·exact Mf (GA A b)
     ·subst b;exact Mf A
    ·rcases f with b|⟨b,_⟩
     ·exact Mf (GA (GA A o) b)
     ·subst b;exact Mf (GA A o)
   ·exact d
  refine h.done t s ht l ?_ m c x F
  rcases oK t i with d|d
  ·exact .inl ⟨d,J⟩
  ·have:t=i:=by omega
   subst this;rw [I] at a
   injection a with a
   subst a
   rcases f with b|⟨b,P⟩
   ·exact absurd b y
   ·obtain⟨j',z⟩:=qe J
    exact .inr ⟨rfl,j',cy hg.srt z N P,z⟩
theorem CB.found{g:Gr}(hg:IX g){seen:List Bool}{steps:List Ok}{ws:List (List Int)}{i j:Nat}(h:FI g seen steps ws i j){wi:List Int}{lj:Int}(d:ws[i]? = some wi)(o:g.ls[j]? = some lj){n x:Int}{s:Ok}(hs:steps[i]? = some s)(q:n∈s.ns)(p:x∈g.succ n lj)(k:g.goal x=true):CB g (some (wi++[lj])):=by
 have r:=co o;refine⟨Gy.2 ⟨h.ov wi (co d),r⟩,⟨x,Ey.2 ⟨n,h.rch i s wi hs d n q,p⟩,k⟩,λu m t f=>?_⟩;obtain⟨y,l,a⟩:=t;have b:=h.g9 hg d o u.length u rfl m f y l;obtain⟨s',e,c⟩:=(h.snI y (DJ hg m hg.s0 l).1).1 b;rw [h.nogoal s' e y c] at a;cases a
theorem CB.nO{g:Gr}(hg:IX g){seen:List Bool}{steps:List Ok}{ws:List (List Int)}(h:FI g seen steps ws steps.length 0):CB g none:=by
 have key:∀(n:Nat) (u:List Int),u.length=n->over g u->∀x,reach g u g.s0 x->sn seen x=true:=by
  intro n
  induction n with
  | zero=>
   intro u b _ x a;have:u=[]:=ms.1 b;subst this;have a:g.s0=x:=a;rw [<-a];exact h.start
  | succ n r=>
   intro u b w x a
   have d:u≠[]:=λe=>by subst e;simp at b
   obtain⟨v,l,rfl⟩:∃v l,u=v++[l]:=⟨u.dropLast,u.getLast d,(qG d).symm⟩
   obtain⟨m,q,o⟩:=Ey.1 a;obtain⟨f,y⟩:=Gy.1 w;have p:=r v (by simpa using b) f m q;obtain⟨s,hs,i⟩:=(h.snI m (DJ hg f hg.s0 q).1).1 p;obtain⟨t,ht⟩:=qe hs;exact h.done t s ht l (.inl ⟨(ce.1 ht).1,y⟩) m i x o
 rintro u b ⟨x,a,j⟩;have k:=key u.length u rfl b x a;obtain⟨s,hs,c⟩:=(h.snI x (DJ hg b hg.s0 a).1).1 k;rw [h.nogoal s hs x c] at j;cases j
theorem FI.kV{g:Gr}{seen:List Bool}{steps:List Ok}{ws:List (List Int)}{i:Nat}(h:FI g seen steps ws i g.ls.length)(hi:i < steps.length):FI g seen steps ws (i+1) 0:=by
 refine⟨h.slen,h.wlen,h.chain,h.rch,h.ov,h.min,h.ord,λw f=>?_,h.snI,λt s hs l j=>?_,h.nogoal,h.inn,h.start,h.cnt,by omega,h.nd⟩
 ·rcases h.par w f with b|⟨p,v,l,b,d,c,e⟩
  ·exact .inl b
  ·exact .inr ⟨p,v,l,b,d,c,.inl (by rcases e with e|⟨e,_⟩<;>omega)⟩
 ·refine h.done t s hs l ?_
  rcases j with ⟨b,d⟩|⟨_,j',b,_⟩
  ·rcases oK t i with c|c
   ·exact .inl ⟨c,d⟩
   ·obtain⟨j',a⟩:=qe d
    exact .inr ⟨by omega,j',(ce.1 a).1,a⟩
  ·omega
def E8(steps:List Ok)(p l:Int)(fresh:List Int):List Ok:=if fresh=[] then steps else steps++[⟨p,l,fresh⟩]
def mW(ws:List (List Int))(w fresh:List Int):List (List Int):=if fresh=[] then ws else ws++[w]
structure Chain (ls:List Int) (steps:List Ok) (ws:List (List Int)):Prop where
 wlen:ws.length=steps.length
 chain:∀(t:Nat) s,steps[t]? = some s->(s.p = -1/\ws[t]? = some [])\/∃(q:Nat) (w:List Int),s.p=(q:Int)/\q < t/\ws[q]? = some w/\ws[t]? = some (w++[s.l])/\s.l∈ls
theorem Hh{α:Type}{l:List α}{x y:α}{t:Nat}(h:(l++[x])[t]? = some y):l[t]? = some y\/t=l.length/\y=x:=by
 rcases oK t l.length with a|a
 ·rw [f6 a] at h;exact .inl h
 ·rw [f9 a] at h
  have b:=(ce.1 h).1;simp at b
  have:t=l.length:=by omega
  subst this;simp at h;exact .inr ⟨rfl,h.symm⟩
theorem Jz{α:Type}{l:List α}{x y:α}{t:Nat}(h:l[t]? = some y):(l++[x])[t]? = some y:=by
 rw [f6 (ce.1 h).1];exact h
theorem Chain.app{ls:List Int}{steps:List Ok}{ws:List (List Int)}(h:Chain ls steps ws){i:Nat}{wi:List Int}{l:Int}{ns:List Int}(d:ws[i]? = some wi)(e:l∈ls):Chain ls (steps++[⟨i,l,ns⟩]) (ws++[wi++[l]]):=by
 have hi:=(ce.1 d).1;refine⟨by simp [h.wlen],λt s hs=>?_⟩
 rcases Hh hs with b|⟨b,a⟩
 ·rcases h.chain t s b with ⟨a,c⟩|⟨q,w,a,c,j,g,f⟩
  ·exact .inl ⟨a,Jz c⟩
  ·exact .inr ⟨q,w,a,c,Jz j,Jz g,f⟩
 ·subst a
  refine .inr ⟨i,wi,rfl,?_,Jz d,?_,e⟩
  ·rw [b,<-h.wlen];exact hi
  ·rw [b,<-h.wlen];simp
theorem FI.Zq{g:Gr}{seen:List Bool}{steps:List Ok}{ws:List (List Int)}{i j:Nat}(h:FI g seen steps ws i j):Chain g.ls steps ws:=⟨h.wlen,h.chain⟩
theorem FI.visit{g:Gr}(hg:IX g){seen:List Bool}{steps:List Ok}{ws:List (List Int)}{i j:Nat}(h:FI g seen steps ws i j){wi:List Int}{lj:Int}(K:ws[i]? = some wi)(T:g.ls[j]? = some lj){s:Ok}(hs:steps[i]? = some s)
 {R:List Int} (hR:∀y,y∈R↔∃n∈s.ns,y∈g.succ n lj) {st:iz} (z:jU g.goal g.N seen R st) (hf:st.found=false):FI g st.seen (E8 steps i lj st.fresh) (mW ws (wi++[lj]) st.fresh) i (j+1):=by
 have Z:=co T
 have X:∀y∈R,0<=y/\y < g.N:=λy J=>by
  obtain⟨n,e,J⟩:=(hR y).1 J;exact hg.inn n (h.inn s (co hs) n e) lj Z y J
 have q:∀n:Int,0<=n->sn seen n=true->sn st.seen n=true:=λn e hx=>(z.snI n e).2 (.inl hx)
 have Q:∀n∈st.fresh,g.goal n=false:=λn e=>by
  have:=z.fd;rw [hf] at this;have o:=List.any_eq_false.1 this.symm n e
  simpa using o
 have L:∀w∈ws,w=[]\/∃(p:Nat) (v:List Int) (l:Int),ws[p]? = some v/\w=v++[l]/\l∈g.ls/\(p < i\/p=i/\∃j',j' < j+1/\g.ls[j']? = some l):=λw K=>by
  rcases h.par w K with c|⟨p,v,l,c,o,f,k⟩
  ·exact .inl c
  ·refine .inr ⟨p,v,l,c,o,f,?_⟩
   rcases k with k|⟨k,j',h5,h6⟩
   ·exact .inl k
   ·exact .inr ⟨k,j',by omega,h6⟩
 have I:∀(t:Nat) s',steps[t]? = some s'->∀l,(t < i/\l∈g.ls\/t=i/\∃j',j' < j+1/\g.ls[j']? = some l)->∀n∈s'.ns,∀y∈g.succ n l,sn st.seen y=true:=by
  intro t s' d l H n e y J
  have B:0<=y/\y < g.N:=by
   refine hg.inn n (h.inn s' (co d) n e) l ?_ y J
   rcases H with ⟨_,c⟩|⟨_,j',_,c⟩
   ·exact c
   ·exact co c
  rcases H with c|⟨c,j',o,f⟩
  ·exact q y B.1 (h.done t s' d l (.inl c) n e y J)
  ·subst c
   rcases qo.1 o with k|k
   ·exact q y B.1 (h.done t s' d l (.inr ⟨rfl,j',k,f⟩) n e y J)
   ·subst k
    rw [T] at f
    injection f with f
    subst f;rw [hs] at d
    injection d with d
    subst d;exact(z.snI y B.1).2 (.inr ((hR y).2 ⟨n,e,J⟩))
 unfold E8 mW;by_cases r:st.fresh=[]
 ·rw [if_pos r,if_pos r]
  have M:∀n:Int,0<=n->(sn st.seen n=true↔sn seen n=true):=λn e=>by
   rw [z.snI n e];refine⟨λc=>?_,.inl⟩
   rcases c with c|c
   ·exact c
   ·rcases Bool.eq_false_or_eq_true (sn seen n) with o|o
    ·exact o
    ·have:=(z.fr n).2 ⟨c,o⟩
     rw [r] at this;cases this
  refine⟨z.len,h.wlen,h.chain,h.rch,h.ov,h.min,h.ord,L,λn e=>by rw [M n e];exact h.snI n e,I,h.nogoal,h.inn,q _ hg.s0.1 h.start,?_,h.le,h.nd⟩;rw [z.cnt,r];exact h.cnt
 ·rw [if_neg r,if_neg r]
  have U:=h.Zq.app (ns:=st.fresh) K Z;have x:∀n∈st.fresh,n∈R/\sn seen n=false:=λn e=>(z.fr n).1 e
  have V:∀w∈ws,slt w (wi++[lj]):=by
   intro w F
   rcases h.par w F with rfl|⟨p,v,l,c,rfl,f,k⟩
   ·exact .inl (by simp)
   ·rcases k with k|⟨k,j',h5,h6⟩
    ·obtain⟨a1,a2⟩:=ce.1 c
     obtain⟨b1,b2⟩:=ce.1 K;have Y:=(oe.1 h.ord) p i a1 b1 k;rw [a2,b2] at Y;exact Zg Y
    ·subst k
     rw [K] at c
     injection c with c
     subst c;obtain⟨a1,a2⟩:=ce.1 h6;obtain⟨b1,b2⟩:=ce.1 T;have Y:=(oe.1 hg.srt) j' j a1 b1 h5;rw [a2,b2] at Y;exact eo Y
  have P:∀n∈st.fresh,∃m∈s.ns,n∈g.succ m lj:=λn e=>(hR n).1 (x n e).1;refine⟨z.len,U.wlen,U.chain,λt s' w d G n e=>?_,λw F=>?_,λt s' w d G n e u hu S hr=>?_,?_,λw F=>?_,λn e=>?_,λt s' d l H n e y J=>?_,λs' d n e=>?_,λs' d n e=>?_,q _ hg.s0.1 h.start,?_,?_,λs' d=>?_⟩
  ·rcases Hh d with c|⟨c,o⟩
   ·rcases Hh G with f|⟨f,k⟩
    ·exact h.rch t s' w c f n e
    ·have:=(ce.1 c).1
     rw [h.wlen] at f;omega
   ·subst o
    rcases Hh G with f|⟨f,k⟩
    ·have:=(ce.1 f).1
     rw [h.wlen] at this;omega
    ·subst k
     obtain⟨m,hm,hnm⟩:=P n e;exact Ey.2 ⟨m,h.rch i s wi hs K m hm,hnm⟩
  ·rcases em.1 F with c|c
   ·exact h.ov w c
   ·simp at c;subst c
    exact Gy.2 ⟨h.ov wi (co K),Z⟩
  ·rcases Hh d with c|⟨c,o⟩
   ·rcases Hh G with f|⟨f,k⟩
    ·exact h.min t s' w c f n e u hu S hr
    ·have:=(ce.1 c).1
     rw [h.wlen] at f;omega
   ·subst o
    rcases Hh G with f|⟨f,k⟩
    ·have:=(ce.1 f).1
     rw [h.wlen] at this;omega
    ·subst k
     have:=h.g9 hg K T u.length u rfl hu S n hr;rw [(x n e).2] at this;cases this
  ·refine pO.2 ⟨h.ord,by simp,λa ha b hb=>?_⟩
   simp at hb;subst hb;exact V a ha
  ·rcases em.1 F with c|c
   ·rcases L w c with o|⟨p,v,l,o,f,k,h5⟩
    ·exact .inl o
    ·exact .inr ⟨p,v,l,Jz o,f,k,h5⟩
   ·simp at c;subst c
    exact .inr ⟨i,wi,lj,Jz K,rfl,Z,.inr ⟨rfl,j,by omega,T⟩⟩
  ·rw [z.snI n e,h.snI n e]
   constructor
   ·rintro(⟨s',d,A⟩|hnR)
    ·exact⟨s',ot _ d,A⟩
    ·rcases Bool.eq_false_or_eq_true (sn seen n) with o|o
     ·obtain⟨s',d,A⟩:=(h.snI n e).1 o
      exact⟨s',ot _ d,A⟩
     ·exact⟨⟨i,lj,st.fresh⟩,oz _ (by simp),(z.fr n).2 ⟨hnR,o⟩⟩
   ·rintro⟨s',d,A⟩
    rcases em.1 d with c|c
    ·exact .inl ⟨s',c,A⟩
    ·simp at c;subst c
     exact .inr (x n A).1
  ·rcases Hh d with c|⟨c,o⟩
   ·exact I t s' c l H n e y J
   ·have:=(ce.1 hs).1
    rcases H with ⟨f,_⟩|⟨f,_⟩<;>omega
  ·rcases em.1 d with c|c
   ·exact h.nogoal s' c n e
   ·simp at c;subst c;exact Q n e
  ·rcases em.1 d with c|c
   ·exact h.inn s' c n e
   ·simp at c;subst c;exact X n (x n e).1
  ·have c:=z.cnt
   have o:=h.cnt;have f:0 < st.fresh.length:=rz.2 r;simp;omega
  ·have:=h.le;simp;omega
  ·rcases em.1 d with c|c
   ·exact h.nd s' c
   ·simp at c;subst c;exact z.nd
theorem FI.init{g:Gr}(hg:IX g){st:iz}(i:jU g.goal g.N (List.replicate g.N false) [g.s0] st)(p:st.found=false):st.fresh=[g.s0]/\FI g st.seen [⟨-1,0,[g.s0]⟩] [[]] 0 0:=by
 have hno:∀n,sn (List.replicate g.N false) n=false:=λn=>by
  unfold sn;by_cases h:n.toNat < g.N<;>simp [List.getD,h]
 have c:∀n,n∈st.fresh↔n=g.s0:=λn=>by rw [i.fr n];simp [hno]
 have j:st.fresh=[g.s0]:=by
  have f:=i.nd;generalize st.fresh=l at c f
  cases l with
  | nil=>have:=(c g.s0).2 rfl;cases this
  | cons a l=>
   have ha:=(c a).1 (by simp);subst ha
   cases l with
   | nil=>rfl
   | cons b l=>
    have hb:=(c b).1 (by simp);subst hb;simp at f
 refine⟨j,?_⟩
 have k:g.goal g.s0=false:=by
  have:=i.fd;rw [p,j] at this
  simpa using this.symm
 have one:∀(t:Nat) (s:Ok),[(⟨-1,0,[g.s0]⟩:Ok)][t]? = some s->t=0/\s=⟨-1,0,[g.s0]⟩:=λt s h=>by
  cases t with
  | zero=>simp at h;exact⟨rfl,h.symm⟩
  | succ t=>simp at h
 have one':∀(t:Nat) (w:List Int),[([]:List Int)][t]? = some w->w=[]:=λt w h=>by
  cases t with
  | zero=>exact(Option.some.inj h).symm
  | succ t=>simp at h
 refine⟨i.len,rfl,λt s hs=>?_,λt s w hs e n d=>?_,λw e=>?_,λt s w hs e n d u _ m=>?_,by simp,λw e=>by simp at e;exact .inl e,λn d=>?_,λt s hs l o n d y q=>?_,λs hs n d=>?_,λs hs n d=>?_,?_,?_,by simp,λs hs=>?_⟩
 ·obtain⟨rfl,rfl⟩:=one t s hs;exact .inl ⟨rfl,rfl⟩
 ·obtain⟨rfl,rfl⟩:=one t s hs
  have:=one' 0 w e;subst this;simp at d;subst d;exact(rfl:g.s0=g.s0)
 ·simp at e;subst e;exact λl o=>(by cases o)
 ·have:=one' t w e
  subst this
  rcases m with f|⟨_,f⟩
  ·simp at f
  ·cases u<;>exact f.elim
 ·rw [i.snI n d];simp [hno]
 ·rcases o with ⟨f,_⟩|⟨_,j',f,_⟩<;>omega
 ·simp at hs;subst hs;simp at d;subst d;exact k
 ·simp at hs;subst hs;simp at d;subst d;exact hg.s0
 ·exact(i.snI _ hg.s0.1).2 (.inr (by simp))
 ·rw [i.cnt,j];simp
 ·simp at hs;subst hs;simp
theorem CB.start{g:Gr}(h:g.goal g.s0=true):CB g (some []):=
 ⟨λl c=>(by cases c),⟨g.s0,rfl,h⟩,λu _ _ a=>by rcases a with b|⟨_,b⟩;(simp at b);(cases u<;>exact b.elim)⟩
end Go.Am
