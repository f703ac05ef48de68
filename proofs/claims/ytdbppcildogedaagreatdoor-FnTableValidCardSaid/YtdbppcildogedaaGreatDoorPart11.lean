/-
  The table of an automaton.
-/
import Derived.Test.YtdbppcildogedaaGreatDoorPart10
import Derived.Test.YtdbppcildogedaaGreatDoorPart9
import Derived.Test.YtdbppcildogedaaGreatDoorPart5
import Derived.Test.YtdbppcildogedaaGreatDoorPart6
set_option linter.constructorNameAsVariable false
set_option linter.unusedSimpArgs false
set_option linter.unusedVariables false
namespace Go.Am
open Go Go.Proofs
set_option maxHeartbeats 1000000
attribute [local irreducible] QOp AOp Lex LexO AWp Spec
variable {TB:Amb}
def rowF (h:Nat→Int):List C:=(List.range 6).map fun l=>.d (iD (h l))
def rowD (h:Nat→Int):List D:=(List.range 6).map fun l=>iD (h l)
theorem rowF_d (h:Nat→Int):rowF h=(rowD h).map .d:=by simp [rowF,rowD]
def rowsF {α:Type} (n:Nat) (g:Nat→α):List α:=(List.range n).map g
theorem rowsF_get {α:Type} {n q:Nat} {g:Nat→α} (h:q < n):(rowsF n g)[q]? = some (g q):=by simp [rowsF,h]
theorem rowsF_set {α:Type} {n q:Nat} {g:Nat→α} {x:α}:(rowsF n g).set q x=rowsF n fun i=>if i=q then x else g i:=by
  apply List.ext_getElem?
  intro i
  by_cases hi:i < n
  · rw [rowsF_get hi]
    by_cases hq:q=i
    · subst hq;rw [List.getElem?_set_self (by simp [rowsF,hi])];simp
    · rw [List.getElem?_set_ne hq,rowsF_get hi,if_neg (Ne.symm hq)]
  · rw [List.getElem?_eq_none (by simp [rowsF];omega),List.getElem?_eq_none (by simp [rowsF];omega)]
theorem rowsF_congr {α:Type} {n:Nat} {g g':Nat→α} (h:∀i,i < n→g i=g' i):rowsF n g=rowsF n g':=by
  unfold rowsF
  exact List.map_congr_left fun i hi=>h i (List.mem_range.1 hi)
theorem rowF_set {h:Nat→Int} {l:Nat} {v:Int} (hl:l < 6):spliceC (rowF h) (0+l*1) (eC (eI .i64 v))=rowF fun x=>if x=l then v else h x:=by
  have e:eC (eI .i64 v)=[C.d (iD v)]:=rfl
  rw [e,splice_set (by simp [rowF];omega)]
  have:=rowsF_set (n:=6) (q:=l) (g:=fun l=>C.d (iD (h l))) (x:=C.d (iD v))
  have e1:0+l*1=l:=by omega
  rw [e1]
  refine Eq.trans this (rowsF_congr fun i _=>?_)
  by_cases e:i=l<;>simp [e]
theorem rowF_congr {h h':Nat→Int} (hh:∀l,l < 6→h l=h' l):rowF h=rowF h':=rowsF_congr fun i hi=>by rw [hh i hi]
theorem lettersTo_pre (s:Int):∀(n k:Nat),k≤n→lettersTo s k <+: lettersTo s n
  | 0, k, h => by have:k=0:=by omega
                  subst this;exact List.prefix_refl _
  | n + 1,k,h=>by
    rcases Nat.lt_or_ge k (n+1) with h1|h1
    · rw [lettersTo_succ]
      exact (lettersTo_pre s n k (by omega)).trans (List.prefix_append _ _)
    · have:k=n+1:=by omega
      subst this;exact List.prefix_refl _
theorem letters_place {s:Int} {k n:Nat} {l:Int} (h:(lettersTo s n)[k]? = some l):(lettersTo s l.toNat).length=k:=by
  have h1:=lettersTo_in (List.mem_of_getElem? h)
  have h2:(lettersTo s (l.toNat+1))[(lettersTo s l.toNat).length]? = some l:=by
    rw [lettersTo_succ,if_pos h1.2.2,List.getElem?_append_right (Nat.le_refl _)]
    simp;omega
  have h3:(lettersTo s n)[(lettersTo s l.toNat).length]? = some l:=by
    obtain ⟨t,ht⟩:=lettersTo_pre s n (l.toNat+1) (by omega)
    rw [←ht,List.getElem?_append_left (List.getElem?_eq_some_iff.1 h2).1];exact h2
  have hp:=letters_sorted s n
  rw [List.pairwise_iff_getElem] at hp
  obtain ⟨a1,a2⟩:=List.getElem?_eq_some_iff.1 h
  obtain ⟨b1,b2⟩:=List.getElem?_eq_some_iff.1 h3
  rcases Nat.lt_trichotomy (lettersTo s l.toNat).length k with h4|h4|h4
  · have:=hp _ _ b1 a1 h4;omega
  · exact h4
  · have:=hp _ _ a1 b1 h4;omega
theorem mem_lettersTo {s:Int} {n l:Nat}:(l:Int)∈lettersTo s n↔l < n∧bitB s l=true:=by
  unfold lettersTo
  simp only [List.mem_map,List.mem_filter,List.mem_range]
  constructor
  · rintro ⟨a,ha,e⟩
    have:a=l:=by have e:((a:Nat):Int)=l:=e;omega
    subst this;exact ha
  · intro h;exact ⟨l,h,rfl⟩
def tbC (n:Nat) (H:Nat→Nat→Int):List (List C):=rowsF n fun i=>rowF (H i)
theorem tbC_ren (r:Nat→Nat) (n:Nat) (H:Nat→Nat→Int):(tbC n H).map (C.renL r)=tbC n H:=by
  unfold tbC rowsF
  rw [List.map_map]
  exact List.map_congr_left fun i _=>by simp only [Function.comp_def,rowF_d,renL_d]
theorem tbC_zero (n:Nat):tbC n (fun _ _=>0)=List.replicate n [C.d (D.v (Value.int IntKind.i64 0)),C.d (D.v (Value.int IntKind.i64 0)),C.d (D.v (Value.int IntKind.i64 0)),C.d (D.v (Value.int IntKind.i64 0)),C.d (D.v (Value.int IntKind.i64 0)),C.d (D.v (Value.int IntKind.i64 0))]:=by
  unfold tbC rowsF
  rw [List.map_const'];simp;exact .inr rfl
theorem tbC_get {n q:Nat} {H:Nat→Nat→Int} (h:q < n):(tbC n H)[0+((q:Nat):Int).toNat]? = some (rowF (H q)):=by
  rw [Nat.zero_add,Int.toNat_natCast];exact rowsF_get (g:=fun i=>rowF (H i)) h
theorem tbC_set {n q l:Nat} {v:Int} {H:Nat→Nat→Int} (hl:l < 6):(tbC n H).set (0+((q:Nat):Int).toNat) (spliceC (rowF (H q)) (0+((l:Nat):Int).toNat*1) (eC (eI .i64 v)))=tbC n fun i x=>if i=q∧x=l then v else H i x:=by
  rw [Nat.zero_add,Int.toNat_natCast,Int.toNat_natCast,rowF_set hl]
  unfold tbC
  rw [rowsF_set]
  refine rowsF_congr fun i _=>?_
  by_cases e:i=q
  · subst e;rw [if_pos rfl];exact rowF_congr fun l _=>by simp
  · rw [if_neg e];exact rowF_congr fun l _=>by simp [e]
theorem tbC_congr {n:Nat} {H H':Nat→Nat→Int} (h:∀i,i < n→∀l,l < 6→H i l=H' i l):tbC n H=tbC n H':=rowsF_congr fun i hi=>rowF_congr fun l hl=>h i hi l hl
theorem tbC_len (n:Nat) (H:Nat→Nat→Int):(tbC n H).length=n:=by simp [tbC,rowsF]
def tblD (a:Aut):List (List D):=rowsF a.nx.length fun q=>rowD fun l=>goA a q l
theorem tbC_d (a:Aut):tbC a.nx.length (fun i l=>goA a i l)=(tblD a).map fun r=>r.map .d:=by
  unfold tbC tblD rowsF
  rw [List.map_map]
  exact List.map_congr_left fun i _=>by simp only [Function.comp_def,rowF_d]
theorem tableOf_ok (a:Aut) (h:autOk a=true):Pure Tryz.prog TB 79 [eAut a] (.o (.d (.l (tblD a)))):=by
  have hh:=autOk_head h
  have hll:(letters a.al).length≤6:=lettersTo_len a.al 6
  refine eN Tryz.func79 rfl (by kernel_rfl) rfl ?_;intro Γ hΓ
  (repeat first|refine sN rfl ?_|((first|refine sM rfl ?_ ?_|refine s4 rfl ‹_› rfl ?_ ?_);first|exact tI|omega|simp only[oZ] at *;omega)|refine s2 rfl fun _ _hb=>?_|refine s3 rfl ?_ ?_<;>rintro rfl|refine aU rfl ?_|refine lexE ?_|refine rE (by kernel_rfl) ?_)
  (refine popO rfl ?_;refine popS (fun _ _=>q_boxI rfl rfl rfl) rfl ?_)
  (refine popO rfl ?_;refine popS (fun _ _=>q_assign rfl) rfl ?_)
  (repeat first|refine sN rfl ?_|((first|refine sM rfl ?_ ?_|refine s4 rfl ‹_› rfl ?_ ?_);first|exact tI|omega|simp only[oZ] at *;omega)|refine s2 rfl fun _ _hb=>?_|refine s3 rfl ?_ ?_<;>rintro rfl|refine aU rfl ?_|refine lexE ?_|refine rE (by kernel_rfl) ?_)
  (refine pW rfl ?_ rfl (by rfl);refine n_make rfl rfl (by rfl) (by rfl) (Nat.le_of_ble_eq_true rfl) (by omega) (by omega) (by omega) ?_)
  (repeat first|refine sN rfl ?_|((first|refine sM rfl ?_ ?_|refine s4 rfl ‹_› rfl ?_ ?_);first|exact tI|omega|simp only[oZ] at *;omega)|refine s2 rfl fun _ _hb=>?_ |refine sP rfl (lettersOf_ok a.al) rfl ?_|refine s3 rfl ?_ ?_<;>rintro rfl|refine aU rfl ?_|refine lexE ?_|refine rE (by kernel_rfl) ?_)
  refine AWp.block ?_
  refine AWp.loopL (α:={q:Nat // q≤a.nx.length}) (fun ⟨q,hq⟩=>[(1,.o (.ip (auRow a))),(3,.o (.arr 0 6 0 a.nx.length)),(4,eInts (letters a.al)),(18,eIntss a.nx),(19,eI .i64 a.nx.length),(20,eI .i64 q)]) (fun ⟨q,hq⟩=>[(0,.cells 97 6 (tbC a.nx.length fun i l=>if i < q then goA a i l else 0))]) 1 (fun ⟨q,hq⟩=>a.nx.length - q) (⟨0,by omega⟩) [0] (rl3 hΓ rfl rfl) (by (repeat' first|exact tI|rfl|refine And.intro ?_ ?_)<;>simp[cX,zC,hΓ,tbC_ren,tbC_zero]) ?_;rintro ⟨q,hq⟩;(try dsimp only)
  (repeat first|refine sN rfl ?_|((first|refine sM rfl ?_ ?_|refine s4 rfl ‹_› rfl ?_ ?_);first|exact tI|omega|simp only[oZ] at *;omega)|refine s2 rfl fun _ _hb=>?_|refine s3 rfl ?_ ?_<;>rintro rfl|refine aU rfl ?_|refine lexE ?_|refine rE (by kernel_rfl) ?_)
  (refine aC rfl ?_ ?_<;>rintro ⟨⟩)
  · have hqn : q < a.nx.length:=by first|omega|simp only[oZ] at *;omega
    obtain ⟨row,hr,hrl,hrx⟩:=autOk_row h hqn
    have hr':=get_map (g:=iiRow) hr
    refine AWp.skip ?_
    refine AWp.seq (AWp.block ?_)
    (repeat first|refine sN rfl ?_|((first|refine sM rfl ?_ ?_|refine s4 rfl ‹_› rfl ?_ ?_);first|exact tI|omega|simp only[oZ] at *;omega)|refine s2 rfl fun _ _hb=>?_|refine s3 rfl ?_ ?_<;>rintro rfl|refine aU rfl ?_|refine lexE ?_|refine rE (by kernel_rfl) ?_)
    refine AWp.block ?_
    refine AWp.loopL (α:={m:Nat // m≤6}) (fun ⟨m,hm⟩=>[(1,.o (.ip (auRow a))),(3,.o (.arr 0 6 0 a.nx.length)),(4,eInts (letters a.al)),(18,eIntss a.nx),(19,eI .i64 a.nx.length),(20,eI .i64 q),(5,eI .i64 q),(6,eInts row),(25,eI .i64 m)]) (fun ⟨m,hm⟩=>[(0,.cells 97 6 (tbC a.nx.length fun i l=>if i < q then goA a i l else if i=q∧l < m then q else 0))]) 1 (fun ⟨m,hm⟩=>6 - m) (⟨0,by omega⟩) [0] (rl3 hΓ rfl rfl) (by (repeat' first|exact tI|rfl|refine And.intro ?_ ?_)<;>simp[cX,zC,hΓ,tbC_ren]) ?_;rintro ⟨m,hm⟩;(try dsimp only)
    (repeat first|refine sN rfl ?_|((first|refine sM rfl ?_ ?_|refine s4 rfl ‹_› rfl ?_ ?_);first|exact tI|omega|simp only[oZ] at *;omega)|refine s2 rfl fun _ _hb=>?_|refine s3 rfl ?_ ?_<;>rintro rfl|refine aU rfl ?_|refine lexE ?_|refine rE (by kernel_rfl) ?_)
    (refine aC rfl ?_ ?_<;>rintro ⟨⟩)
    · have hm6:m < 6:=by first|omega|simp only[oZ] at *;omega
      have hmj:0+((m:Nat):Int).toNat*1+1≤6:=by omega
      have hg:=tbC_get (H:=fun i l=>if i < q then goA a i l else if i=q∧l < m then q else 0) hqn
      have hs:=tbC_set (n:=a.nx.length) (q:=q) (v:=q) (H:=fun i l=>if i < q then goA a i l else if i=q∧l < m then q else 0) hm6
      have hc:(tbC a.nx.length fun (i x:Nat)=>if i=q∧x=m then (q:Int) else (fun (i l:Nat)=>if i < q then goA a i l else if i=q∧l < m then (q:Int) else 0) i x)=tbC a.nx.length fun i l=>if i < q then goA a i l else if i=q∧l < m+1 then (q:Int) else 0:=tbC_congr fun i _ l _=>by dsimp only;grind
      refine AWp.skip ?_
      refine AWp.seq (AWp.block ?_)
      (repeat first|refine sN rfl ?_|((first|refine sM rfl ?_ ?_|refine s4 rfl ‹_› rfl ?_ ?_);first|exact tI|omega|simp only[oZ] at *;omega)|refine s2 rfl fun _ _hb=>?_|refine s3 rfl ?_ ?_<;>rintro rfl|refine aU rfl ?_|refine lexE ?_|refine rE (by kernel_rfl) ?_)
      (refine popO rfl ?_;refine popW0 ?_ rfl (by rfl);refine n_store rfl rfl rfl rfl (hg) rfl (hmj) ?_)
      (repeat first|refine sN rfl ?_|((first|refine sM rfl ?_ ?_|refine s4 rfl ‹_› rfl ?_ ?_);first|exact tI|omega|simp only[oZ] at *;omega)|refine s2 rfl fun _ _hb=>?_|refine s3 rfl ?_ ?_<;>rintro rfl|refine aU rfl ?_|refine lexE ?_)
      refine ⟨⟨m+1,by first|omega|simp only[oZ] at *;omega⟩,by dsimp only;(first|omega|simp only[oZ] at *;omega),[0],?_⟩
      rw [hs,hc]
      simp[cX,zC,hΓ,tbC_ren]
    · obtain rfl:m=6:=by first|omega|simp only[oZ] at *;omega
      have hc0:=tbC_congr (n:=a.nx.length) (H:=fun i l=>if i < q then goA a i l else if i=q∧l < 6 then (q:Int) else 0) (H':=fun i l=>if i < q then goA a i l else if i=q then (if (l:Int)∈(letters a.al).take 0 then goA a q l else (q:Int)) else 0) fun i _ l hl=>by simp [hl]
      rw [hc0]
      refine AWp.exit ?_
      (repeat first|refine sN rfl ?_|((first|refine sM rfl ?_ ?_|refine s4 rfl ‹_› rfl ?_ ?_);first|exact tI|omega|simp only[oZ] at *;omega)|refine s2 rfl fun _ _hb=>?_|refine s3 rfl ?_ ?_<;>rintro rfl|refine aU rfl ?_|refine lexE ?_|refine rE (by kernel_rfl) ?_)
      refine AWp.block ?_
      refine AWp.loopL (α:={k:Nat // k≤(letters a.al).length}) (fun ⟨k,hk⟩=>[(1,.o (.ip (auRow a))),(3,.o (.arr 0 6 0 a.nx.length)),(4,eInts (letters a.al)),(18,eIntss a.nx),(19,eI .i64 a.nx.length),(20,eI .i64 q),(5,eI .i64 q),(6,eInts row),(35,eInts (letters a.al)),(36,eI .i64 (letters a.al).length),(37,eI .i64 k)]) (fun ⟨k,hk⟩=>[(0,.cells 97 6 (tbC a.nx.length fun i l=>if i < q then goA a i l else if i=q then (if (l:Int)∈(letters a.al).take k then goA a q l else (q:Int)) else 0))]) 1 (fun ⟨k,hk⟩=>(letters a.al).length - k) (⟨0,by omega⟩) [0] (rl3 hΓ rfl rfl) (by (repeat' first|exact tI|rfl|refine And.intro ?_ ?_)<;>simp[cX,zC,hΓ,tbC_ren]) ?_;rintro ⟨k,hk⟩;(try dsimp only)
      (repeat first|refine sN rfl ?_|((first|refine sM rfl ?_ ?_|refine s4 rfl ‹_› rfl ?_ ?_);first|exact tI|omega|simp only[oZ] at *;omega)|refine s2 rfl fun _ _hb=>?_|refine s3 rfl ?_ ?_<;>rintro rfl|refine aU rfl ?_|refine lexE ?_|refine rE (by kernel_rfl) ?_)
      (refine aC rfl ?_ ?_<;>rintro ⟨⟩)
      · obtain ⟨l,hl⟩:=get_some (l:=letters a.al) (k:=k) (by first|omega|simp only[oZ] at *;omega)
        have hl':=get_map (g:=iRow) hl
        have hlb:=lettersTo_in (List.mem_of_getElem? hl)
        have hpl:=letters_place hl
        obtain ⟨y,hy⟩:=get_some (l:=row) (k:=k) (by first|omega|simp only[oZ] at *;omega)
        have hy':=get_map (g:=iRow) hy
        obtain ⟨m,rfl⟩:∃m:Nat,l=m:=⟨l.toNat,by omega⟩
        have hgo:goA a q m=y:=by
          unfold goA
          rw [if_pos hlb.2.2,hpl];simp [List.getD,hr,hy]
        have hm6:m < 6:=by omega
        have hmj:0+((m:Nat):Int).toNat*1+1≤6:=by omega
        have hg:=tbC_get (H:=fun i l=>if i < q then goA a i l else if i=q then (if (l:Int)∈(letters a.al).take k then goA a q l else (q:Int)) else 0) hqn
        have hs:=tbC_set (n:=a.nx.length) (q:=q) (v:=y) (H:=fun i l=>if i < q then goA a i l else if i=q then (if (l:Int)∈(letters a.al).take k then goA a q l else (q:Int)) else 0) hm6
        have hc:(tbC a.nx.length fun (i x:Nat)=>if i=q∧x=m then y else (fun (i l:Nat)=>if i < q then goA a i l else if i=q then (if (l:Int)∈(letters a.al).take k then goA a q l else (q:Int)) else 0) i x)=tbC a.nx.length fun i l=>if i < q then goA a i l else if i=q then (if (l:Int)∈(letters a.al).take (k+1) then goA a q l else (q:Int)) else 0:=tbC_congr fun i _ l _=>by
          try dsimp only
          rw [List.take_add_one,hl]
          by_cases e:i=q
          · subst e
            by_cases e2:l=m
            · subst e2;simp [hgo]
            · have e3:¬(l:Int)=(m:Int):=by omega
              simp [e2,e3]
          · simp [e]
        refine AWp.skip ?_
        refine AWp.seq (AWp.block ?_)
        (repeat first|refine sN rfl ?_|((first|refine sM rfl ?_ ?_|refine s4 rfl ‹_› rfl ?_ ?_);first|exact tI|omega|simp only[oZ] at *;omega)|refine s2 rfl fun _ _hb=>?_|refine s3 rfl ?_ ?_<;>rintro rfl|refine aU rfl ?_|refine lexE ?_)
        refine rG (flN [9]) (by kernel_rfl) ?_
        (repeat first|refine sN rfl ?_|((first|refine sM rfl ?_ ?_|refine s4 rfl ‹_› rfl ?_ ?_);first|exact tI|omega|simp only[oZ] at *;omega)|refine s2 rfl fun _ _hb=>?_|refine s3 rfl ?_ ?_<;>rintro rfl|refine aU rfl ?_|refine lexE ?_|refine rE (by kernel_rfl) ?_)
        (refine popO rfl ?_;refine popW0 ?_ rfl (by rfl);refine n_store rfl rfl rfl rfl (hg) rfl (hmj) ?_)
        (repeat first|refine sN rfl ?_|((first|refine sM rfl ?_ ?_|refine s4 rfl ‹_› rfl ?_ ?_);first|exact tI|omega|simp only[oZ] at *;omega)|refine s2 rfl fun _ _hb=>?_|refine s3 rfl ?_ ?_<;>rintro rfl|refine aU rfl ?_|refine lexE ?_)
        refine ⟨⟨k+1,by first|omega|simp only[oZ] at *;omega⟩,by dsimp only;(first|omega|simp only[oZ] at *;omega),[0],?_⟩
        rw [hs,hc]
        simp[cX,zC,hΓ,tbC_ren]
      · obtain rfl:k=(letters a.al).length:=by first|omega|simp only[oZ] at *;omega
        have hc0:=tbC_congr (n:=a.nx.length) (H:=fun i l=>if i < q then goA a i l else if i=q then (if (l:Int)∈(letters a.al).take (letters a.al).length then goA a q l else (q:Int)) else 0) (H':=fun i l=>if i < q+1 then goA a i l else 0) fun i _ l hl=>by
          try dsimp only
          rw [List.take_length]
          by_cases e:i=q
          · subst e
            simp only [Nat.lt_irrefl,if_false,if_true,Nat.lt_succ_self]
            by_cases e2:bitB a.al l=true
            · rw [if_pos (mem_lettersTo.2 ⟨hl,e2⟩)]
            · rw [if_neg (fun h=>e2 (mem_lettersTo.1 h).2)];unfold goA;rw [if_neg (by simpa using e2)]
          · by_cases e2:i < q
            · rw [if_pos e2,if_pos (by omega)]
            · rw [if_neg e2,if_neg e,if_neg (by omega)]
        rw [hc0]
        refine AWp.exit ?_
        (repeat first|refine sN rfl ?_|((first|refine sM rfl ?_ ?_|refine s4 rfl ‹_› rfl ?_ ?_);first|exact tI|omega|simp only[oZ] at *;omega)|refine s2 rfl fun _ _hb=>?_|refine s3 rfl ?_ ?_<;>rintro rfl|refine aU rfl ?_|refine lexE ?_|refine rE (by kernel_rfl) ?_)
        refine ⟨⟨q+1,by first|omega|simp only[oZ] at *;omega⟩,by dsimp only;(first|omega|simp only[oZ] at *;omega),[0],?_⟩
        simp[cX,zC,hΓ,tbC_ren]
  · obtain rfl:q=a.nx.length:=by first|omega|simp only[oZ] at *;omega
    have hc:=tbC_congr (n:=a.nx.length) (H:=fun i l=>if i < a.nx.length then goA a i l else 0) (H':=fun i l=>goA a i l) fun i hi l _=>by rw [if_pos hi]
    rw [hc]
    refine AWp.exit ?_
    (repeat first|refine sN rfl ?_|((first|refine sM rfl ?_ ?_|refine s4 rfl ‹_› rfl ?_ ?_);first|exact tI|omega|simp only[oZ] at *;omega)|refine s2 rfl fun _ _hb=>?_|refine s3 rfl ?_ ?_<;>rintro rfl|refine aU rfl ?_|refine lexE ?_|refine rE (by kernel_rfl) ?_)
    refine AWp.freeze [0] [(2,.o (.d (.l (tblD a))))] ⟨⟨_,rfl,.o (.full (by simp) rfl (tbC_d a) (by simp [tbC_len]))⟩,trivial⟩ ?_
    refine AWp.ret ⟨_,rfl,rfl⟩
end Go.Am
namespace Go.Am
open Go
end Go.Am
namespace Go.Am
open Go Go.Proofs
set_option maxHeartbeats 1000000
attribute [local irreducible] QOp AOp Lex LexO AWp Spec
variable {TB:Amb}
theorem q_loadIp0 {P:Program} {Γ:Ctx} {d:Option Tmp} {ty:TypeId} {pos:String} {af:Array Edge} {g:Option (Nat×Bool)} {f:Env} {σ:Store} {nx:Nat} {t:TypeId} {x:Operand} {c:D} {cs:List D} {n:Nat} [hl:HasLd P t false n] (hx:ev f x=some (.o (.ip cs))) (hc:cs[0]? = some c):QOp P TB Γ ⟨d,.load t x,ty,pos,af,g⟩ f σ nx (.o (.d c)):=by
  cases cs with
  | nil=>cases hc
  | cons a l=>injection hc with hc;subst hc;exact q_loadIp hx
theorem mv_get {es:List Edg} {q l:Int} (h0:0≤q∧q < 16) (h1:0≤l∧l < 6):(((mvRow es).drop (q.toNat*6)).drop (l.toNat*1))[0]? = some (iD (setN (toL es q.toNat l.toNat):Nat)):=by
  rw [List.getElem?_drop,List.getElem?_drop,mvRow_get (by omega)]
  have e1:(q.toNat*6+(l.toNat*1+0)) / 6=q.toNat:=by omega
  have e2:(q.toNat*6+(l.toNat*1+0)) % 6=l.toNat:=by omega
  rw [e1,e2]
end Go.Am
namespace Go.Am
open Go
structure Stp where
  p:Int
  l:Int
  ns:List Int
structure VSt where
  seen:List Bool
  fresh:List Int
  found:Bool
def sn (seen:List Bool) (n:Int):Bool:=seen.getD n.toNat false
structure VOk (goal:Int→Bool) (N:Nat) (seen:List Bool) (nodes:List Int) (st:VSt):Prop where
  len:st.seen.length=N
  snI:∀n:Int,0≤n→(sn st.seen n=true↔sn seen n=true∨n∈nodes)
  fr:∀n:Int,n∈st.fresh↔n∈nodes∧sn seen n=false
  nd:st.fresh.Nodup
  fd:st.found=st.fresh.any goal
  cnt:st.seen.count true=seen.count true+st.fresh.length
structure FI (g:Gr) (seen:List Bool) (steps:List Stp) (ws:List (List Int)) (i j:Nat):Prop where
  slen:seen.length=g.N
  wlen:ws.length=steps.length
  chain:∀(t:Nat) s,steps[t]? = some s→(s.p = -1∧ws[t]? = some [])∨∃(q:Nat) (w:List Int),s.p=(q:Int)∧q < t∧ws[q]? = some w∧ws[t]? = some (w++[s.l])∧s.l∈g.ls
  rch:∀(t:Nat) s w,steps[t]? = some s→ws[t]? = some w→∀n∈s.ns,reach g w g.s0 n
  ov:∀w∈ws,over g w
  min:∀(t:Nat) s w,steps[t]? = some s→ws[t]? = some w→∀n∈s.ns,∀u,over g u→slt u w→¬reach g u g.s0 n
  ord:ws.Pairwise slt
  par:∀w∈ws,w=[]∨∃(p:Nat) (v:List Int) (l:Int),ws[p]? = some v∧w=v++[l]∧l∈g.ls∧(p < i∨p=i∧∃j',j' < j∧g.ls[j']? = some l)
  snI:∀n:Int,0≤n→(sn seen n=true↔∃s∈steps,n∈s.ns)
  done:∀(t:Nat) s,steps[t]? = some s→∀l,(t < i∧l∈g.ls∨t=i∧∃j',j' < j∧g.ls[j']? = some l)→∀n∈s.ns,∀y∈g.succ n l,sn seen y=true
  nogoal:∀s∈steps,∀n∈s.ns,g.goal n=false
  inn:∀s∈steps,∀n∈s.ns,0≤n∧n < g.N
  start:sn seen g.s0=true
  cnt:steps.length≤seen.count true
  le:i≤steps.length
  nd:∀s∈steps,s.ns.Nodup
structure Chain (ls:List Int) (steps:List Stp) (ws:List (List Int)):Prop where
  wlen:ws.length=steps.length
  chain:∀(t:Nat) s,steps[t]? = some s→(s.p = -1∧ws[t]? = some [])∨∃(q:Nat) (w:List Int),s.p=(q:Int)∧q < t∧ws[q]? = some w∧ws[t]? = some (w++[s.l])∧s.l∈ls
end Go.Am
namespace Go.Am
open Go Go.Proofs
set_option maxHeartbeats 1000000
attribute [local irreducible] QOp AOp Lex LexO AWp Spec
variable {TB:Amb}
theorem renL_byC (r:Nat→Nat) (c:UInt8):C.renL r (byC c)=byC c:=rfl
theorem ren_by (r:Nat→Nat) (n:Nat) (H:Nat→UInt8):(rowsF n fun i=>byC (H i)).map (C.renL r)=rowsF n fun i=>byC (H i):=by
  unfold rowsF
  rw [List.map_map]
  exact List.map_congr_left fun i _=>rfl
theorem getA_by {n q:Nat} {H:Nat→UInt8} (h:q < n):(rowsF n fun i=>byC (H i))[0+((q:Nat):Int).toNat]? = some (byC (H q)):=by
  rw [Nat.zero_add,Int.toNat_natCast];exact rowsF_get (g:=fun i=>byC (H i)) h
theorem setA_by {n q:Nat} {H:Nat→UInt8} {c d:UInt8}:(rowsF n fun i=>byC (H i)).set (0+((q:Nat):Int).toNat) (spliceC (byC d) 0 (eC (eI .u8 (c.toNat:Nat))))=rowsF n fun i=>byC (if i=q then c else H i):=by
  rw [Nat.zero_add,Int.toNat_natCast]
  have e:spliceC (byC d) 0 (eC (eI .u8 (c.toNat:Nat)))=byC c:=rfl
  rw [e,rowsF_set]
  refine rowsF_congr fun i _=>?_
  by_cases h:i=q<;>simp [h]
theorem tbl_get {a:Aut} {q:Nat} (h:q < a.nx.length):(tblD a)[q]? = some (rowD fun l=>goA a q l):=rowsF_get (g:=fun q=>rowD fun l=>goA a q l) h
theorem rowD_get {h:Nat→Int} {l:Int} (h0:0≤l) (h1:l < 6):((rowD h).drop (l.toNat*1))[0]? = some (iD (h l.toNat)):=by
  rw [List.getElem?_drop]
  have h2:l.toNat*1+0=l.toNat:=by omega
  have h3:l.toNat < 6:=by omega
  rw [h2]
  simp [rowD,h3]
end Go.Am
namespace Go.Am
open Go
end Go.Am
namespace Go.Am
open Go Go.Proofs
set_option maxHeartbeats 1000000
attribute [local irreducible] QOp AOp Lex LexO AWp Spec
variable {TB:Amb}
end Go.Am
namespace Go.Proofs.YtdbppcildogedaaGreatDoor
open Go Go.Am Go.ChangeShapes Go.WideShapes Go.ChangeAt Go.RowKit
def zsOf (l:List Value):List Int:=l.map fun v=>match v with|.int _ n=>n|_=>0
theorem tab_obj {P:Program} {W:World} {name:String} {g:Nat} {t e:TypeId} {n:Nat} {zs:List Int} {fuel:Nat} {cs:Array Value} {p:List MemPlace} (hg:P.globalNamed name=some g) (ht:P.underlying t=some (.array n e)) (he:P.underlying e=some (.int .u8)) (hce:P.cellsOf e=1) (hct:P.cellsOf t=n)
    (hv:W.var? P name=some cs) (hd:DataW.trod (fun _=>()) P W 0 (fun _=>true) false fuel t cs.toList=some (Lib.tabData .u8 zs,p)):∃T fr,W.heap[g]? = some (.cells (zs.map fun z=>Value.int .u8 z).toArray T fr):=by
  have h:=Lib.cells_of_tab ht he hce hct hd
  unfold World.var? at hv
  rw [hg] at hv
  simp only [Option.bind_some] at hv
  split at hv
  · rename_i c T fr hh
    injection hv with hv
    subst hv
    refine ⟨T,fr,?_⟩
    rw [hh,←h]
  · cases hv
theorem tables {W:World} (h:laidMetH Tryz.prog Rows.fnTableValidRow.laid W):∃tabs:List (Nat×Obj),Tabs ⟨tabs,none⟩∧∀x∈(⟨tabs,none⟩:Amb),below W x.1∧W.heap[x.1]? = some x.2:=by
  have h:laidMet Tryz.prog Rows.fnTableValidRow.laid W:=h
  obtain ⟨ps,⟨g0,t0,cs0,f0,p0,q0,hg0,ht0,hv0,hd0,⟨g1,t1,cs1,f1,p1,q1,hg1,ht1,hv1,hd1,_,_⟩,_⟩,_,_⟩:=h
  have k0:Tryz.prog.globalNamed "math/bits.deBruijn32tab" = some 0:=by kernel_rfl
  have k1:Tryz.prog.globalNamed "math/bits.deBruijn64tab" = some 1:=by kernel_rfl
  obtain rfl:=Option.some.inj (k0.symm.trans hg0)
  obtain rfl:=Option.some.inj (k1.symm.trans hg1)
  have l0:(Tryz.prog.globals[0]?).map (·.type)=some 188:=by kernel_rfl
  have l1:(Tryz.prog.globals[1]?).map (·.type)=some 189:=by kernel_rfl
  obtain rfl:=Option.some.inj (l0.symm.trans ht0)
  obtain rfl:=Option.some.inj (l1.symm.trans ht1)
  obtain ⟨T0,fr0,h0⟩:=tab_obj (zs:=zsOf tabdeBruijn32tab) k0 Tryz.underlying188 Tryz.underlying5 (by kernel_rfl) (by kernel_rfl) hv0 hd0
  obtain ⟨T1,fr1,h1⟩:=tab_obj (zs:=zsOf tabdeBruijn64tab) k1 Tryz.underlying189 Tryz.underlying5 (by kernel_rfl) (by kernel_rfl) hv1 hd1
  refine ⟨[(0,.cells ((zsOf tabdeBruijn32tab).map fun z=>Value.int .u8 z).toArray T0 fr0),(1,.cells ((zsOf tabdeBruijn64tab).map fun z=>Value.int .u8 z).toArray T1 fr1)],⟨⟨⟨_,_,_,List.mem_cons_self,fun i v hv=>?_⟩,by decide⟩,⟨⟨_,_,_,List.mem_cons_of_mem _ List.mem_cons_self,fun i v hv=>?_⟩,by decide⟩⟩,?_⟩
  · have:tabdeBruijn32tab=(zsOf tabdeBruijn32tab).map fun z=>Value.int .u8 z:=rfl
    rw [List.getElem?_toArray,←this];exact hv
  · have:tabdeBruijn64tab=(zsOf tabdeBruijn64tab).map fun z=>Value.int .u8 z:=rfl
    rw [List.getElem?_toArray,←this];exact hv
  · intro x hx
    have hx:x∈[_,_]:=hx
    simp only [List.mem_cons,List.not_mem_nil,or_false] at hx
    rcases hx with rfl|rfl
    · exact ⟨(Array.getElem?_eq_some_iff.1 h0).1,h0⟩
    · exact ⟨(Array.getElem?_eq_some_iff.1 h1).1,h1⟩
end Go.Proofs.YtdbppcildogedaaGreatDoor
namespace Go.Am
open Go
set_option linter.unusedVariables false
theorem iAnd_nat {a b:Nat} (ha:a < 2 ^ 62) (hb:b < 2 ^ 62):iAnd .i64 a b=((a &&& b:Nat):Int):=by
  have h0:a &&& b≤a:=Nat.and_le_left
  unfold iAnd
  have h1:(BitVec.ofInt IntKind.i64.bits (a:Int) &&& BitVec.ofInt IntKind.i64.bits (b:Int)).toNat=a &&& b:=by
    have e:IntKind.i64.bits=64:=rfl
    rw [e]
    simp only [BitVec.toNat_and,BitVec.ofInt_natCast,BitVec.toNat_ofNat]
    rw [Nat.mod_eq_of_lt (by omega),Nat.mod_eq_of_lt (by omega)]
  rw [h1]
  exact IntWalk.i64_in _ (by omega)
theorem fdiv_nat (s n:Nat):((s:Nat):Int).fdiv (2 ^ n)=((s / 2 ^ n:Nat):Int):=by
  have h:(0:Int)≤2 ^ n:=Int.le_of_lt (Int.pow_pos (by omega))
  rw [Int.fdiv_eq_ediv_of_nonneg _ h]
  push_cast
  rfl
theorem bitB_nat {s n:Nat} (hs:s < 2 ^ 62) (hn:n < 64):bitB (s:Nat) n=s.testBit n:=by
  unfold bitB
  have e:min n 64=n:=by omega
  rw [e,fdiv_nat]
  have h1:s / 2 ^ n≤s:=Nat.div_le_self _ _
  have h2:=iAnd_nat (a:=s / 2 ^ n) (b:=1) (by omega) (by omega)
  rw [show ((1:Nat):Int)=1 from rfl] at h2
  rw [h2,Nat.testBit_eq_decide_div_mod_eq,Nat.and_one_is_mod]
  congr 1
  rw [eq_iff_iff]
  omega
theorem sub_iff {s a:Nat}:s &&& a=s↔∀n,s.testBit n=true→a.testBit n=true:=by
  constructor
  · intro h n hn
    have:=congrArg (·.testBit n) h
    simp only [Nat.testBit_and,hn,Bool.true_and] at this
    exact this
  · intro h
    apply Nat.eq_of_testBit_eq
    intro n
    rw [Nat.testBit_and]
    cases hs:s.testBit n
    · rfl
    · rw [h n hs];rfl
abbrev Wd:=List UInt8
def chOk (c:UInt8):Bool:=decide (97≤c.toNat∧c.toNat < 103)
def wordOk (w:Wd):Bool:=decide (w.length≤50000) && w.all chOk
def setW (w:Wd):Nat:=w.foldl (fun s c=>s ||| 2 ^ (c.toNat - 97)) 0
def inAl (al:Int) (c:UInt8):Bool:=chOk c && bitB al (c.toNat - 97)
def within (w:Wd) (al:Int):Bool:=decide (w.length≤50000) && (alphB al && w.all (inAl al))
theorem fold_bit (n:Nat):∀(w:Wd) (s:Nat),(w.foldl (fun s c=>s ||| 2 ^ (c.toNat - 97)) s).testBit n=(s.testBit n || w.any fun c=>decide (c.toNat - 97=n))
  | [],s=>by simp
  | c::w,s=>by
    rw [List.foldl_cons,fold_bit n w,Nat.testBit_or,Nat.testBit_two_pow,List.any_cons,Bool.or_assoc]
theorem setW_bit (w:Wd) (n:Nat):(setW w).testBit n=w.any fun c=>decide (c.toNat - 97=n):=by
  unfold setW;rw [fold_bit];simp
theorem setW_lt:∀ {w:Wd} {s:Nat},w.all chOk=true→s < 64→w.foldl (fun s c=>s ||| 2 ^ (c.toNat - 97)) s < 64
  | [],s,_,hs=>hs
  | c::w,s,h,hs=>by
    simp only [List.all_cons,Bool.and_eq_true] at h
    rw [List.foldl_cons]
    refine setW_lt h.2 ?_
    have h1:=h.1
    unfold chOk at h1
    simp only [decide_eq_true_eq] at h1
    have h2:2 ^ (c.toNat - 97) < 2 ^ 6:=Nat.pow_lt_pow_right (by omega) (by omega)
    exact Nat.or_lt_two_pow (n:=6) hs h2
theorem setW_in {w:Wd} {al:Int} (hw:w.all chOk=true) (ha:alphB al=true):decide (iAnd .i64 (setW w:Nat) al=(setW w:Nat))=w.all (inAl al):=by
  have hs:setW w < 64:=setW_lt hw (by omega)
  unfold alphB at ha
  simp only [decide_eq_true_eq] at ha
  obtain ⟨a,rfl⟩:∃a:Nat,al=a:=⟨al.toNat,by omega⟩
  rw [iAnd_nat (by omega) (by omega)]
  rw [Bool.eq_iff_iff,decide_eq_true_eq,List.all_eq_true]
  have h1:((setW w &&& a:Nat):Int)=(setW w:Nat)↔setW w &&& a=setW w:=by omega
  rw [h1,sub_iff]
  rw [List.all_eq_true] at hw
  constructor
  · intro h c hc
    have h2:=hw c hc
    unfold inAl
    rw [h2,Bool.true_and]
    unfold chOk at h2
    simp only [decide_eq_true_eq] at h2
    rw [bitB_nat (by omega) (by omega)]
    refine h _ ?_
    rw [setW_bit,List.any_eq_true]
    exact ⟨c,hc,by simp⟩
  · intro h n hn
    rw [setW_bit,List.any_eq_true] at hn
    obtain ⟨c,hc,hcn⟩:=hn
    simp only [decide_eq_true_eq] at hcn
    have h2:=hw c hc
    have h3:=h c hc
    unfold inAl at h3
    rw [h2,Bool.true_and] at h3
    unfold chOk at h2
    simp only [decide_eq_true_eq] at h2
    rw [bitB_nat (by omega) (by omega),hcn] at h3
    exact h3
theorem within_all {w:Wd} {al:Int} (h:w.all (inAl al)=true):w.all chOk=true:=by
  rw [List.all_eq_true] at *
  intro c hc
  have:=h c hc
  unfold inAl at this
  simp only [Bool.and_eq_true] at this
  exact this.1
inductive FL (σ:Store) (ids:List Nat):List C→List C→Prop
  | nil:FL σ ids [] []
  | cons {c c':C} {cs cs':List C}:FC σ ids c c'→FL σ ids cs cs'→FL σ ids (c::cs) (c'::cs')
theorem FL.len {σ:Store} {ids:List Nat} {l l':List C} (h:FL σ ids l l'):l'.length=l.length:=by
  induction h with
  | nil=>rfl
  | cons _ _ ih=>simp [ih]
theorem FL.get {σ:Store} {ids:List Nat} {l l':List C} (h:FL σ ids l l'):∀(j:Nat) c',l'[j]? = some c'→∃c,l[j]? = some c∧FC σ ids c c':=by
  induction h with
  | nil=>intro j c' h;simp at h
  | @cons c0 c0' cs cs' h1 _ ih=>
    intro j c' hj
    cases j with
    | zero=>simp at hj;subst hj;exact ⟨c0,rfl,h1⟩
    | succ j=>exact ih j c' (by simpa using hj)
def StFrz (σ:Store) (ids:List Nat):Store→Prop
  | []=>True
  | (id,.cells T k [r'])::S=>(∃r,look σ id=some (.cells T k [r])∧id∉ids∧FL σ ids r r')∧StFrz σ ids S
  | _=>False
theorem StFrz.get {σ:Store} {ids:List Nat}:∀ {S:Store},StFrz σ ids S→∀id o',look S id=some o'→∃T k r r',o'=.cells T k [r']∧look σ id=some (.cells T k [r])∧id∉ids∧FL σ ids r r'
  | [],_,id,o',h=>by cases h
  | (i, o)::S,hs,id,o',h=>by
    match o,hs with
    | .cells T k [r'],hs=>
      rw [look_cons] at h
      by_cases hi:i=id
      · rw [if_pos hi] at h
        injection h with h
        subst h;subst hi
        obtain ⟨r,h1,h2,h3⟩:=hs.1
        exact ⟨T,k,r,r',rfl,h1,h2,h3⟩
      · rw [if_neg hi] at h
        exact StFrz.get hs.2 id o' h
section
variable {P:Program} {TB:Amb} {Γ:Ctx} {N:Nat} {σ:Store}
theorem RelSt.freezeS {V:View} {f:Env} {nx:Nat} {a:Act} (h:RelSt TB Γ N V f σ nx a) (ids:List Nat) (L:List (Nat×E)) (S:Store) (hE:EnvFrz σ ids f L) (hS:StFrz σ ids S):RelSt TB Γ N (frzV V σ ids) (look L) S nx a:=by
  have e:Ext V (frzV V σ ids):=frz_ext
  have hi:=h.inv
  refine ⟨fun t x hx=>?_,fun t x hx=>?_,h.size,?_,h.nx,h.defers⟩
  · obtain ⟨y,h1,h2⟩:=hE.get t x hx
    exact h2.rel h.inv (h.env t y h1)
  · obtain ⟨y,h1,_⟩:=hE.get t x hx
    exact h.lt t y h1
  · refine ⟨hi.os,hi.tape,hi.output,hi.old,?_,?_,hi.ext.trans e,⟨?_,?_,?_,?_⟩,?_,fun x hx=>⟨.inl (hi.tabs x hx).1,(hi.tabs x hx).2⟩,hi.hid.same rfl (fun _ h=>.inl h) (fun b hb=>hb.elim .inl fun ⟨id,o,_,hl,hn,he⟩=>.inr ⟨id,o,hl,hn,he⟩) fun b ⟨id,o,hl,hn,hb⟩=>?_⟩
    · rintro b (hb|⟨id,o,_,hl,hn,hb⟩)
      · exact hi.iLt b hb
      · exact (hi.st.obj id o hl).blt hn hb
    · rintro b (hb|⟨id,o,_,hl,hn,hb⟩)
      · exact hi.iNew b hb
      · exact .inr (hi.live id o hl hn b hb)
    · intro id o hl
      obtain ⟨T,k,r,r',rfl,h1,h2,h3⟩:=hS.get id o hl
      rcases hi.st.obj id _ h1 with ⟨h4,h5⟩|⟨h0,cur,h4,h5,h6,h7,h8,h9⟩
      · cases h5
      · refine .inr ⟨h0,cur,h4,h5,h6,h7,fun x hx=>?_,fun i x j c' hix hj=>?_⟩
        · simp at hx;subst hx;rw [h3.len];exact h8 r (by simp)
        · have hi0:i=0:=by have:=(List.getElem?_eq_some_iff.1 hix).1;simp at this;omega
          subst hi0
          simp at hix
          subst hix
          obtain ⟨c,hc,hf⟩:=h3.get j c' hj
          obtain ⟨v,h10,h11⟩:=h9 0 r j c rfl hc
          exact ⟨v,h10,hf.rel hi h11⟩
    · intro id o hl
      obtain ⟨T,k,r,r',_,h1,_,_⟩:=hS.get id o hl
      exact hi.st.lt id _ h1
    · intro id o hl hn b hb' hb
      obtain ⟨T,k,r,r',rfl,h1,h2,_⟩:=hS.get id o hl
      rcases hb with hb|⟨id',o',hm,hl',hn',he⟩
      · exact hi.st.free id _ h1 hn b hb' hb
      · exact hi.st.inj id id' _ o' h1 hl' (fun e=>h2 (e ▸ hm)) hn hn' b hb' he
    · intro id id' o o' hl hl' hne hn hn' b hb hb'
      obtain ⟨T,k,r,r',rfl,h1,_,_⟩:=hS.get id o hl
      obtain ⟨T2,k2,r2,r2',rfl,h12,_,_⟩:=hS.get id' o' hl'
      exact hi.st.inj id id' _ _ h1 h12 hne hn hn' b hb hb'
    · intro id o hl hn b hb
      obtain ⟨T,k,r,r',rfl,h1,_,_⟩:=hS.get id o hl
      exact hi.live id _ h1 hn b hb
    · obtain ⟨T,k,r,r',rfl,h1,_,_⟩:=hS.get id o hl
      exact ⟨id,_,h1,hn,hb⟩
theorem AWp.freezeS {c:Code} {Q:Exit→Env→Store→Nat→Prop} {f:Env} {nx:Nat} (ids:List Nat) (L:List (Nat×E)) (S:Store) (hE:EnvFrz σ ids f L) (hS:StFrz σ ids S) (h:AWp P TB Γ N c Q (look L) S nx):AWp P TB Γ N c Q f σ nx:=
  fun V a hr=>h (frzV V σ ids) a (hr.freezeS ids L S hE hS)
end
end Go.Am
namespace Go.Am
set_option linter.unusedVariables false
abbrev W:=List UInt8
structure Tab where
  rows:List W
  cols:List W
def mkB (b:Bool):UInt8:=if b then 43 else 45
def marks (L:W→Bool) (cols:List W) (w:W):W:=cols.map fun c=>mkB (L (w++c))
def rowsM (L:W→Bool) (t:Tab):List W:=t.rows.map (marks L t.cols)
def nextsB (ls:List UInt8) (rows:List W):List W:=rows.flatMap fun r=>ls.map fun l=>r++[l]
def openW (L:W→Bool) (ls:List UInt8) (t:Tab):Option W:=(nextsB ls t.rows).find? fun w=>!(rowsM L t).contains (marks L t.cols w)
def closeN (L:W→Bool) (ls:List UInt8):Nat→Tab→Option Tab
  | 0,_=>none
  | n+1,t=>match openW L ls t with
    | none=>some t
    | some w=>if t.rows.length=12 then none else closeN L ls n ⟨t.rows++[w],t.cols⟩
def wordOn (ls:List UInt8) (w:W):Prop:=∀c∈w,c∈ls
structure TOk (L:W→Bool) (ls:List UInt8) (t:Tab):Prop where
  r0:t.rows[0]? = some []
  c0:t.cols[0]? = some []
  pre:∀(i:Nat) w,t.rows[i]? = some w→0 < i→w≠[]∧∃j,j < i∧t.rows[j]? = some w.dropLast
  onR:∀w∈t.rows,wordOn ls w
  onC:∀c∈t.cols,wordOn ls c
  nd:(rowsM L t).Nodup
  ndC:t.cols.Nodup
theorem openW_some {L:W→Bool} {ls:List UInt8} {t:Tab} {w:W} (h:openW L ls t=some w):(∃r∈t.rows,∃l∈ls,w=r++[l])∧marks L t.cols w∉rowsM L t:=by
  have h1:=List.find?_some h
  have h2:=List.mem_of_find?_eq_some h
  unfold nextsB at h2
  simp only [List.mem_flatMap,List.mem_map] at h2
  obtain ⟨r,hr,l,hl,rfl⟩:=h2
  exact ⟨⟨r,hr,l,hl,rfl⟩,by simpa using h1⟩
structure Fin (L:W→Bool) (ls:List UInt8) (n:Nat) where
  st:W→Nat
  lt:∀w,wordOn ls w→st w < n
  same:∀u w v,wordOn ls u→wordOn ls w→wordOn ls v→st u=st w→L (u++v)=L (w++v)
def idxM (L:W→Bool) (t:Tab) (w:W):Nat:=(rowsM L t).idxOf (marks L t.cols w)
def runM (L:W→Bool) (t:Tab):Nat→W→Nat
  | i,[]=>i
  | i,c::w=>runM L t (idxM L t ((t.rows.getD i [])++[c])) w
structure Closed (L:W→Bool) (ls:List UInt8) (t:Tab):Prop extends TOk L ls t where
  cl:∀r∈t.rows,∀l∈ls,marks L t.cols (r++[l])∈rowsM L t
def splitAt (L:W→Bool) (t:Tab) (b:Bool):Nat→W→Option W
  | _,[]=>none
  | i,c::v=>if L (t.rows.getD (idxM L t ((t.rows.getD i [])++[c])) []++v)≠b then some v else splitAt L t b (idxM L t ((t.rows.getD i [])++[c])) v
end Go.Am
namespace Go.Am
open Go Go.Proofs
set_option maxHeartbeats 1000000
attribute [local irreducible] QOp AOp Lex LexO AWp Spec
variable {TB:Amb}
abbrev taRow (t:Tab):List D:=[tList t.rows,tList t.cols]
abbrev eTab (t:Tab):E:=.a [.d (tList t.rows),.d (tList t.cols)]
abbrev eOra (al:Int) (c:C):E:=.a [.d (iD al),c]
mutual
theorem ren_pur:∀(c:C),c.pur=true→∀r,c.ren r=c
  | .d x,_,r=>rfl
  | .fn g cap,h,r=>by
    simp only [C.pur] at h
    simp only [C.ren,renL_pur cap h r]
  | .arr ..,h,_=>by cases h
  | .ptr ..,h,_=>by cases h
  | .mp ..,h,_=>by cases h
  | .mv g l,h,r=>by
    simp only [C.pur] at h
    simp only [C.ren,renL_pur l h r]
theorem renL_pur:∀(l:List C),C.purL l=true→∀r,C.renL r l=l
  | [],_,r=>rfl
  | c::l,h,r=>by
    simp only [C.purL,Bool.and_eq_true] at h
    simp only [C.renL,ren_pur c h.1 r,renL_pur l h.2 r]
end
structure AskV (P:Program) (TB:Amb) (c:C) (L:W→Bool) (ok:W→Prop):Prop where
  pur:c.pur=true
  ask:∀ {Γ:Ctx} {d:Option Tmp} {ty:TypeId} {pos:String} {af:Array Edge} {g:Option (Nat×Bool)} {f:Env} {σ:Store} {nx:Nat} {x a:Operand} {tys:Array TypeId} {w:W},
    ev f x=some (.o c)→ev f a=some (eT w)→ok w→QOp P TB Γ ⟨d,.call ⟨.value x,#[a],tys⟩,ty,pos,af,g⟩ f σ nx (eB (L w))
theorem AskV.of {P:Program} {g:FuncId} {cap:List C} {L:W→Bool} {ok:W→Prop} (hc:C.purL cap=true) (h:∀w,ok w→Pure P TB g ([eT w]++cap.map .o) (eB (L w))):AskV P TB (.fn g cap) L ok:=
  ⟨hc,fun hx ha hw=>q_call (es:=[eT _]) hx (by simp [evs,ha]) (by simp [E.pur,C.pur,hc]) (h _ hw) rfl⟩
def mkH (L:W→Bool) (cols:List W) (w:W) (k:Nat) (i:Nat):UInt8:=if i < k then mkB (L (w++cols.getD i [])) else 0
theorem marks_rows (L:W→Bool) (cols:List W) (w:W):(rowsF cols.length fun i=>byC (mkH L cols w cols.length i))=(marks L cols w).map byC:=by
  apply List.ext_getElem?
  intro i
  by_cases h:i < cols.length
  · rw [rowsF_get h]
    simp [marks,mkH,h]
  · rw [List.getElem?_eq_none (by simp [rowsF];omega),List.getElem?_eq_none (by simp [marks];omega)]
theorem byC0:byC 0=[C.d (D.v (Value.int IntKind.u8 0))]:=rfl
theorem mkH_0 (L:W→Bool) (cols:List W) (w:W) (n:Nat):(rowsF n fun i=>byC (mkH L cols w 0 i))=List.replicate n (byC 0):=by
  apply List.ext_getElem?
  intro i
  by_cases h:i < n
  · rw [rowsF_get h];simp [mkH,h]
  · rw [List.getElem?_eq_none (by simp [rowsF];omega),List.getElem?_eq_none (by simp;omega)]
theorem mkH_step {L:W→Bool} {cols:List W} {w x:W} {k:Nat} (hx:cols[k]? = some x):(rowsF cols.length fun i=>byC (if i=k then mkB (L (w++x)) else mkH L cols w k i))=rowsF cols.length fun i=>byC (mkH L cols w (k+1) i):=by
  refine rowsF_congr fun i _=>?_
  congr 1
  unfold mkH
  by_cases h:i=k
  · subst h
    rw [if_pos rfl,if_pos (by omega)]
    simp [hx]
  · rw [if_neg h]
    by_cases h2:i < k
    · rw [if_pos h2,if_pos (by omega)]
    · rw [if_neg h2,if_neg (by omega)]
theorem marks_ok {c:C} {L:W→Bool} {ok:W→Prop} (hc:AskV Tryz.prog TB c L ok) (al:Int) (t:Tab) (w:W) (hl:t.cols.length≤1048576) (hk:∀x∈t.cols,ok (w++x)) (hb:∀x∈t.cols,w.length+x.length≤1048576) :
    Pure Tryz.prog TB 57 [eOra al c,eTab t,eT w] (eT (marks L t.cols w)):=by
  have hr:=ren_pur c hc.pur
  refine eN Tryz.func57 rfl (by kernel_rfl) rfl ?_;intro Γ hΓ
  (repeat first|refine sN rfl ?_|((first|refine sM rfl ?_ ?_|refine s4 rfl ‹_› rfl ?_ ?_);first|exact tI|omega|simp only[oZ] at *;omega)|refine s2 rfl fun _ _hb=>?_|refine s3 rfl ?_ ?_<;>rintro rfl|refine aU rfl ?_|refine lexE ?_|refine rE (by kernel_rfl) ?_)
  (refine pW rfl ?_ rfl (by rfl);refine n_box rfl rfl ?_)
  (refine popO rfl ?_;refine popS (fun _ _=>q_boxI rfl rfl rfl) rfl ?_)
  (repeat first|refine sN rfl ?_|((first|refine sM rfl ?_ ?_|refine s4 rfl ‹_› rfl ?_ ?_);first|exact tI|omega|simp only[oZ] at *;omega)|refine s2 rfl fun _ _hb=>?_|refine s3 rfl ?_ ?_<;>rintro rfl|refine aU rfl ?_|refine lexE ?_|refine rE (by kernel_rfl) ?_)
  (refine pW rfl ?_ rfl (by rfl);refine n_make rfl rfl (by rfl) (by rfl) (Nat.le_of_ble_eq_true rfl) (by omega) (by omega) (by omega) ?_)
  (repeat first|refine sN rfl ?_|((first|refine sM rfl ?_ ?_|refine s4 rfl ‹_› rfl ?_ ?_);first|exact tI|omega|simp only[oZ] at *;omega)|refine s2 rfl fun _ _hb=>?_|refine s3 rfl ?_ ?_<;>rintro rfl|refine aU rfl ?_|refine lexE ?_|refine rE (by kernel_rfl) ?_)
  refine AWp.block ?_
  refine AWp.loopL (α:={k:Nat // k≤t.cols.length}) (fun ⟨k,hkl⟩=>[(2,eT w),(3,.o (.ptr 0 2 0 0)),(7,.o (.arr 1 1 0 t.cols.length)),(15,.o (.d (tList t.cols))),(16,eI .i64 t.cols.length),(17,eI .i64 k)]) (fun ⟨k,hkl⟩=>[(1,.cells 5 1 (rowsF t.cols.length fun i=>byC (mkH L t.cols w k i))),(0,.cells 69 2 [[.d (iD al),c]])]) 2 (fun ⟨k,hkl⟩=>t.cols.length - k) (⟨0,by omega⟩) [0,1] (rl3 hΓ rfl rfl) (by (repeat' first|exact tI|rfl|refine And.intro ?_ ?_)<;>simp[cX,zC,hΓ,ren_by,hr,mkH_0,eC,renL_byC,byC0]) ?_;rintro ⟨k,hkl⟩;(try dsimp only)
  (repeat first|refine sN rfl ?_|((first|refine sM rfl ?_ ?_|refine s4 rfl ‹_› rfl ?_ ?_);first|exact tI|omega|simp only[oZ] at *;omega)|refine s2 rfl fun _ _hb=>?_|refine s3 rfl ?_ ?_<;>rintro rfl|refine aU rfl ?_|refine lexE ?_|refine rE (by kernel_rfl) ?_)
  (refine aC rfl ?_ ?_<;>rintro ⟨⟩)
  · have hlt:k < t.cols.length:=by first|omega|simp only[oZ] at *;omega
    obtain ⟨x,hx⟩:=get_some (l:=t.cols) (k:=k) hlt
    have hx':=get_map (g:=tRow) hx
    have hxm:=List.mem_of_getElem? hx
    have hxb:=hb x hxm
    have hok:=hk x hxm
    have hg:=getA_by (H:=mkH L t.cols w k) (q:=k) (n:=t.cols.length) hlt
    have hs1:(rowsF t.cols.length fun i=>byC (mkH L t.cols w k i)).set (0+((k:Nat):Int).toNat) (spliceC (byC (mkH L t.cols w k k)) 0 (eC (eI .u8 45)))=rowsF t.cols.length fun i=>byC (if i=k then 45 else mkH L t.cols w k i):=setA_by (c:=45)
    have hg2:=getA_by (H:=fun i=>if i=k then 45 else mkH L t.cols w k i) (q:=k) (n:=t.cols.length) hlt
    rw [←hs1] at hg2
    have hs2:(rowsF t.cols.length fun i=>byC (if i=k then 45 else mkH L t.cols w k i)).set (0+((k:Nat):Int).toNat) (spliceC (byC (if k=k then 45 else mkH L t.cols w k k)) 0 (eC (eI .u8 43)))=rowsF t.cols.length fun i=>byC (if i=k then 43 else mkH L t.cols w k i):=by
      refine (setA_by (H:=fun i=>if i=k then 45 else mkH L t.cols w k i) (c:=43)).trans ?_
      refine rowsF_congr fun i _=>?_
      by_cases h:i=k<;>simp [h]
    have hst:=mkH_step (L:=L) (w:=w) hx
    refine AWp.skip ?_
    refine AWp.seq (AWp.block ?_)
    (repeat first|refine sN rfl ?_|((first|refine sM rfl ?_ ?_|refine s4 rfl ‹_› rfl ?_ ?_);first|exact tI|omega|simp only[oZ] at *;omega)|refine s2 rfl fun _ _hb=>?_|(refine popO rfl ?_;refine gA rfl ?_;first|(refine gB (fun _ _=>hc.ask rfl rfl hok) ?_;intro _ _hb))|refine s3 rfl ?_ ?_<;>rintro rfl|refine aU rfl ?_|refine lexE ?_|refine rE (by kernel_rfl) ?_)
    (refine aC rfl ?_ ?_<;>rintro ⟨⟩)
    · (repeat first|refine sN rfl ?_|((first|refine sM rfl ?_ ?_|refine s4 rfl ‹_› rfl ?_ ?_);first|exact tI|omega|simp only[oZ] at *;omega)|refine s2 rfl fun _ _hb=>?_|refine s3 rfl ?_ ?_<;>rintro rfl|refine aU rfl ?_|refine lexE ?_|refine rE (by kernel_rfl) ?_)
      refine ⟨⟨k+1,by first|omega|simp only[oZ] at *;omega⟩,by dsimp only;(first|omega|simp only[oZ] at *;omega),[0,1],?_⟩
      rw [hs1,hs2]
      rw [_hb] at hst
      have e43:mkB true=43:=rfl
      have e45:mkB false=45:=rfl
      simp only [e43,e45] at hst
      simp[cX,zC,hΓ,ren_by,hr,hst]
    · refine AWp.skip ?_
      (repeat first|refine sN rfl ?_|((first|refine sM rfl ?_ ?_|refine s4 rfl ‹_› rfl ?_ ?_);first|exact tI|omega|simp only[oZ] at *;omega)|refine s2 rfl fun _ _hb=>?_|refine s3 rfl ?_ ?_<;>rintro rfl|refine aU rfl ?_|refine lexE ?_|refine rE (by kernel_rfl) ?_)
      refine ⟨⟨k+1,by first|omega|simp only[oZ] at *;omega⟩,by dsimp only;(first|omega|simp only[oZ] at *;omega),[0,1],?_⟩
      rw [hs1]
      rw [_hb] at hst
      have e43:mkB true=43:=rfl
      have e45:mkB false=45:=rfl
      simp only [e43,e45] at hst
      simp[cX,zC,hΓ,ren_by,hr,hst]
  · obtain rfl:k=t.cols.length:=by first|omega|simp only[oZ] at *;omega
    rw [marks_rows]
    refine AWp.exit ?_
    (repeat first|refine sN rfl ?_|((first|refine sM rfl ?_ ?_|refine s4 rfl ‹_› rfl ?_ ?_);first|exact tI|omega|simp only[oZ] at *;omega)|refine s2 rfl fun _ _hb=>?_|(refine popO rfl ?_;refine gA rfl ?_;first|refine gQ (q_textA (marks L t.cols w) rfl rfl (by simp [marks]) (by rw [List.drop_zero,List.take_of_length_le (by simp [marks])])) (by rfl) ?_)|refine s3 rfl ?_ ?_<;>rintro rfl|refine aU rfl ?_|refine lexE ?_|refine rE (by kernel_rfl) ?_)
    refine AWp.ret ⟨_,rfl,rfl⟩
def numsTo (L:W→Bool) (t:Tab):Nat→List (W×Int)
  | 0=>[]
  | k+1=>if (findT (numsTo L t k) (marks L t.cols (t.rows.getD k []))).isSome then numsTo L t k else numsTo L t k++[(marks L t.cols (t.rows.getD k []),(k:Int))]
structure AskOk (ok:W→Prop) (t:Tab):Prop where
  ok:∀w∈t.rows,∀x∈t.cols,ok (w++x)
  rb:∀w∈t.rows,w.length≤65536
  cb:∀x∈t.cols,x.length≤65536
  rl:t.rows.length≤4096
  cl:t.cols.length≤4096
theorem rowNumbers_ok {c:C} {L:W→Bool} {ok:W→Prop} (hc:AskV Tryz.prog TB c L ok) (al:Int) (t:Tab) (ht:AskOk ok t) :
    Spec Tryz.prog TB 94 [] 0 [eOra al c,eTab t] (fun x σ nx=>x=.o (.mp 0)∧nx=1∧σ=[(0,.mp (mapT (numsTo L t t.rows.length)))]):=by
  have hr:=ren_pur c hc.pur
  have hrl:=ht.rl
  refine eN Tryz.func94 rfl (by kernel_rfl) rfl ?_;intro Γ hΓ
  (repeat first|refine sN rfl ?_|((first|refine sM rfl ?_ ?_|refine s4 rfl ‹_› rfl ?_ ?_);first|exact tI|omega|simp only[oZ] at *;omega)|refine s2 rfl fun _ _hb=>?_|refine s3 rfl ?_ ?_<;>rintro rfl|refine aU rfl ?_|refine lexE ?_|refine rE (by kernel_rfl) ?_)
  (refine pW rfl ?_ rfl (by rfl);refine n_box rfl rfl ?_)
  (refine popO rfl ?_;refine popS (fun _ _=>q_boxI rfl rfl rfl) rfl ?_)
  (repeat first|refine sN rfl ?_|((first|refine sM rfl ?_ ?_|refine s4 rfl ‹_› rfl ?_ ?_);first|exact tI|omega|simp only[oZ] at *;omega)|refine s2 rfl fun _ _hb=>?_|refine s3 rfl ?_ ?_<;>rintro rfl|refine aU rfl ?_|refine lexE ?_|refine rE (by kernel_rfl) ?_)
  (refine pW rfl ?_ rfl (by rfl);refine n_makeMap ?_)
  (repeat first|refine sN rfl ?_|((first|refine sM rfl ?_ ?_|refine s4 rfl ‹_› rfl ?_ ?_);first|exact tI|omega|simp only[oZ] at *;omega)|refine s2 rfl fun _ _hb=>?_|refine s3 rfl ?_ ?_<;>rintro rfl|refine aU rfl ?_|refine lexE ?_|refine rE (by kernel_rfl) ?_)
  refine AWp.block ?_
  refine AWp.loopL (α:={k:Nat // k≤t.rows.length}) (fun ⟨k,hkl⟩=>[(2,.o (.ptr 0 2 0 0)),(3,.o (.ip (taRow t))),(5,.o (.mp 1)),(13,.o (.d (tList t.rows))),(14,eI .i64 t.rows.length),(15,eI .i64 k)]) (fun ⟨k,hkl⟩=>[(1,.mp (mapT (numsTo L t k))),(0,.cells 69 2 [[.d (iD al),c]])]) 2 (fun ⟨k,hkl⟩=>t.rows.length - k) (⟨0,by omega⟩) [0,1] (rl3 hΓ rfl rfl) (by (repeat' first|exact tI|rfl|refine And.intro ?_ ?_)<;>simp[cX,zC,hΓ,hr,eC,numsTo,mapT]) ?_;rintro ⟨k,hkl⟩;(try dsimp only)
  (repeat first|refine sN rfl ?_|((first|refine sM rfl ?_ ?_|refine s4 rfl ‹_› rfl ?_ ?_);first|exact tI|omega|simp only[oZ] at *;omega)|refine s2 rfl fun _ _hb=>?_|refine s3 rfl ?_ ?_<;>rintro rfl|refine aU rfl ?_|refine lexE ?_|refine rE (by kernel_rfl) ?_)
  (refine aC rfl ?_ ?_<;>rintro ⟨⟩)
  · have hlt:k < t.rows.length:=by first|omega|simp only[oZ] at *;omega
    obtain ⟨x,hx⟩:=get_some (l:=t.rows) (k:=k) hlt
    have hx':=get_map (g:=tRow) hx
    have hxm:=List.mem_of_getElem? hx
    have hxb:=ht.rb x hxm
    have hm:=marks_ok hc al t x (by have:=ht.cl;omega) (ht.ok x hxm) (fun y hy=>by have:=ht.cb y hy;omega)
    have hgd:t.rows.getD k []=x:=by simp [hx]
    have hstep:numsTo L t (k+1)=if (findT (numsTo L t k) (marks L t.cols x)).isSome then numsTo L t k else numsTo L t k++[(marks L t.cols x,(k:Int))]:=by
      rw [numsTo,hgd]
    refine AWp.skip ?_
    refine AWp.seq (AWp.block ?_)
    (repeat first|refine sN rfl ?_|((first|refine sM rfl ?_ ?_|refine s4 rfl ‹_› rfl ?_ ?_);first|exact tI|omega|simp only[oZ] at *;omega)|refine s2 rfl fun _ _hb=>?_|(refine popO rfl ?_;refine gA rfl ?_;first|refine gS (fun _ _=>q_call rfl rfl (by simp [E.pur,C.purL,C.pur,hc.pur]) hm rfl) ?_|refine gQ (q_look rfl rfl rfl) (by rfl) ?_)|refine s3 rfl ?_ ?_<;>rintro rfl|refine aU rfl ?_|refine lexE ?_|refine rE (by kernel_rfl) ?_)
    (refine aC rfl ?_ ?_<;>rintro ⟨⟩)
    · have hn:findT (numsTo L t k) (marks L t.cols x)=none:=by simpa using _hb
      rw [hn] at hstep
      (repeat first|refine sN rfl ?_|((first|refine sM rfl ?_ ?_|refine s4 rfl ‹_› rfl ?_ ?_);first|exact tI|omega|simp only[oZ] at *;omega)|refine s2 rfl fun _ _hb=>?_|refine s3 rfl ?_ ?_<;>rintro rfl|refine aU rfl ?_|refine lexE ?_|refine rE (by kernel_rfl) ?_)
      (refine popO rfl ?_;refine popW0 ?_ rfl (by rfl);refine n_put rfl rfl rfl rfl hn ?_)
      (repeat first|refine sN rfl ?_|((first|refine sM rfl ?_ ?_|refine s4 rfl ‹_› rfl ?_ ?_);first|exact tI|omega|simp only[oZ] at *;omega)|refine s2 rfl fun _ _hb=>?_|refine s3 rfl ?_ ?_<;>rintro rfl|refine aU rfl ?_|refine lexE ?_|refine rE (by kernel_rfl) ?_)
      refine ⟨⟨k+1,by first|omega|simp only[oZ] at *;omega⟩,by dsimp only;(first|omega|simp only[oZ] at *;omega),[0,1],?_⟩
      simp[cX,zC,hΓ,hr,hstep]
    · have hn:(findT (numsTo L t k) (marks L t.cols x)).isSome=true:=by simpa using _hb
      rw [if_pos hn] at hstep
      refine AWp.skip ?_
      (repeat first|refine sN rfl ?_|((first|refine sM rfl ?_ ?_|refine s4 rfl ‹_› rfl ?_ ?_);first|exact tI|omega|simp only[oZ] at *;omega)|refine s2 rfl fun _ _hb=>?_|refine s3 rfl ?_ ?_<;>rintro rfl|refine aU rfl ?_|refine lexE ?_|refine rE (by kernel_rfl) ?_)
      refine ⟨⟨k+1,by first|omega|simp only[oZ] at *;omega⟩,by dsimp only;(first|omega|simp only[oZ] at *;omega),[0,1],?_⟩
      simp[cX,zC,hΓ,hr,hstep]
  · obtain rfl:k=t.rows.length:=by first|omega|simp only[oZ] at *;omega
    refine AWp.exit ?_
    (repeat first|refine sN rfl ?_|((first|refine sM rfl ?_ ?_|refine s4 rfl ‹_› rfl ?_ ?_);first|exact tI|omega|simp only[oZ] at *;omega)|refine s2 rfl fun _ _hb=>?_|refine s3 rfl ?_ ?_<;>rintro rfl|refine aU rfl ?_|refine lexE ?_|refine rE (by kernel_rfl) ?_)
    refine AWp.names [1] [(4,.o (.mp 0))] [(0,.mp (mapT (numsTo L t t.rows.length)))] (by intro i hi;rw [hΓ] at hi;omega) (by simp) (by simp[cX,zC,hΓ]) (by simp[cX,zC,hΓ]) ?_
    refine AWp.ret ⟨_,rfl,rfl,rfl,rfl⟩
theorem findT_app (l:List (W×Int)) (p:W×Int) (s:W):findT (l++[p]) s=(findT l s).or (if p.1=s then some p.2 else none):=by
  unfold findT
  rw [List.find?_append]
  cases h:l.find? (fun p=>decide (p.1=s)) with
  | some q=>simp
  | none=>by_cases hp:p.1=s<;>simp [hp]
theorem rowsM_getD {L:W→Bool} {t:Tab} {k:Nat} (h:k < t.rows.length):(rowsM L t)[k]? = some (marks L t.cols (t.rows.getD k [])):=by
  simp [rowsM,h]
theorem nums_find (L:W→Bool) (t:Tab):∀k,k≤t.rows.length→∀s,findT (numsTo L t k) s=if s∈(rowsM L t).take k then some (((rowsM L t).idxOf s:Nat):Int) else none
  | 0,_,s=>by simp [numsTo,findT]
  | k + 1, hk, s=>by
    have ih:=nums_find L t k (by omega)
    have hx:=rowsM_getD (L:=L) (t:=t) (k:=k) (by omega)
    generalize marks L t.cols (t.rows.getD k [])=x at *
    have hst:numsTo L t (k+1)=if (findT (numsTo L t k) x).isSome then numsTo L t k else numsTo L t k++[(x,(k:Int))]:=by
      have hx2:=rowsM_getD (L:=L) (t:=t) (k:=k) (by omega)
      rw [hx] at hx2
      injection hx2 with hx2
      rw [numsTo,←hx2]
    have htk:∀s,s∈(rowsM L t).take (k+1)↔s∈(rowsM L t).take k∨s=x:=fun s=>by
      rw [List.take_add_one,hx];simp
    rw [hst]
    by_cases hm:x∈(rowsM L t).take k
    · rw [if_pos (by rw [ih x,if_pos hm];rfl),ih s]
      by_cases hs:s∈(rowsM L t).take k
      · rw [if_pos hs,if_pos ((htk s).2 (.inl hs))]
      · rw [if_neg hs,if_neg]
        intro h
        rcases (htk s).1 h with h|h
        · exact hs h
        · subst h;exact hs hm
    · rw [if_neg (by rw [ih x,if_neg hm];simp),findT_app,ih s]
      by_cases hs:s∈(rowsM L t).take k
      · rw [if_pos hs,if_pos ((htk s).2 (.inl hs))];rfl
      · rw [if_neg hs]
        by_cases he:x=s
        · subst he
          rw [if_pos ((htk x).2 (.inr rfl))]
          have hix:(rowsM L t).idxOf x=k:=by
            have hl:k < (rowsM L t).length:=(List.getElem?_eq_some_iff.1 hx).1
            have e:rowsM L t=(rowsM L t).take k++x::(rowsM L t).drop (k+1):=by
              rw [←drop_some hx,List.take_append_drop]
            rw [e,List.idxOf_append,if_neg hm,List.idxOf_cons_self]
            simp;omega
          simp [hix]
        · have hns:s∉(rowsM L t).take (k+1):=fun h=>by
            rcases (htk s).1 h with h|h
            · exact hs h
            · exact he h.symm
          rw [if_neg hns]
          simp [he]
theorem open_at {L:W→Bool} {ls:List UInt8} {t:Tab} {k j:Nat} {r:W} {l:UInt8} (hr:t.rows[k]? = some r) (hl:ls[j]? = some l) (h1:∀w∈nextsB ls (t.rows.take k),marks L t.cols w∈rowsM L t) (h2:∀x∈ls.take j,marks L t.cols (r++[x])∈rowsM L t)
    (h3:marks L t.cols (r++[l])∉rowsM L t):openW L ls t=some (r++[l]):=by
  have e1:t.rows=t.rows.take k++r::t.rows.drop (k+1):=by
    rw [←drop_some hr,List.take_append_drop]
  have e2:ls=ls.take j++l::ls.drop (j+1):=by
    rw [←drop_some hl,List.take_append_drop]
  have e3:nextsB ls t.rows=nextsB ls (t.rows.take k)++((ls.take j).map (fun x=>r++[x])++(r++[l])::((ls.drop (j+1)).map (fun x=>r++[x])++nextsB ls (t.rows.drop (k+1)))):=by
    have h4:nextsB ls t.rows=nextsB ls (t.rows.take k++r::t.rows.drop (k+1)):=congrArg _ e1
    rw [h4]
    unfold nextsB
    rw [List.flatMap_append,List.flatMap_cons]
    have h5:ls.map (fun x=>r++[x])=(ls.take j++l::ls.drop (j+1)).map (fun x=>r++[x]):=congrArg _ e2
    rw [h5]
    simp
  unfold openW
  rw [e3,List.find?_append,List.find?_append]
  have n1:(nextsB ls (t.rows.take k)).find? (fun w=>!(rowsM L t).contains (marks L t.cols w))=none:=List.find?_eq_none.2 fun w hw=>by simpa using h1 w hw
  have n2:((ls.take j).map (fun x=>r++[x])).find? (fun w=>!(rowsM L t).contains (marks L t.cols w))=none:=List.find?_eq_none.2 fun w hw=>by
    obtain ⟨x,hx,rfl⟩:=List.mem_map.1 hw
    simpa using h2 x hx
  rw [n1,n2]
  simp [h3]
def lb (l:Int):UInt8:=UInt8.ofNat (97+l.toNat)
def lsB (al:Int):List UInt8:=(letters al).map lb
def eOpt (o:Option W):E:=match o with
  | some w=>.t [(false,[.d (tD w)]),(false,[.d (bD true)])]
  | none=>.t [(false,[.d (tD [])]),(false,[.d (bD false)])]
theorem nexts_take {ls:List UInt8} {t:Tab} {k:Nat} {r:W} (h:t.rows[k]? = some r):nextsB ls (t.rows.take (k+1))=nextsB ls (t.rows.take k)++ls.map fun l=>r++[l]:=by
  unfold nextsB
  rw [List.take_add_one,h]
  simp
theorem index_ok (l:List W) (s:W):Pure Tryz.prog TB 114 [eTexts l,eT s] (eI .i64 (if s∈l then (l.idxOf s:Int) else -1)):=by
  refine eN Tryz.func114 rfl (by kernel_rfl) rfl ?_;intro Γ hΓ
  refine AWp.bound 0 rfl fun hB0=>?_
  have hB:=hB0 (l.map tRow) .refl
  (repeat first|refine sN rfl ?_|((first|refine sM rfl ?_ ?_|refine s4 rfl ‹_› rfl ?_ ?_);first|exact tI|omega|simp only[oZ] at *;omega)|refine s2 rfl fun _ _hb=>?_|refine s3 rfl ?_ ?_<;>rintro rfl|refine aU rfl ?_|refine lexE ?_|refine rE (by kernel_rfl) ?_)
  refine AWp.block ?_
  refine AWp.loopL (α:={k:Nat // k≤l.length∧s∉l.take k}) (fun ⟨k,hk,hs⟩=>[(0,eTexts l),(1,eT s),(7,eI .i64 l.length),(8,eI .i64 k)]) (fun ⟨k,hk,hs⟩=>[]) 0 (fun ⟨k,hk,hs⟩=>l.length - k) (⟨0,by omega,by simp⟩) [] (rl3 hΓ rfl rfl) (by (repeat' first|exact tI|rfl|refine And.intro ?_ ?_)<;>simp[cX,zC,hΓ]) ?_;rintro ⟨k,hk,hs⟩;(try dsimp only)
  (repeat first|refine sN rfl ?_|((first|refine sM rfl ?_ ?_|refine s4 rfl ‹_› rfl ?_ ?_);first|exact tI|omega|simp only[oZ] at *;omega)|refine s2 rfl fun _ _hb=>?_|refine s3 rfl ?_ ?_<;>rintro rfl|refine aU rfl ?_|refine lexE ?_|refine rE (by kernel_rfl) ?_)
  (refine aC rfl ?_ ?_<;>rintro ⟨⟩)
  · have hlt:k < l.length:=by first|omega|simp only[oZ] at *;omega
    obtain ⟨x,hx⟩:=get_some (l:=l) (k:=k) hlt
    have hx':=get_map (g:=tRow) hx
    refine AWp.skip ?_
    refine AWp.seq (AWp.block ?_)
    (repeat first|refine sN rfl ?_|((first|refine sM rfl ?_ ?_|refine s4 rfl ‹_› rfl ?_ ?_);first|exact tI|omega|simp only[oZ] at *;omega)|refine s2 rfl fun _ _hb=>?_|refine s3 rfl ?_ ?_<;>rintro rfl|refine aU rfl ?_|refine lexE ?_|refine rE (by kernel_rfl) ?_)
    (refine aC rfl ?_ ?_<;>rintro ⟨⟩)
    · have he:s=x:=by first|omega|simp only[oZ] at *;omega
      subst he
      (repeat first|refine sN rfl ?_|((first|refine sM rfl ?_ ?_|refine s4 rfl ‹_› rfl ?_ ?_);first|exact tI|omega|simp only[oZ] at *;omega)|refine s2 rfl fun _ _hb=>?_|refine s3 rfl ?_ ?_<;>rintro rfl|refine aU rfl ?_|refine lexE ?_|refine rE (by kernel_rfl) ?_)
      refine AWp.ret ⟨_,rfl,?_⟩
      have hm:s∈l:=List.mem_of_getElem? hx
      have hi:l.idxOf s=k:=by
        have e:l=l.take k++s::l.drop (k+1):=by rw [←drop_some hx,List.take_append_drop]
        rw [e,List.idxOf_append,if_neg hs,List.idxOf_cons_self]
        simp;omega
      rw [if_pos hm,hi]
    · have he:¬s=x:=by simpa using _hb
      have hs2:s∉l.take (k+1):=by
        rw [List.take_add_one,hx]
        simp [hs,he]
      refine AWp.skip ?_
      (repeat first|refine sN rfl ?_|((first|refine sM rfl ?_ ?_|refine s4 rfl ‹_› rfl ?_ ?_);first|exact tI|omega|simp only[oZ] at *;omega)|refine s2 rfl fun _ _hb=>?_|refine s3 rfl ?_ ?_<;>rintro rfl|refine aU rfl ?_|refine lexE ?_|refine rE (by kernel_rfl) ?_)
      refine ⟨⟨k+1,by first|omega|simp only[oZ] at *;omega,hs2⟩,by dsimp only;(first|omega|simp only[oZ] at *;omega),[],?_⟩
      simp[cX,zC,hΓ]
  · obtain rfl:k=l.length:=by first|omega|simp only[oZ] at *;omega
    rw [List.take_length] at hs
    refine AWp.exit ?_
    (repeat first|refine sN rfl ?_|((first|refine sM rfl ?_ ?_|refine s4 rfl ‹_› rfl ?_ ?_);first|exact tI|omega|simp only[oZ] at *;omega)|refine s2 rfl fun _ _hb=>?_|refine s3 rfl ?_ ?_<;>rintro rfl|refine aU rfl ?_|refine lexE ?_|refine rE (by kernel_rfl) ?_)
    refine AWp.ret ⟨_,rfl,?_⟩
    rw [if_neg hs]
theorem contains_ok (l:List W) (s:W):Pure Tryz.prog TB 93 [eTexts l,eT s] (eB (decide (s∈l))):=by
  refine eN Tryz.func93 rfl (by kernel_rfl) rfl ?_;intro Γ hΓ
  (repeat' first|refine sN rfl ?_|((first|refine sA rfl ?_ ?_|refine s4 rfl ‹_› rfl ?_ ?_);first|exact tI|omega|simp only[oZ] at *;omega)|refine s2 rfl fun _ _hb=>?_ |refine sP rfl (index_ok l s) rfl ?_|refine s3 rfl ?_ ?_<;>rintro rfl|refine aU rfl ?_|refine lexE ?_|refine rE (by kernel_rfl) ?_|(refine aC rfl ?_ ?_<;>rintro ⟨⟩)|refine aK ?_|refine aE ?_|refine aB ?_|refine AWp.ret ⟨_,rfl,?_⟩)
  all_goals (show E.o _=E.o _;congr;subst _hb;by_cases h:s∈l<;>simp [h])
def addC (t:Tab) (col:W):Option Tab:=if t.cols.length=20∨col∈t.cols then none else some ⟨t.rows,t.cols++[col]⟩
def eTabO (o:Option Tab):E:=match o with
  | some t=>.t [(true,[.d (tList t.rows),.d (tList t.cols)]),(false,[.d (bD true)])]
  | none=>.t [(true,[.d (.l []),.d (.l [])]),(false,[.d (bD false)])]
end Go.Am
namespace Go.Am.R
open Go
section
variable {P:Program} {TB:Amb} {ops:Array Oper} {i c:Nat} {r:List (Nat×Nat)} {L:List (Nat×E)} {σ:Store} {nx:Nat} {pl:List (Nat×(TypeId×List Value))} {K:Sta→Prop} {d:Tmp} {ty:TypeId} {pos:String} {af:Array Edge} {g:Option (Nat×Bool)} {op:Op}
theorem yQ {md:Bool} [hT:HasT P] {q:Prop} {x:E} (hg:gval ops ⟨some d,op,ty,pos,af,g⟩ (look L)=some true) (hc:(Nat.beq c 0 || Nat.beq c 2)=true) (h:reck hT.T md (look L) op=some (q,x)) (hq:q) (hk:LexL P TB ops r K ((d,x)::L) σ nx (killP d pl)):LexO P TB ops ⟨some d,op,ty,pos,af,g⟩ i c r K L σ nx pl:=
  popS (fun _ _ _=>reck_ok h hq) hg hc hk
theorem yB [hT:HasT P] {b0:Bool} (hg:gval ops ⟨some d,op,ty,pos,af,g⟩ (look L)=some true) (hc:(Nat.beq c 0 || Nat.beq c 2)=true) (h:reckB hT.T (look L) op=some b0) (hk:∀b,b0=b→LexL P TB ops r K ((d,eB b)::L) σ nx (killP d pl)):LexO P TB ops ⟨some d,op,ty,pos,af,g⟩ i c r K L σ nx pl:=
  popB (fun _ _ _=>reckB_ok h) hg hc hk
theorem yS [hT:HasT P] {x:E} (hg:gval ops ⟨some d,op,ty,pos,af,g⟩ (look L)=some true) (hc:Nat.beq c 0=true) (h:reckS hT.T σ (look L) op=some x) (hk:LexL P TB ops r K ((d,x)::L) σ nx (killP d pl)):LexO P TB ops ⟨some d,op,ty,pos,af,g⟩ i c r K L σ nx pl:=
  popQ (fun _=>reckS_ok h) hg hc hk
theorem yW [hT:HasT P] {t:TypeId} {x y:Operand} {σ':Store} (hg:gval ops ⟨none,.store t x y,ty,pos,af,g⟩ (look L)=some true) (hc:c=1) (h:reckW hT.T σ (look L) t x y=some σ') (hk:LexL P TB ops r K L σ' nx pl):LexO P TB ops ⟨none,.store t x y,ty,pos,af,g⟩ i c r K L σ nx pl:=
  popW0 (fun _=>reckW_ok h hk) hg hc
theorem yA [hT:HasT P] {t:Tmp} {ts:TypeId} {y:Operand} {T:TypeId} {z:List Value} {σ':Store} (hp:look pl t=some (T,z)) (hg:gval ops ⟨none,.store ts (.tmp t) y,ty,pos,af,g⟩ (look ((t,.o (.ptr nx z.length 0 0))::L))=some true) (hc:c=5)
    (h:reckW hT.T ((nx,.cells T z.length [z.map zC])::σ) (look ((t,.o (.ptr nx z.length 0 0))::L)) ts (.tmp t) y=some σ') (hk:LexL P TB ops r K ((t,.o (.ptr nx z.length 0 0))::L) σ' (nx+1) (killP t pl)):LexO P TB ops ⟨none,.store ts (.tmp t) y,ty,pos,af,g⟩ i c r K L σ nx pl:=
  popAS hp hg hc fun _=>reckW_ok h hk
theorem yP [hT:HasT P] {T:TypeId} {z:List Value} (hz:(tyi hT.T T).ze=some z) (hok:z.all zOk=true) (hf:look L d=none) (hc:c=3) (h:LexL P TB ops r K L σ nx ((d,(T,z))::pl)):LexO P TB ops ⟨some d,.alloc T,ty,pos,af,none⟩ i c r K L σ nx pl:=
  haveI:=(tyi_ok (P:=P) T hT.ok).hasZe hz
  popP hok hf hc h
theorem yG {dd:Option Tmp} {j t:Nat} {w b:Bool} (_hd:(ops[j]?).bind (·.dst)=some t) (_hv:look L t=some (eB b))
    (hT:b=true→LexL P TB ops ((i,c)::r) K L σ nx pl) (hF:b=false→LexL P TB ops ((i,c)::r) K L σ nx pl):LexO P TB ops ⟨dd,op,ty,pos,af,some (j,w)⟩ i c r K L σ nx pl:=by
  intro _
  cases b
  · exact hF rfl
  · exact hT rfl
end
end Go.Am.R
namespace Go.Am
open Go Go.Proofs
set_option maxHeartbeats 1000000
attribute [local irreducible] QOp AOp Lex LexO AWp Spec
variable {TB:Amb}
structure TBd (al:Int) (b:Nat) (t:Tab):Prop where
  onR:∀w∈t.rows,wordOn (lsB al) w∧w.length≤b
  onC:∀x∈t.cols,wordOn (lsB al) x∧x.length≤20000
  rl:t.rows.length≤12
  cl:t.cols.length≤20
def OkFits (ok:W→Prop) (al:Int):Prop:=∀w,wordOn (lsB al) w→w.length≤50000→ok w
def asksT (ls:List UInt8) (t:Tab) (v:W):Prop:=∃r∈t.rows,∃m:W,(m=[]∨∃l∈ls,m=[l])∧∃x:W,(x=[]∨x∈t.cols)∧v=r++m++x
def AskOn (ok:W→Prop) (ls:List UInt8) (t:Tab):Prop:=∀v,asksT ls t v→ok v
def growL (L:W→Bool) (ls:List UInt8):Nat→Tab→List Tab
  | 0,t=>[t]
  | n+1,t=>t::match openW L ls t with
    | none=>[]
    | some w=>if t.rows.length=12 then [] else growL L ls n ⟨t.rows++[w],t.cols⟩
theorem growL_self {L:W→Bool} {ls:List UInt8} {n:Nat} {t:Tab}:t∈growL L ls n t:=by cases n<;>simp [growL]
theorem TBd.askG {ok:W→Prop} {al:Int} {b:Nat} {t:Tab} (h:TBd al b t) (hf:AskOn ok (lsB al) t) (hb:b≤20100):AskOk ok t∧∀w∈t.rows,∀l∈lsB al,∀x∈t.cols,ok (w++[l]++x):=
  ⟨⟨fun w hw x hx=>hf _ ⟨w,hw,[],.inl rfl,x,.inr hx,by simp⟩,fun w hw=>by have:=(h.onR w hw).2;omega,fun x hx=>by have:=(h.onC x hx).2;omega,by have:=h.rl;omega,by have:=h.cl;omega⟩,
   fun w hw l hl x hx=>hf _ ⟨w,hw,[l],.inr ⟨l,hl,rfl⟩,x,.inr hx,rfl⟩⟩
theorem TBd.on {ok:W→Prop} {al:Int} {b:Nat} {t:Tab} (h:TBd al b t) (hf:OkFits ok al) (hb:b≤20100):AskOn ok (lsB al) t:=by
  rintro v ⟨r,hr,m,hm,x,hx,rfl⟩
  have h1:=h.onR r hr
  have h2:wordOn (lsB al) m∧m.length≤1:=by
    rcases hm with rfl|⟨l,hl,rfl⟩
    · exact ⟨fun c hc=>by simp at hc,by simp⟩
    · exact ⟨fun c hc=>by simp at hc;subst hc;exact hl,by simp⟩
  have h3:wordOn (lsB al) x∧x.length≤20000:=by
    rcases hx with rfl|hx
    · exact ⟨fun c hc=>by simp at hc,by simp⟩
    · exact h.onC x hx
  refine hf _ (fun c hc=>?_) (by simp;omega)
  simp only [List.mem_append] at hc
  rcases hc with (hc|hc)|hc
  · exact h1.1 c hc
  · exact h2.1 c hc
  · exact h3.1 c hc
theorem TBd.push {L:W→Bool} {al:Int} {b:Nat} {t:Tab} {w:W} (h:TBd al b t) (ho:openW L (lsB al) t=some w) (hl:t.rows.length < 12):TBd al (b+1) ⟨t.rows++[w],t.cols⟩:=by
  obtain ⟨⟨r,hr,l,hl2,rfl⟩,_⟩:=openW_some ho
  refine ⟨fun u hu=>?_,h.onC,by simp;omega,h.cl⟩
  rcases List.mem_append.1 hu with hu|hu
  · have:=h.onR u hu;exact ⟨this.1,by omega⟩
  · simp at hu
    subst hu
    have:=h.onR r hr
    refine ⟨fun c hc=>?_,by simp;omega⟩
    rcases List.mem_append.1 hc with hc|hc
    · exact this.1 c hc
    · simp at hc;subst hc;exact hl2
theorem TBd.grow {L:W→Bool} {al:Int}:∀ {n b:Nat} {t y:Tab},TBd al b t→y∈growL L (lsB al) n t→TBd al (b+n) y
  | 0,b,t,y,h,hy=>by simp [growL] at hy;subst hy;exact h
  | n + 1, b,t,y,h,hy=>by
    have hm:∀ {b':Nat} {z:Tab},b'≤b+(n+1)→TBd al b' z→TBd al (b+(n+1)) z:=fun hb hz=>⟨fun w hw=>⟨(hz.onR w hw).1,Nat.le_trans (hz.onR w hw).2 hb⟩,hz.onC,hz.rl,hz.cl⟩
    unfold growL at hy
    rcases List.mem_cons.1 hy with rfl|hy
    · exact hm (by omega) h
    · cases ho:openW L (lsB al) t with
      | none=>rw [ho] at hy;simp at hy
      | some w=>
        rw [ho] at hy
        dsimp only at hy
        split at hy
        · simp at hy
        · have:=h.rl
          exact hm (by omega) (TBd.grow (h.push ho (by omega)) hy)
theorem TBd.onG {L:W→Bool} {ok:W→Prop} {al:Int} {b:Nat} {t:Tab} (h:TBd al b t) (hf:OkFits ok al) (hb:b≤20000):∀y∈growL L (lsB al) 13 t,AskOn ok (lsB al) y:=fun y hy=>(h.grow hy).on hf (by omega)
end Go.Am
