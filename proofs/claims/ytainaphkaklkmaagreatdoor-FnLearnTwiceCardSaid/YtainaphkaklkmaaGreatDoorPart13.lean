/-
  The table of an automaton.
-/
import Derived.Test.YtainaphkaklkmaaGreatDoorPart12
import Derived.Test.YtainaphkaklkmaaGreatDoorPart8
set_option linter.constructorNameAsVariable false
set_option linter.unusedSimpArgs false
set_option linter.unusedVariables false
namespace Go.Am
open Go Go.Proofs
set_option maxHeartbeats 1000000
attribute [local irreducible] QOp AOp Lex LexO AWp Spec
variable {TB:List (Nat×Obj)}
def rowF (h:Nat→Int):List C:=(List.range 6).map fun l=>.d (iD (h l))
def rowD (h:Nat→Int):List D:=(List.range 6).map fun l=>iD (h l)
theorem rowF_d (h:Nat→Int):rowF h=(rowD h).map .d:=by simp [rowF,rowD]
def rowsF {α:Type} (n:Nat) (g:Nat→α):List α:=(List.range n).map g
theorem rowsF_get {α:Type} {n q:Nat} {g:Nat→α} (h:q < n):(rowsF n g)[q]? = some (g q):=by simp [rowsF,h]
theorem rowsF_set {α:Type} {n q:Nat} {g:Nat→α} {x:α}:(rowsF n g).set q x=rowsF n fun i=>if i=q then x else g i:=by
  apply List.ext_getElem?
  intro i
  by_cases hi:i < n
  · rw [rowsF_get hi]
    by_cases hq:q=i
    · subst hq;rw [List.getElem?_set_self (by simp [rowsF,hi])];simp
    · rw [List.getElem?_set_ne hq,rowsF_get hi,if_neg (Ne.symm hq)]
  · rw [List.getElem?_eq_none (by simp [rowsF];omega),List.getElem?_eq_none (by simp [rowsF];omega)]
theorem rowsF_congr {α:Type} {n:Nat} {g g':Nat→α} (h:∀i,i < n→g i=g' i):rowsF n g=rowsF n g':=by
  unfold rowsF
  exact List.map_congr_left fun i hi=>h i (List.mem_range.1 hi)
theorem rowF_set {h:Nat→Int} {l:Nat} {v:Int} (hl:l < 6):spliceC (rowF h) (0+l*1) (eC (eI .i64 v))=rowF fun x=>if x=l then v else h x:=by
  have e:eC (eI .i64 v)=[C.d (iD v)]:=rfl
  rw [e,splice_set (by simp [rowF];omega)]
  have:=rowsF_set (n:=6) (q:=l) (g:=fun l=>C.d (iD (h l))) (x:=C.d (iD v))
  have e1:0+l*1=l:=by omega
  rw [e1]
  refine Eq.trans this (rowsF_congr fun i _=>?_)
  by_cases e:i=l<;>simp [e]
theorem rowF_congr {h h':Nat→Int} (hh:∀l,l < 6→h l=h' l):rowF h=rowF h':=rowsF_congr fun i hi=>by rw [hh i hi]
theorem lettersTo_pre (s:Int):∀(n k:Nat),k≤n→lettersTo s k <+: lettersTo s n
  | 0, k, h => by have:k=0:=by omega
                  subst this;exact List.prefix_refl _
  | n + 1,k,h=>by
    rcases Nat.lt_or_ge k (n+1) with h1|h1
    · rw [lettersTo_succ]
      exact (lettersTo_pre s n k (by omega)).trans (List.prefix_append _ _)
    · have:k=n+1:=by omega
      subst this;exact List.prefix_refl _
theorem letters_place {s:Int} {k n:Nat} {l:Int} (h:(lettersTo s n)[k]? = some l):(lettersTo s l.toNat).length=k:=by
  have h1:=lettersTo_in (List.mem_of_getElem? h)
  have h2:(lettersTo s (l.toNat+1))[(lettersTo s l.toNat).length]? = some l:=by
    rw [lettersTo_succ,if_pos h1.2.2,List.getElem?_append_right (Nat.le_refl _)]
    simp;omega
  have h3:(lettersTo s n)[(lettersTo s l.toNat).length]? = some l:=by
    obtain ⟨t,ht⟩:=lettersTo_pre s n (l.toNat+1) (by omega)
    rw [←ht,List.getElem?_append_left (List.getElem?_eq_some_iff.1 h2).1];exact h2
  have hp:=letters_sorted s n
  rw [List.pairwise_iff_getElem] at hp
  obtain ⟨a1,a2⟩:=List.getElem?_eq_some_iff.1 h
  obtain ⟨b1,b2⟩:=List.getElem?_eq_some_iff.1 h3
  rcases Nat.lt_trichotomy (lettersTo s l.toNat).length k with h4|h4|h4
  · have:=hp _ _ b1 a1 h4;omega
  · exact h4
  · have:=hp _ _ a1 b1 h4;omega
theorem mem_lettersTo {s:Int} {n l:Nat}:(l:Int)∈lettersTo s n↔l < n∧bitB s l=true:=by
  unfold lettersTo
  simp only [List.mem_map,List.mem_filter,List.mem_range]
  constructor
  · rintro ⟨a,ha,e⟩
    have:a=l:=by have e:((a:Nat):Int)=l:=e;omega
    subst this;exact ha
  · intro h;exact ⟨l,h,rfl⟩
def tbC (n:Nat) (H:Nat→Nat→Int):List (List C):=rowsF n fun i=>rowF (H i)
theorem tbC_ren (r:Nat→Nat) (n:Nat) (H:Nat→Nat→Int):(tbC n H).map (C.renL r)=tbC n H:=by
  unfold tbC rowsF
  rw [List.map_map]
  exact List.map_congr_left fun i _=>by simp only [Function.comp_def,rowF_d,renL_d]
theorem tbC_zero (n:Nat):tbC n (fun _ _=>0)=List.replicate n [C.d (D.v (Value.int IntKind.i64 0)),C.d (D.v (Value.int IntKind.i64 0)),C.d (D.v (Value.int IntKind.i64 0)),C.d (D.v (Value.int IntKind.i64 0)),C.d (D.v (Value.int IntKind.i64 0)),C.d (D.v (Value.int IntKind.i64 0))]:=by
  unfold tbC rowsF
  rw [List.map_const'];simp;exact .inr rfl
theorem tbC_get {n q:Nat} {H:Nat→Nat→Int} (h:q < n):(tbC n H)[0+((q:Nat):Int).toNat]? = some (rowF (H q)):=by
  rw [Nat.zero_add,Int.toNat_natCast];exact rowsF_get (g:=fun i=>rowF (H i)) h
theorem tbC_set {n q l:Nat} {v:Int} {H:Nat→Nat→Int} (hl:l < 6):(tbC n H).set (0+((q:Nat):Int).toNat) (spliceC (rowF (H q)) (0+((l:Nat):Int).toNat*1) (eC (eI .i64 v)))=tbC n fun i x=>if i=q∧x=l then v else H i x:=by
  rw [Nat.zero_add,Int.toNat_natCast,Int.toNat_natCast,rowF_set hl]
  unfold tbC
  rw [rowsF_set]
  refine rowsF_congr fun i _=>?_
  by_cases e:i=q
  · subst e;rw [if_pos rfl];exact rowF_congr fun l _=>by simp
  · rw [if_neg e];exact rowF_congr fun l _=>by simp [e]
theorem tbC_congr {n:Nat} {H H':Nat→Nat→Int} (h:∀i,i < n→∀l,l < 6→H i l=H' i l):tbC n H=tbC n H':=rowsF_congr fun i hi=>rowF_congr fun l hl=>h i hi l hl
theorem tbC_len (n:Nat) (H:Nat→Nat→Int):(tbC n H).length=n:=by simp [tbC,rowsF]
def tblD (a:Aut):List (List D):=rowsF a.nx.length fun q=>rowD fun l=>goA a q l
theorem tbC_d (a:Aut):tbC a.nx.length (fun i l=>goA a i l)=(tblD a).map fun r=>r.map .d:=by
  unfold tbC tblD rowsF
  rw [List.map_map]
  exact List.map_congr_left fun i _=>by simp only [Function.comp_def,rowF_d]
theorem tableOf_ok (a:Aut) (h:autOk a=true):Pure Tryz.prog TB 39 [eAut a] (.o (.d (.l (tblD a)))):=by
  have hh:=autOk_head h
  have hll:(letters a.al).length≤6:=lettersTo_len a.al 6
  refine eN Tryz.func39 rfl (by kernel_rfl) rfl ?_;intro Γ hΓ
  (repeat first|refine sN rfl ?_|((first|refine sM rfl ?_ ?_|refine s4 rfl ‹_› rfl ?_ ?_);first|exact tI|omega|(simp only[oZ] at *;omega))|(refine s2 rfl ?_;intro _ _hb)|(refine s3 rfl ?_ ?_<;>intro hb<;>subst hb)|refine aS ?_|refine reg (by kernel_rfl) ?_|refine lexE ?_|refine rD (by kernel_rfl) (by kernel_rfl) ?_)
  (refine popO rfl ?_;refine popS (fun _ _=>q_boxI rfl rfl rfl) rfl ?_)
  (refine popO rfl ?_;refine popS (fun _ _=>q_assign rfl) rfl ?_)
  (repeat first|refine sN rfl ?_|((first|refine sM rfl ?_ ?_|refine s4 rfl ‹_› rfl ?_ ?_);first|exact tI|omega|(simp only[oZ] at *;omega))|(refine s2 rfl ?_;intro _ _hb)|(refine s3 rfl ?_ ?_<;>intro hb<;>subst hb)|refine aS ?_|refine reg (by kernel_rfl) ?_|refine lexE ?_|refine rD (by kernel_rfl) (by kernel_rfl) ?_)
  (refine popO rfl ?_;refine popW ?_ rfl (by rfl);refine n_make rfl rfl (by rfl) (by rfl) (Nat.le_of_ble_eq_true rfl) (by omega) (by omega) (by omega) ?_)
  (repeat first|refine sN rfl ?_|((first|refine sM rfl ?_ ?_|refine s4 rfl ‹_› rfl ?_ ?_);first|exact tI|omega|(simp only[oZ] at *;omega))|(refine s2 rfl ?_;intro _ _hb) |refine sP rfl (lettersOf_ok a.al) rfl ?_|(refine s3 rfl ?_ ?_<;>intro hb<;>subst hb)|refine aS ?_|refine reg (by kernel_rfl) ?_|refine lexE ?_|refine rD (by kernel_rfl) (by kernel_rfl) ?_)
  refine AWp.block ?_
  refine AWp.loopL (α:={q:Nat // q≤a.nx.length}) (fun ⟨q,hq⟩=>[(1,.o (.ip (auRow a))),(3,.o (.arr 0 6 0 a.nx.length)),(4,eInts (letters a.al)),(18,eIntss a.nx),(19,eI .i64 a.nx.length),(20,eI .i64 q)]) (fun ⟨q,hq⟩=>[(0,.cells 67 6 (tbC a.nx.length fun i l=>if i < q then goA a i l else 0))]) 1 (fun ⟨q,hq⟩=>a.nx.length - q) (⟨0,by omega⟩) [0] (by first|(simp [hΓ];done)|(rw [hΓ];decide)) (by (repeat' (first|exact trivial|rfl|refine And.intro ?_ ?_))<;>simp [EnvSub,StoreSub,look_cons,nm,E.ren,C.ren,C.renL,O.ren,killc,kill0,Function.comp_def,argsFrom,zC,hΓ,tbC_ren,tbC_zero]) ?_;rintro ⟨q,hq⟩;(try dsimp only)
  (repeat first|refine sN rfl ?_|((first|refine sM rfl ?_ ?_|refine s4 rfl ‹_› rfl ?_ ?_);first|exact tI|omega|(simp only[oZ] at *;omega))|(refine s2 rfl ?_;intro _ _hb)|(refine s3 rfl ?_ ?_<;>intro hb<;>subst hb)|refine aS ?_|refine reg (by kernel_rfl) ?_|refine lexE ?_|refine rD (by kernel_rfl) (by kernel_rfl) ?_)
  (refine aC rfl ?_ ?_<;>intro hb<;>cases hb)
  · have hqn : q < a.nx.length:=by first|omega|(simp only [oZ] at *;omega)
    obtain ⟨row,hr,hrl,hrx⟩:=autOk_row h hqn
    have hr':=get_map (g:=iiRow) hr
    refine AWp.skip ?_
    refine AWp.seq (AWp.block ?_)
    (repeat first|refine sN rfl ?_|((first|refine sM rfl ?_ ?_|refine s4 rfl ‹_› rfl ?_ ?_);first|exact tI|omega|(simp only[oZ] at *;omega))|(refine s2 rfl ?_;intro _ _hb)|(refine s3 rfl ?_ ?_<;>intro hb<;>subst hb)|refine aS ?_|refine reg (by kernel_rfl) ?_|refine lexE ?_|refine rD (by kernel_rfl) (by kernel_rfl) ?_)
    refine AWp.block ?_
    refine AWp.loopL (α:={m:Nat // m≤6}) (fun ⟨m,hm⟩=>[(1,.o (.ip (auRow a))),(3,.o (.arr 0 6 0 a.nx.length)),(4,eInts (letters a.al)),(18,eIntss a.nx),(19,eI .i64 a.nx.length),(20,eI .i64 q),(5,eI .i64 q),(6,eInts row),(25,eI .i64 m)]) (fun ⟨m,hm⟩=>[(0,.cells 67 6 (tbC a.nx.length fun i l=>if i < q then goA a i l else if i=q∧l < m then q else 0))]) 1 (fun ⟨m,hm⟩=>6 - m) (⟨0,by omega⟩) [0] (by first|(simp [hΓ];done)|(rw [hΓ];decide)) (by (repeat' (first|exact trivial|rfl|refine And.intro ?_ ?_))<;>simp [EnvSub,StoreSub,look_cons,nm,E.ren,C.ren,C.renL,O.ren,killc,kill0,Function.comp_def,argsFrom,zC,hΓ,tbC_ren]) ?_;rintro ⟨m,hm⟩;(try dsimp only)
    (repeat first|refine sN rfl ?_|((first|refine sM rfl ?_ ?_|refine s4 rfl ‹_› rfl ?_ ?_);first|exact tI|omega|(simp only[oZ] at *;omega))|(refine s2 rfl ?_;intro _ _hb)|(refine s3 rfl ?_ ?_<;>intro hb<;>subst hb)|refine aS ?_|refine reg (by kernel_rfl) ?_|refine lexE ?_|refine rD (by kernel_rfl) (by kernel_rfl) ?_)
    (refine aC rfl ?_ ?_<;>intro hb<;>cases hb)
    · have hm6:m < 6:=by first|omega|(simp only [oZ] at *;omega)
      have hmj:0+((m:Nat):Int).toNat*1+1≤6:=by omega
      have hg:=tbC_get (H:=fun i l=>if i < q then goA a i l else if i=q∧l < m then q else 0) hqn
      have hs:=tbC_set (n:=a.nx.length) (q:=q) (v:=q) (H:=fun i l=>if i < q then goA a i l else if i=q∧l < m then q else 0) hm6
      have hc:(tbC a.nx.length fun (i x:Nat)=>if i=q∧x=m then (q:Int) else (fun (i l:Nat)=>if i < q then goA a i l else if i=q∧l < m then (q:Int) else 0) i x)=tbC a.nx.length fun i l=>if i < q then goA a i l else if i=q∧l < m+1 then (q:Int) else 0:=tbC_congr fun i _ l _=>by dsimp only;grind
      refine AWp.skip ?_
      refine AWp.seq (AWp.block ?_)
      (repeat first|refine sN rfl ?_|((first|refine sM rfl ?_ ?_|refine s4 rfl ‹_› rfl ?_ ?_);first|exact tI|omega|(simp only[oZ] at *;omega))|(refine s2 rfl ?_;intro _ _hb)|(refine s3 rfl ?_ ?_<;>intro hb<;>subst hb)|refine aS ?_|refine reg (by kernel_rfl) ?_|refine lexE ?_|refine rD (by kernel_rfl) (by kernel_rfl) ?_)
      (refine popO rfl ?_;refine popW0 ?_ rfl (by rfl);refine n_store rfl rfl rfl rfl (hg) rfl (hmj) ?_)
      (repeat first|refine sN rfl ?_|((first|refine sM rfl ?_ ?_|refine s4 rfl ‹_› rfl ?_ ?_);first|exact tI|omega|(simp only[oZ] at *;omega))|(refine s2 rfl ?_;intro _ _hb)|(refine s3 rfl ?_ ?_<;>intro hb<;>subst hb)|refine aS ?_|refine reg (by kernel_rfl) ?_|refine lexE ?_)
      refine ⟨⟨m+1,by first|omega|(simp only [oZ] at *;omega)⟩,by dsimp only;(first|omega|(simp only [oZ] at *;omega)),[0],?_⟩
      rw [hs,hc]
      simp [EnvSub,StoreSub,look_cons,nm,E.ren,C.ren,C.renL,O.ren,killc,kill0,Function.comp_def,argsFrom,zC,hΓ,tbC_ren]
    · obtain rfl:m=6:=by first|omega|(simp only [oZ] at *;omega)
      have hc0:=tbC_congr (n:=a.nx.length) (H:=fun i l=>if i < q then goA a i l else if i=q∧l < 6 then (q:Int) else 0) (H':=fun i l=>if i < q then goA a i l else if i=q then (if (l:Int)∈(letters a.al).take 0 then goA a q l else (q:Int)) else 0) fun i _ l hl=>by simp [hl]
      rw [hc0]
      refine AWp.exit ?_
      (repeat first|refine sN rfl ?_|((first|refine sM rfl ?_ ?_|refine s4 rfl ‹_› rfl ?_ ?_);first|exact tI|omega|(simp only[oZ] at *;omega))|(refine s2 rfl ?_;intro _ _hb)|(refine s3 rfl ?_ ?_<;>intro hb<;>subst hb)|refine aS ?_|refine reg (by kernel_rfl) ?_|refine lexE ?_|refine rD (by kernel_rfl) (by kernel_rfl) ?_)
      refine AWp.block ?_
      refine AWp.loopL (α:={k:Nat // k≤(letters a.al).length}) (fun ⟨k,hk⟩=>[(1,.o (.ip (auRow a))),(3,.o (.arr 0 6 0 a.nx.length)),(4,eInts (letters a.al)),(18,eIntss a.nx),(19,eI .i64 a.nx.length),(20,eI .i64 q),(5,eI .i64 q),(6,eInts row),(35,eInts (letters a.al)),(36,eI .i64 (letters a.al).length),(37,eI .i64 k)]) (fun ⟨k,hk⟩=>[(0,.cells 67 6 (tbC a.nx.length fun i l=>if i < q then goA a i l else if i=q then (if (l:Int)∈(letters a.al).take k then goA a q l else (q:Int)) else 0))]) 1 (fun ⟨k,hk⟩=>(letters a.al).length - k) (⟨0,by omega⟩) [0] (by first|(simp [hΓ];done)|(rw [hΓ];decide)) (by (repeat' (first|exact trivial|rfl|refine And.intro ?_ ?_))<;>simp [EnvSub,StoreSub,look_cons,nm,E.ren,C.ren,C.renL,O.ren,killc,kill0,Function.comp_def,argsFrom,zC,hΓ,tbC_ren]) ?_;rintro ⟨k,hk⟩;(try dsimp only)
      (repeat first|refine sN rfl ?_|((first|refine sM rfl ?_ ?_|refine s4 rfl ‹_› rfl ?_ ?_);first|exact tI|omega|(simp only[oZ] at *;omega))|(refine s2 rfl ?_;intro _ _hb)|(refine s3 rfl ?_ ?_<;>intro hb<;>subst hb)|refine aS ?_|refine reg (by kernel_rfl) ?_|refine lexE ?_|refine rD (by kernel_rfl) (by kernel_rfl) ?_)
      (refine aC rfl ?_ ?_<;>intro hb<;>cases hb)
      · obtain ⟨l,hl⟩:=get_some (l:=letters a.al) (k:=k) (by first|omega|(simp only [oZ] at *;omega))
        have hl':=get_map (g:=iRow) hl
        have hlb:=lettersTo_in (List.mem_of_getElem? hl)
        have hpl:=letters_place hl
        obtain ⟨y,hy⟩:=get_some (l:=row) (k:=k) (by first|omega|(simp only [oZ] at *;omega))
        have hy':=get_map (g:=iRow) hy
        obtain ⟨m,rfl⟩:∃m:Nat,l=m:=⟨l.toNat,by omega⟩
        have hgo:goA a q m=y:=by
          unfold goA
          rw [if_pos hlb.2.2,hpl];simp [List.getD,hr,hy]
        have hm6:m < 6:=by omega
        have hmj:0+((m:Nat):Int).toNat*1+1≤6:=by omega
        have hg:=tbC_get (H:=fun i l=>if i < q then goA a i l else if i=q then (if (l:Int)∈(letters a.al).take k then goA a q l else (q:Int)) else 0) hqn
        have hs:=tbC_set (n:=a.nx.length) (q:=q) (v:=y) (H:=fun i l=>if i < q then goA a i l else if i=q then (if (l:Int)∈(letters a.al).take k then goA a q l else (q:Int)) else 0) hm6
        have hc:(tbC a.nx.length fun (i x:Nat)=>if i=q∧x=m then y else (fun (i l:Nat)=>if i < q then goA a i l else if i=q then (if (l:Int)∈(letters a.al).take k then goA a q l else (q:Int)) else 0) i x)=tbC a.nx.length fun i l=>if i < q then goA a i l else if i=q then (if (l:Int)∈(letters a.al).take (k+1) then goA a q l else (q:Int)) else 0:=tbC_congr fun i _ l _=>by
          try dsimp only
          rw [List.take_add_one,hl]
          by_cases e:i=q
          · subst e
            by_cases e2:l=m
            · subst e2;simp [hgo]
            · have e3:¬(l:Int)=(m:Int):=by omega
              simp [e2,e3]
          · simp [e]
        refine AWp.skip ?_
        refine AWp.seq (AWp.block ?_)
        (repeat first|refine sN rfl ?_|((first|refine sM rfl ?_ ?_|refine s4 rfl ‹_› rfl ?_ ?_);first|exact tI|omega|(simp only[oZ] at *;omega))|(refine s2 rfl ?_;intro _ _hb)|(refine s3 rfl ?_ ?_<;>intro hb<;>subst hb)|refine aS ?_|refine reg (by kernel_rfl) ?_|refine lexE ?_)
        refine regD (flN [9]) mixed (by kernel_rfl) (by kernel_rfl) ?_
        (repeat first|refine sN rfl ?_|((first|refine sM rfl ?_ ?_|refine s4 rfl ‹_› rfl ?_ ?_);first|exact tI|omega|(simp only[oZ] at *;omega))|(refine s2 rfl ?_;intro _ _hb)|(refine s3 rfl ?_ ?_<;>intro hb<;>subst hb)|refine aS ?_|refine reg (by kernel_rfl) ?_|refine lexE ?_|refine rD (by kernel_rfl) (by kernel_rfl) ?_)
        (refine popO rfl ?_;refine popW0 ?_ rfl (by rfl);refine n_store rfl rfl rfl rfl (hg) rfl (hmj) ?_)
        (repeat first|refine sN rfl ?_|((first|refine sM rfl ?_ ?_|refine s4 rfl ‹_› rfl ?_ ?_);first|exact tI|omega|(simp only[oZ] at *;omega))|(refine s2 rfl ?_;intro _ _hb)|(refine s3 rfl ?_ ?_<;>intro hb<;>subst hb)|refine aS ?_|refine reg (by kernel_rfl) ?_|refine lexE ?_)
        refine ⟨⟨k+1,by first|omega|(simp only [oZ] at *;omega)⟩,by dsimp only;(first|omega|(simp only [oZ] at *;omega)),[0],?_⟩
        rw [hs,hc]
        simp [EnvSub,StoreSub,look_cons,nm,E.ren,C.ren,C.renL,O.ren,killc,kill0,Function.comp_def,argsFrom,zC,hΓ,tbC_ren]
      · obtain rfl:k=(letters a.al).length:=by first|omega|(simp only [oZ] at *;omega)
        have hc0:=tbC_congr (n:=a.nx.length) (H:=fun i l=>if i < q then goA a i l else if i=q then (if (l:Int)∈(letters a.al).take (letters a.al).length then goA a q l else (q:Int)) else 0) (H':=fun i l=>if i < q+1 then goA a i l else 0) fun i _ l hl=>by
          try dsimp only
          rw [List.take_length]
          by_cases e:i=q
          · subst e
            simp only [Nat.lt_irrefl,if_false,if_true,Nat.lt_succ_self]
            by_cases e2:bitB a.al l=true
            · rw [if_pos (mem_lettersTo.2 ⟨hl,e2⟩)]
            · rw [if_neg (fun h=>e2 (mem_lettersTo.1 h).2)];unfold goA;rw [if_neg (by simpa using e2)]
          · by_cases e2:i < q
            · rw [if_pos e2,if_pos (by omega)]
            · rw [if_neg e2,if_neg e,if_neg (by omega)]
        rw [hc0]
        refine AWp.exit ?_
        (repeat first|refine sN rfl ?_|((first|refine sM rfl ?_ ?_|refine s4 rfl ‹_› rfl ?_ ?_);first|exact tI|omega|(simp only[oZ] at *;omega))|(refine s2 rfl ?_;intro _ _hb)|(refine s3 rfl ?_ ?_<;>intro hb<;>subst hb)|refine aS ?_|refine reg (by kernel_rfl) ?_|refine lexE ?_|refine rD (by kernel_rfl) (by kernel_rfl) ?_)
        refine ⟨⟨q+1,by first|omega|(simp only [oZ] at *;omega)⟩,by dsimp only;(first|omega|(simp only [oZ] at *;omega)),[0],?_⟩
        simp [EnvSub,StoreSub,look_cons,nm,E.ren,C.ren,C.renL,O.ren,killc,kill0,Function.comp_def,argsFrom,zC,hΓ,tbC_ren]
  · obtain rfl:q=a.nx.length:=by first|omega|(simp only [oZ] at *;omega)
    have hc:=tbC_congr (n:=a.nx.length) (H:=fun i l=>if i < a.nx.length then goA a i l else 0) (H':=fun i l=>goA a i l) fun i hi l _=>by rw [if_pos hi]
    rw [hc]
    refine AWp.exit ?_
    (repeat first|refine sN rfl ?_|((first|refine sM rfl ?_ ?_|refine s4 rfl ‹_› rfl ?_ ?_);first|exact tI|omega|(simp only[oZ] at *;omega))|(refine s2 rfl ?_;intro _ _hb)|(refine s3 rfl ?_ ?_<;>intro hb<;>subst hb)|refine aS ?_|refine reg (by kernel_rfl) ?_|refine lexE ?_|refine rD (by kernel_rfl) (by kernel_rfl) ?_)
    refine AWp.freeze [0] [(2,.o (.d (.l (tblD a))))] ⟨⟨_,rfl,.o (.full (by simp) rfl (tbC_d a) (by simp [tbC_len]))⟩,trivial⟩ ?_
    refine AWp.ret ⟨_,rfl,rfl⟩
end Go.Am
namespace Go.Am
open Go Go.Proofs
set_option maxHeartbeats 1000000
attribute [local irreducible] QOp AOp Lex LexO AWp Spec
variable {TB:List (Nat×Obj)}
end Go.Am
namespace Go.Am
open Go
def lowN:List Int→List (List Int)→List Int
  | _::zs,c::cs=>c.flatMap fun q=>(lowN zs cs).map fun r=>q*prodI zs+r
  | _,_=>[0]
theorem mixN_low:∀ {zs:List Int} {cs:List (List Int)},ChOk zs cs→∀out:List Int,mixN zs cs out=out.flatMap fun o=>(lowN zs cs).map fun r=>o*prodI zs+r:=by
  intro zs cs h
  induction h with
  | nil=>intro out;simp [mixN,lowN,prodI]
  | @cons z c zs cs _ _ _ ih=>
    intro out
    rw [mixN,ih,List.flatMap_assoc]
    congr 1
    funext o
    rw [List.flatMap_map,lowN,List.map_flatMap]
    congr 1
    funext q
    rw [List.map_map]
    congr 1
    funext r
    simp only [Function.comp_def,prodI]
    rw [Int.add_mul,Int.mul_assoc];omega
theorem mixN_low0 {zs:List Int} {cs:List (List Int)} (h:ChOk zs cs):mixN zs cs [0]=lowN zs cs:=by
  rw [mixN_low h];simp
theorem prodI_app:∀(zs ws:List Int),prodI (zs++ws)=prodI zs*prodI ws
  | [],ws=>by simp [prodI]
  | z::zs,ws=>by simp [prodI,prodI_app zs ws,Int.mul_assoc]
theorem decN_app:∀(zs ws:List Int) (n:Int),(∀w∈ws,0 < w)→decN (zs++ws) n=decN zs (n / prodI ws)++decN ws n
  | [],ws,n,_=>rfl
  | z::zs,ws,n,h=>by
    have hp:=prodI_pos h
    simp only [List.cons_append,decN,decN_app zs ws n h,prodI_app]
    rw [Int.mul_comm (prodI zs),Int.ediv_ediv_of_nonneg (by omega)]
def csP (l:List Sys) (node letter:Int):List (List Int):=l.zipWith (fun s q=>sysTo s q letter) (decN (l.map (·.st)) node)
theorem csP_ok {l:List Sys} (h:∀s∈l,sysOk s=true) (hl:l.length≤3) {letter:Int} (h0:0≤letter) (h1:letter < 6) (node:Int):ChOk (l.map (·.st)) (csP l node letter):=by
  have hn:NetOk ⟨l,[],[],0,0,0⟩:=⟨h,fun a ha=>(by cases ha),hl,by simp⟩
  have hz:sizesN ⟨l,[],[],0,0,0⟩=l.map (·.st):=by simp [sizesN]
  have hf:=dec_fits hn node
  have:=choL_ok hn hf h0 h1
  rw [hz] at this
  unfold choL at this
  simpa [csP] using this
end Go.Am
namespace Go.Am
open Go Go.Proofs
set_option maxHeartbeats 1000000
attribute [local irreducible] QOp AOp Lex LexO AWp Spec
variable {TB:List (Nat×Obj)}
theorem q_loadIp0 {P:Program} {Γ:Ctx} {d:Option Tmp} {ty:TypeId} {pos:String} {af:Array Edge} {g:Option (Nat×Bool)} {f:Env} {σ:Store} {nx:Nat} {t:TypeId} {x:Operand} {c:D} {cs:List D} {n:Nat} [hl:HasLd P t false n] (hx:ev f x=some (.o (.ip cs))) (hc:cs[0]? = some c):QOp P TB Γ ⟨d,.load t x,ty,pos,af,g⟩ f σ nx (.o (.d c)):=by
  cases cs with
  | nil=>cases hc
  | cons a l=>injection hc with hc;subst hc;exact q_loadIp hx
end Go.Am
namespace Go.Am
open Go
structure Stp where
  p:Int
  l:Int
  ns:List Int
structure VSt where
  seen:List Bool
  fresh:List Int
  found:Bool
def sn (seen:List Bool) (n:Int):Bool:=seen.getD n.toNat false
def vstep (goal:Int→Bool) (st:VSt) (n:Int):VSt:=if sn st.seen n then st else ⟨st.seen.set n.toNat true,st.fresh++[n],st.found || goal n⟩
def vis (goal:Int→Bool) (seen:List Bool) (nodes:List Int):VSt:=nodes.foldl (vstep goal) ⟨seen,[],false⟩
theorem sn_set {seen:List Bool} {n m:Int} (hn:0≤n∧n.toNat < seen.length) (hm:0≤m):sn (seen.set n.toNat true) m=(sn seen m || decide (m=n)):=by
  unfold sn
  by_cases h:m=n
  · subst h;simp [List.getD,hn.2]
  · have:n.toNat≠m.toNat:=by omega
    simp [List.getD,List.getElem?_set_ne this,h]
theorem count_set {seen:List Bool} {k:Nat} (h:seen[k]? = some false):(seen.set k true).count true=seen.count true+1:=by
  induction seen generalizing k with
  | nil=>simp at h
  | cons a l ih=>
    cases k with
    | zero=>simp at h;subst h;simp
    | succ k=>
      have:=ih (k:=k) (by simpa using h)
      simp only [List.set_cons_succ,List.count_cons,this];omega
structure VOk (goal:Int→Bool) (N:Nat) (seen:List Bool) (nodes:List Int) (st:VSt):Prop where
  len:st.seen.length=N
  snI:∀n:Int,0≤n→(sn st.seen n=true↔sn seen n=true∨n∈nodes)
  fr:∀n:Int,n∈st.fresh↔n∈nodes∧sn seen n=false
  nd:st.fresh.Nodup
  fd:st.found=st.fresh.any goal
  cnt:st.seen.count true=seen.count true+st.fresh.length
theorem vis_ok {goal:Int→Bool} {N:Nat} {seen:List Bool} {nodes:List Int} (hs:seen.length=N) (hn:∀n∈nodes,0≤n∧n < N):VOk goal N seen nodes (vis goal seen nodes):=by
  have key : ∀ (l done:List Int) (st:VSt),(∀n∈l,0≤n∧n < N)→(∀n∈done,0≤n)→VOk goal N seen done st→VOk goal N seen (done++l) (l.foldl (vstep goal) st):=by
    intro l
    induction l with
    | nil=>intro done st _ _ h;simpa using h
    | cons a l ih=>
      intro done st hl hd h
      have ha:=hl a (by simp)
      rw [List.foldl_cons,show done++a::l=(done++[a])++l by simp]
      refine ih (done++[a]) _ (fun n hn=>hl n (by simp [hn])) (fun n hn=>by rcases List.mem_append.1 hn with h1|h1;exact hd n h1;simp at h1;omega) ?_
      have hlen:=h.len
      have hmem:∀n:Int,n∈done++[a]↔n∈done∨n=a:=fun n=>by simp
      unfold vstep
      by_cases hsa:sn st.seen a=true
      · rw [if_pos hsa]
        have h1:=(h.snI a ha.1).1 hsa
        refine ⟨h.len,fun n hn0=>?_,fun n=>?_,h.nd,h.fd,h.cnt⟩
        · rw [h.snI n hn0,hmem]
          constructor
          · rintro (h2|h2);exact .inl h2;exact .inr (.inl h2)
          · rintro (h2|h2|rfl);exact .inl h2;exact .inr h2;exact h1
        · rw [h.fr n,hmem]
          constructor
          · rintro ⟨h2,h3⟩;exact ⟨.inl h2,h3⟩
          · rintro ⟨h2|rfl,h3⟩
            · exact ⟨h2,h3⟩
            · rcases h1 with h1|h1
              · rw [h1] at h3;cases h3
              · exact ⟨h1,h3⟩
      · rw [if_neg hsa]
        have h1:sn seen a=false∧a∉done:=by
          have h2:¬(sn seen a=true∨a∈done):=fun h3=>hsa ((h.snI a ha.1).2 h3)
          exact ⟨by simpa using fun h3=>h2 (.inl h3),fun h3=>h2 (.inr h3)⟩
        have hk:st.seen[a.toNat]? = some false:=by
          unfold sn at hsa
          have:a.toNat < st.seen.length:=by omega
          simp [List.getD,this] at hsa
          rw [List.getElem?_eq_getElem this,hsa]
        refine ⟨by simpa using h.len,fun n hn0=>?_,fun n=>?_,?_,?_,?_⟩
        · rw [sn_set ⟨ha.1,by omega⟩ hn0,hmem,Bool.or_eq_true,h.snI n hn0];simp;grind
        · simp only [List.mem_append,List.mem_singleton,h.fr n]
          grind
        · refine List.nodup_append.2 ⟨h.nd,by simp,fun x hx y hy=>?_⟩
          simp at hy;subst hy
          intro e;subst e
          exact h1.2 ((h.fr x).1 hx).1
        · simp [List.any_append,h.fd]
        · rw [count_set hk,h.cnt];simp;omega
  have:=key nodes [] ⟨seen,[],false⟩ hn (by simp) ⟨hs,fun n _=>by simp,fun n=>by simp,.nil,rfl,by simp⟩
  simpa [vis] using this
theorem llt_trans:∀ {a b c:List Int},llt a b→llt b c→llt a c
  | [],_,_,h,_=>h.elim
  | _::_,[],_,h,_=>h.elim
  | _::_,_::_,[],_,h=>h.elim
  | x::a,y::b,z::c,h,k=>by
    simp only [llt] at *
    rcases h with h|⟨h,h'⟩<;>rcases k with k|⟨k,k'⟩
    · exact .inl (by omega)
    · exact .inl (by omega)
    · exact .inl (by omega)
    · exact .inr ⟨by omega,llt_trans h' k'⟩
theorem llt_irr:∀ {a:List Int},¬llt a a
  | [],h=>h
  | x::a,h=>by rcases h with h|⟨_,h⟩;omega;exact llt_irr h
theorem slt_trans {a b c:List Int} (h:slt a b) (k:slt b c):slt a c:=by
  unfold slt at *
  rcases h with h|⟨h,h'⟩<;>rcases k with k|⟨k,k'⟩
  · exact .inl (by omega)
  · exact .inl (by omega)
  · exact .inl (by omega)
  · exact .inr ⟨by omega,llt_trans h' k'⟩
theorem slt_irr {a:List Int}:¬slt a a:=by
  rintro (h|⟨_,h⟩);omega;exact llt_irr h
theorem slt_tri' (a b:List Int):slt a b∨a=b∨slt b a:=by
  rcases Nat.lt_trichotomy a.length b.length with h|h|h
  · exact .inl (.inl h)
  · rcases llt_tri h with h1|h1|h1
    · exact .inl (.inr ⟨h,h1⟩)
    · exact .inr (.inl h1)
    · exact .inr (.inr (.inr ⟨h.symm,h1⟩))
  · exact .inr (.inr (.inl h))
theorem slt_app {a b:List Int} {l m:Int} (h:slt a b):slt (a++[l]) (b++[m]):=by
  rcases h with h|⟨h,h'⟩
  · exact .inl (by simp;omega)
  · exact .inr ⟨by simp;omega,(llt_snoc h).2 (.inl h')⟩
theorem slt_last {a:List Int} {l m:Int} (h:l < m):slt (a++[l]) (a++[m]):=.inr ⟨by simp,(llt_snoc rfl).2 (.inr ⟨rfl,h⟩)⟩
theorem slt_snoc {a b:List Int} {l m:Int}:slt (a++[l]) (b++[m])→slt a b∨a=b∧l < m:=by
  intro h
  rcases slt_tri' a b with h1|h1|h1
  · exact .inl h1
  · subst h1
    rcases h with h|⟨h,h'⟩
    · simp at h
    · rcases (llt_snoc rfl).1 h' with h2|h2
      · exact absurd h2 llt_irr
      · exact .inr h2
  · exact absurd (slt_trans h (slt_app h1)) slt_irr
theorem slt_self {a:List Int} {l:Int}:slt a (a++[l]):=.inl (by simp)
structure FI (g:Gr) (seen:List Bool) (steps:List Stp) (ws:List (List Int)) (i j:Nat):Prop where
  slen:seen.length=g.N
  wlen:ws.length=steps.length
  chain:∀(t:Nat) s,steps[t]? = some s→(s.p = -1∧ws[t]? = some [])∨∃(q:Nat) (w:List Int),s.p=(q:Int)∧q < t∧ws[q]? = some w∧ws[t]? = some (w++[s.l])∧s.l∈g.ls
  rch:∀(t:Nat) s w,steps[t]? = some s→ws[t]? = some w→∀n∈s.ns,reach g w g.s0 n
  ov:∀w∈ws,over g w
  min:∀(t:Nat) s w,steps[t]? = some s→ws[t]? = some w→∀n∈s.ns,∀u,over g u→slt u w→¬reach g u g.s0 n
  ord:ws.Pairwise slt
  par:∀w∈ws,w=[]∨∃(p:Nat) (v:List Int) (l:Int),ws[p]? = some v∧w=v++[l]∧l∈g.ls∧(p < i∨p=i∧∃j',j' < j∧g.ls[j']? = some l)
  snI:∀n:Int,0≤n→(sn seen n=true↔∃s∈steps,n∈s.ns)
  done:∀(t:Nat) s,steps[t]? = some s→∀l,(t < i∧l∈g.ls∨t=i∧∃j',j' < j∧g.ls[j']? = some l)→∀n∈s.ns,∀y∈g.succ n l,sn seen y=true
  nogoal:∀s∈steps,∀n∈s.ns,g.goal n=false
  inn:∀s∈steps,∀n∈s.ns,0≤n∧n < g.N
  start:sn seen g.s0=true
  cnt:steps.length≤seen.count true
  le:i≤steps.length
  nd:∀s∈steps,s.ns.Nodup
theorem FI.lenN {g:Gr} {seen:List Bool} {steps:List Stp} {ws:List (List Int)} {i j:Nat} (h:FI g seen steps ws i j):steps.length≤g.N:=by
  have h1:=h.cnt
  have h2:seen.count true≤seen.length:=List.count_le_length
  rw [h.slen] at h2;omega
theorem FI.claim {g:Gr} (hg:GrOk g) {seen:List Bool} {steps:List Stp} {ws:List (List Int)} {i j:Nat} (h:FI g seen steps ws i j) {wi:List Int} {lj:Int} (hw:ws[i]? = some wi) (hj:g.ls[j]? = some lj) :
    ∀(n:Nat) (u:List Int),u.length=n→over g u→slt u (wi++[lj])→∀x,reach g u g.s0 x→sn seen x=true:=by
  intro n
  induction n with
  | zero=>
    intro u hu _ _ x hx
    have:u=[]:=List.length_eq_zero_iff.1 hu
    subst this
    have hx:g.s0=x:=hx
    rw [←hx];exact h.start
  | succ n ih=>
    intro u hu ho hlt x hx
    have hu0:u≠[]:=fun e=>by subst e;simp at hu
    obtain ⟨v,l,rfl⟩:∃v l,u=v++[l]:=⟨u.dropLast,u.getLast hu0,(List.dropLast_concat_getLast hu0).symm⟩
    obtain ⟨m,hm,hxm⟩:=reach_snoc.1 hx
    obtain ⟨hov,hl⟩:=over_snoc.1 ho
    have hms:=ih v (by simpa using hu) hov (slt_trans slt_self hlt) m hm
    have hmin:=reach_in hg hov hg.s0 hm
    obtain ⟨s,hs,hms2⟩:=(h.snI m hmin.1).1 hms
    obtain ⟨t,ht⟩:=List.getElem?_of_mem hs
    obtain ⟨wt,hwt⟩:∃wt,ws[t]? = some wt:=get_some (by have:=(List.getElem?_eq_some_iff.1 ht).1;rw [h.wlen];exact this)
    have hle:¬slt v wt:=fun h1=>h.min t s wt ht hwt m hms2 v hov h1 hm
    have hvi:=slt_snoc hlt
    have hti:t≤i:=by
      rcases Nat.lt_or_ge i t with h1|h1
      · exfalso
        obtain ⟨a1,a2⟩:=List.getElem?_eq_some_iff.1 hw
        obtain ⟨b1,b2⟩:=List.getElem?_eq_some_iff.1 hwt
        have h2:=(List.pairwise_iff_getElem.1 h.ord) i t a1 b1 h1
        rw [a2,b2] at h2
        rcases slt_tri' v wt with h3|h3|h3
        · exact hle h3
        · subst h3
          rcases hvi with h4|⟨h4,_⟩
          · exact slt_irr (slt_trans h2 h4)
          · subst h4;exact slt_irr h2
        · rcases hvi with h4|⟨h4,_⟩
          · exact slt_irr (slt_trans (slt_trans h2 h3) h4)
          · subst h4;exact slt_irr (slt_trans h2 h3)
      · exact h1
    refine h.done t s ht l ?_ m hms2 x hxm
    rcases Nat.lt_or_ge t i with h1|h1
    · exact .inl ⟨h1,hl⟩
    · have:t=i:=by omega
      subst this
      rw [hw] at hwt
      injection hwt with hwt
      subst hwt
      rcases hvi with h4|⟨h4,h5⟩
      · exact absurd h4 hle
      · obtain ⟨j',hj'⟩:=List.getElem?_of_mem hl
        exact .inr ⟨rfl,j',idx_lt hg.srt hj' hj h5,hj'⟩
theorem IsAns.found {g:Gr} (hg:GrOk g) {seen:List Bool} {steps:List Stp} {ws:List (List Int)} {i j:Nat} (h:FI g seen steps ws i j) {wi:List Int} {lj:Int} (hw:ws[i]? = some wi) (hj:g.ls[j]? = some lj) {n x:Int} {s:Stp} (hs:steps[i]? = some s) (hn:n∈s.ns) (hx:x∈g.succ n lj) (hgx:g.goal x=true):IsAns g (some (wi++[lj])):=by
  have hl:=List.mem_of_getElem? hj
  refine ⟨over_snoc.2 ⟨h.ov wi (List.mem_of_getElem? hw),hl⟩,⟨x,reach_snoc.2 ⟨n,h.rch i s wi hs hw n hn,hx⟩,hgx⟩,fun u hu hh hlt=>?_⟩
  obtain ⟨y,hy,hgy⟩:=hh
  have hys:=h.claim hg hw hj u.length u rfl hu hlt y hy
  obtain ⟨s',hs',hy'⟩:=(h.snI y (reach_in hg hu hg.s0 hy).1).1 hys
  rw [h.nogoal s' hs' y hy'] at hgy;cases hgy
theorem IsAns.dry {g:Gr} (hg:GrOk g) {seen:List Bool} {steps:List Stp} {ws:List (List Int)} (h:FI g seen steps ws steps.length 0):IsAns g none:=by
  have key:∀(n:Nat) (u:List Int),u.length=n→over g u→∀x,reach g u g.s0 x→sn seen x=true:=by
    intro n
    induction n with
    | zero=>
      intro u hu _ x hx
      have:u=[]:=List.length_eq_zero_iff.1 hu
      subst this
      have hx:g.s0=x:=hx
      rw [←hx];exact h.start
    | succ n ih=>
      intro u hu ho x hx
      have hu0:u≠[]:=fun e=>by subst e;simp at hu
      obtain ⟨v,l,rfl⟩:∃v l,u=v++[l]:=⟨u.dropLast,u.getLast hu0,(List.dropLast_concat_getLast hu0).symm⟩
      obtain ⟨m,hm,hxm⟩:=reach_snoc.1 hx
      obtain ⟨hov,hl⟩:=over_snoc.1 ho
      have hms:=ih v (by simpa using hu) hov m hm
      obtain ⟨s,hs,hms2⟩:=(h.snI m (reach_in hg hov hg.s0 hm).1).1 hms
      obtain ⟨t,ht⟩:=List.getElem?_of_mem hs
      exact h.done t s ht l (.inl ⟨(List.getElem?_eq_some_iff.1 ht).1,hl⟩) m hms2 x hxm
  rintro u hu ⟨x,hx,hgx⟩
  have hxs:=key u.length u rfl hu x hx
  obtain ⟨s,hs,hxs2⟩:=(h.snI x (reach_in hg hu hg.s0 hx).1).1 hxs
  rw [h.nogoal s hs x hxs2] at hgx;cases hgx
theorem FI.nextI {g:Gr} {seen:List Bool} {steps:List Stp} {ws:List (List Int)} {i:Nat} (h:FI g seen steps ws i g.ls.length) (hi:i < steps.length):FI g seen steps ws (i+1) 0:=by
  refine ⟨h.slen,h.wlen,h.chain,h.rch,h.ov,h.min,h.ord,fun w hw=>?_,h.snI,fun t s hs l hl=>?_,h.nogoal,h.inn,h.start,h.cnt,by omega,h.nd⟩
  · rcases h.par w hw with h1|⟨p,v,l,h1,h2,h3,h4⟩
    · exact .inl h1
    · exact .inr ⟨p,v,l,h1,h2,h3,.inl (by rcases h4 with h4|⟨h4,_⟩<;>omega)⟩
  · refine h.done t s hs l ?_
    rcases hl with ⟨h1,h2⟩|⟨_,j',h1,_⟩
    · rcases Nat.lt_or_ge t i with h3|h3
      · exact .inl ⟨h3,h2⟩
      · obtain ⟨j',hj'⟩:=List.getElem?_of_mem h2
        exact .inr ⟨by omega,j',(List.getElem?_eq_some_iff.1 hj').1,hj'⟩
    · omega
end Go.Am
namespace Go.Am
open Go
def stepsV (steps:List Stp) (p l:Int) (fresh:List Int):List Stp:=if fresh=[] then steps else steps++[⟨p,l,fresh⟩]
def wsV (ws:List (List Int)) (w fresh:List Int):List (List Int):=if fresh=[] then ws else ws++[w]
structure Chain (ls:List Int) (steps:List Stp) (ws:List (List Int)):Prop where
  wlen:ws.length=steps.length
  chain:∀(t:Nat) s,steps[t]? = some s→(s.p = -1∧ws[t]? = some [])∨∃(q:Nat) (w:List Int),s.p=(q:Int)∧q < t∧ws[q]? = some w∧ws[t]? = some (w++[s.l])∧s.l∈ls
theorem app_get {α:Type} {l:List α} {x y:α} {t:Nat} (h:(l++[x])[t]? = some y):l[t]? = some y∨t=l.length∧y=x:=by
  rcases Nat.lt_or_ge t l.length with h1|h1
  · rw [List.getElem?_append_left h1] at h;exact .inl h
  · rw [List.getElem?_append_right h1] at h
    have h2:=(List.getElem?_eq_some_iff.1 h).1
    simp at h2
    have:t=l.length:=by omega
    subst this
    simp at h
    exact .inr ⟨rfl,h.symm⟩
theorem get_app {α:Type} {l:List α} {x y:α} {t:Nat} (h:l[t]? = some y):(l++[x])[t]? = some y:=by
  rw [List.getElem?_append_left (List.getElem?_eq_some_iff.1 h).1];exact h
theorem Chain.app {ls:List Int} {steps:List Stp} {ws:List (List Int)} (h:Chain ls steps ws) {i:Nat} {wi:List Int} {l:Int} {ns:List Int} (hw:ws[i]? = some wi) (hl:l∈ls):Chain ls (steps++[⟨i,l,ns⟩]) (ws++[wi++[l]]):=by
  have hi:=(List.getElem?_eq_some_iff.1 hw).1
  refine ⟨by simp [h.wlen],fun t s hs=>?_⟩
  rcases app_get hs with h1|⟨h1,h2⟩
  · rcases h.chain t s h1 with ⟨h2,h3⟩|⟨q,w,h2,h3,h4,h5,h6⟩
    · exact .inl ⟨h2,get_app h3⟩
    · exact .inr ⟨q,w,h2,h3,get_app h4,get_app h5,h6⟩
  · subst h2
    refine .inr ⟨i,wi,rfl,?_,get_app hw,?_,hl⟩
    · rw [h1,←h.wlen];exact hi
    · rw [h1,←h.wlen];simp
theorem FI.toChain {g:Gr} {seen:List Bool} {steps:List Stp} {ws:List (List Int)} {i j:Nat} (h:FI g seen steps ws i j):Chain g.ls steps ws:=⟨h.wlen,h.chain⟩
theorem FI.visit {g:Gr} (hg:GrOk g) {seen:List Bool} {steps:List Stp} {ws:List (List Int)} {i j:Nat} (h:FI g seen steps ws i j) {wi:List Int} {lj:Int} (hw:ws[i]? = some wi) (hj:g.ls[j]? = some lj) {s:Stp} (hs:steps[i]? = some s)
    {R:List Int} (hR:∀y,y∈R↔∃n∈s.ns,y∈g.succ n lj) {st:VSt} (hv:VOk g.goal g.N seen R st) (hf:st.found=false):FI g st.seen (stepsV steps i lj st.fresh) (wsV ws (wi++[lj]) st.fresh) i (j+1):=by
  have hl:=List.mem_of_getElem? hj
  have hRin:∀y∈R,0≤y∧y < g.N:=fun y hy=>by
    obtain ⟨n,hn,hy⟩:=(hR y).1 hy
    exact hg.inn n (h.inn s (List.mem_of_getElem? hs) n hn) lj hl y hy
  have hmono:∀n:Int,0≤n→sn seen n=true→sn st.seen n=true:=fun n hn hx=>(hv.snI n hn).2 (.inl hx)
  have hnog:∀n∈st.fresh,g.goal n=false:=fun n hn=>by
    have:=hv.fd
    rw [hf] at this
    have h2:=List.any_eq_false.1 this.symm n hn
    simpa using h2
  have hpar:∀w∈ws,w=[]∨∃(p:Nat) (v:List Int) (l:Int),ws[p]? = some v∧w=v++[l]∧l∈g.ls∧(p < i∨p=i∧∃j',j' < j+1∧g.ls[j']? = some l):=fun w hw=>by
    rcases h.par w hw with h1|⟨p,v,l,h1,h2,h3,h4⟩
    · exact .inl h1
    · refine .inr ⟨p,v,l,h1,h2,h3,?_⟩
      rcases h4 with h4|⟨h4,j',h5,h6⟩
      · exact .inl h4
      · exact .inr ⟨h4,j',by omega,h6⟩
  have hdone:∀(t:Nat) s',steps[t]? = some s'→∀l,(t < i∧l∈g.ls∨t=i∧∃j',j' < j+1∧g.ls[j']? = some l)→∀n∈s'.ns,∀y∈g.succ n l,sn st.seen y=true:=by
    intro t s' hs' l hl' n hn y hy
    have hyin:0≤y∧y < g.N:=by
      refine hg.inn n (h.inn s' (List.mem_of_getElem? hs') n hn) l ?_ y hy
      rcases hl' with ⟨_,h1⟩|⟨_,j',_,h1⟩
      · exact h1
      · exact List.mem_of_getElem? h1
    rcases hl' with h1|⟨h1,j',h2,h3⟩
    · exact hmono y hyin.1 (h.done t s' hs' l (.inl h1) n hn y hy)
    · subst h1
      rcases Nat.lt_succ_iff_lt_or_eq.1 h2 with h4|h4
      · exact hmono y hyin.1 (h.done t s' hs' l (.inr ⟨rfl,j',h4,h3⟩) n hn y hy)
      · subst h4
        rw [hj] at h3
        injection h3 with h3
        subst h3
        rw [hs] at hs'
        injection hs' with hs'
        subst hs'
        exact (hv.snI y hyin.1).2 (.inr ((hR y).2 ⟨n,hn,hy⟩))
  unfold stepsV wsV
  by_cases hfr:st.fresh=[]
  · rw [if_pos hfr,if_pos hfr]
    have hsame:∀n:Int,0≤n→(sn st.seen n=true↔sn seen n=true):=fun n hn=>by
      rw [hv.snI n hn]
      refine ⟨fun h1=>?_,.inl⟩
      rcases h1 with h1|h1
      · exact h1
      · rcases Bool.eq_false_or_eq_true (sn seen n) with h2|h2
        · exact h2
        · have:=(hv.fr n).2 ⟨h1,h2⟩
          rw [hfr] at this;cases this
    refine ⟨hv.len,h.wlen,h.chain,h.rch,h.ov,h.min,h.ord,hpar,fun n hn=>by rw [hsame n hn];exact h.snI n hn,hdone,h.nogoal,h.inn,hmono _ hg.s0.1 h.start,?_,h.le,h.nd⟩
    rw [hv.cnt,hfr];exact h.cnt
  · rw [if_neg hfr,if_neg hfr]
    have hch:=h.toChain.app (ns:=st.fresh) hw hl
    have hnew:∀n∈st.fresh,n∈R∧sn seen n=false:=fun n hn=>(hv.fr n).1 hn
    have hbig:∀w∈ws,slt w (wi++[lj]):=by
      intro w hww
      rcases h.par w hww with rfl|⟨p,v,l,h1,rfl,h3,h4⟩
      · exact .inl (by simp)
      · rcases h4 with h4|⟨h4,j',h5,h6⟩
        · obtain ⟨a1,a2⟩:=List.getElem?_eq_some_iff.1 h1
          obtain ⟨b1,b2⟩:=List.getElem?_eq_some_iff.1 hw
          have h7:=(List.pairwise_iff_getElem.1 h.ord) p i a1 b1 h4
          rw [a2,b2] at h7
          exact slt_app h7
        · subst h4
          rw [hw] at h1
          injection h1 with h1
          subst h1
          obtain ⟨a1,a2⟩:=List.getElem?_eq_some_iff.1 h6
          obtain ⟨b1,b2⟩:=List.getElem?_eq_some_iff.1 hj
          have h7:=(List.pairwise_iff_getElem.1 hg.srt) j' j a1 b1 h5
          rw [a2,b2] at h7
          exact slt_last h7
    have hmemR:∀n∈st.fresh,∃m∈s.ns,n∈g.succ m lj:=fun n hn=>(hR n).1 (hnew n hn).1
    refine ⟨hv.len,hch.wlen,hch.chain,fun t s' w hs' hw' n hn=>?_,fun w hww=>?_,fun t s' w hs' hw' n hn u hu hlt hr=>?_,?_,fun w hww=>?_,fun n hn=>?_,fun t s' hs' l hl' n hn y hy=>?_,fun s' hs' n hn=>?_,fun s' hs' n hn=>?_,hmono _ hg.s0.1 h.start,?_,?_,fun s' hs'=>?_⟩
    · rcases app_get hs' with h1|⟨h1,h2⟩
      · rcases app_get hw' with h3|⟨h3,h4⟩
        · exact h.rch t s' w h1 h3 n hn
        · have:=(List.getElem?_eq_some_iff.1 h1).1
          rw [h.wlen] at h3;omega
      · subst h2
        rcases app_get hw' with h3|⟨h3,h4⟩
        · have:=(List.getElem?_eq_some_iff.1 h3).1
          rw [h.wlen] at this;omega
        · subst h4
          obtain ⟨m,hm,hnm⟩:=hmemR n hn
          exact reach_snoc.2 ⟨m,h.rch i s wi hs hw m hm,hnm⟩
    · rcases List.mem_append.1 hww with h1|h1
      · exact h.ov w h1
      · simp at h1;subst h1
        exact over_snoc.2 ⟨h.ov wi (List.mem_of_getElem? hw),hl⟩
    · rcases app_get hs' with h1|⟨h1,h2⟩
      · rcases app_get hw' with h3|⟨h3,h4⟩
        · exact h.min t s' w h1 h3 n hn u hu hlt hr
        · have:=(List.getElem?_eq_some_iff.1 h1).1
          rw [h.wlen] at h3;omega
      · subst h2
        rcases app_get hw' with h3|⟨h3,h4⟩
        · have:=(List.getElem?_eq_some_iff.1 h3).1
          rw [h.wlen] at this;omega
        · subst h4
          have:=h.claim hg hw hj u.length u rfl hu hlt n hr
          rw [(hnew n hn).2] at this;cases this
    · refine List.pairwise_append.2 ⟨h.ord,by simp,fun a ha b hb=>?_⟩
      simp at hb;subst hb
      exact hbig a ha
    · rcases List.mem_append.1 hww with h1|h1
      · rcases hpar w h1 with h2|⟨p,v,l,h2,h3,h4,h5⟩
        · exact .inl h2
        · exact .inr ⟨p,v,l,get_app h2,h3,h4,h5⟩
      · simp at h1;subst h1
        exact .inr ⟨i,wi,lj,get_app hw,rfl,hl,.inr ⟨rfl,j,by omega,hj⟩⟩
    · rw [hv.snI n hn,h.snI n hn]
      constructor
      · rintro (⟨s',hs',hns⟩|hnR)
        · exact ⟨s',List.mem_append_left _ hs',hns⟩
        · rcases Bool.eq_false_or_eq_true (sn seen n) with h2|h2
          · obtain ⟨s',hs',hns⟩:=(h.snI n hn).1 h2
            exact ⟨s',List.mem_append_left _ hs',hns⟩
          · exact ⟨⟨i,lj,st.fresh⟩,List.mem_append_right _ (by simp),(hv.fr n).2 ⟨hnR,h2⟩⟩
      · rintro ⟨s',hs',hns⟩
        rcases List.mem_append.1 hs' with h1|h1
        · exact .inl ⟨s',h1,hns⟩
        · simp at h1;subst h1
          exact .inr (hnew n hns).1
    · rcases app_get hs' with h1|⟨h1,h2⟩
      · exact hdone t s' h1 l hl' n hn y hy
      · have:=(List.getElem?_eq_some_iff.1 hs).1
        rcases hl' with ⟨h3,_⟩|⟨h3,_⟩<;>omega
    · rcases List.mem_append.1 hs' with h1|h1
      · exact h.nogoal s' h1 n hn
      · simp at h1;subst h1;exact hnog n hn
    · rcases List.mem_append.1 hs' with h1|h1
      · exact h.inn s' h1 n hn
      · simp at h1;subst h1;exact hRin n (hnew n hn).1
    · have h1:=hv.cnt
      have h2:=h.cnt
      have h3:0 < st.fresh.length:=List.length_pos_iff.2 hfr
      simp;omega
    · have:=h.le;simp;omega
    · rcases List.mem_append.1 hs' with h1|h1
      · exact h.nd s' h1
      · simp at h1;subst h1;exact hv.nd
theorem FI.init {g:Gr} (hg:GrOk g) {st:VSt} (hv:VOk g.goal g.N (List.replicate g.N false) [g.s0] st) (hf:st.found=false):st.fresh=[g.s0]∧FI g st.seen [⟨-1,0,[g.s0]⟩] [[]] 0 0:=by
  have hno:∀n,sn (List.replicate g.N false) n=false:=fun n=>by
    unfold sn
    by_cases h:n.toNat < g.N<;>simp [List.getD,h]
  have hmem:∀n,n∈st.fresh↔n=g.s0:=fun n=>by rw [hv.fr n];simp [hno]
  have hfr:st.fresh=[g.s0]:=by
    have h1:=hv.nd
    generalize st.fresh=l at hmem h1
    cases l with
    | nil=>have:=(hmem g.s0).2 rfl;cases this
    | cons a l=>
      have ha:=(hmem a).1 (by simp)
      subst ha
      cases l with
      | nil=>rfl
      | cons b l=>
        have hb:=(hmem b).1 (by simp)
        subst hb
        simp at h1
  refine ⟨hfr,?_⟩
  have hng:g.goal g.s0=false:=by
    have:=hv.fd
    rw [hf,hfr] at this
    simpa using this.symm
  have one:∀(t:Nat) (s:Stp),[(⟨-1,0,[g.s0]⟩:Stp)][t]? = some s→t=0∧s=⟨-1,0,[g.s0]⟩:=fun t s h=>by
    cases t with
    | zero=>simp at h;exact ⟨rfl,h.symm⟩
    | succ t=>simp at h
  have one':∀(t:Nat) (w:List Int),[([]:List Int)][t]? = some w→w=[]:=fun t w h=>by
    cases t with
    | zero=>exact (Option.some.inj h).symm
    | succ t=>simp at h
  refine ⟨hv.len,rfl,fun t s hs=>?_,fun t s w hs hw n hn=>?_,fun w hw=>?_,fun t s w hs hw n hn u _ hlt=>?_,by simp,fun w hw=>by simp at hw;exact .inl hw,fun n hn=>?_,fun t s hs l hl n hn y hy=>?_,fun s hs n hn=>?_,fun s hs n hn=>?_,?_,?_,by simp,fun s hs=>?_⟩
  · obtain ⟨rfl,rfl⟩:=one t s hs;exact .inl ⟨rfl,rfl⟩
  · obtain ⟨rfl,rfl⟩:=one t s hs
    have:=one' 0 w hw
    subst this
    simp at hn;subst hn;exact (rfl:g.s0=g.s0)
  · simp at hw;subst hw;exact fun l hl=>(by cases hl)
  · have:=one' t w hw
    subst this
    rcases hlt with h1|⟨_,h1⟩
    · simp at h1
    · cases u<;>exact h1.elim
  · rw [hv.snI n hn];simp [hno]
  · rcases hl with ⟨h1,_⟩|⟨_,j',h1,_⟩<;>omega
  · simp at hs;subst hs;simp at hn;subst hn;exact hng
  · simp at hs;subst hs;simp at hn;subst hn;exact hg.s0
  · exact (hv.snI _ hg.s0.1).2 (.inr (by simp))
  · rw [hv.cnt,hfr];simp
  · simp at hs;subst hs;simp
theorem IsAns.start {g:Gr} (h:g.goal g.s0=true):IsAns g (some []):=
  ⟨fun l hl=>(by cases hl),⟨g.s0,rfl,h⟩,fun u _ _ hlt=>by rcases hlt with h1|⟨_,h1⟩;(simp at h1);(cases u<;>exact h1.elim)⟩
end Go.Am
namespace Go.Am
open Go
end Go.Am
namespace Go.Am
open Go Go.Proofs
set_option maxHeartbeats 1000000
attribute [local irreducible] QOp AOp Lex LexO AWp Spec
variable {TB:List (Nat×Obj)}
def revH (bs:List UInt8) (k i:Nat):UInt8:=if i < k∨bs.length≤i+k then bs.getD (bs.length - 1 - i) 0 else bs.getD i 0
theorem revH_0 (bs:List UInt8):(rowsF bs.length fun i=>byC (revH bs 0 i))=bs.map byC:=by
  apply List.ext_getElem?
  intro i
  by_cases hi:i < bs.length
  · rw [rowsF_get (g:=fun i=>byC (revH bs 0 i)) hi]
    unfold revH
    rw [if_neg (by omega)]
    simp [List.getD,hi]
  · rw [List.getElem?_eq_none (by simp [rowsF];omega),List.getElem?_eq_none (by simp;omega)]
theorem revH_end (bs:List UInt8) {k:Nat} (hk:bs.length≤2*k+1):(rowsF bs.length fun i=>byC (revH bs k i))=bs.reverse.map byC:=by
  apply List.ext_getElem?
  intro i
  by_cases hi:i < bs.length
  · rw [rowsF_get (g:=fun i=>byC (revH bs k i)) hi]
    unfold revH
    have h1:bs.reverse[i]? = some (bs.getD (bs.length - 1 - i) 0):=by
      rw [List.getElem?_reverse hi]
      have:bs.length - 1 - i < bs.length:=by omega
      simp [List.getD,this]
    rw [List.getElem?_map,h1]
    by_cases h2:i < k∨bs.length≤i+k
    · rw [if_pos h2];rfl
    · rw [if_neg h2]
      have:bs.length - 1 - i=i:=by omega
      rw [this];rfl
  · rw [List.getElem?_eq_none (by simp [rowsF];omega),List.getElem?_eq_none (by simp;omega)]
theorem ren_byC (r:Nat→Nat) (l:List UInt8):(l.map byC).map (C.renL r)=l.map byC:=by
  rw [List.map_map];exact List.map_congr_left fun c _=>rfl
theorem renL_byC (r:Nat→Nat) (c:UInt8):C.renL r (byC c)=byC c:=rfl
theorem ren_by (r:Nat→Nat) (n:Nat) (H:Nat→UInt8):(rowsF n fun i=>byC (H i)).map (C.renL r)=rowsF n fun i=>byC (H i):=by
  unfold rowsF
  rw [List.map_map]
  exact List.map_congr_left fun i _=>rfl
theorem getA_by {n q:Nat} {H:Nat→UInt8} (h:q < n):(rowsF n fun i=>byC (H i))[0+((q:Nat):Int).toNat]? = some (byC (H q)):=by
  rw [Nat.zero_add,Int.toNat_natCast];exact rowsF_get (g:=fun i=>byC (H i)) h
theorem setA_by {n q:Nat} {H:Nat→UInt8} {c d:UInt8}:(rowsF n fun i=>byC (H i)).set (0+((q:Nat):Int).toNat) (spliceC (byC d) 0 (eC (eI .u8 (c.toNat:Nat))))=rowsF n fun i=>byC (if i=q then c else H i):=by
  rw [Nat.zero_add,Int.toNat_natCast]
  have e:spliceC (byC d) 0 (eC (eI .u8 (c.toNat:Nat)))=byC c:=rfl
  rw [e,rowsF_set]
  refine rowsF_congr fun i _=>?_
  by_cases h:i=q<;>simp [h]
theorem reverse_ok (bs:List UInt8) (hb:bs.length≤1099511627776):Spec Tryz.prog TB 156 [(0,.cells 5 1 (bs.map byC))] 1 [.o (.arr 0 1 0 bs.length)] (fun x σ nx=>x=.t []∧nx=1∧σ=[(0,.cells 5 1 (bs.reverse.map byC))]):=by
  refine eN Tryz.func156 rfl (by kernel_rfl) rfl ?_;intro Γ hΓ
  (repeat first|refine sN rfl ?_|((first|refine sM rfl ?_ ?_|refine s4 rfl ‹_› rfl ?_ ?_);first|exact tI|omega|(simp only[oZ] at *;omega))|(refine s2 rfl ?_;intro _ _hb)|(refine s3 rfl ?_ ?_<;>intro hb<;>subst hb)|refine aS ?_|refine reg (by kernel_rfl) ?_|refine lexE ?_|refine rD (by kernel_rfl) (by kernel_rfl) ?_)
  refine AWp.block ?_
  refine AWp.loopL (α:={k:Nat // k≤bs.length}) (fun ⟨k,hk⟩=>[(0,.o (.arr 0 1 0 bs.length)),(2,eI .i64 k),(3,eI .i64 ((bs.length:Int) - 1 - k))]) (fun ⟨k,hk⟩=>[(0,.cells 5 1 (rowsF bs.length fun i=>byC (revH bs k i)))]) 1 (fun ⟨k,hk⟩=>bs.length - k) (⟨0,by omega⟩) [0] (by first|(simp [hΓ];done)|(rw [hΓ];decide)) (by (repeat' (first|exact trivial|rfl|refine And.intro ?_ ?_))<;>simp [EnvSub,StoreSub,look_cons,nm,E.ren,C.ren,C.renL,O.ren,killc,kill0,Function.comp_def,argsFrom,zC,hΓ,ren_by,revH_0,renL_byC]) ?_;rintro ⟨k,hk⟩;(try dsimp only)
  (repeat first|refine sN rfl ?_|((first|refine sM rfl ?_ ?_|refine s4 rfl ‹_› rfl ?_ ?_);first|exact tI|omega|(simp only[oZ] at *;omega))|(refine s2 rfl ?_;intro _ _hb)|(refine s3 rfl ?_ ?_<;>intro hb<;>subst hb)|refine aS ?_|refine reg (by kernel_rfl) ?_|refine lexE ?_|refine rD (by kernel_rfl) (by kernel_rfl) ?_)
  (refine aC rfl ?_ ?_<;>intro hb<;>cases hb)
  · have hlt:2*k+1 < bs.length:=by first|omega|(simp only [oZ] at *;omega)
    obtain ⟨m,hm⟩:∃m:Nat,m=bs.length - 1 - k:=⟨_,rfl⟩
    have e3:(bs.length:Int) - 1 - k=((m:Nat):Int):=by omega
    have hk1:revH bs k k=bs.getD k 0:=by unfold revH;rw [if_neg (by omega)]
    have hm1:revH bs k m=bs.getD m 0:=by unfold revH;rw [if_neg (by omega)]
    have hgk:=getA_by (H:=revH bs k) (q:=k) (n:=bs.length) (by omega)
    have hgm:=getA_by (H:=revH bs k) (q:=m) (n:=bs.length) (by omega)
    have hs1:=setA_by (n:=bs.length) (q:=k) (H:=revH bs k) (c:=revH bs k m) (d:=revH bs k k)
    have hgm2:=getA_by (H:=fun i=>if i=k then revH bs k m else revH bs k i) (q:=m) (n:=bs.length) (by omega)
    have hs2:=setA_by (n:=bs.length) (q:=m) (H:=fun i=>if i=k then revH bs k m else revH bs k i) (c:=revH bs k k) (d:=revH bs k m)
    have hmk:m≠k:=by omega
    rw [if_neg hmk] at hgm2
    have hc:(rowsF bs.length fun i=>byC (if i=m then revH bs k k else if i=k then revH bs k m else revH bs k i))=rowsF bs.length fun i=>byC (revH bs (k+1) i):=rowsF_congr fun i hi=>by
      congr 1
      by_cases h1:i=m
      · subst h1;rw [if_pos rfl,hk1];unfold revH;rw [if_pos (by omega)];congr 1;omega
      · rw [if_neg h1]
        by_cases h2:i=k
        · subst h2;rw [if_pos rfl,hm1];unfold revH;rw [if_pos (by omega)];congr 1
        · rw [if_neg h2];unfold revH
          by_cases h3:i < k∨bs.length≤i+k
          · rw [if_pos h3,if_pos (by omega)]
          · rw [if_neg h3,if_neg (by omega)]
    rw [←hs1] at hgm2
    rw [e3]
    refine AWp.skip ?_
    refine AWp.seq (AWp.block ?_)
    refine regD (flM [13,15] [2,3]) mixed (by kernel_rfl) (by kernel_rfl) ?_
    (repeat first|refine sN rfl ?_|((first|refine sM rfl ?_ ?_|refine s4 rfl ‹_› rfl ?_ ?_);first|exact tI|omega|(simp only[oZ] at *;omega))|(refine s2 rfl ?_;intro _ _hb)|(refine s3 rfl ?_ ?_<;>intro hb<;>subst hb)|refine aS ?_|refine reg (by kernel_rfl) ?_|refine lexE ?_|refine rD (by kernel_rfl) (by kernel_rfl) ?_)
    refine ⟨⟨k+1,by first|omega|(simp only [oZ] at *;omega)⟩,by dsimp only;(first|omega|(simp only [oZ] at *;omega)),[0],?_⟩
    rw [hs1,hs2,hc]
    have e4:(m:Int) - 1=bs.length - 1 - (k+1):=by omega
    simp [EnvSub,StoreSub,look_cons,nm,E.ren,C.ren,C.renL,O.ren,killc,kill0,Function.comp_def,argsFrom,zC,hΓ,ren_by,e4]
  · have hle:bs.length≤2*k+1:=by first|omega|(simp only [oZ] at *;omega)
    rw [revH_end bs hle]
    exact AWp.exit ⟨_,rfl,rfl,rfl,rfl⟩
end Go.Am
namespace Go.Am
open Go Go.Proofs
set_option maxHeartbeats 1000000
attribute [local irreducible] QOp AOp Lex LexO AWp Spec
variable {TB:List (Nat×Obj)}
abbrev stRow (s:Stp):List D:=[iD s.p,iD s.l,iList s.ns]
abbrev stRowC (s:Stp):List C:=[.d (iD s.p),.d (iD s.l),.d (iList s.ns)]
abbrev stList (l:List Stp):D:=.l (l.map stRow)
theorem letter_by {l:Int} (h0:0≤l) (h1:l < 6):byC (UInt8.ofNat (97+l.toNat))=[.d (.v (.int .u8 (97+l)))]:=by
  have h2:(97+l.toNat) % 256=97+l.toNat:=Nat.mod_eq_of_lt (by omega)
  have h3:(97+l:Int)=((97+l.toNat:Nat):Int):=by omega
  simp [byC,h2,h3]
theorem txt_rev (o:List Int):(txt o).reverse=txt o.reverse:=by simp [txt]
theorem pathWord_ok {ls:List Int} {steps:List Stp} {ws:List (List Int)} (h:Chain ls steps ws) (hls:∀l∈ls,0≤l∧l < 6) {w:List Int} (hlen:1≤steps.length∧steps.length≤2097152) (hw:ws[steps.length - 1]? = some w):Pure Tryz.prog TB 139 [.o (.d (stList steps))] (eT (txt w)):=by
  refine eN Tryz.func139 rfl (by kernel_rfl) rfl ?_;intro Γ hΓ
  (repeat first|refine sN rfl ?_|((first|refine sM rfl ?_ ?_|refine s4 rfl ‹_› rfl ?_ ?_);first|exact tI|omega|(simp only[oZ] at *;omega))|(refine s2 rfl ?_;intro _ _hb)|(refine s3 rfl ?_ ?_<;>intro hb<;>subst hb)|refine aS ?_|refine reg (by kernel_rfl) ?_|refine lexE ?_|refine rD (by kernel_rfl) (by kernel_rfl) ?_)
  (refine popO rfl ?_;refine popW ?_ rfl (by rfl);refine n_nil 1 5 ?_)
  (repeat first|refine sN rfl ?_|((first|refine sM rfl ?_ ?_|refine s4 rfl ‹_› rfl ?_ ?_);first|exact tI|omega|(simp only[oZ] at *;omega))|(refine s2 rfl ?_;intro _ _hb)|(refine s3 rfl ?_ ?_<;>intro hb<;>subst hb)|refine aS ?_|refine reg (by kernel_rfl) ?_|refine lexE ?_|refine rD (by kernel_rfl) (by kernel_rfl) ?_)
  refine AWp.block ?_
  refine AWp.loopL (α:={x:Nat×List Int // x.1+x.2.length < steps.length∧∃v,ws[x.1]? = some v∧w=v++x.2.reverse}) (fun ⟨⟨i,o⟩,hP⟩=>[(0,.o (.d (stList steps))),(3,.o (.arr 0 1 0 o.length)),(4,eI .i64 i)]) (fun ⟨⟨i,o⟩,hP⟩=>[(0,.cells 5 1 ((txt o).map byC))]) 1 (fun ⟨⟨i,o⟩,hP⟩=>i) (⟨(steps.length - 1,[]),by simp;omega,w,hw,by simp⟩) [0] (by first|(simp [hΓ];done)|(rw [hΓ];decide)) (by (repeat' (first|exact trivial|rfl|refine And.intro ?_ ?_))<;>simp [EnvSub,StoreSub,look_cons,nm,E.ren,C.ren,C.renL,O.ren,killc,kill0,Function.comp_def,argsFrom,zC,hΓ,txt,Int.ofNat_sub,hlen.1]) ?_;rintro ⟨⟨i,o⟩,hP⟩;(try dsimp only)
  obtain ⟨hi,v,hv,hwv⟩:=hP
  simp only at hi hv hwv
  obtain ⟨s,hs⟩:=get_some (l:=steps) (k:=i) (by omega)
  have hs':=get_map (g:=stRow) hs
  have hch:=h.chain i s hs
  have htl:(txt o).length=o.length:=by simp [txt]
  (repeat first|refine sN rfl ?_|((first|refine sM rfl ?_ ?_|refine s4 rfl ‹_› rfl ?_ ?_);first|exact tI|omega|(simp only[oZ] at *;omega))|(refine s2 rfl ?_;intro _ _hb)|(refine s3 rfl ?_ ?_<;>intro hb<;>subst hb)|refine aS ?_|refine reg (by kernel_rfl) ?_|refine lexE ?_|refine rD (by kernel_rfl) (by kernel_rfl) ?_)
  (refine aC rfl ?_ ?_<;>intro hb<;>cases hb)
  · obtain ⟨q,u,hq,hqi,hqu,hu,hl⟩:∃(q:Nat) (u:List Int),s.p=(q:Int)∧q < i∧ws[q]? = some u∧ws[i]? = some (u++[s.l])∧s.l∈ls:=by
      rcases hch with ⟨h1,_⟩|h1
      · exfalso;first|omega|(simp only [oZ] at *;omega)
      · exact h1
    have hlb:=hls _ hl
    rw [hv] at hu
    injection hu with hu
    have hby:=letter_by hlb.1 hlb.2
    have htx:txt (o++[s.l])=txt o++[UInt8.ofNat (97+s.l.toNat)]:=by simp [txt]
    have htx2:(txt (o++[s.l])).map byC=(txt o).map byC++[[.d (.v (.int .u8 (97+s.l)))]]:=by rw [htx,List.map_append,List.map_cons,hby];rfl
    refine AWp.skip ?_
    refine AWp.seq (AWp.block ?_)
    (repeat first|refine sN rfl ?_|((first|refine sA rfl ?_ ?_|refine s4 rfl ‹_› rfl ?_ ?_);first|exact tI|omega|(simp only[oZ] at *;omega))|(refine s2 rfl ?_;intro _ _hb) |refine sP rfl (letterByte_ok s.l hlb.1 (by omega)) rfl ?_|(refine s3 rfl ?_ ?_<;>intro hb<;>subst hb)|refine aS ?_|refine reg (by kernel_rfl) ?_|refine lexE ?_|refine rD (by kernel_rfl) (by kernel_rfl) ?_)
    (refine popO rfl ?_;refine popW ?_ rfl (by rfl);refine n_append rfl rfl rfl (by first|(simp;done)|(simp;(first|omega|(simp only [oZ] at *;omega)))) rfl (by intro r hr;simp at hr;subst hr;rfl) (by rfl) (Nat.le_of_ble_eq_true rfl) (by simp;first|omega|(simp only [oZ] at *;omega)) ?_)
    (repeat first|refine sN rfl ?_|((first|refine sX rfl ?_ ?_|refine s4 rfl ‹_› rfl ?_ ?_);first|exact tI|omega|(simp only[oZ] at *;omega))|(refine s2 rfl ?_;intro _ _hb)|(refine s3 rfl ?_ ?_<;>intro hb<;>subst hb)|refine aS ?_|refine reg (by kernel_rfl) ?_|refine lexE ?_|refine rD (by kernel_rfl) (by kernel_rfl) ?_)
    refine ⟨⟨(q,o++[s.l]),by simp;omega,u,hqu,by rw [hwv,hu];simp⟩,by dsimp only;omega,[1],?_⟩
    dsimp only
    rw [htx2]
    simp [EnvSub,StoreSub,look_cons,nm,E.ren,C.ren,C.renL,O.ren,killc,kill0,Function.comp_def,argsFrom,zC,hΓ,hq,renL_byC]
  · have hv0:v=[]:=by
      rcases hch with ⟨_,h1⟩|⟨q,u,h1,_⟩
      · rw [hv] at h1;injection h1
      · exfalso;first|omega|(simp only [oZ] at *;omega)
    subst hv0
    have hwo:w=o.reverse:=by rw [hwv];rfl
    have hrv:=reverse_ok (TB:=TB) (txt o) (by omega)
    rw [htl,txt_rev,←hwo] at hrv
    refine AWp.exit ?_
    (repeat first|refine sN rfl ?_|((first|refine sM rfl ?_ ?_|refine s4 rfl ‹_› rfl ?_ ?_);first|exact tI|omega|(simp only[oZ] at *;omega))|(refine s2 rfl ?_;intro _ _hb)|(refine s3 rfl ?_ ?_<;>intro hb<;>subst hb)|refine aS ?_|refine reg (by kernel_rfl) ?_|refine lexE ?_|refine rD (by kernel_rfl) (by kernel_rfl) ?_)
    (refine popO rfl ?_;refine popW ?_ rfl (by rfl);refine n_call [0] rfl rfl hrv ⟨rfl,by simp,by simp⟩ rfl (by simp [EnvSub,StoreSub,look_cons,nm,E.ren,C.ren,C.renL,O.ren,killc,kill0,Function.comp_def,argsFrom,zC,hΓ,renL_byC]) ?_;rintro x0 σ1 nx1 ⟨rfl,rfl,rfl⟩ _)
    have htw:(txt w).length=o.length:=by rw [hwo];simp [txt]
    (repeat first|refine sN rfl ?_|((first|refine sM rfl ?_ ?_|refine s4 rfl ‹_› rfl ?_ ?_);first|exact tI|omega|(simp only[oZ] at *;omega))|(refine s2 rfl ?_;intro _ _hb)|(refine popO rfl ?_;refine gA rfl ?_;first|refine gQ (q_textA (txt w) rfl rfl (by simp;omega) (by rw [List.drop_zero,ren_byC,List.take_of_length_le (by simp;omega)])) (by rfl) ?_)|(refine s3 rfl ?_ ?_<;>intro hb<;>subst hb)|refine aS ?_|refine reg (by kernel_rfl) ?_|refine lexE ?_|refine rD (by kernel_rfl) (by kernel_rfl) ?_)
    refine AWp.ret ⟨_,rfl,rfl⟩
end Go.Am
namespace Go.Am
open Go Go.Proofs
set_option maxHeartbeats 1000000
attribute [local irreducible] QOp AOp Lex LexO AWp Spec
variable {TB:List (Nat×Obj)}
theorem all5 (p:Nat→Prop):(∀i,i < 5→p i)↔p 0∧p 1∧p 2∧p 3∧p 4:=by
  constructor
  · intro h;exact ⟨h 0 (by omega),h 1 (by omega),h 2 (by omega),h 3 (by omega),h 4 (by omega)⟩
  · rintro ⟨h0,h1,h2,h3,h4⟩ i hi
    have:i=0∨i=1∨i=2∨i=3∨i=4:=by omega
    rcases this with rfl|rfl|rfl|rfl|rfl<;>assumption
theorem vis_step {goal:Int→Bool} {seen:List Bool} {nodes:List Int} {k:Nat} {x:Int} (h:nodes[k]? = some x):vis goal seen (nodes.take (k+1))=vstep goal (vis goal seen (nodes.take k)) x:=by
  unfold vis;rw [foldl_step h]
theorem set_mapB {l:List Bool} {n:Int}:(l.map bRowC).set (0+n.toNat) (spliceC (bRowC false) 0 (eC (eB true)))=(l.set n.toNat true).map bRowC:=by
  simp [spliceC,eC,List.map_set]
abbrev visS (N:Nat) (gG:FuncId) (capsG:List C) (seen:List Bool) (q:Nat) (steps:List Stp):Store:=
  [(0,.cells 24 1 [[.arr 1 1 0 N]]),(1,.cells 4 1 (seen.map bRowC)),(2,.cells 72 1 [[.fn gG capsG]]),(3,.cells 160 1 [[.arr q 3 0 steps.length]]),(q,.cells 162 3 (steps.map stRowC))]
theorem visit_ok {goal:Int→Bool} {gG:FuncId} {capsG:List C} {N:Nat} (hG:∀n:Int,0≤n∧n < N→Pure Tryz.prog TB gG ([eI .i64 n]++capsG.map .o) (eB (goal n))) (hcG:C.purL capsG=true) (hren:∀r,C.renL r capsG=capsG)
    (seen:List Bool) (steps:List Stp) (p l:Int) (nodes:List Int) (hs:seen.length=N) (hN:N≤1048576) (hst:steps.length≤1048576) (hn:∀n∈nodes,0≤n∧n < N) :
    Spec Tryz.prog TB 138 (visS N gG capsG seen 4 steps) 5 [eI .i64 p,eI .i64 l,eInts nodes,.o (.ptr 0 1 0 0),.o (.ptr 2 1 0 0),.o (.ptr 3 1 0 0)]
      (fun x σ nx=>x=eB (vis goal seen nodes).found∧∃q,(q=4∧nx=5∨q=5∧nx=6)∧σ=visS N gG capsG (vis goal seen nodes).seen q (stepsV steps p l (vis goal seen nodes).fresh)):=by
  have hvk:∀k,VOk goal N seen (nodes.take k) (vis goal seen (nodes.take k)):=fun k=>vis_ok hs fun n hn'=>hn n (List.mem_of_mem_take hn')
  refine eN Tryz.func138 rfl (by kernel_rfl) rfl ?_;intro Γ hΓ
  refine AWp.bound 2 rfl fun hB0=>?_
  have hB:=hB0 _ .refl
  rw [List.length_map] at hB
  (repeat first|refine sN rfl ?_|((first|refine sM rfl ?_ ?_|refine s4 rfl ‹_› rfl ?_ ?_);first|exact tI|omega|(simp only[oZ] at *;omega))|(refine s2 rfl ?_;intro _ _hb)|(refine s3 rfl ?_ ?_<;>intro hb<;>subst hb)|refine aS ?_|refine reg (by kernel_rfl) ?_|refine lexE ?_|refine rD (by kernel_rfl) (by kernel_rfl) ?_)
  (refine popO rfl ?_;refine popW ?_ rfl (by rfl);refine n_nil 1 3 ?_)
  (repeat first|refine sN rfl ?_|((first|refine sM rfl ?_ ?_|refine s4 rfl ‹_› rfl ?_ ?_);first|exact tI|omega|(simp only[oZ] at *;omega))|(refine s2 rfl ?_;intro _ _hb)|(refine s3 rfl ?_ ?_<;>intro hb<;>subst hb)|refine aS ?_|refine reg (by kernel_rfl) ?_|refine lexE ?_|refine rD (by kernel_rfl) (by kernel_rfl) ?_)
  refine AWp.block ?_
  refine AWp.loopL (α:={k:Nat // k≤nodes.length}) (fun ⟨k,hk⟩=>[(0,eI .i64 p),(1,eI .i64 l),(3,.o (.ptr 0 1 0 0)),(4,.o (.ptr 2 1 0 0)),(5,.o (.ptr 3 1 0 0)),(10,.o (.arr 5 1 0 (vis goal seen (nodes.take k)).fresh.length)),(11,eB (vis goal seen (nodes.take k)).found),(14,eInts nodes),(15,eI .i64 nodes.length),(16,eI .i64 k)]) (fun ⟨k,hk⟩=>visS N gG capsG (vis goal seen (nodes.take k)).seen 4 steps++[(5,.cells 3 1 ((vis goal seen (nodes.take k)).fresh.map iRowC))]) 6 (fun ⟨k,hk⟩=>nodes.length - k) (⟨0,by omega⟩) [0,1,2,3,4,5] (by first|(simp [hΓ];done)|(rw [hΓ];decide)) (by (repeat' (first|exact trivial|rfl|refine And.intro ?_ ?_))<;>simp [EnvSub,StoreSub,look_cons,nm,E.ren,C.ren,C.renL,O.ren,killc,kill0,Function.comp_def,argsFrom,zC,hΓ,visS,vis,hren]) ?_;rintro ⟨k,hk⟩;(try dsimp only)
  have hv:=hvk k
  have hvs:=fun x=>vis_step (goal:=goal) (seen:=seen) (nodes:=nodes) (k:=k) (x:=x)
  generalize hV:vis goal seen (nodes.take k)=v at *
  (repeat first|refine sN rfl ?_|((first|refine sM rfl ?_ ?_|refine s4 rfl ‹_› rfl ?_ ?_);first|exact tI|omega|(simp only[oZ] at *;omega))|(refine s2 rfl ?_;intro _ _hb)|(refine s3 rfl ?_ ?_<;>intro hb<;>subst hb)|refine aS ?_|refine reg (by kernel_rfl) ?_|refine lexE ?_|refine rD (by kernel_rfl) (by kernel_rfl) ?_)
  (refine aC rfl ?_ ?_<;>intro hb<;>cases hb)
  · obtain ⟨x,hx⟩:=get_some (l:=nodes) (k:=k) (by first|omega|(simp only [oZ] at *;omega))
    have hx':=get_map (g:=iRow) hx
    have hxb:=hn x (List.mem_of_getElem? hx)
    have hvs:=hvs x hx
    have hvl:=hv.len
    obtain ⟨b,hb⟩:=get_some (l:=v.seen) (k:=x.toNat) (by omega)
    have hb':(v.seen.map bRowC)[0+x.toNat]? = some (bRowC b):=by simp [hb]
    have hsb:sn v.seen x=b:=by simp [sn,List.getD,hb]
    have hfl:v.fresh.length≤N:=by
      refine nodup_len _ _ hv.nd fun y hy=>hn y (List.mem_of_mem_take ((hv.fr y).1 hy).1)
    unfold vstep at hvs
    rw [hsb] at hvs
    obtain ⟨vse,vfr,vfd⟩:=v
    simp only at hvs hvl hb hb' hfl
    refine AWp.skip ?_
    refine AWp.seq (AWp.block ?_)
    (repeat first|refine sN rfl ?_|((first|refine sM rfl ?_ ?_|refine s4 rfl ‹_› rfl ?_ ?_);first|exact tI|omega|(simp only[oZ] at *;omega))|(refine s2 rfl ?_;intro _ _hb)|(refine s3 rfl ?_ ?_<;>intro hb<;>subst hb)|refine aS ?_|refine reg (by kernel_rfl) ?_|refine lexE ?_|refine rD (by kernel_rfl) (by kernel_rfl) ?_)
    (refine aC rfl ?_ ?_<;>intro hb<;>cases hb)
    · have hbf:b=false:=by simpa using _hb
      subst hbf
      rw [if_neg (by simp)] at hvs
      (repeat first|refine sN rfl ?_|((first|refine sA rfl ?_ ?_|refine s4 rfl ‹_› rfl ?_ ?_);first|exact tI|omega|(simp only[oZ] at *;omega))|(refine s2 rfl ?_;intro _ _hb)|(refine s3 rfl ?_ ?_<;>intro hb<;>subst hb)|refine aS ?_|refine reg (by kernel_rfl) ?_|refine lexE ?_|refine rD (by kernel_rfl) (by kernel_rfl) ?_)
      (refine popO rfl ?_;refine popW ?_ rfl (by rfl);refine n_append rfl rfl rfl (by first|(simp;done)|(simp;(first|omega|(simp only [oZ] at *;omega)))) rfl (by intro r hr;simp at hr;subst hr;rfl) (by rfl) (Nat.le_of_ble_eq_true rfl) (by simp;first|omega|(simp only [oZ] at *;omega)) ?_)
      (repeat first|refine sN rfl ?_|((first|refine sX rfl ?_ ?_|refine s4 rfl ‹_› rfl ?_ ?_);first|exact tI|omega|(simp only[oZ] at *;omega))|(refine s2 rfl ?_;intro _ _hb)|(refine s3 rfl ?_ ?_<;>intro hb<;>subst hb)|refine aS ?_|refine reg (by kernel_rfl) ?_|refine lexE ?_|refine rD (by kernel_rfl) (by kernel_rfl) ?_)
      (repeat first|refine sN rfl ?_|((first|refine sA rfl ?_ ?_|refine s4 rfl ‹_› rfl ?_ ?_);first|exact tI|omega|(simp only[oZ] at *;omega))|(refine s2 rfl ?_;intro _ _hb) |(refine sC rfl (hG x hxb) ?_;intro _ _hb)|(refine popO rfl ?_;refine gA rfl ?_;first|refine gQ (q_loadP rfl rfl rfl rfl) (by rfl) ?_)|(refine s3 rfl ?_ ?_<;>intro hb<;>subst hb)|refine aS ?_|refine reg (by kernel_rfl) ?_|refine lexE ?_|refine rD (by kernel_rfl) (by kernel_rfl) ?_)
      · refine ⟨⟨k+1,by first|omega|(simp only [oZ] at *;omega)⟩,by dsimp only;(first|omega|(simp only [oZ] at *;omega)),[0,1,2,3,4,6],?_⟩
        rw [set_mapB]
        simp [EnvSub,StoreSub,look_cons,nm,E.ren,C.ren,C.renL,O.ren,killc,kill0,Function.comp_def,argsFrom,zC,hΓ,hvs,visS,hren,all5]
      · (repeat first|refine sN rfl ?_|((first|refine sA rfl ?_ ?_|refine s4 rfl ‹_› rfl ?_ ?_);first|exact tI|omega|(simp only[oZ] at *;omega))|(refine s2 rfl ?_;intro _ _hb)|(refine popO rfl ?_;refine gA rfl ?_;first|(refine gB (fun _ _=>q_call rfl rfl (by simp [E.pur,C.pur,hcG]) (hG x hxb) rfl) ?_;intro _ _hb))|(refine s3 rfl ?_ ?_<;>intro hb<;>subst hb)|refine aS ?_|refine reg (by kernel_rfl) ?_|refine lexE ?_|refine rD (by kernel_rfl) (by kernel_rfl) ?_)
        refine ⟨⟨k+1,by first|omega|(simp only [oZ] at *;omega)⟩,by dsimp only;(first|omega|(simp only [oZ] at *;omega)),[0,1,2,3,4,6],?_⟩
        rw [set_mapB]
        simp [EnvSub,StoreSub,look_cons,nm,E.ren,C.ren,C.renL,O.ren,killc,kill0,Function.comp_def,argsFrom,zC,hΓ,hvs,visS,hren,all5,_hb]
    · have hbt:b=true:=by simpa using _hb
      subst hbt
      rw [if_pos rfl] at hvs
      refine AWp.skip ?_
      (repeat first|refine sN rfl ?_|((first|refine sM rfl ?_ ?_|refine s4 rfl ‹_› rfl ?_ ?_);first|exact tI|omega|(simp only[oZ] at *;omega))|(refine s2 rfl ?_;intro _ _hb)|(refine s3 rfl ?_ ?_<;>intro hb<;>subst hb)|refine aS ?_|refine reg (by kernel_rfl) ?_|refine lexE ?_|refine rD (by kernel_rfl) (by kernel_rfl) ?_)
      refine ⟨⟨k+1,by first|omega|(simp only [oZ] at *;omega)⟩,by dsimp only;(first|omega|(simp only [oZ] at *;omega)),[0,1,2,3,4,5],?_⟩
      simp [EnvSub,StoreSub,look_cons,nm,E.ren,C.ren,C.renL,O.ren,killc,kill0,Function.comp_def,argsFrom,zC,hΓ,hvs,visS,hren,all5]
  · obtain rfl:k=nodes.length:=by first|omega|(simp only [oZ] at *;omega)
    rw [List.take_length] at hV
    subst hV
    refine AWp.exit ?_
    have hfl:(vis goal seen nodes).fresh.length≤N:=by
      have hv:=hvk nodes.length
      rw [List.take_length] at hv
      refine nodup_len _ _ hv.nd fun y hy=>hn y ((hv.fr y).1 hy).1
    generalize vis goal seen nodes=vv at *
    obtain ⟨vse,vfr,vfd⟩:=vv
    have hfl:vfr.length≤N:=hfl
    (repeat first|refine sN rfl ?_|((first|refine sM rfl ?_ ?_|refine s4 rfl ‹_› rfl ?_ ?_);first|exact tI|omega|(simp only[oZ] at *;omega))|(refine s2 rfl ?_;intro _ _hb)|(refine s3 rfl ?_ ?_<;>intro hb<;>subst hb)|refine aS ?_|refine reg (by kernel_rfl) ?_|refine lexE ?_|refine rD (by kernel_rfl) (by kernel_rfl) ?_)
    (refine aC rfl ?_ ?_<;>intro hb<;>cases hb)
    · have hne:vfr≠[]:=fun e=>by rw [e] at _hb;simp at _hb
      refine AWp.freeze [5] [(0,eI .i64 p),(1,eI .i64 l),(5,.o (.ptr 3 1 0 0)),(10,eInts vfr),(11,eB vfd)] ⟨⟨_,rfl,.keep⟩,⟨_,rfl,.keep⟩,⟨_,rfl,.keep⟩,⟨_,rfl,.o (.full (by simp) rfl (by simp [Function.comp_def]) (by simp))⟩,⟨_,rfl,.keep⟩,trivial⟩ ?_
      (repeat first|refine sN rfl ?_|((first|refine sA rfl ?_ ?_|refine s4 rfl ‹_› rfl ?_ ?_);first|exact tI|omega|(simp only[oZ] at *;omega))|(refine s2 rfl ?_;intro _ _hb)|(refine popO rfl ?_;refine gA rfl ?_;first|refine gS (fun _ _=>q_build rfl rfl (by rfl) (by rfl)) ?_)|(refine s3 rfl ?_ ?_<;>intro hb<;>subst hb)|refine aS ?_|refine reg (by kernel_rfl) ?_|refine lexE ?_|refine rD (by kernel_rfl) (by kernel_rfl) ?_)
      (refine popO rfl ?_;refine popW ?_ rfl (by rfl);refine n_append rfl rfl rfl (by first|(simp;done)|(simp;(first|omega|(simp only [oZ] at *;omega)))) rfl (by intro r hr;simp at hr;subst hr;rfl) (by rfl) (Nat.le_of_ble_eq_true rfl) (by simp;first|omega|(simp only [oZ] at *;omega)) ?_)
      (repeat first|refine sN rfl ?_|((first|refine sX rfl ?_ ?_|refine s4 rfl ‹_› rfl ?_ ?_);first|exact tI|omega|(simp only[oZ] at *;omega))|(refine s2 rfl ?_;intro _ _hb)|(refine s3 rfl ?_ ?_<;>intro hb<;>subst hb)|refine aS ?_|refine reg (by kernel_rfl) ?_|refine lexE ?_|refine rD (by kernel_rfl) (by kernel_rfl) ?_)
      refine AWp.names [0,1,2,3,4,6] [(9,eB vfd)] (visS N gG capsG vse 5 (stepsV steps p l vfr)) (by rw [hΓ];decide) (by decide) (by simp [EnvSub,StoreSub,look_cons,nm,E.ren,C.ren,C.renL,O.ren,killc,kill0,Function.comp_def,argsFrom,zC,hΓ]) (by simp [EnvSub,StoreSub,look_cons,nm,E.ren,C.ren,C.renL,O.ren,killc,kill0,Function.comp_def,argsFrom,zC,hΓ,visS,hren,stepsV,hne,killL,spliceC,eC]) ?_
      refine AWp.ret ⟨_,rfl,rfl,5,.inr ⟨rfl,rfl⟩,rfl⟩
    · have hne:vfr=[]:=List.length_eq_zero_iff.1 (by first|omega|(simp only [oZ] at *;omega))
      subst hne
      refine AWp.skip ?_
      (repeat first|refine sN rfl ?_|((first|refine sM rfl ?_ ?_|refine s4 rfl ‹_› rfl ?_ ?_);first|exact tI|omega|(simp only[oZ] at *;omega))|(refine s2 rfl ?_;intro _ _hb)|(refine s3 rfl ?_ ?_<;>intro hb<;>subst hb)|refine aS ?_|refine reg (by kernel_rfl) ?_|refine lexE ?_|refine rD (by kernel_rfl) (by kernel_rfl) ?_)
      refine AWp.names [0,1,2,3,4] [(9,eB vfd)] (visS N gG capsG vse 4 steps) (by rw [hΓ];decide) (by decide) (by simp [EnvSub,StoreSub,look_cons,nm,E.ren,C.ren,C.renL,O.ren,killc,kill0,Function.comp_def,argsFrom,zC,hΓ]) (by simp [EnvSub,StoreSub,look_cons,nm,E.ren,C.ren,C.renL,O.ren,killc,kill0,Function.comp_def,argsFrom,zC,hΓ,visS,hren]) ?_
      refine AWp.ret ⟨_,rfl,rfl,4,.inl ⟨rfl,rfl⟩,by simp [stepsV]⟩
end Go.Am
