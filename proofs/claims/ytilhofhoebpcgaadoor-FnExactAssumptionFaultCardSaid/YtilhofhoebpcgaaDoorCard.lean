/-
  The law laws.FnExactAssumptionFault answers true at every input that can be read, and leaves its arguments as they were.
  Conditions: none but the row's own: the two tables of math/bits hold what the program's text lays into them.
-/
import Derived.Test.YtilhofhoebpcgaaDoorCards
import Derived.Test.YtilhofhoebpcgaaDoorTie
import Derived.Test.YtilhofhoebpcgaaDoorPart20
import Derived.WalkKit
namespace Go.Proofs.YtilhofhoebpcgaaDoor
open Go Go.Am Go.ChangeShapes Go.WideShapes Go.ChangeAt Go.RowKit

theorem own : ownKnob Tryd.prog.godebug = none := by kernel_rfl
theorem laidOut : laidOutB Tryd.prog = true := by kernel_rfl
section
variable {w : World}
theorem rdEdge : Rd Tryd.prog w 67 3 edRow :=
  Rd.map (fun y : Int × Int × Int => (⟨y.1, y.2.1, y.2.2⟩ : Edg)) (fun _ => rfl) (rd_struct3 (k0 := 1) (k1 := 1) (k2 := 1) Tryd.underlying67 ⟨rfl, rfl, rfl⟩ ⟨by kernel_rfl, by kernel_rfl, by kernel_rfl, by kernel_rfl⟩ (rd_int Tryd.underlying3) (rd_int Tryd.underlying3) (rd_int Tryd.underlying3))
theorem rdSys : Rd Tryd.prog w 24 3 syRow :=
  Rd.map (fun y : Int × Int × List Edg => (⟨y.1, y.2.1, y.2.2⟩ : Am.Sys)) (fun _ => rfl) (rd_struct3 (k0 := 1) (k1 := 1) (k2 := 1) Tryd.underlying24 ⟨rfl, rfl, rfl⟩ ⟨by kernel_rfl, by kernel_rfl, by kernel_rfl, by kernel_rfl⟩ (rd_int Tryd.underlying3) (rd_int Tryd.underlying3) (rd_slice Tryd.underlying22 (by kernel_rfl) (by decide) rdEdge))
theorem rdAut : Rd Tryd.prog w 28 3 auRow :=
  Rd.map (fun y : Int × List (List Int) × List Bool => (⟨y.1, y.2.1, y.2.2⟩ : Aut)) (fun _ => rfl) (rd_struct3 (k0 := 1) (k1 := 1) (k2 := 1) Tryd.underlying28 ⟨rfl, rfl, rfl⟩ ⟨by kernel_rfl, by kernel_rfl, by kernel_rfl, by kernel_rfl⟩ (rd_int Tryd.underlying3) (rd_slice Tryd.underlying25 (by kernel_rfl) (by decide) (rd_slice Tryd.underlying55 (by kernel_rfl) (by decide) (rd_int Tryd.underlying3))) (rd_slice Tryd.underlying26 (by kernel_rfl) (by decide) (rd_bool Tryd.underlying4)))
end

/-! The tables. -/
def zsOf (l : List Value) : List Int := l.map fun v => match v with | .int _ n => n | _ => 0
theorem tab_obj {P : Program} {W : World} {name : String} {g : Nat} {t e : TypeId} {n : Nat} {zs : List Int} {fuel : Nat} {cs : Array Value} {p : List MemPlace} (hg : P.globalNamed name = some g) (ht : P.underlying t = some (.array n e)) (he : P.underlying e = some (.int .u8)) (hce : P.cellsOf e = 1) (hct : P.cellsOf t = n)
    (hv : W.var? P name = some cs) (hd : DataW.trod (fun _ => ()) P W 0 (fun _ => true) false fuel t cs.toList = some (Lib.tabData .u8 zs, p)) : ∃ T fr, W.heap[g]? = some (.cells (zs.map fun z => Value.int .u8 z).toArray T fr) := by
  have h := Lib.cells_of_tab ht he hce hct hd
  unfold World.var? at hv
  rw [hg] at hv
  simp only [Option.bind_some] at hv
  split at hv
  · rename_i c T fr hh
    injection hv with hv
    subst hv
    refine ⟨T, fr, ?_⟩
    rw [hh, ← h]
  · cases hv
theorem tables {W : World} (h : laidMetH Tryd.prog Rows.fnExactAssumptionFaultRow.laid W) : ∃ TB : List (Nat × Obj), Tabs TB ∧ ∀ x ∈ TB, below W x.1 ∧ W.heap[x.1]? = some x.2 := by
  have h : laidMet Tryd.prog Rows.fnExactAssumptionFaultRow.laid W := h
  obtain ⟨ps, ⟨g0, t0, cs0, f0, p0, q0, hg0, ht0, hv0, hd0, ⟨g1, t1, cs1, f1, p1, q1, hg1, ht1, hv1, hd1, _, _⟩, _⟩, _, _⟩ := h
  have k0 : Tryd.prog.globalNamed "math/bits.deBruijn32tab" = some 0 := by kernel_rfl
  have k1 : Tryd.prog.globalNamed "math/bits.deBruijn64tab" = some 1 := by kernel_rfl
  obtain rfl := Option.some.inj (k0.symm.trans hg0)
  obtain rfl := Option.some.inj (k1.symm.trans hg1)
  have l0 : (Tryd.prog.globals[0]?).map (·.type) = some 131 := by kernel_rfl
  have l1 : (Tryd.prog.globals[1]?).map (·.type) = some 132 := by kernel_rfl
  obtain rfl := Option.some.inj (l0.symm.trans ht0)
  obtain rfl := Option.some.inj (l1.symm.trans ht1)
  obtain ⟨T0, fr0, h0⟩ := tab_obj (zs := zsOf tab0) k0 Tryd.underlying131 Tryd.underlying5 (by kernel_rfl) (by kernel_rfl) hv0 hd0
  obtain ⟨T1, fr1, h1⟩ := tab_obj (zs := zsOf tab1) k1 Tryd.underlying132 Tryd.underlying5 (by kernel_rfl) (by kernel_rfl) hv1 hd1
  refine ⟨[(0, .cells ((zsOf tab0).map fun z => Value.int .u8 z).toArray T0 fr0), (1, .cells ((zsOf tab1).map fun z => Value.int .u8 z).toArray T1 fr1)], ⟨⟨⟨_, _, _, List.mem_cons_self, fun i v hv => ?_⟩, by decide⟩, ⟨⟨_, _, _, List.mem_cons_of_mem _ List.mem_cons_self, fun i v hv => ?_⟩, by decide⟩⟩, ?_⟩
  · have : tab0 = (zsOf tab0).map fun z => Value.int .u8 z := rfl
    rw [List.getElem?_toArray, ← this]; exact hv
  · have : tab1 = (zsOf tab1).map fun z => Value.int .u8 z := rfl
    rw [List.getElem?_toArray, ← this]; exact hv
  · intro x hx
    simp only [List.mem_cons, List.not_mem_nil, or_false] at hx
    rcases hx with rfl | rfl
    · exact ⟨(Array.getElem?_eq_some_iff.1 h0).1, h0⟩
    · exact ⟨(Array.getElem?_eq_some_iff.1 h1).1, h1⟩

/-- A law that computes true, from memory that holds its tables. -/
theorem calls_true {f : FuncId} {W : World} {TB : List (Nat × Obj)} {es : List E} {vs : Array Value} (h : Pure Tryd.prog TB f es (eB true)) (ht : ∀ x ∈ TB, below W x.1 ∧ W.heap[x.1]? = some x.2) (ha : ARel (baseV W) es vs) :
    Calls Tryd.prog f vs W fun e W' => e = .returned (.bool true) ∧ SameOld W W' := by
  have hg : Am.Good TB (baseV W) [] 0 := ⟨fun _ h => h, store_none, ht, rfl⟩
  refine (h.2 (baseV W) vs hg ha).mono ?_
  rintro e W' ⟨V', v, x, σ', rfl, rfl, hi, hx, rfl⟩
  have hv : v = .bool true := CRel.val hx
  subst hv
  exact ⟨rfl, hi.os, hi.output, hi.ext.size, fun b hb => hi.old b hb fun ⟨_, _, h, _⟩ => by cases h⟩

set_option maxRecDepth 100000 in
theorem contract (H : Type) (enc : TypeId × Value → H) (W : World) (base : Nat) (args : Array Value) (ds gs : List (DataW H)) (before : List MemPlace)
    (hval : ∀ (j : Nat) t v, Tryd.f3.params[j]? = some t → args[j]? = some v → Value.okWide Tryd.prog W .any base t v)
    (hW : DataW.Whole enc Tryd.prog Tryd.f3.params.toList Rows.fnExactAssumptionFaultSpec.vars false W args.toList ds gs before) (hL : laidMetH Tryd.prog Rows.fnExactAssumptionFaultRow.laid W) :
    Calls Tryd.prog 3 args W fun e W' => ∃ v, e = .returned v ∧ Rows.fnExactAssumptionFaultSpec.post enc Tryd.prog Tryd.f3 false true false false W args v W' := by
  have hW' := hW
  obtain ⟨p, q, hA0, hV, rfl, hfz, hnd⟩ := hW
  have hA : DataW.TrodAll enc Tryd.prog W 0 (fun _ => true) true Tryd.f3.params.toList args.toList ds p := hA0
  rw [Tryd.params3] at hA hval
  obtain ⟨v0, vs0, d0, ds0, p0, q0, hargs, rfl, rfl, h0, r0⟩ := trodAll_cons hA
  obtain ⟨v1, vs1, d1, ds1, p1, q1, rfl, rfl, rfl, h1, r1⟩ := trodAll_cons r0
  obtain ⟨v2, vs2, d2, ds2, p2, q2, rfl, rfl, rfl, h2, r2⟩ := trodAll_cons r1
  obtain ⟨v3, vs3, d3, ds3, p3, q3, rfl, rfl, rfl, h3, r3⟩ := trodAll_cons r2
  obtain ⟨rfl, rfl, rfl⟩ := trodAll_nil r3
  obtain rfl : args = #[v0, v1, v2, v3] := by cases args; simp_all
  obtain ⟨rfl, rfl⟩ := trodVars_none hV
  obtain ⟨s, hs⟩ := arg_agg rdSys (okWide_agg Tryd.underlying24 (hval 0 _ v0 rfl rfl)) h0
  obtain ⟨t, ht⟩ := arg_agg rdSys (okWide_agg Tryd.underlying24 (hval 1 _ v1 rfl rfl)) h1
  obtain ⟨p, hp⟩ := arg_agg rdAut (okWide_agg Tryd.underlying28 (hval 2 _ v2 rfl rfl)) h2
  obtain ⟨a, ha⟩ := arg_agg rdAut (okWide_agg Tryd.underlying28 (hval 3 _ v3 rfl rfl)) h3
  obtain ⟨TB, hT, htb⟩ := tables hL
  have walk := calls_true (f := 3) (W := W) (vs := #[v0, v1, v2, v3]) (law_ok (TB := TB) s t p a) htb ⟨rfl, fun j e v he hv => by
    match j with
    | 0 => cases he; cases hv; exact hs
    | 1 => cases he; cases hv; exact ht
    | 2 => cases he; cases hv; exact hp
    | 3 => cases he; cases hv; exact ha
    | j + 4 => simp at he⟩
  refine walk.mono fun e W' ⟨he, hg⟩ => ?_
  subst he
  exact ⟨_, rfl, post_true (tb := 4) laidOut (by kernel_rfl) hW' hg rfl (by kernel_rfl) Tryd.underlying4 rfl rfl⟩

def putTab (l : List Value) : Obj → Obj
  | .cells _ t frozen => .cells l.toArray t frozen
  | o => o
/-- A world for the witness: the settled one, the tables holding what their initialisers lay. -/
noncomputable def laidWorld (os : Os) : World :=
  { World.holding Tryd.prog os ⟨#[], #[], []⟩ with heap := ((World.holding Tryd.prog os ⟨#[], #[], []⟩).heap.modify 0 (putTab tab0)).modify 1 (putTab tab1) }
def args0 : Array Value := #[.agg #[.int .i64 0, .int .i64 0, .slice none 0 0], .agg #[.int .i64 0, .int .i64 0, .slice none 0 0], .agg #[.int .i64 0, .slice none 0 0, .slice none 0 0], .agg #[.int .i64 0, .slice none 0 0, .slice none 0 0]]
theorem laid_met (os : Os) : laidMet Tryd.prog Rows.fnExactAssumptionFaultRow.laid ((laidWorld os).forCall (fun _ _ => 0) ⟨#[], args0, []⟩).memory :=
  laidMet_of_run' 8 (by kernel_rfl) (by kernel_rfl)
theorem reads (os : Os) {H : Type} (enc : TypeId × Value → H) : ∃ ds places, DataW.whole enc Tryd.prog ((laidWorld os).forCall (fun _ _ => 0) ⟨#[], args0, []⟩).memory Tryd.f3.params.toList Rows.fnExactAssumptionFaultSpec.vars false args0.toList 8 = some (ds, [], places) :=
  ⟨[.agg [.lit (.int .i64 0), .lit (.int .i64 0), .nil], .agg [.lit (.int .i64 0), .lit (.int .i64 0), .nil], .agg [.lit (.int .i64 0), .nil, .nil], .agg [.lit (.int .i64 0), .nil, .nil]], [], by kernel_rfl⟩

set_option maxRecDepth 100000 in
theorem lifted (os : Os) (started : os.Started) (H : Type) (enc : TypeId × Value → H) (F : Stop.Interp) :
    ReturnsInHanded {} Tryd.checked os 3 .any ((OpenSpec.ofChange Rows.fnExactAssumptionFaultSpec).preRow enc Tryd.prog Tryd.f3 Rows.fnExactAssumptionFaultRow.domain false Rows.fnExactAssumptionFaultRow.laid) (((OpenSpec.ofChange Rows.fnExactAssumptionFaultSpec).at F).post enc Tryd.prog Tryd.f3 false true false false) := by
  obtain ⟨ds, places, hx⟩ := reads os enc
  refine returnsInHanded_of_row (C := Tryd.checked) (s := OpenSpec.ofChange Rows.fnExactAssumptionFaultSpec) own started (by kernel_rfl) Tryd.func3
    (witness_row_at (enc := enc) (C := Tryd.checked) false (laidWorld os) args0 rfl (by kernel_rfl) (by kernel_rfl) (by kernel_rfl)
      (OpenSpec.preRow_of_cond 8 hx (by kernel_rfl) (fun k hk => by cases hk) (by kernel_rfl) (laid_met os))) ?_
  intro W base args ds gs before hval hW _ _ _ hL _ _
  exact contract H enc W base args ds gs before hval hW hL

theorem said : Rows.FnExactAssumptionFaultSaid :=
  OpenClaim.holds_of_cond 3 Tryd.f3 rfl rfl rfl rfl rfl rfl rfl ⟨rfl, rfl, rfl, rfl, rfl⟩ rfl rfl rfl rfl rfl (by kernel_rfl) Tryd.func3 (by kernel_rfl)
    (of_decide_eq_true (by kernel_rfl)) (by unfold Func.isWrapper; first | (rw [if_pos (by decide +kernel)]; kernel_rfl) | (rw [if_neg (by decide +kernel)]; exact ⟨rfl, rfl⟩))
    (fun os started H enc _ F => by rw [OpenClaim.pre_eq_preRow]; exact lifted os started H enc F)

theorem plain (f : FuncId) (fn : Func) (hf : Tryd.pinned.checked.prog.funcNamed "loop.example/assumeguarantee/laws.FnExactAssumptionFault" = some f) (hfn : Tryd.pinned.checked.prog.funcs[f]? = some fn) :
    false = Tryd.pinned.checked.prog.looks [] ∧ ∀ (j : Nat) t, fn.params[j]? = some t → Tryd.pinned.checked.prog.wantsStandIn t = false := by
  obtain rfl : f = 3 := Option.some.inj ((show Tryd.prog.funcNamed "loop.example/assumeguarantee/laws.FnExactAssumptionFault" = some 3 by kernel_rfl).symm.trans hf) |>.symm
  obtain rfl : fn = Tryd.f3 := (Option.some.inj (Tryd.func3.symm.trans hfn)).symm
  refine ⟨by kernel_rfl, fun j t ht => ?_⟩
  rw [Tryd.params3] at ht
  have hm : t ∈ [24, 24, 28, 28] := by simpa using Array.mem_of_getElem? ht
  have hall : ([24, 24, 28, 28].all fun u => !Tryd.prog.wantsStandIn u) = true := by kernel_rfl
  exact (show Tryd.prog.wantsStandIn t = false by simpa using List.all_eq_true.1 hall t hm)
theorem fnExactAssumptionFault_card : Rows.FnExactAssumptionFaultCardSaid :=
  Claim7.holds_tied_plain_at .later [] _ _ _ _ said (fun _ h => by cases h) (by kernel_rfl) (fun _ h => by cases h) fnExactAssumptionFault_row_tie rfl ⟨rfl, rfl⟩ (by kernel_rfl) rfl plain (by kernel_rfl)
end Go.Proofs.YtilhofhoebpcgaaDoor
