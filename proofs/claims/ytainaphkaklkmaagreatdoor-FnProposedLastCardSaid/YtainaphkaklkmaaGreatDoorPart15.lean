/-
  The program's search, as plain data: visits.
-/
import Derived.Test.YtainaphkaklkmaaGreatDoorPart14
import Derived.Test.YtainaphkaklkmaaGreatDoorPart8
set_option linter.constructorNameAsVariable false
set_option linter.unusedSimpArgs false
set_option linter.unusedVariables false
namespace Go.Am
open Go
def stepsV (steps:List Stp) (p l:Int) (fresh:List Int):List Stp:=if fresh=[] then steps else steps++[⟨p,l,fresh⟩]
def wsV (ws:List (List Int)) (w fresh:List Int):List (List Int):=if fresh=[] then ws else ws++[w]
structure Chain (ls:List Int) (steps:List Stp) (ws:List (List Int)):Prop where
  wlen:ws.length=steps.length
  chain:∀(t:Nat) s,steps[t]? = some s→(s.p = -1∧ws[t]? = some [])∨∃(q:Nat) (w:List Int),s.p=(q:Int)∧q < t∧ws[q]? = some w∧ws[t]? = some (w++[s.l])∧s.l∈ls
theorem app_get {α:Type} {l:List α} {x y:α} {t:Nat} (h:(l++[x])[t]? = some y):l[t]? = some y∨t=l.length∧y=x:=by
  rcases Nat.lt_or_ge t l.length with h1|h1
  · rw [List.getElem?_append_left h1] at h;exact .inl h
  · rw [List.getElem?_append_right h1] at h
    have h2:=(List.getElem?_eq_some_iff.1 h).1
    simp at h2
    have:t=l.length:=by omega
    subst this
    simp at h
    exact .inr ⟨rfl,h.symm⟩
theorem get_app {α:Type} {l:List α} {x y:α} {t:Nat} (h:l[t]? = some y):(l++[x])[t]? = some y:=by
  rw [List.getElem?_append_left (List.getElem?_eq_some_iff.1 h).1];exact h
theorem Chain.app {ls:List Int} {steps:List Stp} {ws:List (List Int)} (h:Chain ls steps ws) {i:Nat} {wi:List Int} {l:Int} {ns:List Int} (hw:ws[i]? = some wi) (hl:l∈ls):Chain ls (steps++[⟨i,l,ns⟩]) (ws++[wi++[l]]):=by
  have hi:=(List.getElem?_eq_some_iff.1 hw).1
  refine ⟨by simp [h.wlen],fun t s hs=>?_⟩
  rcases app_get hs with h1|⟨h1,h2⟩
  · rcases h.chain t s h1 with ⟨h2,h3⟩|⟨q,w,h2,h3,h4,h5,h6⟩
    · exact .inl ⟨h2,get_app h3⟩
    · exact .inr ⟨q,w,h2,h3,get_app h4,get_app h5,h6⟩
  · subst h2
    refine .inr ⟨i,wi,rfl,?_,get_app hw,?_,hl⟩
    · rw [h1,←h.wlen];exact hi
    · rw [h1,←h.wlen];simp
theorem FI.toChain {g:Gr} {seen:List Bool} {steps:List Stp} {ws:List (List Int)} {i j:Nat} (h:FI g seen steps ws i j):Chain g.ls steps ws:=⟨h.wlen,h.chain⟩
theorem FI.visit {g:Gr} (hg:GrOk g) {seen:List Bool} {steps:List Stp} {ws:List (List Int)} {i j:Nat} (h:FI g seen steps ws i j) {wi:List Int} {lj:Int} (hw:ws[i]? = some wi) (hj:g.ls[j]? = some lj) {s:Stp} (hs:steps[i]? = some s)
    {R:List Int} (hR:∀y,y∈R↔∃n∈s.ns,y∈g.succ n lj) {st:VSt} (hv:VOk g.goal g.N seen R st) (hf:st.found=false):FI g st.seen (stepsV steps i lj st.fresh) (wsV ws (wi++[lj]) st.fresh) i (j+1):=by
  have hl:=List.mem_of_getElem? hj
  have hRin:∀y∈R,0≤y∧y < g.N:=fun y hy=>by
    obtain ⟨n,hn,hy⟩:=(hR y).1 hy
    exact hg.inn n (h.inn s (List.mem_of_getElem? hs) n hn) lj hl y hy
  have hmono:∀n:Int,0≤n→sn seen n=true→sn st.seen n=true:=fun n hn hx=>(hv.snI n hn).2 (.inl hx)
  have hnog:∀n∈st.fresh,g.goal n=false:=fun n hn=>by
    have:=hv.fd
    rw [hf] at this
    have h2:=List.any_eq_false.1 this.symm n hn
    simpa using h2
  have hpar:∀w∈ws,w=[]∨∃(p:Nat) (v:List Int) (l:Int),ws[p]? = some v∧w=v++[l]∧l∈g.ls∧(p < i∨p=i∧∃j',j' < j+1∧g.ls[j']? = some l):=fun w hw=>by
    rcases h.par w hw with h1|⟨p,v,l,h1,h2,h3,h4⟩
    · exact .inl h1
    · refine .inr ⟨p,v,l,h1,h2,h3,?_⟩
      rcases h4 with h4|⟨h4,j',h5,h6⟩
      · exact .inl h4
      · exact .inr ⟨h4,j',by omega,h6⟩
  have hdone:∀(t:Nat) s',steps[t]? = some s'→∀l,(t < i∧l∈g.ls∨t=i∧∃j',j' < j+1∧g.ls[j']? = some l)→∀n∈s'.ns,∀y∈g.succ n l,sn st.seen y=true:=by
    intro t s' hs' l hl' n hn y hy
    have hyin:0≤y∧y < g.N:=by
      refine hg.inn n (h.inn s' (List.mem_of_getElem? hs') n hn) l ?_ y hy
      rcases hl' with ⟨_,h1⟩|⟨_,j',_,h1⟩
      · exact h1
      · exact List.mem_of_getElem? h1
    rcases hl' with h1|⟨h1,j',h2,h3⟩
    · exact hmono y hyin.1 (h.done t s' hs' l (.inl h1) n hn y hy)
    · subst h1
      rcases Nat.lt_succ_iff_lt_or_eq.1 h2 with h4|h4
      · exact hmono y hyin.1 (h.done t s' hs' l (.inr ⟨rfl,j',h4,h3⟩) n hn y hy)
      · subst h4
        rw [hj] at h3
        injection h3 with h3
        subst h3
        rw [hs] at hs'
        injection hs' with hs'
        subst hs'
        exact (hv.snI y hyin.1).2 (.inr ((hR y).2 ⟨n,hn,hy⟩))
  unfold stepsV wsV
  by_cases hfr:st.fresh=[]
  · rw [if_pos hfr,if_pos hfr]
    have hsame:∀n:Int,0≤n→(sn st.seen n=true↔sn seen n=true):=fun n hn=>by
      rw [hv.snI n hn]
      refine ⟨fun h1=>?_,.inl⟩
      rcases h1 with h1|h1
      · exact h1
      · rcases Bool.eq_false_or_eq_true (sn seen n) with h2|h2
        · exact h2
        · have:=(hv.fr n).2 ⟨h1,h2⟩
          rw [hfr] at this;cases this
    refine ⟨hv.len,h.wlen,h.chain,h.rch,h.ov,h.min,h.ord,hpar,fun n hn=>by rw [hsame n hn];exact h.snI n hn,hdone,h.nogoal,h.inn,hmono _ hg.s0.1 h.start,?_,h.le,h.nd⟩
    rw [hv.cnt,hfr];exact h.cnt
  · rw [if_neg hfr,if_neg hfr]
    have hch:=h.toChain.app (ns:=st.fresh) hw hl
    have hnew:∀n∈st.fresh,n∈R∧sn seen n=false:=fun n hn=>(hv.fr n).1 hn
    have hbig:∀w∈ws,slt w (wi++[lj]):=by
      intro w hww
      rcases h.par w hww with rfl|⟨p,v,l,h1,rfl,h3,h4⟩
      · exact .inl (by simp)
      · rcases h4 with h4|⟨h4,j',h5,h6⟩
        · obtain ⟨a1,a2⟩:=List.getElem?_eq_some_iff.1 h1
          obtain ⟨b1,b2⟩:=List.getElem?_eq_some_iff.1 hw
          have h7:=(List.pairwise_iff_getElem.1 h.ord) p i a1 b1 h4
          rw [a2,b2] at h7
          exact slt_app h7
        · subst h4
          rw [hw] at h1
          injection h1 with h1
          subst h1
          obtain ⟨a1,a2⟩:=List.getElem?_eq_some_iff.1 h6
          obtain ⟨b1,b2⟩:=List.getElem?_eq_some_iff.1 hj
          have h7:=(List.pairwise_iff_getElem.1 hg.srt) j' j a1 b1 h5
          rw [a2,b2] at h7
          exact slt_last h7
    have hmemR:∀n∈st.fresh,∃m∈s.ns,n∈g.succ m lj:=fun n hn=>(hR n).1 (hnew n hn).1
    refine ⟨hv.len,hch.wlen,hch.chain,fun t s' w hs' hw' n hn=>?_,fun w hww=>?_,fun t s' w hs' hw' n hn u hu hlt hr=>?_,?_,fun w hww=>?_,fun n hn=>?_,fun t s' hs' l hl' n hn y hy=>?_,fun s' hs' n hn=>?_,fun s' hs' n hn=>?_,hmono _ hg.s0.1 h.start,?_,?_,fun s' hs'=>?_⟩
    · rcases app_get hs' with h1|⟨h1,h2⟩
      · rcases app_get hw' with h3|⟨h3,h4⟩
        · exact h.rch t s' w h1 h3 n hn
        · have:=(List.getElem?_eq_some_iff.1 h1).1
          rw [h.wlen] at h3;omega
      · subst h2
        rcases app_get hw' with h3|⟨h3,h4⟩
        · have:=(List.getElem?_eq_some_iff.1 h3).1
          rw [h.wlen] at this;omega
        · subst h4
          obtain ⟨m,hm,hnm⟩:=hmemR n hn
          exact reach_snoc.2 ⟨m,h.rch i s wi hs hw m hm,hnm⟩
    · rcases List.mem_append.1 hww with h1|h1
      · exact h.ov w h1
      · simp at h1;subst h1
        exact over_snoc.2 ⟨h.ov wi (List.mem_of_getElem? hw),hl⟩
    · rcases app_get hs' with h1|⟨h1,h2⟩
      · rcases app_get hw' with h3|⟨h3,h4⟩
        · exact h.min t s' w h1 h3 n hn u hu hlt hr
        · have:=(List.getElem?_eq_some_iff.1 h1).1
          rw [h.wlen] at h3;omega
      · subst h2
        rcases app_get hw' with h3|⟨h3,h4⟩
        · have:=(List.getElem?_eq_some_iff.1 h3).1
          rw [h.wlen] at this;omega
        · subst h4
          have:=h.claim hg hw hj u.length u rfl hu hlt n hr
          rw [(hnew n hn).2] at this;cases this
    · refine List.pairwise_append.2 ⟨h.ord,by simp,fun a ha b hb=>?_⟩
      simp at hb;subst hb
      exact hbig a ha
    · rcases List.mem_append.1 hww with h1|h1
      · rcases hpar w h1 with h2|⟨p,v,l,h2,h3,h4,h5⟩
        · exact .inl h2
        · exact .inr ⟨p,v,l,get_app h2,h3,h4,h5⟩
      · simp at h1;subst h1
        exact .inr ⟨i,wi,lj,get_app hw,rfl,hl,.inr ⟨rfl,j,by omega,hj⟩⟩
    · rw [hv.snI n hn,h.snI n hn]
      constructor
      · rintro (⟨s',hs',hns⟩|hnR)
        · exact ⟨s',List.mem_append_left _ hs',hns⟩
        · rcases Bool.eq_false_or_eq_true (sn seen n) with h2|h2
          · obtain ⟨s',hs',hns⟩:=(h.snI n hn).1 h2
            exact ⟨s',List.mem_append_left _ hs',hns⟩
          · exact ⟨⟨i,lj,st.fresh⟩,List.mem_append_right _ (by simp),(hv.fr n).2 ⟨hnR,h2⟩⟩
      · rintro ⟨s',hs',hns⟩
        rcases List.mem_append.1 hs' with h1|h1
        · exact .inl ⟨s',h1,hns⟩
        · simp at h1;subst h1
          exact .inr (hnew n hns).1
    · rcases app_get hs' with h1|⟨h1,h2⟩
      · exact hdone t s' h1 l hl' n hn y hy
      · have:=(List.getElem?_eq_some_iff.1 hs).1
        rcases hl' with ⟨h3,_⟩|⟨h3,_⟩<;>omega
    · rcases List.mem_append.1 hs' with h1|h1
      · exact h.nogoal s' h1 n hn
      · simp at h1;subst h1;exact hnog n hn
    · rcases List.mem_append.1 hs' with h1|h1
      · exact h.inn s' h1 n hn
      · simp at h1;subst h1;exact hRin n (hnew n hn).1
    · have h1:=hv.cnt
      have h2:=h.cnt
      have h3:0 < st.fresh.length:=List.length_pos_iff.2 hfr
      simp;omega
    · have:=h.le;simp;omega
    · rcases List.mem_append.1 hs' with h1|h1
      · exact h.nd s' h1
      · simp at h1;subst h1;exact hv.nd
theorem FI.init {g:Gr} (hg:GrOk g) {st:VSt} (hv:VOk g.goal g.N (List.replicate g.N false) [g.s0] st) (hf:st.found=false):st.fresh=[g.s0]∧FI g st.seen [⟨-1,0,[g.s0]⟩] [[]] 0 0:=by
  have hno:∀n,sn (List.replicate g.N false) n=false:=fun n=>by
    unfold sn
    by_cases h:n.toNat < g.N<;>simp [List.getD,h]
  have hmem:∀n,n∈st.fresh↔n=g.s0:=fun n=>by rw [hv.fr n];simp [hno]
  have hfr:st.fresh=[g.s0]:=by
    have h1:=hv.nd
    generalize st.fresh=l at hmem h1
    cases l with
    | nil=>have:=(hmem g.s0).2 rfl;cases this
    | cons a l=>
      have ha:=(hmem a).1 (by simp)
      subst ha
      cases l with
      | nil=>rfl
      | cons b l=>
        have hb:=(hmem b).1 (by simp)
        subst hb
        simp at h1
  refine ⟨hfr,?_⟩
  have hng:g.goal g.s0=false:=by
    have:=hv.fd
    rw [hf,hfr] at this
    simpa using this.symm
  have one:∀(t:Nat) (s:Stp),[(⟨-1,0,[g.s0]⟩:Stp)][t]? = some s→t=0∧s=⟨-1,0,[g.s0]⟩:=fun t s h=>by
    cases t with
    | zero=>simp at h;exact ⟨rfl,h.symm⟩
    | succ t=>simp at h
  have one':∀(t:Nat) (w:List Int),[([]:List Int)][t]? = some w→w=[]:=fun t w h=>by
    cases t with
    | zero=>exact (Option.some.inj h).symm
    | succ t=>simp at h
  refine ⟨hv.len,rfl,fun t s hs=>?_,fun t s w hs hw n hn=>?_,fun w hw=>?_,fun t s w hs hw n hn u _ hlt=>?_,by simp,fun w hw=>by simp at hw;exact .inl hw,fun n hn=>?_,fun t s hs l hl n hn y hy=>?_,fun s hs n hn=>?_,fun s hs n hn=>?_,?_,?_,by simp,fun s hs=>?_⟩
  · obtain ⟨rfl,rfl⟩:=one t s hs;exact .inl ⟨rfl,rfl⟩
  · obtain ⟨rfl,rfl⟩:=one t s hs
    have:=one' 0 w hw
    subst this
    simp at hn;subst hn;exact (rfl:g.s0=g.s0)
  · simp at hw;subst hw;exact fun l hl=>(by cases hl)
  · have:=one' t w hw
    subst this
    rcases hlt with h1|⟨_,h1⟩
    · simp at h1
    · cases u<;>exact h1.elim
  · rw [hv.snI n hn];simp [hno]
  · rcases hl with ⟨h1,_⟩|⟨_,j',h1,_⟩<;>omega
  · simp at hs;subst hs;simp at hn;subst hn;exact hng
  · simp at hs;subst hs;simp at hn;subst hn;exact hg.s0
  · exact (hv.snI _ hg.s0.1).2 (.inr (by simp))
  · rw [hv.cnt,hfr];simp
  · simp at hs;subst hs;simp
theorem IsAns.start {g:Gr} (h:g.goal g.s0=true):IsAns g (some []):=
  ⟨fun l hl=>(by cases hl),⟨g.s0,rfl,h⟩,fun u _ _ hlt=>by rcases hlt with h1|⟨_,h1⟩;(simp at h1);(cases u<;>exact h1.elim)⟩
end Go.Am
namespace Go.Am
open Go
end Go.Am
namespace Go.Am
open Go Go.Proofs
set_option maxHeartbeats 1000000
attribute [local irreducible] QOp AOp Lex LexO AWp Spec
variable {TB:Amb}
def revH (bs:List UInt8) (k i:Nat):UInt8:=if i < k∨bs.length≤i+k then bs.getD (bs.length - 1 - i) 0 else bs.getD i 0
theorem revH_0 (bs:List UInt8):(rowsF bs.length fun i=>byC (revH bs 0 i))=bs.map byC:=by
  apply List.ext_getElem?
  intro i
  by_cases hi:i < bs.length
  · rw [rowsF_get (g:=fun i=>byC (revH bs 0 i)) hi]
    unfold revH
    rw [if_neg (by omega)]
    simp [List.getD,hi]
  · rw [List.getElem?_eq_none (by simp [rowsF];omega),List.getElem?_eq_none (by simp;omega)]
theorem revH_end (bs:List UInt8) {k:Nat} (hk:bs.length≤2*k+1):(rowsF bs.length fun i=>byC (revH bs k i))=bs.reverse.map byC:=by
  apply List.ext_getElem?
  intro i
  by_cases hi:i < bs.length
  · rw [rowsF_get (g:=fun i=>byC (revH bs k i)) hi]
    unfold revH
    have h1:bs.reverse[i]? = some (bs.getD (bs.length - 1 - i) 0):=by
      rw [List.getElem?_reverse hi]
      have:bs.length - 1 - i < bs.length:=by omega
      simp [List.getD,this]
    rw [List.getElem?_map,h1]
    by_cases h2:i < k∨bs.length≤i+k
    · rw [if_pos h2];rfl
    · rw [if_neg h2]
      have:bs.length - 1 - i=i:=by omega
      rw [this];rfl
  · rw [List.getElem?_eq_none (by simp [rowsF];omega),List.getElem?_eq_none (by simp;omega)]
theorem ren_byC (r:Nat→Nat) (l:List UInt8):(l.map byC).map (C.renL r)=l.map byC:=by
  rw [List.map_map];exact List.map_congr_left fun c _=>rfl
theorem renL_byC (r:Nat→Nat) (c:UInt8):C.renL r (byC c)=byC c:=rfl
theorem ren_by (r:Nat→Nat) (n:Nat) (H:Nat→UInt8):(rowsF n fun i=>byC (H i)).map (C.renL r)=rowsF n fun i=>byC (H i):=by
  unfold rowsF
  rw [List.map_map]
  exact List.map_congr_left fun i _=>rfl
theorem getA_by {n q:Nat} {H:Nat→UInt8} (h:q < n):(rowsF n fun i=>byC (H i))[0+((q:Nat):Int).toNat]? = some (byC (H q)):=by
  rw [Nat.zero_add,Int.toNat_natCast];exact rowsF_get (g:=fun i=>byC (H i)) h
theorem setA_by {n q:Nat} {H:Nat→UInt8} {c d:UInt8}:(rowsF n fun i=>byC (H i)).set (0+((q:Nat):Int).toNat) (spliceC (byC d) 0 (eC (eI .u8 (c.toNat:Nat))))=rowsF n fun i=>byC (if i=q then c else H i):=by
  rw [Nat.zero_add,Int.toNat_natCast]
  have e:spliceC (byC d) 0 (eC (eI .u8 (c.toNat:Nat)))=byC c:=rfl
  rw [e,rowsF_set]
  refine rowsF_congr fun i _=>?_
  by_cases h:i=q<;>simp [h]
theorem reverse_ok (bs:List UInt8) (hb:bs.length≤1099511627776):Spec Tryz.prog TB 156 [(0,.cells 5 1 (bs.map byC))] 1 [.o (.arr 0 1 0 bs.length)] (fun x σ nx=>x=.t []∧nx=1∧σ=[(0,.cells 5 1 (bs.reverse.map byC))]):=by
  refine eN Tryz.func156 rfl (by kernel_rfl) rfl ?_;intro Γ hΓ
  (repeat first|refine sN rfl ?_|((first|refine sM rfl ?_ ?_|refine s4 rfl ‹_› rfl ?_ ?_);first|exact tI|omega|(simp only[oZ] at *;omega))|(refine s2 rfl ?_;intro _ _hb)|(refine s3 rfl ?_ ?_<;>intro hb<;>subst hb)|refine aS ?_|refine reg (by kernel_rfl) ?_|refine lexE ?_|refine rD (by kernel_rfl) (by kernel_rfl) ?_)
  refine AWp.block ?_
  refine AWp.loopL (α:={k:Nat // k≤bs.length}) (fun ⟨k,hk⟩=>[(0,.o (.arr 0 1 0 bs.length)),(2,eI .i64 k),(3,eI .i64 ((bs.length:Int) - 1 - k))]) (fun ⟨k,hk⟩=>[(0,.cells 5 1 (rowsF bs.length fun i=>byC (revH bs k i)))]) 1 (fun ⟨k,hk⟩=>bs.length - k) (⟨0,by omega⟩) [0] (rl3 hΓ rfl rfl) (by (repeat' first|exact tI|rfl|refine And.intro ?_ ?_)<;>simp[cX,zC,hΓ,ren_by,revH_0,renL_byC]) ?_;rintro ⟨k,hk⟩;(try dsimp only)
  (repeat first|refine sN rfl ?_|((first|refine sM rfl ?_ ?_|refine s4 rfl ‹_› rfl ?_ ?_);first|exact tI|omega|(simp only[oZ] at *;omega))|(refine s2 rfl ?_;intro _ _hb)|(refine s3 rfl ?_ ?_<;>intro hb<;>subst hb)|refine aS ?_|refine reg (by kernel_rfl) ?_|refine lexE ?_|refine rD (by kernel_rfl) (by kernel_rfl) ?_)
  (refine aC rfl ?_ ?_<;>intro hb<;>cases hb)
  · have hlt:2*k+1 < bs.length:=by first|omega|(simp only[oZ] at *;omega)
    obtain ⟨m,hm⟩:∃m:Nat,m=bs.length - 1 - k:=⟨_,rfl⟩
    have e3:(bs.length:Int) - 1 - k=((m:Nat):Int):=by omega
    have hk1:revH bs k k=bs.getD k 0:=by unfold revH;rw [if_neg (by omega)]
    have hm1:revH bs k m=bs.getD m 0:=by unfold revH;rw [if_neg (by omega)]
    have hgk:=getA_by (H:=revH bs k) (q:=k) (n:=bs.length) (by omega)
    have hgm:=getA_by (H:=revH bs k) (q:=m) (n:=bs.length) (by omega)
    have hs1:=setA_by (n:=bs.length) (q:=k) (H:=revH bs k) (c:=revH bs k m) (d:=revH bs k k)
    have hgm2:=getA_by (H:=fun i=>if i=k then revH bs k m else revH bs k i) (q:=m) (n:=bs.length) (by omega)
    have hs2:=setA_by (n:=bs.length) (q:=m) (H:=fun i=>if i=k then revH bs k m else revH bs k i) (c:=revH bs k k) (d:=revH bs k m)
    have hmk:m≠k:=by omega
    rw [if_neg hmk] at hgm2
    have hc:(rowsF bs.length fun i=>byC (if i=m then revH bs k k else if i=k then revH bs k m else revH bs k i))=rowsF bs.length fun i=>byC (revH bs (k+1) i):=rowsF_congr fun i hi=>by
      congr 1
      by_cases h1:i=m
      · subst h1;rw [if_pos rfl,hk1];unfold revH;rw [if_pos (by omega)];congr 1;omega
      · rw [if_neg h1]
        by_cases h2:i=k
        · subst h2;rw [if_pos rfl,hm1];unfold revH;rw [if_pos (by omega)];congr 1
        · rw [if_neg h2];unfold revH
          by_cases h3:i < k∨bs.length≤i+k
          · rw [if_pos h3,if_pos (by omega)]
          · rw [if_neg h3,if_neg (by omega)]
    rw [←hs1] at hgm2
    rw [e3]
    refine AWp.skip ?_
    refine AWp.seq (AWp.block ?_)
    refine regD (flM [13,15] [2,3]) mixed (by kernel_rfl) (by kernel_rfl) ?_
    (repeat first|refine sN rfl ?_|((first|refine sM rfl ?_ ?_|refine s4 rfl ‹_› rfl ?_ ?_);first|exact tI|omega|(simp only[oZ] at *;omega))|(refine s2 rfl ?_;intro _ _hb)|(refine s3 rfl ?_ ?_<;>intro hb<;>subst hb)|refine aS ?_|refine reg (by kernel_rfl) ?_|refine lexE ?_|refine rD (by kernel_rfl) (by kernel_rfl) ?_)
    refine ⟨⟨k+1,by first|omega|(simp only[oZ] at *;omega)⟩,by dsimp only;(first|omega|(simp only[oZ] at *;omega)),[0],?_⟩
    rw [hs1,hs2,hc]
    have e4:(m:Int) - 1=bs.length - 1 - (k+1):=by omega
    simp[cX,zC,hΓ,ren_by,e4]
  · have hle:bs.length≤2*k+1:=by first|omega|(simp only[oZ] at *;omega)
    rw [revH_end bs hle]
    exact AWp.exit ⟨_,rfl,rfl,rfl,rfl⟩
end Go.Am
namespace Go.Am
open Go Go.Proofs
set_option maxHeartbeats 1000000
attribute [local irreducible] QOp AOp Lex LexO AWp Spec
variable {TB:Amb}
abbrev stRow (s:Stp):List D:=[iD s.p,iD s.l,iList s.ns]
abbrev stRowC (s:Stp):List C:=[.d (iD s.p),.d (iD s.l),.d (iList s.ns)]
abbrev stList (l:List Stp):D:=.l (l.map stRow)
theorem letter_by {l:Int} (h0:0≤l) (h1:l < 6):byC (UInt8.ofNat (97+l.toNat))=[.d (.v (.int .u8 (97+l)))]:=by
  have h2:(97+l.toNat) % 256=97+l.toNat:=Nat.mod_eq_of_lt (by omega)
  have h3:(97+l:Int)=((97+l.toNat:Nat):Int):=by omega
  simp [byC,h2,h3]
theorem txt_rev (o:List Int):(txt o).reverse=txt o.reverse:=by simp [txt]
theorem pathWord_ok {ls:List Int} {steps:List Stp} {ws:List (List Int)} (h:Chain ls steps ws) (hls:∀l∈ls,0≤l∧l < 6) {w:List Int} (hlen:1≤steps.length∧steps.length≤2097152) (hw:ws[steps.length - 1]? = some w):Pure Tryz.prog TB 139 [.o (.d (stList steps))] (eT (txt w)):=by
  refine eN Tryz.func139 rfl (by kernel_rfl) rfl ?_;intro Γ hΓ
  (repeat first|refine sN rfl ?_|((first|refine sM rfl ?_ ?_|refine s4 rfl ‹_› rfl ?_ ?_);first|exact tI|omega|(simp only[oZ] at *;omega))|(refine s2 rfl ?_;intro _ _hb)|(refine s3 rfl ?_ ?_<;>intro hb<;>subst hb)|refine aS ?_|refine reg (by kernel_rfl) ?_|refine lexE ?_|refine rD (by kernel_rfl) (by kernel_rfl) ?_)
  (refine popO rfl ?_;refine popW ?_ rfl (by rfl);refine n_nil 1 5 ?_)
  (repeat first|refine sN rfl ?_|((first|refine sM rfl ?_ ?_|refine s4 rfl ‹_› rfl ?_ ?_);first|exact tI|omega|(simp only[oZ] at *;omega))|(refine s2 rfl ?_;intro _ _hb)|(refine s3 rfl ?_ ?_<;>intro hb<;>subst hb)|refine aS ?_|refine reg (by kernel_rfl) ?_|refine lexE ?_|refine rD (by kernel_rfl) (by kernel_rfl) ?_)
  refine AWp.block ?_
  refine AWp.loopL (α:={x:Nat×List Int // x.1+x.2.length < steps.length∧∃v,ws[x.1]? = some v∧w=v++x.2.reverse}) (fun ⟨⟨i,o⟩,hP⟩=>[(0,.o (.d (stList steps))),(3,.o (.arr 0 1 0 o.length)),(4,eI .i64 i)]) (fun ⟨⟨i,o⟩,hP⟩=>[(0,.cells 5 1 ((txt o).map byC))]) 1 (fun ⟨⟨i,o⟩,hP⟩=>i) (⟨(steps.length - 1,[]),by simp;omega,w,hw,by simp⟩) [0] (rl3 hΓ rfl rfl) (by (repeat' first|exact tI|rfl|refine And.intro ?_ ?_)<;>simp[cX,zC,hΓ,txt,Int.ofNat_sub,hlen.1]) ?_;rintro ⟨⟨i,o⟩,hP⟩;(try dsimp only)
  obtain ⟨hi,v,hv,hwv⟩:=hP
  simp only at hi hv hwv
  obtain ⟨s,hs⟩:=get_some (l:=steps) (k:=i) (by omega)
  have hs':=get_map (g:=stRow) hs
  have hch:=h.chain i s hs
  have htl:(txt o).length=o.length:=by simp [txt]
  (repeat first|refine sN rfl ?_|((first|refine sM rfl ?_ ?_|refine s4 rfl ‹_› rfl ?_ ?_);first|exact tI|omega|(simp only[oZ] at *;omega))|(refine s2 rfl ?_;intro _ _hb)|(refine s3 rfl ?_ ?_<;>intro hb<;>subst hb)|refine aS ?_|refine reg (by kernel_rfl) ?_|refine lexE ?_|refine rD (by kernel_rfl) (by kernel_rfl) ?_)
  (refine aC rfl ?_ ?_<;>intro hb<;>cases hb)
  · obtain ⟨q,u,hq,hqi,hqu,hu,hl⟩:∃(q:Nat) (u:List Int),s.p=(q:Int)∧q < i∧ws[q]? = some u∧ws[i]? = some (u++[s.l])∧s.l∈ls:=by
      rcases hch with ⟨h1,_⟩|h1
      · exfalso;first|omega|(simp only[oZ] at *;omega)
      · exact h1
    have hlb:=hls _ hl
    rw [hv] at hu
    injection hu with hu
    have hby:=letter_by hlb.1 hlb.2
    have htx:txt (o++[s.l])=txt o++[UInt8.ofNat (97+s.l.toNat)]:=by simp [txt]
    have htx2:(txt (o++[s.l])).map byC=(txt o).map byC++[[.d (.v (.int .u8 (97+s.l)))]]:=by rw [htx,List.map_append,List.map_cons,hby];rfl
    refine AWp.skip ?_
    refine AWp.seq (AWp.block ?_)
    (repeat first|refine sN rfl ?_|((first|refine sA rfl ?_ ?_|refine s4 rfl ‹_› rfl ?_ ?_);first|exact tI|omega|(simp only[oZ] at *;omega))|(refine s2 rfl ?_;intro _ _hb) |refine sP rfl (letterByte_ok s.l hlb.1 (by omega)) rfl ?_|(refine s3 rfl ?_ ?_<;>intro hb<;>subst hb)|refine aS ?_|refine reg (by kernel_rfl) ?_|refine lexE ?_|refine rD (by kernel_rfl) (by kernel_rfl) ?_)
    (refine popO rfl ?_;refine popW ?_ rfl (by rfl);refine n_append rfl rfl rfl (by first|(simp;done)|(simp;(first|omega|(simp only[oZ] at *;omega)))) rfl (by intro r hr;simp at hr;subst hr;rfl) (by rfl) (Nat.le_of_ble_eq_true rfl) (by simp;first|omega|(simp only[oZ] at *;omega)) ?_)
    (repeat first|refine sN rfl ?_|((first|refine sX rfl ?_ ?_|refine s4 rfl ‹_› rfl ?_ ?_);first|exact tI|omega|(simp only[oZ] at *;omega))|(refine s2 rfl ?_;intro _ _hb)|(refine s3 rfl ?_ ?_<;>intro hb<;>subst hb)|refine aS ?_|refine reg (by kernel_rfl) ?_|refine lexE ?_|refine rD (by kernel_rfl) (by kernel_rfl) ?_)
    refine ⟨⟨(q,o++[s.l]),by simp;omega,u,hqu,by rw [hwv,hu];simp⟩,by dsimp only;omega,[1],?_⟩
    dsimp only
    rw [htx2]
    simp[cX,zC,hΓ,hq,renL_byC]
  · have hv0:v=[]:=by
      rcases hch with ⟨_,h1⟩|⟨q,u,h1,_⟩
      · rw [hv] at h1;injection h1
      · exfalso;first|omega|(simp only[oZ] at *;omega)
    subst hv0
    have hwo:w=o.reverse:=by rw [hwv];rfl
    have hrv:=reverse_ok (TB:=TB) (txt o) (by omega)
    rw [htl,txt_rev,←hwo] at hrv
    refine AWp.exit ?_
    (repeat first|refine sN rfl ?_|((first|refine sM rfl ?_ ?_|refine s4 rfl ‹_› rfl ?_ ?_);first|exact tI|omega|(simp only[oZ] at *;omega))|(refine s2 rfl ?_;intro _ _hb)|(refine s3 rfl ?_ ?_<;>intro hb<;>subst hb)|refine aS ?_|refine reg (by kernel_rfl) ?_|refine lexE ?_|refine rD (by kernel_rfl) (by kernel_rfl) ?_)
    (refine popO rfl ?_;refine popW ?_ rfl (by rfl);refine n_call [0] rfl rfl hrv ⟨rfl,by simp,by simp⟩ rfl (by simp[cX,zC,hΓ,renL_byC]) ?_;rintro x0 σ1 nx1 ⟨rfl,rfl,rfl⟩ _)
    have htw:(txt w).length=o.length:=by rw [hwo];simp [txt]
    (repeat first|refine sN rfl ?_|((first|refine sM rfl ?_ ?_|refine s4 rfl ‹_› rfl ?_ ?_);first|exact tI|omega|(simp only[oZ] at *;omega))|(refine s2 rfl ?_;intro _ _hb)|(refine popO rfl ?_;refine gA rfl ?_;first|refine gQ (q_textA (txt w) rfl rfl (by simp;omega) (by rw [List.drop_zero,ren_byC,List.take_of_length_le (by simp;omega)])) (by rfl) ?_)|(refine s3 rfl ?_ ?_<;>intro hb<;>subst hb)|refine aS ?_|refine reg (by kernel_rfl) ?_|refine lexE ?_|refine rD (by kernel_rfl) (by kernel_rfl) ?_)
    refine AWp.ret ⟨_,rfl,rfl⟩
end Go.Am
namespace Go.Am
open Go Go.Proofs
set_option maxHeartbeats 1000000
attribute [local irreducible] QOp AOp Lex LexO AWp Spec
variable {TB:Amb}
theorem all5 (p:Nat→Prop):(∀i,i < 5→p i)↔p 0∧p 1∧p 2∧p 3∧p 4:=by
  constructor
  · intro h;exact ⟨h 0 (by omega),h 1 (by omega),h 2 (by omega),h 3 (by omega),h 4 (by omega)⟩
  · rintro ⟨h0,h1,h2,h3,h4⟩ i hi
    have:i=0∨i=1∨i=2∨i=3∨i=4:=by omega
    rcases this with rfl|rfl|rfl|rfl|rfl<;>assumption
theorem vis_step {goal:Int→Bool} {seen:List Bool} {nodes:List Int} {k:Nat} {x:Int} (h:nodes[k]? = some x):vis goal seen (nodes.take (k+1))=vstep goal (vis goal seen (nodes.take k)) x:=by
  unfold vis;rw [foldl_step h]
theorem set_mapB {l:List Bool} {n:Int}:(l.map bRowC).set (0+n.toNat) (spliceC (bRowC false) 0 (eC (eB true)))=(l.set n.toNat true).map bRowC:=by
  simp [spliceC,eC,List.map_set]
abbrev visS (N:Nat) (gG:FuncId) (capsG:List C) (seen:List Bool) (q:Nat) (steps:List Stp):Store:=
  [(0,.cells 24 1 [[.arr 1 1 0 N]]),(1,.cells 4 1 (seen.map bRowC)),(2,.cells 72 1 [[.fn gG capsG]]),(3,.cells 160 1 [[.arr q 3 0 steps.length]]),(q,.cells 162 3 (steps.map stRowC))]
theorem visit_ok {goal:Int→Bool} {gG:FuncId} {capsG:List C} {N:Nat} (hG:∀n:Int,0≤n∧n < N→Pure Tryz.prog TB gG ([eI .i64 n]++capsG.map .o) (eB (goal n))) (hcG:C.purL capsG=true) (hren:∀r,C.renL r capsG=capsG)
    (seen:List Bool) (steps:List Stp) (p l:Int) (nodes:List Int) (hs:seen.length=N) (hN:N≤1048576) (hst:steps.length≤1048576) (hn:∀n∈nodes,0≤n∧n < N) :
    Spec Tryz.prog TB 138 (visS N gG capsG seen 4 steps) 5 [eI .i64 p,eI .i64 l,eInts nodes,.o (.ptr 0 1 0 0),.o (.ptr 2 1 0 0),.o (.ptr 3 1 0 0)]
      (fun x σ nx=>x=eB (vis goal seen nodes).found∧∃q,(q=4∧nx=5∨q=5∧nx=6)∧σ=visS N gG capsG (vis goal seen nodes).seen q (stepsV steps p l (vis goal seen nodes).fresh)):=by
  have hvk:∀k,VOk goal N seen (nodes.take k) (vis goal seen (nodes.take k)):=fun k=>vis_ok hs fun n hn'=>hn n (List.mem_of_mem_take hn')
  refine eN Tryz.func138 rfl (by kernel_rfl) rfl ?_;intro Γ hΓ
  refine AWp.bound 2 rfl fun hB0=>?_
  have hB:=hB0 _ .refl
  rw [List.length_map] at hB
  (repeat first|refine sN rfl ?_|((first|refine sM rfl ?_ ?_|refine s4 rfl ‹_› rfl ?_ ?_);first|exact tI|omega|(simp only[oZ] at *;omega))|(refine s2 rfl ?_;intro _ _hb)|(refine s3 rfl ?_ ?_<;>intro hb<;>subst hb)|refine aS ?_|refine reg (by kernel_rfl) ?_|refine lexE ?_|refine rD (by kernel_rfl) (by kernel_rfl) ?_)
  (refine popO rfl ?_;refine popW ?_ rfl (by rfl);refine n_nil 1 3 ?_)
  (repeat first|refine sN rfl ?_|((first|refine sM rfl ?_ ?_|refine s4 rfl ‹_› rfl ?_ ?_);first|exact tI|omega|(simp only[oZ] at *;omega))|(refine s2 rfl ?_;intro _ _hb)|(refine s3 rfl ?_ ?_<;>intro hb<;>subst hb)|refine aS ?_|refine reg (by kernel_rfl) ?_|refine lexE ?_|refine rD (by kernel_rfl) (by kernel_rfl) ?_)
  refine AWp.block ?_
  refine AWp.loopL (α:={k:Nat // k≤nodes.length}) (fun ⟨k,hk⟩=>[(0,eI .i64 p),(1,eI .i64 l),(3,.o (.ptr 0 1 0 0)),(4,.o (.ptr 2 1 0 0)),(5,.o (.ptr 3 1 0 0)),(10,.o (.arr 5 1 0 (vis goal seen (nodes.take k)).fresh.length)),(11,eB (vis goal seen (nodes.take k)).found),(14,eInts nodes),(15,eI .i64 nodes.length),(16,eI .i64 k)]) (fun ⟨k,hk⟩=>visS N gG capsG (vis goal seen (nodes.take k)).seen 4 steps++[(5,.cells 3 1 ((vis goal seen (nodes.take k)).fresh.map iRowC))]) 6 (fun ⟨k,hk⟩=>nodes.length - k) (⟨0,by omega⟩) [0,1,2,3,4,5] (rl3 hΓ rfl rfl) (by (repeat' first|exact tI|rfl|refine And.intro ?_ ?_)<;>simp[cX,zC,hΓ,visS,vis,hren]) ?_;rintro ⟨k,hk⟩;(try dsimp only)
  have hv:=hvk k
  have hvs:=fun x=>vis_step (goal:=goal) (seen:=seen) (nodes:=nodes) (k:=k) (x:=x)
  generalize hV:vis goal seen (nodes.take k)=v at *
  (repeat first|refine sN rfl ?_|((first|refine sM rfl ?_ ?_|refine s4 rfl ‹_› rfl ?_ ?_);first|exact tI|omega|(simp only[oZ] at *;omega))|(refine s2 rfl ?_;intro _ _hb)|(refine s3 rfl ?_ ?_<;>intro hb<;>subst hb)|refine aS ?_|refine reg (by kernel_rfl) ?_|refine lexE ?_|refine rD (by kernel_rfl) (by kernel_rfl) ?_)
  (refine aC rfl ?_ ?_<;>intro hb<;>cases hb)
  · obtain ⟨x,hx⟩:=get_some (l:=nodes) (k:=k) (by first|omega|(simp only[oZ] at *;omega))
    have hx':=get_map (g:=iRow) hx
    have hxb:=hn x (List.mem_of_getElem? hx)
    have hvs:=hvs x hx
    have hvl:=hv.len
    obtain ⟨b,hb⟩:=get_some (l:=v.seen) (k:=x.toNat) (by omega)
    have hb':(v.seen.map bRowC)[0+x.toNat]? = some (bRowC b):=by simp [hb]
    have hsb:sn v.seen x=b:=by simp [sn,List.getD,hb]
    have hfl:v.fresh.length≤N:=by
      refine nodup_len _ _ hv.nd fun y hy=>hn y (List.mem_of_mem_take ((hv.fr y).1 hy).1)
    unfold vstep at hvs
    rw [hsb] at hvs
    obtain ⟨vse,vfr,vfd⟩:=v
    simp only at hvs hvl hb hb' hfl
    refine AWp.skip ?_
    refine AWp.seq (AWp.block ?_)
    (repeat first|refine sN rfl ?_|((first|refine sM rfl ?_ ?_|refine s4 rfl ‹_› rfl ?_ ?_);first|exact tI|omega|(simp only[oZ] at *;omega))|(refine s2 rfl ?_;intro _ _hb)|(refine s3 rfl ?_ ?_<;>intro hb<;>subst hb)|refine aS ?_|refine reg (by kernel_rfl) ?_|refine lexE ?_|refine rD (by kernel_rfl) (by kernel_rfl) ?_)
    (refine aC rfl ?_ ?_<;>intro hb<;>cases hb)
    · have hbf:b=false:=by simpa using _hb
      subst hbf
      rw [if_neg (by simp)] at hvs
      (repeat first|refine sN rfl ?_|((first|refine sA rfl ?_ ?_|refine s4 rfl ‹_› rfl ?_ ?_);first|exact tI|omega|(simp only[oZ] at *;omega))|(refine s2 rfl ?_;intro _ _hb)|(refine s3 rfl ?_ ?_<;>intro hb<;>subst hb)|refine aS ?_|refine reg (by kernel_rfl) ?_|refine lexE ?_|refine rD (by kernel_rfl) (by kernel_rfl) ?_)
      (refine popO rfl ?_;refine popW ?_ rfl (by rfl);refine n_append rfl rfl rfl (by first|(simp;done)|(simp;(first|omega|(simp only[oZ] at *;omega)))) rfl (by intro r hr;simp at hr;subst hr;rfl) (by rfl) (Nat.le_of_ble_eq_true rfl) (by simp;first|omega|(simp only[oZ] at *;omega)) ?_)
      (repeat first|refine sN rfl ?_|((first|refine sX rfl ?_ ?_|refine s4 rfl ‹_› rfl ?_ ?_);first|exact tI|omega|(simp only[oZ] at *;omega))|(refine s2 rfl ?_;intro _ _hb)|(refine s3 rfl ?_ ?_<;>intro hb<;>subst hb)|refine aS ?_|refine reg (by kernel_rfl) ?_|refine lexE ?_|refine rD (by kernel_rfl) (by kernel_rfl) ?_)
      (repeat first|refine sN rfl ?_|((first|refine sA rfl ?_ ?_|refine s4 rfl ‹_› rfl ?_ ?_);first|exact tI|omega|(simp only[oZ] at *;omega))|(refine s2 rfl ?_;intro _ _hb) |(refine sC rfl (hG x hxb) ?_;intro _ _hb)|(refine popO rfl ?_;refine gA rfl ?_;first|refine gQ (q_loadP rfl rfl rfl rfl) (by rfl) ?_)|(refine s3 rfl ?_ ?_<;>intro hb<;>subst hb)|refine aS ?_|refine reg (by kernel_rfl) ?_|refine lexE ?_|refine rD (by kernel_rfl) (by kernel_rfl) ?_)
      · refine ⟨⟨k+1,by first|omega|(simp only[oZ] at *;omega)⟩,by dsimp only;(first|omega|(simp only[oZ] at *;omega)),[0,1,2,3,4,6],?_⟩
        rw [set_mapB]
        simp[cX,zC,hΓ,hvs,visS,hren,all5]
      · (repeat first|refine sN rfl ?_|((first|refine sA rfl ?_ ?_|refine s4 rfl ‹_› rfl ?_ ?_);first|exact tI|omega|(simp only[oZ] at *;omega))|(refine s2 rfl ?_;intro _ _hb)|(refine popO rfl ?_;refine gA rfl ?_;first|(refine gB (fun _ _=>q_call rfl rfl (by simp [E.pur,C.pur,hcG]) (hG x hxb) rfl) ?_;intro _ _hb))|(refine s3 rfl ?_ ?_<;>intro hb<;>subst hb)|refine aS ?_|refine reg (by kernel_rfl) ?_|refine lexE ?_|refine rD (by kernel_rfl) (by kernel_rfl) ?_)
        refine ⟨⟨k+1,by first|omega|(simp only[oZ] at *;omega)⟩,by dsimp only;(first|omega|(simp only[oZ] at *;omega)),[0,1,2,3,4,6],?_⟩
        rw [set_mapB]
        simp[cX,zC,hΓ,hvs,visS,hren,all5,_hb]
    · have hbt:b=true:=by simpa using _hb
      subst hbt
      rw [if_pos rfl] at hvs
      refine AWp.skip ?_
      (repeat first|refine sN rfl ?_|((first|refine sM rfl ?_ ?_|refine s4 rfl ‹_› rfl ?_ ?_);first|exact tI|omega|(simp only[oZ] at *;omega))|(refine s2 rfl ?_;intro _ _hb)|(refine s3 rfl ?_ ?_<;>intro hb<;>subst hb)|refine aS ?_|refine reg (by kernel_rfl) ?_|refine lexE ?_|refine rD (by kernel_rfl) (by kernel_rfl) ?_)
      refine ⟨⟨k+1,by first|omega|(simp only[oZ] at *;omega)⟩,by dsimp only;(first|omega|(simp only[oZ] at *;omega)),[0,1,2,3,4,5],?_⟩
      simp[cX,zC,hΓ,hvs,visS,hren,all5]
  · obtain rfl:k=nodes.length:=by first|omega|(simp only[oZ] at *;omega)
    rw [List.take_length] at hV
    subst hV
    refine AWp.exit ?_
    have hfl:(vis goal seen nodes).fresh.length≤N:=by
      have hv:=hvk nodes.length
      rw [List.take_length] at hv
      refine nodup_len _ _ hv.nd fun y hy=>hn y ((hv.fr y).1 hy).1
    generalize vis goal seen nodes=vv at *
    obtain ⟨vse,vfr,vfd⟩:=vv
    have hfl:vfr.length≤N:=hfl
    (repeat first|refine sN rfl ?_|((first|refine sM rfl ?_ ?_|refine s4 rfl ‹_› rfl ?_ ?_);first|exact tI|omega|(simp only[oZ] at *;omega))|(refine s2 rfl ?_;intro _ _hb)|(refine s3 rfl ?_ ?_<;>intro hb<;>subst hb)|refine aS ?_|refine reg (by kernel_rfl) ?_|refine lexE ?_|refine rD (by kernel_rfl) (by kernel_rfl) ?_)
    (refine aC rfl ?_ ?_<;>intro hb<;>cases hb)
    · have hne:vfr≠[]:=fun e=>by rw [e] at _hb;simp at _hb
      refine AWp.freeze [5] [(0,eI .i64 p),(1,eI .i64 l),(5,.o (.ptr 3 1 0 0)),(10,eInts vfr),(11,eB vfd)] ⟨⟨_,rfl,.keep⟩,⟨_,rfl,.keep⟩,⟨_,rfl,.keep⟩,⟨_,rfl,.o (.full (by simp) rfl (by simp [Function.comp_def]) (by simp))⟩,⟨_,rfl,.keep⟩,trivial⟩ ?_
      (repeat first|refine sN rfl ?_|((first|refine sA rfl ?_ ?_|refine s4 rfl ‹_› rfl ?_ ?_);first|exact tI|omega|(simp only[oZ] at *;omega))|(refine s2 rfl ?_;intro _ _hb)|(refine popO rfl ?_;refine gA rfl ?_;first|refine gS (fun _ _=>q_build rfl rfl (by rfl) (by rfl)) ?_)|(refine s3 rfl ?_ ?_<;>intro hb<;>subst hb)|refine aS ?_|refine reg (by kernel_rfl) ?_|refine lexE ?_|refine rD (by kernel_rfl) (by kernel_rfl) ?_)
      (refine popO rfl ?_;refine popW ?_ rfl (by rfl);refine n_append rfl rfl rfl (by first|(simp;done)|(simp;(first|omega|(simp only[oZ] at *;omega)))) rfl (by intro r hr;simp at hr;subst hr;rfl) (by rfl) (Nat.le_of_ble_eq_true rfl) (by simp;first|omega|(simp only[oZ] at *;omega)) ?_)
      (repeat first|refine sN rfl ?_|((first|refine sX rfl ?_ ?_|refine s4 rfl ‹_› rfl ?_ ?_);first|exact tI|omega|(simp only[oZ] at *;omega))|(refine s2 rfl ?_;intro _ _hb)|(refine s3 rfl ?_ ?_<;>intro hb<;>subst hb)|refine aS ?_|refine reg (by kernel_rfl) ?_|refine lexE ?_|refine rD (by kernel_rfl) (by kernel_rfl) ?_)
      refine AWp.names [0,1,2,3,4,6] [(9,eB vfd)] (visS N gG capsG vse 5 (stepsV steps p l vfr)) (by rw [hΓ];decide) (by decide) (by simp[cX,zC,hΓ]) (by simp[cX,zC,hΓ,visS,hren,stepsV,hne,killL,spliceC,eC]) ?_
      refine AWp.ret ⟨_,rfl,rfl,5,.inr ⟨rfl,rfl⟩,rfl⟩
    · have hne:vfr=[]:=List.length_eq_zero_iff.1 (by first|omega|(simp only[oZ] at *;omega))
      subst hne
      refine AWp.skip ?_
      (repeat first|refine sN rfl ?_|((first|refine sM rfl ?_ ?_|refine s4 rfl ‹_› rfl ?_ ?_);first|exact tI|omega|(simp only[oZ] at *;omega))|(refine s2 rfl ?_;intro _ _hb)|(refine s3 rfl ?_ ?_<;>intro hb<;>subst hb)|refine aS ?_|refine reg (by kernel_rfl) ?_|refine lexE ?_|refine rD (by kernel_rfl) (by kernel_rfl) ?_)
      refine AWp.names [0,1,2,3,4] [(9,eB vfd)] (visS N gG capsG vse 4 steps) (by rw [hΓ];decide) (by decide) (by simp[cX,zC,hΓ]) (by simp[cX,zC,hΓ,visS,hren]) ?_
      refine AWp.ret ⟨_,rfl,rfl,4,.inl ⟨rfl,rfl⟩,by simp [stepsV]⟩
end Go.Am
namespace Go.Am
open Go Go.Proofs
set_option maxHeartbeats 1000000
attribute [local irreducible] QOp AOp Lex LexO AWp Spec
variable {TB:Amb}
theorem n_allocN {P:Program} {Γ:Ctx} {d:Option Tmp} {ty:TypeId} {pos:String} {af:Array Edge} {g:Option (Nat×Bool)} {f:Env} {σ:Store} {nx:Nat} {K:E→Store→Nat→Prop} {T:TypeId} (k e:Nat) [hz:HasZe P T [.slice none 0 0]]
    (hK:K (.o (.ptr (nx+1) 1 0 0)) ((nx+1,.cells T 1 [[.arr nx k 0 0]])::(nx,.cells e k [])::σ) (nx+2)):AOp P TB Γ ⟨d,.alloc T,ty,pos,af,g⟩ f σ nx K:=
  n_of_run fun V ρ h1 h2 h3=>by
    subst h3
    obtain ⟨i,zv,hi,hzv,hzz⟩:=ze_inv hz.out
    have hzc:zv.cells = #[.slice none 0 0]:=by have:=congrArg List.toArray hzz;simpa using this
    obtain ⟨hi2,he2⟩:=h2.alloc (c:=0) (nl:=True) (w:=V.w) (ob:=.cells e k []) rfl rfl rfl rfl (Nat.le_refl _) (fun _ _=>rfl) (.inl ⟨by simp [newV],rfl⟩)
    have hc:LRel (newV V V.w.heap.size 0 True V.w) [.arr V.nx k 0 0] zv.cells:=by
      rw [hzc]
      refine ⟨rfl,fun j c v hj hv=>?_⟩
      match j with
      | 0=>simp at hj hv;subst hj hv;exact CRel.nil (by simp [newV]) (by simp [newV])
      | j+1=>simp at hj
    obtain ⟨hi',he⟩:=box_inv hi2 (T:=T) hc
    refine ⟨.pointer (some ⟨V.w.heap.size,0,none⟩),_,_,_,?_,he2.trans he,hi',?_,hK⟩
    · simp [execOp,Instr.alloc,zeroValue,typeInfo,hi,hzv,newVar,newRow,newV,go_sem]
    · exact ptr_new
theorem renEs_app (r:Nat→Nat):∀(l m:List E),renEs r (l++m)=renEs r l++renEs r m
  | [],m=>rfl
  | e::l,m=>by simp [renEs,renEs_app r l m]
theorem renEs_caps (r:Nat→Nat):∀(l:List C),renEs r (l.map .o)=(C.renL r l).map .o
  | []=>rfl
  | c::l=>by simp [renEs,C.renL,E.ren,renEs_caps r l]
def NextOk (P:Program) (TB:Amb) (T:TypeId) (g:Gr) (gN:FuncId) (capsN:List C):Prop:=
  ∀(node l:Int) (outs:List Int),0≤node∧node < g.N→l∈g.ls→outs.length≤1099511627776→
    Spec P TB gN [(0,.cells T 1 (outs.map iRowC))] 1 ([eI .i64 node,eI .i64 l,.o (.arr 0 1 0 outs.length)]++capsN.map .o) (fun x σ nx=>x=.o (.arr 1 1 0 (outs++g.succ node l).length)∧nx=2∧σ=[(1,.cells T 1 ((outs++g.succ node l).map iRowC))])
theorem firstPath_ok {g:Gr} (hg:GrOk g) (hN:g.N≤1048576) (hls:∀l∈g.ls,0≤l∧l < 6) (hll:g.ls.length≤6) (hsl:∀(node l:Int),0≤node∧node < g.N→l∈g.ls→(g.succ node l).length≤g.N)
    {gN gG:FuncId} {capsN capsG:List C} (hNx:NextOk Tryz.prog TB 3 g gN capsN) (hG:∀n:Int,0≤n∧n < g.N→Pure Tryz.prog TB gG ([eI .i64 n]++capsG.map .o) (eB (g.goal n)))
    (hcG:C.purL capsG=true) (hrG:∀r,C.renL r capsG=capsG) (hrN:∀r,C.renL r capsN=capsN) {r:Option (List Int)} (hr:IsAns g r) :
    Pure Tryz.prog TB 107 [eI .i64 g.N,eInts [g.s0],eInts g.ls,.o (.fn gN capsN),.o (.fn gG capsG)] (eAns r):=by
  refine eN Tryz.func107 rfl (by kernel_rfl) rfl ?_;intro Γ hΓ
  (repeat first|refine sN rfl ?_|((first|refine sM rfl ?_ ?_|refine s4 rfl ‹_› rfl ?_ ?_);first|exact tI|omega|(simp only[oZ] at *;omega))|(refine s2 rfl ?_;intro _ _hb)|(refine s3 rfl ?_ ?_<;>intro hb<;>subst hb)|refine aS ?_|refine reg (by kernel_rfl) ?_|refine lexE ?_|refine rD (by kernel_rfl) (by kernel_rfl) ?_)
  (refine popO rfl ?_;refine popW ?_ rfl (by rfl);refine n_box rfl rfl ?_)
  (repeat first|refine sN rfl ?_|((first|refine sM rfl ?_ ?_|refine s4 rfl ‹_› rfl ?_ ?_);first|exact tI|omega|(simp only[oZ] at *;omega))|(refine s2 rfl ?_;intro _ _hb)|(refine s3 rfl ?_ ?_<;>intro hb<;>subst hb)|refine aS ?_|refine reg (by kernel_rfl) ?_|refine lexE ?_|refine rD (by kernel_rfl) (by kernel_rfl) ?_)
  (refine popO rfl ?_;refine popW ?_ rfl (by rfl);refine n_make rfl rfl (by rfl) (by rfl) (Nat.le_of_ble_eq_true rfl) (by omega) (by omega) (by omega) ?_)
  iterate 5 (first|refine sN rfl ?_|((first|refine sM rfl ?_ ?_|refine s4 rfl ‹_› rfl ?_ ?_);first|exact tI|omega|(simp only[oZ] at *;omega))|(refine s2 rfl ?_;intro _ _hb)|(refine s3 rfl ?_ ?_<;>intro hb<;>subst hb)|refine aS ?_|refine reg (by kernel_rfl) ?_|refine lexE ?_)
  (refine popO rfl ?_;refine popW ?_ rfl (by rfl);refine n_allocN 3 162 ?_)
  (repeat first|refine sN rfl ?_|((first|refine sM rfl ?_ ?_|refine s4 rfl ‹_› rfl ?_ ?_);first|exact tI|omega|(simp only[oZ] at *;omega))|(refine s2 rfl ?_;intro _ _hb)|(refine s3 rfl ?_ ?_<;>intro hb<;>subst hb)|refine aS ?_|refine reg (by kernel_rfl) ?_|refine lexE ?_|refine rD (by kernel_rfl) (by kernel_rfl) ?_)
  have hv0:=vis_ok (goal:=g.goal) (N:=g.N) (seen:=List.replicate g.N false) (nodes:=[g.s0]) (by simp) (by intro n hn;simp at hn;subst hn;exact hg.s0)
  have hvis:=visit_ok (TB:=TB) hG hcG hrG (List.replicate g.N false) [] (-1) 0 [g.s0] (by simp) hN (by simp) (by intro n hn;simp at hn;subst hn;exact hg.s0)
  (refine popO rfl ?_;refine popW ?_ rfl (by rfl);refine n_call [2,1,0,4,3] rfl rfl hvis ⟨rfl,by decide,by decide⟩ rfl (by simp[cX,zC,hΓ,visS,hrG,spliceC,eC]) ?_;rintro x0 σ1 nx1 ⟨rfl,q,hq,rfl⟩ _)
  generalize hV:vis g.goal (List.replicate g.N false) [g.s0]=v at *
  obtain ⟨vse,vfr,vfd⟩:=v
  simp only
  refine lexE ?_
  refine AWp.names [2,1,0,4,if q=4 then 3 else 5] [(2,eInts g.ls),(3,.o (.fn gN capsN)),(12,.o (.ptr 0 1 0 0)),(13,.o (.ptr 3 1 0 0)),(14,.o (.fn 138 [.ptr 0 1 0 0,.ptr 2 1 0 0,.ptr 3 1 0 0])),(26,eB vfd)] (visS g.N gG capsG vse 4 (stepsV [] (-1) 0 vfr)) (by simp [hΓ]) (by rcases hq with ⟨rfl,rfl⟩|⟨rfl,rfl⟩<;>decide)
    (by rcases hq with ⟨rfl,rfl⟩|⟨rfl,rfl⟩<;>simp[cX,zC,hΓ,hrN,eC]) (by rcases hq with ⟨rfl,rfl⟩|⟨rfl,rfl⟩<;>simp[cX,zC,hΓ,visS,hrG,Store.ren,killL,nmo,eC]) ?_
  (refine aC rfl ?_ ?_<;>intro hb<;>cases hb)
  · -- the start is a goal
    have hgs:g.goal g.s0=true:=by
      have h1:vfr.any g.goal=true:=hv0.fd.symm
      obtain ⟨x,hx,hgx⟩:=List.any_eq_true.1 h1
      have h2:=((hv0.fr x).1 hx).1
      simp at h2;subst h2;exact hgx
    have hrr:=IsAns.unique hr (IsAns.start hgs)
    subst hrr
    (repeat first|refine sN rfl ?_|((first|refine sM rfl ?_ ?_|refine s4 rfl ‹_› rfl ?_ ?_);first|exact tI|omega|(simp only[oZ] at *;omega))|(refine s2 rfl ?_;intro _ _hb)|(refine s3 rfl ?_ ?_<;>intro hb<;>subst hb)|refine aS ?_|refine reg (by kernel_rfl) ?_|refine lexE ?_|refine rD (by kernel_rfl) (by kernel_rfl) ?_)
    refine AWp.ret ⟨_,rfl,rfl⟩
  refine AWp.skip ?_
  obtain ⟨hfr,hF0⟩:=FI.init hg hv0 rfl
  simp only at hfr hF0
  rw [hfr]
  (repeat first|refine sN rfl ?_|((first|refine sM rfl ?_ ?_|refine s4 rfl ‹_› rfl ?_ ?_);first|exact tI|omega|(simp only[oZ] at *;omega))|(refine s2 rfl ?_;intro _ _hb)|(refine s3 rfl ?_ ?_<;>intro hb<;>subst hb)|refine aS ?_|refine reg (by kernel_rfl) ?_|refine lexE ?_|refine rD (by kernel_rfl) (by kernel_rfl) ?_)
  refine AWp.block ?_
  refine AWp.loopL (α:={x:Nat×List Bool×List Stp×List (List Int) // FI g x.2.1 x.2.2.1 x.2.2.2 x.1 0}) (fun ⟨⟨i,seen,steps,ws⟩,hF⟩=>[(2,eInts g.ls),(3,.o (.fn gN capsN)),(12,.o (.ptr 0 1 0 0)),(13,.o (.ptr 3 1 0 0)),(14,.o (.fn 138 [.ptr 0 1 0 0,.ptr 2 1 0 0,.ptr 3 1 0 0])),(15,eI .i64 i)]) (fun ⟨⟨i,seen,steps,ws⟩,hF⟩=>visS g.N gG capsG seen 4 steps) 5 (fun ⟨⟨i,seen,steps,ws⟩,hF⟩=>g.N - i) (⟨(0,vse,[⟨-1,0,[g.s0]⟩],[[]]),hF0⟩) [0,1,2,3,4] (rl3 hΓ rfl rfl) (by (repeat' first|exact tI|rfl|refine And.intro ?_ ?_)<;>simp[cX,zC,hΓ,visS,hrG,hrN,stepsV]) ?_;rintro ⟨⟨i,seen,steps,ws⟩,hF⟩;(try dsimp only)
  simp only at hF
  have hlN:=hF.lenN
  (repeat first|refine sN rfl ?_|((first|refine sM rfl ?_ ?_|refine s4 rfl ‹_› rfl ?_ ?_);first|exact tI|omega|(simp only[oZ] at *;omega))|(refine s2 rfl ?_;intro _ _hb)|(refine s3 rfl ?_ ?_<;>intro hb<;>subst hb)|refine aS ?_|refine reg (by kernel_rfl) ?_|refine lexE ?_|refine rD (by kernel_rfl) (by kernel_rfl) ?_)
  (refine aC rfl ?_ ?_<;>intro hb<;>cases hb)
  · have hi : i < steps.length:=by first|omega|(simp only[oZ] at *;omega)
    obtain ⟨s,hs⟩:=get_some hi
    have hs':(steps.map stRowC)[0+((i:Nat):Int).toNat]? = some (stRowC s):=get_mapA hs
    obtain ⟨wi,hwi⟩:∃wi,ws[i]? = some wi:=get_some (by rw [hF.wlen];exact hi)
    refine AWp.skip ?_
    refine AWp.seq (AWp.block ?_)
    (repeat first|refine sN rfl ?_|((first|refine sM rfl ?_ ?_|refine s4 rfl ‹_› rfl ?_ ?_);first|exact tI|omega|(simp only[oZ] at *;omega))|(refine s2 rfl ?_;intro _ _hb)|(refine s3 rfl ?_ ?_<;>intro hb<;>subst hb)|refine aS ?_|refine reg (by kernel_rfl) ?_|refine lexE ?_|refine rD (by kernel_rfl) (by kernel_rfl) ?_)
    refine AWp.block ?_
    refine AWp.loopL (α:={x:Nat×List Bool×List Stp×List (List Int) // x.1≤g.ls.length∧FI g x.2.1 x.2.2.1 x.2.2.2 i x.1∧i < x.2.2.1.length}) (fun ⟨⟨j,sen2,st2,ws2⟩,hP⟩=>[(2,eInts g.ls),(3,.o (.fn gN capsN)),(12,.o (.ptr 0 1 0 0)),(13,.o (.ptr 3 1 0 0)),(14,.o (.fn 138 [.ptr 0 1 0 0,.ptr 2 1 0 0,.ptr 3 1 0 0])),(15,eI .i64 i),(33,eInts g.ls),(34,eI .i64 g.ls.length),(35,eI .i64 j)]) (fun ⟨⟨j,sen2,st2,ws2⟩,hP⟩=>visS g.N gG capsG sen2 4 st2) 5 (fun ⟨⟨j,sen2,st2,ws2⟩,hP⟩=>g.ls.length - j) (⟨(0,seen,steps,ws),by simp,hF,hi⟩) [0,1,2,3,4] (rl3 hΓ rfl rfl) (by (repeat' first|exact tI|rfl|refine And.intro ?_ ?_)<;>simp[cX,zC,hΓ,visS,hrG,hrN]) ?_;rintro ⟨⟨j,sen2,st2,ws2⟩,hP⟩;(try dsimp only)
    clear hs hs' hwi hF hlN hi
    obtain ⟨hj,hF,hi⟩:=hP
    simp only at hj hF hi
    have hlN:=hF.lenN
    (repeat first|refine sN rfl ?_|((first|refine sM rfl ?_ ?_|refine s4 rfl ‹_› rfl ?_ ?_);first|exact tI|omega|(simp only[oZ] at *;omega))|(refine s2 rfl ?_;intro _ _hb)|(refine s3 rfl ?_ ?_<;>intro hb<;>subst hb)|refine aS ?_|refine reg (by kernel_rfl) ?_|refine lexE ?_|refine rD (by kernel_rfl) (by kernel_rfl) ?_)
    (refine aC rfl ?_ ?_<;>intro hb<;>cases hb)
    · have hjl:j < g.ls.length:=by first|omega|(simp only[oZ] at *;omega)
      obtain ⟨l,hl⟩:=get_some (l:=g.ls) (k:=j) hjl
      have hl':=get_map (g:=iRow) hl
      have hlm:=List.mem_of_getElem? hl
      have hlb:=hls l hlm
      obtain ⟨s,hs⟩:=get_some hi
      have hs':(st2.map stRowC)[0+((i:Nat):Int).toNat]? = some (stRowC s):=get_mapA hs
      obtain ⟨wi,hwi⟩:∃wi,ws2[i]? = some wi:=get_some (by rw [hF.wlen];exact hi)
      have hsin:=hF.inn s (List.mem_of_getElem? hs)
      have hsnd:=nodup_len _ _ (hF.nd s (List.mem_of_getElem? hs)) hsin
      refine AWp.skip ?_
      refine AWp.seq (AWp.block ?_)
      (repeat first|refine sN rfl ?_|((first|refine sM rfl ?_ ?_|refine s4 rfl ‹_› rfl ?_ ?_);first|exact tI|omega|(simp only[oZ] at *;omega))|(refine s2 rfl ?_;intro _ _hb)|(refine s3 rfl ?_ ?_<;>intro hb<;>subst hb)|refine aS ?_|refine reg (by kernel_rfl) ?_|refine lexE ?_|refine rD (by kernel_rfl) (by kernel_rfl) ?_)
      (refine popO rfl ?_;refine popW ?_ rfl (by rfl);refine n_nil 1 3 ?_)
      (repeat first|refine sN rfl ?_|((first|refine sM rfl ?_ ?_|refine s4 rfl ‹_› rfl ?_ ?_);first|exact tI|omega|(simp only[oZ] at *;omega))|(refine s2 rfl ?_;intro _ _hb)|(refine s3 rfl ?_ ?_<;>intro hb<;>subst hb)|refine aS ?_|refine reg (by kernel_rfl) ?_|refine lexE ?_|refine rD (by kernel_rfl) (by kernel_rfl) ?_)
      refine AWp.block ?_
      refine AWp.loopL (α:={m:Nat // m≤s.ns.length}) (fun ⟨m,hm⟩=>[(2,eInts g.ls),(3,.o (.fn gN capsN)),(12,.o (.ptr 0 1 0 0)),(13,.o (.ptr 3 1 0 0)),(14,.o (.fn 138 [.ptr 0 1 0 0,.ptr 2 1 0 0,.ptr 3 1 0 0])),(15,eI .i64 i),(33,eInts g.ls),(34,eI .i64 g.ls.length),(35,eI .i64 j),(17,eI .i64 l),(18,.o (.arr 5 1 0 ((s.ns.take m).flatMap fun n=>g.succ n l).length)),(43,eInts s.ns),(44,eI .i64 s.ns.length),(45,eI .i64 m)]) (fun ⟨m,hm⟩=>visS g.N gG capsG sen2 4 st2++[(5,.cells 3 1 (((s.ns.take m).flatMap fun n=>g.succ n l).map iRowC))]) 6 (fun ⟨m,hm⟩=>s.ns.length - m) (⟨0,by omega⟩) [0,1,2,3,4,5] (rl3 hΓ rfl rfl) (by (repeat' first|exact tI|rfl|refine And.intro ?_ ?_)<;>simp[cX,zC,hΓ,visS,hrG,hrN]) ?_;rintro ⟨m,hm⟩;(try dsimp only)
      (repeat first|refine sN rfl ?_|((first|refine sM rfl ?_ ?_|refine s4 rfl ‹_› rfl ?_ ?_);first|exact tI|omega|(simp only[oZ] at *;omega))|(refine s2 rfl ?_;intro _ _hb)|(refine s3 rfl ?_ ?_<;>intro hb<;>subst hb)|refine aS ?_|refine reg (by kernel_rfl) ?_|refine lexE ?_|refine rD (by kernel_rfl) (by kernel_rfl) ?_)
      (refine aC rfl ?_ ?_<;>intro hb<;>cases hb)
      · obtain ⟨n,hn⟩:=get_some (l:=s.ns) (k:=m) (by first|omega|(simp only[oZ] at *;omega))
        have hn':=get_map (g:=iRow) hn
        have hnb:=hsin n (List.mem_of_getElem? hn)
        have hfm:(s.ns.take (m+1)).flatMap (fun n=>g.succ n l)=(s.ns.take m).flatMap (fun n=>g.succ n l)++g.succ n l:=by
          rw [List.take_add_one,hn];simp
        have hol:((s.ns.take m).flatMap fun n=>g.succ n l).length≤1099511627776:=by
          have h2:=flat_len (s.ns.take m) (fun n=>g.succ n l) 1048576 (fun x hx=>by have:=hsl x l (hsin x (List.mem_of_mem_take hx)) hlm;omega)
          have h3:(s.ns.take m).length≤1048576:=by simp;omega
          omega
        have hnx:=hNx n l _ hnb hlm hol
        generalize (s.ns.take m).flatMap (fun n=>g.succ n l)=pre at *
        refine AWp.skip ?_
        refine AWp.seq (AWp.block ?_)
        (repeat first|refine sN rfl ?_|((first|refine sM rfl ?_ ?_|refine s4 rfl ‹_› rfl ?_ ?_);first|exact tI|omega|(simp only[oZ] at *;omega))|(refine s2 rfl ?_;intro _ _hb)|(refine s3 rfl ?_ ?_<;>intro hb<;>subst hb)|refine aS ?_|refine reg (by kernel_rfl) ?_|refine lexE ?_|refine rD (by kernel_rfl) (by kernel_rfl) ?_)
        (refine popO rfl ?_;refine popW ?_ rfl (by rfl);refine n_call [5] rfl rfl hnx ⟨rfl,by decide,by decide⟩ (by rw [renEs_app,renEs_caps,hrN];rfl) (by simp[cX,zC,hΓ]) ?_;rintro x0 σ1 nx1 ⟨rfl,rfl,rfl⟩ _)
        (repeat first|refine sN rfl ?_|((first|refine sM rfl ?_ ?_|refine s4 rfl ‹_› rfl ?_ ?_);first|exact tI|omega|(simp only[oZ] at *;omega))|(refine s2 rfl ?_;intro _ _hb)|(refine s3 rfl ?_ ?_<;>intro hb<;>subst hb)|refine aS ?_|refine reg (by kernel_rfl) ?_|refine lexE ?_|refine rD (by kernel_rfl) (by kernel_rfl) ?_)
        refine ⟨⟨m+1,by first|omega|(simp only[oZ] at *;omega)⟩,by dsimp only;(first|omega|(simp only[oZ] at *;omega)),[0,1,2,3,4,6],?_⟩
        simp[cX,zC,hΓ,visS,hrG,hrN,Store.ren,killL,nmo,hfm]
      · obtain rfl:m=s.ns.length:=by first|omega|(simp only[oZ] at *;omega)
        rw [List.take_length]
        have hR:∀y,y∈s.ns.flatMap (fun n=>g.succ n l)↔∃n∈s.ns,y∈g.succ n l:=fun y=>List.mem_flatMap
        generalize s.ns.flatMap (fun n=>g.succ n l)=R at *
        have hRin:∀y∈R,0≤y∧y < g.N:=fun y hy=>by
          obtain ⟨n,hn,hy⟩:=(hR y).1 hy
          exact hg.inn n (hsin n hn) l hlm y hy
        have hv:=vis_ok (goal:=g.goal) hF.slen hRin
        have hvis:=visit_ok (TB:=TB) hG hcG hrG sen2 st2 i l R hF.slen hN (by omega) hRin
        generalize hV2:vis g.goal sen2 R=v2 at *
        refine AWp.exit ?_
        refine AWp.freeze [5] [(2,eInts g.ls),(3,.o (.fn gN capsN)),(12,.o (.ptr 0 1 0 0)),(13,.o (.ptr 3 1 0 0)),(14,.o (.fn 138 [.ptr 0 1 0 0,.ptr 2 1 0 0,.ptr 3 1 0 0])),(15,eI .i64 i),(33,eInts g.ls),(34,eI .i64 g.ls.length),(35,eI .i64 j),(17,eI .i64 l),(18,eInts R)] ⟨⟨_,rfl,.keep⟩,⟨_,rfl,.keep⟩,⟨_,rfl,.keep⟩,⟨_,rfl,.keep⟩,⟨_,rfl,.keep⟩,⟨_,rfl,.keep⟩,⟨_,rfl,.keep⟩,⟨_,rfl,.keep⟩,⟨_,rfl,.keep⟩,⟨_,rfl,.keep⟩,⟨_,rfl,.o (.full (by simp) rfl (by simp [Function.comp_def]) (by simp))⟩,trivial⟩ ?_
        (repeat first|refine sN rfl ?_|((first|refine sM rfl ?_ ?_|refine s4 rfl ‹_› rfl ?_ ?_);first|exact tI|omega|(simp only[oZ] at *;omega))|(refine s2 rfl ?_;intro _ _hb)|(refine s3 rfl ?_ ?_<;>intro hb<;>subst hb)|refine aS ?_|refine reg (by kernel_rfl) ?_|refine lexE ?_|refine rD (by kernel_rfl) (by kernel_rfl) ?_)
        (refine popO rfl ?_;refine popW ?_ rfl (by rfl);refine n_call [0,1,2,3,4] rfl rfl hvis ⟨rfl,by decide,by decide⟩ rfl (by simp[cX,zC,hΓ,visS,hrG,killL]) ?_;rintro x0 σ1 nx1 ⟨rfl,q,hq,rfl⟩ _)
        obtain ⟨vse,vfr,vfd⟩:=v2
        simp only
        refine lexE ?_
        refine AWp.names [0,1,2,3,if q=4 then 4 else 6] [(2,eInts g.ls),(3,.o (.fn gN capsN)),(12,.o (.ptr 0 1 0 0)),(13,.o (.ptr 3 1 0 0)),(14,.o (.fn 138 [.ptr 0 1 0 0,.ptr 2 1 0 0,.ptr 3 1 0 0])),(15,eI .i64 i),(33,eInts g.ls),(34,eI .i64 g.ls.length),(35,eI .i64 j),(59,eB vfd)] (visS g.N gG capsG vse 4 (stepsV st2 i l vfr)) (by simp [hΓ]) (by rcases hq with ⟨rfl,rfl⟩|⟨rfl,rfl⟩<;>decide)
          (by rcases hq with ⟨rfl,rfl⟩|⟨rfl,rfl⟩<;>simp[cX,zC,hΓ,hrN]) (by rcases hq with ⟨rfl,rfl⟩|⟨rfl,rfl⟩<;>simp[cX,zC,hΓ,visS,hrG,Store.ren,killL,nmo]) ?_
        (refine aC rfl ?_ ?_<;>intro hb<;>cases hb)
        · obtain ⟨x,hx,hgx⟩:∃x∈vfr,g.goal x=true:=by
            have h1:vfr.any g.goal=true:=hv.fd.symm
            exact List.any_eq_true.1 h1
          have hxR:=((hv.fr x).1 hx).1
          obtain ⟨n,hn,hxn⟩:=(hR x).1 hxR
          have hans:=IsAns.found hg hF hwi hl hs hn hxn hgx
          have hrr:=IsAns.unique hr hans
          subst hrr
          have hne:vfr≠[]:=fun e=>by rw [e] at hx;cases hx
          have hsv:stepsV st2 i l vfr=st2++[⟨i,l,vfr⟩]:=by unfold stepsV;rw [if_neg hne]
          rw [hsv]
          have hch:=hF.toChain.app (ns:=vfr) hwi hlm
          have hpw:=pathWord_ok (TB:=TB) hch hls (w:=wi++[l]) (by simp;omega) (by simp [hF.wlen])
          generalize hst3:st2++[⟨(i:Int),l,vfr⟩]=st3 at *
          (repeat first|refine sN rfl ?_|((first|refine sM rfl ?_ ?_|refine s4 rfl ‹_› rfl ?_ ?_);first|exact tI|omega|(simp only[oZ] at *;omega))|(refine s2 rfl ?_;intro _ _hb)|(refine popO rfl ?_;refine gA rfl ?_;first|refine gQ (q_callB rfl rfl ((.cons (.o (.full rfl (by simp [Function.comp_def]) (by simp))) .nil)) (hpw) rfl) rfl ?_)|(refine s3 rfl ?_ ?_<;>intro hb<;>subst hb)|refine aS ?_|refine reg (by kernel_rfl) ?_|refine lexE ?_|refine rD (by kernel_rfl) (by kernel_rfl) ?_)
          refine AWp.ret ⟨_,rfl,rfl⟩
        · have hF2:=hF.visit hg hwi hl hs hR hv rfl
          have hlen2:i < (stepsV st2 i l vfr).length:=by unfold stepsV;split<;>(try simp)<;>omega
          refine AWp.skip ?_
          (repeat first|refine sN rfl ?_|((first|refine sM rfl ?_ ?_|refine s4 rfl ‹_› rfl ?_ ?_);first|exact tI|omega|(simp only[oZ] at *;omega))|(refine s2 rfl ?_;intro _ _hb)|(refine s3 rfl ?_ ?_<;>intro hb<;>subst hb)|refine aS ?_|refine reg (by kernel_rfl) ?_|refine lexE ?_|refine rD (by kernel_rfl) (by kernel_rfl) ?_)
          refine ⟨⟨(j+1,vse,stepsV st2 i l vfr,wsV ws2 (wi++[l]) vfr),hjl,hF2,hlen2⟩,by dsimp only;omega,[0,1,2,3,4],?_⟩
          simp[cX,zC,hΓ,visS,hrG,hrN]
    · obtain rfl:j=g.ls.length:=by first|omega|(simp only[oZ] at *;omega)
      have hF2:=hF.nextI hi
      refine AWp.exit ?_
      (repeat first|refine sN rfl ?_|((first|refine sM rfl ?_ ?_|refine s4 rfl ‹_› rfl ?_ ?_);first|exact tI|omega|(simp only[oZ] at *;omega))|(refine s2 rfl ?_;intro _ _hb)|(refine s3 rfl ?_ ?_<;>intro hb<;>subst hb)|refine aS ?_|refine reg (by kernel_rfl) ?_|refine lexE ?_|refine rD (by kernel_rfl) (by kernel_rfl) ?_)
      refine ⟨⟨(i+1,sen2,st2,ws2),hF2⟩,by dsimp only;omega,[0,1,2,3,4],?_⟩
      simp[cX,zC,hΓ,visS,hrG,hrN]
  · have hle:=hF.le
    obtain rfl:i=steps.length:=by first|omega|(simp only[oZ] at *;omega)
    have hans:=IsAns.dry hg hF
    have hrr:=IsAns.unique hr hans
    subst hrr
    refine AWp.exit ?_
    (repeat first|refine sN rfl ?_|((first|refine sM rfl ?_ ?_|refine s4 rfl ‹_› rfl ?_ ?_);first|exact tI|omega|(simp only[oZ] at *;omega))|(refine s2 rfl ?_;intro _ _hb)|(refine s3 rfl ?_ ?_<;>intro hb<;>subst hb)|refine aS ?_|refine reg (by kernel_rfl) ?_|refine lexE ?_|refine rD (by kernel_rfl) (by kernel_rfl) ?_)
    refine AWp.ret ⟨_,rfl,rfl⟩
end Go.Am
namespace Go.Am
open Go Go.Proofs
set_option maxHeartbeats 1000000
attribute [local irreducible] QOp AOp Lex LexO AWp Spec
variable {TB:Amb}
theorem tbl_get {a:Aut} {q:Nat} (h:q < a.nx.length):(tblD a)[q]? = some (rowD fun l=>goA a q l):=rowsF_get (g:=fun q=>rowD fun l=>goA a q l) h
theorem rowD_get {h:Nat→Int} {l:Int} (h0:0≤l) (h1:l < 6):((rowD h).drop (l.toNat*1))[0]? = some (iD (h l.toNat)):=by
  rw [List.getElem?_drop]
  have h2:l.toNat*1+0=l.toNat:=by omega
  have h3:l.toNat < 6:=by omega
  rw [h2]
  simp [rowD,h3]
end Go.Am
namespace Go.Am
open Go Go.Proofs
set_option maxHeartbeats 1000000
attribute [local irreducible] QOp AOp Lex LexO AWp Spec
variable {TB:Amb}
end Go.Am
namespace Go.Am
open Go Go.Proofs
set_option maxHeartbeats 1000000
attribute [local irreducible] QOp AOp Lex LexO AWp Spec
variable {TB:Amb}
end Go.Am
namespace Go.Am
open Go Go.Proofs
set_option maxHeartbeats 1000000
attribute [local irreducible] QOp AOp Lex LexO AWp Spec
variable {TB:Amb}
end Go.Am
namespace Go.Am
open Go
theorem reach_congr {g g':Gr} (hg:GrOk g) (hls:g.ls=g'.ls) (hs:∀x:Int,0≤x∧x < g.N→∀l∈g.ls,g.succ x l=g'.succ x l):∀ {w:List Int} {a x:Int},over g w→(0≤a∧a < g.N)→(reach g w a x↔reach g' w a x)
  | [],a,x,_,_=>Iff.rfl
  | l :: w,a,x,ho,ha=>by
    have hl:=ho l (by simp)
    simp only [reach,←hs a ha l hl]
    constructor
    · rintro ⟨y,hy,h⟩
      exact ⟨y,hy,(reach_congr hg hls hs (fun m hm=>ho m (by simp [hm])) (hg.inn a ha l hl y hy)).1 h⟩
    · rintro ⟨y,hy,h⟩
      exact ⟨y,hy,(reach_congr hg hls hs (fun m hm=>ho m (by simp [hm])) (hg.inn a ha l hl y hy)).2 h⟩
theorem IsAns.congr {g g':Gr} (hg:GrOk g) (hls:g.ls=g'.ls) (h0:g.s0=g'.s0) (hs:∀x:Int,0≤x∧x < g.N→∀l∈g.ls,g.succ x l=g'.succ x l) (hgo:∀x:Int,0≤x∧x < g.N→g.goal x=g'.goal x) {r:Option (List Int)} (h:IsAns g r):IsAns g' r:=by
  have hov:∀w,over g' w↔over g w:=fun w=>by unfold over;rw [hls]
  have hh:∀w,over g w→(hit g' w↔hit g w):=fun w hw=>by
    unfold hit
    rw [←h0]
    constructor
    · rintro ⟨x,hx,hgx⟩
      have hx:=(reach_congr hg hls hs hw hg.s0).2 hx
      exact ⟨x,hx,by rw [hgo x (reach_in hg hw hg.s0 hx)];exact hgx⟩
    · rintro ⟨x,hx,hgx⟩
      exact ⟨x,(reach_congr hg hls hs hw hg.s0).1 hx,by rw [←hgo x (reach_in hg hw hg.s0 hx)];exact hgx⟩
  cases r with
  | none=>exact fun u hu hx=>h u ((hov u).1 hu) ((hh u ((hov u).1 hu)).1 hx)
  | some w=>
    obtain ⟨h1,h2,h3⟩:=h
    exact ⟨(hov w).2 h1,(hh w h1).2 h2,fun u hu hx=>h3 u ((hov u).1 hu) ((hh u ((hov u).1 hu)).1 hx)⟩
theorem lowN_app {zs ws:List Int} {cs ds:List (List Int)} (h:ChOk zs cs):lowN (zs++ws) (cs++ds)=(lowN zs cs).flatMap fun o=>(lowN ws ds).map fun r=>o*prodI ws+r:=by
  induction h with
  | nil=>simp [lowN]
  | @cons z c zs cs _ _ _ ih=>
    simp only [List.cons_append,lowN,ih]
    rw [List.flatMap_assoc]
    congr 1
    funext q
    rw [List.map_flatMap,List.flatMap_map]
    congr 1
    funext o
    rw [List.map_map]
    congr 1
    funext r
    simp only [Function.comp_def,prodI_app]
    rw [Int.add_mul,Int.mul_assoc];omega
theorem sizes_split (l:List Sys) (aus:List Aut) (st:List Int) (ls kd gl:Int):sizesN ⟨l,aus,st,ls,kd,gl⟩=l.map (·.st)++aus.map (fun a=>(a.nx.length:Int)):=rfl
theorem nextsN_split {l:List Sys} {aus:List Aut} {st:List Int} {ls kd gl:Int} (hn:NetOk ⟨l,aus,st,ls,kd,gl⟩) {node letter:Int} (h0:0≤letter) (h1:letter < 6) :
    nextsN ⟨l,aus,st,ls,kd,gl⟩ (sizesN ⟨l,aus,st,ls,kd,gl⟩) (decN (sizesN ⟨l,aus,st,ls,kd,gl⟩) node) letter =
      (lowN (l.map (·.st)) (csP l (node / prodI (aus.map fun a=>(a.nx.length:Int))) letter)).flatMap fun o=>(lowN (aus.map fun a=>(a.nx.length:Int)) (aus.zipWith (fun a q=>[goA a q.toNat letter]) (decN (aus.map fun a=>(a.nx.length:Int)) node))).map fun r=>o*prodI (aus.map fun a=>(a.nx.length:Int))+r:=by
  have hp:∀w∈aus.map (fun a=>(a.nx.length:Int)),0 < w:=fun w hw=>by
    obtain ⟨a,ha,rfl⟩:=List.mem_map.1 hw
    have:=autOk_head (hn.au a ha);omega
  unfold nextsN
  rw [mixN_low0 (choL_ok hn (dec_fits hn node) h0 h1),sizes_split,decN_app _ _ _ hp]
  have hch:=csP_ok hn.ps hn.np h0 h1 (node / prodI (aus.map fun a=>(a.nx.length:Int)))
  have e:choL ⟨l,aus,st,ls,kd,gl⟩ (decN (l.map (·.st)) (node / prodI (aus.map fun a=>(a.nx.length:Int)))++decN (aus.map fun a=>(a.nx.length:Int)) node) letter=csP l (node / prodI (aus.map fun a=>(a.nx.length:Int))) letter++aus.zipWith (fun a q=>[goA a q.toNat letter]) (decN (aus.map fun a=>(a.nx.length:Int)) node):=by
    unfold choL csP
    have hl:(decN (l.map (·.st)) (node / prodI (aus.map fun a=>(a.nx.length:Int)))).length=l.length:=by rw [decN_len];simp
    simp only
    rw [List.drop_append_of_le_length (by omega),List.drop_of_length_le (by omega),List.nil_append]
    congr 1
    rw [zipWith_take,List.take_append_of_le_length (by omega),List.take_of_length_le (by omega)]
  rw [e,lowN_app hch]
theorem encN_zero:∀(zs:List Int) (k:Nat),encN zs (List.replicate k 0) 0=0
  | [],k=>by simp [encN]
  | z::zs,0=>by simp [encN]
  | z::zs,k+1=>by
    rw [List.replicate_succ]
    simp only [encN,Int.zero_mul,Int.add_zero]
    exact encN_zero zs k
end Go.Am
namespace Go.Am
open Go
set_option linter.unusedVariables false
theorem iAnd_nat {a b:Nat} (ha:a < 2 ^ 62) (hb:b < 2 ^ 62):iAnd .i64 a b=((a &&& b:Nat):Int):=by
  have h0:a &&& b≤a:=Nat.and_le_left
  unfold iAnd
  have h1:(BitVec.ofInt IntKind.i64.bits (a:Int) &&& BitVec.ofInt IntKind.i64.bits (b:Int)).toNat=a &&& b:=by
    have e:IntKind.i64.bits=64:=rfl
    rw [e]
    simp only [BitVec.toNat_and,BitVec.ofInt_natCast,BitVec.toNat_ofNat]
    rw [Nat.mod_eq_of_lt (by omega),Nat.mod_eq_of_lt (by omega)]
  rw [h1]
  exact IntWalk.i64_in _ (by omega)
theorem fdiv_nat (s n:Nat):((s:Nat):Int).fdiv (2 ^ n)=((s / 2 ^ n:Nat):Int):=by
  have h:(0:Int)≤2 ^ n:=Int.le_of_lt (Int.pow_pos (by omega))
  rw [Int.fdiv_eq_ediv_of_nonneg _ h]
  push_cast
  rfl
theorem bitB_nat {s n:Nat} (hs:s < 2 ^ 62) (hn:n < 64):bitB (s:Nat) n=s.testBit n:=by
  unfold bitB
  have e:min n 64=n:=by omega
  rw [e,fdiv_nat]
  have h1:s / 2 ^ n≤s:=Nat.div_le_self _ _
  have h2:=iAnd_nat (a:=s / 2 ^ n) (b:=1) (by omega) (by omega)
  rw [show ((1:Nat):Int)=1 from rfl] at h2
  rw [h2,Nat.testBit_eq_decide_div_mod_eq,Nat.and_one_is_mod]
  congr 1
  rw [eq_iff_iff]
  omega
theorem sub_iff {s a:Nat}:s &&& a=s↔∀n,s.testBit n=true→a.testBit n=true:=by
  constructor
  · intro h n hn
    have:=congrArg (·.testBit n) h
    simp only [Nat.testBit_and,hn,Bool.true_and] at this
    exact this
  · intro h
    apply Nat.eq_of_testBit_eq
    intro n
    rw [Nat.testBit_and]
    cases hs:s.testBit n
    · rfl
    · rw [h n hs];rfl
abbrev Wd:=List UInt8
def chOk (c:UInt8):Bool:=decide (97≤c.toNat∧c.toNat < 103)
def wordOk (w:Wd):Bool:=decide (w.length≤50000) && w.all chOk
def setW (w:Wd):Nat:=w.foldl (fun s c=>s ||| 2 ^ (c.toNat - 97)) 0
def inAl (al:Int) (c:UInt8):Bool:=chOk c && bitB al (c.toNat - 97)
def within (w:Wd) (al:Int):Bool:=decide (w.length≤50000) && (alphB al && w.all (inAl al))
theorem fold_bit (n:Nat):∀(w:Wd) (s:Nat),(w.foldl (fun s c=>s ||| 2 ^ (c.toNat - 97)) s).testBit n=(s.testBit n || w.any fun c=>decide (c.toNat - 97=n))
  | [],s=>by simp
  | c::w,s=>by
    rw [List.foldl_cons,fold_bit n w,Nat.testBit_or,Nat.testBit_two_pow,List.any_cons,Bool.or_assoc]
theorem setW_bit (w:Wd) (n:Nat):(setW w).testBit n=w.any fun c=>decide (c.toNat - 97=n):=by
  unfold setW;rw [fold_bit];simp
theorem setW_lt:∀ {w:Wd} {s:Nat},w.all chOk=true→s < 64→w.foldl (fun s c=>s ||| 2 ^ (c.toNat - 97)) s < 64
  | [],s,_,hs=>hs
  | c::w,s,h,hs=>by
    simp only [List.all_cons,Bool.and_eq_true] at h
    rw [List.foldl_cons]
    refine setW_lt h.2 ?_
    have h1:=h.1
    unfold chOk at h1
    simp only [decide_eq_true_eq] at h1
    have h2:2 ^ (c.toNat - 97) < 2 ^ 6:=Nat.pow_lt_pow_right (by omega) (by omega)
    exact Nat.or_lt_two_pow (n:=6) hs h2
theorem setW_in {w:Wd} {al:Int} (hw:w.all chOk=true) (ha:alphB al=true):decide (iAnd .i64 (setW w:Nat) al=(setW w:Nat))=w.all (inAl al):=by
  have hs:setW w < 64:=setW_lt hw (by omega)
  unfold alphB at ha
  simp only [decide_eq_true_eq] at ha
  obtain ⟨a,rfl⟩:∃a:Nat,al=a:=⟨al.toNat,by omega⟩
  rw [iAnd_nat (by omega) (by omega)]
  rw [Bool.eq_iff_iff,decide_eq_true_eq,List.all_eq_true]
  have h1:((setW w &&& a:Nat):Int)=(setW w:Nat)↔setW w &&& a=setW w:=by omega
  rw [h1,sub_iff]
  rw [List.all_eq_true] at hw
  constructor
  · intro h c hc
    have h2:=hw c hc
    unfold inAl
    rw [h2,Bool.true_and]
    unfold chOk at h2
    simp only [decide_eq_true_eq] at h2
    rw [bitB_nat (by omega) (by omega)]
    refine h _ ?_
    rw [setW_bit,List.any_eq_true]
    exact ⟨c,hc,by simp⟩
  · intro h n hn
    rw [setW_bit,List.any_eq_true] at hn
    obtain ⟨c,hc,hcn⟩:=hn
    simp only [decide_eq_true_eq] at hcn
    have h2:=hw c hc
    have h3:=h c hc
    unfold inAl at h3
    rw [h2,Bool.true_and] at h3
    unfold chOk at h2
    simp only [decide_eq_true_eq] at h2
    rw [bitB_nat (by omega) (by omega),hcn] at h3
    exact h3
theorem within_all {w:Wd} {al:Int} (h:w.all (inAl al)=true):w.all chOk=true:=by
  rw [List.all_eq_true] at *
  intro c hc
  have:=h c hc
  unfold inAl at this
  simp only [Bool.and_eq_true] at this
  exact this.1
end Go.Am
