/-
  Wrong words show new columns, and these open the table.
-/
import Derived.Test.YtainaphkaklkmaaGreatDoorPart10
import Derived.Test.YtainaphkaklkmaaGreatDoorPart17
import Derived.Test.YtainaphkaklkmaaGreatDoorPart15
import Derived.Test.YtainaphkaklkmaaGreatDoorPart8
import Derived.Test.YtainaphkaklkmaaGreatDoorPart9
set_option linter.constructorNameAsVariable false
set_option linter.unusedSimpArgs false
set_option linter.unusedVariables false
namespace Go.Am
set_option linter.unusedVariables false
theorem marks_app (L:W→Bool) (cols:List W) (v w:W):marks L (cols++[v]) w=marks L cols w++[mkB (L (w++v))]:=by simp [marks]
theorem Closed.row {L:W→Bool} {ls:List UInt8} {t:Tab} (h:Closed L ls t) {i j:Nat} {r s:W} (hi:t.rows[i]? = some r) (hj:t.rows[j]? = some s) (he:marks L t.cols r=marks L t.cols s):i=j:=by
  have h1:(rowsM L t)[i]? = some (marks L t.cols r):=by simp [rowsM,hi]
  have h2:(rowsM L t)[j]? = some (marks L t.cols r):=by simp [rowsM,hj,he]
  have l1:=(List.getElem?_eq_some_iff.1 h1).1
  have l2:=(List.getElem?_eq_some_iff.1 h2).1
  have e1:=(List.getElem?_eq_some_iff.1 h1).2
  have e2:=(List.getElem?_eq_some_iff.1 h2).2
  have hp:=List.pairwise_iff_getElem.1 h.nd
  rcases Nat.lt_trichotomy i j with h3|h3|h3
  · exact absurd (e1.trans e2.symm) (hp i j l1 l2 h3)
  · exact h3
  · exact absurd (e2.trans e1.symm) (hp j i l2 l1 h3)
structure Split (L:W→Bool) (ls:List UInt8) (t:Tab) (u v:W):Prop where
  suf:∃p,p≠[]∧u=p++v
  new:v∉t.cols
  opens:∃r∈t.rows,∃c∈ls,marks L (t.cols++[v]) (r++[c])∉rowsM L ⟨t.rows,t.cols++[v]⟩
theorem split_ok {L:W→Bool} {ls:List UInt8} {t:Tab} (h:Closed L ls t) (b:Bool):∀(u:W) (i:Nat) (r:W),wordOn ls u→t.rows[i]? = some r→L (r++u)=b→L (t.rows.getD (runM L t i u) [])≠b→∃v,splitAt L t b i u=some v∧Split L ls t u v
  | [],i,r,_,hi,hb,hn=>by
    have h1:t.rows.getD i []=r:=by simp [hi]
    rw [List.append_nil] at hb
    exact absurd (by show L (t.rows.getD i [])=b;rw [h1];exact hb) hn
  | c :: v,i,r,hu,hi,hb,hn=>by
    have hc:c∈ls:=hu c (by simp)
    have hgd:t.rows.getD i []=r:=by simp [hi]
    obtain ⟨r',h1,h2⟩:=h.idx hi hc
    have hgd':t.rows.getD (idxM L t (r++[c])) []=r':=by simp [h1]
    unfold splitAt
    rw [hgd,hgd']
    by_cases hv:L (r'++v)≠b
    · rw [if_pos hv]
      have hrc:r++c::v=(r++[c])++v:=by simp
      have hne:L ((r++[c])++v)≠L (r'++v):=by rw [←hrc,hb];exact fun e=>hv e.symm
      refine ⟨v,rfl,⟨[c],by simp,rfl⟩,fun hm=>hne ((marks_eq.1 h2 v hm).symm),r,List.mem_of_getElem? hi,c,hc,fun hm=>?_⟩
      unfold rowsM at hm
      obtain ⟨s,hs,he⟩:=List.mem_map.1 hm
      simp only [marks_app] at he
      obtain ⟨e1,e2⟩:=List.append_inj' he rfl
      obtain ⟨q,hq,hqe⟩:=List.getElem_of_mem hs
      have hsq:t.rows[q]? = some s:=by rw [List.getElem?_eq_getElem hq,hqe]
      have:=h.row hsq h1 (e1.trans h2.symm)
      subst this
      rw [hsq] at h1
      injection h1 with h1
      subst h1
      have e3:mkB (L (s++v))=mkB (L (r++[c]++v)):=by simpa using e2
      exact hne (mkB_inj e3).symm
    · rw [if_neg hv]
      have hv':L (r'++v)=b:=by simpa using hv
      have hn':L (t.rows.getD (runM L t (idxM L t (r++[c])) v) [])≠b:=by
        have:runM L t i (c::v)=runM L t (idxM L t (r++[c])) v:=by show runM L t (idxM L t (t.rows.getD i []++[c])) v=_;rw [hgd]
        rwa [this] at hn
      obtain ⟨w,h3,⟨p,hp,h4⟩,h5,h6⟩:=split_ok h b v _ r' (fun x hx=>hu x (by simp [hx])) h1 hv' hn'
      exact ⟨w,h3,⟨c::p,by simp,by rw [h4];rfl⟩,h5,h6⟩
theorem TOk.col {L:W→Bool} {ls:List UInt8} {t:Tab} {v:W} (h:TOk L ls t) (hv:wordOn ls v) (hn:v∉t.cols):TOk L ls ⟨t.rows,t.cols++[v]⟩:=by
  have h0:0 < t.cols.length:=(List.getElem?_eq_some_iff.1 h.c0).1
  refine ⟨h.r0,by show (t.cols++[v])[0]? = _;rw [List.getElem?_append_left h0];exact h.c0,h.pre,h.onR,fun c hc=>?_,?_,?_⟩
  · rcases List.mem_append.1 hc with hc|hc
    · exact h.onC c hc
    · simp at hc;subst hc;exact hv
  · have hnd:=h.nd
    unfold rowsM List.Nodup at *
    rw [List.pairwise_map] at *
    refine hnd.imp fun {a b} hne he=>hne ?_
    simp only [marks_app] at he
    exact (List.append_inj' he rfl).1
  · rw [List.nodup_append]
    exact ⟨h.ndC,by simp,fun a ha b hb e=>by simp at hb;subst hb;exact hn (e ▸ ha)⟩
theorem open_of {L:W→Bool} {ls:List UInt8} {t:Tab} {r:W} {c:UInt8} (hr:r∈t.rows) (hc:c∈ls) (hm:marks L t.cols (r++[c])∉rowsM L t):openW L ls t≠none:=fun h=>hm (openW_none h r hr c hc)
end Go.Am
namespace Go.Am
set_option linter.unusedVariables false
def accM (L:W→Bool) (t:Tab) (w:W):Bool:=L (t.rows.getD (runM L t 0 w) [])
def nextT (L:W→Bool) (ls:List UInt8) (t:Tab) (w:W):Option Tab:=(splitAt L t (L w) 0 w).bind fun v=>closeN L ls 13 ⟨t.rows,t.cols++[v]⟩
structure Next (L:W→Bool) (ls:List UInt8) (t:Tab) (w v:W) (t':Tab):Prop where
  split:splitAt L t (L w) 0 w=some v
  close:closeN L ls 13 ⟨t.rows,t.cols++[v]⟩=some t'
  next:nextT L ls t w=some t'
  ok:Closed L ls t'
  cols:t'.cols=t.cols++[v]
  new:v∉t.cols
  suf:∃p,p≠[]∧w=p++v
  more:t.rows.length < t'.rows.length
  pre:t.rows <+: t'.rows
theorem TOk.closed {L:W→Bool} {ls:List UInt8} {t:Tab} (h:TOk L ls t) (ho:openW L ls t=none):Closed L ls t:=⟨h,openW_none ho⟩
theorem next_ok {L:W→Bool} {ls:List UInt8} {n:Nat} (f:Fin L ls n) (hn:n≤12) {t:Tab} (h:Closed L ls t) {w:W} (hw:wordOn ls w) (hd:accM L t w≠L w):∃v t',Next L ls t w v t':=by
  obtain ⟨v,h1,⟨p,hp,h2⟩,h3,r,hr,c,hc,h4⟩:=split_ok h (L w) w 0 [] hw h.r0 rfl hd
  have hv:wordOn ls v:=fun x hx=>hw x (by rw [h2];simp [hx])
  have h5:=h.toTOk.col hv h3
  have h6:=open_of (t:=⟨t.rows,t.cols++[v]⟩) hr hc h4
  have h0:0 < t.rows.length:=(List.getElem?_eq_some_iff.1 h.r0).1
  obtain ⟨t',e1,e2,e3,e4,e5,e6⟩:=closeN_ok f hn 13 _ h5 (by omega)
  exact ⟨v,t',h1,e1,by simp [nextT,h1,e1],e2.closed e3,e5,h3,⟨p,hp,h2⟩,e6 h6,e4⟩
def tabAt (L:W→Bool) (ls:List UInt8) (wr:Tab→Option W) (t0:Tab):Nat→Tab
  | 0=>t0
  | k+1=>match wr (tabAt L ls wr t0 k) with
    | none=>tabAt L ls wr t0 k
    | some w=>(nextT L ls (tabAt L ls wr t0 k) w).getD (tabAt L ls wr t0 k)
structure Wr (L:W→Bool) (ls:List UInt8) (wr:Tab→Option W):Prop where
  on:∀t w,wr t=some w→Closed L ls t→wordOn ls w∧accM L t w≠L w
theorem tabAt_ok {L:W→Bool} {ls:List UInt8} {n:Nat} (f:Fin L ls n) (hn:n≤12) {wr:Tab→Option W} (hwr:Wr L ls wr) {t0:Tab} (h0:Closed L ls t0) (hc:t0.cols.length=1):∀k,(∀j,j < k→wr (tabAt L ls wr t0 j)≠none)→
    Closed L ls (tabAt L ls wr t0 k)∧k+1≤(tabAt L ls wr t0 k).rows.length∧(tabAt L ls wr t0 k).cols.length=k+1
  | 0,_=>⟨h0,(List.getElem?_eq_some_iff.1 h0.r0).1,hc⟩
  | k + 1,h=>by
    obtain ⟨h1,h2,h3⟩:=tabAt_ok f hn hwr h0 hc k fun j hj=>h j (by omega)
    have h4:=h k (by omega)
    unfold tabAt
    cases hw:wr (tabAt L ls wr t0 k) with
    | none=>exact absurd hw h4
    | some w=>
      obtain ⟨h5,h6⟩:=hwr.on _ w hw h1
      obtain ⟨v,t',hN⟩:=next_ok f hn h1 h5 h6
      simp only [hN.next,Option.getD_some]
      refine ⟨hN.ok,by have:=hN.more;omega,by rw [hN.cols];simp [h3]⟩
theorem last_round {L:W→Bool} {ls:List UInt8} {n:Nat} (f:Fin L ls n) (hn:n≤12) {wr:Tab→Option W} (hwr:Wr L ls wr) {t0:Tab} (h0:Closed L ls t0) (hc:t0.cols.length=1) :
    ∃k,k < 12∧wr (tabAt L ls wr t0 k)=none∧∀j,j < k→wr (tabAt L ls wr t0 j)≠none:=by
  have key : ∀m,(∃k,k < m∧wr (tabAt L ls wr t0 k)=none∧∀j,j < k→wr (tabAt L ls wr t0 j)≠none)∨∀j,j < m→wr (tabAt L ls wr t0 j)≠none:=by
    intro m
    induction m with
    | zero=>exact .inr fun j hj=>by omega
    | succ m ih=>
      rcases ih with ⟨k,h1,h2,h3⟩|ih
      · exact .inl ⟨k,by omega,h2,h3⟩
      · by_cases hm:wr (tabAt L ls wr t0 m)=none
        · exact .inl ⟨m,by omega,hm,ih⟩
        · refine .inr fun j hj=>?_
          by_cases hjm:j=m
          · subst hjm;exact hm
          · exact ih j (by omega)
  rcases key 12 with h|h
  · exact h
  · have h1:=tabAt_ok f hn hwr h0 hc 12 h
    have:=h1.1.few f
    omega
end Go.Am
namespace Go.Am
set_option linter.unusedVariables false
def runA (a:Aut):Int→W→Int
  | q,[]=>q
  | q,c::w=>runA a (goA a q.toNat ((c.toNat:Int) - 97)) w
def LA (a:Aut) (w:W):Bool:=a.ac.getD (runA a 0 w).toNat false
theorem runA_app (a:Aut):∀(u w:W) (q:Int),runA a q (u++w)=runA a (runA a q u) w
  | [],_,_=>rfl
  | c::u,w,q=>runA_app a u w _
theorem lb_num {l:Int} (h0:0≤l) (h1:l < 6):((lb l).toNat:Int) - 97=l:=by
  unfold lb
  have:(97+l.toNat) % 256=97+l.toNat:=by omega
  simp [this]
  omega
theorem lsB_num {al:Int} {c:UInt8} (h:c∈lsB al):0≤(c.toNat:Int) - 97∧(c.toNat:Int) - 97 < 6:=by
  obtain ⟨l,hl,rfl⟩:=List.mem_map.1 h
  have h1:=lettersTo_in hl
  rw [lb_num h1.1 (by omega)]
  omega
theorem runA_in {a:Aut} (ha:autOk a=true) {al:Int}:∀(w:W) (q:Int),wordOn (lsB al) w→0≤q∧q < a.nx.length→0≤runA a q w∧runA a q w < a.nx.length
  | [],q,_,hq=>hq
  | c::w,q,hw,hq=>by
    have h1:=lsB_num (hw c (by simp))
    have h2:=goA_in ha (q:=q.toNat) (by omega) h1.1 h1.2
    exact runA_in ha w _ (fun x hx=>hw x (by simp [hx])) h2
def finA {a:Aut} (ha:autOk a=true) (al:Int):Fin (LA a) (lsB al) a.nx.length where
  st w:=(runA a 0 w).toNat
  lt w hw:=by
    have h1:=autOk_head ha
    have:=runA_in ha w 0 hw (by omega)
    omega
  same u w v hu hw hv h:=by
    have h1:=autOk_head ha
    have h2:=runA_in ha u 0 hu (by omega)
    have h3:=runA_in ha w 0 hw (by omega)
    have h4:runA a 0 u=runA a 0 w:=by omega
    unfold LA
    rw [runA_app,runA_app,h4]
end Go.Am
namespace Go.Am
set_option linter.unusedVariables false
theorem lsB_mem {al:Int} {l:Int} (h:l∈letters al):lb l∈lsB al:=List.mem_map.2 ⟨l,h,rfl⟩
theorem autM_ok {L:W→Bool} {al:Int} {t:Tab} (hal:alphB al=true) (h:Closed L (lsB al) t) (hr:t.rows.length≤12):autOk (autM L al t)=true:=by
  have h0:0 < t.rows.length:=(List.getElem?_eq_some_iff.1 h.r0).1
  unfold autOk
  simp only [Bool.and_eq_true,decide_eq_true_eq,List.all_eq_true]
  refine ⟨⟨⟨hal,by simp [autM];omega⟩,by simp [autM]⟩,fun row hrow=>?_⟩
  simp only [autM,List.mem_map] at hrow
  obtain ⟨r,hr,rfl⟩:=hrow
  unfold rowOk
  simp only [Bool.and_eq_true,decide_eq_true_eq,List.all_eq_true]
  refine ⟨by simp [autM],fun y hy=>?_⟩
  obtain ⟨l,hl,rfl⟩:=List.mem_map.1 hy
  obtain ⟨i,hi,he⟩:=List.getElem_of_mem hr
  obtain ⟨r',h2,_⟩:=h.idx (i:=i) (r:=r) (by rw [List.getElem?_eq_getElem hi,he]) (lsB_mem hl)
  have h3:=(List.getElem?_eq_some_iff.1 h2).1
  unfold stOk
  simp [autM]
  exact h3
theorem goA_autM {L:W→Bool} {al:Int} {t:Tab} {q:Nat} {c:UInt8} (hq:q < t.rows.length) (hc:c∈lsB al):goA (autM L al t) q ((c.toNat:Int) - 97)=((idxM L t (t.rows.getD q []++[c]):Nat):Int):=by
  obtain ⟨l,hl,rfl⟩:=List.mem_map.1 hc
  have h1:=lettersTo_in hl
  rw [lb_num h1.1 (by omega)]
  obtain ⟨k,hk,he⟩:=List.getElem_of_mem hl
  have h2:(lettersTo al 6)[k]? = some l:=by rw [List.getElem?_eq_getElem hk,he]
  have h3:=letters_place h2
  unfold goA
  have h4:bitB (autM L al t).al l.toNat=true:=h1.2.2
  rw [if_pos h4]
  have h5:(lettersTo (autM L al t).al l.toNat).length=k:=h3
  rw [h5]
  have h6:(autM L al t).nx.getD q []=(letters al).map fun l=>((idxM L t (t.rows.getD q []++[lb l]):Nat):Int):=by
    simp [autM,List.getD,hq]
  rw [h6]
  simp [List.getD,h2]
theorem runA_autM {L:W→Bool} {al:Int} {t:Tab} (h:Closed L (lsB al) t):∀(w:W) (q:Nat),wordOn (lsB al) w→q < t.rows.length→runA (autM L al t) q w=((runM L t q w:Nat):Int)
  | [],q,_,_=>rfl
  | c::w,q,hw,hq=>by
    have h1:t.rows[q]? = some t.rows[q]:=List.getElem?_eq_getElem hq
    have hc:=hw c (by simp)
    obtain ⟨_,h2,_⟩:=h.idx h1 hc
    have h3:t.rows.getD q []=t.rows[q]:=by simp [h1]
    have h4:=(List.getElem?_eq_some_iff.1 h2).1
    show runA (autM L al t) (goA (autM L al t) ((q:Int)).toNat ((c.toNat:Int) - 97)) w=_
    rw [Int.toNat_natCast,goA_autM hq hc]
    rw [←h3] at h4
    exact runA_autM h w _ (fun x hx=>hw x (by simp [hx])) h4
theorem LA_autM {L:W→Bool} {al:Int} {t:Tab} (h:Closed L (lsB al) t) {w:W} (hw:wordOn (lsB al) w):LA (autM L al t) w=accM L t w:=by
  have h0:0 < t.rows.length:=(List.getElem?_eq_some_iff.1 h.r0).1
  have h1:=h.run w 0 hw h0
  unfold LA accM
  have h2:=runA_autM h w 0 hw h0
  rw [show ((0:Nat):Int)=0 from rfl] at h2
  rw [h2,Int.toNat_natCast]
  simp [autM,List.getD,h1]
end Go.Am
namespace Go.Am
open Go
set_option linter.unusedVariables false
def gPr (a b:Aut) (s0:Int) (op:Bool→Bool→Bool):Gr:=
  ⟨a.nx.length*b.nx.length,fun x l=>[goA a (x / b.nx.length).toNat l*b.nx.length+goA b (x % b.nx.length).toNat l],fun x=>op (a.ac.getD (x / b.nx.length).toNat false) (b.ac.getD (x % b.nx.length).toNat false),letters a.al,s0⟩
def netD (a b:Aut) (kd:Int):Net:=⟨[],[a,b],[0,0],a.al,kd,0⟩
theorem gPr_node {a b:Aut} (hb:autOk b=true) {x:Int} (hx:0≤x∧x < (gPr a b 0 bne).N):0≤x / b.nx.length∧x / b.nx.length < a.nx.length∧0≤x % b.nx.length∧x % b.nx.length < b.nx.length:=by
  have h1:=autOk_head hb
  have h2:x < ((a.nx.length*b.nx.length:Nat):Int):=hx.2
  rw [Int.natCast_mul] at h2
  exact ⟨Int.ediv_nonneg hx.1 (by omega),Int.ediv_lt_of_lt_mul (by omega) h2,Int.emod_nonneg _ (by omega),Int.emod_lt_of_pos _ (by omega)⟩
theorem gPr_ok {a b:Aut} (ha:autOk a=true) (hb:autOk b=true) {s0:Int} {op:Bool→Bool→Bool} (hs:0≤s0∧s0 < a.nx.length*b.nx.length):GrOk (gPr a b s0 op):=by
  refine ⟨⟨hs.1,by show s0 < ((a.nx.length*b.nx.length:Nat):Int);rw [Int.natCast_mul];exact hs.2⟩,fun x hx l hl y hy=>?_,letters_sorted _ _⟩
  have hl:=lettersTo_in (show l∈lettersTo a.al 6 from hl)
  have h1:=gPr_node hb hx
  have h2:=goA_in ha (q:=(x / b.nx.length).toNat) (by omega) hl.1 (by omega)
  have h3:=goA_in hb (q:=(x % b.nx.length).toNat) (by omega) hl.1 (by omega)
  have hy:y=goA a (x / b.nx.length).toNat l*b.nx.length+goA b (x % b.nx.length).toNat l:=by simpa [gPr] using hy
  subst hy
  generalize goA a (x / b.nx.length).toNat l=u at *
  generalize goA b (x % b.nx.length).toNat l=v at *
  show 0≤u*(b.nx.length:Int)+v∧u*(b.nx.length:Int)+v < ((a.nx.length*b.nx.length:Nat):Int)
  rw [Int.natCast_mul]
  have h4:0≤u*(b.nx.length:Int):=Int.mul_nonneg h2.1 (by omega)
  have h5:(u+1)*(b.nx.length:Int)≤a.nx.length*b.nx.length:=Int.mul_le_mul_of_nonneg_right (by omega) (by omega)
  rw [Int.add_mul] at h5
  omega
theorem netD_ok {a b:Aut} {kd:Int} (ha:autOk a=true) (hb:autOk b=true):NetOk (netD a b kd)∧KdOk (netD a b kd)∧Fits (sizesN (netD a b kd)) (netD a b kd).st:=by
  have h1:=autOk_head ha
  have h2:=autOk_head hb
  refine ⟨⟨fun s hs=>(by cases hs),fun x hx=>?_,by simp [netD],by simp [netD]⟩,⟨fun _=>by simp [netD],fun _=>by simp [netD]⟩,?_⟩
  · simp [netD] at hx;rcases hx with rfl|rfl<;>assumption
  · refine fits_zero (zs:=sizesN (netD a b kd)) fun z hz=>?_
    simp [sizesN,netD] at hz
    rcases hz with rfl|rfl<;>omega
theorem netD_ans {a b:Aut} {kd:Int} {op:Bool→Bool→Bool} (ha:autOk a=true) (hb:autOk b=true) (ho:∀x y,op x y=if kd=1 then x != y else (x && !y)) (hk:kd=1∨kd=2):ansOf (gPr a b 0 op)=ansOf (gOf (netD a b kd)):=by
  obtain ⟨hn,_,hst⟩:=netD_ok (kd:=kd) ha hb
  have han:=autOk_head ha
  have hbn:=autOk_head hb
  have hg:=gOf_ok hn hst
  refine ansOf_eq (IsAns.congr hg ?_ ?_ (fun x hx l hl=>?_) (fun x hx=>?_) (ansOf_is _))
  · rfl
  · exact encN_zero (sizesN (netD a b kd)) 2
  · have hl:=lettersTo_in (show l∈lettersTo a.al 6 from hl)
    show nextsN (netD a b kd) (sizesN (netD a b kd)) (decN (sizesN (netD a b kd)) x) l=_
    have e:=nextsN_split (l:=[]) (aus:=[a,b]) (st:=[0,0]) (ls:=a.al) (kd:=kd) (gl:=0) hn (node:=x) hl.1 (by omega)
    refine Eq.trans e ?_
    have hxN:x / b.nx.length % a.nx.length=x / b.nx.length:=by
      have h2:(gOf (netD a b kd)).N=a.nx.length*b.nx.length:=by
        show (prodI (sizesN (netD a b kd))).toNat=_
        simp only [sizesN,netD,List.map_nil,List.nil_append,List.map_cons,prodI,Int.mul_one]
        rw [←Int.natCast_mul,Int.toNat_natCast]
      rw [h2] at hx
      have:=gPr_node (a:=a) hb (x:=x) hx
      exact Int.emod_eq_of_lt this.1 this.2.1
    simp only [List.map_cons,List.map_nil,prodI,Int.mul_one,decN,csP,List.zipWith_nil_left,List.zipWith_cons_cons,lowN,List.flatMap_cons,List.flatMap_nil,List.append_nil,Int.ediv_one,Int.add_zero,Int.zero_mul,Int.zero_add,hxN,gPr]
  · show foundN (netD a b kd) (decN (sizesN (netD a b kd)) x) (rowN (netD a b kd) x.toNat)=_
    have hxN:x / b.nx.length % a.nx.length=x / b.nx.length:=by
      have h2:(gOf (netD a b kd)).N=a.nx.length*b.nx.length:=by
        show (prodI (sizesN (netD a b kd))).toNat=_
        simp only [sizesN,netD,List.map_nil,List.nil_append,List.map_cons,prodI,Int.mul_one]
        rw [←Int.natCast_mul,Int.toNat_natCast]
      rw [h2] at hx
      have:=gPr_node (a:=a) hb (x:=x) hx
      exact Int.emod_eq_of_lt this.1 this.2.1
    show _=op (a.ac.getD (x / b.nx.length).toNat false) (b.ac.getD (x % b.nx.length).toNat false)
    rw [ho]
    unfold foundN okN
    rcases hk with rfl|rfl
    · simp [netD,sizesN,decN,prodI,List.getD,hxN]
    · simp [netD,sizesN,decN,prodI,List.getD,hxN]
def validD (a b:Aut):Bool:=autOk a && autOk b && decide (a.al=b.al)
noncomputable def difD (a b:Aut):Option (List Int):=if validD a b then ansOf (gOf (netD a b 1)) else none
end Go.Am
namespace Go.Am
open Go
set_option linter.unusedVariables false
theorem reach_app {g:Gr}:∀ {u v:List Int} {a x:Int},reach g (u++v) a x↔∃y,reach g u a y∧reach g v y x
  | [],v,a,x=>⟨fun h=>⟨a,rfl,h⟩,fun ⟨y,h1,h2⟩=>by cases h1;exact h2⟩
  | l :: u,v,a,x=>by
    simp only [List.cons_append,reach]
    constructor
    · rintro ⟨y,hy,h⟩
      obtain ⟨z,h1,h2⟩:=reach_app.1 h
      exact ⟨z,⟨y,hy,h1⟩,h2⟩
    · rintro ⟨z,⟨y,hy,h1⟩,h2⟩
      exact ⟨y,hy,reach_app.2 ⟨z,h1,h2⟩⟩
theorem pigeon (n:Nat) (f:Nat→Int) (h:∀i,i≤n→0≤f i∧f i < n):∃i j,i < j∧j≤n∧f i=f j:=by
  apply Classical.byContradiction
  intro hno
  have h1:((List.range (n+1)).map fun i=>(f i).toNat).Nodup:=by
    unfold List.Nodup
    rw [List.pairwise_map]
    refine List.pairwise_lt_range.imp_of_mem fun {a b} ha hb hab he=>hno ⟨a,b,hab,?_,?_⟩
    · have:=List.mem_range.1 hb;omega
    · have h2:=h a (by have:=List.mem_range.1 ha;omega)
      have h3:=h b (by have:=List.mem_range.1 hb;omega)
      omega
  have h2:=nodup_lt n _ h1 fun x hx=>by
    obtain ⟨i,hi,rfl⟩:=List.mem_map.1 hx
    have:=h i (by have:=List.mem_range.1 hi;omega)
    omega
  simp at h2
  omega
theorem IsAns.short {g:Gr} (hg:GrOk g) {w:List Int} (h:IsAns g (some w)):w.length < g.N:=by
  obtain ⟨h1,⟨x,hx,hgx⟩,h3⟩:=h
  apply Classical.byContradiction
  intro hlen
  have hsp:∀k,∃y,reach g (w.take k) g.s0 y∧reach g (w.drop k) y x:=fun k=>reach_app.1 (by rw [List.take_append_drop];exact hx)
  obtain ⟨f,hf⟩:=Classical.axiomOfChoice hsp
  obtain ⟨i,j,hij,hj,he⟩:=pigeon g.N f fun i _=>reach_in hg (fun l hl=>h1 l (List.mem_of_mem_take hl)) hg.s0 (hf i).1
  refine h3 (w.take i++w.drop j) (fun l hl=>?_) ⟨x,reach_app.2 ⟨f i,(hf i).1,he ▸ (hf j).2⟩,hgx⟩ (.inl ?_)
  · rcases List.mem_append.1 hl with hl|hl
    · exact h1 l (List.mem_of_mem_take hl)
    · exact h1 l (List.mem_of_mem_drop hl)
  · simp;omega
theorem txt_on {al:Int}:∀ {w:List Int},(∀l∈w,l∈letters al)→wordOn (lsB al) (txt w):=fun {w} h c hc=>by
  obtain ⟨l,hl,rfl⟩:=List.mem_map.1 hc
  exact lsB_mem (h l hl)
theorem reach_gB {a b:Aut} (ha:autOk a=true) (hb:autOk b=true) {op:Bool→Bool→Bool} {s0:Int}:∀ {w:List Int} {i j x:Int},(∀l∈w,l∈letters a.al)→(0≤i∧i < a.nx.length)→(0≤j∧j < b.nx.length)→
    (reach (gPr a b s0 op) w (i*b.nx.length+j) x↔x=runA a i (txt w)*b.nx.length+runA b j (txt w))
  | [],i,j,x,_,_,_=>⟨fun h=>h.symm,fun h=>h.symm⟩
  | l :: w,i,j,x,hw,hi,hj=>by
    have hl:=lettersTo_in (hw l (by simp))
    have h1:(i*b.nx.length+j) / b.nx.length=i:=by
      rw [Int.add_comm,Int.add_mul_ediv_right _ _ (by omega),Int.ediv_eq_zero_of_lt hj.1 hj.2,Int.zero_add]
    have h2:(i*b.nx.length+j) % b.nx.length=j:=by
      rw [Int.add_comm,Int.add_mul_emod_self_right,Int.emod_eq_of_lt hj.1 hj.2]
    have h3:=goA_in ha (q:=i.toNat) (by omega) hl.1 (by omega)
    have h4:=goA_in hb (q:=j.toNat) (by omega) hl.1 (by omega)
    have ih:=reach_gB ha hb (op:=op) (s0:=s0) (w:=w) (x:=x) (fun m hm=>hw m (by simp [hm])) h3 h4
    have e:∀(c:Aut) (q:Int),runA c q (txt (l::w))=runA c (goA c q.toNat l) (txt w):=fun c q=>by
      show runA c (goA c q.toNat (((lb l).toNat:Int) - 97)) (txt w)=_
      rw [lb_num hl.1 (by omega)]
    rw [e,e,←ih]
    simp only [reach,gPr,h1,h2,List.mem_singleton,exists_eq_left]
theorem difD_some {a b:Aut} {w:List Int} (h:difD a b=some w):validD a b=true∧wordOn (lsB a.al) (txt w)∧LA a (txt w)≠LA b (txt w)∧(txt w).length≤144:=by
  unfold difD at h
  by_cases hv:validD a b=true
  · rw [if_pos hv] at h
    refine ⟨hv,?_⟩
    unfold validD at hv
    simp only [Bool.and_eq_true,decide_eq_true_eq] at hv
    obtain ⟨⟨ha,hb⟩,hal⟩:=hv
    have han:=autOk_head ha
    have hbn:=autOk_head hb
    rw [←netD_ans (op:=bne) ha hb (fun x y=>by simp) (.inl rfl)] at h
    have hg:=gPr_ok (op:=bne) (s0:=0) ha hb ⟨by omega,by rw [←Int.natCast_mul];have:=Nat.mul_pos (show 0 < a.nx.length by omega) (show 0 < b.nx.length by omega);omega⟩
    have hi:=ansOf_is (gPr a b 0 bne)
    rw [h] at hi
    have hs:=hi.short hg
    obtain ⟨h1,⟨x,hx,hgx⟩,h3⟩:=hi
    have hon:=txt_on (al:=a.al) h1
    refine ⟨hon,fun he=>?_,?_⟩
    · have h4:=(reach_gB ha hb (op:=bne) (s0:=0) (i:=0) (j:=0) (x:=x) h1 ⟨by omega,by omega⟩ ⟨by omega,by omega⟩).1 (by simpa [gPr] using hx)
      have hra:=runA_in ha (txt w) 0 hon (by omega)
      have hrb:=runA_in hb (txt w) 0 (al:=a.al) hon (by omega)
      have h5:x / b.nx.length=runA a 0 (txt w):=by
        rw [h4,Int.add_comm,Int.add_mul_ediv_right _ _ (by omega),Int.ediv_eq_zero_of_lt hrb.1 hrb.2,Int.zero_add]
      have h6:x % b.nx.length=runA b 0 (txt w):=by
        rw [h4,Int.add_comm,Int.add_mul_emod_self_right,Int.emod_eq_of_lt hrb.1 hrb.2]
      have h7:(gPr a b 0 bne).goal x=(LA a (txt w) != LA b (txt w)):=by simp only [gPr,h5,h6,LA]
      rw [h7,he] at hgx
      simp at hgx
    · have h8:a.nx.length*b.nx.length≤12*12:=Nat.mul_le_mul (by omega) (by omega)
      have h9:(gPr a b 0 bne).N=a.nx.length*b.nx.length:=rfl
      have h10:(txt w).length=w.length:=by simp [txt]
      omega
  · rw [if_neg hv] at h;cases h
end Go.Am
namespace Go.Am
open Go
set_option linter.unusedVariables false
noncomputable def wrD (p:Aut) (t:Tab):Option W:=(difD (autM (LA p) p.al t) p).map txt
theorem wrD_ok (p:Aut):Wr (LA p) (lsB p.al) (wrD p):=⟨fun t w h hc=>by
  unfold wrD at h
  obtain ⟨v,hv,rfl⟩:=Option.map_eq_some_iff.1 h
  obtain ⟨_,h1,h2,_⟩:=difD_some hv
  exact ⟨h1,fun he=>h2 (by rw [LA_autM hc h1,he])⟩⟩
theorem wrD_short {p:Aut} {t:Tab} {w:W} (h:wrD p t=some w):w.length≤144:=by
  unfold wrD at h
  obtain ⟨v,hv,rfl⟩:=Option.map_eq_some_iff.1 h
  exact (difD_some hv).2.2.2
theorem tabOne_ok (L:W→Bool) (ls:List UInt8):TOk L ls tabOne:=by
  refine ⟨rfl,rfl,fun i w hi h0=>?_,fun w hw=>?_,fun w hw=>?_,by simp [rowsM,tabOne],by simp [tabOne]⟩
  · have:=(List.getElem?_eq_some_iff.1 hi).1
    simp [tabOne] at this;omega
  · simp [tabOne] at hw;subst hw;exact fun c hc=>(by cases hc)
  · simp [tabOne] at hw;subst hw;exact fun c hc=>(by cases hc)
noncomputable def tabZ (p:Aut):Tab:=(closeN (LA p) (lsB p.al) 13 tabOne).getD tabOne
theorem tabZ_ok {p:Aut} (hp:autOk p=true):closeN (LA p) (lsB p.al) 13 tabOne=some (tabZ p)∧Closed (LA p) (lsB p.al) (tabZ p)∧(tabZ p).cols=[[]]:=by
  have h1:=autOk_head hp
  obtain ⟨t',e1,e2,e3,e4,e5,_⟩:=closeN_ok (finA hp p.al) h1.2.2.1 13 tabOne (tabOne_ok _ _) (by simp [tabOne])
  have:tabZ p=t':=by unfold tabZ;rw [e1];rfl
  rw [this]
  exact ⟨e1,e2.closed e3,e5⟩
noncomputable def tabK (p:Aut) (k:Nat):Tab:=tabAt (LA p) (lsB p.al) (wrD p) (tabZ p) k
theorem last_ex {p:Aut} (hp:autOk p=true):∃k,k < 12∧wrD p (tabK p k)=none∧∀j,j < k→wrD p (tabK p j)≠none:=
  last_round (finA hp p.al) (autOk_head hp).2.2.1 (wrD_ok p) (tabZ_ok hp).2.1 (by rw [(tabZ_ok hp).2.2];rfl)
open Classical in
noncomputable def lastK (p:Aut):Nat:=if h:∃k,k < 12∧wrD p (tabK p k)=none∧∀j,j < k→wrD p (tabK p j)≠none then Classical.choose h else 0
theorem lastK_ok {p:Aut} (hp:autOk p=true):lastK p < 12∧wrD p (tabK p (lastK p))=none∧∀j,j < lastK p→wrD p (tabK p j)≠none:=by
  have h:=last_ex hp
  unfold lastK
  rw [dif_pos h]
  exact Classical.choose_spec h
theorem TOk.short {L:W→Bool} {ls:List UInt8} {t:Tab} (h:TOk L ls t):∀(i:Nat) w,t.rows[i]? = some w→w.length≤i:=by
  intro i
  induction i using Nat.strongRecOn with
  | _ i ih=>
    intro w hw
    rcases Nat.eq_zero_or_pos i with h0|h0
    · subst h0
      rw [h.r0] at hw
      injection hw with hw
      subst hw;simp
    · obtain ⟨h1,j,hj,h2⟩:=h.pre i w hw h0
      have:=ih j hj _ h2
      simp at this
      omega
def colsLe (n:Nat) (t:Tab):Prop:=∀c∈t.cols,c.length≤n
theorem tabK_ok {p:Aut} (hp:autOk p=true):∀k,k≤lastK p→Closed (LA p) (lsB p.al) (tabK p k)∧k+1≤(tabK p k).rows.length∧(tabK p k).rows.length≤12∧(tabK p k).cols.length=k+1∧colsLe 144 (tabK p k)
  | 0, hk=>by
    have h1:=tabZ_ok hp
    have h2:=h1.2.1.few (finA hp p.al)
    have h3:=autOk_head hp
    have h0:=(List.getElem?_eq_some_iff.1 h1.2.1.r0).1
    exact ⟨h1.2.1,h0,by show (tabZ p).rows.length≤12;omega,by show (tabZ p).cols.length=1;rw [h1.2.2];rfl,fun c hc=>by
      have hc:c∈(tabZ p).cols:=hc
      rw [h1.2.2] at hc
      simp at hc;subst hc;simp⟩
  | k + 1,hk=>by
    obtain ⟨h1,h2,h3,h4,h5⟩:=tabK_ok hp k (by omega)
    have h6:=(lastK_ok hp).2.2 k (by omega)
    have e:tabK p (k+1)=match wrD p (tabK p k) with
      | none=>tabK p k
      | some w=>(nextT (LA p) (lsB p.al) (tabK p k) w).getD (tabK p k):=rfl
    cases hw:wrD p (tabK p k) with
    | none=>exact absurd hw h6
    | some w=>
      obtain ⟨h7,h8⟩:=(wrD_ok p).on _ w hw h1
      have h10:=autOk_head hp
      obtain ⟨v,t',hN⟩:=Am.next_ok (finA hp p.al) h10.2.2.1 h1 h7 h8
      rw [hw] at e
      simp only [hN.next,Option.getD_some] at e
      rw [e]
      refine ⟨hN.ok,by have:=hN.more;omega,by have:=hN.ok.few (finA hp p.al);omega,by rw [hN.cols];simp [h4],fun c hc=>?_⟩
      rw [hN.cols] at hc
      rcases List.mem_append.1 hc with hc|hc
      · exact h5 c hc
      · simp at hc
        subst hc
        have:=wrD_short hw
        obtain ⟨q,_,hq⟩:=hN.suf
        rw [hq] at this
        simp at this;omega
theorem tabK_step {p:Aut} (hp:autOk p=true) {k:Nat} (hk:k < lastK p):∃w v,wrD p (tabK p k)=some w∧Next (LA p) (lsB p.al) (tabK p k) w v (tabK p (k+1)):=by
  have h1:=(tabK_ok hp k (by omega)).1
  have h6:=(lastK_ok hp).2.2 k hk
  have e:tabK p (k+1)=match wrD p (tabK p k) with
    | none=>tabK p k
    | some w=>(nextT (LA p) (lsB p.al) (tabK p k) w).getD (tabK p k):=rfl
  cases hw:wrD p (tabK p k) with
  | none=>exact absurd hw h6
  | some w=>
    obtain ⟨h7,h8⟩:=(wrD_ok p).on _ w hw h1
    obtain ⟨v,t',hN⟩:=Am.next_ok (finA hp p.al) (autOk_head hp).2.2.1 h1 h7 h8
    rw [hw] at e
    simp only [hN.next,Option.getD_some] at e
    rw [e]
    exact ⟨w,v,rfl,hN⟩
end Go.Am
namespace Go.Am
open Go Go.Proofs
set_option maxHeartbeats 1000000
attribute [local irreducible] QOp AOp Lex LexO AWp Spec
variable {TB:Amb}
abbrev fnV (g:FuncId):D:=.v (.func (.func g) #[] #[])
theorem comparable2_ok (a b:Aut):Pure Tryz.prog TB 44 [eAut a,eAut b] (eB (validD a b)):=by
  refine eN Tryz.func44 rfl (by kernel_rfl) rfl ?_;intro Γ hΓ
  (repeat' first|refine sN rfl ?_|((first|refine sA rfl ?_ ?_|refine s4 rfl ‹_› rfl ?_ ?_);first|exact tI|omega|(simp only[oZ] at *;omega))|(refine s2 rfl ?_;intro _ _hb) |(refine sC rfl (implAutomatonValid_ok a) ?_;intro _ _hb)|(refine sC rfl (implAutomatonValid_ok b) ?_;intro _ _hb)|(refine s3 rfl ?_ ?_<;>intro hb<;>subst hb)|refine aS ?_|refine reg (by kernel_rfl) ?_|refine lexE ?_|refine rD (by kernel_rfl) (by kernel_rfl) ?_|(refine aC rfl ?_ ?_<;>intro hb<;>cases hb)|refine aK ?_|refine aE ?_|refine aB ?_|refine AWp.ret ⟨_,rfl,?_⟩)
  all_goals (show E.o _=E.o _;congr;unfold validD;grind)
theorem differ1_ok (x y:Bool):Pure Tryz.prog TB 72 [eB x,eB y] (eB (bne x y)):=by
  refine eN Tryz.func72 rfl (by kernel_rfl) rfl ?_;intro Γ hΓ
  (repeat' first|refine sN rfl ?_|((first|refine sA rfl ?_ ?_|refine s4 rfl ‹_› rfl ?_ ?_);first|exact tI|omega|(simp only[oZ] at *;omega))|(refine s2 rfl ?_;intro _ _hb)|(refine s3 rfl ?_ ?_<;>intro hb<;>subst hb)|refine aS ?_|refine reg (by kernel_rfl) ?_|refine lexE ?_|refine rD (by kernel_rfl) (by kernel_rfl) ?_|(refine aC rfl ?_ ?_<;>intro hb<;>cases hb)|refine aK ?_|refine aE ?_|refine aB ?_|refine AWp.ret ⟨_,rfl,?_⟩)
  all_goals (show E.o _=E.o _;congr;grind)
theorem both2_ok {a b:Aut} (ha:autOk a=true) (hb:autOk b=true) {f0:FuncId} {op:Bool→Bool→Bool} {s0:Int} (hop:∀x y,Pure Tryz.prog TB f0 [eB x,eB y] (eB (op x y))) (node:Int) (hn:0≤node∧node < (gPr a b s0 op).N) :
    Pure Tryz.prog TB 108 [eI .i64 node,.o (.ip [fnV f0]),.o (.ip (auRow a)),.o (.ip [iD b.nx.length]),.o (.ip (auRow b))] (eB ((gPr a b s0 op).goal node)):=by
  have hah:=autOk_head ha
  have hbh:=autOk_head hb
  have h1:=gPr_node (a:=a) hb (x:=node) hn
  have hN:node < 1048576:=by
    have h2:a.nx.length*b.nx.length≤12*12:=Nat.mul_le_mul (by omega) (by omega)
    have h3:(gPr a b s0 op).N=a.nx.length*b.nx.length:=rfl
    omega
  obtain ⟨x,hx⟩:=get_some (l:=a.ac) (k:=(node / b.nx.length).toNat) (by omega)
  obtain ⟨y,hy⟩:=get_some (l:=b.ac) (k:=(node % b.nx.length).toNat) (by omega)
  have hx':(a.ac.map bRow)[(node / b.nx.length).toNat]? = some (bRow x):=by simp [hx]
  have hy':(b.ac.map bRow)[(node % b.nx.length).toNat]? = some (bRow y):=by simp [hy]
  have hg:(gPr a b s0 op).goal node=op x y:=by simp [gPr,List.getD,hx,hy]
  rw [hg]
  have hxy:=hop x y
  refine eN Tryz.func108 rfl (by kernel_rfl) rfl ?_;intro Γ hΓ
  (repeat first|refine sN rfl ?_|((first|refine sA rfl ?_ ?_|refine s4 rfl ‹_› rfl ?_ ?_);first|exact tI|omega|(simp only[oZ] at *;omega))|(refine s2 rfl ?_;intro _ _hb)|(refine s3 rfl ?_ ?_<;>intro hb<;>subst hb)|refine aS ?_|refine reg (by kernel_rfl) ?_|refine lexE ?_)
  refine regD (flN []) mixed (by kernel_rfl) (by kernel_rfl) ?_
  (repeat first|refine sN rfl ?_|((first|refine sA rfl ?_ ?_|refine s4 rfl ‹_› rfl ?_ ?_);first|exact tI|omega|(simp only[oZ] at *;omega))|(refine s2 rfl ?_;intro _ _hb)|(refine popO rfl ?_;refine gA rfl ?_;first|refine gS (fun _ _=>q_asFn (t:=7) rfl (q_call rfl rfl rfl hxy rfl)) ?_)|(refine s3 rfl ?_ ?_<;>intro hb<;>subst hb)|refine aS ?_|refine reg (by kernel_rfl) ?_|refine lexE ?_)
  refine AWp.ret ⟨_,rfl,rfl⟩
theorem both1_ok {a b:Aut} (ha:autOk a=true) (hb:autOk b=true) {op:Bool→Bool→Bool} {s0:Int}:NextOk Tryz.prog TB 3 (gPr a b s0 op) 106 [.ip [.l (tblD a)],.ip [iD b.nx.length],.ip [.l (tblD b)]]:=by
  intro node l outs hn hl hol
  have hl:=lettersTo_in (show l∈lettersTo a.al 6 from hl)
  have hah:=autOk_head ha
  have hbh:=autOk_head hb
  have h1:=gPr_node (a:=a) hb (x:=node) hn
  have hN:node < 1048576:=by
    have h2:a.nx.length*b.nx.length≤12*12:=Nat.mul_le_mul (by omega) (by omega)
    have h3:(gPr a b s0 op).N=a.nx.length*b.nx.length:=rfl
    omega
  have hga:=goA_in ha (q:=(node / b.nx.length).toNat) (by omega) hl.1 (by omega)
  have hgb:=goA_in hb (q:=(node % b.nx.length).toNat) (by omega) hl.1 (by omega)
  have ta:=tbl_get (a:=a) (q:=(node / b.nx.length).toNat) (by omega)
  have tb:=tbl_get (a:=b) (q:=(node % b.nx.length).toNat) (by omega)
  have el:((l.toNat:Nat):Int)=l:=by omega
  have ra:=rowD_get (h:=fun l=>goA a (node / b.nx.length).toNat l) hl.1 (by omega)
  have rb:=rowD_get (h:=fun l=>goA b (node % b.nx.length).toNat l) hl.1 (by omega)
  simp only [el] at ra rb
  have hm:0≤goA a (node / b.nx.length).toNat l*b.nx.length∧goA a (node / b.nx.length).toNat l*b.nx.length≤144:=⟨Int.mul_nonneg hga.1 (by omega),by
    have:goA a (node / b.nx.length).toNat l*b.nx.length≤12*12:=Int.mul_le_mul (by omega) (by omega) (by omega) (by omega)
    omega⟩
  have hs:(gPr a b s0 op).succ node l=[goA a (node / b.nx.length).toNat l*b.nx.length+goA b (node % b.nx.length).toNat l]:=rfl
  rw [hs]
  refine eN Tryz.func106 rfl (by kernel_rfl) rfl ?_;intro Γ hΓ
  (repeat first|refine sN rfl ?_|((first|refine sA rfl ?_ ?_|refine s4 rfl ‹_› rfl ?_ ?_);first|exact tI|omega|(simp only[oZ] at *;omega))|(refine s2 rfl ?_;intro _ _hb)|(refine s3 rfl ?_ ?_<;>intro hb<;>subst hb)|refine aS ?_|refine reg (by kernel_rfl) ?_|refine lexE ?_)
  refine regD (flN [21]) mixed (by kernel_rfl) (by kernel_rfl) ?_
  (repeat first|refine sN rfl ?_|((first|refine sA rfl ?_ ?_|refine s4 rfl ‹_› rfl ?_ ?_);first|exact tI|omega|(simp only[oZ] at *;omega))|(refine s2 rfl ?_;intro _ _hb)|(refine popO rfl ?_;refine gA rfl ?_;first|refine gS (fun _ _=>q_loadIp0 rfl ra) ?_|refine gS (fun _ _=>q_loadIp0 rfl rb) ?_)|(refine s3 rfl ?_ ?_<;>intro hb<;>subst hb)|refine aS ?_|refine reg (by kernel_rfl) ?_|refine lexE ?_)
  (refine popO rfl ?_;refine popW ?_ rfl (by rfl);refine n_append rfl rfl rfl (by first|(simp;done)|(simp;(first|omega|(simp only[oZ] at *;omega)))) rfl (by intro r hr;simp at hr;subst hr;rfl) (by rfl) (Nat.le_of_ble_eq_true rfl) (by simp;omega) ?_)
  (repeat first|refine sN rfl ?_|((first|refine sA rfl ?_ ?_|refine s4 rfl ‹_› rfl ?_ ?_);first|exact tI|omega|(simp only[oZ] at *;omega))|(refine s2 rfl ?_;intro _ _hb)|(refine s3 rfl ?_ ?_<;>intro hb<;>subst hb)|refine aS ?_|refine reg (by kernel_rfl) ?_|refine lexE ?_)
  refine AWp.ret ⟨_,rfl,by simp,rfl,by simp [kill]⟩
theorem firstOfBoth_ok {a b:Aut} (ha:autOk a=true) (hb:autOk b=true) {f0:FuncId} {op:Bool→Bool→Bool} (hop:∀x y,Pure Tryz.prog TB f0 [eB x,eB y] (eB (op x y))) (i j:Int) (hi:0≤i∧i < a.nx.length) (hj:0≤j∧j < b.nx.length) :
    Pure Tryz.prog TB 71 [eAut a,eAut b,eI .i64 i,eI .i64 j,.o (.d (fnV f0))] (eAns (ansOf (gPr a b (i*b.nx.length+j) op))):=by
  have hah:=autOk_head ha
  have hbh:=autOk_head hb
  have hta:=tableOf_ok (TB:=TB) a ha
  have htb:=tableOf_ok (TB:=TB) b hb
  have hm:0≤i*(b.nx.length:Int)∧(i+1)*(b.nx.length:Int)≤a.nx.length*b.nx.length:=⟨Int.mul_nonneg hi.1 (by omega),Int.mul_le_mul_of_nonneg_right (by omega) (by omega)⟩
  have hm1:(i+1)*(b.nx.length:Int)=i*b.nx.length+b.nx.length:=by rw [Int.add_mul];omega
  have hN:a.nx.length*b.nx.length≤144:=Nat.mul_le_mul (show a.nx.length≤12 by omega) (show b.nx.length≤12 by omega)
  have hNi:((a.nx.length:Int)*b.nx.length)≤144:=by rw [←Int.natCast_mul];omega
  have hs0:0≤i*(b.nx.length:Int)+j∧i*(b.nx.length:Int)+j < a.nx.length*b.nx.length:=by omega
  have hg:=gPr_ok (op:=op) (s0:=i*b.nx.length+j) ha hb hs0
  have hla:(tblD a).length=a.nx.length:=by simp [tblD,rowsF]
  have hlb:(tblD b).length=b.nx.length:=by simp [tblD,rowsF]
  have hfp:Pure Tryz.prog TB 107 [eI .i64 ((a.nx.length:Int)*b.nx.length),eInts [i*b.nx.length+j],eInts (letters a.al),.o (.fn 106 [.ip [.l (tblD a)],.ip [iD b.nx.length],.ip [.l (tblD b)]]),.o (.fn 108 [.ip [fnV f0],.ip (auRow a),.ip [iD b.nx.length],.ip (auRow b)])]
      (eAns (ansOf (gPr a b (i*b.nx.length+j) op))):=by
    rw [←Int.natCast_mul]
    exact firstPath_ok hg (show a.nx.length*b.nx.length≤1048576 by omega) (fun x hx=>by have:=lettersTo_in hx;omega) (lettersTo_len _ 6) (fun node l hn hl=>by
      have h1:1≤a.nx.length*b.nx.length:=Nat.mul_pos (show 0 < a.nx.length by omega) (show 0 < b.nx.length by omega)
      exact h1) (both1_ok ha hb) (fun n hn=>both2_ok ha hb hop n hn) rfl (fun r=>rfl) (fun r=>rfl) (ansOf_is _)
  refine eN Tryz.func71 rfl (by kernel_rfl) rfl ?_;intro Γ hΓ
  (repeat first|refine sN rfl ?_|((first|refine sA rfl ?_ ?_|refine s4 rfl ‹_› rfl ?_ ?_);first|exact tI|omega|(simp only[oZ] at *;omega))|(refine s2 rfl ?_;intro _ _hb)|(refine s3 rfl ?_ ?_<;>intro hb<;>subst hb)|refine aS ?_|refine reg (by kernel_rfl) ?_|refine lexE ?_)
  refine R.regR [(0,2),(1,2),(2,2),(3,2),(4,3),(5,3),(6,5),(7,5)] mixed (by kernel_rfl) rfl (by kernel_rfl) ?_
  (repeat (first|(refine R.popO rfl ?_;first|(refine R.yQ (md:=false) rfl rfl rfl ?_ ?_;(first|exact True.intro|omega|(simp only [oZ] at *;omega)))|(refine R.yB rfl rfl rfl ?_;intro _ _hb)|refine R.yS rfl rfl rfl ?_|refine R.yP rfl rfl rfl rfl ?_|refine R.yA rfl rfl rfl rfl ?_|refine R.yW rfl rfl rfl ?_|refine R.popS (fun _ _ _=>q_call rfl rfl rfl (hta) rfl) rfl rfl ?_|refine R.popS (fun _ _ _=>q_call rfl rfl rfl (htb) rfl) rfl rfl ?_|refine R.popN rfl rfl ?_|(refine R.yG rfl rfl ?_ ?_<;>intro hb<;>subst hb))))
  refine R.lexQ ?_
  refine AWp.seq ?_
  refine AWp.freezeV [0,1] [2,3,5,6,9] rfl [(12,.o (.ip [.l (tblD a)])),(13,.o (.ip [.l (tblD b)]))] ⟨⟨_,rfl,.o (.ptr (by simp) rfl rfl rfl)⟩,⟨_,rfl,.o (.ptr (by simp) rfl rfl rfl)⟩,trivial⟩ ?_;(try dsimp only[List.cons_append,List.nil_append])
  refine reg (by kernel_rfl) ?_;(repeat first|refine sN rfl ?_|((first|refine sA rfl ?_ ?_|refine s4 rfl ‹_› rfl ?_ ?_);first|exact tI|omega|(simp only[oZ] at *;omega))|(refine s2 rfl ?_;intro _ _hb)|(refine s3 rfl ?_ ?_<;>intro hb<;>subst hb));refine lexE ?_
  simp only [List.length_range]
  refine AWp.seq ?_
  refine AWp.freezeV [2] [2,3,5,6,9,12,13] rfl [(14,.o (.ip [iD b.nx.length]))] ⟨⟨_,rfl,.o (.ptr (by simp) rfl rfl rfl)⟩,trivial⟩ ?_;(try dsimp only[List.cons_append,List.nil_append])
  (repeat first|refine sN rfl ?_|((first|refine sA rfl ?_ ?_|refine s4 rfl ‹_› rfl ?_ ?_);first|exact tI|omega|(simp only[oZ] at *;omega))|(refine s2 rfl ?_;intro _ _hb)|(refine s3 rfl ?_ ?_<;>intro hb<;>subst hb)|refine aS ?_|refine reg (by kernel_rfl) ?_|refine lexE ?_)
  refine regD (flN []) mixed (by kernel_rfl) (by kernel_rfl) ?_
  have hlo:=lettersOf_ok (TB:=TB) a.al
  (repeat first|refine sN rfl ?_|((first|refine sA rfl ?_ ?_|refine s4 rfl ‹_› rfl ?_ ?_);first|exact tI|omega|(simp only[oZ] at *;omega))|(refine s2 rfl ?_;intro _ _hb)|(refine s3 rfl ?_ ?_<;>intro hb<;>subst hb)|refine aS ?_|refine reg (by kernel_rfl) ?_|refine lexE ?_)
  simp only [List.length_range]
  (repeat first|refine sN rfl ?_|((first|refine sA rfl ?_ ?_|refine s4 rfl ‹_› rfl ?_ ?_);first|exact tI|omega|(simp only[oZ] at *;omega))|(refine s2 rfl ?_;intro _ _hb) |refine sP rfl (hlo) rfl ?_|refine sP rfl (hfp) rfl ?_|(refine s3 rfl ?_ ?_<;>intro hb<;>subst hb)|refine aS ?_|refine reg (by kernel_rfl) ?_|refine lexE ?_)
  refine AWp.ret ⟨_,rfl,rfl⟩
theorem implDifferOf_ok (a b:Aut):Pure Tryz.prog TB 43 [eAut a,eAut b] (eAns (difD a b)):=by
  by_cases hv:validD a b=true
  · have hv2:=hv
    unfold validD at hv2
    simp only [Bool.and_eq_true,decide_eq_true_eq] at hv2
    obtain ⟨⟨ha,hb⟩,_⟩:=hv2
    have hah:=autOk_head ha
    have hbh:=autOk_head hb
    have hd:difD a b=ansOf (gPr a b 0 bne):=by unfold difD;rw [if_pos hv,netD_ans ha hb (fun x y=>by simp) (.inl rfl)]
    have hf:=firstOfBoth_ok (TB:=TB) ha hb differ1_ok 0 0 ⟨by omega,by omega⟩ ⟨by omega,by omega⟩
    have hf2:Pure Tryz.prog TB 71 [eAut a,eAut b,eI .i64 0,eI .i64 0,.o (.fn 72 [])] (eAns (ansOf (gPr a b 0 bne))):=by
      have:=Spec.asFn (l:=[eAut a,eAut b,eI .i64 0,eI .i64 0]) (m:=[]) hf
      rw [Int.zero_mul,Int.zero_add] at this
      exact this
    rw [hd]
    refine eN Tryz.func43 rfl (by kernel_rfl) rfl ?_;intro Γ hΓ
    (repeat' first|refine sN rfl ?_|((first|refine sA rfl ?_ ?_|refine s4 rfl ‹_› rfl ?_ ?_);first|exact tI|omega|(simp only[oZ] at *;omega))|(refine s2 rfl ?_;intro _ _hb) |(refine sC rfl (comparable2_ok a b) ?_;intro _ _hb)|refine sP rfl (hf2) rfl ?_|(refine s3 rfl ?_ ?_<;>intro hb<;>subst hb)|refine aS ?_|refine reg (by kernel_rfl) ?_|refine lexE ?_|refine rD (by kernel_rfl) (by kernel_rfl) ?_|(refine aC rfl ?_ ?_<;>intro hb<;>cases hb)|refine aK ?_|refine aE ?_|refine aB ?_|refine AWp.ret ⟨_,rfl,?_⟩)
    all_goals first
      | rfl
      | (exfalso;grind;done)
  · have hd:difD a b=none:=by unfold difD;rw [if_neg hv]
    rw [hd]
    refine eN Tryz.func43 rfl (by kernel_rfl) rfl ?_;intro Γ hΓ
    (repeat' first|refine sN rfl ?_|((first|refine sA rfl ?_ ?_|refine s4 rfl ‹_› rfl ?_ ?_);first|exact tI|omega|(simp only[oZ] at *;omega))|(refine s2 rfl ?_;intro _ _hb) |(refine sC rfl (comparable2_ok a b) ?_;intro _ _hb)|(refine s3 rfl ?_ ?_<;>intro hb<;>subst hb)|refine aS ?_|refine reg (by kernel_rfl) ?_|refine lexE ?_|refine rD (by kernel_rfl) (by kernel_rfl) ?_|(refine aC rfl ?_ ?_<;>intro hb<;>cases hb)|refine aK ?_|refine aE ?_|refine aB ?_|refine AWp.ret ⟨_,rfl,?_⟩)
    all_goals first
      | rfl
      | (exfalso;grind;done)
end Go.Am
namespace Go.Am
open Go Go.Proofs
set_option maxHeartbeats 1000000
attribute [local irreducible] QOp AOp Lex LexO AWp Spec
variable {TB:Amb}
theorem automaton_ok {c:C} {L:W→Bool} {ok:W→Prop} (hc:AskV Tryz.prog TB c L ok) (al:Int) (t:Tab) (hf:OkFits ok al) (ht:TBd al 20012 t) (ho:openW L (lsB al) t=none) :
    Pure Tryz.prog TB 51 [eOra al c,eTab t] (eAut (autM L al t)):=by
  have hr:=ren_pur c hc.pur
  have hrl:=ht.rl
  have hcl:=ht.cl
  have hla:(letters al).length≤6:=lettersTo_len al 6
  have hask:=ht.ask hf (by omega)
  have hnl:(autM L al t).nx.length=t.rows.length:=by simp [autM]
  have hal:(autM L al t).ac.length=t.rows.length:=by simp [autM]
  refine SpecK.toSpec (SpecK.ofM 3 (Nat.le_refl _) Tryz.func51 rfl rfl (by kernel_rfl) (Nat.le_of_ble_eq_true rfl) ?_);intro Γ hΓ
  (repeat first|refine sN rfl ?_|((first|refine sM rfl ?_ ?_|refine s4 rfl ‹_› rfl ?_ ?_);first|exact tI|omega|(simp only[oZ] at *;omega))|(refine s2 rfl ?_;intro _ _hb)|(refine s3 rfl ?_ ?_<;>intro hb<;>subst hb)|refine aS ?_|refine reg (by kernel_rfl) ?_|refine lexE ?_|refine rD (by kernel_rfl) (by kernel_rfl) ?_)
  (refine popO rfl ?_;refine popW ?_ rfl (by rfl);refine n_box rfl rfl ?_)
  (refine popO rfl ?_;refine popS (fun _ _=>q_boxI rfl rfl rfl) rfl ?_)
  (repeat first|refine sN rfl ?_|((first|refine sA rfl ?_ ?_|refine s4 rfl ‹_› rfl ?_ ?_);first|exact tI|omega|(simp only[oZ] at *;omega))|(refine s2 rfl ?_;intro _ _hb)|(refine s3 rfl ?_ ?_<;>intro hb<;>subst hb)|refine aS ?_|refine reg (by kernel_rfl) ?_|refine lexE ?_)
  (refine popO rfl ?_;refine popW ?_ rfl (by rfl);refine n_call [] rfl rfl (rowNumbers_ok hc al t hask.1) ⟨rfl,by simp,by simp⟩ (by simp [renEs,E.ren,C.renL,C.ren,hr,eC]) trivial ?_;rintro x0 σ1 nx1 ⟨rfl,rfl,rfl⟩ _)
  (repeat first|refine sN rfl ?_|((first|refine sA rfl ?_ ?_|refine s4 rfl ‹_› rfl ?_ ?_);first|exact tI|omega|(simp only[oZ] at *;omega))|(refine s2 rfl ?_;intro _ _hb)|(refine s3 rfl ?_ ?_<;>intro hb<;>subst hb)|refine aS ?_|refine reg (by kernel_rfl) ?_|refine lexE ?_)
  (refine popO rfl ?_;refine popW ?_ rfl (by rfl);refine n_buildN2 1 1 61 2 1 4 rfl rfl (by decide) rfl rfl (by rfl) (by rfl) ?_)
  (repeat first|refine sN rfl ?_|((first|refine sA rfl ?_ ?_|refine s4 rfl ‹_› rfl ?_ ?_);first|exact tI|omega|(simp only[oZ] at *;omega))|(refine s2 rfl ?_;intro _ _hb)|(refine s3 rfl ?_ ?_<;>intro hb<;>subst hb)|refine aS ?_|refine reg (by kernel_rfl) ?_|refine lexE ?_)
  refine AWp.block ?_
  refine AWp.loopL (α:={k:Nat // k≤t.rows.length}) (fun ⟨k,hkl⟩=>[(2,.o (.ptr 0 2 0 0)),(3,.o (.ip (taRow t))),(4,.o (.ptr 1 3 0 0)),(5,.o (.mp 2)),(6,.o (.ptr 3 3 0 0)),(19,.o (.d (tList t.rows))),(20,eI .i64 t.rows.length),(21,eI .i64 k)]) (fun ⟨k,hkl⟩=>[(0,.cells 77 2 [[.d (iD al),c]]),(1,.cells 26 3 [[.d (iD 0),.d (.l []),.d (.l [])]]),(2,.mp (mapT (numsTo L t t.rows.length))),(3,.cells 26 3 [[.d (iD al),.arr 4 1 0 k,.arr 5 1 0 k]]),(4,.cells 61 1 (((autM L al t).nx.take k).map fun r=>[.d (iList r)])),(5,.cells 4 1 (((autM L al t).ac.take k).map fun b=>[.d (bD b)]))]) 6 (fun ⟨k,hkl⟩=>t.rows.length - k) (⟨0,by omega⟩) [0,1,2,5,3,4] (rl3 hΓ rfl rfl) (by (repeat' first|exact tI|rfl|refine And.intro ?_ ?_)<;>simp[cX,zC,hΓ,hr,eC,Store.ren,killL,nmo,fillC,spliceC]) ?_;rintro ⟨k,hkl⟩;(try dsimp only)
  (repeat first|refine sN rfl ?_|((first|refine sM rfl ?_ ?_|refine s4 rfl ‹_› rfl ?_ ?_);first|exact tI|omega|(simp only[oZ] at *;omega))|(refine s2 rfl ?_;intro _ _hb)|(refine s3 rfl ?_ ?_<;>intro hb<;>subst hb)|refine aS ?_|refine reg (by kernel_rfl) ?_|refine lexE ?_|refine rD (by kernel_rfl) (by kernel_rfl) ?_)
  (refine aC rfl ?_ ?_<;>intro hb<;>cases hb)
  · have hlt:k < t.rows.length:=by first|omega|(simp only[oZ] at *;omega)
    obtain ⟨r,hx⟩:=get_some (l:=t.rows) (k:=k) hlt
    have hx':=get_map (g:=tRow) hx
    have hxm:=List.mem_of_getElem? hx
    refine AWp.skip ?_
    refine AWp.seq (AWp.block ?_)
    (repeat first|refine sN rfl ?_|((first|refine sM rfl ?_ ?_|refine s4 rfl ‹_› rfl ?_ ?_);first|exact tI|omega|(simp only[oZ] at *;omega))|(refine s2 rfl ?_;intro _ _hb)|(refine s3 rfl ?_ ?_<;>intro hb<;>subst hb)|refine aS ?_|refine reg (by kernel_rfl) ?_|refine lexE ?_|refine rD (by kernel_rfl) (by kernel_rfl) ?_)
    (refine popO rfl ?_;refine popW ?_ rfl (by rfl);refine n_nil 1 3 ?_)
    (repeat first|refine sN rfl ?_|((first|refine sM rfl ?_ ?_|refine s4 rfl ‹_› rfl ?_ ?_);first|exact tI|omega|(simp only[oZ] at *;omega))|(refine s2 rfl ?_;intro _ _hb) |refine sP rfl (lettersOf_ok al) rfl ?_|(refine s3 rfl ?_ ?_<;>intro hb<;>subst hb)|refine aS ?_|refine reg (by kernel_rfl) ?_|refine lexE ?_|refine rD (by kernel_rfl) (by kernel_rfl) ?_)
    refine AWp.block ?_
    refine AWp.loopL (α:={j:Nat // j≤(letters al).length}) (fun ⟨j,hjl⟩=>[(2,.o (.ptr 0 2 0 0)),(3,.o (.ip (taRow t))),(4,.o (.ptr 1 3 0 0)),(5,.o (.mp 2)),(6,.o (.ptr 3 3 0 0)),(19,.o (.d (tList t.rows))),(20,eI .i64 t.rows.length),(21,eI .i64 k),(8,eT r),(9,.o (.arr 6 1 0 j)),(27,eInts (letters al)),(28,eI .i64 (letters al).length),(29,eI .i64 j)]) (fun ⟨j,hjl⟩=>[(0,.cells 77 2 [[.d (iD al),c]]),(1,.cells 26 3 [[.d (iD 0),.d (.l []),.d (.l [])]]),(2,.mp (mapT (numsTo L t t.rows.length))),(3,.cells 26 3 [[.d (iD al),.arr 4 1 0 k,.arr 5 1 0 k]]),(4,.cells 61 1 (((autM L al t).nx.take k).map fun r=>[.d (iList r)])),(5,.cells 4 1 (((autM L al t).ac.take k).map fun b=>[.d (bD b)])),(6,.cells 3 1 (((letters al).take j).map fun l=>[.d (iD ((idxM L t (r++[lb l]):Nat):Int))]))]) 7 (fun ⟨j,hjl⟩=>(letters al).length - j) (⟨0,by omega⟩) [0,1,2,3,4,5,6] (rl3 hΓ rfl rfl) (by (repeat' first|exact tI|rfl|refine And.intro ?_ ?_)<;>simp[cX,zC,hΓ,hr,eC,Store.ren,killL,nmo]) ?_;rintro ⟨j,hjl⟩;(try dsimp only)
    (repeat first|refine sN rfl ?_|((first|refine sM rfl ?_ ?_|refine s4 rfl ‹_› rfl ?_ ?_);first|exact tI|omega|(simp only[oZ] at *;omega))|(refine s2 rfl ?_;intro _ _hb)|(refine s3 rfl ?_ ?_<;>intro hb<;>subst hb)|refine aS ?_|refine reg (by kernel_rfl) ?_|refine lexE ?_|refine rD (by kernel_rfl) (by kernel_rfl) ?_)
    (refine aC rfl ?_ ?_<;>intro hb<;>cases hb)
    · have hjlt:j < (letters al).length:=by first|omega|(simp only[oZ] at *;omega)
      obtain ⟨l,hl⟩:=get_some (l:=letters al) (k:=j) hjlt
      have hl':=get_map (g:=iRow) hl
      have hlm:=List.mem_of_getElem? hl
      have hlb:=lettersTo_in hlm
      have hrb:=ht.onR r hxm
      have hm:=marks_ok (TB:=TB) hc al t (r++[lb l]) (by omega) (fun x hx=>hask.2 r hxm _ (List.mem_map.2 ⟨l,hlm,rfl⟩) x hx) (fun y hy=>by have:=(ht.onC y hy).2;simp;omega)
      have hlk:=look_idx ho hxm hlm
      refine AWp.skip ?_
      refine AWp.seq (AWp.block ?_)
      (repeat first|refine sN rfl ?_|((first|refine sA rfl ?_ ?_|refine s4 rfl ‹_› rfl ?_ ?_);first|exact tI|omega|(simp only[oZ] at *;omega))|(refine s2 rfl ?_;intro _ _hb)|(refine s3 rfl ?_ ?_<;>intro hb<;>subst hb)|refine aS ?_|refine reg (by kernel_rfl) ?_|refine lexE ?_)
      refine regD (flN [13]) mixed (by kernel_rfl) (by kernel_rfl) ?_
      (repeat first|refine sN rfl ?_|((first|refine sA rfl ?_ ?_|refine s4 rfl ‹_› rfl ?_ ?_);first|exact tI|omega|(simp only[oZ] at *;omega))|(refine s2 rfl ?_;intro _ _hb) |refine sP rfl (letterByte_ok l hlb.1 (by omega)) rfl ?_|(refine popO rfl ?_;refine gA rfl ?_;first|refine gS (fun _ _=>q_rune rfl (by omega) (by omega)) ?_)|(refine s3 rfl ?_ ?_<;>intro hb<;>subst hb)|refine aS ?_|refine reg (by kernel_rfl) ?_|refine lexE ?_)
      rw [lb_of hlb.1]
      (repeat first|refine sN rfl ?_|((first|refine sM rfl ?_ ?_|refine s4 rfl ‹_› rfl ?_ ?_);first|exact tI|omega|(simp only[oZ] at *;omega))|(refine s2 rfl ?_;intro _ _hb)|(refine popO rfl ?_;refine gA rfl ?_;first|refine gS (fun _ _=>q_call rfl rfl (by simp [E.pur,C.purL,C.pur,hc.pur]) hm rfl) ?_|refine gQ (q_look0 rfl rfl rfl) (by rfl) ?_)|(refine s3 rfl ?_ ?_<;>intro hb<;>subst hb)|refine aS ?_|refine reg (by kernel_rfl) ?_|refine lexE ?_|refine rD (by kernel_rfl) (by kernel_rfl) ?_)
      (repeat first|refine sN rfl ?_|((first|refine sA rfl ?_ ?_|refine s4 rfl ‹_› rfl ?_ ?_);first|exact tI|omega|(simp only[oZ] at *;omega))|(refine s2 rfl ?_;intro _ _hb)|(refine s3 rfl ?_ ?_<;>intro hb<;>subst hb)|refine aS ?_|refine reg (by kernel_rfl) ?_|refine lexE ?_)
      (refine popO rfl ?_;refine popW ?_ rfl (by rfl);refine n_append rfl rfl rfl (by first|(simp;done)|(simp;(first|omega|(simp only[oZ] at *;omega)))) rfl (by intro r hr;simp at hr;subst hr;rfl) (by rfl) (Nat.le_of_ble_eq_true rfl) (by simp;omega) ?_)
      (repeat first|refine sN rfl ?_|((first|refine sA rfl ?_ ?_|refine s4 rfl ‹_› rfl ?_ ?_);first|exact tI|omega|(simp only[oZ] at *;omega))|(refine s2 rfl ?_;intro _ _hb)|(refine s3 rfl ?_ ?_<;>intro hb<;>subst hb)|refine aS ?_|refine reg (by kernel_rfl) ?_|refine lexE ?_)
      rw [hlk]
      refine ⟨⟨j+1,by first|omega|(simp only[oZ] at *;omega)⟩,by dsimp only;(first|omega|(simp only[oZ] at *;omega)),[0,1,2,3,4,5,7],?_⟩
      simp[cX,zC,hΓ,hr,List.take_add_one,hl]
    · obtain rfl:j=(letters al).length:=by first|omega|(simp only[oZ] at *;omega)
      have hok:=hf r (ht.onR r hxm).1 (by have:=(ht.onR r hxm).2;omega)
      have hnx:(autM L al t).nx.take (k+1)=(autM L al t).nx.take k++[(letters al).map fun l=>((idxM L t (r++[lb l]):Nat):Int)]:=by
        rw [List.take_add_one];simp [autM,hx]
      have hac:(autM L al t).ac.take (k+1)=(autM L al t).ac.take k++[L r]:=by
        rw [List.take_add_one];simp [autM,hx]
      refine AWp.exit ?_
      rw [List.take_length]
      refine AWp.freezeV [6] [2,3,4,5,6,8,19,20,21] rfl [(9,eInts ((letters al).map fun l=>((idxM L t (r++[lb l]):Nat):Int)))] ⟨⟨_,rfl,.o (.full (by simp) rfl (by simp [Function.comp_def]) (by simp))⟩,trivial⟩ ?_;(try dsimp only[List.cons_append,List.nil_append])
      (repeat first|refine sN rfl ?_|((first|refine sA rfl ?_ ?_|refine s4 rfl ‹_› rfl ?_ ?_);first|exact tI|omega|(simp only[oZ] at *;omega))|(refine s2 rfl ?_;intro _ _hb)|(refine s3 rfl ?_ ?_<;>intro hb<;>subst hb)|refine aS ?_|refine reg (by kernel_rfl) ?_|refine lexE ?_)
      (refine popO rfl ?_;refine popW ?_ rfl (by rfl);refine n_append rfl rfl rfl (by first|(simp;done)|(simp;(first|omega|(simp only[oZ] at *;omega)))) rfl (by intro r hr;simp at hr;subst hr;rfl) (by rfl) (Nat.le_of_ble_eq_true rfl) (by simp;omega) ?_)
      (repeat first|refine sN rfl ?_|((first|refine sA rfl ?_ ?_|refine s4 rfl ‹_› rfl ?_ ?_);first|exact tI|omega|(simp only[oZ] at *;omega))|(refine s2 rfl ?_;intro _ _hb)|(refine s3 rfl ?_ ?_<;>intro hb<;>subst hb)|refine aS ?_|refine reg (by kernel_rfl) ?_|refine lexE ?_)
      refine regD (flN [7,9]) mixed (by kernel_rfl) (by kernel_rfl) ?_
      (repeat first|refine sN rfl ?_|((first|refine sA rfl ?_ ?_|refine s4 rfl ‹_› rfl ?_ ?_);first|exact tI|omega|(simp only[oZ] at *;omega))|(refine s2 rfl ?_;intro _ _hb)|(refine popO rfl ?_;refine gA rfl ?_;first|refine gS (fun _ _=>hc.ask rfl rfl hok) ?_)|(refine s3 rfl ?_ ?_<;>intro hb<;>subst hb)|refine aS ?_|refine reg (by kernel_rfl) ?_|refine lexE ?_)
      (refine popO rfl ?_;refine popW ?_ rfl (by rfl);refine n_append rfl rfl rfl (by first|(simp;done)|(simp;(first|omega|(simp only[oZ] at *;omega)))) rfl (by intro r hr;simp at hr;subst hr;rfl) (by rfl) (Nat.le_of_ble_eq_true rfl) (by simp;omega) ?_)
      (repeat first|refine sN rfl ?_|((first|refine sA rfl ?_ ?_|refine s4 rfl ‹_› rfl ?_ ?_);first|exact tI|omega|(simp only[oZ] at *;omega))|(refine s2 rfl ?_;intro _ _hb)|(refine s3 rfl ?_ ?_<;>intro hb<;>subst hb)|refine aS ?_|refine reg (by kernel_rfl) ?_|refine lexE ?_)
      refine ⟨⟨k+1,by first|omega|(simp only[oZ] at *;omega)⟩,by dsimp only;(first|omega|(simp only[oZ] at *;omega)),[0,1,2,3,7,8],?_⟩
      simp[cX,zC,hΓ,hr,eC,Store.ren,killL,nmo,fillC,spliceC,hnx,hac]
  · obtain rfl:k=t.rows.length:=by first|omega|(simp only[oZ] at *;omega)
    have ht1:(autM L al t).nx.take t.rows.length=(autM L al t).nx:=List.take_of_length_le (by simp [autM])
    have ht2:(autM L al t).ac.take t.rows.length=(autM L al t).ac:=List.take_of_length_le (by simp [autM])
    rw [ht1,ht2]
    refine AWp.exit ?_
    (repeat first|refine sN rfl ?_|((first|refine sM rfl ?_ ?_|refine s4 rfl ‹_› rfl ?_ ?_);first|exact tI|omega|(simp only[oZ] at *;omega))|(refine s2 rfl ?_;intro _ _hb)|(refine s3 rfl ?_ ?_<;>intro hb<;>subst hb)|refine aS ?_|refine reg (by kernel_rfl) ?_|refine lexE ?_|refine rD (by kernel_rfl) (by kernel_rfl) ?_)
    refine AWp.settle [(4,.o (.ip [iD al,iiList (autM L al t).nx,bList (autM L al t).ac]))] ⟨⟨_,rfl,.o (.box rfl (.cons .d (.cons (.full rfl (by simp [Function.comp_def]) (by simp [autM])) (.cons (.full rfl (by simp [Function.comp_def]) (by simp [autM])) .nil))))⟩,trivial⟩ ?_
    refine AWp.ret ⟨_,rfl,rfl⟩
end Go.Am
namespace Go.Am
open Go Go.Proofs
set_option maxHeartbeats 1000000
attribute [local irreducible] QOp AOp Lex LexO AWp Spec
variable {TB:Amb}
theorem letterAt_ok (w:W) (i:Nat) (c:UInt8) (hc:w[((i:Nat):Int).toNat]? = some c) (hl:0≤(c.toNat:Int) - 97∧(c.toNat:Int) - 97 < 6):Pure Tryz.prog TB 40 [eT w,eI .i64 i] (eI .i64 ((c.toNat:Int) - 97)):=by
  refine eN Tryz.func40 rfl (by kernel_rfl) rfl ?_;intro Γ hΓ
  (repeat' first|refine sN rfl ?_|((first|refine sA rfl ?_ ?_|refine s4 rfl ‹_› rfl ?_ ?_);first|exact tI|omega|(simp only[oZ] at *;omega))|(refine s2 rfl ?_;intro _ _hb)|(refine s3 rfl ?_ ?_<;>intro hb<;>subst hb)|refine aS ?_|refine reg (by kernel_rfl) ?_|refine lexE ?_|refine rD (by kernel_rfl) (by kernel_rfl) ?_|(refine aC rfl ?_ ?_<;>intro hb<;>cases hb)|refine aK ?_|refine aE ?_|refine aB ?_|refine AWp.ret ⟨_,rfl,?_⟩)
  all_goals first
    | rfl
    | (exfalso;grind)
abbrev teRow (kn:Bool) (p:Aut) (s:Sys) (q:Aut) (al:Int):List D:=[bD kn,iD p.al,iiList p.nx,bList p.ac,iD s.al,iD s.st,edList s.es,iD q.al,iiList q.nx,bList q.ac,iD al]
theorem on_take {ls:List UInt8} {w:W} (h:wordOn ls w) (k:Nat):wordOn ls (w.take k):=fun c hc=>h c (List.mem_of_mem_take hc)
theorem on_drop {ls:List UInt8} {w:W} (h:wordOn ls w) (k:Nat):wordOn ls (w.drop k):=fun c hc=>h c (List.mem_of_mem_drop hc)
theorem runA_step {p:Aut} {w:W} {k:Nat} {c:UInt8} (hc:w[k]? = some c) (q:Int):runA p q (w.take (k+1))=goA p (runA p q (w.take k)).toNat ((c.toNat:Int) - 97):=by
  rw [List.take_add_one,hc,runA_app];rfl
theorem runM_step {L:W→Bool} {t:Tab} {w:W} {k:Nat} {c:UInt8} (hc:w[k]? = some c) (q:Nat):runM L t q (w.take (k+1))=idxM L t (t.rows.getD (runM L t q (w.take k)) []++[c]):=by
  rw [List.take_add_one,hc,runM_app];rfl
theorem ask1_ok {p:Aut} (hp:autOk p=true) (s:Sys) (q:Aut) (al:Int) (kn:Bool) (w:W) (hw:wordOn (lsB p.al) w) (hl:w.length≤1048576) :
    Pure Tryz.prog TB 76 [eT w,.o (.ip [.l (tblD p)]),.o (.ip (teRow kn p s q al))] (eB (LA p w)):=by
  have hph:=autOk_head hp
  refine eN Tryz.func76 rfl (by kernel_rfl) rfl ?_;intro Γ hΓ
  (repeat first|refine sN rfl ?_|((first|refine sA rfl ?_ ?_|refine s4 rfl ‹_› rfl ?_ ?_);first|exact tI|omega|(simp only[oZ] at *;omega))|(refine s2 rfl ?_;intro _ _hb)|(refine s3 rfl ?_ ?_<;>intro hb<;>subst hb)|refine aS ?_|refine reg (by kernel_rfl) ?_|refine lexE ?_)
  refine AWp.block ?_
  refine AWp.loopV (α:={k:Nat // k≤w.length}) [0,1,2,8] [] rfl rfl (fun ⟨k,hk⟩=>[(5,eI .i64 (runA p 0 (w.take k))),(9,eI .i64 k)]) (fun ⟨k,hk⟩=>[]) 0 (fun ⟨k,hk⟩=>w.length - k) (⟨0,by omega⟩) (List.range 0) (rg hΓ rfl) (by (repeat' first|exact tI|rfl|refine And.intro ?_ ?_)<;>(simp[cX,zC,hΓ]<;>rfl)) ?_;rintro ⟨k,hk⟩;(try dsimp only[List.cons_append,List.nil_append])
  have hr:=runA_in hp (w.take k) 0 (on_take hw k) (by omega)
  by_cases hlt:k < w.length
  · obtain ⟨c,hc⟩:=get_some hlt
    have hc':w[((k:Nat):Int).toNat]? = some c:=by simpa using hc
    have hcl:=lsB_num (hw c (List.mem_of_getElem? hc))
    have hla:=letterAt_ok (TB:=TB) w k c hc' hcl
    have ta:=tbl_get (a:=p) (q:=(runA p 0 (w.take k)).toNat) (by omega)
    have el:((((c.toNat:Int) - 97).toNat:Nat):Int)=(c.toNat:Int) - 97:=by omega
    have ra:=rowD_get (h:=fun l=>goA p (runA p 0 (w.take k)).toNat l) hcl.1 (by omega)
    simp only [el] at ra
    have hst:=runA_step (p:=p) hc 0
    (repeat first|refine sN rfl ?_|((first|refine sA rfl ?_ ?_|refine s4 rfl ‹_› rfl ?_ ?_);first|exact tI|omega|(simp only[oZ] at *;omega))|(refine s2 rfl ?_;intro _ _hb)|(refine s3 rfl ?_ ?_<;>intro hb<;>subst hb)|refine aS ?_|refine reg (by kernel_rfl) ?_|refine lexE ?_)
    (refine aC rfl ?_ ?_<;>intro hb<;>cases hb)
    · (repeat' first|refine sN rfl ?_|((first|refine sA rfl ?_ ?_|refine s4 rfl ‹_› rfl ?_ ?_);first|exact tI|omega|(simp only[oZ] at *;omega))|(refine s2 rfl ?_;intro _ _hb) |refine sP rfl (hla) rfl ?_|(refine popO rfl ?_;refine gA rfl ?_;first|refine gS (fun _ _=>q_loadIp0 rfl ra) ?_)|(refine s3 rfl ?_ ?_<;>intro hb<;>subst hb)|refine aS ?_|refine reg (by kernel_rfl) ?_|refine lexE ?_|refine rD (by kernel_rfl) (by kernel_rfl) ?_|(refine aC rfl ?_ ?_<;>intro hb<;>cases hb)|refine aK ?_|refine aE ?_|refine aB ?_|refine AWp.ret ⟨_,rfl,?_⟩)
      refine ⟨⟨k+1,by first|omega|(simp only[oZ] at *;omega)⟩,by dsimp only;(first|omega|(simp only[oZ] at *;omega)),[],?_⟩
      simp[cX,zC,hΓ,hst]
    · exfalso;first|omega|(simp only[oZ] at *;omega)
  · obtain rfl:k=w.length:=by omega
    rw [List.take_length] at *
    obtain ⟨b,hb⟩:=get_some (l:=p.ac) (k:=(runA p 0 w).toNat) (by omega)
    have hb':(p.ac.map bRow)[(runA p 0 w).toNat]? = some (bRow b):=by simp [hb]
    have hbl:LA p w=b:=by unfold LA;simp [List.getD,hb]
    rw [hbl]
    (repeat first|refine sN rfl ?_|((first|refine sA rfl ?_ ?_|refine s4 rfl ‹_› rfl ?_ ?_);first|exact tI|omega|(simp only[oZ] at *;omega))|(refine s2 rfl ?_;intro _ _hb)|(refine s3 rfl ?_ ?_<;>intro hb<;>subst hb)|refine aS ?_|refine reg (by kernel_rfl) ?_|refine lexE ?_)
    (refine aC rfl ?_ ?_<;>intro hb<;>cases hb)
    · exfalso;first|omega|(simp only[oZ] at *;omega)
    · (repeat' first|refine sN rfl ?_|((first|refine sA rfl ?_ ?_|refine s4 rfl ‹_› rfl ?_ ?_);first|exact tI|omega|(simp only[oZ] at *;omega))|(refine s2 rfl ?_;intro _ _hb)|(refine s3 rfl ?_ ?_<;>intro hb<;>subst hb)|refine aS ?_|refine reg (by kernel_rfl) ?_|refine lexE ?_|refine rD (by kernel_rfl) (by kernel_rfl) ?_|(refine aC rfl ?_ ?_<;>intro hb<;>cases hb)|refine aK ?_|refine aE ?_|refine aB ?_|refine AWp.ret ⟨_,rfl,?_⟩)
      rfl
def splitO (L:W→Bool) (t:Tab) (w:W):Option W:=if accM L t w=L w then none else splitAt L t (L w) 0 w
theorem splitAt_step {L:W→Bool} {t:Tab} {b:Bool} {w:W} {k q:Nat} {c:UInt8} (hc:w[k]? = some c):splitAt L t b q (w.drop k)=if L (t.rows.getD (idxM L t (t.rows.getD q []++[c])) []++w.drop (k+1))≠b then some (w.drop (k+1)) else splitAt L t b (idxM L t (t.rows.getD q []++[c])) (w.drop (k+1)):=by
  rw [drop_some hc,splitAt]
theorem splitWord_ok {c:C} {L:W→Bool} {ok:W→Prop} (hc:AskV Tryz.prog TB c L ok) (al:Int) (t:Tab) (hf:OkFits ok al) (ht:TBd al 20012 t) (hal:alphB al=true) (hcl:Closed L (lsB al) t) (ho:openW L (lsB al) t=none) (w:W) (hw:wordOn (lsB al) w) (hwl:w.length≤20000) :
    Pure Tryz.prog TB 94 [eOra al c,eTab t,eT w] (eOpt (splitO L t w)):=by
  have hr:=ren_pur c hc.pur
  have hrl:=ht.rl
  have hau:=automaton_ok (TB:=TB) hc al t hf ht ho
  have haok:=autM_ok hal hcl hrl
  have hta:=tableOf_ok (TB:=TB) (autM L al t) haok
  have hnl:(autM L al t).nx.length=t.rows.length:=by simp [autM]
  have h0:0 < t.rows.length:=(List.getElem?_eq_some_iff.1 hcl.r0).1
  have hokw:=hf w hw (by omega)
  have hpu:([eOra al c,eTab t].all E.pur && C.purL [])=true:=by simp [E.pur,C.purL,C.pur,hc.pur]
  refine eN Tryz.func94 rfl (by kernel_rfl) rfl ?_;intro Γ hΓ
  (repeat first|refine sN rfl ?_|((first|refine sA rfl ?_ ?_|refine s4 rfl ‹_› rfl ?_ ?_);first|exact tI|omega|(simp only[oZ] at *;omega))|(refine s2 rfl ?_;intro _ _hb)|(refine s3 rfl ?_ ?_<;>intro hb<;>subst hb)|refine aS ?_|refine reg (by kernel_rfl) ?_|refine lexE ?_)
  (refine popO rfl ?_;refine popW ?_ rfl (by rfl);refine n_box rfl rfl ?_)
  (refine popO rfl ?_;refine popS (fun _ _=>q_boxI rfl rfl rfl) rfl ?_)
  (repeat first|refine sN rfl ?_|((first|refine sA rfl ?_ ?_|refine s4 rfl ‹_› rfl ?_ ?_);first|exact tI|omega|(simp only[oZ] at *;omega))|(refine s2 rfl ?_;intro _ _hb)|(refine s3 rfl ?_ ?_<;>intro hb<;>subst hb)|refine aS ?_|refine reg (by kernel_rfl) ?_|refine lexE ?_)
  (repeat first|refine sN rfl ?_|((first|refine sA rfl ?_ ?_|refine s4 rfl ‹_› rfl ?_ ?_);first|exact tI|omega|(simp only[oZ] at *;omega))|(refine s2 rfl ?_;intro _ _hb)|(refine popO rfl ?_;refine gA rfl ?_;first|refine gS (fun _ _=>q_call rfl rfl hpu hau rfl) ?_)|(refine s3 rfl ?_ ?_<;>intro hb<;>subst hb)|refine aS ?_|refine reg (by kernel_rfl) ?_|refine lexE ?_)
  (repeat first|refine sN rfl ?_|((first|refine sA rfl ?_ ?_|refine s4 rfl ‹_› rfl ?_ ?_);first|exact tI|omega|(simp only[oZ] at *;omega))|(refine s2 rfl ?_;intro _ _hb) |refine sP rfl (hta) rfl ?_|(refine s3 rfl ?_ ?_<;>intro hb<;>subst hb)|refine aS ?_|refine reg (by kernel_rfl) ?_|refine lexE ?_)
  refine AWp.block ?_
  refine AWp.loopV (α:={k:Nat // k≤w.length}) [2,3,4,8,9,20] [0,1] rfl rfl (fun ⟨k,hk⟩=>[(10,eI .i64 (runM L t 0 (w.take k):Nat)),(21,eI .i64 k)]) (fun ⟨k,hk⟩=>[]) 2 (fun ⟨k,hk⟩=>w.length - k) (⟨0,by omega⟩) (List.range 2) (rg hΓ rfl) (by (repeat' first|exact tI|rfl|refine And.intro ?_ ?_)<;>(simp[cX,zC,hΓ,hr]<;>rfl)) ?_;rintro ⟨k,hk⟩;(try dsimp only[List.cons_append,List.nil_append])
  have hrn:=hcl.run (w.take k) 0 (on_take hw k) h0
  by_cases hlt:k < w.length
  · obtain ⟨c2,hc2⟩:=get_some hlt
    have hc':w[((k:Nat):Int).toNat]? = some c2:=by simpa using hc2
    have hcm:=hw c2 (List.mem_of_getElem? hc2)
    have hcn:=lsB_num hcm
    have hla:=letterAt_ok (TB:=TB) w k c2 hc' hcn
    have ta:=tbl_get (a:=autM L al t) (q:=(((runM L t 0 (w.take k):Nat):Int)).toNat) (by omega)
    have el:((((c2.toNat:Int) - 97).toNat:Nat):Int)=(c2.toNat:Int) - 97:=by omega
    have ra:=rowD_get (h:=fun l=>goA (autM L al t) (((runM L t 0 (w.take k):Nat):Int)).toNat l) hcn.1 (by omega)
    simp only [el] at ra
    have hga:=goA_autM (L:=L) (al:=al) (t:=t) (q:=runM L t 0 (w.take k)) hrn hcm
    have hst:=runM_step (L:=L) (t:=t) hc2 0
    rw [←hst] at hga
    rw [Int.toNat_natCast,hga] at ra
    (repeat first|refine sN rfl ?_|((first|refine sA rfl ?_ ?_|refine s4 rfl ‹_› rfl ?_ ?_);first|exact tI|omega|(simp only[oZ] at *;omega))|(refine s2 rfl ?_;intro _ _hb)|(refine s3 rfl ?_ ?_<;>intro hb<;>subst hb)|refine aS ?_|refine reg (by kernel_rfl) ?_|refine lexE ?_)
    (refine aC rfl ?_ ?_<;>intro hb<;>cases hb)
    · (repeat' first|refine sN rfl ?_|((first|refine sA rfl ?_ ?_|refine s4 rfl ‹_› rfl ?_ ?_);first|exact tI|omega|(simp only[oZ] at *;omega))|(refine s2 rfl ?_;intro _ _hb) |refine sP rfl (hla) rfl ?_|(refine popO rfl ?_;refine gA rfl ?_;first|refine gS (fun _ _=>q_loadIp0 rfl ra) ?_)|(refine s3 rfl ?_ ?_<;>intro hb<;>subst hb)|refine aS ?_|refine reg (by kernel_rfl) ?_|refine lexE ?_|refine rD (by kernel_rfl) (by kernel_rfl) ?_|(refine aC rfl ?_ ?_<;>intro hb<;>cases hb)|refine aK ?_|refine aE ?_|refine aB ?_|refine AWp.ret ⟨_,rfl,?_⟩)
      refine ⟨⟨k+1,by first|omega|(simp only[oZ] at *;omega)⟩,by dsimp only;(first|omega|(simp only[oZ] at *;omega)),[0,1],?_⟩
      simp[cX,zC,hΓ,hr]
    · exfalso;first|omega|(simp only[oZ] at *;omega)
  · obtain rfl : k=w.length:=by omega
    rw [List.take_length] at *
    (repeat first|refine sN rfl ?_|((first|refine sA rfl ?_ ?_|refine s4 rfl ‹_› rfl ?_ ?_);first|exact tI|omega|(simp only[oZ] at *;omega))|(refine s2 rfl ?_;intro _ _hb)|(refine s3 rfl ?_ ?_<;>intro hb<;>subst hb)|refine aS ?_|refine reg (by kernel_rfl) ?_|refine lexE ?_)
    (refine aC rfl ?_ ?_<;>intro hb<;>cases hb)
    · exfalso;first|omega|(simp only[oZ] at *;omega)
    · refine AWp.exit ?_
      have hacx:((autM L al t).ac.map bRow)[(((runM L t 0 w:Nat):Int)).toNat]? = some (bRow (accM L t w)):=by
        unfold accM
        simp [autM,List.getD,hrn]
      (repeat first|refine sN rfl ?_|((first|refine sA rfl ?_ ?_|refine s4 rfl ‹_› rfl ?_ ?_);first|exact tI|omega|(simp only[oZ] at *;omega))|(refine s2 rfl ?_;intro _ _hb)|(refine popO rfl ?_;refine gA rfl ?_;first|refine gS (fun _ _=>hc.ask rfl rfl hokw) ?_)|(refine s3 rfl ?_ ?_<;>intro hb<;>subst hb)|refine aS ?_|refine reg (by kernel_rfl) ?_|refine lexE ?_)
      (refine aC rfl ?_ ?_<;>intro hb<;>cases hb)
      · have hn:splitO L t w=none:=by unfold splitO;rw [if_pos (by simpa using _hb)]
        (repeat first|refine sN rfl ?_|((first|refine sA rfl ?_ ?_|refine s4 rfl ‹_› rfl ?_ ?_);first|exact tI|omega|(simp only[oZ] at *;omega))|(refine s2 rfl ?_;intro _ _hb)|(refine s3 rfl ?_ ?_<;>intro hb<;>subst hb)|refine aS ?_|refine reg (by kernel_rfl) ?_|refine lexE ?_)
        refine AWp.ret ⟨_,rfl,?_⟩
        rw [hn];rfl
      · have hso:splitO L t w=splitAt L t (L w) 0 w:=by unfold splitO;rw [if_neg (by simpa using _hb)]
        rw [hso]
        refine AWp.skip ?_
        (repeat first|refine sN rfl ?_|((first|refine sA rfl ?_ ?_|refine s4 rfl ‹_› rfl ?_ ?_);first|exact tI|omega|(simp only[oZ] at *;omega))|(refine s2 rfl ?_;intro _ _hb)|(refine s3 rfl ?_ ?_<;>intro hb<;>subst hb)|refine aS ?_|refine reg (by kernel_rfl) ?_|refine lexE ?_)
        refine AWp.block ?_
        refine AWp.loopV (α:={k:Nat // k≤w.length∧splitAt L t (L w) 0 w=splitAt L t (L w) (runM L t 0 (w.take k)) (w.drop k)}) [2,3,4,9,12,45] [0] rfl rfl (fun ⟨k,hk,he⟩=>[(10,eI .i64 (runM L t 0 (w.take k):Nat)),(46,eI .i64 k)]) (fun ⟨k,hk,he⟩=>[]) 1 (fun ⟨k,hk,he⟩=>w.length - k) (⟨0,by omega,rfl⟩) (List.range 1) (rg hΓ rfl) (by (repeat' first|exact tI|rfl|refine And.intro ?_ ?_)<;>(simp[cX,zC,hΓ,hr]<;>rfl)) ?_;rintro ⟨k,hk,he⟩;(try dsimp only[List.cons_append,List.nil_append])
        have hrn:=hcl.run (w.take k) 0 (on_take hw k) h0
        by_cases hlt:k < w.length
        · obtain ⟨c2,hc2⟩:=get_some hlt
          have hc':w[((k:Nat):Int).toNat]? = some c2:=by simpa using hc2
          have hcm:=hw c2 (List.mem_of_getElem? hc2)
          have hcn:=lsB_num hcm
          have hla:=letterAt_ok (TB:=TB) w k c2 hc' hcn
          have ta:=tbl_get (a:=autM L al t) (q:=(((runM L t 0 (w.take k):Nat):Int)).toNat) (by omega)
          have el:((((c2.toNat:Int) - 97).toNat:Nat):Int)=(c2.toNat:Int) - 97:=by omega
          have ra:=rowD_get (h:=fun l=>goA (autM L al t) (((runM L t 0 (w.take k):Nat):Int)).toNat l) hcn.1 (by omega)
          simp only [el] at ra
          have hga:=goA_autM (L:=L) (al:=al) (t:=t) (q:=runM L t 0 (w.take k)) hrn hcm
          have hst:=runM_step (L:=L) (t:=t) hc2 0
          have hrn2:=hcl.run (w.take (k+1)) 0 (on_take hw (k+1)) h0
          rw [splitAt_step hc2,←hst] at he
          rw [←hst] at hga
          rw [Int.toNat_natCast,hga] at ra
          generalize hq2:runM L t 0 (w.take (k+1))=q2 at *
          obtain ⟨r2,hr2⟩:=get_some (l:=t.rows) (k:=q2) hrn2
          have hr2':=get_map (g:=tRow) hr2
          have hgd:t.rows.getD q2 []=r2:=by simp [List.getD,hr2]
          rw [hgd] at he
          have hrb:=ht.onR r2 (List.mem_of_getElem? hr2)
          have hdl:(w.drop (k+1)).length=w.length - (k+1):=List.length_drop
          have hokv:=hf (r2++w.drop (k+1)) (fun c hc=>by
            rcases List.mem_append.1 hc with hc|hc
            · exact hrb.1 c hc
            · exact on_drop hw _ c hc) (by simp;omega)
          have hk1:(((k:Nat):Int)+1).toNat=k+1:=by omega
          (repeat first|refine sN rfl ?_|((first|refine sA rfl ?_ ?_|refine s4 rfl ‹_› rfl ?_ ?_);first|exact tI|omega|(simp only[oZ] at *;omega))|(refine s2 rfl ?_;intro _ _hb)|(refine s3 rfl ?_ ?_<;>intro hb<;>subst hb)|refine aS ?_|refine reg (by kernel_rfl) ?_|refine lexE ?_)
          (refine aC rfl ?_ ?_<;>intro hb<;>cases hb)
          · refine AWp.skip ?_
            refine AWp.seq (AWp.block ?_)
            (repeat first|refine sN rfl ?_|((first|refine sA rfl ?_ ?_|refine s4 rfl ‹_› rfl ?_ ?_);first|exact tI|omega|(simp only[oZ] at *;omega))|(refine s2 rfl ?_;intro _ _hb) |refine sP rfl (hla) rfl ?_|(refine popO rfl ?_;refine gA rfl ?_;first|refine gS (fun _ _=>q_loadIp0 rfl ra) ?_)|(refine s3 rfl ?_ ?_<;>intro hb<;>subst hb)|refine aS ?_|refine reg (by kernel_rfl) ?_|refine lexE ?_|refine rD (by kernel_rfl) (by kernel_rfl) ?_)
            (repeat first|refine sN rfl ?_|((first|refine sA rfl ?_ ?_|refine s4 rfl ‹_› rfl ?_ ?_);first|exact tI|omega|(simp only[oZ] at *;omega))|(refine s2 rfl ?_;intro _ _hb)|(refine popO rfl ?_;refine gA rfl ?_;first|refine gS (fun _ _=>q_dropT rfl rfl (by omega) (by omega)) ?_)|(refine s3 rfl ?_ ?_<;>intro hb<;>subst hb)|refine aS ?_|refine reg (by kernel_rfl) ?_|refine lexE ?_|refine rD (by kernel_rfl) (by kernel_rfl) ?_)
            rw [hk1]
            (repeat first|refine sN rfl ?_|((first|refine sA rfl ?_ ?_|refine s4 rfl ‹_› rfl ?_ ?_);first|exact tI|omega|(simp only[oZ] at *;omega))|(refine s2 rfl ?_;intro _ _hb)|(refine popO rfl ?_;refine gA rfl ?_;first|refine gS (fun _ _=>hc.ask rfl rfl hokv) ?_)|(refine s3 rfl ?_ ?_<;>intro hb<;>subst hb)|refine aS ?_|refine reg (by kernel_rfl) ?_|refine lexE ?_|refine rD (by kernel_rfl) (by kernel_rfl) ?_)
            (refine aC rfl ?_ ?_<;>intro hb<;>cases hb)
            · rw [if_pos (by simpa using _hb)] at he
              (repeat first|refine sN rfl ?_|((first|refine sA rfl ?_ ?_|refine s4 rfl ‹_› rfl ?_ ?_);first|exact tI|omega|(simp only[oZ] at *;omega))|(refine s2 rfl ?_;intro _ _hb)|(refine popO rfl ?_;refine gA rfl ?_;first|refine gS (fun _ _=>q_dropT rfl rfl (by omega) (by omega)) ?_)|(refine s3 rfl ?_ ?_<;>intro hb<;>subst hb)|refine aS ?_|refine reg (by kernel_rfl) ?_|refine lexE ?_|refine rD (by kernel_rfl) (by kernel_rfl) ?_)
              refine AWp.ret ⟨_,rfl,?_⟩
              rw [hk1,he];rfl
            · rw [if_neg (by simpa using _hb)] at he
              refine AWp.skip ?_
              (repeat first|refine sN rfl ?_|((first|refine sA rfl ?_ ?_|refine s4 rfl ‹_› rfl ?_ ?_);first|exact tI|omega|(simp only[oZ] at *;omega))|(refine s2 rfl ?_;intro _ _hb)|(refine s3 rfl ?_ ?_<;>intro hb<;>subst hb)|refine aS ?_|refine reg (by kernel_rfl) ?_|refine lexE ?_|refine rD (by kernel_rfl) (by kernel_rfl) ?_)
              subst hq2
              refine ⟨⟨k+1,by first|omega|(simp only[oZ] at *;omega),he⟩,by dsimp only;(first|omega|(simp only[oZ] at *;omega)),[0],?_⟩
              simp[cX,zC,hΓ,hr]
          · exfalso;first|omega|(simp only[oZ] at *;omega)
        · obtain rfl:k=w.length:=by omega
          rw [List.drop_length] at he
          (repeat first|refine sN rfl ?_|((first|refine sA rfl ?_ ?_|refine s4 rfl ‹_› rfl ?_ ?_);first|exact tI|omega|(simp only[oZ] at *;omega))|(refine s2 rfl ?_;intro _ _hb)|(refine s3 rfl ?_ ?_<;>intro hb<;>subst hb)|refine aS ?_|refine reg (by kernel_rfl) ?_|refine lexE ?_)
          (refine aC rfl ?_ ?_<;>intro hb<;>cases hb)
          · exfalso;first|omega|(simp only[oZ] at *;omega)
          · refine AWp.exit ?_
            (repeat first|refine sN rfl ?_|((first|refine sA rfl ?_ ?_|refine s4 rfl ‹_› rfl ?_ ?_);first|exact tI|omega|(simp only[oZ] at *;omega))|(refine s2 rfl ?_;intro _ _hb)|(refine s3 rfl ?_ ?_<;>intro hb<;>subst hb)|refine aS ?_|refine reg (by kernel_rfl) ?_|refine lexE ?_)
            refine AWp.ret ⟨_,rfl,?_⟩
            rw [he];rfl
end Go.Am
