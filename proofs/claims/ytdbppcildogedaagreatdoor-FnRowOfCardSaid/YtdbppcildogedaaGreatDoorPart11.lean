/-
  The tables that the rows list, as the walks want them.
-/
import Derived.Test.YtdbppcildogedaaGreatDoorPart9
import Derived.Test.YtdbppcildogedaaGreatDoorPart10
import Derived.Test.YtdbppcildogedaaGreatDoorPart5
import Derived.Test.YtdbppcildogedaaGreatDoorPart6
set_option linter.constructorNameAsVariable false
set_option linter.unusedSimpArgs false
set_option linter.unusedVariables false
namespace Go.Proofs.YtdbppcildogedaaGreatDoor
open Go Go.Am Go.ChangeShapes Go.WideShapes Go.ChangeAt Go.RowKit
def QQ (l:List Value):List Int:=l.map fun v=>match v with|.int _ n=>n|_=>0
theorem PQ {P:Program} {W:World} {name:String} {g:Nat} {t e:TypeId} {n:Nat} {zs:List Int} {fuel:Nat} {cs:Array Value} {p:List MemPlace} (hg:P.globalNamed name=some g) (ht:P.underlying t=some (.array n e)) (he:P.underlying e=some (.int .u8)) (hce:P.cellsOf e=1) (hct:P.cellsOf t=n)
    (hv:W.var? P name=some cs) (hd:DataW.trod (fun _=>()) P W 0 (fun _=>true) false fuel t cs.toList=some (Lib.tabData .u8 zs,p)):∃T fr,W.heap[g]? = some (.cells (zs.map fun z=>Value.int .u8 z).toArray T fr):=by
  have h:=Lib.cells_of_tab ht he hce hct hd
  unfold World.var? at hv
  rw [hg] at hv
  simp only [Option.bind_some] at hv
  split at hv
  · rename_i c T fr hh
    injection hv with hv
    subst hv
    refine ⟨T,fr,?_⟩
    rw [hh,←h]
  · cases hv
theorem tables {W:World} (h:laidMetH Tryz.prog Rows.fnTableValidRow.laid W):∃tabs:List (Nat×Obj),DG ⟨tabs,none⟩∧∀x∈(⟨tabs,none⟩:A7),below W x.1∧W.heap[x.1]? = some x.2:=by
  have h:laidMet Tryz.prog Rows.fnTableValidRow.laid W:=h
  obtain ⟨ps,⟨g0,t0,cs0,f0,p0,q0,hg0,ht0,hv0,hd0,⟨g1,t1,cs1,f1,p1,q1,hg1,ht1,hv1,hd1,_,_⟩,_⟩,_,_⟩:=h
  have k0:Tryz.prog.globalNamed "math/bits.deBruijn32tab" = some 0:=by kernel_rfl
  have k1:Tryz.prog.globalNamed "math/bits.deBruijn64tab" = some 1:=by kernel_rfl
  obtain rfl:=Option.some.inj (k0.symm.trans hg0)
  obtain rfl:=Option.some.inj (k1.symm.trans hg1)
  have l0:(Tryz.prog.globals[0]?).map (·.type)=some 188:=by kernel_rfl
  have l1:(Tryz.prog.globals[1]?).map (·.type)=some 189:=by kernel_rfl
  obtain rfl:=Option.some.inj (l0.symm.trans ht0)
  obtain rfl:=Option.some.inj (l1.symm.trans ht1)
  obtain ⟨T0,fr0,h0⟩:=PQ (zs:=QQ BG) k0 Tryz.underlying188 Tryz.underlying5 (by kernel_rfl) (by kernel_rfl) hv0 hd0
  obtain ⟨T1,fr1,h1⟩:=PQ (zs:=QQ A6) k1 Tryz.underlying189 Tryz.underlying5 (by kernel_rfl) (by kernel_rfl) hv1 hd1
  refine ⟨[(0,.cells ((QQ BG).map fun z=>Value.int .u8 z).toArray T0 fr0),(1,.cells ((QQ A6).map fun z=>Value.int .u8 z).toArray T1 fr1)],⟨⟨⟨_,_,_,List.mem_cons_self,fun i v hv=>?_⟩,by decide⟩,⟨⟨_,_,_,List.mem_cons_of_mem _ List.mem_cons_self,fun i v hv=>?_⟩,by decide⟩⟩,?_⟩
  · have:BG=(QQ BG).map fun z=>Value.int .u8 z:=rfl
    rw [List.getElem?_toArray,←this];exact hv
  · have:A6=(QQ A6).map fun z=>Value.int .u8 z:=rfl
    rw [List.getElem?_toArray,←this];exact hv
  · intro x hx
    have hx:x∈[_,_]:=hx
    simp only [List.mem_cons,List.not_mem_nil,or_false] at hx
    rcases hx with rfl|rfl
    · exact ⟨(Array.getElem?_eq_some_iff.1 h0).1,h0⟩
    · exact ⟨(Array.getElem?_eq_some_iff.1 h1).1,h1⟩
end Go.Proofs.YtdbppcildogedaaGreatDoor
namespace Go.Am
open Go
set_option linter.unusedVariables false
theorem Ng {a b:Nat} (ha:a < 2 ^ 62) (hb:b < 2 ^ 62):Du .i64 a b=((a &&& b:Nat):Int):=by
  have h0:a &&& b≤a:=Nat.and_le_left
  unfold Du
  have h1:(BitVec.ofInt IntKind.i64.bits (a:Int) &&& BitVec.ofInt IntKind.i64.bits (b:Int)).toNat=a &&& b:=by
    have e:IntKind.i64.bits=64:=rfl
    rw [e]
    simp only [BitVec.toNat_and,BitVec.ofInt_natCast,BitVec.toNat_ofNat]
    rw [Nat.mod_eq_of_lt (by omega),Nat.mod_eq_of_lt (by omega)]
  rw [h1]
  exact IntWalk.i64_in _ (by omega)
theorem Rz (s n:Nat):((s:Nat):Int).fdiv (2 ^ n)=((s / 2 ^ n:Nat):Int):=by
  have h:(0:Int)≤2 ^ n:=Int.le_of_lt (Int.pow_pos (by omega))
  rw [Int.fdiv_eq_ediv_of_nonneg _ h]
  push_cast
  rfl
theorem Hg {s n:Nat} (hs:s < 2 ^ 62) (hn:n < 64):DJ (s:Nat) n=s.testBit n:=by
  unfold DJ
  have e:min n 64=n:=by omega
  rw [e,Rz]
  have h1:s / 2 ^ n≤s:=Nat.div_le_self _ _
  have h2:=Ng (a:=s / 2 ^ n) (b:=1) (by omega) (by omega)
  rw [show ((1:Nat):Int)=1 from rfl] at h2
  rw [h2,Nat.testBit_eq_decide_div_mod_eq,Nat.and_one_is_mod]
  congr 1
  rw [eq_iff_iff]
  omega
theorem Ui {s a:Nat}:s &&& a=s↔∀n,s.testBit n=true→a.testBit n=true:=by
  constructor
  · intro h n hn
    have:=congrArg (·.testBit n) h
    simp only [Nat.testBit_and,hn,Bool.true_and] at this
    exact this
  · intro h
    apply Nat.eq_of_testBit_eq
    intro n
    rw [Nat.testBit_and]
    cases hs:s.testBit n
    · rfl
    · rw [h n hs];rfl
abbrev Wd:=List UInt8
def En (c:UInt8):Bool:=decide (97≤c.toNat∧c.toNat < 103)
def El (w:Wd):Bool:=decide (w.length≤50000) && w.all En
def GY (w:Wd):Nat:=w.foldl (fun s c=>s ||| 2 ^ (c.toNat - 97)) 0
def GO (al:Int) (c:UInt8):Bool:=En c && DJ al (c.toNat - 97)
def within (w:Wd) (al:Int):Bool:=decide (w.length≤50000) && (Bk al && w.all (GO al))
theorem Nb (n:Nat):∀(w:Wd) (s:Nat),(w.foldl (fun s c=>s ||| 2 ^ (c.toNat - 97)) s).testBit n=(s.testBit n || w.any fun c=>decide (c.toNat - 97=n))
  | [],s=>by simp
  | c::w,s=>by
    rw [List.foldl_cons,Nb n w,Nat.testBit_or,Nat.testBit_two_pow,List.any_cons,Bool.or_assoc]
theorem NK (w:Wd) (n:Nat):(GY w).testBit n=w.any fun c=>decide (c.toNat - 97=n):=by
  unfold GY;rw [Nb];simp
theorem Mt:∀ {w:Wd} {s:Nat},w.all En=true→s < 64→w.foldl (fun s c=>s ||| 2 ^ (c.toNat - 97)) s < 64
  | [],s,_,hs=>hs
  | c::w,s,h,hs=>by
    simp only [List.all_cons,Bool.and_eq_true] at h
    rw [List.foldl_cons]
    refine Mt h.2 ?_
    have h1:=h.1
    unfold En at h1
    simp only [decide_eq_true_eq] at h1
    have h2:2 ^ (c.toNat - 97) < 2 ^ 6:=Nat.pow_lt_pow_right (by omega) (by omega)
    exact Nat.or_lt_two_pow (n:=6) hs h2
theorem Ud {w:Wd} {al:Int} (hw:w.all En=true) (ha:Bk al=true):decide (Du .i64 (GY w:Nat) al=(GY w:Nat))=w.all (GO al):=by
  have hs:GY w < 64:=Mt hw (by omega)
  unfold Bk at ha
  simp only [decide_eq_true_eq] at ha
  obtain ⟨a,rfl⟩:∃a:Nat,al=a:=⟨al.toNat,by omega⟩
  rw [Ng (by omega) (by omega)]
  rw [Bool.eq_iff_iff,decide_eq_true_eq,List.all_eq_true]
  have h1:((GY w &&& a:Nat):Int)=(GY w:Nat)↔GY w &&& a=GY w:=by omega
  rw [h1,Ui]
  rw [List.all_eq_true] at hw
  constructor
  · intro h c hc
    have h2:=hw c hc
    unfold GO
    rw [h2,Bool.true_and]
    unfold En at h2
    simp only [decide_eq_true_eq] at h2
    rw [Hg (by omega) (by omega)]
    refine h _ ?_
    rw [NK,List.any_eq_true]
    exact ⟨c,hc,by simp⟩
  · intro h n hn
    rw [NK,List.any_eq_true] at hn
    obtain ⟨c,hc,hcn⟩:=hn
    simp only [decide_eq_true_eq] at hcn
    have h2:=hw c hc
    have h3:=h c hc
    unfold GO at h3
    rw [h2,Bool.true_and] at h3
    unfold En at h2
    simp only [decide_eq_true_eq] at h2
    rw [Hg (by omega) (by omega),hcn] at h3
    exact h3
theorem OS {w:Wd} {al:Int} (h:w.all (GO al)=true):w.all En=true:=by
  rw [List.all_eq_true] at *
  intro c hc
  have:=h c hc
  unfold GO at this
  simp only [Bool.and_eq_true] at this
  exact this.1
inductive FL (σ:Ab) (ids:List Nat):List C→List C→Prop
  | nil:FL σ ids [] []
  | cons {c c':C} {cs cs':List C}:FC σ ids c c'→FL σ ids cs cs'→FL σ ids (c::cs) (c'::cs')
theorem FL.len {σ:Ab} {ids:List Nat} {l l':List C} (h:FL σ ids l l'):l'.length=l.length:=by
  induction h with
  | nil=>rfl
  | cons _ _ ih=>simp [ih]
theorem FL.get {σ:Ab} {ids:List Nat} {l l':List C} (h:FL σ ids l l'):∀(j:Nat) c',l'[j]? = some c'→∃c,l[j]? = some c∧FC σ ids c c':=by
  induction h with
  | nil=>intro j c' h;simp at h
  | @cons c0 c0' cs cs' h1 _ ih=>
    intro j c' hj
    cases j with
    | zero=>simp at hj;subst hj;exact ⟨c0,rfl,h1⟩
    | succ j=>exact ih j c' (by simpa using hj)
def K2 (σ:Ab) (ids:List Nat):Ab→Prop
  | []=>True
  | (id,.cells T k [r'])::S=>(∃r,look σ id=some (.cells T k [r])∧id∉ids∧FL σ ids r r')∧K2 σ ids S
  | _=>False
theorem K2.get {σ:Ab} {ids:List Nat}:∀ {S:Ab},K2 σ ids S→∀id o',look S id=some o'→∃T k r r',o'=.cells T k [r']∧look σ id=some (.cells T k [r])∧id∉ids∧FL σ ids r r'
  | [],_,id,o',h=>by cases h
  | (i, o)::S,hs,id,o',h=>by
    match o,hs with
    | .cells T k [r'],hs=>
      rw [Ar] at h
      by_cases hi:i=id
      · rw [if_pos hi] at h
        injection h with h
        subst h;subst hi
        obtain ⟨r,h1,h2,h3⟩:=hs.1
        exact ⟨T,k,r,r',rfl,h1,h2,h3⟩
      · rw [if_neg hi] at h
        exact K2.get hs.2 id o' h
section
variable {P:Program} {TB:A7} {Γ:Ctx} {N:Nat} {σ:Ab}
theorem BC.Jg {V:View} {f:Env} {nx:Nat} {a:Act} (h:BC TB Γ N V f σ nx a) (ids:List Nat) (L:List (Nat×E)) (S:Ab) (hE:CX σ ids f L) (hS:K2 σ ids S):BC TB Γ N (HW V σ ids) (look L) S nx a:=by
  have e:Ext V (HW V σ ids):=Jh
  have hi:=h.inv
  refine ⟨fun t x hx=>?_,fun t x hx=>?_,h.size,?_,h.nx,h.defers⟩
  · obtain ⟨y,h1,h2⟩:=hE.get t x hx
    exact h2.rel h.inv (h.env t y h1)
  · obtain ⟨y,h1,_⟩:=hE.get t x hx
    exact h.lt t y h1
  · refine ⟨hi.os,hi.tape,hi.output,hi.old,?_,?_,hi.ext.trans e,⟨?_,?_,?_,?_⟩,?_,fun x hx=>⟨.inl (hi.tabs x hx).1,(hi.tabs x hx).2⟩,hi.hid.same rfl (fun _ h=>.inl h) (fun b hb=>hb.elim .inl fun ⟨id,o,_,hl,hn,he⟩=>.inr ⟨id,o,hl,hn,he⟩) fun b ⟨id,o,hl,hn,hb⟩=>?_⟩
    · rintro b (hb|⟨id,o,_,hl,hn,hb⟩)
      · exact hi.iLt b hb
      · exact (hi.st.obj id o hl).blt hn hb
    · rintro b (hb|⟨id,o,_,hl,hn,hb⟩)
      · exact hi.iNew b hb
      · exact .inr (hi.live id o hl hn b hb)
    · intro id o hl
      obtain ⟨T,k,r,r',rfl,h1,h2,h3⟩:=hS.get id o hl
      rcases hi.st.obj id _ h1 with ⟨h4,h5⟩|⟨h0,cur,h4,h5,h6,h7,h8,h9⟩
      · cases h5
      · refine .inr ⟨h0,cur,h4,h5,h6,h7,fun x hx=>?_,fun i x j c' hix hj=>?_⟩
        · simp at hx;subst hx;rw [h3.len];exact h8 r (by simp)
        · have hi0:i=0:=by have:=(List.getElem?_eq_some_iff.1 hix).1;simp at this;omega
          subst hi0
          simp at hix
          subst hix
          obtain ⟨c,hc,hf⟩:=h3.get j c' hj
          obtain ⟨v,h10,h11⟩:=h9 0 r j c rfl hc
          exact ⟨v,h10,hf.rel hi h11⟩
    · intro id o hl
      obtain ⟨T,k,r,r',_,h1,_,_⟩:=hS.get id o hl
      exact hi.st.lt id _ h1
    · intro id o hl hn b hb' hb
      obtain ⟨T,k,r,r',rfl,h1,h2,_⟩:=hS.get id o hl
      rcases hb with hb|⟨id',o',hm,hl',hn',he⟩
      · exact hi.st.free id _ h1 hn b hb' hb
      · exact hi.st.inj id id' _ o' h1 hl' (fun e=>h2 (e ▸ hm)) hn hn' b hb' he
    · intro id id' o o' hl hl' hne hn hn' b hb hb'
      obtain ⟨T,k,r,r',rfl,h1,_,_⟩:=hS.get id o hl
      obtain ⟨T2,k2,r2,r2',rfl,h12,_,_⟩:=hS.get id' o' hl'
      exact hi.st.inj id id' _ _ h1 h12 hne hn hn' b hb hb'
    · intro id o hl hn b hb
      obtain ⟨T,k,r,r',rfl,h1,_,_⟩:=hS.get id o hl
      exact hi.live id _ h1 hn b hb
    · obtain ⟨T,k,r,r',rfl,h1,_,_⟩:=hS.get id o hl
      exact ⟨id,_,h1,hn,hb⟩
theorem Ak.Jg {c:Code} {Q:Exit→Env→Ab→Nat→Prop} {f:Env} {nx:Nat} (ids:List Nat) (L:List (Nat×E)) (S:Ab) (hE:CX σ ids f L) (hS:K2 σ ids S) (h:Ak P TB Γ N c Q (look L) S nx):Ak P TB Γ N c Q f σ nx:=
  fun V a hr=>h (HW V σ ids) a (hr.Jg ids L S hE hS)
end
end Go.Am
namespace Go.Am
set_option linter.unusedVariables false
abbrev W:=List UInt8
structure A2 where
  rows:List W
  cols:List W
def Qq (b:Bool):UInt8:=if b then 43 else 45
theorem TN {a b:Bool} (h:Qq a=Qq b):a=b:=by cases a<;>cases b<;>first|rfl|(simp [Qq] at h)
def marks (L:W→Bool) (cols:List W) (w:W):W:=cols.map fun c=>Qq (L (w++c))
theorem RU {L:W→Bool} {cols:List W} {u w:W}:marks L cols u=marks L cols w↔∀c∈cols,L (u++c)=L (w++c):=by
  unfold marks
  rw [List.map_inj_left]
  exact ⟨fun h c hc=>TN (h c hc),fun h c hc=>by rw [h c hc]⟩
def AK (L:W→Bool) (t:A2):List W:=t.rows.map (marks L t.cols)
def B2 (ls:List UInt8) (rows:List W):List W:=rows.flatMap fun r=>ls.map fun l=>r++[l]
def AT (L:W→Bool) (ls:List UInt8) (t:A2):Option W:=(B2 ls t.rows).find? fun w=>!(AK L t).contains (marks L t.cols w)
def AW (L:W→Bool) (ls:List UInt8):Nat→A2→Option A2
  | 0,_=>none
  | n+1,t=>match AT L ls t with
    | none=>some t
    | some w=>if t.rows.length=12 then none else AW L ls n ⟨t.rows++[w],t.cols⟩
def A1 (ls:List UInt8) (w:W):Prop:=∀c∈w,c∈ls
structure NY (L:W→Bool) (ls:List UInt8) (t:A2):Prop where
  r0:t.rows[0]? = some []
  c0:t.cols[0]? = some []
  pre:∀(i:Nat) w,t.rows[i]? = some w→0 < i→w≠[]∧∃j,j < i∧t.rows[j]? = some w.dropLast
  onR:∀w∈t.rows,A1 ls w
  onC:∀c∈t.cols,A1 ls c
  nd:(AK L t).Nodup
  ndC:t.cols.Nodup
theorem Fe {L:W→Bool} {ls:List UInt8} {t:A2} {w:W} (h:AT L ls t=some w):(∃r∈t.rows,∃l∈ls,w=r++[l])∧marks L t.cols w∉AK L t:=by
  have h1:=List.find?_some h
  have h2:=List.mem_of_find?_eq_some h
  unfold B2 at h2
  simp only [List.mem_flatMap,List.mem_map] at h2
  obtain ⟨r,hr,l,hl,rfl⟩:=h2
  exact ⟨⟨r,hr,l,hl,rfl⟩,by simpa using h1⟩
theorem NY.push {L:W→Bool} {ls:List UInt8} {t:A2} {w:W} (h:NY L ls t) (ho:AT L ls t=some w):NY L ls ⟨t.rows++[w],t.cols⟩:=by
  obtain ⟨⟨r,hr,l,hl,rfl⟩,hn⟩:=Fe ho
  have h0:0 < t.rows.length:=(List.getElem?_eq_some_iff.1 h.r0).1
  refine ⟨by rw [List.getElem?_append_left h0];exact h.r0,h.c0,fun i w hi hp=>?_,fun w hw=>?_,h.onC,?_,h.ndC⟩
  · by_cases hil:i < t.rows.length
    · rw [List.getElem?_append_left hil] at hi
      obtain ⟨h1,j,h2,h3⟩:=h.pre i w hi hp
      exact ⟨h1,j,h2,by rw [List.getElem?_append_left (by omega)];exact h3⟩
    · rw [List.getElem?_append_right (by omega)] at hi
      have hi0:i=t.rows.length:=by
        have:=(List.getElem?_eq_some_iff.1 hi).1
        simp at this;omega
      subst hi0
      simp at hi
      subst hi
      obtain ⟨j,hj,he⟩:=List.getElem_of_mem hr
      refine ⟨by simp,j,hj,?_⟩
      rw [List.getElem?_append_left hj,List.dropLast_concat,List.getElem?_eq_getElem hj,he]
  · rcases List.mem_append.1 hw with hw|hw
    · exact h.onR w hw
    · simp at hw
      subst hw
      intro c hc
      rcases List.mem_append.1 hc with hc|hc
      · exact h.onR r hr c hc
      · simp at hc;subst hc;exact hl
  · unfold AK
    rw [List.map_append,List.nodup_append]
    refine ⟨h.nd,by simp,fun a ha b hb=>?_⟩
    simp at hb
    subst hb
    intro e
    exact hn (e ▸ ha)
structure Fin (L:W→Bool) (ls:List UInt8) (n:Nat) where
  st:W→Nat
  lt:∀w,A1 ls w→st w < n
  same:∀u w v,A1 ls u→A1 ls w→A1 ls v→st u=st w→L (u++v)=L (w++v)
theorem Ns:∀(n:Nat) (l:List Nat),l.Nodup→(∀x∈l,x < n)→l.length≤n
  | 0,l,_,h=>by cases l with
    | nil=>simp
    | cons x l=>have:=h x (by simp);omega
  | n + 1,l,hd,h=>by
    have h1:=Ns n (l.erase n) (hd.erase n) fun x hx=>by
      have h2:=h x (List.mem_of_mem_erase hx)
      have h3:x≠n:=fun e=>by subst e;exact (List.Nodup.not_mem_erase hd) hx
      omega
    by_cases hn:n∈l
    · rw [List.length_erase_of_mem hn] at h1;omega
    · rw [List.erase_of_not_mem hn] at h1;omega
theorem NY.Ws {L:W→Bool} {ls:List UInt8} {t:A2} {n:Nat} (h:NY L ls t) (f:Fin L ls n):t.rows.length≤n:=by
  have h1:(t.rows.map f.st).Nodup:=by
    have hnd:=h.nd
    unfold AK at hnd
    unfold List.Nodup at *
    rw [List.pairwise_map] at *
    refine List.Pairwise.imp_of_mem (fun {a b} ha hb hne hst=>hne ?_) hnd
    exact RU.2 fun c hc=>f.same a b c (h.onR a ha) (h.onR b hb) (h.onC c hc) hst
  have h2:=Ns n _ h1 fun x hx=>by
    obtain ⟨w,hw,rfl⟩:=List.mem_map.1 hx
    exact f.lt w (h.onR w hw)
  simpa using h2
theorem K9 {L:W→Bool} {ls:List UInt8} {n:Nat} (f:Fin L ls n) (hn:n≤12):∀(k:Nat) (t:A2),NY L ls t→13≤k+t.rows.length→∃t',AW L ls k t=some t'∧NY L ls t'∧AT L ls t'=none∧t.rows <+: t'.rows∧t'.cols=t.cols∧(AT L ls t≠none→t.rows.length < t'.rows.length)
  | 0,t,h,hk=>by have:=h.Ws f;omega
  | k + 1,t,h,hk=>by
    unfold AW
    cases ho:AT L ls t with
    | none=>exact ⟨t,rfl,h,ho,List.prefix_refl _,rfl,fun h=>absurd rfl h⟩
    | some w=>
      have h2:=h.push ho
      have h3:=h2.Ws f
      simp only [List.length_append,List.length_cons,List.length_nil] at h3
      simp only
      rw [if_neg (show ¬t.rows.length=12 by omega)]
      obtain ⟨t',e1,e2,e3,e4,e5,_⟩:=K9 f hn k _ h2 (by simp;omega)
      have h5:t.rows <+: t'.rows:=List.IsPrefix.trans (List.prefix_append _ _) e4
      refine ⟨t',e1,e2,e3,h5,e5,fun _=>?_⟩
      have:=e4.length_le
      simp at this;omega
def UZ (L:W→Bool) (t:A2) (w:W):Nat:=(AK L t).idxOf (marks L t.cols w)
def runM (L:W→Bool) (t:A2):Nat→W→Nat
  | i,[]=>i
  | i,c::w=>runM L t (UZ L t ((t.rows.getD i [])++[c])) w
structure QU (L:W→Bool) (ls:List UInt8) (t:A2):Prop extends NY L ls t where
  cl:∀r∈t.rows,∀l∈ls,marks L t.cols (r++[l])∈AK L t
def splitAt (L:W→Bool) (t:A2) (b:Bool):Nat→W→Option W
  | _,[]=>none
  | i,c::v=>if L (t.rows.getD (UZ L t ((t.rows.getD i [])++[c])) []++v)≠b then some v else splitAt L t b (UZ L t ((t.rows.getD i [])++[c])) v
end Go.Am
namespace Go.Am
open Go Go.Proofs
set_option maxHeartbeats 1000000
attribute [local irreducible] AU B0 Lex Bo Ak Spec
variable {TB:A7}
abbrev SV (t:A2):List D:=[AX t.rows,AX t.cols]
abbrev Cg (t:A2):E:=.a [.d (AX t.rows),.d (AX t.cols)]
abbrev MX (al:Int) (c:C):E:=.a [.d (iD al),c]
mutual
theorem CC:∀(c:C),c.A9=true→∀r,c.AQ r=c
  | .d x,_,r=>rfl
  | .fn g cap,h,r=>by
    simp only [C.A9] at h
    simp only [C.AQ,Kh cap h r]
  | .arr ..,h,_=>by cases h
  | .ptr ..,h,_=>by cases h
  | .mp ..,h,_=>by cases h
  | .mv g l,h,r=>by
    simp only [C.A9] at h
    simp only [C.AQ,Kh l h r]
theorem Kh:∀(l:List C),C.BL l=true→∀r,C.BT r l=l
  | [],_,r=>rfl
  | c::l,h,r=>by
    simp only [C.BL,Bool.and_eq_true] at h
    simp only [C.BT,CC c h.1 r,Kh l h.2 r]
end
structure Ft (P:Program) (TB:A7) (c:C) (L:W→Bool) (ok:W→Prop):Prop where
  A9:c.A9=true
  ask:∀ {Γ:Ctx} {d:Option Tmp} {ty:TypeId} {pos:String} {af:Array Edge} {g:Option (Nat×Bool)} {f:Env} {σ:Ab} {nx:Nat} {x a:Operand} {tys:Array TypeId} {w:W},
    ev f x=some (.o c)→ev f a=some (eT w)→ok w→AU P TB Γ ⟨d,.call ⟨.value x,#[a],tys⟩,ty,pos,af,g⟩ f σ nx (eB (L w))
theorem Ft.of {P:Program} {g:FuncId} {cap:List C} {L:W→Bool} {ok:W→Prop} (hc:C.BL cap=true) (h:∀w,ok w→Pure P TB g ([eT w]++cap.map .o) (eB (L w))):Ft P TB (.fn g cap) L ok:=
  ⟨hc,fun hx ha hw=>A5 (es:=[eT _]) hx (by simp [Gd,ha]) (by simp [E.A9,C.A9,hc]) (h _ hw) rfl⟩
def Np (L:W→Bool) (cols:List W) (w:W) (k:Nat) (i:Nat):UInt8:=if i < k then Qq (L (w++cols.getD i [])) else 0
theorem Ov (L:W→Bool) (cols:List W) (w:W):(BA cols.length fun i=>Hh (Np L cols w cols.length i))=(marks L cols w).map Hh:=by
  apply List.ext_getElem?
  intro i
  by_cases h:i < cols.length
  · rw [Dr h]
    simp [marks,Np,h]
  · rw [List.getElem?_eq_none (by simp [BA];omega),List.getElem?_eq_none (by simp [marks];omega)]
theorem XH:Hh 0=[C.d (D.v (Value.int IntKind.u8 0))]:=rfl
theorem WD (L:W→Bool) (cols:List W) (w:W) (n:Nat):(BA n fun i=>Hh (Np L cols w 0 i))=List.replicate n (Hh 0):=by
  apply List.ext_getElem?
  intro i
  by_cases h:i < n
  · rw [Dr h];simp [Np,h]
  · rw [List.getElem?_eq_none (by simp [BA];omega),List.getElem?_eq_none (by simp;omega)]
theorem RV {L:W→Bool} {cols:List W} {w x:W} {k:Nat} (hx:cols[k]? = some x):(BA cols.length fun i=>Hh (if i=k then Qq (L (w++x)) else Np L cols w k i))=BA cols.length fun i=>Hh (Np L cols w (k+1) i):=by
  refine Cw fun i _=>?_
  congr 1
  unfold Np
  by_cases h:i=k
  · subst h
    rw [if_pos rfl,if_pos (by omega)]
    simp [hx]
  · rw [if_neg h]
    by_cases h2:i < k
    · rw [if_pos h2,if_pos (by omega)]
    · rw [if_neg h2,if_neg (by omega)]
theorem JX {c:C} {L:W→Bool} {ok:W→Prop} (hc:Ft Tryz.prog TB c L ok) (al:Int) (t:A2) (w:W) (hl:t.cols.length≤1048576) (hk:∀x∈t.cols,ok (w++x)) (hb:∀x∈t.cols,w.length+x.length≤1048576) :
    Pure Tryz.prog TB 57 [MX al c,Cg t,eT w] (eT (marks L t.cols w)):=by
  have hr:=CC c hc.A9
  refine eN Tryz.func57 rfl (by kernel_rfl) rfl ?_;intro Γ hΓ
  (repeat first|refine aU rfl ?_)
  (refine pW rfl ?_ rfl (by rfl);refine Fq rfl rfl ?_)
  (refine Af rfl ?_;refine C0 (fun _ _=>Ed rfl rfl rfl) rfl ?_)
  (repeat first|refine sN rfl ?_ |refine tM rfl ?_ |refine aU rfl ?_ |refine Aa ?_)
  (refine pW rfl ?_ rfl (by rfl);refine Mb rfl rfl (by rfl) (by rfl) (Nat.le_of_ble_eq_true rfl) (by omega) (by omega) (by omega) ?_)
  (repeat first|refine sN rfl ?_ |refine tM rfl ?_ |refine aU rfl ?_ |refine Aa ?_)
  refine aB ?_
  refine Ak.CR (α:={k:Nat // k≤t.cols.length}) (fun ⟨k,hkl⟩=>[(2,eT w),(3,.o (.ptr 0 2 0 0)),(7,.o (.arr 1 1 0 t.cols.length)),(15,.o (.d (AX t.cols))),(16,eI .i64 t.cols.length),(17,eI .i64 k)]) (fun ⟨k,hkl⟩=>[(1,.cells 5 1 (BA t.cols.length fun i=>Hh (Np L t.cols w k i))),(0,.cells 69 2 [[.d (iD al),c]])]) 2 (fun ⟨k,hkl⟩=>t.cols.length - k) (⟨0,by omega⟩) [0,1] (Lz hΓ rfl rfl) (by (simp[cX,zC,hΓ,OD,hr,WD,eC,SE,XH])) ?_;rintro ⟨k,hkl⟩;(try dsimp only)
  (repeat first|refine s2 rfl fun _ _hb=>?_ |refine aU rfl ?_ |refine Aa ?_)
  (refine aC rfl ?_ ?_<;>rintro ⟨⟩)
  · have hlt:k < t.cols.length:=by (simp only[oZ] at *;omega)
    obtain ⟨x,hx⟩:=get_some (l:=t.cols) (k:=k) hlt
    have hx':=get_map (g:=BM) hx
    have hxm:=List.mem_of_getElem? hx
    have hxb:=hb x hxm
    have hok:=hk x hxm
    have hg:=Pc (H:=Np L t.cols w k) (q:=k) (n:=t.cols.length) hlt
    have hs1:(BA t.cols.length fun i=>Hh (Np L t.cols w k i)).set (0+((k:Nat):Int).toNat) (Ae (Hh (Np L t.cols w k k)) 0 (eC (eI .u8 45)))=BA t.cols.length fun i=>Hh (if i=k then 45 else Np L t.cols w k i):=PK (c:=45)
    have hg2:=Pc (H:=fun i=>if i=k then 45 else Np L t.cols w k i) (q:=k) (n:=t.cols.length) hlt
    rw [←hs1] at hg2
    have hs2:(BA t.cols.length fun i=>Hh (if i=k then 45 else Np L t.cols w k i)).set (0+((k:Nat):Int).toNat) (Ae (Hh (if k=k then 45 else Np L t.cols w k k)) 0 (eC (eI .u8 43)))=BA t.cols.length fun i=>Hh (if i=k then 43 else Np L t.cols w k i):=by
      refine (PK (H:=fun i=>if i=k then 45 else Np L t.cols w k i) (c:=43)).trans ?_
      refine Cw fun i _=>?_
      by_cases h:i=k<;>simp [h]
    have hst:=RV (L:=L) (w:=w) hx
    refine aK ?_
    refine aS (aB ?_)
    (repeat first|((first|refine sM rfl ?_ ?_|refine s4 rfl ‹_› rfl ?_ ?_);first|exact tI|omega)|(refine Af rfl ?_;refine gA rfl ?_;first| (refine gB (fun _ _=>hc.ask rfl rfl hok) ?_;intro _ _hb)) |refine aU rfl ?_ |refine Aa ?_)
    (refine aC rfl ?_ ?_<;>rintro ⟨⟩)
    · (repeat first|(refine sM rfl ?_ ?_;first|exact tI|omega) |refine t4 rfl ‹_› rfl ?_ |refine aU rfl ?_ |refine Aa ?_)
      refine ⟨⟨k+1,by omega⟩,by dsimp only;(omega),[0,1],?_⟩
      rw [hs1,hs2]
      rw [_hb] at hst
      have e43:Qq true=43:=rfl
      have e45:Qq false=45:=rfl
      simp only [e43,e45] at hst
      simp[cX,zC,hΓ,OD,hr,hst]
    · refine aK ?_
      (repeat first|(refine sM rfl ?_ ?_;first|exact tI|omega) |refine aU rfl ?_ |refine Aa ?_)
      refine ⟨⟨k+1,by omega⟩,by dsimp only;(omega),[0,1],?_⟩
      rw [hs1]
      rw [_hb] at hst
      have e43:Qq true=43:=rfl
      have e45:Qq false=45:=rfl
      simp only [e43,e45] at hst
      simp[cX,zC,hΓ,OD,hr,hst]
  · obtain rfl:k=t.cols.length:=by (simp only[oZ] at *;omega)
    rw [Ov]
    refine aE ?_
    (repeat first|refine tM rfl ?_|(refine Af rfl ?_;refine gA rfl ?_;first| refine gQ (T7 (marks L t.cols w) rfl rfl (by simp [marks]) (by rw [List.drop_zero,List.take_of_length_le (by simp [marks])])) (by rfl) ?_) |refine aU rfl ?_ |refine Aa ?_)
    refine aR ⟨_,rfl,rfl⟩
def Be (L:W→Bool) (t:A2):Nat→List (W×Int)
  | 0=>[]
  | k+1=>if (Cs (Be L t k) (marks L t.cols (t.rows.getD k []))).isSome then Be L t k else Be L t k++[(marks L t.cols (t.rows.getD k []),(k:Int))]
structure OU (ok:W→Prop) (t:A2):Prop where
  ok:∀w∈t.rows,∀x∈t.cols,ok (w++x)
  rb:∀w∈t.rows,w.length≤65536
  cb:∀x∈t.cols,x.length≤65536
  rl:t.rows.length≤4096
  cl:t.cols.length≤4096
theorem GC {c:C} {L:W→Bool} {ok:W→Prop} (hc:Ft Tryz.prog TB c L ok) (al:Int) (t:A2) (ht:OU ok t) :
    Spec Tryz.prog TB 94 [] 0 [MX al c,Cg t] (fun x σ nx=>x=.o (.mp 0)∧nx=1∧σ=[(0,.mp (FO (Be L t t.rows.length)))]):=by
  have hr:=CC c hc.A9
  have hrl:=ht.rl
  refine eN Tryz.func94 rfl (by kernel_rfl) rfl ?_;intro Γ hΓ
  (repeat first|refine aU rfl ?_)
  (refine pW rfl ?_ rfl (by rfl);refine Fq rfl rfl ?_)
  (refine Af rfl ?_;refine C0 (fun _ _=>Ed rfl rfl rfl) rfl ?_)
  (repeat first|refine tM rfl ?_ |refine aU rfl ?_ |refine Aa ?_)
  (refine pW rfl ?_ rfl (by rfl);refine Lq ?_)
  (repeat first|refine sN rfl ?_ |refine tM rfl ?_ |refine aU rfl ?_ |refine Aa ?_)
  refine aB ?_
  refine Ak.CR (α:={k:Nat // k≤t.rows.length}) (fun ⟨k,hkl⟩=>[(2,.o (.ptr 0 2 0 0)),(3,.o (.ip (SV t))),(5,.o (.mp 1)),(13,.o (.d (AX t.rows))),(14,eI .i64 t.rows.length),(15,eI .i64 k)]) (fun ⟨k,hkl⟩=>[(1,.mp (FO (Be L t k))),(0,.cells 69 2 [[.d (iD al),c]])]) 2 (fun ⟨k,hkl⟩=>t.rows.length - k) (⟨0,by omega⟩) [0,1] (Lz hΓ rfl rfl) (by (simp[cX,zC,hΓ,hr,eC,Be,FO])) ?_;rintro ⟨k,hkl⟩;(try dsimp only)
  (repeat first|refine s2 rfl fun _ _hb=>?_ |refine aU rfl ?_ |refine Aa ?_)
  (refine aC rfl ?_ ?_<;>rintro ⟨⟩)
  · have hlt:k < t.rows.length:=by (simp only[oZ] at *;omega)
    obtain ⟨x,hx⟩:=get_some (l:=t.rows) (k:=k) hlt
    have hx':=get_map (g:=BM) hx
    have hxm:=List.mem_of_getElem? hx
    have hxb:=ht.rb x hxm
    have hm:=JX hc al t x (by have:=ht.cl;omega) (ht.ok x hxm) (fun y hy=>by have:=ht.cb y hy;omega)
    have hgd:t.rows.getD k []=x:=by simp [hx]
    have hstep:Be L t (k+1)=if (Cs (Be L t k) (marks L t.cols x)).isSome then Be L t k else Be L t k++[(marks L t.cols x,(k:Int))]:=by
      rw [Be,hgd]
    refine aK ?_
    refine aS (aB ?_)
    (repeat first|refine tM rfl ?_ |(refine s4 rfl ‹_› rfl ?_ ?_;omega) |refine s2 rfl fun _ _hb=>?_|(refine Af rfl ?_;refine gA rfl ?_;first| refine gS (fun _ _=>A5 rfl rfl (by simp [E.A9,C.BL,C.A9,hc.A9]) hm rfl) ?_|refine gQ (Sx rfl rfl rfl) (by rfl) ?_) |refine aU rfl ?_ |refine Aa ?_)
    (refine aC rfl ?_ ?_<;>rintro ⟨⟩)
    · have hn:Cs (Be L t k) (marks L t.cols x)=none:=by simpa using _hb
      rw [hn] at hstep
      (repeat first|refine tM rfl ?_ |refine aU rfl ?_)
      (refine Af rfl ?_;refine Fs ?_ rfl (by rfl);refine WE rfl rfl rfl rfl hn ?_)
      (repeat first|(refine sM rfl ?_ ?_;first|exact tI|omega) |refine aU rfl ?_ |refine Aa ?_)
      refine ⟨⟨k+1,by omega⟩,by dsimp only;(omega),[0,1],?_⟩
      simp[cX,zC,hΓ,hr,hstep]
    · have hn:(Cs (Be L t k) (marks L t.cols x)).isSome=true:=by simpa using _hb
      rw [if_pos hn] at hstep
      refine aK ?_
      (repeat first|(refine sM rfl ?_ ?_;first|exact tI|omega) |refine aU rfl ?_ |refine Aa ?_)
      refine ⟨⟨k+1,by omega⟩,by dsimp only;(omega),[0,1],?_⟩
      simp[cX,zC,hΓ,hr,hstep]
  · obtain rfl:k=t.rows.length:=by (simp only[oZ] at *;omega)
    refine aE ?_
    (repeat first|refine tM rfl ?_ |refine aU rfl ?_ |refine Aa ?_)
    refine Ak.names [1] [(4,.o (.mp 0))] [(0,.mp (FO (Be L t t.rows.length)))] (by intro i hi;rw [hΓ] at hi;omega) (by simp) (by simp[cX,zC,hΓ]) (by simp[cX,zC,hΓ]) ?_
    refine aR ⟨_,rfl,rfl,rfl,rfl⟩
theorem Qb (l:List (W×Int)) (p:W×Int) (s:W):Cs (l++[p]) s=(Cs l s).or (if p.1=s then some p.2 else none):=by
  unfold Cs
  rw [List.find?_append]
  cases h:l.find? (fun p=>decide (p.1=s)) with
  | some q=>simp
  | none=>by_cases hp:p.1=s<;>simp [hp]
theorem GV {L:W→Bool} {t:A2} {k:Nat} (h:k < t.rows.length):(AK L t)[k]? = some (marks L t.cols (t.rows.getD k [])):=by
  simp [AK,h]
theorem Ii (L:W→Bool) (t:A2):∀k,k≤t.rows.length→∀s,Cs (Be L t k) s=if s∈(AK L t).take k then some (((AK L t).idxOf s:Nat):Int) else none
  | 0,_,s=>by simp [Be,Cs]
  | k + 1, hk, s=>by
    have ih:=Ii L t k (by omega)
    have hx:=GV (L:=L) (t:=t) (k:=k) (by omega)
    generalize marks L t.cols (t.rows.getD k [])=x at *
    have hst:Be L t (k+1)=if (Cs (Be L t k) x).isSome then Be L t k else Be L t k++[(x,(k:Int))]:=by
      have hx2:=GV (L:=L) (t:=t) (k:=k) (by omega)
      rw [hx] at hx2
      injection hx2 with hx2
      rw [Be,←hx2]
    have htk:∀s,s∈(AK L t).take (k+1)↔s∈(AK L t).take k∨s=x:=fun s=>by
      rw [List.take_add_one,hx];simp
    rw [hst]
    by_cases hm:x∈(AK L t).take k
    · rw [if_pos (by rw [ih x,if_pos hm];rfl),ih s]
      by_cases hs:s∈(AK L t).take k
      · rw [if_pos hs,if_pos ((htk s).2 (.inl hs))]
      · rw [if_neg hs,if_neg]
        intro h
        rcases (htk s).1 h with h|h
        · exact hs h
        · subst h;exact hs hm
    · rw [if_neg (by rw [ih x,if_neg hm];simp),Qb,ih s]
      by_cases hs:s∈(AK L t).take k
      · rw [if_pos hs,if_pos ((htk s).2 (.inl hs))];rfl
      · rw [if_neg hs]
        by_cases he:x=s
        · subst he
          rw [if_pos ((htk x).2 (.inr rfl))]
          have hix:(AK L t).idxOf x=k:=by
            have hl:k < (AK L t).length:=(List.getElem?_eq_some_iff.1 hx).1
            have e:AK L t=(AK L t).take k++x::(AK L t).drop (k+1):=by
              rw [←C6 hx,List.take_append_drop]
            rw [e,List.idxOf_append,if_neg hm,List.idxOf_cons_self]
            simp;omega
          simp [hix]
        · have hns:s∉(AK L t).take (k+1):=fun h=>by
            rcases (htk s).1 h with h|h
            · exact hs h
            · exact he h.symm
          rw [if_neg hns]
          simp [he]
theorem R6 {L:W→Bool} {t:A2} {s:W}:Cs (Be L t t.rows.length) s=if s∈AK L t then some (((AK L t).idxOf s:Nat):Int) else none:=by
  have h:=Ii L t t.rows.length (Nat.le_refl _) s
  have e:(AK L t).take t.rows.length=AK L t:=List.take_of_length_le (by simp [AK])
  rwa [e] at h
theorem Pw {L:W→Bool} {ls:List UInt8} {t:A2} {k j:Nat} {r:W} {l:UInt8} (hr:t.rows[k]? = some r) (hl:ls[j]? = some l) (h1:∀w∈B2 ls (t.rows.take k),marks L t.cols w∈AK L t) (h2:∀x∈ls.take j,marks L t.cols (r++[x])∈AK L t)
    (h3:marks L t.cols (r++[l])∉AK L t):AT L ls t=some (r++[l]):=by
  have e1:t.rows=t.rows.take k++r::t.rows.drop (k+1):=by
    rw [←C6 hr,List.take_append_drop]
  have e2:ls=ls.take j++l::ls.drop (j+1):=by
    rw [←C6 hl,List.take_append_drop]
  have e3:B2 ls t.rows=B2 ls (t.rows.take k)++((ls.take j).map (fun x=>r++[x])++(r++[l])::((ls.drop (j+1)).map (fun x=>r++[x])++B2 ls (t.rows.drop (k+1)))):=by
    have h4:B2 ls t.rows=B2 ls (t.rows.take k++r::t.rows.drop (k+1)):=congrArg _ e1
    rw [h4]
    unfold B2
    rw [List.flatMap_append,List.flatMap_cons]
    have h5:ls.map (fun x=>r++[x])=(ls.take j++l::ls.drop (j+1)).map (fun x=>r++[x]):=congrArg _ e2
    rw [h5]
    simp
  unfold AT
  rw [e3,List.find?_append,List.find?_append]
  have n1:(B2 ls (t.rows.take k)).find? (fun w=>!(AK L t).contains (marks L t.cols w))=none:=List.find?_eq_none.2 fun w hw=>by simpa using h1 w hw
  have n2:((ls.take j).map (fun x=>r++[x])).find? (fun w=>!(AK L t).contains (marks L t.cols w))=none:=List.find?_eq_none.2 fun w hw=>by
    obtain ⟨x,hx,rfl⟩:=List.mem_map.1 hw
    simpa using h2 x hx
  rw [n1,n2]
  simp [h3]
def lb (l:Int):UInt8:=UInt8.ofNat (97+l.toNat)
def Bc (al:Int):List UInt8:=(Ag al).map lb
def P7 (o:Option W):E:=match o with
  | some w=>.t [(false,[.d (tD w)]),(false,[.d (bD true)])]
  | none=>.t [(false,[.d (tD [])]),(false,[.d (bD false)])]
theorem Wz {l:Int} (h0:0≤l):UInt8.ofNat (97+l).toNat=lb l:=by
  unfold lb
  congr 1
  omega
theorem Na {L:W→Bool} {t:A2} {s:W}:(Cs (Be L t t.rows.length) s).isSome=true↔s∈AK L t:=by
  rw [R6]
  by_cases h:s∈AK L t<;>simp [h]
theorem JZ {ls:List UInt8} {t:A2} {k:Nat} {r:W} (h:t.rows[k]? = some r):B2 ls (t.rows.take (k+1))=B2 ls (t.rows.take k)++ls.map fun l=>r++[l]:=by
  unfold B2
  rw [List.take_add_one,h]
  simp
theorem E7 {c:C} {L:W→Bool} {ok:W→Prop} (hc:Ft Tryz.prog TB c L ok) (al:Int) (t:A2) (ht:OU ok t) (hn:∀w∈t.rows,∀l∈Bc al,∀x∈t.cols,ok (w++[l]++x)) :
    Pure Tryz.prog TB 58 [MX al c,Cg t] (P7 (AT L (Bc al) t)):=by
  have hr:=CC c hc.A9
  have hrl:=ht.rl
  have hla:(Ag al).length≤6:=AO al 6
  refine eN Tryz.func58 rfl (by kernel_rfl) rfl ?_;intro Γ hΓ
  (repeat first|refine aU rfl ?_)
  (refine pW rfl ?_ rfl (by rfl);refine Fq rfl rfl ?_)
  (refine Af rfl ?_;refine C0 (fun _ _=>Ed rfl rfl rfl) rfl ?_)
  (repeat first|refine tM rfl ?_ |refine aU rfl ?_ |refine Aa ?_)
  (refine pW rfl ?_ rfl (by rfl);refine Ac [] rfl rfl (GC hc al t ht) ⟨rfl,by simp,by simp⟩ (by simp [FR,E.AQ,C.BT,C.AQ,hr,eC]) trivial ?_;rintro x0 σ1 nx1 ⟨rfl,rfl,rfl⟩ _)
  (repeat first|refine sN rfl ?_ |refine tM rfl ?_ |refine aU rfl ?_ |refine Aa ?_)
  refine aB ?_
  refine Ak.CR (α:={k:Nat // k≤t.rows.length∧∀w∈B2 (Bc al) (t.rows.take k),marks L t.cols w∈AK L t}) (fun ⟨k,hkl,hkd⟩=>[(2,.o (.ptr 0 2 0 0)),(3,.o (.ip (SV t))),(6,.o (.mp 1)),(18,.o (.d (AX t.rows))),(19,eI .i64 t.rows.length),(20,eI .i64 k)]) (fun ⟨k,hkl,hkd⟩=>[(1,.mp (FO (Be L t t.rows.length))),(0,.cells 69 2 [[.d (iD al),c]])]) 2 (fun ⟨k,hkl,hkd⟩=>t.rows.length - k) (⟨0,by omega,by simp [B2]⟩) [0,1] (Lz hΓ rfl rfl) (by (simp[cX,zC,hΓ,hr,eC,Ab.AQ,CN,HM])) ?_;rintro ⟨k,hkl,hkd⟩;(try dsimp only)
  (repeat first|refine s2 rfl fun _ _hb=>?_ |refine aU rfl ?_ |refine Aa ?_)
  (refine aC rfl ?_ ?_<;>rintro ⟨⟩)
  · have hlt:k < t.rows.length:=by (simp only[oZ] at *;omega)
    obtain ⟨r,hx⟩:=get_some (l:=t.rows) (k:=k) hlt
    have hx':=get_map (g:=BM) hx
    have hxm:=List.mem_of_getElem? hx
    have hxb:=ht.rb r hxm
    refine aK ?_
    refine aS (aB ?_)
    (repeat first|refine sN rfl ?_ |refine tM rfl ?_ |(refine s4 rfl ‹_› rfl ?_ ?_;omega) |refine sP rfl (DL al) rfl ?_ |refine aU rfl ?_ |refine Aa ?_)
    refine aB ?_
    refine Ak.CR (α:={j:Nat // j≤(Ag al).length∧∀x∈(Bc al).take j,marks L t.cols (r++[x])∈AK L t}) (fun ⟨j,hjl,hjd⟩=>[(2,.o (.ptr 0 2 0 0)),(3,.o (.ip (SV t))),(6,.o (.mp 1)),(18,.o (.d (AX t.rows))),(19,eI .i64 t.rows.length),(20,eI .i64 k),(8,eT r),(26,BP (Ag al)),(27,eI .i64 (Ag al).length),(28,eI .i64 j)]) (fun ⟨j,hjl,hjd⟩=>[(1,.mp (FO (Be L t t.rows.length))),(0,.cells 69 2 [[.d (iD al),c]])]) 2 (fun ⟨j,hjl,hjd⟩=>(Ag al).length - j) (⟨0,by omega,by simp⟩) [0,1] (Lz hΓ rfl rfl) (by (simp[cX,zC,hΓ,hr])) ?_;rintro ⟨j,hjl,hjd⟩;(try dsimp only)
    (repeat first|refine s2 rfl fun _ _hb=>?_ |refine aU rfl ?_ |refine Aa ?_)
    (refine aC rfl ?_ ?_<;>rintro ⟨⟩)
    · have hjlt:j < (Ag al).length:=by (simp only[oZ] at *;omega)
      obtain ⟨l,hl⟩:=get_some (l:=Ag al) (k:=j) hjlt
      have hl':=get_map (g:=Dv) hl
      have hlb:=BB (List.mem_of_getElem? hl)
      have hll:(Bc al)[j]? = some (lb l):=by simp [Bc,hl]
      have hlm:=List.mem_of_getElem? hll
      have hm:=JX hc al t (r++[lb l]) (by have:=ht.cl;omega) (fun x hx=>hn r hxm _ hlm x hx) (fun y hy=>by have:=ht.cb y hy;simp;omega)
      refine aK ?_
      refine aS (aB ?_)
      (repeat first|(refine sM rfl ?_ ?_;first|exact tI|omega|simp only[oZ] at *;omega) |(refine s4 rfl ‹_› rfl ?_ ?_;omega) |refine sP rfl (KO l hlb.1 (by omega)) rfl ?_|(refine Af rfl ?_;refine gA rfl ?_;first| refine gS (fun _ _=>VD rfl (by omega) (by omega)) ?_) |refine aU rfl ?_ |refine Aa ?_)
      rw [Wz hlb.1]
      (repeat first|refine tM rfl ?_ |refine s2 rfl fun _ _hb=>?_|(refine Af rfl ?_;refine gA rfl ?_;first| refine gS (fun _ _=>A5 rfl rfl (by simp [E.A9,C.BL,C.A9,hc.A9]) hm rfl) ?_|refine gQ (Sx rfl rfl rfl) (by rfl) ?_) |refine aU rfl ?_ |refine Aa ?_)
      (refine aC rfl ?_ ?_<;>rintro ⟨⟩)
      · have hno:marks L t.cols (r++[lb l])∉AK L t:=fun h=>by
          rw [Na.2 h] at _hb
          cases _hb
        (repeat first|refine tM rfl ?_ |refine aU rfl ?_ |refine Aa ?_)
        refine aR ⟨_,rfl,?_⟩
        rw [Pw hx hll hkd hjd hno]
        rfl
      · have hyes:marks L t.cols (r++[lb l])∈AK L t:=Na.1 (by simpa using _hb)
        have hjd2:∀x∈(Bc al).take (j+1),marks L t.cols (r++[x])∈AK L t:=fun x hx=>by
          rw [List.take_add_one,hll] at hx
          rcases List.mem_append.1 hx with hx|hx
          · exact hjd x hx
          · simp at hx;subst hx;exact hyes
        refine aK ?_
        (repeat first|(refine sM rfl ?_ ?_;first|exact tI|omega) |refine aU rfl ?_ |refine Aa ?_)
        refine ⟨⟨j+1,by omega,hjd2⟩,by dsimp only;(omega),[0,1],?_⟩
        simp[cX,zC,hΓ,hr]
    · obtain rfl:j=(Ag al).length:=by (simp only[oZ] at *;omega)
      have hkd2:∀w∈B2 (Bc al) (t.rows.take (k+1)),marks L t.cols w∈AK L t:=fun w hw=>by
        rw [JZ hx] at hw
        rcases List.mem_append.1 hw with hw|hw
        · exact hkd w hw
        · obtain ⟨x,hx2,rfl⟩:=List.mem_map.1 hw
          exact hjd x (by rw [List.take_of_length_le (by simp [Bc])];exact hx2)
      refine aE ?_
      (repeat first|(refine sM rfl ?_ ?_;first|exact tI|omega) |refine aU rfl ?_ |refine Aa ?_)
      refine ⟨⟨k+1,by omega,hkd2⟩,by dsimp only;(omega),[0,1],?_⟩
      simp[cX,zC,hΓ,hr]
  · obtain rfl:k=t.rows.length:=by (simp only[oZ] at *;omega)
    have hno:AT L (Bc al) t=none:=List.find?_eq_none.2 fun w hw=>by
      have:=hkd w (by rw [List.take_length];exact hw)
      simpa using this
    refine aE ?_
    (repeat first|refine tM rfl ?_ |refine aU rfl ?_ |refine Aa ?_)
    refine aR ⟨_,rfl,?_⟩
    rw [hno]
    rfl
theorem MS (l:List W) (h:l.length≤1048576):Spec Tryz.prog TB 106 [] 0 [Bx l] (fun x σ nx=>x=.o (.arr 0 1 0 l.length)∧nx=1∧σ=[(0,.cells 9 1 (l.map AG))]):=by
  refine eN Tryz.func106 rfl (by kernel_rfl) rfl ?_;intro Γ hΓ
  (repeat first|refine aU rfl ?_)
  (refine Af rfl ?_;refine C0 (fun _ _=>Hy rfl) rfl ?_)
  (repeat first|refine tM rfl ?_ |refine aU rfl ?_ |refine Aa ?_)
  (refine pW rfl ?_ rfl (by rfl);refine R3 rfl ?_;intro b0 hb0)
  (repeat first|refine Aa ?_)
  (refine aC rfl ?_ ?_<;>rintro ⟨⟩)
  · obtain rfl:l=[]:=by simpa using hb0 rfl
    (repeat first|refine aU rfl ?_)
    (refine pW rfl ?_ rfl (by rfl);refine Uw 1 9 ?_)
    (repeat first|refine Aa ?_)
    refine aR ⟨_,rfl,rfl,rfl,rfl⟩
  · refine aK ?_
    (repeat first|refine aU rfl ?_)
    (refine pW rfl ?_ rfl (by rfl);refine Bd rfl rfl rfl rfl (by simp) (by rfl) (by rfl) (by rfl) (by rfl) ?_)
    (repeat first|refine tM rfl ?_)
    (refine pW rfl ?_ rfl (by rfl);refine AE rfl rfl rfl (by first| (simp;done)|(simp;(omega))) rfl (by intro r hr;simp at hr;obtain ⟨a,_,rfl⟩:=hr;rfl) (by rfl) (Nat.le_of_ble_eq_true rfl) (by simp;omega) ?_)
    (repeat first|refine tM rfl ?_ |refine Aa ?_)
    refine Ak.names [1] [(2,.o (.arr 0 1 0 l.length))] [(0,.cells 9 1 (l.map AG))] (by intro i hi;rw [hΓ] at hi;omega) (by simp) (by simp[cX,zC,hΓ]) (by simp[cX,zC,hΓ]) ?_
    refine aR ⟨_,rfl,rfl,rfl,rfl⟩
theorem RK (l:List W) (s:W):Pure Tryz.prog TB 114 [Bx l,eT s] (eI .i64 (if s∈l then (l.idxOf s:Int) else -1)):=by
  refine eN Tryz.func114 rfl (by kernel_rfl) rfl ?_;intro Γ hΓ
  refine Ak.bound 0 rfl fun hB0=>?_
  have hB:=hB0 (l.map BM) .refl
  (repeat first|refine sN rfl ?_ |refine tM rfl ?_ |refine aU rfl ?_ |refine Aa ?_)
  refine aB ?_
  refine Ak.CR (α:={k:Nat // k≤l.length∧s∉l.take k}) (fun ⟨k,hk,hs⟩=>[(0,Bx l),(1,eT s),(7,eI .i64 l.length),(8,eI .i64 k)]) (fun ⟨k,hk,hs⟩=>[]) 0 (fun ⟨k,hk,hs⟩=>l.length - k) (⟨0,by omega,by simp⟩) [] (Lz hΓ rfl rfl) (by (simp[cX,zC,hΓ])) ?_;rintro ⟨k,hk,hs⟩;(try dsimp only)
  (repeat first|refine s2 rfl fun _ _hb=>?_ |refine aU rfl ?_ |refine Aa ?_)
  (refine aC rfl ?_ ?_<;>rintro ⟨⟩)
  · have hlt:k < l.length:=by (simp only[oZ] at *;omega)
    obtain ⟨x,hx⟩:=get_some (l:=l) (k:=k) hlt
    have hx':=get_map (g:=BM) hx
    refine aK ?_
    refine aS (aB ?_)
    (repeat first|refine tM rfl ?_ |(refine s4 rfl ‹_› rfl ?_ ?_;omega) |refine s2 rfl fun _ _hb=>?_ |refine aU rfl ?_ |refine Aa ?_)
    (refine aC rfl ?_ ?_<;>rintro ⟨⟩)
    · have he:s=x:=by (simp only[oZ] at *;omega)
      subst he
      (repeat first|refine tM rfl ?_ |refine aU rfl ?_ |refine Aa ?_)
      refine aR ⟨_,rfl,?_⟩
      have hm:s∈l:=List.mem_of_getElem? hx
      have hi:l.idxOf s=k:=by
        have e:l=l.take k++s::l.drop (k+1):=by rw [←C6 hx,List.take_append_drop]
        rw [e,List.idxOf_append,if_neg hs,List.idxOf_cons_self]
        simp;omega
      rw [if_pos hm,hi]
    · have he:¬s=x:=by simpa using _hb
      have hs2:s∉l.take (k+1):=by
        rw [List.take_add_one,hx]
        simp [hs,he]
      refine aK ?_
      (repeat first|(refine sM rfl ?_ ?_;first|exact tI|simp only[oZ] at *;omega) |refine aU rfl ?_ |refine Aa ?_)
      refine ⟨⟨k+1,by omega,hs2⟩,by dsimp only;(omega),[],?_⟩
      simp[cX,zC,hΓ]
  · obtain rfl:k=l.length:=by (simp only[oZ] at *;omega)
    rw [List.take_length] at hs
    refine aE ?_
    (repeat first|refine tM rfl ?_ |refine aU rfl ?_ |refine Aa ?_)
    refine aR ⟨_,rfl,?_⟩
    rw [if_neg hs]
theorem IC (l:List W) (s:W):Pure Tryz.prog TB 93 [Bx l,eT s] (eB (decide (s∈l))):=by
  refine eN Tryz.func93 rfl (by kernel_rfl) rfl ?_;intro Γ hΓ
  (repeat' first|refine tA rfl ?_ |refine s2 rfl fun _ _hb=>?_ |refine sP rfl (RK l s) rfl ?_ |refine aU rfl ?_ |refine Aa ?_|(refine aC rfl ?_ ?_<;>rintro ⟨⟩)|refine aK ?_|refine aE ?_|refine aB ?_|refine aR ⟨_,rfl,?_⟩)
  all_goals (show E.o _=E.o _;congr;subst _hb;by_cases h:s∈l<;>simp [h])
def N0 (t:A2) (Wm:W):Option A2:=if t.cols.length=20∨Wm∈t.cols then none else some ⟨t.rows,t.cols++[Wm]⟩
def ID (o:Option A2):E:=match o with
  | some t=>.t [(true,[.d (AX t.rows),.d (AX t.cols)]),(false,[.d (bD true)])]
  | none=>.t [(true,[.d (.l []),.d (.l [])]),(false,[.d (bD false)])]
end Go.Am
namespace Go.Am.R
open Go
section
variable {P:Program} {TB:A7} {ops:Array Oper} {i c:Nat} {r:List (Nat×Nat)} {L:List (Nat×E)} {σ:Ab} {nx:Nat} {pl:List (Nat×(TypeId×List Value))} {K:Br→Prop} {d:Tmp} {ty:TypeId} {pos:String} {af:Array Edge} {g:Option (Nat×Bool)} {op:Op}
theorem yQ {md:Bool} [hT:B5 P] {q:Prop} {x:E} (hg:A8 ops ⟨some d,op,ty,pos,af,g⟩ (look L)=some true) (hc:(Nat.beq c 0 || Nat.beq c 2)=true) (h:SC hT.T md (look L) op=some (q,x)) (hq:q) (hk:Ew P TB ops r K ((d,x)::L) σ nx (CO d pl)):Bo P TB ops ⟨some d,op,ty,pos,af,g⟩ i c r K L σ nx pl:=
  C0 (fun _ _ _=>PG h hq) hg hc hk
theorem yB [hT:B5 P] {b0:Bool} (hg:A8 ops ⟨some d,op,ty,pos,af,g⟩ (look L)=some true) (hc:(Nat.beq c 0 || Nat.beq c 2)=true) (h:NB hT.T (look L) op=some b0) (hk:∀b,b0=b→Ew P TB ops r K ((d,eB b)::L) σ nx (CO d pl)):Bo P TB ops ⟨some d,op,ty,pos,af,g⟩ i c r K L σ nx pl:=
  Qt (fun _ _ _=>NC h) hg hc hk
theorem yS [hT:B5 P] {x:E} (hg:A8 ops ⟨some d,op,ty,pos,af,g⟩ (look L)=some true) (hc:Nat.beq c 0=true) (h:IP hT.T σ (look L) op=some x) (hk:Ew P TB ops r K ((d,x)::L) σ nx (CO d pl)):Bo P TB ops ⟨some d,op,ty,pos,af,g⟩ i c r K L σ nx pl:=
  Vt (fun _=>Kf h) hg hc hk
theorem yW [hT:B5 P] {t:TypeId} {x y:Operand} {σ':Ab} (hg:A8 ops ⟨none,.store t x y,ty,pos,af,g⟩ (look L)=some true) (hc:c=1) (h:Ly hT.T σ (look L) t x y=some σ') (hk:Ew P TB ops r K L σ' nx pl):Bo P TB ops ⟨none,.store t x y,ty,pos,af,g⟩ i c r K L σ nx pl:=
  Fs (fun _=>Kg h hk) hg hc
theorem yA [hT:B5 P] {t:Tmp} {ts:TypeId} {y:Operand} {T:TypeId} {z:List Value} {σ':Ab} (hp:look pl t=some (T,z)) (hg:A8 ops ⟨none,.store ts (.tmp t) y,ty,pos,af,g⟩ (look ((t,.o (.ptr nx z.length 0 0))::L))=some true) (hc:c=5)
    (h:Ly hT.T ((nx,.cells T z.length [z.map zC])::σ) (look ((t,.o (.ptr nx z.length 0 0))::L)) ts (.tmp t) y=some σ') (hk:Ew P TB ops r K ((t,.o (.ptr nx z.length 0 0))::L) σ' (nx+1) (CO t pl)):Bo P TB ops ⟨none,.store ts (.tmp t) y,ty,pos,af,g⟩ i c r K L σ nx pl:=
  WI hp hg hc fun _=>Kg h hk
theorem yP [hT:B5 P] {T:TypeId} {z:List Value} (hz:(Gw hT.T T).ze=some z) (hok:z.all KF=true) (hf:look L d=none) (hc:c=3) (h:Ew P TB ops r K L σ nx ((d,(T,z))::pl)):Bo P TB ops ⟨some d,.alloc T,ty,pos,af,none⟩ i c r K L σ nx pl:=
  haveI:=(CK (P:=P) T hT.ok).RE hz
  XT hok hf hc h
end
end Go.Am.R
namespace Go.Am
open Go Go.Proofs
set_option maxHeartbeats 1000000
attribute [local irreducible] AU B0 Lex Bo Ak Spec
variable {TB:A7}
structure Hd (al:Int) (b:Nat) (t:A2):Prop where
  onR:∀w∈t.rows,A1 (Bc al) w∧w.length≤b
  onC:∀x∈t.cols,A1 (Bc al) x∧x.length≤20000
  rl:t.rows.length≤12
  cl:t.cols.length≤20
def NW (ok:W→Prop) (al:Int):Prop:=∀w,A1 (Bc al) w→w.length≤50000→ok w
def MP (ls:List UInt8) (t:A2) (v:W):Prop:=∃r∈t.rows,∃m:W,(m=[]∨∃l∈ls,m=[l])∧∃x:W,(x=[]∨x∈t.cols)∧v=r++m++x
def Iv (ok:W→Prop) (ls:List UInt8) (t:A2):Prop:=∀v,MP ls t v→ok v
def C8 (L:W→Bool) (ls:List UInt8):Nat→A2→List A2
  | 0,t=>[t]
  | n+1,t=>t::match AT L ls t with
    | none=>[]
    | some w=>if t.rows.length=12 then [] else C8 L ls n ⟨t.rows++[w],t.cols⟩
theorem Cv {L:W→Bool} {ls:List UInt8} {n:Nat} {t:A2}:t∈C8 L ls n t:=by cases n<;>simp [C8]
theorem Hd.Ts {ok:W→Prop} {al:Int} {b:Nat} {t:A2} (h:Hd al b t) (hf:Iv ok (Bc al) t) (hb:b≤20100):OU ok t∧∀w∈t.rows,∀l∈Bc al,∀x∈t.cols,ok (w++[l]++x):=
  ⟨⟨fun w hw x hx=>hf _ ⟨w,hw,[],.inl rfl,x,.inr hx,by simp⟩,fun w hw=>by have:=(h.onR w hw).2;omega,fun x hx=>by have:=(h.onC x hx).2;omega,by have:=h.rl;omega,by have:=h.cl;omega⟩,
   fun w hw l hl x hx=>hf _ ⟨w,hw,[l],.inr ⟨l,hl,rfl⟩,x,.inr hx,rfl⟩⟩
theorem Hd.on {ok:W→Prop} {al:Int} {b:Nat} {t:A2} (h:Hd al b t) (hf:NW ok al) (hb:b≤20100):Iv ok (Bc al) t:=by
  rintro v ⟨r,hr,m,hm,x,hx,rfl⟩
  have h1:=h.onR r hr
  have h2:A1 (Bc al) m∧m.length≤1:=by
    rcases hm with rfl|⟨l,hl,rfl⟩
    · exact ⟨fun c hc=>by simp at hc,by simp⟩
    · exact ⟨fun c hc=>by simp at hc;subst hc;exact hl,by simp⟩
  have h3:A1 (Bc al) x∧x.length≤20000:=by
    rcases hx with rfl|hx
    · exact ⟨fun c hc=>by simp at hc,by simp⟩
    · exact h.onC x hx
  refine hf _ (fun c hc=>?_) (by simp;omega)
  simp only [List.mem_append] at hc
  rcases hc with (hc|hc)|hc
  · exact h1.1 c hc
  · exact h2.1 c hc
  · exact h3.1 c hc
theorem Hd.push {L:W→Bool} {al:Int} {b:Nat} {t:A2} {w:W} (h:Hd al b t) (ho:AT L (Bc al) t=some w) (hl:t.rows.length < 12):Hd al (b+1) ⟨t.rows++[w],t.cols⟩:=by
  obtain ⟨⟨r,hr,l,hl2,rfl⟩,_⟩:=Fe ho
  refine ⟨fun u hu=>?_,h.onC,by simp;omega,h.cl⟩
  rcases List.mem_append.1 hu with hu|hu
  · have:=h.onR u hu;exact ⟨this.1,by omega⟩
  · simp at hu
    subst hu
    have:=h.onR r hr
    refine ⟨fun c hc=>?_,by simp;omega⟩
    rcases List.mem_append.1 hc with hc|hc
    · exact this.1 c hc
    · simp at hc;subst hc;exact hl2
theorem Hd.grow {L:W→Bool} {al:Int}:∀ {n b:Nat} {t y:A2},Hd al b t→y∈C8 L (Bc al) n t→Hd al (b+n) y
  | 0,b,t,y,h,hy=>by simp [C8] at hy;subst hy;exact h
  | n + 1, b,t,y,h,hy=>by
    have hm:∀ {b':Nat} {z:A2},b'≤b+(n+1)→Hd al b' z→Hd al (b+(n+1)) z:=fun hb hz=>⟨fun w hw=>⟨(hz.onR w hw).1,Nat.le_trans (hz.onR w hw).2 hb⟩,hz.onC,hz.rl,hz.cl⟩
    unfold C8 at hy
    rcases List.mem_cons.1 hy with rfl|hy
    · exact hm (by omega) h
    · cases ho:AT L (Bc al) t with
      | none=>rw [ho] at hy;simp at hy
      | some w=>
        rw [ho] at hy
        dsimp only at hy
        split at hy
        · simp at hy
        · have:=h.rl
          exact hm (by omega) (Hd.grow (h.push ho (by omega)) hy)
theorem Hd.Yv {L:W→Bool} {ok:W→Prop} {al:Int} {b:Nat} {t:A2} (h:Hd al b t) (hf:NW ok al) (hb:b≤20000):∀y∈C8 L (Bc al) 13 t,Iv ok (Bc al) y:=fun y hy=>(h.grow hy).on hf (by omega)
theorem JB {c:C} {L:W→Bool} {ok:W→Prop} (hc:Ft Tryz.prog TB c L ok) (al:Int) (t:A2) (hf:∀y∈C8 L (Bc al) 13 t,Iv ok (Bc al) y) (ht:Hd al 20000 t) :
    Pure Tryz.prog TB 76 [MX al c,Cg t] (ID (AW L (Bc al) 13 t)):=by
  have hr:=CC c hc.A9
  have hrl:=ht.rl
  have hcl:=ht.cl
  have hc1:=MS (TB:=TB) t.rows (by omega)
  have hc2:=MS (TB:=TB) t.cols (by omega)
  refine AP.OO (AP.ofM 2 (Nat.le_refl _) Tryz.func76 rfl rfl (by kernel_rfl) (Nat.le_of_ble_eq_true rfl) ?_);intro Γ hΓ
  (repeat first|refine aU rfl ?_)
  (refine pW rfl ?_ rfl (by rfl);refine Fq rfl rfl ?_)
  (refine Af rfl ?_;refine C0 (fun _ _=>Ed rfl rfl rfl) rfl ?_)
  (repeat first|refine tM rfl ?_ |refine aU rfl ?_ |refine Aa ?_)
  refine R.Qz [(7,3),(0,2),(1,2),(3,2),(4,2),(2,1),(5,1),(6,0),(8,5)] mixed (by kernel_rfl) rfl (by kernel_rfl) ?_
  (repeat ((refine R.Af rfl ?_;first|(refine R.yQ (md:=false) rfl rfl rfl ?_ ?_;exact tI) |refine R.yP rfl rfl rfl rfl ?_ )))
  (refine R.Af rfl ?_;refine R.Gu (fun _=>?_) rfl rfl;refine Ac [] rfl rfl hc1 ⟨rfl,by simp,by simp⟩ rfl trivial ?_;rintro x0 σ1 nx1 ⟨rfl,rfl,rfl⟩ _)
  (refine R.Af rfl ?_;refine R.Gu (fun _=>?_) rfl rfl;refine Ac [] rfl rfl hc2 ⟨rfl,by simp,by simp⟩ rfl trivial ?_;rintro x0 σ1 nx1 ⟨rfl,rfl,rfl⟩ _)
  (repeat ((refine R.Af rfl ?_;first|refine R.yA rfl rfl rfl rfl ?_|refine R.C0 (fun _ _ _=>AD rfl rfl (by rfl) (by rfl)) rfl rfl ?_ )))
  refine R.KQ ?_
  refine aB ?_
  have hz:∀x:A2,AT L (Bc al) x=none∨∃w,AT L (Bc al) x=some w:=fun x=>by cases AT L (Bc al) x<;>simp
  refine Ak.CR (α:={p:Nat×A2 // p.1≤13∧13≤p.1+p.2.rows.length∧Hd al (20000+p.2.rows.length) p.2∧AW L (Bc al) 13 t=AW L (Bc al) p.1 p.2∧∀y∈C8 L (Bc al) p.1 p.2,Iv ok (Bc al) y}) (fun ⟨⟨m,u⟩,hm,hmu,hu,he,hgr⟩=>[(2,.o (.ptr 0 2 0 0)),(4,.o (.ptr 1 2 0 0)),(6,.o (.ptr 4 2 0 0))]) (fun ⟨⟨m,u⟩,hm,hmu,hu,he,hgr⟩=>[(0,.cells 69 2 [[.d (iD al),c]]),(1,.cells 36 2 [[.d (.l []),.d (.l [])]]),(2,.cells 9 1 (u.rows.map AG)),(3,.cells 9 1 (u.cols.map AG)),(4,.cells 36 2 [[.arr 2 1 0 u.rows.length,.arr 3 1 0 u.cols.length]])]) 5 (fun ⟨⟨m,u⟩,hm,hmu,hu,he,hgr⟩=>m) (⟨(13,t),by simp,by simp,⟨fun w hw=>⟨(ht.onR w hw).1,by have:=(ht.onR w hw).2;omega⟩,ht.onC,ht.rl,ht.cl⟩,rfl,hf⟩) [0,1,2,3,4] (Lz hΓ rfl rfl) (by (simp[cX,zC,hΓ,hr,eC,Ab.AQ,CN,HM,BQ,Ae])) ?_;rintro ⟨⟨m,u⟩,hm,hmu,hu,he,hgr⟩;(try dsimp only)
  dsimp only at hm hmu hu he hgr
  have htk:∀l:List W,((l.map AG).drop 0).take l.length=(l.map BM).map (fun r=>r.map C.d):=fun l=>by rw [List.drop_zero,List.take_of_length_le (by simp)];simp [Function.comp_def]
  have hur:=hu.rl
  have huc:=hu.cl
  have hask:=hu.Ts (hgr u Cv) (by omega)
  have hfo:=E7 (TB:=TB) hc al u hask.1 hask.2
  have hev:UC [(0,.cells 69 2 [[.d (iD al),c]]),(1,.cells 36 2 [[.d (.l []),.d (.l [])]]),(2,.cells 9 1 (u.rows.map AG)),(3,.cells 9 1 (u.cols.map AG)),(4,.cells 36 2 [[.arr 2 1 0 u.rows.length,.arr 3 1 0 u.cols.length]])] [.a [.d (iD al),c],.a [.arr 2 1 0 u.rows.length,.arr 3 1 0 u.cols.length]] [MX al c,Cg u]:=
    .cons (.cons (.pure rfl) (.cons (.pure hc.A9) .nil)) (.cons (.cons (.arr rfl (by simp) (htk _)) (.cons (.arr rfl (by simp) (htk _)) .nil)) .nil)
  refine aB ?_
  rcases hz u with ho|⟨w,ho⟩
  · rw [ho] at hfo
    (repeat first|refine tM rfl ?_ |refine s2 rfl fun _ _hb=>?_|(refine Af rfl ?_;refine gA rfl ?_;first| refine gQ (Jo rfl rfl (hev) (hfo) rfl) rfl ?_) |refine aU rfl ?_ |refine Aa ?_)
    (refine aC rfl ?_ ?_<;>rintro ⟨⟩)
    · (repeat first|refine tM rfl ?_ |refine aU rfl ?_ |refine Aa ?_)
      have hn:AW L (Bc al) 13 t=some u:=by
        rw [he]
        obtain ⟨m',rfl⟩:∃m',m=m'+1:=⟨m - 1,by omega⟩
        simp [AW,ho]
      refine Ak.names [1,2,3] [(4,.o (.ptr 0 2 0 0)),(5,eB true)] [(0,.cells 36 2 [[.arr 1 1 0 u.rows.length,.arr 2 1 0 u.cols.length]]),(1,.cells 9 1 (u.rows.map AG)),(2,.cells 9 1 (u.cols.map AG))] (by intro i hi;rw [hΓ] at hi;omega) (by simp) (by simp[cX,zC,hΓ,HM]) (by simp[cX,zC,hΓ,HM,Ab.AQ,CN,BQ,eC,Ae]) ?_
      refine Ak.Jg [1,2] [(4,.o (.ptr 0 2 0 0)),(5,eB true)] [(0,.cells 36 2 [[.d (AX u.rows),.d (AX u.cols)]])] ⟨⟨_,rfl,.Bi⟩,⟨_,rfl,.Bi⟩,trivial⟩ ⟨⟨_,rfl,by simp,.cons (.full (by simp) rfl (by simp [Function.comp_def]) (by simp)) (.cons (.full (by simp) rfl (by simp [Function.comp_def]) (by simp)) .nil)⟩,trivial⟩ ?_
      refine Ak.freeze [0] [(4,.o (.ip [AX u.rows,AX u.cols])),(5,eB true)] ⟨⟨_,rfl,.o (.ptr (by simp) rfl rfl rfl)⟩,⟨_,rfl,.Bi⟩,trivial⟩ ?_
      refine aR ⟨_,rfl,?_⟩
      rw [hn];rfl
    · simp at _hb
  · rw [ho] at hfo
    (repeat first|refine tM rfl ?_ |refine s2 rfl fun _ _hb=>?_|(refine Af rfl ?_;refine gA rfl ?_;first| refine gQ (Jo rfl rfl (hev) (hfo) rfl) rfl ?_) |refine aU rfl ?_ |refine Aa ?_)
    (refine aC rfl ?_ ?_<;>rintro ⟨⟩)
    · simp at _hb
    · refine aK ?_
      (repeat first|refine tM rfl ?_ |refine s2 rfl fun _ _hb=>?_ |refine aU rfl ?_ |refine Aa ?_)
      (refine aC rfl ?_ ?_<;>rintro ⟨⟩)
      · (repeat first|refine tM rfl ?_|(refine Af rfl ?_;refine gA rfl ?_;first| refine gS (fun _ _=>AD rfl rfl (by rfl) (by rfl)) ?_) |refine aU rfl ?_ |refine Aa ?_)
        have hn:AW L (Bc al) 13 t=none:=by
          have h12:u.rows.length=12:=by (simp only[oZ] at *;omega)
          rw [he]
          obtain ⟨m',rfl⟩:∃m',m=m'+1:=⟨m - 1,by omega⟩
          simp [AW,ho,h12]
        refine Ak.freeze [1] [(4,.o (.ip [.l [],.l []])),(5,eB false)] ⟨⟨_,rfl,.o (.ptr (by simp) rfl rfl rfl)⟩,⟨_,rfl,.Bi⟩,trivial⟩ ?_
        refine aR ⟨_,rfl,?_⟩
        rw [hn];rfl
      · refine aK ?_
        have hlt:u.rows.length < 12:=by (simp only[oZ] at *;omega)
        obtain ⟨m',rfl⟩:∃m',m=m'+1:=⟨m - 1,by omega⟩
        have hn:AW L (Bc al) 13 t=AW L (Bc al) m' ⟨u.rows++[w],u.cols⟩:=by
          rw [he]
          conv=>lhs;unfold AW
          rw [ho]
          dsimp only
          rw [if_neg (by omega)]
        have hp:=hu.push ho hlt
        (repeat first|refine tA rfl ?_ |refine aU rfl ?_)
        (refine pW rfl ?_ rfl (by rfl);refine AE rfl rfl rfl (by first| (simp;done)|(simp;(omega))) rfl (by intro r hr;simp at hr;subst hr;rfl) (by rfl) (Nat.le_of_ble_eq_true rfl) (by simp;omega) ?_)
        (repeat first|refine tM rfl ?_ |refine Aa ?_)
        refine ⟨⟨⟨m',⟨u.rows++[w],u.cols⟩⟩,by dsimp only;omega,by simp;omega,by simpa [Nat.add_assoc] using hp,hn,fun y hy=>hgr y (by unfold C8;rw [ho];dsimp only;rw [if_neg (by omega)];exact List.mem_cons_of_mem _ hy)⟩,by dsimp only;(omega),[0,1,5,3,4],?_⟩
        simp[cX,zC,hΓ,hr,eC,Ab.AQ,CN,HM,BQ,Ae]
end Go.Am
namespace Go.Am
set_option linter.unusedVariables false
structure Split (L:W→Bool) (ls:List UInt8) (t:A2) (u v:W):Prop where
  suf:∃p,p≠[]∧u=p++v
  new:v∉t.cols
  opens:∃r∈t.rows,∃c∈ls,marks L (t.cols++[v]) (r++[c])∉AK L ⟨t.rows,t.cols++[v]⟩
def XB (L:W→Bool) (t:A2) (w:W):Bool:=L (t.rows.getD (runM L t 0 w) [])
def WG (L:W→Bool) (ls:List UInt8) (t:A2) (w:W):Option A2:=(splitAt L t (L w) 0 w).bind fun v=>AW L ls 13 ⟨t.rows,t.cols++[v]⟩
structure Next (L:W→Bool) (ls:List UInt8) (t:A2) (w v:W) (t':A2):Prop where
  split:splitAt L t (L w) 0 w=some v
  close:AW L ls 13 ⟨t.rows,t.cols++[v]⟩=some t'
  next:WG L ls t w=some t'
  ok:QU L ls t'
  cols:t'.cols=t.cols++[v]
  new:v∉t.cols
  suf:∃p,p≠[]∧w=p++v
  more:t.rows.length < t'.rows.length
  pre:t.rows <+: t'.rows
structure Wr (L:W→Bool) (ls:List UInt8) (wr:A2→Option W):Prop where
  on:∀t w,wr t=some w→QU L ls t→A1 ls w∧XB L t w≠L w
def CD (a:Cj):Int→W→Int
  | q,[]=>q
  | q,c::w=>CD a (Dl a q.toNat ((c.toNat:Int) - 97)) w
def LA (a:Cj) (w:W):Bool:=a.ac.getD (CD a 0 w).toNat false
theorem HB (a:Cj):∀(u w:W) (q:Int),CD a q (u++w)=CD a (CD a q u) w
  | [],_,_=>rfl
  | c::u,w,q=>HB a u w _
theorem RT {l:Int} (h0:0≤l) (h1:l < 6):((lb l).toNat:Int) - 97=l:=by
  unfold lb
  have:(97+l.toNat) % 256=97+l.toNat:=by omega
  simp [this]
  omega
theorem Gi {al:Int} {c:UInt8} (h:c∈Bc al):0≤(c.toNat:Int) - 97∧(c.toNat:Int) - 97 < 6:=by
  obtain ⟨l,hl,rfl⟩:=List.mem_map.1 h
  have h1:=BB hl
  rw [RT h1.1 (by omega)]
  omega
theorem DN {a:Cj} (ha:Bf a=true) {al:Int}:∀(w:W) (q:Int),A1 (Bc al) w→0≤q∧q < a.nx.length→0≤CD a q w∧CD a q w < a.nx.length
  | [],q,_,hq=>hq
  | c::w,q,hw,hq=>by
    have h1:=Gi (hw c (by simp))
    have h2:=FG ha (q:=q.toNat) (by omega) h1.1 h1.2
    exact DN ha w _ (fun x hx=>hw x (by simp [hx])) h2
def XK {a:Cj} (ha:Bf a=true) (al:Int):Fin (LA a) (Bc al) a.nx.length where
  st w:=(CD a 0 w).toNat
  lt w hw:=by
    have h1:=AN ha
    have:=DN ha w 0 hw (by omega)
    omega
  same u w v hu hw hv h:=by
    have h1:=AN ha
    have h2:=DN ha u 0 hu (by omega)
    have h3:=DN ha w 0 hw (by omega)
    have h4:CD a 0 u=CD a 0 w:=by omega
    unfold LA
    rw [HB,HB,h4]
end Go.Am
namespace Go.Am
open Go
set_option linter.unusedVariables false
open Classical in
theorem NY.short {L:W→Bool} {ls:List UInt8} {t:A2} (h:NY L ls t):∀(i:Nat) w,t.rows[i]? = some w→w.length≤i:=by
  intro i
  induction i using Nat.strongRecOn with
  | _ i ih=>
    intro w hw
    rcases Nat.eq_zero_or_pos i with h0|h0
    · subst h0
      rw [h.r0] at hw
      injection hw with hw
      subst hw;simp
    · obtain ⟨h1,j,hj,h2⟩:=h.pre i w hw h0
      have:=ih j hj _ h2
      simp at this
      omega
def Wx:Option TypeDesc→Bool
  | some (.func ..)=>true
  | _=>false
class Ya (P:Program) (t:TypeId):Prop where
  out:Wx (P.underlying t)=true
section
variable {P:Program} {TB:A7} {Γ:Ctx} {d:Option Tmp} {ty:TypeId} {pos:String} {af:Array Edge} {g:Option (Nat×Bool)} {f:Env} {σ:Ab} {nx:Nat}
end
def JP (L:List (Nat×E)):List Nat→Option (List (Nat×E))
  | []=>some []
  | k::r=>match look L k,JP L r with
    | some e,some l=>some ((k,e)::l)
    | _,_=>none
def Pk (σ:Ab):List Nat→Option Ab
  | []=>some []
  | k::r=>match look σ k,Pk σ r with
    | some e,some l=>some ((k,e)::l)
    | _,_=>none
section
variable {P:Program} {TB:A7} {Γ:Ctx} {N:Nat}
theorem Ak.WC {c:Code} {Q:Exit→Env→Ab→Nat→Prop} {L0 Lk:List (Nat×E)} {σ Sk:Ab} {nx:Nat} {α:Type} (ks is:List Nat) (hk:JP L0 ks=some Lk) (hi:Pk σ is=some Sk) (v:α→List (Nat×E)) (s:α→Ab) (n:Nat) (μ:α→Nat)
    (x:α) (l0:List Nat) (hl0:(∀i,i < Γ.V.nx→l0[i]? = some i)∧l0.Nodup∧l0.length=n) (h0:CG (nm l0 nx) (look L0) (v x++Lk)∧AM (nm l0 nx) σ (s x++Sk))
    (round:∀x,Ak P TB Γ N c (HE (fun f σ nx=>∃y,μ y < μ x∧∃l:List Nat,(∀i,i < Γ.V.nx→l[i]? = some i)∧l.Nodup∧l.length=n∧CG (nm l nx) f (v y++Lk)∧AM (nm l nx) σ (s y++Sk)) Q) (look (v x++Lk)) (s x++Sk) n) :
    Ak P TB Γ N (.loop c) Q (look L0) σ nx:=Ak.CR (fun x=>v x++Lk) (fun x=>s x++Sk) n μ x l0 hl0 h0 round
theorem aL {c:Code} {Q:Exit→Env→Ab→Nat→Prop} {L0 Lk:List (Nat×E)} {σ Sk:Ab} {nx:Nat} {α:Type} (ks is:List Nat) (hk:JP L0 ks=some Lk) (hi:Pk σ is=some Sk) (v:α→List (Nat×E)) (s:α→Ab) (n:Nat) (μ:α→Nat)
    (x:α) {m:Nat} (hΓ:Γ.V.nx=m) (hn:Nat.ble m n=true) (h0:CG (nm (List.range n) nx) (look L0) (v x++Lk)∧AM (nm (List.range n) nx) σ (s x++Sk))
    (round:∀x,Ak P TB Γ N c (HE (fun f σ nx=>∃y,μ y < μ x∧∃l:List Nat,(∀i,i < Γ.V.nx→l[i]? = some i)∧l.Nodup∧l.length=n∧CG (nm l nx) f (v y++Lk)∧AM (nm l nx) σ (s y++Sk)) Q) (look (v x++Lk)) (s x++Sk) n) :
    Ak P TB Γ N (.loop c) Q (look L0) σ nx:=Ak.WC ks is hk hi v s n μ x (List.range n) (rg hΓ hn) h0 round
end
end Go.Am
