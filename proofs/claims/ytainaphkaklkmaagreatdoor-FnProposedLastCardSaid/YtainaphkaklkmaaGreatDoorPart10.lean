/-
  What the call made becomes data that nobody writes any more, inside the boxes that hold it too.
-/
import Derived.Test.YtainaphkaklkmaaGreatDoorPart5
import Derived.Test.YtainaphkaklkmaaGreatDoorPart6
import Derived.Test.YtainaphkaklkmaaGreatDoorPart9
import Derived.Test.YtainaphkaklkmaaGreatDoorPart7
set_option linter.constructorNameAsVariable false
set_option linter.unusedSimpArgs false
set_option linter.unusedVariables false
namespace Go.Am
open Go
set_option linter.unusedVariables false
set_option linter.unusedSimpArgs false
inductive FL (σ:Store) (ids:List Nat):List C→List C→Prop
  | nil:FL σ ids [] []
  | cons {c c':C} {cs cs':List C}:FC σ ids c c'→FL σ ids cs cs'→FL σ ids (c::cs) (c'::cs')
theorem FL.len {σ:Store} {ids:List Nat} {l l':List C} (h:FL σ ids l l'):l'.length=l.length:=by
  induction h with
  | nil=>rfl
  | cons _ _ ih=>simp [ih]
theorem FL.get {σ:Store} {ids:List Nat} {l l':List C} (h:FL σ ids l l'):∀(j:Nat) c',l'[j]? = some c'→∃c,l[j]? = some c∧FC σ ids c c':=by
  induction h with
  | nil=>intro j c' h;simp at h
  | @cons c0 c0' cs cs' h1 _ ih=>
    intro j c' hj
    cases j with
    | zero=>simp at hj;subst hj;exact ⟨c0,rfl,h1⟩
    | succ j=>exact ih j c' (by simpa using hj)
def StFrz (σ:Store) (ids:List Nat):Store→Prop
  | []=>True
  | (id,.cells T k [r'])::S=>(∃r,look σ id=some (.cells T k [r])∧id∉ids∧FL σ ids r r')∧StFrz σ ids S
  | _=>False
theorem StFrz.get {σ:Store} {ids:List Nat}:∀ {S:Store},StFrz σ ids S→∀id o',look S id=some o'→∃T k r r',o'=.cells T k [r']∧look σ id=some (.cells T k [r])∧id∉ids∧FL σ ids r r'
  | [],_,id,o',h=>by cases h
  | (i, o)::S,hs,id,o',h=>by
    match o,hs with
    | .cells T k [r'],hs=>
      rw [look_cons] at h
      by_cases hi:i=id
      · rw [if_pos hi] at h
        injection h with h
        subst h;subst hi
        obtain ⟨r,h1,h2,h3⟩:=hs.1
        exact ⟨T,k,r,r',rfl,h1,h2,h3⟩
      · rw [if_neg hi] at h
        exact StFrz.get hs.2 id o' h
section
variable {P:Program} {TB:Amb} {Γ:Ctx} {N:Nat} {σ:Store}
theorem RelSt.freezeS {V:View} {f:Env} {nx:Nat} {a:Act} (h:RelSt TB Γ N V f σ nx a) (ids:List Nat) (L:List (Nat×E)) (S:Store) (hE:EnvFrz σ ids f L) (hS:StFrz σ ids S):RelSt TB Γ N (frzV V σ ids) (look L) S nx a:=by
  have e:Ext V (frzV V σ ids):=frz_ext
  have hi:=h.inv
  refine ⟨fun t x hx=>?_,fun t x hx=>?_,h.size,?_,h.nx,h.defers⟩
  · obtain ⟨y,h1,h2⟩:=hE.get t x hx
    exact h2.rel h.inv (h.env t y h1)
  · obtain ⟨y,h1,_⟩:=hE.get t x hx
    exact h.lt t y h1
  · refine ⟨hi.os,hi.tape,hi.output,hi.old,?_,?_,hi.ext.trans e,⟨?_,?_,?_,?_⟩,?_,fun x hx=>⟨.inl (hi.tabs x hx).1,(hi.tabs x hx).2⟩,hi.hid.same rfl (fun _ h=>.inl h) (fun b hb=>hb.elim .inl fun ⟨id,o,_,hl,hn,he⟩=>.inr ⟨id,o,hl,hn,he⟩) fun b ⟨id,o,hl,hn,hb⟩=>?_⟩
    · rintro b (hb|⟨id,o,_,hl,hn,hb⟩)
      · exact hi.iLt b hb
      · exact (hi.st.obj id o hl).blt hn hb
    · rintro b (hb|⟨id,o,_,hl,hn,hb⟩)
      · exact hi.iNew b hb
      · exact .inr (hi.live id o hl hn b hb)
    · intro id o hl
      obtain ⟨T,k,r,r',rfl,h1,h2,h3⟩:=hS.get id o hl
      rcases hi.st.obj id _ h1 with ⟨h4,h5⟩|⟨h0,cur,h4,h5,h6,h7,h8,h9⟩
      · cases h5
      · refine .inr ⟨h0,cur,h4,h5,h6,h7,fun x hx=>?_,fun i x j c' hix hj=>?_⟩
        · simp at hx;subst hx;rw [h3.len];exact h8 r (by simp)
        · have hi0:i=0:=by have:=(List.getElem?_eq_some_iff.1 hix).1;simp at this;omega
          subst hi0
          simp at hix
          subst hix
          obtain ⟨c,hc,hf⟩:=h3.get j c' hj
          obtain ⟨v,h10,h11⟩:=h9 0 r j c rfl hc
          exact ⟨v,h10,hf.rel hi h11⟩
    · intro id o hl
      obtain ⟨T,k,r,r',_,h1,_,_⟩:=hS.get id o hl
      exact hi.st.lt id _ h1
    · intro id o hl hn b hb' hb
      obtain ⟨T,k,r,r',rfl,h1,h2,_⟩:=hS.get id o hl
      rcases hb with hb|⟨id',o',hm,hl',hn',he⟩
      · exact hi.st.free id _ h1 hn b hb' hb
      · exact hi.st.inj id id' _ o' h1 hl' (fun e=>h2 (e ▸ hm)) hn hn' b hb' he
    · intro id id' o o' hl hl' hne hn hn' b hb hb'
      obtain ⟨T,k,r,r',rfl,h1,_,_⟩:=hS.get id o hl
      obtain ⟨T2,k2,r2,r2',rfl,h12,_,_⟩:=hS.get id' o' hl'
      exact hi.st.inj id id' _ _ h1 h12 hne hn hn' b hb hb'
    · intro id o hl hn b hb
      obtain ⟨T,k,r,r',rfl,h1,_,_⟩:=hS.get id o hl
      exact hi.live id _ h1 hn b hb
    · obtain ⟨T,k,r,r',rfl,h1,_,_⟩:=hS.get id o hl
      exact ⟨id,_,h1,hn,hb⟩
theorem AWp.freezeS {c:Code} {Q:Exit→Env→Store→Nat→Prop} {f:Env} {nx:Nat} (ids:List Nat) (L:List (Nat×E)) (S:Store) (hE:EnvFrz σ ids f L) (hS:StFrz σ ids S) (h:AWp P TB Γ N c Q (look L) S nx):AWp P TB Γ N c Q f σ nx:=
  fun V a hr=>h (frzV V σ ids) a (hr.freezeS ids L S hE hS)
theorem q_look0 {d:Option Tmp} {ty:TypeId} {pos:String} {af:Array Edge} {g:Option (Nat×Bool)} {f:Env} {nx:Nat} {t k e:TypeId} {x y:Operand} {id:Nat} {l:List (List UInt8×Int)} {s:List UInt8} [hm:HasMp P t k e] [hk:HasStr P k] [hz:HasZ1 P e (.int .i64 0)] (hx:ev f x=some (.o (.mp id))) (hy:ev f y=some (eT s)) (ho:look σ id=some (.mp (mapT l))) :
    QOp P TB Γ ⟨d,.lookup t x y false,ty,pos,af,g⟩ f σ nx (eI .i64 ((findT l s).getD 0)):=
  q_of_run fun V ρ hr hi=>by
    have e1:=hr.get (by simp [Op.operands]) hx
    have e2:ρ y=.string ⟨s.toArray⟩:=CRel.val (hr.get (by simp [Op.operands]) hy)
    generalize hv:ρ x=v at e1
    cases e1 with
    | mp hid=>
      obtain ⟨hn,ents,clock,h1,h2⟩:=hi.st.obj id _ ho
      obtain ⟨r,h3,h4⟩:=find_now s l ents.toList 0 h2
      have hzz:=hz.out
      simp only [Option.bind_eq_some_iff] at hzz
      obtain ⟨i,hi1,hz1⟩:=hzz
      have hzv:(zeroValue e).run P V.w=.ok (.int .i64 0) V.w:=by simp [zeroValue,typeInfo,hi1,hz1,go_sem]
      have hfk:(Instr.findKey k (.string ⟨s.toArray⟩) ents.toList).run P V.w=.ok r V.w:=by simp [Instr.findKey,run_underlying hk.out,h3,go_sem]
      have hck:=check_text hk.out ents.isEmpty ⟨s.toArray⟩ V.w
      refine ⟨.int .i64 ((findT l s).getD 0),?_,.d (.v rfl)⟩
      cases r with
      | none=>
        have h5:findT l s=none:=by simpa using h4.symm
        simp [execOp,hv,e2,Instr.lookup,run_underlying hm.out,MapKept.run_getObj_map h1,hck,hfk,hzv,h5,go_sem]
      | some q=>
        obtain ⟨n,h5,h6⟩:∃n,findT l s=some n∧q.2=.int .i64 n:=by
          cases hf:findT l s with
          | none=>rw [hf] at h4;simp at h4
          | some n=>rw [hf] at h4;exact ⟨n,rfl,by simpa using h4⟩
        obtain ⟨q1,q2⟩:=q
        simp only at h6
        subst h6
        simp [execOp,hv,e2,Instr.lookup,run_underlying hm.out,MapKept.run_getObj_map h1,hck,hfk,h5,go_sem]
end
end Go.Am
namespace Go.Am
set_option linter.unusedVariables false
abbrev W:=List UInt8
structure Tab where
  rows:List W
  cols:List W
def mkB (b:Bool):UInt8:=if b then 43 else 45
theorem mkB_inj {a b:Bool} (h:mkB a=mkB b):a=b:=by cases a<;>cases b<;>first|rfl|(simp [mkB] at h)
def marks (L:W→Bool) (cols:List W) (w:W):W:=cols.map fun c=>mkB (L (w++c))
theorem marks_eq {L:W→Bool} {cols:List W} {u w:W}:marks L cols u=marks L cols w↔∀c∈cols,L (u++c)=L (w++c):=by
  unfold marks
  rw [List.map_inj_left]
  exact ⟨fun h c hc=>mkB_inj (h c hc),fun h c hc=>by rw [h c hc]⟩
def rowsM (L:W→Bool) (t:Tab):List W:=t.rows.map (marks L t.cols)
def nextsB (ls:List UInt8) (rows:List W):List W:=rows.flatMap fun r=>ls.map fun l=>r++[l]
def openW (L:W→Bool) (ls:List UInt8) (t:Tab):Option W:=(nextsB ls t.rows).find? fun w=>!(rowsM L t).contains (marks L t.cols w)
def closeN (L:W→Bool) (ls:List UInt8):Nat→Tab→Option Tab
  | 0,_=>none
  | n+1,t=>match openW L ls t with
    | none=>some t
    | some w=>if t.rows.length=12 then none else closeN L ls n ⟨t.rows++[w],t.cols⟩
def wordOn (ls:List UInt8) (w:W):Prop:=∀c∈w,c∈ls
structure TOk (L:W→Bool) (ls:List UInt8) (t:Tab):Prop where
  r0:t.rows[0]? = some []
  c0:t.cols[0]? = some []
  pre:∀(i:Nat) w,t.rows[i]? = some w→0 < i→w≠[]∧∃j,j < i∧t.rows[j]? = some w.dropLast
  onR:∀w∈t.rows,wordOn ls w
  onC:∀c∈t.cols,wordOn ls c
  nd:(rowsM L t).Nodup
  ndC:t.cols.Nodup
theorem openW_some {L:W→Bool} {ls:List UInt8} {t:Tab} {w:W} (h:openW L ls t=some w):(∃r∈t.rows,∃l∈ls,w=r++[l])∧marks L t.cols w∉rowsM L t:=by
  have h1:=List.find?_some h
  have h2:=List.mem_of_find?_eq_some h
  unfold nextsB at h2
  simp only [List.mem_flatMap,List.mem_map] at h2
  obtain ⟨r,hr,l,hl,rfl⟩:=h2
  exact ⟨⟨r,hr,l,hl,rfl⟩,by simpa using h1⟩
theorem openW_none {L:W→Bool} {ls:List UInt8} {t:Tab} (h:openW L ls t=none):∀r∈t.rows,∀l∈ls,marks L t.cols (r++[l])∈rowsM L t:=by
  intro r hr l hl
  have h1:=List.find?_eq_none.1 h (r++[l]) (by unfold nextsB;simp only [List.mem_flatMap,List.mem_map];exact ⟨r,hr,l,hl,rfl⟩)
  simpa using h1
theorem TOk.push {L:W→Bool} {ls:List UInt8} {t:Tab} {w:W} (h:TOk L ls t) (ho:openW L ls t=some w):TOk L ls ⟨t.rows++[w],t.cols⟩:=by
  obtain ⟨⟨r,hr,l,hl,rfl⟩,hn⟩:=openW_some ho
  have h0:0 < t.rows.length:=(List.getElem?_eq_some_iff.1 h.r0).1
  refine ⟨by rw [List.getElem?_append_left h0];exact h.r0,h.c0,fun i w hi hp=>?_,fun w hw=>?_,h.onC,?_,h.ndC⟩
  · by_cases hil:i < t.rows.length
    · rw [List.getElem?_append_left hil] at hi
      obtain ⟨h1,j,h2,h3⟩:=h.pre i w hi hp
      exact ⟨h1,j,h2,by rw [List.getElem?_append_left (by omega)];exact h3⟩
    · rw [List.getElem?_append_right (by omega)] at hi
      have hi0:i=t.rows.length:=by
        have:=(List.getElem?_eq_some_iff.1 hi).1
        simp at this;omega
      subst hi0
      simp at hi
      subst hi
      obtain ⟨j,hj,he⟩:=List.getElem_of_mem hr
      refine ⟨by simp,j,hj,?_⟩
      rw [List.getElem?_append_left hj,List.dropLast_concat,List.getElem?_eq_getElem hj,he]
  · rcases List.mem_append.1 hw with hw|hw
    · exact h.onR w hw
    · simp at hw
      subst hw
      intro c hc
      rcases List.mem_append.1 hc with hc|hc
      · exact h.onR r hr c hc
      · simp at hc;subst hc;exact hl
  · unfold rowsM
    rw [List.map_append,List.nodup_append]
    refine ⟨h.nd,by simp,fun a ha b hb=>?_⟩
    simp at hb
    subst hb
    intro e
    exact hn (e ▸ ha)
structure Fin (L:W→Bool) (ls:List UInt8) (n:Nat) where
  st:W→Nat
  lt:∀w,wordOn ls w→st w < n
  same:∀u w v,wordOn ls u→wordOn ls w→wordOn ls v→st u=st w→L (u++v)=L (w++v)
theorem nodup_lt:∀(n:Nat) (l:List Nat),l.Nodup→(∀x∈l,x < n)→l.length≤n
  | 0,l,_,h=>by cases l with
    | nil=>simp
    | cons x l=>have:=h x (by simp);omega
  | n + 1,l,hd,h=>by
    have h1:=nodup_lt n (l.erase n) (hd.erase n) fun x hx=>by
      have h2:=h x (List.mem_of_mem_erase hx)
      have h3:x≠n:=fun e=>by subst e;exact (List.Nodup.not_mem_erase hd) hx
      omega
    by_cases hn:n∈l
    · rw [List.length_erase_of_mem hn] at h1;omega
    · rw [List.erase_of_not_mem hn] at h1;omega
theorem TOk.few {L:W→Bool} {ls:List UInt8} {t:Tab} {n:Nat} (h:TOk L ls t) (f:Fin L ls n):t.rows.length≤n:=by
  have h1:(t.rows.map f.st).Nodup:=by
    have hnd:=h.nd
    unfold rowsM at hnd
    unfold List.Nodup at *
    rw [List.pairwise_map] at *
    refine List.Pairwise.imp_of_mem (fun {a b} ha hb hne hst=>hne ?_) hnd
    exact marks_eq.2 fun c hc=>f.same a b c (h.onR a ha) (h.onR b hb) (h.onC c hc) hst
  have h2:=nodup_lt n _ h1 fun x hx=>by
    obtain ⟨w,hw,rfl⟩:=List.mem_map.1 hx
    exact f.lt w (h.onR w hw)
  simpa using h2
theorem closeN_ok {L:W→Bool} {ls:List UInt8} {n:Nat} (f:Fin L ls n) (hn:n≤12):∀(k:Nat) (t:Tab),TOk L ls t→13≤k+t.rows.length→∃t',closeN L ls k t=some t'∧TOk L ls t'∧openW L ls t'=none∧t.rows <+: t'.rows∧t'.cols=t.cols∧(openW L ls t≠none→t.rows.length < t'.rows.length)
  | 0,t,h,hk=>by have:=h.few f;omega
  | k + 1,t,h,hk=>by
    unfold closeN
    cases ho:openW L ls t with
    | none=>exact ⟨t,rfl,h,ho,List.prefix_refl _,rfl,fun h=>absurd rfl h⟩
    | some w=>
      have h2:=h.push ho
      have h3:=h2.few f
      simp only [List.length_append,List.length_cons,List.length_nil] at h3
      simp only
      rw [if_neg (show ¬t.rows.length=12 by omega)]
      obtain ⟨t',e1,e2,e3,e4,e5,_⟩:=closeN_ok f hn k _ h2 (by simp;omega)
      have h5:t.rows <+: t'.rows:=List.IsPrefix.trans (List.prefix_append _ _) e4
      refine ⟨t',e1,e2,e3,h5,e5,fun _=>?_⟩
      have:=e4.length_le
      simp at this;omega
def idxM (L:W→Bool) (t:Tab) (w:W):Nat:=(rowsM L t).idxOf (marks L t.cols w)
def runM (L:W→Bool) (t:Tab):Nat→W→Nat
  | i,[]=>i
  | i,c::w=>runM L t (idxM L t ((t.rows.getD i [])++[c])) w
theorem runM_app (L:W→Bool) (t:Tab):∀(u w:W) (i:Nat),runM L t i (u++w)=runM L t (runM L t i u) w
  | [],_,_=>rfl
  | c::u,w,i=>runM_app L t u w _
structure Closed (L:W→Bool) (ls:List UInt8) (t:Tab):Prop extends TOk L ls t where
  cl:∀r∈t.rows,∀l∈ls,marks L t.cols (r++[l])∈rowsM L t
theorem Closed.idx {L:W→Bool} {ls:List UInt8} {t:Tab} (h:Closed L ls t) {i:Nat} {r:W} {l:UInt8} (hi:t.rows[i]? = some r) (hl:l∈ls):∃r',t.rows[idxM L t (r++[l])]? = some r'∧marks L t.cols r'=marks L t.cols (r++[l]):=by
  have h1:=h.cl r (List.mem_of_getElem? hi) l hl
  have h2:idxM L t (r++[l]) < (rowsM L t).length:=List.idxOf_lt_length_iff.2 h1
  have h3:(rowsM L t)[idxM L t (r++[l])]'h2=marks L t.cols (r++[l]):=List.getElem_idxOf h2
  have h4:idxM L t (r++[l]) < t.rows.length:=by simpa [rowsM] using h2
  refine ⟨t.rows[idxM L t (r++[l])],List.getElem?_eq_getElem h4,?_⟩
  rw [←h3]
  simp [rowsM]
theorem Closed.run {L:W→Bool} {ls:List UInt8} {t:Tab} (h:Closed L ls t):∀(w:W) (i:Nat),wordOn ls w→i < t.rows.length→runM L t i w < t.rows.length
  | [],_,_,hi=>hi
  | c::w,i,hw,hi=>by
    have h1:t.rows[i]? = some t.rows[i]:=List.getElem?_eq_getElem hi
    obtain ⟨_,h2,_⟩:=h.idx h1 (hw c (by simp))
    have h3:t.rows.getD i []=t.rows[i]:=by simp [h1]
    show runM L t (idxM L t (t.rows.getD i []++[c])) w < _
    rw [h3]
    exact h.run w _ (fun x hx=>hw x (by simp [hx])) (List.getElem?_eq_some_iff.1 h2).1
def splitAt (L:W→Bool) (t:Tab) (b:Bool):Nat→W→Option W
  | _,[]=>none
  | i,c::v=>if L (t.rows.getD (idxM L t ((t.rows.getD i [])++[c])) []++v)≠b then some v else splitAt L t b (idxM L t ((t.rows.getD i [])++[c])) v
end Go.Am
namespace Go.Am
open Go Go.Proofs
set_option maxHeartbeats 1000000
attribute [local irreducible] QOp AOp Lex LexO AWp Spec
variable {TB:Amb}
abbrev uRow (n:UInt8):List D:=[.v (.int .u8 n.toNat)]
abbrev uList (l:List UInt8):D:=.l (l.map uRow)
abbrev rdO (b:List UInt8) (p:Int):O:=.cells 86 2 [[.d (uList b),.d (iD p)]]
theorem iXor_nat {a b:Nat} (ha:a < 2 ^ 62) (hb:b < 2 ^ 62):iXor .i64 a b=((a ^^^ b:Nat):Int):=by
  unfold iXor
  have h1:(BitVec.ofInt IntKind.i64.bits (a:Int)).toNat=a:=by
    rw [BitVec.toNat_ofInt];have:IntKind.i64.bits=64:=rfl;rw [this];omega
  have h2:(BitVec.ofInt IntKind.i64.bits (b:Int)).toNat=b:=by
    rw [BitVec.toNat_ofInt];have:IntKind.i64.bits=64:=rfl;rw [this];omega
  rw [BitVec.toNat_xor,h1,h2]
  have h3:a ^^^ b < 2 ^ 62:=Nat.xor_lt_two_pow ha hb
  exact IntWalk.i64_in _ (by omega)
theorem iXor_nn {x y:Int} (hx:0≤x∧x < 4611686018427387904) (hy:0≤y∧y < 4611686018427387904):0≤iXor .i64 x y∧iXor .i64 x y < 4611686018427387904:=by
  obtain ⟨a,rfl⟩:∃a:Nat,x=a:=⟨x.toNat,by omega⟩
  obtain ⟨b,rfl⟩:∃b:Nat,y=b:=⟨y.toNat,by omega⟩
  rw [iXor_nat (by omega) (by omega)]
  have h3:a ^^^ b < 2 ^ 62:=Nat.xor_lt_two_pow (by omega) (by omega)
  omega
theorem l19Open_ok (b:List UInt8) (hb:b.length≤9223372036854775807):∃b':List UInt8,b'.length≤2000∧SpecK Tryz.prog TB 29 0 [] 0 [.o (.d (uList b))] (fun x σ nx=>x=.o (.ptr 0 2 0 0)∧σ=[(0,rdO b' 0)]∧nx=1):=by
  by_cases h:b.length≤2000
  · refine ⟨b,h,?_⟩
    refine SpecK.ofG (m:=0) (Nat.le_of_ble_eq_true rfl) Tryz.func29 rfl (by kernel_rfl) (Nat.le_of_ble_eq_true rfl) ?_;intro Γ hΓ
    (repeat first|refine sN rfl ?_|((first|refine sX rfl ?_ ?_|refine s4 rfl ‹_› rfl ?_ ?_);first|exact tI|omega|(simp only[oZ] at *;omega))|(refine s2 rfl ?_;intro _ _hb)|(refine s3 rfl ?_ ?_<;>intro hb<;>subst hb)|refine aS ?_|refine reg (by kernel_rfl) ?_|refine lexE ?_|refine rD (by kernel_rfl) (by kernel_rfl) ?_)
    ((refine aC rfl ?_ ?_<;>intro hb<;>cases hb);all_goals try (simp at _hb;done))
    · exfalso;first|omega|(simp only[oZ] at *;omega)
    refine AWp.skip ?_
    (repeat first|refine sN rfl ?_|((first|refine sX rfl ?_ ?_|refine s4 rfl ‹_› rfl ?_ ?_);first|exact tI|omega|(simp only[oZ] at *;omega))|(refine s2 rfl ?_;intro _ _hb)|(refine popO rfl ?_;refine gA rfl ?_;first|refine gS (fun _ _=>q_build rfl rfl (by rfl) (by rfl)) ?_)|(refine s3 rfl ?_ ?_<;>intro hb<;>subst hb)|refine aS ?_|refine reg (by kernel_rfl) ?_|refine lexE ?_|refine rD (by kernel_rfl) (by kernel_rfl) ?_)
    (refine popO rfl ?_;refine popW ?_ rfl (by rfl);refine n_box rfl rfl ?_)
    (repeat first|refine sN rfl ?_|((first|refine sX rfl ?_ ?_|refine s4 rfl ‹_› rfl ?_ ?_);first|exact tI|omega|(simp only[oZ] at *;omega))|(refine s2 rfl ?_;intro _ _hb)|(refine s3 rfl ?_ ?_<;>intro hb<;>subst hb)|refine aS ?_|refine reg (by kernel_rfl) ?_|refine lexE ?_|refine rD (by kernel_rfl) (by kernel_rfl) ?_)
    refine AWp.ret ⟨_,rfl,rfl,rfl,rfl⟩
  · refine ⟨b.take 2000,by simp;omega,?_⟩
    have e:(b.map uRow).take (2000:Int).toNat=(b.take 2000).map uRow:=by simp [List.map_take]
    refine SpecK.ofG (m:=0) (Nat.le_of_ble_eq_true rfl) Tryz.func29 rfl (by kernel_rfl) (Nat.le_of_ble_eq_true rfl) ?_;intro Γ hΓ
    (repeat first|refine sN rfl ?_|((first|refine sX rfl ?_ ?_|refine s4 rfl ‹_› rfl ?_ ?_);first|exact tI|omega|(simp only[oZ] at *;omega))|(refine s2 rfl ?_;intro _ _hb)|(refine s3 rfl ?_ ?_<;>intro hb<;>subst hb)|refine aS ?_|refine reg (by kernel_rfl) ?_|refine lexE ?_|refine rD (by kernel_rfl) (by kernel_rfl) ?_)
    ((refine aC rfl ?_ ?_<;>intro hb<;>cases hb);all_goals try (simp at _hb;done))
    · (repeat first|refine sN rfl ?_|((first|refine sX rfl ?_ ?_|refine s4 rfl ‹_› rfl ?_ ?_);first|exact tI|omega|(simp only[oZ] at *;omega))|(refine s2 rfl ?_;intro _ _hb)|(refine popO rfl ?_;refine gA rfl ?_;first|refine gS (fun _ _=>q_takeL rfl rfl (by simp) (by omega) (by simp;omega)) ?_)|(refine s3 rfl ?_ ?_<;>intro hb<;>subst hb)|refine aS ?_|refine reg (by kernel_rfl) ?_|refine lexE ?_|refine rD (by kernel_rfl) (by kernel_rfl) ?_)
      rw [e]
      (repeat first|refine sN rfl ?_|((first|refine sX rfl ?_ ?_|refine s4 rfl ‹_› rfl ?_ ?_);first|exact tI|omega|(simp only[oZ] at *;omega))|(refine s2 rfl ?_;intro _ _hb)|(refine popO rfl ?_;refine gA rfl ?_;first|refine gS (fun _ _=>q_build rfl rfl (by rfl) (by rfl)) ?_)|(refine s3 rfl ?_ ?_<;>intro hb<;>subst hb)|refine aS ?_|refine reg (by kernel_rfl) ?_|refine lexE ?_|refine rD (by kernel_rfl) (by kernel_rfl) ?_)
      (refine popO rfl ?_;refine popW ?_ rfl (by rfl);refine n_box rfl rfl ?_)
      (repeat first|refine sN rfl ?_|((first|refine sX rfl ?_ ?_|refine s4 rfl ‹_› rfl ?_ ?_);first|exact tI|omega|(simp only[oZ] at *;omega))|(refine s2 rfl ?_;intro _ _hb)|(refine s3 rfl ?_ ?_<;>intro hb<;>subst hb)|refine aS ?_|refine reg (by kernel_rfl) ?_|refine lexE ?_|refine rD (by kernel_rfl) (by kernel_rfl) ?_)
      refine AWp.ret ⟨_,rfl,rfl,rfl,rfl⟩
    · exfalso;first|omega|(simp only[oZ] at *;omega)
theorem pick_ok (b:List UInt8) (hb:b.length≤2000) (p n:Int) (h0:0≤p∧p < 1000000000):∃k:Int,0≤k∧(k=0∨k < n)∧Spec Tryz.prog TB 52 [(0,rdO b p)] 1 [.o (.ptr 0 2 0 0),eI .i64 n] (fun x σ nx=>x=eI .i64 k∧σ=[(0,rdO b (p+1))]∧nx=1):=by
  by_cases hz:n < 1∨b.length=0
  · refine ⟨0,by omega,.inl rfl,?_⟩
    refine SpecK.toSpec (SpecK.ren (SpecK.ofG (Nat.le_refl _) Tryz.func52 rfl (by kernel_rfl) (Nat.le_of_ble_eq_true rfl) ?_));intro Γ hΓ
    (repeat' first|refine sN rfl ?_|((first|refine sA rfl ?_ ?_|refine s4 rfl ‹_› rfl ?_ ?_);first|exact tI|omega|(simp only[oZ] at *;omega))|(refine s2 rfl ?_;intro _ _hb)|(refine s3 rfl ?_ ?_<;>intro hb<;>subst hb)|refine aS ?_|refine reg (by kernel_rfl) ?_|refine lexE ?_|refine rD (by kernel_rfl) (by kernel_rfl) ?_|(refine aC rfl ?_ ?_<;>intro hb<;>cases hb)|refine aK ?_|refine aE ?_|refine aB ?_|refine AWp.ret ⟨_,rfl,?_⟩)
    all_goals first
      | (exfalso;first|omega|(simp only[oZ] at *;omega);done)
      | refine ⟨[0],eI .i64 0,[(0,rdO b (p+1))],⟨by first|(simp;done)|decide|(intro i hi;match i with|0=>rfl),by decide⟩,rfl,by (repeat' first|exact tI|rfl|refine And.intro ?_ ?_)<;>(simp[cX,zC,hΓ]<;>rfl),rfl,rfl,rfl⟩
  have hl:0 < b.length:=by omega
  have hn:0 < n:=by omega
  by_cases hp:p < b.length
  · obtain ⟨c,hc⟩:=get_some (l:=b) (k:=(p+1 - 1).toNat) (by omega)
    have hc':=get_map (g:=uRow) hc
    have hcl:=c.toNat_lt
    refine ⟨(c.toNat:Int) % n,Int.emod_nonneg _ (by omega),.inr (Int.emod_lt_of_pos _ hn),?_⟩
    refine SpecK.toSpec (SpecK.ren (SpecK.ofG (Nat.le_refl _) Tryz.func52 rfl (by kernel_rfl) (Nat.le_of_ble_eq_true rfl) ?_));intro Γ hΓ
    (repeat' first|refine sN rfl ?_|((first|refine sA rfl ?_ ?_|refine s4 rfl ‹_› rfl ?_ ?_);first|exact tI|omega|(simp only[oZ] at *;omega))|(refine s2 rfl ?_;intro _ _hb)|(refine s3 rfl ?_ ?_<;>intro hb<;>subst hb)|refine aS ?_|refine reg (by kernel_rfl) ?_|refine lexE ?_|refine rD (by kernel_rfl) (by kernel_rfl) ?_|(refine aC rfl ?_ ?_<;>intro hb<;>cases hb)|refine aK ?_|refine aE ?_|refine aB ?_|refine AWp.ret ⟨_,rfl,?_⟩)
    all_goals first
      | (exfalso;first|omega|(simp only[oZ] at *;omega);done)
      | refine ⟨[0],_,[(0,rdO b (p+1))],⟨by first|(simp;done)|decide|(intro i hi;match i with|0=>rfl),by decide⟩,rfl,by (repeat' first|exact tI|rfl|refine And.intro ?_ ?_)<;>(simp[cX,zC,hΓ]<;>rfl),rfl,rfl,rfl⟩
  · have hl':(0:Int) < b.length:=by omega
    have i1:=Int.emod_nonneg (p+1 - 1) (show (b.length:Int)≠0 by omega)
    have i2:=Int.emod_lt_of_pos (p+1 - 1) hl'
    have j1:=Int.emod_nonneg ((p+1 - 1)*7+3) (show (b.length:Int)≠0 by omega)
    have j2:=Int.emod_lt_of_pos ((p+1 - 1)*7+3) hl'
    obtain ⟨c,hc⟩:=get_some (l:=b) (k:=((p+1 - 1) % (b.length:Int)).toNat) (by omega)
    have hc':=get_map (g:=uRow) hc
    have hcl:=c.toNat_lt
    obtain ⟨d,hd⟩:=get_some (l:=b) (k:=(((p+1 - 1)*7+3) % (b.length:Int)).toNat) (by omega)
    have hd':=get_map (g:=uRow) hd
    have hdl:=d.toNat_lt
    have q1:0≤(p+1 - 1) / (b.length:Int):=Int.ediv_nonneg (by omega) (by omega)
    have q2:(p+1 - 1) / (b.length:Int)≤p+1 - 1:=Int.ediv_le_self _ (by omega)
    obtain ⟨x,hx⟩:∃x,x=(c.toNat:Int)*131+(d.toNat:Int)*1117+(p+1 - 1)*29+(p+1 - 1) / (b.length:Int)*53:=⟨_,rfl⟩
    have x1:0≤x∧x < 1000000000000:=by omega
    have y1:=iXor_nn (x:=x) (y:=x / 64) (by omega) (by omega)
    refine ⟨iXor .i64 x (x / 64) % n,Int.emod_nonneg _ (by omega),.inr (Int.emod_lt_of_pos _ hn),?_⟩
    refine SpecK.toSpec (SpecK.ren (SpecK.ofG (Nat.le_refl _) Tryz.func52 rfl (by kernel_rfl) (Nat.le_of_ble_eq_true rfl) ?_));intro Γ hΓ
    (repeat' first|refine sN rfl ?_|((first|refine sA rfl ?_ ?_|refine s4 rfl ‹_› rfl ?_ ?_);first|exact tI|omega|(simp only[oZ] at *;omega))|(refine s2 rfl ?_;intro _ _hb;try (simp only[Bool.not_true,Bool.not_false] at _hb;subst _hb))|(refine popO rfl ?_;refine gA rfl ?_;first|refine gS (fun _ _=>q_xor rfl rfl rfl) ?_)|(refine s3 rfl ?_ ?_<;>intro hb<;>subst hb)|refine aS ?_|refine reg (by kernel_rfl) ?_|refine lexE ?_|refine rD (by kernel_rfl) (by kernel_rfl) ?_|(refine aC rfl ?_ ?_<;>intro hb<;>cases hb)|refine aK ?_|refine AWp.ret ⟨_,rfl,?_⟩|(rw [←hx]))
    all_goals first
      | (exfalso;first|omega|(simp only[oZ] at *;omega);done)
      | refine ⟨[0],_,[(0,rdO b (p+1))],⟨by first|(simp;done)|decide|(intro i hi;match i with|0=>rfl),by decide⟩,rfl,by (repeat' first|exact tI|rfl|refine And.intro ?_ ?_)<;>(simp[cX,zC,hΓ]<;>rfl),rfl,rfl,rfl⟩
theorem num_ok (b:List UInt8) (hb:b.length≤2000) (p:Int) (h0:0≤p∧p < 1000000000) (l:List Int) (hl:0 < l.length) (hl2:l.length < 1000000):∃k∈l,Spec Tryz.prog TB 41 [(0,rdO b p)] 1 [.o (.ptr 0 2 0 0),eInts l] (fun x σ nx=>x=eI .i64 k∧σ=[(0,rdO b (p+1))]∧nx=1):=by
  obtain ⟨k,k1,k2,h⟩:=pick_ok (TB:=TB) b hb p l.length h0
  obtain ⟨x,hx⟩:=get_some (l:=l) (k:=k.toNat) (by omega)
  have hx':=get_map (g:=iRow) hx
  refine ⟨x,List.mem_of_getElem? hx,?_⟩
  refine SpecK.toSpec (SpecK.ren (SpecK.ofG (Nat.le_refl _) Tryz.func41 rfl (by kernel_rfl) (Nat.le_of_ble_eq_true rfl) ?_));intro Γ hΓ
  (repeat first|refine sN rfl ?_|((first|refine sA rfl ?_ ?_|refine s4 rfl ‹_› rfl ?_ ?_);first|exact tI|omega|(simp only[oZ] at *;omega))|(refine s2 rfl ?_;intro _ _hb)|(refine s3 rfl ?_ ?_<;>intro hb<;>subst hb)|refine aS ?_|refine reg (by kernel_rfl) ?_|refine lexE ?_|refine rD (by kernel_rfl) (by kernel_rfl) ?_)
  (refine popO rfl ?_;refine popW ?_ rfl (by rfl);refine n_call [0] rfl rfl (h) ⟨rfl,by decide,by decide⟩ rfl (by simp[cX,zC,hΓ]) ?_;rintro x0 σ1 nx1 ⟨rfl,rfl,rfl⟩ _)
  (repeat first|refine sN rfl ?_|((first|refine sA rfl ?_ ?_|refine s4 rfl ‹_› rfl ?_ ?_);first|exact tI|omega|(simp only[oZ] at *;omega))|(refine s2 rfl ?_;intro _ _hb)|(refine s3 rfl ?_ ?_<;>intro hb<;>subst hb)|refine aS ?_|refine reg (by kernel_rfl) ?_|refine lexE ?_|refine rD (by kernel_rfl) (by kernel_rfl) ?_)
  refine AWp.ret ⟨_,rfl,?_⟩
  refine ⟨[0],_,[(0,rdO b (p+1))],⟨by first|(simp;done)|decide|(intro i hi;match i with|0=>rfl),by decide⟩,rfl,by (repeat' first|exact tI|rfl|refine And.intro ?_ ?_)<;>(simp[cX,zC,hΓ]<;>rfl),rfl,rfl,rfl⟩
theorem of_ok (b:List UInt8) (hb:b.length≤2000) (p:Int) (h0:0≤p∧p < 1000000000) (l:List W) (hl:0 < l.length) (hl2:l.length < 1000000):∃k∈l,Spec Tryz.prog TB 54 [(0,rdO b p)] 1 [.o (.ptr 0 2 0 0),eTexts l] (fun x σ nx=>x=eT k∧σ=[(0,rdO b (p+1))]∧nx=1):=by
  obtain ⟨k,k1,k2,h⟩:=pick_ok (TB:=TB) b hb p l.length h0
  obtain ⟨x,hx⟩:=get_some (l:=l) (k:=k.toNat) (by omega)
  have hx':=get_map (g:=tRow) hx
  refine ⟨x,List.mem_of_getElem? hx,?_⟩
  refine SpecK.toSpec (SpecK.ren (SpecK.ofG (Nat.le_refl _) Tryz.func54 rfl (by kernel_rfl) (Nat.le_of_ble_eq_true rfl) ?_));intro Γ hΓ
  (repeat first|refine sN rfl ?_|((first|refine sA rfl ?_ ?_|refine s4 rfl ‹_› rfl ?_ ?_);first|exact tI|omega|(simp only[oZ] at *;omega))|(refine s2 rfl ?_;intro _ _hb)|(refine s3 rfl ?_ ?_<;>intro hb<;>subst hb)|refine aS ?_|refine reg (by kernel_rfl) ?_|refine lexE ?_|refine rD (by kernel_rfl) (by kernel_rfl) ?_)
  (refine popO rfl ?_;refine popW ?_ rfl (by rfl);refine n_call [0] rfl rfl (h) ⟨rfl,by decide,by decide⟩ rfl (by simp[cX,zC,hΓ]) ?_;rintro x0 σ1 nx1 ⟨rfl,rfl,rfl⟩ _)
  (repeat first|refine sN rfl ?_|((first|refine sA rfl ?_ ?_|refine s4 rfl ‹_› rfl ?_ ?_);first|exact tI|omega|(simp only[oZ] at *;omega))|(refine s2 rfl ?_;intro _ _hb)|(refine s3 rfl ?_ ?_<;>intro hb<;>subst hb)|refine aS ?_|refine reg (by kernel_rfl) ?_|refine lexE ?_|refine rD (by kernel_rfl) (by kernel_rfl) ?_)
  refine AWp.ret ⟨_,rfl,?_⟩
  refine ⟨[0],_,[(0,rdO b (p+1))],⟨by first|(simp;done)|decide|(intro i hi;match i with|0=>rfl),by decide⟩,rfl,by (repeat' first|exact tI|rfl|refine And.intro ?_ ?_)<;>(simp[cX,zC,hΓ]<;>rfl),rfl,rfl,rfl⟩
end Go.Am
namespace Go.Am
open Go Go.Proofs
set_option maxHeartbeats 1000000
attribute [local irreducible] QOp AOp Lex LexO AWp Spec
variable {TB:Amb}
theorem isAlphabet_ok (n:Int):Pure Tryz.prog TB 45 [eI .i64 n] (eB (alphB n)):=by
  refine eN Tryz.func45 rfl (by kernel_rfl) rfl ?_;intro Γ hΓ
  (repeat' first|refine sN rfl ?_|((first|refine sA rfl ?_ ?_|refine s4 rfl ‹_› rfl ?_ ?_);first|exact tI|omega|(simp only[oZ] at *;omega))|(refine s2 rfl ?_;intro _ _hb)|(refine s3 rfl ?_ ?_<;>intro hb<;>subst hb)|refine aS ?_|refine reg (by kernel_rfl) ?_|refine lexE ?_|refine rD (by kernel_rfl) (by kernel_rfl) ?_|(refine aC rfl ?_ ?_<;>intro hb<;>cases hb)|refine aK ?_|refine aE ?_|refine aB ?_|refine AWp.ret ⟨_,rfl,?_⟩)
  all_goals (show E.o _=E.o _;congr;unfold alphB;grind)
theorem l1Alphabet_ok (n:Int):Pure Tryz.prog TB 65 [eI .i64 n] (eB (alphB n)):=by
  refine eN Tryz.func65 rfl (by kernel_rfl) rfl ?_;intro Γ hΓ
  (repeat' first|refine sN rfl ?_|((first|refine sA rfl ?_ ?_|refine s4 rfl ‹_› rfl ?_ ?_);first|exact tI|omega|(simp only[oZ] at *;omega))|(refine s2 rfl ?_;intro _ _hb)|(refine s3 rfl ?_ ?_<;>intro hb<;>subst hb)|refine aS ?_|refine reg (by kernel_rfl) ?_|refine lexE ?_|refine rD (by kernel_rfl) (by kernel_rfl) ?_|(refine aC rfl ?_ ?_<;>intro hb<;>cases hb)|refine aK ?_|refine aE ?_|refine aB ?_|refine AWp.ret ⟨_,rfl,?_⟩)
  all_goals (show E.o _=E.o _;congr;unfold alphB;grind)
theorem l1Has_ok (s n:Int) (h0:0≤n) (h1:n < 64):Pure Tryz.prog TB 99 [eI .i64 s,eI .i64 n] (eB (bitB s n.toNat)):=by
  refine eN Tryz.func99 rfl (by kernel_rfl) rfl ?_;intro Γ hΓ
  (repeat' first|refine sN rfl ?_|((first|refine sA rfl ?_ ?_|refine s4 rfl ‹_› rfl ?_ ?_);first|exact tI|omega|(simp only[oZ] at *;omega))|(refine s2 rfl ?_;intro _ _hb)|(refine s3 rfl ?_ ?_<;>intro hb<;>subst hb)|refine aS ?_|refine reg (by kernel_rfl) ?_|refine lexE ?_|refine rD (by kernel_rfl) (by kernel_rfl) ?_|(refine aC rfl ?_ ?_<;>intro hb<;>cases hb)|refine aK ?_|refine aE ?_|refine aB ?_|refine AWp.ret ⟨_,rfl,?_⟩)
  subst _hb;rfl
theorem has_ok (s n:Int):Pure Tryz.prog TB 70 [eI .i64 s,eI .i64 n] (eB (hasB s n)):=by
  refine eN Tryz.func70 rfl (by kernel_rfl) rfl ?_;intro Γ hΓ
  (repeat' first|refine sN rfl ?_|((first|refine sA rfl ?_ ?_|refine s4 rfl ‹_› rfl ?_ ?_);first|exact tI|omega|(simp only[oZ] at *;omega))|(refine s2 rfl ?_;intro _ _hb)|(refine s3 rfl ?_ ?_<;>intro hb<;>subst hb)|refine aS ?_|refine reg (by kernel_rfl) ?_|refine lexE ?_|refine rD (by kernel_rfl) (by kernel_rfl) ?_|(refine aC rfl ?_ ?_<;>intro hb<;>cases hb)|refine aK ?_|refine aE ?_|refine aB ?_|refine AWp.ret ⟨_,rfl,?_⟩)
  all_goals (show E.o _=E.o _;congr;unfold hasB bitB;have:IntKind.i64.bits=64:=rfl;grind)
theorem l1Letters_ok (s:Int):Pure Tryz.prog TB 60 [eI .i64 s] (eInts (letters s)):=by
  refine eN Tryz.func60 rfl (by kernel_rfl) rfl ?_;intro Γ hΓ
  (repeat first|refine sN rfl ?_|((first|refine sX rfl ?_ ?_|refine s4 rfl ‹_› rfl ?_ ?_);first|exact tI|omega|(simp only[oZ] at *;omega))|(refine s2 rfl ?_;intro _ _hb)|(refine s3 rfl ?_ ?_<;>intro hb<;>subst hb)|refine aS ?_|refine reg (by kernel_rfl) ?_|refine lexE ?_|refine rD (by kernel_rfl) (by kernel_rfl) ?_)
  (refine popO rfl ?_;refine popW ?_ rfl (by rfl);refine n_sliceB rfl rfl rfl rfl (by simp) (by rfl) (by rfl) (by rfl) (by rfl) ?_)
  (repeat first|refine sN rfl ?_|((first|refine sX rfl ?_ ?_|refine s4 rfl ‹_› rfl ?_ ?_);first|exact tI|omega|(simp only[oZ] at *;omega))|(refine s2 rfl ?_;intro _ _hb)|(refine s3 rfl ?_ ?_<;>intro hb<;>subst hb)|refine aS ?_|refine reg (by kernel_rfl) ?_|refine lexE ?_|refine rD (by kernel_rfl) (by kernel_rfl) ?_)
  refine AWp.block ?_
  refine AWp.loopL (α:={k:Nat // k≤6}) (fun ⟨k,hk⟩=>[(0,eI .i64 s),(3,.o (.arr 0 1 0 (lettersTo s k).length)),(4,eI .i64 k)]) (fun ⟨k,hk⟩=>[(0,.cells 3 1 ((lettersTo s k).map iRowC))]) 1 (fun ⟨k,hk⟩=>6 - k) (⟨0,by omega⟩) [0] (rl3 hΓ rfl rfl) (by (repeat' first|exact tI|rfl|refine And.intro ?_ ?_)<;>simp[cX,zC,hΓ]) ?_;rintro ⟨k,hk⟩;(try dsimp only)
  (repeat first|refine sN rfl ?_|((first|refine sX rfl ?_ ?_|refine s4 rfl ‹_› rfl ?_ ?_);first|exact tI|omega|(simp only[oZ] at *;omega))|(refine s2 rfl ?_;intro _ _hb)|(refine s3 rfl ?_ ?_<;>intro hb<;>subst hb)|refine aS ?_|refine reg (by kernel_rfl) ?_|refine lexE ?_|refine rD (by kernel_rfl) (by kernel_rfl) ?_)
  (refine aC rfl ?_ ?_<;>intro hb<;>cases hb)
  · have hlt:k < 6:=by have:=of_decide_eq_true _hb;omega
    refine AWp.skip ?_
    refine AWp.seq (AWp.block ?_)
    (repeat first|refine sN rfl ?_|((first|refine sX rfl ?_ ?_|refine s4 rfl ‹_› rfl ?_ ?_);first|exact tI|omega|(simp only[oZ] at *;omega))|(refine s2 rfl ?_;intro _ _hb)|(refine s3 rfl ?_ ?_<;>intro hb<;>subst hb)|refine aS ?_|refine reg (by kernel_rfl) ?_|refine lexE ?_|refine rD (by kernel_rfl) (by kernel_rfl) ?_)
    (refine popO rfl ?_;refine popB (fun _ _=>q_call rfl rfl rfl (l1Has_ok _ _ (by omega) (by omega)) rfl) rfl ?_;intro _ _hb)
    (repeat first|refine sN rfl ?_|((first|refine sX rfl ?_ ?_|refine s4 rfl ‹_› rfl ?_ ?_);first|exact tI|omega|(simp only[oZ] at *;omega))|(refine s2 rfl ?_;intro _ _hb)|(refine s3 rfl ?_ ?_<;>intro hb<;>subst hb)|refine aS ?_|refine reg (by kernel_rfl) ?_|refine lexE ?_|refine rD (by kernel_rfl) (by kernel_rfl) ?_)
    have hs:=lettersTo_succ s k
    (refine aC rfl ?_ ?_<;>intro hb<;>cases hb)
    · (repeat first|refine sN rfl ?_|((first|refine sA rfl ?_ ?_|refine s4 rfl ‹_› rfl ?_ ?_);first|exact tI|omega|(simp only[oZ] at *;omega))|(refine s2 rfl ?_;intro _ _hb)|(refine s3 rfl ?_ ?_<;>intro hb<;>subst hb)|refine aS ?_|refine reg (by kernel_rfl) ?_|refine lexE ?_|refine rD (by kernel_rfl) (by kernel_rfl) ?_)
      (refine popO rfl ?_;refine popW ?_ rfl (by rfl);refine n_append rfl rfl rfl (by first|(simp;done)|(simp;(first|omega|(simp only[oZ] at *;omega)))) rfl (by intro r hr;simp at hr;subst hr;rfl) (by rfl) (Nat.le_of_ble_eq_true rfl) (by have:=lettersTo_len s k;simp;omega) ?_)
      (repeat first|refine sN rfl ?_|((first|refine sX rfl ?_ ?_|refine s4 rfl ‹_› rfl ?_ ?_);first|exact tI|omega|(simp only[oZ] at *;omega))|(refine s2 rfl ?_;intro _ _hb)|(refine s3 rfl ?_ ?_<;>intro hb<;>subst hb)|refine aS ?_|refine reg (by kernel_rfl) ?_|refine lexE ?_|refine rD (by kernel_rfl) (by kernel_rfl) ?_)
      refine ⟨⟨k+1,by omega⟩,by dsimp only;(first|omega|(simp only[oZ] at *;omega)),[1],?_⟩
      rw [if_pos (by simpa using _hb)] at hs
      simp[cX,zC,hΓ,hs]
    · refine AWp.skip ?_
      (repeat first|refine sN rfl ?_|((first|refine sX rfl ?_ ?_|refine s4 rfl ‹_› rfl ?_ ?_);first|exact tI|omega|(simp only[oZ] at *;omega))|(refine s2 rfl ?_;intro _ _hb)|(refine s3 rfl ?_ ?_<;>intro hb<;>subst hb)|refine aS ?_|refine reg (by kernel_rfl) ?_|refine lexE ?_|refine rD (by kernel_rfl) (by kernel_rfl) ?_)
      refine ⟨⟨k+1,by omega⟩,by dsimp only;(first|omega|(simp only[oZ] at *;omega)),[0],?_⟩
      rw [if_neg (by simpa using _hb),List.append_nil] at hs
      simp[cX,zC,hΓ,hs]
  · have hk6:k=6:=by have:=of_decide_eq_false _hb;omega
    subst hk6
    refine AWp.exit ?_
    (repeat first|refine sN rfl ?_|((first|refine sX rfl ?_ ?_|refine s4 rfl ‹_› rfl ?_ ?_);first|exact tI|omega|(simp only[oZ] at *;omega))|(refine s2 rfl ?_;intro _ _hb)|(refine s3 rfl ?_ ?_<;>intro hb<;>subst hb)|refine aS ?_|refine reg (by kernel_rfl) ?_|refine lexE ?_|refine rD (by kernel_rfl) (by kernel_rfl) ?_)
    refine AWp.freeze [0] [(2,.o (.d (iList (lettersTo s 6))))] ⟨⟨_,rfl,.o (.full (by simp) rfl (by simp [Function.comp_def]) (by simp))⟩,trivial⟩ ?_
    refine AWp.ret ⟨_,rfl,rfl⟩
end Go.Am
namespace Go.Am
open Go Go.Proofs
set_option maxHeartbeats 1000000
attribute [local irreducible] QOp AOp Lex LexO AWp Spec
variable {TB:Amb}
abbrev eOwn (al:Int) (i j:Nat) (n m:Nat):E:=.a [.d (iD al),.arr i 1 0 n,.arr j 1 0 m]
def RandPost (b:List UInt8) (al p n:Int) (x:E) (σ:Store) (nx:Nat):Prop:=∃(p':Int) (l:Nst) (ac:List Bool),(p≤p'∧p'≤p+7*n)∧(l.length:Int)=n∧ac.length=l.length∧(∀x∈l,x.2.length=(letters al).length)∧
  x=eOwn al 1 2 l.length ac.length∧σ=[(0,rdO b p'),(1,.cells 61 1 (rawR l)),(2,.cells 4 1 (ac.map bRowC)),(3,.sld 3 (sI l))]∧nx=4
theorem l3Random_ok (b:List UInt8) (hb:b.length≤2000) (p:Int) (h0:0≤p∧p < 900000000) (al n:Int) (hn:0≤n∧n < 1000):SpecK Tryz.prog TB 143 1 [(0,rdO b p)] 1 [.o (.ptr 0 2 0 0),eI .i64 al,eI .i64 n] (RandPost b al p n):=by
  have hla:(letters al).length≤6:=lettersTo_len al 6
  refine SpecK.ren (SpecK.ofG (m:=1) (Nat.le_of_ble_eq_true rfl) Tryz.func143 rfl (by kernel_rfl) (Nat.le_of_ble_eq_true rfl) ?_);intro Γ hΓ
  (repeat first|refine sN rfl ?_|((first|refine sA rfl ?_ ?_|refine s4 rfl ‹_› rfl ?_ ?_);first|exact tI|omega|(simp only[oZ] at *;omega))|(refine s2 rfl ?_;intro _ _hb)|(refine s3 rfl ?_ ?_<;>intro hb<;>subst hb)|refine aS ?_|refine reg (by kernel_rfl) ?_|refine lexE ?_)
  (refine popO rfl ?_;refine popW ?_ rfl (by rfl);refine n_buildN2 1 1 61 2 1 4 rfl rfl (by decide) rfl rfl (by rfl) (by rfl) ?_)
  (repeat first|refine sN rfl ?_|((first|refine sA rfl ?_ ?_|refine s4 rfl ‹_› rfl ?_ ?_);first|exact tI|omega|(simp only[oZ] at *;omega))|(refine s2 rfl ?_;intro _ _hb) |refine sP rfl (l1Letters_ok al) rfl ?_|(refine s3 rfl ?_ ?_<;>intro hb<;>subst hb)|refine aS ?_|refine reg (by kernel_rfl) ?_|refine lexE ?_)
  refine aB ?_
  refine AWp.sld0 3 ?_
  refine AWp.loopV (α:={s:Nat×Int×Nst×List Bool // (s.1:Int)≤n∧(p≤s.2.1∧s.2.1≤p+7*s.1)∧s.2.2.1.length=s.1∧s.2.2.2.length=s.1∧∀x∈s.2.2.1,x.2.length=(letters al).length}) [0,2,6,7,8] [1] rfl rfl (fun s=>[(9,eI .i64 s.1.1)]) (fun s=>[(0,rdO b s.1.2.1),(2,.cells 61 1 (rawR s.1.2.2.1)),(3,.cells 4 1 (s.1.2.2.2.map bRowC)),(4,.cells 26 3 [[.d (iD al),.arr 2 1 0 s.1.2.2.1.length,.arr 3 1 0 s.1.2.2.2.length]]),(5,.sld 3 (sI s.1.2.2.1))]) 6 (fun s=>n.toNat - s.1.1) (⟨⟨0,p,[],[]⟩,by simp;omega⟩) (List.range 6) (rg hΓ rfl) (by (repeat' first|exact tI|rfl|refine And.intro ?_ ?_)<;>(simp[cX,zC,hΓ]<;>rfl)) ?_;rintro ⟨⟨k,q,l,ac⟩,hk,hq,hl,hac,hx⟩;(try dsimp only[List.cons_append,List.nil_append])
  have hk:(k:Int)≤n:=hk
  have hq:p≤q∧q≤p+7*k:=hq
  have hl:l.length=k:=hl
  have hac:ac.length=k:=hac
  (repeat first|refine sN rfl ?_|((first|refine sM rfl ?_ ?_|refine s4 rfl ‹_› rfl ?_ ?_);first|exact tI|omega|(simp only[oZ] at *;omega))|(refine s2 rfl ?_;intro _ _hb)|(refine s3 rfl ?_ ?_<;>intro hb<;>subst hb)|refine aS ?_|refine reg (by kernel_rfl) ?_|refine lexE ?_|refine rD (by kernel_rfl) (by kernel_rfl) ?_)
  ((refine aC rfl ?_ ?_<;>intro hb<;>cases hb);all_goals try (simp at _hb;done))
  · have hlt:(k:Int) < n:=by first|omega|(simp only[oZ] at *;omega)
    refine AWp.skip ?_
    refine AWp.seq (AWp.block ?_)
    (repeat first|refine sN rfl ?_|((first|refine sX rfl ?_ ?_|refine s4 rfl ‹_› rfl ?_ ?_);first|exact tI|omega|(simp only[oZ] at *;omega))|(refine s2 rfl ?_;intro _ _hb)|(refine s3 rfl ?_ ?_<;>intro hb<;>subst hb)|refine aS ?_|refine reg (by kernel_rfl) ?_|refine lexE ?_|refine rD (by kernel_rfl) (by kernel_rfl) ?_)
    (refine popO rfl ?_;refine popW ?_ rfl (by rfl);refine n_sliceB rfl rfl rfl rfl (by simp) (by rfl) (by rfl) (by rfl) (by rfl) ?_)
    (repeat first|refine sN rfl ?_|((first|refine sX rfl ?_ ?_|refine s4 rfl ‹_› rfl ?_ ?_);first|exact tI|omega|(simp only[oZ] at *;omega))|(refine s2 rfl ?_;intro _ _hb)|(refine s3 rfl ?_ ?_<;>intro hb<;>subst hb)|refine aS ?_|refine reg (by kernel_rfl) ?_|refine lexE ?_|refine rD (by kernel_rfl) (by kernel_rfl) ?_)
    refine aB ?_
    refine AWp.loopV (α:={s:Nat×Int×List Int // s.1≤(letters al).length∧(q≤s.2.1∧s.2.1≤q+s.1)∧s.2.2.length=s.1}) [0,2,6,7,8,9] [1,2,3,4,5] rfl rfl (fun s=>[(10,.o (.arr 6 1 0 s.1.2.2.length)),(11,eI .i64 s.1.1)]) (fun s=>[(0,rdO b s.1.2.1),(6,.cells 3 1 (s.1.2.2.map iRowC))]) 7 (fun s=>(letters al).length - s.1.1) (⟨⟨0,q,[]⟩,by simp⟩) (List.range 7) (rg hΓ rfl) (by (repeat' first|exact tI|rfl|refine And.intro ?_ ?_)<;>(simp[cX,zC,hΓ,rawR_ren]<;>rfl)) ?_;rintro ⟨⟨j,u,xs⟩,hj,hu,hxs⟩;(try dsimp only[List.cons_append,List.nil_append])
    have hj:j≤(letters al).length:=hj
    have hu:q≤u∧u≤q+j:=hu
    have hxs:xs.length=j:=hxs
    (repeat first|refine sN rfl ?_|((first|refine sM rfl ?_ ?_|refine s4 rfl ‹_› rfl ?_ ?_);first|exact tI|omega|(simp only[oZ] at *;omega))|(refine s2 rfl ?_;intro _ _hb)|(refine s3 rfl ?_ ?_<;>intro hb<;>subst hb)|refine aS ?_|refine reg (by kernel_rfl) ?_|refine lexE ?_|refine rD (by kernel_rfl) (by kernel_rfl) ?_)
    ((refine aC rfl ?_ ?_<;>intro hb<;>cases hb);all_goals try (simp at _hb;done))
    · obtain ⟨c,c1,c2,hp⟩:=pick_ok (TB:=TB) b hb u n (by omega)
      refine AWp.skip ?_
      refine AWp.seq (AWp.block ?_)
      (repeat first|refine sN rfl ?_|((first|refine sA rfl ?_ ?_|refine s4 rfl ‹_› rfl ?_ ?_);first|exact tI|omega|(simp only[oZ] at *;omega))|(refine s2 rfl ?_;intro _ _hb)|(refine s3 rfl ?_ ?_<;>intro hb<;>subst hb)|refine aS ?_|refine reg (by kernel_rfl) ?_|refine lexE ?_)
      (refine popO rfl ?_;refine popW ?_ rfl (by rfl);refine n_call [0] rfl rfl (hp) ⟨rfl,by decide,by decide⟩ rfl (by simp[cX,zC,hΓ]) ?_;rintro x0 σ1 nx1 ⟨rfl,rfl,rfl⟩ _)
      (repeat first|refine sN rfl ?_|((first|refine sA rfl ?_ ?_|refine s4 rfl ‹_› rfl ?_ ?_);first|exact tI|omega|(simp only[oZ] at *;omega))|(refine s2 rfl ?_;intro _ _hb)|(refine s3 rfl ?_ ?_<;>intro hb<;>subst hb)|refine aS ?_|refine reg (by kernel_rfl) ?_|refine lexE ?_)
      (refine popO rfl ?_;refine popW ?_ rfl (by rfl);refine n_append rfl rfl rfl (by first|(simp;done)|(simp;(first|omega|(simp only[oZ] at *;omega)))) rfl (by intro r hr;simp at hr;subst hr;rfl) (by rfl) (Nat.le_of_ble_eq_true rfl) (by simp;omega) ?_)
      (repeat first|refine sN rfl ?_|((first|refine sA rfl ?_ ?_|refine s4 rfl ‹_› rfl ?_ ?_);first|exact tI|omega|(simp only[oZ] at *;omega))|(refine s2 rfl ?_;intro _ _hb)|(refine s3 rfl ?_ ?_<;>intro hb<;>subst hb)|refine aS ?_|refine reg (by kernel_rfl) ?_|refine lexE ?_)
      refine ⟨⟨⟨j+1,u+1,xs++[c]⟩,by simp;first|omega|(simp only[oZ] at *;omega)⟩,by dsimp only;(first|omega|(simp only[oZ] at *;omega)),[0,1,2,3,4,5,7],?_⟩
      (simp[cX,zC,hΓ,cN]<;>rfl)
    · obtain rfl:j=(letters al).length:=by first|omega|(simp only[oZ] at *;omega)
      obtain ⟨c,c1,c2,hp⟩:=pick_ok (TB:=TB) b hb u 3 (by omega)
      refine AWp.exit ?_
      (repeat first|refine sN rfl ?_|((first|refine sX rfl ?_ ?_|refine s4 rfl ‹_› rfl ?_ ?_);first|exact tI|omega|(simp only[oZ] at *;omega))|(refine s2 rfl ?_;intro _ _hb)|(refine s3 rfl ?_ ?_<;>intro hb<;>subst hb)|refine aS ?_|refine reg (by kernel_rfl) ?_|refine lexE ?_)
      (refine popO rfl ?_;refine popW ?_ rfl (by rfl);refine n_sliceB rfl rfl rfl rfl (by simp [eC]) (by rfl) (by rfl) (by rfl) (by rfl) ?_)
      (repeat first|refine sN rfl ?_|((first|refine sX rfl ?_ ?_|refine s4 rfl ‹_› rfl ?_ ?_);first|exact tI|omega|(simp only[oZ] at *;omega))|(refine s2 rfl ?_;intro _ _hb)|(refine s3 rfl ?_ ?_<;>intro hb<;>subst hb)|refine aS ?_|refine reg (by kernel_rfl) ?_|refine lexE ?_)
      (refine popO rfl ?_;refine popW ?_ rfl (by rfl);refine n_append rfl rfl rfl (rawR_len _) rfl (by intro r hr;simp at hr;subst hr;rfl) (by rfl) (Nat.le_of_ble_eq_true rfl) (by simp;omega) ?_)
      (repeat first|refine sN rfl ?_|((first|refine sX rfl ?_ ?_|refine s4 rfl ‹_› rfl ?_ ?_);first|exact tI|omega|(simp only[oZ] at *;omega))|(refine s2 rfl ?_;intro _ _hb)|(refine s3 rfl ?_ ?_<;>intro hb<;>subst hb)|refine aS ?_|refine reg (by kernel_rfl) ?_|refine lexE ?_)
      refine AWp.putEnd 8 6 5 l xs rfl rfl rfl fun v=>?_
      refine regD (flX [(1,14),(3,1016),(6,1),(8,1)]) mixed (by kernel_rfl) (by kernel_rfl) ?_
      (repeat first|refine sN rfl ?_|((first|refine sA rfl ?_ ?_|refine s4 rfl ‹_› rfl ?_ ?_);first|exact tI|omega|(simp only[oZ] at *;omega))|(refine s2 rfl ?_;intro _ _hb)|(refine s3 rfl ?_ ?_<;>intro hb<;>subst hb)|refine aS ?_|refine reg (by kernel_rfl) ?_|refine lexE ?_)
      (refine popO rfl ?_;refine popWK ?_ rfl ⟨rfl,rfl⟩;refine n_call [0] rfl rfl (hp) ⟨rfl,by decide,by decide⟩ rfl (by simp[cX,zC,hΓ,cN]) ?_;rintro x0 σ1 nx1 ⟨rfl,rfl,rfl⟩ _;refine ⟨kept1 4 rfl rfl,?_⟩)
      (repeat first|refine sN rfl ?_|((first|refine sA rfl ?_ ?_|refine s4 rfl ‹_› rfl ?_ ?_);first|exact tI|omega|(simp only[oZ] at *;omega))|(refine s2 rfl ?_;intro _ _hb)|(refine s3 rfl ?_ ?_<;>intro hb<;>subst hb)|refine aS ?_|refine reg (by kernel_rfl) ?_|refine lexE ?_)
      (refine popO rfl ?_;refine popW ?_ rfl (by rfl);refine n_append rfl rfl rfl (by first|(simp;done)|(simp;(first|omega|(simp only[oZ] at *;omega)))) rfl (by intro r hr;simp at hr;subst hr;rfl) (by rfl) (Nat.le_of_ble_eq_true rfl) (by simp;omega) ?_)
      (repeat first|refine sN rfl ?_|((first|refine sA rfl ?_ ?_|refine s4 rfl ‹_› rfl ?_ ?_);first|exact tI|omega|(simp only[oZ] at *;omega))|(refine s2 rfl ?_;intro _ _hb)|(refine s3 rfl ?_ ?_<;>intro hb<;>subst hb)|refine aS ?_|refine reg (by kernel_rfl) ?_|refine lexE ?_)
      subst _hb
      have hx2:∀x∈l++[(v,xs)],x.2.length=(letters al).length:=fun x hm=>by
        rcases List.mem_append.1 hm with hm|hm
        · exact hx x hm
        · simp at hm;subst hm;exact hxs
      refine ⟨⟨⟨k+1,u+1,l++[(v,xs)],ac++[decide (c > 0)]⟩,by dsimp only;omega,by dsimp only;omega,by simp;omega,by simp;omega,hx2⟩,by dsimp only;(first|omega|(simp only[oZ] at *;omega)),[0,1,8,9,4,5],?_⟩
      (simp[cX,zC,hΓ,cN]<;>rfl)
  · have hkn:(k:Int)=n:=by first|omega|(simp only[oZ] at *;omega)
    refine AWp.exit ?_
    (repeat first|refine sN rfl ?_|((first|refine sA rfl ?_ ?_|refine s4 rfl ‹_› rfl ?_ ?_);first|exact tI|omega|(simp only[oZ] at *;omega))|(refine s2 rfl ?_;intro _ _hb)|(refine s3 rfl ?_ ?_<;>intro hb<;>subst hb)|refine aS ?_|refine reg (by kernel_rfl) ?_|refine lexE ?_)
    refine AWp.ret ⟨_,rfl,[0,2,3,5],eOwn al 1 2 l.length ac.length,[(0,rdO b q),(1,.cells 61 1 (rawR l)),(2,.cells 4 1 (ac.map bRowC)),(3,.sld 3 (sI l))],⟨by intro i hi;match i with|0=>rfl,by decide⟩,rfl,by (repeat' first|exact tI|rfl|refine And.intro ?_ ?_)<;>(simp[cX,zC,hΓ,cN]<;>rfl),q,l,ac,by omega,by omega,by omega,hx,rfl,rfl,rfl⟩
end Go.Am
namespace Go.Am
open Go Go.Proofs
set_option maxHeartbeats 1000000
attribute [local irreducible] QOp AOp Lex LexO AWp Spec
variable {TB:Amb}
theorem l3Safe_ok (b:List UInt8) (hb:b.length≤2000) (p:Int) (h0:0≤p∧p < 900000000) (al n:Int) (hn:1≤n∧n < 1000):SpecK Tryz.prog TB 142 1 [(0,rdO b p)] 1 [.o (.ptr 0 2 0 0),eI .i64 al,eI .i64 n] (RandPost b al p n):=by
  have hla:(letters al).length≤6:=lettersTo_len al 6
  refine SpecK.ren (SpecK.ofG (m:=1) (Nat.le_of_ble_eq_true rfl) Tryz.func142 rfl (by kernel_rfl) (Nat.le_of_ble_eq_true rfl) ?_);intro Γ hΓ
  (repeat first|refine sN rfl ?_|((first|refine sA rfl ?_ ?_|refine s4 rfl ‹_› rfl ?_ ?_);first|exact tI|omega|(simp only[oZ] at *;omega))|(refine s2 rfl ?_;intro _ _hb)|(refine s3 rfl ?_ ?_<;>intro hb<;>subst hb)|refine aS ?_|refine reg (by kernel_rfl) ?_|refine lexE ?_)
  (refine popO rfl ?_;refine popW ?_ rfl (by rfl);refine n_callK [0] rfl rfl 1 (l3Random_ok b hb p h0 al n (by omega)) (by decide) ⟨rfl,by decide,by decide⟩ rfl (by simp[cX,zC,hΓ]) ?_;rintro x0 σ1 nx1 ⟨q,l,ac,hq,hl,hac,hx,rfl,rfl,rfl⟩ _)
  (repeat first|refine sN rfl ?_|((first|refine sA rfl ?_ ?_|refine s4 rfl ‹_› rfl ?_ ?_);first|exact tI|omega|(simp only[oZ] at *;omega))|(refine s2 rfl ?_;intro _ _hb)|(refine s3 rfl ?_ ?_<;>intro hb<;>subst hb)|refine aS ?_|refine reg (by kernel_rfl) ?_|refine lexE ?_)
  refine aB ?_
  refine AWp.loopV (α:={s:Nat×List Bool // (s.1:Int)≤n∧s.2.length=l.length}) [2,6,7] [1] rfl rfl (fun s=>[(8,eI .i64 s.1.1)]) (fun s=>[(0,rdO b q),(2,.cells 61 1 (rawR l)),(4,.sld 3 (sI l)),(3,.cells 4 1 (s.1.2.map bRowC)),(5,.cells 26 3 [[.d (iD al),.arr 2 1 0 l.length,.arr 3 1 0 s.1.2.length]])]) 6 (fun s=>n.toNat - s.1.1) (⟨⟨0,ac⟩,by simp;omega⟩) (List.range 6) (rg hΓ rfl) (by (repeat' first|exact tI|rfl|refine And.intro ?_ ?_)<;>(simp[cX,zC,hΓ,cN]<;>rfl)) ?_;rintro ⟨⟨k,bc⟩,hk,hbc⟩;(try dsimp only[List.cons_append,List.nil_append])
  have hk:(k:Int)≤n:=hk
  have hbc:bc.length=l.length:=hbc
  (repeat first|refine sN rfl ?_|((first|refine sM rfl ?_ ?_|refine s4 rfl ‹_› rfl ?_ ?_);first|exact tI|omega|(simp only[oZ] at *;omega))|(refine s2 rfl ?_;intro _ _hb)|(refine s3 rfl ?_ ?_<;>intro hb<;>subst hb)|refine aS ?_|refine reg (by kernel_rfl) ?_|refine lexE ?_|refine rD (by kernel_rfl) (by kernel_rfl) ?_)
  ((refine aC rfl ?_ ?_<;>intro hb<;>cases hb);all_goals try (simp at _hb;done))
  · have hlt:(k:Int) < n:=by first|omega|(simp only[oZ] at *;omega)
    obtain ⟨c,hc⟩:=get_some (l:=bc) (k:=0+(k:Int).toNat) (by omega)
    have hc':=get_map (g:=bRowC) hc
    refine AWp.skip ?_
    refine AWp.seq (AWp.block ?_)
    (repeat first|refine sN rfl ?_|((first|refine sA rfl ?_ ?_|refine s4 rfl ‹_› rfl ?_ ?_);first|exact tI|omega|(simp only[oZ] at *;omega))|(refine s2 rfl ?_;intro _ _hb)|(refine s3 rfl ?_ ?_<;>intro hb<;>subst hb)|refine aS ?_|refine reg (by kernel_rfl) ?_|refine lexE ?_)
    subst _hb
    refine ⟨⟨⟨k+1,bc.set k (decide ((k:Int) < n - 1))⟩,by dsimp only;omega,by simp;omega⟩,by dsimp only;(first|omega|(simp only[oZ] at *;omega)),[0,1,2,3,4,5],?_⟩
    (simp[cX,zC,hΓ,cN,List.map_set,spliceC,eC]<;>rfl)
  obtain ⟨K,hK⟩:∃K:Nat,(K:Int)=n - 1:=⟨(n - 1).toNat,by omega⟩
  obtain ⟨y,hy⟩:=get_some (l:=l) (k:=K) (by omega)
  refine AWp.exit ?_
  (repeat first|refine sN rfl ?_|((first|refine sA rfl ?_ ?_|refine s4 rfl ‹_› rfl ?_ ?_);first|exact tI|omega|(simp only[oZ] at *;omega))|(refine s2 rfl ?_;intro _ _hb)|(refine s3 rfl ?_ ?_<;>intro hb<;>subst hb)|refine aS ?_|refine reg (by kernel_rfl) ?_|refine lexE ?_)
  refine aB ?_
  refine AWp.takeAt 2 4 l K y hy rfl rfl ?_
  have hyl:y.2.length=(letters al).length:=hx y (List.mem_of_getElem? hy)
  have hKK:((rawR l).set K [.arr 6 1 0 y.2.length])[0+(n - 1).toNat]? = some [.arr 6 1 0 y.2.length]:=by
    rw [←hK,Nat.zero_add,Int.toNat_natCast,List.getElem?_set_self (by rw [rawR_len];omega)]
  refine AWp.loopV (α:={s:Nat×List Int // s.1≤y.2.length∧s.2.length=y.2.length}) [2,6,7] [0,1,2,3,4,5] rfl rfl (fun s=>[(9,eI .i64 s.1.1)]) (fun s=>[(6,.cells 3 1 (s.1.2.map iRowC))]) 7 (fun s=>y.2.length - s.1.1) (⟨⟨0,y.2⟩,by simp⟩) (List.range 7) (rg hΓ rfl) (by (repeat' first|exact tI|rfl|refine And.intro ?_ ?_)<;>(simp[cX,zC,hΓ,cN]<;>rfl)) ?_;rintro ⟨⟨j,ys⟩,hj,hys⟩;(try dsimp only[List.cons_append,List.nil_append])
  have hj:j≤y.2.length:=hj
  have hys:ys.length=y.2.length:=hys
  (repeat first|refine sN rfl ?_|((first|refine sA rfl ?_ ?_|refine s4 rfl ‹_› rfl ?_ ?_);first|exact tI|omega|(simp only[oZ] at *;omega))|(refine s2 rfl ?_;intro _ _hb)|(refine s3 rfl ?_ ?_<;>intro hb<;>subst hb)|refine aS ?_|refine reg (by kernel_rfl) ?_|refine lexE ?_)
  ((refine aC rfl ?_ ?_<;>intro hb<;>cases hb);all_goals try (simp at _hb;done))
  · have hlt:j < y.2.length:=by first|omega|(simp only[oZ] at *;omega)
    obtain ⟨c,hc⟩:=get_some (l:=ys) (k:=0+(j:Int).toNat) (by omega)
    have hc':=get_map (g:=iRowC) hc
    refine AWp.skip ?_
    refine AWp.seq (AWp.block ?_)
    (repeat first|refine sN rfl ?_|((first|refine sA rfl ?_ ?_|refine s4 rfl ‹_› rfl ?_ ?_);first|exact tI|omega|(simp only[oZ] at *;omega))|(refine s2 rfl ?_;intro _ _hb)|(refine s3 rfl ?_ ?_<;>intro hb<;>subst hb)|refine aS ?_|refine reg (by kernel_rfl) ?_|refine lexE ?_)
    refine ⟨⟨⟨j+1,ys.set j (n - 1)⟩,by dsimp only;omega,by simp;omega⟩,by dsimp only;(first|omega|(simp only[oZ] at *;omega)),[0,1,2,3,4,5,6],?_⟩
    (simp[cX,zC,hΓ,cN,List.map_set,spliceC,eC]<;>rfl)
  refine AWp.exit ?_
  refine AWp.putAt 2 6 4 l K y hy ys (by rw [hys];rfl) rfl rfl fun v=>?_
  (repeat first|refine sN rfl ?_|((first|refine sA rfl ?_ ?_|refine s4 rfl ‹_› rfl ?_ ?_);first|exact tI|omega|(simp only[oZ] at *;omega))|(refine s2 rfl ?_;intro _ _hb)|(refine s3 rfl ?_ ?_<;>intro hb<;>subst hb)|refine aS ?_|refine reg (by kernel_rfl) ?_|refine lexE ?_)
  have hx2:∀x∈l.set K (v,ys),x.2.length=(letters al).length:=fun x hm=>by
    rcases List.mem_or_eq_of_mem_set hm with hm|hm
    · exact hx x hm
    · subst hm;exact hys.trans hyl
  refine AWp.ret ⟨_,rfl,[0,2,3,4],eOwn al 1 2 (l.set K (v,ys)).length bc.length,[(0,rdO b q),(1,.cells 61 1 (rawR (l.set K (v,ys)))),(2,.cells 4 1 (bc.map bRowC)),(3,.sld 3 (sI (l.set K (v,ys))))],⟨by intro i hi;match i with|0=>rfl,by decide⟩,by rw [List.length_set];rfl,by (repeat' first|exact tI|rfl|refine And.intro ?_ ?_)<;>(simp[cX,zC,hΓ,cN]<;>rfl),q,l.set K (v,ys),bc,by omega,by rw [List.length_set];omega,by rw [List.length_set];omega,hx2,rfl,rfl,rfl⟩
end Go.Am
namespace Go.Am
open Go Go.Proofs
set_option maxHeartbeats 1000000
attribute [local irreducible] QOp AOp Lex LexO AWp Spec
variable {TB:Amb}
structure ABd (m:Nat) (a:Aut):Prop where
  nx:a.nx.length≤m
  ac:a.ac.length≤m
  row:∀r∈a.nx,r.length≤m
def DrawPost (b:List UInt8) (p w:Int) (Q:Aut→Prop) (x:E) (σ:Store) (nx:Nat):Prop:=∃(p':Int) (a:Aut),(p≤p'∧p'≤p+w)∧Q a∧x=eAut a∧σ=[(0,rdO b p')]∧nx=1
theorem own_bd {al:Int} {l:Nst} {ac:List Bool} {n:Int} {m:Nat} (h1:(l.length:Int)=n) (h2:ac.length=l.length) (h3:∀x∈l,x.2.length=(letters al).length) (hn:n≤m) (hm:6≤m):ABd m ⟨al,l.map (·.2),ac⟩:=by
  have hla:(letters al).length≤6:=lettersTo_len al 6
  refine ⟨by simp;omega,by simp;omega,fun r hr=>?_⟩
  obtain ⟨x,hx,rfl⟩:=List.mem_map.1 hr
  have:=h3 x hx
  omega
theorem l3Over_ok (b:List UInt8) (hb:b.length≤2000) (p:Int) (h0:0≤p∧p < 800000000) (al:Int):Spec Tryz.prog TB 119 [(0,rdO b p)] 1 [.o (.ptr 0 2 0 0),eI .i64 al] (DrawPost b p 50 (fun a=>a.al=al∧ABd 6 a)):=by
  obtain ⟨c,c1,c2,hp⟩:=pick_ok (TB:=TB) b hb p 2 (by omega)
  obtain ⟨n1,m1,k1⟩:=num_ok (TB:=TB) b hb (p+1) (by omega) [3,2,4,1] (by decide) (by decide)
  obtain ⟨n2,m2,k2⟩:=num_ok (TB:=TB) b hb (p+1) (by omega) [2,3,1,4,5] (by decide) (by decide)
  have m1':1≤n1∧n1≤5:=by simp at m1;omega
  have m2':1≤n2∧n2≤5:=by simp at m2;omega
  have f1:=l3Safe_ok (TB:=TB) b hb (p+1+1) (by omega) al n1 (by omega)
  have f2:=l3Random_ok (TB:=TB) b hb (p+1+1) (by omega) al n2 (by omega)
  refine SpecK.toSpec (SpecK.ren (SpecK.ofG (Nat.le_refl _) Tryz.func119 rfl (by kernel_rfl) (Nat.le_of_ble_eq_true rfl) ?_));intro Γ hΓ
  (repeat first|refine sN rfl ?_|((first|refine sA rfl ?_ ?_|refine s4 rfl ‹_› rfl ?_ ?_);first|exact tI|omega|(simp only[oZ] at *;omega))|(refine s2 rfl ?_;intro _ _hb)|(refine s3 rfl ?_ ?_<;>intro hb<;>subst hb)|refine aS ?_|refine reg (by kernel_rfl) ?_|refine lexE ?_)
  (refine popO rfl ?_;refine popW ?_ rfl (by rfl);refine n_call [0] rfl rfl (hp) ⟨rfl,by decide,by decide⟩ rfl (by simp[cX,zC,hΓ]) ?_;rintro x0 σ1 nx1 ⟨rfl,rfl,rfl⟩ _)
  (repeat first|refine sN rfl ?_|((first|refine sA rfl ?_ ?_|refine s4 rfl ‹_› rfl ?_ ?_);first|exact tI|omega|(simp only[oZ] at *;omega))|(refine s2 rfl ?_;intro _ _hb)|(refine s3 rfl ?_ ?_<;>intro hb<;>subst hb)|refine aS ?_|refine reg (by kernel_rfl) ?_|refine lexE ?_)
  (refine aC rfl ?_ ?_<;>intro hb<;>cases hb)
  · (repeat first|refine sN rfl ?_|((first|refine sA rfl ?_ ?_|refine s4 rfl ‹_› rfl ?_ ?_);first|exact tI|omega|(simp only[oZ] at *;omega))|(refine s2 rfl ?_;intro _ _hb)|(refine s3 rfl ?_ ?_<;>intro hb<;>subst hb)|refine aS ?_|refine reg (by kernel_rfl) ?_|refine lexE ?_)
    (refine popO rfl ?_;refine popW ?_ rfl (by rfl);refine n_call [0] rfl rfl (k1) ⟨rfl,by decide,by decide⟩ rfl (by simp[cX,zC,hΓ]) ?_;rintro x0 σ1 nx1 ⟨rfl,rfl,rfl⟩ _)
    (repeat first|refine sN rfl ?_|((first|refine sA rfl ?_ ?_|refine s4 rfl ‹_› rfl ?_ ?_);first|exact tI|omega|(simp only[oZ] at *;omega))|(refine s2 rfl ?_;intro _ _hb)|(refine s3 rfl ?_ ?_<;>intro hb<;>subst hb)|refine aS ?_|refine reg (by kernel_rfl) ?_|refine lexE ?_)
    (refine popO rfl ?_;refine popW ?_ rfl (by rfl);refine n_callK [0] rfl rfl 1 (f1) (by decide) ⟨rfl,by decide,by decide⟩ rfl (by simp[cX,zC,hΓ,cN]) ?_;rintro x0 σ1 nx1 ⟨q,l,ac,hq,hl,hac,hx,rfl,rfl,rfl⟩ _)
    (repeat first|refine sN rfl ?_|((first|refine sA rfl ?_ ?_|refine s4 rfl ‹_› rfl ?_ ?_);first|exact tI|omega|(simp only[oZ] at *;omega))|(refine s2 rfl ?_;intro _ _hb)|(refine s3 rfl ?_ ?_<;>intro hb<;>subst hb)|refine aS ?_|refine reg (by kernel_rfl) ?_|refine lexE ?_)
    refine AWp.namesV [4] [] rfl rfl [] [(0,rdO b q),(1,.cells 26 3 [[.d (iD al),.arr 2 1 0 l.length,.arr 3 1 0 ac.length]]),(2,.cells 61 1 (rawR l)),(3,.cells 4 1 (ac.map bRowC)),(4,.sld 3 (sI l))] [0,1,2,3,4] (rl hΓ rfl) (by (repeat' first|exact tI|rfl|refine And.intro ?_ ?_)<;>(simp[cX,zC,hΓ,cN]<;>rfl)) ?_;(try dsimp only[List.cons_append,List.nil_append])
    refine AWp.freezeZ [1,2,3,4] [(4,.o (.ip (auRow ⟨al,l.map (·.2),ac⟩)))] ⟨⟨_,rfl,.inr (.o (.box rfl (.cons .d (.cons (.nst (s:=4) rfl rfl) (.cons (.full rfl (by simp [Function.comp_def]) (by simp)) .nil)))))⟩,trivial⟩ ?_
    refine AWp.ret ⟨_,rfl,[0],eAut ⟨al,l.map (·.2),ac⟩,[(0,rdO b q)],⟨by intro i hi;match i with|0=>rfl,by decide⟩,rfl,by (repeat' first|exact tI|rfl|refine And.intro ?_ ?_)<;>(simp[cX,zC,hΓ,cN]<;>rfl),q,_,by omega,⟨rfl,own_bd hl hac hx (by omega) (by omega)⟩,rfl,rfl,rfl⟩
  · refine AWp.skip ?_
    (repeat first|refine sN rfl ?_|((first|refine sA rfl ?_ ?_|refine s4 rfl ‹_› rfl ?_ ?_);first|exact tI|omega|(simp only[oZ] at *;omega))|(refine s2 rfl ?_;intro _ _hb)|(refine s3 rfl ?_ ?_<;>intro hb<;>subst hb)|refine aS ?_|refine reg (by kernel_rfl) ?_|refine lexE ?_)
    (refine popO rfl ?_;refine popW ?_ rfl (by rfl);refine n_call [0] rfl rfl (k2) ⟨rfl,by decide,by decide⟩ rfl (by simp[cX,zC,hΓ]) ?_;rintro x0 σ1 nx1 ⟨rfl,rfl,rfl⟩ _)
    (repeat first|refine sN rfl ?_|((first|refine sA rfl ?_ ?_|refine s4 rfl ‹_› rfl ?_ ?_);first|exact tI|omega|(simp only[oZ] at *;omega))|(refine s2 rfl ?_;intro _ _hb)|(refine s3 rfl ?_ ?_<;>intro hb<;>subst hb)|refine aS ?_|refine reg (by kernel_rfl) ?_|refine lexE ?_)
    (refine popO rfl ?_;refine popW ?_ rfl (by rfl);refine n_callK [0] rfl rfl 1 (f2) (by decide) ⟨rfl,by decide,by decide⟩ rfl (by simp[cX,zC,hΓ,cN]) ?_;rintro x0 σ1 nx1 ⟨q,l,ac,hq,hl,hac,hx,rfl,rfl,rfl⟩ _)
    (repeat first|refine sN rfl ?_|((first|refine sA rfl ?_ ?_|refine s4 rfl ‹_› rfl ?_ ?_);first|exact tI|omega|(simp only[oZ] at *;omega))|(refine s2 rfl ?_;intro _ _hb)|(refine s3 rfl ?_ ?_<;>intro hb<;>subst hb)|refine aS ?_|refine reg (by kernel_rfl) ?_|refine lexE ?_)
    refine AWp.namesV [4] [] rfl rfl [] [(0,rdO b q),(1,.cells 26 3 [[.d (iD al),.arr 2 1 0 l.length,.arr 3 1 0 ac.length]]),(2,.cells 61 1 (rawR l)),(3,.cells 4 1 (ac.map bRowC)),(4,.sld 3 (sI l))] [0,1,2,3,4] (rl hΓ rfl) (by (repeat' first|exact tI|rfl|refine And.intro ?_ ?_)<;>(simp[cX,zC,hΓ,cN]<;>rfl)) ?_;(try dsimp only[List.cons_append,List.nil_append])
    refine AWp.freezeZ [1,2,3,4] [(4,.o (.ip (auRow ⟨al,l.map (·.2),ac⟩)))] ⟨⟨_,rfl,.inr (.o (.box rfl (.cons .d (.cons (.nst (s:=4) rfl rfl) (.cons (.full rfl (by simp [Function.comp_def]) (by simp)) .nil)))))⟩,trivial⟩ ?_
    refine AWp.ret ⟨_,rfl,[0],eAut ⟨al,l.map (·.2),ac⟩,[(0,rdO b q)],⟨by intro i hi;match i with|0=>rfl,by decide⟩,rfl,by (repeat' first|exact tI|rfl|refine And.intro ?_ ?_)<;>(simp[cX,zC,hΓ,cN]<;>rfl),q,_,by omega,⟨rfl,own_bd hl hac hx (by omega) (by omega)⟩,rfl,rfl,rfl⟩
end Go.Am
namespace Go.Am
open Go Go.Proofs
set_option maxHeartbeats 1000000
attribute [local irreducible] QOp AOp Lex LexO AWp Spec
variable {TB:Amb}
def CopyPost (a:Aut) (x:E) (σ:Store) (nx:Nat):Prop:=∃l:Nst,l.map (·.2)=a.nx∧
  x=eOwn a.al 0 1 l.length a.ac.length∧σ=[(0,.cells 61 1 (rawR l)),(1,.cells 4 1 (a.ac.map bRowC)),(2,.sld 3 (sI l))]∧nx=3
theorem l3Copy_ok (a:Aut) (ha:ABd 1000000 a):SpecK Tryz.prog TB 120 0 [] 0 [eAut a] (CopyPost a):=by
  have ha1:=ha.nx
  have ha2:=ha.ac
  refine SpecK.ren (SpecK.ofG (m:=0) (Nat.le_of_ble_eq_true rfl) Tryz.func120 rfl (by kernel_rfl) (Nat.le_of_ble_eq_true rfl) ?_);intro Γ hΓ
  (repeat first|refine sN rfl ?_|((first|refine sA rfl ?_ ?_|refine s4 rfl ‹_› rfl ?_ ?_);first|exact tI|omega|(simp only[oZ] at *;omega))|(refine s2 rfl ?_;intro _ _hb)|(refine s3 rfl ?_ ?_<;>intro hb<;>subst hb)|refine aS ?_|refine reg (by kernel_rfl) ?_|refine lexE ?_)
  refine R.regR [(0,2),(1,2),(3,2),(4,2),(7,3),(2,1),(5,1),(6,1),(8,5)] mixed (by kernel_rfl) rfl (by kernel_rfl) ?_
  (repeat (first|(refine R.popO rfl ?_;first|(refine R.yQ (md:=false) rfl rfl rfl ?_ ?_;(first|exact True.intro|omega|(simp only [oZ] at *;omega)))|(refine R.yB rfl rfl rfl ?_;intro _ _hb)|refine R.yS rfl rfl rfl ?_|refine R.yP rfl rfl rfl rfl ?_|refine R.yA rfl rfl rfl rfl ?_|refine R.yW rfl rfl rfl ?_|refine R.popN rfl rfl ?_|(refine R.yG rfl rfl ?_ ?_<;>intro hb<;>subst hb))))
  (refine R.popO rfl ?_;refine R.popW (fun _=>?_) rfl rfl;refine n_sliceB rfl rfl rfl rfl (by simp) (by rfl) (by rfl) (by rfl) (by rfl) ?_)
  (refine R.popO rfl ?_;refine R.popW (fun _=>?_) rfl rfl;refine n_append rfl rfl rfl (by simp) rfl (by intro r hr;simp only [List.map_map,List.mem_map] at hr;obtain ⟨_,_,rfl⟩:=hr;rfl) (by rfl) (Nat.le_of_ble_eq_true rfl) (by simp;omega) ?_)
  (refine R.popO rfl ?_;refine R.popW (fun _=>?_) rfl rfl;refine n_buildN 1 1 61 rfl rfl rfl (by rfl) (by rfl) ?_)
  (repeat (first|(refine R.popO rfl ?_;first|(refine R.yQ (md:=false) rfl rfl rfl ?_ ?_;(first|exact True.intro|omega|(simp only [oZ] at *;omega)))|(refine R.yB rfl rfl rfl ?_;intro _ _hb)|refine R.yS rfl rfl rfl ?_|refine R.yP rfl rfl rfl rfl ?_|refine R.yA rfl rfl rfl rfl ?_|refine R.yW rfl rfl rfl ?_|refine R.popN rfl rfl ?_|(refine R.yG rfl rfl ?_ ?_<;>intro hb<;>subst hb))))
  refine R.lexQ ?_
  refine AWp.seq ?_
  (repeat first|refine sN rfl ?_|((first|refine sA rfl ?_ ?_|refine s4 rfl ‹_› rfl ?_ ?_);first|exact tI|omega|(simp only[oZ] at *;omega))|(refine s2 rfl ?_;intro _ _hb)|(refine s3 rfl ?_ ?_<;>intro hb<;>subst hb)|refine aS ?_|refine reg (by kernel_rfl) ?_|refine lexE ?_)
  refine aB ?_
  refine AWp.sld0 3 ?_
  refine AWp.loopV (α:={s:Nat×Nst // s.1≤a.nx.length∧s.2.map (·.2)=a.nx.take s.1}) [1,2,3] [] rfl rfl (fun s=>[(4,eI .i64 s.1.1)]) (fun s=>[(0,.cells 26 3 [[.d (iD 0),.d (.l []),.d (.l [])]]),(2,.cells 4 1 (a.ac.map bRowC)),(3,.cells 61 1 (rawR s.1.2)),(4,.cells 26 3 [[.d (iD a.al),.arr 3 1 0 s.1.2.length,.arr 2 1 0 a.ac.length]]),(5,.sld 3 (sI s.1.2))]) 6 (fun s=>a.nx.length - s.1.1) (⟨⟨0,[]⟩,by simp⟩) (List.range 6) (rg hΓ rfl) (by (repeat' first|exact tI|rfl|refine And.intro ?_ ?_)<;>(simp[cX,zC,hΓ,cN,fillC,spliceC,eC]<;>rfl)) ?_;rintro ⟨⟨k,l⟩,hk,hl⟩;(try dsimp only[List.cons_append,List.nil_append])
  have hk:k≤a.nx.length:=hk
  have hl:l.map (·.2)=a.nx.take k:=hl
  have hll:l.length=k:=by have:=congrArg List.length hl;simp at this;omega
  (repeat first|refine sN rfl ?_|((first|refine sA rfl ?_ ?_|refine s4 rfl ‹_› rfl ?_ ?_);first|exact tI|omega|(simp only[oZ] at *;omega))|(refine s2 rfl ?_;intro _ _hb)|(refine s3 rfl ?_ ?_<;>intro hb<;>subst hb)|refine aS ?_|refine reg (by kernel_rfl) ?_|refine lexE ?_)
  ((refine aC rfl ?_ ?_<;>intro hb<;>cases hb);all_goals try (simp at _hb;done))
  · have hlt:k < a.nx.length:=by first|omega|(simp only[oZ] at *;omega)
    obtain ⟨r,hx⟩:=get_some (l:=a.nx) (k:=k) hlt
    have hx':=get_map (g:=iiRow) hx
    have hr:=ha.row r (List.mem_of_getElem? hx)
    refine AWp.skip ?_
    refine AWp.seq (AWp.block ?_)
    refine regD ⟨flagOf [(1,14),(2,1016),(8,1016),(9,1016),(10,1),(12,1)],at0 [0,1,3,4,5,6,7,2,8,9,10,11,12]⟩ mixed (by kernel_rfl) (by kernel_rfl) ?_
    (repeat first|refine sN rfl ?_|((first|refine sX rfl ?_ ?_|refine s4 rfl ‹_› rfl ?_ ?_);first|exact tI|omega|(simp only[oZ] at *;omega))|(refine s2 rfl ?_;intro _ _hb)|(refine s3 rfl ?_ ?_<;>intro hb<;>subst hb)|refine aS ?_|refine reg (by kernel_rfl) ?_|refine lexE ?_)
    (refine popO rfl ?_;refine popWK ?_ rfl ⟨rfl,rfl⟩;refine n_sliceB rfl rfl rfl rfl (by simp) (by rfl) (by rfl) (by rfl) (by rfl) ?_;refine ⟨kept1 4 rfl rfl,?_⟩)
    (refine popO rfl ?_;refine popWK ?_ rfl ⟨rfl,rfl⟩;refine n_append rfl rfl rfl (by simp) rfl (by intro r hr;simp only [List.map_map,List.mem_map] at hr;obtain ⟨_,_,rfl⟩:=hr;rfl) (by rfl) (Nat.le_of_ble_eq_true rfl) (by simp;omega) ?_;refine ⟨kept1 4 rfl rfl,?_⟩)
    (refine popO rfl ?_;refine popWK ?_ rfl ⟨rfl,rfl⟩;refine n_sliceB rfl rfl rfl rfl (by simp [eC]) (by rfl) (by rfl) (by rfl) (by rfl) ?_;refine ⟨kept1 4 rfl rfl,?_⟩)
    (refine popO rfl ?_;refine popW ?_ rfl (by rfl);refine n_append rfl rfl rfl (rawR_len _) rfl (by intro r hr;simp at hr;subst hr;rfl) (by rfl) (Nat.le_of_ble_eq_true rfl) (by simp;omega) ?_)
    (repeat first|refine sN rfl ?_|((first|refine sA rfl ?_ ?_|refine s4 rfl ‹_› rfl ?_ ?_);first|exact tI|omega|(simp only[oZ] at *;omega))|(refine s2 rfl ?_;intro _ _hb)|(refine s3 rfl ?_ ?_<;>intro hb<;>subst hb))
    refine lexE ?_
    refine AWp.namesV [1,2,3,4] [] rfl rfl [] [(0,.cells 26 3 [[.d (iD 0),.d (.l []),.d (.l [])]]),(1,.cells 3 1 (r.map iRowC)),(2,.cells 4 1 (a.ac.map bRowC)),(3,.cells 61 1 (rawR l++[[.arr 1 1 0 r.length]])),(4,.cells 26 3 [[.d (iD a.al),.arr 3 1 0 (l.length+1),.arr 2 1 0 a.ac.length]]),(5,.sld 3 (sI l))] [0,7,2,9,4,5] (rl hΓ rfl) (by (repeat' first|exact tI|rfl|refine And.intro ?_ ?_)<;>(simp[cX,zC,hΓ,cN,fillC,spliceC,eC]<;>rfl)) ?_;(try dsimp only[List.cons_append,List.nil_append])
    refine AWp.putEnd 3 1 5 l r rfl rfl rfl fun v=>?_
    (repeat first|refine sN rfl ?_|((first|refine sA rfl ?_ ?_|refine s4 rfl ‹_› rfl ?_ ?_);first|exact tI|omega|(simp only[oZ] at *;omega))|(refine s2 rfl ?_;intro _ _hb)|(refine s3 rfl ?_ ?_<;>intro hb<;>subst hb)|refine aS ?_|refine reg (by kernel_rfl) ?_|refine lexE ?_)
    refine ⟨⟨⟨k+1,l++[(v,r)]⟩,by dsimp only;omega,by dsimp only;rw [List.map_append,hl,List.take_add_one,hx];rfl⟩,by dsimp only;(first|omega|(simp only[oZ] at *;omega)),[0,1,2,3,4,5],?_⟩
    (simp[cX,zC,hΓ,cN]<;>rfl)
  have hkn:k=a.nx.length:=by first|omega|(simp only[oZ] at *;omega)
  refine AWp.exit ?_
  (repeat first|refine sN rfl ?_|((first|refine sA rfl ?_ ?_|refine s4 rfl ‹_› rfl ?_ ?_);first|exact tI|omega|(simp only[oZ] at *;omega))|(refine s2 rfl ?_;intro _ _hb)|(refine s3 rfl ?_ ?_<;>intro hb<;>subst hb)|refine aS ?_|refine reg (by kernel_rfl) ?_|refine lexE ?_)
  have hll:l.map (·.2)=a.nx:=by rw [hl,hkn,List.take_length]
  refine AWp.ret ⟨_,rfl,[3,2,5],eOwn a.al 0 1 l.length a.ac.length,[(0,.cells 61 1 (rawR l)),(1,.cells 4 1 (a.ac.map bRowC)),(2,.sld 3 (sI l))],⟨by intro i hi;omega,by decide⟩,rfl,by (repeat' first|exact tI|rfl|refine And.intro ?_ ?_)<;>(simp[cX,zC,hΓ,cN]<;>rfl),l,hll,rfl,rfl,rfl⟩
end Go.Am
