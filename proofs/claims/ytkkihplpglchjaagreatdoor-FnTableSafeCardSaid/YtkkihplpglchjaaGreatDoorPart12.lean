/-
  What the call made becomes data that nobody writes any more, inside the boxes that hold it too.
-/
import Derived.Test.YtkkihplpglchjaaGreatDoorPart5
import Derived.Test.YtkkihplpglchjaaGreatDoorPart6
import Derived.Test.YtkkihplpglchjaaGreatDoorPart11
import Derived.Test.YtkkihplpglchjaaGreatDoorPart9
import Derived.Test.YtkkihplpglchjaaGreatDoorPart8
set_option linter.constructorNameAsVariable false
set_option linter.unusedSimpArgs false
set_option linter.unusedVariables false
namespace Go.Am
open Go
set_option linter.unusedVariables false
set_option linter.unusedSimpArgs false
inductive FL (σ:Ab) (ids:List Nat):List C→List C→Prop
  | nil:FL σ ids [] []
  | cons {c c':C} {cs cs':List C}:FC σ ids c c'→FL σ ids cs cs'→FL σ ids (c::cs) (c'::cs')
theorem FL.len {σ:Ab} {ids:List Nat} {l l':List C} (h:FL σ ids l l'):l'.length=l.length:=by
  induction h with
  | nil=>rfl
  | cons _ _ ih=>simp [ih]
theorem FL.get {σ:Ab} {ids:List Nat} {l l':List C} (h:FL σ ids l l'):∀(j:Nat) c',l'[j]? = some c'→∃c,l[j]? = some c∧FC σ ids c c':=by
  induction h with
  | nil=>intro j c' h;simp at h
  | @cons c0 c0' cs cs' h1 _ ih=>
    intro j c' hj
    cases j with
    | zero=>simp at hj;subst hj;exact ⟨c0,rfl,h1⟩
    | succ j=>exact ih j c' (by simpa using hj)
def Lz (σ:Ab) (ids:List Nat):Ab→Prop
  | []=>True
  | (id,.cells T k [r'])::S=>(∃r,look σ id=some (.cells T k [r])∧id∉ids∧FL σ ids r r')∧Lz σ ids S
  | _=>False
theorem Lz.get {σ:Ab} {ids:List Nat}:∀ {S:Ab},Lz σ ids S→∀id o',look S id=some o'→∃T k r r',o'=.cells T k [r']∧look σ id=some (.cells T k [r])∧id∉ids∧FL σ ids r r'
  | [],_,id,o',h=>by cases h
  | (i, o)::S,hs,id,o',h=>by
    match o,hs with
    | .cells T k [r'],hs=>
      rw [Ar] at h
      by_cases hi:i=id
      · rw [if_pos hi] at h
        injection h with h
        subst h;subst hi
        obtain ⟨r,h1,h2,h3⟩:=hs.1
        exact ⟨T,k,r,r',rfl,h1,h2,h3⟩
      · rw [if_neg hi] at h
        exact Lz.get hs.2 id o' h
section
variable {P:Program} {TB:Ba} {Γ:Ctx} {N:Nat} {σ:Ab}
theorem BI.MB {V:View} {f:Env} {nx:Nat} {a:Act} (h:BI TB Γ N V f σ nx a) (ids:List Nat) (L:List (Nat×E)) (S:Ab) (hE:C0 σ ids f L) (hS:Lz σ ids S):BI TB Γ N (IE V σ ids) (look L) S nx a:=by
  have e:Ext V (IE V σ ids):=JJ
  have hi:=h.inv
  refine ⟨fun t x hx=>?_,fun t x hx=>?_,h.size,?_,h.nx,h.defers⟩
  · obtain ⟨y,h1,h2⟩:=hE.get t x hx
    exact h2.rel h.inv (h.env t y h1)
  · obtain ⟨y,h1,_⟩:=hE.get t x hx
    exact h.lt t y h1
  · refine ⟨hi.os,hi.tape,hi.output,hi.old,?_,?_,hi.ext.trans e,⟨?_,?_,?_,?_⟩,?_,fun x hx=>⟨.inl (hi.tabs x hx).1,(hi.tabs x hx).2⟩,hi.hid.same rfl (fun _ h=>.inl h) (fun b hb=>hb.elim .inl fun ⟨id,o,_,hl,hn,he⟩=>.inr ⟨id,o,hl,hn,he⟩) fun b ⟨id,o,hl,hn,hb⟩=>?_⟩
    · rintro b (hb|⟨id,o,_,hl,hn,hb⟩)
      · exact hi.iLt b hb
      · exact (hi.st.obj id o hl).blt hn hb
    · rintro b (hb|⟨id,o,_,hl,hn,hb⟩)
      · exact hi.iNew b hb
      · exact .inr (hi.live id o hl hn b hb)
    · intro id o hl
      obtain ⟨T,k,r,r',rfl,h1,h2,h3⟩:=hS.get id o hl
      rcases hi.st.obj id _ h1 with ⟨h4,h5⟩|⟨h0,cur,h4,h5,h6,h7,h8,h9⟩
      · cases h5
      · refine .inr ⟨h0,cur,h4,h5,h6,h7,fun x hx=>?_,fun i x j c' hix hj=>?_⟩
        · simp at hx;subst hx;rw [h3.len];exact h8 r (by simp)
        · have hi0:i=0:=by have:=(List.getElem?_eq_some_iff.1 hix).1;simp at this;omega
          subst hi0
          simp at hix
          subst hix
          obtain ⟨c,hc,hf⟩:=h3.get j c' hj
          obtain ⟨v,h10,h11⟩:=h9 0 r j c rfl hc
          exact ⟨v,h10,hf.rel hi h11⟩
    · intro id o hl
      obtain ⟨T,k,r,r',_,h1,_,_⟩:=hS.get id o hl
      exact hi.st.lt id _ h1
    · intro id o hl hn b hb' hb
      obtain ⟨T,k,r,r',rfl,h1,h2,_⟩:=hS.get id o hl
      rcases hb with hb|⟨id',o',hm,hl',hn',he⟩
      · exact hi.st.free id _ h1 hn b hb' hb
      · exact hi.st.inj id id' _ o' h1 hl' (fun e=>h2 (e ▸ hm)) hn hn' b hb' he
    · intro id id' o o' hl hl' hne hn hn' b hb hb'
      obtain ⟨T,k,r,r',rfl,h1,_,_⟩:=hS.get id o hl
      obtain ⟨T2,k2,r2,r2',rfl,h12,_,_⟩:=hS.get id' o' hl'
      exact hi.st.inj id id' _ _ h1 h12 hne hn hn' b hb hb'
    · intro id o hl hn b hb
      obtain ⟨T,k,r,r',rfl,h1,_,_⟩:=hS.get id o hl
      exact hi.live id _ h1 hn b hb
    · obtain ⟨T,k,r,r',rfl,h1,_,_⟩:=hS.get id o hl
      exact ⟨id,_,h1,hn,hb⟩
theorem Aj.MB {c:Code} {Q:Exit→Env→Ab→Nat→Prop} {f:Env} {nx:Nat} (ids:List Nat) (L:List (Nat×E)) (S:Ab) (hE:C0 σ ids f L) (hS:Lz σ ids S) (h:Aj P TB Γ N c Q (look L) S nx):Aj P TB Γ N c Q f σ nx:=
  fun V a hr=>h (IE V σ ids) a (hr.MB ids L S hE hS)
theorem Vn {d:Option Tmp} {ty:TypeId} {pos:String} {af:Array Edge} {g:Option (Nat×Bool)} {f:Env} {nx:Nat} {t k e:TypeId} {x y:Operand} {id:Nat} {l:List (List UInt8×Int)} {s:List UInt8} [hm:FM P t k e] [hk:CL P k] [hz:Lx P e (.int .i64 0)] (hx:ev f x=some (.o (.mp id))) (hy:ev f y=some (eT s)) (ho:look σ id=some (.mp (E5 l))) :
    AR P TB Γ ⟨d,.lookup t x y false,ty,pos,af,g⟩ f σ nx (eI .i64 ((BV l s).getD 0)):=
  Ay fun V ρ hr hi=>by
    have e1:=hr.get (by simp [Op.operands]) hx
    have e2:ρ y=.string ⟨s.toArray⟩:=Aw.val (hr.get (by simp [Op.operands]) hy)
    generalize hv:ρ x=v at e1
    cases e1 with
    | mp hid=>
      obtain ⟨hn,ents,clock,h1,h2⟩:=hi.st.obj id _ ho
      obtain ⟨r,h3,h4⟩:=HH s l ents.toList 0 h2
      have hzz:=hz.out
      simp only [Option.bind_eq_some_iff] at hzz
      obtain ⟨i,hi1,hz1⟩:=hzz
      have hzv:(zeroValue e).run P V.w=.ok (.int .i64 0) V.w:=by simp [zeroValue,typeInfo,hi1,hz1,go_sem]
      have hfk:(Instr.findKey k (.string ⟨s.toArray⟩) ents.toList).run P V.w=.ok r V.w:=by simp [Instr.findKey,run_underlying hk.out,h3,go_sem]
      have hck:=Hd hk.out ents.isEmpty ⟨s.toArray⟩ V.w
      refine ⟨.int .i64 ((BV l s).getD 0),?_,.d (.v rfl)⟩
      cases r with
      | none=>
        have h5:BV l s=none:=by simpa using h4.symm
        simp [execOp,hv,e2,Instr.lookup,run_underlying hm.out,MapKept.run_getObj_map h1,hck,hfk,hzv,h5,go_sem]
      | some q=>
        obtain ⟨n,h5,h6⟩:∃n,BV l s=some n∧q.2=.int .i64 n:=by
          cases hf:BV l s with
          | none=>rw [hf] at h4;simp at h4
          | some n=>rw [hf] at h4;exact ⟨n,rfl,by simpa using h4⟩
        obtain ⟨q1,q2⟩:=q
        simp only at h6
        subst h6
        simp [execOp,hv,e2,Instr.lookup,run_underlying hm.out,MapKept.run_getObj_map h1,hck,hfk,h5,go_sem]
end
end Go.Am
namespace Go.Am
set_option linter.unusedVariables false
abbrev W:=List UInt8
structure A3 where
  rows:List W
  cols:List W
def Po (b:Bool):UInt8:=if b then 43 else 45
theorem UX {a b:Bool} (h:Po a=Po b):a=b:=by cases a<;>cases b<;>first|rfl|(simp [Po] at h)
def marks (L:W→Bool) (cols:List W) (w:W):W:=cols.map fun c=>Po (L (w++c))
theorem X4 {L:W→Bool} {cols:List W} {u w:W}:marks L cols u=marks L cols w↔∀c∈cols,L (u++c)=L (w++c):=by
  unfold marks
  rw [List.map_inj_left]
  exact ⟨fun h c hc=>UX (h c hc),fun h c hc=>by rw [h c hc]⟩
def AB (L:W→Bool) (t:A3):List W:=t.rows.map (marks L t.cols)
def BQ (ls:List UInt8) (rows:List W):List W:=rows.flatMap fun r=>ls.map fun l=>r++[l]
def A9 (L:W→Bool) (ls:List UInt8) (t:A3):Option W:=(BQ ls t.rows).find? fun w=>!(AB L t).contains (marks L t.cols w)
def CM (L:W→Bool) (ls:List UInt8):Nat→A3→Option A3
  | 0,_=>none
  | n+1,t=>match A9 L ls t with
    | none=>some t
    | some w=>if t.rows.length=12 then none else CM L ls n ⟨t.rows++[w],t.cols⟩
def AV (ls:List UInt8) (w:W):Prop:=∀c∈w,c∈ls
structure ZD (L:W→Bool) (ls:List UInt8) (t:A3):Prop where
  r0:t.rows[0]? = some []
  c0:t.cols[0]? = some []
  pre:∀(i:Nat) w,t.rows[i]? = some w→0 < i→w≠[]∧∃j,j < i∧t.rows[j]? = some w.dropLast
  onR:∀w∈t.rows,AV ls w
  onC:∀c∈t.cols,AV ls c
  nd:(AB L t).Nodup
  ndC:t.cols.Nodup
theorem Hm {L:W→Bool} {ls:List UInt8} {t:A3} {w:W} (h:A9 L ls t=some w):(∃r∈t.rows,∃l∈ls,w=r++[l])∧marks L t.cols w∉AB L t:=by
  have h1:=List.find?_some h
  have h2:=List.mem_of_find?_eq_some h
  unfold BQ at h2
  simp only [List.mem_flatMap,List.mem_map] at h2
  obtain ⟨r,hr,l,hl,rfl⟩:=h2
  exact ⟨⟨r,hr,l,hl,rfl⟩,by simpa using h1⟩
theorem KD {L:W→Bool} {ls:List UInt8} {t:A3} (h:A9 L ls t=none):∀r∈t.rows,∀l∈ls,marks L t.cols (r++[l])∈AB L t:=by
  intro r hr l hl
  have h1:=List.find?_eq_none.1 h (r++[l]) (by unfold BQ;simp only [List.mem_flatMap,List.mem_map];exact ⟨r,hr,l,hl,rfl⟩)
  simpa using h1
structure Fin (L:W→Bool) (ls:List UInt8) (n:Nat) where
  st:W→Nat
  lt:∀w,AV ls w→st w < n
  same:∀u w v,AV ls u→AV ls w→AV ls v→st u=st w→L (u++v)=L (w++v)
theorem Tk:∀(n:Nat) (l:List Nat),l.Nodup→(∀x∈l,x < n)→l.length≤n
  | 0,l,_,h=>by cases l with
    | nil=>simp
    | cons x l=>have:=h x (by simp);omega
  | n + 1,l,hd,h=>by
    have h1:=Tk n (l.erase n) (hd.erase n) fun x hx=>by
      have h2:=h x (List.mem_of_mem_erase hx)
      have h3:x≠n:=fun e=>by subst e;exact (List.Nodup.not_mem_erase hd) hx
      omega
    by_cases hn:n∈l
    · rw [List.length_erase_of_mem hn] at h1;omega
    · rw [List.erase_of_not_mem hn] at h1;omega
def DW (L:W→Bool) (t:A3) (w:W):Nat:=(AB L t).idxOf (marks L t.cols w)
def runM (L:W→Bool) (t:A3):Nat→W→Nat
  | i,[]=>i
  | i,c::w=>runM L t (DW L t ((t.rows.getD i [])++[c])) w
theorem Ou (L:W→Bool) (t:A3):∀(u w:W) (i:Nat),runM L t i (u++w)=runM L t (runM L t i u) w
  | [],_,_=>rfl
  | c::u,w,i=>Ou L t u w _
structure CJ (L:W→Bool) (ls:List UInt8) (t:A3):Prop extends ZD L ls t where
  cl:∀r∈t.rows,∀l∈ls,marks L t.cols (r++[l])∈AB L t
theorem CJ.idx {L:W→Bool} {ls:List UInt8} {t:A3} (h:CJ L ls t) {i:Nat} {r:W} {l:UInt8} (hi:t.rows[i]? = some r) (hl:l∈ls):∃r',t.rows[DW L t (r++[l])]? = some r'∧marks L t.cols r'=marks L t.cols (r++[l]):=by
  have h1:=h.cl r (List.mem_of_getElem? hi) l hl
  have h2:DW L t (r++[l]) < (AB L t).length:=List.idxOf_lt_length_iff.2 h1
  have h3:(AB L t)[DW L t (r++[l])]'h2=marks L t.cols (r++[l]):=List.getElem_idxOf h2
  have h4:DW L t (r++[l]) < t.rows.length:=by simpa [AB] using h2
  refine ⟨t.rows[DW L t (r++[l])],List.getElem?_eq_getElem h4,?_⟩
  rw [←h3]
  simp [AB]
theorem CJ.run {L:W→Bool} {ls:List UInt8} {t:A3} (h:CJ L ls t):∀(w:W) (i:Nat),AV ls w→i < t.rows.length→runM L t i w < t.rows.length
  | [],_,_,hi=>hi
  | c::w,i,hw,hi=>by
    have h1:t.rows[i]? = some t.rows[i]:=List.getElem?_eq_getElem hi
    obtain ⟨_,h2,_⟩:=h.idx h1 (hw c (by simp))
    have h3:t.rows.getD i []=t.rows[i]:=by simp [h1]
    show runM L t (DW L t (t.rows.getD i []++[c])) w < _
    rw [h3]
    exact h.run w _ (fun x hx=>hw x (by simp [hx])) (List.getElem?_eq_some_iff.1 h2).1
def splitAt (L:W→Bool) (t:A3) (b:Bool):Nat→W→Option W
  | _,[]=>none
  | i,c::v=>if L (t.rows.getD (DW L t ((t.rows.getD i [])++[c])) []++v)≠b then some v else splitAt L t b (DW L t ((t.rows.getD i [])++[c])) v
end Go.Am
namespace Go.Am
open Go Go.Proofs
set_option maxHeartbeats 1000000
attribute [local irreducible] AR BZ Lex Bm Aj Spec
variable {TB:Ba}
abbrev OC (t:A3):List D:=[AZ t.rows,AZ t.cols]
abbrev Cn (t:A3):E:=.a [.d (AZ t.rows),.d (AZ t.cols)]
abbrev O2 (al:Int) (c:C):E:=.a [.d (iD al),c]
mutual
theorem Dk:∀(c:C),c.Bc=true→∀r,c.AO r=c
  | .d x,_,r=>rfl
  | .fn g cap,h,r=>by
    simp only [C.Bc] at h
    simp only [C.AO,KO cap h r]
  | .arr ..,h,_=>by cases h
  | .ptr ..,h,_=>by cases h
  | .mp ..,h,_=>by cases h
  | .mv g l,h,r=>by
    simp only [C.Bc] at h
    simp only [C.AO,KO l h r]
theorem KO:∀(l:List C),C.BR l=true→∀r,C.BE r l=l
  | [],_,r=>rfl
  | c::l,h,r=>by
    simp only [C.BR,Bool.and_eq_true] at h
    simp only [C.BE,Dk c h.1 r,KO l h.2 r]
end
structure FF (P:Program) (TB:Ba) (c:C) (L:W→Bool) (ok:W→Prop):Prop where
  Bc:c.Bc=true
  ask:∀ {Γ:Ctx} {d:Option Tmp} {ty:TypeId} {pos:String} {af:Array Edge} {g:Option (Nat×Bool)} {f:Env} {σ:Ab} {nx:Nat} {x a:Operand} {tys:Array TypeId} {w:W},
    ev f x=some (.o c)→ev f a=some (eT w)→ok w→AR P TB Γ ⟨d,.call ⟨.value x,#[a],tys⟩,ty,pos,af,g⟩ f σ nx (eB (L w))
theorem FF.of {P:Program} {g:FuncId} {cap:List C} {L:W→Bool} {ok:W→Prop} (hc:C.BR cap=true) (h:∀w,ok w→Pure P TB g ([eT w]++cap.map .o) (eB (L w))):FF P TB (.fn g cap) L ok:=
  ⟨hc,fun hx ha hw=>Bb (es:=[eT _]) hx (by simp [Gw,ha]) (by simp [E.Bc,C.Bc,hc]) (h _ hw) rfl⟩
def N6 (L:W→Bool) (cols:List W) (w:W) (k:Nat) (i:Nat):UInt8:=if i < k then Po (L (w++cols.getD i [])) else 0
theorem Pm (L:W→Bool) (cols:List W) (w:W):(Bh cols.length fun i=>Ee (N6 L cols w cols.length i))=(marks L cols w).map Ee:=by
  apply List.ext_getElem?
  intro i
  by_cases h:i < cols.length
  · rw [CE h]
    simp [marks,N6,h]
  · rw [List.getElem?_eq_none (by simp [Bh];omega),List.getElem?_eq_none (by simp [marks];omega)]
theorem Y6:Ee 0=[C.d (D.v (Value.int IntKind.u8 0))]:=rfl
theorem X5 (L:W→Bool) (cols:List W) (w:W) (n:Nat):(Bh n fun i=>Ee (N6 L cols w 0 i))=List.replicate n (Ee 0):=by
  apply List.ext_getElem?
  intro i
  by_cases h:i < n
  · rw [CE h];simp [N6,h]
  · rw [List.getElem?_eq_none (by simp [Bh];omega),List.getElem?_eq_none (by simp;omega)]
theorem Te {L:W→Bool} {cols:List W} {w x:W} {k:Nat} (hx:cols[k]? = some x):(Bh cols.length fun i=>Ee (if i=k then Po (L (w++x)) else N6 L cols w k i))=Bh cols.length fun i=>Ee (N6 L cols w (k+1) i):=by
  refine Ce fun i _=>?_
  congr 1
  unfold N6
  by_cases h:i=k
  · subst h
    rw [if_pos rfl,if_pos (by omega)]
    simp [hx]
  · rw [if_neg h]
    by_cases h2:i < k
    · rw [if_pos h2,if_pos (by omega)]
    · rw [if_neg h2,if_neg (by omega)]
theorem HP {c:C} {L:W→Bool} {ok:W→Prop} (hc:FF Tryz.prog TB c L ok) (al:Int) (t:A3) (w:W) (hl:t.cols.length≤1048576) (hk:∀x∈t.cols,ok (w++x)) (hb:∀x∈t.cols,w.length+x.length≤1048576) :
    Pure Tryz.prog TB 81 [O2 al c,Cn t,eT w] (eT (marks L t.cols w)):=by
  have hr:=Dk c hc.Bc
  refine eN Tryz.func81 rfl (by kernel_rfl) rfl ?_;intro Γ hΓ
  (repeat first|refine aU rfl ?_)
  (refine pW rfl ?_ rfl (by rfl);refine E6 rfl rfl ?_)
  (refine Ag rfl ?_;refine Di (fun _ _=>Ek rfl rfl rfl) rfl ?_)
  (repeat first|refine sN rfl ?_ |refine tM rfl ?_ |refine aU rfl ?_ |refine Aa ?_)
  (refine pW rfl ?_ rfl (by rfl);refine Kv rfl rfl (by rfl) (by rfl) (Nat.le_of_ble_eq_true rfl) (by omega) (by omega) (by omega) ?_)
  (repeat first|refine sN rfl ?_ |refine tM rfl ?_ |refine aU rfl ?_ |refine Aa ?_)
  refine aB ?_
  refine Aj.BO (α:={k:Nat // k≤t.cols.length}) (fun ⟨k,hkl⟩=>[(2,eT w),(3,.o (.ptr 0 2 0 0)),(7,.o (.arr 1 1 0 t.cols.length)),(15,.o (.d (AZ t.cols))),(16,eI .i64 t.cols.length),(17,eI .i64 k)]) (fun ⟨k,hkl⟩=>[(1,.cells 5 1 (Bh t.cols.length fun i=>Ee (N6 L t.cols w k i))),(0,.cells 71 2 [[.d (iD al),c]])]) 2 (fun ⟨k,hkl⟩=>t.cols.length - k) (⟨0,by omega⟩) [0,1] (Hw hΓ rfl rfl) (by (simp[cX,zC,hΓ,KP,hr,X5,eC,Ic,Y6])) ?_;rintro ⟨k,hkl⟩;(try dsimp only)
  (repeat first|refine s2 rfl fun _ _hb=>?_ |refine aU rfl ?_ |refine Aa ?_)
  (refine aC rfl ?_ ?_<;>rintro ⟨⟩)
  · have hlt:k < t.cols.length:=by (simp only[oZ] at *;omega)
    obtain ⟨x,hx⟩:=get_some (l:=t.cols) (k:=k) hlt
    have hx':=get_map (g:=BH) hx
    have hxm:=List.mem_of_getElem? hx
    have hxb:=hb x hxm
    have hok:=hk x hxm
    have hg:=HI (H:=N6 L t.cols w k) (q:=k) (n:=t.cols.length) hlt
    have hs1:(Bh t.cols.length fun i=>Ee (N6 L t.cols w k i)).set (0+((k:Nat):Int).toNat) (Ae (Ee (N6 L t.cols w k k)) 0 (eC (eI .u8 45)))=Bh t.cols.length fun i=>Ee (if i=k then 45 else N6 L t.cols w k i):=JS (c:=45)
    have hg2:=HI (H:=fun i=>if i=k then 45 else N6 L t.cols w k i) (q:=k) (n:=t.cols.length) hlt
    rw [←hs1] at hg2
    have hs2:(Bh t.cols.length fun i=>Ee (if i=k then 45 else N6 L t.cols w k i)).set (0+((k:Nat):Int).toNat) (Ae (Ee (if k=k then 45 else N6 L t.cols w k k)) 0 (eC (eI .u8 43)))=Bh t.cols.length fun i=>Ee (if i=k then 43 else N6 L t.cols w k i):=by
      refine (JS (H:=fun i=>if i=k then 45 else N6 L t.cols w k i) (c:=43)).trans ?_
      refine Ce fun i _=>?_
      by_cases h:i=k<;>simp [h]
    have hst:=Te (L:=L) (w:=w) hx
    refine aK ?_
    refine aS (aB ?_)
    (repeat first|((first|refine sM rfl ?_ ?_|refine s4 rfl ‹_› rfl ?_ ?_);first|exact tI|omega)|(refine Ag rfl ?_;refine gA rfl ?_;first| (refine gB (fun _ _=>hc.ask rfl rfl hok) ?_;intro _ _hb)) |refine aU rfl ?_ |refine Aa ?_)
    (refine aC rfl ?_ ?_<;>rintro ⟨⟩)
    · (repeat first|(refine sM rfl ?_ ?_;first|exact tI|omega) |refine t4 rfl ‹_› rfl ?_ |refine aU rfl ?_ |refine Aa ?_)
      refine ⟨⟨k+1,by omega⟩,by dsimp only;(omega),[0,1],?_⟩
      rw [hs1,hs2]
      rw [_hb] at hst
      have e43:Po true=43:=rfl
      have e45:Po false=45:=rfl
      simp only [e43,e45] at hst
      simp[cX,zC,hΓ,KP,hr,hst]
    · refine aK ?_
      (repeat first|(refine sM rfl ?_ ?_;first|exact tI|omega) |refine aU rfl ?_ |refine Aa ?_)
      refine ⟨⟨k+1,by omega⟩,by dsimp only;(omega),[0,1],?_⟩
      rw [hs1]
      rw [_hb] at hst
      have e43:Po true=43:=rfl
      have e45:Po false=45:=rfl
      simp only [e43,e45] at hst
      simp[cX,zC,hΓ,KP,hr,hst]
  · obtain rfl:k=t.cols.length:=by (simp only[oZ] at *;omega)
    rw [Pm]
    refine aE ?_
    (repeat first|refine tM rfl ?_|(refine Ag rfl ?_;refine gA rfl ?_;first| refine gQ (Qz (marks L t.cols w) rfl rfl (by simp [marks]) (by rw [List.drop_zero,List.take_of_length_le (by simp [marks])])) (by rfl) ?_) |refine aU rfl ?_ |refine Aa ?_)
    refine aR ⟨_,rfl,rfl⟩
def A5 (L:W→Bool) (t:A3):Nat→List (W×Int)
  | 0=>[]
  | k+1=>if (BV (A5 L t k) (marks L t.cols (t.rows.getD k []))).isSome then A5 L t k else A5 L t k++[(marks L t.cols (t.rows.getD k []),(k:Int))]
structure PO (ok:W→Prop) (t:A3):Prop where
  ok:∀w∈t.rows,∀x∈t.cols,ok (w++x)
  rb:∀w∈t.rows,w.length≤65536
  cb:∀x∈t.cols,x.length≤65536
  rl:t.rows.length≤4096
  cl:t.cols.length≤4096
theorem EJ {c:C} {L:W→Bool} {ok:W→Prop} (hc:FF Tryz.prog TB c L ok) (al:Int) (t:A3) (ht:PO ok t) :
    Spec Tryz.prog TB 110 [] 0 [O2 al c,Cn t] (fun x σ nx=>x=.o (.mp 0)∧nx=1∧σ=[(0,.mp (E5 (A5 L t t.rows.length)))]):=by
  have hr:=Dk c hc.Bc
  have hrl:=ht.rl
  refine eN Tryz.func110 rfl (by kernel_rfl) rfl ?_;intro Γ hΓ
  (repeat first|refine aU rfl ?_)
  (refine pW rfl ?_ rfl (by rfl);refine E6 rfl rfl ?_)
  (refine Ag rfl ?_;refine Di (fun _ _=>Ek rfl rfl rfl) rfl ?_)
  (repeat first|refine tM rfl ?_ |refine aU rfl ?_ |refine Aa ?_)
  (refine pW rfl ?_ rfl (by rfl);refine Mc ?_)
  (repeat first|refine sN rfl ?_ |refine tM rfl ?_ |refine aU rfl ?_ |refine Aa ?_)
  refine aB ?_
  refine Aj.BO (α:={k:Nat // k≤t.rows.length}) (fun ⟨k,hkl⟩=>[(2,.o (.ptr 0 2 0 0)),(3,.o (.ip (OC t))),(5,.o (.mp 1)),(13,.o (.d (AZ t.rows))),(14,eI .i64 t.rows.length),(15,eI .i64 k)]) (fun ⟨k,hkl⟩=>[(1,.mp (E5 (A5 L t k))),(0,.cells 71 2 [[.d (iD al),c]])]) 2 (fun ⟨k,hkl⟩=>t.rows.length - k) (⟨0,by omega⟩) [0,1] (Hw hΓ rfl rfl) (by (simp[cX,zC,hΓ,hr,eC,A5,E5])) ?_;rintro ⟨k,hkl⟩;(try dsimp only)
  (repeat first|refine s2 rfl fun _ _hb=>?_ |refine aU rfl ?_ |refine Aa ?_)
  (refine aC rfl ?_ ?_<;>rintro ⟨⟩)
  · have hlt:k < t.rows.length:=by (simp only[oZ] at *;omega)
    obtain ⟨x,hx⟩:=get_some (l:=t.rows) (k:=k) hlt
    have hx':=get_map (g:=BH) hx
    have hxm:=List.mem_of_getElem? hx
    have hxb:=ht.rb x hxm
    have hm:=HP hc al t x (by have:=ht.cl;omega) (ht.ok x hxm) (fun y hy=>by have:=ht.cb y hy;omega)
    have hgd:t.rows.getD k []=x:=by simp [hx]
    have hstep:A5 L t (k+1)=if (BV (A5 L t k) (marks L t.cols x)).isSome then A5 L t k else A5 L t k++[(marks L t.cols x,(k:Int))]:=by
      rw [A5,hgd]
    refine aK ?_
    refine aS (aB ?_)
    (repeat first|refine tM rfl ?_ |(refine s4 rfl ‹_› rfl ?_ ?_;omega) |refine s2 rfl fun _ _hb=>?_|(refine Ag rfl ?_;refine gA rfl ?_;first| refine gS (fun _ _=>Bb rfl rfl (by simp [E.Bc,C.BR,C.Bc,hc.Bc]) hm rfl) ?_|refine gQ (TN rfl rfl rfl) (by rfl) ?_) |refine aU rfl ?_ |refine Aa ?_)
    (refine aC rfl ?_ ?_<;>rintro ⟨⟩)
    · have hn:BV (A5 L t k) (marks L t.cols x)=none:=by simpa using _hb
      rw [hn] at hstep
      (repeat first|refine tM rfl ?_ |refine aU rfl ?_)
      (refine Ag rfl ?_;refine FD ?_ rfl (by rfl);refine X6 rfl rfl rfl rfl hn ?_)
      (repeat first|(refine sM rfl ?_ ?_;first|exact tI|omega) |refine aU rfl ?_ |refine Aa ?_)
      refine ⟨⟨k+1,by omega⟩,by dsimp only;(omega),[0,1],?_⟩
      simp[cX,zC,hΓ,hr,hstep]
    · have hn:(BV (A5 L t k) (marks L t.cols x)).isSome=true:=by simpa using _hb
      rw [if_pos hn] at hstep
      refine aK ?_
      (repeat first|(refine sM rfl ?_ ?_;first|exact tI|omega) |refine aU rfl ?_ |refine Aa ?_)
      refine ⟨⟨k+1,by omega⟩,by dsimp only;(omega),[0,1],?_⟩
      simp[cX,zC,hΓ,hr,hstep]
  · obtain rfl:k=t.rows.length:=by (simp only[oZ] at *;omega)
    refine aE ?_
    (repeat first|refine tM rfl ?_ |refine aU rfl ?_ |refine Aa ?_)
    refine Aj.names [1] [(4,.o (.mp 0))] [(0,.mp (E5 (A5 L t t.rows.length)))] (by intro i hi;rw [hΓ] at hi;omega) (by simp) (by simp[cX,zC,hΓ]) (by simp[cX,zC,hΓ]) ?_
    refine aR ⟨_,rfl,rfl,rfl,rfl⟩
theorem Rb (l:List (W×Int)) (p:W×Int) (s:W):BV (l++[p]) s=(BV l s).or (if p.1=s then some p.2 else none):=by
  unfold BV
  rw [List.find?_append]
  cases h:l.find? (fun p=>decide (p.1=s)) with
  | some q=>simp
  | none=>by_cases hp:p.1=s<;>simp [hp]
theorem Ho {L:W→Bool} {t:A3} {k:Nat} (h:k < t.rows.length):(AB L t)[k]? = some (marks L t.cols (t.rows.getD k [])):=by
  simp [AB,h]
theorem IS (L:W→Bool) (t:A3):∀k,k≤t.rows.length→∀s,BV (A5 L t k) s=if s∈(AB L t).take k then some (((AB L t).idxOf s:Nat):Int) else none
  | 0,_,s=>by simp [A5,BV]
  | k + 1, hk, s=>by
    have ih:=IS L t k (by omega)
    have hx:=Ho (L:=L) (t:=t) (k:=k) (by omega)
    generalize marks L t.cols (t.rows.getD k [])=x at *
    have hst:A5 L t (k+1)=if (BV (A5 L t k) x).isSome then A5 L t k else A5 L t k++[(x,(k:Int))]:=by
      have hx2:=Ho (L:=L) (t:=t) (k:=k) (by omega)
      rw [hx] at hx2
      injection hx2 with hx2
      rw [A5,←hx2]
    have htk:∀s,s∈(AB L t).take (k+1)↔s∈(AB L t).take k∨s=x:=fun s=>by
      rw [List.take_add_one,hx];simp
    rw [hst]
    by_cases hm:x∈(AB L t).take k
    · rw [if_pos (by rw [ih x,if_pos hm];rfl),ih s]
      by_cases hs:s∈(AB L t).take k
      · rw [if_pos hs,if_pos ((htk s).2 (.inl hs))]
      · rw [if_neg hs,if_neg]
        intro h
        rcases (htk s).1 h with h|h
        · exact hs h
        · subst h;exact hs hm
    · rw [if_neg (by rw [ih x,if_neg hm];simp),Rb,ih s]
      by_cases hs:s∈(AB L t).take k
      · rw [if_pos hs,if_pos ((htk s).2 (.inl hs))];rfl
      · rw [if_neg hs]
        by_cases he:x=s
        · subst he
          rw [if_pos ((htk x).2 (.inr rfl))]
          have hix:(AB L t).idxOf x=k:=by
            have hl:k < (AB L t).length:=(List.getElem?_eq_some_iff.1 hx).1
            have e:AB L t=(AB L t).take k++x::(AB L t).drop (k+1):=by
              rw [←CB hx,List.take_append_drop]
            rw [e,List.idxOf_append,if_neg hm,List.idxOf_cons_self]
            simp;omega
          simp [hix]
        · have hns:s∉(AB L t).take (k+1):=fun h=>by
            rcases (htk s).1 h with h|h
            · exact hs h
            · exact he h.symm
          rw [if_neg hns]
          simp [he]
theorem Ob {L:W→Bool} {t:A3} {s:W}:BV (A5 L t t.rows.length) s=if s∈AB L t then some (((AB L t).idxOf s:Nat):Int) else none:=by
  have h:=IS L t t.rows.length (Nat.le_refl _) s
  have e:(AB L t).take t.rows.length=AB L t:=List.take_of_length_le (by simp [AB])
  rwa [e] at h
theorem Qr {L:W→Bool} {ls:List UInt8} {t:A3} {k j:Nat} {r:W} {l:UInt8} (hr:t.rows[k]? = some r) (hl:ls[j]? = some l) (h1:∀w∈BQ ls (t.rows.take k),marks L t.cols w∈AB L t) (h2:∀x∈ls.take j,marks L t.cols (r++[x])∈AB L t)
    (h3:marks L t.cols (r++[l])∉AB L t):A9 L ls t=some (r++[l]):=by
  have e1:t.rows=t.rows.take k++r::t.rows.drop (k+1):=by
    rw [←CB hr,List.take_append_drop]
  have e2:ls=ls.take j++l::ls.drop (j+1):=by
    rw [←CB hl,List.take_append_drop]
  have e3:BQ ls t.rows=BQ ls (t.rows.take k)++((ls.take j).map (fun x=>r++[x])++(r++[l])::((ls.drop (j+1)).map (fun x=>r++[x])++BQ ls (t.rows.drop (k+1)))):=by
    have h4:BQ ls t.rows=BQ ls (t.rows.take k++r::t.rows.drop (k+1)):=congrArg _ e1
    rw [h4]
    unfold BQ
    rw [List.flatMap_append,List.flatMap_cons]
    have h5:ls.map (fun x=>r++[x])=(ls.take j++l::ls.drop (j+1)).map (fun x=>r++[x]):=congrArg _ e2
    rw [h5]
    simp
  unfold A9
  rw [e3,List.find?_append,List.find?_append]
  have n1:(BQ ls (t.rows.take k)).find? (fun w=>!(AB L t).contains (marks L t.cols w))=none:=List.find?_eq_none.2 fun w hw=>by simpa using h1 w hw
  have n2:((ls.take j).map (fun x=>r++[x])).find? (fun w=>!(AB L t).contains (marks L t.cols w))=none:=List.find?_eq_none.2 fun w hw=>by
    obtain ⟨x,hx,rfl⟩:=List.mem_map.1 hw
    simpa using h2 x hx
  rw [n1,n2]
  simp [h3]
def lb (l:Int):UInt8:=UInt8.ofNat (97+l.toNat)
def Bl (al:Int):List UInt8:=(Af al).map lb
def Sy (o:Option W):E:=match o with
  | some w=>.t [(false,[.d (tD w)]),(false,[.d (bD true)])]
  | none=>.t [(false,[.d (tD [])]),(false,[.d (bD false)])]
theorem VS {l:Int} (h0:0≤l):UInt8.ofNat (97+l).toNat=lb l:=by
  unfold lb
  congr 1
  omega
theorem NK {L:W→Bool} {t:A3} {s:W}:(BV (A5 L t t.rows.length) s).isSome=true↔s∈AB L t:=by
  rw [Ob]
  by_cases h:s∈AB L t<;>simp [h]
theorem Kx {ls:List UInt8} {t:A3} {k:Nat} {r:W} (h:t.rows[k]? = some r):BQ ls (t.rows.take (k+1))=BQ ls (t.rows.take k)++ls.map fun l=>r++[l]:=by
  unfold BQ
  rw [List.take_add_one,h]
  simp
theorem MA {c:C} {L:W→Bool} {ok:W→Prop} (hc:FF Tryz.prog TB c L ok) (al:Int) (t:A3) (ht:PO ok t) (hn:∀w∈t.rows,∀l∈Bl al,∀x∈t.cols,ok (w++[l]++x)) :
    Pure Tryz.prog TB 63 [O2 al c,Cn t] (Sy (A9 L (Bl al) t)):=by
  have hr:=Dk c hc.Bc
  have hrl:=ht.rl
  have hla:(Af al).length≤6:=AI al 6
  refine eN Tryz.func63 rfl (by kernel_rfl) rfl ?_;intro Γ hΓ
  (repeat first|refine aU rfl ?_)
  (refine pW rfl ?_ rfl (by rfl);refine E6 rfl rfl ?_)
  (refine Ag rfl ?_;refine Di (fun _ _=>Ek rfl rfl rfl) rfl ?_)
  (repeat first|refine tM rfl ?_ |refine aU rfl ?_ |refine Aa ?_)
  (refine pW rfl ?_ rfl (by rfl);refine Ac [] rfl rfl (EJ hc al t ht) ⟨rfl,by simp,by simp⟩ (by simp [Ds,E.AO,C.BE,C.AO,hr,eC]) trivial ?_;rintro x0 σ1 nx1 ⟨rfl,rfl,rfl⟩ _)
  (repeat first|refine sN rfl ?_ |refine tM rfl ?_ |refine aU rfl ?_ |refine Aa ?_)
  refine aB ?_
  refine Aj.BO (α:={k:Nat // k≤t.rows.length∧∀w∈BQ (Bl al) (t.rows.take k),marks L t.cols w∈AB L t}) (fun ⟨k,hkl,hkd⟩=>[(2,.o (.ptr 0 2 0 0)),(3,.o (.ip (OC t))),(6,.o (.mp 1)),(18,.o (.d (AZ t.rows))),(19,eI .i64 t.rows.length),(20,eI .i64 k)]) (fun ⟨k,hkl,hkd⟩=>[(1,.mp (E5 (A5 L t t.rows.length))),(0,.cells 71 2 [[.d (iD al),c]])]) 2 (fun ⟨k,hkl,hkd⟩=>t.rows.length - k) (⟨0,by omega,by simp [BQ]⟩) [0,1] (Hw hΓ rfl rfl) (by (simp[cX,zC,hΓ,hr,eC,Ab.AO,Cd,Hv])) ?_;rintro ⟨k,hkl,hkd⟩;(try dsimp only)
  (repeat first|refine s2 rfl fun _ _hb=>?_ |refine aU rfl ?_ |refine Aa ?_)
  (refine aC rfl ?_ ?_<;>rintro ⟨⟩)
  · have hlt:k < t.rows.length:=by (simp only[oZ] at *;omega)
    obtain ⟨r,hx⟩:=get_some (l:=t.rows) (k:=k) hlt
    have hx':=get_map (g:=BH) hx
    have hxm:=List.mem_of_getElem? hx
    have hxb:=ht.rb r hxm
    refine aK ?_
    refine aS (aB ?_)
    (repeat first|refine sN rfl ?_ |refine tM rfl ?_ |(refine s4 rfl ‹_› rfl ?_ ?_;omega) |refine sP rfl (De al) rfl ?_ |refine aU rfl ?_ |refine Aa ?_)
    refine aB ?_
    refine Aj.BO (α:={j:Nat // j≤(Af al).length∧∀x∈(Bl al).take j,marks L t.cols (r++[x])∈AB L t}) (fun ⟨j,hjl,hjd⟩=>[(2,.o (.ptr 0 2 0 0)),(3,.o (.ip (OC t))),(6,.o (.mp 1)),(18,.o (.d (AZ t.rows))),(19,eI .i64 t.rows.length),(20,eI .i64 k),(8,eT r),(26,AW (Af al)),(27,eI .i64 (Af al).length),(28,eI .i64 j)]) (fun ⟨j,hjl,hjd⟩=>[(1,.mp (E5 (A5 L t t.rows.length))),(0,.cells 71 2 [[.d (iD al),c]])]) 2 (fun ⟨j,hjl,hjd⟩=>(Af al).length - j) (⟨0,by omega,by simp⟩) [0,1] (Hw hΓ rfl rfl) (by (simp[cX,zC,hΓ,hr])) ?_;rintro ⟨j,hjl,hjd⟩;(try dsimp only)
    (repeat first|refine s2 rfl fun _ _hb=>?_ |refine aU rfl ?_ |refine Aa ?_)
    (refine aC rfl ?_ ?_<;>rintro ⟨⟩)
    · have hjlt:j < (Af al).length:=by (simp only[oZ] at *;omega)
      obtain ⟨l,hl⟩:=get_some (l:=Af al) (k:=j) hjlt
      have hl':=get_map (g:=CC) hl
      have hlb:=Bg (List.mem_of_getElem? hl)
      have hll:(Bl al)[j]? = some (lb l):=by simp [Bl,hl]
      have hlm:=List.mem_of_getElem? hll
      have hm:=HP hc al t (r++[lb l]) (by have:=ht.cl;omega) (fun x hx=>hn r hxm _ hlm x hx) (fun y hy=>by have:=ht.cb y hy;simp;omega)
      refine aK ?_
      refine aS (aB ?_)
      (repeat first|(refine sM rfl ?_ ?_;first|exact tI|omega|simp only[oZ] at *;omega) |(refine s4 rfl ‹_› rfl ?_ ?_;omega) |refine sP rfl (EG l hlb.1 (by omega)) rfl ?_|(refine Ag rfl ?_;refine gA rfl ?_;first| refine gS (fun _ _=>TR rfl (by omega) (by omega)) ?_) |refine aU rfl ?_ |refine Aa ?_)
      rw [VS hlb.1]
      (repeat first|refine tM rfl ?_ |refine s2 rfl fun _ _hb=>?_|(refine Ag rfl ?_;refine gA rfl ?_;first| refine gS (fun _ _=>Bb rfl rfl (by simp [E.Bc,C.BR,C.Bc,hc.Bc]) hm rfl) ?_|refine gQ (TN rfl rfl rfl) (by rfl) ?_) |refine aU rfl ?_ |refine Aa ?_)
      (refine aC rfl ?_ ?_<;>rintro ⟨⟩)
      · have hno:marks L t.cols (r++[lb l])∉AB L t:=fun h=>by
          rw [NK.2 h] at _hb
          cases _hb
        (repeat first|refine tM rfl ?_ |refine aU rfl ?_ |refine Aa ?_)
        refine aR ⟨_,rfl,?_⟩
        rw [Qr hx hll hkd hjd hno]
        rfl
      · have hyes:marks L t.cols (r++[lb l])∈AB L t:=NK.1 (by simpa using _hb)
        have hjd2:∀x∈(Bl al).take (j+1),marks L t.cols (r++[x])∈AB L t:=fun x hx=>by
          rw [List.take_add_one,hll] at hx
          rcases List.mem_append.1 hx with hx|hx
          · exact hjd x hx
          · simp at hx;subst hx;exact hyes
        refine aK ?_
        (repeat first|(refine sM rfl ?_ ?_;first|exact tI|omega) |refine aU rfl ?_ |refine Aa ?_)
        refine ⟨⟨j+1,by omega,hjd2⟩,by dsimp only;(omega),[0,1],?_⟩
        simp[cX,zC,hΓ,hr]
    · obtain rfl:j=(Af al).length:=by (simp only[oZ] at *;omega)
      have hkd2:∀w∈BQ (Bl al) (t.rows.take (k+1)),marks L t.cols w∈AB L t:=fun w hw=>by
        rw [Kx hx] at hw
        rcases List.mem_append.1 hw with hw|hw
        · exact hkd w hw
        · obtain ⟨x,hx2,rfl⟩:=List.mem_map.1 hw
          exact hjd x (by rw [List.take_of_length_le (by simp [Bl])];exact hx2)
      refine aE ?_
      (repeat first|(refine sM rfl ?_ ?_;first|exact tI|omega) |refine aU rfl ?_ |refine Aa ?_)
      refine ⟨⟨k+1,by omega,hkd2⟩,by dsimp only;(omega),[0,1],?_⟩
      simp[cX,zC,hΓ,hr]
  · obtain rfl:k=t.rows.length:=by (simp only[oZ] at *;omega)
    have hno:A9 L (Bl al) t=none:=List.find?_eq_none.2 fun w hw=>by
      have:=hkd w (by rw [List.take_length];exact hw)
      simpa using this
    refine aE ?_
    (repeat first|refine tM rfl ?_ |refine aU rfl ?_ |refine Aa ?_)
    refine aR ⟨_,rfl,?_⟩
    rw [hno]
    rfl
theorem SP (l:List W) (s:W):Pure Tryz.prog TB 139 [Bk l,eT s] (eI .i64 (if s∈l then (l.idxOf s:Int) else -1)):=by
  refine eN Tryz.func139 rfl (by kernel_rfl) rfl ?_;intro Γ hΓ
  refine Aj.bound 0 rfl fun hB0=>?_
  have hB:=hB0 (l.map BH) .refl
  (repeat first|refine sN rfl ?_ |refine tM rfl ?_ |refine aU rfl ?_ |refine Aa ?_)
  refine aB ?_
  refine Aj.BO (α:={k:Nat // k≤l.length∧s∉l.take k}) (fun ⟨k,hk,hs⟩=>[(0,Bk l),(1,eT s),(7,eI .i64 l.length),(8,eI .i64 k)]) (fun ⟨k,hk,hs⟩=>[]) 0 (fun ⟨k,hk,hs⟩=>l.length - k) (⟨0,by omega,by simp⟩) [] (Hw hΓ rfl rfl) (by (simp[cX,zC,hΓ])) ?_;rintro ⟨k,hk,hs⟩;(try dsimp only)
  (repeat first|refine s2 rfl fun _ _hb=>?_ |refine aU rfl ?_ |refine Aa ?_)
  (refine aC rfl ?_ ?_<;>rintro ⟨⟩)
  · have hlt:k < l.length:=by (simp only[oZ] at *;omega)
    obtain ⟨x,hx⟩:=get_some (l:=l) (k:=k) hlt
    have hx':=get_map (g:=BH) hx
    refine aK ?_
    refine aS (aB ?_)
    (repeat first|refine tM rfl ?_ |(refine s4 rfl ‹_› rfl ?_ ?_;omega) |refine s2 rfl fun _ _hb=>?_ |refine aU rfl ?_ |refine Aa ?_)
    (refine aC rfl ?_ ?_<;>rintro ⟨⟩)
    · have he:s=x:=by (simp only[oZ] at *;omega)
      subst he
      (repeat first|refine tM rfl ?_ |refine aU rfl ?_ |refine Aa ?_)
      refine aR ⟨_,rfl,?_⟩
      have hm:s∈l:=List.mem_of_getElem? hx
      have hi:l.idxOf s=k:=by
        have e:l=l.take k++s::l.drop (k+1):=by rw [←CB hx,List.take_append_drop]
        rw [e,List.idxOf_append,if_neg hs,List.idxOf_cons_self]
        simp;omega
      rw [if_pos hm,hi]
    · have he:¬s=x:=by simpa using _hb
      have hs2:s∉l.take (k+1):=by
        rw [List.take_add_one,hx]
        simp [hs,he]
      refine aK ?_
      (repeat first|(refine sM rfl ?_ ?_;first|exact tI|simp only[oZ] at *;omega) |refine aU rfl ?_ |refine Aa ?_)
      refine ⟨⟨k+1,by omega,hs2⟩,by dsimp only;(omega),[],?_⟩
      simp[cX,zC,hΓ]
  · obtain rfl:k=l.length:=by (simp only[oZ] at *;omega)
    rw [List.take_length] at hs
    refine aE ?_
    (repeat first|refine tM rfl ?_ |refine aU rfl ?_ |refine Aa ?_)
    refine aR ⟨_,rfl,?_⟩
    rw [if_neg hs]
theorem Jh (l:List W) (s:W):Pure Tryz.prog TB 109 [Bk l,eT s] (eB (decide (s∈l))):=by
  refine eN Tryz.func109 rfl (by kernel_rfl) rfl ?_;intro Γ hΓ
  (repeat' first|refine tA rfl ?_ |refine s2 rfl fun _ _hb=>?_ |refine sP rfl (SP l s) rfl ?_ |refine aU rfl ?_ |refine Aa ?_|(refine aC rfl ?_ ?_<;>rintro ⟨⟩)|refine aK ?_|refine aE ?_|refine aB ?_|refine aR ⟨_,rfl,?_⟩)
  all_goals (show E.o _=E.o _;congr;subst _hb;by_cases h:s∈l<;>simp [h])
def OT (t:A3) (XQ:W):Option A3:=if t.cols.length=20∨XQ∈t.cols then none else some ⟨t.rows,t.cols++[XQ]⟩
def LM (o:Option A3):E:=match o with
  | some t=>.t [(true,[.d (AZ t.rows),.d (AZ t.cols)]),(false,[.d (bD true)])]
  | none=>.t [(true,[.d (.l []),.d (.l [])]),(false,[.d (bD false)])]
end Go.Am
namespace Go.Am.R
open Go
section
variable {P:Program} {TB:Ba} {ops:Array Oper} {i c:Nat} {r:List (Nat×Nat)} {L:List (Nat×E)} {σ:Ab} {nx:Nat} {pl:List (Nat×(TypeId×List Value))} {K:Bx→Prop} {d:Tmp} {ty:TypeId} {pos:String} {af:Array Edge} {g:Option (Nat×Bool)} {op:Op}
theorem yQ {md:Bool} [hT:Cf P] {q:Prop} {x:E} (hg:A8 ops ⟨some d,op,ty,pos,af,g⟩ (look L)=some true) (hc:(Nat.beq c 0 || Nat.beq c 2)=true) (h:TU hT.T md (look L) op=some (q,x)) (hq:q) (hk:ED P TB ops r K ((d,x)::L) σ nx (CT d pl)):Bm P TB ops ⟨some d,op,ty,pos,af,g⟩ i c r K L σ nx pl:=
  Di (fun _ _ _=>QB h hq) hg hc hk
theorem yB [hT:Cf P] {b0:Bool} (hg:A8 ops ⟨some d,op,ty,pos,af,g⟩ (look L)=some true) (hc:(Nat.beq c 0 || Nat.beq c 2)=true) (h:Om hT.T (look L) op=some b0) (hk:∀b,b0=b→ED P TB ops r K ((d,eB b)::L) σ nx (CT d pl)):Bm P TB ops ⟨some d,op,ty,pos,af,g⟩ i c r K L σ nx pl:=
  Rx (fun _ _ _=>On h) hg hc hk
theorem yS [hT:Cf P] {x:E} (hg:A8 ops ⟨some d,op,ty,pos,af,g⟩ (look L)=some true) (hc:Nat.beq c 0=true) (h:Jo hT.T σ (look L) op=some x) (hk:ED P TB ops r K ((d,x)::L) σ nx (CT d pl)):Bm P TB ops ⟨some d,op,ty,pos,af,g⟩ i c r K L σ nx pl:=
  WV (fun _=>KL h) hg hc hk
theorem yW [hT:Cf P] {t:TypeId} {x y:Operand} {σ':Ab} (hg:A8 ops ⟨none,.store t x y,ty,pos,af,g⟩ (look L)=some true) (hc:c=1) (h:Mj hT.T σ (look L) t x y=some σ') (hk:ED P TB ops r K L σ' nx pl):Bm P TB ops ⟨none,.store t x y,ty,pos,af,g⟩ i c r K L σ nx pl:=
  FD (fun _=>KM h hk) hg hc
theorem yA [hT:Cf P] {t:Tmp} {ts:TypeId} {y:Operand} {T:TypeId} {z:List Value} {σ':Ab} (hp:look pl t=some (T,z)) (hg:A8 ops ⟨none,.store ts (.tmp t) y,ty,pos,af,g⟩ (look ((t,.o (.ptr nx z.length 0 0))::L))=some true) (hc:c=5)
    (h:Mj hT.T ((nx,.cells T z.length [z.map zC])::σ) (look ((t,.o (.ptr nx z.length 0 0))::L)) ts (.tmp t) y=some σ') (hk:ED P TB ops r K ((t,.o (.ptr nx z.length 0 0))::L) σ' (nx+1) (CT t pl)):Bm P TB ops ⟨none,.store ts (.tmp t) y,ty,pos,af,g⟩ i c r K L σ nx pl:=
  Ya hp hg hc fun _=>KM h hk
theorem yP [hT:Cf P] {T:TypeId} {z:List Value} (hz:(GP hT.T T).ze=some z) (hok:z.all Ld=true) (hf:look L d=none) (hc:c=3) (h:ED P TB ops r K L σ nx ((d,(T,z))::pl)):Bm P TB ops ⟨some d,.alloc T,ty,pos,af,none⟩ i c r K L σ nx pl:=
  haveI:=(CQ (P:=P) T hT.ok).SI hz
  Zi hok hf hc h
end
end Go.Am.R
namespace Go.Am
open Go Go.Proofs
set_option maxHeartbeats 1000000
attribute [local irreducible] AR BZ Lex Bm Aj Spec
variable {TB:Ba}
structure Hz (al:Int) (b:Nat) (t:A3):Prop where
  onR:∀w∈t.rows,AV (Bl al) w∧w.length≤b
  onC:∀x∈t.cols,AV (Bl al) x∧x.length≤20000
  rl:t.rows.length≤12
  cl:t.cols.length≤20
def OR (ok:W→Prop) (al:Int):Prop:=∀w,AV (Bl al) w→w.length≤50000→ok w
def NB (ls:List UInt8) (t:A3) (v:W):Prop:=∃r∈t.rows,∃m:W,(m=[]∨∃l∈ls,m=[l])∧∃x:W,(x=[]∨x∈t.cols)∧v=r++m++x
def JW (ok:W→Prop) (ls:List UInt8) (t:A3):Prop:=∀v,NB ls t v→ok v
def DB (L:W→Bool) (ls:List UInt8):Nat→A3→List A3
  | 0,t=>[t]
  | n+1,t=>t::match A9 L ls t with
    | none=>[]
    | some w=>if t.rows.length=12 then [] else DB L ls n ⟨t.rows++[w],t.cols⟩
theorem Dt {L:W→Bool} {ls:List UInt8} {n:Nat} {t:A3}:t∈DB L ls n t:=by cases n<;>simp [DB]
theorem Hz.UC {ok:W→Prop} {al:Int} {b:Nat} {t:A3} (h:Hz al b t) (hf:JW ok (Bl al) t) (hb:b≤20100):PO ok t∧∀w∈t.rows,∀l∈Bl al,∀x∈t.cols,ok (w++[l]++x):=
  ⟨⟨fun w hw x hx=>hf _ ⟨w,hw,[],.inl rfl,x,.inr hx,by simp⟩,fun w hw=>by have:=(h.onR w hw).2;omega,fun x hx=>by have:=(h.onC x hx).2;omega,by have:=h.rl;omega,by have:=h.cl;omega⟩,
   fun w hw l hl x hx=>hf _ ⟨w,hw,[l],.inr ⟨l,hl,rfl⟩,x,.inr hx,rfl⟩⟩
theorem Hz.on {ok:W→Prop} {al:Int} {b:Nat} {t:A3} (h:Hz al b t) (hf:OR ok al) (hb:b≤20100):JW ok (Bl al) t:=by
  rintro v ⟨r,hr,m,hm,x,hx,rfl⟩
  have h1:=h.onR r hr
  have h2:AV (Bl al) m∧m.length≤1:=by
    rcases hm with rfl|⟨l,hl,rfl⟩
    · exact ⟨fun c hc=>by simp at hc,by simp⟩
    · exact ⟨fun c hc=>by simp at hc;subst hc;exact hl,by simp⟩
  have h3:AV (Bl al) x∧x.length≤20000:=by
    rcases hx with rfl|hx
    · exact ⟨fun c hc=>by simp at hc,by simp⟩
    · exact h.onC x hx
  refine hf _ (fun c hc=>?_) (by simp;omega)
  simp only [List.mem_append] at hc
  rcases hc with (hc|hc)|hc
  · exact h1.1 c hc
  · exact h2.1 c hc
  · exact h3.1 c hc
theorem Hz.push {L:W→Bool} {al:Int} {b:Nat} {t:A3} {w:W} (h:Hz al b t) (ho:A9 L (Bl al) t=some w) (hl:t.rows.length < 12):Hz al (b+1) ⟨t.rows++[w],t.cols⟩:=by
  obtain ⟨⟨r,hr,l,hl2,rfl⟩,_⟩:=Hm ho
  refine ⟨fun u hu=>?_,h.onC,by simp;omega,h.cl⟩
  rcases List.mem_append.1 hu with hu|hu
  · have:=h.onR u hu;exact ⟨this.1,by omega⟩
  · simp at hu
    subst hu
    have:=h.onR r hr
    refine ⟨fun c hc=>?_,by simp;omega⟩
    rcases List.mem_append.1 hc with hc|hc
    · exact this.1 c hc
    · simp at hc;subst hc;exact hl2
theorem Hz.grow {L:W→Bool} {al:Int}:∀ {n b:Nat} {t y:A3},Hz al b t→y∈DB L (Bl al) n t→Hz al (b+n) y
  | 0,b,t,y,h,hy=>by simp [DB] at hy;subst hy;exact h
  | n + 1, b,t,y,h,hy=>by
    have hm:∀ {b':Nat} {z:A3},b'≤b+(n+1)→Hz al b' z→Hz al (b+(n+1)) z:=fun hb hz=>⟨fun w hw=>⟨(hz.onR w hw).1,Nat.le_trans (hz.onR w hw).2 hb⟩,hz.onC,hz.rl,hz.cl⟩
    unfold DB at hy
    rcases List.mem_cons.1 hy with rfl|hy
    · exact hm (by omega) h
    · cases ho:A9 L (Bl al) t with
      | none=>rw [ho] at hy;simp at hy
      | some w=>
        rw [ho] at hy
        dsimp only at hy
        split at hy
        · simp at hy
        · have:=h.rl
          exact hm (by omega) (Hz.grow (h.push ho (by omega)) hy)
theorem Hz.ZU {L:W→Bool} {ok:W→Prop} {al:Int} {b:Nat} {t:A3} (h:Hz al b t) (hf:OR ok al) (hb:b≤20000):∀y∈DB L (Bl al) 13 t,JW ok (Bl al) y:=fun y hy=>(h.grow hy).on hf (by omega)
def A1 (L:W→Bool) (al:Int) (t:A3):B6:=⟨al,t.rows.map fun r=>(Af al).map fun l=>((DW L t (r++[lb l]):Nat):Int),t.rows.map L⟩
theorem Td {L:W→Bool} {al:Int} {t:A3} (ho:A9 L (Bl al) t=none) {r:W} (hr:r∈t.rows) {l:Int} (hl:l∈Af al) :
    (BV (A5 L t t.rows.length) (marks L t.cols (r++[lb l]))).getD 0=((DW L t (r++[lb l]):Nat):Int):=by
  have hm:marks L t.cols (r++[lb l])∈AB L t:=by
    have:=List.find?_eq_none.1 ho (r++[lb l]) (by
      unfold BQ
      exact List.mem_flatMap.2 ⟨r,hr,List.mem_map.2 ⟨lb l,List.mem_map.2 ⟨l,hl,rfl⟩,rfl⟩⟩)
    simpa using this
  rw [Ob,if_pos hm]
  rfl
end Go.Am
namespace Go.Am
set_option linter.unusedVariables false
theorem CJ.row {L:W→Bool} {ls:List UInt8} {t:A3} (h:CJ L ls t) {i j:Nat} {r s:W} (hi:t.rows[i]? = some r) (hj:t.rows[j]? = some s) (he:marks L t.cols r=marks L t.cols s):i=j:=by
  have h1:(AB L t)[i]? = some (marks L t.cols r):=by simp [AB,hi]
  have h2:(AB L t)[j]? = some (marks L t.cols r):=by simp [AB,hj,he]
  have l1:=(List.getElem?_eq_some_iff.1 h1).1
  have l2:=(List.getElem?_eq_some_iff.1 h2).1
  have e1:=(List.getElem?_eq_some_iff.1 h1).2
  have e2:=(List.getElem?_eq_some_iff.1 h2).2
  have hp:=List.pairwise_iff_getElem.1 h.nd
  rcases Nat.lt_trichotomy i j with h3|h3|h3
  · exact absurd (e1.trans e2.symm) (hp i j l1 l2 h3)
  · exact h3
  · exact absurd (e2.trans e1.symm) (hp j i l2 l1 h3)
structure Split (L:W→Bool) (ls:List UInt8) (t:A3) (u v:W):Prop where
  suf:∃p,p≠[]∧u=p++v
  new:v∉t.cols
  opens:∃r∈t.rows,∃c∈ls,marks L (t.cols++[v]) (r++[c])∉AB L ⟨t.rows,t.cols++[v]⟩
def Ux (L:W→Bool) (t:A3) (w:W):Bool:=L (t.rows.getD (runM L t 0 w) [])
def X8 (L:W→Bool) (ls:List UInt8) (t:A3) (w:W):Option A3:=(splitAt L t (L w) 0 w).bind fun v=>CM L ls 13 ⟨t.rows,t.cols++[v]⟩
structure Next (L:W→Bool) (ls:List UInt8) (t:A3) (w v:W) (t':A3):Prop where
  split:splitAt L t (L w) 0 w=some v
  close:CM L ls 13 ⟨t.rows,t.cols++[v]⟩=some t'
  next:X8 L ls t w=some t'
  ok:CJ L ls t'
  cols:t'.cols=t.cols++[v]
  new:v∉t.cols
  suf:∃p,p≠[]∧w=p++v
  more:t.rows.length < t'.rows.length
  pre:t.rows <+: t'.rows
structure Wr (L:W→Bool) (ls:List UInt8) (wr:A3→Option W):Prop where
  on:∀t w,wr t=some w→CJ L ls t→AV ls w∧Ux L t w≠L w
def CP (a:B6):Int→W→Int
  | q,[]=>q
  | q,c::w=>CP a (C7 a q.toNat ((c.toNat:Int) - 97)) w
def LA (a:B6) (w:W):Bool:=a.ac.getD (CP a 0 w).toNat false
theorem Ot (a:B6):∀(u w:W) (q:Int),CP a q (u++w)=CP a (CP a q u) w
  | [],_,_=>rfl
  | c::u,w,q=>Ot a u w _
theorem Pk {l:Int} (h0:0≤l) (h1:l < 6):((lb l).toNat:Int) - 97=l:=by
  unfold lb
  have:(97+l.toNat) % 256=97+l.toNat:=by omega
  simp [this]
  omega
theorem GB {al:Int} {c:UInt8} (h:c∈Bl al):0≤(c.toNat:Int) - 97∧(c.toNat:Int) - 97 < 6:=by
  obtain ⟨l,hl,rfl⟩:=List.mem_map.1 h
  have h1:=Bg hl
  rw [Pk h1.1 (by omega)]
  omega
theorem GK {a:B6} (ha:A6 a=true) {al:Int}:∀(w:W) (q:Int),AV (Bl al) w→0≤q∧q < a.nx.length→0≤CP a q w∧CP a q w < a.nx.length
  | [],q,_,hq=>hq
  | c::w,q,hw,hq=>by
    have h1:=GB (hw c (by simp))
    have h2:=FX ha (q:=q.toNat) (by omega) h1.1 h1.2
    exact GK ha w _ (fun x hx=>hw x (by simp [hx])) h2
theorem JL {al:Int} {l:Int} (h:l∈Af al):lb l∈Bl al:=List.mem_map.2 ⟨l,h,rfl⟩
theorem P4 {L:W→Bool} {al:Int} {t:A3} (hal:Bq al=true) (h:CJ L (Bl al) t) (hr:t.rows.length≤12):A6 (A1 L al t)=true:=by
  have h0:0 < t.rows.length:=(List.getElem?_eq_some_iff.1 h.r0).1
  unfold A6
  simp only [Bool.and_eq_true,decide_eq_true_eq,List.all_eq_true]
  refine ⟨⟨⟨hal,by simp [A1];omega⟩,by simp [A1]⟩,fun row hrow=>?_⟩
  simp only [A1,List.mem_map] at hrow
  obtain ⟨r,hr,rfl⟩:=hrow
  unfold DS
  simp only [Bool.and_eq_true,decide_eq_true_eq,List.all_eq_true]
  refine ⟨by simp [A1],fun y hy=>?_⟩
  obtain ⟨l,hl,rfl⟩:=List.mem_map.1 hy
  obtain ⟨i,hi,he⟩:=List.getElem_of_mem hr
  obtain ⟨r',h2,_⟩:=h.idx (i:=i) (r:=r) (by rw [List.getElem?_eq_getElem hi,he]) (JL hl)
  have h3:=(List.getElem?_eq_some_iff.1 h2).1
  unfold Nf
  simp [A1]
  exact h3
theorem SE {L:W→Bool} {al:Int} {t:A3} {q:Nat} {c:UInt8} (hq:q < t.rows.length) (hc:c∈Bl al):C7 (A1 L al t) q ((c.toNat:Int) - 97)=((DW L t (t.rows.getD q []++[c]):Nat):Int):=by
  obtain ⟨l,hl,rfl⟩:=List.mem_map.1 hc
  have h1:=Bg hl
  rw [Pk h1.1 (by omega)]
  obtain ⟨k,hk,he⟩:=List.getElem_of_mem hl
  have h2:(AA al 6)[k]? = some l:=by rw [List.getElem?_eq_getElem hk,he]
  have h3:=GX h2
  unfold C7
  have h4:DK (A1 L al t).al l.toNat=true:=h1.2.2
  rw [if_pos h4]
  have h5:(AA (A1 L al t).al l.toNat).length=k:=h3
  rw [h5]
  have h6:(A1 L al t).nx.getD q []=(Af al).map fun l=>((DW L t (t.rows.getD q []++[lb l]):Nat):Int):=by
    simp [A1,List.getD,hq]
  rw [h6]
  simp [List.getD,h2]
theorem I0 {L:W→Bool} {al:Int} {t:A3} (h:CJ L (Bl al) t):∀(w:W) (q:Nat),AV (Bl al) w→q < t.rows.length→CP (A1 L al t) q w=((runM L t q w:Nat):Int)
  | [],q,_,_=>rfl
  | c::w,q,hw,hq=>by
    have h1:t.rows[q]? = some t.rows[q]:=List.getElem?_eq_getElem hq
    have hc:=hw c (by simp)
    obtain ⟨_,h2,_⟩:=h.idx h1 hc
    have h3:t.rows.getD q []=t.rows[q]:=by simp [h1]
    have h4:=(List.getElem?_eq_some_iff.1 h2).1
    show CP (A1 L al t) (C7 (A1 L al t) ((q:Int)).toNat ((c.toNat:Int) - 97)) w=_
    rw [Int.toNat_natCast,SE hq hc]
    rw [←h3] at h4
    exact I0 h w _ (fun x hx=>hw x (by simp [hx])) h4
theorem Us {L:W→Bool} {al:Int} {t:A3} (h:CJ L (Bl al) t) {w:W} (hw:AV (Bl al) w):LA (A1 L al t) w=Ux L t w:=by
  have h0:0 < t.rows.length:=(List.getElem?_eq_some_iff.1 h.r0).1
  have h1:=h.run w 0 hw h0
  unfold LA Ux
  have h2:=I0 h w 0 hw h0
  rw [show ((0:Nat):Int)=0 from rfl] at h2
  rw [h2,Int.toNat_natCast]
  simp [A1,List.getD,h1]
end Go.Am
namespace Go.Am
open Go
set_option linter.unusedVariables false
theorem Zt {al:Int}:∀ {w:List Int},(∀l∈w,l∈Af al)→AV (Bl al) (Nk w):=fun {w} h c hc=>by
  obtain ⟨l,hl,rfl⟩:=List.mem_map.1 hc
  exact JL (h l hl)
open Classical in
def XY:Option TypeDesc→Bool
  | some (.func ..)=>true
  | _=>false
class ZA (P:Program) (t:TypeId):Prop where
  out:XY (P.underlying t)=true
section
variable {P:Program} {TB:Ba} {Γ:Ctx} {d:Option Tmp} {ty:TypeId} {pos:String} {af:Array Edge} {g:Option (Nat×Bool)} {f:Env} {σ:Ab} {nx:Nat}
end
def Km (L:List (Nat×E)):List Nat→Option (List (Nat×E))
  | []=>some []
  | k::r=>match look L k,Km L r with
    | some e,some l=>some ((k,e)::l)
    | _,_=>none
def Qg (σ:Ab):List Nat→Option Ab
  | []=>some []
  | k::r=>match look σ k,Qg σ r with
    | some e,some l=>some ((k,e)::l)
    | _,_=>none
section
variable {P:Program} {TB:Ba} {Γ:Ctx} {N:Nat}
theorem Aj.X3 {c:Code} {Q:Exit→Env→Ab→Nat→Prop} {L0 Lk:List (Nat×E)} {σ Sk:Ab} {nx:Nat} {α:Type} (ks is:List Nat) (hk:Km L0 ks=some Lk) (hi:Qg σ is=some Sk) (v:α→List (Nat×E)) (s:α→Ab) (n:Nat) (μ:α→Nat)
    (x:α) (l0:List Nat) (hl0:(∀i,i < Γ.V.nx→l0[i]? = some i)∧l0.Nodup∧l0.length=n) (h0:CK (nm l0 nx) (look L0) (v x++Lk)∧AN (nm l0 nx) σ (s x++Sk))
    (round:∀x,Aj P TB Γ N c (Il (fun f σ nx=>∃y,μ y < μ x∧∃l:List Nat,(∀i,i < Γ.V.nx→l[i]? = some i)∧l.Nodup∧l.length=n∧CK (nm l nx) f (v y++Lk)∧AN (nm l nx) σ (s y++Sk)) Q) (look (v x++Lk)) (s x++Sk) n) :
    Aj P TB Γ N (.loop c) Q (look L0) σ nx:=Aj.BO (fun x=>v x++Lk) (fun x=>s x++Sk) n μ x l0 hl0 h0 round
theorem aL {c:Code} {Q:Exit→Env→Ab→Nat→Prop} {L0 Lk:List (Nat×E)} {σ Sk:Ab} {nx:Nat} {α:Type} (ks is:List Nat) (hk:Km L0 ks=some Lk) (hi:Qg σ is=some Sk) (v:α→List (Nat×E)) (s:α→Ab) (n:Nat) (μ:α→Nat)
    (x:α) {m:Nat} (hΓ:Γ.V.nx=m) (hn:Nat.ble m n=true) (h0:CK (nm (List.range n) nx) (look L0) (v x++Lk)∧AN (nm (List.range n) nx) σ (s x++Sk))
    (round:∀x,Aj P TB Γ N c (Il (fun f σ nx=>∃y,μ y < μ x∧∃l:List Nat,(∀i,i < Γ.V.nx→l[i]? = some i)∧l.Nodup∧l.length=n∧CK (nm l nx) f (v y++Lk)∧AN (nm l nx) σ (s y++Sk)) Q) (look (v x++Lk)) (s x++Sk) n) :
    Aj P TB Γ N (.loop c) Q (look L0) σ nx:=Aj.X3 ks is hk hi v s n μ x (List.range n) (rg hΓ hn) h0 round
end
inductive FZ (σ:Ab):C→D→Prop
  | d {x:D}:FZ σ (.d x) x
  | fn {g:FuncId}:FZ σ (.fn g []) (.v (.func (.func g) #[] #[]))
  | arr {id k off len:Nat} {T:TypeId} {rows:List (List C)} {ds:List (List D)} {rs:Nat→List C} {cs:Nat→Nat→C}:look σ id=some (.cells T k rows)→off+len≤rows.length→ds.length=len→
      (∀i r',ds[i]? = some r'→rows[off+i]? = some (rs i)∧(rs i).length=r'.length)→(∀i j r' x,ds[i]? = some r'→r'[j]? = some x→(rs i)[j]? = some (cs i j))→
      (∀i j r' x,ds[i]? = some r'→r'[j]? = some x→FZ σ (cs i j) x)→FZ σ (.arr id k off len) (.l ds)
  | ptr {id k i j:Nat} {T:TypeId} {rows:List (List C)} {r:List C} {ds:List D} {cs:Nat→C}:look σ id=some (.cells T k rows)→rows[i]? = some r→(∀q x,ds[q]? = some x→r[j+q]? = some (cs q))→(∀q x,ds[q]? = some x→FZ σ (cs q) x)→FZ σ (.ptr id k i j) (.p ds)
  | sld {id:Nat} {T:TypeId} {l:List (Value×List Value)} {v:Value} {row:List Value}:look σ id=some (.sld T l)→(v,row)∈l→FZ σ (.d (.v v)) (.l (row.map fun x=>[.v x]))
  | nl {b:Option Addr}:FZ σ (.d (.v (.slice b 0 0))) (.l [])
inductive ON (σ:Ab):List C→List D→Prop
  | nil:ON σ [] []
  | cons {c:C} {d:D} {cs:List C} {ds:List D}:FZ σ c d→ON σ cs ds→ON σ (c::cs) (d::ds)
theorem ON.get {σ:Ab} {cs:List C} {ds:List D} (h:ON σ cs ds):cs.length=ds.length∧∀(j:Nat) x,ds[j]? = some x→∃c,cs[j]? = some c∧FZ σ c x:=by
  induction h with
  | nil=>exact ⟨rfl,fun j x h=>by simp at h⟩
  | @cons c d cs ds h1 _ ih=>
    refine ⟨by simp [ih.1],fun j x hj=>?_⟩
    cases j with
    | zero=>simp at hj;subst hj;exact ⟨c,rfl,h1⟩
    | succ j=>exact ih.2 j x (by simpa using hj)
theorem ON.refl {σ:Ab}:∀(ds:List D),ON σ (ds.map .d) ds
  | []=>.nil
  | d::ds=>.cons .d (ON.refl ds)
theorem FZ.rows {σ:Ab} {id k len:Nat} {T:TypeId} {rows:List (List C)} {ds:List (List D)} (hl:look σ id=some (.cells T k rows)) (hn:ds.length=len) (hr:rows.length=len) (h:∀(i:Nat) (r':List D),ds[i]? = some r'→∃r,rows[i]? = some r∧ON σ r r'):FZ σ (.arr id k 0 len) (.l ds):=by
  refine .arr (rs:=fun i=>(rows[i]?).getD []) (cs:=fun i j=>(((rows[i]?).getD [])[j]?).getD (.d (.l []))) hl (by omega) hn (fun i r' hi=>?_) (fun i j r' x hi hj=>?_) (fun i j r' x hi hj=>?_)
  · obtain ⟨r,h1,h2⟩:=h i r' hi
    rw [Nat.zero_add,h1]
    exact ⟨rfl,h2.get.1⟩
  · obtain ⟨r,h1,h2⟩:=h i r' hi
    obtain ⟨c,h3,h4⟩:=h2.get.2 j x hj
    simp [h1,h3]
  · obtain ⟨r,h1,h2⟩:=h i r' hi
    obtain ⟨c,h3,h4⟩:=h2.get.2 j x hj
    simp [h1,h3,h4]
theorem FZ.full {σ:Ab} {id k len:Nat} {T:TypeId} {rows:List (List C)} {ds:List (List D)} (hl:look σ id=some (.cells T k rows)) (hr:rows=ds.map (fun r=>r.map .d)) (hn:rows.length=len):FZ σ (.arr id k 0 len) (.l ds):=by
  refine .rows hl (by rw [←hn,hr];simp) hn fun i r' hi=>⟨r'.map .d,?_,ON.refl _⟩
  rw [hr];simp [hi]
theorem FZ.box {σ:Ab} {id k:Nat} {T:TypeId} {r:List C} {ds:List D} (hl:look σ id=some (.cells T k [r])) (h:ON σ r ds):FZ σ (.ptr id k 0 0) (.p ds):=by
  refine .ptr (cs:=fun q=>(r[q]?).getD (.d (.l []))) hl rfl (fun q x hq=>?_) (fun q x hq=>?_)
  · obtain ⟨c,h3,h4⟩:=h.get.2 q x hq
    rw [Nat.zero_add,h3];rfl
  · obtain ⟨c,h3,h4⟩:=h.get.2 q x hq
    simp [h3,h4]
inductive EZ (σ:Ab):E→E→Prop
  | Bf {e:E}:e.Bc=true→EZ σ e e
  | o {c:C} {d:D}:FZ σ c d→EZ σ (.o c) (.o (.d d))
  | a {cs:List C} {ds:List D}:ON σ cs ds→EZ σ (.a cs) (.a (ds.map .d))
def Nr (σ:Ab) (f:Env):List (Nat×E)→Prop
  | []=>True
  | (t,e')::L=>(∃e,f t=some e∧EZ σ e e')∧Nr σ f L
theorem Nr.get {σ:Ab} {f:Env}:∀ {L:List (Nat×E)},Nr σ f L→∀t e',look L t=some e'→∃e,f t=some e∧EZ σ e e'
  | [],_,t,e,h=>by cases h
  | (k,x)::L,hs,t,e,h=>by
    rw [Ar] at h
    by_cases hk:k=t
    · rw [if_pos hk] at h;injection h with h;subst h;subst hk;exact hs.1
    · rw [if_neg hk] at h;exact Nr.get hs.2 t e h
def DU (V:View) (σ:Ab):View:={ V with I:=fun b=>V.I b∨∃id o,look σ id=some o∧¬V.nl id∧Dc V id o b }
theorem JH {V:View} {σ:Ab}:Ext V (DU V σ):=⟨fun _ h=>.inl h,fun _ _=>rfl,Nat.le_refl _,fun _ _=>rfl,fun _ _=>rfl,fun _ _=>Iff.rfl,Nat.le_refl _⟩
section
variable {P:Program} {TB:Ba} {Γ:Ctx} {N:Nat} {σ:Ab}
theorem Hy.data {I:Nat→Prop} {w:World} {T:TypeId} {v:Value} {row:List Value} (h:Hy w T v row) (hI:∀b,Hc v b→I b):Cv I w (.l (row.map fun x=>[.v x])) v:=by
  rcases h with ⟨rfl,rfl⟩|⟨b,cap,cur,rfl,h2,h3,h4,h5,h6⟩
  · exact .nil
  · have hn:row.length=(row.map fun x=>[D.v x]).length:=by simp
    have hg:∀(i:Nat) (r:List D) (j:Nat) (d:D),(row.map fun x=>[D.v x])[i]? = some r→r[j]? = some d→j=0∧∃x,row[i]? = some x∧d=.v x:=fun i r j d hi hj=>by
      simp only [List.getElem?_map,Option.map_eq_some_iff] at hi
      obtain ⟨x,hx,rfl⟩:=hi
      have hj0:j=0:=by have:=(List.getElem?_eq_some_iff.1 hj).1;simp at this;omega
      subst hj0
      simp at hj
      exact ⟨rfl,x,hx,hj.symm⟩
    rw [hn]
    refine .l (k:=1) (vs:=fun i _=>(row[i]?).getD undef) (hI b ⟨_,_,_,rfl⟩) (by simpa using h4) h5 (fun i r hi=>?_) (fun i r j d hi hj=>?_) (fun i r j d hi hj=>?_)
    · simp only [List.getElem?_map,Option.map_eq_some_iff] at hi
      obtain ⟨x,hx,rfl⟩:=hi;rfl
    · obtain ⟨rfl,x,hx,rfl⟩:=hg i r j d hi hj
      simp [World.cell?,h2,hx,(h6 i x hx).1]
    · obtain ⟨rfl,x,hx,rfl⟩:=hg i r j d hi hj
      simp only [hx,Option.getD_some]
      exact .v (h6 i x hx).2
theorem FZ.rel {V:View} (hi:Inv TB Γ V σ) {c:C} {d:D} (h:FZ σ c d):∀ {v:Value},Aw V c v→Cv (DU V σ).I V.w d v:=by
  induction h with
  | d=>intro v hc;cases hc with|d h=>exact h.ext (V:=V) (V':=DU V σ) JH
  | @sld id T l v row hl hm=>
    intro v' hc
    have hv:v'=v:=Aw.val hc
    subst hv
    have h1:=hi.st.obj id _ hl
    exact (h1.2.2 _ hm).data fun b hb=>.inr ⟨id,_,hl,h1.1,⟨_,hm,hb⟩⟩
  | @nl b=>
    intro v' hc
    have hv:v'=_:=Aw.val hc
    subst hv
    cases b
    · exact .nil
    · exact .e (Nat.zero_le _)
  | fn =>
    intro v hc
    cases hc with
    | @fn f cap vs h1 _=>
      have:vs = #[]:=Array.eq_empty_of_size_eq_zero (by simpa using h1)
      subst this
      exact .v rfl
  | @arr id k off len T rows ds rs cs hl hle hn h1 h2 _ ih=>
    intro v hc
    cases hc with
    | nil h3 h4=>
      have:ds=[]:=List.length_eq_zero_iff.1 hn
      subst this
      exact .nil
    | arr h3 hnl h4=>
      rcases hi.st.obj id _ hl with ⟨h5,_⟩|⟨_,cur,h5,h6,h7,h8,h9,h10⟩
      · exact absurd h5 hnl
      · have hcell:∀(i:Nat) (r:List D) (j:Nat) (x:D),ds[i]? = some r→r[j]? = some x→∃v,cur[(off+i)*k+j]? = some v∧Cv (DU V σ).I V.w x v:=fun i r j x hi' hj=>by
          obtain ⟨v,h11,h12⟩:=h10 (off+i) (rs i) j (cs i j) (h1 i r hi').1 (h2 i j r x hi' hj)
          exact ⟨v,h11,ih i j r x hi' hj h12⟩
        rw [←hn] at h4 ⊢
        refine .l (b:=V.ρ id) (o:=off*k) (k:=k) (vs:=fun i j=>cur.getD ((off+i)*k+j) undef) (.inr ⟨id,_,hl,hnl,rfl⟩) (by omega) (by omega) (fun i r hi'=>?_) (fun i r j x hi' hj=>?_) (fun i r j x hi' hj=>?_)
        · have h13:=h1 i r hi'
          rw [←h13.2]
          exact h9 _ (List.mem_of_getElem? h13.1)
        · obtain ⟨v,h11,_⟩:=hcell i r j x hi' hj
          have e:off*k+i*k+j=(off+i)*k+j:=by rw [Nat.add_mul]
          rw [e]
          simp [World.cell?,h5,h11]
        · obtain ⟨v,h11,h12⟩:=hcell i r j x hi' hj
          have:cur.getD ((off+i)*k+j) undef=v:=by simp [h11]
          simp only [this]
          exact h12
  | @ptr id k i j T rows r ds cs hl hri h1 _ ih=>
    intro v hc
    cases hc with
    | ptr h3 hnl=>
      rcases hi.st.obj id _ hl with ⟨h5,_⟩|⟨_,cur,h5,h6,h7,h8,h9,h10⟩
      · exact absurd h5 hnl
      · have hcell:∀(q:Nat) (x:D),ds[q]? = some x→∃v,cur[i*k+j+q]? = some v∧Cv (DU V σ).I V.w x v:=fun q x hq=>by
          obtain ⟨v,h11,h12⟩:=h10 i r (j+q) (cs q) hri (h1 q x hq)
          exact ⟨v,by rw [Nat.add_assoc];exact h11,ih q x hq h12⟩
        refine .p (b:=V.ρ id) (o:=i*k+j) (vs:=fun q=>cur.getD (i*k+j+q) undef) (.inr ⟨id,_,hl,hnl,rfl⟩) (fun q x hq=>?_) (fun q x hq=>?_)
        · obtain ⟨v,h11,_⟩:=hcell q x hq
          simp [World.cell?,h5,h11]
        · obtain ⟨v,h11,h12⟩:=hcell q x hq
          have:cur.getD (i*k+j+q) undef=v:=by simp [h11]
          simp only [this]
          exact h12
theorem EZ.rel {V:View} (hi:Inv TB Γ V σ) {e e':E} (h:EZ σ e e') {v:Value} (hv:AX V e v):AX (DU V σ) e' v:=by
  cases h with
  | Bf=>exact hv.ext JH
  | o h=>exact Aw.d (V:=DU V σ) (h.rel hi hv)
  | @a cs ds h=>
    obtain ⟨vs,rfl,h1,h2⟩:=hv
    refine ⟨vs,rfl,by rw [h1,h.get.1];simp,fun j c v hj hv=>?_⟩
    simp only [List.getElem?_map,Option.map_eq_some_iff] at hj
    obtain ⟨x,hx,rfl⟩:=hj
    obtain ⟨c,h3,h4⟩:=h.get.2 j x hx
    exact Aw.d (V:=DU V σ) (h4.rel hi (h2 j c v h3 hv))
theorem Aj.settle {c:Code} {Q:Exit→Env→Ab→Nat→Prop} {f:Env} {nx:Nat} (L:List (Nat×E)) (hE:Nr σ f L) (h:Aj P TB Γ N c Q (look L) [] nx):Aj P TB Γ N c Q f σ nx:=by
  intro V a hr
  refine h (DU V σ) a ⟨fun t x hx=>?_,fun t x hx=>?_,hr.size,?_,hr.nx,hr.defers⟩
  · obtain ⟨y,h1,h2⟩:=hE.get t x hx
    exact h2.rel hr.inv (hr.env t y h1)
  · obtain ⟨y,h1,_⟩:=hE.get t x hx
    exact hr.lt t y h1
  · have hi:=hr.inv
    refine ⟨hi.os,hi.tape,hi.output,hi.old,?_,?_,hi.ext.trans JH,C4,fun id o ho=>(by cases ho),fun x hx=>⟨.inl (hi.tabs x hx).1,(hi.tabs x hx).2⟩,hi.hid.same rfl (fun _ h=>.inl h) (fun b hb=>hb.elim .inl fun ⟨id,o,hl,hn,he⟩=>.inr ⟨id,o,hl,hn,he⟩) fun b ⟨_,_,h,_⟩=>by cases h⟩
    · rintro b (hb|⟨id,o,hl,hn,hb⟩)
      · exact hi.iLt b hb
      · exact (hi.st.obj id o hl).blt hn hb
    · rintro b (hb|⟨id,o,hl,hn,hb⟩)
      · exact hi.iNew b hb
      · exact .inr (hi.live id o hl hn b hb)
theorem LQ {ids:List Nat} {L0:List (Nat×E)}:∀ {ks:List Nat} {Lk:List (Nat×E)},Km L0 ks=some Lk→C0 σ ids (look L0) Lk
  | [],Lk,h=>by injection h with h;subst h;trivial
  | k :: ks,Lk,h=>by
    unfold Km at h
    split at h
    · rename_i e l h1 h2
      injection h with h
      subst h
      exact ⟨⟨e,h1,.Bf⟩,LQ h2⟩
    · cases h
theorem C0.app {ids:List Nat} {f:Env}:∀ {L M:List (Nat×E)},C0 σ ids f L→C0 σ ids f M→C0 σ ids f (L++M)
  | [],_,_,h=>h
  | _::_,_,h,h'=>⟨h.1,C0.app h.2 h'⟩
theorem Aj.MC {c:Code} {Q:Exit→Env→Ab→Nat→Prop} {L0 Lk:List (Nat×E)} {nx:Nat} (ids ks:List Nat) (hk:Km L0 ks=some Lk) (L:List (Nat×E)) (hE:C0 σ ids (look L0) L) (h:Aj P TB Γ N c Q (look (L++Lk)) (Cd ids σ) nx):Aj P TB Γ N c Q (look L0) σ nx:=
  Aj.freeze ids (L++Lk) (hE.app (LQ hk)) h
section
variable {d:Option Tmp} {ty:TypeId} {pos:String} {af:Array Edge} {g:Option (Nat×Bool)} {f:Env} {nx:Nat}
theorem DY {t:TypeId} {x lo:Operand} {s:List UInt8} {m:Int} {k:IntKind} [ht:CL P t] (hx:ev f x=some (eT s)) (hl:ev f lo=some (eI k m)) (h0:0≤m) (h1:m≤s.length):AR P TB Γ ⟨d,.slice t x (some lo) none none,ty,pos,af,g⟩ f σ nx (eT (s.drop m.toNat)):=by
  have h:=MW (P:=P) (TB:=TB) (Γ:=Γ) (d:=d) (ty:=ty) (pos:=pos) (af:=af) (g:=g) (σ:=σ) (nx:=nx) (t:=t) (x:=x) (lo:=some lo) (hi:=none) (l:=some (k,m)) (h:=none) hx (by simp [Up,hl]) rfl h0 h1 (Int.le_refl _)
  simpa [IF,IM] using h
theorem MX {t:TypeId} {x hi:Operand} {s:List UInt8} {m:Int} {k:IntKind} [ht:CL P t] (hx:ev f x=some (eT s)) (hl:ev f hi=some (eI k m)) (h0:0≤m) (h1:m≤s.length):AR P TB Γ ⟨d,.slice t x none (some hi) none,ty,pos,af,g⟩ f σ nx (eT (s.take m.toNat)):=by
  have h:=MW (P:=P) (TB:=TB) (Γ:=Γ) (d:=d) (ty:=ty) (pos:=pos) (af:=af) (g:=g) (σ:=σ) (nx:=nx) (t:=t) (x:=x) (lo:=none) (hi:=some hi) (l:=none) (h:=some (k,m)) hx rfl (by simp [Up,hl]) (Int.le_refl _) h0 h1
  simpa [IF,IM] using h
theorem Qw {t e:TypeId} {b n:Nat} {x lo:Operand} {rows:List (List D)} {m:Int} {k:IntKind} [hsl:BS P t e n b] (hx:ev f x=some (.o (.d (.l rows)))) (hl:ev f lo=some (eI k m)) (hn:∀r∈rows,r.length=n) (h0:0≤m) (h1:m≤rows.length):AR P TB Γ ⟨d,.slice t x (some lo) none none,ty,pos,af,g⟩ f σ nx (.o (.d (.l (rows.drop m.toNat)))):=by
  have h:=Qy (P:=P) (TB:=TB) (Γ:=Γ) (d:=d) (ty:=ty) (pos:=pos) (af:=af) (g:=g) (σ:=σ) (nx:=nx) (t:=t) (x:=x) (lo:=some lo) (hi:=none) (l:=some (k,m)) (h:=none) hx (by simp [Up,hl]) rfl hn h0 h1 (Int.le_refl _)
  simpa [IF,IM] using h
theorem GJ {t e:TypeId} {b n:Nat} {x hi:Operand} {rows:List (List D)} {m:Int} {k:IntKind} [hsl:BS P t e n b] (hx:ev f x=some (.o (.d (.l rows)))) (hl:ev f hi=some (eI k m)) (hn:∀r∈rows,r.length=n) (h0:0≤m) (h1:m≤rows.length):AR P TB Γ ⟨d,.slice t x none (some hi) none,ty,pos,af,g⟩ f σ nx (.o (.d (.l (rows.take m.toNat)))):=by
  have h:=Qy (P:=P) (TB:=TB) (Γ:=Γ) (d:=d) (ty:=ty) (pos:=pos) (af:=af) (g:=g) (σ:=σ) (nx:=nx) (t:=t) (x:=x) (lo:=none) (hi:=some hi) (l:=none) (h:=some (k,m)) hx rfl (by simp [Up,hl]) hn (Int.le_refl _) h0 h1
  simpa [IF,IM] using h
end
end
end Go.Am
namespace Go.Am
open Go Go.Proofs
end Go.Am
namespace Go.Am
open Go Go.Proofs
set_option maxHeartbeats 1000000
attribute [local irreducible] AR BZ Lex Bm Aj Spec
variable {TB:Ba}
end Go.Am
