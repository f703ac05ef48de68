/-
  What the call made becomes data that nobody writes any more, inside the boxes that hold it too.
-/
import Derived.Test.YtkkihplpglchjaaGreatDoorPart5
import Derived.Test.YtkkihplpglchjaaGreatDoorPart6
import Derived.Test.YtkkihplpglchjaaGreatDoorPart11
import Derived.Test.YtkkihplpglchjaaGreatDoorPart9
set_option linter.constructorNameAsVariable false
set_option linter.unusedSimpArgs false
set_option linter.unusedVariables false
namespace Go.Am
open Go
set_option linter.unusedVariables false
set_option linter.unusedSimpArgs false
inductive FL (σ:Ab) (ids:List Nat):List C→List C→Prop
  | nil:FL σ ids [] []
  | cons {c c':C} {cs cs':List C}:FC σ ids c c'→FL σ ids cs cs'→FL σ ids (c::cs) (c'::cs')
theorem FL.len {σ:Ab} {ids:List Nat} {l l':List C} (h:FL σ ids l l'):l'.length=l.length:=by
  induction h with
  | nil=>rfl
  | cons _ _ ih=>simp [ih]
theorem FL.get {σ:Ab} {ids:List Nat} {l l':List C} (h:FL σ ids l l'):∀(j:Nat) c',l'[j]? = some c'→∃c,l[j]? = some c∧FC σ ids c c':=by
  induction h with
  | nil=>intro j c' h;simp at h
  | @cons c0 c0' cs cs' h1 _ ih=>
    intro j c' hj
    cases j with
    | zero=>simp at hj;subst hj;exact ⟨c0,rfl,h1⟩
    | succ j=>exact ih j c' (by simpa using hj)
def LU (σ:Ab) (ids:List Nat):Ab→Prop
  | []=>True
  | (id,.cells T k [r'])::S=>(∃r,look σ id=some (.cells T k [r])∧id∉ids∧FL σ ids r r')∧LU σ ids S
  | _=>False
theorem LU.get {σ:Ab} {ids:List Nat}:∀ {S:Ab},LU σ ids S→∀id o',look S id=some o'→∃T k r r',o'=.cells T k [r']∧look σ id=some (.cells T k [r])∧id∉ids∧FL σ ids r r'
  | [],_,id,o',h=>by cases h
  | (i, o)::S,hs,id,o',h=>by
    match o,hs with
    | .cells T k [r'],hs=>
      rw [Ar] at h
      by_cases hi:i=id
      · rw [if_pos hi] at h
        injection h with h
        subst h;subst hi
        obtain ⟨r,h1,h2,h3⟩:=hs.1
        exact ⟨T,k,r,r',rfl,h1,h2,h3⟩
      · rw [if_neg hi] at h
        exact LU.get hs.2 id o' h
section
variable {P:Program} {TB:Bc} {Γ:Ctx} {N:Nat} {σ:Ab}
theorem BJ.HU {V:View} {f:Env} {nx:Nat} {a:Act} (h:BJ TB Γ N V f σ nx a) (ids:List Nat) (L:List (Nat×E)) (S:Ab) (hE:C9 σ ids f L) (hS:LU σ ids S):BJ TB Γ N (IQ V σ ids) (look L) S nx a:=by
  have e:Ext V (IQ V σ ids):=JV
  have hi:=h.inv
  refine ⟨fun t x hx=>?_,fun t x hx=>?_,h.size,?_,h.nx,h.defers⟩
  · obtain ⟨y,h1,h2⟩:=hE.get t x hx
    exact h2.rel h.inv (h.env t y h1)
  · obtain ⟨y,h1,_⟩:=hE.get t x hx
    exact h.lt t y h1
  · refine ⟨hi.os,hi.tape,hi.output,hi.old,?_,?_,hi.ext.trans e,⟨?_,?_,?_,?_⟩,?_,fun x hx=>⟨.inl (hi.tabs x hx).1,(hi.tabs x hx).2⟩,hi.hid.same rfl (fun _ h=>.inl h) (fun b hb=>hb.elim .inl fun ⟨id,o,_,hl,hn,he⟩=>.inr ⟨id,o,hl,hn,he⟩) fun b ⟨id,o,hl,hn,hb⟩=>?_⟩
    · rintro b (hb|⟨id,o,_,hl,hn,hb⟩)
      · exact hi.iLt b hb
      · exact (hi.st.obj id o hl).blt hn hb
    · rintro b (hb|⟨id,o,_,hl,hn,hb⟩)
      · exact hi.iNew b hb
      · exact .inr (hi.live id o hl hn b hb)
    · intro id o hl
      obtain ⟨T,k,r,r',rfl,h1,h2,h3⟩:=hS.get id o hl
      rcases hi.st.obj id _ h1 with ⟨h4,h5⟩|⟨h0,cur,h4,h5,h6,h7,h8,h9⟩
      · cases h5
      · refine .inr ⟨h0,cur,h4,h5,h6,h7,fun x hx=>?_,fun i x j c' hix hj=>?_⟩
        · simp at hx;subst hx;rw [h3.len];exact h8 r (by simp)
        · have hi0:i=0:=by have:=(List.getElem?_eq_some_iff.1 hix).1;simp at this;omega
          subst hi0
          simp at hix
          subst hix
          obtain ⟨c,hc,hf⟩:=h3.get j c' hj
          obtain ⟨v,h10,h11⟩:=h9 0 r j c rfl hc
          exact ⟨v,h10,hf.rel hi h11⟩
    · intro id o hl
      obtain ⟨T,k,r,r',_,h1,_,_⟩:=hS.get id o hl
      exact hi.st.lt id _ h1
    · intro id o hl hn b hb' hb
      obtain ⟨T,k,r,r',rfl,h1,h2,_⟩:=hS.get id o hl
      rcases hb with hb|⟨id',o',hm,hl',hn',he⟩
      · exact hi.st.free id _ h1 hn b hb' hb
      · exact hi.st.inj id id' _ o' h1 hl' (fun e=>h2 (e ▸ hm)) hn hn' b hb' he
    · intro id id' o o' hl hl' hne hn hn' b hb hb'
      obtain ⟨T,k,r,r',rfl,h1,_,_⟩:=hS.get id o hl
      obtain ⟨T2,k2,r2,r2',rfl,h12,_,_⟩:=hS.get id' o' hl'
      exact hi.st.inj id id' _ _ h1 h12 hne hn hn' b hb hb'
    · intro id o hl hn b hb
      obtain ⟨T,k,r,r',rfl,h1,_,_⟩:=hS.get id o hl
      exact hi.live id _ h1 hn b hb
    · obtain ⟨T,k,r,r',rfl,h1,_,_⟩:=hS.get id o hl
      exact ⟨id,_,h1,hn,hb⟩
theorem Ai.HU {c:Code} {Q:Exit→Env→Ab→Nat→Prop} {f:Env} {nx:Nat} (ids:List Nat) (L:List (Nat×E)) (S:Ab) (hE:C9 σ ids f L) (hS:LU σ ids S) (h:Ai P TB Γ N c Q (look L) S nx):Ai P TB Γ N c Q f σ nx:=
  fun V a hr=>h (IQ V σ ids) a (hr.HU ids L S hE hS)
theorem VH {d:Option Tmp} {ty:TypeId} {pos:String} {af:Array Edge} {g:Option (Nat×Bool)} {f:Env} {nx:Nat} {t k e:TypeId} {x y:Operand} {id:Nat} {l:List (List UInt8×Int)} {s:List UInt8} [hm:Ge P t k e] [hk:CR P k] [hz:LQ P e (.int .i64 0)] (hx:ev f x=some (.o (.mp id))) (hy:ev f y=some (eT s)) (ho:look σ id=some (.mp (Fg l))) :
    AU P TB Γ ⟨d,.lookup t x y false,ty,pos,af,g⟩ f σ nx (eI .i64 ((BY l s).getD 0)):=
  Az fun V ρ hr hi=>by
    have e1:=hr.get (by simp [Op.operands]) hx
    have e2:ρ y=.string ⟨s.toArray⟩:=Ay.val (hr.get (by simp [Op.operands]) hy)
    generalize hv:ρ x=v at e1
    cases e1 with
    | mp hid=>
      obtain ⟨hn,ents,clock,h1,h2⟩:=hi.st.obj id _ ho
      obtain ⟨r,h3,h4⟩:=HT s l ents.toList 0 h2
      have hzz:=hz.out
      simp only [Option.bind_eq_some_iff] at hzz
      obtain ⟨i,hi1,hz1⟩:=hzz
      have hzv:(zeroValue e).run P V.w=.ok (.int .i64 0) V.w:=by simp [zeroValue,typeInfo,hi1,hz1,go_sem]
      have hfk:(Instr.findKey k (.string ⟨s.toArray⟩) ents.toList).run P V.w=.ok r V.w:=by simp [Instr.findKey,run_underlying hk.out,h3,go_sem]
      have hck:=Ht hk.out ents.isEmpty ⟨s.toArray⟩ V.w
      refine ⟨.int .i64 ((BY l s).getD 0),?_,.d (.v rfl)⟩
      cases r with
      | none=>
        have h5:BY l s=none:=by simpa using h4.symm
        simp [execOp,hv,e2,Instr.lookup,run_underlying hm.out,MapKept.run_getObj_map h1,hck,hfk,hzv,h5,go_sem]
      | some q=>
        obtain ⟨n,h5,h6⟩:∃n,BY l s=some n∧q.2=.int .i64 n:=by
          cases hf:BY l s with
          | none=>rw [hf] at h4;simp at h4
          | some n=>rw [hf] at h4;exact ⟨n,rfl,by simpa using h4⟩
        obtain ⟨q1,q2⟩:=q
        simp only at h6
        subst h6
        simp [execOp,hv,e2,Instr.lookup,run_underlying hm.out,MapKept.run_getObj_map h1,hck,hfk,h5,go_sem]
end
end Go.Am
namespace Go.Am
set_option linter.unusedVariables false
abbrev W:=List UInt8
structure AZ where
  rows:List W
  cols:List W
def PB (b:Bool):UInt8:=if b then 43 else 45
theorem Vv {a b:Bool} (h:PB a=PB b):a=b:=by cases a<;>cases b<;>first|rfl|(simp [PB] at h)
def marks (L:W→Bool) (cols:List W) (w:W):W:=cols.map fun c=>PB (L (w++c))
theorem Yv {L:W→Bool} {cols:List W} {u w:W}:marks L cols u=marks L cols w↔∀c∈cols,L (u++c)=L (w++c):=by
  unfold marks
  rw [List.map_inj_left]
  exact ⟨fun h c hc=>Vv (h c hc),fun h c hc=>by rw [h c hc]⟩
def AA (L:W→Bool) (t:AZ):List W:=t.rows.map (marks L t.cols)
def BV (ls:List UInt8) (rows:List W):List W:=rows.flatMap fun r=>ls.map fun l=>r++[l]
def AV (L:W→Bool) (ls:List UInt8) (t:AZ):Option W:=(BV ls t.rows).find? fun w=>!(AA L t).contains (marks L t.cols w)
def A3 (L:W→Bool) (ls:List UInt8):Nat→AZ→Option AZ
  | 0,_=>none
  | n+1,t=>match AV L ls t with
    | none=>some t
    | some w=>if t.rows.length=12 then none else A3 L ls n ⟨t.rows++[w],t.cols⟩
def AW (ls:List UInt8) (w:W):Prop:=∀c∈w,c∈ls
structure Su (L:W→Bool) (ls:List UInt8) (t:AZ):Prop where
  r0:t.rows[0]? = some []
  c0:t.cols[0]? = some []
  pre:∀(i:Nat) w,t.rows[i]? = some w→0 < i→w≠[]∧∃j,j < i∧t.rows[j]? = some w.dropLast
  onR:∀w∈t.rows,AW ls w
  onC:∀c∈t.cols,AW ls c
  nd:(AA L t).Nodup
  ndC:t.cols.Nodup
theorem FG {L:W→Bool} {ls:List UInt8} {t:AZ} {w:W} (h:AV L ls t=some w):(∃r∈t.rows,∃l∈ls,w=r++[l])∧marks L t.cols w∉AA L t:=by
  have h1:=List.find?_some h
  have h2:=List.mem_of_find?_eq_some h
  unfold BV at h2
  simp only [List.mem_flatMap,List.mem_map] at h2
  obtain ⟨r,hr,l,hl,rfl⟩:=h2
  exact ⟨⟨r,hr,l,hl,rfl⟩,by simpa using h1⟩
theorem KO {L:W→Bool} {ls:List UInt8} {t:AZ} (h:AV L ls t=none):∀r∈t.rows,∀l∈ls,marks L t.cols (r++[l])∈AA L t:=by
  intro r hr l hl
  have h1:=List.find?_eq_none.1 h (r++[l]) (by unfold BV;simp only [List.mem_flatMap,List.mem_map];exact ⟨r,hr,l,hl,rfl⟩)
  simpa using h1
theorem Su.push {L:W→Bool} {ls:List UInt8} {t:AZ} {w:W} (h:Su L ls t) (ho:AV L ls t=some w):Su L ls ⟨t.rows++[w],t.cols⟩:=by
  obtain ⟨⟨r,hr,l,hl,rfl⟩,hn⟩:=FG ho
  have h0:0 < t.rows.length:=(List.getElem?_eq_some_iff.1 h.r0).1
  refine ⟨by rw [List.getElem?_append_left h0];exact h.r0,h.c0,fun i w hi hp=>?_,fun w hw=>?_,h.onC,?_,h.ndC⟩
  · by_cases hil:i < t.rows.length
    · rw [List.getElem?_append_left hil] at hi
      obtain ⟨h1,j,h2,h3⟩:=h.pre i w hi hp
      exact ⟨h1,j,h2,by rw [List.getElem?_append_left (by omega)];exact h3⟩
    · rw [List.getElem?_append_right (by omega)] at hi
      have hi0:i=t.rows.length:=by
        have:=(List.getElem?_eq_some_iff.1 hi).1
        simp at this;omega
      subst hi0
      simp at hi
      subst hi
      obtain ⟨j,hj,he⟩:=List.getElem_of_mem hr
      refine ⟨by simp,j,hj,?_⟩
      rw [List.getElem?_append_left hj,List.dropLast_concat,List.getElem?_eq_getElem hj,he]
  · rcases List.mem_append.1 hw with hw|hw
    · exact h.onR w hw
    · simp at hw
      subst hw
      intro c hc
      rcases List.mem_append.1 hc with hc|hc
      · exact h.onR r hr c hc
      · simp at hc;subst hc;exact hl
  · unfold AA
    rw [List.map_append,List.nodup_append]
    refine ⟨h.nd,by simp,fun a ha b hb=>?_⟩
    simp at hb
    subst hb
    intro e
    exact hn (e ▸ ha)
structure Fin (L:W→Bool) (ls:List UInt8) (n:Nat) where
  st:W→Nat
  lt:∀w,AW ls w→st w < n
  same:∀u w v,AW ls u→AW ls w→AW ls v→st u=st w→L (u++v)=L (w++v)
theorem Oz:∀(n:Nat) (l:List Nat),l.Nodup→(∀x∈l,x < n)→l.length≤n
  | 0,l,_,h=>by cases l with
    | nil=>simp
    | cons x l=>have:=h x (by simp);omega
  | n + 1,l,hd,h=>by
    have h1:=Oz n (l.erase n) (hd.erase n) fun x hx=>by
      have h2:=h x (List.mem_of_mem_erase hx)
      have h3:x≠n:=fun e=>by subst e;exact (List.Nodup.not_mem_erase hd) hx
      omega
    by_cases hn:n∈l
    · rw [List.length_erase_of_mem hn] at h1;omega
    · rw [List.erase_of_not_mem hn] at h1;omega
def Em (L:W→Bool) (t:AZ) (w:W):Nat:=(AA L t).idxOf (marks L t.cols w)
def runM (L:W→Bool) (t:AZ):Nat→W→Nat
  | i,[]=>i
  | i,c::w=>runM L t (Em L t ((t.rows.getD i [])++[c])) w
theorem Uq (L:W→Bool) (t:AZ):∀(u w:W) (i:Nat),runM L t i (u++w)=runM L t (runM L t i u) w
  | [],_,_=>rfl
  | c::u,w,i=>Uq L t u w _
structure Dz (L:W→Bool) (ls:List UInt8) (t:AZ):Prop extends Su L ls t where
  cl:∀r∈t.rows,∀l∈ls,marks L t.cols (r++[l])∈AA L t
theorem Dz.idx {L:W→Bool} {ls:List UInt8} {t:AZ} (h:Dz L ls t) {i:Nat} {r:W} {l:UInt8} (hi:t.rows[i]? = some r) (hl:l∈ls):∃r',t.rows[Em L t (r++[l])]? = some r'∧marks L t.cols r'=marks L t.cols (r++[l]):=by
  have h1:=h.cl r (List.mem_of_getElem? hi) l hl
  have h2:Em L t (r++[l]) < (AA L t).length:=List.idxOf_lt_length_iff.2 h1
  have h3:(AA L t)[Em L t (r++[l])]'h2=marks L t.cols (r++[l]):=List.getElem_idxOf h2
  have h4:Em L t (r++[l]) < t.rows.length:=by simpa [AA] using h2
  refine ⟨t.rows[Em L t (r++[l])],List.getElem?_eq_getElem h4,?_⟩
  rw [←h3]
  simp [AA]
theorem Dz.run {L:W→Bool} {ls:List UInt8} {t:AZ} (h:Dz L ls t):∀(w:W) (i:Nat),AW ls w→i < t.rows.length→runM L t i w < t.rows.length
  | [],_,_,hi=>hi
  | c::w,i,hw,hi=>by
    have h1:t.rows[i]? = some t.rows[i]:=List.getElem?_eq_getElem hi
    obtain ⟨_,h2,_⟩:=h.idx h1 (hw c (by simp))
    have h3:t.rows.getD i []=t.rows[i]:=by simp [h1]
    show runM L t (Em L t (t.rows.getD i []++[c])) w < _
    rw [h3]
    exact h.run w _ (fun x hx=>hw x (by simp [hx])) (List.getElem?_eq_some_iff.1 h2).1
def splitAt (L:W→Bool) (t:AZ) (b:Bool):Nat→W→Option W
  | _,[]=>none
  | i,c::v=>if L (t.rows.getD (Em L t ((t.rows.getD i [])++[c])) []++v)≠b then some v else splitAt L t b (Em L t ((t.rows.getD i [])++[c])) v
end Go.Am
namespace Go.Am
open Go Go.Proofs
set_option maxHeartbeats 1000000
attribute [local irreducible] AU B3 Lex Br Ai Spec
variable {TB:Bc}
abbrev OX (t:AZ):List D:=[AQ t.rows,AQ t.cols]
abbrev BX (t:AZ):E:=.a [.d (AQ t.rows),.d (AQ t.cols)]
abbrev JI (al:Int) (c:C):E:=.a [.d (iD al),c]
mutual
theorem Cb:∀(c:C),c.A1=true→∀r,c.AP r=c
  | .d x,_,r=>rfl
  | .fn g cap,h,r=>by
    simp only [C.A1] at h
    simp only [C.AP,KY cap h r]
  | .arr ..,h,_=>by cases h
  | .ptr ..,h,_=>by cases h
  | .mp ..,h,_=>by cases h
  | .mv g l,h,r=>by
    simp only [C.A1] at h
    simp only [C.AP,KY l h r]
theorem KY:∀(l:List C),C.Bw l=true→∀r,C.BG r l=l
  | [],_,r=>rfl
  | c::l,h,r=>by
    simp only [C.Bw,Bool.and_eq_true] at h
    simp only [C.BG,Cb c h.1 r,KY l h.2 r]
end
structure ET (P:Program) (TB:Bc) (c:C) (L:W→Bool) (ok:W→Prop):Prop where
  A1:c.A1=true
  ask:∀ {Γ:Ctx} {d:Option Tmp} {ty:TypeId} {pos:String} {af:Array Edge} {g:Option (Nat×Bool)} {f:Env} {σ:Ab} {nx:Nat} {x a:Operand} {tys:Array TypeId} {w:W},
    ev f x=some (.o c)→ev f a=some (eT w)→ok w→AU P TB Γ ⟨d,.call ⟨.value x,#[a],tys⟩,ty,pos,af,g⟩ f σ nx (eB (L w))
theorem ET.of {P:Program} {g:FuncId} {cap:List C} {L:W→Bool} {ok:W→Prop} (hc:C.Bw cap=true) (h:∀w,ok w→Pure P TB g ([eT w]++cap.map .o) (eB (L w))):ET P TB (.fn g cap) L ok:=
  ⟨hc,fun hx ha hw=>AT (es:=[eT _]) hx (by simp [GI,ha]) (by simp [E.A1,C.A1,hc]) (h _ hw) rfl⟩
def Ov (L:W→Bool) (cols:List W) (w:W) (k:Nat) (i:Nat):UInt8:=if i < k then PB (L (w++cols.getD i [])) else 0
theorem Pz (L:W→Bool) (cols:List W) (w:W):(Bl cols.length fun i=>Ej (Ov L cols w cols.length i))=(marks L cols w).map Ej:=by
  apply List.ext_getElem?
  intro i
  by_cases h:i < cols.length
  · rw [CM h]
    simp [marks,Ov,h]
  · rw [List.getElem?_eq_none (by simp [Bl];omega),List.getElem?_eq_none (by simp [marks];omega)]
theorem ZA:Ej 0=[C.d (D.v (Value.int IntKind.u8 0))]:=rfl
theorem Yx (L:W→Bool) (cols:List W) (w:W) (n:Nat):(Bl n fun i=>Ej (Ov L cols w 0 i))=List.replicate n (Ej 0):=by
  apply List.ext_getElem?
  intro i
  by_cases h:i < n
  · rw [CM h];simp [Ov,h]
  · rw [List.getElem?_eq_none (by simp [Bl];omega),List.getElem?_eq_none (by simp;omega)]
theorem Tz {L:W→Bool} {cols:List W} {w x:W} {k:Nat} (hx:cols[k]? = some x):(Bl cols.length fun i=>Ej (if i=k then PB (L (w++x)) else Ov L cols w k i))=Bl cols.length fun i=>Ej (Ov L cols w (k+1) i):=by
  refine Ch fun i _=>?_
  congr 1
  unfold Ov
  by_cases h:i=k
  · subst h
    rw [if_pos rfl,if_pos (by omega)]
    simp [hx]
  · rw [if_neg h]
    by_cases h2:i < k
    · rw [if_pos h2,if_pos (by omega)]
    · rw [if_neg h2,if_neg (by omega)]
theorem Ia {c:C} {L:W→Bool} {ok:W→Prop} (hc:ET Tryz.prog TB c L ok) (al:Int) (t:AZ) (w:W) (hl:t.cols.length≤1048576) (hk:∀x∈t.cols,ok (w++x)) (hb:∀x∈t.cols,w.length+x.length≤1048576) :
    Pure Tryz.prog TB 81 [JI al c,BX t,eT w] (eT (marks L t.cols w)):=by
  have hr:=Cb c hc.A1
  refine eN Tryz.func81 rfl (by kernel_rfl) rfl ?_;intro Γ hΓ
  (repeat first|refine aU rfl ?_)
  (refine pW rfl ?_ rfl (by rfl);refine Es rfl rfl ?_)
  (refine Ag rfl ?_;refine CU (fun _ _=>DD rfl rfl rfl) rfl ?_)
  (repeat first|refine sN rfl ?_ |refine tM rfl ?_ |refine aU rfl ?_ |refine Aa ?_)
  (refine pW rfl ?_ rfl (by rfl);refine KG rfl rfl (by rfl) (by rfl) (Nat.le_of_ble_eq_true rfl) (by omega) (by omega) (by omega) ?_)
  (repeat first|refine sN rfl ?_ |refine tM rfl ?_ |refine aU rfl ?_ |refine Aa ?_)
  refine aB ?_
  refine Ai.B0 (α:={k:Nat // k≤t.cols.length}) (fun ⟨k,hkl⟩=>[(2,eT w),(3,.o (.ptr 0 2 0 0)),(7,.o (.arr 1 1 0 t.cols.length)),(15,.o (.d (AQ t.cols))),(16,eI .i64 t.cols.length),(17,eI .i64 k)]) (fun ⟨k,hkl⟩=>[(1,.cells 5 1 (Bl t.cols.length fun i=>Ej (Ov L t.cols w k i))),(0,.cells 71 2 [[.d (iD al),c]])]) 2 (fun ⟨k,hkl⟩=>t.cols.length - k) (⟨0,by omega⟩) [0,1] (IE hΓ rfl rfl) (by (simp[cX,zC,hΓ,KZ,hr,Yx,eC,Ir,ZA])) ?_;rintro ⟨k,hkl⟩;(try dsimp only)
  (repeat first|refine s2 rfl fun _ _hb=>?_ |refine aU rfl ?_ |refine Aa ?_)
  (refine aC rfl ?_ ?_<;>rintro ⟨⟩)
  · have hlt:k < t.cols.length:=by (simp only[oZ] at *;omega)
    obtain ⟨x,hx⟩:=get_some (l:=t.cols) (k:=k) hlt
    have hx':=get_map (g:=BI) hx
    have hxm:=List.mem_of_getElem? hx
    have hxb:=hb x hxm
    have hok:=hk x hxm
    have hg:=HV (H:=Ov L t.cols w k) (q:=k) (n:=t.cols.length) hlt
    have hs1:(Bl t.cols.length fun i=>Ej (Ov L t.cols w k i)).set (0+((k:Nat):Int).toNat) (Ae (Ej (Ov L t.cols w k k)) 0 (eC (eI .u8 45)))=Bl t.cols.length fun i=>Ej (if i=k then 45 else Ov L t.cols w k i):=J8 (c:=45)
    have hg2:=HV (H:=fun i=>if i=k then 45 else Ov L t.cols w k i) (q:=k) (n:=t.cols.length) hlt
    rw [←hs1] at hg2
    have hs2:(Bl t.cols.length fun i=>Ej (if i=k then 45 else Ov L t.cols w k i)).set (0+((k:Nat):Int).toNat) (Ae (Ej (if k=k then 45 else Ov L t.cols w k k)) 0 (eC (eI .u8 43)))=Bl t.cols.length fun i=>Ej (if i=k then 43 else Ov L t.cols w k i):=by
      refine (J8 (H:=fun i=>if i=k then 45 else Ov L t.cols w k i) (c:=43)).trans ?_
      refine Ch fun i _=>?_
      by_cases h:i=k<;>simp [h]
    have hst:=Tz (L:=L) (w:=w) hx
    refine aK ?_
    refine aS (aB ?_)
    (repeat first|((first|refine sM rfl ?_ ?_|refine s4 rfl ‹_› rfl ?_ ?_);first|exact tI|omega)|(refine Ag rfl ?_;refine gA rfl ?_;first| (refine gB (fun _ _=>hc.ask rfl rfl hok) ?_;intro _ _hb)) |refine aU rfl ?_ |refine Aa ?_)
    (refine aC rfl ?_ ?_<;>rintro ⟨⟩)
    · (repeat first|(refine sM rfl ?_ ?_;first|exact tI|omega) |refine t4 rfl ‹_› rfl ?_ |refine aU rfl ?_ |refine Aa ?_)
      refine ⟨⟨k+1,by omega⟩,by dsimp only;(omega),[0,1],?_⟩
      rw [hs1,hs2]
      rw [_hb] at hst
      have e43:PB true=43:=rfl
      have e45:PB false=45:=rfl
      simp only [e43,e45] at hst
      simp[cX,zC,hΓ,KZ,hr,hst]
    · refine aK ?_
      (repeat first|(refine sM rfl ?_ ?_;first|exact tI|omega) |refine aU rfl ?_ |refine Aa ?_)
      refine ⟨⟨k+1,by omega⟩,by dsimp only;(omega),[0,1],?_⟩
      rw [hs1]
      rw [_hb] at hst
      have e43:PB true=43:=rfl
      have e45:PB false=45:=rfl
      simp only [e43,e45] at hst
      simp[cX,zC,hΓ,KZ,hr,hst]
  · obtain rfl:k=t.cols.length:=by (simp only[oZ] at *;omega)
    rw [Pz]
    refine aE ?_
    (repeat first|refine tM rfl ?_|(refine Ag rfl ?_;refine gA rfl ?_;first| refine gQ (QO (marks L t.cols w) rfl rfl (by simp [marks]) (by rw [List.drop_zero,List.take_of_length_le (by simp [marks])])) (by rfl) ?_) |refine aU rfl ?_ |refine Aa ?_)
    refine aR ⟨_,rfl,rfl⟩
def Bb (L:W→Bool) (t:AZ):Nat→List (W×Int)
  | 0=>[]
  | k+1=>if (BY (Bb L t k) (marks L t.cols (t.rows.getD k []))).isSome then Bb L t k else Bb L t k++[(marks L t.cols (t.rows.getD k []),(k:Int))]
structure P5 (ok:W→Prop) (t:AZ):Prop where
  ok:∀w∈t.rows,∀x∈t.cols,ok (w++x)
  rb:∀w∈t.rows,w.length≤65536
  cb:∀x∈t.cols,x.length≤65536
  rl:t.rows.length≤4096
  cl:t.cols.length≤4096
theorem ES {c:C} {L:W→Bool} {ok:W→Prop} (hc:ET Tryz.prog TB c L ok) (al:Int) (t:AZ) (ht:P5 ok t) :
    Spec Tryz.prog TB 110 [] 0 [JI al c,BX t] (fun x σ nx=>x=.o (.mp 0)∧nx=1∧σ=[(0,.mp (Fg (Bb L t t.rows.length)))]):=by
  have hr:=Cb c hc.A1
  have hrl:=ht.rl
  refine eN Tryz.func110 rfl (by kernel_rfl) rfl ?_;intro Γ hΓ
  (repeat first|refine aU rfl ?_)
  (refine pW rfl ?_ rfl (by rfl);refine Es rfl rfl ?_)
  (refine Ag rfl ?_;refine CU (fun _ _=>DD rfl rfl rfl) rfl ?_)
  (repeat first|refine tM rfl ?_ |refine aU rfl ?_ |refine Aa ?_)
  (refine pW rfl ?_ rfl (by rfl);refine Mt ?_)
  (repeat first|refine sN rfl ?_ |refine tM rfl ?_ |refine aU rfl ?_ |refine Aa ?_)
  refine aB ?_
  refine Ai.B0 (α:={k:Nat // k≤t.rows.length}) (fun ⟨k,hkl⟩=>[(2,.o (.ptr 0 2 0 0)),(3,.o (.ip (OX t))),(5,.o (.mp 1)),(13,.o (.d (AQ t.rows))),(14,eI .i64 t.rows.length),(15,eI .i64 k)]) (fun ⟨k,hkl⟩=>[(1,.mp (Fg (Bb L t k))),(0,.cells 71 2 [[.d (iD al),c]])]) 2 (fun ⟨k,hkl⟩=>t.rows.length - k) (⟨0,by omega⟩) [0,1] (IE hΓ rfl rfl) (by (simp[cX,zC,hΓ,hr,eC,Bb,Fg])) ?_;rintro ⟨k,hkl⟩;(try dsimp only)
  (repeat first|refine s2 rfl fun _ _hb=>?_ |refine aU rfl ?_ |refine Aa ?_)
  (refine aC rfl ?_ ?_<;>rintro ⟨⟩)
  · have hlt:k < t.rows.length:=by (simp only[oZ] at *;omega)
    obtain ⟨x,hx⟩:=get_some (l:=t.rows) (k:=k) hlt
    have hx':=get_map (g:=BI) hx
    have hxm:=List.mem_of_getElem? hx
    have hxb:=ht.rb x hxm
    have hm:=Ia hc al t x (by have:=ht.cl;omega) (ht.ok x hxm) (fun y hy=>by have:=ht.cb y hy;omega)
    have hgd:t.rows.getD k []=x:=by simp [hx]
    have hstep:Bb L t (k+1)=if (BY (Bb L t k) (marks L t.cols x)).isSome then Bb L t k else Bb L t k++[(marks L t.cols x,(k:Int))]:=by
      rw [Bb,hgd]
    refine aK ?_
    refine aS (aB ?_)
    (repeat first|refine tM rfl ?_ |(refine s4 rfl ‹_› rfl ?_ ?_;omega) |refine s2 rfl fun _ _hb=>?_|(refine Ag rfl ?_;refine gA rfl ?_;first| refine gS (fun _ _=>AT rfl rfl (by simp [E.A1,C.Bw,C.A1,hc.A1]) hm rfl) ?_|refine gQ (T9 rfl rfl rfl) (by rfl) ?_) |refine aU rfl ?_ |refine Aa ?_)
    (refine aC rfl ?_ ?_<;>rintro ⟨⟩)
    · have hn:BY (Bb L t k) (marks L t.cols x)=none:=by simpa using _hb
      rw [hn] at hstep
      (repeat first|refine tM rfl ?_ |refine aU rfl ?_)
      (refine Ag rfl ?_;refine FW ?_ rfl (by rfl);refine Yy rfl rfl rfl rfl hn ?_)
      (repeat first|(refine sM rfl ?_ ?_;first|exact tI|omega) |refine aU rfl ?_ |refine Aa ?_)
      refine ⟨⟨k+1,by omega⟩,by dsimp only;(omega),[0,1],?_⟩
      simp[cX,zC,hΓ,hr,hstep]
    · have hn:(BY (Bb L t k) (marks L t.cols x)).isSome=true:=by simpa using _hb
      rw [if_pos hn] at hstep
      refine aK ?_
      (repeat first|(refine sM rfl ?_ ?_;first|exact tI|omega) |refine aU rfl ?_ |refine Aa ?_)
      refine ⟨⟨k+1,by omega⟩,by dsimp only;(omega),[0,1],?_⟩
      simp[cX,zC,hΓ,hr,hstep]
  · obtain rfl:k=t.rows.length:=by (simp only[oZ] at *;omega)
    refine aE ?_
    (repeat first|refine tM rfl ?_ |refine aU rfl ?_ |refine Aa ?_)
    refine Ai.names [1] [(4,.o (.mp 0))] [(0,.mp (Fg (Bb L t t.rows.length)))] (by intro i hi;rw [hΓ] at hi;omega) (by simp) (by simp[cX,zC,hΓ]) (by simp[cX,zC,hΓ]) ?_
    refine aR ⟨_,rfl,rfl,rfl,rfl⟩
theorem Rr (l:List (W×Int)) (p:W×Int) (s:W):BY (l++[p]) s=(BY l s).or (if p.1=s then some p.2 else none):=by
  unfold BY
  rw [List.find?_append]
  cases h:l.find? (fun p=>decide (p.1=s)) with
  | some q=>simp
  | none=>by_cases hp:p.1=s<;>simp [hp]
theorem HC {L:W→Bool} {t:AZ} {k:Nat} (h:k < t.rows.length):(AA L t)[k]? = some (marks L t.cols (t.rows.getD k [])):=by
  simp [AA,h]
theorem I7 (L:W→Bool) (t:AZ):∀k,k≤t.rows.length→∀s,BY (Bb L t k) s=if s∈(AA L t).take k then some (((AA L t).idxOf s:Nat):Int) else none
  | 0,_,s=>by simp [Bb,BY]
  | k + 1, hk, s=>by
    have ih:=I7 L t k (by omega)
    have hx:=HC (L:=L) (t:=t) (k:=k) (by omega)
    generalize marks L t.cols (t.rows.getD k [])=x at *
    have hst:Bb L t (k+1)=if (BY (Bb L t k) x).isSome then Bb L t k else Bb L t k++[(x,(k:Int))]:=by
      have hx2:=HC (L:=L) (t:=t) (k:=k) (by omega)
      rw [hx] at hx2
      injection hx2 with hx2
      rw [Bb,←hx2]
    have htk:∀s,s∈(AA L t).take (k+1)↔s∈(AA L t).take k∨s=x:=fun s=>by
      rw [List.take_add_one,hx];simp
    rw [hst]
    by_cases hm:x∈(AA L t).take k
    · rw [if_pos (by rw [ih x,if_pos hm];rfl),ih s]
      by_cases hs:s∈(AA L t).take k
      · rw [if_pos hs,if_pos ((htk s).2 (.inl hs))]
      · rw [if_neg hs,if_neg]
        intro h
        rcases (htk s).1 h with h|h
        · exact hs h
        · subst h;exact hs hm
    · rw [if_neg (by rw [ih x,if_neg hm];simp),Rr,ih s]
      by_cases hs:s∈(AA L t).take k
      · rw [if_pos hs,if_pos ((htk s).2 (.inl hs))];rfl
      · rw [if_neg hs]
        by_cases he:x=s
        · subst he
          rw [if_pos ((htk x).2 (.inr rfl))]
          have hix:(AA L t).idxOf x=k:=by
            have hl:k < (AA L t).length:=(List.getElem?_eq_some_iff.1 hx).1
            have e:AA L t=(AA L t).take k++x::(AA L t).drop (k+1):=by
              rw [←CJ hx,List.take_append_drop]
            rw [e,List.idxOf_append,if_neg hm,List.idxOf_cons_self]
            simp;omega
          simp [hix]
        · have hns:s∉(AA L t).take (k+1):=fun h=>by
            rcases (htk s).1 h with h|h
            · exact hs h
            · exact he h.symm
          rw [if_neg hns]
          simp [he]
theorem OA {L:W→Bool} {t:AZ} {s:W}:BY (Bb L t t.rows.length) s=if s∈AA L t then some (((AA L t).idxOf s:Nat):Int) else none:=by
  have h:=I7 L t t.rows.length (Nat.le_refl _) s
  have e:(AA L t).take t.rows.length=AA L t:=List.take_of_length_le (by simp [AA])
  rwa [e] at h
theorem QG {L:W→Bool} {ls:List UInt8} {t:AZ} {k j:Nat} {r:W} {l:UInt8} (hr:t.rows[k]? = some r) (hl:ls[j]? = some l) (h1:∀w∈BV ls (t.rows.take k),marks L t.cols w∈AA L t) (h2:∀x∈ls.take j,marks L t.cols (r++[x])∈AA L t)
    (h3:marks L t.cols (r++[l])∉AA L t):AV L ls t=some (r++[l]):=by
  have e1:t.rows=t.rows.take k++r::t.rows.drop (k+1):=by
    rw [←CJ hr,List.take_append_drop]
  have e2:ls=ls.take j++l::ls.drop (j+1):=by
    rw [←CJ hl,List.take_append_drop]
  have e3:BV ls t.rows=BV ls (t.rows.take k)++((ls.take j).map (fun x=>r++[x])++(r++[l])::((ls.drop (j+1)).map (fun x=>r++[x])++BV ls (t.rows.drop (k+1)))):=by
    have h4:BV ls t.rows=BV ls (t.rows.take k++r::t.rows.drop (k+1)):=congrArg _ e1
    rw [h4]
    unfold BV
    rw [List.flatMap_append,List.flatMap_cons]
    have h5:ls.map (fun x=>r++[x])=(ls.take j++l::ls.drop (j+1)).map (fun x=>r++[x]):=congrArg _ e2
    rw [h5]
    simp
  unfold AV
  rw [e3,List.find?_append,List.find?_append]
  have n1:(BV ls (t.rows.take k)).find? (fun w=>!(AA L t).contains (marks L t.cols w))=none:=List.find?_eq_none.2 fun w hw=>by simpa using h1 w hw
  have n2:((ls.take j).map (fun x=>r++[x])).find? (fun w=>!(AA L t).contains (marks L t.cols w))=none:=List.find?_eq_none.2 fun w hw=>by
    obtain ⟨x,hx,rfl⟩:=List.mem_map.1 hw
    simpa using h2 x hx
  rw [n1,n2]
  simp [h3]
def lb (l:Int):UInt8:=UInt8.ofNat (97+l.toNat)
def A6 (al:Int):List UInt8:=(Af al).map lb
def Rp (o:Option W):E:=match o with
  | some w=>.t [(false,[.d (tD w)]),(false,[.d (bD true)])]
  | none=>.t [(false,[.d (tD [])]),(false,[.d (bD false)])]
theorem Wm {l:Int} (h0:0≤l):UInt8.ofNat (97+l).toNat=lb l:=by
  unfold lb
  congr 1
  omega
theorem Oc {L:W→Bool} {t:AZ} {s:W}:(BY (Bb L t t.rows.length) s).isSome=true↔s∈AA L t:=by
  rw [OA]
  by_cases h:s∈AA L t<;>simp [h]
theorem KI {ls:List UInt8} {t:AZ} {k:Nat} {r:W} (h:t.rows[k]? = some r):BV ls (t.rows.take (k+1))=BV ls (t.rows.take k)++ls.map fun l=>r++[l]:=by
  unfold BV
  rw [List.take_add_one,h]
  simp
theorem Fy {c:C} {L:W→Bool} {ok:W→Prop} (hc:ET Tryz.prog TB c L ok) (al:Int) (t:AZ) (ht:P5 ok t) (hn:∀w∈t.rows,∀l∈A6 al,∀x∈t.cols,ok (w++[l]++x)) :
    Pure Tryz.prog TB 63 [JI al c,BX t] (Rp (AV L (A6 al) t)):=by
  have hr:=Cb c hc.A1
  have hrl:=ht.rl
  have hla:(Af al).length≤6:=AM al 6
  refine eN Tryz.func63 rfl (by kernel_rfl) rfl ?_;intro Γ hΓ
  (repeat first|refine aU rfl ?_)
  (refine pW rfl ?_ rfl (by rfl);refine Es rfl rfl ?_)
  (refine Ag rfl ?_;refine CU (fun _ _=>DD rfl rfl rfl) rfl ?_)
  (repeat first|refine tM rfl ?_ |refine aU rfl ?_ |refine Aa ?_)
  (refine pW rfl ?_ rfl (by rfl);refine Ac [] rfl rfl (ES hc al t ht) ⟨rfl,by simp,by simp⟩ (by simp [Dy,E.AP,C.BG,C.AP,hr,eC]) trivial ?_;rintro x0 σ1 nx1 ⟨rfl,rfl,rfl⟩ _)
  (repeat first|refine sN rfl ?_ |refine tM rfl ?_ |refine aU rfl ?_ |refine Aa ?_)
  refine aB ?_
  refine Ai.B0 (α:={k:Nat // k≤t.rows.length∧∀w∈BV (A6 al) (t.rows.take k),marks L t.cols w∈AA L t}) (fun ⟨k,hkl,hkd⟩=>[(2,.o (.ptr 0 2 0 0)),(3,.o (.ip (OX t))),(6,.o (.mp 1)),(18,.o (.d (AQ t.rows))),(19,eI .i64 t.rows.length),(20,eI .i64 k)]) (fun ⟨k,hkl,hkd⟩=>[(1,.mp (Fg (Bb L t t.rows.length))),(0,.cells 71 2 [[.d (iD al),c]])]) 2 (fun ⟨k,hkl,hkd⟩=>t.rows.length - k) (⟨0,by omega,by simp [BV]⟩) [0,1] (IE hΓ rfl rfl) (by (simp[cX,zC,hΓ,hr,eC,Ab.AP,BU,Gc])) ?_;rintro ⟨k,hkl,hkd⟩;(try dsimp only)
  (repeat first|refine s2 rfl fun _ _hb=>?_ |refine aU rfl ?_ |refine Aa ?_)
  (refine aC rfl ?_ ?_<;>rintro ⟨⟩)
  · have hlt:k < t.rows.length:=by (simp only[oZ] at *;omega)
    obtain ⟨r,hx⟩:=get_some (l:=t.rows) (k:=k) hlt
    have hx':=get_map (g:=BI) hx
    have hxm:=List.mem_of_getElem? hx
    have hxb:=ht.rb r hxm
    refine aK ?_
    refine aS (aB ?_)
    (repeat first|refine sN rfl ?_ |refine tM rfl ?_ |(refine s4 rfl ‹_› rfl ?_ ?_;omega) |refine sP rfl (Dp al) rfl ?_ |refine aU rfl ?_ |refine Aa ?_)
    refine aB ?_
    refine Ai.B0 (α:={j:Nat // j≤(Af al).length∧∀x∈(A6 al).take j,marks L t.cols (r++[x])∈AA L t}) (fun ⟨j,hjl,hjd⟩=>[(2,.o (.ptr 0 2 0 0)),(3,.o (.ip (OX t))),(6,.o (.mp 1)),(18,.o (.d (AQ t.rows))),(19,eI .i64 t.rows.length),(20,eI .i64 k),(8,eT r),(26,A7 (Af al)),(27,eI .i64 (Af al).length),(28,eI .i64 j)]) (fun ⟨j,hjl,hjd⟩=>[(1,.mp (Fg (Bb L t t.rows.length))),(0,.cells 71 2 [[.d (iD al),c]])]) 2 (fun ⟨j,hjl,hjd⟩=>(Af al).length - j) (⟨0,by omega,by simp⟩) [0,1] (IE hΓ rfl rfl) (by (simp[cX,zC,hΓ,hr])) ?_;rintro ⟨j,hjl,hjd⟩;(try dsimp only)
    (repeat first|refine s2 rfl fun _ _hb=>?_ |refine aU rfl ?_ |refine Aa ?_)
    (refine aC rfl ?_ ?_<;>rintro ⟨⟩)
    · have hjlt:j < (Af al).length:=by (simp only[oZ] at *;omega)
      obtain ⟨l,hl⟩:=get_some (l:=Af al) (k:=j) hjlt
      have hl':=get_map (g:=Db) hl
      have hlb:=Bj (List.mem_of_getElem? hl)
      have hll:(A6 al)[j]? = some (lb l):=by simp [A6,hl]
      have hlm:=List.mem_of_getElem? hll
      have hm:=Ia hc al t (r++[lb l]) (by have:=ht.cl;omega) (fun x hx=>hn r hxm _ hlm x hx) (fun y hy=>by have:=ht.cb y hy;simp;omega)
      refine aK ?_
      refine aS (aB ?_)
      (repeat first|(refine sM rfl ?_ ?_;first|exact tI|omega|simp only[oZ] at *;omega) |(refine s4 rfl ‹_› rfl ?_ ?_;omega) |refine sP rfl (EP l hlb.1 (by omega)) rfl ?_|(refine Ag rfl ?_;refine gA rfl ?_;first| refine gS (fun _ _=>Uc rfl (by omega) (by omega)) ?_) |refine aU rfl ?_ |refine Aa ?_)
      rw [Wm hlb.1]
      (repeat first|refine tM rfl ?_ |refine s2 rfl fun _ _hb=>?_|(refine Ag rfl ?_;refine gA rfl ?_;first| refine gS (fun _ _=>AT rfl rfl (by simp [E.A1,C.Bw,C.A1,hc.A1]) hm rfl) ?_|refine gQ (T9 rfl rfl rfl) (by rfl) ?_) |refine aU rfl ?_ |refine Aa ?_)
      (refine aC rfl ?_ ?_<;>rintro ⟨⟩)
      · have hno:marks L t.cols (r++[lb l])∉AA L t:=fun h=>by
          rw [Oc.2 h] at _hb
          cases _hb
        (repeat first|refine tM rfl ?_ |refine aU rfl ?_ |refine Aa ?_)
        refine aR ⟨_,rfl,?_⟩
        rw [QG hx hll hkd hjd hno]
        rfl
      · have hyes:marks L t.cols (r++[lb l])∈AA L t:=Oc.1 (by simpa using _hb)
        have hjd2:∀x∈(A6 al).take (j+1),marks L t.cols (r++[x])∈AA L t:=fun x hx=>by
          rw [List.take_add_one,hll] at hx
          rcases List.mem_append.1 hx with hx|hx
          · exact hjd x hx
          · simp at hx;subst hx;exact hyes
        refine aK ?_
        (repeat first|(refine sM rfl ?_ ?_;first|exact tI|omega) |refine aU rfl ?_ |refine Aa ?_)
        refine ⟨⟨j+1,by omega,hjd2⟩,by dsimp only;(omega),[0,1],?_⟩
        simp[cX,zC,hΓ,hr]
    · obtain rfl:j=(Af al).length:=by (simp only[oZ] at *;omega)
      have hkd2:∀w∈BV (A6 al) (t.rows.take (k+1)),marks L t.cols w∈AA L t:=fun w hw=>by
        rw [KI hx] at hw
        rcases List.mem_append.1 hw with hw|hw
        · exact hkd w hw
        · obtain ⟨x,hx2,rfl⟩:=List.mem_map.1 hw
          exact hjd x (by rw [List.take_of_length_le (by simp [A6])];exact hx2)
      refine aE ?_
      (repeat first|(refine sM rfl ?_ ?_;first|exact tI|omega) |refine aU rfl ?_ |refine Aa ?_)
      refine ⟨⟨k+1,by omega,hkd2⟩,by dsimp only;(omega),[0,1],?_⟩
      simp[cX,zC,hΓ,hr]
  · obtain rfl:k=t.rows.length:=by (simp only[oZ] at *;omega)
    have hno:AV L (A6 al) t=none:=List.find?_eq_none.2 fun w hw=>by
      have:=hkd w (by rw [List.take_length];exact hw)
      simpa using this
    refine aE ?_
    (repeat first|refine tM rfl ?_ |refine aU rfl ?_ |refine Aa ?_)
    refine aR ⟨_,rfl,?_⟩
    rw [hno]
    rfl
theorem HQ (l:List W) (h:l.length≤1048576):Spec Tryz.prog TB 122 [] 0 [Bk l] (fun x σ nx=>x=.o (.arr 0 1 0 l.length)∧nx=1∧σ=[(0,.cells 9 1 (l.map AH))]):=by
  refine eN Tryz.func122 rfl (by kernel_rfl) rfl ?_;intro Γ hΓ
  (repeat first|refine aU rfl ?_)
  (refine Ag rfl ?_;refine CU (fun _ _=>Im rfl) rfl ?_)
  (repeat first|refine tM rfl ?_ |refine aU rfl ?_ |refine Aa ?_)
  (refine pW rfl ?_ rfl (by rfl);refine TF rfl ?_;intro b0 hb0)
  (repeat first|refine Aa ?_)
  (refine aC rfl ?_ ?_<;>rintro ⟨⟩)
  · obtain rfl:l=[]:=by simpa using hb0 rfl
    (repeat first|refine aU rfl ?_)
    (refine pW rfl ?_ rfl (by rfl);refine Mu 1 9 ?_)
    (repeat first|refine Aa ?_)
    refine aR ⟨_,rfl,rfl,rfl,rfl⟩
  · refine aK ?_
    (repeat first|refine aU rfl ?_)
    (refine pW rfl ?_ rfl (by rfl);refine Bg rfl rfl rfl rfl (by simp) (by rfl) (by rfl) (by rfl) (by rfl) ?_)
    (repeat first|refine tM rfl ?_)
    (refine pW rfl ?_ rfl (by rfl);refine Av rfl rfl rfl (by first| (simp;done)|(simp;(omega))) rfl (by intro r hr;simp at hr;obtain ⟨a,_,rfl⟩:=hr;rfl) (by rfl) (Nat.le_of_ble_eq_true rfl) (by simp;omega) ?_)
    (repeat first|refine tM rfl ?_ |refine Aa ?_)
    refine Ai.names [1] [(2,.o (.arr 0 1 0 l.length))] [(0,.cells 9 1 (l.map AH))] (by intro i hi;rw [hΓ] at hi;omega) (by simp) (by simp[cX,zC,hΓ]) (by simp[cX,zC,hΓ]) ?_
    refine aR ⟨_,rfl,rfl,rfl,rfl⟩
theorem To (l:List W) (s:W):Pure Tryz.prog TB 139 [Bk l,eT s] (eI .i64 (if s∈l then (l.idxOf s:Int) else -1)):=by
  refine eN Tryz.func139 rfl (by kernel_rfl) rfl ?_;intro Γ hΓ
  refine Ai.bound 0 rfl fun hB0=>?_
  have hB:=hB0 (l.map BI) .refl
  (repeat first|refine sN rfl ?_ |refine tM rfl ?_ |refine aU rfl ?_ |refine Aa ?_)
  refine aB ?_
  refine Ai.B0 (α:={k:Nat // k≤l.length∧s∉l.take k}) (fun ⟨k,hk,hs⟩=>[(0,Bk l),(1,eT s),(7,eI .i64 l.length),(8,eI .i64 k)]) (fun ⟨k,hk,hs⟩=>[]) 0 (fun ⟨k,hk,hs⟩=>l.length - k) (⟨0,by omega,by simp⟩) [] (IE hΓ rfl rfl) (by (simp[cX,zC,hΓ])) ?_;rintro ⟨k,hk,hs⟩;(try dsimp only)
  (repeat first|refine s2 rfl fun _ _hb=>?_ |refine aU rfl ?_ |refine Aa ?_)
  (refine aC rfl ?_ ?_<;>rintro ⟨⟩)
  · have hlt:k < l.length:=by (simp only[oZ] at *;omega)
    obtain ⟨x,hx⟩:=get_some (l:=l) (k:=k) hlt
    have hx':=get_map (g:=BI) hx
    refine aK ?_
    refine aS (aB ?_)
    (repeat first|refine tM rfl ?_ |(refine s4 rfl ‹_› rfl ?_ ?_;omega) |refine s2 rfl fun _ _hb=>?_ |refine aU rfl ?_ |refine Aa ?_)
    (refine aC rfl ?_ ?_<;>rintro ⟨⟩)
    · have he:s=x:=by (simp only[oZ] at *;omega)
      subst he
      (repeat first|refine tM rfl ?_ |refine aU rfl ?_ |refine Aa ?_)
      refine aR ⟨_,rfl,?_⟩
      have hm:s∈l:=List.mem_of_getElem? hx
      have hi:l.idxOf s=k:=by
        have e:l=l.take k++s::l.drop (k+1):=by rw [←CJ hx,List.take_append_drop]
        rw [e,List.idxOf_append,if_neg hs,List.idxOf_cons_self]
        simp;omega
      rw [if_pos hm,hi]
    · have he:¬s=x:=by simpa using _hb
      have hs2:s∉l.take (k+1):=by
        rw [List.take_add_one,hx]
        simp [hs,he]
      refine aK ?_
      (repeat first|(refine sM rfl ?_ ?_;first|exact tI|simp only[oZ] at *;omega) |refine aU rfl ?_ |refine Aa ?_)
      refine ⟨⟨k+1,by omega,hs2⟩,by dsimp only;(omega),[],?_⟩
      simp[cX,zC,hΓ]
  · obtain rfl:k=l.length:=by (simp only[oZ] at *;omega)
    rw [List.take_length] at hs
    refine aE ?_
    (repeat first|refine tM rfl ?_ |refine aU rfl ?_ |refine Aa ?_)
    refine aR ⟨_,rfl,?_⟩
    rw [if_neg hs]
theorem EE (l:List W) (s:W):Pure Tryz.prog TB 109 [Bk l,eT s] (eB (decide (s∈l))):=by
  refine eN Tryz.func109 rfl (by kernel_rfl) rfl ?_;intro Γ hΓ
  (repeat' first|refine tA rfl ?_ |refine s2 rfl fun _ _hb=>?_ |refine sP rfl (To l s) rfl ?_ |refine aU rfl ?_ |refine Aa ?_|(refine aC rfl ?_ ?_<;>rintro ⟨⟩)|refine aK ?_|refine aE ?_|refine aB ?_|refine aR ⟨_,rfl,?_⟩)
  all_goals (show E.o _=E.o _;congr;subst _hb;by_cases h:s∈l<;>simp [h])
def Fu (t:AZ) (NK:W):Option AZ:=if t.cols.length=20∨NK∈t.cols then none else some ⟨t.rows,t.cols++[NK]⟩
def Gj (o:Option AZ):E:=match o with
  | some t=>.t [(true,[.d (AQ t.rows),.d (AQ t.cols)]),(false,[.d (bD true)])]
  | none=>.t [(true,[.d (.l []),.d (.l [])]),(false,[.d (bD false)])]
theorem US (t:AZ) (NK:W) (hr:t.rows.length≤4096) (hcl:t.cols.length≤4096):Pure Tryz.prog TB 79 [BX t,eT NK] (Gj (Fu t NK)):=by
  have hc1:=HQ (TB:=TB) t.rows (by omega)
  have hc2:=HQ (TB:=TB) t.cols (by omega)
  refine AN.Ji (AN.ofM 2 (Nat.le_refl _) Tryz.func79 rfl rfl (by kernel_rfl) (Nat.le_of_ble_eq_true rfl) ?_);intro Γ hΓ
  (repeat first|refine aU rfl ?_)
  (refine Ag rfl ?_;refine CU (fun _ _=>DD rfl rfl rfl) rfl ?_)
  (repeat first|refine sN rfl ?_ |refine tM rfl ?_ |refine s2 rfl fun _ _hb=>?_ |(refine sC rfl (EE t.cols NK) ?_;intro _ _hb) |refine s3 rfl ?_ ?_<;>rintro rfl |refine aU rfl ?_ |refine Aa ?_)
  · (refine aC rfl ?_ ?_<;>rintro ⟨⟩)
    have hn:Fu t NK=none:=by unfold Fu;rw [if_pos (.inl (by (simp only[oZ] at *;omega)))]
    (repeat first|refine tM rfl ?_|(refine Ag rfl ?_;refine gA rfl ?_;first| refine gS (fun _ _=>Au rfl rfl (by rfl) (by rfl)) ?_) |refine aU rfl ?_ |refine Aa ?_)
    refine Ai.freeze [0] [(4,.o (.ip [.l [],.l []])),(5,eB false)] ⟨⟨_,rfl,.o (.ptr (by simp) rfl rfl rfl)⟩,⟨_,rfl,.A0⟩,trivial⟩ ?_
    refine aR ⟨_,rfl,?_⟩
    rw [hn];rfl
  (repeat first|refine tM rfl ?_ |(refine sC rfl (EE t.cols NK) ?_;intro _ _hb) |refine Aa ?_)
  (refine aC rfl ?_ ?_<;>rintro ⟨⟩)
  · have hn:Fu t NK=none:=by unfold Fu;rw [if_pos (.inr (by (simp only[oZ] at *;omega)))]
    (repeat first|refine tM rfl ?_|(refine Ag rfl ?_;refine gA rfl ?_;first| refine gS (fun _ _=>Au rfl rfl (by rfl) (by rfl)) ?_) |refine aU rfl ?_ |refine Aa ?_)
    refine Ai.freeze [0] [(4,.o (.ip [.l [],.l []])),(5,eB false)] ⟨⟨_,rfl,.o (.ptr (by simp) rfl rfl rfl)⟩,⟨_,rfl,.A0⟩,trivial⟩ ?_
    refine aR ⟨_,rfl,?_⟩
    rw [hn];rfl
  · refine aK ?_
    refine aS ?_
    refine rG (ZG [0,1,3,4,6,7,2,5,8,9,10,11] [2,5,8,10] [0,1,3,4,6,7]) (by kernel_rfl) ?_
    (repeat first|refine tA rfl ?_)
    (refine pW rfl ?_ rfl (by rfl);refine Ac [] rfl rfl hc1 ⟨rfl,by simp,by simp⟩ rfl trivial ?_;rintro x0 σ1 nx1 ⟨rfl,rfl,rfl⟩ _)
    (refine pW rfl ?_ rfl (by rfl);refine Ac [] rfl rfl hc2 ⟨rfl,by simp,by simp⟩ rfl trivial ?_;rintro x0 σ1 nx1 ⟨rfl,rfl,rfl⟩ _)
    (refine pW rfl ?_ rfl (by rfl);refine Av rfl rfl rfl (by first| (simp;done)|(simp;(omega))) rfl (by intro r hr;simp at hr;subst hr;rfl) (by rfl) (Nat.le_of_ble_eq_true rfl) (by simp;omega) ?_)
    (repeat first|refine tA rfl ?_|(refine Ag rfl ?_;refine gA rfl ?_;first| refine gS (fun _ _=>Au rfl rfl (by rfl) (by rfl)) ?_) |refine Aa ?_)
    have hnm:NK∉t.cols:=by simpa using _hb
    have hn:Fu t NK=some ⟨t.rows,t.cols++[NK]⟩:=by
      unfold Fu
      rw [if_neg]
      rintro (h|h)
      · (simp only[oZ] at *;omega)
      · exact hnm h
    refine Ai.names [0,1,3] [(4,.o (.ptr 0 2 0 0)),(5,eB true)] [(0,.cells 36 2 [[.arr 1 1 0 t.rows.length,.arr 2 1 0 (t.cols.length+1)]]),(1,.cells 9 1 (t.rows.map AH)),(2,.cells 9 1 ((t.cols++[NK]).map AH))] (by intro i hi;rw [hΓ] at hi;omega) (by simp) (by simp[cX,zC,hΓ,Gc]) (by simp[cX,zC,hΓ,Gc,Ab.AP,BU,BK,eC,Ae]) ?_
    refine Ai.HU [1,2] [(4,.o (.ptr 0 2 0 0)),(5,eB true)] [(0,.cells 36 2 [[.d (AQ t.rows),.d (AQ (t.cols++[NK]))]])] ⟨⟨_,rfl,.A0⟩,⟨_,rfl,.A0⟩,trivial⟩ ⟨⟨_,rfl,by simp,.cons (.full (by simp) rfl (by simp [Function.comp_def]) (by simp)) (.cons (.full (by simp) rfl (by simp [Function.comp_def]) (by simp)) .nil)⟩,trivial⟩ ?_
    refine Ai.freeze [0] [(4,.o (.ip [AQ t.rows,AQ (t.cols++[NK])])),(5,eB true)] ⟨⟨_,rfl,.o (.ptr (by simp) rfl rfl rfl)⟩,⟨_,rfl,.A0⟩,trivial⟩ ?_
    refine aR ⟨_,rfl,?_⟩
    rw [hn];rfl
end Go.Am
namespace Go.Am.R
open Go
section
variable {P:Program} {TB:Bc} {ops:Array Oper} {i c:Nat} {r:List (Nat×Nat)} {L:List (Nat×E)} {σ:Ab} {nx:Nat} {pl:List (Nat×(TypeId×List Value))} {K:BA→Prop} {d:Tmp} {ty:TypeId} {pos:String} {af:Array Edge} {g:Option (Nat×Bool)} {op:Op}
theorem yQ {md:Bool} [hT:Cj P] {q:Prop} {x:E} (hg:Bf ops ⟨some d,op,ty,pos,af,g⟩ (look L)=some true) (hc:(Nat.beq c 0 || Nat.beq c 2)=true) (h:Uf hT.T md (look L) op=some (q,x)) (hq:q) (hk:EL P TB ops r K ((d,x)::L) σ nx (C1 d pl)):Br P TB ops ⟨some d,op,ty,pos,af,g⟩ i c r K L σ nx pl:=
  CU (fun _ _ _=>QQ h hq) hg hc hk
theorem yB [hT:Cj P] {b0:Bool} (hg:Bf ops ⟨some d,op,ty,pos,af,g⟩ (look L)=some true) (hc:(Nat.beq c 0 || Nat.beq c 2)=true) (h:OL hT.T (look L) op=some b0) (hk:∀b,b0=b→EL P TB ops r K ((d,eB b)::L) σ nx (C1 d pl)):Br P TB ops ⟨some d,op,ty,pos,af,g⟩ i c r K L σ nx pl:=
  RK (fun _ _ _=>OM h) hg hc hk
theorem yS [hT:Cj P] {x:E} (hg:Bf ops ⟨some d,op,ty,pos,af,g⟩ (look L)=some true) (hc:Nat.beq c 0=true) (h:JA hT.T σ (look L) op=some x) (hk:EL P TB ops r K ((d,x)::L) σ nx (C1 d pl)):Br P TB ops ⟨some d,op,ty,pos,af,g⟩ i c r K L σ nx pl:=
  Xo (fun _=>KU h) hg hc hk
theorem yW [hT:Cj P] {t:TypeId} {x y:Operand} {σ':Ab} (hg:Bf ops ⟨none,.store t x y,ty,pos,af,g⟩ (look L)=some true) (hc:c=1) (h:MD hT.T σ (look L) t x y=some σ') (hk:EL P TB ops r K L σ' nx pl):Br P TB ops ⟨none,.store t x y,ty,pos,af,g⟩ i c r K L σ nx pl:=
  FW (fun _=>KV h hk) hg hc
theorem yA [hT:Cj P] {t:Tmp} {ts:TypeId} {y:Operand} {T:TypeId} {z:List Value} {σ':Ab} (hp:look pl t=some (T,z)) (hg:Bf ops ⟨none,.store ts (.tmp t) y,ty,pos,af,g⟩ (look ((t,.o (.ptr nx z.length 0 0))::L))=some true) (hc:c=5)
    (h:MD hT.T ((nx,.cells T z.length [z.map zC])::σ) (look ((t,.o (.ptr nx z.length 0 0))::L)) ts (.tmp t) y=some σ') (hk:EL P TB ops r K ((t,.o (.ptr nx z.length 0 0))::L) σ' (nx+1) (C1 t pl)):Br P TB ops ⟨none,.store ts (.tmp t) y,ty,pos,af,g⟩ i c r K L σ nx pl:=
  YD hp hg hc fun _=>KV h hk
theorem yP [hT:Cj P] {T:TypeId} {z:List Value} (hz:(Hf hT.T T).ze=some z) (hok:z.all Lr=true) (hf:look L d=none) (hc:c=3) (h:EL P TB ops r K L σ nx ((d,(T,z))::pl)):Br P TB ops ⟨some d,.alloc T,ty,pos,af,none⟩ i c r K L σ nx pl:=
  haveI:=(CY (P:=P) T hT.ok).Ti hz
  ZP hok hf hc h
end
end Go.Am.R
namespace Go.Am
open Go Go.Proofs
set_option maxHeartbeats 1000000
attribute [local irreducible] AU B3 Lex Br Ai Spec
variable {TB:Bc}
structure Hc (al:Int) (b:Nat) (t:AZ):Prop where
  onR:∀w∈t.rows,AW (A6 al) w∧w.length≤b
  onC:∀x∈t.cols,AW (A6 al) x∧x.length≤20000
  rl:t.rows.length≤12
  cl:t.cols.length≤20
def O9 (ok:W→Prop) (al:Int):Prop:=∀w,AW (A6 al) w→w.length≤50000→ok w
def N5 (ls:List UInt8) (t:AZ) (v:W):Prop:=∃r∈t.rows,∃m:W,(m=[]∨∃l∈ls,m=[l])∧∃x:W,(x=[]∨x∈t.cols)∧v=r++m++x
def Gd (ok:W→Prop) (ls:List UInt8) (t:AZ):Prop:=∀v,N5 ls t v→ok v
def CO (L:W→Bool) (ls:List UInt8):Nat→AZ→List AZ
  | 0,t=>[t]
  | n+1,t=>t::match AV L ls t with
    | none=>[]
    | some w=>if t.rows.length=12 then [] else CO L ls n ⟨t.rows++[w],t.cols⟩
theorem B6 {L:W→Bool} {ls:List UInt8} {n:Nat} {t:AZ}:t∈CO L ls n t:=by cases n<;>simp [CO]
theorem Hc.Ri {ok:W→Prop} {al:Int} {b:Nat} {t:AZ} (h:Hc al b t) (hf:Gd ok (A6 al) t) (hb:b≤20100):P5 ok t∧∀w∈t.rows,∀l∈A6 al,∀x∈t.cols,ok (w++[l]++x):=
  ⟨⟨fun w hw x hx=>hf _ ⟨w,hw,[],.inl rfl,x,.inr hx,by simp⟩,fun w hw=>by have:=(h.onR w hw).2;omega,fun x hx=>by have:=(h.onC x hx).2;omega,by have:=h.rl;omega,by have:=h.cl;omega⟩,
   fun w hw l hl x hx=>hf _ ⟨w,hw,[l],.inr ⟨l,hl,rfl⟩,x,.inr hx,rfl⟩⟩
theorem Hc.on {ok:W→Prop} {al:Int} {b:Nat} {t:AZ} (h:Hc al b t) (hf:O9 ok al) (hb:b≤20100):Gd ok (A6 al) t:=by
  rintro v ⟨r,hr,m,hm,x,hx,rfl⟩
  have h1:=h.onR r hr
  have h2:AW (A6 al) m∧m.length≤1:=by
    rcases hm with rfl|⟨l,hl,rfl⟩
    · exact ⟨fun c hc=>by simp at hc,by simp⟩
    · exact ⟨fun c hc=>by simp at hc;subst hc;exact hl,by simp⟩
  have h3:AW (A6 al) x∧x.length≤20000:=by
    rcases hx with rfl|hx
    · exact ⟨fun c hc=>by simp at hc,by simp⟩
    · exact h.onC x hx
  refine hf _ (fun c hc=>?_) (by simp;omega)
  simp only [List.mem_append] at hc
  rcases hc with (hc|hc)|hc
  · exact h1.1 c hc
  · exact h2.1 c hc
  · exact h3.1 c hc
theorem Hc.push {L:W→Bool} {al:Int} {b:Nat} {t:AZ} {w:W} (h:Hc al b t) (ho:AV L (A6 al) t=some w) (hl:t.rows.length < 12):Hc al (b+1) ⟨t.rows++[w],t.cols⟩:=by
  obtain ⟨⟨r,hr,l,hl2,rfl⟩,_⟩:=FG ho
  refine ⟨fun u hu=>?_,h.onC,by simp;omega,h.cl⟩
  rcases List.mem_append.1 hu with hu|hu
  · have:=h.onR u hu;exact ⟨this.1,by omega⟩
  · simp at hu
    subst hu
    have:=h.onR r hr
    refine ⟨fun c hc=>?_,by simp;omega⟩
    rcases List.mem_append.1 hc with hc|hc
    · exact this.1 c hc
    · simp at hc;subst hc;exact hl2
theorem Hc.grow {L:W→Bool} {al:Int}:∀ {n b:Nat} {t y:AZ},Hc al b t→y∈CO L (A6 al) n t→Hc al (b+n) y
  | 0,b,t,y,h,hy=>by simp [CO] at hy;subst hy;exact h
  | n + 1, b,t,y,h,hy=>by
    have hm:∀ {b':Nat} {z:AZ},b'≤b+(n+1)→Hc al b' z→Hc al (b+(n+1)) z:=fun hb hz=>⟨fun w hw=>⟨(hz.onR w hw).1,Nat.le_trans (hz.onR w hw).2 hb⟩,hz.onC,hz.rl,hz.cl⟩
    unfold CO at hy
    rcases List.mem_cons.1 hy with rfl|hy
    · exact hm (by omega) h
    · cases ho:AV L (A6 al) t with
      | none=>rw [ho] at hy;simp at hy
      | some w=>
        rw [ho] at hy
        dsimp only at hy
        split at hy
        · simp at hy
        · have:=h.rl
          exact hm (by omega) (Hc.grow (h.push ho (by omega)) hy)
theorem Hc.ao {L:W→Bool} {ok:W→Prop} {al:Int} {b:Nat} {t:AZ} (h:Hc al b t) (hf:O9 ok al) (hb:b≤20000):∀y∈CO L (A6 al) 13 t,Gd ok (A6 al) y:=fun y hy=>(h.grow hy).on hf (by omega)
theorem Kk {c:C} {L:W→Bool} {ok:W→Prop} (hc:ET Tryz.prog TB c L ok) (al:Int) (t:AZ) (hf:∀y∈CO L (A6 al) 13 t,Gd ok (A6 al) y) (ht:Hc al 20000 t) :
    Pure Tryz.prog TB 120 [JI al c,BX t] (Gj (A3 L (A6 al) 13 t)):=by
  have hr:=Cb c hc.A1
  have hrl:=ht.rl
  have hcl:=ht.cl
  have hc1:=HQ (TB:=TB) t.rows (by omega)
  have hc2:=HQ (TB:=TB) t.cols (by omega)
  refine AN.Ji (AN.ofM 2 (Nat.le_refl _) Tryz.func120 rfl rfl (by kernel_rfl) (Nat.le_of_ble_eq_true rfl) ?_);intro Γ hΓ
  (repeat first|refine aU rfl ?_)
  (refine pW rfl ?_ rfl (by rfl);refine Es rfl rfl ?_)
  (refine Ag rfl ?_;refine CU (fun _ _=>DD rfl rfl rfl) rfl ?_)
  (repeat first|refine tM rfl ?_ |refine aU rfl ?_ |refine Aa ?_)
  refine R.RQ [(7,3),(0,2),(1,2),(3,2),(4,2),(2,1),(5,1),(6,0),(8,5)] mixed (by kernel_rfl) rfl (by kernel_rfl) ?_
  (repeat ((refine R.Ag rfl ?_;first|(refine R.yQ (md:=false) rfl rfl rfl ?_ ?_;exact tI) |refine R.yP rfl rfl rfl rfl ?_ )))
  (refine R.Ag rfl ?_;refine R.He (fun _=>?_) rfl rfl;refine Ac [] rfl rfl hc1 ⟨rfl,by simp,by simp⟩ rfl trivial ?_;rintro x0 σ1 nx1 ⟨rfl,rfl,rfl⟩ _)
  (refine R.Ag rfl ?_;refine R.He (fun _=>?_) rfl rfl;refine Ac [] rfl rfl hc2 ⟨rfl,by simp,by simp⟩ rfl trivial ?_;rintro x0 σ1 nx1 ⟨rfl,rfl,rfl⟩ _)
  (repeat ((refine R.Ag rfl ?_;first|refine R.yA rfl rfl rfl rfl ?_|refine R.CU (fun _ _ _=>Au rfl rfl (by rfl) (by rfl)) rfl rfl ?_ )))
  refine R.LB ?_
  refine aB ?_
  have hz:∀x:AZ,AV L (A6 al) x=none∨∃w,AV L (A6 al) x=some w:=fun x=>by cases AV L (A6 al) x<;>simp
  refine Ai.B0 (α:={p:Nat×AZ // p.1≤13∧13≤p.1+p.2.rows.length∧Hc al (20000+p.2.rows.length) p.2∧A3 L (A6 al) 13 t=A3 L (A6 al) p.1 p.2∧∀y∈CO L (A6 al) p.1 p.2,Gd ok (A6 al) y}) (fun ⟨⟨m,u⟩,hm,hmu,hu,he,hgr⟩=>[(2,.o (.ptr 0 2 0 0)),(4,.o (.ptr 1 2 0 0)),(6,.o (.ptr 4 2 0 0))]) (fun ⟨⟨m,u⟩,hm,hmu,hu,he,hgr⟩=>[(0,.cells 71 2 [[.d (iD al),c]]),(1,.cells 36 2 [[.d (.l []),.d (.l [])]]),(2,.cells 9 1 (u.rows.map AH)),(3,.cells 9 1 (u.cols.map AH)),(4,.cells 36 2 [[.arr 2 1 0 u.rows.length,.arr 3 1 0 u.cols.length]])]) 5 (fun ⟨⟨m,u⟩,hm,hmu,hu,he,hgr⟩=>m) (⟨(13,t),by simp,by simp,⟨fun w hw=>⟨(ht.onR w hw).1,by have:=(ht.onR w hw).2;omega⟩,ht.onC,ht.rl,ht.cl⟩,rfl,hf⟩) [0,1,2,3,4] (IE hΓ rfl rfl) (by (simp[cX,zC,hΓ,hr,eC,Ab.AP,BU,Gc,BK,Ae])) ?_;rintro ⟨⟨m,u⟩,hm,hmu,hu,he,hgr⟩;(try dsimp only)
  dsimp only at hm hmu hu he hgr
  have htk:∀l:List W,((l.map AH).drop 0).take l.length=(l.map BI).map (fun r=>r.map C.d):=fun l=>by rw [List.drop_zero,List.take_of_length_le (by simp)];simp [Function.comp_def]
  have hur:=hu.rl
  have huc:=hu.cl
  have hask:=hu.Ri (hgr u B6) (by omega)
  have hfo:=Fy (TB:=TB) hc al u hask.1 hask.2
  have hev:Wu [(0,.cells 71 2 [[.d (iD al),c]]),(1,.cells 36 2 [[.d (.l []),.d (.l [])]]),(2,.cells 9 1 (u.rows.map AH)),(3,.cells 9 1 (u.cols.map AH)),(4,.cells 36 2 [[.arr 2 1 0 u.rows.length,.arr 3 1 0 u.cols.length]])] [.a [.d (iD al),c],.a [.arr 2 1 0 u.rows.length,.arr 3 1 0 u.cols.length]] [JI al c,BX u]:=
    .cons (.cons (.pure rfl) (.cons (.pure hc.A1) .nil)) (.cons (.cons (.arr rfl (by simp) (htk _)) (.cons (.arr rfl (by simp) (htk _)) .nil)) .nil)
  refine aB ?_
  rcases hz u with ho|⟨w,ho⟩
  · rw [ho] at hfo
    (repeat first|refine tM rfl ?_ |refine s2 rfl fun _ _hb=>?_|(refine Ag rfl ?_;refine gA rfl ?_;first| refine gQ (Io rfl rfl (hev) (hfo) rfl) rfl ?_) |refine aU rfl ?_ |refine Aa ?_)
    (refine aC rfl ?_ ?_<;>rintro ⟨⟩)
    · (repeat first|refine tM rfl ?_ |refine aU rfl ?_ |refine Aa ?_)
      have hn:A3 L (A6 al) 13 t=some u:=by
        rw [he]
        obtain ⟨m',rfl⟩:∃m',m=m'+1:=⟨m - 1,by omega⟩
        simp [A3,ho]
      refine Ai.names [1,2,3] [(4,.o (.ptr 0 2 0 0)),(5,eB true)] [(0,.cells 36 2 [[.arr 1 1 0 u.rows.length,.arr 2 1 0 u.cols.length]]),(1,.cells 9 1 (u.rows.map AH)),(2,.cells 9 1 (u.cols.map AH))] (by intro i hi;rw [hΓ] at hi;omega) (by simp) (by simp[cX,zC,hΓ,Gc]) (by simp[cX,zC,hΓ,Gc,Ab.AP,BU,BK,eC,Ae]) ?_
      refine Ai.HU [1,2] [(4,.o (.ptr 0 2 0 0)),(5,eB true)] [(0,.cells 36 2 [[.d (AQ u.rows),.d (AQ u.cols)]])] ⟨⟨_,rfl,.A0⟩,⟨_,rfl,.A0⟩,trivial⟩ ⟨⟨_,rfl,by simp,.cons (.full (by simp) rfl (by simp [Function.comp_def]) (by simp)) (.cons (.full (by simp) rfl (by simp [Function.comp_def]) (by simp)) .nil)⟩,trivial⟩ ?_
      refine Ai.freeze [0] [(4,.o (.ip [AQ u.rows,AQ u.cols])),(5,eB true)] ⟨⟨_,rfl,.o (.ptr (by simp) rfl rfl rfl)⟩,⟨_,rfl,.A0⟩,trivial⟩ ?_
      refine aR ⟨_,rfl,?_⟩
      rw [hn];rfl
    · simp at _hb
  · rw [ho] at hfo
    (repeat first|refine tM rfl ?_ |refine s2 rfl fun _ _hb=>?_|(refine Ag rfl ?_;refine gA rfl ?_;first| refine gQ (Io rfl rfl (hev) (hfo) rfl) rfl ?_) |refine aU rfl ?_ |refine Aa ?_)
    (refine aC rfl ?_ ?_<;>rintro ⟨⟩)
    · simp at _hb
    · refine aK ?_
      (repeat first|refine tM rfl ?_ |refine s2 rfl fun _ _hb=>?_ |refine aU rfl ?_ |refine Aa ?_)
      (refine aC rfl ?_ ?_<;>rintro ⟨⟩)
      · (repeat first|refine tM rfl ?_|(refine Ag rfl ?_;refine gA rfl ?_;first| refine gS (fun _ _=>Au rfl rfl (by rfl) (by rfl)) ?_) |refine aU rfl ?_ |refine Aa ?_)
        have hn:A3 L (A6 al) 13 t=none:=by
          have h12:u.rows.length=12:=by (simp only[oZ] at *;omega)
          rw [he]
          obtain ⟨m',rfl⟩:∃m',m=m'+1:=⟨m - 1,by omega⟩
          simp [A3,ho,h12]
        refine Ai.freeze [1] [(4,.o (.ip [.l [],.l []])),(5,eB false)] ⟨⟨_,rfl,.o (.ptr (by simp) rfl rfl rfl)⟩,⟨_,rfl,.A0⟩,trivial⟩ ?_
        refine aR ⟨_,rfl,?_⟩
        rw [hn];rfl
      · refine aK ?_
        have hlt:u.rows.length < 12:=by (simp only[oZ] at *;omega)
        obtain ⟨m',rfl⟩:∃m',m=m'+1:=⟨m - 1,by omega⟩
        have hn:A3 L (A6 al) 13 t=A3 L (A6 al) m' ⟨u.rows++[w],u.cols⟩:=by
          rw [he]
          conv=>lhs;unfold A3
          rw [ho]
          dsimp only
          rw [if_neg (by omega)]
        have hp:=hu.push ho hlt
        (repeat first|refine tA rfl ?_ |refine aU rfl ?_)
        (refine pW rfl ?_ rfl (by rfl);refine Av rfl rfl rfl (by first| (simp;done)|(simp;(omega))) rfl (by intro r hr;simp at hr;subst hr;rfl) (by rfl) (Nat.le_of_ble_eq_true rfl) (by simp;omega) ?_)
        (repeat first|refine tM rfl ?_ |refine Aa ?_)
        refine ⟨⟨⟨m',⟨u.rows++[w],u.cols⟩⟩,by dsimp only;omega,by simp;omega,by simpa [Nat.add_assoc] using hp,hn,fun y hy=>hgr y (by unfold CO;rw [ho];dsimp only;rw [if_neg (by omega)];exact List.mem_cons_of_mem _ hy)⟩,by dsimp only;(omega),[0,1,5,3,4],?_⟩
        simp[cX,zC,hΓ,hr,eC,Ab.AP,BU,Gc,BK,Ae]
def CX:AZ:=⟨[[]],[[]]⟩
theorem Jh (al:Int):Hc al 20000 CX:=by
  refine ⟨fun w hw=>?_,fun w hw=>?_,by decide,by decide⟩<;>(simp [CX] at hw;subst hw;exact ⟨fun c hc=>by simp at hc,by simp⟩)
theorem Ng {c:C} {L:W→Bool} {ok:W→Prop} (hc:ET Tryz.prog TB c L ok) (al:Int) (hf:∀y∈CO L (A6 al) 13 CX,Gd ok (A6 al) y) :
    Pure Tryz.prog TB 68 [JI al c] (Gj (A3 L (A6 al) 13 CX)):=by
  have hr:=Cb c hc.A1
  have h:=Kk hc al CX hf (Jh al)
  refine AN.Ji (AN.ofM 2 (Nat.le_refl _) Tryz.func68 rfl rfl (by kernel_rfl) (Nat.le_of_ble_eq_true rfl) ?_);intro Γ hΓ
  generalize A3 L (A6 al) 13 CX=o at h ⊢
  (repeat first|refine aU rfl ?_)
  (refine pW rfl ?_ rfl (by rfl);refine Es rfl rfl ?_)
  (repeat first|refine tM rfl ?_ |refine aU rfl ?_ |refine Aa ?_)
  have hpu:([JI al c,BX CX].all E.A1 && C.Bw [])=true:=by simp [JI,BX,E.A1,C.Bw,C.A1,hc.A1]
  cases o with
  | none=>
    (repeat first|refine tA rfl ?_|(refine Ag rfl ?_;refine gA rfl ?_;first| refine gS (fun _ _=>AT rfl rfl hpu h rfl) ?_|refine gS (fun _ _=>Au rfl rfl (by rfl) (by rfl)) ?_) |refine Aa ?_)
    refine Ai.freeze [1] [(2,.o (.ip [.l [],.l []])),(3,eB false)] ⟨⟨_,rfl,.o (.ptr (by simp) rfl rfl rfl)⟩,⟨_,rfl,.A0⟩,trivial⟩ ?_
    refine aR ⟨_,rfl,?_⟩
    rfl
  | some u=>
    (repeat first|refine tA rfl ?_|(refine Ag rfl ?_;refine gA rfl ?_;first| refine gS (fun _ _=>AT rfl rfl hpu h rfl) ?_|refine gS (fun _ _=>Au rfl rfl (by rfl) (by rfl)) ?_) |refine Aa ?_)
    refine Ai.freeze [1] [(2,.o (.ip [AQ u.rows,AQ u.cols])),(3,eB true)] ⟨⟨_,rfl,.o (.ptr (by simp) rfl rfl rfl)⟩,⟨_,rfl,.A0⟩,trivial⟩ ?_
    refine aR ⟨_,rfl,?_⟩
    rfl
def Bd (L:W→Bool) (al:Int) (t:AZ):Ci:=⟨al,t.rows.map fun r=>(Af al).map fun l=>((Em L t (r++[lb l]):Nat):Int),t.rows.map L⟩
theorem Tx {L:W→Bool} {al:Int} {t:AZ} (ho:AV L (A6 al) t=none) {r:W} (hr:r∈t.rows) {l:Int} (hl:l∈Af al) :
    (BY (Bb L t t.rows.length) (marks L t.cols (r++[lb l]))).getD 0=((Em L t (r++[lb l]):Nat):Int):=by
  have hm:marks L t.cols (r++[lb l])∈AA L t:=by
    have:=List.find?_eq_none.1 ho (r++[lb l]) (by
      unfold BV
      exact List.mem_flatMap.2 ⟨r,hr,List.mem_map.2 ⟨lb l,List.mem_map.2 ⟨l,hl,rfl⟩,rfl⟩⟩)
    simpa using this
  rw [OA,if_pos hm]
  rfl
end Go.Am
namespace Go.Am
set_option linter.unusedVariables false
theorem Dz.row {L:W→Bool} {ls:List UInt8} {t:AZ} (h:Dz L ls t) {i j:Nat} {r s:W} (hi:t.rows[i]? = some r) (hj:t.rows[j]? = some s) (he:marks L t.cols r=marks L t.cols s):i=j:=by
  have h1:(AA L t)[i]? = some (marks L t.cols r):=by simp [AA,hi]
  have h2:(AA L t)[j]? = some (marks L t.cols r):=by simp [AA,hj,he]
  have l1:=(List.getElem?_eq_some_iff.1 h1).1
  have l2:=(List.getElem?_eq_some_iff.1 h2).1
  have e1:=(List.getElem?_eq_some_iff.1 h1).2
  have e2:=(List.getElem?_eq_some_iff.1 h2).2
  have hp:=List.pairwise_iff_getElem.1 h.nd
  rcases Nat.lt_trichotomy i j with h3|h3|h3
  · exact absurd (e1.trans e2.symm) (hp i j l1 l2 h3)
  · exact h3
  · exact absurd (e2.trans e1.symm) (hp j i l2 l1 h3)
structure Split (L:W→Bool) (ls:List UInt8) (t:AZ) (u v:W):Prop where
  suf:∃p,p≠[]∧u=p++v
  new:v∉t.cols
  opens:∃r∈t.rows,∃c∈ls,marks L (t.cols++[v]) (r++[c])∉AA L ⟨t.rows,t.cols++[v]⟩
def UQ (L:W→Bool) (t:AZ) (w:W):Bool:=L (t.rows.getD (runM L t 0 w) [])
def YB (L:W→Bool) (ls:List UInt8) (t:AZ) (w:W):Option AZ:=(splitAt L t (L w) 0 w).bind fun v=>A3 L ls 13 ⟨t.rows,t.cols++[v]⟩
structure Next (L:W→Bool) (ls:List UInt8) (t:AZ) (w v:W) (t':AZ):Prop where
  split:splitAt L t (L w) 0 w=some v
  close:A3 L ls 13 ⟨t.rows,t.cols++[v]⟩=some t'
  next:YB L ls t w=some t'
  ok:Dz L ls t'
  cols:t'.cols=t.cols++[v]
  new:v∉t.cols
  suf:∃p,p≠[]∧w=p++v
  more:t.rows.length < t'.rows.length
  pre:t.rows <+: t'.rows
structure Wr (L:W→Bool) (ls:List UInt8) (wr:AZ→Option W):Prop where
  on:∀t w,wr t=some w→Dz L ls t→AW ls w∧UQ L t w≠L w
def CW (a:Ci):Int→W→Int
  | q,[]=>q
  | q,c::w=>CW a (Dj a q.toNat ((c.toNat:Int) - 97)) w
def LA (a:Ci) (w:W):Bool:=a.ac.getD (CW a 0 w).toNat false
theorem OP (a:Ci):∀(u w:W) (q:Int),CW a q (u++w)=CW a (CW a q u) w
  | [],_,_=>rfl
  | c::u,w,q=>OP a u w _
theorem Px {l:Int} (h0:0≤l) (h1:l < 6):((lb l).toNat:Int) - 97=l:=by
  unfold lb
  have:(97+l.toNat) % 256=97+l.toNat:=by omega
  simp [this]
  omega
theorem GO {al:Int} {c:UInt8} (h:c∈A6 al):0≤(c.toNat:Int) - 97∧(c.toNat:Int) - 97 < 6:=by
  obtain ⟨l,hl,rfl⟩:=List.mem_map.1 h
  have h1:=Bj hl
  rw [Px h1.1 (by omega)]
  omega
theorem GY {a:Ci} (ha:Bh a=true) {al:Int}:∀(w:W) (q:Int),AW (A6 al) w→0≤q∧q < a.nx.length→0≤CW a q w∧CW a q w < a.nx.length
  | [],q,_,hq=>hq
  | c::w,q,hw,hq=>by
    have h1:=GO (hw c (by simp))
    have h2:=Gp ha (q:=q.toNat) (by omega) h1.1 h1.2
    exact GY ha w _ (fun x hx=>hw x (by simp [hx])) h2
theorem JX {al:Int} {l:Int} (h:l∈Af al):lb l∈A6 al:=List.mem_map.2 ⟨l,h,rfl⟩
theorem U7 {L:W→Bool} {al:Int} {t:AZ} (hal:Bn al=true) (h:Dz L (A6 al) t) (hr:t.rows.length≤12):Bh (Bd L al t)=true:=by
  have h0:0 < t.rows.length:=(List.getElem?_eq_some_iff.1 h.r0).1
  unfold Bh
  simp only [Bool.and_eq_true,decide_eq_true_eq,List.all_eq_true]
  refine ⟨⟨⟨hal,by simp [Bd];omega⟩,by simp [Bd]⟩,fun row hrow=>?_⟩
  simp only [Bd,List.mem_map] at hrow
  obtain ⟨r,hr,rfl⟩:=hrow
  unfold DY
  simp only [Bool.and_eq_true,decide_eq_true_eq,List.all_eq_true]
  refine ⟨by simp [Bd],fun y hy=>?_⟩
  obtain ⟨l,hl,rfl⟩:=List.mem_map.1 hy
  obtain ⟨i,hi,he⟩:=List.getElem_of_mem hr
  obtain ⟨r',h2,_⟩:=h.idx (i:=i) (r:=r) (by rw [List.getElem?_eq_getElem hi,he]) (JX hl)
  have h3:=(List.getElem?_eq_some_iff.1 h2).1
  unfold Nz
  simp [Bd]
  exact h3
theorem Te {L:W→Bool} {al:Int} {t:AZ} {q:Nat} {c:UInt8} (hq:q < t.rows.length) (hc:c∈A6 al):Dj (Bd L al t) q ((c.toNat:Int) - 97)=((Em L t (t.rows.getD q []++[c]):Nat):Int):=by
  obtain ⟨l,hl,rfl⟩:=List.mem_map.1 hc
  have h1:=Bj hl
  rw [Px h1.1 (by omega)]
  obtain ⟨k,hk,he⟩:=List.getElem_of_mem hl
  have h2:(AB al 6)[k]? = some l:=by rw [List.getElem?_eq_getElem hk,he]
  have h3:=Hl h2
  unfold Dj
  have h4:DQ (Bd L al t).al l.toNat=true:=h1.2.2
  rw [if_pos h4]
  have h5:(AB (Bd L al t).al l.toNat).length=k:=h3
  rw [h5]
  have h6:(Bd L al t).nx.getD q []=(Af al).map fun l=>((Em L t (t.rows.getD q []++[lb l]):Nat):Int):=by
    simp [Bd,List.getD,hq]
  rw [h6]
  simp [List.getD,h2]
theorem MF {L:W→Bool} {al:Int} {t:AZ} (h:Dz L (A6 al) t):∀(w:W) (q:Nat),AW (A6 al) w→q < t.rows.length→CW (Bd L al t) q w=((runM L t q w:Nat):Int)
  | [],q,_,_=>rfl
  | c::w,q,hw,hq=>by
    have h1:t.rows[q]? = some t.rows[q]:=List.getElem?_eq_getElem hq
    have hc:=hw c (by simp)
    obtain ⟨_,h2,_⟩:=h.idx h1 hc
    have h3:t.rows.getD q []=t.rows[q]:=by simp [h1]
    have h4:=(List.getElem?_eq_some_iff.1 h2).1
    show CW (Bd L al t) (Dj (Bd L al t) ((q:Int)).toNat ((c.toNat:Int) - 97)) w=_
    rw [Int.toNat_natCast,Te hq hc]
    rw [←h3] at h4
    exact MF h w _ (fun x hx=>hw x (by simp [hx])) h4
theorem UM {L:W→Bool} {al:Int} {t:AZ} (h:Dz L (A6 al) t) {w:W} (hw:AW (A6 al) w):LA (Bd L al t) w=UQ L t w:=by
  have h0:0 < t.rows.length:=(List.getElem?_eq_some_iff.1 h.r0).1
  have h1:=h.run w 0 hw h0
  unfold LA UQ
  have h2:=MF h w 0 hw h0
  rw [show ((0:Nat):Int)=0 from rfl] at h2
  rw [h2,Int.toNat_natCast]
  simp [Bd,List.getD,h1]
end Go.Am
namespace Go.Am
open Go
set_option linter.unusedVariables false
theorem GX {g:Gr}:∀ {u v:List Int} {a x:Int},reach g (u++v) a x↔∃y,reach g u a y∧reach g v y x
  | [],v,a,x=>⟨fun h=>⟨a,rfl,h⟩,fun ⟨y,h1,h2⟩=>by cases h1;exact h2⟩
  | l :: u,v,a,x=>by
    simp only [List.cons_append,reach]
    constructor
    · rintro ⟨y,hy,h⟩
      obtain ⟨z,h1,h2⟩:=GX.1 h
      exact ⟨z,⟨y,hy,h1⟩,h2⟩
    · rintro ⟨z,⟨y,hy,h1⟩,h2⟩
      exact ⟨y,hy,GX.2 ⟨z,h1,h2⟩⟩
theorem Xl (n:Nat) (f:Nat→Int) (h:∀i,i≤n→0≤f i∧f i < n):∃i j,i < j∧j≤n∧f i=f j:=by
  apply Classical.byContradiction
  intro hno
  have h1:((List.range (n+1)).map fun i=>(f i).toNat).Nodup:=by
    unfold List.Nodup
    rw [List.pairwise_map]
    refine List.pairwise_lt_range.imp_of_mem fun {a b} ha hb hab he=>hno ⟨a,b,hab,?_,?_⟩
    · have:=List.mem_range.1 hb;omega
    · have h2:=h a (by have:=List.mem_range.1 ha;omega)
      have h3:=h b (by have:=List.mem_range.1 hb;omega)
      omega
  have h2:=Oz n _ h1 fun x hx=>by
    obtain ⟨i,hi,rfl⟩:=List.mem_map.1 hx
    have:=h i (by have:=List.mem_range.1 hi;omega)
    omega
  simp at h2
  omega
theorem Dg.short {g:Gr} (hg:NR g) {w:List Int} (h:Dg g (some w)):w.length < g.N:=by
  obtain ⟨h1,⟨x,hx,hgx⟩,h3⟩:=h
  apply Classical.byContradiction
  intro hlen
  have hsp:∀k,∃y,reach g (w.take k) g.s0 y∧reach g (w.drop k) y x:=fun k=>GX.1 (by rw [List.take_append_drop];exact hx)
  obtain ⟨f,hf⟩:=Classical.axiomOfChoice hsp
  obtain ⟨i,j,hij,hj,he⟩:=Xl g.N f fun i _=>Fm hg (fun l hl=>h1 l (List.mem_of_mem_take hl)) hg.s0 (hf i).1
  refine h3 (w.take i++w.drop j) (fun l hl=>?_) ⟨x,GX.2 ⟨f i,(hf i).1,he ▸ (hf j).2⟩,hgx⟩ (.inl ?_)
  · rcases List.mem_append.1 hl with hl|hl
    · exact h1 l (List.mem_of_mem_take hl)
    · exact h1 l (List.mem_of_mem_drop hl)
  · simp;omega
theorem Z0 {al:Int}:∀ {w:List Int},(∀l∈w,l∈Af al)→AW (A6 al) (MI w):=fun {w} h c hc=>by
  obtain ⟨l,hl,rfl⟩:=List.mem_map.1 hc
  exact JX (h l hl)
theorem ZM {al:Int} {w:W} (h:AW (A6 al) w):∃v:List Int,(∀l∈v,l∈Af al)∧MI v=w:=by
  induction w with
  | nil=>exact ⟨[],by simp,rfl⟩
  | cons c w ih=>
    obtain ⟨v,hv,he⟩:=ih fun x hx=>h x (by simp [hx])
    obtain ⟨l,hl,rfl⟩:=List.mem_map.1 (h c (by simp))
    exact ⟨l::v,fun m hm=>by
      rcases List.mem_cons.1 hm with rfl|hm
      · exact hl
      · exact hv m hm,by rw [←he];rfl⟩
theorem XS (L:W→Bool) (ls:List UInt8):Su L ls CX:=by
  refine ⟨rfl,rfl,fun i w hi h0=>?_,fun w hw=>?_,fun w hw=>?_,by simp [AA,CX],by simp [CX]⟩
  · have:=(List.getElem?_eq_some_iff.1 hi).1
    simp [CX] at this;omega
  · simp [CX] at hw;subst hw;exact fun c hc=>(by cases hc)
  · simp [CX] at hw;subst hw;exact fun c hc=>(by cases hc)
open Classical in
theorem Su.short {L:W→Bool} {ls:List UInt8} {t:AZ} (h:Su L ls t):∀(i:Nat) w,t.rows[i]? = some w→w.length≤i:=by
  intro i
  induction i using Nat.strongRecOn with
  | _ i ih=>
    intro w hw
    rcases Nat.eq_zero_or_pos i with h0|h0
    · subst h0
      rw [h.r0] at hw
      injection hw with hw
      subst hw;simp
    · obtain ⟨h1,j,hj,h2⟩:=h.pre i w hw h0
      have:=ih j hj _ h2
      simp at this
      omega
end Go.Am
