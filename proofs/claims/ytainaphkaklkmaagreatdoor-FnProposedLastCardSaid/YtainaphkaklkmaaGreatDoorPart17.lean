/-
  A drawn automaton, walked.
-/
import Derived.Test.YtainaphkaklkmaaGreatDoorPart16
import Derived.Test.YtainaphkaklkmaaGreatDoorPart11
import Derived.Test.YtainaphkaklkmaaGreatDoorPart15
import Derived.Test.YtainaphkaklkmaaGreatDoorPart10
import Derived.Test.YtainaphkaklkmaaGreatDoorPart8
set_option linter.constructorNameAsVariable false
set_option linter.unusedSimpArgs false
set_option linter.unusedVariables false
namespace Go.Am
open Go Go.Proofs
set_option maxHeartbeats 1000000
attribute [local irreducible] QOp AOp Lex LexO AWp Spec
variable {TB:Amb}
def texts3:List W:=[[97,98,32,43,49,44,48,32,45,49,44,49],[97,98,32,43,48,44,49,32,43,50,44,49,32,45,50,44,50],[97,99,32,43,49,44,50,32,43,49,44,50,32,45,50,44,50],[98,32,43,49,32,45,49],[97,98,99,32,43,49,44,48,44,50,32,43,50,44,48,44,49,32,45,50,44,50,44,50],[45,32,43],[45,32,45],[97,32,43,49,32,45,48],[97,98,32,43,48,44,49,32,45,48,44,49],[98,99,32,43,49,44,50,32,43,50,44,48,32,45,50,44,50],[97,98,32,43,49,44,50,32,45,49,44,51,32,43,52,44,50,32,45,49,44,51,32,43,52,44,50],[97,98,99,32,43,48,44,49,44,48,32,43,48,44,49,44,50,32,45,50,44,50,44,50]]
theorem texts3_bd:∀w∈texts3,w.length≤40:=by decide
theorem l3Texts_ok:Pure Tryz.prog TB 118 [] (eTexts texts3):=by
  refine eN Tryz.func118 rfl (by kernel_rfl) rfl ?_;intro Γ hΓ
  (repeat first|refine sN rfl ?_|((first|refine sA rfl ?_ ?_|refine s4 rfl ‹_› rfl ?_ ?_);first|exact tI|omega|(simp only[oZ] at *;omega))|(refine s2 rfl ?_;intro _ _hb)|(refine s3 rfl ?_ ?_<;>intro hb<;>subst hb)|refine aS ?_|refine reg (by kernel_rfl) ?_|refine lexE ?_)
  refine AWp.ret ⟨_,rfl,rfl⟩
theorem l3Draw_ok (b:List UInt8) (hb:b.length≤2000) (p:Int) (h0:0≤p∧p < 700000000):Spec Tryz.prog TB 89 [(0,rdO b p)] 1 [.o (.ptr 0 2 0 0)] (DrawPost b p 60 (fun a=>ABd 41 a)):=by
  obtain ⟨c,c1,c2,hp⟩:=pick_ok (TB:=TB) b hb p 3 (by omega)
  obtain ⟨w,hw,ho⟩:=of_ok (TB:=TB) b hb (p+1) (by omega) texts3 (by decide) (by decide)
  have hwl:=texts3_bd w hw
  have hpa:=ParseAutomaton_ok (TB:=TB) w (by omega)
  refine SpecK.toSpec (SpecK.ren (SpecK.ofG (Nat.le_refl _) Tryz.func89 rfl (by kernel_rfl) (Nat.le_of_ble_eq_true rfl) ?_));intro Γ hΓ
  (repeat first|refine sN rfl ?_|((first|refine sA rfl ?_ ?_|refine s4 rfl ‹_› rfl ?_ ?_);first|exact tI|omega|(simp only[oZ] at *;omega))|(refine s2 rfl ?_;intro _ _hb)|(refine s3 rfl ?_ ?_<;>intro hb<;>subst hb)|refine aS ?_|refine reg (by kernel_rfl) ?_|refine lexE ?_)
  (refine popO rfl ?_;refine popW ?_ rfl (by rfl);refine n_call [0] rfl rfl (hp) ⟨rfl,by decide,by decide⟩ rfl (by simp[cX,zC,hΓ,cN]) ?_;rintro x0 σ1 nx1 ⟨rfl,rfl,rfl⟩ _)
  (repeat first|refine sN rfl ?_|((first|refine sA rfl ?_ ?_|refine s4 rfl ‹_› rfl ?_ ?_);first|exact tI|omega|(simp only[oZ] at *;omega))|(refine s2 rfl ?_;intro _ _hb)|(refine s3 rfl ?_ ?_<;>intro hb<;>subst hb)|refine aS ?_|refine reg (by kernel_rfl) ?_|refine lexE ?_)
  (refine aC rfl ?_ ?_<;>intro hb<;>cases hb)
  · (repeat first|refine sN rfl ?_|((first|refine sA rfl ?_ ?_|refine s4 rfl ‹_› rfl ?_ ?_);first|exact tI|omega|(simp only[oZ] at *;omega))|(refine s2 rfl ?_;intro _ _hb) |refine sP rfl (l3Texts_ok) rfl ?_|(refine s3 rfl ?_ ?_<;>intro hb<;>subst hb)|refine aS ?_|refine reg (by kernel_rfl) ?_|refine lexE ?_)
    (refine popO rfl ?_;refine popW ?_ rfl (by rfl);refine n_call [0] rfl rfl (ho) ⟨rfl,by decide,by decide⟩ rfl (by simp[cX,zC,hΓ,cN]) ?_;rintro x0 σ1 nx1 ⟨rfl,rfl,rfl⟩ _)
    (repeat first|refine sN rfl ?_|((first|refine sA rfl ?_ ?_|refine s4 rfl ‹_› rfl ?_ ?_);first|exact tI|omega|(simp only[oZ] at *;omega))|(refine s2 rfl ?_;intro _ _hb)|(refine s3 rfl ?_ ?_<;>intro hb<;>subst hb)|refine aS ?_|refine reg (by kernel_rfl) ?_|refine lexE ?_)
    (refine popO rfl ?_;refine popW ?_ rfl (by rfl);refine n_call [] rfl rfl (hpa) ⟨rfl,by decide,by decide⟩ rfl trivial ?_;rintro x0 σ1 nx1 ⟨⟨a,ok⟩,ha,rfl,rfl,rfl⟩ _)
    have hA:ABd (w.length+1) a:=ha
    (repeat first|refine sN rfl ?_|((first|refine sA rfl ?_ ?_|refine s4 rfl ‹_› rfl ?_ ?_);first|exact tI|omega|(simp only[oZ] at *;omega))|(refine s2 rfl ?_;intro _ _hb)|(refine s3 rfl ?_ ?_<;>intro hb<;>subst hb)|refine aS ?_|refine reg (by kernel_rfl) ?_|refine lexE ?_)
    (refine aC rfl ?_ ?_<;>intro hb<;>cases hb)
    · (repeat first|refine sN rfl ?_|((first|refine sA rfl ?_ ?_|refine s4 rfl ‹_› rfl ?_ ?_);first|exact tI|omega|(simp only[oZ] at *;omega))|(refine s2 rfl ?_;intro _ _hb)|(refine s3 rfl ?_ ?_<;>intro hb<;>subst hb)|refine aS ?_|refine reg (by kernel_rfl) ?_|refine lexE ?_)
      exact AWp.ret ⟨_,rfl,[0],eAut a,[(0,rdO b (p+1+1))],⟨by intro i hi;match i with|0=>rfl,by decide⟩,rfl,by (repeat' first|exact tI|rfl|refine And.intro ?_ ?_)<;>(simp[cX,zC,hΓ,cN]<;>rfl),p+1+1,a,by omega,⟨by have:=hA.nx;omega,by have:=hA.ac;omega,fun r hr=>by have:=hA.row r hr;omega⟩,rfl,rfl,rfl⟩
    refine AWp.skip ?_
    obtain ⟨n1,m1,k1⟩:=num_ok (TB:=TB) b hb (p+1+1) (by omega) [3,6,7,5,1,0,2] (by decide) (by decide)
    have f1:=l3Over_ok (TB:=TB) b hb (p+1+1+1) (by omega) n1
    (repeat first|refine sN rfl ?_|((first|refine sA rfl ?_ ?_|refine s4 rfl ‹_› rfl ?_ ?_);first|exact tI|omega|(simp only[oZ] at *;omega))|(refine s2 rfl ?_;intro _ _hb)|(refine s3 rfl ?_ ?_<;>intro hb<;>subst hb)|refine aS ?_|refine reg (by kernel_rfl) ?_|refine lexE ?_)
    (refine popO rfl ?_;refine popW ?_ rfl (by rfl);refine n_call [0] rfl rfl (k1) ⟨rfl,by decide,by decide⟩ rfl (by simp[cX,zC,hΓ,cN]) ?_;rintro x0 σ1 nx1 ⟨rfl,rfl,rfl⟩ _)
    (repeat first|refine sN rfl ?_|((first|refine sA rfl ?_ ?_|refine s4 rfl ‹_› rfl ?_ ?_);first|exact tI|omega|(simp only[oZ] at *;omega))|(refine s2 rfl ?_;intro _ _hb)|(refine s3 rfl ?_ ?_<;>intro hb<;>subst hb)|refine aS ?_|refine reg (by kernel_rfl) ?_|refine lexE ?_)
    (refine popO rfl ?_;refine popW ?_ rfl (by rfl);refine n_call [0] rfl rfl (f1) ⟨rfl,by decide,by decide⟩ rfl (by simp[cX,zC,hΓ,cN]) ?_;rintro x0 σ1 nx1 ⟨q,a2,hq,⟨_,ha2⟩,rfl,rfl,rfl⟩ _)
    (repeat first|refine sN rfl ?_|((first|refine sA rfl ?_ ?_|refine s4 rfl ‹_› rfl ?_ ?_);first|exact tI|omega|(simp only[oZ] at *;omega))|(refine s2 rfl ?_;intro _ _hb)|(refine s3 rfl ?_ ?_<;>intro hb<;>subst hb)|refine aS ?_|refine reg (by kernel_rfl) ?_|refine lexE ?_)
    exact AWp.ret ⟨_,rfl,[0],eAut a2,[(0,rdO b (q))],⟨by intro i hi;match i with|0=>rfl,by decide⟩,rfl,by (repeat' first|exact tI|rfl|refine And.intro ?_ ?_)<;>(simp[cX,zC,hΓ,cN]<;>rfl),q,a2,by omega,⟨by have:=ha2.nx;omega,by have:=ha2.ac;omega,fun r hr=>by have:=ha2.row r hr;omega⟩,rfl,rfl,rfl⟩
  refine AWp.skip ?_
  obtain ⟨n1,m1,k1⟩:=num_ok (TB:=TB) b hb (p+1) (by omega) [3,6,7,5,1,0,2] (by decide) (by decide)
  have f1:=l3Over_ok (TB:=TB) b hb (p+1+1) (by omega) n1
  (repeat first|refine sN rfl ?_|((first|refine sA rfl ?_ ?_|refine s4 rfl ‹_› rfl ?_ ?_);first|exact tI|omega|(simp only[oZ] at *;omega))|(refine s2 rfl ?_;intro _ _hb)|(refine s3 rfl ?_ ?_<;>intro hb<;>subst hb)|refine aS ?_|refine reg (by kernel_rfl) ?_|refine lexE ?_)
  (refine popO rfl ?_;refine popW ?_ rfl (by rfl);refine n_call [0] rfl rfl (k1) ⟨rfl,by decide,by decide⟩ rfl (by simp[cX,zC,hΓ,cN]) ?_;rintro x0 σ1 nx1 ⟨rfl,rfl,rfl⟩ _)
  (repeat first|refine sN rfl ?_|((first|refine sA rfl ?_ ?_|refine s4 rfl ‹_› rfl ?_ ?_);first|exact tI|omega|(simp only[oZ] at *;omega))|(refine s2 rfl ?_;intro _ _hb)|(refine s3 rfl ?_ ?_<;>intro hb<;>subst hb)|refine aS ?_|refine reg (by kernel_rfl) ?_|refine lexE ?_)
  (refine popO rfl ?_;refine popW ?_ rfl (by rfl);refine n_call [0] rfl rfl (f1) ⟨rfl,by decide,by decide⟩ rfl (by simp[cX,zC,hΓ,cN]) ?_;rintro x0 σ1 nx1 ⟨q,a2,hq,⟨_,ha2⟩,rfl,rfl,rfl⟩ _)
  (repeat first|refine sN rfl ?_|((first|refine sA rfl ?_ ?_|refine s4 rfl ‹_› rfl ?_ ?_);first|exact tI|omega|(simp only[oZ] at *;omega))|(refine s2 rfl ?_;intro _ _hb)|(refine s3 rfl ?_ ?_<;>intro hb<;>subst hb)|refine aS ?_|refine reg (by kernel_rfl) ?_|refine lexE ?_)
  exact AWp.ret ⟨_,rfl,[0],eAut a2,[(0,rdO b (q))],⟨by intro i hi;match i with|0=>rfl,by decide⟩,rfl,by (repeat' first|exact tI|rfl|refine And.intro ?_ ?_)<;>(simp[cX,zC,hΓ,cN]<;>rfl),q,a2,by omega,⟨by have:=ha2.nx;omega,by have:=ha2.ac;omega,fun r hr=>by have:=ha2.row r hr;omega⟩,rfl,rfl,rfl⟩
end Go.Am
namespace Go.Am
open Go Go.Proofs
set_option maxHeartbeats 1000000
attribute [local irreducible] QOp AOp Lex LexO AWp Spec
variable {TB:Amb}
theorem ABd.mono {m n:Nat} {a:Aut} (h:ABd m a) (hm:m≤n):ABd n a:=⟨Nat.le_trans h.nx hm,Nat.le_trans h.ac hm,fun r hr=>Nat.le_trans (h.row r hr) hm⟩
abbrev auRowC (a:Aut):List C:=[.d (iD a.al),.d (iiList a.nx),.d (bList a.ac)]
end Go.Am
namespace Go.Am
open Go Go.Proofs
set_option maxHeartbeats 1000000
attribute [local irreducible] QOp AOp Lex LexO AWp Spec
variable {TB:Amb}
end Go.Am
namespace Go.Am
open Go Go.Proofs
set_option maxHeartbeats 1000000
attribute [local irreducible] QOp AOp Lex LexO AWp Spec
variable {TB:Amb}
end Go.Am
namespace Go.Am
open Go Go.Proofs
set_option maxHeartbeats 1000000
attribute [local irreducible] QOp AOp Lex LexO AWp Spec
variable {TB:Amb}
end Go.Am
namespace Go.Am
open Go Go.Proofs
set_option maxHeartbeats 1000000
attribute [local irreducible] QOp AOp Lex LexO AWp Spec
variable {TB:Amb}
end Go.Am
namespace Go.Am
open Go Go.Proofs
set_option maxHeartbeats 1000000
attribute [local irreducible] QOp AOp Lex LexO AWp Spec
variable {TB:Amb}
end Go.Am
namespace Go.Am
open Go Go.Proofs
set_option maxHeartbeats 1000000
attribute [local irreducible] QOp AOp Lex LexO AWp Spec
variable {TB:Amb}
abbrev taRow (t:Tab):List D:=[tList t.rows,tList t.cols]
abbrev eTab (t:Tab):E:=.a [.d (tList t.rows),.d (tList t.cols)]
abbrev eOra (al:Int) (c:C):E:=.a [.d (iD al),c]
mutual
theorem ren_pur:∀(c:C),c.pur=true→∀r,c.ren r=c
  | .d x,_,r=>rfl
  | .fn g cap,h,r=>by
    simp only [C.pur] at h
    simp only [C.ren,renL_pur cap h r]
  | .arr ..,h,_=>by cases h
  | .ptr ..,h,_=>by cases h
  | .mp ..,h,_=>by cases h
  | .mv g l,h,r=>by
    simp only [C.pur] at h
    simp only [C.ren,renL_pur l h r]
theorem renL_pur:∀(l:List C),C.purL l=true→∀r,C.renL r l=l
  | [],_,r=>rfl
  | c::l,h,r=>by
    simp only [C.purL,Bool.and_eq_true] at h
    simp only [C.renL,ren_pur c h.1 r,renL_pur l h.2 r]
end
structure AskV (P:Program) (TB:Amb) (c:C) (L:W→Bool) (ok:W→Prop):Prop where
  pur:c.pur=true
  ask:∀ {Γ:Ctx} {d:Option Tmp} {ty:TypeId} {pos:String} {af:Array Edge} {g:Option (Nat×Bool)} {f:Env} {σ:Store} {nx:Nat} {x a:Operand} {tys:Array TypeId} {w:W},
    ev f x=some (.o c)→ev f a=some (eT w)→ok w→QOp P TB Γ ⟨d,.call ⟨.value x,#[a],tys⟩,ty,pos,af,g⟩ f σ nx (eB (L w))
theorem AskV.of {P:Program} {g:FuncId} {cap:List C} {L:W→Bool} {ok:W→Prop} (hc:C.purL cap=true) (h:∀w,ok w→Pure P TB g ([eT w]++cap.map .o) (eB (L w))):AskV P TB (.fn g cap) L ok:=
  ⟨hc,fun hx ha hw=>q_call (es:=[eT _]) hx (by simp [evs,ha]) (by simp [E.pur,C.pur,hc]) (h _ hw) rfl⟩
def mkH (L:W→Bool) (cols:List W) (w:W) (k:Nat) (i:Nat):UInt8:=if i < k then mkB (L (w++cols.getD i [])) else 0
theorem marks_rows (L:W→Bool) (cols:List W) (w:W):(rowsF cols.length fun i=>byC (mkH L cols w cols.length i))=(marks L cols w).map byC:=by
  apply List.ext_getElem?
  intro i
  by_cases h:i < cols.length
  · rw [rowsF_get h]
    simp [marks,mkH,h]
  · rw [List.getElem?_eq_none (by simp [rowsF];omega),List.getElem?_eq_none (by simp [marks];omega)]
theorem byC0:byC 0=[C.d (D.v (Value.int IntKind.u8 0))]:=rfl
theorem mkH_0 (L:W→Bool) (cols:List W) (w:W) (n:Nat):(rowsF n fun i=>byC (mkH L cols w 0 i))=List.replicate n (byC 0):=by
  apply List.ext_getElem?
  intro i
  by_cases h:i < n
  · rw [rowsF_get h];simp [mkH,h]
  · rw [List.getElem?_eq_none (by simp [rowsF];omega),List.getElem?_eq_none (by simp;omega)]
theorem mkH_step {L:W→Bool} {cols:List W} {w x:W} {k:Nat} (hx:cols[k]? = some x):(rowsF cols.length fun i=>byC (if i=k then mkB (L (w++x)) else mkH L cols w k i))=rowsF cols.length fun i=>byC (mkH L cols w (k+1) i):=by
  refine rowsF_congr fun i _=>?_
  congr 1
  unfold mkH
  by_cases h:i=k
  · subst h
    rw [if_pos rfl,if_pos (by omega)]
    simp [hx]
  · rw [if_neg h]
    by_cases h2:i < k
    · rw [if_pos h2,if_pos (by omega)]
    · rw [if_neg h2,if_neg (by omega)]
theorem marks_ok {c:C} {L:W→Bool} {ok:W→Prop} (hc:AskV Tryz.prog TB c L ok) (al:Int) (t:Tab) (w:W) (hl:t.cols.length≤1048576) (hk:∀x∈t.cols,ok (w++x)) (hb:∀x∈t.cols,w.length+x.length≤1048576) :
    Pure Tryz.prog TB 83 [eOra al c,eTab t,eT w] (eT (marks L t.cols w)):=by
  have hr:=ren_pur c hc.pur
  refine eN Tryz.func83 rfl (by kernel_rfl) rfl ?_;intro Γ hΓ
  (repeat first|refine sN rfl ?_|((first|refine sM rfl ?_ ?_|refine s4 rfl ‹_› rfl ?_ ?_);first|exact tI|omega|(simp only[oZ] at *;omega))|(refine s2 rfl ?_;intro _ _hb)|(refine s3 rfl ?_ ?_<;>intro hb<;>subst hb)|refine aS ?_|refine reg (by kernel_rfl) ?_|refine lexE ?_|refine rD (by kernel_rfl) (by kernel_rfl) ?_)
  (refine popO rfl ?_;refine popW ?_ rfl (by rfl);refine n_box rfl rfl ?_)
  (refine popO rfl ?_;refine popS (fun _ _=>q_boxI rfl rfl rfl) rfl ?_)
  (repeat first|refine sN rfl ?_|((first|refine sM rfl ?_ ?_|refine s4 rfl ‹_› rfl ?_ ?_);first|exact tI|omega|(simp only[oZ] at *;omega))|(refine s2 rfl ?_;intro _ _hb)|(refine s3 rfl ?_ ?_<;>intro hb<;>subst hb)|refine aS ?_|refine reg (by kernel_rfl) ?_|refine lexE ?_|refine rD (by kernel_rfl) (by kernel_rfl) ?_)
  (refine popO rfl ?_;refine popW ?_ rfl (by rfl);refine n_make rfl rfl (by rfl) (by rfl) (Nat.le_of_ble_eq_true rfl) (by omega) (by omega) (by omega) ?_)
  (repeat first|refine sN rfl ?_|((first|refine sM rfl ?_ ?_|refine s4 rfl ‹_› rfl ?_ ?_);first|exact tI|omega|(simp only[oZ] at *;omega))|(refine s2 rfl ?_;intro _ _hb)|(refine s3 rfl ?_ ?_<;>intro hb<;>subst hb)|refine aS ?_|refine reg (by kernel_rfl) ?_|refine lexE ?_|refine rD (by kernel_rfl) (by kernel_rfl) ?_)
  refine AWp.block ?_
  refine AWp.loopL (α:={k:Nat // k≤t.cols.length}) (fun ⟨k,hkl⟩=>[(2,eT w),(3,.o (.ptr 0 2 0 0)),(7,.o (.arr 1 1 0 t.cols.length)),(15,.o (.d (tList t.cols))),(16,eI .i64 t.cols.length),(17,eI .i64 k)]) (fun ⟨k,hkl⟩=>[(1,.cells 5 1 (rowsF t.cols.length fun i=>byC (mkH L t.cols w k i))),(0,.cells 77 2 [[.d (iD al),c]])]) 2 (fun ⟨k,hkl⟩=>t.cols.length - k) (⟨0,by omega⟩) [0,1] (rl3 hΓ rfl rfl) (by (repeat' first|exact tI|rfl|refine And.intro ?_ ?_)<;>simp[cX,zC,hΓ,ren_by,hr,mkH_0,eC,renL_byC,byC0]) ?_;rintro ⟨k,hkl⟩;(try dsimp only)
  (repeat first|refine sN rfl ?_|((first|refine sM rfl ?_ ?_|refine s4 rfl ‹_› rfl ?_ ?_);first|exact tI|omega|(simp only[oZ] at *;omega))|(refine s2 rfl ?_;intro _ _hb)|(refine s3 rfl ?_ ?_<;>intro hb<;>subst hb)|refine aS ?_|refine reg (by kernel_rfl) ?_|refine lexE ?_|refine rD (by kernel_rfl) (by kernel_rfl) ?_)
  (refine aC rfl ?_ ?_<;>intro hb<;>cases hb)
  · have hlt:k < t.cols.length:=by first|omega|(simp only[oZ] at *;omega)
    obtain ⟨x,hx⟩:=get_some (l:=t.cols) (k:=k) hlt
    have hx':=get_map (g:=tRow) hx
    have hxm:=List.mem_of_getElem? hx
    have hxb:=hb x hxm
    have hok:=hk x hxm
    have hg:=getA_by (H:=mkH L t.cols w k) (q:=k) (n:=t.cols.length) hlt
    have hs1:(rowsF t.cols.length fun i=>byC (mkH L t.cols w k i)).set (0+((k:Nat):Int).toNat) (spliceC (byC (mkH L t.cols w k k)) 0 (eC (eI .u8 45)))=rowsF t.cols.length fun i=>byC (if i=k then 45 else mkH L t.cols w k i):=setA_by (c:=45)
    have hg2:=getA_by (H:=fun i=>if i=k then 45 else mkH L t.cols w k i) (q:=k) (n:=t.cols.length) hlt
    rw [←hs1] at hg2
    have hs2:(rowsF t.cols.length fun i=>byC (if i=k then 45 else mkH L t.cols w k i)).set (0+((k:Nat):Int).toNat) (spliceC (byC (if k=k then 45 else mkH L t.cols w k k)) 0 (eC (eI .u8 43)))=rowsF t.cols.length fun i=>byC (if i=k then 43 else mkH L t.cols w k i):=by
      refine (setA_by (H:=fun i=>if i=k then 45 else mkH L t.cols w k i) (c:=43)).trans ?_
      refine rowsF_congr fun i _=>?_
      by_cases h:i=k<;>simp [h]
    have hst:=mkH_step (L:=L) (w:=w) hx
    refine AWp.skip ?_
    refine AWp.seq (AWp.block ?_)
    (repeat first|refine sN rfl ?_|((first|refine sM rfl ?_ ?_|refine s4 rfl ‹_› rfl ?_ ?_);first|exact tI|omega|(simp only[oZ] at *;omega))|(refine s2 rfl ?_;intro _ _hb)|(refine popO rfl ?_;refine gA rfl ?_;first|(refine gB (fun _ _=>hc.ask rfl rfl hok) ?_;intro _ _hb))|(refine s3 rfl ?_ ?_<;>intro hb<;>subst hb)|refine aS ?_|refine reg (by kernel_rfl) ?_|refine lexE ?_|refine rD (by kernel_rfl) (by kernel_rfl) ?_)
    (refine aC rfl ?_ ?_<;>intro hb<;>cases hb)
    · (repeat first|refine sN rfl ?_|((first|refine sM rfl ?_ ?_|refine s4 rfl ‹_› rfl ?_ ?_);first|exact tI|omega|(simp only[oZ] at *;omega))|(refine s2 rfl ?_;intro _ _hb)|(refine s3 rfl ?_ ?_<;>intro hb<;>subst hb)|refine aS ?_|refine reg (by kernel_rfl) ?_|refine lexE ?_|refine rD (by kernel_rfl) (by kernel_rfl) ?_)
      refine ⟨⟨k+1,by first|omega|(simp only[oZ] at *;omega)⟩,by dsimp only;(first|omega|(simp only[oZ] at *;omega)),[0,1],?_⟩
      rw [hs1,hs2]
      rw [_hb] at hst
      have e43:mkB true=43:=rfl
      have e45:mkB false=45:=rfl
      simp only [e43,e45] at hst
      simp[cX,zC,hΓ,ren_by,hr,hst]
    · refine AWp.skip ?_
      (repeat first|refine sN rfl ?_|((first|refine sM rfl ?_ ?_|refine s4 rfl ‹_› rfl ?_ ?_);first|exact tI|omega|(simp only[oZ] at *;omega))|(refine s2 rfl ?_;intro _ _hb)|(refine s3 rfl ?_ ?_<;>intro hb<;>subst hb)|refine aS ?_|refine reg (by kernel_rfl) ?_|refine lexE ?_|refine rD (by kernel_rfl) (by kernel_rfl) ?_)
      refine ⟨⟨k+1,by first|omega|(simp only[oZ] at *;omega)⟩,by dsimp only;(first|omega|(simp only[oZ] at *;omega)),[0,1],?_⟩
      rw [hs1]
      rw [_hb] at hst
      have e43:mkB true=43:=rfl
      have e45:mkB false=45:=rfl
      simp only [e43,e45] at hst
      simp[cX,zC,hΓ,ren_by,hr,hst]
  · obtain rfl:k=t.cols.length:=by first|omega|(simp only[oZ] at *;omega)
    rw [marks_rows]
    refine AWp.exit ?_
    (repeat first|refine sN rfl ?_|((first|refine sM rfl ?_ ?_|refine s4 rfl ‹_› rfl ?_ ?_);first|exact tI|omega|(simp only[oZ] at *;omega))|(refine s2 rfl ?_;intro _ _hb)|(refine popO rfl ?_;refine gA rfl ?_;first|refine gQ (q_textA (marks L t.cols w) rfl rfl (by simp [marks]) (by rw [List.drop_zero,List.take_of_length_le (by simp [marks])])) (by rfl) ?_)|(refine s3 rfl ?_ ?_<;>intro hb<;>subst hb)|refine aS ?_|refine reg (by kernel_rfl) ?_|refine lexE ?_|refine rD (by kernel_rfl) (by kernel_rfl) ?_)
    refine AWp.ret ⟨_,rfl,rfl⟩
end Go.Am
namespace Go.Am
open Go Go.Proofs
set_option maxHeartbeats 1000000
attribute [local irreducible] QOp AOp Lex LexO AWp Spec
variable {TB:Amb}
def numsTo (L:W→Bool) (t:Tab):Nat→List (W×Int)
  | 0=>[]
  | k+1=>if (findT (numsTo L t k) (marks L t.cols (t.rows.getD k []))).isSome then numsTo L t k else numsTo L t k++[(marks L t.cols (t.rows.getD k []),(k:Int))]
structure AskOk (ok:W→Prop) (t:Tab):Prop where
  ok:∀w∈t.rows,∀x∈t.cols,ok (w++x)
  rb:∀w∈t.rows,w.length≤65536
  cb:∀x∈t.cols,x.length≤65536
  rl:t.rows.length≤4096
  cl:t.cols.length≤4096
theorem rowNumbers_ok {c:C} {L:W→Bool} {ok:W→Prop} (hc:AskV Tryz.prog TB c L ok) (al:Int) (t:Tab) (ht:AskOk ok t) :
    Spec Tryz.prog TB 81 [] 0 [eOra al c,eTab t] (fun x σ nx=>x=.o (.mp 0)∧nx=1∧σ=[(0,.mp (mapT (numsTo L t t.rows.length)))]):=by
  have hr:=ren_pur c hc.pur
  have hrl:=ht.rl
  refine eN Tryz.func81 rfl (by kernel_rfl) rfl ?_;intro Γ hΓ
  (repeat first|refine sN rfl ?_|((first|refine sM rfl ?_ ?_|refine s4 rfl ‹_› rfl ?_ ?_);first|exact tI|omega|(simp only[oZ] at *;omega))|(refine s2 rfl ?_;intro _ _hb)|(refine s3 rfl ?_ ?_<;>intro hb<;>subst hb)|refine aS ?_|refine reg (by kernel_rfl) ?_|refine lexE ?_|refine rD (by kernel_rfl) (by kernel_rfl) ?_)
  (refine popO rfl ?_;refine popW ?_ rfl (by rfl);refine n_box rfl rfl ?_)
  (refine popO rfl ?_;refine popS (fun _ _=>q_boxI rfl rfl rfl) rfl ?_)
  (repeat first|refine sN rfl ?_|((first|refine sM rfl ?_ ?_|refine s4 rfl ‹_› rfl ?_ ?_);first|exact tI|omega|(simp only[oZ] at *;omega))|(refine s2 rfl ?_;intro _ _hb)|(refine s3 rfl ?_ ?_<;>intro hb<;>subst hb)|refine aS ?_|refine reg (by kernel_rfl) ?_|refine lexE ?_|refine rD (by kernel_rfl) (by kernel_rfl) ?_)
  (refine popO rfl ?_;refine popW ?_ rfl (by rfl);refine n_makeMap ?_)
  (repeat first|refine sN rfl ?_|((first|refine sM rfl ?_ ?_|refine s4 rfl ‹_› rfl ?_ ?_);first|exact tI|omega|(simp only[oZ] at *;omega))|(refine s2 rfl ?_;intro _ _hb)|(refine s3 rfl ?_ ?_<;>intro hb<;>subst hb)|refine aS ?_|refine reg (by kernel_rfl) ?_|refine lexE ?_|refine rD (by kernel_rfl) (by kernel_rfl) ?_)
  refine AWp.block ?_
  refine AWp.loopL (α:={k:Nat // k≤t.rows.length}) (fun ⟨k,hkl⟩=>[(2,.o (.ptr 0 2 0 0)),(3,.o (.ip (taRow t))),(5,.o (.mp 1)),(13,.o (.d (tList t.rows))),(14,eI .i64 t.rows.length),(15,eI .i64 k)]) (fun ⟨k,hkl⟩=>[(1,.mp (mapT (numsTo L t k))),(0,.cells 77 2 [[.d (iD al),c]])]) 2 (fun ⟨k,hkl⟩=>t.rows.length - k) (⟨0,by omega⟩) [0,1] (rl3 hΓ rfl rfl) (by (repeat' first|exact tI|rfl|refine And.intro ?_ ?_)<;>simp[cX,zC,hΓ,hr,eC,numsTo,mapT]) ?_;rintro ⟨k,hkl⟩;(try dsimp only)
  (repeat first|refine sN rfl ?_|((first|refine sM rfl ?_ ?_|refine s4 rfl ‹_› rfl ?_ ?_);first|exact tI|omega|(simp only[oZ] at *;omega))|(refine s2 rfl ?_;intro _ _hb)|(refine s3 rfl ?_ ?_<;>intro hb<;>subst hb)|refine aS ?_|refine reg (by kernel_rfl) ?_|refine lexE ?_|refine rD (by kernel_rfl) (by kernel_rfl) ?_)
  (refine aC rfl ?_ ?_<;>intro hb<;>cases hb)
  · have hlt:k < t.rows.length:=by first|omega|(simp only[oZ] at *;omega)
    obtain ⟨x,hx⟩:=get_some (l:=t.rows) (k:=k) hlt
    have hx':=get_map (g:=tRow) hx
    have hxm:=List.mem_of_getElem? hx
    have hxb:=ht.rb x hxm
    have hm:=marks_ok hc al t x (by have:=ht.cl;omega) (ht.ok x hxm) (fun y hy=>by have:=ht.cb y hy;omega)
    have hgd:t.rows.getD k []=x:=by simp [hx]
    have hstep:numsTo L t (k+1)=if (findT (numsTo L t k) (marks L t.cols x)).isSome then numsTo L t k else numsTo L t k++[(marks L t.cols x,(k:Int))]:=by
      rw [numsTo,hgd]
    refine AWp.skip ?_
    refine AWp.seq (AWp.block ?_)
    (repeat first|refine sN rfl ?_|((first|refine sM rfl ?_ ?_|refine s4 rfl ‹_› rfl ?_ ?_);first|exact tI|omega|(simp only[oZ] at *;omega))|(refine s2 rfl ?_;intro _ _hb)|(refine popO rfl ?_;refine gA rfl ?_;first|refine gS (fun _ _=>q_call rfl rfl (by simp [E.pur,C.purL,C.pur,hc.pur]) hm rfl) ?_|refine gQ (q_look rfl rfl rfl) (by rfl) ?_)|(refine s3 rfl ?_ ?_<;>intro hb<;>subst hb)|refine aS ?_|refine reg (by kernel_rfl) ?_|refine lexE ?_|refine rD (by kernel_rfl) (by kernel_rfl) ?_)
    (refine aC rfl ?_ ?_<;>intro hb<;>cases hb)
    · have hn:findT (numsTo L t k) (marks L t.cols x)=none:=by simpa using _hb
      rw [hn] at hstep
      (repeat first|refine sN rfl ?_|((first|refine sM rfl ?_ ?_|refine s4 rfl ‹_› rfl ?_ ?_);first|exact tI|omega|(simp only[oZ] at *;omega))|(refine s2 rfl ?_;intro _ _hb)|(refine s3 rfl ?_ ?_<;>intro hb<;>subst hb)|refine aS ?_|refine reg (by kernel_rfl) ?_|refine lexE ?_|refine rD (by kernel_rfl) (by kernel_rfl) ?_)
      (refine popO rfl ?_;refine popW0 ?_ rfl (by rfl);refine n_put rfl rfl rfl rfl hn ?_)
      (repeat first|refine sN rfl ?_|((first|refine sM rfl ?_ ?_|refine s4 rfl ‹_› rfl ?_ ?_);first|exact tI|omega|(simp only[oZ] at *;omega))|(refine s2 rfl ?_;intro _ _hb)|(refine s3 rfl ?_ ?_<;>intro hb<;>subst hb)|refine aS ?_|refine reg (by kernel_rfl) ?_|refine lexE ?_|refine rD (by kernel_rfl) (by kernel_rfl) ?_)
      refine ⟨⟨k+1,by first|omega|(simp only[oZ] at *;omega)⟩,by dsimp only;(first|omega|(simp only[oZ] at *;omega)),[0,1],?_⟩
      simp[cX,zC,hΓ,hr,hstep]
    · have hn:(findT (numsTo L t k) (marks L t.cols x)).isSome=true:=by simpa using _hb
      rw [if_pos hn] at hstep
      refine AWp.skip ?_
      (repeat first|refine sN rfl ?_|((first|refine sM rfl ?_ ?_|refine s4 rfl ‹_› rfl ?_ ?_);first|exact tI|omega|(simp only[oZ] at *;omega))|(refine s2 rfl ?_;intro _ _hb)|(refine s3 rfl ?_ ?_<;>intro hb<;>subst hb)|refine aS ?_|refine reg (by kernel_rfl) ?_|refine lexE ?_|refine rD (by kernel_rfl) (by kernel_rfl) ?_)
      refine ⟨⟨k+1,by first|omega|(simp only[oZ] at *;omega)⟩,by dsimp only;(first|omega|(simp only[oZ] at *;omega)),[0,1],?_⟩
      simp[cX,zC,hΓ,hr,hstep]
  · obtain rfl:k=t.rows.length:=by first|omega|(simp only[oZ] at *;omega)
    refine AWp.exit ?_
    (repeat first|refine sN rfl ?_|((first|refine sM rfl ?_ ?_|refine s4 rfl ‹_› rfl ?_ ?_);first|exact tI|omega|(simp only[oZ] at *;omega))|(refine s2 rfl ?_;intro _ _hb)|(refine s3 rfl ?_ ?_<;>intro hb<;>subst hb)|refine aS ?_|refine reg (by kernel_rfl) ?_|refine lexE ?_|refine rD (by kernel_rfl) (by kernel_rfl) ?_)
    refine AWp.names [1] [(4,.o (.mp 0))] [(0,.mp (mapT (numsTo L t t.rows.length)))] (by intro i hi;rw [hΓ] at hi;omega) (by simp) (by simp[cX,zC,hΓ]) (by simp[cX,zC,hΓ]) ?_
    refine AWp.ret ⟨_,rfl,rfl,rfl,rfl⟩
end Go.Am
namespace Go.Am
open Go Go.Proofs
set_option maxHeartbeats 1000000
attribute [local irreducible] QOp AOp Lex LexO AWp Spec
variable {TB:Amb}
theorem findT_app (l:List (W×Int)) (p:W×Int) (s:W):findT (l++[p]) s=(findT l s).or (if p.1=s then some p.2 else none):=by
  unfold findT
  rw [List.find?_append]
  cases h:l.find? (fun p=>decide (p.1=s)) with
  | some q=>simp
  | none=>by_cases hp:p.1=s<;>simp [hp]
theorem rowsM_getD {L:W→Bool} {t:Tab} {k:Nat} (h:k < t.rows.length):(rowsM L t)[k]? = some (marks L t.cols (t.rows.getD k [])):=by
  simp [rowsM,h]
theorem nums_find (L:W→Bool) (t:Tab):∀k,k≤t.rows.length→∀s,findT (numsTo L t k) s=if s∈(rowsM L t).take k then some (((rowsM L t).idxOf s:Nat):Int) else none
  | 0,_,s=>by simp [numsTo,findT]
  | k + 1, hk, s=>by
    have ih:=nums_find L t k (by omega)
    have hx:=rowsM_getD (L:=L) (t:=t) (k:=k) (by omega)
    generalize marks L t.cols (t.rows.getD k [])=x at *
    have hst:numsTo L t (k+1)=if (findT (numsTo L t k) x).isSome then numsTo L t k else numsTo L t k++[(x,(k:Int))]:=by
      have hx2:=rowsM_getD (L:=L) (t:=t) (k:=k) (by omega)
      rw [hx] at hx2
      injection hx2 with hx2
      rw [numsTo,←hx2]
    have htk:∀s,s∈(rowsM L t).take (k+1)↔s∈(rowsM L t).take k∨s=x:=fun s=>by
      rw [List.take_add_one,hx];simp
    rw [hst]
    by_cases hm:x∈(rowsM L t).take k
    · rw [if_pos (by rw [ih x,if_pos hm];rfl),ih s]
      by_cases hs:s∈(rowsM L t).take k
      · rw [if_pos hs,if_pos ((htk s).2 (.inl hs))]
      · rw [if_neg hs,if_neg]
        intro h
        rcases (htk s).1 h with h|h
        · exact hs h
        · subst h;exact hs hm
    · rw [if_neg (by rw [ih x,if_neg hm];simp),findT_app,ih s]
      by_cases hs:s∈(rowsM L t).take k
      · rw [if_pos hs,if_pos ((htk s).2 (.inl hs))];rfl
      · rw [if_neg hs]
        by_cases he:x=s
        · subst he
          rw [if_pos ((htk x).2 (.inr rfl))]
          have hix:(rowsM L t).idxOf x=k:=by
            have hl:k < (rowsM L t).length:=(List.getElem?_eq_some_iff.1 hx).1
            have e:rowsM L t=(rowsM L t).take k++x::(rowsM L t).drop (k+1):=by
              rw [←drop_some hx,List.take_append_drop]
            rw [e,List.idxOf_append,if_neg hm,List.idxOf_cons_self]
            simp;omega
          simp [hix]
        · have hns:s∉(rowsM L t).take (k+1):=fun h=>by
            rcases (htk s).1 h with h|h
            · exact hs h
            · exact he h.symm
          rw [if_neg hns]
          simp [he]
theorem nums_all {L:W→Bool} {t:Tab} {s:W}:findT (numsTo L t t.rows.length) s=if s∈rowsM L t then some (((rowsM L t).idxOf s:Nat):Int) else none:=by
  have h:=nums_find L t t.rows.length (Nat.le_refl _) s
  have e:(rowsM L t).take t.rows.length=rowsM L t:=List.take_of_length_le (by simp [rowsM])
  rwa [e] at h
theorem open_at {L:W→Bool} {ls:List UInt8} {t:Tab} {k j:Nat} {r:W} {l:UInt8} (hr:t.rows[k]? = some r) (hl:ls[j]? = some l) (h1:∀w∈nextsB ls (t.rows.take k),marks L t.cols w∈rowsM L t) (h2:∀x∈ls.take j,marks L t.cols (r++[x])∈rowsM L t)
    (h3:marks L t.cols (r++[l])∉rowsM L t):openW L ls t=some (r++[l]):=by
  have e1:t.rows=t.rows.take k++r::t.rows.drop (k+1):=by
    rw [←drop_some hr,List.take_append_drop]
  have e2:ls=ls.take j++l::ls.drop (j+1):=by
    rw [←drop_some hl,List.take_append_drop]
  have e3:nextsB ls t.rows=nextsB ls (t.rows.take k)++((ls.take j).map (fun x=>r++[x])++(r++[l])::((ls.drop (j+1)).map (fun x=>r++[x])++nextsB ls (t.rows.drop (k+1)))):=by
    have h4:nextsB ls t.rows=nextsB ls (t.rows.take k++r::t.rows.drop (k+1)):=congrArg _ e1
    rw [h4]
    unfold nextsB
    rw [List.flatMap_append,List.flatMap_cons]
    have h5:ls.map (fun x=>r++[x])=(ls.take j++l::ls.drop (j+1)).map (fun x=>r++[x]):=congrArg _ e2
    rw [h5]
    simp
  unfold openW
  rw [e3,List.find?_append,List.find?_append]
  have n1:(nextsB ls (t.rows.take k)).find? (fun w=>!(rowsM L t).contains (marks L t.cols w))=none:=List.find?_eq_none.2 fun w hw=>by simpa using h1 w hw
  have n2:((ls.take j).map (fun x=>r++[x])).find? (fun w=>!(rowsM L t).contains (marks L t.cols w))=none:=List.find?_eq_none.2 fun w hw=>by
    obtain ⟨x,hx,rfl⟩:=List.mem_map.1 hw
    simpa using h2 x hx
  rw [n1,n2]
  simp [h3]
def lb (l:Int):UInt8:=UInt8.ofNat (97+l.toNat)
def lsB (al:Int):List UInt8:=(letters al).map lb
def eOpt (o:Option W):E:=match o with
  | some w=>.t [(false,[.d (tD w)]),(false,[.d (bD true)])]
  | none=>.t [(false,[.d (tD [])]),(false,[.d (bD false)])]
end Go.Am
namespace Go.Am
open Go Go.Proofs
set_option maxHeartbeats 1000000
attribute [local irreducible] QOp AOp Lex LexO AWp Spec
variable {TB:Amb}
theorem lb_of {l:Int} (h0:0≤l):UInt8.ofNat (97+l).toNat=lb l:=by
  unfold lb
  congr 1
  omega
theorem find_mem {L:W→Bool} {t:Tab} {s:W}:(findT (numsTo L t t.rows.length) s).isSome=true↔s∈rowsM L t:=by
  rw [nums_all]
  by_cases h:s∈rowsM L t<;>simp [h]
theorem nexts_take {ls:List UInt8} {t:Tab} {k:Nat} {r:W} (h:t.rows[k]? = some r):nextsB ls (t.rows.take (k+1))=nextsB ls (t.rows.take k)++ls.map fun l=>r++[l]:=by
  unfold nextsB
  rw [List.take_add_one,h]
  simp
theorem firstOpen_ok {c:C} {L:W→Bool} {ok:W→Prop} (hc:AskV Tryz.prog TB c L ok) (al:Int) (t:Tab) (ht:AskOk ok t) (hn:∀w∈t.rows,∀l∈lsB al,∀x∈t.cols,ok (w++[l]++x)) :
    Pure Tryz.prog TB 82 [eOra al c,eTab t] (eOpt (openW L (lsB al) t)):=by
  have hr:=ren_pur c hc.pur
  have hrl:=ht.rl
  have hla:(letters al).length≤6:=lettersTo_len al 6
  refine eN Tryz.func82 rfl (by kernel_rfl) rfl ?_;intro Γ hΓ
  (repeat first|refine sN rfl ?_|((first|refine sM rfl ?_ ?_|refine s4 rfl ‹_› rfl ?_ ?_);first|exact tI|omega|(simp only[oZ] at *;omega))|(refine s2 rfl ?_;intro _ _hb)|(refine s3 rfl ?_ ?_<;>intro hb<;>subst hb)|refine aS ?_|refine reg (by kernel_rfl) ?_|refine lexE ?_|refine rD (by kernel_rfl) (by kernel_rfl) ?_)
  (refine popO rfl ?_;refine popW ?_ rfl (by rfl);refine n_box rfl rfl ?_)
  (refine popO rfl ?_;refine popS (fun _ _=>q_boxI rfl rfl rfl) rfl ?_)
  (repeat first|refine sN rfl ?_|((first|refine sM rfl ?_ ?_|refine s4 rfl ‹_› rfl ?_ ?_);first|exact tI|omega|(simp only[oZ] at *;omega))|(refine s2 rfl ?_;intro _ _hb)|(refine s3 rfl ?_ ?_<;>intro hb<;>subst hb)|refine aS ?_|refine reg (by kernel_rfl) ?_|refine lexE ?_|refine rD (by kernel_rfl) (by kernel_rfl) ?_)
  (refine popO rfl ?_;refine popW ?_ rfl (by rfl);refine n_call [] rfl rfl (rowNumbers_ok hc al t ht) ⟨rfl,by simp,by simp⟩ (by simp [renEs,E.ren,C.renL,C.ren,hr,eC]) trivial ?_;rintro x0 σ1 nx1 ⟨rfl,rfl,rfl⟩ _)
  (repeat first|refine sN rfl ?_|((first|refine sM rfl ?_ ?_|refine s4 rfl ‹_› rfl ?_ ?_);first|exact tI|omega|(simp only[oZ] at *;omega))|(refine s2 rfl ?_;intro _ _hb)|(refine s3 rfl ?_ ?_<;>intro hb<;>subst hb)|refine aS ?_|refine reg (by kernel_rfl) ?_|refine lexE ?_|refine rD (by kernel_rfl) (by kernel_rfl) ?_)
  refine AWp.block ?_
  refine AWp.loopL (α:={k:Nat // k≤t.rows.length∧∀w∈nextsB (lsB al) (t.rows.take k),marks L t.cols w∈rowsM L t}) (fun ⟨k,hkl,hkd⟩=>[(2,.o (.ptr 0 2 0 0)),(3,.o (.ip (taRow t))),(6,.o (.mp 1)),(18,.o (.d (tList t.rows))),(19,eI .i64 t.rows.length),(20,eI .i64 k)]) (fun ⟨k,hkl,hkd⟩=>[(1,.mp (mapT (numsTo L t t.rows.length))),(0,.cells 77 2 [[.d (iD al),c]])]) 2 (fun ⟨k,hkl,hkd⟩=>t.rows.length - k) (⟨0,by omega,by simp [nextsB]⟩) [0,1] (rl3 hΓ rfl rfl) (by (repeat' first|exact tI|rfl|refine And.intro ?_ ?_)<;>simp[cX,zC,hΓ,hr,eC,Store.ren,killL,nmo]) ?_;rintro ⟨k,hkl,hkd⟩;(try dsimp only)
  (repeat first|refine sN rfl ?_|((first|refine sM rfl ?_ ?_|refine s4 rfl ‹_› rfl ?_ ?_);first|exact tI|omega|(simp only[oZ] at *;omega))|(refine s2 rfl ?_;intro _ _hb)|(refine s3 rfl ?_ ?_<;>intro hb<;>subst hb)|refine aS ?_|refine reg (by kernel_rfl) ?_|refine lexE ?_|refine rD (by kernel_rfl) (by kernel_rfl) ?_)
  (refine aC rfl ?_ ?_<;>intro hb<;>cases hb)
  · have hlt:k < t.rows.length:=by first|omega|(simp only[oZ] at *;omega)
    obtain ⟨r,hx⟩:=get_some (l:=t.rows) (k:=k) hlt
    have hx':=get_map (g:=tRow) hx
    have hxm:=List.mem_of_getElem? hx
    have hxb:=ht.rb r hxm
    refine AWp.skip ?_
    refine AWp.seq (AWp.block ?_)
    (repeat first|refine sN rfl ?_|((first|refine sM rfl ?_ ?_|refine s4 rfl ‹_› rfl ?_ ?_);first|exact tI|omega|(simp only[oZ] at *;omega))|(refine s2 rfl ?_;intro _ _hb) |refine sP rfl (lettersOf_ok al) rfl ?_|(refine s3 rfl ?_ ?_<;>intro hb<;>subst hb)|refine aS ?_|refine reg (by kernel_rfl) ?_|refine lexE ?_|refine rD (by kernel_rfl) (by kernel_rfl) ?_)
    refine AWp.block ?_
    refine AWp.loopL (α:={j:Nat // j≤(letters al).length∧∀x∈(lsB al).take j,marks L t.cols (r++[x])∈rowsM L t}) (fun ⟨j,hjl,hjd⟩=>[(2,.o (.ptr 0 2 0 0)),(3,.o (.ip (taRow t))),(6,.o (.mp 1)),(18,.o (.d (tList t.rows))),(19,eI .i64 t.rows.length),(20,eI .i64 k),(8,eT r),(26,eInts (letters al)),(27,eI .i64 (letters al).length),(28,eI .i64 j)]) (fun ⟨j,hjl,hjd⟩=>[(1,.mp (mapT (numsTo L t t.rows.length))),(0,.cells 77 2 [[.d (iD al),c]])]) 2 (fun ⟨j,hjl,hjd⟩=>(letters al).length - j) (⟨0,by omega,by simp⟩) [0,1] (rl3 hΓ rfl rfl) (by (repeat' first|exact tI|rfl|refine And.intro ?_ ?_)<;>simp[cX,zC,hΓ,hr]) ?_;rintro ⟨j,hjl,hjd⟩;(try dsimp only)
    (repeat first|refine sN rfl ?_|((first|refine sM rfl ?_ ?_|refine s4 rfl ‹_› rfl ?_ ?_);first|exact tI|omega|(simp only[oZ] at *;omega))|(refine s2 rfl ?_;intro _ _hb)|(refine s3 rfl ?_ ?_<;>intro hb<;>subst hb)|refine aS ?_|refine reg (by kernel_rfl) ?_|refine lexE ?_|refine rD (by kernel_rfl) (by kernel_rfl) ?_)
    (refine aC rfl ?_ ?_<;>intro hb<;>cases hb)
    · have hjlt:j < (letters al).length:=by first|omega|(simp only[oZ] at *;omega)
      obtain ⟨l,hl⟩:=get_some (l:=letters al) (k:=j) hjlt
      have hl':=get_map (g:=iRow) hl
      have hlb:=lettersTo_in (List.mem_of_getElem? hl)
      have hll:(lsB al)[j]? = some (lb l):=by simp [lsB,hl]
      have hlm:=List.mem_of_getElem? hll
      have hm:=marks_ok hc al t (r++[lb l]) (by have:=ht.cl;omega) (fun x hx=>hn r hxm _ hlm x hx) (fun y hy=>by have:=ht.cb y hy;simp;omega)
      refine AWp.skip ?_
      refine AWp.seq (AWp.block ?_)
      (repeat first|refine sN rfl ?_|((first|refine sM rfl ?_ ?_|refine s4 rfl ‹_› rfl ?_ ?_);first|exact tI|omega|(simp only[oZ] at *;omega))|(refine s2 rfl ?_;intro _ _hb) |refine sP rfl (letterByte_ok l hlb.1 (by omega)) rfl ?_|(refine popO rfl ?_;refine gA rfl ?_;first|refine gS (fun _ _=>q_rune rfl (by omega) (by omega)) ?_)|(refine s3 rfl ?_ ?_<;>intro hb<;>subst hb)|refine aS ?_|refine reg (by kernel_rfl) ?_|refine lexE ?_|refine rD (by kernel_rfl) (by kernel_rfl) ?_)
      rw [lb_of hlb.1]
      (repeat first|refine sN rfl ?_|((first|refine sM rfl ?_ ?_|refine s4 rfl ‹_› rfl ?_ ?_);first|exact tI|omega|(simp only[oZ] at *;omega))|(refine s2 rfl ?_;intro _ _hb)|(refine popO rfl ?_;refine gA rfl ?_;first|refine gS (fun _ _=>q_call rfl rfl (by simp [E.pur,C.purL,C.pur,hc.pur]) hm rfl) ?_|refine gQ (q_look rfl rfl rfl) (by rfl) ?_)|(refine s3 rfl ?_ ?_<;>intro hb<;>subst hb)|refine aS ?_|refine reg (by kernel_rfl) ?_|refine lexE ?_|refine rD (by kernel_rfl) (by kernel_rfl) ?_)
      (refine aC rfl ?_ ?_<;>intro hb<;>cases hb)
      · have hno:marks L t.cols (r++[lb l])∉rowsM L t:=fun h=>by
          rw [find_mem.2 h] at _hb
          cases _hb
        (repeat first|refine sN rfl ?_|((first|refine sM rfl ?_ ?_|refine s4 rfl ‹_› rfl ?_ ?_);first|exact tI|omega|(simp only[oZ] at *;omega))|(refine s2 rfl ?_;intro _ _hb)|(refine s3 rfl ?_ ?_<;>intro hb<;>subst hb)|refine aS ?_|refine reg (by kernel_rfl) ?_|refine lexE ?_|refine rD (by kernel_rfl) (by kernel_rfl) ?_)
        refine AWp.ret ⟨_,rfl,?_⟩
        rw [open_at hx hll hkd hjd hno]
        rfl
      · have hyes:marks L t.cols (r++[lb l])∈rowsM L t:=find_mem.1 (by simpa using _hb)
        have hjd2:∀x∈(lsB al).take (j+1),marks L t.cols (r++[x])∈rowsM L t:=fun x hx=>by
          rw [List.take_add_one,hll] at hx
          rcases List.mem_append.1 hx with hx|hx
          · exact hjd x hx
          · simp at hx;subst hx;exact hyes
        refine AWp.skip ?_
        (repeat first|refine sN rfl ?_|((first|refine sM rfl ?_ ?_|refine s4 rfl ‹_› rfl ?_ ?_);first|exact tI|omega|(simp only[oZ] at *;omega))|(refine s2 rfl ?_;intro _ _hb)|(refine s3 rfl ?_ ?_<;>intro hb<;>subst hb)|refine aS ?_|refine reg (by kernel_rfl) ?_|refine lexE ?_|refine rD (by kernel_rfl) (by kernel_rfl) ?_)
        refine ⟨⟨j+1,by first|omega|(simp only[oZ] at *;omega),hjd2⟩,by dsimp only;(first|omega|(simp only[oZ] at *;omega)),[0,1],?_⟩
        simp[cX,zC,hΓ,hr]
    · obtain rfl:j=(letters al).length:=by first|omega|(simp only[oZ] at *;omega)
      have hkd2:∀w∈nextsB (lsB al) (t.rows.take (k+1)),marks L t.cols w∈rowsM L t:=fun w hw=>by
        rw [nexts_take hx] at hw
        rcases List.mem_append.1 hw with hw|hw
        · exact hkd w hw
        · obtain ⟨x,hx2,rfl⟩:=List.mem_map.1 hw
          exact hjd x (by rw [List.take_of_length_le (by simp [lsB])];exact hx2)
      refine AWp.exit ?_
      (repeat first|refine sN rfl ?_|((first|refine sM rfl ?_ ?_|refine s4 rfl ‹_› rfl ?_ ?_);first|exact tI|omega|(simp only[oZ] at *;omega))|(refine s2 rfl ?_;intro _ _hb)|(refine s3 rfl ?_ ?_<;>intro hb<;>subst hb)|refine aS ?_|refine reg (by kernel_rfl) ?_|refine lexE ?_|refine rD (by kernel_rfl) (by kernel_rfl) ?_)
      refine ⟨⟨k+1,by first|omega|(simp only[oZ] at *;omega),hkd2⟩,by dsimp only;(first|omega|(simp only[oZ] at *;omega)),[0,1],?_⟩
      simp[cX,zC,hΓ,hr]
  · obtain rfl:k=t.rows.length:=by first|omega|(simp only[oZ] at *;omega)
    have hno:openW L (lsB al) t=none:=List.find?_eq_none.2 fun w hw=>by
      have:=hkd w (by rw [List.take_length];exact hw)
      simpa using this
    refine AWp.exit ?_
    (repeat first|refine sN rfl ?_|((first|refine sM rfl ?_ ?_|refine s4 rfl ‹_› rfl ?_ ?_);first|exact tI|omega|(simp only[oZ] at *;omega))|(refine s2 rfl ?_;intro _ _hb)|(refine s3 rfl ?_ ?_<;>intro hb<;>subst hb)|refine aS ?_|refine reg (by kernel_rfl) ?_|refine lexE ?_|refine rD (by kernel_rfl) (by kernel_rfl) ?_)
    refine AWp.ret ⟨_,rfl,?_⟩
    rw [hno]
    rfl
end Go.Am
namespace Go.Am
open Go Go.Proofs
set_option maxHeartbeats 1000000
attribute [local irreducible] QOp AOp Lex LexO AWp Spec
variable {TB:Amb}
theorem clone_ok (l:List W) (h:l.length≤1048576):Spec Tryz.prog TB 121 [] 0 [eTexts l] (fun x σ nx=>x=.o (.arr 0 1 0 l.length)∧nx=1∧σ=[(0,.cells 9 1 (l.map tRowC))]):=by
  refine eN Tryz.func121 rfl (by kernel_rfl) rfl ?_;intro Γ hΓ
  (repeat first|refine sN rfl ?_|((first|refine sM rfl ?_ ?_|refine s4 rfl ‹_› rfl ?_ ?_);first|exact tI|omega|(simp only[oZ] at *;omega))|(refine s2 rfl ?_;intro _ _hb)|(refine s3 rfl ?_ ?_<;>intro hb<;>subst hb)|refine aS ?_|refine reg (by kernel_rfl) ?_|refine lexE ?_|refine rD (by kernel_rfl) (by kernel_rfl) ?_)
  (refine popO rfl ?_;refine popS (fun _ _=>q_assign rfl) rfl ?_)
  (repeat first|refine sN rfl ?_|((first|refine sM rfl ?_ ?_|refine s4 rfl ‹_› rfl ?_ ?_);first|exact tI|omega|(simp only[oZ] at *;omega))|(refine s2 rfl ?_;intro _ _hb)|(refine s3 rfl ?_ ?_<;>intro hb<;>subst hb)|refine aS ?_|refine reg (by kernel_rfl) ?_|refine lexE ?_|refine rD (by kernel_rfl) (by kernel_rfl) ?_)
  (refine popO rfl ?_;refine popW ?_ rfl (by rfl);refine n_eqNilL rfl ?_;intro b0 hb0)
  (repeat first|refine sN rfl ?_|((first|refine sM rfl ?_ ?_|refine s4 rfl ‹_› rfl ?_ ?_);first|exact tI|omega|(simp only[oZ] at *;omega))|(refine s2 rfl ?_;intro _ _hb)|(refine s3 rfl ?_ ?_<;>intro hb<;>subst hb)|refine aS ?_|refine reg (by kernel_rfl) ?_|refine lexE ?_|refine rD (by kernel_rfl) (by kernel_rfl) ?_)
  (refine aC rfl ?_ ?_<;>intro hb<;>cases hb)
  · obtain rfl:l=[]:=by simpa using hb0 rfl
    (repeat first|refine sN rfl ?_|((first|refine sM rfl ?_ ?_|refine s4 rfl ‹_› rfl ?_ ?_);first|exact tI|omega|(simp only[oZ] at *;omega))|(refine s2 rfl ?_;intro _ _hb)|(refine s3 rfl ?_ ?_<;>intro hb<;>subst hb)|refine aS ?_|refine reg (by kernel_rfl) ?_|refine lexE ?_|refine rD (by kernel_rfl) (by kernel_rfl) ?_)
    (refine popO rfl ?_;refine popW ?_ rfl (by rfl);refine n_nil 1 9 ?_)
    (repeat first|refine sN rfl ?_|((first|refine sM rfl ?_ ?_|refine s4 rfl ‹_› rfl ?_ ?_);first|exact tI|omega|(simp only[oZ] at *;omega))|(refine s2 rfl ?_;intro _ _hb)|(refine s3 rfl ?_ ?_<;>intro hb<;>subst hb)|refine aS ?_|refine reg (by kernel_rfl) ?_|refine lexE ?_|refine rD (by kernel_rfl) (by kernel_rfl) ?_)
    refine AWp.ret ⟨_,rfl,rfl,rfl,rfl⟩
  · refine AWp.skip ?_
    (repeat first|refine sN rfl ?_|((first|refine sM rfl ?_ ?_|refine s4 rfl ‹_› rfl ?_ ?_);first|exact tI|omega|(simp only[oZ] at *;omega))|(refine s2 rfl ?_;intro _ _hb)|(refine s3 rfl ?_ ?_<;>intro hb<;>subst hb)|refine aS ?_|refine reg (by kernel_rfl) ?_|refine lexE ?_|refine rD (by kernel_rfl) (by kernel_rfl) ?_)
    (refine popO rfl ?_;refine popW ?_ rfl (by rfl);refine n_sliceB rfl rfl rfl rfl (by simp) (by rfl) (by rfl) (by rfl) (by rfl) ?_)
    (repeat first|refine sN rfl ?_|((first|refine sM rfl ?_ ?_|refine s4 rfl ‹_› rfl ?_ ?_);first|exact tI|omega|(simp only[oZ] at *;omega))|(refine s2 rfl ?_;intro _ _hb)|(refine s3 rfl ?_ ?_<;>intro hb<;>subst hb)|refine aS ?_|refine reg (by kernel_rfl) ?_|refine lexE ?_|refine rD (by kernel_rfl) (by kernel_rfl) ?_)
    (refine popO rfl ?_;refine popW ?_ rfl (by rfl);refine n_append rfl rfl rfl (by first|(simp;done)|(simp;(first|omega|(simp only[oZ] at *;omega)))) rfl (by intro r hr;simp at hr;obtain ⟨a,_,rfl⟩:=hr;rfl) (by rfl) (Nat.le_of_ble_eq_true rfl) (by simp;omega) ?_)
    (repeat first|refine sN rfl ?_|((first|refine sM rfl ?_ ?_|refine s4 rfl ‹_› rfl ?_ ?_);first|exact tI|omega|(simp only[oZ] at *;omega))|(refine s2 rfl ?_;intro _ _hb)|(refine s3 rfl ?_ ?_<;>intro hb<;>subst hb)|refine aS ?_|refine reg (by kernel_rfl) ?_|refine lexE ?_|refine rD (by kernel_rfl) (by kernel_rfl) ?_)
    refine AWp.names [1] [(2,.o (.arr 0 1 0 l.length))] [(0,.cells 9 1 (l.map tRowC))] (by intro i hi;rw [hΓ] at hi;omega) (by simp) (by simp[cX,zC,hΓ]) (by simp[cX,zC,hΓ]) ?_
    refine AWp.ret ⟨_,rfl,rfl,rfl,rfl⟩
theorem index_ok (l:List W) (s:W):Pure Tryz.prog TB 114 [eTexts l,eT s] (eI .i64 (if s∈l then (l.idxOf s:Int) else -1)):=by
  refine eN Tryz.func114 rfl (by kernel_rfl) rfl ?_;intro Γ hΓ
  refine AWp.bound 0 rfl fun hB0=>?_
  have hB:=hB0 (l.map tRow) .refl
  (repeat first|refine sN rfl ?_|((first|refine sM rfl ?_ ?_|refine s4 rfl ‹_› rfl ?_ ?_);first|exact tI|omega|(simp only[oZ] at *;omega))|(refine s2 rfl ?_;intro _ _hb)|(refine s3 rfl ?_ ?_<;>intro hb<;>subst hb)|refine aS ?_|refine reg (by kernel_rfl) ?_|refine lexE ?_|refine rD (by kernel_rfl) (by kernel_rfl) ?_)
  refine AWp.block ?_
  refine AWp.loopL (α:={k:Nat // k≤l.length∧s∉l.take k}) (fun ⟨k,hk,hs⟩=>[(0,eTexts l),(1,eT s),(7,eI .i64 l.length),(8,eI .i64 k)]) (fun ⟨k,hk,hs⟩=>[]) 0 (fun ⟨k,hk,hs⟩=>l.length - k) (⟨0,by omega,by simp⟩) [] (rl3 hΓ rfl rfl) (by (repeat' first|exact tI|rfl|refine And.intro ?_ ?_)<;>simp[cX,zC,hΓ]) ?_;rintro ⟨k,hk,hs⟩;(try dsimp only)
  (repeat first|refine sN rfl ?_|((first|refine sM rfl ?_ ?_|refine s4 rfl ‹_› rfl ?_ ?_);first|exact tI|omega|(simp only[oZ] at *;omega))|(refine s2 rfl ?_;intro _ _hb)|(refine s3 rfl ?_ ?_<;>intro hb<;>subst hb)|refine aS ?_|refine reg (by kernel_rfl) ?_|refine lexE ?_|refine rD (by kernel_rfl) (by kernel_rfl) ?_)
  (refine aC rfl ?_ ?_<;>intro hb<;>cases hb)
  · have hlt:k < l.length:=by first|omega|(simp only[oZ] at *;omega)
    obtain ⟨x,hx⟩:=get_some (l:=l) (k:=k) hlt
    have hx':=get_map (g:=tRow) hx
    refine AWp.skip ?_
    refine AWp.seq (AWp.block ?_)
    (repeat first|refine sN rfl ?_|((first|refine sM rfl ?_ ?_|refine s4 rfl ‹_› rfl ?_ ?_);first|exact tI|omega|(simp only[oZ] at *;omega))|(refine s2 rfl ?_;intro _ _hb)|(refine s3 rfl ?_ ?_<;>intro hb<;>subst hb)|refine aS ?_|refine reg (by kernel_rfl) ?_|refine lexE ?_|refine rD (by kernel_rfl) (by kernel_rfl) ?_)
    (refine aC rfl ?_ ?_<;>intro hb<;>cases hb)
    · have he:s=x:=by first|omega|(simp only[oZ] at *;omega)
      subst he
      (repeat first|refine sN rfl ?_|((first|refine sM rfl ?_ ?_|refine s4 rfl ‹_› rfl ?_ ?_);first|exact tI|omega|(simp only[oZ] at *;omega))|(refine s2 rfl ?_;intro _ _hb)|(refine s3 rfl ?_ ?_<;>intro hb<;>subst hb)|refine aS ?_|refine reg (by kernel_rfl) ?_|refine lexE ?_|refine rD (by kernel_rfl) (by kernel_rfl) ?_)
      refine AWp.ret ⟨_,rfl,?_⟩
      have hm:s∈l:=List.mem_of_getElem? hx
      have hi:l.idxOf s=k:=by
        have e:l=l.take k++s::l.drop (k+1):=by rw [←drop_some hx,List.take_append_drop]
        rw [e,List.idxOf_append,if_neg hs,List.idxOf_cons_self]
        simp;omega
      rw [if_pos hm,hi]
    · have he:¬s=x:=by simpa using _hb
      have hs2:s∉l.take (k+1):=by
        rw [List.take_add_one,hx]
        simp [hs,he]
      refine AWp.skip ?_
      (repeat first|refine sN rfl ?_|((first|refine sM rfl ?_ ?_|refine s4 rfl ‹_› rfl ?_ ?_);first|exact tI|omega|(simp only[oZ] at *;omega))|(refine s2 rfl ?_;intro _ _hb)|(refine s3 rfl ?_ ?_<;>intro hb<;>subst hb)|refine aS ?_|refine reg (by kernel_rfl) ?_|refine lexE ?_|refine rD (by kernel_rfl) (by kernel_rfl) ?_)
      refine ⟨⟨k+1,by first|omega|(simp only[oZ] at *;omega),hs2⟩,by dsimp only;(first|omega|(simp only[oZ] at *;omega)),[],?_⟩
      simp[cX,zC,hΓ]
  · obtain rfl:k=l.length:=by first|omega|(simp only[oZ] at *;omega)
    rw [List.take_length] at hs
    refine AWp.exit ?_
    (repeat first|refine sN rfl ?_|((first|refine sM rfl ?_ ?_|refine s4 rfl ‹_› rfl ?_ ?_);first|exact tI|omega|(simp only[oZ] at *;omega))|(refine s2 rfl ?_;intro _ _hb)|(refine s3 rfl ?_ ?_<;>intro hb<;>subst hb)|refine aS ?_|refine reg (by kernel_rfl) ?_|refine lexE ?_|refine rD (by kernel_rfl) (by kernel_rfl) ?_)
    refine AWp.ret ⟨_,rfl,?_⟩
    rw [if_neg hs]
theorem contains_ok (l:List W) (s:W):Pure Tryz.prog TB 79 [eTexts l,eT s] (eB (decide (s∈l))):=by
  refine eN Tryz.func79 rfl (by kernel_rfl) rfl ?_;intro Γ hΓ
  (repeat' first|refine sN rfl ?_|((first|refine sA rfl ?_ ?_|refine s4 rfl ‹_› rfl ?_ ?_);first|exact tI|omega|(simp only[oZ] at *;omega))|(refine s2 rfl ?_;intro _ _hb) |refine sP rfl (index_ok l s) rfl ?_|(refine s3 rfl ?_ ?_<;>intro hb<;>subst hb)|refine aS ?_|refine reg (by kernel_rfl) ?_|refine lexE ?_|refine rD (by kernel_rfl) (by kernel_rfl) ?_|(refine aC rfl ?_ ?_<;>intro hb<;>cases hb)|refine aK ?_|refine aE ?_|refine aB ?_|refine AWp.ret ⟨_,rfl,?_⟩)
  all_goals (show E.o _=E.o _;congr;subst _hb;by_cases h:s∈l<;>simp [h])
end Go.Am
namespace Go.Am
open Go Go.Proofs
set_option maxHeartbeats 1000000
attribute [local irreducible] QOp AOp Lex LexO AWp Spec
variable {TB:Amb}
def addC (t:Tab) (col:W):Option Tab:=if t.cols.length=20∨col∈t.cols then none else some ⟨t.rows,t.cols++[col]⟩
def eTabO (o:Option Tab):E:=match o with
  | some t=>.t [(true,[.d (tList t.rows),.d (tList t.cols)]),(false,[.d (bD true)])]
  | none=>.t [(true,[.d (.l []),.d (.l [])]),(false,[.d (bD false)])]
theorem addColumn_ok (t:Tab) (col:W) (hr:t.rows.length≤4096) (hcl:t.cols.length≤4096):Pure Tryz.prog TB 95 [eTab t,eT col] (eTabO (addC t col)):=by
  have hc1:=clone_ok (TB:=TB) t.rows (by omega)
  have hc2:=clone_ok (TB:=TB) t.cols (by omega)
  refine SpecK.toSpec (SpecK.ofM 2 (Nat.le_refl _) Tryz.func95 rfl rfl (by kernel_rfl) (Nat.le_of_ble_eq_true rfl) ?_);intro Γ hΓ
  (repeat first|refine sN rfl ?_|((first|refine sM rfl ?_ ?_|refine s4 rfl ‹_› rfl ?_ ?_);first|exact tI|omega|(simp only[oZ] at *;omega))|(refine s2 rfl ?_;intro _ _hb)|(refine s3 rfl ?_ ?_<;>intro hb<;>subst hb)|refine aS ?_|refine reg (by kernel_rfl) ?_|refine lexE ?_|refine rD (by kernel_rfl) (by kernel_rfl) ?_)
  (refine popO rfl ?_;refine popS (fun _ _=>q_boxI rfl rfl rfl) rfl ?_)
  (repeat first|refine sN rfl ?_|((first|refine sM rfl ?_ ?_|refine s4 rfl ‹_› rfl ?_ ?_);first|exact tI|omega|(simp only[oZ] at *;omega))|(refine s2 rfl ?_;intro _ _hb) |(refine sC rfl (contains_ok t.cols col) ?_;intro _ _hb)|(refine s3 rfl ?_ ?_<;>intro hb<;>subst hb)|refine aS ?_|refine reg (by kernel_rfl) ?_|refine lexE ?_|refine rD (by kernel_rfl) (by kernel_rfl) ?_)
  · (refine aC rfl ?_ ?_<;>intro hb<;>cases hb)
    have hn:addC t col=none:=by unfold addC;rw [if_pos (.inl (by first|omega|(simp only[oZ] at *;omega)))]
    (repeat first|refine sN rfl ?_|((first|refine sM rfl ?_ ?_|refine s4 rfl ‹_› rfl ?_ ?_);first|exact tI|omega|(simp only[oZ] at *;omega))|(refine s2 rfl ?_;intro _ _hb)|(refine popO rfl ?_;refine gA rfl ?_;first|refine gS (fun _ _=>q_build rfl rfl (by rfl) (by rfl)) ?_)|(refine s3 rfl ?_ ?_<;>intro hb<;>subst hb)|refine aS ?_|refine reg (by kernel_rfl) ?_|refine lexE ?_|refine rD (by kernel_rfl) (by kernel_rfl) ?_)
    refine AWp.freeze [0] [(4,.o (.ip [.l [],.l []])),(5,eB false)] ⟨⟨_,rfl,.o (.ptr (by simp) rfl rfl rfl)⟩,⟨_,rfl,.keep⟩,trivial⟩ ?_
    refine AWp.ret ⟨_,rfl,?_⟩
    rw [hn];rfl
  (repeat first|refine sN rfl ?_|((first|refine sM rfl ?_ ?_|refine s4 rfl ‹_› rfl ?_ ?_);first|exact tI|omega|(simp only[oZ] at *;omega))|(refine s2 rfl ?_;intro _ _hb) |(refine sC rfl (contains_ok t.cols col) ?_;intro _ _hb)|(refine s3 rfl ?_ ?_<;>intro hb<;>subst hb)|refine aS ?_|refine reg (by kernel_rfl) ?_|refine lexE ?_|refine rD (by kernel_rfl) (by kernel_rfl) ?_)
  (refine aC rfl ?_ ?_<;>intro hb<;>cases hb)
  · have hn:addC t col=none:=by unfold addC;rw [if_pos (.inr (by first|omega|(simp only[oZ] at *;omega)))]
    (repeat first|refine sN rfl ?_|((first|refine sM rfl ?_ ?_|refine s4 rfl ‹_› rfl ?_ ?_);first|exact tI|omega|(simp only[oZ] at *;omega))|(refine s2 rfl ?_;intro _ _hb)|(refine popO rfl ?_;refine gA rfl ?_;first|refine gS (fun _ _=>q_build rfl rfl (by rfl) (by rfl)) ?_)|(refine s3 rfl ?_ ?_<;>intro hb<;>subst hb)|refine aS ?_|refine reg (by kernel_rfl) ?_|refine lexE ?_|refine rD (by kernel_rfl) (by kernel_rfl) ?_)
    refine AWp.freeze [0] [(4,.o (.ip [.l [],.l []])),(5,eB false)] ⟨⟨_,rfl,.o (.ptr (by simp) rfl rfl rfl)⟩,⟨_,rfl,.keep⟩,trivial⟩ ?_
    refine AWp.ret ⟨_,rfl,?_⟩
    rw [hn];rfl
  · refine AWp.skip ?_
    refine AWp.seq ?_
    refine regD (flP [0,1,3,4,6,7,2,5,8,9,10,11] [2,5,8,10] [0,1,3,4,6,7]) mixed (by kernel_rfl) (by kernel_rfl) ?_
    (repeat first|refine sN rfl ?_|((first|refine sA rfl ?_ ?_|refine s4 rfl ‹_› rfl ?_ ?_);first|exact tI|omega|(simp only[oZ] at *;omega))|(refine s2 rfl ?_;intro _ _hb)|(refine s3 rfl ?_ ?_<;>intro hb<;>subst hb)|refine aS ?_|refine reg (by kernel_rfl) ?_|refine lexE ?_)
    (refine popO rfl ?_;refine popW ?_ rfl (by rfl);refine n_call [] rfl rfl hc1 ⟨rfl,by simp,by simp⟩ rfl trivial ?_;rintro x0 σ1 nx1 ⟨rfl,rfl,rfl⟩ _)
    (repeat first|refine sN rfl ?_|((first|refine sA rfl ?_ ?_|refine s4 rfl ‹_› rfl ?_ ?_);first|exact tI|omega|(simp only[oZ] at *;omega))|(refine s2 rfl ?_;intro _ _hb)|(refine s3 rfl ?_ ?_<;>intro hb<;>subst hb)|refine aS ?_|refine reg (by kernel_rfl) ?_|refine lexE ?_)
    (refine popO rfl ?_;refine popW ?_ rfl (by rfl);refine n_call [] rfl rfl hc2 ⟨rfl,by simp,by simp⟩ rfl trivial ?_;rintro x0 σ1 nx1 ⟨rfl,rfl,rfl⟩ _)
    (repeat first|refine sN rfl ?_|((first|refine sA rfl ?_ ?_|refine s4 rfl ‹_› rfl ?_ ?_);first|exact tI|omega|(simp only[oZ] at *;omega))|(refine s2 rfl ?_;intro _ _hb)|(refine s3 rfl ?_ ?_<;>intro hb<;>subst hb)|refine aS ?_|refine reg (by kernel_rfl) ?_|refine lexE ?_)
    (refine popO rfl ?_;refine popW ?_ rfl (by rfl);refine n_append rfl rfl rfl (by first|(simp;done)|(simp;(first|omega|(simp only[oZ] at *;omega)))) rfl (by intro r hr;simp at hr;subst hr;rfl) (by rfl) (Nat.le_of_ble_eq_true rfl) (by simp;omega) ?_)
    (repeat first|refine sN rfl ?_|((first|refine sA rfl ?_ ?_|refine s4 rfl ‹_› rfl ?_ ?_);first|exact tI|omega|(simp only[oZ] at *;omega))|(refine s2 rfl ?_;intro _ _hb)|(refine popO rfl ?_;refine gA rfl ?_;first|refine gS (fun _ _=>q_build rfl rfl (by rfl) (by rfl)) ?_)|(refine s3 rfl ?_ ?_<;>intro hb<;>subst hb)|refine aS ?_|refine reg (by kernel_rfl) ?_|refine lexE ?_)
    have hnm:col∉t.cols:=by simpa using _hb
    have hn:addC t col=some ⟨t.rows,t.cols++[col]⟩:=by
      unfold addC
      rw [if_neg]
      rintro (h|h)
      · first|omega|(simp only[oZ] at *;omega)
      · exact hnm h
    refine AWp.names [0,1,3] [(4,.o (.ptr 0 2 0 0)),(5,eB true)] [(0,.cells 34 2 [[.arr 1 1 0 t.rows.length,.arr 2 1 0 (t.cols.length+1)]]),(1,.cells 9 1 (t.rows.map tRowC)),(2,.cells 9 1 ((t.cols++[col]).map tRowC))] (by intro i hi;rw [hΓ] at hi;omega) (by simp) (by simp[cX,zC,hΓ,nmo]) (by simp[cX,zC,hΓ,nmo,Store.ren,killL,fillC,eC,spliceC]) ?_
    refine AWp.freezeS [1,2] [(4,.o (.ptr 0 2 0 0)),(5,eB true)] [(0,.cells 34 2 [[.d (tList t.rows),.d (tList (t.cols++[col]))]])] ⟨⟨_,rfl,.keep⟩,⟨_,rfl,.keep⟩,trivial⟩ ⟨⟨_,rfl,by simp,.cons (.full (by simp) rfl (by simp [Function.comp_def]) (by simp)) (.cons (.full (by simp) rfl (by simp [Function.comp_def]) (by simp)) .nil)⟩,trivial⟩ ?_
    refine AWp.freeze [0] [(4,.o (.ip [tList t.rows,tList (t.cols++[col])])),(5,eB true)] ⟨⟨_,rfl,.o (.ptr (by simp) rfl rfl rfl)⟩,⟨_,rfl,.keep⟩,trivial⟩ ?_
    refine AWp.ret ⟨_,rfl,?_⟩
    rw [hn];rfl
end Go.Am
namespace Go.Am
open Go Go.Proofs
set_option maxHeartbeats 1000000
attribute [local irreducible] QOp AOp Lex LexO AWp Spec
variable {TB:Amb}
structure TBd (al:Int) (b:Nat) (t:Tab):Prop where
  onR:∀w∈t.rows,wordOn (lsB al) w∧w.length≤b
  onC:∀x∈t.cols,wordOn (lsB al) x∧x.length≤20000
  rl:t.rows.length≤12
  cl:t.cols.length≤20
def OkFits (ok:W→Prop) (al:Int):Prop:=∀w,wordOn (lsB al) w→w.length≤50000→ok w
theorem TBd.ask {ok:W→Prop} {al:Int} {b:Nat} {t:Tab} (h:TBd al b t) (hf:OkFits ok al) (hb:b≤20100):AskOk ok t∧∀w∈t.rows,∀l∈lsB al,∀x∈t.cols,ok (w++[l]++x):=by
  refine ⟨⟨fun w hw x hx=>hf _ ?_ ?_,fun w hw=>by have:=(h.onR w hw).2;omega,fun x hx=>by have:=(h.onC x hx).2;omega,by have:=h.rl;omega,by have:=h.cl;omega⟩,fun w hw l hl x hx=>hf _ ?_ ?_⟩
  · intro c hc
    rcases List.mem_append.1 hc with hc|hc
    · exact (h.onR w hw).1 c hc
    · exact (h.onC x hx).1 c hc
  · have:=(h.onR w hw).2;have:=(h.onC x hx).2;simp;omega
  · intro c hc
    rcases List.mem_append.1 hc with hc|hc
    · rcases List.mem_append.1 hc with hc|hc
      · exact (h.onR w hw).1 c hc
      · simp at hc;subst hc;exact hl
    · exact (h.onC x hx).1 c hc
  · have:=(h.onR w hw).2;have:=(h.onC x hx).2;simp;omega
theorem TBd.push {L:W→Bool} {al:Int} {b:Nat} {t:Tab} {w:W} (h:TBd al b t) (ho:openW L (lsB al) t=some w) (hl:t.rows.length < 12):TBd al (b+1) ⟨t.rows++[w],t.cols⟩:=by
  obtain ⟨⟨r,hr,l,hl2,rfl⟩,_⟩:=openW_some ho
  refine ⟨fun u hu=>?_,h.onC,by simp;omega,h.cl⟩
  rcases List.mem_append.1 hu with hu|hu
  · have:=h.onR u hu;exact ⟨this.1,by omega⟩
  · simp at hu
    subst hu
    have:=h.onR r hr
    refine ⟨fun c hc=>?_,by simp;omega⟩
    rcases List.mem_append.1 hc with hc|hc
    · exact this.1 c hc
    · simp at hc;subst hc;exact hl2
theorem closeTable_ok {c:C} {L:W→Bool} {ok:W→Prop} (hc:AskV Tryz.prog TB c L ok) (al:Int) (t:Tab) (hf:OkFits ok al) (ht:TBd al 20000 t) :
    Pure Tryz.prog TB 93 [eOra al c,eTab t] (eTabO (closeN L (lsB al) 13 t)):=by
  have hr:=ren_pur c hc.pur
  have hrl:=ht.rl
  have hcl:=ht.cl
  have hc1:=clone_ok (TB:=TB) t.rows (by omega)
  have hc2:=clone_ok (TB:=TB) t.cols (by omega)
  refine SpecK.toSpec (SpecK.ofM 2 (Nat.le_refl _) Tryz.func93 rfl rfl (by kernel_rfl) (Nat.le_of_ble_eq_true rfl) ?_);intro Γ hΓ
  (repeat first|refine sN rfl ?_|((first|refine sM rfl ?_ ?_|refine s4 rfl ‹_› rfl ?_ ?_);first|exact tI|omega|(simp only[oZ] at *;omega))|(refine s2 rfl ?_;intro _ _hb)|(refine s3 rfl ?_ ?_<;>intro hb<;>subst hb)|refine aS ?_|refine reg (by kernel_rfl) ?_|refine lexE ?_|refine rD (by kernel_rfl) (by kernel_rfl) ?_)
  (refine popO rfl ?_;refine popW ?_ rfl (by rfl);refine n_box rfl rfl ?_)
  (refine popO rfl ?_;refine popS (fun _ _=>q_boxI rfl rfl rfl) rfl ?_)
  (repeat first|refine sN rfl ?_|((first|refine sM rfl ?_ ?_|refine s4 rfl ‹_› rfl ?_ ?_);first|exact tI|omega|(simp only[oZ] at *;omega))|(refine s2 rfl ?_;intro _ _hb)|(refine s3 rfl ?_ ?_<;>intro hb<;>subst hb)|refine aS ?_|refine reg (by kernel_rfl) ?_|refine lexE ?_)
  refine R.regR [(7,3),(0,2),(1,2),(3,2),(4,2),(2,1),(5,1),(6,0),(8,5)] mixed (by kernel_rfl) rfl (by kernel_rfl) ?_
  (repeat (first|(refine R.popO rfl ?_;first|(refine R.yQ (md:=false) rfl rfl rfl ?_ ?_;(first|exact True.intro|omega|(simp only [oZ] at *;omega)))|(refine R.yB rfl rfl rfl ?_;intro _ _hb)|refine R.yS rfl rfl rfl ?_|refine R.yP rfl rfl rfl rfl ?_|refine R.yA rfl rfl rfl rfl ?_|refine R.yW rfl rfl rfl ?_|refine R.popN rfl rfl ?_|(refine R.yG rfl rfl ?_ ?_<;>intro hb<;>subst hb))))
  (refine R.popO rfl ?_;refine R.popW (fun _=>?_) rfl rfl;refine n_call [] rfl rfl hc1 ⟨rfl,by simp,by simp⟩ rfl trivial ?_;rintro x0 σ1 nx1 ⟨rfl,rfl,rfl⟩ _)
  (repeat (first|(refine R.popO rfl ?_;first|(refine R.yQ (md:=false) rfl rfl rfl ?_ ?_;(first|exact True.intro|omega|(simp only [oZ] at *;omega)))|(refine R.yB rfl rfl rfl ?_;intro _ _hb)|refine R.yS rfl rfl rfl ?_|refine R.yP rfl rfl rfl rfl ?_|refine R.yA rfl rfl rfl rfl ?_|refine R.yW rfl rfl rfl ?_|refine R.popN rfl rfl ?_|(refine R.yG rfl rfl ?_ ?_<;>intro hb<;>subst hb))))
  (refine R.popO rfl ?_;refine R.popW (fun _=>?_) rfl rfl;refine n_call [] rfl rfl hc2 ⟨rfl,by simp,by simp⟩ rfl trivial ?_;rintro x0 σ1 nx1 ⟨rfl,rfl,rfl⟩ _)
  (repeat (first|(refine R.popO rfl ?_;first|(refine R.yQ (md:=false) rfl rfl rfl ?_ ?_;(first|exact True.intro|omega|(simp only [oZ] at *;omega)))|(refine R.yB rfl rfl rfl ?_;intro _ _hb)|refine R.yS rfl rfl rfl ?_|refine R.yP rfl rfl rfl rfl ?_|refine R.yA rfl rfl rfl rfl ?_|refine R.yW rfl rfl rfl ?_|refine R.popS (fun _ _ _=>q_build rfl rfl (by rfl) (by rfl)) rfl rfl ?_|refine R.popN rfl rfl ?_|(refine R.yG rfl rfl ?_ ?_<;>intro hb<;>subst hb))))
  refine R.lexQ ?_
  refine AWp.block ?_
  have hz:∀x:Tab,openW L (lsB al) x=none∨∃w,openW L (lsB al) x=some w:=fun x=>by cases openW L (lsB al) x<;>simp
  refine AWp.loopL (α:={p:Nat×Tab // p.1≤13∧13≤p.1+p.2.rows.length∧TBd al (20000+p.2.rows.length) p.2∧closeN L (lsB al) 13 t=closeN L (lsB al) p.1 p.2}) (fun ⟨⟨m,u⟩,hm,hmu,hu,he⟩=>[(2,.o (.ptr 0 2 0 0)),(4,.o (.ptr 1 2 0 0)),(6,.o (.ptr 4 2 0 0))]) (fun ⟨⟨m,u⟩,hm,hmu,hu,he⟩=>[(0,.cells 77 2 [[.d (iD al),c]]),(1,.cells 34 2 [[.d (.l []),.d (.l [])]]),(2,.cells 9 1 (u.rows.map tRowC)),(3,.cells 9 1 (u.cols.map tRowC)),(4,.cells 34 2 [[.arr 2 1 0 u.rows.length,.arr 3 1 0 u.cols.length]])]) 5 (fun ⟨⟨m,u⟩,hm,hmu,hu,he⟩=>m) (⟨(13,t),by simp,by simp,⟨fun w hw=>⟨(ht.onR w hw).1,by have:=(ht.onR w hw).2;omega⟩,ht.onC,ht.rl,ht.cl⟩,rfl⟩) [0,1,2,3,4] (rl3 hΓ rfl rfl) (by (repeat' first|exact tI|rfl|refine And.intro ?_ ?_)<;>simp[cX,zC,hΓ,hr,eC,Store.ren,killL,nmo,fillC,spliceC]) ?_;rintro ⟨⟨m,u⟩,hm,hmu,hu,he⟩;(try dsimp only)
  dsimp only at hm hmu hu he
  have htk:∀l:List W,((l.map tRowC).drop 0).take l.length=(l.map tRow).map (fun r=>r.map C.d):=fun l=>by rw [List.drop_zero,List.take_of_length_le (by simp)];simp [Function.comp_def]
  have hur:=hu.rl
  have huc:=hu.cl
  have hask:=hu.ask hf (by omega)
  have hfo:=firstOpen_ok (TB:=TB) hc al u hask.1 hask.2
  have hev:EVs [(0,.cells 77 2 [[.d (iD al),c]]),(1,.cells 34 2 [[.d (.l []),.d (.l [])]]),(2,.cells 9 1 (u.rows.map tRowC)),(3,.cells 9 1 (u.cols.map tRowC)),(4,.cells 34 2 [[.arr 2 1 0 u.rows.length,.arr 3 1 0 u.cols.length]])] [.a [.d (iD al),c],.a [.arr 2 1 0 u.rows.length,.arr 3 1 0 u.cols.length]] [eOra al c,eTab u]:=
    .cons (.cons (.pure rfl) (.cons (.pure hc.pur) .nil)) (.cons (.cons (.arr rfl (by simp) (htk _)) (.cons (.arr rfl (by simp) (htk _)) .nil)) .nil)
  refine AWp.block ?_
  rcases hz u with ho|⟨w,ho⟩
  · rw [ho] at hfo
    (repeat first|refine sN rfl ?_|((first|refine sM rfl ?_ ?_|refine s4 rfl ‹_› rfl ?_ ?_);first|exact tI|omega|(simp only[oZ] at *;omega))|(refine s2 rfl ?_;intro _ _hb)|(refine popO rfl ?_;refine gA rfl ?_;first|refine gQ (q_callB rfl rfl (hev) (hfo) rfl) rfl ?_)|(refine s3 rfl ?_ ?_<;>intro hb<;>subst hb)|refine aS ?_|refine reg (by kernel_rfl) ?_|refine lexE ?_|refine rD (by kernel_rfl) (by kernel_rfl) ?_)
    (refine aC rfl ?_ ?_<;>intro hb<;>cases hb)
    · (repeat first|refine sN rfl ?_|((first|refine sM rfl ?_ ?_|refine s4 rfl ‹_› rfl ?_ ?_);first|exact tI|omega|(simp only[oZ] at *;omega))|(refine s2 rfl ?_;intro _ _hb)|(refine s3 rfl ?_ ?_<;>intro hb<;>subst hb)|refine aS ?_|refine reg (by kernel_rfl) ?_|refine lexE ?_|refine rD (by kernel_rfl) (by kernel_rfl) ?_)
      have hn:closeN L (lsB al) 13 t=some u:=by
        rw [he]
        obtain ⟨m',rfl⟩:∃m',m=m'+1:=⟨m - 1,by omega⟩
        simp [closeN,ho]
      refine AWp.names [1,2,3] [(4,.o (.ptr 0 2 0 0)),(5,eB true)] [(0,.cells 34 2 [[.arr 1 1 0 u.rows.length,.arr 2 1 0 u.cols.length]]),(1,.cells 9 1 (u.rows.map tRowC)),(2,.cells 9 1 (u.cols.map tRowC))] (by intro i hi;rw [hΓ] at hi;omega) (by simp) (by simp[cX,zC,hΓ,nmo]) (by simp[cX,zC,hΓ,nmo,Store.ren,killL,fillC,eC,spliceC]) ?_
      refine AWp.freezeS [1,2] [(4,.o (.ptr 0 2 0 0)),(5,eB true)] [(0,.cells 34 2 [[.d (tList u.rows),.d (tList u.cols)]])] ⟨⟨_,rfl,.keep⟩,⟨_,rfl,.keep⟩,trivial⟩ ⟨⟨_,rfl,by simp,.cons (.full (by simp) rfl (by simp [Function.comp_def]) (by simp)) (.cons (.full (by simp) rfl (by simp [Function.comp_def]) (by simp)) .nil)⟩,trivial⟩ ?_
      refine AWp.freeze [0] [(4,.o (.ip [tList u.rows,tList u.cols])),(5,eB true)] ⟨⟨_,rfl,.o (.ptr (by simp) rfl rfl rfl)⟩,⟨_,rfl,.keep⟩,trivial⟩ ?_
      refine AWp.ret ⟨_,rfl,?_⟩
      rw [hn];rfl
    · simp at _hb
  · rw [ho] at hfo
    (repeat first|refine sN rfl ?_|((first|refine sM rfl ?_ ?_|refine s4 rfl ‹_› rfl ?_ ?_);first|exact tI|omega|(simp only[oZ] at *;omega))|(refine s2 rfl ?_;intro _ _hb)|(refine popO rfl ?_;refine gA rfl ?_;first|refine gQ (q_callB rfl rfl (hev) (hfo) rfl) rfl ?_)|(refine s3 rfl ?_ ?_<;>intro hb<;>subst hb)|refine aS ?_|refine reg (by kernel_rfl) ?_|refine lexE ?_|refine rD (by kernel_rfl) (by kernel_rfl) ?_)
    (refine aC rfl ?_ ?_<;>intro hb<;>cases hb)
    · simp at _hb
    · refine AWp.skip ?_
      (repeat first|refine sN rfl ?_|((first|refine sM rfl ?_ ?_|refine s4 rfl ‹_› rfl ?_ ?_);first|exact tI|omega|(simp only[oZ] at *;omega))|(refine s2 rfl ?_;intro _ _hb)|(refine s3 rfl ?_ ?_<;>intro hb<;>subst hb)|refine aS ?_|refine reg (by kernel_rfl) ?_|refine lexE ?_|refine rD (by kernel_rfl) (by kernel_rfl) ?_)
      (refine aC rfl ?_ ?_<;>intro hb<;>cases hb)
      · (repeat first|refine sN rfl ?_|((first|refine sM rfl ?_ ?_|refine s4 rfl ‹_› rfl ?_ ?_);first|exact tI|omega|(simp only[oZ] at *;omega))|(refine s2 rfl ?_;intro _ _hb)|(refine popO rfl ?_;refine gA rfl ?_;first|refine gS (fun _ _=>q_build rfl rfl (by rfl) (by rfl)) ?_)|(refine s3 rfl ?_ ?_<;>intro hb<;>subst hb)|refine aS ?_|refine reg (by kernel_rfl) ?_|refine lexE ?_|refine rD (by kernel_rfl) (by kernel_rfl) ?_)
        have hn:closeN L (lsB al) 13 t=none:=by
          have h12:u.rows.length=12:=by first|omega|(simp only[oZ] at *;omega)
          rw [he]
          obtain ⟨m',rfl⟩:∃m',m=m'+1:=⟨m - 1,by omega⟩
          simp [closeN,ho,h12]
        refine AWp.freeze [1] [(4,.o (.ip [.l [],.l []])),(5,eB false)] ⟨⟨_,rfl,.o (.ptr (by simp) rfl rfl rfl)⟩,⟨_,rfl,.keep⟩,trivial⟩ ?_
        refine AWp.ret ⟨_,rfl,?_⟩
        rw [hn];rfl
      · refine AWp.skip ?_
        have hlt:u.rows.length < 12:=by first|omega|(simp only[oZ] at *;omega)
        obtain ⟨m',rfl⟩:∃m',m=m'+1:=⟨m - 1,by omega⟩
        have hn:closeN L (lsB al) 13 t=closeN L (lsB al) m' ⟨u.rows++[w],u.cols⟩:=by
          rw [he]
          conv=>lhs;unfold closeN
          rw [ho]
          dsimp only
          rw [if_neg (by omega)]
        have hp:=hu.push ho hlt
        (repeat first|refine sN rfl ?_|((first|refine sA rfl ?_ ?_|refine s4 rfl ‹_› rfl ?_ ?_);first|exact tI|omega|(simp only[oZ] at *;omega))|(refine s2 rfl ?_;intro _ _hb)|(refine s3 rfl ?_ ?_<;>intro hb<;>subst hb)|refine aS ?_|refine reg (by kernel_rfl) ?_|refine lexE ?_)
        (refine popO rfl ?_;refine popW ?_ rfl (by rfl);refine n_append rfl rfl rfl (by first|(simp;done)|(simp;(first|omega|(simp only[oZ] at *;omega)))) rfl (by intro r hr;simp at hr;subst hr;rfl) (by rfl) (Nat.le_of_ble_eq_true rfl) (by simp;omega) ?_)
        (repeat first|refine sN rfl ?_|((first|refine sM rfl ?_ ?_|refine s4 rfl ‹_› rfl ?_ ?_);first|exact tI|omega|(simp only[oZ] at *;omega))|(refine s2 rfl ?_;intro _ _hb)|(refine s3 rfl ?_ ?_<;>intro hb<;>subst hb)|refine aS ?_|refine reg (by kernel_rfl) ?_|refine lexE ?_|refine rD (by kernel_rfl) (by kernel_rfl) ?_)
        refine ⟨⟨⟨m',⟨u.rows++[w],u.cols⟩⟩,by dsimp only;omega,by simp;omega,by simpa [Nat.add_assoc] using hp,hn⟩,by dsimp only;(first|omega|(simp only[oZ] at *;omega)),[0,1,5,3,4],?_⟩
        simp[cX,zC,hΓ,hr,eC,Store.ren,killL,nmo,fillC,spliceC]
end Go.Am
namespace Go.Am
open Go Go.Proofs
set_option maxHeartbeats 1000000
attribute [local irreducible] QOp AOp Lex LexO AWp Spec
variable {TB:Amb}
def tabOne:Tab:=⟨[[]],[[]]⟩
theorem tabOne_bd (al:Int):TBd al 20000 tabOne:=by
  refine ⟨fun w hw=>?_,fun w hw=>?_,by decide,by decide⟩<;>(simp [tabOne] at hw;subst hw;exact ⟨fun c hc=>by simp at hc,by simp⟩)
theorem newTable_ok {c:C} {L:W→Bool} {ok:W→Prop} (hc:AskV Tryz.prog TB c L ok) (al:Int) (hf:OkFits ok al) :
    Pure Tryz.prog TB 56 [eOra al c] (eTabO (closeN L (lsB al) 13 tabOne)):=by
  have hr:=ren_pur c hc.pur
  have h:=closeTable_ok hc al tabOne hf (tabOne_bd al)
  refine SpecK.toSpec (SpecK.ofM 2 (Nat.le_refl _) Tryz.func56 rfl rfl (by kernel_rfl) (Nat.le_of_ble_eq_true rfl) ?_);intro Γ hΓ
  generalize closeN L (lsB al) 13 tabOne=o at h ⊢
  (repeat first|refine sN rfl ?_|((first|refine sM rfl ?_ ?_|refine s4 rfl ‹_› rfl ?_ ?_);first|exact tI|omega|(simp only[oZ] at *;omega))|(refine s2 rfl ?_;intro _ _hb)|(refine s3 rfl ?_ ?_<;>intro hb<;>subst hb)|refine aS ?_|refine reg (by kernel_rfl) ?_|refine lexE ?_|refine rD (by kernel_rfl) (by kernel_rfl) ?_)
  (refine popO rfl ?_;refine popW ?_ rfl (by rfl);refine n_box rfl rfl ?_)
  (repeat first|refine sN rfl ?_|((first|refine sM rfl ?_ ?_|refine s4 rfl ‹_› rfl ?_ ?_);first|exact tI|omega|(simp only[oZ] at *;omega))|(refine s2 rfl ?_;intro _ _hb)|(refine s3 rfl ?_ ?_<;>intro hb<;>subst hb)|refine aS ?_|refine reg (by kernel_rfl) ?_|refine lexE ?_|refine rD (by kernel_rfl) (by kernel_rfl) ?_)
  have hpu:([eOra al c,eTab tabOne].all E.pur && C.purL [])=true:=by simp [eOra,eTab,E.pur,C.purL,C.pur,hc.pur]
  cases o with
  | none=>
    (repeat first|refine sN rfl ?_|((first|refine sA rfl ?_ ?_|refine s4 rfl ‹_› rfl ?_ ?_);first|exact tI|omega|(simp only[oZ] at *;omega))|(refine s2 rfl ?_;intro _ _hb)|(refine popO rfl ?_;refine gA rfl ?_;first|refine gS (fun _ _=>q_call rfl rfl hpu h rfl) ?_|refine gS (fun _ _=>q_build rfl rfl (by rfl) (by rfl)) ?_)|(refine s3 rfl ?_ ?_<;>intro hb<;>subst hb)|refine aS ?_|refine reg (by kernel_rfl) ?_|refine lexE ?_)
    refine AWp.freeze [1] [(2,.o (.ip [.l [],.l []])),(3,eB false)] ⟨⟨_,rfl,.o (.ptr (by simp) rfl rfl rfl)⟩,⟨_,rfl,.keep⟩,trivial⟩ ?_
    refine AWp.ret ⟨_,rfl,?_⟩
    rfl
  | some u=>
    (repeat first|refine sN rfl ?_|((first|refine sA rfl ?_ ?_|refine s4 rfl ‹_› rfl ?_ ?_);first|exact tI|omega|(simp only[oZ] at *;omega))|(refine s2 rfl ?_;intro _ _hb)|(refine popO rfl ?_;refine gA rfl ?_;first|refine gS (fun _ _=>q_call rfl rfl hpu h rfl) ?_|refine gS (fun _ _=>q_build rfl rfl (by rfl) (by rfl)) ?_)|(refine s3 rfl ?_ ?_<;>intro hb<;>subst hb)|refine aS ?_|refine reg (by kernel_rfl) ?_|refine lexE ?_)
    refine AWp.freeze [1] [(2,.o (.ip [tList u.rows,tList u.cols])),(3,eB true)] ⟨⟨_,rfl,.o (.ptr (by simp) rfl rfl rfl)⟩,⟨_,rfl,.keep⟩,trivial⟩ ?_
    refine AWp.ret ⟨_,rfl,?_⟩
    rfl
end Go.Am
namespace Go.Am
open Go Go.Proofs
set_option maxHeartbeats 1000000
attribute [local irreducible] QOp AOp Lex LexO AWp Spec
variable {TB:Amb}
def autM (L:W→Bool) (al:Int) (t:Tab):Aut:=⟨al,t.rows.map fun r=>(letters al).map fun l=>((idxM L t (r++[lb l]):Nat):Int),t.rows.map L⟩
theorem look_idx {L:W→Bool} {al:Int} {t:Tab} (ho:openW L (lsB al) t=none) {r:W} (hr:r∈t.rows) {l:Int} (hl:l∈letters al) :
    (findT (numsTo L t t.rows.length) (marks L t.cols (r++[lb l]))).getD 0=((idxM L t (r++[lb l]):Nat):Int):=by
  have hm:marks L t.cols (r++[lb l])∈rowsM L t:=by
    have:=List.find?_eq_none.1 ho (r++[lb l]) (by
      unfold nextsB
      exact List.mem_flatMap.2 ⟨r,hr,List.mem_map.2 ⟨lb l,List.mem_map.2 ⟨l,hl,rfl⟩,rfl⟩⟩)
    simpa using this
  rw [nums_all,if_pos hm]
  rfl
end Go.Am
