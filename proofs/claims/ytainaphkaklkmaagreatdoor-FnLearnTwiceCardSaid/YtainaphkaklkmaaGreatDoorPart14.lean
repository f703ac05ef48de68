/-
  The program's search, the walk.
-/
import Derived.Test.YtainaphkaklkmaaGreatDoorPart13
import Derived.Test.YtainaphkaklkmaaGreatDoorPart7
import Derived.Test.YtainaphkaklkmaaGreatDoorPart10
set_option linter.constructorNameAsVariable false
set_option linter.unusedSimpArgs false
set_option linter.unusedVariables false
namespace Go.Am
open Go Go.Proofs
set_option maxHeartbeats 1000000
attribute [local irreducible] QOp AOp Lex LexO AWp Spec
variable {TB:List (Nat×Obj)}
theorem n_allocN {P:Program} {Γ:Ctx} {d:Option Tmp} {ty:TypeId} {pos:String} {af:Array Edge} {g:Option (Nat×Bool)} {f:Env} {σ:Store} {nx:Nat} {K:E→Store→Nat→Prop} {T:TypeId} (k e:Nat) [hz:HasZe P T [.slice none 0 0]]
    (hK:K (.o (.ptr (nx+1) 1 0 0)) ((nx+1,.cells T 1 [[.arr nx k 0 0]])::(nx,.cells e k [])::σ) (nx+2)):AOp P TB Γ ⟨d,.alloc T,ty,pos,af,g⟩ f σ nx K:=
  n_of_run fun V ρ h1 h2 h3=>by
    subst h3
    obtain ⟨i,zv,hi,hzv,hzz⟩:=ze_inv hz.out
    have hzc:zv.cells = #[.slice none 0 0]:=by have:=congrArg List.toArray hzz;simpa using this
    obtain ⟨hi2,he2⟩:=h2.alloc (c:=0) (nl:=True) (w:=V.w) (ob:=.cells e k []) rfl rfl rfl rfl (Nat.le_refl _) (fun _ _=>rfl) (.inl ⟨by simp [newV],rfl⟩)
    have hc:LRel (newV V V.w.heap.size 0 True V.w) [.arr V.nx k 0 0] zv.cells:=by
      rw [hzc]
      refine ⟨rfl,fun j c v hj hv=>?_⟩
      match j with
      | 0=>simp at hj hv;subst hj hv;exact CRel.nil (by simp [newV]) (by simp [newV])
      | j+1=>simp at hj
    obtain ⟨hi',he⟩:=box_inv hi2 (T:=T) hc
    refine ⟨.pointer (some ⟨V.w.heap.size,0,none⟩),_,_,_,?_,he2.trans he,hi',?_,hK⟩
    · simp [execOp,Instr.alloc,zeroValue,typeInfo,hi,hzv,newVar,newRow,newV,go_sem]
    · exact ptr_new
theorem renEs_app (r:Nat→Nat):∀(l m:List E),renEs r (l++m)=renEs r l++renEs r m
  | [],m=>rfl
  | e::l,m=>by simp [renEs,renEs_app r l m]
theorem renEs_caps (r:Nat→Nat):∀(l:List C),renEs r (l.map .o)=(C.renL r l).map .o
  | []=>rfl
  | c::l=>by simp [renEs,C.renL,E.ren,renEs_caps r l]
def NextOk (P:Program) (TB:List (Nat×Obj)) (T:TypeId) (g:Gr) (gN:FuncId) (capsN:List C):Prop:=
  ∀(node l:Int) (outs:List Int),0≤node∧node < g.N→l∈g.ls→outs.length≤1099511627776→
    Spec P TB gN [(0,.cells T 1 (outs.map iRowC))] 1 ([eI .i64 node,eI .i64 l,.o (.arr 0 1 0 outs.length)]++capsN.map .o) (fun x σ nx=>x=.o (.arr 1 1 0 (outs++g.succ node l).length)∧nx=2∧σ=[(1,.cells T 1 ((outs++g.succ node l).map iRowC))])
theorem firstPath_ok {g:Gr} (hg:GrOk g) (hN:g.N≤1048576) (hls:∀l∈g.ls,0≤l∧l < 6) (hll:g.ls.length≤6) (hsl:∀(node l:Int),0≤node∧node < g.N→l∈g.ls→(g.succ node l).length≤g.N)
    {gN gG:FuncId} {capsN capsG:List C} (hNx:NextOk Tryz.prog TB 3 g gN capsN) (hG:∀n:Int,0≤n∧n < g.N→Pure Tryz.prog TB gG ([eI .i64 n]++capsG.map .o) (eB (g.goal n)))
    (hcG:C.purL capsG=true) (hrG:∀r,C.renL r capsG=capsG) (hrN:∀r,C.renL r capsN=capsN) {r:Option (List Int)} (hr:IsAns g r) :
    Pure Tryz.prog TB 107 [eI .i64 g.N,eInts [g.s0],eInts g.ls,.o (.fn gN capsN),.o (.fn gG capsG)] (eAns r):=by
  refine eN Tryz.func107 rfl (by kernel_rfl) rfl ?_;intro Γ hΓ
  (repeat first|refine sN rfl ?_|((first|refine sM rfl ?_ ?_|refine s4 rfl ‹_› rfl ?_ ?_);first|exact tI|omega|(simp only[oZ] at *;omega))|(refine s2 rfl ?_;intro _ _hb)|(refine s3 rfl ?_ ?_<;>intro hb<;>subst hb)|refine aS ?_|refine reg (by kernel_rfl) ?_|refine lexE ?_|refine rD (by kernel_rfl) (by kernel_rfl) ?_)
  (refine popO rfl ?_;refine popW ?_ rfl (by rfl);refine n_box rfl rfl ?_)
  (repeat first|refine sN rfl ?_|((first|refine sM rfl ?_ ?_|refine s4 rfl ‹_› rfl ?_ ?_);first|exact tI|omega|(simp only[oZ] at *;omega))|(refine s2 rfl ?_;intro _ _hb)|(refine s3 rfl ?_ ?_<;>intro hb<;>subst hb)|refine aS ?_|refine reg (by kernel_rfl) ?_|refine lexE ?_|refine rD (by kernel_rfl) (by kernel_rfl) ?_)
  (refine popO rfl ?_;refine popW ?_ rfl (by rfl);refine n_make rfl rfl (by rfl) (by rfl) (Nat.le_of_ble_eq_true rfl) (by omega) (by omega) (by omega) ?_)
  iterate 5 (first|refine sN rfl ?_|((first|refine sM rfl ?_ ?_|refine s4 rfl ‹_› rfl ?_ ?_);first|exact tI|omega|(simp only[oZ] at *;omega))|(refine s2 rfl ?_;intro _ _hb)|(refine s3 rfl ?_ ?_<;>intro hb<;>subst hb)|refine aS ?_|refine reg (by kernel_rfl) ?_|refine lexE ?_)
  (refine popO rfl ?_;refine popW ?_ rfl (by rfl);refine n_allocN 3 162 ?_)
  (repeat first|refine sN rfl ?_|((first|refine sM rfl ?_ ?_|refine s4 rfl ‹_› rfl ?_ ?_);first|exact tI|omega|(simp only[oZ] at *;omega))|(refine s2 rfl ?_;intro _ _hb)|(refine s3 rfl ?_ ?_<;>intro hb<;>subst hb)|refine aS ?_|refine reg (by kernel_rfl) ?_|refine lexE ?_|refine rD (by kernel_rfl) (by kernel_rfl) ?_)
  have hv0:=vis_ok (goal:=g.goal) (N:=g.N) (seen:=List.replicate g.N false) (nodes:=[g.s0]) (by simp) (by intro n hn;simp at hn;subst hn;exact hg.s0)
  have hvis:=visit_ok (TB:=TB) hG hcG hrG (List.replicate g.N false) [] (-1) 0 [g.s0] (by simp) hN (by simp) (by intro n hn;simp at hn;subst hn;exact hg.s0)
  (refine popO rfl ?_;refine popW ?_ rfl (by rfl);refine n_call [2,1,0,4,3] rfl rfl hvis ⟨rfl,by decide,by decide⟩ rfl (by simp [EnvSub,StoreSub,look_cons,nm,E.ren,C.ren,C.renL,O.ren,killc,kill0,Function.comp_def,argsFrom,zC,hΓ,visS,hrG,spliceC,eC]) ?_;rintro x0 σ1 nx1 ⟨rfl,q,hq,rfl⟩ _)
  generalize hV:vis g.goal (List.replicate g.N false) [g.s0]=v at *
  obtain ⟨vse,vfr,vfd⟩:=v
  simp only
  refine lexE ?_
  refine AWp.names [2,1,0,4,if q=4 then 3 else 5] [(2,eInts g.ls),(3,.o (.fn gN capsN)),(12,.o (.ptr 0 1 0 0)),(13,.o (.ptr 3 1 0 0)),(14,.o (.fn 138 [.ptr 0 1 0 0,.ptr 2 1 0 0,.ptr 3 1 0 0])),(26,eB vfd)] (visS g.N gG capsG vse 4 (stepsV [] (-1) 0 vfr)) (by simp [hΓ]) (by rcases hq with ⟨rfl,rfl⟩|⟨rfl,rfl⟩<;>decide)
    (by rcases hq with ⟨rfl,rfl⟩|⟨rfl,rfl⟩<;>simp [EnvSub,StoreSub,look_cons,nm,E.ren,C.ren,C.renL,O.ren,killc,kill0,Function.comp_def,argsFrom,zC,hΓ,hrN,eC]) (by rcases hq with ⟨rfl,rfl⟩|⟨rfl,rfl⟩<;>simp [EnvSub,StoreSub,look_cons,nm,E.ren,C.ren,C.renL,O.ren,killc,kill0,Function.comp_def,argsFrom,zC,hΓ,visS,hrG,Store.ren,killL,nmo,eC]) ?_
  (refine aC rfl ?_ ?_<;>intro hb<;>cases hb)
  · -- the start is a goal
    have hgs:g.goal g.s0=true:=by
      have h1:vfr.any g.goal=true:=hv0.fd.symm
      obtain ⟨x,hx,hgx⟩:=List.any_eq_true.1 h1
      have h2:=((hv0.fr x).1 hx).1
      simp at h2;subst h2;exact hgx
    have hrr:=IsAns.unique hr (IsAns.start hgs)
    subst hrr
    (repeat first|refine sN rfl ?_|((first|refine sM rfl ?_ ?_|refine s4 rfl ‹_› rfl ?_ ?_);first|exact tI|omega|(simp only[oZ] at *;omega))|(refine s2 rfl ?_;intro _ _hb)|(refine s3 rfl ?_ ?_<;>intro hb<;>subst hb)|refine aS ?_|refine reg (by kernel_rfl) ?_|refine lexE ?_|refine rD (by kernel_rfl) (by kernel_rfl) ?_)
    refine AWp.ret ⟨_,rfl,rfl⟩
  refine AWp.skip ?_
  obtain ⟨hfr,hF0⟩:=FI.init hg hv0 rfl
  simp only at hfr hF0
  rw [hfr]
  (repeat first|refine sN rfl ?_|((first|refine sM rfl ?_ ?_|refine s4 rfl ‹_› rfl ?_ ?_);first|exact tI|omega|(simp only[oZ] at *;omega))|(refine s2 rfl ?_;intro _ _hb)|(refine s3 rfl ?_ ?_<;>intro hb<;>subst hb)|refine aS ?_|refine reg (by kernel_rfl) ?_|refine lexE ?_|refine rD (by kernel_rfl) (by kernel_rfl) ?_)
  refine AWp.block ?_
  refine AWp.loopL (α:={x:Nat×List Bool×List Stp×List (List Int) // FI g x.2.1 x.2.2.1 x.2.2.2 x.1 0}) (fun ⟨⟨i,seen,steps,ws⟩,hF⟩=>[(2,eInts g.ls),(3,.o (.fn gN capsN)),(12,.o (.ptr 0 1 0 0)),(13,.o (.ptr 3 1 0 0)),(14,.o (.fn 138 [.ptr 0 1 0 0,.ptr 2 1 0 0,.ptr 3 1 0 0])),(15,eI .i64 i)]) (fun ⟨⟨i,seen,steps,ws⟩,hF⟩=>visS g.N gG capsG seen 4 steps) 5 (fun ⟨⟨i,seen,steps,ws⟩,hF⟩=>g.N - i) (⟨(0,vse,[⟨-1,0,[g.s0]⟩],[[]]),hF0⟩) [0,1,2,3,4] (by first|(simp [hΓ];done)|(rw [hΓ];decide)) (by (repeat' (first|exact trivial|rfl|refine And.intro ?_ ?_))<;>simp [EnvSub,StoreSub,look_cons,nm,E.ren,C.ren,C.renL,O.ren,killc,kill0,Function.comp_def,argsFrom,zC,hΓ,visS,hrG,hrN,stepsV]) ?_;rintro ⟨⟨i,seen,steps,ws⟩,hF⟩;(try dsimp only)
  simp only at hF
  have hlN:=hF.lenN
  (repeat first|refine sN rfl ?_|((first|refine sM rfl ?_ ?_|refine s4 rfl ‹_› rfl ?_ ?_);first|exact tI|omega|(simp only[oZ] at *;omega))|(refine s2 rfl ?_;intro _ _hb)|(refine s3 rfl ?_ ?_<;>intro hb<;>subst hb)|refine aS ?_|refine reg (by kernel_rfl) ?_|refine lexE ?_|refine rD (by kernel_rfl) (by kernel_rfl) ?_)
  (refine aC rfl ?_ ?_<;>intro hb<;>cases hb)
  · have hi : i < steps.length:=by first|omega|(simp only [oZ] at *;omega)
    obtain ⟨s,hs⟩:=get_some hi
    have hs':(steps.map stRowC)[0+((i:Nat):Int).toNat]? = some (stRowC s):=get_mapA hs
    obtain ⟨wi,hwi⟩:∃wi,ws[i]? = some wi:=get_some (by rw [hF.wlen];exact hi)
    refine AWp.skip ?_
    refine AWp.seq (AWp.block ?_)
    (repeat first|refine sN rfl ?_|((first|refine sM rfl ?_ ?_|refine s4 rfl ‹_› rfl ?_ ?_);first|exact tI|omega|(simp only[oZ] at *;omega))|(refine s2 rfl ?_;intro _ _hb)|(refine s3 rfl ?_ ?_<;>intro hb<;>subst hb)|refine aS ?_|refine reg (by kernel_rfl) ?_|refine lexE ?_|refine rD (by kernel_rfl) (by kernel_rfl) ?_)
    refine AWp.block ?_
    refine AWp.loopL (α:={x:Nat×List Bool×List Stp×List (List Int) // x.1≤g.ls.length∧FI g x.2.1 x.2.2.1 x.2.2.2 i x.1∧i < x.2.2.1.length}) (fun ⟨⟨j,sen2,st2,ws2⟩,hP⟩=>[(2,eInts g.ls),(3,.o (.fn gN capsN)),(12,.o (.ptr 0 1 0 0)),(13,.o (.ptr 3 1 0 0)),(14,.o (.fn 138 [.ptr 0 1 0 0,.ptr 2 1 0 0,.ptr 3 1 0 0])),(15,eI .i64 i),(33,eInts g.ls),(34,eI .i64 g.ls.length),(35,eI .i64 j)]) (fun ⟨⟨j,sen2,st2,ws2⟩,hP⟩=>visS g.N gG capsG sen2 4 st2) 5 (fun ⟨⟨j,sen2,st2,ws2⟩,hP⟩=>g.ls.length - j) (⟨(0,seen,steps,ws),by simp,hF,hi⟩) [0,1,2,3,4] (by first|(simp [hΓ];done)|(rw [hΓ];decide)) (by (repeat' (first|exact trivial|rfl|refine And.intro ?_ ?_))<;>simp [EnvSub,StoreSub,look_cons,nm,E.ren,C.ren,C.renL,O.ren,killc,kill0,Function.comp_def,argsFrom,zC,hΓ,visS,hrG,hrN]) ?_;rintro ⟨⟨j,sen2,st2,ws2⟩,hP⟩;(try dsimp only)
    clear hs hs' hwi hF hlN hi
    obtain ⟨hj,hF,hi⟩:=hP
    simp only at hj hF hi
    have hlN:=hF.lenN
    (repeat first|refine sN rfl ?_|((first|refine sM rfl ?_ ?_|refine s4 rfl ‹_› rfl ?_ ?_);first|exact tI|omega|(simp only[oZ] at *;omega))|(refine s2 rfl ?_;intro _ _hb)|(refine s3 rfl ?_ ?_<;>intro hb<;>subst hb)|refine aS ?_|refine reg (by kernel_rfl) ?_|refine lexE ?_|refine rD (by kernel_rfl) (by kernel_rfl) ?_)
    (refine aC rfl ?_ ?_<;>intro hb<;>cases hb)
    · have hjl:j < g.ls.length:=by first|omega|(simp only [oZ] at *;omega)
      obtain ⟨l,hl⟩:=get_some (l:=g.ls) (k:=j) hjl
      have hl':=get_map (g:=iRow) hl
      have hlm:=List.mem_of_getElem? hl
      have hlb:=hls l hlm
      obtain ⟨s,hs⟩:=get_some hi
      have hs':(st2.map stRowC)[0+((i:Nat):Int).toNat]? = some (stRowC s):=get_mapA hs
      obtain ⟨wi,hwi⟩:∃wi,ws2[i]? = some wi:=get_some (by rw [hF.wlen];exact hi)
      have hsin:=hF.inn s (List.mem_of_getElem? hs)
      have hsnd:=nodup_len _ _ (hF.nd s (List.mem_of_getElem? hs)) hsin
      refine AWp.skip ?_
      refine AWp.seq (AWp.block ?_)
      (repeat first|refine sN rfl ?_|((first|refine sM rfl ?_ ?_|refine s4 rfl ‹_› rfl ?_ ?_);first|exact tI|omega|(simp only[oZ] at *;omega))|(refine s2 rfl ?_;intro _ _hb)|(refine s3 rfl ?_ ?_<;>intro hb<;>subst hb)|refine aS ?_|refine reg (by kernel_rfl) ?_|refine lexE ?_|refine rD (by kernel_rfl) (by kernel_rfl) ?_)
      (refine popO rfl ?_;refine popW ?_ rfl (by rfl);refine n_nil 1 3 ?_)
      (repeat first|refine sN rfl ?_|((first|refine sM rfl ?_ ?_|refine s4 rfl ‹_› rfl ?_ ?_);first|exact tI|omega|(simp only[oZ] at *;omega))|(refine s2 rfl ?_;intro _ _hb)|(refine s3 rfl ?_ ?_<;>intro hb<;>subst hb)|refine aS ?_|refine reg (by kernel_rfl) ?_|refine lexE ?_|refine rD (by kernel_rfl) (by kernel_rfl) ?_)
      refine AWp.block ?_
      refine AWp.loopL (α:={m:Nat // m≤s.ns.length}) (fun ⟨m,hm⟩=>[(2,eInts g.ls),(3,.o (.fn gN capsN)),(12,.o (.ptr 0 1 0 0)),(13,.o (.ptr 3 1 0 0)),(14,.o (.fn 138 [.ptr 0 1 0 0,.ptr 2 1 0 0,.ptr 3 1 0 0])),(15,eI .i64 i),(33,eInts g.ls),(34,eI .i64 g.ls.length),(35,eI .i64 j),(17,eI .i64 l),(18,.o (.arr 5 1 0 ((s.ns.take m).flatMap fun n=>g.succ n l).length)),(43,eInts s.ns),(44,eI .i64 s.ns.length),(45,eI .i64 m)]) (fun ⟨m,hm⟩=>visS g.N gG capsG sen2 4 st2++[(5,.cells 3 1 (((s.ns.take m).flatMap fun n=>g.succ n l).map iRowC))]) 6 (fun ⟨m,hm⟩=>s.ns.length - m) (⟨0,by omega⟩) [0,1,2,3,4,5] (by first|(simp [hΓ];done)|(rw [hΓ];decide)) (by (repeat' (first|exact trivial|rfl|refine And.intro ?_ ?_))<;>simp [EnvSub,StoreSub,look_cons,nm,E.ren,C.ren,C.renL,O.ren,killc,kill0,Function.comp_def,argsFrom,zC,hΓ,visS,hrG,hrN]) ?_;rintro ⟨m,hm⟩;(try dsimp only)
      (repeat first|refine sN rfl ?_|((first|refine sM rfl ?_ ?_|refine s4 rfl ‹_› rfl ?_ ?_);first|exact tI|omega|(simp only[oZ] at *;omega))|(refine s2 rfl ?_;intro _ _hb)|(refine s3 rfl ?_ ?_<;>intro hb<;>subst hb)|refine aS ?_|refine reg (by kernel_rfl) ?_|refine lexE ?_|refine rD (by kernel_rfl) (by kernel_rfl) ?_)
      (refine aC rfl ?_ ?_<;>intro hb<;>cases hb)
      · obtain ⟨n,hn⟩:=get_some (l:=s.ns) (k:=m) (by first|omega|(simp only [oZ] at *;omega))
        have hn':=get_map (g:=iRow) hn
        have hnb:=hsin n (List.mem_of_getElem? hn)
        have hfm:(s.ns.take (m+1)).flatMap (fun n=>g.succ n l)=(s.ns.take m).flatMap (fun n=>g.succ n l)++g.succ n l:=by
          rw [List.take_add_one,hn];simp
        have hol:((s.ns.take m).flatMap fun n=>g.succ n l).length≤1099511627776:=by
          have h2:=flat_len (s.ns.take m) (fun n=>g.succ n l) 1048576 (fun x hx=>by have:=hsl x l (hsin x (List.mem_of_mem_take hx)) hlm;omega)
          have h3:(s.ns.take m).length≤1048576:=by simp;omega
          omega
        have hnx:=hNx n l _ hnb hlm hol
        generalize (s.ns.take m).flatMap (fun n=>g.succ n l)=pre at *
        refine AWp.skip ?_
        refine AWp.seq (AWp.block ?_)
        (repeat first|refine sN rfl ?_|((first|refine sM rfl ?_ ?_|refine s4 rfl ‹_› rfl ?_ ?_);first|exact tI|omega|(simp only[oZ] at *;omega))|(refine s2 rfl ?_;intro _ _hb)|(refine s3 rfl ?_ ?_<;>intro hb<;>subst hb)|refine aS ?_|refine reg (by kernel_rfl) ?_|refine lexE ?_|refine rD (by kernel_rfl) (by kernel_rfl) ?_)
        (refine popO rfl ?_;refine popW ?_ rfl (by rfl);refine n_call [5] rfl rfl hnx ⟨rfl,by decide,by decide⟩ (by rw [renEs_app,renEs_caps,hrN];rfl) (by simp [EnvSub,StoreSub,look_cons,nm,E.ren,C.ren,C.renL,O.ren,killc,kill0,Function.comp_def,argsFrom,zC,hΓ]) ?_;rintro x0 σ1 nx1 ⟨rfl,rfl,rfl⟩ _)
        (repeat first|refine sN rfl ?_|((first|refine sM rfl ?_ ?_|refine s4 rfl ‹_› rfl ?_ ?_);first|exact tI|omega|(simp only[oZ] at *;omega))|(refine s2 rfl ?_;intro _ _hb)|(refine s3 rfl ?_ ?_<;>intro hb<;>subst hb)|refine aS ?_|refine reg (by kernel_rfl) ?_|refine lexE ?_|refine rD (by kernel_rfl) (by kernel_rfl) ?_)
        refine ⟨⟨m+1,by first|omega|(simp only [oZ] at *;omega)⟩,by dsimp only;(first|omega|(simp only [oZ] at *;omega)),[0,1,2,3,4,6],?_⟩
        simp [EnvSub,StoreSub,look_cons,nm,E.ren,C.ren,C.renL,O.ren,killc,kill0,Function.comp_def,argsFrom,zC,hΓ,visS,hrG,hrN,Store.ren,killL,nmo,hfm]
      · obtain rfl:m=s.ns.length:=by first|omega|(simp only [oZ] at *;omega)
        rw [List.take_length]
        have hR:∀y,y∈s.ns.flatMap (fun n=>g.succ n l)↔∃n∈s.ns,y∈g.succ n l:=fun y=>List.mem_flatMap
        generalize s.ns.flatMap (fun n=>g.succ n l)=R at *
        have hRin:∀y∈R,0≤y∧y < g.N:=fun y hy=>by
          obtain ⟨n,hn,hy⟩:=(hR y).1 hy
          exact hg.inn n (hsin n hn) l hlm y hy
        have hv:=vis_ok (goal:=g.goal) hF.slen hRin
        have hvis:=visit_ok (TB:=TB) hG hcG hrG sen2 st2 i l R hF.slen hN (by omega) hRin
        generalize hV2:vis g.goal sen2 R=v2 at *
        refine AWp.exit ?_
        refine AWp.freeze [5] [(2,eInts g.ls),(3,.o (.fn gN capsN)),(12,.o (.ptr 0 1 0 0)),(13,.o (.ptr 3 1 0 0)),(14,.o (.fn 138 [.ptr 0 1 0 0,.ptr 2 1 0 0,.ptr 3 1 0 0])),(15,eI .i64 i),(33,eInts g.ls),(34,eI .i64 g.ls.length),(35,eI .i64 j),(17,eI .i64 l),(18,eInts R)] ⟨⟨_,rfl,.keep⟩,⟨_,rfl,.keep⟩,⟨_,rfl,.keep⟩,⟨_,rfl,.keep⟩,⟨_,rfl,.keep⟩,⟨_,rfl,.keep⟩,⟨_,rfl,.keep⟩,⟨_,rfl,.keep⟩,⟨_,rfl,.keep⟩,⟨_,rfl,.keep⟩,⟨_,rfl,.o (.full (by simp) rfl (by simp [Function.comp_def]) (by simp))⟩,trivial⟩ ?_
        (repeat first|refine sN rfl ?_|((first|refine sM rfl ?_ ?_|refine s4 rfl ‹_› rfl ?_ ?_);first|exact tI|omega|(simp only[oZ] at *;omega))|(refine s2 rfl ?_;intro _ _hb)|(refine s3 rfl ?_ ?_<;>intro hb<;>subst hb)|refine aS ?_|refine reg (by kernel_rfl) ?_|refine lexE ?_|refine rD (by kernel_rfl) (by kernel_rfl) ?_)
        (refine popO rfl ?_;refine popW ?_ rfl (by rfl);refine n_call [0,1,2,3,4] rfl rfl hvis ⟨rfl,by decide,by decide⟩ rfl (by simp [EnvSub,StoreSub,look_cons,nm,E.ren,C.ren,C.renL,O.ren,killc,kill0,Function.comp_def,argsFrom,zC,hΓ,visS,hrG,killL]) ?_;rintro x0 σ1 nx1 ⟨rfl,q,hq,rfl⟩ _)
        obtain ⟨vse,vfr,vfd⟩:=v2
        simp only
        refine lexE ?_
        refine AWp.names [0,1,2,3,if q=4 then 4 else 6] [(2,eInts g.ls),(3,.o (.fn gN capsN)),(12,.o (.ptr 0 1 0 0)),(13,.o (.ptr 3 1 0 0)),(14,.o (.fn 138 [.ptr 0 1 0 0,.ptr 2 1 0 0,.ptr 3 1 0 0])),(15,eI .i64 i),(33,eInts g.ls),(34,eI .i64 g.ls.length),(35,eI .i64 j),(59,eB vfd)] (visS g.N gG capsG vse 4 (stepsV st2 i l vfr)) (by simp [hΓ]) (by rcases hq with ⟨rfl,rfl⟩|⟨rfl,rfl⟩<;>decide)
          (by rcases hq with ⟨rfl,rfl⟩|⟨rfl,rfl⟩<;>simp [EnvSub,StoreSub,look_cons,nm,E.ren,C.ren,C.renL,O.ren,killc,kill0,Function.comp_def,argsFrom,zC,hΓ,hrN]) (by rcases hq with ⟨rfl,rfl⟩|⟨rfl,rfl⟩<;>simp [EnvSub,StoreSub,look_cons,nm,E.ren,C.ren,C.renL,O.ren,killc,kill0,Function.comp_def,argsFrom,zC,hΓ,visS,hrG,Store.ren,killL,nmo]) ?_
        (refine aC rfl ?_ ?_<;>intro hb<;>cases hb)
        · obtain ⟨x,hx,hgx⟩:∃x∈vfr,g.goal x=true:=by
            have h1:vfr.any g.goal=true:=hv.fd.symm
            exact List.any_eq_true.1 h1
          have hxR:=((hv.fr x).1 hx).1
          obtain ⟨n,hn,hxn⟩:=(hR x).1 hxR
          have hans:=IsAns.found hg hF hwi hl hs hn hxn hgx
          have hrr:=IsAns.unique hr hans
          subst hrr
          have hne:vfr≠[]:=fun e=>by rw [e] at hx;cases hx
          have hsv:stepsV st2 i l vfr=st2++[⟨i,l,vfr⟩]:=by unfold stepsV;rw [if_neg hne]
          rw [hsv]
          have hch:=hF.toChain.app (ns:=vfr) hwi hlm
          have hpw:=pathWord_ok (TB:=TB) hch hls (w:=wi++[l]) (by simp;omega) (by simp [hF.wlen])
          generalize hst3:st2++[⟨(i:Int),l,vfr⟩]=st3 at *
          (repeat first|refine sN rfl ?_|((first|refine sM rfl ?_ ?_|refine s4 rfl ‹_› rfl ?_ ?_);first|exact tI|omega|(simp only[oZ] at *;omega))|(refine s2 rfl ?_;intro _ _hb)|(refine popO rfl ?_;refine gA rfl ?_;first|refine gQ (q_callB rfl rfl ((.cons (.o (.full rfl (by simp [Function.comp_def]) (by simp))) .nil)) (hpw) rfl) rfl ?_)|(refine s3 rfl ?_ ?_<;>intro hb<;>subst hb)|refine aS ?_|refine reg (by kernel_rfl) ?_|refine lexE ?_|refine rD (by kernel_rfl) (by kernel_rfl) ?_)
          refine AWp.ret ⟨_,rfl,rfl⟩
        · have hF2:=hF.visit hg hwi hl hs hR hv rfl
          have hlen2:i < (stepsV st2 i l vfr).length:=by unfold stepsV;split<;>(try simp)<;>omega
          refine AWp.skip ?_
          (repeat first|refine sN rfl ?_|((first|refine sM rfl ?_ ?_|refine s4 rfl ‹_› rfl ?_ ?_);first|exact tI|omega|(simp only[oZ] at *;omega))|(refine s2 rfl ?_;intro _ _hb)|(refine s3 rfl ?_ ?_<;>intro hb<;>subst hb)|refine aS ?_|refine reg (by kernel_rfl) ?_|refine lexE ?_|refine rD (by kernel_rfl) (by kernel_rfl) ?_)
          refine ⟨⟨(j+1,vse,stepsV st2 i l vfr,wsV ws2 (wi++[l]) vfr),hjl,hF2,hlen2⟩,by dsimp only;omega,[0,1,2,3,4],?_⟩
          simp [EnvSub,StoreSub,look_cons,nm,E.ren,C.ren,C.renL,O.ren,killc,kill0,Function.comp_def,argsFrom,zC,hΓ,visS,hrG,hrN]
    · obtain rfl:j=g.ls.length:=by first|omega|(simp only [oZ] at *;omega)
      have hF2:=hF.nextI hi
      refine AWp.exit ?_
      (repeat first|refine sN rfl ?_|((first|refine sM rfl ?_ ?_|refine s4 rfl ‹_› rfl ?_ ?_);first|exact tI|omega|(simp only[oZ] at *;omega))|(refine s2 rfl ?_;intro _ _hb)|(refine s3 rfl ?_ ?_<;>intro hb<;>subst hb)|refine aS ?_|refine reg (by kernel_rfl) ?_|refine lexE ?_|refine rD (by kernel_rfl) (by kernel_rfl) ?_)
      refine ⟨⟨(i+1,sen2,st2,ws2),hF2⟩,by dsimp only;omega,[0,1,2,3,4],?_⟩
      simp [EnvSub,StoreSub,look_cons,nm,E.ren,C.ren,C.renL,O.ren,killc,kill0,Function.comp_def,argsFrom,zC,hΓ,visS,hrG,hrN]
  · have hle:=hF.le
    obtain rfl:i=steps.length:=by first|omega|(simp only [oZ] at *;omega)
    have hans:=IsAns.dry hg hF
    have hrr:=IsAns.unique hr hans
    subst hrr
    refine AWp.exit ?_
    (repeat first|refine sN rfl ?_|((first|refine sM rfl ?_ ?_|refine s4 rfl ‹_› rfl ?_ ?_);first|exact tI|omega|(simp only[oZ] at *;omega))|(refine s2 rfl ?_;intro _ _hb)|(refine s3 rfl ?_ ?_<;>intro hb<;>subst hb)|refine aS ?_|refine reg (by kernel_rfl) ?_|refine lexE ?_|refine rD (by kernel_rfl) (by kernel_rfl) ?_)
    refine AWp.ret ⟨_,rfl,rfl⟩
end Go.Am
namespace Go.Am
open Go Go.Proofs
set_option maxHeartbeats 1000000
attribute [local irreducible] QOp AOp Lex LexO AWp Spec
variable {TB:List (Nat×Obj)}
theorem tbl_get {a:Aut} {q:Nat} (h:q < a.nx.length):(tblD a)[q]? = some (rowD fun l=>goA a q l):=rowsF_get (g:=fun q=>rowD fun l=>goA a q l) h
theorem rowD_get {h:Nat→Int} {l:Int} (h0:0≤l) (h1:l < 6):((rowD h).drop (l.toNat*1))[0]? = some (iD (h l.toNat)):=by
  rw [List.getElem?_drop]
  have h2:l.toNat*1+0=l.toNat:=by omega
  have h3:l.toNat < 6:=by omega
  rw [h2]
  simp [rowD,h3]
end Go.Am
namespace Go.Am
open Go Go.Proofs
set_option maxHeartbeats 1000000
attribute [local irreducible] QOp AOp Lex LexO AWp Spec
variable {TB:List (Nat×Obj)}
end Go.Am
namespace Go.Am
open Go Go.Proofs
set_option maxHeartbeats 1000000
attribute [local irreducible] QOp AOp Lex LexO AWp Spec
variable {TB:List (Nat×Obj)}
end Go.Am
namespace Go.Am
open Go Go.Proofs
set_option maxHeartbeats 1000000
attribute [local irreducible] QOp AOp Lex LexO AWp Spec
variable {TB:List (Nat×Obj)}
end Go.Am
namespace Go.Am
open Go
theorem reach_congr {g g':Gr} (hg:GrOk g) (hls:g.ls=g'.ls) (hs:∀x:Int,0≤x∧x < g.N→∀l∈g.ls,g.succ x l=g'.succ x l):∀ {w:List Int} {a x:Int},over g w→(0≤a∧a < g.N)→(reach g w a x↔reach g' w a x)
  | [],a,x,_,_=>Iff.rfl
  | l :: w,a,x,ho,ha=>by
    have hl:=ho l (by simp)
    simp only [reach,←hs a ha l hl]
    constructor
    · rintro ⟨y,hy,h⟩
      exact ⟨y,hy,(reach_congr hg hls hs (fun m hm=>ho m (by simp [hm])) (hg.inn a ha l hl y hy)).1 h⟩
    · rintro ⟨y,hy,h⟩
      exact ⟨y,hy,(reach_congr hg hls hs (fun m hm=>ho m (by simp [hm])) (hg.inn a ha l hl y hy)).2 h⟩
theorem IsAns.congr {g g':Gr} (hg:GrOk g) (hls:g.ls=g'.ls) (h0:g.s0=g'.s0) (hs:∀x:Int,0≤x∧x < g.N→∀l∈g.ls,g.succ x l=g'.succ x l) (hgo:∀x:Int,0≤x∧x < g.N→g.goal x=g'.goal x) {r:Option (List Int)} (h:IsAns g r):IsAns g' r:=by
  have hov:∀w,over g' w↔over g w:=fun w=>by unfold over;rw [hls]
  have hh:∀w,over g w→(hit g' w↔hit g w):=fun w hw=>by
    unfold hit
    rw [←h0]
    constructor
    · rintro ⟨x,hx,hgx⟩
      have hx:=(reach_congr hg hls hs hw hg.s0).2 hx
      exact ⟨x,hx,by rw [hgo x (reach_in hg hw hg.s0 hx)];exact hgx⟩
    · rintro ⟨x,hx,hgx⟩
      exact ⟨x,(reach_congr hg hls hs hw hg.s0).1 hx,by rw [←hgo x (reach_in hg hw hg.s0 hx)];exact hgx⟩
  cases r with
  | none=>exact fun u hu hx=>h u ((hov u).1 hu) ((hh u ((hov u).1 hu)).1 hx)
  | some w=>
    obtain ⟨h1,h2,h3⟩:=h
    exact ⟨(hov w).2 h1,(hh w h1).2 h2,fun u hu hx=>h3 u ((hov u).1 hu) ((hh u ((hov u).1 hu)).1 hx)⟩
theorem lowN_app {zs ws:List Int} {cs ds:List (List Int)} (h:ChOk zs cs):lowN (zs++ws) (cs++ds)=(lowN zs cs).flatMap fun o=>(lowN ws ds).map fun r=>o*prodI ws+r:=by
  induction h with
  | nil=>simp [lowN]
  | @cons z c zs cs _ _ _ ih=>
    simp only [List.cons_append,lowN,ih]
    rw [List.flatMap_assoc]
    congr 1
    funext q
    rw [List.map_flatMap,List.flatMap_map]
    congr 1
    funext o
    rw [List.map_map]
    congr 1
    funext r
    simp only [Function.comp_def,prodI_app]
    rw [Int.add_mul,Int.mul_assoc];omega
theorem sizes_split (l:List Sys) (aus:List Aut) (st:List Int) (ls kd gl:Int):sizesN ⟨l,aus,st,ls,kd,gl⟩=l.map (·.st)++aus.map (fun a=>(a.nx.length:Int)):=rfl
theorem nextsN_split {l:List Sys} {aus:List Aut} {st:List Int} {ls kd gl:Int} (hn:NetOk ⟨l,aus,st,ls,kd,gl⟩) {node letter:Int} (h0:0≤letter) (h1:letter < 6) :
    nextsN ⟨l,aus,st,ls,kd,gl⟩ (sizesN ⟨l,aus,st,ls,kd,gl⟩) (decN (sizesN ⟨l,aus,st,ls,kd,gl⟩) node) letter =
      (lowN (l.map (·.st)) (csP l (node / prodI (aus.map fun a=>(a.nx.length:Int))) letter)).flatMap fun o=>(lowN (aus.map fun a=>(a.nx.length:Int)) (aus.zipWith (fun a q=>[goA a q.toNat letter]) (decN (aus.map fun a=>(a.nx.length:Int)) node))).map fun r=>o*prodI (aus.map fun a=>(a.nx.length:Int))+r:=by
  have hp:∀w∈aus.map (fun a=>(a.nx.length:Int)),0 < w:=fun w hw=>by
    obtain ⟨a,ha,rfl⟩:=List.mem_map.1 hw
    have:=autOk_head (hn.au a ha);omega
  unfold nextsN
  rw [mixN_low0 (choL_ok hn (dec_fits hn node) h0 h1),sizes_split,decN_app _ _ _ hp]
  have hch:=csP_ok hn.ps hn.np h0 h1 (node / prodI (aus.map fun a=>(a.nx.length:Int)))
  have e:choL ⟨l,aus,st,ls,kd,gl⟩ (decN (l.map (·.st)) (node / prodI (aus.map fun a=>(a.nx.length:Int)))++decN (aus.map fun a=>(a.nx.length:Int)) node) letter=csP l (node / prodI (aus.map fun a=>(a.nx.length:Int))) letter++aus.zipWith (fun a q=>[goA a q.toNat letter]) (decN (aus.map fun a=>(a.nx.length:Int)) node):=by
    unfold choL csP
    have hl:(decN (l.map (·.st)) (node / prodI (aus.map fun a=>(a.nx.length:Int)))).length=l.length:=by rw [decN_len];simp
    simp only
    rw [List.drop_append_of_le_length (by omega),List.drop_of_length_le (by omega),List.nil_append]
    congr 1
    rw [zipWith_take,List.take_append_of_le_length (by omega),List.take_of_length_le (by omega)]
  rw [e,lowN_app hch]
theorem encN_zero:∀(zs:List Int) (k:Nat),encN zs (List.replicate k 0) 0=0
  | [],k=>by simp [encN]
  | z::zs,0=>by simp [encN]
  | z::zs,k+1=>by
    rw [List.replicate_succ]
    simp only [encN,Int.zero_mul,Int.add_zero]
    exact encN_zero zs k
end Go.Am
namespace Go.Am
open Go
set_option linter.unusedVariables false
theorem iAnd_nat {a b:Nat} (ha:a < 2 ^ 62) (hb:b < 2 ^ 62):iAnd .i64 a b=((a &&& b:Nat):Int):=by
  have h0:a &&& b≤a:=Nat.and_le_left
  unfold iAnd
  have h1:(BitVec.ofInt IntKind.i64.bits (a:Int) &&& BitVec.ofInt IntKind.i64.bits (b:Int)).toNat=a &&& b:=by
    have e:IntKind.i64.bits=64:=rfl
    rw [e]
    simp only [BitVec.toNat_and,BitVec.ofInt_natCast,BitVec.toNat_ofNat]
    rw [Nat.mod_eq_of_lt (by omega),Nat.mod_eq_of_lt (by omega)]
  rw [h1]
  exact IntWalk.i64_in _ (by omega)
theorem fdiv_nat (s n:Nat):((s:Nat):Int).fdiv (2 ^ n)=((s / 2 ^ n:Nat):Int):=by
  have h:(0:Int)≤2 ^ n:=Int.le_of_lt (Int.pow_pos (by omega))
  rw [Int.fdiv_eq_ediv_of_nonneg _ h]
  push_cast
  rfl
theorem bitB_nat {s n:Nat} (hs:s < 2 ^ 62) (hn:n < 64):bitB (s:Nat) n=s.testBit n:=by
  unfold bitB
  have e:min n 64=n:=by omega
  rw [e,fdiv_nat]
  have h1:s / 2 ^ n≤s:=Nat.div_le_self _ _
  have h2:=iAnd_nat (a:=s / 2 ^ n) (b:=1) (by omega) (by omega)
  rw [show ((1:Nat):Int)=1 from rfl] at h2
  rw [h2,Nat.testBit_eq_decide_div_mod_eq,Nat.and_one_is_mod]
  congr 1
  rw [eq_iff_iff]
  omega
theorem sub_iff {s a:Nat}:s &&& a=s↔∀n,s.testBit n=true→a.testBit n=true:=by
  constructor
  · intro h n hn
    have:=congrArg (·.testBit n) h
    simp only [Nat.testBit_and,hn,Bool.true_and] at this
    exact this
  · intro h
    apply Nat.eq_of_testBit_eq
    intro n
    rw [Nat.testBit_and]
    cases hs:s.testBit n
    · rfl
    · rw [h n hs];rfl
abbrev Wd:=List UInt8
def chOk (c:UInt8):Bool:=decide (97≤c.toNat∧c.toNat < 103)
def wordOk (w:Wd):Bool:=decide (w.length≤50000) && w.all chOk
def setW (w:Wd):Nat:=w.foldl (fun s c=>s ||| 2 ^ (c.toNat - 97)) 0
def inAl (al:Int) (c:UInt8):Bool:=chOk c && bitB al (c.toNat - 97)
def within (w:Wd) (al:Int):Bool:=decide (w.length≤50000) && (alphB al && w.all (inAl al))
theorem fold_bit (n:Nat):∀(w:Wd) (s:Nat),(w.foldl (fun s c=>s ||| 2 ^ (c.toNat - 97)) s).testBit n=(s.testBit n || w.any fun c=>decide (c.toNat - 97=n))
  | [],s=>by simp
  | c::w,s=>by
    rw [List.foldl_cons,fold_bit n w,Nat.testBit_or,Nat.testBit_two_pow,List.any_cons,Bool.or_assoc]
theorem setW_bit (w:Wd) (n:Nat):(setW w).testBit n=w.any fun c=>decide (c.toNat - 97=n):=by
  unfold setW;rw [fold_bit];simp
theorem setW_lt:∀ {w:Wd} {s:Nat},w.all chOk=true→s < 64→w.foldl (fun s c=>s ||| 2 ^ (c.toNat - 97)) s < 64
  | [],s,_,hs=>hs
  | c::w,s,h,hs=>by
    simp only [List.all_cons,Bool.and_eq_true] at h
    rw [List.foldl_cons]
    refine setW_lt h.2 ?_
    have h1:=h.1
    unfold chOk at h1
    simp only [decide_eq_true_eq] at h1
    have h2:2 ^ (c.toNat - 97) < 2 ^ 6:=Nat.pow_lt_pow_right (by omega) (by omega)
    exact Nat.or_lt_two_pow (n:=6) hs h2
theorem setW_in {w:Wd} {al:Int} (hw:w.all chOk=true) (ha:alphB al=true):decide (iAnd .i64 (setW w:Nat) al=(setW w:Nat))=w.all (inAl al):=by
  have hs:setW w < 64:=setW_lt hw (by omega)
  unfold alphB at ha
  simp only [decide_eq_true_eq] at ha
  obtain ⟨a,rfl⟩:∃a:Nat,al=a:=⟨al.toNat,by omega⟩
  rw [iAnd_nat (by omega) (by omega)]
  rw [Bool.eq_iff_iff,decide_eq_true_eq,List.all_eq_true]
  have h1:((setW w &&& a:Nat):Int)=(setW w:Nat)↔setW w &&& a=setW w:=by omega
  rw [h1,sub_iff]
  rw [List.all_eq_true] at hw
  constructor
  · intro h c hc
    have h2:=hw c hc
    unfold inAl
    rw [h2,Bool.true_and]
    unfold chOk at h2
    simp only [decide_eq_true_eq] at h2
    rw [bitB_nat (by omega) (by omega)]
    refine h _ ?_
    rw [setW_bit,List.any_eq_true]
    exact ⟨c,hc,by simp⟩
  · intro h n hn
    rw [setW_bit,List.any_eq_true] at hn
    obtain ⟨c,hc,hcn⟩:=hn
    simp only [decide_eq_true_eq] at hcn
    have h2:=hw c hc
    have h3:=h c hc
    unfold inAl at h3
    rw [h2,Bool.true_and] at h3
    unfold chOk at h2
    simp only [decide_eq_true_eq] at h2
    rw [bitB_nat (by omega) (by omega),hcn] at h3
    exact h3
theorem within_all {w:Wd} {al:Int} (h:w.all (inAl al)=true):w.all chOk=true:=by
  rw [List.all_eq_true] at *
  intro c hc
  have:=h c hc
  unfold inAl at this
  simp only [Bool.and_eq_true] at this
  exact this.1
end Go.Am
namespace Go.Am
open Go Go.Proofs
set_option maxHeartbeats 1000000
attribute [local irreducible] QOp AOp Lex LexO AWp Spec
variable {TB:List (Nat×Obj)}
def AnyPost {α:Type} (Q:α→Prop) (g:α→E) (x:E) (σ:Store) (nx:Nat):Prop:=∃r,Q r∧x=g r∧σ=[]∧nx=0
theorem FormatAlphabet_ok (n:Int):Spec Tryz.prog TB 115 [] 0 [eI .i64 n] (AnyPost (fun r:W=>r.length≤6) eT):=by
  have hla:(letters n).length≤6:=lettersTo_len n 6
  refine SpecK.toSpec (SpecK.ren (SpecK.ofG (Nat.le_refl _) Tryz.func115 rfl (by kernel_rfl) (Nat.le_of_ble_eq_true rfl) ?_));intro Γ hΓ
  (repeat first|refine sN rfl ?_|((first|refine sA rfl ?_ ?_|refine s4 rfl ‹_› rfl ?_ ?_);first|exact tI|omega|(simp only[oZ] at *;omega))|(refine s2 rfl ?_;intro _ _hb) |(refine sC rfl (l1Alphabet_ok n) ?_;intro _ _hb)|(refine s3 rfl ?_ ?_<;>intro hb<;>subst hb)|refine aS ?_|refine reg (by kernel_rfl) ?_|refine lexE ?_)
  (refine aC rfl ?_ ?_<;>intro hb<;>cases hb)
  · (repeat first|refine sN rfl ?_|((first|refine sA rfl ?_ ?_|refine s4 rfl ‹_› rfl ?_ ?_);first|exact tI|omega|(simp only[oZ] at *;omega))|(refine s2 rfl ?_;intro _ _hb)|(refine s3 rfl ?_ ?_<;>intro hb<;>subst hb)|refine aS ?_|refine reg (by kernel_rfl) ?_|refine lexE ?_)
    refine AWp.ret ⟨_,rfl,[],eT [],[],⟨by intro i hi;omega,by decide⟩,rfl,trivial,[],by decide,rfl,rfl,rfl⟩
  refine AWp.skip ?_
  (repeat first|refine sN rfl ?_|((first|refine sA rfl ?_ ?_|refine s4 rfl ‹_› rfl ?_ ?_);first|exact tI|omega|(simp only[oZ] at *;omega))|(refine s2 rfl ?_;intro _ _hb)|(refine s3 rfl ?_ ?_<;>intro hb<;>subst hb)|refine aS ?_|refine reg (by kernel_rfl) ?_|refine lexE ?_)
  (refine aC rfl ?_ ?_<;>intro hb<;>cases hb)
  · (repeat first|refine sN rfl ?_|((first|refine sA rfl ?_ ?_|refine s4 rfl ‹_› rfl ?_ ?_);first|exact tI|omega|(simp only[oZ] at *;omega))|(refine s2 rfl ?_;intro _ _hb)|(refine s3 rfl ?_ ?_<;>intro hb<;>subst hb)|refine aS ?_|refine reg (by kernel_rfl) ?_|refine lexE ?_)
    refine AWp.ret ⟨_,rfl,[],eT [45],[],⟨by intro i hi;omega,by decide⟩,rfl,trivial,[45],by decide,rfl,rfl,rfl⟩
  refine AWp.skip ?_
  (repeat first|refine sN rfl ?_|((first|refine sA rfl ?_ ?_|refine s4 rfl ‹_› rfl ?_ ?_);first|exact tI|omega|(simp only[oZ] at *;omega))|(refine s2 rfl ?_;intro _ _hb) |refine sP rfl (l1Letters_ok n) rfl ?_|(refine s3 rfl ?_ ?_<;>intro hb<;>subst hb)|refine aS ?_|refine reg (by kernel_rfl) ?_|refine lexE ?_)
  refine aB ?_
  refine AWp.loopV (α:={s:Nat×W // s.1≤(letters n).length∧s.2.length=s.1}) [4] [] rfl rfl (fun s=>[(3,eT s.1.2),(5,eI .i64 s.1.1)]) (fun s=>[]) 0 (fun s=>(letters n).length - s.1.1) (⟨⟨0,[]⟩,by simp⟩) (List.range 0) (by first|(simp [hΓ];done)|(rw [hΓ];decide)) (by (repeat' (first|exact trivial|rfl|refine And.intro ?_ ?_))<;>(simp [EnvSub,StoreSub,look_cons,nm,nmo,E.ren,C.ren,C.renL,O.ren,Store.ren,killc,kill0,killL,kill,fillC,spliceC,eC,Function.comp_def,argsFrom,zC,hΓ]<;>rfl)) ?_;rintro ⟨⟨k,w⟩,hk,hw⟩;(try dsimp only [List.cons_append,List.nil_append])
  have hk:k≤(letters n).length:=hk
  have hw:w.length=k:=hw
  (repeat first|refine sN rfl ?_|((first|refine sA rfl ?_ ?_|refine s4 rfl ‹_› rfl ?_ ?_);first|exact tI|omega|(simp only[oZ] at *;omega))|(refine s2 rfl ?_;intro _ _hb)|(refine s3 rfl ?_ ?_<;>intro hb<;>subst hb)|refine aS ?_|refine reg (by kernel_rfl) ?_|refine lexE ?_)
  ((refine aC rfl ?_ ?_<;>intro hb<;>cases hb);all_goals try (simp at _hb;done))
  · have hlt:k < (letters n).length:=by first|omega|(simp only [oZ] at *;omega)
    obtain ⟨l,hl⟩:=get_some (l:=letters n) (k:=k) hlt
    have hl':=get_map (g:=iRow) hl
    have hlb:=lettersTo_in (List.mem_of_getElem? hl)
    refine AWp.skip ?_
    refine AWp.seq (AWp.block ?_)
    (repeat first|refine sN rfl ?_|((first|refine sA rfl ?_ ?_|refine s4 rfl ‹_› rfl ?_ ?_);first|exact tI|omega|(simp only[oZ] at *;omega))|(refine s2 rfl ?_;intro _ _hb) |refine sP rfl (l1Text_ok l hlb.1 (by omega)) rfl ?_|(refine s3 rfl ?_ ?_<;>intro hb<;>subst hb)|refine aS ?_|refine reg (by kernel_rfl) ?_|refine lexE ?_)
    refine ⟨⟨⟨k+1,w++[UInt8.ofNat (97+l.toNat)]⟩,by dsimp only;omega,by simp;omega⟩,by dsimp only;(first|omega|(simp only [oZ] at *;omega)),[],?_⟩
    (simp [EnvSub,StoreSub,look_cons,nm,nmo,E.ren,C.ren,C.renL,O.ren,Store.ren,killc,kill0,killL,kill,fillC,spliceC,eC,Function.comp_def,argsFrom,zC,hΓ,rawR_ren,cond_eq_ite,Nat.beq_eq]<;>rfl)
  · refine AWp.exit ?_
    (repeat first|refine sN rfl ?_|((first|refine sA rfl ?_ ?_|refine s4 rfl ‹_› rfl ?_ ?_);first|exact tI|omega|(simp only[oZ] at *;omega))|(refine s2 rfl ?_;intro _ _hb)|(refine s3 rfl ?_ ?_<;>intro hb<;>subst hb)|refine aS ?_|refine reg (by kernel_rfl) ?_|refine lexE ?_)
    refine AWp.ret ⟨_,rfl,[],eT w,[],⟨by intro i hi;omega,by decide⟩,rfl,trivial,w,by show w.length≤6;omega,rfl,rfl,rfl⟩
theorem ParseAlphabet_ok (s:W):Spec Tryz.prog TB 86 [] 0 [eT s] (AnyPost (fun _:Int×Bool=>True) (fun r=>.t [(false,[.d (iD r.1)]),(false,[.d (bD r.2)])])):=by
  refine SpecK.toSpec (SpecK.ren (SpecK.ofG (Nat.le_refl _) Tryz.func86 rfl (by kernel_rfl) (Nat.le_of_ble_eq_true rfl) ?_));intro Γ hΓ
  (repeat first|refine sN rfl ?_|((first|refine sA rfl ?_ ?_|refine s4 rfl ‹_› rfl ?_ ?_);first|exact tI|omega|(simp only[oZ] at *;omega))|(refine s2 rfl ?_;intro _ _hb)|(refine s3 rfl ?_ ?_<;>intro hb<;>subst hb)|refine aS ?_|refine reg (by kernel_rfl) ?_|refine lexE ?_)
  refine aB ?_
  refine AWp.loopV (α:={k:Nat // k≤64}) [0] [] rfl rfl (fun s=>[(4,eI .i64 s.1)]) (fun s=>[]) 0 (fun s=>64 - s.1) (⟨0,by omega⟩) (List.range 0) (by first|(simp [hΓ];done)|(rw [hΓ];decide)) (by (repeat' (first|exact trivial|rfl|refine And.intro ?_ ?_))<;>(simp [EnvSub,StoreSub,look_cons,nm,nmo,E.ren,C.ren,C.renL,O.ren,Store.ren,killc,kill0,killL,kill,fillC,spliceC,eC,Function.comp_def,argsFrom,zC,hΓ]<;>rfl)) ?_;rintro ⟨k,hk⟩;(try dsimp only [List.cons_append,List.nil_append])
  (repeat first|refine sN rfl ?_|((first|refine sA rfl ?_ ?_|refine s4 rfl ‹_› rfl ?_ ?_);first|exact tI|omega|(simp only[oZ] at *;omega))|(refine s2 rfl ?_;intro _ _hb)|(refine s3 rfl ?_ ?_<;>intro hb<;>subst hb)|refine aS ?_|refine reg (by kernel_rfl) ?_|refine lexE ?_)
  ((refine aC rfl ?_ ?_<;>intro hb<;>cases hb);all_goals try (simp at _hb;done))
  · have hlt:k < 64:=by first|omega|(simp only [oZ] at *;omega)
    refine AWp.skip ?_
    refine AWp.seq (AWp.block ?_)
    (repeat first|refine sN rfl ?_|((first|refine sA rfl ?_ ?_|refine s4 rfl ‹_› rfl ?_ ?_);first|exact tI|omega|(simp only[oZ] at *;omega))|(refine s2 rfl ?_;intro _ _hb)|(refine s3 rfl ?_ ?_<;>intro hb<;>subst hb)|refine aS ?_|refine reg (by kernel_rfl) ?_|refine lexE ?_)
    (refine popO rfl ?_;refine popW ?_ rfl (by rfl);refine n_call [] rfl rfl (FormatAlphabet_ok (TB:=TB) (k:Int)) ⟨rfl,by decide,by decide⟩ rfl trivial ?_;rintro x0 σ1 nx1 ⟨r,hr,rfl,rfl,rfl⟩ _)
    (repeat first|refine sN rfl ?_|((first|refine sA rfl ?_ ?_|refine s4 rfl ‹_› rfl ?_ ?_);first|exact tI|omega|(simp only[oZ] at *;omega))|(refine s2 rfl ?_;intro _ _hb)|(refine s3 rfl ?_ ?_<;>intro hb<;>subst hb)|refine aS ?_|refine reg (by kernel_rfl) ?_|refine lexE ?_)
    (refine aC rfl ?_ ?_<;>intro hb<;>cases hb)
    · (repeat first|refine sN rfl ?_|((first|refine sA rfl ?_ ?_|refine s4 rfl ‹_› rfl ?_ ?_);first|exact tI|omega|(simp only[oZ] at *;omega))|(refine s2 rfl ?_;intro _ _hb)|(refine s3 rfl ?_ ?_<;>intro hb<;>subst hb)|refine aS ?_|refine reg (by kernel_rfl) ?_|refine lexE ?_)
      refine AWp.ret ⟨_,rfl,[],.t [(false,[.d (iD k)]),(false,[.d (bD true)])],[],⟨by intro i hi;omega,by decide⟩,rfl,trivial,(k,true),trivial,rfl,rfl,rfl⟩
    · refine AWp.skip ?_
      (repeat first|refine sN rfl ?_|((first|refine sA rfl ?_ ?_|refine s4 rfl ‹_› rfl ?_ ?_);first|exact tI|omega|(simp only[oZ] at *;omega))|(refine s2 rfl ?_;intro _ _hb)|(refine s3 rfl ?_ ?_<;>intro hb<;>subst hb)|refine aS ?_|refine reg (by kernel_rfl) ?_|refine lexE ?_)
      refine ⟨⟨k+1,by omega⟩,by dsimp only;(first|omega|(simp only [oZ] at *;omega)),[],?_⟩
      (simp [EnvSub,StoreSub,look_cons,nm,nmo,E.ren,C.ren,C.renL,O.ren,Store.ren,killc,kill0,killL,kill,fillC,spliceC,eC,Function.comp_def,argsFrom,zC,hΓ,rawR_ren,cond_eq_ite,Nat.beq_eq]<;>rfl)
  · refine AWp.exit ?_
    (repeat first|refine sN rfl ?_|((first|refine sA rfl ?_ ?_|refine s4 rfl ‹_› rfl ?_ ?_);first|exact tI|omega|(simp only[oZ] at *;omega))|(refine s2 rfl ?_;intro _ _hb)|(refine s3 rfl ?_ ?_<;>intro hb<;>subst hb)|refine aS ?_|refine reg (by kernel_rfl) ?_|refine lexE ?_)
    refine AWp.ret ⟨_,rfl,[],.t [(false,[.d (iD 0)]),(false,[.d (bD false)])],[],⟨by intro i hi;omega,by decide⟩,rfl,trivial,(0,false),trivial,rfl,rfl,rfl⟩
theorem l19Cut_ok (w0:W) (hs:w0.length≤1000000) (c:UInt8):Spec Tryz.prog TB 85 [] 0 [eT w0,eI .u8 c.toNat] (AnyPost (fun r:List W=>1≤r.length∧r.length≤w0.length+1∧∀w∈r,w.length≤w0.length) eTexts):=by
  refine SpecK.toSpec (SpecK.ren (SpecK.ofG (Nat.le_refl _) Tryz.func85 rfl (by kernel_rfl) (Nat.le_of_ble_eq_true rfl) ?_));intro Γ hΓ
  (repeat first|refine sN rfl ?_|((first|refine sX rfl ?_ ?_|refine s4 rfl ‹_› rfl ?_ ?_);first|exact tI|omega|(simp only[oZ] at *;omega))|(refine s2 rfl ?_;intro _ _hb)|(refine s3 rfl ?_ ?_<;>intro hb<;>subst hb)|refine aS ?_|refine reg (by kernel_rfl) ?_|refine lexE ?_)
  (refine popO rfl ?_;refine popW ?_ rfl (by rfl);refine n_sliceB rfl rfl rfl rfl (by simp) (by rfl) (by rfl) (by rfl) (by rfl) ?_)
  (repeat first|refine sN rfl ?_|((first|refine sX rfl ?_ ?_|refine s4 rfl ‹_› rfl ?_ ?_);first|exact tI|omega|(simp only[oZ] at *;omega))|(refine s2 rfl ?_;intro _ _hb)|(refine s3 rfl ?_ ?_<;>intro hb<;>subst hb)|refine aS ?_|refine reg (by kernel_rfl) ?_|refine lexE ?_)
  refine aB ?_
  refine AWp.loopV (α:={z:Nat×Nat×List W // z.1≤w0.length+1∧z.2.1≤z.1∧z.2.2.length≤z.1∧(z.1=w0.length+1→1≤z.2.2.length)∧∀w∈z.2.2,w.length≤w0.length}) [0,1] [] rfl rfl (fun s=>[(5,.o (.arr 0 1 0 s.1.2.2.length)),(6,eI .i64 s.1.2.1),(7,eI .i64 s.1.1)]) (fun s=>[(0,.cells 9 1 (s.1.2.2.map tRowC))]) 1 (fun s=>w0.length+1 - s.1.1) (⟨⟨0,0,[]⟩,by simp⟩) (List.range 1) (by first|(simp [hΓ];done)|(rw [hΓ];decide)) (by (repeat' (first|exact trivial|rfl|refine And.intro ?_ ?_))<;>(simp [EnvSub,StoreSub,look_cons,nm,nmo,E.ren,C.ren,C.renL,O.ren,Store.ren,killc,kill0,killL,kill,fillC,spliceC,eC,Function.comp_def,argsFrom,zC,hΓ]<;>rfl)) ?_;rintro ⟨⟨k,fr,r⟩,hk,hf,hr,hr1,hw⟩;(try dsimp only [List.cons_append,List.nil_append])
  have hk:k≤w0.length+1:=hk
  have hf:fr≤k:=hf
  have hr:r.length≤k:=hr
  have hr1:k=w0.length+1→1≤r.length:=hr1
  (repeat first|refine sN rfl ?_|((first|refine sA rfl ?_ ?_|refine s4 rfl ‹_› rfl ?_ ?_);first|exact tI|omega|(simp only[oZ] at *;omega))|(refine s2 rfl ?_;intro _ _hb)|(refine s3 rfl ?_ ?_<;>intro hb<;>subst hb)|refine aS ?_|refine reg (by kernel_rfl) ?_|refine lexE ?_)
  ((refine aC rfl ?_ ?_<;>intro hb<;>cases hb);all_goals try (simp at _hb;done))
  · have hlt:k≤w0.length:=by first|omega|(simp only [oZ] at *;omega)
    refine AWp.skip ?_
    refine AWp.seq (AWp.block ?_)
    have hx:k=w0.length∨∃e,w0[(k:Int).toNat]? = some e:=by
      rcases Nat.lt_or_ge k w0.length with h|h
      · obtain ⟨e,he⟩:=get_some (l:=w0) (k:=(k:Int).toNat) (by omega)
        exact .inr ⟨e,he⟩
      · exact .inl (by omega)
    rcases hx with hx|⟨e,he⟩
    all_goals (repeat' first|refine sN rfl ?_|((first|refine sA rfl ?_ ?_|refine s4 rfl ‹_› rfl ?_ ?_);first|exact tI|omega|(simp only[oZ] at *;omega))|(refine s2 rfl ?_;intro _ _hb)|(refine popO rfl ?_;refine gA rfl ?_;first|refine gS (fun _ _=>q_partT rfl rfl rfl (by simp [loV]) (by simp [loV,hiV];omega) (by simp [hiV];omega)) ?_)|(refine s3 rfl ?_ ?_<;>intro hb<;>subst hb)|refine aS ?_|refine reg (by kernel_rfl) ?_|refine lexE ?_|(refine aC rfl ?_ ?_<;>intro hb<;>cases hb))
    all_goals first
      | (exfalso;first|omega|(simp only [oZ] at *;omega);done)
      | (refine AWp.skip ?_
         (repeat first|refine sN rfl ?_|((first|refine sA rfl ?_ ?_|refine s4 rfl ‹_› rfl ?_ ?_);first|exact tI|omega|(simp only[oZ] at *;omega))|(refine s2 rfl ?_;intro _ _hb)|(refine s3 rfl ?_ ?_<;>intro hb<;>subst hb)|refine aS ?_|refine reg (by kernel_rfl) ?_|refine lexE ?_)
         refine ⟨⟨⟨k+1,fr,r⟩,by dsimp only;omega,by dsimp only;omega,by dsimp only;omega,by dsimp only;intro h9;exfalso;first|omega|(simp only [oZ] at *;omega),hw⟩,by dsimp only;(first|omega|(simp only [oZ] at *;omega)),[0],?_⟩
         (simp [EnvSub,StoreSub,look_cons,nm,nmo,E.ren,C.ren,C.renL,O.ren,Store.ren,killc,kill0,killL,kill,fillC,spliceC,eC,Function.comp_def,argsFrom,zC,hΓ,rawR_ren,cond_eq_ite,Nat.beq_eq]<;>rfl)
         done)
      | ((refine popO rfl ?_;refine popW ?_ rfl (by rfl);refine n_append rfl rfl rfl (by first|(simp;done)|(simp;(first|omega|(simp only [oZ] at *;omega)))) rfl (by intro r hr;simp at hr;subst hr;rfl) (by rfl) (Nat.le_of_ble_eq_true rfl) (by simp;omega) ?_)
         (repeat first|refine sN rfl ?_|((first|refine sA rfl ?_ ?_|refine s4 rfl ‹_› rfl ?_ ?_);first|exact tI|omega|(simp only[oZ] at *;omega))|(refine s2 rfl ?_;intro _ _hb)|(refine s3 rfl ?_ ?_<;>intro hb<;>subst hb)|refine aS ?_|refine reg (by kernel_rfl) ?_|refine lexE ?_)
         have hw2:∀w∈r++[(w0.take k).drop fr],w.length≤w0.length:=fun w hm=>by
           rcases List.mem_append.1 hm with hm|hm
           · exact hw w hm
           · simp at hm;subst hm;simp;omega
         refine ⟨⟨⟨k+1,k+1,r++[(w0.take k).drop fr]⟩,by dsimp only;omega,by dsimp only;omega,by simp;omega,by simp,hw2⟩,by dsimp only;(first|omega|(simp only [oZ] at *;omega)),[1],?_⟩
         (simp [EnvSub,StoreSub,look_cons,nm,nmo,E.ren,C.ren,C.renL,O.ren,Store.ren,killc,kill0,killL,kill,fillC,spliceC,eC,Function.comp_def,argsFrom,zC,hΓ,rawR_ren,cond_eq_ite,Nat.beq_eq,loV,hiV]<;>rfl))
  · have hkn:k=w0.length+1:=by first|omega|(simp only [oZ] at *;omega)
    refine AWp.exit ?_
    (repeat first|refine sN rfl ?_|((first|refine sA rfl ?_ ?_|refine s4 rfl ‹_› rfl ?_ ?_);first|exact tI|omega|(simp only[oZ] at *;omega))|(refine s2 rfl ?_;intro _ _hb)|(refine s3 rfl ?_ ?_<;>intro hb<;>subst hb)|refine aS ?_|refine reg (by kernel_rfl) ?_|refine lexE ?_)
    refine AWp.settle [(4,eTexts r)] ⟨⟨_,rfl,.o (.full rfl (by simp [Function.comp_def]) (by simp))⟩,trivial⟩ ?_
    refine AWp.ret ⟨_,rfl,[],eTexts r,[],⟨by intro i hi;omega,by decide⟩,rfl,trivial,r,⟨hr1 hkn,by omega,hw⟩,rfl,rfl,rfl⟩
end Go.Am
namespace Go.Am
open Go Go.Proofs
set_option maxHeartbeats 1000000
attribute [local irreducible] QOp AOp Lex LexO AWp Spec
variable {TB:List (Nat×Obj)}
abbrev eNB (r:Int×Bool):E:=.t [(false,[.d (iD r.1)]),(false,[.d (bD r.2)])]
theorem byD_of {z:Int} (h:0≤z∧z < 256):[[D.v (.int .u8 z)]]=[UInt8.ofNat z.toNat].map byD:=by
  have h2:z.toNat % 256=z.toNat:=Nat.mod_eq_of_lt (by omega)
  have h3:((z.toNat:Nat):Int)=z:=by omega
  simp [byD,h2,h3]
theorem l19Dec_ok (n:Int) (hn:0≤n∧n < 100):Spec Tryz.prog TB 117 [] 0 [eI .i64 n] (AnyPost (fun r:W=>r.length≤3) eT):=by
  refine SpecK.toSpec (SpecK.ren (SpecK.ofG (Nat.le_refl _) Tryz.func117 rfl (by kernel_rfl) (Nat.le_of_ble_eq_true rfl) ?_));intro Γ hΓ
  (repeat first|refine sN rfl ?_|((first|refine sA rfl ?_ ?_|refine s4 rfl ‹_› rfl ?_ ?_);first|exact tI|omega|(simp only[oZ] at *;omega))|(refine s2 rfl ?_;intro _ _hb)|(refine s3 rfl ?_ ?_<;>intro hb<;>subst hb)|refine aS ?_|refine reg (by kernel_rfl) ?_|refine lexE ?_)
  ((refine aC rfl ?_ ?_<;>intro hb<;>cases hb);all_goals try (simp at _hb;done))
  · exfalso;first|omega|(simp only [oZ] at *;omega)
  refine AWp.skip ?_
  (repeat first|refine sN rfl ?_|((first|refine sA rfl ?_ ?_|refine s4 rfl ‹_› rfl ?_ ?_);first|exact tI|omega|(simp only[oZ] at *;omega))|(refine s2 rfl ?_;intro _ _hb)|(refine s3 rfl ?_ ?_<;>intro hb<;>subst hb)|refine aS ?_|refine reg (by kernel_rfl) ?_|refine lexE ?_)
  ((refine aC rfl ?_ ?_<;>intro hb<;>cases hb);all_goals try (simp at _hb;done))
  · exfalso;first|omega|(simp only [oZ] at *;omega)
  refine AWp.skip ?_
  (repeat first|refine sN rfl ?_|((first|refine sA rfl ?_ ?_|refine s4 rfl ‹_› rfl ?_ ?_);first|exact tI|omega|(simp only[oZ] at *;omega))|(refine s2 rfl ?_;intro _ _hb)|(refine s3 rfl ?_ ?_<;>intro hb<;>subst hb)|refine aS ?_|refine reg (by kernel_rfl) ?_|refine lexE ?_)
  refine aB ?_
  refine AWp.loopV (α:={s:Int×W // (0≤s.1∧s.1 < 100)∧s.2.length≤2∧(9 < s.1→s.2.length≤1)}) [] [] rfl rfl (fun s=>[(0,eI .i64 s.1.1),(3,eT s.1.2)]) (fun s=>[]) 0 (fun s=>s.1.1.toNat) (⟨⟨n,[]⟩,by simp;omega⟩) (List.range 0) (by first|(simp [hΓ];done)|(rw [hΓ];decide)) (by (repeat' (first|exact trivial|rfl|refine And.intro ?_ ?_))<;>(simp [EnvSub,StoreSub,look_cons,nm,nmo,E.ren,C.ren,C.renL,O.ren,Store.ren,killc,kill0,killL,kill,fillC,spliceC,eC,Function.comp_def,argsFrom,zC,hΓ]<;>rfl)) ?_;rintro ⟨⟨q,w⟩,hq,hw,hw2⟩;(try dsimp only [List.cons_append,List.nil_append])
  have hq:0≤q∧q < 100:=hq
  have hw:w.length≤2:=hw
  have hw2:9 < q→w.length≤1:=hw2
  (repeat first|refine sN rfl ?_|((first|refine sA rfl ?_ ?_|refine s4 rfl ‹_› rfl ?_ ?_);first|exact tI|omega|(simp only[oZ] at *;omega))|(refine s2 rfl ?_;intro _ _hb)|(refine s3 rfl ?_ ?_<;>intro hb<;>subst hb)|refine aS ?_|refine reg (by kernel_rfl) ?_|refine lexE ?_)
  ((refine aC rfl ?_ ?_<;>intro hb<;>cases hb);all_goals try (simp at _hb;done))
  · have hlt:9 < q:=by first|omega|(simp only [oZ] at *;omega)
    have hw3:=hw2 hlt
    refine AWp.skip ?_
    refine AWp.block ?_
    (repeat first|refine sN rfl ?_|((first|refine sA rfl ?_ ?_|refine s4 rfl ‹_› rfl ?_ ?_);first|exact tI|omega|(simp only[oZ] at *;omega))|(refine s2 rfl ?_;intro _ _hb)|(refine popO rfl ?_;refine gA rfl ?_;first|refine gS (fun _ _=>q_textL _ rfl (byD_of (by omega))) ?_)|(refine s3 rfl ?_ ?_<;>intro hb<;>subst hb)|refine aS ?_|refine reg (by kernel_rfl) ?_|refine lexE ?_)
    refine ⟨⟨⟨q / 10,[UInt8.ofNat (48+q % 10).toNat]++w⟩,⟨by dsimp only;omega,by dsimp only;omega⟩,by simp;omega,fun h9=>by exfalso;dsimp only at h9;omega⟩,by dsimp only;(first|omega|(simp only [oZ] at *;omega)),[],?_⟩
    (simp [EnvSub,StoreSub,look_cons,nm,nmo,E.ren,C.ren,C.renL,O.ren,Store.ren,killc,kill0,killL,kill,fillC,spliceC,eC,Function.comp_def,argsFrom,zC,hΓ,rawR_ren,cond_eq_ite,Nat.beq_eq]<;>rfl)
  · refine AWp.exit ?_
    (repeat first|refine sN rfl ?_|((first|refine sA rfl ?_ ?_|refine s4 rfl ‹_› rfl ?_ ?_);first|exact tI|omega|(simp only[oZ] at *;omega))|(refine s2 rfl ?_;intro _ _hb)|(refine popO rfl ?_;refine gA rfl ?_;first|refine gS (fun _ _=>q_textL _ rfl (byD_of (by omega))) ?_)|(refine s3 rfl ?_ ?_<;>intro hb<;>subst hb)|refine aS ?_|refine reg (by kernel_rfl) ?_|refine lexE ?_)
    refine AWp.ret ⟨_,rfl,[],eT ([UInt8.ofNat (48+q).toNat]++w),[],⟨by intro i hi;omega,by decide⟩,rfl,trivial,[UInt8.ofNat (48+q).toNat]++w,by simp;omega,rfl,rfl,rfl⟩
theorem ten_step (k:Nat) (hk:k < 17):(10 ^ (k+1):Nat)=10 ^ k*10∧(10 ^ k:Nat)≤100000000000000000:=⟨Nat.pow_succ ..,Nat.le_trans (Nat.pow_le_pow_right (by omega) (Nat.le_of_lt hk)) (by decide)⟩
theorem l19Num_ok (s0:W) (hs:s0.length≤1000000):Spec Tryz.prog TB 116 [] 0 [eT s0] (AnyPost (fun _:Int×Bool=>True) eNB):=by
  by_cases z0:s0.length=0
  · refine SpecK.toSpec (SpecK.ren (SpecK.ofG (Nat.le_refl _) Tryz.func116 rfl (by kernel_rfl) (Nat.le_of_ble_eq_true rfl) ?_));intro Γ hΓ
    (repeat' first|refine sN rfl ?_|((first|refine sA rfl ?_ ?_|refine s4 rfl ‹_› rfl ?_ ?_);first|exact tI|omega|(simp only[oZ] at *;omega))|(refine s2 rfl ?_;intro _ _hb)|(refine popO rfl ?_;refine gA rfl ?_;first|refine gS (fun _ _=>q_dropT rfl rfl (by omega) (by omega)) ?_)|(refine s3 rfl ?_ ?_<;>intro hb<;>subst hb)|refine aS ?_|refine reg (by kernel_rfl) ?_|refine lexE ?_|(refine aC rfl ?_ ?_<;>intro hb<;>cases hb)|refine aK ?_)
    all_goals first
      | (exfalso;first|omega|(simp only [oZ] at *;omega);done)
      | refine AWp.ret ⟨_,rfl,[],eNB (0,false),[],⟨by intro i hi;omega,by decide⟩,rfl,trivial,(0,false),trivial,rfl,rfl,rfl⟩
  obtain ⟨c,h0⟩:=get_some (l:=s0) (k:=(0:Int).toNat) (by simp;omega)
  have h1:1 < s0.length→∃d,(s0.drop (Int.toNat 1))[(0:Int).toNat]? = some d:=fun h=>get_some (by simp;omega)
  have hlen:∀m:Nat,(s0.drop m).length=s0.length - m:=fun m=>List.length_drop
  by_cases z1:s0.length=1
  · refine SpecK.toSpec (SpecK.ren (SpecK.ofG (Nat.le_refl _) Tryz.func116 rfl (by kernel_rfl) (Nat.le_of_ble_eq_true rfl) ?_));intro Γ hΓ
    (repeat' first|refine sN rfl ?_|((first|refine sA rfl ?_ ?_|refine s4 rfl ‹_› rfl ?_ ?_);first|exact tI|omega|(simp only[oZ] at *;omega))|(refine s2 rfl ?_;intro _ _hb)|(refine popO rfl ?_;refine gA rfl ?_;first|refine gS (fun _ _=>q_dropT rfl rfl (by omega) (by omega)) ?_)|(refine s3 rfl ?_ ?_<;>intro hb<;>subst hb)|refine aS ?_|refine reg (by kernel_rfl) ?_|refine lexE ?_|(refine aC rfl ?_ ?_<;>intro hb<;>cases hb)|refine aK ?_)
    all_goals first
      | (exfalso;first|omega|(simp only [oZ] at *;omega);done)
      | refine AWp.ret ⟨_,rfl,[],eNB (0,false),[],⟨by intro i hi;omega,by decide⟩,rfl,trivial,(0,false),trivial,rfl,rfl,rfl⟩
      | (exfalso;simp only [oZ,hlen] at *;omega)
      | skip
    · have h17:(s0).length≤17:=by first|omega|(simp only [oZ] at *;omega)
      refine AWp.block ?_
      refine AWp.loopV (α:={s:Nat×Int // s.1≤(s0).length∧0≤s.2∧s.2 < ((10 ^ s.1:Nat):Int)}) [0,4] [] rfl rfl (fun s=>[(5,eI .i64 s.1.2),(6,eI .i64 s.1.1)]) (fun s=>[]) 0 (fun s=>(s0).length - s.1.1) (⟨⟨0,0⟩,by simp⟩) (List.range 0) (by first|(simp [hΓ];done)|(rw [hΓ];decide)) (by (repeat' (first|exact trivial|rfl|refine And.intro ?_ ?_))<;>(simp [EnvSub,StoreSub,look_cons,nm,nmo,E.ren,C.ren,C.renL,O.ren,Store.ren,killc,kill0,killL,kill,fillC,spliceC,eC,Function.comp_def,argsFrom,zC,hΓ]<;>rfl)) ?_;rintro ⟨⟨k,n⟩,hk,hn0,hn⟩;(try dsimp only [List.cons_append,List.nil_append])
      have hk:k≤(s0).length:=hk
      have hn0:0≤n:=hn0
      have hn:n < ((10 ^ k:Nat):Int):=hn
      (repeat first|refine sN rfl ?_|((first|refine sA rfl ?_ ?_|refine s4 rfl ‹_› rfl ?_ ?_);first|exact tI|omega|(simp only[oZ] at *;omega))|(refine s2 rfl ?_;intro _ _hb)|(refine s3 rfl ?_ ?_<;>intro hb<;>subst hb)|refine aS ?_|refine reg (by kernel_rfl) ?_|refine lexE ?_)
      ((refine aC rfl ?_ ?_<;>intro hb<;>cases hb);all_goals try (simp at _hb;done))
      · have hlt:k < (s0).length:=by first|omega|(simp only [oZ] at *;omega)
        obtain ⟨e,he⟩:=get_some (l:=s0) (k:=(k:Int).toNat) (by omega)
        have hel:=e.toNat_lt
        obtain ⟨t1,t2⟩:=ten_step k (by omega)
        refine AWp.skip ?_
        refine AWp.seq (AWp.block ?_)
        (repeat' first|refine sN rfl ?_|((first|refine sA rfl ?_ ?_|refine s4 rfl ‹_› rfl ?_ ?_);first|exact tI|omega|(simp only[oZ] at *;omega))|(refine s2 rfl ?_;intro _ _hb)|(refine popO rfl ?_;refine gA rfl ?_;first|refine gS (fun _ _=>q_dropT rfl rfl (by omega) (by omega)) ?_)|(refine s3 rfl ?_ ?_<;>intro hb<;>subst hb)|refine aS ?_|refine reg (by kernel_rfl) ?_|refine lexE ?_|(refine aC rfl ?_ ?_<;>intro hb<;>cases hb)|refine aK ?_)
        all_goals first
          | (exfalso;first|omega|(simp only [oZ] at *;omega);done)
          | refine AWp.ret ⟨_,rfl,[],eNB (0,false),[],⟨by intro i hi;omega,by decide⟩,rfl,trivial,(0,false),trivial,rfl,rfl,rfl⟩
          | (refine ⟨⟨⟨k+1,n*10+((e.toNat:Int) - 48)⟩,by dsimp only;omega,by dsimp only;first|omega|(simp only [oZ] at *;omega),by dsimp only;rw [t1];first|omega|(simp only [oZ] at *;omega)⟩,by dsimp only;(first|omega|(simp only [oZ] at *;omega)),[],?_⟩
             (simp [EnvSub,StoreSub,look_cons,nm,nmo,E.ren,C.ren,C.renL,O.ren,Store.ren,killc,kill0,killL,kill,fillC,spliceC,eC,Function.comp_def,argsFrom,zC,hΓ,rawR_ren,cond_eq_ite,Nat.beq_eq]<;>rfl))
      · refine AWp.exit ?_
        have hP:(10 ^ k:Nat)≤100000000000000000:=Nat.le_trans (Nat.pow_le_pow_right (by omega) (Nat.le_trans hk h17)) (by decide)
        (repeat' first|refine sN rfl ?_|((first|refine sA rfl ?_ ?_|refine s4 rfl ‹_› rfl ?_ ?_);first|exact tI|omega|(simp only[oZ] at *;omega))|(refine s2 rfl ?_;intro _ _hb)|(refine popO rfl ?_;refine gA rfl ?_;first|refine gS (fun _ _=>q_neg rfl (IntWalk.i64_in _ (by omega))) ?_)|(refine s3 rfl ?_ ?_<;>intro hb<;>subst hb)|refine aS ?_|refine reg (by kernel_rfl) ?_|refine lexE ?_|(refine aC rfl ?_ ?_<;>intro hb<;>cases hb)|refine aK ?_)
        exact AWp.ret ⟨_,rfl,[],eNB (n,true),[],⟨fun i hi=>absurd hi (Nat.not_lt_zero i),List.nodup_nil⟩,rfl,trivial,(n,true),trivial,rfl,rfl,rfl⟩
    · have h17:(s0).length≤17:=by first|omega|(simp only [oZ] at *;omega)
      refine AWp.block ?_
      refine AWp.loopV (α:={s:Nat×Int // s.1≤(s0).length∧0≤s.2∧s.2 < ((10 ^ s.1:Nat):Int)}) [0,4] [] rfl rfl (fun s=>[(5,eI .i64 s.1.2),(6,eI .i64 s.1.1)]) (fun s=>[]) 0 (fun s=>(s0).length - s.1.1) (⟨⟨0,0⟩,by simp⟩) (List.range 0) (by first|(simp [hΓ];done)|(rw [hΓ];decide)) (by (repeat' (first|exact trivial|rfl|refine And.intro ?_ ?_))<;>(simp [EnvSub,StoreSub,look_cons,nm,nmo,E.ren,C.ren,C.renL,O.ren,Store.ren,killc,kill0,killL,kill,fillC,spliceC,eC,Function.comp_def,argsFrom,zC,hΓ]<;>rfl)) ?_;rintro ⟨⟨k,n⟩,hk,hn0,hn⟩;(try dsimp only [List.cons_append,List.nil_append])
      have hk:k≤(s0).length:=hk
      have hn0:0≤n:=hn0
      have hn:n < ((10 ^ k:Nat):Int):=hn
      (repeat first|refine sN rfl ?_|((first|refine sA rfl ?_ ?_|refine s4 rfl ‹_› rfl ?_ ?_);first|exact tI|omega|(simp only[oZ] at *;omega))|(refine s2 rfl ?_;intro _ _hb)|(refine s3 rfl ?_ ?_<;>intro hb<;>subst hb)|refine aS ?_|refine reg (by kernel_rfl) ?_|refine lexE ?_)
      ((refine aC rfl ?_ ?_<;>intro hb<;>cases hb);all_goals try (simp at _hb;done))
      · have hlt:k < (s0).length:=by first|omega|(simp only [oZ] at *;omega)
        obtain ⟨e,he⟩:=get_some (l:=s0) (k:=(k:Int).toNat) (by omega)
        have hel:=e.toNat_lt
        obtain ⟨t1,t2⟩:=ten_step k (by omega)
        refine AWp.skip ?_
        refine AWp.seq (AWp.block ?_)
        (repeat' first|refine sN rfl ?_|((first|refine sA rfl ?_ ?_|refine s4 rfl ‹_› rfl ?_ ?_);first|exact tI|omega|(simp only[oZ] at *;omega))|(refine s2 rfl ?_;intro _ _hb)|(refine popO rfl ?_;refine gA rfl ?_;first|refine gS (fun _ _=>q_dropT rfl rfl (by omega) (by omega)) ?_)|(refine s3 rfl ?_ ?_<;>intro hb<;>subst hb)|refine aS ?_|refine reg (by kernel_rfl) ?_|refine lexE ?_|(refine aC rfl ?_ ?_<;>intro hb<;>cases hb)|refine aK ?_)
        all_goals first
          | (exfalso;first|omega|(simp only [oZ] at *;omega);done)
          | refine AWp.ret ⟨_,rfl,[],eNB (0,false),[],⟨by intro i hi;omega,by decide⟩,rfl,trivial,(0,false),trivial,rfl,rfl,rfl⟩
          | (refine ⟨⟨⟨k+1,n*10+((e.toNat:Int) - 48)⟩,by dsimp only;omega,by dsimp only;first|omega|(simp only [oZ] at *;omega),by dsimp only;rw [t1];first|omega|(simp only [oZ] at *;omega)⟩,by dsimp only;(first|omega|(simp only [oZ] at *;omega)),[],?_⟩
             (simp [EnvSub,StoreSub,look_cons,nm,nmo,E.ren,C.ren,C.renL,O.ren,Store.ren,killc,kill0,killL,kill,fillC,spliceC,eC,Function.comp_def,argsFrom,zC,hΓ,rawR_ren,cond_eq_ite,Nat.beq_eq]<;>rfl))
      · refine AWp.exit ?_
        have hP:(10 ^ k:Nat)≤100000000000000000:=Nat.le_trans (Nat.pow_le_pow_right (by omega) (Nat.le_trans hk h17)) (by decide)
        (repeat' first|refine sN rfl ?_|((first|refine sA rfl ?_ ?_|refine s4 rfl ‹_› rfl ?_ ?_);first|exact tI|omega|(simp only[oZ] at *;omega))|(refine s2 rfl ?_;intro _ _hb)|(refine popO rfl ?_;refine gA rfl ?_;first|refine gS (fun _ _=>q_neg rfl (IntWalk.i64_in _ (by omega))) ?_)|(refine s3 rfl ?_ ?_<;>intro hb<;>subst hb)|refine aS ?_|refine reg (by kernel_rfl) ?_|refine lexE ?_|(refine aC rfl ?_ ?_<;>intro hb<;>cases hb)|refine aK ?_)
        exact AWp.ret ⟨_,rfl,[],eNB (n,true),[],⟨fun i hi=>absurd hi (Nat.not_lt_zero i),List.nodup_nil⟩,rfl,trivial,(n,true),trivial,rfl,rfl,rfl⟩
  obtain ⟨d,h1⟩:=h1 (by omega)
  refine SpecK.toSpec (SpecK.ren (SpecK.ofG (Nat.le_refl _) Tryz.func116 rfl (by kernel_rfl) (Nat.le_of_ble_eq_true rfl) ?_));intro Γ hΓ
  (repeat' first|refine sN rfl ?_|((first|refine sA rfl ?_ ?_|refine s4 rfl ‹_› rfl ?_ ?_);first|exact tI|omega|(simp only[oZ] at *;omega))|(refine s2 rfl ?_;intro _ _hb)|(refine popO rfl ?_;refine gA rfl ?_;first|refine gS (fun _ _=>q_dropT rfl rfl (by omega) (by omega)) ?_)|(refine s3 rfl ?_ ?_<;>intro hb<;>subst hb)|refine aS ?_|refine reg (by kernel_rfl) ?_|refine lexE ?_|(refine aC rfl ?_ ?_<;>intro hb<;>cases hb)|refine aK ?_)
  all_goals first
    | (exfalso;first|omega|(simp only [oZ] at *;omega);done)
    | refine AWp.ret ⟨_,rfl,[],eNB (0,false),[],⟨by intro i hi;omega,by decide⟩,rfl,trivial,(0,false),trivial,rfl,rfl,rfl⟩
    | (exfalso;simp only [oZ,hlen] at *;omega)
    | skip
  · have h17:(List.drop (Int.toNat 1) s0).length≤17:=by first|omega|(simp only [oZ] at *;omega)
    refine AWp.block ?_
    refine AWp.loopV (α:={s:Nat×Int // s.1≤(List.drop (Int.toNat 1) s0).length∧0≤s.2∧s.2 < ((10 ^ s.1:Nat):Int)}) [0,4] [] rfl rfl (fun s=>[(5,eI .i64 s.1.2),(6,eI .i64 s.1.1)]) (fun s=>[]) 0 (fun s=>(List.drop (Int.toNat 1) s0).length - s.1.1) (⟨⟨0,0⟩,by simp⟩) (List.range 0) (by first|(simp [hΓ];done)|(rw [hΓ];decide)) (by (repeat' (first|exact trivial|rfl|refine And.intro ?_ ?_))<;>(simp [EnvSub,StoreSub,look_cons,nm,nmo,E.ren,C.ren,C.renL,O.ren,Store.ren,killc,kill0,killL,kill,fillC,spliceC,eC,Function.comp_def,argsFrom,zC,hΓ]<;>rfl)) ?_;rintro ⟨⟨k,n⟩,hk,hn0,hn⟩;(try dsimp only [List.cons_append,List.nil_append])
    have hk:k≤(List.drop (Int.toNat 1) s0).length:=hk
    have hn0:0≤n:=hn0
    have hn:n < ((10 ^ k:Nat):Int):=hn
    (repeat first|refine sN rfl ?_|((first|refine sA rfl ?_ ?_|refine s4 rfl ‹_› rfl ?_ ?_);first|exact tI|omega|(simp only[oZ] at *;omega))|(refine s2 rfl ?_;intro _ _hb)|(refine s3 rfl ?_ ?_<;>intro hb<;>subst hb)|refine aS ?_|refine reg (by kernel_rfl) ?_|refine lexE ?_)
    ((refine aC rfl ?_ ?_<;>intro hb<;>cases hb);all_goals try (simp at _hb;done))
    · have hlt:k < (List.drop (Int.toNat 1) s0).length:=by first|omega|(simp only [oZ] at *;omega)
      obtain ⟨e,he⟩:=get_some (l:=List.drop (Int.toNat 1) s0) (k:=(k:Int).toNat) (by omega)
      have hel:=e.toNat_lt
      obtain ⟨t1,t2⟩:=ten_step k (by omega)
      refine AWp.skip ?_
      refine AWp.seq (AWp.block ?_)
      (repeat' first|refine sN rfl ?_|((first|refine sA rfl ?_ ?_|refine s4 rfl ‹_› rfl ?_ ?_);first|exact tI|omega|(simp only[oZ] at *;omega))|(refine s2 rfl ?_;intro _ _hb)|(refine popO rfl ?_;refine gA rfl ?_;first|refine gS (fun _ _=>q_dropT rfl rfl (by omega) (by omega)) ?_)|(refine s3 rfl ?_ ?_<;>intro hb<;>subst hb)|refine aS ?_|refine reg (by kernel_rfl) ?_|refine lexE ?_|(refine aC rfl ?_ ?_<;>intro hb<;>cases hb)|refine aK ?_)
      all_goals first
        | (exfalso;first|omega|(simp only [oZ] at *;omega);done)
        | refine AWp.ret ⟨_,rfl,[],eNB (0,false),[],⟨by intro i hi;omega,by decide⟩,rfl,trivial,(0,false),trivial,rfl,rfl,rfl⟩
        | (refine ⟨⟨⟨k+1,n*10+((e.toNat:Int) - 48)⟩,by dsimp only;omega,by dsimp only;first|omega|(simp only [oZ] at *;omega),by dsimp only;rw [t1];first|omega|(simp only [oZ] at *;omega)⟩,by dsimp only;(first|omega|(simp only [oZ] at *;omega)),[],?_⟩
           (simp [EnvSub,StoreSub,look_cons,nm,nmo,E.ren,C.ren,C.renL,O.ren,Store.ren,killc,kill0,killL,kill,fillC,spliceC,eC,Function.comp_def,argsFrom,zC,hΓ,rawR_ren,cond_eq_ite,Nat.beq_eq]<;>rfl))
    · refine AWp.exit ?_
      have hP:(10 ^ k:Nat)≤100000000000000000:=Nat.le_trans (Nat.pow_le_pow_right (by omega) (Nat.le_trans hk h17)) (by decide)
      (repeat' first|refine sN rfl ?_|((first|refine sA rfl ?_ ?_|refine s4 rfl ‹_› rfl ?_ ?_);first|exact tI|omega|(simp only[oZ] at *;omega))|(refine s2 rfl ?_;intro _ _hb)|(refine popO rfl ?_;refine gA rfl ?_;first|refine gS (fun _ _=>q_neg rfl (IntWalk.i64_in _ (by omega))) ?_)|(refine s3 rfl ?_ ?_<;>intro hb<;>subst hb)|refine aS ?_|refine reg (by kernel_rfl) ?_|refine lexE ?_|(refine aC rfl ?_ ?_<;>intro hb<;>cases hb)|refine aK ?_)
      exact AWp.ret ⟨_,rfl,[],eNB (-n,true),[],⟨fun i hi=>absurd hi (Nat.not_lt_zero i),List.nodup_nil⟩,rfl,trivial,(-n,true),trivial,rfl,rfl,rfl⟩
  · have h17:(s0).length≤17:=by first|omega|(simp only [oZ] at *;omega)
    refine AWp.block ?_
    refine AWp.loopV (α:={s:Nat×Int // s.1≤(s0).length∧0≤s.2∧s.2 < ((10 ^ s.1:Nat):Int)}) [0,4] [] rfl rfl (fun s=>[(5,eI .i64 s.1.2),(6,eI .i64 s.1.1)]) (fun s=>[]) 0 (fun s=>(s0).length - s.1.1) (⟨⟨0,0⟩,by simp⟩) (List.range 0) (by first|(simp [hΓ];done)|(rw [hΓ];decide)) (by (repeat' (first|exact trivial|rfl|refine And.intro ?_ ?_))<;>(simp [EnvSub,StoreSub,look_cons,nm,nmo,E.ren,C.ren,C.renL,O.ren,Store.ren,killc,kill0,killL,kill,fillC,spliceC,eC,Function.comp_def,argsFrom,zC,hΓ]<;>rfl)) ?_;rintro ⟨⟨k,n⟩,hk,hn0,hn⟩;(try dsimp only [List.cons_append,List.nil_append])
    have hk:k≤(s0).length:=hk
    have hn0:0≤n:=hn0
    have hn:n < ((10 ^ k:Nat):Int):=hn
    (repeat first|refine sN rfl ?_|((first|refine sA rfl ?_ ?_|refine s4 rfl ‹_› rfl ?_ ?_);first|exact tI|omega|(simp only[oZ] at *;omega))|(refine s2 rfl ?_;intro _ _hb)|(refine s3 rfl ?_ ?_<;>intro hb<;>subst hb)|refine aS ?_|refine reg (by kernel_rfl) ?_|refine lexE ?_)
    ((refine aC rfl ?_ ?_<;>intro hb<;>cases hb);all_goals try (simp at _hb;done))
    · have hlt:k < (s0).length:=by first|omega|(simp only [oZ] at *;omega)
      obtain ⟨e,he⟩:=get_some (l:=s0) (k:=(k:Int).toNat) (by omega)
      have hel:=e.toNat_lt
      obtain ⟨t1,t2⟩:=ten_step k (by omega)
      refine AWp.skip ?_
      refine AWp.seq (AWp.block ?_)
      (repeat' first|refine sN rfl ?_|((first|refine sA rfl ?_ ?_|refine s4 rfl ‹_› rfl ?_ ?_);first|exact tI|omega|(simp only[oZ] at *;omega))|(refine s2 rfl ?_;intro _ _hb)|(refine popO rfl ?_;refine gA rfl ?_;first|refine gS (fun _ _=>q_dropT rfl rfl (by omega) (by omega)) ?_)|(refine s3 rfl ?_ ?_<;>intro hb<;>subst hb)|refine aS ?_|refine reg (by kernel_rfl) ?_|refine lexE ?_|(refine aC rfl ?_ ?_<;>intro hb<;>cases hb)|refine aK ?_)
      all_goals first
        | (exfalso;first|omega|(simp only [oZ] at *;omega);done)
        | refine AWp.ret ⟨_,rfl,[],eNB (0,false),[],⟨by intro i hi;omega,by decide⟩,rfl,trivial,(0,false),trivial,rfl,rfl,rfl⟩
        | (refine ⟨⟨⟨k+1,n*10+((e.toNat:Int) - 48)⟩,by dsimp only;omega,by dsimp only;first|omega|(simp only [oZ] at *;omega),by dsimp only;rw [t1];first|omega|(simp only [oZ] at *;omega)⟩,by dsimp only;(first|omega|(simp only [oZ] at *;omega)),[],?_⟩
           (simp [EnvSub,StoreSub,look_cons,nm,nmo,E.ren,C.ren,C.renL,O.ren,Store.ren,killc,kill0,killL,kill,fillC,spliceC,eC,Function.comp_def,argsFrom,zC,hΓ,rawR_ren,cond_eq_ite,Nat.beq_eq]<;>rfl))
    · refine AWp.exit ?_
      have hP:(10 ^ k:Nat)≤100000000000000000:=Nat.le_trans (Nat.pow_le_pow_right (by omega) (Nat.le_trans hk h17)) (by decide)
      (repeat' first|refine sN rfl ?_|((first|refine sA rfl ?_ ?_|refine s4 rfl ‹_› rfl ?_ ?_);first|exact tI|omega|(simp only[oZ] at *;omega))|(refine s2 rfl ?_;intro _ _hb)|(refine popO rfl ?_;refine gA rfl ?_;first|refine gS (fun _ _=>q_neg rfl (IntWalk.i64_in _ (by omega))) ?_)|(refine s3 rfl ?_ ?_<;>intro hb<;>subst hb)|refine aS ?_|refine reg (by kernel_rfl) ?_|refine lexE ?_|(refine aC rfl ?_ ?_<;>intro hb<;>cases hb)|refine aK ?_)
      exact AWp.ret ⟨_,rfl,[],eNB (n,true),[],⟨fun i hi=>absurd hi (Nat.not_lt_zero i),List.nodup_nil⟩,rfl,trivial,(n,true),trivial,rfl,rfl,rfl⟩
end Go.Am
namespace Go.Am
open Go Go.Proofs
set_option maxHeartbeats 1000000
attribute [local irreducible] QOp AOp Lex LexO AWp Spec
variable {TB:List (Nat×Obj)}
abbrev eLB (r:List Int×Bool):E:=.t [(false,[.d (iList r.1)]),(false,[.d (bD r.2)])]
theorem l3Parse_ok (w0:W) (hs:w0.length≤1000000):Spec Tryz.prog TB 87 [] 0 [eT w0] (AnyPost (fun r:List Int×Bool=>r.1.length≤w0.length+1) eLB):=by
  refine SpecK.toSpec (SpecK.ren (SpecK.ofG (Nat.le_refl _) Tryz.func87 rfl (by kernel_rfl) (Nat.le_of_ble_eq_true rfl) ?_));intro Γ hΓ
  (repeat first|refine sN rfl ?_|((first|refine sX rfl ?_ ?_|refine s4 rfl ‹_› rfl ?_ ?_);first|exact tI|omega|(simp only[oZ] at *;omega))|(refine s2 rfl ?_;intro _ _hb)|(refine s3 rfl ?_ ?_<;>intro hb<;>subst hb)|refine aS ?_|refine reg (by kernel_rfl) ?_|refine lexE ?_)
  (refine popO rfl ?_;refine popW ?_ rfl (by rfl);refine n_sliceB rfl rfl rfl rfl (by simp) (by rfl) (by rfl) (by rfl) (by rfl) ?_)
  (repeat first|refine sN rfl ?_|((first|refine sX rfl ?_ ?_|refine s4 rfl ‹_› rfl ?_ ?_);first|exact tI|omega|(simp only[oZ] at *;omega))|(refine s2 rfl ?_;intro _ _hb)|(refine s3 rfl ?_ ?_<;>intro hb<;>subst hb)|refine aS ?_|refine reg (by kernel_rfl) ?_|refine lexE ?_)
  (refine aC rfl ?_ ?_<;>intro hb<;>cases hb)
  · (repeat first|refine sN rfl ?_|((first|refine sX rfl ?_ ?_|refine s4 rfl ‹_› rfl ?_ ?_);first|exact tI|omega|(simp only[oZ] at *;omega))|(refine s2 rfl ?_;intro _ _hb)|(refine s3 rfl ?_ ?_<;>intro hb<;>subst hb)|refine aS ?_|refine reg (by kernel_rfl) ?_|refine lexE ?_)
    refine AWp.settle [(2,eInts []),(3,eB true)] ⟨⟨_,rfl,.o (.full rfl (by simp) (by simp))⟩,⟨_,rfl,.o .d⟩,trivial⟩ ?_
    exact AWp.ret ⟨_,rfl,[],eLB ([],true),[],⟨fun i hi=>absurd hi (Nat.not_lt_zero i),List.nodup_nil⟩,rfl,trivial,([],true),Nat.zero_le _,rfl,rfl,rfl⟩
  refine AWp.skip ?_
  (repeat first|refine sN rfl ?_|((first|refine sA rfl ?_ ?_|refine s4 rfl ‹_› rfl ?_ ?_);first|exact tI|omega|(simp only[oZ] at *;omega))|(refine s2 rfl ?_;intro _ _hb)|(refine s3 rfl ?_ ?_<;>intro hb<;>subst hb)|refine aS ?_|refine reg (by kernel_rfl) ?_|refine lexE ?_)
  (refine popO rfl ?_;refine popW ?_ rfl (by rfl);refine n_call [] rfl rfl (l19Cut_ok (TB:=TB) w0 hs 44) ⟨rfl,by decide,by decide⟩ rfl trivial ?_;rintro x0 σ1 nx1 ⟨ps,⟨hp1,hp2,hp3⟩,rfl,rfl,rfl⟩ _)
  (repeat first|refine sN rfl ?_|((first|refine sA rfl ?_ ?_|refine s4 rfl ‹_› rfl ?_ ?_);first|exact tI|omega|(simp only[oZ] at *;omega))|(refine s2 rfl ?_;intro _ _hb)|(refine s3 rfl ?_ ?_<;>intro hb<;>subst hb)|refine aS ?_|refine reg (by kernel_rfl) ?_|refine lexE ?_)
  refine aB ?_
  refine AWp.loopV (α:={z:Nat×List Int // z.1≤ps.length∧z.2.length=z.1}) [5] [] rfl rfl (fun s=>[(4,.o (.arr 0 1 0 s.1.2.length)),(6,eI .i64 s.1.1)]) (fun s=>[(0,.cells 3 1 (s.1.2.map iRowC))]) 1 (fun s=>ps.length - s.1.1) (⟨⟨0,[]⟩,by simp⟩) (List.range 1) (by first|(simp [hΓ];done)|(rw [hΓ];decide)) (by (repeat' (first|exact trivial|rfl|refine And.intro ?_ ?_))<;>(simp [EnvSub,StoreSub,look_cons,nm,nmo,E.ren,C.ren,C.renL,O.ren,Store.ren,killc,kill0,killL,kill,fillC,spliceC,eC,Function.comp_def,argsFrom,zC,hΓ]<;>rfl)) ?_;rintro ⟨⟨k,r⟩,hk,hr⟩;(try dsimp only [List.cons_append,List.nil_append])
  have hk:k≤ps.length:=hk
  have hr:r.length=k:=hr
  (repeat first|refine sN rfl ?_|((first|refine sA rfl ?_ ?_|refine s4 rfl ‹_› rfl ?_ ?_);first|exact tI|omega|(simp only[oZ] at *;omega))|(refine s2 rfl ?_;intro _ _hb)|(refine s3 rfl ?_ ?_<;>intro hb<;>subst hb)|refine aS ?_|refine reg (by kernel_rfl) ?_|refine lexE ?_)
  ((refine aC rfl ?_ ?_<;>intro hb<;>cases hb);all_goals try (simp at _hb;done))
  · have hlt:k < ps.length:=by first|omega|(simp only [oZ] at *;omega)
    obtain ⟨w,hw⟩:=get_some (l:=ps) (k:=k) hlt
    have hw':=get_map (g:=tRow) hw
    have hwl:=hp3 w (List.mem_of_getElem? hw)
    refine AWp.skip ?_
    refine AWp.seq (AWp.block ?_)
    (repeat first|refine sN rfl ?_|((first|refine sA rfl ?_ ?_|refine s4 rfl ‹_› rfl ?_ ?_);first|exact tI|omega|(simp only[oZ] at *;omega))|(refine s2 rfl ?_;intro _ _hb)|(refine s3 rfl ?_ ?_<;>intro hb<;>subst hb)|refine aS ?_|refine reg (by kernel_rfl) ?_|refine lexE ?_)
    (refine popO rfl ?_;refine popW ?_ rfl (by rfl);refine n_call [] rfl rfl (l19Num_ok (TB:=TB) w (by omega)) ⟨rfl,by decide,by decide⟩ rfl trivial ?_;rintro x0 σ1 nx1 ⟨⟨n,ok⟩,_,rfl,rfl,rfl⟩ _)
    (repeat first|refine sN rfl ?_|((first|refine sA rfl ?_ ?_|refine s4 rfl ‹_› rfl ?_ ?_);first|exact tI|omega|(simp only[oZ] at *;omega))|(refine s2 rfl ?_;intro _ _hb)|(refine s3 rfl ?_ ?_<;>intro hb<;>subst hb)|refine aS ?_|refine reg (by kernel_rfl) ?_|refine lexE ?_)
    (refine aC rfl ?_ ?_<;>intro hb<;>cases hb)
    · (repeat first|refine sN rfl ?_|((first|refine sA rfl ?_ ?_|refine s4 rfl ‹_› rfl ?_ ?_);first|exact tI|omega|(simp only[oZ] at *;omega))|(refine s2 rfl ?_;intro _ _hb)|(refine s3 rfl ?_ ?_<;>intro hb<;>subst hb)|refine aS ?_|refine reg (by kernel_rfl) ?_|refine lexE ?_)
      exact AWp.ret ⟨_,rfl,[],eLB ([],false),[],⟨fun i hi=>absurd hi (Nat.not_lt_zero i),List.nodup_nil⟩,rfl,trivial,([],false),Nat.zero_le _,rfl,rfl,rfl⟩
    refine AWp.skip ?_
    (repeat first|refine sN rfl ?_|((first|refine sA rfl ?_ ?_|refine s4 rfl ‹_› rfl ?_ ?_);first|exact tI|omega|(simp only[oZ] at *;omega))|(refine s2 rfl ?_;intro _ _hb)|(refine s3 rfl ?_ ?_<;>intro hb<;>subst hb)|refine aS ?_|refine reg (by kernel_rfl) ?_|refine lexE ?_)
    (refine popO rfl ?_;refine popW ?_ rfl (by rfl);refine n_append rfl rfl rfl (by first|(simp;done)|(simp;(first|omega|(simp only [oZ] at *;omega)))) rfl (by intro r hr;simp at hr;subst hr;rfl) (by rfl) (Nat.le_of_ble_eq_true rfl) (by simp;omega) ?_)
    (repeat first|refine sN rfl ?_|((first|refine sA rfl ?_ ?_|refine s4 rfl ‹_› rfl ?_ ?_);first|exact tI|omega|(simp only[oZ] at *;omega))|(refine s2 rfl ?_;intro _ _hb)|(refine s3 rfl ?_ ?_<;>intro hb<;>subst hb)|refine aS ?_|refine reg (by kernel_rfl) ?_|refine lexE ?_)
    refine ⟨⟨⟨k+1,r++[n]⟩,by dsimp only;omega,by simp;omega⟩,by dsimp only;(first|omega|(simp only [oZ] at *;omega)),[1],?_⟩
    (simp [EnvSub,StoreSub,look_cons,nm,nmo,E.ren,C.ren,C.renL,O.ren,Store.ren,killc,kill0,killL,kill,fillC,spliceC,eC,Function.comp_def,argsFrom,zC,hΓ,rawR_ren,cond_eq_ite,Nat.beq_eq]<;>rfl)
  · refine AWp.exit ?_
    (repeat first|refine sN rfl ?_|((first|refine sA rfl ?_ ?_|refine s4 rfl ‹_› rfl ?_ ?_);first|exact tI|omega|(simp only[oZ] at *;omega))|(refine s2 rfl ?_;intro _ _hb)|(refine s3 rfl ?_ ?_<;>intro hb<;>subst hb)|refine aS ?_|refine reg (by kernel_rfl) ?_|refine lexE ?_)
    refine AWp.settle [(2,eInts r),(3,eB true)] ⟨⟨_,rfl,.o (.full rfl (by simp [Function.comp_def]) (by simp))⟩,⟨_,rfl,.o .d⟩,trivial⟩ ?_
    exact AWp.ret ⟨_,rfl,[],eLB (r,true),[],⟨fun i hi=>absurd hi (Nat.not_lt_zero i),List.nodup_nil⟩,rfl,trivial,(r,true),by show r.length≤_;omega,rfl,rfl,rfl⟩
end Go.Am
