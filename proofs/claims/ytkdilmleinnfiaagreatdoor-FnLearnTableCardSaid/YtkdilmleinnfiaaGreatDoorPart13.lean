/-
  Tables of words, plainly: marks, the first word by which a table is open, closing, the automaton, the column that a wrong word shows.
-/
import Derived.Test.YtkdilmleinnfiaaGreatDoorPart6
import Derived.Test.YtkdilmleinnfiaaGreatDoorPart12
import Derived.Test.YtkdilmleinnfiaaGreatDoorPart5
set_option linter.constructorNameAsVariable false
set_option linter.unusedSectionVars false
set_option linter.unusedSimpArgs false
set_option linter.unusedVariables false
namespace Go.Am
set_option linter.unusedVariables false
abbrev W:=List UInt8
structure AZ where
 rows:List W
 cols:List W
def NX(b:Bool):UInt8:=if b then 43 else 45
theorem Rx{a b:Bool}(h:NX a=NX b):a=b:=by cases a<;>cases b<;>first|rfl|(simp [NX] at h)
def marks(L:W→Bool)(cols:List W)(w:W):W:=cols.map fun c=>NX (L (w++c))
theorem OI{L:W→Bool}{cols:List W}{u w:W}:marks L cols u=marks L cols w↔∀c∈cols,L (u++c)=L (w++c):=by
 unfold marks
 rw [List.map_inj_left]
 exact⟨fun h c hc=>Rx (h c hc),fun h c hc=>by rw [h c hc]⟩
def AE(L:W→Bool)(t:AZ):List W:=t.rows.map (marks L t.cols)
def BO(ls:List UInt8)(rows:List W):List W:=rows.flatMap fun r=>ls.map fun l=>r++[l]
def A0(L:W→Bool)(ls:List UInt8)(t:AZ):Option W:=(BO ls t.rows).find? fun w=>!(AE L t).contains (marks L t.cols w)
def A8(L:W→Bool)(ls:List UInt8):Nat→AZ→Option AZ
 | 0,_=>none
 | n+1,t=>match A0 L ls t with
  | none=>some t
  | some w=>if t.rows.length=12 then none else A8 L ls n ⟨t.rows++[w],t.cols⟩
def Ay(ls:List UInt8)(w:W):Prop:=∀c∈w,c∈ls
structure TOk (L:W→Bool) (ls:List UInt8) (t:AZ):Prop where
 r0:t.rows[0]? = some []
 c0:t.cols[0]? = some []
 pre:∀(i:Nat) w,t.rows[i]? = some w→0 < i→w≠[]∧∃j,j < i∧t.rows[j]? = some w.dropLast
 onR:∀w∈t.rows,Ay ls w
 onC:∀c∈t.cols,Ay ls c
 nd:(AE L t).Nodup
 ndC:t.cols.Nodup
theorem HK{L:W→Bool}{ls:List UInt8}{t:AZ}{w:W}(h:A0 L ls t=some w):(∃r∈t.rows,∃l∈ls,w=r++[l])∧marks L t.cols w∉AE L t:=by
 have h1:=List.find?_some h
 have h2:=List.mem_of_find?_eq_some h
 unfold BO at h2
 simp only [List.mem_flatMap,List.mem_map] at h2
 obtain⟨r,hr,l,hl,rfl⟩:=h2
 exact⟨⟨r,hr,l,hl,rfl⟩,by simpa using h1⟩
theorem FN{L:W→Bool}{ls:List UInt8}{t:AZ}(h:A0 L ls t=none):∀r∈t.rows,∀l∈ls,marks L t.cols (r++[l])∈AE L t:=by
 intro r hr l hl
 have h1:=List.find?_eq_none.1 h (r++[l]) (by unfold BO;simp only [List.mem_flatMap,List.mem_map];exact⟨r,hr,l,hl,rfl⟩)
 simpa using h1
theorem TOk.push{L:W→Bool}{ls:List UInt8}{t:AZ}{w:W}(h:TOk L ls t)(ho:A0 L ls t=some w):TOk L ls ⟨t.rows++[w],t.cols⟩:=by
 obtain⟨⟨r,hr,l,hl,rfl⟩,hn⟩:=HK ho
 have h0:0 < t.rows.length:=(List.getElem?_eq_some_iff.1 h.r0).1
 refine⟨by rw [List.getElem?_append_left h0];exact h.r0,h.c0,fun i w hi hp=>?_,fun w hw=>?_,h.onC,?_,h.ndC⟩
 ·by_cases hil:i < t.rows.length
  ·rw [List.getElem?_append_left hil] at hi
   obtain⟨h1,j,h2,h3⟩:=h.pre i w hi hp
   exact⟨h1,j,h2,by rw [List.getElem?_append_left (by omega)];exact h3⟩
  ·rw [List.getElem?_append_right (by omega)] at hi
   have hi0:i=t.rows.length:=by
    have:=(List.getElem?_eq_some_iff.1 hi).1
    simp at this;omega
   subst hi0
   simp at hi
   subst hi
   obtain⟨j,hj,he⟩:=List.getElem_of_mem hr
   refine⟨by simp,j,hj,?_⟩
   rw [List.getElem?_append_left hj,List.dropLast_concat,List.getElem?_eq_getElem hj,he]
 ·rcases List.mem_append.1 hw with hw|hw
  ·exact h.onR w hw
  ·simp at hw
   subst hw
   intro c hc
   rcases List.mem_append.1 hc with hc|hc
   ·exact h.onR r hr c hc
   ·simp at hc;subst hc;exact hl
 ·unfold AE
  rw [List.map_append,List.nodup_append]
  refine⟨h.nd,by simp,fun a ha b hb=>?_⟩
  simp at hb
  subst hb
  intro e
  exact hn (e ▸ ha)
structure Fin (L:W→Bool) (ls:List UInt8) (n:Nat) where
 st:W→Nat
 lt:∀w,Ay ls w→st w < n
 same:∀u w v,Ay ls u→Ay ls w→Ay ls v→st u=st w→L (u++v)=L (w++v)
theorem GL:∀(n:Nat) (l:List Nat),l.Nodup→(∀x∈l,x < n)→l.length≤n
 | 0,l,_,h=>by cases l with
  | nil=>simp
  | cons x l=>have:=h x (by simp);omega
 | n + 1,l,hd,h=>by
  have h1:=GL n (l.erase n) (hd.erase n) fun x hx=>by
   have h2:=h x (List.mem_of_mem_erase hx)
   have h3:x≠n:=fun e=>by subst e;exact(List.Nodup.not_mem_erase hd) hx
   omega
  by_cases hn:n∈l
  ·rw [List.length_erase_of_mem hn] at h1;omega
  ·rw [List.erase_of_not_mem hn] at h1;omega
theorem TOk.Zn{L:W→Bool}{ls:List UInt8}{t:AZ}{n:Nat}(h:TOk L ls t)(f:Fin L ls n):t.rows.length≤n:=by
 have h1:(t.rows.map f.st).Nodup:=by
  have hnd:=h.nd
  unfold AE at hnd
  unfold List.Nodup at *
  rw [List.pairwise_map] at *
  refine List.Pairwise.imp_of_mem (fun {a b} ha hb hne hst=>hne ?_) hnd
  exact OI.2 fun c hc=>f.same a b c (h.onR a ha) (h.onR b hb) (h.onC c hc) hst
 have h2:=GL n _ h1 fun x hx=>by
  obtain⟨w,hw,rfl⟩:=List.mem_map.1 hx
  exact f.lt w (h.onR w hw)
 simpa using h2
theorem I7{L:W→Bool}{ls:List UInt8}{n:Nat}(f:Fin L ls n)(hn:n≤12):∀(k:Nat) (t:AZ),TOk L ls t→13≤k+t.rows.length→∃t',A8 L ls k t=some t'∧TOk L ls t'∧A0 L ls t'=none∧t.rows <+: t'.rows∧t'.cols=t.cols∧(A0 L ls t≠none→t.rows.length < t'.rows.length)
 | 0,t,h,hk=>by have:=h.Zn f;omega
 | k + 1,t,h,hk=>by
  unfold A8
  cases ho:A0 L ls t with
  | none=>exact⟨t,rfl,h,ho,List.prefix_refl _,rfl,fun h=>absurd rfl h⟩
  | some w=>
   have h2:=h.push ho
   have h3:=h2.Zn f
   simp only [List.length_append,List.length_cons,List.length_nil] at h3
   simp only
   rw [if_neg (show ¬t.rows.length=12 by omega)]
   obtain⟨t',e1,e2,e3,e4,e5,_⟩:=I7 f hn k _ h2 (by simp;omega)
   have h5:t.rows <+: t'.rows:=List.IsPrefix.trans (List.prefix_append _ _) e4
   refine⟨t',e1,e2,e3,h5,e5,fun _=>?_⟩
   have:=e4.length_le
   simp at this;omega
def Cv(L:W→Bool)(t:AZ)(w:W):Nat:=(AE L t).idxOf (marks L t.cols w)
def runM(L:W→Bool)(t:AZ):Nat→W→Nat
 | i,[]=>i
 | i,c::w=>runM L t (Cv L t ((t.rows.getD i [])++[c])) w
theorem IG(L:W→Bool)(t:AZ):∀(u w:W) (i:Nat),runM L t i (u++w)=runM L t (runM L t i u) w
 | [],_,_=>rfl
 | c::u,w,i=>IG L t u w _
structure A7 (L:W→Bool) (ls:List UInt8) (t:AZ):Prop extends TOk L ls t where
 cl:∀r∈t.rows,∀l∈ls,marks L t.cols (r++[l])∈AE L t
theorem A7.idx{L:W→Bool}{ls:List UInt8}{t:AZ}(h:A7 L ls t){i:Nat}{r:W}{l:UInt8}(hi:t.rows[i]? = some r)(hl:l∈ls):∃r',t.rows[Cv L t (r++[l])]? = some r'∧marks L t.cols r'=marks L t.cols (r++[l]):=by
 have h1:=h.cl r (List.mem_of_getElem? hi) l hl
 have h2:Cv L t (r++[l]) < (AE L t).length:=List.idxOf_lt_length_iff.2 h1
 have h3:(AE L t)[Cv L t (r++[l])]'h2=marks L t.cols (r++[l]):=List.getElem_idxOf h2
 have h4:Cv L t (r++[l]) < t.rows.length:=by simpa [AE] using h2
 refine⟨t.rows[Cv L t (r++[l])],List.getElem?_eq_getElem h4,?_⟩
 rw [←h3]
 simp [AE]
theorem A7.run{L:W→Bool}{ls:List UInt8}{t:AZ}(h:A7 L ls t):∀(w:W) (i:Nat),Ay ls w→i < t.rows.length→runM L t i w < t.rows.length
 | [],_,_,hi=>hi
 | c::w,i,hw,hi=>by
  have h1:t.rows[i]? = some t.rows[i]:=List.getElem?_eq_getElem hi
  obtain⟨_,h2,_⟩:=h.idx h1 (hw c (by simp))
  have h3:t.rows.getD i []=t.rows[i]:=by simp [h1]
  show runM L t (Cv L t (t.rows.getD i []++[c])) w < _
  rw [h3]
  exact h.run w _ (fun x hx=>hw x (by simp [hx])) (List.getElem?_eq_some_iff.1 h2).1
def splitAt(L:W→Bool)(t:AZ)(b:Bool):Nat→W→Option W
 | _,[]=>none
 | i,c::v=>if L (t.rows.getD (Cv L t ((t.rows.getD i [])++[c])) []++v)≠b then some v else splitAt L t b (Cv L t ((t.rows.getD i [])++[c])) v
end Go.Am
namespace Go.Am
open Go Go.Proofs
set_option maxHeartbeats 1000000
set_option maxRecDepth 4000
attribute [local irreducible] AY B2 Lex Br Ak Spec
variable {TB:Bw}
abbrev Po(t:AZ):List D:=[A5 t.rows,A5 t.cols]
abbrev CB(t:AZ):E:=.a [.d (A5 t.rows),.d (A5 t.cols)]
abbrev EP(al:Int)(c:C):E:=.a [.d (iD al),c]
mutual
theorem CX:∀(c:C),c.BK=true→∀r,c.AX r=c
 | .d x,_,r=>rfl
 | .fn g cap,h,r=>by
  simp only [C.BK] at h
  simp only [C.AX,Lm cap h r]
 | .arr ..,h,_=>by cases h
 | .ptr ..,h,_=>by cases h
 | .mp ..,h,_=>by cases h
 | .mv g l,h,r=>by
  simp only [C.BK] at h
  simp only [C.AX,Lm l h r]
theorem Lm:∀(l:List C),C.Cr l=true→∀r,C.BA r l=l
 | [],_,r=>rfl
 | c::l,h,r=>by
  simp only [C.Cr,Bool.and_eq_true] at h
  simp only [C.BA,CX c h.1 r,Lm l h.2 r]
end
structure Gf (P:Program) (TB:Bw) (c:C) (L:W→Bool) (ok:W→Prop):Prop where
 BK:c.BK=true
 ask:∀ {Γ:Ctx} {d:Option Tmp} {ty:TypeId} {pos:String} {af:Array Edge} {g:Option (Nat×Bool)} {f:Env} {σ:Ab} {nx:Nat} {x a:Operand} {tys:Array TypeId} {w:W},
  ev f x=some (.o c)→ev f a=some (eT w)→ok w→AY P TB Γ ⟨d,.call ⟨.value x,#[a],tys⟩,ty,pos,af,g⟩ f σ nx (eB (L w))
theorem Gf.of{P:Program}{g:FuncId}{cap:List C}{L:W→Bool}{ok:W→Prop}(hc:C.Cr cap=true)(h:∀w,ok w→Pure P TB g ([eT w]++cap.map .o) (eB (L w))):Gf P TB (.fn g cap) L ok:=
 ⟨hc,fun hx ha hw=>BE (es:=[eT _]) hx (by simp [Hz,ha]) (by simp [E.BK,C.BK,hc]) (h _ hw) rfl⟩
def OO(L:W→Bool)(cols:List W)(w:W)(k:Nat)(i:Nat):UInt8:=if i < k then NX (L (w++cols.getD i [])) else 0
theorem Qd(L:W→Bool)(cols:List W)(w:W):(Bn cols.length fun i=>Ek (OO L cols w cols.length i))=(marks L cols w).map Ek:=by
 apply List.ext_getElem?
 intro i
 by_cases h:i < cols.length
 ·rw [CE h]
  simp [marks,OO,h]
 ·rw [List.getElem?_eq_none (by simp [Bn];omega),List.getElem?_eq_none (by simp [marks];omega)]
theorem bR:Ek 0=[C.d (D.v (Value.int IntKind.u8 0))]:=rfl
theorem aa(L:W→Bool)(cols:List W)(w:W)(n:Nat):(Bn n fun i=>Ek (OO L cols w 0 i))=List.replicate n (Ek 0):=by
 apply List.ext_getElem?
 intro i
 by_cases h:i < n
 ·rw [CE h];simp [OO,h]
 ·rw [List.getElem?_eq_none (by simp [Bn];omega),List.getElem?_eq_none (by simp;omega)]
theorem UN{L:W→Bool}{cols:List W}{w x:W}{k:Nat}(hx:cols[k]? = some x):(Bn cols.length fun i=>Ek (if i=k then NX (L (w++x)) else OO L cols w k i))=Bn cols.length fun i=>Ek (OO L cols w (k+1) i):=by
 refine B4 fun i _=>?_
 congr 1
 unfold OO
 by_cases h:i=k
 ·subst h
  rw [if_pos rfl,if_pos (by omega)]
  simp [hx]
 ·rw [if_neg h]
  by_cases h2:i < k
  ·rw [if_pos h2,if_pos (by omega)]
  ·rw [if_neg h2,if_neg (by omega)]
theorem K0{c:C}{L:W→Bool}{ok:W→Prop}(hc:Gf Tryz.prog TB c L ok)(al:Int)(t:AZ)(w:W)(hl:t.cols.length≤1048576)(hk:∀x∈t.cols,ok (w++x))(hb:∀x∈t.cols,w.length+x.length≤1048576) :
 Pure Tryz.prog TB 161 [EP al c,CB t,eT w] (eT (marks L t.cols w)):=by
 have hr:=CX c hc.BK
 refine eN Tryz.func161 rfl (by kernel_rfl) rfl ?_;intro Γ hΓ
 (repeat first|refine aU rfl ?_)
 (refine pW rfl ?_ rfl (by rfl);refine CG rfl rfl ?_)
 (refine Ag rfl ?_;refine Cq (fun _ _=>Cw rfl rfl rfl) rfl ?_)
 (repeat first|refine sN rfl ?_ |refine tM rfl ?_ |refine aU rfl ?_ |refine Aa ?_)
 (refine pW rfl ?_ rfl (by rfl);refine HI rfl rfl (by rfl) (by rfl) (Nat.le_of_ble_eq_true rfl) (by omega) (by omega) (by omega) ?_)
 (repeat first|refine sN rfl ?_ |refine tM rfl ?_ |refine aU rfl ?_ |refine Aa ?_)
 refine aB ?_
 refine Ak.A4 (α:={k:Nat // k≤t.cols.length}) (fun ⟨k,hkl⟩=>[(2,eT w),(3,.o (.ptr 0 2 0 0)),(7,.o (.arr 1 1 0 t.cols.length)),(15,.o (.d (A5 t.cols))),(16,eI .i64 t.cols.length),(17,eI .i64 k)]) (fun ⟨k,hkl⟩=>[(1,.cells 5 1 (Bn t.cols.length fun i=>Ek (OO L t.cols w k i))),(0,.cells 100 2 [[.d (iD al),c]])]) 2 (fun ⟨k,hkl⟩=>t.cols.length - k) (⟨0,by omega⟩) [0,1] (Eb hΓ rfl rfl) (by (simp[cX,zC,hΓ,Ln,hr,aa,eC,IF,bR])) ?_;rintro⟨k,hkl⟩;(try dsimp only)
 (repeat first|refine s2 rfl fun _ _hb=>?_ |refine aU rfl ?_ |refine Aa ?_)
 (refine aC rfl ?_ ?_<;>rintro⟨⟩)
 ·have hlt:k < t.cols.length:=by (simp only[oZ] at *;omega)
  obtain⟨x,hx⟩:=get_some (l:=t.cols) (k:=k) hlt
  have hx':=get_map (g:=BC) hx
  have hxm:=List.mem_of_getElem? hx
  have hxb:=hb x hxm
  have hok:=hk x hxm
  have hg:=Il (H:=OO L t.cols w k) (q:=k) (n:=t.cols.length) hlt
  have hs1:(Bn t.cols.length fun i=>Ek (OO L t.cols w k i)).set (0+((k:Nat):Int).toNat) (Ai (Ek (OO L t.cols w k k)) 0 (eC (eI .u8 45)))=Bn t.cols.length fun i=>Ek (if i=k then 45 else OO L t.cols w k i):=Kv (c:=45)
  have hg2:=Il (H:=fun i=>if i=k then 45 else OO L t.cols w k i) (q:=k) (n:=t.cols.length) hlt
  rw [←hs1] at hg2
  have hs2:(Bn t.cols.length fun i=>Ek (if i=k then 45 else OO L t.cols w k i)).set (0+((k:Nat):Int).toNat) (Ai (Ek (if k=k then 45 else OO L t.cols w k k)) 0 (eC (eI .u8 43)))=Bn t.cols.length fun i=>Ek (if i=k then 43 else OO L t.cols w k i):=by
   refine(Kv (H:=fun i=>if i=k then 45 else OO L t.cols w k i) (c:=43)).trans ?_
   refine B4 fun i _=>?_
   by_cases h:i=k<;>simp [h]
  have hst:=UN (L:=L) (w:=w) hx
  refine aK ?_
  refine aS (aB ?_)
  (repeat first|((first|refine sM rfl ?_ ?_|refine s4 rfl ‹_› rfl ?_ ?_);first|exact tI|omega)|(refine Ag rfl ?_;refine gA rfl ?_;first| (refine gB (fun _ _=>hc.ask rfl rfl hok) ?_;intro _ _hb)) |refine aU rfl ?_ |refine Aa ?_)
  (refine aC rfl ?_ ?_<;>rintro⟨⟩)
  ·(repeat first|(refine sM rfl ?_ ?_;first|exact tI|omega) |refine t4 rfl ‹_› rfl ?_ |refine aU rfl ?_ |refine Aa ?_)
   refine⟨⟨k+1,by omega⟩,by dsimp only;(omega),[0,1],?_⟩
   rw [hs1,hs2]
   rw [_hb] at hst
   have e43:NX true=43:=rfl
   have e45:NX false=45:=rfl
   simp only [e43,e45] at hst
   simp[cX,zC,hΓ,Ln,hr,hst]
  ·refine aK ?_
   (repeat first|(refine sM rfl ?_ ?_;first|exact tI|omega) |refine aU rfl ?_ |refine Aa ?_)
   refine⟨⟨k+1,by omega⟩,by dsimp only;(omega),[0,1],?_⟩
   rw [hs1]
   rw [_hb] at hst
   have e43:NX true=43:=rfl
   have e45:NX false=45:=rfl
   simp only [e43,e45] at hst
   simp[cX,zC,hΓ,Ln,hr,hst]
 ·obtain rfl:k=t.cols.length:=by (simp only[oZ] at *;omega)
  rw [Qd]
  refine aE ?_
  (repeat first|refine tM rfl ?_|(refine Ag rfl ?_;refine gA rfl ?_;first| refine gQ (RO (marks L t.cols w) rfl rfl (by simp [marks]) (by rw [List.drop_zero,List.take_of_length_le (by simp [marks])])) (by rfl) ?_) |refine aU rfl ?_ |refine Aa ?_)
  refine aR ⟨_,rfl,rfl⟩
def Ba(L:W→Bool)(t:AZ):Nat→List (W×Int)
 | 0=>[]
 | k+1=>if (BD (Ba L t k) (marks L t.cols (t.rows.getD k []))).isSome then Ba L t k else Ba L t k++[(marks L t.cols (t.rows.getD k []),(k:Int))]
structure NY (ok:W→Prop) (t:AZ):Prop where
 ok:∀w∈t.rows,∀x∈t.cols,ok (w++x)
 rb:∀w∈t.rows,w.length≤65536
 cb:∀x∈t.cols,x.length≤65536
 rl:t.rows.length≤4096
 cl:t.cols.length≤4096
theorem E0{c:C}{L:W→Bool}{ok:W→Prop}(hc:Gf Tryz.prog TB c L ok)(al:Int)(t:AZ)(ht:NY ok t) :
 Spec Tryz.prog TB 149 [] 0 [EP al c,CB t] (fun x σ nx=>x=.o (.mp 0)∧nx=1∧σ=[(0,.mp (Du (Ba L t t.rows.length)))]):=by
 have hr:=CX c hc.BK
 have hrl:=ht.rl
 refine eN Tryz.func149 rfl (by kernel_rfl) rfl ?_;intro Γ hΓ
 (repeat first|refine aU rfl ?_)
 (refine pW rfl ?_ rfl (by rfl);refine CG rfl rfl ?_)
 (refine Ag rfl ?_;refine Cq (fun _ _=>Cw rfl rfl rfl) rfl ?_)
 (repeat first|refine tM rfl ?_ |refine aU rfl ?_ |refine Aa ?_)
 (refine pW rfl ?_ rfl (by rfl);refine Jl ?_)
 (repeat first|refine sN rfl ?_ |refine tM rfl ?_ |refine aU rfl ?_ |refine Aa ?_)
 refine aB ?_
 refine Ak.A4 (α:={k:Nat // k≤t.rows.length}) (fun ⟨k,hkl⟩=>[(2,.o (.ptr 0 2 0 0)),(3,.o (.ip (Po t))),(5,.o (.mp 1)),(13,.o (.d (A5 t.rows))),(14,eI .i64 t.rows.length),(15,eI .i64 k)]) (fun ⟨k,hkl⟩=>[(1,.mp (Du (Ba L t k))),(0,.cells 100 2 [[.d (iD al),c]])]) 2 (fun ⟨k,hkl⟩=>t.rows.length - k) (⟨0,by omega⟩) [0,1] (Eb hΓ rfl rfl) (by (simp[cX,zC,hΓ,hr,eC,Ba,Du])) ?_;rintro⟨k,hkl⟩;(try dsimp only)
 (repeat first|refine s2 rfl fun _ _hb=>?_ |refine aU rfl ?_ |refine Aa ?_)
 (refine aC rfl ?_ ?_<;>rintro⟨⟩)
 ·have hlt:k < t.rows.length:=by (simp only[oZ] at *;omega)
  obtain⟨x,hx⟩:=get_some (l:=t.rows) (k:=k) hlt
  have hx':=get_map (g:=BC) hx
  have hxm:=List.mem_of_getElem? hx
  have hxb:=ht.rb x hxm
  have hm:=K0 hc al t x (by have:=ht.cl;omega) (ht.ok x hxm) (fun y hy=>by have:=ht.cb y hy;omega)
  have hgd:t.rows.getD k []=x:=by simp [hx]
  have hstep:Ba L t (k+1)=if (BD (Ba L t k) (marks L t.cols x)).isSome then Ba L t k else Ba L t k++[(marks L t.cols x,(k:Int))]:=by
   rw [Ba,hgd]
  refine aK ?_
  refine aS (aB ?_)
  (repeat first|refine tM rfl ?_ |(refine s4 rfl ‹_› rfl ?_ ?_;omega) |refine s2 rfl fun _ _hb=>?_|(refine Ag rfl ?_;refine gA rfl ?_;first| refine gS (fun _ _=>BE rfl rfl (by simp [E.BK,C.Cr,C.BK,hc.BK]) hm rfl) ?_|refine gQ (NG rfl rfl rfl) (by rfl) ?_) |refine aU rfl ?_ |refine Aa ?_)
  (refine aC rfl ?_ ?_<;>rintro⟨⟩)
  ·have hn:BD (Ba L t k) (marks L t.cols x)=none:=by simpa using _hb
   rw [hn] at hstep
   (repeat first|refine tM rfl ?_ |refine aU rfl ?_)
   (refine Ag rfl ?_;refine Hq ?_ rfl (by rfl);refine XG rfl rfl rfl rfl hn ?_)
   (repeat first|(refine sM rfl ?_ ?_;first|exact tI|omega) |refine aU rfl ?_ |refine Aa ?_)
   refine⟨⟨k+1,by omega⟩,by dsimp only;(omega),[0,1],?_⟩
   simp[cX,zC,hΓ,hr,hstep]
  ·have hn:(BD (Ba L t k) (marks L t.cols x)).isSome=true:=by simpa using _hb
   rw [if_pos hn] at hstep
   refine aK ?_
   (repeat first|(refine sM rfl ?_ ?_;first|exact tI|omega) |refine aU rfl ?_ |refine Aa ?_)
   refine⟨⟨k+1,by omega⟩,by dsimp only;(omega),[0,1],?_⟩
   simp[cX,zC,hΓ,hr,hstep]
 ·obtain rfl:k=t.rows.length:=by (simp only[oZ] at *;omega)
  refine aE ?_
  (repeat first|refine tM rfl ?_ |refine aU rfl ?_ |refine Aa ?_)
  refine Ak.names [1] [(4,.o (.mp 0))] [(0,.mp (Du (Ba L t t.rows.length)))] (by intro i hi;rw [hΓ] at hi;omega) (by simp) (by simp[cX,zC,hΓ]) (by simp[cX,zC,hΓ]) ?_
  refine aR ⟨_,rfl,rfl,rfl,rfl⟩
theorem Sz(l:List (W×Int))(p:W×Int)(s:W):BD (l++[p]) s=(BD l s).or (if p.1=s then some p.2 else none):=by
 unfold BD
 rw [List.find?_append]
 cases h:l.find? (fun p=>decide (p.1=s)) with
 | some q=>simp
 | none=>by_cases hp:p.1=s<;>simp [hp]
theorem HM{L:W→Bool}{t:AZ}{k:Nat}(h:k < t.rows.length):(AE L t)[k]? = some (marks L t.cols (t.rows.getD k [])):=by
 simp [AE,h]
theorem Jo(L:W→Bool)(t:AZ):∀k,k≤t.rows.length→∀s,BD (Ba L t k) s=if s∈(AE L t).take k then some (((AE L t).idxOf s:Nat):Int) else none
 | 0,_,s=>by simp [Ba,BD]
 | k + 1, hk, s=>by
  have ih:=Jo L t k (by omega)
  have hx:=HM (L:=L) (t:=t) (k:=k) (by omega)
  generalize marks L t.cols (t.rows.getD k [])=x at *
  have hst:Ba L t (k+1)=if (BD (Ba L t k) x).isSome then Ba L t k else Ba L t k++[(x,(k:Int))]:=by
   have hx2:=HM (L:=L) (t:=t) (k:=k) (by omega)
   rw [hx] at hx2
   injection hx2 with hx2
   rw [Ba,←hx2]
  have htk:∀s,s∈(AE L t).take (k+1)↔s∈(AE L t).take k∨s=x:=fun s=>by
   rw [List.take_add_one,hx];simp
  rw [hst]
  by_cases hm:x∈(AE L t).take k
  ·rw [if_pos (by rw [ih x,if_pos hm];rfl),ih s]
   by_cases hs:s∈(AE L t).take k
   ·rw [if_pos hs,if_pos ((htk s).2 (.inl hs))]
   ·rw [if_neg hs,if_neg]
    intro h
    rcases(htk s).1 h with h|h
    ·exact hs h
    ·subst h;exact hs hm
  ·rw [if_neg (by rw [ih x,if_neg hm];simp),Sz,ih s]
   by_cases hs:s∈(AE L t).take k
   ·rw [if_pos hs,if_pos ((htk s).2 (.inl hs))];rfl
   ·rw [if_neg hs]
    by_cases he:x=s
    ·subst he
     rw [if_pos ((htk x).2 (.inr rfl))]
     have hix:(AE L t).idxOf x=k:=by
      have hl:k < (AE L t).length:=(List.getElem?_eq_some_iff.1 hx).1
      have e:AE L t=(AE L t).take k++x::(AE L t).drop (k+1):=by
       rw [←C3 hx,List.take_append_drop]
      rw [e,List.idxOf_append,if_neg hm,List.idxOf_cons_self]
      simp;omega
     simp [hix]
    ·have hns:s∉(AE L t).take (k+1):=fun h=>by
      rcases(htk s).1 h with h|h
      ·exact hs h
      ·exact he h.symm
     rw [if_neg hns]
     simp [he]
theorem OY{L:W→Bool}{t:AZ}{s:W}:BD (Ba L t t.rows.length) s=if s∈AE L t then some (((AE L t).idxOf s:Nat):Int) else none:=by
 have h:=Jo L t t.rows.length (Nat.le_refl _) s
 have e:(AE L t).take t.rows.length=AE L t:=List.take_of_length_le (by simp [AE])
 rwa [e] at h
theorem RE{L:W→Bool}{ls:List UInt8}{t:AZ}{k j:Nat}{r:W}{l:UInt8}(hr:t.rows[k]? = some r)(hl:ls[j]? = some l)(h1:∀w∈BO ls (t.rows.take k),marks L t.cols w∈AE L t)(h2:∀x∈ls.take j,marks L t.cols (r++[x])∈AE L t)
 (h3:marks L t.cols (r++[l])∉AE L t):A0 L ls t=some (r++[l]):=by
 have e1:t.rows=t.rows.take k++r::t.rows.drop (k+1):=by
  rw [←C3 hr,List.take_append_drop]
 have e2:ls=ls.take j++l::ls.drop (j+1):=by
  rw [←C3 hl,List.take_append_drop]
 have e3:BO ls t.rows=BO ls (t.rows.take k)++((ls.take j).map (fun x=>r++[x])++(r++[l])::((ls.drop (j+1)).map (fun x=>r++[x])++BO ls (t.rows.drop (k+1)))):=by
  have h4:BO ls t.rows=BO ls (t.rows.take k++r::t.rows.drop (k+1)):=congrArg _ e1
  rw [h4]
  unfold BO
  rw [List.flatMap_append,List.flatMap_cons]
  have h5:ls.map (fun x=>r++[x])=(ls.take j++l::ls.drop (j+1)).map (fun x=>r++[x]):=congrArg _ e2
  rw [h5]
  simp
 unfold A0
 rw [e3,List.find?_append,List.find?_append]
 have n1:(BO ls (t.rows.take k)).find? (fun w=>!(AE L t).contains (marks L t.cols w))=none:=List.find?_eq_none.2 fun w hw=>by simpa using h1 w hw
 have n2:((ls.take j).map (fun x=>r++[x])).find? (fun w=>!(AE L t).contains (marks L t.cols w))=none:=List.find?_eq_none.2 fun w hw=>by
  obtain⟨x,hx,rfl⟩:=List.mem_map.1 hw
  simpa using h2 x hx
 rw [n1,n2]
 simp [h3]
def lb(l:Int):UInt8:=UInt8.ofNat (97+l.toNat)
def AR(al:Int):List UInt8:=(Ac al).map lb
def Sr(o:Option W):E:=match o with
 | some w=>.t [(false,[.d (tD w)]),(false,[.d (bD true)])]
 | none=>.t [(false,[.d (tD [])]),(false,[.d (bD false)])]
end Go.Am
namespace Go.Am
set_option linter.unusedVariables false
theorem MH(L:W→Bool)(cols:List W)(v w:W):marks L (cols++[v]) w=marks L cols w++[NX (L (w++v))]:=by simp [marks]
theorem A7.row{L:W→Bool}{ls:List UInt8}{t:AZ}(h:A7 L ls t){i j:Nat}{r s:W}(hi:t.rows[i]? = some r)(hj:t.rows[j]? = some s)(he:marks L t.cols r=marks L t.cols s):i=j:=by
 have h1:(AE L t)[i]? = some (marks L t.cols r):=by simp [AE,hi]
 have h2:(AE L t)[j]? = some (marks L t.cols r):=by simp [AE,hj,he]
 have l1:=(List.getElem?_eq_some_iff.1 h1).1
 have l2:=(List.getElem?_eq_some_iff.1 h2).1
 have e1:=(List.getElem?_eq_some_iff.1 h1).2
 have e2:=(List.getElem?_eq_some_iff.1 h2).2
 have hp:=List.pairwise_iff_getElem.1 h.nd
 rcases Nat.lt_trichotomy i j with h3|h3|h3
 ·exact absurd (e1.trans e2.symm) (hp i j l1 l2 h3)
 ·exact h3
 ·exact absurd (e2.trans e1.symm) (hp j i l2 l1 h3)
structure Split (L:W→Bool) (ls:List UInt8) (t:AZ) (u v:W):Prop where
 suf:∃p,p≠[]∧u=p++v
 new:v∉t.cols
 opens:∃r∈t.rows,∃c∈ls,marks L (t.cols++[v]) (r++[c])∉AE L ⟨t.rows,t.cols++[v]⟩
theorem Pk{L:W→Bool}{ls:List UInt8}{t:AZ}(h:A7 L ls t)(b:Bool):∀(u:W) (i:Nat) (r:W),Ay ls u→t.rows[i]? = some r→L (r++u)=b→L (t.rows.getD (runM L t i u) [])≠b→∃v,splitAt L t b i u=some v∧Split L ls t u v
 | [],i,r,_,hi,hb,hn=>by
  have h1:t.rows.getD i []=r:=by simp [hi]
  rw [List.append_nil] at hb
  exact absurd (by show L (t.rows.getD i [])=b;rw [h1];exact hb) hn
 | c :: v,i,r,hu,hi,hb,hn=>by
  have hc:c∈ls:=hu c (by simp)
  have hgd:t.rows.getD i []=r:=by simp [hi]
  obtain⟨r',h1,h2⟩:=h.idx hi hc
  have hgd':t.rows.getD (Cv L t (r++[c])) []=r':=by simp [h1]
  unfold splitAt
  rw [hgd,hgd']
  by_cases hv:L (r'++v)≠b
  ·rw [if_pos hv]
   have hrc:r++c::v=(r++[c])++v:=by simp
   have hne:L ((r++[c])++v)≠L (r'++v):=by rw [←hrc,hb];exact fun e=>hv e.symm
   refine⟨v,rfl,⟨[c],by simp,rfl⟩,fun hm=>hne ((OI.1 h2 v hm).symm),r,List.mem_of_getElem? hi,c,hc,fun hm=>?_⟩
   unfold AE at hm
   obtain⟨s,hs,he⟩:=List.mem_map.1 hm
   simp only [MH] at he
   obtain⟨e1,e2⟩:=List.append_inj' he rfl
   obtain⟨q,hq,hqe⟩:=List.getElem_of_mem hs
   have hsq:t.rows[q]? = some s:=by rw [List.getElem?_eq_getElem hq,hqe]
   have:=h.row hsq h1 (e1.trans h2.symm)
   subst this
   rw [hsq] at h1
   injection h1 with h1
   subst h1
   have e3:NX (L (s++v))=NX (L (r++[c]++v)):=by simpa using e2
   exact hne (Rx e3).symm
  ·rw [if_neg hv]
   have hv':L (r'++v)=b:=by simpa using hv
   have hn':L (t.rows.getD (runM L t (Cv L t (r++[c])) v) [])≠b:=by
    have:runM L t i (c::v)=runM L t (Cv L t (r++[c])) v:=by show runM L t (Cv L t (t.rows.getD i []++[c])) v=_;rw [hgd]
    rwa [this] at hn
   obtain⟨w,h3,⟨p,hp,h4⟩,h5,h6⟩:=Pk h b v _ r' (fun x hx=>hu x (by simp [hx])) h1 hv' hn'
   exact⟨w,h3,⟨c::p,by simp,by rw [h4];rfl⟩,h5,h6⟩
theorem TOk.NW{L:W→Bool}{ls:List UInt8}{t:AZ}{v:W}(h:TOk L ls t)(hv:Ay ls v)(hn:v∉t.cols):TOk L ls ⟨t.rows,t.cols++[v]⟩:=by
 have h0:0 < t.cols.length:=(List.getElem?_eq_some_iff.1 h.c0).1
 refine⟨h.r0,by show (t.cols++[v])[0]? = _;rw [List.getElem?_append_left h0];exact h.c0,h.pre,h.onR,fun c hc=>?_,?_,?_⟩
 ·rcases List.mem_append.1 hc with hc|hc
  ·exact h.onC c hc
  ·simp at hc;subst hc;exact hv
 ·have hnd:=h.nd
  unfold AE List.Nodup at *
  rw [List.pairwise_map] at *
  refine hnd.imp fun {a b} hne he=>hne ?_
  simp only [MH] at he
  exact(List.append_inj' he rfl).1
 ·rw [List.nodup_append]
  exact⟨h.ndC,by simp,fun a ha b hb e=>by simp at hb;subst hb;exact hn (e ▸ ha)⟩
theorem WW{L:W→Bool}{ls:List UInt8}{t:AZ}{r:W}{c:UInt8}(hr:r∈t.rows)(hc:c∈ls)(hm:marks L t.cols (r++[c])∉AE L t):A0 L ls t≠none:=fun h=>hm (FN h r hr c hc)
def Ht(L:W→Bool)(t:AZ)(w:W):Bool:=L (t.rows.getD (runM L t 0 w) [])
def OS(L:W→Bool)(ls:List UInt8)(t:AZ)(w:W):Option AZ:=(splitAt L t (L w) 0 w).bind fun v=>A8 L ls 13 ⟨t.rows,t.cols++[v]⟩
structure Next (L:W→Bool) (ls:List UInt8) (t:AZ) (w v:W) (t':AZ):Prop where
 split:splitAt L t (L w) 0 w=some v
 close:A8 L ls 13 ⟨t.rows,t.cols++[v]⟩=some t'
 next:OS L ls t w=some t'
 ok:A7 L ls t'
 cols:t'.cols=t.cols++[v]
 new:v∉t.cols
 suf:∃p,p≠[]∧w=p++v
 more:t.rows.length < t'.rows.length
 pre:t.rows <+: t'.rows
theorem TOk.closed{L:W→Bool}{ls:List UInt8}{t:AZ}(h:TOk L ls t)(ho:A0 L ls t=none):A7 L ls t:=⟨h,FN ho⟩
theorem Nz{L:W→Bool}{ls:List UInt8}{n:Nat}(f:Fin L ls n)(hn:n≤12){t:AZ}(h:A7 L ls t){w:W}(hw:Ay ls w)(hd:Ht L t w≠L w):∃v t',Next L ls t w v t':=by
 obtain⟨v,h1,⟨p,hp,h2⟩,h3,r,hr,c,hc,h4⟩:=Pk h (L w) w 0 [] hw h.r0 rfl hd
 have hv:Ay ls v:=fun x hx=>hw x (by rw [h2];simp [hx])
 have h5:=h.toTOk.NW hv h3
 have h6:=WW (t:=⟨t.rows,t.cols++[v]⟩) hr hc h4
 have h0:0 < t.rows.length:=(List.getElem?_eq_some_iff.1 h.r0).1
 obtain⟨t',e1,e2,e3,e4,e5,e6⟩:=I7 f hn 13 _ h5 (by omega)
 exact⟨v,t',h1,e1,by simp [OS,h1,e1],e2.closed e3,e5,h3,⟨p,hp,h2⟩,e6 h6,e4⟩
def DJ(L:W→Bool)(ls:List UInt8)(wr:AZ→Option W)(t0:AZ):Nat→AZ
 | 0=>t0
 | k+1=>match wr (DJ L ls wr t0 k) with
  | none=>DJ L ls wr t0 k
  | some w=>(OS L ls (DJ L ls wr t0 k) w).getD (DJ L ls wr t0 k)
structure Wr (L:W→Bool) (ls:List UInt8) (wr:AZ→Option W):Prop where
 on:∀t w,wr t=some w→A7 L ls t→Ay ls w∧Ht L t w≠L w
theorem Pp{L:W→Bool}{ls:List UInt8}{n:Nat}(f:Fin L ls n)(hn:n≤12){wr:AZ→Option W}(hwr:Wr L ls wr){t0:AZ}(h0:A7 L ls t0)(hc:t0.cols.length=1):∀k,(∀j,j < k→wr (DJ L ls wr t0 j)≠none)→
 A7 L ls (DJ L ls wr t0 k)∧k+1≤(DJ L ls wr t0 k).rows.length∧(DJ L ls wr t0 k).cols.length=k+1
 | 0,_=>⟨h0,(List.getElem?_eq_some_iff.1 h0.r0).1,hc⟩
 | k + 1,h=>by
  obtain⟨h1,h2,h3⟩:=Pp f hn hwr h0 hc k fun j hj=>h j (by omega)
  have h4:=h k (by omega)
  unfold DJ
  cases hw:wr (DJ L ls wr t0 k) with
  | none=>exact absurd hw h4
  | some w=>
   obtain⟨h5,h6⟩:=hwr.on _ w hw h1
   obtain⟨v,t',hN⟩:=Nz f hn h1 h5 h6
   simp only [hN.next,Option.getD_some]
   refine⟨hN.ok,by have:=hN.more;omega,by rw [hN.cols];simp [h3]⟩
theorem Qc{L:W→Bool}{ls:List UInt8}{n:Nat}(f:Fin L ls n)(hn:n≤12){wr:AZ→Option W}(hwr:Wr L ls wr){t0:AZ}(h0:A7 L ls t0)(hc:t0.cols.length=1) :
 ∃k,k < 12∧wr (DJ L ls wr t0 k)=none∧∀j,j < k→wr (DJ L ls wr t0 j)≠none:=by
 have key : ∀m,(∃k,k < m∧wr (DJ L ls wr t0 k)=none∧∀j,j < k→wr (DJ L ls wr t0 j)≠none)∨∀j,j < m→wr (DJ L ls wr t0 j)≠none:=by
  intro m
  induction m with
  | zero=>exact .inr fun j hj=>by omega
  | succ m ih=>
   rcases ih with ⟨k,h1,h2,h3⟩|ih
   ·exact .inl ⟨k,by omega,h2,h3⟩
   ·by_cases hm:wr (DJ L ls wr t0 m)=none
    ·exact .inl ⟨m,by omega,hm,ih⟩
    ·refine .inr fun j hj=>?_
     by_cases hjm:j=m
     ·subst hjm;exact hm
     ·exact ih j (by omega)
 rcases key 12 with h|h
 ·exact h
 ·have h1:=Pp f hn hwr h0 hc 12 h
  have:=h1.1.Zn f
  omega
def AU(a:AP):Int→W→Int
 | q,[]=>q
 | q,c::w=>AU a (Bo a q.toNat ((c.toNat:Int) - 97)) w
def LA(a:AP)(w:W):Bool:=a.ac.getD (AU a 0 w).toNat false
theorem DH(a:AP):∀(u w:W) (q:Int),AU a q (u++w)=AU a (AU a q u) w
 | [],_,_=>rfl
 | c::u,w,q=>DH a u w _
theorem ET{l:Int}(h0:0≤l)(h1:l < 6):((lb l).toNat:Int) - 97=l:=by
 unfold lb
 have:(97+l.toNat) % 256=97+l.toNat:=by omega
 simp [this]
 omega
theorem FF{al:Int}{c:UInt8}(h:c∈AR al):0≤(c.toNat:Int) - 97∧(c.toNat:Int) - 97 < 6:=by
 obtain⟨l,hl,rfl⟩:=List.mem_map.1 h
 have h1:=Av hl
 rw [ET h1.1 (by omega)]
 omega
theorem Dg{a:AP}(ha:AF a=true){al:Int}:∀(w:W) (q:Int),Ay (AR al) w→0≤q∧q < a.nx.length→0≤AU a q w∧AU a q w < a.nx.length
 | [],q,_,hq=>hq
 | c::w,q,hw,hq=>by
  have h1:=FF (hw c (by simp))
  have h2:=GF ha (q:=q.toNat) (by omega) h1.1 h1.2
  exact Dg ha w _ (fun x hx=>hw x (by simp [hx])) h2
def Sx{a:AP}(ha:AF a=true)(al:Int):Fin (LA a) (AR al) a.nx.length where
 st w:=(AU a 0 w).toNat
 lt w hw:=by
  have h1:=Al ha
  have:=Dg ha w 0 hw (by omega)
  omega
 same u w v hu hw hv h:=by
  have h1:=Al ha
  have h2:=Dg ha u 0 hu (by omega)
  have h3:=Dg ha w 0 hw (by omega)
  have h4:AU a 0 u=AU a 0 w:=by omega
  unfold LA
  rw [DH,DH,h4]
section
variable {α:Type}[DecidableEq α]
def NK{α:Type}(f:α→Int→α):α→List Int→α
 | q,[]=>q
 | q,l::w=>NK f (f q l) w
theorem Pb{α:Type}(f:α→Int→α):∀(u w:List Int) (q:α),NK f q (u++w)=NK f (NK f q u) w
 | [],_,_=>rfl
 | l::u,w,q=>Pb f u w _
def GM(lim:Nat)(f:α→Int→α)(q:α):List α→List Int→List Int→Option (List α×List Int)
 | nd,row,[]=>some (nd,row)
 | nd,row,l::ls=>if f q l∈nd then GM lim f q nd (row++[((nd.idxOf (f q l):Nat):Int)]) ls
  else if nd.length=lim then none else GM lim f q (nd++[f q l]) (row++[(nd.length:Int)]) ls
def Gm(lim:Nat)(f:α→Int→α)(ls:List Int):Nat→List α→List (List Int)→Option (List α×List (List Int))
 | 0,nd,rows=>some (nd,rows)
 | k + 1,nd,rows=>match nd[rows.length]? with
  | none=>some (nd,rows)
  | some q=>match GM lim f q nd [] ls with
   | none=>none
   | some p=>Gm lim f ls k p.1 (rows++[p.2])
def OW(lim:Nat)(f:α→Int→α)(ls:List Int)(s:α):Option (List α×List (List Int)):=Gm lim f ls lim [s] []
structure Part (f:α→Int→α) (ls:List Int) (s:α) (nd:List α) (rows:List (List Int)) (lim:Nat):Prop where
 st:nd[0]? = some s
 nodup:nd.Nodup
 len:rows.length≤nd.length
 lim:nd.length≤lim
 row:∀(i:Nat) (r:List Int),rows[i]? = some r→∃q,nd[i]? = some q∧r=ls.map (fun l=>((nd.idxOf (f q l):Nat):Int))∧∀l∈ls,f q l∈nd
 rc:∀q∈nd,∃w:List Int,(∀l∈w,l∈ls)∧NK f s w=q
theorem NB{lim:Nat}{f:α→Int→α}{ls:List Int}{s q:α}{rows:List (List Int)}{i:Nat}:∀(rs ds:List Int) {nd:List α} {row:List Int} {nd':List α} {row':List Int},ls=ds++rs→Part f ls s nd rows lim→nd[i]? = some q→row=ds.map (fun l=>((nd.idxOf (f q l):Nat):Int))→(∀l∈ds,f q l∈nd)→
 GM lim f q nd row rs=some (nd',row')→Part f ls s nd' rows lim∧nd'[i]? = some q∧row'=ls.map (fun l=>((nd'.idxOf (f q l):Nat):Int))∧∀l∈ls,f q l∈nd'
 | [],ds,nd,row,nd',row',e,h,hi,hr,hm,hh=>by
  simp only [GM,Option.some.injEq,Prod.mk.injEq] at hh
  obtain⟨rfl,rfl⟩:=hh
  rw [List.append_nil] at e
  subst e
  exact⟨h,hi,hr,hm⟩
 | l :: rs, ds,nd,row,nd',row',e,h,hi,hr,hm,hh=>by
  simp only [GM] at hh
  split at hh
  ·rename_i hin
   exact NB rs (ds++[l]) (by rw [e];simp) h hi (by rw [hr];simp) (fun m hml=>by
    rcases List.mem_append.1 hml with h1|h1
    ·exact hm m h1
    ·simp at h1;subst h1;exact hin) hh
  ·rename_i hin
   split at hh
   ·cases hh
   ·rename_i hl
    have hix:∀x∈nd,(nd++[f q l]).idxOf x=nd.idxOf x:=fun x hx=>by rw [List.idxOf_append,if_pos hx]
    have hlim:=h.lim
    refine NB rs (ds++[l]) (by rw [e];simp) ⟨?_,?_,?_,by simp;omega,?_,?_⟩ ?_ ?_ ?_ hh
    ·rw [List.getElem?_append_left (List.getElem?_eq_some_iff.1 h.st).1];exact h.st
    ·exact List.nodup_append.2 ⟨h.nodup,by simp,fun a ha b hb=>by simp at hb;subst hb;exact fun e=>hin (e ▸ ha)⟩
    ·have:=h.len;simp;omega
    ·intro j r hj
     obtain⟨p,h1,h2,h3⟩:=h.row j r hj
     refine⟨p,by rw [List.getElem?_append_left (List.getElem?_eq_some_iff.1 h1).1];exact h1,?_,fun m hml=>List.mem_append_left _ (h3 m hml)⟩
     rw [h2]
     exact List.map_congr_left fun m hml=>by rw [hix _ (h3 m hml)]
    ·intro x hx
     rcases List.mem_append.1 hx with h1|h1
     ·exact h.rc x h1
     ·simp at h1;subst h1
      obtain⟨w,h1,h2⟩:=h.rc q (List.mem_of_getElem? hi)
      refine⟨w++[l],fun m hml=>?_,by rw [Pb,h2];rfl⟩
      rcases List.mem_append.1 hml with h3|h3
      ·exact h1 m h3
      ·simp at h3;subst h3;rw [e];simp
    ·rw [List.getElem?_append_left (List.getElem?_eq_some_iff.1 hi).1];exact hi
    ·rw [hr,List.map_append]
     congr 1
     ·exact List.map_congr_left fun m hml=>by rw [hix _ (hm m hml)]
     ·simp [List.idxOf_append,hin]
    ·intro m hml
     rcases List.mem_append.1 hml with h1|h1
     ·exact List.mem_append_left _ (hm m h1)
     ·simp at h1;subst h1;simp
structure Sl (f:α→Int→α) (ls:List Int) (s:α) (nd:List α) (rows:List (List Int)):Prop where
 st:nd[0]? = some s
 nodup:nd.Nodup
 len:rows.length=nd.length
 row:∀(i:Nat) (q:α),nd[i]? = some q→rows[i]? = some (ls.map fun l=>((nd.idxOf (f q l):Nat):Int))
 cl:∀q∈nd,∀l∈ls,f q l∈nd
 rc:∀q∈nd,∃w:List Int,(∀l∈w,l∈ls)∧NK f s w=q
theorem Part.done{f:α→Int→α}{ls:List Int}{s:α}{nd:List α}{rows:List (List Int)}{lim:Nat}(h:Part f ls s nd rows lim)(hl:nd.length≤rows.length):Sl f ls s nd rows:=by
 have hln:=h.len
 have key:∀(i:Nat) (q:α),nd[i]? = some q→rows[i]? = some (ls.map fun l=>((nd.idxOf (f q l):Nat):Int))∧∀l∈ls,f q l∈nd:=fun i q hi=>by
  have hlt:=(List.getElem?_eq_some_iff.1 hi).1
  obtain⟨r,hr⟩:∃r,rows[i]? = some r:=⟨_,List.getElem?_eq_getElem (by omega)⟩
  obtain⟨p,h1,h2,h3⟩:=h.row i r hr
  rw [hi] at h1;injection h1 with h1;subst h1
  exact⟨by rw [hr,h2],h3⟩
 refine⟨h.st,h.nodup,by omega,fun i q hi=>(key i q hi).1,fun q hq=>?_,h.rc⟩
 obtain⟨i,hi⟩:=List.mem_iff_getElem?.1 hq
 exact(key i q hi).2
theorem Jm{lim lim':Nat}(hl:lim≤lim'){f:α→Int→α}{q:α}:∀(ls:List Int) {nd:List α} {row:List Int} {p:List α×List Int},nd.length≤lim→GM lim f q nd row ls=some p→GM lim' f q nd row ls=some p
 | [],nd,row,p,_,h=>h
 | l :: ls,nd,row,p,hn,h=>by
  simp only [GM] at h ⊢
  split at h
  ·rename_i hin
   rw [if_pos hin];exact Jm hl ls hn h
  ·rename_i hin
   rw [if_neg hin]
   split at h
   ·cases h
   ·rename_i hne
    rw [if_neg (by omega)]
    exact Jm hl ls (by simp;omega) h
theorem Part.push{f:α→Int→α}{ls:List Int}{s q:α}{nd:List α}{rows:List (List Int)}{lim:Nat}{p:List α×List Int}(h:Part f ls s nd rows lim)(hq:nd[rows.length]? = some q)(hp:GM lim f q nd [] ls=some p):Part f ls s p.1 (rows++[p.2]) lim:=by
 obtain⟨h1,h2,h3,h4⟩:=NB ls [] (row:=[]) (nd':=p.1) (row':=p.2) rfl h hq rfl (by simp) hp
 have hlt:=(List.getElem?_eq_some_iff.1 h2).1
 refine⟨h1.st,h1.nodup,by simp;omega,h1.lim,fun j r hj=>?_,h1.rc⟩
 rcases Nat.lt_or_ge j rows.length with h5|h5
 ·rw [List.getElem?_append_left h5] at hj;exact h1.row j r hj
 ·rw [List.getElem?_append_right h5] at hj
  have h6:j - rows.length < 1:=(List.getElem?_eq_some_iff.1 hj).1
  obtain rfl:j=rows.length:=by omega
  simp at hj;subst hj
  exact⟨q,h2,h3,h4⟩
theorem QV{lim:Nat}{f:α→Int→α}{ls:List Int}{s:α}:∀(k:Nat) {nd:List α} {rows:List (List Int)} {p:List α×List (List Int)},lim≤k+rows.length→Part f ls s nd rows lim→Gm lim f ls k nd rows=some p→Sl f ls s p.1 p.2∧p.1.length≤lim∧∀lim' k',lim≤lim'→k≤k'→Gm lim' f ls k' nd rows=some p
 | 0,nd,rows,p,hk,h,hh=>by
  simp only [Gm,Option.some.injEq] at hh
  subst hh
  have hlim:=h.lim
  refine⟨h.done (by omega),h.lim,fun lim' k' hl hk'=>?_⟩
  cases k' with
  | zero=>rfl
  | succ k'=>simp only [Gm];rw [List.getElem?_eq_none (by omega)]
 | k + 1, nd,rows,p,hk,h,hh=>by
  simp only [Gm] at hh
  split at hh
  ·rename_i hn
   simp only [Option.some.injEq] at hh
   subst hh
   refine⟨h.done (by simpa using hn),h.lim,fun lim' k' hl hk'=>?_⟩
   cases k' with
   | zero=>omega
   | succ k'=>simp only [Gm];rw [hn]
  ·rename_i q hq
   split at hh
   ·cases hh
   ·rename_i p1 hp
    obtain⟨h1,h2,h3⟩:=QV k (by simp;omega) (h.push hq hp) hh
    refine⟨h1,h2,fun lim' k' hl hk'=>?_⟩
    cases k' with
    | zero=>omega
    | succ k'=>
     simp only [Gm]
     rw [hq]
     simp only
     rw [Jm hl ls h.lim hp]
     exact h3 lim' k' hl (by omega)
theorem WT{lim:Nat}{f:α→Int→α}{ls:List Int}{s:α}{nd:List α}{rows:List (List Int)}(h1:1≤lim)(h:OW lim f ls s=some (nd,rows)):Sl f ls s nd rows∧nd.length≤lim∧∀lim',lim≤lim'→OW lim' f ls s=some (nd,rows):=by
 obtain⟨a,b,c⟩:=QV lim (by simp) ⟨rfl,by simp,by simp,by simpa using h1,by simp,fun q hq=>⟨[],by simp,by simp at hq;subst hq;rfl⟩⟩ h
 exact⟨a,b,fun lim' hl=>c lim' lim' hl hl⟩
end
theorem WB:∀(n:Nat) (l:List Nat),l.Nodup→(∀x∈l,x < n)→n≤l.length→∀x,x < n→x∈l:=fun n l hd hl hn x hx=>by
 refine Classical.byContradiction fun hc=>?_
 have:=GL n (x::l) (List.nodup_cons.2 ⟨hc,hd⟩) (fun y hy=>by
  rcases List.mem_cons.1 hy with rfl|h
  ·exact hx
  ·exact hl y h)
 simp at this;omega
theorem Ul{n:Nat}{l:List Int}(hd:l.Nodup)(hl:∀x∈l,0≤x∧x < n)(hn:n≤l.length){x:Int}(hx:0≤x∧x < n):x∈l:=by
 have h1:(l.map Int.toNat).Nodup:=by
  unfold List.Nodup at *
  rw [List.pairwise_map]
  refine(List.Pairwise.and_mem.1 hd).imp fun {a b} h e=>?_
  have ha:=hl a h.1
  have hb:=hl b h.2.1
  exact h.2.2 (by omega)
 have h2:=WB n (l.map Int.toNat) h1 (fun y hy=>by
  obtain⟨z,hz,rfl⟩:=List.mem_map.1 hy
  have:=hl z hz;omega) (by simpa using hn) x.toNat (by omega)
 obtain⟨z,hz,he⟩:=List.mem_map.1 h2
 have:=hl z hz
 obtain rfl:z=x:=by omega
 exact hz
theorem Jn{lim:Nat}{f:Int→Int→Int}{q:Int}(hn:∀nd:List Int,nd.Nodup→(∀x∈nd,0≤x∧x < lim)→nd.length=lim→∀x:Int,0≤x∧x < lim→x∈nd):∀(ls:List Int) {nd row:List Int},nd.Nodup→(∀x∈nd,0≤x∧x < (lim:Int))→(∀l∈ls,0≤f q l∧f q l < lim)→∃p,GM lim f q nd row ls=some p∧p.1.Nodup∧∀x∈p.1,0≤x∧x < (lim:Int)
 | [],nd,row,hd,hb,_=>⟨(nd,row),rfl,hd,hb⟩
 | l :: ls,nd,row,hd,hb,hf=>by
  simp only [GM]
  have hfl:=hf l (by simp)
  by_cases hin:f q l∈nd
  ·rw [if_pos hin];exact Jn hn ls hd hb fun m hm=>hf m (by simp [hm])
  ·rw [if_neg hin,if_neg fun e=>hin (hn nd hd hb e _ hfl)]
   exact Jn hn ls (List.nodup_append.2 ⟨hd,by simp,fun a ha b hb=>by simp at hb;subst hb;exact fun e=>hin (e ▸ ha)⟩) (fun x hx=>by
    rcases List.mem_append.1 hx with h|h
    ·exact hb x h
    ·simp at h;subst h;exact hfl) fun m hm=>hf m (by simp [hm])
theorem Mn{lim:Nat}{f:Int→Int→Int}{ls:List Int}(hf:∀q l:Int,0≤q∧q < lim→l∈ls→0≤f q l∧f q l < lim):∀(k:Nat) {nd:List Int} {rows:List (List Int)},nd.Nodup→(∀x∈nd,0≤x∧x < (lim:Int))→∃p,Gm lim f ls k nd rows=some p
 | 0,nd,rows,_,_=>⟨_,rfl⟩
 | k + 1,nd,rows,hd,hb=>by
  simp only [Gm]
  split
  ·exact⟨_,rfl⟩
  ·rename_i q hq
   obtain⟨p,h1,h2,h3⟩:=Jn (q:=q) (f:=f) (fun nd hd hb hl x hx=>Ul hd hb (by omega) hx) ls (row:=[]) hd hb (fun l hl=>hf q l (hb q (List.mem_of_getElem? hq)) hl)
   rw [h1]
   exact Mn hf k h2 h3
theorem SZ{lim:Nat}{f:Int→Int→Int}{ls:List Int}{s:Int}(hf:∀q l:Int,0≤q∧q < lim→l∈ls→0≤f q l∧f q l < lim)(hs:0≤s∧s < (lim:Int)):∃p,OW lim f ls s=some p:=
 Mn hf lim (by simp) (fun x hx=>by simp at hx;subst hx;exact hs)
section
variable {α β:Type}[DecidableEq α][DecidableEq β]
end
end Go.Am
namespace Go.Am
open Go
set_option linter.unusedVariables false
set_option linter.unusedSimpArgs false
inductive FL (σ:Ab) (ids:List Nat):List C→List C→Prop
 | nil:FL σ ids [] []
 | cons {c c':C} {cs cs':List C}:FC σ ids c c'→FL σ ids cs cs'→FL σ ids (c::cs) (c'::cs')
theorem FL.len{σ:Ab}{ids:List Nat}{l l':List C}(h:FL σ ids l l'):l'.length=l.length:=by
 induction h with
 | nil=>rfl
 | cons _ _ ih=>simp [ih]
theorem FL.get{σ:Ab}{ids:List Nat}{l l':List C}(h:FL σ ids l l'):∀(j:Nat) c',l'[j]? = some c'→∃c,l[j]? = some c∧FC σ ids c c':=by
 induction h with
 | nil=>intro j c' h;simp at h
 | @cons c0 c0' cs cs' h1 _ ih=>
  intro j c' hj
  cases j with
  | zero=>simp at hj;subst hj;exact⟨c0,rfl,h1⟩
  | succ j=>exact ih j c' (by simpa using hj)
def Mm(σ:Ab)(ids:List Nat):Ab→Prop
 | []=>True
 | (id,.cells T k [r'])::S=>(∃r,look σ id=some (.cells T k [r])∧id∉ids∧FL σ ids r r')∧Mm σ ids S
 | _=>False
theorem Mm.get{σ:Ab}{ids:List Nat}:∀ {S:Ab},Mm σ ids S→∀id o',look S id=some o'→∃T k r r',o'=.cells T k [r']∧look σ id=some (.cells T k [r])∧id∉ids∧FL σ ids r r'
 | [],_,id,o',h=>by cases h
 | (i, o)::S,hs,id,o',h=>by
  match o,hs with
  | .cells T k [r'],hs=>
   rw [Ax] at h
   by_cases hi:i=id
   ·rw [if_pos hi] at h
    injection h with h
    subst h;subst hi
    obtain⟨r,h1,h2,h3⟩:=hs.1
    exact⟨T,k,r,r',rfl,h1,h2,h3⟩
   ·rw [if_neg hi] at h
    exact Mm.get hs.2 id o' h
section
variable {P:Program}{TB:Bw}{Γ:Ctx}{N:Nat}{σ:Ab}
theorem BM.Kg{V:View}{f:Env}{nx:Nat}{a:Act}(h:BM TB Γ N V f σ nx a)(ids:List Nat)(L:List (Nat×E))(S:Ab)(hE:CY σ ids f L)(hS:Mm σ ids S):BM TB Γ N (Jh V σ ids) (look L) S nx a:=by
 have e:Ext V (Jh V σ ids):=Kh
 have hi:=h.inv
 refine⟨fun t x hx=>?_,fun t x hx=>?_,h.size,?_,h.nx,h.defers⟩
 ·obtain⟨y,h1,h2⟩:=hE.get t x hx
  exact h2.rel h.inv (h.env t y h1)
 ·obtain⟨y,h1,_⟩:=hE.get t x hx
  exact h.lt t y h1
 ·refine⟨hi.os,hi.tape,hi.output,hi.old,?_,?_,hi.ext.trans e,⟨?_,?_,?_,?_⟩,?_,fun x hx=>⟨.inl (hi.tabs x hx).1,(hi.tabs x hx).2⟩,hi.hid.same rfl (fun _ h=>.inl h) (fun b hb=>hb.elim .inl fun ⟨id,o,_,hl,hn,he⟩=>.inr ⟨id,o,hl,hn,he⟩) fun b ⟨id,o,hl,hn,hb⟩=>?_⟩
  ·rintro b (hb|⟨id,o,_,hl,hn,hb⟩)
   ·exact hi.iLt b hb
   ·exact(hi.st.obj id o hl).blt hn hb
  ·rintro b (hb|⟨id,o,_,hl,hn,hb⟩)
   ·exact hi.iNew b hb
   ·exact .inr (hi.live id o hl hn b hb)
  ·intro id o hl
   obtain⟨T,k,r,r',rfl,h1,h2,h3⟩:=hS.get id o hl
   rcases hi.st.obj id _ h1 with ⟨h4,h5⟩|⟨h0,cur,h4,h5,h6,h7,h8,h9⟩
   ·cases h5
   ·refine .inr ⟨h0,cur,h4,h5,h6,h7,fun x hx=>?_,fun i x j c' hix hj=>?_⟩
    ·simp at hx;subst hx;rw [h3.len];exact h8 r (by simp)
    ·have hi0:i=0:=by have:=(List.getElem?_eq_some_iff.1 hix).1;simp at this;omega
     subst hi0
     simp at hix
     subst hix
     obtain⟨c,hc,hf⟩:=h3.get j c' hj
     obtain⟨v,h10,h11⟩:=h9 0 r j c rfl hc
     exact⟨v,h10,hf.rel hi h11⟩
  ·intro id o hl
   obtain⟨T,k,r,r',_,h1,_,_⟩:=hS.get id o hl
   exact hi.st.lt id _ h1
  ·intro id o hl hn b hb' hb
   obtain⟨T,k,r,r',rfl,h1,h2,_⟩:=hS.get id o hl
   rcases hb with hb|⟨id',o',hm,hl',hn',he⟩
   ·exact hi.st.free id _ h1 hn b hb' hb
   ·exact hi.st.inj id id' _ o' h1 hl' (fun e=>h2 (e ▸ hm)) hn hn' b hb' he
  ·intro id id' o o' hl hl' hne hn hn' b hb hb'
   obtain⟨T,k,r,r',rfl,h1,_,_⟩:=hS.get id o hl
   obtain⟨T2,k2,r2,r2',rfl,h12,_,_⟩:=hS.get id' o' hl'
   exact hi.st.inj id id' _ _ h1 h12 hne hn hn' b hb hb'
  ·intro id o hl hn b hb
   obtain⟨T,k,r,r',rfl,h1,_,_⟩:=hS.get id o hl
   exact hi.live id _ h1 hn b hb
  ·obtain⟨T,k,r,r',rfl,h1,_,_⟩:=hS.get id o hl
   exact⟨id,_,h1,hn,hb⟩
theorem Ak.Kg{c:Code}{Q:Exit→Env→Ab→Nat→Prop}{f:Env}{nx:Nat}(ids:List Nat)(L:List (Nat×E))(S:Ab)(hE:CY σ ids f L)(hS:Mm σ ids S)(h:Ak P TB Γ N c Q (look L) S nx):Ak P TB Γ N c Q f σ nx:=
 fun V a hr=>h (Jh V σ ids) a (hr.Kg ids L S hE hS)
theorem Xb{d:Option Tmp}{ty:TypeId}{pos:String}{af:Array Edge}{g:Option (Nat×Bool)}{f:Env}{nx:Nat}{t k e:TypeId}{x y:Operand}{id:Nat}{l:List (List UInt8×Int)}{s:List UInt8}[hm:Ey P t k e][hk:B6 P k][hz:JD P e (.int .i64 0)](hx:ev f x=some (.o (.mp id)))(hy:ev f y=some (eT s))(ho:look σ id=some (.mp (Du l))) :
 AY P TB Γ ⟨d,.lookup t x y false,ty,pos,af,g⟩ f σ nx (eI .i64 ((BD l s).getD 0)):=
 AH fun V ρ hr hi=>by
  have e1:=hr.get (by simp [Op.operands]) hx
  have e2:ρ y=.string ⟨s.toArray⟩:=AI.val (hr.get (by simp [Op.operands]) hy)
  generalize hv:ρ x=v at e1
  cases e1 with
  | mp hid=>
   obtain⟨hn,ents,clock,h1,h2⟩:=hi.st.obj id _ ho
   obtain⟨r,h3,h4⟩:=Ij s l ents.toList 0 h2
   have hzz:=hz.out
   simp only [Option.bind_eq_some_iff] at hzz
   obtain⟨i,hi1,hz1⟩:=hzz
   have hzv:(zeroValue e).run P V.w=.ok (.int .i64 0) V.w:=by simp [zeroValue,typeInfo,hi1,hz1,go_sem]
   have hfk:(Instr.findKey k (.string ⟨s.toArray⟩) ents.toList).run P V.w=.ok r V.w:=by simp [Instr.findKey,run_underlying hk.out,h3,go_sem]
   have hck:=Hw hk.out ents.isEmpty ⟨s.toArray⟩ V.w
   refine⟨.int .i64 ((BD l s).getD 0),?_,.d (.v rfl)⟩
   cases r with
   | none=>
    have h5:BD l s=none:=by simpa using h4.symm
    simp [execOp,hv,e2,Instr.lookup,run_underlying hm.out,MapKept.run_getObj_map h1,hck,hfk,hzv,h5,go_sem]
   | some q=>
    obtain⟨n,h5,h6⟩:∃n,BD l s=some n∧q.2=.int .i64 n:=by
     cases hf:BD l s with
     | none=>rw [hf] at h4;simp at h4
     | some n=>rw [hf] at h4;exact⟨n,rfl,by simpa using h4⟩
    obtain⟨q1,q2⟩:=q
    simp only at h6
    subst h6
    simp [execOp,hv,e2,Instr.lookup,run_underlying hm.out,MapKept.run_getObj_map h1,hck,hfk,h5,go_sem]
end
end Go.Am
namespace Go.Am
open Go Go.Proofs
set_option maxHeartbeats 1000000
set_option maxRecDepth 4000
attribute [local irreducible] AY B2 Lex Br Ak Spec
variable {TB:Bw}
theorem XE{l:Int}(h0:0≤l):UInt8.ofNat (97+l).toNat=lb l:=by
 unfold lb
 congr 1
 omega
theorem Oi{L:W→Bool}{t:AZ}{s:W}:(BD (Ba L t t.rows.length) s).isSome=true↔s∈AE L t:=by
 rw [OY]
 by_cases h:s∈AE L t<;>simp [h]
theorem K4{ls:List UInt8}{t:AZ}{k:Nat}{r:W}(h:t.rows[k]? = some r):BO ls (t.rows.take (k+1))=BO ls (t.rows.take k)++ls.map fun l=>r++[l]:=by
 unfold BO
 rw [List.take_add_one,h]
 simp
theorem Ik{c:C}{L:W→Bool}{ok:W→Prop}(hc:Gf Tryz.prog TB c L ok)(al:Int)(t:AZ)(ht:NY ok t)(hn:∀w∈t.rows,∀l∈AR al,∀x∈t.cols,ok (w++[l]++x)) :
 Pure Tryz.prog TB 158 [EP al c,CB t] (Sr (A0 L (AR al) t)):=by
 have hr:=CX c hc.BK
 have hrl:=ht.rl
 have hla:(Ac al).length≤6:=AL al 6
 refine eN Tryz.func158 rfl (by kernel_rfl) rfl ?_;intro Γ hΓ
 (repeat first|refine aU rfl ?_)
 (refine pW rfl ?_ rfl (by rfl);refine CG rfl rfl ?_)
 (refine Ag rfl ?_;refine Cq (fun _ _=>Cw rfl rfl rfl) rfl ?_)
 (repeat first|refine tM rfl ?_ |refine aU rfl ?_ |refine Aa ?_)
 (refine pW rfl ?_ rfl (by rfl);refine AD [] rfl rfl (E0 hc al t ht) ⟨rfl,by simp,by simp⟩ (by simp [Dn,E.AX,C.BA,C.AX,hr,eC]) trivial ?_;rintro x0 σ1 nx1 ⟨rfl,rfl,rfl⟩ _)
 (repeat first|refine sN rfl ?_ |refine tM rfl ?_ |refine aU rfl ?_ |refine Aa ?_)
 refine aB ?_
 refine Ak.A4 (α:={k:Nat // k≤t.rows.length∧∀w∈BO (AR al) (t.rows.take k),marks L t.cols w∈AE L t}) (fun ⟨k,hkl,hkd⟩=>[(2,.o (.ptr 0 2 0 0)),(3,.o (.ip (Po t))),(6,.o (.mp 1)),(18,.o (.d (A5 t.rows))),(19,eI .i64 t.rows.length),(20,eI .i64 k)]) (fun ⟨k,hkl,hkd⟩=>[(1,.mp (Du (Ba L t t.rows.length))),(0,.cells 100 2 [[.d (iD al),c]])]) 2 (fun ⟨k,hkl,hkd⟩=>t.rows.length - k) (⟨0,by omega,by simp [BO]⟩) [0,1] (Eb hΓ rfl rfl) (by (simp[cX,zC,hΓ,hr,eC,Ab.AX,BV,Gi])) ?_;rintro⟨k,hkl,hkd⟩;(try dsimp only)
 (repeat first|refine s2 rfl fun _ _hb=>?_ |refine aU rfl ?_ |refine Aa ?_)
 (refine aC rfl ?_ ?_<;>rintro⟨⟩)
 ·have hlt:k < t.rows.length:=by (simp only[oZ] at *;omega)
  obtain⟨r,hx⟩:=get_some (l:=t.rows) (k:=k) hlt
  have hx':=get_map (g:=BC) hx
  have hxm:=List.mem_of_getElem? hx
  have hxb:=ht.rb r hxm
  refine aK ?_
  refine aS (aB ?_)
  (repeat first|refine sN rfl ?_ |refine tM rfl ?_ |(refine s4 rfl ‹_› rfl ?_ ?_;omega) |refine sP rfl (CD al) rfl ?_ |refine aU rfl ?_ |refine Aa ?_)
  refine aB ?_
  refine Ak.A4 (α:={j:Nat // j≤(Ac al).length∧∀x∈(AR al).take j,marks L t.cols (r++[x])∈AE L t}) (fun ⟨j,hjl,hjd⟩=>[(2,.o (.ptr 0 2 0 0)),(3,.o (.ip (Po t))),(6,.o (.mp 1)),(18,.o (.d (A5 t.rows))),(19,eI .i64 t.rows.length),(20,eI .i64 k),(8,eT r),(26,Aj (Ac al)),(27,eI .i64 (Ac al).length),(28,eI .i64 j)]) (fun ⟨j,hjl,hjd⟩=>[(1,.mp (Du (Ba L t t.rows.length))),(0,.cells 100 2 [[.d (iD al),c]])]) 2 (fun ⟨j,hjl,hjd⟩=>(Ac al).length - j) (⟨0,by omega,by simp⟩) [0,1] (Eb hΓ rfl rfl) (by (simp[cX,zC,hΓ,hr])) ?_;rintro⟨j,hjl,hjd⟩;(try dsimp only)
  (repeat first|refine s2 rfl fun _ _hb=>?_ |refine aU rfl ?_ |refine Aa ?_)
  (refine aC rfl ?_ ?_<;>rintro⟨⟩)
  ·have hjlt:j < (Ac al).length:=by (simp only[oZ] at *;omega)
   obtain⟨l,hl⟩:=get_some (l:=Ac al) (k:=j) hjlt
   have hl':=get_map (g:=Bq) hl
   have hlb:=Av (List.mem_of_getElem? hl)
   have hll:(AR al)[j]? = some (lb l):=by simp [AR,hl]
   have hlm:=List.mem_of_getElem? hll
   have hm:=K0 hc al t (r++[lb l]) (by have:=ht.cl;omega) (fun x hx=>hn r hxm _ hlm x hx) (fun y hy=>by have:=ht.cb y hy;simp;omega)
   refine aK ?_
   refine aS (aB ?_)
   (repeat first|(refine sM rfl ?_ ?_;first|exact tI|omega|simp only[oZ] at *;omega) |(refine s4 rfl ‹_› rfl ?_ ?_;omega) |refine sP rfl (EU l hlb.1 (by omega)) rfl ?_|(refine Ag rfl ?_;refine gA rfl ?_;first| refine gS (fun _ _=>Vv rfl (by omega) (by omega)) ?_) |refine aU rfl ?_ |refine Aa ?_)
   rw [XE hlb.1]
   (repeat first|refine tM rfl ?_ |refine s2 rfl fun _ _hb=>?_|(refine Ag rfl ?_;refine gA rfl ?_;first| refine gS (fun _ _=>BE rfl rfl (by simp [E.BK,C.Cr,C.BK,hc.BK]) hm rfl) ?_|refine gQ (NG rfl rfl rfl) (by rfl) ?_) |refine aU rfl ?_ |refine Aa ?_)
   (refine aC rfl ?_ ?_<;>rintro⟨⟩)
   ·have hno:marks L t.cols (r++[lb l])∉AE L t:=fun h=>by
     rw [Oi.2 h] at _hb
     cases _hb
    (repeat first|refine tM rfl ?_ |refine aU rfl ?_ |refine Aa ?_)
    refine aR ⟨_,rfl,?_⟩
    rw [RE hx hll hkd hjd hno]
    rfl
   ·have hyes:marks L t.cols (r++[lb l])∈AE L t:=Oi.1 (by simpa using _hb)
    have hjd2:∀x∈(AR al).take (j+1),marks L t.cols (r++[x])∈AE L t:=fun x hx=>by
     rw [List.take_add_one,hll] at hx
     rcases List.mem_append.1 hx with hx|hx
     ·exact hjd x hx
     ·simp at hx;subst hx;exact hyes
    refine aK ?_
    (repeat first|(refine sM rfl ?_ ?_;first|exact tI|omega) |refine aU rfl ?_ |refine Aa ?_)
    refine⟨⟨j+1,by omega,hjd2⟩,by dsimp only;(omega),[0,1],?_⟩
    simp[cX,zC,hΓ,hr]
  ·obtain rfl:j=(Ac al).length:=by (simp only[oZ] at *;omega)
   have hkd2:∀w∈BO (AR al) (t.rows.take (k+1)),marks L t.cols w∈AE L t:=fun w hw=>by
    rw [K4 hx] at hw
    rcases List.mem_append.1 hw with hw|hw
    ·exact hkd w hw
    ·obtain⟨x,hx2,rfl⟩:=List.mem_map.1 hw
     exact hjd x (by rw [List.take_of_length_le (by simp [AR])];exact hx2)
   refine aE ?_
   (repeat first|(refine sM rfl ?_ ?_;first|exact tI|omega) |refine aU rfl ?_ |refine Aa ?_)
   refine⟨⟨k+1,by omega,hkd2⟩,by dsimp only;(omega),[0,1],?_⟩
   simp[cX,zC,hΓ,hr]
 ·obtain rfl:k=t.rows.length:=by (simp only[oZ] at *;omega)
  have hno:A0 L (AR al) t=none:=List.find?_eq_none.2 fun w hw=>by
   have:=hkd w (by rw [List.take_length];exact hw)
   simpa using this
  refine aE ?_
  (repeat first|refine tM rfl ?_ |refine aU rfl ?_ |refine Aa ?_)
  refine aR ⟨_,rfl,?_⟩
  rw [hno]
  rfl
theorem Ie(l:List W)(h:l.length≤1048576):Spec Tryz.prog TB 150 [] 0 [Bg l] (fun x σ nx=>x=.o (.arr 0 1 0 l.length)∧nx=1∧σ=[(0,.cells 9 1 (l.map CU))]):=by
 refine eN Tryz.func150 rfl (by kernel_rfl) rfl ?_;intro Γ hΓ
 (repeat first|refine aU rfl ?_)
 (refine Ag rfl ?_;refine Cq (fun _ _=>CT rfl) rfl ?_)
 (repeat first|refine tM rfl ?_ |refine aU rfl ?_ |refine Aa ?_)
 (refine pW rfl ?_ rfl (by rfl);refine UP rfl ?_;intro b0 hb0)
 (repeat first|refine Aa ?_)
 (refine aC rfl ?_ ?_<;>rintro⟨⟩)
 ·obtain rfl:l=[]:=by simpa using hb0 rfl
  (repeat first|refine aU rfl ?_)
  (refine pW rfl ?_ rfl (by rfl);refine Iw 1 9 ?_)
  (repeat first|refine Aa ?_)
  refine aR ⟨_,rfl,rfl,rfl,rfl⟩
 ·refine aK ?_
  (repeat first|refine aU rfl ?_)
  (refine pW rfl ?_ rfl (by rfl);refine A1 rfl rfl rfl rfl (by simp) (by rfl) (by rfl) (by rfl) (by rfl) ?_)
  (repeat first|refine tM rfl ?_)
  (refine pW rfl ?_ rfl (by rfl);refine Aw rfl rfl rfl (by first| (simp;done)|(simp;(omega))) rfl (by intro r hr;simp at hr;obtain⟨a,_,rfl⟩:=hr;rfl) (by rfl) (Nat.le_of_ble_eq_true rfl) (by simp;omega) ?_)
  (repeat first|refine tM rfl ?_ |refine Aa ?_)
  refine Ak.names [1] [(2,.o (.arr 0 1 0 l.length))] [(0,.cells 9 1 (l.map CU))] (by intro i hi;rw [hΓ] at hi;omega) (by simp) (by simp[cX,zC,hΓ]) (by simp[cX,zC,hΓ]) ?_
  refine aR ⟨_,rfl,rfl,rfl,rfl⟩
theorem Uw(l:List W)(s:W):Pure Tryz.prog TB 210 [Bg l,eT s] (eI .i64 (if s∈l then (l.idxOf s:Int) else -1)):=by
 refine eN Tryz.func210 rfl (by kernel_rfl) rfl ?_;intro Γ hΓ
 refine Ak.bound 0 rfl fun hB0=>?_
 have hB:=hB0 (l.map BC) .refl
 (repeat first|refine sN rfl ?_ |refine tM rfl ?_ |refine aU rfl ?_ |refine Aa ?_)
 refine aB ?_
 refine Ak.A4 (α:={k:Nat // k≤l.length∧s∉l.take k}) (fun ⟨k,hk,hs⟩=>[(0,Bg l),(1,eT s),(7,eI .i64 l.length),(8,eI .i64 k)]) (fun ⟨k,hk,hs⟩=>[]) 0 (fun ⟨k,hk,hs⟩=>l.length - k) (⟨0,by omega,by simp⟩) [] (Eb hΓ rfl rfl) (by (simp[cX,zC,hΓ])) ?_;rintro⟨k,hk,hs⟩;(try dsimp only)
 (repeat first|refine s2 rfl fun _ _hb=>?_ |refine aU rfl ?_ |refine Aa ?_)
 (refine aC rfl ?_ ?_<;>rintro⟨⟩)
 ·have hlt:k < l.length:=by (simp only[oZ] at *;omega)
  obtain⟨x,hx⟩:=get_some (l:=l) (k:=k) hlt
  have hx':=get_map (g:=BC) hx
  refine aK ?_
  refine aS (aB ?_)
  (repeat first|refine tM rfl ?_ |(refine s4 rfl ‹_› rfl ?_ ?_;omega) |refine s2 rfl fun _ _hb=>?_ |refine aU rfl ?_ |refine Aa ?_)
  (refine aC rfl ?_ ?_<;>rintro⟨⟩)
  ·have he:s=x:=by (simp only[oZ] at *;omega)
   subst he
   (repeat first|refine tM rfl ?_ |refine aU rfl ?_ |refine Aa ?_)
   refine aR ⟨_,rfl,?_⟩
   have hm:s∈l:=List.mem_of_getElem? hx
   have hi:l.idxOf s=k:=by
    have e:l=l.take k++s::l.drop (k+1):=by rw [←C3 hx,List.take_append_drop]
    rw [e,List.idxOf_append,if_neg hs,List.idxOf_cons_self]
    simp;omega
   rw [if_pos hm,hi]
  ·have he:¬s=x:=by simpa using _hb
   have hs2:s∉l.take (k+1):=by
    rw [List.take_add_one,hx]
    simp [hs,he]
   refine aK ?_
   (repeat first|(refine sM rfl ?_ ?_;first|exact tI|simp only[oZ] at *;omega) |refine aU rfl ?_ |refine Aa ?_)
   refine⟨⟨k+1,by omega,hs2⟩,by dsimp only;(omega),[],?_⟩
   simp[cX,zC,hΓ]
 ·obtain rfl:k=l.length:=by (simp only[oZ] at *;omega)
  rw [List.take_length] at hs
  refine aE ?_
  (repeat first|refine tM rfl ?_ |refine aU rfl ?_ |refine Aa ?_)
  refine aR ⟨_,rfl,?_⟩
  rw [if_neg hs]
theorem EB(l:List W)(s:W):Pure Tryz.prog TB 148 [Bg l,eT s] (eB (decide (s∈l))):=by
 refine eN Tryz.func148 rfl (by kernel_rfl) rfl ?_;intro Γ hΓ
 (repeat' first|refine tA rfl ?_ |refine s2 rfl fun _ _hb=>?_ |refine sP rfl (Uw l s) rfl ?_ |refine aU rfl ?_ |refine Aa ?_|(refine aC rfl ?_ ?_<;>rintro⟨⟩)|refine aK ?_|refine aE ?_|refine aB ?_|refine aR ⟨_,rfl,?_⟩)
 all_goals (show E.o _=E.o _;congr;subst _hb;by_cases h:s∈l<;>simp [h])
def EL(t:AZ)(NW:W):Option AZ:=if t.cols.length=20∨NW∈t.cols then none else some ⟨t.rows,t.cols++[NW]⟩
def Gb(o:Option AZ):E:=match o with
 | some t=>.t [(true,[.d (A5 t.rows),.d (A5 t.cols)]),(false,[.d (bD true)])]
 | none=>.t [(true,[.d (.l []),.d (.l [])]),(false,[.d (bD false)])]
theorem Nc(t:AZ)(NW:W)(hr:t.rows.length≤4096)(hcl:t.cols.length≤4096):Pure Tryz.prog TB 78 [CB t,eT NW] (Gb (EL t NW)):=by
 have hc1:=Ie (TB:=TB) t.rows (by omega)
 have hc2:=Ie (TB:=TB) t.cols (by omega)
 refine Bl.E2 (Bl.ofM 2 (Nat.le_refl _) Tryz.func78 rfl rfl (by kernel_rfl) (Nat.le_of_ble_eq_true rfl) ?_);intro Γ hΓ
 (repeat first|refine aU rfl ?_)
 (refine Ag rfl ?_;refine Cq (fun _ _=>Cw rfl rfl rfl) rfl ?_)
 (repeat first|refine sN rfl ?_ |refine tM rfl ?_ |refine s2 rfl fun _ _hb=>?_ |(refine sC rfl (EB t.cols NW) ?_;intro _ _hb) |refine s3 rfl ?_ ?_<;>rintro rfl |refine aU rfl ?_ |refine Aa ?_)
 ·(refine aC rfl ?_ ?_<;>rintro⟨⟩)
  have hn:EL t NW=none:=by unfold EL;rw [if_pos (.inl (by (simp only[oZ] at *;omega)))]
  (repeat first|refine tM rfl ?_|(refine Ag rfl ?_;refine gA rfl ?_;first| refine gS (fun _ _=>AK rfl rfl (by rfl) (by rfl)) ?_) |refine aU rfl ?_ |refine Aa ?_)
  refine Ak.freeze [0] [(4,.o (.ip [.l [],.l []])),(5,eB false)] ⟨⟨_,rfl,.o (.ptr (by simp) rfl rfl rfl)⟩,⟨_,rfl,.Bb⟩,trivial⟩ ?_
  refine aR ⟨_,rfl,?_⟩
  rw [hn];rfl
 (repeat first|refine tM rfl ?_ |(refine sC rfl (EB t.cols NW) ?_;intro _ _hb) |refine Aa ?_)
 (refine aC rfl ?_ ?_<;>rintro⟨⟩)
 ·have hn:EL t NW=none:=by unfold EL;rw [if_pos (.inr (by (simp only[oZ] at *;omega)))]
  (repeat first|refine tM rfl ?_|(refine Ag rfl ?_;refine gA rfl ?_;first| refine gS (fun _ _=>AK rfl rfl (by rfl) (by rfl)) ?_) |refine aU rfl ?_ |refine Aa ?_)
  refine Ak.freeze [0] [(4,.o (.ip [.l [],.l []])),(5,eB false)] ⟨⟨_,rfl,.o (.ptr (by simp) rfl rfl rfl)⟩,⟨_,rfl,.Bb⟩,trivial⟩ ?_
  refine aR ⟨_,rfl,?_⟩
  rw [hn];rfl
 ·refine aK ?_
  refine aS ?_
  refine rG (cK [0,1,3,4,6,7,2,5,8,9,10,11] [2,5,8,10] [0,1,3,4,6,7]) (by kernel_rfl) ?_
  (repeat first|refine tA rfl ?_)
  (refine pW rfl ?_ rfl (by rfl);refine AD [] rfl rfl hc1 ⟨rfl,by simp,by simp⟩ rfl trivial ?_;rintro x0 σ1 nx1 ⟨rfl,rfl,rfl⟩ _)
  (refine pW rfl ?_ rfl (by rfl);refine AD [] rfl rfl hc2 ⟨rfl,by simp,by simp⟩ rfl trivial ?_;rintro x0 σ1 nx1 ⟨rfl,rfl,rfl⟩ _)
  (refine pW rfl ?_ rfl (by rfl);refine Aw rfl rfl rfl (by first| (simp;done)|(simp;(omega))) rfl (by intro r hr;simp at hr;subst hr;rfl) (by rfl) (Nat.le_of_ble_eq_true rfl) (by simp;omega) ?_)
  (repeat first|refine tA rfl ?_|(refine Ag rfl ?_;refine gA rfl ?_;first| refine gS (fun _ _=>AK rfl rfl (by rfl) (by rfl)) ?_) |refine Aa ?_)
  have hnm:NW∉t.cols:=by simpa using _hb
  have hn:EL t NW=some ⟨t.rows,t.cols++[NW]⟩:=by
   unfold EL
   rw [if_neg]
   rintro(h|h)
   ·(simp only[oZ] at *;omega)
   ·exact hnm h
  refine Ak.names [0,1,3] [(4,.o (.ptr 0 2 0 0)),(5,eB true)] [(0,.cells 38 2 [[.arr 1 1 0 t.rows.length,.arr 2 1 0 (t.cols.length+1)]]),(1,.cells 9 1 (t.rows.map CU)),(2,.cells 9 1 ((t.cols++[NW]).map CU))] (by intro i hi;rw [hΓ] at hi;omega) (by simp) (by simp[cX,zC,hΓ,Gi]) (by simp[cX,zC,hΓ,Gi,Ab.AX,BV,BZ,eC,Ai]) ?_
  refine Ak.Kg [1,2] [(4,.o (.ptr 0 2 0 0)),(5,eB true)] [(0,.cells 38 2 [[.d (A5 t.rows),.d (A5 (t.cols++[NW]))]])] ⟨⟨_,rfl,.Bb⟩,⟨_,rfl,.Bb⟩,trivial⟩ ⟨⟨_,rfl,by simp,.cons (.full (by simp) rfl (by simp [Function.comp_def]) (by simp)) (.cons (.full (by simp) rfl (by simp [Function.comp_def]) (by simp)) .nil)⟩,trivial⟩ ?_
  refine Ak.freeze [0] [(4,.o (.ip [A5 t.rows,A5 (t.cols++[NW])])),(5,eB true)] ⟨⟨_,rfl,.o (.ptr (by simp) rfl rfl rfl)⟩,⟨_,rfl,.Bb⟩,trivial⟩ ?_
  refine aR ⟨_,rfl,?_⟩
  rw [hn];rfl
end Go.Am
