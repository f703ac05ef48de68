/-
  More quiet operations: closures, checks for nil, tables, pieces of slices and strings, text out of bytes.
-/
import Derived.Test.YtkdilmleinnfiaaGreatDoorPart4
import Derived.Laws.IdiomStrings
import Derived.Laws.BytesArg
import Derived.Laws.Slices
import Derived.MapKept
set_option linter.constructorNameAsVariable false
set_option linter.unusedSectionVars false
set_option linter.unusedSimpArgs false
set_option linter.unusedVariables false
namespace Go.Am
open Go
def VW:List E→Option (List C)
 | []=>some []
 | .o c::l=>(VW l).map (c :: ·)
 | _=>none
theorem Ly:∀ {l:List E} {cs:List C},VW l=some cs→l=cs.map .o
 | [],cs,h=>by injection h with h;subst h;rfl
 | e::l,cs,h=>by
  cases e<;>simp only [VW] at h<;>try cases h
  simp only [Option.map_eq_some_iff] at h
  obtain⟨ds',h',rfl⟩:=h
  simp [Ly h']
class PA (P:Program) (t:TypeId):Prop where
 out:∃e,P.underlying t=some (.pointer e)
class TH (TB:Bw) (b:Nat) (vals:outParam (List Value)):Prop where
 out:(∃(cur:Array Value) (T:TypeId) (fr:_),(b,Obj.cells cur T fr)∈TB∧∀(i:Nat) v,vals[i]? = some v→cur[i]? = some v)∧vals.all Lq=true
section
variable {P:Program}{TB:Bw}{Γ:Ctx}{d:Option Tmp}{ty:TypeId}{pos:String}{af:Array Edge}{g:Option (Nat×Bool)}{f:Env}{σ:Ab}{nx:Nat}
variable {K:E→Ab→Nat→Prop}
theorem YT{α:Type}{t e:TypeId}{x:Operand}{l:List α}{g1:α→List D}{k b:Nat}[hl:B3 P t e k b](hx:ev f x=some (.o (.d (.l (l.map g1))))):AY P TB Γ ⟨d,.call ⟨.builtin .len,#[x],#[t]⟩,ty,pos,af,g⟩ f σ nx (eI .i64 l.length):=by
 have:=Vp (t:=t) (P:=P) (TB:=TB) (Γ:=Γ) (d:=d) (ty:=ty) (pos:=pos) (af:=af) (g:=g) (σ:=σ) (nx:=nx) hx
 rwa [List.length_map] at this
theorem YZ{t yt:TypeId}{x y:Operand}{k:IntKind}{m n:Int}(hx:ev f x=some (eI k m))(hy:ev f y=some (eI k n))(h0:0≤m)(hn:0 < n) :
 AY P TB Γ ⟨d,.binOp .rem t x y yt,ty,pos,af,g⟩ f σ nx (eI k (m % n)):=aQ hx hy (by omega) (Int.tmod_eq_emod_of_nonneg h0)
theorem YY{t yt:TypeId}{x y:Operand}{m n:Int}(hx:ev f x=some (eI .i64 m))(hy:ev f y=some (eI .i64 n))(h0:0≤m)(hm:m≤9223372036854775807)(hn:0 < n) :
 AY P TB Γ ⟨d,.binOp .quo t x y yt,ty,pos,af,g⟩ f σ nx (eI .i64 (m / n)):=aP hx hy (by omega) (by
  rw [Int.tdiv_eq_ediv_of_nonneg h0]
  have h1:0≤m / n:=Int.ediv_nonneg h0 (by omega)
  have h2:m / n≤m:=Int.ediv_le_self _ h0
  exact IntWalk.i64_in _ (by omega))
def notNil:Operand→Bool
 | .const (.slice none 0 0)=>false
 | _=>true
theorem cg{gg:FuncId}{caps:Array Operand}{es:List E}{cs:List C}(hes:Hz f caps.toList=some es)(hc:VW es=some cs):AY P TB Γ ⟨d,.makeFunc (.func gg) #[] caps,ty,pos,af,g⟩ f σ nx (.o (.fn gg cs)):=
 AH fun V ρ h1 _=>by
  refine⟨.func (.func gg) #[] (caps.map ρ),by simp [execOp,Instr.makeFunc,go_sem],AI.fn ?_ fun j c v hj hv=>?_⟩
  ·have h2:=Cb hes
   have h3:=congrArg List.length (Ly hc)
   simp at h2 h3 ⊢;omega
  ·have h2:=Gp (f:=f) (V:=V) (ρ:=ρ) (fun y hy e he=>h1.get (by simp [Op.operands];simpa using hy) he) hes j (.o c) v (by rw [Ly hc];simp [hj]) (by rw [←Array.toList_map];simpa using hv)
   exact h2
theorem Xe{x:Operand}{cs:List D}(hx:ev f x=some (.o (.ip cs))):AY P TB Γ ⟨d,.nilCheck x,ty,pos,af,g⟩ f σ nx (.o (.ip cs)):=
 AH fun V ρ h1 _=>by
  have h2:=h1.get (by simp [Op.operands]) hx
  generalize hv:ρ x=v at h2
  refine⟨v,?_,h2⟩
  obtain⟨h2⟩:=h2
  cases h2
  simp [execOp,hv,go_sem]
theorem YX{x:Operand}{id k i j:Nat}(hx:ev f x=some (.o (.ptr id k i j))):AY P TB Γ ⟨d,.nilCheck x,ty,pos,af,g⟩ f σ nx (.o (.ptr id k i j)):=
 AH fun V ρ h1 _=>by
  have h2:=h1.get (by simp [Op.operands]) hx
  generalize hv:ρ x=v at h2
  refine⟨v,?_,h2⟩
  cases h2
  simp [execOp,hv,go_sem]
theorem Xc{x:Operand}{gg:FuncId}{cs:List C}(hx:ev f x=some (.o (.fn gg cs))):AY P TB Γ ⟨d,.nilCheck x,ty,pos,af,g⟩ f σ nx (.o (.fn gg cs)):=
 AH fun V ρ h1 _=>by
  have h2:=h1.get (by simp [Op.operands]) hx
  generalize hv:ρ x=v at h2
  refine⟨v,?_,h2⟩
  obtain⟨vs,rfl,_⟩:=Jf h2
  simp [execOp,hv,go_sem]
theorem Pc{t e:TypeId}{a:Option Addr}(he:P.underlying t=some (.pointer e))(w:World):(Op.equal t (.pointer a) (.pointer none)).run P w=.ok a.isNone w:=by
 unfold Op.equal Op.maxDepth
 rw [show 10000=9999+1 from rfl,Op.equalIn]
 cases a<;>simp [run_underlying he,go_sem]
theorem Te{t yt:TypeId}{x y:Operand}{cs:List D}[hp:PA P t](hx:ev f x=some (.o (.ip cs)))(hy:ev f y=some (.o (.d (.v (.pointer none))))):AY P TB Γ ⟨d,.binOp .eql t x y yt,ty,pos,af,g⟩ f σ nx (eB false):=
 AH fun V ρ h1 _=>by
  have h2:=h1.get (by simp [Op.operands]) hx
  have h3:ρ y=.pointer none:=AI.val (h1.get (by simp [Op.operands]) hy)
  generalize hv:ρ x=v at h2
  obtain⟨h2⟩:=h2
  obtain⟨e,he⟩:=hp.out
  cases h2
  rename_i b o vs hb h4 h5
  refine⟨.bool false,?_,.d (.v rfl)⟩
  have h6:binOp .eql t (.pointer (some ⟨b,o,none⟩)) (.pointer none)=(do pure (.bool (←Op.equal t (.pointer (some ⟨b,o,none⟩)) (.pointer none)))):=rfl
  have h7:eqGuard .eql t x y (.pointer (some ⟨b,o,none⟩)) (.pointer none)=pure ():=rfl
  have h8:=Pc (a:=some ⟨b,o,none⟩) he V.w
  have h9:execOp ρ ⟨d,.binOp .eql t x y yt,ty,pos,af,g⟩=(do let v ←(do eqGuard .eql t x y (ρ x) (ρ y);binOp .eql t (ρ x) (ρ y));pure (.value v)):=rfl
  rw [h9,hv,h3,h6,h7]
  simp [h8,go_sem]
theorem Qn{t yt:TypeId}{x y:Operand}[hp:PA P t](hx:ev f x=some (.o (.d (.v (.pointer none)))))(hy:ev f y=some (.o (.d (.v (.pointer none))))):AY P TB Γ ⟨d,.binOp .eql t x y yt,ty,pos,af,g⟩ f σ nx (eB true):=
 Bp hx hy rfl fun w=>by
  obtain⟨e,he⟩:=hp.out
  have h6:binOp .eql t (.pointer none) (.pointer none)=(do pure (.bool (←Op.equal t (.pointer none) (.pointer none)))):=rfl
  have h7:eqGuard .eql t x y (.pointer none) (.pointer none)=pure ():=rfl
  have h8:=Pc (a:=none) he w
  rw [h6,h7]
  simp [h8,go_sem]
def ZH(c:UInt8):List D:=[.v (.int .u8 c.toNat)]
def Ek(c:UInt8):List C:=[.d (.v (.int .u8 c.toNat))]
class QO (P:Program) (t:TypeId):Prop where
 out:∃e,P.underlying t=some (.slice e)∧P.underlying e=some (.int .u8)
theorem Ig{src dst:TypeId}(hs:QO P src)(hd:B6 P dst)(w:World):(convert src dst (.slice none 0 0)).run P w=.ok (.string ⟨#[]⟩) w:=by
 obtain⟨e,h1,h2⟩:=hs.out
 exact run_convert_bytes_nil w src e h1 h2 0 0 dst hd.out
theorem NH{src dst:TypeId}{x:Operand}{rows:List (List D)}(bs:List UInt8)[hs:QO P src][hd:B6 P dst](hx:ev f x=some (.o (.d (.l rows))))(hr:rows=bs.map ZH) :
 AY P TB Γ ⟨d,.convert src dst x,ty,pos,af,g⟩ f σ nx (.o (.d (.v (.string ⟨bs.toArray⟩)))):=
 AH fun V ρ h1 _=>by
  have h2:=h1.get (by simp [Op.operands]) hx
  generalize hv:ρ x=v at h2
  refine⟨.string ⟨bs.toArray⟩,?_,.d (.v rfl)⟩
  have h9:execOp ρ ⟨d,.convert src dst x,ty,pos,af,g⟩=(do let v ←convert src dst (ρ x);pure (.value v)):=rfl
  rw [h9,hv]
  obtain⟨h2⟩:=h2
  cases h2 with
  | nil=>
   have:bs=[]:=by simpa using hr.symm
   subst this
   simp [Ig hs hd,go_sem]
  | @e a cap h3=>
   have:bs=[]:=by simpa using hr.symm
   subst this
   obtain⟨e,h8,h10⟩:=hs.out
   have h11:=run_convert_bytes_back (P:=P) V.w src dst e a cap [] h8 h10 hd.out fun j hj=>by simp at hj
   have h11:(convert src dst (.slice (some a) 0 cap)).run P V.w=_:=h11
   simp [h11,go_sem]
  | @l _ b o k cap vs hb h3 h4 h5 h6 h7=>
   obtain⟨e,h8,h10⟩:=hs.out
   have hl:rows.length=bs.length:=by rw [hr];simp
   have h11:=run_convert_bytes_back (P:=P) V.w src dst e ⟨b,o,none⟩ cap bs h8 h10 hd.out fun j hj=>by
    have hrow:rows[j]? = some (ZH bs[j]):=by rw [hr];simp [hj]
    have h12:=h6 j _ 0 _ hrow rfl
    have h13:=h7 j _ 0 _ hrow rfl
    have hk:k=1:=(h5 j _ hrow).symm
    subst hk
    rw [Bu]
    have h14:vs j 0=.int .u8 (bs[j].toNat:Int):=h13.val
    rw [h14] at h12
    simpa using h12
   rw [hl]
   simp [h11,go_sem]
theorem RO{src dst:TypeId}{x:Operand}{id off len:Nat}{T:TypeId}{rows:List (List C)}(bs:List UInt8)[hs:QO P src][hd:B6 P dst](hx:ev f x=some (.o (.arr id 1 off len)))(ho:look σ id=some (.cells T 1 rows))
 (hle:off+len≤rows.length) (hr:(rows.drop off).take len=bs.map Ek):AY P TB Γ ⟨d,.convert src dst x,ty,pos,af,g⟩ f σ nx (.o (.d (.v (.string ⟨bs.toArray⟩)))):=
 AH fun V ρ h1 hi=>by
  have h2:=h1.get (by simp [Op.operands]) hx
  generalize hv:ρ x=v at h2
  refine⟨.string ⟨bs.toArray⟩,?_,.d (.v rfl)⟩
  have h9:execOp ρ ⟨d,.convert src dst x,ty,pos,af,g⟩=(do let v ←convert src dst (ρ x);pure (.value v)):=rfl
  rw [h9,hv]
  have hlen:bs.length=len:=by
   have:=congrArg List.length hr
   simp at this;omega
  have h2:AI V (.arr id 1 off len) v:=h2
  cases h2 with
  | nil h3 h4=>
   have:bs=[]:=List.length_eq_zero_iff.1 hlen
   subst this
   simp [Ig hs hd,go_sem]
  | arr h3 hnl h4=>
   rcases hi.st.obj id _ ho with ⟨h5,_⟩|⟨_,cur,h5,h6,h7,h8,h10,h11⟩
   ·exact absurd h5 hnl
   ·obtain⟨e,h12,h13⟩:=hs.out
    subst hlen
    have h14:=run_convert_bytes_back (P:=P) V.w src dst e ⟨V.ρ id,off*1,none⟩ (V.cap id - off) bs h12 h13 hd.out fun j hj=>by
     have hrow:rows[off+j]? = some (Ek bs[j]):=by
      have h15:((rows.drop off).take bs.length)[j]? = some (Ek bs[j]):=by rw [hr];simp [hj]
      rw [List.getElem?_take,if_pos hj,List.getElem?_drop] at h15
      exact h15
     obtain⟨u,h15,h16⟩:=h11 _ _ 0 _ hrow rfl
     have h16:=h16.val
     subst h16
     rw [Bu]
     simpa [World.cell?,h5] using h15
    rw [Sem.run_bind,h14];rfl
end
inductive TE (e:D):D→Prop
 | refl:TE e e
 | l {rows:List (List D)} {i j:Nat} {r:List D} {x:D}:rows[i]? = some r→r[j]? = some x→TE e x→TE e (.l rows)
 | p {cs:List D} {j:Nat} {x:D}:cs[j]? = some x→TE e x→TE e (.p cs)
theorem TE.len{I:Nat→Prop}{w:World}{rows:List (List D)}{d:D}(h:TE (.l rows) d):∀ {v:Value},Cn I w d v→rows.length≤maxLen:=by
 induction h with
 | refl=>
  intro v h
  cases h with
  | nil=>simp
  | e=>simp
  | l _ h1 h2=>omega
 | l hr hx _ ih=>
  intro v h
  cases h with
  | nil=>simp at hr
  | e=>simp at hr
  | l _ _ _ _ _ h6=>exact ih (h6 _ _ _ _ hr hx)
 | p hx _ ih=>
  intro v h
  cases h with
  | p _ _ h2=>exact ih (h2 _ _ hx)
def bJ(d:D):E→Prop
 | .o (.d x)=>TE d x
 | .a cs=>∃(j:Nat) (x:D),cs[j]? = some (.d x)∧TE d x
 | _=>False
theorem bJ.len{V:View}{rows:List (List D)}{e:E}{v:Value}(h:bJ (.l rows) e)(hr:Bc V e v):rows.length≤maxLen:=by
 cases e with
 | o c=>
  cases c with
  | d x=>cases hr with|d hr=>exact TE.len h hr
  | _=>exact h.elim
 | a cs=>
  obtain⟨j,x,hj,hx⟩:=h
  obtain⟨vs,_,h1,h2⟩:=hr
  have hlt:j < vs.size:=by rw [h1];exact(List.getElem?_eq_some_iff.1 hj).1
  cases h2 j _ _ hj (Array.getElem?_eq_getElem hlt) with
  | d h3=>exact TE.len hx h3
 | t=>exact h.elim
 | e=>exact h.elim
theorem Ak.bound{P:Program}{TB:Bw}{Γ:Ctx}{N:Nat}{c:Code}{Q:Exit→Env→Ab→Nat→Prop}{f:Env}{σ:Ab}{nx:Nat}(t:Nat){e:E}(ht:f t=some e)
 (h:(∀rows,bJ (.l rows) e→rows.length≤9223372036854775807)→Ak P TB Γ N c Q f σ nx):Ak P TB Γ N c Q f σ nx:=by
 intro V a hr
 exact h (fun rows hi=>hi.len (hr.env t e ht)) V a hr
section
variable {P:Program}{TB:Bw}{Γ:Ctx}{ops:Array Oper}{fl:Fl}{i n:Nat}{L:List (Nat×E)}{σ:Ab}{nx:Nat}{K:Env→Ab→Nat→Prop}{d:Option Tmp}{ty:TypeId}{pos:String}{af:Array Edge}{g:Option (Nat×Bool)}
theorem ZV(id k:Nat)(o:O)(r:Ab):kill id ((k,o)::r)=if k=id then kill id r else (k,o)::kill id r:=by
 simp only [kill]
 by_cases h:k=id
 ·subst h;simp
 ·have:Nat.beq k id=false:=by
   cases hb:Nat.beq k id
   ·rfl
   ·exact absurd (Nat.eq_of_beq_eq_true hb) h
  rw [this,cond_false,if_neg h]
end
end Go.Am
namespace Go.Am
theorem cX:((∀r f,CI r f []=True)∧(∀r f t e L,CI r f ((t,e)::L)=(f t=some (e.AX r)∧CI r f L))∧(∀r σ,AS r σ []=True)∧(∀r σ id o L,AS r σ ((id,o)::L)=(look σ (r id)=some (o.AX r)∧AS r σ L)))∧
 ((∀(α:Type) (k:Nat) (x:α) (r:List (Nat×α)) (i:Nat),look ((k,x)::r) i=if k=i then some x else look r i)∧(∀l nx i,nm l nx i=match l[i]? with|some j=>j|none=>nx+i)∧(∀l nx i,Gi l nx i=match l[i]? with|some j=>j|none=>nx+(i - l.length)))∧
 ((∀r c,E.AX r (.o c)=.o (C.AX r c))∧(∀r cs,E.AX r (.a cs)=.a (C.BA r cs))∧(∀r xs,E.AX r (.t xs)=.t (xs.map fun x=>(x.1,C.BA r x.2)))∧(∀r,E.AX r .e=.e))∧
 ((∀r x,C.AX r (.d x)=.d x)∧(∀r id k off len,C.AX r (.arr id k off len)=.arr (r id) k off len)∧(∀r id k i j,C.AX r (.ptr id k i j)=.ptr (r id) k i j)∧(∀r f cap,C.AX r (.fn f cap)=.fn f (C.BA r cap))∧(∀r id,C.AX r (.mp id)=.mp (r id))∧(∀r f l,C.AX r (.mv f l)=.mv f (C.BA r l))∧(∀r,C.BA r []=[])∧(∀r c l,C.BA r (c::l)=C.AX r c::C.BA r l))∧
 ((∀r T k rows,O.AX r (.cells T k rows)=.cells T k (rows.map (C.BA r)))∧(∀r es,O.AX r (.mp es)=.mp es)∧(∀r T l,O.AX r (.sld T l)=.sld T l)∧(∀r,Ab.AX r []=[])∧(∀r i o σ,Ab.AX r ((i,o)::σ)=(r i,o.AX r)::Ab.AX r σ))∧
 ((∀id,kill id []=[])∧(∀id k o r,kill id ((k,o)::r)=if k=id then kill id r else (k,o)::kill id r)∧(∀σ,BV [] σ=σ)∧(∀id r σ,BV (id::r) σ=BV r (kill id σ)))∧
 ((∀z,BZ [] z=z)∧(∀off cs r z,BZ ((off,cs)::r) z=BZ r (Ai z off cs))∧(∀r j cs,Ai r j cs=r.take j++cs++r.drop (j+cs.length))∧(∀c,eC (.o c)=[c])∧(∀cs,eC (.a cs)=cs)∧(∀xs,eC (.t xs)=[])∧eC .e=[.d (.l [])])∧
 (∀k,BN k []=[])∧(∀k e l,BN k (e::l)=(k,e)::BN (k+1) l)∧∀(α β δ:Type) (f:β→δ) (g:α→β),f∘g=fun x=>f (g x):=by
 refine⟨⟨fun _ _=>rfl,fun _ _ _ _ _=>rfl,fun _ _=>rfl,fun _ _ _ _ _=>rfl⟩,⟨fun _=>Ax,fun _ _ _=>rfl,fun _ _ _=>rfl⟩,⟨fun _ _=>rfl,fun _ _=>rfl,fun _ _=>rfl,fun _=>rfl⟩,⟨fun _ _=>by simp [C.AX],fun _ _ _ _ _=>by simp [C.AX],fun _ _ _ _ _=>by simp [C.AX],fun _ _ _=>by simp [C.AX],fun _ _=>by simp [C.AX],fun _ _ _=>by simp [C.AX],fun _=>by simp [C.BA],fun _ _ _=>by simp [C.BA]⟩,⟨fun _ _ _ _=>rfl,fun _ _=>rfl,fun _ _ _=>rfl,fun _=>rfl,fun _ _ _ _=>rfl⟩,⟨fun _=>rfl,fun _ _ _ _=>ZV _ _ _ _,fun _=>rfl,fun _ _ _=>rfl⟩,⟨fun _=>rfl,fun _ _ _ _=>rfl,fun _ _ _=>rfl,fun _=>rfl,fun _=>rfl,fun _=>rfl,rfl⟩,fun _=>rfl,fun _ _ _=>rfl,fun _ _ _ _ _=>rfl⟩
def bC:List Nat→Bool
 | []=>true
 | x::r=>!(r.any (Nat.beq x)) && bC r
theorem UR:∀ {l:List Nat},bC l=true→l.Nodup
 | [],_=>List.nodup_nil
 | x::r,h=>by
  simp only [bC,Bool.and_eq_true,Bool.not_eq_true',List.any_eq_false] at h
  exact List.nodup_cons.2 ⟨fun hm=>h.1 x hm (Nat.beq_refl x),UR h.2⟩
def bZ(l:List Nat)(m:Nat):Bool:=(List.range m).all (fun i=>l[i]? == some i) && bC l
theorem cA{α:Type}{a:α}{l m:List α}:a::l++m=a::(l++m):=rfl
theorem cB{α:Type}{m:List α}:[]++m=m:=rfl
theorem rl{l:List Nat}{m k:Nat}(h:k=m)(hl:bZ l m=true):(∀i,i < k→l[i]? = some i)∧l.Nodup:=by
 subst h
 unfold bZ at hl
 rw [Bool.and_eq_true,List.all_eq_true] at hl
 exact⟨fun i hi=>by simpa using hl.1 i (List.mem_range.2 hi),UR hl.2⟩
theorem Eb{l:List Nat}{m k n:Nat}(h:k=m)(hl:bZ l m=true)(hn:l.length=n):(∀i,i < k→l[i]? = some i)∧l.Nodup∧l.length=n:=⟨(rl h hl).1,(rl h hl).2,hn⟩
theorem rg{m k n:Nat}(h:k=m)(hn:Nat.ble m n=true):(∀i,i < k→(List.range n)[i]? = some i)∧(List.range n).Nodup∧(List.range n).length=n:=by
 subst h
 have:=Nat.le_of_ble_eq_true hn
 exact⟨fun i hi=>List.getElem?_range (by omega),List.nodup_range,List.length_range⟩
def Jk(V:View)(m:Nat):View:={ V with nx:=m }
theorem Rv{V:View}{m:Nat}(h:m≤V.nx):Ext (Jk V m) V:=⟨fun _ h=>h,fun _ _=>rfl,Nat.le_refl _,fun _ _=>rfl,fun _ _=>rfl,fun _ _=>Iff.rfl,h⟩
theorem VT{V V1:View}{l:List Nat}{m:Nat}(hm:m≤l.length)(e:Ext (Jk (V.AX (nm l V.nx) l.length) m) V1):Ext (V.AX (nm (l.take m) V.nx) (l.take m).length) V1:=by
 have hlm:(l.take m).length=m:=by rw [List.length_take];exact Nat.min_eq_left hm
 have hnm:∀id,id < m→nm (l.take m) V.nx id=nm l V.nx id:=fun id hid=>by
  unfold nm;rw [List.getElem?_take,if_pos hid]
 refine⟨e.i,e.heap,e.size,fun id hid=>?_,fun id hid=>?_,fun id hid=>?_,by show (l.take m).length≤_;rw [hlm];exact e.nx⟩
 ·have hid:id < m:=by have:id < (l.take m).length:=hid;omega
  show _=V.ρ (nm (l.take m) V.nx id)
  rw [hnm id hid];exact e.ρ id hid
 ·have hid:id < m:=by have:id < (l.take m).length:=hid;omega
  show _=V.cap (nm (l.take m) V.nx id)
  rw [hnm id hid];exact e.cap id hid
 ·have hid:id < m:=by have:id < (l.take m).length:=hid;omega
  show _↔V.nl (nm (l.take m) V.nx id)
  rw [hnm id hid];exact e.nl id hid
section
variable (P:Program)(TB:Bw)
def Bl(g:FuncId)(m:Nat)(σ:Ab)(nx:Nat)(args:List E)(post:E→Ab→Nat→Prop):Prop:=
 XN P g∧∀V vs S,Good TB V σ nx S→LJ V args vs→Calls P g vs V.w fun e w'=>∃V' v x σ',e=.returned v∧V'.w=w'∧Inv TB (EO V (Jk V m) σ S) V' σ'∧Bc V' x v∧post x σ' V'.nx
end
section
variable {P:Program}{TB:Bw}{Γ:Ctx}{d:Option Tmp}{ty:TypeId}{pos:String}{af:Array Edge}{g:Option (Nat×Bool)}{f:Env}{σ:Ab}{nx:Nat}{N:Nat}
variable {K:E→Ab→Nat→Prop}
theorem So{V V1:View}{l:List Nat}{m:Nat}{σ0 σ1:Ab}(h:Inv TB Γ V σ)(hl:∀i∈l,i < V.nx)(hS:AS (nm l V.nx) σ σ0)(hm:m≤l.length)
 {S:PD} (hSS:LK TB V σ S) (hSJ:∀b,S.J b→Γ.J b∨Γ.V.w.heap.size≤b∨Γ.F b) (hSB:∀b,S.B b→Γ.V.w.heap.size≤b∨Γ.F b)
 (h1:Inv TB (EO (V.AX (nm l V.nx) l.length) (Jk (V.AX (nm l V.nx) l.length) m) σ0 S) V1 σ1) :
 Inv TB Γ (E6 V V1 (l.take m)) (σ1.AX (Gi (l.take m) V.nx)++BV l σ)∧Ext V (E6 V V1 (l.take m))∧PC V1 (E6 V V1 (l.take m)) (Gi (l.take m) V.nx):=by
 have hx:=VT hm h1.ext
 have hp:=Hu (l:=l.take m) (fun i hi=>hl i (List.mem_of_mem_take hi)) hx
 have hlen:(l.take m).length≤V1.nx:=hx.nx
 have hsz:V.w.heap.size≤V1.w.heap.size:=h1.ext.size
 have hfoot:∀b,C5 (V.AX (nm l V.nx) l.length) σ0 b→∃i o,i∈l∧look σ i=some o∧¬V.nl i∧DC V i o b:=by
  rintro b ⟨j,o,hj,hnl,hb⟩
  have h2:=hS.get j o hj
  have h3:=OV (h.st.lt _ _ h2)
  have h4:=FJ (nx:=V.nx) h3
  refine⟨l[j],o.AX _,List.getElem_mem h3,by rw [←h4];exact h2,?_,?_⟩
  ·have:¬V.nl (nm l V.nx j):=hnl
   rwa [h4] at this
  ·have h5:=B9.1 hb
   rwa [h4] at h5
 have hfl:∀b,C5 (V.AX (nm l V.nx) l.length) σ0 b→b < V.w.heap.size∧¬V.I b∧(Γ.V.w.heap.size≤b∨Γ.F b):=by
  intro b hb
  obtain⟨i,o,_,h3,h4,h5⟩:=hfoot b hb
  exact⟨(h.st.obj i o h3).blt h4 h5,h.st.free i o h3 h4 b h5,h.live i o h3 h4 b h5⟩
 have hkeep:∀i o,i∉l→look σ i=some o→¬V.nl i→∀b,DC V i o b→¬C5 (V.AX (nm l V.nx) l.length) σ0 b:=by
  intro i o hi ho hnl b hb hf
  obtain⟨j,o',h3,h4,h5,h6⟩:=hfoot _ hf
  exact h.st.inj j i o' o h4 ho (fun e=>hi (e ▸ h3)) h5 hnl b h6 hb
 have hold:∀b,b < V.w.heap.size→¬C5 (V.AX (nm l V.nx) l.length) σ0 b→¬S.B b→V1.w.heap[b]? = V.w.heap[b]?:=fun b hb hf hB=>h1.old b hb fun h=>h.elim hf hB
 have e:Ext V (E6 V V1 (l.take m)):=by
  refine⟨fun b hb=>h1.ext.i b hb,fun b hb=>h1.ext.heap b hb,hsz,fun i hi=>?_,fun i hi=>?_,fun i hi=>?_,Nat.le_add_right _ _⟩
  ·show (if _ then _ else _)=_;rw [if_pos hi]
  ·show (if _ then _ else _)=_;rw [if_pos hi]
  ·show (if _ then _ else _)↔_;rw [if_pos hi]
 have hcase:∀i o,look (σ1.AX (Gi (l.take m) V.nx)++BV l σ) i=some o→(∃j o0,j < V1.nx∧Gi (l.take m) V.nx j=i∧look σ1 j=some o0∧o=o0.AX (Gi (l.take m) V.nx))∨(i∉l∧i < V.nx∧look σ i=some o):=by
  intro i o ho
  rcases GJ ho with h2|h2
  ·obtain⟨j,o0,h3,h4,h5⟩:=KZ h2
   exact .inl ⟨j,o0,h1.st.lt j o0 h4,h3,h4,h5⟩
  ·obtain⟨h3,h4⟩:=A9 l σ i o h2
   exact .inr ⟨h3,h.st.lt i o h4,h4⟩
 have hnlr:∀i,i < V.nx→((E6 V V1 (l.take m)).nl i↔V.nl i):=fun i hi=>e.nl i hi
 have hnew:∀j o0,look σ1 j=some o0→¬V1.nl j→∀i o,i∉l→look σ i=some o→¬V.nl i→∀b,DC V1 j o0 b→¬DC V i o b:=by
  intro j o0 hj hnj i o hi ho hni b hb hb'
  rcases h1.live j o0 hj hnj b hb with h2|h2
  ·have:=(h.st.obj i o ho).blt hni hb'
   have h2:V.w.heap.size≤b:=h2
   omega
  ·rcases h2 with h2|h2
   ·exact hkeep i o hi ho hni b hb' h2
   ·exact hSS.ap b ⟨i,o,ho,hni,hb'⟩ h2
 refine⟨⟨h1.os.trans h.os,h1.tape.trans h.tape,h1.output.trans h.output,?_,h1.iLt,?_,h.ext.trans e,⟨?_,?_,?_,?_⟩,?_,h1.tabs,?_⟩,e,hp⟩
 ·intro b hb hf
  have:¬C5 (V.AX (nm l V.nx) l.length) σ0 b:=fun hb'=>by
   rcases(hfl b hb').2.2 with h2|h2
   ·omega
   ·exact hf h2
  exact(hold b (Nat.lt_of_lt_of_le hb h.ext.size) this fun hx=>(hSB b hx).elim (fun h=>by omega) hf).trans (h.old b hb hf)
 ·intro b hb
  rcases h1.iNew b hb with h2|h2|h2
  ·exact h.iNew b h2
  ·exact .inr (.inl (Nat.le_trans h.ext.size h2))
  ·exact .inr (h2.elim (fun h2=>(hfl b h2).2.2) (hSB b))
 ·intro i o ho
  rcases hcase i o ho with ⟨j,o0,h2,rfl,h4,rfl⟩|⟨h2,h3,h4⟩
  ·exact(h1.st.obj j o0 h4).push hp h2
  ·exact(h.st.obj i o h4).Bb e h3 fun hn b hb=>hold _ ((h.st.obj i o h4).blt hn hb) (hkeep i o h2 h4 hn b hb) (hSS.ap b ⟨i,o,h4,hn,hb⟩)
 ·intro i o ho
  rcases hcase i o ho with ⟨j,o0,h2,rfl,h4,rfl⟩|⟨h2,h3,h4⟩
  ·exact hp.lt j h2
  ·exact Nat.lt_of_lt_of_le h3 e.nx
 ·intro i o ho hn b hb hI
  rcases hcase i o ho with ⟨j,o0,h2,rfl,h4,rfl⟩|⟨h2,h3,h4⟩
  ·exact h1.st.free j o0 h4 (fun h=>hn ((hp.nl j h2).2 h)) b ((BU hp h2).1 hb) hI
  ·have hn':¬V.nl i:=fun h=>hn ((hnlr i h3).2 h)
   have hb:=(AG e h3).1 hb
   rcases h1.iNew _ hI with h5|h5|h5
   ·exact h.st.free i o h4 hn' b hb h5
   ·have:=(h.st.obj i o h4).blt hn' hb
    have h5:V.w.heap.size≤b:=h5
    omega
   ·rcases h5 with h5|h5
    ·exact hkeep i o h2 h4 hn' b hb h5
    ·exact hSS.ap b ⟨i,o,h4,hn',hb⟩ h5
 ·intro i i' o o' ho ho' hne hn hn' b hb hb'
  rcases hcase i o ho with ⟨j,o0,h2,rfl,h4,rfl⟩|⟨h2,h3,h4⟩<;>rcases hcase i' o' ho' with ⟨j',o0',h2',rfl,h4',rfl⟩|⟨h2',h3',h4'⟩
  ·exact h1.st.inj j j' o0 o0' h4 h4' (fun e=>hne (by rw [e])) (fun h=>hn ((hp.nl j h2).2 h)) (fun h=>hn' ((hp.nl j' h2').2 h)) b ((BU hp h2).1 hb) ((BU hp h2').1 hb')
  ·exact hnew j o0 h4 (fun h=>hn ((hp.nl j h2).2 h)) i' o' h2' h4' (fun h=>hn' ((hnlr i' h3').2 h)) b ((BU hp h2).1 hb) ((AG e h3').1 hb')
  ·exact hnew j' o0' h4' (fun h=>hn' ((hp.nl j' h2').2 h)) i o h2 h4 (fun h=>hn ((hnlr i h3).2 h)) b ((BU hp h2').1 hb') ((AG e h3).1 hb)
  ·exact h.st.inj i i' o o' h4 h4' hne (fun h=>hn ((hnlr i h3).2 h)) (fun h=>hn' ((hnlr i' h3').2 h)) b ((AG e h3).1 hb) ((AG e h3').1 hb')
 ·intro i o ho hn b hb
  rcases hcase i o ho with ⟨j,o0,h2,rfl,h4,rfl⟩|⟨h2,h3,h4⟩
  ·rcases h1.live j o0 h4 (fun h=>hn ((hp.nl j h2).2 h)) b ((BU hp h2).1 hb) with h5|h5
   ·exact .inl (Nat.le_trans h.ext.size h5)
   ·exact h5.elim (fun h5=>(hfl _ h5).2.2) (hSB b)
  ·exact h.live i o h4 (fun h=>hn ((hnlr i h3).2 h)) b ((AG e h3).1 hb)
 ·obtain⟨S1,k1,k2,k3⟩:=h1.hid
  refine⟨S1,⟨k1.r,k1.ji,k1.bi,fun b ⟨i,o,ho,hn,hb⟩ hB=>?_⟩,fun b hb=>?_,fun b hb=>?_⟩
  ·rcases hcase i o ho with ⟨j,o0,h2,rfl,h4,rfl⟩|⟨h2,h3,h4⟩
   ·exact k1.ap b ⟨j,o0,h4,fun h=>hn ((hp.nl j h2).2 h),(BU hp h2).1 hb⟩ hB
   ·have hn':¬V.nl i:=fun h=>hn ((hnlr i h3).2 h)
    have hb:=(AG e h3).1 hb
    rcases k3 b hB with h5|h5|h5
    ·have:=(h.st.obj i o h4).blt hn' hb
     have h5:V.w.heap.size≤b:=h5
     omega
    ·exact hkeep i o h2 h4 hn' b hb h5
    ·exact hSS.ap b ⟨i,o,h4,hn',hb⟩ h5
  ·rcases k2 b hb with h5|h5|h5|h5
   ·exact hSJ b h5
   ·exact .inr (.inl (Nat.le_trans h.ext.size h5))
   ·exact .inr (hfl _ h5).2.2
   ·exact .inr (hSB b h5)
  ·rcases k3 b hb with h5|h5|h5
   ·exact .inl (Nat.le_trans h.ext.size h5)
   ·exact(hfl _ h5).2.2
   ·exact hSB b h5
theorem GZ{x:Operand}{args:Array Operand}{tys:Array TypeId}{gg:FuncId}{cap:List C}{es es0:List E}{σ0:Ab}{n0:Nat}{post:E→Ab→Nat→Prop}(l:List Nat)(hx:ev f x=some (.o (.fn gg cap)))(hes:Hz f args.toList=some es)
 (m:Nat) (hs:Bl P TB gg m σ0 n0 es0 post) (hm:m≤n0) (hl:l.length=n0∧l.Nodup∧∀i∈l,i < nx) (ha:es++cap.map .o=Dn (nm l nx) es0) (hS:AS (nm l nx) σ σ0)
 (hK:∀x0 σ1 nx1,post x0 σ1 nx1→m≤nx1→K (x0.AX (Gi (l.take m) nx)) (σ1.AX (Gi (l.take m) nx)++BV l σ) (nx+(nx1 - m))) :
 B2 P TB Γ ⟨d,.call ⟨.value x,args,tys⟩,ty,pos,af,g⟩ f σ nx K:=by
 obtain⟨hl0,hn,hlt⟩:=hl
 subst hl0
 intro V a h1 h2 h3
 subst h3
 have h1:=h1.Gz
 unfold Oper.wp
 generalize a.eval=ρ at h1 ⊢
 obtain⟨vs,hv,hcap⟩:=Jf (h1.get (x:=x) (by simp [Op.operands,Call.operands]) hx)
 rw [Ib hs.1 hv]
 have hel:=Cb hes
 have hargs0:LJ V (es++cap.map .o) (args.map ρ++vs):=by
  refine⟨by simp [hcap.1,hel],fun j e v hj hv=>?_⟩
  have hsz:(args.map ρ).size=es.length:=by simp [hel]
  by_cases hlt:j < es.length
  ·rw [List.getElem?_append_left hlt] at hj
   rw [Array.getElem?_append_left (by rw [hsz];exact hlt)] at hv
   exact Gp (fun y hy e he=>h1.get (by simp [Op.operands,Call.operands];right;simpa using hy) he) hes j e v hj (by rw [←Array.toList_map];simpa using hv)
  ·rw [List.getElem?_append_right (by omega)] at hj
   rw [Array.getElem?_append_right (by rw [hsz];omega),hsz] at hv
   simp only [List.getElem?_map,Option.map_eq_some_iff] at hj
   obtain⟨c,hc,rfl⟩:=hj
   exact hcap.2 _ c v hc hv
 have hr:∀id,nm l V.nx id < V.nx→id < l.length:=fun id=>OV
 have hargs:LJ (V.AX (nm l V.nx) l.length) es0 (args.map ρ++vs):=by
  rw [ha] at hargs0
  refine⟨by rw [hargs0.1,FQ],fun j e v hj hv=>?_⟩
  exact(hargs0.2 j (e.AX (nm l V.nx)) v (by rw [Jt,hj];rfl) hv).AX hr
 have hidl:∀id o,look σ0 id=some o→id < l.length:=fun id o ho=>hr id (h2.st.lt _ _ (hS.get id o ho))
 obtain⟨S,hSS,hSJ,hSB⟩:=h2.hid
 have hgood:Good TB (V.AX (nm l V.nx) l.length) σ0 l.length S:=by
  refine⟨h2.iLt,⟨fun id o ho=>B8.AX hr (h2.st.obj _ _ (hS.get id o ho)),hidl,fun id o ho hnl b hb=>h2.st.free _ _ (hS.get id o ho) hnl b (B9.1 hb),?_⟩,h2.tabs,rfl,⟨hSS.r,hSS.ji,hSS.bi,fun b ⟨id,o,ho,hnl,hb⟩=>hSS.ap b ⟨_,_,hS.get id o ho,hnl,B9.1 hb⟩⟩⟩
  intro id id' o o' ho ho' hne hnl hnl' b hb hb'
  refine h2.st.inj _ _ _ _ (hS.get id o ho) (hS.get id' o' ho') ?_ hnl hnl' b (B9.1 hb) (B9.1 hb')
  have h3:=hidl id o ho
  have h4:=hidl id' o' ho'
  rw [FJ h3,FJ h4]
  intro he
  have hp:=List.pairwise_iff_getElem.1 hn
  rcases Nat.lt_or_gt_of_ne hne with h5|h5
  ·exact hp _ _ h3 h4 h5 he
  ·exact hp _ _ h4 h3 h5 he.symm
 refine(hs.2 _ _ S hgood hargs).mono ?_
 rintro e w' ⟨V1,v,x1,σ1,rfl,rfl,hi1,hx1,hpost⟩
 obtain⟨hi',he',hp'⟩:=So h2 hlt hS hm hSS hSJ hSB hi1
 have hlm:(l.take m).length=m:=by rw [List.length_take];exact Nat.min_eq_left hm
 have hnx:(E6 V V1 (l.take m)).nx=V.nx+(V1.nx - m):=by show V.nx+(V1.nx - (l.take m).length)=_;rw [hlm]
 have hk:=hK x1 σ1 V1.nx hpost hi1.ext.nx
 rw [←hnx] at hk
 exact⟨E6 V V1 (l.take m),v,x1.AX (Gi (l.take m) V.nx),_,rfl,rfl,he',hi',hx1.push hp',hk⟩
end
section
variable {P:Program}{TB:Bw}{Γ:Ctx}{d:Option Tmp}{ty:TypeId}{pos:String}{af:Array Edge}{g:Option (Nat×Bool)}{f:Env}{σ:Ab}{nx:Nat}
variable {K:E→Ab→Nat→Prop}
theorem Vv{s t:TypeId}{k:IntKind}{x:Operand}{n:Int}[hs:EK P s k][ht:B6 P t](hx:ev f x=some (eI k n))(h0:0≤n)(h1:n < 128):AY P TB Γ ⟨d,.convert s t x,ty,pos,af,g⟩ f σ nx (eT [UInt8.ofNat n.toNat]):=
 AH fun V ρ h1' _=>⟨.string ⟨#[UInt8.ofNat n.toNat]⟩,by
  have h2:ρ x=.int k n:=AI.val (h1'.get (by simp [Op.operands]) hx)
  have h3:Utf8.valid n=true:=by simp [Utf8.valid];omega
  have h4:n.toNat < 128:=by omega
  have h5:Utf8.encode n=⟨#[UInt8.ofNat n.toNat]⟩:=by simp [Utf8.encode,h3,h4]
  simp [execOp,h2,convert,run_underlying hs.out,run_underlying ht.out,Conv.intToString,h5,go_sem],.d (.v rfl)⟩
def Tz(f:Env):Option Operand→Option (Option (IntKind×Int))
 | none=>some none
 | some x=>match ev f x with
  | some (.o (.d (.v (.int k m))))=>some (some (k,m))
  | _=>none
theorem Ke{o:Oper}{V:View}{ρ:Operand→Value}(h1:JC V o f ρ){x:Option Operand}{b:Option (IntKind×Int)}(hx:∀y,x=some y→y∈o.op.operands)(h:Tz f x=some b):x.map ρ=b.map fun p=>.int p.1 p.2:=by
 cases x with
 | none=>injection h with h;subst h;rfl
 | some y=>
  unfold Tz at h
  simp only at h
  split at h
  ·rename_i k m he
   injection h with h
   subst h
   have h2:ρ y=.int k m:=AI.val (h1.get (hx y rfl) he)
   simp [h2]
  ·cases h
def I0:Option (IntKind×Int)→Int
 | none=>0
 | some p=>p.2
def IZ(n:Nat):Option (IntKind×Int)→Int
 | none=>n
 | some p=>p.2
theorem KD{isS:Bool}{len cap:Nat}{lo hi:Option (IntKind×Int)}(h0:0≤I0 lo)(h1:I0 lo≤IZ len hi)(h2:IZ len hi≤len)(hc:len≤cap)(w:World) :
 (Instr.sliceBounds isS len cap (lo.map fun p=>.int p.1 p.2) (hi.map fun p=>.int p.1 p.2) none).run P w=.ok ((I0 lo).toNat,(IZ len hi).toNat,cap) w:=by
 cases lo with
 | none=>
  cases hi with
  | none=>simp [Instr.sliceBounds,I0,IZ,go_sem]
  | some h=>
   simp only [I0,IZ] at *
   simp [Instr.sliceBounds,run_sliceBound w h.1 h.2 cap _ (by omega) (by omega),I0,IZ,go_sem]
 | some l=>
  cases hi with
  | none=>
   simp only [I0,IZ] at *
   simp [Instr.sliceBounds,run_sliceBound w l.1 l.2 len _ (by omega) (by omega),I0,IZ,go_sem]
  | some h=>
   simp only [I0,IZ] at *
   simp [Instr.sliceBounds,run_sliceBound w h.1 h.2 cap _ (by omega) (by omega),run_sliceBound w l.1 l.2 h.2.toNat _ (by omega) (by omega),I0,IZ,go_sem]
   intro hh
   have:=hh h0
   omega
theorem Qu{t:TypeId}(ht:P.underlying t=some .string){s:ByteArray}{lo hi:Option Value}{l h m:Nat}{w:World}(hb:(Instr.sliceBounds false s.size s.size lo hi none).run P w=.ok (l,h,m) w) :
 (Instr.sliceAt t (.string s) lo hi none).run P w=.ok (.string (s.extract l h)) w:=by
 have h1:(Instr.sliceAt t (.string s) lo hi none).run P w=(Instr.slice t (.string s) lo hi none).run P w:=by
  unfold Instr.sliceAt
  rw [Sem.run_bind,run_underlying ht,Result.andThen_ok]
 rw [h1]
 unfold Instr.slice
 rw [Sem.run_bind,run_underlying ht,Result.andThen_ok]
 simp only [Option.isSome_none,Bool.false_eq_true,if_false]
 rw [Sem.run_bind]
 generalize Instr.sliceBounds false s.size s.size lo hi none=sb at hb ⊢
 simp [hb,go_sem]
theorem Qt{t e:TypeId}{i:TypeInfo}(hu:P.underlying t=some (.slice e))(hi:P.info? e=some i){a:Option Addr}{len cap:Nat}{lo hi':Option Value}{l h m:Nat}{w:World}(hb:(Instr.sliceBounds true len cap lo hi' none).run P w=.ok (l,h,m) w) :
 (Instr.sliceAt t (.slice a len cap) lo hi' none).run P w=.ok (.slice (if m=l then a else a.map (·.add (l*i.size))) (h - l) (m - l)) w:=by
 have h1:(Instr.sliceAt t (.slice a len cap) lo hi' none).run P w=(Instr.slice t (.slice a len cap) lo hi' none).run P w:=by
  unfold Instr.sliceAt
  rw [Sem.run_bind,run_underlying hu,Result.andThen_ok]
 rw [h1]
 unfold Instr.slice
 rw [Sem.run_bind,run_underlying hu,Result.andThen_ok]
 simp only
 rw [Sem.run_bind]
 generalize Instr.sliceBounds true len cap lo hi' none=sb at hb ⊢
 simp [hb,sizeOf,typeInfo,hi,go_sem]
theorem Ku{t:TypeId}{x:Operand}{lo hi:Option Operand}{s:List UInt8}{l h:Option (IntKind×Int)}[ht:B6 P t](hx:ev f x=some (eT s))(hl:Tz f lo=some l)(hh:Tz f hi=some h)
 (h0:0≤I0 l) (h1:I0 l≤IZ s.length h) (h2:IZ s.length h≤s.length):AY P TB Γ ⟨d,.slice t x lo hi none,ty,pos,af,g⟩ f σ nx (eT ((s.take (IZ s.length h).toNat).drop (I0 l).toNat)):=
 AH fun V ρ hr _=>by
  have e1:ρ x=.string ⟨s.toArray⟩:=AI.val (hr.get (by simp [Op.operands]) hx)
  have e2:=Ke hr (x:=lo) (fun y hy=>by subst hy;simp [Op.operands]) hl
  have e3:=Ke hr (x:=hi) (fun y hy=>by subst hy;simp [Op.operands]) hh
  have hsz:(⟨s.toArray⟩:ByteArray).size=s.length:=by simp [ByteArray.size]
  have hb:=KD (P:=P) (isS:=false) (len:=s.length) (cap:=s.length) h0 h1 h2 (Nat.le_refl _) V.w
  refine⟨.string ((⟨s.toArray⟩:ByteArray).extract (I0 l).toNat (IZ s.length h).toNat),?_,?_⟩
  ·rw [←hsz] at hb
   have h3:=Qu ht.out hb
   rw [hsz] at h3
   simp only [execOp,e1,e2,e3,Option.map_none,Sem.run_bind,h3,Result.andThen_ok]
   rfl
  ·have e4:((⟨s.toArray⟩:ByteArray).extract (I0 l).toNat (IZ s.length h).toNat)=⟨((s.take (IZ s.length h).toNat).drop (I0 l).toNat).toArray⟩:=by
    apply ByteArray.ext
    rw [ByteArray.data_extract]
    apply Array.toList_inj.1
    simp [List.extract_eq_take_drop,List.drop_take]
   rw [e4]
   exact .d (.v rfl)
theorem RL{t e:TypeId}{k b:Nat}{x:Operand}{lo hi:Option Operand}{rows:List (List D)}{l h:Option (IntKind×Int)}[hsl:B3 P t e k b](hx:ev f x=some (.o (.d (.l rows))))(hl:Tz f lo=some l)(hh:Tz f hi=some h)(hk:∀r∈rows,r.length=k)
 (h0:0≤I0 l) (h1:I0 l≤IZ rows.length h) (h2:IZ rows.length h≤rows.length):AY P TB Γ ⟨d,.slice t x lo hi none,ty,pos,af,g⟩ f σ nx (.o (.d (.l ((rows.take (IZ rows.length h).toNat).drop (I0 l).toNat)))):=
 AH fun V ρ hr _=>by
  have e1:=hr.get (by simp [Op.operands]) hx
  have e2:=Ke hr (x:=lo) (fun y hy=>by subst hy;simp [Op.operands]) hl
  have e3:=Ke hr (x:=hi) (fun y hy=>by subst hy;simp [Op.operands]) hh
  generalize hv:ρ x=v at e1
  obtain⟨i,hu,hi',hs,_⟩:=E1 hsl.out
  generalize hlo:(I0 l).toNat=lo' at *
  generalize hhi:(IZ rows.length h).toNat=hi2 at *
  have hle:lo'≤hi2∧hi2≤rows.length:=by omega
  have hex:∀(a:Option Addr) (cap:Nat),rows.length≤cap→v=.slice a rows.length cap→(execOp ρ ⟨d,.slice t x lo hi none,ty,pos,af,g⟩).run P V.w=.ok (.value (.slice (if cap=lo' then a else a.map (·.add (lo'*i.size))) (hi2 - lo') (cap - lo'))) V.w:=by
   intro a cap hc he
   have hb:=KD (P:=P) (isS:=true) (len:=rows.length) (cap:=cap) h0 h1 h2 hc V.w
   rw [hlo,hhi] at hb
   subst he
   have h3:=Qt hu hi' (a:=a) hb
   simp only [execOp,hv,e2,e3,Option.map_none,Sem.run_bind,h3,Result.andThen_ok]
   rfl
  have hlen:((rows.take hi2).drop lo').length=hi2 - lo':=by simp;omega
  obtain⟨e1⟩:=e1
  cases e1 with
  | nil=>
   have h3:lo'=0∧hi2=0:=by simp at hle;omega
   obtain⟨rfl,rfl⟩:=h3
   exact⟨_,hex none 0 (by simp) rfl,.d .nil⟩
  | @e a cap hc=>
   have h3:lo'=0∧hi2=0:=by simp at hle;omega
   obtain⟨rfl,rfl⟩:=h3
   refine⟨_,hex (some a) cap (by simp) rfl,?_⟩
   by_cases h4:cap=0
   ·rw [if_pos h4];exact .d (.e (by omega))
   ·rw [if_neg h4];exact .d (.e (by omega))
  | @l _ b' o k' cap vs hb h3 h4 h5 h6 h7=>
   refine⟨_,hex (some ⟨b',o,none⟩) cap h3 rfl,?_⟩
   by_cases hz:hi2 - lo'=0
   ·have:(rows.take hi2).drop lo'=[]:=List.eq_nil_of_length_eq_zero (by omega)
    rw [this,hz]
    split
    ·exact .d (.e (by omega))
    ·exact .d (.e (by omega))
   ·have hcl:¬cap=lo':=by omega
    rw [if_neg hcl]
    simp only [Option.map_some,Bu]
    have hk':k'=i.size:=by
     have hlt:0 < rows.length:=by omega
     have e5:=h5 0 _ (List.getElem?_eq_getElem hlt)
     have e6:=hk _ (List.getElem_mem hlt)
     omega
    have hget:∀(q:Nat) (r:List D),((rows.take hi2).drop lo')[q]? = some r→rows[lo'+q]? = some r:=fun q r hq=>by
     rw [List.getElem?_drop,List.getElem?_take] at hq
     split at hq
     ·exact hq
     ·cases hq
    rw [←hlen]
    refine .d (.l (k:=k') (vs:=fun q j=>vs (lo'+q) j) hb (by omega) (by omega) (fun q r hq=>h5 _ r (hget q r hq)) (fun q r j dd hq hj=>?_) (fun q r j dd hq hj=>h7 _ r j dd (hget q r hq) hj))
    have:=h6 _ r j dd (hget q r hq) hj
    rw [←hk']
    have e7:o+lo'*k'+q*k'+j=o+(lo'+q)*k'+j:=by rw [Nat.add_mul];omega
    rw [e7];exact this
theorem VK{t e:TypeId}(ht:P.underlying t=some (.slice e))(a:Option Addr)(n c:Nat)(w:World):(binOp .eql t (.slice a n c) (.slice none 0 0)).run P w=.ok (.bool a.isNone) w:=by
 have h:∀d:Nat,(Op.equalIn (d+1) t (.slice a n c) (.slice none 0 0)).run P w=.ok a.isNone w:=fun d=>by
  cases a<;>simp [Op.equalIn,run_underlying ht]
 simp only [binOp]
 simp [Op.equal,Op.maxDepth,h 9999]
theorem UP{t e yt:TypeId}{k b:Nat}{x:Operand}{rows:List (List D)}[hsl:B3 P t e k b](hx:ev f x=some (.o (.d (.l rows))))(hK:∀c,(c=true→rows=[])→K (eB c) σ nx) :
 B2 P TB Γ ⟨d,.binOp .eql t x (.const (.slice none 0 0)) yt,ty,pos,af,g⟩ f σ nx K:=by
 intro V a h1 h2 h3
 subst h3
 have e1:=h1.Gz.get (x:=x) (by simp [Op.operands]) hx
 have e2:a.eval (.const (.slice none 0 0))=.slice none 0 0:=rfl
 obtain⟨i,hu,_,_,_⟩:=E1 hsl.out
 generalize hv:a.eval x=v at e1
 have key:∀(p:Option Addr) (n c:Nat),v=.slice p n c→(p.isNone=true→rows=[])→Oper.wp P ⟨d,.binOp .eql t x (.const (.slice none 0 0)) yt,ty,pos,af,g⟩ a V.w (fun a' w'=>∃V' v x σ',V'.w=w'∧a'=a.put d v∧Ext V V'∧Inv TB Γ V' σ'∧Bc V' x v∧K x σ' V'.nx) bE:=by
  intro p n c he hr
  unfold Oper.wp
  have h9:execOp a.eval ⟨d,.binOp .eql t x (.const (.slice none 0 0)) yt,ty,pos,af,g⟩=(do let v ←(do eqGuard .eql t x (.const (.slice none 0 0)) (a.eval x) (a.eval (.const (.slice none 0 0)));binOp .eql t (a.eval x) (a.eval (.const (.slice none 0 0))));pure (.value v)):=rfl
  have h7:eqGuard .eql t x (.const (.slice none 0 0)) (.slice p n c) (.slice none 0 0)=pure ():=rfl
  rw [h9,hv,e2,he,h7]
  rw [pure_bind,Sem.run_bind,VK hu,Result.andThen_ok]
  exact⟨V,.bool p.isNone,eB p.isNone,σ,rfl,rfl,Ext.refl V,h2,AI.d (.v rfl),hK p.isNone hr⟩
 obtain⟨e1⟩:=e1
 cases e1 with
 | nil=>exact key none 0 0 rfl fun _=>rfl
 | e=>exact key (some _) 0 _ rfl fun h=>by cases h
 | l=>exact key (some _) _ _ rfl fun h=>by cases h
def Du(l:List (List UInt8×Int)):List (Value×Value):=l.map fun p=>(.string ⟨p.1.toArray⟩,.int .i64 p.2)
def BD(l:List (List UInt8×Int))(s:List UInt8):Option Int:=(l.find? fun p=>decide (p.1=s)).map (·.2)
theorem ZF(a b:List UInt8):((⟨a.toArray⟩:ByteArray) == ⟨b.toArray⟩)=decide (a=b):=by
 have h:((⟨a.toArray⟩:ByteArray) == ⟨b.toArray⟩)=(a.toArray == b.toArray):=rfl
 rw [h,Bool.eq_iff_iff]
 simp
theorem Ij(s:List UInt8):∀(l:List (List UInt8×Int)) (es:List MapEntry) (i:Nat),es.map (fun e=>(e.key,e.val))=Du l→∃r,Instr.findNow .string (.string ⟨s.toArray⟩) es i=some r∧r.map (·.2)=(BD l s).map (.int .i64)
 | [],es,i,h=>by
  have:es=[]:=by simpa [Du] using h
  subst this
  exact⟨none,rfl,rfl⟩
 | p :: l,es,i,h=>by
  cases es with
  | nil=>simp [Du] at h
  | cons e es=>
   simp only [Du,List.map_cons,List.cons.injEq,Prod.mk.injEq] at h
   obtain⟨⟨hk,hv⟩,hr⟩:=h
   have hs:Instr.sameNow .string (.string ⟨s.toArray⟩) e.key=some (decide (s=p.1)):=by
    rw [hk]
    show some ((⟨s.toArray⟩:ByteArray) == ⟨p.1.toArray⟩)=_
    rw [ZF]
   unfold Instr.findNow
   rw [hs]
   by_cases h2:s=p.1
   ·refine⟨some (i,e.val),by simp [h2],?_⟩
    simp [BD,h2,hv]
   ·obtain⟨r,h3,h4⟩:=Ij s l es (i+1) hr
    have h5:¬p.1=s:=fun e=>h2 e.symm
    refine⟨r,by simp [h2,h3],?_⟩
    rw [h4]
    simp [BD,h5]
theorem Jl{t:TypeId}(hK:K (.o (.mp nx)) ((nx,.mp [])::σ) (nx+1)):B2 P TB Γ ⟨d,.makeMap t none,ty,pos,af,g⟩ f σ nx K:=
 CQ fun V ρ h1 h2 h3=>by
  subst h3
  have hsz:V.w.heap.size < (V.w.alloc (.map #[] 0)).heap.size:=by simp
  obtain⟨hi,he⟩:=h2.alloc (c:=0) (nl:=False) (w:=V.w.alloc (.map #[] 0)) (ob:=.mp []) rfl rfl rfl rfl (Nat.le_of_lt hsz) (fun b hb=>AV V.w _ b hb) (by
   refine⟨by simp [Au],#[],0,?_,rfl⟩
   have hr:(Au V V.w.heap.size 0 False (V.w.alloc (.map #[] 0))).ρ V.nx=V.w.heap.size:=by simp [Au]
   rw [hr]
   exact BJ V.w (.map #[] 0))
  refine⟨.map (some V.w.heap.size),_,_,_,?_,he,hi,?_,hK⟩
  ·have:(Instr.makeMap t none).run P V.w=.ok (.map (some V.w.heap.size)) (V.w.alloc (.map #[] 0)):=rfl
   simp [execOp,this,Au,go_sem]
  ·have:=@AI.mp (Au V V.w.heap.size 0 False (V.w.alloc (.map #[] 0))) V.nx (by simp [Au])
   have hr:(Au V V.w.heap.size 0 False (V.w.alloc (.map #[] 0))).ρ V.nx=V.w.heap.size:=by simp [Au]
   rw [hr] at this
   exact this
class JD (P:Program) (t:TypeId) (z:outParam Value):Prop where
 out:(P.info? t).bind (·.zero)=some z
class Ey (P:Program) (t:TypeId) (k e:outParam TypeId):Prop where
 out:P.underlying t=some (.map k e)
theorem Hw{k:TypeId}(hk:P.underlying k=some .string)(b:Bool)(s:ByteArray)(w:World):(Instr.checkKey b 10000 k (.string s)).run P w=.ok () w:=by
 rw [show 10000=9999+1 from rfl]
 unfold Instr.checkKey
 simp [run_underlying hk,go_sem]
theorem NG{t k e:TypeId}{x y:Operand}{id:Nat}{l:List (List UInt8×Int)}{s:List UInt8}[hm:Ey P t k e][hk:B6 P k][hz:JD P e (.int .i64 0)](hx:ev f x=some (.o (.mp id)))(hy:ev f y=some (eT s))(ho:look σ id=some (.mp (Du l))) :
 AY P TB Γ ⟨d,.lookup t x y true,ty,pos,af,g⟩ f σ nx (.t [(false,[.d (.v (.int .i64 ((BD l s).getD 0)))]),(false,[.d (.v (.bool (BD l s).isSome))])]):=
 AH fun V ρ hr hi=>by
  have e1:=hr.get (by simp [Op.operands]) hx
  have e2:ρ y=.string ⟨s.toArray⟩:=AI.val (hr.get (by simp [Op.operands]) hy)
  generalize hv:ρ x=v at e1
  cases e1 with
  | mp hid =>
   obtain⟨hn,ents,clock,h1,h2⟩:=hi.st.obj id _ ho
   obtain⟨r,h3,h4⟩:=Ij s l ents.toList 0 h2
   have hzz:=hz.out
   simp only [Option.bind_eq_some_iff] at hzz
   obtain⟨i,hi1,hz1⟩:=hzz
   have hzv:(zeroValue e).run P V.w=.ok (.int .i64 0) V.w:=by simp [zeroValue,typeInfo,hi1,hz1,go_sem]
   have hfk:(Instr.findKey k (.string ⟨s.toArray⟩) ents.toList).run P V.w=.ok r V.w:=by simp [Instr.findKey,run_underlying hk.out,h3,go_sem]
   have hck:=Hw hk.out ents.isEmpty ⟨s.toArray⟩ V.w
   refine⟨.tuple #[.int .i64 ((BD l s).getD 0),.bool (BD l s).isSome],?_,⟨_,rfl,rfl,fun j x v hj hv=>?_⟩⟩
   ·cases r with
    | none=>
     have h5:BD l s=none:=by simpa using h4.symm
     simp [execOp,hv,e2,Instr.lookup,run_underlying hm.out,MapKept.run_getObj_map h1,hck,hfk,hzv,h5,go_sem]
    | some q=>
     obtain⟨n,h5,h6⟩:∃n,BD l s=some n∧q.2=.int .i64 n:=by
      cases hf:BD l s with
      | none=>rw [hf] at h4;simp at h4
      | some n=>rw [hf] at h4;exact⟨n,rfl,by simpa using h4⟩
     obtain⟨q1,q2⟩:=q
     simp only at h6
     subst h6
     simp [execOp,hv,e2,Instr.lookup,run_underlying hm.out,MapKept.run_getObj_map h1,hck,hfk,h5,go_sem]
   ·match j with
    | 0=>simp at hj hv;subst hj;subst hv;exact⟨_,rfl,.d (.v rfl)⟩
    | 1=>simp at hj hv;subst hj;subst hv;exact⟨_,rfl,.d (.v rfl)⟩
    | j+2=>simp at hj
theorem XG{t k e:TypeId}{x y z:Operand}{id:Nat}{l:List (List UInt8×Int)}{s:List UInt8}{n:Int}[hm:Ey P t k e][hk:B6 P k](hx:ev f x=some (.o (.mp id)))(hy:ev f y=some (eT s))(hz:ev f z=some (eI .i64 n))(ho:look σ id=some (.mp (Du l)))
 (hn:BD l s=none) (hK:K (.t []) ((id,.mp (Du (l++[(s,n)])))::σ) nx):B2 P TB Γ ⟨d,.mapUpdate t x y z,ty,pos,af,g⟩ f σ nx K:=by
 intro V a h1 h2 h3
 have h1:=h1.Gz
 unfold Oper.wp
 generalize a.eval=ρ at h1 ⊢
 have e1:=h1.get (x:=x) (by simp [Op.operands]) hx
 have e2:ρ y=.string ⟨s.toArray⟩:=AI.val (h1.get (by simp [Op.operands]) hy)
 have e3:ρ z=.int .i64 n:=AI.val (h1.get (by simp [Op.operands]) hz)
 generalize hv:ρ x=v at e1
 cases e1 with
 | mp hid=>
  obtain⟨hnl,ents,clock,h4,h5⟩:=h2.st.obj id _ ho
  obtain⟨r,h6,h7⟩:=Ij s l ents.toList 0 h5
  rw [hn] at h7
  have hr:r=none:=by cases r with
   | none=>rfl
   | some q=>simp at h7
  subst hr
  have hfk:(Instr.findKey k (.string ⟨s.toArray⟩) ents.toList).run P V.w=.ok none V.w:=by simp [Instr.findKey,run_underlying hk.out,h6,go_sem]
  have hck:=Hw hk.out false ⟨s.toArray⟩ V.w
  let ob:Obj:=.map (ents.push { key:=.string ⟨s.toArray⟩,val:=.int .i64 n,born:=clock }) (clock+1)
  let w':World:={ V.w with heap:=V.w.heap.setIfInBounds (V.ρ id) ob }
  have hset:=MapKept.run_setObj_map (P:=P) ob h4
  have hlt:=(Array.getElem?_eq_some_iff.1 h4).1
  obtain⟨hi,he⟩:=h2.write ho hnl (w:=w') (ob':=.mp (Du (l++[(s,n)]))) rfl rfl rfl rfl rfl (by simp [w']) (fun b hb=>by simp [w',Array.getElem?_setIfInBounds,Ne.symm hb]) (by
   refine⟨hnl,ents.push { key:=.string ⟨s.toArray⟩,val:=.int .i64 n,born:=clock },clock+1,?_,?_⟩
   ·show w'.heap[V.ρ id]? = some ob
    simp [w',Array.getElem?_setIfInBounds,hlt]
   ·simp [Du] at h5 ⊢
    exact h5)
  have hrun:(execOp ρ ⟨d,.mapUpdate t x y z,ty,pos,af,g⟩).run P V.w=.ok .skip w':=by
   simp [execOp,hv,e2,e3,Instr.mapUpdate,run_underlying hm.out,MapKept.run_getObj_map h4,hck,hfk,hset,ob,w',go_sem]
  rw [hrun]
  exact⟨{ V with w:=w' },.tuple #[],.t [],_,rfl,rfl,he,hi,⟨#[],rfl,rfl,fun j x v hj=>by simp at hj⟩,by rw [←h3] at hK;exact hK⟩
end
section
variable {P:Program}{TB:Bw}
def QZ(f:Env)(t:Tmp)(n:Nat):Option (Bool×List C):=match f t with
 | some (.o (.d (.p cs)))=>match Nat.beq cs.length n with
  | true=>some (true,cs.map .d)
  | false=>none
 | _=>none
def VD(n:Nat)(rs:Array ResultVar)(f:Env):Option E:=match rs.toList with
 | [.cell t _]=>match QZ f t n with
  | some (_,cs)=>some (.a cs)
  | none=>none
 | [.cell t _,.tmp u]=>match QZ f t n,(f u).bind OZ with
  | some x,some y=>some (.t [x,y])
  | _,_=>none
 | _=>none
def Zx(n:Nat)(rs:Array ResultVar)(post:E→Ab→Nat→Prop):Exit→Env→Ab→Nat→Prop
 | .ret,f,σ,nx|.normal,f,σ,nx=>∃x,VD n rs f=some x∧post x σ nx
 | _,_,_,_=>False
theorem Mp{V:View}{f:Env}{a:Act}{t:Tmp}{T':TypeId}{n:Nat}{x:Bool×List C}(hl:DM P T' true n)(hE:C7 V f a.tmps)(h:QZ f t n=some x) :
 ∃v,((do loadVar T' (←asAddr (a.tmps.getD t undef))):Sem Value).run P V.w=.ok v V.w∧∃cs,x=(true,cs)∧Bc V (.a cs) v:=by
 unfold QZ at h
 split at h
 ·rename_i ds hf
  split at h
  ·rename_i hn
   have hn:=Nat.eq_of_beq_eq_true hn
   injection h with h
   subst h
   have h3:AI V (.d (.p ds)) (a.tmps.getD t undef):=hE t _ hf
   generalize hv:a.tmps.getD t undef=v0 at h3
   obtain⟨h3⟩:=h3
   cases h3 with
   | @p _ b o vs hb h1 h2=>
    refine⟨.agg ((List.range n).map fun q=>vs q).toArray,?_,_,rfl,_,rfl,by simp [hn],fun j c v hj hvv=>?_⟩
    ·have:(loadCells ⟨b,o,none⟩ n).run P V.w=.ok ((List.range n).map fun q=>vs q).toArray V.w:=run_loadCells V.w _ n _ fun q hq=>by
      rw [Bu]
      exact h1 q ds[q] (List.getElem?_eq_getElem (by omega))
     unfold loadCells at this
     simp [asAddr,loadVar,(Bx hl.out V.w).1,(Bx hl.out V.w).2,this,go_sem]
    ·rw [List.getElem?_map,Option.map_eq_some_iff] at hj
     obtain⟨dd,hd,rfl⟩:=hj
     have hq:j < n:=by have:=(List.getElem?_eq_some_iff.1 hd).1;omega
     have:v=vs j:=by simpa [hq] using hvv.symm
     subst this
     exact .d (h2 j dd hd)
  ·cases h
 ·cases h
theorem VE{fn:Func}{V:View}{f:Env}{a:Act}{x:E}{T':TypeId}{n:Nat}{t:Tmp}(hl:DM P T' true n)(hrs:fn.results.toList.head? = some (.cell t T'))(hE:C7 V f a.tmps)(h:VD n fn.results f=some x):∃v,(results fn a.tmps).run P V.w=.ok v V.w∧Bc V x v:=by
 have key : ∀ l:List ResultVar,fn.results=l.toArray→l.head? = some (.cell t T')→VD n l.toArray f=some x→∃v,(results fn a.tmps).run P V.w=.ok v V.w∧Bc V x v:=by
  intro l hll hhd h
  unfold VD at h
  simp only at h
  split at h
  ·rename_i t1 T1
   simp at hhd
   obtain⟨rfl,rfl⟩:=hhd
   split at h
   ·rename_i b cs hc
    injection h with h
    subst h
    obtain⟨v,h1,cs',h2,h3⟩:=Mp hl hE hc
    injection h2 with h2 h4
    subst h4
    refine⟨v,?_,h3⟩
    have hres:(results fn a.tmps).run P V.w=((do loadVar T1 (←asAddr (a.tmps.getD t1 undef))):Sem Value).run P V.w:=by simp [results,hll,-Array.getD_eq_getD_getElem?,go_sem]
    rw [hres,h1]
   ·cases h
  ·rename_i t1 T1 u
   simp at hhd
   obtain⟨rfl,rfl⟩:=hhd
   split at h
   ·rename_i x1 y1 hc hu
    injection h with h
    subst h
    obtain⟨v,h1,cs',h2,h3⟩:=Mp hl hE hc
    subst h2
    simp only [Option.bind_eq_some_iff] at hu
    obtain⟨y,hy,hyo⟩:=hu
    refine⟨.tuple #[v,a.tmps.getD u undef],?_,_,rfl,rfl,fun j x v' hj hv=>?_⟩
    ·obtain⟨F,hF,hF1,hF2⟩:∃F:ResultVar→Sem Value,results fn a.tmps=(do let vs ←fn.results.mapM F;pure (if h:vs.size=1 then vs[0] else .tuple vs))∧(F (.cell t1 T1)).run P V.w=.ok v V.w∧(F (.tmp u)).run P V.w=.ok (a.tmps.getD u undef) V.w:=
      ⟨fun r=>match r with
       | .tmp t=>pure (a.tmps.getD t undef)
       | .cell b t=>do loadVar t (←asAddr (a.tmps.getD b undef)),rfl,h1,rfl⟩
     rw [hF,hll]
     simp [hF1,hF2,-Array.getD_eq_getD_getElem?,go_sem]
    ·match j with
     | 0=>simp at hj hv;subst hj;subst hv;exact h3
     | 1=>simp at hj hv;subst hj;subst hv;exact Ep hyo (by simpa using hE u y hy)
     | j+2=>simp at hj
   ·cases h
  ·cases h
 exact key fn.results.toList (by simp) hrs (by simpa using h)
theorem Bl.ofM {g:FuncId} {fn:Func} {c:Code} {m:Nat} {σ:Ab} {nx:Nat} {args:List E} {post:E→Ab→Nat→Prop} (n:Nat) {t:Tmp} {T':TypeId} (hm:m≤nx) [hl:DM P T' true n] (hf:P.funcs[g]? = some fn) (hb:fn.body=some c) (hrs:fn.results.toList.head? = some (.cell t T')) (hname:(fn.name == "runtime.NumGoroutine")=false)
 (hargs:args.length≤fn.ntmps) (h:∀Γ:Ctx,Γ.V.nx=m→Ak P TB Γ fn.ntmps c (Zx n fn.results post) (look (BN 0 args)) σ nx):Bl P TB g m σ nx args post:=by
 refine⟨⟨fn,hf,hname,by rw [hb];rfl⟩,?_⟩
 intro V vs S hg ha
 refine calls_of_wp hf hb ?_
 have hs:vs.size≤fn.ntmps:=by rw [ha.1];exact hargs
 have hi:Inv TB (EO V (Jk V m) σ S) V σ:=
  ⟨rfl,rfl,rfl,fun _ _ _=>rfl,hg.iLt,fun _ h=>.inl h,Rv (by rw [hg.nx];exact hm),hg.st,fun id o ho hnl b hb=>.inr (.inl ⟨id,o,ho,hnl,hb⟩),hg.tabs,⟨S,hg.hid,fun b hb=>.inl hb,fun b hb=>.inr (.inr hb)⟩⟩
 have hr:BM TB (EO V (Jk V m) σ S) fn.ntmps V (look (BN 0 args)) σ nx { tmps:=vs++Array.replicate (fn.ntmps - vs.size) undef,defers:=[] } := by
  refine⟨?_,?_,by simp;omega,hi,hg.nx,rfl⟩
  ·intro t e he
   obtain⟨_,h2⟩:=BY args 0 t e he
   have h2:args[t]? = some e:=by simpa using h2
   have hlt:t < vs.size:=by rw [ha.1];exact(List.getElem?_eq_some_iff.1 h2).1
   have h3:=ha.2 t e vs[t] h2 (Array.getElem?_eq_getElem hlt)
   simpa [Array.getElem?_append_left hlt,hlt] using h3
  ·intro t e he
   obtain⟨_,h2⟩:=BY args 0 t e he
   have h2:args[t]? = some e:=by simpa using h2
   have:=(List.getElem?_eq_some_iff.1 h2).1
   omega
 refine wp_mono (h (EO V (Jk V m) σ S) rfl V _ hr) ?_
 rintro e a' w' ⟨V',f',σ',rfl,hq,hr'⟩
 have fin:(∃x,VD n fn.results f'=some x∧post x σ' V'.nx)→a'.defers=[]∧∃v,(results fn a'.tmps).run P V'.w=.ok v V'.w∧∃V'' v' x σ'',Ending.returned v=.returned v'∧V''.w=V'.w∧Inv TB (EO V (Jk V m) σ S) V'' σ''∧Bc V'' x v'∧post x σ'' V''.nx:=by
  rintro⟨x,hx,hp⟩
  obtain⟨v,hv,he⟩:=VE (P:=P) hl hrs hr'.env hx
  exact⟨hr'.defers,v,hv,V',v,x,σ',rfl,rfl,hr'.inv,he,hp⟩
 cases e with
 | normal=>exact fin hq
 | ret=>exact fin hq
 | exit id=>exact hq.elim
 | goto l=>exact hq.elim
 | panic ch=>exact hq.elim
 | outgrown=>exact hq.elim
theorem Bl.E2{g:FuncId}{σ:Ab}{nx:Nat}{args:List E}{post:E→Ab→Nat→Prop}(h:Bl P TB g nx σ nx args post):Spec P TB g σ nx args post:=
 ⟨h.1,fun V vs S hg ha=>(h.2 V vs S hg ha).mono fun _ _ ⟨V',v,x,σ',h1,h2,h3,h4,h5⟩=>⟨V',v,x,σ',h1,h2,by have hn:=hg.nx;subst hn;exact h3,h4,h5⟩⟩
end
end Go.Am
