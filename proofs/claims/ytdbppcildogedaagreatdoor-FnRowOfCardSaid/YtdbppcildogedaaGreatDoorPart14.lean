/-
  Arrays of numbers as values: read, held against each other, as a map's keys.
-/
import Derived.Test.YtdbppcildogedaaGreatDoorPart13
import Derived.Test.YtdbppcildogedaaGreatDoorPart5
import Derived.WideKeyArr
import Derived.Test.YtdbppcildogedaaGreatDoorPart12
import Derived.Test.YtdbppcildogedaaGreatDoorPart11
import Derived.Test.YtdbppcildogedaaGreatDoorPart10
set_option linter.constructorNameAsVariable false
set_option linter.unusedSimpArgs false
set_option linter.unusedVariables false
namespace Go.Am
open Go
def HL (q:IntKind) (l:List Int):Value:=.agg (l.map (Value.int q)).toArray
abbrev Yi (q:IntKind) (l:List Int):List C:=l.map fun x=>.d (.v (.int q x))
abbrev TH (q:IntKind) (l:List Int):E:=.a (Yi q l)
theorem Pj {q:IntKind} {a b:List Int}:HL q a=HL q b↔a=b:=by
  unfold HL
  constructor
  · intro h
    injection h with h
    have h:=congrArg Array.toList h
    simp only at h
    exact (List.map_inj_right (fun x y h=>by injection h)).1 h
  · rintro rfl;rfl
theorem Hl {V:View} {q:IntKind} {l:List Int} {v:Value} (h:AV V (TH q l) v):v=HL q l:=by
  obtain ⟨vs,rfl,h2,h3⟩:=h
  unfold HL
  congr 1
  apply Array.ext
  · simpa using h2
  · intro i h4 h5
    have h6:i < l.length:=by simpa using h5
    have:=Aw.val (h3 i (.d (.v (.int q l[i]))) vs[i] (by simp [List.getElem?_eq_getElem h6]) (Array.getElem?_eq_getElem h4))
    rw [this];simp
class DV (P:Program) (t:TypeId) (n:outParam Nat) (q:outParam IntKind):Prop where
  u:∃e,WideMaps.ArrKey P t e n∧P.underlying e=some (.int q)
  eg:P.eqGuardType P.depth t=false
  sz:P.types.size≠0
section
variable {P:Program} {t:TypeId} {n:Nat} {q:IntKind}
theorem mapM_some {α β:Type} {f:α→Option β}:∀ {l:List α},(∀x∈l,∃y,f x=some y)→∃ys,l.mapM f=some ys
  | [],_=>⟨[],rfl⟩
  | x::l,h=>by
    obtain ⟨y,hy⟩:=h x (by simp)
    obtain ⟨ys,hys⟩:=mapM_some (l:=l) (fun z hz=>h z (by simp [hz]))
    exact ⟨y::ys,by rw [List.mapM_cons,hy,hys];rfl⟩
theorem DV.key (h:DV P t n q) {l:List Int} (hl:l.length=n) (hw:∀x∈l,(Lit.int q x).wf=true):∃lx,keyOf P t (HL q l)=some lx:=by
  obtain ⟨e,hA,he⟩:=h.u
  obtain ⟨m,hm⟩:=Nat.exists_eq_succ_of_ne_zero h.sz
  have hm:P.types.size=m+1:=hm
  have h1:∀i∈List.range n,∃y,P.keyLits (m+1) e ((((l.map (Value.int q)).toArray.toList).drop (i*P.cellsOf e)).take (P.cellsOf e))=some y:=fun i hi=>by
    have hi:i < n:=List.mem_range.1 hi
    rw [hA.one,Nat.mul_one]
    obtain ⟨x,hx⟩:∃x,l[i]? = some x:=⟨l[i],List.getElem?_eq_getElem (by omega)⟩
    have h2:(((l.map (Value.int q)).toArray.toList).drop i).take 1=[Value.int q x]:=by
      have h3:(l.map (Value.int q))[i]? = some (Value.int q x):=by simp [hx]
      obtain ⟨h4,h5⟩:=List.getElem?_eq_some_iff.1 h3
      simp only
      rw [List.drop_eq_getElem_cons h4,h5]
      rfl
    rw [h2]
    refine ⟨[.int q x],?_⟩
    unfold Program.keyLits
    simp [he,hw x (List.mem_of_getElem? hx)]
  obtain ⟨ys,hys⟩:=mapM_some h1
  have h6:P.keyLits (P.types.size+1) t (HL q l).cells.toList=some ys.flatten:=by
    rw [hm]
    show P.keyLits (m+1+1) t (l.map (Value.int q)).toArray.toList=_
    unfold Program.keyLits
    simp only [hA.hu]
    rw [if_pos (by rw [hA.size];simp [hl])]
    rw [hys];rfl
  have hf:(HL q l).formed P t=true:=by simp [HL,Value.formed,hA.hu,hA.size,hl]
  unfold keyOf
  rw [hA.hu]
  simp only
  rw [if_pos (by rw [hA.keyType ⟨m,hm⟩,hf];rfl),h6]
  exact ⟨_,rfl⟩
theorem DV.law (h:DV P t n q):WideMaps.KeyLaw P t:=by
  obtain ⟨e,hA,he⟩:=h.u
  exact hA.law
theorem DV.run_eq (h:DV P t n q) {a b:List Int} (ha:a.length=n) (hb:b.length=n) (hwa:∀x∈a,(Lit.int q x).wf=true) (hwb:∀x∈b,(Lit.int q x).wf=true) (w:World):(Op.equal t (HL q a) (HL q b)).run P w=.ok (decide (a=b)) w:=by
  obtain ⟨lx,hx⟩:=h.key ha hwa
  obtain ⟨ly,hy⟩:=h.key hb hwb
  obtain ⟨e,hA,he⟩:=h.u
  obtain ⟨r,h1,h2⟩:=run_equal_deep w (m:=2) (by omega) (hA.at 0) hA.wide hx hy
  rw [h1]
  congr 1
  rw [Bool.eq_iff_iff,h2,decide_eq_true_eq]
  refine ⟨fun h3=>Pj.1 (h.law.inj hx (by rw [h3];exact hy)),fun h3=>?_⟩
  subst h3
  rw [hx] at hy
  injection hy
end
section
variable {P:Program} {TB:A7} {Γ:Ctx} {d:Option Tmp} {ty:TypeId} {pos:String} {af:Array Edge} {g:Option (Nat×Bool)} {f:Env} {σ:Ab} {nx:Nat}
variable {K:E→Ab→Nat→Prop} {t:TypeId} {n:Nat} {q:IntKind}
theorem Hz {x y:Operand} {l:List Int} {k:IntKind} {i:Int} {v:Int} [h:DV P t n q] (hx:ev f x=some (TH q l)) (hy:ev f y=some (eI k i)) (hn:l.length=n) (h0:0≤i) (hv:l[i.toNat]? = some v) :
    AU P TB Γ ⟨d,.index t x y,ty,pos,af,g⟩ f σ nx (eI q v):=
  Ax fun V ρ h1 _=>by
    have h2:=Hl (h1.get (by simp [Op.operands]) hx)
    have h3:ρ y=.int k i:=Aw.val (h1.get (by simp [Op.operands]) hy)
    obtain ⟨e,hA,he⟩:=h.u
    obtain ⟨inf,hi⟩:=info_of_underlying he
    have h4:inf.size=1:=by have:=hA.one;simpa [Program.cellsOf,hi] using this
    have hlt:=(List.getElem?_eq_some_iff.1 hv).1
    have h5:i < (n:Int):=by omega
    refine ⟨.int q v,?_,.d (.v rfl)⟩
    have h6:(l.map (Value.int q)).toArray[i.toNat]? = some (.int q v):=by simp [hv]
    have h7:(isAgg e).run P V.w=.ok false V.w:=by simp [isAgg,run_underlying he,go_sem]
    simp [execOp,h2,h3,HL,Instr.index,asIntOf,run_underlying hA.hu,h0,h5,part,h7,sizeOf,typeInfo,hi,h4,hv,go_sem]
theorem WS {yt:TypeId} {x y:Operand} {a b:List Int} [h:DV P t n q] (hx:ev f x=some (TH q a)) (hy:ev f y=some (TH q b)) (ha:a.length=n) (hb:b.length=n) (hwa:∀x∈a,(Lit.int q x).wf=true) (hwb:∀x∈b,(Lit.int q x).wf=true) :
    AU P TB Γ ⟨d,.binOp .eql t x y yt,ty,pos,af,g⟩ f σ nx (eB (decide (a=b))):=
  Ax fun V ρ h1 _=>by
    have h2:=Hl (h1.get (x:=x) (by simp [Op.operands]) hx)
    have h3:=Hl (h1.get (x:=y) (by simp [Op.operands]) hy)
    refine ⟨.bool (decide (a=b)),?_,.d (.v rfl)⟩
    have h6:binOp .eql t (HL q a) (HL q b)=(do pure (.bool (←Op.equal t (HL q a) (HL q b)))):=rfl
    have h7:(eqGuard .eql t x y (HL q a) (HL q b)).run P V.w=.ok () V.w:=by
      unfold eqGuard HL
      simp [h.eg,go_sem]
    simp [execOp,h2,h3,h6,h7,h.run_eq ha hb hwa hwb V.w,go_sem]
def mapA (q:IntKind) (l:List (List Int×Int)):List (Value×Value):=l.map fun p=>(HL q p.1,.int .i64 p.2)
def CE:List (List Int×Int)→List Int→Option Int
  | [],_=>none
  | p::l,s=>if p.1=s then some p.2 else CE l s
theorem E5:∀ {l:List (List Int×Int)} {s:List Int},CE l s=none↔∀p∈l,p.1≠s
  | [],s=>by simp [CE]
  | p::l,s=>by
    unfold CE
    split
    · rename_i h;simp [h]
    · rename_i h;rw [E5 (l:=l)];simp [h]
theorem HS:∀ {l:List (List Int×Int)} {p:List Int×Int},l.Pairwise (fun a b=>a.1≠b.1)→p∈l→CE l p.1=some p.2
  | [],p,_,h=>by cases h
  | x :: l,p,hd,h=>by
    unfold CE
    rcases List.mem_cons.1 h with rfl|h
    · rw [if_pos rfl]
    · rw [if_neg ((List.pairwise_cons.1 hd).1 p h)]
      exact HS (List.pairwise_cons.1 hd).2 h
def K1 (n:Nat) (q:IntKind) (l:List (List Int×Int)):Prop:=∀p∈l,p.1.length=n∧∀x∈p.1,(Lit.int q x).wf=true
theorem Lb [h:DV P t n q] {l:List (List Int×Int)} {es:List MapEntry} {s:List Int} (hl:K1 n q l) (hes:es.map (fun e=>(e.key,e.val))=mapA q l) (hs:s.length=n) (hw:∀x∈s,(Lit.int q x).wf=true) (hd:l.Pairwise (fun a b=>a.1≠b.1)) (w:World) :
    ∃r,(Instr.findKey t (HL q s) es).run P w=.ok r w∧r.map (·.2)=(CE l s).map (.int .i64):=by
  obtain ⟨lx,hx⟩:=h.key hs hw
  have hmem:∀e∈es,∃p∈l,e.key=HL q p.1∧e.val=.int .i64 p.2:=fun e he=>by
    have:(e.key,e.val)∈mapA q l:=by rw [←hes];exact List.mem_map.2 ⟨e,he,rfl⟩
    obtain ⟨p,h1,h2⟩:=List.mem_map.1 this
    injection h2 with h2 h3
    exact ⟨p,h1,h2.symm,h3.symm⟩
  rcases h.law.find w hx es (fun e he=>by
    obtain ⟨p,h1,h2,_⟩:=hmem e he
    rw [h2];exact h.key (hl p h1).1 (hl p h1).2) with ⟨h1,h2⟩|⟨j,e,h1,h2,h3⟩
  · refine ⟨none,h1,?_⟩
    have:CE l s=none:=E5.2 fun p hp he=>by
      have h4:(HL q p.1,Value.int .i64 p.2)∈es.map (fun e=>(e.key,e.val)):=by rw [hes];exact List.mem_map.2 ⟨p,hp,rfl⟩
      obtain ⟨e,h5,h6⟩:=List.mem_map.1 h4
      injection h6 with h6 h7
      exact h2 e h5 (by rw [h6,he])
    rw [this];rfl
  · refine ⟨_,h1,?_⟩
    obtain ⟨p,h4,h5,h6⟩:=hmem e (List.mem_of_getElem? h2)
    have h7:p.1=s:=Pj.1 (by rw [←h5,h3])
    rw [←h7,HS hd h4,h6];rfl
theorem Jy [h:DV P t n q] {s:List Int} (hs:s.length=n) (hw:∀x∈s,(Lit.int q x).wf=true) (b:Bool) (w:World):(Instr.checkKey b 10000 t (HL q s)).run P w=.ok () w:=by
  obtain ⟨lx,hx⟩:=h.key hs hw
  exact h.law.check w b hx
theorem PD {m e:TypeId} {x y:Operand} {id:Nat} {l:List (List Int×Int)} {s:List Int} [hm:Hb P m t e] [h:DV P t n q] [hz:MG P e (.int .i64 0)] (hx:ev f x=some (.o (.mp id))) (hy:ev f y=some (TH q s)) (ho:look σ id=some (.mp (mapA q l)))
    (hl:K1 n q l) (hd:l.Pairwise (fun a b=>a.1≠b.1)) (hs:s.length=n) (hw:∀x∈s,(Lit.int q x).wf=true) :
    AU P TB Γ ⟨d,.lookup m x y true,ty,pos,af,g⟩ f σ nx (.t [(false,[.d (.v (.int .i64 ((CE l s).getD 0)))]),(false,[.d (.v (.bool (CE l s).isSome))])]):=
  Ax fun V ρ hr hi=>by
    have e1:=hr.get (by simp [Op.operands]) hx
    have e2:ρ y=HL q s:=Hl (hr.get (by simp [Op.operands]) hy)
    generalize hv:ρ x=v at e1
    cases e1 with
    | mp hid =>
      obtain ⟨hn,ents,clock,h1,h2⟩:=hi.st.obj id _ ho
      obtain ⟨r,hfk,h4⟩:=Lb (P:=P) (t:=t) (es:=ents.toList) hl h2 hs hw hd V.w
      have hzz:=hz.out
      simp only [Option.bind_eq_some_iff] at hzz
      obtain ⟨i,hi1,hz1⟩:=hzz
      have hzv:(zeroValue e).run P V.w=.ok (.int .i64 0) V.w:=by simp [zeroValue,typeInfo,hi1,hz1,go_sem]
      have hck:=Jy (P:=P) (t:=t) hs hw ents.isEmpty V.w
      refine ⟨.tuple #[.int .i64 ((CE l s).getD 0),.bool (CE l s).isSome],?_,⟨_,rfl,rfl,fun j x v hj hv=>?_⟩⟩
      · cases r with
        | none=>
          have h5:CE l s=none:=by simpa using h4.symm
          simp [execOp,hv,e2,Instr.lookup,run_underlying hm.out,MapKept.run_getObj_map h1,hck,hfk,hzv,h5,go_sem]
        | some p=>
          obtain ⟨n,h5,h6⟩:∃n,CE l s=some n∧p.2=.int .i64 n:=by
            cases hf:CE l s with
            | none=>rw [hf] at h4;simp at h4
            | some n=>rw [hf] at h4;exact ⟨n,rfl,by simpa using h4⟩
          obtain ⟨q1,q2⟩:=p
          simp only at h6
          subst h6
          simp [execOp,hv,e2,Instr.lookup,run_underlying hm.out,MapKept.run_getObj_map h1,hck,hfk,h5,go_sem]
      · match j with
        | 0=>simp at hj hv;subst hj;subst hv;exact ⟨_,rfl,.d (.v rfl)⟩
        | 1=>simp at hj hv;subst hj;subst hv;exact ⟨_,rfl,.d (.v rfl)⟩
        | j+2=>simp at hj
theorem Vj {m e:TypeId} {x y z:Operand} {id:Nat} {l:List (List Int×Int)} {s:List Int} {v:Int} [hm:Hb P m t e] [h:DV P t n q] (hx:ev f x=some (.o (.mp id))) (hy:ev f y=some (TH q s)) (hz:ev f z=some (eI .i64 v)) (ho:look σ id=some (.mp (mapA q l)))
    (hl:K1 n q l) (hd:l.Pairwise (fun a b=>a.1≠b.1)) (hs:s.length=n) (hw:∀x∈s,(Lit.int q x).wf=true) (hn:CE l s=none) (hK:K (.t []) ((id,.mp (mapA q (l++[(s,v)])))::σ) nx):B0 P TB Γ ⟨d,.mapUpdate m x y z,ty,pos,af,g⟩ f σ nx K:=by
  intro V a h1 h2 h3
  have h1:=h1.EN
  unfold Oper.wp
  generalize a.eval=ρ at h1 ⊢
  have e1:=h1.get (x:=x) (by simp [Op.operands]) hx
  have e2:ρ y=HL q s:=Hl (h1.get (by simp [Op.operands]) hy)
  have e3:ρ z=.int .i64 v:=Aw.val (h1.get (by simp [Op.operands]) hz)
  generalize hv:ρ x=vx at e1
  cases e1 with
  | mp hid=>
    obtain ⟨hnl,ents,clock,h4,h5⟩:=h2.st.obj id _ ho
    obtain ⟨r,hfk,h7⟩:=Lb (P:=P) (t:=t) (es:=ents.toList) hl h5 hs hw hd V.w
    rw [hn] at h7
    have hr:r=none:=by cases r with
      | none=>rfl
      | some q=>simp at h7
    subst hr
    have hck:=Jy (P:=P) (t:=t) hs hw false V.w
    let ob:Obj:=.map (ents.push { key:=HL q s,val:=.int .i64 v,born:=clock }) (clock+1)
    let w':World:={ V.w with heap:=V.w.heap.setIfInBounds (V.ρ id) ob }
    have hset:=MapKept.run_setObj_map (P:=P) ob h4
    have hlt:=(Array.getElem?_eq_some_iff.1 h4).1
    obtain ⟨hi,he⟩:=h2.write ho hnl (w:=w') (ob':=.mp (mapA q (l++[(s,v)]))) rfl rfl rfl rfl rfl (by simp [w']) (fun b hb=>by simp [w',Array.getElem?_setIfInBounds,Ne.symm hb]) (by
      refine ⟨hnl,ents.push { key:=HL q s,val:=.int .i64 v,born:=clock },clock+1,?_,?_⟩
      · show w'.heap[V.ρ id]? = some ob
        simp [w',Array.getElem?_setIfInBounds,hlt]
      · simp [mapA] at h5 ⊢
        exact h5)
    have hrun:(execOp ρ ⟨d,.mapUpdate m x y z,ty,pos,af,g⟩).run P V.w=.ok .skip w':=by
      simp [execOp,hv,e2,e3,Instr.mapUpdate,run_underlying hm.out,MapKept.run_getObj_map h4,hck,hfk,hset,ob,w',go_sem]
    rw [hrun]
    exact ⟨{ V with w:=w' },.tuple #[],.t [],_,rfl,rfl,he,hi,⟨#[],rfl,rfl,fun j x v hj=>by simp at hj⟩,by rw [←h3] at hK;exact hK⟩
end
end Go.Am
namespace Go.Am
open Go Go.Proofs
set_option maxHeartbeats 1000000
attribute [local irreducible] AU B0 Lex Bo Ak Spec
variable {TB:A7}
abbrev QN (n:UInt8):List D:=[.v (.int .u8 n.toNat)]
abbrev NO (l:List UInt8):D:=.l (l.map QN)
abbrev AH (b:List UInt8) (p:Int):O:=.cells 105 2 [[.d (NO b),.d (iD p)]]
theorem RG {a b:Nat} (ha:a < 2 ^ 62) (hb:b < 2 ^ 62):Od .i64 a b=((a ^^^ b:Nat):Int):=by
  unfold Od
  have h1:(BitVec.ofInt IntKind.i64.bits (a:Int)).toNat=a:=by
    rw [BitVec.toNat_ofInt];have:IntKind.i64.bits=64:=rfl;rw [this];omega
  have h2:(BitVec.ofInt IntKind.i64.bits (b:Int)).toNat=b:=by
    rw [BitVec.toNat_ofInt];have:IntKind.i64.bits=64:=rfl;rw [this];omega
  rw [BitVec.toNat_xor,h1,h2]
  have h3:a ^^^ b < 2 ^ 62:=Nat.xor_lt_two_pow ha hb
  exact IntWalk.i64_in _ (by omega)
theorem TE {x y:Int} (hx:0≤x∧x < 4611686018427387904) (hy:0≤y∧y < 4611686018427387904):0≤Od .i64 x y∧Od .i64 x y < 4611686018427387904:=by
  obtain ⟨a,rfl⟩:∃a:Nat,x=a:=⟨x.toNat,by omega⟩
  obtain ⟨b,rfl⟩:∃b:Nat,y=b:=⟨y.toNat,by omega⟩
  rw [RG (by omega) (by omega)]
  have h3:a ^^^ b < 2 ^ 62:=Nat.xor_lt_two_pow (by omega) (by omega)
  omega
theorem GR (b:List UInt8) (hb:b.length≤9223372036854775807):∃b':List UInt8,b'.length≤2000∧AP Tryz.prog TB 47 0 [] 0 [.o (.d (NO b))] (fun x σ nx=>x=.o (.ptr 0 2 0 0)∧σ=[(0,AH b' 0)]∧nx=1):=by
  by_cases h:b.length≤2000
  · refine ⟨b,h,?_⟩
    refine AP.MD (m:=0) (Nat.le_of_ble_eq_true rfl) Tryz.func47 rfl (by kernel_rfl) (Nat.le_of_ble_eq_true rfl) ?_;intro Γ hΓ
    (repeat first|refine sN rfl ?_ |refine tX rfl ?_ |refine s2 rfl fun _ _hb=>?_ |refine aU rfl ?_ |refine Aa ?_)
    ((refine aC rfl ?_ ?_<;>rintro ⟨⟩);all_goals try (simp at _hb;done))
    · exfalso;(simp only[oZ] at *;omega)
    refine aK ?_
    (repeat first|refine tX rfl ?_|(refine Af rfl ?_;refine gA rfl ?_;first| refine gS (fun _ _=>AD rfl rfl (by rfl) (by rfl)) ?_) |refine aU rfl ?_)
    (refine pW rfl ?_ rfl (by rfl);refine Fq rfl rfl ?_)
    (repeat first|refine tX rfl ?_ |refine Aa ?_)
    refine aR ⟨_,rfl,rfl,rfl,rfl⟩
  · refine ⟨b.take 2000,by simp;omega,?_⟩
    have e:(b.map QN).take (2000:Int).toNat=(b.take 2000).map QN:=by simp [List.map_take]
    refine AP.MD (m:=0) (Nat.le_of_ble_eq_true rfl) Tryz.func47 rfl (by kernel_rfl) (Nat.le_of_ble_eq_true rfl) ?_;intro Γ hΓ
    (repeat first|refine sN rfl ?_ |refine tX rfl ?_ |refine s2 rfl fun _ _hb=>?_ |refine aU rfl ?_ |refine Aa ?_)
    ((refine aC rfl ?_ ?_<;>rintro ⟨⟩);all_goals try (simp at _hb;done))
    · (repeat first|refine tX rfl ?_|(refine Af rfl ?_;refine gA rfl ?_;first| refine gS (fun _ _=>Gm rfl rfl (by simp) (by omega) (by simp;omega)) ?_) |refine aU rfl ?_ |refine Aa ?_)
      rw [e]
      (repeat first| (refine Af rfl ?_;refine gA rfl ?_;first| refine gS (fun _ _=>AD rfl rfl (by rfl) (by rfl)) ?_))
      (refine pW rfl ?_ rfl (by rfl);refine Fq rfl rfl ?_)
      (repeat first|refine tX rfl ?_ |refine Aa ?_)
      refine aR ⟨_,rfl,rfl,rfl,rfl⟩
    · exfalso;(simp only[oZ] at *;omega)
theorem AJ (b:List UInt8) (hb:b.length≤2000) (p n:Int) (h0:0≤p∧p < 1000000000):∃k:Int,0≤k∧(k=0∨k < n)∧Spec Tryz.prog TB 62 [(0,AH b p)] 1 [.o (.ptr 0 2 0 0),eI .i64 n] (fun x σ nx=>x=eI .i64 k∧σ=[(0,AH b (p+1))]∧nx=1):=by
  by_cases hz:n < 1∨b.length=0
  · refine ⟨0,by omega,.inl rfl,?_⟩
    refine eR Tryz.func62 rfl (by kernel_rfl) rfl ?_;intro Γ hΓ
    (repeat' first|refine sN rfl ?_ |(refine sA rfl ?_ ?_;first|exact tI|omega|simp only[oZ] at *;omega) |refine s2 rfl fun _ _hb=>?_ |refine s3 rfl ?_ ?_<;>rintro rfl |refine aU rfl ?_ |refine Aa ?_ |refine rE (by kernel_rfl) ?_|(refine aC rfl ?_ ?_<;>rintro ⟨⟩)|refine aK ?_|refine aE ?_|refine aB ?_|refine aR ⟨_,rfl,?_⟩)
    all_goals first
      | (exfalso;(simp only[oZ] at *;omega);done)
      | refine ⟨[0],eI .i64 0,[(0,AH b (p+1))],⟨by first|(simp;done)|decide|(intro i hi;match i with|0=>rfl),by decide⟩,rfl,by (simp[cX,zC,hΓ]),rfl,rfl,rfl⟩
  have hl:0 < b.length:=by omega
  have hn:0 < n:=by omega
  by_cases hp:p < b.length
  · obtain ⟨c,hc⟩:=get_some (l:=b) (k:=(p+1 - 1).toNat) (by omega)
    have hc':=get_map (g:=QN) hc
    have hcl:=c.toNat_lt
    refine ⟨(c.toNat:Int) % n,Int.emod_nonneg _ (by omega),.inr (Int.emod_lt_of_pos _ hn),?_⟩
    refine eR Tryz.func62 rfl (by kernel_rfl) rfl ?_;intro Γ hΓ
    (repeat' first|refine sN rfl ?_ |(refine sA rfl ?_ ?_;first|exact tI|omega) |(refine s4 rfl ‹_› rfl ?_ ?_;omega) |refine s2 rfl fun _ _hb=>?_ |refine s3 rfl ?_ ?_<;>rintro rfl |refine aU rfl ?_ |refine Aa ?_ |refine rE (by kernel_rfl) ?_|(refine aC rfl ?_ ?_<;>rintro ⟨⟩)|refine aK ?_|refine aE ?_|refine aB ?_|refine aR ⟨_,rfl,?_⟩)
    all_goals first
      | (exfalso;(simp only[oZ] at *;omega);done)
      | refine ⟨[0],_,[(0,AH b (p+1))],⟨by first|(simp;done)|decide|(intro i hi;match i with|0=>rfl),by decide⟩,rfl,by (simp[cX,zC,hΓ]),rfl,rfl,rfl⟩
  · have hl':(0:Int) < b.length:=by omega
    have i1:=Int.emod_nonneg (p+1 - 1) (show (b.length:Int)≠0 by omega)
    have i2:=Int.emod_lt_of_pos (p+1 - 1) hl'
    have j1:=Int.emod_nonneg ((p+1 - 1)*7+3) (show (b.length:Int)≠0 by omega)
    have j2:=Int.emod_lt_of_pos ((p+1 - 1)*7+3) hl'
    obtain ⟨c,hc⟩:=get_some (l:=b) (k:=((p+1 - 1) % (b.length:Int)).toNat) (by omega)
    have hc':=get_map (g:=QN) hc
    have hcl:=c.toNat_lt
    obtain ⟨d,hd⟩:=get_some (l:=b) (k:=(((p+1 - 1)*7+3) % (b.length:Int)).toNat) (by omega)
    have hd':=get_map (g:=QN) hd
    have hdl:=d.toNat_lt
    have q1:0≤(p+1 - 1) / (b.length:Int):=Int.ediv_nonneg (by omega) (by omega)
    have q2:(p+1 - 1) / (b.length:Int)≤p+1 - 1:=Int.ediv_le_self _ (by omega)
    obtain ⟨x,hx⟩:∃x,x=(c.toNat:Int)*131+(d.toNat:Int)*1117+(p+1 - 1)*29+(p+1 - 1) / (b.length:Int)*53:=⟨_,rfl⟩
    have x1:0≤x∧x < 1000000000000:=by omega
    have y1:=TE (x:=x) (y:=x / 64) (by omega) (by omega)
    refine ⟨Od .i64 x (x / 64) % n,Int.emod_nonneg _ (by omega),.inr (Int.emod_lt_of_pos _ hn),?_⟩
    refine eR Tryz.func62 rfl (by kernel_rfl) rfl ?_;intro Γ hΓ
    (repeat' first|refine sN rfl ?_ |(refine sA rfl ?_ ?_;first|exact tI|omega) |(refine s4 rfl ‹_› rfl ?_ ?_;omega) |(refine s2 rfl fun _ _hb=>?_;try (simp only[Bool.not_true,Bool.not_false] at _hb;subst _hb))|(refine Af rfl ?_;refine gA rfl ?_;first| refine gS (fun _ _=>W8 rfl rfl rfl) ?_) |refine s3 rfl ?_ ?_<;>rintro rfl |refine aU rfl ?_ |refine Aa ?_ |refine rE (by kernel_rfl) ?_|(refine aC rfl ?_ ?_<;>rintro ⟨⟩)|refine aK ?_|refine aR ⟨_,rfl,?_⟩|(rw [←hx]))
    all_goals first
      | (exfalso;(simp only[oZ] at *;omega);done)
      | refine ⟨[0],_,[(0,AH b (p+1))],⟨by first|(simp;done)|decide|(intro i hi;match i with|0=>rfl),by decide⟩,rfl,by (simp[cX,zC,hΓ]),rfl,rfl,rfl⟩
theorem Bt (b:List UInt8) (hb:b.length≤2000) (p:Int) (h0:0≤p∧p < 1000000000) (l:List Int) (hl:0 < l.length) (hl2:l.length < 1000000):∃k∈l,Spec Tryz.prog TB 77 [(0,AH b p)] 1 [.o (.ptr 0 2 0 0),BP l] (fun x σ nx=>x=eI .i64 k∧σ=[(0,AH b (p+1))]∧nx=1):=by
  obtain ⟨k,k1,k2,h⟩:=AJ (TB:=TB) b hb p l.length h0
  obtain ⟨x,hx⟩:=get_some (l:=l) (k:=k.toNat) (by omega)
  have hx':=get_map (g:=Dv) hx
  refine ⟨x,List.mem_of_getElem? hx,?_⟩
  refine eR Tryz.func77 rfl (by kernel_rfl) rfl ?_;intro Γ hΓ
  (repeat first|refine sN rfl ?_ |refine tA rfl ?_ |refine aU rfl ?_ |refine Aa ?_)
  (refine pW rfl ?_ rfl (by rfl);refine Ac [0] rfl rfl (h) ⟨rfl,by decide,by decide⟩ rfl (by simp[cX,zC,hΓ]) ?_;rintro x0 σ1 nx1 ⟨rfl,rfl,rfl⟩ _)
  (repeat first|refine tA rfl ?_ |(refine s4 rfl ‹_› rfl ?_ ?_;omega) |refine Aa ?_)
  refine aR ⟨_,rfl,?_⟩
  refine ⟨[0],_,[(0,AH b (p+1))],⟨by first|(simp;done)|decide|(intro i hi;match i with|0=>rfl),by decide⟩,rfl,by (simp[cX,zC,hΓ]),rfl,rfl,rfl⟩
theorem Lt (b:List UInt8) (hb:b.length≤2000) (p:Int) (h0:0≤p∧p < 1000000000) (l:List W) (hl:0 < l.length) (hl2:l.length < 1000000):∃k∈l,Spec Tryz.prog TB 63 [(0,AH b p)] 1 [.o (.ptr 0 2 0 0),Bx l] (fun x σ nx=>x=eT k∧σ=[(0,AH b (p+1))]∧nx=1):=by
  obtain ⟨k,k1,k2,h⟩:=AJ (TB:=TB) b hb p l.length h0
  obtain ⟨x,hx⟩:=get_some (l:=l) (k:=k.toNat) (by omega)
  have hx':=get_map (g:=BM) hx
  refine ⟨x,List.mem_of_getElem? hx,?_⟩
  refine eR Tryz.func63 rfl (by kernel_rfl) rfl ?_;intro Γ hΓ
  (repeat first|refine sN rfl ?_ |refine tA rfl ?_ |refine aU rfl ?_ |refine Aa ?_)
  (refine pW rfl ?_ rfl (by rfl);refine Ac [0] rfl rfl (h) ⟨rfl,by decide,by decide⟩ rfl (by simp[cX,zC,hΓ]) ?_;rintro x0 σ1 nx1 ⟨rfl,rfl,rfl⟩ _)
  (repeat first|refine tA rfl ?_ |(refine s4 rfl ‹_› rfl ?_ ?_;omega) |refine Aa ?_)
  refine aR ⟨_,rfl,?_⟩
  refine ⟨[0],_,[(0,AH b (p+1))],⟨by first|(simp;done)|decide|(intro i hi;match i with|0=>rfl),by decide⟩,rfl,by (simp[cX,zC,hΓ]),rfl,rfl,rfl⟩
def Eu (F:PS):List Int:=[(F 0:Nat),(F 1:Nat),(F 2:Nat),(F 3:Nat),(F 4:Nat),(F 5:Nat),(F 6:Nat),(F 7:Nat),(F 8:Nat),(F 9:Nat),(F 10:Nat),(F 11:Nat)]
abbrev Lw (F:PS):List C:=Yi .u16 (Eu F)
abbrev Vu (F:PS):E:=TH .u16 (Eu F)
theorem Gl {F:PS} {p:Nat} (h:p < 12):(Eu F)[p]? = some (F p:Int):=by
  obtain rfl|rfl|rfl|rfl|rfl|rfl|rfl|rfl|rfl|rfl|rfl|rfl:p=0∨p=1∨p=2∨p=3∨p=4∨p=5∨p=6∨p=7∨p=8∨p=9∨p=10∨p=11:=by omega
  all_goals rfl
theorem Jn {F:PS} {p:Nat} (h:p < 12):(Lw F)[p]? = some (.d (.v (.int .u16 (F p:Int)))):=by simp [Gl h]
theorem Lx {F G:PS} (h:∀p,p < 12→F p=G p):Eu F=Eu G:=by
  unfold Eu
  rw [h 0 (by omega),h 1 (by omega),h 2 (by omega),h 3 (by omega),h 4 (by omega),h 5 (by omega),h 6 (by omega),h 7 (by omega),h 8 (by omega),h 9 (by omega),h 10 (by omega),h 11 (by omega)]
theorem Mk {F G:PS} (h:Eu F=Eu G):∀p,p < 12→F p=G p:=fun p hp=>by
  have:=Gl (F:=F) hp
  rw [h,Gl hp] at this
  injection this with this
  omega
theorem PA {F:PS} {p:Nat} (h:p < 12) {v:Nat}:Ae (Lw F) p [.d (.v (.int .u16 (v:Int)))]=Lw fun i=>if i=p then v else F i:=by
  have hl:(Lw F).length=12:=by simp [Eu]
  rw [Fk (by omega)]
  apply List.ext_getElem?
  intro i
  rw [List.getElem?_set]
  by_cases hi:i < 12
  · rw [Jn hi,Jn hi]
    by_cases e:p=i
    · subst e;rw [if_pos rfl,if_pos (by omega),if_pos rfl]
    · rw [if_neg e,if_neg (fun h=>e h.symm)]
  · have h1:∀G:PS,(Lw G)[i]? = none:=fun G=>List.getElem?_eq_none (by simp [Eu];omega)
    rw [h1,h1]
    by_cases e:p=i
    · omega
    · rw [if_neg e]
theorem u16_in {n:Nat} (h:n < 65536):IntKind.u16.wrap (n:Int)=n:=by
  unfold IntKind.wrap
  simp [IntKind.bits,IntKind.signed,IntKind.min,IntKind.max]
  omega
instance:DV Tryz.prog 132 12 .u16:=⟨⟨130,⟨by kernel_rfl,by kernel_rfl,by kernel_rfl,by kernel_rfl⟩,by kernel_rfl⟩,by kernel_rfl,fun h=>by
  have h2:Nat.beq Tryz.prog.types.size 0=false:=by kernel_rfl
  rw [h] at h2;cases h2⟩
def CS (t:BY) (l:Int) (F:PS) (k:Nat):PS:=fun p':Nat=>(List.range k).foldl (fun a p=>if Dl t.q p l=(p':Int) then a ||| Cn t.s l (F p) else a) 0
theorem Gk {t:BY} {l:Int} {F:PS} {k:Nat}:CS t l F (k+1)=fun p':Nat=>if Dl t.q k l=(p':Int) then CS t l F k p' ||| Cn t.s l (F k) else CS t l F k p':=by
  funext p'
  unfold CS
  rw [List.range_succ,List.foldl_append];rfl
theorem OG {s:Sys} {l:Int}:Cn s l 0=0:=by
  unfold Cn
  split
  · exact Gc fun j=>by
      cases h:(Bs s.es l 0).testBit j
      · rfl
      · obtain ⟨e,_,⟨_,h2⟩,_⟩:=Dq.1 h
        simp at h2
  · rfl
theorem Ln {t:BY} {l:Int} {F:PS} {k:Nat} (h:F k=0):CS t l F (k+1)=CS t l F k:=by
  rw [Gk]
  funext p'
  rw [h,OG]
  split<;>simp
theorem RZ {t:BY} {l:Int} {F:PS} (h:Cr t F) (hn:t.q.nx.length≤12):CS t l F 12=Pp t l F:=by
  have key:∀k,CS t l F (t.q.nx.length+k)=CS t l F t.q.nx.length:=fun k=>by
    induction k with
    | zero=>rfl
    | succ k ih=>rw [←Nat.add_assoc,Ln (h.z _ (by omega)),ih]
  have:=key (12 - t.q.nx.length)
  rw [show t.q.nx.length+(12 - t.q.nx.length)=12 by omega] at this
  rw [this];rfl
theorem Pq {t:BY} (ht:AR t=true) {l:Int} {F:PS} (h:Cr t F) (k p:Nat):CS t l F k p < 65536:=by
  induction k with
  | zero=>simp [CS]
  | succ k ih=>
    rw [Gk]
    simp only
    have h2:=FT ht (l:=l) (h.lt k)
    split
    · have:=Nat.or_lt_two_pow (n:=16) ih h2;omega
    · exact ih
structure Ex where
  F:List PS
  nx:List (List Int)
  un:List Bool
abbrev Ls (r:List Int):List C:=r.map fun x=>.d (iD x)
def KR (F:List PS):List (List Int×Int):=F.zipIdx.map fun x=>(Eu x.1,(x.2:Int))
abbrev SQ (t:BY) (a b c d:C):List C:=[.d (iD t.s.al),.d (iD t.s.st),.d (Ey t.s.es),.d (iD t.q.al),.d (Ez t.q.nx),.d (Iz t.q.ac),.d (iD t.al),.ip (Eb t.s.es),.d (.l (My t.q)),.d (IG (B4 t)),a,b,c,d]
abbrev I7 (t:BY) (m:Ex):Ab:=[(0,.cells 128 14 [SQ t (.arr 1 12 0 m.F.length) (.mp 2) (.arr 3 6 0 m.nx.length) (.arr 4 1 0 m.un.length)]),(1,.cells 132 12 (m.F.map Lw)),(2,.mp (mapA .u16 (KR m.F))),(3,.cells 97 6 (m.nx.map Ls)),(4,.cells 4 1 (m.un.map AL))]
theorem AB (r:Nat→Nat) (q:IntKind) (l:List Int):C.BT r (l.map fun x=>.d (.v (.int q x)))=l.map fun x=>.d (.v (.int q x)):=by
  rw [show (l.map fun x=>C.d (.v (.int q x)))=(l.map fun x=>D.v (.int q x)).map .d by simp,Mq]
theorem Kc {P:Program} {Γ:Ctx} {d:Option Tmp} {ty:TypeId} {pos:String} {af:Array Edge} {g:Option (Nat×Bool)} {f:Env} {σ:Ab} {nx:Nat} {t:TypeId} {x:Operand} {id k i j n:Nat} {T:TypeId} {rows:List (List C)} {r:List C} {c:C} [hl:C4 P t false n] (hx:ev f x=some (.o (.ptr id k i j))) (ho:look σ id=some (.cells T k rows)) (hr:rows[i]? = some r) (hc:r[j]? = some c) :
    AU P TB Γ ⟨d,.load t x,ty,pos,af,g⟩ f σ nx (.o c):=Nx hx ho hr (show Vd false n j r=some (.o c) by unfold Vd;rw [hc];rfl)
theorem Nh {r:List Nat}:∀i,i < 5→(0::1::2::3::4::r)[i]? = some i
  | 0,_|1,_|2,_|3,_|4,_=>rfl
  | n+5,h=>by omega
theorem Pd {a b:Nat} (ha:a < 65536) (hb:b < 65536):Qh .u16 (a:Int) (b:Int)=((a ||| b:Nat):Int):=by
  have h0:a ||| b < 2 ^ 16:=Nat.or_lt_two_pow (by omega) (by omega)
  unfold Qh
  have h1:(BitVec.ofInt IntKind.u16.bits (a:Int) ||| BitVec.ofInt IntKind.u16.bits (b:Int)).toNat=a ||| b:=by
    have e:IntKind.u16.bits=16:=rfl
    rw [e]
    simp only [BitVec.toNat_or,BitVec.ofInt_natCast,BitVec.toNat_ofNat]
    rw [Nat.mod_eq_of_lt (by omega),Nat.mod_eq_of_lt (by omega)]
  rw [h1]
  exact u16_in (by omega)
theorem Po [DG TB] {t:BY} (ht:AR t=true) (m:Ex) {l:Int} (hl:0≤l∧l < 6) {F:PS} (hF:Cr t F):Spec Tryz.prog TB 141 (I7 t m) 5 [.o (.ptr 0 14 0 0),Vu F,eI .i64 l] (fun x σ nx=>x=Vu (Pp t l F)∧σ=I7 t m∧nx=5):=by
  have hs:Bu t.s=true:=by unfold AR at ht;simp only [Bool.and_eq_true] at ht;exact ht.1
  have ha:=Cb ht
  have hah:=AN ha
  rw [←RZ hF (by omega)]
  refine eR Tryz.func141 rfl (by kernel_rfl) rfl ?_;intro Γ hΓ
  (repeat first|refine tA rfl ?_ |refine aU rfl ?_ |refine Aa ?_)
  refine aB ?_
  refine aL (α:={k:Nat // k≤12}) [0,2,6,7,11] [0,1,2,3,4,5] rfl rfl (fun s=>[(12,eI .i64 s.1)]) (fun s=>[(6,.cells 132 12 [Lw (CS t l F s.1)])]) 7 (fun s=>12 - s.1) (⟨0,by omega⟩) hΓ rfl (by (simp[cX,zC,hΓ,AB]<;>rfl)) ?_;rintro ⟨k,hk⟩;(try dsimp only[cA,cB])
  by_cases hkl:k < 12
  · have hx:(Eu F)[((k:Nat):Int).toNat]? = some (F k:Int):=by rw [Int.toNat_natCast];exact Gl hkl
    have hfk:=hF.lt k
    (repeat first|refine s2 rfl fun _ _hb=>?_ |refine aU rfl ?_ |refine Aa ?_)
    ((refine aC rfl ?_ ?_<;>rintro ⟨⟩);all_goals try(exfalso;(simp only[oZ] at *;omega)))
    refine aK ?_
    refine aS (aB ?_)
    (repeat first|refine tA rfl ?_ |refine s2 rfl fun _ _hb=>?_|(refine Af rfl ?_;refine gA rfl ?_;first| refine gS (fun _ _=>Hz (l:=Eu F) rfl rfl rfl (by omega) hx) ?_) |refine aU rfl ?_ |refine Aa ?_)
    (refine aC rfl ?_ ?_<;>rintro ⟨⟩)
    · have hz:F k=0:=by (simp only[oZ] at *;omega)
      refine aE ?_
      (repeat first|(refine sA rfl ?_ ?_;first|exact tI|omega) |refine aU rfl ?_ |refine Aa ?_)
      refine ⟨⟨k+1,by omega⟩,by dsimp only;(omega),[0,1,2,3,4,5,6],?_⟩
      simp[cX,zC,hΓ,AB,Ln hz];exact Nh
    · have hkn:k < t.q.nx.length:=by
        rcases Nat.lt_or_ge k t.q.nx.length with h1|h1
        · exact h1
        · have:=hF.z k h1;(simp only[oZ] at *;omega)
      have ta:=Mz (a:=t.q) (q:=((k:Nat):Int).toNat) (by omega)
      have ra:=Ki (h:=fun l=>Dl t.q k l) hl.1 hl.2
      have el:((l.toNat:Nat):Int)=l:=by omega
      simp only [el] at ra
      have hga:=FG ha hkn hl.1 hl.2
      have hst:=Ug (TB:=TB) hs hl hfk
      have hss:=FT ht (l:=l) hfk
      have hml:=Pq ht (l:=l) hF k
      obtain ⟨g,hg⟩:∃g:Nat,Dl t.q k l=g:=⟨(Dl t.q k l).toNat,by omega⟩
      rw [hg] at ra hga
      refine aK ?_
      (repeat first|(refine sA rfl ?_ ?_;first|exact tI|omega) |(refine sC rfl (JL _ _) ?_;intro _ _hb)|(refine Af rfl ?_;refine gA rfl ?_;first| refine gS (fun _ _=>Mm rfl (IntWalk.i64_in _ (by omega))) ?_) |refine aU rfl ?_ |refine Aa ?_)
      have ej:0+((g:Nat):Int).toNat*1=g:=by omega
      have hj:(Lw (CS t l F k))[0+((g:Nat):Int).toNat*1]? = some (.d (.v (.int .u16 (CS t l F k g:Int)))):=by rw [ej];exact Jn (by omega)
      have hor:=Pd (hml g) hss
      have hns:CS t l F (k+1)=fun p':Nat=>if p'=g then CS t l F k g ||| Cn t.s l (F k) else CS t l F k p':=by
        rw [Gk,hg]
        funext p'
        by_cases e:p'=g
        · subst e;simp
        · rw [if_neg e,if_neg (by omega)]
      have hset:=PA (F:=CS t l F k) (p:=g) (by omega) (v:=CS t l F k g ||| Cn t.s l (F k))
      rw [←hns] at hset
      (refine aC rfl ?_ ?_<;>rintro ⟨⟩)
      · have hb:DJ t.s.al l.toNat=true:=by simpa [hasB,hl.1] using _hb
        have hsm:Cn t.s l (F k)=Bs t.s.es l (F k):=by unfold Cn;rw [if_pos hb]
        rw [←hsm] at hst
        (repeat first|(refine sA rfl ?_ ?_;first|exact tI|omega) |(refine s4 rfl ‹_› rfl ?_ ?_;omega) |refine sP rfl (hst) rfl ?_ |refine aU rfl ?_ |refine Aa ?_)
        (repeat first|(refine sA rfl ?_ ?_;first|exact tI|omega)|(refine Af rfl ?_;refine gA rfl ?_;first| refine gS (fun _ _=>EY rfl ra) ?_|refine gQ (Kc rfl rfl rfl hj) rfl ?_|refine gS (fun _ _=>Mm rfl (u16_in hss)) ?_|refine gS (fun _ _=>VA rfl rfl hor) ?_))
        (refine Af rfl ?_;refine Fs ?_ rfl (by rfl);refine CB (r:=Lw (CS t l F k)) rfl rfl rfl rfl rfl rfl (by show 0+((g:Nat):Int).toNat*1+1≤12;omega) ?_)
        refine Aa ?_
        (repeat first|(refine sA rfl ?_ ?_;first|exact tI|omega) |refine aU rfl ?_ |refine Aa ?_)
        refine ⟨⟨k+1,by omega⟩,by dsimp only;(omega),[0,1,2,3,4,5,6],?_⟩
        simp[cX,zC,hΓ,AB,hor];exact ⟨Nh,by simpa [Ae] using hset⟩
      · have hb:DJ t.s.al l.toNat=false:=by simpa [hasB,hl.1] using _hb
        have hsm:Cn t.s l (F k)=F k:=by unfold Cn;rw [if_neg (by simp [hb])]
        rw [hsm] at hor hset
        refine aK ?_
        (repeat first|(refine sA rfl ?_ ?_;first|exact tI|omega) |(refine s4 rfl ‹_› rfl ?_ ?_;omega)|(refine Af rfl ?_;refine gA rfl ?_;first| refine gS (fun _ _=>EY rfl ra) ?_|refine gQ (Kc rfl rfl rfl hj) rfl ?_|refine gS (fun _ _=>Mm rfl (u16_in hfk)) ?_|refine gS (fun _ _=>VA rfl rfl hor) ?_) |refine aU rfl ?_)
        (refine Af rfl ?_;refine Fs ?_ rfl (by rfl);refine CB (r:=Lw (CS t l F k)) rfl rfl rfl rfl rfl rfl (by show 0+((g:Nat):Int).toNat*1+1≤12;omega) ?_)
        refine Aa ?_
        (repeat first|(refine sA rfl ?_ ?_;first|exact tI|omega) |refine aU rfl ?_ |refine Aa ?_)
        refine ⟨⟨k+1,by omega⟩,by dsimp only;(omega),[0,1,2,3,4,5,6],?_⟩
        simp[cX,zC,hΓ,AB,hor];exact ⟨Nh,by simpa [Ae] using hset⟩
  · obtain rfl:k=12:=by omega
    (repeat first|refine s2 rfl fun _ _hb=>?_ |refine aU rfl ?_ |refine Aa ?_)
    ((refine aC rfl ?_ ?_<;>rintro ⟨⟩);all_goals try(exfalso;(simp only[oZ] at *;omega)))
    refine aE ?_
    (repeat first|refine tA rfl ?_ |refine aU rfl ?_ |refine Aa ?_)
    refine aR ⟨_,rfl,[0,1,2,3,4],Vu (CS t l F 12),I7 t m,⟨Nh,by decide⟩,rfl,by (simp[cX,zC,hΓ,AB]),rfl,rfl,rfl⟩
def Fu (t:BY) (F:PS) (ls:List Int):PS:=fun p=>ls.foldl (fun a l=>a ||| Pp t l F p) (F p)
def Hr (A B:PS) (k:Nat):PS:=fun p=>if p < k then A p ||| B p else A p
theorem Qp {A B:PS} {k:Nat}:Hr A B (k+1)=fun p=>if p=k then Hr A B k k ||| B k else Hr A B k p:=by
  funext p
  unfold Hr
  by_cases e:p=k
  · subst e;simp
  · by_cases h:p < k
    · rw [if_pos (by omega),if_neg e,if_pos h]
    · rw [if_neg (by omega),if_neg e,if_neg h]
theorem Re {t:BY} {F:PS} {ls:List Int} {l:Int}:Fu t F (ls++[l])=fun p=>Fu t F ls p ||| Pp t l F p:=by
  funext p
  unfold Fu
  rw [List.foldl_append];rfl
theorem Px {α:Type} {g:α→Nat} {j:Nat}:∀ {l:List α} {a:Nat},(l.foldl (fun a x=>a ||| g x) a).testBit j=true↔a.testBit j=true∨∃x∈l,(g x).testBit j=true
  | [],a=>by simp
  | x::l,a=>by
    rw [List.foldl_cons,Px,Nat.testBit_or,Bool.or_eq_true]
    simp [or_assoc]
theorem EF {t:BY} {F:PS} {ls:List Int} {p j:Nat}:(Fu t F ls p).testBit j=true↔(F p).testBit j=true∨∃l∈ls,(Pp t l F p).testBit j=true:=Px
theorem O1 {t:BY} (ht:AR t=true) {F:PS} (h:Cr t F) {ls:List Int} (hl:∀l∈ls,0≤l∧l < 6):Cr t (Fu t F ls):=by
  refine ⟨fun p=>Gb fun j hj=>?_,fun p hp=>Gc fun j=>?_⟩
  · rcases EF.1 hj with h1|⟨l,h1,h2⟩
    · exact Ho (h.lt p) h1
    · exact Ho ((Ig ht (hl l h1) h).lt p) h2
  · cases hb:(Fu t F ls p).testBit j
    · rfl
    · rcases EF.1 hb with h1|⟨l,h1,h2⟩
      · rw [h.z p hp] at h1;simp at h1
      · rw [(Ig ht (hl l h1) h).z p hp] at h2;simp at h2
theorem sub_le {a b:Nat} (h:∀j,a.testBit j=true→b.testBit j=true):a≤b:=by
  have:a ||| b=b:=Nat.eq_of_testBit_eq fun j=>by
    rw [Nat.testBit_or]
    cases ha:a.testBit j
    · simp
    · simp [h j ha]
  rw [←this];exact Nat.left_le_or
def I6 (F:PS):Nat:=(65535 - F 0)+(65535 - F 1)+(65535 - F 2)+(65535 - F 3)+(65535 - F 4)+(65535 - F 5)+(65535 - F 6)+(65535 - F 7)+(65535 - F 8)+(65535 - F 9)+(65535 - F 10)+(65535 - F 11)
theorem Pn {F G:PS} (hF:∀p,F p < 65536) (hG:∀p,G p < 65536) (h:∀p,F p≤G p) (hne:Eu G≠Eu F):I6 G < I6 F:=by
  have h1:¬I6 F≤I6 G:=fun hle=>hne (Lx fun p hp=>by
    have a0:=h 0;have a1:=h 1;have a2:=h 2;have a3:=h 3;have a4:=h 4;have a5:=h 5;have a6:=h 6;have a7:=h 7;have a8:=h 8;have a9:=h 9;have a10:=h 10;have a11:=h 11
    have b0:=hG 0;have b1:=hG 1;have b2:=hG 2;have b3:=hG 3;have b4:=hG 4;have b5:=hG 5;have b6:=hG 6;have b7:=hG 7;have b8:=hG 8;have b9:=hG 9;have b10:=hG 10;have b11:=hG 11
    unfold I6 at hle
    obtain rfl|rfl|rfl|rfl|rfl|rfl|rfl|rfl|rfl|rfl|rfl|rfl:p=0∨p=1∨p=2∨p=3∨p=4∨p=5∨p=6∨p=7∨p=8∨p=9∨p=10∨p=11:=by omega
    all_goals omega)
  omega
theorem Um {F:PS} (h:∀p,F p < 65536):∀x∈Eu F,(Lit.int .u16 x).wf=true:=fun x hx=>by
  have:∃p,x=(F p:Int):=by
    unfold Eu at hx
    simp only [List.mem_cons,List.not_mem_nil,or_false] at hx
    rcases hx with h|h|h|h|h|h|h|h|h|h|h|h<;>exact ⟨_,h⟩
  obtain ⟨p,rfl⟩:=this
  have:=h p
  simp [Lit.wf,IntKind.min,IntKind.max,IntKind.signed,IntKind.bits]
  omega
section
variable {t:BY} (ht:AR t=true)
include ht
theorem Rf {F0 F:PS} (h2:∀p j,(F p).testBit j=true→MC t F0 p j) {p j:Nat} (h:(Fu t F (B4 t) p).testBit j=true):MC t F0 p j:=by
  rcases EF.1 h with h1|⟨l,hl,h1⟩
  · exact h2 p j h1
  · obtain ⟨q,hq,hg,hb⟩:=Jj.1 h1
    unfold Cn at hb
    rw [if_pos (E9 ht hl).2.2] at hb
    obtain ⟨e,he,⟨h3,h4⟩,h5⟩:=Dq.1 hb
    subst h3
    have:=MC.step (h2 q _ h4) he hl rfl
    rw [hg,h5] at this
    simpa using this
theorem P4 {F0 F:PS} (h0:Cr t F0) (hF:Cr t F) (h1:∀p j,(F0 p).testBit j=true→(F p).testBit j=true) (h2:∀p j,(F p).testBit j=true→MC t F0 p j) (he:Fu t F (B4 t)=F):F=NT t F0:=
  Rs ht h0 hF.z h1 h2 fun p l j hp hl hj=>by
    have hin:=E9 ht hl
    have hga:=FG (Cb ht) hp hin.1 hin.2.1
    rw [←he]
    refine EF.2 (.inr ⟨l,hl,Jj.2 ⟨p,hp,by omega,?_⟩⟩)
    unfold Cn
    rw [if_pos hin.2.2]
    exact hj
end
theorem MV [DG TB] {t:BY} (ht:AR t=true) (m:Ex) {F0:PS} (hF0:Cr t F0):Spec Tryz.prog TB 112 (I7 t m) 5 [.o (.ptr 0 14 0 0),Vu F0] (fun x σ nx=>x=Vu (NT t F0)∧σ=I7 t m∧nx=5):=by
  have hah:=AN (Cb ht)
  have hll:(B4 t).length≤6:=by
    unfold B4
    have h1:(Ag t.s.al).length≤6:=AO _ _
    exact Nat.le_trans (List.length_filter_le _ _) h1
  refine eR Tryz.func112 rfl (by kernel_rfl) rfl ?_;intro Γ hΓ
  (repeat first|refine aU rfl ?_)
  (refine pW rfl ?_ rfl (by rfl);refine Fq rfl rfl ?_)
  (repeat first|refine tM rfl ?_ |refine Aa ?_)
  refine aB ?_
  refine aL (α:={F:PS // Cr t F∧(∀p j,(F0 p).testBit j=true→(F p).testBit j=true)∧∀p j,(F p).testBit j=true→MC t F0 p j}) [0,3,4] [0,1,2,3,4,6] rfl rfl (fun s=>[]) (fun s=>[(5,.cells 132 12 [Lw s.1])]) 7 (fun s=>I6 s.1) (⟨F0,hF0,fun _ _ h=>h,fun _ _ h=>.base h⟩) hΓ rfl (by (simp[cX,zC,hΓ,AB]<;>rfl)) ?_;rintro ⟨F,hF,h1,h2⟩;(try dsimp only[cA,cB])
  have hF:Cr t F:=hF
  refine aB ?_
  (repeat first|refine sN rfl ?_ |refine tA rfl ?_ |refine aU rfl ?_ |refine Aa ?_)
  refine aB ?_
  refine aL (α:={k:Nat // k≤(B4 t).length}) [0,3,4,5,14,15] [0,1,2,3,4,5,6] rfl rfl (fun s=>[(16,eI .i64 s.1)]) (fun s=>[(7,.cells 132 12 [Lw (Fu t F ((B4 t).take s.1))])]) 8 (fun s=>(B4 t).length - s.1) (⟨0,by omega⟩) hΓ rfl (by (simp[cX,zC,hΓ,AB]<;>rfl)) ?_;rintro ⟨k,hk⟩;(try dsimp only[cA,cB])
  by_cases hkl:k < (B4 t).length
  · obtain ⟨l,hlk⟩:=get_some hkl
    have hin:=E9 ht (List.mem_of_getElem? hlk)
    have hl':((B4 t).map Dv)[((k:Nat):Int).toNat]? = some (Dv l):=by rw [Int.toNat_natCast];simp [hlk]
    have hall:∀x∈(B4 t).take k,0≤x∧x < 6:=fun x hx=>by
      have:=E9 ht (List.mem_of_mem_take hx)
      omega
    have hA:=O1 ht hF hall
    have hG:=Ig ht (l:=l) ⟨hin.1,hin.2.1⟩ hF
    have hnx:Fu t F ((B4 t).take (k+1))=fun p=>Fu t F ((B4 t).take k) p ||| Pp t l F p:=by rw [List.take_add_one,hlk];exact Re
    have hmv:=Po (TB:=TB) ht m (l:=l) ⟨hin.1,hin.2.1⟩ hF
    generalize Fu t F ((B4 t).take k)=A at *
    generalize Pp t l F=G at *
    (repeat first|refine s2 rfl fun _ _hb=>?_ |refine aU rfl ?_ |refine Aa ?_)
    ((refine aC rfl ?_ ?_<;>rintro ⟨⟩);all_goals try(exfalso;(simp only[oZ] at *;omega)))
    refine aK ?_
    refine aS (aB ?_)
    (repeat first|refine tA rfl ?_ |(refine s4 rfl ‹_› rfl ?_ ?_;omega) |refine aU rfl ?_ |refine Aa ?_)
    (refine pW rfl ?_ rfl (by rfl);refine Ac [0,1,2,3,4] rfl rfl (hmv) ⟨rfl,by decide,by decide⟩ rfl (by simp[cX,zC,hΓ,AB]) ?_;rintro x0 σ1 nx1 ⟨rfl,rfl,rfl⟩ _)
    (repeat first|refine tA rfl ?_)
    refine Aa ?_
    refine aB ?_
    refine aL (α:={p:Nat // p≤12}) [0,3,4,5,14,15,16,23] [0,1,2,3,4,5,6] rfl rfl (fun s=>[(24,eI .i64 s.1)]) (fun s=>[(7,.cells 132 12 [Lw (Hr A G s.1)])]) 8 (fun s=>12 - s.1) (⟨0,by omega⟩) hΓ rfl (by (simp[cX,zC,hΓ,AB]<;>rfl)) ?_;rintro ⟨p,hp⟩;(try dsimp only[cA,cB])
    by_cases hpl:p < 12
    · have hx:(Eu G)[((p:Nat):Int).toNat]? = some (G p:Int):=by rw [Int.toNat_natCast];exact Gl hpl
      have ej:0+((p:Nat):Int).toNat*1=p:=by omega
      have hmx:Hr A G p p < 65536:=by
        unfold Hr
        rw [if_neg (by omega)]
        exact hA.lt p
      have hj:(Lw (Hr A G p))[0+((p:Nat):Int).toNat*1]? = some (.d (.v (.int .u16 (Hr A G p p:Int)))):=by rw [ej];exact Jn hpl
      have hor:=Pd hmx (hG.lt p)
      have hset:=PA (F:=Hr A G p) (p:=p) hpl (v:=Hr A G p p ||| G p)
      rw [←Qp] at hset
      (repeat first|refine s2 rfl fun _ _hb=>?_ |refine aU rfl ?_ |refine Aa ?_)
      ((refine aC rfl ?_ ?_<;>rintro ⟨⟩);all_goals try(exfalso;(simp only[oZ] at *;omega)))
      refine aK ?_
      refine aS (aB ?_)
      (repeat first|(refine sA rfl ?_ ?_;first|exact tI|omega)|(refine Af rfl ?_;refine gA rfl ?_;first| refine gS (fun _ _=>Hz (l:=Eu G) rfl rfl rfl (by omega) hx) ?_|refine gQ (Kc rfl rfl rfl hj) rfl ?_) |refine aU rfl ?_ |refine Aa ?_)
      (refine Af rfl ?_;refine Fs ?_ rfl (by rfl);refine CB (r:=Lw (Hr A G p)) rfl rfl rfl rfl rfl rfl (by show 0+((p:Nat):Int).toNat*1+1≤12;omega) ?_)
      refine Aa ?_
      (repeat first|(refine sA rfl ?_ ?_;first|exact tI|omega) |refine aU rfl ?_ |refine Aa ?_)
      refine ⟨⟨p+1,by omega⟩,by dsimp only;(omega),[0,1,2,3,4,5,6,7],?_⟩
      simp[cX,zC,hΓ,AB,hor];exact ⟨Nh,by simpa [Ae] using hset⟩
    · obtain rfl:p=12:=by omega
      have hmx:Eu (Hr A G 12)=Eu fun p=>A p ||| G p:=Lx fun p hp=>by unfold Hr;rw [if_pos hp]
      (repeat first|refine s2 rfl fun _ _hb=>?_ |refine aU rfl ?_ |refine Aa ?_)
      ((refine aC rfl ?_ ?_<;>rintro ⟨⟩);all_goals try(exfalso;(simp only[oZ] at *;omega)))
      refine aE ?_
      (repeat first|(refine sA rfl ?_ ?_;first|exact tI|omega) |refine aU rfl ?_ |refine Aa ?_)
      refine ⟨⟨k+1,by omega⟩,by dsimp only;(omega),[0,1,2,3,4,5,6,7],?_⟩
      simp[cX,zC,hΓ,AB,hnx];exact ⟨Nh,congrArg (List.map _) hmx⟩
  · obtain rfl:k=(B4 t).length:=by omega
    rw [List.take_length]
    have hA:=O1 ht hF fun x hx=>by
      have:=E9 ht hx
      show 0≤x∧x < 6
      omega
    (repeat first|refine s2 rfl fun _ _hb=>?_ |refine aU rfl ?_ |refine Aa ?_)
    ((refine aC rfl ?_ ?_<;>rintro ⟨⟩);all_goals try(exfalso;(simp only[oZ] at *;omega)))
    refine aE ?_
    (repeat first|refine tA rfl ?_|(refine Af rfl ?_;refine gA rfl ?_;first| (refine gB (fun _ _=>WS (a:=Eu (Fu t F (B4 t))) (b:=Eu F) rfl rfl rfl rfl (Um hA.lt) (Um hF.lt)) ?_;intro _ _hb)) |refine aU rfl ?_ |refine Aa ?_)
    (refine aC rfl ?_ ?_<;>rintro ⟨⟩)
    · have he:Fu t F (B4 t)=F:=by
        have h3:Eu (Fu t F (B4 t))=Eu F:=by simpa using _hb
        have h4:=Mk h3
        funext p
        rcases Nat.lt_or_ge p 12 with h5|h5
        · exact h4 p h5
        · rw [hA.z p (by omega),hF.z p (by omega)]
      rw [←P4 ht hF0 hF h1 h2 he]
      (repeat first|refine tA rfl ?_ |refine aU rfl ?_ |refine Aa ?_)
      refine aR ⟨_,rfl,[0,1,2,3,4],Vu F,I7 t m,⟨Nh,by decide⟩,rfl,by (simp[cX,zC,hΓ,AB]),rfl,rfl,rfl⟩
    · have hne:Eu (Fu t F (B4 t))≠Eu F:=by simpa using _hb
      have hsub:∀p,F p≤Fu t F (B4 t) p:=fun p=>sub_le fun j hj=>EF.2 (.inl hj)
      have hm:=Pn hF.lt hA.lt hsub hne
      refine aK ?_
      (repeat first|refine tA rfl ?_ |refine aU rfl ?_ |refine Aa ?_)
      refine ⟨⟨Fu t F (B4 t),hA,fun p j hj=>EF.2 (.inl (h1 p j hj)),fun p j hj=>Rf ht h2 hj⟩,by dsimp only;(omega),[0,1,2,3,4,5,6],?_⟩
      simp[cX,zC,hΓ,AB];exact ⟨Nh,rfl,rfl⟩
inductive Reach (t:BY):PS→Prop
  | start:Reach t (B3 t)
  | next {F:PS} {l:Int}:0≤l→l < 6→Reach t F→Reach t (DF t l F)
theorem Reach.ok {t:BY} (ht:AR t=true) {F:PS} (h:Reach t F):Cr t F:=by
  induction h with
  | start=>exact Ir ht
  | next h0 h1 _ ih=>exact JY ht ⟨h0,h1⟩ ih
noncomputable def Kk (t:BY):PS→W→PS
  | F,[]=>F
  | F,c::w=>Kk t (DF t ((c.toNat:Int) - 97) F) w
theorem NG {t:BY}:∀(u v:W) (F:PS),Kk t F (u++v)=Kk t (Kk t F u) v
  | [],v,F=>rfl
  | c::u,v,F=>by simp only [List.cons_append,Kk];exact NG u v _
def Xk (t:BY) (ok:W→Prop) (F:PS):Prop:=F=B3 t∨∃u v,ok (u++v)∧F=Kk t (B3 t) u
def Uo (t:BY) (ok:W→Prop):Prop:=∀l:List PS,l.Nodup→(∀F∈l,Xk t ok F)→l.length≤1099511627776
structure Gx (t:BY) (ok:W→Prop) (m:Ex):Prop where
  l1:m.nx.length=m.F.length
  l2:m.un.length=m.F.length
  nd:m.F.Nodup
  rc:∀F∈m.F,Reach t F
  rk:∀F∈m.F,Xk t ok F
  un:∀(i:Nat) F,m.F[i]? = some F→m.un[i]? = some (HP t F)
  nx:∀(i:Nat) F,m.F[i]? = some F→∃r:List Int,m.nx[i]? = some r∧r.length=6∧∀l:Nat,l < 6→∃x,r[l]? = some x∧(x < 0∨∃j:Nat,x=j∧m.F[j]? = some (DF t l F))
def Gs (t:BY) (m:Ex) (G:PS):Ex:=⟨m.F++[G],m.nx++[[-1,-1,-1,-1,-1,-1]],m.un++[HP t G]⟩
theorem Ux {t:BY} (ht:AR t=true) {F G:PS} (hF:Cr t F) (hG:Cr t G) (h:Eu F=Eu G):F=G:=by
  have h4:=Mk h
  have h0:=AN (Cb ht)
  funext p
  rcases Nat.lt_or_ge p 12 with h5|h5
  · exact h4 p h5
  · rw [hF.z p (by omega),hG.z p (by omega)]
theorem LZ {l:List PS} {p:List Int×Int}:p∈KR l↔∃(i:Nat) (F:PS),l[i]? = some F∧p=(Eu F,(i:Int)):=by
  unfold KR
  rw [List.mem_map]
  constructor
  · rintro ⟨⟨F,i⟩,h,rfl⟩
    exact ⟨i,F,List.mk_mem_zipIdx_iff_getElem?.1 h,rfl⟩
  · rintro ⟨i,F,h,rfl⟩
    exact ⟨(F,i),List.mk_mem_zipIdx_iff_getElem?.2 h,rfl⟩
theorem TP (l:List PS) (G:PS):KR (l++[G])=KR l++[(Eu G,(l.length:Int))]:=by
  unfold KR
  rw [List.zipIdx_append]
  simp
theorem RY {t:BY} (ht:AR t=true) {l:List PS} (hn:l.Nodup) (hr:∀F∈l,Reach t F):(KR l).Pairwise (fun a b=>a.1≠b.1):=by
  unfold KR
  rw [List.pairwise_map,List.pairwise_iff_getElem]
  intro i j h1 h2 hij
  simp only [List.length_zipIdx] at h1 h2
  simp only [List.getElem_zipIdx]
  intro he
  have:=Ux ht ((hr _ (List.getElem_mem h1)).ok ht) ((hr _ (List.getElem_mem h2)).ok ht) he
  exact List.pairwise_iff_getElem.1 hn i j h1 h2 hij this
theorem RX {t:BY} (ht:AR t=true) {l:List PS} (hr:∀F∈l,Reach t F):K1 12 .u16 (KR l):=fun p hp=>by
  obtain ⟨i,F,h1,rfl⟩:=LZ.1 hp
  exact ⟨rfl,Um ((hr F (List.mem_of_getElem? h1)).ok ht).lt⟩
theorem Qd {t:BY} (ht:AR t=true) {l:List PS} (hn:l.Nodup) (hr:∀F∈l,Reach t F) {G:PS} (hG:Cr t G) {v:Int} (h:CE (KR l) (Eu G)=some v):∃k:Nat,v=k∧l[k]? = some G:=by
  have:∃p∈KR l,p.1=Eu G:=by
    refine Classical.byContradiction fun hc=>?_
    have h2:CE (KR l) (Eu G)=none:=E5.2 fun p hp he=>hc ⟨p,hp,he⟩
    rw [h2] at h;cases h
  obtain ⟨p,hp,he⟩:=this
  have h3:=HS (RY ht hn hr) hp
  rw [he,h] at h3
  obtain ⟨i,F,h4,rfl⟩:=LZ.1 hp
  have:=Ux ht ((hr F (List.mem_of_getElem? h4)).ok ht) hG he
  subst this
  exact ⟨i,by injection h3,h4⟩
theorem Qc {l:List PS} {G:PS} (h:CE (KR l) (Eu G)=none):G∉l:=fun hG=>by
  obtain ⟨i,hi,he⟩:=List.getElem_of_mem hG
  exact E5.1 h (Eu G,(i:Int)) (LZ.2 ⟨i,G,by rw [List.getElem?_eq_getElem hi,he],rfl⟩) rfl
theorem He {α:Type} {l:List α} {a x:α} {i:Nat} (h:l[i]? = some x):(l++[a])[i]? = some x:=by
  rw [List.getElem?_append_left (List.getElem?_eq_some_iff.1 h).1];exact h
theorem MN {α:Type} {l:List α} {a x:α} {i:Nat} (h:(l++[a])[i]? = some x):l[i]? = some x∨i=l.length∧x=a:=by
  rcases Nat.lt_or_ge i l.length with h1|h1
  · rw [List.getElem?_append_left h1] at h;exact .inl h
  · rw [List.getElem?_append_right h1] at h
    have h2:i - l.length < 1:=(List.getElem?_eq_some_iff.1 h).1
    have h3:i=l.length:=by simp at h2;omega
    subst h3
    simp at h
    exact .inr ⟨rfl,h.symm⟩
theorem O0 {t:BY} {ok:W→Prop} {m:Ex} (hm:Gx t ok m) {G:PS} (hG:Reach t G) (hk:Xk t ok G) (h:G∉m.F):Gx t ok (Gs t m G):=by
  refine ⟨by simp [Gs,hm.l1],by simp [Gs,hm.l2],?_,?_,?_,?_,?_⟩
  · show (m.F++[G]).Nodup
    rw [List.nodup_append]
    exact ⟨hm.nd,by simp,fun a ha b hb=>by simp at hb;subst hb;intro e;subst e;exact h ha⟩
  · intro F hF
    rcases List.mem_append.1 hF with hF|hF
    · exact hm.rc F hF
    · simp at hF;subst hF;exact hG
  · intro F hF
    rcases List.mem_append.1 hF with hF|hF
    · exact hm.rk F hF
    · simp at hF;subst hF;exact hk
  · intro i F hF
    rcases MN hF with h1|⟨h1,rfl⟩
    · exact He (hm.un i F h1)
    · subst h1;show (m.un++[HP t F])[m.F.length]? = _;rw [←hm.l2];simp
  · intro i F hF
    rcases MN hF with h1|⟨h1,rfl⟩
    · obtain ⟨r,h2,h3,h4⟩:=hm.nx i F h1
      refine ⟨r,He h2,h3,fun l hl=>?_⟩
      obtain ⟨x,h5,h6⟩:=h4 l hl
      refine ⟨x,h5,h6.imp id ?_⟩
      rintro ⟨j,h7,h8⟩
      exact ⟨j,h7,He h8⟩
    · refine ⟨[-1,-1,-1,-1,-1,-1],by subst h1;show (m.nx++_)[m.F.length]? = _;rw [←hm.l1];simp,rfl,fun l hl=>⟨-1,?_,.inl (by omega)⟩⟩
      obtain rfl|rfl|rfl|rfl|rfl|rfl:l=0∨l=1∨l=2∨l=3∨l=4∨l=5:=by omega
      all_goals rfl
def EL (t:BY) (F:PS) (k:Nat):Bool:=(List.range k).any fun p=>decide (F p≠0) && !(t.q.ac.getD p false)
theorem GK {t:BY} {F:PS} {k:Nat}:EL t F (k+1)=(EL t F k || (decide (F k≠0) && !(t.q.ac.getD k false))):=by
  unfold EL
  rw [List.range_succ,List.any_append];simp
theorem PZ {t:BY} {F:PS} (h:Cr t F) (hn:t.q.nx.length≤12):EL t F 12=HP t F:=by
  have key:∀k,EL t F (t.q.nx.length+k)=EL t F t.q.nx.length:=fun k=>by
    induction k with
    | zero=>rfl
    | succ k ih=>rw [←Nat.add_assoc,GK,ih,h.z _ (by omega)];simp
  have:=key (12 - t.q.nx.length)
  rw [show t.q.nx.length+(12 - t.q.nx.length)=12 by omega] at this
  rw [this];rfl
section
variable {P:Program} {Γ:Ctx} {d:Option Tmp} {ty:TypeId} {pos:String} {af:Array Edge} {g:Option (Nat×Bool)} {f:Env} {σ:Ab} {nx:Nat} {t:TypeId} {n:Nat} {q:IntKind} {m e:TypeId} {x y:Operand} {id:Nat} {l:List (List Int×Int)} {s:List Int}
theorem Sz {v:Int} [hm:Hb P m t e] [h:DV P t n q] [hz:MG P e (.int .i64 0)] (hv:CE l s=some v) (hx:ev f x=some (.o (.mp id))) (hy:ev f y=some (TH q s)) (ho:look σ id=some (.mp (mapA q l)))
    (hl:K1 n q l) (hd:l.Pairwise (fun a b=>a.1≠b.1)) (hs:s.length=n) (hw:∀x∈s,(Lit.int q x).wf=true) :
    AU P TB Γ ⟨d,.lookup m x y true,ty,pos,af,g⟩ f σ nx (.t [(false,[.d (.v (.int .i64 v))]),(false,[.d (.v (.bool true))])]):=by
  have:=PD (P:=P) (TB:=TB) (Γ:=Γ) (d:=d) (ty:=ty) (pos:=pos) (af:=af) (g:=g) (nx:=nx) (t:=t) (m:=m) (e:=e) hx hy ho hl hd hs hw
  rw [hv] at this;exact this
theorem Sy [hm:Hb P m t e] [h:DV P t n q] [hz:MG P e (.int .i64 0)] (hv:CE l s=none) (hx:ev f x=some (.o (.mp id))) (hy:ev f y=some (TH q s)) (ho:look σ id=some (.mp (mapA q l)))
    (hl:K1 n q l) (hd:l.Pairwise (fun a b=>a.1≠b.1)) (hs:s.length=n) (hw:∀x∈s,(Lit.int q x).wf=true) :
    AU P TB Γ ⟨d,.lookup m x y true,ty,pos,af,g⟩ f σ nx (.t [(false,[.d (.v (.int .i64 0))]),(false,[.d (.v (.bool false))])]):=by
  have:=PD (P:=P) (TB:=TB) (Γ:=Γ) (d:=d) (ty:=ty) (pos:=pos) (af:=af) (g:=g) (nx:=nx) (t:=t) (m:=m) (e:=e) hx hy ho hl hd hs hw
  rw [hv] at this;exact this
end
theorem Rg {t:BY} {ok:W→Prop} (ht:AR t=true) {m:Ex} (hm:Gx t ok m) (hlen:m.F.length≤1099511627776) {G:PS} (hG:Cr t G):∃(m':Ex) (k:Nat),((m'=m∧m.F[k]? = some G)∨(m'=Gs t m G∧k=m.F.length∧G∉m.F))∧
    AP Tryz.prog TB 111 1 (I7 t m) 5 [.o (.ptr 0 14 0 0),Vu G] (fun x σ nx=>x=eI .i64 (k:Int)∧σ=I7 t m'∧nx=5):=by
  have hah:=AN (Cb ht)
  have hpw:=RY ht hm.nd hm.rc
  have hks:=RX ht hm.rc
  have hwf:=Um hG.lt
  cases hf:CE (KR m.F) (Eu G) with
  | some v=>
    obtain ⟨k,rfl,hk⟩:=Qd ht hm.nd hm.rc hG hf
    refine ⟨m,k,.inl ⟨rfl,hk⟩,?_⟩
    refine AP.AQ (AP.MD (m:=1) (Nat.le_of_ble_eq_true rfl) Tryz.func111 rfl (by kernel_rfl) (Nat.le_of_ble_eq_true rfl) ?_);intro Γ hΓ
    (repeat first|refine tA rfl ?_ |refine aU rfl ?_ |refine Aa ?_)
    refine rG (KD []) (by kernel_rfl) ?_
    (repeat first|refine tA rfl ?_|(refine Af rfl ?_;refine gA rfl ?_;first| refine gQ (Sz (s:=Eu G) (l:=KR m.F) hf rfl rfl rfl hks hpw rfl hwf) rfl ?_) |refine aU rfl ?_ |refine Aa ?_)
    (refine aC rfl ?_ ?_<;>rintro ⟨⟩)
    (repeat first|refine tA rfl ?_ |refine aU rfl ?_ |refine Aa ?_)
    refine aR ⟨_,rfl,[0,1,2,3,4],eI .i64 (k:Int),I7 t m,⟨by intro i hi;match i with|0=>rfl,by decide⟩,rfl,by (simp[cX,zC,hΓ,AB]),rfl,rfl,rfl⟩
  | none =>
    refine ⟨Gs t m G,m.F.length,.inr ⟨rfl,rfl,Qc hf⟩,?_⟩
    have h1:=hm.l1
    have h2:=hm.l2
    have hap:=TP m.F G
    refine AP.AQ (AP.MD (m:=1) (Nat.le_of_ble_eq_true rfl) Tryz.func111 rfl (by kernel_rfl) (Nat.le_of_ble_eq_true rfl) ?_);intro Γ hΓ
    (repeat first|refine tA rfl ?_ |refine aU rfl ?_ |refine Aa ?_)
    refine rG (KD []) (by kernel_rfl) ?_
    (repeat first|refine tA rfl ?_|(refine Af rfl ?_;refine gA rfl ?_;first| refine gQ (Sy (s:=Eu G) (l:=KR m.F) hf rfl rfl rfl hks hpw rfl hwf) rfl ?_) |refine aU rfl ?_ |refine Aa ?_)
    (refine aC rfl ?_ ?_<;>rintro ⟨⟩)
    refine aK ?_
    (repeat first|refine tA rfl ?_ |refine aU rfl ?_ |refine Aa ?_)
    refine rG (KD [6]) (by kernel_rfl) ?_
    (repeat first|refine tA rfl ?_)
    (refine Af rfl ?_;refine Fs ?_ rfl (by rfl);refine Vj (s:=Eu G) (l:=KR m.F) rfl rfl rfl rfl hks hpw rfl hwf hf ?_)
    rw [←hap]
    refine Aa ?_
    (repeat first|refine aU rfl ?_)
    refine rG (JJ [(4,0),(7,1),(10,1)]) (by kernel_rfl) ?_
    (repeat first|refine tA rfl ?_)
    (refine pW rfl ?_ rfl (by rfl);refine AE rfl rfl rfl (by first| (simp;done)|(simp;(omega))) rfl (by intro r hr;simp at hr;subst hr;rfl) (by rfl) (Nat.le_of_ble_eq_true rfl) (by simp;omega) ?_)
    (repeat first|refine tA rfl ?_ |refine aU rfl ?_ |refine Aa ?_)
    (repeat first|refine tA rfl ?_|(refine Af rfl ?_;refine gA rfl ?_;first| refine gS (fun _ _=>AD rfl rfl (by rfl) (by rfl)) ?_))
    (refine pW rfl ?_ rfl (by rfl);refine AE rfl rfl rfl (by first| (simp;done)|(simp;(omega))) rfl (by intro r hr;simp at hr;subst hr;rfl) (by rfl) (Nat.le_of_ble_eq_true rfl) (by simp;omega) ?_)
    (repeat first|refine tA rfl ?_ |refine aU rfl ?_ |refine Aa ?_)
    refine Ak.Aj [0,7,8,53,54] [] rfl rfl [] [(0,.cells 128 14 [SQ t (.arr 1 12 0 (Gs t m G).F.length) (.mp 2) (.arr 3 6 0 (Gs t m G).nx.length) (.arr 4 1 0 m.un.length)]),(1,.cells 132 12 ((Gs t m G).F.map Lw)),(2,.mp (mapA .u16 (KR (Gs t m G).F))),(3,.cells 97 6 ((Gs t m G).nx.map Ls)),(4,.cells 4 1 (m.un.map AL))] [0,5,2,6,4] (rl hΓ rfl) (by (simp[cX,zC,hΓ,AB,Gs]<;>rfl)) ?_;(try dsimp only[cA,cB])
    refine aB ?_
    refine aL (α:={k:Nat // k≤12}) [0,7,53] [0,1,2,3,4] rfl rfl (fun s=>[(8,eB (EL t G s.1)),(54,eI .i64 s.1)]) (fun s=>[]) 5 (fun s=>12 - s.1) (⟨0,by omega⟩) hΓ rfl (by (simp[cX,zC,hΓ,AB]<;>rfl)) ?_;rintro ⟨k,hk⟩;(try dsimp only[cA,cB])
    by_cases hkl:k < 12
    · have hx:(Eu G)[((k:Nat):Int).toNat]? = some (G k:Int):=by rw [Int.toNat_natCast];exact Gl hkl
      have hs:=GK (t:=t) (F:=G) (k:=k)
      generalize EL t G k=b0 at *
      by_cases hkn:k < t.q.nx.length
      · obtain ⟨b,hb⟩:=get_some (l:=t.q.ac) (k:=((k:Nat):Int).toNat) (by omega)
        have hb':=get_map (g:=KI) hb
        have hgd:t.q.ac.getD k false=b:=by rw [Int.toNat_natCast] at hb;simp [List.getD,hb]
        rw [hgd] at hs
        (repeat first|refine s2 rfl fun _ _hb=>?_ |refine aU rfl ?_ |refine Aa ?_)
        ((refine aC rfl ?_ ?_<;>rintro ⟨⟩);all_goals try(exfalso;(simp only[oZ] at *;omega)))
        refine aK ?_
        refine aS (aB ?_)
        (repeat' first|(refine sA rfl ?_ ?_;first|exact tI|omega) |(refine s4 rfl ‹_› rfl ?_ ?_;omega) |refine s2 rfl fun _ _hb=>?_|(refine Af rfl ?_;refine gA rfl ?_;first| refine gS (fun _ _=>Hz (l:=Eu G) rfl rfl rfl (by omega) hx) ?_) |refine s3 rfl ?_ ?_<;>rintro rfl |refine aU rfl ?_ |refine Aa ?_|(refine aC rfl ?_ ?_<;>rintro ⟨⟩));all_goals try contradiction
        all_goals ((try refine aK ?_);refine ⟨⟨k+1,by omega⟩,by dsimp only;(omega),[0,1,2,3,4],?_⟩;simp only [decide_eq_true_eq,decide_eq_false_iff_not] at *;simp[cX,zC,hΓ,AB,hs];try (simp_all;done))
      · have hz:=hG.z k (by omega)
        rw [hz] at hs
        (repeat first|refine s2 rfl fun _ _hb=>?_ |refine aU rfl ?_ |refine Aa ?_)
        ((refine aC rfl ?_ ?_<;>rintro ⟨⟩);all_goals try(exfalso;(simp only[oZ] at *;omega)))
        refine aK ?_
        refine aS (aB ?_)
        (repeat' first|(refine sA rfl ?_ ?_;first|exact tI|omega) |refine s2 rfl fun _ _hb=>?_|(refine Af rfl ?_;refine gA rfl ?_;first| refine gS (fun _ _=>Hz (l:=Eu G) rfl rfl rfl (by omega) hx) ?_) |refine s3 rfl ?_ ?_<;>rintro rfl |refine aU rfl ?_ |refine Aa ?_|(refine aC rfl ?_ ?_<;>rintro ⟨⟩));all_goals try contradiction
        all_goals first| (exfalso;(simp only[oZ] at *;omega);done)|skip
        all_goals ((try refine aK ?_);refine ⟨⟨k+1,by omega⟩,by dsimp only;(omega),[0,1,2,3,4],?_⟩;simp[cX,zC,hΓ,AB,hs];try (simp_all;done))
    · obtain rfl:k=12:=by omega
      rw [PZ hG (by omega)]
      (repeat first|refine s2 rfl fun _ _hb=>?_ |refine aU rfl ?_ |refine Aa ?_)
      ((refine aC rfl ?_ ?_<;>rintro ⟨⟩);all_goals try(exfalso;(simp only[oZ] at *;omega)))
      refine aE ?_
      (repeat first|refine tA rfl ?_ |refine aU rfl ?_)
      (refine pW rfl ?_ rfl (by rfl);refine AE rfl rfl rfl (by first| (simp;done)|(simp;(omega))) rfl (by intro r hr;simp at hr;subst hr;rfl) (by rfl) (Nat.le_of_ble_eq_true rfl) (by simp;omega) ?_)
      (repeat first|refine tA rfl ?_ |refine aU rfl ?_ |refine Aa ?_)
      refine aR ⟨_,rfl,[0,1,2,3,5],eI .i64 (m.F.length:Int),I7 t (Gs t m G),⟨by intro i hi;match i with|0=>rfl,by decide⟩,rfl,by (simp[cX,zC,hΓ,AB,Gs]),rfl,rfl,rfl⟩
def Xz (m m':Ex):Prop:=∀(i:Nat) F,m.F[i]? = some F→m'.F[i]? = some F
theorem Tp {t:BY} {m:Ex} {G:PS}:Xz m (Gs t m G):=fun _ _ h=>He h
def QG (m:Ex) (n:Nat) (r:List Int):Ex:={ m with nx:=m.nx.set n r }
theorem Ub {t:BY} {ok:W→Prop} {m:Ex} (hm:Gx t ok m) {n k l:Nat} {F:PS} {r:List Int} (hF:m.F[n]? = some F) (hr:m.nx[n]? = some r) (hl:l < 6) (hk:m.F[k]? = some (DF t l F)):Gx t ok (QG m n (r.set l k)):=by
  refine ⟨by simp [QG,hm.l1],hm.l2,hm.nd,hm.rc,hm.rk,hm.un,fun i G hG=>?_⟩
  replace hG:m.F[i]? = some G:=hG
  by_cases e:i=n
  · subst e
    rw [hF] at hG;injection hG with hG;subst hG
    obtain ⟨r',h1,h2,h3⟩:=hm.nx i F hF
    rw [hr] at h1;injection h1 with h1;subst h1
    have hlt:=(List.getElem?_eq_some_iff.1 hr).1
    refine ⟨r.set l k,by simp [QG,hlt],by simp [h2],fun l' hl'=>?_⟩
    by_cases e2:l'=l
    · subst e2
      exact ⟨k,by simp [h2,hl'],.inr ⟨k,rfl,hk⟩⟩
    · obtain ⟨x,h4,h5⟩:=h3 l' hl'
      exact ⟨x,by rw [List.getElem?_set_ne (fun h=>e2 h.symm)];exact h4,h5⟩
  · obtain ⟨r',h1,h2,h3⟩:=hm.nx i G hG
    exact ⟨r',by simp only [QG];rw [List.getElem?_set_ne (fun h=>e h.symm)];exact h1,h2,h3⟩
theorem Pu {r:List Int} {l:Nat} {x:Int} (h:r[l]? = some x):(Ls r)[l]? = some (.d (iD x)):=by simp [h]
theorem TT {r:List Int} {l:Nat} {x:Int} (h:l < r.length):Ae (Ls r) l [.d (iD x)]=Ls (r.set l x):=by
  rw [Fk (by simpa using h)]
  unfold Ls
  rw [List.map_set]
theorem Rh [DG TB] {t:BY} {ok:W→Prop} (ht:AR t=true) (hfew:Uo t ok) {m:Ex} (hm:Gx t ok m) {n:Nat} {F:PS} (hF:m.F[n]? = some F) {l:Int} (hl:0≤l∧l < 6) (hrk:Xk t ok (DF t l F)):∃(m':Ex) (j:Nat),Gx t ok m'∧Xz m m'∧m'.F[j]? = some (DF t l F)∧
    AP Tryz.prog TB 113 1 (I7 t m) 5 [.o (.ptr 0 14 0 0),eI .i64 (n:Int),eI .i64 l] (fun x σ nx=>x=eI .i64 (j:Int)∧σ=I7 t m'∧nx=5):=by
  have hlen:=hfew m.F hm.nd hm.rk
  obtain ⟨r,hr,hrl,hrx⟩:=hm.nx n F hF
  have hn:=(List.getElem?_eq_some_iff.1 hF).1
  have h1:=hm.l1
  obtain ⟨x,hx,hxx⟩:=hrx l.toNat (by omega)
  have el:((l.toNat:Nat):Int)=l:=by omega
  rw [el] at hxx
  have hFo:=(hm.rc F (List.mem_of_getElem? hF)).ok ht
  have hr':(m.nx.map Ls)[0+((n:Nat):Int).toNat]? = some (Ls r):=by rw [Nat.zero_add,Int.toNat_natCast];simp [hr]
  have hx':(Ls r)[0+l.toNat*1]? = some (.d (iD x)):=by rw [Nat.zero_add,Nat.mul_one];exact Pu hx
  by_cases hx0:x < 0
  · have hG:=JY ht hl hFo
    have hGr:Reach t (DF t l F):=.next hl.1 hl.2 (hm.rc F (List.mem_of_getElem? hF))
    obtain ⟨m1,k,hcase,hadd⟩:=Rg (TB:=TB) ht hm hlen hG
    have hm1:Gx t ok m1∧Xz m m1∧m1.F[k]? = some (DF t l F):=by
      rcases hcase with ⟨rfl,h2⟩|⟨rfl,rfl,h2⟩
      · exact ⟨hm,fun _ _ h=>h,h2⟩
      · exact ⟨O0 hm hGr hrk h2,Tp,by simp [Gs]⟩
    obtain ⟨hm1,hle,hk⟩:=hm1
    have hF1:=hle n F hF
    obtain ⟨r1,hr1,hrl1,_⟩:=hm1.nx n F hF1
    have hn1:=(List.getElem?_eq_some_iff.1 hr1).1
    have hok:=Ub (l:=l.toNat) hm1 hF1 hr1 (by omega) (k:=k) (by rw [el];exact hk)
    refine ⟨_,k,hok,hle,hk,?_⟩
    have hmv:=Po (TB:=TB) ht m hl hFo
    have hcl:=MV (TB:=TB) ht m (Ig ht hl hFo)
    have hs':(m.F.map Lw)[0+((n:Nat):Int).toNat]? = some (Lw F):=by rw [Nat.zero_add,Int.toNat_natCast];simp [hF]
    refine AP.AQ (AP.MD (m:=1) (Nat.le_of_ble_eq_true rfl) Tryz.func113 rfl (by kernel_rfl) (Nat.le_of_ble_eq_true rfl) ?_);intro Γ hΓ
    (repeat first|(refine sA rfl ?_ ?_;first|exact tI|omega) |refine s2 rfl fun _ _hb=>?_|(refine Af rfl ?_;refine gA rfl ?_;first| refine gQ (Kc rfl rfl (by assumption) hx') rfl ?_) |refine aU rfl ?_ |refine Aa ?_)
    ((refine aC rfl ?_ ?_<;>rintro ⟨⟩);all_goals try(exfalso;(simp only[oZ] at *;omega)))
    (repeat first|(refine sA rfl ?_ ?_;first|exact tI|omega) |refine t4 rfl ‹_› rfl ?_ |refine aU rfl ?_)
    (refine pW rfl ?_ rfl (by rfl);refine Ac [0,1,2,3,4] rfl rfl (hmv) ⟨rfl,by decide,by decide⟩ rfl (by simp[cX,zC,hΓ,AB]) ?_;rintro x0 σ1 nx1 ⟨rfl,rfl,rfl⟩ _)
    (refine pW rfl ?_ rfl (by rfl);refine Ac [0,1,2,3,4] rfl rfl (hcl) ⟨rfl,by decide,by decide⟩ rfl (by simp[cX,zC,hΓ,AB]) ?_;rintro x0 σ1 nx1 ⟨rfl,rfl,rfl⟩ _)
    (refine pW rfl ?_ rfl (by rfl);refine Ba [0,1,2,3,4] rfl rfl 1 (hadd) (by decide) ⟨rfl,by decide,by decide⟩ rfl (by simp[cX,zC,hΓ,AB]) ?_;rintro x0 σ1 nx1 ⟨rfl,rfl,rfl⟩ _)
    (repeat first|refine tA rfl ?_)
    refine Aa ?_
    refine Ak.Aj [0,1,2,7] [] rfl rfl [] [(0,.cells 128 14 [SQ t (.arr 1 12 0 m1.F.length) (.mp 2) (.arr 3 6 0 m1.nx.length) (.arr 4 1 0 m1.un.length)]),(1,.cells 132 12 (m1.F.map Lw)),(2,.mp (mapA .u16 (KR m1.F))),(3,.cells 97 6 (m1.nx.map Ls)),(4,.cells 4 1 (m1.un.map AL))] [0,5,6,7,8] (rl hΓ rfl) (by (simp[cX,zC,hΓ,AB])) ?_;(try dsimp only[cA,cB])
    have hr1':(m1.nx.map Ls)[0+((n:Nat):Int).toNat]? = some (Ls r1):=by rw [Nat.zero_add,Int.toNat_natCast];simp [hr1]
    have hst:=TT (r:=r1) (l:=l.toNat) (x:=(k:Int)) (by omega)
    have hr2l:(r1.set l.toNat (k:Int))[l.toNat]? = some (k:Int):=by rw [List.getElem?_set_self (by omega)]
    generalize r1.set l.toNat (k:Int)=r2 at *
    have hst2:(Ls r1).take l.toNat++C.d (iD k)::(Ls r1).drop (l.toNat+1)=Ls r2:=by rw [←hst];simp [Ae]
    (repeat first|(refine sA rfl ?_ ?_;first|exact tI|omega) |refine aU rfl ?_)
    (refine Af rfl ?_;refine Fs ?_ rfl (by rfl);refine CB (r:=Ls r1) rfl rfl rfl rfl hr1' rfl (by show 0+l.toNat*1+1≤6;omega) ?_)
    refine Aa ?_
    refine Ak.Aj [0,1,2] [] rfl rfl [] [(0,.cells 128 14 [SQ t (.arr 1 12 0 m1.F.length) (.mp 2) (.arr 3 6 0 m1.nx.length) (.arr 4 1 0 m1.un.length)]),(1,.cells 132 12 (m1.F.map Lw)),(2,.mp (mapA .u16 (KR m1.F))),(3,.cells 97 6 ((m1.nx.set n r2).map Ls)),(4,.cells 4 1 (m1.un.map AL))] [0,1,2,3,4] (rl hΓ rfl) (by (simp[cX,zC,hΓ,AB,hst2])) ?_;(try dsimp only[cA,cB])
    have hr2:((m1.nx.set n r2).map Ls)[0+((n:Nat):Int).toNat]? = some (Ls r2):=by rw [Nat.zero_add,Int.toNat_natCast];simp [hn1]
    have hx2:(Ls r2)[0+l.toNat*1]? = some (.d (iD k)):=by rw [Nat.zero_add,Nat.mul_one];exact Pu hr2l
    (repeat first|(refine sA rfl ?_ ?_;first|exact tI|omega)|(refine Af rfl ?_;refine gA rfl ?_;first| refine gQ (Kc rfl rfl (by assumption) hx2) rfl ?_) |refine aU rfl ?_ |refine Aa ?_)
    refine aR ⟨_,rfl,[0,1,2,3,4],eI .i64 (k:Int),I7 t (QG m1 n r2),⟨by intro i hi;match i with|0=>rfl,by decide⟩,rfl,by (simp[cX,zC,hΓ,AB,QG]),rfl,rfl,rfl⟩
  · obtain ⟨j,rfl,hj⟩:=hxx.resolve_left hx0
    refine ⟨m,j,hm,fun _ _ h=>h,hj,?_⟩
    refine AP.AQ (AP.MD (m:=1) (Nat.le_of_ble_eq_true rfl) Tryz.func113 rfl (by kernel_rfl) (Nat.le_of_ble_eq_true rfl) ?_);intro Γ hΓ
    (repeat first|(refine sA rfl ?_ ?_;first|exact tI|omega) |refine s2 rfl fun _ _hb=>?_|(refine Af rfl ?_;refine gA rfl ?_;first| refine gQ (Kc rfl rfl (by assumption) hx') rfl ?_) |refine aU rfl ?_ |refine Aa ?_)
    ((refine aC rfl ?_ ?_<;>rintro ⟨⟩);all_goals try(exfalso;(simp only[oZ] at *;omega)))
    refine aK ?_
    (repeat first|(refine sA rfl ?_ ?_;first|exact tI|omega)|(refine Af rfl ?_;refine gA rfl ?_;first| refine gQ (Kc rfl rfl (by assumption) hx') rfl ?_) |refine aU rfl ?_ |refine Aa ?_)
    refine aR ⟨_,rfl,[0,1,2,3,4],eI .i64 (j:Int),I7 t m,⟨by intro i hi;match i with|0=>rfl,by decide⟩,rfl,by (simp[cX,zC,hΓ,AB]),rfl,rfl,rfl⟩
end Go.Am
