/-
  Arrays of numbers as values: read, held against each other, as a map's keys.
-/
import Derived.Test.YtdbppcildogedaaGreatDoorPart13
import Derived.Test.YtdbppcildogedaaGreatDoorPart5
import Derived.WideKeyArr
import Derived.Test.YtdbppcildogedaaGreatDoorPart12
import Derived.Test.YtdbppcildogedaaGreatDoorPart11
set_option linter.constructorNameAsVariable false
set_option linter.unusedSimpArgs false
set_option linter.unusedVariables false
namespace Go.Am
open Go
def kaV (q:IntKind) (l:List Int):Value:=.agg (l.map (Value.int q)).toArray
abbrev kaC (q:IntKind) (l:List Int):List C:=l.map fun x=>.d (.v (.int q x))
abbrev kaE (q:IntKind) (l:List Int):E:=.a (kaC q l)
theorem kaV_inj {q:IntKind} {a b:List Int}:kaV q a=kaV q b↔a=b:=by
  unfold kaV
  constructor
  · intro h
    injection h with h
    have h:=congrArg Array.toList h
    simp only at h
    exact (List.map_inj_right (fun x y h=>by injection h)).1 h
  · rintro rfl;rfl
theorem kaE_val {V:View} {q:IntKind} {l:List Int} {v:Value} (h:ERel V (kaE q l) v):v=kaV q l:=by
  obtain ⟨vs,rfl,h2,h3⟩:=h
  unfold kaV
  congr 1
  apply Array.ext
  · simpa using h2
  · intro i h4 h5
    have h6:i < l.length:=by simpa using h5
    have:=CRel.val (h3 i (.d (.v (.int q l[i]))) vs[i] (by simp [List.getElem?_eq_getElem h6]) (Array.getElem?_eq_getElem h4))
    rw [this];simp
class HasKA (P:Program) (t:TypeId) (n:outParam Nat) (q:outParam IntKind):Prop where
  u:∃e,WideMaps.ArrKey P t e n∧P.underlying e=some (.int q)
  eg:P.eqGuardType P.depth t=false
  sz:P.types.size≠0
section
variable {P:Program} {t:TypeId} {n:Nat} {q:IntKind}
theorem mapM_some {α β:Type} {f:α→Option β}:∀ {l:List α},(∀x∈l,∃y,f x=some y)→∃ys,l.mapM f=some ys
  | [],_=>⟨[],rfl⟩
  | x::l,h=>by
    obtain ⟨y,hy⟩:=h x (by simp)
    obtain ⟨ys,hys⟩:=mapM_some (l:=l) (fun z hz=>h z (by simp [hz]))
    exact ⟨y::ys,by rw [List.mapM_cons,hy,hys];rfl⟩
theorem HasKA.key (h:HasKA P t n q) {l:List Int} (hl:l.length=n) (hw:∀x∈l,(Lit.int q x).wf=true):∃lx,keyOf P t (kaV q l)=some lx:=by
  obtain ⟨e,hA,he⟩:=h.u
  obtain ⟨m,hm⟩:=Nat.exists_eq_succ_of_ne_zero h.sz
  have hm:P.types.size=m+1:=hm
  have h1:∀i∈List.range n,∃y,P.keyLits (m+1) e ((((l.map (Value.int q)).toArray.toList).drop (i*P.cellsOf e)).take (P.cellsOf e))=some y:=fun i hi=>by
    have hi:i < n:=List.mem_range.1 hi
    rw [hA.one,Nat.mul_one]
    obtain ⟨x,hx⟩:∃x,l[i]? = some x:=⟨l[i],List.getElem?_eq_getElem (by omega)⟩
    have h2:(((l.map (Value.int q)).toArray.toList).drop i).take 1=[Value.int q x]:=by
      have h3:(l.map (Value.int q))[i]? = some (Value.int q x):=by simp [hx]
      obtain ⟨h4,h5⟩:=List.getElem?_eq_some_iff.1 h3
      simp only
      rw [List.drop_eq_getElem_cons h4,h5]
      rfl
    rw [h2]
    refine ⟨[.int q x],?_⟩
    unfold Program.keyLits
    simp [he,hw x (List.mem_of_getElem? hx)]
  obtain ⟨ys,hys⟩:=mapM_some h1
  have h6:P.keyLits (P.types.size+1) t (kaV q l).cells.toList=some ys.flatten:=by
    rw [hm]
    show P.keyLits (m+1+1) t (l.map (Value.int q)).toArray.toList=_
    unfold Program.keyLits
    simp only [hA.hu]
    rw [if_pos (by rw [hA.size];simp [hl])]
    rw [hys];rfl
  have hf:(kaV q l).formed P t=true:=by simp [kaV,Value.formed,hA.hu,hA.size,hl]
  unfold keyOf
  rw [hA.hu]
  simp only
  rw [if_pos (by rw [hA.keyType ⟨m,hm⟩,hf];rfl),h6]
  exact ⟨_,rfl⟩
theorem HasKA.law (h:HasKA P t n q):WideMaps.KeyLaw P t:=by
  obtain ⟨e,hA,he⟩:=h.u
  exact hA.law
theorem HasKA.run_eq (h:HasKA P t n q) {a b:List Int} (ha:a.length=n) (hb:b.length=n) (hwa:∀x∈a,(Lit.int q x).wf=true) (hwb:∀x∈b,(Lit.int q x).wf=true) (w:World):(Op.equal t (kaV q a) (kaV q b)).run P w=.ok (decide (a=b)) w:=by
  obtain ⟨lx,hx⟩:=h.key ha hwa
  obtain ⟨ly,hy⟩:=h.key hb hwb
  obtain ⟨e,hA,he⟩:=h.u
  obtain ⟨r,h1,h2⟩:=run_equal_deep w (m:=2) (by omega) (hA.at 0) hA.wide hx hy
  rw [h1]
  congr 1
  rw [Bool.eq_iff_iff,h2,decide_eq_true_eq]
  refine ⟨fun h3=>kaV_inj.1 (h.law.inj hx (by rw [h3];exact hy)),fun h3=>?_⟩
  subst h3
  rw [hx] at hy
  injection hy
end
section
variable {P:Program} {TB:Amb} {Γ:Ctx} {d:Option Tmp} {ty:TypeId} {pos:String} {af:Array Edge} {g:Option (Nat×Bool)} {f:Env} {σ:Store} {nx:Nat}
variable {K:E→Store→Nat→Prop} {t:TypeId} {n:Nat} {q:IntKind}
theorem q_indexV {x y:Operand} {l:List Int} {k:IntKind} {i:Int} {v:Int} [h:HasKA P t n q] (hx:ev f x=some (kaE q l)) (hy:ev f y=some (eI k i)) (hn:l.length=n) (h0:0≤i) (hv:l[i.toNat]? = some v) :
    QOp P TB Γ ⟨d,.index t x y,ty,pos,af,g⟩ f σ nx (eI q v):=
  q_of_run fun V ρ h1 _=>by
    have h2:=kaE_val (h1.get (by simp [Op.operands]) hx)
    have h3:ρ y=.int k i:=CRel.val (h1.get (by simp [Op.operands]) hy)
    obtain ⟨e,hA,he⟩:=h.u
    obtain ⟨inf,hi⟩:=info_of_underlying he
    have h4:inf.size=1:=by have:=hA.one;simpa [Program.cellsOf,hi] using this
    have hlt:=(List.getElem?_eq_some_iff.1 hv).1
    have h5:i < (n:Int):=by omega
    refine ⟨.int q v,?_,.d (.v rfl)⟩
    have h6:(l.map (Value.int q)).toArray[i.toNat]? = some (.int q v):=by simp [hv]
    have h7:(isAgg e).run P V.w=.ok false V.w:=by simp [isAgg,run_underlying he,go_sem]
    simp [execOp,h2,h3,kaV,Instr.index,asIntOf,run_underlying hA.hu,h0,h5,part,h7,sizeOf,typeInfo,hi,h4,hv,go_sem]
theorem q_eqV {yt:TypeId} {x y:Operand} {a b:List Int} [h:HasKA P t n q] (hx:ev f x=some (kaE q a)) (hy:ev f y=some (kaE q b)) (ha:a.length=n) (hb:b.length=n) (hwa:∀x∈a,(Lit.int q x).wf=true) (hwb:∀x∈b,(Lit.int q x).wf=true) :
    QOp P TB Γ ⟨d,.binOp .eql t x y yt,ty,pos,af,g⟩ f σ nx (eB (decide (a=b))):=
  q_of_run fun V ρ h1 _=>by
    have h2:=kaE_val (h1.get (x:=x) (by simp [Op.operands]) hx)
    have h3:=kaE_val (h1.get (x:=y) (by simp [Op.operands]) hy)
    refine ⟨.bool (decide (a=b)),?_,.d (.v rfl)⟩
    have h6:binOp .eql t (kaV q a) (kaV q b)=(do pure (.bool (←Op.equal t (kaV q a) (kaV q b)))):=rfl
    have h7:(eqGuard .eql t x y (kaV q a) (kaV q b)).run P V.w=.ok () V.w:=by
      unfold eqGuard kaV
      simp [h.eg,go_sem]
    simp [execOp,h2,h3,h6,h7,h.run_eq ha hb hwa hwb V.w,go_sem]
def mapA (q:IntKind) (l:List (List Int×Int)):List (Value×Value):=l.map fun p=>(kaV q p.1,.int .i64 p.2)
def findA:List (List Int×Int)→List Int→Option Int
  | [],_=>none
  | p::l,s=>if p.1=s then some p.2 else findA l s
theorem findA_none:∀ {l:List (List Int×Int)} {s:List Int},findA l s=none↔∀p∈l,p.1≠s
  | [],s=>by simp [findA]
  | p::l,s=>by
    unfold findA
    split
    · rename_i h;simp [h]
    · rename_i h;rw [findA_none (l:=l)];simp [h]
theorem findA_get:∀ {l:List (List Int×Int)} {p:List Int×Int},l.Pairwise (fun a b=>a.1≠b.1)→p∈l→findA l p.1=some p.2
  | [],p,_,h=>by cases h
  | x :: l,p,hd,h=>by
    unfold findA
    rcases List.mem_cons.1 h with rfl|h
    · rw [if_pos rfl]
    · rw [if_neg ((List.pairwise_cons.1 hd).1 p h)]
      exact findA_get (List.pairwise_cons.1 hd).2 h
def KeysA (n:Nat) (q:IntKind) (l:List (List Int×Int)):Prop:=∀p∈l,p.1.length=n∧∀x∈p.1,(Lit.int q x).wf=true
theorem find_runA [h:HasKA P t n q] {l:List (List Int×Int)} {es:List MapEntry} {s:List Int} (hl:KeysA n q l) (hes:es.map (fun e=>(e.key,e.val))=mapA q l) (hs:s.length=n) (hw:∀x∈s,(Lit.int q x).wf=true) (hd:l.Pairwise (fun a b=>a.1≠b.1)) (w:World) :
    ∃r,(Instr.findKey t (kaV q s) es).run P w=.ok r w∧r.map (·.2)=(findA l s).map (.int .i64):=by
  obtain ⟨lx,hx⟩:=h.key hs hw
  have hmem:∀e∈es,∃p∈l,e.key=kaV q p.1∧e.val=.int .i64 p.2:=fun e he=>by
    have:(e.key,e.val)∈mapA q l:=by rw [←hes];exact List.mem_map.2 ⟨e,he,rfl⟩
    obtain ⟨p,h1,h2⟩:=List.mem_map.1 this
    injection h2 with h2 h3
    exact ⟨p,h1,h2.symm,h3.symm⟩
  rcases h.law.find w hx es (fun e he=>by
    obtain ⟨p,h1,h2,_⟩:=hmem e he
    rw [h2];exact h.key (hl p h1).1 (hl p h1).2) with ⟨h1,h2⟩|⟨j,e,h1,h2,h3⟩
  · refine ⟨none,h1,?_⟩
    have:findA l s=none:=findA_none.2 fun p hp he=>by
      have h4:(kaV q p.1,Value.int .i64 p.2)∈es.map (fun e=>(e.key,e.val)):=by rw [hes];exact List.mem_map.2 ⟨p,hp,rfl⟩
      obtain ⟨e,h5,h6⟩:=List.mem_map.1 h4
      injection h6 with h6 h7
      exact h2 e h5 (by rw [h6,he])
    rw [this];rfl
  · refine ⟨_,h1,?_⟩
    obtain ⟨p,h4,h5,h6⟩:=hmem e (List.mem_of_getElem? h2)
    have h7:p.1=s:=kaV_inj.1 (by rw [←h5,h3])
    rw [←h7,findA_get hd h4,h6];rfl
theorem check_runA [h:HasKA P t n q] {s:List Int} (hs:s.length=n) (hw:∀x∈s,(Lit.int q x).wf=true) (b:Bool) (w:World):(Instr.checkKey b 10000 t (kaV q s)).run P w=.ok () w:=by
  obtain ⟨lx,hx⟩:=h.key hs hw
  exact h.law.check w b hx
theorem q_lookA {m e:TypeId} {x y:Operand} {id:Nat} {l:List (List Int×Int)} {s:List Int} [hm:HasMp P m t e] [h:HasKA P t n q] [hz:HasZ1 P e (.int .i64 0)] (hx:ev f x=some (.o (.mp id))) (hy:ev f y=some (kaE q s)) (ho:look σ id=some (.mp (mapA q l)))
    (hl:KeysA n q l) (hd:l.Pairwise (fun a b=>a.1≠b.1)) (hs:s.length=n) (hw:∀x∈s,(Lit.int q x).wf=true) :
    QOp P TB Γ ⟨d,.lookup m x y true,ty,pos,af,g⟩ f σ nx (.t [(false,[.d (.v (.int .i64 ((findA l s).getD 0)))]),(false,[.d (.v (.bool (findA l s).isSome))])]):=
  q_of_run fun V ρ hr hi=>by
    have e1:=hr.get (by simp [Op.operands]) hx
    have e2:ρ y=kaV q s:=kaE_val (hr.get (by simp [Op.operands]) hy)
    generalize hv:ρ x=v at e1
    cases e1 with
    | mp hid =>
      obtain ⟨hn,ents,clock,h1,h2⟩:=hi.st.obj id _ ho
      obtain ⟨r,hfk,h4⟩:=find_runA (P:=P) (t:=t) (es:=ents.toList) hl h2 hs hw hd V.w
      have hzz:=hz.out
      simp only [Option.bind_eq_some_iff] at hzz
      obtain ⟨i,hi1,hz1⟩:=hzz
      have hzv:(zeroValue e).run P V.w=.ok (.int .i64 0) V.w:=by simp [zeroValue,typeInfo,hi1,hz1,go_sem]
      have hck:=check_runA (P:=P) (t:=t) hs hw ents.isEmpty V.w
      refine ⟨.tuple #[.int .i64 ((findA l s).getD 0),.bool (findA l s).isSome],?_,⟨_,rfl,rfl,fun j x v hj hv=>?_⟩⟩
      · cases r with
        | none=>
          have h5:findA l s=none:=by simpa using h4.symm
          simp [execOp,hv,e2,Instr.lookup,run_underlying hm.out,MapKept.run_getObj_map h1,hck,hfk,hzv,h5,go_sem]
        | some p=>
          obtain ⟨n,h5,h6⟩:∃n,findA l s=some n∧p.2=.int .i64 n:=by
            cases hf:findA l s with
            | none=>rw [hf] at h4;simp at h4
            | some n=>rw [hf] at h4;exact ⟨n,rfl,by simpa using h4⟩
          obtain ⟨q1,q2⟩:=p
          simp only at h6
          subst h6
          simp [execOp,hv,e2,Instr.lookup,run_underlying hm.out,MapKept.run_getObj_map h1,hck,hfk,h5,go_sem]
      · match j with
        | 0=>simp at hj hv;subst hj;subst hv;exact ⟨_,rfl,.d (.v rfl)⟩
        | 1=>simp at hj hv;subst hj;subst hv;exact ⟨_,rfl,.d (.v rfl)⟩
        | j+2=>simp at hj
theorem n_putA {m e:TypeId} {x y z:Operand} {id:Nat} {l:List (List Int×Int)} {s:List Int} {v:Int} [hm:HasMp P m t e] [h:HasKA P t n q] (hx:ev f x=some (.o (.mp id))) (hy:ev f y=some (kaE q s)) (hz:ev f z=some (eI .i64 v)) (ho:look σ id=some (.mp (mapA q l)))
    (hl:KeysA n q l) (hd:l.Pairwise (fun a b=>a.1≠b.1)) (hs:s.length=n) (hw:∀x∈s,(Lit.int q x).wf=true) (hn:findA l s=none) (hK:K (.t []) ((id,.mp (mapA q (l++[(s,v)])))::σ) nx):AOp P TB Γ ⟨d,.mapUpdate m x y z,ty,pos,af,g⟩ f σ nx K:=by
  intro V a h1 h2 h3
  have h1:=h1.evRel
  unfold Oper.wp
  generalize a.eval=ρ at h1 ⊢
  have e1:=h1.get (x:=x) (by simp [Op.operands]) hx
  have e2:ρ y=kaV q s:=kaE_val (h1.get (by simp [Op.operands]) hy)
  have e3:ρ z=.int .i64 v:=CRel.val (h1.get (by simp [Op.operands]) hz)
  generalize hv:ρ x=vx at e1
  cases e1 with
  | mp hid=>
    obtain ⟨hnl,ents,clock,h4,h5⟩:=h2.st.obj id _ ho
    obtain ⟨r,hfk,h7⟩:=find_runA (P:=P) (t:=t) (es:=ents.toList) hl h5 hs hw hd V.w
    rw [hn] at h7
    have hr:r=none:=by cases r with
      | none=>rfl
      | some q=>simp at h7
    subst hr
    have hck:=check_runA (P:=P) (t:=t) hs hw false V.w
    let ob:Obj:=.map (ents.push { key:=kaV q s,val:=.int .i64 v,born:=clock }) (clock+1)
    let w':World:={ V.w with heap:=V.w.heap.setIfInBounds (V.ρ id) ob }
    have hset:=MapKept.run_setObj_map (P:=P) ob h4
    have hlt:=(Array.getElem?_eq_some_iff.1 h4).1
    obtain ⟨hi,he⟩:=h2.write ho hnl (w:=w') (ob':=.mp (mapA q (l++[(s,v)]))) rfl rfl rfl rfl rfl (by simp [w']) (fun b hb=>by simp [w',Array.getElem?_setIfInBounds,Ne.symm hb]) (by
      refine ⟨hnl,ents.push { key:=kaV q s,val:=.int .i64 v,born:=clock },clock+1,?_,?_⟩
      · show w'.heap[V.ρ id]? = some ob
        simp [w',Array.getElem?_setIfInBounds,hlt]
      · simp [mapA] at h5 ⊢
        exact h5)
    have hrun:(execOp ρ ⟨d,.mapUpdate m x y z,ty,pos,af,g⟩).run P V.w=.ok .skip w':=by
      simp [execOp,hv,e2,e3,Instr.mapUpdate,run_underlying hm.out,MapKept.run_getObj_map h4,hck,hfk,hset,ob,w',go_sem]
    rw [hrun]
    exact ⟨{ V with w:=w' },.tuple #[],.t [],_,rfl,rfl,he,hi,⟨#[],rfl,rfl,fun j x v hj=>by simp at hj⟩,by rw [←h3] at hK;exact hK⟩
end
end Go.Am
namespace Go.Am
open Go Go.Proofs
set_option maxHeartbeats 1000000
attribute [local irreducible] QOp AOp Lex LexO AWp Spec
variable {TB:Amb}
abbrev uRow (n:UInt8):List D:=[.v (.int .u8 n.toNat)]
abbrev uList (l:List UInt8):D:=.l (l.map uRow)
abbrev rdO (b:List UInt8) (p:Int):O:=.cells 105 2 [[.d (uList b),.d (iD p)]]
theorem iXor_nat {a b:Nat} (ha:a < 2 ^ 62) (hb:b < 2 ^ 62):iXor .i64 a b=((a ^^^ b:Nat):Int):=by
  unfold iXor
  have h1:(BitVec.ofInt IntKind.i64.bits (a:Int)).toNat=a:=by
    rw [BitVec.toNat_ofInt];have:IntKind.i64.bits=64:=rfl;rw [this];omega
  have h2:(BitVec.ofInt IntKind.i64.bits (b:Int)).toNat=b:=by
    rw [BitVec.toNat_ofInt];have:IntKind.i64.bits=64:=rfl;rw [this];omega
  rw [BitVec.toNat_xor,h1,h2]
  have h3:a ^^^ b < 2 ^ 62:=Nat.xor_lt_two_pow ha hb
  exact IntWalk.i64_in _ (by omega)
theorem iXor_nn {x y:Int} (hx:0≤x∧x < 4611686018427387904) (hy:0≤y∧y < 4611686018427387904):0≤iXor .i64 x y∧iXor .i64 x y < 4611686018427387904:=by
  obtain ⟨a,rfl⟩:∃a:Nat,x=a:=⟨x.toNat,by omega⟩
  obtain ⟨b,rfl⟩:∃b:Nat,y=b:=⟨y.toNat,by omega⟩
  rw [iXor_nat (by omega) (by omega)]
  have h3:a ^^^ b < 2 ^ 62:=Nat.xor_lt_two_pow (by omega) (by omega)
  omega
theorem l19Open_ok (b:List UInt8) (hb:b.length≤9223372036854775807):∃b':List UInt8,b'.length≤2000∧SpecK Tryz.prog TB 47 0 [] 0 [.o (.d (uList b))] (fun x σ nx=>x=.o (.ptr 0 2 0 0)∧σ=[(0,rdO b' 0)]∧nx=1):=by
  by_cases h:b.length≤2000
  · refine ⟨b,h,?_⟩
    refine SpecK.ofG (m:=0) (Nat.le_of_ble_eq_true rfl) Tryz.func47 rfl (by kernel_rfl) (Nat.le_of_ble_eq_true rfl) ?_;intro Γ hΓ
    (repeat first|refine sN rfl ?_|((first|refine sX rfl ?_ ?_|refine s4 rfl ‹_› rfl ?_ ?_);first|exact tI|omega|simp only[oZ] at *;omega)|refine s2 rfl fun _ _hb=>?_|refine s3 rfl ?_ ?_<;>rintro rfl|refine aU rfl ?_|refine lexE ?_|refine rE (by kernel_rfl) ?_)
    ((refine aC rfl ?_ ?_<;>rintro ⟨⟩);all_goals try (simp at _hb;done))
    · exfalso;first|omega|simp only[oZ] at *;omega
    refine AWp.skip ?_
    (repeat first|refine sN rfl ?_|((first|refine sX rfl ?_ ?_|refine s4 rfl ‹_› rfl ?_ ?_);first|exact tI|omega|simp only[oZ] at *;omega)|refine s2 rfl fun _ _hb=>?_|(refine popO rfl ?_;refine gA rfl ?_;first|refine gS (fun _ _=>q_build rfl rfl (by rfl) (by rfl)) ?_)|refine s3 rfl ?_ ?_<;>rintro rfl|refine aU rfl ?_|refine lexE ?_|refine rE (by kernel_rfl) ?_)
    (refine pW rfl ?_ rfl (by rfl);refine n_box rfl rfl ?_)
    (repeat first|refine sN rfl ?_|((first|refine sX rfl ?_ ?_|refine s4 rfl ‹_› rfl ?_ ?_);first|exact tI|omega|simp only[oZ] at *;omega)|refine s2 rfl fun _ _hb=>?_|refine s3 rfl ?_ ?_<;>rintro rfl|refine aU rfl ?_|refine lexE ?_|refine rE (by kernel_rfl) ?_)
    refine AWp.ret ⟨_,rfl,rfl,rfl,rfl⟩
  · refine ⟨b.take 2000,by simp;omega,?_⟩
    have e:(b.map uRow).take (2000:Int).toNat=(b.take 2000).map uRow:=by simp [List.map_take]
    refine SpecK.ofG (m:=0) (Nat.le_of_ble_eq_true rfl) Tryz.func47 rfl (by kernel_rfl) (Nat.le_of_ble_eq_true rfl) ?_;intro Γ hΓ
    (repeat first|refine sN rfl ?_|((first|refine sX rfl ?_ ?_|refine s4 rfl ‹_› rfl ?_ ?_);first|exact tI|omega|simp only[oZ] at *;omega)|refine s2 rfl fun _ _hb=>?_|refine s3 rfl ?_ ?_<;>rintro rfl|refine aU rfl ?_|refine lexE ?_|refine rE (by kernel_rfl) ?_)
    ((refine aC rfl ?_ ?_<;>rintro ⟨⟩);all_goals try (simp at _hb;done))
    · (repeat first|refine sN rfl ?_|((first|refine sX rfl ?_ ?_|refine s4 rfl ‹_› rfl ?_ ?_);first|exact tI|omega|simp only[oZ] at *;omega)|refine s2 rfl fun _ _hb=>?_|(refine popO rfl ?_;refine gA rfl ?_;first|refine gS (fun _ _=>q_takeL rfl rfl (by simp) (by omega) (by simp;omega)) ?_)|refine s3 rfl ?_ ?_<;>rintro rfl|refine aU rfl ?_|refine lexE ?_|refine rE (by kernel_rfl) ?_)
      rw [e]
      (repeat first|refine sN rfl ?_|((first|refine sX rfl ?_ ?_|refine s4 rfl ‹_› rfl ?_ ?_);first|exact tI|omega|simp only[oZ] at *;omega)|refine s2 rfl fun _ _hb=>?_|(refine popO rfl ?_;refine gA rfl ?_;first|refine gS (fun _ _=>q_build rfl rfl (by rfl) (by rfl)) ?_)|refine s3 rfl ?_ ?_<;>rintro rfl|refine aU rfl ?_|refine lexE ?_|refine rE (by kernel_rfl) ?_)
      (refine pW rfl ?_ rfl (by rfl);refine n_box rfl rfl ?_)
      (repeat first|refine sN rfl ?_|((first|refine sX rfl ?_ ?_|refine s4 rfl ‹_› rfl ?_ ?_);first|exact tI|omega|simp only[oZ] at *;omega)|refine s2 rfl fun _ _hb=>?_|refine s3 rfl ?_ ?_<;>rintro rfl|refine aU rfl ?_|refine lexE ?_|refine rE (by kernel_rfl) ?_)
      refine AWp.ret ⟨_,rfl,rfl,rfl,rfl⟩
    · exfalso;first|omega|simp only[oZ] at *;omega
theorem pick_ok (b:List UInt8) (hb:b.length≤2000) (p n:Int) (h0:0≤p∧p < 1000000000):∃k:Int,0≤k∧(k=0∨k < n)∧Spec Tryz.prog TB 62 [(0,rdO b p)] 1 [.o (.ptr 0 2 0 0),eI .i64 n] (fun x σ nx=>x=eI .i64 k∧σ=[(0,rdO b (p+1))]∧nx=1):=by
  by_cases hz:n < 1∨b.length=0
  · refine ⟨0,by omega,.inl rfl,?_⟩
    refine SpecK.toSpec (SpecK.ren (SpecK.ofG (Nat.le_refl _) Tryz.func62 rfl (by kernel_rfl) (Nat.le_of_ble_eq_true rfl) ?_));intro Γ hΓ
    (repeat' first|refine sN rfl ?_|((first|refine sA rfl ?_ ?_|refine s4 rfl ‹_› rfl ?_ ?_);first|exact tI|omega|simp only[oZ] at *;omega)|refine s2 rfl fun _ _hb=>?_|refine s3 rfl ?_ ?_<;>rintro rfl|refine aU rfl ?_|refine lexE ?_|refine rE (by kernel_rfl) ?_|(refine aC rfl ?_ ?_<;>rintro ⟨⟩)|refine aK ?_|refine aE ?_|refine aB ?_|refine AWp.ret ⟨_,rfl,?_⟩)
    all_goals first
      | (exfalso;first|omega|simp only[oZ] at *;omega;done)
      | refine ⟨[0],eI .i64 0,[(0,rdO b (p+1))],⟨by first|(simp;done)|decide|(intro i hi;match i with|0=>rfl),by decide⟩,rfl,by (repeat' first|exact tI|rfl|refine And.intro ?_ ?_)<;>(simp[cX,zC,hΓ]<;>rfl),rfl,rfl,rfl⟩
  have hl:0 < b.length:=by omega
  have hn:0 < n:=by omega
  by_cases hp:p < b.length
  · obtain ⟨c,hc⟩:=get_some (l:=b) (k:=(p+1 - 1).toNat) (by omega)
    have hc':=get_map (g:=uRow) hc
    have hcl:=c.toNat_lt
    refine ⟨(c.toNat:Int) % n,Int.emod_nonneg _ (by omega),.inr (Int.emod_lt_of_pos _ hn),?_⟩
    refine SpecK.toSpec (SpecK.ren (SpecK.ofG (Nat.le_refl _) Tryz.func62 rfl (by kernel_rfl) (Nat.le_of_ble_eq_true rfl) ?_));intro Γ hΓ
    (repeat' first|refine sN rfl ?_|((first|refine sA rfl ?_ ?_|refine s4 rfl ‹_› rfl ?_ ?_);first|exact tI|omega|simp only[oZ] at *;omega)|refine s2 rfl fun _ _hb=>?_|refine s3 rfl ?_ ?_<;>rintro rfl|refine aU rfl ?_|refine lexE ?_|refine rE (by kernel_rfl) ?_|(refine aC rfl ?_ ?_<;>rintro ⟨⟩)|refine aK ?_|refine aE ?_|refine aB ?_|refine AWp.ret ⟨_,rfl,?_⟩)
    all_goals first
      | (exfalso;first|omega|simp only[oZ] at *;omega;done)
      | refine ⟨[0],_,[(0,rdO b (p+1))],⟨by first|(simp;done)|decide|(intro i hi;match i with|0=>rfl),by decide⟩,rfl,by (repeat' first|exact tI|rfl|refine And.intro ?_ ?_)<;>(simp[cX,zC,hΓ]<;>rfl),rfl,rfl,rfl⟩
  · have hl':(0:Int) < b.length:=by omega
    have i1:=Int.emod_nonneg (p+1 - 1) (show (b.length:Int)≠0 by omega)
    have i2:=Int.emod_lt_of_pos (p+1 - 1) hl'
    have j1:=Int.emod_nonneg ((p+1 - 1)*7+3) (show (b.length:Int)≠0 by omega)
    have j2:=Int.emod_lt_of_pos ((p+1 - 1)*7+3) hl'
    obtain ⟨c,hc⟩:=get_some (l:=b) (k:=((p+1 - 1) % (b.length:Int)).toNat) (by omega)
    have hc':=get_map (g:=uRow) hc
    have hcl:=c.toNat_lt
    obtain ⟨d,hd⟩:=get_some (l:=b) (k:=(((p+1 - 1)*7+3) % (b.length:Int)).toNat) (by omega)
    have hd':=get_map (g:=uRow) hd
    have hdl:=d.toNat_lt
    have q1:0≤(p+1 - 1) / (b.length:Int):=Int.ediv_nonneg (by omega) (by omega)
    have q2:(p+1 - 1) / (b.length:Int)≤p+1 - 1:=Int.ediv_le_self _ (by omega)
    obtain ⟨x,hx⟩:∃x,x=(c.toNat:Int)*131+(d.toNat:Int)*1117+(p+1 - 1)*29+(p+1 - 1) / (b.length:Int)*53:=⟨_,rfl⟩
    have x1:0≤x∧x < 1000000000000:=by omega
    have y1:=iXor_nn (x:=x) (y:=x / 64) (by omega) (by omega)
    refine ⟨iXor .i64 x (x / 64) % n,Int.emod_nonneg _ (by omega),.inr (Int.emod_lt_of_pos _ hn),?_⟩
    refine SpecK.toSpec (SpecK.ren (SpecK.ofG (Nat.le_refl _) Tryz.func62 rfl (by kernel_rfl) (Nat.le_of_ble_eq_true rfl) ?_));intro Γ hΓ
    (repeat' first|refine sN rfl ?_|((first|refine sA rfl ?_ ?_|refine s4 rfl ‹_› rfl ?_ ?_);first|exact tI|omega|simp only[oZ] at *;omega)|(refine s2 rfl fun _ _hb=>?_;try (simp only[Bool.not_true,Bool.not_false] at _hb;subst _hb))|(refine popO rfl ?_;refine gA rfl ?_;first|refine gS (fun _ _=>q_xor rfl rfl rfl) ?_)|refine s3 rfl ?_ ?_<;>rintro rfl|refine aU rfl ?_|refine lexE ?_|refine rE (by kernel_rfl) ?_|(refine aC rfl ?_ ?_<;>rintro ⟨⟩)|refine aK ?_|refine AWp.ret ⟨_,rfl,?_⟩|(rw [←hx]))
    all_goals first
      | (exfalso;first|omega|simp only[oZ] at *;omega;done)
      | refine ⟨[0],_,[(0,rdO b (p+1))],⟨by first|(simp;done)|decide|(intro i hi;match i with|0=>rfl),by decide⟩,rfl,by (repeat' first|exact tI|rfl|refine And.intro ?_ ?_)<;>(simp[cX,zC,hΓ]<;>rfl),rfl,rfl,rfl⟩
theorem num_ok (b:List UInt8) (hb:b.length≤2000) (p:Int) (h0:0≤p∧p < 1000000000) (l:List Int) (hl:0 < l.length) (hl2:l.length < 1000000):∃k∈l,Spec Tryz.prog TB 77 [(0,rdO b p)] 1 [.o (.ptr 0 2 0 0),eInts l] (fun x σ nx=>x=eI .i64 k∧σ=[(0,rdO b (p+1))]∧nx=1):=by
  obtain ⟨k,k1,k2,h⟩:=pick_ok (TB:=TB) b hb p l.length h0
  obtain ⟨x,hx⟩:=get_some (l:=l) (k:=k.toNat) (by omega)
  have hx':=get_map (g:=iRow) hx
  refine ⟨x,List.mem_of_getElem? hx,?_⟩
  refine SpecK.toSpec (SpecK.ren (SpecK.ofG (Nat.le_refl _) Tryz.func77 rfl (by kernel_rfl) (Nat.le_of_ble_eq_true rfl) ?_));intro Γ hΓ
  (repeat first|refine sN rfl ?_|((first|refine sA rfl ?_ ?_|refine s4 rfl ‹_› rfl ?_ ?_);first|exact tI|omega|simp only[oZ] at *;omega)|refine s2 rfl fun _ _hb=>?_|refine s3 rfl ?_ ?_<;>rintro rfl|refine aU rfl ?_|refine lexE ?_|refine rE (by kernel_rfl) ?_)
  (refine pW rfl ?_ rfl (by rfl);refine n_call [0] rfl rfl (h) ⟨rfl,by decide,by decide⟩ rfl (by simp[cX,zC,hΓ]) ?_;rintro x0 σ1 nx1 ⟨rfl,rfl,rfl⟩ _)
  (repeat first|refine sN rfl ?_|((first|refine sA rfl ?_ ?_|refine s4 rfl ‹_› rfl ?_ ?_);first|exact tI|omega|simp only[oZ] at *;omega)|refine s2 rfl fun _ _hb=>?_|refine s3 rfl ?_ ?_<;>rintro rfl|refine aU rfl ?_|refine lexE ?_|refine rE (by kernel_rfl) ?_)
  refine AWp.ret ⟨_,rfl,?_⟩
  refine ⟨[0],_,[(0,rdO b (p+1))],⟨by first|(simp;done)|decide|(intro i hi;match i with|0=>rfl),by decide⟩,rfl,by (repeat' first|exact tI|rfl|refine And.intro ?_ ?_)<;>(simp[cX,zC,hΓ]<;>rfl),rfl,rfl,rfl⟩
theorem of_ok (b:List UInt8) (hb:b.length≤2000) (p:Int) (h0:0≤p∧p < 1000000000) (l:List W) (hl:0 < l.length) (hl2:l.length < 1000000):∃k∈l,Spec Tryz.prog TB 63 [(0,rdO b p)] 1 [.o (.ptr 0 2 0 0),eTexts l] (fun x σ nx=>x=eT k∧σ=[(0,rdO b (p+1))]∧nx=1):=by
  obtain ⟨k,k1,k2,h⟩:=pick_ok (TB:=TB) b hb p l.length h0
  obtain ⟨x,hx⟩:=get_some (l:=l) (k:=k.toNat) (by omega)
  have hx':=get_map (g:=tRow) hx
  refine ⟨x,List.mem_of_getElem? hx,?_⟩
  refine SpecK.toSpec (SpecK.ren (SpecK.ofG (Nat.le_refl _) Tryz.func63 rfl (by kernel_rfl) (Nat.le_of_ble_eq_true rfl) ?_));intro Γ hΓ
  (repeat first|refine sN rfl ?_|((first|refine sA rfl ?_ ?_|refine s4 rfl ‹_› rfl ?_ ?_);first|exact tI|omega|simp only[oZ] at *;omega)|refine s2 rfl fun _ _hb=>?_|refine s3 rfl ?_ ?_<;>rintro rfl|refine aU rfl ?_|refine lexE ?_|refine rE (by kernel_rfl) ?_)
  (refine pW rfl ?_ rfl (by rfl);refine n_call [0] rfl rfl (h) ⟨rfl,by decide,by decide⟩ rfl (by simp[cX,zC,hΓ]) ?_;rintro x0 σ1 nx1 ⟨rfl,rfl,rfl⟩ _)
  (repeat first|refine sN rfl ?_|((first|refine sA rfl ?_ ?_|refine s4 rfl ‹_› rfl ?_ ?_);first|exact tI|omega|simp only[oZ] at *;omega)|refine s2 rfl fun _ _hb=>?_|refine s3 rfl ?_ ?_<;>rintro rfl|refine aU rfl ?_|refine lexE ?_|refine rE (by kernel_rfl) ?_)
  refine AWp.ret ⟨_,rfl,?_⟩
  refine ⟨[0],_,[(0,rdO b (p+1))],⟨by first|(simp;done)|decide|(intro i hi;match i with|0=>rfl),by decide⟩,rfl,by (repeat' first|exact tI|rfl|refine And.intro ?_ ?_)<;>(simp[cX,zC,hΓ]<;>rfl),rfl,rfl,rfl⟩
def psL (F:PS):List Int:=[(F 0:Nat),(F 1:Nat),(F 2:Nat),(F 3:Nat),(F 4:Nat),(F 5:Nat),(F 6:Nat),(F 7:Nat),(F 8:Nat),(F 9:Nat),(F 10:Nat),(F 11:Nat)]
abbrev psC (F:PS):List C:=kaC .u16 (psL F)
abbrev psE (F:PS):E:=kaE .u16 (psL F)
theorem psL_get {F:PS} {p:Nat} (h:p < 12):(psL F)[p]? = some (F p:Int):=by
  obtain rfl|rfl|rfl|rfl|rfl|rfl|rfl|rfl|rfl|rfl|rfl|rfl:p=0∨p=1∨p=2∨p=3∨p=4∨p=5∨p=6∨p=7∨p=8∨p=9∨p=10∨p=11:=by omega
  all_goals rfl
theorem psC_get {F:PS} {p:Nat} (h:p < 12):(psC F)[p]? = some (.d (.v (.int .u16 (F p:Int)))):=by simp [psL_get h]
theorem psL_congr {F G:PS} (h:∀p,p < 12→F p=G p):psL F=psL G:=by
  unfold psL
  rw [h 0 (by omega),h 1 (by omega),h 2 (by omega),h 3 (by omega),h 4 (by omega),h 5 (by omega),h 6 (by omega),h 7 (by omega),h 8 (by omega),h 9 (by omega),h 10 (by omega),h 11 (by omega)]
theorem psL_inj {F G:PS} (h:psL F=psL G):∀p,p < 12→F p=G p:=fun p hp=>by
  have:=psL_get (F:=F) hp
  rw [h,psL_get hp] at this
  injection this with this
  omega
theorem psC_set {F:PS} {p:Nat} (h:p < 12) {v:Nat}:spliceC (psC F) p [.d (.v (.int .u16 (v:Int)))]=psC fun i=>if i=p then v else F i:=by
  have hl:(psC F).length=12:=by simp [psL]
  rw [splice_set (by omega)]
  apply List.ext_getElem?
  intro i
  rw [List.getElem?_set]
  by_cases hi:i < 12
  · rw [psC_get hi,psC_get hi]
    by_cases e:p=i
    · subst e;rw [if_pos rfl,if_pos (by omega),if_pos rfl]
    · rw [if_neg e,if_neg (fun h=>e h.symm)]
  · have h1:∀G:PS,(psC G)[i]? = none:=fun G=>List.getElem?_eq_none (by simp [psL];omega)
    rw [h1,h1]
    by_cases e:p=i
    · omega
    · rw [if_neg e]
theorem u16_in {n:Nat} (h:n < 65536):IntKind.u16.wrap (n:Int)=n:=by
  unfold IntKind.wrap
  simp [IntKind.bits,IntKind.signed,IntKind.min,IntKind.max]
  omega
instance:HasKA Tryz.prog 132 12 .u16:=⟨⟨130,⟨by kernel_rfl,by kernel_rfl,by kernel_rfl,by kernel_rfl⟩,by kernel_rfl⟩,by kernel_rfl,fun h=>by
  have h2:Nat.beq Tryz.prog.types.size 0=false:=by kernel_rfl
  rw [h] at h2;cases h2⟩
def mvTo (t:Tsk) (l:Int) (F:PS) (k:Nat):PS:=fun p':Nat=>(List.range k).foldl (fun a p=>if goA t.q p l=(p':Int) then a ||| sStep t.s l (F p) else a) 0
theorem mvTo_succ {t:Tsk} {l:Int} {F:PS} {k:Nat}:mvTo t l F (k+1)=fun p':Nat=>if goA t.q k l=(p':Int) then mvTo t l F k p' ||| sStep t.s l (F k) else mvTo t l F k p':=by
  funext p'
  unfold mvTo
  rw [List.range_succ,List.foldl_append];rfl
theorem sStep_zero {s:Sys} {l:Int}:sStep s l 0=0:=by
  unfold sStep
  split
  · exact bits_zero fun j=>by
      cases h:(mStep s.es l 0).testBit j
      · rfl
      · obtain ⟨e,_,⟨_,h2⟩,_⟩:=mStep_bit.1 h
        simp at h2
  · rfl
theorem mvTo_skip {t:Tsk} {l:Int} {F:PS} {k:Nat} (h:F k=0):mvTo t l F (k+1)=mvTo t l F k:=by
  rw [mvTo_succ]
  funext p'
  rw [h,sStep_zero]
  split<;>simp
theorem mvTo_all {t:Tsk} {l:Int} {F:PS} (h:PSok t F) (hn:t.q.nx.length≤12):mvTo t l F 12=mvP t l F:=by
  have key:∀k,mvTo t l F (t.q.nx.length+k)=mvTo t l F t.q.nx.length:=fun k=>by
    induction k with
    | zero=>rfl
    | succ k ih=>rw [←Nat.add_assoc,mvTo_skip (h.z _ (by omega)),ih]
  have:=key (12 - t.q.nx.length)
  rw [show t.q.nx.length+(12 - t.q.nx.length)=12 by omega] at this
  rw [this];rfl
theorem mvTo_lt {t:Tsk} (ht:tskOk t=true) {l:Int} {F:PS} (h:PSok t F) (k p:Nat):mvTo t l F k p < 65536:=by
  induction k with
  | zero=>simp [mvTo]
  | succ k ih=>
    rw [mvTo_succ]
    simp only
    have h2:=sStep_lt ht (l:=l) (h.lt k)
    split
    · have:=Nat.or_lt_two_pow (n:=16) ih h2;omega
    · exact ih
structure Memo where
  F:List PS
  nx:List (List Int)
  un:List Bool
abbrev nxR (r:List Int):List C:=r.map fun x=>.d (iD x)
def mpS (F:List PS):List (List Int×Int):=F.zipIdx.map fun x=>(psL x.1,(x.2:Int))
abbrev safR (t:Tsk) (a b c d:C):List C:=[.d (iD t.s.al),.d (iD t.s.st),.d (edList t.s.es),.d (iD t.q.al),.d (iiList t.q.nx),.d (bList t.q.ac),.d (iD t.al),.ip (mvRow t.s.es),.d (.l (tblD t.q)),.d (iList (hidL t)),a,b,c,d]
abbrev saS (t:Tsk) (m:Memo):Store:=[(0,.cells 128 14 [safR t (.arr 1 12 0 m.F.length) (.mp 2) (.arr 3 6 0 m.nx.length) (.arr 4 1 0 m.un.length)]),(1,.cells 132 12 (m.F.map psC)),(2,.mp (mapA .u16 (mpS m.F))),(3,.cells 97 6 (m.nx.map nxR)),(4,.cells 4 1 (m.un.map bRowC))]
theorem kaC_ren (r:Nat→Nat) (q:IntKind) (l:List Int):C.renL r (l.map fun x=>.d (.v (.int q x)))=l.map fun x=>.d (.v (.int q x)):=by
  rw [show (l.map fun x=>C.d (.v (.int q x)))=(l.map fun x=>D.v (.int q x)).map .d by simp,renL_d]
theorem q_ldJ {P:Program} {Γ:Ctx} {d:Option Tmp} {ty:TypeId} {pos:String} {af:Array Edge} {g:Option (Nat×Bool)} {f:Env} {σ:Store} {nx:Nat} {t:TypeId} {x:Operand} {id k i j n:Nat} {T:TypeId} {rows:List (List C)} {r:List C} {c:C} [hl:HasLd P t false n] (hx:ev f x=some (.o (.ptr id k i j))) (ho:look σ id=some (.cells T k rows)) (hr:rows[i]? = some r) (hc:r[j]? = some c) :
    QOp P TB Γ ⟨d,.load t x,ty,pos,af,g⟩ f σ nx (.o c):=q_ldS hx ho hr (show ldR false n j r=some (.o c) by unfold ldR;rw [hc];rfl)
theorem idx5 {r:List Nat}:∀i,i < 5→(0::1::2::3::4::r)[i]? = some i
  | 0,_|1,_|2,_|3,_|4,_=>rfl
  | n+5,h=>by omega
theorem iOr_u16 {a b:Nat} (ha:a < 65536) (hb:b < 65536):iOr .u16 (a:Int) (b:Int)=((a ||| b:Nat):Int):=by
  have h0:a ||| b < 2 ^ 16:=Nat.or_lt_two_pow (by omega) (by omega)
  unfold iOr
  have h1:(BitVec.ofInt IntKind.u16.bits (a:Int) ||| BitVec.ofInt IntKind.u16.bits (b:Int)).toNat=a ||| b:=by
    have e:IntKind.u16.bits=16:=rfl
    rw [e]
    simp only [BitVec.toNat_or,BitVec.ofInt_natCast,BitVec.toNat_ofNat]
    rw [Nat.mod_eq_of_lt (by omega),Nat.mod_eq_of_lt (by omega)]
  rw [h1]
  exact u16_in (by omega)
theorem move_ok [Tabs TB] {t:Tsk} (ht:tskOk t=true) (m:Memo) {l:Int} (hl:0≤l∧l < 6) {F:PS} (hF:PSok t F):Spec Tryz.prog TB 141 (saS t m) 5 [.o (.ptr 0 14 0 0),psE F,eI .i64 l] (fun x σ nx=>x=psE (mvP t l F)∧σ=saS t m∧nx=5):=by
  have hs:sysOk t.s=true:=by unfold tskOk at ht;simp only [Bool.and_eq_true] at ht;exact ht.1
  have ha:=tsk_aut ht
  have hah:=autOk_head ha
  rw [←mvTo_all hF (by omega)]
  refine SpecK.toSpec (SpecK.ren (SpecK.ofG (Nat.le_refl _) Tryz.func141 rfl (by kernel_rfl) (Nat.le_of_ble_eq_true rfl) ?_));intro Γ hΓ
  (repeat first|refine sN rfl ?_|((first|refine sA rfl ?_ ?_|refine s4 rfl ‹_› rfl ?_ ?_);first|exact tI|omega|simp only[oZ] at *;omega)|refine s2 rfl fun _ _hb=>?_|refine s3 rfl ?_ ?_<;>rintro rfl|refine aU rfl ?_|refine lexE ?_)
  refine AWp.block ?_
  refine AWp.loopV (α:={k:Nat // k≤12}) [0,2,6,7,11] [0,1,2,3,4,5] rfl rfl (fun s=>[(12,eI .i64 s.1)]) (fun s=>[(6,.cells 132 12 [psC (mvTo t l F s.1)])]) 7 (fun s=>12 - s.1) (⟨0,by omega⟩) (List.range 7) (rg hΓ rfl) (by (repeat' first|exact tI|rfl|refine And.intro ?_ ?_)<;>(simp[cX,zC,hΓ,kaC_ren]<;>rfl)) ?_;rintro ⟨k,hk⟩;(try dsimp only[List.cons_append,List.nil_append])
  by_cases hkl:k < 12
  · have hx:(psL F)[((k:Nat):Int).toNat]? = some (F k:Int):=by rw [Int.toNat_natCast];exact psL_get hkl
    have hfk:=hF.lt k
    (repeat first|refine sN rfl ?_|((first|refine sA rfl ?_ ?_|refine s4 rfl ‹_› rfl ?_ ?_);first|exact tI|omega|simp only[oZ] at *;omega)|refine s2 rfl fun _ _hb=>?_|refine s3 rfl ?_ ?_<;>rintro rfl|refine aU rfl ?_|refine lexE ?_)
    ((refine aC rfl ?_ ?_<;>rintro ⟨⟩);all_goals try(exfalso;first|omega|simp only[oZ] at *;omega))
    refine AWp.skip ?_
    refine AWp.seq (AWp.block ?_)
    (repeat first|refine sN rfl ?_|((first|refine sA rfl ?_ ?_|refine s4 rfl ‹_› rfl ?_ ?_);first|exact tI|omega|simp only[oZ] at *;omega)|refine s2 rfl fun _ _hb=>?_|(refine popO rfl ?_;refine gA rfl ?_;first|refine gS (fun _ _=>q_indexV (l:=psL F) rfl rfl rfl (by omega) hx) ?_)|refine s3 rfl ?_ ?_<;>rintro rfl|refine aU rfl ?_|refine lexE ?_)
    (refine aC rfl ?_ ?_<;>rintro ⟨⟩)
    · have hz:F k=0:=by first|omega|simp only[oZ] at *;omega
      refine AWp.exit ?_
      (repeat first|refine sN rfl ?_|((first|refine sA rfl ?_ ?_|refine s4 rfl ‹_› rfl ?_ ?_);first|exact tI|omega|simp only[oZ] at *;omega)|refine s2 rfl fun _ _hb=>?_|refine s3 rfl ?_ ?_<;>rintro rfl|refine aU rfl ?_|refine lexE ?_)
      refine ⟨⟨k+1,by first|omega|simp only[oZ] at *;omega⟩,by dsimp only;(first|omega|simp only[oZ] at *;omega),[0,1,2,3,4,5,6],?_⟩
      simp[cX,zC,hΓ,kaC_ren,mvTo_skip hz];exact idx5
    · have hkn:k < t.q.nx.length:=by
        rcases Nat.lt_or_ge k t.q.nx.length with h1|h1
        · exact h1
        · have:=hF.z k h1;first|omega|simp only[oZ] at *;omega
      have ta:=tbl_get (a:=t.q) (q:=((k:Nat):Int).toNat) (by omega)
      have ra:=rowD_get (h:=fun l=>goA t.q k l) hl.1 hl.2
      have el:((l.toNat:Nat):Int)=l:=by omega
      simp only [el] at ra
      have hga:=goA_in ha hkn hl.1 hl.2
      have hst:=step_ok (TB:=TB) hs hl hfk
      have hss:=sStep_lt ht (l:=l) hfk
      have hml:=mvTo_lt ht (l:=l) hF k
      obtain ⟨g,hg⟩:∃g:Nat,goA t.q k l=g:=⟨(goA t.q k l).toNat,by omega⟩
      rw [hg] at ra hga
      refine AWp.skip ?_
      (repeat first|refine sN rfl ?_|((first|refine sA rfl ?_ ?_|refine s4 rfl ‹_› rfl ?_ ?_);first|exact tI|omega|simp only[oZ] at *;omega)|refine s2 rfl fun _ _hb=>?_ |(refine sC rfl (has_ok _ _) ?_;intro _ _hb)|(refine popO rfl ?_;refine gA rfl ?_;first|refine gS (fun _ _=>q_conv rfl (IntWalk.i64_in _ (by omega))) ?_)|refine s3 rfl ?_ ?_<;>rintro rfl|refine aU rfl ?_|refine lexE ?_)
      have ej:0+((g:Nat):Int).toNat*1=g:=by omega
      have hj:(psC (mvTo t l F k))[0+((g:Nat):Int).toNat*1]? = some (.d (.v (.int .u16 (mvTo t l F k g:Int)))):=by rw [ej];exact psC_get (by omega)
      have hor:=iOr_u16 (hml g) hss
      have hns:mvTo t l F (k+1)=fun p':Nat=>if p'=g then mvTo t l F k g ||| sStep t.s l (F k) else mvTo t l F k p':=by
        rw [mvTo_succ,hg]
        funext p'
        by_cases e:p'=g
        · subst e;simp
        · rw [if_neg e,if_neg (by omega)]
      have hset:=psC_set (F:=mvTo t l F k) (p:=g) (by omega) (v:=mvTo t l F k g ||| sStep t.s l (F k))
      rw [←hns] at hset
      (refine aC rfl ?_ ?_<;>rintro ⟨⟩)
      · have hb:bitB t.s.al l.toNat=true:=by simpa [hasB,hl.1] using _hb
        have hsm:sStep t.s l (F k)=mStep t.s.es l (F k):=by unfold sStep;rw [if_pos hb]
        rw [←hsm] at hst
        (repeat first|refine sN rfl ?_|((first|refine sA rfl ?_ ?_|refine s4 rfl ‹_› rfl ?_ ?_);first|exact tI|omega|simp only[oZ] at *;omega)|refine s2 rfl fun _ _hb=>?_ |refine sP rfl (hst) rfl ?_|refine s3 rfl ?_ ?_<;>rintro rfl|refine aU rfl ?_|refine lexE ?_)
        (repeat first|refine sN rfl ?_|((first|refine sA rfl ?_ ?_|refine s4 rfl ‹_› rfl ?_ ?_);first|exact tI|omega|simp only[oZ] at *;omega)|refine s2 rfl fun _ _hb=>?_|(refine popO rfl ?_;refine gA rfl ?_;first|refine gS (fun _ _=>q_loadIp0 rfl ra) ?_|refine gQ (q_ldJ rfl rfl rfl hj) rfl ?_|refine gS (fun _ _=>q_conv rfl (u16_in hss)) ?_|refine gS (fun _ _=>q_or rfl rfl hor) ?_)|refine s3 rfl ?_ ?_<;>rintro rfl|refine aU rfl ?_|refine lexE ?_)
        (refine popO rfl ?_;refine popW0 ?_ rfl (by rfl);refine n_store (r:=psC (mvTo t l F k)) rfl rfl rfl rfl rfl rfl (by show 0+((g:Nat):Int).toNat*1+1≤12;omega) ?_)
        (repeat first|refine sN rfl ?_|((first|refine sA rfl ?_ ?_|refine s4 rfl ‹_› rfl ?_ ?_);first|exact tI|omega|simp only[oZ] at *;omega)|refine s2 rfl fun _ _hb=>?_|refine s3 rfl ?_ ?_<;>rintro rfl)
        refine lexE ?_
        (repeat first|refine sN rfl ?_|((first|refine sA rfl ?_ ?_|refine s4 rfl ‹_› rfl ?_ ?_);first|exact tI|omega|simp only[oZ] at *;omega)|refine s2 rfl fun _ _hb=>?_|refine s3 rfl ?_ ?_<;>rintro rfl|refine aU rfl ?_|refine lexE ?_)
        refine ⟨⟨k+1,by first|omega|simp only[oZ] at *;omega⟩,by dsimp only;(first|omega|simp only[oZ] at *;omega),[0,1,2,3,4,5,6],?_⟩
        simp[cX,zC,hΓ,kaC_ren,hor];exact ⟨idx5,by simpa [spliceC] using hset⟩
      · have hb:bitB t.s.al l.toNat=false:=by simpa [hasB,hl.1] using _hb
        have hsm:sStep t.s l (F k)=F k:=by unfold sStep;rw [if_neg (by simp [hb])]
        rw [hsm] at hor hset
        refine AWp.skip ?_
        (repeat first|refine sN rfl ?_|((first|refine sA rfl ?_ ?_|refine s4 rfl ‹_› rfl ?_ ?_);first|exact tI|omega|simp only[oZ] at *;omega)|refine s2 rfl fun _ _hb=>?_|(refine popO rfl ?_;refine gA rfl ?_;first|refine gS (fun _ _=>q_loadIp0 rfl ra) ?_|refine gQ (q_ldJ rfl rfl rfl hj) rfl ?_|refine gS (fun _ _=>q_conv rfl (u16_in hfk)) ?_|refine gS (fun _ _=>q_or rfl rfl hor) ?_)|refine s3 rfl ?_ ?_<;>rintro rfl|refine aU rfl ?_|refine lexE ?_)
        (refine popO rfl ?_;refine popW0 ?_ rfl (by rfl);refine n_store (r:=psC (mvTo t l F k)) rfl rfl rfl rfl rfl rfl (by show 0+((g:Nat):Int).toNat*1+1≤12;omega) ?_)
        (repeat first|refine sN rfl ?_|((first|refine sA rfl ?_ ?_|refine s4 rfl ‹_› rfl ?_ ?_);first|exact tI|omega|simp only[oZ] at *;omega)|refine s2 rfl fun _ _hb=>?_|refine s3 rfl ?_ ?_<;>rintro rfl)
        refine lexE ?_
        (repeat first|refine sN rfl ?_|((first|refine sA rfl ?_ ?_|refine s4 rfl ‹_› rfl ?_ ?_);first|exact tI|omega|simp only[oZ] at *;omega)|refine s2 rfl fun _ _hb=>?_|refine s3 rfl ?_ ?_<;>rintro rfl|refine aU rfl ?_|refine lexE ?_)
        refine ⟨⟨k+1,by first|omega|simp only[oZ] at *;omega⟩,by dsimp only;(first|omega|simp only[oZ] at *;omega),[0,1,2,3,4,5,6],?_⟩
        simp[cX,zC,hΓ,kaC_ren,hor];exact ⟨idx5,by simpa [spliceC] using hset⟩
  · obtain rfl:k=12:=by omega
    (repeat first|refine sN rfl ?_|((first|refine sA rfl ?_ ?_|refine s4 rfl ‹_› rfl ?_ ?_);first|exact tI|omega|simp only[oZ] at *;omega)|refine s2 rfl fun _ _hb=>?_|refine s3 rfl ?_ ?_<;>rintro rfl|refine aU rfl ?_|refine lexE ?_)
    ((refine aC rfl ?_ ?_<;>rintro ⟨⟩);all_goals try(exfalso;first|omega|simp only[oZ] at *;omega))
    refine AWp.exit ?_
    (repeat first|refine sN rfl ?_|((first|refine sA rfl ?_ ?_|refine s4 rfl ‹_› rfl ?_ ?_);first|exact tI|omega|simp only[oZ] at *;omega)|refine s2 rfl fun _ _hb=>?_|refine s3 rfl ?_ ?_<;>rintro rfl|refine aU rfl ?_|refine lexE ?_)
    refine AWp.ret ⟨_,rfl,[0,1,2,3,4],psE (mvTo t l F 12),saS t m,⟨idx5,by decide⟩,rfl,by (repeat' first|exact tI|rfl|refine And.intro ?_ ?_)<;>(simp[cX,zC,hΓ,kaC_ren]<;>rfl),rfl,rfl,rfl⟩
def addP (t:Tsk) (F:PS) (ls:List Int):PS:=fun p=>ls.foldl (fun a l=>a ||| mvP t l F p) (F p)
def mixP (A B:PS) (k:Nat):PS:=fun p=>if p < k then A p ||| B p else A p
theorem mixP_succ {A B:PS} {k:Nat}:mixP A B (k+1)=fun p=>if p=k then mixP A B k k ||| B k else mixP A B k p:=by
  funext p
  unfold mixP
  by_cases e:p=k
  · subst e;simp
  · by_cases h:p < k
    · rw [if_pos (by omega),if_neg e,if_pos h]
    · rw [if_neg (by omega),if_neg e,if_neg h]
theorem addP_app {t:Tsk} {F:PS} {ls:List Int} {l:Int}:addP t F (ls++[l])=fun p=>addP t F ls p ||| mvP t l F p:=by
  funext p
  unfold addP
  rw [List.foldl_append];rfl
theorem orL_bit {α:Type} {g:α→Nat} {j:Nat}:∀ {l:List α} {a:Nat},(l.foldl (fun a x=>a ||| g x) a).testBit j=true↔a.testBit j=true∨∃x∈l,(g x).testBit j=true
  | [],a=>by simp
  | x::l,a=>by
    rw [List.foldl_cons,orL_bit,Nat.testBit_or,Bool.or_eq_true]
    simp [or_assoc]
theorem addP_bit {t:Tsk} {F:PS} {ls:List Int} {p j:Nat}:(addP t F ls p).testBit j=true↔(F p).testBit j=true∨∃l∈ls,(mvP t l F p).testBit j=true:=orL_bit
theorem addP_ok {t:Tsk} (ht:tskOk t=true) {F:PS} (h:PSok t F) {ls:List Int} (hl:∀l∈ls,0≤l∧l < 6):PSok t (addP t F ls):=by
  refine ⟨fun p=>bits_lt fun j hj=>?_,fun p hp=>bits_zero fun j=>?_⟩
  · rcases addP_bit.1 hj with h1|⟨l,h1,h2⟩
    · exact lt_bits (h.lt p) h1
    · exact lt_bits ((mvP_ok ht (hl l h1) h).lt p) h2
  · cases hb:(addP t F ls p).testBit j
    · rfl
    · rcases addP_bit.1 hb with h1|⟨l,h1,h2⟩
      · rw [h.z p hp] at h1;simp at h1
      · rw [(mvP_ok ht (hl l h1) h).z p hp] at h2;simp at h2
theorem sub_le {a b:Nat} (h:∀j,a.testBit j=true→b.testBit j=true):a≤b:=by
  have:a ||| b=b:=Nat.eq_of_testBit_eq fun j=>by
    rw [Nat.testBit_or]
    cases ha:a.testBit j
    · simp
    · simp [h j ha]
  rw [←this];exact Nat.left_le_or
def meaP (F:PS):Nat:=(65535 - F 0)+(65535 - F 1)+(65535 - F 2)+(65535 - F 3)+(65535 - F 4)+(65535 - F 5)+(65535 - F 6)+(65535 - F 7)+(65535 - F 8)+(65535 - F 9)+(65535 - F 10)+(65535 - F 11)
theorem meaP_lt {F G:PS} (hF:∀p,F p < 65536) (hG:∀p,G p < 65536) (h:∀p,F p≤G p) (hne:psL G≠psL F):meaP G < meaP F:=by
  have h1:¬meaP F≤meaP G:=fun hle=>hne (psL_congr fun p hp=>by
    have a0:=h 0;have a1:=h 1;have a2:=h 2;have a3:=h 3;have a4:=h 4;have a5:=h 5;have a6:=h 6;have a7:=h 7;have a8:=h 8;have a9:=h 9;have a10:=h 10;have a11:=h 11
    have b0:=hG 0;have b1:=hG 1;have b2:=hG 2;have b3:=hG 3;have b4:=hG 4;have b5:=hG 5;have b6:=hG 6;have b7:=hG 7;have b8:=hG 8;have b9:=hG 9;have b10:=hG 10;have b11:=hG 11
    unfold meaP at hle
    obtain rfl|rfl|rfl|rfl|rfl|rfl|rfl|rfl|rfl|rfl|rfl|rfl:p=0∨p=1∨p=2∨p=3∨p=4∨p=5∨p=6∨p=7∨p=8∨p=9∨p=10∨p=11:=by omega
    all_goals omega)
  omega
theorem wf16 {F:PS} (h:∀p,F p < 65536):∀x∈psL F,(Lit.int .u16 x).wf=true:=fun x hx=>by
  have:∃p,x=(F p:Int):=by
    unfold psL at hx
    simp only [List.mem_cons,List.not_mem_nil,or_false] at hx
    rcases hx with h|h|h|h|h|h|h|h|h|h|h|h<;>exact ⟨_,h⟩
  obtain ⟨p,rfl⟩:=this
  have:=h p
  simp [Lit.wf,IntKind.min,IntKind.max,IntKind.signed,IntKind.bits]
  omega
section
variable {t:Tsk} (ht:tskOk t=true)
include ht
theorem addP_rch {F0 F:PS} (h2:∀p j,(F p).testBit j=true→Rch t F0 p j) {p j:Nat} (h:(addP t F (hidL t) p).testBit j=true):Rch t F0 p j:=by
  rcases addP_bit.1 h with h1|⟨l,hl,h1⟩
  · exact h2 p j h1
  · obtain ⟨q,hq,hg,hb⟩:=mvP_bit.1 h1
    unfold sStep at hb
    rw [if_pos (hidL_in ht hl).2.2] at hb
    obtain ⟨e,he,⟨h3,h4⟩,h5⟩:=mStep_bit.1 hb
    subst h3
    have:=Rch.step (h2 q _ h4) he hl rfl
    rw [hg,h5] at this
    simpa using this
theorem clP_found {F0 F:PS} (h0:PSok t F0) (hF:PSok t F) (h1:∀p j,(F0 p).testBit j=true→(F p).testBit j=true) (h2:∀p j,(F p).testBit j=true→Rch t F0 p j) (he:addP t F (hidL t)=F):F=clP t F0:=
  clP_eq ht h0 hF.z h1 h2 fun p l j hp hl hj=>by
    have hin:=hidL_in ht hl
    have hga:=goA_in (tsk_aut ht) hp hin.1 hin.2.1
    rw [←he]
    refine addP_bit.2 (.inr ⟨l,hl,mvP_bit.2 ⟨p,hp,by omega,?_⟩⟩)
    unfold sStep
    rw [if_pos hin.2.2]
    exact hj
end
theorem close_ok [Tabs TB] {t:Tsk} (ht:tskOk t=true) (m:Memo) {F0:PS} (hF0:PSok t F0):Spec Tryz.prog TB 112 (saS t m) 5 [.o (.ptr 0 14 0 0),psE F0] (fun x σ nx=>x=psE (clP t F0)∧σ=saS t m∧nx=5):=by
  have hah:=autOk_head (tsk_aut ht)
  have hll:(hidL t).length≤6:=by
    unfold hidL
    have h1:(letters t.s.al).length≤6:=lettersTo_len _ _
    exact Nat.le_trans (List.length_filter_le _ _) h1
  refine SpecK.toSpec (SpecK.ren (SpecK.ofG (Nat.le_refl _) Tryz.func112 rfl (by kernel_rfl) (Nat.le_of_ble_eq_true rfl) ?_));intro Γ hΓ
  (repeat first|refine sN rfl ?_|((first|refine sM rfl ?_ ?_|refine s4 rfl ‹_› rfl ?_ ?_);first|exact tI|omega|simp only[oZ] at *;omega)|refine s2 rfl fun _ _hb=>?_|refine s3 rfl ?_ ?_<;>rintro rfl|refine aU rfl ?_|refine lexE ?_)
  (refine pW rfl ?_ rfl (by rfl);refine n_box rfl rfl ?_)
  (repeat first|refine sN rfl ?_|((first|refine sM rfl ?_ ?_|refine s4 rfl ‹_› rfl ?_ ?_);first|exact tI|omega|simp only[oZ] at *;omega)|refine s2 rfl fun _ _hb=>?_|refine s3 rfl ?_ ?_<;>rintro rfl|refine aU rfl ?_|refine lexE ?_)
  refine AWp.block ?_
  refine AWp.loopV (α:={F:PS // PSok t F∧(∀p j,(F0 p).testBit j=true→(F p).testBit j=true)∧∀p j,(F p).testBit j=true→Rch t F0 p j}) [0,3,4] [0,1,2,3,4,6] rfl rfl (fun s=>[]) (fun s=>[(5,.cells 132 12 [psC s.1])]) 7 (fun s=>meaP s.1) (⟨F0,hF0,fun _ _ h=>h,fun _ _ h=>.base h⟩) (List.range 7) (rg hΓ rfl) (by (repeat' first|exact tI|rfl|refine And.intro ?_ ?_)<;>(simp[cX,zC,hΓ,kaC_ren]<;>rfl)) ?_;rintro ⟨F,hF,h1,h2⟩;(try dsimp only[List.cons_append,List.nil_append])
  have hF:PSok t F:=hF
  refine AWp.block ?_
  (repeat first|refine sN rfl ?_|((first|refine sA rfl ?_ ?_|refine s4 rfl ‹_› rfl ?_ ?_);first|exact tI|omega|simp only[oZ] at *;omega)|refine s2 rfl fun _ _hb=>?_|refine s3 rfl ?_ ?_<;>rintro rfl|refine aU rfl ?_|refine lexE ?_)
  refine AWp.block ?_
  refine AWp.loopV (α:={k:Nat // k≤(hidL t).length}) [0,3,4,5,14,15] [0,1,2,3,4,5,6] rfl rfl (fun s=>[(16,eI .i64 s.1)]) (fun s=>[(7,.cells 132 12 [psC (addP t F ((hidL t).take s.1))])]) 8 (fun s=>(hidL t).length - s.1) (⟨0,by omega⟩) (List.range 8) (rg hΓ rfl) (by (repeat' first|exact tI|rfl|refine And.intro ?_ ?_)<;>(simp[cX,zC,hΓ,kaC_ren]<;>rfl)) ?_;rintro ⟨k,hk⟩;(try dsimp only[List.cons_append,List.nil_append])
  by_cases hkl:k < (hidL t).length
  · obtain ⟨l,hlk⟩:=get_some hkl
    have hin:=hidL_in ht (List.mem_of_getElem? hlk)
    have hl':((hidL t).map iRow)[((k:Nat):Int).toNat]? = some (iRow l):=by rw [Int.toNat_natCast];simp [hlk]
    have hall:∀x∈(hidL t).take k,0≤x∧x < 6:=fun x hx=>by
      have:=hidL_in ht (List.mem_of_mem_take hx)
      omega
    have hA:=addP_ok ht hF hall
    have hG:=mvP_ok ht (l:=l) ⟨hin.1,hin.2.1⟩ hF
    have hnx:addP t F ((hidL t).take (k+1))=fun p=>addP t F ((hidL t).take k) p ||| mvP t l F p:=by rw [List.take_add_one,hlk];exact addP_app
    have hmv:=move_ok (TB:=TB) ht m (l:=l) ⟨hin.1,hin.2.1⟩ hF
    generalize addP t F ((hidL t).take k)=A at *
    generalize mvP t l F=G at *
    (repeat first|refine sN rfl ?_|((first|refine sA rfl ?_ ?_|refine s4 rfl ‹_› rfl ?_ ?_);first|exact tI|omega|simp only[oZ] at *;omega)|refine s2 rfl fun _ _hb=>?_|refine s3 rfl ?_ ?_<;>rintro rfl|refine aU rfl ?_|refine lexE ?_)
    ((refine aC rfl ?_ ?_<;>rintro ⟨⟩);all_goals try(exfalso;first|omega|simp only[oZ] at *;omega))
    refine AWp.skip ?_
    refine AWp.seq (AWp.block ?_)
    (repeat first|refine sN rfl ?_|((first|refine sA rfl ?_ ?_|refine s4 rfl ‹_› rfl ?_ ?_);first|exact tI|omega|simp only[oZ] at *;omega)|refine s2 rfl fun _ _hb=>?_|refine s3 rfl ?_ ?_<;>rintro rfl|refine aU rfl ?_|refine lexE ?_)
    (refine pW rfl ?_ rfl (by rfl);refine n_call [0,1,2,3,4] rfl rfl (hmv) ⟨rfl,by decide,by decide⟩ rfl (by simp[cX,zC,hΓ,kaC_ren]) ?_;rintro x0 σ1 nx1 ⟨rfl,rfl,rfl⟩ _)
    (repeat first|refine sN rfl ?_|((first|refine sA rfl ?_ ?_|refine s4 rfl ‹_› rfl ?_ ?_);first|exact tI|omega|simp only[oZ] at *;omega)|refine s2 rfl fun _ _hb=>?_|refine s3 rfl ?_ ?_<;>rintro rfl)
    refine lexE ?_
    refine AWp.block ?_
    refine AWp.loopV (α:={p:Nat // p≤12}) [0,3,4,5,14,15,16,23] [0,1,2,3,4,5,6] rfl rfl (fun s=>[(24,eI .i64 s.1)]) (fun s=>[(7,.cells 132 12 [psC (mixP A G s.1)])]) 8 (fun s=>12 - s.1) (⟨0,by omega⟩) (List.range 8) (rg hΓ rfl) (by (repeat' first|exact tI|rfl|refine And.intro ?_ ?_)<;>(simp[cX,zC,hΓ,kaC_ren]<;>rfl)) ?_;rintro ⟨p,hp⟩;(try dsimp only[List.cons_append,List.nil_append])
    by_cases hpl:p < 12
    · have hx:(psL G)[((p:Nat):Int).toNat]? = some (G p:Int):=by rw [Int.toNat_natCast];exact psL_get hpl
      have ej:0+((p:Nat):Int).toNat*1=p:=by omega
      have hmx:mixP A G p p < 65536:=by
        unfold mixP
        rw [if_neg (by omega)]
        exact hA.lt p
      have hj:(psC (mixP A G p))[0+((p:Nat):Int).toNat*1]? = some (.d (.v (.int .u16 (mixP A G p p:Int)))):=by rw [ej];exact psC_get hpl
      have hor:=iOr_u16 hmx (hG.lt p)
      have hset:=psC_set (F:=mixP A G p) (p:=p) hpl (v:=mixP A G p p ||| G p)
      rw [←mixP_succ] at hset
      (repeat first|refine sN rfl ?_|((first|refine sA rfl ?_ ?_|refine s4 rfl ‹_› rfl ?_ ?_);first|exact tI|omega|simp only[oZ] at *;omega)|refine s2 rfl fun _ _hb=>?_|refine s3 rfl ?_ ?_<;>rintro rfl|refine aU rfl ?_|refine lexE ?_)
      ((refine aC rfl ?_ ?_<;>rintro ⟨⟩);all_goals try(exfalso;first|omega|simp only[oZ] at *;omega))
      refine AWp.skip ?_
      refine AWp.seq (AWp.block ?_)
      (repeat first|refine sN rfl ?_|((first|refine sA rfl ?_ ?_|refine s4 rfl ‹_› rfl ?_ ?_);first|exact tI|omega|simp only[oZ] at *;omega)|refine s2 rfl fun _ _hb=>?_|(refine popO rfl ?_;refine gA rfl ?_;first|refine gS (fun _ _=>q_indexV (l:=psL G) rfl rfl rfl (by omega) hx) ?_|refine gQ (q_ldJ rfl rfl rfl hj) rfl ?_)|refine s3 rfl ?_ ?_<;>rintro rfl|refine aU rfl ?_|refine lexE ?_)
      (refine popO rfl ?_;refine popW0 ?_ rfl (by rfl);refine n_store (r:=psC (mixP A G p)) rfl rfl rfl rfl rfl rfl (by show 0+((p:Nat):Int).toNat*1+1≤12;omega) ?_)
      (repeat first|refine sN rfl ?_|((first|refine sA rfl ?_ ?_|refine s4 rfl ‹_› rfl ?_ ?_);first|exact tI|omega|simp only[oZ] at *;omega)|refine s2 rfl fun _ _hb=>?_|refine s3 rfl ?_ ?_<;>rintro rfl)
      refine lexE ?_
      (repeat first|refine sN rfl ?_|((first|refine sA rfl ?_ ?_|refine s4 rfl ‹_› rfl ?_ ?_);first|exact tI|omega|simp only[oZ] at *;omega)|refine s2 rfl fun _ _hb=>?_|refine s3 rfl ?_ ?_<;>rintro rfl|refine aU rfl ?_|refine lexE ?_)
      refine ⟨⟨p+1,by first|omega|simp only[oZ] at *;omega⟩,by dsimp only;(first|omega|simp only[oZ] at *;omega),[0,1,2,3,4,5,6,7],?_⟩
      simp[cX,zC,hΓ,kaC_ren,hor];exact ⟨idx5,by simpa [spliceC] using hset⟩
    · obtain rfl:p=12:=by omega
      have hmx:psL (mixP A G 12)=psL fun p=>A p ||| G p:=psL_congr fun p hp=>by unfold mixP;rw [if_pos hp]
      (repeat first|refine sN rfl ?_|((first|refine sA rfl ?_ ?_|refine s4 rfl ‹_› rfl ?_ ?_);first|exact tI|omega|simp only[oZ] at *;omega)|refine s2 rfl fun _ _hb=>?_|refine s3 rfl ?_ ?_<;>rintro rfl|refine aU rfl ?_|refine lexE ?_)
      ((refine aC rfl ?_ ?_<;>rintro ⟨⟩);all_goals try(exfalso;first|omega|simp only[oZ] at *;omega))
      refine AWp.exit ?_
      (repeat first|refine sN rfl ?_|((first|refine sA rfl ?_ ?_|refine s4 rfl ‹_› rfl ?_ ?_);first|exact tI|omega|simp only[oZ] at *;omega)|refine s2 rfl fun _ _hb=>?_|refine s3 rfl ?_ ?_<;>rintro rfl|refine aU rfl ?_|refine lexE ?_)
      refine ⟨⟨k+1,by first|omega|simp only[oZ] at *;omega⟩,by dsimp only;(first|omega|simp only[oZ] at *;omega),[0,1,2,3,4,5,6,7],?_⟩
      simp[cX,zC,hΓ,kaC_ren,hnx];exact ⟨idx5,congrArg (List.map _) hmx⟩
  · obtain rfl:k=(hidL t).length:=by omega
    rw [List.take_length]
    have hA:=addP_ok ht hF fun x hx=>by
      have:=hidL_in ht hx
      show 0≤x∧x < 6
      omega
    (repeat first|refine sN rfl ?_|((first|refine sA rfl ?_ ?_|refine s4 rfl ‹_› rfl ?_ ?_);first|exact tI|omega|simp only[oZ] at *;omega)|refine s2 rfl fun _ _hb=>?_|refine s3 rfl ?_ ?_<;>rintro rfl|refine aU rfl ?_|refine lexE ?_)
    ((refine aC rfl ?_ ?_<;>rintro ⟨⟩);all_goals try(exfalso;first|omega|simp only[oZ] at *;omega))
    refine AWp.exit ?_
    (repeat first|refine sN rfl ?_|((first|refine sA rfl ?_ ?_|refine s4 rfl ‹_› rfl ?_ ?_);first|exact tI|omega|simp only[oZ] at *;omega)|refine s2 rfl fun _ _hb=>?_|(refine popO rfl ?_;refine gA rfl ?_;first|(refine gB (fun _ _=>q_eqV (a:=psL (addP t F (hidL t))) (b:=psL F) rfl rfl rfl rfl (wf16 hA.lt) (wf16 hF.lt)) ?_;intro _ _hb))|refine s3 rfl ?_ ?_<;>rintro rfl|refine aU rfl ?_|refine lexE ?_)
    (refine aC rfl ?_ ?_<;>rintro ⟨⟩)
    · have he:addP t F (hidL t)=F:=by
        have h3:psL (addP t F (hidL t))=psL F:=by simpa using _hb
        have h4:=psL_inj h3
        funext p
        rcases Nat.lt_or_ge p 12 with h5|h5
        · exact h4 p h5
        · rw [hA.z p (by omega),hF.z p (by omega)]
      rw [←clP_found ht hF0 hF h1 h2 he]
      (repeat first|refine sN rfl ?_|((first|refine sA rfl ?_ ?_|refine s4 rfl ‹_› rfl ?_ ?_);first|exact tI|omega|simp only[oZ] at *;omega)|refine s2 rfl fun _ _hb=>?_|refine s3 rfl ?_ ?_<;>rintro rfl|refine aU rfl ?_|refine lexE ?_)
      refine AWp.ret ⟨_,rfl,[0,1,2,3,4],psE F,saS t m,⟨idx5,by decide⟩,rfl,by (repeat' first|exact tI|rfl|refine And.intro ?_ ?_)<;>(simp[cX,zC,hΓ,kaC_ren]<;>rfl),rfl,rfl,rfl⟩
    · have hne:psL (addP t F (hidL t))≠psL F:=by simpa using _hb
      have hsub:∀p,F p≤addP t F (hidL t) p:=fun p=>sub_le fun j hj=>addP_bit.2 (.inl hj)
      have hm:=meaP_lt hF.lt hA.lt hsub hne
      refine AWp.skip ?_
      (repeat first|refine sN rfl ?_|((first|refine sA rfl ?_ ?_|refine s4 rfl ‹_› rfl ?_ ?_);first|exact tI|omega|simp only[oZ] at *;omega)|refine s2 rfl fun _ _hb=>?_|refine s3 rfl ?_ ?_<;>rintro rfl|refine aU rfl ?_|refine lexE ?_)
      refine ⟨⟨addP t F (hidL t),hA,fun p j hj=>addP_bit.2 (.inl (h1 p j hj)),fun p j hj=>addP_rch ht h2 hj⟩,by dsimp only;(first|omega|simp only[oZ] at *;omega),[0,1,2,3,4,5,6],?_⟩
      simp[cX,zC,hΓ,kaC_ren];exact ⟨idx5,rfl,rfl⟩
end Go.Am
