/-
  Arrays of numbers as values: read, held against each other, as a map's keys.
-/
import Derived.Test.YtkkihplpglchjaaGreatDoorPart14
import Derived.Test.YtkkihplpglchjaaGreatDoorPart5
import Derived.WideKeyArr
import Derived.Test.YtkkihplpglchjaaGreatDoorPart13
import Derived.Test.YtkkihplpglchjaaGreatDoorPart12
import Derived.Test.YtkkihplpglchjaaGreatDoorPart11
set_option linter.constructorNameAsVariable false
set_option linter.unusedSimpArgs false
set_option linter.unusedVariables false
namespace Go.Am
open Go
def ID (q:IntKind) (l:List Int):Value:=.agg (l.map (Value.int q)).toArray
abbrev aj (q:IntKind) (l:List Int):List C:=l.map fun x=>.d (.v (.int q x))
abbrev Vq (q:IntKind) (l:List Int):E:=.a (aj q l)
theorem Qs {q:IntKind} {a b:List Int}:ID q a=ID q b↔a=b:=by
  unfold ID
  constructor
  · intro h
    injection h with h
    have h:=congrArg Array.toList h
    simp only at h
    exact (List.map_inj_right (fun x y h=>by injection h)).1 h
  · rintro rfl;rfl
theorem HW {V:View} {q:IntKind} {l:List Int} {v:Value} (h:A2 V (Vq q l) v):v=ID q l:=by
  obtain ⟨vs,rfl,h2,h3⟩:=h
  unfold ID
  congr 1
  apply Array.ext
  · simpa using h2
  · intro i h4 h5
    have h6:i < l.length:=by simpa using h5
    have:=Ay.val (h3 i (.d (.v (.int q l[i]))) vs[i] (by simp [List.getElem?_eq_getElem h6]) (Array.getElem?_eq_getElem h4))
    rw [this];simp
class Eh (P:Program) (t:TypeId) (n:outParam Nat) (q:outParam IntKind):Prop where
  u:∃e,WideMaps.ArrKey P t e n∧P.underlying e=some (.int q)
  eg:P.eqGuardType P.depth t=false
  sz:P.types.size≠0
section
variable {P:Program} {t:TypeId} {n:Nat} {q:IntKind}
theorem mapM_some {α β:Type} {f:α→Option β}:∀ {l:List α},(∀x∈l,∃y,f x=some y)→∃ys,l.mapM f=some ys
  | [],_=>⟨[],rfl⟩
  | x::l,h=>by
    obtain ⟨y,hy⟩:=h x (by simp)
    obtain ⟨ys,hys⟩:=mapM_some (l:=l) (fun z hz=>h z (by simp [hz]))
    exact ⟨y::ys,by rw [List.mapM_cons,hy,hys];rfl⟩
theorem Eh.key (h:Eh P t n q) {l:List Int} (hl:l.length=n) (hw:∀x∈l,(Lit.int q x).wf=true):∃lx,keyOf P t (ID q l)=some lx:=by
  obtain ⟨e,hA,he⟩:=h.u
  obtain ⟨m,hm⟩:=Nat.exists_eq_succ_of_ne_zero h.sz
  have hm:P.types.size=m+1:=hm
  have h1:∀i∈List.range n,∃y,P.keyLits (m+1) e ((((l.map (Value.int q)).toArray.toList).drop (i*P.cellsOf e)).take (P.cellsOf e))=some y:=fun i hi=>by
    have hi:i < n:=List.mem_range.1 hi
    rw [hA.one,Nat.mul_one]
    obtain ⟨x,hx⟩:∃x,l[i]? = some x:=⟨l[i],List.getElem?_eq_getElem (by omega)⟩
    have h2:(((l.map (Value.int q)).toArray.toList).drop i).take 1=[Value.int q x]:=by
      have h3:(l.map (Value.int q))[i]? = some (Value.int q x):=by simp [hx]
      obtain ⟨h4,h5⟩:=List.getElem?_eq_some_iff.1 h3
      simp only
      rw [List.drop_eq_getElem_cons h4,h5]
      rfl
    rw [h2]
    refine ⟨[.int q x],?_⟩
    unfold Program.keyLits
    simp [he,hw x (List.mem_of_getElem? hx)]
  obtain ⟨ys,hys⟩:=mapM_some h1
  have h6:P.keyLits (P.types.size+1) t (ID q l).cells.toList=some ys.flatten:=by
    rw [hm]
    show P.keyLits (m+1+1) t (l.map (Value.int q)).toArray.toList=_
    unfold Program.keyLits
    simp only [hA.hu]
    rw [if_pos (by rw [hA.size];simp [hl])]
    rw [hys];rfl
  have hf:(ID q l).formed P t=true:=by simp [ID,Value.formed,hA.hu,hA.size,hl]
  unfold keyOf
  rw [hA.hu]
  simp only
  rw [if_pos (by rw [hA.keyType ⟨m,hm⟩,hf];rfl),h6]
  exact ⟨_,rfl⟩
theorem Eh.law (h:Eh P t n q):WideMaps.KeyLaw P t:=by
  obtain ⟨e,hA,he⟩:=h.u
  exact hA.law
theorem Eh.run_eq (h:Eh P t n q) {a b:List Int} (ha:a.length=n) (hb:b.length=n) (hwa:∀x∈a,(Lit.int q x).wf=true) (hwb:∀x∈b,(Lit.int q x).wf=true) (w:World):(Op.equal t (ID q a) (ID q b)).run P w=.ok (decide (a=b)) w:=by
  obtain ⟨lx,hx⟩:=h.key ha hwa
  obtain ⟨ly,hy⟩:=h.key hb hwb
  obtain ⟨e,hA,he⟩:=h.u
  obtain ⟨r,h1,h2⟩:=run_equal_deep w (m:=2) (by omega) (hA.at 0) hA.wide hx hy
  rw [h1]
  congr 1
  rw [Bool.eq_iff_iff,h2,decide_eq_true_eq]
  refine ⟨fun h3=>Qs.1 (h.law.inj hx (by rw [h3];exact hy)),fun h3=>?_⟩
  subst h3
  rw [hx] at hy
  injection hy
end
section
variable {P:Program} {TB:Bc} {Γ:Ctx} {d:Option Tmp} {ty:TypeId} {pos:String} {af:Array Edge} {g:Option (Nat×Bool)} {f:Env} {σ:Ab} {nx:Nat}
variable {K:E→Ab→Nat→Prop} {t:TypeId} {n:Nat} {q:IntKind}
theorem Ip {x y:Operand} {l:List Int} {k:IntKind} {i:Int} {v:Int} [h:Eh P t n q] (hx:ev f x=some (Vq q l)) (hy:ev f y=some (eI k i)) (hn:l.length=n) (h0:0≤i) (hv:l[i.toNat]? = some v) :
    AU P TB Γ ⟨d,.index t x y,ty,pos,af,g⟩ f σ nx (eI q v):=
  Az fun V ρ h1 _=>by
    have h2:=HW (h1.get (by simp [Op.operands]) hx)
    have h3:ρ y=.int k i:=Ay.val (h1.get (by simp [Op.operands]) hy)
    obtain ⟨e,hA,he⟩:=h.u
    obtain ⟨inf,hi⟩:=info_of_underlying he
    have h4:inf.size=1:=by have:=hA.one;simpa [Program.cellsOf,hi] using this
    have hlt:=(List.getElem?_eq_some_iff.1 hv).1
    have h5:i < (n:Int):=by omega
    refine ⟨.int q v,?_,.d (.v rfl)⟩
    have h6:(l.map (Value.int q)).toArray[i.toNat]? = some (.int q v):=by simp [hv]
    have h7:(isAgg e).run P V.w=.ok false V.w:=by simp [isAgg,run_underlying he,go_sem]
    simp [execOp,h2,h3,ID,Instr.index,asIntOf,run_underlying hA.hu,h0,h5,part,h7,sizeOf,typeInfo,hi,h4,hv,go_sem]
theorem YM {yt:TypeId} {x y:Operand} {a b:List Int} [h:Eh P t n q] (hx:ev f x=some (Vq q a)) (hy:ev f y=some (Vq q b)) (ha:a.length=n) (hb:b.length=n) (hwa:∀x∈a,(Lit.int q x).wf=true) (hwb:∀x∈b,(Lit.int q x).wf=true) :
    AU P TB Γ ⟨d,.binOp .eql t x y yt,ty,pos,af,g⟩ f σ nx (eB (decide (a=b))):=
  Az fun V ρ h1 _=>by
    have h2:=HW (h1.get (x:=x) (by simp [Op.operands]) hx)
    have h3:=HW (h1.get (x:=y) (by simp [Op.operands]) hy)
    refine ⟨.bool (decide (a=b)),?_,.d (.v rfl)⟩
    have h6:binOp .eql t (ID q a) (ID q b)=(do pure (.bool (←Op.equal t (ID q a) (ID q b)))):=rfl
    have h7:(eqGuard .eql t x y (ID q a) (ID q b)).run P V.w=.ok () V.w:=by
      unfold eqGuard ID
      simp [h.eg,go_sem]
    simp [execOp,h2,h3,h6,h7,h.run_eq ha hb hwa hwb V.w,go_sem]
def mapA (q:IntKind) (l:List (List Int×Int)):List (Value×Value):=l.map fun p=>(ID q p.1,.int .i64 p.2)
def CN:List (List Int×Int)→List Int→Option Int
  | [],_=>none
  | p::l,s=>if p.1=s then some p.2 else CN l s
theorem Fw:∀ {l:List (List Int×Int)} {s:List Int},CN l s=none↔∀p∈l,p.1≠s
  | [],s=>by simp [CN]
  | p::l,s=>by
    unfold CN
    split
    · rename_i h;simp [h]
    · rename_i h;rw [Fw (l:=l)];simp [h]
theorem IL:∀ {l:List (List Int×Int)} {p:List Int×Int},l.Pairwise (fun a b=>a.1≠b.1)→p∈l→CN l p.1=some p.2
  | [],p,_,h=>by cases h
  | x :: l,p,hd,h=>by
    unfold CN
    rcases List.mem_cons.1 h with rfl|h
    · rw [if_pos rfl]
    · rw [if_neg ((List.pairwise_cons.1 hd).1 p h)]
      exact IL (List.pairwise_cons.1 hd).2 h
def LR (n:Nat) (q:IntKind) (l:List (List Int×Int)):Prop:=∀p∈l,p.1.length=n∧∀x∈p.1,(Lit.int q x).wf=true
theorem Mf [h:Eh P t n q] {l:List (List Int×Int)} {es:List MapEntry} {s:List Int} (hl:LR n q l) (hes:es.map (fun e=>(e.key,e.val))=mapA q l) (hs:s.length=n) (hw:∀x∈s,(Lit.int q x).wf=true) (hd:l.Pairwise (fun a b=>a.1≠b.1)) (w:World) :
    ∃r,(Instr.findKey t (ID q s) es).run P w=.ok r w∧r.map (·.2)=(CN l s).map (.int .i64):=by
  obtain ⟨lx,hx⟩:=h.key hs hw
  have hmem:∀e∈es,∃p∈l,e.key=ID q p.1∧e.val=.int .i64 p.2:=fun e he=>by
    have:(e.key,e.val)∈mapA q l:=by rw [←hes];exact List.mem_map.2 ⟨e,he,rfl⟩
    obtain ⟨p,h1,h2⟩:=List.mem_map.1 this
    injection h2 with h2 h3
    exact ⟨p,h1,h2.symm,h3.symm⟩
  rcases h.law.find w hx es (fun e he=>by
    obtain ⟨p,h1,h2,_⟩:=hmem e he
    rw [h2];exact h.key (hl p h1).1 (hl p h1).2) with ⟨h1,h2⟩|⟨j,e,h1,h2,h3⟩
  · refine ⟨none,h1,?_⟩
    have:CN l s=none:=Fw.2 fun p hp he=>by
      have h4:(ID q p.1,Value.int .i64 p.2)∈es.map (fun e=>(e.key,e.val)):=by rw [hes];exact List.mem_map.2 ⟨p,hp,rfl⟩
      obtain ⟨e,h5,h6⟩:=List.mem_map.1 h4
      injection h6 with h6 h7
      exact h2 e h5 (by rw [h6,he])
    rw [this];rfl
  · refine ⟨_,h1,?_⟩
    obtain ⟨p,h4,h5,h6⟩:=hmem e (List.mem_of_getElem? h2)
    have h7:p.1=s:=Qs.1 (by rw [←h5,h3])
    rw [←h7,IL hd h4,h6];rfl
theorem Ki [h:Eh P t n q] {s:List Int} (hs:s.length=n) (hw:∀x∈s,(Lit.int q x).wf=true) (b:Bool) (w:World):(Instr.checkKey b 10000 t (ID q s)).run P w=.ok () w:=by
  obtain ⟨lx,hx⟩:=h.key hs hw
  exact h.law.check w b hx
theorem QM {m e:TypeId} {x y:Operand} {id:Nat} {l:List (List Int×Int)} {s:List Int} [hm:Ge P m t e] [h:Eh P t n q] [hz:LQ P e (.int .i64 0)] (hx:ev f x=some (.o (.mp id))) (hy:ev f y=some (Vq q s)) (ho:look σ id=some (.mp (mapA q l)))
    (hl:LR n q l) (hd:l.Pairwise (fun a b=>a.1≠b.1)) (hs:s.length=n) (hw:∀x∈s,(Lit.int q x).wf=true) :
    AU P TB Γ ⟨d,.lookup m x y true,ty,pos,af,g⟩ f σ nx (.t [(false,[.d (.v (.int .i64 ((CN l s).getD 0)))]),(false,[.d (.v (.bool (CN l s).isSome))])]):=
  Az fun V ρ hr hi=>by
    have e1:=hr.get (by simp [Op.operands]) hx
    have e2:ρ y=ID q s:=HW (hr.get (by simp [Op.operands]) hy)
    generalize hv:ρ x=v at e1
    cases e1 with
    | mp hid =>
      obtain ⟨hn,ents,clock,h1,h2⟩:=hi.st.obj id _ ho
      obtain ⟨r,hfk,h4⟩:=Mf (P:=P) (t:=t) (es:=ents.toList) hl h2 hs hw hd V.w
      have hzz:=hz.out
      simp only [Option.bind_eq_some_iff] at hzz
      obtain ⟨i,hi1,hz1⟩:=hzz
      have hzv:(zeroValue e).run P V.w=.ok (.int .i64 0) V.w:=by simp [zeroValue,typeInfo,hi1,hz1,go_sem]
      have hck:=Ki (P:=P) (t:=t) hs hw ents.isEmpty V.w
      refine ⟨.tuple #[.int .i64 ((CN l s).getD 0),.bool (CN l s).isSome],?_,⟨_,rfl,rfl,fun j x v hj hv=>?_⟩⟩
      · cases r with
        | none=>
          have h5:CN l s=none:=by simpa using h4.symm
          simp [execOp,hv,e2,Instr.lookup,run_underlying hm.out,MapKept.run_getObj_map h1,hck,hfk,hzv,h5,go_sem]
        | some p=>
          obtain ⟨n,h5,h6⟩:∃n,CN l s=some n∧p.2=.int .i64 n:=by
            cases hf:CN l s with
            | none=>rw [hf] at h4;simp at h4
            | some n=>rw [hf] at h4;exact ⟨n,rfl,by simpa using h4⟩
          obtain ⟨q1,q2⟩:=p
          simp only at h6
          subst h6
          simp [execOp,hv,e2,Instr.lookup,run_underlying hm.out,MapKept.run_getObj_map h1,hck,hfk,h5,go_sem]
      · match j with
        | 0=>simp at hj hv;subst hj;subst hv;exact ⟨_,rfl,.d (.v rfl)⟩
        | 1=>simp at hj hv;subst hj;subst hv;exact ⟨_,rfl,.d (.v rfl)⟩
        | j+2=>simp at hj
theorem Xb {m e:TypeId} {x y z:Operand} {id:Nat} {l:List (List Int×Int)} {s:List Int} {v:Int} [hm:Ge P m t e] [h:Eh P t n q] (hx:ev f x=some (.o (.mp id))) (hy:ev f y=some (Vq q s)) (hz:ev f z=some (eI .i64 v)) (ho:look σ id=some (.mp (mapA q l)))
    (hl:LR n q l) (hd:l.Pairwise (fun a b=>a.1≠b.1)) (hs:s.length=n) (hw:∀x∈s,(Lit.int q x).wf=true) (hn:CN l s=none) (hK:K (.t []) ((id,.mp (mapA q (l++[(s,v)])))::σ) nx):B3 P TB Γ ⟨d,.mapUpdate m x y z,ty,pos,af,g⟩ f σ nx K:=by
  intro V a h1 h2 h3
  have h1:=h1.E6
  unfold Oper.wp
  generalize a.eval=ρ at h1 ⊢
  have e1:=h1.get (x:=x) (by simp [Op.operands]) hx
  have e2:ρ y=ID q s:=HW (h1.get (by simp [Op.operands]) hy)
  have e3:ρ z=.int .i64 v:=Ay.val (h1.get (by simp [Op.operands]) hz)
  generalize hv:ρ x=vx at e1
  cases e1 with
  | mp hid=>
    obtain ⟨hnl,ents,clock,h4,h5⟩:=h2.st.obj id _ ho
    obtain ⟨r,hfk,h7⟩:=Mf (P:=P) (t:=t) (es:=ents.toList) hl h5 hs hw hd V.w
    rw [hn] at h7
    have hr:r=none:=by cases r with
      | none=>rfl
      | some q=>simp at h7
    subst hr
    have hck:=Ki (P:=P) (t:=t) hs hw false V.w
    let ob:Obj:=.map (ents.push { key:=ID q s,val:=.int .i64 v,born:=clock }) (clock+1)
    let w':World:={ V.w with heap:=V.w.heap.setIfInBounds (V.ρ id) ob }
    have hset:=MapKept.run_setObj_map (P:=P) ob h4
    have hlt:=(Array.getElem?_eq_some_iff.1 h4).1
    obtain ⟨hi,he⟩:=h2.write ho hnl (w:=w') (ob':=.mp (mapA q (l++[(s,v)]))) rfl rfl rfl rfl rfl (by simp [w']) (fun b hb=>by simp [w',Array.getElem?_setIfInBounds,Ne.symm hb]) (by
      refine ⟨hnl,ents.push { key:=ID q s,val:=.int .i64 v,born:=clock },clock+1,?_,?_⟩
      · show w'.heap[V.ρ id]? = some ob
        simp [w',Array.getElem?_setIfInBounds,hlt]
      · simp [mapA] at h5 ⊢
        exact h5)
    have hrun:(execOp ρ ⟨d,.mapUpdate m x y z,ty,pos,af,g⟩).run P V.w=.ok .skip w':=by
      simp [execOp,hv,e2,e3,Instr.mapUpdate,run_underlying hm.out,MapKept.run_getObj_map h4,hck,hfk,hset,ob,w',go_sem]
    rw [hrun]
    exact ⟨{ V with w:=w' },.tuple #[],.t [],_,rfl,rfl,he,hi,⟨#[],rfl,rfl,fun j x v hj=>by simp at hj⟩,by rw [←h3] at hK;exact hK⟩
end
end Go.Am
namespace Go.Am
open Go Go.Proofs
set_option maxHeartbeats 1000000
attribute [local irreducible] AU B3 Lex Br Ai Spec
variable {TB:Bc}
abbrev Sd (n:UInt8):List D:=[.v (.int .u8 n.toNat)]
abbrev Lm (l:List UInt8):D:=.l (l.map Sd)
abbrev AI (b:List UInt8) (p:Int):O:=.cells 112 2 [[.d (Lm b),.d (iD p)]]
theorem Tj {a b:Nat} (ha:a < 2 ^ 62) (hb:b < 2 ^ 62):Pk .i64 a b=((a ^^^ b:Nat):Int):=by
  unfold Pk
  have h1:(BitVec.ofInt IntKind.i64.bits (a:Int)).toNat=a:=by
    rw [BitVec.toNat_ofInt];have:IntKind.i64.bits=64:=rfl;rw [this];omega
  have h2:(BitVec.ofInt IntKind.i64.bits (b:Int)).toNat=b:=by
    rw [BitVec.toNat_ofInt];have:IntKind.i64.bits=64:=rfl;rw [this];omega
  rw [BitVec.toNat_xor,h1,h2]
  have h3:a ^^^ b < 2 ^ 62:=Nat.xor_lt_two_pow ha hb
  exact IntWalk.i64_in _ (by omega)
theorem Vn {x y:Int} (hx:0≤x∧x < 4611686018427387904) (hy:0≤y∧y < 4611686018427387904):0≤Pk .i64 x y∧Pk .i64 x y < 4611686018427387904:=by
  obtain ⟨a,rfl⟩:∃a:Nat,x=a:=⟨x.toNat,by omega⟩
  obtain ⟨b,rfl⟩:∃b:Nat,y=b:=⟨y.toNat,by omega⟩
  rw [Tj (by omega) (by omega)]
  have h3:a ^^^ b < 2 ^ 62:=Nat.xor_lt_two_pow (by omega) (by omega)
  omega
theorem En (b:List UInt8) (hb:b.length≤9223372036854775807):∃b':List UInt8,b'.length≤2000∧AN Tryz.prog TB 54 0 [] 0 [.o (.d (Lm b))] (fun x σ nx=>x=.o (.ptr 0 2 0 0)∧σ=[(0,AI b' 0)]∧nx=1):=by
  by_cases h:b.length≤2000
  · refine ⟨b,h,?_⟩
    refine AN.NM (m:=0) (Nat.le_of_ble_eq_true rfl) Tryz.func54 rfl (by kernel_rfl) (Nat.le_of_ble_eq_true rfl) ?_;intro Γ hΓ
    (repeat first|refine sN rfl ?_ |refine tX rfl ?_ |refine s2 rfl fun _ _hb=>?_ |refine aU rfl ?_ |refine Aa ?_)
    ((refine aC rfl ?_ ?_<;>rintro ⟨⟩);all_goals try (simp at _hb;done))
    · exfalso;(simp only[oZ] at *;omega)
    refine aK ?_
    (repeat first|refine tX rfl ?_|(refine Ag rfl ?_;refine gA rfl ?_;first| refine gS (fun _ _=>Au rfl rfl (by rfl) (by rfl)) ?_) |refine aU rfl ?_)
    (refine pW rfl ?_ rfl (by rfl);refine Es rfl rfl ?_)
    (repeat first|refine tX rfl ?_ |refine Aa ?_)
    refine aR ⟨_,rfl,rfl,rfl,rfl⟩
  · refine ⟨b.take 2000,by simp;omega,?_⟩
    have e:(b.map Sd).take (2000:Int).toNat=(b.take 2000).map Sd:=by simp [List.map_take]
    refine AN.NM (m:=0) (Nat.le_of_ble_eq_true rfl) Tryz.func54 rfl (by kernel_rfl) (Nat.le_of_ble_eq_true rfl) ?_;intro Γ hΓ
    (repeat first|refine sN rfl ?_ |refine tX rfl ?_ |refine s2 rfl fun _ _hb=>?_ |refine aU rfl ?_ |refine Aa ?_)
    ((refine aC rfl ?_ ?_<;>rintro ⟨⟩);all_goals try (simp at _hb;done))
    · (repeat first|refine tX rfl ?_|(refine Ag rfl ?_;refine gA rfl ?_;first| refine gS (fun _ _=>GW rfl rfl (by simp) (by omega) (by simp;omega)) ?_) |refine aU rfl ?_ |refine Aa ?_)
      rw [e]
      (repeat first| (refine Ag rfl ?_;refine gA rfl ?_;first| refine gS (fun _ _=>Au rfl rfl (by rfl) (by rfl)) ?_))
      (refine pW rfl ?_ rfl (by rfl);refine Es rfl rfl ?_)
      (repeat first|refine tX rfl ?_ |refine Aa ?_)
      refine aR ⟨_,rfl,rfl,rfl,rfl⟩
    · exfalso;(simp only[oZ] at *;omega)
theorem AK (b:List UInt8) (hb:b.length≤2000) (p n:Int) (h0:0≤p∧p < 1000000000):∃k:Int,0≤k∧(k=0∨k < n)∧Spec Tryz.prog TB 66 [(0,AI b p)] 1 [.o (.ptr 0 2 0 0),eI .i64 n] (fun x σ nx=>x=eI .i64 k∧σ=[(0,AI b (p+1))]∧nx=1):=by
  by_cases hz:n < 1∨b.length=0
  · refine ⟨0,by omega,.inl rfl,?_⟩
    refine eR Tryz.func66 rfl (by kernel_rfl) rfl ?_;intro Γ hΓ
    (repeat' first|refine sN rfl ?_ |(refine sA rfl ?_ ?_;first|exact tI|omega|simp only[oZ] at *;omega) |refine s2 rfl fun _ _hb=>?_ |refine s3 rfl ?_ ?_<;>rintro rfl |refine aU rfl ?_ |refine Aa ?_ |refine rE (by kernel_rfl) ?_|(refine aC rfl ?_ ?_<;>rintro ⟨⟩)|refine aK ?_|refine aE ?_|refine aB ?_|refine aR ⟨_,rfl,?_⟩)
    all_goals first
      | (exfalso;(simp only[oZ] at *;omega);done)
      | refine ⟨[0],eI .i64 0,[(0,AI b (p+1))],⟨by first|(simp;done)|decide|(intro i hi;match i with|0=>rfl),by decide⟩,rfl,by (simp[cX,zC,hΓ]),rfl,rfl,rfl⟩
  have hl:0 < b.length:=by omega
  have hn:0 < n:=by omega
  by_cases hp:p < b.length
  · obtain ⟨c,hc⟩:=get_some (l:=b) (k:=(p+1 - 1).toNat) (by omega)
    have hc':=get_map (g:=Sd) hc
    have hcl:=c.toNat_lt
    refine ⟨(c.toNat:Int) % n,Int.emod_nonneg _ (by omega),.inr (Int.emod_lt_of_pos _ hn),?_⟩
    refine eR Tryz.func66 rfl (by kernel_rfl) rfl ?_;intro Γ hΓ
    (repeat' first|refine sN rfl ?_ |(refine sA rfl ?_ ?_;first|exact tI|omega) |(refine s4 rfl ‹_› rfl ?_ ?_;omega) |refine s2 rfl fun _ _hb=>?_ |refine s3 rfl ?_ ?_<;>rintro rfl |refine aU rfl ?_ |refine Aa ?_ |refine rE (by kernel_rfl) ?_|(refine aC rfl ?_ ?_<;>rintro ⟨⟩)|refine aK ?_|refine aE ?_|refine aB ?_|refine aR ⟨_,rfl,?_⟩)
    all_goals first
      | (exfalso;(simp only[oZ] at *;omega);done)
      | refine ⟨[0],_,[(0,AI b (p+1))],⟨by first|(simp;done)|decide|(intro i hi;match i with|0=>rfl),by decide⟩,rfl,by (simp[cX,zC,hΓ]),rfl,rfl,rfl⟩
  · have hl':(0:Int) < b.length:=by omega
    have i1:=Int.emod_nonneg (p+1 - 1) (show (b.length:Int)≠0 by omega)
    have i2:=Int.emod_lt_of_pos (p+1 - 1) hl'
    have j1:=Int.emod_nonneg ((p+1 - 1)*7+3) (show (b.length:Int)≠0 by omega)
    have j2:=Int.emod_lt_of_pos ((p+1 - 1)*7+3) hl'
    obtain ⟨c,hc⟩:=get_some (l:=b) (k:=((p+1 - 1) % (b.length:Int)).toNat) (by omega)
    have hc':=get_map (g:=Sd) hc
    have hcl:=c.toNat_lt
    obtain ⟨d,hd⟩:=get_some (l:=b) (k:=(((p+1 - 1)*7+3) % (b.length:Int)).toNat) (by omega)
    have hd':=get_map (g:=Sd) hd
    have hdl:=d.toNat_lt
    have q1:0≤(p+1 - 1) / (b.length:Int):=Int.ediv_nonneg (by omega) (by omega)
    have q2:(p+1 - 1) / (b.length:Int)≤p+1 - 1:=Int.ediv_le_self _ (by omega)
    obtain ⟨x,hx⟩:∃x,x=(c.toNat:Int)*131+(d.toNat:Int)*1117+(p+1 - 1)*29+(p+1 - 1) / (b.length:Int)*53:=⟨_,rfl⟩
    have x1:0≤x∧x < 1000000000000:=by omega
    have y1:=Vn (x:=x) (y:=x / 64) (by omega) (by omega)
    refine ⟨Pk .i64 x (x / 64) % n,Int.emod_nonneg _ (by omega),.inr (Int.emod_lt_of_pos _ hn),?_⟩
    refine eR Tryz.func66 rfl (by kernel_rfl) rfl ?_;intro Γ hΓ
    (repeat' first|refine sN rfl ?_ |(refine sA rfl ?_ ?_;first|exact tI|omega) |(refine s4 rfl ‹_› rfl ?_ ?_;omega) |(refine s2 rfl fun _ _hb=>?_;try (simp only[Bool.not_true,Bool.not_false] at _hb;subst _hb))|(refine Ag rfl ?_;refine gA rfl ?_;first| refine gS (fun _ _=>Y2 rfl rfl rfl) ?_) |refine s3 rfl ?_ ?_<;>rintro rfl |refine aU rfl ?_ |refine Aa ?_ |refine rE (by kernel_rfl) ?_|(refine aC rfl ?_ ?_<;>rintro ⟨⟩)|refine aK ?_|refine aR ⟨_,rfl,?_⟩|(rw [←hx]))
    all_goals first
      | (exfalso;(simp only[oZ] at *;omega);done)
      | refine ⟨[0],_,[(0,AI b (p+1))],⟨by first|(simp;done)|decide|(intro i hi;match i with|0=>rfl),by decide⟩,rfl,by (simp[cX,zC,hΓ]),rfl,rfl,rfl⟩
theorem BC (b:List UInt8) (hb:b.length≤2000) (p:Int) (h0:0≤p∧p < 1000000000) (l:List Int) (hl:0 < l.length) (hl2:l.length < 1000000):∃k∈l,Spec Tryz.prog TB 77 [(0,AI b p)] 1 [.o (.ptr 0 2 0 0),A7 l] (fun x σ nx=>x=eI .i64 k∧σ=[(0,AI b (p+1))]∧nx=1):=by
  obtain ⟨k,k1,k2,h⟩:=AK (TB:=TB) b hb p l.length h0
  obtain ⟨x,hx⟩:=get_some (l:=l) (k:=k.toNat) (by omega)
  have hx':=get_map (g:=Db) hx
  refine ⟨x,List.mem_of_getElem? hx,?_⟩
  refine eR Tryz.func77 rfl (by kernel_rfl) rfl ?_;intro Γ hΓ
  (repeat first|refine sN rfl ?_ |refine tA rfl ?_ |refine aU rfl ?_ |refine Aa ?_)
  (refine pW rfl ?_ rfl (by rfl);refine Ac [0] rfl rfl (h) ⟨rfl,by decide,by decide⟩ rfl (by simp[cX,zC,hΓ]) ?_;rintro x0 σ1 nx1 ⟨rfl,rfl,rfl⟩ _)
  (repeat first|refine tA rfl ?_ |(refine s4 rfl ‹_› rfl ?_ ?_;omega) |refine Aa ?_)
  refine aR ⟨_,rfl,?_⟩
  refine ⟨[0],_,[(0,AI b (p+1))],⟨by first|(simp;done)|decide|(intro i hi;match i with|0=>rfl),by decide⟩,rfl,by (simp[cX,zC,hΓ]),rfl,rfl,rfl⟩
theorem My (b:List UInt8) (hb:b.length≤2000) (p:Int) (h0:0≤p∧p < 1000000000) (l:List W) (hl:0 < l.length) (hl2:l.length < 1000000):∃k∈l,Spec Tryz.prog TB 75 [(0,AI b p)] 1 [.o (.ptr 0 2 0 0),Bk l] (fun x σ nx=>x=eT k∧σ=[(0,AI b (p+1))]∧nx=1):=by
  obtain ⟨k,k1,k2,h⟩:=AK (TB:=TB) b hb p l.length h0
  obtain ⟨x,hx⟩:=get_some (l:=l) (k:=k.toNat) (by omega)
  have hx':=get_map (g:=BI) hx
  refine ⟨x,List.mem_of_getElem? hx,?_⟩
  refine eR Tryz.func75 rfl (by kernel_rfl) rfl ?_;intro Γ hΓ
  (repeat first|refine sN rfl ?_ |refine tA rfl ?_ |refine aU rfl ?_ |refine Aa ?_)
  (refine pW rfl ?_ rfl (by rfl);refine Ac [0] rfl rfl (h) ⟨rfl,by decide,by decide⟩ rfl (by simp[cX,zC,hΓ]) ?_;rintro x0 σ1 nx1 ⟨rfl,rfl,rfl⟩ _)
  (repeat first|refine tA rfl ?_ |(refine s4 rfl ‹_› rfl ?_ ?_;omega) |refine Aa ?_)
  refine aR ⟨_,rfl,?_⟩
  refine ⟨[0],_,[(0,AI b (p+1))],⟨by first|(simp;done)|decide|(intro i hi;match i with|0=>rfl),by decide⟩,rfl,by (simp[cX,zC,hΓ]),rfl,rfl,rfl⟩
def EK (F:PS):List Int:=[(F 0:Nat),(F 1:Nat),(F 2:Nat),(F 3:Nat),(F 4:Nat),(F 5:Nat),(F 6:Nat),(F 7:Nat),(F 8:Nat),(F 9:Nat),(F 10:Nat),(F 11:Nat)]
abbrev MB (F:PS):List C:=aj .u16 (EK F)
abbrev Xp (F:PS):E:=Vq .u16 (EK F)
theorem GV {F:PS} {p:Nat} (h:p < 12):(EK F)[p]? = some (F p:Int):=by
  obtain rfl|rfl|rfl|rfl|rfl|rfl|rfl|rfl|rfl|rfl|rfl|rfl:p=0∨p=1∨p=2∨p=3∨p=4∨p=5∨p=6∨p=7∨p=8∨p=9∨p=10∨p=11:=by omega
  all_goals rfl
theorem J6 {F:PS} {p:Nat} (h:p < 12):(MB F)[p]? = some (.d (.v (.int .u16 (F p:Int)))):=by simp [GV h]
theorem MC {F G:PS} (h:∀p,p < 12→F p=G p):EK F=EK G:=by
  unfold EK
  rw [h 0 (by omega),h 1 (by omega),h 2 (by omega),h 3 (by omega),h 4 (by omega),h 5 (by omega),h 6 (by omega),h 7 (by omega),h 8 (by omega),h 9 (by omega),h 10 (by omega),h 11 (by omega)]
theorem Nn {F G:PS} (h:EK F=EK G):∀p,p < 12→F p=G p:=fun p hp=>by
  have:=GV (F:=F) hp
  rw [h,GV hp] at this
  injection this with this
  omega
theorem QK {F:PS} {p:Nat} (h:p < 12) {v:Nat}:Ae (MB F) p [.d (.v (.int .u16 (v:Int)))]=MB fun i=>if i=p then v else F i:=by
  have hl:(MB F).length=12:=by simp [EK]
  rw [FO (by omega)]
  apply List.ext_getElem?
  intro i
  rw [List.getElem?_set]
  by_cases hi:i < 12
  · rw [J6 hi,J6 hi]
    by_cases e:p=i
    · subst e;rw [if_pos rfl,if_pos (by omega),if_pos rfl]
    · rw [if_neg e,if_neg (fun h=>e h.symm)]
  · have h1:∀G:PS,(MB G)[i]? = none:=fun G=>List.getElem?_eq_none (by simp [EK];omega)
    rw [h1,h1]
    by_cases e:p=i
    · omega
    · rw [if_neg e]
theorem u16_in {n:Nat} (h:n < 65536):IntKind.u16.wrap (n:Int)=n:=by
  unfold IntKind.wrap
  simp [IntKind.bits,IntKind.signed,IntKind.min,IntKind.max]
  omega
instance:Eh Tryz.prog 147 12 .u16:=⟨⟨145,⟨by kernel_rfl,by kernel_rfl,by kernel_rfl,by kernel_rfl⟩,by kernel_rfl⟩,by kernel_rfl,fun h=>by
  have h2:Nat.beq Tryz.prog.types.size 0=false:=by kernel_rfl
  rw [h] at h2;cases h2⟩
def C5 (t:B8) (l:Int) (F:PS) (k:Nat):PS:=fun p':Nat=>(List.range k).foldl (fun a p=>if Dj t.q p l=(p':Int) then a ||| Cz t.s l (F p) else a) 0
theorem GQ {t:B8} {l:Int} {F:PS} {k:Nat}:C5 t l F (k+1)=fun p':Nat=>if Dj t.q k l=(p':Int) then C5 t l F k p' ||| Cz t.s l (F k) else C5 t l F k p':=by
  funext p'
  unfold C5
  rw [List.range_succ,List.foldl_append];rfl
theorem PL {s:Sys} {l:Int}:Cz s l 0=0:=by
  unfold Cz
  split
  · exact GH fun j=>by
      cases h:(BB s.es l 0).testBit j
      · rfl
      · obtain ⟨e,_,⟨_,h2⟩,_⟩:=DC.1 h
        simp at h2
  · rfl
theorem Mr {t:B8} {l:Int} {F:PS} {k:Nat} (h:F k=0):C5 t l F (k+1)=C5 t l F k:=by
  rw [GQ]
  funext p'
  rw [h,PL]
  split<;>simp
theorem TD {t:B8} {l:Int} {F:PS} (h:CB t F) (hn:t.q.nx.length≤12):C5 t l F 12=Qy t l F:=by
  have key:∀k,C5 t l F (t.q.nx.length+k)=C5 t l F t.q.nx.length:=fun k=>by
    induction k with
    | zero=>rfl
    | succ k ih=>rw [←Nat.add_assoc,Mr (h.z _ (by omega)),ih]
  have:=key (12 - t.q.nx.length)
  rw [show t.q.nx.length+(12 - t.q.nx.length)=12 by omega] at this
  rw [this];rfl
theorem Qz {t:B8} (ht:AR t=true) {l:Int} {F:PS} (h:CB t F) (k p:Nat):C5 t l F k p < 65536:=by
  induction k with
  | zero=>simp [C5]
  | succ k ih=>
    rw [GQ]
    simp only
    have h2:=Gz ht (l:=l) (h.lt k)
    split
    · have:=Nat.or_lt_two_pow (n:=16) ih h2;omega
    · exact ih
structure EM where
  F:List PS
  nx:List (List Int)
  un:List Bool
abbrev Mx (r:List Int):List C:=r.map fun x=>.d (iD x)
def LC (F:List PS):List (List Int×Int):=F.zipIdx.map fun x=>(EK x.1,(x.2:Int))
abbrev Us (t:B8) (a b c d:C):List C:=[.d (iD t.s.al),.d (iD t.s.st),.d (EO t.s.es),.d (iD t.q.al),.d (DA t.q.nx),.d (FT t.q.ac),.d (iD t.al),.ip (Er t.s.es),.d (.l (LN t.q)),.d (E9 (Cg t)),a,b,c,d]
abbrev JL (t:B8) (m:EM):Ab:=[(0,.cells 143 14 [Us t (.arr 1 12 0 m.F.length) (.mp 2) (.arr 3 6 0 m.nx.length) (.arr 4 1 0 m.un.length)]),(1,.cells 147 12 (m.F.map MB)),(2,.mp (mapA .u16 (LC m.F))),(3,.cells 96 6 (m.nx.map Mx)),(4,.cells 4 1 (m.un.map AL))]
theorem AE (r:Nat→Nat) (q:IntKind) (l:List Int):C.BG r (l.map fun x=>.d (.v (.int q x)))=l.map fun x=>.d (.v (.int q x)):=by
  rw [show (l.map fun x=>C.d (.v (.int q x)))=(l.map fun x=>D.v (.int q x)).map .d by simp,Nu]
theorem KS {P:Program} {Γ:Ctx} {d:Option Tmp} {ty:TypeId} {pos:String} {af:Array Edge} {g:Option (Nat×Bool)} {f:Env} {σ:Ab} {nx:Nat} {t:TypeId} {x:Operand} {id k i j n:Nat} {T:TypeId} {rows:List (List C)} {r:List C} {c:C} [hl:Df P t false n] (hx:ev f x=some (.o (.ptr id k i j))) (ho:look σ id=some (.cells T k rows)) (hr:rows[i]? = some r) (hc:r[j]? = some c) :
    AU P TB Γ ⟨d,.load t x,ty,pos,af,g⟩ f σ nx (.o c):=OH hx ho hr (show W0 false n j r=some (.o c) by unfold W0;rw [hc];rfl)
theorem Oj {r:List Nat}:∀i,i < 5→(0::1::2::3::4::r)[i]? = some i
  | 0,_|1,_|2,_|3,_|4,_=>rfl
  | n+5,h=>by omega
theorem Qo {a b:Nat} (ha:a < 65536) (hb:b < 65536):Ry .u16 (a:Int) (b:Int)=((a ||| b:Nat):Int):=by
  have h0:a ||| b < 2 ^ 16:=Nat.or_lt_two_pow (by omega) (by omega)
  unfold Ry
  have h1:(BitVec.ofInt IntKind.u16.bits (a:Int) ||| BitVec.ofInt IntKind.u16.bits (b:Int)).toNat=a ||| b:=by
    have e:IntKind.u16.bits=16:=rfl
    rw [e]
    simp only [BitVec.toNat_or,BitVec.ofInt_natCast,BitVec.toNat_ofNat]
    rw [Nat.mod_eq_of_lt (by omega),Nat.mod_eq_of_lt (by omega)]
  rw [h1]
  exact u16_in (by omega)
theorem Qx [DZ TB] {t:B8} (ht:AR t=true) (m:EM) {l:Int} (hl:0≤l∧l < 6) {F:PS} (hF:CB t F):Spec Tryz.prog TB 175 (JL t m) 5 [.o (.ptr 0 14 0 0),Xp F,eI .i64 l] (fun x σ nx=>x=Xp (Qy t l F)∧σ=JL t m∧nx=5):=by
  have hs:BD t.s=true:=by unfold AR at ht;simp only [Bool.and_eq_true] at ht;exact ht.1
  have ha:=Cp ht
  have hah:=AX ha
  rw [←TD hF (by omega)]
  refine eR Tryz.func175 rfl (by kernel_rfl) rfl ?_;intro Γ hΓ
  (repeat first|refine tA rfl ?_ |refine aU rfl ?_ |refine Aa ?_)
  refine aB ?_
  refine aL (α:={k:Nat // k≤12}) [0,2,6,7,11] [0,1,2,3,4,5] rfl rfl (fun s=>[(12,eI .i64 s.1)]) (fun s=>[(6,.cells 147 12 [MB (C5 t l F s.1)])]) 7 (fun s=>12 - s.1) (⟨0,by omega⟩) hΓ rfl (by (simp[cX,zC,hΓ,AE]<;>rfl)) ?_;rintro ⟨k,hk⟩;(try dsimp only[cA,cB])
  by_cases hkl:k < 12
  · have hx:(EK F)[((k:Nat):Int).toNat]? = some (F k:Int):=by rw [Int.toNat_natCast];exact GV hkl
    have hfk:=hF.lt k
    (repeat first|refine s2 rfl fun _ _hb=>?_ |refine aU rfl ?_ |refine Aa ?_)
    ((refine aC rfl ?_ ?_<;>rintro ⟨⟩);all_goals try(exfalso;(simp only[oZ] at *;omega)))
    refine aK ?_
    refine aS (aB ?_)
    (repeat first|refine tA rfl ?_ |refine s2 rfl fun _ _hb=>?_|(refine Ag rfl ?_;refine gA rfl ?_;first| refine gS (fun _ _=>Ip (l:=EK F) rfl rfl rfl (by omega) hx) ?_) |refine aU rfl ?_ |refine Aa ?_)
    (refine aC rfl ?_ ?_<;>rintro ⟨⟩)
    · have hz:F k=0:=by (simp only[oZ] at *;omega)
      refine aE ?_
      (repeat first|(refine sA rfl ?_ ?_;first|exact tI|omega) |refine aU rfl ?_ |refine Aa ?_)
      refine ⟨⟨k+1,by omega⟩,by dsimp only;(omega),[0,1,2,3,4,5,6],?_⟩
      simp[cX,zC,hΓ,AE,Mr hz];exact Oj
    · have hkn:k < t.q.nx.length:=by
        rcases Nat.lt_or_ge k t.q.nx.length with h1|h1
        · exact h1
        · have:=hF.z k h1;(simp only[oZ] at *;omega)
      have ta:=NC (a:=t.q) (q:=((k:Nat):Int).toNat) (by omega)
      have ra:=K0 (h:=fun l=>Dj t.q k l) hl.1 hl.2
      have el:((l.toNat:Nat):Int)=l:=by omega
      simp only [el] at ra
      have hga:=Gp ha hkn hl.1 hl.2
      have hst:=VW (TB:=TB) hs hl hfk
      have hss:=Gz ht (l:=l) hfk
      have hml:=Qz ht (l:=l) hF k
      obtain ⟨g,hg⟩:∃g:Nat,Dj t.q k l=g:=⟨(Dj t.q k l).toNat,by omega⟩
      rw [hg] at ra hga
      refine aK ?_
      (repeat first|(refine sA rfl ?_ ?_;first|exact tI|omega) |(refine sC rfl (Kt _ _) ?_;intro _ _hb)|(refine Ag rfl ?_;refine gA rfl ?_;first| refine gS (fun _ _=>Np rfl (IntWalk.i64_in _ (by omega))) ?_) |refine aU rfl ?_ |refine Aa ?_)
      have ej:0+((g:Nat):Int).toNat*1=g:=by omega
      have hj:(MB (C5 t l F k))[0+((g:Nat):Int).toNat*1]? = some (.d (.v (.int .u16 (C5 t l F k g:Int)))):=by rw [ej];exact J6 (by omega)
      have hor:=Qo (hml g) hss
      have hns:C5 t l F (k+1)=fun p':Nat=>if p'=g then C5 t l F k g ||| Cz t.s l (F k) else C5 t l F k p':=by
        rw [GQ,hg]
        funext p'
        by_cases e:p'=g
        · subst e;simp
        · rw [if_neg e,if_neg (by omega)]
      have hset:=QK (F:=C5 t l F k) (p:=g) (by omega) (v:=C5 t l F k g ||| Cz t.s l (F k))
      rw [←hns] at hset
      (refine aC rfl ?_ ?_<;>rintro ⟨⟩)
      · have hb:DQ t.s.al l.toNat=true:=by simpa [hasB,hl.1] using _hb
        have hsm:Cz t.s l (F k)=BB t.s.es l (F k):=by unfold Cz;rw [if_pos hb]
        rw [←hsm] at hst
        (repeat first|(refine sA rfl ?_ ?_;first|exact tI|omega) |(refine s4 rfl ‹_› rfl ?_ ?_;omega) |refine sP rfl (hst) rfl ?_ |refine aU rfl ?_ |refine Aa ?_)
        (repeat first|(refine sA rfl ?_ ?_;first|exact tI|omega)|(refine Ag rfl ?_;refine gA rfl ?_;first| refine gS (fun _ _=>Fj rfl ra) ?_|refine gQ (KS rfl rfl rfl hj) rfl ?_|refine gS (fun _ _=>Np rfl (u16_in hss)) ?_|refine gS (fun _ _=>Xv rfl rfl hor) ?_))
        (refine Ag rfl ?_;refine FW ?_ rfl (by rfl);refine CK (r:=MB (C5 t l F k)) rfl rfl rfl rfl rfl rfl (by show 0+((g:Nat):Int).toNat*1+1≤12;omega) ?_)
        refine Aa ?_
        (repeat first|(refine sA rfl ?_ ?_;first|exact tI|omega) |refine aU rfl ?_ |refine Aa ?_)
        refine ⟨⟨k+1,by omega⟩,by dsimp only;(omega),[0,1,2,3,4,5,6],?_⟩
        simp[cX,zC,hΓ,AE,hor];exact ⟨Oj,by simpa [Ae] using hset⟩
      · have hb:DQ t.s.al l.toNat=false:=by simpa [hasB,hl.1] using _hb
        have hsm:Cz t.s l (F k)=F k:=by unfold Cz;rw [if_neg (by simp [hb])]
        rw [hsm] at hor hset
        refine aK ?_
        (repeat first|(refine sA rfl ?_ ?_;first|exact tI|omega) |(refine s4 rfl ‹_› rfl ?_ ?_;omega)|(refine Ag rfl ?_;refine gA rfl ?_;first| refine gS (fun _ _=>Fj rfl ra) ?_|refine gQ (KS rfl rfl rfl hj) rfl ?_|refine gS (fun _ _=>Np rfl (u16_in hfk)) ?_|refine gS (fun _ _=>Xv rfl rfl hor) ?_) |refine aU rfl ?_)
        (refine Ag rfl ?_;refine FW ?_ rfl (by rfl);refine CK (r:=MB (C5 t l F k)) rfl rfl rfl rfl rfl rfl (by show 0+((g:Nat):Int).toNat*1+1≤12;omega) ?_)
        refine Aa ?_
        (repeat first|(refine sA rfl ?_ ?_;first|exact tI|omega) |refine aU rfl ?_ |refine Aa ?_)
        refine ⟨⟨k+1,by omega⟩,by dsimp only;(omega),[0,1,2,3,4,5,6],?_⟩
        simp[cX,zC,hΓ,AE,hor];exact ⟨Oj,by simpa [Ae] using hset⟩
  · obtain rfl:k=12:=by omega
    (repeat first|refine s2 rfl fun _ _hb=>?_ |refine aU rfl ?_ |refine Aa ?_)
    ((refine aC rfl ?_ ?_<;>rintro ⟨⟩);all_goals try(exfalso;(simp only[oZ] at *;omega)))
    refine aE ?_
    (repeat first|refine tA rfl ?_ |refine aU rfl ?_ |refine Aa ?_)
    refine aR ⟨_,rfl,[0,1,2,3,4],Xp (C5 t l F 12),JL t m,⟨Oj,by decide⟩,rfl,by (simp[cX,zC,hΓ,AE]),rfl,rfl,rfl⟩
def FX (t:B8) (F:PS) (ls:List Int):PS:=fun p=>ls.foldl (fun a l=>a ||| Qy t l F p) (F p)
def Ie (A B:PS) (k:Nat):PS:=fun p=>if p < k then A p ||| B p else A p
theorem RH {A B:PS} {k:Nat}:Ie A B (k+1)=fun p=>if p=k then Ie A B k k ||| B k else Ie A B k p:=by
  funext p
  unfold Ie
  by_cases e:p=k
  · subst e;simp
  · by_cases h:p < k
    · rw [if_pos (by omega),if_neg e,if_pos h]
    · rw [if_neg (by omega),if_neg e,if_neg h]
theorem Sy {t:B8} {F:PS} {ls:List Int} {l:Int}:FX t F (ls++[l])=fun p=>FX t F ls p ||| Qy t l F p:=by
  funext p
  unfold FX
  rw [List.foldl_append];rfl
theorem QH {α:Type} {g:α→Nat} {j:Nat}:∀ {l:List α} {a:Nat},(l.foldl (fun a x=>a ||| g x) a).testBit j=true↔a.testBit j=true∨∃x∈l,(g x).testBit j=true
  | [],a=>by simp
  | x::l,a=>by
    rw [List.foldl_cons,QH,Nat.testBit_or,Bool.or_eq_true]
    simp [or_assoc]
theorem EY {t:B8} {F:PS} {ls:List Int} {p j:Nat}:(FX t F ls p).testBit j=true↔(F p).testBit j=true∨∃l∈ls,(Qy t l F p).testBit j=true:=QH
theorem Qe {t:B8} (ht:AR t=true) {F:PS} (h:CB t F) {ls:List Int} (hl:∀l∈ls,0≤l∧l < 6):CB t (FX t F ls):=by
  refine ⟨fun p=>GG fun j hj=>?_,fun p hp=>GH fun j=>?_⟩
  · rcases EY.1 hj with h1|⟨l,h1,h2⟩
    · exact H0 (h.lt p) h1
    · exact H0 ((I0 ht (hl l h1) h).lt p) h2
  · cases hb:(FX t F ls p).testBit j
    · rfl
    · rcases EY.1 hb with h1|⟨l,h1,h2⟩
      · rw [h.z p hp] at h1;simp at h1
      · rw [(I0 ht (hl l h1) h).z p hp] at h2;simp at h2
theorem sub_le {a b:Nat} (h:∀j,a.testBit j=true→b.testBit j=true):a≤b:=by
  have:a ||| b=b:=Nat.eq_of_testBit_eq fun j=>by
    rw [Nat.testBit_or]
    cases ha:a.testBit j
    · simp
    · simp [h j ha]
  rw [←this];exact Nat.left_le_or
def JK (F:PS):Nat:=(65535 - F 0)+(65535 - F 1)+(65535 - F 2)+(65535 - F 3)+(65535 - F 4)+(65535 - F 5)+(65535 - F 6)+(65535 - F 7)+(65535 - F 8)+(65535 - F 9)+(65535 - F 10)+(65535 - F 11)
theorem Qw {F G:PS} (hF:∀p,F p < 65536) (hG:∀p,G p < 65536) (h:∀p,F p≤G p) (hne:EK G≠EK F):JK G < JK F:=by
  have h1:¬JK F≤JK G:=fun hle=>hne (MC fun p hp=>by
    have a0:=h 0;have a1:=h 1;have a2:=h 2;have a3:=h 3;have a4:=h 4;have a5:=h 5;have a6:=h 6;have a7:=h 7;have a8:=h 8;have a9:=h 9;have a10:=h 10;have a11:=h 11
    have b0:=hG 0;have b1:=hG 1;have b2:=hG 2;have b3:=hG 3;have b4:=hG 4;have b5:=hG 5;have b6:=hG 6;have b7:=hG 7;have b8:=hG 8;have b9:=hG 9;have b10:=hG 10;have b11:=hG 11
    unfold JK at hle
    obtain rfl|rfl|rfl|rfl|rfl|rfl|rfl|rfl|rfl|rfl|rfl|rfl:p=0∨p=1∨p=2∨p=3∨p=4∨p=5∨p=6∨p=7∨p=8∨p=9∨p=10∨p=11:=by omega
    all_goals omega)
  omega
theorem We {F:PS} (h:∀p,F p < 65536):∀x∈EK F,(Lit.int .u16 x).wf=true:=fun x hx=>by
  have:∃p,x=(F p:Int):=by
    unfold EK at hx
    simp only [List.mem_cons,List.not_mem_nil,or_false] at hx
    rcases hx with h|h|h|h|h|h|h|h|h|h|h|h<;>exact ⟨_,h⟩
  obtain ⟨p,rfl⟩:=this
  have:=h p
  simp [Lit.wf,IntKind.min,IntKind.max,IntKind.signed,IntKind.bits]
  omega
section
variable {t:B8} (ht:AR t=true)
include ht
theorem Sz {F0 F:PS} (h2:∀p j,(F p).testBit j=true→NI t F0 p j) {p j:Nat} (h:(FX t F (Cg t) p).testBit j=true):NI t F0 p j:=by
  rcases EY.1 h with h1|⟨l,hl,h1⟩
  · exact h2 p j h1
  · obtain ⟨q,hq,hg,hb⟩:=JY.1 h1
    unfold Cz at hb
    rw [if_pos (FA ht hl).2.2] at hb
    obtain ⟨e,he,⟨h3,h4⟩,h5⟩:=DC.1 hb
    subst h3
    have:=NI.step (h2 q _ h4) he hl rfl
    rw [hg,h5] at this
    simpa using this
theorem Rm {F0 F:PS} (h0:CB t F0) (hF:CB t F) (h1:∀p j,(F0 p).testBit j=true→(F p).testBit j=true) (h2:∀p j,(F p).testBit j=true→NI t F0 p j) (he:FX t F (Cg t)=F):F=O5 t F0:=
  SO ht h0 hF.z h1 h2 fun p l j hp hl hj=>by
    have hin:=FA ht hl
    have hga:=Gp (Cp ht) hp hin.1 hin.2.1
    rw [←he]
    refine EY.2 (.inr ⟨l,hl,JY.2 ⟨p,hp,by omega,?_⟩⟩)
    unfold Cz
    rw [if_pos hin.2.2]
    exact hj
end
theorem N8 [DZ TB] {t:B8} (ht:AR t=true) (m:EM) {F0:PS} (hF0:CB t F0):Spec Tryz.prog TB 137 (JL t m) 5 [.o (.ptr 0 14 0 0),Xp F0] (fun x σ nx=>x=Xp (O5 t F0)∧σ=JL t m∧nx=5):=by
  have hah:=AX (Cp ht)
  have hll:(Cg t).length≤6:=by
    unfold Cg
    have h1:(Af t.s.al).length≤6:=AM _ _
    exact Nat.le_trans (List.length_filter_le _ _) h1
  refine eR Tryz.func137 rfl (by kernel_rfl) rfl ?_;intro Γ hΓ
  (repeat first|refine aU rfl ?_)
  (refine pW rfl ?_ rfl (by rfl);refine Es rfl rfl ?_)
  (repeat first|refine tM rfl ?_ |refine Aa ?_)
  refine aB ?_
  refine aL (α:={F:PS // CB t F∧(∀p j,(F0 p).testBit j=true→(F p).testBit j=true)∧∀p j,(F p).testBit j=true→NI t F0 p j}) [0,3,4] [0,1,2,3,4,6] rfl rfl (fun s=>[]) (fun s=>[(5,.cells 147 12 [MB s.1])]) 7 (fun s=>JK s.1) (⟨F0,hF0,fun _ _ h=>h,fun _ _ h=>.base h⟩) hΓ rfl (by (simp[cX,zC,hΓ,AE]<;>rfl)) ?_;rintro ⟨F,hF,h1,h2⟩;(try dsimp only[cA,cB])
  have hF:CB t F:=hF
  refine aB ?_
  (repeat first|refine sN rfl ?_ |refine tA rfl ?_ |refine aU rfl ?_ |refine Aa ?_)
  refine aB ?_
  refine aL (α:={k:Nat // k≤(Cg t).length}) [0,3,4,5,14,15] [0,1,2,3,4,5,6] rfl rfl (fun s=>[(16,eI .i64 s.1)]) (fun s=>[(7,.cells 147 12 [MB (FX t F ((Cg t).take s.1))])]) 8 (fun s=>(Cg t).length - s.1) (⟨0,by omega⟩) hΓ rfl (by (simp[cX,zC,hΓ,AE]<;>rfl)) ?_;rintro ⟨k,hk⟩;(try dsimp only[cA,cB])
  by_cases hkl:k < (Cg t).length
  · obtain ⟨l,hlk⟩:=get_some hkl
    have hin:=FA ht (List.mem_of_getElem? hlk)
    have hl':((Cg t).map Db)[((k:Nat):Int).toNat]? = some (Db l):=by rw [Int.toNat_natCast];simp [hlk]
    have hall:∀x∈(Cg t).take k,0≤x∧x < 6:=fun x hx=>by
      have:=FA ht (List.mem_of_mem_take hx)
      omega
    have hA:=Qe ht hF hall
    have hG:=I0 ht (l:=l) ⟨hin.1,hin.2.1⟩ hF
    have hnx:FX t F ((Cg t).take (k+1))=fun p=>FX t F ((Cg t).take k) p ||| Qy t l F p:=by rw [List.take_add_one,hlk];exact Sy
    have hmv:=Qx (TB:=TB) ht m (l:=l) ⟨hin.1,hin.2.1⟩ hF
    generalize FX t F ((Cg t).take k)=A at *
    generalize Qy t l F=G at *
    (repeat first|refine s2 rfl fun _ _hb=>?_ |refine aU rfl ?_ |refine Aa ?_)
    ((refine aC rfl ?_ ?_<;>rintro ⟨⟩);all_goals try(exfalso;(simp only[oZ] at *;omega)))
    refine aK ?_
    refine aS (aB ?_)
    (repeat first|refine tA rfl ?_ |(refine s4 rfl ‹_› rfl ?_ ?_;omega) |refine aU rfl ?_ |refine Aa ?_)
    (refine pW rfl ?_ rfl (by rfl);refine Ac [0,1,2,3,4] rfl rfl (hmv) ⟨rfl,by decide,by decide⟩ rfl (by simp[cX,zC,hΓ,AE]) ?_;rintro x0 σ1 nx1 ⟨rfl,rfl,rfl⟩ _)
    (repeat first|refine tA rfl ?_)
    refine Aa ?_
    refine aB ?_
    refine aL (α:={p:Nat // p≤12}) [0,3,4,5,14,15,16,23] [0,1,2,3,4,5,6] rfl rfl (fun s=>[(24,eI .i64 s.1)]) (fun s=>[(7,.cells 147 12 [MB (Ie A G s.1)])]) 8 (fun s=>12 - s.1) (⟨0,by omega⟩) hΓ rfl (by (simp[cX,zC,hΓ,AE]<;>rfl)) ?_;rintro ⟨p,hp⟩;(try dsimp only[cA,cB])
    by_cases hpl:p < 12
    · have hx:(EK G)[((p:Nat):Int).toNat]? = some (G p:Int):=by rw [Int.toNat_natCast];exact GV hpl
      have ej:0+((p:Nat):Int).toNat*1=p:=by omega
      have hmx:Ie A G p p < 65536:=by
        unfold Ie
        rw [if_neg (by omega)]
        exact hA.lt p
      have hj:(MB (Ie A G p))[0+((p:Nat):Int).toNat*1]? = some (.d (.v (.int .u16 (Ie A G p p:Int)))):=by rw [ej];exact J6 hpl
      have hor:=Qo hmx (hG.lt p)
      have hset:=QK (F:=Ie A G p) (p:=p) hpl (v:=Ie A G p p ||| G p)
      rw [←RH] at hset
      (repeat first|refine s2 rfl fun _ _hb=>?_ |refine aU rfl ?_ |refine Aa ?_)
      ((refine aC rfl ?_ ?_<;>rintro ⟨⟩);all_goals try(exfalso;(simp only[oZ] at *;omega)))
      refine aK ?_
      refine aS (aB ?_)
      (repeat first|(refine sA rfl ?_ ?_;first|exact tI|omega)|(refine Ag rfl ?_;refine gA rfl ?_;first| refine gS (fun _ _=>Ip (l:=EK G) rfl rfl rfl (by omega) hx) ?_|refine gQ (KS rfl rfl rfl hj) rfl ?_) |refine aU rfl ?_ |refine Aa ?_)
      (refine Ag rfl ?_;refine FW ?_ rfl (by rfl);refine CK (r:=MB (Ie A G p)) rfl rfl rfl rfl rfl rfl (by show 0+((p:Nat):Int).toNat*1+1≤12;omega) ?_)
      refine Aa ?_
      (repeat first|(refine sA rfl ?_ ?_;first|exact tI|omega) |refine aU rfl ?_ |refine Aa ?_)
      refine ⟨⟨p+1,by omega⟩,by dsimp only;(omega),[0,1,2,3,4,5,6,7],?_⟩
      simp[cX,zC,hΓ,AE,hor];exact ⟨Oj,by simpa [Ae] using hset⟩
    · obtain rfl:p=12:=by omega
      have hmx:EK (Ie A G 12)=EK fun p=>A p ||| G p:=MC fun p hp=>by unfold Ie;rw [if_pos hp]
      (repeat first|refine s2 rfl fun _ _hb=>?_ |refine aU rfl ?_ |refine Aa ?_)
      ((refine aC rfl ?_ ?_<;>rintro ⟨⟩);all_goals try(exfalso;(simp only[oZ] at *;omega)))
      refine aE ?_
      (repeat first|(refine sA rfl ?_ ?_;first|exact tI|omega) |refine aU rfl ?_ |refine Aa ?_)
      refine ⟨⟨k+1,by omega⟩,by dsimp only;(omega),[0,1,2,3,4,5,6,7],?_⟩
      simp[cX,zC,hΓ,AE,hnx];exact ⟨Oj,congrArg (List.map _) hmx⟩
  · obtain rfl:k=(Cg t).length:=by omega
    rw [List.take_length]
    have hA:=Qe ht hF fun x hx=>by
      have:=FA ht hx
      show 0≤x∧x < 6
      omega
    (repeat first|refine s2 rfl fun _ _hb=>?_ |refine aU rfl ?_ |refine Aa ?_)
    ((refine aC rfl ?_ ?_<;>rintro ⟨⟩);all_goals try(exfalso;(simp only[oZ] at *;omega)))
    refine aE ?_
    (repeat first|refine tA rfl ?_|(refine Ag rfl ?_;refine gA rfl ?_;first| (refine gB (fun _ _=>YM (a:=EK (FX t F (Cg t))) (b:=EK F) rfl rfl rfl rfl (We hA.lt) (We hF.lt)) ?_;intro _ _hb)) |refine aU rfl ?_ |refine Aa ?_)
    (refine aC rfl ?_ ?_<;>rintro ⟨⟩)
    · have he:FX t F (Cg t)=F:=by
        have h3:EK (FX t F (Cg t))=EK F:=by simpa using _hb
        have h4:=Nn h3
        funext p
        rcases Nat.lt_or_ge p 12 with h5|h5
        · exact h4 p h5
        · rw [hA.z p (by omega),hF.z p (by omega)]
      rw [←Rm ht hF0 hF h1 h2 he]
      (repeat first|refine tA rfl ?_ |refine aU rfl ?_ |refine Aa ?_)
      refine aR ⟨_,rfl,[0,1,2,3,4],Xp F,JL t m,⟨Oj,by decide⟩,rfl,by (simp[cX,zC,hΓ,AE]),rfl,rfl,rfl⟩
    · have hne:EK (FX t F (Cg t))≠EK F:=by simpa using _hb
      have hsub:∀p,F p≤FX t F (Cg t) p:=fun p=>sub_le fun j hj=>EY.2 (.inl hj)
      have hm:=Qw hF.lt hA.lt hsub hne
      refine aK ?_
      (repeat first|refine tA rfl ?_ |refine aU rfl ?_ |refine Aa ?_)
      refine ⟨⟨FX t F (Cg t),hA,fun p j hj=>EY.2 (.inl (h1 p j hj)),fun p j hj=>Sz ht h2 hj⟩,by dsimp only;(omega),[0,1,2,3,4,5,6],?_⟩
      simp[cX,zC,hΓ,AE];exact ⟨Oj,rfl,rfl⟩
inductive Reach (t:B8):PS→Prop
  | start:Reach t (Cf t)
  | next {F:PS} {l:Int}:0≤l→l < 6→Reach t F→Reach t (DW t l F)
theorem Reach.ok {t:B8} (ht:AR t=true) {F:PS} (h:Reach t F):CB t F:=by
  induction h with
  | start=>exact Jg ht
  | next h0 h1 _ ih=>exact KH ht ⟨h0,h1⟩ ih
noncomputable def K2 (t:B8):PS→W→PS
  | F,[]=>F
  | F,c::w=>K2 t (DW t ((c.toNat:Int) - 97) F) w
theorem OQ {t:B8}:∀(u v:W) (F:PS),K2 t F (u++v)=K2 t (K2 t F u) v
  | [],v,F=>rfl
  | c::u,v,F=>by simp only [List.cons_append,K2];exact OQ u v _
def Zd (t:B8) (ok:W→Prop) (F:PS):Prop:=F=Cf t∨∃u v,ok (u++v)∧F=K2 t (Cf t) u
def Wg (t:B8) (ok:W→Prop):Prop:=∀l:List PS,l.Nodup→(∀F∈l,Zd t ok F)→l.length≤1099511627776
structure Hg (t:B8) (ok:W→Prop) (m:EM):Prop where
  l1:m.nx.length=m.F.length
  l2:m.un.length=m.F.length
  nd:m.F.Nodup
  rc:∀F∈m.F,Reach t F
  rk:∀F∈m.F,Zd t ok F
  un:∀(i:Nat) F,m.F[i]? = some F→m.un[i]? = some (IH t F)
  nx:∀(i:Nat) F,m.F[i]? = some F→∃r:List Int,m.nx[i]? = some r∧r.length=6∧∀l:Nat,l < 6→∃x,r[l]? = some x∧(x < 0∨∃j:Nat,x=j∧m.F[j]? = some (DW t l F))
def Hd (t:B8) (m:EM) (G:PS):EM:=⟨m.F++[G],m.nx++[[-1,-1,-1,-1,-1,-1]],m.un++[IH t G]⟩
theorem Wn {t:B8} (ht:AR t=true) {F G:PS} (hF:CB t F) (hG:CB t G) (h:EK F=EK G):F=G:=by
  have h4:=Nn h
  have h0:=AX (Cp ht)
  funext p
  rcases Nat.lt_or_ge p 12 with h5|h5
  · exact h4 p h5
  · rw [hF.z p (by omega),hG.z p (by omega)]
theorem Nc {l:List PS} {p:List Int×Int}:p∈LC l↔∃(i:Nat) (F:PS),l[i]? = some F∧p=(EK F,(i:Int)):=by
  unfold LC
  rw [List.mem_map]
  constructor
  · rintro ⟨⟨F,i⟩,h,rfl⟩
    exact ⟨i,F,List.mk_mem_zipIdx_iff_getElem?.1 h,rfl⟩
  · rintro ⟨i,F,h,rfl⟩
    exact ⟨(F,i),List.mk_mem_zipIdx_iff_getElem?.2 h,rfl⟩
theorem Vw (l:List PS) (G:PS):LC (l++[G])=LC l++[(EK G,(l.length:Int))]:=by
  unfold LC
  rw [List.zipIdx_append]
  simp
theorem TC {t:B8} (ht:AR t=true) {l:List PS} (hn:l.Nodup) (hr:∀F∈l,Reach t F):(LC l).Pairwise (fun a b=>a.1≠b.1):=by
  unfold LC
  rw [List.pairwise_map,List.pairwise_iff_getElem]
  intro i j h1 h2 hij
  simp only [List.length_zipIdx] at h1 h2
  simp only [List.getElem_zipIdx]
  intro he
  have:=Wn ht ((hr _ (List.getElem_mem h1)).ok ht) ((hr _ (List.getElem_mem h2)).ok ht) he
  exact List.pairwise_iff_getElem.1 hn i j h1 h2 hij this
theorem TA {t:B8} (ht:AR t=true) {l:List PS} (hr:∀F∈l,Reach t F):LR 12 .u16 (LC l):=fun p hp=>by
  obtain ⟨i,F,h1,rfl⟩:=Nc.1 hp
  exact ⟨rfl,We ((hr F (List.mem_of_getElem? h1)).ok ht).lt⟩
theorem Rt {t:B8} (ht:AR t=true) {l:List PS} (hn:l.Nodup) (hr:∀F∈l,Reach t F) {G:PS} (hG:CB t G) {v:Int} (h:CN (LC l) (EK G)=some v):∃k:Nat,v=k∧l[k]? = some G:=by
  have:∃p∈LC l,p.1=EK G:=by
    refine Classical.byContradiction fun hc=>?_
    have h2:CN (LC l) (EK G)=none:=Fw.2 fun p hp he=>hc ⟨p,hp,he⟩
    rw [h2] at h;cases h
  obtain ⟨p,hp,he⟩:=this
  have h3:=IL (TC ht hn hr) hp
  rw [he,h] at h3
  obtain ⟨i,F,h4,rfl⟩:=Nc.1 hp
  have:=Wn ht ((hr F (List.mem_of_getElem? h4)).ok ht) hG he
  subst this
  exact ⟨i,by injection h3,h4⟩
theorem Rs {l:List PS} {G:PS} (h:CN (LC l) (EK G)=none):G∉l:=fun hG=>by
  obtain ⟨i,hi,he⟩:=List.getElem_of_mem hG
  exact Fw.1 h (EK G,(i:Int)) (Nc.2 ⟨i,G,by rw [List.getElem?_eq_getElem hi,he],rfl⟩) rfl
theorem HM {α:Type} {l:List α} {a x:α} {i:Nat} (h:l[i]? = some x):(l++[a])[i]? = some x:=by
  rw [List.getElem?_append_left (List.getElem?_eq_some_iff.1 h).1];exact h
theorem NZ {α:Type} {l:List α} {a x:α} {i:Nat} (h:(l++[a])[i]? = some x):l[i]? = some x∨i=l.length∧x=a:=by
  rcases Nat.lt_or_ge i l.length with h1|h1
  · rw [List.getElem?_append_left h1] at h;exact .inl h
  · rw [List.getElem?_append_right h1] at h
    have h2:i - l.length < 1:=(List.getElem?_eq_some_iff.1 h).1
    have h3:i=l.length:=by simp at h2;omega
    subst h3
    simp at h
    exact .inr ⟨rfl,h.symm⟩
theorem Qd {t:B8} {ok:W→Prop} {m:EM} (hm:Hg t ok m) {G:PS} (hG:Reach t G) (hk:Zd t ok G) (h:G∉m.F):Hg t ok (Hd t m G):=by
  refine ⟨by simp [Hd,hm.l1],by simp [Hd,hm.l2],?_,?_,?_,?_,?_⟩
  · show (m.F++[G]).Nodup
    rw [List.nodup_append]
    exact ⟨hm.nd,by simp,fun a ha b hb=>by simp at hb;subst hb;intro e;subst e;exact h ha⟩
  · intro F hF
    rcases List.mem_append.1 hF with hF|hF
    · exact hm.rc F hF
    · simp at hF;subst hF;exact hG
  · intro F hF
    rcases List.mem_append.1 hF with hF|hF
    · exact hm.rk F hF
    · simp at hF;subst hF;exact hk
  · intro i F hF
    rcases NZ hF with h1|⟨h1,rfl⟩
    · exact HM (hm.un i F h1)
    · subst h1;show (m.un++[IH t F])[m.F.length]? = _;rw [←hm.l2];simp
  · intro i F hF
    rcases NZ hF with h1|⟨h1,rfl⟩
    · obtain ⟨r,h2,h3,h4⟩:=hm.nx i F h1
      refine ⟨r,HM h2,h3,fun l hl=>?_⟩
      obtain ⟨x,h5,h6⟩:=h4 l hl
      refine ⟨x,h5,h6.imp id ?_⟩
      rintro ⟨j,h7,h8⟩
      exact ⟨j,h7,HM h8⟩
    · refine ⟨[-1,-1,-1,-1,-1,-1],by subst h1;show (m.nx++_)[m.F.length]? = _;rw [←hm.l1];simp,rfl,fun l hl=>⟨-1,?_,.inl (by omega)⟩⟩
      obtain rfl|rfl|rfl|rfl|rfl|rfl:l=0∨l=1∨l=2∨l=3∨l=4∨l=5:=by omega
      all_goals rfl
def E4 (t:B8) (F:PS) (k:Nat):Bool:=(List.range k).any fun p=>decide (F p≠0) && !(t.q.ac.getD p false)
theorem Hr {t:B8} {F:PS} {k:Nat}:E4 t F (k+1)=(E4 t F k || (decide (F k≠0) && !(t.q.ac.getD k false))):=by
  unfold E4
  rw [List.range_succ,List.any_append];simp
theorem Rk {t:B8} {F:PS} (h:CB t F) (hn:t.q.nx.length≤12):E4 t F 12=IH t F:=by
  have key:∀k,E4 t F (t.q.nx.length+k)=E4 t F t.q.nx.length:=fun k=>by
    induction k with
    | zero=>rfl
    | succ k ih=>rw [←Nat.add_assoc,Hr,ih,h.z _ (by omega)];simp
  have:=key (12 - t.q.nx.length)
  rw [show t.q.nx.length+(12 - t.q.nx.length)=12 by omega] at this
  rw [this];rfl
section
variable {P:Program} {Γ:Ctx} {d:Option Tmp} {ty:TypeId} {pos:String} {af:Array Edge} {g:Option (Nat×Bool)} {f:Env} {σ:Ab} {nx:Nat} {t:TypeId} {n:Nat} {q:IntKind} {m e:TypeId} {x y:Operand} {id:Nat} {l:List (List Int×Int)} {s:List Int}
theorem Ub {v:Int} [hm:Ge P m t e] [h:Eh P t n q] [hz:LQ P e (.int .i64 0)] (hv:CN l s=some v) (hx:ev f x=some (.o (.mp id))) (hy:ev f y=some (Vq q s)) (ho:look σ id=some (.mp (mapA q l)))
    (hl:LR n q l) (hd:l.Pairwise (fun a b=>a.1≠b.1)) (hs:s.length=n) (hw:∀x∈s,(Lit.int q x).wf=true) :
    AU P TB Γ ⟨d,.lookup m x y true,ty,pos,af,g⟩ f σ nx (.t [(false,[.d (.v (.int .i64 v))]),(false,[.d (.v (.bool true))])]):=by
  have:=QM (P:=P) (TB:=TB) (Γ:=Γ) (d:=d) (ty:=ty) (pos:=pos) (af:=af) (g:=g) (nx:=nx) (t:=t) (m:=m) (e:=e) hx hy ho hl hd hs hw
  rw [hv] at this;exact this
theorem Ua [hm:Ge P m t e] [h:Eh P t n q] [hz:LQ P e (.int .i64 0)] (hv:CN l s=none) (hx:ev f x=some (.o (.mp id))) (hy:ev f y=some (Vq q s)) (ho:look σ id=some (.mp (mapA q l)))
    (hl:LR n q l) (hd:l.Pairwise (fun a b=>a.1≠b.1)) (hs:s.length=n) (hw:∀x∈s,(Lit.int q x).wf=true) :
    AU P TB Γ ⟨d,.lookup m x y true,ty,pos,af,g⟩ f σ nx (.t [(false,[.d (.v (.int .i64 0))]),(false,[.d (.v (.bool false))])]):=by
  have:=QM (P:=P) (TB:=TB) (Γ:=Γ) (d:=d) (ty:=ty) (pos:=pos) (af:=af) (g:=g) (nx:=nx) (t:=t) (m:=m) (e:=e) hx hy ho hl hd hs hw
  rw [hv] at this;exact this
end
theorem SA {t:B8} {ok:W→Prop} (ht:AR t=true) {m:EM} (hm:Hg t ok m) (hlen:m.F.length≤1099511627776) {G:PS} (hG:CB t G):∃(m':EM) (k:Nat),((m'=m∧m.F[k]? = some G)∨(m'=Hd t m G∧k=m.F.length∧G∉m.F))∧
    AN Tryz.prog TB 136 1 (JL t m) 5 [.o (.ptr 0 14 0 0),Xp G] (fun x σ nx=>x=eI .i64 (k:Int)∧σ=JL t m'∧nx=5):=by
  have hah:=AX (Cp ht)
  have hpw:=TC ht hm.nd hm.rc
  have hks:=TA ht hm.rc
  have hwf:=We hG.lt
  cases hf:CN (LC m.F) (EK G) with
  | some v=>
    obtain ⟨k,rfl,hk⟩:=Rt ht hm.nd hm.rc hG hf
    refine ⟨m,k,.inl ⟨rfl,hk⟩,?_⟩
    refine AN.AP (AN.NM (m:=1) (Nat.le_of_ble_eq_true rfl) Tryz.func136 rfl (by kernel_rfl) (Nat.le_of_ble_eq_true rfl) ?_);intro Γ hΓ
    (repeat first|refine tA rfl ?_ |refine aU rfl ?_ |refine Aa ?_)
    refine rG (Jr []) (by kernel_rfl) ?_
    (repeat first|refine tA rfl ?_|(refine Ag rfl ?_;refine gA rfl ?_;first| refine gQ (Ub (s:=EK G) (l:=LC m.F) hf rfl rfl rfl hks hpw rfl hwf) rfl ?_) |refine aU rfl ?_ |refine Aa ?_)
    (refine aC rfl ?_ ?_<;>rintro ⟨⟩)
    (repeat first|refine tA rfl ?_ |refine aU rfl ?_ |refine Aa ?_)
    refine aR ⟨_,rfl,[0,1,2,3,4],eI .i64 (k:Int),JL t m,⟨by intro i hi;match i with|0=>rfl,by decide⟩,rfl,by (simp[cX,zC,hΓ,AE]),rfl,rfl,rfl⟩
  | none =>
    refine ⟨Hd t m G,m.F.length,.inr ⟨rfl,rfl,Rs hf⟩,?_⟩
    have h1:=hm.l1
    have h2:=hm.l2
    have hap:=Vw m.F G
    refine AN.AP (AN.NM (m:=1) (Nat.le_of_ble_eq_true rfl) Tryz.func136 rfl (by kernel_rfl) (Nat.le_of_ble_eq_true rfl) ?_);intro Γ hΓ
    (repeat first|refine tA rfl ?_ |refine aU rfl ?_ |refine Aa ?_)
    refine rG (Jr []) (by kernel_rfl) ?_
    (repeat first|refine tA rfl ?_|(refine Ag rfl ?_;refine gA rfl ?_;first| refine gQ (Ua (s:=EK G) (l:=LC m.F) hf rfl rfl rfl hks hpw rfl hwf) rfl ?_) |refine aU rfl ?_ |refine Aa ?_)
    (refine aC rfl ?_ ?_<;>rintro ⟨⟩)
    refine aK ?_
    (repeat first|refine tA rfl ?_ |refine aU rfl ?_ |refine Aa ?_)
    refine rG (Jr [6]) (by kernel_rfl) ?_
    (repeat first|refine tA rfl ?_)
    (refine Ag rfl ?_;refine FW ?_ rfl (by rfl);refine Xb (s:=EK G) (l:=LC m.F) rfl rfl rfl rfl hks hpw rfl hwf hf ?_)
    rw [←hap]
    refine Aa ?_
    (repeat first|refine aU rfl ?_)
    refine rG (JU [(4,0),(7,1),(10,1)]) (by kernel_rfl) ?_
    (repeat first|refine tA rfl ?_)
    (refine pW rfl ?_ rfl (by rfl);refine Av rfl rfl rfl (by first| (simp;done)|(simp;(omega))) rfl (by intro r hr;simp at hr;subst hr;rfl) (by rfl) (Nat.le_of_ble_eq_true rfl) (by simp;omega) ?_)
    (repeat first|refine tA rfl ?_ |refine aU rfl ?_ |refine Aa ?_)
    (repeat first|refine tA rfl ?_|(refine Ag rfl ?_;refine gA rfl ?_;first| refine gS (fun _ _=>Au rfl rfl (by rfl) (by rfl)) ?_))
    (refine pW rfl ?_ rfl (by rfl);refine Av rfl rfl rfl (by first| (simp;done)|(simp;(omega))) rfl (by intro r hr;simp at hr;subst hr;rfl) (by rfl) (Nat.le_of_ble_eq_true rfl) (by simp;omega) ?_)
    (repeat first|refine tA rfl ?_ |refine aU rfl ?_ |refine Aa ?_)
    refine Ai.Ak [0,7,8,53,54] [] rfl rfl [] [(0,.cells 143 14 [Us t (.arr 1 12 0 (Hd t m G).F.length) (.mp 2) (.arr 3 6 0 (Hd t m G).nx.length) (.arr 4 1 0 m.un.length)]),(1,.cells 147 12 ((Hd t m G).F.map MB)),(2,.mp (mapA .u16 (LC (Hd t m G).F))),(3,.cells 96 6 ((Hd t m G).nx.map Mx)),(4,.cells 4 1 (m.un.map AL))] [0,5,2,6,4] (rl hΓ rfl) (by (simp[cX,zC,hΓ,AE,Hd]<;>rfl)) ?_;(try dsimp only[cA,cB])
    refine aB ?_
    refine aL (α:={k:Nat // k≤12}) [0,7,53] [0,1,2,3,4] rfl rfl (fun s=>[(8,eB (E4 t G s.1)),(54,eI .i64 s.1)]) (fun s=>[]) 5 (fun s=>12 - s.1) (⟨0,by omega⟩) hΓ rfl (by (simp[cX,zC,hΓ,AE]<;>rfl)) ?_;rintro ⟨k,hk⟩;(try dsimp only[cA,cB])
    by_cases hkl:k < 12
    · have hx:(EK G)[((k:Nat):Int).toNat]? = some (G k:Int):=by rw [Int.toNat_natCast];exact GV hkl
      have hs:=Hr (t:=t) (F:=G) (k:=k)
      generalize E4 t G k=b0 at *
      by_cases hkn:k < t.q.nx.length
      · obtain ⟨b,hb⟩:=get_some (l:=t.q.ac) (k:=((k:Nat):Int).toNat) (by omega)
        have hb':=get_map (g:=Lv) hb
        have hgd:t.q.ac.getD k false=b:=by rw [Int.toNat_natCast] at hb;simp [List.getD,hb]
        rw [hgd] at hs
        (repeat first|refine s2 rfl fun _ _hb=>?_ |refine aU rfl ?_ |refine Aa ?_)
        ((refine aC rfl ?_ ?_<;>rintro ⟨⟩);all_goals try(exfalso;(simp only[oZ] at *;omega)))
        refine aK ?_
        refine aS (aB ?_)
        (repeat' first|(refine sA rfl ?_ ?_;first|exact tI|omega) |(refine s4 rfl ‹_› rfl ?_ ?_;omega) |refine s2 rfl fun _ _hb=>?_|(refine Ag rfl ?_;refine gA rfl ?_;first| refine gS (fun _ _=>Ip (l:=EK G) rfl rfl rfl (by omega) hx) ?_) |refine s3 rfl ?_ ?_<;>rintro rfl |refine aU rfl ?_ |refine Aa ?_|(refine aC rfl ?_ ?_<;>rintro ⟨⟩));all_goals try contradiction
        all_goals ((try refine aK ?_);refine ⟨⟨k+1,by omega⟩,by dsimp only;(omega),[0,1,2,3,4],?_⟩;simp only [decide_eq_true_eq,decide_eq_false_iff_not] at *;simp[cX,zC,hΓ,AE,hs];try (simp_all;done))
      · have hz:=hG.z k (by omega)
        rw [hz] at hs
        (repeat first|refine s2 rfl fun _ _hb=>?_ |refine aU rfl ?_ |refine Aa ?_)
        ((refine aC rfl ?_ ?_<;>rintro ⟨⟩);all_goals try(exfalso;(simp only[oZ] at *;omega)))
        refine aK ?_
        refine aS (aB ?_)
        (repeat' first|(refine sA rfl ?_ ?_;first|exact tI|omega) |refine s2 rfl fun _ _hb=>?_|(refine Ag rfl ?_;refine gA rfl ?_;first| refine gS (fun _ _=>Ip (l:=EK G) rfl rfl rfl (by omega) hx) ?_) |refine s3 rfl ?_ ?_<;>rintro rfl |refine aU rfl ?_ |refine Aa ?_|(refine aC rfl ?_ ?_<;>rintro ⟨⟩));all_goals try contradiction
        all_goals first| (exfalso;(simp only[oZ] at *;omega);done)|skip
        all_goals ((try refine aK ?_);refine ⟨⟨k+1,by omega⟩,by dsimp only;(omega),[0,1,2,3,4],?_⟩;simp[cX,zC,hΓ,AE,hs];try (simp_all;done))
    · obtain rfl:k=12:=by omega
      rw [Rk hG (by omega)]
      (repeat first|refine s2 rfl fun _ _hb=>?_ |refine aU rfl ?_ |refine Aa ?_)
      ((refine aC rfl ?_ ?_<;>rintro ⟨⟩);all_goals try(exfalso;(simp only[oZ] at *;omega)))
      refine aE ?_
      (repeat first|refine tA rfl ?_ |refine aU rfl ?_)
      (refine pW rfl ?_ rfl (by rfl);refine Av rfl rfl rfl (by first| (simp;done)|(simp;(omega))) rfl (by intro r hr;simp at hr;subst hr;rfl) (by rfl) (Nat.le_of_ble_eq_true rfl) (by simp;omega) ?_)
      (repeat first|refine tA rfl ?_ |refine aU rfl ?_ |refine Aa ?_)
      refine aR ⟨_,rfl,[0,1,2,3,5],eI .i64 (m.F.length:Int),JL t (Hd t m G),⟨by intro i hi;match i with|0=>rfl,by decide⟩,rfl,by (simp[cX,zC,hΓ,AE,Hd]),rfl,rfl,rfl⟩
def Zs (m m':EM):Prop:=∀(i:Nat) F,m.F[i]? = some F→m'.F[i]? = some F
theorem UT {t:B8} {m:EM} {G:PS}:Zs m (Hd t m G):=fun _ _ h=>HM h
def RX (m:EM) (n:Nat) (r:List Int):EM:={ m with nx:=m.nx.set n r }
theorem VQ {t:B8} {ok:W→Prop} {m:EM} (hm:Hg t ok m) {n k l:Nat} {F:PS} {r:List Int} (hF:m.F[n]? = some F) (hr:m.nx[n]? = some r) (hl:l < 6) (hk:m.F[k]? = some (DW t l F)):Hg t ok (RX m n (r.set l k)):=by
  refine ⟨by simp [RX,hm.l1],hm.l2,hm.nd,hm.rc,hm.rk,hm.un,fun i G hG=>?_⟩
  replace hG:m.F[i]? = some G:=hG
  by_cases e:i=n
  · subst e
    rw [hF] at hG;injection hG with hG;subst hG
    obtain ⟨r',h1,h2,h3⟩:=hm.nx i F hF
    rw [hr] at h1;injection h1 with h1;subst h1
    have hlt:=(List.getElem?_eq_some_iff.1 hr).1
    refine ⟨r.set l k,by simp [RX,hlt],by simp [h2],fun l' hl'=>?_⟩
    by_cases e2:l'=l
    · subst e2
      exact ⟨k,by simp [h2,hl'],.inr ⟨k,rfl,hk⟩⟩
    · obtain ⟨x,h4,h5⟩:=h3 l' hl'
      exact ⟨x,by rw [List.getElem?_set_ne (fun h=>e2 h.symm)];exact h4,h5⟩
  · obtain ⟨r',h1,h2,h3⟩:=hm.nx i G hG
    exact ⟨r',by simp only [RX];rw [List.getElem?_set_ne (fun h=>e h.symm)];exact h1,h2,h3⟩
theorem QE {r:List Int} {l:Nat} {x:Int} (h:r[l]? = some x):(Mx r)[l]? = some (.d (iD x)):=by simp [h]
theorem VA {r:List Int} {l:Nat} {x:Int} (h:l < r.length):Ae (Mx r) l [.d (iD x)]=Mx (r.set l x):=by
  rw [FO (by simpa using h)]
  unfold Mx
  rw [List.map_set]
theorem SB [DZ TB] {t:B8} {ok:W→Prop} (ht:AR t=true) (hfew:Wg t ok) {m:EM} (hm:Hg t ok m) {n:Nat} {F:PS} (hF:m.F[n]? = some F) {l:Int} (hl:0≤l∧l < 6) (hrk:Zd t ok (DW t l F)):∃(m':EM) (j:Nat),Hg t ok m'∧Zs m m'∧m'.F[j]? = some (DW t l F)∧
    AN Tryz.prog TB 138 1 (JL t m) 5 [.o (.ptr 0 14 0 0),eI .i64 (n:Int),eI .i64 l] (fun x σ nx=>x=eI .i64 (j:Int)∧σ=JL t m'∧nx=5):=by
  have hlen:=hfew m.F hm.nd hm.rk
  obtain ⟨r,hr,hrl,hrx⟩:=hm.nx n F hF
  have hn:=(List.getElem?_eq_some_iff.1 hF).1
  have h1:=hm.l1
  obtain ⟨x,hx,hxx⟩:=hrx l.toNat (by omega)
  have el:((l.toNat:Nat):Int)=l:=by omega
  rw [el] at hxx
  have hFo:=(hm.rc F (List.mem_of_getElem? hF)).ok ht
  have hr':(m.nx.map Mx)[0+((n:Nat):Int).toNat]? = some (Mx r):=by rw [Nat.zero_add,Int.toNat_natCast];simp [hr]
  have hx':(Mx r)[0+l.toNat*1]? = some (.d (iD x)):=by rw [Nat.zero_add,Nat.mul_one];exact QE hx
  by_cases hx0:x < 0
  · have hG:=KH ht hl hFo
    have hGr:Reach t (DW t l F):=.next hl.1 hl.2 (hm.rc F (List.mem_of_getElem? hF))
    obtain ⟨m1,k,hcase,hadd⟩:=SA (TB:=TB) ht hm hlen hG
    have hm1:Hg t ok m1∧Zs m m1∧m1.F[k]? = some (DW t l F):=by
      rcases hcase with ⟨rfl,h2⟩|⟨rfl,rfl,h2⟩
      · exact ⟨hm,fun _ _ h=>h,h2⟩
      · exact ⟨Qd hm hGr hrk h2,UT,by simp [Hd]⟩
    obtain ⟨hm1,hle,hk⟩:=hm1
    have hF1:=hle n F hF
    obtain ⟨r1,hr1,hrl1,_⟩:=hm1.nx n F hF1
    have hn1:=(List.getElem?_eq_some_iff.1 hr1).1
    have hok:=VQ (l:=l.toNat) hm1 hF1 hr1 (by omega) (k:=k) (by rw [el];exact hk)
    refine ⟨_,k,hok,hle,hk,?_⟩
    have hmv:=Qx (TB:=TB) ht m hl hFo
    have hcl:=N8 (TB:=TB) ht m (I0 ht hl hFo)
    have hs':(m.F.map MB)[0+((n:Nat):Int).toNat]? = some (MB F):=by rw [Nat.zero_add,Int.toNat_natCast];simp [hF]
    refine AN.AP (AN.NM (m:=1) (Nat.le_of_ble_eq_true rfl) Tryz.func138 rfl (by kernel_rfl) (Nat.le_of_ble_eq_true rfl) ?_);intro Γ hΓ
    (repeat first|(refine sA rfl ?_ ?_;first|exact tI|omega) |refine s2 rfl fun _ _hb=>?_|(refine Ag rfl ?_;refine gA rfl ?_;first| refine gQ (KS rfl rfl (by assumption) hx') rfl ?_) |refine aU rfl ?_ |refine Aa ?_)
    ((refine aC rfl ?_ ?_<;>rintro ⟨⟩);all_goals try(exfalso;(simp only[oZ] at *;omega)))
    (repeat first|(refine sA rfl ?_ ?_;first|exact tI|omega) |refine t4 rfl ‹_› rfl ?_ |refine aU rfl ?_)
    (refine pW rfl ?_ rfl (by rfl);refine Ac [0,1,2,3,4] rfl rfl (hmv) ⟨rfl,by decide,by decide⟩ rfl (by simp[cX,zC,hΓ,AE]) ?_;rintro x0 σ1 nx1 ⟨rfl,rfl,rfl⟩ _)
    (refine pW rfl ?_ rfl (by rfl);refine Ac [0,1,2,3,4] rfl rfl (hcl) ⟨rfl,by decide,by decide⟩ rfl (by simp[cX,zC,hΓ,AE]) ?_;rintro x0 σ1 nx1 ⟨rfl,rfl,rfl⟩ _)
    (refine pW rfl ?_ rfl (by rfl);refine A8 [0,1,2,3,4] rfl rfl 1 (hadd) (by decide) ⟨rfl,by decide,by decide⟩ rfl (by simp[cX,zC,hΓ,AE]) ?_;rintro x0 σ1 nx1 ⟨rfl,rfl,rfl⟩ _)
    (repeat first|refine tA rfl ?_)
    refine Aa ?_
    refine Ai.Ak [0,1,2,7] [] rfl rfl [] [(0,.cells 143 14 [Us t (.arr 1 12 0 m1.F.length) (.mp 2) (.arr 3 6 0 m1.nx.length) (.arr 4 1 0 m1.un.length)]),(1,.cells 147 12 (m1.F.map MB)),(2,.mp (mapA .u16 (LC m1.F))),(3,.cells 96 6 (m1.nx.map Mx)),(4,.cells 4 1 (m1.un.map AL))] [0,5,6,7,8] (rl hΓ rfl) (by (simp[cX,zC,hΓ,AE])) ?_;(try dsimp only[cA,cB])
    have hr1':(m1.nx.map Mx)[0+((n:Nat):Int).toNat]? = some (Mx r1):=by rw [Nat.zero_add,Int.toNat_natCast];simp [hr1]
    have hst:=VA (r:=r1) (l:=l.toNat) (x:=(k:Int)) (by omega)
    have hr2l:(r1.set l.toNat (k:Int))[l.toNat]? = some (k:Int):=by rw [List.getElem?_set_self (by omega)]
    generalize r1.set l.toNat (k:Int)=r2 at *
    have hst2:(Mx r1).take l.toNat++C.d (iD k)::(Mx r1).drop (l.toNat+1)=Mx r2:=by rw [←hst];simp [Ae]
    (repeat first|(refine sA rfl ?_ ?_;first|exact tI|omega) |refine aU rfl ?_)
    (refine Ag rfl ?_;refine FW ?_ rfl (by rfl);refine CK (r:=Mx r1) rfl rfl rfl rfl hr1' rfl (by show 0+l.toNat*1+1≤6;omega) ?_)
    refine Aa ?_
    refine Ai.Ak [0,1,2] [] rfl rfl [] [(0,.cells 143 14 [Us t (.arr 1 12 0 m1.F.length) (.mp 2) (.arr 3 6 0 m1.nx.length) (.arr 4 1 0 m1.un.length)]),(1,.cells 147 12 (m1.F.map MB)),(2,.mp (mapA .u16 (LC m1.F))),(3,.cells 96 6 ((m1.nx.set n r2).map Mx)),(4,.cells 4 1 (m1.un.map AL))] [0,1,2,3,4] (rl hΓ rfl) (by (simp[cX,zC,hΓ,AE,hst2])) ?_;(try dsimp only[cA,cB])
    have hr2:((m1.nx.set n r2).map Mx)[0+((n:Nat):Int).toNat]? = some (Mx r2):=by rw [Nat.zero_add,Int.toNat_natCast];simp [hn1]
    have hx2:(Mx r2)[0+l.toNat*1]? = some (.d (iD k)):=by rw [Nat.zero_add,Nat.mul_one];exact QE hr2l
    (repeat first|(refine sA rfl ?_ ?_;first|exact tI|omega)|(refine Ag rfl ?_;refine gA rfl ?_;first| refine gQ (KS rfl rfl (by assumption) hx2) rfl ?_) |refine aU rfl ?_ |refine Aa ?_)
    refine aR ⟨_,rfl,[0,1,2,3,4],eI .i64 (k:Int),JL t (RX m1 n r2),⟨by intro i hi;match i with|0=>rfl,by decide⟩,rfl,by (simp[cX,zC,hΓ,AE,RX]),rfl,rfl,rfl⟩
  · obtain ⟨j,rfl,hj⟩:=hxx.resolve_left hx0
    refine ⟨m,j,hm,fun _ _ h=>h,hj,?_⟩
    refine AN.AP (AN.NM (m:=1) (Nat.le_of_ble_eq_true rfl) Tryz.func138 rfl (by kernel_rfl) (Nat.le_of_ble_eq_true rfl) ?_);intro Γ hΓ
    (repeat first|(refine sA rfl ?_ ?_;first|exact tI|omega) |refine s2 rfl fun _ _hb=>?_|(refine Ag rfl ?_;refine gA rfl ?_;first| refine gQ (KS rfl rfl (by assumption) hx') rfl ?_) |refine aU rfl ?_ |refine Aa ?_)
    ((refine aC rfl ?_ ?_<;>rintro ⟨⟩);all_goals try(exfalso;(simp only[oZ] at *;omega)))
    refine aK ?_
    (repeat first|(refine sA rfl ?_ ?_;first|exact tI|omega)|(refine Ag rfl ?_;refine gA rfl ?_;first| refine gQ (KS rfl rfl (by assumption) hx') rfl ?_) |refine aU rfl ?_ |refine Aa ?_)
    refine aR ⟨_,rfl,[0,1,2,3,4],eI .i64 (j:Int),JL t m,⟨by intro i hi;match i with|0=>rfl,by decide⟩,rfl,by (simp[cX,zC,hΓ,AE]),rfl,rfl,rfl⟩
end Go.Am
