/-
  The operations that make memory or write it, one rule each.
-/
import Derived.Test.YtkdilmleinnfiaaGreatDoorPart2
import Derived.Laws.AppendOwn
set_option linter.constructorNameAsVariable false
set_option linter.unusedSectionVars false
set_option linter.unusedSimpArgs false
set_option linter.unusedVariables false
namespace Go.Am
open Go
def zC:Value→C
 | .slice none 0 0=>.d (.l [])
 | v=>.d (.v v)
def Ml:Value→Bool
 | .slice none 0 0=>true
 | v=>Lq v
theorem JA{V:View}{v:Value}(h:Ml v=true):AI V (zC v) v:=by
 unfold zC
 split
 ·exact .d .nil
 ·rename_i hn
  unfold Ml at h
  split at h
  ·exact absurd rfl (hn)
  ·exact .d (.v h)
def eC:E→List C
 | .o c=>[c]
 | .a cs=>cs
 | .t _=>[]
 | .e=>[.d (.l [])]
def Og:E→Bool
 | .t _=>false
 | _=>true
theorem KK{V:View}{e:E}{v:Value}(ho:Og e=true)(h:Bc V e v):Cp V (eC e) v.cells:=by
 cases e with
 | o c =>
  have h:AI V c v:=h
  have : v.cells = #[v]:=by cases h with
   | d h=>cases h with
    | v hs=>cases v<;>first|rfl|(simp [Lq] at hs)
    | nil=>rfl
    | l=>rfl
    | e=>rfl
    | p=>rfl
   | _=>rfl
  rw [this]
  refine⟨rfl,fun j c' v' hj hv=>?_⟩
  match j with
  | 0=>simp [eC] at hj hv;subst hj hv;exact h
  | j+1=>simp [eC] at hj
 | a cs=>obtain⟨vs,rfl,h⟩:=h;exact h
 | t=>cases ho
 | e =>
  obtain⟨b,rfl⟩:=h
  refine⟨rfl,fun j c' v' hj hv=>?_⟩
  match j with
  | 0=>
   simp [eC] at hj
   subst hj
   have hv:v'=.slice b 0 0:=(Option.some.inj hv).symm
   subst hv
   cases b with
   | none=>exact .d .nil
   | some a=>exact .d (.e (Nat.zero_le _))
  | j+1=>simp [eC] at hj
theorem AI.one{V:View}{c:C}{v:Value}(h:AI V c v):v.oneCell'=true:=by
 cases h with
 | d h=>cases h with
  | v hs=>cases v<;>first|rfl|(simp [Lq] at hs)
  | nil=>rfl
  | l=>rfl
  | e=>rfl
  | p=>rfl
 | _=>rfl
section
variable {P:Program}{TB:Bw}{Γ:Ctx}{d:Option Tmp}{ty:TypeId}{pos:String}{af:Array Edge}{g:Option (Nat×Bool)}{f:Env}{σ:Ab}{nx:Nat}
variable {K:E→Ab→Nat→Prop}
theorem CQ{o:Oper}(h:∀V ρ,JC V o f ρ→Inv TB Γ V σ→V.nx=nx→∃v V' x σ',(execOp ρ o).run P V.w=.ok (.value v) V'.w∧Ext V V'∧Inv TB Γ V' σ'∧Bc V' x v∧K x σ' V'.nx):B2 P TB Γ o f σ nx K:=by
 intro V a h1 h2 h3
 obtain⟨v,V',x,σ',hr,he,hi,hx,hk⟩:=h V a.eval h1.Gz h2 h3
 unfold Oper.wp
 rw [hr]
 exact⟨V',v,x,σ',rfl,rfl,he,hi,hx,hk⟩
theorem Js{o:Oper}{x:E}(h:∀V ρ,JC V o f ρ→Inv TB Γ V σ→∃v V',(execOp ρ o).run P V.w=.ok (.value v) V'.w∧Ext V V'∧Inv TB Γ V' σ∧V'.nx=V.nx∧Bc V' x v):AY P TB Γ o f σ nx x:=by
 intro V a h1 h2 h3
 obtain⟨v,V',hr,he,hi,hn,hx⟩:=h V a.eval h1.Gz h2
 unfold Oper.wp
 rw [hr]
 exact⟨V',v,rfl,rfl,he,hi,hn.trans h3,hx⟩
theorem RU{V:View}{cs:List C}{vs:Array Value}(h:Cp V cs vs)(i:Nat)(r:List C)(j:Nat)(c:C)(hi:[cs][i]? = some r)(hj:r[j]? = some c):∃v,vs[i*cs.length+j]? = some v∧AI V c v:=by
 match i with
 | 0=>
  simp at hi;subst hi
  have hlt:j < vs.size:=by rw [h.1];exact(List.getElem?_eq_some_iff.1 hj).1
  exact⟨vs[j],by simp [hlt],h.2 j c _ hj (Array.getElem?_eq_getElem hlt)⟩
 | i+1=>simp at hi
theorem AV(w:World)(o:Obj)(b:Nat)(h:b < w.heap.size):(w.alloc o).heap[b]? = w.heap[b]?:=by
 show (w.heap.push o)[b]? = _
 rw [Array.getElem?_push,if_neg (by omega)]
theorem BJ(w:World)(o:Obj):(w.alloc o).heap[w.heap.size]? = some o:=by
 show (w.heap.push o)[w.heap.size]? = _
 simp
theorem Kt{V:View}{b c k:Nat}{w:World}:AI (Au V b c False w) (.ptr V.nx k 0 0) (.pointer (some ⟨b,0,none⟩)):=by
 have:=@AI.ptr (Au V b c False w) V.nx k 0 0 (by simp [Au]) (by simp [Au])
 have h:(Au V b c False w).ρ V.nx=b:=by simp [Au]
 rw [h] at this
 simpa using this
theorem Ng{V:View}(h:Inv TB Γ V σ){T:TypeId}{cs:List C}{vs:Array Value}(hc:Cp V cs vs) :
 Inv TB Γ (Au V V.w.heap.size 1 False (V.w.alloc (.cells vs T))) ((V.nx,.cells T cs.length [cs])::σ)∧Ext V (Au V V.w.heap.size 1 False (V.w.alloc (.cells vs T))):=by
 have e:Ext V (Au V V.w.heap.size 1 False (V.w.alloc (.cells vs T))):=Da (by simp) fun b hb=>AV _ _ _ (h.iLt b hb)
 refine h.alloc rfl rfl rfl rfl (by simp) (fun b hb=>AV _ _ _ hb) (.inr ⟨by simp [Au],vs,?_,?_,?_,?_,?_,?_⟩)
 ·have:=BJ V.w (.cells vs T)
  simpa only [Au,if_true] using this
 ·simp [Au,hc.1]
 ·simp [Au]
 ·simp [Au,maxLen]
 ·intro r hr;simp at hr;subst hr;rfl
 ·exact fun i r j c hi hj=>RU (hc.ext e) i r j c hi hj
theorem CG{T:TypeId}{x:Operand}{e:E}(hx:ev f x=some e)(ho:Og e=true)(hK:K (.o (.ptr nx (eC e).length 0 0)) ((nx,.cells T (eC e).length [eC e])::σ) (nx+1)):B2 P TB Γ ⟨d,.box T x,ty,pos,af,g⟩ f σ nx K:=
 CQ fun V ρ h1 h2 h3=>by
  subst h3
  have hc:=KK ho (h1.get (by simp [Op.operands]) hx)
  obtain⟨hi,he⟩:=Ng h2 (T:=T) hc
  refine⟨.pointer (some ⟨V.w.heap.size,0,none⟩),_,_,_,?_,he,hi,?_,hK⟩
  ·simp [execOp,Instr.box,newVar,newRow,Au,go_sem]
  ·exact Kt
theorem WO{T:TypeId}{z:List Value}[hz:BR P T z](hok:z.all Ml=true)(hK:K (.o (.ptr nx z.length 0 0)) ((nx,.cells T z.length [z.map zC])::σ) (nx+1)):B2 P TB Γ ⟨d,.alloc T,ty,pos,af,g⟩ f σ nx K:=
 CQ fun V ρ h1 h2 h3=>by
  subst h3
  have hz':=hz.out
  simp only [TC,Option.bind_eq_some_iff,Option.map_eq_some_iff] at hz'
  obtain⟨i,hi,zv,hzv,hzz⟩:=hz'
  have hc:Cp V (z.map zC) zv.cells:=by
   refine⟨by rw [List.length_map,←hzz];simp,fun j c v hj hv=>?_⟩
   simp only [List.getElem?_map,Option.map_eq_some_iff] at hj
   obtain⟨u,hu,rfl⟩:=hj
   have:u=v:=by
    rw [←hzz] at hu
    simp only [Array.getElem?_toList] at hu
    rw [hu] at hv;exact Option.some.inj hv
   subst this
   exact JA (List.all_eq_true.1 hok u (List.mem_of_getElem? hu))
  obtain⟨hi',he⟩:=Ng h2 (T:=T) hc
  rw [List.length_map] at hi'
  refine⟨.pointer (some ⟨V.w.heap.size,0,none⟩),_,_,_,?_,he,hi',?_,hK⟩
  ·simp [execOp,Instr.alloc,zeroValue,typeInfo,hi,hzv,newVar,newRow,Au,go_sem]
  ·exact Kt
def Mk:List C→Option (List D)
 | []=>some []
 | .d x::l=>(Mk l).map (x :: ·)
 | _=>none
theorem IT:∀ {l:List C} {ds:List D},Mk l=some ds→∀(j:Nat) (x:D),ds[j]? = some x→l[j]? = some (.d x)
 | [],ds,h,j,x,hj=>by injection h with h;subst h;simp at hj
 | c::l,ds,h,j,x,hj=>by
  cases c<;>simp only [Mk] at h<;>try cases h
  simp only [Option.map_eq_some_iff] at h
  obtain⟨ds',h',rfl⟩:=h
  cases j with
  | zero=>simpa using hj
  | succ j=>simpa using IT h' j x (by simpa using hj)
theorem JT:∀ {l:List C} {ds:List D},Mk l=some ds→ds.length=l.length
 | [],ds,h=>by injection h with h;subst h;rfl
 | c::l,ds,h=>by
  cases c<;>simp only [Mk] at h<;>try cases h
  simp only [Option.map_eq_some_iff] at h
  obtain⟨ds',h',rfl⟩:=h
  simp [JT h']
theorem Cw{T:TypeId}{x:Operand}{e:E}{ds:List D}(hx:ev f x=some e)(ho:Og e=true)(hd:Mk (eC e)=some ds):AY P TB Γ ⟨d,.box T x,ty,pos,af,g⟩ f σ nx (.o (.ip ds)):=
 Js fun V ρ h1 h2=>by
  have hc:=KK ho (h1.get (by simp [Op.operands]) hx)
  obtain⟨hi,he⟩:=h2.TN (w:=V.w.alloc (.cells (ρ x).cells T)) rfl rfl rfl (by simp) (fun b hb=>AV _ _ _ hb)
  refine⟨.pointer (some ⟨V.w.heap.size,0,none⟩),_,?_,he,hi,rfl,?_⟩
  ·simp [execOp,Instr.box,newVar,newRow,Nw,go_sem]
  ·refine .ip (vs:=fun j=>(ρ x).cells.getD j undef) (.inr rfl) (fun j y hj=>?_) (fun j y hj=>?_)
   ·have h4:=IT hd j y hj
    have hlt:j < (ρ x).cells.size:=by rw [hc.1];exact(List.getElem?_eq_some_iff.1 h4).1
    have h5:(Nw V (V.w.alloc (.cells (ρ x).cells T))).w.heap[V.w.heap.size]? = some (.cells (ρ x).cells T):=BJ _ _
    simp [World.cell?,h5,hlt]
   ·have h4:=IT hd j y hj
    have hlt:j < (ρ x).cells.size:=by rw [hc.1];exact(List.getElem?_eq_some_iff.1 h4).1
    have h5:=hc.2 j _ _ h4 (Array.getElem?_eq_getElem hlt)
    cases h5 with
    | d h6=>simpa [hlt] using h6.ext he
theorem RH{t:TypeId}{x:Operand}{id k i j n:Nat}{T:TypeId}{rows:List (List C)}{r:List C}{c:C}[hl:DM P t false n](hx:ev f x=some (.o (.ptr id k i j)))(ho:look σ id=some (.cells T k rows))(hr:rows[i]? = some r)(hc:r[j]? = some c) :
 AY P TB Γ ⟨d,.load t x,ty,pos,af,g⟩ f σ nx (.o c):=
 AH fun V ρ h1 h2=>by
  have h3:=h1.get (by simp [Op.operands]) hx
  generalize hv:ρ x=v at h3
  cases h3 with
  | ptr hid hnl=>
   rcases h2.st.obj id _ ho with ⟨h4,_⟩|⟨_,cur,h4,h5,h6,h7,h8,h9⟩
   ·exact absurd h4 hnl
   ·obtain⟨v,h10,h11⟩:=h9 i r j c hr hc
    refine⟨v,?_,h11⟩
    have:V.w.cell? ⟨V.ρ id,i*k+j,none⟩=some v:=by simp [World.cell?,h4,h10]
    simp [execOp,hv,Instr.loadAt,Instr.sureAddr,loadVar,(Bx hl.out V.w).1,this,go_sem]
theorem Vq{t:TypeId}{x:Operand}{id k i j n:Nat}{T:TypeId}{rows:List (List C)}{r:List C}[hl:DM P t true n](hx:ev f x=some (.o (.ptr id k i j)))(ho:look σ id=some (.cells T k rows))(hr:rows[i]? = some r)(hn:j+n≤r.length) :
 AY P TB Γ ⟨d,.load t x,ty,pos,af,g⟩ f σ nx (.a ((r.drop j).take n)):=
 AH fun V ρ h1 h2=>by
  have h3:=h1.get (by simp [Op.operands]) hx
  generalize hv:ρ x=v at h3
  cases h3 with
  | ptr hid hnl=>
   rcases h2.st.obj id _ ho with ⟨h4,_⟩|⟨_,cur,h4,h5,h6,h7,h8,h9⟩
   ·exact absurd h4 hnl
   ·have hcell:∀q,q < n→∃v,cur[i*k+j+q]? = some v∧AI V (r[j+q]?.getD (.d (.l []))) v:=fun q hq=>by
     have hlt:j+q < r.length:=by omega
     obtain⟨v,h10,h11⟩:=h9 i r (j+q) r[j+q] hr (List.getElem?_eq_getElem hlt)
     exact⟨v,by rw [Nat.add_assoc];exact h10,by rw [List.getElem?_eq_getElem hlt];exact h11⟩
    refine⟨.agg ((List.range n).map fun q=>cur.getD (i*k+j+q) undef).toArray,?_,_,rfl,by simp;omega,?_⟩
    ·have:(loadCells ⟨V.ρ id,i*k+j,none⟩ n).run P V.w=.ok ((List.range n).map fun q=>cur.getD (i*k+j+q) undef).toArray V.w:=run_loadCells V.w _ n _ fun q hq=>by
      rw [Bu]
      obtain⟨v,h10,_⟩:=hcell q hq
      simp [World.cell?,h4,h10]
     unfold loadCells at this
     simp [execOp,hv,Instr.loadAt,Instr.sureAddr,loadVar,(Bx hl.out V.w).1,(Bx hl.out V.w).2,this,go_sem]
    ·intro q c v hj hv'
     rw [List.getElem?_take] at hj
     split at hj
     ·rename_i hq
      rw [List.getElem?_drop] at hj
      obtain⟨v',h10,h11⟩:=hcell q hq
      rw [hj] at h11
      have:v=v':=by simpa [hq,h10] using hv'.symm
      rw [this];exact h11
     ·cases hj
theorem Vi{s kf off:Nat}{x:Operand}{id k i j:Nat}[hf:MZ P s kf off](hx:ev f x=some (.o (.ptr id k i j))):AY P TB Γ ⟨d,.fieldAddr s x kf,ty,pos,af,g⟩ f σ nx (.o (.ptr id k i (j+off))):=
 AH fun V ρ h1 _=>by
  have h2:=h1.get (by simp [Op.operands]) hx
  generalize hv:ρ x=v at h2
  cases h2 with
  | ptr hid hnl=>
   have hh:=hf.out
   unfold SC at hh
   split at hh
   ·rename_i fs hu
    split at hh
    ·rename_i fl hfl
     split at hh
     ·rename_i ii hi
      cases hz:Nat.beq ii.size 0
      ·rw [hz] at hh
       simp only [cond_false,Option.some.injEq] at hh
       subst hh
       have hz':ii.size≠0:=fun e=>by rw [e] at hz;cases hz
       refine⟨.pointer (some ⟨V.ρ id,i*k+j+fl.offset,none⟩),?_,by rw [Nat.add_assoc];exact .ptr hid hnl⟩
       simp [execOp,hv,Instr.fieldAt,run_underlying hu,hfl,Instr.sureAddr,fieldPlace,sizeOf,typeInfo,hi,hz',Bu,go_sem]
      ·rw [hz] at hh;cases hh
     ·cases hh
    ·cases hh
   ·cases hh
theorem Vj{t e:TypeId}{x y:Operand}{id k len b:Nat}{off:Nat}{n:Int}{ik:IntKind}[hl:B3 P t e k b](hx:ev f x=some (.o (.arr id k off len)))(hy:ev f y=some (eI ik n))
 (h0:0≤n) (hn:n < len):AY P TB Γ ⟨d,.indexAddr t x y,ty,pos,af,g⟩ f σ nx (.o (.ptr id k (off+n.toNat) 0)):=
 AH fun V ρ h1 _=>by
  have h2:=h1.get (by simp [Op.operands]) hx
  have h3:ρ y=.int ik n:=AI.val (h1.get (by simp [Op.operands]) hy)
  generalize hv:ρ x=v at h2
  obtain⟨i,hu,hi,hs,_⟩:=E1 hl.out
  cases h2 with
  | nil=>omega
  | arr hid hnl hle=>
   refine⟨.pointer (some ⟨V.ρ id,(off+n.toNat)*k+0,none⟩),?_,.ptr hid hnl⟩
   simp [execOp,hv,h3,Instr.indexAt,asIntOf,run_underlying hu,h0,hn,sizeOf,typeInfo,hi,hs,Bu,Nat.add_mul,go_sem]
theorem Vl{t:TypeId}{x y:Operand}{id k i j:Nat}{n:Int}{len ke:Nat}{ik:IntKind}[hl:QN P t len ke](hx:ev f x=some (.o (.ptr id k i j)))(hy:ev f y=some (eI ik n))
 (h0:0≤n) (hn:n < len):AY P TB Γ ⟨d,.indexAddr t x y,ty,pos,af,g⟩ f σ nx (.o (.ptr id k i (j+n.toNat*ke))):=
 AH fun V ρ h1 _=>by
  have h2:=h1.get (by simp [Op.operands]) hx
  have h3:ρ y=.int ik n:=AI.val (h1.get (by simp [Op.operands]) hy)
  generalize hv:ρ x=v at h2
  obtain⟨e,ii,hu,hi,hs⟩:=TR hl.out
  cases h2 with
  | ptr hid hnl=>
   refine⟨.pointer (some ⟨V.ρ id,i*k+(j+n.toNat*ke),none⟩),?_,.ptr hid hnl⟩
   simp [execOp,hv,h3,Instr.indexAt,asIntOf,run_underlying hu,Instr.sureAddr,h0,hn,sizeOf,typeInfo,hi,hs,Bu,Nat.add_assoc,go_sem]
theorem HN{t:TypeId}{n:Nat}{w:World}{a:Addr}{v:Value}(h:(sizeOf t).run P w=.ok n w)(hs:v.cells.size=n):(storeVar t a v).run P w=(storeCells a v.cells.toList).run P w:=by
 unfold storeVar
 simp only [Sem.run_bind,h,Result.andThen_ok,hs,ne_eq,not_true,if_false]
def Ai(r:List C)(j:Nat)(cs:List C):List C:=r.take j++cs++r.drop (j+cs.length)
theorem Ix{t:TypeId}{x y:Operand}{id k i j n:Nat}{T:TypeId}{rows:List (List C)}{r:List C}{e:E}{ag:Bool}[hl:DM P t ag n](hx:ev f x=some (.o (.ptr id k i j)))(hy:ev f y=some e)(ho:Og e=true)
 (hlk:look σ id=some (.cells T k rows)) (hr:rows[i]? = some r) (hn:(eC e).length=n) (hj:j+n≤k) (hK:K (.t []) ((id,.cells T k (rows.set i (Ai r j (eC e))))::σ) nx):B2 P TB Γ ⟨d,.store t x y,ty,pos,af,g⟩ f σ nx K:=by
 intro V a h1 h2 h3
 have h1:=h1.Gz
 unfold Oper.wp
 generalize a.eval=ρ at h1 ⊢
 have hxr:=h1.get (by simp [Op.operands]) hx
 have hc:=KK ho (h1.get (by simp [Op.operands]) hy)
 generalize hv:ρ x=v at hxr
 cases hxr with
 | ptr hid hnl =>
  rcases h2.st.obj id _ hlk with ⟨h4,_⟩|⟨_,cur,h4,h5,h6,h7,h8,h9⟩
  ·exact absurd h4 hnl
  ·have hrk : r.length=k:=h8 r (List.mem_of_getElem? hr)
   have hilt:=(List.getElem?_eq_some_iff.1 hr).1
   have hcs:(ρ y).cells.size=n:=by rw [hc.1,hn]
   have hspace:(i+1)*k≤cur.size:=by rw [h5];exact Nat.mul_le_mul_right _ (by omega)
   have hfit:i*k+j+n≤cur.size:=by rw [Nat.add_mul] at hspace;omega
   have hst:=run_storeCells_at P (V.ρ id) (i*k+j) T (ρ y).cells.toList 0 cur V.w h4 (by simp;omega) (fun v hv=>by
    obtain⟨q,hq,rfl⟩:=List.getElem_of_mem hv
    have hq':q < (eC e).length:=by simpa [hc.1] using hq
    exact(hc.2 q (eC e)[q] _ (List.getElem?_eq_getElem hq') (by simp)).one)
   simp only [Nat.add_zero,Array.length_toList] at hst
   rw [hcs] at hst
   have hw := h2.write hlk hnl (w:=V.w.setRow (V.ρ id) (cur.toList.take (i*k+j)++(ρ y).cells.toList++cur.toList.drop (i*k+j+n)).toArray) (ob':=.cells T k (rows.set i (Ai r j (eC e)))) rfl rfl rfl rfl rfl (by simp) (fun b hb=>setRow_other _ _ _ _ hb) (by
    have ee:Ext V { V with w:=V.w.setRow (V.ρ id) (cur.toList.take (i*k+j)++(ρ y).cells.toList++cur.toList.drop (i*k+j+n)).toArray } :=
     ⟨fun _ h=>h,fun b hb=>setRow_other _ _ _ _ fun e=>h2.st.free id _ hlk hnl b e hb,by simp,fun _ _=>rfl,fun _ _=>rfl,fun _ _=>Iff.rfl,Nat.le_refl _⟩
    have hlen:(cur.toList.take (i*k+j)++(ρ y).cells.toList).length=i*k+j+n:=by simp [hcs];omega
    refine .inr ⟨hnl,_,setRow_heap _ _ _ _ _ _ h4,?_,by simpa using h6,h7,?_,?_⟩
    ·simp [hcs];omega
    ·intro r' hr'
     rcases List.mem_or_eq_of_mem_set hr' with h|h
     ·exact h8 r' h
     ·subst h;simp [Ai,hn];omega
    ·intro i' r' j' c hi' hj'
     rw [List.getElem?_set] at hi'
     have hidx:∀q,(cur.toList.take (i*k+j)++(ρ y).cells.toList++cur.toList.drop (i*k+j+n)).toArray[q]? = if q < i*k+j then cur[q]? else if q < i*k+j+n then (ρ y).cells[q - (i*k+j)]? else cur[q]?:=by
      intro q
      simp only [List.getElem?_toArray]
      by_cases hq:q < i*k+j+n
      ·rw [List.getElem?_append_left (by rw [hlen];exact hq)]
       by_cases hq2:q < i*k+j
       ·rw [List.getElem?_append_left (by simp;omega),if_pos hq2]
        simp [hq2]
       ·rw [List.getElem?_append_right (by simp;omega),if_neg hq2,if_pos hq]
        simp
        congr 1
        omega
      ·rw [List.getElem?_append_right (by rw [hlen];omega),if_neg (by omega),if_neg hq,hlen,List.getElem?_drop]
       simp
       congr 1
       omega
     rw [hidx]
     by_cases hii:i=i'
     ·subst hii
      rw [if_pos rfl,if_pos hilt] at hi'
      injection hi' with hi'
      subst hi'
      unfold Ai at hj'
      have hl1:(r.take j++eC e).length=j+n:=by simp [hn];omega
      by_cases hq:j' < j+n
      ·rw [List.getElem?_append_left (by rw [hl1];exact hq)] at hj'
       by_cases hq2:j' < j
       ·rw [List.getElem?_append_left (by simp;omega)] at hj'
        rw [List.getElem?_take,if_pos hq2] at hj'
        obtain⟨v,h10,h11⟩:=h9 i r j' c hr hj'
        rw [if_pos (by omega)]
        exact⟨v,h10,h11.ext ee⟩
       ·rw [List.getElem?_append_right (by simp;omega)] at hj'
        have hmin:(r.take j).length=j:=by simp;omega
        rw [hmin] at hj'
        rw [if_neg (by omega),if_pos (by omega)]
        have hlt:j' - j < (ρ y).cells.size:=by omega
        have he:i*k+j' - (i*k+j)=j' - j:=by omega
        rw [he]
        exact⟨(ρ y).cells[j' - j],Array.getElem?_eq_getElem hlt,(hc.2 _ c _ hj' (Array.getElem?_eq_getElem hlt)).ext ee⟩
      ·rw [List.getElem?_append_right (by rw [hl1];omega),hl1,List.getElem?_drop,hn] at hj'
       have he:j+n+(j' - (j+n))=j':=by omega
       rw [he] at hj'
       obtain⟨v,h10,h11⟩:=h9 i r j' c hr hj'
       rw [if_neg (by omega),if_neg (by omega)]
       exact⟨v,h10,h11.ext ee⟩
     ·rw [if_neg hii] at hi'
      obtain⟨v,h10,h11⟩:=h9 i' r' j' c hi' hj'
      have hr'k:r'.length=k:=h8 r' (List.mem_of_getElem? hi')
      have hj'k:j' < k:=by rw [←hr'k];exact(List.getElem?_eq_some_iff.1 hj').1
      have : ¬(i*k+j≤i'*k+j'∧i'*k+j' < i*k+j+n):=by
       rintro⟨ha,hb⟩
       rcases Nat.lt_or_gt_of_ne hii with hlt|hlt
       ·have:=Nat.mul_le_mul_right k (show i+1≤i' by omega)
        rw [Nat.add_mul] at this;omega
       ·have:=Nat.mul_le_mul_right k (show i'+1≤i by omega)
        rw [Nat.add_mul] at this;omega
      by_cases hq:i'*k+j' < i*k+j
      ·rw [if_pos hq];exact⟨v,h10,h11.ext ee⟩
      ·rw [if_neg hq,if_neg (by omega)];exact⟨v,h10,h11.ext ee⟩)
   have hrun:(execOp ρ ⟨d,.store t x y,ty,pos,af,g⟩).run P V.w=.ok .skip (V.w.setRow (V.ρ id) (cur.toList.take (i*k+j)++(ρ y).cells.toList++cur.toList.drop (i*k+j+n)).toArray):=by
    show ((do Instr.storeAt t (ρ x) (ρ y);pure Next.skip:Sem Next)).run P V.w=_
    rw [hv]
    simp only [Instr.storeAt,Instr.sureAddr,pure_bind,Sem.run_bind,HN (Bx hl.out V.w).2 hcs,hst,Result.andThen_ok]
    rfl
   rw [hrun]
   exact⟨_,undef,_,_,rfl,rfl,hw.2,hw.1,Jz _,by rw [←h3] at hK;exact hK⟩
end
def XP(V:View)(k:Nat)(rows:List (List C))(v:Value):Prop:=
 (v=.slice none 0 0∧rows=[])∨
 ∃(a:Addr) (cap:Nat) (vs:Nat→Nat→Value),v=.slice (some a) rows.length cap∧(∀r∈rows,r.length=k)∧
  ∀(i:Nat) (r:List C) (j:Nat) (c:C),rows[i]? = some r→r[j]? = some c→V.w.cell? (a.add (i*k+j))=some (vs i j)∧AI V c (vs i j)
def FU(σ:Ab)(k:Nat):E→Option (List (List C))
 | .o (.d (.l rows))=>some (rows.map fun r=>r.map .d)
 | .o (.arr id k' off len)=>match look σ id with
  | some (.cells _ _ rows)=>bif Nat.beq k' k && Nat.ble (off+len) rows.length then some ((rows.drop off).take len) else none
  | _=>none
 | _=>none
theorem RZ{TB:Bw}{Γ:Ctx}{V:View}{σ:Ab}(h:Inv TB Γ V σ){k:Nat}{e:E}{v:Value}{rows:List (List C)}(hs:FU σ k e=some rows)(hk:∀r∈rows,r.length=k)(he:Bc V e v):XP V k rows v:=by
 unfold FU at hs
 split at hs
 ·rename_i ds
  injection hs with hs
  subst hs
  cases he with
  | d he =>
   cases he with
   | nil=>exact .inl ⟨rfl,rfl⟩
   | @e a cap=>exact .inr ⟨a,cap,fun _ _=>undef,rfl,by simp,fun i r j c hi=>by simp at hi⟩
   | @l _ b o k' cap vs hb h1 h1' h2 h3 h4=>
    refine .inr ⟨⟨b,o,none⟩,cap,vs,by simp,hk,fun i r j c hi hj=>?_⟩
    simp only [List.getElem?_map,Option.map_eq_some_iff] at hi
    obtain⟨r0,hr0,rfl⟩:=hi
    simp only [List.getElem?_map,Option.map_eq_some_iff] at hj
    obtain⟨x,hx,rfl⟩:=hj
    have:k'=k:=by
     have e1:=h2 i r0 hr0
     have e2:=hk (r0.map .d) (List.mem_map.2 ⟨r0,List.mem_of_getElem? hr0,rfl⟩)
     rw [List.length_map] at e2;omega
    subst this
    exact⟨by rw [Bu,←Nat.add_assoc];exact h3 i r0 j x hr0 hx,.d (h4 i r0 j x hr0 hx)⟩
 ·rename_i id k' off len
  split at hs
  ·rename_i T k2 rows2 hl
   cases hb:Nat.beq k' k && Nat.ble (off+len) rows2.length
   ·rw [hb] at hs;cases hs
   ·rw [hb] at hs
    injection hs with hs
    subst hs
    rw [Bool.and_eq_true] at hb
    have hkk:=Nat.eq_of_beq_eq_true hb.1
    have hle:=Nat.le_of_ble_eq_true hb.2
    subst hkk
    cases he with
    | nil h1 h2=>exact .inl ⟨rfl,by simp⟩
    | arr h1 hnl h2=>
     rcases h.st.obj id _ hl with ⟨h4,_⟩|⟨_,cur,h4,h5,h6,h7,h8,h9⟩
     ·exact absurd h4 hnl
     ·rcases Nat.eq_zero_or_pos len with h0|h0
      ·subst h0
       exact .inr ⟨⟨V.ρ id,off*k',none⟩,V.cap id - off,fun _ _=>undef,by simp,by simp,fun i r j c hi=>by simp at hi⟩
      ·have hk2:k2=k':=by
        have hlt:0 < ((rows2.drop off).take len).length:=by simp;omega
        have e1:=hk _ (List.getElem_mem hlt)
        have e2:=h8 _ (List.mem_of_mem_drop (List.mem_of_mem_take (List.getElem_mem hlt)))
        omega
       subst hk2
       refine .inr ⟨⟨V.ρ id,off*k2,none⟩,V.cap id - off,fun i j=>cur.getD ((off+i)*k2+j) undef,?_,hk,fun i r j c hi hj=>?_⟩
       ·have:((rows2.drop off).take len).length=len:=by simp;omega
        rw [this]
       ·rw [List.getElem?_take] at hi
        split at hi
        ·rename_i hlt
         rw [List.getElem?_drop] at hi
         obtain⟨v,h10,h11⟩:=h9 (off+i) r j c hi hj
         have e3:off*k2+i*k2+j=(off+i)*k2+j:=by rw [Nat.add_mul]
         have:cur.getD ((off+i)*k2+j) undef=v:=by simp [h10]
         simp only [this]
         exact⟨by rw [Bu,←Nat.add_assoc,e3];simp [World.cell?,h4,h10],h11⟩
        ·cases hi
  ·cases hs
 ·cases hs
def Ck(m k:Nat)(vs:Nat→Nat→Value):List Value:=(List.range (m*k)).map fun q=>vs (q / k) (q % k)
theorem Jd{m k:Nat}{vs:Nat→Nat→Value}{i j:Nat}(hi:i < m)(hj:j < k):(Ck m k vs)[i*k+j]? = some (vs i j):=by
 have hlt:i*k+j < m*k:=by
  have:=Nat.mul_le_mul_right k (show i+1≤m by omega)
  rw [Nat.add_mul] at this;omega
 have hk:0 < k:=by omega
 have e1:(i*k+j) / k=i:=by rw [Nat.add_comm,Nat.add_mul_div_right _ _ hk,Nat.div_eq_of_lt hj,Nat.zero_add]
 have e2:(i*k+j) % k=j:=by rw [Nat.add_comm,Nat.add_mul_mod_self_right,Nat.mod_eq_of_lt hj]
 simp [Ck,hlt,e1,e2]
theorem Je{m k:Nat}{vs:Nat→Nat→Value}{q:Nat}{u:Value}(h:(Ck m k vs)[q]? = some u):∃i j,q=i*k+j∧i < m∧j < k∧u=vs i j:=by
 have hlt:=(List.getElem?_eq_some_iff.1 h).1
 simp [Ck] at hlt
 have hk:0 < k:=by rcases Nat.eq_zero_or_pos k with h0|h0;(subst h0;simp at hlt);exact h0
 refine⟨q / k,q % k,?_,?_,Nat.mod_lt _ hk,?_⟩
 ·rw [Nat.mul_comm];exact(Nat.div_add_mod q k).symm
 ·exact Nat.div_lt_of_lt_mul (by rw [Nat.mul_comm];exact hlt)
 ·simp [Ck,hlt] at h;exact h.symm
theorem Ce(m k:Nat)(vs:Nat→Nat→Value):(Ck m k vs).length=m*k:=by simp [Ck]
section
variable {P:Program}{TB:Bw}{Γ:Ctx}{d:Option Tmp}{ty:TypeId}{pos:String}{af:Array Edge}{g:Option (Nat×Bool)}{f:Env}{σ:Ab}{nx:Nat}
variable {K:E→Ab→Nat→Prop}
theorem DL{t e:TypeId}{i:TypeInfo}(ht:P.underlying t=some (.slice e))(hi:P.info? e=some i)(w:World)(base:Option Addr)(n cap:Nat)(hn:n≤cap)(ty:TypeId) :
 (Builtin.append_ #[t,t] ty #[.slice base n cap,.slice none 0 0]).run P w=.ok (.slice base n cap) w:=by
 cases base<;>simp [Builtin.append_,run_underlying ht,sizeOf,typeInfo,hi,Builtin.lenOf,Builtin.firstCells,storeCells,hn,go_sem]
theorem KF{V:View}{k:Nat}{rows news:List (List C)}{cur':Array Value}(ho:∀(i:Nat) (r:List C) (j:Nat) (c:C),rows[i]? = some r→r[j]? = some c→∃v,cur'[i*k+j]? = some v∧AI V c v)
 (hn:∀(i:Nat) (r:List C) (j:Nat) (c:C),news[i]? = some r→r[j]? = some c→∃v,cur'[(rows.length+i)*k+j]? = some v∧AI V c v) :
 ∀(i:Nat) (r:List C) (j:Nat) (c:C),(rows++news)[i]? = some r→r[j]? = some c→∃v,cur'[i*k+j]? = some v∧AI V c v:=by
 intro i r j c hi hj
 by_cases h:i < rows.length
 ·rw [List.getElem?_append_left h] at hi;exact ho i r j c hi hj
 ·rw [List.getElem?_append_right (by omega)] at hi
  have:=hn (i - rows.length) r j c hi hj
  have e:rows.length+(i - rows.length)=i:=by omega
  rw [e] at this;exact this
theorem Aw{t e:TypeId}{k b:Nat}{z:List Value}{s x:Operand}{id len:Nat}{rows news:List (List C)}{ex:E}[hl:B3 P t e k b][hz:BR P e z]
 (hs:ev f s=some (.o (.arr id k 0 len))) (hx:ev f x=some ex) (hlk:look σ id=some (.cells e k rows)) (hlen:rows.length=len) (hsrc:FU σ k ex=some news) (hkk:∀r∈news,r.length=k)
 (hzk:z.length=k) (hb0:0 < b) (hb:(len+news.length)*b≤140737488355328)
 (hK:K (.o (.arr nx k 0 (len+news.length))) ((nx,.cells e k (rows++news))::kill id σ) (nx+1)):B2 P TB Γ ⟨d,.call ⟨.builtin .append,#[s,x],#[t,t]⟩,ty,pos,af,g⟩ f σ nx K:=
 CQ fun V ρ h1 h2 h3=>by
  subst h3
  obtain⟨i,hu,hi,hsz,hby⟩:=E1 hl.out
  have hz':=hz.out
  simp only [TC,hi,Option.bind_some,Option.map_eq_some_iff] at hz'
  obtain⟨zv,hzv,hzz⟩:=hz'
  have hzc:zv.cells.size=k:=by rw [←hzk,←hzz];simp
  have hsr:=h1.get (x:=s) (by simp [Op.operands,Call.operands]) hs
  have hxr:=RZ h2 hsrc hkk (h1.get (x:=x) (by simp [Op.operands,Call.operands]) hx)
  have hexec:∀w,(execOp ρ ⟨d,.call ⟨.builtin .append,#[s,x],#[t,t]⟩,ty,pos,af,g⟩).run P w=((Builtin.append_ #[t,t] ty #[ρ s,ρ x]).run P w).andThen fun v w'=>.ok (.value v) w':=fun w=>by
   simp only [execOp,resolve,invoke,builtin,List.map_toArray,List.map_cons,List.map_nil,pure_bind,bind_pure_comp,Sem.run_map]
  have hmax:len+news.length≤maxLen:=by
   have:len+news.length≤(len+news.length)*b:=Nat.le_mul_of_pos_right _ hb0
   unfold maxLen;omega
  have hint:((len+news.length:Nat):Int)≤9223372036854775807:=by
   have:len+news.length≤(len+news.length)*b:=Nat.le_mul_of_pos_right _ hb0
   omega
  generalize hvs:ρ s=vs at *
  generalize hvx:ρ x=vx at *
  have hob:=h2.st.obj id _ hlk
  rcases hxr with ⟨rfl,hnil⟩|⟨xa,xc,xv,rfl,hxk,hxcell⟩
  ·-- nothing is added: the value stays
   subst hnil
   obtain⟨hi',he'⟩:=h2.alias hlk
   rw [List.append_nil] at hK
   refine⟨vs,_,_,_,?_,he',hi',?_,hK⟩
   ·rw [hexec]
    cases hsr with
    | nil=>rw [DL hu hi V.w none 0 0 (Nat.le_refl _) ty];rfl
    | arr h4 h5 h6=>rw [DL hu hi V.w _ len _ (by omega) ty];rfl
   ·have hnn:(Au V (V.ρ id) (V.cap id) (V.nl id) V.w).nl V.nx=V.nl id:=by simp [Au]
    have hnr:(Au V (V.ρ id) (V.cap id) (V.nl id) V.w).ρ V.nx=V.ρ id:=by simp [Au]
    have hnc:(Au V (V.ρ id) (V.cap id) (V.nl id) V.w).cap V.nx=V.cap id:=by simp [Au]
    cases hsr with
    | nil h4 h5=>exact AI.nil (by simp [Au]) (by rw [hnn];exact h5)
    | arr h4 h5 h6=>
     have:=@AI.arr (Au V (V.ρ id) (V.cap id) (V.nl id) V.w) V.nx k 0 (len+0) (by simp [Au]) (by rw [hnn];exact h5) (by rw [hnc];exact h6)
     rw [hnr,hnc] at this
     exact this
  ·have hnewsl : (Ck news.length k xv).length=news.length*i.size:=by rw [Ce,hsz]
   have hnewsc:∀j u,(Ck news.length k xv)[j]? = some u→V.w.cell? (xa.add j)=some u:=by
    intro q u hq
    obtain⟨a,b,rfl,ha,hb,rfl⟩:=Je hq
    have hbl:b < news[a].length:=by rw [hxk _ (List.getElem_mem ha)];exact hb
    exact(hxcell a news[a] b news[a][b] (List.getElem?_eq_getElem ha) (List.getElem?_eq_getElem hbl)).1
   have hnews1:∀u∈Ck news.length k xv,u.oneCell'=true:=by
    intro u hu
    obtain⟨q,hq,rfl⟩:=List.getElem_of_mem hu
    obtain⟨a,b,_,ha,hb,he⟩:=Je (List.getElem?_eq_getElem hq)
    rw [he]
    have hbl:b < news[a].length:=by rw [hxk _ (List.getElem_mem ha)];exact hb
    exact(hxcell a news[a] b news[a][b] (List.getElem?_eq_getElem ha) (List.getElem?_eq_getElem hbl)).2.one
   have fresh:∀(olds:List Value) (cap':Nat),olds.length=len*k→len+news.length≤cap'→cap'≤maxLen→
    (∀(i:Nat) (r:List C) (j:Nat) (c:C),rows[i]? = some r→r[j]? = some c→∃v,olds[i*k+j]? = some v∧AI V c v)→
    (Builtin.append_ #[t,t] ty #[vs,.slice (some xa) news.length xc]).run P V.w=.ok (.slice (some ⟨V.w.heap.size,0,none⟩) (len+news.length) cap')
     (V.w.drew.alloc (.cells (olds.toArray++(Ck news.length k xv).toArray++Builtin.zeroCells zv.cells (cap' - (len+news.length))) e))→
    (∀r∈rows,r.length=k)→
    ∃v V' xx σ',(execOp ρ ⟨d,.call ⟨.builtin .append,#[s,x],#[t,t]⟩,ty,pos,af,g⟩).run P V.w=.ok (.value v) V'.w∧Ext V V'∧Inv TB Γ V' σ'∧Bc V' xx v∧K xx σ' V'.nx:=by
    intro olds cap' hol hcap hcm hold hrun hrk
    let w':=V.w.drew.alloc (.cells (olds.toArray++(Ck news.length k xv).toArray++Builtin.zeroCells zv.cells (cap' - (len+news.length))) e)
    have ee:Ext V (Au V V.w.heap.size cap' False w'):=Da (by simp [w']) fun b hb=>AV V.w.drew _ b (h2.iLt b hb)
    obtain⟨hi',he'⟩:=h2.alloc (c:=cap') (nl:=False) (w:=w') (ob:=.cells e k (rows++news)) rfl rfl rfl rfl (by simp [w']) (fun b hb=>AV V.w.drew _ b hb) (by
     refine .inr ⟨by simp [Au],olds.toArray++(Ck news.length k xv).toArray++Builtin.zeroCells zv.cells (cap' - (len+news.length)),?_,?_,?_,?_,?_,?_⟩
     ·have:=BJ V.w.drew (.cells (olds.toArray++(Ck news.length k xv).toArray++Builtin.zeroCells zv.cells (cap' - (len+news.length))) e)
      have hr:(Au V V.w.heap.size cap' False w').ρ V.nx=V.w.heap.size:=by simp [Au]
      rw [hr];exact this
     ·have hc:(Au V V.w.heap.size cap' False w').cap V.nx=cap':=by simp [Au]
      rw [hc]
      simp only [Array.size_append,List.size_toArray,hol,Ce,Builtin.zeroCells,Array.size_map,Array.size_range,hzc,←Nat.add_mul]
      congr 1;omega
     ·have hc:(Au V V.w.heap.size cap' False w').cap V.nx=cap':=by simp [Au]
      rw [hc,List.length_append,hlen];exact hcap
     ·have hc:(Au V V.w.heap.size cap' False w').cap V.nx=cap':=by simp [Au]
      rw [hc];exact hcm
     ·intro r hr
      rcases List.mem_append.1 hr with h|h
      ·exact hrk r h
      ·exact hkk r h
     ·refine KF (fun i r j c hi hj=>?_) (fun i r j c hi hj=>?_)
      ·obtain⟨v,h10,h11⟩:=hold i r j c hi hj
       refine⟨v,?_,h11.ext ee⟩
       have hlt:=(List.getElem?_eq_some_iff.1 h10).1
       rw [Array.getElem?_append_left (by simp;omega),Array.getElem?_append_left (by simpa using hlt)]
       simpa using h10
      ·have hil:=(List.getElem?_eq_some_iff.1 hi).1
       have hjl:j < k:=by rw [←hxk r (List.mem_of_getElem? hi)];exact(List.getElem?_eq_some_iff.1 hj).1
       have h10:=Jd (vs:=xv) hil hjl
       refine⟨xv i j,?_,(hxcell i r j c hi hj).2.ext ee⟩
       have hlt:=(List.getElem?_eq_some_iff.1 h10).1
       rw [hlen,Nat.add_mul,Nat.add_assoc]
       rw [Array.getElem?_append_left (by simp [hol];omega),Array.getElem?_append_right (by simp [hol])]
       simpa [hol] using h10)
    refine⟨.slice (some ⟨V.w.heap.size,0,none⟩) (len+news.length) cap',_,_,(V.nx,.cells e k (rows++news))::kill id σ,?_,he',hi'.sub ?_,?_,hK⟩
    ·rw [hexec,hrun];rfl
    ·intro q o hq
     rw [Ax] at hq ⊢
     by_cases hqq:V.nx=q
     ·rwa [if_pos hqq] at hq ⊢
     ·rw [if_neg hqq] at hq ⊢
      rw [Dt] at hq
      by_cases hqi:q=id
      ·rw [if_pos hqi] at hq;cases hq
      ·rwa [if_neg hqi] at hq
    ·have:=@AI.arr (Au V V.w.heap.size cap' False w') V.nx k 0 (len+news.length) (by simp [Au]) (by simp [Au]) (by simp [Au];exact hcap)
     have hr:(Au V V.w.heap.size cap' False w').ρ V.nx=V.w.heap.size:=by simp [Au]
     have hc:(Au V V.w.heap.size cap' False w').cap V.nx=cap':=by simp [Au]
     rw [hr,hc,Nat.zero_mul,Nat.sub_zero] at this
     exact this
   cases hsr with
   | nil hid hnl=>
    have hrows:rows=[]:=List.length_eq_zero_iff.1 hlen
    rcases Nat.eq_zero_or_pos news.length with hm0|hm0
    ·-- nil and nothing: nil
     have hnn:news=[]:=List.length_eq_zero_iff.1 hm0
     subst hnn
     obtain⟨hi',he'⟩:=h2.alias hlk
     rw [List.append_nil] at hK
     refine⟨.slice none 0 0,_,_,_,?_,he',hi',?_,hK⟩
     ·rw [hexec]
      simp [Builtin.append_,run_underlying hu,sizeOf,typeInfo,hi,Builtin.lenOf,Builtin.firstCells,loadCells,loadCellsFrom,Au,go_sem]
     ·exact AI.nil (by simp [Au]) (by simp [Au,hnl])
    ·have hr:=run_append_nil (P:=P) V.w t ty e i zv hu hi hzv xa news.length xc _ hnewsl hnewsc hm0 (by omega) (by rw [hby];have hb':=hb;simp only [Nat.zero_add] at hb';omega)
     refine fresh [] (grownCap V.w news.length 0 e) (by simp) (by simp only [Nat.zero_add];exact grownCap_ge _ _ _ _) (grownCap_le_maxLen _ _ _ _ (by omega)) (fun i r j c hi=>by rw [hrows] at hi;simp at hi) ?_ (fun r hr=>by rw [hrows] at hr;cases hr)
     rw [hr];simp
   | arr hid hnl hle=>
    rcases hob with ⟨h4,_⟩|⟨_,cur,h4,h5,h6,h7,h8,h9⟩
    ·exact absurd h4 hnl
    ·have hcs : cur.size=V.cap id*i.size:=by rw [h5,hsz]
     by_cases hroom:len+news.length≤V.cap id
     ·-- there is room
      have hfit:len*i.size+(Ck news.length k xv).length≤cur.size:=by
       rw [hnewsl,hcs,←Nat.add_mul];exact Nat.mul_le_mul_right _ hroom
      have hr:=run_append_room (P:=P) V.w t ty e i hu hi (V.ρ id) len (V.cap id) cur h4 xa news.length xc _ hnewsl hnewsc hnews1 hroom hfit
      have hlen2:(cur.toList.take (len*k)++Ck news.length k xv).length=len*k+news.length*k:=by
       rw [hsz] at hfit;simp [Ce] at hfit ⊢;omega
      let w':=V.w.setRow (V.ρ id) (cur.toList.take (len*i.size)++Ck news.length k xv++cur.toList.drop (len*i.size+(Ck news.length k xv).length)).toArray
      have ee:Ext V { V with w:=w' } :=
       ⟨fun _ h=>h,fun b hb=>setRow_other _ _ _ _ fun e=>h2.st.free id _ hlk hnl b e hb,by simp [w'],fun _ _=>rfl,fun _ _=>rfl,fun _ _=>Iff.rfl,Nat.le_refl _⟩
      obtain⟨hw1,hw2⟩:=h2.write hlk hnl (w:=w') (ob':=.cells e k (rows++news)) rfl rfl rfl rfl rfl (by simp [w']) (fun b hb=>setRow_other _ _ _ _ hb) (by
       refine .inr ⟨hnl,_,setRow_heap _ _ _ _ _ _ h4,?_,?_,h7,?_,?_⟩
       ·simp only [List.size_toArray,List.length_append,List.length_take,List.length_drop,Array.length_toList]
        rw [hcs,hnewsl,hsz] at hfit
        simp only [Ce,hsz,h5]
        omega
       ·rw [List.length_append,hlen];exact hroom
       ·intro r hr
        rcases List.mem_append.1 hr with h|h
        ·exact h8 r h
        ·exact hkk r h
       ·simp only [hsz]
        refine KF (fun i' r j c hi hj=>?_) (fun i' r j c hi hj=>?_)
        ·obtain⟨v,h10,h11⟩:=h9 i' r j c hi hj
         refine⟨v,?_,h11.ext ee⟩
         have hjl:j < k:=by rw [←h8 r (List.mem_of_getElem? hi)];exact(List.getElem?_eq_some_iff.1 hj).1
         have hil:=(List.getElem?_eq_some_iff.1 hi).1
         have hlt:i'*k+j < len*k:=by
          have:=Nat.mul_le_mul_right k (show i'+1≤len by omega)
          rw [Nat.add_mul] at this;omega
         have hlc:len*k≤cur.size:=by rw [h5];exact Nat.mul_le_mul_right _ (by omega)
         simp only [List.getElem?_toArray]
         rw [List.getElem?_append_left (by rw [hlen2];omega),List.getElem?_append_left (by simp;omega),List.getElem?_take,if_pos hlt]
         simpa using h10
        ·have hil:=(List.getElem?_eq_some_iff.1 hi).1
         have hjl:j < k:=by rw [←hxk r (List.mem_of_getElem? hi)];exact(List.getElem?_eq_some_iff.1 hj).1
         have h10:=Jd (vs:=xv) hil hjl
         have hlt:=(List.getElem?_eq_some_iff.1 h10).1
         rw [Ce] at hlt
         refine⟨xv i' j,?_,(hxcell i' r j c hi hj).2.ext ee⟩
         have hlc:len*k≤cur.size:=by rw [h5];exact Nat.mul_le_mul_right _ (by omega)
         have htl:(cur.toList.take (len*k)).length=len*k:=by simp;omega
         simp only [List.getElem?_toArray]
         rw [hlen,Nat.add_mul,Nat.add_assoc,List.getElem?_append_left (by rw [hlen2];omega),List.getElem?_append_right (by rw [htl];omega),htl]
         have:len*k+(i'*k+j) - len*k=i'*k+j:=by omega
         rw [this];exact h10)
      have hlk2:look ((id,O.cells e k (rows++news))::σ) id=some (.cells e k (rows++news)):=by rw [Ax,if_pos rfl]
      obtain⟨ha1,ha2⟩:=hw1.alias hlk2
      refine⟨.slice (some ⟨V.ρ id,0,none⟩) (len+news.length) (V.cap id),_,_,(V.nx,.cells e k (rows++news))::kill id σ,?_,hw2.trans ha2,ha1.sub ?_,?_,hK⟩
      ·rw [hexec]
       have:V.cap id - 0=V.cap id:=by omega
       rw [Nat.zero_mul,this,hr];rfl
      ·intro q o hq
       rw [Ax] at hq ⊢
       by_cases hqq:V.nx=q
       ·rwa [if_pos hqq] at hq ⊢
       ·rw [if_neg hqq] at hq ⊢
        rw [Dt] at hq ⊢
        by_cases hqi:q=id
        ·rw [if_pos hqi] at hq;cases hq
        ·rw [if_neg hqi] at hq ⊢
         rw [Ax,if_neg (Ne.symm hqi)];exact hq
      ·have hnn:(Au { V with w:=w' } (V.ρ id) (V.cap id) (V.nl id) w').nl V.nx=V.nl id:=by simp [Au]
       have hnr:(Au { V with w:=w' } (V.ρ id) (V.cap id) (V.nl id) w').ρ V.nx=V.ρ id:=by simp [Au]
       have hnc:(Au { V with w:=w' } (V.ρ id) (V.cap id) (V.nl id) w').cap V.nx=V.cap id:=by simp [Au]
       have:=@AI.arr (Au { V with w:=w' } (V.ρ id) (V.cap id) (V.nl id) w') V.nx k 0 (len+news.length) (by simp [Au]) (by rw [hnn];exact hnl) (by rw [hnc];omega)
       rw [hnr,hnc,Nat.zero_mul,Nat.sub_zero] at this
       exact this
     ·-- it grows
      have hol:(cur.toList.take (len*k)).length=len*k:=by
       have hlc:len*k≤cur.size:=by rw [h5];exact Nat.mul_le_mul_right _ (by omega)
       simp;omega
      have hr:=run_append_grow (P:=P) V.w t ty e i zv hu hi hzv ⟨V.ρ id,0,none⟩ len (V.cap id) (cur.toList.take (len*k)) (by rw [hol,hsz]) (fun j v hj=>by
       rw [Bu]
       rw [List.getElem?_take] at hj
       split at hj
       ·simpa [World.cell?,h4] using hj
       ·cases hj) xa news.length xc _ hnewsl hnewsc (by omega) (by omega) (by rw [hby];exact growslice_fits (by omega) hb)
      refine fresh (cur.toList.take (len*k)) (grownCap V.w (len+news.length) (V.cap id) e) hol (grownCap_ge _ _ _ _) (grownCap_le_maxLen _ _ _ _ hmax) (fun i' r j c hi hj=>?_) ?_ h8
      ·obtain⟨v,h10,h11⟩:=h9 i' r j c hi hj
       refine⟨v,?_,h11⟩
       have hjl:j < k:=by rw [←h8 r (List.mem_of_getElem? hi)];exact(List.getElem?_eq_some_iff.1 hj).1
       have hil:=(List.getElem?_eq_some_iff.1 hi).1
       have hlt:i'*k+j < len*k:=by
        have:=Nat.mul_le_mul_right k (show i'+1≤len by omega)
        rw [Nat.add_mul] at this;omega
       rw [List.getElem?_take,if_pos hlt];simpa using h10
      ·have:V.cap id - 0=V.cap id:=by omega
       rw [Nat.zero_mul,this]
       exact hr
end
def MX(V:View)(place:Nat→Option (Nat×Nat)):List (Nat×Value)→List (Nat×List C)→Prop
 | [],[]=>True
 | (i,v)::ps,(off,cs)::qs=>place i=some (off,cs.length)∧Cp V cs v.cells∧MX V place ps qs
 | _,_=>False
def BZ:List (Nat×List C)→List C→List C
 | [],z=>z
 | (off,cs)::r,z=>BZ r (Ai z off cs)
theorem Hl:∀(l:List (Value×Nat)) (n off:Nat) (cells:Array Value),(∀(q:Nat) (x:Value×Nat),l[q]? = some x→x.2=n+q)→off+n+l.length≤cells.size→
 (l.foldl (fun cs x=>cs.setIfInBounds (off+x.2) x.1) cells).size=cells.size∧
 ∀q,(l.foldl (fun cs x=>cs.setIfInBounds (off+x.2) x.1) cells)[q]? = if off+n≤q∧q < off+n+l.length then (l[q - (off+n)]?).map (·.1) else cells[q]?
 | [],n,off,cells,_,_=>by
  refine⟨rfl,fun q=>?_⟩
  rw [if_neg (by simp)];rfl
 | x :: l,n,off,cells,hx,hs=>by
  have h0:x.2=n:=by simpa using hx 0 x rfl
  have ih:=Hl l (n+1) off (cells.setIfInBounds (off+x.2) x.1) (fun q y hy=>by have:=hx (q+1) y (by simpa using hy);omega) (by simp at hs ⊢;omega)
  simp only [List.foldl_cons]
  refine⟨by rw [ih.1];simp,fun q=>?_⟩
  rw [ih.2 q,h0]
  simp only [List.length_cons] at hs ⊢
  by_cases h1:off+n≤q∧q < off+n+(l.length+1)
  ·rw [if_pos h1]
   by_cases h2:q=off+n
   ·subst h2
    rw [if_neg (by omega)]
    have hlt:off+n < cells.size:=by omega
    simp [hlt]
   ·rw [if_pos (by omega)]
    have:q - (off+n)=(q - (off+(n+1)))+1:=by omega
    rw [this];simp
  ·rw [if_neg h1,if_neg (by omega)]
   rw [Array.getElem?_setIfInBounds_ne (by omega)]
theorem Qv{V:View}{z cs:List C}{cells vc cells':Array Value}{off:Nat}(hz:Cp V z cells)(hv:Cp V cs vc)(hle:off+cs.length≤z.length)(hs:cells'.size=cells.size)
 (hg:∀q,cells'[q]? = if off≤q∧q < off+cs.length then vc[q - off]? else cells[q]?):Cp V (Ai z off cs) cells':=by
 refine⟨by rw [hs,hz.1];simp [Ai];omega,fun j c v hj hvj=>?_⟩
 rw [hg] at hvj
 unfold Ai at hj
 have hl1:(z.take off++cs).length=off+cs.length:=by simp;omega
 have hl0:(z.take off).length=off:=by simp;omega
 by_cases h1:j < off+cs.length
 ·rw [List.getElem?_append_left (by rw [hl1];exact h1)] at hj
  by_cases h2:j < off
  ·rw [List.getElem?_append_left (by rw [hl0];exact h2),List.getElem?_take,if_pos h2] at hj
   rw [if_neg (by omega)] at hvj
   exact hz.2 j c v hj hvj
  ·rw [List.getElem?_append_right (by rw [hl0];omega),hl0] at hj
   rw [if_pos (by omega)] at hvj
   exact hv.2 _ c v hj hvj
 ·rw [List.getElem?_append_right (by rw [hl1];omega),hl1,List.getElem?_drop] at hj
  rw [if_neg (by omega)] at hvj
  have:off+cs.length+(j - (off+cs.length))=j:=by omega
  rw [this] at hj
  exact hz.2 j c v hj hvj
theorem Ii(n:Nat):∀(qs:List (Nat×List C)),(qs.all fun x=>Nat.ble (x.1+x.2.length) n)=true→∀x∈qs,x.1+x.2.length≤n:=by
 intro qs h x hx
 exact Nat.le_of_ble_eq_true (List.all_eq_true.1 h x hx)
theorem E8{V:View}{place:Nat→Option (Nat×Nat)}:∀(ps:List (Nat×Value)) (qs:List (Nat×List C)) (z:List C) (cells:Array Value),MX V place ps qs→Cp V z cells→(∀x∈qs,x.1+x.2.length≤z.length)→
 ∃cells',Instr.fill place cells ps=some cells'∧Cp V (BZ qs z) cells'
 | [],[],z,cells,_,hz,_=>⟨cells,rfl,hz⟩
 | [],_::_,_,_,h,_,_=>h.elim
 | _::_,[],_,_,h,_,_=>h.elim
 | (i, v)::ps,(off,cs)::qs,z,cells,h,hz,hq=>by
  obtain⟨h1,h2,h3⟩:=h
  have hle:off+cs.length≤z.length:=hq (off,cs) (by simp)
  have hvs:=h2.1
  have hf:=Hl v.cells.zipIdx.toList 0 off cells (fun q x hx=>by
   have:=Array.getElem?_toList (xs:=v.cells.zipIdx) (i:=q)
   rw [this,Array.getElem?_zipIdx] at hx
   simp only [Option.map_eq_some_iff] at hx
   obtain⟨a,_,rfl⟩:=hx
   simp) (by simp [hvs];rw [hz.1];exact hle)
  rw [Array.foldl_toList] at hf
  have hz':Cp V (Ai z off cs) (v.cells.zipIdx.foldl (fun cs (x:Value×Nat)=>cs.setIfInBounds (off+x.2) x.1) cells):=by
   refine Qv hz h2 hle hf.1 fun q=>?_
   rw [hf.2 q]
   have hl:v.cells.zipIdx.toList.length=cs.length:=by simp [hvs]
   rw [hl,Nat.add_zero]
   by_cases hc:off≤q∧q < off+cs.length
   ·rw [if_pos hc,if_pos hc,Array.getElem?_toList,Array.getElem?_zipIdx]
    cases v.cells[q - off]?<;>rfl
   ·rw [if_neg hc,if_neg hc]
  obtain⟨cells',h4,h5⟩:=E8 ps qs _ _ h3 hz' (fun x hx=>by
   have:=hq x (by simp [hx])
   have hlen:(Ai z off cs).length=z.length:=by simp [Ai];omega
   rw [hlen];exact this)
  refine⟨cells',?_,h5⟩
  unfold Instr.fill
  rw [h1]
  have hno:¬(v.cells.size≠cs.length || decide (off+v.cells.size > cells.size))=true:=by
   simp [hvs];rw [hz.1];exact hle
  simp only
  rw [if_neg (by simpa using hno)]
  exact h4
def Hz(f:Env):List Operand→Option (List E)
 | []=>some []
 | x::l=>(ev f x).bind fun e=>(Hz f l).map (e :: ·)
def Cm{α:Type}:Nat→List α→List (Nat×α)
 | _,[]=>[]
 | k,x::l=>(k,x)::Cm (k+1) l
def EF(k:Nat):Nat→List E→List (Nat×List C)
 | _,[]=>[]
 | i,e::l=>(i*k,eC e)::EF k (i+1) l
theorem Rp{f:Env}:∀ {l:List Operand} {es:List E},Hz f l=some es→∀(j:Nat) (x:Operand) (e:E),l[j]? = some x→es[j]? = some e→ev f x=some e
 | [],es,h,j,x,e,hx,_=>by simp at hx
 | y::l,es,h,j,x,e,hx,he=>by
  simp only [Hz,Option.bind_eq_some_iff,Option.map_eq_some_iff] at h
  obtain⟨e',h1,es',h2,rfl⟩:=h
  cases j with
  | zero=>simp at hx he;subst hx he;exact h1
  | succ j=>exact Rp h2 j x e (by simpa using hx) (by simpa using he)
theorem Cb{f:Env}:∀ {l:List Operand} {es:List E},Hz f l=some es→es.length=l.length
 | [],es,h=>by injection h with h;subst h;rfl
 | y::l,es,h=>by
  simp only [Hz,Option.bind_eq_some_iff,Option.map_eq_some_iff] at h
  obtain⟨e',h1,es',h2,rfl⟩:=h
  simp [Cb h2]
theorem KN(k:Nat):∀(es:List E) (i:Nat) (pre post:List C),pre.length=i*k→post.length=es.length*k→(∀e∈es,(eC e).length=k)→
 BZ (EF k i es) (pre++post)=pre++(es.map eC).flatten
 | [],i,pre,post,_,hp,_=>by
  have:post=[]:=List.length_eq_zero_iff.1 (by simpa using hp)
  subst this;simp [EF,BZ]
 | e :: es,i,pre,post,h1,h2,hk=>by
  have he:=hk e (by simp)
  simp only [List.length_cons,Nat.add_mul,Nat.one_mul] at h2
  have:Ai (pre++post) (i*k) (eC e)=(pre++eC e)++post.drop k:=by
   unfold Ai
   rw [←h1,List.take_left,←List.drop_drop,List.drop_left,he]
  simp only [EF,BZ,this]
  rw [KN k es (i+1) (pre++eC e) (post.drop k) (by simp [h1,he,Nat.add_mul]) (by simp;omega) (fun x hx=>hk x (by simp [hx]))]
  simp
section
variable {P:Program}{TB:Bw}{Γ:Ctx}{d:Option Tmp}{ty:TypeId}{pos:String}{af:Array Edge}{g:Option (Nat×Bool)}{f:Env}{σ:Ab}{nx:Nat}
variable {K:E→Ab→Nat→Prop}
theorem GA{V:View}{k:Nat}:∀ {rows:List (List C)} {cur:Array Value},Cp V rows.flatten cur→(∀r∈rows,r.length=k)→∀(i:Nat) (r:List C) (j:Nat) (c:C),rows[i]? = some r→r[j]? = some c→∃v,cur[i*k+j]? = some v∧AI V c v:=by
 intro rows cur h hk i r j c hi hj
 have key:∀(rows:List (List C)) (i:Nat),(∀r∈rows,r.length=k)→rows[i]? = some r→rows.flatten[i*k+j]? = some c:=by
  intro rows
  induction rows with
  | nil=>intro i _ hi;simp at hi
  | cons r0 rows ih=>
   intro i hk hi
   cases i with
   | zero=>
    simp at hi;subst hi
    have hlt:=(List.getElem?_eq_some_iff.1 hj).1
    rw [List.flatten_cons,Nat.zero_mul,Nat.zero_add,List.getElem?_append_left hlt];exact hj
   | succ i=>
    have hr0:=hk r0 (by simp)
    rw [List.flatten_cons,List.getElem?_append_right (by rw [hr0,Nat.add_mul];omega),hr0]
    have:(i+1)*k+j - k=i*k+j:=by rw [Nat.add_mul];omega
    rw [this]
    exact ih i (fun r hr=>hk r (by simp [hr])) (by simpa using hi)
 have h1:=key rows i hk hi
 have hlt:i*k+j < cur.size:=by rw [h.1];exact(List.getElem?_eq_some_iff.1 h1).1
 exact⟨cur[i*k+j],Array.getElem?_eq_getElem hlt,h.2 _ c _ h1 (Array.getElem?_eq_getElem hlt)⟩
theorem MV{V:View}{zv:Value}{z:List Value}{n:Nat}(hzz:zv.cells.toList=z)(hok:z.all Ml=true):Cp V ((List.replicate n (z.map zC)).flatten) ((Array.range (n*z.length)).map (zv.cells[· % zv.cells.size]!)):=by
 have hzs:zv.cells.size=z.length:=by rw [←hzz];simp
 refine⟨by simp [List.length_flatten],fun q c v hq hv=>?_⟩
 have hlt:q < n*z.length:=by
  have:=(List.getElem?_eq_some_iff.1 hq).1
  simpa [List.length_flatten] using this
 have hk:0 < z.length:=by rcases Nat.eq_zero_or_pos z.length with h0|h0;(rw [h0] at hlt;simp at hlt);exact h0
 have hmod:q % z.length < z.length:=Nat.mod_lt _ hk
 have h1 : ((List.replicate n (z.map zC)).flatten)[q]? = some (zC z[q % z.length]):=by
  have hd:q / z.length < n:=Nat.div_lt_of_lt_mul (by rw [Nat.mul_comm];exact hlt)
  have key:∀(n i j:Nat),i < n→j < z.length→((List.replicate n (z.map zC)).flatten)[i*z.length+j]? = some (zC (z[j]?.getD undef)):=by
   intro n
   induction n with
   | zero=>intro i j h;omega
   | succ n ih=>
    intro i j hi hj
    rw [List.replicate_succ,List.flatten_cons]
    cases i with
    | zero=>rw [Nat.zero_mul,Nat.zero_add,List.getElem?_append_left (by simpa using hj)];simp [hj]
    | succ i=>
     rw [List.getElem?_append_right (by simp [Nat.add_mul];omega)]
     have:(i+1)*z.length+j - (z.map zC).length=i*z.length+j:=by simp [Nat.add_mul];omega
     rw [this];exact ih i j (by omega) hj
  have:=key n (q / z.length) (q % z.length) hd hmod
  have e:q / z.length*z.length+q % z.length=q:=by rw [Nat.mul_comm];exact Nat.div_add_mod q _
  rw [e] at this
  rw [this];simp [hmod]
 rw [h1] at hq
 injection hq with hq
 subst hq
 have h2:v=z[q % z.length]:=by
  simp only [Array.getElem?_map,Option.map_eq_some_iff] at hv
  obtain⟨q',hq',rfl⟩:=hv
  have hq2:q'=q:=by
   have:=Array.getElem?_eq_some_iff.1 hq'
   obtain⟨h5,h6⟩:=this
   simpa using h6.symm
  subst hq2
  have hlt2:q' % zv.cells.size < zv.cells.size:=by rw [hzs];exact hmod
  rw [getElem!_pos zv.cells _ hlt2]
  subst hzz
  simp
 rw [h2]
 exact JA (List.all_eq_true.1 hok _ (List.getElem_mem hmod))
theorem GU{t:TypeId}{z:List Value}(h:TC P t=some z):∃i zv,P.info? t=some i∧i.zero=some zv∧zv.cells.toList=z:=by
 simp only [TC,Option.bind_eq_some_iff,Option.map_eq_some_iff] at h
 obtain⟨i,hi,zv,hzv,hzz⟩:=h
 exact⟨i,zv,hi,hzv,hzz⟩
theorem Pa{V:View}(h:Inv TB Γ V σ){e:TypeId}{k c:Nat}{rows:List (List C)}{cur:Array Value}{w:World}(hw:w=V.w.alloc (.cells cur e))(hsz:cur.size=c*k)(hcap:rows.length≤c)(hcm:c≤maxLen)(hk:∀r∈rows,r.length=k)
 (hc:∀(i:Nat) (r:List C) (j:Nat) (c:C),rows[i]? = some r→r[j]? = some c→∃v,cur[i*k+j]? = some v∧AI V c v) :
 Inv TB Γ (Au V V.w.heap.size c False w) ((V.nx,.cells e k rows)::σ)∧Ext V (Au V V.w.heap.size c False w)∧AI (Au V V.w.heap.size c False w) (.arr V.nx k 0 rows.length) (.slice (some ⟨V.w.heap.size,0,none⟩) rows.length c):=by
 subst hw
 have ee:Ext V (Au V V.w.heap.size c False (V.w.alloc (.cells cur e))):=Da (by simp) fun b hb=>AV _ _ _ (h.iLt b hb)
 have hr:(Au V V.w.heap.size c False (V.w.alloc (.cells cur e))).ρ V.nx=V.w.heap.size:=by simp [Au]
 have hcc:(Au V V.w.heap.size c False (V.w.alloc (.cells cur e))).cap V.nx=c:=by simp [Au]
 have h1:=h.alloc (c:=c) (nl:=False) (w:=V.w.alloc (.cells cur e)) (ob:=.cells e k rows) rfl rfl rfl rfl (by simp) (fun b hb=>AV _ _ _ hb) (.inr ⟨by simp [Au],cur,by rw [hr];exact BJ _ _,by rw [hcc];exact hsz,by rw [hcc];exact hcap,by rw [hcc];exact hcm,hk,
  fun i r j c hi hj=>let ⟨v,h8,h9⟩:=hc i r j c hi hj;⟨v,h8,h9.ext ee⟩⟩)
 refine⟨h1.1,h1.2,?_⟩
 have:=@AI.arr (Au V V.w.heap.size c False (V.w.alloc (.cells cur e))) V.nx k 0 rows.length (by simp [Au]) (by simp [Au]) (by rw [hcc];omega)
 rw [hr,hcc,Nat.zero_mul,Nat.sub_zero] at this
 exact this
theorem HI{t e:TypeId}{k b:Nat}{z:List Value}{x y:Operand}{ik ik':IntKind}{n c:Int}[hl:B3 P t e k b][hz:BR P e z](hx:ev f x=some (eI ik n))(hy:ev f y=some (eI ik' c))(hzk:z.length=k)(hok:z.all Ml=true)(hb0:0 < b)
 (h0:0≤n) (hnc:n≤c) (hc:c*b≤140737488355328) (hK:K (.o (.arr nx k 0 n.toNat)) ((nx,.cells e k (List.replicate n.toNat (z.map zC)))::σ) (nx+1)):B2 P TB Γ ⟨d,.makeSlice t x y,ty,pos,af,g⟩ f σ nx K:=
 CQ fun V ρ h1 h2 h3=>by
  subst h3
  obtain⟨i,hu,hi,hsz,hby⟩:=E1 hl.out
  obtain⟨i',zv,hi',hzv,hzz⟩:=GU hz.out
  rw [hi] at hi';injection hi' with hi';subst hi'
  have hxv:ρ x=.int ik n:=AI.val (h1.get (by simp [Op.operands]) hx)
  have hyv:ρ y=.int ik' c:=AI.val (h1.get (by simp [Op.operands]) hy)
  have hc0:0≤c:=by omega
  have hcb:c≤c*b:=by
   have:=Int.mul_le_mul_of_nonneg_left (show (1:Int)≤(b:Int) by omega) hc0
   omega
  have wn:IntKind.i64.wrap n=n:=IntWalk.i64_in n (by omega)
  have wc:IntKind.i64.wrap c=c:=IntWalk.i64_in c (by omega)
  have hzs:zv.cells.size=k:=by rw [←hzk,←hzz];simp
  let cur:Array Value:=(Array.range (c.toNat*z.length)).map (zv.cells[· % zv.cells.size]!)
  have hzr:=MV (V:=V) (n:=c.toNat) hzz hok
  have hrow:∀r∈List.replicate c.toNat (z.map zC),r.length=k:=fun r hr=>by rw [List.eq_of_mem_replicate hr];simp [hzk]
  obtain⟨hi2,he2,hcr⟩:=Pa h2 (e:=e) (k:=k) (c:=c.toNat) (rows:=List.replicate n.toNat (z.map zC)) (cur:=cur) rfl (by simp [cur,hzk]) (by simp;omega) (by unfold maxLen;omega) (fun r hr=>by rw [List.eq_of_mem_replicate hr];simp [hzk])
   (fun i r j cc hi hj=>GA hzr hrow i r j cc (by
    rw [List.getElem?_replicate] at hi ⊢
    split at hi
    ·rw [if_pos (by omega)];exact hi
    ·cases hi) hj)
  rw [List.length_replicate] at hcr
  refine⟨.slice (some ⟨V.w.heap.size,0,none⟩) n.toNat c.toNat,_,_,_,?_,he2,hi2,(show Bc _ (.o _) _ from hcr),hK⟩
  have hcb2:(b:Int)*c≤140737488355328:=by rw [Int.mul_comm];exact hc
  have ht:¬(281474976710656:Int) < (b:Int)*c:=by omega
  show ((do let v ←Instr.makeSlice t (ρ x) (ρ y);pure (Next.value v):Sem Next)).run P V.w=_
  rw [hxv,hyv]
  have hmk:(Instr.makeSlice t (.int ik n) (.int ik' c)).run P V.w=.ok (.slice (some ⟨V.w.heap.size,0,none⟩) n.toNat c.toNat) (V.w.alloc (.cells cur e)):=by
   have g1:¬c < 0:=by omega
   have g2:¬n < 0:=by omega
   have g3:¬c < n:=by omega
   simp only [Instr.makeSlice,Sem.run_bind,run_underlying hu,Result.andThen_ok,asInt,asIntOf,pure_bind,bind_pure_comp,map_pure,typeInfo,sizeOf,wn,wc]
   by_cases hcz:c.toNat*k=0
   ·have hce:cur = #[]:=by
     have:cur.size=0:=by simp [cur,hzk,hcz]
     exact Array.eq_empty_of_size_eq_zero this
    simp [go_sem,hi,hby,hsz,g1,g2,g3,ht,askRoom,hcz,newRow,newObj,hce]
    rfl
   ·simp [go_sem,hi,hby,hsz,g1,g2,g3,ht,askRoom,hcz,newRow,newObj,zeroValue,typeInfo,hzv,cur,hzk]
    rfl
  simp only [Sem.run_bind,hmk,Result.andThen_ok]
  rfl
theorem JN{α β:Type}(h:α→β):∀(l:List α) (k:Nat),(Cm k l).map (fun x=>(x.1,h x.2))=Cm k (l.map h)
 | [],_=>rfl
 | x::l,k=>by simp [Cm,JN h l (k+1)]
theorem JG{V:View}{size:Nat}{ρ:Operand→Value}:∀(l:List Operand) (es:List E) (i:Nat),(∀x∈l,∀e,ev f x=some e→Bc V e (ρ x))→Hz f l=some es→(∀e∈es,Og e=true)→(∀e∈es,(eC e).length=size)→
 MX V (fun i=>some (i*size,size)) (Cm i (l.map ρ)) (EF size i es)
 | [],es,i,_,h,_,_=>by injection h with h;subst h;trivial
 | x::l,es,i,hρ,h,ho,hk=>by
  simp only [Hz,Option.bind_eq_some_iff,Option.map_eq_some_iff] at h
  obtain⟨e',h1,es',h2,rfl⟩:=h
  refine⟨?_,KK (ho e' (by simp)) (hρ x (by simp) e' h1),JG l es' (i+1) (fun x hx=>hρ x (by simp [hx])) h2 (fun e he=>ho e (by simp [he])) (fun e he=>hk e (by simp [he]))⟩
  rw [hk e' (by simp)]
theorem K9(k:Nat):∀(es:List E) (i n:Nat),(∀e∈es,(eC e).length=k)→i+es.length≤n→∀x∈EF k i es,x.1+x.2.length≤n*k
 | [],_,_,_,_,x,h=>by simp [EF] at h
 | e :: es,i,n,hk,hn,x,h=>by
  simp only [EF,List.mem_cons] at h
  simp only [List.length_cons] at hn
  rcases h with rfl|h
  ·simp only [hk e (by simp)]
   have:=Nat.mul_le_mul_right k (show i+1≤n by omega)
   rw [Nat.add_mul] at this;omega
  ·exact K9 k es (i+1) n (fun e he=>hk e (by simp [he])) (by omega) x h
theorem Lp{t e:TypeId}{k b:Nat}{z:List Value}(hl:Zb P t=some (e,k,b))(hz:TC P e=some z)(hzk:z.length=k)(hok:z.all Ml=true){xs:List Operand}{es:List E}{V:View}{ρ:Operand→Value}(hρ:∀x∈xs,∀e,ev f x=some e→Bc V e (ρ x))
 (hes:Hz f xs=some es) (ho:es.all Og=true) (hk:∀x∈es,(eC x).length=k) (hn:xs.length*k≤16777216) :
 ∃cur,(Instr.buildSlice t xs.length ((Cm 0 xs).toArray.map fun (i,x)=>(i,ρ x))).run P V.w=.ok (.slice (some ⟨V.w.heap.size,0,none⟩) xs.length xs.length) (V.w.alloc (.cells cur e))∧cur.size=xs.length*k∧Cp V (es.map eC).flatten cur:=by
 obtain⟨i,hu,hi,hsz,_⟩:=E1 hl
 obtain⟨i',zv,hi',hzv,hzz⟩:=GU hz
 rw [hi] at hi';injection hi' with hi';subst hi'
 have hzs:zv.cells.size=k:=by rw [←hzk,←hzz];simp
 have hel:=Cb hes
 have hfo:=JG (size:=k) xs es 0 hρ hes (fun x hx=>List.all_eq_true.1 ho x hx) hk
 have hzr:=MV (V:=V) (n:=xs.length) hzz hok
 have hzl:((List.replicate xs.length (z.map zC)).flatten).length=xs.length*k:=by simp [List.length_flatten,hzk]
 obtain⟨cur,h1,h2⟩:=E8 _ _ _ _ hfo hzr (fun x hx=>by rw [hzl];exact K9 k es 0 xs.length hk (by omega) x hx)
 have h3:=KN k es 0 [] ((List.replicate xs.length (z.map zC)).flatten) (by simp) (by rw [hzl,hel]) hk
 simp only [List.nil_append] at h3
 rw [h3] at h2
 refine⟨cur,?_,?_,h2⟩
 ·have hparts:((Cm 0 xs).toArray.map fun (i,x)=>(i,ρ x)).toList=Cm 0 (xs.map ρ):=by
   rw [←JN];simp
  have hbig:¬2 ^ 24 < xs.length*k:=by
   have:(2:Nat) ^ 24=16777216:=by decide
   omega
  simp only [Instr.buildSlice,Sem.run_bind,run_underlying hu,Result.andThen_ok,sizeOf,typeInfo,bind_pure_comp]
  have hb2:¬16777216 < xs.length*k:=by omega
  have hp2:=hparts
  simp only [List.map_toArray] at hp2
  by_cases h0:xs.length*k=0
  ·have hz1:∀g:Nat→Value,Array.map g (Array.range (xs.length*k)) = #[]:=fun g=>Array.eq_empty_of_size_eq_zero (by simp [h0])
   rw [hzk,hz1] at h1
   simp [go_sem,hi,hsz,newRow,newObj,hb2,hz1,hp2]
   rw [if_pos h0,h1]
   rfl
  ·rw [hzk] at h1
   unfold Value.cells at h1
   simp [go_sem,hi,hsz,h0,hb2,newRow,newObj,zeroValue,typeInfo,hzv,hp2]
   rw [h1]
   rfl
 ·rw [h2.1]
  have:∀l:List E,(∀x∈l,(eC x).length=k)→(l.map eC).flatten.length=l.length*k:=by
   intro l
   induction l with
   | nil=>simp
   | cons a l ih=>intro h;simp [ih (fun x hx=>h x (by simp [hx])),h a (by simp),Nat.add_mul,Nat.add_comm]
  rw [this es hk,hel]
end
end Go.Am
