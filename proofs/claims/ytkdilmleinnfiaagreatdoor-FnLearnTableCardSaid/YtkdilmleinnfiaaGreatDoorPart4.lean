/-
  Literals, strings, parts of slices, closures.
-/
import Derived.Test.YtkdilmleinnfiaaGreatDoorPart3
import Derived.Laws.IdiomStrings
import Derived.ChangeKeysEq
set_option linter.constructorNameAsVariable false
set_option linter.unusedSectionVars false
set_option linter.unusedSimpArgs false
set_option linter.unusedVariables false
namespace Go.Am
open Go
abbrev eT(l:List UInt8):E:=.o (.d (.v (.string ⟨l.toArray⟩)))
def Lz:List E→Option (List (List D))
 | []=>some []
 | e::l=>(Mk (eC e)).bind fun r=>(Lz l).map (r :: ·)
theorem LB:∀ {l:List E} {rows:List (List D)},Lz l=some rows→rows.length=l.length∧∀(i:Nat) (r:List D),rows[i]? = some r→∃e,l[i]? = some e∧Mk (eC e)=some r
 | [],rows,h=>by injection h with h;subst h;exact⟨rfl,fun i r hi=>by simp at hi⟩
 | e::l,rows,h=>by
  simp only [Lz,Option.bind_eq_some_iff,Option.map_eq_some_iff] at h
  obtain⟨r0,h1,rows',h2,rfl⟩:=h
  have ih:=LB h2
  refine⟨by simp [ih.1],fun i r hi=>?_⟩
  cases i with
  | zero=>simp at hi;subst hi;exact⟨e,rfl,h1⟩
  | succ i=>obtain⟨e',h3,h4⟩:=ih.2 i r (by simpa using hi);exact⟨e',by simpa using h3,h4⟩
def ZP(P:Program)(t:TypeId):Option (List (Nat×Nat)):=match P.underlying t with
 | some (.struct fs)=>fs.toList.mapM fun f=>(P.info? f.type).map fun i=>(f.offset,i.size)
 | some (.array n e)=>(P.info? e).map fun i=>(List.range n).map fun j=>(j*i.size,i.size)
 | _=>none
class Gk (P:Program) (t:TypeId) (fl:outParam (List (Nat×Nat))):Prop where
 out:ZP P t=some fl
def Eo(fl:List (Nat×Nat)):List (Nat×Operand)→List E→Option (List (Nat×List C))
 | [],[]=>some []
 | (i,_)::ps,e::es=>match fl[i]? with
  | some (off,size)=>bif Nat.beq (eC e).length size && Og e then (Eo fl ps es).map ((off,eC e) :: ·) else none
  | none=>none
 | _,_=>none
section
variable {P:Program}{TB:Bw}{Γ:Ctx}{d:Option Tmp}{ty:TypeId}{pos:String}{af:Array Edge}{g:Option (Nat×Bool)}{f:Env}{σ:Ab}{nx:Nat}
variable {K:E→Ab→Nat→Prop}
theorem FR{t e:TypeId}{k b n:Nat}{z:List Value}{parts:Array (Nat×Operand)}(hl:Zb P t=some (e,k,b))(hz:TC P e=some z)(hzk:z.length=k)(hok:z.all Ml=true){es:List E}{V:View}{ρ:Operand→Value}(h:JC V ⟨d,.buildSlice t n parts,ty,pos,af,g⟩ f ρ)
 (hp:Cm 0 (parts.toList.map (·.2))=parts.toList) (hn:parts.toList.length=n) (hes:Hz f (parts.toList.map (·.2))=some es) (ho:es.all Og=true) (hk:∀x∈es,(eC x).length=k) (hsm:n*k≤16777216) :
 ∃cur,(execOp ρ ⟨d,.buildSlice t n parts,ty,pos,af,g⟩).run P V.w=.ok (.value (.slice (some ⟨V.w.heap.size,0,none⟩) n n)) (V.w.alloc (.cells cur e))∧cur.size=n*k∧Cp V (es.map eC).flatten cur:=by
 have hxs:(parts.toList.map (·.2)).length=n:=by simpa using hn
 obtain⟨cur,h1,h2,h3⟩:=Lp (P:=P) (f:=f) (V:=V) (xs:=parts.toList.map (·.2)) (ρ:=ρ) hl hz hzk hok (fun x hx e he=>h.get (by simp only [Op.operands];simpa using hx) he) hes ho hk (by rw [hxs];exact hsm)
 rw [hxs] at h1 h2
 refine⟨cur,?_,h2,h3⟩
 rw [hp] at h1
 show ((do let v ←Instr.buildSlice t n (parts.map fun (i,x)=>(i,ρ x));pure (Next.value v):Sem Next)).run P V.w=_
 rw [Array.toArray_toList] at h1
 simp only [Sem.run_bind,h1,Result.andThen_ok]
 rfl
theorem Lf{t e:TypeId}{k b n:Nat}{z:List Value}{parts:Array (Nat×Operand)}{es:List E}{rows:List (List D)}[hl:B3 P t e k b][hz:BR P e z](hp:Cm 0 (parts.toList.map (·.2))=parts.toList)(hn:parts.toList.length=n)
 (hes:Hz f (parts.toList.map (·.2))=some es) (ho:es.all Og=true) (hr:Lz es=some rows) (hk:(rows.all fun r=>Nat.beq r.length k)=true) (hzk:z.length=k) (hok:z.all Ml=true) (hk0:Nat.ble 1 k=true) (hsm:Nat.ble (n*k) 16777216=true) :
 AY P TB Γ ⟨d,.buildSlice t n parts,ty,pos,af,g⟩ f σ nx (.o (.d (.l rows))):=
 Js fun V ρ h1 h2=>by
  have htr:=LB hr
  have hkk:∀x∈es,(eC x).length=k:=fun x hx=>by
   obtain⟨i,hi,rfl⟩:=List.getElem_of_mem hx
   have hir:i < rows.length:=by omega
   obtain⟨e',h3,h4⟩:=htr.2 i rows[i] (List.getElem?_eq_getElem hir)
   rw [List.getElem?_eq_getElem hi] at h3
   injection h3 with h3
   rw [h3,←JT h4]
   exact Nat.eq_of_beq_eq_true (List.all_eq_true.1 hk _ (List.getElem_mem hir))
  obtain⟨cur,h3,h4,h5⟩:=FR hl.out hz.out hzk hok h1 hp hn hes ho hkk (Nat.le_of_ble_eq_true hsm)
  obtain⟨hi,he⟩:=h2.TN (w:=V.w.alloc (.cells cur e)) rfl rfl rfl (by simp) (fun b hb=>AV _ _ _ hb)
  have hlen:rows.length=n:=by
   rw [htr.1,Cb hes];simpa using hn
  have hcell:∀(i:Nat) (r:List D) (j:Nat) (x:D),rows[i]? = some r→r[j]? = some x→∃v,cur[i*k+j]? = some v∧Cn V.I V.w x v:=fun i r j x hi hj=>by
   obtain⟨e',h6,h7⟩:=htr.2 i r hi
   have h8:=IT h7 j x hj
   obtain⟨v,h9,h10⟩:=GA h5 (fun r hr=>by
    obtain⟨e2,he2,rfl⟩:=List.mem_map.1 hr
    exact hkk e2 he2) i (eC e') j (.d x) (by simp [h6]) h8
   cases h10 with
   | d h10=>exact⟨v,h9,h10⟩
  have hnm:n≤maxLen:=by
   have h9:=Nat.le_of_ble_eq_true hsm
   have:n≤n*k:=Nat.le_mul_of_pos_right _ (Nat.le_of_ble_eq_true hk0)
   unfold maxLen;omega
  refine⟨_,_,h3,he,hi,rfl,?_⟩
  have hb:(Nw V (V.w.alloc (.cells cur e))).I V.w.heap.size:=.inr rfl
  have hh:(Nw V (V.w.alloc (.cells cur e))).w.heap[V.w.heap.size]? = some (.cells cur e):=BJ _ _
  have := @Cn.l (Nw V (V.w.alloc (.cells cur e))).I (Nw V (V.w.alloc (.cells cur e))).w rows V.w.heap.size 0 k n (fun i j=>cur.getD (i*k+j) undef) hb (by omega) hnm
   (fun i r hi=>Nat.eq_of_beq_eq_true (List.all_eq_true.1 hk _ (List.mem_of_getElem? hi)))
   (fun i r j x hi hj=>by
    obtain⟨v,h6,_⟩:=hcell i r j x hi hj
    simp [World.cell?,hh,h6])
   (fun i r j x hi hj=>by
    obtain⟨v,h6,h7⟩:=hcell i r j x hi hj
    have:cur.getD (i*k+j) undef=v:=by simp [h6]
    rw [this];exact h7.ext he)
  rw [hlen] at this
  exact .d this
theorem A1{t e:TypeId}{k b n:Nat}{z:List Value}{parts:Array (Nat×Operand)}{es:List E}[hl:B3 P t e k b][hz:BR P e z](hp:Cm 0 (parts.toList.map (·.2))=parts.toList)(hn:parts.toList.length=n)
 (hes:Hz f (parts.toList.map (·.2))=some es) (ho:es.all Og=true) (hkk:∀x∈es,(eC x).length=k) (hzk:z.length=k) (hok:z.all Ml=true) (hk0:Nat.ble 1 k=true) (hsm:Nat.ble (n*k) 16777216=true)
 (hK:K (.o (.arr nx k 0 n)) ((nx,.cells e k (es.map eC))::σ) (nx+1)):B2 P TB Γ ⟨d,.buildSlice t n parts,ty,pos,af,g⟩ f σ nx K:=
 CQ fun V ρ h1 h2 h3=>by
  subst h3
  obtain⟨cur,h3,h4,h5⟩:=FR hl.out hz.out hzk hok h1 hp hn hes ho hkk (Nat.le_of_ble_eq_true hsm)
  have hlen:(es.map eC).length=n:=by
   rw [List.length_map,Cb hes];simpa using hn
  have hnm:n≤maxLen:=by
   have h9:=Nat.le_of_ble_eq_true hsm
   have:n≤n*k:=Nat.le_mul_of_pos_right _ (Nat.le_of_ble_eq_true hk0)
   unfold maxLen;omega
  have hrk:∀r∈es.map eC,r.length=k:=fun r hr=>by
   obtain⟨e2,he2,rfl⟩:=List.mem_map.1 hr
   exact hkk e2 he2
  obtain⟨hi,he,hc⟩:=Pa h2 (e:=e) (k:=k) (c:=n) (rows:=es.map eC) (cur:=cur) rfl h4 (by omega) hnm hrk (GA h5 hrk)
  rw [hlen] at hc
  exact⟨_,_,_,_,h3,he,hi,(show Bc _ (.o _) _ from hc),hK⟩
theorem CR{V:View}{ρ:Operand→Value}{fl:List (Nat×Nat)}:∀(ps:List (Nat×Operand)) (es:List E) (qs:List (Nat×List C)),(∀x∈ps.map (·.2),∀e,ev f x=some e→Bc V e (ρ x))→Hz f (ps.map (·.2))=some es→Eo fl ps es=some qs→
 MX V (fl[·]?) (ps.map fun (i,x)=>(i,ρ x)) qs
 | [],es,qs,_,he,h=>by
  injection he with he;subst he
  injection h with h;subst h;trivial
 | (i, x)::ps,es,qs,hρ,he,h=>by
  simp only [List.map_cons,Hz,Option.bind_eq_some_iff,Option.map_eq_some_iff] at he
  obtain⟨e',h1,es',h2,rfl⟩:=he
  simp only [Eo] at h
  split at h
  ·rename_i off size hfl
   cases hb:Nat.beq (eC e').length size && Og e'
   ·rw [hb] at h;cases h
   ·rw [hb] at h
    simp only [cond_true,Option.map_eq_some_iff] at h
    obtain⟨qs',h3,rfl⟩:=h
    rw [Bool.and_eq_true] at hb
    have:=Nat.eq_of_beq_eq_true hb.1
    subst this
    exact⟨hfl,KK hb.2 (hρ x (by simp) e' h1),CR ps es' qs' (fun y hy=>hρ y (by simp at hy ⊢;exact .inr hy)) h2 h3⟩
  ·cases h
theorem AK{t:TypeId}{z:List Value}{fl:List (Nat×Nat)}{parts:Array (Nat×Operand)}{es:List E}{qs:List (Nat×List C)}[hz:BR P t z][hf:Gk P t fl](hes:Hz f (parts.toList.map (·.2))=some es)(hq:Eo fl parts.toList es=some qs)
 (hok:z.all Ml=true) (hle:(qs.all fun x=>Nat.ble (x.1+x.2.length) z.length)=true):AY P TB Γ ⟨d,.build t parts,ty,pos,af,g⟩ f σ nx (.a (BZ qs (z.map zC))):=
 AH fun V ρ h1 _=>by
  obtain⟨i,zv,hi,hzv,hzz⟩:=GU hz.out
  have hfo:=CR (V:=V) (ρ:=ρ) parts.toList es qs (fun x hx e he=>h1.get (by simp only [Op.operands];simpa using hx) he) hes hq
  have hzr:Cp V (z.map zC) zv.cells:=by
   refine⟨by rw [List.length_map,←hzz];simp,fun j c v hj hv=>?_⟩
   simp only [List.getElem?_map,Option.map_eq_some_iff] at hj
   obtain⟨u,hu,rfl⟩:=hj
   have:u=v:=by
    rw [←hzz] at hu
    simp only [Array.getElem?_toList] at hu
    rw [hu] at hv;exact Option.some.inj hv
   subst this
   exact JA (List.all_eq_true.1 hok u (List.mem_of_getElem? hu))
  obtain⟨cells,h3,h4⟩:=E8 _ _ _ _ hfo hzr (fun x hx=>by rw [List.length_map];exact Ii _ _ hle x hx)
  have hh:=hf.out
  have hparts:(parts.map fun (i,x)=>(i,ρ x)).toList=parts.toList.map fun (i,x)=>(i,ρ x):=by simp
  refine⟨.agg cells,?_,cells,rfl,h4⟩
  have hb : (Instr.build t (parts.map fun (i,x)=>(i,ρ x))).run P V.w=.ok (.agg cells) V.w:=by
   unfold ZP at hh
   split at hh
   ·rename_i fs hu
    have hpl:∀(l:List Field) (ll:List (Nat×Nat)),(l.mapM fun f=>(P.info? f.type).map fun i=>(f.offset,i.size))=some ll→∀w,((l.mapM fun f=>do pure (f.offset,←sizeOf f.type)):Sem (List (Nat×Nat))).run P w=.ok ll w:=by
     intro l
     induction l with
     | nil=>intro ll h w;simp at h;subst h;simp [go_sem]
     | cons y l ih=>
      intro ll h w
      simp only [List.mapM_cons,Option.bind_eq_bind,Option.bind_eq_some_iff,Option.map_eq_some_iff] at h
      obtain⟨p,⟨ii,hii,rfl⟩,ll',h5,h6⟩:=h
      simp at h6
      subst h6
      have hs:(sizeOf y.type).run P w=.ok ii.size w:=by simp [sizeOf,typeInfo,hii,go_sem]
      have ihh:=ih ll' h5 w
      simp only [bind_pure_comp] at ihh
      simp only [List.mapM_cons,Sem.run_bind,hs,Result.andThen_ok,bind_pure_comp,Sem.run_map,ihh]
    have hpl2:=hpl fs.toList fl hh V.w
    have hz0:(zeroValue t).run P V.w=.ok zv V.w:=by simp [zeroValue,typeInfo,hi,hzv,go_sem]
    have ha:((fs.mapM fun f=>do pure (f.offset,←sizeOf f.type)):Sem (Array (Nat×Nat))).run P V.w=.ok fl.toArray V.w:=by
     rw [Array.mapM_eq_mapM_toList,Sem.run_map,hpl2];rfl
    rw [←hparts] at h3
    simp only [Instr.build,Sem.run_bind,hz0,Result.andThen_ok,run_underlying hu,ha]
    simp only [List.getElem?_toArray]
    rw [h3]
    rfl
   ·rename_i n e hu
    simp only [Option.map_eq_some_iff] at hh
    obtain⟨ii,hii,rfl⟩:=hh
    have hz0:(zeroValue t).run P V.w=.ok zv V.w:=by simp [zeroValue,typeInfo,hi,hzv,go_sem]
    have hs:(sizeOf e).run P V.w=.ok ii.size V.w:=by simp [sizeOf,typeInfo,hii,go_sem]
    have hfill:∀(ps:List (Nat×Value)) (c c':Array Value),Instr.fill (fun i=>((List.range n).map fun j=>(j*ii.size,ii.size))[i]?) c ps=some c'→Instr.fill (fun i=>some (i*ii.size,ii.size)) c ps=some c':=by
     intro ps
     induction ps with
     | nil=>intro c c' h;simpa [Instr.fill] using h
     | cons p ps ih=>
      intro c c' h
      obtain⟨i',v'⟩:=p
      unfold Instr.fill at h ⊢
      by_cases hlt:i' < n
      ·simp only [List.getElem?_map,List.getElem?_range hlt,Option.map_some] at h
       simp only at h ⊢
       split at h
       ·cases h
       ·rename_i hno
        rw [if_neg hno];exact ih _ _ (by simpa only [List.getElem?_map] using h)
      ·simp [hlt] at h
    rw [←hparts] at h3
    simp only [Instr.build,Sem.run_bind,hz0,Result.andThen_ok,run_underlying hu,hs]
    rw [hfill _ _ _ h3]
    rfl
   ·cases hh
  show ((do let v ←Instr.build t (parts.map fun (i,x)=>(i,ρ x));pure (Next.value v):Sem Next)).run P V.w=_
  simp only [Sem.run_bind,hb,Result.andThen_ok]
  rfl
theorem Iw(k e:Nat)(hK:K (.o (.arr nx k 0 0)) ((nx,.cells e k [])::σ) (nx+1)):B2 P TB Γ ⟨d,.assign (.const (.slice none 0 0)),ty,pos,af,g⟩ f σ nx K:=by
 intro V a h1 h2 h3
 subst h3
 obtain⟨hi,he⟩:=h2.alloc (c:=0) (nl:=True) (w:=V.w) (ob:=.cells e k []) rfl rfl rfl rfl (Nat.le_refl _) (fun _ _=>rfl) (.inl ⟨by simp [Au],rfl⟩)
 unfold Oper.wp
 have hr:(execOp a.eval ⟨d,.assign (.const (.slice none 0 0)),ty,pos,af,g⟩).run P V.w=.ok (.value (.slice none 0 0)) V.w:=by simp [execOp,go_sem]
 rw [hr]
 exact⟨Au V V.w.heap.size 0 True V.w,.slice none 0 0,.o (.arr V.nx k 0 0),_,rfl,rfl,he,hi,AI.nil (by simp [Au]) (by simp [Au]),hK⟩
theorem YV{t:TypeId}{x:Operand}{s:List UInt8}[hl:B6 P t](hx:ev f x=some (eT s)):AY P TB Γ ⟨d,.call ⟨.builtin .len,#[x],#[t]⟩,ty,pos,af,g⟩ f σ nx (eI .i64 s.length):=by
 have:=YU (t:=t) (P:=P) (TB:=TB) (Γ:=Γ) (d:=d) (ty:=ty) (pos:=pos) (af:=af) (g:=g) (σ:=σ) (nx:=nx) hx
 exact this
theorem Vn{t:TypeId}{x y:Operand}{s:List UInt8}{n:Int}{c:UInt8}{ik:IntKind}[hl:B6 P t](hx:ev f x=some (eT s))(hy:ev f y=some (eI ik n))
 (h0:0≤n) (hc:s[n.toNat]? = some c):AY P TB Γ ⟨d,.index t x y,ty,pos,af,g⟩ f σ nx (eI .u8 (c.toNat:Int)):=by
 obtain⟨hlt,rfl⟩:=List.getElem?_eq_some_iff.1 hc
 exact Vm (P:=P) (TB:=TB) (Γ:=Γ) (d:=d) (ty:=ty) (pos:=pos) (af:=af) (g:=g) (σ:=σ) (nx:=nx) hx hy h0 hlt
theorem XI{t yt:TypeId}{x y:Operand}{a b:List UInt8}(hx:ev f x=some (eT a))(hy:ev f y=some (eT b))(hn:a.length+b.length≤9223372036854775807) :
 AY P TB Γ ⟨d,.binOp .add t x y yt,ty,pos,af,g⟩ f σ nx (eT (a++b)):=Bp hx hy rfl fun w=>by
 have h1:¬((((⟨a.toArray⟩:ByteArray).size+(⟨b.toArray⟩:ByteArray).size:Nat):Int) > IntKind.i64.max):=by
  have:IntKind.i64.max=9223372036854775807:=by decide
  have e1:(⟨a.toArray⟩:ByteArray).size=a.length:=by simp [ByteArray.size]
  have e2:(⟨b.toArray⟩:ByteArray).size=b.length:=by simp [ByteArray.size]
  omega
 have h2:(⟨a.toArray⟩:ByteArray)++⟨b.toArray⟩=⟨(a++b).toArray⟩:=by
  apply ByteArray.ext;simp
 have:(do eqGuard .add t x y (.string ⟨a.toArray⟩) (.string ⟨b.toArray⟩);binOp .add t (.string ⟨a.toArray⟩) (.string ⟨b.toArray⟩):Sem Value)=Op.stringOp .add ⟨a.toArray⟩ ⟨b.toArray⟩:=by
  simp [eqGuard,binOp]
 rw [this]
 unfold Op.stringOp
 simp only
 rw [if_neg h1,h2]
 rfl
theorem ax{t yt:TypeId}{x y:Operand}{a b:List UInt8}(hx:ev f x=some (eT a))(hy:ev f y=some (eT b)) :
 AY P TB Γ ⟨d,.binOp .eql t x y yt,ty,pos,af,g⟩ f σ nx (eB (decide (a=b))):=Bp hx hy rfl fun w=>by
 simp [eqGuard,binOp,Op.stringOp,go_sem]
 rw [Bool.eq_iff_iff];simp
theorem aM{t yt:TypeId}{x y:Operand}{a b:List UInt8}(hx:ev f x=some (eT a))(hy:ev f y=some (eT b)) :
 AY P TB Γ ⟨d,.binOp .neq t x y yt,ty,pos,af,g⟩ f σ nx (eB (decide (a≠b))):=Bp hx hy rfl fun w=>by
 simp [eqGuard,binOp,Op.stringOp,go_sem]
 rw [Bool.eq_iff_iff];simp
end
def C.bB:C→Bool
 | .d (.v _)=>true
 | _=>false
def E.sc:E→Bool
 | .o c=>c.bB
 | .a cs=>cs.all C.bB
 | .t xs=>xs.all fun x=>x.2.all C.bB
 | .e=>true
theorem IH{V V':View}{c:C}{v:Value}(h:AI V c v)(hc:c.bB=true):AI V' c v:=by
 cases h with
 | d h=>cases h with
  | v hs=>exact .d (.v hs)
  | _=>cases hc
 | _=>cases hc
theorem Za{V V':View}{e:E}{v:Value}(h:Bc V e v)(hs:e.sc=true):Bc V' e v:=by
 cases e with
 | e=>exact h
 | o c=>exact IH h hs
 | a cs=>
  obtain⟨vs,h1,h2⟩:=h
  exact⟨vs,h1,h2.1,fun j c v hj hv=>IH (h2.2 j c v hj hv) (List.all_eq_true.1 hs c (List.mem_of_getElem? hj))⟩
 | t xs=>
  obtain⟨vs,h1,h2,h3⟩:=h
  refine⟨vs,h1,h2,fun j x v hj hv=>?_⟩
  have h4:=h3 j x v hj hv
  have h5:=List.all_eq_true.1 hs x (List.mem_of_getElem? hj)
  obtain⟨b,cs⟩:=x
  cases b
  ·obtain⟨c,h6,h7⟩:=h4
   have h6:cs=[c]:=h6
   subst h6
   exact⟨c,rfl,IH h7 (List.all_eq_true.1 h5 c (by simp))⟩
  ·obtain⟨ws,h6,h7⟩:=h4
   exact⟨ws,h6,h7.1,fun j c v hj hv=>IH (h7.2 j c v hj hv) (List.all_eq_true.1 h5 c (List.mem_of_getElem? hj))⟩
inductive CV (σ:Ab):C→C→Prop
 | pure {c:C}:c.BK=true→CV σ c c
 | arr {id k off len:Nat} {T:TypeId} {rows:List (List C)} {ds:List (List D)}:look σ id=some (.cells T k rows)→off+len≤rows.length→(rows.drop off).take len=ds.map (fun r=>r.map .d)→CV σ (.arr id k off len) (.d (.l ds))
 | ptr {id k i j:Nat} {T:TypeId} {rows:List (List C)} {r:List C} {ds:List D}:look σ id=some (.cells T k rows)→rows[i]? = some r→r.drop j=ds.map .d→CV σ (.ptr id k i j) (.ip ds)
inductive EV (σ:Ab):E→E→Prop
 | o {c c':C}:CV σ c c'→EV σ (.o c) (.o c')
 | nil:EV σ (.a []) (.a [])
 | cons {c c':C} {cs cs':List C}:CV σ c c'→EV σ (.a cs) (.a cs')→EV σ (.a (c::cs)) (.a (c'::cs'))
inductive XM (σ:Ab):List E→List E→Prop
 | nil:XM σ [] []
 | cons {e e':E} {es es':List E}:EV σ e e'→XM σ es es'→XM σ (e::es) (e'::es')
def Fc(V:View)(σ:Ab):View:={ V with I:=fun b=>V.I b∨∃id o,look σ id=some o∧¬V.nl id∧DC V id o b,nx:=0 }
section
variable {P:Program}{TB:Bw}{Γ:Ctx}{d:Option Tmp}{ty:TypeId}{pos:String}{af:Array Edge}{g:Option (Nat×Bool)}{f:Env}{σ:Ab}{nx:Nat}
variable {K:E→Ab→Nat→Prop}
theorem AI.ZZ{V:View}{c:C}{v:Value}(h:AI V c v)(hp:c.BK=true):AI (Fc V σ) c v:=by
 induction h with
 | d h=>exact .d (h.mono (fun _ h=>.inl h) fun _ _=>rfl)
 | nil=>simp [C.BK] at hp
 | arr=>simp [C.BK] at hp
 | ptr=>simp [C.BK] at hp
 | fn h1 _ ih=>
  simp only [C.BK] at hp
  exact .fn h1 fun j c v hj hv=>ih j c v hj hv (Er _ hp j c hj)
 | mp=>simp [C.BK] at hp
 | mv h1 _ ih=>
  simp only [C.BK] at hp
  exact .mv h1 fun j c v hj hv=>ih j c v hj hv (Er _ hp j c hj)
theorem Cn.ZY{V:View}{x:D}{v:Value}(h:Cn V.I V.w x v):Cn (Fc V σ).I (Fc V σ).w x v:=h.mono (fun _ h=>.inl h) fun _ _=>rfl
theorem CV.rel{V:View}(hi:Inv TB Γ V σ){c c':C}{v:Value}(h:CV σ c c')(hc:AI V c v):AI (Fc V σ) c' v:=by
 cases h with
 | pure hp=>exact hc.ZZ hp
 | @arr id k off len T rows ds hl hle hr=>
  cases hc with
  | nil h1 h2=>
   have:ds=[]:=by
    have:=congrArg List.length hr
    simp at this
    exact List.length_eq_zero_iff.1 this.symm
   subst this
   exact .d .nil
  | arr h1 hnl h2=>
   rcases hi.st.obj id _ hl with ⟨h4,_⟩|⟨_,cur,h4,h5,h6,h7,h8,h9⟩
   ·exact absurd h4 hnl
   ·have hlen:ds.length=len:=by
     have:=congrArg List.length hr
     simp at this;omega
    have hget:∀(i:Nat) (r:List D),ds[i]? = some r→rows[off+i]? = some (r.map .d):=fun i r hi=>by
     have h10:((rows.drop off).take len)[i]? = some (r.map .d):=by rw [hr];simp [hi]
     rw [List.getElem?_take] at h10
     split at h10
     ·rwa [List.getElem?_drop] at h10
     ·cases h10
    have hcell:∀(i:Nat) (r:List D) (j:Nat) (x:D),ds[i]? = some r→r[j]? = some x→∃v,cur[(off+i)*k+j]? = some v∧Cn V.I V.w x v:=fun i r j x hi hj=>by
     obtain⟨v,h11,h12⟩:=h9 (off+i) (r.map .d) j (.d x) (hget i r hi) (by simp [hj])
     cases h12 with
     | d h12=>exact⟨v,h11,h12⟩
    rw [←hlen] at h2 ⊢
    refine .d (.l (b:=V.ρ id) (o:=off*k) (k:=k) (vs:=fun i j=>cur.getD ((off+i)*k+j) undef) (.inr ⟨id,_,hl,hnl,rfl⟩) (by omega) (by omega) (fun i r hi=>?_) (fun i r j x hi hj=>?_) (fun i r j x hi hj=>?_))
    ·have:=h8 _ (List.mem_of_getElem? (hget i r hi))
     simpa using this
    ·obtain⟨v,h11,_⟩:=hcell i r j x hi hj
     have e:off*k+i*k+j=(off+i)*k+j:=by rw [Nat.add_mul]
     rw [e]
     have:(Fc V σ).w.heap[V.ρ id]? = some (.cells cur T):=h4
     simp [World.cell?,this,h11]
    ·obtain⟨v,h11,h12⟩:=hcell i r j x hi hj
     have:cur.getD ((off+i)*k+j) undef=v:=by simp [h11]
     simp only [this]
     exact h12.ZY
 | @ptr id k i j T rows r ds hl hri hr=>
  cases hc with
  | ptr h1 hnl=>
   rcases hi.st.obj id _ hl with ⟨h4,_⟩|⟨_,cur,h4,h5,h6,h7,h8,h9⟩
   ·exact absurd h4 hnl
   ·have hget:∀(q:Nat) (x:D),ds[q]? = some x→r[j+q]? = some (.d x):=fun q x hq=>by
     have h10:(r.drop j)[q]? = some (.d x):=by rw [hr];simp [hq]
     rwa [List.getElem?_drop] at h10
    have hcell:∀(q:Nat) (x:D),ds[q]? = some x→∃v,cur[i*k+j+q]? = some v∧Cn V.I V.w x v:=fun q x hq=>by
     obtain⟨v,h11,h12⟩:=h9 i r (j+q) (.d x) hri (hget q x hq)
     cases h12 with
     | d h12=>exact⟨v,by rw [Nat.add_assoc];exact h11,h12⟩
    refine .ip (V:=Fc V σ) (vs:=fun q=>cur.getD (i*k+j+q) undef) (.inr ⟨id,_,hl,hnl,rfl⟩) (fun q x hq=>?_) (fun q x hq=>?_)
    ·obtain⟨v,h11,_⟩:=hcell q x hq
     have:(Fc V σ).w.heap[V.ρ id]? = some (.cells cur T):=h4
     simp [World.cell?,this,h11]
    ·obtain⟨v,h11,h12⟩:=hcell q x hq
     have:cur.getD (i*k+j+q) undef=v:=by simp [h11]
     simp only [this]
     exact h12.ZY
theorem EV.rel{V:View}(hi:Inv TB Γ V σ){e e':E}(h:EV σ e e'):∀ {v:Value},Bc V e v→Bc (Fc V σ) e' v:=by
 have key:∀ {e e':E},EV σ e e'→(∀c c',e=.o c→e'=.o c'→CV σ c c')∧(∀cs cs',e=.a cs→e'=.a cs'→cs.length=cs'.length∧∀(j:Nat) c c',cs[j]? = some c→cs'[j]? = some c'→CV σ c c')∧((∃c c',e=.o c∧e'=.o c')∨∃cs cs',e=.a cs∧e'=.a cs'):=by
  intro e e' h
  induction h with
  | o hc=>exact⟨fun c c' h1 h2=>(by injection h1 with h1;injection h2 with h2;subst h1 h2;exact hc),fun _ _ h=>(by cases h),.inl ⟨_,_,rfl,rfl⟩⟩
  | nil=>exact⟨fun _ _ h=>(by cases h),fun cs cs' h1 h2=>(by injection h1 with h1;injection h2 with h2;subst h1 h2;exact⟨rfl,fun j c c' hj=>(by simp at hj)⟩),.inr ⟨_,_,rfl,rfl⟩⟩
  | cons hc _ ih=>
   refine⟨fun _ _ h=>(by cases h),fun cs cs' h1 h2=>?_,.inr ⟨_,_,rfl,rfl⟩⟩
   injection h1 with h1;injection h2 with h2;subst h1 h2
   have:=ih.2.1 _ _ rfl rfl
   refine⟨by simp [this.1],fun j c c' hj hj'=>?_⟩
   cases j with
   | zero=>simp at hj hj';subst hj hj';exact hc
   | succ j=>exact this.2 j c c' (by simpa using hj) (by simpa using hj')
 intro v hv
 obtain⟨k1,k2,k3⟩:=key h
 rcases k3 with ⟨c,c',rfl,rfl⟩|⟨cs,cs',rfl,rfl⟩
 ·exact(k1 c c' rfl rfl).rel hi hv
 ·obtain⟨vs,rfl,h1,h2⟩:=hv
  obtain⟨k4,k5⟩:=k2 cs cs' rfl rfl
  refine⟨vs,rfl,by rw [h1,k4],fun j c' u hj hu=>?_⟩
  have hlt:j < cs.length:=by rw [k4];exact(List.getElem?_eq_some_iff.1 hj).1
  exact(k5 j cs[j] c' (List.getElem?_eq_getElem hlt) hj).rel hi (h2 j _ u (List.getElem?_eq_getElem hlt) hu)
theorem Ib{x:Operand}{args:Array Operand}{tys:Array TypeId}{gg:FuncId}{vs:Array Value}(hf:XN P gg){ρ:Operand→Value}(hv:ρ x=.func (.func gg) #[] vs)(w:World) :
 (execOp ρ ⟨d,.call ⟨.value x,args,tys⟩,ty,pos,af,g⟩).run P w=.ok (.enter gg (args.map ρ++vs)) w:=by
 obtain⟨fn,h1,h2,h3⟩:=hf
 have hb:∃c,fn.body=some c:=by cases hb:fn.body with|none=>rw [hb] at h3;cases h3|some c=>exact⟨c,rfl⟩
 obtain⟨c,hb⟩:=hb
 simp only [execOp,resolve,hv,Deferred.ofValue,pure_bind,invoke,callFunc]
 have h2':¬fn.name = "runtime.NumGoroutine" := by simpa using h2
 simp [Sem.run,program,h1,h2',hb,go_sem]
theorem Gp{V:View}{ρ:Operand→Value}{args:List Operand}{es:List E}(h:∀x∈args,∀e,ev f x=some e→Bc V e (ρ x))(hes:Hz f args=some es) :
 ∀(j:Nat) e v,es[j]? = some e→(args.map ρ)[j]? = some v→Bc V e v:=by
 intro j e v hj hv
 simp only [List.getElem?_map,Option.map_eq_some_iff] at hv
 obtain⟨x,hx,rfl⟩:=hv
 exact h x (List.mem_of_getElem? hx) e (Rp hes j x e hx hj)
theorem Jf{V:View}{gg:FuncId}{cap:List C}{v:Value}(h:Bc V (.o (.fn gg cap)) v):∃vs,v=.func (.func gg) #[] vs∧Cp V cap vs:=by
 have h:AI V (.fn gg cap) v:=h
 generalize hc:C.fn gg cap=c at h
 cases h<;>cases hc
 rename_i vs h1 h2
 exact⟨vs,rfl,h1,h2⟩
theorem KA{V Vc V1:View}{S:PD}(h:Inv TB Γ V σ)(hS:LK TB V σ S)(hSJ:∀b,S.J b→Γ.J b∨Γ.V.w.heap.size≤b∨Γ.F b)(hSB:∀b,S.B b→Γ.V.w.heap.size≤b∨Γ.F b)(hw:Vc.w=V.w){σ1:Ab}(h1:Inv TB (EO Vc Vc [] S) V1 σ1)(I':Nat→Prop)(hI1:∀b,V.I b→I' b)(hI2:∀b,I' b→V.I b∨(V.w.heap.size≤b∧b < V1.w.heap.size)∨S.B b)
 (hI3:∀b,V1.I b→(V.w.heap.size≤b∨S.B b)→I' b) (hI4:∀b,I' b→V1.I b) :
 Inv TB Γ { V with I:=I',w:=V1.w } σ∧Ext V { V with I:=I',w:=V1.w } := by
 have hold:∀b,b < V.w.heap.size→¬S.B b→V1.w.heap[b]? = V.w.heap[b]?:=fun b hb hn=>by
  have:=h1.old b (by show b < Vc.w.heap.size;rw [hw];exact hb) (fun h=>h.elim (fun ⟨_,_,h,_⟩=>by cases h) hn)
  rw [this];show Vc.w.heap[b]? = _;rw [hw]
 have hsz:V.w.heap.size≤V1.w.heap.size:=by have hE:Vc.w.heap.size≤V1.w.heap.size:=h1.ext.size;rw [hw] at hE;exact hE
 have e:Ext V { V with I:=I',w:=V1.w } := ⟨hI1,fun b hb=>hold b (h.iLt b hb) fun hx=>hS.bi b hx hb,hsz,fun _ _=>rfl,fun _ _=>rfl,fun _ _=>Iff.rfl,Nat.le_refl _⟩
 refine⟨⟨?_,?_,?_,fun b hb hf=>(hold b (Nat.lt_of_lt_of_le hb h.ext.size) fun hx=>(hSB b hx).elim (fun h=>by omega) hf).trans (h.old b hb hf),?_,?_,h.ext.trans e,⟨?_,h.st.lt,?_,h.st.inj⟩,h.live,?_,?_⟩,e⟩
 ·have hE:V1.w.os=Vc.w.os:=h1.os
  rw [hw] at hE;exact hE.trans h.os
 ·have hE:V1.w.tape=Vc.w.tape:=h1.tape
  rw [hw] at hE;exact hE.trans h.tape
 ·have hE:V1.w.output=Vc.w.output:=h1.output
  rw [hw] at hE;exact hE.trans h.output
 ·intro b hb
  rcases hI2 b hb with h2|h2|h2
  ·exact Nat.lt_of_lt_of_le (h.iLt b h2) hsz
  ·exact h2.2
  ·exact Nat.lt_of_lt_of_le (hS.r.blt h2) hsz
 ·intro b hb
  rcases hI2 b hb with h2|h2|h2
  ·exact h.iNew b h2
  ·exact .inr (.inl (Nat.le_trans h.ext.size h2.1))
  ·exact .inr (hSB b h2)
 ·intro id o hl
  exact(h.st.obj id o hl).Bb e (h.st.lt id o hl) fun hn b hb=>hold _ ((h.st.obj id o hl).blt hn hb) (hS.ap b ⟨id,o,hl,hn,hb⟩)
 ·intro id o hl hn b hb' hb
  have hb':=(AG e (h.st.lt id o hl)).1 hb'
  rcases hI2 _ hb with h2|h2|h2
  ·exact h.st.free id o hl hn b hb' h2
  ·have:=(h.st.obj id o hl).blt hn hb'
   have h3:V.w.heap.size≤b:=h2.1
   omega
  ·exact hS.ap b ⟨id,o,hl,hn,hb'⟩ h2
 ·intro x hx
  have:=h.tabs x hx
  exact⟨hI1 _ this.1,(hold _ (h.iLt _ this.1) fun hy=>hS.bi _ hy this.1).trans this.2⟩
 ·obtain⟨S1,k1,k2,k3⟩:=h1.hid
  have hB:∀b,S1.B b→V.w.heap.size≤b∨S.B b:=fun b hb=>by
   rcases k3 b hb with h2|h2|h2
   ·have h2:Vc.w.heap.size≤b:=h2
    rw [hw] at h2;exact .inl h2
   ·obtain⟨_,_,h,_⟩:=h2;cases h
   ·exact .inr h2
  have hJ:∀b,S1.J b→S.J b∨V.w.heap.size≤b∨S.B b:=fun b hb=>by
   rcases k2 b hb with h2|h2|h2|h2
   ·exact .inl h2
   ·have h2:Vc.w.heap.size≤b:=h2
    rw [hw] at h2;exact .inr (.inl h2)
   ·obtain⟨_,_,h,_⟩:=h2;cases h
   ·exact .inr (.inr h2)
  refine⟨S1,⟨k1.r,fun b hb=>?_,fun b hb hi=>k1.bi b hb (hI4 b hi),fun b hf hb=>?_⟩,fun b hb=>?_,fun b hb=>?_⟩
  ·rcases hJ b hb with h2|h2
   ·exact hI1 b (hS.ji b h2)
   ·exact hI3 b (k1.ji b hb) h2
  ·obtain⟨id,o,hl,hn,hb'⟩:=GB e h.st.lt hf
   rcases hB b hb with h2|h2
   ·have:=(h.st.obj id o hl).blt hn hb'
    omega
   ·exact hS.ap b ⟨id,o,hl,hn,hb'⟩ h2
  ·rcases hJ b hb with h2|h2|h2
   ·exact hSJ b h2
   ·exact .inr (.inl (Nat.le_trans h.ext.size h2))
   ·exact .inr (hSB b h2)
  ·rcases hB b hb with h2|h2
   ·exact .inl (Nat.le_trans h.ext.size h2)
   ·exact hSB b h2
theorem FV{V:View}:HZ V []:=⟨fun _ _ h=>(by cases h),fun _ _ h=>(by cases h),fun _ _ h=>(by cases h),fun _ _ _ _ h=>(by cases h)⟩
theorem BE{x:Operand}{args:Array Operand}{tys:Array TypeId}{gg:FuncId}{cap:List C}{es:List E}{r:E}(hx:ev f x=some (.o (.fn gg cap)))(hes:Hz f args.toList=some es)(hp:(es.all E.BK && C.Cr cap)=true)
 (hs:Pure P TB gg (es++cap.map .o) r) (hr:r.BK=true):AY P TB Γ ⟨d,.call ⟨.value x,args,tys⟩,ty,pos,af,g⟩ f σ nx r:=by
 intro V a h1 h2 h3
 have h1:=h1.Gz
 unfold Oper.wp
 generalize a.eval=ρ at h1 ⊢
 obtain⟨vs,hv,hcap⟩:=Jf (h1.get (x:=x) (by simp [Op.operands,Call.operands]) hx)
 rw [Ib hs.1 hv]
 rw [Bool.and_eq_true] at hp
 have hel:=Cb hes
 have hargs:LJ { V with nx:=0 } (es++cap.map .o) (args.map ρ++vs):=by
  refine⟨by simp [hcap.1,hel],fun j e v hj hv=>?_⟩
  have hsz:(args.map ρ).size=es.length:=by simp [hel]
  by_cases hlt:j < es.length
  ·rw [List.getElem?_append_left hlt] at hj
   rw [Array.getElem?_append_left (by rw [hsz];exact hlt)] at hv
   refine Bc.BK (V:=V) (V':={ V with nx:=0 }) rfl rfl (Gp (fun y hy e he=>h1.get (by simp [Op.operands,Call.operands];right;simpa using hy) he) hes j e v hj (by rw [←Array.toList_map];simpa using hv)) (List.all_eq_true.1 hp.1 e (List.mem_of_getElem? hj))
  ·rw [List.getElem?_append_right (by omega)] at hj
   rw [Array.getElem?_append_right (by rw [hsz];omega),hsz] at hv
   simp only [List.getElem?_map,Option.map_eq_some_iff] at hj
   obtain⟨c,hc,rfl⟩:=hj
   exact AI.BK (V:=V) (V':={ V with nx:=0 }) rfl rfl (hcap.2 _ c v hc hv) (Er _ hp.2 _ c hc)
 obtain⟨S,hS,hSJ,hSB⟩:=h2.hid
 refine(hs.2 { V with nx:=0 } _ S ⟨h2.iLt,FV,h2.tabs,rfl,⟨hS.r,hS.ji,hS.bi,fun b ⟨_,_,h,_⟩=>by cases h⟩⟩ hargs).mono ?_
 rintro e w' ⟨V1,v,x1,σ1,rfl,rfl,hi1,hx1,rfl⟩
 obtain⟨hi',he'⟩:=KA h2 hS hSJ hSB (Vc:={ V with nx:=0 }) rfl hi1 V1.I (fun b hb=>hi1.ext.i b hb) (fun b hb=>by
  rcases hi1.iNew b hb with h|h|h|h
  ·exact .inl h
  ·exact .inr (.inl ⟨h,hi1.iLt b hb⟩)
  ·obtain⟨_,_,h,_⟩:=h;cases h
  ·exact .inr (.inr h)) (fun b hb _=>hb) (fun b hb=>hb)
 exact⟨{ V with I:=V1.I,w:=V1.w },v,rfl,rfl,he',hi',h3,Bc.BK (V:=V1) (V':={ V with I:=V1.I,w:=V1.w }) rfl rfl hx1 hr⟩
theorem FP{x:Operand}{args:Array Operand}{tys:Array TypeId}{gg:FuncId}{cap:List C}{es es':List E}{r:E}(hx:ev f x=some (.o (.fn gg cap)))(hes:Hz f args.toList=some es)(hv:XM σ (es++cap.map .o) es')
 (hs:Pure P TB gg es' r) (hr:r.sc=true):AY P TB Γ ⟨d,.call ⟨.value x,args,tys⟩,ty,pos,af,g⟩ f σ nx r:=by
 intro V a h1 h2 h3
 have h1:=h1.Gz
 unfold Oper.wp
 generalize a.eval=ρ at h1 ⊢
 obtain⟨vs,hvv,hcap⟩:=Jf (h1.get (x:=x) (by simp [Op.operands,Call.operands]) hx)
 rw [Ib hs.1 hvv]
 have hel:=Cb hes
 have hargs0:LJ V (es++cap.map .o) (args.map ρ++vs):=by
  refine⟨by simp [hcap.1,hel],fun j e v hj hv=>?_⟩
  have hsz:(args.map ρ).size=es.length:=by simp [hel]
  by_cases hlt:j < es.length
  ·rw [List.getElem?_append_left hlt] at hj
   rw [Array.getElem?_append_left (by rw [hsz];exact hlt)] at hv
   exact Gp (fun y hy e he=>h1.get (by simp [Op.operands,Call.operands];right;simpa using hy) he) hes j e v hj (by rw [←Array.toList_map];simpa using hv)
  ·rw [List.getElem?_append_right (by omega)] at hj
   rw [Array.getElem?_append_right (by rw [hsz];omega),hsz] at hv
   simp only [List.getElem?_map,Option.map_eq_some_iff] at hj
   obtain⟨c,hc,rfl⟩:=hj
   exact hcap.2 _ c v hc hv
 have hvs:∀ {l l':List E},XM σ l l'→l.length=l'.length∧∀(j:Nat) e e',l[j]? = some e→l'[j]? = some e'→EV σ e e':=by
  intro l l' h
  induction h with
  | nil=>exact⟨rfl,fun j e e' hj=>by simp at hj⟩
  | cons h _ ih=>
   refine⟨by simp [ih.1],fun j e e' hj hj'=>?_⟩
   cases j with
   | zero=>simp at hj hj';subst hj hj';exact h
   | succ j=>exact ih.2 j e e' (by simpa using hj) (by simpa using hj')
 obtain⟨hlen,hget⟩:=hvs hv
 have hargs:LJ (Fc V σ) es' (args.map ρ++vs):=by
  refine⟨by rw [hargs0.1,hlen],fun j e v hj hv=>?_⟩
  have hlt:j < (es++cap.map E.o).length:=by rw [hlen];exact(List.getElem?_eq_some_iff.1 hj).1
  exact(hget j _ e (List.getElem?_eq_getElem hlt) hj).rel h2 (hargs0.2 j _ v (List.getElem?_eq_getElem hlt) hv)
 have hlt:∀b,(Fc V σ).I b→b < (Fc V σ).w.heap.size:=by
  rintro b (hb|⟨id,o,hl,hn,hb⟩)
  ·exact h2.iLt b hb
  ·exact(h2.st.obj id o hl).blt hn hb
 obtain⟨S,hS,hSJ,hSB⟩:=h2.hid
 refine(hs.2 (Fc V σ) _ S ⟨hlt,FV,fun x hx=>⟨.inl (h2.tabs x hx).1,(h2.tabs x hx).2⟩,rfl,⟨hS.r,fun b hb=>.inl (hS.ji b hb),fun b hb hi=>hi.elim (hS.bi b hb) fun ⟨id,o,hl,hn,hx⟩=>hS.ap b ⟨id,o,hl,hn,hx⟩ hb,fun b ⟨_,_,h,_⟩=>by cases h⟩⟩ hargs).mono ?_
 rintro e w' ⟨V1,v,x1,σ1,rfl,rfl,hi1,hx1,rfl⟩
 obtain⟨hi',he'⟩:=KA h2 hS hSJ hSB (Vc:=Fc V σ) rfl hi1 (fun b=>V.I b∨(V.w.heap.size≤b∨S.B b)∧V1.I b) (fun b hb=>.inl hb) (fun b hb=>hb.elim .inl fun h=>.inr (h.1.elim (fun g=>.inl ⟨g,hi1.iLt b h.2⟩) .inr)) (fun b h1 h2=>.inr ⟨h2,h1⟩) (fun b hb=>hb.elim (fun h=>hi1.ext.i b (.inl h)) fun h=>h.2)
 exact⟨{ V with I:=fun b=>V.I b∨(V.w.heap.size≤b∨S.B b)∧V1.I b,w:=V1.w },v,rfl,rfl,he',hi',h3,Za hx1 hr⟩
end
def BV:List Nat→Ab→Ab
 | [],σ=>σ
 | id::r,σ=>BV r (kill id σ)
theorem A9:∀(ids:List Nat) (σ:Ab) (i:Nat) (o:O),look (BV ids σ) i=some o→i∉ids∧look σ i=some o
 | [],σ,i,o,h=>⟨by simp,h⟩
 | id :: r,σ,i,o,h=>by
  obtain⟨h1,h2⟩:=A9 r (kill id σ) i o h
  rw [Dt] at h2
  by_cases hi:i=id
  ·rw [if_pos hi] at h2;cases h2
  ·rw [if_neg hi] at h2
   exact⟨by simp [hi,h1],h2⟩
inductive FC (σ:Ab) (ids:List Nat):C→C→Prop
 | Bb {c:C}:FC σ ids c c
 | arr {id k off len:Nat} {T:TypeId} {rows:List (List C)} {ds:List (List D)}:id∈ids→look σ id=some (.cells T k rows)→off+len≤rows.length→(rows.drop off).take len=ds.map (fun r=>r.map .d)→FC σ ids (.arr id k off len) (.d (.l ds))
 | ptr {id k i j:Nat} {T:TypeId} {rows:List (List C)} {r:List C} {ds:List D}:id∈ids→look σ id=some (.cells T k rows)→rows[i]? = some r→r.drop j=ds.map .d→FC σ ids (.ptr id k i j) (.ip ds)
inductive FE (σ:Ab) (ids:List Nat):E→E→Prop
 | Bb {e:E}:FE σ ids e e
 | o {c c':C}:FC σ ids c c'→FE σ ids (.o c) (.o c')
 | nil:FE σ ids (.a []) (.a [])
 | cons {c c':C} {cs cs':List C}:FC σ ids c c'→FE σ ids (.a cs) (.a cs')→FE σ ids (.a (c::cs)) (.a (c'::cs'))
def CY(σ:Ab)(ids:List Nat)(f:Env):List (Nat×E)→Prop
 | []=>True
 | (t,e')::L=>(∃e,f t=some e∧FE σ ids e e')∧CY σ ids f L
theorem CY.get{σ:Ab}{ids:List Nat}{f:Env}:∀ {L:List (Nat×E)},CY σ ids f L→∀t e',look L t=some e'→∃e,f t=some e∧FE σ ids e e'
 | [],_,t,e,h=>by cases h
 | (k,x)::L,hs,t,e,h=>by
  rw [Ax] at h
  by_cases hk:k=t
  ·rw [if_pos hk] at h;injection h with h;subst h;subst hk;exact hs.1
  ·rw [if_neg hk] at h;exact CY.get hs.2 t e h
def Jh(V:View)(σ:Ab)(ids:List Nat):View:={ V with I:=fun b=>V.I b∨∃id o,id∈ids∧look σ id=some o∧¬V.nl id∧DC V id o b }
section
variable {P:Program}{TB:Bw}{Γ:Ctx}{N:Nat}{σ:Ab}
theorem Kh{V:View}{ids:List Nat}:Ext V (Jh V σ ids):=⟨fun _ h=>.inl h,fun _ _=>rfl,Nat.le_refl _,fun _ _=>rfl,fun _ _=>rfl,fun _ _=>Iff.rfl,Nat.le_refl _⟩
theorem FC.rel{V:View}(hi:Inv TB Γ V σ){ids:List Nat}{c c':C}{v:Value}(h:FC σ ids c c')(hc:AI V c v):AI (Jh V σ ids) c' v:=by
 have e:Ext V (Jh V σ ids):=Kh
 cases h with
 | Bb=>exact hc.ext e
 | @arr id k off len T rows ds hm hl hle hr=>
  cases hc with
  | nil h1 h2=>
   have:ds=[]:=by
    have:=congrArg List.length hr
    simp at this
    exact List.length_eq_zero_iff.1 this.symm
   subst this
   exact .d .nil
  | arr h1 hnl h2=>
   rcases hi.st.obj id _ hl with ⟨h4,_⟩|⟨_,cur,h4,h5,h6,h7,h8,h9⟩
   ·exact absurd h4 hnl
   ·have hlen:ds.length=len:=by
     have:=congrArg List.length hr
     simp at this;omega
    have hget:∀(i:Nat) (r:List D),ds[i]? = some r→rows[off+i]? = some (r.map .d):=fun i r hi=>by
     have h10:((rows.drop off).take len)[i]? = some (r.map .d):=by rw [hr];simp [hi]
     rw [List.getElem?_take] at h10
     split at h10
     ·rwa [List.getElem?_drop] at h10
     ·cases h10
    have hcell:∀(i:Nat) (r:List D) (j:Nat) (x:D),ds[i]? = some r→r[j]? = some x→∃v,cur[(off+i)*k+j]? = some v∧Cn V.I V.w x v:=fun i r j x hi hj=>by
     obtain⟨v,h11,h12⟩:=h9 (off+i) (r.map .d) j (.d x) (hget i r hi) (by simp [hj])
     cases h12 with
     | d h12=>exact⟨v,h11,h12⟩
    rw [←hlen] at h2 ⊢
    refine .d (.l (b:=V.ρ id) (o:=off*k) (k:=k) (vs:=fun i j=>cur.getD ((off+i)*k+j) undef) (.inr ⟨id,_,hm,hl,hnl,rfl⟩) (by omega) (by omega) (fun i r hi=>?_) (fun i r j x hi hj=>?_) (fun i r j x hi hj=>?_))
    ·have:=h8 _ (List.mem_of_getElem? (hget i r hi))
     simpa using this
    ·obtain⟨v,h11,_⟩:=hcell i r j x hi hj
     have e:off*k+i*k+j=(off+i)*k+j:=by rw [Nat.add_mul]
     rw [e]
     have:(Jh V σ ids).w.heap[V.ρ id]? = some (.cells cur T):=h4
     simp [World.cell?,this,h11]
    ·obtain⟨v,h11,h12⟩:=hcell i r j x hi hj
     have:cur.getD ((off+i)*k+j) undef=v:=by simp [h11]
     simp only [this]
     exact h12.ext e
 | @ptr id k i j T rows r ds hm hl hri hr=>
  cases hc with
  | ptr h1 hnl=>
   rcases hi.st.obj id _ hl with ⟨h4,_⟩|⟨_,cur,h4,h5,h6,h7,h8,h9⟩
   ·exact absurd h4 hnl
   ·have hget:∀(q:Nat) (x:D),ds[q]? = some x→r[j+q]? = some (.d x):=fun q x hq=>by
     have h10:(r.drop j)[q]? = some (.d x):=by rw [hr];simp [hq]
     rwa [List.getElem?_drop] at h10
    have hcell:∀(q:Nat) (x:D),ds[q]? = some x→∃v,cur[i*k+j+q]? = some v∧Cn V.I V.w x v:=fun q x hq=>by
     obtain⟨v,h11,h12⟩:=h9 i r (j+q) (.d x) hri (hget q x hq)
     cases h12 with
     | d h12=>exact⟨v,by rw [Nat.add_assoc];exact h11,h12⟩
    refine .ip (V:=Jh V σ ids) (vs:=fun q=>cur.getD (i*k+j+q) undef) (.inr ⟨id,_,hm,hl,hnl,rfl⟩) (fun q x hq=>?_) (fun q x hq=>?_)
    ·obtain⟨v,h11,_⟩:=hcell q x hq
     have:(Jh V σ ids).w.heap[V.ρ id]? = some (.cells cur T):=h4
     simp [World.cell?,this,h11]
    ·obtain⟨v,h11,h12⟩:=hcell q x hq
     have:cur.getD (i*k+j+q) undef=v:=by simp [h11]
     simp only [this]
     exact h12.ext e
theorem FE.rel{V:View}(hi:Inv TB Γ V σ){ids:List Nat}{e e':E}(h:FE σ ids e e'):∀ {v:Value},Bc V e v→Bc (Jh V σ ids) e' v:=by
 induction h with
 | Bb=>intro v hv;exact hv.ext Kh
 | o hc=>intro v hv;exact hc.rel hi hv
 | nil=>intro v hv;obtain⟨vs,rfl,h1,_⟩:=hv;exact⟨vs,rfl,h1,fun j c v hj=>by simp at hj⟩
 | @cons c c' cs cs' hc _ ih=>
  rintro v ⟨vs,rfl,h1,h2⟩
  have hsz:0 < vs.size:=by rw [h1];simp
  have ht:=@ih (.agg (vs.extract 1 vs.size)) ⟨_,rfl,by simp [h1],fun j c v hj hv=>h2 (j+1) c v (by simpa using hj) (by
   rw [Array.getElem?_extract] at hv
   split at hv
   ·rw [Nat.add_comm] at hv;exact hv
   ·cases hv)⟩
  obtain⟨ws,h3,h4,h5⟩:=ht
  injection h3 with h3
  subst h3
  refine⟨vs,rfl,by simp at h4 ⊢;omega,fun j c2 v hj hv=>?_⟩
  cases j with
  | zero=>
   simp at hj;subst hj
   exact hc.rel hi (h2 0 c v (by simp) hv)
  | succ j=>
   refine h5 j c2 v (by simpa using hj) ?_
   have hlt:=(Array.getElem?_eq_some_iff.1 hv).1
   rw [Array.getElem?_extract,if_pos (by omega),Nat.add_comm];exact hv
theorem BM.freeze{V:View}{f:Env}{nx:Nat}{a:Act}(h:BM TB Γ N V f σ nx a)(ids:List Nat)(L:List (Nat×E))(hE:CY σ ids f L):BM TB Γ N (Jh V σ ids) (look L) (BV ids σ) nx a:=by
 have e:Ext V (Jh V σ ids):=Kh
 refine⟨fun t x hx=>?_,fun t x hx=>?_,h.size,?_,h.nx,h.defers⟩
 ·obtain⟨y,h1,h2⟩:=hE.get t x hx
  exact h2.rel h.inv (h.env t y h1)
 ·obtain⟨y,h1,_⟩:=hE.get t x hx
  exact h.lt t y h1
 ·have hi:=h.inv
  refine⟨hi.os,hi.tape,hi.output,hi.old,?_,?_,hi.ext.trans e,⟨?_,?_,?_,?_⟩,?_,fun x hx=>⟨.inl (hi.tabs x hx).1,(hi.tabs x hx).2⟩,hi.hid.same rfl (fun _ h=>.inl h) (fun b hb=>hb.elim .inl fun ⟨id,o,_,hl,hn,he⟩=>.inr ⟨id,o,hl,hn,he⟩) fun b ⟨id,o,hl,hn,hb⟩=>have h2:=(A9 ids σ id o hl).2;⟨id,o,h2,hn,(AG e (hi.st.lt id o h2)).1 hb⟩⟩
  ·rintro b (hb|⟨id,o,_,hl,hn,hb⟩)
   ·exact hi.iLt b hb
   ·exact(hi.st.obj id o hl).blt hn hb
  ·rintro b (hb|⟨id,o,_,hl,hn,hb⟩)
   ·exact hi.iNew b hb
   ·exact .inr (hi.live id o hl hn b hb)
  ·intro id o hl
   have:=(A9 ids σ id o hl).2
   exact(hi.st.obj id o this).Bb e (hi.st.lt id o this) fun _ _ _=>rfl
  ·intro id o hl;exact hi.st.lt id o (A9 ids σ id o hl).2
  ·intro id o hl hn b hb' hb
   obtain⟨h1,h2⟩:=A9 ids σ id o hl
   have hb':=(AG e (hi.st.lt id o h2)).1 hb'
   rcases hb with hb|⟨id',o',hm,hl',hn',he⟩
   ·exact hi.st.free id o h2 hn b hb' hb
   ·exact hi.st.inj id id' o o' h2 hl' (fun e=>h1 (e ▸ hm)) hn hn' b hb' he
  ·intro id id' o o' hl hl' hne hn hn' b hb hb'
   have h2:=(A9 ids σ id o hl).2
   have h2':=(A9 ids σ id' o' hl').2
   exact hi.st.inj id id' o o' h2 h2' hne hn hn' b ((AG e (hi.st.lt id o h2)).1 hb) ((AG e (hi.st.lt id' o' h2')).1 hb')
  ·intro id o hl hn b hb
   have h2:=(A9 ids σ id o hl).2
   exact hi.live id o h2 hn b ((AG e (hi.st.lt id o h2)).1 hb)
theorem FC.full{ids:List Nat}{id k len:Nat}{T:TypeId}{rows:List (List C)}{ds:List (List D)}(hm:id∈ids)(hl:look σ id=some (.cells T k rows))(hr:rows=ds.map (fun r=>r.map .d))(hn:rows.length=len):FC σ ids (.arr id k 0 len) (.d (.l ds)):=
 .arr hm hl (by omega) (by rw [List.drop_zero,←hn,List.take_length];exact hr)
theorem CV.full{id k len:Nat}{T:TypeId}{rows:List (List C)}{ds:List (List D)}(hl:look σ id=some (.cells T k rows))(hr:rows=ds.map (fun r=>r.map .d))(hn:rows.length=len):CV σ (.arr id k 0 len) (.d (.l ds)):=
 .arr hl (by omega) (by rw [List.drop_zero,←hn,List.take_length];exact hr)
theorem Ak.freeze{c:Code}{Q:Exit→Env→Ab→Nat→Prop}{f:Env}{nx:Nat}(ids:List Nat)(L:List (Nat×E))(hE:CY σ ids f L)(h:Ak P TB Γ N c Q (look L) (BV ids σ) nx):Ak P TB Γ N c Q f σ nx:=
 fun V a hr=>h (Jh V σ ids) a (hr.freeze ids L hE)
end
def Gi(l:List Nat)(nx:Nat)(i:Nat):Nat:=match l[i]? with|some j=>j|none=>nx+(i - l.length)
theorem YI{l:List Nat}{nx i:Nat}(h:i < l.length):Gi l nx i=l[i]:=by unfold Gi;rw [List.getElem?_eq_getElem h]
theorem YH{l:List Nat}{nx i:Nat}(h:l.length≤i):Gi l nx i=nx+(i - l.length):=by unfold Gi;rw [List.getElem?_eq_none h]
theorem FJ{l:List Nat}{nx i:Nat}(h:i < l.length):nm l nx i=l[i]:=by unfold nm;rw [List.getElem?_eq_getElem h]
def Ab.AX(r:Nat→Nat):Ab→Ab
 | []=>[]
 | (i,o)::σ=>(r i,o.AX r)::Ab.AX r σ
theorem KZ{r:Nat→Nat}:∀ {σ:Ab} {i:Nat} {o:O},look (σ.AX r) i=some o→∃j o0,r j=i∧look σ j=some o0∧o=o0.AX r
 | [],i,o,h=>by cases h
 | (k,x)::σ,i,o,h=>by
  simp only [Ab.AX] at h
  rw [Ax] at h
  by_cases hk:r k=i
  ·rw [if_pos hk] at h
   injection h with h
   exact⟨k,x,hk,by rw [Ax,if_pos rfl],h.symm⟩
  ·rw [if_neg hk] at h
   obtain⟨j,o0,h1,h2,h3⟩:=KZ h
   refine⟨j,o0,h1,?_,h3⟩
   rw [Ax,if_neg (fun e=>hk (by rw [e];exact h1))]
   exact h2
theorem GJ{α:Type}:∀ {l m:List (Nat×α)} {i:Nat} {o:α},look (l++m) i=some o→look l i=some o∨look m i=some o
 | [],m,i,o,h=>.inr h
 | (k,x)::l,m,i,o,h=>by
  simp only [List.cons_append] at h
  rw [Ax] at h ⊢
  by_cases hk:k=i
  ·rw [if_pos hk] at h ⊢;exact .inl h
  ·rw [if_neg hk] at h ⊢;exact GJ h
structure PC (V V':View) (r:Nat→Nat):Prop where
 I:V'.I=V.I
 w:V'.w=V.w
 lt:∀id,id < V.nx→r id < V'.nx
 ρ:∀id,id < V.nx→V'.ρ (r id)=V.ρ id
 cap:∀id,id < V.nx→V'.cap (r id)=V.cap id
 nl:∀id,id < V.nx→(V'.nl (r id)↔V.nl id)
theorem AI.push{V V':View}{r:Nat→Nat}(hp:PC V V' r){c:C}{v:Value}(h:AI V c v):AI V' (c.AX r) v:=by
 induction h with
 | d h=>exact .d (by rw [hp.I,hp.w];exact h)
 | @nil id k h1 h2=>exact .nil (hp.lt id h1) ((hp.nl id h1).2 h2)
 | @arr id k off len h1 h0 h2=>
  rw [←hp.ρ id h1,←hp.cap id h1]
  exact .arr (hp.lt id h1) (fun h=>h0 ((hp.nl id h1).1 h)) (by rw [hp.cap id h1];exact h2)
 | @ptr id k i j h1 h0=>
  rw [←hp.ρ id h1]
  exact .ptr (hp.lt id h1) (fun h=>h0 ((hp.nl id h1).1 h))
 | fn h1 _ ih=>
  refine .fn (by rw [h1,BX]) fun j c v hj hv=>?_
  rw [De,Option.map_eq_some_iff] at hj
  obtain⟨c0,hc0,rfl⟩:=hj
  exact ih j c0 v hc0 hv
 | @mp id h1=>rw [←hp.ρ id h1];exact .mp (hp.lt id h1)
 | mv h1 _ ih=>
  refine .mv (by rw [h1,BX]) fun j c v hj hv=>?_
  rw [De,Option.map_eq_some_iff] at hj
  obtain⟨c0,hc0,rfl⟩:=hj
  exact ih j c0 v hc0 hv
theorem Cp.push{V V':View}{r:Nat→Nat}(hp:PC V V' r){cs:List C}{vs:Array Value}(h:Cp V cs vs):Cp V' (C.BA r cs) vs:=
 ⟨by rw [h.1,BX],fun j c v hj hv=>by
  rw [De,Option.map_eq_some_iff] at hj
  obtain⟨c0,hc0,rfl⟩:=hj
  exact(h.2 j c0 v hc0 hv).push hp⟩
theorem Bc.push{V V':View}{r:Nat→Nat}(hp:PC V V' r){e:E}{v:Value}(h:Bc V e v):Bc V' (e.AX r) v:=by
 cases e with
 | e=>exact h
 | o c=>exact AI.push hp h
 | a cs=>obtain⟨vs,h1,h2⟩:=h;exact⟨vs,h1,h2.push hp⟩
 | t xs=>
  obtain⟨vs,h1,h2,h3⟩:=h
  refine⟨vs,h1,by rw [h2];simp,fun j x v hj hv=>?_⟩
  rw [List.getElem?_map,Option.map_eq_some_iff] at hj
  obtain⟨⟨b,cs⟩,hx,rfl⟩:=hj
  have h4:=h3 j (b,cs) v hx hv
  cases b
  ·obtain⟨c,h5,h6⟩:=h4
   have h5:cs=[c]:=h5
   subst h5
   exact⟨c.AX r,rfl,h6.push hp⟩
  ·obtain⟨ws,h5,h6⟩:=h4
   exact⟨ws,h5,h6.push hp⟩
theorem B8.push{V V':View}{r:Nat→Nat}(hp:PC V V' r){id:Nat}(hid:id < V.nx){o:O}(h:B8 V id o):B8 V' (r id) (o.AX r):=by
 cases o with
 | cells T k rows=>
  rcases h with ⟨h1,h2⟩|⟨h0,cur,h2,h3,h4,h5,h6,h7⟩
  ·exact .inl ⟨(hp.nl id hid).2 h1,by simp [h2]⟩
  ·refine .inr ⟨fun h=>h0 ((hp.nl id hid).1 h),cur,by rw [hp.w,hp.ρ id hid];exact h2,by rw [hp.cap id hid];exact h3,by rw [hp.cap id hid];simpa using h4,by rw [hp.cap id hid];exact h5,fun x hx=>?_,fun i x j c hi hj=>?_⟩
   ·obtain⟨y,hy,rfl⟩:=List.mem_map.1 hx
    rw [BX];exact h6 y hy
   ·rw [List.getElem?_map,Option.map_eq_some_iff] at hi
    obtain⟨y,hy,rfl⟩:=hi
    rw [De,Option.map_eq_some_iff] at hj
    obtain⟨c0,hc0,rfl⟩:=hj
    obtain⟨v,h8,h9⟩:=h7 i y j c0 hy hc0
    exact⟨v,h8,h9.push hp⟩
 | mp es=>
  obtain⟨h0,ents,clock,h1,h2⟩:=h
  exact⟨fun h=>h0 ((hp.nl id hid).1 h),ents,clock,by rw [hp.w,hp.ρ id hid];exact h1,h2⟩
 | sld T l=>exact⟨fun h'=>h.1 ((hp.nl id hid).1 h'),by rw [hp.w];exact h.2⟩
theorem BU{V V':View}{r:Nat→Nat}(hp:PC V V' r){id:Nat}(hid:id < V.nx){o:O}{b:Nat}:DC V' (r id) (o.AX r) b↔DC V id o b:=by
 cases o<;>simp [DC,O.AX,hp.ρ id hid]
def E6(V V1:View)(l:List Nat):View:=
 {I:=V1.I,w:=V1.w,nx:=V.nx+(V1.nx - l.length),
  ρ:=fun i=>if i < V.nx then V.ρ i else V1.ρ (i - V.nx+l.length),
  cap:=fun i=>if i < V.nx then V.cap i else V1.cap (i - V.nx+l.length),
  nl:=fun i=>if i < V.nx then V.nl i else V1.nl (i - V.nx+l.length) }
section
variable {P:Program}{TB:Bw}{Γ:Ctx}{d:Option Tmp}{ty:TypeId}{pos:String}{af:Array Edge}{g:Option (Nat×Bool)}{f:Env}{σ:Ab}{nx:Nat}
variable {K:E→Ab→Nat→Prop}
theorem Hu{V V1:View}{l:List Nat}(hl:∀i∈l,i < V.nx)(e:Ext (V.AX (nm l V.nx) l.length) V1):PC V1 (E6 V V1 l) (Gi l V.nx):=by
 have hlen:l.length≤V1.nx:=e.nx
 have key:∀id,(∃h:id < l.length,Gi l V.nx id=l[id]∧l[id] < V.nx)∨l.length≤id∧Gi l V.nx id=V.nx+(id - l.length):=fun id=>by
  by_cases h:id < l.length
  ·exact .inl ⟨h,YI h,hl _ (List.getElem_mem h)⟩
  ·exact .inr ⟨by omega,YH (by omega)⟩
 refine⟨rfl,rfl,fun id h=>?_,fun id h=>?_,fun id h=>?_,fun id h=>?_⟩
 ·show _ < V.nx+(V1.nx - l.length)
  rcases key id with ⟨h1,h2,h3⟩|⟨h1,h2⟩
  ·rw [h2];omega
  ·rw [h2];omega
 ·show (if _ then _ else _)=_
  rcases key id with ⟨h1,h2,h3⟩|⟨h1,h2⟩
  ·rw [h2,if_pos h3,e.ρ id h1];show _=V.ρ (nm l V.nx id);rw [FJ h1]
  ·rw [h2,if_neg (by omega)];congr 1;omega
 ·show (if _ then _ else _)=_
  rcases key id with ⟨h1,h2,h3⟩|⟨h1,h2⟩
  ·rw [h2,if_pos h3,e.cap id h1];show _=V.cap (nm l V.nx id);rw [FJ h1]
  ·rw [h2,if_neg (by omega)];congr 1;omega
 ·show (if _ then _ else _)↔_
  rcases key id with ⟨h1,h2,h3⟩|⟨h1,h2⟩
  ·rw [h2,if_pos h3,e.nl id h1];show _↔V.nl (nm l V.nx id);rw [FJ h1]
  ·rw [h2,if_neg (by omega)]
   have:V.nx+(id - l.length) - V.nx+l.length=id:=by omega
   rw [this]
theorem TX{V V1:View}{l:List Nat}{σ0 σ1:Ab}(h:Inv TB Γ V σ)(hl:∀i∈l,i < V.nx)(hS:AS (nm l V.nx) σ σ0)
 {S:PD} (hSS:LK TB V σ S) (hSJ:∀b,S.J b→Γ.J b∨Γ.V.w.heap.size≤b∨Γ.F b) (hSB:∀b,S.B b→Γ.V.w.heap.size≤b∨Γ.F b)
 (h1:Inv TB (EO (V.AX (nm l V.nx) l.length) (V.AX (nm l V.nx) l.length) σ0 S) V1 σ1) :
 Inv TB Γ (E6 V V1 l) (σ1.AX (Gi l V.nx)++BV l σ)∧Ext V (E6 V V1 l):=by
 have hp:=Hu hl h1.ext
 have hlen:l.length≤V1.nx:=h1.ext.nx
 have hsz:V.w.heap.size≤V1.w.heap.size:=h1.ext.size
 have hfoot:∀b,C5 (V.AX (nm l V.nx) l.length) σ0 b→∃i o,i∈l∧look σ i=some o∧¬V.nl i∧DC V i o b:=by
  rintro b ⟨j,o,hj,hnl,hb⟩
  have h2:=hS.get j o hj
  have h3:=OV (h.st.lt _ _ h2)
  have h4:=FJ (nx:=V.nx) h3
  refine⟨l[j],o.AX _,List.getElem_mem h3,by rw [←h4];exact h2,?_,?_⟩
  ·have:¬V.nl (nm l V.nx j):=hnl
   rwa [h4] at this
  ·have h5:=B9.1 hb
   rwa [h4] at h5
 have hfl:∀b,C5 (V.AX (nm l V.nx) l.length) σ0 b→b < V.w.heap.size∧¬V.I b∧(Γ.V.w.heap.size≤b∨Γ.F b):=by
  intro b hb
  obtain⟨i,o,_,h3,h4,h5⟩:=hfoot b hb
  exact⟨(h.st.obj i o h3).blt h4 h5,h.st.free i o h3 h4 b h5,h.live i o h3 h4 b h5⟩
 have hkeep:∀i o,i∉l→look σ i=some o→¬V.nl i→∀b,DC V i o b→¬C5 (V.AX (nm l V.nx) l.length) σ0 b:=by
  intro i o hi ho hnl b hb hf
  obtain⟨j,o',h3,h4,h5,h6⟩:=hfoot _ hf
  exact h.st.inj j i o' o h4 ho (fun e=>hi (e ▸ h3)) h5 hnl b h6 hb
 have hold:∀b,b < V.w.heap.size→¬C5 (V.AX (nm l V.nx) l.length) σ0 b→¬S.B b→V1.w.heap[b]? = V.w.heap[b]?:=fun b hb hf hB=>h1.old b hb fun h=>h.elim hf hB
 have e:Ext V (E6 V V1 l):=by
  refine⟨fun b hb=>h1.ext.i b hb,fun b hb=>h1.ext.heap b hb,hsz,fun i hi=>?_,fun i hi=>?_,fun i hi=>?_,Nat.le_add_right _ _⟩
  ·show (if _ then _ else _)=_;rw [if_pos hi]
  ·show (if _ then _ else _)=_;rw [if_pos hi]
  ·show (if _ then _ else _)↔_;rw [if_pos hi]
 have hcase:∀i o,look (σ1.AX (Gi l V.nx)++BV l σ) i=some o→(∃j o0,j < V1.nx∧Gi l V.nx j=i∧look σ1 j=some o0∧o=o0.AX (Gi l V.nx))∨(i∉l∧i < V.nx∧look σ i=some o):=by
  intro i o ho
  rcases GJ ho with h2|h2
  ·obtain⟨j,o0,h3,h4,h5⟩:=KZ h2
   exact .inl ⟨j,o0,h1.st.lt j o0 h4,h3,h4,h5⟩
  ·obtain⟨h3,h4⟩:=A9 l σ i o h2
   exact .inr ⟨h3,h.st.lt i o h4,h4⟩
 have hnlr:∀i,i < V.nx→((E6 V V1 l).nl i↔V.nl i):=fun i hi=>e.nl i hi
 have hnew:∀j o0,look σ1 j=some o0→¬V1.nl j→∀i o,i∉l→look σ i=some o→¬V.nl i→∀b,DC V1 j o0 b→¬DC V i o b:=by
  intro j o0 hj hnj i o hi ho hni b hb hb'
  rcases h1.live j o0 hj hnj b hb with h2|h2
  ·have:=(h.st.obj i o ho).blt hni hb'
   have h2:V.w.heap.size≤b:=h2
   omega
  ·rcases h2 with h2|h2
   ·exact hkeep i o hi ho hni b hb' h2
   ·exact hSS.ap b ⟨i,o,ho,hni,hb'⟩ h2
 refine⟨⟨h1.os.trans h.os,h1.tape.trans h.tape,h1.output.trans h.output,?_,h1.iLt,?_,h.ext.trans e,⟨?_,?_,?_,?_⟩,?_,h1.tabs,?_⟩,e⟩
 ·intro b hb hf
  have:¬C5 (V.AX (nm l V.nx) l.length) σ0 b:=fun hb'=>by
   rcases(hfl b hb').2.2 with h2|h2
   ·omega
   ·exact hf h2
  exact(hold b (Nat.lt_of_lt_of_le hb h.ext.size) this fun hx=>(hSB b hx).elim (fun h=>by omega) hf).trans (h.old b hb hf)
 ·intro b hb
  rcases h1.iNew b hb with h2|h2|h2
  ·exact h.iNew b h2
  ·exact .inr (.inl (Nat.le_trans h.ext.size h2))
  ·exact .inr (h2.elim (fun h2=>(hfl b h2).2.2) (hSB b))
 ·intro i o ho
  rcases hcase i o ho with ⟨j,o0,h2,rfl,h4,rfl⟩|⟨h2,h3,h4⟩
  ·exact(h1.st.obj j o0 h4).push hp h2
  ·exact(h.st.obj i o h4).Bb e h3 fun hn b hb=>hold _ ((h.st.obj i o h4).blt hn hb) (hkeep i o h2 h4 hn b hb) (hSS.ap b ⟨i,o,h4,hn,hb⟩)
 ·intro i o ho
  rcases hcase i o ho with ⟨j,o0,h2,rfl,h4,rfl⟩|⟨h2,h3,h4⟩
  ·exact hp.lt j h2
  ·exact Nat.lt_of_lt_of_le h3 e.nx
 ·intro i o ho hn b hb hI
  rcases hcase i o ho with ⟨j,o0,h2,rfl,h4,rfl⟩|⟨h2,h3,h4⟩
  ·exact h1.st.free j o0 h4 (fun h=>hn ((hp.nl j h2).2 h)) b ((BU hp h2).1 hb) hI
  ·have hn':¬V.nl i:=fun h=>hn ((hnlr i h3).2 h)
   have hb:=(AG e h3).1 hb
   rcases h1.iNew _ hI with h5|h5|h5
   ·exact h.st.free i o h4 hn' b hb h5
   ·have:=(h.st.obj i o h4).blt hn' hb
    have h5:V.w.heap.size≤b:=h5
    omega
   ·rcases h5 with h5|h5
    ·exact hkeep i o h2 h4 hn' b hb h5
    ·exact hSS.ap b ⟨i,o,h4,hn',hb⟩ h5
 ·intro i i' o o' ho ho' hne hn hn' b hb hb'
  rcases hcase i o ho with ⟨j,o0,h2,rfl,h4,rfl⟩|⟨h2,h3,h4⟩<;>rcases hcase i' o' ho' with ⟨j',o0',h2',rfl,h4',rfl⟩|⟨h2',h3',h4'⟩
  ·exact h1.st.inj j j' o0 o0' h4 h4' (fun e=>hne (by rw [e])) (fun h=>hn ((hp.nl j h2).2 h)) (fun h=>hn' ((hp.nl j' h2').2 h)) b ((BU hp h2).1 hb) ((BU hp h2').1 hb')
  ·exact hnew j o0 h4 (fun h=>hn ((hp.nl j h2).2 h)) i' o' h2' h4' (fun h=>hn' ((hnlr i' h3').2 h)) b ((BU hp h2).1 hb) ((AG e h3').1 hb')
  ·exact hnew j' o0' h4' (fun h=>hn' ((hp.nl j' h2').2 h)) i o h2 h4 (fun h=>hn ((hnlr i h3).2 h)) b ((BU hp h2').1 hb') ((AG e h3).1 hb)
  ·exact h.st.inj i i' o o' h4 h4' hne (fun h=>hn ((hnlr i h3).2 h)) (fun h=>hn' ((hnlr i' h3').2 h)) b ((AG e h3).1 hb) ((AG e h3').1 hb')
 ·intro i o ho hn b hb
  rcases hcase i o ho with ⟨j,o0,h2,rfl,h4,rfl⟩|⟨h2,h3,h4⟩
  ·rcases h1.live j o0 h4 (fun h=>hn ((hp.nl j h2).2 h)) b ((BU hp h2).1 hb) with h5|h5
   ·exact .inl (Nat.le_trans h.ext.size h5)
   ·exact h5.elim (fun h5=>(hfl _ h5).2.2) (hSB b)
  ·exact h.live i o h4 (fun h=>hn ((hnlr i h3).2 h)) b ((AG e h3).1 hb)
 ·obtain⟨S1,k1,k2,k3⟩:=h1.hid
  refine⟨S1,⟨k1.r,k1.ji,k1.bi,fun b ⟨i,o,ho,hn,hb⟩ hB=>?_⟩,fun b hb=>?_,fun b hb=>?_⟩
  ·rcases hcase i o ho with ⟨j,o0,h2,rfl,h4,rfl⟩|⟨h2,h3,h4⟩
   ·exact k1.ap b ⟨j,o0,h4,fun h=>hn ((hp.nl j h2).2 h),(BU hp h2).1 hb⟩ hB
   ·have hn':¬V.nl i:=fun h=>hn ((hnlr i h3).2 h)
    have hb:=(AG e h3).1 hb
    rcases k3 b hB with h5|h5|h5
    ·have:=(h.st.obj i o h4).blt hn' hb
     have h5:V.w.heap.size≤b:=h5
     omega
    ·exact hkeep i o h2 h4 hn' b hb h5
    ·exact hSS.ap b ⟨i,o,h4,hn',hb⟩ h5
  ·rcases k2 b hb with h5|h5|h5|h5
   ·exact hSJ b h5
   ·exact .inr (.inl (Nat.le_trans h.ext.size h5))
   ·exact .inr (hfl _ h5).2.2
   ·exact .inr (hSB b h5)
  ·rcases k3 b hb with h5|h5|h5
   ·exact .inl (Nat.le_trans h.ext.size h5)
   ·exact(hfl _ h5).2.2
   ·exact hSB b h5
def Dn(r:Nat→Nat):List E→List E
 | []=>[]
 | e::l=>e.AX r::Dn r l
theorem Jt(r:Nat→Nat):∀(l:List E) (j:Nat),(Dn r l)[j]? = (l[j]?).map (E.AX r)
 | [],j=>by simp [Dn]
 | c::l,0=>by simp [Dn]
 | c::l,j+1=>by simpa [Dn] using Jt r l j
theorem FQ(r:Nat→Nat):∀(l:List E),(Dn r l).length=l.length
 | []=>rfl
 | c::l=>by simp [Dn,FQ r l]
theorem AD{x:Operand}{args:Array Operand}{tys:Array TypeId}{gg:FuncId}{cap:List C}{es es0:List E}{σ0:Ab}{n0:Nat}{post:E→Ab→Nat→Prop}(l:List Nat)(hx:ev f x=some (.o (.fn gg cap)))(hes:Hz f args.toList=some es)
 (hs:Spec P TB gg σ0 n0 es0 post) (hl:l.length=n0∧l.Nodup∧∀i∈l,i < nx) (ha:es++cap.map .o=Dn (nm l nx) es0) (hS:AS (nm l nx) σ σ0)
 (hK:∀x0 σ1 nx1,post x0 σ1 nx1→l.length≤nx1→K (x0.AX (Gi l nx)) (σ1.AX (Gi l nx)++BV l σ) (nx+(nx1 - l.length))) :
 B2 P TB Γ ⟨d,.call ⟨.value x,args,tys⟩,ty,pos,af,g⟩ f σ nx K:=by
 obtain⟨hl0,hn,hlt⟩:=hl
 subst hl0
 intro V a h1 h2 h3
 subst h3
 have h1:=h1.Gz
 unfold Oper.wp
 generalize a.eval=ρ at h1 ⊢
 obtain⟨vs,hv,hcap⟩:=Jf (h1.get (x:=x) (by simp [Op.operands,Call.operands]) hx)
 rw [Ib hs.1 hv]
 have hel:=Cb hes
 have hargs0:LJ V (es++cap.map .o) (args.map ρ++vs):=by
  refine⟨by simp [hcap.1,hel],fun j e v hj hv=>?_⟩
  have hsz:(args.map ρ).size=es.length:=by simp [hel]
  by_cases hlt:j < es.length
  ·rw [List.getElem?_append_left hlt] at hj
   rw [Array.getElem?_append_left (by rw [hsz];exact hlt)] at hv
   exact Gp (fun y hy e he=>h1.get (by simp [Op.operands,Call.operands];right;simpa using hy) he) hes j e v hj (by rw [←Array.toList_map];simpa using hv)
  ·rw [List.getElem?_append_right (by omega)] at hj
   rw [Array.getElem?_append_right (by rw [hsz];omega),hsz] at hv
   simp only [List.getElem?_map,Option.map_eq_some_iff] at hj
   obtain⟨c,hc,rfl⟩:=hj
   exact hcap.2 _ c v hc hv
 have hr:∀id,nm l V.nx id < V.nx→id < l.length:=fun id=>OV
 have hargs:LJ (V.AX (nm l V.nx) l.length) es0 (args.map ρ++vs):=by
  rw [ha] at hargs0
  refine⟨by rw [hargs0.1,FQ],fun j e v hj hv=>?_⟩
  exact(hargs0.2 j (e.AX (nm l V.nx)) v (by rw [Jt,hj];rfl) hv).AX hr
 have hidl:∀id o,look σ0 id=some o→id < l.length:=fun id o ho=>hr id (h2.st.lt _ _ (hS.get id o ho))
 obtain⟨S,hSS,hSJ,hSB⟩:=h2.hid
 have hgood:Good TB (V.AX (nm l V.nx) l.length) σ0 l.length S:=by
  refine⟨h2.iLt,⟨fun id o ho=>B8.AX hr (h2.st.obj _ _ (hS.get id o ho)),hidl,fun id o ho hnl b hb=>h2.st.free _ _ (hS.get id o ho) hnl b (B9.1 hb),?_⟩,h2.tabs,rfl,⟨hSS.r,hSS.ji,hSS.bi,fun b ⟨id,o,ho,hnl,hb⟩=>hSS.ap b ⟨_,_,hS.get id o ho,hnl,B9.1 hb⟩⟩⟩
  intro id id' o o' ho ho' hne hnl hnl' b hb hb'
  refine h2.st.inj _ _ _ _ (hS.get id o ho) (hS.get id' o' ho') ?_ hnl hnl' b (B9.1 hb) (B9.1 hb')
  have h3:=hidl id o ho
  have h4:=hidl id' o' ho'
  rw [FJ h3,FJ h4]
  intro he
  have hp:=List.pairwise_iff_getElem.1 hn
  rcases Nat.lt_or_gt_of_ne hne with h5|h5
  ·exact hp _ _ h3 h4 h5 he
  ·exact hp _ _ h4 h3 h5 he.symm
 refine(hs.2 _ _ S hgood hargs).mono ?_
 rintro e w' ⟨V1,v,x1,σ1,rfl,rfl,hi1,hx1,hpost⟩
 obtain⟨hi',he'⟩:=TX h2 hlt hS hSS hSJ hSB hi1
 exact⟨E6 V V1 l,v,x1.AX (Gi l V.nx),_,rfl,rfl,he',hi',hx1.push (Hu hlt hi1.ext),hK x1 σ1 V1.nx hpost hi1.ext.nx⟩
end
end Go.Am
