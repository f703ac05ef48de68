/-
  Maps keyed by numbers, with numbers.
-/
import Derived.Test.YtkdilmleinnfiaaGreatDoorPart5
import Derived.Test.YtkdilmleinnfiaaGreatDoorPart14
import Derived.Test.YtkdilmleinnfiaaGreatDoorPart9
import Derived.Test.YtkdilmleinnfiaaGreatDoorPart8
set_option linter.constructorNameAsVariable false
set_option linter.unusedSectionVars false
set_option linter.unusedSimpArgs false
set_option linter.unusedVariables false
namespace Go.Am
open Go
set_option linter.unusedVariables false
variable {P:Program}{TB:Bw}{Γ:Ctx}{d:Option Tmp}{ty:TypeId}{pos:String}{af:Array Edge}{g:Option (Nat×Bool)}{f:Env}{σ:Ab}{nx:Nat}
variable {K:E→Ab→Nat→Prop}
def HG(l:List (Int×Int)):List (Value×Value):=l.map fun p=>(.int .i64 p.1,.int .i64 p.2)
def ED(l:List (Int×Int))(s:Int):Option Int:=(l.find? fun p=>decide (p.1=s)).map (·.2)
theorem Jb{i64:IntKind}(s:Int):∀(l:List (Int×Int)) (es:List MapEntry) (i:Nat),es.map (fun e=>(e.key,e.val))=HG l→∃r,Instr.findNow (.int i64) (.int .i64 s) es i=some r∧r.map (·.2)=(ED l s).map (.int .i64)
 | [],es,i,h=>by
  have:es=[]:=by simpa [HG] using h
  subst this
  exact⟨none,rfl,rfl⟩
 | p :: l,es,i,h=>by
  cases es with
  | nil=>simp [HG] at h
  | cons e es=>
   simp only [HG,List.map_cons,List.cons.injEq,Prod.mk.injEq] at h
   obtain⟨⟨hk,hv⟩,hr⟩:=h
   have hs:Instr.sameNow (.int i64) (.int .i64 s) e.key=some (decide (s=p.1)):=by
    rw [hk]
    show (if IntKind.i64=IntKind.i64 then some (s == p.1) else none)=_
    rw [if_pos rfl]
    exact congrArg some (by rw [Bool.eq_iff_iff];simp)
   unfold Instr.findNow
   rw [hs]
   by_cases h2:s=p.1
   ·refine⟨some (i,e.val),by simp [h2],?_⟩
    simp [ED,h2,hv]
   ·obtain⟨r,h3,h4⟩:=Jb (i64:=i64) s l es (i+1) hr
    have h5:¬p.1=s:=fun e=>h2 e.symm
    refine⟨r,by simp [h2,h3],?_⟩
    rw [h4]
    simp [ED,h5]
theorem Ms{k:TypeId}{q:IntKind}(hk:P.underlying k=some (.int q))(b:Bool)(s:Int)(w:World):(Instr.checkKey b 10000 k (.int q s)).run P w=.ok () w:=by
 rw [show 10000=9999+1 from rfl]
 unfold Instr.checkKey
 simp [run_underlying hk,go_sem]
theorem RI{t k e:TypeId}{x y:Operand}{id:Nat}{l:List (Int×Int)}{s:Int}[hm:Ey P t k e][hk:EK P k .i64][hz:JD P e (.int .i64 0)](hx:ev f x=some (.o (.mp id)))(hy:ev f y=some (eI .i64 s))(ho:look σ id=some (.mp (HG l))) :
 AY P TB Γ ⟨d,.lookup t x y true,ty,pos,af,g⟩ f σ nx (.t [(false,[.d (.v (.int .i64 ((ED l s).getD 0)))]),(false,[.d (.v (.bool (ED l s).isSome))])]):=
 AH fun V ρ hr hi=>by
  have e1:=hr.get (by simp [Op.operands]) hx
  have e2:ρ y=.int .i64 s:=AI.val (hr.get (by simp [Op.operands]) hy)
  generalize hv:ρ x=v at e1
  cases e1 with
  | mp hid =>
   obtain⟨hn,ents,clock,h1,h2⟩:=hi.st.obj id _ ho
   obtain⟨r,h3,h4⟩:=Jb (i64:=.i64) s l ents.toList 0 h2
   have hzz:=hz.out
   simp only [Option.bind_eq_some_iff] at hzz
   obtain⟨i,hi1,hz1⟩:=hzz
   have hzv:(zeroValue e).run P V.w=.ok (.int .i64 0) V.w:=by simp [zeroValue,typeInfo,hi1,hz1,go_sem]
   have hfk:(Instr.findKey k (.int .i64 s) ents.toList).run P V.w=.ok r V.w:=by simp [Instr.findKey,run_underlying hk.out,h3,go_sem]
   have hck:=Ms hk.out ents.isEmpty s V.w
   refine⟨.tuple #[.int .i64 ((ED l s).getD 0),.bool (ED l s).isSome],?_,⟨_,rfl,rfl,fun j x v hj hv=>?_⟩⟩
   ·cases r with
    | none=>
     have h5:ED l s=none:=by simpa using h4.symm
     simp [execOp,hv,e2,Instr.lookup,run_underlying hm.out,MapKept.run_getObj_map h1,hck,hfk,hzv,h5,go_sem]
    | some q=>
     obtain⟨n,h5,h6⟩:∃n,ED l s=some n∧q.2=.int .i64 n:=by
      cases hf:ED l s with
      | none=>rw [hf] at h4;simp at h4
      | some n=>rw [hf] at h4;exact⟨n,rfl,by simpa using h4⟩
     obtain⟨q1,q2⟩:=q
     simp only at h6
     subst h6
     simp [execOp,hv,e2,Instr.lookup,run_underlying hm.out,MapKept.run_getObj_map h1,hck,hfk,h5,go_sem]
   ·match j with
    | 0=>simp at hj hv;subst hj;subst hv;exact⟨_,rfl,.d (.v rfl)⟩
    | 1=>simp at hj hv;subst hj;subst hv;exact⟨_,rfl,.d (.v rfl)⟩
    | j+2=>simp at hj
theorem UQ{t k e:TypeId}{x y z:Operand}{id:Nat}{l:List (Int×Int)}{s:Int}{n:Int}[hm:Ey P t k e][hk:EK P k .i64](hx:ev f x=some (.o (.mp id)))(hy:ev f y=some (eI .i64 s))(hz:ev f z=some (eI .i64 n))(ho:look σ id=some (.mp (HG l)))
 (hn:ED l s=none) (hK:K (.t []) ((id,.mp (HG (l++[(s,n)])))::σ) nx):B2 P TB Γ ⟨d,.mapUpdate t x y z,ty,pos,af,g⟩ f σ nx K:=by
 intro V a h1 h2 h3
 have h1:=h1.Gz
 unfold Oper.wp
 generalize a.eval=ρ at h1 ⊢
 have e1:=h1.get (x:=x) (by simp [Op.operands]) hx
 have e2:ρ y=.int .i64 s:=AI.val (h1.get (by simp [Op.operands]) hy)
 have e3:ρ z=.int .i64 n:=AI.val (h1.get (by simp [Op.operands]) hz)
 generalize hv:ρ x=v at e1
 cases e1 with
 | mp hid=>
  obtain⟨hnl,ents,clock,h4,h5⟩:=h2.st.obj id _ ho
  obtain⟨r,h6,h7⟩:=Jb (i64:=.i64) s l ents.toList 0 h5
  rw [hn] at h7
  have hr:r=none:=by cases r with
   | none=>rfl
   | some q=>simp at h7
  subst hr
  have hfk:(Instr.findKey k (.int .i64 s) ents.toList).run P V.w=.ok none V.w:=by simp [Instr.findKey,run_underlying hk.out,h6,go_sem]
  have hck:=Ms hk.out false s V.w
  let ob:Obj:=.map (ents.push { key:=.int .i64 s,val:=.int .i64 n,born:=clock }) (clock+1)
  let w':World:={ V.w with heap:=V.w.heap.setIfInBounds (V.ρ id) ob }
  have hset:=MapKept.run_setObj_map (P:=P) ob h4
  have hlt:=(Array.getElem?_eq_some_iff.1 h4).1
  obtain⟨hi,he⟩:=h2.write ho hnl (w:=w') (ob':=.mp (HG (l++[(s,n)]))) rfl rfl rfl rfl rfl (by simp [w']) (fun b hb=>by simp [w',Array.getElem?_setIfInBounds,Ne.symm hb]) (by
   refine⟨hnl,ents.push { key:=.int .i64 s,val:=.int .i64 n,born:=clock },clock+1,?_,?_⟩
   ·show w'.heap[V.ρ id]? = some ob
    simp [w',Array.getElem?_setIfInBounds,hlt]
   ·simp [HG] at h5 ⊢
    exact h5)
  have hrun:(execOp ρ ⟨d,.mapUpdate t x y z,ty,pos,af,g⟩).run P V.w=.ok .skip w':=by
   simp [execOp,hv,e2,e3,Instr.mapUpdate,run_underlying hm.out,MapKept.run_getObj_map h4,hck,hfk,hset,ob,w',go_sem]
  rw [hrun]
  exact⟨{ V with w:=w' },.tuple #[],.t [],_,rfl,rfl,he,hi,⟨#[],rfl,rfl,fun j x v hj=>by simp at hj⟩,by rw [←h3] at hK;exact hK⟩
theorem YD{t:TypeId}{x y z:Operand}{K:E→Ab→Nat→Prop}(h:B2 P TB Γ ⟨d,.mapUpdate t x y z,ty,pos,af,g⟩ f σ nx K):B2 P TB Γ ⟨d,.insert t x y z,ty,pos,af,g⟩ f σ nx K:=fun V a h1 h2 h3=>h V a h1 h2 h3
theorem Vs{t k e:TypeId}{x y:Operand}{id:Nat}{l:List (Int×Int)}{s v:Int}[hm:Ey P t k e][hk:EK P k .i64][hz:JD P e (.int .i64 0)](hv:ED l s=some v)(hx:ev f x=some (.o (.mp id)))(hy:ev f y=some (eI .i64 s))(ho:look σ id=some (.mp (HG l))) :
 AY P TB Γ ⟨d,.lookup t x y true,ty,pos,af,g⟩ f σ nx (.t [(false,[.d (.v (.int .i64 v))]),(false,[.d (.v (.bool true))])]):=by
 have:=RI (P:=P) (TB:=TB) (Γ:=Γ) (d:=d) (ty:=ty) (pos:=pos) (af:=af) (g:=g) (nx:=nx) (t:=t) (k:=k) (e:=e) hx hy ho
 rw [hv] at this;exact this
theorem Vr{t k e:TypeId}{x y:Operand}{id:Nat}{l:List (Int×Int)}{s:Int}[hm:Ey P t k e][hk:EK P k .i64][hz:JD P e (.int .i64 0)](hv:ED l s=none)(hx:ev f x=some (.o (.mp id)))(hy:ev f y=some (eI .i64 s))(ho:look σ id=some (.mp (HG l))) :
 AY P TB Γ ⟨d,.lookup t x y true,ty,pos,af,g⟩ f σ nx (.t [(false,[.d (.v (.int .i64 0))]),(false,[.d (.v (.bool false))])]):=by
 have:=RI (P:=P) (TB:=TB) (Γ:=Γ) (d:=d) (ty:=ty) (pos:=pos) (af:=af) (g:=g) (nx:=nx) (t:=t) (k:=k) (e:=e) hx hy ho
 rw [hv] at this;exact this
theorem Ir(l:List (Int×Int))(r:Nat→Nat):O.AX r (.mp (HG l))=.mp (HG l):=rfl
def Qg{α:Type}(u:List α):List (α×Int):=u.zipIdx.map fun p=>(p.1,(p.2:Int))
theorem Ry{α:Type}(u:List α)(x:α):Qg (u++[x])=Qg u++[(x,(u.length:Int))]:=by
 unfold Qg
 rw [List.zipIdx_append]
 simp
theorem K1{α:Type}[DecidableEq α](x:α):∀(u:List α) (k:Nat),(((u.zipIdx k).map fun p=>(p.1,(p.2:Int))).find? fun p=>decide (p.1=x)).map (·.2)=if x∈u then some ((k+u.idxOf x:Nat):Int) else none
 | [],k=>by simp
 | y :: u,k=>by
  rw [List.zipIdx_cons,List.map_cons,List.find?_cons]
  by_cases h:y=x
  ·subst h;simp
  ·have ih:=K1 x u (k+1)
   have h2:¬x=y:=fun e=>h e.symm
   simp only [h,decide_false]
   rw [ih,List.idxOf_cons]
   simp only [List.mem_cons,h2,false_or,beq_eq_false_iff_ne.2 h,cond_false]
   by_cases h3:x∈u
   ·rw [if_pos h3,if_pos h3];congr 2;omega
   ·rw [if_neg h3,if_neg h3]
theorem Sy(u:List Int)(x:Int):ED (Qg u) x=if x∈u then some ((u.idxOf x:Nat):Int) else none:=by
 have:=K1 x u 0
 rw [Nat.zero_add] at this
 exact this
def bV{α:Type}[DecidableEq α](u:List α)(x:α):Nat:=u.idxOf x
def ZR{α:Type}[DecidableEq α](u:List α)(x:α):Option Int:=if x∈u then some ((bV u x:Nat):Int) else none
theorem SA(u:List (List UInt8))(x:List UInt8):BD (Qg u) x=ZR u x:=by
 have:=K1 x u 0
 rw [Nat.zero_add] at this
 exact this
end Go.Am
namespace Go.Am
open Go
set_option linter.unusedVariables false
structure NZ (a:AP) (cs:List Int) (n k:Nat):Prop where
 len:cs.length=a.nx.length
 rng:∀x∈cs,0≤x∧x < 100
 cnt:n=0∨n=(uq cs).length
 fuel:a.nx.length≤k+n
 eq:Sp a (k+1) cs n=DE a
def JJ(a:AP)(cs:List Int):List W:=(BS a cs).map PV
theorem SE{a:AP}{cs:List Int}{q:Nat}(h:q < a.nx.length):(JJ a cs)[q]? = some (PV (GG a cs q)):=by
 unfold JJ;rw [List.getElem?_map,Bj h];rfl
theorem SF(a:AP)(cs:List Int):(JJ a cs).length=a.nx.length:=by simp [JJ,Dr]
theorem Om{cs:List Int}(h:∀x∈cs,0≤x∧x < 100)(i:Nat):0≤cs.getD i 0∧cs.getD i 0 < 100:=by
 rw [List.getD_eq_getElem?_getD]
 cases hx:cs[i]? with
 | none=>exact⟨Int.le_refl _,by show (0:Int) < 100;omega⟩
 | some x=>exact h x (List.mem_of_getElem? hx)
theorem Ov{a:AP}{cs:List Int}(h:∀x∈cs,0≤x∧x < 100)(q:Nat):∀x∈GG a cs q,0≤x∧x < 100:=fun x hx=>by
 unfold GG at hx
 rcases List.mem_cons.1 hx with rfl|hx
 ·exact Om h q
 ·obtain⟨y,_,rfl⟩:=List.mem_map.1 hx
  exact Om h _
theorem Ow{a:AP}{cs:List Int}(h:∀x∈cs,0≤x∧x < 100):∀x y,x∈BS a cs→y∈BS a cs→PV x=PV y→x=y:=fun x y hx hy e=>by
 obtain⟨q,_,rfl⟩:=List.mem_map.1 hx
 obtain⟨r,_,rfl⟩:=List.mem_map.1 hy
 exact Uz (Ov h q) (Ov h r) (by simp [GG]) (by simp [GG]) e
theorem PW{a:AP}{cs:List Int}(h:∀x∈cs,0≤x∧x < 100):Dk (JJ a cs)=Dk (BS a cs):=UT (Ow h)
theorem UB{a:AP}{cs:List Int}(h:∀x∈cs,0≤x∧x < 100):(uq (JJ a cs)).length=(uq (BS a cs)).length:=by
 unfold JJ;rw [VZ (Ow h),List.length_map]
theorem UU{a:AP}(h:a.nx.length≤64)(cs:List Int):∀x∈Dk (BS a cs),0≤x∧x < 100:=fun x hx=>by
 obtain⟨y,hy,rfl⟩:=List.mem_map.1 hx
 have h1:=Kn hy
 have h2:=GR (BS a cs)
 rw [Dr] at h2
 omega
theorem NZ.zero{a:AP}(h:Hh a):NZ a (Fv a) 0 a.nx.length:=
 ⟨by simp [Fv,h.ac],fun x hx=>by
  obtain⟨b,_,rfl⟩:=List.mem_map.1 hx
  cases b
  ·exact⟨Int.le_refl _,by show (0:Int) < 100;omega⟩
  ·exact⟨by show (0:Int)≤1;omega,by show (1:Int) < 100;omega⟩,.inl rfl,by omega,rfl⟩
theorem NZ.step{a:AP}(h:Hh a){cs:List Int}{n k:Nat}(hi:NZ a cs n k) :
 ((uq (BS a cs)).length=n∧Ni a=Dk (BS a cs))∨((uq (BS a cs)).length≠n∧1≤k∧NZ a (Dk (BS a cs)) (uq (BS a cs)).length (k - 1)):=by
 have hb:=h.b.1
 have hn1:=h.n1
 have h1:=hi.eq
 have hmap:=QH (fun k:List Int=>k.headD 0) (BS a cs)
 rw [XD hi.len] at hmap
 have h2:=GR (BS a cs)
 rw [Dr] at h2
 unfold Sp at h1
 by_cases he:(uq (BS a cs)).length=n
 ·rw [if_pos he] at h1
  exact .inl ⟨he,by unfold Ni;rw [h1]⟩
 ·rw [if_neg he] at h1
  have hf:=hi.fuel
  have hc:=hi.cnt
  have hk:1≤k:=by omega
  refine .inr ⟨he,hk,by simp [Dk,Dr],UU hb cs,.inr (Si _).symm,?_,?_⟩
  ·rcases hc with hc|hc<;>omega
  ·rw [show k - 1+1=k by omega];exact h1
theorem SB(u:List W)(x:W):(x∈u→BD (Qg u) x=some ((bV u x:Nat):Int))∧(x∉u→BD (Qg u) x=none):=by
 rw [SA]
 unfold ZR
 exact⟨fun h=>if_pos h,fun h=>if_neg h⟩
theorem WR{l:List W}{k:Nat}{x:W}(h:l[k]? = some x):(x∈uq (l.take k)→CJ l x=((bV (uq (l.take k)) x:Nat):Int))∧(x∉uq (l.take k)→CJ l x=(uq (l.take k)).length):=
 ⟨fun hm=>((Km h).1 hm).1,(Km h).2⟩
theorem MO{α:Type}[DecidableEq α]{l:List α}{k:Nat}{x:α}(h:l[k]? = some x):(x∈uq (l.take k)→Bd l (k+1)=Bd l k)∧(x∉uq (l.take k)→Bd l (k+1)=Bd l k++[k]):=by
 constructor
 ·intro hm
  simp only [Bd,h,if_pos hm]
 ·intro hm
  simp only [Bd,h,if_neg hm]
theorem Ts(l:List Int)(x:Int):C4 (l++[x])=C4 l++(44::C8 x.toNat):=by simp [C4]
theorem KJ(n:Nat):(C8 n).length≤2:=by unfold C8;split<;>simp
theorem Tt(l:List Int):(C4 l).length≤3*l.length:=by
 induction l with
 | nil=>simp [C4]
 | cons x l ih=>
  have:=KJ x.toNat
  have e:C4 (x::l)=44::C8 x.toNat++C4 l:=by simp [C4]
  rw [e];simp;omega
theorem UA(a:AP)(cs:List Int)(q:Nat):PV (GG a cs q)=C8 (cs.getD q 0).toNat++C4 ((a.nx.getD q []).map fun x=>cs.getD x.toNat 0):=rfl
theorem Qo{a:AP}(h:Hh a){k:Nat}(hk:k < a.nx.length) :
 (Gt a k < ((BP a k).nx.length:Nat)∧BP a (k+1)=BP a k)∨(¬Gt a k < ((BP a k).nx.length:Nat)∧BP a (k+1)=⟨a.al,(BP a k).nx++[(a.nx.getD k []).map (Gt a)],(BP a k).ac++[a.ac.getD k false]⟩):=by
 obtain⟨x,hx,e,_⟩:=Gx h hk
 have hlen:(BP a k).nx.length=(uq ((DE a).take k)).length:=by simp [BP,Cg]
 obtain⟨h1,h2⟩:=Km hx
 by_cases hm:x∈uq ((DE a).take k)
 ·refine .inl ⟨by rw [e,hlen];exact(h1 hm).2,?_⟩
  unfold BP
  rw [(MO hx).1 hm]
 ·refine .inr ⟨by rw [e,hlen,h2 hm];omega,?_⟩
  unfold BP
  rw [(MO hx).2 hm]
  simp
theorem Tj(a:AP):∀k,(BP a k).nx.length≤k:=fun k=>by
 have:(BP a k).nx.length=(uq ((DE a).take k)).length:=by simp [BP,Cg]
 have h2:=GR ((DE a).take k)
 simp at h2
 omega
theorem O5(a:AP)(k:Nat):(BP a k).ac.length=(BP a k).nx.length:=by simp [BP]
theorem Ub{a:AP}(h:Hh a):(Ni a).length=a.nx.length:=by
 have:=(I8 h.b h.n1 h.ac).len
 simp [Ni,Dk,this]
end Go.Am
namespace Go.Am
open Go
set_option linter.unusedVariables false
variable {P:Program}{TB:Bw}{Γ:Ctx}{d:Option Tmp}{ty:TypeId}{pos:String}{af:Array Edge}{g:Option (Nat×Bool)}{f:Env}{σ:Ab}{nx:Nat}
theorem Xa{t k e:TypeId}{x:Operand}{id:Nat}{l:List (Value×Value)}[hm:Ey P t k e](hx:ev f x=some (.o (.mp id)))(ho:look σ id=some (.mp l)):AY P TB Γ ⟨d,.call ⟨.builtin .len,#[x],#[t]⟩,ty,pos,af,g⟩ f σ nx (eI .i64 l.length):=
 AH fun V ρ hr hi=>by
  have e1:=hr.get (by simp [Op.operands,Call.operands]) hx
  generalize hv:ρ x=v at e1
  cases e1 with
  | mp hid=>
   obtain⟨hn,ents,clock,h1,h2⟩:=hi.st.obj id _ ho
   refine⟨.int .i64 l.length,?_,.d (.v rfl)⟩
   have h3:ents.size=l.length:=by rw [←h2];simp
   simp [execOp,resolve,invoke,builtin,hv,Builtin.len_,run_underlying hm.out,MapKept.run_getObj_map h1,goInt,h3,go_sem]
theorem UI(u:List (List UInt8)):(Du (Qg u)).length=u.length:=by simp [Du,Qg]
theorem NF{t k e:TypeId}{x:Operand}{id:Nat}{u:List (List UInt8)}[hm:Ey P t k e](hx:ev f x=some (.o (.mp id)))(ho:look σ id=some (.mp (Du (Qg u)))):AY P TB Γ ⟨d,.call ⟨.builtin .len,#[x],#[t]⟩,ty,pos,af,g⟩ f σ nx (eI .i64 u.length):=by
 have:=Xa (P:=P) (TB:=TB) (Γ:=Γ) (d:=d) (ty:=ty) (pos:=pos) (af:=af) (g:=g) (nx:=nx) (t:=t) (k:=k) (e:=e) hx ho
 rwa [UI] at this
theorem Vu{t k e:TypeId}{x y:Operand}{id:Nat}{l:List (List UInt8×Int)}{s:List UInt8}{v:Int}[hm:Ey P t k e][hk:B6 P k][hz:JD P e (.int .i64 0)](hv:BD l s=some v)(hx:ev f x=some (.o (.mp id)))(hy:ev f y=some (eT s))(ho:look σ id=some (.mp (Du l))) :
 AY P TB Γ ⟨d,.lookup t x y true,ty,pos,af,g⟩ f σ nx (.t [(false,[.d (.v (.int .i64 v))]),(false,[.d (.v (.bool true))])]):=by
 have:=NG (P:=P) (TB:=TB) (Γ:=Γ) (d:=d) (ty:=ty) (pos:=pos) (af:=af) (g:=g) (nx:=nx) (t:=t) (k:=k) (e:=e) hx hy ho
 rw [hv] at this;exact this
theorem Vt{t k e:TypeId}{x y:Operand}{id:Nat}{l:List (List UInt8×Int)}{s:List UInt8}[hm:Ey P t k e][hk:B6 P k][hz:JD P e (.int .i64 0)](hv:BD l s=none)(hx:ev f x=some (.o (.mp id)))(hy:ev f y=some (eT s))(ho:look σ id=some (.mp (Du l))) :
 AY P TB Γ ⟨d,.lookup t x y true,ty,pos,af,g⟩ f σ nx (.t [(false,[.d (.v (.int .i64 0))]),(false,[.d (.v (.bool false))])]):=by
 have:=NG (P:=P) (TB:=TB) (Γ:=Γ) (d:=d) (ty:=ty) (pos:=pos) (af:=af) (g:=g) (nx:=nx) (t:=t) (k:=k) (e:=e) hx hy ho
 rw [hv] at this;exact this
end Go.Am
namespace Go.Am
open Go
def Ux:Option TypeDesc→Bool
 | some (.func ..)=>true
 | _=>false
class Xz (P:Program) (t:TypeId):Prop where
 out:Ux (P.underlying t)=true
theorem Xl{P:Program}{t:TypeId}(h:Ux (P.underlying t)=true)(w:World):(Op.equal t .nilFunc .nilFunc).run P w=.ok true w∧∀(g:Fn) (a b:Array Value),(Op.equal t (.func g a b) .nilFunc).run P w=.ok false w:=by
 unfold Ux at h
 split at h
 ·rename_i he
  unfold Op.equal Op.maxDepth
  rw [show 10000=9999+1 from rfl,Op.equalIn]
  refine⟨by simp [run_underlying he,go_sem],fun g a b=>?_⟩
  rw [Op.equalIn]
  simp [run_underlying he,go_sem]
 ·cases h
section
variable {P:Program}{TB:Bw}{Γ:Ctx}{d:Option Tmp}{ty:TypeId}{pos:String}{af:Array Edge}{g:Option (Nat×Bool)}{f:Env}{σ:Ab}{nx:Nat}
theorem RJ{t yt:TypeId}{x y:Operand}[hp:Xz P t](hx:ev f x=some (.o (.d (.v .nilFunc))))(hy:ev f y=some (.o (.d (.v .nilFunc)))):AY P TB Γ ⟨d,.binOp .neq t x y yt,ty,pos,af,g⟩ f σ nx (eB false):=
 Bp hx hy rfl fun w=>by
  have h6:binOp .neq t .nilFunc .nilFunc=(do pure (.bool (!(←Op.equal t .nilFunc .nilFunc)))):=rfl
  have h7:eqGuard .neq t x y .nilFunc .nilFunc=pure ():=rfl
  rw [h6,h7]
  simp [(Xl hp.out w).1,go_sem]
end
def KU(L:List (Nat×E)):List Nat→Option (List (Nat×E))
 | []=>some []
 | k::r=>match look L k,KU L r with
  | some e,some l=>some ((k,e)::l)
  | _,_=>none
def Rt(σ:Ab):List Nat→Option Ab
 | []=>some []
 | k::r=>match look σ k,Rt σ r with
  | some e,some l=>some ((k,e)::l)
  | _,_=>none
section
variable {P:Program}{TB:Bw}{Γ:Ctx}{N:Nat}
theorem Ak.Z0{c:Code}{Q:Exit→Env→Ab→Nat→Prop}{L0 Lk:List (Nat×E)}{σ Sk:Ab}{nx:Nat}{α:Type}(ks is:List Nat)(hk:KU L0 ks=some Lk)(hi:Rt σ is=some Sk)(v:α→List (Nat×E))(s:α→Ab)(n:Nat)(μ:α→Nat)
 (x:α) (l0:List Nat) (hl0:(∀i,i < Γ.V.nx→l0[i]? = some i)∧l0.Nodup∧l0.length=n) (h0:CI (nm l0 nx) (look L0) (v x++Lk)∧AS (nm l0 nx) σ (s x++Sk))
 (round:∀x,Ak P TB Γ N c (IS (fun f σ nx=>∃y,μ y < μ x∧∃l:List Nat,(∀i,i < Γ.V.nx→l[i]? = some i)∧l.Nodup∧l.length=n∧CI (nm l nx) f (v y++Lk)∧AS (nm l nx) σ (s y++Sk)) Q) (look (v x++Lk)) (s x++Sk) n) :
 Ak P TB Γ N (.loop c) Q (look L0) σ nx:=Ak.A4 (fun x=>v x++Lk) (fun x=>s x++Sk) n μ x l0 hl0 h0 round
theorem aL{c:Code}{Q:Exit→Env→Ab→Nat→Prop}{L0 Lk:List (Nat×E)}{σ Sk:Ab}{nx:Nat}{α:Type}(ks is:List Nat)(hk:KU L0 ks=some Lk)(hi:Rt σ is=some Sk)(v:α→List (Nat×E))(s:α→Ab)(n:Nat)(μ:α→Nat)
 (x:α) {m:Nat} (hΓ:Γ.V.nx=m) (hn:Nat.ble m n=true) (h0:CI (nm (List.range n) nx) (look L0) (v x++Lk)∧AS (nm (List.range n) nx) σ (s x++Sk))
 (round:∀x,Ak P TB Γ N c (IS (fun f σ nx=>∃y,μ y < μ x∧∃l:List Nat,(∀i,i < Γ.V.nx→l[i]? = some i)∧l.Nodup∧l.length=n∧CI (nm l nx) f (v y++Lk)∧AS (nm l nx) σ (s y++Sk)) Q) (look (v x++Lk)) (s x++Sk) n) :
 Ak P TB Γ N (.loop c) Q (look L0) σ nx:=Ak.Z0 ks is hk hi v s n μ x (List.range n) (rg hΓ hn) h0 round
theorem YQ{d:Option Tmp}{op:Op}{ty:TypeId}{pos:String}{af:Array Edge}{g:Option (Nat×Bool)}{L:List (Nat×E)}{σ:Ab}{nx:Nat}{e:E}{t:Tmp}{gg:FuncId}(hx:look L t=some (.o (.d (.v (.func (.func gg) #[] #[])))))
 (h:AY P TB Γ ⟨d,op,ty,pos,af,g⟩ (look ((t,.o (.fn gg []))::L)) σ nx e):AY P TB Γ ⟨d,op,ty,pos,af,g⟩ (look L) σ nx e:=by
 intro V a h1 h2 h3
 refine h V a ?_ h2 h3
 intro t' e' ht' he'
 rw [Ax] at he'
 by_cases he:t=t'
 ·subst he
  rw [if_pos rfl] at he'
  injection he' with he'
  subst he'
  have hv:=AI.val (h1 t _ ht' hx)
  show AI V (.fn gg []) _
  rw [hv]
  exact .fn rfl (fun j c v hj=>by simp at hj)
 ·rw [if_neg he] at he'
  exact h1 t' e' ht' he'
theorem Spec.bO{g f0:FuncId}{σ:Ab}{nx:Nat}{l m:List E}{post:E→Ab→Nat→Prop}(h:Spec P TB g σ nx (l++.o (.d (.v (.func (.func f0) #[] #[])))::m) post):Spec P TB g σ nx (l++.o (.fn f0 [])::m) post:=
 ⟨h.1, fun V vs S hg ha=>h.2 V vs S hg ⟨by simpa using ha.1,fun j e v hj hv=>by
  by_cases hlt:j < l.length
  ·exact ha.2 j e v (by rw [List.getElem?_append_left hlt] at hj ⊢;exact hj) hv
  ·by_cases hj0:j=l.length
   ·subst hj0
    have h1:=ha.2 l.length (.o (.fn f0 [])) v (by simp) hv
    rw [List.getElem?_append_right (Nat.le_refl _)] at hj
    simp at hj
    subst hj
    obtain⟨vs',rfl,h2⟩:=Jf h1
    have h3:vs' = #[]:=Array.eq_empty_of_size_eq_zero (by simpa using h2.1)
    subst h3
    exact AI.d (.v rfl)
   ·refine ha.2 j e v ?_ hv
    rw [List.getElem?_append_right (by omega)] at hj ⊢
    obtain⟨q,hq⟩:∃q,j - l.length=q+1:=⟨j - l.length - 1,by omega⟩
    rw [hq] at hj ⊢
    simpa using hj⟩⟩
end
inductive FZ (σ:Ab):C→D→Prop
 | d {x:D}:FZ σ (.d x) x
 | fn {g:FuncId}:FZ σ (.fn g []) (.v (.func (.func g) #[] #[]))
 | arr {id k off len:Nat} {T:TypeId} {rows:List (List C)} {ds:List (List D)} {rs:Nat→List C} {cs:Nat→Nat→C}:look σ id=some (.cells T k rows)→off+len≤rows.length→ds.length=len→
  (∀i r',ds[i]? = some r'→rows[off+i]? = some (rs i)∧(rs i).length=r'.length)→(∀i j r' x,ds[i]? = some r'→r'[j]? = some x→(rs i)[j]? = some (cs i j))→
  (∀i j r' x,ds[i]? = some r'→r'[j]? = some x→FZ σ (cs i j) x)→FZ σ (.arr id k off len) (.l ds)
 | ptr {id k i j:Nat} {T:TypeId} {rows:List (List C)} {r:List C} {ds:List D} {cs:Nat→C}:look σ id=some (.cells T k rows)→rows[i]? = some r→(∀q x,ds[q]? = some x→r[j+q]? = some (cs q))→(∀q x,ds[q]? = some x→FZ σ (cs q) x)→FZ σ (.ptr id k i j) (.p ds)
 | sld {id:Nat} {T:TypeId} {l:List (Value×List Value)} {v:Value} {row:List Value}:look σ id=some (.sld T l)→(v,row)∈l→FZ σ (.d (.v v)) (.l (row.map fun x=>[.v x]))
 | nl {b:Option Addr}:FZ σ (.d (.v (.slice b 0 0))) (.l [])
inductive Py (σ:Ab):List C→List D→Prop
 | nil:Py σ [] []
 | cons {c:C} {d:D} {cs:List C} {ds:List D}:FZ σ c d→Py σ cs ds→Py σ (c::cs) (d::ds)
theorem Py.get{σ:Ab}{cs:List C}{ds:List D}(h:Py σ cs ds):cs.length=ds.length∧∀(j:Nat) x,ds[j]? = some x→∃c,cs[j]? = some c∧FZ σ c x:=by
 induction h with
 | nil=>exact⟨rfl,fun j x h=>by simp at h⟩
 | @cons c d cs ds h1 _ ih=>
  refine⟨by simp [ih.1],fun j x hj=>?_⟩
  cases j with
  | zero=>simp at hj;subst hj;exact⟨c,rfl,h1⟩
  | succ j=>exact ih.2 j x (by simpa using hj)
theorem Py.refl{σ:Ab}:∀(ds:List D),Py σ (ds.map .d) ds
 | []=>.nil
 | d::ds=>.cons .d (Py.refl ds)
theorem FZ.rows{σ:Ab}{id k len:Nat}{T:TypeId}{rows:List (List C)}{ds:List (List D)}(hl:look σ id=some (.cells T k rows))(hn:ds.length=len)(hr:rows.length=len)(h:∀(i:Nat) (r':List D),ds[i]? = some r'→∃r,rows[i]? = some r∧Py σ r r'):FZ σ (.arr id k 0 len) (.l ds):=by
 refine .arr (rs:=fun i=>(rows[i]?).getD []) (cs:=fun i j=>(((rows[i]?).getD [])[j]?).getD (.d (.l []))) hl (by omega) hn (fun i r' hi=>?_) (fun i j r' x hi hj=>?_) (fun i j r' x hi hj=>?_)
 ·obtain⟨r,h1,h2⟩:=h i r' hi
  rw [Nat.zero_add,h1]
  exact⟨rfl,h2.get.1⟩
 ·obtain⟨r,h1,h2⟩:=h i r' hi
  obtain⟨c,h3,h4⟩:=h2.get.2 j x hj
  simp [h1,h3]
 ·obtain⟨r,h1,h2⟩:=h i r' hi
  obtain⟨c,h3,h4⟩:=h2.get.2 j x hj
  simp [h1,h3,h4]
theorem FZ.full{σ:Ab}{id k len:Nat}{T:TypeId}{rows:List (List C)}{ds:List (List D)}(hl:look σ id=some (.cells T k rows))(hr:rows=ds.map (fun r=>r.map .d))(hn:rows.length=len):FZ σ (.arr id k 0 len) (.l ds):=by
 refine .rows hl (by rw [←hn,hr];simp) hn fun i r' hi=>⟨r'.map .d,?_,Py.refl _⟩
 rw [hr];simp [hi]
theorem FZ.box{σ:Ab}{id k:Nat}{T:TypeId}{r:List C}{ds:List D}(hl:look σ id=some (.cells T k [r]))(h:Py σ r ds):FZ σ (.ptr id k 0 0) (.p ds):=by
 refine .ptr (cs:=fun q=>(r[q]?).getD (.d (.l []))) hl rfl (fun q x hq=>?_) (fun q x hq=>?_)
 ·obtain⟨c,h3,h4⟩:=h.get.2 q x hq
  rw [Nat.zero_add,h3];rfl
 ·obtain⟨c,h3,h4⟩:=h.get.2 q x hq
  simp [h3,h4]
inductive EZ (σ:Ab):E→E→Prop
 | Bb {e:E}:e.BK=true→EZ σ e e
 | o {c:C} {d:D}:FZ σ c d→EZ σ (.o c) (.o (.d d))
 | a {cs:List C} {ds:List D}:Py σ cs ds→EZ σ (.a cs) (.a (ds.map .d))
def TG(σ:Ab)(f:Env):List (Nat×E)→Prop
 | []=>True
 | (t,e')::L=>(∃e,f t=some e∧EZ σ e e')∧TG σ f L
theorem TG.get{σ:Ab}{f:Env}:∀ {L:List (Nat×E)},TG σ f L→∀t e',look L t=some e'→∃e,f t=some e∧EZ σ e e'
 | [],_,t,e,h=>by cases h
 | (k,x)::L,hs,t,e,h=>by
  rw [Ax] at h
  by_cases hk:k=t
  ·rw [if_pos hk] at h;injection h with h;subst h;subst hk;exact hs.1
  ·rw [if_neg hk] at h;exact TG.get hs.2 t e h
def KB(V:View)(σ:Ab):View:={ V with I:=fun b=>V.I b∨∃id o,look σ id=some o∧¬V.nl id∧DC V id o b }
theorem Kb{V:View}{σ:Ab}:Ext V (KB V σ):=⟨fun _ h=>.inl h,fun _ _=>rfl,Nat.le_refl _,fun _ _=>rfl,fun _ _=>rfl,fun _ _=>Iff.rfl,Nat.le_refl _⟩
section
variable {P:Program}{TB:Bw}{Γ:Ctx}{N:Nat}{σ:Ab}
theorem HY.data{I:Nat→Prop}{w:World}{T:TypeId}{v:Value}{row:List Value}(h:HY w T v row)(hI:∀b,Hv v b→I b):Cn I w (.l (row.map fun x=>[.v x])) v:=by
 rcases h with ⟨rfl,rfl⟩|⟨b,cap,cur,rfl,h2,h3,h4,h5,h6⟩
 ·exact .nil
 ·have hn:row.length=(row.map fun x=>[D.v x]).length:=by simp
  have hg:∀(i:Nat) (r:List D) (j:Nat) (d:D),(row.map fun x=>[D.v x])[i]? = some r→r[j]? = some d→j=0∧∃x,row[i]? = some x∧d=.v x:=fun i r j d hi hj=>by
   simp only [List.getElem?_map,Option.map_eq_some_iff] at hi
   obtain⟨x,hx,rfl⟩:=hi
   have hj0:j=0:=by have:=(List.getElem?_eq_some_iff.1 hj).1;simp at this;omega
   subst hj0
   simp at hj
   exact⟨rfl,x,hx,hj.symm⟩
  rw [hn]
  refine .l (k:=1) (vs:=fun i _=>(row[i]?).getD undef) (hI b ⟨_,_,_,rfl⟩) (by simpa using h4) h5 (fun i r hi=>?_) (fun i r j d hi hj=>?_) (fun i r j d hi hj=>?_)
  ·simp only [List.getElem?_map,Option.map_eq_some_iff] at hi
   obtain⟨x,hx,rfl⟩:=hi;rfl
  ·obtain⟨rfl,x,hx,rfl⟩:=hg i r j d hi hj
   simp [World.cell?,h2,hx,(h6 i x hx).1]
  ·obtain⟨rfl,x,hx,rfl⟩:=hg i r j d hi hj
   simp only [hx,Option.getD_some]
   exact .v (h6 i x hx).2
theorem FZ.rel{V:View}(hi:Inv TB Γ V σ){c:C}{d:D}(h:FZ σ c d):∀ {v:Value},AI V c v→Cn (KB V σ).I V.w d v:=by
 induction h with
 | d=>intro v hc;cases hc with|d h=>exact h.ext (V:=V) (V':=KB V σ) Kb
 | @sld id T l v row hl hm=>
  intro v' hc
  have hv:v'=v:=AI.val hc
  subst hv
  have h1:=hi.st.obj id _ hl
  exact(h1.2.2 _ hm).data fun b hb=>.inr ⟨id,_,hl,h1.1,⟨_,hm,hb⟩⟩
 | @nl b=>
  intro v' hc
  have hv:v'=_:=AI.val hc
  subst hv
  cases b
  ·exact .nil
  ·exact .e (Nat.zero_le _)
 | fn =>
  intro v hc
  cases hc with
  | @fn f cap vs h1 _=>
   have:vs = #[]:=Array.eq_empty_of_size_eq_zero (by simpa using h1)
   subst this
   exact .v rfl
 | @arr id k off len T rows ds rs cs hl hle hn h1 h2 _ ih=>
  intro v hc
  cases hc with
  | nil h3 h4=>
   have:ds=[]:=List.length_eq_zero_iff.1 hn
   subst this
   exact .nil
  | arr h3 hnl h4=>
   rcases hi.st.obj id _ hl with ⟨h5,_⟩|⟨_,cur,h5,h6,h7,h8,h9,h10⟩
   ·exact absurd h5 hnl
   ·have hcell:∀(i:Nat) (r:List D) (j:Nat) (x:D),ds[i]? = some r→r[j]? = some x→∃v,cur[(off+i)*k+j]? = some v∧Cn (KB V σ).I V.w x v:=fun i r j x hi' hj=>by
     obtain⟨v,h11,h12⟩:=h10 (off+i) (rs i) j (cs i j) (h1 i r hi').1 (h2 i j r x hi' hj)
     exact⟨v,h11,ih i j r x hi' hj h12⟩
    rw [←hn] at h4 ⊢
    refine .l (b:=V.ρ id) (o:=off*k) (k:=k) (vs:=fun i j=>cur.getD ((off+i)*k+j) undef) (.inr ⟨id,_,hl,hnl,rfl⟩) (by omega) (by omega) (fun i r hi'=>?_) (fun i r j x hi' hj=>?_) (fun i r j x hi' hj=>?_)
    ·have h13:=h1 i r hi'
     rw [←h13.2]
     exact h9 _ (List.mem_of_getElem? h13.1)
    ·obtain⟨v,h11,_⟩:=hcell i r j x hi' hj
     have e:off*k+i*k+j=(off+i)*k+j:=by rw [Nat.add_mul]
     rw [e]
     simp [World.cell?,h5,h11]
    ·obtain⟨v,h11,h12⟩:=hcell i r j x hi' hj
     have:cur.getD ((off+i)*k+j) undef=v:=by simp [h11]
     simp only [this]
     exact h12
 | @ptr id k i j T rows r ds cs hl hri h1 _ ih=>
  intro v hc
  cases hc with
  | ptr h3 hnl=>
   rcases hi.st.obj id _ hl with ⟨h5,_⟩|⟨_,cur,h5,h6,h7,h8,h9,h10⟩
   ·exact absurd h5 hnl
   ·have hcell:∀(q:Nat) (x:D),ds[q]? = some x→∃v,cur[i*k+j+q]? = some v∧Cn (KB V σ).I V.w x v:=fun q x hq=>by
     obtain⟨v,h11,h12⟩:=h10 i r (j+q) (cs q) hri (h1 q x hq)
     exact⟨v,by rw [Nat.add_assoc];exact h11,ih q x hq h12⟩
    refine .p (b:=V.ρ id) (o:=i*k+j) (vs:=fun q=>cur.getD (i*k+j+q) undef) (.inr ⟨id,_,hl,hnl,rfl⟩) (fun q x hq=>?_) (fun q x hq=>?_)
    ·obtain⟨v,h11,_⟩:=hcell q x hq
     simp [World.cell?,h5,h11]
    ·obtain⟨v,h11,h12⟩:=hcell q x hq
     have:cur.getD (i*k+j+q) undef=v:=by simp [h11]
     simp only [this]
     exact h12
theorem EZ.rel{V:View}(hi:Inv TB Γ V σ){e e':E}(h:EZ σ e e'){v:Value}(hv:Bc V e v):Bc (KB V σ) e' v:=by
 cases h with
 | Bb=>exact hv.ext Kb
 | o h=>exact AI.d (V:=KB V σ) (h.rel hi hv)
 | @a cs ds h=>
  obtain⟨vs,rfl,h1,h2⟩:=hv
  refine⟨vs,rfl,by rw [h1,h.get.1];simp,fun j c v hj hv=>?_⟩
  simp only [List.getElem?_map,Option.map_eq_some_iff] at hj
  obtain⟨x,hx,rfl⟩:=hj
  obtain⟨c,h3,h4⟩:=h.get.2 j x hx
  exact AI.d (V:=KB V σ) (h4.rel hi (h2 j c v h3 hv))
theorem Ak.settle{c:Code}{Q:Exit→Env→Ab→Nat→Prop}{f:Env}{nx:Nat}(L:List (Nat×E))(hE:TG σ f L)(h:Ak P TB Γ N c Q (look L) [] nx):Ak P TB Γ N c Q f σ nx:=by
 intro V a hr
 refine h (KB V σ) a ⟨fun t x hx=>?_,fun t x hx=>?_,hr.size,?_,hr.nx,hr.defers⟩
 ·obtain⟨y,h1,h2⟩:=hE.get t x hx
  exact h2.rel hr.inv (hr.env t y h1)
 ·obtain⟨y,h1,_⟩:=hE.get t x hx
  exact hr.lt t y h1
 ·have hi:=hr.inv
  refine⟨hi.os,hi.tape,hi.output,hi.old,?_,?_,hi.ext.trans Kb,FV,fun id o ho=>(by cases ho),fun x hx=>⟨.inl (hi.tabs x hx).1,(hi.tabs x hx).2⟩,hi.hid.same rfl (fun _ h=>.inl h) (fun b hb=>hb.elim .inl fun ⟨id,o,hl,hn,he⟩=>.inr ⟨id,o,hl,hn,he⟩) fun b ⟨_,_,h,_⟩=>by cases h⟩
  ·rintro b (hb|⟨id,o,hl,hn,hb⟩)
   ·exact hi.iLt b hb
   ·exact(hi.st.obj id o hl).blt hn hb
  ·rintro b (hb|⟨id,o,hl,hn,hb⟩)
   ·exact hi.iNew b hb
   ·exact .inr (hi.live id o hl hn b hb)
theorem My{ids:List Nat}{L0:List (Nat×E)}:∀ {ks:List Nat} {Lk:List (Nat×E)},KU L0 ks=some Lk→CY σ ids (look L0) Lk
 | [],Lk,h=>by injection h with h;subst h;trivial
 | k :: ks,Lk,h=>by
  unfold KU at h
  split at h
  ·rename_i e l h1 h2
   injection h with h
   subst h
   exact⟨⟨e,h1,.Bb⟩,My h2⟩
  ·cases h
theorem CY.app{ids:List Nat}{f:Env}:∀ {L M:List (Nat×E)},CY σ ids f L→CY σ ids f M→CY σ ids f (L++M)
 | [],_,_,h=>h
 | _::_,_,h,h'=>⟨h.1,CY.app h.2 h'⟩
theorem Ak.DS{c:Code}{Q:Exit→Env→Ab→Nat→Prop}{L0 Lk:List (Nat×E)}{nx:Nat}(ids ks:List Nat)(hk:KU L0 ks=some Lk)(L:List (Nat×E))(hE:CY σ ids (look L0) L)(h:Ak P TB Γ N c Q (look (L++Lk)) (BV ids σ) nx):Ak P TB Γ N c Q (look L0) σ nx:=
 Ak.freeze ids (L++Lk) (hE.app (My hk)) h
section
variable {d:Option Tmp}{ty:TypeId}{pos:String}{af:Array Edge}{g:Option (Nat×Bool)}{f:Env}{nx:Nat}
theorem Dd{t:TypeId}{x lo:Operand}{s:List UInt8}{m:Int}{k:IntKind}[ht:B6 P t](hx:ev f x=some (eT s))(hl:ev f lo=some (eI k m))(h0:0≤m)(h1:m≤s.length):AY P TB Γ ⟨d,.slice t x (some lo) none none,ty,pos,af,g⟩ f σ nx (eT (s.drop m.toNat)):=by
 have h:=Ku (P:=P) (TB:=TB) (Γ:=Γ) (d:=d) (ty:=ty) (pos:=pos) (af:=af) (g:=g) (σ:=σ) (nx:=nx) (t:=t) (x:=x) (lo:=some lo) (hi:=none) (l:=some (k,m)) (h:=none) hx (by simp [Tz,hl]) rfl h0 h1 (Int.le_refl _)
 simpa [IZ,I0] using h
theorem RN{t:TypeId}{x hi:Operand}{s:List UInt8}{m:Int}{k:IntKind}[ht:B6 P t](hx:ev f x=some (eT s))(hl:ev f hi=some (eI k m))(h0:0≤m)(h1:m≤s.length):AY P TB Γ ⟨d,.slice t x none (some hi) none,ty,pos,af,g⟩ f σ nx (eT (s.take m.toNat)):=by
 have h:=Ku (P:=P) (TB:=TB) (Γ:=Γ) (d:=d) (ty:=ty) (pos:=pos) (af:=af) (g:=g) (σ:=σ) (nx:=nx) (t:=t) (x:=x) (lo:=none) (hi:=some hi) (l:=none) (h:=some (k,m)) hx rfl (by simp [Tz,hl]) (Int.le_refl _) h0 h1
 simpa [IZ,I0] using h
theorem RG{t e:TypeId}{b n:Nat}{x lo:Operand}{rows:List (List D)}{m:Int}{k:IntKind}[hsl:B3 P t e n b](hx:ev f x=some (.o (.d (.l rows))))(hl:ev f lo=some (eI k m))(hn:∀r∈rows,r.length=n)(h0:0≤m)(h1:m≤rows.length):AY P TB Γ ⟨d,.slice t x (some lo) none none,ty,pos,af,g⟩ f σ nx (.o (.d (.l (rows.drop m.toNat)))):=by
 have h:=RL (P:=P) (TB:=TB) (Γ:=Γ) (d:=d) (ty:=ty) (pos:=pos) (af:=af) (g:=g) (σ:=σ) (nx:=nx) (t:=t) (x:=x) (lo:=some lo) (hi:=none) (l:=some (k,m)) (h:=none) hx (by simp [Tz,hl]) rfl hn h0 h1 (Int.le_refl _)
 simpa [IZ,I0] using h
theorem G0{t e:TypeId}{b n:Nat}{x hi:Operand}{rows:List (List D)}{m:Int}{k:IntKind}[hsl:B3 P t e n b](hx:ev f x=some (.o (.d (.l rows))))(hl:ev f hi=some (eI k m))(hn:∀r∈rows,r.length=n)(h0:0≤m)(h1:m≤rows.length):AY P TB Γ ⟨d,.slice t x none (some hi) none,ty,pos,af,g⟩ f σ nx (.o (.d (.l (rows.take m.toNat)))):=by
 have h:=RL (P:=P) (TB:=TB) (Γ:=Γ) (d:=d) (ty:=ty) (pos:=pos) (af:=af) (g:=g) (σ:=σ) (nx:=nx) (t:=t) (x:=x) (lo:=none) (hi:=some hi) (l:=none) (h:=some (k,m)) hx rfl (by simp [Tz,hl]) hn (Int.le_refl _) h0 h1
 simpa [IZ,I0] using h
end
end
end Go.Am
namespace Go.Am
open Go Go.Proofs
instance:Xz Tryz.prog 130:=⟨by kernel_rfl⟩
end Go.Am
namespace Go.Am
open Go
set_option linter.unusedVariables false
def cD:Bool×List C→Option E
 | (false,[c])=>some (.o c)
 | (true,cs)=>some (.a cs)
 | _=>none
def Rh(f:Env)(σ:Ab)(t:Tmp)(ag:Bool)(n:Nat):Option (Bool×List C):=match f t with
 | some (.o (.d (.p cs)))=>match Nat.ble n cs.length with
  | true=>some (ag,(cs.take n).map .d)
  | false=>none
 | some (.o (.ptr id k i j))=>match look σ id with
  | some (.cells _ k' rows)=>match Nat.beq k k',nth rows i with
   | true,some r=>match Nat.ble (j+n) r.length with
    | true=>some (ag,(r.drop j).take n)
    | false=>none
   | _,_=>none
  | _=>none
 | _=>none
def Tk(T:List (Nat×TI))(f:Env)(σ:Ab):ResultVar→Option (Bool×List C)
 | .tmp t=>match f t with
  | some e=>OZ e
  | none=>none
 | .cell t T'=>match (Hj T T').ld with
  | some (true,n)=>Rh f σ t true n
  | some (false,1)=>Rh f σ t false 1
  | _=>none
def Tl(T:List (Nat×TI))(f:Env)(σ:Ab):List ResultVar→Option (List (Bool×List C))
 | []=>some []
 | r::rs=>match Tk T f σ r,Tl T f σ rs with
  | some x,some xs=>some (x::xs)
  | _,_=>none
def VB(T:List (Nat×TI))(rs:Array ResultVar)(f:Env)(σ:Ab):Option E:=match rs.toList with
 | []=>some (.t [])
 | [r]=>match Tk T f σ r with
  | some x=>cD x
  | none=>none
 | rs=>match rs.length,Tl T f σ rs with
  | 2,some xs=>some (.t xs)
  | 3,some xs=>some (.t xs)
  | 4,some xs=>some (.t xs)
  | _,_=>none
def TK(T:List (Nat×TI))(rs:Array ResultVar)(post:E→Ab→Nat→Prop):Exit→Env→Ab→Nat→Prop
 | .ret,f,σ,nx|.normal,f,σ,nx=>∃x,VB T rs f σ=some x∧post x σ nx
 | _,_,_,_=>False
section
variable {P:Program}{TB:Bw}{Γ:Ctx}{σ:Ab}
theorem Mq{V:View}{f:Env}{a:Act}{t:Tmp}{T':TypeId}{ag:Bool}{n:Nat}{x:Bool×List C}(hi:Inv TB Γ V σ)(hl:DM P T' ag n)(h1n:ag=false→n=1)(hE:C7 V f a.tmps)(h:Rh f σ t ag n=some x) :
 ∃v,((do loadVar T' (←asAddr (a.tmps.getD t undef))):Sem Value).run P V.w=.ok v V.w∧JX V x v:=by
 have key : ∃ (b o:Nat) (cs:List C) (vs:Nat→Value),a.tmps.getD t undef=.pointer (some ⟨b,o,none⟩)∧x=(ag,cs)∧cs.length=n∧∀(q:Nat) (c:C),cs[q]? = some c→V.w.cell? ⟨b,o+q,none⟩=some (vs q)∧AI V c (vs q):=by
  unfold Rh at h
  split at h
  ·rename_i ds hf
   split at h
   ·rename_i hn
    have hn:=Nat.le_of_ble_eq_true hn
    injection h with h
    subst h
    have h3:AI V (.d (.p ds)) (a.tmps.getD t undef):=hE t _ hf
    generalize a.tmps.getD t undef=v0 at h3
    obtain⟨h3⟩:=h3
    cases h3 with
    | @p _ b o vs hb h1 h2=>
     refine⟨b,o,_,vs,rfl,rfl,by simp;omega,fun q c hq=>?_⟩
     rw [List.getElem?_map,Option.map_eq_some_iff] at hq
     obtain⟨dd,hd,rfl⟩:=hq
     rw [List.getElem?_take] at hd
     split at hd
     ·exact⟨h1 q dd hd,.d (h2 q dd hd)⟩
     ·cases hd
   ·cases h
  ·rename_i id k i j hf
   split at h
   ·rename_i T0 k' rows ho
    split at h
    ·rename_i r hk hr
     have hk:=Nat.eq_of_beq_eq_true hk
     subst hk
     split at h
     ·rename_i hn
      have hn:=Nat.le_of_ble_eq_true hn
      injection h with h
      subst h
      rw [Ko] at hr
      have h3:AI V (.ptr id k i j) (a.tmps.getD t undef):=hE t _ hf
      generalize a.tmps.getD t undef=v0 at h3
      cases h3 with
      | ptr hid hnl=>
       rcases hi.st.obj id _ ho with ⟨h4,_⟩|⟨_,cur,h4,h5,h6,h7,h8,h9⟩
       ·exact absurd h4 hnl
       ·refine⟨V.ρ id,i*k+j,_,fun q=>cur.getD (i*k+j+q) undef,rfl,rfl,by simp;omega,fun q c hq=>?_⟩
        rw [List.getElem?_take] at hq
        split at hq
        ·rw [List.getElem?_drop] at hq
         obtain⟨v,h10,h11⟩:=h9 i r (j+q) c hr hq
         rw [←Nat.add_assoc] at h10
         have e:cur.getD (i*k+j+q) undef=v:=by simp [h10]
         dsimp only
         rw [e]
         exact⟨by simp [World.cell?,h4,h10],h11⟩
        ·cases hq
     ·cases h
    ·cases h
   ·cases h
  ·cases h
 obtain⟨b,o,cs,vs,hv,rfl,hlen,hc⟩:=key
 rw [hv]
 cases ag with
 | false=>
  have hn1:=h1n rfl
  subst hn1
  match cs,hlen with
  | [c],_=>
   obtain⟨h1,h2⟩:=hc 0 c rfl
   refine⟨vs 0,?_,c,rfl,h2⟩
   rw [Nat.add_zero] at h1
   simp [asAddr,loadVar,(Bx hl.out V.w).1,h1,go_sem]
 | true =>
  refine⟨.agg ((List.range n).map fun q=>vs q).toArray,?_,_,rfl,by simp [hlen],fun j c v hj hvv=>?_⟩
  ·have:(loadCells ⟨b,o,none⟩ n).run P V.w=.ok ((List.range n).map fun q=>vs q).toArray V.w:=run_loadCells V.w _ n _ fun q hq=>by
    rw [Bu]
    exact(hc q cs[q] (List.getElem?_eq_getElem (by omega))).1
   unfold loadCells at this
   simp [asAddr,loadVar,(Bx hl.out V.w).1,(Bx hl.out V.w).2,this,go_sem]
  ·have hq:j < n:=by have:=(List.getElem?_eq_some_iff.1 hj).1;omega
   have:v=vs j:=by simpa [hq] using hvv.symm
   subst this
   exact(hc j c hj).2
theorem VA[hT:B7 P]{V:View}{f:Env}{a:Act}{r:ResultVar}{x:Bool×List C}(hi:Inv TB Γ V σ)(hE:C7 V f a.tmps)(h:Tk hT.T f σ r=some x) :
 ∃v,((match r with
  | .tmp t=>pure (a.tmps.getD t undef)
  | .cell b t=>do loadVar t (←asAddr (a.tmps.getD b undef))):Sem Value).run P V.w=.ok v V.w∧JX V x v:=by
 have hty:=fun t=>CL (P:=P) t hT.ok
 unfold Tk at h
 split at h
 ·rename_i t
  split at h
  ·rename_i e he
   exact⟨_,by simp [go_sem],Ep h (hE t e he)⟩
  ·cases h
 ·rename_i t T'
  split at h
  ·rename_i n hl
   exact Mq hi ((hty T').JI hl) (fun h=>(by cases h)) hE h
  ·rename_i hl
   exact Mq hi ((hty T').JI hl) (fun _=>rfl) hE h
  ·cases h
theorem Xy{V:View}{x:Bool×List C}{e:E}{v:Value}(h:cD x=some e)(hr:JX V x v):Bc V e v:=by
 unfold cD at h
 split at h
 ·injection h with h;subst h
  obtain⟨c,h1,h2⟩:=hr
  simp at h1;subst h1;exact h2
 ·injection h with h;subst h;exact hr
 ·cases h
theorem VC[hT:B7 P]{fn:Func}{V:View}{f:Env}{a:Act}{x:E}(hi:Inv TB Γ V σ)(hE:C7 V f a.tmps)(h:VB hT.T fn.results f σ=some x):∃v,(results fn a.tmps).run P V.w=.ok v V.w∧Bc V x v:=by
 obtain⟨F,hF,hFr⟩:∃F:ResultVar→Sem Value,results fn a.tmps=(do let vs ←fn.results.mapM F;pure (if h:vs.size=1 then vs[0] else .tuple vs))∧∀r x,Tk hT.T f σ r=some x→∃v,(F r).run P V.w=.ok v V.w∧JX V x v:=
  ⟨fun r=>match r with
   | .tmp t=>pure (a.tmps.getD t undef)
   | .cell b t=>do loadVar t (←asAddr (a.tmps.getD b undef)),rfl,fun r x hr=>VA hi hE hr⟩
 have two:∀ {r:ResultVar} {rs:List ResultVar} {xs:List (Bool×List C)},Tl hT.T f σ (r::rs)=some xs→∃y ys,xs=y::ys∧Tk hT.T f σ r=some y∧Tl hT.T f σ rs=some ys:=by
  intro r rs xs h
  unfold Tl at h
  split at h
  ·rename_i y ys h1 h2
   injection h with h;subst h;exact⟨y,ys,rfl,h1,h2⟩
  ·cases h
 have nil:∀ {xs:List (Bool×List C)},Tl hT.T f σ []=some xs→xs=[]:=fun h=>by injection h with h;exact h.symm
 have key:∀l:List ResultVar,fn.results=l.toArray→VB hT.T l.toArray f σ=some x→∃v,(results fn a.tmps).run P V.w=.ok v V.w∧Bc V x v:=by
  intro l hll h
  rw [hF,hll]
  unfold VB at h
  simp only at h
  match l with
  | []=>
   injection h with h;subst h
   exact⟨.tuple #[],by simp [go_sem],#[],rfl,rfl,fun j x v hj=>by simp at hj⟩
  | [r]=>
   simp only at h
   split at h
   ·rename_i y hy
    obtain⟨v,h1,h2⟩:=hFr r y hy
    exact⟨v,by simp [h1,go_sem],Xy h h2⟩
   ·cases h
  | [r1,r2]=>
   simp only [List.length_cons,List.length_nil] at h
   split at h
   ·rename_i xs _ hx
    injection h with h;subst h
    obtain⟨y1,ys,rfl,h1,hx⟩:=two hx
    obtain⟨y2,ys,rfl,h2,hx⟩:=two hx
    have:=nil hx;subst this
    obtain⟨v1,e1,t1⟩:=hFr _ _ h1
    obtain⟨v2,e2,t2⟩:=hFr _ _ h2
    refine⟨.tuple #[v1,v2],by simp [e1,e2,go_sem],_,rfl,rfl,fun j x v' hj hv=>?_⟩
    match j with
    | 0=>simp at hj hv;subst hj;subst hv;exact t1
    | 1=>simp at hj hv;subst hj;subst hv;exact t2
    | j+2=>simp at hj
   ·omega
   ·omega
   ·cases h
  | [r1,r2,r3]=>
   simp only [List.length_cons,List.length_nil] at h
   split at h
   ·omega
   ·rename_i xs _ hx
    injection h with h;subst h
    obtain⟨y1,ys,rfl,h1,hx⟩:=two hx
    obtain⟨y2,ys,rfl,h2,hx⟩:=two hx
    obtain⟨y3,ys,rfl,h3,hx⟩:=two hx
    have:=nil hx;subst this
    obtain⟨v1,e1,t1⟩:=hFr _ _ h1
    obtain⟨v2,e2,t2⟩:=hFr _ _ h2
    obtain⟨v3,e3,t3⟩:=hFr _ _ h3
    refine⟨.tuple #[v1,v2,v3],by simp [e1,e2,e3,go_sem],_,rfl,rfl,fun j x v' hj hv=>?_⟩
    match j with
    | 0=>simp at hj hv;subst hj;subst hv;exact t1
    | 1=>simp at hj hv;subst hj;subst hv;exact t2
    | 2=>simp at hj hv;subst hj;subst hv;exact t3
    | j+3=>simp at hj
   ·omega
   ·cases h
  | [r1,r2,r3,r4]=>
   simp only [List.length_cons,List.length_nil] at h
   split at h
   ·omega
   ·omega
   ·rename_i xs _ hx
    injection h with h;subst h
    obtain⟨y1,ys,rfl,h1,hx⟩:=two hx
    obtain⟨y2,ys,rfl,h2,hx⟩:=two hx
    obtain⟨y3,ys,rfl,h3,hx⟩:=two hx
    obtain⟨y4,ys,rfl,h4,hx⟩:=two hx
    have:=nil hx;subst this
    obtain⟨v1,e1,t1⟩:=hFr _ _ h1
    obtain⟨v2,e2,t2⟩:=hFr _ _ h2
    obtain⟨v3,e3,t3⟩:=hFr _ _ h3
    obtain⟨v4,e4,t4⟩:=hFr _ _ h4
    refine⟨.tuple #[v1,v2,v3,v4],by simp [e1,e2,e3,e4,go_sem],_,rfl,rfl,fun j x v' hj hv=>?_⟩
    match j with
    | 0=>simp at hj hv;subst hj;subst hv;exact t1
    | 1=>simp at hj hv;subst hj;subst hv;exact t2
    | 2=>simp at hj hv;subst hj;subst hv;exact t3
    | 3=>simp at hj hv;subst hj;subst hv;exact t4
    | j+4=>simp at hj
   ·cases h
  | _::_::_::_::_::_=>
   simp only [List.length_cons] at h
   cases h
 exact key fn.results.toList (by simp) (by simpa using h)
theorem Bl.YL [hT:B7 P] {g:FuncId} {fn:Func} {c:Code} {m:Nat} {σ:Ab} {nx:Nat} {args:List E} {post:E→Ab→Nat→Prop} (hm:m≤nx) (hf:P.funcs[g]? = some fn) (hb:fn.body=some c) (hname:(fn.name == "runtime.NumGoroutine")=false)
 (hargs:args.length≤fn.ntmps) (h:∀Γ:Ctx,Γ.V.nx=m→Ak P TB Γ fn.ntmps c (TK hT.T fn.results post) (look (BN 0 args)) σ nx):Bl P TB g m σ nx args post:=by
 refine⟨⟨fn,hf,hname,by rw [hb];rfl⟩,?_⟩
 intro V vs S hg ha
 refine calls_of_wp hf hb ?_
 have hs:vs.size≤fn.ntmps:=by rw [ha.1];exact hargs
 have hi:Inv TB (EO V (Jk V m) σ S) V σ:=
  ⟨rfl,rfl,rfl,fun _ _ _=>rfl,hg.iLt,fun _ h=>.inl h,Rv (by rw [hg.nx];exact hm),hg.st,fun id o ho hnl b hb=>.inr (.inl ⟨id,o,ho,hnl,hb⟩),hg.tabs,⟨S,hg.hid,fun b hb=>.inl hb,fun b hb=>.inr (.inr hb)⟩⟩
 have hr:BM TB (EO V (Jk V m) σ S) fn.ntmps V (look (BN 0 args)) σ nx { tmps:=vs++Array.replicate (fn.ntmps - vs.size) undef,defers:=[] } := by
  refine⟨?_,?_,by simp;omega,hi,hg.nx,rfl⟩
  ·intro t e he
   obtain⟨_,h2⟩:=BY args 0 t e he
   have h2:args[t]? = some e:=by simpa using h2
   have hlt:t < vs.size:=by rw [ha.1];exact(List.getElem?_eq_some_iff.1 h2).1
   have h3:=ha.2 t e vs[t] h2 (Array.getElem?_eq_getElem hlt)
   simpa [Array.getElem?_append_left hlt,hlt] using h3
  ·intro t e he
   obtain⟨_,h2⟩:=BY args 0 t e he
   have h2:args[t]? = some e:=by simpa using h2
   have:=(List.getElem?_eq_some_iff.1 h2).1
   omega
 refine wp_mono (h (EO V (Jk V m) σ S) rfl V _ hr) ?_
 rintro e a' w' ⟨V',f',σ',rfl,hq,hr'⟩
 have fin:(∃x,VB hT.T fn.results f' σ'=some x∧post x σ' V'.nx)→a'.defers=[]∧∃v,(results fn a'.tmps).run P V'.w=.ok v V'.w∧∃V'' v' x σ'',Ending.returned v=.returned v'∧V''.w=V'.w∧Inv TB (EO V (Jk V m) σ S) V'' σ''∧Bc V'' x v'∧post x σ'' V''.nx:=by
  rintro⟨x,hx,hp⟩
  obtain⟨v,hv,he⟩:=VC (P:=P) hr'.inv hr'.env hx
  exact⟨hr'.defers,v,hv,V',v,x,σ',rfl,rfl,hr'.inv,he,hp⟩
 cases e with
 | normal=>exact fin hq
 | ret=>exact fin hq
 | exit id=>exact hq.elim
 | goto l=>exact hq.elim
 | panic ch=>exact hq.elim
 | outgrown=>exact hq.elim
theorem eG [hT:B7 P] {g:FuncId} {fn:Func} {c:Code} {nx:Nat} {args:List E} {post:E→Ab→Nat→Prop} (hf:P.funcs[g]? = some fn) (hb:fn.body=some c) (hname:(fn.name == "runtime.NumGoroutine")=false)
 (ha:Nat.ble args.length fn.ntmps=true) (h:∀Γ:Ctx,Γ.V.nx=nx→Ak P TB Γ fn.ntmps c (TK hT.T fn.results post) (look (BN 0 args)) σ nx):Spec P TB g σ nx args post:=
 Bl.E2 (Bl.YL (Nat.le_refl _) hf hb hname (Nat.le_of_ble_eq_true ha) h)
end
section
variable {P:Program}{TB:Bw}{Γ:Ctx}{d:Option Tmp}{ty:TypeId}{pos:String}{af:Array Edge}{g:Option (Nat×Bool)}{f:Env}{σ:Ab}{nx:Nat}
variable {K:E→Ab→Nat→Prop}
theorem ND{t e:TypeId}{k b:Nat}{z:List Value}[hl:B3 P t e k b][hz:BR P e z](hzk:z.length=k)(hok:z.all Ml=true):AY P TB Γ ⟨d,.buildSlice t 0 #[],ty,pos,af,g⟩ f σ nx .e:=
 Js fun V ρ h1 h2=>by
  obtain⟨cur,h3,h4,h5⟩:=FR (es:=[]) hl.out hz.out hzk hok h1 rfl rfl rfl rfl (by simp) (by simp)
  have hw:∀b,b < V.w.heap.size→(V.w.alloc (.cells cur e)).heap[b]? = V.w.heap[b]?:=fun b hb=>AV V.w _ b hb
  obtain⟨hi,he⟩:=R.Inv.grow h2 (w:=V.w.alloc (.cells cur e)) rfl rfl rfl (by simp) hw
  exact⟨_,{ V with w:=V.w.alloc (.cells cur e) },h3,he,hi,rfl,⟨_,rfl⟩⟩
theorem SY{t e:TypeId}{k b:Nat}{z:List Value}{s x:Operand}{news:List (List C)}{ex:E}[hl:B3 P t e k b][hz:BR P e z]
 (hs:ev f s=some .e) (hx:ev f x=some ex) (hsrc:FU σ k ex=some news) (hkk:∀r∈news,r.length=k) (hzk:z.length=k) (hb0:0 < b) (hb:news.length*b≤140737488355328)
 (hK0:news=[]→∀b,∃y,(∀V:View,Bc V y (.slice b 0 0))∧K y σ nx) (hK:news≠[]→K (.o (.arr nx k 0 news.length)) ((nx,.cells e k news)::σ) (nx+1)):B2 P TB Γ ⟨d,.call ⟨.builtin .append,#[s,x],#[t,t]⟩,ty,pos,af,g⟩ f σ nx K:=
 CQ fun V ρ h1 h2 h3=>by
  subst h3
  obtain⟨i,hu,hi,hsz,hby⟩:=E1 hl.out
  have hz':=hz.out
  simp only [TC,hi,Option.bind_some,Option.map_eq_some_iff] at hz'
  obtain⟨zv,hzv,hzz⟩:=hz'
  have hzc:zv.cells.size=k:=by rw [←hzk,←hzz];simp
  obtain⟨sb,hsv⟩:=h1.get (x:=s) (by simp [Op.operands,Call.operands]) hs
  have hxr:=RZ h2 hsrc hkk (h1.get (x:=x) (by simp [Op.operands,Call.operands]) hx)
  have hexec:∀w,(execOp ρ ⟨d,.call ⟨.builtin .append,#[s,x],#[t,t]⟩,ty,pos,af,g⟩).run P w=((Builtin.append_ #[t,t] ty #[ρ s,ρ x]).run P w).andThen fun v w'=>.ok (.value v) w':=fun w=>by
   simp only [execOp,resolve,invoke,builtin,List.map_toArray,List.map_cons,List.map_nil,pure_bind,bind_pure_comp,Sem.run_map]
  have hmax:news.length≤maxLen:=by
   have:news.length≤news.length*b:=Nat.le_mul_of_pos_right _ hb0
   unfold maxLen;omega
  have hint:((news.length:Nat):Int)≤9223372036854775807:=by
   have:news.length≤news.length*b:=Nat.le_mul_of_pos_right _ hb0
   omega
  rw [hsv] at hexec
  generalize hvx:ρ x=vx at *
  have nothing0:=fun h=>hK0 h sb
  have nothing:news=[]→∀v,(Builtin.append_ #[t,t] ty #[.slice sb 0 0,vx]).run P V.w=.ok (.slice sb 0 0) V.w→v=Value.slice sb 0 0→
   ∃v V' xx σ',(execOp ρ ⟨d,.call ⟨.builtin .append,#[s,x],#[t,t]⟩,ty,pos,af,g⟩).run P V.w=.ok (.value v) V'.w∧Ext V V'∧Inv TB Γ V' σ'∧Bc V' xx v∧K xx σ' V'.nx:=fun hn v hr _=>
   let ⟨y,k1,k2⟩:=nothing0 hn
   ⟨.slice sb 0 0,V,y,σ,by rw [hexec,hr];rfl,Ext.refl _,h2,k1 V,k2⟩
  rcases hxr with ⟨rfl,hnil⟩|⟨xa,xc,xv,rfl,hxk,hxcell⟩
  ·exact nothing hnil _ (DL hu hi V.w sb 0 0 (Nat.le_refl _) ty) rfl
  ·have hnewsl:(Ck news.length k xv).length=news.length*i.size:=by rw [Ce,hsz]
   have hnewsc:∀j u,(Ck news.length k xv)[j]? = some u→V.w.cell? (xa.add j)=some u:=by
    intro q u hq
    obtain⟨a,b,rfl,ha,hb,rfl⟩:=Je hq
    have hbl:b < news[a].length:=by rw [hxk _ (List.getElem_mem ha)];exact hb
    exact(hxcell a news[a] b news[a][b] (List.getElem?_eq_getElem ha) (List.getElem?_eq_getElem hbl)).1
   rcases Nat.eq_zero_or_pos news.length with hm0|hm0
   ·have hnn:news=[]:=List.length_eq_zero_iff.1 hm0
    refine nothing hnn _ ?_ rfl
    subst hnn
    cases sb<;>simp [Builtin.append_,run_underlying hu,sizeOf,typeInfo,hi,Builtin.lenOf,Builtin.firstCells,loadCells,loadCellsFrom,storeCells,go_sem]
   ·have hne:news≠[]:=fun h=>by subst h;simp at hm0
    have hrun:(Builtin.append_ #[t,t] ty #[.slice sb 0 0,.slice (some xa) news.length xc]).run P V.w=.ok (.slice (some ⟨V.w.heap.size,0,none⟩) news.length (grownCap V.w news.length 0 e))
     (V.w.drew.alloc (.cells ((Ck news.length k xv).toArray++Builtin.zeroCells zv.cells (grownCap V.w news.length 0 e - news.length)) e)):=by
     cases sb with
     | none=>
      have hr:=run_append_nil (P:=P) V.w t ty e i zv hu hi hzv xa news.length xc _ hnewsl hnewsc hm0 (by omega) (by rw [hby];omega)
      rw [hr]
     | some sa=>
      have hr:=run_append_grow (P:=P) V.w t ty e i zv hu hi hzv sa 0 0 [] (by simp) (fun j v hj=>by simp at hj) xa news.length xc _ hnewsl hnewsc (by omega) (by simpa using hint) (by rw [hby];exact growslice_fits (by omega) (by simpa using hb))
      simpa using hr
    have hcap:=grownCap_ge V.w news.length 0 e
    have hcm:=grownCap_le_maxLen V.w news.length 0 e hmax
    generalize grownCap V.w news.length 0 e=cap' at *
    let w':=V.w.drew.alloc (.cells ((Ck news.length k xv).toArray++Builtin.zeroCells zv.cells (cap' - news.length)) e)
    have ee:Ext V (Au V V.w.heap.size cap' False w'):=Da (by simp [w']) fun b hb=>AV V.w.drew _ b (h2.iLt b hb)
    obtain⟨hi',he'⟩:=h2.alloc (c:=cap') (nl:=False) (w:=w') (ob:=.cells e k news) rfl rfl rfl rfl (by simp [w']) (fun b hb=>AV V.w.drew _ b hb) (by
     have hr:(Au V V.w.heap.size cap' False w').ρ V.nx=V.w.heap.size:=by simp [Au]
     have hc:(Au V V.w.heap.size cap' False w').cap V.nx=cap':=by simp [Au]
     refine .inr ⟨by simp [Au],(Ck news.length k xv).toArray++Builtin.zeroCells zv.cells (cap' - news.length),?_,?_,?_,?_,hkk,?_⟩
     ·have:=BJ V.w.drew (.cells ((Ck news.length k xv).toArray++Builtin.zeroCells zv.cells (cap' - news.length)) e)
      rw [hr];exact this
     ·rw [hc]
      simp only [Array.size_append,List.size_toArray,Ce,Builtin.zeroCells,Array.size_map,Array.size_range,hzc,←Nat.add_mul]
      congr 1;omega
     ·rw [hc];exact hcap
     ·rw [hc];exact hcm
     ·intro a r j c hi hj
      have hil:=(List.getElem?_eq_some_iff.1 hi).1
      have hjl:j < k:=by rw [←hxk r (List.mem_of_getElem? hi)];exact(List.getElem?_eq_some_iff.1 hj).1
      have h10:=Jd (vs:=xv) hil hjl
      refine⟨xv a j,?_,(hxcell a r j c hi hj).2.ext ee⟩
      have hlt:=(List.getElem?_eq_some_iff.1 h10).1
      rw [Array.getElem?_append_left (by simpa using hlt)]
      simpa using h10)
    refine⟨.slice (some ⟨V.w.heap.size,0,none⟩) news.length cap',_,_,(V.nx,.cells e k news)::σ,?_,he',hi',?_,hK hne⟩
    ·rw [hexec,hrun];rfl
    ·have:=@AI.arr (Au V V.w.heap.size cap' False w') V.nx k 0 news.length (by simp [Au]) (by simp [Au]) (by simp [Au];exact hcap)
     have hr:(Au V V.w.heap.size cap' False w').ρ V.nx=V.w.heap.size:=by simp [Au]
     have hc:(Au V V.w.heap.size cap' False w').cap V.nx=cap':=by simp [Au]
     rw [hr,hc,Nat.zero_mul,Nat.sub_zero] at this
     exact this
theorem DW{t e:TypeId}{k b:Nat}{z:List Value}{s x:Operand}{news:List (List C)}{ex:E}[hl:B3 P t e k b][hz:BR P e z]
 (hs:ev f s=some .e) (hx:ev f x=some ex) (hsrc:FU σ k ex=some news) (hkk:∀r∈news,r.length=k) (hzk:z.length=k) (hb0:0 < b) (hb:news.length*b≤140737488355328)
 (hK0:news=[]→K .e σ nx) (hK:news≠[]→K (.o (.arr nx k 0 news.length)) ((nx,.cells e k news)::σ) (nx+1)):B2 P TB Γ ⟨d,.call ⟨.builtin .append,#[s,x],#[t,t]⟩,ty,pos,af,g⟩ f σ nx K:=SY hs hx hsrc hkk hzk hb0 hb (fun h b=>⟨.e,fun V=>⟨b,rfl⟩,hK0 h⟩) hK
end
section
variable {P:Program}{TB:Bw}{Γ:Ctx}{N:Nat}
theorem Ak.AT{c:Code}{Q:Exit→Env→Ab→Nat→Prop}{L0 Lk:List (Nat×E)}{σ Sk:Ab}{nx:Nat}(ks is:List Nat)(hk:KU L0 ks=some Lk)(hi:Rt σ is=some Sk)(v:List (Nat×E))(s:Ab)(l:List Nat)
 (hl:(∀i,i < Γ.V.nx→l[i]? = some i)∧l.Nodup) (h0:CI (nm l nx) (look L0) (v++Lk)∧AS (nm l nx) σ (s++Sk)) (h:Ak P TB Γ N c Q (look (v++Lk)) (s++Sk) l.length):Ak P TB Γ N c Q (look L0) σ nx:=
 Ak.names l (v++Lk) (s++Sk) hl.1 hl.2 h0.1 h0.2 h
end
section
variable {P:Program}{TB:Bw}{Γ:Ctx}{d:Option Tmp}{ty:TypeId}{pos:String}{af:Array Edge}{g:Option (Nat×Bool)}{f:Env}{σ:Ab}{nx:Nat}
variable {K:E→Ab→Nat→Prop}
theorem Fe{t:TypeId}{z:List Value}{fl:List (Nat×Nat)}{parts:Array (Nat×Operand)}{es:List E}{qs:List (Nat×List C)}[hz:BR P t z][hf:Gk P t fl](p k e q k' e':Nat)(hp:z[p]? = some (.slice none 0 0))(hp':z[q]? = some (.slice none 0 0))(hpq:p≠q)(hes:Hz f (parts.toList.map (·.2))=some es)(hq:Eo fl parts.toList es=some qs)
 (hok:z.all Ml=true) (hle:(qs.all fun x=>Nat.ble (x.1+x.2.length) z.length)=true) (hK:K (.a (BZ qs (((z.map zC).set p (.arr nx k 0 0)).set q (.arr (nx+1) k' 0 0)))) ((nx+1,.cells e' k' [])::(nx,.cells e k [])::σ) (nx+2)):B2 P TB Γ ⟨d,.build t parts,ty,pos,af,g⟩ f σ nx K:=
 CQ fun V ρ h1 h2 h3=>by
  subst h3
  obtain⟨i,zv,hi,hzv,hzz⟩:=GU hz.out
  obtain⟨hi1,he1⟩:=h2.alloc (c:=0) (nl:=True) (w:=V.w) (ob:=.cells e k []) rfl rfl rfl rfl (Nat.le_refl _) (fun _ _=>rfl) (.inl ⟨by simp [Au],rfl⟩)
  obtain⟨hi2,he2⟩:=hi1.alloc (c:=0) (nl:=True) (w:=V.w) (ob:=.cells e' k' []) rfl rfl rfl rfl (Nat.le_refl _) (fun _ _=>rfl) (.inl ⟨by simp [Au],rfl⟩)
  have he3:=he1.trans he2
  have hfo:=CR (V:=Au (Au V V.w.heap.size 0 True V.w) V.w.heap.size 0 True V.w) (ρ:=ρ) parts.toList es qs (fun x hx e he=>(h1.get (by simp only [Op.operands];simpa using hx) he).ext he3) hes hq
  have hzr:Cp (Au (Au V V.w.heap.size 0 True V.w) V.w.heap.size 0 True V.w) (((z.map zC).set p (.arr V.nx k 0 0)).set q (.arr (V.nx+1) k' 0 0)) zv.cells:=by
   refine⟨by rw [List.length_set,List.length_set,List.length_map,←hzz];simp,fun j c v hj hv=>?_⟩
   have hzj:z[j]? = some v:=by rw [←hzz,Array.getElem?_toList];exact hv
   by_cases hjq:q=j
   ·subst hjq
    rw [hp'] at hzj
    injection hzj with hzj
    subst hzj
    rw [List.getElem?_set_self (by rw [List.length_set,List.length_map];exact(List.getElem?_eq_some_iff.1 hp').1)] at hj
    injection hj with hj
    subst hj
    exact AI.nil (by simp [Au]) (by simp [Au])
   ·rw [List.getElem?_set_ne hjq] at hj
    by_cases hjp:p=j
    ·subst hjp
     rw [hp] at hzj
     injection hzj with hzj
     subst hzj
     rw [List.getElem?_set_self (by rw [List.length_map];exact(List.getElem?_eq_some_iff.1 hp).1)] at hj
     injection hj with hj
     subst hj
     exact AI.nil (by simp [Au];omega) (by simp [Au])
    ·rw [List.getElem?_set_ne hjp,List.getElem?_map,hzj] at hj
     injection hj with hj
     subst hj
     exact JA (List.all_eq_true.1 hok v (List.mem_of_getElem? hzj))
  obtain⟨cells,h4,h5⟩:=E8 _ _ _ _ hfo hzr (fun x hx=>by rw [List.length_set,List.length_set,List.length_map];exact Ii _ _ hle x hx)
  have hb:=run_build (P:=P) (ρ:=ρ) (parts:=parts) (V:=V) hi hzv hf.out h4
  refine⟨.agg cells,_,_,_,?_,he3,hi2,(show Bc _ (.a _) _ from ⟨cells,rfl,h5⟩),hK⟩
  show ((do let v ←Instr.build t (parts.map fun (i,x)=>(i,ρ x));pure (Go.Next.value v):Sem Go.Next)).run P V.w=_
  simp only [Sem.run_bind,hb,Result.andThen_ok]
  rfl
end
end Go.Am
