/-
  What a call hands back: each result a slot or a cell, of the call's own or laid down for good.
-/
import Derived.Test.YtliafogflkcnbaaGreatDoorPart15
import Derived.Test.YtliafogflkcnbaaGreatDoorPart14
import Derived.Test.YtliafogflkcnbaaGreatDoorPart9
import Derived.Test.YtliafogflkcnbaaGreatDoorPart6
import Derived.Test.YtliafogflkcnbaaGreatDoorPart13
set_option linter.constructorNameAsVariable false
set_option linter.unusedSectionVars false
set_option linter.unusedSimpArgs false
set_option linter.unusedVariables false
namespace Go.Am
open Go
set_option linter.unusedVariables false
def dG:Bool×List C→Option E
 | (false,[c])=>some (.o c)
 | (true,cs)=>some (.a cs)
 | _=>none
def RR(f:Env)(σ:Ab)(t:Tmp)(ag:Bool)(n:Nat):Option (Bool×List C):=match f t with
 | some (.o (.d (.p cs)))=>match Nat.ble n cs.length with
  | true=>some (ag,(cs.take n).map .d)
  | false=>none
 | some (.o (.ptr id k i j))=>match look σ id with
  | some (.cells _ k' rows)=>match Nat.beq k k',nth rows i with
   | true,some r=>match Nat.ble (j+n) r.length with
    | true=>some (ag,(r.drop j).take n)
    | false=>none
   | _,_=>none
  | _=>none
 | _=>none
def TX(T:List (Nat×TI))(f:Env)(σ:Ab):ResultVar→Option (Bool×List C)
 | .tmp t=>match f t with
  | some e=>Pp e
  | none=>none
 | .cell t T'=>match (Hn T T').ld with
  | some (true,n)=>RR f σ t true n
  | some (false,1)=>RR f σ t false 1
  | _=>none
def TY(T:List (Nat×TI))(f:Env)(σ:Ab):List ResultVar→Option (List (Bool×List C))
 | []=>some []
 | r::rs=>match TX T f σ r,TY T f σ rs with
  | some x,some xs=>some (x::xs)
  | _,_=>none
def Wt(T:List (Nat×TI))(rs:Array ResultVar)(f:Env)(σ:Ab):Option E:=match rs.toList with
 | []=>some (.t [])
 | [r]=>match TX T f σ r with
  | some x=>dG x
  | none=>none
 | rs=>match rs.length,TY T f σ rs with
  | 2,some xs=>some (.t xs)
  | 3,some xs=>some (.t xs)
  | 4,some xs=>some (.t xs)
  | _,_=>none
def Up(T:List (Nat×TI))(rs:Array ResultVar)(post:E→Ab→Nat→Prop):Exit→Env→Ab→Nat→Prop
 | .ret,f,σ,nx|.normal,f,σ,nx=>∃x,Wt T rs f σ=some x∧post x σ nx
 | _,_,_,_=>False
section
variable {P:Program}{TB:Bu}{Γ:Ctx}{σ:Ab}
theorem MI{V:View}{f:Env}{a:Act}{t:Tmp}{T':TypeId}{ag:Bool}{n:Nat}{x:Bool×List C}(hi:Inv TB Γ V σ)(hl:DE P T' ag n)(h1n:ag=false→n=1)(hE:C6 V f a.tmps)(h:RR f σ t ag n=some x) :
 ∃v,((do loadVar T' (←asAddr (a.tmps.getD t undef))):Sem Value).run P V.w=.ok v V.w∧Ke V x v:=by
 have key : ∃ (b o:Nat) (cs:List C) (vs:Nat→Value),a.tmps.getD t undef=.pointer (some ⟨b,o,none⟩)∧x=(ag,cs)∧cs.length=n∧∀(q:Nat) (c:C),cs[q]? = some c→V.w.cell? ⟨b,o+q,none⟩=some (vs q)∧AE V c (vs q):=by
  unfold RR at h
  split at h
  ·rename_i ds hf
   split at h
   ·rename_i hn
    have hn:=Nat.le_of_ble_eq_true hn
    injection h with h
    subst h
    have h3:AE V (.d (.p ds)) (a.tmps.getD t undef):=hE t _ hf
    generalize a.tmps.getD t undef=v0 at h3
    obtain⟨h3⟩:=h3
    cases h3 with
    | @p _ b o vs hb h1 h2=>
     refine⟨b,o,_,vs,rfl,rfl,by simp;omega,fun q c hq=>?_⟩
     rw [List.getElem?_map,Option.map_eq_some_iff] at hq
     obtain⟨dd,hd,rfl⟩:=hq
     rw [List.getElem?_take] at hd
     split at hd
     ·exact⟨h1 q dd hd,.d (h2 q dd hd)⟩
     ·cases hd
   ·cases h
  ·rename_i id k i j hf
   split at h
   ·rename_i T0 k' rows ho
    split at h
    ·rename_i r hk hr
     have hk:=Nat.eq_of_beq_eq_true hk
     subst hk
     split at h
     ·rename_i hn
      have hn:=Nat.le_of_ble_eq_true hn
      injection h with h
      subst h
      rw [Kz] at hr
      have h3:AE V (.ptr id k i j) (a.tmps.getD t undef):=hE t _ hf
      generalize a.tmps.getD t undef=v0 at h3
      cases h3 with
      | ptr hid hnl=>
       rcases hi.st.obj id _ ho with ⟨h4,_⟩|⟨_,cur,h4,h5,h6,h7,h8,h9⟩
       ·exact absurd h4 hnl
       ·refine⟨V.ρ id,i*k+j,_,fun q=>cur.getD (i*k+j+q) undef,rfl,rfl,by simp;omega,fun q c hq=>?_⟩
        rw [List.getElem?_take] at hq
        split at hq
        ·rw [List.getElem?_drop] at hq
         obtain⟨v,h10,h11⟩:=h9 i r (j+q) c hr hq
         rw [←Nat.add_assoc] at h10
         have e:cur.getD (i*k+j+q) undef=v:=by simp [h10]
         dsimp only
         rw [e]
         exact⟨by simp [World.cell?,h4,h10],h11⟩
        ·cases hq
     ·cases h
    ·cases h
   ·cases h
  ·cases h
 obtain⟨b,o,cs,vs,hv,rfl,hlen,hc⟩:=key
 rw [hv]
 cases ag with
 | false=>
  have hn1:=h1n rfl
  subst hn1
  match cs,hlen with
  | [c],_=>
   obtain⟨h1,h2⟩:=hc 0 c rfl
   refine⟨vs 0,?_,c,rfl,h2⟩
   rw [Nat.add_zero] at h1
   simp [asAddr,loadVar,(Bv hl.out V.w).1,h1,go_sem]
 | true =>
  refine⟨.agg ((List.range n).map fun q=>vs q).toArray,?_,_,rfl,by simp [hlen],fun j c v hj hvv=>?_⟩
  ·have:(loadCells ⟨b,o,none⟩ n).run P V.w=.ok ((List.range n).map fun q=>vs q).toArray V.w:=run_loadCells V.w _ n _ fun q hq=>by
    rw [Bp]
    exact(hc q cs[q] (List.getElem?_eq_getElem (by omega))).1
   unfold loadCells at this
   simp [asAddr,loadVar,(Bv hl.out V.w).1,(Bv hl.out V.w).2,this,go_sem]
  ·have hq:j < n:=by have:=(List.getElem?_eq_some_iff.1 hj).1;omega
   have:v=vs j:=by simpa [hq] using hvv.symm
   subst this
   exact(hc j c hj).2
theorem Ws[hT:B7 P]{V:View}{f:Env}{a:Act}{r:ResultVar}{x:Bool×List C}(hi:Inv TB Γ V σ)(hE:C6 V f a.tmps)(h:TX hT.T f σ r=some x) :
 ∃v,((match r with
  | .tmp t=>pure (a.tmps.getD t undef)
  | .cell b t=>do loadVar t (←asAddr (a.tmps.getD b undef))):Sem Value).run P V.w=.ok v V.w∧Ke V x v:=by
 have hty:=fun t=>CN (P:=P) t hT.ok
 unfold TX at h
 split at h
 ·rename_i t
  split at h
  ·rename_i e he
   exact⟨_,by simp [go_sem],Ev h (hE t e he)⟩
  ·cases h
 ·rename_i t T'
  split at h
  ·rename_i n hl
   exact MI hi ((hty T').JS hl) (fun h=>(by cases h)) hE h
  ·rename_i hl
   exact MI hi ((hty T').JS hl) (fun _=>rfl) hE h
  ·cases h
theorem Ym{V:View}{x:Bool×List C}{e:E}{v:Value}(h:dG x=some e)(hr:Ke V x v):Bc V e v:=by
 unfold dG at h
 split at h
 ·injection h with h;subst h
  obtain⟨c,h1,h2⟩:=hr
  simp at h1;subst h1;exact h2
 ·injection h with h;subst h;exact hr
 ·cases h
theorem Wu[hT:B7 P]{fn:Func}{V:View}{f:Env}{a:Act}{x:E}(hi:Inv TB Γ V σ)(hE:C6 V f a.tmps)(h:Wt hT.T fn.results f σ=some x):∃v,(results fn a.tmps).run P V.w=.ok v V.w∧Bc V x v:=by
 obtain⟨F,hF,hFr⟩:∃F:ResultVar→Sem Value,results fn a.tmps=(do let vs ←fn.results.mapM F;pure (if h:vs.size=1 then vs[0] else .tuple vs))∧∀r x,TX hT.T f σ r=some x→∃v,(F r).run P V.w=.ok v V.w∧Ke V x v:=
  ⟨fun r=>match r with
   | .tmp t=>pure (a.tmps.getD t undef)
   | .cell b t=>do loadVar t (←asAddr (a.tmps.getD b undef)),rfl,fun r x hr=>Ws hi hE hr⟩
 have two:∀ {r:ResultVar} {rs:List ResultVar} {xs:List (Bool×List C)},TY hT.T f σ (r::rs)=some xs→∃y ys,xs=y::ys∧TX hT.T f σ r=some y∧TY hT.T f σ rs=some ys:=by
  intro r rs xs h
  unfold TY at h
  split at h
  ·rename_i y ys h1 h2
   injection h with h;subst h;exact⟨y,ys,rfl,h1,h2⟩
  ·cases h
 have nil:∀ {xs:List (Bool×List C)},TY hT.T f σ []=some xs→xs=[]:=fun h=>by injection h with h;exact h.symm
 have key:∀l:List ResultVar,fn.results=l.toArray→Wt hT.T l.toArray f σ=some x→∃v,(results fn a.tmps).run P V.w=.ok v V.w∧Bc V x v:=by
  intro l hll h
  rw [hF,hll]
  unfold Wt at h
  simp only at h
  match l with
  | []=>
   injection h with h;subst h
   exact⟨.tuple #[],by simp [go_sem],#[],rfl,rfl,fun j x v hj=>by simp at hj⟩
  | [r]=>
   simp only at h
   split at h
   ·rename_i y hy
    obtain⟨v,h1,h2⟩:=hFr r y hy
    exact⟨v,by simp [h1,go_sem],Ym h h2⟩
   ·cases h
  | [r1,r2]=>
   simp only [List.length_cons,List.length_nil] at h
   split at h
   ·rename_i xs _ hx
    injection h with h;subst h
    obtain⟨y1,ys,rfl,h1,hx⟩:=two hx
    obtain⟨y2,ys,rfl,h2,hx⟩:=two hx
    have:=nil hx;subst this
    obtain⟨v1,e1,t1⟩:=hFr _ _ h1
    obtain⟨v2,e2,t2⟩:=hFr _ _ h2
    refine⟨.tuple #[v1,v2],by simp [e1,e2,go_sem],_,rfl,rfl,fun j x v' hj hv=>?_⟩
    match j with
    | 0=>simp at hj hv;subst hj;subst hv;exact t1
    | 1=>simp at hj hv;subst hj;subst hv;exact t2
    | j+2=>simp at hj
   ·omega
   ·omega
   ·cases h
  | [r1,r2,r3]=>
   simp only [List.length_cons,List.length_nil] at h
   split at h
   ·omega
   ·rename_i xs _ hx
    injection h with h;subst h
    obtain⟨y1,ys,rfl,h1,hx⟩:=two hx
    obtain⟨y2,ys,rfl,h2,hx⟩:=two hx
    obtain⟨y3,ys,rfl,h3,hx⟩:=two hx
    have:=nil hx;subst this
    obtain⟨v1,e1,t1⟩:=hFr _ _ h1
    obtain⟨v2,e2,t2⟩:=hFr _ _ h2
    obtain⟨v3,e3,t3⟩:=hFr _ _ h3
    refine⟨.tuple #[v1,v2,v3],by simp [e1,e2,e3,go_sem],_,rfl,rfl,fun j x v' hj hv=>?_⟩
    match j with
    | 0=>simp at hj hv;subst hj;subst hv;exact t1
    | 1=>simp at hj hv;subst hj;subst hv;exact t2
    | 2=>simp at hj hv;subst hj;subst hv;exact t3
    | j+3=>simp at hj
   ·omega
   ·cases h
  | [r1,r2,r3,r4]=>
   simp only [List.length_cons,List.length_nil] at h
   split at h
   ·omega
   ·omega
   ·rename_i xs _ hx
    injection h with h;subst h
    obtain⟨y1,ys,rfl,h1,hx⟩:=two hx
    obtain⟨y2,ys,rfl,h2,hx⟩:=two hx
    obtain⟨y3,ys,rfl,h3,hx⟩:=two hx
    obtain⟨y4,ys,rfl,h4,hx⟩:=two hx
    have:=nil hx;subst this
    obtain⟨v1,e1,t1⟩:=hFr _ _ h1
    obtain⟨v2,e2,t2⟩:=hFr _ _ h2
    obtain⟨v3,e3,t3⟩:=hFr _ _ h3
    obtain⟨v4,e4,t4⟩:=hFr _ _ h4
    refine⟨.tuple #[v1,v2,v3,v4],by simp [e1,e2,e3,e4,go_sem],_,rfl,rfl,fun j x v' hj hv=>?_⟩
    match j with
    | 0=>simp at hj hv;subst hj;subst hv;exact t1
    | 1=>simp at hj hv;subst hj;subst hv;exact t2
    | 2=>simp at hj hv;subst hj;subst hv;exact t3
    | 3=>simp at hj hv;subst hj;subst hv;exact t4
    | j+4=>simp at hj
   ·cases h
  | _::_::_::_::_::_=>
   simp only [List.length_cons] at h
   cases h
 exact key fn.results.toList (by simp) (by simpa using h)
theorem Bi.Zq [hT:B7 P] {g:FuncId} {fn:Func} {c:Code} {m:Nat} {σ:Ab} {nx:Nat} {args:List E} {post:E→Ab→Nat→Prop} (hm:m≤nx) (hf:P.funcs[g]? = some fn) (hb:fn.body=some c) (hname:(fn.name == "runtime.NumGoroutine")=false)
 (hargs:args.length≤fn.ntmps) (h:∀Γ:Ctx,Γ.V.nx=m→Ak P TB Γ fn.ntmps c (Up hT.T fn.results post) (look (BJ 0 args)) σ nx):Bi P TB g m σ nx args post:=by
 refine⟨⟨fn,hf,hname,by rw [hb];rfl⟩,?_⟩
 intro V vs S hg ha
 refine calls_of_wp hf hb ?_
 have hs:vs.size≤fn.ntmps:=by rw [ha.1];exact hargs
 have hi:Inv TB (EW V (Jo V m) σ S) V σ:=
  ⟨rfl,rfl,rfl,fun _ _ _=>rfl,hg.iLt,fun _ h=>.inl h,Sg (by rw [hg.nx];exact hm),hg.st,fun id o ho hnl b hb=>.inr (.inl ⟨id,o,ho,hnl,hb⟩),hg.tabs,⟨S,hg.hid,fun b hb=>.inl hb,fun b hb=>.inr (.inr hb)⟩⟩
 have hr:BI TB (EW V (Jo V m) σ S) fn.ntmps V (look (BJ 0 args)) σ nx { tmps:=vs++Array.replicate (fn.ntmps - vs.size) undef,defers:=[] } := by
  refine⟨?_,?_,by simp;omega,hi,hg.nx,rfl⟩
  ·intro t e he
   obtain⟨_,h2⟩:=BV args 0 t e he
   have h2:args[t]? = some e:=by simpa using h2
   have hlt:t < vs.size:=by rw [ha.1];exact(List.getElem?_eq_some_iff.1 h2).1
   have h3:=ha.2 t e vs[t] h2 (Array.getElem?_eq_getElem hlt)
   simpa [Array.getElem?_append_left hlt,hlt] using h3
  ·intro t e he
   obtain⟨_,h2⟩:=BV args 0 t e he
   have h2:args[t]? = some e:=by simpa using h2
   have:=(List.getElem?_eq_some_iff.1 h2).1
   omega
 refine wp_mono (h (EW V (Jo V m) σ S) rfl V _ hr) ?_
 rintro e a' w' ⟨V',f',σ',rfl,hq,hr'⟩
 have fin:(∃x,Wt hT.T fn.results f' σ'=some x∧post x σ' V'.nx)→a'.defers=[]∧∃v,(results fn a'.tmps).run P V'.w=.ok v V'.w∧∃V'' v' x σ'',Ending.returned v=.returned v'∧V''.w=V'.w∧Inv TB (EW V (Jo V m) σ S) V'' σ''∧Bc V'' x v'∧post x σ'' V''.nx:=by
  rintro⟨x,hx,hp⟩
  obtain⟨v,hv,he⟩:=Wu (P:=P) hr'.inv hr'.env hx
  exact⟨hr'.defers,v,hv,V',v,x,σ',rfl,rfl,hr'.inv,he,hp⟩
 cases e with
 | normal=>exact fin hq
 | ret=>exact fin hq
 | exit id=>exact hq.elim
 | goto l=>exact hq.elim
 | panic ch=>exact hq.elim
 | outgrown=>exact hq.elim
theorem eG [hT:B7 P] {g:FuncId} {fn:Func} {c:Code} {nx:Nat} {args:List E} {post:E→Ab→Nat→Prop} (hf:P.funcs[g]? = some fn) (hb:fn.body=some c) (hname:(fn.name == "runtime.NumGoroutine")=false)
 (ha:Nat.ble args.length fn.ntmps=true) (h:∀Γ:Ctx,Γ.V.nx=nx→Ak P TB Γ fn.ntmps c (Up hT.T fn.results post) (look (BJ 0 args)) σ nx):Spec P TB g σ nx args post:=
 Bi.E3 (Bi.Zq (Nat.le_refl _) hf hb hname (Nat.le_of_ble_eq_true ha) h)
end
section
variable {P:Program}{TB:Bu}{Γ:Ctx}{d:Option Tmp}{ty:TypeId}{pos:String}{af:Array Edge}{g:Option (Nat×Bool)}{f:Env}{σ:Ab}{nx:Nat}
variable {K:E→Ab→Nat→Prop}
theorem N6{t e:TypeId}{k b:Nat}{z:List Value}[hl:BY P t e k b][hz:BF P e z](hzk:z.length=k)(hok:z.all MC=true):AY P TB Γ ⟨d,.buildSlice t 0 #[],ty,pos,af,g⟩ f σ nx .e:=
 Ju fun V ρ h1 h2=>by
  obtain⟨cur,h3,h4,h5⟩:=FX (es:=[]) hl.out hz.out hzk hok h1 rfl rfl rfl rfl (by simp) (by simp)
  have hw:∀b,b < V.w.heap.size→(V.w.alloc (.cells cur e)).heap[b]? = V.w.heap[b]?:=fun b hb=>AX V.w _ b hb
  obtain⟨hi,he⟩:=R.Inv.grow h2 (w:=V.w.alloc (.cells cur e)) rfl rfl rfl (by simp) hw
  exact⟨_,{ V with w:=V.w.alloc (.cells cur e) },h3,he,hi,rfl,⟨_,rfl⟩⟩
theorem TL{t e:TypeId}{k b:Nat}{z:List Value}{s x:Operand}{news:List (List C)}{ex:E}[hl:BY P t e k b][hz:BF P e z]
 (hs:ev f s=some .e) (hx:ev f x=some ex) (hsrc:FY σ k ex=some news) (hkk:∀r∈news,r.length=k) (hzk:z.length=k) (hb0:0 < b) (hb:news.length*b≤140737488355328)
 (hK0:news=[]→∀b,∃y,(∀V:View,Bc V y (.slice b 0 0))∧K y σ nx) (hK:news≠[]→K (.o (.arr nx k 0 news.length)) ((nx,.cells e k news)::σ) (nx+1)):B2 P TB Γ ⟨d,.call ⟨.builtin .append,#[s,x],#[t,t]⟩,ty,pos,af,g⟩ f σ nx K:=
 CQ fun V ρ h1 h2 h3=>by
  subst h3
  obtain⟨i,hu,hi,hsz,hby⟩:=E2 hl.out
  have hz':=hz.out
  simp only [Uh,hi,Option.bind_some,Option.map_eq_some_iff] at hz'
  obtain⟨zv,hzv,hzz⟩:=hz'
  have hzc:zv.cells.size=k:=by rw [←hzk,←hzz];simp
  obtain⟨sb,hsv⟩:=h1.get (x:=s) (by simp [Op.operands,Call.operands]) hs
  have hxr:=SJ h2 hsrc hkk (h1.get (x:=x) (by simp [Op.operands,Call.operands]) hx)
  have hexec:∀w,(execOp ρ ⟨d,.call ⟨.builtin .append,#[s,x],#[t,t]⟩,ty,pos,af,g⟩).run P w=((Builtin.append_ #[t,t] ty #[ρ s,ρ x]).run P w).andThen fun v w'=>.ok (.value v) w':=fun w=>by
   simp only [execOp,resolve,invoke,builtin,List.map_toArray,List.map_cons,List.map_nil,pure_bind,bind_pure_comp,Sem.run_map]
  have hmax:news.length≤maxLen:=by
   have:news.length≤news.length*b:=Nat.le_mul_of_pos_right _ hb0
   unfold maxLen;omega
  have hint:((news.length:Nat):Int)≤9223372036854775807:=by
   have:news.length≤news.length*b:=Nat.le_mul_of_pos_right _ hb0
   omega
  rw [hsv] at hexec
  generalize hvx:ρ x=vx at *
  have nothing0:=fun h=>hK0 h sb
  have nothing:news=[]→∀v,(Builtin.append_ #[t,t] ty #[.slice sb 0 0,vx]).run P V.w=.ok (.slice sb 0 0) V.w→v=Value.slice sb 0 0→
   ∃v V' xx σ',(execOp ρ ⟨d,.call ⟨.builtin .append,#[s,x],#[t,t]⟩,ty,pos,af,g⟩).run P V.w=.ok (.value v) V'.w∧Ext V V'∧Inv TB Γ V' σ'∧Bc V' xx v∧K xx σ' V'.nx:=fun hn v hr _=>
   let ⟨y,k1,k2⟩:=nothing0 hn
   ⟨.slice sb 0 0,V,y,σ,by rw [hexec,hr];rfl,Ext.refl _,h2,k1 V,k2⟩
  rcases hxr with ⟨rfl,hnil⟩|⟨xa,xc,xv,rfl,hxk,hxcell⟩
  ·exact nothing hnil _ (DS hu hi V.w sb 0 0 (Nat.le_refl _) ty) rfl
  ·have hnewsl:(Cp news.length k xv).length=news.length*i.size:=by rw [Ce,hsz]
   have hnewsc:∀j u,(Cp news.length k xv)[j]? = some u→V.w.cell? (xa.add j)=some u:=by
    intro q u hq
    obtain⟨a,b,rfl,ha,hb,rfl⟩:=Jj hq
    have hbl:b < news[a].length:=by rw [hxk _ (List.getElem_mem ha)];exact hb
    exact(hxcell a news[a] b news[a][b] (List.getElem?_eq_getElem ha) (List.getElem?_eq_getElem hbl)).1
   rcases Nat.eq_zero_or_pos news.length with hm0|hm0
   ·have hnn:news=[]:=List.length_eq_zero_iff.1 hm0
    refine nothing hnn _ ?_ rfl
    subst hnn
    cases sb<;>simp [Builtin.append_,run_underlying hu,sizeOf,typeInfo,hi,Builtin.lenOf,Builtin.firstCells,loadCells,loadCellsFrom,storeCells,go_sem]
   ·have hne:news≠[]:=fun h=>by subst h;simp at hm0
    have hrun:(Builtin.append_ #[t,t] ty #[.slice sb 0 0,.slice (some xa) news.length xc]).run P V.w=.ok (.slice (some ⟨V.w.heap.size,0,none⟩) news.length (grownCap V.w news.length 0 e))
     (V.w.drew.alloc (.cells ((Cp news.length k xv).toArray++Builtin.zeroCells zv.cells (grownCap V.w news.length 0 e - news.length)) e)):=by
     cases sb with
     | none=>
      have hr:=run_append_nil (P:=P) V.w t ty e i zv hu hi hzv xa news.length xc _ hnewsl hnewsc hm0 (by omega) (by rw [hby];omega)
      rw [hr]
     | some sa=>
      have hr:=run_append_grow (P:=P) V.w t ty e i zv hu hi hzv sa 0 0 [] (by simp) (fun j v hj=>by simp at hj) xa news.length xc _ hnewsl hnewsc (by omega) (by simpa using hint) (by rw [hby];exact growslice_fits (by omega) (by simpa using hb))
      simpa using hr
    have hcap:=grownCap_ge V.w news.length 0 e
    have hcm:=grownCap_le_maxLen V.w news.length 0 e hmax
    generalize grownCap V.w news.length 0 e=cap' at *
    let w':=V.w.drew.alloc (.cells ((Cp news.length k xv).toArray++Builtin.zeroCells zv.cells (cap' - news.length)) e)
    have ee:Ext V (Av V V.w.heap.size cap' False w'):=C9 (by simp [w']) fun b hb=>AX V.w.drew _ b (h2.iLt b hb)
    obtain⟨hi',he'⟩:=h2.alloc (c:=cap') (nl:=False) (w:=w') (ob:=.cells e k news) rfl rfl rfl rfl (by simp [w']) (fun b hb=>AX V.w.drew _ b hb) (by
     have hr:(Av V V.w.heap.size cap' False w').ρ V.nx=V.w.heap.size:=by simp [Av]
     have hc:(Av V V.w.heap.size cap' False w').cap V.nx=cap':=by simp [Av]
     refine .inr ⟨by simp [Av],(Cp news.length k xv).toArray++Builtin.zeroCells zv.cells (cap' - news.length),?_,?_,?_,?_,hkk,?_⟩
     ·have:=BG V.w.drew (.cells ((Cp news.length k xv).toArray++Builtin.zeroCells zv.cells (cap' - news.length)) e)
      rw [hr];exact this
     ·rw [hc]
      simp only [Array.size_append,List.size_toArray,Ce,Builtin.zeroCells,Array.size_map,Array.size_range,hzc,←Nat.add_mul]
      congr 1;omega
     ·rw [hc];exact hcap
     ·rw [hc];exact hcm
     ·intro a r j c hi hj
      have hil:=(List.getElem?_eq_some_iff.1 hi).1
      have hjl:j < k:=by rw [←hxk r (List.mem_of_getElem? hi)];exact(List.getElem?_eq_some_iff.1 hj).1
      have h10:=Ji (vs:=xv) hil hjl
      refine⟨xv a j,?_,(hxcell a r j c hi hj).2.ext ee⟩
      have hlt:=(List.getElem?_eq_some_iff.1 h10).1
      rw [Array.getElem?_append_left (by simpa using hlt)]
      simpa using h10)
    refine⟨.slice (some ⟨V.w.heap.size,0,none⟩) news.length cap',_,_,(V.nx,.cells e k news)::σ,?_,he',hi',?_,hK hne⟩
    ·rw [hexec,hrun];rfl
    ·have:=@AE.arr (Av V V.w.heap.size cap' False w') V.nx k 0 news.length (by simp [Av]) (by simp [Av]) (by simp [Av];exact hcap)
     have hr:(Av V V.w.heap.size cap' False w').ρ V.nx=V.w.heap.size:=by simp [Av]
     have hc:(Av V V.w.heap.size cap' False w').cap V.nx=cap':=by simp [Av]
     rw [hr,hc,Nat.zero_mul,Nat.sub_zero] at this
     exact this
theorem Ea{t e:TypeId}{k b:Nat}{z:List Value}{s x:Operand}{news:List (List C)}{ex:E}[hl:BY P t e k b][hz:BF P e z]
 (hs:ev f s=some .e) (hx:ev f x=some ex) (hsrc:FY σ k ex=some news) (hkk:∀r∈news,r.length=k) (hzk:z.length=k) (hb0:0 < b) (hb:news.length*b≤140737488355328)
 (hK0:news=[]→K .e σ nx) (hK:news≠[]→K (.o (.arr nx k 0 news.length)) ((nx,.cells e k news)::σ) (nx+1)):B2 P TB Γ ⟨d,.call ⟨.builtin .append,#[s,x],#[t,t]⟩,ty,pos,af,g⟩ f σ nx K:=TL hs hx hsrc hkk hzk hb0 hb (fun h b=>⟨.e,fun V=>⟨b,rfl⟩,hK0 h⟩) hK
end
section
variable {P:Program}{TB:Bu}{Γ:Ctx}{N:Nat}
theorem Ak.AU{c:Code}{Q:Exit→Env→Ab→Nat→Prop}{L0 Lk:List (Nat×E)}{σ Sk:Ab}{nx:Nat}(ks is:List Nat)(hk:K9 L0 ks=some Lk)(hi:Sd σ is=some Sk)(v:List (Nat×E))(s:Ab)(l:List Nat)
 (hl:(∀i,i < Γ.V.nx→l[i]? = some i)∧l.Nodup) (h0:CI (nm l nx) (look L0) (v++Lk)∧AS (nm l nx) σ (s++Sk)) (h:Ak P TB Γ N c Q (look (v++Lk)) (s++Sk) l.length):Ak P TB Γ N c Q (look L0) σ nx:=
 Ak.names l (v++Lk) (s++Sk) hl.1 hl.2 h0.1 h0.2 h
end
section
variable {P:Program}{TB:Bu}{Γ:Ctx}{d:Option Tmp}{ty:TypeId}{pos:String}{af:Array Edge}{g:Option (Nat×Bool)}{f:Env}{σ:Ab}{nx:Nat}
variable {K:E→Ab→Nat→Prop}
theorem Fk{t:TypeId}{z:List Value}{fl:List (Nat×Nat)}{parts:Array (Nat×Operand)}{es:List E}{qs:List (Nat×List C)}[hz:BF P t z][hf:EE P t fl](p k e q k' e':Nat)(hp:z[p]? = some (.slice none 0 0))(hp':z[q]? = some (.slice none 0 0))(hpq:p≠q)(hes:HE f (parts.toList.map (·.2))=some es)(hq:Eu fl parts.toList es=some qs)
 (hok:z.all MC=true) (hle:(qs.all fun x=>Nat.ble (x.1+x.2.length) z.length)=true) (hK:K (.a (BX qs (((z.map zC).set p (.arr nx k 0 0)).set q (.arr (nx+1) k' 0 0)))) ((nx+1,.cells e' k' [])::(nx,.cells e k [])::σ) (nx+2)):B2 P TB Γ ⟨d,.build t parts,ty,pos,af,g⟩ f σ nx K:=
 CQ fun V ρ h1 h2 h3=>by
  subst h3
  obtain⟨i,zv,hi,hzv,hzz⟩:=GU hz.out
  obtain⟨hi1,he1⟩:=h2.alloc (c:=0) (nl:=True) (w:=V.w) (ob:=.cells e k []) rfl rfl rfl rfl (Nat.le_refl _) (fun _ _=>rfl) (.inl ⟨by simp [Av],rfl⟩)
  obtain⟨hi2,he2⟩:=hi1.alloc (c:=0) (nl:=True) (w:=V.w) (ob:=.cells e' k' []) rfl rfl rfl rfl (Nat.le_refl _) (fun _ _=>rfl) (.inl ⟨by simp [Av],rfl⟩)
  have he3:=he1.trans he2
  have hfo:=CR (V:=Av (Av V V.w.heap.size 0 True V.w) V.w.heap.size 0 True V.w) (ρ:=ρ) parts.toList es qs (fun x hx e he=>(h1.get (by simp only [Op.operands];simpa using hx) he).ext he3) hes hq
  have hzr:Cu (Av (Av V V.w.heap.size 0 True V.w) V.w.heap.size 0 True V.w) (((z.map zC).set p (.arr V.nx k 0 0)).set q (.arr (V.nx+1) k' 0 0)) zv.cells:=by
   refine⟨by rw [List.length_set,List.length_set,List.length_map,←hzz];simp,fun j c v hj hv=>?_⟩
   have hzj:z[j]? = some v:=by rw [←hzz,Array.getElem?_toList];exact hv
   by_cases hjq:q=j
   ·subst hjq
    rw [hp'] at hzj
    injection hzj with hzj
    subst hzj
    rw [List.getElem?_set_self (by rw [List.length_set,List.length_map];exact(List.getElem?_eq_some_iff.1 hp').1)] at hj
    injection hj with hj
    subst hj
    exact AE.nil (by simp [Av]) (by simp [Av])
   ·rw [List.getElem?_set_ne hjq] at hj
    by_cases hjp:p=j
    ·subst hjp
     rw [hp] at hzj
     injection hzj with hzj
     subst hzj
     rw [List.getElem?_set_self (by rw [List.length_map];exact(List.getElem?_eq_some_iff.1 hp).1)] at hj
     injection hj with hj
     subst hj
     exact AE.nil (by simp [Av];omega) (by simp [Av])
    ·rw [List.getElem?_set_ne hjp,List.getElem?_map,hzj] at hj
     injection hj with hj
     subst hj
     exact JE (List.all_eq_true.1 hok v (List.mem_of_getElem? hzj))
  obtain⟨cells,h4,h5⟩:=Ff _ _ _ _ hfo hzr (fun x hx=>by rw [List.length_set,List.length_set,List.length_map];exact Im _ _ hle x hx)
  have hb:=run_build (P:=P) (ρ:=ρ) (parts:=parts) (V:=V) hi hzv hf.out h4
  refine⟨.agg cells,_,_,_,?_,he3,hi2,(show Bc _ (.a _) _ from ⟨cells,rfl,h5⟩),hK⟩
  show ((do let v ←Instr.build t (parts.map fun (i,x)=>(i,ρ x));pure (Go.Next.value v):Sem Go.Next)).run P V.w=_
  simp only [Sem.run_bind,hb,Result.andThen_ok]
  rfl
end
abbrev GW:=List (Value×List Int)
def sI(l:GW):List (Value×List Value):=l.map fun x=>(x.1,x.2.map (.int .i64))
def AA(l:GW):List (List C):=l.map fun x=>[.d (.v x.1)]
abbrev II(xs:List Int):List (List C):=xs.map AB
theorem Xh{V:View}{i k off n:Nat}{v:Value}(h:AE V (.arr i k off n) v):(V.nl i∧off=0∧n=0∧v=.slice none 0 0)∨(¬V.nl i∧off+n≤V.cap i∧v=.slice (some ⟨V.ρ i,off*k,none⟩) n (V.cap i - off)):=by
 cases h with
 | nil _ h=>exact .inl ⟨h,rfl,rfl,rfl⟩
 | arr _ h1 h2=>exact .inr ⟨h1,h2,rfl⟩
theorem HR(l m:GW):sI (l++m)=sI l++sI m:=List.map_append
theorem AO(l m:GW):AA (l++m)=AA l++AA m:=List.map_append
theorem BS(l:GW):(AA l).length=l.length:=List.length_map _
theorem Py(r:Nat→Nat)(l:GW):(AA l).map (C.Bz r)=AA l:=by
 unfold AA
 rw [List.map_map]
 rfl
theorem VH(l:List Int):(II l).length=l.length:=List.length_map _
section
variable {P:Program}{TB:Bu}{Γ:Ctx}{N:Nat}{V:View}{σ:Ab}{a i s:Nat}{T Ta:TypeId}{R1 R2:List (List C)}{xs:List Int}{l1 l2:GW}
theorem QX{l:GW}{x:Value×List Value}(h:x∈sI l):∃y∈l,x=(y.1,y.2.map (.int .i64)):=by
 obtain⟨y,hy,rfl⟩:=List.mem_map.1 h
 exact⟨y,hy,rfl⟩
theorem Inv.put(h:Inv TB Γ V σ)(ha:look σ a=some (.cells Ta 1 (R1++[.arr i 1 0 xs.length]::R2)))(hi:look σ i=some (.cells T 1 (II xs)))(hs:look σ s=some (.sld T (sI (l1++l2)))) :
 ∃v,Inv TB Γ V ((a,.cells Ta 1 (R1++[.d (.v v)]::R2))::(s,.sld T (sI (l1++(v,xs)::l2)))::kill i σ):=by
 have has:a≠s:=fun e=>by rw [e,hs] at ha;cases ha
 have his:i≠s:=fun e=>by rw [e,hs] at hi;cases hi
 have hai:a≠i:=fun e=>by
  rw [e,hi] at ha
  injection ha with ha;injection ha with _ _ ha
  have h1:(II xs)[R1.length]? = some [.arr i 1 0 xs.length]:=by rw [ha];simp
  rw [List.getElem?_map,Option.map_eq_some_iff] at h1
  obtain⟨x,_,hx⟩:=h1
  cases hx
 rcases h.st.obj a _ ha with ⟨_,h0⟩|⟨hna,cur,h2,h3,h4,h5,h6,h7⟩
 ·simp at h0
 obtain⟨v,hv,hc⟩:=h7 R1.length [.arr i 1 0 xs.length] 0 (.arr i 1 0 xs.length) (by simp) rfl
 have hc:=Xh hc
 have hsl:LO v=true:=by rcases hc with ⟨_,_,_,rfl⟩|⟨_,_,rfl⟩<;>rfl
 have hblk:∀b,HA v b→¬V.nl i∧b=V.ρ i:=by
  rintro b ⟨o,n,c,rfl⟩
  rcases hc with ⟨_,_,_,hw⟩|⟨hn,_,hw⟩
  ·cases hw
  ·injection hw with hw;injection hw with hw;injection hw with hw;exact⟨hn,hw⟩
 have hslot:Ia V.w T v (xs.map (.int .i64)):=by
  rcases h.st.obj i _ hi with ⟨g1,g2⟩|⟨hni,cur',g2,g3,g4,g5,g6,g7⟩
  ·have:xs=[]:=by simpa using g2
   subst this
   rcases hc with ⟨_,_,_,rfl⟩|⟨hn,_⟩
   ·exact .inl ⟨rfl,rfl⟩
   ·exact absurd g1 hn
  ·rcases hc with ⟨hn,_⟩|⟨_,hle,rfl⟩
   ·exact absurd hn hni
   ·refine .inr ⟨V.ρ i,V.cap i,cur',by simp,g2,by simpa using g3,by rw [VH] at g4;simpa using g4,g5,fun j x hj=>?_⟩
    rw [List.getElem?_map,Option.map_eq_some_iff] at hj
    obtain⟨n,hn,rfl⟩:=hj
    obtain⟨w,hw,hcw⟩:=g7 j [.d (.v (.int .i64 n))] 0 (.d (.v (.int .i64 n))) (by simp [II,hn]) rfl
    have:w=.int .i64 n:=AE.val hcw
    subst this
    exact⟨by simpa using hw,rfl⟩
 refine⟨v,?_⟩
 have look':∀id o,look ((a,.cells Ta 1 (R1++[.d (.v v)]::R2))::(s,.sld T (sI (l1++(v,xs)::l2)))::kill i σ) id=some o→
  (id=a∧o=.cells Ta 1 (R1++[.d (.v v)]::R2))∨(id=s∧o=.sld T (sI (l1++(v,xs)::l2)))∨(id≠a∧id≠s∧id≠i∧look σ id=some o):=fun id o ho=>by
  rw [Ax] at ho
  by_cases h1:a=id
  ·rw [if_pos h1] at ho;injection ho with ho;exact .inl ⟨h1.symm,ho.symm⟩
  ·rw [if_neg h1,Ax] at ho
   by_cases h2:s=id
   ·rw [if_pos h2] at ho;injection ho with ho;exact .inr (.inl ⟨h2.symm,ho.symm⟩)
   ·rw [if_neg h2,Du] at ho
    by_cases h3:id=i
    ·rw [if_pos h3] at ho;cases ho
    ·rw [if_neg h3] at ho;exact .inr (.inr ⟨Ne.symm h1,Ne.symm h2,h3,ho⟩)
 have hsb:∀b,DF V s (.sld T (sI (l1++(v,xs)::l2))) b→DF V s (.sld T (sI (l1++l2))) b∨(¬V.nl i∧b=V.ρ i):=by
  rintro b ⟨x,hx,hb⟩
  obtain⟨y,hy,rfl⟩:=QX hx
  rcases List.mem_append.1 hy with hy|hy
  ·exact .inl ⟨_,List.mem_map.2 ⟨y,List.mem_append_left _ hy,rfl⟩,hb⟩
  ·rcases List.mem_cons.1 hy with rfl|hy
   ·exact .inr (hblk b hb)
   ·exact .inl ⟨_,List.mem_map.2 ⟨y,List.mem_append_right _ hy,rfl⟩,hb⟩
 have hos:=h.st.obj s _ hs
 have hdis:∀x∈sI (l1++l2),∀b,HA x.1 b→¬HA v b:=fun x hx b hb hb'=>by
  obtain⟨hn,rfl⟩:=hblk b hb'
  exact h.st.inj s i _ _ hs hi (Ne.symm his) hos.1 hn _ ⟨x,hx,hb⟩ rfl
 have src:∀id o,look ((a,.cells Ta 1 (R1++[.d (.v v)]::R2))::(s,.sld T (sI (l1++(v,xs)::l2)))::kill i σ) id=some o→¬V.nl id→∀b,DF V id o b→∃id0 o0,look σ id0=some o0∧¬V.nl id0∧DF V id0 o0 b∧(id0=id∨id0=i∧id=s):=fun id o ho hn b hb=>by
  rcases look' id o ho with ⟨rfl,rfl⟩|⟨rfl,rfl⟩|⟨_,_,_,ho⟩
  ·exact⟨_,_,ha,hn,hb,.inl rfl⟩
  ·rcases hsb b hb with hb|⟨h1,rfl⟩
   ·exact⟨_,_,hs,hn,hb,.inl rfl⟩
   ·exact⟨_,_,hi,h1,rfl,.inr ⟨rfl,rfl⟩⟩
  ·exact⟨_,_,ho,hn,hb,.inl rfl⟩
 have noi:∀id o,look ((a,.cells Ta 1 (R1++[.d (.v v)]::R2))::(s,.sld T (sI (l1++(v,xs)::l2)))::kill i σ) id=some o→id≠i:=fun id o ho=>by
  rcases look' id o ho with ⟨rfl,rfl⟩|⟨rfl,rfl⟩|⟨_,_,h3,_⟩
  ·exact hai
  ·exact Ne.symm his
  ·exact h3
 refine⟨h.os,h.tape,h.output,h.old,h.iLt,h.iNew,h.ext,⟨fun id o ho=>?_,fun id o ho=>?_,fun id o ho hn b hb=>?_,fun id id' o o' ho ho' hne hn hn' b hb hb'=>?_⟩,fun id o ho hn b hb=>?_,h.tabs,h.hid.same rfl (fun _ h=>h) (fun _ h=>.inl h) fun b ⟨id,o,ho,hn,hb⟩=>let ⟨id0,o0,g1,g2,g3,_⟩:=src id o ho hn b hb;⟨id0,o0,g1,g2,g3⟩⟩
 ·rcases look' id o ho with ⟨rfl,rfl⟩|⟨rfl,rfl⟩|⟨_,_,_,ho⟩
  ·refine .inr ⟨hna,cur,h2,h3,by simpa using h4,h5,fun r hr=>?_,fun q r j c hq hj=>?_⟩
   ·rcases List.mem_append.1 hr with hr|hr
    ·exact h6 r (List.mem_append_left _ hr)
    ·rcases List.mem_cons.1 hr with rfl|hr
     ·rfl
     ·exact h6 r (List.mem_append_right _ (List.mem_cons_of_mem _ hr))
   ·by_cases hq0:q=R1.length
    ·subst hq0
     simp at hq
     subst hq
     have hj0:j=0:=by have:=(List.getElem?_eq_some_iff.1 hj).1;simp at this;omega
     subst hj0
     simp at hj
     subst hj
     exact⟨v,hv,.d (.v hsl)⟩
    ·refine h7 q r j c ?_ hj
     rw [←hq]
     rcases Nat.lt_or_ge q R1.length with h8|h8
     ·rw [List.getElem?_append_left h8,List.getElem?_append_left h8]
     ·rw [List.getElem?_append_right h8,List.getElem?_append_right h8]
      obtain⟨k,hk⟩:∃k,q - R1.length=k+1:=⟨q - R1.length - 1,by omega⟩
      rw [hk];rfl
  ·refine⟨hos.1,?_,fun x hx=>?_⟩
   ·have hp:=hos.2.1
    rw [HR,List.pairwise_append] at hp
    rw [HR,List.pairwise_append]
    refine⟨hp.1,List.pairwise_cons.2 ⟨fun y hy b hb hb'=>hdis y (by rw [HR];exact List.mem_append_right _ hy) b hb' hb,hp.2.1⟩,fun x hx y hy=>?_⟩
    rcases List.mem_cons.1 hy with rfl|hy
    ·exact fun b hb=>hdis x (by rw [HR];exact List.mem_append_left _ hx) b hb
    ·exact hp.2.2 x hx y hy
   ·obtain⟨y,hy,rfl⟩:=QX hx
    rcases List.mem_append.1 hy with hy|hy
    ·exact hos.2.2 _ (List.mem_map.2 ⟨y,List.mem_append_left _ hy,rfl⟩)
    ·rcases List.mem_cons.1 hy with rfl|hy
     ·exact hslot
     ·exact hos.2.2 _ (List.mem_map.2 ⟨y,List.mem_append_right _ hy,rfl⟩)
  ·exact h.st.obj id o ho
 ·rcases look' id o ho with ⟨rfl,rfl⟩|⟨rfl,rfl⟩|⟨_,_,_,ho⟩
  ·exact h.st.lt _ _ ha
  ·exact h.st.lt _ _ hs
  ·exact h.st.lt _ _ ho
 ·obtain⟨id0,o0,g1,g2,g3,_⟩:=src id o ho hn b hb
  exact h.st.free _ _ g1 g2 b g3
 ·obtain⟨id0,o0,g1,g2,g3,g4⟩:=src id o ho hn b hb
  obtain⟨id0',o0',g1',g2',g3',g4'⟩:=src id' o' ho' hn' b hb'
  refine h.st.inj id0 id0' _ _ g1 g1' ?_ g2 g2' b g3 g3'
  have n1:=noi id o ho
  have n2:=noi id' o' ho'
  rintro rfl
  rcases g4 with rfl|⟨rfl,rfl⟩<;>rcases g4' with rfl|⟨e1,rfl⟩
  ·exact hne rfl
  ·exact n1 e1
  ·exact n2 rfl
  ·exact hne rfl
 ·obtain⟨id0,o0,g1,g2,g3,_⟩:=src id o ho hn b hb
  exact h.live _ _ g1 g2 b g3
theorem Ak.put{c:Code}{Q:Exit→Env→Ab→Nat→Prop}{f:Env}{nx:Nat}(a i s:Nat)(R1 R2:List (List C))(xs:List Int)(l1 l2:GW)(ha:look σ a=some (.cells Ta 1 (R1++[.arr i 1 0 xs.length]::R2)))(hi:look σ i=some (.cells T 1 (II xs)))(hs:look σ s=some (.sld T (sI (l1++l2))))
 (h:∀v,Ak P TB Γ N c Q f ((a,.cells Ta 1 (R1++[.d (.v v)]::R2))::(s,.sld T (sI (l1++(v,xs)::l2)))::kill i σ) nx):Ak P TB Γ N c Q f σ nx:=by
 intro V ac hr
 obtain⟨v,hi'⟩:=hr.inv.put ha hi hs
 exact h v V ac ⟨hr.env,hr.lt,hr.size,hi',hr.nx,hr.defers⟩
theorem Inv.take{v:Value}(h:Inv TB Γ V σ)(ha:look σ a=some (.cells Ta 1 (R1++[.d (.v v)]::R2)))(hs:look σ s=some (.sld T (sI (l1++(v,xs)::l2)))) :
 ∃V',V'.w=V.w∧V'.nx=V.nx+1∧Ext V V'∧Inv TB Γ V' ((a,.cells Ta 1 (R1++[.arr V.nx 1 0 xs.length]::R2))::(V.nx,.cells T 1 (II xs))::(s,.sld T (sI (l1++l2)))::σ):=by
 have has:a≠s:=fun e=>by rw [e,hs] at ha;cases ha
 have hos:=h.st.obj s _ hs
 have hsn:=h.st.lt _ _ hs
 have han:=h.st.lt _ _ ha
 have hmem:((v,xs.map (.int .i64)):Value×List Value)∈sI (l1++(v,xs)::l2):=List.mem_map.2 ⟨(v,xs),by simp,rfl⟩
 obtain⟨b0,cap,nl,hb0,hcr,hob⟩:∃b0 cap nl,(¬nl→HA v b0)∧AE (Av V b0 cap nl V.w) (.arr V.nx 1 0 xs.length) v∧B8 (Av V b0 cap nl V.w) V.nx (.cells T 1 (II xs)):=by
  rcases hos.2.2 _ hmem with ⟨h1,h2⟩|⟨b,cap,cur,h1,h2,h3,h4,h5,h6⟩
  ·have h1:v=.slice none 0 0:=h1
   have hx0:xs=[]:=by simpa using h2
   subst h1;subst hx0
   exact⟨0,0,True,fun h=>absurd trivial h,.nil (by simp [Av]) (by simp [Av]),.inl ⟨by simp [Av],rfl⟩⟩
  ·have h1:v=.slice (some ⟨b,0,none⟩) (xs.map (Value.int .i64)).length cap:=h1
   rw [List.length_map] at h1 h4
   refine⟨b,cap,False,fun _=>⟨_,_,_,h1⟩,?_,.inr ⟨by simp [Av],cur,by simpa [Av] using h2,by simpa [Av] using h3,by simpa [Av] using h4,by simpa [Av] using h5,fun r hr=>?_,fun q r j c hq hj=>?_⟩⟩
   ·rw [h1]
    have:=@AE.arr (Av V b cap False V.w) V.nx 1 0 xs.length (by simp [Av]) (by simp [Av]) (by simpa [Av] using h4)
    simpa [Av] using this
   ·obtain⟨n,_,rfl⟩:=List.mem_map.1 hr;rfl
   ·rw [List.getElem?_map,Option.map_eq_some_iff] at hq
    obtain⟨n,hn,rfl⟩:=hq
    have hj0:j=0:=by have:=(List.getElem?_eq_some_iff.1 hj).1;simp at this;omega
    subst hj0
    simp at hj
    subst hj
    exact⟨.int .i64 n,by simpa using (h6 q (.int .i64 n) (by simp [hn])).1,.d (.v rfl)⟩
 have e:Ext V (Av V b0 cap nl V.w):=C9 (Nat.le_refl _) fun _ _=>rfl
 have hρ:(Av V b0 cap nl V.w).ρ V.nx=b0:=by simp [Av]
 have hnl:(Av V b0 cap nl V.w).nl V.nx↔nl:=by simp [Av]
 refine⟨Av V b0 cap nl V.w,rfl,rfl,e,?_⟩
 have look':∀id o,look ((a,.cells Ta 1 (R1++[.arr V.nx 1 0 xs.length]::R2))::(V.nx,.cells T 1 (II xs))::(s,.sld T (sI (l1++l2)))::σ) id=some o→
  (id=a∧o=.cells Ta 1 (R1++[.arr V.nx 1 0 xs.length]::R2))∨(id=V.nx∧o=.cells T 1 (II xs))∨(id=s∧o=.sld T (sI (l1++l2)))∨(id≠a∧id≠s∧look σ id=some o):=fun id o ho=>by
  rw [Ax] at ho
  by_cases h1:a=id
  ·rw [if_pos h1] at ho;injection ho with ho;exact .inl ⟨h1.symm,ho.symm⟩
  ·rw [if_neg h1,Ax] at ho
   by_cases h2:V.nx=id
   ·rw [if_pos h2] at ho;injection ho with ho;exact .inr (.inl ⟨h2.symm,ho.symm⟩)
   ·rw [if_neg h2,Ax] at ho
    by_cases h3:s=id
    ·rw [if_pos h3] at ho;injection ho with ho;exact .inr (.inr (.inl ⟨h3.symm,ho.symm⟩))
    ·rw [if_neg h3] at ho;exact .inr (.inr (.inr ⟨Ne.symm h1,Ne.symm h3,ho⟩))
 have hsub:∀x∈sI (l1++l2),x∈sI (l1++(v,xs)::l2):=fun x hx=>by
  obtain⟨y,hy,rfl⟩:=QX hx
  refine List.mem_map.2 ⟨y,?_,rfl⟩
  rcases List.mem_append.1 hy with hy|hy
  ·exact List.mem_append_left _ hy
  ·exact List.mem_append_right _ (List.mem_cons_of_mem _ hy)
 have hp:=hos.2.1
 rw [HR,List.pairwise_append] at hp
 have hp2:=List.pairwise_cons.1 hp.2.1
 have hdis:∀x∈sI (l1++l2),∀b,HA x.1 b→¬HA v b:=fun x hx b hb hb'=>by
  rw [HR] at hx
  rcases List.mem_append.1 hx with hx|hx
  ·exact hp.2.2 x hx _ (List.mem_cons_self ..) b hb hb'
  ·exact hp2.1 x hx b hb' hb
 have src:∀id o,look ((a,.cells Ta 1 (R1++[.arr V.nx 1 0 xs.length]::R2))::(V.nx,.cells T 1 (II xs))::(s,.sld T (sI (l1++l2)))::σ) id=some o→¬(Av V b0 cap nl V.w).nl id→∀b,DF (Av V b0 cap nl V.w) id o b→
  ∃id0 o0,look σ id0=some o0∧¬V.nl id0∧DF V id0 o0 b∧(id0=id∨id0=s∧id=V.nx∧HA v b)∧(id=s→∃x∈sI (l1++l2),HA x.1 b):=fun id o ho hn b hb=>by
  rcases look' id o ho with ⟨rfl,rfl⟩|⟨rfl,rfl⟩|⟨rfl,rfl⟩|⟨_,h3,ho⟩
  ·exact⟨_,_,ha,fun h=>hn ((e.nl _ han).2 h),by have:b=_:=hb;rw [e.ρ _ han] at this;exact this,.inl rfl,fun e=>absurd e has⟩
  ·have hb:b=_:=hb
   rw [hρ] at hb
   subst hb
   have hv:=hb0 fun h=>hn (hnl.2 h)
   exact⟨_,_,hs,hos.1,⟨_,hmem,hv⟩,.inr ⟨rfl,rfl,hv⟩,fun e=>by omega⟩
  ·obtain⟨x,hx,hb⟩:=hb
   exact⟨_,_,hs,hos.1,⟨x,hsub x hx,hb⟩,.inl rfl,fun _=>⟨x,hx,hb⟩⟩
  ·have hlt:=h.st.lt _ _ ho
   exact⟨_,_,ho,fun h=>hn ((e.nl _ hlt).2 h),(AF e hlt).1 hb,.inl rfl,fun e=>absurd e h3⟩
 refine⟨h.os,h.tape,h.output,h.old,h.iLt,h.iNew,h.ext.trans e,⟨fun id o ho=>?_,fun id o ho=>?_,fun id o ho hn b hb=>?_,fun id id' o o' ho ho' hne hn hn' b hb hb'=>?_⟩,fun id o ho hn b hb=>?_,h.tabs,h.hid.same rfl (fun _ h=>h) (fun _ h=>.inl h) fun b ⟨id,o,ho,hn,hb⟩=>let ⟨id0,o0,g1,g2,g3,_⟩:=src id o ho hn b hb;⟨id0,o0,g1,g2,g3⟩⟩
 ·rcases look' id o ho with ⟨rfl,rfl⟩|⟨rfl,rfl⟩|⟨rfl,rfl⟩|⟨_,_,ho⟩
  ·rcases h.st.obj _ _ ha with ⟨_,h0⟩|⟨hna,cur,h2,h3,h4,h5,h6,h7⟩
   ·simp at h0
   refine .inr ⟨fun h=>hna ((e.nl _ han).1 h),cur,by rw [e.ρ _ han];exact h2,by rw [e.cap _ han];exact h3,by rw [e.cap _ han];simpa using h4,by rw [e.cap _ han];exact h5,fun r hr=>?_,fun q r j c hq hj=>?_⟩
   ·rcases List.mem_append.1 hr with hr|hr
    ·exact h6 r (List.mem_append_left _ hr)
    ·rcases List.mem_cons.1 hr with rfl|hr
     ·rfl
     ·exact h6 r (List.mem_append_right _ (List.mem_cons_of_mem _ hr))
   ·by_cases hq0:q=R1.length
    ·subst hq0
     simp at hq
     subst hq
     have hj0:j=0:=by have:=(List.getElem?_eq_some_iff.1 hj).1;simp at this;omega
     subst hj0
     simp at hj
     subst hj
     obtain⟨w,hw,hc⟩:=h7 R1.length [.d (.v v)] 0 (.d (.v v)) (by simp) rfl
     have hw2:w=v:=AE.val hc
     subst hw2
     exact⟨w,hw,hcr⟩
    ·obtain⟨w,hw,hc⟩:=h7 q r j c (by
      rw [←hq]
      rcases Nat.lt_or_ge q R1.length with h8|h8
      ·rw [List.getElem?_append_left h8,List.getElem?_append_left h8]
      ·rw [List.getElem?_append_right h8,List.getElem?_append_right h8]
       obtain⟨k,hk⟩:∃k,q - R1.length=k+1:=⟨q - R1.length - 1,by omega⟩
       rw [hk];rfl) hj
     exact⟨w,hw,hc.ext e⟩
  ·exact hob
  ·refine⟨fun h=>hos.1 ((e.nl _ hsn).1 h),?_,fun x hx=>hos.2.2 x (hsub x hx)⟩
   rw [HR,List.pairwise_append]
   exact⟨hp.1,hp2.2,fun x hx y hy=>hp.2.2 x hx y (List.mem_cons_of_mem _ hy)⟩
  ·exact(h.st.obj id o ho).Bb e (h.st.lt id o ho) fun _ _ _=>rfl
 ·rcases look' id o ho with ⟨rfl,rfl⟩|⟨rfl,rfl⟩|⟨rfl,rfl⟩|⟨_,_,ho⟩
  ·exact Nat.lt_succ_of_lt han
  ·exact Nat.lt_succ_self _
  ·exact Nat.lt_succ_of_lt hsn
  ·exact Nat.lt_succ_of_lt (h.st.lt _ _ ho)
 ·obtain⟨id0,o0,g1,g2,g3,_⟩:=src id o ho hn b hb
  exact h.st.free _ _ g1 g2 b g3
 ·obtain⟨id0,o0,g1,g2,g3,g4,g5⟩:=src id o ho hn b hb
  obtain⟨id0',o0',g1',g2',g3',g4',g5'⟩:=src id' o' ho' hn' b hb'
  by_cases hee:id0=id0'
  ·rcases g4 with g4|⟨k1,k2,k3⟩<;>rcases g4' with g4'|⟨k1',k2',k3'⟩
   ·exact hne (by rw [←g4,←g4',hee])
   ·obtain⟨x,hx,hxb⟩:=g5 (by rw [←g4,hee,k1'])
    exact hdis x hx b hxb k3'
   ·obtain⟨x,hx,hxb⟩:=g5' (by rw [←g4',←hee,k1])
    exact hdis x hx b hxb k3
   ·exact hne (by rw [k2,k2'])
  ·exact h.st.inj id0 id0' _ _ g1 g1' hee g2 g2' b g3 g3'
 ·obtain⟨id0,o0,g1,g2,g3,_⟩:=src id o ho hn b hb
  exact h.live _ _ g1 g2 b g3
theorem Ak.take{c:Code}{Q:Exit→Env→Ab→Nat→Prop}{f:Env}{nx:Nat}(a s:Nat)(R1 R2:List (List C))(v:Value)(xs:List Int)(l1 l2:GW)(ha:look σ a=some (.cells Ta 1 (R1++[.d (.v v)]::R2)))(hs:look σ s=some (.sld T (sI (l1++(v,xs)::l2))))
 (h:Ak P TB Γ N c Q f ((a,.cells Ta 1 (R1++[.arr nx 1 0 xs.length]::R2))::(nx,.cells T 1 (II xs))::(s,.sld T (sI (l1++l2)))::σ) (nx+1)):Ak P TB Γ N c Q f σ nx:=by
 intro V ac hr
 obtain⟨V',h1,h2,e,hi⟩:=hr.inv.take ha hs
 have:=h V' ac ⟨hr.env.ext e,hr.lt,hr.size,by have:=hr.nx;subst this;exact hi,by rw [h2,hr.nx],hr.defers⟩
 rw [h1] at this
 exact this
theorem Ak.X7{c:Code}{Q:Exit→Env→Ab→Nat→Prop}{f:Env}{nx:Nat}(T:TypeId)(h:Ak P TB Γ N c Q f ((nx,.sld T (sI []))::σ) (nx+1)):Ak P TB Γ N c Q f σ nx:=by
 intro V ac hr
 have hi:=hr.inv
 have e:Ext V (Av V 0 0 False V.w):=C9 (Nat.le_refl _) fun _ _=>rfl
 have hnx:=hr.nx
 subst hnx
 have look':∀id o,look ((V.nx,.sld T (sI []))::σ) id=some o→(id=V.nx∧o=.sld T (sI []))∨(id≠V.nx∧look σ id=some o):=fun id o ho=>by
  rw [Ax] at ho
  by_cases h1:V.nx=id
  ·rw [if_pos h1] at ho;injection ho with ho;exact .inl ⟨h1.symm,ho.symm⟩
  ·rw [if_neg h1] at ho;exact .inr ⟨Ne.symm h1,ho⟩
 have src:∀id o,look ((V.nx,.sld T (sI []))::σ) id=some o→∀b,DF (Av V 0 0 False V.w) id o b→look σ id=some o∧DF V id o b∧((Av V 0 0 False V.w).nl id↔V.nl id):=fun id o ho b hb=>by
  rcases look' id o ho with ⟨rfl,rfl⟩|⟨_,ho⟩
  ·obtain⟨x,hx,_⟩:=hb;cases hx
  ·have hlt:=hi.st.lt _ _ ho
   exact⟨ho,(AF e hlt).1 hb,e.nl _ hlt⟩
 refine h (Av V 0 0 False V.w) ac ⟨hr.env.ext e,hr.lt,hr.size,?_,rfl,hr.defers⟩
 refine⟨hi.os,hi.tape,hi.output,hi.old,hi.iLt,hi.iNew,hi.ext.trans e,⟨fun id o ho=>?_,fun id o ho=>?_,fun id o ho hn b hb=>?_,fun id id' o o' ho ho' hne hn hn' b hb hb'=>?_⟩,fun id o ho hn b hb=>?_,hi.tabs,hi.hid.same rfl (fun _ h=>h) (fun _ h=>.inl h) fun b ⟨id,o,ho,hn,hb⟩=>let ⟨h1,h2,h3⟩:=src id o ho b hb;⟨id,o,h1,fun h=>hn (h3.2 h),h2⟩⟩
 ·rcases look' id o ho with ⟨rfl,rfl⟩|⟨_,ho⟩
  ·exact⟨by simp [Av],List.Pairwise.nil,fun x hx=>by cases hx⟩
  ·exact(hi.st.obj id o ho).Bb e (hi.st.lt id o ho) fun _ _ _=>rfl
 ·rcases look' id o ho with ⟨rfl,rfl⟩|⟨_,ho⟩
  ·exact Nat.lt_succ_self _
  ·exact Nat.lt_succ_of_lt (hi.st.lt _ _ ho)
 ·obtain⟨h1,h2,h3⟩:=src id o ho b hb
  exact hi.st.free _ _ h1 (fun h=>hn (h3.2 h)) b h2
 ·obtain⟨h1,h2,h3⟩:=src id o ho b hb
  obtain⟨h1',h2',h3'⟩:=src id' o' ho' b hb'
  exact hi.st.inj _ _ _ _ h1 h1' hne (fun h=>hn (h3.2 h)) (fun h=>hn' (h3'.2 h)) b h2 h2'
 ·obtain⟨h1,h2,h3⟩:=src id o ho b hb
  exact hi.live _ _ h1 (fun h=>hn (h3.2 h)) b h2
structure dI (V V':View):Prop where
 ρ:V'.ρ=V.ρ
 cap:V'.cap=V.cap
 nl:V'.nl=V.nl
 nx:V'.nx=V.nx
 w:V'.w=V.w
section
variable {o:Oper}{f:Env}{nx:Nat}
end
def IK(σ:Ab):List Nat→Ab
 | []=>[]
 | i::r=>match look σ i with
  | some o=>(i,o)::IK σ r
  | none=>IK σ r
theorem FJ{σ:Ab}:∀ {ids:List Nat} {id:Nat} {o:O},look (IK σ ids) id=some o→id∈ids∧look σ id=some o
 | [],_,_,h=>by cases h
 | i :: r,id,o,h=>by
  unfold IK at h
  split at h
  ·rename_i o' ho
   rw [Ax] at h
   by_cases hi:i=id
   ·rw [if_pos hi] at h;injection h with h;subst h;subst hi;exact⟨List.mem_cons_self ..,ho⟩
   ·rw [if_neg hi] at h
    have:=FJ h
    exact⟨List.mem_cons_of_mem _ this.1,this.2⟩
  ·have:=FJ h
   exact⟨List.mem_cons_of_mem _ this.1,this.2⟩
def Ul(σi:Ab)(f:Env):List (Nat×E)→Prop
 | []=>True
 | (t,e')::L=>(∃e,f t=some e∧(e=e'∨EZ σi e e'))∧Ul σi f L
theorem Ul.get{σi:Ab}{f:Env}:∀ {L:List (Nat×E)},Ul σi f L→∀t e',look L t=some e'→∃e,f t=some e∧(e=e'∨EZ σi e e')
 | [],_,t,e,h=>by cases h
 | (k,x)::L,hs,t,e,h=>by
  rw [Ax] at h
  by_cases hk:k=t
  ·rw [if_pos hk] at h;injection h with h;subst h;subst hk;exact hs.1
  ·rw [if_neg hk] at h;exact Ul.get hs.2 t e h
theorem Ak.Bj{c:Code}{Q:Exit→Env→Ab→Nat→Prop}{f:Env}{nx:Nat}(ids:List Nat)(L:List (Nat×E))(hE:Ul (IK σ ids) f L)(h:Ak P TB Γ N c Q (look L) (BR ids σ) nx):Ak P TB Γ N c Q f σ nx:=by
 intro V a hr
 have hi:=hr.inv
 have hsub:∀id o,look (IK σ ids) id=some o→look σ id=some o:=fun id o h=>(FJ h).2
 have his:Inv TB Γ V (IK σ ids):=hi.sub hsub
 have e:Ext V (KL V (IK σ ids)):=Ko
 refine h (KL V (IK σ ids)) a ⟨fun t x hx=>?_,fun t x hx=>?_,hr.size,?_,hr.nx,hr.defers⟩
 ·obtain⟨y,h1,h2⟩:=hE.get t x hx
  rcases h2 with rfl|h2
  ·exact(hr.env t _ h1).ext e
  ·exact h2.rel his (hr.env t y h1)
 ·obtain⟨y,h1,_⟩:=hE.get t x hx
  exact hr.lt t y h1
 ·refine⟨hi.os,hi.tape,hi.output,hi.old,?_,?_,hi.ext.trans e,⟨?_,?_,?_,?_⟩,?_,fun x hx=>⟨.inl (hi.tabs x hx).1,(hi.tabs x hx).2⟩,hi.hid.same rfl (fun _ h=>.inl h) (fun b hb=>hb.elim .inl fun ⟨id,o,hl,hn,he⟩=>.inr ⟨id,o,hsub _ _ hl,hn,he⟩) fun b ⟨id,o,hl,hn,hb⟩=>have h2:=(Ba ids σ id o hl).2;⟨id,o,h2,hn,(AF e (hi.st.lt id o h2)).1 hb⟩⟩
  ·rintro b (hb|⟨id,o,hl,hn,hb⟩)
   ·exact hi.iLt b hb
   ·exact(hi.st.obj id o (hsub _ _ hl)).blt hn hb
  ·rintro b (hb|⟨id,o,hl,hn,hb⟩)
   ·exact hi.iNew b hb
   ·exact .inr (hi.live id o (hsub _ _ hl) hn b hb)
  ·intro id o hl
   have:=(Ba ids σ id o hl).2
   exact(hi.st.obj id o this).Bb e (hi.st.lt id o this) fun _ _ _=>rfl
  ·intro id o hl;exact hi.st.lt id o (Ba ids σ id o hl).2
  ·intro id o hl hn b hb' hb
   obtain⟨h1,h2⟩:=Ba ids σ id o hl
   have hb':=(AF e (hi.st.lt id o h2)).1 hb'
   rcases hb with hb|⟨id',o',hl',hn',he⟩
   ·exact hi.st.free id o h2 hn b hb' hb
   ·have h3:=FJ hl'
    exact hi.st.inj id id' o o' h2 h3.2 (fun e=>h1 (e ▸ h3.1)) hn hn' b hb' he
  ·intro id id' o o' hl hl' hne hn hn' b hb hb'
   have h2:=(Ba ids σ id o hl).2
   have h2':=(Ba ids σ id' o' hl').2
   exact hi.st.inj id id' o o' h2 h2' hne hn hn' b ((AF e (hi.st.lt id o h2)).1 hb) ((AF e (hi.st.lt id' o' h2')).1 hb')
  ·intro id o hl hn b hb
   have h2:=(Ba ids σ id o hl).2
   exact hi.live id o h2 hn b ((AF e (hi.st.lt id o h2)).1 hb)
theorem FZ.Mt{a s:Nat}{T Ta:TypeId}{l:GW}(ha:look σ a=some (.cells Ta 1 (AA l)))(hs:look σ s=some (.sld T (sI l))):FZ σ (.arr a 1 0 l.length) (Cf (l.map (·.2))):=by
 refine .rows ha (by simp) (BS l) fun i r' hi=>?_
 simp only [List.getElem?_map,Option.map_eq_some_iff] at hi
 obtain⟨x,⟨y,hy,rfl⟩,rfl⟩:=hi
 refine⟨[.d (.v y.1)],by simp [AA,hy],.cons ?_ .nil⟩
 have h1:FZ σ (.d (.v y.1)) (.l ((y.2.map (Value.int .i64)).map fun x=>[D.v x])):=.sld hs (List.mem_map.2 ⟨y,List.mem_of_getElem? hy,rfl⟩)
 rw [List.map_map] at h1
 exact h1
theorem Ak.QP{c:Code}{Q:Exit→Env→Ab→Nat→Prop}{f:Env}{nx:Nat}(a i s:Nat)(l:GW)(xs:List Int)(ha:look σ a=some (.cells Ta 1 (AA l++[[.arr i 1 0 xs.length]])))(hi:look σ i=some (.cells T 1 (II xs)))(hs:look σ s=some (.sld T (sI l)))
 (h:∀v,Ak P TB Γ N c Q f ((a,.cells Ta 1 (AA (l++[(v,xs)])))::(s,.sld T (sI (l++[(v,xs)])))::kill i σ) nx):Ak P TB Γ N c Q f σ nx:=
 Ak.put a i s (AA l) [] xs l [] ha hi (by rw [List.append_nil];exact hs) fun v=>by
  have:=h v
  rw [AO] at this
  exact this
theorem Lq{l:GW}{k:Nat}{y:Value×List Int}(h:l[k]? = some y):l=l.take k++y::l.drop (k+1)∧(l.take k).length=k:=by
 obtain⟨hk,rfl⟩:=List.getElem?_eq_some_iff.1 h
 refine⟨?_,by rw [List.length_take];omega⟩
 rw [←List.drop_eq_getElem_cons hk,List.take_append_drop]
theorem Of{α:Type}{l1 l2:List α}{x y:α}{k:Nat}(h:l1.length=k):(l1++x::l2).set k y=l1++y::l2:=by
 subst h;simp
theorem Ak.ZP{c:Code}{Q:Exit→Env→Ab→Nat→Prop}{f:Env}{nx:Nat}(a s:Nat)(l:GW)(k:Nat)(y:Value×List Int)(hk:l[k]? = some y)(ha:look σ a=some (.cells Ta 1 (AA l)))(hs:look σ s=some (.sld T (sI l)))
 (h:Ak P TB Γ N c Q f ((a,.cells Ta 1 ((AA l).set k [.arr nx 1 0 y.2.length]))::(nx,.cells T 1 (II y.2))::(s,.sld T (sI (l.eraseIdx k)))::σ) (nx+1)):Ak P TB Γ N c Q f σ nx:=by
 obtain⟨h1,h2⟩:=Lq hk
 obtain⟨v,xs⟩:=y
 have e1:AA l=AA (l.take k)++[.d (.v v)]::AA (l.drop (k+1)):=by
  have:=congrArg AA h1
  rw [AO] at this;exact this
 refine Ak.take a s (AA (l.take k)) (AA (l.drop (k+1))) v xs (l.take k) (l.drop (k+1)) (by rw [←e1];exact ha) (by rw [←h1];exact hs) ?_
 have e2:(AA l).set k [.arr nx 1 0 xs.length]=AA (l.take k)++[.arr nx 1 0 xs.length]::AA (l.drop (k+1)):=by
  rw [e1,Of (by rw [BS,h2])]
 have e3:l.eraseIdx k=l.take k++l.drop (k+1):=List.eraseIdx_eq_take_drop_succ ..
 rw [e2,e3] at h
 exact h
theorem Ak.putAt{c:Code}{Q:Exit→Env→Ab→Nat→Prop}{f:Env}{nx:Nat}(a i s:Nat)(l:GW)(k:Nat)(y:Value×List Int)(hk:l[k]? = some y)(xs:List Int)(ha:look σ a=some (.cells Ta 1 ((AA l).set k [.arr i 1 0 xs.length])))(hi:look σ i=some (.cells T 1 (II xs)))(hs:look σ s=some (.sld T (sI (l.eraseIdx k))))
 (h:∀v,Ak P TB Γ N c Q f ((a,.cells Ta 1 (AA (l.set k (v,xs))))::(s,.sld T (sI (l.set k (v,xs))))::kill i σ) nx):Ak P TB Γ N c Q f σ nx:=by
 obtain⟨h1,h2⟩:=Lq hk
 have e1:AA l=AA (l.take k)++[.d (.v y.1)]::AA (l.drop (k+1)):=by
  have:=congrArg AA h1
  rw [AO] at this;exact this
 rw [e1,Of (by rw [BS,h2])] at ha
 rw [show l.eraseIdx k=l.take k++l.drop (k+1) from List.eraseIdx_eq_take_drop_succ ..] at hs
 refine Ak.put a i s (AA (l.take k)) (AA (l.drop (k+1))) xs (l.take k) (l.drop (k+1)) ha hi hs fun v=>?_
 have h3:l.set k (v,xs)=l.take k++(v,xs)::l.drop (k+1):=by
  have this:l.set k (v,xs)=(l.take k++y::l.drop (k+1)).set k (v,xs):=congrArg (fun m=>List.set m k (v,xs)) h1
  rw [this,Of h2]
 have:=h v
 rw [h3,AO] at this
 exact this
theorem Bi.A0{g:FuncId}{m nx:Nat}{args:List E}{post:E→Ab→Nat→Prop}
 (h:Bi P TB g m σ nx args (fun x σ1 nx1=>∃(l:List Nat) (x':E) (σ2:Ab),((∀i,i < m→l[i]? = some i)∧l.Nodup)∧x=x'.A0 (nm l nx1)∧AS (nm l nx1) σ1 σ2∧post x' σ2 l.length)):Bi P TB g m σ nx args post:=
 ⟨h.1, fun V vs S hg ha=>(h.2 V vs S hg ha).mono fun e w' ⟨V',v,x,σ',h1,h2,h3,h4,l,x',σ2,h5,h6,h7,h8⟩=>by
  have hr:BI TB (EW V (Jo V m) σ S) 1 V' (look [(0,x)]) σ' V'.nx { tmps:=#[v],defers:=[] } := by
   refine⟨fun t y hy=>?_,fun t y hy=>?_,rfl,h3,rfl,rfl⟩
   ·rw [Ax] at hy
    by_cases ht:0=t
    ·rw [if_pos ht] at hy;injection hy with hy;subst hy;subst ht;exact h4
    ·rw [if_neg ht] at hy;cases hy
   ·rw [Ax] at hy
    by_cases ht:0=t
    ·subst ht;exact Nat.zero_lt_one
    ·rw [if_neg ht] at hy;cases hy
  obtain⟨V'',e1,e2⟩:=hr.A0 l [(0,x')] σ2 h5.1 h5.2 ⟨by rw [←h6];rfl,trivial⟩ h7
  refine⟨V'',v,x',σ2,h1,e1.trans h2,e2.inv,e2.env 0 x' rfl,?_⟩
  rw [e2.nx];exact h8⟩
theorem Ir{m:Nat}{σ σ':Ab}(i:Nat)(hm:m=2 ^ i)(h:look σ' i=look σ i):Kept m σ σ':=fun id hb=>by
 subst hm
 rw [Nat.testBit_two_pow] at hb
 have:i=id:=of_decide_eq_true hb
 subst this;exact h
theorem It{m:Nat}{σ σ':Ab}(i j:Nat)(hm:m=2 ^ i ||| 2 ^ j)(h:look σ' i=look σ i)(h':look σ' j=look σ j):Kept m σ σ':=fun id hb=>by
 subst hm
 rw [Nat.testBit_or,Bool.or_eq_true,Nat.testBit_two_pow,Nat.testBit_two_pow,decide_eq_true_eq,decide_eq_true_eq] at hb
 rcases hb with hb|hb
 ·subst hb;exact h
 ·subst hb;exact h'
theorem IL{l1 l2:GW}{c:C}{k:Nat}(h:l1.length=k):(AA l1++[c]::AA l2)[k]? = some [c]:=by
 subst h
 rw [List.getElem?_append_right (by rw [BS];exact Nat.le_refl _),BS];simp
theorem eR [hT:B7 P] {g:FuncId} {fn:Func} {c:Code} {nx:Nat} {args:List E} {post:E→Ab→Nat→Prop} (hf:P.funcs[g]? = some fn) (hb:fn.body=some c) (hname:(fn.name == "runtime.NumGoroutine")=false)
 (ha:Nat.ble args.length fn.ntmps=true) (h:∀Γ:Ctx,Γ.V.nx=nx→Ak P TB Γ fn.ntmps c (Up hT.T fn.results (fun x σ1 nx1=>∃(l:List Nat) (x':E) (σ2:Ab),((∀i,i < nx→l[i]? = some i)∧l.Nodup)∧x=x'.A0 (nm l nx1)∧AS (nm l nx1) σ1 σ2∧post x' σ2 l.length)) (look (BJ 0 args)) σ nx):Spec P TB g σ nx args post:=
 Bi.E3 (Bi.A0 (Bi.Zq (Nat.le_refl _) hf hb hname (Nat.le_of_ble_eq_true ha) h))
end
theorem cN:(∀(r:Nat→Nat) (l:GW),(AA l).map (C.Bz r)=AA l)∧(∀(α:Type) (b:Bool) (x y:α),(bif b then x else y)=if b=true then x else y)∧∀a b:Nat,(Nat.beq a b=true)=(a=b):=
 ⟨Py,fun _ b _ _=>by cases b<;>rfl,fun _ _=>Nat.beq_eq⟩
end Go.Am
namespace Go.Am
open Go Go.Proofs
set_option maxHeartbeats 1000000
attribute [local irreducible] AY B2 Lex Bq Ak Spec
variable {TB:Bu}
def aZ(o:Option (List Int×List (List Int))):E:=match o with
 | some p=>.t [(false,[.d (CO p.1)]),(false,[.d (Cf p.2)]),(false,[.d (bD true)])]
 | none=>.t [(false,[.d (.l [])]),(false,[.d (.l [])]),(false,[.d (bD false)])]
theorem Pn{lim:Nat}{f:Int→Int→Int}{ls:List Int}{s0:Int}{g:FuncId}{caps:List C}{R:Int→Prop}(h1:1≤lim∧lim≤64)(hll:ls.length≤6)(hs:R s0)(hR:∀q l,R q→l∈ls→R (f q l))
 (hg:∀q l,R q→l∈ls→Pure Tryz.prog TB g ([eI .i64 q,eI .i64 l]++caps.map .o) (eI .i64 (f q l))) (hc:C.CE caps=true) (hr:∀r,C.Bz r caps=caps) :
 Pure Tryz.prog TB 174 [eI .i64 s0,Ai ls,eI .i64 lim,.o (.fn g caps)] (aZ (Mu lim f ls s0)):=by
 unfold Mu
 generalize hA0:E7 lim f ls lim [s0] []=A
 refine eG Tryz.func174 rfl (by kernel_rfl) rfl ?_;intro Γ hΓ
 (repeat first|refine tX rfl ?_ |refine aU rfl ?_ |refine Aa ?_)
 (refine pW rfl ?_ rfl (by rfl);refine A1 rfl rfl rfl rfl (by simp [eC]) (by rfl) (by rfl) (by rfl) (by rfl) ?_)
 (repeat first|refine tX rfl ?_ |refine aU rfl ?_ |refine Aa ?_)
 (refine pW rfl ?_ rfl (by rfl);refine Jp ?_)
 (repeat first|refine tA rfl ?_)
 (refine Ag rfl ?_;refine GN ?_ rfl (by rfl);refine Zi (Vx (l:=[]) rfl rfl rfl rfl rfl ?_))
 (repeat first|refine tM rfl ?_ |refine aU rfl ?_ |refine Aa ?_)
 (refine pW rfl ?_ rfl (by rfl);refine IB 1 75 ?_)
 (repeat first|refine tM rfl ?_ |refine aU rfl ?_ |refine Aa ?_)
 refine aB ?_
 refine aL (α:={z:List Int×List (List Int) // E7 lim f ls (lim - z.2.length) z.1 z.2=A∧z.2.length≤z.1.length∧1≤z.1.length∧z.1.length≤lim∧∀q∈z.1,R q}) [1,2,3,12] [] rfl rfl (fun s=>[(11,.o (.arr 0 1 0 s.1.1.length)),(13,.o (.arr 2 1 0 s.1.2.length)),(14,eI .i64 s.1.2.length)]) (fun s=>[(0,.cells 3 1 (s.1.1.map AB)),(1,.mp (HK (QK s.1.1))),(2,.cells 75 1 (s.1.2.map fun r=>[.d (CO r)]))]) 3 (fun s=>lim - s.1.2.length) (⟨⟨[s0],[]⟩,by simpa using hA0,by simp,by simp,by simpa using h1.1,by simpa using hs⟩) hΓ rfl (by (simp[cX,zC,hΓ,hr,eC,BX,Aj,QK])) ?_;rintro⟨⟨nd,rows⟩,hA,hrl,hn1,hnl,hRn⟩;(try dsimp only[cA,cB])
 have hA:E7 lim f ls (lim - rows.length) nd rows=A:=hA
 have hrl:rows.length≤nd.length:=hrl
 have hn1:1≤nd.length:=hn1
 have hnl:nd.length≤lim:=hnl
 have hRn:∀q∈nd,R q:=hRn
 by_cases hlt:rows.length < nd.length
 ·obtain⟨q,hq⟩:=get_some hlt
  obtain⟨k,hk⟩:∃k,lim - rows.length=k+1:=⟨lim - rows.length - 1,by omega⟩
  rw [hk] at hA
  simp only [E7,hq] at hA
  generalize hB0:Et lim f q nd [] ls=B at hA
  have hRq:=hRn q (List.mem_of_getElem? hq)
  (repeat first|refine tA rfl ?_ |refine s2 rfl fun _ _hb=>?_ |refine aU rfl ?_ |refine Aa ?_)
  ((refine aC rfl ?_ ?_<;>rintro⟨⟩);all_goals try(exfalso;(simp only[oZ] at *;omega)))
  refine aK ?_
  refine aS (aB ?_)
  (repeat first|refine aU rfl ?_)
  (refine pW rfl ?_ rfl (by rfl);refine IB 1 3 ?_)
  (repeat first|refine sN rfl ?_ |refine tM rfl ?_ |refine aU rfl ?_ |refine Aa ?_)
  refine aB ?_
  refine aL (α:={z:(List Int×List Int)×Nat // z.2≤ls.length∧Et lim f q z.1.1 z.1.2 (ls.drop z.2)=B∧z.1.2.length=z.2∧nd.length≤z.1.1.length∧z.1.1.length≤lim∧(∀q∈z.1.1,R q)∧z.1.1[rows.length]? = some q}) [1,2,3,12,13,14,32,33] [2] rfl rfl (fun s=>[(11,.o (.arr 0 1 0 s.1.1.1.length)),(15,.o (.arr 3 1 0 s.1.2)),(34,eI .i64 s.1.2)]) (fun s=>[(0,.cells 3 1 (s.1.1.1.map AB)),(1,.mp (HK (QK s.1.1.1))),(3,.cells 3 1 (s.1.1.2.map AB))]) 4 (fun s=>ls.length - s.1.2) (⟨⟨⟨nd,[]⟩,0⟩,by simp,hB0,rfl,Nat.le_refl _,hnl,hRn,hq⟩) hΓ rfl (by (simp[cX,zC,hΓ,hr,eC,BX,Aj,Ix])) ?_;rintro⟨⟨⟨nd1,row⟩,j⟩,hj,hB,hrw,hnn,hn2,hR1,hq1⟩;(try dsimp only[cA,cB])
  have hj:j≤ls.length:=hj
  have hB:Et lim f q nd1 row (ls.drop j)=B:=hB
  have hrw:row.length=j:=hrw
  have hnn:nd.length≤nd1.length:=hnn
  have hn2:nd1.length≤lim:=hn2
  have hR1:∀q∈nd1,R q:=hR1
  have hq1:nd1[rows.length]? = some q:=hq1
  by_cases hjl:j < ls.length
  ·obtain⟨l,hl⟩:=get_some hjl
   have hl':=get_map (g:=Bk) hl
   have hlm:=List.mem_of_getElem? hl
   have hf:=hg q l hRq hlm
   have hRf:=hR q l hRq hlm
   have hq':(nd1.map AB)[0+((rows.length:Nat):Int).toNat]? = some (AB q):=by rw [Nat.zero_add,Int.toNat_natCast];simp [hq1]
   rw [CA hl] at hB
   simp only [Et] at hB
   have hfd:=Tl nd1 (f q l)
   generalize f q l=y at *
   (repeat first|refine s2 rfl fun _ _hb=>?_ |refine aU rfl ?_ |refine Aa ?_)
   ((refine aC rfl ?_ ?_<;>rintro⟨⟩);all_goals try(exfalso;(simp only[oZ] at *;omega)))
   refine aK ?_
   refine aS (aB ?_)
   (repeat first|((first|refine sA rfl ?_ ?_|refine s4 rfl ‹_› rfl ?_ ?_);first|exact tI|omega)|(refine Ag rfl ?_;refine gA rfl ?_;first| refine gS (fun _ _=>BL rfl rfl (by simp [E.BU,C.BU,C.CE,hc]) hf rfl) ?_) |refine aU rfl ?_ |refine Aa ?_)
   by_cases hin:y∈nd1
   ·rw [if_pos hin] at hB hfd
    (repeat first|refine tA rfl ?_ |refine s2 rfl fun _ _hb=>?_|(refine Ag rfl ?_;refine gA rfl ?_;first| refine gQ (VX hfd rfl rfl rfl) rfl ?_) |refine aU rfl ?_ |refine Aa ?_)
    ((refine aC rfl ?_ ?_<;>rintro⟨⟩);all_goals try (simp at _hb;done))
    refine aK ?_
    (repeat first|refine tA rfl ?_ |refine aU rfl ?_)
    (refine pW rfl ?_ rfl (by rfl);refine Aw rfl rfl rfl (by first| (simp;done)|(simp;(omega))) rfl (by intro r hr;simp at hr;subst hr;rfl) (by rfl) (Nat.le_of_ble_eq_true rfl) (by simp;omega) ?_)
    (repeat first|(refine sA rfl ?_ ?_;first|exact tI|omega) |refine aU rfl ?_ |refine Aa ?_)
    refine⟨⟨⟨⟨nd1,row++[((nd1.idxOf y:Nat):Int)]⟩,j+1⟩,by dsimp only;omega,hB,by simp [hrw],hnn,hn2,hR1,hq1⟩,by dsimp only;(omega),[0,1,2,4],?_⟩
    simp[cX,zC,hΓ,hr,Ix]
   ·rw [if_neg hin] at hB hfd
    (repeat first|refine tA rfl ?_ |refine s2 rfl fun _ _hb=>?_|(refine Ag rfl ?_;refine gA rfl ?_;first| refine gQ (VW hfd rfl rfl rfl) rfl ?_) |refine aU rfl ?_ |refine Aa ?_)
    ((refine aC rfl ?_ ?_<;>rintro⟨⟩);all_goals try (simp at _hb;done))
    by_cases hfu:nd1.length=lim
    ·rw [if_pos hfu] at hB
     subst hB
     (repeat first|refine tA rfl ?_ |refine s2 rfl fun _ _hb=>?_ |refine aU rfl ?_ |refine Aa ?_)
     ((refine aC rfl ?_ ?_<;>rintro⟨⟩);all_goals try(exfalso;(simp only[oZ] at *;omega)))
     (repeat first|refine tA rfl ?_ |refine aU rfl ?_ |refine Aa ?_)
     have hA:none=A:=hA
     subst hA
     exact aR ⟨_,rfl,rfl⟩
    ·rw [if_neg hfu] at hB
     (repeat first|refine tA rfl ?_ |refine s2 rfl fun _ _hb=>?_ |refine aU rfl ?_ |refine Aa ?_)
     ((refine aC rfl ?_ ?_<;>rintro⟨⟩);all_goals try(exfalso;(simp only[oZ] at *;omega)))
     refine aK ?_
     (repeat first|refine tA rfl ?_ |refine aU rfl ?_ |refine Aa ?_)
     (refine Ag rfl ?_;refine GN ?_ rfl (by rfl);refine Vx rfl rfl rfl rfl hfd ?_)
     rw [←Sj]
     (repeat first|refine tA rfl ?_ |refine aU rfl ?_ |refine Aa ?_)
     (refine pW rfl ?_ rfl (by rfl);refine Aw rfl rfl rfl (by first| (simp;done)|(simp;(omega))) rfl (by intro r hr;simp at hr;subst hr;rfl) (by rfl) (Nat.le_of_ble_eq_true rfl) (by simp;omega) ?_)
     (repeat first|refine tA rfl ?_ |refine aU rfl ?_ |refine Aa ?_)
     (refine pW rfl ?_ rfl (by rfl);refine Aw rfl rfl rfl (by first| (simp;done)|(simp;(omega))) rfl (by intro r hr;simp at hr;subst hr;rfl) (by rfl) (Nat.le_of_ble_eq_true rfl) (by simp;omega) ?_)
     (repeat first|(refine sA rfl ?_ ?_;first|exact tI|omega) |refine aU rfl ?_ |refine Aa ?_)
     refine⟨⟨⟨⟨nd1++[y],row++[(nd1.length:Int)]⟩,j+1⟩,by dsimp only;omega,hB,by simp [hrw],by simp;omega,by simp;omega,fun z hz=>by rcases List.mem_append.1 hz with h|h;exact hR1 z h;simp at h;subst h;exact hRf,by rw [List.getElem?_append_left (by omega)];exact hq1⟩,by dsimp only;(omega),[4,1,2,5],?_⟩
     simp[cX,zC,hΓ,hr,Ix]
  ·obtain rfl:j=ls.length:=by omega
   rw [List.drop_length] at hB
   simp only [Et] at hB
   subst hB
   simp only at hA
   (repeat first|refine s2 rfl fun _ _hb=>?_ |refine aU rfl ?_ |refine Aa ?_)
   ((refine aC rfl ?_ ?_<;>rintro⟨⟩);all_goals try(exfalso;(simp only[oZ] at *;omega)))
   refine aE ?_
   refine Ak.DW [3] [1,2,3,11,12,13,14] rfl [(15,Ai row)] ⟨⟨_,rfl,.o (.full (by simp) rfl (by simp [Function.comp_def]) (by simpa using hrw))⟩,trivial⟩ ?_;(try dsimp only[cA,cB])
   (repeat first|refine tA rfl ?_ |refine aU rfl ?_)
   (refine pW rfl ?_ rfl (by rfl);refine Aw rfl rfl rfl (by first| (simp;done)|(simp;(omega))) rfl (by intro r hr;simp at hr;subst hr;rfl) (by rfl) (Nat.le_of_ble_eq_true rfl) (by simp;omega) ?_)
   (repeat first|(refine sA rfl ?_ ?_;first|exact tI|omega) |refine aU rfl ?_ |refine Aa ?_)
   refine⟨⟨⟨nd1,rows++[row]⟩,by show E7 lim f ls (lim - (rows++[row]).length) nd1 _=A;rw [List.length_append,List.length_singleton,show lim - (rows.length+1)=k by omega];exact hA,by simp;omega,by dsimp only;omega,hn2,hR1⟩,by dsimp only;((simp only[oZ] at *;omega)),[0,1,4],?_⟩
   simp[cX,zC,hΓ,hr,Ix]
 ·have hA2:A=some (nd,rows):=by
   rw [←hA]
   cases lim - rows.length with
   | zero=>rfl
   | succ k=>simp only [E7];rw [List.getElem?_eq_none (by omega)]
  subst hA2
  (repeat first|refine tA rfl ?_ |refine s2 rfl fun _ _hb=>?_ |refine aU rfl ?_ |refine Aa ?_)
  ((refine aC rfl ?_ ?_<;>rintro⟨⟩);all_goals try(exfalso;(simp only[oZ] at *;omega)))
  refine aE ?_
  refine Ak.settle [(11,Ai nd),(13,Ds rows)] ⟨⟨_,rfl,.o (.full rfl (by simp [Function.comp_def]) (by simp))⟩,⟨_,rfl,.o (.full rfl (by simp [Function.comp_def]) (by simp))⟩,trivial⟩ ?_
  (repeat first|refine tA rfl ?_ |refine aU rfl ?_ |refine Aa ?_)
  (subst_vars;exact aR ⟨_,rfl,rfl⟩)
theorem Sv{P:Program}{Γ:Ctx}{d:Option Tmp}{ty:TypeId}{pos:String}{af:Array Edge}{g:Option (Nat×Bool)}{f:Env}{σ:Ab}{nx:Nat}{t:TypeId}{x lo hi:Operand}{s z out:W}{a b:Int}{k k':IntKind}[ht:B6 P t](hx:ev f x=some (eT s))(hl:ev f lo=some (eI k a))(hh:ev f hi=some (eI k' b))(hz:s=z)(h:(0≤a∧a≤b∧b≤z.length)∧(z.take b.toNat).drop a.toNat=out) :
 AY P TB Γ ⟨d,.slice t x (some lo) (some hi) none,ty,pos,af,g⟩ f σ nx (eT out):=by
 subst hz
 have h1:=KD (P:=P) (TB:=TB) (Γ:=Γ) (d:=d) (ty:=ty) (pos:=pos) (af:=af) (g:=g) (σ:=σ) (nx:=nx) (t:=t) (x:=x) (lo:=some lo) (hi:=some hi) (l:=some (k,a)) (h:=some (k',b)) hx (by simp [Uf,hl]) (by simp [Uf,hh]) h.1.1 h.1.2.1 h.1.2.2
 have e:(s.take (I8 s.length (some (k',b))).toNat).drop (I9 (some (k,a))).toNat=out:=h.2
 rwa [e] at h1
def cD:W:=[48,49,50,51,52,53,54,55,56,57,97,98,99,100,101,102,103,104,105,106,107,108,109,110,111,112,113,114,115,116,117,118,119,120,121,122]
def aX:W:=(List.range 100).flatMap fun n=>[UInt8.ofNat (48+n / 10),UInt8.ofNat (48+n % 10)]
theorem Xj:((List.range 10).all fun n=>decide ((cD.take (n+1)).drop n=C7 n))=true:=by decide +kernel
theorem Xl:((List.range 100).all fun n=>decide (n < 10) || decide ((aX.take (n*2+2)).drop (n*2)=C7 n))=true:=by decide +kernel
theorem Xk:aX.length=200:=by decide +kernel
theorem YV{n:Int}(h:0≤n∧n < 10):(0≤n∧n≤n+1∧n+1≤cD.length)∧(cD.take (n+1).toNat).drop n.toNat=C7 n.toNat:=by
 refine⟨⟨h.1,by omega,by show n+1≤36;omega⟩,?_⟩
 have:=List.all_eq_true.1 Xj n.toNat (List.mem_range.2 (by omega))
 rw [show (n+1).toNat=n.toNat+1 by omega]
 exact of_decide_eq_true this
theorem YW{n:Int}(h:10≤n∧n < 100):(0≤n*2∧n*2≤n*2+2∧n*2+2≤aX.length)∧(aX.take (n*2+2).toNat).drop (n*2).toNat=C7 n.toNat:=by
 refine⟨⟨by omega,by omega,by rw [Xk];omega⟩,?_⟩
 have:=List.all_eq_true.1 Xl n.toNat (List.mem_range.2 (by omega))
 rw [Bool.or_eq_true,decide_eq_true_eq,decide_eq_true_eq] at this
 rw [show (n*2+2).toNat=n.toNat*2+2 by omega,show (n*2).toNat=n.toNat*2 by omega]
 rcases this with h1|h1
 ·omega
 ·exact h1
theorem WI(n:Int)(h:0≤n∧n < 100):Pure Tryz.prog TB 259 [eI .i64 n] (eT (C7 n.toNat)):=by
 refine eG Tryz.func259 rfl (by kernel_rfl) rfl ?_;intro Γ hΓ
 (repeat first |refine sN rfl ?_ |((first|refine sA rfl ?_ ?_|refine s4 rfl ‹_› rfl ?_ ?_);first|exact tI|omega|simp only[oZ] at *;omega) |refine s2 rfl fun _ _hb=>?_ |refine s3 rfl ?_ ?_<;>rintro rfl |refine aU rfl ?_ |refine Aa ?_)
 (refine aC rfl ?_ ?_<;>rintro⟨⟩)
 ·have d1:=YV (n:=n) (by first|omega|simp only[oZ] at *;omega)
  (repeat first |refine sN rfl ?_ |((first|refine sA rfl ?_ ?_|refine s4 rfl ‹_› rfl ?_ ?_);first|exact tI|omega|simp only[oZ] at *;omega) |refine s2 rfl fun _ _hb=>?_|(refine Ag rfl ?_;refine gA rfl ?_;first|refine gS (fun _ _=>Sv (z:=cD) rfl rfl rfl (by decide +kernel) d1) ?_) |refine s3 rfl ?_ ?_<;>rintro rfl |refine aU rfl ?_ |refine Aa ?_)
  (subst_vars;exact aR ⟨_,rfl,rfl⟩)
 refine aK ?_
 have d2:=YW (n:=n) (by first|omega|simp only[oZ] at *;omega)
 (repeat first |refine sN rfl ?_ |((first|refine sA rfl ?_ ?_|refine s4 rfl ‹_› rfl ?_ ?_);first|exact tI|omega|simp only[oZ] at *;omega) |refine s2 rfl fun _ _hb=>?_|(refine Ag rfl ?_;refine gA rfl ?_;first|refine gS (fun _ _=>Sv (z:=aX) rfl rfl rfl (by decide +kernel) d2) ?_) |refine s3 rfl ?_ ?_<;>rintro rfl |refine aU rfl ?_ |refine Aa ?_)
 (subst_vars;exact aR ⟨_,rfl,rfl⟩)
theorem NO(n:Int)(h:0≤n∧n < 100):Pure Tryz.prog TB 235 [eI .i64 n,eI .i64 10] (eT (C7 n.toNat)):=by
 refine eG Tryz.func235 rfl (by kernel_rfl) rfl ?_;intro Γ hΓ
 have e:=WI (TB:=TB) n h
 (repeat first |refine sN rfl ?_ |((first|refine sA rfl ?_ ?_|refine s4 rfl ‹_› rfl ?_ ?_);first|exact tI|omega|simp only[oZ] at *;omega) |refine s2 rfl fun _ _hb=>?_ |refine s3 rfl ?_ ?_<;>rintro rfl |refine aU rfl ?_ |refine Aa ?_)
 ((refine aC rfl ?_ ?_<;>rintro⟨⟩);all_goals try (simp at _hb;done))
 (repeat' first |refine sN rfl ?_ |((first|refine sA rfl ?_ ?_|refine s4 rfl ‹_› rfl ?_ ?_);first|exact tI|omega|simp only[oZ] at *;omega) |refine s2 rfl fun _ _hb=>?_ |refine sP rfl (e) rfl ?_ |refine s3 rfl ?_ ?_<;>rintro rfl |refine aU rfl ?_ |refine Aa ?_|(refine aC rfl ?_ ?_<;>rintro⟨⟩))
 all_goals first|(exfalso;first|omega|simp only[oZ] at *;omega;done)|skip
 all_goals (repeat first |refine sN rfl ?_ |((first|refine sA rfl ?_ ?_|refine s4 rfl ‹_› rfl ?_ ?_);first|exact tI|omega|simp only[oZ] at *;omega) |refine s2 rfl fun _ _hb=>?_ |refine sP rfl (e) rfl ?_ |refine s3 rfl ?_ ?_<;>rintro rfl |refine aU rfl ?_ |refine Aa ?_)
 all_goals (subst_vars;exact aR ⟨_,rfl,rfl⟩)
theorem U7(n:Int)(h:0≤n∧n < 100):Pure Tryz.prog TB 198 [eI .i64 n] (eT (C7 n.toNat)):=by
 refine eG Tryz.func198 rfl (by kernel_rfl) rfl ?_;intro Γ hΓ
 (repeat first |refine sN rfl ?_ |((first|refine sA rfl ?_ ?_|refine s4 rfl ‹_› rfl ?_ ?_);first|exact tI|omega|simp only[oZ] at *;omega) |refine s2 rfl fun _ _hb=>?_ |refine sP rfl (NO n h) rfl ?_ |refine s3 rfl ?_ ?_<;>rintro rfl |refine aU rfl ?_ |refine Aa ?_)
 (subst_vars;exact aR ⟨_,rfl,rfl⟩)
theorem Sc(n:Int)(h:0≤n∧n < 100):Pure Tryz.prog TB 168 [eI .i64 n] (eT (C7 n.toNat)):=by
 refine eG Tryz.func168 rfl (by kernel_rfl) rfl ?_;intro Γ hΓ
 (repeat first |refine sN rfl ?_ |((first|refine sA rfl ?_ ?_|refine s4 rfl ‹_› rfl ?_ ?_);first|exact tI|omega|simp only[oZ] at *;omega) |refine s2 rfl fun _ _hb=>?_ |refine sP rfl (U7 n h) rfl ?_ |refine s3 rfl ?_ ?_<;>rintro rfl |refine aU rfl ?_ |refine Aa ?_)
 (subst_vars;exact aR ⟨_,rfl,rfl⟩)
end Go.Am
