/-
  What a call hands back: each result a slot or a cell, of the call's own or laid down for good.
-/
import Derived.Test.YtohfiindiidcfaaGreatDoorPart12
import Derived.Test.YtohfiindiidcfaaGreatDoorPart13
import Derived.Test.YtohfiindiidcfaaGreatDoorPart11
set_option linter.all false
namespace Go.Am
open Go
def gR:Bool×List C->Option E
 | (false,[c])=>some (.o c)
 | (true,cs)=>some (.a cs)
 | _=>none
def Ux(f:Env)(σ:Ab)(t:Tmp)(ag:Bool)(n:Nat):Option (Bool×List C):=match f t with
 | some (.o (.d (.p cs)))=>match Nat.ble n cs.length with
  | true=>some (ag,(cs.take n).map .d)
  | false=>none
 | some (.o (.ptr id k i j))=>match look σ id with
  | some (.cells _ k' rows)=>match Nat.beq k k',nth rows i with
   | true,some r=>match Nat.ble (j+n) r.length with
    | true=>some (ag,(r.drop j).take n)
    | false=>none
   | _,_=>none
  | _=>none
 | _=>none
def Wu(T:List (Nat×TI))(f:Env)(σ:Ab):ResultVar->Option (Bool×List C)
 | .tmp t=>match f t with
  | some e=>TE e
  | none=>none
 | .cell t T'=>match (IF T T').ld with
  | some (true,n)=>Ux f σ t true n
  | some (false,1)=>Ux f σ t false 1
  | _=>none
def Wv(T:List (Nat×TI))(f:Env)(σ:Ab):List ResultVar->Option (List (Bool×List C))
 | []=>some []
 | r::rs=>match Wu T f σ r,Wv T f σ rs with
  | some x,some xs=>some (x::xs)
  | _,_=>none
def YQ(T:List (Nat×TI))(rs:Array ResultVar)(f:Env)(σ:Ab):Option E:=match rs.toList with
 | []=>some (.t [])
 | [r]=>match Wu T f σ r with
  | some x=>gR x
  | none=>none
 | rs=>match rs.length,Wv T f σ rs with
  | 2,some xs=>some (.t xs)
  | 3,some xs=>some (.t xs)
  | 4,some xs=>some (.t xs)
  | _,_=>none
def Xb(T:List (Nat×TI))(rs:Array ResultVar)(post:E->Ab->Nat->Prop):Exit->Env->Ab->Nat->Prop
 | .ret,f,σ,nx|.normal,f,σ,nx=>∃x,YQ T rs f σ=some x/\post x σ nx
 | _,_,_,_=>False
section
variable {P:Program}{TB:BA}{Z:Ctx}{σ:Ab}
theorem OD{V:View}{f:Env}{a:Act}{t:Tmp}{T':TypeId}{ag:Bool}{n:Nat}{x:Bool×List C}(hi:Inv TB Z V σ)(G:EX P T' ag n)(L:ag=false->n=1)(R:Ek V f a.tmps)(h:Ux f σ t ag n=some x) :
 ∃v,((do loadVar T' (<-asAddr (a.tmps.getD t undef))):Sem Value).run P V.w=.ok v V.w/\LV V x v:=by
 have key : ∃ (b o:Nat) (cs:List C) (vs:Nat->Value),a.tmps.getD t undef=.pointer (some ⟨b,o,none⟩)/\x=(ag,cs)/\cs.length=n/\∀(q:Nat) (c:C),cs[q]? = some c->V.w.cell? ⟨b,o+q,none⟩=some (vs q)/\AL V c (vs q):=by
  unfold Ux at h;split at h
  ·rename_i ds H
   split at h
   ·rename_i u
    have u:=ce u
    injection h with h
    subst h;have m:AL V (.d (.p ds)) (a.tmps.getD t undef):=R t _ H;generalize a.tmps.getD t undef=S at m;obtain⟨m⟩:=m
    cases m with
    | @p _ b o vs hb z K=>
     refine⟨b,o,_,vs,rfl,rfl,by simp;omega,λq c g=>?_⟩;rw [ge,d7] at g;obtain⟨dd,y,rfl⟩:=g;rw [jk] at y;split at y
     ·exact⟨z q dd y,.d (K q dd y)⟩
     ·cases y
   ·cases h
  ·rename_i id k i j H
   split at h
   ·rename_i T0 k' rows X
    split at h
    ·rename_i r hk N
     have hk:=f9 hk;subst hk;split at h
     ·rename_i u
      have u:=ce u
      injection h with h
      subst h;rw [Mw] at N;have m:AL V (.ptr id k i j) (a.tmps.getD t undef):=R t _ H;generalize a.tmps.getD t undef=S at m
      cases m with
      | ptr Y B=>
       rcases hi.st.obj id _ X with ⟨J,_⟩|⟨_,cur,J,h5,h6,h7,h8,h9⟩
       ·exact absurd J B
       ·refine⟨V.U id,i*k+j,_,λq=>cur.getD (i*k+j+q) undef,rfl,rfl,by simp;omega,λq c g=>?_⟩
        rw [jk] at g;split at g
        ·rw [jl] at g
         obtain⟨v,s,M⟩:=h9 i r (j+q) c N g;rw [<-jz] at s
         have e:cur.getD (i*k+j+q) undef=v:=by simp [s]
         dsimp only;rw [e];exact⟨by simp [World.cell?,J,s],M⟩
        ·cases g
     ·cases h
    ·cases h
   ·cases h
  ·cases h
 obtain⟨b,o,cs,vs,T,rfl,l,I⟩:=key;rw [T]
 cases ag with
 | false=>
  have F:=L rfl;subst F
  match cs,l with
  | [c],_=>
   obtain⟨z,K⟩:=I 0 c rfl;refine⟨vs 0,?_,c,rfl,K⟩;rw [lh] at z;simp [asAddr,loadVar,(BH G.out V.w).1,z,go_sem]
 | true =>
  refine⟨.agg ((List.range n).map λq=>vs q).toArray,?_,_,rfl,by simp [l],λj c v Q A=>?_⟩
  ·have:(loadCells ⟨b,o,none⟩ n).run P V.w=.ok ((List.range n).map λq=>vs q).toArray V.w:=run_loadCells V.w _ n _ λq g=>by
    rw [Bw];exact(I q cs[q] (d6 (by omega))).1
   unfold loadCells at this;simp [asAddr,loadVar,(BH G.out V.w).1,(BH G.out V.w).2,this,go_sem]
  ·have g:j < n:=by have:=(am.1 Q).1;omega
   have:v=vs j:=by simpa [g] using A.symm
   subst this;exact(I j c Q).2
theorem YP[i:CB P]{V:View}{f:Env}{a:Act}{r:ResultVar}{x:Bool×List C}(hi:Inv TB Z V σ)(g:Ek V f a.tmps)(h:Wu i.T f σ r=some x) :
 ∃v,((match r with
  | .tmp t=>pure (a.tmps.getD t undef)
  | .cell b t=>do loadVar t (<-asAddr (a.tmps.getD b undef))):Sem Value).run P V.w=.ok v V.w/\LV V x v:=by
 have c:=λt=>Dr (P:=P) t i.ok;unfold Wu at h;split at h
 ·rename_i t
  split at h
  ·rename_i e j
   exact⟨_,by simp [go_sem],GK h (g t e j)⟩
  ·cases h
 ·rename_i t T'
  split at h
  ·rename_i n d
   exact OD hi ((c T').Lt d) (λh=>(by cases h)) g h
  ·rename_i d
   exact OD hi ((c T').Lt d) (λ_=>rfl) g h
  ·cases h
theorem bt{V:View}{x:Bool×List C}{e:E}{v:Value}(h:gR x=some e)(a:LV V x v):Bq V e v:=by
 unfold gR at h;split at h
 ·injection h with h;subst h
  obtain⟨c,b,d⟩:=a;simp at b;subst b;exact d
 ·injection h with h;subst h;exact a
 ·cases h
theorem YR[m:CB P]{fn:Func}{V:View}{f:Env}{a:Act}{x:E}(hi:Inv TB Z V σ)(Y:Ek V f a.tmps)(h:YQ m.T fn.results f σ=some x):∃v,(results fn a.tmps).run P V.w=.ok v V.w/\Bq V x v:=by
 obtain⟨F,X,e⟩:∃F:ResultVar->Sem Value,results fn a.tmps=(do let vs <-fn.results.mapM F;pure (if h:vs.size=1 then vs[0] else .tuple vs))/\∀r x,Wu m.T f σ r=some x->∃v,(F r).run P V.w=.ok v V.w/\LV V x v:=
  ⟨λr=>match r with
   | .tmp t=>pure (a.tmps.getD t undef)
   | .cell b t=>do loadVar t (<-asAddr (a.tmps.getD b undef)),rfl,λr x S=>YP hi Y S⟩
 have two:∀ {r:ResultVar} {rs:List ResultVar} {xs:List (Bool×List C)},Wv m.T f σ (r::rs)=some xs->∃y ys,xs=y::ys/\Wu m.T f σ r=some y/\Wv m.T f σ rs=some ys:=by
  intro r rs xs h;unfold Wv at h;split at h
  ·rename_i y ys k i
   injection h with h;subst h;exact⟨y,ys,rfl,k,i⟩
  ·cases h
 have nil:∀ {xs:List (Bool×List C)},Wv m.T f σ []=some xs->xs=[]:=λh=>by injection h with h;exact h.symm
 have key:∀l:List ResultVar,fn.results=l.toArray->YQ m.T l.toArray f σ=some x->∃v,(results fn a.tmps).run P V.w=.ok v V.w/\Bq V x v:=by
  intro l B h;rw [X,B];unfold YQ at h;simp only at h
  match l with
  | []=>
   injection h with h;subst h
   exact⟨.tuple #[],by simp [go_sem],#[],rfl,rfl,λj x v c=>by simp at c⟩
  | [r]=>
   simp only at h;split at h
   ·rename_i y R
    obtain⟨v,k,i⟩:=e r y R;exact⟨v,by simp [k,go_sem],bt h i⟩
   ·cases h
  | [L,K]=>
   simp only [jK,l4] at h;split at h
   ·rename_i xs _ d
    injection h with h;subst h
    obtain⟨J,ys,rfl,k,d⟩:=two d;obtain⟨I,ys,rfl,i,d⟩:=two d;have:=nil d;subst this;obtain⟨o,u,q⟩:=e _ _ k;obtain⟨n,s,p⟩:=e _ _ i;refine⟨.tuple #[o,n],by simp [u,s,go_sem],_,rfl,rfl,λj x v' c g=>?_⟩
    match j with
    | 0=>simp at c g;subst c;subst g;exact q
    | 1=>simp at c g;subst c;subst g;exact p
    | j+2=>simp at c
   ·omega
   ·omega
   ·cases h
  | [L,K,Q]=>
   simp only [jK,l4] at h;split at h
   ·omega
   ·rename_i xs _ d
    injection h with h;subst h
    obtain⟨J,ys,rfl,k,d⟩:=two d;obtain⟨I,ys,rfl,i,d⟩:=two d;obtain⟨M,ys,rfl,G,d⟩:=two d;have:=nil d;subst this;obtain⟨o,u,q⟩:=e _ _ k;obtain⟨n,s,p⟩:=e _ _ i;obtain⟨z,H,A⟩:=e _ _ G;refine⟨.tuple #[o,n,z],by simp [u,s,H,go_sem],_,rfl,rfl,λj x v' c g=>?_⟩
    match j with
    | 0=>simp at c g;subst c;subst g;exact q
    | 1=>simp at c g;subst c;subst g;exact p
    | 2=>simp at c g;subst c;subst g;exact A
    | j+3=>simp at c
   ·omega
   ·cases h
  | [L,K,Q,r4]=>
   simp only [jK,l4] at h;split at h
   ·omega
   ·omega
   ·rename_i xs _ d
    injection h with h;subst h
    obtain⟨J,ys,rfl,k,d⟩:=two d;obtain⟨I,ys,rfl,i,d⟩:=two d;obtain⟨M,ys,rfl,G,d⟩:=two d;obtain⟨y4,ys,rfl,h4,d⟩:=two d;have:=nil d;subst this;obtain⟨o,u,q⟩:=e _ _ k;obtain⟨n,s,p⟩:=e _ _ i;obtain⟨z,H,A⟩:=e _ _ G;obtain⟨N,e4,t4⟩:=e _ _ h4;refine⟨.tuple #[o,n,z,N],by simp [u,s,H,e4,go_sem],_,rfl,rfl,λj x v' c g=>?_⟩
    match j with
    | 0=>simp at c g;subst c;subst g;exact q
    | 1=>simp at c g;subst c;subst g;exact p
    | 2=>simp at c g;subst c;subst g;exact A
    | 3=>simp at c g;subst c;subst g;exact t4
    | j+4=>simp at c
   ·cases h
  | _::_::_::_::_::_=>
   simp only [jK] at h;cases h
 exact key fn.results.toList (by simp) (by simpa using h)
theorem Cr.bH [s:CB P] {g:FuncId} {fn:Func} {c:Code} {m:Nat} {σ:Ab} {nx:Nat} {args:List E} {post:E->Ab->Nat->Prop} (F:m<=nx) (r:P.funcs[g]? = some fn) (hb:fn.body=some c) (f:(fn.name == "runtime.NumGoroutine")=false)
 (j:args.length<=fn.ntmps) (h:∀Z:Ctx,Z.V.nx=m->Ai P TB Z fn.ntmps c (Xb s.T fn.results post) (look (BV 0 args)) σ nx):Cr P TB g m σ nx args post:=by
 refine⟨⟨fn,r,f,by rw [hb];rfl⟩,?_⟩;intro V vs S n ha;refine calls_of_wp r hb ?_
 have H:vs.size<=fn.ntmps:=by rw [ha.1];exact j
 have hi:Inv TB (GB V (PJ V m) σ S) V σ:=
  ⟨rfl,rfl,rfl,λ_ _ _=>rfl,n.iLt,λ_ h=>.inl h,ZW (by rw [n.nx];exact F),n.st,λid o B q b hb=>.inr (.inl ⟨id,o,B,q,hb⟩),n.tabs,⟨S,n.hid,λb hb=>.inl hb,λb hb=>.inr (.inr hb)⟩⟩
 have z:Cg TB (GB V (PJ V m) σ S) fn.ntmps V (look (BV 0 args)) σ nx { tmps:=vs++Array.replicate (fn.ntmps - vs.size) undef,defers:=[] } := by
  refine⟨?_,?_,by simp;omega,hi,n.nx,rfl⟩
  ·intro t e p
   obtain⟨_,d⟩:=Cj args 0 t e p
   have d:args[t]? = some e:=by simpa using d
   have i:t < vs.size:=by rw [ha.1];exact(am.1 d).1
   have G:=ha.2 t e vs[t] d (jc i)
   simpa [jr i,i] using G
  ·intro t e p
   obtain⟨_,d⟩:=Cj args 0 t e p
   have d:args[t]? = some e:=by simpa using d
   have:=(am.1 d).1;omega
 refine wp_mono (h (GB V (PJ V m) σ S) rfl V _ z) ?_;rintro e a' w' ⟨V',f',σ',rfl,k,a⟩
 have fin:(∃x,YQ s.T fn.results f' σ'=some x/\post x σ' V'.nx)->a'.defers=[]/\∃v,(results fn a'.tmps).run P V'.w=.ok v V'.w/\∃V'' v' x σ'',Ending.returned v=.returned v'/\V''.w=V'.w/\Inv TB (GB V (PJ V m) σ S) V'' σ''/\Bq V'' x v'/\post x σ'' V''.nx:=by
  rintro⟨x,u,A⟩;obtain⟨v,y,p⟩:=YR (P:=P) a.inv a.env u;exact⟨a.defers,v,y,V',v,x,σ',rfl,rfl,a.inv,p,A⟩
 cases e with
 | normal=>exact fin k
 | ret=>exact fin k
 | exit id=>exact k.elim
 | goto l=>exact k.elim
 | panic ch=>exact k.elim
 | outgrown=>exact k.elim
theorem eG [d:CB P] {g:FuncId} {fn:Func} {c:Code} {nx:Nat} {args:List E} {post:E->Ab->Nat->Prop} (b:P.funcs[g]? = some fn) (hb:fn.body=some c) (a:(fn.name == "runtime.NumGoroutine")=false)
 (ha:Nat.ble args.length fn.ntmps=true) (h:∀Z:Ctx,Z.V.nx=nx->Ai P TB Z fn.ntmps c (Xb d.T fn.results post) (look (BV 0 args)) σ nx):Spec P TB g σ nx args post:=
 Cr.Zk (Cr.bH (iX _) b hb a (ce ha) h)
end
section
variable {P:Program}{TB:BA}{Z:Ctx}{d:Option Tmp}{ty:TypeId}{pos:String}{af:Array Edge}{g:Option (Nat×Bool)}{f:Env}{σ:Ab}{nx:Nat}
variable {K:E->Ab->Nat->Prop}
theorem PW{t e:TypeId}{k b:Nat}{z:List Value}[j:Cs P t e k b][h:BJ P e z](a:z.length=k)(c:z.all Od=true):A8 P TB Z ⟨d,.buildSlice t 0 #[],ty,pos,af,g⟩ f σ nx .e:=
 Iq λV U o n=>by
  obtain⟨cur,m,q,p⟩:=Hr (es:=[]) j.out h.out a c o rfl rfl rfl rfl (by simp) (by simp);have i:∀b,b < V.w.heap.size->(V.w.alloc (.cells cur e)).heap[b]? = V.w.heap[b]?:=λb hb=>A6 V.w _ b hb;obtain⟨hi,l⟩:=R.Inv.grow n (w:=V.w.alloc (.cells cur e)) rfl rfl rfl (by simp) i;exact⟨_,{ V with w:=V.w.alloc (.cells cur e) },m,l,hi,rfl,⟨_,rfl⟩⟩
theorem VV{t e:TypeId}{k b:Nat}{z:List Value}{s x:Operand}{news:List (List C)}{ex:E}[hl:Cs P t e k b][hz:BJ P e z]
 (hs:ev f s=some .e) (hx:ev f x=some ex) (L:Hs σ k ex=some news) (S:∀r∈news,r.length=k) (hzk:z.length=k) (hb0:0 < b) (hb:news.length*b<=140737488355328)
 (hK0:news=[]->∀b,∃y,(∀V:View,Bq V y (.slice b 0 0))/\K y σ nx) (hK:news≠[]->K (.o (.arr nx k 0 news.length)) ((nx,.cells e k news)::σ) (nx+1)):Cq P TB Z ⟨d,.call ⟨.builtin .append,#[s,x],#[t,t]⟩,ty,pos,af,g⟩ f σ nx K:=
 DZ λV U h1 h2 h3=>by
  subst h3;obtain⟨i,hu,hi,hsz,Y⟩:=Gs hl.out;have I:=hz.out;simp only [WU,hi,kS,d7] at I;obtain⟨zv,H,hzz⟩:=I
  have hzc:zv.cells.size=k:=by rw [<-hzk,<-hzz];simp
  obtain⟨sb,hsv⟩:=h1.get (x:=s) (by simp [Op.operands,Call.operands]) hs;have hxr:=Vo h2 L S (h1.get (x:=x) (by simp [Op.operands,Call.operands]) hx)
  have l:∀w,(execOp U ⟨d,.call ⟨.builtin .append,#[s,x],#[t,t]⟩,ty,pos,af,g⟩).run P w=((Builtin.append_ #[t,t] ty #[U s,U x]).run P w).andThen λv w'=>.ok (.value v) w':=λw=>by
   simp only [execOp,resolve,invoke,builtin,mt,kk,mu,pure_bind,bind_pure_comp,k9]
  have R:news.length<=maxLen:=by
   have:news.length<=news.length*b:=kc _ hb0;unfold maxLen;omega
  have T:((news.length:Nat):Int)<=9223372036854775807:=by
   have:news.length<=news.length*b:=kc _ hb0;omega
  rw [hsv] at l;generalize hvx:U x=vx at *;have A:=λh=>hK0 h sb;have nothing:news=[]->∀v,(Builtin.append_ #[t,t] ty #[.slice sb 0 0,vx]).run P V.w=.ok (.slice sb 0 0) V.w->v=Value.slice sb 0 0->
   ∃v V' xx σ',(execOp U ⟨d,.call ⟨.builtin .append,#[s,x],#[t,t]⟩,ty,pos,af,g⟩).run P V.w=.ok (.value v) V'.w/\Ext V V'/\Inv TB Z V' σ'/\Bq V' xx v/\K xx σ' V'.nx:=λhn v B _=>
   let ⟨y,k1,k2⟩:=A hn
   ⟨.slice sb 0 0,V,y,σ,by rw [l,B];rfl,Ext.refl _,h2,k1 V,k2⟩
  rcases hxr with ⟨rfl,Q⟩|⟨xa,xc,xv,rfl,J,m⟩
  ·exact nothing Q _ (EU hu hi V.w sb 0 0 (iX _) ty) rfl
  ·have n:(CW news.length k xv).length=news.length*i.size:=by rw [CG,hsz]
   have p:∀j u,(CW news.length k xv)[j]? = some u->V.w.cell? (xa.add j)=some u:=by
    intro q u hq;obtain⟨a,b,rfl,ha,hb,rfl⟩:=KH hq
    have hbl:b < news[a].length:=by rw [J _ (jC ha)];exact hb
    exact(m a news[a] b news[a][b] (d6 ha) (d6 hbl)).1
   rcases jI news.length with F|F
   ·have N:news=[]:=i8.1 F
    refine nothing N _ ?_ rfl;subst N;cases sb<;>simp [Builtin.append_,run_underlying hu,sizeOf,typeInfo,hi,Builtin.lenOf,Builtin.firstCells,loadCells,loadCellsFrom,storeCells,go_sem]
   ·have hne:news≠[]:=λh=>by subst h;simp at F
    have M:(Builtin.append_ #[t,t] ty #[.slice sb 0 0,.slice (some xa) news.length xc]).run P V.w=.ok (.slice (some ⟨V.w.heap.size,0,none⟩) news.length (grownCap V.w news.length 0 e))
     (V.w.drew.alloc (.cells ((CW news.length k xv).toArray++Builtin.zeroCells zv.cells (grownCap V.w news.length 0 e - news.length)) e)):=by
     cases sb with
     | none=>
      have B:=run_append_nil (P:=P) V.w t ty e i zv hu hi H xa news.length xc _ n p F (by omega) (by rw [Y];omega);rw [B]
     | some sa=>
      have B:=run_append_grow (P:=P) V.w t ty e i zv hu hi H sa 0 0 [] (by simp) (λj v hj=>by simp at hj) xa news.length xc _ n p (by omega) (by simpa using T) (by rw [Y];exact growslice_fits (by omega) (by simpa using hb))
      simpa using B
    have G:=grownCap_ge V.w news.length 0 e;have hcm:=grownCap_le_maxLen V.w news.length 0 e R;generalize grownCap V.w news.length 0 e=cap' at *
    let w':=V.w.drew.alloc (.cells ((CW news.length k xv).toArray++Builtin.zeroCells zv.cells (cap' - news.length)) e)
    have ee:Ext V (Ax V V.w.heap.size cap' False w'):=D0 (by simp [w']) λb hb=>A6 V.w.drew _ b (h2.iLt b hb)
    obtain⟨hi',he'⟩:=h2.alloc (c:=cap') (nl:=False) (w:=w') (ob:=.cells e k news) rfl rfl rfl rfl (by simp [w']) (λb hb=>A6 V.w.drew _ b hb) (by
     have B:(Ax V V.w.heap.size cap' False w').U V.nx=V.w.heap.size:=by simp [Ax]
     have X:(Ax V V.w.heap.size cap' False w').cap V.nx=cap':=by simp [Ax]
     refine .inr ⟨by simp [Ax],(CW news.length k xv).toArray++Builtin.zeroCells zv.cells (cap' - news.length),?_,?_,?_,?_,S,?_⟩
     ·have:=BT V.w.drew (.cells ((CW news.length k xv).toArray++Builtin.zeroCells zv.cells (cap' - news.length)) e)
      rw [B];exact this
     ·rw [X]
      simp only [Array.size_append,mn,CG,Builtin.zeroCells,Array.size_map,Array.size_range,hzc,<-js];congr 1;omega
     ·rw [X];exact G
     ·rw [X];exact hcm
     ·intro a r j c hi hj
      have hil:=(am.1 hi).1
      have hjl:j < k:=by rw [<-J r (co hi)];exact(am.1 hj).1
      have h10:=KG (vs:=xv) hil hjl;refine⟨xv a j,?_,(m a r j c hi hj).2.ext ee⟩;have hlt:=(am.1 h10).1;rw [jr (by simpa using hlt)]
      simpa using h10)
    refine⟨.slice (some ⟨V.w.heap.size,0,none⟩) news.length cap',_,_,(V.nx,.cells e k news)::σ,?_,he',hi',?_,hK hne⟩
    ·rw [l,M];rfl
    ·have:=@AL.arr (Ax V V.w.heap.size cap' False w') V.nx k 0 news.length (by simp [Ax]) (by simp [Ax]) (by simp [Ax];exact G)
     have B:(Ax V V.w.heap.size cap' False w').U V.nx=V.w.heap.size:=by simp [Ax]
     have X:(Ax V V.w.heap.size cap' False w').cap V.nx=cap':=by simp [Ax]
     rw [B,X,kD,mw] at this;exact this
theorem DO{t e:TypeId}{k b:Nat}{z:List Value}{s x:Operand}{news:List (List C)}{ex:E}[u:Cs P t e k b][q:BJ P e z]
 (n:ev f s=some .e) (m:ev f x=some ex) (a:Hs σ k ex=some news) (i:∀r∈news,r.length=k) (c:z.length=k) (j:0 < b) (hb:news.length*b<=140737488355328)
 (l:news=[]->K .e σ nx) (p:news≠[]->K (.o (.arr nx k 0 news.length)) ((nx,.cells e k news)::σ) (nx+1)):Cq P TB Z ⟨d,.call ⟨.builtin .append,#[s,x],#[t,t]⟩,ty,pos,af,g⟩ f σ nx K:=VV n m a i c j hb (λh b=>⟨.e,λV=>⟨b,rfl⟩,l h⟩) p
end
section
variable {P:Program}{TB:BA}{Z:Ctx}{N:Nat}
theorem Ai.Ay{c:Code}{Q:Exit->Env->Ab->Nat->Prop}{L0 Lk:List (Nat×E)}{σ Sk:Ab}{nx:Nat}(ks is:List Nat)(hk:Nh L0 ks=some Lk)(hi:UE σ is=some Sk)(v:List (Nat×E))(s:Ab)(l:List Nat)
 (a:(∀i,i < Z.V.nx->l[i]? = some i)/\l.Nodup) (b:Dl (nm l nx) (look L0) (v++Lk)/\A2 (nm l nx) σ (s++Sk)) (h:Ai P TB Z N c Q (look (v++Lk)) (s++Sk) l.length):Ai P TB Z N c Q (look L0) σ nx:=
 Ai.names l (v++Lk) (s++Sk) a.1 a.2 b.1 b.2 h
end
section
variable {P:Program}{TB:BA}{Z:Ctx}{d:Option Tmp}{ty:TypeId}{pos:String}{af:Array Edge}{g:Option (Nat×Bool)}{f:Env}{σ:Ab}{nx:Nat}
variable {K:E->Ab->Nat->Prop}
theorem OT{t:TypeId}{z:List Value}{fl:List (Nat×Nat)}{parts:Array (Nat×Operand)}{es:List E}{qs:List (Nat×List C)}[N:BJ P t z][T:Fj P t fl](p k e q k' e':Nat)(M:z[p]? = some (.slice none 0 0))(m:z[q]? = some (.slice none 0 0))(S:p≠q)(I:Jl f (parts.toList.map (·.2))=some es)(R:FG fl parts.toList es=some qs)
 (A:z.all Od=true) (B:(qs.all λx=>Nat.ble (x.1+x.2.length) z.length)=true) (Y:K (.a (DL qs (((z.map zC).set p (.arr nx k 0 0)).set q (.arr (nx+1) k' 0 0)))) ((nx+1,.cells e' k' [])::(nx,.cells e k [])::σ) (nx+2)):Cq P TB Z ⟨d,.build t parts,ty,pos,af,g⟩ f σ nx K:=
 DZ λV U h1 h2 h3=>by
  subst h3;obtain⟨i,zv,hi,s,l⟩:=Hx N.out;obtain⟨G,L⟩:=h2.alloc (c:=0) (nl:=True) (w:=V.w) (ob:=.cells e k []) rfl rfl rfl rfl (iX _) (λ_ _=>rfl) (.inl ⟨by simp [Ax],rfl⟩);obtain⟨F,J⟩:=G.alloc (c:=0) (nl:=True) (w:=V.w) (ob:=.cells e' k' []) rfl rfl rfl rfl (iX _) (λ_ _=>rfl) (.inl ⟨by simp [Ax],rfl⟩);have r:=L.trans J;have H:=Dt (V:=Ax (Ax V V.w.heap.size 0 True V.w) V.w.heap.size 0 True V.w) (U:=U) parts.toList es qs (λx y e X=>(h1.get (by simp only [Op.operands];simpa using y) X).ext r) I R
  have u:CP (Ax (Ax V V.w.heap.size 0 True V.w) V.w.heap.size 0 True V.w) (((z.map zC).set p (.arr V.nx k 0 0)).set q (.arr (V.nx+1) k' 0 0)) zv.cells:=by
   refine⟨by rw [jX,jX,gt,<-l];simp,λj c v h Q=>?_⟩
   have b:z[j]? = some v:=by rw [<-l,jO];exact Q
   by_cases n:q=j
   ·subst n
    rw [m] at b
    injection b with b
    subst b;rw [kj (by rw [jX,gt];exact(am.1 m).1)] at h
    injection h with h
    subst h;exact AL.nil (by simp [Ax]) (by simp [Ax])
   ·rw [kq n] at h
    by_cases o:p=j
    ·subst o
     rw [M] at b
     injection b with b
     subst b;rw [kj (by rw [gt];exact(am.1 M).1)] at h
     injection h with h
     subst h;exact AL.nil (by simp [Ax];omega) (by simp [Ax])
    ·rw [kq o,ge,b] at h
     injection h with h
     subst h;exact Li (d8.1 A v (co b))
  obtain⟨cells,h4,h5⟩:=GC _ _ _ _ H u (λx y=>by rw [jX,jX,gt];exact JA _ _ B x y);have hb:=run_build (P:=P) (U:=U) (parts:=parts) (V:=V) hi s T.out h4;refine⟨.agg cells,_,_,_,?_,r,F,(show Bq _ (.a _) _ from ⟨cells,rfl,h5⟩),Y⟩
  show ((do let v <-Instr.build t (parts.map λ(i,x)=>(i,U x));pure (Go.Next.value v):Sem Go.Next)).run P V.w=_
  simp only [jb,hb,iW];rfl
end
abbrev IA:=List (Value×List Int)
def sI(l:IA):List (Value×List Value):=l.map λx=>(x.1,x.2.map (.int .i64))
def AE(l:IA):List (List C):=l.map λx=>[.d (.v x.1)]
abbrev JV(xs:List Int):List (List C):=xs.map AB
theorem Zy{V:View}{i k off n:Nat}{v:Value}(h:AL V (.arr i k off n) v):(V.nl i/\off=0/\n=0/\v=.slice none 0 0)\/(¬V.nl i/\off+n<=V.cap i/\v=.slice (some ⟨V.U i,off*k,none⟩) n (V.cap i - off)):=by
 cases h with
 | nil _ h=>exact .inl ⟨h,rfl,rfl,rfl⟩
 | arr _ b a=>exact .inr ⟨b,a,rfl⟩
theorem Jh(l m:IA):sI (l++m)=sI l++sI m:=jW
theorem AQ(l m:IA):AE (l++m)=AE l++AE m:=jW
theorem Cy(l:IA):(AE l).length=l.length:=gt _
theorem RF(r:Nat->Nat)(l:IA):(AE l).map (C.Cp r)=AE l:=by
 unfold AE;rw [ka];rfl
theorem Ys(l:List Int):(JV l).length=l.length:=gt _
section
variable {P:Program}{TB:BA}{Z:Ctx}{N:Nat}{V:View}{σ:Ab}{a i s:Nat}{T Ta:TypeId}{R1 R2:List (List C)}{xs:List Int}{l1 l2:IA}
theorem TQ{l:IA}{x:Value×List Value}(h:x∈sI l):∃y∈l,x=(y.1,y.2.map (.int .i64)):=by
 obtain⟨y,a,rfl⟩:=f7.1 h;exact⟨y,a,rfl⟩
theorem Inv.put(h:Inv TB Z V σ)(ha:look σ a=some (.cells Ta 1 (R1++[.arr i 1 0 xs.length]::R2)))(hi:look σ i=some (.cells T 1 (JV xs)))(P:look σ s=some (.sld T (sI (l1++l2)))) :
 ∃v,Inv TB Z V ((a,.cells Ta 1 (R1++[.d (.v v)]::R2))::(s,.sld T (sI (l1++(v,xs)::l2)))::kill i σ):=by
 have has:a≠s:=λe=>by rw [e,P] at ha;cases ha
 have his:i≠s:=λe=>by rw [e,P] at hi;cases hi
 have hai:a≠i:=λe=>by
  rw [e,hi] at ha
  injection ha with ha;injection ha with _ _ ha
  have B:(JV xs)[R1.length]? = some [.arr i 1 0 xs.length]:=by rw [ha];simp
  rw [ge,d7] at B;obtain⟨x,_,A⟩:=B;cases A
 rcases h.st.obj a _ ha with ⟨_,h0⟩|⟨hna,cur,R,N,h4,h5,h6,h7⟩
 ·simp at h0
 obtain⟨v,hv,Q⟩:=h7 R1.length [.arr i 1 0 xs.length] 0 (.arr i 1 0 xs.length) (by simp) rfl;have Q:=Zy Q
 have hsl:NP v=true:=by rcases Q with ⟨_,_,_,rfl⟩|⟨_,_,rfl⟩<;>rfl
 have I:∀b,IV v b->¬V.nl i/\b=V.U i:=by
  rintro b ⟨o,n,c,rfl⟩
  rcases Q with ⟨_,_,_,p⟩|⟨m,_,p⟩
  ·cases p
  ·injection p with p;injection p with p;injection p with p;exact⟨m,p⟩
 have K:Jo V.w T v (xs.map (.int .i64)):=by
  rcases h.st.obj i _ hi with ⟨G,z⟩|⟨hni,cur',z,F,g4,g5,g6,g7⟩
  ·have:xs=[]:=by simpa using z
   subst this
   rcases Q with ⟨_,_,_,rfl⟩|⟨m,_⟩
   ·exact .inl ⟨rfl,rfl⟩
   ·exact absurd G m
  ·rcases Q with ⟨m,_⟩|⟨_,hle,rfl⟩
   ·exact absurd m hni
   ·refine .inr ⟨V.U i,V.cap i,cur',by simp,z,by simpa using F,by rw [Ys] at g4;simpa using g4,g5,λj x M=>?_⟩
    rw [ge,d7] at M;obtain⟨n,m,rfl⟩:=M;obtain⟨w,p,hcw⟩:=g7 j [.d (.v (.int .i64 n))] 0 (.d (.v (.int .i64 n))) (by simp [JV,m]) rfl;have:w=.int .i64 n:=AL.val hcw;subst this;exact⟨by simpa using p,rfl⟩
 refine⟨v,?_⟩;have look':∀id o,look ((a,.cells Ta 1 (R1++[.d (.v v)]::R2))::(s,.sld T (sI (l1++(v,xs)::l2)))::kill i σ) id=some o->
  (id=a/\o=.cells Ta 1 (R1++[.d (.v v)]::R2))\/(id=s/\o=.sld T (sI (l1++(v,xs)::l2)))\/(id≠a/\id≠s/\id≠i/\look σ id=some o):=λid o f=>by
  rw [AA] at f;by_cases B:a=id
  ·rw [if_pos B] at f;injection f with f;exact .inl ⟨B.symm,f.symm⟩
  ·rw [if_neg B,AA] at f
   by_cases R:s=id
   ·rw [if_pos R] at f;injection f with f;exact .inr (.inl ⟨R.symm,f.symm⟩)
   ·rw [if_neg R,Ep] at f
    by_cases N:id=i
    ·rw [if_pos N] at f;cases f
    ·rw [if_neg N] at f;exact .inr (.inr ⟨Ne.symm B,Ne.symm R,N,f⟩)
 have hsb:∀b,EF V s (.sld T (sI (l1++(v,xs)::l2))) b->EF V s (.sld T (sI (l1++l2))) b\/(¬V.nl i/\b=V.U i):=by
  rintro b ⟨x,A,hb⟩;obtain⟨y,l,rfl⟩:=TQ A
  rcases f6.1 l with l|l
  ·exact .inl ⟨_,f7.2 ⟨y,jf _ l,rfl⟩,hb⟩
  ·rcases je.1 l with rfl|l
   ·exact .inr (I b hb)
   ·exact .inl ⟨_,f7.2 ⟨y,jp _ l,rfl⟩,hb⟩
 have t:=h.st.obj s _ P
 have H:∀x∈sI (l1++l2),∀b,IV x.1 b->¬IV v b:=λx A b hb u=>by
  obtain⟨m,rfl⟩:=I b u;exact h.st.inj s i _ _ P hi (Ne.symm his) t.1 m _ ⟨x,A,hb⟩ rfl
 have src:∀id o,look ((a,.cells Ta 1 (R1++[.d (.v v)]::R2))::(s,.sld T (sI (l1++(v,xs)::l2)))::kill i σ) id=some o->¬V.nl id->∀b,EF V id o b->∃g J,look σ g=some J/\¬V.nl g/\EF V g J b/\(g=id\/g=i/\id=s):=λid o f m b hb=>by
  rcases look' id o f with ⟨rfl,rfl⟩|⟨rfl,rfl⟩|⟨_,_,_,f⟩
  ·exact⟨_,_,ha,m,hb,.inl rfl⟩
  ·rcases hsb b hb with hb|⟨B,rfl⟩
   ·exact⟨_,_,P,m,hb,.inl rfl⟩
   ·exact⟨_,_,hi,B,rfl,.inr ⟨rfl,rfl⟩⟩
  ·exact⟨_,_,f,m,hb,.inl rfl⟩
 have noi:∀id o,look ((a,.cells Ta 1 (R1++[.d (.v v)]::R2))::(s,.sld T (sI (l1++(v,xs)::l2)))::kill i σ) id=some o->id≠i:=λid o f=>by
  rcases look' id o f with ⟨rfl,rfl⟩|⟨rfl,rfl⟩|⟨_,_,N,_⟩
  ·exact hai
  ·exact Ne.symm his
  ·exact N
 refine⟨h.os,h.tape,h.output,h.old,h.iLt,h.iNew,h.ext,⟨λid o f=>?_,λid o f=>?_,λid o f m b hb=>?_,λid id' o o' f X Y m hn' b hb u=>?_⟩,λid o f m b hb=>?_,h.tabs,h.hid.same rfl (λ_ h=>h) (λ_ h=>.inl h) λb ⟨id,o,f,m,hb⟩=>let ⟨g,J,G,z,F,_⟩:=src id o f m b hb;⟨g,J,G,z,F⟩⟩
 ·rcases look' id o f with ⟨rfl,rfl⟩|⟨rfl,rfl⟩|⟨_,_,_,f⟩
  ·refine .inr ⟨hna,cur,R,N,by simpa using h4,h5,λr L=>?_,λq r j c hq M=>?_⟩
   ·rcases f6.1 L with L|L
    ·exact h6 r (jf _ L)
    ·rcases je.1 L with rfl|L
     ·rfl
     ·exact h6 r (jp _ (jE _ L))
   ·by_cases hq0:q=R1.length
    ·subst hq0
     simp at hq;subst hq
     have hj0:j=0:=by have:=(am.1 M).1;simp at this;omega
     subst hj0;simp at M;subst M;exact⟨v,hv,.d (.v hsl)⟩
    ·refine h7 q r j c ?_ M
     rw [<-hq]
     rcases jB q R1.length with h8|h8
     ·rw [d9 h8,d9 h8]
     ·rw [em h8,em h8]
      obtain⟨k,hk⟩:∃k,q - R1.length=k+1:=⟨q - R1.length - 1,by omega⟩
      rw [hk];rfl
  ·refine⟨t.1,?_,λx A=>?_⟩
   ·have hp:=t.2.1
    rw [Jh,kr] at hp;rw [Jh,kr];refine⟨hp.1,jM.2 ⟨λy l b hb u=>H y (by rw [Jh];exact jp _ l) b u hb,hp.2.1⟩,λx A y l=>?_⟩
    rcases je.1 l with rfl|l
    ·exact λb hb=>H x (by rw [Jh];exact jf _ A) b hb
    ·exact hp.2.2 x A y l
   ·obtain⟨y,l,rfl⟩:=TQ A
    rcases f6.1 l with l|l
    ·exact t.2.2 _ (f7.2 ⟨y,jf _ l,rfl⟩)
    ·rcases je.1 l with rfl|l
     ·exact K
     ·exact t.2.2 _ (f7.2 ⟨y,jp _ l,rfl⟩)
  ·exact h.st.obj id o f
 ·rcases look' id o f with ⟨rfl,rfl⟩|⟨rfl,rfl⟩|⟨_,_,_,f⟩
  ·exact h.st.lt _ _ ha
  ·exact h.st.lt _ _ P
  ·exact h.st.lt _ _ f
 ·obtain⟨g,J,G,z,F,_⟩:=src id o f m b hb
  exact h.st.free _ _ G z b F
 ·obtain⟨g,J,G,z,F,g4⟩:=src id o f m b hb
  obtain⟨S,o0',g1',g2',g3',g4'⟩:=src id' o' X hn' b u;refine h.st.inj g S _ _ G g1' ?_ z g2' b F g3';have n1:=noi id o f;have n2:=noi id' o' X;rintro rfl
  rcases g4 with rfl|⟨rfl,rfl⟩<;>rcases g4' with rfl|⟨e1,rfl⟩
  ·exact Y rfl
  ·exact n1 e1
  ·exact n2 rfl
  ·exact Y rfl
 ·obtain⟨g,J,G,z,F,_⟩:=src id o f m b hb
  exact h.live _ _ G z b F
theorem Ai.put{c:Code}{Q:Exit->Env->Ab->Nat->Prop}{f:Env}{nx:Nat}(a i s:Nat)(R1 R2:List (List C))(xs:List Int)(l1 l2:IA)(ha:look σ a=some (.cells Ta 1 (R1++[.arr i 1 0 xs.length]::R2)))(hi:look σ i=some (.cells T 1 (JV xs)))(g:look σ s=some (.sld T (sI (l1++l2))))
 (h:∀v,Ai P TB Z N c Q f ((a,.cells Ta 1 (R1++[.d (.v v)]::R2))::(s,.sld T (sI (l1++(v,xs)::l2)))::kill i σ) nx):Ai P TB Z N c Q f σ nx:=by
 intro V ac b;obtain⟨v,e⟩:=b.inv.put ha hi g;exact h v V ac ⟨b.env,b.lt,b.size,e,b.nx,b.defers⟩
theorem Inv.take{v:Value}(h:Inv TB Z V σ)(ha:look σ a=some (.cells Ta 1 (R1++[.d (.v v)]::R2)))(hs:look σ s=some (.sld T (sI (l1++(v,xs)::l2)))) :
 ∃V',V'.w=V.w/\V'.nx=V.nx+1/\Ext V V'/\Inv TB Z V' ((a,.cells Ta 1 (R1++[.arr V.nx 1 0 xs.length]::R2))::(V.nx,.cells T 1 (JV xs))::(s,.sld T (sI (l1++l2)))::σ):=by
 have has:a≠s:=λe=>by rw [e,hs] at ha;cases ha
 have p:=h.st.obj s _ hs;have hsn:=h.st.lt _ _ hs;have l:=h.st.lt _ _ ha;have K:((v,xs.map (.int .i64)):Value×List Value)∈sI (l1++(v,xs)::l2):=f7.2 ⟨(v,xs),by simp,rfl⟩
 obtain⟨u,cap,nl,hb0,hcr,hob⟩:∃u cap nl,(¬nl->IV v u)/\AL (Ax V u cap nl V.w) (.arr V.nx 1 0 xs.length) v/\CC (Ax V u cap nl V.w) V.nx (.cells T 1 (JV xs)):=by
  rcases p.2.2 _ K with ⟨m,G⟩|⟨b,cap,cur,m,G,z,h4,h5,h6⟩
  ·have m:v=.slice none 0 0:=m
   have hx0:xs=[]:=by simpa using G
   subst m;subst hx0;exact⟨0,0,True,λh=>absurd trivial h,.nil (by simp [Ax]) (by simp [Ax]),.inl ⟨by simp [Ax],rfl⟩⟩
  ·have m:v=.slice (some ⟨b,0,none⟩) (xs.map (Value.int .i64)).length cap:=m
   rw [gt] at m h4;refine⟨b,cap,False,λ_=>⟨_,_,_,m⟩,?_,.inr ⟨by simp [Ax],cur,by simpa [Ax] using G,by simpa [Ax] using z,by simpa [Ax] using h4,by simpa [Ax] using h5,λr A=>?_,λq r j c hq L=>?_⟩⟩
   ·rw [m]
    have:=@AL.arr (Ax V b cap False V.w) V.nx 1 0 xs.length (by simp [Ax]) (by simp [Ax]) (by simpa [Ax] using h4)
    simpa [Ax] using this
   ·obtain⟨n,_,rfl⟩:=f7.1 A;rfl
   ·rw [ge,d7] at hq
    obtain⟨n,t,rfl⟩:=hq
    have R:j=0:=by have:=(am.1 L).1;simp at this;omega
    subst R;simp at L;subst L;exact⟨.int .i64 n,by simpa using (h6 q (.int .i64 n) (by simp [t])).1,.d (.v rfl)⟩
 have e:Ext V (Ax V u cap nl V.w):=D0 (iX _) λ_ _=>rfl
 have hU:(Ax V u cap nl V.w).U V.nx=u:=by simp [Ax]
 have hnl:(Ax V u cap nl V.w).nl V.nx↔nl:=by simp [Ax]
 refine⟨Ax V u cap nl V.w,rfl,rfl,e,?_⟩;have look':∀id o,look ((a,.cells Ta 1 (R1++[.arr V.nx 1 0 xs.length]::R2))::(V.nx,.cells T 1 (JV xs))::(s,.sld T (sI (l1++l2)))::σ) id=some o->
  (id=a/\o=.cells Ta 1 (R1++[.arr V.nx 1 0 xs.length]::R2))\/(id=V.nx/\o=.cells T 1 (JV xs))\/(id=s/\o=.sld T (sI (l1++l2)))\/(id≠a/\id≠s/\look σ id=some o):=λid o f=>by
  rw [AA] at f;by_cases m:a=id
  ·rw [if_pos m] at f;injection f with f;exact .inl ⟨m.symm,f.symm⟩
  ·rw [if_neg m,AA] at f
   by_cases G:V.nx=id
   ·rw [if_pos G] at f;injection f with f;exact .inr (.inl ⟨G.symm,f.symm⟩)
   ·rw [if_neg G,AA] at f
    by_cases z:s=id
    ·rw [if_pos z] at f;injection f with f;exact .inr (.inr (.inl ⟨z.symm,f.symm⟩))
    ·rw [if_neg z] at f;exact .inr (.inr (.inr ⟨Ne.symm m,Ne.symm z,f⟩))
 have J:∀x∈sI (l1++l2),x∈sI (l1++(v,xs)::l2):=λx i=>by
  obtain⟨y,P,rfl⟩:=TQ i;refine f7.2 ⟨y,?_,rfl⟩
  rcases f6.1 P with P|P
  ·exact jf _ P
  ·exact jp _ (jE _ P)
 have hp:=p.2.1;rw [Jh,kr] at hp;have hp2:=jM.1 hp.2.1
 have M:∀x∈sI (l1++l2),∀b,IV x.1 b->¬IV v b:=λx i b hb F=>by
  rw [Jh] at i
  rcases f6.1 i with i|i
  ·exact hp.2.2 x i _ (kZ ..) b hb F
  ·exact hp2.1 x i b F hb
 have src:∀id o,look ((a,.cells Ta 1 (R1++[.arr V.nx 1 0 xs.length]::R2))::(V.nx,.cells T 1 (JV xs))::(s,.sld T (sI (l1++l2)))::σ) id=some o->¬(Ax V u cap nl V.w).nl id->∀b,EF (Ax V u cap nl V.w) id o b->
  ∃g N,look σ g=some N/\¬V.nl g/\EF V g N b/\(g=id\/g=s/\id=V.nx/\IV v b)/\(id=s->∃x∈sI (l1++l2),IV x.1 b):=λid o f t b hb=>by
  rcases look' id o f with ⟨rfl,rfl⟩|⟨rfl,rfl⟩|⟨rfl,rfl⟩|⟨_,z,f⟩
  ·exact⟨_,_,ha,λh=>t ((e.nl _ l).2 h),by have:b=_:=hb;rw [e.U _ l] at this;exact this,.inl rfl,λe=>absurd e has⟩
  ·have hb:b=_:=hb
   rw [hU] at hb;subst hb;have hv:=hb0 λh=>t (hnl.2 h);exact⟨_,_,hs,p.1,⟨_,K,hv⟩,.inr ⟨rfl,rfl,hv⟩,λe=>by omega⟩
  ·obtain⟨x,i,hb⟩:=hb
   exact⟨_,_,hs,p.1,⟨x,J x i,hb⟩,.inl rfl,λ_=>⟨x,i,hb⟩⟩
  ·have hlt:=h.st.lt _ _ f
   exact⟨_,_,f,λh=>t ((e.nl _ hlt).2 h),(AK e hlt).1 hb,.inl rfl,λe=>absurd e z⟩
 refine⟨h.os,h.tape,h.output,h.old,h.iLt,h.iNew,h.ext.trans e,⟨λid o f=>?_,λid o f=>?_,λid o f t b hb=>?_,λid id' o o' f ho' hne t hn' b hb F=>?_⟩,λid o f t b hb=>?_,h.tabs,h.hid.same rfl (λ_ h=>h) (λ_ h=>.inl h) λb ⟨id,o,f,t,hb⟩=>let ⟨g,N,Y,X,S,_⟩:=src id o f t b hb;⟨g,N,Y,X,S⟩⟩
 ·rcases look' id o f with ⟨rfl,rfl⟩|⟨rfl,rfl⟩|⟨rfl,rfl⟩|⟨_,_,f⟩
  ·rcases h.st.obj _ _ ha with ⟨_,h0⟩|⟨hna,cur,G,z,h4,h5,h6,h7⟩
   ·simp at h0
   refine .inr ⟨λh=>hna ((e.nl _ l).1 h),cur,by rw [e.U _ l];exact G,by rw [e.cap _ l];exact z,by rw [e.cap _ l];simpa using h4,by rw [e.cap _ l];exact h5,λr A=>?_,λq r j c hq L=>?_⟩
   ·rcases f6.1 A with A|A
    ·exact h6 r (jf _ A)
    ·rcases je.1 A with rfl|A
     ·rfl
     ·exact h6 r (jp _ (jE _ A))
   ·by_cases hq0:q=R1.length
    ·subst hq0
     simp at hq;subst hq
     have R:j=0:=by have:=(am.1 L).1;simp at this;omega
     subst R;simp at L;subst L;obtain⟨w,hw,hc⟩:=h7 R1.length [.d (.v v)] 0 (.d (.v v)) (by simp) rfl;have hw2:w=v:=AL.val hc;subst hw2;exact⟨w,hw,hcr⟩
    ·obtain⟨w,hw,hc⟩:=h7 q r j c (by
      rw [<-hq]
      rcases jB q R1.length with h8|h8
      ·rw [d9 h8,d9 h8]
      ·rw [em h8,em h8]
       obtain⟨k,hk⟩:∃k,q - R1.length=k+1:=⟨q - R1.length - 1,by omega⟩
       rw [hk];rfl) L
     exact⟨w,hw,hc.ext e⟩
  ·exact hob
  ·refine⟨λh=>p.1 ((e.nl _ hsn).1 h),?_,λx i=>p.2.2 x (J x i)⟩
   rw [Jh,kr];exact⟨hp.1,hp2.2,λx i y P=>hp.2.2 x i y (jE _ P)⟩
  ·exact(h.st.obj id o f).AX e (h.st.lt id o f) λ_ _ _=>rfl
 ·rcases look' id o f with ⟨rfl,rfl⟩|⟨rfl,rfl⟩|⟨rfl,rfl⟩|⟨_,_,f⟩
  ·exact kt l
  ·exact kT _
  ·exact kt hsn
  ·exact kt (h.st.lt _ _ f)
 ·obtain⟨g,N,Y,X,S,_⟩:=src id o f t b hb
  exact h.st.free _ _ Y X b S
 ·obtain⟨g,N,Y,X,S,g4,g5⟩:=src id o f t b hb
  obtain⟨I,o0',g1',g2',g3',H,g5'⟩:=src id' o' ho' hn' b F;by_cases B:g=I
  ·rcases g4 with g4|⟨k1,k2,k3⟩<;>rcases H with H|⟨k1',k2',k3'⟩
   ·exact hne (by rw [<-g4,<-H,B])
   ·obtain⟨x,i,Q⟩:=g5 (by rw [<-g4,B,k1'])
    exact M x i b Q k3'
   ·obtain⟨x,i,Q⟩:=g5' (by rw [<-H,<-B,k1])
    exact M x i b Q k3
   ·exact hne (by rw [k2,k2'])
  ·exact h.st.inj g I _ _ Y g1' B X g2' b S g3'
 ·obtain⟨g,N,Y,X,S,_⟩:=src id o f t b hb
  exact h.live _ _ Y X b S
theorem Ai.take{c:Code}{Q:Exit->Env->Ab->Nat->Prop}{f:Env}{nx:Nat}(a s:Nat)(R1 R2:List (List C))(v:Value)(xs:List Int)(l1 l2:IA)(ha:look σ a=some (.cells Ta 1 (R1++[.d (.v v)]::R2)))(g:look σ s=some (.sld T (sI (l1++(v,xs)::l2))))
 (h:Ai P TB Z N c Q f ((a,.cells Ta 1 (R1++[.arr nx 1 0 xs.length]::R2))::(nx,.cells T 1 (JV xs))::(s,.sld T (sI (l1++l2)))::σ) (nx+1)):Ai P TB Z N c Q f σ nx:=by
 intro V ac b;obtain⟨V',j,i,e,hi⟩:=b.inv.take ha g;have:=h V' ac ⟨b.env.ext e,b.lt,b.size,by have:=b.nx;subst this;exact hi,by rw [i,b.nx],b.defers⟩;rw [j] at this;exact this
theorem Ai.dA{c:Code}{Q:Exit->Env->Ab->Nat->Prop}{f:Env}{nx:Nat}(T:TypeId)(h:Ai P TB Z N c Q f ((nx,.sld T (sI []))::σ) (nx+1)):Ai P TB Z N c Q f σ nx:=by
 intro V ac k;have hi:=k.inv;have e:Ext V (Ax V 0 0 False V.w):=D0 (iX _) λ_ _=>rfl;have p:=k.nx;subst p
 have look':∀id o,look ((V.nx,.sld T (sI []))::σ) id=some o->(id=V.nx/\o=.sld T (sI []))\/(id≠V.nx/\look σ id=some o):=λid o a=>by
  rw [AA] at a;by_cases d:V.nx=id
  ·rw [if_pos d] at a;injection a with a;exact .inl ⟨d.symm,a.symm⟩
  ·rw [if_neg d] at a;exact .inr ⟨Ne.symm d,a⟩
 have src:∀id o,look ((V.nx,.sld T (sI []))::σ) id=some o->∀b,EF (Ax V 0 0 False V.w) id o b->look σ id=some o/\EF V id o b/\((Ax V 0 0 False V.w).nl id↔V.nl id):=λid o a b hb=>by
  rcases look' id o a with ⟨rfl,rfl⟩|⟨_,a⟩
  ·obtain⟨x,m,_⟩:=hb;cases m
  ·have l:=hi.st.lt _ _ a
   exact⟨a,(AK e l).1 hb,e.nl _ l⟩
 refine h (Ax V 0 0 False V.w) ac ⟨k.env.ext e,k.lt,k.size,?_,rfl,k.defers⟩;refine⟨hi.os,hi.tape,hi.output,hi.old,hi.iLt,hi.iNew,hi.ext.trans e,⟨λid o a=>?_,λid o a=>?_,λid o a g b hb=>?_,λid id' o o' a n q g r b hb s=>?_⟩,λid o a g b hb=>?_,hi.tabs,hi.hid.same rfl (λ_ h=>h) (λ_ h=>.inl h) λb ⟨id,o,a,g,hb⟩=>let ⟨d,j,i⟩:=src id o a b hb;⟨id,o,d,λh=>g (i.2 h),j⟩⟩
 ·rcases look' id o a with ⟨rfl,rfl⟩|⟨_,a⟩
  ·exact⟨by simp [Ax],List.Pairwise.nil,λx m=>by cases m⟩
  ·exact(hi.st.obj id o a).AX e (hi.st.lt id o a) λ_ _ _=>rfl
 ·rcases look' id o a with ⟨rfl,rfl⟩|⟨_,a⟩
  ·exact kT _
  ·exact kt (hi.st.lt _ _ a)
 ·obtain⟨d,j,i⟩:=src id o a b hb
  exact hi.st.free _ _ d (λh=>g (i.2 h)) b j
 ·obtain⟨d,j,i⟩:=src id o a b hb
  obtain⟨v,u,t⟩:=src id' o' n b s;exact hi.st.inj _ _ _ _ d v q (λh=>g (i.2 h)) (λh=>r (t.2 h)) b j u
 ·obtain⟨d,j,i⟩:=src id o a b hb
  exact hi.live _ _ d (λh=>g (i.2 h)) b j
structure hY (V V':View):Prop where
 U:V'.U=V.U
 cap:V'.cap=V.cap
 nl:V'.nl=V.nl
 nx:V'.nx=V.nx
 w:V'.w=V.w
section
variable {o:Oper}{f:Env}{nx:Nat}
end
def JX(σ:Ab):List Nat->Ab
 | []=>[]
 | i::r=>match look σ i with
  | some o=>(i,o)::JX σ r
  | none=>JX σ r
theorem Hj{σ:Ab}:∀ {ids:List Nat} {id:Nat} {o:O},look (JX σ ids) id=some o->id∈ids/\look σ id=some o
 | [],_,_,h=>by cases h
 | i :: r,id,o,h=>by
  unfold JX at h;split at h
  ·rename_i o' a
   rw [AA] at h;by_cases hi:i=id
   ·rw [if_pos hi] at h;injection h with h;subst h;subst hi;exact⟨kZ ..,a⟩
   ·rw [if_neg hi] at h
    have:=Hj h;exact⟨jE _ this.1,this.2⟩
  ·have:=Hj h
   exact⟨jE _ this.1,this.2⟩
def WZ(σi:Ab)(f:Env):List (Nat×E)->Prop
 | []=>True
 | (t,e')::L=>(∃e,f t=some e/\(e=e'\/EZ σi e e'))/\WZ σi f L
theorem WZ.get{σi:Ab}{f:Env}:∀ {L:List (Nat×E)},WZ σi f L->∀t e',look L t=some e'->∃e,f t=some e/\(e=e'\/EZ σi e e')
 | [],_,t,e,h=>by cases h
 | (k,x)::L,a,t,e,h=>by
  rw [AA] at h;by_cases hk:k=t
  ·rw [if_pos hk] at h;injection h with h;subst h;subst hk;exact a.1
  ·rw [if_neg hk] at h;exact WZ.get a.2 t e h
theorem Ai.Az{c:Code}{Q:Exit->Env->Ab->Nat->Prop}{f:Env}{nx:Nat}(ids:List Nat)(L:List (Nat×E))(w:WZ (JX σ ids) f L)(h:Ai P TB Z N c Q (look L) (Cu ids σ) nx):Ai P TB Z N c Q f σ nx:=by
 intro V a l;have hi:=l.inv;have i:∀id o,look (JX σ ids) id=some o->look σ id=some o:=λid o h=>(Hj h).2;have u:Inv TB Z V (JX σ ids):=hi.sub i;have e:Ext V (MI V (JX σ ids)):=Mj;refine h (MI V (JX σ ids)) a ⟨λt x p=>?_,λt x p=>?_,l.size,?_,l.nx,l.defers⟩
 ·obtain⟨y,q,g⟩:=w.get t x p
  rcases g with rfl|g
  ·exact(l.env t _ q).ext e
  ·exact g.rel u (l.env t y q)
 ·obtain⟨y,q,_⟩:=w.get t x p
  exact l.lt t y q
 ·refine⟨hi.os,hi.tape,hi.output,hi.old,?_,?_,hi.ext.trans e,⟨?_,?_,?_,?_⟩,?_,λx p=>⟨.inl (hi.tabs x p).1,(hi.tabs x p).2⟩,hi.hid.same rfl (λ_ h=>.inl h) (λb hb=>hb.elim .inl λ⟨id,o,d,j,v⟩=>.inr ⟨id,o,i _ _ d,j,v⟩) λb ⟨id,o,d,j,hb⟩=>have g:=(Bk ids σ id o d).2;⟨id,o,g,j,(AK e (hi.st.lt id o g)).1 hb⟩⟩
  ·rintro b (hb|⟨id,o,d,j,hb⟩)
   ·exact hi.iLt b hb
   ·exact(hi.st.obj id o (i _ _ d)).blt j hb
  ·rintro b (hb|⟨id,o,d,j,hb⟩)
   ·exact hi.iNew b hb
   ·exact .inr (hi.live id o (i _ _ d) j b hb)
  ·intro id o d
   have:=(Bk ids σ id o d).2;exact(hi.st.obj id o this).AX e (hi.st.lt id o this) λ_ _ _=>rfl
  ·intro id o d;exact hi.st.lt id o (Bk ids σ id o d).2
  ·intro id o d j b k hb
   obtain⟨q,g⟩:=Bk ids σ id o d;have k:=(AK e (hi.st.lt id o g)).1 k
   rcases hb with hb|⟨id',o',n,m,v⟩
   ·exact hi.st.free id o g j b k hb
   ·have z:=Hj n
    exact hi.st.inj id id' o o' g z.2 (λe=>q (e ▸ z.1)) j m b k v
  ·intro id id' o o' d n s j m b hb k
   have g:=(Bk ids σ id o d).2;have r:=(Bk ids σ id' o' n).2;exact hi.st.inj id id' o o' g r s j m b ((AK e (hi.st.lt id o g)).1 hb) ((AK e (hi.st.lt id' o' r)).1 k)
  ·intro id o d j b hb
   have g:=(Bk ids σ id o d).2;exact hi.live id o g j b ((AK e (hi.st.lt id o g)).1 hb)
theorem FZ.Mu{a s:Nat}{T Ta:TypeId}{l:IA}(ha:look σ a=some (.cells Ta 1 (AE l)))(e:look σ s=some (.sld T (sI l))):FZ σ (.arr a 1 0 l.length) (C7 (l.map (·.2))):=by
 refine .rows ha (by simp) (Cy l) λi r' hi=>?_;simp only [ge,d7] at hi;obtain⟨x,⟨y,b,rfl⟩,rfl⟩:=hi;refine⟨[.d (.v y.1)],by simp [AE,b],.cons ?_ .nil⟩;have c:FZ σ (.d (.v y.1)) (.l ((y.2.map (Value.int .i64)).map λx=>[D.v x])):=.sld e (f7.2 ⟨y,co b,rfl⟩);rw [ka] at c;exact c
theorem Ai.Yv{c:Code}{Q:Exit->Env->Ab->Nat->Prop}{f:Env}{nx:Nat}(a i s:Nat)(l:IA)(xs:List Int)(ha:look σ a=some (.cells Ta 1 (AE l++[[.arr i 1 0 xs.length]])))(hi:look σ i=some (.cells T 1 (JV xs)))(b:look σ s=some (.sld T (sI l)))
 (h:∀v,Ai P TB Z N c Q f ((a,.cells Ta 1 (AE (l++[(v,xs)])))::(s,.sld T (sI (l++[(v,xs)])))::kill i σ) nx):Ai P TB Z N c Q f σ nx:=
 Ai.put a i s (AE l) [] xs l [] ha hi (by rw [jA];exact b) λv=>by
  have:=h v;rw [AQ] at this;exact this
theorem Nw{l:IA}{k:Nat}{y:Value×List Int}(h:l[k]? = some y):l=l.take k++y::l.drop (k+1)/\(l.take k).length=k:=by
 obtain⟨hk,rfl⟩:=am.1 h;refine⟨?_,by rw [kx];omega⟩;rw [<-lH hk,jZ]
theorem P8{α:Type}{l1 l2:List α}{x y:α}{k:Nat}(h:l1.length=k):(l1++x::l2).set k y=l1++y::l2:=by
 subst h;simp
theorem Ai.dE{c:Code}{Q:Exit->Env->Ab->Nat->Prop}{f:Env}{nx:Nat}(a s:Nat)(l:IA)(k:Nat)(y:Value×List Int)(hk:l[k]? = some y)(ha:look σ a=some (.cells Ta 1 (AE l)))(g:look σ s=some (.sld T (sI l)))
 (h:Ai P TB Z N c Q f ((a,.cells Ta 1 ((AE l).set k [.arr nx 1 0 y.2.length]))::(nx,.cells T 1 (JV y.2))::(s,.sld T (sI (l.eraseIdx k)))::σ) (nx+1)):Ai P TB Z N c Q f σ nx:=by
 obtain⟨b,i⟩:=Nw hk;obtain⟨v,xs⟩:=y
 have e:AE l=AE (l.take k)++[.d (.v v)]::AE (l.drop (k+1)):=by
  have:=congrArg AE b;rw [AQ] at this;exact this
 refine Ai.take a s (AE (l.take k)) (AE (l.drop (k+1))) v xs (l.take k) (l.drop (k+1)) (by rw [<-e];exact ha) (by rw [<-b];exact g) ?_
 have m:(AE l).set k [.arr nx 1 0 xs.length]=AE (l.take k)++[.arr nx 1 0 xs.length]::AE (l.drop (k+1)):=by
  rw [e,P8 (by rw [Cy,i])]
 have j:l.eraseIdx k=l.take k++l.drop (k+1):=lZ ..;rw [m,j] at h;exact h
theorem Ai.putAt{c:Code}{Q:Exit->Env->Ab->Nat->Prop}{f:Env}{nx:Nat}(a i s:Nat)(l:IA)(k:Nat)(y:Value×List Int)(hk:l[k]? = some y)(xs:List Int)(ha:look σ a=some (.cells Ta 1 ((AE l).set k [.arr i 1 0 xs.length])))(hi:look σ i=some (.cells T 1 (JV xs)))(b:look σ s=some (.sld T (sI (l.eraseIdx k))))
 (h:∀v,Ai P TB Z N c Q f ((a,.cells Ta 1 (AE (l.set k (v,xs))))::(s,.sld T (sI (l.set k (v,xs))))::kill i σ) nx):Ai P TB Z N c Q f σ nx:=by
 obtain⟨g,e⟩:=Nw hk
 have n:AE l=AE (l.take k)++[.d (.v y.1)]::AE (l.drop (k+1)):=by
  have:=congrArg AE g;rw [AQ] at this;exact this
 rw [n,P8 (by rw [Cy,e])] at ha;rw [show l.eraseIdx k=l.take k++l.drop (k+1) from lZ ..] at b;refine Ai.put a i s (AE (l.take k)) (AE (l.drop (k+1))) xs (l.take k) (l.drop (k+1)) ha hi b λv=>?_
 have j:l.set k (v,xs)=l.take k++(v,xs)::l.drop (k+1):=by
  have this:l.set k (v,xs)=(l.take k++y::l.drop (k+1)).set k (v,xs):=congrArg (λm=>List.set m k (v,xs)) g;rw [this,P8 e]
 have:=h v;rw [j,AQ] at this;exact this
theorem Cr.Be{g:FuncId}{m nx:Nat}{args:List E}{post:E->Ab->Nat->Prop}
 (h:Cr P TB g m σ nx args (λx d c=>∃(l:List Nat) (x':E) (a:Ab),((∀i,i < m->l[i]? = some i)/\l.Nodup)/\x=x'.Be (nm l c)/\A2 (nm l c) d a/\post x' a l.length)):Cr P TB g m σ nx args post:=
 ⟨h.1, λV vs S n ha=>(h.2 V vs S n ha).mono λe w' ⟨V',v,x,σ',w,u,s,r,l,x',a,j,q,p,o⟩=>by
  have k:Cg TB (GB V (PJ V m) σ S) 1 V' (look [(0,x)]) σ' V'.nx { tmps:=#[v],defers:=[] } := by
   refine⟨λt y b=>?_,λt y b=>?_,rfl,s,rfl,rfl⟩
   ·rw [AA] at b
    by_cases ht:0=t
    ·rw [if_pos ht] at b;injection b with b;subst b;subst ht;exact r
    ·rw [if_neg ht] at b;cases b
   ·rw [AA] at b
    by_cases ht:0=t
    ·subst ht;exact Nat.zero_lt_one
    ·rw [if_neg ht] at b;cases b
  obtain⟨V'',z,f⟩:=k.Be l [(0,x')] a j.1 j.2 ⟨by rw [<-q];rfl,trivial⟩ p;refine⟨V'',v,x',a,w,z.trans u,f.inv,f.env 0 x' rfl,?_⟩
  rw [f.nx];exact o⟩
theorem Fy{m:Nat}{σ σ':Ab}(i:Nat)(a:m=2 ^ i)(h:look σ' i=look σ i):Kept m σ σ':=λid hb=>by
 subst a;rw [ki] at hb;have:i=id:=of_decide_eq_true hb;subst this;exact h
theorem IK{m:Nat}{σ σ':Ab}(i j:Nat)(a:m=2 ^ i ||| 2 ^ j)(h:look σ' i=look σ i)(b:look σ' j=look σ j):Kept m σ σ':=λid hb=>by
 subst a;rw [kQ,jh,ki,ki,decide_eq_true_eq,decide_eq_true_eq] at hb
 rcases hb with hb|hb
 ·subst hb;exact h
 ·subst hb;exact b
theorem J0{l1 l2:IA}{c:C}{k:Nat}(h:l1.length=k):(AE l1++[c]::AE l2)[k]? = some [c]:=by
 subst h;rw [em (by rw [Cy];exact iX _),Cy];simp
theorem eR [j:CB P] {g:FuncId} {fn:Func} {c:Code} {nx:Nat} {args:List E} {post:E->Ab->Nat->Prop} (f:P.funcs[g]? = some fn) (hb:fn.body=some c) (a:(fn.name == "runtime.NumGoroutine")=false)
 (ha:Nat.ble args.length fn.ntmps=true) (h:∀Z:Ctx,Z.V.nx=nx->Ai P TB Z fn.ntmps c (Xb j.T fn.results (λx e d=>∃(l:List Nat) (x':E) (b:Ab),((∀i,i < nx->l[i]? = some i)/\l.Nodup)/\x=x'.Be (nm l d)/\A2 (nm l d) e b/\post x' b l.length)) (look (BV 0 args)) σ nx):Spec P TB g σ nx args post:=
 Cr.Zk (Cr.Be (Cr.bH (iX _) f hb a (ce ha) h))
end
theorem cN:(∀(r:Nat->Nat) (l:IA),(AE l).map (C.Cp r)=AE l)/\(∀(α:Type) (b:Bool) (x y:α),(bif b then x else y)=if b=true then x else y)/\∀a b:Nat,(Nat.beq a b=true)=(a=b):=
 ⟨RF,λ_ b _ _=>by cases b<;>rfl,λ_ _=>Nat.beq_eq⟩
section
variable {P:Program}{TB:BA}{Z:Ctx}{d:Option Tmp}{ty:TypeId}{pos:String}{af:Array Edge}{g:Option (Nat×Bool)}{f:Env}{σ:Ab}{nx:Nat}
end
abbrev fD(r:Nat):C:=.d (.v (.pointer (some ⟨r,0,none⟩)))
inductive CH (i r:Nat):C->C->Prop
 | AX {c:C}:CH i r c c
 | ptr {k:Nat}:CH i r (.ptr i k 0 0) (fD r)
 | mv {gg:FuncId} {k:Nat}:CH i r (.mv gg [.ptr i k 0 0]) (.mv gg [fD r])
inductive LH (i r:Nat):List C->List C->Prop
 | nil:LH i r [] []
 | cons {c c':C} {l l':List C}:CH i r c c'->LH i r l l'->LH i r (c::l) (c'::l')
inductive EH (i r:Nat):E->E->Prop
 | AX {e:E}:EH i r e e
 | o {c c':C}:CH i r c c'->EH i r (.o c) (.o c')
 | a {l l':List C}:LH i r l l'->EH i r (.a l) (.a l')
section
variable {P:Program}{tabs:List (Nat×Obj)}{Z:Ctx}{N:Nat}{σ:Ab}
end
end Go.Am
namespace Go.Am
open Go Go.Proofs
end Go.Am
namespace Go.Am
open Go Go.Proofs
set_option maxHeartbeats 1000000
set_option maxRecDepth 4000
attribute [local irreducible] A8 Cq Lex Br Ai Spec
variable {TB:BA}
abbrev WN(n:UInt8):List D:=[.v (.int .u8 n.toNat)]
abbrev Zm(l:List UInt8):D:=.l (l.map WN)
abbrev A5(b:List UInt8)(p:Int):O:=.cells 85 2 [[.d (Zm b),.d (iD p)]]
theorem XF{a b:Nat}(ha:a < 2 ^ 62)(hb:b < 2 ^ 62):SV .i64 a b=((a ^^^ b:Nat):Int):=by
 unfold SV
 have d:(BitVec.ofInt IntKind.i64.bits (a:Int)).toNat=a:=by
  rw [BitVec.toNat_ofInt];have:IntKind.i64.bits=64:=rfl;rw [this];omega
 have c:(BitVec.ofInt IntKind.i64.bits (b:Int)).toNat=b:=by
  rw [BitVec.toNat_ofInt];have:IntKind.i64.bits=64:=rfl;rw [this];omega
 rw [BitVec.toNat_xor,d,c];have e:a ^^^ b < 2 ^ 62:=Nat.xor_lt_two_pow ha hb;exact IntWalk.i64_in _ (by omega)
theorem ZQ{x y:Int}(d:0<=x/\x < 4611686018427387904)(c:0<=y/\y < 4611686018427387904):0<=SV .i64 x y/\SV .i64 x y < 4611686018427387904:=by
 obtain⟨a,rfl⟩:∃a:Nat,x=a:=⟨x.toNat,by omega⟩
 obtain⟨b,rfl⟩:∃b:Nat,y=b:=⟨y.toNat,by omega⟩
 rw [XF (by omega) (by omega)];have e:a ^^^ b < 2 ^ 62:=Nat.xor_lt_two_pow (by omega) (by omega);omega
theorem Tc(b:List UInt8)(hb:b.length<=9223372036854775807):∃b':List UInt8,b'.length<=2000/\Cr Tryz.prog TB 33 0 [] 0 [.o (.d (Zm b))] (λx σ nx=>x=.o (.ptr 0 2 0 0)/\σ=[(0,A5 b' 0)]/\nx=1):=by
 by_cases h:b.length<=2000
 ·refine⟨b,h,?_⟩
  refine Cr.bH (m:=0) (ce rfl) Tryz.func33 rfl (by kernel_rfl) (ce rfl) ?_;intro Z c;(repeat first|refine sN rfl ?_ |refine tX rfl ?_ |refine s2 rfl λ_ a=>?_ |refine aU rfl ?_ |apply Aa)
  ((refine aC rfl ?_ ?_<;>rintro⟨⟩);all_goals try (simp at a;done))
  ·exfalso;(simp only[oZ] at *;omega)
  apply aK;(repeat first|refine tX rfl ?_|(refine Av rfl ?_;refine gA rfl ?_;first| refine gS (λ_ _=>AS rfl rfl (by rfl) (by rfl)) ?_) |refine aU rfl ?_);(refine pW rfl ?_ rfl (by rfl);refine Nt rfl rfl ?_);(repeat first|refine tX rfl ?_ |apply Aa);refine aR ⟨_,rfl,rfl,rfl,rfl⟩
 ·refine⟨b.take 2000,by simp;omega,?_⟩
  have e:(b.map WN).take (2000:Int).toNat=(b.take 2000).map WN:=by simp [mh]
  refine Cr.bH (m:=0) (ce rfl) Tryz.func33 rfl (by kernel_rfl) (ce rfl) ?_;intro Z c;(repeat first|refine sN rfl ?_ |refine tX rfl ?_ |refine s2 rfl λ_ a=>?_ |refine aU rfl ?_ |apply Aa)
  ((refine aC rfl ?_ ?_<;>rintro⟨⟩);all_goals try (simp at a;done))
  ·(repeat first|refine tX rfl ?_|(refine Av rfl ?_;refine gA rfl ?_;first| refine gS (λ_ _=>MA rfl rfl (by simp) (by omega) (by simp;omega)) ?_) |refine aU rfl ?_ |apply Aa)
   rw [e];(repeat first| (refine Av rfl ?_;refine gA rfl ?_;first| refine gS (λ_ _=>AS rfl rfl (by rfl) (by rfl)) ?_));(refine pW rfl ?_ rfl (by rfl);refine Nt rfl rfl ?_);(repeat first|refine tX rfl ?_ |apply Aa);refine aR ⟨_,rfl,rfl,rfl,rfl⟩
  ·exfalso;(simp only[oZ] at *;omega)
theorem A1(b:List UInt8)(hb:b.length<=2000)(p n:Int)(L:0<=p/\p < 1000000000):∃k:Int,0<=k/\(k=0\/k < n)/\Spec Tryz.prog TB 43 [(0,A5 b p)] 1 [.o (.ptr 0 2 0 0),eI .i64 n] (λx σ nx=>x=eI .i64 k/\σ=[(0,A5 b (p+1))]/\nx=1):=by
 by_cases I:n < 1\/b.length=0
 ·refine⟨0,by omega,.inl rfl,?_⟩
  refine eR Tryz.func43 rfl (by kernel_rfl) rfl ?_;intro Z a;(repeat' first|refine sN rfl ?_ |(refine sA rfl ?_ ?_;first|exact tI|omega|simp only[oZ] at *;omega) |refine s2 rfl λ_ e=>?_ |refine s3 rfl ?_ ?_<;>rintro rfl |refine aU rfl ?_ |apply Aa |refine rE (by kernel_rfl) ?_|(refine aC rfl ?_ ?_<;>rintro⟨⟩)|apply aK|apply aE|apply aB|refine aR ⟨_,rfl,?_⟩)
  all_goals first
   | (exfalso;(simp only[oZ] at *;omega);done)
   | refine⟨[0],eI .i64 0,[(0,A5 b (p+1))],⟨by first|(simp;done)|decide|(intro i hi;match i with|0=>rfl),by decide⟩,rfl,by (simp[cX,zC,a]),rfl,rfl,rfl⟩
 have K:0 < b.length:=by omega
 have q:0 < n:=by omega
 by_cases J:p < b.length
 ·obtain⟨c,m⟩:=get_some (l:=b) (k:=(p+1 - 1).toNat) (by omega)
  have j:=get_map (g:=WN) m;have h:=c.toNat_lt;refine⟨(c.toNat:Int) % n,jN _ (by omega),.inr (jJ _ q),?_⟩;refine eR Tryz.func43 rfl (by kernel_rfl) rfl ?_;intro Z a;(repeat' first|refine sN rfl ?_ |(refine sA rfl ?_ ?_;first|exact tI|omega) |(refine s4 rfl ‹_› rfl ?_ ?_;omega) |refine s2 rfl λ_ e=>?_ |refine s3 rfl ?_ ?_<;>rintro rfl |refine aU rfl ?_ |apply Aa |refine rE (by kernel_rfl) ?_|(refine aC rfl ?_ ?_<;>rintro⟨⟩)|apply aK|apply aE|apply aB|refine aR ⟨_,rfl,?_⟩)
  all_goals first
   | (exfalso;(simp only[oZ] at *;omega);done)
   | refine⟨[0],_,[(0,A5 b (p+1))],⟨by first|(simp;done)|decide|(intro i hi;match i with|0=>rfl),by decide⟩,rfl,by (simp[cX,zC,a]),rfl,rfl,rfl⟩
 ·have f:(0:Int) < b.length:=by omega
  have H:=jN (p+1 - 1) (show (b.length:Int)≠0 by omega);have G:=jJ (p+1 - 1) f;have F:=jN ((p+1 - 1)*7+3) (show (b.length:Int)≠0 by omega);have B:=jJ ((p+1 - 1)*7+3) f;obtain⟨c,m⟩:=get_some (l:=b) (k:=((p+1 - 1) % (b.length:Int)).toNat) (by omega);have j:=get_map (g:=WN) m;have h:=c.toNat_lt;obtain⟨d,u⟩:=get_some (l:=b) (k:=(((p+1 - 1)*7+3) % (b.length:Int)).toNat) (by omega);have t:=get_map (g:=WN) u;have s:=d.toNat_lt;have A:0<=(p+1 - 1) / (b.length:Int):=kF (by omega) (by omega);have z:(p+1 - 1) / (b.length:Int)<=p+1 - 1:=ky _ (by omega)
  obtain⟨x,r⟩:∃x,x=(c.toNat:Int)*131+(d.toNat:Int)*1117+(p+1 - 1)*29+(p+1 - 1) / (b.length:Int)*53:=⟨_,rfl⟩
  have w:0<=x/\x < 1000000000000:=by omega
  have v:=ZQ (x:=x) (y:=x / 64) (by omega) (by omega);refine⟨SV .i64 x (x / 64) % n,jN _ (by omega),.inr (jJ _ q),?_⟩;refine eR Tryz.func43 rfl (by kernel_rfl) rfl ?_;intro Z a;(repeat' first|refine sN rfl ?_ |(refine sA rfl ?_ ?_;first|exact tI|omega) |(refine s4 rfl ‹_› rfl ?_ ?_;omega) |(refine s2 rfl λ_ e=>?_;try (simp only[jL,jQ] at e;subst e))|(refine Av rfl ?_;refine gA rfl ?_;first| refine gS (λ_ _=>fC rfl rfl rfl) ?_) |refine s3 rfl ?_ ?_<;>rintro rfl |refine aU rfl ?_ |apply Aa |refine rE (by kernel_rfl) ?_|(refine aC rfl ?_ ?_<;>rintro⟨⟩)|apply aK|refine aR ⟨_,rfl,?_⟩|(rw [<-r]))
  all_goals first
   | (exfalso;(simp only[oZ] at *;omega);done)
   | refine⟨[0],_,[(0,A5 b (p+1))],⟨by first|(simp;done)|decide|(intro i hi;match i with|0=>rfl),by decide⟩,rfl,by (simp[cX,zC,a]),rfl,rfl,rfl⟩
theorem Cn(b:List UInt8)(hb:b.length<=2000)(p:Int)(m:0<=p/\p < 1000000000)(l:List Int)(s:0 < l.length)(j:l.length < 1000000):∃k∈l,Spec Tryz.prog TB 37 [(0,A5 b p)] 1 [.o (.ptr 0 2 0 0),Aj l] (λx σ nx=>x=eI .i64 k/\σ=[(0,A5 b (p+1))]/\nx=1):=by
 obtain⟨k,r,q,h⟩:=A1 (TB:=TB) b hb p l.length m;obtain⟨x,c⟩:=get_some (l:=l) (k:=k.toNat) (by omega);have f:=get_map (g:=Bm) c;refine⟨x,co c,?_⟩;refine eR Tryz.func37 rfl (by kernel_rfl) rfl ?_;intro Z a;(repeat first|refine sN rfl ?_ |refine tA rfl ?_ |refine aU rfl ?_ |apply Aa);(refine pW rfl ?_ rfl (by rfl);refine Af [0] rfl rfl (h) ⟨rfl,by decide,by decide⟩ rfl (by simp[cX,zC,a]) ?_;rintro n d e ⟨rfl,rfl,rfl⟩ _);(repeat first|refine tA rfl ?_ |(refine s4 rfl ‹_› rfl ?_ ?_;omega) |apply Aa);refine aR ⟨_,rfl,?_⟩;refine⟨[0],_,[(0,A5 b (p+1))],⟨by first|(simp;done)|decide|(intro i hi;match i with|0=>rfl),by decide⟩,rfl,by (simp[cX,zC,a]),rfl,rfl,rfl⟩
theorem bI(b:List UInt8)(hb:b.length<=2000)(p:Int)(m:0<=p/\p < 1000000000)(l:List W)(s:0 < l.length)(j:l.length < 1000000):∃k∈l,Spec Tryz.prog TB 81 [(0,A5 b p)] 1 [.o (.ptr 0 2 0 0),BP l] (λx σ nx=>x=eT k/\σ=[(0,A5 b (p+1))]/\nx=1):=by
 obtain⟨k,r,q,h⟩:=A1 (TB:=TB) b hb p l.length m;obtain⟨x,c⟩:=get_some (l:=l) (k:=k.toNat) (by omega);have f:=get_map (g:=C0) c;refine⟨x,co c,?_⟩;refine eR Tryz.func81 rfl (by kernel_rfl) rfl ?_;intro Z a;(repeat first|refine sN rfl ?_ |refine tA rfl ?_ |refine aU rfl ?_ |apply Aa);(refine pW rfl ?_ rfl (by rfl);refine Af [0] rfl rfl (h) ⟨rfl,by decide,by decide⟩ rfl (by simp[cX,zC,a]) ?_;rintro n d e ⟨rfl,rfl,rfl⟩ _);(repeat first|refine tA rfl ?_ |(refine s4 rfl ‹_› rfl ?_ ?_;omega) |apply Aa);refine aR ⟨_,rfl,?_⟩;refine⟨[0],_,[(0,A5 b (p+1))],⟨by first|(simp;done)|decide|(intro i hi;match i with|0=>rfl),by decide⟩,rfl,by (simp[cX,zC,a]),rfl,rfl,rfl⟩
end Go.Am
