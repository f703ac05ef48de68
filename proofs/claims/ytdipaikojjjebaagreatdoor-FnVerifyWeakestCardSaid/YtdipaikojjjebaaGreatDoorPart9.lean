/-
  What a call hands back: each result a slot or a cell, of the call's own or laid down for good.
-/
import Derived.Test.YtdipaikojjjebaaGreatDoorPart7
import Derived.WideKeyArr
import Derived.ProofKit
import Derived.OpenShut
import Derived.WideKeyArgs
import Derived.Deep.DeepHandedRow
import Derived.Lib.LaidTab
set_option linter.all false
namespace Go.Am
open Go
def sT:Bool×List C->Option E
 | (false,[c])=>some (.o c)
 | (true,cs)=>some (.a cs)
 | _=>none
def br(f:Env)(σ:Ac)(t:Tmp)(ag:Bool)(n:Nat):Option (Bool×List C):=match f t with
 | some (.o (.d (.p cs)))=>match Nat.ble n cs.length with
  | true=>some (ag,(cs.take n).map .d)
  | false=>none
 | some (.o (.ptr id k i j))=>match look σ id with
  | some (.cells _ k' rows)=>match Nat.beq k k',nth rows i with
   | true,some r=>match Nat.ble (j+n) r.length with
    | true=>some (ag,(r.drop j).take n)
    | false=>none
   | _,_=>none
  | _=>none
 | _=>none
def eM(T:List (Nat×TI))(f:Env)(σ:Ac):ResultVar->Option (Bool×List C)
 | .tmp t=>match f t with
  | some e=>Of e
  | none=>none
 | .cell t T'=>match (JA T T').ld with
  | some (true,n)=>br f σ t true n
  | some (false,1)=>br f σ t false 1
  | _=>none
def eO(T:List (Nat×TI))(f:Env)(σ:Ac):List ResultVar->Option (List (Bool×List C))
 | []=>some []
 | r::rs=>match eM T f σ r,eO T f σ rs with
  | some x,some xs=>some (x::xs)
  | _,_=>none
def jB(T:List (Nat×TI))(rs:Array ResultVar)(f:Env)(σ:Ac):Option E:=match rs.toList with
 | []=>some (.t [])
 | [r]=>match eM T f σ r with
  | some x=>sT x
  | none=>none
 | rs=>match rs.length,eO T f σ rs with
  | 2,some xs=>some (.t xs)
  | 3,some xs=>some (.t xs)
  | 4,some xs=>some (.t xs)
  | _,_=>none
def fM(T:List (Nat×TI))(rs:Array ResultVar)(post:E->Ac->Nat->Prop):Exit->Env->Ac->Nat->Prop
 | .ret,f,σ,nx|.normal,f,σ,nx=>∃x,jB T rs f σ=some x/\post x σ nx
 | _,_,_,_=>False
section
variable {P:Program}{TB:BB}{Γ:Ctx}{σ:Ac}
theorem Tf{V:View}{f:Env}{a:Act}{t:Tmp}{T':TypeId}{ag:Bool}{n:Nat}{x:Bool×List C}(hi:Inv TB Γ V σ)(G:D0 P T' ag n)(L:ag=false->n=1)(R:EA V f a.tmps)(h:br f σ t ag n=some x) :
 ∃v,((do loadVar T' (<-asAddr (a.tmps.getD t undef))):Sem Value).run P V.w=.ok v V.w/\NF V x v:=by
 have key : ∃ (b o:Nat) (cs:List C) (vs:Nat->Value),a.tmps.getD t undef=.pointer (some ⟨b,o,none⟩)/\x=(ag,cs)/\cs.length=n/\∀(q:Nat) (c:C),cs[q]?=some c->V.w.cell? ⟨b,o+q,none⟩=some (vs q)/\AD V c (vs q):=by
  unfold br at h;split at h
  .rename_i ds H
   split at h
   .rename_i u
    have u:=co u
    injection h with h
    subst h;have m:AD V (.d (.p ds)) (a.tmps.getD t undef):=R t _ H;generalize a.tmps.getD t undef=S at m;obtain⟨m⟩:=m
    cases m with
    | @p _ b o vs hb z K=>
     refine⟨b,o,_,vs,rfl,rfl,by simp;omega,λq c g=>?_⟩;rw[f9,d7]at g;obtain⟨dd,y,rfl⟩:=g;rw[uk]at y;split at y
     .exact⟨z q dd y,.d (K q dd y)⟩
     .cases y
   .cases h
  .rename_i id k i j H
   split at h
   .rename_i T0 k' rows U
    split at h
    .rename_i r hk N
     have hk:=gt hk;subst hk;split at h
     .rename_i u
      have u:=co u
      injection h with h
      subst h;rw[PK]at N;have m:AD V (.ptr id k i j) (a.tmps.getD t undef):=R t _ H;generalize a.tmps.getD t undef=S at m
      cases m with
      | ptr X B=>
       rcases hi.st.obj id _ U with ⟨J,_⟩|⟨_,cur,J,h5,h6,h7,Z,Y⟩
       .exact absurd J B
       .refine⟨V.ρ id,i*k+j,_,λq=>cur.getD (i*k+j+q) undef,rfl,rfl,by simp;omega,λq c g=>?_⟩
        rw[uk]at g;split at g
        .rw[ul]at g
         obtain⟨v,s,M⟩:=Y i r (j+q) c N g;rw[<-uu]at s
         have e:cur.getD (i*k+j+q) undef=v:=by simp[s]
         dsimp only;rw[e];exact⟨by simp[World.cell?,J,s],M⟩
        .cases g
     .cases h
    .cases h
   .cases h
  .cases h
 obtain⟨b,o,cs,vs,T,rfl,l,I⟩:=key;rw[T]
 cases ag with
 | false=>
  have F:=L rfl;subst F
  match cs,l with
  | [c],_=>
   obtain⟨z,K⟩:=I 0 c rfl;refine⟨vs 0,?_,c,rfl,K⟩;rw[wF]at z;simp[asAddr,loadVar,(BI G.out V.w).1,z,go_sem]
 | true =>
  refine⟨.agg ((List.range n).map λq=>vs q).toArray,?_,_,rfl,by simp[l],λj c v Q A=>?_⟩
  .have:(loadCells ⟨b,o,none⟩ n).run P V.w=.ok ((List.range n).map λq=>vs q).toArray V.w:=run_loadCells V.w _ n _ λq g=>by
    rw[BG];exact(I q cs[q] (d5 (by omega))).1
   unfold loadCells at this;simp[asAddr,loadVar,(BI G.out V.w).1,(BI G.out V.w).2,this,go_sem]
  .have g:j<n:=by have:=(am.1 Q).1;omega
   have:v=vs j:=by simpa[g]using A.symm
   subst this;exact(I j c Q).2
theorem jA[i:C4 P]{V:View}{f:Env}{a:Act}{r:ResultVar}{x:Bool×List C}(hi:Inv TB Γ V σ)(g:EA V f a.tmps)(h:eM i.T f σ r=some x) :
 ∃v,((match r with
  | .tmp t=>pure (a.tmps.getD t undef)
  | .cell b t=>do loadVar t (<-asAddr (a.tmps.getD b undef))):Sem Value).run P V.w=.ok v V.w/\NF V x v:=by
 have c:=λt=>Da (P:=P) t i.ok;unfold eM at h;split at h
 .rename_i t
  split at h
  .rename_i e j
   exact⟨_,by simp[go_sem],GA h (g t e j)⟩
  .cases h
 .rename_i t T'
  split at h
  .rename_i n d
   exact Tf hi ((c T').OK d) (λh=>(by cases h)) g h
  .rename_i d
   exact Tf hi ((c T').OK d) (λ_=>rfl) g h
  .cases h
theorem mK{V:View}{x:Bool×List C}{e:E}{v:Value}(h:sT x=some e)(a:NF V x v):Bh V e v:=by
 unfold sT at h;split at h
 .injection h with h;subst h
  obtain⟨c,b,d⟩:=a;simp at b;subst b;exact d
 .injection h with h;subst h;exact a
 .cases h
theorem jC[m:C4 P]{fn:Func}{V:View}{f:Env}{a:Act}{x:E}(hi:Inv TB Γ V σ)(X:EA V f a.tmps)(h:jB m.T fn.results f σ=some x):∃v,(results fn a.tmps).run P V.w=.ok v V.w/\Bh V x v:=by
 obtain⟨F,U,e⟩:∃F:ResultVar->Sem Value,results fn a.tmps=(do let vs <-fn.results.mapM F;pure (if h:vs.size=1 then vs[0] else .tuple vs))/\∀r x,eM m.T f σ r=some x->∃v,(F r).run P V.w=.ok v V.w/\NF V x v:=
  ⟨λr=>match r with
   | .tmp t=>pure (a.tmps.getD t undef)
   | .cell b t=>do loadVar t (<-asAddr (a.tmps.getD b undef)),rfl,λr x S=>jA hi X S⟩
 have two:∀ {r:ResultVar} {rs:List ResultVar} {xs:List (Bool×List C)},eO m.T f σ (r::rs)=some xs->∃y ys,xs=y::ys/\eM m.T f σ r=some y/\eO m.T f σ rs=some ys:=by
  intro r rs xs h;unfold eO at h;split at h
  .rename_i y ys k i
   injection h with h;subst h;exact⟨y,ys,rfl,k,i⟩
  .cases h
 have nil:∀ {xs:List (Bool×List C)},eO m.T f σ []=some xs->xs=[]:=λh=>by injection h with h;exact h.symm
 have key:∀l:List ResultVar,fn.results=l.toArray->jB m.T l.toArray f σ=some x->∃v,(results fn a.tmps).run P V.w=.ok v V.w/\Bh V x v:=by
  intro l B h;rw[U,B];unfold jB at h;simp only at h
  match l with
  | []=>
   injection h with h;subst h
   exact⟨.tuple #[],by simp[go_sem],#[],rfl,rfl,λj x v c=>by simp at c⟩
  | [r]=>
   simp only at h;split at h
   .rename_i y R
    obtain⟨v,k,i⟩:=e r y R;exact⟨v,by simp[k,go_sem],mK h i⟩
   .cases h
  | [L,K]=>
   simp only[ut,wP]at h;split at h
   .rename_i xs _ d
    injection h with h;subst h
    obtain⟨J,ys,rfl,k,d⟩:=two d;obtain⟨I,ys,rfl,i,d⟩:=two d;have:=nil d;subst this;obtain⟨o,u,q⟩:=e _ _ k;obtain⟨n,s,p⟩:=e _ _ i;refine⟨.tuple #[o,n],by simp[u,s,go_sem],_,rfl,rfl,λj x v' c g=>?_⟩
    match j with
    | 0=>simp at c g;subst c;subst g;exact q
    | 1=>simp at c g;subst c;subst g;exact p
    | j+2=>simp at c
   .omega
   .omega
   .cases h
  | [L,K,Q]=>
   simp only[ut,wP]at h;split at h
   .omega
   .rename_i xs _ d
    injection h with h;subst h
    obtain⟨J,ys,rfl,k,d⟩:=two d;obtain⟨I,ys,rfl,i,d⟩:=two d;obtain⟨M,ys,rfl,G,d⟩:=two d;have:=nil d;subst this;obtain⟨o,u,q⟩:=e _ _ k;obtain⟨n,s,p⟩:=e _ _ i;obtain⟨z,H,A⟩:=e _ _ G;refine⟨.tuple #[o,n,z],by simp[u,s,H,go_sem],_,rfl,rfl,λj x v' c g=>?_⟩
    match j with
    | 0=>simp at c g;subst c;subst g;exact q
    | 1=>simp at c g;subst c;subst g;exact p
    | 2=>simp at c g;subst c;subst g;exact A
    | j+3=>simp at c
   .omega
   .cases h
  | [L,K,Q,r4]=>
   simp only[ut,wP]at h;split at h
   .omega
   .omega
   .rename_i xs _ d
    injection h with h;subst h
    obtain⟨J,ys,rfl,k,d⟩:=two d;obtain⟨I,ys,rfl,i,d⟩:=two d;obtain⟨M,ys,rfl,G,d⟩:=two d;obtain⟨y4,ys,rfl,Y,d⟩:=two d;have:=nil d;subst this;obtain⟨o,u,q⟩:=e _ _ k;obtain⟨n,s,p⟩:=e _ _ i;obtain⟨z,H,A⟩:=e _ _ G;obtain⟨N,Z,t4⟩:=e _ _ Y;refine⟨.tuple #[o,n,z,N],by simp[u,s,H,Z,go_sem],_,rfl,rfl,λj x v' c g=>?_⟩
    match j with
    | 0=>simp at c g;subst c;subst g;exact q
    | 1=>simp at c g;subst c;subst g;exact p
    | 2=>simp at c g;subst c;subst g;exact A
    | 3=>simp at c g;subst c;subst g;exact t4
    | j+4=>simp at c
   .cases h
  | _::_::_::_::_::_=>
   simp only[ut]at h;cases h
 exact key fn.results.toList (by simp) (by simpa using h)
theorem AE.PM [s:C4 P] {g:FuncId} {fn:Func} {c:Code} {m:Nat} {σ:Ac} {nx:Nat} {args:List E} {post:E->Ac->Nat->Prop} (B:m<=nx) (r:P.funcs[g]?=some fn) (hb:fn.body=some c) (f:(fn.name == "runtime.NumGoroutine")=false)
 (j:args.length<=fn.ntmps) (h:∀Γ:Ctx,Γ.V.nx=m->Al P TB Γ fn.ntmps c (fM s.T fn.results post) (look (Cs 0 args)) σ nx):AE P TB g m σ nx args post:=by
 refine⟨⟨fn,r,f,by rw[hb];rfl⟩,?_⟩;intro V vs S n ha;refine calls_of_wp r hb ?_
 have G:vs.size<=fn.ntmps:=by rw[ha.1];exact j
 have hi:Inv TB (FO V (LF V m) σ S) V σ:=
  ⟨rfl,rfl,rfl,λ_ _ _=>rfl,n.iLt,λ_ h=>.inl h,bH (by rw[n.nx];exact B),n.st,λid o A q b hb=>.inr (.inl ⟨id,o,A,q,hb⟩),n.tabs,⟨S,n.hid,λb hb=>.inl hb,λb hb=>.inr (.inr hb)⟩⟩
 have z:Cw TB (FO V (LF V m) σ S) fn.ntmps V (look (Cs 0 args)) σ nx { tmps:=vs++Array.replicate (fn.ntmps-vs.size) undef,defers:=[] } := by
  refine⟨?_,?_,by simp;omega,hi,n.nx,rfl⟩
  .intro t e p
   obtain⟨_,d⟩:=Cm args 0 t e p
   have d:args[t]?=some e:=by simpa using d
   have i:t<vs.size:=by rw[ha.1];exact(am.1 d).1
   have F:=ha.2 t e vs[t] d (pm i)
   simpa[t9 i,i]using F
  .intro t e p
   obtain⟨_,d⟩:=Cm args 0 t e p
   have d:args[t]?=some e:=by simpa using d
   have:=(am.1 d).1;omega
 refine wp_mono (h (FO V (LF V m) σ S) rfl V _ z) ?_;rintro e a' w' ⟨V',f',σ',rfl,k,a⟩
 have fin:(∃x,jB s.T fn.results f' σ'=some x/\post x σ' V'.nx)->a'.defers=[]/\∃v,(results fn a'.tmps).run P V'.w=.ok v V'.w/\∃V'' v' x σ'',Ending.returned v=.returned v'/\V''.w=V'.w/\Inv TB (FO V (LF V m) σ S) V'' σ''/\Bh V'' x v'/\post x σ'' V''.nx:=by
  rintro⟨x,u,hp⟩;obtain⟨v,y,p⟩:=jC (P:=P) a.inv a.env u;exact⟨a.defers,v,y,V',v,x,σ',rfl,rfl,a.inv,p,hp⟩
 cases e with
 | normal=>exact fin k
 | ret=>exact fin k
 | exit id=>exact k.elim
 | goto l=>exact k.elim
 | panic ch=>exact k.elim
 | outgrown=>exact k.elim
theorem eG [d:C4 P] {g:FuncId} {fn:Func} {c:Code} {nx:Nat} {args:List E} {post:E->Ac->Nat->Prop} (b:P.funcs[g]?=some fn) (hb:fn.body=some c) (a:(fn.name == "runtime.NumGoroutine")=false)
 (ha:Nat.ble args.length fn.ntmps=true) (h:∀Γ:Ctx,Γ.V.nx=nx->Al P TB Γ fn.ntmps c (fM d.T fn.results post) (look (Cs 0 args)) σ nx):Spec P TB g σ nx args post:=
 AE.Ic (AE.PM (jp _) b hb a (co ha) h)
end
section
variable {P:Program}{TB:BB}{Γ:Ctx}{d:Option Tmp}{ty:TypeId}{pos:String}{af:Array Edge}{g:Option (Nat×Bool)}{f:Env}{σ:Ac}{nx:Nat}
variable {K:E->Ac->Nat->Prop}
theorem Vk{t e:TypeId}{k b:Nat}{z:List Value}[j:Dp P t e k b][h:BP P e z](a:z.length=k)(c:z.all Pp=true):A5 P TB Γ ⟨d,.buildSlice t 0 #[],ty,pos,af,g⟩ f σ nx .e:=
 KG λV ρ o n=>by
  obtain⟨cur,m,q,p⟩:=Jm (es:=[]) j.out h.out a c o rfl rfl rfl rfl (by simp) (by simp);have i:∀b,b<V.w.heap.size->(V.w.alloc (.cells cur e)).heap[b]?=V.w.heap[b]?:=λb hb=>A8 V.w _ b hb;obtain⟨hi,l⟩:=R.Inv.grow n (w:=V.w.alloc (.cells cur e)) rfl rfl rfl (by simp) i;exact⟨_,{ V with w:=V.w.alloc (.cells cur e) },m,l,hi,rfl,⟨_,rfl⟩⟩
theorem ei{t e:TypeId}{k b:Nat}{z:List Value}{s x:Operand}{news:List (List C)}{ex:E}[hl:Dp P t e k b][hz:BP P e z]
 (hs:ev f s=some .e) (hx:ev f x=some ex) (L:HU σ k ex=some news) (S:∀r∈news,r.length=k) (hzk:z.length=k) (Y:0<b) (hb:news.length*b<=140737488355328)
 (hK0:news=[]->∀b,∃y,(∀V:View,Bh V y (.slice b 0 0))/\K y σ nx) (hK:news≠[]->K (.o (.arr nx k 0 news.length)) ((nx,.cells e k news)::σ) (nx+1)):CQ P TB Γ ⟨d,.call ⟨.builtin .append,#[s,x],#[t,t]⟩,ty,pos,af,g⟩ f σ nx K:=
 DM λV ρ h1 h2 h3=>by
  subst h3;obtain⟨i,hu,hi,hsz,X⟩:=HA hl.out;have I:=hz.out;simp only[fy,hi,wg,d7]at I;obtain⟨zv,H,hzz⟩:=I
  have hzc:zv.cells.size=k:=by rw[<-hzk,<-hzz];simp
  obtain⟨sb,hsv⟩:=h1.get (x:=s) (by simp[Op.operands,Call.operands]) hs;have hxr:=cP h2 L S (h1.get (x:=x) (by simp[Op.operands,Call.operands]) hx)
  have l:∀w,(execOp ρ ⟨d,.call ⟨.builtin .append,#[s,x],#[t,t]⟩,ty,pos,af,g⟩).run P w=((Builtin.append_ #[t,t] ty #[ρ s,ρ x]).run P w).andThen λv w'=>.ok (.value v) w':=λw=>by
   simp only[execOp,resolve,invoke,builtin,xG,uS,xH,pure_bind,bind_pure_comp,wz]
  have R:news.length<=maxLen:=by
   have:news.length<=news.length*b:=vt _ Y;unfold maxLen;omega
  have T:((news.length:Nat):Int)<=9223372036854775807:=by
   have:news.length<=news.length*b:=vt _ Y;omega
  rw [hsv]at l;generalize hvx:ρ x=vx at *;have A:=λh=>hK0 h sb;have nothing:news=[]->∀v,(Builtin.append_ #[t,t] ty #[.slice sb 0 0,vx]).run P V.w=.ok (.slice sb 0 0) V.w->v=Value.slice sb 0 0->
   ∃v V' xx σ',(execOp ρ ⟨d,.call ⟨.builtin .append,#[s,x],#[t,t]⟩,ty,pos,af,g⟩).run P V.w=.ok (.value v) V'.w/\Ext V V'/\Inv TB Γ V' σ'/\Bh V' xx v/\K xx σ' V'.nx:=λhn v B _=>
   let ⟨y,k1,k2⟩:=A hn
   ⟨.slice sb 0 0,V,y,σ,by rw[l,B];rfl,Ext.refl _,h2,k1 V,k2⟩
  rcases hxr with ⟨rfl,Q⟩|⟨xa,xc,xv,rfl,J,m⟩
  .exact nothing Q _ (GP hu hi V.w sb 0 0 (jp _) ty) rfl
  .have n:(DB news.length k xv).length=news.length*i.size:=by rw[Dg,hsz]
   have p:∀j u,(DB news.length k xv)[j]?=some u->V.w.cell? (xa.add j)=some u:=by
    intro q u hq;obtain⟨a,b,rfl,ha,hb,rfl⟩:=NV hq
    have hbl:b<news[a].length:=by rw[J _ (uy ha)];exact hb
    exact(m a news[a] b news[a][b] (d5 ha) (d5 hbl)).1
   rcases uP news.length with F|F
   .have N:news=[]:=pi.1 F
    refine nothing N _ ?_ rfl;subst N;cases sb<;>simp[Builtin.append_,run_underlying hu,sizeOf,typeInfo,hi,Builtin.lenOf,Builtin.firstCells,loadCells,loadCellsFrom,storeCells,go_sem]
   .have hne:news≠[]:=λh=>by subst h;simp at F
    have M:(Builtin.append_ #[t,t] ty #[.slice sb 0 0,.slice (some xa) news.length xc]).run P V.w=.ok (.slice (some ⟨V.w.heap.size,0,none⟩) news.length (grownCap V.w news.length 0 e))
     (V.w.drew.alloc (.cells ((DB news.length k xv).toArray++Builtin.zeroCells zv.cells (grownCap V.w news.length 0 e-news.length)) e)):=by
     cases sb with
     | none=>
      have B:=run_append_nil (P:=P) V.w t ty e i zv hu hi H xa news.length xc _ n p F (by omega) (by rw[X];omega);rw[B]
     | some sa=>
      have B:=run_append_grow (P:=P) V.w t ty e i zv hu hi H sa 0 0 [] (by simp) (λj v hj=>by simp at hj) xa news.length xc _ n p (by omega) (by simpa using T) (by rw[X];exact growslice_fits (by omega) (by simpa using hb))
      simpa using B
    have G:=grownCap_ge V.w news.length 0 e;have hcm:=grownCap_le_maxLen V.w news.length 0 e R;generalize grownCap V.w news.length 0 e=cap' at *
    let w':=V.w.drew.alloc (.cells ((DB news.length k xv).toArray++Builtin.zeroCells zv.cells (cap'-news.length)) e)
    have ee:Ext V (Aw V V.w.heap.size cap' False w'):=Fi (by simp[w']) λb hb=>A8 V.w.drew _ b (h2.iLt b hb)
    obtain⟨hi',he'⟩:=h2.alloc (c:=cap') (nl:=False) (w:=w') (ob:=.cells e k news) rfl rfl rfl rfl (by simp[w']) (λb hb=>A8 V.w.drew _ b hb) (by
     have B:(Aw V V.w.heap.size cap' False w').ρ V.nx=V.w.heap.size:=by simp[Aw]
     have U:(Aw V V.w.heap.size cap' False w').cap V.nx=cap':=by simp[Aw]
     refine .inr ⟨by simp[Aw],(DB news.length k xv).toArray++Builtin.zeroCells zv.cells (cap'-news.length),?_,?_,?_,?_,S,?_⟩
     .have:=Cn V.w.drew (.cells ((DB news.length k xv).toArray++Builtin.zeroCells zv.cells (cap'-news.length)) e)
      rw[B];exact this
     .rw[U]
      simp only[Array.size_append,xy,Dg,Builtin.zeroCells,Array.size_map,Array.size_range,hzc,<-ux];congr 1;omega
     .rw[U];exact G
     .rw[U];exact hcm
     .intro a r j c hi hj
      have hil:=(am.1 hi).1
      have hjl:j<k:=by rw[<-J r (ce hi)];exact(am.1 hj).1
      have Z:=NU (vs:=xv) hil hjl;refine⟨xv a j,?_,(m a r j c hi hj).2.ext ee⟩;have hlt:=(am.1 Z).1;rw[t9 (by simpa using hlt)]
      simpa using Z)
    refine⟨.slice (some ⟨V.w.heap.size,0,none⟩) news.length cap',_,_,(V.nx,.cells e k news)::σ,?_,he',hi',?_,hK hne⟩
    .rw[l,M];rfl
    .have:=@AD.arr (Aw V V.w.heap.size cap' False w') V.nx k 0 news.length (by simp[Aw]) (by simp[Aw]) (by simp[Aw];exact G)
     have B:(Aw V V.w.heap.size cap' False w').ρ V.nx=V.w.heap.size:=by simp[Aw]
     have U:(Aw V V.w.heap.size cap' False w').cap V.nx=cap':=by simp[Aw]
     rw[B,U,vB,xI]at this;exact this
theorem ET{t e:TypeId}{k b:Nat}{z:List Value}{s x:Operand}{news:List (List C)}{ex:E}[u:Dp P t e k b][q:BP P e z]
 (n:ev f s=some .e) (m:ev f x=some ex) (a:HU σ k ex=some news) (i:∀r∈news,r.length=k) (c:z.length=k) (j:0<b) (hb:news.length*b<=140737488355328)
 (l:news=[]->K .e σ nx) (p:news≠[]->K (.o (.arr nx k 0 news.length)) ((nx,.cells e k news)::σ) (nx+1)):CQ P TB Γ ⟨d,.call ⟨.builtin .append,#[s,x],#[t,t]⟩,ty,pos,af,g⟩ f σ nx K:=ei n m a i c j hb (λh b=>⟨.e,λV=>⟨b,rfl⟩,l h⟩) p
end
section
variable {P:Program}{TB:BB}{Γ:Ctx}{N:Nat}
theorem Al.AQ{c:Code}{Q:Exit->Env->Ac->Nat->Prop}{L0 Lk:List (Nat×E)}{σ Sk:Ac}{nx:Nat}(ks is:List Nat)(hk:QD L0 ks=some Lk)(hi:bG σ is=some Sk)(v:List (Nat×E))(s:Ac)(l:List Nat)
 (a:(∀i,i<Γ.V.nx->l[i]?=some i)/\l.Nodup) (b:DG (nm l nx) (look L0) (v++Lk)/\AX (nm l nx) σ (s++Sk)) (h:Al P TB Γ N c Q (look (v++Lk)) (s++Sk) l.length):Al P TB Γ N c Q (look L0) σ nx:=
 Al.names l (v++Lk) (s++Sk) a.1 a.2 b.1 b.2 h
end
abbrev JF:=List (Value×List Int)
def sI(l:JF):List (Value×List Value):=l.map λx=>(x.1,x.2.map (.int .i64))
def AN(l:JF):List (List C):=l.map λx=>[.d (.v x.1)]
abbrev MV(xs:List Int):List (List C):=xs.map Au
theorem kF{V:View}{i k off n:Nat}{v:Value}(h:AD V (.arr i k off n) v):(V.nl i/\off=0/\n=0/\v=.slice none 0 0)\/(¬V.nl i/\off+n<=V.cap i/\v=.slice (some ⟨V.ρ i,off*k,none⟩) n (V.cap i-off)):=by
 cases h with
 | nil _ h=>exact .inl ⟨h,rfl,rfl,rfl⟩
 | arr _ b a=>exact .inr ⟨b,a,rfl⟩
theorem LQ(l m:JF):sI (l++m)=sI l++sI m:=uz
theorem Bc(l m:JF):AN (l++m)=AN l++AN m:=uz
theorem CO(l:JF):(AN l).length=l.length:=io _
theorem XK(r:Nat->Nat)(l:JF):(AN l).map (C.Ch r)=AN l:=by
 unfold AN;rw[uG];rfl
theorem iX(l:List Int):(MV l).length=l.length:=io _
section
variable {P:Program}{TB:BB}{Γ:Ctx}{N:Nat}{V:View}{σ:Ac}{a i s:Nat}{T Ta:TypeId}{R1 R2:List (List C)}{xs:List Int}{l1 l2:JF}
theorem ZT{l:JF}{x:Value×List Value}(h:x∈sI l):∃y∈l,x=(y.1,y.2.map (.int .i64)):=by
 obtain⟨y,a,rfl⟩:=d8.1 h;exact⟨y,a,rfl⟩
theorem Inv.put(h:Inv TB Γ V σ)(ha:look σ a=some (.cells Ta 1 (R1++[.arr i 1 0 xs.length]::R2)))(hi:look σ i=some (.cells T 1 (MV xs)))(P:look σ s=some (.sld T (sI (l1++l2)))) :
 ∃v,Inv TB Γ V ((a,.cells Ta 1 (R1++[.d (.v v)]::R2))::(s,.sld T (sI (l1++(v,xs)::l2)))::kill i σ):=by
 have has:a≠s:=λe=>by rw[e,P]at ha;cases ha
 have Y:i≠s:=λe=>by rw[e,P]at hi;cases hi
 have hai:a≠i:=λe=>by
  rw[e,hi]at ha
  injection ha with ha;injection ha with _ _ ha
  have B:(MV xs)[R1.length]?=some [.arr i 1 0 xs.length]:=by rw[ha];simp
  rw[f9,d7]at B;obtain⟨x,_,A⟩:=B;cases A
 rcases h.st.obj a _ ha with ⟨_,h0⟩|⟨hna,cur,R,N,h4,h5,h6,h7⟩
 .simp at h0
 obtain⟨v,hv,Q⟩:=h7 R1.length [.arr i 1 0 xs.length] 0 (.arr i 1 0 xs.length) (by simp) rfl;have Q:=kF Q
 have hsl:RC v=true:=by rcases Q with ⟨_,_,_,rfl⟩|⟨_,_,rfl⟩<;>rfl
 have I:∀b,Lq v b->¬V.nl i/\b=V.ρ i:=by
  rintro b ⟨o,n,c,rfl⟩
  rcases Q with ⟨_,_,_,p⟩|⟨m,_,p⟩
  .cases p
  .injection p with p;injection p with p;injection p with p;exact⟨m,p⟩
 have K:Mf V.w T v (xs.map (.int .i64)):=by
  rcases h.st.obj i _ hi with ⟨G,z⟩|⟨hni,cur',z,F,g4,g5,g6,g7⟩
  .have:xs=[]:=by simpa using z
   subst this
   rcases Q with ⟨_,_,_,rfl⟩|⟨m,_⟩
   .exact .inl ⟨rfl,rfl⟩
   .exact absurd G m
  .rcases Q with ⟨m,_⟩|⟨_,hle,rfl⟩
   .exact absurd m hni
   .refine .inr ⟨V.ρ i,V.cap i,cur',by simp,z,by simpa using F,by rw[iX]at g4;simpa using g4,g5,λj x M=>?_⟩
    rw[f9,d7]at M;obtain⟨n,m,rfl⟩:=M;obtain⟨w,p,hcw⟩:=g7 j [.d (.v (.int .i64 n))] 0 (.d (.v (.int .i64 n))) (by simp[MV,m]) rfl;have:w=.int .i64 n:=AD.val hcw;subst this;exact⟨by simpa using p,rfl⟩
 refine⟨v,?_⟩;have look':∀id o,look ((a,.cells Ta 1 (R1++[.d (.v v)]::R2))::(s,.sld T (sI (l1++(v,xs)::l2)))::kill i σ) id=some o->
  (id=a/\o=.cells Ta 1 (R1++[.d (.v v)]::R2))\/(id=s/\o=.sld T (sI (l1++(v,xs)::l2)))\/(id≠a/\id≠s/\id≠i/\look σ id=some o):=λid o f=>by
  rw[Ay]at f;by_cases B:a=id
  .rw[if_pos B]at f;injection f with f;exact .inl ⟨B.symm,f.symm⟩
  .rw [if_neg B,Ay]at f
   by_cases R:s=id
   .rw[if_pos R]at f;injection f with f;exact .inr (.inl ⟨R.symm,f.symm⟩)
   .rw[if_neg R,FV]at f
    by_cases N:id=i
    .rw[if_pos N]at f;cases f
    .rw[if_neg N]at f;exact .inr (.inr ⟨Ne.symm B,Ne.symm R,N,f⟩)
 have hsb:∀b,Fb V s (.sld T (sI (l1++(v,xs)::l2))) b->Fb V s (.sld T (sI (l1++l2))) b\/(¬V.nl i/\b=V.ρ i):=by
  rintro b ⟨x,A,hb⟩;obtain⟨y,l,rfl⟩:=ZT A
  rcases f7.1 l with l|l
  .exact .inl ⟨_,d8.2 ⟨y,rx _ l,rfl⟩,hb⟩
  .rcases lc.1 l with rfl|l
   .exact .inr (I b hb)
   .exact .inl ⟨_,d8.2 ⟨y,ur _ l,rfl⟩,hb⟩
 have t:=h.st.obj s _ P
 have H:∀x∈sI (l1++l2),∀b,Lq x.1 b->¬Lq v b:=λx A b hb u=>by
  obtain⟨m,rfl⟩:=I b u;exact h.st.inj s i _ _ P hi (Ne.symm Y) t.1 m _ ⟨x,A,hb⟩ rfl
 have src:∀id o,look ((a,.cells Ta 1 (R1++[.d (.v v)]::R2))::(s,.sld T (sI (l1++(v,xs)::l2)))::kill i σ) id=some o->¬V.nl id->∀b,Fb V id o b->∃g J,look σ g=some J/\¬V.nl g/\Fb V g J b/\(g=id\/g=i/\id=s):=λid o f m b hb=>by
  rcases look' id o f with ⟨rfl,rfl⟩|⟨rfl,rfl⟩|⟨_,_,_,f⟩
  .exact⟨_,_,ha,m,hb,.inl rfl⟩
  .rcases hsb b hb with hb|⟨B,rfl⟩
   .exact⟨_,_,P,m,hb,.inl rfl⟩
   .exact⟨_,_,hi,B,rfl,.inr ⟨rfl,rfl⟩⟩
  .exact⟨_,_,f,m,hb,.inl rfl⟩
 have noi:∀id o,look ((a,.cells Ta 1 (R1++[.d (.v v)]::R2))::(s,.sld T (sI (l1++(v,xs)::l2)))::kill i σ) id=some o->id≠i:=λid o f=>by
  rcases look' id o f with ⟨rfl,rfl⟩|⟨rfl,rfl⟩|⟨_,_,N,_⟩
  .exact hai
  .exact Ne.symm Y
  .exact N
 refine⟨h.os,h.tape,h.output,h.old,h.iLt,h.iNew,h.ext,⟨λid o f=>?_,λid o f=>?_,λid o f m b hb=>?_,λid id' o o' f U X m hn' b hb u=>?_⟩,λid o f m b hb=>?_,h.tabs,h.hid.same rfl (λ_ h=>h) (λ_ h=>.inl h) λb ⟨id,o,f,m,hb⟩=>let ⟨g,J,G,z,F,_⟩:=src id o f m b hb;⟨g,J,G,z,F⟩⟩
 .rcases look' id o f with ⟨rfl,rfl⟩|⟨rfl,rfl⟩|⟨_,_,_,f⟩
  .refine .inr ⟨hna,cur,R,N,by simpa using h4,h5,λr L=>?_,λq r j c hq M=>?_⟩
   .rcases f7.1 L with L|L
    .exact h6 r (rx _ L)
    .rcases lc.1 L with rfl|L
     .rfl
     .exact h6 r (ur _ (ui _ L))
   .by_cases hq0:q=R1.length
    .subst hq0
     simp at hq;subst hq
     have hj0:j=0:=by have:=(am.1 M).1;simp at this;omega
     subst hj0;simp at M;subst M;exact⟨v,hv,.d (.v hsl)⟩
    .refine h7 q r j c ?_ M
     rw[<-hq]
     rcases uo q R1.length with Z|Z
     .rw[gc Z,gc Z]
     .rw[i7 Z,i7 Z]
      obtain⟨k,hk⟩:∃k,q-R1.length=k+1:=⟨q-R1.length-1,by omega⟩
      rw[hk];rfl
  .refine⟨t.1,?_,λx A=>?_⟩
   .have hp:=t.2.1
    rw[LQ,vI]at hp;rw[LQ,vI];refine⟨hp.1,uI.2 ⟨λy l b hb u=>H y (by rw[LQ];exact ur _ l) b u hb,hp.2.1⟩,λx A y l=>?_⟩
    rcases lc.1 l with rfl|l
    .exact λb hb=>H x (by rw[LQ];exact rx _ A) b hb
    .exact hp.2.2 x A y l
   .obtain⟨y,l,rfl⟩:=ZT A
    rcases f7.1 l with l|l
    .exact t.2.2 _ (d8.2 ⟨y,rx _ l,rfl⟩)
    .rcases lc.1 l with rfl|l
     .exact K
     .exact t.2.2 _ (d8.2 ⟨y,ur _ l,rfl⟩)
  .exact h.st.obj id o f
 .rcases look' id o f with ⟨rfl,rfl⟩|⟨rfl,rfl⟩|⟨_,_,_,f⟩
  .exact h.st.lt _ _ ha
  .exact h.st.lt _ _ P
  .exact h.st.lt _ _ f
 .obtain⟨g,J,G,z,F,_⟩:=src id o f m b hb
  exact h.st.free _ _ G z b F
 .obtain⟨g,J,G,z,F,g4⟩:=src id o f m b hb
  obtain⟨S,o0',g1',g2',g3',g4'⟩:=src id' o' U hn' b u;refine h.st.inj g S _ _ G g1' ?_ z g2' b F g3';have n1:=noi id o f;have n2:=noi id' o' U;rintro rfl
  rcases g4 with rfl|⟨rfl,rfl⟩<;>rcases g4' with rfl|⟨e1,rfl⟩
  .exact X rfl
  .exact n1 e1
  .exact n2 rfl
  .exact X rfl
 .obtain⟨g,J,G,z,F,_⟩:=src id o f m b hb
  exact h.live _ _ G z b F
theorem Al.put{c:Code}{Q:Exit->Env->Ac->Nat->Prop}{f:Env}{nx:Nat}(a i s:Nat)(R1 R2:List (List C))(xs:List Int)(l1 l2:JF)(ha:look σ a=some (.cells Ta 1 (R1++[.arr i 1 0 xs.length]::R2)))(hi:look σ i=some (.cells T 1 (MV xs)))(g:look σ s=some (.sld T (sI (l1++l2))))
 (h:∀v,Al P TB Γ N c Q f ((a,.cells Ta 1 (R1++[.d (.v v)]::R2))::(s,.sld T (sI (l1++(v,xs)::l2)))::kill i σ) nx):Al P TB Γ N c Q f σ nx:=by
 intro V ac b;obtain⟨v,e⟩:=b.inv.put ha hi g;exact h v V ac ⟨b.env,b.lt,b.size,e,b.nx,b.defers⟩
theorem Inv.take{v:Value}(h:Inv TB Γ V σ)(ha:look σ a=some (.cells Ta 1 (R1++[.d (.v v)]::R2)))(hs:look σ s=some (.sld T (sI (l1++(v,xs)::l2)))) :
 ∃V',V'.w=V.w/\V'.nx=V.nx+1/\Ext V V'/\Inv TB Γ V' ((a,.cells Ta 1 (R1++[.arr V.nx 1 0 xs.length]::R2))::(V.nx,.cells T 1 (MV xs))::(s,.sld T (sI (l1++l2)))::σ):=by
 have has:a≠s:=λe=>by rw[e,hs]at ha;cases ha
 have p:=h.st.obj s _ hs;have Z:=h.st.lt _ _ hs;have l:=h.st.lt _ _ ha;have K:((v,xs.map (.int .i64)):Value×List Value)∈sI (l1++(v,xs)::l2):=d8.2 ⟨(v,xs),by simp,rfl⟩
 obtain⟨u,cap,nl,hb0,hcr,hob⟩:∃u cap nl,(¬nl->Lq v u)/\AD (Aw V u cap nl V.w) (.arr V.nx 1 0 xs.length) v/\CL (Aw V u cap nl V.w) V.nx (.cells T 1 (MV xs)):=by
  rcases p.2.2 _ K with ⟨m,G⟩|⟨b,cap,cur,m,G,z,h4,h5,h6⟩
  .have m:v=.slice none 0 0:=m
   have hx0:xs=[]:=by simpa using G
   subst m;subst hx0;exact⟨0,0,True,λh=>absurd trivial h,.nil (by simp[Aw]) (by simp[Aw]),.inl ⟨by simp[Aw],rfl⟩⟩
  .have m:v=.slice (some ⟨b,0,none⟩) (xs.map (Value.int .i64)).length cap:=m
   rw[io]at m h4;refine⟨b,cap,False,λ_=>⟨_,_,_,m⟩,?_,.inr ⟨by simp[Aw],cur,by simpa[Aw]using G,by simpa[Aw]using z,by simpa[Aw]using h4,by simpa[Aw]using h5,λr A=>?_,λq r j c Y L=>?_⟩⟩
   .rw[m]
    have:=@AD.arr (Aw V b cap False V.w) V.nx 1 0 xs.length (by simp[Aw]) (by simp[Aw]) (by simpa[Aw]using h4)
    simpa[Aw]using this
   .obtain⟨n,_,rfl⟩:=d8.1 A;rfl
   .rw[f9,d7]at Y
    obtain⟨n,t,rfl⟩:=Y
    have R:j=0:=by have:=(am.1 L).1;simp at this;omega
    subst R;simp at L;subst L;exact⟨.int .i64 n,by simpa using (h6 q (.int .i64 n) (by simp[t])).1,.d (.v rfl)⟩
 have e:Ext V (Aw V u cap nl V.w):=Fi (jp _) λ_ _=>rfl
 have hρ:(Aw V u cap nl V.w).ρ V.nx=u:=by simp[Aw]
 have hnl:(Aw V u cap nl V.w).nl V.nx↔nl:=by simp[Aw]
 refine⟨Aw V u cap nl V.w,rfl,rfl,e,?_⟩;have look':∀id o,look ((a,.cells Ta 1 (R1++[.arr V.nx 1 0 xs.length]::R2))::(V.nx,.cells T 1 (MV xs))::(s,.sld T (sI (l1++l2)))::σ) id=some o->
  (id=a/\o=.cells Ta 1 (R1++[.arr V.nx 1 0 xs.length]::R2))\/(id=V.nx/\o=.cells T 1 (MV xs))\/(id=s/\o=.sld T (sI (l1++l2)))\/(id≠a/\id≠s/\look σ id=some o):=λid o f=>by
  rw[Ay]at f;by_cases m:a=id
  .rw[if_pos m]at f;injection f with f;exact .inl ⟨m.symm,f.symm⟩
  .rw [if_neg m,Ay]at f
   by_cases G:V.nx=id
   .rw[if_pos G]at f;injection f with f;exact .inr (.inl ⟨G.symm,f.symm⟩)
   .rw[if_neg G,Ay]at f
    by_cases z:s=id
    .rw[if_pos z]at f;injection f with f;exact .inr (.inr (.inl ⟨z.symm,f.symm⟩))
    .rw[if_neg z]at f;exact .inr (.inr (.inr ⟨Ne.symm m,Ne.symm z,f⟩))
 have J:∀x∈sI (l1++l2),x∈sI (l1++(v,xs)::l2):=λx i=>by
  obtain⟨y,P,rfl⟩:=ZT i;refine d8.2 ⟨y,?_,rfl⟩
  rcases f7.1 P with P|P
  .exact rx _ P
  .exact ur _ (ui _ P)
 have hp:=p.2.1;rw[LQ,vI]at hp;have hp2:=uI.1 hp.2.1
 have M:∀x∈sI (l1++l2),∀b,Lq x.1 b->¬Lq v b:=λx i b hb F=>by
  rw[LQ]at i
  rcases f7.1 i with i|i
  .exact hp.2.2 x i _ (vT ..) b hb F
  .exact hp2.1 x i b F hb
 have src:∀id o,look ((a,.cells Ta 1 (R1++[.arr V.nx 1 0 xs.length]::R2))::(V.nx,.cells T 1 (MV xs))::(s,.sld T (sI (l1++l2)))::σ) id=some o->¬(Aw V u cap nl V.w).nl id->∀b,Fb (Aw V u cap nl V.w) id o b->
  ∃g N,look σ g=some N/\¬V.nl g/\Fb V g N b/\(g=id\/g=s/\id=V.nx/\Lq v b)/\(id=s->∃x∈sI (l1++l2),Lq x.1 b):=λid o f t b hb=>by
  rcases look' id o f with ⟨rfl,rfl⟩|⟨rfl,rfl⟩|⟨rfl,rfl⟩|⟨_,z,f⟩
  .exact⟨_,_,ha,λh=>t ((e.nl _ l).2 h),by have:b=_:=hb;rw[e.ρ _ l]at this;exact this,.inl rfl,λe=>absurd e has⟩
  .have hb:b=_:=hb
   rw[hρ]at hb;subst hb;have hv:=hb0 λh=>t (hnl.2 h);exact⟨_,_,hs,p.1,⟨_,K,hv⟩,.inr ⟨rfl,rfl,hv⟩,λe=>by omega⟩
  .obtain⟨x,i,hb⟩:=hb
   exact⟨_,_,hs,p.1,⟨x,J x i,hb⟩,.inl rfl,λ_=>⟨x,i,hb⟩⟩
  .have hlt:=h.st.lt _ _ f
   exact⟨_,_,f,λh=>t ((e.nl _ hlt).2 h),(Az e hlt).1 hb,.inl rfl,λe=>absurd e z⟩
 refine⟨h.os,h.tape,h.output,h.old,h.iLt,h.iNew,h.ext.trans e,⟨λid o f=>?_,λid o f=>?_,λid o f t b hb=>?_,λid id' o o' f ho' hne t hn' b hb F=>?_⟩,λid o f t b hb=>?_,h.tabs,h.hid.same rfl (λ_ h=>h) (λ_ h=>.inl h) λb ⟨id,o,f,t,hb⟩=>let ⟨g,N,X,U,S,_⟩:=src id o f t b hb;⟨g,N,X,U,S⟩⟩
 .rcases look' id o f with ⟨rfl,rfl⟩|⟨rfl,rfl⟩|⟨rfl,rfl⟩|⟨_,_,f⟩
  .rcases h.st.obj _ _ ha with ⟨_,h0⟩|⟨hna,cur,G,z,h4,h5,h6,h7⟩
   .simp at h0
   refine .inr ⟨λh=>hna ((e.nl _ l).1 h),cur,by rw[e.ρ _ l];exact G,by rw[e.cap _ l];exact z,by rw[e.cap _ l];simpa using h4,by rw[e.cap _ l];exact h5,λr A=>?_,λq r j c Y L=>?_⟩
   .rcases f7.1 A with A|A
    .exact h6 r (rx _ A)
    .rcases lc.1 A with rfl|A
     .rfl
     .exact h6 r (ur _ (ui _ A))
   .by_cases hq0:q=R1.length
    .subst hq0
     simp at Y;subst Y
     have R:j=0:=by have:=(am.1 L).1;simp at this;omega
     subst R;simp at L;subst L;obtain⟨w,hw,hc⟩:=h7 R1.length [.d (.v v)] 0 (.d (.v v)) (by simp) rfl;have hw2:w=v:=AD.val hc;subst hw2;exact⟨w,hw,hcr⟩
    .obtain⟨w,hw,hc⟩:=h7 q r j c (by
      rw[<-Y]
      rcases uo q R1.length with h8|h8
      .rw[gc h8,gc h8]
      .rw[i7 h8,i7 h8]
       obtain⟨k,hk⟩:∃k,q-R1.length=k+1:=⟨q-R1.length-1,by omega⟩
       rw[hk];rfl) L
     exact⟨w,hw,hc.ext e⟩
  .exact hob
  .refine⟨λh=>p.1 ((e.nl _ Z).1 h),?_,λx i=>p.2.2 x (J x i)⟩
   rw[LQ,vI];exact⟨hp.1,hp2.2,λx i y P=>hp.2.2 x i y (ui _ P)⟩
  .exact(h.st.obj id o f).AM e (h.st.lt id o f) λ_ _ _=>rfl
 .rcases look' id o f with ⟨rfl,rfl⟩|⟨rfl,rfl⟩|⟨rfl,rfl⟩|⟨_,_,f⟩
  .exact vJ l
  .exact wh _
  .exact vJ Z
  .exact vJ (h.st.lt _ _ f)
 .obtain⟨g,N,X,U,S,_⟩:=src id o f t b hb
  exact h.st.free _ _ X U b S
 .obtain⟨g,N,X,U,S,g4,g5⟩:=src id o f t b hb
  obtain⟨I,o0',g1',g2',g3',H,g5'⟩:=src id' o' ho' hn' b F;by_cases B:g=I
  .rcases g4 with g4|⟨k1,k2,k3⟩<;>rcases H with H|⟨k1',k2',k3'⟩
   .exact hne (by rw[<-g4,<-H,B])
   .obtain⟨x,i,Q⟩:=g5 (by rw[<-g4,B,k1'])
    exact M x i b Q k3'
   .obtain⟨x,i,Q⟩:=g5' (by rw[<-H,<-B,k1])
    exact M x i b Q k3
   .exact hne (by rw[k2,k2'])
  .exact h.st.inj g I _ _ X g1' B U g2' b S g3'
 .obtain⟨g,N,X,U,S,_⟩:=src id o f t b hb
  exact h.live _ _ X U b S
theorem Al.take{c:Code}{Q:Exit->Env->Ac->Nat->Prop}{f:Env}{nx:Nat}(a s:Nat)(R1 R2:List (List C))(v:Value)(xs:List Int)(l1 l2:JF)(ha:look σ a=some (.cells Ta 1 (R1++[.d (.v v)]::R2)))(g:look σ s=some (.sld T (sI (l1++(v,xs)::l2))))
 (h:Al P TB Γ N c Q f ((a,.cells Ta 1 (R1++[.arr nx 1 0 xs.length]::R2))::(nx,.cells T 1 (MV xs))::(s,.sld T (sI (l1++l2)))::σ) (nx+1)):Al P TB Γ N c Q f σ nx:=by
 intro V ac b;obtain⟨V',j,i,e,hi⟩:=b.inv.take ha g;have:=h V' ac ⟨b.env.ext e,b.lt,b.size,by have:=b.nx;subst this;exact hi,by rw[i,b.nx],b.defers⟩;rw[j]at this;exact this
theorem Al.jR{c:Code}{Q:Exit->Env->Ac->Nat->Prop}{f:Env}{nx:Nat}(T:TypeId)(h:Al P TB Γ N c Q f ((nx,.sld T (sI []))::σ) (nx+1)):Al P TB Γ N c Q f σ nx:=by
 intro V ac k;have hi:=k.inv;have e:Ext V (Aw V 0 0 False V.w):=Fi (jp _) λ_ _=>rfl;have p:=k.nx;subst p
 have look':∀id o,look ((V.nx,.sld T (sI []))::σ) id=some o->(id=V.nx/\o=.sld T (sI []))\/(id≠V.nx/\look σ id=some o):=λid o a=>by
  rw[Ay]at a;by_cases d:V.nx=id
  .rw[if_pos d]at a;injection a with a;exact .inl ⟨d.symm,a.symm⟩
  .rw[if_neg d]at a;exact .inr ⟨Ne.symm d,a⟩
 have src:∀id o,look ((V.nx,.sld T (sI []))::σ) id=some o->∀b,Fb (Aw V 0 0 False V.w) id o b->look σ id=some o/\Fb V id o b/\((Aw V 0 0 False V.w).nl id↔V.nl id):=λid o a b hb=>by
  rcases look' id o a with ⟨rfl,rfl⟩|⟨_,a⟩
  .obtain⟨x,m,_⟩:=hb;cases m
  .have l:=hi.st.lt _ _ a
   exact⟨a,(Az e l).1 hb,e.nl _ l⟩
 refine h (Aw V 0 0 False V.w) ac ⟨k.env.ext e,k.lt,k.size,?_,rfl,k.defers⟩;refine⟨hi.os,hi.tape,hi.output,hi.old,hi.iLt,hi.iNew,hi.ext.trans e,⟨λid o a=>?_,λid o a=>?_,λid o a g b hb=>?_,λid id' o o' a n q g r b hb s=>?_⟩,λid o a g b hb=>?_,hi.tabs,hi.hid.same rfl (λ_ h=>h) (λ_ h=>.inl h) λb ⟨id,o,a,g,hb⟩=>let ⟨d,j,i⟩:=src id o a b hb;⟨id,o,d,λh=>g (i.2 h),j⟩⟩
 .rcases look' id o a with ⟨rfl,rfl⟩|⟨_,a⟩
  .exact⟨by simp[Aw],List.Pairwise.nil,λx m=>by cases m⟩
  .exact(hi.st.obj id o a).AM e (hi.st.lt id o a) λ_ _ _=>rfl
 .rcases look' id o a with ⟨rfl,rfl⟩|⟨_,a⟩
  .exact wh _
  .exact vJ (hi.st.lt _ _ a)
 .obtain⟨d,j,i⟩:=src id o a b hb
  exact hi.st.free _ _ d (λh=>g (i.2 h)) b j
 .obtain⟨d,j,i⟩:=src id o a b hb
  obtain⟨v,u,t⟩:=src id' o' n b s;exact hi.st.inj _ _ _ _ d v q (λh=>g (i.2 h)) (λh=>r (t.2 h)) b j u
 .obtain⟨d,j,i⟩:=src id o a b hb
  exact hi.live _ _ d (λh=>g (i.2 h)) b j
def C.Pl:C->Bool
 | .d (.v _)|.d (.l [])|.arr ..|.ptr ..|.mp _|.fn _ []=>true
 | _=>false
def O.Pl:O->Prop
 | .cells _ _ rows=>∀r∈rows,∀c∈r,C.Pl c=true
 | _=>True
def E.Pl:E->Prop
 | .o c=>C.Pl c=true
 | .a cs=>∀c∈cs,C.Pl c=true
 | .t xs=>∀x∈xs,∀c∈x.2,C.Pl c=true
 | .e=>True
def rZ(σ:Ac):Prop:=∀x∈σ,O.Pl x.2
theorem rZ.get{σ:Ac}(h:rZ σ){id:Nat}{o:O}(a:look σ id=some o):O.Pl o:=by
 induction σ with
 | nil=>cases a
 | cons x r b=>
  obtain⟨k,y⟩:=x;rw[Ay]at a;by_cases hk:k=id
  .rw[if_pos hk]at a;injection a with a;subst a;exact h _ (vT ..)
  .rw[if_neg hk]at a;exact b (λz c=>h z (ui _ c)) a
structure VR (V V':View):Prop where
 ρ:V'.ρ=V.ρ
 cap:V'.cap=V.cap
 nl:V'.nl=V.nl
 nx:V'.nx=V.nx
 w:V'.w=V.w
theorem AD.Pl{V V':View}(s:VR V V'){c:C}{v:Value}(h:AD V c v)(i:c.Pl=true):AD V' c v:=by
 cases h with
 | @d x v h=>
  cases h with
  | v h=>exact .d (.v h)
  | nil=>exact .d .nil
  | e h=>exact .d (.e h)
  | @l rows b o k cap vs hb a g m r q=>
   cases rows with
   | nil=>exact .d (.e g)
   | cons=>cases i
  | p=>cases i
 | nil a g=>exact .nil (by rw[s.nx];exact a) (by rw[s.nl];exact g)
 | @arr id k off len a g m=>rw[<-s.ρ,<-s.cap];exact .arr (by rw[s.nx];exact a) (by rw[s.nl];exact g) (by rw[s.cap];exact m)
 | ptr a g=>rw[<-s.ρ];exact .ptr (by rw[s.nx];exact a) (by rw[s.nl];exact g)
 | @fn f cap vs a g=>
  cases cap with
  | nil=>exact .fn a λj c v n=>by simp at n
  | cons=>cases i
 | mp a=>rw[<-s.ρ];exact .mp (by rw[s.nx];exact a)
 | mv=>cases i
theorem Bh.Pl{V V':View}(s:VR V V'){e:E}{v:Value}(h:Bh V e v)(i:e.Pl):Bh V' e v:=by
 cases e with
 | o c=>exact AD.Pl s h i
 | a cs=>obtain⟨vs,n,m,l⟩:=h;exact⟨vs,n,m,λj c v d f=>(l j c v d f).Pl s (i c (ce d))⟩
 | t xs=>
  obtain⟨vs,n,m,l⟩:=h;refine⟨vs,n,m,λj x v d f=>?_⟩;have q:=l j x v d f;have p:=i x (ce d);obtain⟨b,cs⟩:=x;cases b
  .obtain⟨c,g,k⟩:=q
   have g:cs=[c]:=g;subst g;exact⟨c,rfl,k.Pl s (p c (by simp))⟩
  .obtain⟨ws,g,k,r⟩:=q
   exact⟨ws,g,k,λj c v d f=>(r j c v d f).Pl s (p c (ce d))⟩
 | e=>exact h
theorem CL.Pl{V V':View}(s:VR V V'){id:Nat}{o:O}(h:CL V id o)(f:o.Pl):CL V' id o:=by
 cases o with
 | cells T k rows=>
  rcases h with ⟨b,a⟩|⟨d,cur,a,u,t,q,p,n⟩
  .exact .inl ⟨by rw[s.nl];exact b,a⟩
  .refine .inr ⟨by rw[s.nl];exact d,cur,by rw[s.w,s.ρ];exact a,by rw[s.cap];exact u,by rw[s.cap];exact t,by rw[s.cap];exact q,p,λi r j c hi e=>?_⟩
   obtain⟨v,m,g⟩:=n i r j c hi e;exact⟨v,m,g.Pl s (f r (ce hi) c (ce e))⟩
 | mp es=>obtain⟨d,ents,clock,b,a⟩:=h;exact⟨by rw[s.nl];exact d,ents,clock,by rw[s.w,s.ρ];exact b,a⟩
 | sld T l=>exact⟨by rw[s.nl];exact h.1,by rw[s.w];exact h.2⟩
section
variable {o:Oper}{f:Env}{nx:Nat}
theorem fZ{V:View}{S:VS}(h:Inv TB Γ V σ)(c:Pc TB V σ S):Inv TB (FO (GJ V σ) (GJ V σ) [] S) (GJ V σ) []:=
 ⟨rfl,rfl,rfl,λ_ _ _=>rfl,λb hb=>by
  rcases hb with hb|⟨id,o,e,d,hb⟩
  .exact h.iLt b hb
  .exact(h.st.obj id o e).blt d hb,λ_ h=>.inl h,Ext.refl _,EL,λid o f=>(by cases f),λx a=>⟨.inl (h.tabs x a).1,(h.tabs x a).2⟩,⟨S,⟨c.r,λb hb=>.inl (c.ji b hb),λb hb hi=>hi.elim (c.bi b hb) λ⟨id,o,e,d,a⟩=>c.ap b ⟨id,o,e,d,a⟩ hb,λb ⟨_,_,h,_⟩=>by cases h⟩,λb hb=>.inl hb,λb hb=>.inr (.inr hb)⟩⟩
theorem dW{V V':View}{σ':Ac}{S:VS}(d:Inv TB Γ V σ)(M:Pc TB V σ S)(G:∀b,S.J b->Γ.J b\/Γ.V.w.heap.size<=b\/Γ.F b)(m:∀b,S.B b->Γ.V.w.heap.size<=b\/Γ.F b)(l:Ext (GJ V σ) V')(hi:Inv TB (FO (GJ V σ) (GJ V σ) [] S) V' σ')(A:rZ σ') :
 ∃V3,VR V' V3/\Ext V V3/\Inv TB Γ V3 (σ'++σ):=by
 have s:VR V' { V' with I:=λb=>V.I b\/(V'.I b/\(V.w.heap.size<=b\/S.B b)) } := ⟨rfl,rfl,rfl,rfl,rfl⟩
 have e:Ext V { V' with I:=λb=>V.I b\/(V'.I b/\(V.w.heap.size<=b\/S.B b)) } := ⟨λ_ h=>.inl h,λb hb=>l.heap b (.inl hb),l.size,l.ρ,l.cap,l.nl,l.nx⟩
 have bs:∀ {id:Nat} {o:O} {b:Nat},Fb { V' with I:=λb=>V.I b\/(V'.I b/\(V.w.heap.size<=b\/S.B b)) } id o b↔Fb V' id o b:=λ{id o b} => by cases o<;>exact Iff.rfl
 have k:∀id o,look σ' id=some o->¬V'.nl id->∀b,Fb V' id o b->V.w.heap.size<=b\/S.B b:=λid o a f b hb=>by
  rcases hi.live id o a f b hb with h|h|h
  .exact .inl h
  .obtain⟨_,_,h,_⟩:=h;cases h
  .exact .inr h
 have q:∀id o,look σ id=some o->¬V.nl id->∀b,Fb V id o b->(V.w.heap.size<=b\/S.B b)->False:=λid o a f b hb h=>by
  rcases h with h|h
  .have:=(d.st.obj _ _ a).blt f hb;omega
  .exact M.ap b ⟨id,o,a,f,hb⟩ h
 refine⟨_,s,e,⟨hi.os.trans d.os,hi.tape.trans d.tape,hi.output.trans d.output,λb hb L=>(hi.old b (ol hb d.ext.size) (λh=>h.elim (λ⟨_,_,h,_⟩=>by cases h) λh=>(m b h).elim (λh=>by omega) L)).trans (d.old b hb L),λb hb=>?_,λb hb=>?_,d.ext.trans e,⟨λid o a=>?_,λid o a=>?_,λid o a f b hb hI=>?_,λid id' o o' j g y f n b hb p=>?_⟩,λid o a f b hb=>?_,λx K=>⟨.inl (d.tabs x K).1,(hi.tabs x K).2⟩,?_⟩⟩
 .rcases hb with hb|hb
  .exact hi.iLt b (l.i b (.inl hb))
  .exact hi.iLt b hb.1
 .rcases hb with hb|hb
  .exact d.iNew b hb
  .rcases hb.2 with h|h
   .exact .inr (.inl (l3 d.ext.size h))
   .exact .inr (m b h)
 .rcases CI a with a|a
  .exact(hi.st.obj id o a).Pl s (A.get a)
  .exact(d.st.obj id o a).AM e (d.st.lt id o a) λf b hb=>l.heap b (.inr ⟨id,o,a,f,hb⟩)
 .rcases CI a with a|a
  .exact hi.st.lt id o a
  .exact ol (d.st.lt id o a) l.nx
 .rcases CI a with a|a
  .have u:=hi.st.free id o a f b (bs.1 hb)
   rcases hI with hI|hI
   .exact u (l.i b (.inl hI))
   .exact u hI.1
  .have c:=d.st.lt id o a
   have hb:=(Az e c).1 hb;have f:¬V.nl id:=λh=>f ((e.nl id c).2 h)
   rcases hI with hI|hI
   .exact d.st.free id o a f b hb hI
   .exact q id o a f b hb hI.2
 .rcases CI j with j|j<;>rcases CI g with g|g
  .exact hi.st.inj _ _ _ _ j g y f n b (bs.1 hb) (bs.1 p)
  .have u:=k id o j f b (bs.1 hb)
   have c:=d.st.lt _ _ g;exact q _ _ g (λh=>n ((e.nl _ c).2 h)) b ((Az e c).1 p) u
  .have u:=k id' o' g n b (bs.1 p)
   have c:=d.st.lt _ _ j;exact q _ _ j (λh=>f ((e.nl _ c).2 h)) b ((Az e c).1 hb) u
  .have c:=d.st.lt _ _ j
   have t:=d.st.lt _ _ g;exact d.st.inj _ _ _ _ j g y (λh=>f ((e.nl _ c).2 h)) (λh=>n ((e.nl _ t).2 h)) b ((Az e c).1 hb) ((Az e t).1 p)
 .rcases CI a with a|a
  .rcases k id o a f b (bs.1 hb) with h|h
   .exact .inl (l3 d.ext.size h)
   .exact m b h
  .have c:=d.st.lt _ _ a
   exact d.live id o a (λh=>f ((e.nl _ c).2 h)) b ((Az e c).1 hb)
 .obtain⟨S1,v,H,P⟩:=hi.hid
  have N:∀b,S1.B b->V.w.heap.size<=b\/S.B b:=λb hb=>by
   rcases P b hb with h|h|h
   .exact .inl h
   .obtain⟨_,_,h,_⟩:=h;cases h
   .exact .inr h
  refine⟨S1,⟨v.r,λb hb=>?_,λb hb hI=>v.bi b hb (hI.elim (λh=>l.i b (.inl h)) λh=>h.1),λb ⟨id,o,a,f,hb⟩ z=>?_⟩,λb hb=>?_,λb hb=>?_⟩
  .rcases H b hb with h|h|h|h
   .exact .inl (M.ji b h)
   .exact .inr ⟨v.ji b hb,.inl h⟩
   .obtain⟨_,_,h,_⟩:=h;cases h
   .exact .inr ⟨v.ji b hb,.inr h⟩
  .rcases CI a with a|a
   .exact v.ap b ⟨id,o,a,f,bs.1 hb⟩ z
   .have c:=d.st.lt _ _ a
    exact q _ _ a (λh=>f ((e.nl _ c).2 h)) b ((Az e c).1 hb) (N b z)
  .rcases H b hb with h|h|h|h
   .exact G b h
   .exact .inr (.inl (l3 d.ext.size h))
   .obtain⟨_,_,h,_⟩:=h;cases h
   .exact .inr (m b h)
  .rcases N b hb with h|h
   .exact .inl (l3 d.ext.size h)
   .exact m b h
theorem lu{V:View}{a:Act}{L:List (Nat×E)}(h:Inv TB Γ V σ)(c:YL σ f L)(i:JG V o f a):JG (GJ V σ) o (look L) a:=λt e ht b=>by
 obtain⟨y,g,d⟩:=c.get t e b;exact d.rel h (i t y ht g)
theorem A5.SE{x:E}(L:List (Nat×E))(n:YL σ f L)(h:∀Γ',A5 P TB Γ' o (look L) [] nx x)(c:x.Pl):A5 P TB Γ o f σ nx x:=by
 intro V a q b p;obtain⟨S,k,i,j⟩:=b.hid;refine Oper.wp_mono ?_ (h (FO (GJ V σ) (GJ V σ) [] S) (GJ V σ) a (lu b n q) (fZ b k) p);rintro a' w' ⟨V',v,rfl,rfl,m,hi,l,d⟩;obtain⟨V3,s,e,g⟩:=dW b k i j m hi (λx d=>by cases d);exact⟨V3,v,s.w,rfl,e,g,by rw[s.nx];exact l,d.Pl s c⟩
end
def Hz(σ:Ac):List Nat->Ac
 | []=>[]
 | i::r=>match look σ i with
  | some o=>(i,o)::Hz σ r
  | none=>Hz σ r
theorem EF{σ:Ac}:∀ {ids:List Nat} {id:Nat} {o:O},look (Hz σ ids) id=some o->id∈ids/\look σ id=some o
 | [],_,_,h=>by cases h
 | i :: r,id,o,h=>by
  unfold Hz at h;split at h
  .rename_i o' a
   rw[Ay]at h;by_cases hi:i=id
   .rw[if_pos hi]at h;injection h with h;subst h;subst hi;exact⟨vT ..,a⟩
   .rw[if_neg hi]at h
    have:=EF h;exact⟨ui _ this.1,this.2⟩
  .have:=EF h
   exact⟨ui _ this.1,this.2⟩
def fJ(σi:Ac)(f:Env):List (Nat×E)->Prop
 | []=>True
 | (t,e')::L=>(∃e,f t=some e/\(e=e'\/EZ σi e e'))/\fJ σi f L
theorem fJ.get{σi:Ac}{f:Env}:∀ {L:List (Nat×E)},fJ σi f L->∀t e',look L t=some e'->∃e,f t=some e/\(e=e'\/EZ σi e e')
 | [],_,t,e,h=>by cases h
 | (k,x)::L,a,t,e,h=>by
  rw[Ay]at h;by_cases hk:k=t
  .rw[if_pos hk]at h;injection h with h;subst h;subst hk;exact a.1
  .rw[if_neg hk]at h;exact fJ.get a.2 t e h
theorem Al.Bb{c:Code}{Q:Exit->Env->Ac->Nat->Prop}{f:Env}{nx:Nat}(ids:List Nat)(L:List (Nat×E))(w:fJ (Hz σ ids) f L)(h:Al P TB Γ N c Q (look L) (BR ids σ) nx):Al P TB Γ N c Q f σ nx:=by
 intro V a l;have hi:=l.inv;have i:∀id o,look (Hz σ ids) id=some o->look σ id=some o:=λid o h=>(EF h).2;have u:Inv TB Γ V (Hz σ ids):=hi.sub i;have e:Ext V (GJ V (Hz σ ids)):=Mj;refine h (GJ V (Hz σ ids)) a ⟨λt x p=>?_,λt x p=>?_,l.size,?_,l.nx,l.defers⟩
 .obtain⟨y,q,g⟩:=w.get t x p
  rcases g with rfl|g
  .exact(l.env t _ q).ext e
  .exact g.rel u (l.env t y q)
 .obtain⟨y,q,_⟩:=w.get t x p
  exact l.lt t y q
 .refine⟨hi.os,hi.tape,hi.output,hi.old,?_,?_,hi.ext.trans e,⟨?_,?_,?_,?_⟩,?_,λx p=>⟨.inl (hi.tabs x p).1,(hi.tabs x p).2⟩,hi.hid.same rfl (λ_ h=>.inl h) (λb hb=>hb.elim .inl λ⟨id,o,d,j,v⟩=>.inr ⟨id,o,i _ _ d,j,v⟩) λb ⟨id,o,d,j,hb⟩=>have g:=(A3 ids σ id o d).2;⟨id,o,g,j,(Az e (hi.st.lt id o g)).1 hb⟩⟩
  .rintro b (hb|⟨id,o,d,j,hb⟩)
   .exact hi.iLt b hb
   .exact(hi.st.obj id o (i _ _ d)).blt j hb
  .rintro b (hb|⟨id,o,d,j,hb⟩)
   .exact hi.iNew b hb
   .exact .inr (hi.live id o (i _ _ d) j b hb)
  .intro id o d
   have:=(A3 ids σ id o d).2;exact(hi.st.obj id o this).AM e (hi.st.lt id o this) λ_ _ _=>rfl
  .intro id o d;exact hi.st.lt id o (A3 ids σ id o d).2
  .intro id o d j b k hb
   obtain⟨q,g⟩:=A3 ids σ id o d;have k:=(Az e (hi.st.lt id o g)).1 k
   rcases hb with hb|⟨id',o',n,m,v⟩
   .exact hi.st.free id o g j b k hb
   .have z:=EF n
    exact hi.st.inj id id' o o' g z.2 (λe=>q (e▸z.1)) j m b k v
  .intro id id' o o' d n s j m b hb k
   have g:=(A3 ids σ id o d).2;have r:=(A3 ids σ id' o' n).2;exact hi.st.inj id id' o o' g r s j m b ((Az e (hi.st.lt id o g)).1 hb) ((Az e (hi.st.lt id' o' r)).1 k)
  .intro id o d j b hb
   have g:=(A3 ids σ id o d).2;exact hi.live id o g j b ((Az e (hi.st.lt id o g)).1 hb)
theorem FZ.fD{a s:Nat}{T Ta:TypeId}{l:JF}(ha:look σ a=some (.cells Ta 1 (AN l)))(e:look σ s=some (.sld T (sI l))):FZ σ (.arr a 1 0 l.length) (Ce (l.map (·.2))):=by
 refine .rows ha (by simp) (CO l) λi r' hi=>?_;simp only[f9,d7]at hi;obtain⟨x,⟨y,b,rfl⟩,rfl⟩:=hi;refine⟨[.d (.v y.1)],by simp[AN,b],.cons ?_ .nil⟩;have c:FZ σ (.d (.v y.1)) (.l ((y.2.map (Value.int .i64)).map λx=>[D.v x])):=.sld e (d8.2 ⟨y,ce b,rfl⟩);rw[uG]at c;exact c
theorem Al.Vi{c:Code}{Q:Exit->Env->Ac->Nat->Prop}{f:Env}{nx:Nat}(a i s:Nat)(l:JF)(xs:List Int)(ha:look σ a=some (.cells Ta 1 (AN l++[[.arr i 1 0 xs.length]])))(hi:look σ i=some (.cells T 1 (MV xs)))(b:look σ s=some (.sld T (sI l)))
 (h:∀v,Al P TB Γ N c Q f ((a,.cells Ta 1 (AN (l++[(v,xs)])))::(s,.sld T (sI (l++[(v,xs)])))::kill i σ) nx):Al P TB Γ N c Q f σ nx:=
 Al.put a i s (AN l) [] xs l [] ha hi (by rw[uv];exact b) λv=>by
  have:=h v;rw[Bc]at this;exact this
theorem QU{l:JF}{k:Nat}{y:Value×List Int}(h:l[k]?=some y):l=l.take k++y::l.drop (k+1)/\(l.take k).length=k:=by
 obtain⟨hk,rfl⟩:=am.1 h;refine⟨?_,by rw[vo];omega⟩;rw[<-vZ hk,uE]
theorem Vw{α:Type}{l1 l2:List α}{x y:α}{k:Nat}(h:l1.length=k):(l1++x::l2).set k y=l1++y::l2:=by
 subst h;simp
theorem Al.pc{c:Code}{Q:Exit->Env->Ac->Nat->Prop}{f:Env}{nx:Nat}(a s:Nat)(l:JF)(k:Nat)(y:Value×List Int)(hk:l[k]?=some y)(ha:look σ a=some (.cells Ta 1 (AN l)))(g:look σ s=some (.sld T (sI l)))
 (h:Al P TB Γ N c Q f ((a,.cells Ta 1 ((AN l).set k [.arr nx 1 0 y.2.length]))::(nx,.cells T 1 (MV y.2))::(s,.sld T (sI (l.eraseIdx k)))::σ) (nx+1)):Al P TB Γ N c Q f σ nx:=by
 obtain⟨b,i⟩:=QU hk;obtain⟨v,xs⟩:=y
 have e:AN l=AN (l.take k)++[.d (.v v)]::AN (l.drop (k+1)):=by
  have:=congrArg AN b;rw[Bc]at this;exact this
 refine Al.take a s (AN (l.take k)) (AN (l.drop (k+1))) v xs (l.take k) (l.drop (k+1)) (by rw[<-e];exact ha) (by rw[<-b];exact g) ?_
 have m:(AN l).set k [.arr nx 1 0 xs.length]=AN (l.take k)++[.arr nx 1 0 xs.length]::AN (l.drop (k+1)):=by
  rw[e,Vw (by rw[CO,i])]
 have j:l.eraseIdx k=l.take k++l.drop (k+1):=xj ..;rw[m,j]at h;exact h
theorem Al.putAt{c:Code}{Q:Exit->Env->Ac->Nat->Prop}{f:Env}{nx:Nat}(a i s:Nat)(l:JF)(k:Nat)(y:Value×List Int)(hk:l[k]?=some y)(xs:List Int)(ha:look σ a=some (.cells Ta 1 ((AN l).set k [.arr i 1 0 xs.length])))(hi:look σ i=some (.cells T 1 (MV xs)))(b:look σ s=some (.sld T (sI (l.eraseIdx k))))
 (h:∀v,Al P TB Γ N c Q f ((a,.cells Ta 1 (AN (l.set k (v,xs))))::(s,.sld T (sI (l.set k (v,xs))))::kill i σ) nx):Al P TB Γ N c Q f σ nx:=by
 obtain⟨g,e⟩:=QU hk
 have n:AN l=AN (l.take k)++[.d (.v y.1)]::AN (l.drop (k+1)):=by
  have:=congrArg AN g;rw[Bc]at this;exact this
 rw[n,Vw (by rw[CO,e])]at ha;rw[show l.eraseIdx k=l.take k++l.drop (k+1) from xj ..]at b;refine Al.put a i s (AN (l.take k)) (AN (l.drop (k+1))) xs (l.take k) (l.drop (k+1)) ha hi b λv=>?_
 have j:l.set k (v,xs)=l.take k++(v,xs)::l.drop (k+1):=by
  have this:l.set k (v,xs)=(l.take k++y::l.drop (k+1)).set k (v,xs):=congrArg (λm=>List.set m k (v,xs)) g;rw[this,Vw e]
 have:=h v;rw[j,Bc]at this;exact this
theorem AE.A6{g:FuncId}{m nx:Nat}{args:List E}{post:E->Ac->Nat->Prop}
 (h:AE P TB g m σ nx args (λx d c=>∃(l:List Nat) (x':E) (a:Ac),((∀i,i<m->l[i]?=some i)/\l.Nodup)/\x=x'.A6 (nm l c)/\AX (nm l c) d a/\post x' a l.length)):AE P TB g m σ nx args post:=
 ⟨h.1, λV vs S n ha=>(h.2 V vs S n ha).mono λe w' ⟨V',v,x,σ',w,u,s,r,l,x',a,j,q,p,o⟩=>by
  have k:Cw TB (FO V (LF V m) σ S) 1 V' (look [(0,x)]) σ' V'.nx { tmps:=#[v],defers:=[] } := by
   refine⟨λt y b=>?_,λt y b=>?_,rfl,s,rfl,rfl⟩
   .rw[Ay]at b
    by_cases ht:0=t
    .rw[if_pos ht]at b;injection b with b;subst b;subst ht;exact r
    .rw[if_neg ht]at b;cases b
   .rw[Ay]at b
    by_cases ht:0=t
    .subst ht;exact xL
    .rw[if_neg ht]at b;cases b
  obtain⟨V'',z,f⟩:=k.A6 l [(0,x')] a j.1 j.2 ⟨by rw[<-q];rfl,trivial⟩ p;refine⟨V'',v,x',a,w,z.trans u,f.inv,f.env 0 x' rfl,?_⟩
  rw[f.nx];exact o⟩
theorem FA{m:Nat}{σ σ':Ac}(i:Nat)(a:m=2 ^ i)(h:look σ' i=look σ i):Kept m σ σ':=λid hb=>by
 subst a;rw[vA]at hb;have:i=id:=of_decide_eq_true hb;subst this;exact h
theorem Lf{m:Nat}{σ σ':Ac}(i j:Nat)(a:m=2 ^ i ||| 2 ^ j)(h:look σ' i=look σ i)(b:look σ' j=look σ j):Kept m σ σ':=λid hb=>by
 subst a;rw[vq,t6,vA,vA,decide_eq_true_eq,decide_eq_true_eq]at hb
 rcases hb with hb|hb
 .subst hb;exact h
 .subst hb;exact b
theorem MZ{l1 l2:JF}{c:C}{k:Nat}(h:l1.length=k):(AN l1++[c]::AN l2)[k]?=some [c]:=by
 subst h;rw[i7 (by rw[CO];exact jp _),CO];simp
theorem eR [j:C4 P] {g:FuncId} {fn:Func} {c:Code} {nx:Nat} {args:List E} {post:E->Ac->Nat->Prop} (f:P.funcs[g]?=some fn) (hb:fn.body=some c) (a:(fn.name == "runtime.NumGoroutine")=false)
 (ha:Nat.ble args.length fn.ntmps=true) (h:∀Γ:Ctx,Γ.V.nx=nx->Al P TB Γ fn.ntmps c (fM j.T fn.results (λx e d=>∃(l:List Nat) (x':E) (b:Ac),((∀i,i<nx->l[i]?=some i)/\l.Nodup)/\x=x'.A6 (nm l d)/\AX (nm l d) e b/\post x' b l.length)) (look (Cs 0 args)) σ nx):Spec P TB g σ nx args post:=
 AE.Ic (AE.A6 (AE.PM (jp _) f hb a (co ha) h))
end
theorem cN:(∀(r:Nat->Nat) (l:JF),(AN l).map (C.Ch r)=AN l)/\(∀(α:Type) (b:Bool) (x y:α),(bif b then x else y)=if b=true then x else y)/\∀a b:Nat,(Nat.beq a b=true)=(a=b):=
 ⟨XK,λ_ b _ _=>by cases b<;>rfl,λ_ _=>Nat.beq_eq⟩
inductive FL (σ:Ac) (ids:List Nat):List C->List C->Prop
 | nil:FL σ ids [] []
 | cons {c c':C} {cs cs':List C}:FC σ ids c c'->FL σ ids cs cs'->FL σ ids (c::cs) (c'::cs')
theorem FL.len{σ:Ac}{ids:List Nat}{l l':List C}(h:FL σ ids l l'):l'.length=l.length:=by
 induction h with
 | nil=>rfl
 | cons _ _ a=>simp[a]
theorem FL.get{σ:Ac}{ids:List Nat}{l l':List C}(h:FL σ ids l l'):∀(j:Nat) c',l'[j]?=some c'->∃c,l[j]?=some c/\FC σ ids c c':=by
 induction h with
 | nil=>intro j c' h;simp at h
 | @cons f e cs cs' d _ b=>
  intro j c' a
  cases j with
  | zero=>simp at a;subst a;exact⟨f,rfl,d⟩
  | succ j=>exact b j c' (by simpa using a)
def SZ(σ:Ac)(ids:List Nat):Ac->Prop
 | []=>True
 | (id,.cells T k [r'])::S=>(∃r,look σ id=some (.cells T k [r])/\id∉ids/\FL σ ids r r')/\SZ σ ids S
 | _=>False
theorem SZ.get{σ:Ac}{ids:List Nat}:∀ {S:Ac},SZ σ ids S->∀id o',look S id=some o'->∃T k r r',o'=.cells T k [r']/\look σ id=some (.cells T k [r])/\id∉ids/\FL σ ids r r'
 | [],_,id,o',h=>by cases h
 | (i, o)::S,a,id,o',h=>by
  match o,a with
  | .cells T k [r'],a=>
   rw[Ay]at h;by_cases hi:i=id
   .rw[if_pos hi]at h
    injection h with h
    subst h;subst hi;obtain⟨r,d,c,b⟩:=a.1;exact⟨T,k,r,r',rfl,d,c,b⟩
   .rw[if_neg hi]at h
    exact SZ.get a.2 id o' h
section
variable {P:Program}{TB:BB}{Γ:Ctx}{N:Nat}{σ:Ac}
theorem Cw.Pz{V:View}{f:Env}{nx:Nat}{a:Act}(h:Cw TB Γ N V f σ nx a)(ids:List Nat)(L:List (Nat×E))(S:Ac)(J:Ez σ ids f L)(u:SZ σ ids S):Cw TB Γ N (Lu V σ ids) (look L) S nx a:=by
 have e:Ext V (Lu V σ ids):=PA;have hi:=h.inv;refine⟨λt x m=>?_,λt x m=>?_,h.size,?_,h.nx,h.defers⟩
 .obtain⟨y,g,w⟩:=J.get t x m
  exact w.rel h.inv (h.env t y g)
 .obtain⟨y,g,_⟩:=J.get t x m
  exact h.lt t y g
 .refine⟨hi.os,hi.tape,hi.output,hi.old,?_,?_,hi.ext.trans e,⟨?_,?_,?_,?_⟩,?_,λx m=>⟨.inl (hi.tabs x m).1,(hi.tabs x m).2⟩,hi.hid.same rfl (λ_ h=>.inl h) (λb hb=>hb.elim .inl λ⟨id,o,_,d,l,B⟩=>.inr ⟨id,o,d,l,B⟩) λb ⟨id,o,d,l,hb⟩=>?_⟩
  .rintro b (hb|⟨id,o,_,d,l,hb⟩)
   .exact hi.iLt b hb
   .exact(hi.st.obj id o d).blt l hb
  .rintro b (hb|⟨id,o,_,d,l,hb⟩)
   .exact hi.iNew b hb
   .exact .inr (hi.live id o d l b hb)
  .intro id o d
   obtain⟨T,k,r,r',rfl,g,w,M⟩:=u.get id o d
   rcases hi.st.obj id _ g with ⟨K,F⟩|⟨h0,cur,K,F,h6,h7,Z,Y⟩
   .cases F
   .refine .inr ⟨h0,cur,K,F,h6,h7,λx m=>?_,λi x j c' s R=>?_⟩
    .simp at m;subst m;rw[M.len];exact Z r (by simp)
    .have A:i=0:=by have:=(am.1 s).1;simp at this;omega
     subst A;simp at s;subst s;obtain⟨c,X,U⟩:=M.get j c' R;obtain⟨v,I,H⟩:=Y 0 r j c rfl X;exact⟨v,I,U.rel hi H⟩
  .intro id o d
   obtain⟨T,k,r,r',_,g,_,_⟩:=u.get id o d;exact hi.st.lt id _ g
  .intro id o d l b n hb
   obtain⟨T,k,r,r',rfl,g,w,_⟩:=u.get id o d
   rcases hb with hb|⟨id',o',Q,q,p,B⟩
   .exact hi.st.free id _ g l b n hb
   .exact hi.st.inj id id' _ o' g q (λe=>w (e▸Q)) l p b n B
  .intro id id' o o' d q z l p b hb n
   obtain⟨T,k,r,r',rfl,g,_,_⟩:=u.get id o d;obtain⟨T2,k2,r2,P,rfl,G,_,_⟩:=u.get id' o' q;exact hi.st.inj id id' _ _ g G z l p b hb n
  .intro id o d l b hb
   obtain⟨T,k,r,r',rfl,g,_,_⟩:=u.get id o d;exact hi.live id _ g l b hb
  .obtain⟨T,k,r,r',rfl,g,_,_⟩:=u.get id o d
   exact⟨id,_,g,l,hb⟩
theorem Al.Pz{c:Code}{Q:Exit->Env->Ac->Nat->Prop}{f:Env}{nx:Nat}(ids:List Nat)(L:List (Nat×E))(S:Ac)(e:Ez σ ids f L)(d:SZ σ ids S)(h:Al P TB Γ N c Q (look L) S nx):Al P TB Γ N c Q f σ nx:=
 λV a b=>h (Lu V σ ids) a (b.Pz ids L S e d)
theorem ca{d:Option Tmp}{ty:TypeId}{pos:String}{af:Array Edge}{g:Option (Nat×Bool)}{f:Env}{nx:Nat}{t k e:TypeId}{x y:Operand}{id:Nat}{l:List (List UInt8×Int)}{s:List UInt8}[B:Fy P t k e][hk:De P k][K:JE P e (.int .i64 0)](M:ev f x=some (.o (.mp id)))(L:ev f y=some (eT s))(N:look σ id=some (.mp (GM l))) :
 A5 P TB Γ ⟨d,.lookup t x y false,ty,pos,af,g⟩ f σ nx (eI .i64 ((Cz l s).getD 0)):=
 AK λV ρ A hi=>by
  have J:=A.get (by simp[Op.operands]) M;have I:ρ y=.string ⟨s.toArray⟩:=AD.val (A.get (by simp[Op.operands]) L);generalize z:ρ x=v at J
  cases J with
  | mp Q=>
   obtain⟨X,ents,clock,H,S⟩:=hi.st.obj id _ N;obtain⟨r,R,h⟩:=Ms s l ents.toList 0 S;have a:=K.out;simp only[pu]at a;obtain⟨i,p,m⟩:=a
   have j:(zeroValue e).run P V.w=.ok (.int .i64 0) V.w:=by simp[zeroValue,typeInfo,p,m,go_sem]
   have b:(Instr.findKey k (.string ⟨s.toArray⟩) ents.toList).run P V.w=.ok r V.w:=by simp[Instr.findKey,run_underlying hk.out,R,go_sem]
   have c:=Lr hk.out ents.isEmpty ⟨s.toArray⟩ V.w;refine⟨.int .i64 ((Cz l s).getD 0),?_,.d (.v rfl)⟩
   cases r with
   | none=>
    have u:Cz l s=none:=by simpa using h.symm
    simp[execOp,z,I,Instr.lookup,run_underlying B.out,MapKept.run_getObj_map H,c,b,j,u,go_sem]
   | some q=>
    obtain⟨n,u,G⟩:∃n,Cz l s=some n/\q.2=.int .i64 n:=by
     cases F:Cz l s with
     | none=>rw[F]at h;simp at h
     | some n=>rw[F]at h;exact⟨n,rfl,by simpa using h⟩
    obtain⟨U,T⟩:=q;simp only at G;subst G;simp[execOp,z,I,Instr.lookup,run_underlying B.out,MapKept.run_getObj_map H,c,b,u,go_sem]
end
theorem rO{P:Program}{TB:BB}{Γ:Ctx}{ι:Type}{C:ι->Prop}{f:ι->List (Nat×E)}{s:ι->Ac}{n N:Nat}{c:Code}{Q:Exit->Env->Ac->Nat->Prop}{Y:Prop}(h:∀i,C i->Al P TB Γ N c Q (look (f i)) (s i) n)
 (hk:(∀(i:ι) (l:List Nat) {L:List (Nat×E)} {σ:Ac} {nx:Nat},C i->((∀j,j<Γ.V.nx->l[j]?=some j)/\l.Nodup/\l.length=n)->(DG (nm l nx) (look L) (f i)/\AX (nm l nx) σ (s i))->Al P TB Γ N c Q (look L) σ nx)->Y):Y:=
 hk λi l _ _ _ d a b=>Al.names l (f i) (s i) a.1 a.2.1 b.1 b.2 (by rw[a.2.2];exact h i d)
section
variable {P:Program}{TB:BB}{Γ:Ctx}{d:Option Tmp}{ty:TypeId}{pos:String}{af:Array Edge}{g:Option (Nat×Bool)}{f:Env}{σ:Ac}{nx:Nat}
theorem sK{gg:FuncId}{x:Operand}{c:C}(e:ev f x=some (.o c)):A5 P TB Γ ⟨d,.makeFunc (.func gg) #[x] #[],ty,pos,af,g⟩ f σ nx (.o (.mv gg [c])):=
 AK λV ρ i _=>by
  refine⟨.func (.func gg) #[ρ x] #[],by simp[execOp,Instr.makeFunc,go_sem],AD.mv rfl λj c' v a b=>?_⟩;have h:AD V c (ρ x):=i.get (by simp[Op.operands]) e
  match j with
  | 0=>simp at a b;subst a;subst b;exact h
  | j+1=>simp at a
theorem oq{V:View}{gg:FuncId}{recv:List C}{v:Value}(h:Bh V (.o (.mv gg recv)) v):∃vs,v=.func (.func gg) vs #[]/\Df V recv vs:=by
 have h:AD V (.mv gg recv) v:=h;generalize a:C.mv gg recv=c at h;cases h<;>cases a;rename_i vs d b;exact⟨vs,rfl,d,b⟩
theorem YX{x:Operand}{args:Array Operand}{tys:Array TypeId}{gg:FuncId}{vs:Array Value}(f:fK P gg){ρ:Operand->Value}(e:ρ x=.func (.func gg) vs #[])(w:World) :
 (execOp ρ ⟨d,.call ⟨.value x,args,tys⟩,ty,pos,af,g⟩).run P w=.ok (.enter gg (vs++args.map ρ)) w:=by
 obtain⟨fn,i,h,b⟩:=f
 have hb:∃c,fn.body=some c:=by cases hb:fn.body with|none=>rw[hb]at b;cases b|some c=>exact⟨c,rfl⟩
 obtain⟨c,hb⟩:=hb;simp only[execOp,resolve,e,Deferred.ofValue,pure_bind,invoke,callFunc]
 have a:¬fn.name = "runtime.NumGoroutine" := by simpa using h
 simp[Sem.run,program,i,a,hb,go_sem]
theorem jc{x:Operand}{args:Array Operand}{tys:Array TypeId}{gg:FuncId}{recv:List C}{es:List E}{r:E}(R:ev f x=some (.o (.mv gg recv)))(t:Jw f args.toList=some es)(hp:(es.all E.Cg && C.Db recv)=true)
 (L:Pure P TB gg (recv.map .o++es) r) (T:r.Cg=true):A5 P TB Γ ⟨d,.call ⟨.value x,args,tys⟩,ty,pos,af,g⟩ f σ nx r:=by
 intro V a u A X;have u:=u.HK;unfold Oper.wp;generalize a.eval=ρ at u |-;obtain⟨vs,q,k⟩:=oq (u.get (x:=x) (by simp[Op.operands,Call.operands]) R);rw[YX L.1 q];rw[d4]at hp;have G:=CZ t
 have p:O9 { V with nx:=0 } (recv.map .o++es) (vs++args.map ρ):=by
  refine⟨by simp[k.1,G],λj e v n q=>?_⟩;have m:vs.size=recv.length:=k.1;by_cases s:j<recv.length
  .rw[gc (by simpa using s)]at n
   rw[t9 (by rw[m];exact s)]at q;simp only[f9,d7]at n;obtain⟨c,M,rfl⟩:=n;exact AD.Cg (V:=V) (V':={ V with nx:=0 }) rfl rfl (k.2 _ c v M q) (GB _ hp.2 _ c M)
  .rw[i7 (by simp;omega)]at n
   rw[vg (by rw[m];omega),m]at q;simp only[io]at n;refine Bh.Cg (V:=V) (V':={ V with nx:=0 }) rfl rfl (Io (λy Q e U=>u.get (by simp[Op.operands,Call.operands];right;simpa using Q) U) t _ e v n (by rw[<-wk];simpa using q)) (ge.1 hp.1 e (ce n))
 obtain⟨S,z,J,K⟩:=A.hid;refine(L.2 { V with nx:=0 } _ S ⟨A.iLt,EL,A.tabs,rfl,⟨z.r,z.ji,z.bi,λb ⟨_,_,h,_⟩=>by cases h⟩⟩ p).mono ?_;rintro e w' ⟨V1,v,Y,N,rfl,rfl,l,B,rfl⟩
 obtain⟨F,H⟩:=Ln A z J K (Vc:={ V with nx:=0 }) rfl l V1.I (λb hb=>l.ext.i b hb) (λb hb=>by
  rcases l.iNew b hb with h|h|h|h
  .exact .inl h
  .exact .inr (.inl ⟨h,l.iLt b hb⟩)
  .obtain⟨_,_,h,_⟩:=h;cases h
  .exact .inr (.inr h)) (λb hb _=>hb) (λb hb=>hb)
 exact⟨{ V with I:=V1.I,w:=V1.w },v,rfl,rfl,H,F,X,Bh.Cg (V:=V1) (V':={ V with I:=V1.I,w:=V1.w }) rfl rfl B T⟩
end
abbrev Rq(r:Nat):C:=.d (.v (.pointer (some ⟨r,0,none⟩)))
theorem ja{P:Program}{tabs:List (Nat×Obj)}{H:Hid}{r:Nat}{gg:FuncId}{k:Nat}{es:List E}{K:E}(N:fK P gg)(M:∀e∈es,e.sc=true)(F:K.sc=true)
 (h:∀s,AE P ⟨tabs,none⟩ gg 1 (H.st s) H.nx (.o (.ptr 0 k 0 0)::es) (λx σ nx=>x=K/\nx=H.nx/\∃s',σ=H.st s')):Pure P ⟨tabs,some (H,r)⟩ gg (.o (Rq r)::es) K:=by
 refine⟨N,λV vs S c ha=>?_⟩;have hr:∃(s:H.S) (V0:View),V0.I=S.J/\V0.w=V.w/\V0.nx=H.nx/\Il V0 (H.st s)/\(0<V0.nx/\V0.ρ 0=r/\¬V0.nl 0/\∀x∈(⟨tabs,some (H,r)⟩:BB),V0.I x.1)/\∀b,S.B b↔DT V0 (H.st s) b:=c.hid.r;obtain⟨s,V0,e1,f,e3,st,⟨Y,q,t,tb⟩,R⟩:=hr
 have m:Good ⟨tabs,none⟩ V0 (H.st s) H.nx ⟨λ_=>False,λ_=>False⟩:=
  ⟨λb hb=>by rw[f];exact c.iLt b (c.hid.ji b (by rw[<-e1];exact hb)),st,λx F=>⟨tb x F,by rw[f];exact(c.tabs x F).2⟩,e3,⟨λ_ h=>h,λ_ h=>h.elim,λ_ h=>h.elim,λ_ _ h=>h⟩⟩
 have n:O9 V0 (.o (.ptr 0 k 0 0)::es) vs:=by
  refine⟨ha.1,λj e v A Z=>?_⟩
  match j with
  | 0=>
   injection A with A
   subst A;have h1:=ha.2 0 (.o (Rq r)) v rfl Z;have h2:v=.pointer (some ⟨r,0,none⟩):=AD.val h1;subst h2;have:=AD.ptr (V:=V0) (id:=0) (k:=k) (i:=0) (j:=0) Y t;rw[q,vB]at this;exact this
  | j+1=>exact ZV (ha.2 (j+1) e v A Z) (M e (ce A))
 have g:=(h s).2 V0 vs _ m n;rw[f]at g;refine g.mono ?_;rintro e w' ⟨V1,v,x,σ',rfl,rfl,hi,L,rfl,G,s',rfl⟩
 have u:V.w.heap.size<=V1.w.heap.size:=by have a:V0.w.heap.size<=_:=hi.ext.size;rw[f]at a;exact a
 have d:∀b,b<V.w.heap.size->¬S.B b->V1.w.heap[b]?=V.w.heap[b]?:=λb hb G=>by
  have a:V1.w.heap[b]?=V0.w.heap[b]?:=hi.old b (by show b<V0.w.heap.size;rw[f];exact hb) λh=>h.elim (λh=>G ((R b).2 h)) λh=>h;rw[a,f]
 have l:∀b,V1.I b->S.J b\/V.w.heap.size<=b\/S.B b:=λb hb=>by
  rcases hi.iNew b hb with a|a|a|a
  .exact .inl (by rw[<-e1];exact a)
  .have a:V0.w.heap.size<=b:=a
   rw[f]at a;exact .inr (.inl a)
  .exact .inr (.inr ((R b).2 a))
  .exact a.elim
 have z:∀b,DT V1 (H.st s') b->V.w.heap.size<=b\/S.B b:=λb ⟨id,o,X,U,T⟩=>by
  rcases hi.live id o X U b T with a|a|a
  .have a:V0.w.heap.size<=b:=a
   rw[f]at a;exact .inl a
  .exact .inr ((R b).2 a)
  .exact a.elim
 have e:Ext V { V with I:=λb=>V.I b\/V1.I b,w:=V1.w } := ⟨λ_ h=>.inl h,λb hb=>d b (c.iLt b hb) λh=>c.hid.bi b h hb,u,λ_ _=>rfl,λ_ _=>rfl,λ_ _=>Iff.rfl,jp _⟩
 refine⟨{ V with I:=λb=>V.I b\/V1.I b,w:=V1.w },v,x,[],rfl,rfl,⟨?_,?_,?_,λb hb N=>d b hb λh=>N (.inr h),λb hb=>?_,λb hb=>?_,e,EL,λid o ho=>(by cases ho),λy p=>⟨.inl (c.tabs y p).1,?_⟩,⟨⟨DT V1 (H.st s'),V1.I⟩,⟨?_,λb hb=>.inr hb,λb hb hI=>?_,λb ⟨_,_,h,_⟩=>by cases h⟩,λb hb=>?_,λb hb=>?_⟩⟩,ZV L F,rfl⟩
 .have a:V1.w.os=V0.w.os:=hi.os
  rw[f]at a;exact a
 .have a:V1.w.tape=V0.w.tape:=hi.tape
  rw[f]at a;exact a
 .have a:V1.w.output=V0.w.output:=hi.output
  rw[f]at a;exact a
 .rcases hb with hb|hb
  .exact ol (c.iLt b hb) u
  .exact hi.iLt b hb
 .rcases hb with hb|hb
  .exact .inl hb
  .rcases l b hb with a|a|a
   .exact .inl (c.hid.ji b a)
   .exact .inr (.inl a)
   .exact .inr (.inr (.inr a))
 .exact(d _ (c.iLt _ (c.tabs y p).1) λh=>c.hid.bi _ h (c.tabs y p).1).trans (c.tabs y p).2
 .exact⟨s',V1,rfl,rfl,G,hi.st,⟨by rw[G,<-e3];exact Y,by rw[<-q];exact hi.ext.ρ 0 xL,λh=>t ((hi.ext.nl 0 xL).1 h),λy p=>hi.ext.i _ (tb y p)⟩,λ_=>Iff.rfl⟩
 .have Q:=hb
  obtain⟨id,o,X,U,T⟩:=hb
  rcases hI with hI|hI
  .rcases z b Q with a|a
   .have:=c.iLt b hI;omega
   .exact c.hid.bi b a hI
  .exact hi.st.free id o X U b T hI
 .rcases l b hb with a|a|a
  .exact .inl a
  .exact .inr (.inl a)
  .exact .inr (.inr (.inr a))
 .rcases z b hb with a|a
  .exact .inl a
  .exact .inr (.inr a)
inductive CH (i r:Nat):C->C->Prop
 | AM {c:C}:CH i r c c
 | ptr {k:Nat}:CH i r (.ptr i k 0 0) (Rq r)
 | mv {gg:FuncId} {k:Nat}:CH i r (.mv gg [.ptr i k 0 0]) (.mv gg [Rq r])
theorem CH.rel{V:View}{i r:Nat}(l:V.ρ i=r){c c':C}{v:Value}(h:CH i r c c')(a:AD V c v):AD V c' v:=by
 have hp:∀ {k:Nat} {v:Value},AD V (.ptr i k 0 0) v->AD V (Rq r) v:=λ{k v} a=>by
  cases a with
  | ptr f e=>rw[vB,l];exact .d (.v rfl)
 cases h with
 | AM=>exact a
 | ptr=>exact hp a
 | mv =>
  cases a with
  | mv f e=>
   refine .mv (by rw[f];rfl) λj c v b g=>?_
   match j with
   | 0=>injection b with b;subst b;exact hp (e 0 _ v rfl g)
   | j+1=>simp at b
inductive LH (i r:Nat):List C->List C->Prop
 | nil:LH i r [] []
 | cons {c c':C} {l l':List C}:CH i r c c'->LH i r l l'->LH i r (c::l) (c'::l')
theorem LH.len{i r:Nat}{l l':List C}(h:LH i r l l'):l'.length=l.length:=by
 induction h with
 | nil=>rfl
 | cons _ _ a=>simp[a]
theorem LH.get{i r:Nat}{l l':List C}(h:LH i r l l'):∀(j:Nat) c',l'[j]?=some c'->∃c,l[j]?=some c/\CH i r c c':=by
 induction h with
 | nil=>intro j c' h;simp at h
 | @cons f e cs cs' d _ b=>
  intro j c' a
  cases j with
  | zero=>simp at a;subst a;exact⟨f,rfl,d⟩
  | succ j=>exact b j c' (by simpa using a)
inductive EH (i r:Nat):E->E->Prop
 | AM {e:E}:EH i r e e
 | o {c c':C}:CH i r c c'->EH i r (.o c) (.o c')
 | a {l l':List C}:LH i r l l'->EH i r (.a l) (.a l')
theorem EH.rel{V:View}{i r:Nat}(d:V.ρ i=r){e e':E}{v:Value}(h:EH i r e e')(b:Bh V e v):Bh V e' v:=by
 cases h with
 | AM=>exact b
 | o h=>exact h.rel d b
 | a h=>
  obtain⟨vs,p,n,m⟩:=b;refine⟨vs,p,by rw[n,h.len],λj c v g f=>?_⟩;obtain⟨q,l,k⟩:=h.get j c g;exact k.rel d (m j q v l f)
def fI(i r:Nat)(f:Env):List (Nat×E)->Prop
 | []=>True
 | (t,e')::L=>(∃e,f t=some e/\EH i r e e')/\fI i r f L
theorem fI.get{i r:Nat}{f:Env}:∀ {L:List (Nat×E)},fI i r f L->∀t e',look L t=some e'->∃e,f t=some e/\EH i r e e'
 | [],_,t,e,h=>by cases h
 | (k,x)::L,a,t,e,h=>by
  rw[Ay]at h;by_cases hk:k=t
  .rw[if_pos hk]at h;injection h with h;subst h;subst hk;exact a.1
  .rw[if_neg hk]at h;exact fI.get a.2 t e h
def pS(i r:Nat)(l:List Nat)(σ:Ac):Ac->Prop
 | []=>True
 | (id,o')::S=>(id∉l/\(look σ id=some o'\/∃T k rw rw',o'=.cells T k [rw']/\look σ id=some (.cells T k [rw])/\LH i r rw rw'))/\pS i r l σ S
theorem pS.get{i r:Nat}{l:List Nat}{σ:Ac}:∀ {S:Ac},pS i r l σ S->∀id o',look S id=some o'->id∉l/\(look σ id=some o'\/∃T k rw rw',o'=.cells T k [rw']/\look σ id=some (.cells T k [rw])/\LH i r rw rw')
 | [],_,id,o,h=>by cases h
 | (k,x)::L,a,id,o,h=>by
  rw[Ay]at h;by_cases hk:k=id
  .rw[if_pos hk]at h;injection h with h;subst h;subst hk;exact a.1
  .rw[if_neg hk]at h;exact pS.get a.2 id o h
section
variable {P:Program}{tabs:List (Nat×Obj)}{Γ:Ctx}{N:Nat}{σ:Ac}
theorem Inv.forget{TB:BB}{J:Nat->Prop}{V:View}(h:Inv TB ⟨Γ.V,Γ.F,J⟩ V σ):Inv ⟨TB.tabs,none⟩ Γ V σ:=
 ⟨h.os,h.tape,h.output,h.old,h.iLt,h.iNew,h.ext,h.st,h.live,h.tabs,⟨⟨λ_=>False,λ_=>False⟩,⟨λ_ h=>h,λ_ h=>h.elim,λ_ h=>h.elim,λ_ _ h=>h⟩,λ_ h=>h.elim,λ_ h=>h.elim⟩⟩
theorem Al.sk{c:Code}{Q:Exit->Env->Ac->Nat->Prop}{f:Env}{nx:Nat}(H:Hid)(s:H.S)(i:Nat)(l:List Nat)(L:Nat->List (Nat×E))(S:Nat->Ac)(G:(i::l).Nodup)(hln:(i::l).length=H.nx)(U:AX (nm (i::l) nx) σ (H.st s))(h0:∃T k r rs,look (H.st s) 0=some (.cells T k (r::rs)))
 (hE:∀r,fI i r f (L r)) (M:∀r,pS i r (i::l) σ (S r)) (h:∀r Γ',Γ'.V=Γ.V->Al P ⟨tabs,some (H,r)⟩ Γ' N c Q (look (L r)) (S r) nx):Al P ⟨tabs,none⟩ Γ N c Q f σ nx:=by
 intro V a Y;have hi:=Y.inv;have hnx:=Y.nx;subst hnx;have hrn:∀id,nm (i::l) V.nx id<V.nx->id<(i::l).length:=λid=>TH;have n:∀id o,look (H.st s) id=some o->id<(i::l).length:=λid o g=>hrn id (hi.st.lt _ _ (U.get id o g))
 have hmem:∀id o,look (H.st s) id=some o->nm (i::l) V.nx id∈i::l:=λid o g=>by
  rw[GN (n id o g)];exact uy _
 have R:Il (V.A6 (nm (i::l) V.nx) (i::l).length) (H.st s):=by
  refine⟨λid o g=>CL.A6 hrn (hi.st.obj _ _ (U.get id o g)),n,λid o g A b hb=>hi.st.free _ _ (U.get id o g) A b (Cy.1 hb),?_⟩;intro id id' o o' g w B A hnl' b hb K;refine hi.st.inj _ _ _ _ (U.get id o g) (U.get id' o' w) ?_ A hnl' b (Cy.1 hb) (Cy.1 K);have u:=n id o g;have h4:=n id' o' w;rw[GN u,GN h4];intro he;have hp:=ro.1 G
  rcases wv B with d|d
  .exact hp _ _ u h4 d he
  .exact hp _ _ h4 u d he.symm
 have hnl0:¬V.nl i:=by
  obtain⟨T,k,r,rs,d⟩:=h0
  rcases R.obj 0 _ d with ⟨_,p⟩|⟨p,_⟩
  .cases p
  .exact p
 have m:∀id o,look (S (V.ρ i)) id=some o->∃q,look σ id=some q/\∀b,Fb V id o b->Fb V id q b:=λid o g=>by
  obtain⟨_,d|⟨T,k,rw,rw',rfl,d,_⟩⟩:=(M (V.ρ i)).get id o g
  .exact⟨o,d,λ_ h=>h⟩
  .exact⟨_,d,λ_ h=>h⟩
 have hinv : Inv ⟨tabs,some (H,V.ρ i)⟩ ⟨Γ.V,Γ.F,λ_=>True⟩ V (S (V.ρ i)):=by
  refine⟨hi.os,hi.tape,hi.output,hi.old,hi.iLt,hi.iNew,hi.ext,⟨λid o g=>?_,λid o g=>?_,λid o g G b hb=>?_,λid id' o o' g w B G hn' b hb K=>?_⟩,λid o g G b hb=>?_,hi.tabs,⟨⟨DT (V.A6 (nm (i::l) V.nx) (i::l).length) (H.st s),V.I⟩,⟨?_,λ_ h=>h,λb hb hI=>?_,λb hb hB=>?_⟩,λ_ _=>.inl True.intro,λb hb=>?_⟩⟩
  .obtain⟨_,d|⟨T,k,rw,rw',rfl,d,p⟩⟩:=(M (V.ρ i)).get id o g
   .exact hi.st.obj id o d
   .rcases hi.st.obj id _ d with ⟨_,h7⟩|⟨X,cur,h2,u,h4,h7,h8,h9⟩
    .cases h7
    .refine .inr ⟨X,cur,h2,u,h4,h7,λx z=>?_,λi' x j c' J hj=>?_⟩
     .simp at z;subst z;rw[p.len];exact h8 rw (by simp)
     .have hi0:i'=0:=by have:=(am.1 J).1;simp at this;omega
      subst hi0;simp at J;subst J;obtain⟨c,hc,hf⟩:=p.get j c' hj;obtain⟨v,h10,h11⟩:=h9 0 rw j c rfl hc;exact⟨v,h10,hf.rel rfl h11⟩
  .obtain⟨q,d,_⟩:=m id o g;exact hi.st.lt id q d
  .obtain⟨q,d,p⟩:=m id o g;exact hi.st.free id q d G b (p b hb)
  .obtain⟨q,d,p⟩:=m id o g
   obtain⟨o0',h5',h6'⟩:=m id' o' w;exact hi.st.inj id id' q o0' d h5' B G hn' b (p b hb) (h6' b K)
  .obtain⟨q,d,p⟩:=m id o g;exact hi.live id q d G b (p b hb)
  .exact⟨s,V.A6 (nm (i::l) V.nx) (i::l).length,rfl,rfl,hln,R,⟨Nat.succ_pos _,rfl,hnl0,λx z=>(hi.tabs x z).1⟩,λ_=>Iff.rfl⟩
  .obtain⟨id,o,Z,g2,g3⟩:=hb;exact R.free id o Z g2 b g3 hI
  .obtain⟨id,o,Z,g2,g3⟩:=hB
   obtain⟨id',o',k1,k2,k3⟩:=hb;obtain⟨q,d,p⟩:=m id' o' k1;have hnm:=((M (V.ρ i)).get id' o' k1).1;exact hi.st.inj id' _ q _ d (U.get id o Z) (λe=>hnm (by rw[e];exact hmem id o Z)) k2 g2 b (p b k3) (Cy.1 g3)
  .obtain⟨id,o,Z,g2,g3⟩:=hb;exact hi.live _ _ (U.get id o Z) g2 b (Cy.1 g3)
 have hst:Cw ⟨tabs,some (H,V.ρ i)⟩ ⟨Γ.V,Γ.F,λ_=>True⟩ N V (look (L (V.ρ i))) (S (V.ρ i)) V.nx a:=by
  refine⟨λt x z=>?_,λt x z=>?_,Y.size,hinv,rfl,Y.defers⟩
  .obtain⟨y,X,h2⟩:=(hE (V.ρ i)).get t x z
   exact h2.rel rfl (Y.env t y X)
  .obtain⟨y,X,_⟩:=(hE (V.ρ i)).get t x z
   exact Y.lt t y X
 refine wp_mono (h (V.ρ i) ⟨Γ.V,Γ.F,λ_=>True⟩ rfl V a hst) ?_;rintro e a' w' ⟨V',f',σ',X,h2,u⟩;exact⟨V',f',σ',X,h2,⟨u.env,u.lt,u.size,Inv.forget u.inv,u.nx,u.defers⟩⟩
end
end Go.Am
namespace Go.Am
abbrev W:=List UInt8
structure AW where
 rows:List W
 cols:List W
def TE(b:Bool):UInt8:=if b then 43 else 45
theorem bK{a b:Bool}(h:TE a=TE b):a=b:=by cases a<;>cases b<;>first|rfl|(simp[TE]at h)
def marks(L:W->Bool)(cols:List W)(w:W):W:=cols.map λc=>TE (L (w++c))
theorem Xn{L:W->Bool}{cols:List W}{u w:W}:marks L cols u=marks L cols w↔∀c∈cols,L (u++c)=L (w++c):=by
 unfold marks;rw[vL];exact⟨λh c a=>bK (h c a),λh c a=>by rw[h c a]⟩
def AH(L:W->Bool)(t:AW):List W:=t.rows.map (marks L t.cols)
def CT(ls:List UInt8)(rows:List W):List W:=rows.flatMap λr=>ls.map λl=>r++[l]
def A7(L:W->Bool)(ls:List UInt8)(t:AW):Option W:=(CT ls t.rows).find? λw=>!(AH L t).contains (marks L t.cols w)
def Bd(L:W->Bool)(ls:List UInt8):Nat->AW->Option AW
 | 0,_=>none
 | n+1,t=>match A7 L ls t with
  | none=>some t
  | some w=>if t.rows.length=12 then none else Bd L ls n ⟨t.rows++[w],t.cols⟩
def Ax(ls:List UInt8)(w:W):Prop:=∀c∈w,c∈ls
structure TOk (L:W->Bool) (ls:List UInt8) (t:AW):Prop where
 r0:t.rows[0]?=some []
 c0:t.cols[0]?=some []
 pre:∀(i:Nat) w,t.rows[i]?=some w->0<i->w≠[]/\∃j,j<i/\t.rows[j]?=some w.dropLast
 onR:∀w∈t.rows,Ax ls w
 onC:∀c∈t.cols,Ax ls c
 nd:(AH L t).Nodup
 bO:t.cols.Nodup
theorem Jh{L:W->Bool}{ls:List UInt8}{t:AW}{w:W}(h:A7 L ls t=some w):(∃r∈t.rows,∃l∈ls,w=r++[l])/\marks L t.cols w∉AH L t:=by
 have d:=List.find?_some h;have a:=List.mem_of_find?_eq_some h;unfold CT at a;simp only[vl,d8]at a;obtain⟨r,b,l,c,rfl⟩:=a;exact⟨⟨r,b,l,c,rfl⟩,by simpa using d⟩
theorem Hx{L:W->Bool}{ls:List UInt8}{t:AW}(h:A7 L ls t=none):∀r∈t.rows,∀l∈ls,marks L t.cols (r++[l])∈AH L t:=by
 intro r a l b;have c:=vU.1 h (r++[l]) (by unfold CT;simp only[vl,d8];exact⟨r,a,l,b,rfl⟩)
 simpa using c
theorem TOk.push{L:W->Bool}{ls:List UInt8}{t:AW}{w:W}(h:TOk L ls t)(o:A7 L ls t=some w):TOk L ls ⟨t.rows++[w],t.cols⟩:=by
 obtain⟨⟨r,n,l,q,rfl⟩,p⟩:=Jh o;have y:0<t.rows.length:=(am.1 h.r0).1;refine⟨by rw[gc y];exact h.r0,h.c0,λi w hi hp=>?_,λw d=>?_,h.onC,?_,h.bO⟩
 .by_cases k:i<t.rows.length
  .rw[gc k]at hi
   obtain⟨x,j,v,u⟩:=h.pre i w hi hp;exact⟨x,j,v,by rw[gc (by omega)];exact u⟩
  .rw [i7 (by omega)]at hi
   have m:i=t.rows.length:=by
    have:=(am.1 hi).1;simp at this;omega
   subst m;simp at hi;subst hi;obtain⟨j,g,s⟩:=um n;refine⟨by simp,j,g,?_⟩;rw[gc g,List.dropLast_concat,d5 g,s]
 .rcases f7.1 d with d|d
  .exact h.onR w d
  .simp at d
   subst d;intro c f
   rcases f7.1 f with f|f
   .exact h.onR r n c f
   .simp at f;subst f;exact q
 .unfold AH
  rw[uz,u6];refine⟨h.nd,by simp,λa ha b hb=>?_⟩;simp at hb;subst hb;intro e;exact p (e▸ha)
structure Fin (L:W->Bool) (ls:List UInt8) (n:Nat) where
 st:W->Nat
 lt:∀w,Ax ls w->st w<n
 same:∀u w v,Ax ls u->Ax ls w->Ax ls v->st u=st w->L (u++v)=L (w++v)
theorem MQ:∀(n:Nat) (l:List Nat),l.Nodup->(∀x∈l,x<n)->l.length<=n
 | 0,l,_,h=>by cases l with
  | nil=>simp
  | cons x l=>have:=h x (by simp);omega
 | n+1,l,c,h=>by
  have d:=MQ n (l.erase n) (c.erase n) λx a=>by
   have g:=h x (List.mem_of_mem_erase a)
   have f:x≠n:=λe=>by subst e;exact(List.Nodup.not_mem_erase c) a
   omega
  by_cases b:n∈l
  .rw[List.length_erase_of_mem b]at d;omega
  .rw[List.erase_of_not_mem b]at d;omega
theorem TOk.pE{L:W->Bool}{ls:List UInt8}{t:AW}{n:Nat}(h:TOk L ls t)(f:Fin L ls n):t.rows.length<=n:=by
 have m:(t.rows.map f.st).Nodup:=by
  have d:=h.nd;unfold AH at d;unfold List.Nodup at *;rw[uU] at *;refine wU (λ{a b} ha hb g e=>g ?_) d;exact Xn.2 λc k=>f.same a b c (h.onR a ha) (h.onR b hb) (h.onC c k) e
 have l:=MQ n _ m λx i=>by
  obtain⟨w,j,rfl⟩:=d8.1 i;exact f.lt w (h.onR w j)
 simpa using l
theorem Ti{L:W->Bool}{ls:List UInt8}{n:Nat}(f:Fin L ls n)(d:n<=12):∀(k:Nat) (t:AW),TOk L ls t->13<=k+t.rows.length->∃t',Bd L ls k t=some t'/\TOk L ls t'/\A7 L ls t'=none/\t.rows <+: t'.rows/\t'.cols=t.cols/\(A7 L ls t≠none->t.rows.length<t'.rows.length)
 | 0,t,h,hk=>by have:=h.pE f;omega
 | k+1,t,h,hk=>by
  unfold Bd
  cases a:A7 L ls t with
  | none=>exact⟨t,rfl,h,a,vQ _,rfl,λh=>absurd rfl h⟩
  | some w=>
   have b:=h.push a;have g:=b.pE f;simp only[uD,ut,wP]at g;simp only;rw[if_neg (show ¬t.rows.length=12 by omega)];obtain⟨t',m,l,j,c,i,_⟩:=Ti f d k _ b (by simp;omega);have e:t.rows <+: t'.rows:=List.IsPrefix.trans (wx _ _) c;refine⟨t',m,l,j,e,i,λ_=>?_⟩;have:=c.length_le;simp at this;omega
def Dh(L:W->Bool)(t:AW)(w:W):Nat:=(AH L t).idxOf (marks L t.cols w)
def runM(L:W->Bool)(t:AW):Nat->W->Nat
 | i,[]=>i
 | i,c::w=>runM L t (Dh L t ((t.rows.getD i [])++[c])) w
theorem XU(L:W->Bool)(t:AW):∀(u w:W) (i:Nat),runM L t i (u++w)=runM L t (runM L t i u) w
 | [],_,_=>rfl
 | c::u,w,i=>XU L t u w _
structure Cb (L:W->Bool) (ls:List UInt8) (t:AW):Prop extends TOk L ls t where
 cl:∀r∈t.rows,∀l∈ls,marks L t.cols (r++[l])∈AH L t
theorem Cb.idx{L:W->Bool}{ls:List UInt8}{t:AW}(h:Cb L ls t){i:Nat}{r:W}{l:UInt8}(hi:t.rows[i]?=some r)(b:l∈ls):∃r',t.rows[Dh L t (r++[l])]?=some r'/\marks L t.cols r'=marks L t.cols (r++[l]):=by
 have e:=h.cl r (ce hi) l b;have a:Dh L t (r++[l])<(AH L t).length:=uH.2 e;have d:(AH L t)[Dh L t (r++[l])]'a=marks L t.cols (r++[l]):=vV a
 have c:Dh L t (r++[l])<t.rows.length:=by simpa[AH]using a
 refine⟨t.rows[Dh L t (r++[l])],d5 c,?_⟩;rw[<-d];simp[AH]
theorem Cb.run{L:W->Bool}{ls:List UInt8}{t:AW}(h:Cb L ls t):∀(w:W) (i:Nat),Ax ls w->i<t.rows.length->runM L t i w<t.rows.length
 | [],_,_,hi=>hi
 | c::w,i,a,hi=>by
  have b:t.rows[i]?=some t.rows[i]:=d5 hi;obtain⟨_,f,_⟩:=h.idx b (a c (by simp))
  have e:t.rows.getD i []=t.rows[i]:=by simp[b]
  show runM L t (Dh L t (t.rows.getD i []++[c])) w<_
  rw[e];exact h.run w _ (λx d=>a x (by simp[d])) (am.1 f).1
def splitAt(L:W->Bool)(t:AW)(b:Bool):Nat->W->Option W
 | _,[]=>none
 | i,c::v=>if L (t.rows.getD (Dh L t ((t.rows.getD i [])++[c])) []++v)≠b then some v else splitAt L t b (Dh L t ((t.rows.getD i [])++[c])) v
theorem ea(L:W->Bool)(cols:List W)(v w:W):marks L (cols++[v]) w=marks L cols w++[TE (L (w++v))]:=by simp[marks]
theorem Cb.row{L:W->Bool}{ls:List UInt8}{t:AW}(h:Cb L ls t){i j:Nat}{r s:W}(hi:t.rows[i]?=some r)(f:t.rows[j]?=some s)(g:marks L t.cols r=marks L t.cols s):i=j:=by
 have c:(AH L t)[i]?=some (marks L t.cols r):=by simp[AH,hi]
 have b:(AH L t)[j]?=some (marks L t.cols r):=by simp[AH,f,g]
 have l1:=(am.1 c).1;have l2:=(am.1 b).1;have e:=(am.1 c).2;have d:=(am.1 b).2;have hp:=ro.1 h.nd
 rcases w6 i j with a|a|a
 .exact absurd (e.trans d.symm) (hp i j l1 l2 a)
 .exact a
 .exact absurd (d.trans e.symm) (hp j i l2 l1 a)
structure Split (L:W->Bool) (ls:List UInt8) (t:AW) (u v:W):Prop where
 suf:∃p,p≠[]/\u=p++v
 new:v∉t.cols
 opens:∃r∈t.rows,∃c∈ls,marks L (t.cols++[v]) (r++[c])∉AH L ⟨t.rows,t.cols++[v]⟩
theorem RH{L:W->Bool}{ls:List UInt8}{t:AW}(h:Cb L ls t)(b:Bool):∀(u:W) (i:Nat) (r:W),Ax ls u->t.rows[i]?=some r->L (r++u)=b->L (t.rows.getD (runM L t i u) [])≠b->∃v,splitAt L t b i u=some v/\Split L ls t u v
 | [],i,r,_,hi,hb,z=>by
  have a:t.rows.getD i []=r:=by simp[hi]
  rw[uv]at hb;exact absurd (by show L (t.rows.getD i [])=b;rw[a];exact hb) z
 | c :: v,i,r,A,hi,hb,z=>by
  have F:c∈ls:=A c (by simp)
  have j:t.rows.getD i []=r:=by simp[hi]
  obtain⟨r',a,G⟩:=h.idx hi F
  have g:t.rows.getD (Dh L t (r++[c])) []=r':=by simp[a]
  unfold splitAt;rw[j,g];by_cases k:L (r'++v)≠b
  .rw[if_pos k]
   have n:r++c::v=(r++[c])++v:=by simp
   have f:L ((r++[c])++v)≠L (r'++v):=by rw[<-n,hb];exact λe=>k e.symm
   refine⟨v,rfl,⟨[c],by simp,rfl⟩,λl=>f ((Xn.1 G v l).symm),r,ce hi,c,F,λl=>?_⟩;unfold AH at l;obtain⟨s,I,B⟩:=d8.1 l;simp only[ea]at B;obtain⟨S,R⟩:=List.append_inj' B rfl;obtain⟨q,J,o⟩:=um I
   have d:t.rows[q]?=some s:=by rw[d5 J,o]
   have:=h.row d a (S.trans G.symm);subst this;rw[d]at a
   injection a with a
   subst a
   have Q:TE (L (s++v))=TE (L (r++[c]++v)):=by simpa using R
   exact f (bK Q).symm
  .rw [if_neg k]
   have m:L (r'++v)=b:=by simpa using k
   have y:L (t.rows.getD (runM L t (Dh L t (r++[c])) v) [])≠b:=by
    have:runM L t i (c::v)=runM L t (Dh L t (r++[c])) v:=by show runM L t (Dh L t (t.rows.getD i []++[c])) v=_;rw[j]
    rwa[this]at z
   obtain⟨w,P,⟨p,hp,N⟩,M,K⟩:=RH h b v _ r' (λx H=>A x (by simp[H])) a m y;exact⟨w,P,⟨c::p,by simp,by rw[N];rfl⟩,M,K⟩
theorem lN{L:W->Bool}{ls:List UInt8}{t:AW}{r:W}{c:UInt8}(a:r∈t.rows)(d:c∈ls)(b:marks L t.cols (r++[c])∉AH L t):A7 L ls t≠none:=λh=>b (Hx h r a c d)
def Lm(L:W->Bool)(t:AW)(w:W):Bool:=L (t.rows.getD (runM L t 0 w) [])
def qC(L:W->Bool)(ls:List UInt8)(t:AW)(w:W):Option AW:=(splitAt L t (L w) 0 w).bind λv=>Bd L ls 13 ⟨t.rows,t.cols++[v]⟩
structure Next (L:W->Bool) (ls:List UInt8) (t:AW) (w v:W) (t':AW):Prop where
 split:splitAt L t (L w) 0 w=some v
 close:Bd L ls 13 ⟨t.rows,t.cols++[v]⟩=some t'
 next:qC L ls t w=some t'
 ok:Cb L ls t'
 cols:t'.cols=t.cols++[v]
 new:v∉t.cols
 suf:∃p,p≠[]/\w=p++v
 more:t.rows.length<t'.rows.length
 pre:t.rows <+: t'.rows
structure Wr (L:W->Bool) (ls:List UInt8) (wr:AW->Option W):Prop where
 on:∀t w,wr t=some w->Cb L ls t->Ax ls w/\Lm L t w≠L w
end Go.Am
namespace Go.Am
open Go
variable {TB:BB}
section
variable {P:Program}{Γ:Ctx}{d:Option Tmp}{ty:TypeId}{pos:String}{af:Array Edge}{g:Option (Nat×Bool)}{f:Env}{σ:Ac}{nx:Nat}
theorem Rm{t:TypeId}{z:List Value}{fl:List (Nat×Nat)}{parts:Array (Nat×Operand)}{es:List E}{qs:List (Nat×List C)}[X:BP P t z][Z:Ei P t fl](R:Jw f (parts.toList.map (·.2))=some es)(Y:Fk fl parts.toList es=some qs)
 (M:z.all RC=true) (N:(qs.all λx=>Nat.ble (x.1+x.2.length) z.length)=true):A5 P TB Γ ⟨d,.build t parts,ty,pos,af,g⟩ f σ nx (.a (Bl qs (z.map λv=>C.d (.v v)))):=
 AK λV ρ h1 _=>by
  obtain⟨i,zv,hi,A,s⟩:=Ie X.out;have Q:=Dx (V:=V) (ρ:=ρ) parts.toList es qs (λx J e he=>h1.get (by simp only[Op.operands];simpa using J) he) R Y
  have I:Df V (z.map λv=>C.d (.v v)) zv.cells:=by
   refine⟨by rw[io,<-s];simp,λj c v T S=>?_⟩;simp only[f9,d7]at T;obtain⟨u,k,rfl⟩:=T
   have:u=v:=by
    rw[<-s]at k;simp only[uT]at k;rw[k]at S;exact Option.some.inj S
   subst this;exact .d (.v (ge.1 M u (ce k)))
  obtain⟨cells,G,h4⟩:=Ho _ _ _ _ Q I (λx J=>by rw[io];exact JP _ _ N x J);have r:=Z.out
  have b:(parts.map λ(i,x)=>(i,ρ x)).toList=parts.toList.map λ(i,x)=>(i,ρ x):=by simp
  refine⟨.agg cells,?_,cells,rfl,h4⟩
  have hb : (Instr.build t (parts.map λ(i,x)=>(i,ρ x))).run P V.w=.ok (.agg cells) V.w:=by
   unfold qi at r;split at r
   .rename_i fs k
    have L:∀(l:List Field) (ll:List (Nat×Nat)),(l.mapM λf=>(P.info? f.type).map λi=>(f.offset,i.size))=some ll->∀w,((l.mapM λf=>do pure (f.offset,<-sizeOf f.type)):Sem (List (Nat×Nat))).run P w=.ok ll w:=by
     intro l
     induction l with
     | nil=>intro ll h w;simp at h;subst h;simp[go_sem]
     | cons y l H=>
      intro ll h w;simp only[wa,xn,pu,d7]at h;obtain⟨p,⟨ii,o,rfl⟩,ll',h5,U⟩:=h;simp at U;subst U
      have K:(sizeOf y.type).run P w=.ok ii.size w:=by simp[sizeOf,typeInfo,o,go_sem]
      have ihh:=H ll' h5 w;simp only[bind_pure_comp]at ihh;simp only[wa,pp,K,lw,bind_pure_comp,wz,ihh]
    have B:=L fs.toList fl r V.w
    have m:(zeroValue t).run P V.w=.ok zv V.w:=by simp[zeroValue,typeInfo,hi,A,go_sem]
    have ha:((fs.mapM λf=>do pure (f.offset,<-sizeOf f.type)):Sem (Array (Nat×Nat))).run P V.w=.ok fl.toArray V.w:=by
     rw[wO,wz,B];rfl
    rw[<-b]at G;simp only[Instr.build,pp,m,lw,run_underlying k,ha];simp only[u7];rw[G];rfl
   .rename_i n e k
    simp only[d7]at r;obtain⟨ii,o,rfl⟩:=r
    have m:(zeroValue t).run P V.w=.ok zv V.w:=by simp[zeroValue,typeInfo,hi,A,go_sem]
    have K:(sizeOf e).run P V.w=.ok ii.size V.w:=by simp[sizeOf,typeInfo,o,go_sem]
    have q:∀(ps:List (Nat×Value)) (c c':Array Value),Instr.fill (λi=>((List.range n).map λj=>(j*ii.size,ii.size))[i]?) c ps=some c'->Instr.fill (λi=>some (i*ii.size,ii.size)) c ps=some c':=by
     intro ps
     induction ps with
     | nil=>intro c c' h;simpa[Instr.fill]using h
     | cons p ps H=>
      intro c c' h;obtain⟨i',v'⟩:=p;unfold Instr.fill at h |-;by_cases F:i'<n
      .simp only [f9,wm F,uJ]at h
       simp only at h |-;split at h
       .cases h
       .rename_i hno
        rw[if_neg hno];exact H _ _ (by simpa only[f9]using h)
      .simp[F]at h
    rw[<-b]at G;simp only[Instr.build,pp,m,lw,run_underlying k,K];rw[q _ _ _ G];rfl
   .cases r
  show ((do let v <-Instr.build t (parts.map λ(i,x)=>(i,ρ x));pure (Go.Next.value v):Sem Go.Next)).run P V.w=_
  simp only[pp,hb,lw];rfl
end
theorem bN{P:Program}{Γ:Ctx}{o:Oper}{L:List (Nat×E)}{σ:Ac}{nx:Nat}{K:E->Ac->Nat->Prop}{b:Option Addr}(t:Tmp)(j:look L t=some (.o (.d (.v (.slice b 0 0)))))(h:CQ P TB Γ o (look ((t,.e)::L)) σ nx K):CQ P TB Γ o (look L) σ nx K:=by
 intro V a i l k;refine h V a ?_ l k;intro t' e' f c;rw[Ay]at c;by_cases g:t=t'
 .subst g
  rw[if_pos rfl]at c
  injection c with c
  subst c;exact⟨b,AD.val (i t _ f j)⟩
 .rw[if_neg g]at c
  exact i t' e' f c
theorem iZ{P:Program}{Γ:Ctx}{ops:Array Oper}{fl:Fl}{i n:Nat}{L:List (Nat×E)}{σ:Ac}{nx:Nat}{K:Env->Ac->Nat->Prop}{op:Op}{ty:TypeId}{pos:String}{af:Array Edge}{g:Option (Nat×Bool)}
 (h:CQ P TB Γ ⟨none,op,ty,pos,af,g⟩ (look L) σ nx (λ_ σ' nx'=>Kept (fl i-1000) σ σ'/\Lex P TB Γ ops (Ak fl (i+1) n) K (look L) σ' nx')) (b:Bx ops ⟨none,op,ty,pos,af,g⟩ (look L)=some true) (c:Nat.ble 10 (fl i)=true/\Nat.ble 1000 (fl i)=true):BC P TB Γ ops ⟨none,op,ty,pos,af,g⟩ fl i n K L σ nx:=
 λa=>bX a b c h
end Go.Am
namespace Go.Am
open Go
def NA(q:IntKind)(l:List Int):Value:=.agg (l.map (Value.int q)).toArray
abbrev tj(q:IntKind)(l:List Int):List C:=l.map λx=>.d (.v (.int q x))
abbrev lh(q:IntKind)(l:List Int):E:=.a (tj q l)
theorem bF{q:IntKind}{a b:List Int}:NA q a=NA q b↔a=b:=by
 unfold NA;constructor
 .intro h
  injection h with h
  have h:=congrArg Array.toList h;simp only at h;exact(List.map_inj_right (λx y h=>by injection h)).1 h
 .rintro rfl;rfl
theorem MC{V:View}{q:IntKind}{l:List Int}{v:Value}(h:Bh V (lh q l) v):v=NA q l:=by
 obtain⟨vs,rfl,f,e⟩:=h;unfold NA;congr 1;apply Array.ext
 .simpa using f
 .intro i c b
  have a:i<l.length:=by simpa using b
  have:=AD.val (e i (.d (.v (.int q l[i]))) vs[i] (by simp[d5 a]) (pm c));rw[this];simp
class Hf (P:Program) (t:TypeId) (n:outParam Nat) (q:outParam IntKind):Prop where
 u:∃e,WideMaps.ArrKey P t e n/\P.underlying e=some (.int q)
 eg:P.eqGuardType P.depth t=false
 sz:P.types.size≠0
section
variable {P:Program}{t:TypeId}{n:Nat}{q:IntKind}
theorem mapM_some{α β:Type}{f:α->Option β}:∀ {l:List α},(∀x∈l,∃y,f x=some y)->∃ys,l.mapM f=some ys
 | [],_=>⟨[],rfl⟩
 | x::l,h=>by
  obtain⟨y,c⟩:=h x (by simp);obtain⟨ys,a⟩:=mapM_some (l:=l) (λz b=>h z (by simp[b]));exact⟨y::ys,by rw[wa,c,a];rfl⟩
theorem Hf.key(h:Hf P t n q){l:List Int}(f:l.length=n)(g:∀x∈l,(Lit.int q x).wf=true):∃lx,keyOf P t (NA q l)=some lx:=by
 obtain⟨e,a,k⟩:=h.u;obtain⟨m,b⟩:=Nat.exists_eq_succ_of_ne_zero h.sz;have b:P.types.size=m+1:=b
 have w:∀i∈List.range n,∃y,P.keyLits (m+1) e ((((l.map (Value.int q)).toArray.toList).drop (i*P.cellsOf e)).take (P.cellsOf e))=some y:=λi hi=>by
  have hi:i<n:=mt.1 hi;rw[a.one,xQ]
  obtain⟨x,d⟩:∃x,l[i]?=some x:=⟨l[i],d5 (by omega)⟩
  have v:(((l.map (Value.int q)).toArray.toList).drop i).take 1=[Value.int q x]:=by
   have s:(l.map (Value.int q))[i]?=some (Value.int q x):=by simp[d]
   obtain⟨r,p⟩:=am.1 s;simp only;rw[vZ r,p];rfl
  rw[v];refine⟨[.int q x],?_⟩;unfold Program.keyLits;simp[k,g x (ce d)]
 obtain⟨ys,c⟩:=mapM_some w
 have o:P.keyLits (P.types.size+1) t (NA q l).cells.toList=some ys.flatten:=by
  rw[b]
  show P.keyLits (m+1+1) t (l.map (Value.int q)).toArray.toList=_
  unfold Program.keyLits;simp only[a.hu];rw[if_pos (by rw[a.size];simp[f])];rw[c];rfl
 have j:(NA q l).formed P t=true:=by simp[NA,Value.formed,a.hu,a.size,f]
 unfold keyOf;rw[a.hu];simp only;rw[if_pos (by rw[a.keyType ⟨m,b⟩,j];rfl),o];exact⟨_,rfl⟩
theorem Hf.law(h:Hf P t n q):WideMaps.KeyLaw P t:=by
 obtain⟨e,a,b⟩:=h.u;exact a.law
theorem Hf.run_eq(h:Hf P t n q){a b:List Int}(ha:a.length=n)(hb:b.length=n)(g:∀x∈a,(Lit.int q x).wf=true)(f:∀x∈b,(Lit.int q x).wf=true)(w:World):(Op.equal t (NA q a) (NA q b)).run P w=.ok (decide (a=b)) w:=by
 obtain⟨lx,d⟩:=h.key ha g;obtain⟨ly,c⟩:=h.key hb f;obtain⟨e,j,o⟩:=h.u;obtain⟨r,l,k⟩:=run_equal_deep w (m:=2) (by omega) (j.at 0) j.wide d c;rw[l];congr 1;rw[vw,k,decide_eq_true_eq];refine⟨λi=>bF.1 (h.law.inj d (by rw[i];exact c)),λi=>?_⟩;subst i;rw[d]at c;injection c
end
section
variable {P:Program}{TB:BB}{Γ:Ctx}{d:Option Tmp}{ty:TypeId}{pos:String}{af:Array Edge}{g:Option (Nat×Bool)}{f:Env}{σ:Ac}{nx:Nat}
variable {K:E->Ac->Nat->Prop}{t:TypeId}{n:Nat}{q:IntKind}
theorem MY{x y:Operand}{l:List Int}{k:IntKind}{i:Int}{v:Int}[h:Hf P t n q](o:ev f x=some (lh q l))(m:ev f y=some (eI k i))(G:l.length=n)(F:0<=i)(a:l[i.toNat]?=some v) :
 A5 P TB Γ ⟨d,.index t x y,ty,pos,af,g⟩ f σ nx (eI q v):=
 AK λV ρ j _=>by
  have B:=MC (j.get (by simp[Op.operands]) o);have A:ρ y=.int k i:=AD.val (j.get (by simp[Op.operands]) m);obtain⟨e,c,b⟩:=h.u;obtain⟨inf,hi⟩:=info_of_underlying b
  have z:inf.size=1:=by have:=c.one;simpa[Program.cellsOf,hi]using this
  have p:=(am.1 a).1
  have s:i<(n:Int):=by omega
  refine⟨.int q v,?_,.d (.v rfl)⟩
  have H:(l.map (Value.int q)).toArray[i.toNat]?=some (.int q v):=by simp[a]
  have r:(isAgg e).run P V.w=.ok false V.w:=by simp[isAgg,run_underlying b,go_sem]
  simp[execOp,B,A,NA,Instr.index,asIntOf,run_underlying c.hu,F,s,part,r,sizeOf,typeInfo,hi,z,a,go_sem]
theorem qM{yt:TypeId}{x y:Operand}{a b:List Int}[h:Hf P t n q](k:ev f x=some (lh q a))(j:ev f y=some (lh q b))(ha:a.length=n)(hb:b.length=n)(e:∀x∈a,(Lit.int q x).wf=true)(c:∀x∈b,(Lit.int q x).wf=true) :
 A5 P TB Γ ⟨d,.binOp .eql t x y yt,ty,pos,af,g⟩ f σ nx (eB (decide (a=b))):=
 AK λV ρ i _=>by
  have p:=MC (i.get (x:=x) (by simp[Op.operands]) k);have o:=MC (i.get (x:=y) (by simp[Op.operands]) j);refine⟨.bool (decide (a=b)),?_,.d (.v rfl)⟩;have m:binOp .eql t (NA q a) (NA q b)=(do pure (.bool (<-Op.equal t (NA q a) (NA q b)))):=rfl
  have l:(eqGuard .eql t x y (NA q a) (NA q b)).run P V.w=.ok () V.w:=by
   unfold eqGuard NA;simp[h.eg,go_sem]
  simp[execOp,p,o,m,l,h.run_eq ha hb e c V.w,go_sem]
def mapA(q:IntKind)(l:List (List Int×Int)):List (Value×Value):=l.map λp=>(NA q p.1,.int .i64 p.2)
def Ec:List (List Int×Int)->List Int->Option Int
 | [],_=>none
 | p::l,s=>if p.1=s then some p.2 else Ec l s
theorem Ja:∀ {l:List (List Int×Int)} {s:List Int},Ec l s=none↔∀p∈l,p.1≠s
 | [],s=>by simp[Ec]
 | p::l,s=>by
  unfold Ec;split
  .rename_i h;simp[h]
  .rename_i h;rw[Ja (l:=l)];simp[h]
theorem NS:∀ {l:List (List Int×Int)} {p:List Int×Int},l.Pairwise (λa b=>a.1≠b.1)->p∈l->Ec l p.1=some p.2
 | [],p,_,h=>by cases h
 | x :: l,p,c,h=>by
  unfold Ec
  rcases lc.1 h with rfl|h
  .rw[if_pos rfl]
  .rw[if_neg ((uI.1 c).1 p h)]
   exact NS (uI.1 c).2 h
def SY(n:Nat)(q:IntKind)(l:List (List Int×Int)):Prop:=∀p∈l,p.1.length=n/\∀x∈p.1,(Lit.int q x).wf=true
theorem Tn[h:Hf P t n q]{l:List (List Int×Int)}{es:List MapEntry}{s:List Int}(v:SY n q l)(g:es.map (λe=>(e.key,e.val))=mapA q l)(B:s.length=n)(A:∀x∈s,(Lit.int q x).wf=true)(F:l.Pairwise (λa b=>a.1≠b.1))(w:World) :
 ∃r,(Instr.findKey t (NA q s) es).run P w=.ok r w/\r.map (·.2)=(Ec l s).map (.int .i64):=by
 obtain⟨lx,z⟩:=h.key B A
 have d:∀e∈es,∃p∈l,e.key=NA q p.1/\e.val=.int .i64 p.2:=λe i=>by
  have:(e.key,e.val)∈mapA q l:=by rw[<-g];exact d8.2 ⟨e,i,rfl⟩
  obtain⟨p,f,c⟩:=d8.1 this
  injection c with c u
  exact⟨p,f,c.symm,u.symm⟩
 rcases h.law.find w z es (λe i=>by
  obtain⟨p,f,c,_⟩:=d e i
  rw[c];exact h.key (v p f).1 (v p f).2) with ⟨f,c⟩|⟨j,e,f,c,u⟩
 .refine⟨none,f,?_⟩
  have:Ec l s=none:=Ja.2 λp hp i=>by
   have o:(NA q p.1,Value.int .i64 p.2)∈es.map (λe=>(e.key,e.val)):=by rw[g];exact d8.2 ⟨p,hp,rfl⟩
   obtain⟨e,m,k⟩:=d8.1 o
   injection k with k y
   exact c e m (by rw[k,i])
  rw[this];rfl
 .refine⟨_,f,?_⟩
  obtain⟨p,o,m,k⟩:=d e (ce c);have y:p.1=s:=bF.1 (by rw[<-m,u]);rw[<-y,NS F o,k];rfl
theorem Qh[h:Hf P t n q]{s:List Int}(d:s.length=n)(c:∀x∈s,(Lit.int q x).wf=true)(b:Bool)(w:World):(Instr.checkKey b 10000 t (NA q s)).run P w=.ok () w:=by
 obtain⟨lx,a⟩:=h.key d c;exact h.law.check w b a
theorem cd{m e:TypeId}{x y:Operand}{id:Nat}{l:List (List Int×Int)}{s:List Int}[M:Fy P m t e][h:Hf P t n q][U:JE P e (.int .i64 0)](Y:ev f x=some (.o (.mp id)))(X:ev f y=some (lh q s))(Z:look σ id=some (.mp (mapA q l)))
 (hl:SY n q l) (hd:l.Pairwise (λa b=>a.1≠b.1)) (K:s.length=n) (J:∀x∈s,(Lit.int q x).wf=true) :
 A5 P TB Γ ⟨d,.lookup m x y true,ty,pos,af,g⟩ f σ nx (.t [(false,[.d (.v (.int .i64 ((Ec l s).getD 0)))]),(false,[.d (.v (.bool (Ec l s).isSome))])]):=
 AK λV ρ L hi=>by
  have T:=L.get (by simp[Op.operands]) Y;have S:ρ y=NA q s:=MC (L.get (by simp[Op.operands]) X);generalize c:ρ x=v at T
  cases T with
  | mp hid =>
   obtain⟨hn,ents,clock,R,h2⟩:=hi.st.obj id _ Z;obtain⟨r,z,B⟩:=Tn (P:=P) (t:=t) (es:=ents.toList) hl h2 K J hd V.w;have k:=U.out;simp only[pu]at k;obtain⟨i,H,G⟩:=k
   have F:(zeroValue e).run P V.w=.ok (.int .i64 0) V.w:=by simp[zeroValue,typeInfo,H,G,go_sem]
   have A:=Qh (P:=P) (t:=t) K J ents.isEmpty V.w;refine⟨.tuple #[.int .i64 ((Ec l s).getD 0),.bool (Ec l s).isSome],?_,⟨_,rfl,rfl,λj x v u c=>?_⟩⟩
   .cases r with
    | none=>
     have I:Ec l s=none:=by simpa using B.symm
     simp[execOp,c,S,Instr.lookup,run_underlying M.out,MapKept.run_getObj_map R,A,z,F,I,go_sem]
    | some p=>
     obtain⟨n,I,Q⟩:∃n,Ec l s=some n/\p.2=.int .i64 n:=by
      cases N:Ec l s with
      | none=>rw[N]at B;simp at B
      | some n=>rw[N]at B;exact⟨n,rfl,by simpa using B⟩
     obtain⟨q1,q2⟩:=p;simp only at Q;subst Q;simp[execOp,c,S,Instr.lookup,run_underlying M.out,MapKept.run_getObj_map R,A,z,I,go_sem]
   .match j with
    | 0=>simp at u c;subst u;subst c;exact⟨_,rfl,.d (.v rfl)⟩
    | 1=>simp at u c;subst u;subst c;exact⟨_,rfl,.d (.v rfl)⟩
    | j+2=>simp at u
theorem ot{m e:TypeId}{x y z:Operand}{id:Nat}{l:List (List Int×Int)}{s:List Int}{v:Int}[Z:Fy P m t e][h:Hf P t n q](T:ev f x=some (.o (.mp id)))(S:ev f y=some (lh q s))(R:ev f z=some (eI .i64 v))(J:look σ id=some (.mp (mapA q l)))
 (hl:SY n q l) (hd:l.Pairwise (λa b=>a.1≠b.1)) (I:s.length=n) (H:∀x∈s,(Lit.int q x).wf=true) (Y:Ec l s=none) (L:K (.t []) ((id,.mp (mapA q (l++[(s,v)])))::σ) nx):CQ P TB Γ ⟨d,.mapUpdate m x y z,ty,pos,af,g⟩ f σ nx K:=by
 intro V a c N h3;have c:=c.HK;unfold Oper.wp;generalize a.eval=ρ at c |-;have Q:=c.get (x:=x) (by simp[Op.operands]) T;have e2:ρ y=NA q s:=MC (c.get (by simp[Op.operands]) S);have e3:ρ z=.int .i64 v:=AD.val (c.get (by simp[Op.operands]) R);generalize U:ρ x=vx at Q
 cases Q with
 | mp hid=>
  obtain⟨p,ents,clock,G,F⟩:=N.st.obj id _ J;obtain⟨r,A,M⟩:=Tn (P:=P) (t:=t) (es:=ents.toList) hl F I H hd V.w;rw[Y]at M
  have X:r=none:=by cases r with
   | none=>rfl
   | some q=>simp at M
  subst X;have B:=Qh (P:=P) (t:=t) I H false V.w
  let ob:Obj:=.map (ents.push { key:=NA q s,val:=.int .i64 v,born:=clock }) (clock+1)
  let w':World:={ V.w with heap:=V.w.heap.setIfInBounds (V.ρ id) ob }
  have i:=MapKept.run_setObj_map (P:=P) ob G;have u:=(rt.1 G).1
  obtain⟨hi,he⟩:=N.write J p (w:=w') (ob':=.mp (mapA q (l++[(s,v)]))) rfl rfl rfl rfl rfl (by simp[w']) (λb hb=>by simp[w',vb,Ne.symm hb]) (by
   refine⟨p,ents.push { key:=NA q s,val:=.int .i64 v,born:=clock },clock+1,?_,?_⟩
   .show w'.heap[V.ρ id]?=some ob
    simp[w',vb,u]
   .simp[mapA]at F |-
    exact F)
  have k:(execOp ρ ⟨d,.mapUpdate m x y z,ty,pos,af,g⟩).run P V.w=.ok .skip w':=by
   simp[execOp,U,e2,e3,Instr.mapUpdate,run_underlying Z.out,MapKept.run_getObj_map G,B,A,i,ob,w',go_sem]
  rw[k];exact⟨{ V with w:=w' },.tuple #[],.t [],_,rfl,rfl,he,hi,⟨#[],rfl,rfl,λj x v hj=>by simp at hj⟩,by rw[<-h3]at L;exact L⟩
end
end Go.Am
namespace Go.Am
open Go
variable {P:Program}{TB:BB}{Γ:Ctx}{d:Option Tmp}{ty:TypeId}{pos:String}{af:Array Edge}{g:Option (Nat×Bool)}{f:Env}{σ:Ac}{nx:Nat}
variable {K:E->Ac->Nat->Prop}
def JX(l:List (Int×Int)):List (Value×Value):=l.map λp=>(.int .i64 p.1,.int .i64 p.2)
def HL(l:List (Int×Int))(s:Int):Option Int:=(l.find? λp=>decide (p.1=s)).map (·.2)
theorem NT{i64:IntKind}(s:Int):∀(l:List (Int×Int)) (es:List MapEntry) (i:Nat),es.map (λe=>(e.key,e.val))=JX l->∃r,Instr.findNow (.int i64) (.int .i64 s) es i=some r/\r.map (·.2)=(HL l s).map (.int .i64)
 | [],es,i,h=>by
  have:es=[]:=by simpa[JX]using h
  subst this;exact⟨none,rfl,rfl⟩
 | p :: l,es,i,h=>by
  cases es with
  | nil=>simp[JX]at h
  | cons e es=>
   simp only[JX,uS,List.cons.injEq,Prod.mk.injEq]at h;obtain⟨⟨hk,b⟩,d⟩:=h
   have c:Instr.sameNow (.int i64) (.int .i64 s) e.key=some (decide (s=p.1)):=by
    rw[hk]
    show (if IntKind.i64=IntKind.i64 then some (s == p.1) else none)=_
    rw[if_pos rfl];exact congrArg some (by rw[vw];simp)
   unfold Instr.findNow;rw[c];by_cases a:s=p.1
   .refine⟨some (i,e.val),by simp[a],?_⟩
    simp[HL,a,b]
   .obtain⟨r,j,g⟩:=NT (i64:=i64) s l es (i+1) d
    have f:¬p.1=s:=λe=>a e.symm;refine⟨r,by simp[a,j],?_⟩;rw[g];simp[HL,f]
theorem Th{k:TypeId}{q:IntKind}(hk:P.underlying k=some (.int q))(b:Bool)(s:Int)(w:World):(Instr.checkKey b 10000 k (.int q s)).run P w=.ok () w:=by
 rw[show 10000=9999+1 from rfl];unfold Instr.checkKey;simp[run_underlying hk,go_sem]
theorem cf{t k e:TypeId}{x y:Operand}{id:Nat}{l:List (Int×Int)}{s:Int}[G:Fy P t k e][hk:He P k .i64][M:JE P e (.int .i64 0)](Q:ev f x=some (.o (.mp id)))(N:ev f y=some (eI .i64 s))(R:look σ id=some (.mp (JX l))) :
 A5 P TB Γ ⟨d,.lookup t x y true,ty,pos,af,g⟩ f σ nx (.t [(false,[.d (.v (.int .i64 ((HL l s).getD 0)))]),(false,[.d (.v (.bool (HL l s).isSome))])]):=
 AK λV ρ F hi=>by
  have L:=F.get (by simp[Op.operands]) Q;have K:ρ y=.int .i64 s:=AD.val (F.get (by simp[Op.operands]) N);generalize a:ρ x=v at L
  cases L with
  | mp S =>
   obtain⟨Z,ents,clock,J,U⟩:=hi.st.obj id _ R;obtain⟨r,T,p⟩:=NT (i64:=.i64) s l ents.toList 0 U;have b:=M.out;simp only[pu]at b;obtain⟨i,A,z⟩:=b
   have u:(zeroValue e).run P V.w=.ok (.int .i64 0) V.w:=by simp[zeroValue,typeInfo,A,z,go_sem]
   have h:(Instr.findKey k (.int .i64 s) ents.toList).run P V.w=.ok r V.w:=by simp[Instr.findKey,run_underlying hk.out,T,go_sem]
   have m:=Th hk.out ents.isEmpty s V.w;refine⟨.tuple #[.int .i64 ((HL l s).getD 0),.bool (HL l s).isSome],?_,⟨_,rfl,rfl,λj x v c a=>?_⟩⟩
   .cases r with
    | none=>
     have B:HL l s=none:=by simpa using p.symm
     simp[execOp,a,K,Instr.lookup,run_underlying G.out,MapKept.run_getObj_map J,m,h,u,B,go_sem]
    | some q=>
     obtain⟨n,B,I⟩:∃n,HL l s=some n/\q.2=.int .i64 n:=by
      cases H:HL l s with
      | none=>rw[H]at p;simp at p
      | some n=>rw[H]at p;exact⟨n,rfl,by simpa using p⟩
     obtain⟨Y,X⟩:=q;simp only at I;subst I;simp[execOp,a,K,Instr.lookup,run_underlying G.out,MapKept.run_getObj_map J,m,h,B,go_sem]
   .match j with
    | 0=>simp at c a;subst c;subst a;exact⟨_,rfl,.d (.v rfl)⟩
    | 1=>simp at c a;subst c;subst a;exact⟨_,rfl,.d (.v rfl)⟩
    | j+2=>simp at c
theorem UO{t k e:TypeId}{x y z:Operand}{id:Nat}{l:List (Int×Int)}{s:Int}{n:Int}[U:Fy P t k e][hk:He P k .i64](Q:ev f x=some (.o (.mp id)))(N:ev f y=some (eI .i64 s))(M:ev f z=some (eI .i64 n))(G:look σ id=some (.mp (JX l)))
 (T:HL l s=none) (H:K (.t []) ((id,.mp (JX (l++[(s,n)])))::σ) nx):CQ P TB Γ ⟨d,.mapUpdate t x y z,ty,pos,af,g⟩ f σ nx K:=by
 intro V a c J h3;have c:=c.HK;unfold Oper.wp;generalize a.eval=ρ at c |-;have L:=c.get (x:=x) (by simp[Op.operands]) Q;have e2:ρ y=.int .i64 s:=AD.val (c.get (by simp[Op.operands]) N);have e3:ρ z=.int .i64 n:=AD.val (c.get (by simp[Op.operands]) M);generalize R:ρ x=v at L
 cases L with
 | mp Y=>
  obtain⟨m,ents,clock,F,B⟩:=J.st.obj id _ G;obtain⟨r,h6,I⟩:=NT (i64:=.i64) s l ents.toList 0 B;rw[T]at I
  have S:r=none:=by cases r with
   | none=>rfl
   | some q=>simp at I
  subst S
  have u:(Instr.findKey k (.int .i64 s) ents.toList).run P V.w=.ok none V.w:=by simp[Instr.findKey,run_underlying hk.out,h6,go_sem]
  have A:=Th hk.out false s V.w
  let ob:Obj:=.map (ents.push { key:=.int .i64 s,val:=.int .i64 n,born:=clock }) (clock+1)
  let w':World:={ V.w with heap:=V.w.heap.setIfInBounds (V.ρ id) ob }
  have h:=MapKept.run_setObj_map (P:=P) ob F;have p:=(rt.1 F).1
  obtain⟨hi,Z⟩:=J.write G m (w:=w') (ob':=.mp (JX (l++[(s,n)]))) rfl rfl rfl rfl rfl (by simp[w']) (λb hb=>by simp[w',vb,Ne.symm hb]) (by
   refine⟨m,ents.push { key:=.int .i64 s,val:=.int .i64 n,born:=clock },clock+1,?_,?_⟩
   .show w'.heap[V.ρ id]?=some ob
    simp[w',vb,p]
   .simp[JX]at B |-
    exact B)
  have i:(execOp ρ ⟨d,.mapUpdate t x y z,ty,pos,af,g⟩).run P V.w=.ok .skip w':=by
   simp[execOp,R,e2,e3,Instr.mapUpdate,run_underlying U.out,MapKept.run_getObj_map F,A,u,h,ob,w',go_sem]
  rw[i];exact⟨{ V with w:=w' },.tuple #[],.t [],_,rfl,rfl,Z,hi,⟨#[],rfl,rfl,λj x v X=>by simp at X⟩,by rw[<-h3]at H;exact H⟩
theorem iF{t:TypeId}{x y z:Operand}{K:E->Ac->Nat->Prop}(h:CQ P TB Γ ⟨d,.mapUpdate t x y z,ty,pos,af,g⟩ f σ nx K):CQ P TB Γ ⟨d,.insert t x y z,ty,pos,af,g⟩ f σ nx K:=λV a e c b=>h V a e c b
theorem XH{t k e:TypeId}{x y:Operand}{id:Nat}{l:List (Int×Int)}{s v:Int}[j:Fy P t k e][hk:He P k .i64][i:JE P e (.int .i64 0)](c:HL l s=some v)(b:ev f x=some (.o (.mp id)))(a:ev f y=some (eI .i64 s))(h:look σ id=some (.mp (JX l))) :
 A5 P TB Γ ⟨d,.lookup t x y true,ty,pos,af,g⟩ f σ nx (.t [(false,[.d (.v (.int .i64 v))]),(false,[.d (.v (.bool true))])]):=by
 have:=cf (P:=P) (TB:=TB) (Γ:=Γ) (d:=d) (ty:=ty) (pos:=pos) (af:=af) (g:=g) (nx:=nx) (t:=t) (k:=k) (e:=e) b a h;rw[c]at this;exact this
theorem XG{t k e:TypeId}{x y:Operand}{id:Nat}{l:List (Int×Int)}{s:Int}[j:Fy P t k e][hk:He P k .i64][i:JE P e (.int .i64 0)](c:HL l s=none)(b:ev f x=some (.o (.mp id)))(a:ev f y=some (eI .i64 s))(h:look σ id=some (.mp (JX l))) :
 A5 P TB Γ ⟨d,.lookup t x y true,ty,pos,af,g⟩ f σ nx (.t [(false,[.d (.v (.int .i64 0))]),(false,[.d (.v (.bool false))])]):=by
 have:=cf (P:=P) (TB:=TB) (Γ:=Γ) (d:=d) (ty:=ty) (pos:=pos) (af:=af) (g:=g) (nx:=nx) (t:=t) (k:=k) (e:=e) b a h;rw[c]at this;exact this
theorem Gy(l:List (Int×Int))(r:Nat->Nat):O.A6 r (.mp (JX l))=.mp (JX l):=rfl
def VK{α:Type}(u:List α):List (α×Int):=u.zipIdx.map λp=>(p.1,(p.2:Int))
theorem UM{α:Type}(u:List α)(x:α):VK (u++[x])=VK u++[(x,(u.length:Int))]:=by
 unfold VK;rw[List.zipIdx_append];simp
theorem QO{α:Type}[DecidableEq α](x:α):∀(u:List α) (k:Nat),(((u.zipIdx k).map λp=>(p.1,(p.2:Int))).find? λp=>decide (p.1=x)).map (·.2)=if x∈u then some ((k+u.idxOf x:Nat):Int) else none
 | [],k=>by simp
 | y :: u,k=>by
  rw[List.zipIdx_cons,uS,xM];by_cases h:y=x
  .subst h;simp
  .have b:=QO x u (k+1)
   have c:¬x=y:=λe=>h e.symm;simp only[h,decide_false];rw[b,xN];simp only[lc,c,false_or,beq_eq_false_iff_ne.2 h,cond_false];by_cases a:x∈u
   .rw[if_pos a,if_pos a];congr 2;omega
   .rw[if_neg a,if_neg a]
theorem Tm(u:List Int)(x:Int):HL (VK u) x=if x∈u then some ((u.idxOf x:Nat):Int) else none:=by
 have:=QO x u 0;rw[lm]at this;exact this
def sr{α:Type}[DecidableEq α](u:List α)(x:α):Nat:=u.idxOf x
def qj{α:Type}[DecidableEq α](u:List α)(x:α):Option Int:=if x∈u then some ((sr u x:Nat):Int) else none
theorem dF(u:List (List UInt8))(x:List UInt8):Cz (VK u) x=qj u x:=by
 have:=QO x u 0;rw[lm]at this;exact this
end Go.Am
namespace Go.Am
open Go
variable {P:Program}{TB:BB}{Γ:Ctx}{d:Option Tmp}{ty:TypeId}{pos:String}{af:Array Edge}{g:Option (Nat×Bool)}{f:Env}{σ:Ac}{nx:Nat}
theorem lW{t k e:TypeId}{x:Operand}{id:Nat}{l:List (Value×Value)}[j:Fy P t k e](b:ev f x=some (.o (.mp id)))(i:look σ id=some (.mp l)):A5 P TB Γ ⟨d,.call ⟨.builtin .len,#[x],#[t]⟩,ty,pos,af,g⟩ f σ nx (eI .i64 l.length):=
 AK λV ρ h hi=>by
  have a:=h.get (by simp[Op.operands,Call.operands]) b;generalize c:ρ x=v at a
  cases a with
  | mp m=>
   obtain⟨r,ents,clock,q,p⟩:=hi.st.obj id _ i;refine⟨.int .i64 l.length,?_,.d (.v rfl)⟩
   have n:ents.size=l.length:=by rw[<-p];simp
   simp[execOp,resolve,invoke,builtin,c,Builtin.len_,run_underlying j.out,MapKept.run_getObj_map q,goInt,n,go_sem]
theorem ig(u:List (List UInt8)):(GM (VK u)).length=u.length:=by simp[GM,VK]
theorem Vl{t k e:TypeId}{x:Operand}{id:Nat}{u:List (List UInt8)}[c:Fy P t k e](a:ev f x=some (.o (.mp id)))(b:look σ id=some (.mp (GM (VK u)))):A5 P TB Γ ⟨d,.call ⟨.builtin .len,#[x],#[t]⟩,ty,pos,af,g⟩ f σ nx (eI .i64 u.length):=by
 have:=lW (P:=P) (TB:=TB) (Γ:=Γ) (d:=d) (ty:=ty) (pos:=pos) (af:=af) (g:=g) (nx:=nx) (t:=t) (k:=k) (e:=e) a b;rwa[ig]at this
theorem js{t k e:TypeId}{x y:Operand}{id:Nat}{l:List (List UInt8×Int)}{s:List UInt8}{v:Int}[j:Fy P t k e][hk:De P k][i:JE P e (.int .i64 0)](c:Cz l s=some v)(b:ev f x=some (.o (.mp id)))(a:ev f y=some (eT s))(h:look σ id=some (.mp (GM l))) :
 A5 P TB Γ ⟨d,.lookup t x y true,ty,pos,af,g⟩ f σ nx (.t [(false,[.d (.v (.int .i64 v))]),(false,[.d (.v (.bool true))])]):=by
 have:=Vn (P:=P) (TB:=TB) (Γ:=Γ) (d:=d) (ty:=ty) (pos:=pos) (af:=af) (g:=g) (nx:=nx) (t:=t) (k:=k) (e:=e) b a h;rw[c]at this;exact this
theorem jr{t k e:TypeId}{x y:Operand}{id:Nat}{l:List (List UInt8×Int)}{s:List UInt8}[j:Fy P t k e][hk:De P k][i:JE P e (.int .i64 0)](c:Cz l s=none)(b:ev f x=some (.o (.mp id)))(a:ev f y=some (eT s))(h:look σ id=some (.mp (GM l))) :
 A5 P TB Γ ⟨d,.lookup t x y true,ty,pos,af,g⟩ f σ nx (.t [(false,[.d (.v (.int .i64 0))]),(false,[.d (.v (.bool false))])]):=by
 have:=Vn (P:=P) (TB:=TB) (Γ:=Γ) (d:=d) (ty:=ty) (pos:=pos) (af:=af) (g:=g) (nx:=nx) (t:=t) (k:=k) (e:=e) b a h;rw[c]at this;exact this
end Go.Am
namespace Go.Am
open Go Go.ChangeShapes Go.WideShapes Go.RowKit
def below(w:World)(b:Nat):Prop:=b<w.heap.size
def Rd{α:Type}(P:Program)(w:World)(t:TypeId)(k:Nat)(f:α->List D):Prop:=
 ∀ {H:Type} (enc:TypeId×Value->H) (fuel:Nat) (cs:List Value) (x:DataW H×List MemPlace),DataW.trod enc P w 0 (λ_=>true) true fuel t cs=some x->
  ∃y:α,cs.length=k/\(f y).length=k/\∀(j:Nat) c d,cs[j]?=some c->(f y)[j]?=some d->Dn (below w) w d c
section
variable {P:Program}{w:World}{t e:TypeId}{k:Nat}
theorem MT{f:Value}{e:D}(h:Dn (below w) w e f):∀(j:Nat) c d,[f][j]?=some c->[e][j]?=some d->Dn (below w) w d c:=by
 intro j c d a b
 match j with
 | 0=>simp at a b;subst a;subst b;exact h
 | j+1=>simp at a
theorem tt(ht:P.underlying t=some (.int .u8)):Rd P w t 1 (λn:UInt8=>[.v (.int .u8 n.toNat)]):=λenc fuel cs x a=>by
 obtain⟨n,rfl,_,b⟩:=DataW.trod_int ht a;have hb:=bounds_u8 b;refine⟨UInt8.ofNat n.toNat,rfl,rfl,MT ?_⟩
 have:((UInt8.ofNat n.toNat).toNat:Int)=n:=by
  simp;omega
 rw[this];exact .v rfl
theorem Tg{a:Addr}{n:Nat}{cs:List Value}(h:w.cells? 0 a n=some cs):cs.length=n/\∀(j:Nat) c,cs[j]?=some c->w.cell? (a.add j)=some c:=by
 unfold World.cells? at h;rw[if_pos (uL _)]at h;have b:=mapM_some_length h;simp at b;refine⟨b,λj c d=>?_⟩;have e:=(am.1 d).1;have:=mapM_some_get h j j (by rw[wm (by omega)]);rw[this];exact d
theorem q9{α:Type}{f:α->List D}(ht:P.underlying t=some (.slice e))(hk:P.cellsOf e=k)(h0:0<k)(hf:Rd P w e k f):Rd P w t 1 (λl:List α=>[.l (l.map f)]):=λenc fuel cs x Z=>by
 rcases DataW.trod_slice ht Z with ⟨rfl,_⟩|⟨a,len,cap,elems,rest,n,rfl,rfl,_,_,Q,I,hel,q,_,_⟩
 .exact⟨[],rfl,rfl,MT .nil⟩
 .rw [hk]at q
  rcases uP len with A|A
  .subst A
   exact⟨[],rfl,rfl,MT (.e I)⟩
  have key:∀i,i<len->∃(y:α) (cs:List Value),w.cells? 0 (a.add (i*k)) k=some cs/\cs.length=k/\(f y).length=k/\∀(j:Nat) c d,cs[j]?=some c->(f y)[j]?=some d->Dn (below w) w d c:=by
   intro i hi;have F:=q i hi
   have R:i<elems.length:=by omega
   rw[d5 R]at F;simp only[pu]at F;obtain⟨cs,B,h3⟩:=F;obtain⟨y,L,K,U⟩:=hf enc n cs _ h3;exact⟨y,cs,B,L,K,U⟩
  obtain⟨b,o,rfl,hb⟩:∃b o,a=⟨b,o,none⟩/\b<w.heap.size:=by
   obtain⟨y,cs,B,L,_,_⟩:=key 0 A;have p:=(Tg B).2 0 (cs[0]'(by omega)) (by simp);rw[vB]at p
   have X:∀a:Addr,a.add 0=a:=λa=>by simp[Addr.add]
   rw[X,X]at p;unfold World.cell? at p;obtain⟨b,o,sp⟩:=a;split at p
   .rename_i c _ _ hh
    split at p
    .cases p
    .rename_i hs
     cases sp with
     | none=>exact⟨b,o,rfl,(rt.1 hh).1⟩
     | some s=>simp at hs
   .cases p
  have v:∀m,m<=len->∃l:List α,l.length=m/\∀(i:Nat) y,l[i]?=some y->(f y).length=k/\∀(j:Nat) d,(f y)[j]?=some d->∃c,w.cell? ⟨b,o+i*k+j,none⟩=some c/\Dn (below w) w d c:=by
   intro m
   induction m with
   | zero=>intro _;exact⟨[],rfl,λi y h=>by simp at h⟩
   | succ m Y=>
    intro hm;obtain⟨l,G,g⟩:=Y (by omega);obtain⟨y,cs,B,L,K,U⟩:=key m (by omega);refine⟨l++[y],by simp[G],λi z u=>?_⟩;by_cases hi:i<l.length
    .rw[gc hi]at u;exact g i z u
    .rw [i7 (by omega)]at u
     have S:i=m:=by
      have:=(am.1 u).1;simp at this;omega
     subst S;rw[G,Nat.sub_self]at u;simp at u;subst u;refine⟨K,λj d V=>?_⟩
     have H:j<cs.length:=by rw[L,<-K];exact(am.1 V).1
     have p:=(Tg B).2 j cs[j] (d5 H);rw[BG,BG]at p;exact⟨cs[j],p,U j _ d (d5 H) V⟩
  obtain⟨l,G,g⟩:=v len (jp _);refine⟨l,rfl,rfl,MT ?_⟩
  have N:(l.map f).length=len:=by simp[G]
  rw[<-N];refine .l (b:=b) (o:=o) (k:=k) (vs:=λi j=>(w.cell? ⟨b,o+i*k+j,none⟩).getD undef) hb (by simpa[G]using Q) I (λi r J=>?_) (λi r j d J T=>?_) (λi r j d J T=>?_)
  all_goals
   rw[f9,d7]at J;obtain⟨y,M,rfl⟩:=J
  .exact(g i y M).1
  .obtain⟨c,F,_⟩:=(g i y M).2 j d T
   rw[F];rfl
  .obtain⟨c,F,B⟩:=(g i y M).2 j d T
   rw[F];exact B
end
def bh(w:World):View:=⟨below w,id,λ_=>0,λ_=>True,0,w⟩
section
variable {P:Program}{w:World}{t:TypeId}{k:Nat}{H:Type}{enc:TypeId×Value->H}
theorem pY{α:Type}{f:α->List D}{e:TypeId}(ht:P.underlying t=some (.slice e))(h:Rd P w t 1 (λl:List α=>[.l (l.map f)])){v:Value}{d:DataW H}{ps:List MemPlace}{base:Nat}(a:Value.okWide P w .any base t v)(g:DataW.Trod enc P w 0 (λ_=>true) true t v d ps) :
 ∃l:List α,Bh (bh w) (.o (.d (.l (l.map f)))) v:=by
 obtain⟨m,c⟩:=g;obtain⟨l,j,i,b⟩:=h enc m _ _ c;refine⟨l,?_⟩
 have:v.cells.toList=[v]:=by
  unfold Value.okWide Cell.okWide Cell.ok at a;simp only[ht]at a;split at a<;>simp_all[Value.cells]
 rw[this]at b;exact .d (b 0 v _ rfl rfl)
structure IX (W W':World):Prop where
 os:W'.os=W.os
 output:W'.output=W.output
 size:W.heap.size<=W'.heap.size
 old:∀b,b<W.heap.size->W'.heap[b]?=W.heap[b]?
theorem IX.sameAt{W W':World}(h:IX W W'){p:MemPlace}(hp:p.block<W.heap.size):W.sameAt W' p:=by
 cases p with
 | cell b off=>show W'.cell? _=W.cell? _;simp only[World.cell?,h.old b hp]
 | map b=>exact h.old b hp
theorem IX.kept{W W':World}(h:IX W W')(may:MemPlace->Prop):W.keptBut W' may:=by
 refine⟨h.os,h.output,λi hi=>?_⟩;rw[h.old i hi];split
 .rename_i d a
  rw[d]at a
  injection a with a;injection a with b c e
  exact⟨c.symm,e.symm,by rw[b],λj _=>by rw[b]⟩
 .rename_i d a
  rw[d]at a
  injection a with a;injection a with b c
  exact .inr ⟨b.symm,c.symm⟩
 .rfl
theorem Nq{W W':World}(c:laidOutB P=true)(h:IX W W'){sp:Nat->Bool}:∀ {ts:List TypeId} {vs:List Value} {ds:List (DataW H)} {ps:List MemPlace},(ts.all λt=>P.readableRec t && decide (t<P.types.size))=true->
 DataW.TrodAll enc P W 0 (λ_=>true) true ts vs ds ps->(∀p∈ps,p.block<W.heap.size)->(∀p∈ps,sp p.block=true)->DataW.TrodAll enc P W' 0 sp true ts vs ds ps
 | [],vs,ds,ps,_,b,_,_=>by obtain⟨rfl,rfl,rfl⟩:=trodAll_nil b;exact rfl
 | t::ts,vs,ds,ps,ha,b,f,e=>by
  obtain⟨v,vs',d,ds',p,q,rfl,rfl,rfl,i,g⟩:=trodAll_cons b;simp only[List.all_cons,d4,decide_eq_true_eq]at ha;refine⟨p,q,Go.WideElems.Trod_stays c ha.1.1 ha.1.2 i (λx a=>h.sameAt (f x (rx _ a))) (λx a=>e x (rx _ a)),Nq c h (by simpa using ha.2) g (λx a=>f x (ur _ a)) (λx a=>e x (ur _ a)),rfl⟩
theorem pI{f:Func}{s:ChangeSpec}{again:Bool}{W W':World}{args:Array Value}{ds gs:List (DataW H)}{before:List MemPlace}{tb:TypeId}(B:laidOutB P=true)(l:(f.params.toList.all λt=>P.readableRec t && decide (t<P.types.size))=true)
 (u:DataW.Whole enc P f.params.toList s.vars false W args.toList ds gs before) (n:IX W W') (v:s.vars=[]) (w:f.resultTypes = #[tb]) (i:P.underlying tb=some .bool) (e:(Value.bool true).resultList 1=[.bool true])
 (h:s.fn H (ds++gs) = { results:=[.lit (.bool true)],args:=ds }):s.post enc P f false true false again W args (.bool true) W':=by
 have g:=u.lt;have r:=u;obtain⟨p,q,F,z,y,A,J⟩:=u;rw[v]at z;obtain⟨rfl,rfl⟩:=trodVars_none z;rw[uv]at y;subst y
 have d:∀(b:Nat) (sp:Nat->Bool) (o:Bool),DataW.TrodAll enc P W' b sp o f.resultTypes.toList ((Value.bool true).resultList f.resultTypes.size) (s.fn H (ds++[])).results []:=λb sp o=>by
  rw[w,h]
  show DataW.TrodAll enc P W' b sp o [tb] ((Value.bool true).resultList 1) [.lit (.bool true)] []
  rw[e];exact trodAll_mk1 (RowKit.shut_bool i true)
 have c:∀sp:Nat->Bool,(∀x∈before,sp x.block=true)->DataW.TrodAll enc P W' 0 sp true f.params.toList args.toList (s.fn H (ds++[])).args before:=λsp m=>by
  rw[h];exact Nq B n l F g m
 have a:∀sp:Nat->Bool,DataW.TrodVars enc P W' sp s.vars (s.fn H (ds++[])).vars []:=λsp=>by
  rw[v,h];exact rfl
 refine⟨ds,[],before,[],before,[],r,d _ _ _,c _ λx k=>by simpa using g x k,a _,n.kept _,λ_=>?_⟩;refine⟨ok_one w e (okWide_bool_mk i true),_,_,([]++before)++[],⟨[]++before,[],trodAll_append (c _ (λ_ _=>rfl)) (d _ _ _),a _,rfl,?_,λha=>by cases ha⟩,λx k _=>by simpa using k⟩;intro b off hp
 have j:MemPlace.cell b off∈before:=by simpa using hp
 have I:=A b off j;have G:b<W.heap.size:=g _ j
 simpa[World.frozen?,n.old b G]using I
end
end Go.Am
