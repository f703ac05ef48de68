/-
  A struct's literal with a slice of the call's own; results in memory.
-/
import Derived.Test.YtgpbfllcjdfelaaGreatDoorPart10
set_option linter.all false
namespace Go.Am
open Go
section
variable {P:Program}{TB:Bg}{Z:Ctx}{d:Option Tmp}{ty:TypeId}{pos:String}{af:Array Edge}{g:Option (Nat×Bool)}{f:Env}{σ:Ab}{nx:Nat}
variable {K:E->Ab->Nat->Prop}
theorem run_build{t:TypeId}{fl:List (Nat×Nat)}{parts:Array (Nat×Operand)}{X:Operand->Value}{V:View}{i:TypeInfo}{zv:Value}{cells:Array Value}(hi:P.info? t=some i)(m:i.zero=some zv)(k:Zb P t=some fl)
 (r:Instr.fill (fl[·]?) zv.cells (parts.toList.map λ(i,x)=>(i,X x))=some cells):(Instr.build t (parts.map λ(i,x)=>(i,X x))).run P V.w=.ok (.agg cells) V.w:=by
 have a:(parts.map λ(i,x)=>(i,X x)).toList=parts.toList.map λ(i,x)=>(i,X x):=by simp
 unfold Zb at k;split at k
 ·rename_i fs u
  have z:∀(l:List Field) (ll:List (Nat×Nat)),(l.mapM λf=>(P.info? f.type).map λi=>(f.offset,i.size))=some ll->∀w,((l.mapM λf=>do pure (f.offset,<-sizeOf f.type)):Sem (List (Nat×Nat))).run P w=.ok ll w:=by
   intro l
   induction l with
   | nil=>intro ll h w;simp at h;subst h;simp [go_sem]
   | cons y l s=>
    intro ll h w;simp only [ew,Option.bind_eq_bind,bR,br] at h;obtain⟨p,⟨ii,d,rfl⟩,ll',B,A⟩:=h;simp at A;subst A
    have v:(sizeOf y.type).run P w=.ok ii.size w:=by simp [sizeOf,typeInfo,d,go_sem]
    have ihh:=s ll' B w;simp only [bind_pure_comp] at ihh;simp only [ew,bV,v,bQ,bind_pure_comp,ea,ihh]
  have o:=z fs.toList fl k V.w
  have b:(zeroValue t).run P V.w=.ok zv V.w:=by simp [zeroValue,typeInfo,hi,m,go_sem]
  have ha:((fs.mapM λf=>do pure (f.offset,<-sizeOf f.type)):Sem (Array (Nat×Nat))).run P V.w=.ok fl.toArray V.w:=by
   rw [Array.mapM_eq_mapM_toList,ea,o];rfl
  rw [<-a] at r;simp only [Instr.build,bV,b,bQ,run_underlying u,ha];simp only [dm];rw [r];rfl
 ·rename_i n e u
  simp only [br] at k;obtain⟨ii,d,rfl⟩:=k
  have b:(zeroValue t).run P V.w=.ok zv V.w:=by simp [zeroValue,typeInfo,hi,m,go_sem]
  have v:(sizeOf e).run P V.w=.ok ii.size V.w:=by simp [sizeOf,typeInfo,d,go_sem]
  have g:∀(ps:List (Nat×Value)) (c c':Array Value),Instr.fill (λi=>((List.range n).map λj=>(j*ii.size,ii.size))[i]?) c ps=some c'->Instr.fill (λi=>some (i*ii.size,ii.size)) c ps=some c':=by
   intro ps
   induction ps with
   | nil=>intro c c' h;simpa [Instr.fill] using h
   | cons p ps s=>
    intro c c' h;obtain⟨i',v'⟩:=p;unfold Instr.fill at h |-;by_cases q:i' < n
    ·simp only [bG,dR q,dA] at h
     simp only at h |-;split at h
     ·cases h
     ·rename_i hno
      rw [if_neg hno];exact s _ _ (by simpa only [bG] using h)
    ·simp [q] at h
  rw [<-a] at r;simp only [Instr.build,bV,b,bQ,run_underlying u,v];rw [g _ _ _ r];rfl
 ·cases k
end
section
variable {P:Program}{TB:Bg}
def Xs(t:Tmp)(ids:List Nat)(post:E->Ab->Nat->Prop):Exit->Env->Ab->Nat->Prop
 | .ret,f,σ,nx|.normal,f,σ,nx=>∃id k i T rows r x,f t=some (.o (.ptr id k i 0))/\look σ id=some (.cells T k rows)/\rows[i]? = some r/\FE σ ids (.a r) x/\post x (Bt ids σ) nx
 | _,_,_,_=>False
theorem TP{fn:Func}{V:View}{Z:Ctx}{f:Env}{a:Act}{σ:Ab}{t:Tmp}{T':TypeId}{n:Nat}{id k i:Nat}{T:TypeId}{rows:List (List C)}{r:List C}[A:Dl P T' true n](H:n=k)(s:fn.results = #[.cell t T'])(J:CP V f a.tmps)(hi:Inv TB Z V σ)(ht:f t=some (.o (.ptr id k i 0)))(G:look σ id=some (.cells T k rows))(z:rows[i]? = some r) :
 ∃v,(results fn a.tmps).run P V.w=.ok v V.w/\A1 V (.a r) v:=by
 have F:=J t _ ht;subst H
 have e:∀w,(results fn a.tmps).run P w=((do loadVar T' (<-asAddr (a.tmps.getD t undef))):Sem Value).run P w:=λw=>by
  simp [results,s,-Array.getD_eq_getD_getElem?,go_sem]
 generalize N:a.tmps.getD t undef=M at F e
 cases F with
 | ptr I x=>
  rcases hi.st.obj id _ G with ⟨y,_⟩|⟨_,cur,y,S,R,Q,L,K⟩
  ·exact absurd y x
  ·have u:=L r (bm z)
   rw [em] at e
   have g:∀q,q < n->∃v,cur[i*n+q]? = some v/\AA V (r[q]?.getD (.d (.l []))) v:=λq j=>by
    have m:q < r.length:=by omega
    obtain⟨v,b,h⟩:=K i r q r[q] z (bt m);exact⟨v,b,by rw [bt m];exact h⟩
   refine⟨.agg ((List.range n).map λq=>cur.getD (i*n+q) undef).toArray,?_,_,rfl,by simp [u],?_⟩
   ·have:(loadCells ⟨V.X id,i*n,none⟩ n).run P V.w=.ok ((List.range n).map λq=>cur.getD (i*n+q) undef).toArray V.w:=run_loadCells V.w _ n _ λq j=>by
     rw [Bi];obtain⟨v,b,_⟩:=g q j
     have:cur.getD (i*n+q) undef=v:=by simp [b]
     rw [this];simp [World.cell?,y,b]
    unfold loadCells at this;rw [e];simp [asAddr,loadVar,(Be A.out V.w).1,(Be A.out V.w).2,this,go_sem]
   ·intro q c v B p
    have j:q < n:=by have:=(am.1 B).1;omega
    obtain⟨v',b,h⟩:=g q j;rw [B] at h
    have:v=v':=by simpa [j,b] using p.symm
    rw [this];exact h
theorem Uw{V:View}{Z:Ctx}{σ:Ab}(hi:Inv TB Z V σ)(ids:List Nat):Inv TB Z (He V σ ids) (Bt ids σ):=by
 have h:Bv TB Z 0 V (λ_=>none) σ V.nx { tmps:=#[],defers:=[] } := ⟨λt e h=>(by cases h),λt e h=>(by cases h),rfl,hi,rfl,rfl⟩
 exact(h.freeze ids [] trivial).inv
theorem Spec.aW {g:FuncId} {fn:Func} {c:Code} {σ:Ab} {nx:Nat} {args:List E} {post:E->Ab->Nat->Prop} (t:Tmp) (T':TypeId) (n:Nat) (ids:List Nat) [L:Dl P T' true n] (B:P.funcs[g]? = some fn) (hb:fn.body=some c) (j:(fn.name == "runtime.NumGoroutine")=false) (u:fn.results = #[.cell t T'])
 (p:args.length<=fn.ntmps) (h:∀Z:Ctx,Z.V.nx=nx->Al P TB Z fn.ntmps c (λe f σ nx=>Xs t ids post e f σ nx/\∀id k i,f t=some (.o (.ptr id k i 0))->k=n) (look (Br 0 args)) σ nx):Spec P TB g σ nx args post:=by
 refine⟨⟨fn,B,j,by rw [hb];rfl⟩,?_⟩;intro V vs S z ha;refine calls_of_wp B hb ?_
 have K:vs.size<=fn.ntmps:=by rw [ha.1];exact p
 have H:Bv TB (Dj V V σ S) fn.ntmps V (look (Br 0 args)) σ nx { tmps:=vs++Array.replicate (fn.ntmps - vs.size) undef,defers:=[] } := by
  refine⟨?_,?_,by simp;omega,z.inv,z.nx,rfl⟩
  ·intro t e s
   obtain⟨_,d⟩:=Bn args 0 t e s
   have d:args[t]? = some e:=by simpa using d
   have m:t < vs.size:=by rw [ha.1];exact(am.1 d).1
   have A:=ha.2 t e vs[t] d (bP m)
   simpa [bU m,m] using A
  ·intro t e s
   obtain⟨_,d⟩:=Bn args 0 t e s
   have d:args[t]? = some e:=by simpa using d
   have:=(am.1 d).1;omega
 refine wp_mono (h (Dj V V σ S) z.nx V _ H) ?_;rintro e a' w' ⟨V',f',σ',rfl,⟨q,y⟩,b⟩
 have fin:(∃id k i T rows r x,f' t=some (.o (.ptr id k i 0))/\look σ' id=some (.cells T k rows)/\rows[i]? = some r/\FE σ' ids (.a r) x/\post x (Bt ids σ') V'.nx)->∃v,(results fn a'.tmps).run P V'.w=.ok v V'.w/\∃V'' v' x σ'',Ending.returned v=.returned v'/\V''.w=V'.w/\Inv TB (Dj V V σ S) V'' σ''/\A1 V'' x v'/\post x σ'' V''.nx:=by
  rintro⟨id,k,i,T,rows,r,x,F,d,A,J,I⟩;obtain⟨v,G,s⟩:=TP (P:=P) (y id k i F).symm u b.env b.inv F d A;exact⟨v,G,He V' σ' ids,v,x,_,rfl,rfl,Uw b.inv ids,J.rel b.inv s,I⟩
 cases e with
 | normal=>exact⟨b.defers,fin q⟩
 | ret=>exact⟨b.defers,fin q⟩
 | exit id=>exact q.elim
 | goto l=>exact q.elim
 | panic ch=>exact q.elim
 | outgrown=>exact q.elim
end
end Go.Am
namespace Go.Am.R
open Go
structure Bq where
 f:Env
 σ:Ab
 nx:Nat
 pd:Nat->Option (TypeId×List Value)
def Bq.put(S:Bq)(d:Option Tmp)(x:E):Bq:=⟨Bj S.f d x,S.σ,S.nx,λt=>if d=some t then none else S.pd t⟩
def Bq.ES(S:Bq)(d:Tmp)(q:TypeId×List Value):Bq:=⟨S.f,S.σ,S.nx,λt=>if t=d then some q else S.pd t⟩
def Bq.ad(S:Bq)(d:Tmp)(T:TypeId)(z:List Value):Bq:=⟨Bj S.f (some d) (.o (.ptr S.nx z.length 0 0)),(S.nx,.cells T z.length [z.map zC])::S.σ,S.nx+1,λt=>if t=d then none else S.pd t⟩
theorem Bq.put_comm(S:Bq){d d':Option Tmp}{x y:E}(h:∀t,d=some t->d'≠some t):(S.put d x).put d' y=(S.put d' y).put d x:=by
 unfold Bq.put;rw [Iw h];congr 1;funext t;simp only;split<;>split<;>rfl
theorem Bq.Ot(S:Bq){d':Option Tmp}{d:Tmp}{q:TypeId×List Value}{y:E}(h:d'≠some d):(S.put d' y).ES d q=(S.ES d q).put d' y:=by
 unfold Bq.put Bq.ES;simp only [Bq.mk.injEq,true_and];funext t;by_cases e:t=d
 ·subst e;simp [h]
 ·simp [e]
theorem Bq.RH(S:Bq){d d':Tmp}{q q':TypeId×List Value}(h:d≠d'):(S.ES d q).ES d' q'=(S.ES d' q').ES d q:=by
 unfold Bq.ES;simp only [Bq.mk.injEq,true_and];funext t;by_cases e:t=d
 ·subst e;simp [h]
 ·simp [e]
theorem Bq.VB(S:Bq){d':Option Tmp}{d:Tmp}{T:TypeId}{z:List Value}{y:E}(h:d'≠some d):(S.put d' y).ad d T z=(S.ad d T z).put d' y:=by
 unfold Bq.put Bq.ad;simp only;rw [Iw (d:=d') (d':=some d) (λt ht e=>h (by rw [ht,e]))];congr 1;funext t;by_cases e:t=d
 ·subst e;simp
 ·simp [e]
theorem Bq.Un(S:Bq){d' d:Tmp}{T:TypeId}{z:List Value}{q:TypeId×List Value}(h:d'≠d):(S.ES d' q).ad d T z=(S.ad d T z).ES d' q:=by
 unfold Bq.ES Bq.ad;simp only [Bq.mk.injEq,true_and];funext t;by_cases e:t=d
 ·subst e;simp [Ne.symm h]
 ·simp [e]
section
variable (P:Program)(TB:Bg)(ops:Array Oper)
def QC(c:Nat)(o:Oper)(S:Bq)(x:E):Prop:=
 if c=2 then ∀Z σ nx,AP P TB Z o S.f σ nx x else if c=0 then ∀Z,AP P TB Z o S.f S.σ S.nx x else 10<=c/\∀Z σ nx,look σ (c - 10)=look S.σ (c - 10)->AP P TB Z o S.f σ nx x
def Mv(c:Nat)(o:Oper)(S:Bq)(u:Bq->Bq):Prop:=
 (c≠3/\A8 ops o S.f=some false/\u=λS=>S.put o.dst (.t []))\/
 (c≠3/\A8 ops o S.f=some true/\∃x,QC P TB c o S x/\u=λS=>S.put o.dst x)\/
 (c=3/\o.guard=none/\∃d T z,o.dst=some d/\o.op=.alloc T/\RZ P T=some z/\z.all Mr=true/\S.f d=none/\u=λS=>S.ES d (T,z))
def Uh(m:Nat)(o:Oper)(K:Bq->Prop)(S:Bq):Prop:=
 (A8 ops o S.f=some false/\K (S.put o.dst (.t [])))\/(A8 ops o S.f=some true/\∀Z,BH P TB Z o S.f S.σ S.nx (λx σ' nx'=>Kept m S.σ σ'/\K (Bq.put ⟨S.f,σ',nx',S.pd⟩ o.dst x)))
def St(c:Nat)(o:Oper)(K:Bq->Prop)(S:Bq):Prop:=
 if c=1 then Uh P TB ops 0 o K S else
 if 1000<=c then Uh P TB ops (c - 1000) o K S else
 if c=5 then ∃d T z,.tmp d∈o.op.operands/\S.pd d=some (T,z)/\Uh P TB ops 0 o K (S.ad d T z) else
 ∃u,Mv P TB ops c o S u/\K (u S)
def Lex:List (Nat×Nat)->(Bq->Prop)->Bq->Prop
 | [],K,S=>K S
 | (i,c)::r,K,S=>∃o,ops[i]? = some o/\St P TB ops c o (Lex r K) S
end
section
variable {P:Program}{TB:Bg}{ops:Array Oper}
theorem Uh.mono{m:Nat}{o:Oper}{K K':Bq->Prop}{S:Bq}(h:∀S,K S->K' S)(d:Uh P TB ops m o K S):Uh P TB ops m o K' S:=by
 rcases d with ⟨b,a⟩|⟨b,a⟩
 ·exact .inl ⟨b,h _ a⟩
 ·exact .inr ⟨b,λZ=>(a Z).mono λ_ _ _ c=>⟨c.1,h _ c.2⟩⟩
theorem St.mono{c:Nat}{o:Oper}{K K':Bq->Prop}{S:Bq}(h:∀S,K S->K' S)(a:St P TB ops c o K S):St P TB ops c o K' S:=by
 unfold St at *;split
 ·rename_i e;rw [if_pos e] at a;exact a.mono h
 ·rename_i e;rw [if_neg e] at a
  split
  ·rename_i e;rw [if_pos e] at a;exact a.mono h
  ·rename_i e;rw [if_neg e] at a
   split
   ·rename_i g;rw [if_pos g] at a
    obtain⟨d,T,z,f,b,i⟩:=a;exact⟨d,T,z,f,b,i.mono h⟩
   ·rename_i g;rw [if_neg g] at a
    obtain⟨u,f,b⟩:=a;exact⟨u,f,h _ b⟩
def Uv(x y:Oper):Bool:=(x.looksAt ops).all λt=>!(y.looksAt ops).contains t
def HL(ci cj:Nat):Bool:=
 Nat.beq ci 2 || (Nat.beq ci 3 || ((Nat.beq ci 0 && (!Nat.beq cj 1 && (!Nat.beq cj 5 && Nat.ble cj 999))) || (Nat.ble 10 ci && (Nat.ble ci 999 && (!Nat.beq cj 1 && (!Nat.beq cj 5 && (Nat.ble cj 999 || (cj - 1000).testBit (ci - 10))))))))
theorem HM{ci cj:Nat}(h:HL ci cj=true):ci=2\/ci=3\/(ci=0/\cj≠1/\cj≠5/\cj < 1000)\/(10<=ci/\ci < 1000/\cj≠1/\cj≠5/\(cj < 1000\/(cj - 1000).testBit (ci - 10)=true)):=by
 unfold HL at h
 have nb:∀a b:Nat,(!Nat.beq a b)=true->a≠b:=λa b h e=>by subst e;simp at h
 simp only [cu,bu,Nat.beq_eq,Nat.ble_eq] at h
 rcases h with h|h|⟨d,g,c,f⟩|⟨d,g,c,f,i⟩
 ·exact .inl h
 ·exact .inr (.inl h)
 ·exact .inr (.inr (.inl ⟨d,nb _ _ g,nb _ _ c,by omega⟩))
 ·exact .inr (.inr (.inr ⟨d,by omega,nb _ _ c,nb _ _ f,i.imp (λh=>by omega) id⟩))
def Tm(ops:Array Oper)(i ci j cj:Nat):Bool:=
 waits ops i ops.size j || (match ops[i]?,ops[j]? with
  | some x,some y=>x.apart ops y && HL ci cj && (!Nat.beq cj 5 || Uv (ops:=ops) x y)
  | _,_=>false)
def MZ(ops:Array Oper)(i c:Nat)(r:List (Nat×Nat)):Bool:=r.all λ(j,cj)=>Tm ops i c j cj
def CM(ops:Array Oper):List (Nat×Nat)->Bool
 | []=>true
 | (i,c)::r=>MZ ops i c r && CM ops r
theorem Mv.put{c:Nat}{o:Oper}{S:Bq}{u:Bq->Bq}(h:Mv P TB ops c o S u){d:Option Tmp}{x:E}{σ:Ab}{nx:Nat}{pd:Nat->Option (TypeId×List Value)}(p:∀t,d=some t->t∉o.looksAt ops)(l:∀t,o.dst=some t->d≠some t)(r:c=0->σ=S.σ/\nx=S.nx)(s:10<=c->look σ (c - 10)=look S.σ (c - 10)) :
 Mv P TB ops c o (Bq.put ⟨S.f,σ,nx,pd⟩ d x) u:=by
 have n:A8 ops o (Bq.put ⟨S.f,σ,nx,pd⟩ d x).f=A8 ops o S.f:=EM p;have ag:∀t,.tmp t∈o.op.operands->S.f t=Bj S.f d x t:=λt ht=>(DV p t ht).symm
 rcases h with ⟨i,g,a⟩|⟨i,g,y,a,m⟩|⟨i,g,dd,T,z,a,m,B,A,w,v⟩
 ·exact .inl ⟨i,by rw [n];exact g,a⟩
 ·refine .inr (.inl ⟨i,by rw [n];exact g,y,?_,m⟩)
  unfold QC at a |-;by_cases e:c=2
  ·rw [if_pos e] at a |-
   exact λZ σ nx=>(a Z σ nx).congr ag
  ·rw [if_neg e] at a |-
   by_cases b:c=0
   ·rw [if_pos b] at a |-
    obtain⟨rfl,rfl⟩:=r b;exact λZ=>(a Z).congr ag
   ·rw [if_neg b] at a |-
    exact⟨a.1,λZ j k q=>(a.2 Z j k (q.trans (s a.1))).congr ag⟩
 ·refine .inr (.inr ⟨i,g,dd,T,z,a,m,B,A,?_,v⟩)
  show Bj S.f d x dd=none
  rw [Cu (l dd a)];exact w
theorem Mv.ZR{c:Nat}{o:Oper}{S:Bq}{u:Bq->Bq}(h:Mv P TB ops c o S u):(∃x,u=λS=>S.put o.dst x)\/∃d q,o.dst=some d/\u=λS=>S.ES d q:=by
 rcases h with ⟨_,_,a⟩|⟨_,_,y,_,e⟩|⟨_,_,dd,T,z,a,_,_,_,_,b⟩
 ·exact .inl ⟨_,a⟩
 ·exact .inl ⟨_,e⟩
 ·exact .inr ⟨dd,_,a,b⟩
theorem Mv.back{c:Nat}{o oi:Oper}{S:Bq}{u v:Bq->Bq}(r:(∃x,u=λS=>S.put oi.dst x)\/∃d q,oi.dst=some d/\u=λS=>S.ES d q)(h:Mv P TB ops c o (u S) v)(n:∀t,oi.dst=some t->t∉o.looksAt ops)(s:∀t,oi.dst=some t->o.dst≠some t):Mv P TB ops c o S v:=by
 rcases r with ⟨x,rfl⟩|⟨d,q,G,rfl⟩
 ·have m:A8 ops o (S.put oi.dst x).f=A8 ops o S.f:=EM n
  have ag:∀t,.tmp t∈o.op.operands->Bj S.f oi.dst x t=S.f t:=DV n
  rcases h with ⟨i,g,a⟩|⟨i,g,y,a,l⟩|⟨i,g,dd,T,z,a,l,F,B,A,w⟩
  ·exact .inl ⟨i,by rw [<-m];exact g,a⟩
  ·refine .inr (.inl ⟨i,by rw [<-m];exact g,y,?_,l⟩)
   unfold QC at a |-;by_cases e:c=2
   ·rw [if_pos e] at a |-;exact λZ σ nx=>(a Z σ nx).congr ag
   ·rw [if_neg e] at a |-
    by_cases b:c=0
    ·rw [if_pos b] at a |-;exact λZ=>(a Z).congr ag
    ·rw [if_neg b] at a |-;exact⟨a.1,λZ j k p=>(a.2 Z j k p).congr ag⟩
  ·refine .inr (.inr ⟨i,g,dd,T,z,a,l,F,B,?_,w⟩)
   have:Bj S.f oi.dst x dd=none:=A;rw [Cu (λe=>s dd e a)] at this;exact this
 ·exact h
theorem OS{oi oj:Oper}{S:Bq}{u v:Bq->Bq}(f:(∃x,u=λS=>S.put oi.dst x)\/∃d q,oi.dst=some d/\u=λS=>S.ES d q)(c:(∃x,v=λS=>S.put oj.dst x)\/∃d q,oj.dst=some d/\v=λS=>S.ES d q)(h:∀t,oi.dst=some t->oj.dst≠some t):v (u S)=u (v S):=by
 rcases f with ⟨x,rfl⟩|⟨d,q,b,rfl⟩<;>rcases c with ⟨y,rfl⟩|⟨d',q',a,rfl⟩
 ·exact S.put_comm h
 ·exact S.Ot λe=>h d' e a
 ·exact(S.Ot (h d b)).symm
 ·exact S.RH λe=>h d b (by rw [a,e])
theorem Uh.swap{ci m:Nat}{oi oj:Oper}{S:Bq}{u:Bq->Bq}{K:Bq->Prop}(k:ci=2\/ci=3\/(10<=ci/\m.testBit (ci - 10)=true))(l:oi.apart ops oj=true)(p:Mv P TB ops ci oi S u)(h:Uh P TB ops m oj K (u S)):Uh P TB ops m oj (λS'=>∃u,Mv P TB ops ci oi S' u/\K (u S')) S:=by
 obtain⟨w,A,z⟩:=Oper.apart_spec l;have b:=p.ZR;have i:∀t,oi.dst=some t->oj.dst≠some t:=A;have g:∀(x:E) (σ:Ab) (nx:Nat),Kept m S.σ σ->Mv P TB ops ci oi (Bq.put ⟨S.f,σ,nx,S.pd⟩ oj.dst x) u:=λx σ nx c=>p.put (λt ht=>z t ht) i (λe=>by omega) (λe=>c _ (by rcases k with n|n|n;omega;omega;exact n.2))
 have v:∀(x:E) (σ:Ab) (nx:Nat),Bq.put ⟨(u S).f,σ,nx,(u S).pd⟩ oj.dst x=u (Bq.put ⟨S.f,σ,nx,S.pd⟩ oj.dst x):=by
  intro x σ nx;have:=OS (S:=⟨S.f,σ,nx,S.pd⟩) b (.inl ⟨x,rfl⟩) i;rw [<-this]
  rcases b with ⟨y,rfl⟩|⟨d,q,_,rfl⟩<;>rfl
 have s:A8 ops oj (u S).f=A8 ops oj S.f:=by
  rcases b with ⟨y,rfl⟩|⟨d,q,_,rfl⟩
  ·exact EM w
  ·rfl
 have ag:∀t,.tmp t∈oj.op.operands->(u S).f t=S.f t:=by
  rcases b with ⟨y,rfl⟩|⟨d,q,_,rfl⟩
  ·exact DV w
  ·exact λ_ _=>rfl
 have a:(u S).σ=S.σ/\(u S).nx=S.nx:=by rcases b with ⟨y,rfl⟩|⟨d,q,_,rfl⟩<;>exact⟨rfl,rfl⟩
 rcases h with ⟨o,j⟩|⟨o,j⟩
 ·refine .inl ⟨by rw [<-s];exact o,u,g _ S.σ S.nx (λ_ _=>rfl),?_⟩
  have:=v (.t []) S.σ S.nx;rw [<-a.1,<-a.2] at this;have e:Bq.put ⟨(u S).f,(u S).σ,(u S).nx,(u S).pd⟩ oj.dst (.t [])=(u S).put oj.dst (.t []):=rfl;rw [e] at this;rw [this,a.1,a.2] at j;exact j
 ·refine .inr ⟨by rw [<-s];exact o,λZ=>?_⟩
  have:=(j Z).congr ag;rw [a.1,a.2] at this
  exact this.mono λx σ' nx' r=>by
   have c:Kept m S.σ σ':=r.1;exact⟨c,u,g x σ' nx' c,by rw [<-v];exact r.2⟩
theorem St.swap{ci cj:Nat}{oi oj:Oper}{S:Bq}{u:Bq->Bq}{K:Bq->Prop}(f:oi.apart ops oj=true)(I:HL ci cj=true)(b:(!Nat.beq cj 5 || Uv (ops:=ops) oi oj)=true)
 (k:Mv P TB ops ci oi S u) (h:St P TB ops cj oj K (u S)):St P TB ops cj oj (λS'=>∃u,Mv P TB ops ci oi S' u/\K (u S')) S:=by
 obtain⟨Q,h2,h3⟩:=Oper.apart_spec f;have j:∀t,oi.dst=some t->oj.dst≠some t:=h2;have c:=k.ZR;have H:=HM I;unfold St at *;by_cases U:cj=1
 ·rw [if_pos U] at h |-
  exact h.swap (by omega) f k
 ·rw [if_neg U] at h |-
  by_cases ck:1000<=cj
  ·rw [if_pos ck] at h |-
   refine h.swap ?_ f k
   rcases H with e|e|e|⟨e1,e2,e3,e4,R|R⟩
   ·exact .inl e
   ·exact .inr (.inl e)
   ·omega
   ·omega
   ·exact .inr (.inr ⟨e1,R⟩)
  rw [if_neg ck] at h |-;by_cases J:cj=5
  ·rw [if_pos J] at h |-
   obtain⟨d,T,z,r,p,m⟩:=h;have s:d∈oj.looksAt ops:=ER r;have a:oi.dst≠some d:=λe=>Q d e s
   have F:d∉oi.looksAt ops:=by
    subst J;unfold Uv at b;simp only [ei,cI,Bool.false_or,bH] at b;intro N;have:=b d N;simp [s] at this
   have n:S.pd d=some (T,z):=by
    rcases c with ⟨x,rfl⟩|⟨d',q,g,rfl⟩
    ·have:(if oi.dst=some d then none else S.pd d)=some (T,z):=p
     rwa [if_neg a] at this
    ·have:(if d=d' then some q else S.pd d)=some (T,z):=p
     rwa [if_neg (λe=>a (by rw [g,e]))] at this
   have i:(u S).ad d T z=u (S.ad d T z):=by
    rcases c with ⟨x,rfl⟩|⟨d',q,g,rfl⟩
    ·exact S.VB a
    ·exact S.Un λe=>a (by rw [g,e])
   have G:Mv P TB ops ci oi (S.ad d T z) u:=by
    have:=k.put (d:=some d) (x:=.o (.ptr S.nx z.length 0 0)) (σ:=(S.nx,.cells T z.length [z.map zC])::S.σ) (nx:=S.nx+1) (pd:=S.pd) (λt ht=>by injection ht with ht;subst ht;exact F) (λt ht e=>a (by rw [ht];exact e.symm)) (λe=>by omega) (λe=>by omega)
    rcases this with ⟨B,A,w⟩|⟨B,A,y,w,L⟩|⟨B,A,dd,T',z',w,L,a5,a6,a7,a8⟩
    ·exact .inl ⟨B,A,w⟩
    ·exact .inr (.inl ⟨B,A,y,w,L⟩)
    ·exact .inr (.inr ⟨B,A,dd,T',z',w,L,a5,a6,a7,a8⟩)
   rw [i] at m;exact⟨d,T,z,r,n,m.swap (by omega) f G⟩
  ·rw [if_neg J] at h |-
   obtain⟨v,M,V⟩:=h;have l:=M.ZR;refine⟨v,M.back c Q j,u,?_,by rw [<-OS c l j];exact V⟩
   rcases l with ⟨x,rfl⟩|⟨d,q,N,rfl⟩
   ·exact k.put (σ:=S.σ) (nx:=S.nx) (pd:=S.pd) (λt ht=>h3 t ht) j (λ_=>⟨rfl,rfl⟩) (λ_=>rfl)
   ·exact k
end
section
variable {P:Program}{TB:Bg}{ops:Array Oper}
theorem Dy(K:Bq->Prop):∀(r:List (Nat×Nat)) (listed:Array Bool) (S:Bq),DL ops listed->AY ops r listed=true->CM ops r=true->
 Lex P TB ops r K S->∀j,j∈Region.ready .any ops listed->∃t c s o,r=t++(j,c)::s/\ops[j]? = some o/\St P TB ops c o (Lex P TB ops (t++s) K) S
 | [],listed,_,_,m,_,_,j,p=>by have:=HS _ _ m j p;simp at this
 | (i, ci) :: r,listed,S,G,m,y,h,j,p=>by
  obtain⟨oi,g,h⟩:=h;by_cases k:j=i
  ·subst k
   exact⟨[],ci,r,oi,rfl,g,h⟩
  ·simp only [AY,bu] at m
   simp only [CM,bu] at y
   have hi:i∈Region.ready .any ops listed:=by simpa using m.1
   have z:j∈r.map (·.1):=HS r _ m.2 j (ready_mono p k);obtain⟨⟨j',cj⟩,n,rfl⟩:=bB.1 z;have l:=y.1;unfold MZ at l;rw [bH] at l
   have f:∀c',(j',c')∈r->∃oj,ops[j']? = some oj/\oi.apart ops oj=true/\HL ci c'=true/\(!Nat.beq c' 5 || Uv (ops:=ops) oi oj)=true:=by
    intro c' w;have a:=l _ w;simp only [Tm] at a;rw [cu] at a
    rcases a with a|a
    ·exact absurd p (Jg G (OR (KH hi)) a)
    ·rw [g] at a
     cases e:ops[j']? with
     | none=>rw [e] at a;cases a
     | some oj=>
      rw [e] at a;simp only [bu] at a;exact⟨oj,rfl,a.1.1,a.1.2,a.2⟩
   have d:ci≠1/\¬1000<=ci/\ci≠5:=by
    obtain⟨oj,_,_,L,_⟩:=f cj n;have:=HM L;omega
   have M:∃u,Mv P TB ops ci oi S u/\Lex P TB ops r K (u S):=by
    unfold St at h;rwa [if_neg d.1,if_neg d.2.1,if_neg d.2.2] at h
   obtain⟨u,H,I⟩:=M;obtain⟨t,c,s,oj,F,e,J⟩:=Dy K r (listed.setIfInBounds i true) _ (Fb G hi) m.2 y.2 I j' (ready_mono p k);obtain⟨oj',b,B,A,q⟩:=f c (by rw [F];simp);rw [e] at b
   injection b with b
   subst b;refine⟨(i,ci)::t,c,s,oj,by rw [F];rfl,e,?_⟩;refine(St.swap B A q H J).mono λS' ⟨u',v,x⟩=>?_;refine⟨oi,g,?_⟩;unfold St;rw [if_neg d.1,if_neg d.2.1,if_neg d.2.2];exact⟨u',v,x⟩
theorem HQ:∀(e a:List (Nat×Nat)) (x:Nat×Nat),CM ops (e++x::a)=true->CM ops (e++a)=true
 | [],a,(j,c),h=>by
  simp only [dk,CM,bu] at h;exact h.2
 | (i,d)::e,a,x,h=>by
  simp only [cQ,CM,bu] at h |-;refine⟨?_,HQ e a x h.2⟩;have f:=h.1;unfold MZ at f |-;rw [bH] at f |-;intro y b;refine f y ?_
  rcases bE.1 b with b|b
  ·exact cd _ b
  ·exact cn _ (cC _ b)
structure QZ (Z:Ctx) (V:View) (σ:Ab) (b:Nat) (T:TypeId) (z:List Value):Prop where
 cells:∃cur:Array Value,V.w.heap[b]? = some (.cells cur T (0,0))/\cur.toList=z
 ni:¬V.I b
 ns:∀id o,look σ id=some o->¬V.nl id->¬Di V id o b
 lo:Z.V.w.heap.size<=b
 zok:z.all Mr=true
theorem QZ.lt{Z:Ctx}{V:View}{σ:Ab}{b:Nat}{T:TypeId}{z:List Value}(h:QZ Z V σ b T z):b < V.w.heap.size:=by
 obtain⟨cur,a,_⟩:=h.cells;exact(ca.1 a).1
theorem Inv.comp{Z:Ctx}{V V':View}{σ σ':Ab}{Q:Nx}(h:Inv TB Z V σ)(l:∀b,Q.J b->Z.J b\/Z.V.w.heap.size<=b\/Z.F b)(k:∀b,Q.B b->Z.V.w.heap.size<=b\/Z.F b)(d:Inv TB (Dj V V σ Q) V' σ'):Inv TB Z V' σ':=by
 have f:∀b,C0 V σ b\/Q.B b->Z.V.w.heap.size<=b\/Z.F b:=by
  rintro b (⟨id,o,c,e,a⟩|hb)
  ·exact h.live id o c e b a
  ·exact k b hb
 refine⟨d.os.trans h.os,d.tape.trans h.tape,d.output.trans h.output,λb hb g=>?_,d.iLt,λb hb=>?_,h.ext.trans d.ext,d.st,λid o c e b hb=>?_,d.tabs,?_⟩
 ·have c:¬(C0 V σ b\/Q.B b):=λj=>by rcases f b j with e|e;omega;exact g e
  exact(d.old b (bN hb h.ext.size) c).trans (h.old b hb g)
 ·rcases d.iNew b hb with c|c|c
  ·exact h.iNew b c
  ·exact .inr (.inl (bT h.ext.size c))
  ·exact .inr (f b c)
 ·rcases d.live id o c e b hb with a|a
  ·exact .inl (bT h.ext.size a)
  ·exact f _ a
 ·obtain⟨Q1,k1,k2,i⟩:=d.hid
  refine⟨Q1,k1,λb hb=>?_,λb hb=>?_⟩
  ·rcases k2 b hb with a|a|a
   ·exact l b a
   ·exact .inr (.inl (bT h.ext.size a))
   ·exact .inr (f b a)
  ·rcases i b hb with a|a
   ·exact .inl (bT h.ext.size a)
   ·exact f b a
theorem QZ.comp{Z:Ctx}{V V':View}{σ σ':Ab}{b:Nat}{T:TypeId}{z:List Value}{Q:Nx}(d:QZ Z V σ b T z)(h:¬Q.B b)(j:Inv TB (Dj V V σ Q) V' σ'):QZ Z V' σ' b T z:=by
 have i:=d.lt
 have c:¬(C0 V σ b\/Q.B b):=by
  rintro(⟨id,o,a,g,f⟩|hb)
  ·exact d.ns id o a g f
  ·exact h hb
 refine⟨?_,λk=>?_,λid o a g e=>?_,d.lo,d.zok⟩
 ·obtain⟨cur,a,g⟩:=d.cells
  exact⟨cur,(j.old b i c).trans a,g⟩
 ·rcases j.iNew b k with a|a|a
  ·exact d.ni a
  ·have a:V.w.heap.size<=b:=a;omega
  ·exact c a
 ·rcases j.live id o a g b e with f|f
  ·have f:V.w.heap.size<=b:=f;omega
  ·exact c f
structure Xq (TB:Bg) (Z:Ctx) (V:View) (S:Bq) (a:Act) (Q:Nx):Prop where
 s:Ji TB V S.σ Q
 j:∀b,Q.J b->Z.J b\/Z.V.w.heap.size<=b\/Z.F b
 b:∀b,Q.B b->Z.V.w.heap.size<=b\/Z.F b
 p:∀d q b,S.pd d=some q->a.tmps[d]? = some (.pointer (some ⟨b,0,none⟩))->¬Q.B b
structure GD (TB:Bg) (Z:Ctx) (N:Nat) (V:View) (S:Bq) (a:Act):Prop where
 st:Bv TB Z N V S.f S.σ S.nx a
 pd:∀d T z,S.pd d=some (T,z)->S.f d=none/\∃b,a.tmps[d]? = some (.pointer (some ⟨b,0,none⟩))/\QZ Z V S.σ b T z
 ne:∀d d' q q' b b',S.pd d=some q->S.pd d'=some q'->d≠d'->a.tmps[d]? = some (.pointer (some ⟨b,0,none⟩))->a.tmps[d']? = some (.pointer (some ⟨b',0,none⟩))->b≠b'
 sc:∃Q,Xq TB Z V S a Q
variable {Z:Ctx}{N:Nat}{V V':View}{S:Bq}{a:Act}
theorem Fq{a:Act}{d:Option Tmp}{v:Value}{t:Nat}(h:d≠some t):(a.put d v).tmps[t]? = a.tmps[t]?:=by
 cases d with
 | none=>rfl
 | some d=>
  have:d≠t:=λe=>h (by rw [e]);simp [Act.put,cW this]
theorem GD.put(h:GD TB Z N V S a){d:Option Tmp}{x:E}{v:Value}{σ':Ab}{nx':Nat}(L:∀t,d=some t->t < N)(e:Ext V V'){Q:Nx}(l:Xq TB Z V S a Q)(hi:Inv TB (Dj V V S.σ Q) V' σ')(K:V'.nx=nx')(J:A1 V' x v):GD TB Z N V' (Bq.put ⟨S.f,σ',nx',S.pd⟩ d x) (a.put d v):=by
 have A:∀t q,(if d=some t then none else S.pd t)=some q->d≠some t/\S.pd t=some q:=λt q i=>by
  split at i
  ·cases i
  ·rename_i k;exact⟨k,i⟩
 refine⟨h.st.put L e (Inv.comp h.st.inv l.j l.b hi) K J,λt T z i=>?_,λt t' q q' b b' i F k hb r=>?_,?_⟩
 ·obtain⟨n,m⟩:=A t _ i
  obtain⟨c,b,g,B⟩:=h.pd t T z m;refine⟨?_,b,by rw [Fq n];exact g,B.comp (l.p t _ b m g) hi⟩
  show Bj S.f d x t=none
  rw [Cu n];exact c
 ·obtain⟨n,m⟩:=A t _ i
  obtain⟨H,G⟩:=A t' _ F;rw [Fq n] at hb;rw [Fq H] at r;exact h.ne t t' q q' b b' m G k hb r
 ·obtain⟨Q1,k1,k2,I⟩:=hi.hid
  refine⟨Q1,k1,λb hb=>?_,λb hb=>?_,λt q b i hb M=>?_⟩
  ·rcases k2 b hb with c|c|c|c
   ·exact l.j b c
   ·exact .inr (.inl (bT h.st.inv.ext.size c))
   ·obtain⟨id,o,y,u,s⟩:=c;exact .inr (h.st.inv.live id o y u b s)
   ·exact .inr (l.b b c)
  ·rcases I b hb with c|c|c
   ·exact .inl (bT h.st.inv.ext.size c)
   ·obtain⟨id,o,y,u,s⟩:=c;exact h.st.inv.live id o y u b s
   ·exact l.b b c
  ·obtain⟨n,m⟩:=A t _ i
   rw [Fq n] at hb;obtain⟨_,P,g,B⟩:=h.pd t q.1 q.2 m;rw [hb] at g
   injection g with g;injection g with g;injection g with g;injection g with g
   subst g
   rcases I b M with c|c|c
   ·have c:V.w.heap.size<=b:=c
    have:=B.lt;omega
   ·obtain⟨id,o,y,u,s⟩:=c;exact B.ns id o y u s
   ·exact l.p t _ b m hb c
theorem Inv.grow{σ:Ab}(h:Inv TB Z V σ){w:World}(d:w.os=V.w.os)(ht:w.tape=V.w.tape)(i:w.output=V.w.output)(c:V.w.heap.size<=w.heap.size)(a:∀b,b < V.w.heap.size->w.heap[b]? = V.w.heap[b]?):Inv TB Z { V with w:=w } σ/\Ext V { V with w:=w } := by
 have e:Ext V { V with w:=w } := ⟨λ_ h=>h,λb hb=>a b (h.iLt b hb),c,λ_ _=>rfl,λ_ _=>rfl,λ_ _=>Iff.rfl,bJ _⟩
 refine⟨⟨d.trans h.os,ht.trans h.tape,i.trans h.output,λb hb k=>(a b (bN hb h.ext.size)).trans (h.old b hb k),λb hb=>bN (h.iLt b hb) c,h.iNew,h.ext.trans e,⟨λid o f=>?_,h.st.lt,h.st.free,h.st.inj⟩,h.live,λx g=>?_,h.hid.step (λ_ h=>h) e.heap c (λb hb _ _=>a b hb) (λ_ h=>.inl h) λb hb=>.inl (Ga e h.st.lt hb)⟩,e⟩
 ·exact(h.st.obj id o f).AU e (h.st.lt id o f) λj b hb=>a _ ((h.st.obj id o f).blt j hb)
 ·have:=h.tabs x g
  exact⟨this.1,(a _ (h.iLt _ this.1)).trans this.2⟩
theorem GD.alloc(h:GD TB Z N V S a){d:Tmp}{T:TypeId}{zv:Value}{z:List Value}(J:d < N)(G:S.f d=none)(I:zv.cells.toList=z)(B:z.all Mr=true):GD TB Z N { V with w:=V.w.alloc (.cells zv.cells T) } (S.ES d (T,z)) (a.put (some d) (.pointer (some ⟨V.w.heap.size,0,none⟩))):=by
 obtain⟨hi,x⟩:=Inv.grow h.st.inv (w:=V.w.alloc (.cells zv.cells T)) rfl rfl rfl (by simp) (λb hb=>AQ _ _ _ hb)
 have F:d < a.tmps.size:=by rw [h.st.size];exact J
 have k:(a.put (some d) (.pointer (some ⟨V.w.heap.size,0,none⟩))).tmps[d]? = some (.pointer (some ⟨V.w.heap.size,0,none⟩)):=by
  simp [Act.put,F]
 refine⟨⟨λt e ht=>?_,h.st.lt,by simp [Act.put,h.st.size],hi,h.st.nx,h.st.defers⟩,λt T' z' g=>?_,λt t' q q' b b' g i m hb c=>?_,?_⟩
 ·have ht:S.f t=some e:=ht
  have m:d≠t:=λe=>by subst e;rw [G] at ht;cases ht
  have:=(h.st.env t e ht).ext x
  simpa [Act.put,cW m] using this
 ·have g:(if t=d then some (T,z) else S.pd t)=some (T',z'):=g
  by_cases e:t=d
  ·subst e
   rw [if_pos rfl] at g
   injection g with g;injection g with A y
   subst A y;refine⟨G,_,k,⟨⟨zv.cells,BB _ _,I⟩,λK=>?_,λid o v l e=>?_,?_,B⟩⟩
   ·exact Nat.lt_irrefl _ (h.st.inv.iLt _ K)
   ·have n:=(h.st.inv.st.obj id o v).blt l e
    omega
   ·exact h.st.inv.ext.size
  ·rw [if_neg e] at g
   obtain⟨v,b,l,n⟩:=h.pd t T' z' g;refine⟨v,b,by rw [Fq (λe'=>e (by injection e' with e';exact e'.symm))];exact l,⟨?_,n.ni,n.ns,n.lo,n.zok⟩⟩;obtain⟨cur,M,L⟩:=n.cells;exact⟨cur,(AQ _ _ _ n.lt).trans M,L⟩
 ·have g:(if t=d then some (T,z) else S.pd t)=some q:=g
  have i:(if t'=d then some (T,z) else S.pd t')=some q':=i
  have old:∀t q b,t≠d->S.pd t=some q->(a.put (some d) (.pointer (some ⟨V.w.heap.size,0,none⟩))).tmps[t]? = some (.pointer (some ⟨b,0,none⟩))->a.tmps[t]? = some (.pointer (some ⟨b,0,none⟩))/\b < V.w.heap.size:=λt q b e g hb=>by
   rw [Fq (λe'=>e (by injection e' with e';exact e'.symm))] at hb;obtain⟨_,P,l,n⟩:=h.pd t q.1 q.2 g;rw [hb] at l
   injection l with l;injection l with l;injection l with l;injection l with l
   subst l;exact⟨hb,n.lt⟩
  by_cases e:t=d
  ·subst e
   rw [k] at hb
   injection hb with hb;injection hb with hb;injection hb with hb;injection hb with hb
   rw [if_neg (Ne.symm m)] at i;have:=(old t' q' b' (Ne.symm m) i c).2;omega
  ·rw [if_neg e] at g
   have v:=old t q b e g hb;by_cases e':t'=d
   ·subst e'
    rw [k] at c
    injection c with c;injection c with c;injection c with c;injection c with c
    omega
   ·rw [if_neg e'] at i
    exact h.ne t t' q q' b b' g i m v.1 (old t' q' b' e' i c).1
 ·obtain⟨Q,u⟩:=h.sc
  refine⟨Q,u.s.step (λ_ h=>h) x.heap x.size (λb hb _ _=>AQ _ _ _ hb) (λ_ h=>.inl h) λb hb=>.inl (Ga x h.st.inv.st.lt hb),u.j,u.b,λt q b g hb H=>?_⟩;have g:(if t=d then some (T,z) else S.pd t)=some q:=g;by_cases e:t=d
  ·subst e
   rw [k] at hb
   injection hb with hb;injection hb with hb;injection hb with hb;injection hb with hb
   have:=u.s.r.blt H;omega
  ·rw [if_neg e] at g
   rw [Fq (λe'=>e (by injection e' with e';exact e'.symm))] at hb;exact u.p t q b g hb H
theorem GD.Xu(h:GD TB Z N V S a){d:Tmp}{T:TypeId}{z:List Value}(hd:d < N)(hq:S.pd d=some (T,z)):∃V',V'.w=V.w/\GD TB Z N V' (S.ad d T z) a:=by
 obtain⟨hf,b,hb,hp⟩:=h.pd d T z hq;obtain⟨cur,hcur,hcz⟩:=hp.cells;have hi:=h.st.inv;have hnx:=h.st.nx;have e:Ext V (Ai V b 1 False V.w):=C8 (bJ _) λ_ _=>rfl
 have G:(Ai V b 1 False V.w).X V.nx=b:=by simp [Ai]
 have hrel:Cy (Ai V b 1 False V.w) (z.map zC) cur:=by
  refine⟨by rw [bK,<-hcz];simp,λj c v hj hv=>?_⟩
  have hzj:z[j]? = some v:=by rw [<-hcz,cU];exact hv
  rw [bG,hzj] at hj
  injection hj with hj
  subst hj;exact Lg (bH.1 hp.zok v (bm hzj))
 have k:∀id o,look ((S.nx,O.cells T z.length [z.map zC])::S.σ) id=some o->(id=V.nx/\o=O.cells T z.length [z.map zC])\/(id≠V.nx/\look S.σ id=some o):=λid o y=>by
  rw [Ak] at y;rw [<-hnx] at y;by_cases I:V.nx=id
  ·rw [if_pos I] at y;injection y with y;exact .inl ⟨I.symm,y.symm⟩
  ·rw [if_neg I] at y;exact .inr ⟨Ne.symm I,y⟩
 have n:∀id,id < V.nx->((Ai V b 1 False V.w).nl id↔V.nl id):=λid I=>e.nl id I;obtain⟨Q,L⟩:=h.sc
 have hsQ:Ji TB (Ai V b 1 False V.w) ((S.nx,O.cells T z.length [z.map zC])::S.σ) Q:=by
  refine⟨L.s.r,L.s.ji,L.s.bi,λb' ⟨id,o,y,K,l⟩ hB=>?_⟩
  rcases k id o y with ⟨rfl,rfl⟩|⟨M,B⟩
  ·have l:b'=_:=l
   rw [G] at l;subst l;exact L.p d _ _ hq hb hB
  ·have g:=hi.st.lt id o B
   exact L.s.ap b' ⟨id,o,B,λu=>K ((n id g).2 u),(Aw e g).1 l⟩ hB
 have hinv:Inv TB Z (Ai V b 1 False V.w) ((S.nx,O.cells T z.length [z.map zC])::S.σ):=by
  refine⟨hi.os,hi.tape,hi.output,hi.old,hi.iLt,hi.iNew,hi.ext.trans e,⟨λid o y=>?_,λid o y=>?_,λid o y K b' l hI=>?_,λid id' o o' y hl' P K hn' b' A J=>?_⟩,λid o y K b' l=>?_,hi.tabs,⟨Q,hsQ,L.j,L.b⟩⟩
  ·rcases k id o y with ⟨rfl,rfl⟩|⟨M,B⟩
   ·refine .inr ⟨by simp [Ai],cur,by rw [G];exact hcur,?_,by simp [Ai],by simp [Ai,maxLen],?_,?_⟩
    ·simp [Ai,<-hcz]
    ·intro r hr;simp at hr;subst hr;simp
    ·intro i r j c hi hj
     have M:=QO hrel i r j c hi hj;rw [bK] at M;exact M
   ·exact(hi.st.obj id o B).AU e (hi.st.lt id o B) λ_ _ _=>rfl
  ·rcases k id o y with ⟨rfl,rfl⟩|⟨M,B⟩
   ·exact dy _
   ·exact c8 (hi.st.lt id o B)
  ·rcases k id o y with ⟨rfl,rfl⟩|⟨M,B⟩
   ·have l:b'=_:=l
    rw [G] at l;subst l;exact hp.ni hI
   ·have g:=hi.st.lt id o B
    exact hi.st.free id o B (λu=>K ((n id g).2 u)) b' ((Aw e g).1 l) hI
  ·rcases k id o y with ⟨rfl,rfl⟩|⟨M,B⟩<;>rcases k id' o' hl' with ⟨rfl,rfl⟩|⟨h1',R⟩
   ·exact absurd rfl P
   ·have g:=hi.st.lt id' o' R
    have A:b'=_:=A;rw [G] at A;subst A;exact hp.ns id' o' R (λu=>hn' ((n id' g).2 u)) ((Aw e g).1 J)
   ·have g:=hi.st.lt id o B
    have J:b'=_:=J;rw [G] at J;subst J;exact hp.ns id o B (λu=>K ((n id g).2 u)) ((Aw e g).1 A)
   ·have g:=hi.st.lt id o B
    have U:=hi.st.lt id' o' R;exact hi.st.inj id id' o o' B R P (λu=>K ((n id g).2 u)) (λu=>hn' ((n id' U).2 u)) b' ((Aw e g).1 A) ((Aw e U).1 J)
  ·rcases k id o y with ⟨rfl,rfl⟩|⟨M,B⟩
   ·have l:b'=_:=l
    rw [G] at l;subst l;exact .inl hp.lo
   ·have g:=hi.st.lt id o B
    exact hi.live id o B (λu=>K ((n id g).2 u)) b' ((Aw e g).1 l)
 refine⟨Ai V b 1 False V.w,rfl,⟨λt x ht=>?_,λt x ht=>?_,h.st.size,hinv,by show V.nx+1=S.nx+1;rw [hnx],h.st.defers⟩,λt T' z' H=>?_,λt t' q q' b1 b1' m F P A hb1'=>?_,⟨Q,hsQ,L.j,L.b,λt q b1 m A=>?_⟩⟩
 ·by_cases et:t=d
  ·subst et
   have ht:Bj S.f (some t) (.o (.ptr S.nx z.length 0 0)) t=some x:=ht;simp only [Bj,if_true] at ht
   injection ht with ht
   subst ht
   have hg:a.tmps.getD t undef=.pointer (some ⟨b,0,none⟩):=by simp [hb]
   rw [hg,<-hnx];exact JJ
  ·have ht:Bj S.f (some d) (.o (.ptr S.nx z.length 0 0)) t=some x:=ht
   rw [Cu (λe'=>et (by injection e' with e';exact e'.symm))] at ht;exact(h.st.env t x ht).ext e
 ·by_cases et:t=d
  ·subst et;exact hd
  ·have ht:Bj S.f (some d) (.o (.ptr S.nx z.length 0 0)) t=some x:=ht
   rw [Cu (λe'=>et (by injection e' with e';exact e'.symm))] at ht;exact h.st.lt t x ht
 ·have H:(if t=d then none else S.pd t)=some (T',z'):=H
  by_cases et:t=d
  ·rw [if_pos et] at H;cases H
  ·rw [if_neg et] at H
   obtain⟨M,b2,B,h3⟩:=h.pd t T' z' H;refine⟨?_,b2,B,⟨h3.cells,h3.ni,λid o y K=>?_,h3.lo,h3.zok⟩⟩
   ·show Bj S.f (some d) _ t=none
    rw [Cu (λe'=>et (by injection e' with e';exact e'.symm))];exact M
   ·rcases k id o y with ⟨rfl,rfl⟩|⟨h4,h5⟩
    ·intro u
     have u:b2=_:=u;rw [G] at u;exact h.ne d t _ _ b b2 hq H (Ne.symm et) hb B u.symm
    ·have g:=hi.st.lt id o h5
     exact λu=>h3.ns id o h5 (λu=>K ((n id g).2 u)) ((Aw e g).1 u)
 ·have m:(if t=d then none else S.pd t)=some q:=m
  have F:(if t'=d then none else S.pd t')=some q':=F;by_cases et:t=d
  ·rw [if_pos et] at m;cases m
  ·by_cases et':t'=d
   ·rw [if_pos et'] at F;cases F
   ·rw [if_neg et] at m;rw [if_neg et'] at F
    exact h.ne t t' q q' b1 b1' m F P A hb1'
 ·have m:(if t=d then none else S.pd t)=some q:=m
  by_cases et:t=d
  ·rw [if_pos et] at m;cases m
  ·rw [if_neg et] at m
   exact L.p t q b1 m A
end
section
variable {P:Program}{TB:Bg}{ops:Array Oper}{Z:Ctx}{N:Nat}
def Qb(TB:Bg)(Z:Ctx)(N:Nat)(K:Bq->Prop)(Q:Exit->Act->World->Prop):Prop:=∀V S a,GD TB Z N V S a->K S->Q .normal a V.w
theorem OH{i m:Nat}{o:Oper}(p:ops[i]? = some o)(l:∀t,o.dst=some t->t < N){K:Bq->Prop}{K':Act->World->Prop}{Q:Exit->Act->World->Prop}
 (n:∀V S a,GD TB Z N V S a->K S->K' a V.w) {V:View} {S:Bq} {a:Act} (b:GD TB Z N V S a) (h:Uh P TB ops m o K S):wpOp P ops Q i K' a V.w:=by
 have d:∀t e,S.f t=some e->t < a.tmps.size:=λt e q=>by rw [b.st.size];exact b.st.lt t e q
 obtain⟨Q0,k⟩:=b.sc
 have c:Good TB V S.σ S.nx Q0:=⟨b.st.inv.iLt,b.st.inv.st,b.st.inv.tabs,b.st.nx,k.s⟩
 unfold wpOp;simp only [p]
 rcases h with ⟨j,g⟩|⟨j,g⟩
 ·rw [E5 b.st.env d j]
  have r:GD TB Z N V (S.put o.dst (.t [])) (a.put o.dst undef):=b.put (σ':=S.σ) l (Ext.refl _) k c.inv b.st.nx (IQ V)
  simpa using n _ _ _ r g
 ·rw [E5 b.st.env d j]
  simp only [if_true];refine .inl (PX P (Oper.wp_mono ?_ (g (Dj V V S.σ Q0) V a (b.st.env.op o) c.inv b.st.nx)));rintro a' w' ⟨V',v,x,σ',rfl,rfl,A,z,y,u⟩;exact n V' _ _ (b.put l A k z rfl y) u.2
theorem RR{d:Option Tmp}{ty:TypeId}{pos:String}{af:Array Edge}{g:Option (Nat×Bool)}{X:Operand->Value}{T:TypeId}{z:List Value}(c:RZ P T=some z):∃zv:Value,zv.cells.toList=z/\∀w:World,(execOp X ⟨d,.alloc T,ty,pos,af,g⟩).run P w=.ok (.value (.pointer (some ⟨w.heap.size,0,none⟩))) (w.alloc (.cells zv.cells T)):=by
 obtain⟨i,zv,hi,b,a⟩:=IU c;exact⟨zv,a,λw=>by simp [execOp,Instr.alloc,zeroValue,typeInfo,hi,b,newVar,newRow,go_sem]⟩
theorem JL{i c:Nat}{o:Oper}(l:ops[i]? = some o)(n:∀t,o.dst=some t->t < N){K:Bq->Prop}{K':Act->World->Prop}{Q:Exit->Act->World->Prop}
 (p:∀V S a,GD TB Z N V S a->K S->K' a V.w) {V:View} {S:Bq} {a:Act} (j:GD TB Z N V S a) (h:St P TB ops c o K S):wpOp P ops Q i K' a V.w:=by
 unfold St at h;by_cases J:c=1
 ·rw [if_pos J] at h;exact OH l n p j h
 ·rw [if_neg J] at h
  by_cases ck:1000<=c
  ·rw [if_pos ck] at h;exact OH l n p j h
  rw [if_neg ck] at h;by_cases I:c=5
  ·rw [if_pos I] at h
   obtain⟨d,T,z,_,r,y⟩:=h
   have B:d < N:=by
    obtain⟨_,b,hb,_⟩:=j.pd d T z r;have:=(ca.1 hb).1;rw [j.st.size] at this;exact this
   obtain⟨V',e1,k⟩:=j.Xu B r;have:=OH (Q:=Q) l n p k y;rwa [e1] at this
  ·rw [if_neg I] at h
   obtain⟨u,M,A⟩:=h
   rcases M with ⟨G,s,rfl⟩|⟨G,s,x,f,rfl⟩|⟨G,s,d,T,z,f,F,h5,U,R,rfl⟩
   ·exact OH (m:=0) l n p j (.inl ⟨s,A⟩)
   ·refine OH (m:=0) l n p j (.inr ⟨s,λZ=>AP.Zn P TB Z ?_ ⟨λ_ _=>rfl,A⟩⟩)
    unfold QC at f;by_cases e:c=2
    ·rw [if_pos e] at f;exact f Z S.σ S.nx
    ·rw [if_neg e] at f
     by_cases H:c=0
     ·rw [if_pos H] at f;exact f Z
     ·rw [if_neg H] at f;exact f.2 Z S.σ S.nx rfl
   ·unfold wpOp
    simp only [l]
    have L:Region.wanted o (yielded ops a.tmps)=true:=by unfold Region.wanted;rw [s]
    rw [L];simp only [if_true];refine .inl ?_;obtain⟨dst,op,ty,pos,af,g⟩:=o;simp only at f F;subst f F;obtain⟨zv,v,q⟩:=RR (P:=P) (d:=some d) (ty:=ty) (pos:=pos) (af:=af) (g:=g) (X:=a.eval) h5;unfold Oper.wp;rw [q];have k:=j.alloc (T:=T) (zv:=zv) (n d rfl) R v U;exact p _ _ _ k A
theorem OV{ops:Array Oper}(v:Es N ops=true){K:Bq->Prop}{Q:Exit->Act->World->Prop}(y:Qb TB Z N K Q):∀(n:Nat) (r:List (Nat×Nat)) (listed:Array Bool) (V:View) (S:Bq) (a:Act),
 r.length=n->DL ops listed->AY ops r listed=true->CM ops r=true->GD TB Z N V S a->Lex P TB ops r K S->wpAny P .any ops Q n listed a V.w
 | 0,r,listed,V,S,a,f,u,b,q,m,h=>by
  have:r=[]:=bM.1 f;subst this;refine⟨?_,y V S a m h⟩
  simpa [AY] using b
 | n + 1,r,listed,V,S,a,f,u,b,q,m,h=>by
  refine⟨λe=>?_,λj s=>?_⟩
  ·cases r with
   | nil=>simp at f
   | cons x r=>
    obtain⟨i,c⟩:=x;simp only [AY,bu] at b;have:=b.1;rw [e] at this;simp at this
  ·obtain⟨k,c,g,o,rfl,d,z⟩:=Dy K r listed S u b q h j s
   refine JL d (λt ht=>O9 v d ht) (λV' S' a' l p=>?_) m z;exact OV v y n (k++g) _ V' S' a' (by simp at f |-;omega) (Fb u s) (KB k g j c listed b s) (HQ k g _ q) l p
variable {i c:Nat}{r:List (Nat×Nat)}{L:List (Nat×E)}{σ:Ab}{nx:Nat}{pl:List (Nat×(TypeId×List Value))}{K:Bq->Prop}{Q:Exit->Env->Ab->Nat->Prop}
def Em(P:Program)(TB:Bg)(ops:Array Oper)(r:List (Nat×Nat))(K:Bq->Prop)(L:List (Nat×E))(σ:Ab)(nx:Nat)(pl:List (Nat×(TypeId×List Value))):Prop:=Lex P TB ops r K ⟨look L,σ,nx,look pl⟩
theorem WQ{id:Nat}(r:List (Nat×Nat))(n:P.follows .mixedOrders=true)(p:Es N ops=true)(m:r.length=ops.size)(i:(AY ops r (Array.replicate ops.size false) && CM ops r)=true)
 (h:Em P TB ops r (λS=>Q .normal S.f S.σ S.nx) L σ nx []):Al P TB Z N (.region id ops true) Q (look L) σ nx:=by
 intro V a c;rw [bu] at i;refine wp_region_any n ?_;obtain⟨k,s⟩:=c.inv.drew
 have g:Bv TB Z N { V with w:={ V.w with drawn:=V.w.drawn+1 } } (look L) σ V.nx a:=⟨c.env.ext s,c.lt,c.size,k,rfl,c.defers⟩
 have j:=c.nx;subst j;exact OV p (λV S a c o=>⟨V,S.f,S.σ,rfl,by rw [c.st.nx];exact o,by rw [c.st.nx];exact c.st⟩) ops.size r _ { V with w:={ V.w with drawn:=V.w.drawn+1 } } _ a m (IY ops) i.1 i.2 ⟨g,λd T z e=>(by cases e),λd d' q q' b b' e=>(by cases e),let ⟨Q0,k1,k2,l⟩:=k.hid;⟨Q0,k1,k2,l,λd q b e=>(by cases e)⟩⟩ h
theorem Aa{K:Bq->Prop}(h:K ⟨look L,σ,nx,look pl⟩):Em P TB ops [] K L σ nx pl:=h
theorem Ws(h:Q .normal (look L) σ nx):Em P TB ops [] (λS=>Q .normal S.f S.σ S.nx) L σ nx pl:=h
def CX(d:Nat):List (Nat×(TypeId×List Value))->List (Nat×(TypeId×List Value))
 | []=>[]
 | (k,x)::r=>bif Nat.beq k d then CX d r else (k,x)::CX d r
theorem Fg:∀(pl:List (Nat×(TypeId×List Value))) (d t:Nat),look (CX d pl) t=if t=d then none else look pl t
 | [],d,t=>by simp [CX,look]
 | (k, x)::r,d,t=>by
  simp only [CX];by_cases h:k=d
  ·subst h
   simp only [ei,cond_true];rw [Fg r k t,Ak];by_cases a:t=k
   ·simp [a]
   ·rw [if_neg a,if_neg a,if_neg (Ne.symm a)]
  ·have:Nat.beq k d=false:=by
    cases hb:Nat.beq k d
    ·rfl
    ·exact absurd (bA hb) h
   rw [this,cond_false,Ak,Ak,Fg r d t];by_cases a:t=d
   ·subst a;simp [h]
   ·simp [a]
theorem HV{d:Tmp}{x:E}{σ':Ab}{nx':Nat}:Bq.put ⟨look L,σ',nx',look pl⟩ (some d) x=⟨look ((d,x)::L),σ',nx',look (CX d pl)⟩:=by
 unfold Bq.put;rw [CW];congr 1;funext t;rw [Fg];by_cases h:t=d
 ·subst h;simp
 ·simp [h,Ne.symm h]
theorem Oq{x:E}{σ':Ab}{nx':Nat}:Bq.put ⟨look L,σ',nx',look pl⟩ none x=⟨look L,σ',nx',look pl⟩:=by
 unfold Bq.put;congr 1
def A4(P:Program)(TB:Bg)(ops:Array Oper)(o:Oper)(i c:Nat)(r:List (Nat×Nat))(K:Bq->Prop)(L:List (Nat×E))(σ:Ab)(nx:Nat)(pl:List (Nat×(TypeId×List Value))):Prop:=
 ops[i]? = some o->Em P TB ops ((i,c)::r) K L σ nx pl
theorem Av{o:Oper}(a:Kz ops.toList i=some o)(h:A4 P TB ops o i c r K L σ nx pl):Em P TB ops ((i,c)::r) K L σ nx pl:=h (by rw [KA] at a;simpa using a)
variable {d:Tmp}{op:Op}{ty:TypeId}{pos:String}{af:Array Edge}{g:Option (Nat×Bool)}
theorem BU{x:E}(b:∀Z σ nx,AP P TB Z ⟨some d,op,ty,pos,af,g⟩ (look L) σ nx x)(j:A8 ops ⟨some d,op,ty,pos,af,g⟩ (look L)=some true)(e:(Nat.beq c 0 || Nat.beq c 2)=true)(h:Em P TB ops r K ((d,x)::L) σ nx (CX d pl)):A4 P TB ops ⟨some d,op,ty,pos,af,g⟩ i c r K L σ nx pl:=by
 intro f;refine⟨_,f,?_⟩;unfold St
 have a:c=0\/c=2:=by
  simp only [cu,Nat.beq_eq] at e;exact e
 rw [if_neg (by omega),if_neg (by omega),if_neg (by omega)];refine⟨λS=>S.put (some d) x,.inr (.inl ⟨by omega,j,x,?_,rfl⟩),?_⟩
 ·unfold QC
  rcases a with a|a
  ·rw [if_neg (by omega),if_pos a];exact λZ=>b Z σ nx
  ·rw [if_pos a];exact b
 ·simp only
  rw [HV];exact h
theorem UM{x:E}(a:∀Z,AP P TB Z ⟨some d,op,ty,pos,af,g⟩ (look L) σ nx x)(e:A8 ops ⟨some d,op,ty,pos,af,g⟩ (look L)=some true)(f:Nat.beq c 0=true)(h:Em P TB ops r K ((d,x)::L) σ nx (CX d pl)):A4 P TB ops ⟨some d,op,ty,pos,af,g⟩ i c r K L σ nx pl:=by
 intro b;refine⟨_,b,?_⟩;unfold St
 have j:c=0:=by simpa using f
 rw [if_neg (by omega),if_neg (by omega),if_neg (by omega)];refine⟨λS=>S.put (some d) x,.inr (.inl ⟨by omega,e,x,?_,rfl⟩),?_⟩
 ·unfold QC;rw [if_neg (by omega),if_pos j];exact a
 ·simp only
  rw [HV];exact h
theorem Py(h:∀Z,BH P TB Z ⟨some d,op,ty,pos,af,g⟩ (look L) σ nx (λx σ' nx'=>Em P TB ops r K ((d,x)::L) σ' nx' (CX d pl)))(k:A8 ops ⟨some d,op,ty,pos,af,g⟩ (look L)=some true)(l:c=1):A4 P TB ops ⟨some d,op,ty,pos,af,g⟩ i c r K L σ nx pl:=by
 intro b;refine⟨_,b,?_⟩;unfold St;rw [if_pos l]
 exact .inr ⟨k,λZ=>(h Z).mono λx σ' nx' j=>by
  refine⟨λid a=>by simp at a,?_⟩;have e:Bq.put ⟨(⟨look L,σ,nx,look pl⟩:Bq).f,σ',nx',(⟨look L,σ,nx,look pl⟩:Bq).pd⟩ (some d) x=_:=HV
  rw [e];exact j⟩
theorem KC(h:∀Z,BH P TB Z ⟨none,op,ty,pos,af,g⟩ (look L) σ nx (λ_ σ' nx'=>Em P TB ops r K L σ' nx' pl))(j:A8 ops ⟨none,op,ty,pos,af,g⟩ (look L)=some true)(k:c=1):A4 P TB ops ⟨none,op,ty,pos,af,g⟩ i c r K L σ nx pl:=by
 intro b;refine⟨_,b,?_⟩;unfold St;rw [if_pos k]
 exact .inr ⟨j,λZ=>(h Z).mono λx σ' nx' d=>by
  refine⟨λid a=>by simp at a,?_⟩;have e:Bq.put ⟨(⟨look L,σ,nx,look pl⟩:Bq).f,σ',nx',(⟨look L,σ,nx,look pl⟩:Bq).pd⟩ none x=_:=Oq
  rw [e];exact d⟩
theorem ZD{T:TypeId}{z:List Value}[b:BQ P T z](a:z.all Mr=true)(g:look L d=none)(j:c=3)(h:Em P TB ops r K L σ nx ((d,(T,z))::pl)):A4 P TB ops ⟨some d,.alloc T,ty,pos,af,none⟩ i c r K L σ nx pl:=by
 intro f;refine⟨_,f,?_⟩;unfold St;rw [if_neg (by omega),if_neg (by omega),if_neg (by omega)];refine⟨λS=>S.ES d (T,z),.inr (.inr ⟨j,rfl,d,T,z,rfl,rfl,b.out,a,g,rfl⟩),?_⟩
 have e:Bq.ES ⟨look L,σ,nx,look pl⟩ d (T,z)=⟨look L,σ,nx,look ((d,(T,z))::pl)⟩:=by
  unfold Bq.ES;congr 1;funext t;rw [Ak];by_cases h:t=d
  ·subst h;simp
  ·simp [h,Ne.symm h]
 simp only;rw [e];exact h
theorem ZC{t : Tmp}{T:TypeId}{z:List Value}(j:look pl t=some (T,z))(ht:(op.operands.any λx=>match x with|.tmp t'=>Nat.beq t' t|_=>false)=true)(n:A8 ops ⟨none,op,ty,pos,af,g⟩ (look ((t,.o (.ptr nx z.length 0 0))::L))=some true)(p:c=5)
    (h:∀Z,BH P TB Z ⟨none,op,ty,pos,af,g⟩ (look ((t,.o (.ptr nx z.length 0 0))::L)) ((nx,.cells T z.length [z.map zC])::σ) (nx+1) (λ_ σ' nx'=>Em P TB ops r K ((t,.o (.ptr nx z.length 0 0))::L) σ' nx' (CX t pl))):A4 P TB ops ⟨none,op,ty,pos,af,g⟩ i c r K L σ nx pl:=by
  intro k;refine⟨_,k,?_⟩;unfold St;rw [if_neg (by omega),if_neg (by omega),if_pos p]
  have e:Bq.ad ⟨look L,σ,nx,look pl⟩ t T z=⟨look ((t,.o (.ptr nx z.length 0 0))::L),(nx,.cells T z.length [z.map zC])::σ,nx+1,look (CX t pl)⟩:=by
    unfold Bq.ad;rw [CW];congr 1;funext t';rw [Fg]
  have l : .tmp t∈op.operands:=by
    obtain⟨i,hi,b⟩:=d6.1 ht;have d:=eK hi;generalize op.operands[i]=x at *
    cases x with
    | tmp t' => have:t'=t:=by simpa using b
                rw [<-this];exact d
    | _=>cases b
  refine⟨t,T,z,l,j,?_⟩;rw [e]
  exact .inr ⟨n,λZ=>(h Z).mono λx σ' nx' m=>by
    refine⟨λid a=>by simp at a,?_⟩;have q:Bq.put ⟨(⟨look ((t,.o (.ptr nx z.length 0 0))::L),(nx,.cells T z.length [z.map zC])::σ,nx+1,look (CX t pl)⟩:Bq).f,σ',nx',(⟨look ((t,.o (.ptr nx z.length 0 0))::L),(nx,.cells T z.length [z.map zC])::σ,nx+1,look (CX t pl)⟩:Bq).pd⟩ none x=_:=Oq
    rw [q];exact m⟩
theorem XY{t:Tmp}{ts:TypeId}{y:Operand}{T:TypeId}{z:List Value}(a:look pl t=some (T,z))(b:A8 ops ⟨none,.store ts (.tmp t) y,ty,pos,af,g⟩ (look ((t,.o (.ptr nx z.length 0 0))::L))=some true)(d:c=5)
 (h:∀Z,BH P TB Z ⟨none,.store ts (.tmp t) y,ty,pos,af,g⟩ (look ((t,.o (.ptr nx z.length 0 0))::L)) ((nx,.cells T z.length [z.map zC])::σ) (nx+1) (λ_ σ' nx'=>Em P TB ops r K ((t,.o (.ptr nx z.length 0 0))::L) σ' nx' (CX t pl))):A4 P TB ops ⟨none,.store ts (.tmp t) y,ty,pos,af,g⟩ i c r K L σ nx pl:=
 ZC a (by simp [Op.operands]) b d h
theorem RI{a:Bool}(e:∀Z σ nx,AP P TB Z ⟨some d,op,ty,pos,af,g⟩ (look L) σ nx (eB a))(f:A8 ops ⟨some d,op,ty,pos,af,g⟩ (look L)=some true)(j:(Nat.beq c 0 || Nat.beq c 2)=true)(h:∀b,a=b->Em P TB ops r K ((d,eB b)::L) σ nx (CX d pl)):A4 P TB ops ⟨some d,op,ty,pos,af,g⟩ i c r K L σ nx pl:=BU e f j (h a rfl)
theorem X6{j:Nat}{w:Bool}(e:A8 ops ⟨some d,op,ty,pos,af,some (j,w)⟩ (look L)=some false)(a:(Nat.beq c 0 || Nat.beq c 2)=true)(h:Em P TB ops r K ((d,.t [])::L) σ nx (CX d pl)):A4 P TB ops ⟨some d,op,ty,pos,af,some (j,w)⟩ i c r K L σ nx pl:=by
 intro b;refine⟨_,b,?_⟩;unfold St
 have f:c=0\/c=2:=by
  simp only [cu,Nat.beq_eq] at a;exact a
 rw [if_neg (by omega),if_neg (by omega),if_neg (by omega)];refine⟨λS=>S.put (some d) (.t []),.inl ⟨by omega,e,rfl⟩,?_⟩;simp only;rw [HV];exact h
end
section
variable {P:Program}{TB:Bg}{ops:Array Oper}{i c:Nat}{r:List (Nat×Nat)}{L:List (Nat×E)}{σ:Ab}{nx:Nat}{pl:List (Nat×(TypeId×List Value))}{K:Bq->Prop}{d:Option Tmp}{ty:TypeId}{pos:String}{af:Array Edge}{g:Option (Nat×Bool)}
end
section
variable {P:Program}{TB:Bg}{ops:Array Oper}{i c:Nat}{r:List (Nat×Nat)}{L:List (Nat×E)}{σ:Ab}{nx:Nat}{pl:List (Nat×(TypeId×List Value))}{K:Bq->Prop}{d:Tmp}{ty:TypeId}{pos:String}{af:Array Edge}{g:Option (Nat×Bool)}{op:Op}
theorem yQ{md:Bool}[j:BY P]{q:Prop}{x:E}(e:A8 ops ⟨some d,op,ty,pos,af,g⟩ (look L)=some true)(f:(Nat.beq c 0 || Nat.beq c 2)=true)(h:TF j.T md (look L) op=some (q,x))(a:q)(b:Em P TB ops r K ((d,x)::L) σ nx (CX d pl)):A4 P TB ops ⟨some d,op,ty,pos,af,g⟩ i c r K L σ nx pl:=
 BU (λ_ _ _=>QM h a) e f b
theorem yB[k:BY P]{a:Bool}(f:A8 ops ⟨some d,op,ty,pos,af,g⟩ (look L)=some true)(j:(Nat.beq c 0 || Nat.beq c 2)=true)(h:Ow k.T (look L) op=some a)(e:∀b,a=b->Em P TB ops r K ((d,eB b)::L) σ nx (CX d pl)):A4 P TB ops ⟨some d,op,ty,pos,af,g⟩ i c r K L σ nx pl:=
 RI (λ_ _ _=>Ox h) f j e
theorem yS[f:BY P]{x:E}(b:A8 ops ⟨some d,op,ty,pos,af,g⟩ (look L)=some true)(e:Nat.beq c 0=true)(h:Jc f.T σ (look L) op=some x)(a:Em P TB ops r K ((d,x)::L) σ nx (CX d pl)):A4 P TB ops ⟨some d,op,ty,pos,af,g⟩ i c r K L σ nx pl:=
 UM (λ_=>KI h) b e a
theorem yW[e:BY P]{t:TypeId}{x y:Operand}{σ':Ab}(b:A8 ops ⟨none,.store t x y,ty,pos,af,g⟩ (look L)=some true)(d:c=1)(h:Mi e.T σ (look L) t x y=some σ')(a:Em P TB ops r K L σ' nx pl):A4 P TB ops ⟨none,.store t x y,ty,pos,af,g⟩ i c r K L σ nx pl:=
 KC (λ_=>KJ h a) b d
theorem yA[f:BY P]{t:Tmp}{ts:TypeId}{y:Operand}{T:TypeId}{z:List Value}{σ':Ab}(a:look pl t=some (T,z))(d:A8 ops ⟨none,.store ts (.tmp t) y,ty,pos,af,g⟩ (look ((t,.o (.ptr nx z.length 0 0))::L))=some true)(e:c=5)
 (h:Mi f.T ((nx,.cells T z.length [z.map zC])::σ) (look ((t,.o (.ptr nx z.length 0 0))::L)) ts (.tmp t) y=some σ') (b:Em P TB ops r K ((t,.o (.ptr nx z.length 0 0))::L) σ' (nx+1) (CX t pl)):A4 P TB ops ⟨none,.store ts (.tmp t) y,ty,pos,af,g⟩ i c r K L σ nx pl:=
 XY a d e λ_=>KJ h b
theorem yP[b:BY P]{T:TypeId}{z:List Value}(e:(GG b.T T).ze=some z)(a:z.all Mr=true)(f:look L d=none)(g:c=3)(h:Em P TB ops r K L σ nx ((d,(T,z))::pl)):A4 P TB ops ⟨some d,.alloc T,ty,pos,af,none⟩ i c r K L σ nx pl:=
 haveI:=(CJ (P:=P) T b.ok).SJ e
 ZD a f g h
theorem yG{dd:Option Tmp}{j t:Nat}{w b:Bool}(f:(ops[j]?).bind (·.dst)=some t)(e:look L t=some (eB b))
 (a:b=true->Em P TB ops ((i,c)::r) K L σ nx pl) (d:b=false->Em P TB ops ((i,c)::r) K L σ nx pl):A4 P TB ops ⟨dd,op,ty,pos,af,some (j,w)⟩ i c r K L σ nx pl:=by
 intro _;cases b
 ·exact d rfl
 ·exact a rfl
end
end Go.Am.R
namespace Go.Am
open Go
def SO:Option TypeDesc->Bool
 | some (.func ..)=>true
 | _=>false
class Vo (P:Program) (t:TypeId):Prop where
 out:SO (P.underlying t)=true
theorem U0{P:Program}{t:TypeId}(h:SO (P.underlying t)=true)(w:World):(Op.equal t .nilFunc .nilFunc).run P w=.ok true w/\∀(g:Fn) (a b:Array Value),(Op.equal t (.func g a b) .nilFunc).run P w=.ok false w:=by
 unfold SO at h;split at h
 ·rename_i c
  unfold Op.equal Op.maxDepth;rw [show 10000=9999+1 from rfl,Op.equalIn];refine⟨by simp [run_underlying c,go_sem],λg a b=>?_⟩;rw [Op.equalIn];simp [run_underlying c,go_sem]
 ·cases h
section
variable {P:Program}{TB:Bg}{Z:Ctx}{d:Option Tmp}{ty:TypeId}{pos:String}{af:Array Edge}{g:Option (Nat×Bool)}{f:Env}{σ:Ab}{nx:Nat}
theorem Nc{t yt:TypeId}{x y:Operand}{gg:FuncId}{cap:List C}[h:Vo P t](c:ev f x=some (.o (.fn gg cap)))(b:ev f y=some (.o (.d (.v .nilFunc)))):AP P TB Z ⟨d,.binOp .neq t x y yt,ty,pos,af,g⟩ f σ nx (eB true):=
 AF λV X a _=>by
  obtain⟨vs,e,_⟩:=Hc (a.get (by simp [Op.operands]) c);have l:X y=.nilFunc:=AA.val (a.get (by simp [Op.operands]) b);refine⟨.bool true,?_,.d (.v rfl)⟩;have k:binOp .neq t (.func (.func gg) #[] vs) .nilFunc=(do pure (.bool (!(<-Op.equal t (.func (.func gg) #[] vs) .nilFunc)))):=rfl;have j:eqGuard .neq t x y (.func (.func gg) #[] vs) .nilFunc=pure ():=rfl;have i:execOp X ⟨d,.binOp .neq t x y yt,ty,pos,af,g⟩=(do let v <-(do eqGuard .neq t x y (X x) (X y);binOp .neq t (X x) (X y));pure (.value v)):=rfl;rw [i,e,l,k,j];simp [(U0 h.out V.w).2,go_sem]
end
def Ki(L:List (Nat×E)):List Nat->Option (List (Nat×E))
 | []=>some []
 | k::r=>match look L k,Ki L r with
  | some e,some l=>some ((k,e)::l)
  | _,_=>none
def Qt(σ:Ab):List Nat->Option Ab
 | []=>some []
 | k::r=>match look σ k,Qt σ r with
  | some e,some l=>some ((k,e)::l)
  | _,_=>none
section
variable {P:Program}{TB:Bg}{Z:Ctx}{N:Nat}
theorem Al.XT{c:Code}{Q:Exit->Env->Ab->Nat->Prop}{L0 Lk:List (Nat×E)}{σ Sk:Ab}{nx:Nat}{α:Type}(ks is:List Nat)(e:Ki L0 ks=some Lk)(hi:Qt σ is=some Sk)(v:α->List (Nat×E))(s:α->Ab)(n:Nat)(μ:α->Nat)
 (x:α) (a:List Nat) (b:(∀i,i < Z.V.nx->a[i]? = some i)/\a.Nodup/\a.length=n) (d:CC (nm a nx) (look L0) (v x++Lk)/\AL (nm a nx) σ (s x++Sk))
 (round:∀x,Al P TB Z N c (Ii (λf σ nx=>∃y,μ y < μ x/\∃l:List Nat,(∀i,i < Z.V.nx->l[i]? = some i)/\l.Nodup/\l.length=n/\CC (nm l nx) f (v y++Lk)/\AL (nm l nx) σ (s y++Sk)) Q) (look (v x++Lk)) (s x++Sk) n) :
 Al P TB Z N (.loop c) Q (look L0) σ nx:=Al.AS (λx=>v x++Lk) (λx=>s x++Sk) n μ x a b d round
theorem aL{c:Code}{Q:Exit->Env->Ab->Nat->Prop}{L0 Lk:List (Nat×E)}{σ Sk:Ab}{nx:Nat}{α:Type}(ks is:List Nat)(d:Ki L0 ks=some Lk)(hi:Qt σ is=some Sk)(v:α->List (Nat×E))(s:α->Ab)(n:Nat)(μ:α->Nat)
 (x:α) {m:Nat} (a:Z.V.nx=m) (b:Nat.ble m n=true) (e:CC (nm (List.range n) nx) (look L0) (v x++Lk)/\AL (nm (List.range n) nx) σ (s x++Sk))
 (round:∀x,Al P TB Z N c (Ii (λf σ nx=>∃y,μ y < μ x/\∃l:List Nat,(∀i,i < Z.V.nx->l[i]? = some i)/\l.Nodup/\l.length=n/\CC (nm l nx) f (v y++Lk)/\AL (nm l nx) σ (s y++Sk)) Q) (look (v x++Lk)) (s x++Sk) n) :
 Al P TB Z N (.loop c) Q (look L0) σ nx:=Al.XT ks is d hi v s n μ x (List.range n) (rg a b) e round
theorem WE{d:Option Tmp}{op:Op}{ty:TypeId}{pos:String}{af:Array Edge}{g:Option (Nat×Bool)}{L:List (Nat×E)}{σ:Ab}{nx:Nat}{e:E}{t:Tmp}{gg:FuncId}(l:look L t=some (.o (.d (.v (.func (.func gg) #[] #[])))))
 (h:AP P TB Z ⟨d,op,ty,pos,af,g⟩ (look ((t,.o (.fn gg []))::L)) σ nx e):AP P TB Z ⟨d,op,ty,pos,af,g⟩ (look L) σ nx e:=by
 intro V a k q p;refine h V a ?_ q p;intro t' e' f b;rw [Ak] at b;by_cases i:t=t'
 ·subst i
  rw [if_pos rfl] at b
  injection b with b
  subst b;have m:=AA.val (k t _ f l)
  show AA V (.fn gg []) _
  rw [m];exact .fn rfl (λj c v n=>by simp at n)
 ·rw [if_neg i] at b
  exact k t' e' f b
theorem Spec.Zq{g i:FuncId}{σ:Ab}{nx:Nat}{l m:List E}{post:E->Ab->Nat->Prop}(h:Spec P TB g σ nx (l++.o (.d (.v (.func (.func i) #[] #[])))::m) post):Spec P TB g σ nx (l++.o (.fn i [])::m) post:=
 ⟨h.1, λV vs S n ha=>h.2 V vs S n ⟨by simpa using ha.1,λj e v a b=>by
  by_cases c:j < l.length
  ·exact ha.2 j e v (by rw [bx c] at a |-;exact a) b
  ·by_cases f:j=l.length
   ·subst f
    have s:=ha.2 l.length (.o (.fn i [])) v (by simp) b;rw [bz (bJ _)] at a;simp at a;subst a;obtain⟨vs',rfl,r⟩:=Hc s;have p:vs' = #[]:=cZ (by simpa using r.1);subst p;exact AA.d (.v rfl)
   ·refine ha.2 j e v ?_ b
    rw [bz (by omega)] at a |-
    obtain⟨q,k⟩:∃q,j - l.length=q+1:=⟨j - l.length - 1,by omega⟩
    rw [k] at a |-
    simpa using a⟩⟩
end
end Go.Am
