/-
  A struct's literal with a slice of the call's own; results in memory.
-/
import Derived.Test.YtdipaikojjjebaaGreatDoorPart10
set_option linter.all false
namespace Go.Am
open Go
section
variable {P:Program}{TB:BJ}{Γ:Ctx}{d:Option Tmp}{ty:TypeId}{pos:String}{af:Array Edge}{g:Option (Nat×Bool)}{f:Env}{σ:Ab}{nx:Nat}
variable {K:E->Ab->Nat->Prop}
theorem run_build{t:TypeId}{fl:List (Nat×Nat)}{parts:Array (Nat×Operand)}{ρ:Operand->Value}{V:View}{i:TypeInfo}{zv:Value}{cells:Array Value}(hi:P.info? t=some i)(m:i.zero=some zv)(k:lz P t=some fl)
 (r:Instr.fill (fl[·]?) zv.cells (parts.toList.map λ(i,x)=>(i,ρ x))=some cells):(Instr.build t (parts.map λ(i,x)=>(i,ρ x))).run P V.w=.ok (.agg cells) V.w:=by
 have a:(parts.map λ(i,x)=>(i,ρ x)).toList=parts.toList.map λ(i,x)=>(i,ρ x):=by simp
 unfold lz at k;split at k
 ·rename_i fs u
  have z:∀(l:List Field) (ll:List (Nat×Nat)),(l.mapM λf=>(P.info? f.type).map λi=>(f.offset,i.size))=some ll->∀w,((l.mapM λf=>do pure (f.offset,<-sizeOf f.type)):Sem (List (Nat×Nat))).run P w=.ok ll w:=by
   intro l
   induction l with
   | nil=>intro ll h w;simp at h;subst h;simp[go_sem]
   | cons y l s=>
    intro ll h w;simp only[qX,sk,o6,d7]at h;obtain⟨p,⟨ii,d,rfl⟩,ll',B,A⟩:=h;simp at A;subst A
    have v:(sizeOf y.type).run P w=.ok ii.size w:=by simp[sizeOf,typeInfo,d,go_sem]
    have ihh:=s ll' B w;simp only[bind_pure_comp]at ihh;simp only[qX,oX,v,kw,bind_pure_comp,rt,ihh]
  have o:=z fs.toList fl k V.w
  have b:(zeroValue t).run P V.w=.ok zv V.w:=by simp[zeroValue,typeInfo,hi,m,go_sem]
  have ha:((fs.mapM λf=>do pure (f.offset,<-sizeOf f.type)):Sem (Array (Nat×Nat))).run P V.w=.ok fl.toArray V.w:=by
   rw[rN,rt,o];rfl
  rw[<-a]at r;simp only[Instr.build,oX,b,kw,run_underlying u,ha];simp only[pZ];rw[r];rfl
 ·rename_i n e u
  simp only[d7]at k;obtain⟨ii,d,rfl⟩:=k
  have b:(zeroValue t).run P V.w=.ok zv V.w:=by simp[zeroValue,typeInfo,hi,m,go_sem]
  have v:(sizeOf e).run P V.w=.ok ii.size V.w:=by simp[sizeOf,typeInfo,d,go_sem]
  have g:∀(ps:List (Nat×Value)) (c c':Array Value),Instr.fill (λi=>((List.range n).map λj=>(j*ii.size,ii.size))[i]?) c ps=some c'->Instr.fill (λi=>some (i*ii.size,ii.size)) c ps=some c':=by
   intro ps
   induction ps with
   | nil=>intro c c' h;simpa[Instr.fill]using h
   | cons p ps s=>
    intro c c' h;obtain⟨i',v'⟩:=p;unfold Instr.fill at h |-;by_cases q:i'<n
    ·simp only [i9,rf q,qp]at h
     simp only at h |-;split at h
     ·cases h
     ·rename_i hno
      rw[if_neg hno];exact s _ _ (by simpa only[i9]using h)
    ·simp[q]at h
  rw[<-a]at r;simp only[Instr.build,oX,b,kw,run_underlying u,v];rw[g _ _ _ r];rfl
 ·cases k
theorem Jw{t:TypeId}{z:List Value}{fl:List (Nat×Nat)}{parts:Array (Nat×Operand)}{es:List E}{qs:List (Nat×List C)}[G:BM P t z][J:Ep P t fl](p k e:Nat)(F:z[p]?=some (.slice none 0 0))(B:Ky f (parts.toList.map (·.2))=some es)(I:Gb fl parts.toList es=some qs)
 (s:z.all QP=true) (u:(qs.all λx=>Nat.ble (x.1+x.2.length) z.length)=true) (M:K (.a (BU qs ((z.map zC).set p (.arr nx k 0 0)))) ((nx,.cells e k [])::σ) (nx+1)):CC P TB Γ ⟨d,.build t parts,ty,pos,af,g⟩ f σ nx K:=
 DW λV ρ T S R=>by
  subst R;obtain⟨i,zv,hi,o,l⟩:=HI G.out;obtain⟨y,n⟩:=S.alloc (c:=0) (nl:=True) (w:=V.w) (ob:=.cells e k []) rfl rfl rfl rfl (jp _) (λ_ _=>rfl) (.inl ⟨by simp[Ax],rfl⟩);have A:=DF (V:=Ax V V.w.heap.size 0 True V.w) (ρ:=ρ) parts.toList es qs (λx r e L=>(T.get (by simp only[Op.operands];simpa using r) L).ext n) B I
  have q:Dq (Ax V V.w.heap.size 0 True V.w) ((z.map zC).set p (.arr V.nx k 0 0)) zv.cells:=by
   refine⟨by rw[pv,gt,<-l];simp,λj c v h H=>?_⟩
   have b:z[j]?=some v:=by rw[<-l,pS];exact H
   by_cases m:p=j
   ·subst m
    rw[F]at b
    injection b with b
    subst b;rw[pI (by rw[gt];exact(ce.1 F).1)]at h
    injection h with h
    subst h;exact AH.nil (by simp[Ax]) (by simp[Ax])
   ·rw[pJ m,i9,b]at h
    injection h with h
    subst h;exact Ls (f7.1 s v (co b))
  obtain⟨cells,Q,N⟩:=GV _ _ _ _ A q (λx r=>by rw[pv,gt];exact Jo _ _ u x r);have hb:=run_build (P:=P) (ρ:=ρ) (parts:=parts) (V:=V) hi o J.out Q;refine⟨.agg cells,_,_,_,?_,n,y,(show Bm _ (.a _) _ from ⟨cells,rfl,N⟩),M⟩
  show ((do let v <-Instr.build t (parts.map λ(i,x)=>(i,ρ x));pure (Go.Next.value v):Sem Go.Next)).run P V.w=_
  simp only[oX,hb,kw];rfl
end
section
variable {P:Program}{TB:BJ}
def kQ(t:Tmp)(ids:List Nat)(post:E->Ab->Nat->Prop):Exit->Env->Ab->Nat->Prop
 | .ret,f,σ,nx|.normal,f,σ,nx=>∃id k i T rows r x,f t=some (.o (.ptr id k i 0))/\look σ id=some (.cells T k rows)/\rows[i]?=some r/\FE σ ids (.a r) x/\post x (Ce ids σ) nx
 | _,_,_,_=>False
theorem eK{fn:Func}{V:View}{Γ:Ctx}{f:Env}{a:Act}{σ:Ab}{t:Tmp}{T':TypeId}{n:Nat}{id k i:Nat}{T:TypeId}{rows:List (List C)}{r:List C}[A:Eg P T' true n](H:n=k)(s:fn.results = #[.cell t T'])(J:EE V f a.tmps)(hi:Inv TB Γ V σ)(ht:f t=some (.o (.ptr id k i 0)))(G:look σ id=some (.cells T k rows))(z:rows[i]?=some r) :
 ∃v,(results fn a.tmps).run P V.w=.ok v V.w/\Bm V (.a r) v:=by
 have F:=J t _ ht;subst H
 have e:∀w,(results fn a.tmps).run P w=((do loadVar T' (<-asAddr (a.tmps.getD t undef))):Sem Value).run P w:=λw=>by
  simp[results,s,-Array.getD_eq_getD_getElem?,go_sem]
 generalize N:a.tmps.getD t undef=M at F e
 cases F with
 | ptr I x=>
  rcases hi.st.obj id _ G with ⟨y,_⟩|⟨_,cur,y,S,R,Q,L,K⟩
  ·exact absurd y x
  ·have u:=L r (co z)
   rw[ry]at e
   have g:∀q,q<n->∃v,cur[i*n+q]?=some v/\AH V (r[q]?.getD (.d (.l []))) v:=λq j=>by
    have m:q<r.length:=by omega
    obtain⟨v,b,h⟩:=K i r q r[q] z (d6 m);exact⟨v,b,by rw[d6 m];exact h⟩
   refine⟨.agg ((List.range n).map λq=>cur.getD (i*n+q) undef).toArray,?_,_,rfl,by simp[u],?_⟩
   ·have:(loadCells ⟨V.ρ id,i*n,none⟩ n).run P V.w=.ok ((List.range n).map λq=>cur.getD (i*n+q) undef).toArray V.w:=run_loadCells V.w _ n _ λq j=>by
     rw[BN];obtain⟨v,b,_⟩:=g q j
     have:cur.getD (i*n+q) undef=v:=by simp[b]
     rw[this];simp[World.cell?,y,b]
    unfold loadCells at this;rw[e];simp[asAddr,loadVar,(BP A.out V.w).1,(BP A.out V.w).2,this,go_sem]
   ·intro q c v B p
    have j:q<n:=by have:=(ce.1 B).1;omega
    obtain⟨v',b,h⟩:=g q j;rw[B]at h
    have:v=v':=by simpa[j,b]using p.symm
    rw[this];exact h
theorem fY{V:View}{Γ:Ctx}{σ:Ab}(hi:Inv TB Γ V σ)(ids:List Nat):Inv TB Γ (KU V σ ids) (Ce ids σ):=by
 have h:Cw TB Γ 0 V (λ_=>none) σ V.nx { tmps:=#[],defers:=[] } := ⟨λt e h=>(by cases h),λt e h=>(by cases h),rfl,hi,rfl,rfl⟩
 exact(h.freeze ids [] trivial).inv
theorem Spec.oO {g:FuncId} {fn:Func} {c:Code} {σ:Ab} {nx:Nat} {args:List E} {post:E->Ab->Nat->Prop} (t:Tmp) (T':TypeId) (n:Nat) (ids:List Nat) [L:Eg P T' true n] (B:P.funcs[g]?=some fn) (hb:fn.body=some c) (j:(fn.name == "runtime.NumGoroutine")=false) (u:fn.results = #[.cell t T'])
 (p:args.length<=fn.ntmps) (h:∀Γ:Ctx,Γ.V.nx=nx->Ak P TB Γ fn.ntmps c (λe f σ nx=>kQ t ids post e f σ nx/\∀id k i,f t=some (.o (.ptr id k i 0))->k=n) (look (Cr 0 args)) σ nx):Spec P TB g σ nx args post:=by
 refine⟨⟨fn,B,j,by rw[hb];rfl⟩,?_⟩;intro V vs S z ha;refine calls_of_wp B hb ?_
 have K:vs.size<=fn.ntmps:=by rw[ha.1];exact p
 have H:Cw TB (Fz V V σ S) fn.ntmps V (look (Cr 0 args)) σ nx { tmps:=vs++Array.replicate (fn.ntmps-vs.size) undef,defers:=[] } := by
  refine⟨?_,?_,by simp;omega,z.inv,z.nx,rfl⟩
  ·intro t e s
   obtain⟨_,d⟩:=Ci args 0 t e s
   have d:args[t]?=some e:=by simpa using d
   have m:t<vs.size:=by rw[ha.1];exact(ce.1 d).1
   have A:=ha.2 t e vs[t] d (ol m)
   simpa[pe m,m]using A
  ·intro t e s
   obtain⟨_,d⟩:=Ci args 0 t e s
   have d:args[t]?=some e:=by simpa using d
   have:=(ce.1 d).1;omega
 refine wp_mono (h (Fz V V σ S) z.nx V _ H) ?_;rintro e a' w' ⟨V',f',σ',rfl,⟨q,y⟩,b⟩
 have fin:(∃id k i T rows r x,f' t=some (.o (.ptr id k i 0))/\look σ' id=some (.cells T k rows)/\rows[i]?=some r/\FE σ' ids (.a r) x/\post x (Ce ids σ') V'.nx)->∃v,(results fn a'.tmps).run P V'.w=.ok v V'.w/\∃V'' v' x σ'',Ending.returned v=.returned v'/\V''.w=V'.w/\Inv TB (Fz V V σ S) V'' σ''/\Bm V'' x v'/\post x σ'' V''.nx:=by
  rintro⟨id,k,i,T,rows,r,x,F,d,A,J,I⟩;obtain⟨v,G,s⟩:=eK (P:=P) (y id k i F).symm u b.env b.inv F d A;exact⟨v,G,KU V' σ' ids,v,x,_,rfl,rfl,fY b.inv ids,J.rel b.inv s,I⟩
 cases e with
 | normal=>exact⟨b.defers,fin q⟩
 | ret=>exact⟨b.defers,fin q⟩
 | exit id=>exact q.elim
 | goto l=>exact q.elim
 | panic ch=>exact q.elim
 | outgrown=>exact q.elim
end
end Go.Am
namespace Go.Am.R
open Go
structure Ch where
 f:Env
 σ:Ab
 nx:Nat
 pd:Nat->Option (TypeId×List Value)
def Ch.put(S:Ch)(d:Option Tmp)(x:E):Ch:=⟨BZ S.f d x,S.σ,S.nx,λt=>if d=some t then none else S.pd t⟩
def Ch.H0(S:Ch)(d:Tmp)(q:TypeId×List Value):Ch:=⟨S.f,S.σ,S.nx,λt=>if t=d then some q else S.pd t⟩
def Ch.ad(S:Ch)(d:Tmp)(T:TypeId)(z:List Value):Ch:=⟨BZ S.f (some d) (.o (.ptr S.nx z.length 0 0)),(S.nx,.cells T z.length [z.map zC])::S.σ,S.nx+1,λt=>if t=d then none else S.pd t⟩
theorem Ch.put_comm(S:Ch){d d':Option Tmp}{x y:E}(h:∀t,d=some t->d'≠some t):(S.put d x).put d' y=(S.put d' y).put d x:=by
 unfold Ch.put;rw[Nn h];congr 1;funext t;simp only;split<;>split<;>rfl
theorem Ch.Vy(S:Ch){d':Option Tmp}{d:Tmp}{q:TypeId×List Value}{y:E}(h:d'≠some d):(S.put d' y).H0 d q=(S.H0 d q).put d' y:=by
 unfold Ch.put Ch.H0;simp only[Ch.mk.injEq,true_and];funext t;by_cases e:t=d
 ·subst e;simp[h]
 ·simp[e]
theorem Ch.bg(S:Ch){d d':Tmp}{q q':TypeId×List Value}(h:d≠d'):(S.H0 d q).H0 d' q'=(S.H0 d' q').H0 d q:=by
 unfold Ch.H0;simp only[Ch.mk.injEq,true_and];funext t;by_cases e:t=d
 ·subst e;simp[h]
 ·simp[e]
theorem Ch.jb(S:Ch){d':Option Tmp}{d:Tmp}{T:TypeId}{z:List Value}{y:E}(h:d'≠some d):(S.put d' y).ad d T z=(S.ad d T z).put d' y:=by
 unfold Ch.put Ch.ad;simp only;rw[Nn (d:=d') (d':=some d) (λt ht e=>h (by rw[ht,e]))];congr 1;funext t;by_cases e:t=d
 ·subst e;simp
 ·simp[e]
theorem Ch.fG(S:Ch){d' d:Tmp}{T:TypeId}{z:List Value}{q:TypeId×List Value}(h:d'≠d):(S.H0 d' q).ad d T z=(S.ad d T z).H0 d' q:=by
 unfold Ch.H0 Ch.ad;simp only[Ch.mk.injEq,true_and];funext t;by_cases e:t=d
 ·subst e;simp[Ne.symm h]
 ·simp[e]
section
variable (P:Program)(TB:BJ)(ops:Array Oper)
def QC(c:Nat)(o:Oper)(S:Ch)(x:E):Prop:=
 if c=2 then ∀Γ σ nx,A6 P TB Γ o S.f σ nx x else if c=0 then ∀Γ,A6 P TB Γ o S.f S.σ S.nx x else 10<=c/\∀Γ σ nx,look σ (c-10)=look S.σ (c-10)->A6 P TB Γ o S.f σ nx x
def Mv(c:Nat)(o:Oper)(S:Ch)(u:Ch->Ch):Prop:=
 (c≠3/\BH ops o S.f=some false/\u=λS=>S.put o.dst (.t []))\/
 (c≠3/\BH ops o S.f=some true/\∃x,QC P TB c o S x/\u=λS=>S.put o.dst x)\/
 (c=3/\o.guard=none/\∃d T z,o.dst=some d/\o.op=.alloc T/\bS P T=some z/\z.all QP=true/\S.f d=none/\u=λS=>S.H0 d (T,z))
def fx(m:Nat)(o:Oper)(K:Ch->Prop)(S:Ch):Prop:=
 (BH ops o S.f=some false/\K (S.put o.dst (.t [])))\/(BH ops o S.f=some true/\∀Γ,CC P TB Γ o S.f S.σ S.nx (λx σ' nx'=>Kept m S.σ σ'/\K (Ch.put ⟨S.f,σ',nx',S.pd⟩ o.dst x)))
def St(c:Nat)(o:Oper)(K:Ch->Prop)(S:Ch):Prop:=
 if c=1 then fx P TB ops 0 o K S else
 if 1000<=c then fx P TB ops (c-1000) o K S else
 if c=5 then ∃d T z,.tmp d∈o.op.operands/\S.pd d=some (T,z)/\fx P TB ops 0 o K (S.ad d T z) else
 ∃u,Mv P TB ops c o S u/\K (u S)
def Lex:List (Nat×Nat)->(Ch->Prop)->Ch->Prop
 | [],K,S=>K S
 | (i,c)::r,K,S=>∃o,ops[i]?=some o/\St P TB ops c o (Lex r K) S
end
section
variable {P:Program}{TB:BJ}{ops:Array Oper}
theorem fx.mono{m:Nat}{o:Oper}{K K':Ch->Prop}{S:Ch}(h:∀S,K S->K' S)(d:fx P TB ops m o K S):fx P TB ops m o K' S:=by
 rcases d with ⟨b,a⟩|⟨b,a⟩
 ·exact .inl ⟨b,h _ a⟩
 ·exact .inr ⟨b,λΓ=>(a Γ).mono λ_ _ _ c=>⟨c.1,h _ c.2⟩⟩
theorem St.mono{c:Nat}{o:Oper}{K K':Ch->Prop}{S:Ch}(h:∀S,K S->K' S)(a:St P TB ops c o K S):St P TB ops c o K' S:=by
 unfold St at *;split
 ·rename_i e;rw[if_pos e]at a;exact a.mono h
 ·rename_i e;rw[if_neg e]at a
  split
  ·rename_i e;rw[if_pos e]at a;exact a.mono h
  ·rename_i e;rw[if_neg e]at a
   split
   ·rename_i g;rw[if_pos g]at a
    obtain⟨d,T,z,f,b,i⟩:=a;exact⟨d,T,z,f,b,i.mono h⟩
   ·rename_i g;rw[if_neg g]at a
    obtain⟨u,f,b⟩:=a;exact⟨u,f,h _ b⟩
def fW(x y:Oper):Bool:=(x.looksAt ops).all λt=>!(y.looksAt ops).contains t
def Mh(ci cj:Nat):Bool:=
 Nat.beq ci 2 || (Nat.beq ci 3 || ((Nat.beq ci 0 && (!Nat.beq cj 1 && (!Nat.beq cj 5 && Nat.ble cj 999))) || (Nat.ble 10 ci && (Nat.ble ci 999 && (!Nat.beq cj 1 && (!Nat.beq cj 5 && (Nat.ble cj 999 || (cj-1000).testBit (ci-10))))))))
theorem Mi{ci cj:Nat}(h:Mh ci cj=true):ci=2\/ci=3\/(ci=0/\cj≠1/\cj≠5/\cj<1000)\/(10<=ci/\ci<1000/\cj≠1/\cj≠5/\(cj<1000\/(cj-1000).testBit (ci-10)=true)):=by
 unfold Mh at h
 have nb:∀a b:Nat,(!Nat.beq a b)=true->a≠b:=λa b h e=>by subst e;simp at h
 simp only[o8,d4,Nat.beq_eq,Nat.ble_eq]at h
 rcases h with h|h|⟨d,g,c,f⟩|⟨d,g,c,f,i⟩
 ·exact .inl h
 ·exact .inr (.inl h)
 ·exact .inr (.inr (.inl ⟨d,nb _ _ g,nb _ _ c,by omega⟩))
 ·exact .inr (.inr (.inr ⟨d,by omega,nb _ _ c,nb _ _ f,i.imp (λh=>by omega) id⟩))
def dN(ops:Array Oper)(i ci j cj:Nat):Bool:=
 waits ops i ops.size j || (match ops[i]?,ops[j]? with
  | some x,some y=>x.apart ops y && Mh ci cj && (!Nat.beq cj 5 || fW (ops:=ops) x y)
  | _,_=>false)
def TG(ops:Array Oper)(i c:Nat)(r:List (Nat×Nat)):Bool:=r.all λ(j,cj)=>dN ops i c j cj
def Ew(ops:Array Oper):List (Nat×Nat)->Bool
 | []=>true
 | (i,c)::r=>TG ops i c r && Ew ops r
theorem Mv.put{c:Nat}{o:Oper}{S:Ch}{u:Ch->Ch}(h:Mv P TB ops c o S u){d:Option Tmp}{x:E}{σ:Ab}{nx:Nat}{pd:Nat->Option (TypeId×List Value)}(p:∀t,d=some t->t∉o.looksAt ops)(l:∀t,o.dst=some t->d≠some t)(r:c=0->σ=S.σ/\nx=S.nx)(s:10<=c->look σ (c-10)=look S.σ (c-10)) :
 Mv P TB ops c o (Ch.put ⟨S.f,σ,nx,pd⟩ d x) u:=by
 have n:BH ops o (Ch.put ⟨S.f,σ,nx,pd⟩ d x).f=BH ops o S.f:=HV p;have ag:∀t,.tmp t∈o.op.operands->S.f t=BZ S.f d x t:=λt ht=>(GQ p t ht).symm
 rcases h with ⟨i,g,a⟩|⟨i,g,y,a,m⟩|⟨i,g,dd,T,z,a,m,B,A,w,v⟩
 ·exact .inl ⟨i,by rw[n];exact g,a⟩
 ·refine .inr (.inl ⟨i,by rw[n];exact g,y,?_,m⟩)
  unfold QC at a |-;by_cases e:c=2
  ·rw[if_pos e]at a |-
   exact λΓ σ nx=>(a Γ σ nx).congr ag
  ·rw [if_neg e]at a |-
   by_cases b:c=0
   ·rw[if_pos b]at a |-
    obtain⟨rfl,rfl⟩:=r b;exact λΓ=>(a Γ).congr ag
   ·rw[if_neg b]at a |-
    exact⟨a.1,λΓ j k q=>(a.2 Γ j k (q.trans (s a.1))).congr ag⟩
 ·refine .inr (.inr ⟨i,g,dd,T,z,a,m,B,A,?_,v⟩)
  show BZ S.f d x dd=none
  rw[DV (l dd a)];exact w
theorem Mv.nK{c:Nat}{o:Oper}{S:Ch}{u:Ch->Ch}(h:Mv P TB ops c o S u):(∃x,u=λS=>S.put o.dst x)\/∃d q,o.dst=some d/\u=λS=>S.H0 d q:=by
 rcases h with ⟨_,_,a⟩|⟨_,_,y,_,e⟩|⟨_,_,dd,T,z,a,_,_,_,_,b⟩
 ·exact .inl ⟨_,a⟩
 ·exact .inl ⟨_,e⟩
 ·exact .inr ⟨dd,_,a,b⟩
theorem Mv.back{c:Nat}{o oi:Oper}{S:Ch}{u v:Ch->Ch}(r:(∃x,u=λS=>S.put oi.dst x)\/∃d q,oi.dst=some d/\u=λS=>S.H0 d q)(h:Mv P TB ops c o (u S) v)(n:∀t,oi.dst=some t->t∉o.looksAt ops)(s:∀t,oi.dst=some t->o.dst≠some t):Mv P TB ops c o S v:=by
 rcases r with ⟨x,rfl⟩|⟨d,q,G,rfl⟩
 ·have m:BH ops o (S.put oi.dst x).f=BH ops o S.f:=HV n
  have ag:∀t,.tmp t∈o.op.operands->BZ S.f oi.dst x t=S.f t:=GQ n
  rcases h with ⟨i,g,a⟩|⟨i,g,y,a,l⟩|⟨i,g,dd,T,z,a,l,F,B,A,w⟩
  ·exact .inl ⟨i,by rw[<-m];exact g,a⟩
  ·refine .inr (.inl ⟨i,by rw[<-m];exact g,y,?_,l⟩)
   unfold QC at a |-;by_cases e:c=2
   ·rw[if_pos e]at a |-;exact λΓ σ nx=>(a Γ σ nx).congr ag
   ·rw[if_neg e]at a |-
    by_cases b:c=0
    ·rw[if_pos b]at a |-;exact λΓ=>(a Γ).congr ag
    ·rw[if_neg b]at a |-;exact⟨a.1,λΓ j k p=>(a.2 Γ j k p).congr ag⟩
  ·refine .inr (.inr ⟨i,g,dd,T,z,a,l,F,B,?_,w⟩)
   have:BZ S.f oi.dst x dd=none:=A;rw[DV (λe=>s dd e a)]at this;exact this
 ·exact h
theorem WA{oi oj:Oper}{S:Ch}{u v:Ch->Ch}(f:(∃x,u=λS=>S.put oi.dst x)\/∃d q,oi.dst=some d/\u=λS=>S.H0 d q)(c:(∃x,v=λS=>S.put oj.dst x)\/∃d q,oj.dst=some d/\v=λS=>S.H0 d q)(h:∀t,oi.dst=some t->oj.dst≠some t):v (u S)=u (v S):=by
 rcases f with ⟨x,rfl⟩|⟨d,q,b,rfl⟩<;>rcases c with ⟨y,rfl⟩|⟨d',q',a,rfl⟩
 ·exact S.put_comm h
 ·exact S.Vy λe=>h d' e a
 ·exact(S.Vy (h d b)).symm
 ·exact S.bg λe=>h d b (by rw[a,e])
theorem fx.swap{ci m:Nat}{oi oj:Oper}{S:Ch}{u:Ch->Ch}{K:Ch->Prop}(k:ci=2\/ci=3\/(10<=ci/\m.testBit (ci-10)=true))(l:oi.apart ops oj=true)(p:Mv P TB ops ci oi S u)(h:fx P TB ops m oj K (u S)):fx P TB ops m oj (λS'=>∃u,Mv P TB ops ci oi S' u/\K (u S')) S:=by
 obtain⟨v,z,w⟩:=Oper.apart_spec l;have b:=p.nK;have i:∀t,oi.dst=some t->oj.dst≠some t:=z;have g:∀(x:E) (σ:Ab) (nx:Nat),Kept m S.σ σ->Mv P TB ops ci oi (Ch.put ⟨S.f,σ,nx,S.pd⟩ oj.dst x) u:=λx σ nx c=>p.put (λt ht=>w t ht) i (λe=>by omega) (λe=>c _ (by rcases k with n|n|n;omega;omega;exact n.2))
 have s:∀(x:E) (σ:Ab) (nx:Nat),Ch.put ⟨(u S).f,σ,nx,(u S).pd⟩ oj.dst x=u (Ch.put ⟨S.f,σ,nx,S.pd⟩ oj.dst x):=by
  intro x σ nx;have:=WA (S:=⟨S.f,σ,nx,S.pd⟩) b (.inl ⟨x,rfl⟩) i;rw[<-this]
  rcases b with ⟨y,rfl⟩|⟨d,q,_,rfl⟩<;>rfl
 have r:BH ops oj (u S).f=BH ops oj S.f:=by
  rcases b with ⟨y,rfl⟩|⟨d,q,_,rfl⟩
  ·exact HV v
  ·rfl
 have ag:∀t,.tmp t∈oj.op.operands->(u S).f t=S.f t:=by
  rcases b with ⟨y,rfl⟩|⟨d,q,_,rfl⟩
  ·exact GQ v
  ·exact λ_ _=>rfl
 have a:(u S).σ=S.σ/\(u S).nx=S.nx:=by rcases b with ⟨y,rfl⟩|⟨d,q,_,rfl⟩<;>exact⟨rfl,rfl⟩
 rcases h with ⟨o,j⟩|⟨o,j⟩
 ·refine .inl ⟨by rw[<-r];exact o,u,g _ S.σ S.nx (λ_ _=>rfl),?_⟩
  have:=s (.t []) S.σ S.nx;rw[<-a.1,<-a.2]at this;have e:Ch.put ⟨(u S).f,(u S).σ,(u S).nx,(u S).pd⟩ oj.dst (.t [])=(u S).put oj.dst (.t []):=rfl;rw[e]at this;rw[this,a.1,a.2]at j;exact j
 ·refine .inr ⟨by rw[<-r];exact o,λΓ=>?_⟩
  have:=(j Γ).congr ag;rw[a.1,a.2]at this
  exact this.mono λx σ' nx' hk=>by
   have c:Kept m S.σ σ':=hk.1;exact⟨c,u,g x σ' nx' c,by rw[<-s];exact hk.2⟩
theorem St.swap{ci cj:Nat}{oi oj:Oper}{S:Ch}{u:Ch->Ch}{K:Ch->Prop}(f:oi.apart ops oj=true)(I:Mh ci cj=true)(b:(!Nat.beq cj 5 || fW (ops:=ops) oi oj)=true)
 (k:Mv P TB ops ci oi S u) (h:St P TB ops cj oj K (u S)):St P TB ops cj oj (λS'=>∃u,Mv P TB ops ci oi S' u/\K (u S')) S:=by
 obtain⟨Q,X,V⟩:=Oper.apart_spec f;have j:∀t,oi.dst=some t->oj.dst≠some t:=X;have c:=k.nK;have H:=Mi I;unfold St at *;by_cases U:cj=1
 ·rw[if_pos U]at h |-
  exact h.swap (by omega) f k
 ·rw [if_neg U]at h |-
  by_cases ck:1000<=cj
  ·rw[if_pos ck]at h |-
   refine h.swap ?_ f k
   rcases H with e|e|e|⟨Y,e2,e3,e4,R|R⟩
   ·exact .inl e
   ·exact .inr (.inl e)
   ·omega
   ·omega
   ·exact .inr (.inr ⟨Y,R⟩)
  rw[if_neg ck]at h |-;by_cases J:cj=5
  ·rw [if_pos J]at h |-
   obtain⟨d,T,z,r,p,m⟩:=h;have s:d∈oj.looksAt ops:=HZ r;have a:oi.dst≠some d:=λe=>Q d e s
   have F:d∉oi.looksAt ops:=by
    subst J;unfold fW at b;simp only[sf,pT,rI,f7]at b;intro N;have:=b d N;simp[s]at this
   have n:S.pd d=some (T,z):=by
    rcases c with ⟨x,rfl⟩|⟨d',q,g,rfl⟩
    ·have:(if oi.dst=some d then none else S.pd d)=some (T,z):=p
     rwa[if_neg a]at this
    ·have:(if d=d' then some q else S.pd d)=some (T,z):=p
     rwa[if_neg (λe=>a (by rw[g,e]))]at this
   have i:(u S).ad d T z=u (S.ad d T z):=by
    rcases c with ⟨x,rfl⟩|⟨d',q,g,rfl⟩
    ·exact S.jb a
    ·exact S.fG λe=>a (by rw[g,e])
   have G:Mv P TB ops ci oi (S.ad d T z) u:=by
    have:=k.put (d:=some d) (x:=.o (.ptr S.nx z.length 0 0)) (σ:=(S.nx,.cells T z.length [z.map zC])::S.σ) (nx:=S.nx+1) (pd:=S.pd) (λt ht=>by injection ht with ht;subst ht;exact F) (λt ht e=>a (by rw[ht];exact e.symm)) (λe=>by omega) (λe=>by omega)
    rcases this with ⟨B,A,w⟩|⟨B,A,y,w,L⟩|⟨B,A,dd,T',z',w,L,a5,a6,a7,Z⟩
    ·exact .inl ⟨B,A,w⟩
    ·exact .inr (.inl ⟨B,A,y,w,L⟩)
    ·exact .inr (.inr ⟨B,A,dd,T',z',w,L,a5,a6,a7,Z⟩)
   rw[i]at m;exact⟨d,T,z,r,n,m.swap (by omega) f G⟩
  ·rw[if_neg J]at h |-
   obtain⟨v,M,hk⟩:=h;have l:=M.nK;refine⟨v,M.back c Q j,u,?_,by rw[<-WA c l j];exact hk⟩
   rcases l with ⟨x,rfl⟩|⟨d,q,N,rfl⟩
   ·exact k.put (σ:=S.σ) (nx:=S.nx) (pd:=S.pd) (λt ht=>V t ht) j (λ_=>⟨rfl,rfl⟩) (λ_=>rfl)
   ·exact k
end
section
variable {P:Program}{TB:BJ}{ops:Array Oper}
theorem FY(K:Ch->Prop):∀(r:List (Nat×Nat)) (listed:Array Bool) (S:Ch),GA ops listed->Bu ops r listed=true->Ew ops r=true->
 Lex P TB ops r K S->∀j,j∈Region.ready .any ops listed->∃t c s o,r=t++(j,c)::s/\ops[j]?=some o/\St P TB ops c o (Lex P TB ops (t++s) K) S
 | [],listed,_,_,m,_,_,j,p=>by have:=Mt _ _ m j p;simp at this
 | (i, ci) :: r,listed,S,F,m,hk,h,j,p=>by
  obtain⟨oi,g,h⟩:=h;by_cases k:j=i
  ·subst k
   exact⟨[],ci,r,oi,rfl,g,h⟩
  ·simp only [Bu,d4]at m
   simp only[Ew,d4]at hk
   have hi:i∈Region.ready .any ops listed:=by simpa using m.1
   have y:j∈r.map (·.1):=Mt r _ m.2 j (ready_mono p k);obtain⟨⟨j',cj⟩,n,rfl⟩:=d9.1 y;have l:=hk.1;unfold TG at l;rw[f7]at l
   have f:∀c',(j',c')∈r->∃oj,ops[j']?=some oj/\oi.apart ops oj=true/\Mh ci c'=true/\(!Nat.beq c' 5 || fW (ops:=ops) oi oj)=true:=by
    intro c' w;have a:=l _ w;simp only[dN]at a;rw[o8]at a
    rcases a with a|a
    ·exact absurd p (Ow F (Wy (Qe hi)) a)
    ·rw [g]at a
     cases e:ops[j']? with
     | none=>rw[e]at a;cases a
     | some oj=>
      rw[e]at a;simp only[d4]at a;exact⟨oj,rfl,a.1.1,a.1.2,a.2⟩
   have d:ci≠1/\¬1000<=ci/\ci≠5:=by
    obtain⟨oj,_,_,J,_⟩:=f cj n;have:=Mi J;omega
   have L:∃u,Mv P TB ops ci oi S u/\Lex P TB ops r K (u S):=by
    unfold St at h;rwa[if_neg d.1,if_neg d.2.1,if_neg d.2.2]at h
   obtain⟨u,G,H⟩:=L;obtain⟨t,c,s,oj,B,e,I⟩:=FY K r (listed.setIfInBounds i true) _ (Ix F hi) m.2 hk.2 H j' (ready_mono p k);obtain⟨oj',b,A,z,q⟩:=f c (by rw[B];simp);rw[e]at b
   injection b with b
   subst b;refine⟨(i,ci)::t,c,s,oj,by rw[B];rfl,e,?_⟩;refine(St.swap A z q G I).mono λS' ⟨u',v,x⟩=>?_;refine⟨oi,g,?_⟩;unfold St;rw[if_neg d.1,if_neg d.2.1,if_neg d.2.2];exact⟨u',v,x⟩
theorem Mr:∀(e a:List (Nat×Nat)) (x:Nat×Nat),Ew ops (e++x::a)=true->Ew ops (e++a)=true
 | [],a,(j,c),h=>by
  simp only[rM,Ew,d4]at h;exact h.2
 | (i,d)::e,a,x,h=>by
  simp only[qf,Ew,d4]at h |-;refine⟨?_,Mr e a x h.2⟩;have f:=h.1;unfold TG at f |-;rw[f7]at f |-;intro y b;refine f y ?_
  rcases f6.1 b with b|b
  ·exact pf _ b
  ·exact pm _ (pg _ b)
structure ZT (Γ:Ctx) (V:View) (σ:Ab) (b:Nat) (T:TypeId) (z:List Value):Prop where
 cells:∃cur:Array Value,V.w.heap[b]?=some (.cells cur T (0,0))/\cur.toList=z
 ni:¬V.I b
 ns:∀id o,look σ id=some o->¬V.nl id->¬E5 V id o b
 lo:Γ.V.w.heap.size<=b
 zok:z.all QP=true
theorem ZT.lt{Γ:Ctx}{V:View}{σ:Ab}{b:Nat}{T:TypeId}{z:List Value}(h:ZT Γ V σ b T z):b<V.w.heap.size:=by
 obtain⟨cur,a,_⟩:=h.cells;exact(pc.1 a).1
theorem Inv.comp{Γ:Ctx}{V V':View}{σ σ':Ab}{Q:Uo}(h:Inv TB Γ V σ)(n:∀b,Q.J b->Γ.J b\/Γ.V.w.heap.size<=b\/Γ.F b)(m:∀b,Q.B b->Γ.V.w.heap.size<=b\/Γ.F b)(d:Inv TB (Fz V V σ Q) V' σ'):Inv TB Γ V' σ':=by
 have f:∀b,D0 V σ b\/Q.B b->Γ.V.w.heap.size<=b\/Γ.F b:=by
  rintro b (⟨id,o,c,e,a⟩|hb)
  ·exact h.live id o c e b a
  ·exact m b hb
 refine⟨d.os.trans h.os,d.tape.trans h.tape,d.output.trans h.output,λb hb g=>?_,d.iLt,λb hb=>?_,h.ext.trans d.ext,d.st,λid o c e b hb=>?_,d.tabs,?_⟩
 ·have c:¬(D0 V σ b\/Q.B b):=λl=>by rcases f b l with e|e;omega;exact g e
  exact(d.old b (ms hb h.ext.size) c).trans (h.old b hb g)
 ·rcases d.iNew b hb with c|c|c
  ·exact h.iNew b c
  ·exact .inr (.inl (lm h.ext.size c))
  ·exact .inr (f b c)
 ·rcases d.live id o c e b hb with a|a
  ·exact .inl (lm h.ext.size a)
  ·exact f _ a
 ·obtain⟨Q1,k,j,i⟩:=d.hid
  refine⟨Q1,k,λb hb=>?_,λb hb=>?_⟩
  ·rcases j b hb with a|a|a
   ·exact n b a
   ·exact .inr (.inl (lm h.ext.size a))
   ·exact .inr (f b a)
  ·rcases i b hb with a|a
   ·exact .inl (lm h.ext.size a)
   ·exact f b a
theorem ZT.comp{Γ:Ctx}{V V':View}{σ σ':Ab}{b:Nat}{T:TypeId}{z:List Value}{Q:Uo}(d:ZT Γ V σ b T z)(h:¬Q.B b)(j:Inv TB (Fz V V σ Q) V' σ'):ZT Γ V' σ' b T z:=by
 have i:=d.lt
 have c:¬(D0 V σ b\/Q.B b):=by
  rintro(⟨id,o,a,g,f⟩|hb)
  ·exact d.ns id o a g f
  ·exact h hb
 refine⟨?_,λhI=>?_,λid o a g e=>?_,d.lo,d.zok⟩
 ·obtain⟨cur,a,g⟩:=d.cells
  exact⟨cur,(j.old b i c).trans a,g⟩
 ·rcases j.iNew b hI with a|a|a
  ·exact d.ni a
  ·have a:V.w.heap.size<=b:=a;omega
  ·exact c a
 ·rcases j.live id o a g b e with f|f
  ·have f:V.w.heap.size<=b:=f;omega
  ·exact c f
structure kO (TB:BJ) (Γ:Ctx) (V:View) (S:Ch) (a:Act) (Q:Uo):Prop where
 s:OA TB V S.σ Q
 j:∀b,Q.J b->Γ.J b\/Γ.V.w.heap.size<=b\/Γ.F b
 b:∀b,Q.B b->Γ.V.w.heap.size<=b\/Γ.F b
 p:∀d q b,S.pd d=some q->a.tmps[d]?=some (.pointer (some ⟨b,0,none⟩))->¬Q.B b
structure Kw (TB:BJ) (Γ:Ctx) (N:Nat) (V:View) (S:Ch) (a:Act):Prop where
 st:Cw TB Γ N V S.f S.σ S.nx a
 pd:∀d T z,S.pd d=some (T,z)->S.f d=none/\∃b,a.tmps[d]?=some (.pointer (some ⟨b,0,none⟩))/\ZT Γ V S.σ b T z
 ne:∀d d' q q' b b',S.pd d=some q->S.pd d'=some q'->d≠d'->a.tmps[d]?=some (.pointer (some ⟨b,0,none⟩))->a.tmps[d']?=some (.pointer (some ⟨b',0,none⟩))->b≠b'
 sc:∃Q,kO TB Γ V S a Q
variable {Γ:Ctx}{N:Nat}{V V':View}{S:Ch}{a:Act}
theorem II{a:Act}{d:Option Tmp}{v:Value}{t:Nat}(h:d≠some t):(a.put d v).tmps[t]?=a.tmps[t]?:=by
 cases d with
 | none=>rfl
 | some d=>
  have:d≠t:=λe=>h (by rw[e]);simp[Act.put,qw this]
theorem Kw.put(h:Kw TB Γ N V S a){d:Option Tmp}{x:E}{v:Value}{σ':Ab}{nx':Nat}(P:∀t,d=some t->t<N)(e:Ext V V'){Q:Uo}(l:kO TB Γ V S a Q)(hi:Inv TB (Fz V V S.σ Q) V' σ')(M:V'.nx=nx')(L:Bm V' x v):Kw TB Γ N V' (Ch.put ⟨S.f,σ',nx',S.pd⟩ d x) (a.put d v):=by
 have A:∀t q,(if d=some t then none else S.pd t)=some q->d≠some t/\S.pd t=some q:=λt q i=>by
  split at i
  ·cases i
  ·rename_i k;exact⟨k,i⟩
 refine⟨h.st.put P e (Inv.comp h.st.inv l.j l.b hi) M L,λt T z i=>?_,λt t' q q' b b' i F k hb r=>?_,?_⟩
 ·obtain⟨n,m⟩:=A t _ i
  obtain⟨c,b,g,B⟩:=h.pd t T z m;refine⟨?_,b,by rw[II n];exact g,B.comp (l.p t _ b m g) hi⟩
  show BZ S.f d x t=none
  rw[DV n];exact c
 ·obtain⟨n,m⟩:=A t _ i
  obtain⟨H,G⟩:=A t' _ F;rw[II n]at hb;rw[II H]at r;exact h.ne t t' q q' b b' m G k hb r
 ·obtain⟨Q1,K,J,I⟩:=hi.hid
  refine⟨Q1,K,λb hb=>?_,λb hb=>?_,λt q b i hb R=>?_⟩
  ·rcases J b hb with c|c|c|c
   ·exact l.j b c
   ·exact .inr (.inl (lm h.st.inv.ext.size c))
   ·obtain⟨id,o,y,u,s⟩:=c;exact .inr (h.st.inv.live id o y u b s)
   ·exact .inr (l.b b c)
  ·rcases I b hb with c|c|c
   ·exact .inl (lm h.st.inv.ext.size c)
   ·obtain⟨id,o,y,u,s⟩:=c;exact h.st.inv.live id o y u b s
   ·exact l.b b c
  ·obtain⟨n,m⟩:=A t _ i
   rw[II n]at hb;obtain⟨_,U,g,B⟩:=h.pd t q.1 q.2 m;rw[hb]at g
   injection g with g;injection g with g;injection g with g;injection g with g
   subst g
   rcases I b R with c|c|c
   ·have c:V.w.heap.size<=b:=c
    have:=B.lt;omega
   ·obtain⟨id,o,y,u,s⟩:=c;exact B.ns id o y u s
   ·exact l.p t _ b m hb c
theorem Inv.grow{σ:Ab}(h:Inv TB Γ V σ){w:World}(d:w.os=V.w.os)(ht:w.tape=V.w.tape)(i:w.output=V.w.output)(c:V.w.heap.size<=w.heap.size)(a:∀b,b<V.w.heap.size->w.heap[b]?=V.w.heap[b]?):Inv TB Γ { V with w:=w } σ/\Ext V { V with w:=w } := by
 have e:Ext V { V with w:=w } := ⟨λ_ h=>h,λb hb=>a b (h.iLt b hb),c,λ_ _=>rfl,λ_ _=>rfl,λ_ _=>Iff.rfl,jp _⟩
 refine⟨⟨d.trans h.os,ht.trans h.tape,i.trans h.output,λb hb k=>(a b (ms hb h.ext.size)).trans (h.old b hb k),λb hb=>ms (h.iLt b hb) c,h.iNew,h.ext.trans e,⟨λid o f=>?_,h.st.lt,h.st.free,h.st.inj⟩,h.live,λx g=>?_,h.hid.step (λ_ h=>h) e.heap c (λb hb _ _=>a b hb) (λ_ h=>.inl h) λb hb=>.inl (Jp e h.st.lt hb)⟩,e⟩
 ·exact(h.st.obj id o f).AS e (h.st.lt id o f) λj b hb=>a _ ((h.st.obj id o f).blt j hb)
 ·have:=h.tabs x g
  exact⟨this.1,(a _ (h.iLt _ this.1)).trans this.2⟩
theorem Kw.alloc(h:Kw TB Γ N V S a){d:Tmp}{T:TypeId}{zv:Value}{z:List Value}(J:d<N)(G:S.f d=none)(I:zv.cells.toList=z)(B:z.all QP=true):Kw TB Γ N { V with w:=V.w.alloc (.cells zv.cells T) } (S.H0 d (T,z)) (a.put (some d) (.pointer (some ⟨V.w.heap.size,0,none⟩))):=by
 obtain⟨hi,x⟩:=Inv.grow h.st.inv (w:=V.w.alloc (.cells zv.cells T)) rfl rfl rfl (by simp) (λb hb=>Bh _ _ _ hb)
 have F:d<a.tmps.size:=by rw[h.st.size];exact J
 have k:(a.put (some d) (.pointer (some ⟨V.w.heap.size,0,none⟩))).tmps[d]?=some (.pointer (some ⟨V.w.heap.size,0,none⟩)):=by
  simp[Act.put,F]
 refine⟨⟨λt e ht=>?_,h.st.lt,by simp[Act.put,h.st.size],hi,h.st.nx,h.st.defers⟩,λt T' z' g=>?_,λt t' q q' b b' g i m hb c=>?_,?_⟩
 ·have ht:S.f t=some e:=ht
  have m:d≠t:=λe=>by subst e;rw[G]at ht;cases ht
  have:=(h.st.env t e ht).ext x
  simpa[Act.put,qw m]using this
 ·have g:(if t=d then some (T,z) else S.pd t)=some (T',z'):=g
  by_cases e:t=d
  ·subst e
   rw[if_pos rfl]at g
   injection g with g;injection g with A y
   subst A y;refine⟨G,_,k,⟨⟨zv.cells,Cj _ _,I⟩,λhI=>?_,λid o v l e=>?_,?_,B⟩⟩
   ·exact Nat.lt_irrefl _ (h.st.inv.iLt _ hI)
   ·have n:=(h.st.inv.st.obj id o v).blt l e
    omega
   ·exact h.st.inv.ext.size
  ·rw[if_neg e]at g
   obtain⟨v,b,l,n⟩:=h.pd t T' z' g;refine⟨v,b,by rw[II (λe'=>e (by injection e' with e';exact e'.symm))];exact l,⟨?_,n.ni,n.ns,n.lo,n.zok⟩⟩;obtain⟨cur,L,K⟩:=n.cells;exact⟨cur,(Bh _ _ _ n.lt).trans L,K⟩
 ·have g:(if t=d then some (T,z) else S.pd t)=some q:=g
  have i:(if t'=d then some (T,z) else S.pd t')=some q':=i
  have old:∀t q b,t≠d->S.pd t=some q->(a.put (some d) (.pointer (some ⟨V.w.heap.size,0,none⟩))).tmps[t]?=some (.pointer (some ⟨b,0,none⟩))->a.tmps[t]?=some (.pointer (some ⟨b,0,none⟩))/\b<V.w.heap.size:=λt q b e g hb=>by
   rw[II (λe'=>e (by injection e' with e';exact e'.symm))]at hb;obtain⟨_,M,l,n⟩:=h.pd t q.1 q.2 g;rw[hb]at l
   injection l with l;injection l with l;injection l with l;injection l with l
   subst l;exact⟨hb,n.lt⟩
  by_cases e:t=d
  ·subst e
   rw[k]at hb
   injection hb with hb;injection hb with hb;injection hb with hb;injection hb with hb
   rw[if_neg (Ne.symm m)]at i;have:=(old t' q' b' (Ne.symm m) i c).2;omega
  ·rw [if_neg e]at g
   have v:=old t q b e g hb;by_cases e':t'=d
   ·subst e'
    rw[k]at c
    injection c with c;injection c with c;injection c with c;injection c with c
    omega
   ·rw[if_neg e']at i
    exact h.ne t t' q q' b b' g i m v.1 (old t' q' b' e' i c).1
 ·obtain⟨Q,u⟩:=h.sc
  refine⟨Q,u.s.step (λ_ h=>h) x.heap x.size (λb hb _ _=>Bh _ _ _ hb) (λ_ h=>.inl h) λb hb=>.inl (Jp x h.st.inv.st.lt hb),u.j,u.b,λt q b g hb H=>?_⟩;have g:(if t=d then some (T,z) else S.pd t)=some q:=g;by_cases e:t=d
  ·subst e
   rw[k]at hb
   injection hb with hb;injection hb with hb;injection hb with hb;injection hb with hb
   have:=u.s.r.blt H;omega
  ·rw[if_neg e]at g
   rw[II (λe'=>e (by injection e' with e';exact e'.symm))]at hb;exact u.p t q b g hb H
theorem Kw.kU(h:Kw TB Γ N V S a){d:Tmp}{T:TypeId}{z:List Value}(hd:d<N)(hq:S.pd d=some (T,z)):∃V',V'.w=V.w/\Kw TB Γ N V' (S.ad d T z) a:=by
 obtain⟨hf,b,hb,Z⟩:=h.pd d T z hq;obtain⟨cur,hcur,Y⟩:=Z.cells;have hi:=h.st.inv;have X:=h.st.nx;have e:Ext V (Ax V b 1 False V.w):=Fc (jp _) λ_ _=>rfl
 have G:(Ax V b 1 False V.w).ρ V.nx=b:=by simp[Ax]
 have hrel:Dq (Ax V b 1 False V.w) (z.map zC) cur:=by
  refine⟨by rw[gt,<-Y];simp,λj c v hj hv=>?_⟩
  have hzj:z[j]?=some v:=by rw[<-Y,pS];exact hv
  rw[i9,hzj]at hj
  injection hj with hj
  subst hj;exact Ls (f7.1 Z.zok v (co hzj))
 have k:∀id o,look ((S.nx,O.cells T z.length [z.map zC])::S.σ) id=some o->(id=V.nx/\o=O.cells T z.length [z.map zC])\/(id≠V.nx/\look S.σ id=some o):=λid o y=>by
  rw[Az]at y;rw[<-X]at y;by_cases I:V.nx=id
  ·rw[if_pos I]at y;injection y with y;exact .inl ⟨I.symm,y.symm⟩
  ·rw[if_neg I]at y;exact .inr ⟨Ne.symm I,y⟩
 have n:∀id,id<V.nx->((Ax V b 1 False V.w).nl id↔V.nl id):=λid I=>e.nl id I;obtain⟨Q,L⟩:=h.sc
 have hsQ:OA TB (Ax V b 1 False V.w) ((S.nx,O.cells T z.length [z.map zC])::S.σ) Q:=by
  refine⟨L.s.r,L.s.ji,L.s.bi,λb' ⟨id,o,y,K,l⟩ hB=>?_⟩
  rcases k id o y with ⟨rfl,rfl⟩|⟨M,B⟩
  ·have l:b'=_:=l
   rw[G]at l;subst l;exact L.p d _ _ hq hb hB
  ·have g:=hi.st.lt id o B
   exact L.s.ap b' ⟨id,o,B,λu=>K ((n id g).2 u),(AB e g).1 l⟩ hB
 have hinv:Inv TB Γ (Ax V b 1 False V.w) ((S.nx,O.cells T z.length [z.map zC])::S.σ):=by
  refine⟨hi.os,hi.tape,hi.output,hi.old,hi.iLt,hi.iNew,hi.ext.trans e,⟨λid o y=>?_,λid o y=>?_,λid o y K b' l hI=>?_,λid id' o o' y hl' P K hn' b' A J=>?_⟩,λid o y K b' l=>?_,hi.tabs,⟨Q,hsQ,L.j,L.b⟩⟩
  ·rcases k id o y with ⟨rfl,rfl⟩|⟨M,B⟩
   ·refine .inr ⟨by simp[Ax],cur,by rw[G];exact hcur,?_,by simp[Ax],by simp[Ax,maxLen],?_,?_⟩
    ·simp[Ax,<-Y]
    ·intro r hr;simp at hr;subst hr;simp
    ·intro i r j c hi hj
     have M:=Zz hrel i r j c hi hj;rw[gt]at M;exact M
   ·exact(hi.st.obj id o B).AS e (hi.st.lt id o B) λ_ _ _=>rfl
  ·rcases k id o y with ⟨rfl,rfl⟩|⟨M,B⟩
   ·exact qZ _
   ·exact qB (hi.st.lt id o B)
  ·rcases k id o y with ⟨rfl,rfl⟩|⟨M,B⟩
   ·have l:b'=_:=l
    rw[G]at l;subst l;exact Z.ni hI
   ·have g:=hi.st.lt id o B
    exact hi.st.free id o B (λu=>K ((n id g).2 u)) b' ((AB e g).1 l) hI
  ·rcases k id o y with ⟨rfl,rfl⟩|⟨M,B⟩<;>rcases k id' o' hl' with ⟨rfl,rfl⟩|⟨h1',R⟩
   ·exact absurd rfl P
   ·have g:=hi.st.lt id' o' R
    have A:b'=_:=A;rw[G]at A;subst A;exact Z.ns id' o' R (λu=>hn' ((n id' g).2 u)) ((AB e g).1 J)
   ·have g:=hi.st.lt id o B
    have J:b'=_:=J;rw[G]at J;subst J;exact Z.ns id o B (λu=>K ((n id g).2 u)) ((AB e g).1 A)
   ·have g:=hi.st.lt id o B
    have U:=hi.st.lt id' o' R;exact hi.st.inj id id' o o' B R P (λu=>K ((n id g).2 u)) (λu=>hn' ((n id' U).2 u)) b' ((AB e g).1 A) ((AB e U).1 J)
  ·rcases k id o y with ⟨rfl,rfl⟩|⟨M,B⟩
   ·have l:b'=_:=l
    rw[G]at l;subst l;exact .inl Z.lo
   ·have g:=hi.st.lt id o B
    exact hi.live id o B (λu=>K ((n id g).2 u)) b' ((AB e g).1 l)
 refine⟨Ax V b 1 False V.w,rfl,⟨λt x ht=>?_,λt x ht=>?_,h.st.size,hinv,by show V.nx+1=S.nx+1;rw[X],h.st.defers⟩,λt T' z' H=>?_,λt t' q q' b1 b1' m F P A hb1'=>?_,⟨Q,hsQ,L.j,L.b,λt q b1 m A=>?_⟩⟩
 ·by_cases et:t=d
  ·subst et
   have ht:BZ S.f (some t) (.o (.ptr S.nx z.length 0 0)) t=some x:=ht;simp only[BZ,if_true]at ht
   injection ht with ht
   subst ht
   have hg:a.tmps.getD t undef=.pointer (some ⟨b,0,none⟩):=by simp[hb]
   rw[hg,<-X];exact O8
  ·have ht:BZ S.f (some d) (.o (.ptr S.nx z.length 0 0)) t=some x:=ht
   rw[DV (λe'=>et (by injection e' with e';exact e'.symm))]at ht;exact(h.st.env t x ht).ext e
 ·by_cases et:t=d
  ·subst et;exact hd
  ·have ht:BZ S.f (some d) (.o (.ptr S.nx z.length 0 0)) t=some x:=ht
   rw[DV (λe'=>et (by injection e' with e';exact e'.symm))]at ht;exact h.st.lt t x ht
 ·have H:(if t=d then none else S.pd t)=some (T',z'):=H
  by_cases et:t=d
  ·rw[if_pos et]at H;cases H
  ·rw [if_neg et]at H
   obtain⟨M,b2,B,h3⟩:=h.pd t T' z' H;refine⟨?_,b2,B,⟨h3.cells,h3.ni,λid o y K=>?_,h3.lo,h3.zok⟩⟩
   ·show BZ S.f (some d) _ t=none
    rw[DV (λe'=>et (by injection e' with e';exact e'.symm))];exact M
   ·rcases k id o y with ⟨rfl,rfl⟩|⟨h4,h5⟩
    ·intro u
     have u:b2=_:=u;rw[G]at u;exact h.ne d t _ _ b b2 hq H (Ne.symm et) hb B u.symm
    ·have g:=hi.st.lt id o h5
     exact λu=>h3.ns id o h5 (λu=>K ((n id g).2 u)) ((AB e g).1 u)
 ·have m:(if t=d then none else S.pd t)=some q:=m
  have F:(if t'=d then none else S.pd t')=some q':=F;by_cases et:t=d
  ·rw[if_pos et]at m;cases m
  ·by_cases et':t'=d
   ·rw[if_pos et']at F;cases F
   ·rw[if_neg et]at m;rw[if_neg et']at F
    exact h.ne t t' q q' b1 b1' m F P A hb1'
 ·have m:(if t=d then none else S.pd t)=some q:=m
  by_cases et:t=d
  ·rw[if_pos et]at m;cases m
  ·rw[if_neg et]at m
   exact L.p t q b1 m A
end
section
variable {P:Program}{TB:BJ}{ops:Array Oper}{Γ:Ctx}{N:Nat}
def YD(TB:BJ)(Γ:Ctx)(N:Nat)(K:Ch->Prop)(Q:Exit->Act->World->Prop):Prop:=∀V S a,Kw TB Γ N V S a->K S->Q .normal a V.w
theorem Qw{i m:Nat}{o:Oper}(n:ops[i]?=some o)(k:∀t,o.dst=some t->t<N){K:Ch->Prop}{K':Act->World->Prop}{Q:Exit->Act->World->Prop}
 (l:∀V S a,Kw TB Γ N V S a->K S->K' a V.w) {V:View} {S:Ch} {a:Act} (b:Kw TB Γ N V S a) (h:fx P TB ops m o K S):wpOp P ops Q i K' a V.w:=by
 have d:∀t e,S.f t=some e->t<a.tmps.size:=λt e p=>by rw[b.st.size];exact b.st.lt t e p
 obtain⟨Q0,j⟩:=b.sc
 have c:Good TB V S.σ S.nx Q0:=⟨b.st.inv.iLt,b.st.inv.st,b.st.inv.tabs,b.st.nx,j.s⟩
 unfold wpOp;simp only[n]
 rcases h with ⟨g,hk⟩|⟨g,hk⟩
 ·rw[Io b.st.env d g]
  have q:Kw TB Γ N V (S.put o.dst (.t [])) (a.put o.dst undef):=b.put (σ':=S.σ) k (Ext.refl _) j c.inv b.st.nx (NR V)
  simpa using l _ _ _ q hk
 ·rw[Io b.st.env d g]
  simp only[if_true];refine .inl (Ys P (Oper.wp_mono ?_ (hk (Fz V V S.σ Q0) V a (b.st.env.op o) c.inv b.st.nx)));rintro a' w' ⟨V',v,x,σ',rfl,rfl,z,y,u,r⟩;exact l V' _ _ (b.put k z j y rfl u) r.2
theorem bC{d:Option Tmp}{ty:TypeId}{pos:String}{af:Array Edge}{g:Option (Nat×Bool)}{ρ:Operand->Value}{T:TypeId}{z:List Value}(c:bS P T=some z):∃zv:Value,zv.cells.toList=z/\∀w:World,(execOp ρ ⟨d,.alloc T,ty,pos,af,g⟩).run P w=.ok (.value (.pointer (some ⟨w.heap.size,0,none⟩))) (w.alloc (.cells zv.cells T)):=by
 obtain⟨i,zv,hi,b,a⟩:=HI c;exact⟨zv,a,λw=>by simp[execOp,Instr.alloc,zeroValue,typeInfo,hi,b,newVar,newRow,go_sem]⟩
theorem Pd{i c:Nat}{o:Oper}(l:ops[i]?=some o)(n:∀t,o.dst=some t->t<N){K:Ch->Prop}{K':Act->World->Prop}{Q:Exit->Act->World->Prop}
 (p:∀V S a,Kw TB Γ N V S a->K S->K' a V.w) {V:View} {S:Ch} {a:Act} (j:Kw TB Γ N V S a) (h:St P TB ops c o K S):wpOp P ops Q i K' a V.w:=by
 unfold St at h;by_cases I:c=1
 ·rw[if_pos I]at h;exact Qw l n p j h
 ·rw [if_neg I]at h
  by_cases ck:1000<=c
  ·rw[if_pos ck]at h;exact Qw l n p j h
  rw[if_neg ck]at h;by_cases H:c=5
  ·rw [if_pos H]at h
   obtain⟨d,T,z,_,r,y⟩:=h
   have A:d<N:=by
    obtain⟨_,b,hb,_⟩:=j.pd d T z r;have:=(pc.1 hb).1;rw[j.st.size]at this;exact this
   obtain⟨V',X,k⟩:=j.kU A r;have:=Qw (Q:=Q) l n p k y;rwa[X]at this
  ·rw [if_neg H]at h
   obtain⟨u,L,hk⟩:=h
   rcases L with ⟨F,s,rfl⟩|⟨F,s,x,f,rfl⟩|⟨F,s,d,T,z,f,B,U,R,M,rfl⟩
   ·exact Qw (m:=0) l n p j (.inl ⟨s,hk⟩)
   ·refine Qw (m:=0) l n p j (.inr ⟨s,λΓ=>A6.m8 P TB Γ ?_ ⟨λ_ _=>rfl,hk⟩⟩)
    unfold QC at f;by_cases e:c=2
    ·rw[if_pos e]at f;exact f Γ S.σ S.nx
    ·rw[if_neg e]at f
     by_cases G:c=0
     ·rw[if_pos G]at f;exact f Γ
     ·rw[if_neg G]at f;exact f.2 Γ S.σ S.nx rfl
   ·unfold wpOp
    simp only[l]
    have J:Region.wanted o (yielded ops a.tmps)=true:=by unfold Region.wanted;rw[s]
    rw[J];simp only[if_true];refine .inl ?_;obtain⟨dst,op,ty,pos,af,g⟩:=o;simp only at f B;subst f B;obtain⟨zv,v,q⟩:=bC (P:=P) (d:=some d) (ty:=ty) (pos:=pos) (af:=af) (g:=g) (ρ:=a.eval) U;unfold Oper.wp;rw[q];have k:=j.alloc (T:=T) (zv:=zv) (n d rfl) M v R;exact p _ _ _ k hk
theorem WH{ops:Array Oper}(u:Hr N ops=true){K:Ch->Prop}{Q:Exit->Act->World->Prop}(v:YD TB Γ N K Q):∀(n:Nat) (r:List (Nat×Nat)) (listed:Array Bool) (V:View) (S:Ch) (a:Act),
 r.length=n->GA ops listed->Bu ops r listed=true->Ew ops r=true->Kw TB Γ N V S a->Lex P TB ops r K S->wpAny P .any ops Q n listed a V.w
 | 0,r,listed,V,S,a,f,s,b,hk,m,h=>by
  have:r=[]:=mt.1 f;subst this;refine⟨?_,v V S a m h⟩
  simpa[Bu]using b
 | n + 1,r,listed,V,S,a,f,s,b,hk,m,h=>by
  refine⟨λe=>?_,λj q=>?_⟩
  ·cases r with
   | nil=>simp at f
   | cons x r=>
    obtain⟨i,c⟩:=x;simp only[Bu,d4]at b;have:=b.1;rw[e]at this;simp at this
  ·obtain⟨k,c,g,o,rfl,d,y⟩:=FY K r listed S s b hk h j q
   refine Pd d (λt ht=>Xc u d ht) (λV' S' a' l p=>?_) m y;exact WH u v n (k++g) _ V' S' a' (by simp at f |-;omega) (Ix s q) (P7 k g j c listed b q) (Mr k g _ hk) l p
variable {i c:Nat}{r:List (Nat×Nat)}{L:List (Nat×E)}{σ:Ab}{nx:Nat}{pl:List (Nat×(TypeId×List Value))}{K:Ch->Prop}{Q:Exit->Env->Ab->Nat->Prop}
def HA(P:Program)(TB:BJ)(ops:Array Oper)(r:List (Nat×Nat))(K:Ch->Prop)(L:List (Nat×E))(σ:Ab)(nx:Nat)(pl:List (Nat×(TypeId×List Value))):Prop:=Lex P TB ops r K ⟨look L,σ,nx,look pl⟩
theorem Rz{id:Nat}(r:List (Nat×Nat))(p:P.follows .mixedOrders=true)(s:Hr N ops=true)(o:r.length=ops.size)(i:(Bu ops r (Array.replicate ops.size false) && Ew ops r)=true)
 (h:HA P TB ops r (λS=>Q .normal S.f S.σ S.nx) L σ nx []):Ak P TB Γ N (.region id ops true) Q (look L) σ nx:=by
 intro V a c;rw[d4]at i;refine wp_region_any p ?_;obtain⟨k,t⟩:=c.inv.drew
 have g:Cw TB Γ N { V with w:={ V.w with drawn:=V.w.drawn+1 } } (look L) σ V.nx a:=⟨c.env.ext t,c.lt,c.size,k,rfl,c.defers⟩
 have j:=c.nx;subst j;exact WH s (λV S a c hk=>⟨V,S.f,S.σ,rfl,by rw[c.st.nx];exact hk,by rw[c.st.nx];exact c.st⟩) ops.size r _ { V with w:={ V.w with drawn:=V.w.drawn+1 } } _ a o (N0 ops) i.1 i.2 ⟨g,λd T z e=>(by cases e),λd d' q q' b b' e=>(by cases e),let ⟨Q0,n,m,l⟩:=k.hid;⟨Q0,n,m,l,λd q b e=>(by cases e)⟩⟩ h
theorem Aa{K:Ch->Prop}(h:K ⟨look L,σ,nx,look pl⟩):HA P TB ops [] K L σ nx pl:=h
theorem Ru(h:Q .normal (look L) σ nx):HA P TB ops [] (λS=>Q .normal S.f S.σ S.nx) L σ nx pl:=h
def Et(d:Nat):List (Nat×(TypeId×List Value))->List (Nat×(TypeId×List Value))
 | []=>[]
 | (k,x)::r=>bif Nat.beq k d then Et d r else (k,x)::Et d r
theorem IE:∀(pl:List (Nat×(TypeId×List Value))) (d t:Nat),look (Et d pl) t=if t=d then none else look pl t
 | [],d,t=>by simp[Et,look]
 | (k, x)::r,d,t=>by
  simp only[Et];by_cases h:k=d
  ·subst h
   simp only[sf,cond_true];rw[IE r k t,Az];by_cases a:t=k
   ·simp[a]
   ·rw[if_neg a,if_neg a,if_neg (Ne.symm a)]
  ·have:Nat.beq k d=false:=by
    cases hb:Nat.beq k d
    ·rfl
    ·exact absurd (i8 hb) h
   rw[this,cond_false,Az,Az,IE r d t];by_cases a:t=d
   ·subst a;simp[h]
   ·simp[a]
theorem JB{d:Tmp}{x:E}{σ':Ab}{nx':Nat}:Ch.put ⟨look L,σ',nx',look pl⟩ (some d) x=⟨look ((d,x)::L),σ',nx',look (Et d pl)⟩:=by
 unfold Ch.put;rw[ER];congr 1;funext t;rw[IE];by_cases h:t=d
 ·subst h;simp
 ·simp[h,Ne.symm h]
theorem Vx{x:E}{σ':Ab}{nx':Nat}:Ch.put ⟨look L,σ',nx',look pl⟩ none x=⟨look L,σ',nx',look pl⟩:=by
 unfold Ch.put;congr 1
def Bz(P:Program)(TB:BJ)(ops:Array Oper)(o:Oper)(i c:Nat)(r:List (Nat×Nat))(K:Ch->Prop)(L:List (Nat×E))(σ:Ab)(nx:Nat)(pl:List (Nat×(TypeId×List Value))):Prop:=
 ops[i]?=some o->HA P TB ops ((i,c)::r) K L σ nx pl
theorem Ag{o:Oper}(a:P4 ops.toList i=some o)(h:Bz P TB ops o i c r K L σ nx pl):HA P TB ops ((i,c)::r) K L σ nx pl:=h (by rw[P5]at a;simpa using a)
variable {d:Tmp}{op:Op}{ty:TypeId}{pos:String}{af:Array Edge}{g:Option (Nat×Bool)}
theorem CM{x:E}(b:∀Γ σ nx,A6 P TB Γ ⟨some d,op,ty,pos,af,g⟩ (look L) σ nx x)(j:BH ops ⟨some d,op,ty,pos,af,g⟩ (look L)=some true)(e:(Nat.beq c 0 || Nat.beq c 2)=true)(h:HA P TB ops r K ((d,x)::L) σ nx (Et d pl)):Bz P TB ops ⟨some d,op,ty,pos,af,g⟩ i c r K L σ nx pl:=by
 intro f;refine⟨_,f,?_⟩;unfold St
 have a:c=0\/c=2:=by
  simp only[o8,Nat.beq_eq]at e;exact e
 rw[if_neg (by omega),if_neg (by omega),if_neg (by omega)];refine⟨λS=>S.put (some d) x,.inr (.inl ⟨by omega,j,x,?_,rfl⟩),?_⟩
 ·unfold QC
  rcases a with a|a
  ·rw[if_neg (by omega),if_pos a];exact λΓ=>b Γ σ nx
  ·rw[if_pos a];exact b
 ·simp only
  rw[JB];exact h
theorem gO{x:E}(a:∀Γ,A6 P TB Γ ⟨some d,op,ty,pos,af,g⟩ (look L) σ nx x)(e:BH ops ⟨some d,op,ty,pos,af,g⟩ (look L)=some true)(f:Nat.beq c 0=true)(h:HA P TB ops r K ((d,x)::L) σ nx (Et d pl)):Bz P TB ops ⟨some d,op,ty,pos,af,g⟩ i c r K L σ nx pl:=by
 intro b;refine⟨_,b,?_⟩;unfold St
 have j:c=0:=by simpa using f
 rw[if_neg (by omega),if_neg (by omega),if_neg (by omega)];refine⟨λS=>S.put (some d) x,.inr (.inl ⟨by omega,e,x,?_,rfl⟩),?_⟩
 ·unfold QC;rw[if_neg (by omega),if_pos j];exact a
 ·simp only
  rw[JB];exact h
theorem oQ{x:E}(b:∀Γ σ' nx',look σ' (c-10)=look σ (c-10)->A6 P TB Γ ⟨some d,op,ty,pos,af,g⟩ (look L) σ' nx' x)(f:BH ops ⟨some d,op,ty,pos,af,g⟩ (look L)=some true)(a:(Nat.ble 10 c && Nat.ble c 999)=true)(h:HA P TB ops r K ((d,x)::L) σ nx (Et d pl)):Bz P TB ops ⟨some d,op,ty,pos,af,g⟩ i c r K L σ nx pl:=by
 intro e;refine⟨_,e,?_⟩;unfold St
 have j:10<=c/\c<=999:=by
  simp only[d4,Nat.ble_eq]at a;exact a
 rw[if_neg (by omega),if_neg (by omega),if_neg (by omega)];refine⟨λS=>S.put (some d) x,.inr (.inl ⟨by omega,f,x,?_,rfl⟩),?_⟩
 ·unfold QC;rw[if_neg (by omega),if_neg (by omega)];exact⟨j.1,b⟩
 ·simp only
  rw[JB];exact h
theorem Di(h:∀Γ,CC P TB Γ ⟨some d,op,ty,pos,af,g⟩ (look L) σ nx (λx σ' nx'=>Kept (c-1000) σ σ'/\HA P TB ops r K ((d,x)::L) σ' nx' (Et d pl)))(j:BH ops ⟨some d,op,ty,pos,af,g⟩ (look L)=some true)(a:Nat.ble 1000 c=true):Bz P TB ops ⟨some d,op,ty,pos,af,g⟩ i c r K L σ nx pl:=by
 intro b;refine⟨_,b,?_⟩;unfold St;have a:=am a;rw[if_neg (by omega),if_pos a]
 exact .inr ⟨j,λΓ=>(h Γ).mono λx σ' nx' hk=>by
  refine⟨hk.1,?_⟩;have e:Ch.put ⟨(⟨look L,σ,nx,look pl⟩:Ch).f,σ',nx',(⟨look L,σ,nx,look pl⟩:Ch).pd⟩ (some d) x=_:=JB
  rw[e];exact hk.2⟩
theorem Kz(h:∀Γ,CC P TB Γ ⟨some d,op,ty,pos,af,g⟩ (look L) σ nx (λx σ' nx'=>HA P TB ops r K ((d,x)::L) σ' nx' (Et d pl)))(j:BH ops ⟨some d,op,ty,pos,af,g⟩ (look L)=some true)(k:c=1):Bz P TB ops ⟨some d,op,ty,pos,af,g⟩ i c r K L σ nx pl:=by
 intro b;refine⟨_,b,?_⟩;unfold St;rw[if_pos k]
 exact .inr ⟨j,λΓ=>(h Γ).mono λx σ' nx' hk=>by
  refine⟨λid a=>by simp at a,?_⟩;have e:Ch.put ⟨(⟨look L,σ,nx,look pl⟩:Ch).f,σ',nx',(⟨look L,σ,nx,look pl⟩:Ch).pd⟩ (some d) x=_:=JB
  rw[e];exact hk⟩
theorem Ia(h:∀Γ,CC P TB Γ ⟨none,op,ty,pos,af,g⟩ (look L) σ nx (λ_ σ' nx'=>HA P TB ops r K L σ' nx' pl))(d:BH ops ⟨none,op,ty,pos,af,g⟩ (look L)=some true)(j:c=1):Bz P TB ops ⟨none,op,ty,pos,af,g⟩ i c r K L σ nx pl:=by
 intro b;refine⟨_,b,?_⟩;unfold St;rw[if_pos j]
 exact .inr ⟨d,λΓ=>(h Γ).mono λx σ' nx' hk=>by
  refine⟨λid a=>by simp at a,?_⟩;have e:Ch.put ⟨(⟨look L,σ,nx,look pl⟩:Ch).f,σ',nx',(⟨look L,σ,nx,look pl⟩:Ch).pd⟩ none x=_:=Vx
  rw[e];exact hk⟩
theorem ny{T:TypeId}{z:List Value}[b:BM P T z](a:z.all QP=true)(g:look L d=none)(j:c=3)(h:HA P TB ops r K L σ nx ((d,(T,z))::pl)):Bz P TB ops ⟨some d,.alloc T,ty,pos,af,none⟩ i c r K L σ nx pl:=by
 intro f;refine⟨_,f,?_⟩;unfold St;rw[if_neg (by omega),if_neg (by omega),if_neg (by omega)];refine⟨λS=>S.H0 d (T,z),.inr (.inr ⟨j,rfl,d,T,z,rfl,rfl,b.out,a,g,rfl⟩),?_⟩
 have e:Ch.H0 ⟨look L,σ,nx,look pl⟩ d (T,z)=⟨look L,σ,nx,look ((d,(T,z))::pl)⟩:=by
  unfold Ch.H0;congr 1;funext t;rw[Az];by_cases h:t=d
  ·subst h;simp
  ·simp[h,Ne.symm h]
 simp only;rw[e];exact h
theorem nw{t : Tmp}{T:TypeId}{z:List Value}(j:look pl t=some (T,z))(ht:(op.operands.any λx=>match x with|.tmp t'=>Nat.beq t' t|_=>false)=true)(m:BH ops ⟨none,op,ty,pos,af,g⟩ (look ((t,.o (.ptr nx z.length 0 0))::L))=some true)(n:c=5)
    (h:∀Γ,CC P TB Γ ⟨none,op,ty,pos,af,g⟩ (look ((t,.o (.ptr nx z.length 0 0))::L)) ((nx,.cells T z.length [z.map zC])::σ) (nx+1) (λ_ σ' nx'=>HA P TB ops r K ((t,.o (.ptr nx z.length 0 0))::L) σ' nx' (Et t pl))):Bz P TB ops ⟨none,op,ty,pos,af,g⟩ i c r K L σ nx pl:=by
  intro k;refine⟨_,k,?_⟩;unfold St;rw[if_neg (by omega),if_neg (by omega),if_pos n]
  have e:Ch.ad ⟨look L,σ,nx,look pl⟩ t T z=⟨look ((t,.o (.ptr nx z.length 0 0))::L),(nx,.cells T z.length [z.map zC])::σ,nx+1,look (Et t pl)⟩:=by
    unfold Ch.ad;rw[ER];congr 1;funext t';rw[IE]
  have l : .tmp t∈op.operands:=by
    obtain⟨i,hi,b⟩:=rT.1 ht;have d:=sD hi;generalize op.operands[i]=x at *
    cases x with
    | tmp t' => have:t'=t:=by simpa using b
                rw[<-this];exact d
    | _=>cases b
  refine⟨t,T,z,l,j,?_⟩;rw[e]
  exact .inr ⟨m,λΓ=>(h Γ).mono λx σ' nx' hk=>by
    refine⟨λid a=>by simp at a,?_⟩;have p:Ch.put ⟨(⟨look ((t,.o (.ptr nx z.length 0 0))::L),(nx,.cells T z.length [z.map zC])::σ,nx+1,look (Et t pl)⟩:Ch).f,σ',nx',(⟨look ((t,.o (.ptr nx z.length 0 0))::L),(nx,.cells T z.length [z.map zC])::σ,nx+1,look (Et t pl)⟩:Ch).pd⟩ none x=_:=Vx
    rw[p];exact hk⟩
theorem lP{t:Tmp}{ts:TypeId}{y:Operand}{T:TypeId}{z:List Value}(a:look pl t=some (T,z))(b:BH ops ⟨none,.store ts (.tmp t) y,ty,pos,af,g⟩ (look ((t,.o (.ptr nx z.length 0 0))::L))=some true)(d:c=5)
 (h:∀Γ,CC P TB Γ ⟨none,.store ts (.tmp t) y,ty,pos,af,g⟩ (look ((t,.o (.ptr nx z.length 0 0))::L)) ((nx,.cells T z.length [z.map zC])::σ) (nx+1) (λ_ σ' nx'=>HA P TB ops r K ((t,.o (.ptr nx z.length 0 0))::L) σ' nx' (Et t pl))):Bz P TB ops ⟨none,.store ts (.tmp t) y,ty,pos,af,g⟩ i c r K L σ nx pl:=
 nw a (by simp[Op.operands]) b d h
theorem bh{a:Bool}(e:∀Γ σ nx,A6 P TB Γ ⟨some d,op,ty,pos,af,g⟩ (look L) σ nx (eB a))(f:BH ops ⟨some d,op,ty,pos,af,g⟩ (look L)=some true)(j:(Nat.beq c 0 || Nat.beq c 2)=true)(h:∀b,a=b->HA P TB ops r K ((d,eB b)::L) σ nx (Et d pl)):Bz P TB ops ⟨some d,op,ty,pos,af,g⟩ i c r K L σ nx pl:=CM e f j (h a rfl)
end
section
variable {P:Program}{TB:BJ}{ops:Array Oper}{i c:Nat}{r:List (Nat×Nat)}{L:List (Nat×E)}{σ:Ab}{nx:Nat}{pl:List (Nat×(TypeId×List Value))}{K:Ch->Prop}{d:Option Tmp}{ty:TypeId}{pos:String}{af:Array Edge}{g:Option (Nat×Bool)}
end
section
variable {P:Program}{TB:BJ}{ops:Array Oper}{i c:Nat}{r:List (Nat×Nat)}{L:List (Nat×E)}{σ:Ab}{nx:Nat}{pl:List (Nat×(TypeId×List Value))}{K:Ch->Prop}{d:Tmp}{ty:TypeId}{pos:String}{af:Array Edge}{g:Option (Nat×Bool)}{op:Op}
theorem yQ{md:Bool}[f:Dp P]{q:Prop}{x:E}(b:BH ops ⟨some d,op,ty,pos,af,g⟩ (look L)=some true)(e:(Nat.beq c 0 || Nat.beq c 2)=true)(h:ew f.T md (look L) op=some (q,x))(a:q)(hk:HA P TB ops r K ((d,x)::L) σ nx (Et d pl)):Bz P TB ops ⟨some d,op,ty,pos,af,g⟩ i c r K L σ nx pl:=
 CM (λ_ _ _=>Zx h a) b e hk
theorem yB[j:Dp P]{a:Bool}(e:BH ops ⟨some d,op,ty,pos,af,g⟩ (look L)=some true)(f:(Nat.beq c 0 || Nat.beq c 2)=true)(h:VC j.T (look L) op=some a)(hk:∀b,a=b->HA P TB ops r K ((d,eB b)::L) σ nx (Et d pl)):Bz P TB ops ⟨some d,op,ty,pos,af,g⟩ i c r K L σ nx pl:=
 bh (λ_ _ _=>VD h) e f hk
theorem yS[e:Dp P]{x:E}(a:BH ops ⟨some d,op,ty,pos,af,g⟩ (look L)=some true)(b:Nat.beq c 0=true)(h:Om e.T σ (look L) op=some x)(hk:HA P TB ops r K ((d,x)::L) σ nx (Et d pl)):Bz P TB ops ⟨some d,op,ty,pos,af,g⟩ i c r K L σ nx pl:=
 gO (λ_=>Qf h) a b hk
theorem yW[d:Dp P]{t:TypeId}{x y:Operand}{σ':Ab}(a:BH ops ⟨none,.store t x y,ty,pos,af,g⟩ (look L)=some true)(b:c=1)(h:Sw d.T σ (look L) t x y=some σ')(hk:HA P TB ops r K L σ' nx pl):Bz P TB ops ⟨none,.store t x y,ty,pos,af,g⟩ i c r K L σ nx pl:=
 Ia (λ_=>Qg h hk) a b
theorem yA[e:Dp P]{t:Tmp}{ts:TypeId}{y:Operand}{T:TypeId}{z:List Value}{σ':Ab}(a:look pl t=some (T,z))(b:BH ops ⟨none,.store ts (.tmp t) y,ty,pos,af,g⟩ (look ((t,.o (.ptr nx z.length 0 0))::L))=some true)(d:c=5)
 (h:Sw e.T ((nx,.cells T z.length [z.map zC])::σ) (look ((t,.o (.ptr nx z.length 0 0))::L)) ts (.tmp t) y=some σ') (hk:HA P TB ops r K ((t,.o (.ptr nx z.length 0 0))::L) σ' (nx+1) (Et t pl)):Bz P TB ops ⟨none,.store ts (.tmp t) y,ty,pos,af,g⟩ i c r K L σ nx pl:=
 lP a b d λ_=>Qg h hk
theorem yP[b:Dp P]{T:TypeId}{z:List Value}(e:(KA b.T T).ze=some z)(a:z.all QP=true)(f:look L d=none)(g:c=3)(h:HA P TB ops r K L σ nx ((d,(T,z))::pl)):Bz P TB ops ⟨some d,.alloc T,ty,pos,af,none⟩ i c r K L σ nx pl:=
 haveI:=(Em (P:=P) T b.ok).c8 e
 ny a f g h
end
end Go.Am.R
namespace Go.Am
open Go
def dg:Option TypeDesc->Bool
 | some (.func ..)=>true
 | _=>false
class iB (P:Program) (t:TypeId):Prop where
 out:dg (P.underlying t)=true
theorem hO{P:Program}{t:TypeId}(h:dg (P.underlying t)=true)(w:World):(Op.equal t .nilFunc .nilFunc).run P w=.ok true w/\∀(g:Fn) (a b:Array Value),(Op.equal t (.func g a b) .nilFunc).run P w=.ok false w:=by
 unfold dg at h;split at h
 ·rename_i c
  unfold Op.equal Op.maxDepth;rw[show 10000=9999+1 from rfl,Op.equalIn];refine⟨by simp[run_underlying c,go_sem],λg a b=>?_⟩;rw[Op.equalIn];simp[run_underlying c,go_sem]
 ·cases h
section
variable {P:Program}{TB:BJ}{Γ:Ctx}{d:Option Tmp}{ty:TypeId}{pos:String}{af:Array Edge}{g:Option (Nat×Bool)}{f:Env}{σ:Ab}{nx:Nat}
theorem gT{t yt:TypeId}{x y:Operand}[c:iB P t](b:ev f x=some (.o (.d (.v .nilFunc))))(a:ev f y=some (.o (.d (.v .nilFunc)))):A6 P TB Γ ⟨d,.binOp .neq t x y yt,ty,pos,af,g⟩ f σ nx (eB false):=
 BS b a rfl λw=>by
  have h:binOp .neq t .nilFunc .nilFunc=(do pure (.bool (!(<-Op.equal t .nilFunc .nilFunc)))):=rfl;have e:eqGuard .neq t x y .nilFunc .nilFunc=pure ():=rfl;rw[h,e];simp[(hO c.out w).1,go_sem]
end
def PK(L:List (Nat×E)):List Nat->Option (List (Nat×E))
 | []=>some []
 | k::r=>match look L k,PK L r with
  | some e,some l=>some ((k,e)::l)
  | _,_=>none
def Y8(σ:Ab):List Nat->Option Ab
 | []=>some []
 | k::r=>match look σ k,Y8 σ r with
  | some e,some l=>some ((k,e)::l)
  | _,_=>none
section
variable {P:Program}{TB:BJ}{Γ:Ctx}{N:Nat}
theorem Ak.lH{c:Code}{Q:Exit->Env->Ab->Nat->Prop}{L0 Lk:List (Nat×E)}{σ Sk:Ab}{nx:Nat}{α:Type}(ks is:List Nat)(hk:PK L0 ks=some Lk)(hi:Y8 σ is=some Sk)(v:α->List (Nat×E))(s:α->Ab)(n:Nat)(μ:α->Nat)
 (x:α) (a:List Nat) (b:(∀i,i<Γ.V.nx->a[i]?=some i)/\a.Nodup/\a.length=n) (d:Ej (nm a nx) (look L0) (v x++Lk)/\Bd (nm a nx) σ (s x++Sk))
 (round:∀x,Ak P TB Γ N c (MJ (λf σ nx=>∃y,μ y<μ x/\∃l:List Nat,(∀i,i<Γ.V.nx->l[i]?=some i)/\l.Nodup/\l.length=n/\Ej (nm l nx) f (v y++Lk)/\Bd (nm l nx) σ (s y++Sk)) Q) (look (v x++Lk)) (s x++Sk) n) :
 Ak P TB Γ N (.loop c) Q (look L0) σ nx:=Ak.A5 (λx=>v x++Lk) (λx=>s x++Sk) n μ x a b d round
theorem aL{c:Code}{Q:Exit->Env->Ab->Nat->Prop}{L0 Lk:List (Nat×E)}{σ Sk:Ab}{nx:Nat}{α:Type}(ks is:List Nat)(hk:PK L0 ks=some Lk)(hi:Y8 σ is=some Sk)(v:α->List (Nat×E))(s:α->Ab)(n:Nat)(μ:α->Nat)
 (x:α) {m:Nat} (a:Γ.V.nx=m) (b:Nat.ble m n=true) (d:Ej (nm (List.range n) nx) (look L0) (v x++Lk)/\Bd (nm (List.range n) nx) σ (s x++Sk))
 (round:∀x,Ak P TB Γ N c (MJ (λf σ nx=>∃y,μ y<μ x/\∃l:List Nat,(∀i,i<Γ.V.nx->l[i]?=some i)/\l.Nodup/\l.length=n/\Ej (nm l nx) f (v y++Lk)/\Bd (nm l nx) σ (s y++Sk)) Q) (look (v x++Lk)) (s x++Sk) n) :
 Ak P TB Γ N (.loop c) Q (look L0) σ nx:=Ak.lH ks is hk hi v s n μ x (List.range n) (rg a b) d round
end
end Go.Am
namespace Go.Am
def Na(L:W->Bool)(t:A0)(w:W):Bool:=L (t.rows.getD (runM L t 0 w) [])
def lM(L:W->Bool)(ls:List UInt8)(t:A0)(w:W):Option A0:=(splitAt L t (L w) 0 w).bind λv=>Bp L ls 13 ⟨t.rows,t.cols++[v]⟩
structure Next (L:W->Bool) (ls:List UInt8) (t:A0) (w v:W) (t':A0):Prop where
 split:splitAt L t (L w) 0 w=some v
 close:Bp L ls 13 ⟨t.rows,t.cols++[v]⟩=some t'
 next:lM L ls t w=some t'
 ok:BV L ls t'
 cols:t'.cols=t.cols++[v]
 new:v∉t.cols
 suf:∃p,p≠[]/\w=p++v
 more:t.rows.length<t'.rows.length
 pre:t.rows <+: t'.rows
structure Wr (L:W->Bool) (ls:List UInt8) (wr:A0->Option W):Prop where
 on:∀t w,wr t=some w->BV L ls t->AP ls w/\Na L t w≠L w
end Go.Am
