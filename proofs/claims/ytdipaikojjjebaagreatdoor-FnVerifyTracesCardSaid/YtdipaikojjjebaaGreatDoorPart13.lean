/-
  A struct's literal with a slice of the call's own; results in memory.
-/
import Derived.Test.YtdipaikojjjebaaGreatDoorPart10
set_option linter.all false
namespace Go.Am
open Go
section
variable {P:Program}{TB:BA}{Γ:Ctx}{d:Option Tmp}{ty:TypeId}{pos:String}{af:Array Edge}{g:Option (Nat×Bool)}{f:Env}{σ:Ab}{nx:Nat}
variable {K:E->Ab->Nat->Prop}
theorem run_build{t:TypeId}{fl:List (Nat×Nat)}{parts:Array (Nat×Operand)}{ρ:Operand->Value}{V:View}{i:TypeInfo}{zv:Value}{cells:Array Value}(hi:P.info? t=some i)(m:i.zero=some zv)(k:ia P t=some fl)
 (r:Instr.fill (fl[·]?) zv.cells (parts.toList.map λ(i,x)=>(i,ρ x))=some cells):(Instr.build t (parts.map λ(i,x)=>(i,ρ x))).run P V.w=.ok (.agg cells) V.w:=by
 have a:(parts.map λ(i,x)=>(i,ρ x)).toList=parts.toList.map λ(i,x)=>(i,ρ x):=by simp
 unfold ia at k;split at k
 ·rename_i fs u
  have v:∀(l:List Field) (ll:List (Nat×Nat)),(l.mapM λf=>(P.info? f.type).map λi=>(f.offset,i.size))=some ll->∀w,((l.mapM λf=>do pure (f.offset,<-sizeOf f.type)):Sem (List (Nat×Nat))).run P w=.ok ll w:=by
   intro l
   induction l with
   | nil=>intro ll h w;simp at h;subst h;simp[go_sem]
   | cons y l s=>
    intro ll h w;simp only[nw,oW,lM,d6]at h;obtain⟨p,⟨ii,d,rfl⟩,ll',A,z⟩:=h;simp at z;subst z
    have hs:(sizeOf y.type).run P w=.ok ii.size w:=by simp[sizeOf,typeInfo,d,go_sem]
    have ihh:=s ll' A w;simp only[bind_pure_comp]at ihh;simp only[nw,lK,hs,lc,bind_pure_comp,nI,ihh]
  have o:=v fs.toList fl k V.w
  have b:(zeroValue t).run P V.w=.ok zv V.w:=by simp[zeroValue,typeInfo,hi,m,go_sem]
  have ha:((fs.mapM λf=>do pure (f.offset,<-sizeOf f.type)):Sem (Array (Nat×Nat))).run P V.w=.ok fl.toArray V.w:=by
   rw[nX,nI,o];rfl
  rw[<-a]at r;simp only[Instr.build,lK,b,lc,run_underlying u,ha];simp only[mC];rw[r];rfl
 ·rename_i n e u
  simp only[d6]at k;obtain⟨ii,d,rfl⟩:=k
  have b:(zeroValue t).run P V.w=.ok zv V.w:=by simp[zeroValue,typeInfo,hi,m,go_sem]
  have hs:(sizeOf e).run P V.w=.ok ii.size V.w:=by simp[sizeOf,typeInfo,d,go_sem]
  have g:∀(ps:List (Nat×Value)) (c c':Array Value),Instr.fill (λi=>((List.range n).map λj=>(j*ii.size,ii.size))[i]?) c ps=some c'->Instr.fill (λi=>some (i*ii.size,ii.size)) c ps=some c':=by
   intro ps
   induction ps with
   | nil=>intro c c' h;simpa[Instr.fill]using h
   | cons p ps s=>
    intro c c' h;obtain⟨i',v'⟩:=p;unfold Instr.fill at h |-;by_cases q:i'<n
    ·simp only [io,nB q,nq]at h
     simp only at h |-;split at h
     ·cases h
     ·rename_i hno
      rw[if_neg hno];exact s _ _ (by simpa only[io]using h)
    ·simp[q]at h
  rw[<-a]at r;simp only[Instr.build,lK,b,lc,run_underlying u,hs];rw[g _ _ _ r];rfl
 ·cases k
theorem GR{t:TypeId}{z:List Value}{fl:List (Nat×Nat)}{parts:Array (Nat×Operand)}{es:List E}{qs:List (Nat×List C)}[G:BM P t z][J:Eg P t fl](p k e:Nat)(F:z[p]?=some (.slice none 0 0))(B:I6 f (parts.toList.map (·.2))=some es)(I:E5 fl parts.toList es=some qs)
 (s:z.all O2=true) (u:(qs.all λx=>Nat.ble (x.1+x.2.length) z.length)=true) (M:K (.a (Bt qs ((z.map zC).set p (.arr nx k 0 0)))) ((nx,.cells e k [])::σ) (nx+1)):Cr P TB Γ ⟨d,.build t parts,ty,pos,af,g⟩ f σ nx K:=
 Dp λV ρ T S R=>by
  subst R;obtain⟨i,zv,hi,o,l⟩:=HD G.out;obtain⟨y,n⟩:=S.alloc (c:=0) (nl:=True) (w:=V.w) (ob:=.cells e k []) rfl rfl rfl rfl (i9 _) (λ_ _=>rfl) (.inl ⟨by simp[Au],rfl⟩);have A:=C8 (V:=Au V V.w.heap.size 0 True V.w) (ρ:=ρ) parts.toList es qs (λx r e L=>(T.get (by simp only[Op.operands];simpa using r) L).ext n) B I
  have q:C1 (Au V V.w.heap.size 0 True V.w) ((z.map zC).set p (.arr V.nx k 0 0)) zv.cells:=by
   refine⟨by rw[l3,f7,<-l];simp,λj c v h H=>?_⟩
   have b:z[j]?=some v:=by rw[<-l,mw];exact H
   by_cases m:p=j
   ·subst m
    rw[F]at b
    injection b with b
    subst b;rw[mj (by rw[f7];exact(am.1 F).1)]at h
    injection h with h
    subst h;exact AF.nil (by simp[Au]) (by simp[Au])
   ·rw[ml m,io,b]at h
    injection h with h
    subst h;exact JF (ge.1 s v (co b))
  obtain⟨cells,Q,N⟩:=FK _ _ _ _ A q (λx r=>by rw[l3,f7];exact HY _ _ u x r);have hb:=run_build (P:=P) (ρ:=ρ) (parts:=parts) (V:=V) hi o J.out Q;refine⟨.agg cells,_,_,_,?_,n,y,(show Bd _ (.a _) _ from ⟨cells,rfl,N⟩),M⟩
  show ((do let v <-Instr.build t (parts.map λ(i,x)=>(i,ρ x));pure (Go.Next.value v):Sem Go.Next)).run P V.w=_
  simp only[lK,hb,lc];rfl
end
section
variable {P:Program}{TB:BA}
def gF(t:Tmp)(ids:List Nat)(post:E->Ab->Nat->Prop):Exit->Env->Ab->Nat->Prop
 | .ret,f,σ,nx|.normal,f,σ,nx=>∃id k i T rows r x,f t=some (.o (.ptr id k i 0))/\look σ id=some (.cells T k rows)/\rows[i]?=some r/\FE σ ids (.a r) x/\post x (BW ids σ) nx
 | _,_,_,_=>False
theorem aA{fn:Func}{V:View}{Γ:Ctx}{f:Env}{a:Act}{σ:Ab}{t:Tmp}{T':TypeId}{n:Nat}{id k i:Nat}{T:TypeId}{rows:List (List C)}{r:List C}[A:DB P T' true n](H:n=k)(s:fn.results = #[.cell t T'])(J:DW V f a.tmps)(hi:Inv TB Γ V σ)(ht:f t=some (.o (.ptr id k i 0)))(G:look σ id=some (.cells T k rows))(z:rows[i]?=some r) :
 ∃v,(results fn a.tmps).run P V.w=.ok v V.w/\Bd V (.a r) v:=by
 have F:=J t _ ht;subst H
 have e:∀w,(results fn a.tmps).run P w=((do loadVar T' (<-asAddr (a.tmps.getD t undef))):Sem Value).run P w:=λw=>by
  simp[results,s,-Array.getD_eq_getD_getElem?,go_sem]
 generalize N:a.tmps.getD t undef=M at F e
 cases F with
 | ptr I x=>
  rcases hi.st.obj id _ G with ⟨y,_⟩|⟨_,cur,y,S,R,Q,L,K⟩
  ·exact absurd y x
  ·have u:=L r (co z)
   rw[nO]at e
   have g:∀q,q<n->∃v,cur[i*n+q]?=some v/\AF V (r[q]?.getD (.d (.l []))) v:=λq j=>by
    have m:q<r.length:=by omega
    obtain⟨v,b,h⟩:=K i r q r[q] z (d5 m);exact⟨v,b,by rw[d5 m];exact h⟩
   refine⟨.agg ((List.range n).map λq=>cur.getD (i*n+q) undef).toArray,?_,_,rfl,by simp[u],?_⟩
   ·have:(loadCells ⟨V.ρ id,i*n,none⟩ n).run P V.w=.ok ((List.range n).map λq=>cur.getD (i*n+q) undef).toArray V.w:=run_loadCells V.w _ n _ λq j=>by
     rw[BD];obtain⟨v,b,_⟩:=g q j
     have:cur.getD (i*n+q) undef=v:=by simp[b]
     rw[this];simp[World.cell?,y,b]
    unfold loadCells at this;rw[e];simp[asAddr,loadVar,(BG A.out V.w).1,(BG A.out V.w).2,this,go_sem]
   ·intro q c v B p
    have j:q<n:=by have:=(am.1 B).1;omega
    obtain⟨v',b,h⟩:=g q j;rw[B]at h
    have:v=v':=by simpa[j,b]using p.symm
    rw[this];exact h
theorem ca{V:View}{Γ:Ctx}{σ:Ab}(hi:Inv TB Γ V σ)(ids:List Nat):Inv TB Γ (Jr V σ ids) (BW ids σ):=by
 have h:BS TB Γ 0 V (λ_=>none) σ V.nx { tmps:=#[],defers:=[] } := ⟨λt e h=>(by cases h),λt e h=>(by cases h),rfl,hi,rfl,rfl⟩
 exact(h.freeze ids [] trivial).inv
theorem Spec.lq {g:FuncId} {fn:Func} {c:Code} {σ:Ab} {nx:Nat} {args:List E} {post:E->Ab->Nat->Prop} (t:Tmp) (T':TypeId) (n:Nat) (ids:List Nat) [J:DB P T' true n] (A:P.funcs[g]?=some fn) (hb:fn.body=some c) (j:(fn.name == "runtime.NumGoroutine")=false) (u:fn.results = #[.cell t T'])
 (p:args.length<=fn.ntmps) (h:∀Γ:Ctx,Γ.V.nx=nx->Aj P TB Γ fn.ntmps c (λe f σ nx=>gF t ids post e f σ nx/\∀id k i,f t=some (.o (.ptr id k i 0))->k=n) (look (Cb 0 args)) σ nx):Spec P TB g σ nx args post:=by
 refine⟨⟨fn,A,j,by rw[hb];rfl⟩,?_⟩;intro V vs S hg ha;refine calls_of_wp A hb ?_
 have hs:vs.size<=fn.ntmps:=by rw[ha.1];exact p
 have G:BS TB (EN V V σ S) fn.ntmps V (look (Cb 0 args)) σ nx { tmps:=vs++Array.replicate (fn.ntmps-vs.size) undef,defers:=[] } := by
  refine⟨?_,?_,by simp;omega,hg.inv,hg.nx,rfl⟩
  ·intro t e s
   obtain⟨_,d⟩:=BX args 0 t e s
   have d:args[t]?=some e:=by simpa using d
   have m:t<vs.size:=by rw[ha.1];exact(am.1 d).1
   have z:=ha.2 t e vs[t] d (lI m)
   simpa[lR m,m]using z
  ·intro t e s
   obtain⟨_,d⟩:=BX args 0 t e s
   have d:args[t]?=some e:=by simpa using d
   have:=(am.1 d).1;omega
 refine wp_mono (h (EN V V σ S) hg.nx V _ G) ?_;rintro e a' w' ⟨V',f',σ',rfl,⟨q,y⟩,b⟩
 have fin:(∃id k i T rows r x,f' t=some (.o (.ptr id k i 0))/\look σ' id=some (.cells T k rows)/\rows[i]?=some r/\FE σ' ids (.a r) x/\post x (BW ids σ') V'.nx)->∃v,(results fn a'.tmps).run P V'.w=.ok v V'.w/\∃V'' v' x σ'',Ending.returned v=.returned v'/\V''.w=V'.w/\Inv TB (EN V V σ S) V'' σ''/\Bd V'' x v'/\post x σ'' V''.nx:=by
  rintro⟨id,k,i,T,rows,r,x,B,d,z,I,H⟩;obtain⟨v,F,s⟩:=aA (P:=P) (y id k i B).symm u b.env b.inv B d z;exact⟨v,F,Jr V' σ' ids,v,x,_,rfl,rfl,ca b.inv ids,I.rel b.inv s,H⟩
 cases e with
 | normal=>exact⟨b.defers,fin q⟩
 | ret=>exact⟨b.defers,fin q⟩
 | exit id=>exact q.elim
 | goto l=>exact q.elim
 | panic ch=>exact q.elim
 | outgrown=>exact q.elim
end
end Go.Am
namespace Go.Am.R
open Go
structure BV where
 f:Env
 σ:Ab
 nx:Nat
 pd:Nat->Option (TypeId×List Value)
def BV.put(S:BV)(d:Option Tmp)(x:E):BV:=⟨BO S.f d x,S.σ,S.nx,λt=>if d=some t then none else S.pd t⟩
def BV.GU(S:BV)(d:Tmp)(q:TypeId×List Value):BV:=⟨S.f,S.σ,S.nx,λt=>if t=d then some q else S.pd t⟩
def BV.ad(S:BV)(d:Tmp)(T:TypeId)(z:List Value):BV:=⟨BO S.f (some d) (.o (.ptr S.nx z.length 0 0)),(S.nx,.cells T z.length [z.map zC])::S.σ,S.nx+1,λt=>if t=d then none else S.pd t⟩
theorem BV.put_comm(S:BV){d d':Option Tmp}{x y:E}(h:∀t,d=some t->d'≠some t):(S.put d x).put d' y=(S.put d' y).put d x:=by
 unfold BV.put;rw[Ln h];congr 1;funext t;simp only;split<;>split<;>rfl
theorem BV.SH(S:BV){d':Option Tmp}{d:Tmp}{q:TypeId×List Value}{y:E}(h:d'≠some d):(S.put d' y).GU d q=(S.GU d q).put d' y:=by
 unfold BV.put BV.GU;simp only[BV.mk.injEq,true_and];funext t;by_cases e:t=d
 ·subst e;simp[h]
 ·simp[e]
theorem BV.XA(S:BV){d d':Tmp}{q q':TypeId×List Value}(h:d≠d'):(S.GU d q).GU d' q'=(S.GU d' q').GU d q:=by
 unfold BV.GU;simp only[BV.mk.injEq,true_and];funext t;by_cases e:t=d
 ·subst e;simp[h]
 ·simp[e]
theorem BV.ed(S:BV){d':Option Tmp}{d:Tmp}{T:TypeId}{z:List Value}{y:E}(h:d'≠some d):(S.put d' y).ad d T z=(S.ad d T z).put d' y:=by
 unfold BV.put BV.ad;simp only;rw[Ln (d:=d') (d':=some d) (λt ht e=>h (by rw[ht,e]))];congr 1;funext t;by_cases e:t=d
 ·subst e;simp
 ·simp[e]
theorem BV.bK(S:BV){d' d:Tmp}{T:TypeId}{z:List Value}{q:TypeId×List Value}(h:d'≠d):(S.GU d' q).ad d T z=(S.ad d T z).GU d' q:=by
 unfold BV.GU BV.ad;simp only[BV.mk.injEq,true_and];funext t;by_cases e:t=d
 ·subst e;simp[Ne.symm h]
 ·simp[e]
section
variable (P:Program)(TB:BA)(ops:Array Oper)
def QC(c:Nat)(o:Oper)(S:BV)(x:E):Prop:=
 if c=2 then ∀Γ σ nx,A1 P TB Γ o S.f σ nx x else if c=0 then ∀Γ,A1 P TB Γ o S.f S.σ S.nx x else 10<=c/\∀Γ σ nx,look σ (c-10)=look S.σ (c-10)->A1 P TB Γ o S.f σ nx x
def Mv(c:Nat)(o:Oper)(S:BV)(u:BV->BV):Prop:=
 (c≠3/\Bw ops o S.f=some false/\u=λS=>S.put o.dst (.t []))\/
 (c≠3/\Bw ops o S.f=some true/\∃x,QC P TB c o S x/\u=λS=>S.put o.dst x)\/
 (c=3/\o.guard=none/\∃d T z,o.dst=some d/\o.op=.alloc T/\X8 P T=some z/\z.all O2=true/\S.f d=none/\u=λS=>S.GU d (T,z))
def bA(m:Nat)(o:Oper)(K:BV->Prop)(S:BV):Prop:=
 (Bw ops o S.f=some false/\K (S.put o.dst (.t [])))\/(Bw ops o S.f=some true/\∀Γ,Cr P TB Γ o S.f S.σ S.nx (λx σ' nx'=>Kept m S.σ σ'/\K (BV.put ⟨S.f,σ',nx',S.pd⟩ o.dst x)))
def St(c:Nat)(o:Oper)(K:BV->Prop)(S:BV):Prop:=
 if c=1 then bA P TB ops 0 o K S else
 if 1000<=c then bA P TB ops (c-1000) o K S else
 if c=5 then ∃d T z,.tmp d∈o.op.operands/\S.pd d=some (T,z)/\bA P TB ops 0 o K (S.ad d T z) else
 ∃u,Mv P TB ops c o S u/\K (u S)
def Lex:List (Nat×Nat)->(BV->Prop)->BV->Prop
 | [],K,S=>K S
 | (i,c)::r,K,S=>∃o,ops[i]?=some o/\St P TB ops c o (Lex r K) S
end
section
variable {P:Program}{TB:BA}{ops:Array Oper}
theorem bA.mono{m:Nat}{o:Oper}{K K':BV->Prop}{S:BV}(h:∀S,K S->K' S)(hs:bA P TB ops m o K S):bA P TB ops m o K' S:=by
 rcases hs with ⟨b,a⟩|⟨b,a⟩
 ·exact .inl ⟨b,h _ a⟩
 ·exact .inr ⟨b,λΓ=>(a Γ).mono λ_ _ _ c=>⟨c.1,h _ c.2⟩⟩
theorem St.mono{c:Nat}{o:Oper}{K K':BV->Prop}{S:BV}(h:∀S,K S->K' S)(hs:St P TB ops c o K S):St P TB ops c o K' S:=by
 unfold St at *;split
 ·rename_i e;rw[if_pos e]at hs;exact hs.mono h
 ·rename_i e;rw[if_neg e]at hs
  split
  ·rename_i e;rw[if_pos e]at hs;exact hs.mono h
  ·rename_i e;rw[if_neg e]at hs
   split
   ·rename_i f;rw[if_pos f]at hs
    obtain⟨d,T,z,b,a,g⟩:=hs;exact⟨d,T,z,b,a,g.mono h⟩
   ·rename_i f;rw[if_neg f]at hs
    obtain⟨u,b,a⟩:=hs;exact⟨u,b,h _ a⟩
def jB(x y:Oper):Bool:=(x.looksAt ops).all λt=>!(y.looksAt ops).contains t
def Km(ci cj:Nat):Bool:=
 Nat.beq ci 2 || (Nat.beq ci 3 || ((Nat.beq ci 0 && (!Nat.beq cj 1 && (!Nat.beq cj 5 && Nat.ble cj 999))) || (Nat.ble 10 ci && (Nat.ble ci 999 && (!Nat.beq cj 1 && (!Nat.beq cj 5 && (Nat.ble cj 999 || (cj-1000).testBit (ci-10))))))))
theorem Kn{ci cj:Nat}(h:Km ci cj=true):ci=2\/ci=3\/(ci=0/\cj≠1/\cj≠5/\cj<1000)\/(10<=ci/\ci<1000/\cj≠1/\cj≠5/\(cj<1000\/(cj-1000).testBit (ci-10)=true)):=by
 unfold Km at h
 have nb:∀a b:Nat,(!Nat.beq a b)=true->a≠b:=λa b h e=>by subst e;simp at h
 simp only[lT,d4,Nat.beq_eq,Nat.ble_eq]at h
 rcases h with h|h|⟨d,g,c,f⟩|⟨d,g,c,f,i⟩
 ·exact .inl h
 ·exact .inr (.inl h)
 ·exact .inr (.inr (.inl ⟨d,nb _ _ g,nb _ _ c,by omega⟩))
 ·exact .inr (.inr (.inr ⟨d,by omega,nb _ _ c,nb _ _ f,i.imp (λh=>by omega) id⟩))
def ZG(ops:Array Oper)(i ci j cj:Nat):Bool:=
 waits ops i ops.size j || (match ops[i]?,ops[j]? with
  | some x,some y=>x.apart ops y && Km ci cj && (!Nat.beq cj 5 || jB (ops:=ops) x y)
  | _,_=>false)
def QW(ops:Array Oper)(i c:Nat)(r:List (Nat×Nat)):Bool:=r.all λ(j,cj)=>ZG ops i c j cj
def DS(ops:Array Oper):List (Nat×Nat)->Bool
 | []=>true
 | (i,c)::r=>QW ops i c r && DS ops r
theorem Mv.put{c:Nat}{o:Oper}{S:BV}{u:BV->BV}(h:Mv P TB ops c o S u){d:Option Tmp}{x:E}{σ:Ab}{nx:Nat}{pd:Nat->Option (TypeId×List Value)}(n:∀t,d=some t->t∉o.looksAt ops)(l:∀t,o.dst=some t->d≠some t)(hs:c=0->σ=S.σ/\nx=S.nx)(q:10<=c->look σ (c-10)=look S.σ (c-10)) :
 Mv P TB ops c o (BV.put ⟨S.f,σ,nx,pd⟩ d x) u:=by
 have hg:Bw ops o (BV.put ⟨S.f,σ,nx,pd⟩ d x).f=Bw ops o S.f:=GO n;have ag:∀t,.tmp t∈o.op.operands->S.f t=BO S.f d x t:=λt ht=>(FH n t ht).symm
 rcases h with ⟨i,g,a⟩|⟨i,g,y,a,m⟩|⟨i,g,dd,T,z,a,m,w,v,s,r⟩
 ·exact .inl ⟨i,by rw[hg];exact g,a⟩
 ·refine .inr (.inl ⟨i,by rw[hg];exact g,y,?_,m⟩)
  unfold QC at a |-;by_cases e:c=2
  ·rw[if_pos e]at a |-
   exact λΓ σ nx=>(a Γ σ nx).congr ag
  ·rw [if_neg e]at a |-
   by_cases b:c=0
   ·rw[if_pos b]at a |-
    obtain⟨rfl,rfl⟩:=hs b;exact λΓ=>(a Γ).congr ag
   ·rw[if_neg b]at a |-
    exact⟨a.1,λΓ j k p=>(a.2 Γ j k (p.trans (q a.1))).congr ag⟩
 ·refine .inr (.inr ⟨i,g,dd,T,z,a,m,w,v,?_,r⟩)
  show BO S.f d x dd=none
  rw[Dl (l dd a)];exact s
theorem Mv.kr{c:Nat}{o:Oper}{S:BV}{u:BV->BV}(h:Mv P TB ops c o S u):(∃x,u=λS=>S.put o.dst x)\/∃d q,o.dst=some d/\u=λS=>S.GU d q:=by
 rcases h with ⟨_,_,a⟩|⟨_,_,y,_,e⟩|⟨_,_,dd,T,z,a,_,_,_,_,b⟩
 ·exact .inl ⟨_,a⟩
 ·exact .inl ⟨_,e⟩
 ·exact .inr ⟨dd,_,a,b⟩
theorem Mv.back{c:Nat}{o oi:Oper}{S:BV}{u v:BV->BV}(p:(∃x,u=λS=>S.put oi.dst x)\/∃d q,oi.dst=some d/\u=λS=>S.GU d q)(h:Mv P TB ops c o (u S) v)(m:∀t,oi.dst=some t->t∉o.looksAt ops)(r:∀t,oi.dst=some t->o.dst≠some t):Mv P TB ops c o S v:=by
 rcases p with ⟨x,rfl⟩|⟨d,q,F,rfl⟩
 ·have hg:Bw ops o (S.put oi.dst x).f=Bw ops o S.f:=GO m
  have ag:∀t,.tmp t∈o.op.operands->BO S.f oi.dst x t=S.f t:=FH m
  rcases h with ⟨i,g,a⟩|⟨i,g,y,a,l⟩|⟨i,g,dd,T,z,a,l,B,A,w,s⟩
  ·exact .inl ⟨i,by rw[<-hg];exact g,a⟩
  ·refine .inr (.inl ⟨i,by rw[<-hg];exact g,y,?_,l⟩)
   unfold QC at a |-;by_cases e:c=2
   ·rw[if_pos e]at a |-;exact λΓ σ nx=>(a Γ σ nx).congr ag
   ·rw[if_neg e]at a |-
    by_cases b:c=0
    ·rw[if_pos b]at a |-;exact λΓ=>(a Γ).congr ag
    ·rw[if_neg b]at a |-;exact⟨a.1,λΓ j k n=>(a.2 Γ j k n).congr ag⟩
  ·refine .inr (.inr ⟨i,g,dd,T,z,a,l,B,A,?_,s⟩)
   have:BO S.f oi.dst x dd=none:=w;rw[Dl (λe=>r dd e a)]at this;exact this
 ·exact h
theorem Tt{oi oj:Oper}{S:BV}{u v:BV->BV}(f:(∃x,u=λS=>S.put oi.dst x)\/∃d q,oi.dst=some d/\u=λS=>S.GU d q)(c:(∃x,v=λS=>S.put oj.dst x)\/∃d q,oj.dst=some d/\v=λS=>S.GU d q)(h:∀t,oi.dst=some t->oj.dst≠some t):v (u S)=u (v S):=by
 rcases f with ⟨x,rfl⟩|⟨d,q,b,rfl⟩<;>rcases c with ⟨y,rfl⟩|⟨d',q',a,rfl⟩
 ·exact S.put_comm h
 ·exact S.SH λe=>h d' e a
 ·exact(S.SH (h d b)).symm
 ·exact S.XA λe=>h d b (by rw[a,e])
theorem bA.swap{ci m:Nat}{oi oj:Oper}{S:BV}{u:BV->BV}{K:BV->Prop}(k:ci=2\/ci=3\/(10<=ci/\m.testBit (ci-10)=true))(l:oi.apart ops oj=true)(p:Mv P TB ops ci oi S u)(h:bA P TB ops m oj K (u S)):bA P TB ops m oj (λS'=>∃u,Mv P TB ops ci oi S' u/\K (u S')) S:=by
 obtain⟨s,w,v⟩:=Oper.apart_spec l;have b:=p.kr;have i:∀t,oi.dst=some t->oj.dst≠some t:=w;have g:∀(x:E) (σ:Ab) (nx:Nat),Kept m S.σ σ->Mv P TB ops ci oi (BV.put ⟨S.f,σ,nx,S.pd⟩ oj.dst x) u:=λx σ nx c=>p.put (λt ht=>v t ht) i (λe=>by omega) (λe=>c _ (by rcases k with n|n|n;omega;omega;exact n.2))
 have r:∀(x:E) (σ:Ab) (nx:Nat),BV.put ⟨(u S).f,σ,nx,(u S).pd⟩ oj.dst x=u (BV.put ⟨S.f,σ,nx,S.pd⟩ oj.dst x):=by
  intro x σ nx;have:=Tt (S:=⟨S.f,σ,nx,S.pd⟩) b (.inl ⟨x,rfl⟩) i;rw[<-this]
  rcases b with ⟨y,rfl⟩|⟨d,q,_,rfl⟩<;>rfl
 have hg:Bw ops oj (u S).f=Bw ops oj S.f:=by
  rcases b with ⟨y,rfl⟩|⟨d,q,_,rfl⟩
  ·exact GO s
  ·rfl
 have ag:∀t,.tmp t∈oj.op.operands->(u S).f t=S.f t:=by
  rcases b with ⟨y,rfl⟩|⟨d,q,_,rfl⟩
  ·exact FH s
  ·exact λ_ _=>rfl
 have a:(u S).σ=S.σ/\(u S).nx=S.nx:=by rcases b with ⟨y,rfl⟩|⟨d,q,_,rfl⟩<;>exact⟨rfl,rfl⟩
 rcases h with ⟨o,j⟩|⟨o,j⟩
 ·refine .inl ⟨by rw[<-hg];exact o,u,g _ S.σ S.nx (λ_ _=>rfl),?_⟩
  have:=r (.t []) S.σ S.nx;rw[<-a.1,<-a.2]at this;have e:BV.put ⟨(u S).f,(u S).σ,(u S).nx,(u S).pd⟩ oj.dst (.t [])=(u S).put oj.dst (.t []):=rfl;rw[e]at this;rw[this,a.1,a.2]at j;exact j
 ·refine .inr ⟨by rw[<-hg];exact o,λΓ=>?_⟩
  have:=(j Γ).congr ag;rw[a.1,a.2]at this
  exact this.mono λx σ' nx' hk=>by
   have c:Kept m S.σ σ':=hk.1;exact⟨c,u,g x σ' nx' c,by rw[<-r];exact hk.2⟩
theorem St.swap{ci cj:Nat}{oi oj:Oper}{S:BV}{u:BV->BV}{K:BV->Prop}(f:oi.apart ops oj=true)(I:Km ci cj=true)(b:(!Nat.beq cj 5 || jB (ops:=ops) oi oj)=true)
 (k:Mv P TB ops ci oi S u) (h:St P TB ops cj oj K (u S)):St P TB ops cj oj (λS'=>∃u,Mv P TB ops ci oi S' u/\K (u S')) S:=by
 obtain⟨Q,X,V⟩:=Oper.apart_spec f;have j:∀t,oi.dst=some t->oj.dst≠some t:=X;have c:=k.kr;have H:=Kn I;unfold St at *;by_cases U:cj=1
 ·rw[if_pos U]at h |-
  exact h.swap (by omega) f k
 ·rw [if_neg U]at h |-
  by_cases ck:1000<=cj
  ·rw[if_pos ck]at h |-
   refine h.swap ?_ f k
   rcases H with e|e|e|⟨Y,e2,e3,e4,R|R⟩
   ·exact .inl e
   ·exact .inr (.inl e)
   ·omega
   ·omega
   ·exact .inr (.inr ⟨Y,R⟩)
  rw[if_neg ck]at h |-;by_cases J:cj=5
  ·rw [if_pos J]at h |-
   obtain⟨d,T,z,r,p,m⟩:=h;have s:d∈oj.looksAt ops:=GS r;have a:oi.dst≠some d:=λe=>Q d e s
   have F:d∉oi.looksAt ops:=by
    subst J;unfold jB at b;simp only[oN,Bool.not_true,o8,ge]at b;intro N;have:=b d N;simp[s]at this
   have n:S.pd d=some (T,z):=by
    rcases c with ⟨x,rfl⟩|⟨d',q,g,rfl⟩
    ·have:(if oi.dst=some d then none else S.pd d)=some (T,z):=p
     rwa[if_neg a]at this
    ·have:(if d=d' then some q else S.pd d)=some (T,z):=p
     rwa[if_neg (λe=>a (by rw[g,e]))]at this
   have i:(u S).ad d T z=u (S.ad d T z):=by
    rcases c with ⟨x,rfl⟩|⟨d',q,g,rfl⟩
    ·exact S.ed a
    ·exact S.bK λe=>a (by rw[g,e])
   have G:Mv P TB ops ci oi (S.ad d T z) u:=by
    have:=k.put (d:=some d) (x:=.o (.ptr S.nx z.length 0 0)) (σ:=(S.nx,.cells T z.length [z.map zC])::S.σ) (nx:=S.nx+1) (pd:=S.pd) (λt ht=>by injection ht with ht;subst ht;exact F) (λt ht e=>a (by rw[ht];exact e.symm)) (λe=>by omega) (λe=>by omega)
    rcases this with ⟨B,A,w⟩|⟨B,A,y,w,L⟩|⟨B,A,dd,T',z',w,L,a5,a6,a7,Z⟩
    ·exact .inl ⟨B,A,w⟩
    ·exact .inr (.inl ⟨B,A,y,w,L⟩)
    ·exact .inr (.inr ⟨B,A,dd,T',z',w,L,a5,a6,a7,Z⟩)
   rw[i]at m;exact⟨d,T,z,r,n,m.swap (by omega) f G⟩
  ·rw[if_neg J]at h |-
   obtain⟨v,M,hk⟩:=h;have l:=M.kr;refine⟨v,M.back c Q j,u,?_,by rw[<-Tt c l j];exact hk⟩
   rcases l with ⟨x,rfl⟩|⟨d,q,N,rfl⟩
   ·exact k.put (σ:=S.σ) (nx:=S.nx) (pd:=S.pd) (λt ht=>V t ht) j (λ_=>⟨rfl,rfl⟩) (λ_=>rfl)
   ·exact k
end
section
variable {P:Program}{TB:BA}{ops:Array Oper}
theorem E4(K:BV->Prop):∀(r:List (Nat×Nat)) (listed:Array Bool) (S:BV),Fw ops listed->Bk ops r listed=true->DS ops r=true->
 Lex P TB ops r K S->∀j,j∈Region.ready .any ops listed->∃t c s o,r=t++(j,c)::s/\ops[j]?=some o/\St P TB ops c o (Lex P TB ops (t++s) K) S
 | [],listed,_,_,m,_,_,j,p=>by have:=Ku _ _ m j p;simp at this
 | (i, ci) :: r,listed,S,F,m,hk,h,j,p=>by
  obtain⟨oi,g,h⟩:=h;by_cases k:j=i
  ·subst k
   exact⟨[],ci,r,oi,rfl,g,h⟩
  ·simp only [Bk,d4]at m
   simp only[DS,d4]at hk
   have hi:i∈Region.ready .any ops listed:=by simpa using m.1
   have y:j∈r.map (·.1):=Ku r _ m.2 j (ready_mono p k);obtain⟨⟨j',cj⟩,n,rfl⟩:=d8.1 y;have l:=hk.1;unfold QW at l;rw[ge]at l
   have f:∀c',(j',c')∈r->∃oj,ops[j']?=some oj/\oi.apart ops oj=true/\Km ci c'=true/\(!Nat.beq c' 5 || jB (ops:=ops) oi oj)=true:=by
    intro c' w;have a:=l _ w;simp only[ZG]at a;rw[lT]at a
    rcases a with a|a
    ·exact absurd p (MA F (Tr (Oj hi)) a)
    ·rw [g]at a
     cases e:ops[j']? with
     | none=>rw[e]at a;cases a
     | some oj=>
      rw[e]at a;simp only[d4]at a;exact⟨oj,rfl,a.1.1,a.1.2,a.2⟩
   have d:ci≠1/\¬1000<=ci/\ci≠5:=by
    obtain⟨oj,_,_,J,_⟩:=f cj n;have:=Kn J;omega
   have L:∃u,Mv P TB ops ci oi S u/\Lex P TB ops r K (u S):=by
    unfold St at h;rwa[if_neg d.1,if_neg d.2.1,if_neg d.2.2]at h
   obtain⟨u,G,H⟩:=L;obtain⟨t,c,s,oj,B,e,I⟩:=E4 K r (listed.setIfInBounds i true) _ (Hj F hi) m.2 hk.2 H j' (ready_mono p k);obtain⟨oj',b,A,z,q⟩:=f c (by rw[B];simp);rw[e]at b
   injection b with b
   subst b;refine⟨(i,ci)::t,c,s,oj,by rw[B];rfl,e,?_⟩;refine(St.swap A z q G I).mono λS' ⟨u',v,x⟩=>?_;refine⟨oi,g,?_⟩;unfold St;rw[if_neg d.1,if_neg d.2.1,if_neg d.2.2];exact⟨u',v,x⟩
theorem Ks:∀(e a:List (Nat×Nat)) (x:Nat×Nat),DS ops (e++x::a)=true->DS ops (e++a)=true
 | [],a,(j,c),h=>by
  simp only[nV,DS,d4]at h;exact h.2
 | (i,d)::e,a,x,h=>by
  simp only[mK,DS,d4]at h |-;refine⟨?_,Ks e a x h.2⟩;have f:=h.1;unfold QW at f |-;rw[ge]at f |-;intro y b;refine f y ?_
  rcases f6.1 b with b|b
  ·exact lP _ b
  ·exact lX _ (lU _ b)
structure WQ (Γ:Ctx) (V:View) (σ:Ab) (b:Nat) (T:TypeId) (z:List Value):Prop where
 cells:∃cur:Array Value,V.w.heap[b]?=some (.cells cur T (0,0))/\cur.toList=z
 ni:¬V.I b
 ns:∀id o,look σ id=some o->¬V.nl id->¬En V id o b
 lo:Γ.V.w.heap.size<=b
 zok:z.all O2=true
theorem WQ.lt{Γ:Ctx}{V:View}{σ:Ab}{b:Nat}{T:TypeId}{z:List Value}(h:WQ Γ V σ b T z):b<V.w.heap.size:=by
 obtain⟨cur,a,_⟩:=h.cells;exact(lQ.1 a).1
theorem Inv.comp{Γ:Ctx}{V V':View}{σ σ':Ab}{Q:RO}(h:Inv TB Γ V σ)(n:∀b,Q.J b->Γ.J b\/Γ.V.w.heap.size<=b\/Γ.F b)(m:∀b,Q.B b->Γ.V.w.heap.size<=b\/Γ.F b)(d:Inv TB (EN V V σ Q) V' σ'):Inv TB Γ V' σ':=by
 have f:∀b,Du V σ b\/Q.B b->Γ.V.w.heap.size<=b\/Γ.F b:=by
  rintro b (⟨id,o,c,e,a⟩|hb)
  ·exact h.live id o c e b a
  ·exact m b hb
 refine⟨d.os.trans h.os,d.tape.trans h.tape,d.output.trans h.output,λb hb g=>?_,d.iLt,λb hb=>?_,h.ext.trans d.ext,d.st,λid o c e b hb=>?_,d.tabs,?_⟩
 ·have c:¬(Du V σ b\/Q.B b):=λl=>by rcases f b l with e|e;omega;exact g e
  exact(d.old b (lG hb h.ext.size) c).trans (h.old b hb g)
 ·rcases d.iNew b hb with c|c|c
  ·exact h.iNew b c
  ·exact .inr (.inl (lm h.ext.size c))
  ·exact .inr (f b c)
 ·rcases d.live id o c e b hb with a|a
  ·exact .inl (lm h.ext.size a)
  ·exact f _ a
 ·obtain⟨Q1,k,j,i⟩:=d.hid
  refine⟨Q1,k,λb hb=>?_,λb hb=>?_⟩
  ·rcases j b hb with a|a|a
   ·exact n b a
   ·exact .inr (.inl (lm h.ext.size a))
   ·exact .inr (f b a)
  ·rcases i b hb with a|a
   ·exact .inl (lm h.ext.size a)
   ·exact f b a
theorem WQ.comp{Γ:Ctx}{V V':View}{σ σ':Ab}{b:Nat}{T:TypeId}{z:List Value}{Q:RO}(d:WQ Γ V σ b T z)(h:¬Q.B b)(j:Inv TB (EN V V σ Q) V' σ'):WQ Γ V' σ' b T z:=by
 have i:=d.lt
 have c:¬(Du V σ b\/Q.B b):=by
  rintro(⟨id,o,a,g,f⟩|hb)
  ·exact d.ns id o a g f
  ·exact h hb
 refine⟨?_,λhI=>?_,λid o a g e=>?_,d.lo,d.zok⟩
 ·obtain⟨cur,a,g⟩:=d.cells
  exact⟨cur,(j.old b i c).trans a,g⟩
 ·rcases j.iNew b hI with a|a|a
  ·exact d.ni a
  ·have a:V.w.heap.size<=b:=a;omega
  ·exact c a
 ·rcases j.live id o a g b e with f|f
  ·have f:V.w.heap.size<=b:=f;omega
  ·exact c f
structure gD (TB:BA) (Γ:Ctx) (V:View) (S:BV) (a:Act) (Q:RO):Prop where
 s:MD TB V S.σ Q
 j:∀b,Q.J b->Γ.J b\/Γ.V.w.heap.size<=b\/Γ.F b
 b:∀b,Q.B b->Γ.V.w.heap.size<=b\/Γ.F b
 p:∀d q b,S.pd d=some q->a.tmps[d]?=some (.pointer (some ⟨b,0,none⟩))->¬Q.B b
structure IZ (TB:BA) (Γ:Ctx) (N:Nat) (V:View) (S:BV) (a:Act):Prop where
 st:BS TB Γ N V S.f S.σ S.nx a
 pd:∀d T z,S.pd d=some (T,z)->S.f d=none/\∃b,a.tmps[d]?=some (.pointer (some ⟨b,0,none⟩))/\WQ Γ V S.σ b T z
 ne:∀d d' q q' b b',S.pd d=some q->S.pd d'=some q'->d≠d'->a.tmps[d]?=some (.pointer (some ⟨b,0,none⟩))->a.tmps[d']?=some (.pointer (some ⟨b',0,none⟩))->b≠b'
 sc:∃Q,gD TB Γ V S a Q
variable {Γ:Ctx}{N:Nat}{V V':View}{S:BV}{a:Act}
theorem Hs{a:Act}{d:Option Tmp}{v:Value}{t:Nat}(h:d≠some t):(a.put d v).tmps[t]?=a.tmps[t]?:=by
 cases d with
 | none=>rfl
 | some d=>
  have:d≠t:=λe=>h (by rw[e]);simp[Act.put,mW this]
theorem IZ.put(h:IZ TB Γ N V S a){d:Option Tmp}{x:E}{v:Value}{σ':Ab}{nx':Nat}(P:∀t,d=some t->t<N)(e:Ext V V'){Q:RO}(l:gD TB Γ V S a Q)(hi:Inv TB (EN V V S.σ Q) V' σ')(M:V'.nx=nx')(L:Bd V' x v):IZ TB Γ N V' (BV.put ⟨S.f,σ',nx',S.pd⟩ d x) (a.put d v):=by
 have A:∀t q,(if d=some t then none else S.pd t)=some q->d≠some t/\S.pd t=some q:=λt q i=>by
  split at i
  ·cases i
  ·rename_i k;exact⟨k,i⟩
 refine⟨h.st.put P e (Inv.comp h.st.inv l.j l.b hi) M L,λt T z i=>?_,λt t' q q' b b' i F k hb r=>?_,?_⟩
 ·obtain⟨n,m⟩:=A t _ i
  obtain⟨c,b,g,B⟩:=h.pd t T z m;refine⟨?_,b,by rw[Hs n];exact g,B.comp (l.p t _ b m g) hi⟩
  show BO S.f d x t=none
  rw[Dl n];exact c
 ·obtain⟨n,m⟩:=A t _ i
  obtain⟨H,G⟩:=A t' _ F;rw[Hs n]at hb;rw[Hs H]at r;exact h.ne t t' q q' b b' m G k hb r
 ·obtain⟨Q1,K,J,I⟩:=hi.hid
  refine⟨Q1,K,λb hb=>?_,λb hb=>?_,λt q b i hb R=>?_⟩
  ·rcases J b hb with c|c|c|c
   ·exact l.j b c
   ·exact .inr (.inl (lm h.st.inv.ext.size c))
   ·obtain⟨id,o,y,u,s⟩:=c;exact .inr (h.st.inv.live id o y u b s)
   ·exact .inr (l.b b c)
  ·rcases I b hb with c|c|c
   ·exact .inl (lm h.st.inv.ext.size c)
   ·obtain⟨id,o,y,u,s⟩:=c;exact h.st.inv.live id o y u b s
   ·exact l.b b c
  ·obtain⟨n,m⟩:=A t _ i
   rw[Hs n]at hb;obtain⟨_,U,g,B⟩:=h.pd t q.1 q.2 m;rw[hb]at g
   injection g with g;injection g with g;injection g with g;injection g with g
   subst g
   rcases I b R with c|c|c
   ·have c:V.w.heap.size<=b:=c
    have:=B.lt;omega
   ·obtain⟨id,o,y,u,s⟩:=c;exact B.ns id o y u s
   ·exact l.p t _ b m hb c
theorem Inv.grow{σ:Ab}(h:Inv TB Γ V σ){w:World}(c:w.os=V.w.os)(ht:w.tape=V.w.tape)(g:w.output=V.w.output)(hs:V.w.heap.size<=w.heap.size)(a:∀b,b<V.w.heap.size->w.heap[b]?=V.w.heap[b]?):Inv TB Γ { V with w:=w } σ/\Ext V { V with w:=w } := by
 have e:Ext V { V with w:=w } := ⟨λ_ h=>h,λb hb=>a b (h.iLt b hb),hs,λ_ _=>rfl,λ_ _=>rfl,λ_ _=>Iff.rfl,i9 _⟩
 refine⟨⟨c.trans h.os,ht.trans h.tape,g.trans h.output,λb hb j=>(a b (lG hb h.ext.size)).trans (h.old b hb j),λb hb=>lG (h.iLt b hb) hs,h.iNew,h.ext.trans e,⟨λid o d=>?_,h.st.lt,h.st.free,h.st.inj⟩,h.live,λx f=>?_,h.hid.step (λ_ h=>h) e.heap hs (λb hb _ _=>a b hb) (λ_ h=>.inl h) λb hb=>.inl (H0 e h.st.lt hb)⟩,e⟩
 ·exact(h.st.obj id o d).AR e (h.st.lt id o d) λi b hb=>a _ ((h.st.obj id o d).blt i hb)
 ·have:=h.tabs x f
  exact⟨this.1,(a _ (h.iLt _ this.1)).trans this.2⟩
theorem IZ.alloc(h:IZ TB Γ N V S a){d:Tmp}{T:TypeId}{zv:Value}{z:List Value}(J:d<N)(G:S.f d=none)(I:zv.cells.toList=z)(B:z.all O2=true):IZ TB Γ N { V with w:=V.w.alloc (.cells zv.cells T) } (S.GU d (T,z)) (a.put (some d) (.pointer (some ⟨V.w.heap.size,0,none⟩))):=by
 obtain⟨hi,x⟩:=Inv.grow h.st.inv (w:=V.w.alloc (.cells zv.cells T)) rfl rfl rfl (by simp) (λb hb=>Bb _ _ _ hb)
 have F:d<a.tmps.size:=by rw[h.st.size];exact J
 have k:(a.put (some d) (.pointer (some ⟨V.w.heap.size,0,none⟩))).tmps[d]?=some (.pointer (some ⟨V.w.heap.size,0,none⟩)):=by
  simp[Act.put,F]
 refine⟨⟨λt e ht=>?_,h.st.lt,by simp[Act.put,h.st.size],hi,h.st.nx,h.st.defers⟩,λt T' z' g=>?_,λt t' q q' b b' g i m hb c=>?_,?_⟩
 ·have ht:S.f t=some e:=ht
  have m:d≠t:=λe=>by subst e;rw[G]at ht;cases ht
  have:=(h.st.env t e ht).ext x
  simpa[Act.put,mW m]using this
 ·have g:(if t=d then some (T,z) else S.pd t)=some (T',z'):=g
  by_cases e:t=d
  ·subst e
   rw[if_pos rfl]at g
   injection g with g;injection g with A y
   subst A y;refine⟨G,_,k,⟨⟨zv.cells,Ck _ _,I⟩,λhI=>?_,λid o v l e=>?_,?_,B⟩⟩
   ·exact Nat.lt_irrefl _ (h.st.inv.iLt _ hI)
   ·have n:=(h.st.inv.st.obj id o v).blt l e
    omega
   ·exact h.st.inv.ext.size
  ·rw[if_neg e]at g
   obtain⟨v,b,l,n⟩:=h.pd t T' z' g;refine⟨v,b,by rw[Hs (λe'=>e (by injection e' with e';exact e'.symm))];exact l,⟨?_,n.ni,n.ns,n.lo,n.zok⟩⟩;obtain⟨cur,L,K⟩:=n.cells;exact⟨cur,(Bb _ _ _ n.lt).trans L,K⟩
 ·have g:(if t=d then some (T,z) else S.pd t)=some q:=g
  have i:(if t'=d then some (T,z) else S.pd t')=some q':=i
  have old:∀t q b,t≠d->S.pd t=some q->(a.put (some d) (.pointer (some ⟨V.w.heap.size,0,none⟩))).tmps[t]?=some (.pointer (some ⟨b,0,none⟩))->a.tmps[t]?=some (.pointer (some ⟨b,0,none⟩))/\b<V.w.heap.size:=λt q b e g hb=>by
   rw[Hs (λe'=>e (by injection e' with e';exact e'.symm))]at hb;obtain⟨_,M,l,n⟩:=h.pd t q.1 q.2 g;rw[hb]at l
   injection l with l;injection l with l;injection l with l;injection l with l
   subst l;exact⟨hb,n.lt⟩
  by_cases e:t=d
  ·subst e
   rw[k]at hb
   injection hb with hb;injection hb with hb;injection hb with hb;injection hb with hb
   rw[if_neg (Ne.symm m)]at i;have:=(old t' q' b' (Ne.symm m) i c).2;omega
  ·rw [if_neg e]at g
   have v:=old t q b e g hb;by_cases e':t'=d
   ·subst e'
    rw[k]at c
    injection c with c;injection c with c;injection c with c;injection c with c
    omega
   ·rw[if_neg e']at i
    exact h.ne t t' q q' b b' g i m v.1 (old t' q' b' e' i c).1
 ·obtain⟨Q,u⟩:=h.sc
  refine⟨Q,u.s.step (λ_ h=>h) x.heap x.size (λb hb _ _=>Bb _ _ _ hb) (λ_ h=>.inl h) λb hb=>.inl (H0 x h.st.inv.st.lt hb),u.j,u.b,λt q b g hb H=>?_⟩;have g:(if t=d then some (T,z) else S.pd t)=some q:=g;by_cases e:t=d
  ·subst e
   rw[k]at hb
   injection hb with hb;injection hb with hb;injection hb with hb;injection hb with hb
   have:=u.s.r.blt H;omega
  ·rw[if_neg e]at g
   rw[Hs (λe'=>e (by injection e' with e';exact e'.symm))]at hb;exact u.p t q b g hb H
theorem IZ.gL(h:IZ TB Γ N V S a){d:Tmp}{T:TypeId}{z:List Value}(hd:d<N)(hq:S.pd d=some (T,z)):∃V',V'.w=V.w/\IZ TB Γ N V' (S.ad d T z) a:=by
 obtain⟨hf,b,hb,Z⟩:=h.pd d T z hq;obtain⟨cur,hcur,Y⟩:=Z.cells;have hi:=h.st.inv;have X:=h.st.nx;have e:Ext V (Au V b 1 False V.w):=Eu (i9 _) λ_ _=>rfl
 have G:(Au V b 1 False V.w).ρ V.nx=b:=by simp[Au]
 have hrel:C1 (Au V b 1 False V.w) (z.map zC) cur:=by
  refine⟨by rw[f7,<-Y];simp,λj c v hj hv=>?_⟩
  have hzj:z[j]?=some v:=by rw[<-Y,mw];exact hv
  rw[io,hzj]at hj
  injection hj with hj
  subst hj;exact JF (ge.1 Z.zok v (co hzj))
 have k:∀id o,look ((S.nx,O.cells T z.length [z.map zC])::S.σ) id=some o->(id=V.nx/\o=O.cells T z.length [z.map zC])\/(id≠V.nx/\look S.σ id=some o):=λid o y=>by
  rw[Ax]at y;rw[<-X]at y;by_cases I:V.nx=id
  ·rw[if_pos I]at y;injection y with y;exact .inl ⟨I.symm,y.symm⟩
  ·rw[if_neg I]at y;exact .inr ⟨Ne.symm I,y⟩
 have n:∀id,id<V.nx->((Au V b 1 False V.w).nl id↔V.nl id):=λid I=>e.nl id I;obtain⟨Q,L⟩:=h.sc
 have hsQ:MD TB (Au V b 1 False V.w) ((S.nx,O.cells T z.length [z.map zC])::S.σ) Q:=by
  refine⟨L.s.r,L.s.ji,L.s.bi,λb' ⟨id,o,y,K,l⟩ hB=>?_⟩
  rcases k id o y with ⟨rfl,rfl⟩|⟨M,B⟩
  ·have l:b'=_:=l
   rw[G]at l;subst l;exact L.p d _ _ hq hb hB
  ·have g:=hi.st.lt id o B
   exact L.s.ap b' ⟨id,o,B,λu=>K ((n id g).2 u),(AA e g).1 l⟩ hB
 have hinv:Inv TB Γ (Au V b 1 False V.w) ((S.nx,O.cells T z.length [z.map zC])::S.σ):=by
  refine⟨hi.os,hi.tape,hi.output,hi.old,hi.iLt,hi.iNew,hi.ext.trans e,⟨λid o y=>?_,λid o y=>?_,λid o y K b' l hI=>?_,λid id' o o' y hl' P K hn' b' A J=>?_⟩,λid o y K b' l=>?_,hi.tabs,⟨Q,hsQ,L.j,L.b⟩⟩
  ·rcases k id o y with ⟨rfl,rfl⟩|⟨M,B⟩
   ·refine .inr ⟨by simp[Au],cur,by rw[G];exact hcur,?_,by simp[Au],by simp[Au,maxLen],?_,?_⟩
    ·simp[Au,<-Y]
    ·intro r hr;simp at hr;subst hr;simp
    ·intro i r j c hi hj
     have M:=Wt hrel i r j c hi hj;rw[f7]at M;exact M
   ·exact(hi.st.obj id o B).AR e (hi.st.lt id o B) λ_ _ _=>rfl
  ·rcases k id o y with ⟨rfl,rfl⟩|⟨M,B⟩
   ·exact ny _
   ·exact m9 (hi.st.lt id o B)
  ·rcases k id o y with ⟨rfl,rfl⟩|⟨M,B⟩
   ·have l:b'=_:=l
    rw[G]at l;subst l;exact Z.ni hI
   ·have g:=hi.st.lt id o B
    exact hi.st.free id o B (λu=>K ((n id g).2 u)) b' ((AA e g).1 l) hI
  ·rcases k id o y with ⟨rfl,rfl⟩|⟨M,B⟩<;>rcases k id' o' hl' with ⟨rfl,rfl⟩|⟨h1',R⟩
   ·exact absurd rfl P
   ·have g:=hi.st.lt id' o' R
    have A:b'=_:=A;rw[G]at A;subst A;exact Z.ns id' o' R (λu=>hn' ((n id' g).2 u)) ((AA e g).1 J)
   ·have g:=hi.st.lt id o B
    have J:b'=_:=J;rw[G]at J;subst J;exact Z.ns id o B (λu=>K ((n id g).2 u)) ((AA e g).1 A)
   ·have g:=hi.st.lt id o B
    have U:=hi.st.lt id' o' R;exact hi.st.inj id id' o o' B R P (λu=>K ((n id g).2 u)) (λu=>hn' ((n id' U).2 u)) b' ((AA e g).1 A) ((AA e U).1 J)
  ·rcases k id o y with ⟨rfl,rfl⟩|⟨M,B⟩
   ·have l:b'=_:=l
    rw[G]at l;subst l;exact .inl Z.lo
   ·have g:=hi.st.lt id o B
    exact hi.live id o B (λu=>K ((n id g).2 u)) b' ((AA e g).1 l)
 refine⟨Au V b 1 False V.w,rfl,⟨λt x ht=>?_,λt x ht=>?_,h.st.size,hinv,by show V.nx+1=S.nx+1;rw[X],h.st.defers⟩,λt T' z' H=>?_,λt t' q q' b1 b1' m F P A hb1'=>?_,⟨Q,hsQ,L.j,L.b,λt q b1 m A=>?_⟩⟩
 ·by_cases et:t=d
  ·subst et
   have ht:BO S.f (some t) (.o (.ptr S.nx z.length 0 0)) t=some x:=ht;simp only[BO,if_true]at ht
   injection ht with ht
   subst ht
   have hg:a.tmps.getD t undef=.pointer (some ⟨b,0,none⟩):=by simp[hb]
   rw[hg,<-X];exact Nb
  ·have ht:BO S.f (some d) (.o (.ptr S.nx z.length 0 0)) t=some x:=ht
   rw[Dl (λe'=>et (by injection e' with e';exact e'.symm))]at ht;exact(h.st.env t x ht).ext e
 ·by_cases et:t=d
  ·subst et;exact hd
  ·have ht:BO S.f (some d) (.o (.ptr S.nx z.length 0 0)) t=some x:=ht
   rw[Dl (λe'=>et (by injection e' with e';exact e'.symm))]at ht;exact h.st.lt t x ht
 ·have H:(if t=d then none else S.pd t)=some (T',z'):=H
  by_cases et:t=d
  ·rw[if_pos et]at H;cases H
  ·rw [if_neg et]at H
   obtain⟨M,b2,B,h3⟩:=h.pd t T' z' H;refine⟨?_,b2,B,⟨h3.cells,h3.ni,λid o y K=>?_,h3.lo,h3.zok⟩⟩
   ·show BO S.f (some d) _ t=none
    rw[Dl (λe'=>et (by injection e' with e';exact e'.symm))];exact M
   ·rcases k id o y with ⟨rfl,rfl⟩|⟨h4,h5⟩
    ·intro u
     have u:b2=_:=u;rw[G]at u;exact h.ne d t _ _ b b2 hq H (Ne.symm et) hb B u.symm
    ·have g:=hi.st.lt id o h5
     exact λu=>h3.ns id o h5 (λu=>K ((n id g).2 u)) ((AA e g).1 u)
 ·have m:(if t=d then none else S.pd t)=some q:=m
  have F:(if t'=d then none else S.pd t')=some q':=F;by_cases et:t=d
  ·rw[if_pos et]at m;cases m
  ·by_cases et':t'=d
   ·rw[if_pos et']at F;cases F
   ·rw[if_neg et]at m;rw[if_neg et']at F
    exact h.ne t t' q q' b1 b1' m F P A hb1'
 ·have m:(if t=d then none else S.pd t)=some q:=m
  by_cases et:t=d
  ·rw[if_pos et]at m;cases m
  ·rw[if_neg et]at m
   exact L.p t q b1 m A
end
section
variable {P:Program}{TB:BA}{ops:Array Oper}{Γ:Ctx}{N:Nat}
def UY(TB:BA)(Γ:Ctx)(N:Nat)(K:BV->Prop)(Q:Exit->Act->World->Prop):Prop:=∀V S a,IZ TB Γ N V S a->K S->Q .normal a V.w
theorem Tj{i m:Nat}{o:Oper}(l:ops[i]?=some o)(j:∀t,o.dst=some t->t<N){K:BV->Prop}{K':Act->World->Prop}{Q:Exit->Act->World->Prop}
 (k:∀V S a,IZ TB Γ N V S a->K S->K' a V.w) {V:View} {S:BV} {a:Act} (b:IZ TB Γ N V S a) (h:bA P TB ops m o K S):wpOp P ops Q i K' a V.w:=by
 have d:∀t e,S.f t=some e->t<a.tmps.size:=λt e n=>by rw[b.st.size];exact b.st.lt t e n
 obtain⟨Q0,g⟩:=b.sc
 have c:Good TB V S.σ S.nx Q0:=⟨b.st.inv.iLt,b.st.inv.st,b.st.inv.tabs,b.st.nx,g.s⟩
 unfold wpOp;simp only[l]
 rcases h with ⟨hg,hk⟩|⟨hg,hk⟩
 ·rw[He b.st.env d hg]
  have p:IZ TB Γ N V (S.put o.dst (.t [])) (a.put o.dst undef):=b.put (σ':=S.σ) j (Ext.refl _) g c.inv b.st.nx (LW V)
  simpa using k _ _ _ p hk
 ·rw[He b.st.env d hg]
  simp only[if_true];refine .inl (UM P (Oper.wp_mono ?_ (hk (EN V V S.σ Q0) V a (b.st.env.op o) c.inv b.st.nx)));rintro a' w' ⟨V',v,x,σ',rfl,rfl,y,u,r,q⟩;exact k V' _ _ (b.put j y g u rfl r) q.2
theorem XL{d:Option Tmp}{ty:TypeId}{pos:String}{af:Array Edge}{g:Option (Nat×Bool)}{ρ:Operand->Value}{T:TypeId}{z:List Value}(c:X8 P T=some z):∃zv:Value,zv.cells.toList=z/\∀w:World,(execOp ρ ⟨d,.alloc T,ty,pos,af,g⟩).run P w=.ok (.value (.pointer (some ⟨w.heap.size,0,none⟩))) (w.alloc (.cells zv.cells T)):=by
 obtain⟨i,zv,hi,b,a⟩:=HD c;exact⟨zv,a,λw=>by simp[execOp,Instr.alloc,zeroValue,typeInfo,hi,b,newVar,newRow,go_sem]⟩
theorem Nf{i c:Nat}{o:Oper}(l:ops[i]?=some o)(n:∀t,o.dst=some t->t<N){K:BV->Prop}{K':Act->World->Prop}{Q:Exit->Act->World->Prop}
 (p:∀V S a,IZ TB Γ N V S a->K S->K' a V.w) {V:View} {S:BV} {a:Act} (j:IZ TB Γ N V S a) (h:St P TB ops c o K S):wpOp P ops Q i K' a V.w:=by
 unfold St at h;by_cases I:c=1
 ·rw[if_pos I]at h;exact Tj l n p j h
 ·rw [if_neg I]at h
  by_cases ck:1000<=c
  ·rw[if_pos ck]at h;exact Tj l n p j h
  rw[if_neg ck]at h;by_cases H:c=5
  ·rw [if_pos H]at h
   obtain⟨d,T,z,_,r,y⟩:=h
   have A:d<N:=by
    obtain⟨_,b,hb,_⟩:=j.pd d T z r;have:=(lQ.1 hb).1;rw[j.st.size]at this;exact this
   obtain⟨V',X,k⟩:=j.gL A r;have:=Tj (Q:=Q) l n p k y;rwa[X]at this
  ·rw [if_neg H]at h
   obtain⟨u,L,hk⟩:=h
   rcases L with ⟨F,s,rfl⟩|⟨F,s,x,f,rfl⟩|⟨F,s,d,T,z,f,B,U,R,M,rfl⟩
   ·exact Tj (m:=0) l n p j (.inl ⟨s,hk⟩)
   ·refine Tj (m:=0) l n p j (.inr ⟨s,λΓ=>A1.jM P TB Γ ?_ ⟨λ_ _=>rfl,hk⟩⟩)
    unfold QC at f;by_cases e:c=2
    ·rw[if_pos e]at f;exact f Γ S.σ S.nx
    ·rw[if_neg e]at f
     by_cases G:c=0
     ·rw[if_pos G]at f;exact f Γ
     ·rw[if_neg G]at f;exact f.2 Γ S.σ S.nx rfl
   ·unfold wpOp
    simp only[l]
    have J:Region.wanted o (yielded ops a.tmps)=true:=by unfold Region.wanted;rw[s]
    rw[J];simp only[if_true];refine .inl ?_;obtain⟨dst,op,ty,pos,af,g⟩:=o;simp only at f B;subst f B;obtain⟨zv,v,q⟩:=XL (P:=P) (d:=some d) (ty:=ty) (pos:=pos) (af:=af) (g:=g) (ρ:=a.eval) U;unfold Oper.wp;rw[q];have k:=j.alloc (T:=T) (zv:=zv) (n d rfl) M v R;exact p _ _ _ k hk
theorem TA{ops:Array Oper}(u:Gh N ops=true){K:BV->Prop}{Q:Exit->Act->World->Prop}(v:UY TB Γ N K Q):∀(n:Nat) (r:List (Nat×Nat)) (listed:Array Bool) (V:View) (S:BV) (a:Act),
 r.length=n->Fw ops listed->Bk ops r listed=true->DS ops r=true->IZ TB Γ N V S a->Lex P TB ops r K S->wpAny P .any ops Q n listed a V.w
 | 0,r,listed,V,S,a,f,s,b,hk,m,h=>by
  have:r=[]:=lL.1 f;subst this;refine⟨?_,v V S a m h⟩
  simpa[Bk]using b
 | n + 1,r,listed,V,S,a,f,s,b,hk,m,h=>by
  refine⟨λe=>?_,λj q=>?_⟩
  ·cases r with
   | nil=>simp at f
   | cons x r=>
    obtain⟨i,c⟩:=x;simp only[Bk,d4]at b;have:=b.1;rw[e]at this;simp at this
  ·obtain⟨k,c,g,o,rfl,d,y⟩:=E4 K r listed S s b hk h j q
   refine Nf d (λt ht=>TU u d ht) (λV' S' a' l p=>?_) m y;exact TA u v n (k++g) _ V' S' a' (by simp at f |-;omega) (Hj s q) (Od k g j c listed b q) (Ks k g _ hk) l p
variable {i c:Nat}{r:List (Nat×Nat)}{L:List (Nat×E)}{σ:Ab}{nx:Nat}{pl:List (Nat×(TypeId×List Value))}{K:BV->Prop}{Q:Exit->Env->Ab->Nat->Prop}
def Gt(P:Program)(TB:BA)(ops:Array Oper)(r:List (Nat×Nat))(K:BV->Prop)(L:List (Nat×E))(σ:Ab)(nx:Nat)(pl:List (Nat×(TypeId×List Value))):Prop:=Lex P TB ops r K ⟨look L,σ,nx,look pl⟩
theorem Om{id:Nat}(r:List (Nat×Nat))(o:P.follows .mixedOrders=true)(p:Gh N ops=true)(n:r.length=ops.size)(g:(Bk ops r (Array.replicate ops.size false) && DS ops r)=true)
 (h:Gt P TB ops r (λS=>Q .normal S.f S.σ S.nx) L σ nx []):Aj P TB Γ N (.region id ops true) Q (look L) σ nx:=by
 intro V a hs;rw[d4]at g;refine wp_region_any o ?_;obtain⟨j,s⟩:=hs.inv.drew
 have e:BS TB Γ N { V with w:={ V.w with drawn:=V.w.drawn+1 } } (look L) σ V.nx a:=⟨hs.env.ext s,hs.lt,hs.size,j,rfl,hs.defers⟩
 have i:=hs.nx;subst i;exact TA p (λV S a hs hk=>⟨V,S.f,S.σ,rfl,by rw[hs.st.nx];exact hk,by rw[hs.st.nx];exact hs.st⟩) ops.size r _ { V with w:={ V.w with drawn:=V.w.drawn+1 } } _ a n (Mf ops) g.1 g.2 ⟨e,λd T z c=>(by cases c),λd d' q q' b b' c=>(by cases c),let ⟨Q0,m,l,k⟩:=j.hid;⟨Q0,m,l,k,λd q b c=>(by cases c)⟩⟩ h
theorem Aa{K:BV->Prop}(h:K ⟨look L,σ,nx,look pl⟩):Gt P TB ops [] K L σ nx pl:=h
theorem NZ(h:Q .normal (look L) σ nx):Gt P TB ops [] (λS=>Q .normal S.f S.σ S.nx) L σ nx pl:=h
def DQ(d:Nat):List (Nat×(TypeId×List Value))->List (Nat×(TypeId×List Value))
 | []=>[]
 | (k,x)::r=>bif Nat.beq k d then DQ d r else (k,x)::DQ d r
theorem Ho:∀(pl:List (Nat×(TypeId×List Value))) (d t:Nat),look (DQ d pl) t=if t=d then none else look pl t
 | [],d,t=>by simp[DQ,look]
 | (k, x)::r,d,t=>by
  simp only[DQ];by_cases h:k=d
  ·subst h
   simp only[oN,cond_true];rw[Ho r k t,Ax];by_cases a:t=k
   ·simp[a]
   ·rw[if_neg a,if_neg a,if_neg (Ne.symm a)]
  ·have:Nat.beq k d=false:=by
    cases hb:Nat.beq k d
    ·rfl
    ·exact absurd (gc hb) h
   rw[this,cond_false,Ax,Ax,Ho r d t];by_cases a:t=d
   ·subst a;simp[h]
   ·simp[a]
theorem Il{d:Tmp}{x:E}{σ':Ab}{nx':Nat}:BV.put ⟨look L,σ',nx',look pl⟩ (some d) x=⟨look ((d,x)::L),σ',nx',look (DQ d pl)⟩:=by
 unfold BV.put;rw[Eh];congr 1;funext t;rw[Ho];by_cases h:t=d
 ·subst h;simp
 ·simp[h,Ne.symm h]
theorem SG{x:E}{σ':Ab}{nx':Nat}:BV.put ⟨look L,σ',nx',look pl⟩ none x=⟨look L,σ',nx',look pl⟩:=by
 unfold BV.put;congr 1
def Bs(P:Program)(TB:BA)(ops:Array Oper)(o:Oper)(i c:Nat)(r:List (Nat×Nat))(K:BV->Prop)(L:List (Nat×E))(σ:Ab)(nx:Nat)(pl:List (Nat×(TypeId×List Value))):Prop:=
 ops[i]?=some o->Gt P TB ops ((i,c)::r) K L σ nx pl
theorem Ag{o:Oper}(a:Oa ops.toList i=some o)(h:Bs P TB ops o i c r K L σ nx pl):Gt P TB ops ((i,c)::r) K L σ nx pl:=h (by rw[Ob]at a;simpa using a)
variable {d:Tmp}{op:Op}{ty:TypeId}{pos:String}{af:Array Edge}{g:Option (Nat×Bool)}
theorem CO{x:E}(b:∀Γ σ nx,A1 P TB Γ ⟨some d,op,ty,pos,af,g⟩ (look L) σ nx x)(hg:Bw ops ⟨some d,op,ty,pos,af,g⟩ (look L)=some true)(e:(Nat.beq c 0 || Nat.beq c 2)=true)(h:Gt P TB ops r K ((d,x)::L) σ nx (DQ d pl)):Bs P TB ops ⟨some d,op,ty,pos,af,g⟩ i c r K L σ nx pl:=by
 intro f;refine⟨_,f,?_⟩;unfold St
 have a:c=0\/c=2:=by
  simp only[lT,Nat.beq_eq]at e;exact e
 rw[if_neg (by omega),if_neg (by omega),if_neg (by omega)];refine⟨λS=>S.put (some d) x,.inr (.inl ⟨by omega,hg,x,?_,rfl⟩),?_⟩
 ·unfold QC
  rcases a with a|a
  ·rw[if_neg (by omega),if_pos a];exact λΓ=>b Γ σ nx
  ·rw[if_pos a];exact b
 ·simp only
  rw[Il];exact h
theorem fx{x:E}(a:∀Γ,A1 P TB Γ ⟨some d,op,ty,pos,af,g⟩ (look L) σ nx x)(hg:Bw ops ⟨some d,op,ty,pos,af,g⟩ (look L)=some true)(e:Nat.beq c 0=true)(h:Gt P TB ops r K ((d,x)::L) σ nx (DQ d pl)):Bs P TB ops ⟨some d,op,ty,pos,af,g⟩ i c r K L σ nx pl:=by
 intro b;refine⟨_,b,?_⟩;unfold St
 have f:c=0:=by simpa using e
 rw[if_neg (by omega),if_neg (by omega),if_neg (by omega)];refine⟨λS=>S.put (some d) x,.inr (.inl ⟨by omega,hg,x,?_,rfl⟩),?_⟩
 ·unfold QC;rw[if_neg (by omega),if_pos f];exact a
 ·simp only
  rw[Il];exact h
theorem iG{x:E}(b:∀Γ σ' nx',look σ' (c-10)=look σ (c-10)->A1 P TB Γ ⟨some d,op,ty,pos,af,g⟩ (look L) σ' nx' x)(hg:Bw ops ⟨some d,op,ty,pos,af,g⟩ (look L)=some true)(a:(Nat.ble 10 c && Nat.ble c 999)=true)(h:Gt P TB ops r K ((d,x)::L) σ nx (DQ d pl)):Bs P TB ops ⟨some d,op,ty,pos,af,g⟩ i c r K L σ nx pl:=by
 intro e;refine⟨_,e,?_⟩;unfold St
 have f:10<=c/\c<=999:=by
  simp only[d4,Nat.ble_eq]at a;exact a
 rw[if_neg (by omega),if_neg (by omega),if_neg (by omega)];refine⟨λS=>S.put (some d) x,.inr (.inl ⟨by omega,hg,x,?_,rfl⟩),?_⟩
 ·unfold QC;rw[if_neg (by omega),if_neg (by omega)];exact⟨f.1,b⟩
 ·simp only
  rw[Il];exact h
theorem Cw(h:∀Γ,Cr P TB Γ ⟨some d,op,ty,pos,af,g⟩ (look L) σ nx (λx σ' nx'=>Kept (c-1000) σ σ'/\Gt P TB ops r K ((d,x)::L) σ' nx' (DQ d pl)))(hg:Bw ops ⟨some d,op,ty,pos,af,g⟩ (look L)=some true)(a:Nat.ble 1000 c=true):Bs P TB ops ⟨some d,op,ty,pos,af,g⟩ i c r K L σ nx pl:=by
 intro b;refine⟨_,b,?_⟩;unfold St;have a:=ce a;rw[if_neg (by omega),if_pos a]
 exact .inr ⟨hg,λΓ=>(h Γ).mono λx σ' nx' hk=>by
  refine⟨hk.1,?_⟩;have e:BV.put ⟨(⟨look L,σ,nx,look pl⟩:BV).f,σ',nx',(⟨look L,σ,nx,look pl⟩:BV).pd⟩ (some d) x=_:=Il
  rw[e];exact hk.2⟩
theorem Kw(h:∀Γ,Cr P TB Γ ⟨some d,op,ty,pos,af,g⟩ (look L) σ nx (λx σ' nx'=>Gt P TB ops r K ((d,x)::L) σ' nx' (DQ d pl)))(hg:Bw ops ⟨some d,op,ty,pos,af,g⟩ (look L)=some true)(j:c=1):Bs P TB ops ⟨some d,op,ty,pos,af,g⟩ i c r K L σ nx pl:=by
 intro b;refine⟨_,b,?_⟩;unfold St;rw[if_pos j]
 exact .inr ⟨hg,λΓ=>(h Γ).mono λx σ' nx' hk=>by
  refine⟨λid a=>by simp at a,?_⟩;have e:BV.put ⟨(⟨look L,σ,nx,look pl⟩:BV).f,σ',nx',(⟨look L,σ,nx,look pl⟩:BV).pd⟩ (some d) x=_:=Il
  rw[e];exact hk⟩
theorem HJ(h:∀Γ,Cr P TB Γ ⟨none,op,ty,pos,af,g⟩ (look L) σ nx (λ_ σ' nx'=>Gt P TB ops r K L σ' nx' pl))(hg:Bw ops ⟨none,op,ty,pos,af,g⟩ (look L)=some true)(d:c=1):Bs P TB ops ⟨none,op,ty,pos,af,g⟩ i c r K L σ nx pl:=by
 intro b;refine⟨_,b,?_⟩;unfold St;rw[if_pos d]
 exact .inr ⟨hg,λΓ=>(h Γ).mono λx σ' nx' hk=>by
  refine⟨λid a=>by simp at a,?_⟩;have e:BV.put ⟨(⟨look L,σ,nx,look pl⟩:BV).f,σ',nx',(⟨look L,σ,nx,look pl⟩:BV).pd⟩ none x=_:=SG
  rw[e];exact hk⟩
theorem j8{T:TypeId}{z:List Value}[b:BM P T z](a:z.all O2=true)(g:look L d=none)(j:c=3)(h:Gt P TB ops r K L σ nx ((d,(T,z))::pl)):Bs P TB ops ⟨some d,.alloc T,ty,pos,af,none⟩ i c r K L σ nx pl:=by
 intro f;refine⟨_,f,?_⟩;unfold St;rw[if_neg (by omega),if_neg (by omega),if_neg (by omega)];refine⟨λS=>S.GU d (T,z),.inr (.inr ⟨j,rfl,d,T,z,rfl,rfl,b.out,a,g,rfl⟩),?_⟩
 have e:BV.GU ⟨look L,σ,nx,look pl⟩ d (T,z)=⟨look L,σ,nx,look ((d,(T,z))::pl)⟩:=by
  unfold BV.GU;congr 1;funext t;rw[Ax];by_cases h:t=d
  ·subst h;simp
  ·simp[h,Ne.symm h]
 simp only;rw[e];exact h
theorem jZ{t : Tmp}{T:TypeId}{z:List Value}(j:look pl t=some (T,z))(ht:(op.operands.any λx=>match x with|.tmp t'=>Nat.beq t' t|_=>false)=true)(hg:Bw ops ⟨none,op,ty,pos,af,g⟩ (look ((t,.o (.ptr nx z.length 0 0))::L))=some true)(m:c=5)
    (h:∀Γ,Cr P TB Γ ⟨none,op,ty,pos,af,g⟩ (look ((t,.o (.ptr nx z.length 0 0))::L)) ((nx,.cells T z.length [z.map zC])::σ) (nx+1) (λ_ σ' nx'=>Gt P TB ops r K ((t,.o (.ptr nx z.length 0 0))::L) σ' nx' (DQ t pl))):Bs P TB ops ⟨none,op,ty,pos,af,g⟩ i c r K L σ nx pl:=by
  intro k;refine⟨_,k,?_⟩;unfold St;rw[if_neg (by omega),if_neg (by omega),if_pos m]
  have e:BV.ad ⟨look L,σ,nx,look pl⟩ t T z=⟨look ((t,.o (.ptr nx z.length 0 0))::L),(nx,.cells T z.length [z.map zC])::σ,nx+1,look (DQ t pl)⟩:=by
    unfold BV.ad;rw[Eh];congr 1;funext t';rw[Ho]
  have l : .tmp t∈op.operands:=by
    obtain⟨i,hi,b⟩:=oh.1 ht;have d:=pb hi;generalize op.operands[i]=x at *
    cases x with
    | tmp t' => have:t'=t:=by simpa using b
                rw[<-this];exact d
    | _=>cases b
  refine⟨t,T,z,l,j,?_⟩;rw[e]
  exact .inr ⟨hg,λΓ=>(h Γ).mono λx σ' nx' hk=>by
    refine⟨λid a=>by simp at a,?_⟩;have n:BV.put ⟨(⟨look ((t,.o (.ptr nx z.length 0 0))::L),(nx,.cells T z.length [z.map zC])::σ,nx+1,look (DQ t pl)⟩:BV).f,σ',nx',(⟨look ((t,.o (.ptr nx z.length 0 0))::L),(nx,.cells T z.length [z.map zC])::σ,nx+1,look (DQ t pl)⟩:BV).pd⟩ none x=_:=SG
    rw[n];exact hk⟩
theorem iC{t:Tmp}{ts:TypeId}{y:Operand}{T:TypeId}{z:List Value}(a:look pl t=some (T,z))(hg:Bw ops ⟨none,.store ts (.tmp t) y,ty,pos,af,g⟩ (look ((t,.o (.ptr nx z.length 0 0))::L))=some true)(b:c=5)
 (h:∀Γ,Cr P TB Γ ⟨none,.store ts (.tmp t) y,ty,pos,af,g⟩ (look ((t,.o (.ptr nx z.length 0 0))::L)) ((nx,.cells T z.length [z.map zC])::σ) (nx+1) (λ_ σ' nx'=>Gt P TB ops r K ((t,.o (.ptr nx z.length 0 0))::L) σ' nx' (DQ t pl))):Bs P TB ops ⟨none,.store ts (.tmp t) y,ty,pos,af,g⟩ i c r K L σ nx pl:=
 jZ a (by simp[Op.operands]) hg b h
theorem ZJ{a:Bool}(e:∀Γ σ nx,A1 P TB Γ ⟨some d,op,ty,pos,af,g⟩ (look L) σ nx (eB a))(hg:Bw ops ⟨some d,op,ty,pos,af,g⟩ (look L)=some true)(f:(Nat.beq c 0 || Nat.beq c 2)=true)(h:∀b,a=b->Gt P TB ops r K ((d,eB b)::L) σ nx (DQ d pl)):Bs P TB ops ⟨some d,op,ty,pos,af,g⟩ i c r K L σ nx pl:=CO e hg f (h a rfl)
end
section
variable {P:Program}{TB:BA}{ops:Array Oper}{i c:Nat}{r:List (Nat×Nat)}{L:List (Nat×E)}{σ:Ab}{nx:Nat}{pl:List (Nat×(TypeId×List Value))}{K:BV->Prop}{d:Option Tmp}{ty:TypeId}{pos:String}{af:Array Edge}{g:Option (Nat×Bool)}
end
section
variable {P:Program}{TB:BA}{ops:Array Oper}{i c:Nat}{r:List (Nat×Nat)}{L:List (Nat×E)}{σ:Ab}{nx:Nat}{pl:List (Nat×(TypeId×List Value))}{K:BV->Prop}{d:Tmp}{ty:TypeId}{pos:String}{af:Array Edge}{g:Option (Nat×Bool)}{op:Op}
theorem yQ{md:Bool}[e:C0 P]{q:Prop}{x:E}(hg:Bw ops ⟨some d,op,ty,pos,af,g⟩ (look L)=some true)(b:(Nat.beq c 0 || Nat.beq c 2)=true)(h:ah e.T md (look L) op=some (q,x))(a:q)(hk:Gt P TB ops r K ((d,x)::L) σ nx (DQ d pl)):Bs P TB ops ⟨some d,op,ty,pos,af,g⟩ i c r K L σ nx pl:=
 CO (λ_ _ _=>VY h a) hg b hk
theorem yB[f:C0 P]{a:Bool}(hg:Bw ops ⟨some d,op,ty,pos,af,g⟩ (look L)=some true)(e:(Nat.beq c 0 || Nat.beq c 2)=true)(h:SO f.T (look L) op=some a)(hk:∀b,a=b->Gt P TB ops r K ((d,eB b)::L) σ nx (DQ d pl)):Bs P TB ops ⟨some d,op,ty,pos,af,g⟩ i c r K L σ nx pl:=
 ZJ (λ_ _ _=>SP h) hg e hk
theorem yS[b:C0 P]{x:E}(hg:Bw ops ⟨some d,op,ty,pos,af,g⟩ (look L)=some true)(a:Nat.beq c 0=true)(h:Mt b.T σ (look L) op=some x)(hk:Gt P TB ops r K ((d,x)::L) σ nx (DQ d pl)):Bs P TB ops ⟨some d,op,ty,pos,af,g⟩ i c r K L σ nx pl:=
 fx (λ_=>Ok h) hg a hk
theorem yW[b:C0 P]{t:TypeId}{x y:Operand}{σ':Ab}(hg:Bw ops ⟨none,.store t x y,ty,pos,af,g⟩ (look L)=some true)(a:c=1)(h:PY b.T σ (look L) t x y=some σ')(hk:Gt P TB ops r K L σ' nx pl):Bs P TB ops ⟨none,.store t x y,ty,pos,af,g⟩ i c r K L σ nx pl:=
 HJ (λ_=>Ol h hk) hg a
theorem yA[d:C0 P]{t:Tmp}{ts:TypeId}{y:Operand}{T:TypeId}{z:List Value}{σ':Ab}(a:look pl t=some (T,z))(hg:Bw ops ⟨none,.store ts (.tmp t) y,ty,pos,af,g⟩ (look ((t,.o (.ptr nx z.length 0 0))::L))=some true)(b:c=5)
 (h:PY d.T ((nx,.cells T z.length [z.map zC])::σ) (look ((t,.o (.ptr nx z.length 0 0))::L)) ts (.tmp t) y=some σ') (hk:Gt P TB ops r K ((t,.o (.ptr nx z.length 0 0))::L) σ' (nx+1) (DQ t pl)):Bs P TB ops ⟨none,.store ts (.tmp t) y,ty,pos,af,g⟩ i c r K L σ nx pl:=
 iC a hg b λ_=>Ol h hk
theorem yP[b:C0 P]{T:TypeId}{z:List Value}(e:(I9 b.T T).ze=some z)(a:z.all O2=true)(f:look L d=none)(g:c=3)(h:Gt P TB ops r K L σ nx ((d,(T,z))::pl)):Bs P TB ops ⟨some d,.alloc T,ty,pos,af,none⟩ i c r K L σ nx pl:=
 haveI:=(DL (P:=P) T b.ok).Y3 e
 j8 a f g h
end
end Go.Am.R
namespace Go.Am
open Go
def Zf:Option TypeDesc->Bool
 | some (.func ..)=>true
 | _=>false
class dH (P:Program) (t:TypeId):Prop where
 out:Zf (P.underlying t)=true
theorem dj{P:Program}{t:TypeId}(h:Zf (P.underlying t)=true)(w:World):(Op.equal t .nilFunc .nilFunc).run P w=.ok true w/\∀(g:Fn) (a b:Array Value),(Op.equal t (.func g a b) .nilFunc).run P w=.ok false w:=by
 unfold Zf at h;split at h
 ·rename_i c
  unfold Op.equal Op.maxDepth;rw[show 10000=9999+1 from rfl,Op.equalIn];refine⟨by simp[run_underlying c,go_sem],λg a b=>?_⟩;rw[Op.equalIn];simp[run_underlying c,go_sem]
 ·cases h
section
variable {P:Program}{TB:BA}{Γ:Ctx}{d:Option Tmp}{ty:TypeId}{pos:String}{af:Array Edge}{g:Option (Nat×Bool)}{f:Env}{σ:Ab}{nx:Nat}
theorem c7{t yt:TypeId}{x y:Operand}[c:dH P t](b:ev f x=some (.o (.d (.v .nilFunc))))(a:ev f y=some (.o (.d (.v .nilFunc)))):A1 P TB Γ ⟨d,.binOp .neq t x y yt,ty,pos,af,g⟩ f σ nx (eB false):=
 BI b a rfl λw=>by
  have h:binOp .neq t .nilFunc .nilFunc=(do pure (.bool (!(<-Op.equal t .nilFunc .nilFunc)))):=rfl;have e:eqGuard .neq t x y .nilFunc .nilFunc=pure ():=rfl;rw[h,e];simp[(dj c.out w).1,go_sem]
end
def NS(L:List (Nat×E)):List Nat->Option (List (Nat×E))
 | []=>some []
 | k::r=>match look L k,NS L r with
  | some e,some l=>some ((k,e)::l)
  | _,_=>none
def VC(σ:Ab):List Nat->Option Ab
 | []=>some []
 | k::r=>match look σ k,VC σ r with
  | some e,some l=>some ((k,e)::l)
  | _,_=>none
section
variable {P:Program}{TB:BA}{Γ:Ctx}{N:Nat}
theorem Aj.ir{c:Code}{Q:Exit->Env->Ab->Nat->Prop}{L0 Lk:List (Nat×E)}{σ Sk:Ab}{nx:Nat}{α:Type}(ks is:List Nat)(hk:NS L0 ks=some Lk)(hi:VC σ is=some Sk)(v:α->List (Nat×E))(s:α->Ab)(n:Nat)(μ:α->Nat)
 (x:α) (a:List Nat) (b:(∀i,i<Γ.V.nx->a[i]?=some i)/\a.Nodup/\a.length=n) (d:C9 (nm a nx) (look L0) (v x++Lk)/\AM (nm a nx) σ (s x++Sk))
 (round:∀x,Aj P TB Γ N c (KK (λf σ nx=>∃y,μ y<μ x/\∃l:List Nat,(∀i,i<Γ.V.nx->l[i]?=some i)/\l.Nodup/\l.length=n/\C9 (nm l nx) f (v y++Lk)/\AM (nm l nx) σ (s y++Sk)) Q) (look (v x++Lk)) (s x++Sk) n) :
 Aj P TB Γ N (.loop c) Q (look L0) σ nx:=Aj.BC (λx=>v x++Lk) (λx=>s x++Sk) n μ x a b d round
theorem aL{c:Code}{Q:Exit->Env->Ab->Nat->Prop}{L0 Lk:List (Nat×E)}{σ Sk:Ab}{nx:Nat}{α:Type}(ks is:List Nat)(hk:NS L0 ks=some Lk)(hi:VC σ is=some Sk)(v:α->List (Nat×E))(s:α->Ab)(n:Nat)(μ:α->Nat)
 (x:α) {m:Nat} (a:Γ.V.nx=m) (b:Nat.ble m n=true) (d:C9 (nm (List.range n) nx) (look L0) (v x++Lk)/\AM (nm (List.range n) nx) σ (s x++Sk))
 (round:∀x,Aj P TB Γ N c (KK (λf σ nx=>∃y,μ y<μ x/\∃l:List Nat,(∀i,i<Γ.V.nx->l[i]?=some i)/\l.Nodup/\l.length=n/\C9 (nm l nx) f (v y++Lk)/\AM (nm l nx) σ (s y++Sk)) Q) (look (v x++Lk)) (s x++Sk) n) :
 Aj P TB Γ N (.loop c) Q (look L0) σ nx:=Aj.ir ks is hk hi v s n μ x (List.range n) (rg a b) d round
end
end Go.Am
