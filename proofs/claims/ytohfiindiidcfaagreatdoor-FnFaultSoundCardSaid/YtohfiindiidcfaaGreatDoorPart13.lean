/-
  A struct's literal with a slice of the call's own; results in memory.
-/
import Derived.Test.YtohfiindiidcfaaGreatDoorPart10
import Derived.ProofKit
import Derived.OpenShut
import Derived.WideKeyArgs
import Derived.Deep.DeepHandedRow
import Derived.Lib.LaidTab
set_option linter.all false
namespace Go.Am
open Go
section
variable {P:Program}{TB:BA}{Z:Ctx}{d:Option Tmp}{ty:TypeId}{pos:String}{af:Array Edge}{g:Option (Nat×Bool)}{f:Env}{σ:Ab}{nx:Nat}
variable {K:E->Ab->Nat->Prop}
theorem run_build{t:TypeId}{fl:List (Nat×Nat)}{parts:Array (Nat×Operand)}{U:Operand->Value}{V:View}{i:TypeInfo}{zv:Value}{cells:Array Value}(hi:P.info? t=some i)(m:i.zero=some zv)(k:ez P t=some fl)
 (r:Instr.fill (fl[·]?) zv.cells (parts.toList.map λ(i,x)=>(i,U x))=some cells):(Instr.build t (parts.map λ(i,x)=>(i,U x))).run P V.w=.ok (.agg cells) V.w:=by
 have a:(parts.map λ(i,x)=>(i,U x)).toList=parts.toList.map λ(i,x)=>(i,U x):=by simp
 unfold ez at k;split at k
 ·rename_i fs u
  have z:∀(l:List Field) (ll:List (Nat×Nat)),(l.mapM λf=>(P.info? f.type).map λi=>(f.offset,i.size))=some ll->∀w,((l.mapM λf=>do pure (f.offset,<-sizeOf f.type)):Sem (List (Nat×Nat))).run P w=.ok ll w:=by
   intro l
   induction l with
   | nil=>intro ll h w;simp at h;subst h;simp [go_sem]
   | cons y l s=>
    intro ll h w;simp only [lk,l8,jo,d7] at h;obtain⟨p,⟨ii,d,rfl⟩,ll',B,A⟩:=h;simp at A;subst A
    have v:(sizeOf y.type).run P w=.ok ii.size w:=by simp [sizeOf,typeInfo,d,go_sem]
    have ihh:=s ll' B w;simp only [bind_pure_comp] at ihh;simp only [lk,jb,v,iW,bind_pure_comp,k9,ihh]
  have o:=z fs.toList fl k V.w
  have b:(zeroValue t).run P V.w=.ok zv V.w:=by simp [zeroValue,typeInfo,hi,m,go_sem]
  have ha:((fs.mapM λf=>do pure (f.offset,<-sizeOf f.type)):Sem (Array (Nat×Nat))).run P V.w=.ok fl.toArray V.w:=by
   rw [lF,k9,o];rfl
  rw [<-a] at r;simp only [Instr.build,jb,b,iW,run_underlying u,ha];simp only [jP];rw [r];rfl
 ·rename_i n e u
  simp only [d7] at k;obtain⟨ii,d,rfl⟩:=k
  have b:(zeroValue t).run P V.w=.ok zv V.w:=by simp [zeroValue,typeInfo,hi,m,go_sem]
  have v:(sizeOf e).run P V.w=.ok ii.size V.w:=by simp [sizeOf,typeInfo,d,go_sem]
  have g:∀(ps:List (Nat×Value)) (c c':Array Value),Instr.fill (λi=>((List.range n).map λj=>(j*ii.size,ii.size))[i]?) c ps=some c'->Instr.fill (λi=>some (i*ii.size,ii.size)) c ps=some c':=by
   intro ps
   induction ps with
   | nil=>intro c c' h;simpa [Instr.fill] using h
   | cons p ps s=>
    intro c c' h;obtain⟨i',v'⟩:=p;unfold Instr.fill at h |-;by_cases q:i' < n
    ·simp only [ge,kW q,kE] at h
     simp only at h |-;split at h
     ·cases h
     ·rename_i hno
      rw [if_neg hno];exact s _ _ (by simpa only [ge] using h)
    ·simp [q] at h
  rw [<-a] at r;simp only [Instr.build,jb,b,iW,run_underlying u,v];rw [g _ _ _ r];rfl
 ·cases k
theorem JN{t:TypeId}{z:List Value}{fl:List (Nat×Nat)}{parts:Array (Nat×Operand)}{es:List E}{qs:List (Nat×List C)}[G:BJ P t z][J:Fj P t fl](p k e:Nat)(F:z[p]? = some (.slice none 0 0))(B:Jl f (parts.toList.map (·.2))=some es)(I:FG fl parts.toList es=some qs)
 (s:z.all Od=true) (u:(qs.all λx=>Nat.ble (x.1+x.2.length) z.length)=true) (M:K (.a (DL qs ((z.map zC).set p (.arr nx k 0 0)))) ((nx,.cells e k [])::σ) (nx+1)):Cq P TB Z ⟨d,.build t parts,ty,pos,af,g⟩ f σ nx K:=
 DZ λV U T S R=>by
  subst R;obtain⟨i,zv,hi,o,l⟩:=Hx G.out;obtain⟨y,n⟩:=S.alloc (c:=0) (nl:=True) (w:=V.w) (ob:=.cells e k []) rfl rfl rfl rfl (iX _) (λ_ _=>rfl) (.inl ⟨by simp [Ax],rfl⟩);have A:=Dt (V:=Ax V V.w.heap.size 0 True V.w) (U:=U) parts.toList es qs (λx r e L=>(T.get (by simp only [Op.operands];simpa using r) L).ext n) B I
  have q:CP (Ax V V.w.heap.size 0 True V.w) ((z.map zC).set p (.arr V.nx k 0 0)) zv.cells:=by
   refine⟨by rw [jX,gt,<-l];simp,λj c v h H=>?_⟩
   have b:z[j]? = some v:=by rw [<-l,jO];exact H
   by_cases m:p=j
   ·subst m
    rw [F] at b
    injection b with b
    subst b;rw [kj (by rw [gt];exact(am.1 F).1)] at h
    injection h with h
    subst h;exact AL.nil (by simp [Ax]) (by simp [Ax])
   ·rw [kq m,ge,b] at h
    injection h with h
    subst h;exact Li (d8.1 s v (co b))
  obtain⟨cells,Q,N⟩:=GC _ _ _ _ A q (λx r=>by rw [jX,gt];exact JA _ _ u x r);have hb:=run_build (P:=P) (U:=U) (parts:=parts) (V:=V) hi o J.out Q;refine⟨.agg cells,_,_,_,?_,n,y,(show Bq _ (.a _) _ from ⟨cells,rfl,N⟩),M⟩
  show ((do let v <-Instr.build t (parts.map λ(i,x)=>(i,U x));pure (Go.Next.value v):Sem Go.Next)).run P V.w=_
  simp only [jb,hb,iW];rfl
end
section
variable {P:Program}{TB:BA}
def dX(t:Tmp)(ids:List Nat)(post:E->Ab->Nat->Prop):Exit->Env->Ab->Nat->Prop
 | .ret,f,σ,nx|.normal,f,σ,nx=>∃id k i T rows r x,f t=some (.o (.ptr id k i 0))/\look σ id=some (.cells T k rows)/\rows[i]? = some r/\FE σ ids (.a r) x/\post x (Cu ids σ) nx
 | _,_,_,_=>False
theorem YT{fn:Func}{V:View}{Z:Ctx}{f:Env}{a:Act}{σ:Ab}{t:Tmp}{T':TypeId}{n:Nat}{id k i:Nat}{T:TypeId}{rows:List (List C)}{r:List C}[A:EX P T' true n](H:n=k)(s:fn.results = #[.cell t T'])(J:Ek V f a.tmps)(hi:Inv TB Z V σ)(ht:f t=some (.o (.ptr id k i 0)))(G:look σ id=some (.cells T k rows))(z:rows[i]? = some r) :
 ∃v,(results fn a.tmps).run P V.w=.ok v V.w/\Bq V (.a r) v:=by
 have F:=J t _ ht;subst H
 have e:∀w,(results fn a.tmps).run P w=((do loadVar T' (<-asAddr (a.tmps.getD t undef))):Sem Value).run P w:=λw=>by
  simp [results,s,-Array.getD_eq_getD_getElem?,go_sem]
 generalize N:a.tmps.getD t undef=M at F e
 cases F with
 | ptr I x=>
  rcases hi.st.obj id _ G with ⟨y,_⟩|⟨_,cur,y,S,R,Q,L,K⟩
  ·exact absurd y x
  ·have u:=L r (co z)
   rw [lh] at e
   have g:∀q,q < n->∃v,cur[i*n+q]? = some v/\AL V (r[q]?.getD (.d (.l []))) v:=λq j=>by
    have m:q < r.length:=by omega
    obtain⟨v,b,h⟩:=K i r q r[q] z (d6 m);exact⟨v,b,by rw [d6 m];exact h⟩
   refine⟨.agg ((List.range n).map λq=>cur.getD (i*n+q) undef).toArray,?_,_,rfl,by simp [u],?_⟩
   ·have:(loadCells ⟨V.U id,i*n,none⟩ n).run P V.w=.ok ((List.range n).map λq=>cur.getD (i*n+q) undef).toArray V.w:=run_loadCells V.w _ n _ λq j=>by
     rw [Bw];obtain⟨v,b,_⟩:=g q j
     have:cur.getD (i*n+q) undef=v:=by simp [b]
     rw [this];simp [World.cell?,y,b]
    unfold loadCells at this;rw [e];simp [asAddr,loadVar,(BH A.out V.w).1,(BH A.out V.w).2,this,go_sem]
   ·intro q c v B p
    have j:q < n:=by have:=(am.1 B).1;omega
    obtain⟨v',b,h⟩:=g q j;rw [B] at h
    have:v=v':=by simpa [j,b] using p.symm
    rw [this];exact h
theorem ZK{V:View}{Z:Ctx}{σ:Ab}(hi:Inv TB Z V σ)(ids:List Nat):Inv TB Z (Mc V σ ids) (Cu ids σ):=by
 have h:Cg TB Z 0 V (λ_=>none) σ V.nx { tmps:=#[],defers:=[] } := ⟨λt e h=>(by cases h),λt e h=>(by cases h),rfl,hi,rfl,rfl⟩
 exact(h.freeze ids [] trivial).inv
theorem Spec.iN {g:FuncId} {fn:Func} {c:Code} {σ:Ab} {nx:Nat} {args:List E} {post:E->Ab->Nat->Prop} (t:Tmp) (T':TypeId) (n:Nat) (ids:List Nat) [L:EX P T' true n] (B:P.funcs[g]? = some fn) (hb:fn.body=some c) (j:(fn.name == "runtime.NumGoroutine")=false) (u:fn.results = #[.cell t T'])
 (p:args.length<=fn.ntmps) (h:∀Z:Ctx,Z.V.nx=nx->Ai P TB Z fn.ntmps c (λe f σ nx=>dX t ids post e f σ nx/\∀id k i,f t=some (.o (.ptr id k i 0))->k=n) (look (BV 0 args)) σ nx):Spec P TB g σ nx args post:=by
 refine⟨⟨fn,B,j,by rw [hb];rfl⟩,?_⟩;intro V vs S z ha;refine calls_of_wp B hb ?_
 have K:vs.size<=fn.ntmps:=by rw [ha.1];exact p
 have H:Cg TB (GB V V σ S) fn.ntmps V (look (BV 0 args)) σ nx { tmps:=vs++Array.replicate (fn.ntmps - vs.size) undef,defers:=[] } := by
  refine⟨?_,?_,by simp;omega,z.inv,z.nx,rfl⟩
  ·intro t e s
   obtain⟨_,d⟩:=Cj args 0 t e s
   have d:args[t]? = some e:=by simpa using d
   have m:t < vs.size:=by rw [ha.1];exact(am.1 d).1
   have A:=ha.2 t e vs[t] d (jc m)
   simpa [jr m,m] using A
  ·intro t e s
   obtain⟨_,d⟩:=Cj args 0 t e s
   have d:args[t]? = some e:=by simpa using d
   have:=(am.1 d).1;omega
 refine wp_mono (h (GB V V σ S) z.nx V _ H) ?_;rintro e a' w' ⟨V',f',σ',rfl,⟨q,y⟩,b⟩
 have fin:(∃id k i T rows r x,f' t=some (.o (.ptr id k i 0))/\look σ' id=some (.cells T k rows)/\rows[i]? = some r/\FE σ' ids (.a r) x/\post x (Cu ids σ') V'.nx)->∃v,(results fn a'.tmps).run P V'.w=.ok v V'.w/\∃V'' v' x σ'',Ending.returned v=.returned v'/\V''.w=V'.w/\Inv TB (GB V V σ S) V'' σ''/\Bq V'' x v'/\post x σ'' V''.nx:=by
  rintro⟨id,k,i,T,rows,r,x,F,d,A,J,I⟩;obtain⟨v,G,s⟩:=YT (P:=P) (y id k i F).symm u b.env b.inv F d A;exact⟨v,G,Mc V' σ' ids,v,x,_,rfl,rfl,ZK b.inv ids,J.rel b.inv s,I⟩
 cases e with
 | normal=>exact⟨b.defers,fin q⟩
 | ret=>exact⟨b.defers,fin q⟩
 | exit id=>exact q.elim
 | goto l=>exact q.elim
 | panic ch=>exact q.elim
 | outgrown=>exact q.elim
end
end Go.Am
namespace Go.Am
open Go Go.ChangeShapes Go.WideShapes Go.RowKit
def below(w:World)(b:Nat):Prop:=b < w.heap.size
def Rd{α:Type}(P:Program)(w:World)(t:TypeId)(k:Nat)(f:α->List D):Prop:=
 ∀ {H:Type} (enc:TypeId×Value->H) (fuel:Nat) (cs:List Value) (x:DataW H×List MemPlace),DataW.trod enc P w 0 (λ_=>true) true fuel t cs=some x->
  ∃y:α,cs.length=k/\(f y).length=k/\∀(j:Nat) c d,cs[j]? = some c->(f y)[j]? = some d->CI (below w) w d c
section
variable {P:Program}{w:World}{t e:TypeId}{k:Nat}
theorem JT{f:Value}{e:D}(h:CI (below w) w e f):∀(j:Nat) c d,[f][j]? = some c->[e][j]? = some d->CI (below w) w d c:=by
 intro j c d a b
 match j with
 | 0=>simp at a b;subst a;subst b;exact h
 | j+1=>simp at a
theorem im(ht:P.underlying t=some (.int .u8)):Rd P w t 1 (λn:UInt8=>[.v (.int .u8 n.toNat)]):=λenc fuel cs x a=>by
 obtain⟨n,rfl,_,b⟩:=DataW.trod_int ht a;have hb:=bounds_u8 b;refine⟨UInt8.ofNat n.toNat,rfl,rfl,JT ?_⟩
 have:((UInt8.ofNat n.toNat).toNat:Int)=n:=by
  simp;omega
 rw [this];exact .v rfl
theorem OE{a:Addr}{n:Nat}{cs:List Value}(h:w.cells? 0 a n=some cs):cs.length=n/\∀(j:Nat) c,cs[j]? = some c->w.cell? (a.add j)=some c:=by
 unfold World.cells? at h;rw [if_pos (jF _)] at h;have b:=mapM_some_length h;simp at b;refine⟨b,λj c d=>?_⟩;have e:=(am.1 d).1;have:=mapM_some_get h j j (by rw [kW (by omega)]);rw [this];exact d
theorem fE{α:Type}{f:α->List D}(ht:P.underlying t=some (.slice e))(hk:P.cellsOf e=k)(h0:0 < k)(hf:Rd P w e k f):Rd P w t 1 (λl:List α=>[.l (l.map f)]):=λenc fuel cs x hx=>by
 rcases DataW.trod_slice ht hx with ⟨rfl,_⟩|⟨a,len,cap,elems,rest,n,rfl,rfl,_,_,Q,I,hel,q,_,_⟩
 ·exact⟨[],rfl,rfl,JT .nil⟩
 ·rw [hk] at q
  rcases jI len with A|A
  ·subst A
   exact⟨[],rfl,rfl,JT (.e I)⟩
  have key:∀i,i < len->∃(y:α) (cs:List Value),w.cells? 0 (a.add (i*k)) k=some cs/\cs.length=k/\(f y).length=k/\∀(j:Nat) c d,cs[j]? = some c->(f y)[j]? = some d->CI (below w) w d c:=by
   intro i hi;have F:=q i hi
   have R:i < elems.length:=by omega
   rw [d6 R] at F;simp only [jo] at F;obtain⟨cs,B,h3⟩:=F;obtain⟨y,L,K,V⟩:=hf enc n cs _ h3;exact⟨y,cs,B,L,K,V⟩
  obtain⟨b,o,rfl,hb⟩:∃b o,a=⟨b,o,none⟩/\b < w.heap.size:=by
   obtain⟨y,cs,B,L,_,_⟩:=key 0 A;have p:=(OE B).2 0 (cs[0]'(by omega)) (by simp);rw [kD] at p
   have Y:∀a:Addr,a.add 0=a:=λa=>by simp [Addr.add]
   rw [Y,Y] at p;unfold World.cell? at p;obtain⟨b,o,sp⟩:=a;split at p
   ·rename_i c _ _ hh
    split at p
    ·cases p
    ·rename_i hs
     cases sp with
     | none=>exact⟨b,o,rfl,(jq.1 hh).1⟩
     | some s=>simp at hs
   ·cases p
  have v:∀m,m<=len->∃l:List α,l.length=m/\∀(i:Nat) y,l[i]? = some y->(f y).length=k/\∀(j:Nat) d,(f y)[j]? = some d->∃c,w.cell? ⟨b,o+i*k+j,none⟩=some c/\CI (below w) w d c:=by
   intro m
   induction m with
   | zero=>intro _;exact⟨[],rfl,λi y h=>by simp at h⟩
   | succ m ih=>
    intro hm;obtain⟨l,G,g⟩:=ih (by omega);obtain⟨y,cs,B,L,K,V⟩:=key m (by omega);refine⟨l++[y],by simp [G],λi z u=>?_⟩;by_cases hi:i < l.length
    ·rw [d9 hi] at u;exact g i z u
    ·rw [em (by omega)] at u
     have S:i=m:=by
      have:=(am.1 u).1;simp at this;omega
     subst S;rw [G,Nat.sub_self] at u;simp at u;subst u;refine⟨K,λj d X=>?_⟩
     have H:j < cs.length:=by rw [L,<-K];exact(am.1 X).1
     have p:=(OE B).2 j cs[j] (d6 H);rw [Bw,Bw] at p;exact⟨cs[j],p,V j _ d (d6 H) X⟩
  obtain⟨l,G,g⟩:=v len (iX _);refine⟨l,rfl,rfl,JT ?_⟩
  have N:(l.map f).length=len:=by simp [G]
  rw [<-N];refine .l (b:=b) (o:=o) (k:=k) (vs:=λi j=>(w.cell? ⟨b,o+i*k+j,none⟩).getD undef) hb (by simpa [G] using Q) I (λi r J=>?_) (λi r j d J T=>?_) (λi r j d J T=>?_)
  all_goals
   rw [ge,d7] at J;obtain⟨y,M,rfl⟩:=J
  ·exact(g i y M).1
  ·obtain⟨c,F,_⟩:=(g i y M).2 j d T
   rw [F];rfl
  ·obtain⟨c,F,B⟩:=(g i y M).2 j d T
   rw [F];exact B
end
def Uu(w:World):View:=⟨below w,id,λ_=>0,λ_=>True,0,w⟩
section
variable {P:Program}{w:World}{t:TypeId}{k:Nat}{H:Type}{enc:TypeId×Value->H}
theorem ed{α:Type}{f:α->List D}{e:TypeId}(ht:P.underlying t=some (.slice e))(h:Rd P w t 1 (λl:List α=>[.l (l.map f)])){v:Value}{d:DataW H}{ps:List MemPlace}{base:Nat}(a:Value.okWide P w .any base t v)(g:DataW.Trod enc P w 0 (λ_=>true) true t v d ps) :
 ∃l:List α,Bq (Uu w) (.o (.d (.l (l.map f)))) v:=by
 obtain⟨m,c⟩:=g;obtain⟨l,j,i,b⟩:=h enc m _ _ c;refine⟨l,?_⟩
 have:v.cells.toList=[v]:=by
  unfold Value.okWide Cell.okWide Cell.ok at a;simp only [ht] at a;split at a<;>simp_all [Value.cells]
 rw [this] at b;exact .d (b 0 v _ rfl rfl)
structure G0 (W W':World):Prop where
 os:W'.os=W.os
 output:W'.output=W.output
 size:W.heap.size<=W'.heap.size
 old:∀b,b < W.heap.size->W'.heap[b]? = W.heap[b]?
theorem G0.sameAt{W W':World}(h:G0 W W'){p:MemPlace}(a:p.block < W.heap.size):W.sameAt W' p:=by
 cases p with
 | cell b off=>show W'.cell? _=W.cell? _;simp only [World.cell?,h.old b a]
 | map b=>exact h.old b a
theorem G0.kept{W W':World}(h:G0 W W')(may:MemPlace->Prop):W.keptBut W' may:=by
 refine⟨h.os,h.output,λi hi=>?_⟩;rw [h.old i hi];split
 ·rename_i d a
  rw [d] at a
  injection a with a;injection a with b c e
  exact⟨c.symm,e.symm,by rw [b],λj _=>by rw [b]⟩
 ·rename_i d a
  rw [d] at a
  injection a with a;injection a with b c
  exact .inr ⟨b.symm,c.symm⟩
 ·rfl
theorem Kr{W W':World}(c:laidOutB P=true)(h:G0 W W'){sp:Nat->Bool}:∀ {ts:List TypeId} {vs:List Value} {ds:List (DataW H)} {ps:List MemPlace},(ts.all λt=>P.readableRec t && decide (t < P.types.size))=true->
 DataW.TrodAll enc P W 0 (λ_=>true) true ts vs ds ps->(∀p∈ps,p.block < W.heap.size)->(∀p∈ps,sp p.block=true)->DataW.TrodAll enc P W' 0 sp true ts vs ds ps
 | [],vs,ds,ps,_,b,_,_=>by obtain⟨rfl,rfl,rfl⟩:=trodAll_nil b;exact rfl
 | t::ts,vs,ds,ps,ha,b,f,e=>by
  obtain⟨v,vs',d,ds',p,q,rfl,rfl,rfl,i,g⟩:=trodAll_cons b;simp only [List.all_cons,d4,decide_eq_true_eq] at ha;refine⟨p,q,Go.WideElems.Trod_stays c ha.1.1 ha.1.2 i (λx a=>h.sameAt (f x (jf _ a))) (λx a=>e x (jf _ a)),Kr c h (by simpa using ha.2) g (λx a=>f x (jp _ a)) (λx a=>e x (jp _ a)),rfl⟩
theorem dT{f:Func}{s:ChangeSpec}{again:Bool}{W W':World}{args:Array Value}{ds gs:List (DataW H)}{before:List MemPlace}{tb:TypeId}(F:laidOutB P=true)(l:(f.params.toList.all λt=>P.readableRec t && decide (t < P.types.size))=true)
 (u:DataW.Whole enc P f.params.toList s.vars false W args.toList ds gs before) (n:G0 W W') (v:s.vars=[]) (w:f.resultTypes = #[tb]) (i:P.underlying tb=some .bool) (e:(Value.bool true).resultList 1=[.bool true])
 (h:s.fn H (ds++gs) = { results:=[.lit (.bool true)],args:=ds }):s.post enc P f false true false again W args (.bool true) W':=by
 have g:=u.lt;have r:=u;obtain⟨p,q,G,z,y,A,K⟩:=u;rw [v] at z;obtain⟨rfl,rfl⟩:=trodVars_none z;rw [jA] at y;subst y
 have d:∀(b:Nat) (sp:Nat->Bool) (o:Bool),DataW.TrodAll enc P W' b sp o f.resultTypes.toList ((Value.bool true).resultList f.resultTypes.size) (s.fn H (ds++[])).results []:=λb sp o=>by
  rw [w,h]
  show DataW.TrodAll enc P W' b sp o [tb] ((Value.bool true).resultList 1) [.lit (.bool true)] []
  rw [e];exact trodAll_mk1 (RowKit.shut_bool i true)
 have c:∀sp:Nat->Bool,(∀x∈before,sp x.block=true)->DataW.TrodAll enc P W' 0 sp true f.params.toList args.toList (s.fn H (ds++[])).args before:=λsp m=>by
  rw [h];exact Kr F n l G g m
 have a:∀sp:Nat->Bool,DataW.TrodVars enc P W' sp s.vars (s.fn H (ds++[])).vars []:=λsp=>by
  rw [v,h];exact rfl
 refine⟨ds,[],before,[],before,[],r,d _ _ _,c _ λx k=>by simpa using g x k,a _,n.kept _,λ_=>?_⟩;refine⟨ok_one w e (okWide_bool_mk i true),_,_,([]++before)++[],⟨[]++before,[],trodAll_append (c _ (λ_ _=>rfl)) (d _ _ _),a _,rfl,?_,λha=>by cases ha⟩,λx k _=>by simpa using k⟩;intro b off B
 have j:MemPlace.cell b off∈before:=by simpa using B
 have J:=A b off j;have I:b < W.heap.size:=g _ j
 simpa [World.frozen?,n.old b I] using J
end
end Go.Am
