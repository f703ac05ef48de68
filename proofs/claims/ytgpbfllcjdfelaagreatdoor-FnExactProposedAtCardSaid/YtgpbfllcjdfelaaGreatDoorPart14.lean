/-
  From the form's readings to the machine's data, and back behind a call.
-/
import Derived.Test.YtgpbfllcjdfelaaGreatDoorPart10
import Derived.ProofKit
import Derived.OpenShut
import Derived.WideKeyArgs
import Derived.Deep.DeepHandedRow
import Derived.Lib.LaidTab
set_option linter.all false
namespace Go.Am
open Go Go.ChangeShapes Go.WideShapes Go.RowKit
def below(w:World)(b:Nat):Prop:=b < w.heap.size
def Rd{α:Type}(P:Program)(w:World)(t:TypeId)(k:Nat)(f:α->List D):Prop:=
 ∀ {H:Type} (enc:TypeId×Value->H) (fuel:Nat) (cs:List Value) (x:DataW H×List MemPlace),DataW.trod enc P w 0 (λ_=>true) true fuel t cs=some x->
  ∃y:α,cs.length=k/\(f y).length=k/\∀(j:Nat) c d,cs[j]? = some c->(f y)[j]? = some d->BX (below w) w d c
section
variable {P:Program}{w:World}{t e:TypeId}{k:Nat}
theorem Rd.map{α Y:Type}{f:α->List D}{f':Y->List D}(g:α->Y)(a:∀y,f y=f' (g y))(h:Rd P w t k f):Rd P w t k f':=λenc fuel cs x b=>by
 obtain⟨y,e,d,c⟩:=h enc fuel cs x b;exact⟨g y,e,by rw [<-a];exact d,by rw [<-a];exact c⟩
theorem Gm{f:Value}{e:D}(h:BX (below w) w e f):∀(j:Nat) c d,[f][j]? = some c->[e][j]? = some d->BX (below w) w d c:=by
 intro j c d a b
 match j with
 | 0=>simp at a b;subst a;subst b;exact h
 | j+1=>simp at a
theorem TE(ht:P.underlying t=some (.int .i64)):Rd P w t 1 (λn:Int=>[.v (.int .i64 n)]):=λenc fuel cs x a=>by
 obtain⟨n,rfl,_,_⟩:=DataW.trod_int ht a;exact⟨n,rfl,rfl,Gm (.v rfl)⟩
theorem UW(ht:P.underlying t=some .bool):Rd P w t 1 (λb:Bool=>[.v (.bool b)]):=λenc fuel cs x a=>by
 obtain⟨b,rfl,_⟩:=DataW.trod_bool ht a;exact⟨b,rfl,rfl,Gm (.v rfl)⟩
theorem LN{a:Addr}{n:Nat}{cs:List Value}(h:w.cells? 0 a n=some cs):cs.length=n/\∀(j:Nat) c,cs[j]? = some c->w.cell? (a.add j)=some c:=by
 unfold World.cells? at h;rw [if_pos (dP _)] at h;have b:=mapM_some_length h;simp at b;refine⟨b,λj c d=>?_⟩;have e:=(am.1 d).1;have:=mapM_some_get h j j (by rw [dR (by omega)]);rw [this];exact d
theorem KG{α:Type}{f:α->List D}(ht:P.underlying t=some (.slice e))(hk:P.cellsOf e=k)(h0:0 < k)(hf:Rd P w e k f):Rd P w t 1 (λl:List α=>[.l (l.map f)]):=λenc fuel cs x hx=>by
 rcases DataW.trod_slice ht hx with ⟨rfl,_⟩|⟨a,len,cap,elems,rest,n,rfl,rfl,_,_,Q,I,hel,q,_,_⟩
 ·exact⟨[],rfl,rfl,Gm .nil⟩
 ·rw [hk] at q
  rcases cD len with A|A
  ·subst A
   exact⟨[],rfl,rfl,Gm (.e I)⟩
  have key:∀i,i < len->∃(y:α) (cs:List Value),w.cells? 0 (a.add (i*k)) k=some cs/\cs.length=k/\(f y).length=k/\∀(j:Nat) c d,cs[j]? = some c->(f y)[j]? = some d->BX (below w) w d c:=by
   intro i hi;have F:=q i hi
   have R:i < elems.length:=by omega
   rw [bt R] at F;simp only [bR] at F;obtain⟨cs,B,h3⟩:=F;obtain⟨y,L,K,U⟩:=hf enc n cs _ h3;exact⟨y,cs,B,L,K,U⟩
  obtain⟨b,o,rfl,hb⟩:∃b o,a=⟨b,o,none⟩/\b < w.heap.size:=by
   obtain⟨y,cs,B,L,_,_⟩:=key 0 A;have p:=(LN B).2 0 (cs[0]'(by omega)) (by simp);rw [dh] at p
   have h8:∀a:Addr,a.add 0=a:=λa=>by simp [Addr.add]
   rw [h8,h8] at p;unfold World.cell? at p;obtain⟨b,o,sp⟩:=a;split at p
   ·rename_i c _ _ hh
    split at p
    ·cases p
    ·rename_i hs
     cases sp with
     | none=>exact⟨b,o,rfl,(ca.1 hh).1⟩
     | some s=>simp at hs
   ·cases p
  have v:∀m,m<=len->∃l:List α,l.length=m/\∀(i:Nat) y,l[i]? = some y->(f y).length=k/\∀(j:Nat) d,(f y)[j]? = some d->∃c,w.cell? ⟨b,o+i*k+j,none⟩=some c/\BX (below w) w d c:=by
   intro m
   induction m with
   | zero=>intro _;exact⟨[],rfl,λi y h=>by simp at h⟩
   | succ m ih=>
    intro hm;obtain⟨l,G,g⟩:=ih (by omega);obtain⟨y,cs,B,L,K,U⟩:=key m (by omega);refine⟨l++[y],by simp [G],λi z u=>?_⟩;by_cases hi:i < l.length
    ·rw [bx hi] at u;exact g i z u
    ·rw [bz (by omega)] at u
     have S:i=m:=by
      have:=(am.1 u).1;simp at this;omega
     subst S;rw [G,Nat.sub_self] at u;simp at u;subst u;refine⟨K,λj d V=>?_⟩
     have H:j < cs.length:=by rw [L,<-K];exact(am.1 V).1
     have p:=(LN B).2 j cs[j] (bt H);rw [Bi,Bi] at p;exact⟨cs[j],p,U j _ d (bt H) V⟩
  obtain⟨l,G,g⟩:=v len (bJ _);refine⟨l,rfl,rfl,Gm ?_⟩
  have N:(l.map f).length=len:=by simp [G]
  rw [<-N];refine .l (b:=b) (o:=o) (k:=k) (vs:=λi j=>(w.cell? ⟨b,o+i*k+j,none⟩).getD undef) hb (by simpa [G] using Q) I (λi r J=>?_) (λi r j d J T=>?_) (λi r j d J T=>?_)
  all_goals
   rw [bG,br] at J;obtain⟨y,M,rfl⟩:=J
  ·exact(g i y M).1
  ·obtain⟨c,F,_⟩:=(g i y M).2 j d T
   rw [F];rfl
  ·obtain⟨c,F,B⟩:=(g i y M).2 j d T
   rw [F];exact B
theorem Qi{cs:List Value}{l m:List D}{k:Nat}(e:l.length=k)(h:∀(j:Nat) c d,(cs.take k)[j]? = some c->l[j]? = some d->BX (below w) w d c)(g:∀(j:Nat) c d,(cs.drop k)[j]? = some c->m[j]? = some d->BX (below w) w d c) :
 ∀(j:Nat) c d,cs[j]? = some c->(l++m)[j]? = some d->BX (below w) w d c:=by
 intro j c d b a;by_cases f:j < k
 ·rw [bx (by omega)] at a
  exact h j c d (by rw [bS,if_pos f];exact b) a
 ·rw [bz (by omega),e] at a
  refine g (j - k) c d ?_ a;rw [bX]
  have:k+(j - k)=j:=by omega
  rw [this];exact b
theorem PC{d c b:Type}{v:d->List D}{u:c->List D}{s:b->List D}{k0 k1 k2:Nat}{g f e:Field}(ht:P.underlying t=some (.struct #[g,f,e]))(j:g.offset=0/\f.offset=k0/\e.offset=k0+k1)
 (h:P.cellsOf g.type=k0/\P.cellsOf f.type=k1/\P.cellsOf e.type=k2/\P.cellsOf t=k0+k1+k2) (L:Rd P w g.type k0 v) (K:Rd P w f.type k1 u) (J:Rd P w e.type k2 s) :
 Rd P w t (k0+k1+k2) (λy:d×c×b=>v y.1++(u y.2.1++s y.2.2)):=λenc fuel cs x H=>by
 obtain⟨xs,n,_,_,I,i,a⟩:=DataW.trod_struct ht H;have R:xs.length=3:=i;have m:=a 0 g rfl;have l:=a 1 f rfl;have k:=a 2 e rfl;rw [bt (by omega)] at m l k;rw [j.1,h.1] at m;rw [j.2.1,h.2.1] at l;rw [j.2.2,h.2.2.1] at k;obtain⟨B,Q,r,q⟩:=L enc n _ _ m;obtain⟨A,N,p,G⟩:=K enc n _ _ l;obtain⟨z,M,F,o⟩:=J enc n _ _ k;rw [dw] at q;rw [bI (by simp;omega)] at o;refine⟨(B,A,z),by rw [I,h.2.2.2],by simp [r,p,F];omega,Qi r q (Qi p G ?_)⟩;rw [List.drop_drop];exact o
end
def Qk(w:World):View:=⟨below w,id,λ_=>0,λ_=>True,0,w⟩
section
variable {P:Program}{w:World}{t:TypeId}{k:Nat}{H:Type}{enc:TypeId×Value->H}
theorem Wz{fs:Array Field}{base:Nat}{v:Value}(ht:P.underlying t=some (.struct fs))(h:Value.okWide P w .any base t v):∃cs,v=.agg cs:=by
 unfold Value.okWide at h;rw [ht] at h;obtain⟨cs,h,_⟩:=h;exact⟨cs,h⟩
theorem Y9{α:Type}{f:α->List D}(h:Rd P w t k f){v:Value}{d:DataW H}{ps:List MemPlace}(b:∃cs,v=.agg cs)(e:DataW.Trod enc P w 0 (λ_=>true) true t v d ps):∃y,A1 (Qk w) (.a ((f y).map .d)) v:=by
 obtain⟨cs,rfl⟩:=b;obtain⟨n,i⟩:=e;obtain⟨y,o,m,l⟩:=h enc n _ _ i;refine⟨y,cs,rfl,by simp only [bK,m,<-o];exact(er).symm,λj c v g b=>?_⟩;rw [bG,br] at g;obtain⟨d,e,rfl⟩:=g;exact .d (l j v d (by simpa [Value.cells] using b) e)
structure E9 (W W':World):Prop where
 os:W'.os=W.os
 output:W'.output=W.output
 size:W.heap.size<=W'.heap.size
 old:∀b,b < W.heap.size->W'.heap[b]? = W.heap[b]?
theorem E9.sameAt{W W':World}(h:E9 W W'){p:MemPlace}(a:p.block < W.heap.size):W.sameAt W' p:=by
 cases p with
 | cell b off=>show W'.cell? _=W.cell? _;simp only [World.cell?,h.old b a]
 | map b=>exact h.old b a
theorem E9.kept{W W':World}(h:E9 W W')(may:MemPlace->Prop):W.keptBut W' may:=by
 refine⟨h.os,h.output,λi hi=>?_⟩;rw [h.old i hi];split
 ·rename_i d a
  rw [d] at a
  injection a with a;injection a with b c e
  exact⟨c.symm,e.symm,by rw [b],λj _=>by rw [b]⟩
 ·rename_i d a
  rw [d] at a
  injection a with a;injection a with b c
  exact .inr ⟨b.symm,c.symm⟩
 ·rfl
theorem Ik{W W':World}(c:laidOutB P=true)(h:E9 W W'){sp:Nat->Bool}:∀ {ts:List TypeId} {vs:List Value} {ds:List (DataW H)} {ps:List MemPlace},(ts.all λt=>P.readableRec t && decide (t < P.types.size))=true->
 DataW.TrodAll enc P W 0 (λ_=>true) true ts vs ds ps->(∀p∈ps,p.block < W.heap.size)->(∀p∈ps,sp p.block=true)->DataW.TrodAll enc P W' 0 sp true ts vs ds ps
 | [],vs,ds,ps,_,b,_,_=>by obtain⟨rfl,rfl,rfl⟩:=trodAll_nil b;exact rfl
 | t::ts,vs,ds,ps,ha,b,f,e=>by
  obtain⟨v,vs',d,ds',p,q,rfl,rfl,rfl,i,g⟩:=trodAll_cons b;simp only [List.all_cons,bu,decide_eq_true_eq] at ha;refine⟨p,q,Go.WideElems.Trod_stays c ha.1.1 ha.1.2 i (λx a=>h.sameAt (f x (cd _ a))) (λx a=>e x (cd _ a)),Ik c h (by simpa using ha.2) g (λx a=>f x (cn _ a)) (λx a=>e x (cn _ a)),rfl⟩
theorem Xn{f:Func}{s:ChangeSpec}{again:Bool}{W W':World}{args:Array Value}{ds gs:List (DataW H)}{before:List MemPlace}{tb:TypeId}(F:laidOutB P=true)(l:(f.params.toList.all λt=>P.readableRec t && decide (t < P.types.size))=true)
 (u:DataW.Whole enc P f.params.toList s.vars false W args.toList ds gs before) (n:E9 W W') (v:s.vars=[]) (w:f.resultTypes = #[tb]) (i:P.underlying tb=some .bool) (e:(Value.bool true).resultList 1=[.bool true])
 (h:s.fn H (ds++gs) = { results:=[.lit (.bool true)],args:=ds }):s.post enc P f false true false again W args (.bool true) W':=by
 have g:=u.lt;have r:=u;obtain⟨p,q,G,z,y,A,K⟩:=u;rw [v] at z;obtain⟨rfl,rfl⟩:=trodVars_none z;rw [cF] at y;subst y
 have d:∀(b:Nat) (sp:Nat->Bool) (o:Bool),DataW.TrodAll enc P W' b sp o f.resultTypes.toList ((Value.bool true).resultList f.resultTypes.size) (s.fn H (ds++[])).results []:=λb sp o=>by
  rw [w,h]
  show DataW.TrodAll enc P W' b sp o [tb] ((Value.bool true).resultList 1) [.lit (.bool true)] []
  rw [e];exact trodAll_mk1 (RowKit.shut_bool i true)
 have c:∀sp:Nat->Bool,(∀x∈before,sp x.block=true)->DataW.TrodAll enc P W' 0 sp true f.params.toList args.toList (s.fn H (ds++[])).args before:=λsp m=>by
  rw [h];exact Ik F n l G g m
 have a:∀sp:Nat->Bool,DataW.TrodVars enc P W' sp s.vars (s.fn H (ds++[])).vars []:=λsp=>by
  rw [v,h];exact rfl
 refine⟨ds,[],before,[],before,[],r,d _ _ _,c _ λx k=>by simpa using g x k,a _,n.kept _,λ_=>?_⟩;refine⟨ok_one w e (okWide_bool_mk i true),_,_,([]++before)++[],⟨[]++before,[],trodAll_append (c _ (λ_ _=>rfl)) (d _ _ _),a _,rfl,?_,λha=>by cases ha⟩,λx k _=>by simpa using k⟩;intro b off B
 have j:MemPlace.cell b off∈before:=by simpa using B
 have J:=A b off j;have I:b < W.heap.size:=g _ j
 simpa [World.frozen?,n.old b I] using J
end
end Go.Am
