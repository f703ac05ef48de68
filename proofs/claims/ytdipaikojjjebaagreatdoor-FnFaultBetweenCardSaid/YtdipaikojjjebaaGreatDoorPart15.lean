/-
  From the form's readings to the machine's data, and back behind a call.
-/
import Derived.Test.YtdipaikojjjebaaGreatDoorPart11
import Derived.ProofKit
import Derived.OpenShut
import Derived.WideKeyArgs
import Derived.Deep.DeepHandedRow
import Derived.Lib.LaidTab
set_option linter.all false
namespace Go.Am
open Go Go.ChangeShapes Go.WideShapes Go.RowKit
def below(w:World)(b:Nat):Prop:=b<w.heap.size
def Rd{α:Type}(P:Program)(w:World)(t:TypeId)(k:Nat)(f:α->List D):Prop:=
 ∀ {H:Type} (enc:TypeId×Value->H) (fuel:Nat) (cs:List Value) (x:DataW H×List MemPlace),DataW.trod enc P w 0 (λ_=>true) true fuel t cs=some x->
  ∃y:α,cs.length=k/\(f y).length=k/\∀(j:Nat) c d,cs[j]?=some c->(f y)[j]?=some d->C9 (below w) w d c
section
variable {P:Program}{w:World}{t e:TypeId}{k:Nat}
theorem Mc{f:Value}{e:D}(h:C9 (below w) w e f):∀(j:Nat) c d,[f][j]?=some c->[e][j]?=some d->C9 (below w) w d c:=by
 intro j c d a b
 match j with
 | 0=>simp at a b;subst a;subst b;exact h
 | j+1=>simp at a
theorem qo(ht:P.underlying t=some (.int .u8)):Rd P w t 1 (λn:UInt8=>[.v (.int .u8 n.toNat)]):=λenc fuel cs x a=>by
 obtain⟨n,rfl,_,b⟩:=DataW.trod_int ht a;have hb:=bounds_u8 b;refine⟨UInt8.ofNat n.toNat,rfl,rfl,Mc ?_⟩
 have:((UInt8.ofNat n.toNat).toNat:Int)=n:=by
  simp;omega
 rw[this];exact .v rfl
theorem RO{a:Addr}{n:Nat}{cs:List Value}(h:w.cells? 0 a n=some cs):cs.length=n/\∀(j:Nat) c,cs[j]?=some c->w.cell? (a.add j)=some c:=by
 unfold World.cells? at h;rw[if_pos (rQ _)]at h;have b:=mapM_some_length h;simp at b;refine⟨b,λj c d=>?_⟩;have e:=(am.1 d).1;have:=mapM_some_get h j j (by rw[tL (by omega)]);rw[this];exact d
theorem oK{α:Type}{f:α->List D}(ht:P.underlying t=some (.slice e))(hk:P.cellsOf e=k)(h0:0<k)(hf:Rd P w e k f):Rd P w t 1 (λl:List α=>[.l (l.map f)]):=λenc fuel cs x hx=>by
 rcases DataW.trod_slice ht hx with ⟨rfl,_⟩|⟨a,len,cap,elems,rest,n,rfl,rfl,_,_,Q,I,hel,q,_,_⟩
 ·exact⟨[],rfl,rfl,Mc .nil⟩
 ·rw [hk]at q
  rcases rV len with A|A
  ·subst A
   exact⟨[],rfl,rfl,Mc (.e I)⟩
  have key:∀i,i<len->∃(y:α) (cs:List Value),w.cells? 0 (a.add (i*k)) k=some cs/\cs.length=k/\(f y).length=k/\∀(j:Nat) c d,cs[j]?=some c->(f y)[j]?=some d->C9 (below w) w d c:=by
   intro i hi;have F:=q i hi
   have R:i<elems.length:=by omega
   rw[d6 R]at F;simp only[qY]at F;obtain⟨cs,B,h3⟩:=F;obtain⟨y,L,K,V⟩:=hf enc n cs _ h3;exact⟨y,cs,B,L,K,V⟩
  obtain⟨b,o,rfl,hb⟩:∃b o,a=⟨b,o,none⟩/\b<w.heap.size:=by
   obtain⟨y,cs,B,L,_,_⟩:=key 0 A;have p:=(RO B).2 0 (cs[0]'(by omega)) (by simp);rw[th]at p
   have Y:∀a:Addr,a.add 0=a:=λa=>by simp[Addr.add]
   rw[Y,Y]at p;unfold World.cell? at p;obtain⟨b,o,sp⟩:=a;split at p
   ·rename_i c _ _ hh
    split at p
    ·cases p
    ·rename_i hs
     cases sp with
     | none=>exact⟨b,o,rfl,(qZ.1 hh).1⟩
     | some s=>simp at hs
   ·cases p
  have v:∀m,m<=len->∃l:List α,l.length=m/\∀(i:Nat) y,l[i]?=some y->(f y).length=k/\∀(j:Nat) d,(f y)[j]?=some d->∃c,w.cell? ⟨b,o+i*k+j,none⟩=some c/\C9 (below w) w d c:=by
   intro m
   induction m with
   | zero=>intro _;exact⟨[],rfl,λi y h=>by simp at h⟩
   | succ m Z=>
    intro hm;obtain⟨l,G,g⟩:=Z (by omega);obtain⟨y,cs,B,L,K,V⟩:=key m (by omega);refine⟨l++[y],by simp[G],λi z u=>?_⟩;by_cases hi:i<l.length
    ·rw[f9 hi]at u;exact g i z u
    ·rw [io (by omega)]at u
     have S:i=m:=by
      have:=(am.1 u).1;simp at this;omega
     subst S;rw[G,Nat.sub_self]at u;simp at u;subst u;refine⟨K,λj d X=>?_⟩
     have H:j<cs.length:=by rw[L,<-K];exact(am.1 X).1
     have p:=(RO B).2 j cs[j] (d6 H);rw[BO,BO]at p;exact⟨cs[j],p,V j _ d (d6 H) X⟩
  obtain⟨l,G,g⟩:=v len (lc _);refine⟨l,rfl,rfl,Mc ?_⟩
  have N:(l.map f).length=len:=by simp[G]
  rw[<-N];refine .l (b:=b) (o:=o) (k:=k) (vs:=λi j=>(w.cell? ⟨b,o+i*k+j,none⟩).getD undef) hb (by simpa[G]using Q) I (λi r J=>?_) (λi r j d J T=>?_) (λi r j d J T=>?_)
  all_goals
   rw[f6,d7]at J;obtain⟨y,M,rfl⟩:=J
  ·exact(g i y M).1
  ·obtain⟨c,F,_⟩:=(g i y M).2 j d T
   rw[F];rfl
  ·obtain⟨c,F,B⟩:=(g i y M).2 j d T
   rw[F];exact B
end
def Zi(w:World):View:=⟨below w,id,λ_=>0,λ_=>True,0,w⟩
section
variable {P:Program}{w:World}{t:TypeId}{k:Nat}{H:Type}{enc:TypeId×Value->H}
theorem nk{α:Type}{f:α->List D}{e:TypeId}(ht:P.underlying t=some (.slice e))(h:Rd P w t 1 (λl:List α=>[.l (l.map f)])){v:Value}{d:DataW H}{ps:List MemPlace}{base:Nat}(a:Value.okWide P w .any base t v)(g:DataW.Trod enc P w 0 (λ_=>true) true t v d ps) :
 ∃l:List α,Bu (Zi w) (.o (.d (.l (l.map f)))) v:=by
 obtain⟨m,c⟩:=g;obtain⟨l,j,i,b⟩:=h enc m _ _ c;refine⟨l,?_⟩
 have:v.cells.toList=[v]:=by
  unfold Value.okWide Cell.okWide Cell.ok at a;simp only[ht]at a;split at a<;>simp_all[Value.cells]
 rw[this]at b;exact .d (b 0 v _ rfl rfl)
structure Iw (W W':World):Prop where
 os:W'.os=W.os
 output:W'.output=W.output
 size:W.heap.size<=W'.heap.size
 old:∀b,b<W.heap.size->W'.heap[b]?=W.heap[b]?
theorem Iw.sameAt{W W':World}(h:Iw W W'){p:MemPlace}(hp:p.block<W.heap.size):W.sameAt W' p:=by
 cases p with
 | cell b off=>show W'.cell? _=W.cell? _;simp only[World.cell?,h.old b hp]
 | map b=>exact h.old b hp
theorem Iw.kept{W W':World}(h:Iw W W')(may:MemPlace->Prop):W.keptBut W' may:=by
 refine⟨h.os,h.output,λi hi=>?_⟩;rw[h.old i hi];split
 ·rename_i d a
  rw[d]at a
  injection a with a;injection a with b c e
  exact⟨c.symm,e.symm,by rw[b],λj _=>by rw[b]⟩
 ·rename_i d a
  rw[d]at a
  injection a with a;injection a with b c
  exact .inr ⟨b.symm,c.symm⟩
 ·rfl
theorem MD{W W':World}(c:laidOutB P=true)(h:Iw W W'){sp:Nat->Bool}:∀ {ts:List TypeId} {vs:List Value} {ds:List (DataW H)} {ps:List MemPlace},(ts.all λt=>P.readableRec t && decide (t<P.types.size))=true->
 DataW.TrodAll enc P W 0 (λ_=>true) true ts vs ds ps->(∀p∈ps,p.block<W.heap.size)->(∀p∈ps,sp p.block=true)->DataW.TrodAll enc P W' 0 sp true ts vs ds ps
 | [],vs,ds,ps,_,b,_,_=>by obtain⟨rfl,rfl,rfl⟩:=trodAll_nil b;exact rfl
 | t::ts,vs,ds,ps,ha,b,f,e=>by
  obtain⟨v,vs',d,ds',p,q,rfl,rfl,rfl,i,g⟩:=trodAll_cons b;simp only[List.all_cons,d4,decide_eq_true_eq]at ha;refine⟨p,q,Go.WideElems.Trod_stays c ha.1.1 ha.1.2 i (λx a=>h.sameAt (f x (q6 _ a))) (λx a=>e x (q6 _ a)),MD c h (by simpa using ha.2) g (λx a=>f x (rr _ a)) (λx a=>e x (rr _ a)),rfl⟩
theorem mV{f:Func}{s:ChangeSpec}{again:Bool}{W W':World}{args:Array Value}{ds gs:List (DataW H)}{before:List MemPlace}{tb:TypeId}(B:laidOutB P=true)(l:(f.params.toList.all λt=>P.readableRec t && decide (t<P.types.size))=true)
 (u:DataW.Whole enc P f.params.toList s.vars false W args.toList ds gs before) (n:Iw W W') (v:s.vars=[]) (w:f.resultTypes = #[tb]) (i:P.underlying tb=some .bool) (e:(Value.bool true).resultList 1=[.bool true])
 (h:s.fn H (ds++gs) = { results:=[.lit (.bool true)],args:=ds }):s.post enc P f false true false again W args (.bool true) W':=by
 have g:=u.lt;have r:=u;obtain⟨p,q,F,z,y,A,J⟩:=u;rw[v]at z;obtain⟨rfl,rfl⟩:=trodVars_none z;rw[rv]at y;subst y
 have d:∀(b:Nat) (sp:Nat->Bool) (o:Bool),DataW.TrodAll enc P W' b sp o f.resultTypes.toList ((Value.bool true).resultList f.resultTypes.size) (s.fn H (ds++[])).results []:=λb sp o=>by
  rw[w,h]
  show DataW.TrodAll enc P W' b sp o [tb] ((Value.bool true).resultList 1) [.lit (.bool true)] []
  rw[e];exact trodAll_mk1 (RowKit.shut_bool i true)
 have c:∀sp:Nat->Bool,(∀x∈before,sp x.block=true)->DataW.TrodAll enc P W' 0 sp true f.params.toList args.toList (s.fn H (ds++[])).args before:=λsp m=>by
  rw[h];exact MD B n l F g m
 have a:∀sp:Nat->Bool,DataW.TrodVars enc P W' sp s.vars (s.fn H (ds++[])).vars []:=λsp=>by
  rw[v,h];exact rfl
 refine⟨ds,[],before,[],before,[],r,d _ _ _,c _ λx k=>by simpa using g x k,a _,n.kept _,λ_=>?_⟩;refine⟨ok_one w e (okWide_bool_mk i true),_,_,([]++before)++[],⟨[]++before,[],trodAll_append (c _ (λ_ _=>rfl)) (d _ _ _),a _,rfl,?_,λha=>by cases ha⟩,λx k _=>by simpa using k⟩;intro b off hp
 have j:MemPlace.cell b off∈before:=by simpa using hp
 have I:=A b off j;have G:b<W.heap.size:=g _ j
 simpa[World.frozen?,n.old b G]using I
end
end Go.Am
