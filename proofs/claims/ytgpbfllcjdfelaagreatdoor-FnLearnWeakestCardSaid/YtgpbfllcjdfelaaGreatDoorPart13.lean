/-
  Maps keyed by numbers, with numbers.
-/
import Derived.Test.YtgpbfllcjdfelaaGreatDoorPart11
import Derived.ProofKit
import Derived.OpenShut
import Derived.WideKeyArgs
import Derived.Deep.DeepHandedRow
import Derived.Lib.LaidTab
set_option linter.all false
namespace Go.Am
open Go
set_option linter.unusedVariables false
variable {P:Program}{TB:Bi}{Γ:Ctx}{d:Option Tmp}{ty:TypeId}{pos:String}{af:Array Edge}{g:Option (Nat×Bool)}{f:Env}{σ:Ab}{nx:Nat}
variable {K:E->Ab->Nat->Prop}
def HT(l:List (Int×Int)):List (Value×Value):=l.map λp=>(.int .i64 p.1,.int .i64 p.2)
def Gc(l:List (Int×Int))(s:Int):Option Int:=(l.find? λp=>decide (p.1=s)).map (·.2)
theorem Ks{i64:IntKind}(s:Int):∀(l:List (Int×Int)) (es:List MapEntry) (i:Nat),es.map (λe=>(e.key,e.val))=HT l->∃r,Instr.findNow (.int i64) (.int .i64 s) es i=some r/\r.map (·.2)=(Gc l s).map (.int .i64)
 | [],es,i,h=>by
  have:es=[]:=by simpa [HT] using h
  subst this;exact⟨none,rfl,rfl⟩
 | p :: l,es,i,h=>by
  cases es with
  | nil=>simp [HT] at h
  | cons e es=>
   simp only [HT,nX,List.cons.injEq,Prod.mk.injEq] at h;obtain⟨⟨hk,b⟩,d⟩:=h
   have c:Instr.sameNow (.int i64) (.int .i64 s) e.key=some (decide (s=p.1)):=by
    rw [hk]
    show (if IntKind.i64=IntKind.i64 then some (s == p.1) else none)=_
    rw [if_pos rfl];exact congrArg some (by rw [oI];simp)
   unfold Instr.findNow;rw [c];by_cases a:s=p.1
   ·refine⟨some (i,e.val),by simp [a],?_⟩
    simp [Gc,a,b]
   ·obtain⟨r,j,g⟩:=Ks (i64:=i64) s l es (i+1) d
    have f:¬p.1=s:=λe=>a e.symm;refine⟨r,by simp [a,j],?_⟩;rw [g];simp [Gc,f]
theorem O6{k:TypeId}{q:IntKind}(hk:P.underlying k=some (.int q))(b:Bool)(s:Int)(w:World):(Instr.checkKey b 10000 k (.int q s)).run P w=.ok () w:=by
 rw [show 10000=9999+1 from rfl];unfold Instr.checkKey;simp [run_underlying hk,go_sem]
theorem WB{t k e:TypeId}{x y:Operand}{id:Nat}{l:List (Int×Int)}{s:Int}[G:DV P t k e][hk:Fq P k .i64][M:HD P e (.int .i64 0)](Q:ev f x=some (.o (.mp id)))(N:ev f y=some (eI .i64 s))(R:look σ id=some (.mp (HT l))) :
 AO P TB Γ ⟨d,.lookup t x y true,ty,pos,af,g⟩ f σ nx (.t [(false,[.d (.v (.int .i64 ((Gc l s).getD 0)))]),(false,[.d (.v (.bool (Gc l s).isSome))])]):=
 AG λV ρ F hi=>by
  have L:=F.get (by simp [Op.operands]) Q;have K:ρ y=.int .i64 s:=AA.val (F.get (by simp [Op.operands]) N);generalize a:ρ x=v at L
  cases L with
  | mp hid =>
   obtain⟨Z,ents,clock,J,T⟩:=hi.st.obj id _ R;obtain⟨r,S,p⟩:=Ks (i64:=.i64) s l ents.toList 0 T;have b:=M.out;simp only [m8] at b;obtain⟨i,A,z⟩:=b
   have u:(zeroValue e).run P V.w=.ok (.int .i64 0) V.w:=by simp [zeroValue,typeInfo,A,z,go_sem]
   have h:(Instr.findKey k (.int .i64 s) ents.toList).run P V.w=.ok r V.w:=by simp [Instr.findKey,run_underlying hk.out,S,go_sem]
   have m:=O6 hk.out ents.isEmpty s V.w;refine⟨.tuple #[.int .i64 ((Gc l s).getD 0),.bool (Gc l s).isSome],?_,⟨_,rfl,rfl,λj x v c a=>?_⟩⟩
   ·cases r with
    | none=>
     have B:Gc l s=none:=by simpa using p.symm
     simp [execOp,a,K,Instr.lookup,run_underlying G.out,MapKept.run_getObj_map J,m,h,u,B,go_sem]
    | some q=>
     obtain⟨n,B,I⟩:∃n,Gc l s=some n/\q.2=.int .i64 n:=by
      cases H:Gc l s with
      | none=>rw [H] at p;simp at p
      | some n=>rw [H] at p;exact⟨n,rfl,by simpa using p⟩
     obtain⟨Y,X⟩:=q;simp only at I;subst I;simp [execOp,a,K,Instr.lookup,run_underlying G.out,MapKept.run_getObj_map J,m,h,B,go_sem]
   ·match j with
    | 0=>simp at c a;subst c;subst a;exact⟨_,rfl,.d (.v rfl)⟩
    | 1=>simp at c a;subst c;subst a;exact⟨_,rfl,.d (.v rfl)⟩
    | j+2=>simp at c
theorem QF{t k e:TypeId}{x y z:Operand}{id:Nat}{l:List (Int×Int)}{s:Int}{n:Int}[X:DV P t k e][hk:Fq P k .i64](Q:ev f x=some (.o (.mp id)))(N:ev f y=some (eI .i64 s))(M:ev f z=some (eI .i64 n))(G:look σ id=some (.mp (HT l)))
 (T:Gc l s=none) (H:K (.t []) ((id,.mp (HT (l++[(s,n)])))::σ) nx):BS P TB Γ ⟨d,.mapUpdate t x y z,ty,pos,af,g⟩ f σ nx K:=by
 intro V a c J h3;have c:=c.Gb;unfold Oper.wp;generalize a.eval=ρ at c |-;have L:=c.get (x:=x) (by simp [Op.operands]) Q;have e2:ρ y=.int .i64 s:=AA.val (c.get (by simp [Op.operands]) N);have e3:ρ z=.int .i64 n:=AA.val (c.get (by simp [Op.operands]) M);generalize R:ρ x=v at L
 cases L with
 | mp hid=>
  obtain⟨m,ents,clock,F,B⟩:=J.st.obj id _ G;obtain⟨r,h6,I⟩:=Ks (i64:=.i64) s l ents.toList 0 B;rw [T] at I
  have S:r=none:=by cases r with
   | none=>rfl
   | some q=>simp at I
  subst S
  have u:(Instr.findKey k (.int .i64 s) ents.toList).run P V.w=.ok none V.w:=by simp [Instr.findKey,run_underlying hk.out,h6,go_sem]
  have A:=O6 hk.out false s V.w
  let ob:Obj:=.map (ents.push { key:=.int .i64 s,val:=.int .i64 n,born:=clock }) (clock+1)
  let w':World:={ V.w with heap:=V.w.heap.setIfInBounds (V.ρ id) ob }
  have h:=MapKept.run_setObj_map (P:=P) ob F;have p:=(ng.1 F).1
  obtain⟨hi,Z⟩:=J.write G m (w:=w') (ob':=.mp (HT (l++[(s,n)]))) rfl rfl rfl rfl rfl (by simp [w']) (λb hb=>by simp [w',oc,Ne.symm hb]) (by
   refine⟨m,ents.push { key:=.int .i64 s,val:=.int .i64 n,born:=clock },clock+1,?_,?_⟩
   ·show w'.heap[V.ρ id]? = some ob
    simp [w',oc,p]
   ·simp [HT] at B |-
    exact B)
  have i:(execOp ρ ⟨d,.mapUpdate t x y z,ty,pos,af,g⟩).run P V.w=.ok .skip w':=by
   simp [execOp,R,e2,e3,Instr.mapUpdate,run_underlying X.out,MapKept.run_getObj_map F,A,u,h,ob,w',go_sem]
  rw [i];exact⟨{ V with w:=w' },.tuple #[],.t [],_,rfl,rfl,Z,hi,⟨#[],rfl,rfl,λj x v Y=>by simp at Y⟩,by rw [<-h3] at H;exact H⟩
theorem aW{t:TypeId}{x y z:Operand}{K:E->Ab->Nat->Prop}(h:BS P TB Γ ⟨d,.mapUpdate t x y z,ty,pos,af,g⟩ f σ nx K):BS P TB Γ ⟨d,.insert t x y z,ty,pos,af,g⟩ f σ nx K:=λV a e c b=>h V a e c b
theorem SZ{t k e:TypeId}{x y:Operand}{id:Nat}{l:List (Int×Int)}{s v:Int}[j:DV P t k e][hk:Fq P k .i64][i:HD P e (.int .i64 0)](c:Gc l s=some v)(b:ev f x=some (.o (.mp id)))(a:ev f y=some (eI .i64 s))(h:look σ id=some (.mp (HT l))) :
 AO P TB Γ ⟨d,.lookup t x y true,ty,pos,af,g⟩ f σ nx (.t [(false,[.d (.v (.int .i64 v))]),(false,[.d (.v (.bool true))])]):=by
 have:=WB (P:=P) (TB:=TB) (Γ:=Γ) (d:=d) (ty:=ty) (pos:=pos) (af:=af) (g:=g) (nx:=nx) (t:=t) (k:=k) (e:=e) b a h;rw [c] at this;exact this
theorem SY{t k e:TypeId}{x y:Operand}{id:Nat}{l:List (Int×Int)}{s:Int}[j:DV P t k e][hk:Fq P k .i64][i:HD P e (.int .i64 0)](c:Gc l s=none)(b:ev f x=some (.o (.mp id)))(a:ev f y=some (eI .i64 s))(h:look σ id=some (.mp (HT l))) :
 AO P TB Γ ⟨d,.lookup t x y true,ty,pos,af,g⟩ f σ nx (.t [(false,[.d (.v (.int .i64 0))]),(false,[.d (.v (.bool false))])]):=by
 have:=WB (P:=P) (TB:=TB) (Γ:=Γ) (d:=d) (ty:=ty) (pos:=pos) (af:=af) (g:=g) (nx:=nx) (t:=t) (k:=k) (e:=e) b a h;rw [c] at this;exact this
theorem EM(l:List (Int×Int))(r:Nat->Nat):O.AX r (.mp (HT l))=.mp (HT l):=rfl
def RI{U:Type}(u:List U):List (U×Int):=u.zipIdx.map λp=>(p.1,(p.2:Int))
theorem QE{U:Type}(u:List U)(x:U):RI (u++[x])=RI u++[(x,(u.length:Int))]:=by
 unfold RI;rw [List.zipIdx_append];simp
theorem Nl{U:Type}[DecidableEq U](x:U):∀(u:List U) (k:Nat),(((u.zipIdx k).map λp=>(p.1,(p.2:Int))).find? λp=>decide (p.1=x)).map (·.2)=if x∈u then some ((k+u.idxOf x:Nat):Int) else none
 | [],k=>by simp
 | y :: u,k=>by
  rw [List.zipIdx_cons,nX,qM];by_cases h:y=x
  ·subst h;simp
  ·have b:=Nl x u (k+1)
   have c:¬x=y:=λe=>h e.symm;simp only [h,decide_false];rw [b,qN];simp only [lc,c,false_or,beq_eq_false_iff_ne.2 h,cond_false];by_cases a:x∈u
   ·rw [if_pos a,if_pos a];congr 2;omega
   ·rw [if_neg a,if_neg a]
theorem Pf(u:List Int)(x:Int):Gc (RI u) x=if x∈u then some ((u.idxOf x:Nat):Int) else none:=by
 have:=Nl x u 0;rw [ms] at this;exact this
def lK{U:Type}[DecidableEq U](u:List U)(x:U):Nat:=u.idxOf x
def jC{U:Type}[DecidableEq U](u:List U)(x:U):Option Int:=if x∈u then some ((lK u x:Nat):Int) else none
theorem Xz(u:List (List UInt8))(x:List UInt8):BQ (RI u) x=jC u x:=by
 have:=Nl x u 0;rw [ms] at this;exact this
end Go.Am
namespace Go.Am
open Go
set_option linter.unusedVariables false
variable {P:Program}{TB:Bi}{Γ:Ctx}{d:Option Tmp}{ty:TypeId}{pos:String}{af:Array Edge}{g:Option (Nat×Bool)}{f:Env}{σ:Ab}{nx:Nat}
theorem eK{t k e:TypeId}{x:Operand}{id:Nat}{l:List (Value×Value)}[j:DV P t k e](b:ev f x=some (.o (.mp id)))(i:look σ id=some (.mp l)):AO P TB Γ ⟨d,.call ⟨.builtin .len,#[x],#[t]⟩,ty,pos,af,g⟩ f σ nx (eI .i64 l.length):=
 AG λV ρ h hi=>by
  have a:=h.get (by simp [Op.operands,Call.operands]) b;generalize c:ρ x=v at a
  cases a with
  | mp hid=>
   obtain⟨q,ents,clock,p,n⟩:=hi.st.obj id _ i;refine⟨.int .i64 l.length,?_,.d (.v rfl)⟩
   have m:ents.size=l.length:=by rw [<-n];simp
   simp [execOp,resolve,invoke,builtin,c,Builtin.len_,run_underlying j.out,MapKept.run_getObj_map p,goInt,m,go_sem]
theorem aF(u:List (List UInt8)):(Ev (RI u)).length=u.length:=by simp [Ev,RI]
theorem Rm{t k e:TypeId}{x:Operand}{id:Nat}{u:List (List UInt8)}[c:DV P t k e](a:ev f x=some (.o (.mp id)))(b:look σ id=some (.mp (Ev (RI u)))):AO P TB Γ ⟨d,.call ⟨.builtin .len,#[x],#[t]⟩,ty,pos,af,g⟩ f σ nx (eI .i64 u.length):=by
 have:=eK (P:=P) (TB:=TB) (Γ:=Γ) (d:=d) (ty:=ty) (pos:=pos) (af:=af) (g:=g) (nx:=nx) (t:=t) (k:=k) (e:=e) a b;rwa [aF] at this
theorem bU{t k e:TypeId}{x y:Operand}{id:Nat}{l:List (List UInt8×Int)}{s:List UInt8}{v:Int}[j:DV P t k e][hk:CR P k][i:HD P e (.int .i64 0)](c:BQ l s=some v)(b:ev f x=some (.o (.mp id)))(a:ev f y=some (eT s))(h:look σ id=some (.mp (Ev l))) :
 AO P TB Γ ⟨d,.lookup t x y true,ty,pos,af,g⟩ f σ nx (.t [(false,[.d (.v (.int .i64 v))]),(false,[.d (.v (.bool true))])]):=by
 have:=Ro (P:=P) (TB:=TB) (Γ:=Γ) (d:=d) (ty:=ty) (pos:=pos) (af:=af) (g:=g) (nx:=nx) (t:=t) (k:=k) (e:=e) b a h;rw [c] at this;exact this
theorem bT{t k e:TypeId}{x y:Operand}{id:Nat}{l:List (List UInt8×Int)}{s:List UInt8}[j:DV P t k e][hk:CR P k][i:HD P e (.int .i64 0)](c:BQ l s=none)(b:ev f x=some (.o (.mp id)))(a:ev f y=some (eT s))(h:look σ id=some (.mp (Ev l))) :
 AO P TB Γ ⟨d,.lookup t x y true,ty,pos,af,g⟩ f σ nx (.t [(false,[.d (.v (.int .i64 0))]),(false,[.d (.v (.bool false))])]):=by
 have:=Ro (P:=P) (TB:=TB) (Γ:=Γ) (d:=d) (ty:=ty) (pos:=pos) (af:=af) (g:=g) (nx:=nx) (t:=t) (k:=k) (e:=e) b a h;rw [c] at this;exact this
end Go.Am
namespace Go.Am
open Go Go.ChangeShapes Go.WideShapes Go.RowKit
def below(w:World)(b:Nat):Prop:=b < w.heap.size
def Rd{U:Type}(P:Program)(w:World)(t:TypeId)(k:Nat)(f:U->List D):Prop:=
 ∀ {H:Type} (enc:TypeId×Value->H) (fuel:Nat) (cs:List Value) (x:DataW H×List MemPlace),DataW.trod enc P w 0 (λ_=>true) true fuel t cs=some x->
  ∃y:U,cs.length=k/\(f y).length=k/\∀(j:Nat) c d,cs[j]? = some c->(f y)[j]? = some d->De (below w) w d c
section
variable {P:Program}{w:World}{t e:TypeId}{k:Nat}
theorem JL{f:Value}{e:D}(h:De (below w) w e f):∀(j:Nat) c d,[f][j]? = some c->[e][j]? = some d->De (below w) w d c:=by
 intro j c d a b
 match j with
 | 0=>simp at a b;subst a;subst b;exact h
 | j+1=>simp at a
theorem mu(ht:P.underlying t=some (.int .u8)):Rd P w t 1 (λn:UInt8=>[.v (.int .u8 n.toNat)]):=λenc fuel cs x a=>by
 obtain⟨n,rfl,_,hw⟩:=DataW.trod_int ht a;have hb:=bounds_u8 hw;refine⟨UInt8.ofNat n.toNat,rfl,rfl,JL ?_⟩
 have:((UInt8.ofNat n.toNat).toNat:Int)=n:=by
  simp;omega
 rw [this];exact .v rfl
theorem O5{a:Addr}{n:Nat}{cs:List Value}(h:w.cells? 0 a n=some cs):cs.length=n/\∀(j:Nat) c,cs[j]? = some c->w.cell? (a.add j)=some c:=by
 unfold World.cells? at h;rw [if_pos (nK _)] at h;have b:=mapM_some_length h;simp at b;refine⟨b,λj c d=>?_⟩;have e:=(am.1 d).1;have:=mapM_some_get h j j (by rw [o5 (by omega)]);rw [this];exact d
theorem kv{U:Type}{f:U->List D}(ht:P.underlying t=some (.slice e))(hk:P.cellsOf e=k)(h0:0 < k)(hf:Rd P w e k f):Rd P w t 1 (λl:List U=>[.l (l.map f)]):=λenc fuel cs x hx=>by
 rcases DataW.trod_slice ht hx with ⟨rfl,_⟩|⟨a,len,cap,elems,rest,n,rfl,rfl,_,_,Q,I,hel,q,_,_⟩
 ·exact⟨[],rfl,rfl,JL .nil⟩
 ·rw [hk] at q
  rcases nM len with A|A
  ·subst A
   exact⟨[],rfl,rfl,JL (.e I)⟩
  have key:∀i,i < len->∃(y:U) (cs:List Value),w.cells? 0 (a.add (i*k)) k=some cs/\cs.length=k/\(f y).length=k/\∀(j:Nat) c d,cs[j]? = some c->(f y)[j]? = some d->De (below w) w d c:=by
   intro i hi;have F:=q i hi
   have R:i < elems.length:=by omega
   rw [d5 R] at F;simp only [m8] at F;obtain⟨cs,B,h3⟩:=F;obtain⟨y,L,K,V⟩:=hf enc n cs _ h3;exact⟨y,cs,B,L,K,V⟩
  obtain⟨b,o,rfl,hb⟩:∃b o,a=⟨b,o,none⟩/\b < w.heap.size:=by
   obtain⟨y,cs,B,L,_,_⟩:=key 0 A;have p:=(O5 B).2 0 (cs[0]'(by omega)) (by simp);rw [oy] at p
   have Y:∀a:Addr,a.add 0=a:=λa=>by simp [Addr.add]
   rw [Y,Y] at p;unfold World.cell? at p;obtain⟨b,o,sp⟩:=a;split at p
   ·rename_i c _ _ hh
    split at p
    ·cases p
    ·rename_i hs
     cases sp with
     | none=>exact⟨b,o,rfl,(ng.1 hh).1⟩
     | some s=>simp at hs
   ·cases p
  have v:∀m,m<=len->∃l:List U,l.length=m/\∀(i:Nat) y,l[i]? = some y->(f y).length=k/\∀(j:Nat) d,(f y)[j]? = some d->∃c,w.cell? ⟨b,o+i*k+j,none⟩=some c/\De (below w) w d c:=by
   intro m
   induction m with
   | zero=>intro _;exact⟨[],rfl,λi y h=>by simp at h⟩
   | succ m Z=>
    intro hm;obtain⟨l,G,g⟩:=Z (by omega);obtain⟨y,cs,B,L,K,V⟩:=key m (by omega);refine⟨l++[y],by simp [G],λi z u=>?_⟩;by_cases hi:i < l.length
    ·rw [d8 hi] at u;exact g i z u
    ·rw [ge (by omega)] at u
     have S:i=m:=by
      have:=(am.1 u).1;simp at this;omega
     subst S;rw [G,Nat.sub_self] at u;simp at u;subst u;refine⟨K,λj d X=>?_⟩
     have H:j < cs.length:=by rw [L,<-K];exact(am.1 X).1
     have p:=(O5 B).2 j cs[j] (d5 H);rw [Bx,Bx] at p;exact⟨cs[j],p,V j _ d (d5 H) X⟩
  obtain⟨l,G,g⟩:=v len (io _);refine⟨l,rfl,rfl,JL ?_⟩
  have N:(l.map f).length=len:=by simp [G]
  rw [<-N];refine .l (b:=b) (o:=o) (k:=k) (vs:=λi j=>(w.cell? ⟨b,o+i*k+j,none⟩).getD undef) hb (by simpa [G] using Q) I (λi r J=>?_) (λi r j d J T=>?_) (λi r j d J T=>?_)
  all_goals
   rw [d9,d7] at J;obtain⟨y,M,rfl⟩:=J
  ·exact(g i y M).1
  ·obtain⟨c,F,_⟩:=(g i y M).2 j d T
   rw [F];rfl
  ·obtain⟨c,F,B⟩:=(g i y M).2 j d T
   rw [F];exact B
end
def VF(w:World):View:=⟨below w,id,λ_=>0,λ_=>True,0,w⟩
section
variable {P:Program}{w:World}{t:TypeId}{k:Nat}{H:Type}{enc:TypeId×Value->H}
theorem jm{U:Type}{f:U->List D}{e:TypeId}(ht:P.underlying t=some (.slice e))(h:Rd P w t 1 (λl:List U=>[.l (l.map f)])){v:Value}{d:DataW H}{ps:List MemPlace}{base:Nat}(a:Value.okWide P w .any base t v)(g:DataW.Trod enc P w 0 (λ_=>true) true t v d ps) :
 ∃l:List U,A2 (VF w) (.o (.d (.l (l.map f)))) v:=by
 obtain⟨m,c⟩:=g;obtain⟨l,j,i,b⟩:=h enc m _ _ c;refine⟨l,?_⟩
 have:v.cells.toList=[v]:=by
  unfold Value.okWide Cell.okWide Cell.ok at a;simp only [ht] at a;split at a<;>simp_all [Value.cells]
 rw [this] at b;exact .d (b 0 v _ rfl rfl)
structure GW (W W':World):Prop where
 os:W'.os=W.os
 output:W'.output=W.output
 size:W.heap.size<=W'.heap.size
 old:∀b,b < W.heap.size->W'.heap[b]? = W.heap[b]?
theorem GW.sameAt{W W':World}(h:GW W W'){p:MemPlace}(hp:p.block < W.heap.size):W.sameAt W' p:=by
 cases p with
 | cell b off=>show W'.cell? _=W.cell? _;simp only [World.cell?,h.old b hp]
 | map b=>exact h.old b hp
theorem GW.kept{W W':World}(h:GW W W')(may:MemPlace->Prop):W.keptBut W' may:=by
 refine⟨h.os,h.output,λi hi=>?_⟩;rw [h.old i hi];split
 ·rename_i d a
  rw [d] at a
  injection a with a;injection a with b c e
  exact⟨c.symm,e.symm,by rw [b],λj _=>by rw [b]⟩
 ·rename_i d a
  rw [d] at a
  injection a with a;injection a with b c
  exact .inr ⟨b.symm,c.symm⟩
 ·rfl
theorem J5{W W':World}(c:laidOutB P=true)(h:GW W W'){sp:Nat->Bool}:∀ {ts:List TypeId} {vs:List Value} {ds:List (DataW H)} {ps:List MemPlace},(ts.all λt=>P.readableRec t && decide (t < P.types.size))=true->
 DataW.TrodAll enc P W 0 (λ_=>true) true ts vs ds ps->(∀p∈ps,p.block < W.heap.size)->(∀p∈ps,sp p.block=true)->DataW.TrodAll enc P W' 0 sp true ts vs ds ps
 | [],vs,ds,ps,_,b,_,_=>by obtain⟨rfl,rfl,rfl⟩:=trodAll_nil b;exact rfl
 | t::ts,vs,ds,ps,ha,b,f,e=>by
  obtain⟨v,vs',d,ds',p,q,rfl,rfl,rfl,i,g⟩:=trodAll_cons b;simp only [List.all_cons,d6,decide_eq_true_eq] at ha;refine⟨p,q,Go.WideElems.Trod_stays c ha.1.1 ha.1.2 i (λx a=>h.sameAt (f x (m9 _ a))) (λx a=>e x (m9 _ a)),J5 c h (by simpa using ha.2) g (λx a=>f x (nI _ a)) (λx a=>e x (nI _ a)),rfl⟩
theorem iZ{f:Func}{s:ChangeSpec}{again:Bool}{W W':World}{args:Array Value}{ds gs:List (DataW H)}{before:List MemPlace}{tb:TypeId}(B:laidOutB P=true)(l:(f.params.toList.all λt=>P.readableRec t && decide (t < P.types.size))=true)
 (u:DataW.Whole enc P f.params.toList s.vars false W args.toList ds gs before) (n:GW W W') (v:s.vars=[]) (w:f.resultTypes = #[tb]) (i:P.underlying tb=some .bool) (e:(Value.bool true).resultList 1=[.bool true])
 (h:s.fn H (ds++gs) = { results:=[.lit (.bool true)],args:=ds }):s.post enc P f false true false again W args (.bool true) W':=by
 have g:=u.lt;have r:=u;obtain⟨p,q,F,z,y,A,J⟩:=u;rw [v] at z;obtain⟨rfl,rfl⟩:=trodVars_none z;rw [nG] at y;subst y
 have d:∀(b:Nat) (sp:Nat->Bool) (o:Bool),DataW.TrodAll enc P W' b sp o f.resultTypes.toList ((Value.bool true).resultList f.resultTypes.size) (s.fn H (ds++[])).results []:=λb sp o=>by
  rw [w,h]
  show DataW.TrodAll enc P W' b sp o [tb] ((Value.bool true).resultList 1) [.lit (.bool true)] []
  rw [e];exact trodAll_mk1 (RowKit.shut_bool i true)
 have c:∀sp:Nat->Bool,(∀x∈before,sp x.block=true)->DataW.TrodAll enc P W' 0 sp true f.params.toList args.toList (s.fn H (ds++[])).args before:=λsp m=>by
  rw [h];exact J5 B n l F g m
 have a:∀sp:Nat->Bool,DataW.TrodVars enc P W' sp s.vars (s.fn H (ds++[])).vars []:=λsp=>by
  rw [v,h];exact rfl
 refine⟨ds,[],before,[],before,[],r,d _ _ _,c _ λx k=>by simpa using g x k,a _,n.kept _,λ_=>?_⟩;refine⟨ok_one w e (okWide_bool_mk i true),_,_,([]++before)++[],⟨[]++before,[],trodAll_append (c _ (λ_ _=>rfl)) (d _ _ _),a _,rfl,?_,λha=>by cases ha⟩,λx k _=>by simpa using k⟩;intro b off hp
 have j:MemPlace.cell b off∈before:=by simpa using hp
 have I:=A b off j;have G:b < W.heap.size:=g _ j
 simpa [World.frozen?,n.old b G] using I
end
end Go.Am
