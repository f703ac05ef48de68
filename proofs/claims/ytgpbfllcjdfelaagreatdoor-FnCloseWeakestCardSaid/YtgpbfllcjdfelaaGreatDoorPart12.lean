/-
  Maps keyed by numbers, with numbers.
-/
import Derived.Test.YtgpbfllcjdfelaaGreatDoorPart10
import Derived.ProofKit
import Derived.OpenShut
import Derived.WideKeyArgs
import Derived.Deep.DeepHandedRow
import Derived.Lib.LaidTab
set_option linter.all false
namespace Go.Am
open Go
set_option linter.unusedVariables false
variable {P:Program}{TB:Bp}{Γ:Ctx}{d:Option Tmp}{ty:TypeId}{pos:String}{af:Array Edge}{g:Option (Nat×Bool)}{f:Env}{σ:Ab}{nx:Nat}
variable {K:E->Ab->Nat->Prop}
def IQ(l:List (Int×Int)):List (Value×Value):=l.map λp=>(.int .i64 p.1,.int .i64 p.2)
def FP(l:List (Int×Int))(s:Int):Option Int:=(l.find? λp=>decide (p.1=s)).map (·.2)
theorem J5{i64:IntKind}(s:Int):∀(l:List (Int×Int)) (es:List MapEntry) (i:Nat),es.map (λe=>(e.key,e.val))=IQ l->∃r,Instr.findNow (.int i64) (.int .i64 s) es i=some r/\r.map (·.2)=(FP l s).map (.int .i64)
 | [],es,i,h=>by
  have:es=[]:=by simpa [IQ] using h
  subst this;exact⟨none,rfl,rfl⟩
 | p :: l,es,i,h=>by
  cases es with
  | nil=>simp [IQ] at h
  | cons e es=>
   simp only [IQ,lA,List.cons.injEq,Prod.mk.injEq] at h;obtain⟨⟨hk,b⟩,d⟩:=h
   have c:Instr.sameNow (.int i64) (.int .i64 s) e.key=some (decide (s=p.1)):=by
    rw [hk]
    show (if IntKind.i64=IntKind.i64 then some (s == p.1) else none)=_
    rw [if_pos rfl];exact congrArg some (by rw [lV];simp)
   unfold Instr.findNow;rw [c];by_cases a:s=p.1
   ·refine⟨some (i,e.val),by simp [a],?_⟩
    simp [FP,a,b]
   ·obtain⟨r,j,g⟩:=J5 (i64:=i64) s l es (i+1) d
    have f:¬p.1=s:=λe=>a e.symm;refine⟨r,by simp [a,j],?_⟩;rw [g];simp [FP,f]
theorem Oo{k:TypeId}{q:IntKind}(hk:P.underlying k=some (.int q))(b:Bool)(s:Int)(w:World):(Instr.checkKey b 10000 k (.int q s)).run P w=.ok () w:=by
 rw [show 10000=9999+1 from rfl];unfold Instr.checkKey;simp [run_underlying hk,go_sem]
theorem UF{t k e:TypeId}{x y:Operand}{id:Nat}{l:List (Int×Int)}{s:Int}[G:DJ P t k e][hk:E4 P k .i64][M:Hl P e (.int .i64 0)](Q:ev f x=some (.o (.mp id)))(N:ev f y=some (eI .i64 s))(R:look σ id=some (.mp (IQ l))) :
 AU P TB Γ ⟨d,.lookup t x y true,ty,pos,af,g⟩ f σ nx (.t [(false,[.d (.v (.int .i64 ((FP l s).getD 0)))]),(false,[.d (.v (.bool (FP l s).isSome))])]):=
 AF λV ρ F hi=>by
  have L:=F.get (by simp [Op.operands]) Q;have K:ρ y=.int .i64 s:=Az.val (F.get (by simp [Op.operands]) N);generalize a:ρ x=v at L
  cases L with
  | mp hid =>
   obtain⟨Z,ents,clock,J,T⟩:=hi.st.obj id _ R;obtain⟨r,S,p⟩:=J5 (i64:=.i64) s l ents.toList 0 T;have b:=M.out;simp only [kI] at b;obtain⟨i,A,z⟩:=b
   have u:(zeroValue e).run P V.w=.ok (.int .i64 0) V.w:=by simp [zeroValue,typeInfo,A,z,go_sem]
   have h:(Instr.findKey k (.int .i64 s) ents.toList).run P V.w=.ok r V.w:=by simp [Instr.findKey,run_underlying hk.out,S,go_sem]
   have m:=Oo hk.out ents.isEmpty s V.w;refine⟨.tuple #[.int .i64 ((FP l s).getD 0),.bool (FP l s).isSome],?_,⟨_,rfl,rfl,λj x v c a=>?_⟩⟩
   ·cases r with
    | none=>
     have B:FP l s=none:=by simpa using p.symm
     simp [execOp,a,K,Instr.lookup,run_underlying G.out,MapKept.run_getObj_map J,m,h,u,B,go_sem]
    | some q=>
     obtain⟨n,B,I⟩:∃n,FP l s=some n/\q.2=.int .i64 n:=by
      cases H:FP l s with
      | none=>rw [H] at p;simp at p
      | some n=>rw [H] at p;exact⟨n,rfl,by simpa using p⟩
     obtain⟨Y,X⟩:=q;simp only at I;subst I;simp [execOp,a,K,Instr.lookup,run_underlying G.out,MapKept.run_getObj_map J,m,h,B,go_sem]
   ·match j with
    | 0=>simp at c a;subst c;subst a;exact⟨_,rfl,.d (.v rfl)⟩
    | 1=>simp at c a;subst c;subst a;exact⟨_,rfl,.d (.v rfl)⟩
    | j+2=>simp at c
theorem YF{t k e:TypeId}{x y z:Operand}{id:Nat}{l:List (Int×Int)}{s:Int}{n:Int}[X:DJ P t k e][hk:E4 P k .i64](Q:ev f x=some (.o (.mp id)))(N:ev f y=some (eI .i64 s))(M:ev f z=some (eI .i64 n))(G:look σ id=some (.mp (IQ l)))
 (T:FP l s=none) (H:K (.t []) ((id,.mp (IQ (l++[(s,n)])))::σ) nx):BZ P TB Γ ⟨d,.mapUpdate t x y z,ty,pos,af,g⟩ f σ nx K:=by
 intro V a c J h3;have c:=c.FO;unfold Oper.wp;generalize a.eval=ρ at c |-;have L:=c.get (x:=x) (by simp [Op.operands]) Q;have e2:ρ y=.int .i64 s:=Az.val (c.get (by simp [Op.operands]) N);have e3:ρ z=.int .i64 n:=Az.val (c.get (by simp [Op.operands]) M);generalize R:ρ x=v at L
 cases L with
 | mp hid=>
  obtain⟨m,ents,clock,F,B⟩:=J.st.obj id _ G;obtain⟨r,h6,I⟩:=J5 (i64:=.i64) s l ents.toList 0 B;rw [T] at I
  have S:r=none:=by cases r with
   | none=>rfl
   | some q=>simp at I
  subst S
  have u:(Instr.findKey k (.int .i64 s) ents.toList).run P V.w=.ok none V.w:=by simp [Instr.findKey,run_underlying hk.out,h6,go_sem]
  have A:=Oo hk.out false s V.w
  let ob:Obj:=.map (ents.push { key:=.int .i64 s,val:=.int .i64 n,born:=clock }) (clock+1)
  let w':World:={ V.w with heap:=V.w.heap.setIfInBounds (V.ρ id) ob }
  have h:=MapKept.run_setObj_map (P:=P) ob F;have p:=(kM.1 F).1
  obtain⟨hi,Z⟩:=J.write G m (w:=w') (ob':=.mp (IQ (l++[(s,n)]))) rfl rfl rfl rfl rfl (by simp [w']) (λb hb=>by simp [w',lJ,Ne.symm hb]) (by
   refine⟨m,ents.push { key:=.int .i64 s,val:=.int .i64 n,born:=clock },clock+1,?_,?_⟩
   ·show w'.heap[V.ρ id]? = some ob
    simp [w',lJ,p]
   ·simp [IQ] at B |-
    exact B)
  have i:(execOp ρ ⟨d,.mapUpdate t x y z,ty,pos,af,g⟩).run P V.w=.ok .skip w':=by
   simp [execOp,R,e2,e3,Instr.mapUpdate,run_underlying X.out,MapKept.run_getObj_map F,A,u,h,ob,w',go_sem]
  rw [i];exact⟨{ V with w:=w' },.tuple #[],.t [],_,rfl,rfl,Z,hi,⟨#[],rfl,rfl,λj x v Y=>by simp at Y⟩,by rw [<-h3] at H;exact H⟩
theorem dM{t:TypeId}{x y z:Operand}{K:E->Ab->Nat->Prop}(h:BZ P TB Γ ⟨d,.mapUpdate t x y z,ty,pos,af,g⟩ f σ nx K):BZ P TB Γ ⟨d,.insert t x y z,ty,pos,af,g⟩ f σ nx K:=λV a e c b=>h V a e c b
theorem Zh{t k e:TypeId}{x y:Operand}{id:Nat}{l:List (Int×Int)}{s v:Int}[j:DJ P t k e][hk:E4 P k .i64][i:Hl P e (.int .i64 0)](c:FP l s=some v)(b:ev f x=some (.o (.mp id)))(a:ev f y=some (eI .i64 s))(h:look σ id=some (.mp (IQ l))) :
 AU P TB Γ ⟨d,.lookup t x y true,ty,pos,af,g⟩ f σ nx (.t [(false,[.d (.v (.int .i64 v))]),(false,[.d (.v (.bool true))])]):=by
 have:=UF (P:=P) (TB:=TB) (Γ:=Γ) (d:=d) (ty:=ty) (pos:=pos) (af:=af) (g:=g) (nx:=nx) (t:=t) (k:=k) (e:=e) b a h;rw [c] at this;exact this
theorem Zg{t k e:TypeId}{x y:Operand}{id:Nat}{l:List (Int×Int)}{s:Int}[j:DJ P t k e][hk:E4 P k .i64][i:Hl P e (.int .i64 0)](c:FP l s=none)(b:ev f x=some (.o (.mp id)))(a:ev f y=some (eI .i64 s))(h:look σ id=some (.mp (IQ l))) :
 AU P TB Γ ⟨d,.lookup t x y true,ty,pos,af,g⟩ f σ nx (.t [(false,[.d (.v (.int .i64 0))]),(false,[.d (.v (.bool false))])]):=by
 have:=UF (P:=P) (TB:=TB) (Γ:=Γ) (d:=d) (ty:=ty) (pos:=pos) (af:=af) (g:=g) (nx:=nx) (t:=t) (k:=k) (e:=e) b a h;rw [c] at this;exact this
theorem Jn(l:List (Int×Int))(r:Nat->Nat):O.AV r (.mp (IQ l))=.mp (IQ l):=rfl
def SV{U:Type}(u:List U):List (U×Int):=u.zipIdx.map λp=>(p.1,(p.2:Int))
theorem Uq{U:Type}(u:List U)(x:U):SV (u++[x])=SV u++[(x,(u.length:Int))]:=by
 unfold SV;rw [List.zipIdx_append];simp
theorem MI{U:Type}[DecidableEq U](x:U):∀(u:List U) (k:Nat),(((u.zipIdx k).map λp=>(p.1,(p.2:Int))).find? λp=>decide (p.1=x)).map (·.2)=if x∈u then some ((k+u.idxOf x:Nat):Int) else none
 | [],k=>by simp
 | y :: u,k=>by
  rw [List.zipIdx_cons,lA,ow];by_cases h:y=x
  ·subst h;simp
  ·have b:=MI x u (k+1)
   have c:¬x=y:=λe=>h e.symm;simp only [h,decide_false];rw [b,ox];simp only [kw,c,false_or,beq_eq_false_iff_ne.2 h,cond_false];by_cases a:x∈u
   ·rw [if_pos a,if_pos a];congr 2;omega
   ·rw [if_neg a,if_neg a]
theorem Vz(u:List Int)(x:Int):FP (SV u) x=if x∈u then some ((u.idxOf x:Nat):Int) else none:=by
 have:=MI x u 0;rw [kG] at this;exact this
def jr{U:Type}[DecidableEq U](u:List U)(x:U):Nat:=u.idxOf x
def fY{U:Type}[DecidableEq U](u:List U)(x:U):Option Int:=if x∈u then some ((jr u x:Nat):Int) else none
theorem VB(u:List (List UInt8))(x:List UInt8):BT (SV u) x=fY u x:=by
 have:=MI x u 0;rw [kG] at this;exact this
end Go.Am
namespace Go.Am
open Go
set_option linter.unusedVariables false
variable {P:Program}{TB:Bp}{Γ:Ctx}{d:Option Tmp}{ty:TypeId}{pos:String}{af:Array Edge}{g:Option (Nat×Bool)}{f:Env}{σ:Ab}{nx:Nat}
theorem bF{t k e:TypeId}{x:Operand}{id:Nat}{l:List (Value×Value)}[j:DJ P t k e](b:ev f x=some (.o (.mp id)))(i:look σ id=some (.mp l)):AU P TB Γ ⟨d,.call ⟨.builtin .len,#[x],#[t]⟩,ty,pos,af,g⟩ f σ nx (eI .i64 l.length):=
 AF λV ρ h hi=>by
  have a:=h.get (by simp [Op.operands,Call.operands]) b;generalize c:ρ x=v at a
  cases a with
  | mp hid=>
   obtain⟨q,ents,clock,p,n⟩:=hi.st.obj id _ i;refine⟨.int .i64 l.length,?_,.d (.v rfl)⟩
   have m:ents.size=l.length:=by rw [<-n];simp
   simp [execOp,resolve,invoke,builtin,c,Builtin.len_,run_underlying j.out,MapKept.run_getObj_map p,goInt,m,go_sem]
theorem Yv(u:List (List UInt8)):(El (SV u)).length=u.length:=by simp [El,SV]
theorem PC{t k e:TypeId}{x:Operand}{id:Nat}{u:List (List UInt8)}[c:DJ P t k e](a:ev f x=some (.o (.mp id)))(b:look σ id=some (.mp (El (SV u)))):AU P TB Γ ⟨d,.call ⟨.builtin .len,#[x],#[t]⟩,ty,pos,af,g⟩ f σ nx (eI .i64 u.length):=by
 have:=bF (P:=P) (TB:=TB) (Γ:=Γ) (d:=d) (ty:=ty) (pos:=pos) (af:=af) (g:=g) (nx:=nx) (t:=t) (k:=k) (e:=e) a b;rwa [Yv] at this
theorem Zj{t k e:TypeId}{x y:Operand}{id:Nat}{l:List (List UInt8×Int)}{s:List UInt8}{v:Int}[j:DJ P t k e][hk:CK P k][i:Hl P e (.int .i64 0)](c:BT l s=some v)(b:ev f x=some (.o (.mp id)))(a:ev f y=some (eT s))(h:look σ id=some (.mp (El l))) :
 AU P TB Γ ⟨d,.lookup t x y true,ty,pos,af,g⟩ f σ nx (.t [(false,[.d (.v (.int .i64 v))]),(false,[.d (.v (.bool true))])]):=by
 have:=PE (P:=P) (TB:=TB) (Γ:=Γ) (d:=d) (ty:=ty) (pos:=pos) (af:=af) (g:=g) (nx:=nx) (t:=t) (k:=k) (e:=e) b a h;rw [c] at this;exact this
theorem Zi{t k e:TypeId}{x y:Operand}{id:Nat}{l:List (List UInt8×Int)}{s:List UInt8}[j:DJ P t k e][hk:CK P k][i:Hl P e (.int .i64 0)](c:BT l s=none)(b:ev f x=some (.o (.mp id)))(a:ev f y=some (eT s))(h:look σ id=some (.mp (El l))) :
 AU P TB Γ ⟨d,.lookup t x y true,ty,pos,af,g⟩ f σ nx (.t [(false,[.d (.v (.int .i64 0))]),(false,[.d (.v (.bool false))])]):=by
 have:=PE (P:=P) (TB:=TB) (Γ:=Γ) (d:=d) (ty:=ty) (pos:=pos) (af:=af) (g:=g) (nx:=nx) (t:=t) (k:=k) (e:=e) b a h;rw [c] at this;exact this
end Go.Am
namespace Go.Am
open Go Go.ChangeShapes Go.WideShapes Go.RowKit
def below(w:World)(b:Nat):Prop:=b < w.heap.size
def Rd{U:Type}(P:Program)(w:World)(t:TypeId)(k:Nat)(f:U->List D):Prop:=
 ∀ {H:Type} (enc:TypeId×Value->H) (fuel:Nat) (cs:List Value) (x:DataW H×List MemPlace),DataW.trod enc P w 0 (λ_=>true) true fuel t cs=some x->
  ∃y:U,cs.length=k/\(f y).length=k/\∀(j:Nat) c d,cs[j]? = some c->(f y)[j]? = some d->C5 (below w) w d c
section
variable {P:Program}{w:World}{t e:TypeId}{k:Nat}
theorem Jv{f:Value}{e:D}(h:C5 (below w) w e f):∀(j:Nat) c d,[f][j]? = some c->[e][j]? = some d->C5 (below w) w d c:=by
 intro j c d a b
 match j with
 | 0=>simp at a b;subst a;subst b;exact h
 | j+1=>simp at a
theorem jZ(ht:P.underlying t=some (.int .u8)):Rd P w t 1 (λn:UInt8=>[.v (.int .u8 n.toNat)]):=λenc fuel cs x a=>by
 obtain⟨n,rfl,_,hw⟩:=DataW.trod_int ht a;have hb:=bounds_u8 hw;refine⟨UInt8.ofNat n.toNat,rfl,rfl,Jv ?_⟩
 have:((UInt8.ofNat n.toNat).toNat:Int)=n:=by
  simp;omega
 rw [this];exact .v rfl
theorem On{a:Addr}{n:Nat}{cs:List Value}(h:w.cells? 0 a n=some cs):cs.length=n/\∀(j:Nat) c,cs[j]? = some c->w.cell? (a.add j)=some c:=by
 unfold World.cells? at h;rw [if_pos (k9 _)] at h;have b:=mapM_some_length h;simp at b;refine⟨b,λj c d=>?_⟩;have e:=(am.1 d).1;have:=mapM_some_get h j j (by rw [mC (by omega)]);rw [this];exact d
theorem hY{U:Type}{f:U->List D}(ht:P.underlying t=some (.slice e))(hk:P.cellsOf e=k)(h0:0 < k)(hf:Rd P w e k f):Rd P w t 1 (λl:List U=>[.l (l.map f)]):=λenc fuel cs x hx=>by
 rcases DataW.trod_slice ht hx with ⟨rfl,_⟩|⟨a,len,cap,elems,rest,n,rfl,rfl,_,_,Q,I,hel,q,_,_⟩
 ·exact⟨[],rfl,rfl,Jv .nil⟩
 ·rw [hk] at q
  rcases lH len with A|A
  ·subst A
   exact⟨[],rfl,rfl,Jv (.e I)⟩
  have key:∀i,i < len->∃(y:U) (cs:List Value),w.cells? 0 (a.add (i*k)) k=some cs/\cs.length=k/\(f y).length=k/\∀(j:Nat) c d,cs[j]? = some c->(f y)[j]? = some d->C5 (below w) w d c:=by
   intro i hi;have F:=q i hi
   have R:i < elems.length:=by omega
   rw [d7 R] at F;simp only [kI] at F;obtain⟨cs,B,h3⟩:=F;obtain⟨y,L,K,V⟩:=hf enc n cs _ h3;exact⟨y,cs,B,L,K,V⟩
  obtain⟨b,o,rfl,hb⟩:∃b o,a=⟨b,o,none⟩/\b < w.heap.size:=by
   obtain⟨y,cs,B,L,_,_⟩:=key 0 A;have p:=(On B).2 0 (cs[0]'(by omega)) (by simp);rw [lW] at p
   have Y:∀a:Addr,a.add 0=a:=λa=>by simp [Addr.add]
   rw [Y,Y] at p;unfold World.cell? at p;obtain⟨b,o,sp⟩:=a;split at p
   ·rename_i c _ _ hh
    split at p
    ·cases p
    ·rename_i hs
     cases sp with
     | none=>exact⟨b,o,rfl,(kM.1 hh).1⟩
     | some s=>simp at hs
   ·cases p
  have v:∀m,m<=len->∃l:List U,l.length=m/\∀(i:Nat) y,l[i]? = some y->(f y).length=k/\∀(j:Nat) d,(f y)[j]? = some d->∃c,w.cell? ⟨b,o+i*k+j,none⟩=some c/\C5 (below w) w d c:=by
   intro m
   induction m with
   | zero=>intro _;exact⟨[],rfl,λi y h=>by simp at h⟩
   | succ m Z=>
    intro hm;obtain⟨l,G,g⟩:=Z (by omega);obtain⟨y,cs,B,L,K,V⟩:=key m (by omega);refine⟨l++[y],by simp [G],λi z u=>?_⟩;by_cases hi:i < l.length
    ·rw [f9 hi] at u;exact g i z u
    ·rw [ge (by omega)] at u
     have S:i=m:=by
      have:=(am.1 u).1;simp at this;omega
     subst S;rw [G,Nat.sub_self] at u;simp at u;subst u;refine⟨K,λj d X=>?_⟩
     have H:j < cs.length:=by rw [L,<-K];exact(am.1 X).1
     have p:=(On B).2 j cs[j] (d7 H);rw [BA,BA] at p;exact⟨cs[j],p,V j _ d (d7 H) X⟩
  obtain⟨l,G,g⟩:=v len (i7 _);refine⟨l,rfl,rfl,Jv ?_⟩
  have N:(l.map f).length=len:=by simp [G]
  rw [<-N];refine .l (b:=b) (o:=o) (k:=k) (vs:=λi j=>(w.cell? ⟨b,o+i*k+j,none⟩).getD undef) hb (by simpa [G] using Q) I (λi r J=>?_) (λi r j d J T=>?_) (λi r j d J T=>?_)
  all_goals
   rw [d9,d6] at J;obtain⟨y,M,rfl⟩:=J
  ·exact(g i y M).1
  ·obtain⟨c,F,_⟩:=(g i y M).2 j d T
   rw [F];rfl
  ·obtain⟨c,F,B⟩:=(g i y M).2 j d T
   rw [F];exact B
end
def TZ(w:World):View:=⟨below w,id,λ_=>0,λ_=>True,0,w⟩
section
variable {P:Program}{w:World}{t:TypeId}{k:Nat}{H:Type}{enc:TypeId×Value->H}
theorem fG{U:Type}{f:U->List D}{e:TypeId}(ht:P.underlying t=some (.slice e))(h:Rd P w t 1 (λl:List U=>[.l (l.map f)])){v:Value}{d:DataW H}{ps:List MemPlace}{base:Nat}(a:Value.okWide P w .any base t v)(g:DataW.Trod enc P w 0 (λ_=>true) true t v d ps) :
 ∃l:List U,A4 (TZ w) (.o (.d (.l (l.map f)))) v:=by
 obtain⟨m,c⟩:=g;obtain⟨l,j,i,b⟩:=h enc m _ _ c;refine⟨l,?_⟩
 have:v.cells.toList=[v]:=by
  unfold Value.okWide Cell.okWide Cell.ok at a;simp only [ht] at a;split at a<;>simp_all [Value.cells]
 rw [this] at b;exact .d (b 0 v _ rfl rfl)
structure GL (W W':World):Prop where
 os:W'.os=W.os
 output:W'.output=W.output
 size:W.heap.size<=W'.heap.size
 old:∀b,b < W.heap.size->W'.heap[b]? = W.heap[b]?
theorem GL.sameAt{W W':World}(h:GL W W'){p:MemPlace}(hp:p.block < W.heap.size):W.sameAt W' p:=by
 cases p with
 | cell b off=>show W'.cell? _=W.cell? _;simp only [World.cell?,h.old b hp]
 | map b=>exact h.old b hp
theorem GL.kept{W W':World}(h:GL W W')(may:MemPlace->Prop):W.keptBut W' may:=by
 refine⟨h.os,h.output,λi hi=>?_⟩;rw [h.old i hi];split
 ·rename_i d a
  rw [d] at a
  injection a with a;injection a with b c e
  exact⟨c.symm,e.symm,by rw [b],λj _=>by rw [b]⟩
 ·rename_i d a
  rw [d] at a
  injection a with a;injection a with b c
  exact .inr ⟨b.symm,c.symm⟩
 ·rfl
theorem JL{W W':World}(c:laidOutB P=true)(h:GL W W'){sp:Nat->Bool}:∀ {ts:List TypeId} {vs:List Value} {ds:List (DataW H)} {ps:List MemPlace},(ts.all λt=>P.readableRec t && decide (t < P.types.size))=true->
 DataW.TrodAll enc P W 0 (λ_=>true) true ts vs ds ps->(∀p∈ps,p.block < W.heap.size)->(∀p∈ps,sp p.block=true)->DataW.TrodAll enc P W' 0 sp true ts vs ds ps
 | [],vs,ds,ps,_,b,_,_=>by obtain⟨rfl,rfl,rfl⟩:=trodAll_nil b;exact rfl
 | t::ts,vs,ds,ps,ha,b,f,e=>by
  obtain⟨v,vs',d,ds',p,q,rfl,rfl,rfl,i,g⟩:=trodAll_cons b;simp only [List.all_cons,d5,decide_eq_true_eq] at ha;refine⟨p,q,Go.WideElems.Trod_stays c ha.1.1 ha.1.2 i (λx a=>h.sameAt (f x (kN _ a))) (λx a=>e x (kN _ a)),JL c h (by simpa using ha.2) g (λx a=>f x (kV _ a)) (λx a=>e x (kV _ a)),rfl⟩
theorem fo{f:Func}{s:ChangeSpec}{again:Bool}{W W':World}{args:Array Value}{ds gs:List (DataW H)}{before:List MemPlace}{tb:TypeId}(B:laidOutB P=true)(l:(f.params.toList.all λt=>P.readableRec t && decide (t < P.types.size))=true)
 (u:DataW.Whole enc P f.params.toList s.vars false W args.toList ds gs before) (n:GL W W') (v:s.vars=[]) (w:f.resultTypes = #[tb]) (i:P.underlying tb=some .bool) (e:(Value.bool true).resultList 1=[.bool true])
 (h:s.fn H (ds++gs) = { results:=[.lit (.bool true)],args:=ds }):s.post enc P f false true false again W args (.bool true) W':=by
 have g:=u.lt;have r:=u;obtain⟨p,q,F,z,y,A,J⟩:=u;rw [v] at z;obtain⟨rfl,rfl⟩:=trodVars_none z;rw [lh] at y;subst y
 have d:∀(b:Nat) (sp:Nat->Bool) (o:Bool),DataW.TrodAll enc P W' b sp o f.resultTypes.toList ((Value.bool true).resultList f.resultTypes.size) (s.fn H (ds++[])).results []:=λb sp o=>by
  rw [w,h]
  show DataW.TrodAll enc P W' b sp o [tb] ((Value.bool true).resultList 1) [.lit (.bool true)] []
  rw [e];exact trodAll_mk1 (RowKit.shut_bool i true)
 have c:∀sp:Nat->Bool,(∀x∈before,sp x.block=true)->DataW.TrodAll enc P W' 0 sp true f.params.toList args.toList (s.fn H (ds++[])).args before:=λsp m=>by
  rw [h];exact JL B n l F g m
 have a:∀sp:Nat->Bool,DataW.TrodVars enc P W' sp s.vars (s.fn H (ds++[])).vars []:=λsp=>by
  rw [v,h];exact rfl
 refine⟨ds,[],before,[],before,[],r,d _ _ _,c _ λx k=>by simpa using g x k,a _,n.kept _,λ_=>?_⟩;refine⟨ok_one w e (okWide_bool_mk i true),_,_,([]++before)++[],⟨[]++before,[],trodAll_append (c _ (λ_ _=>rfl)) (d _ _ _),a _,rfl,?_,λha=>by cases ha⟩,λx k _=>by simpa using k⟩;intro b off hp
 have j:MemPlace.cell b off∈before:=by simpa using hp
 have I:=A b off j;have G:b < W.heap.size:=g _ j
 simpa [World.frozen?,n.old b G] using I
end
end Go.Am
