/-
  Maps keyed by numbers, with numbers.
-/
import Derived.Test.YtdipaikojjjebaaGreatDoorPart10
set_option linter.all false
namespace Go.Am
open Go
variable {P:Program}{TB:BJ}{U:Ctx}{d:Option Tmp}{ty:TypeId}{pos:String}{af:Array Edge}{g:Option (Nat×Bool)}{f:Env}{σ:Ac}{nx:Nat}
variable {K:E->Ac->Nat->Prop}
def JA(l:List (Int×Int)):List (Value×Value):=l.map λp=>(.int .i64 p.1,.int .i64 p.2)
def Hn(l:List (Int×Int))(s:Int):Option Int:=(l.find? λp=>decide (p.1=s)).map (·.2)
theorem MY{i64:IntKind}(s:Int):∀(l:List (Int×Int)) (es:List MapEntry) (i:Nat),es.map (λe=>(e.key,e.val))=JA l->∃r,Instr.findNow (.int i64) (.int .i64 s) es i=some r/\r.map (·.2)=(Hn l s).map (.int .i64)
 | [],es,i,h=>by
  have:es=[]:=by simpa[JA]using h
  subst this;exact⟨none,rfl,rfl⟩
 | p :: l,es,i,h=>by
  cases es with
  | nil=>simp[JA]at h
  | cons e es=>
   simp only[JA,rX,List.cons.injEq,Prod.mk.injEq]at h;obtain⟨⟨hk,b⟩,d⟩:=h
   have c:Instr.sameNow (.int i64) (.int .i64 s) e.key=some (decide (s=p.1)):=by
    rw[hk]
    show (if IntKind.i64=IntKind.i64 then some (s == p.1) else none)=_
    rw[if_pos rfl];exact congrArg some (by rw[sH];simp)
   unfold Instr.findNow;rw[c];by_cases a:s=p.1
   ·refine⟨some (i,e.val),by simp[a],?_⟩
    simp[Hn,a,b]
   ·obtain⟨r,j,g⟩:=MY (i64:=i64) s l es (i+1) d
    have f:¬p.1=s:=λe=>a e.symm;refine⟨r,by simp[a,j],?_⟩;rw[g];simp[Hn,f]
theorem RP{k:TypeId}{q:IntKind}(hk:P.underlying k=some (.int q))(b:Bool)(s:Int)(w:World):(Instr.checkKey b 10000 k (.int q s)).run P w=.ok () w:=by
 rw[show 10000=9999+1 from rfl];unfold Instr.checkKey;simp[run_underlying hk,go_sem]
theorem ZT{t k e:TypeId}{x y:Operand}{id:Nat}{l:List (Int×Int)}{s:Int}[G:FN P t k e][hk:Iv P k .i64][M:KC P e (.int .i64 0)](Q:ev f x=some (.o (.mp id)))(N:ev f y=some (eI .i64 s))(R:look σ id=some (.mp (JA l))) :
 A5 P TB U ⟨d,.lookup t x y true,ty,pos,af,g⟩ f σ nx (.t [(false,[.d (.v (.int .i64 ((Hn l s).getD 0)))]),(false,[.d (.v (.bool (Hn l s).isSome))])]):=
 AQ λV ρ F hi=>by
  have L:=F.get (by simp[Op.operands]) Q;have K:ρ y=.int .i64 s:=AP.val (F.get (by simp[Op.operands]) N);generalize a:ρ x=v at L
  cases L with
  | mp S =>
   obtain⟨hn,ents,clock,J,X⟩:=hi.st.obj id _ R;obtain⟨r,T,p⟩:=MY (i64:=.i64) s l ents.toList 0 X;have b:=M.out;simp only[qY]at b;obtain⟨i,A,z⟩:=b
   have u:(zeroValue e).run P V.w=.ok (.int .i64 0) V.w:=by simp[zeroValue,typeInfo,A,z,go_sem]
   have h:(Instr.findKey k (.int .i64 s) ents.toList).run P V.w=.ok r V.w:=by simp[Instr.findKey,run_underlying hk.out,T,go_sem]
   have m:=RP hk.out ents.isEmpty s V.w;refine⟨.tuple #[.int .i64 ((Hn l s).getD 0),.bool (Hn l s).isSome],?_,⟨_,rfl,rfl,λj x v c a=>?_⟩⟩
   ·cases r with
    | none=>
     have B:Hn l s=none:=by simpa using p.symm
     simp[execOp,a,K,Instr.lookup,run_underlying G.out,MapKept.run_getObj_map J,m,h,u,B,go_sem]
    | some q=>
     obtain⟨n,B,I⟩:∃n,Hn l s=some n/\q.2=.int .i64 n:=by
      cases H:Hn l s with
      | none=>rw[H]at p;simp at p
      | some n=>rw[H]at p;exact⟨n,rfl,by simpa using p⟩
     obtain⟨Z,Y⟩:=q;simp only at I;subst I;simp[execOp,a,K,Instr.lookup,run_underlying G.out,MapKept.run_getObj_map J,m,h,B,go_sem]
   ·match j with
    | 0=>simp at c a;subst c;subst a;exact⟨_,rfl,.d (.v rfl)⟩
    | 1=>simp at c a;subst c;subst a;exact⟨_,rfl,.d (.v rfl)⟩
    | j+2=>simp at c
theorem TA{t k e:TypeId}{x y z:Operand}{id:Nat}{l:List (Int×Int)}{s:Int}{n:Int}[X:FN P t k e][hk:Iv P k .i64](Q:ev f x=some (.o (.mp id)))(N:ev f y=some (eI .i64 s))(M:ev f z=some (eI .i64 n))(G:look σ id=some (.mp (JA l)))
 (T:Hn l s=none) (H:K (.t []) ((id,.mp (JA (l++[(s,n)])))::σ) nx):Ck P TB U ⟨d,.mapUpdate t x y z,ty,pos,af,g⟩ f σ nx K:=by
 intro V a c J h3;have c:=c.HR;unfold Oper.wp;generalize a.eval=ρ at c |-;have L:=c.get (x:=x) (by simp[Op.operands]) Q;have e2:ρ y=.int .i64 s:=AP.val (c.get (by simp[Op.operands]) N);have e3:ρ z=.int .i64 n:=AP.val (c.get (by simp[Op.operands]) M);generalize R:ρ x=v at L
 cases L with
 | mp Z=>
  obtain⟨m,ents,clock,F,B⟩:=J.st.obj id _ G;obtain⟨r,h6,I⟩:=MY (i64:=.i64) s l ents.toList 0 B;rw[T]at I
  have S:r=none:=by cases r with
   | none=>rfl
   | some q=>simp at I
  subst S
  have u:(Instr.findKey k (.int .i64 s) ents.toList).run P V.w=.ok none V.w:=by simp[Instr.findKey,run_underlying hk.out,h6,go_sem]
  have A:=RP hk.out false s V.w
  let ob:Obj:=.map (ents.push { key:=.int .i64 s,val:=.int .i64 n,born:=clock }) (clock+1)
  let w':World:={ V.w with heap:=V.w.heap.setIfInBounds (V.ρ id) ob }
  have h:=MapKept.run_setObj_map (P:=P) ob F;have p:=(qZ.1 F).1
  obtain⟨hi,he⟩:=J.write G m (w:=w') (ob':=.mp (JA (l++[(s,n)]))) rfl rfl rfl rfl rfl (by simp[w']) (λb hb=>by simp[w',sg,Ne.symm hb]) (by
   refine⟨m,ents.push { key:=.int .i64 s,val:=.int .i64 n,born:=clock },clock+1,?_,?_⟩
   ·show w'.heap[V.ρ id]?=some ob
    simp[w',sg,p]
   ·simp[JA]at B |-
    exact B)
  have i:(execOp ρ ⟨d,.mapUpdate t x y z,ty,pos,af,g⟩).run P V.w=.ok .skip w':=by
   simp[execOp,R,e2,e3,Instr.mapUpdate,run_underlying X.out,MapKept.run_getObj_map F,A,u,h,ob,w',go_sem]
  rw[i];exact⟨{ V with w:=w' },.tuple #[],.t [],_,rfl,rfl,he,hi,⟨#[],rfl,rfl,λj x v Y=>by simp at Y⟩,by rw[<-h3]at H;exact H⟩
theorem fq{t:TypeId}{x y z:Operand}{K:E->Ac->Nat->Prop}(h:Ck P TB U ⟨d,.mapUpdate t x y z,ty,pos,af,g⟩ f σ nx K):Ck P TB U ⟨d,.insert t x y z,ty,pos,af,g⟩ f σ nx K:=λV a e c b=>h V a e c b
theorem VM{t k e:TypeId}{x y:Operand}{id:Nat}{l:List (Int×Int)}{s v:Int}[j:FN P t k e][hk:Iv P k .i64][i:KC P e (.int .i64 0)](c:Hn l s=some v)(b:ev f x=some (.o (.mp id)))(a:ev f y=some (eI .i64 s))(h:look σ id=some (.mp (JA l))) :
 A5 P TB U ⟨d,.lookup t x y true,ty,pos,af,g⟩ f σ nx (.t [(false,[.d (.v (.int .i64 v))]),(false,[.d (.v (.bool true))])]):=by
 have:=ZT (P:=P) (TB:=TB) (U:=U) (d:=d) (ty:=ty) (pos:=pos) (af:=af) (g:=g) (nx:=nx) (t:=t) (k:=k) (e:=e) b a h;rw[c]at this;exact this
theorem VL{t k e:TypeId}{x y:Operand}{id:Nat}{l:List (Int×Int)}{s:Int}[j:FN P t k e][hk:Iv P k .i64][i:KC P e (.int .i64 0)](c:Hn l s=none)(b:ev f x=some (.o (.mp id)))(a:ev f y=some (eI .i64 s))(h:look σ id=some (.mp (JA l))) :
 A5 P TB U ⟨d,.lookup t x y true,ty,pos,af,g⟩ f σ nx (.t [(false,[.d (.v (.int .i64 0))]),(false,[.d (.v (.bool false))])]):=by
 have:=ZT (P:=P) (TB:=TB) (U:=U) (d:=d) (ty:=ty) (pos:=pos) (af:=af) (g:=g) (nx:=nx) (t:=t) (k:=k) (e:=e) b a h;rw[c]at this;exact this
theorem Gb(l:List (Int×Int))(r:Nat->Nat):O.Bj r (.mp (JA l))=.mp (JA l):=rfl
def Uh{α:Type}(u:List α):List (α×Int):=u.zipIdx.map λp=>(p.1,(p.2:Int))
theorem Tx{α:Type}(u:List α)(x:α):Uh (u++[x])=Uh u++[(x,(u.length:Int))]:=by
 unfold Uh;rw[List.zipIdx_append];simp
theorem PR{α:Type}[DecidableEq α](x:α):∀(u:List α) (k:Nat),(((u.zipIdx k).map λp=>(p.1,(p.2:Int))).find? λp=>decide (p.1=x)).map (·.2)=if x∈u then some ((k+u.idxOf x:Nat):Int) else none
 | [],k=>by simp
 | y :: u,k=>by
  rw[List.zipIdx_cons,rX,vg];by_cases h:y=x
  ·subst h;simp
  ·have b:=PR x u (k+1)
   have c:¬x=y:=λe=>h e.symm;simp only[h,decide_false];rw[b,vh];simp only[lw,c,false_or,beq_eq_false_iff_ne.2 h,cond_false];by_cases a:x∈u
   ·rw[if_pos a,if_pos a];congr 2;omega
   ·rw[if_neg a,if_neg a]
theorem RT(u:List Int)(x:Int):Hn (Uh u) x=if x∈u then some ((u.idxOf x:Nat):Int) else none:=by
 have:=PR x u 0;rw[ms]at this;exact this
def pE{α:Type}[DecidableEq α](u:List α)(x:α):Nat:=u.idxOf x
def nD{α:Type}[DecidableEq α](u:List α)(x:α):Option Int:=if x∈u then some ((pE u x:Nat):Int) else none
theorem bC(u:List (List UInt8))(x:List UInt8):Gq (Uh u) x=nD u x:=by
 have:=PR x u 0;rw[ms]at this;exact this
end Go.Am
namespace Go.Am
open Go
variable {P:Program}{TB:BJ}{U:Ctx}{d:Option Tmp}{ty:TypeId}{pos:String}{af:Array Edge}{g:Option (Nat×Bool)}{f:Env}{σ:Ac}{nx:Nat}
theorem jG{t k e:TypeId}{x:Operand}{id:Nat}{l:List (Value×Value)}[j:FN P t k e](b:ev f x=some (.o (.mp id)))(i:look σ id=some (.mp l)):A5 P TB U ⟨d,.call ⟨.builtin .len,#[x],#[t]⟩,ty,pos,af,g⟩ f σ nx (eI .i64 l.length):=
 AQ λV ρ h hi=>by
  have a:=h.get (by simp[Op.operands,Call.operands]) b;generalize c:ρ x=v at a
  cases a with
  | mp m=>
   obtain⟨r,ents,clock,q,p⟩:=hi.st.obj id _ i;refine⟨.int .i64 l.length,?_,.d (.v rfl)⟩
   have n:ents.size=l.length:=by rw[<-p];simp
   simp[execOp,resolve,invoke,builtin,c,Builtin.len_,run_underlying j.out,MapKept.run_getObj_map q,goInt,n,go_sem]
theorem eZ(u:List (List UInt8)):(KA (Uh u)).length=u.length:=by simp[KA,Uh]
theorem TR{t k e:TypeId}{x:Operand}{id:Nat}{u:List (List UInt8)}[c:FN P t k e](a:ev f x=some (.o (.mp id)))(b:look σ id=some (.mp (KA (Uh u)))):A5 P TB U ⟨d,.call ⟨.builtin .len,#[x],#[t]⟩,ty,pos,af,g⟩ f σ nx (eI .i64 u.length):=by
 have:=jG (P:=P) (TB:=TB) (U:=U) (d:=d) (ty:=ty) (pos:=pos) (af:=af) (g:=g) (nx:=nx) (t:=t) (k:=k) (e:=e) a b;rwa[eZ]at this
theorem gh{t k e:TypeId}{x y:Operand}{id:Nat}{l:List (List UInt8×Int)}{s:List UInt8}{v:Int}[j:FN P t k e][hk:Dx P k][i:KC P e (.int .i64 0)](c:Gq l s=some v)(b:ev f x=some (.o (.mp id)))(a:ev f y=some (eT s))(h:look σ id=some (.mp (KA l))) :
 A5 P TB U ⟨d,.lookup t x y true,ty,pos,af,g⟩ f σ nx (.t [(false,[.d (.v (.int .i64 v))]),(false,[.d (.v (.bool true))])]):=by
 have:=ga (P:=P) (TB:=TB) (U:=U) (d:=d) (ty:=ty) (pos:=pos) (af:=af) (g:=g) (nx:=nx) (t:=t) (k:=k) (e:=e) b a h;rw[c]at this;exact this
theorem gf{t k e:TypeId}{x y:Operand}{id:Nat}{l:List (List UInt8×Int)}{s:List UInt8}[j:FN P t k e][hk:Dx P k][i:KC P e (.int .i64 0)](c:Gq l s=none)(b:ev f x=some (.o (.mp id)))(a:ev f y=some (eT s))(h:look σ id=some (.mp (KA l))) :
 A5 P TB U ⟨d,.lookup t x y true,ty,pos,af,g⟩ f σ nx (.t [(false,[.d (.v (.int .i64 0))]),(false,[.d (.v (.bool false))])]):=by
 have:=ga (P:=P) (TB:=TB) (U:=U) (d:=d) (ty:=ty) (pos:=pos) (af:=af) (g:=g) (nx:=nx) (t:=t) (k:=k) (e:=e) b a h;rw[c]at this;exact this
end Go.Am
