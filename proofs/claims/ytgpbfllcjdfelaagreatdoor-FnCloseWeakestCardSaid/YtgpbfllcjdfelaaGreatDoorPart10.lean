/-
  More rules: text out of a letter, parts of texts and lists, maps keyed by texts.
-/
import Derived.Test.YtgpbfllcjdfelaaGreatDoorPart9
import Derived.Laws.Slices
import Derived.MapKept
set_option linter.all false
namespace Go.Am
open Go
section
variable {P:Program}{TB:Bp}{Γ:Ctx}{d:Option Tmp}{ty:TypeId}{pos:String}{af:Array Edge}{g:Option (Nat×Bool)}{f:Env}{σ:Ab}{nx:Nat}
variable {K:E->Ab->Nat->Prop}
theorem Zk{s t:TypeId}{k:IntKind}{x:Operand}{n:Int}[c:E4 P s k][ht:CK P t](b:ev f x=some (eI k n))(m:0<=n)(l:n < 128):AU P TB Γ ⟨d,.convert s t x,ty,pos,af,g⟩ f σ nx (eT [UInt8.ofNat n.toNat]):=
 AF λV ρ a _=>⟨.string ⟨#[UInt8.ofNat n.toNat]⟩,by
  have j:ρ x=.int k n:=Az.val (a.get (by simp [Op.operands]) b)
  have i:Utf8.valid n=true:=by simp [Utf8.valid];omega
  have h:n.toNat < 128:=by omega
  have e:Utf8.encode n=⟨#[UInt8.ofNat n.toNat]⟩:=by simp [Utf8.encode,i,h]
  simp [execOp,j,convert,run_underlying c.out,run_underlying ht.out,Conv.intToString,e,go_sem],.d (.v rfl)⟩
def WR(f:Env):Option Operand->Option (Option (IntKind×Int))
 | none=>some none
 | some x=>match ev f x with
  | some (.o (.d (.v (.int k m))))=>some (some (k,m))
  | _=>none
theorem Ly{o:Oper}{V:View}{ρ:Operand->Value}(e:KL V o f ρ){x:Option Operand}{b:Option (IntKind×Int)}(a:∀y,x=some y->y∈o.op.operands)(h:WR f x=some b):x.map ρ=b.map λp=>.int p.1 p.2:=by
 cases x with
 | none=>injection h with h;subst h;rfl
 | some y=>
  unfold WR at h;simp only at h;split at h
  ·rename_i k m c
   injection h with h
   subst h;have d:ρ y=.int k m:=Az.val (e.get (a y rfl) c);simp [d]
  ·cases h
def JS:Option (IntKind×Int)->Int
 | none=>0
 | some p=>p.2
def JQ(n:Nat):Option (IntKind×Int)->Int
 | none=>n
 | some p=>p.2
theorem Me{isS:Bool}{len cap:Nat}{lo hi:Option (IntKind×Int)}(b:0<=JS lo)(e:JS lo<=JQ len hi)(d:JQ len hi<=len)(c:len<=cap)(w:World) :
 (Instr.sliceBounds isS len cap (lo.map λp=>.int p.1 p.2) (hi.map λp=>.int p.1 p.2) none).run P w=.ok ((JS lo).toNat,(JQ len hi).toNat,cap) w:=by
 cases lo with
 | none=>
  cases hi with
  | none=>simp [Instr.sliceBounds,JS,JQ,go_sem]
  | some h=>
   simp only [JS,JQ] at *;simp [Instr.sliceBounds,run_sliceBound w h.1 h.2 cap _ (by omega) (by omega),JS,JQ,go_sem]
 | some l=>
  cases hi with
  | none=>
   simp only [JS,JQ] at *;simp [Instr.sliceBounds,run_sliceBound w l.1 l.2 len _ (by omega) (by omega),JS,JQ,go_sem]
  | some h=>
   simp only [JS,JQ] at *;simp [Instr.sliceBounds,run_sliceBound w h.1 h.2 cap _ (by omega) (by omega),run_sliceBound w l.1 l.2 h.2.toNat _ (by omega) (by omega),JS,JQ,go_sem];intro a;have:=a b;omega
theorem Tq{t:TypeId}(ht:P.underlying t=some .string){s:ByteArray}{lo hi:Option Value}{l h m:Nat}{w:World}(hb:(Instr.sliceBounds false s.size s.size lo hi none).run P w=.ok (l,h,m) w) :
 (Instr.sliceAt t (.string s) lo hi none).run P w=.ok (.string (s.extract l h)) w:=by
 have a:(Instr.sliceAt t (.string s) lo hi none).run P w=(Instr.slice t (.string s) lo hi none).run P w:=by
  unfold Instr.sliceAt;rw [kL,run_underlying ht,kF]
 rw [a];unfold Instr.slice;rw [kL,run_underlying ht,kF];simp only [Option.isSome_none,mH,if_false];rw [kL];generalize Instr.sliceBounds false s.size s.size lo hi none=sb at hb |-;simp [hb,go_sem]
theorem Tp{t e:TypeId}{i:TypeInfo}(c:P.underlying t=some (.slice e))(hi:P.info? e=some i){a:Option Addr}{len cap:Nat}{lo b:Option Value}{l h m:Nat}{w:World}(hb:(Instr.sliceBounds true len cap lo b none).run P w=.ok (l,h,m) w) :
 (Instr.sliceAt t (.slice a len cap) lo b none).run P w=.ok (.slice (if m=l then a else a.map (·.add (l*i.size))) (h - l) (m - l)) w:=by
 have d:(Instr.sliceAt t (.slice a len cap) lo b none).run P w=(Instr.slice t (.slice a len cap) lo b none).run P w:=by
  unfold Instr.sliceAt;rw [kL,run_underlying c,kF]
 rw [d];unfold Instr.slice;rw [kL,run_underlying c,kF];simp only;rw [kL];generalize Instr.sliceBounds true len cap lo b none=sb at hb |-;simp [hb,sizeOf,typeInfo,hi,go_sem]
theorem LU{t:TypeId}{x:Operand}{lo hi:Option Operand}{s:List UInt8}{l h:Option (IntKind×Int)}[ht:CK P t](i:ev f x=some (eT s))(j:WR f lo=some l)(k:WR f hi=some h)
 (o:0<=JS l) (n:JS l<=JQ s.length h) (m:JQ s.length h<=s.length):AU P TB Γ ⟨d,.slice t x lo hi none,ty,pos,af,g⟩ f σ nx (eT ((s.take (JQ s.length h).toNat).drop (JS l).toNat)):=
 AF λV ρ c _=>by
  have u:ρ x=.string ⟨s.toArray⟩:=Az.val (c.get (by simp [Op.operands]) i);have r:=Ly c (x:=lo) (λy b=>by subst b;simp [Op.operands]) j;have q:=Ly c (x:=hi) (λy b=>by subst b;simp [Op.operands]) k
  have a:(⟨s.toArray⟩:ByteArray).size=s.length:=by simp [ByteArray.size]
  have hb:=Me (P:=P) (isS:=false) (len:=s.length) (cap:=s.length) o n m (i7 _) V.w;refine⟨.string ((⟨s.toArray⟩:ByteArray).extract (JS l).toNat (JQ s.length h).toNat),?_,?_⟩
  ·rw [<-a] at hb
   have e:=Tq ht.out hb;rw [a] at e;simp only [execOp,u,r,q,Option.map_none,kL,e,kF];rfl
  ·have p:((⟨s.toArray⟩:ByteArray).extract (JS l).toNat (JQ s.length h).toNat)=⟨((s.take (JQ s.length h).toNat).drop (JS l).toNat).toArray⟩:=by
    apply ByteArray.ext;rw [ByteArray.data_extract];apply Array.toList_inj.1;simp [List.extract_eq_take_drop,List.drop_take]
   rw [p];exact .d (.v rfl)
theorem UG{t e:TypeId}{k b:Nat}{x:Operand}{lo hi:Option Operand}{rows:List (List D)}{l h:Option (IntKind×Int)}[G:Ci P t e k b](X:ev f x=some (.o (.d (.l rows))))(hl:WR f lo=some l)(hh:WR f hi=some h)(hk:∀r∈rows,r.length=k)
 (h0:0<=JS l) (h1:JS l<=JQ rows.length h) (h2:JQ rows.length h<=rows.length):AU P TB Γ ⟨d,.slice t x lo hi none,ty,pos,af,g⟩ f σ nx (.o (.d (.l ((rows.take (JQ rows.length h).toNat).drop (JS l).toNat)))):=
 AF λV ρ H _=>by
  have B:=H.get (by simp [Op.operands]) X;have e2:=Ly H (x:=lo) (λy F=>by subst F;simp [Op.operands]) hl;have e3:=Ly H (x:=hi) (λy F=>by subst F;simp [Op.operands]) hh;generalize Y:ρ x=v at B;obtain⟨i,Z,L,hs,_⟩:=Fq G.out;generalize I:(JS l).toNat=lo' at *;generalize M:(JQ rows.length h).toNat=c at *
  have A:lo'<=c/\c<=rows.length:=by omega
  have p:∀(a:Option Addr) (cap:Nat),rows.length<=cap->v=.slice a rows.length cap->(execOp ρ ⟨d,.slice t x lo hi none,ty,pos,af,g⟩).run P V.w=.ok (.value (.slice (if cap=lo' then a else a.map (·.add (lo'*i.size))) (c - lo') (cap - lo'))) V.w:=by
   intro a cap R he;have hb:=Me (P:=P) (isS:=true) (len:=rows.length) (cap:=cap) h0 h1 h2 R V.w;rw [I,M] at hb;subst he;have s:=Tp Z L (a:=a) hb;simp only [execOp,Y,e2,e3,Option.map_none,kL,s,kF];rfl
  have z:((rows.take c).drop lo').length=c - lo':=by simp;omega
  obtain⟨B⟩:=B
  cases B with
  | nil=>
   have s:lo'=0/\c=0:=by simp at A;omega
   obtain⟨rfl,rfl⟩:=s;exact⟨_,p none 0 (by simp) rfl,.d .nil⟩
  | @e a cap R=>
   have s:lo'=0/\c=0:=by simp at A;omega
   obtain⟨rfl,rfl⟩:=s;refine⟨_,p (some a) cap (by simp) rfl,?_⟩;by_cases Q:cap=0
   ·rw [if_pos Q];exact .d (.e (by omega))
   ·rw [if_neg Q];exact .d (.e (by omega))
  | @l _ b' o k' cap vs hb s Q S h6 h7=>
   refine⟨_,p (some ⟨b',o,none⟩) cap s rfl,?_⟩;by_cases T:c - lo'=0
   ·have:(rows.take c).drop lo'=[]:=List.eq_nil_of_length_eq_zero (by omega)
    rw [this,T];split
    ·exact .d (.e (by omega))
    ·exact .d (.e (by omega))
   ·have N:¬cap=lo':=by omega
    rw [if_neg N];simp only [lu,BA]
    have J:k'=i.size:=by
     have u:0 < rows.length:=by omega
     have e5:=S 0 _ (d7 u);have e6:=hk _ (lm u);omega
    have m:∀(q:Nat) (r:List D),((rows.take c).drop lo')[q]? = some r->rows[lo'+q]? = some r:=λq r n=>by
     rw [kQ,kT] at n;split at n
     ·exact n
     ·cases n
    rw [<-z];refine .d (.l (k:=k') (vs:=λq j=>vs (lo'+q) j) hb (by omega) (by omega) (λq r n=>S _ r (m q r n)) (λq r j dd n K=>?_) (λq r j dd n K=>h7 _ r j dd (m q r n) K));have:=h6 _ r j dd (m q r n) K;rw [<-J]
    have e7:o+lo'*k'+q*k'+j=o+(lo'+q)*k'+j:=by rw [kU];omega
    rw [e7];exact this
theorem ZD{t e:TypeId}(ht:P.underlying t=some (.slice e))(a:Option Addr)(n c:Nat)(w:World):(binOp .eql t (.slice a n c) (.slice none 0 0)).run P w=.ok (.bool a.isNone) w:=by
 have h:∀d:Nat,(Op.equalIn (d+1) t (.slice a n c) (.slice none 0 0)).run P w=.ok a.isNone w:=λd=>by
  cases a<;>simp [Op.equalIn,run_underlying ht]
 simp only [binOp];simp [Op.equal,Op.maxDepth,h 9999]
theorem YE{t e yt:TypeId}{k b:Nat}{x:Operand}{rows:List (List D)}[m:Ci P t e k b](q:ev f x=some (.o (.d (.l rows))))(z:∀c,(c=true->rows=[])->K (eB c) σ nx) :
 BZ P TB Γ ⟨d,.binOp .eql t x (.const (.slice none 0 0)) yt,ty,pos,af,g⟩ f σ nx K:=by
 intro V a H G F;subst F;have j:=H.FO.get (x:=x) (by simp [Op.operands]) q;have I:a.eval (.const (.slice none 0 0))=.slice none 0 0:=rfl;obtain⟨i,s,_,_,_⟩:=Fq m.out;generalize r:a.eval x=v at j
 have key:∀(p:Option Addr) (n c:Nat),v=.slice p n c->(p.isNone=true->rows=[])->Oper.wp P ⟨d,.binOp .eql t x (.const (.slice none 0 0)) yt,ty,pos,af,g⟩ a V.w (λa' w'=>∃V' v x σ',V'.w=w'/\a'=a.put d v/\Ext V V'/\Inv TB Γ V' σ'/\A4 V' x v/\K x σ' V'.nx) iT:=by
  intro p n c y u;unfold Oper.wp;have A:execOp a.eval ⟨d,.binOp .eql t x (.const (.slice none 0 0)) yt,ty,pos,af,g⟩=(do let v <-(do eqGuard .eql t x (.const (.slice none 0 0)) (a.eval x) (a.eval (.const (.slice none 0 0)));binOp .eql t (a.eval x) (a.eval (.const (.slice none 0 0))));pure (.value v)):=rfl;have B:eqGuard .eql t x (.const (.slice none 0 0)) (.slice p n c) (.slice none 0 0)=pure ():=rfl;rw [A,r,I,y,B];rw [pure_bind,kL,ZD s,kF];exact⟨V,.bool p.isNone,eB p.isNone,σ,rfl,rfl,Ext.refl V,G,Az.d (.v rfl),z p.isNone u⟩
 obtain⟨j⟩:=j
 cases j with
 | nil=>exact key none 0 0 rfl λ_=>rfl
 | e=>exact key (some _) 0 _ rfl λh=>by cases h
 | l=>exact key (some _) _ _ rfl λh=>by cases h
def El(l:List (List UInt8×Int)):List (Value×Value):=l.map λp=>(.string ⟨p.1.toArray⟩,.int .i64 p.2)
def BT(l:List (List UInt8×Int))(s:List UInt8):Option Int:=(l.find? λp=>decide (p.1=s)).map (·.2)
theorem fK(a b:List UInt8):((⟨a.toArray⟩:ByteArray) == ⟨b.toArray⟩)=decide (a=b):=by
 have h:((⟨a.toArray⟩:ByteArray) == ⟨b.toArray⟩)=(a.toArray == b.toArray):=rfl;rw [h,lV];simp
theorem Jg(s:List UInt8):∀(l:List (List UInt8×Int)) (es:List MapEntry) (i:Nat),es.map (λe=>(e.key,e.val))=El l->∃r,Instr.findNow .string (.string ⟨s.toArray⟩) es i=some r/\r.map (·.2)=(BT l s).map (.int .i64)
 | [],es,i,h=>by
  have:es=[]:=by simpa [El] using h
  subst this;exact⟨none,rfl,rfl⟩
 | p :: l,es,i,h=>by
  cases es with
  | nil=>simp [El] at h
  | cons e es=>
   simp only [El,lA,List.cons.injEq,Prod.mk.injEq] at h;obtain⟨⟨hk,b⟩,d⟩:=h
   have c:Instr.sameNow .string (.string ⟨s.toArray⟩) e.key=some (decide (s=p.1)):=by
    rw [hk]
    show some ((⟨s.toArray⟩:ByteArray) == ⟨p.1.toArray⟩)=_
    rw [fK]
   unfold Instr.findNow;rw [c];by_cases a:s=p.1
   ·refine⟨some (i,e.val),by simp [a],?_⟩
    simp [BT,a,b]
   ·obtain⟨r,j,g⟩:=Jg s l es (i+1) d
    have f:¬p.1=s:=λe=>a e.symm;refine⟨r,by simp [a,j],?_⟩;rw [g];simp [BT,f]
theorem HZ{t:TypeId}(i:K (.o (.mp nx)) ((nx,.mp [])::σ) (nx+1)):BZ P TB Γ ⟨d,.makeMap t none,ty,pos,af,g⟩ f σ nx K:=
 Db λV ρ l k j=>by
  subst j
  have a:V.w.heap.size < (V.w.alloc (.map #[] 0)).heap.size:=by simp
  obtain⟨hi,h⟩:=k.alloc (c:=0) (nl:=False) (w:=V.w.alloc (.map #[] 0)) (ob:=.mp []) rfl rfl rfl rfl (Nat.le_of_lt a) (λb hb=>AZ V.w _ b hb) (by
   refine⟨by simp [Al],#[],0,?_,rfl⟩
   have e:(Al V V.w.heap.size 0 False (V.w.alloc (.map #[] 0))).ρ V.nx=V.w.heap.size:=by simp [Al]
   rw [e]
   exact BW V.w (.map #[] 0))
  refine⟨.map (some V.w.heap.size),_,_,_,?_,h,hi,?_,i⟩
  ·have:(Instr.makeMap t none).run P V.w=.ok (.map (some V.w.heap.size)) (V.w.alloc (.map #[] 0)):=rfl
   simp [execOp,this,Al,go_sem]
  ·have:=@Az.mp (Al V V.w.heap.size 0 False (V.w.alloc (.map #[] 0))) V.nx (by simp [Al])
   have e:(Al V V.w.heap.size 0 False (V.w.alloc (.map #[] 0))).ρ V.nx=V.w.heap.size:=by simp [Al]
   rw [e] at this;exact this
class Hl (P:Program) (t:TypeId) (z:outParam Value):Prop where
 out:(P.info? t).bind (·.zero)=some z
class DJ (P:Program) (t:TypeId) (k e:outParam TypeId):Prop where
 out:P.underlying t=some (.map k e)
theorem IG{k:TypeId}(hk:P.underlying k=some .string)(b:Bool)(s:ByteArray)(w:World):(Instr.checkKey b 10000 k (.string s)).run P w=.ok () w:=by
 rw [show 10000=9999+1 from rfl];unfold Instr.checkKey;simp [run_underlying hk,go_sem]
theorem PE{t k e:TypeId}{x y:Operand}{id:Nat}{l:List (List UInt8×Int)}{s:List UInt8}[G:DJ P t k e][hk:CK P k][M:Hl P e (.int .i64 0)](Q:ev f x=some (.o (.mp id)))(N:ev f y=some (eT s))(R:look σ id=some (.mp (El l))) :
 AU P TB Γ ⟨d,.lookup t x y true,ty,pos,af,g⟩ f σ nx (.t [(false,[.d (.v (.int .i64 ((BT l s).getD 0)))]),(false,[.d (.v (.bool (BT l s).isSome))])]):=
 AF λV ρ F hi=>by
  have L:=F.get (by simp [Op.operands]) Q;have K:ρ y=.string ⟨s.toArray⟩:=Az.val (F.get (by simp [Op.operands]) N);generalize a:ρ x=v at L
  cases L with
  | mp hid =>
   obtain⟨Z,ents,clock,J,T⟩:=hi.st.obj id _ R;obtain⟨r,S,p⟩:=Jg s l ents.toList 0 T;have b:=M.out;simp only [kI] at b;obtain⟨i,A,z⟩:=b
   have u:(zeroValue e).run P V.w=.ok (.int .i64 0) V.w:=by simp [zeroValue,typeInfo,A,z,go_sem]
   have h:(Instr.findKey k (.string ⟨s.toArray⟩) ents.toList).run P V.w=.ok r V.w:=by simp [Instr.findKey,run_underlying hk.out,S,go_sem]
   have m:=IG hk.out ents.isEmpty ⟨s.toArray⟩ V.w;refine⟨.tuple #[.int .i64 ((BT l s).getD 0),.bool (BT l s).isSome],?_,⟨_,rfl,rfl,λj x v c a=>?_⟩⟩
   ·cases r with
    | none=>
     have B:BT l s=none:=by simpa using p.symm
     simp [execOp,a,K,Instr.lookup,run_underlying G.out,MapKept.run_getObj_map J,m,h,u,B,go_sem]
    | some q=>
     obtain⟨n,B,I⟩:∃n,BT l s=some n/\q.2=.int .i64 n:=by
      cases H:BT l s with
      | none=>rw [H] at p;simp at p
      | some n=>rw [H] at p;exact⟨n,rfl,by simpa using p⟩
     obtain⟨Y,X⟩:=q;simp only at I;subst I;simp [execOp,a,K,Instr.lookup,run_underlying G.out,MapKept.run_getObj_map J,m,h,B,go_sem]
   ·match j with
    | 0=>simp at c a;subst c;subst a;exact⟨_,rfl,.d (.v rfl)⟩
    | 1=>simp at c a;subst c;subst a;exact⟨_,rfl,.d (.v rfl)⟩
    | j+2=>simp at c
theorem cH{t k e:TypeId}{x y z:Operand}{id:Nat}{l:List (List UInt8×Int)}{s:List UInt8}{n:Int}[X:DJ P t k e][hk:CK P k](Q:ev f x=some (.o (.mp id)))(N:ev f y=some (eT s))(M:ev f z=some (eI .i64 n))(G:look σ id=some (.mp (El l)))
 (T:BT l s=none) (H:K (.t []) ((id,.mp (El (l++[(s,n)])))::σ) nx):BZ P TB Γ ⟨d,.mapUpdate t x y z,ty,pos,af,g⟩ f σ nx K:=by
 intro V a c J h3;have c:=c.FO;unfold Oper.wp;generalize a.eval=ρ at c |-;have L:=c.get (x:=x) (by simp [Op.operands]) Q;have e2:ρ y=.string ⟨s.toArray⟩:=Az.val (c.get (by simp [Op.operands]) N);have e3:ρ z=.int .i64 n:=Az.val (c.get (by simp [Op.operands]) M);generalize R:ρ x=v at L
 cases L with
 | mp hid=>
  obtain⟨m,ents,clock,F,B⟩:=J.st.obj id _ G;obtain⟨r,h6,I⟩:=Jg s l ents.toList 0 B;rw [T] at I
  have S:r=none:=by cases r with
   | none=>rfl
   | some q=>simp at I
  subst S
  have u:(Instr.findKey k (.string ⟨s.toArray⟩) ents.toList).run P V.w=.ok none V.w:=by simp [Instr.findKey,run_underlying hk.out,h6,go_sem]
  have A:=IG hk.out false ⟨s.toArray⟩ V.w
  let ob:Obj:=.map (ents.push { key:=.string ⟨s.toArray⟩,val:=.int .i64 n,born:=clock }) (clock+1)
  let w':World:={ V.w with heap:=V.w.heap.setIfInBounds (V.ρ id) ob }
  have h:=MapKept.run_setObj_map (P:=P) ob F;have p:=(kM.1 F).1
  obtain⟨hi,Z⟩:=J.write G m (w:=w') (ob':=.mp (El (l++[(s,n)]))) rfl rfl rfl rfl rfl (by simp [w']) (λb hb=>by simp [w',lJ,Ne.symm hb]) (by
   refine⟨m,ents.push { key:=.string ⟨s.toArray⟩,val:=.int .i64 n,born:=clock },clock+1,?_,?_⟩
   ·show w'.heap[V.ρ id]? = some ob
    simp [w',lJ,p]
   ·simp [El] at B |-
    exact B)
  have i:(execOp ρ ⟨d,.mapUpdate t x y z,ty,pos,af,g⟩).run P V.w=.ok .skip w':=by
   simp [execOp,R,e2,e3,Instr.mapUpdate,run_underlying X.out,MapKept.run_getObj_map F,A,u,h,ob,w',go_sem]
  rw [i];exact⟨{ V with w:=w' },.tuple #[],.t [],_,rfl,rfl,Z,hi,⟨#[],rfl,rfl,λj x v Y=>by simp at Y⟩,by rw [<-h3] at H;exact H⟩
end
section
variable {P:Program}{TB:Bp}
def T7(f:Env)(t:Tmp)(n:Nat):Option (Bool×List C):=match f t with
 | some (.o (.d (.p cs)))=>match Nat.beq cs.length n with
  | true=>some (true,cs.map .d)
  | false=>none
 | _=>none
def Zv(n:Nat)(rs:Array ResultVar)(f:Env):Option E:=match rs.toList with
 | [.cell t _]=>match T7 f t n with
  | some (_,cs)=>some (.a cs)
  | none=>none
 | [.cell t _,.tmp u]=>match T7 f t n,(f u).bind Rn with
  | some x,some y=>some (.t [x,y])
  | _,_=>none
 | _=>none
def fz(n:Nat)(rs:Array ResultVar)(post:E->Ab->Nat->Prop):Exit->Env->Ab->Nat->Prop
 | .ret,f,σ,nx|.normal,f,σ,nx=>∃x,Zv n rs f=some x/\post x σ nx
 | _,_,_,_=>False
theorem Ol{V:View}{f:Env}{a:Act}{t:Tmp}{T':TypeId}{n:Nat}{x:Bool×List C}(l:DH P T' true n)(u:DF V f a.tmps)(h:T7 f t n=some x) :
 ∃v,((do loadVar T' (<-asAddr (a.tmps.getD t undef))):Sem Value).run P V.w=.ok v V.w/\∃cs,x=(true,cs)/\A4 V (.a cs) v:=by
 unfold T7 at h;split at h
 ·rename_i ds s
  split at h
  ·rename_i i
   have i:=gt i
   injection h with h
   subst h;have e:Az V (.d (.p ds)) (a.tmps.getD t undef):=u t _ s;generalize B:a.tmps.getD t undef=A at e;obtain⟨e⟩:=e
   cases e with
   | @p _ b o vs hb z y=>
    refine⟨.agg ((List.range n).map λq=>vs q).toArray,?_,_,rfl,_,rfl,by simp [i],λj c v m g=>?_⟩
    ·have:(loadCells ⟨b,o,none⟩ n).run P V.w=.ok ((List.range n).map λq=>vs q).toArray V.w:=run_loadCells V.w _ n _ λq k=>by
      rw [BA];exact z q ds[q] (d7 (by omega))
     unfold loadCells at this;simp [asAddr,loadVar,(BL l.out V.w).1,(BL l.out V.w).2,this,go_sem]
    ·rw [d9,d6] at m
     obtain⟨dd,r,rfl⟩:=m
     have k:j < n:=by have:=(am.1 r).1;omega
     have:v=vs j:=by simpa [k] using g.symm
     subst this;exact .d (y j dd r)
  ·cases h
 ·cases h
theorem Zw{fn:Func}{V:View}{f:Env}{a:Act}{x:E}{T':TypeId}{n:Nat}{t:Tmp}(I:DH P T' true n)(p:fn.results.toList.head? = some (.cell t T'))(A:DF V f a.tmps)(h:Zv n fn.results f=some x):∃v,(results fn a.tmps).run P V.w=.ok v V.w/\A4 V x v:=by
 have key : ∀ l:List ResultVar,fn.results=l.toArray->l.head? = some (.cell t T')->Zv n l.toArray f=some x->∃v,(results fn a.tmps).run P V.w=.ok v V.w/\A4 V x v:=by
  intro l e c h;unfold Zv at h;simp only at h;split at h
  ·rename_i m T1
   simp at c;obtain⟨rfl,rfl⟩:=c;split at h
   ·rename_i b cs q
    injection h with h
    subst h;obtain⟨v,G,cs',k,B⟩:=Ol I A q
    injection k with k L
    subst L;refine⟨v,?_,B⟩
    have d:(results fn a.tmps).run P V.w=((do loadVar T1 (<-asAddr (a.tmps.getD m undef))):Sem Value).run P V.w:=by simp [results,e,-Array.getD_eq_getD_getElem?,go_sem]
    rw [d,G]
   ·cases h
  ·rename_i m T1 u
   simp at c;obtain⟨rfl,rfl⟩:=c;split at h
   ·rename_i N M q H
    injection h with h
    subst h;obtain⟨v,G,cs',k,B⟩:=Ol I A q;subst k;simp only [kI] at H;obtain⟨y,J,o⟩:=H;refine⟨.tuple #[v,a.tmps.getD u undef],?_,_,rfl,rfl,λj x v' g i=>?_⟩
    ·obtain⟨F,K,z,s⟩:∃F:ResultVar->Sem Value,results fn a.tmps=(do let vs <-fn.results.mapM F;pure (if h:vs.size=1 then vs[0] else .tuple vs))/\(F (.cell m T1)).run P V.w=.ok v V.w/\(F (.tmp u)).run P V.w=.ok (a.tmps.getD u undef) V.w:=
      ⟨λr=>match r with
       | .tmp t=>pure (a.tmps.getD t undef)
       | .cell b t=>do loadVar t (<-asAddr (a.tmps.getD b undef)),rfl,G,rfl⟩
     rw [K,e];simp [z,s,-Array.getD_eq_getD_getElem?,go_sem]
    ·match j with
     | 0=>simp at g i;subst g;subst i;exact B
     | 1=>simp at g i;subst g;subst i;exact Fm o (by simpa using A u y J)
     | j+2=>simp at g
   ·cases h
  ·cases h
 exact key fn.results.toList (by simp) p (by simpa using h)
theorem AS.ofM {g:FuncId} {fn:Func} {c:Code} {m:Nat} {σ:Ab} {nx:Nat} {args:List E} {post:E->Ab->Nat->Prop} (n:Nat) {t:Tmp} {T':TypeId} (F:m<=nx) [G:DH P T' true n] (u:P.funcs[g]? = some fn) (hb:fn.body=some c) (r:fn.results.toList.head? = some (.cell t T')) (f:(fn.name == "runtime.NumGoroutine")=false)
 (j:args.length<=fn.ntmps) (h:∀Γ:Ctx,Γ.V.nx=m->Aj P TB Γ fn.ntmps c (fz n fn.results post) (look (Ce 0 args)) σ nx):AS P TB g m σ nx args post:=by
 refine⟨⟨fn,u,f,by rw [hb];rfl⟩,?_⟩;intro V vs S p ha;refine calls_of_wp u hb ?_
 have I:vs.size<=fn.ntmps:=by rw [ha.1];exact j
 have hi:Inv TB (ED V (Ko V m) σ S) V σ:=
  ⟨rfl,rfl,rfl,λ_ _ _=>rfl,p.iLt,λ_ h=>.inl h,Un (by rw [p.nx];exact F),p.st,λid o B s b hb=>.inr (.inl ⟨id,o,B,s,hb⟩),p.tabs,⟨S,p.hid,λb hb=>.inl hb,λb hb=>.inr (.inr hb)⟩⟩
 have A:BV TB (ED V (Ko V m) σ S) fn.ntmps V (look (Ce 0 args)) σ nx { tmps:=vs++Array.replicate (fn.ntmps - vs.size) undef,defers:=[] } := by
  refine⟨?_,?_,by simp;omega,hi,p.nx,rfl⟩
  ·intro t e q
   obtain⟨_,a⟩:=Cu args 0 t e q
   have a:args[t]? = some e:=by simpa using a
   have i:t < vs.size:=by rw [ha.1];exact(am.1 a).1
   have H:=ha.2 t e vs[t] a (kK i)
   simpa [kS i,i] using H
  ·intro t e q
   obtain⟨_,a⟩:=Cu args 0 t e q
   have a:args[t]? = some e:=by simpa using a
   have:=(am.1 a).1;omega
 refine wp_mono (h (ED V (Ko V m) σ S) rfl V _ A) ?_;rintro e a' w' ⟨V',f',σ',rfl,k,d⟩
 have fin:(∃x,Zv n fn.results f'=some x/\post x σ' V'.nx)->a'.defers=[]/\∃v,(results fn a'.tmps).run P V'.w=.ok v V'.w/\∃V'' v' x σ'',Ending.returned v=.returned v'/\V''.w=V'.w/\Inv TB (ED V (Ko V m) σ S) V'' σ''/\A4 V'' x v'/\post x σ'' V''.nx:=by
  rintro⟨x,y,hp⟩;obtain⟨v,z,q⟩:=Zw (P:=P) G r d.env y;exact⟨d.defers,v,z,V',v,x,σ',rfl,rfl,d.inv,q,hp⟩
 cases e with
 | normal=>exact fin k
 | ret=>exact fin k
 | exit id=>exact k.elim
 | goto l=>exact k.elim
 | panic ch=>exact k.elim
 | outgrown=>exact k.elim
theorem AS.PQ{g:FuncId}{σ:Ab}{nx:Nat}{args:List E}{post:E->Ab->Nat->Prop}(h:AS P TB g nx σ nx args post):Spec P TB g σ nx args post:=
 ⟨h.1,λV vs S a ha=>(h.2 V vs S a ha).mono λ_ _ ⟨V',v,x,σ',i,f,e,d,c⟩=>⟨V',v,x,σ',i,f,by have b:=a.nx;subst b;exact e,d,c⟩⟩
end
class O2 (P:Program) (t:TypeId):Prop where
 out:P.underlying t=some .bool
theorem oA{p:Prop}[Decidable p]:(decide p=true)=p:=decide_eq_true_eq
theorem oB{p:Prop}[Decidable p]:decide p=false↔¬p:=decide_eq_false_iff_not
theorem oC{U β:Type}{l:List U}{f:U->β}:(l.map f).length=l.length:=gc f
theorem oD{U:Type}{l m:List U}:(l++m).length=l.length+m.length:=lf
theorem oE{U:Type}{n:Nat}{x:U}:(List.replicate n x).length=n:=List.length_replicate
theorem oF{U:Type}{x:U}{l:List U}:(x::l).length=l.length+1:=k8
theorem oG{U:Type}:([]:List U).length=0:=nk
theorem oZ:(∀(p:Prop) [Decidable p],(decide p=true)=p)/\(∀(p:Prop) [Decidable p],decide p=false↔¬p)/\(∀(U β:Type) (l:List U) (f:U->β),(l.map f).length=l.length)/\(∀(U:Type) (l m:List U),(l++m).length=l.length+m.length)/\(∀(U:Type) (n:Nat) (x:U),(List.replicate n x).length=n)/\(∀(U:Type) (x:U) (l:List U),(x::l).length=l.length+1)/\∀(U:Type),([]:List U).length=0:=
 ⟨λ_ _=>oA,λ_ _=>oB,λ_ _ _ _=>oC,λ_ _ _=>oD,λ_ _ _=>oE,λ_ _ _=>oF,λ_=>oG⟩
structure TI where
 ld:Option (Bool×Nat):=none
 ik:Option IntKind:=none
 st:Bool:=false
 sl:Option (Nat×Nat×Nat):=none
 ar:Option (Nat×Nat):=none
 fl:List (Option (Nat×Bool×Nat)):=[]
 pt:Bool:=false
 bo:Bool:=false
 ze:Option (List Value):=none
def P5(P:Program)(t:Nat):Nat->List (Option (Nat×Bool×Nat))->Prop
 | _,[]=>True
 | k,none::r=>P5 P t (k+1) r
 | k,some x::r=>(VF P t k=some x.1/\VG P t k=some x)/\P5 P t (k+1) r
structure Ea (P:Program) (t:Nat) (i:TI):Prop where
 ld:i.ld=none\/dF P t=i.ld
 ik:i.ik=none\/P.underlying t=i.ik.map .int
 st:i.st=false\/P.underlying t=some .string
 sl:i.sl=none\/eJ P t=i.sl
 ar:i.ar=none\/fF P t=i.ar
 fl:P5 P t 0 i.fl
 pt:i.pt=false\/∃e,P.underlying t=some (.pointer e)
 bo:i.bo=false\/P.underlying t=some .bool
 ze:i.ze=none\/WT P t=i.ze
def TK(P:Program):List (Nat×TI)->Prop
 | []=>True
 | (t,i)::r=>Ea P t i/\TK P r
def jO:Value->Value->Bool
 | .int k n,.int k' n'=>decide (k=k') && decide (n=n')
 | .bool a,.bool b=>decide (a=b)
 | .string ⟨⟨a⟩⟩,.string ⟨⟨b⟩⟩=>a.isEmpty && b.isEmpty
 | .slice none 0 0,.slice none 0 0=>true
 | .pointer none,.pointer none=>true
 | .map none,.map none=>true
 | .nilFunc,.nilFunc=>true
 | .nilIface,.nilIface=>true
 | _,_=>false
theorem eY:∀ {a b:Value},jO a b=true->a=b:=by
 intro a b h;unfold jO at h;split at h<;>simp_all
def iY:List Value->List Value->Bool
 | [],[]=>true
 | a::l,b::m=>jO a b && iY l m
 | _,_=>false
theorem ZY:∀ {l m:List Value},iY l m=true->l=m
 | [],[],_=>rfl
 | a::l,b::m,h=>by
  unfold iY at h;rw [d5] at h;rw [eY h.1,ZY h.2]
 | [],_::_,h=>by cases h
 | _::_,[],h=>by cases h
def fW(P:Program)(t:Nat):Nat->List (Option (Nat×Bool×Nat))->Bool
 | _,[]=>true
 | k,none::r=>fW P t (k+1) r
 | k,some x::r=>decide (VF P t k=some x.1) && decide (VG P t k=some x) && fW P t (k+1) r
theorem Su{P:Program}{t:Nat}:∀ {l:List (Option (Nat×Bool×Nat))} {k:Nat},fW P t k l=true->P5 P t k l
 | [],_,_=>trivial
 | none::r,k,h=>Su (l:=r) (k:=k+1) h
 | some x::r,k,h=>by
  unfold fW at h;simp only [d5,decide_eq_true_eq] at h;exact⟨h.1,Su h.2⟩
def j8(d:Option TypeDesc)(i:TI):Bool:=match d with
 | some (.int k)=>(match i.ik with|none=>true|some k'=>decide (k=k')) && !i.st && !i.pt && !i.bo
 | some .string=>i.ik.isNone && !i.pt && !i.bo
 | some (.pointer _)=>i.ik.isNone && !i.st && !i.bo
 | some .bool=>i.ik.isNone && !i.st && !i.pt
 | _=>i.ik.isNone && !i.st && !i.pt && !i.bo
def jI(P:Program)(t:Nat)(i:TI):Bool:=
 (i.ld.isNone || decide (dF P t=i.ld)) && (j8 (P.underlying t) i && ((i.sl.isNone || decide (eJ P t=i.sl)) && ((i.ar.isNone || decide (fF P t=i.ar)) && (fW P t 0 i.fl && match i.ze with
  | none=>true
  | some l=>match WT P t with
   | some l'=>iY l' l
   | none=>false))))
theorem or_none{U:Type}[DecidableEq U]{a b:Option U}(h:(b.isNone || decide (a=b))=true):b=none\/a=b:=by
 rw [kR] at h
 rcases h with h|h
 ·left;cases b<;>simp_all
 ·right;exact of_decide_eq_true h
theorem eO{P:Program}{t:Nat}{i:TI}(h:jI P t i=true):Ea P t i:=by
 unfold jI at h;simp only [d5] at h;obtain⟨o,f,n,m,j,b⟩:=h
 have a:(i.ik=none\/P.underlying t=i.ik.map .int)/\(i.st=false\/P.underlying t=some .string)/\(i.pt=false\/∃e,P.underlying t=some (.pointer e))/\(i.bo=false\/P.underlying t=some .bool):=by
  unfold j8 at f;split at f
  ·rename_i k hk
   cases g:i.ik<;>simp_all
  all_goals simp_all
 refine⟨or_none o,a.1,a.2.1,or_none n,or_none m,Su j,a.2.2.1,a.2.2.2,?_⟩;split at b
 ·rename_i d;exact .inl d
 ·rename_i l d
  split at b
  ·rename_i l' c
   right;rw [c,d,ZY b]
  ·cases b
def c6(P:Program):List (Nat×TI)->Bool
 | []=>true
 | (t,i)::r=>jI P t i && c6 P r
theorem TW{P:Program}:∀ {l:List (Nat×TI)},c6 P l=true->TK P l
 | [],_=>trivial
 | (t,i)::r,h=>by
  unfold c6 at h;rw [d5] at h;exact⟨eO h.1,TW h.2⟩
class CL (P:Program) where
 T:List (Nat×TI)
 ok:TK P T
def Ip:List (Nat×TI)->Nat->TI
 | [],_=>{}
 | (k,x)::r,t=>bif Nat.beq k t then x else Ip r t
def nth{U:Type}:List U->Nat->Option U
 | [],_=>none
 | x::_,0=>some x
 | _::r,n+1=>nth r n
theorem LO{U:Type}:∀(l:List U) (i:Nat),nth l i=l[i]?
 | [],_=>by simp [nth]
 | o::_,0=>by simp [nth]
 | _::r,n+1=>by simp [nth,LO r n]
theorem Dq{P:Program}(t:Nat):∀ {T:List (Nat×TI)},TK P T->Ea P t (Ip T t)
 | [],_=>⟨.inl rfl,.inl rfl,.inl rfl,.inl rfl,.inl rfl,trivial,.inl rfl,.inl rfl,.inl rfl⟩
 | (k,x)::r,h=>by
  unfold Ip;cases hb:Nat.beq k t
  ·exact Dq t h.2
  ·have:=gt hb
   subst this;exact h.1
section
variable {P:Program}{t:Nat}{i:TI}
theorem Ea.KV(h:Ea P t i){ag:Bool}{n:Nat}(e:i.ld=some (ag,n)):DH P t ag n:=⟨by rcases h.ld with h|h<;>simp_all⟩
theorem Ea.XL(h:Ea P t i){k:IntKind}(e:i.ik=some k):E4 P t k:=⟨by rcases h.ik with h|h<;>simp_all⟩
theorem Ea.XN(h:Ea P t i)(e:i.st=true):CK P t:=⟨by rcases h.st with h|h<;>simp_all⟩
theorem Ea.QD(h:Ea P t i){e k b:Nat}(a:i.sl=some (e,k,b)):Ci P t e k b:=⟨by rcases h.sl with h|h<;>simp_all⟩
theorem Ea.gd(h:Ea P t i){n k:Nat}(a:i.ar=some (n,k)):Of P t n k:=⟨by rcases h.ar with h|h<;>simp_all⟩
theorem Ea.XM(h:Ea P t i)(e:i.pt=true):Sc P t:=⟨h.pt.resolve_left (by simp [e])⟩
theorem Ea.aJ(h:Ea P t i)(e:i.bo=true):O2 P t:=⟨by rcases h.bo with h|h<;>simp_all⟩
theorem Ea.XO(h:Ea P t i){z:List Value}(e:i.ze=some z):BM P t z:=⟨by rcases h.ze with h|h<;>simp_all⟩
theorem P5.get:∀ {l:List (Option (Nat×Bool×Nat))} {k j:Nat} {x:Nat×Bool×Nat},P5 P t k l->nth l j=some (some x)->VF P t (k+j)=some x.1/\VG P t (k+j)=some x
 | [],_,_,_,_,h=>by simp [nth] at h
 | none::r,k,0,x,_,h=>by simp [nth] at h
 | some y::r,k,0,x,a,h=>by simp [nth] at h;subst h;exact a.1
 | none::r,k,j+1,x,a,h=>by
  have:=P5.get (l:=r) (k:=k+1) (j:=j) (x:=x) a h;rwa [show k+(j+1)=k+1+j by omega]
 | some y::r,k,j+1,x,a,h=>by
  have:=P5.get (l:=r) (k:=k+1) (j:=j) (x:=x) a.2 h;rwa [show k+(j+1)=k+1+j by omega]
theorem Ea.dw(h:Ea P t i){j off n:Nat}{ag:Bool}(e:nth i.fl j=some (some (off,ag,n))):O3 P t j off:=⟨by have:=(h.fl.get e).1;rwa [kG] at this⟩
theorem Ea.aM(h:Ea P t i){j off n:Nat}{ag:Bool}(e:nth i.fl j=some (some (off,ag,n))):Lu P t j off ag n:=⟨by have:=(h.fl.get e).2;rwa [kG] at this⟩
end
def Fz(P:Program)(TB:Bp)(Γ:Ctx)(ops:Array Oper)(o:Oper)(fl:Fl)(i n:Nat)(K:Env->Ab->Nat->Prop)(L:List (Nat×E))(σ:Ab)(nx:Nat):Prop:=
 Bk ops o (look L)=some true->Br P TB Γ ops o fl i n K L σ nx
def xE:Bool×List C->Option E
 | (false,[c])=>some (.o c)
 | (true,cs)=>some (.a cs)
 | _=>none
def jn(f:Env):Op->Option E
 | .move x=>ev f x
 | .pick c x y=>match ev f c with
  | some (.o (.d (.v (.bool true))))=>ev f x
  | some (.o (.d (.v (.bool false))))=>ev f y
  | _=>none
 | .extract x k=>match ev f x with
  | some (.t xs)=>(xs[k]?).bind xE
  | _=>none
 | .nilCheck x=>match ev f x with
  | some (.o (.d (.p cs)))=>some (.o (.ip cs))
  | some (.o (.ptr id k i j))=>some (.o (.ptr id k i j))
  | some (.o (.fn gg cs))=>some (.o (.fn gg cs))
  | _=>none
 | _=>none
def fj:IntKind->IntKind->Bool
 | .i64,.i64|.u8,.u8|.u64,.u64|.i32,.i32|.u16,.u16|.u32,.u32=>true
 | _,_=>false
theorem Mw{a b:IntKind}(h:fj a b=true):a=b:=by cases a<;>cases b<;>first|rfl|cases h
def fO(o:BinOp)(m n:Int):Option Bool:=match o with
 | .lss=>some (decide (m < n))
 | .leq=>some (decide (m<=n))
 | .gtr=>some (decide (m > n))
 | .geq=>some (decide (m>=n))
 | .eql=>some (decide (m=n))
 | .neq=>some (decide (m≠n))
 | _=>none
def fN(o:BinOp)(a b:List UInt8):Option Bool:=match o with
 | .eql=>some (decide (a=b))
 | .neq=>some (decide (a≠b))
 | _=>none
def de(o:BinOp):E->E->Option Bool
 | .o (.d (.v (.int k m))),.o (.d (.v (.int k' n)))=>match fj k k' with
  | true=>fO o m n
  | false=>none
 | .o (.d (.v (.string ⟨⟨a⟩⟩))),.o (.d (.v (.string ⟨⟨b⟩⟩)))=>fN o a b
 | _,_=>none
def Wz:IntKind->Int->Option Prop
 | .i64,m=>some (-9223372036854775808<=m/\m<=9223372036854775807)
 | .u64,m=>some (0<=m/\m<=18446744073709551615)
 | .u8,m=>some (0<=m/\m<=255)
 | .i32,m=>some (-2147483648<=m/\m<=2147483647)
 | _,_=>none
def jT(o:BinOp)(k:IntKind)(m n:Int):Option (Prop×E):=match o with
 | .add=>(Wz k (m+n)).map λq=>(q,eI k (m+n))
 | .sub=>(Wz k (m - n)).map λq=>(q,eI k (m - n))
 | .mul=>(Wz k (m*n)).map λq=>(q,eI k (m*n))
 | .rem=>some (0<=m/\0 < n,eI k (m % n))
 | .and=>some (True,eI k (Ew k m n))
 | .or=>some (True,eI k (VI k m n))
 | _=>none
def je(o:BinOp):E->E->Option (Prop×E)
 | .o (.d (.v (.int k m))),.o (.d (.v (.int k' n)))=>match o with
  | .shr=>some (0<=n,eI k (m.fdiv (2 ^ (min n.toNat k.bits))))
  | .quo=>match fj k .i64,fj k' .i64 with
   | true,true=>some ((0<=m/\m<=9223372036854775807)/\0 < n,eI .i64 (m / n))
   | _,_=>none
  | o=>match fj k k' with
   | true=>jT o k m n
   | false=>none
 | .o (.d (.v (.string ⟨⟨a⟩⟩))),.o (.d (.v (.string ⟨⟨b⟩⟩)))=>match o with
  | .add=>some (a.length+b.length<=9223372036854775807,eT (a++b))
  | _=>none
 | _,_=>none
def dq(off:Nat):E->Option E
 | .o (.d (.p cs))=>some (.o (.ip (cs.drop off)))
 | .o (.ptr id k i j)=>some (.o (.ptr id k i (j+off)))
 | _=>none
def jt(ag:Bool)(n:Nat):E->Option E
 | .o (.d (.p cs))=>match ag,cs with
  | false,c::_=>some (.o (.d c))
  | true,cs=>match Nat.ble n cs.length with
   | true=>some (.a ((cs.take n).map .d))
   | false=>none
  | _,_=>none
 | _=>none
def dG(ag:Bool)(n j:Nat)(r:List C):Option E:=match ag with
 | false=>(r[j]?).map .o
 | true=>match Nat.ble (j+n) r.length with
  | true=>some (.a ((r.drop j).take n))
  | false=>none
def jq(ag:Bool)(off n:Nat)(cs:List C):Option E:=match ag with
 | false=>(cs[off]?).map .o
 | true=>match Nat.ble (off+n) cs.length with
  | true=>some (.a ((cs.drop off).take n))
  | false=>none
def js(k:Nat)(n:Int):E->Option E
 | .o (.d (.p cs))=>some (.o (.ip (cs.drop (n.toNat*k))))
 | .o (.ptr id k' i j)=>some (.o (.ptr id k' i (j+n.toNat*k)))
 | _=>none
def ju(k:Nat):E->Option E
 | .o (.d (.l rows))=>some (eI .i64 rows.length)
 | .o (.arr _ k' _ len)=>match Nat.beq k' k with
  | true=>some (eI .i64 len)
  | false=>none
 | _=>none
def tr:Option E->Option (Prop×E)
 | some e=>some (True,e)
 | none=>none
def dQ:Bool->E->E->Option (Prop×E)
 | true,.o (.d (.p _)),.o (.d (.v (.pointer none)))=>some (True,eB false)
 | true,.o (.d (.v (.pointer none))),.o (.d (.v (.pointer none)))=>some (True,eB true)
 | _,_,_=>none
def fL(pt:Bool)(o:BinOp)(a b:E):Option (Prop×E):=match o with
 | .eql=>dQ pt a b
 | o=>je o a b
def dA(i:TI):E->E->Option (Prop×E)
 | .o (.arr id k off len),.o (.d (.v (.int _ m)))=>match i.sl with
  | some (_,k',_)=>match Nat.beq k k' with
   | true=>some (0<=m/\m < len,.o (.ptr id k (off+m.toNat) 0))
   | false=>none
  | none=>none
 | a, .o (.d (.v (.int _ m)))=>match i.ar with
  | some (len,k)=>match js k m a with
   | some e=>some (0<=m/\m < len,e)
   | none=>none
  | none=>none
 | _,_=>none
def dI(i:TI):E->Option E
 | .o (.d (.v (.string ⟨⟨s⟩⟩)))=>match i.st with
  | true=>some (eI .i64 s.length)
  | false=>none
 | e=>match i.sl with
  | some (_,k,_)=>ju k e
  | none=>none
def df(k k':IntKind):E->Option (Prop×E)
 | .o (.d (.v (.int a m)))=>match fj a k,Wz k' m with
  | true,some q=>some (q,eI k' m)
  | _,_=>none
 | _=>none
def Zp(T:List (Nat×TI))(md:Bool)(f:Env):Op->Option (Prop×E)
 | .assign x=>match md,notNil x with
  | true,false=>none
  | _,_=>tr (ev f x)
 | .binOp o t x y _=>match ev f x,ev f y with
  | some a,some b=>fL (Ip T t).pt o a b
  | _,_=>none
 | .fieldAddr s x k=>match nth (Ip T s).fl k,ev f x with
  | some (some (off,_,_)),some a=>tr (dq off a)
  | _,_=>none
 | .field t x k=>match nth (Ip T t).fl k,ev f x with
  | some (some (off,ag,n)),some (.a cs)=>tr (jq ag off n cs)
  | _,_=>none
 | .load t x=>match (Ip T t).ld,ev f x with
  | some (ag,n),some a=>tr (jt ag n a)
  | _,_=>none
 | .indexAddr t x y=>match ev f x,ev f y with
  | some a,some b=>dA (Ip T t) a b
  | _,_=>none
 | .call ⟨.builtin .len,⟨[x]⟩,⟨[t]⟩⟩=>match ev f x with
  | some a=>tr (dI (Ip T t) a)
  | none=>none
 | .convert s t x=>match (Ip T s).ik,(Ip T t).ik,ev f x with
  | some k,some k',some a=>df k k' a
  | _,_,_=>none
 | .makeFunc (.func gg) ⟨[]⟩ caps=>match HS f caps.toList with
  | some es=>match ZS es with
   | some cs=>some (True,.o (.fn gg cs))
   | none=>none
  | none=>none
 | op=>tr (jn f op)
def jU:BinOp->E->E->Option Bool
 | .eql,.o (.d (.v (.bool a))),.o (.d (.v (.bool b)))=>some (a == b)
 | .neq,.o (.d (.v (.bool a))),.o (.d (.v (.bool b)))=>some (a != b)
 | _,_,_=>none
def Ry(T:List (Nat×TI))(f:Env):Op->Option Bool
 | .binOp o t x y _=>match ev f x,ev f y with
  | some a,some b=>match (Ip T t).bo with
   | true=>jU o a b
   | false=>de o a b
  | _,_=>none
 | .unOp .not _ x=>match ev f x with
  | some (.o (.d (.v (.bool b))))=>some (!b)
  | _=>none
 | _=>none
def Ld(T:List (Nat×TI))(σ:Ab)(f:Env):Op->Option E
 | .load t x=>match (Ip T t).ld,ev f x with
  | some (ag,n),some (.o (.ptr id k i j))=>match look σ id with
   | some (.cells _ k' rows)=>match Nat.beq k k',nth rows i with
    | true,some r=>dG ag n j r
    | _,_=>none
   | _=>none
  | _,_=>none
 | _=>none
def OP(T:List (Nat×TI))(σ:Ab)(f:Env)(t:Nat)(x y:Operand):Option Ab:=
 match (Ip T t).ld,ev f x,ev f y with
 | some (_,n),some (.o (.ptr id k i j)),some e=>match look σ id with
  | some (.cells ct k' rows)=>match Nat.beq k k',nth rows i with
   | true,some r=>match Qs e,Nat.beq (eC e).length n,Nat.ble (j+n) k with
    | true,true,true=>some ((id,.cells ct k (rows.set i (Af r j (eC e))))::σ)
    | _,_,_=>none
   | _,_=>none
  | _=>none
 | _,_,_=>none
section
variable {P:Program}{TB:Bp}{Γ:Ctx}{d:Option Tmp}{ty:TypeId}{pos:String}{af:Array Edge}{g:Option (Nat×Bool)}{f:Env}{σ:Ab}{nx:Nat}
theorem UP{t:TypeId}{a b:Bool}(c:P.underlying t=some .bool)(w:World):(Op.equal t (.bool a) (.bool b)).run P w=.ok (a == b) w:=by
 unfold Op.equal Op.maxDepth;rw [show 10000=9999+1 from rfl,Op.equalIn];simp [run_underlying c,go_sem]
theorem gF{t yt:TypeId}{x y:Operand}{a b:Bool}[hp:O2 P t](e:ev f x=some (eB a))(c:ev f y=some (eB b)):AU P TB Γ ⟨d,.binOp .eql t x y yt,ty,pos,af,g⟩ f σ nx (eB (a == b)):=
 BB e c rfl λw=>by
  have i:binOp .eql t (.bool a) (.bool b)=(do pure (.bool (<-Op.equal t (.bool a) (.bool b)))):=rfl;have h:eqGuard .eql t x y (.bool a) (.bool b)=pure ():=rfl;rw [i,h];simp [UP hp.out w,go_sem]
theorem gU{t yt:TypeId}{x y:Operand}{a b:Bool}[hp:O2 P t](e:ev f x=some (eB a))(c:ev f y=some (eB b)):AU P TB Γ ⟨d,.binOp .neq t x y yt,ty,pos,af,g⟩ f σ nx (eB (a != b)):=
 BB e c rfl λw=>by
  have i:binOp .neq t (.bool a) (.bool b)=(do pure (.bool (!(<-Op.equal t (.bool a) (.bool b))))):=rfl;have h:eqGuard .neq t x y (.bool a) (.bool b)=pure ():=rfl;rw [i,h];simp [UP hp.out w,go_sem,bne]
theorem kt{op:Op}{e:E}(h:jn f op=some e):AU P TB Γ ⟨d,op,ty,pos,af,g⟩ f σ nx e:=by
 unfold jn at h;split at h
 ·exact ep h
 ·split at h
  ·rename_i a;exact bK a h
  ·rename_i a;exact bJ a h
  ·cases h
 ·split at h
  ·rename_i a
   refine Ws a ?_;rw [<-h];congr 1
  ·cases h
 ·split at h
  ·rename_i a;injection h with h;subst h;exact bI a
  ·rename_i a;injection h with h;subst h;exact er a
  ·rename_i a;injection h with h;subst h;exact bH a
  ·cases h
 ·cases h
theorem gE{o:BinOp}{t yt:TypeId}{x y:Operand}{ex ey:E}{c:Bool}(e:ev f x=some ex)(b:ev f y=some ey)(a:de o ex ey=some c) :
 AU P TB Γ ⟨d,.binOp o t x y yt,ty,pos,af,g⟩ f σ nx (eB c):=by
 unfold de at a;split at a
 ·split at a
  ·rename_i hk
   have hk:=Mw hk;subst hk;unfold fO at a
   split at a<;>first|(injection a with a;subst a)|cases a
   ·exact gT e b
   ·exact gR e b
   ·exact gO e b
   ·exact gM e b
   ·exact gK e b
   ·exact gX e b
  ·cases a
 ·unfold fN at a
  split at a<;>first|(injection a with a;subst a)|cases a
  ·exact gH e b
  ·exact gV e b
 ·cases a
theorem PJ{k:IntKind}{m:Int}{q:Prop}(h:Wz k m=some q)(a:q):k.wrap m=m:=by
 unfold Wz at h
 split at h<;>first|(injection h with h;subst h)|cases h
 ·exact IntWalk.i64_in _ a
 ·exact IntWalk.u64_in _ a
 ·exact IntWalk.u8_in _ a
 ·exact IntWalk.i32_in _ a
theorem jz{o:BinOp}{t yt:TypeId}{x y:Operand}{ex ey e:E}{q:Prop}(j:ev f x=some ex)(i:ev f y=some ey)(a:je o ex ey=some (q,e))(h:q) :
 AU P TB Γ ⟨d,.binOp o t x y yt,ty,pos,af,g⟩ f σ nx e:=by
 unfold je at a;split at a
 ·split at a
  ·injection a with a;injection a with c b;subst c;subst b;exact g9 j i h rfl
  ·split at a
   ·rename_i hk k
    have hk:=Mw hk;have k:=Mw k;subst hk;subst k
    injection a with a;injection a with c b;subst c;subst b;exact ew j i h.1.1 h.1.2 h.2
   ·cases a
  ·split at a
   ·rename_i hk
    have hk:=Mw hk;subst hk;unfold jT at a;split at a
    ·obtain⟨q',l,m⟩:=d6.1 a
     injection m with c b;subst c;subst b;exact gC j i (PJ l h)
    ·obtain⟨q',l,m⟩:=d6.1 a
     injection m with c b;subst c;subst b;exact hO j i (PJ l h)
    ·obtain⟨q',l,m⟩:=d6.1 a
     injection m with c b;subst c;subst b;exact cK j i (PJ l h)
    ·injection a with a;injection a with c b;subst c;subst b;exact ez j i h.1 h.2
    ·injection a with a;injection a with c b;subst b;exact gD j i rfl
    ·injection a with a;injection a with c b;subst b;exact eu j i rfl
    ·cases a
   ·cases a
 ·split at a
  ·injection a with a;injection a with c b;subst c;subst b;exact cJ j i h
  ·cases a
 ·cases a
theorem gL{s k off:Nat}{x:Operand}{ex e:E}[b:O3 P s k off](a:ev f x=some ex)(h:dq off ex=some e):AU P TB Γ ⟨d,.fieldAddr s x k,ty,pos,af,g⟩ f σ nx e:=by
 unfold dq at h
 split at h<;>first|(injection h with h;subst h)|cases h
 ·exact Wt a
 ·exact YY a
theorem jD{t:TypeId}{x:Operand}{ex e:E}{ag:Bool}{n:Nat}[b:DH P t ag n](a:ev f x=some ex)(h:jt ag n ex=some e):AU P TB Γ ⟨d,.load t x,ty,pos,af,g⟩ f σ nx e:=by
 unfold jt at h;split at h
 ·split at h
  ·injection h with h;subst h;exact Ru a
  ·split at h
   ·rename_i hb;injection h with h;subst h;exact Wv a (ce hb)
   ·cases h
  ·cases h
 ·cases h
theorem Rt{t:TypeId}{x:Operand}{id k i j:Nat}{T:TypeId}{rows:List (List C)}{r:List C}{e:E}{ag:Bool}{n:Nat}[q:DH P t ag n](a:ev f x=some (.o (.ptr id k i j)))(l:look σ id=some (.cells T k rows))(b:rows[i]? = some r)
 (h:dG ag n j r=some e):AU P TB Γ ⟨d,.load t x,ty,pos,af,g⟩ f σ nx e:=by
 unfold dG at h;split at h
 ·obtain⟨c,p,m⟩:=d6.1 h
  subst m;exact PD a l b p
 ·split at h
  ·rename_i hb;injection h with h;subst h;exact Zd a l b (ce hb)
  ·cases h
theorem jB{t:TypeId}{x:Operand}{k off n:Nat}{ag:Bool}{cs:List C}{e:E}[l:Lu P t k off ag n](b:ev f x=some (.a cs))(h:jq ag off n cs=some e):AU P TB Γ ⟨d,.field t x k,ty,pos,af,g⟩ f σ nx e:=by
 unfold jq at h;split at h
 ·obtain⟨c,j,i⟩:=d6.1 h
  subst i;exact bC b j
 ·split at h
  ·rename_i hb;injection h with h;subst h;exact YX b (ce hb)
  ·cases h
theorem jC{t:TypeId}{x y:Operand}{ex e:E}{n:Int}{len k:Nat}{ik:IntKind}[i:Of P t len k](c:ev f x=some ex)(b:ev f y=some (eI ik n))(h:js k n ex=some e)(a:0<=n/\n < len) :
 AU P TB Γ ⟨d,.indexAddr t x y,ty,pos,af,g⟩ f σ nx e:=by
 unfold js at h
 split at h<;>first|(injection h with h;subst h)|cases h
 ·exact Wu c b a.1 a.2
 ·exact Y7 c b a.1 a.2
theorem gP{t e:TypeId}{x:Operand}{ex r:E}{k b:Nat}[c:Ci P t e k b](a:ev f x=some ex)(h:ju k ex=some r):AU P TB Γ ⟨d,.call ⟨.builtin .len,#[x],#[t]⟩,ty,pos,af,g⟩ f σ nx r:=by
 unfold ju at h;split at h
 ·injection h with h;subst h;exact Zb a
 ·split at h
  ·injection h with h;subst h;exact Za a
  ·cases h
 ·cases h
theorem KI{x:Option E}{q:Prop}{e:E}(h:tr x=some (q,e)):x=some e:=by
 cases x with
 | none=>cases h
 | some y=>injection h with h;injection h with _ h;rw [h]
theorem dJ{i:TI}{t:TypeId}{x:Operand}{a e:E}(hi:Ea P t i)(c:ev f x=some a)(h:dI i a=some e):AU P TB Γ ⟨d,.call ⟨.builtin .len,#[x],#[t]⟩,ty,pos,af,g⟩ f σ nx e:=by
 unfold dI at h;split at h
 ·split at h
  ·rename_i b
   injection h with h;subst h
   haveI:=hi.XN b;exact eo c
  ·cases h
 ·split at h
  ·rename_i b
   haveI:=hi.QD b;exact gP c h
  ·cases h
theorem dD{i:TI}{t:TypeId}{x y:Operand}{a b e:E}{q:Prop}(hi:Ea P t i)(n:ev f x=some a)(m:ev f y=some b)(h:dA i a b=some (q,e))(j:q):AU P TB Γ ⟨d,.indexAddr t x y,ty,pos,af,g⟩ f σ nx e:=by
 unfold dA at h;split at h
 ·split at h
  ·rename_i c
   split at h
   ·rename_i hk
    injection h with h;injection h with l k;subst l;subst k
    have:=gt hk;subst this;haveI:=hi.QD c;exact YZ n m j.1 j.2
   ·cases h
  ·cases h
 ·split at h
  ·rename_i c
   split at h
   ·rename_i o
    injection h with h;injection h with l k;subst l;subst k
    haveI:=hi.gd c;exact jC n m o j
   ·cases h
  ·cases h
 ·cases h
theorem dR{i:TI}{t yt:TypeId}{x y:Operand}{a b e:E}{q:Prop}(hi:Ea P t i)(k:ev f x=some a)(j:ev f y=some b)(h:dQ i.pt a b=some (q,e)):AU P TB Γ ⟨d,.binOp .eql t x y yt,ty,pos,af,g⟩ f σ nx e:=by
 unfold dQ at h;split at h
 ·rename_i hp
  injection h with h;injection h with l c;subst c
  haveI:=hi.XM hp;exact Wq k j
 ·rename_i hp
  injection h with h;injection h with l c;subst c
  haveI:=hi.XM hp;exact Te k j
 ·cases h
theorem dg{i i':TI}{s t:TypeId}{k k':IntKind}{x:Operand}{a e:E}{q:Prop}(hi:Ea P s i)(c:Ea P t i')(hk:i.ik=some k)(b:i'.ik=some k')(l:ev f x=some a)(h:df k k' a=some (q,e))(n:q):AU P TB Γ ⟨d,.convert s t x,ty,pos,af,g⟩ f σ nx e:=by
 unfold df at h;split at h
 ·split at h
  ·rename_i j m
   injection h with h;injection h with p o;subst p;subst o
   have j:=Mw j;subst j;haveI:=hi.XL hk;haveI:=c.XL b;exact PB l (PJ m n)
  ·cases h
 ·cases h
theorem UL[n:CL P]{md:Bool}{op:Op}{q:Prop}{e:E}(h:Zp n.T md f op=some (q,e))(i:q):AU P TB Γ ⟨d,op,ty,pos,af,g⟩ f σ nx e:=by
 have a:=λt=>Dq (P:=P) t n.ok;unfold Zp at h;split at h
 ·split at h
  ·cases h
  ·exact Jz (KI h)
 ·rename_i o t x y yt
  split at h
  ·rename_i b c
   unfold fL at h;split at h
   ·exact dR (a t) b c h
   ·exact jz b c h i
  ·cases h
 ·rename_i s x k
  split at h
  ·rename_i j b
   haveI:=(a s).dw j;exact gL b (KI h)
  ·cases h
 ·rename_i t x k
  split at h
  ·rename_i j b
   haveI:=(a t).aM j;exact jB b (KI h)
  ·cases h
 ·rename_i t x
  split at h
  ·rename_i p b
   haveI:=(a t).KV p;exact jD b (KI h)
  ·cases h
 ·rename_i t x y
  split at h
  ·rename_i b c
   exact dD (a t) b c h i
  ·cases h
 ·rename_i x t
  split at h
  ·rename_i b
   exact dJ (a t) b (KI h)
  ·cases h
 ·rename_i s t x
  split at h
  ·rename_i m l b
   exact dg (a s) (a t) m l b h i
  ·cases h
 ·split at h
  ·rename_i m
   split at h
   ·rename_i l
    injection h with h;injection h with _ h;subst h
    exact jA m l
   ·cases h
  ·cases h
 ·exact kt (KI h)
theorem Rz[i:CL P]{op:Op}{c:Bool}(h:Ry i.T f op=some c):AU P TB Γ ⟨d,op,ty,pos,af,g⟩ f σ nx (eB c):=by
 have e:=λt=>Dq (P:=P) t i.ok;unfold Ry at h;split at h
 ·rename_i o t x y yt
  split at h
  ·rename_i a b
   split at h
   ·rename_i hb
    haveI:=(e t).aJ hb;unfold jU at h;split at h
    ·injection h with h;subst h;exact gF a b
    ·injection h with h;subst h;exact gU a b
    ·cases h
   ·exact gE a b h
  ·cases h
 ·split at h
  ·rename_i a
   injection h with h;subst h
   exact gY a
  ·cases h
 ·cases h
theorem Nd[c:CL P]{op:Op}{e:E}(h:Ld c.T σ f op=some e):AU P TB Γ ⟨d,op,ty,pos,af,g⟩ f σ nx e:=by
 have a:=λt=>Dq (P:=P) t c.ok;unfold Ld at h;split at h
 ·rename_i t x
  split at h
  ·rename_i k i
   split at h
   ·rename_i j
    split at h
    ·rename_i hk b
     have hk:=gt hk;subst hk;haveI:=(a t).KV k;rw [LO] at b;exact Rt i j b h
    ·cases h
   ·cases h
  ·cases h
 ·cases h
theorem Nf[c:CL P]{t:TypeId}{x y:Operand}{σ':Ab}{K:E->Ab->Nat->Prop}(h:OP c.T σ f t x y=some σ')(l:K (.t []) σ' nx):BZ P TB Γ ⟨d,.store t x y,ty,pos,af,g⟩ f σ nx K:=by
 have a:=λt=>Dq (P:=P) t c.ok;unfold OP at h;split at h
 ·rename_i k i e
  split at h
  ·rename_i j
   split at h
   ·rename_i hk b
    split at h
    ·rename_i o n m
     have hk:=gt hk;subst hk;haveI:=(a t).KV k;rw [LO] at b
     injection h with h
     subst h;exact DQ i e o j b (gt n) (ce m) l
    ·cases h
   ·cases h
  ·cases h
 ·cases h
end
section
variable {P:Program}{TB:Bp}{Γ:Ctx}{ops:Array Oper}{fl:Fl}{i n:Nat}{L:List (Nat×E)}{σ:Ab}{nx:Nat}{K:Env->Ab->Nat->Prop}{d:Tmp}{ty:TypeId}{pos:String}{af:Array Edge}{g:Option (Nat×Bool)}{op:Op}
theorem gA{d:Option Tmp}(a:Bk ops ⟨d,op,ty,pos,af,g⟩ (look L)=some true)(h:Fz P TB Γ ops ⟨d,op,ty,pos,af,g⟩ fl i n K L σ nx):Br P TB Γ ops ⟨d,op,ty,pos,af,g⟩ fl i n K L σ nx:=h a
theorem gS{x:E}(a:∀σ nx,AU P TB Γ ⟨some d,op,ty,pos,af,g⟩ (look L) σ nx x)(h:Lex P TB Γ ops (Ai fl (i+1) n) K (look ((d,x)::L)) σ nx):Fz P TB Γ ops ⟨some d,op,ty,pos,af,g⟩ fl i n K L σ nx:=λb=>Dg a b h
theorem gQ{x:E}(a:AU P TB Γ ⟨some d,op,ty,pos,af,g⟩ (look L) σ nx x)(c:Qg (fl i)=true)(h:Lex P TB Γ ops (Ai fl (i+1) n) K (look ((d,x)::L)) σ nx):Fz P TB Γ ops ⟨some d,op,ty,pos,af,g⟩ fl i n K L σ nx:=λb=>eb a b c h
theorem gB{c:Bool}(a:∀σ nx,AU P TB Γ ⟨some d,op,ty,pos,af,g⟩ (look L) σ nx (eB c))(h:∀b,c=b->Lex P TB Γ ops (Ai fl (i+1) n) K (look ((d,eB b)::L)) σ nx):Fz P TB Γ ops ⟨some d,op,ty,pos,af,g⟩ fl i n K L σ nx:=λe=>Wk a e h
theorem gW(h:BZ P TB Γ ⟨some d,op,ty,pos,af,g⟩ (look L) σ nx (λx σ' nx'=>Lex P TB Γ ops (Ai fl (i+1) n) K (look ((d,x)::L)) σ' nx'))(b:fl i=1):Fz P TB Γ ops ⟨some d,op,ty,pos,af,g⟩ fl i n K L σ nx:=λa=>Io h a b
theorem jW(h:BZ P TB Γ ⟨none,op,ty,pos,af,g⟩ (look L) σ nx (λ_ σ' nx'=>Lex P TB Γ ops (Ai fl (i+1) n) K (look L) σ' nx'))(b:fl i=1):Fz P TB Γ ops ⟨none,op,ty,pos,af,g⟩ fl i n K L σ nx:=λa=>Fo h a b
theorem yQ{md:Bool}[b:CL P]{q:Prop}{x:E}(h:Zp b.T md (look L) op=some (q,x))(a:q)(hk:Lex P TB Γ ops (Ai fl (i+1) n) K (look ((d,x)::L)) σ nx):Fz P TB Γ ops ⟨some d,op,ty,pos,af,g⟩ fl i n K L σ nx:=gS (λ_ _=>UL h a) hk
theorem yB[a:CL P]{c:Bool}(h:Ry a.T (look L) op=some c)(hk:∀b,c=b->Lex P TB Γ ops (Ai fl (i+1) n) K (look ((d,eB b)::L)) σ nx):Fz P TB Γ ops ⟨some d,op,ty,pos,af,g⟩ fl i n K L σ nx:=gB (λ_ _=>Rz h) hk
theorem yS[b:CL P]{x:E}(h:Ld b.T σ (look L) op=some x)(a:Qg (fl i)=true)(hk:Lex P TB Γ ops (Ai fl (i+1) n) K (look ((d,x)::L)) σ nx):Fz P TB Γ ops ⟨some d,op,ty,pos,af,g⟩ fl i n K L σ nx:=gQ (Nd h) a hk
theorem yW[b:CL P]{t:TypeId}{x y:Operand}{σ':Ab}(h:OP b.T σ (look L) t x y=some σ')(a:fl i=1)(hk:Lex P TB Γ ops (Ai fl (i+1) n) K (look L) σ' nx):Fz P TB Γ ops ⟨none,.store t x y,ty,pos,af,g⟩ fl i n K L σ nx:=jW (Nf h hk) a
theorem yO[b:CL P]{T:TypeId}{z:List Value}(h:(Ip b.T T).ze=some z)(a:z.all NK=true)(c:fl i=1)(e:Lex P TB Γ ops (Ai fl (i+1) n) K (look ((d,.o (.ptr nx z.length 0 0))::L)) ((nx,.cells T z.length [z.map zC])::σ) (nx+1)):Fz P TB Γ ops ⟨some d,.alloc T,ty,pos,af,g⟩ fl i n K L σ nx:=
 haveI:=(Dq (P:=P) T b.ok).XO h
 gW (bk a e) c
theorem yM[a:CL P]{t:TypeId}{x:Operand}{id k i' j:Nat}{T:TypeId}{rows:List (List C)}{r:List C}{e:E}{ag:Bool}{m:Nat}(b:ev (look L) x=some (.o (.ptr id k i' j)))(f:look σ id=some (.cells T k rows))(c:rows[i']? = some r)(l:(Ip a.T t).ld=some (ag,m))
 (h:dG ag m j r=some e) (p:Qg (fl i)=true) (hk:Lex P TB Γ ops (Ai fl (i+1) n) K (look ((d,e)::L)) σ nx):Fz P TB Γ ops ⟨some d,.load t x,ty,pos,af,g⟩ fl i n K L σ nx:=
 haveI:=(Dq (P:=P) t a.ok).KV l
 gQ (Rt b f c h) p hk
theorem yV[b:CL P]{t:TypeId}{x y:Operand}{id k i' j m:Nat}{T:TypeId}{rows:List (List C)}{r:List C}{e:E}{ag:Bool}(d:ev (look L) x=some (.o (.ptr id k i' j)))(c:ev (look L) y=some e)(h:Qs e=true)(a:look σ id=some (.cells T k rows))(f:rows[i']? = some r)
 (p:(Ip b.T t).ld=some (ag,m)) (l:(eC e).length=m) (q:Nat.ble (j+m) k=true) (s:fl i=1) (hk:Lex P TB Γ ops (Ai fl (i+1) n) K (look L) ((id,.cells T k (rows.set i' (Af r j (eC e))))::σ) nx):Fz P TB Γ ops ⟨none,.store t x y,ty,pos,af,g⟩ fl i n K L σ nx:=
 haveI:=(Dq (P:=P) t b.ok).KV p
 jW (DQ d c h a f l (ce q) hk) s
theorem ky[a:CL P]{U:Type}{t e:TypeId}{x:Operand}{l:List U}{h:U->List D}{k b:Nat}(c:ev (look L) x=some (.o (.d (.l (l.map h)))))(f:(Ip a.T t).sl=some (e,k,b))(hk:Lex P TB Γ ops (Ai fl (i+1) n) K (look ((d,eI .i64 l.length)::L)) σ nx):Fz P TB Γ ops ⟨some d,.call ⟨.builtin .len,#[x],#[t]⟩,ty,pos,af,g⟩ fl i n K L σ nx:=
 haveI:=(Dq (P:=P) t a.ok).QD f
 gS (λ_ _=>ei c) hk
theorem yL[a:CL P]{t e:TypeId}{x y:Operand}{rows:List (List D)}{row:List D}{m:Int}{k b:Nat}{ik:IntKind}(f:ev (look L) x=some (.o (.d (.l rows))))(c:ev (look L) y=some (eI ik m))(h:rows[m.toNat]? = some row)(p:(Ip a.T t).sl=some (e,k,b))(j:row.length=k)(q:0<=m)
 (hk:Lex P TB Γ ops (Ai fl (i+1) n) K (look ((d,.o (.ip row))::L)) σ nx):Fz P TB Γ ops ⟨some d,.indexAddr t x y,ty,pos,af,g⟩ fl i n K L σ nx:=
 haveI:=(Dq (P:=P) t a.ok).QD p
 gS (λ_ _=>Y3 f c q h j) hk
theorem yT[a:CL P]{t:TypeId}{x y:Operand}{s:List UInt8}{m:Int}{c:UInt8}{ik:IntKind}(e:ev (look L) x=some (eT s))(b:ev (look L) y=some (eI ik m))(h:s[m.toNat]? = some c)(f:(Ip a.T t).st=true)(j:0<=m)
 (hk:Lex P TB Γ ops (Ai fl (i+1) n) K (look ((d,eI .u8 (c.toNat:Int))::L)) σ nx):Fz P TB Γ ops ⟨some d,.index t x y,ty,pos,af,g⟩ fl i n K L σ nx:=
 haveI:=(Dq (P:=P) t a.ok).XN f
 gS (λ_ _=>Y9 e b j h) hk
def jF(k m:Nat)(z:List Value)(es:List E):Option (List (List D)):=match es.all Qs,NC es with
 | true,some rows=>match rows.all λr=>Nat.beq r.length k,Nat.beq z.length k,z.all NK,Nat.ble 1 k,Nat.ble (m*k) 16777216 with
  | true,true,true,true,true=>some rows
  | _,_,_,_,_=>none
 | _,_=>none
theorem yZ[c:CL P]{t e:TypeId}{k b m:Nat}{z:List Value}{parts:Array (Nat×Operand)}{es:List E}{rows:List (List D)}(q:(Ip c.T t).sl=some (e,k,b))(j:(Ip c.T e).ze=some z)(hp:C3 0 (parts.toList.map (·.2))=parts.toList)(p:parts.toList.length=m)
 (f:HS (look L) (parts.toList.map (·.2))=some es) (a:jF k m z es=some rows)
 (h:Lex P TB Γ ops (Ai fl (i+1) n) K (look ((d,.o (.d (.l rows)))::L)) σ nx):Fz P TB Γ ops ⟨some d,.buildSlice t m parts,ty,pos,af,g⟩ fl i n K L σ nx:=by
 haveI:=(Dq (P:=P) t c.ok).QD q;haveI:=(Dq (P:=P) e c.ok).XO j;unfold jF at a;split at a
 ·rename_i y x
  split at a
  ·rename_i w v u s r
   injection a with a
   subst a;exact gS (λ_ _=>Na hp p f y x w (gt v) u s r) h
  ·cases a
 ·cases a
theorem yY{T:TypeId}{x:Operand}{e:E}{ds:List D}(a:ev (look L) x=some e)(b:Qs e=true)(c:Oe (eC e)=some ds)(h:Lex P TB Γ ops (Ai fl (i+1) n) K (look ((d,.o (.ip ds))::L)) σ nx):Fz P TB Γ ops ⟨some d,.box T x,ty,pos,af,g⟩ fl i n K L σ nx:=gS (λ_ _=>EI a b c) h
def br:Nat->List (Nat×Operand)->Bool
 | _,[]=>true
 | k,(i,_)::r=>Nat.beq i k && br (k+1) r
theorem Uw:∀(l:List (Nat×Operand)) (k:Nat),br k l=true->C3 k (l.map (·.2))=l
 | [],_,_=>rfl
 | (i,x)::r,k,h=>by
  unfold br at h;rw [d5] at h;have a:=gt h.1;subst a;have:=Uw r (i+1) h.2;simp [C3,this]
def bu(c:Nat):Option E->Bool
 | some (.o (.ptr id _ _ _))=>Qg c || (Nat.beq c (10+id) && !Nat.ble 1000 c)
 | _=>Qg c
theorem Zq{T:List (Nat×TI)}{σ σ':Ab}{f:Env}{t:TypeId}{x:Operand}{id k i j:Nat}(a:ev f x=some (.o (.ptr id k i j)))(h:look σ' id=look σ id):Ld T σ' f (.load t x)=Ld T σ f (.load t x):=by
 unfold Ld;simp only [a]
 cases (Ip T t).ld with
 | none=>rfl
 | some p=>obtain⟨ag,n⟩:=p;simp only [h]
def UK(T:List (Nat×TI))(sl:Bool)(c nx:Nat)(σ:Ab)(L:List (Nat×E)):Option Tmp->Op->Option (List (Nat×E)×Ab×Nat)
 | some d,.alloc t=>match Nat.beq c 1,(Ip T t).ze with
  | true,some z=>match z.all NK with
   | true=>some ((d,.o (.ptr nx z.length 0 0))::L,(nx,.cells t z.length [z.map zC])::σ,nx+1)
   | false=>none
  | _,_=>none
 | none,.store t x y=>match Nat.beq c 1,OP T σ (look L) t x y with
  | true,some σ'=>some (L,σ',nx)
  | _,_=>none
 | some d,.load t x=>match bu c (ev (look L) x),Ld T σ (look L) (.load t x) with
  | true,some e=>some ((d,e)::L,σ,nx)
  | _,_=>none
 | some d,.box _ x=>match sl,ev (look L) x with
  | true,some e=>match Qs e,Oe (eC e) with
   | true,some ds=>some ((d,.o (.ip ds))::L,σ,nx)
   | _,_=>none
  | _,_=>none
 | some d,.buildSlice t m parts=>match sl,(Ip T t).sl with
  | true,some (e,k,_)=>match (Ip T e).ze,HS (look L) (parts.toList.map (·.2)) with
   | some z,some es=>match jF k m z es,br 0 parts.toList,Nat.beq parts.toList.length m with
    | some rows,true,true=>some ((d,.o (.d (.l rows)))::L,σ,nx)
    | _,_,_=>none
   | _,_=>none
  | _,_=>none
 | _,_=>none
theorem yU[o:CL P]{sl:Bool}{d:Option Tmp}{L':List (Nat×E)}{σ':Ab}{nx':Nat}(h:UK o.T sl (fl i) nx σ L d op=some (L',σ',nx'))(hk:Lex P TB Γ ops (Ai fl (i+1) n) K (look L') σ' nx'):Fz P TB Γ ops ⟨d,op,ty,pos,af,g⟩ fl i n K L σ nx:=by
 unfold UK at h;split at h
 ·split at h
  ·rename_i a b
   split at h
   ·rename_i j
    injection h with h;injection h with f h;injection h with e c;subst f;subst e;subst c
    exact yO b j (gt a) hk
   ·cases h
  ·cases h
 ·split at h
  ·rename_i a b
   injection h with h;injection h with f h;injection h with e c;subst f;subst e;subst c
   exact yW b (gt a) hk
  ·cases h
 ·split at h
  ·rename_i a b
   injection h with h;injection h with f h;injection h with e c;subst f;subst e;subst c
   unfold bu at a;split at a
   ·rename_i l
    rw [kR] at a
    rcases a with a|a
    ·exact yS b a hk
    ·rw [d5] at a
     have j:=gt a.1;refine λm=>gx (λσ' nx' k=>Nd (by rw [j,Nat.add_sub_cancel_left] at k;rw [Zq (σ:=σ) (σ':=σ') l k];exact b)) m ⟨mP (by omega),by simpa using a.2⟩ hk
   ·exact yS b a hk
  ·cases h
 ·split at h
  ·rename_i a
   split at h
   ·rename_i b j
    injection h with h;injection h with f h;injection h with e c;subst f;subst e;subst c
    exact yY a b j hk
   ·cases h
  ·cases h
 ·split at h
  ·rename_i a
   split at h
   ·rename_i b j
    split at h
    ·rename_i r q p
     injection h with h;injection h with f h;injection h with e c;subst f;subst e;subst c
     exact yZ a b (Uw _ _ q) (gt p) j r hk
    ·cases h
   ·cases h
  ·cases h
 ·cases h
theorem yP{x:Operand}{args:Array Operand}{tys:Array TypeId}{gg:FuncId}{cap:List C}{es:List E}{r:E}(b:ev (look L) x=some (.o (.fn gg cap)))(a:HS (look L) args.toList=some es)(hp:(es.all E.Bz && C.CA cap)=true)
 (c:Pure P TB gg (es++cap.map .o) r) (e:r.Bz=true) (h:Lex P TB Γ ops (Ai fl (i+1) n) K (look ((d,r)::L)) σ nx):Fz P TB Γ ops ⟨some d,.call ⟨.value x,args,tys⟩,ty,pos,af,g⟩ fl i n K L σ nx:=gS (λ_ _=>Bu b a hp c e) h
theorem yC{x:Operand}{args:Array Operand}{tys:Array TypeId}{gg:FuncId}{cap:List C}{es:List E}{c:Bool}(e:ev (look L) x=some (.o (.fn gg cap)))(a:HS (look L) args.toList=some es)(hp:(es.all E.Bz && C.CA cap)=true)
 (f:Pure P TB gg (es++cap.map .o) (eB c)) (h:∀b,c=b->Lex P TB Γ ops (Ai fl (i+1) n) K (look ((d,eB b)::L)) σ nx):Fz P TB Γ ops ⟨some d,.call ⟨.value x,args,tys⟩,ty,pos,af,g⟩ fl i n K L σ nx:=gB (λ_ _=>Bu e a hp f rfl) h
theorem yG{d:Option Tmp}{j t:Nat}{w b:Bool}(f:(ops[j]?).bind (·.dst)=some t)(e:look L t=some (eB b))
 (a:b=true->Lex P TB Γ ops (Ai fl i (n+1)) K (look L) σ nx) (c:b=false->Lex P TB Γ ops (Ai fl i (n+1)) K (look L) σ nx):Br P TB Γ ops ⟨d,op,ty,pos,af,some (j,w)⟩ fl i n K L σ nx:=by
 intro _;cases b
 ·exact c rfl
 ·exact a rfl
end
end Go.Am
