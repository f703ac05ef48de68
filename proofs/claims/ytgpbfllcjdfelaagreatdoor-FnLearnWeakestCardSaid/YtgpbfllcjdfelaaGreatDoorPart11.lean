/-
  More rules: text out of a letter, parts of texts and lists, maps keyed by texts.
-/
import Derived.Test.YtgpbfllcjdfelaaGreatDoorPart10
import Derived.Laws.Slices
import Derived.MapKept
set_option linter.all false
namespace Go.Am
open Go
section
variable {P:Program}{TB:Bi}{Γ:Ctx}{d:Option Tmp}{ty:TypeId}{pos:String}{af:Array Edge}{g:Option (Nat×Bool)}{f:Env}{σ:Ab}{nx:Nat}
variable {K:E->Ab->Nat->Prop}
theorem bV{s t:TypeId}{k:IntKind}{x:Operand}{n:Int}[c:Fq P s k][ht:CR P t](b:ev f x=some (eI k n))(m:0<=n)(l:n < 128):AO P TB Γ ⟨d,.convert s t x,ty,pos,af,g⟩ f σ nx (eT [UInt8.ofNat n.toNat]):=
 AG λV ρ a _=>⟨.string ⟨#[UInt8.ofNat n.toNat]⟩,by
  have j:ρ x=.int k n:=AA.val (a.get (by simp [Op.operands]) b)
  have i:Utf8.valid n=true:=by simp [Utf8.valid];omega
  have h:n.toNat < 128:=by omega
  have e:Utf8.encode n=⟨#[UInt8.ofNat n.toNat]⟩:=by simp [Utf8.encode,i,h]
  simp [execOp,j,convert,run_underlying c.out,run_underlying ht.out,Conv.intToString,e,go_sem],.d (.v rfl)⟩
def YY(f:Env):Option Operand->Option (Option (IntKind×Int))
 | none=>some none
 | some x=>match ev f x with
  | some (.o (.d (.v (.int k m))))=>some (some (k,m))
  | _=>none
theorem LR{o:Oper}{V:View}{ρ:Operand->Value}(e:Lc V o f ρ){x:Option Operand}{b:Option (IntKind×Int)}(a:∀y,x=some y->y∈o.op.operands)(h:YY f x=some b):x.map ρ=b.map λp=>.int p.1 p.2:=by
 cases x with
 | none=>injection h with h;subst h;rfl
 | some y=>
  unfold YY at h;simp only at h;split at h
  ·rename_i k m c
   injection h with h
   subst h;have d:ρ y=.int k m:=AA.val (e.get (a y rfl) c);simp [d]
  ·cases h
def Kj:Option (IntKind×Int)->Int
 | none=>0
 | some p=>p.2
def Kh(n:Nat):Option (IntKind×Int)->Int
 | none=>n
 | some p=>p.2
theorem MB{isS:Bool}{len cap:Nat}{lo hi:Option (IntKind×Int)}(b:0<=Kj lo)(e:Kj lo<=Kh len hi)(d:Kh len hi<=len)(c:len<=cap)(w:World) :
 (Instr.sliceBounds isS len cap (lo.map λp=>.int p.1 p.2) (hi.map λp=>.int p.1 p.2) none).run P w=.ok ((Kj lo).toNat,(Kh len hi).toNat,cap) w:=by
 cases lo with
 | none=>
  cases hi with
  | none=>simp [Instr.sliceBounds,Kj,Kh,go_sem]
  | some h=>
   simp only [Kj,Kh] at *;simp [Instr.sliceBounds,run_sliceBound w h.1 h.2 cap _ (by omega) (by omega),Kj,Kh,go_sem]
 | some l=>
  cases hi with
  | none=>
   simp only [Kj,Kh] at *;simp [Instr.sliceBounds,run_sliceBound w l.1 l.2 len _ (by omega) (by omega),Kj,Kh,go_sem]
  | some h=>
   simp only [Kj,Kh] at *;simp [Instr.sliceBounds,run_sliceBound w h.1 h.2 cap _ (by omega) (by omega),run_sliceBound w l.1 l.2 h.2.toNat _ (by omega) (by omega),Kj,Kh,go_sem];intro a;have:=a b;omega
theorem U0{t:TypeId}(ht:P.underlying t=some .string){s:ByteArray}{lo hi:Option Value}{l h m:Nat}{w:World}(hb:(Instr.sliceBounds false s.size s.size lo hi none).run P w=.ok (l,h,m) w) :
 (Instr.sliceAt t (.string s) lo hi none).run P w=.ok (.string (s.extract l h)) w:=by
 have a:(Instr.sliceAt t (.string s) lo hi none).run P w=(Instr.slice t (.string s) lo hi none).run P w:=by
  unfold Instr.sliceAt;rw [nf,run_underlying ht,mY]
 rw [a];unfold Instr.slice;rw [nf,run_underlying ht,mY];simp only [Option.isSome_none,pb,if_false];rw [nf];generalize Instr.sliceBounds false s.size s.size lo hi none=sb at hb |-;simp [hb,go_sem]
theorem UZ{t e:TypeId}{i:TypeInfo}(c:P.underlying t=some (.slice e))(hi:P.info? e=some i){a:Option Addr}{len cap:Nat}{lo b:Option Value}{l h m:Nat}{w:World}(hb:(Instr.sliceBounds true len cap lo b none).run P w=.ok (l,h,m) w) :
 (Instr.sliceAt t (.slice a len cap) lo b none).run P w=.ok (.slice (if m=l then a else a.map (·.add (l*i.size))) (h - l) (m - l)) w:=by
 have d:(Instr.sliceAt t (.slice a len cap) lo b none).run P w=(Instr.slice t (.slice a len cap) lo b none).run P w:=by
  unfold Instr.sliceAt;rw [nf,run_underlying c,mY]
 rw [d];unfold Instr.slice;rw [nf,run_underlying c,mY];simp only;rw [nf];generalize Instr.sliceBounds true len cap lo b none=sb at hb |-;simp [hb,sizeOf,typeInfo,hi,go_sem]
theorem Mh{t:TypeId}{x:Operand}{lo hi:Option Operand}{s:List UInt8}{l h:Option (IntKind×Int)}[ht:CR P t](i:ev f x=some (eT s))(j:YY f lo=some l)(k:YY f hi=some h)
 (o:0<=Kj l) (n:Kj l<=Kh s.length h) (m:Kh s.length h<=s.length):AO P TB Γ ⟨d,.slice t x lo hi none,ty,pos,af,g⟩ f σ nx (eT ((s.take (Kh s.length h).toNat).drop (Kj l).toNat)):=
 AG λV ρ c _=>by
  have u:ρ x=.string ⟨s.toArray⟩:=AA.val (c.get (by simp [Op.operands]) i);have r:=LR c (x:=lo) (λy b=>by subst b;simp [Op.operands]) j;have q:=LR c (x:=hi) (λy b=>by subst b;simp [Op.operands]) k
  have a:(⟨s.toArray⟩:ByteArray).size=s.length:=by simp [ByteArray.size]
  have hb:=MB (P:=P) (isS:=false) (len:=s.length) (cap:=s.length) o n m (io _) V.w;refine⟨.string ((⟨s.toArray⟩:ByteArray).extract (Kj l).toNat (Kh s.length h).toNat),?_,?_⟩
  ·rw [<-a] at hb
   have e:=U0 ht.out hb;rw [a] at e;simp only [execOp,u,r,q,Option.map_none,nf,e,mY];rfl
  ·have p:((⟨s.toArray⟩:ByteArray).extract (Kj l).toNat (Kh s.length h).toNat)=⟨((s.take (Kh s.length h).toNat).drop (Kj l).toNat).toArray⟩:=by
    apply ByteArray.ext;rw [ByteArray.data_extract];apply Array.toList_inj.1;simp [List.extract_eq_take_drop,List.drop_take]
   rw [p];exact .d (.v rfl)
theorem WD{t e:TypeId}{k b:Nat}{x:Operand}{lo hi:Option Operand}{rows:List (List D)}{l h:Option (IntKind×Int)}[G:CO P t e k b](X:ev f x=some (.o (.d (.l rows))))(hl:YY f lo=some l)(hh:YY f hi=some h)(hk:∀r∈rows,r.length=k)
 (h0:0<=Kj l) (h1:Kj l<=Kh rows.length h) (h2:Kh rows.length h<=rows.length):AO P TB Γ ⟨d,.slice t x lo hi none,ty,pos,af,g⟩ f σ nx (.o (.d (.l ((rows.take (Kh rows.length h).toNat).drop (Kj l).toNat)))):=
 AG λV ρ H _=>by
  have B:=H.get (by simp [Op.operands]) X;have e2:=LR H (x:=lo) (λy F=>by subst F;simp [Op.operands]) hl;have e3:=LR H (x:=hi) (λy F=>by subst F;simp [Op.operands]) hh;generalize Y:ρ x=v at B;obtain⟨i,Z,L,hs,_⟩:=Gu G.out;generalize I:(Kj l).toNat=lo' at *;generalize M:(Kh rows.length h).toNat=c at *
  have A:lo'<=c/\c<=rows.length:=by omega
  have p:∀(a:Option Addr) (cap:Nat),rows.length<=cap->v=.slice a rows.length cap->(execOp ρ ⟨d,.slice t x lo hi none,ty,pos,af,g⟩).run P V.w=.ok (.value (.slice (if cap=lo' then a else a.map (·.add (lo'*i.size))) (c - lo') (cap - lo'))) V.w:=by
   intro a cap R he;have hb:=MB (P:=P) (isS:=true) (len:=rows.length) (cap:=cap) h0 h1 h2 R V.w;rw [I,M] at hb;subst he;have s:=UZ Z L (a:=a) hb;simp only [execOp,Y,e2,e3,Option.map_none,nf,s,mY];rfl
  have z:((rows.take c).drop lo').length=c - lo':=by simp;omega
  obtain⟨B⟩:=B
  cases B with
  | nil=>
   have s:lo'=0/\c=0:=by simp at A;omega
   obtain⟨rfl,rfl⟩:=s;exact⟨_,p none 0 (by simp) rfl,.d .nil⟩
  | @e a cap R=>
   have s:lo'=0/\c=0:=by simp at A;omega
   obtain⟨rfl,rfl⟩:=s;refine⟨_,p (some a) cap (by simp) rfl,?_⟩;by_cases Q:cap=0
   ·rw [if_pos Q];exact .d (.e (by omega))
   ·rw [if_neg Q];exact .d (.e (by omega))
  | @l _ b' o k' cap vs hb s Q S h6 h7=>
   refine⟨_,p (some ⟨b',o,none⟩) cap s rfl,?_⟩;by_cases T:c - lo'=0
   ·have:(rows.take c).drop lo'=[]:=List.eq_nil_of_length_eq_zero (by omega)
    rw [this,T];split
    ·exact .d (.e (by omega))
    ·exact .d (.e (by omega))
   ·have N:¬cap=lo':=by omega
    rw [if_neg N];simp only [nv,Bx]
    have J:k'=i.size:=by
     have u:0 < rows.length:=by omega
     have e5:=S 0 _ (d5 u);have e6:=hk _ (nA u);omega
    have m:∀(q:Nat) (r:List D),((rows.take c).drop lo')[q]? = some r->rows[lo'+q]? = some r:=λq r n=>by
     rw [nn,nk] at n;split at n
     ·exact n
     ·cases n
    rw [<-z];refine .d (.l (k:=k') (vs:=λq j=>vs (lo'+q) j) hb (by omega) (by omega) (λq r n=>S _ r (m q r n)) (λq r j dd n K=>?_) (λq r j dd n K=>h7 _ r j dd (m q r n) K));have:=h6 _ r j dd (m q r n) K;rw [<-J]
    have e7:o+lo'*k'+q*k'+j=o+(lo'+q)*k'+j:=by rw [nz];omega
    rw [e7];exact this
theorem cK{t e:TypeId}(ht:P.underlying t=some (.slice e))(a:Option Addr)(n c:Nat)(w:World):(binOp .eql t (.slice a n c) (.slice none 0 0)).run P w=.ok (.bool a.isNone) w:=by
 have h:∀d:Nat,(Op.equalIn (d+1) t (.slice a n c) (.slice none 0 0)).run P w=.ok a.isNone w:=λd=>by
  cases a<;>simp [Op.equalIn,run_underlying ht]
 simp only [binOp];simp [Op.equal,Op.maxDepth,h 9999]
theorem aV{t e yt:TypeId}{k b:Nat}{x:Operand}{rows:List (List D)}[m:CO P t e k b](q:ev f x=some (.o (.d (.l rows))))(z:∀c,(c=true->rows=[])->K (eB c) σ nx) :
 BS P TB Γ ⟨d,.binOp .eql t x (.const (.slice none 0 0)) yt,ty,pos,af,g⟩ f σ nx K:=by
 intro V a H G F;subst F;have j:=H.Gb.get (x:=x) (by simp [Op.operands]) q;have I:a.eval (.const (.slice none 0 0))=.slice none 0 0:=rfl;obtain⟨i,s,_,_,_⟩:=Gu m.out;generalize r:a.eval x=v at j
 have key:∀(p:Option Addr) (n c:Nat),v=.slice p n c->(p.isNone=true->rows=[])->Oper.wp P ⟨d,.binOp .eql t x (.const (.slice none 0 0)) yt,ty,pos,af,g⟩ a V.w (λa' w'=>∃V' v x σ',V'.w=w'/\a'=a.put d v/\Ext V V'/\Inv TB Γ V' σ'/\A2 V' x v/\K x σ' V'.nx) k8:=by
  intro p n c y u;unfold Oper.wp;have A:execOp a.eval ⟨d,.binOp .eql t x (.const (.slice none 0 0)) yt,ty,pos,af,g⟩=(do let v <-(do eqGuard .eql t x (.const (.slice none 0 0)) (a.eval x) (a.eval (.const (.slice none 0 0)));binOp .eql t (a.eval x) (a.eval (.const (.slice none 0 0))));pure (.value v)):=rfl;have B:eqGuard .eql t x (.const (.slice none 0 0)) (.slice p n c) (.slice none 0 0)=pure ():=rfl;rw [A,r,I,y,B];rw [pure_bind,nf,cK s,mY];exact⟨V,.bool p.isNone,eB p.isNone,σ,rfl,rfl,Ext.refl V,G,AA.d (.v rfl),z p.isNone u⟩
 obtain⟨j⟩:=j
 cases j with
 | nil=>exact key none 0 0 rfl λ_=>rfl
 | e=>exact key (some _) 0 _ rfl λh=>by cases h
 | l=>exact key (some _) _ _ rfl λh=>by cases h
def Ev(l:List (List UInt8×Int)):List (Value×Value):=l.map λp=>(.string ⟨p.1.toArray⟩,.int .i64 p.2)
def BQ(l:List (List UInt8×Int))(s:List UInt8):Option Int:=(l.find? λp=>decide (p.1=s)).map (·.2)
theorem jq(a b:List UInt8):((⟨a.toArray⟩:ByteArray) == ⟨b.toArray⟩)=decide (a=b):=by
 have h:((⟨a.toArray⟩:ByteArray) == ⟨b.toArray⟩)=(a.toArray == b.toArray):=rfl;rw [h,oI];simp
theorem Jx(s:List UInt8):∀(l:List (List UInt8×Int)) (es:List MapEntry) (i:Nat),es.map (λe=>(e.key,e.val))=Ev l->∃r,Instr.findNow .string (.string ⟨s.toArray⟩) es i=some r/\r.map (·.2)=(BQ l s).map (.int .i64)
 | [],es,i,h=>by
  have:es=[]:=by simpa [Ev] using h
  subst this;exact⟨none,rfl,rfl⟩
 | p :: l,es,i,h=>by
  cases es with
  | nil=>simp [Ev] at h
  | cons e es=>
   simp only [Ev,nX,List.cons.injEq,Prod.mk.injEq] at h;obtain⟨⟨hk,b⟩,d⟩:=h
   have c:Instr.sameNow .string (.string ⟨s.toArray⟩) e.key=some (decide (s=p.1)):=by
    rw [hk]
    show some ((⟨s.toArray⟩:ByteArray) == ⟨p.1.toArray⟩)=_
    rw [jq]
   unfold Instr.findNow;rw [c];by_cases a:s=p.1
   ·refine⟨some (i,e.val),by simp [a],?_⟩
    simp [BQ,a,b]
   ·obtain⟨r,j,g⟩:=Jx s l es (i+1) d
    have f:¬p.1=s:=λe=>a e.symm;refine⟨r,by simp [a,j],?_⟩;rw [g];simp [BQ,f]
theorem GM{t:TypeId}(i:K (.o (.mp nx)) ((nx,.mp [])::σ) (nx+1)):BS P TB Γ ⟨d,.makeMap t none,ty,pos,af,g⟩ f σ nx K:=
 Di λV ρ l k j=>by
  subst j
  have a:V.w.heap.size < (V.w.alloc (.map #[] 0)).heap.size:=by simp
  obtain⟨hi,h⟩:=k.alloc (c:=0) (nl:=False) (w:=V.w.alloc (.map #[] 0)) (ob:=.mp []) rfl rfl rfl rfl (qE a) (λb hb=>A1 V.w _ b hb) (by
   refine⟨by simp [Aw],#[],0,?_,rfl⟩
   have e:(Aw V V.w.heap.size 0 False (V.w.alloc (.map #[] 0))).ρ V.nx=V.w.heap.size:=by simp [Aw]
   rw [e]
   exact BZ V.w (.map #[] 0))
  refine⟨.map (some V.w.heap.size),_,_,_,?_,h,hi,?_,i⟩
  ·have:(Instr.makeMap t none).run P V.w=.ok (.map (some V.w.heap.size)) (V.w.alloc (.map #[] 0)):=rfl
   simp [execOp,this,Aw,go_sem]
  ·have:=@AA.mp (Aw V V.w.heap.size 0 False (V.w.alloc (.map #[] 0))) V.nx (by simp [Aw])
   have e:(Aw V V.w.heap.size 0 False (V.w.alloc (.map #[] 0))).ρ V.nx=V.w.heap.size:=by simp [Aw]
   rw [e] at this;exact this
class HD (P:Program) (t:TypeId) (z:outParam Value):Prop where
 out:(P.info? t).bind (·.zero)=some z
class DV (P:Program) (t:TypeId) (k e:outParam TypeId):Prop where
 out:P.underlying t=some (.map k e)
theorem I0{k:TypeId}(hk:P.underlying k=some .string)(b:Bool)(s:ByteArray)(w:World):(Instr.checkKey b 10000 k (.string s)).run P w=.ok () w:=by
 rw [show 10000=9999+1 from rfl];unfold Instr.checkKey;simp [run_underlying hk,go_sem]
theorem Ro{t k e:TypeId}{x y:Operand}{id:Nat}{l:List (List UInt8×Int)}{s:List UInt8}[G:DV P t k e][hk:CR P k][M:HD P e (.int .i64 0)](Q:ev f x=some (.o (.mp id)))(N:ev f y=some (eT s))(R:look σ id=some (.mp (Ev l))) :
 AO P TB Γ ⟨d,.lookup t x y true,ty,pos,af,g⟩ f σ nx (.t [(false,[.d (.v (.int .i64 ((BQ l s).getD 0)))]),(false,[.d (.v (.bool (BQ l s).isSome))])]):=
 AG λV ρ F hi=>by
  have L:=F.get (by simp [Op.operands]) Q;have K:ρ y=.string ⟨s.toArray⟩:=AA.val (F.get (by simp [Op.operands]) N);generalize a:ρ x=v at L
  cases L with
  | mp hid =>
   obtain⟨Z,ents,clock,J,T⟩:=hi.st.obj id _ R;obtain⟨r,S,p⟩:=Jx s l ents.toList 0 T;have b:=M.out;simp only [m8] at b;obtain⟨i,A,z⟩:=b
   have u:(zeroValue e).run P V.w=.ok (.int .i64 0) V.w:=by simp [zeroValue,typeInfo,A,z,go_sem]
   have h:(Instr.findKey k (.string ⟨s.toArray⟩) ents.toList).run P V.w=.ok r V.w:=by simp [Instr.findKey,run_underlying hk.out,S,go_sem]
   have m:=I0 hk.out ents.isEmpty ⟨s.toArray⟩ V.w;refine⟨.tuple #[.int .i64 ((BQ l s).getD 0),.bool (BQ l s).isSome],?_,⟨_,rfl,rfl,λj x v c a=>?_⟩⟩
   ·cases r with
    | none=>
     have B:BQ l s=none:=by simpa using p.symm
     simp [execOp,a,K,Instr.lookup,run_underlying G.out,MapKept.run_getObj_map J,m,h,u,B,go_sem]
    | some q=>
     obtain⟨n,B,I⟩:∃n,BQ l s=some n/\q.2=.int .i64 n:=by
      cases H:BQ l s with
      | none=>rw [H] at p;simp at p
      | some n=>rw [H] at p;exact⟨n,rfl,by simpa using p⟩
     obtain⟨Y,X⟩:=q;simp only at I;subst I;simp [execOp,a,K,Instr.lookup,run_underlying G.out,MapKept.run_getObj_map J,m,h,B,go_sem]
   ·match j with
    | 0=>simp at c a;subst c;subst a;exact⟨_,rfl,.d (.v rfl)⟩
    | 1=>simp at c a;subst c;subst a;exact⟨_,rfl,.d (.v rfl)⟩
    | j+2=>simp at c
theorem fN{t k e:TypeId}{x y z:Operand}{id:Nat}{l:List (List UInt8×Int)}{s:List UInt8}{n:Int}[X:DV P t k e][hk:CR P k](Q:ev f x=some (.o (.mp id)))(N:ev f y=some (eT s))(M:ev f z=some (eI .i64 n))(G:look σ id=some (.mp (Ev l)))
 (T:BQ l s=none) (H:K (.t []) ((id,.mp (Ev (l++[(s,n)])))::σ) nx):BS P TB Γ ⟨d,.mapUpdate t x y z,ty,pos,af,g⟩ f σ nx K:=by
 intro V a c J h3;have c:=c.Gb;unfold Oper.wp;generalize a.eval=ρ at c |-;have L:=c.get (x:=x) (by simp [Op.operands]) Q;have e2:ρ y=.string ⟨s.toArray⟩:=AA.val (c.get (by simp [Op.operands]) N);have e3:ρ z=.int .i64 n:=AA.val (c.get (by simp [Op.operands]) M);generalize R:ρ x=v at L
 cases L with
 | mp hid=>
  obtain⟨m,ents,clock,F,B⟩:=J.st.obj id _ G;obtain⟨r,h6,I⟩:=Jx s l ents.toList 0 B;rw [T] at I
  have S:r=none:=by cases r with
   | none=>rfl
   | some q=>simp at I
  subst S
  have u:(Instr.findKey k (.string ⟨s.toArray⟩) ents.toList).run P V.w=.ok none V.w:=by simp [Instr.findKey,run_underlying hk.out,h6,go_sem]
  have A:=I0 hk.out false ⟨s.toArray⟩ V.w
  let ob:Obj:=.map (ents.push { key:=.string ⟨s.toArray⟩,val:=.int .i64 n,born:=clock }) (clock+1)
  let w':World:={ V.w with heap:=V.w.heap.setIfInBounds (V.ρ id) ob }
  have h:=MapKept.run_setObj_map (P:=P) ob F;have p:=(ng.1 F).1
  obtain⟨hi,Z⟩:=J.write G m (w:=w') (ob':=.mp (Ev (l++[(s,n)]))) rfl rfl rfl rfl rfl (by simp [w']) (λb hb=>by simp [w',oc,Ne.symm hb]) (by
   refine⟨m,ents.push { key:=.string ⟨s.toArray⟩,val:=.int .i64 n,born:=clock },clock+1,?_,?_⟩
   ·show w'.heap[V.ρ id]? = some ob
    simp [w',oc,p]
   ·simp [Ev] at B |-
    exact B)
  have i:(execOp ρ ⟨d,.mapUpdate t x y z,ty,pos,af,g⟩).run P V.w=.ok .skip w':=by
   simp [execOp,R,e2,e3,Instr.mapUpdate,run_underlying X.out,MapKept.run_getObj_map F,A,u,h,ob,w',go_sem]
  rw [i];exact⟨{ V with w:=w' },.tuple #[],.t [],_,rfl,rfl,Z,hi,⟨#[],rfl,rfl,λj x v Y=>by simp at Y⟩,by rw [<-h3] at H;exact H⟩
end
section
variable {P:Program}{TB:Bi}
def VG(f:Env)(t:Tmp)(n:Nat):Option (Bool×List C):=match f t with
 | some (.o (.d (.p cs)))=>match Nat.beq cs.length n with
  | true=>some (true,cs.map .d)
  | false=>none
 | _=>none
def cy(n:Nat)(rs:Array ResultVar)(f:Env):Option E:=match rs.toList with
 | [.cell t _]=>match VG f t n with
  | some (_,cs)=>some (.a cs)
  | none=>none
 | [.cell t _,.tmp u]=>match VG f t n,(f u).bind SL with
  | some x,some y=>some (.t [x,y])
  | _,_=>none
 | _=>none
def jf(n:Nat)(rs:Array ResultVar)(post:E->Ab->Nat->Prop):Exit->Env->Ab->Nat->Prop
 | .ret,f,σ,nx|.normal,f,σ,nx=>∃x,cy n rs f=some x/\post x σ nx
 | _,_,_,_=>False
theorem O3{V:View}{f:Env}{a:Act}{t:Tmp}{T':TypeId}{n:Nat}{x:Bool×List C}(l:DU P T' true n)(u:DS V f a.tmps)(h:VG f t n=some x) :
 ∃v,((do loadVar T' (<-asAddr (a.tmps.getD t undef))):Sem Value).run P V.w=.ok v V.w/\∃cs,x=(true,cs)/\A2 V (.a cs) v:=by
 unfold VG at h;split at h
 ·rename_i ds s
  split at h
  ·rename_i i
   have i:=i7 i
   injection h with h
   subst h;have e:AA V (.d (.p ds)) (a.tmps.getD t undef):=u t _ s;generalize B:a.tmps.getD t undef=A at e;obtain⟨e⟩:=e
   cases e with
   | @p _ b o vs hb z y=>
    refine⟨.agg ((List.range n).map λq=>vs q).toArray,?_,_,rfl,_,rfl,by simp [i],λj c v m g=>?_⟩
    ·have:(loadCells ⟨b,o,none⟩ n).run P V.w=.ok ((List.range n).map λq=>vs q).toArray V.w:=run_loadCells V.w _ n _ λq k=>by
      rw [Bx];exact z q ds[q] (d5 (by omega))
     unfold loadCells at this;simp [asAddr,loadVar,(BG l.out V.w).1,(BG l.out V.w).2,this,go_sem]
    ·rw [d9,d7] at m
     obtain⟨dd,r,rfl⟩:=m
     have k:j < n:=by have:=(am.1 r).1;omega
     have:v=vs j:=by simpa [k] using g.symm
     subst this;exact .d (y j dd r)
  ·cases h
 ·cases h
theorem cC{fn:Func}{V:View}{f:Env}{a:Act}{x:E}{T':TypeId}{n:Nat}{t:Tmp}(I:DU P T' true n)(p:fn.results.toList.head? = some (.cell t T'))(A:DS V f a.tmps)(h:cy n fn.results f=some x):∃v,(results fn a.tmps).run P V.w=.ok v V.w/\A2 V x v:=by
 have key : ∀ l:List ResultVar,fn.results=l.toArray->l.head? = some (.cell t T')->cy n l.toArray f=some x->∃v,(results fn a.tmps).run P V.w=.ok v V.w/\A2 V x v:=by
  intro l e c h;unfold cy at h;simp only at h;split at h
  ·rename_i m T1
   simp at c;obtain⟨rfl,rfl⟩:=c;split at h
   ·rename_i b cs q
    injection h with h
    subst h;obtain⟨v,G,cs',k,B⟩:=O3 I A q
    injection k with k L
    subst L;refine⟨v,?_,B⟩
    have d:(results fn a.tmps).run P V.w=((do loadVar T1 (<-asAddr (a.tmps.getD m undef))):Sem Value).run P V.w:=by simp [results,e,-Array.getD_eq_getD_getElem?,go_sem]
    rw [d,G]
   ·cases h
  ·rename_i m T1 u
   simp at c;obtain⟨rfl,rfl⟩:=c;split at h
   ·rename_i N M q H
    injection h with h
    subst h;obtain⟨v,G,cs',k,B⟩:=O3 I A q;subst k;simp only [m8] at H;obtain⟨y,J,o⟩:=H;refine⟨.tuple #[v,a.tmps.getD u undef],?_,_,rfl,rfl,λj x v' g i=>?_⟩
    ·obtain⟨F,K,z,s⟩:∃F:ResultVar->Sem Value,results fn a.tmps=(do let vs <-fn.results.mapM F;pure (if h:vs.size=1 then vs[0] else .tuple vs))/\(F (.cell m T1)).run P V.w=.ok v V.w/\(F (.tmp u)).run P V.w=.ok (a.tmps.getD u undef) V.w:=
      ⟨λr=>match r with
       | .tmp t=>pure (a.tmps.getD t undef)
       | .cell b t=>do loadVar t (<-asAddr (a.tmps.getD b undef)),rfl,G,rfl⟩
     rw [K,e];simp [z,s,-Array.getD_eq_getD_getElem?,go_sem]
    ·match j with
     | 0=>simp at g i;subst g;subst i;exact B
     | 1=>simp at g i;subst g;subst i;exact FG o (by simpa using A u y J)
     | j+2=>simp at g
   ·cases h
  ·cases h
 exact key fn.results.toList (by simp) p (by simpa using h)
theorem AJ.ofM {g:FuncId} {fn:Func} {c:Code} {m:Nat} {σ:Ab} {nx:Nat} {args:List E} {post:E->Ab->Nat->Prop} (n:Nat) {t:Tmp} {T':TypeId} (F:m<=nx) [G:DU P T' true n] (u:P.funcs[g]? = some fn) (hb:fn.body=some c) (r:fn.results.toList.head? = some (.cell t T')) (f:(fn.name == "runtime.NumGoroutine")=false)
 (j:args.length<=fn.ntmps) (h:∀Γ:Ctx,Γ.V.nx=m->Au P TB Γ fn.ntmps c (jf n fn.results post) (look (Ci 0 args)) σ nx):AJ P TB g m σ nx args post:=by
 refine⟨⟨fn,u,f,by rw [hb];rfl⟩,?_⟩;intro V vs S p ha;refine calls_of_wp u hb ?_
 have I:vs.size<=fn.ntmps:=by rw [ha.1];exact j
 have hi:Inv TB (Fc V (KE V m) σ S) V σ:=
  ⟨rfl,rfl,rfl,λ_ _ _=>rfl,p.iLt,λ_ h=>.inl h,VS (by rw [p.nx];exact F),p.st,λid o B s b hb=>.inr (.inl ⟨id,o,B,s,hb⟩),p.tabs,⟨S,p.hid,λb hb=>.inl hb,λb hb=>.inr (.inr hb)⟩⟩
 have A:BY TB (Fc V (KE V m) σ S) fn.ntmps V (look (Ci 0 args)) σ nx { tmps:=vs++Array.replicate (fn.ntmps - vs.size) undef,defers:=[] } := by
  refine⟨?_,?_,by simp;omega,hi,p.nx,rfl⟩
  ·intro t e q
   obtain⟨_,a⟩:=Cy args 0 t e q
   have a:args[t]? = some e:=by simpa using a
   have i:t < vs.size:=by rw [ha.1];exact(am.1 a).1
   have H:=ha.2 t e vs[t] a (nc i)
   simpa [nt i,i] using H
  ·intro t e q
   obtain⟨_,a⟩:=Cy args 0 t e q
   have a:args[t]? = some e:=by simpa using a
   have:=(am.1 a).1;omega
 refine wp_mono (h (Fc V (KE V m) σ S) rfl V _ A) ?_;rintro e a' w' ⟨V',f',σ',rfl,k,d⟩
 have fin:(∃x,cy n fn.results f'=some x/\post x σ' V'.nx)->a'.defers=[]/\∃v,(results fn a'.tmps).run P V'.w=.ok v V'.w/\∃V'' v' x σ'',Ending.returned v=.returned v'/\V''.w=V'.w/\Inv TB (Fc V (KE V m) σ S) V'' σ''/\A2 V'' x v'/\post x σ'' V''.nx:=by
  rintro⟨x,y,hp⟩;obtain⟨v,z,q⟩:=cC (P:=P) G r d.env y;exact⟨d.defers,v,z,V',v,x,σ',rfl,rfl,d.inv,q,hp⟩
 cases e with
 | normal=>exact fin k
 | ret=>exact fin k
 | exit id=>exact k.elim
 | goto l=>exact k.elim
 | panic ch=>exact k.elim
 | outgrown=>exact k.elim
theorem AJ.Gw{g:FuncId}{σ:Ab}{nx:Nat}{args:List E}{post:E->Ab->Nat->Prop}(h:AJ P TB g nx σ nx args post):Spec P TB g σ nx args post:=
 ⟨h.1,λV vs S a ha=>(h.2 V vs S a ha).mono λ_ _ ⟨V',v,x,σ',i,f,e,d,c⟩=>⟨V',v,x,σ',i,f,by have b:=a.nx;subst b;exact e,d,c⟩⟩
end
class P7 (P:Program) (t:TypeId):Prop where
 out:P.underlying t=some .bool
theorem oA{p:Prop}[Decidable p]:(decide p=true)=p:=decide_eq_true_eq
theorem oB{p:Prop}[Decidable p]:decide p=false↔¬p:=decide_eq_false_iff_not
theorem oC{U β:Type}{l:List U}{f:U->β}:(l.map f).length=l.length:=f7 f
theorem oD{U:Type}{l m:List U}:(l++m).length=l.length+m.length:=nw
theorem oE{U:Type}{n:Nat}{x:U}:(List.replicate n x).length=n:=List.length_replicate
theorem oF{U:Type}{x:U}{l:List U}:(x::l).length=l.length+1:=nB
theorem oG{U:Type}:([]:List U).length=0:=o9
theorem oZ:(∀(p:Prop) [Decidable p],(decide p=true)=p)/\(∀(p:Prop) [Decidable p],decide p=false↔¬p)/\(∀(U β:Type) (l:List U) (f:U->β),(l.map f).length=l.length)/\(∀(U:Type) (l m:List U),(l++m).length=l.length+m.length)/\(∀(U:Type) (n:Nat) (x:U),(List.replicate n x).length=n)/\(∀(U:Type) (x:U) (l:List U),(x::l).length=l.length+1)/\∀(U:Type),([]:List U).length=0:=
 ⟨λ_ _=>oA,λ_ _=>oB,λ_ _ _ _=>oC,λ_ _ _=>oD,λ_ _ _=>oE,λ_ _ _=>oF,λ_=>oG⟩
structure TI where
 ld:Option (Bool×Nat):=none
 ik:Option IntKind:=none
 st:Bool:=false
 sl:Option (Nat×Nat×Nat):=none
 ar:Option (Nat×Nat):=none
 fl:List (Option (Nat×Bool×Nat)):=[]
 pt:Bool:=false
 bo:Bool:=false
 ze:Option (List Value):=none
def RK(P:Program)(t:Nat):Nat->List (Option (Nat×Bool×Nat))->Prop
 | _,[]=>True
 | k,none::r=>RK P t (k+1) r
 | k,some x::r=>(XD P t k=some x.1/\XE P t k=some x)/\RK P t (k+1) r
structure Ek (P:Program) (t:Nat) (i:TI):Prop where
 ld:i.ld=none\/gL P t=i.ld
 ik:i.ik=none\/P.underlying t=i.ik.map .int
 st:i.st=false\/P.underlying t=some .string
 sl:i.sl=none\/iC P t=i.sl
 ar:i.ar=none\/jl P t=i.ar
 fl:RK P t 0 i.fl
 pt:i.pt=false\/∃e,P.underlying t=some (.pointer e)
 bo:i.bo=false\/P.underlying t=some .bool
 ze:i.ze=none\/Y7 P t=i.ze
def Vr(P:Program):List (Nat×TI)->Prop
 | []=>True
 | (t,i)::r=>Ek P t i/\Vr P r
def ma:Value->Value->Bool
 | .int k n,.int k' n'=>decide (k=k') && decide (n=n')
 | .bool a,.bool b=>decide (a=b)
 | .string ⟨⟨a⟩⟩,.string ⟨⟨b⟩⟩=>a.isEmpty && b.isEmpty
 | .slice none 0 0,.slice none 0 0=>true
 | .pointer none,.pointer none=>true
 | .map none,.map none=>true
 | .nilFunc,.nilFunc=>true
 | .nilIface,.nilIface=>true
 | _,_=>false
theorem iQ:∀ {a b:Value},ma a b=true->a=b:=by
 intro a b h;unfold ma at h;split at h<;>simp_all
def lh:List Value->List Value->Bool
 | [],[]=>true
 | a::l,b::m=>ma a b && lh l m
 | _,_=>false
theorem dc:∀ {l m:List Value},lh l m=true->l=m
 | [],[],_=>rfl
 | a::l,b::m,h=>by
  unfold lh at h;rw [d6] at h;rw [iQ h.1,dc h.2]
 | [],_::_,h=>by cases h
 | _::_,[],h=>by cases h
def jA(P:Program)(t:Nat):Nat->List (Option (Nat×Bool×Nat))->Bool
 | _,[]=>true
 | k,none::r=>jA P t (k+1) r
 | k,some x::r=>decide (XD P t k=some x.1) && decide (XE P t k=some x) && jA P t (k+1) r
theorem Ud{P:Program}{t:Nat}:∀ {l:List (Option (Nat×Bool×Nat))} {k:Nat},jA P t k l=true->RK P t k l
 | [],_,_=>trivial
 | none::r,k,h=>Ud (l:=r) (k:=k+1) h
 | some x::r,k,h=>by
  unfold jA at h;simp only [d6,decide_eq_true_eq] at h;exact⟨h.1,Ud h.2⟩
def mx(d:Option TypeDesc)(i:TI):Bool:=match d with
 | some (.int k)=>(match i.ik with|none=>true|some k'=>decide (k=k')) && !i.st && !i.pt && !i.bo
 | some .string=>i.ik.isNone && !i.pt && !i.bo
 | some (.pointer _)=>i.ik.isNone && !i.st && !i.bo
 | some .bool=>i.ik.isNone && !i.st && !i.pt
 | _=>i.ik.isNone && !i.st && !i.pt && !i.bo
def l4(P:Program)(t:Nat)(i:TI):Bool:=
 (i.ld.isNone || decide (gL P t=i.ld)) && (mx (P.underlying t) i && ((i.sl.isNone || decide (iC P t=i.sl)) && ((i.ar.isNone || decide (jl P t=i.ar)) && (jA P t 0 i.fl && match i.ze with
  | none=>true
  | some l=>match Y7 P t with
   | some l'=>lh l' l
   | none=>false))))
theorem or_none{U:Type}[DecidableEq U]{a b:Option U}(h:(b.isNone || decide (a=b))=true):b=none\/a=b:=by
 rw [nr] at h
 rcases h with h|h
 ·left;cases b<;>simp_all
 ·right;exact of_decide_eq_true h
theorem iJ{P:Program}{t:Nat}{i:TI}(h:l4 P t i=true):Ek P t i:=by
 unfold l4 at h;simp only [d6] at h;obtain⟨o,f,n,m,j,b⟩:=h
 have a:(i.ik=none\/P.underlying t=i.ik.map .int)/\(i.st=false\/P.underlying t=some .string)/\(i.pt=false\/∃e,P.underlying t=some (.pointer e))/\(i.bo=false\/P.underlying t=some .bool):=by
  unfold mx at f;split at f
  ·rename_i k hk
   cases g:i.ik<;>simp_all
  all_goals simp_all
 refine⟨or_none o,a.1,a.2.1,or_none n,or_none m,Ud j,a.2.2.1,a.2.2.2,?_⟩;split at b
 ·rename_i d;exact .inl d
 ·rename_i l d
  split at b
  ·rename_i l' c
   right;rw [c,d,dc b]
  ·cases b
def gh(P:Program):List (Nat×TI)->Bool
 | []=>true
 | (t,i)::r=>l4 P t i && gh P r
theorem VB{P:Program}:∀ {l:List (Nat×TI)},gh P l=true->Vr P l
 | [],_=>trivial
 | (t,i)::r,h=>by
  unfold gh at h;rw [d6] at h;exact⟨iJ h.1,VB h.2⟩
class CS (P:Program) where
 T:List (Nat×TI)
 ok:Vr P T
def II:List (Nat×TI)->Nat->TI
 | [],_=>{}
 | (k,x)::r,t=>bif Nat.beq k t then x else II r t
def nth{U:Type}:List U->Nat->Option U
 | [],_=>none
 | x::_,0=>some x
 | _::r,n+1=>nth r n
theorem Mb{U:Type}:∀(l:List U) (i:Nat),nth l i=l[i]?
 | [],_=>by simp [nth]
 | o::_,0=>by simp [nth]
 | _::r,n+1=>by simp [nth,Mb r n]
theorem Dw{P:Program}(t:Nat):∀ {T:List (Nat×TI)},Vr P T->Ek P t (II T t)
 | [],_=>⟨.inl rfl,.inl rfl,.inl rfl,.inl rfl,.inl rfl,trivial,.inl rfl,.inl rfl,.inl rfl⟩
 | (k,x)::r,h=>by
  unfold II;cases hb:Nat.beq k t
  ·exact Dw t h.2
  ·have:=i7 hb
   subst this;exact h.1
section
variable {P:Program}{t:Nat}{i:TI}
theorem Ek.Li(h:Ek P t i){ag:Bool}{n:Nat}(e:i.ld=some (ag,n)):DU P t ag n:=⟨by rcases h.ld with h|h<;>simp_all⟩
theorem Ek.ZQ(h:Ek P t i){k:IntKind}(e:i.ik=some k):Fq P t k:=⟨by rcases h.ik with h|h<;>simp_all⟩
theorem Ek.ZS(h:Ek P t i)(e:i.st=true):CR P t:=⟨by rcases h.st with h|h<;>simp_all⟩
theorem Ek.Sr(h:Ek P t i){e k b:Nat}(a:i.sl=some (e,k,b)):CO P t e k b:=⟨by rcases h.sl with h|h<;>simp_all⟩
theorem Ek.jG(h:Ek P t i){n k:Nat}(a:i.ar=some (n,k)):OR P t n k:=⟨by rcases h.ar with h|h<;>simp_all⟩
theorem Ek.ZR(h:Ek P t i)(e:i.pt=true):TQ P t:=⟨h.pt.resolve_left (by simp [e])⟩
theorem Ek.dH(h:Ek P t i)(e:i.bo=true):P7 P t:=⟨by rcases h.bo with h|h<;>simp_all⟩
theorem Ek.ZT(h:Ek P t i){z:List Value}(e:i.ze=some z):BU P t z:=⟨by rcases h.ze with h|h<;>simp_all⟩
theorem RK.get:∀ {l:List (Option (Nat×Bool×Nat))} {k j:Nat} {x:Nat×Bool×Nat},RK P t k l->nth l j=some (some x)->XD P t (k+j)=some x.1/\XE P t (k+j)=some x
 | [],_,_,_,_,h=>by simp [nth] at h
 | none::r,k,0,x,_,h=>by simp [nth] at h
 | some y::r,k,0,x,a,h=>by simp [nth] at h;subst h;exact a.1
 | none::r,k,j+1,x,a,h=>by
  have:=RK.get (l:=r) (k:=k+1) (j:=j) (x:=x) a h;rwa [show k+(j+1)=k+1+j by omega]
 | some y::r,k,j+1,x,a,h=>by
  have:=RK.get (l:=r) (k:=k+1) (j:=j) (x:=x) a.2 h;rwa [show k+(j+1)=k+1+j by omega]
theorem Ek.gE(h:Ek P t i){j off n:Nat}{ag:Bool}(e:nth i.fl j=some (some (off,ag,n))):P8 P t j off:=⟨by have:=(h.fl.get e).1;rwa [ms] at this⟩
theorem Ek.dI(h:Ek P t i){j off n:Nat}{ag:Bool}(e:nth i.fl j=some (some (off,ag,n))):LM P t j off ag n:=⟨by have:=(h.fl.get e).2;rwa [ms] at this⟩
end
def FR(P:Program)(TB:Bi)(Γ:Ctx)(ops:Array Oper)(o:Oper)(fl:Fl)(i n:Nat)(K:Env->Ab->Nat->Prop)(L:List (Nat×E))(σ:Ab)(nx:Nat):Prop:=
 Bj ops o (look L)=some true->A4 P TB Γ ops o fl i n K L σ nx
def xE:Bool×List C->Option E
 | (false,[c])=>some (.o c)
 | (true,cs)=>some (.a cs)
 | _=>none
def lG(f:Env):Op->Option E
 | .move x=>ev f x
 | .pick c x y=>match ev f c with
  | some (.o (.d (.v (.bool true))))=>ev f x
  | some (.o (.d (.v (.bool false))))=>ev f y
  | _=>none
 | .extract x k=>match ev f x with
  | some (.t xs)=>(xs[k]?).bind xE
  | _=>none
 | .nilCheck x=>match ev f x with
  | some (.o (.d (.p cs)))=>some (.o (.ip cs))
  | some (.o (.ptr id k i j))=>some (.o (.ptr id k i j))
  | some (.o (.fn gg cs))=>some (.o (.fn gg cs))
  | _=>none
 | _=>none
def iW:IntKind->IntKind->Bool
 | .i64,.i64|.u8,.u8|.u64,.u64|.i32,.i32|.u16,.u16|.u32,.u32=>true
 | _,_=>false
theorem MZ{a b:IntKind}(h:iW a b=true):a=b:=by cases a<;>cases b<;>first|rfl|cases h
def jv(o:BinOp)(m n:Int):Option Bool:=match o with
 | .lss=>some (decide (m < n))
 | .leq=>some (decide (m<=n))
 | .gtr=>some (decide (m > n))
 | .geq=>some (decide (m>=n))
 | .eql=>some (decide (m=n))
 | .neq=>some (decide (m≠n))
 | _=>none
def ju(o:BinOp)(a b:List UInt8):Option Bool:=match o with
 | .eql=>some (decide (a=b))
 | .neq=>some (decide (a≠b))
 | _=>none
def gm(o:BinOp):E->E->Option Bool
 | .o (.d (.v (.int k m))),.o (.d (.v (.int k' n)))=>match iW k k' with
  | true=>jv o m n
  | false=>none
 | .o (.d (.v (.string ⟨⟨a⟩⟩))),.o (.d (.v (.string ⟨⟨b⟩⟩)))=>ju o a b
 | _,_=>none
def YG:IntKind->Int->Option Prop
 | .i64,m=>some (-9223372036854775808<=m/\m<=9223372036854775807)
 | .u64,m=>some (0<=m/\m<=18446744073709551615)
 | .u8,m=>some (0<=m/\m<=255)
 | .i32,m=>some (-2147483648<=m/\m<=2147483647)
 | _,_=>none
def mg(o:BinOp)(k:IntKind)(m n:Int):Option (Prop×E):=match o with
 | .add=>(YG k (m+n)).map λq=>(q,eI k (m+n))
 | .sub=>(YG k (m - n)).map λq=>(q,eI k (m - n))
 | .mul=>(YG k (m*n)).map λq=>(q,eI k (m*n))
 | .rem=>some (0<=m/\0 < n,eI k (m % n))
 | .and=>some (True,eI k (E4 k m n))
 | .or=>some (True,eI k (ZW k m n))
 | _=>none
def lA(o:BinOp):E->E->Option (Prop×E)
 | .o (.d (.v (.int k m))),.o (.d (.v (.int k' n)))=>match o with
  | .shr=>some (0<=n,eI k (m.fdiv (2 ^ (min n.toNat k.bits))))
  | .quo=>match iW k .i64,iW k' .i64 with
   | true,true=>some ((0<=m/\m<=9223372036854775807)/\0 < n,eI .i64 (m / n))
   | _,_=>none
  | o=>match iW k k' with
   | true=>mg o k m n
   | false=>none
 | .o (.d (.v (.string ⟨⟨a⟩⟩))),.o (.d (.v (.string ⟨⟨b⟩⟩)))=>match o with
  | .add=>some (a.length+b.length<=9223372036854775807,eT (a++b))
  | _=>none
 | _,_=>none
def gC(off:Nat):E->Option E
 | .o (.d (.p cs))=>some (.o (.ip (cs.drop off)))
 | .o (.ptr id k i j)=>some (.o (.ptr id k i (j+off)))
 | _=>none
def lM(ag:Bool)(n:Nat):E->Option E
 | .o (.d (.p cs))=>match ag,cs with
  | false,c::_=>some (.o (.d c))
  | true,cs=>match Nat.ble n cs.length with
   | true=>some (.a ((cs.take n).map .d))
   | false=>none
  | _,_=>none
 | _=>none
def gM(ag:Bool)(n j:Nat)(r:List C):Option E:=match ag with
 | false=>(r[j]?).map .o
 | true=>match Nat.ble (j+n) r.length with
  | true=>some (.a ((r.drop j).take n))
  | false=>none
def lI(ag:Bool)(off n:Nat)(cs:List C):Option E:=match ag with
 | false=>(cs[off]?).map .o
 | true=>match Nat.ble (off+n) cs.length with
  | true=>some (.a ((cs.drop off).take n))
  | false=>none
def lL(k:Nat)(n:Int):E->Option E
 | .o (.d (.p cs))=>some (.o (.ip (cs.drop (n.toNat*k))))
 | .o (.ptr id k' i j)=>some (.o (.ptr id k' i (j+n.toNat*k)))
 | _=>none
def lN(k:Nat):E->Option E
 | .o (.d (.l rows))=>some (eI .i64 rows.length)
 | .o (.arr _ k' _ len)=>match Nat.beq k' k with
  | true=>some (eI .i64 len)
  | false=>none
 | _=>none
def tr:Option E->Option (Prop×E)
 | some e=>some (True,e)
 | none=>none
def gY:Bool->E->E->Option (Prop×E)
 | true,.o (.d (.p _)),.o (.d (.v (.pointer none)))=>some (True,eB false)
 | true,.o (.d (.v (.pointer none))),.o (.d (.v (.pointer none)))=>some (True,eB true)
 | _,_,_=>none
def jr(pt:Bool)(o:BinOp)(a b:E):Option (Prop×E):=match o with
 | .eql=>gY pt a b
 | o=>lA o a b
def gH(i:TI):E->E->Option (Prop×E)
 | .o (.arr id k off len),.o (.d (.v (.int _ m)))=>match i.sl with
  | some (_,k',_)=>match Nat.beq k k' with
   | true=>some (0<=m/\m < len,.o (.ptr id k (off+m.toNat) 0))
   | false=>none
  | none=>none
 | a, .o (.d (.v (.int _ m)))=>match i.ar with
  | some (len,k)=>match lL k m a with
   | some e=>some (0<=m/\m < len,e)
   | none=>none
  | none=>none
 | _,_=>none
def gP(i:TI):E->Option E
 | .o (.d (.v (.string ⟨⟨s⟩⟩)))=>match i.st with
  | true=>some (eI .i64 s.length)
  | false=>none
 | e=>match i.sl with
  | some (_,k,_)=>lN k e
  | none=>none
def gp(k k':IntKind):E->Option (Prop×E)
 | .o (.d (.v (.int a m)))=>match iW a k,YG k' m with
  | true,some q=>some (q,eI k' m)
  | _,_=>none
 | _=>none
def cg(T:List (Nat×TI))(md:Bool)(f:Env):Op->Option (Prop×E)
 | .assign x=>match md,notNil x with
  | true,false=>none
  | _,_=>tr (ev f x)
 | .binOp o t x y _=>match ev f x,ev f y with
  | some a,some b=>jr (II T t).pt o a b
  | _,_=>none
 | .fieldAddr s x k=>match nth (II T s).fl k,ev f x with
  | some (some (off,_,_)),some a=>tr (gC off a)
  | _,_=>none
 | .field t x k=>match nth (II T t).fl k,ev f x with
  | some (some (off,ag,n)),some (.a cs)=>tr (lI ag off n cs)
  | _,_=>none
 | .load t x=>match (II T t).ld,ev f x with
  | some (ag,n),some a=>tr (lM ag n a)
  | _,_=>none
 | .indexAddr t x y=>match ev f x,ev f y with
  | some a,some b=>gH (II T t) a b
  | _,_=>none
 | .call ⟨.builtin .len,⟨[x]⟩,⟨[t]⟩⟩=>match ev f x with
  | some a=>tr (gP (II T t) a)
  | none=>none
 | .convert s t x=>match (II T s).ik,(II T t).ik,ev f x with
  | some k,some k',some a=>gp k k' a
  | _,_,_=>none
 | .makeFunc (.func gg) ⟨[]⟩ caps=>match Il f caps.toList with
  | some es=>match c6 es with
   | some cs=>some (True,.o (.fn gg cs))
   | none=>none
  | none=>none
 | op=>tr (lG f op)
def mh:BinOp->E->E->Option Bool
 | .eql,.o (.d (.v (.bool a))),.o (.d (.v (.bool b)))=>some (a == b)
 | .neq,.o (.d (.v (.bool a))),.o (.d (.v (.bool b)))=>some (a != b)
 | _,_,_=>none
def Tg(T:List (Nat×TI))(f:Env):Op->Option Bool
 | .binOp o t x y _=>match ev f x,ev f y with
  | some a,some b=>match (II T t).bo with
   | true=>mh o a b
   | false=>gm o a b
  | _,_=>none
 | .unOp .not _ x=>match ev f x with
  | some (.o (.d (.v (.bool b))))=>some (!b)
  | _=>none
 | _=>none
def Lt(T:List (Nat×TI))(σ:Ab)(f:Env):Op->Option E
 | .load t x=>match (II T t).ld,ev f x with
  | some (ag,n),some (.o (.ptr id k i j))=>match look σ id with
   | some (.cells _ k' rows)=>match Nat.beq k k',nth rows i with
    | true,some r=>gM ag n j r
    | _,_=>none
   | _=>none
  | _,_=>none
 | _=>none
def PG(T:List (Nat×TI))(σ:Ab)(f:Env)(t:Nat)(x y:Operand):Option Ab:=
 match (II T t).ld,ev f x,ev f y with
 | some (_,n),some (.o (.ptr id k i j)),some e=>match look σ id with
  | some (.cells ct k' rows)=>match Nat.beq k k',nth rows i with
   | true,some r=>match Sf e,Nat.beq (eC e).length n,Nat.ble (j+n) k with
    | true,true,true=>some ((id,.cells ct k (rows.set i (Ae r j (eC e))))::σ)
    | _,_,_=>none
   | _,_=>none
  | _=>none
 | _,_,_=>none
section
variable {P:Program}{TB:Bi}{Γ:Ctx}{d:Option Tmp}{ty:TypeId}{pos:String}{af:Array Edge}{g:Option (Nat×Bool)}{f:Env}{σ:Ab}{nx:Nat}
theorem WN{t:TypeId}{a b:Bool}(c:P.underlying t=some .bool)(w:World):(Op.equal t (.bool a) (.bool b)).run P w=.ok (a == b) w:=by
 unfold Op.equal Op.maxDepth;rw [show 10000=9999+1 from rfl,Op.equalIn];simp [run_underlying c,go_sem]
theorem jX{t yt:TypeId}{x y:Operand}{a b:Bool}[hp:P7 P t](e:ev f x=some (eB a))(c:ev f y=some (eB b)):AO P TB Γ ⟨d,.binOp .eql t x y yt,ty,pos,af,g⟩ f σ nx (eB (a == b)):=
 Bs e c rfl λw=>by
  have i:binOp .eql t (.bool a) (.bool b)=(do pure (.bool (<-Op.equal t (.bool a) (.bool b)))):=rfl;have h:eqGuard .eql t x y (.bool a) (.bool b)=pure ():=rfl;rw [i,h];simp [WN hp.out w,go_sem]
theorem kj{t yt:TypeId}{x y:Operand}{a b:Bool}[hp:P7 P t](e:ev f x=some (eB a))(c:ev f y=some (eB b)):AO P TB Γ ⟨d,.binOp .neq t x y yt,ty,pos,af,g⟩ f σ nx (eB (a != b)):=
 Bs e c rfl λw=>by
  have i:binOp .neq t (.bool a) (.bool b)=(do pure (.bool (!(<-Op.equal t (.bool a) (.bool b))))):=rfl;have h:eqGuard .neq t x y (.bool a) (.bool b)=pure ():=rfl;rw [i,h];simp [WN hp.out w,go_sem,bne]
theorem mR{op:Op}{e:E}(h:lG f op=some e):AO P TB Γ ⟨d,op,ty,pos,af,g⟩ f σ nx e:=by
 unfold lG at h;split at h
 ·exact iv h
 ·split at h
  ·rename_i a;exact eQ a h
  ·rename_i a;exact eP a h
  ·cases h
 ·split at h
  ·rename_i a
   refine Yy a ?_;rw [<-h];congr 1
  ·cases h
 ·split at h
  ·rename_i a;injection h with h;subst h;exact eO a
  ·rename_i a;injection h with h;subst h;exact iw a
  ·rename_i a;injection h with h;subst h;exact eM a
  ·cases h
 ·cases h
theorem jW{o:BinOp}{t yt:TypeId}{x y:Operand}{ex ey:E}{c:Bool}(e:ev f x=some ex)(b:ev f y=some ey)(a:gm o ex ey=some c) :
 AO P TB Γ ⟨d,.binOp o t x y yt,ty,pos,af,g⟩ f σ nx (eB c):=by
 unfold gm at a;split at a
 ·split at a
  ·rename_i hk
   have hk:=MZ hk;subst hk;unfold jv at a
   split at a<;>first|(injection a with a;subst a)|cases a
   ·exact ki e b
   ·exact kh e b
   ·exact kc e b
   ·exact ka e b
   ·exact j8 e b
   ·exact kl e b
  ·cases a
 ·unfold ju at a
  split at a<;>first|(injection a with a;subst a)|cases a
  ·exact jY e b
  ·exact kk e b
 ·cases a
theorem Ru{k:IntKind}{m:Int}{q:Prop}(h:YG k m=some q)(a:q):k.wrap m=m:=by
 unfold YG at h
 split at h<;>first|(injection h with h;subst h)|cases h
 ·exact IntWalk.i64_in _ a
 ·exact IntWalk.u64_in _ a
 ·exact IntWalk.u8_in _ a
 ·exact IntWalk.i32_in _ a
theorem lS{o:BinOp}{t yt:TypeId}{x y:Operand}{ex ey e:E}{q:Prop}(j:ev f x=some ex)(i:ev f y=some ey)(a:lA o ex ey=some (q,e))(h:q) :
 AO P TB Γ ⟨d,.binOp o t x y yt,ty,pos,af,g⟩ f σ nx e:=by
 unfold lA at a;split at a
 ·split at a
  ·injection a with a;injection a with c b;subst c;subst b;exact kr j i h rfl
  ·split at a
   ·rename_i hk k
    have hk:=MZ hk;have k:=MZ k;subst hk;subst k
    injection a with a;injection a with c b;subst c;subst b;exact iy j i h.1.1 h.1.2 h.2
   ·cases a
  ·split at a
   ·rename_i hk
    have hk:=MZ hk;subst hk;unfold mg at a;split at a
    ·obtain⟨q',l,m⟩:=d7.1 a
     injection m with c b;subst c;subst b;exact jU j i (Ru l h)
    ·obtain⟨q',l,m⟩:=d7.1 a
     injection m with c b;subst c;subst b;exact kt j i (Ru l h)
    ·obtain⟨q',l,m⟩:=d7.1 a
     injection m with c b;subst c;subst b;exact fS j i (Ru l h)
    ·injection a with a;injection a with c b;subst c;subst b;exact iz j i h.1 h.2
    ·injection a with a;injection a with c b;subst b;exact jV j i rfl
    ·injection a with a;injection a with c b;subst b;exact ix j i rfl
    ·cases a
   ·cases a
 ·split at a
  ·injection a with a;injection a with c b;subst c;subst b;exact fR j i h
  ·cases a
 ·cases a
theorem j9{s k off:Nat}{x:Operand}{ex e:E}[b:P8 P s k off](a:ev f x=some ex)(h:gC off ex=some e):AO P TB Γ ⟨d,.fieldAddr s x k,ty,pos,af,g⟩ f σ nx e:=by
 unfold gC at h
 split at h<;>first|(injection h with h;subst h)|cases h
 ·exact Yz a
 ·exact bI a
theorem lW{t:TypeId}{x:Operand}{ex e:E}{ag:Bool}{n:Nat}[b:DU P t ag n](a:ev f x=some ex)(h:lM ag n ex=some e):AO P TB Γ ⟨d,.load t x,ty,pos,af,g⟩ f σ nx e:=by
 unfold lM at h;split at h
 ·split at h
  ·injection h with h;subst h;exact SW a
  ·split at h
   ·rename_i hb;injection h with h;subst h;exact YB a (co hb)
   ·cases h
  ·cases h
 ·cases h
theorem Wz{t:TypeId}{x:Operand}{id k i j:Nat}{T:TypeId}{rows:List (List C)}{r:List C}{e:E}{ag:Bool}{n:Nat}[q:DU P t ag n](a:ev f x=some (.o (.ptr id k i j)))(l:look σ id=some (.cells T k rows))(b:rows[i]? = some r)
 (h:gM ag n j r=some e):AO P TB Γ ⟨d,.load t x,ty,pos,af,g⟩ f σ nx e:=by
 unfold gM at h;split at h
 ·obtain⟨c,p,m⟩:=d7.1 h
  subst m;exact Rn a l b p
 ·split at h
  ·rename_i hb;injection h with h;subst h;exact bQ a l b (co hb)
  ·cases h
theorem lU{t:TypeId}{x:Operand}{k off n:Nat}{ag:Bool}{cs:List C}{e:E}[l:LM P t k off ag n](b:ev f x=some (.a cs))(h:lI ag off n cs=some e):AO P TB Γ ⟨d,.field t x k,ty,pos,af,g⟩ f σ nx e:=by
 unfold lI at h;split at h
 ·obtain⟨c,j,i⟩:=d7.1 h
  subst i;exact eH b j
 ·split at h
  ·rename_i hb;injection h with h;subst h;exact bH b (co hb)
  ·cases h
theorem lV{t:TypeId}{x y:Operand}{ex e:E}{n:Int}{len k:Nat}{ik:IntKind}[i:OR P t len k](c:ev f x=some ex)(b:ev f y=some (eI ik n))(h:lL k n ex=some e)(a:0<=n/\n < len) :
 AO P TB Γ ⟨d,.indexAddr t x y,ty,pos,af,g⟩ f σ nx e:=by
 unfold lL at h
 split at h<;>first|(injection h with h;subst h)|cases h
 ·exact YA c b a.1 a.2
 ·exact bM c b a.1 a.2
theorem kg{t e:TypeId}{x:Operand}{ex r:E}{k b:Nat}[c:CO P t e k b](a:ev f x=some ex)(h:lN k ex=some r):AO P TB Γ ⟨d,.call ⟨.builtin .len,#[x],#[t]⟩,ty,pos,af,g⟩ f σ nx r:=by
 unfold lN at h;split at h
 ·injection h with h;subst h;exact bP a
 ·split at h
  ·injection h with h;subst h;exact im a
  ·cases h
 ·cases h
theorem KZ{x:Option E}{q:Prop}{e:E}(h:tr x=some (q,e)):x=some e:=by
 cases x with
 | none=>cases h
 | some y=>injection h with h;injection h with _ h;rw [h]
theorem gR{i:TI}{t:TypeId}{x:Operand}{a e:E}(hi:Ek P t i)(c:ev f x=some a)(h:gP i a=some e):AO P TB Γ ⟨d,.call ⟨.builtin .len,#[x],#[t]⟩,ty,pos,af,g⟩ f σ nx e:=by
 unfold gP at h;split at h
 ·split at h
  ·rename_i b
   injection h with h;subst h
   haveI:=hi.ZS b;exact iu c
  ·cases h
 ·split at h
  ·rename_i b
   haveI:=hi.Sr b;exact kg c h
  ·cases h
theorem gK{i:TI}{t:TypeId}{x y:Operand}{a b e:E}{q:Prop}(hi:Ek P t i)(n:ev f x=some a)(m:ev f y=some b)(h:gH i a b=some (q,e))(j:q):AO P TB Γ ⟨d,.indexAddr t x y,ty,pos,af,g⟩ f σ nx e:=by
 unfold gH at h;split at h
 ·split at h
  ·rename_i c
   split at h
   ·rename_i hk
    injection h with h;injection h with l k;subst l;subst k
    have:=i7 hk;subst this;haveI:=hi.Sr c;exact bJ n m j.1 j.2
   ·cases h
  ·cases h
 ·split at h
  ·rename_i c
   split at h
   ·rename_i o
    injection h with h;injection h with l k;subst l;subst k
    haveI:=hi.jG c;exact lV n m o j
   ·cases h
  ·cases h
 ·cases h
theorem gZ{i:TI}{t yt:TypeId}{x y:Operand}{a b e:E}{q:Prop}(hi:Ek P t i)(k:ev f x=some a)(j:ev f y=some b)(h:gY i.pt a b=some (q,e)):AO P TB Γ ⟨d,.binOp .eql t x y yt,ty,pos,af,g⟩ f σ nx e:=by
 unfold gY at h;split at h
 ·rename_i hp
  injection h with h;injection h with l c;subst c
  haveI:=hi.ZR hp;exact Yx k j
 ·rename_i hp
  injection h with h;injection h with l c;subst c
  haveI:=hi.ZR hp;exact UN k j
 ·cases h
theorem gq{i i':TI}{s t:TypeId}{k k':IntKind}{x:Operand}{a e:E}{q:Prop}(hi:Ek P s i)(c:Ek P t i')(hk:i.ik=some k)(b:i'.ik=some k')(l:ev f x=some a)(h:gp k k' a=some (q,e))(n:q):AO P TB Γ ⟨d,.convert s t x,ty,pos,af,g⟩ f σ nx e:=by
 unfold gp at h;split at h
 ·split at h
  ·rename_i j m
   injection h with h;injection h with p o;subst p;subst o
   have j:=MZ j;subst j;haveI:=hi.ZQ hk;haveI:=c.ZQ b;exact QZ l (Ru m n)
  ·cases h
 ·cases h
theorem WK[n:CS P]{md:Bool}{op:Op}{q:Prop}{e:E}(h:cg n.T md f op=some (q,e))(i:q):AO P TB Γ ⟨d,op,ty,pos,af,g⟩ f σ nx e:=by
 have a:=λt=>Dw (P:=P) t n.ok;unfold cg at h;split at h
 ·split at h
  ·cases h
  ·exact JP (KZ h)
 ·rename_i o t x y yt
  split at h
  ·rename_i b c
   unfold jr at h;split at h
   ·exact gZ (a t) b c h
   ·exact lS b c h i
  ·cases h
 ·rename_i s x k
  split at h
  ·rename_i j b
   haveI:=(a s).gE j;exact j9 b (KZ h)
  ·cases h
 ·rename_i t x k
  split at h
  ·rename_i j b
   haveI:=(a t).dI j;exact lU b (KZ h)
  ·cases h
 ·rename_i t x
  split at h
  ·rename_i p b
   haveI:=(a t).Li p;exact lW b (KZ h)
  ·cases h
 ·rename_i t x y
  split at h
  ·rename_i b c
   exact gK (a t) b c h i
  ·cases h
 ·rename_i x t
  split at h
  ·rename_i b
   exact gR (a t) b (KZ h)
  ·cases h
 ·rename_i s t x
  split at h
  ·rename_i m l b
   exact gq (a s) (a t) m l b h i
  ·cases h
 ·split at h
  ·rename_i m
   split at h
   ·rename_i l
    injection h with h;injection h with _ h;subst h
    exact lT m l
   ·cases h
  ·cases h
 ·exact mR (KZ h)
theorem Th[i:CS P]{op:Op}{c:Bool}(h:Tg i.T f op=some c):AO P TB Γ ⟨d,op,ty,pos,af,g⟩ f σ nx (eB c):=by
 have e:=λt=>Dw (P:=P) t i.ok;unfold Tg at h;split at h
 ·rename_i o t x y yt
  split at h
  ·rename_i a b
   split at h
   ·rename_i hb
    haveI:=(e t).dH hb;unfold mh at h;split at h
    ·injection h with h;subst h;exact jX a b
    ·injection h with h;subst h;exact kj a b
    ·cases h
   ·exact jW a b h
  ·cases h
 ·split at h
  ·rename_i a
   injection h with h;subst h
   exact km a
  ·cases h
 ·cases h
theorem NI[c:CS P]{op:Op}{e:E}(h:Lt c.T σ f op=some e):AO P TB Γ ⟨d,op,ty,pos,af,g⟩ f σ nx e:=by
 have a:=λt=>Dw (P:=P) t c.ok;unfold Lt at h;split at h
 ·rename_i t x
  split at h
  ·rename_i k i
   split at h
   ·rename_i j
    split at h
    ·rename_i hk b
     have hk:=i7 hk;subst hk;haveI:=(a t).Li k;rw [Mb] at b;exact Wz i j b h
    ·cases h
   ·cases h
  ·cases h
 ·cases h
theorem NJ[c:CS P]{t:TypeId}{x y:Operand}{σ':Ab}{K:E->Ab->Nat->Prop}(h:PG c.T σ f t x y=some σ')(l:K (.t []) σ' nx):BS P TB Γ ⟨d,.store t x y,ty,pos,af,g⟩ f σ nx K:=by
 have a:=λt=>Dw (P:=P) t c.ok;unfold PG at h;split at h
 ·rename_i k i e
  split at h
  ·rename_i j
   split at h
   ·rename_i hk b
    split at h
    ·rename_i o n m
     have hk:=i7 hk;subst hk;haveI:=(a t).Li k;rw [Mb] at b
     injection h with h
     subst h;exact Eb i e o j b (i7 n) (co m) l
    ·cases h
   ·cases h
  ·cases h
 ·cases h
end
section
variable {P:Program}{TB:Bi}{Γ:Ctx}{ops:Array Oper}{fl:Fl}{i n:Nat}{L:List (Nat×E)}{σ:Ab}{nx:Nat}{K:Env->Ab->Nat->Prop}{d:Tmp}{ty:TypeId}{pos:String}{af:Array Edge}{g:Option (Nat×Bool)}{op:Op}
theorem gA{d:Option Tmp}(a:Bj ops ⟨d,op,ty,pos,af,g⟩ (look L)=some true)(h:FR P TB Γ ops ⟨d,op,ty,pos,af,g⟩ fl i n K L σ nx):A4 P TB Γ ops ⟨d,op,ty,pos,af,g⟩ fl i n K L σ nx:=h a
theorem gS{x:E}(a:∀σ nx,AO P TB Γ ⟨some d,op,ty,pos,af,g⟩ (look L) σ nx x)(h:Lex P TB Γ ops (Ak fl (i+1) n) K (look ((d,x)::L)) σ nx):FR P TB Γ ops ⟨some d,op,ty,pos,af,g⟩ fl i n K L σ nx:=λb=>Ew a b h
theorem gQ{x:E}(a:AO P TB Γ ⟨some d,op,ty,pos,af,g⟩ (look L) σ nx x)(c:RU (fl i)=true)(h:Lex P TB Γ ops (Ak fl (i+1) n) K (look ((d,x)::L)) σ nx):FR P TB Γ ops ⟨some d,op,ty,pos,af,g⟩ fl i n K L σ nx:=λb=>ig a b c h
theorem gB{c:Bool}(a:∀σ nx,AO P TB Γ ⟨some d,op,ty,pos,af,g⟩ (look L) σ nx (eB c))(h:∀b,c=b->Lex P TB Γ ops (Ak fl (i+1) n) K (look ((d,eB b)::L)) σ nx):FR P TB Γ ops ⟨some d,op,ty,pos,af,g⟩ fl i n K L σ nx:=λe=>Yw a e h
theorem gW(h:BS P TB Γ ⟨some d,op,ty,pos,af,g⟩ (look L) σ nx (λx σ' nx'=>Lex P TB Γ ops (Ak fl (i+1) n) K (look ((d,x)::L)) σ' nx'))(b:fl i=1):FR P TB Γ ops ⟨some d,op,ty,pos,af,g⟩ fl i n K L σ nx:=λa=>OH h a b
theorem mn(h:BS P TB Γ ⟨none,op,ty,pos,af,g⟩ (look L) σ nx (λ_ σ' nx'=>Lex P TB Γ ops (Ak fl (i+1) n) K (look L) σ' nx'))(b:fl i=1):FR P TB Γ ops ⟨none,op,ty,pos,af,g⟩ fl i n K L σ nx:=λa=>EO h a b
theorem yQ{md:Bool}[b:CS P]{q:Prop}{x:E}(h:cg b.T md (look L) op=some (q,x))(a:q)(hk:Lex P TB Γ ops (Ak fl (i+1) n) K (look ((d,x)::L)) σ nx):FR P TB Γ ops ⟨some d,op,ty,pos,af,g⟩ fl i n K L σ nx:=gS (λ_ _=>WK h a) hk
theorem yB[a:CS P]{c:Bool}(h:Tg a.T (look L) op=some c)(hk:∀b,c=b->Lex P TB Γ ops (Ak fl (i+1) n) K (look ((d,eB b)::L)) σ nx):FR P TB Γ ops ⟨some d,op,ty,pos,af,g⟩ fl i n K L σ nx:=gB (λ_ _=>Th h) hk
theorem yS[b:CS P]{x:E}(h:Lt b.T σ (look L) op=some x)(a:RU (fl i)=true)(hk:Lex P TB Γ ops (Ak fl (i+1) n) K (look ((d,x)::L)) σ nx):FR P TB Γ ops ⟨some d,op,ty,pos,af,g⟩ fl i n K L σ nx:=gQ (NI h) a hk
theorem yW[b:CS P]{t:TypeId}{x y:Operand}{σ':Ab}(h:PG b.T σ (look L) t x y=some σ')(a:fl i=1)(hk:Lex P TB Γ ops (Ak fl (i+1) n) K (look L) σ' nx):FR P TB Γ ops ⟨none,.store t x y,ty,pos,af,g⟩ fl i n K L σ nx:=mn (NJ h hk) a
theorem yO[b:CS P]{T:TypeId}{z:List Value}(h:(II b.T T).ze=some z)(a:z.all OQ=true)(c:fl i=1)(e:Lex P TB Γ ops (Ak fl (i+1) n) K (look ((d,.o (.ptr nx z.length 0 0))::L)) ((nx,.cells T z.length [z.map zC])::σ) (nx+1)):FR P TB Γ ops ⟨some d,.alloc T,ty,pos,af,g⟩ fl i n K L σ nx:=
 haveI:=(Dw (P:=P) T b.ok).ZT h
 gW (dX a e) c
theorem yM[a:CS P]{t:TypeId}{x:Operand}{id k i' j:Nat}{T:TypeId}{rows:List (List C)}{r:List C}{e:E}{ag:Bool}{m:Nat}(b:ev (look L) x=some (.o (.ptr id k i' j)))(f:look σ id=some (.cells T k rows))(c:rows[i']? = some r)(l:(II a.T t).ld=some (ag,m))
 (h:gM ag m j r=some e) (p:RU (fl i)=true) (hk:Lex P TB Γ ops (Ak fl (i+1) n) K (look ((d,e)::L)) σ nx):FR P TB Γ ops ⟨some d,.load t x,ty,pos,af,g⟩ fl i n K L σ nx:=
 haveI:=(Dw (P:=P) t a.ok).Li l
 gQ (Wz b f c h) p hk
theorem yV[b:CS P]{t:TypeId}{x y:Operand}{id k i' j m:Nat}{T:TypeId}{rows:List (List C)}{r:List C}{e:E}{ag:Bool}(d:ev (look L) x=some (.o (.ptr id k i' j)))(c:ev (look L) y=some e)(h:Sf e=true)(a:look σ id=some (.cells T k rows))(f:rows[i']? = some r)
 (p:(II b.T t).ld=some (ag,m)) (l:(eC e).length=m) (q:Nat.ble (j+m) k=true) (s:fl i=1) (hk:Lex P TB Γ ops (Ak fl (i+1) n) K (look L) ((id,.cells T k (rows.set i' (Ae r j (eC e))))::σ) nx):FR P TB Γ ops ⟨none,.store t x y,ty,pos,af,g⟩ fl i n K L σ nx:=
 haveI:=(Dw (P:=P) t b.ok).Li p
 mn (Eb d c h a f l (co q) hk) s
theorem mU[a:CS P]{U:Type}{t e:TypeId}{x:Operand}{l:List U}{h:U->List D}{k b:Nat}(c:ev (look L) x=some (.o (.d (.l (l.map h)))))(f:(II a.T t).sl=some (e,k,b))(hk:Lex P TB Γ ops (Ak fl (i+1) n) K (look ((d,eI .i64 l.length)::L)) σ nx):FR P TB Γ ops ⟨some d,.call ⟨.builtin .len,#[x],#[t]⟩,ty,pos,af,g⟩ fl i n K L σ nx:=
 haveI:=(Dw (P:=P) t a.ok).Sr f
 gS (λ_ _=>iq c) hk
theorem yL[a:CS P]{t e:TypeId}{x y:Operand}{rows:List (List D)}{row:List D}{m:Int}{k b:Nat}{ik:IntKind}(f:ev (look L) x=some (.o (.d (.l rows))))(c:ev (look L) y=some (eI ik m))(h:rows[m.toNat]? = some row)(p:(II a.T t).sl=some (e,k,b))(j:row.length=k)(q:0<=m)
 (hk:Lex P TB Γ ops (Ak fl (i+1) n) K (look ((d,.o (.ip row))::L)) σ nx):FR P TB Γ ops ⟨some d,.indexAddr t x y,ty,pos,af,g⟩ fl i n K L σ nx:=
 haveI:=(Dw (P:=P) t a.ok).Sr p
 gS (λ_ _=>bL f c q h j) hk
theorem yT[a:CS P]{t:TypeId}{x y:Operand}{s:List UInt8}{m:Int}{c:UInt8}{ik:IntKind}(e:ev (look L) x=some (eT s))(b:ev (look L) y=some (eI ik m))(h:s[m.toNat]? = some c)(f:(II a.T t).st=true)(j:0<=m)
 (hk:Lex P TB Γ ops (Ak fl (i+1) n) K (look ((d,eI .u8 (c.toNat:Int))::L)) σ nx):FR P TB Γ ops ⟨some d,.index t x y,ty,pos,af,g⟩ fl i n K L σ nx:=
 haveI:=(Dw (P:=P) t a.ok).ZS f
 gS (λ_ _=>bO e b j h) hk
def lZ(k m:Nat)(z:List Value)(es:List E):Option (List (List D)):=match es.all Sf,Oc es with
 | true,some rows=>match rows.all λr=>Nat.beq r.length k,Nat.beq z.length k,z.all OQ,Nat.ble 1 k,Nat.ble (m*k) 16777216 with
  | true,true,true,true,true=>some rows
  | _,_,_,_,_=>none
 | _,_=>none
theorem yZ[c:CS P]{t e:TypeId}{k b m:Nat}{z:List Value}{parts:Array (Nat×Operand)}{es:List E}{rows:List (List D)}(q:(II c.T t).sl=some (e,k,b))(j:(II c.T e).ze=some z)(hp:Dc 0 (parts.toList.map (·.2))=parts.toList)(p:parts.toList.length=m)
 (f:Il (look L) (parts.toList.map (·.2))=some es) (a:lZ k m z es=some rows)
 (h:Lex P TB Γ ops (Ak fl (i+1) n) K (look ((d,.o (.d (.l rows)))::L)) σ nx):FR P TB Γ ops ⟨some d,.buildSlice t m parts,ty,pos,af,g⟩ fl i n K L σ nx:=by
 haveI:=(Dw (P:=P) t c.ok).Sr q;haveI:=(Dw (P:=P) e c.ok).ZT j;unfold lZ at a;split at a
 ·rename_i y x
  split at a
  ·rename_i w v u s r
   injection a with a
   subst a;exact gS (λ_ _=>bX hp p f y x w (i7 v) u s r) h
  ·cases a
 ·cases a
theorem yY{T:TypeId}{x:Operand}{e:E}{ds:List D}(a:ev (look L) x=some e)(b:Sf e=true)(c:OO (eC e)=some ds)(h:Lex P TB Γ ops (Ak fl (i+1) n) K (look ((d,.o (.ip ds))::L)) σ nx):FR P TB Γ ops ⟨some d,.box T x,ty,pos,af,g⟩ fl i n K L σ nx:=gS (λ_ _=>DJ a b c) h
def eb:Nat->List (Nat×Operand)->Bool
 | _,[]=>true
 | k,(i,_)::r=>Nat.beq i k && eb (k+1) r
theorem Wi:∀(l:List (Nat×Operand)) (k:Nat),eb k l=true->Dc k (l.map (·.2))=l
 | [],_,_=>rfl
 | (i,x)::r,k,h=>by
  unfold eb at h;rw [d6] at h;have a:=i7 h.1;subst a;have:=Wi r (i+1) h.2;simp [Dc,this]
def ei(c:Nat):Option E->Bool
 | some (.o (.ptr id _ _ _))=>RU c || (Nat.beq c (10+id) && !Nat.ble 1000 c)
 | _=>RU c
theorem cm{T:List (Nat×TI)}{σ σ':Ab}{f:Env}{t:TypeId}{x:Operand}{id k i j:Nat}(a:ev f x=some (.o (.ptr id k i j)))(h:look σ' id=look σ id):Lt T σ' f (.load t x)=Lt T σ f (.load t x):=by
 unfold Lt;simp only [a]
 cases (II T t).ld with
 | none=>rfl
 | some p=>obtain⟨ag,n⟩:=p;simp only [h]
def WJ(T:List (Nat×TI))(sl:Bool)(c nx:Nat)(σ:Ab)(L:List (Nat×E)):Option Tmp->Op->Option (List (Nat×E)×Ab×Nat)
 | some d,.alloc t=>match Nat.beq c 1,(II T t).ze with
  | true,some z=>match z.all OQ with
   | true=>some ((d,.o (.ptr nx z.length 0 0))::L,(nx,.cells t z.length [z.map zC])::σ,nx+1)
   | false=>none
  | _,_=>none
 | none,.store t x y=>match Nat.beq c 1,PG T σ (look L) t x y with
  | true,some σ'=>some (L,σ',nx)
  | _,_=>none
 | some d,.load t x=>match ei c (ev (look L) x),Lt T σ (look L) (.load t x) with
  | true,some e=>some ((d,e)::L,σ,nx)
  | _,_=>none
 | some d,.box _ x=>match sl,ev (look L) x with
  | true,some e=>match Sf e,OO (eC e) with
   | true,some ds=>some ((d,.o (.ip ds))::L,σ,nx)
   | _,_=>none
  | _,_=>none
 | some d,.buildSlice t m parts=>match sl,(II T t).sl with
  | true,some (e,k,_)=>match (II T e).ze,Il (look L) (parts.toList.map (·.2)) with
   | some z,some es=>match lZ k m z es,eb 0 parts.toList,Nat.beq parts.toList.length m with
    | some rows,true,true=>some ((d,.o (.d (.l rows)))::L,σ,nx)
    | _,_,_=>none
   | _,_=>none
  | _,_=>none
 | _,_=>none
theorem yU[o:CS P]{sl:Bool}{d:Option Tmp}{L':List (Nat×E)}{σ':Ab}{nx':Nat}(h:WJ o.T sl (fl i) nx σ L d op=some (L',σ',nx'))(hk:Lex P TB Γ ops (Ak fl (i+1) n) K (look L') σ' nx'):FR P TB Γ ops ⟨d,op,ty,pos,af,g⟩ fl i n K L σ nx:=by
 unfold WJ at h;split at h
 ·split at h
  ·rename_i a b
   split at h
   ·rename_i j
    injection h with h;injection h with f h;injection h with e c;subst f;subst e;subst c
    exact yO b j (i7 a) hk
   ·cases h
  ·cases h
 ·split at h
  ·rename_i a b
   injection h with h;injection h with f h;injection h with e c;subst f;subst e;subst c
   exact yW b (i7 a) hk
  ·cases h
 ·split at h
  ·rename_i a b
   injection h with h;injection h with f h;injection h with e c;subst f;subst e;subst c
   unfold ei at a;split at a
   ·rename_i l
    rw [nr] at a
    rcases a with a|a
    ·exact yS b a hk
    ·rw [d6] at a
     have j:=i7 a.1;refine λm=>jR (λσ' nx' k=>NI (by rw [j,Nat.add_sub_cancel_left] at k;rw [cm (σ:=σ) (σ':=σ') l k];exact b)) m ⟨pm (by omega),by simpa using a.2⟩ hk
   ·exact yS b a hk
  ·cases h
 ·split at h
  ·rename_i a
   split at h
   ·rename_i b j
    injection h with h;injection h with f h;injection h with e c;subst f;subst e;subst c
    exact yY a b j hk
   ·cases h
  ·cases h
 ·split at h
  ·rename_i a
   split at h
   ·rename_i b j
    split at h
    ·rename_i r q p
     injection h with h;injection h with f h;injection h with e c;subst f;subst e;subst c
     exact yZ a b (Wi _ _ q) (i7 p) j r hk
    ·cases h
   ·cases h
  ·cases h
 ·cases h
theorem yP{x:Operand}{args:Array Operand}{tys:Array TypeId}{gg:FuncId}{cap:List C}{es:List E}{r:E}(b:ev (look L) x=some (.o (.fn gg cap)))(a:Il (look L) args.toList=some es)(hp:(es.all E.Bt && C.Cv cap)=true)
 (c:Pure P TB gg (es++cap.map .o) r) (e:r.Bt=true) (h:Lex P TB Γ ops (Ak fl (i+1) n) K (look ((d,r)::L)) σ nx):FR P TB Γ ops ⟨some d,.call ⟨.value x,args,tys⟩,ty,pos,af,g⟩ fl i n K L σ nx:=gS (λ_ _=>A6 b a hp c e) h
theorem yC{x:Operand}{args:Array Operand}{tys:Array TypeId}{gg:FuncId}{cap:List C}{es:List E}{c:Bool}(e:ev (look L) x=some (.o (.fn gg cap)))(a:Il (look L) args.toList=some es)(hp:(es.all E.Bt && C.Cv cap)=true)
 (f:Pure P TB gg (es++cap.map .o) (eB c)) (h:∀b,c=b->Lex P TB Γ ops (Ak fl (i+1) n) K (look ((d,eB b)::L)) σ nx):FR P TB Γ ops ⟨some d,.call ⟨.value x,args,tys⟩,ty,pos,af,g⟩ fl i n K L σ nx:=gB (λ_ _=>A6 e a hp f rfl) h
theorem yG{d:Option Tmp}{j t:Nat}{w b:Bool}(f:(ops[j]?).bind (·.dst)=some t)(e:look L t=some (eB b))
 (a:b=true->Lex P TB Γ ops (Ak fl i (n+1)) K (look L) σ nx) (c:b=false->Lex P TB Γ ops (Ak fl i (n+1)) K (look L) σ nx):A4 P TB Γ ops ⟨d,op,ty,pos,af,some (j,w)⟩ fl i n K L σ nx:=by
 intro _;cases b
 ·exact c rfl
 ·exact a rfl
end
end Go.Am
