/-
  More rules: text out of a letter, parts of texts and lists, maps keyed by texts.
-/
import Derived.Test.YtgpbfllcjdfelaaGreatDoorPart10
import Derived.Laws.Slices
import Derived.MapKept
set_option linter.all false
namespace Go.Am
open Go
section
variable {P:Program}{TB:Bp}{Z:Ctx}{d:Option Tmp}{ty:TypeId}{pos:String}{af:Array Edge}{g:Option (Nat×Bool)}{f:Env}{σ:Ab}{nx:Nat}
variable {K:E->Ab->Nat->Prop}
theorem UK{s t:TypeId}{k:IntKind}{x:Operand}{n:Int}[c:Jq P s k][ht:DF P t](b:ev f x=some (eI k n))(m:0<=n)(l:n < 128):AW P TB Z ⟨d,.convert s t x,ty,pos,af,g⟩ f σ nx (eT [UInt8.ofNat n.toNat]):=
 AI λV ρ a _=>⟨.string ⟨#[UInt8.ofNat n.toNat]⟩,by
  have j:ρ x=.int k n:=AF.val (a.get (by simp [Op.operands]) b)
  have i:Utf8.valid n=true:=by simp [Utf8.valid];omega
  have h:n.toNat < 128:=by omega
  have e:Utf8.encode n=⟨#[UInt8.ofNat n.toNat]⟩:=by simp [Utf8.encode,i,h]
  simp [execOp,j,convert,run_underlying c.out,run_underlying ht.out,Conv.intToString,e,go_sem],.d (.v rfl)⟩
def cd(f:Env):Option Operand->Option (Option (IntKind×Int))
 | none=>some none
 | some x=>match ev f x with
  | some (.o (.d (.v (.int k m))))=>some (some (k,m))
  | _=>none
theorem Na{o:Oper}{V:View}{ρ:Operand->Value}(e:Mi V o f ρ){x:Option Operand}{b:Option (IntKind×Int)}(a:∀y,x=some y->y∈o.op.operands)(h:cd f x=some b):x.map ρ=b.map λp=>.int p.1 p.2:=by
 cases x with
 | none=>injection h with h;subst h;rfl
 | some y=>
  unfold cd at h;simp only at h;split at h
  ·rename_i k m c
   injection h with h
   subst h;have d:ρ y=.int k m:=AF.val (e.get (a y rfl) c);simp [d]
  ·cases h
def Mx:Option (IntKind×Int)->Int
 | none=>0
 | some p=>p.2
def Ms(n:Nat):Option (IntKind×Int)->Int
 | none=>n
 | some p=>p.2
theorem NA{isS:Bool}{len cap:Nat}{lo hi:Option (IntKind×Int)}(b:0<=Mx lo)(e:Mx lo<=Ms len hi)(d:Ms len hi<=len)(c:len<=cap)(w:World) :
 (Instr.sliceBounds isS len cap (lo.map λp=>.int p.1 p.2) (hi.map λp=>.int p.1 p.2) none).run P w=.ok ((Mx lo).toNat,(Ms len hi).toNat,cap) w:=by
 cases lo with
 | none=>
  cases hi with
  | none=>simp [Instr.sliceBounds,Mx,Ms,go_sem]
  | some h=>
   simp only [Mx,Ms] at *;simp [Instr.sliceBounds,run_sliceBound w h.1 h.2 cap _ (by omega) (by omega),Mx,Ms,go_sem]
 | some l=>
  cases hi with
  | none=>
   simp only [Mx,Ms] at *;simp [Instr.sliceBounds,run_sliceBound w l.1 l.2 len _ (by omega) (by omega),Mx,Ms,go_sem]
  | some h=>
   simp only [Mx,Ms] at *;simp [Instr.sliceBounds,run_sliceBound w h.1 h.2 cap _ (by omega) (by omega),run_sliceBound w l.1 l.2 h.2.toNat _ (by omega) (by omega),Mx,Ms,go_sem];intro a;have:=a b;omega
theorem US{t:TypeId}(ht:P.underlying t=some .string){s:ByteArray}{lo hi:Option Value}{l h m:Nat}{w:World}(hb:(Instr.sliceBounds false s.size s.size lo hi none).run P w=.ok (l,h,m) w) :
 (Instr.sliceAt t (.string s) lo hi none).run P w=.ok (.string (s.extract l h)) w:=by
 have a:(Instr.sliceAt t (.string s) lo hi none).run P w=(Instr.slice t (.string s) lo hi none).run P w:=by
  unfold Instr.sliceAt;rw [lG,run_underlying ht,lc]
 rw [a];unfold Instr.slice;rw [lG,run_underlying ht,lc];simp only [Option.isSome_none,nG,if_false];rw [lG];generalize Instr.sliceBounds false s.size s.size lo hi none=sb at hb |-;simp [hb,go_sem]
theorem UR{t e:TypeId}{i:TypeInfo}(c:P.underlying t=some (.slice e))(hi:P.info? e=some i){a:Option Addr}{len cap:Nat}{lo b:Option Value}{l h m:Nat}{w:World}(hb:(Instr.sliceBounds true len cap lo b none).run P w=.ok (l,h,m) w) :
 (Instr.sliceAt t (.slice a len cap) lo b none).run P w=.ok (.slice (if m=l then a else a.map (·.add (l*i.size))) (h - l) (m - l)) w:=by
 have d:(Instr.sliceAt t (.slice a len cap) lo b none).run P w=(Instr.slice t (.slice a len cap) lo b none).run P w:=by
  unfold Instr.sliceAt;rw [lG,run_underlying c,lc]
 rw [d];unfold Instr.slice;rw [lG,run_underlying c,lc];simp only;rw [lG];generalize Instr.sliceBounds true len cap lo b none=sb at hb |-;simp [hb,sizeOf,typeInfo,hi,go_sem]
theorem Rn{t:TypeId}{x:Operand}{lo hi:Option Operand}{s:List UInt8}{l h:Option (IntKind×Int)}[ht:DF P t](i:ev f x=some (eT s))(j:cd f lo=some l)(k:cd f hi=some h)
 (o:0<=Mx l) (n:Mx l<=Ms s.length h) (m:Ms s.length h<=s.length):AW P TB Z ⟨d,.slice t x lo hi none,ty,pos,af,g⟩ f σ nx (eT ((s.take (Ms s.length h).toNat).drop (Mx l).toNat)):=
 AI λV ρ c _=>by
  have u:ρ x=.string ⟨s.toArray⟩:=AF.val (c.get (by simp [Op.operands]) i);have r:=Na c (x:=lo) (λy b=>by subst b;simp [Op.operands]) j;have q:=Na c (x:=hi) (λy b=>by subst b;simp [Op.operands]) k
  have a:(⟨s.toArray⟩:ByteArray).size=s.length:=by simp [ByteArray.size]
  have hb:=NA (P:=P) (isS:=false) (len:=s.length) (cap:=s.length) o n m (io _) V.w;refine⟨.string ((⟨s.toArray⟩:ByteArray).extract (Mx l).toNat (Ms s.length h).toNat),?_,?_⟩
  ·rw [<-a] at hb
   have e:=US ht.out hb;rw [a] at e;simp only [execOp,u,r,q,Option.map_none,lG,e,lc];rfl
  ·have p:((⟨s.toArray⟩:ByteArray).extract (Mx l).toNat (Ms s.length h).toNat)=⟨((s.take (Ms s.length h).toNat).drop (Mx l).toNat).toArray⟩:=by
    apply ByteArray.ext;rw [ByteArray.data_extract];apply Array.toList_inj.1;simp [List.extract_eq_take_drop,List.drop_take]
   rw [p];exact .d (.v rfl)
theorem dn{t e:TypeId}{k b:Nat}{x:Operand}{lo hi:Option Operand}{rows:List (List D)}{l h:Option (IntKind×Int)}[G:CL P t e k b](U:ev f x=some (.o (.d (.l rows))))(hl:cd f lo=some l)(hh:cd f hi=some h)(hk:∀r∈rows,r.length=k)
 (h0:0<=Mx l) (h1:Mx l<=Ms rows.length h) (h2:Ms rows.length h<=rows.length):AW P TB Z ⟨d,.slice t x lo hi none,ty,pos,af,g⟩ f σ nx (.o (.d (.l ((rows.take (Ms rows.length h).toNat).drop (Mx l).toNat)))):=
 AI λV ρ H _=>by
  have B:=H.get (by simp [Op.operands]) U;have e2:=Na H (x:=lo) (λy F=>by subst F;simp [Op.operands]) hl;have e3:=Na H (x:=hi) (λy F=>by subst F;simp [Op.operands]) hh;generalize X:ρ x=v at B;obtain⟨i,Y,L,hs,_⟩:=GG G.out;generalize I:(Mx l).toNat=lo' at *;generalize M:(Ms rows.length h).toNat=c at *
  have A:lo'<=c/\c<=rows.length:=by omega
  have p:∀(a:Option Addr) (cap:Nat),rows.length<=cap->v=.slice a rows.length cap->(execOp ρ ⟨d,.slice t x lo hi none,ty,pos,af,g⟩).run P V.w=.ok (.value (.slice (if cap=lo' then a else a.map (·.add (lo'*i.size))) (c - lo') (cap - lo'))) V.w:=by
   intro a cap R he;have hb:=NA (P:=P) (isS:=true) (len:=rows.length) (cap:=cap) h0 h1 h2 R V.w;rw [I,M] at hb;subst he;have s:=UR Y L (a:=a) hb;simp only [execOp,X,e2,e3,Option.map_none,lG,s,lc];rfl
  have z:((rows.take c).drop lo').length=c - lo':=by simp;omega
  obtain⟨B⟩:=B
  cases B with
  | nil=>
   have s:lo'=0/\c=0:=by simp at A;omega
   obtain⟨rfl,rfl⟩:=s;exact⟨_,p none 0 (by simp) rfl,.d .nil⟩
  | @e a cap R=>
   have s:lo'=0/\c=0:=by simp at A;omega
   obtain⟨rfl,rfl⟩:=s;refine⟨_,p (some a) cap (by simp) rfl,?_⟩;by_cases Q:cap=0
   ·rw [if_pos Q];exact .d (.e (by omega))
   ·rw [if_neg Q];exact .d (.e (by omega))
  | @l _ b' o k' cap vs hb s Q S h6 h7=>
   refine⟨_,p (some ⟨b',o,none⟩) cap s rfl,?_⟩;by_cases T:c - lo'=0
   ·have:(rows.take c).drop lo'=[]:=List.eq_nil_of_length_eq_zero (by omega)
    rw [this,T];split
    ·exact .d (.e (by omega))
    ·exact .d (.e (by omega))
   ·have N:¬cap=lo':=by omega
    rw [if_neg N];simp only [nh,Bz]
    have J:k'=i.size:=by
     have u:0 < rows.length:=by omega
     have e5:=S 0 _ (d5 u);have e6:=hk _ (l6 u);omega
    have m:∀(q:Nat) (r:List D),((rows.take c).drop lo')[q]? = some r->rows[lo'+q]? = some r:=λq r n=>by
     rw [lS,lR] at n;split at n
     ·exact n
     ·cases n
    rw [<-z];refine .d (.l (k:=k') (vs:=λq j=>vs (lo'+q) j) hb (by omega) (by omega) (λq r n=>S _ r (m q r n)) (λq r j dd n K=>?_) (λq r j dd n K=>h7 _ r j dd (m q r n) K));have:=h6 _ r j dd (m q r n) K;rw [<-J]
    have e7:o+lo'*k'+q*k'+j=o+(lo'+q)*k'+j:=by rw [lZ];omega
    rw [e7];exact this
theorem bm{t e:TypeId}(ht:P.underlying t=some (.slice e))(a:Option Addr)(n c:Nat)(w:World):(binOp .eql t (.slice a n c) (.slice none 0 0)).run P w=.ok (.bool a.isNone) w:=by
 have h:∀d:Nat,(Op.equalIn (d+1) t (.slice a n c) (.slice none 0 0)).run P w=.ok a.isNone w:=λd=>by
  cases a<;>simp [Op.equalIn,run_underlying ht]
 simp only [binOp];simp [Op.equal,Op.maxDepth,h 9999]
theorem Kz{t e yt:TypeId}{k b:Nat}{x:Operand}{rows:List (List D)}[m:CL P t e k b](q:ev f x=some (.o (.d (.l rows))))(z:∀c,(c=true->rows=[])->K (eB c) σ nx) :
 BQ P TB Z ⟨d,.binOp .eql t x (.const (.slice none 0 0)) yt,ty,pos,af,g⟩ f σ nx K:=by
 intro V a H G F;subst F;have j:=H.GV.get (x:=x) (by simp [Op.operands]) q;have I:a.eval (.const (.slice none 0 0))=.slice none 0 0:=rfl;obtain⟨i,s,_,_,_⟩:=GG m.out;generalize r:a.eval x=v at j
 have key:∀(p:Option Addr) (n c:Nat),v=.slice p n c->(p.isNone=true->rows=[])->Oper.wp P ⟨d,.binOp .eql t x (.const (.slice none 0 0)) yt,ty,pos,af,g⟩ a V.w (λa' w'=>∃V' v x σ',V'.w=w'/\a'=a.put d v/\Ext V V'/\Inv TB Z V' σ'/\Bg V' x v/\K x σ' V'.nx) jB:=by
  intro p n c y u;unfold Oper.wp;have A:execOp a.eval ⟨d,.binOp .eql t x (.const (.slice none 0 0)) yt,ty,pos,af,g⟩=(do let v <-(do eqGuard .eql t x (.const (.slice none 0 0)) (a.eval x) (a.eval (.const (.slice none 0 0)));binOp .eql t (a.eval x) (a.eval (.const (.slice none 0 0))));pure (.value v)):=rfl;have B:eqGuard .eql t x (.const (.slice none 0 0)) (.slice p n c) (.slice none 0 0)=pure ():=rfl;rw [A,r,I,y,B];rw [pure_bind,lG,bm s,lc];exact⟨V,.bool p.isNone,eB p.isNone,σ,rfl,rfl,Ext.refl V,G,AF.d (.v rfl),z p.isNone u⟩
 obtain⟨j⟩:=j
 cases j with
 | nil=>exact key none 0 0 rfl λ_=>rfl
 | e=>exact key (some _) 0 _ rfl λh=>by cases h
 | l=>exact key (some _) _ _ rfl λh=>by cases h
def Ia(l:List (List UInt8×Int)):List (Value×Value):=l.map λp=>(.string ⟨p.1.toArray⟩,.int .i64 p.2)
def CD(l:List (List UInt8×Int))(s:List UInt8):Option Int:=(l.find? λp=>decide (p.1=s)).map (·.2)
theorem gY(a b:List UInt8):((⟨a.toArray⟩:ByteArray) == ⟨b.toArray⟩)=decide (a=b):=by
 have h:((⟨a.toArray⟩:ByteArray) == ⟨b.toArray⟩)=(a.toArray == b.toArray):=rfl;rw [h,nk];simp
theorem Kj(s:List UInt8):∀(l:List (List UInt8×Int)) (es:List MapEntry) (i:Nat),es.map (λe=>(e.key,e.val))=Ia l->∃r,Instr.findNow .string (.string ⟨s.toArray⟩) es i=some r/\r.map (·.2)=(CD l s).map (.int .i64)
 | [],es,i,h=>by
  have:es=[]:=by simpa [Ia] using h
  subst this;exact⟨none,rfl,rfl⟩
 | p :: l,es,i,h=>by
  cases es with
  | nil=>simp [Ia] at h
  | cons e es=>
   simp only [Ia,mt,List.cons.injEq,Prod.mk.injEq] at h;obtain⟨⟨hk,b⟩,d⟩:=h
   have c:Instr.sameNow .string (.string ⟨s.toArray⟩) e.key=some (decide (s=p.1)):=by
    rw [hk]
    show some ((⟨s.toArray⟩:ByteArray) == ⟨p.1.toArray⟩)=_
    rw [gY]
   unfold Instr.findNow;rw [c];by_cases a:s=p.1
   ·refine⟨some (i,e.val),by simp [a],?_⟩
    simp [CD,a,b]
   ·obtain⟨r,j,g⟩:=Kj s l es (i+1) d
    have f:¬p.1=s:=λe=>a e.symm;refine⟨r,by simp [a,j],?_⟩;rw [g];simp [CD,f]
theorem PL{t:TypeId}(i:K (.o (.mp nx)) ((nx,.mp [])::σ) (nx+1)):BQ P TB Z ⟨d,.makeMap t none,ty,pos,af,g⟩ f σ nx K:=
 Dr λV ρ l k j=>by
  subst j
  have a:V.w.heap.size < (V.w.alloc (.map #[] 0)).heap.size:=by simp
  obtain⟨hi,h⟩:=k.alloc (c:=0) (nl:=False) (w:=V.w.alloc (.map #[] 0)) (ob:=.mp []) rfl rfl rfl rfl (po a) (λb hb=>Bj V.w _ b hb) (by
   refine⟨by simp [Ax],#[],0,?_,rfl⟩
   have e:(Ax V V.w.heap.size 0 False (V.w.alloc (.map #[] 0))).ρ V.nx=V.w.heap.size:=by simp [Ax]
   rw [e]
   exact Cp V.w (.map #[] 0))
  refine⟨.map (some V.w.heap.size),_,_,_,?_,h,hi,?_,i⟩
  ·have:(Instr.makeMap t none).run P V.w=.ok (.map (some V.w.heap.size)) (V.w.alloc (.map #[] 0)):=rfl
   simp [execOp,this,Ax,go_sem]
  ·have:=@AF.mp (Ax V V.w.heap.size 0 False (V.w.alloc (.map #[] 0))) V.nx (by simp [Ax])
   have e:(Ax V V.w.heap.size 0 False (V.w.alloc (.map #[] 0))).ρ V.nx=V.w.heap.size:=by simp [Ax]
   rw [e] at this;exact this
class Po (P:Program) (t:TypeId) (z:outParam Value):Prop where
 out:(P.info? t).bind (·.zero)=some z
class JV (P:Program) (t:TypeId) (k e:outParam TypeId):Prop where
 out:P.underlying t=some (.map k e)
theorem Jv{k:TypeId}(hk:P.underlying k=some .string)(b:Bool)(s:ByteArray)(w:World):(Instr.checkKey b 10000 k (.string s)).run P w=.ok () w:=by
 rw [show 10000=9999+1 from rfl];unfold Instr.checkKey;simp [run_underlying hk,go_sem]
theorem aF{t k e:TypeId}{x y:Operand}{id:Nat}{l:List (List UInt8×Int)}{s:List UInt8}[G:JV P t k e][hk:DF P k][M:Po P e (.int .i64 0)](Q:ev f x=some (.o (.mp id)))(N:ev f y=some (eT s))(R:look σ id=some (.mp (Ia l))) :
 AW P TB Z ⟨d,.lookup t x y true,ty,pos,af,g⟩ f σ nx (.t [(false,[.d (.v (.int .i64 ((CD l s).getD 0)))]),(false,[.d (.v (.bool (CD l s).isSome))])]):=
 AI λV ρ F hi=>by
  have L:=F.get (by simp [Op.operands]) Q;have K:ρ y=.string ⟨s.toArray⟩:=AF.val (F.get (by simp [Op.operands]) N);generalize a:ρ x=v at L
  cases L with
  | mp S =>
   obtain⟨hn,ents,clock,J,U⟩:=hi.st.obj id _ R;obtain⟨r,T,p⟩:=Kj s l ents.toList 0 U;have b:=M.out;simp only [lH] at b;obtain⟨i,A,z⟩:=b
   have u:(zeroValue e).run P V.w=.ok (.int .i64 0) V.w:=by simp [zeroValue,typeInfo,A,z,go_sem]
   have h:(Instr.findKey k (.string ⟨s.toArray⟩) ents.toList).run P V.w=.ok r V.w:=by simp [Instr.findKey,run_underlying hk.out,T,go_sem]
   have m:=Jv hk.out ents.isEmpty ⟨s.toArray⟩ V.w;refine⟨.tuple #[.int .i64 ((CD l s).getD 0),.bool (CD l s).isSome],?_,⟨_,rfl,rfl,λj x v c a=>?_⟩⟩
   ·cases r with
    | none=>
     have B:CD l s=none:=by simpa using p.symm
     simp [execOp,a,K,Instr.lookup,run_underlying G.out,MapKept.run_getObj_map J,m,h,u,B,go_sem]
    | some q=>
     obtain⟨n,B,I⟩:∃n,CD l s=some n/\q.2=.int .i64 n:=by
      cases H:CD l s with
      | none=>rw [H] at p;simp at p
      | some n=>rw [H] at p;exact⟨n,rfl,by simpa using p⟩
     obtain⟨Y,X⟩:=q;simp only at I;subst I;simp [execOp,a,K,Instr.lookup,run_underlying G.out,MapKept.run_getObj_map J,m,h,B,go_sem]
   ·match j with
    | 0=>simp at c a;subst c;subst a;exact⟨_,rfl,.d (.v rfl)⟩
    | 1=>simp at c a;subst c;subst a;exact⟨_,rfl,.d (.v rfl)⟩
    | j+2=>simp at c
theorem ix{t k e:TypeId}{x y z:Operand}{id:Nat}{l:List (List UInt8×Int)}{s:List UInt8}{n:Int}[U:JV P t k e][hk:DF P k](Q:ev f x=some (.o (.mp id)))(N:ev f y=some (eT s))(M:ev f z=some (eI .i64 n))(G:look σ id=some (.mp (Ia l)))
 (T:CD l s=none) (H:K (.t []) ((id,.mp (Ia (l++[(s,n)])))::σ) nx):BQ P TB Z ⟨d,.mapUpdate t x y z,ty,pos,af,g⟩ f σ nx K:=by
 intro V a c J h3;have c:=c.GV;unfold Oper.wp;generalize a.eval=ρ at c |-;have L:=c.get (x:=x) (by simp [Op.operands]) Q;have e2:ρ y=.string ⟨s.toArray⟩:=AF.val (c.get (by simp [Op.operands]) N);have e3:ρ z=.int .i64 n:=AF.val (c.get (by simp [Op.operands]) M);generalize R:ρ x=v at L
 cases L with
 | mp Y=>
  obtain⟨m,ents,clock,F,B⟩:=J.st.obj id _ G;obtain⟨r,h6,I⟩:=Kj s l ents.toList 0 B;rw [T] at I
  have S:r=none:=by cases r with
   | none=>rfl
   | some q=>simp at I
  subst S
  have u:(Instr.findKey k (.string ⟨s.toArray⟩) ents.toList).run P V.w=.ok none V.w:=by simp [Instr.findKey,run_underlying hk.out,h6,go_sem]
  have A:=Jv hk.out false ⟨s.toArray⟩ V.w
  let ob:Obj:=.map (ents.push { key:=.string ⟨s.toArray⟩,val:=.int .i64 n,born:=clock }) (clock+1)
  let w':World:={ V.w with heap:=V.w.heap.setIfInBounds (V.ρ id) ob }
  have h:=MapKept.run_setObj_map (P:=P) ob F;have p:=(lL.1 F).1
  obtain⟨hi,he⟩:=J.write G m (w:=w') (ob':=.mp (Ia (l++[(s,n)]))) rfl rfl rfl rfl rfl (by simp [w']) (λb hb=>by simp [w',nf,Ne.symm hb]) (by
   refine⟨m,ents.push { key:=.string ⟨s.toArray⟩,val:=.int .i64 n,born:=clock },clock+1,?_,?_⟩
   ·show w'.heap[V.ρ id]? = some ob
    simp [w',nf,p]
   ·simp [Ia] at B |-
    exact B)
  have i:(execOp ρ ⟨d,.mapUpdate t x y z,ty,pos,af,g⟩).run P V.w=.ok .skip w':=by
   simp [execOp,R,e2,e3,Instr.mapUpdate,run_underlying U.out,MapKept.run_getObj_map F,A,u,h,ob,w',go_sem]
  rw [i];exact⟨{ V with w:=w' },.tuple #[],.t [],_,rfl,rfl,he,hi,⟨#[],rfl,rfl,λj x v X=>by simp at X⟩,by rw [<-h3] at H;exact H⟩
end
section
variable {P:Program}{TB:Bp}
def VE(f:Env)(t:Tmp)(n:Nat):Option (Bool×List C):=match f t with
 | some (.o (.d (.p cs)))=>match Nat.beq cs.length n with
  | true=>some (true,cs.map .d)
  | false=>none
 | _=>none
def aV(n:Nat)(rs:Array ResultVar)(f:Env):Option E:=match rs.toList with
 | [.cell t _]=>match VE f t n with
  | some (_,cs)=>some (.a cs)
  | none=>none
 | [.cell t _,.tmp u]=>match VE f t n,(f u).bind LN with
  | some x,some y=>some (.t [x,y])
  | _,_=>none
 | _=>none
def gO(n:Nat)(rs:Array ResultVar)(post:E->Ab->Nat->Prop):Exit->Env->Ab->Nat->Prop
 | .ret,f,σ,nx|.normal,f,σ,nx=>∃x,aV n rs f=some x/\post x σ nx
 | _,_,_,_=>False
theorem Ps{V:View}{f:Env}{a:Act}{t:Tmp}{T':TypeId}{n:Nat}{x:Bool×List C}(l:DC P T' true n)(u:DT V f a.tmps)(h:VE f t n=some x) :
 ∃v,((do loadVar T' (<-asAddr (a.tmps.getD t undef))):Sem Value).run P V.w=.ok v V.w/\∃cs,x=(true,cs)/\Bg V (.a cs) v:=by
 unfold VE at h;split at h
 ·rename_i ds s
  split at h
  ·rename_i i
   have i:=f7 i
   injection h with h
   subst h;have e:AF V (.d (.p ds)) (a.tmps.getD t undef):=u t _ s;generalize B:a.tmps.getD t undef=A at e;obtain⟨e⟩:=e
   cases e with
   | @p _ b o vs hb z y=>
    refine⟨.agg ((List.range n).map λq=>vs q).toArray,?_,_,rfl,_,rfl,by simp [i],λj c v m g=>?_⟩
    ·have:(loadCells ⟨b,o,none⟩ n).run P V.w=.ok ((List.range n).map λq=>vs q).toArray V.w:=run_loadCells V.w _ n _ λq k=>by
      rw [Bz];exact z q ds[q] (d5 (by omega))
     unfold loadCells at this;simp [asAddr,loadVar,(BD l.out V.w).1,(BD l.out V.w).2,this,go_sem]
    ·rw [ge,d7] at m
     obtain⟨dd,r,rfl⟩:=m
     have k:j < n:=by have:=(ce.1 r).1;omega
     have:v=vs j:=by simpa [k] using g.symm
     subst this;exact .d (y j dd r)
  ·cases h
 ·cases h
theorem aW{fn:Func}{V:View}{f:Env}{a:Act}{x:E}{T':TypeId}{n:Nat}{t:Tmp}(I:DC P T' true n)(p:fn.results.toList.head? = some (.cell t T'))(A:DT V f a.tmps)(h:aV n fn.results f=some x):∃v,(results fn a.tmps).run P V.w=.ok v V.w/\Bg V x v:=by
 have key : ∀ l:List ResultVar,fn.results=l.toArray->l.head? = some (.cell t T')->aV n l.toArray f=some x->∃v,(results fn a.tmps).run P V.w=.ok v V.w/\Bg V x v:=by
  intro l e c h;unfold aV at h;simp only at h;split at h
  ·rename_i m T1
   simp at c;obtain⟨rfl,rfl⟩:=c;split at h
   ·rename_i b cs q
    injection h with h
    subst h;obtain⟨v,G,cs',k,B⟩:=Ps I A q
    injection k with k L
    subst L;refine⟨v,?_,B⟩
    have d:(results fn a.tmps).run P V.w=((do loadVar T1 (<-asAddr (a.tmps.getD m undef))):Sem Value).run P V.w:=by simp [results,e,-Array.getD_eq_getD_getElem?,go_sem]
    rw [d,G]
   ·cases h
  ·rename_i m T1 u
   simp at c;obtain⟨rfl,rfl⟩:=c;split at h
   ·rename_i N M q H
    injection h with h
    subst h;obtain⟨v,G,cs',k,B⟩:=Ps I A q;subst k;simp only [lH] at H;obtain⟨y,J,o⟩:=H;refine⟨.tuple #[v,a.tmps.getD u undef],?_,_,rfl,rfl,λj x v' g i=>?_⟩
    ·obtain⟨F,K,z,s⟩:∃F:ResultVar->Sem Value,results fn a.tmps=(do let vs <-fn.results.mapM F;pure (if h:vs.size=1 then vs[0] else .tuple vs))/\(F (.cell m T1)).run P V.w=.ok v V.w/\(F (.tmp u)).run P V.w=.ok (a.tmps.getD u undef) V.w:=
      ⟨λr=>match r with
       | .tmp t=>pure (a.tmps.getD t undef)
       | .cell b t=>do loadVar t (<-asAddr (a.tmps.getD b undef)),rfl,G,rfl⟩
     rw [K,e];simp [z,s,-Array.getD_eq_getD_getElem?,go_sem]
    ·match j with
     | 0=>simp at g i;subst g;subst i;exact B
     | 1=>simp at g i;subst g;subst i;exact Fa o (by simpa using A u y J)
     | j+2=>simp at g
   ·cases h
  ·cases h
 exact key fn.results.toList (by simp) p (by simpa using h)
theorem AK.ofM {g:FuncId} {fn:Func} {c:Code} {m:Nat} {σ:Ab} {nx:Nat} {args:List E} {post:E->Ab->Nat->Prop} (n:Nat) {t:Tmp} {T':TypeId} (G:m<=nx) [H:DC P T' true n] (u:P.funcs[g]? = some fn) (hb:fn.body=some c) (r:fn.results.toList.head? = some (.cell t T')) (f:(fn.name == "runtime.NumGoroutine")=false)
 (j:args.length<=fn.ntmps) (h:∀Z:Ctx,Z.V.nx=m->Aj P TB Z fn.ntmps c (gO n fn.results post) (look (BY 0 args)) σ nx):AK P TB g m σ nx args post:=by
 refine⟨⟨fn,u,f,by rw [hb];rfl⟩,?_⟩;intro V vs S p ha;refine calls_of_wp u hb ?_
 have J:vs.size<=fn.ntmps:=by rw [ha.1];exact j
 have hi:Inv TB (EG V (JF V m) σ S) V σ:=
  ⟨rfl,rfl,rfl,λ_ _ _=>rfl,p.iLt,λ_ h=>.inl h,VT (by rw [p.nx];exact G),p.st,λid o F s b hb=>.inr (.inl ⟨id,o,F,s,hb⟩),p.tabs,⟨S,p.hid,λb hb=>.inl hb,λb hb=>.inr (.inr hb)⟩⟩
 have A:Cb TB (EG V (JF V m) σ S) fn.ntmps V (look (BY 0 args)) σ nx { tmps:=vs++Array.replicate (fn.ntmps - vs.size) undef,defers:=[] } := by
  refine⟨?_,?_,by simp;omega,hi,p.nx,rfl⟩
  ·intro t e q
   obtain⟨_,a⟩:=BW args 0 t e q
   have a:args[t]? = some e:=by simpa using a
   have i:t < vs.size:=by rw [ha.1];exact(ce.1 a).1
   have I:=ha.2 t e vs[t] a (lD i)
   simpa [lM i,i] using I
  ·intro t e q
   obtain⟨_,a⟩:=BW args 0 t e q
   have a:args[t]? = some e:=by simpa using a
   have:=(ce.1 a).1;omega
 refine wp_mono (h (EG V (JF V m) σ S) rfl V _ A) ?_;rintro e a' w' ⟨V',f',σ',rfl,k,d⟩
 have fin:(∃x,aV n fn.results f'=some x/\post x σ' V'.nx)->a'.defers=[]/\∃v,(results fn a'.tmps).run P V'.w=.ok v V'.w/\∃V'' v' x σ'',Ending.returned v=.returned v'/\V''.w=V'.w/\Inv TB (EG V (JF V m) σ S) V'' σ''/\Bg V'' x v'/\post x σ'' V''.nx:=by
  rintro⟨x,y,B⟩;obtain⟨v,z,q⟩:=aW (P:=P) H r d.env y;exact⟨d.defers,v,z,V',v,x,σ',rfl,rfl,d.inv,q,B⟩
 cases e with
 | normal=>exact fin k
 | ret=>exact fin k
 | exit id=>exact k.elim
 | goto l=>exact k.elim
 | panic ch=>exact k.elim
 | outgrown=>exact k.elim
theorem AK.GH{g:FuncId}{σ:Ab}{nx:Nat}{args:List E}{post:E->Ab->Nat->Prop}(h:AK P TB g nx σ nx args post):Spec P TB g σ nx args post:=
 ⟨h.1,λV vs S a ha=>(h.2 V vs S a ha).mono λ_ _ ⟨V',v,x,σ',i,f,e,d,c⟩=>⟨V',v,x,σ',i,f,by have b:=a.nx;subst b;exact e,d,c⟩⟩
end
inductive FL (σ:Ab) (ids:List Nat):List C->List C->Prop
 | nil:FL σ ids [] []
 | cons {c c':C} {cs cs':List C}:FC σ ids c c'->FL σ ids cs cs'->FL σ ids (c::cs) (c'::cs')
theorem FL.len{σ:Ab}{ids:List Nat}{l l':List C}(h:FL σ ids l l'):l'.length=l.length:=by
 induction h with
 | nil=>rfl
 | cons _ _ a=>simp [a]
theorem FL.get{σ:Ab}{ids:List Nat}{l l':List C}(h:FL σ ids l l'):∀(j:Nat) c',l'[j]? = some c'->∃c,l[j]? = some c/\FC σ ids c c':=by
 induction h with
 | nil=>intro j c' h;simp at h
 | @cons f e cs cs' d _ b=>
  intro j c' a
  cases j with
  | zero=>simp at a;subst a;exact⟨f,rfl,d⟩
  | succ j=>exact b j c' (by simpa using a)
def Pq(σ:Ab)(ids:List Nat):Ab->Prop
 | []=>True
 | (id,.cells T k [r'])::S=>(∃r,look σ id=some (.cells T k [r])/\id∉ids/\FL σ ids r r')/\Pq σ ids S
 | _=>False
theorem Pq.get{σ:Ab}{ids:List Nat}:∀ {S:Ab},Pq σ ids S->∀id o',look S id=some o'->∃T k r r',o'=.cells T k [r']/\look σ id=some (.cells T k [r])/\id∉ids/\FL σ ids r r'
 | [],_,id,o',h=>by cases h
 | (i, o)::S,a,id,o',h=>by
  match o,a with
  | .cells T k [r'],a=>
   rw [Az] at h;by_cases hi:i=id
   ·rw [if_pos hi] at h
    injection h with h
    subst h;subst hi;obtain⟨r,d,c,b⟩:=a.1;exact⟨T,k,r,r',rfl,d,c,b⟩
   ·rw [if_neg hi] at h
    exact Pq.get a.2 id o' h
section
variable {P:Program}{TB:Bp}{Z:Ctx}{N:Nat}{σ:Ab}
theorem Cb.Nf{V:View}{f:Env}{nx:Nat}{a:Act}(h:Cb TB Z N V f σ nx a)(ids:List Nat)(L:List (Nat×E))(S:Ab)(J:DS σ ids f L)(u:Pq σ ids S):Cb TB Z N (JA V σ ids) (look L) S nx a:=by
 have e:Ext V (JA V σ ids):=Ng;have hi:=h.inv;refine⟨λt x m=>?_,λt x m=>?_,h.size,?_,h.nx,h.defers⟩
 ·obtain⟨y,g,w⟩:=J.get t x m
  exact w.rel h.inv (h.env t y g)
 ·obtain⟨y,g,_⟩:=J.get t x m
  exact h.lt t y g
 ·refine⟨hi.os,hi.tape,hi.output,hi.old,?_,?_,hi.ext.trans e,⟨?_,?_,?_,?_⟩,?_,λx m=>⟨.inl (hi.tabs x m).1,(hi.tabs x m).2⟩,hi.hid.same rfl (λ_ h=>.inl h) (λb hb=>hb.elim .inl λ⟨id,o,_,d,l,B⟩=>.inr ⟨id,o,d,l,B⟩) λb ⟨id,o,d,l,hb⟩=>?_⟩
  ·rintro b (hb|⟨id,o,_,d,l,hb⟩)
   ·exact hi.iLt b hb
   ·exact(hi.st.obj id o d).blt l hb
  ·rintro b (hb|⟨id,o,_,d,l,hb⟩)
   ·exact hi.iNew b hb
   ·exact .inr (hi.live id o d l b hb)
  ·intro id o d
   obtain⟨T,k,r,r',rfl,g,w,M⟩:=u.get id o d
   rcases hi.st.obj id _ g with ⟨K,F⟩|⟨h0,cur,K,F,h6,h7,h8,Y⟩
   ·cases F
   ·refine .inr ⟨h0,cur,K,F,h6,h7,λx m=>?_,λi x j c' s R=>?_⟩
    ·simp at m;subst m;rw [M.len];exact h8 r (by simp)
    ·have A:i=0:=by have:=(ce.1 s).1;simp at this;omega
     subst A;simp at s;subst s;obtain⟨c,X,U⟩:=M.get j c' R;obtain⟨v,I,H⟩:=Y 0 r j c rfl X;exact⟨v,I,U.rel hi H⟩
  ·intro id o d
   obtain⟨T,k,r,r',_,g,_,_⟩:=u.get id o d;exact hi.st.lt id _ g
  ·intro id o d l b n hb
   obtain⟨T,k,r,r',rfl,g,w,_⟩:=u.get id o d
   rcases hb with hb|⟨id',o',Q,q,p,B⟩
   ·exact hi.st.free id _ g l b n hb
   ·exact hi.st.inj id id' _ o' g q (λe=>w (e ▸ Q)) l p b n B
  ·intro id id' o o' d q z l p b hb n
   obtain⟨T,k,r,r',rfl,g,_,_⟩:=u.get id o d;obtain⟨T2,k2,r2,P,rfl,G,_,_⟩:=u.get id' o' q;exact hi.st.inj id id' _ _ g G z l p b hb n
  ·intro id o d l b hb
   obtain⟨T,k,r,r',rfl,g,_,_⟩:=u.get id o d;exact hi.live id _ g l b hb
  ·obtain⟨T,k,r,r',rfl,g,_,_⟩:=u.get id o d
   exact⟨id,_,g,l,hb⟩
theorem Aj.Nf{c:Code}{Q:Exit->Env->Ab->Nat->Prop}{f:Env}{nx:Nat}(ids:List Nat)(L:List (Nat×E))(S:Ab)(e:DS σ ids f L)(d:Pq σ ids S)(h:Aj P TB Z N c Q (look L) S nx):Aj P TB Z N c Q f σ nx:=
 λV a b=>h (JA V σ ids) a (b.Nf ids L S e d)
theorem WB{d:Option Tmp}{ty:TypeId}{pos:String}{af:Array Edge}{g:Option (Nat×Bool)}{f:Env}{nx:Nat}{t k e:TypeId}{x y:Operand}{id:Nat}{l:List (List UInt8×Int)}{s:List UInt8}[B:JV P t k e][hk:DF P k][K:Po P e (.int .i64 0)](M:ev f x=some (.o (.mp id)))(L:ev f y=some (eT s))(N:look σ id=some (.mp (Ia l))) :
 AW P TB Z ⟨d,.lookup t x y false,ty,pos,af,g⟩ f σ nx (eI .i64 ((CD l s).getD 0)):=
 AI λV ρ A hi=>by
  have J:=A.get (by simp [Op.operands]) M;have I:ρ y=.string ⟨s.toArray⟩:=AF.val (A.get (by simp [Op.operands]) L);generalize z:ρ x=v at J
  cases J with
  | mp Q=>
   obtain⟨X,ents,clock,H,S⟩:=hi.st.obj id _ N;obtain⟨r,R,h⟩:=Kj s l ents.toList 0 S;have a:=K.out;simp only [lH] at a;obtain⟨i,p,m⟩:=a
   have j:(zeroValue e).run P V.w=.ok (.int .i64 0) V.w:=by simp [zeroValue,typeInfo,p,m,go_sem]
   have b:(Instr.findKey k (.string ⟨s.toArray⟩) ents.toList).run P V.w=.ok r V.w:=by simp [Instr.findKey,run_underlying hk.out,R,go_sem]
   have c:=Jv hk.out ents.isEmpty ⟨s.toArray⟩ V.w;refine⟨.int .i64 ((CD l s).getD 0),?_,.d (.v rfl)⟩
   cases r with
   | none=>
    have u:CD l s=none:=by simpa using h.symm
    simp [execOp,z,I,Instr.lookup,run_underlying B.out,MapKept.run_getObj_map H,c,b,j,u,go_sem]
   | some q=>
    obtain⟨n,u,G⟩:∃n,CD l s=some n/\q.2=.int .i64 n:=by
     cases F:CD l s with
     | none=>rw [F] at h;simp at h
     | some n=>rw [F] at h;exact⟨n,rfl,by simpa using h⟩
    obtain⟨U,T⟩:=q;simp only at G;subst G;simp [execOp,z,I,Instr.lookup,run_underlying B.out,MapKept.run_getObj_map H,c,b,u,go_sem]
end
end Go.Am
namespace Go.Am
open Go
set_option linter.unusedVariables false
variable {P:Program}{TB:Bp}{Z:Ctx}{d:Option Tmp}{ty:TypeId}{pos:String}{af:Array Edge}{g:Option (Nat×Bool)}{f:Env}{σ:Ab}{nx:Nat}
variable {K:E->Ab->Nat->Prop}
end Go.Am
