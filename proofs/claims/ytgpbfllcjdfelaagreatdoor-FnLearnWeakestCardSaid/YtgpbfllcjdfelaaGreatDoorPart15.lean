/-
  Regions that draw, with new variables in any order: the walk.
-/
import Derived.Test.YtgpbfllcjdfelaaGreatDoorPart12
set_option linter.all false
namespace Go.Am.R
open Go
section
variable {P:Program}{TB:Bi}{ops:Array Oper}{Γ:Ctx}{N:Nat}
def Vv(TB:Bi)(Γ:Ctx)(N:Nat)(K:BH->Prop)(Q:Exit->Act->World->Prop):Prop:=∀V S a,IE TB Γ N V S a->K S->Q .normal a V.w
theorem N5{i m:Nat}{o:Oper}(n:ops[i]? = some o)(k:∀t,o.dst=some t->t < N){K:BH->Prop}{K':Act->World->Prop}{Q:Exit->Act->World->Prop}
 (l:∀V S a,IE TB Γ N V S a->K S->K' a V.w) {V:View} {S:BH} {a:Act} (b:IE TB Γ N V S a) (h:de P TB ops m o K S):wpOp P ops Q i K' a V.w:=by
 have d:∀t e,S.f t=some e->t < a.tmps.size:=λt e p=>by rw [b.st.size];exact b.st.lt t e p
 obtain⟨Q0,j⟩:=b.sc
 have c:Good TB V S.σ S.nx Q0:=⟨b.st.inv.iLt,b.st.inv.st,b.st.inv.tabs,b.st.nx,j.s⟩
 unfold wpOp;simp only [n]
 rcases h with ⟨g,hk⟩|⟨g,hk⟩
 ·rw [GV b.st.env d g]
  have q:IE TB Γ N V (S.put o.dst (.t [])) (a.put o.dst undef):=b.put (σ':=S.σ) k (Ext.refl _) j c.inv b.st.nx (La V)
  simpa using l _ _ _ q hk
 ·rw [GV b.st.env d g]
  simp only [if_true];refine .inl (Vm P (Oper.wp_mono ?_ (hk (Fc V V S.σ Q0) V a (b.st.env.op o) c.inv b.st.nx)));rintro a' w' ⟨V',v,x,σ',rfl,rfl,z,y,u,r⟩;exact l V' _ _ (b.put k z j y rfl u) r.2
theorem YI{d:Option Tmp}{ty:TypeId}{pos:String}{af:Array Edge}{g:Option (Nat×Bool)}{ρ:Operand->Value}{T:TypeId}{z:List Value}(c:Y7 P T=some z):∃zv:Value,zv.cells.toList=z/\∀w:World,(execOp ρ ⟨d,.alloc T,ty,pos,af,g⟩).run P w=.ok (.value (.pointer (some ⟨w.heap.size,0,none⟩))) (w.alloc (.cells zv.cells T)):=by
 obtain⟨i,zv,hi,b,a⟩:=Hs c;exact⟨zv,a,λw=>by simp [execOp,Instr.alloc,zeroValue,typeInfo,hi,b,newVar,newRow,go_sem]⟩
theorem Mn{i c:Nat}{o:Oper}(l:ops[i]? = some o)(n:∀t,o.dst=some t->t < N){K:BH->Prop}{K':Act->World->Prop}{Q:Exit->Act->World->Prop}
 (p:∀V S a,IE TB Γ N V S a->K S->K' a V.w) {V:View} {S:BH} {a:Act} (j:IE TB Γ N V S a) (h:St P TB ops c o K S):wpOp P ops Q i K' a V.w:=by
 unfold St at h;by_cases I:c=1
 ·rw [if_pos I] at h;exact N5 l n p j h
 ·rw [if_neg I] at h
  by_cases ck:1000<=c
  ·rw [if_pos ck] at h;exact N5 l n p j h
  rw [if_neg ck] at h;by_cases H:c=5
  ·rw [if_pos H] at h
   obtain⟨d,T,z,_,r,y⟩:=h
   have A:d < N:=by
    obtain⟨_,b,hb,_⟩:=j.pd d T z r;have:=(ng.1 hb).1;rw [j.st.size] at this;exact this
   obtain⟨V',X,k⟩:=j.jk A r;have:=N5 (Q:=Q) l n p k y;rwa [X] at this
  ·rw [if_neg H] at h
   obtain⟨u,J,hk⟩:=h
   rcases J with ⟨F,s,rfl⟩|⟨F,s,x,f,rfl⟩|⟨F,s,d,T,z,f,B,R,M,L,rfl⟩
   ·exact N5 (m:=0) l n p j (.inl ⟨s,hk⟩)
   ·refine N5 (m:=0) l n p j (.inr ⟨s,λΓ=>AO.lz P TB Γ ?_ ⟨λ_ _=>rfl,hk⟩⟩)
    unfold QC at f;by_cases e:c=2
    ·rw [if_pos e] at f;exact f Γ S.σ S.nx
    ·rw [if_neg e] at f
     by_cases G:c=0
     ·rw [if_pos G] at f;exact f Γ
     ·rw [if_neg G] at f;exact f.2 Γ S.σ S.nx rfl
   ·unfold wpOp
    simp only [l]
    have hw:Region.wanted o (yielded ops a.tmps)=true:=by unfold Region.wanted;rw [s]
    rw [hw];simp only [if_true];refine .inl ?_;obtain⟨dst,op,ty,pos,af,g⟩:=o;simp only at f B;subst f B;obtain⟨zv,v,q⟩:=YI (P:=P) (d:=some d) (ty:=ty) (pos:=pos) (af:=af) (g:=g) (ρ:=a.eval) R;unfold Oper.wp;rw [q];have k:=j.alloc (T:=T) (zv:=zv) (n d rfl) L v M;exact p _ _ _ k hk
theorem TJ{ops:Array Oper}(u:Ga N ops=true){K:BH->Prop}{Q:Exit->Act->World->Prop}(v:Vv TB Γ N K Q):∀(n:Nat) (r:List (Nat×Nat)) (listed:Array Bool) (V:View) (S:BH) (a:Act),
 r.length=n->Fb ops listed->A5 ops r listed=true->DC ops r=true->IE TB Γ N V S a->Lex P TB ops r K S->wpAny P .any ops Q n listed a V.w
 | 0,r,listed,V,S,a,f,s,b,hk,m,h=>by
  have:r=[]:=m7.1 f;subst this;refine⟨?_,v V S a m h⟩
  simpa [A5] using b
 | n + 1,r,listed,V,S,a,f,s,b,hk,m,h=>by
  refine⟨λe=>?_,λj q=>?_⟩
  ·cases r with
   | nil=>simp at f
   | cons x r=>
    obtain⟨i,c⟩:=x;simp only [A5,d6] at b;have:=b.1;rw [e] at this;simp at this
  ·obtain⟨k,c,g,o,rfl,d,y⟩:=EL K r listed S s b hk h j q
   refine Mn d (λt ht=>Ub u d ht) (λV' S' a' l p=>?_) m y;exact TJ u v n (k++g) _ V' S' a' (by simp at f |-;omega) (GX s q) (Nz k g j c listed b q) (JK k g _ hk) l p
variable {i c:Nat}{r:List (Nat×Nat)}{L:List (Nat×E)}{σ:Ab}{nx:Nat}{pl:List (Nat×(TypeId×List Value))}{K:BH->Prop}{Q:Exit->Env->Ab->Nat->Prop}
def Ft(P:Program)(TB:Bi)(ops:Array Oper)(r:List (Nat×Nat))(K:BH->Prop)(L:List (Nat×E))(σ:Ab)(nx:Nat)(pl:List (Nat×(TypeId×List Value))):Prop:=Lex P TB ops r K ⟨look L,σ,nx,look pl⟩
theorem fb{id:Nat}(r:List (Nat×Nat))(p:P.follows .mixedOrders=true)(s:Ga N ops=true)(o:r.length=ops.size)(i:(A5 ops r (Array.replicate ops.size false) && DC ops r)=true)
 (h:Ft P TB ops r (λS=>Q .normal S.f S.σ S.nx) L σ nx []):Au P TB Γ N (.region id ops true) Q (look L) σ nx:=by
 intro V a c;rw [d6] at i;refine wp_region_any p ?_;obtain⟨k,t⟩:=c.inv.drew
 have g:BY TB Γ N { V with w:={ V.w with drawn:=V.w.drawn+1 } } (look L) σ V.nx a:=⟨c.env.ext t,c.lt,c.size,k,rfl,c.defers⟩
 have j:=c.nx;subst j;exact TJ s (λV S a c hk=>⟨V,S.f,S.σ,rfl,by rw [c.st.nx];exact hk,by rw [c.st.nx];exact c.st⟩) ops.size r _ { V with w:={ V.w with drawn:=V.w.drawn+1 } } _ a o (Le ops) i.1 i.2 ⟨g,λd T z e=>(by cases e),λd d' q q' b b' e=>(by cases e),let ⟨Q0,n,m,l⟩:=k.hid;⟨Q0,n,m,l,λd q b e=>(by cases e)⟩⟩ h
theorem Aa{K:BH->Prop}(h:K ⟨look L,σ,nx,look pl⟩):Ft P TB ops [] K L σ nx pl:=h
theorem dQ(h:Q .normal (look L) σ nx):Ft P TB ops [] (λS=>Q .normal S.f S.σ S.nx) L σ nx pl:=h
def Dz(d:Nat):List (Nat×(TypeId×List Value))->List (Nat×(TypeId×List Value))
 | []=>[]
 | (k,x)::r=>bif Nat.beq k d then Dz d r else (k,x)::Dz d r
theorem Hf:∀(pl:List (Nat×(TypeId×List Value))) (d t:Nat),look (Dz d pl) t=if t=d then none else look pl t
 | [],d,t=>by simp [Dz,look]
 | (k, x)::r,d,t=>by
  simp only [Dz];by_cases h:k=d
  ·subst h
   simp only [qi,cond_true];rw [Hf r k t,Ax];by_cases a:t=k
   ·simp [a]
   ·rw [if_neg a,if_neg a,if_neg (Ne.symm a)]
  ·have:Nat.beq k d=false:=by
    cases hb:Nat.beq k d
    ·rfl
    ·exact absurd (i7 hb) h
   rw [this,cond_false,Ax,Ax,Hf r d t];by_cases a:t=d
   ·subst a;simp [h]
   ·simp [a]
theorem HZ{d:Tmp}{x:E}{σ':Ab}{nx':Nat}:BH.put ⟨look L,σ',nx',look pl⟩ (some d) x=⟨look ((d,x)::L),σ',nx',look (Dz d pl)⟩:=by
 unfold BH.put;rw [Dn];congr 1;funext t;rw [Hf];by_cases h:t=d
 ·subst h;simp
 ·simp [h,Ne.symm h]
theorem SU{x:E}{σ':Ab}{nx':Nat}:BH.put ⟨look L,σ',nx',look pl⟩ none x=⟨look L,σ',nx',look pl⟩:=by
 unfold BH.put;congr 1
def A4(P:Program)(TB:Bi)(ops:Array Oper)(o:Oper)(i c:Nat)(r:List (Nat×Nat))(K:BH->Prop)(L:List (Nat×E))(σ:Ab)(nx:Nat)(pl:List (Nat×(TypeId×List Value))):Prop:=
 ops[i]? = some o->Ft P TB ops ((i,c)::r) K L σ nx pl
theorem Af{o:Oper}(a:Nv ops.toList i=some o)(h:A4 P TB ops o i c r K L σ nx pl):Ft P TB ops ((i,c)::r) K L σ nx pl:=h (by rw [Nw] at a;simpa using a)
variable {d:Tmp}{op:Op}{ty:TypeId}{pos:String}{af:Array Edge}{g:Option (Nat×Bool)}
theorem Ew{x:E}(b:∀Γ σ nx,AO P TB Γ ⟨some d,op,ty,pos,af,g⟩ (look L) σ nx x)(j:Bj ops ⟨some d,op,ty,pos,af,g⟩ (look L)=some true)(e:(Nat.beq c 0 || Nat.beq c 2)=true)(h:Ft P TB ops r K ((d,x)::L) σ nx (Dz d pl)):A4 P TB ops ⟨some d,op,ty,pos,af,g⟩ i c r K L σ nx pl:=by
 intro f;refine⟨_,f,?_⟩;unfold St
 have a:c=0\/c=2:=by
  simp only [nr,Nat.beq_eq] at e;exact e
 rw [if_neg (by omega),if_neg (by omega),if_neg (by omega)];refine⟨λS=>S.put (some d) x,.inr (.inl ⟨by omega,j,x,?_,rfl⟩),?_⟩
 ·unfold QC
  rcases a with a|a
  ·rw [if_neg (by omega),if_pos a];exact λΓ=>b Γ σ nx
  ·rw [if_pos a];exact b
 ·simp only
  rw [HZ];exact h
theorem ig{x:E}(a:∀Γ,AO P TB Γ ⟨some d,op,ty,pos,af,g⟩ (look L) σ nx x)(e:Bj ops ⟨some d,op,ty,pos,af,g⟩ (look L)=some true)(f:Nat.beq c 0=true)(h:Ft P TB ops r K ((d,x)::L) σ nx (Dz d pl)):A4 P TB ops ⟨some d,op,ty,pos,af,g⟩ i c r K L σ nx pl:=by
 intro b;refine⟨_,b,?_⟩;unfold St
 have j:c=0:=by simpa using f
 rw [if_neg (by omega),if_neg (by omega),if_neg (by omega)];refine⟨λS=>S.put (some d) x,.inr (.inl ⟨by omega,e,x,?_,rfl⟩),?_⟩
 ·unfold QC;rw [if_neg (by omega),if_pos j];exact a
 ·simp only
  rw [HZ];exact h
theorem DN(h:∀Γ,BS P TB Γ ⟨some d,op,ty,pos,af,g⟩ (look L) σ nx (λx σ' nx'=>Kept (c - 1000) σ σ'/\Ft P TB ops r K ((d,x)::L) σ' nx' (Dz d pl)))(j:Bj ops ⟨some d,op,ty,pos,af,g⟩ (look L)=some true)(a:Nat.ble 1000 c=true):A4 P TB ops ⟨some d,op,ty,pos,af,g⟩ i c r K L σ nx pl:=by
 intro b;refine⟨_,b,?_⟩;unfold St;have a:=co a;rw [if_neg (by omega),if_pos a]
 exact .inr ⟨j,λΓ=>(h Γ).mono λx σ' nx' hk=>by
  refine⟨hk.1,?_⟩;have e:BH.put ⟨(⟨look L,σ,nx,look pl⟩:BH).f,σ',nx',(⟨look L,σ,nx,look pl⟩:BH).pd⟩ (some d) x=_:=HZ
  rw [e];exact hk.2⟩
theorem OH(h:∀Γ,BS P TB Γ ⟨some d,op,ty,pos,af,g⟩ (look L) σ nx (λx σ' nx'=>Ft P TB ops r K ((d,x)::L) σ' nx' (Dz d pl)))(b:Bj ops ⟨some d,op,ty,pos,af,g⟩ (look L)=some true)(j:c=1):A4 P TB ops ⟨some d,op,ty,pos,af,g⟩ i c r K L σ nx pl:=by
 intro a;refine⟨_,a,?_⟩;unfold St;rw [if_pos j]
 exact .inr ⟨b,λΓ=>(h Γ).mono λx σ' nx' hk=>by
  refine⟨λid hid=>by simp at hid,?_⟩;have e:BH.put ⟨(⟨look L,σ,nx,look pl⟩:BH).f,σ',nx',(⟨look L,σ,nx,look pl⟩:BH).pd⟩ (some d) x=_:=HZ
  rw [e];exact hk⟩
theorem EO(h:∀Γ,BS P TB Γ ⟨none,op,ty,pos,af,g⟩ (look L) σ nx (λ_ σ' nx'=>Ft P TB ops r K L σ' nx' pl))(b:Bj ops ⟨none,op,ty,pos,af,g⟩ (look L)=some true)(d:c=1):A4 P TB ops ⟨none,op,ty,pos,af,g⟩ i c r K L σ nx pl:=by
 intro a;refine⟨_,a,?_⟩;unfold St;rw [if_pos d]
 exact .inr ⟨b,λΓ=>(h Γ).mono λx σ' nx' hk=>by
  refine⟨λid hid=>by simp at hid,?_⟩;have e:BH.put ⟨(⟨look L,σ,nx,look pl⟩:BH).f,σ',nx',(⟨look L,σ,nx,look pl⟩:BH).pd⟩ none x=_:=SU
  rw [e];exact hk⟩
theorem lR{T:TypeId}{z:List Value}[b:BU P T z](a:z.all OQ=true)(g:look L d=none)(j:c=3)(h:Ft P TB ops r K L σ nx ((d,(T,z))::pl)):A4 P TB ops ⟨some d,.alloc T,ty,pos,af,none⟩ i c r K L σ nx pl:=by
 intro f;refine⟨_,f,?_⟩;unfold St;rw [if_neg (by omega),if_neg (by omega),if_neg (by omega)];refine⟨λS=>S.GO d (T,z),.inr (.inr ⟨j,rfl,d,T,z,rfl,rfl,b.out,a,g,rfl⟩),?_⟩
 have e:BH.GO ⟨look L,σ,nx,look pl⟩ d (T,z)=⟨look L,σ,nx,look ((d,(T,z))::pl)⟩:=by
  unfold BH.GO;congr 1;funext t;rw [Ax];by_cases h:t=d
  ·subst h;simp
  ·simp [h,Ne.symm h]
 simp only;rw [e];exact h
theorem lQ{t : Tmp}{T:TypeId}{z:List Value}(hp:look pl t=some (T,z))(ht:(op.operands.any λx=>match x with|.tmp t'=>Nat.beq t' t|_=>false)=true)(k:Bj ops ⟨none,op,ty,pos,af,g⟩ (look ((t,.o (.ptr nx z.length 0 0))::L))=some true)(l:c=5)
    (h:∀Γ,BS P TB Γ ⟨none,op,ty,pos,af,g⟩ (look ((t,.o (.ptr nx z.length 0 0))::L)) ((nx,.cells T z.length [z.map zC])::σ) (nx+1) (λ_ σ' nx'=>Ft P TB ops r K ((t,.o (.ptr nx z.length 0 0))::L) σ' nx' (Dz t pl))):A4 P TB ops ⟨none,op,ty,pos,af,g⟩ i c r K L σ nx pl:=by
  intro d;refine⟨_,d,?_⟩;unfold St;rw [if_neg (by omega),if_neg (by omega),if_pos l]
  have e:BH.ad ⟨look L,σ,nx,look pl⟩ t T z=⟨look ((t,.o (.ptr nx z.length 0 0))::L),(nx,.cells T z.length [z.map zC])::σ,nx+1,look (Dz t pl)⟩:=by
    unfold BH.ad;rw [Dn];congr 1;funext t';rw [Hf]
  have j : .tmp t∈op.operands:=by
    obtain⟨i,hi,a⟩:=pU.1 ht;have b:=qw hi;generalize op.operands[i]=x at *
    cases x with
    | tmp t' => have:t'=t:=by simpa using a
                rw [<-this];exact b
    | _=>cases a
  refine⟨t,T,z,j,hp,?_⟩;rw [e]
  exact .inr ⟨k,λΓ=>(h Γ).mono λx σ' nx' hk=>by
    refine⟨λid hid=>by simp at hid,?_⟩;have m:BH.put ⟨(⟨look ((t,.o (.ptr nx z.length 0 0))::L),(nx,.cells T z.length [z.map zC])::σ,nx+1,look (Dz t pl)⟩:BH).f,σ',nx',(⟨look ((t,.o (.ptr nx z.length 0 0))::L),(nx,.cells T z.length [z.map zC])::σ,nx+1,look (Dz t pl)⟩:BH).pd⟩ none x=_:=SU
    rw [m];exact hk⟩
theorem jQ{t:Tmp}{ts:TypeId}{y:Operand}{T:TypeId}{z:List Value}(hp:look pl t=some (T,z))(a:Bj ops ⟨none,.store ts (.tmp t) y,ty,pos,af,g⟩ (look ((t,.o (.ptr nx z.length 0 0))::L))=some true)(b:c=5)
 (h:∀Γ,BS P TB Γ ⟨none,.store ts (.tmp t) y,ty,pos,af,g⟩ (look ((t,.o (.ptr nx z.length 0 0))::L)) ((nx,.cells T z.length [z.map zC])::σ) (nx+1) (λ_ σ' nx'=>Ft P TB ops r K ((t,.o (.ptr nx z.length 0 0))::L) σ' nx' (Dz t pl))):A4 P TB ops ⟨none,.store ts (.tmp t) y,ty,pos,af,g⟩ i c r K L σ nx pl:=
 lQ hp (by simp [Op.operands]) a b h
theorem Yw{a:Bool}(e:∀Γ σ nx,AO P TB Γ ⟨some d,op,ty,pos,af,g⟩ (look L) σ nx (eB a))(f:Bj ops ⟨some d,op,ty,pos,af,g⟩ (look L)=some true)(j:(Nat.beq c 0 || Nat.beq c 2)=true)(h:∀b,a=b->Ft P TB ops r K ((d,eB b)::L) σ nx (Dz d pl)):A4 P TB ops ⟨some d,op,ty,pos,af,g⟩ i c r K L σ nx pl:=Ew e f j (h a rfl)
theorem jT{j:Nat}{w:Bool}(e:Bj ops ⟨some d,op,ty,pos,af,some (j,w)⟩ (look L)=some false)(a:(Nat.beq c 0 || Nat.beq c 2)=true)(h:Ft P TB ops r K ((d,.t [])::L) σ nx (Dz d pl)):A4 P TB ops ⟨some d,op,ty,pos,af,some (j,w)⟩ i c r K L σ nx pl:=by
 intro b;refine⟨_,b,?_⟩;unfold St
 have f:c=0\/c=2:=by
  simp only [nr,Nat.beq_eq] at a;exact a
 rw [if_neg (by omega),if_neg (by omega),if_neg (by omega)];refine⟨λS=>S.put (some d) (.t []),.inl ⟨by omega,e,rfl⟩,?_⟩;simp only;rw [HZ];exact h
end
section
variable {P:Program}{TB:Bi}{ops:Array Oper}{i c:Nat}{r:List (Nat×Nat)}{L:List (Nat×E)}{σ:Ab}{nx:Nat}{pl:List (Nat×(TypeId×List Value))}{K:BH->Prop}{d:Option Tmp}{ty:TypeId}{pos:String}{af:Array Edge}{g:Option (Nat×Bool)}
end
section
variable {P:Program}{TB:Bi}{ops:Array Oper}{i c:Nat}{r:List (Nat×Nat)}{L:List (Nat×E)}{σ:Ab}{nx:Nat}{pl:List (Nat×(TypeId×List Value))}{K:BH->Prop}{d:Tmp}{ty:TypeId}{pos:String}{af:Array Edge}{g:Option (Nat×Bool)}{op:Op}
theorem yQ{md:Bool}[f:CS P]{q:Prop}{x:E}(b:Bj ops ⟨some d,op,ty,pos,af,g⟩ (look L)=some true)(e:(Nat.beq c 0 || Nat.beq c 2)=true)(h:cg f.T md (look L) op=some (q,x))(a:q)(hk:Ft P TB ops r K ((d,x)::L) σ nx (Dz d pl)):A4 P TB ops ⟨some d,op,ty,pos,af,g⟩ i c r K L σ nx pl:=
 Ew (λ_ _ _=>WK h a) b e hk
theorem yB[j:CS P]{a:Bool}(e:Bj ops ⟨some d,op,ty,pos,af,g⟩ (look L)=some true)(f:(Nat.beq c 0 || Nat.beq c 2)=true)(h:Tg j.T (look L) op=some a)(hk:∀b,a=b->Ft P TB ops r K ((d,eB b)::L) σ nx (Dz d pl)):A4 P TB ops ⟨some d,op,ty,pos,af,g⟩ i c r K L σ nx pl:=
 Yw (λ_ _ _=>Th h) e f hk
theorem yS[e:CS P]{x:E}(a:Bj ops ⟨some d,op,ty,pos,af,g⟩ (look L)=some true)(b:Nat.beq c 0=true)(h:Lt e.T σ (look L) op=some x)(hk:Ft P TB ops r K ((d,x)::L) σ nx (Dz d pl)):A4 P TB ops ⟨some d,op,ty,pos,af,g⟩ i c r K L σ nx pl:=
 ig (λ_=>NI h) a b hk
theorem yW[d:CS P]{t:TypeId}{x y:Operand}{σ':Ab}(a:Bj ops ⟨none,.store t x y,ty,pos,af,g⟩ (look L)=some true)(b:c=1)(h:PG d.T σ (look L) t x y=some σ')(hk:Ft P TB ops r K L σ' nx pl):A4 P TB ops ⟨none,.store t x y,ty,pos,af,g⟩ i c r K L σ nx pl:=
 EO (λ_=>NJ h hk) a b
theorem yA[d:CS P]{t:Tmp}{ts:TypeId}{y:Operand}{T:TypeId}{z:List Value}{σ':Ab}(hp:look pl t=some (T,z))(a:Bj ops ⟨none,.store ts (.tmp t) y,ty,pos,af,g⟩ (look ((t,.o (.ptr nx z.length 0 0))::L))=some true)(b:c=5)
 (h:PG d.T ((nx,.cells T z.length [z.map zC])::σ) (look ((t,.o (.ptr nx z.length 0 0))::L)) ts (.tmp t) y=some σ') (hk:Ft P TB ops r K ((t,.o (.ptr nx z.length 0 0))::L) σ' (nx+1) (Dz t pl)):A4 P TB ops ⟨none,.store ts (.tmp t) y,ty,pos,af,g⟩ i c r K L σ nx pl:=
 jQ hp a b λ_=>NJ h hk
theorem yP[b:CS P]{T:TypeId}{z:List Value}(e:(II b.T T).ze=some z)(a:z.all OQ=true)(f:look L d=none)(g:c=3)(h:Ft P TB ops r K L σ nx ((d,(T,z))::pl)):A4 P TB ops ⟨some d,.alloc T,ty,pos,af,none⟩ i c r K L σ nx pl:=
 haveI:=(Dw (P:=P) T b.ok).ZT e
 lR a f g h
theorem yG{dd:Option Tmp}{j t:Nat}{w b:Bool}(f:(ops[j]?).bind (·.dst)=some t)(e:look L t=some (eB b))
 (a:b=true->Ft P TB ops ((i,c)::r) K L σ nx pl) (d:b=false->Ft P TB ops ((i,c)::r) K L σ nx pl):A4 P TB ops ⟨dd,op,ty,pos,af,some (j,w)⟩ i c r K L σ nx pl:=by
 intro _;cases b
 ·exact d rfl
 ·exact a rfl
end
end Go.Am.R
namespace Go.Am
open Go
def ab:Option TypeDesc->Bool
 | some (.func ..)=>true
 | _=>false
class fF (P:Program) (t:TypeId):Prop where
 out:ab (P.underlying t)=true
theorem fh{P:Program}{t:TypeId}(h:ab (P.underlying t)=true)(w:World):(Op.equal t .nilFunc .nilFunc).run P w=.ok true w/\∀(g:Fn) (a b:Array Value),(Op.equal t (.func g a b) .nilFunc).run P w=.ok false w:=by
 unfold ab at h;split at h
 ·rename_i c
  unfold Op.equal Op.maxDepth;rw [show 10000=9999+1 from rfl,Op.equalIn];refine⟨by simp [run_underlying c,go_sem],λg a b=>?_⟩;rw [Op.equalIn];simp [run_underlying c,go_sem]
 ·cases h
section
variable {P:Program}{TB:Bi}{Γ:Ctx}{d:Option Tmp}{ty:TypeId}{pos:String}{af:Array Edge}{g:Option (Nat×Bool)}{f:Env}{σ:Ab}{nx:Nat}
theorem WC{t yt:TypeId}{x y:Operand}[hp:fF P t](b:ev f x=some (.o (.d (.v .nilFunc))))(a:ev f y=some (.o (.d (.v .nilFunc)))):AO P TB Γ ⟨d,.binOp .neq t x y yt,ty,pos,af,g⟩ f σ nx (eB false):=
 Bs b a rfl λw=>by
  have e:binOp .neq t .nilFunc .nilFunc=(do pure (.bool (!(<-Op.equal t .nilFunc .nilFunc)))):=rfl;have c:eqGuard .neq t x y .nilFunc .nilFunc=pure ():=rfl;rw [e,c];simp [(fh hp.out w).1,go_sem]
end
def Na(L:List (Nat×E)):List Nat->Option (List (Nat×E))
 | []=>some []
 | k::r=>match look L k,Na L r with
  | some e,some l=>some ((k,e)::l)
  | _,_=>none
def VQ(σ:Ab):List Nat->Option Ab
 | []=>some []
 | k::r=>match look σ k,VQ σ r with
  | some e,some l=>some ((k,e)::l)
  | _,_=>none
section
variable {P:Program}{TB:Bi}{Γ:Ctx}{N:Nat}
theorem Au.jL{c:Code}{Q:Exit->Env->Ab->Nat->Prop}{L0 Lk:List (Nat×E)}{σ Sk:Ab}{nx:Nat}{U:Type}(ks is:List Nat)(hk:Na L0 ks=some Lk)(hi:VQ σ is=some Sk)(v:U->List (Nat×E))(s:U->Ab)(n:Nat)(μ:U->Nat)
 (x:U) (a:List Nat) (b:(∀i,i < Γ.V.nx->a[i]? = some i)/\a.Nodup/\a.length=n) (d:Du (nm a nx) (look L0) (v x++Lk)/\AS (nm a nx) σ (s x++Sk))
 (round:∀x,Au P TB Γ N c (JZ (λf σ nx=>∃y,μ y < μ x/\∃l:List Nat,(∀i,i < Γ.V.nx->l[i]? = some i)/\l.Nodup/\l.length=n/\Du (nm l nx) f (v y++Lk)/\AS (nm l nx) σ (s y++Sk)) Q) (look (v x++Lk)) (s x++Sk) n) :
 Au P TB Γ N (.loop c) Q (look L0) σ nx:=Au.BV (λx=>v x++Lk) (λx=>s x++Sk) n μ x a b d round
theorem aL{c:Code}{Q:Exit->Env->Ab->Nat->Prop}{L0 Lk:List (Nat×E)}{σ Sk:Ab}{nx:Nat}{U:Type}(ks is:List Nat)(hk:Na L0 ks=some Lk)(hi:VQ σ is=some Sk)(v:U->List (Nat×E))(s:U->Ab)(n:Nat)(μ:U->Nat)
 (x:U) {m:Nat} (a:Γ.V.nx=m) (b:Nat.ble m n=true) (d:Du (nm (List.range n) nx) (look L0) (v x++Lk)/\AS (nm (List.range n) nx) σ (s x++Sk))
 (round:∀x,Au P TB Γ N c (JZ (λf σ nx=>∃y,μ y < μ x/\∃l:List Nat,(∀i,i < Γ.V.nx->l[i]? = some i)/\l.Nodup/\l.length=n/\Du (nm l nx) f (v y++Lk)/\AS (nm l nx) σ (s y++Sk)) Q) (look (v x++Lk)) (s x++Sk) n) :
 Au P TB Γ N (.loop c) Q (look L0) σ nx:=Au.jL ks is hk hi v s n μ x (List.range n) (rg a b) d round
theorem il{d:Option Tmp}{op:Op}{ty:TypeId}{pos:String}{af:Array Edge}{g:Option (Nat×Bool)}{L:List (Nat×E)}{σ:Ab}{nx:Nat}{e:E}{t:Tmp}{gg:FuncId}(l:look L t=some (.o (.d (.v (.func (.func gg) #[] #[])))))
 (h:AO P TB Γ ⟨d,op,ty,pos,af,g⟩ (look ((t,.o (.fn gg []))::L)) σ nx e):AO P TB Γ ⟨d,op,ty,pos,af,g⟩ (look L) σ nx e:=by
 intro V a k q p;refine h V a ?_ q p;intro t' e' f b;rw [Ax] at b;by_cases i:t=t'
 ·subst i
  rw [if_pos rfl] at b
  injection b with b
  subst b;have m:=AA.val (k t _ f l)
  show AA V (.fn gg []) _
  rw [m];exact .fn rfl (λj c v n=>by simp at n)
 ·rw [if_neg i] at b
  exact k t' e' f b
theorem Spec.lC{g i:FuncId}{σ:Ab}{nx:Nat}{l m:List E}{post:E->Ab->Nat->Prop}(h:Spec P TB g σ nx (l++.o (.d (.v (.func (.func i) #[] #[])))::m) post):Spec P TB g σ nx (l++.o (.fn i [])::m) post:=
 ⟨h.1, λV vs S n ha=>h.2 V vs S n ⟨by simpa using ha.1,λj e v a b=>by
  by_cases c:j < l.length
  ·exact ha.2 j e v (by rw [d8 c] at a |-;exact a) b
  ·by_cases f:j=l.length
   ·subst f
    have s:=ha.2 l.length (.o (.fn i [])) v (by simp) b;rw [ge (io _)] at a;simp at a;subst a;obtain⟨vs',rfl,r⟩:=Kv s;have p:vs' = #[]:=oH (by simpa using r.1);subst p;exact AA.d (.v rfl)
   ·refine ha.2 j e v ?_ b
    rw [ge (by omega)] at a |-
    obtain⟨q,k⟩:∃q,j - l.length=q+1:=⟨j - l.length - 1,by omega⟩
    rw [k] at a |-
    simpa using a⟩⟩
end
inductive FZ (σ:Ab):C->D->Prop
 | d {x:D}:FZ σ (.d x) x
 | fn {g:FuncId}:FZ σ (.fn g []) (.v (.func (.func g) #[] #[]))
 | arr {id k off len:Nat} {T:TypeId} {rows:List (List C)} {ds:List (List D)} {rs:Nat->List C} {cs:Nat->Nat->C}:look σ id=some (.cells T k rows)->off+len<=rows.length->ds.length=len->
  (∀i r',ds[i]? = some r'->rows[off+i]? = some (rs i)/\(rs i).length=r'.length)->(∀i j r' x,ds[i]? = some r'->r'[j]? = some x->(rs i)[j]? = some (cs i j))->
  (∀i j r' x,ds[i]? = some r'->r'[j]? = some x->FZ σ (cs i j) x)->FZ σ (.arr id k off len) (.l ds)
 | ptr {id k i j:Nat} {T:TypeId} {rows:List (List C)} {r:List C} {ds:List D} {cs:Nat->C}:look σ id=some (.cells T k rows)->rows[i]? = some r->(∀q x,ds[q]? = some x->r[j+q]? = some (cs q))->(∀q x,ds[q]? = some x->FZ σ (cs q) x)->FZ σ (.ptr id k i j) (.p ds)
 | sld {id:Nat} {T:TypeId} {l:List (Value×List Value)} {v:Value} {row:List Value}:look σ id=some (.sld T l)->(v,row)∈l->FZ σ (.d (.v v)) (.l (row.map λx=>[.v x]))
 | nl {b:Option Addr}:FZ σ (.d (.v (.slice b 0 0))) (.l [])
inductive TP (σ:Ab):List C->List D->Prop
 | nil:TP σ [] []
 | cons {c:C} {d:D} {cs:List C} {ds:List D}:FZ σ c d->TP σ cs ds->TP σ (c::cs) (d::ds)
theorem TP.get{σ:Ab}{cs:List C}{ds:List D}(h:TP σ cs ds):cs.length=ds.length/\∀(j:Nat) x,ds[j]? = some x->∃c,cs[j]? = some c/\FZ σ c x:=by
 induction h with
 | nil=>exact⟨rfl,λj x h=>by simp at h⟩
 | @cons c d cs ds e _ b=>
  refine⟨by simp [b.1],λj x a=>?_⟩
  cases j with
  | zero=>simp at a;subst a;exact⟨c,rfl,e⟩
  | succ j=>exact b.2 j x (by simpa using a)
theorem TP.refl{σ:Ab}:∀(ds:List D),TP σ (ds.map .d) ds
 | []=>.nil
 | d::ds=>.cons .d (TP.refl ds)
theorem FZ.rows{σ:Ab}{id k len:Nat}{T:TypeId}{rows:List (List C)}{ds:List (List D)}(n:look σ id=some (.cells T k rows))(m:ds.length=len)(o:rows.length=len)(h:∀(i:Nat) (r':List D),ds[i]? = some r'->∃r,rows[i]? = some r/\TP σ r r'):FZ σ (.arr id k 0 len) (.l ds):=by
 refine .arr (rs:=λi=>(rows[i]?).getD []) (cs:=λi j=>(((rows[i]?).getD [])[j]?).getD (.d (.l []))) n (by omega) m (λi r' hi=>?_) (λi j r' x hi e=>?_) (λi j r' x hi e=>?_)
 ·obtain⟨r,b,a⟩:=h i r' hi
  rw [ms,b];exact⟨rfl,a.get.1⟩
 ·obtain⟨r,b,a⟩:=h i r' hi
  obtain⟨c,f,g⟩:=a.get.2 j x e;simp [b,f]
 ·obtain⟨r,b,a⟩:=h i r' hi
  obtain⟨c,f,g⟩:=a.get.2 j x e;simp [b,f,g]
theorem FZ.full{σ:Ab}{id k len:Nat}{T:TypeId}{rows:List (List C)}{ds:List (List D)}(c:look σ id=some (.cells T k rows))(a:rows=ds.map (λr=>r.map .d))(b:rows.length=len):FZ σ (.arr id k 0 len) (.l ds):=by
 refine .rows c (by rw [<-b,a];simp) b λi r' hi=>⟨r'.map .d,?_,TP.refl _⟩
 rw [a];simp [hi]
theorem FZ.box{σ:Ab}{id k:Nat}{T:TypeId}{r:List C}{ds:List D}(f:look σ id=some (.cells T k [r]))(h:TP σ r ds):FZ σ (.ptr id k 0 0) (.p ds):=by
 refine .ptr (cs:=λq=>(r[q]?).getD (.d (.l []))) f rfl (λq x a=>?_) (λq x a=>?_)
 ·obtain⟨c,b,e⟩:=h.get.2 q x a
  rw [ms,b];rfl
 ·obtain⟨c,b,e⟩:=h.get.2 q x a
  simp [b,e]
inductive EZ (σ:Ab):E->E->Prop
 | Bn {e:E}:e.Bt=true->EZ σ e e
 | o {c:C} {d:D}:FZ σ c d->EZ σ (.o c) (.o (.d d))
 | a {cs:List C} {ds:List D}:TP σ cs ds->EZ σ (.a cs) (.a (ds.map .d))
def TN(σ:Ab)(f:Env):List (Nat×E)->Prop
 | []=>True
 | (t,e')::L=>(∃e,f t=some e/\EZ σ e e')/\TN σ f L
theorem TN.get{σ:Ab}{f:Env}:∀ {L:List (Nat×E)},TN σ f L->∀t e',look L t=some e'->∃e,f t=some e/\EZ σ e e'
 | [],_,t,e,h=>by cases h
 | (k,x)::L,a,t,e,h=>by
  rw [Ax] at h;by_cases hk:k=t
  ·rw [if_pos hk] at h;injection h with h;subst h;subst hk;exact a.1
  ·rw [if_neg hk] at h;exact TN.get a.2 t e h
def Gi(V:View)(σ:Ab):View:={ V with I:=λb=>V.I b\/∃id o,look σ id=some o/\¬V.nl id/\DY V id o b }
theorem LP{V:View}{σ:Ab}:Ext V (Gi V σ):=⟨λ_ h=>.inl h,λ_ _=>rfl,io _,λ_ _=>rfl,λ_ _=>rfl,λ_ _=>Iff.rfl,io _⟩
section
variable {P:Program}{TB:Bi}{Γ:Ctx}{N:Nat}{σ:Ab}
theorem Jm.data{I:Nat->Prop}{w:World}{T:TypeId}{v:Value}{row:List Value}(h:Jm w T v row)(n:∀b,IZ v b->I b):De I w (.l (row.map λx=>[.v x])) v:=by
 rcases h with ⟨rfl,rfl⟩|⟨b,cap,cur,rfl,q,s,p,o,g⟩
 ·exact .nil
 ·have m:row.length=(row.map λx=>[D.v x]).length:=by simp
  have f:∀(i:Nat) (r:List D) (j:Nat) (d:D),(row.map λx=>[D.v x])[i]? = some r->r[j]? = some d->j=0/\∃x,row[i]? = some x/\d=.v x:=λi r j d hi c=>by
   simp only [d9,d7] at hi;obtain⟨x,a,rfl⟩:=hi
   have e:j=0:=by have:=(am.1 c).1;simp at this;omega
   subst e;simp at c;exact⟨rfl,x,a,c.symm⟩
  rw [m];refine .l (k:=1) (vs:=λi _=>(row[i]?).getD undef) (n b ⟨_,_,_,rfl⟩) (by simpa using p) o (λi r hi=>?_) (λi r j d hi c=>?_) (λi r j d hi c=>?_)
  ·simp only [d9,d7] at hi
   obtain⟨x,a,rfl⟩:=hi;rfl
  ·obtain⟨rfl,x,a,rfl⟩:=f i r j d hi c
   simp [World.cell?,q,a,(g i x a).1]
  ·obtain⟨rfl,x,a,rfl⟩:=f i r j d hi c
   simp only [a,nW];exact .v (g i x a).2
theorem FZ.rel{V:View}(hi:Inv TB Γ V σ){c:C}{d:D}(h:FZ σ c d):∀ {v:Value},AA V c v->De (Gi V σ).I V.w d v:=by
 induction h with
 | d=>intro v t;cases t with|d h=>exact h.ext (V:=V) (V':=Gi V σ) LP
 | @sld id T l v row y M=>
  intro v' t;have J:v'=v:=AA.val t;subst J;have u:=hi.st.obj id _ y;exact(u.2.2 _ M).data λb hb=>.inr ⟨id,_,y,u.1,⟨_,M,hb⟩⟩
 | @nl b=>
  intro v' t;have J:v'=_:=AA.val t;subst J;cases b
  ·exact .nil
  ·exact .e (nK _)
 | fn =>
  intro v t
  cases t with
  | @fn f cap vs u _=>
   have:vs = #[]:=oH (by simpa using u);subst this;exact .v rfl
 | @arr id k off len T rows ds rs cs y R L u Z _ H=>
  intro v t
  cases t with
  | nil Q P=>
   have:ds=[]:=m7.1 L;subst this;exact .nil
  | arr Q s P=>
   rcases hi.st.obj id _ y with ⟨z,_⟩|⟨_,cur,z,Y,X,S,N,A⟩
   ·exact absurd z s
   ·have a:∀(i:Nat) (r:List D) (j:Nat) (x:D),ds[i]? = some r->r[j]? = some x->∃v,cur[(off+i)*k+j]? = some v/\De (Gi V σ).I V.w x v:=λi r j x m F=>by
     obtain⟨v,g,n⟩:=A (off+i) (rs i) j (cs i j) (u i r m).1 (Z i j r x m F);exact⟨v,g,H i j r x m F n⟩
    rw [<-L] at P |-;refine .l (b:=V.ρ id) (o:=off*k) (k:=k) (vs:=λi j=>cur.getD ((off+i)*k+j) undef) (.inr ⟨id,_,y,s,rfl⟩) (by omega) (by omega) (λi r m=>?_) (λi r j x m F=>?_) (λi r j x m F=>?_)
    ·have G:=u i r m
     rw [<-G.2];exact N _ (ce G.1)
    ·obtain⟨v,g,_⟩:=a i r j x m F
     have e:off*k+i*k+j=(off+i)*k+j:=by rw [nz]
     rw [e];simp [World.cell?,z,g]
    ·obtain⟨v,g,n⟩:=a i r j x m F
     have:cur.getD ((off+i)*k+j) undef=v:=by simp [g]
     simp only [this];exact n
 | @ptr id k i j T rows r ds cs y K u _ H=>
  intro v t
  cases t with
  | ptr Q s=>
   rcases hi.st.obj id _ y with ⟨z,_⟩|⟨_,cur,z,Y,X,S,N,A⟩
   ·exact absurd z s
   ·have a:∀(q:Nat) (x:D),ds[q]? = some x->∃v,cur[i*k+j+q]? = some v/\De (Gi V σ).I V.w x v:=λq x B=>by
     obtain⟨v,g,n⟩:=A i r (j+q) (cs q) K (u q x B);exact⟨v,by rw [nQ];exact g,H q x B n⟩
    refine .p (b:=V.ρ id) (o:=i*k+j) (vs:=λq=>cur.getD (i*k+j+q) undef) (.inr ⟨id,_,y,s,rfl⟩) (λq x B=>?_) (λq x B=>?_)
    ·obtain⟨v,g,_⟩:=a q x B
     simp [World.cell?,z,g]
    ·obtain⟨v,g,n⟩:=a q x B
     have:cur.getD (i*k+j+q) undef=v:=by simp [g]
     simp only [this];exact n
theorem EZ.rel{V:View}(hi:Inv TB Γ V σ){e e':E}(h:EZ σ e e'){v:Value}(b:A2 V e v):A2 (Gi V σ) e' v:=by
 cases h with
 | Bn=>exact b.ext LP
 | o h=>exact AA.d (V:=Gi V σ) (h.rel hi b)
 | @a cs ds h=>
  obtain⟨vs,rfl,m,l⟩:=b;refine⟨vs,rfl,by rw [m,h.get.1];simp,λj c v f b=>?_⟩;simp only [d9,d7] at f;obtain⟨x,g,rfl⟩:=f;obtain⟨c,k,i⟩:=h.get.2 j x g;exact AA.d (V:=Gi V σ) (i.rel hi (l j c v k b))
theorem Au.settle{c:Code}{Q:Exit->Env->Ab->Nat->Prop}{f:Env}{nx:Nat}(L:List (Nat×E))(k:TN σ f L)(h:Au P TB Γ N c Q (look L) [] nx):Au P TB Γ N c Q f σ nx:=by
 intro V a d;refine h (Gi V σ) a ⟨λt x e=>?_,λt x e=>?_,d.size,?_,d.nx,d.defers⟩
 ·obtain⟨y,j,n⟩:=k.get t x e
  exact n.rel d.inv (d.env t y j)
 ·obtain⟨y,j,_⟩:=k.get t x e
  exact d.lt t y j
 ·have hi:=d.inv
  refine⟨hi.os,hi.tape,hi.output,hi.old,?_,?_,hi.ext.trans LP,DL,λid o l=>(by cases l),λx e=>⟨.inl (hi.tabs x e).1,(hi.tabs x e).2⟩,hi.hid.same rfl (λ_ h=>.inl h) (λb hb=>hb.elim .inl λ⟨id,o,i,g,m⟩=>.inr ⟨id,o,i,g,m⟩) λb ⟨_,_,h,_⟩=>by cases h⟩
  ·rintro b (hb|⟨id,o,i,g,hb⟩)
   ·exact hi.iLt b hb
   ·exact(hi.st.obj id o i).blt g hb
  ·rintro b (hb|⟨id,o,i,g,hb⟩)
   ·exact hi.iNew b hb
   ·exact .inr (hi.live id o i g b hb)
theorem Pl{ids:List Nat}{L0:List (Nat×E)}:∀ {ks:List Nat} {Lk:List (Nat×E)},Na L0 ks=some Lk->DE σ ids (look L0) Lk
 | [],Lk,h=>by injection h with h;subst h;trivial
 | k :: ks,Lk,h=>by
  unfold Na at h;split at h
  ·rename_i e l b a
   injection h with h
   subst h;exact⟨⟨e,b,.Bn⟩,Pl a⟩
  ·cases h
theorem DE.app{ids:List Nat}{f:Env}:∀ {L M:List (Nat×E)},DE σ ids f L->DE σ ids f M->DE σ ids f (L++M)
 | [],_,_,h=>h
 | _::_,_,h,a=>⟨h.1,DE.app h.2 a⟩
theorem Au.C9{c:Code}{Q:Exit->Env->Ab->Nat->Prop}{L0 Lk:List (Nat×E)}{nx:Nat}(ids ks:List Nat)(hk:Na L0 ks=some Lk)(L:List (Nat×E))(a:DE σ ids (look L0) L)(h:Au P TB Γ N c Q (look (L++Lk)) (CC ids σ) nx):Au P TB Γ N c Q (look L0) σ nx:=
 Au.freeze ids (L++Lk) (a.app (Pl hk)) h
section
variable {d:Option Tmp}{ty:TypeId}{pos:String}{af:Array Edge}{g:Option (Nat×Bool)}{f:Env}{nx:Nat}
theorem Ee{t:TypeId}{x lo:Operand}{s:List UInt8}{m:Int}{k:IntKind}[ht:CR P t](a:ev f x=some (eT s))(b:ev f lo=some (eI k m))(e:0<=m)(c:m<=s.length):AO P TB Γ ⟨d,.slice t x (some lo) none none,ty,pos,af,g⟩ f σ nx (eT (s.drop m.toNat)):=by
 have h:=Mh (P:=P) (TB:=TB) (Γ:=Γ) (d:=d) (ty:=ty) (pos:=pos) (af:=af) (g:=g) (σ:=σ) (nx:=nx) (t:=t) (x:=x) (lo:=some lo) (hi:=none) (l:=some (k,m)) (h:=none) a (by simp [YY,b]) rfl e c (pY _)
 simpa [Kh,Kj] using h
theorem WG{t:TypeId}{x hi:Operand}{s:List UInt8}{m:Int}{k:IntKind}[ht:CR P t](a:ev f x=some (eT s))(b:ev f hi=some (eI k m))(e:0<=m)(c:m<=s.length):AO P TB Γ ⟨d,.slice t x none (some hi) none,ty,pos,af,g⟩ f σ nx (eT (s.take m.toNat)):=by
 have h:=Mh (P:=P) (TB:=TB) (Γ:=Γ) (d:=d) (ty:=ty) (pos:=pos) (af:=af) (g:=g) (σ:=σ) (nx:=nx) (t:=t) (x:=x) (lo:=none) (hi:=some hi) (l:=none) (h:=some (k,m)) a rfl (by simp [YY,b]) (pY _) e c
 simpa [Kh,Kj] using h
theorem Wy{t e:TypeId}{b n:Nat}{x lo:Operand}{rows:List (List D)}{m:Int}{k:IntKind}[c:CO P t e n b](a:ev f x=some (.o (.d (.l rows))))(j:ev f lo=some (eI k m))(i:∀r∈rows,r.length=n)(q:0<=m)(p:m<=rows.length):AO P TB Γ ⟨d,.slice t x (some lo) none none,ty,pos,af,g⟩ f σ nx (.o (.d (.l (rows.drop m.toNat)))):=by
 have h:=WD (P:=P) (TB:=TB) (Γ:=Γ) (d:=d) (ty:=ty) (pos:=pos) (af:=af) (g:=g) (σ:=σ) (nx:=nx) (t:=t) (x:=x) (lo:=some lo) (hi:=none) (l:=some (k,m)) (h:=none) a (by simp [YY,j]) rfl i q p (pY _)
 simpa [Kh,Kj] using h
theorem Rp{t e:TypeId}{b n:Nat}{x hi:Operand}{rows:List (List D)}{m:Int}{k:IntKind}[c:CO P t e n b](a:ev f x=some (.o (.d (.l rows))))(j:ev f hi=some (eI k m))(i:∀r∈rows,r.length=n)(q:0<=m)(p:m<=rows.length):AO P TB Γ ⟨d,.slice t x none (some hi) none,ty,pos,af,g⟩ f σ nx (.o (.d (.l (rows.take m.toNat)))):=by
 have h:=WD (P:=P) (TB:=TB) (Γ:=Γ) (d:=d) (ty:=ty) (pos:=pos) (af:=af) (g:=g) (σ:=σ) (nx:=nx) (t:=t) (x:=x) (lo:=none) (hi:=some hi) (l:=none) (h:=some (k,m)) a rfl (by simp [YY,j]) i (pY _) q p
 simpa [Kh,Kj] using h
end
end
def l9:Bool×List C->Option E
 | (false,[c])=>some (.o c)
 | (true,cs)=>some (.a cs)
 | _=>none
def VH(f:Env)(σ:Ab)(t:Tmp)(ag:Bool)(n:Nat):Option (Bool×List C):=match f t with
 | some (.o (.d (.p cs)))=>match Nat.ble n cs.length with
  | true=>some (ag,(cs.take n).map .d)
  | false=>none
 | some (.o (.ptr id k i j))=>match look σ id with
  | some (.cells _ k' rows)=>match Nat.beq k k',nth rows i with
   | true,some r=>match Nat.ble (j+n) r.length with
    | true=>some (ag,(r.drop j).take n)
    | false=>none
   | _,_=>none
  | _=>none
 | _=>none
def YE(T:List (Nat×TI))(f:Env)(σ:Ab):ResultVar->Option (Bool×List C)
 | .tmp t=>match f t with
  | some e=>SL e
  | none=>none
 | .cell t T'=>match (II T T').ld with
  | some (true,n)=>VH f σ t true n
  | some (false,1)=>VH f σ t false 1
  | _=>none
def YF(T:List (Nat×TI))(f:Env)(σ:Ab):List ResultVar->Option (List (Bool×List C))
 | []=>some []
 | r::rs=>match YE T f σ r,YF T f σ rs with
  | some x,some xs=>some (x::xs)
  | _,_=>none
def cu(T:List (Nat×TI))(rs:Array ResultVar)(f:Env)(σ:Ab):Option E:=match rs.toList with
 | []=>some (.t [])
 | [r]=>match YE T f σ r with
  | some x=>l9 x
  | none=>none
 | rs=>match rs.length,YF T f σ rs with
  | 2,some xs=>some (.t xs)
  | 3,some xs=>some (.t xs)
  | 4,some xs=>some (.t xs)
  | _,_=>none
def Zf(T:List (Nat×TI))(rs:Array ResultVar)(post:E->Ab->Nat->Prop):Exit->Env->Ab->Nat->Prop
 | .ret,f,σ,nx|.normal,f,σ,nx=>∃x,cu T rs f σ=some x/\post x σ nx
 | _,_,_,_=>False
section
variable {P:Program}{TB:Bi}{Γ:Ctx}{σ:Ab}
theorem O4{V:View}{f:Env}{a:Act}{t:Tmp}{T':TypeId}{ag:Bool}{n:Nat}{x:Bool×List C}(hi:Inv TB Γ V σ)(G:DU P T' ag n)(L:ag=false->n=1)(R:DS V f a.tmps)(h:VH f σ t ag n=some x) :
 ∃v,((do loadVar T' (<-asAddr (a.tmps.getD t undef))):Sem Value).run P V.w=.ok v V.w/\LG V x v:=by
 have key : ∃ (b o:Nat) (cs:List C) (vs:Nat->Value),a.tmps.getD t undef=.pointer (some ⟨b,o,none⟩)/\x=(ag,cs)/\cs.length=n/\∀(q:Nat) (c:C),cs[q]? = some c->V.w.cell? ⟨b,o+q,none⟩=some (vs q)/\AA V c (vs q):=by
  unfold VH at h;split at h
  ·rename_i ds H
   split at h
   ·rename_i u
    have u:=co u
    injection h with h
    subst h;have m:AA V (.d (.p ds)) (a.tmps.getD t undef):=R t _ H;generalize a.tmps.getD t undef=S at m;obtain⟨m⟩:=m
    cases m with
    | @p _ b o vs hb z K=>
     refine⟨b,o,_,vs,rfl,rfl,by simp;omega,λq c g=>?_⟩;rw [d9,d7] at g;obtain⟨dd,y,rfl⟩:=g;rw [nk] at y;split at y
     ·exact⟨z q dd y,.d (K q dd y)⟩
     ·cases y
   ·cases h
  ·rename_i id k i j H
   split at h
   ·rename_i T0 k' rows X
    split at h
    ·rename_i r hk N
     have hk:=i7 hk;subst hk;split at h
     ·rename_i u
      have u:=co u
      injection h with h
      subst h;rw [Mb] at N;have m:AA V (.ptr id k i j) (a.tmps.getD t undef):=R t _ H;generalize a.tmps.getD t undef=S at m
      cases m with
      | ptr hid B=>
       rcases hi.st.obj id _ X with ⟨J,_⟩|⟨_,cur,J,h5,h6,h7,Z,Y⟩
       ·exact absurd J B
       ·refine⟨V.ρ id,i*k+j,_,λq=>cur.getD (i*k+j+q) undef,rfl,rfl,by simp;omega,λq c g=>?_⟩
        rw [nk] at g;split at g
        ·rw [nn] at g
         obtain⟨v,s,M⟩:=Y i r (j+q) c N g;rw [<-nQ] at s
         have e:cur.getD (i*k+j+q) undef=v:=by simp [s]
         dsimp only;rw [e];exact⟨by simp [World.cell?,J,s],M⟩
        ·cases g
     ·cases h
    ·cases h
   ·cases h
  ·cases h
 obtain⟨b,o,cs,vs,T,rfl,l,I⟩:=key;rw [T]
 cases ag with
 | false=>
  have F:=L rfl;subst F
  match cs,l with
  | [c],_=>
   obtain⟨z,K⟩:=I 0 c rfl;refine⟨vs 0,?_,c,rfl,K⟩;rw [qD] at z;simp [asAddr,loadVar,(BG G.out V.w).1,z,go_sem]
 | true =>
  refine⟨.agg ((List.range n).map λq=>vs q).toArray,?_,_,rfl,by simp [l],λj c v Q A=>?_⟩
  ·have:(loadCells ⟨b,o,none⟩ n).run P V.w=.ok ((List.range n).map λq=>vs q).toArray V.w:=run_loadCells V.w _ n _ λq g=>by
    rw [Bx];exact(I q cs[q] (d5 (by omega))).1
   unfold loadCells at this;simp [asAddr,loadVar,(BG G.out V.w).1,(BG G.out V.w).2,this,go_sem]
  ·have g:j < n:=by have:=(am.1 Q).1;omega
   have:v=vs j:=by simpa [g] using A.symm
   subst this;exact(I j c Q).2
theorem cr[i:CS P]{V:View}{f:Env}{a:Act}{r:ResultVar}{x:Bool×List C}(hi:Inv TB Γ V σ)(g:DS V f a.tmps)(h:YE i.T f σ r=some x) :
 ∃v,((match r with
  | .tmp t=>pure (a.tmps.getD t undef)
  | .cell b t=>do loadVar t (<-asAddr (a.tmps.getD b undef))):Sem Value).run P V.w=.ok v V.w/\LG V x v:=by
 have c:=λt=>Dw (P:=P) t i.ok;unfold YE at h;split at h
 ·rename_i t
  split at h
  ·rename_i e j
   exact⟨_,by simp [go_sem],FG h (g t e j)⟩
  ·cases h
 ·rename_i t T'
  split at h
  ·rename_i n d
   exact O4 hi ((c T').Li d) (λh=>(by cases h)) g h
  ·rename_i d
   exact O4 hi ((c T').Li d) (λ_=>rfl) g h
  ·cases h
theorem fE{V:View}{x:Bool×List C}{e:E}{v:Value}(h:l9 x=some e)(a:LG V x v):A2 V e v:=by
 unfold l9 at h;split at h
 ·injection h with h;subst h
  obtain⟨c,b,d⟩:=a;simp at b;subst b;exact d
 ·injection h with h;subst h;exact a
 ·cases h
theorem cx[m:CS P]{fn:Func}{V:View}{f:Env}{a:Act}{x:E}(hi:Inv TB Γ V σ)(Y:DS V f a.tmps)(h:cu m.T fn.results f σ=some x):∃v,(results fn a.tmps).run P V.w=.ok v V.w/\A2 V x v:=by
 obtain⟨F,X,e⟩:∃F:ResultVar->Sem Value,results fn a.tmps=(do let vs <-fn.results.mapM F;pure (if h:vs.size=1 then vs[0] else .tuple vs))/\∀r x,YE m.T f σ r=some x->∃v,(F r).run P V.w=.ok v V.w/\LG V x v:=
  ⟨λr=>match r with
   | .tmp t=>pure (a.tmps.getD t undef)
   | .cell b t=>do loadVar t (<-asAddr (a.tmps.getD b undef)),rfl,λr x S=>cr hi Y S⟩
 have two:∀ {r:ResultVar} {rs:List ResultVar} {xs:List (Bool×List C)},YF m.T f σ (r::rs)=some xs->∃y ys,xs=y::ys/\YE m.T f σ r=some y/\YF m.T f σ rs=some ys:=by
  intro r rs xs h;unfold YF at h;split at h
  ·rename_i y ys k i
   injection h with h;subst h;exact⟨y,ys,rfl,k,i⟩
  ·cases h
 have nil:∀ {xs:List (Bool×List C)},YF m.T f σ []=some xs->xs=[]:=λh=>by injection h with h;exact h.symm
 have key:∀l:List ResultVar,fn.results=l.toArray->cu m.T l.toArray f σ=some x->∃v,(results fn a.tmps).run P V.w=.ok v V.w/\A2 V x v:=by
  intro l B h;rw [X,B];unfold cu at h;simp only at h
  match l with
  | []=>
   injection h with h;subst h
   exact⟨.tuple #[],by simp [go_sem],#[],rfl,rfl,λj x v c=>by simp at c⟩
  | [r]=>
   simp only at h;split at h
   ·rename_i y R
    obtain⟨v,k,i⟩:=e r y R;exact⟨v,by simp [k,go_sem],fE h i⟩
   ·cases h
  | [L,K]=>
   simp only [nB,o9] at h;split at h
   ·rename_i xs _ d
    injection h with h;subst h
    obtain⟨J,ys,rfl,k,d⟩:=two d;obtain⟨I,ys,rfl,i,d⟩:=two d;have:=nil d;subst this;obtain⟨o,u,q⟩:=e _ _ k;obtain⟨n,s,p⟩:=e _ _ i;refine⟨.tuple #[o,n],by simp [u,s,go_sem],_,rfl,rfl,λj x v' c g=>?_⟩
    match j with
    | 0=>simp at c g;subst c;subst g;exact q
    | 1=>simp at c g;subst c;subst g;exact p
    | j+2=>simp at c
   ·omega
   ·omega
   ·cases h
  | [L,K,Q]=>
   simp only [nB,o9] at h;split at h
   ·omega
   ·rename_i xs _ d
    injection h with h;subst h
    obtain⟨J,ys,rfl,k,d⟩:=two d;obtain⟨I,ys,rfl,i,d⟩:=two d;obtain⟨M,ys,rfl,G,d⟩:=two d;have:=nil d;subst this;obtain⟨o,u,q⟩:=e _ _ k;obtain⟨n,s,p⟩:=e _ _ i;obtain⟨z,H,A⟩:=e _ _ G;refine⟨.tuple #[o,n,z],by simp [u,s,H,go_sem],_,rfl,rfl,λj x v' c g=>?_⟩
    match j with
    | 0=>simp at c g;subst c;subst g;exact q
    | 1=>simp at c g;subst c;subst g;exact p
    | 2=>simp at c g;subst c;subst g;exact A
    | j+3=>simp at c
   ·omega
   ·cases h
  | [L,K,Q,r4]=>
   simp only [nB,o9] at h;split at h
   ·omega
   ·omega
   ·rename_i xs _ d
    injection h with h;subst h
    obtain⟨J,ys,rfl,k,d⟩:=two d;obtain⟨I,ys,rfl,i,d⟩:=two d;obtain⟨M,ys,rfl,G,d⟩:=two d;obtain⟨y4,ys,rfl,Z,d⟩:=two d;have:=nil d;subst this;obtain⟨o,u,q⟩:=e _ _ k;obtain⟨n,s,p⟩:=e _ _ i;obtain⟨z,H,A⟩:=e _ _ G;obtain⟨N,e4,t4⟩:=e _ _ Z;refine⟨.tuple #[o,n,z,N],by simp [u,s,H,e4,go_sem],_,rfl,rfl,λj x v' c g=>?_⟩
    match j with
    | 0=>simp at c g;subst c;subst g;exact q
    | 1=>simp at c g;subst c;subst g;exact p
    | 2=>simp at c g;subst c;subst g;exact A
    | 3=>simp at c g;subst c;subst g;exact t4
    | j+4=>simp at c
   ·cases h
  | _::_::_::_::_::_=>
   simp only [nB] at h;cases h
 exact key fn.results.toList (by simp) (by simpa using h)
theorem AJ.QP [s:CS P] {g:FuncId} {fn:Func} {c:Code} {m:Nat} {σ:Ab} {nx:Nat} {args:List E} {post:E->Ab->Nat->Prop} (B:m<=nx) (r:P.funcs[g]? = some fn) (hb:fn.body=some c) (f:(fn.name == "runtime.NumGoroutine")=false)
 (j:args.length<=fn.ntmps) (h:∀Γ:Ctx,Γ.V.nx=m->Au P TB Γ fn.ntmps c (Zf s.T fn.results post) (look (Ci 0 args)) σ nx):AJ P TB g m σ nx args post:=by
 refine⟨⟨fn,r,f,by rw [hb];rfl⟩,?_⟩;intro V vs S n ha;refine calls_of_wp r hb ?_
 have G:vs.size<=fn.ntmps:=by rw [ha.1];exact j
 have hi:Inv TB (Fc V (KE V m) σ S) V σ:=
  ⟨rfl,rfl,rfl,λ_ _ _=>rfl,n.iLt,λ_ h=>.inl h,VS (by rw [n.nx];exact B),n.st,λid o A q b hb=>.inr (.inl ⟨id,o,A,q,hb⟩),n.tabs,⟨S,n.hid,λb hb=>.inl hb,λb hb=>.inr (.inr hb)⟩⟩
 have z:BY TB (Fc V (KE V m) σ S) fn.ntmps V (look (Ci 0 args)) σ nx { tmps:=vs++Array.replicate (fn.ntmps - vs.size) undef,defers:=[] } := by
  refine⟨?_,?_,by simp;omega,hi,n.nx,rfl⟩
  ·intro t e p
   obtain⟨_,d⟩:=Cy args 0 t e p
   have d:args[t]? = some e:=by simpa using d
   have i:t < vs.size:=by rw [ha.1];exact(am.1 d).1
   have F:=ha.2 t e vs[t] d (nc i)
   simpa [nt i,i] using F
  ·intro t e p
   obtain⟨_,d⟩:=Cy args 0 t e p
   have d:args[t]? = some e:=by simpa using d
   have:=(am.1 d).1;omega
 refine wp_mono (h (Fc V (KE V m) σ S) rfl V _ z) ?_;rintro e a' w' ⟨V',f',σ',rfl,k,a⟩
 have fin:(∃x,cu s.T fn.results f' σ'=some x/\post x σ' V'.nx)->a'.defers=[]/\∃v,(results fn a'.tmps).run P V'.w=.ok v V'.w/\∃V'' v' x σ'',Ending.returned v=.returned v'/\V''.w=V'.w/\Inv TB (Fc V (KE V m) σ S) V'' σ''/\A2 V'' x v'/\post x σ'' V''.nx:=by
  rintro⟨x,u,hp⟩;obtain⟨v,y,p⟩:=cx (P:=P) a.inv a.env u;exact⟨a.defers,v,y,V',v,x,σ',rfl,rfl,a.inv,p,hp⟩
 cases e with
 | normal=>exact fin k
 | ret=>exact fin k
 | exit id=>exact k.elim
 | goto l=>exact k.elim
 | panic ch=>exact k.elim
 | outgrown=>exact k.elim
theorem eG [d:CS P] {g:FuncId} {fn:Func} {c:Code} {nx:Nat} {args:List E} {post:E->Ab->Nat->Prop} (b:P.funcs[g]? = some fn) (hb:fn.body=some c) (a:(fn.name == "runtime.NumGoroutine")=false)
 (ha:Nat.ble args.length fn.ntmps=true) (h:∀Γ:Ctx,Γ.V.nx=nx->Au P TB Γ fn.ntmps c (Zf d.T fn.results post) (look (Ci 0 args)) σ nx):Spec P TB g σ nx args post:=
 AJ.Gw (AJ.QP (io _) b hb a (co ha) h)
end
section
variable {P:Program}{TB:Bi}{Γ:Ctx}{d:Option Tmp}{ty:TypeId}{pos:String}{af:Array Edge}{g:Option (Nat×Bool)}{f:Env}{σ:Ab}{nx:Nat}
variable {K:E->Ab->Nat->Prop}
theorem X8{t e:TypeId}{k b:Nat}{z:List Value}{s x:Operand}{news:List (List C)}{ex:E}[hl:CO P t e k b][hz:BU P e z]
 (hs:ev f s=some .e) (hx:ev f x=some ex) (L:Hq σ k ex=some news) (S:∀r∈news,r.length=k) (hzk:z.length=k) (Z:0 < b) (hb:news.length*b<=140737488355328)
 (hK0:news=[]->∀b,∃y,(∀V:View,A2 V y (.slice b 0 0))/\K y σ nx) (hK:news≠[]->K (.o (.arr nx k 0 news.length)) ((nx,.cells e k news)::σ) (nx+1)):BS P TB Γ ⟨d,.call ⟨.builtin .append,#[s,x],#[t,t]⟩,ty,pos,af,g⟩ f σ nx K:=
 Di λV ρ h1 h2 h3=>by
  subst h3;obtain⟨i,hu,hi,hsz,Y⟩:=Gu hl.out;have I:=hz.out;simp only [Y7,hi,oh,d7] at I;obtain⟨zv,H,hzz⟩:=I
  have hzc:zv.cells.size=k:=by rw [<-hzk,<-hzz];simp
  obtain⟨sb,hsv⟩:=h1.get (x:=s) (by simp [Op.operands,Call.operands]) hs;have hxr:=WS h2 L S (h1.get (x:=x) (by simp [Op.operands,Call.operands]) hx)
  have l:∀w,(execOp ρ ⟨d,.call ⟨.builtin .append,#[s,x],#[t,t]⟩,ty,pos,af,g⟩).run P w=((Builtin.append_ #[t,t] ty #[ρ s,ρ x]).run P w).andThen λv w'=>.ok (.value v) w':=λw=>by
   simp only [execOp,resolve,invoke,builtin,qF,nX,pM,pure_bind,bind_pure_comp,pe]
  have R:news.length<=maxLen:=by
   have:news.length<=news.length*b:=ow _ Z;unfold maxLen;omega
  have T:((news.length:Nat):Int)<=9223372036854775807:=by
   have:news.length<=news.length*b:=ow _ Z;omega
  rw [hsv] at l;generalize hvx:ρ x=vx at *;have A:=λh=>hK0 h sb;have nothing:news=[]->∀v,(Builtin.append_ #[t,t] ty #[.slice sb 0 0,vx]).run P V.w=.ok (.slice sb 0 0) V.w->v=Value.slice sb 0 0->
   ∃v V' xx σ',(execOp ρ ⟨d,.call ⟨.builtin .append,#[s,x],#[t,t]⟩,ty,pos,af,g⟩).run P V.w=.ok (.value v) V'.w/\Ext V V'/\Inv TB Γ V' σ'/\A2 V' xx v/\K xx σ' V'.nx:=λhn v B _=>
   let ⟨y,k1,k2⟩:=A hn
   ⟨.slice sb 0 0,V,y,σ,by rw [l,B];rfl,Ext.refl _,h2,k1 V,k2⟩
  rcases hxr with ⟨rfl,Q⟩|⟨xa,xc,xv,rfl,J,m⟩
  ·exact nothing Q _ (E8 hu hi V.w sb 0 0 (io _) ty) rfl
  ·have n:(C8 news.length k xv).length=news.length*i.size:=by rw [CT,hsz]
   have p:∀j u,(C8 news.length k xv)[j]? = some u->V.w.cell? (xa.add j)=some u:=by
    intro q u hq;obtain⟨a,b,rfl,ha,hb,rfl⟩:=Ku hq
    have hbl:b < news[a].length:=by rw [J _ (nA ha)];exact hb
    exact(m a news[a] b news[a][b] (d5 ha) (d5 hbl)).1
   rcases nM news.length with F|F
   ·have N:news=[]:=m7.1 F
    refine nothing N _ ?_ rfl;subst N;cases sb<;>simp [Builtin.append_,run_underlying hu,sizeOf,typeInfo,hi,Builtin.lenOf,Builtin.firstCells,loadCells,loadCellsFrom,storeCells,go_sem]
   ·have hne:news≠[]:=λh=>by subst h;simp at F
    have M:(Builtin.append_ #[t,t] ty #[.slice sb 0 0,.slice (some xa) news.length xc]).run P V.w=.ok (.slice (some ⟨V.w.heap.size,0,none⟩) news.length (grownCap V.w news.length 0 e))
     (V.w.drew.alloc (.cells ((C8 news.length k xv).toArray++Builtin.zeroCells zv.cells (grownCap V.w news.length 0 e - news.length)) e)):=by
     cases sb with
     | none=>
      have B:=run_append_nil (P:=P) V.w t ty e i zv hu hi H xa news.length xc _ n p F (by omega) (by rw [Y];omega);rw [B]
     | some sa=>
      have B:=run_append_grow (P:=P) V.w t ty e i zv hu hi H sa 0 0 [] (by simp) (λj v hj=>by simp at hj) xa news.length xc _ n p (by omega) (by simpa using T) (by rw [Y];exact growslice_fits (by omega) (by simpa using hb))
      simpa using B
    have G:=grownCap_ge V.w news.length 0 e;have hcm:=grownCap_le_maxLen V.w news.length 0 e R;generalize grownCap V.w news.length 0 e=cap' at *
    let w':=V.w.drew.alloc (.cells ((C8 news.length k xv).toArray++Builtin.zeroCells zv.cells (cap' - news.length)) e)
    have ee:Ext V (Aw V V.w.heap.size cap' False w'):=Ec (by simp [w']) λb hb=>A1 V.w.drew _ b (h2.iLt b hb)
    obtain⟨hi',he'⟩:=h2.alloc (c:=cap') (nl:=False) (w:=w') (ob:=.cells e k news) rfl rfl rfl rfl (by simp [w']) (λb hb=>A1 V.w.drew _ b hb) (by
     have B:(Aw V V.w.heap.size cap' False w').ρ V.nx=V.w.heap.size:=by simp [Aw]
     have X:(Aw V V.w.heap.size cap' False w').cap V.nx=cap':=by simp [Aw]
     refine .inr ⟨by simp [Aw],(C8 news.length k xv).toArray++Builtin.zeroCells zv.cells (cap' - news.length),?_,?_,?_,?_,S,?_⟩
     ·have:=BZ V.w.drew (.cells ((C8 news.length k xv).toArray++Builtin.zeroCells zv.cells (cap' - news.length)) e)
      rw [B];exact this
     ·rw [X]
      simp only [Array.size_append,qy,CT,Builtin.zeroCells,Array.size_map,Array.size_range,hzc,<-nz];congr 1;omega
     ·rw [X];exact G
     ·rw [X];exact hcm
     ·intro a r j c hi hj
      have hil:=(am.1 hi).1
      have hjl:j < k:=by rw [<-J r (ce hi)];exact(am.1 hj).1
      have h10:=Kt (vs:=xv) hil hjl;refine⟨xv a j,?_,(m a r j c hi hj).2.ext ee⟩;have hlt:=(am.1 h10).1;rw [nt (by simpa using hlt)]
      simpa using h10)
    refine⟨.slice (some ⟨V.w.heap.size,0,none⟩) news.length cap',_,_,(V.nx,.cells e k news)::σ,?_,he',hi',?_,hK hne⟩
    ·rw [l,M];rfl
    ·have:=@AA.arr (Aw V V.w.heap.size cap' False w') V.nx k 0 news.length (by simp [Aw]) (by simp [Aw]) (by simp [Aw];exact G)
     have B:(Aw V V.w.heap.size cap' False w').ρ V.nx=V.w.heap.size:=by simp [Aw]
     have X:(Aw V V.w.heap.size cap' False w').cap V.nx=cap':=by simp [Aw]
     rw [B,X,oy,qG] at this;exact this
theorem Iu{t e:TypeId}{k b:Nat}{z:List Value}{s x:Operand}{news:List (List C)}{ex:E}[u:CO P t e k b][q:BU P e z]
 (n:ev f s=some .e) (m:ev f x=some ex) (a:Hq σ k ex=some news) (i:∀r∈news,r.length=k) (c:z.length=k) (j:0 < b) (hb:news.length*b<=140737488355328)
 (l:news=[]->K .e σ nx) (p:news≠[]->K (.o (.arr nx k 0 news.length)) ((nx,.cells e k news)::σ) (nx+1)):BS P TB Γ ⟨d,.call ⟨.builtin .append,#[s,x],#[t,t]⟩,ty,pos,af,g⟩ f σ nx K:=X8 n m a i c j hb (λh b=>⟨.e,λV=>⟨b,rfl⟩,l h⟩) p
end
section
variable {P:Program}{TB:Bi}{Γ:Ctx}{N:Nat}
theorem Au.AL{c:Code}{Q:Exit->Env->Ab->Nat->Prop}{L0 Lk:List (Nat×E)}{σ Sk:Ab}{nx:Nat}(ks is:List Nat)(hk:Na L0 ks=some Lk)(hi:VQ σ is=some Sk)(v:List (Nat×E))(s:Ab)(l:List Nat)
 (a:(∀i,i < Γ.V.nx->l[i]? = some i)/\l.Nodup) (b:Du (nm l nx) (look L0) (v++Lk)/\AS (nm l nx) σ (s++Sk)) (h:Au P TB Γ N c Q (look (v++Lk)) (s++Sk) l.length):Au P TB Γ N c Q (look L0) σ nx:=
 Au.names l (v++Lk) (s++Sk) a.1 a.2 b.1 b.2 h
end
section
variable {P:Program}{TB:Bi}{Γ:Ctx}{d:Option Tmp}{ty:TypeId}{pos:String}{af:Array Edge}{g:Option (Nat×Bool)}{f:Env}{σ:Ab}{nx:Nat}
variable {K:E->Ab->Nat->Prop}
theorem Fj{t:TypeId}{z:List Value}{fl:List (Nat×Nat)}{parts:Array (Nat×Operand)}{es:List E}{qs:List (Nat×List C)}[M:BU P t z][S:EC P t fl](p k e q k' e':Nat)(hp:z[p]? = some (.slice none 0 0))(m:z[q]? = some (.slice none 0 0))(R:p≠q)(I:Il f (parts.toList.map (·.2))=some es)(Q:EN fl parts.toList es=some qs)
 (A:z.all OQ=true) (B:(qs.all λx=>Nat.ble (x.1+x.2.length) z.length)=true) (X:K (.a (Bb qs (((z.map zC).set p (.arr nx k 0 0)).set q (.arr (nx+1) k' 0 0)))) ((nx+1,.cells e' k' [])::(nx,.cells e k [])::σ) (nx+2)):BS P TB Γ ⟨d,.build t parts,ty,pos,af,g⟩ f σ nx K:=
 Di λV ρ h1 h2 h3=>by
  subst h3;obtain⟨i,zv,hi,s,l⟩:=Hs M.out;obtain⟨G,L⟩:=h2.alloc (c:=0) (nl:=True) (w:=V.w) (ob:=.cells e k []) rfl rfl rfl rfl (io _) (λ_ _=>rfl) (.inl ⟨by simp [Aw],rfl⟩);obtain⟨F,J⟩:=G.alloc (c:=0) (nl:=True) (w:=V.w) (ob:=.cells e' k' []) rfl rfl rfl rfl (io _) (λ_ _=>rfl) (.inl ⟨by simp [Aw],rfl⟩);have r:=L.trans J;have H:=C3 (V:=Aw (Aw V V.w.heap.size 0 True V.w) V.w.heap.size 0 True V.w) (ρ:=ρ) parts.toList es qs (λx y e T=>(h1.get (by simp only [Op.operands];simpa using y) T).ext r) I Q
  have u:C0 (Aw (Aw V V.w.heap.size 0 True V.w) V.w.heap.size 0 True V.w) (((z.map zC).set p (.arr V.nx k 0 0)).set q (.arr (V.nx+1) k' 0 0)) zv.cells:=by
   refine⟨by rw [ny,ny,f7,<-l];simp,λj c v h N=>?_⟩
   have b:z[j]? = some v:=by rw [<-l,nZ];exact N
   by_cases n:q=j
   ·subst n
    rw [m] at b
    injection b with b
    subst b;rw [nT (by rw [ny,f7];exact(am.1 m).1)] at h
    injection h with h
    subst h;exact AA.nil (by simp [Aw]) (by simp [Aw])
   ·rw [nU n] at h
    by_cases o:p=j
    ·subst o
     rw [hp] at b
     injection b with b
     subst b;rw [nT (by rw [f7];exact(am.1 hp).1)] at h
     injection h with h
     subst h;exact AA.nil (by simp [Aw];omega) (by simp [Aw])
    ·rw [nU o,d9,b] at h
     injection h with h
     subst h;exact Jg (gt.1 A v (ce b))
  obtain⟨cells,Z,Y⟩:=Fz _ _ _ _ H u (λx y=>by rw [ny,ny,f7];exact HM _ _ B x y);have hb:=run_build (P:=P) (ρ:=ρ) (parts:=parts) (V:=V) hi s S.out Z;refine⟨.agg cells,_,_,_,?_,r,F,(show A2 _ (.a _) _ from ⟨cells,rfl,Y⟩),X⟩
  show ((do let v <-Instr.build t (parts.map λ(i,x)=>(i,ρ x));pure (Go.Next.value v):Sem Go.Next)).run P V.w=_
  simp only [nf,hb,mY];rfl
end
end Go.Am
