/-
  Regions that draw, with new variables in any order: the walk.
-/
import Derived.Test.YtgpbfllcjdfelaaGreatDoorPart11
set_option linter.all false
namespace Go.Am.R
open Go
section
variable {P:Program}{TB:Bp}{ops:Array Oper}{Γ:Ctx}{N:Nat}
def TQ(TB:Bp)(Γ:Ctx)(N:Nat)(K:BN->Prop)(Q:Exit->Act->World->Prop):Prop:=∀V S a,Il TB Γ N V S a->K S->Q .normal a V.w
theorem Nu{i m:Nat}{o:Oper}(n:ops[i]? = some o)(k:∀t,o.dst=some t->t < N){K:BN->Prop}{K':Act->World->Prop}{Q:Exit->Act->World->Prop}
 (l:∀V S a,Il TB Γ N V S a->K S->K' a V.w) {V:View} {S:BN} {a:Act} (b:Il TB Γ N V S a) (h:ZZ P TB ops m o K S):wpOp P ops Q i K' a V.w:=by
 have d:∀t e,S.f t=some e->t < a.tmps.size:=λt e p=>by rw [b.st.size];exact b.st.lt t e p
 obtain⟨Q0,j⟩:=b.sc
 have c:Good TB V S.σ S.nx Q0:=⟨b.st.inv.iLt,b.st.inv.st,b.st.inv.tabs,b.st.nx,j.s⟩
 unfold wpOp;simp only [n]
 rcases h with ⟨g,hk⟩|⟨g,hk⟩
 ·rw [GJ b.st.env d g]
  have q:Il TB Γ N V (S.put o.dst (.t [])) (a.put o.dst undef):=b.put (σ':=S.σ) k (Ext.refl _) j c.inv b.st.nx (KJ V)
  simpa using l _ _ _ q hk
 ·rw [GJ b.st.env d g]
  simp only [if_true];refine .inl (TA P (Oper.wp_mono ?_ (hk (ED V V S.σ Q0) V a (b.st.env.op o) c.inv b.st.nx)));rintro a' w' ⟨V',v,x,σ',rfl,rfl,z,y,u,r⟩;exact l V' _ _ (b.put k z j y rfl u) r.2
theorem WA{d:Option Tmp}{ty:TypeId}{pos:String}{af:Array Edge}{g:Option (Nat×Bool)}{ρ:Operand->Value}{T:TypeId}{z:List Value}(c:WT P T=some z):∃zv:Value,zv.cells.toList=z/\∀w:World,(execOp ρ ⟨d,.alloc T,ty,pos,af,g⟩).run P w=.ok (.value (.pointer (some ⟨w.heap.size,0,none⟩))) (w.alloc (.cells zv.cells T)):=by
 obtain⟨i,zv,hi,b,a⟩:=Hd c;exact⟨zv,a,λw=>by simp [execOp,Instr.alloc,zeroValue,typeInfo,hi,b,newVar,newRow,go_sem]⟩
theorem LX{i c:Nat}{o:Oper}(l:ops[i]? = some o)(n:∀t,o.dst=some t->t < N){K:BN->Prop}{K':Act->World->Prop}{Q:Exit->Act->World->Prop}
 (p:∀V S a,Il TB Γ N V S a->K S->K' a V.w) {V:View} {S:BN} {a:Act} (j:Il TB Γ N V S a) (h:St P TB ops c o K S):wpOp P ops Q i K' a V.w:=by
 unfold St at h;by_cases I:c=1
 ·rw [if_pos I] at h;exact Nu l n p j h
 ·rw [if_neg I] at h
  by_cases ck:1000<=c
  ·rw [if_pos ck] at h;exact Nu l n p j h
  rw [if_neg ck] at h;by_cases H:c=5
  ·rw [if_pos H] at h
   obtain⟨d,T,z,_,r,y⟩:=h
   have A:d < N:=by
    obtain⟨_,b,hb,_⟩:=j.pd d T z r;have:=(kM.1 hb).1;rw [j.st.size] at this;exact this
   obtain⟨V',X,k⟩:=j.fE A r;have:=Nu (Q:=Q) l n p k y;rwa [X] at this
  ·rw [if_neg H] at h
   obtain⟨u,J,hk⟩:=h
   rcases J with ⟨F,s,rfl⟩|⟨F,s,x,f,rfl⟩|⟨F,s,d,T,z,f,B,R,M,L,rfl⟩
   ·exact Nu (m:=0) l n p j (.inl ⟨s,hk⟩)
   ·refine Nu (m:=0) l n p j (.inr ⟨s,λΓ=>AU.jd P TB Γ ?_ ⟨λ_ _=>rfl,hk⟩⟩)
    unfold QC at f;by_cases e:c=2
    ·rw [if_pos e] at f;exact f Γ S.σ S.nx
    ·rw [if_neg e] at f
     by_cases G:c=0
     ·rw [if_pos G] at f;exact f Γ
     ·rw [if_neg G] at f;exact f.2 Γ S.σ S.nx rfl
   ·unfold wpOp
    simp only [l]
    have hw:Region.wanted o (yielded ops a.tmps)=true:=by unfold Region.wanted;rw [s]
    rw [hw];simp only [if_true];refine .inl ?_;obtain⟨dst,op,ty,pos,af,g⟩:=o;simp only at f B;subst f B;obtain⟨zv,v,q⟩:=WA (P:=P) (d:=some d) (ty:=ty) (pos:=pos) (af:=af) (g:=g) (ρ:=a.eval) R;unfold Oper.wp;rw [q];have k:=j.alloc (T:=T) (zv:=zv) (n d rfl) L v M;exact p _ _ _ k hk
theorem RX{ops:Array Oper}(u:FN N ops=true){K:BN->Prop}{Q:Exit->Act->World->Prop}(v:TQ TB Γ N K Q):∀(n:Nat) (r:List (Nat×Nat)) (listed:Array Bool) (V:View) (S:BN) (a:Act),
 r.length=n->EN ops listed->A6 ops r listed=true->Dv ops r=true->Il TB Γ N V S a->Lex P TB ops r K S->wpAny P .any ops Q n listed a V.w
 | 0,r,listed,V,S,a,f,s,b,hk,m,h=>by
  have:r=[]:=kJ.1 f;subst this;refine⟨?_,v V S a m h⟩
  simpa [A6] using b
 | n + 1,r,listed,V,S,a,f,s,b,hk,m,h=>by
  refine⟨λe=>?_,λj q=>?_⟩
  ·cases r with
   | nil=>simp at f
   | cons x r=>
    obtain⟨i,c⟩:=x;simp only [A6,d5] at b;have:=b.1;rw [e] at this;simp at this
  ·obtain⟨k,c,g,o,rfl,d,y⟩:=Ex K r listed S s b hk h j q
   refine LX d (λt ht=>Ss u d ht) (λV' S' a' l p=>?_) m y;exact RX u v n (k++g) _ V' S' a' (by simp at f |-;omega) (GM s q) (MX k g j c listed b q) (Ju k g _ hk) l p
variable {i c:Nat}{r:List (Nat×Nat)}{L:List (Nat×E)}{σ:Ab}{nx:Nat}{pl:List (Nat×(TypeId×List Value))}{K:BN->Prop}{Q:Exit->Env->Ab->Nat->Prop}
def EL(P:Program)(TB:Bp)(ops:Array Oper)(r:List (Nat×Nat))(K:BN->Prop)(L:List (Nat×E))(σ:Ab)(nx:Nat)(pl:List (Nat×(TypeId×List Value))):Prop:=Lex P TB ops r K ⟨look L,σ,nx,look pl⟩
theorem Th{id:Nat}(r:List (Nat×Nat))(p:P.follows .mixedOrders=true)(s:FN N ops=true)(o:r.length=ops.size)(i:(A6 ops r (Array.replicate ops.size false) && Dv ops r)=true)
 (h:EL P TB ops r (λS=>Q .normal S.f S.σ S.nx) L σ nx []):Aj P TB Γ N (.region id ops true) Q (look L) σ nx:=by
 intro V a c;rw [d5] at i;refine wp_region_any p ?_;obtain⟨k,t⟩:=c.inv.drew
 have g:BV TB Γ N { V with w:={ V.w with drawn:=V.w.drawn+1 } } (look L) σ V.nx a:=⟨c.env.ext t,c.lt,c.size,k,rfl,c.defers⟩
 have j:=c.nx;subst j;exact RX s (λV S a c hk=>⟨V,S.f,S.σ,rfl,by rw [c.st.nx];exact hk,by rw [c.st.nx];exact c.st⟩) ops.size r _ { V with w:={ V.w with drawn:=V.w.drawn+1 } } _ a o (KP ops) i.1 i.2 ⟨g,λd T z e=>(by cases e),λd d' q q' b b' e=>(by cases e),let ⟨Q0,n,m,l⟩:=k.hid;⟨Q0,n,m,l,λd q b e=>(by cases e)⟩⟩ h
theorem Aa{K:BN->Prop}(h:K ⟨look L,σ,nx,look pl⟩):EL P TB ops [] K L σ nx pl:=h
theorem ME(h:Q .normal (look L) σ nx):EL P TB ops [] (λS=>Q .normal S.f S.σ S.nx) L σ nx pl:=h
def Dj(d:Nat):List (Nat×(TypeId×List Value))->List (Nat×(TypeId×List Value))
 | []=>[]
 | (k,x)::r=>bif Nat.beq k d then Dj d r else (k,x)::Dj d r
theorem GU:∀(pl:List (Nat×(TypeId×List Value))) (d t:Nat),look (Dj d pl) t=if t=d then none else look pl t
 | [],d,t=>by simp [Dj,look]
 | (k, x)::r,d,t=>by
  simp only [Dj];by_cases h:k=d
  ·subst h
   simp only [nP,cond_true];rw [GU r k t,Av];by_cases a:t=k
   ·simp [a]
   ·rw [if_neg a,if_neg a,if_neg (Ne.symm a)]
  ·have:Nat.beq k d=false:=by
    cases hb:Nat.beq k d
    ·rfl
    ·exact absurd (gt hb) h
   rw [this,cond_false,Av,Av,GU r d t];by_cases a:t=d
   ·subst a;simp [h]
   ·simp [a]
theorem GD{d:Tmp}{x:E}{σ':Ab}{nx':Nat}:BN.put ⟨look L,σ',nx',look pl⟩ (some d) x=⟨look ((d,x)::L),σ',nx',look (Dj d pl)⟩:=by
 unfold BN.put;rw [De];congr 1;funext t;rw [GU];by_cases h:t=d
 ·subst h;simp
 ·simp [h,Ne.symm h]
theorem Rr{x:E}{σ':Ab}{nx':Nat}:BN.put ⟨look L,σ',nx',look pl⟩ none x=⟨look L,σ',nx',look pl⟩:=by
 unfold BN.put;congr 1
def Br(P:Program)(TB:Bp)(ops:Array Oper)(o:Oper)(i c:Nat)(r:List (Nat×Nat))(K:BN->Prop)(L:List (Nat×E))(σ:Ab)(nx:Nat)(pl:List (Nat×(TypeId×List Value))):Prop:=
 ops[i]? = some o->EL P TB ops ((i,c)::r) K L σ nx pl
theorem Ag{o:Oper}(a:MT ops.toList i=some o)(h:Br P TB ops o i c r K L σ nx pl):EL P TB ops ((i,c)::r) K L σ nx pl:=h (by rw [MU] at a;simpa using a)
variable {d:Tmp}{op:Op}{ty:TypeId}{pos:String}{af:Array Edge}{g:Option (Nat×Bool)}
theorem Dg{x:E}(b:∀Γ σ nx,AU P TB Γ ⟨some d,op,ty,pos,af,g⟩ (look L) σ nx x)(j:Bk ops ⟨some d,op,ty,pos,af,g⟩ (look L)=some true)(e:(Nat.beq c 0 || Nat.beq c 2)=true)(h:EL P TB ops r K ((d,x)::L) σ nx (Dj d pl)):Br P TB ops ⟨some d,op,ty,pos,af,g⟩ i c r K L σ nx pl:=by
 intro f;refine⟨_,f,?_⟩;unfold St
 have a:c=0\/c=2:=by
  simp only [kR,Nat.beq_eq] at e;exact e
 rw [if_neg (by omega),if_neg (by omega),if_neg (by omega)];refine⟨λS=>S.put (some d) x,.inr (.inl ⟨by omega,j,x,?_,rfl⟩),?_⟩
 ·unfold QC
  rcases a with a|a
  ·rw [if_neg (by omega),if_pos a];exact λΓ=>b Γ σ nx
  ·rw [if_pos a];exact b
 ·simp only
  rw [GD];exact h
theorem eb{x:E}(a:∀Γ,AU P TB Γ ⟨some d,op,ty,pos,af,g⟩ (look L) σ nx x)(e:Bk ops ⟨some d,op,ty,pos,af,g⟩ (look L)=some true)(f:Nat.beq c 0=true)(h:EL P TB ops r K ((d,x)::L) σ nx (Dj d pl)):Br P TB ops ⟨some d,op,ty,pos,af,g⟩ i c r K L σ nx pl:=by
 intro b;refine⟨_,b,?_⟩;unfold St
 have j:c=0:=by simpa using f
 rw [if_neg (by omega),if_neg (by omega),if_neg (by omega)];refine⟨λS=>S.put (some d) x,.inr (.inl ⟨by omega,e,x,?_,rfl⟩),?_⟩
 ·unfold QC;rw [if_neg (by omega),if_pos j];exact a
 ·simp only
  rw [GD];exact h
theorem jx{x:E}(b:∀Γ σ' nx',look σ' (c - 10)=look σ (c - 10)->AU P TB Γ ⟨some d,op,ty,pos,af,g⟩ (look L) σ' nx' x)(f:Bk ops ⟨some d,op,ty,pos,af,g⟩ (look L)=some true)(a:(Nat.ble 10 c && Nat.ble c 999)=true)(h:EL P TB ops r K ((d,x)::L) σ nx (Dj d pl)):Br P TB ops ⟨some d,op,ty,pos,af,g⟩ i c r K L σ nx pl:=by
 intro e;refine⟨_,e,?_⟩;unfold St
 have j:10<=c/\c<=999:=by
  simp only [d5,Nat.ble_eq] at a;exact a
 rw [if_neg (by omega),if_neg (by omega),if_neg (by omega)];refine⟨λS=>S.put (some d) x,.inr (.inl ⟨by omega,f,x,?_,rfl⟩),?_⟩
 ·unfold QC;rw [if_neg (by omega),if_neg (by omega)];exact⟨j.1,b⟩
 ·simp only
  rw [GD];exact h
theorem BE(h:∀Γ,BZ P TB Γ ⟨some d,op,ty,pos,af,g⟩ (look L) σ nx (λx σ' nx'=>Kept (c - 1000) σ σ'/\EL P TB ops r K ((d,x)::L) σ' nx' (Dj d pl)))(j:Bk ops ⟨some d,op,ty,pos,af,g⟩ (look L)=some true)(a:Nat.ble 1000 c=true):Br P TB ops ⟨some d,op,ty,pos,af,g⟩ i c r K L σ nx pl:=by
 intro b;refine⟨_,b,?_⟩;unfold St;have a:=ce a;rw [if_neg (by omega),if_pos a]
 exact .inr ⟨j,λΓ=>(h Γ).mono λx σ' nx' hk=>by
  refine⟨hk.1,?_⟩;have e:BN.put ⟨(⟨look L,σ,nx,look pl⟩:BN).f,σ',nx',(⟨look L,σ,nx,look pl⟩:BN).pd⟩ (some d) x=_:=GD
  rw [e];exact hk.2⟩
theorem Io(h:∀Γ,BZ P TB Γ ⟨some d,op,ty,pos,af,g⟩ (look L) σ nx (λx σ' nx'=>EL P TB ops r K ((d,x)::L) σ' nx' (Dj d pl)))(b:Bk ops ⟨some d,op,ty,pos,af,g⟩ (look L)=some true)(j:c=1):Br P TB ops ⟨some d,op,ty,pos,af,g⟩ i c r K L σ nx pl:=by
 intro a;refine⟨_,a,?_⟩;unfold St;rw [if_pos j]
 exact .inr ⟨b,λΓ=>(h Γ).mono λx σ' nx' hk=>by
  refine⟨λid hid=>by simp at hid,?_⟩;have e:BN.put ⟨(⟨look L,σ,nx,look pl⟩:BN).f,σ',nx',(⟨look L,σ,nx,look pl⟩:BN).pd⟩ (some d) x=_:=GD
  rw [e];exact hk⟩
theorem Fo(h:∀Γ,BZ P TB Γ ⟨none,op,ty,pos,af,g⟩ (look L) σ nx (λ_ σ' nx'=>EL P TB ops r K L σ' nx' pl))(b:Bk ops ⟨none,op,ty,pos,af,g⟩ (look L)=some true)(d:c=1):Br P TB ops ⟨none,op,ty,pos,af,g⟩ i c r K L σ nx pl:=by
 intro a;refine⟨_,a,?_⟩;unfold St;rw [if_pos d]
 exact .inr ⟨b,λΓ=>(h Γ).mono λx σ' nx' hk=>by
  refine⟨λid hid=>by simp at hid,?_⟩;have e:BN.put ⟨(⟨look L,σ,nx,look pl⟩:BN).f,σ',nx',(⟨look L,σ,nx,look pl⟩:BN).pd⟩ none x=_:=Rr
  rw [e];exact hk⟩
theorem jy{T:TypeId}{z:List Value}[b:BM P T z](a:z.all NK=true)(g:look L d=none)(j:c=3)(h:EL P TB ops r K L σ nx ((d,(T,z))::pl)):Br P TB ops ⟨some d,.alloc T,ty,pos,af,none⟩ i c r K L σ nx pl:=by
 intro f;refine⟨_,f,?_⟩;unfold St;rw [if_neg (by omega),if_neg (by omega),if_neg (by omega)];refine⟨λS=>S.GC d (T,z),.inr (.inr ⟨j,rfl,d,T,z,rfl,rfl,b.out,a,g,rfl⟩),?_⟩
 have e:BN.GC ⟨look L,σ,nx,look pl⟩ d (T,z)=⟨look L,σ,nx,look ((d,(T,z))::pl)⟩:=by
  unfold BN.GC;congr 1;funext t;rw [Av];by_cases h:t=d
  ·subst h;simp
  ·simp [h,Ne.symm h]
 simp only;rw [e];exact h
theorem jw{t : Tmp}{T:TypeId}{z:List Value}(hp:look pl t=some (T,z))(ht:(op.operands.any λx=>match x with|.tmp t'=>Nat.beq t' t|_=>false)=true)(k:Bk ops ⟨none,op,ty,pos,af,g⟩ (look ((t,.o (.ptr nx z.length 0 0))::L))=some true)(l:c=5)
    (h:∀Γ,BZ P TB Γ ⟨none,op,ty,pos,af,g⟩ (look ((t,.o (.ptr nx z.length 0 0))::L)) ((nx,.cells T z.length [z.map zC])::σ) (nx+1) (λ_ σ' nx'=>EL P TB ops r K ((t,.o (.ptr nx z.length 0 0))::L) σ' nx' (Dj t pl))):Br P TB ops ⟨none,op,ty,pos,af,g⟩ i c r K L σ nx pl:=by
  intro d;refine⟨_,d,?_⟩;unfold St;rw [if_neg (by omega),if_neg (by omega),if_pos l]
  have e:BN.ad ⟨look L,σ,nx,look pl⟩ t T z=⟨look ((t,.o (.ptr nx z.length 0 0))::L),(nx,.cells T z.length [z.map zC])::σ,nx+1,look (Dj t pl)⟩:=by
    unfold BN.ad;rw [De];congr 1;funext t';rw [GU]
  have j : .tmp t∈op.operands:=by
    obtain⟨i,hi,a⟩:=nB.1 ht;have b:=n8 hi;generalize op.operands[i]=x at *
    cases x with
    | tmp t' => have:t'=t:=by simpa using a
                rw [<-this];exact b
    | _=>cases a
  refine⟨t,T,z,j,hp,?_⟩;rw [e]
  exact .inr ⟨k,λΓ=>(h Γ).mono λx σ' nx' hk=>by
    refine⟨λid hid=>by simp at hid,?_⟩;have m:BN.put ⟨(⟨look ((t,.o (.ptr nx z.length 0 0))::L),(nx,.cells T z.length [z.map zC])::σ,nx+1,look (Dj t pl)⟩:BN).f,σ',nx',(⟨look ((t,.o (.ptr nx z.length 0 0))::L),(nx,.cells T z.length [z.map zC])::σ,nx+1,look (Dj t pl)⟩:BN).pd⟩ none x=_:=Rr
    rw [m];exact hk⟩
theorem gv{t:Tmp}{ts:TypeId}{y:Operand}{T:TypeId}{z:List Value}(hp:look pl t=some (T,z))(a:Bk ops ⟨none,.store ts (.tmp t) y,ty,pos,af,g⟩ (look ((t,.o (.ptr nx z.length 0 0))::L))=some true)(b:c=5)
 (h:∀Γ,BZ P TB Γ ⟨none,.store ts (.tmp t) y,ty,pos,af,g⟩ (look ((t,.o (.ptr nx z.length 0 0))::L)) ((nx,.cells T z.length [z.map zC])::σ) (nx+1) (λ_ σ' nx'=>EL P TB ops r K ((t,.o (.ptr nx z.length 0 0))::L) σ' nx' (Dj t pl))):Br P TB ops ⟨none,.store ts (.tmp t) y,ty,pos,af,g⟩ i c r K L σ nx pl:=
 jw hp (by simp [Op.operands]) a b h
theorem Wk{a:Bool}(e:∀Γ σ nx,AU P TB Γ ⟨some d,op,ty,pos,af,g⟩ (look L) σ nx (eB a))(f:Bk ops ⟨some d,op,ty,pos,af,g⟩ (look L)=some true)(j:(Nat.beq c 0 || Nat.beq c 2)=true)(h:∀b,a=b->EL P TB ops r K ((d,eB b)::L) σ nx (Dj d pl)):Br P TB ops ⟨some d,op,ty,pos,af,g⟩ i c r K L σ nx pl:=Dg e f j (h a rfl)
theorem gz{j:Nat}{w:Bool}(e:Bk ops ⟨some d,op,ty,pos,af,some (j,w)⟩ (look L)=some false)(a:(Nat.beq c 0 || Nat.beq c 2)=true)(h:EL P TB ops r K ((d,.t [])::L) σ nx (Dj d pl)):Br P TB ops ⟨some d,op,ty,pos,af,some (j,w)⟩ i c r K L σ nx pl:=by
 intro b;refine⟨_,b,?_⟩;unfold St
 have f:c=0\/c=2:=by
  simp only [kR,Nat.beq_eq] at a;exact a
 rw [if_neg (by omega),if_neg (by omega),if_neg (by omega)];refine⟨λS=>S.put (some d) (.t []),.inl ⟨by omega,e,rfl⟩,?_⟩;simp only;rw [GD];exact h
end
section
variable {P:Program}{TB:Bp}{ops:Array Oper}{i c:Nat}{r:List (Nat×Nat)}{L:List (Nat×E)}{σ:Ab}{nx:Nat}{pl:List (Nat×(TypeId×List Value))}{K:BN->Prop}{d:Option Tmp}{ty:TypeId}{pos:String}{af:Array Edge}{g:Option (Nat×Bool)}
end
section
variable {P:Program}{TB:Bp}{ops:Array Oper}{i c:Nat}{r:List (Nat×Nat)}{L:List (Nat×E)}{σ:Ab}{nx:Nat}{pl:List (Nat×(TypeId×List Value))}{K:BN->Prop}{d:Tmp}{ty:TypeId}{pos:String}{af:Array Edge}{g:Option (Nat×Bool)}{op:Op}
theorem yQ{md:Bool}[f:CL P]{q:Prop}{x:E}(b:Bk ops ⟨some d,op,ty,pos,af,g⟩ (look L)=some true)(e:(Nat.beq c 0 || Nat.beq c 2)=true)(h:Zp f.T md (look L) op=some (q,x))(a:q)(hk:EL P TB ops r K ((d,x)::L) σ nx (Dj d pl)):Br P TB ops ⟨some d,op,ty,pos,af,g⟩ i c r K L σ nx pl:=
 Dg (λ_ _ _=>UL h a) b e hk
theorem yB[j:CL P]{a:Bool}(e:Bk ops ⟨some d,op,ty,pos,af,g⟩ (look L)=some true)(f:(Nat.beq c 0 || Nat.beq c 2)=true)(h:Ry j.T (look L) op=some a)(hk:∀b,a=b->EL P TB ops r K ((d,eB b)::L) σ nx (Dj d pl)):Br P TB ops ⟨some d,op,ty,pos,af,g⟩ i c r K L σ nx pl:=
 Wk (λ_ _ _=>Rz h) e f hk
theorem yS[e:CL P]{x:E}(a:Bk ops ⟨some d,op,ty,pos,af,g⟩ (look L)=some true)(b:Nat.beq c 0=true)(h:Ld e.T σ (look L) op=some x)(hk:EL P TB ops r K ((d,x)::L) σ nx (Dj d pl)):Br P TB ops ⟨some d,op,ty,pos,af,g⟩ i c r K L σ nx pl:=
 eb (λ_=>Nd h) a b hk
theorem yW[d:CL P]{t:TypeId}{x y:Operand}{σ':Ab}(a:Bk ops ⟨none,.store t x y,ty,pos,af,g⟩ (look L)=some true)(b:c=1)(h:OP d.T σ (look L) t x y=some σ')(hk:EL P TB ops r K L σ' nx pl):Br P TB ops ⟨none,.store t x y,ty,pos,af,g⟩ i c r K L σ nx pl:=
 Fo (λ_=>Nf h hk) a b
theorem yA[d:CL P]{t:Tmp}{ts:TypeId}{y:Operand}{T:TypeId}{z:List Value}{σ':Ab}(hp:look pl t=some (T,z))(a:Bk ops ⟨none,.store ts (.tmp t) y,ty,pos,af,g⟩ (look ((t,.o (.ptr nx z.length 0 0))::L))=some true)(b:c=5)
 (h:OP d.T ((nx,.cells T z.length [z.map zC])::σ) (look ((t,.o (.ptr nx z.length 0 0))::L)) ts (.tmp t) y=some σ') (hk:EL P TB ops r K ((t,.o (.ptr nx z.length 0 0))::L) σ' (nx+1) (Dj t pl)):Br P TB ops ⟨none,.store ts (.tmp t) y,ty,pos,af,g⟩ i c r K L σ nx pl:=
 gv hp a b λ_=>Nf h hk
theorem yP[b:CL P]{T:TypeId}{z:List Value}(e:(Ip b.T T).ze=some z)(a:z.all NK=true)(f:look L d=none)(g:c=3)(h:EL P TB ops r K L σ nx ((d,(T,z))::pl)):Br P TB ops ⟨some d,.alloc T,ty,pos,af,none⟩ i c r K L σ nx pl:=
 haveI:=(Dq (P:=P) T b.ok).XO e
 jy a f g h
theorem yG{dd:Option Tmp}{j t:Nat}{w b:Bool}(f:(ops[j]?).bind (·.dst)=some t)(e:look L t=some (eB b))
 (a:b=true->EL P TB ops ((i,c)::r) K L σ nx pl) (d:b=false->EL P TB ops ((i,c)::r) K L σ nx pl):Br P TB ops ⟨dd,op,ty,pos,af,some (j,w)⟩ i c r K L σ nx pl:=by
 intro _;cases b
 ·exact d rfl
 ·exact a rfl
end
end Go.Am.R
namespace Go.Am
open Go
def gf:Option TypeDesc->Bool
 | some (.func ..)=>true
 | _=>false
class jR (P:Program) (t:TypeId):Prop where
 out:gf (P.underlying t)=true
section
variable {P:Program}{TB:Bp}{Γ:Ctx}{d:Option Tmp}{ty:TypeId}{pos:String}{af:Array Edge}{g:Option (Nat×Bool)}{f:Env}{σ:Ab}{nx:Nat}
end
def Mx(L:List (Nat×E)):List Nat->Option (List (Nat×E))
 | []=>some []
 | k::r=>match look L k,Mx L r with
  | some e,some l=>some ((k,e)::l)
  | _,_=>none
def Ul(σ:Ab):List Nat->Option Ab
 | []=>some []
 | k::r=>match look σ k,Ul σ r with
  | some e,some l=>some ((k,e)::l)
  | _,_=>none
section
variable {P:Program}{TB:Bp}{Γ:Ctx}{N:Nat}
theorem Aj.gm{c:Code}{Q:Exit->Env->Ab->Nat->Prop}{L0 Lk:List (Nat×E)}{σ Sk:Ab}{nx:Nat}{U:Type}(ks is:List Nat)(hk:Mx L0 ks=some Lk)(hi:Ul σ is=some Sk)(v:U->List (Nat×E))(s:U->Ab)(n:Nat)(μ:U->Nat)
 (x:U) (a:List Nat) (b:(∀i,i < Γ.V.nx->a[i]? = some i)/\a.Nodup/\a.length=n) (d:Dl (nm a nx) (look L0) (v x++Lk)/\AT (nm a nx) σ (s x++Sk))
 (round:∀x,Aj P TB Γ N c (JJ (λf σ nx=>∃y,μ y < μ x/\∃l:List Nat,(∀i,i < Γ.V.nx->l[i]? = some i)/\l.Nodup/\l.length=n/\Dl (nm l nx) f (v y++Lk)/\AT (nm l nx) σ (s y++Sk)) Q) (look (v x++Lk)) (s x++Sk) n) :
 Aj P TB Γ N (.loop c) Q (look L0) σ nx:=Aj.Cq (λx=>v x++Lk) (λx=>s x++Sk) n μ x a b d round
theorem aL{c:Code}{Q:Exit->Env->Ab->Nat->Prop}{L0 Lk:List (Nat×E)}{σ Sk:Ab}{nx:Nat}{U:Type}(ks is:List Nat)(hk:Mx L0 ks=some Lk)(hi:Ul σ is=some Sk)(v:U->List (Nat×E))(s:U->Ab)(n:Nat)(μ:U->Nat)
 (x:U) {m:Nat} (a:Γ.V.nx=m) (b:Nat.ble m n=true) (d:Dl (nm (List.range n) nx) (look L0) (v x++Lk)/\AT (nm (List.range n) nx) σ (s x++Sk))
 (round:∀x,Aj P TB Γ N c (JJ (λf σ nx=>∃y,μ y < μ x/\∃l:List Nat,(∀i,i < Γ.V.nx->l[i]? = some i)/\l.Nodup/\l.length=n/\Dl (nm l nx) f (v y++Lk)/\AT (nm l nx) σ (s y++Sk)) Q) (look (v x++Lk)) (s x++Sk) n) :
 Aj P TB Γ N (.loop c) Q (look L0) σ nx:=Aj.gm ks is hk hi v s n μ x (List.range n) (rg a b) d round
theorem ef{d:Option Tmp}{op:Op}{ty:TypeId}{pos:String}{af:Array Edge}{g:Option (Nat×Bool)}{L:List (Nat×E)}{σ:Ab}{nx:Nat}{e:E}{t:Tmp}{gg:FuncId}(l:look L t=some (.o (.d (.v (.func (.func gg) #[] #[])))))
 (h:AU P TB Γ ⟨d,op,ty,pos,af,g⟩ (look ((t,.o (.fn gg []))::L)) σ nx e):AU P TB Γ ⟨d,op,ty,pos,af,g⟩ (look L) σ nx e:=by
 intro V a k q p;refine h V a ?_ q p;intro t' e' f b;rw [Av] at b;by_cases i:t=t'
 ·subst i
  rw [if_pos rfl] at b
  injection b with b
  subst b;have m:=Az.val (k t _ f l)
  show Az V (.fn gg []) _
  rw [m];exact .fn rfl (λj c v n=>by simp at n)
 ·rw [if_neg i] at b
  exact k t' e' f b
theorem Spec.jg{g i:FuncId}{σ:Ab}{nx:Nat}{l m:List E}{post:E->Ab->Nat->Prop}(h:Spec P TB g σ nx (l++.o (.d (.v (.func (.func i) #[] #[])))::m) post):Spec P TB g σ nx (l++.o (.fn i [])::m) post:=
 ⟨h.1, λV vs S n ha=>h.2 V vs S n ⟨by simpa using ha.1,λj e v a b=>by
  by_cases c:j < l.length
  ·exact ha.2 j e v (by rw [f9 c] at a |-;exact a) b
  ·by_cases f:j=l.length
   ·subst f
    have s:=ha.2 l.length (.o (.fn i [])) v (by simp) b;rw [ge (i7 _)] at a;simp at a;subst a;obtain⟨vs',rfl,r⟩:=J8 s;have p:vs' = #[]:=l5 (by simpa using r.1);subst p;exact Az.d (.v rfl)
   ·refine ha.2 j e v ?_ b
    rw [ge (by omega)] at a |-
    obtain⟨q,k⟩:∃q,j - l.length=q+1:=⟨j - l.length - 1,by omega⟩
    rw [k] at a |-
    simpa using a⟩⟩
end
inductive FZ (σ:Ab):C->D->Prop
 | d {x:D}:FZ σ (.d x) x
 | fn {g:FuncId}:FZ σ (.fn g []) (.v (.func (.func g) #[] #[]))
 | arr {id k off len:Nat} {T:TypeId} {rows:List (List C)} {ds:List (List D)} {rs:Nat->List C} {cs:Nat->Nat->C}:look σ id=some (.cells T k rows)->off+len<=rows.length->ds.length=len->
  (∀i r',ds[i]? = some r'->rows[off+i]? = some (rs i)/\(rs i).length=r'.length)->(∀i j r' x,ds[i]? = some r'->r'[j]? = some x->(rs i)[j]? = some (cs i j))->
  (∀i j r' x,ds[i]? = some r'->r'[j]? = some x->FZ σ (cs i j) x)->FZ σ (.arr id k off len) (.l ds)
 | ptr {id k i j:Nat} {T:TypeId} {rows:List (List C)} {r:List C} {ds:List D} {cs:Nat->C}:look σ id=some (.cells T k rows)->rows[i]? = some r->(∀q x,ds[q]? = some x->r[j+q]? = some (cs q))->(∀q x,ds[q]? = some x->FZ σ (cs q) x)->FZ σ (.ptr id k i j) (.p ds)
 | sld {id:Nat} {T:TypeId} {l:List (Value×List Value)} {v:Value} {row:List Value}:look σ id=some (.sld T l)->(v,row)∈l->FZ σ (.d (.v v)) (.l (row.map λx=>[.v x]))
 | nl {b:Option Addr}:FZ σ (.d (.v (.slice b 0 0))) (.l [])
inductive Vj (σ:Ab):List C->List D->Prop
 | nil:Vj σ [] []
 | cons {c:C} {d:D} {cs:List C} {ds:List D}:FZ σ c d->Vj σ cs ds->Vj σ (c::cs) (d::ds)
theorem Vj.get{σ:Ab}{cs:List C}{ds:List D}(h:Vj σ cs ds):cs.length=ds.length/\∀(j:Nat) x,ds[j]? = some x->∃c,cs[j]? = some c/\FZ σ c x:=by
 induction h with
 | nil=>exact⟨rfl,λj x h=>by simp at h⟩
 | @cons c d cs ds e _ b=>
  refine⟨by simp [b.1],λj x a=>?_⟩
  cases j with
  | zero=>simp at a;subst a;exact⟨c,rfl,e⟩
  | succ j=>exact b.2 j x (by simpa using a)
theorem Vj.refl{σ:Ab}:∀(ds:List D),Vj σ (ds.map .d) ds
 | []=>.nil
 | d::ds=>.cons .d (Vj.refl ds)
theorem FZ.rows{σ:Ab}{id k len:Nat}{T:TypeId}{rows:List (List C)}{ds:List (List D)}(n:look σ id=some (.cells T k rows))(m:ds.length=len)(o:rows.length=len)(h:∀(i:Nat) (r':List D),ds[i]? = some r'->∃r,rows[i]? = some r/\Vj σ r r'):FZ σ (.arr id k 0 len) (.l ds):=by
 refine .arr (rs:=λi=>(rows[i]?).getD []) (cs:=λi j=>(((rows[i]?).getD [])[j]?).getD (.d (.l []))) n (by omega) m (λi r' hi=>?_) (λi j r' x hi e=>?_) (λi j r' x hi e=>?_)
 ·obtain⟨r,b,a⟩:=h i r' hi
  rw [kG,b];exact⟨rfl,a.get.1⟩
 ·obtain⟨r,b,a⟩:=h i r' hi
  obtain⟨c,f,g⟩:=a.get.2 j x e;simp [b,f]
 ·obtain⟨r,b,a⟩:=h i r' hi
  obtain⟨c,f,g⟩:=a.get.2 j x e;simp [b,f,g]
theorem FZ.full{σ:Ab}{id k len:Nat}{T:TypeId}{rows:List (List C)}{ds:List (List D)}(c:look σ id=some (.cells T k rows))(a:rows=ds.map (λr=>r.map .d))(b:rows.length=len):FZ σ (.arr id k 0 len) (.l ds):=by
 refine .rows c (by rw [<-b,a];simp) b λi r' hi=>⟨r'.map .d,?_,Vj.refl _⟩
 rw [a];simp [hi]
theorem FZ.box{σ:Ab}{id k:Nat}{T:TypeId}{r:List C}{ds:List D}(f:look σ id=some (.cells T k [r]))(h:Vj σ r ds):FZ σ (.ptr id k 0 0) (.p ds):=by
 refine .ptr (cs:=λq=>(r[q]?).getD (.d (.l []))) f rfl (λq x a=>?_) (λq x a=>?_)
 ·obtain⟨c,b,e⟩:=h.get.2 q x a
  rw [kG,b];rfl
 ·obtain⟨c,b,e⟩:=h.get.2 q x a
  simp [b,e]
inductive EZ (σ:Ab):E->E->Prop
 | Bo {e:E}:e.Bz=true->EZ σ e e
 | o {c:C} {d:D}:FZ σ c d->EZ σ (.o c) (.o (.d d))
 | a {cs:List C} {ds:List D}:Vj σ cs ds->EZ σ (.a cs) (.a (ds.map .d))
def P4(σ:Ab)(f:Env):List (Nat×E)->Prop
 | []=>True
 | (t,e')::L=>(∃e,f t=some e/\EZ σ e e')/\P4 σ f L
theorem P4.get{σ:Ab}{f:Env}:∀ {L:List (Nat×E)},P4 σ f L->∀t e',look L t=some e'->∃e,f t=some e/\EZ σ e e'
 | [],_,t,e,h=>by cases h
 | (k,x)::L,a,t,e,h=>by
  rw [Av] at h;by_cases hk:k=t
  ·rw [if_pos hk] at h;injection h with h;subst h;subst hk;exact a.1
  ·rw [if_neg hk] at h;exact P4.get a.2 t e h
def EM(V:View)(σ:Ab):View:={ V with I:=λb=>V.I b\/∃id o,look σ id=some o/\¬V.nl id/\DL V id o b }
theorem Lx{V:View}{σ:Ab}:Ext V (EM V σ):=⟨λ_ h=>.inl h,λ_ _=>rfl,i7 _,λ_ _=>rfl,λ_ _=>rfl,λ_ _=>Iff.rfl,i7 _⟩
section
variable {P:Program}{TB:Bp}{Γ:Ctx}{N:Nat}{σ:Ab}
theorem I8.data{I:Nat->Prop}{w:World}{T:TypeId}{v:Value}{row:List Value}(h:I8 w T v row)(n:∀b,IF v b->I b):C5 I w (.l (row.map λx=>[.v x])) v:=by
 rcases h with ⟨rfl,rfl⟩|⟨b,cap,cur,rfl,q,s,p,o,g⟩
 ·exact .nil
 ·have m:row.length=(row.map λx=>[D.v x]).length:=by simp
  have f:∀(i:Nat) (r:List D) (j:Nat) (d:D),(row.map λx=>[D.v x])[i]? = some r->r[j]? = some d->j=0/\∃x,row[i]? = some x/\d=.v x:=λi r j d hi c=>by
   simp only [d9,d6] at hi;obtain⟨x,a,rfl⟩:=hi
   have e:j=0:=by have:=(am.1 c).1;simp at this;omega
   subst e;simp at c;exact⟨rfl,x,a,c.symm⟩
  rw [m];refine .l (k:=1) (vs:=λi _=>(row[i]?).getD undef) (n b ⟨_,_,_,rfl⟩) (by simpa using p) o (λi r hi=>?_) (λi r j d hi c=>?_) (λi r j d hi c=>?_)
  ·simp only [d9,d6] at hi
   obtain⟨x,a,rfl⟩:=hi;rfl
  ·obtain⟨rfl,x,a,rfl⟩:=f i r j d hi c
   simp [World.cell?,q,a,(g i x a).1]
  ·obtain⟨rfl,x,a,rfl⟩:=f i r j d hi c
   simp only [a,lN];exact .v (g i x a).2
theorem FZ.rel{V:View}(hi:Inv TB Γ V σ){c:C}{d:D}(h:FZ σ c d):∀ {v:Value},Az V c v->C5 (EM V σ).I V.w d v:=by
 induction h with
 | d=>intro v t;cases t with|d h=>exact h.ext (V:=V) (V':=EM V σ) Lx
 | @sld id T l v row y M=>
  intro v' t;have J:v'=v:=Az.val t;subst J;have u:=hi.st.obj id _ y;exact(u.2.2 _ M).data λb hb=>.inr ⟨id,_,y,u.1,⟨_,M,hb⟩⟩
 | @nl b=>
  intro v' t;have J:v'=_:=Az.val t;subst J;cases b
  ·exact .nil
  ·exact .e (k9 _)
 | fn =>
  intro v t
  cases t with
  | @fn f cap vs u _=>
   have:vs = #[]:=l5 (by simpa using u);subst this;exact .v rfl
 | @arr id k off len T rows ds rs cs y R L u Z _ H=>
  intro v t
  cases t with
  | nil Q P=>
   have:ds=[]:=kJ.1 L;subst this;exact .nil
  | arr Q s P=>
   rcases hi.st.obj id _ y with ⟨z,_⟩|⟨_,cur,z,Y,X,S,N,A⟩
   ·exact absurd z s
   ·have a:∀(i:Nat) (r:List D) (j:Nat) (x:D),ds[i]? = some r->r[j]? = some x->∃v,cur[(off+i)*k+j]? = some v/\C5 (EM V σ).I V.w x v:=λi r j x m F=>by
     obtain⟨v,g,n⟩:=A (off+i) (rs i) j (cs i j) (u i r m).1 (Z i j r x m F);exact⟨v,g,H i j r x m F n⟩
    rw [<-L] at P |-;refine .l (b:=V.ρ id) (o:=off*k) (k:=k) (vs:=λi j=>cur.getD ((off+i)*k+j) undef) (.inr ⟨id,_,y,s,rfl⟩) (by omega) (by omega) (λi r m=>?_) (λi r j x m F=>?_) (λi r j x m F=>?_)
    ·have G:=u i r m
     rw [<-G.2];exact N _ (co G.1)
    ·obtain⟨v,g,_⟩:=a i r j x m F
     have e:off*k+i*k+j=(off+i)*k+j:=by rw [kU]
     rw [e];simp [World.cell?,z,g]
    ·obtain⟨v,g,n⟩:=a i r j x m F
     have:cur.getD ((off+i)*k+j) undef=v:=by simp [g]
     simp only [this];exact n
 | @ptr id k i j T rows r ds cs y K u _ H=>
  intro v t
  cases t with
  | ptr Q s=>
   rcases hi.st.obj id _ y with ⟨z,_⟩|⟨_,cur,z,Y,X,S,N,A⟩
   ·exact absurd z s
   ·have a:∀(q:Nat) (x:D),ds[q]? = some x->∃v,cur[i*k+j+q]? = some v/\C5 (EM V σ).I V.w x v:=λq x B=>by
     obtain⟨v,g,n⟩:=A i r (j+q) (cs q) K (u q x B);exact⟨v,by rw [lp];exact g,H q x B n⟩
    refine .p (b:=V.ρ id) (o:=i*k+j) (vs:=λq=>cur.getD (i*k+j+q) undef) (.inr ⟨id,_,y,s,rfl⟩) (λq x B=>?_) (λq x B=>?_)
    ·obtain⟨v,g,_⟩:=a q x B
     simp [World.cell?,z,g]
    ·obtain⟨v,g,n⟩:=a q x B
     have:cur.getD (i*k+j+q) undef=v:=by simp [g]
     simp only [this];exact n
theorem EZ.rel{V:View}(hi:Inv TB Γ V σ){e e':E}(h:EZ σ e e'){v:Value}(b:A4 V e v):A4 (EM V σ) e' v:=by
 cases h with
 | Bo=>exact b.ext Lx
 | o h=>exact Az.d (V:=EM V σ) (h.rel hi b)
 | @a cs ds h=>
  obtain⟨vs,rfl,m,l⟩:=b;refine⟨vs,rfl,by rw [m,h.get.1];simp,λj c v f b=>?_⟩;simp only [d9,d6] at f;obtain⟨x,g,rfl⟩:=f;obtain⟨c,k,i⟩:=h.get.2 j x g;exact Az.d (V:=EM V σ) (i.rel hi (l j c v k b))
theorem Aj.settle{c:Code}{Q:Exit->Env->Ab->Nat->Prop}{f:Env}{nx:Nat}(L:List (Nat×E))(k:P4 σ f L)(h:Aj P TB Γ N c Q (look L) [] nx):Aj P TB Γ N c Q f σ nx:=by
 intro V a d;refine h (EM V σ) a ⟨λt x e=>?_,λt x e=>?_,d.size,?_,d.nx,d.defers⟩
 ·obtain⟨y,j,n⟩:=k.get t x e
  exact n.rel d.inv (d.env t y j)
 ·obtain⟨y,j,_⟩:=k.get t x e
  exact d.lt t y j
 ·have hi:=d.inv
  refine⟨hi.os,hi.tape,hi.output,hi.old,?_,?_,hi.ext.trans Lx,DC,λid o l=>(by cases l),λx e=>⟨.inl (hi.tabs x e).1,(hi.tabs x e).2⟩,hi.hid.same rfl (λ_ h=>.inl h) (λb hb=>hb.elim .inl λ⟨id,o,i,g,m⟩=>.inr ⟨id,o,i,g,m⟩) λb ⟨_,_,h,_⟩=>by cases h⟩
  ·rintro b (hb|⟨id,o,i,g,hb⟩)
   ·exact hi.iLt b hb
   ·exact(hi.st.obj id o i).blt g hb
  ·rintro b (hb|⟨id,o,i,g,hb⟩)
   ·exact hi.iNew b hb
   ·exact .inr (hi.live id o i g b hb)
theorem Oy{ids:List Nat}{L0:List (Nat×E)}:∀ {ks:List Nat} {Lk:List (Nat×E)},Mx L0 ks=some Lk->Dz σ ids (look L0) Lk
 | [],Lk,h=>by injection h with h;subst h;trivial
 | k :: ks,Lk,h=>by
  unfold Mx at h;split at h
  ·rename_i e l b a
   injection h with h
   subst h;exact⟨⟨e,b,.Bo⟩,Oy a⟩
  ·cases h
theorem Dz.app{ids:List Nat}{f:Env}:∀ {L M:List (Nat×E)},Dz σ ids f L->Dz σ ids f M->Dz σ ids f (L++M)
 | [],_,_,h=>h
 | _::_,_,h,a=>⟨h.1,Dz.app h.2 a⟩
theorem Aj.EO{c:Code}{Q:Exit->Env->Ab->Nat->Prop}{L0 Lk:List (Nat×E)}{nx:Nat}(ids ks:List Nat)(hk:Mx L0 ks=some Lk)(L:List (Nat×E))(a:Dz σ ids (look L0) L)(h:Aj P TB Γ N c Q (look (L++Lk)) (Cn ids σ) nx):Aj P TB Γ N c Q (look L0) σ nx:=
 Aj.freeze ids (L++Lk) (a.app (Oy hk)) h
section
variable {d:Option Tmp}{ty:TypeId}{pos:String}{af:Array Edge}{g:Option (Nat×Bool)}{f:Env}{nx:Nat}
theorem ER{t:TypeId}{x lo:Operand}{s:List UInt8}{m:Int}{k:IntKind}[ht:CK P t](a:ev f x=some (eT s))(b:ev f lo=some (eI k m))(e:0<=m)(c:m<=s.length):AU P TB Γ ⟨d,.slice t x (some lo) none none,ty,pos,af,g⟩ f σ nx (eT (s.drop m.toNat)):=by
 have h:=LU (P:=P) (TB:=TB) (Γ:=Γ) (d:=d) (ty:=ty) (pos:=pos) (af:=af) (g:=g) (σ:=σ) (nx:=nx) (t:=t) (x:=x) (lo:=some lo) (hi:=none) (l:=some (k,m)) (h:=none) a (by simp [WR,b]) rfl e c (nF _)
 simpa [JQ,JS] using h
theorem PF{t:TypeId}{x hi:Operand}{s:List UInt8}{m:Int}{k:IntKind}[ht:CK P t](a:ev f x=some (eT s))(b:ev f hi=some (eI k m))(e:0<=m)(c:m<=s.length):AU P TB Γ ⟨d,.slice t x none (some hi) none,ty,pos,af,g⟩ f σ nx (eT (s.take m.toNat)):=by
 have h:=LU (P:=P) (TB:=TB) (Γ:=Γ) (d:=d) (ty:=ty) (pos:=pos) (af:=af) (g:=g) (σ:=σ) (nx:=nx) (t:=t) (x:=x) (lo:=none) (hi:=some hi) (l:=none) (h:=some (k,m)) a rfl (by simp [WR,b]) (nF _) e c
 simpa [JQ,JS] using h
theorem UD{t e:TypeId}{b n:Nat}{x lo:Operand}{rows:List (List D)}{m:Int}{k:IntKind}[c:Ci P t e n b](a:ev f x=some (.o (.d (.l rows))))(j:ev f lo=some (eI k m))(i:∀r∈rows,r.length=n)(q:0<=m)(p:m<=rows.length):AU P TB Γ ⟨d,.slice t x (some lo) none none,ty,pos,af,g⟩ f σ nx (.o (.d (.l (rows.drop m.toNat)))):=by
 have h:=UG (P:=P) (TB:=TB) (Γ:=Γ) (d:=d) (ty:=ty) (pos:=pos) (af:=af) (g:=g) (σ:=σ) (nx:=nx) (t:=t) (x:=x) (lo:=some lo) (hi:=none) (l:=some (k,m)) (h:=none) a (by simp [WR,j]) rfl i q p (nF _)
 simpa [JQ,JS] using h
theorem Ie{t e:TypeId}{b n:Nat}{x hi:Operand}{rows:List (List D)}{m:Int}{k:IntKind}[c:Ci P t e n b](a:ev f x=some (.o (.d (.l rows))))(j:ev f hi=some (eI k m))(i:∀r∈rows,r.length=n)(q:0<=m)(p:m<=rows.length):AU P TB Γ ⟨d,.slice t x none (some hi) none,ty,pos,af,g⟩ f σ nx (.o (.d (.l (rows.take m.toNat)))):=by
 have h:=UG (P:=P) (TB:=TB) (Γ:=Γ) (d:=d) (ty:=ty) (pos:=pos) (af:=af) (g:=g) (σ:=σ) (nx:=nx) (t:=t) (x:=x) (lo:=none) (hi:=some hi) (l:=none) (h:=some (k,m)) a rfl (by simp [WR,j]) i (nF _) q p
 simpa [JQ,JS] using h
end
end
def jN:Bool×List C->Option E
 | (false,[c])=>some (.o c)
 | (true,cs)=>some (.a cs)
 | _=>none
def T8(f:Env)(σ:Ab)(t:Tmp)(ag:Bool)(n:Nat):Option (Bool×List C):=match f t with
 | some (.o (.d (.p cs)))=>match Nat.ble n cs.length with
  | true=>some (ag,(cs.take n).map .d)
  | false=>none
 | some (.o (.ptr id k i j))=>match look σ id with
  | some (.cells _ k' rows)=>match Nat.beq k k',nth rows i with
   | true,some r=>match Nat.ble (j+n) r.length with
    | true=>some (ag,(r.drop j).take n)
    | false=>none
   | _,_=>none
  | _=>none
 | _=>none
def Wx(T:List (Nat×TI))(f:Env)(σ:Ab):ResultVar->Option (Bool×List C)
 | .tmp t=>match f t with
  | some e=>Rn e
  | none=>none
 | .cell t T'=>match (Ip T T').ld with
  | some (true,n)=>T8 f σ t true n
  | some (false,1)=>T8 f σ t false 1
  | _=>none
def Wy(T:List (Nat×TI))(f:Env)(σ:Ab):List ResultVar->Option (List (Bool×List C))
 | []=>some []
 | r::rs=>match Wx T f σ r,Wy T f σ rs with
  | some x,some xs=>some (x::xs)
  | _,_=>none
def Zt(T:List (Nat×TI))(rs:Array ResultVar)(f:Env)(σ:Ab):Option E:=match rs.toList with
 | []=>some (.t [])
 | [r]=>match Wx T f σ r with
  | some x=>jN x
  | none=>none
 | rs=>match rs.length,Wy T f σ rs with
  | 2,some xs=>some (.t xs)
  | 3,some xs=>some (.t xs)
  | 4,some xs=>some (.t xs)
  | _,_=>none
def Xa(T:List (Nat×TI))(rs:Array ResultVar)(post:E->Ab->Nat->Prop):Exit->Env->Ab->Nat->Prop
 | .ret,f,σ,nx|.normal,f,σ,nx=>∃x,Zt T rs f σ=some x/\post x σ nx
 | _,_,_,_=>False
section
variable {P:Program}{TB:Bp}{Γ:Ctx}{σ:Ab}
theorem Om{V:View}{f:Env}{a:Act}{t:Tmp}{T':TypeId}{ag:Bool}{n:Nat}{x:Bool×List C}(hi:Inv TB Γ V σ)(G:DH P T' ag n)(L:ag=false->n=1)(R:DF V f a.tmps)(h:T8 f σ t ag n=some x) :
 ∃v,((do loadVar T' (<-asAddr (a.tmps.getD t undef))):Sem Value).run P V.w=.ok v V.w/\Ln V x v:=by
 have key : ∃ (b o:Nat) (cs:List C) (vs:Nat->Value),a.tmps.getD t undef=.pointer (some ⟨b,o,none⟩)/\x=(ag,cs)/\cs.length=n/\∀(q:Nat) (c:C),cs[q]? = some c->V.w.cell? ⟨b,o+q,none⟩=some (vs q)/\Az V c (vs q):=by
  unfold T8 at h;split at h
  ·rename_i ds H
   split at h
   ·rename_i u
    have u:=ce u
    injection h with h
    subst h;have m:Az V (.d (.p ds)) (a.tmps.getD t undef):=R t _ H;generalize a.tmps.getD t undef=S at m;obtain⟨m⟩:=m
    cases m with
    | @p _ b o vs hb z K=>
     refine⟨b,o,_,vs,rfl,rfl,by simp;omega,λq c g=>?_⟩;rw [d9,d6] at g;obtain⟨dd,y,rfl⟩:=g;rw [kT] at y;split at y
     ·exact⟨z q dd y,.d (K q dd y)⟩
     ·cases y
   ·cases h
  ·rename_i id k i j H
   split at h
   ·rename_i T0 k' rows X
    split at h
    ·rename_i r hk N
     have hk:=gt hk;subst hk;split at h
     ·rename_i u
      have u:=ce u
      injection h with h
      subst h;rw [LO] at N;have m:Az V (.ptr id k i j) (a.tmps.getD t undef):=R t _ H;generalize a.tmps.getD t undef=S at m
      cases m with
      | ptr hid B=>
       rcases hi.st.obj id _ X with ⟨J,_⟩|⟨_,cur,J,h5,h6,h7,Z,Y⟩
       ·exact absurd J B
       ·refine⟨V.ρ id,i*k+j,_,λq=>cur.getD (i*k+j+q) undef,rfl,rfl,by simp;omega,λq c g=>?_⟩
        rw [kT] at g;split at g
        ·rw [kQ] at g
         obtain⟨v,s,M⟩:=Y i r (j+q) c N g;rw [<-lp] at s
         have e:cur.getD (i*k+j+q) undef=v:=by simp [s]
         dsimp only;rw [e];exact⟨by simp [World.cell?,J,s],M⟩
        ·cases g
     ·cases h
    ·cases h
   ·cases h
  ·cases h
 obtain⟨b,o,cs,vs,T,rfl,l,I⟩:=key;rw [T]
 cases ag with
 | false=>
  have F:=L rfl;subst F
  match cs,l with
  | [c],_=>
   obtain⟨z,K⟩:=I 0 c rfl;refine⟨vs 0,?_,c,rfl,K⟩;rw [ol] at z;simp [asAddr,loadVar,(BL G.out V.w).1,z,go_sem]
 | true =>
  refine⟨.agg ((List.range n).map λq=>vs q).toArray,?_,_,rfl,by simp [l],λj c v Q A=>?_⟩
  ·have:(loadCells ⟨b,o,none⟩ n).run P V.w=.ok ((List.range n).map λq=>vs q).toArray V.w:=run_loadCells V.w _ n _ λq g=>by
    rw [BA];exact(I q cs[q] (d7 (by omega))).1
   unfold loadCells at this;simp [asAddr,loadVar,(BL G.out V.w).1,(BL G.out V.w).2,this,go_sem]
  ·have g:j < n:=by have:=(am.1 Q).1;omega
   have:v=vs j:=by simpa [g] using A.symm
   subst this;exact(I j c Q).2
theorem Zs[i:CL P]{V:View}{f:Env}{a:Act}{r:ResultVar}{x:Bool×List C}(hi:Inv TB Γ V σ)(g:DF V f a.tmps)(h:Wx i.T f σ r=some x) :
 ∃v,((match r with
  | .tmp t=>pure (a.tmps.getD t undef)
  | .cell b t=>do loadVar t (<-asAddr (a.tmps.getD b undef))):Sem Value).run P V.w=.ok v V.w/\Ln V x v:=by
 have c:=λt=>Dq (P:=P) t i.ok;unfold Wx at h;split at h
 ·rename_i t
  split at h
  ·rename_i e j
   exact⟨_,by simp [go_sem],Fm h (g t e j)⟩
  ·cases h
 ·rename_i t T'
  split at h
  ·rename_i n d
   exact Om hi ((c T').KV d) (λh=>(by cases h)) g h
  ·rename_i d
   exact Om hi ((c T').KV d) (λ_=>rfl) g h
  ·cases h
theorem cr{V:View}{x:Bool×List C}{e:E}{v:Value}(h:jN x=some e)(a:Ln V x v):A4 V e v:=by
 unfold jN at h;split at h
 ·injection h with h;subst h
  obtain⟨c,b,d⟩:=a;simp at b;subst b;exact d
 ·injection h with h;subst h;exact a
 ·cases h
theorem Zu[m:CL P]{fn:Func}{V:View}{f:Env}{a:Act}{x:E}(hi:Inv TB Γ V σ)(Y:DF V f a.tmps)(h:Zt m.T fn.results f σ=some x):∃v,(results fn a.tmps).run P V.w=.ok v V.w/\A4 V x v:=by
 obtain⟨F,X,e⟩:∃F:ResultVar->Sem Value,results fn a.tmps=(do let vs <-fn.results.mapM F;pure (if h:vs.size=1 then vs[0] else .tuple vs))/\∀r x,Wx m.T f σ r=some x->∃v,(F r).run P V.w=.ok v V.w/\Ln V x v:=
  ⟨λr=>match r with
   | .tmp t=>pure (a.tmps.getD t undef)
   | .cell b t=>do loadVar t (<-asAddr (a.tmps.getD b undef)),rfl,λr x S=>Zs hi Y S⟩
 have two:∀ {r:ResultVar} {rs:List ResultVar} {xs:List (Bool×List C)},Wy m.T f σ (r::rs)=some xs->∃y ys,xs=y::ys/\Wx m.T f σ r=some y/\Wy m.T f σ rs=some ys:=by
  intro r rs xs h;unfold Wy at h;split at h
  ·rename_i y ys k i
   injection h with h;subst h;exact⟨y,ys,rfl,k,i⟩
  ·cases h
 have nil:∀ {xs:List (Bool×List C)},Wy m.T f σ []=some xs->xs=[]:=λh=>by injection h with h;exact h.symm
 have key:∀l:List ResultVar,fn.results=l.toArray->Zt m.T l.toArray f σ=some x->∃v,(results fn a.tmps).run P V.w=.ok v V.w/\A4 V x v:=by
  intro l B h;rw [X,B];unfold Zt at h;simp only at h
  match l with
  | []=>
   injection h with h;subst h
   exact⟨.tuple #[],by simp [go_sem],#[],rfl,rfl,λj x v c=>by simp at c⟩
  | [r]=>
   simp only at h;split at h
   ·rename_i y R
    obtain⟨v,k,i⟩:=e r y R;exact⟨v,by simp [k,go_sem],cr h i⟩
   ·cases h
  | [L,K]=>
   simp only [k8,nk] at h;split at h
   ·rename_i xs _ d
    injection h with h;subst h
    obtain⟨J,ys,rfl,k,d⟩:=two d;obtain⟨I,ys,rfl,i,d⟩:=two d;have:=nil d;subst this;obtain⟨o,u,q⟩:=e _ _ k;obtain⟨n,s,p⟩:=e _ _ i;refine⟨.tuple #[o,n],by simp [u,s,go_sem],_,rfl,rfl,λj x v' c g=>?_⟩
    match j with
    | 0=>simp at c g;subst c;subst g;exact q
    | 1=>simp at c g;subst c;subst g;exact p
    | j+2=>simp at c
   ·omega
   ·omega
   ·cases h
  | [L,K,Q]=>
   simp only [k8,nk] at h;split at h
   ·omega
   ·rename_i xs _ d
    injection h with h;subst h
    obtain⟨J,ys,rfl,k,d⟩:=two d;obtain⟨I,ys,rfl,i,d⟩:=two d;obtain⟨M,ys,rfl,G,d⟩:=two d;have:=nil d;subst this;obtain⟨o,u,q⟩:=e _ _ k;obtain⟨n,s,p⟩:=e _ _ i;obtain⟨z,H,A⟩:=e _ _ G;refine⟨.tuple #[o,n,z],by simp [u,s,H,go_sem],_,rfl,rfl,λj x v' c g=>?_⟩
    match j with
    | 0=>simp at c g;subst c;subst g;exact q
    | 1=>simp at c g;subst c;subst g;exact p
    | 2=>simp at c g;subst c;subst g;exact A
    | j+3=>simp at c
   ·omega
   ·cases h
  | [L,K,Q,r4]=>
   simp only [k8,nk] at h;split at h
   ·omega
   ·omega
   ·rename_i xs _ d
    injection h with h;subst h
    obtain⟨J,ys,rfl,k,d⟩:=two d;obtain⟨I,ys,rfl,i,d⟩:=two d;obtain⟨M,ys,rfl,G,d⟩:=two d;obtain⟨y4,ys,rfl,Z,d⟩:=two d;have:=nil d;subst this;obtain⟨o,u,q⟩:=e _ _ k;obtain⟨n,s,p⟩:=e _ _ i;obtain⟨z,H,A⟩:=e _ _ G;obtain⟨N,e4,t4⟩:=e _ _ Z;refine⟨.tuple #[o,n,z,N],by simp [u,s,H,e4,go_sem],_,rfl,rfl,λj x v' c g=>?_⟩
    match j with
    | 0=>simp at c g;subst c;subst g;exact q
    | 1=>simp at c g;subst c;subst g;exact p
    | 2=>simp at c g;subst c;subst g;exact A
    | 3=>simp at c g;subst c;subst g;exact t4
    | j+4=>simp at c
   ·cases h
  | _::_::_::_::_::_=>
   simp only [k8] at h;cases h
 exact key fn.results.toList (by simp) (by simpa using h)
theorem AS.PZ [s:CL P] {g:FuncId} {fn:Func} {c:Code} {m:Nat} {σ:Ab} {nx:Nat} {args:List E} {post:E->Ab->Nat->Prop} (B:m<=nx) (r:P.funcs[g]? = some fn) (hb:fn.body=some c) (f:(fn.name == "runtime.NumGoroutine")=false)
 (j:args.length<=fn.ntmps) (h:∀Γ:Ctx,Γ.V.nx=m->Aj P TB Γ fn.ntmps c (Xa s.T fn.results post) (look (Ce 0 args)) σ nx):AS P TB g m σ nx args post:=by
 refine⟨⟨fn,r,f,by rw [hb];rfl⟩,?_⟩;intro V vs S n ha;refine calls_of_wp r hb ?_
 have G:vs.size<=fn.ntmps:=by rw [ha.1];exact j
 have hi:Inv TB (ED V (Ko V m) σ S) V σ:=
  ⟨rfl,rfl,rfl,λ_ _ _=>rfl,n.iLt,λ_ h=>.inl h,Un (by rw [n.nx];exact B),n.st,λid o A q b hb=>.inr (.inl ⟨id,o,A,q,hb⟩),n.tabs,⟨S,n.hid,λb hb=>.inl hb,λb hb=>.inr (.inr hb)⟩⟩
 have z:BV TB (ED V (Ko V m) σ S) fn.ntmps V (look (Ce 0 args)) σ nx { tmps:=vs++Array.replicate (fn.ntmps - vs.size) undef,defers:=[] } := by
  refine⟨?_,?_,by simp;omega,hi,n.nx,rfl⟩
  ·intro t e p
   obtain⟨_,d⟩:=Cu args 0 t e p
   have d:args[t]? = some e:=by simpa using d
   have i:t < vs.size:=by rw [ha.1];exact(am.1 d).1
   have F:=ha.2 t e vs[t] d (kK i)
   simpa [kS i,i] using F
  ·intro t e p
   obtain⟨_,d⟩:=Cu args 0 t e p
   have d:args[t]? = some e:=by simpa using d
   have:=(am.1 d).1;omega
 refine wp_mono (h (ED V (Ko V m) σ S) rfl V _ z) ?_;rintro e a' w' ⟨V',f',σ',rfl,k,a⟩
 have fin:(∃x,Zt s.T fn.results f' σ'=some x/\post x σ' V'.nx)->a'.defers=[]/\∃v,(results fn a'.tmps).run P V'.w=.ok v V'.w/\∃V'' v' x σ'',Ending.returned v=.returned v'/\V''.w=V'.w/\Inv TB (ED V (Ko V m) σ S) V'' σ''/\A4 V'' x v'/\post x σ'' V''.nx:=by
  rintro⟨x,u,hp⟩;obtain⟨v,y,p⟩:=Zu (P:=P) a.inv a.env u;exact⟨a.defers,v,y,V',v,x,σ',rfl,rfl,a.inv,p,hp⟩
 cases e with
 | normal=>exact fin k
 | ret=>exact fin k
 | exit id=>exact k.elim
 | goto l=>exact k.elim
 | panic ch=>exact k.elim
 | outgrown=>exact k.elim
theorem eG [d:CL P] {g:FuncId} {fn:Func} {c:Code} {nx:Nat} {args:List E} {post:E->Ab->Nat->Prop} (b:P.funcs[g]? = some fn) (hb:fn.body=some c) (a:(fn.name == "runtime.NumGoroutine")=false)
 (ha:Nat.ble args.length fn.ntmps=true) (h:∀Γ:Ctx,Γ.V.nx=nx->Aj P TB Γ fn.ntmps c (Xa d.T fn.results post) (look (Ce 0 args)) σ nx):Spec P TB g σ nx args post:=
 AS.PQ (AS.PZ (i7 _) b hb a (ce ha) h)
end
section
variable {P:Program}{TB:Bp}{Γ:Ctx}{d:Option Tmp}{ty:TypeId}{pos:String}{af:Array Edge}{g:Option (Nat×Bool)}{f:Env}{σ:Ab}{nx:Nat}
variable {K:E->Ab->Nat->Prop}
theorem FX{t e:TypeId}{k b:Nat}{z:List Value}[i:Ci P t e k b][h:BM P e z](a:z.length=k)(c:z.all NK=true):AU P TB Γ ⟨d,.buildSlice t 0 #[],ty,pos,af,g⟩ f σ nx .e:=
 KA λV ρ n m=>by
  obtain⟨cur,l,p,o⟩:=Hb (es:=[]) i.out h.out a c n rfl rfl rfl rfl (by simp) (by simp);have hw:∀b,b < V.w.heap.size->(V.w.alloc (.cells cur e)).heap[b]? = V.w.heap[b]?:=λb hb=>AZ V.w _ b hb;obtain⟨hi,j⟩:=R.Inv.grow m (w:=V.w.alloc (.cells cur e)) rfl rfl rfl (by simp) hw;exact⟨_,{ V with w:=V.w.alloc (.cells cur e) },l,j,hi,rfl,⟨_,rfl⟩⟩
theorem OI{t e:TypeId}{k b:Nat}{z:List Value}{s x:Operand}{news:List (List C)}{ex:E}[hl:Ci P t e k b][hz:BM P e z]
 (hs:ev f s=some .e) (hx:ev f x=some ex) (L:ES σ k ex=some news) (S:∀r∈news,r.length=k) (hzk:z.length=k) (Z:0 < b) (hb:news.length*b<=140737488355328)
 (hK0:news=[]->∀b,∃y,(∀V:View,A4 V y (.slice b 0 0))/\K y σ nx) (hK:news≠[]->K (.o (.arr nx k 0 news.length)) ((nx,.cells e k news)::σ) (nx+1)):BZ P TB Γ ⟨d,.call ⟨.builtin .append,#[s,x],#[t,t]⟩,ty,pos,af,g⟩ f σ nx K:=
 Db λV ρ h1 h2 h3=>by
  subst h3;obtain⟨i,hu,hi,hsz,Y⟩:=Fq hl.out;have I:=hz.out;simp only [WT,hi,mu,d6] at I;obtain⟨zv,H,hzz⟩:=I
  have hzc:zv.cells.size=k:=by rw [<-hzk,<-hzz];simp
  obtain⟨sb,hsv⟩:=h1.get (x:=s) (by simp [Op.operands,Call.operands]) hs;have hxr:=UU h2 L S (h1.get (x:=x) (by simp [Op.operands,Call.operands]) hx)
  have l:∀w,(execOp ρ ⟨d,.call ⟨.builtin .append,#[s,x],#[t,t]⟩,ty,pos,af,g⟩).run P w=((Builtin.append_ #[t,t] ty #[ρ s,ρ x]).run P w).andThen λv w'=>.ok (.value v) w':=λw=>by
   simp only [execOp,resolve,invoke,builtin,oo,lA,nr,pure_bind,bind_pure_comp,mJ]
  have R:news.length<=maxLen:=by
   have:news.length<=news.length*b:=lU _ Z;unfold maxLen;omega
  have T:((news.length:Nat):Int)<=9223372036854775807:=by
   have:news.length<=news.length*b:=lU _ Z;omega
  rw [hsv] at l;generalize hvx:ρ x=vx at *;have A:=λh=>hK0 h sb;have nothing:news=[]->∀v,(Builtin.append_ #[t,t] ty #[.slice sb 0 0,vx]).run P V.w=.ok (.slice sb 0 0) V.w->v=Value.slice sb 0 0->
   ∃v V' xx σ',(execOp ρ ⟨d,.call ⟨.builtin .append,#[s,x],#[t,t]⟩,ty,pos,af,g⟩).run P V.w=.ok (.value v) V'.w/\Ext V V'/\Inv TB Γ V' σ'/\A4 V' xx v/\K xx σ' V'.nx:=λhn v B _=>
   let ⟨y,k1,k2⟩:=A hn
   ⟨.slice sb 0 0,V,y,σ,by rw [l,B];rfl,Ext.refl _,h2,k1 V,k2⟩
  rcases hxr with ⟨rfl,Q⟩|⟨xa,xc,xv,rfl,J,m⟩
  ·exact nothing Q _ (EJ hu hi V.w sb 0 0 (i7 _) ty) rfl
  ·have n:(C0 news.length k xv).length=news.length*i.size:=by rw [CM,hsz]
   have p:∀j u,(C0 news.length k xv)[j]? = some u->V.w.cell? (xa.add j)=some u:=by
    intro q u hq;obtain⟨a,b,rfl,ha,hb,rfl⟩:=J7 hq
    have hbl:b < news[a].length:=by rw [J _ (lm ha)];exact hb
    exact(m a news[a] b news[a][b] (d7 ha) (d7 hbl)).1
   rcases lH news.length with F|F
   ·have N:news=[]:=kJ.1 F
    refine nothing N _ ?_ rfl;subst N;cases sb<;>simp [Builtin.append_,run_underlying hu,sizeOf,typeInfo,hi,Builtin.lenOf,Builtin.firstCells,loadCells,loadCellsFrom,storeCells,go_sem]
   ·have hne:news≠[]:=λh=>by subst h;simp at F
    have M:(Builtin.append_ #[t,t] ty #[.slice sb 0 0,.slice (some xa) news.length xc]).run P V.w=.ok (.slice (some ⟨V.w.heap.size,0,none⟩) news.length (grownCap V.w news.length 0 e))
     (V.w.drew.alloc (.cells ((C0 news.length k xv).toArray++Builtin.zeroCells zv.cells (grownCap V.w news.length 0 e - news.length)) e)):=by
     cases sb with
     | none=>
      have B:=run_append_nil (P:=P) V.w t ty e i zv hu hi H xa news.length xc _ n p F (by omega) (by rw [Y];omega);rw [B]
     | some sa=>
      have B:=run_append_grow (P:=P) V.w t ty e i zv hu hi H sa 0 0 [] (by simp) (λj v hj=>by simp at hj) xa news.length xc _ n p (by omega) (by simpa using T) (by rw [Y];exact growslice_fits (by omega) (by simpa using hb))
      simpa using B
    have G:=grownCap_ge V.w news.length 0 e;have hcm:=grownCap_le_maxLen V.w news.length 0 e R;generalize grownCap V.w news.length 0 e=cap' at *
    let w':=V.w.drew.alloc (.cells ((C0 news.length k xv).toArray++Builtin.zeroCells zv.cells (cap' - news.length)) e)
    have ee:Ext V (Al V V.w.heap.size cap' False w'):=DS (by simp [w']) λb hb=>AZ V.w.drew _ b (h2.iLt b hb)
    obtain⟨hi',he'⟩:=h2.alloc (c:=cap') (nl:=False) (w:=w') (ob:=.cells e k news) rfl rfl rfl rfl (by simp [w']) (λb hb=>AZ V.w.drew _ b hb) (by
     have B:(Al V V.w.heap.size cap' False w').ρ V.nx=V.w.heap.size:=by simp [Al]
     have X:(Al V V.w.heap.size cap' False w').cap V.nx=cap':=by simp [Al]
     refine .inr ⟨by simp [Al],(C0 news.length k xv).toArray++Builtin.zeroCells zv.cells (cap' - news.length),?_,?_,?_,?_,S,?_⟩
     ·have:=BW V.w.drew (.cells ((C0 news.length k xv).toArray++Builtin.zeroCells zv.cells (cap' - news.length)) e)
      rw [B];exact this
     ·rw [X]
      simp only [Array.size_append,oa,CM,Builtin.zeroCells,Array.size_map,Array.size_range,hzc,<-kU];congr 1;omega
     ·rw [X];exact G
     ·rw [X];exact hcm
     ·intro a r j c hi hj
      have hil:=(am.1 hi).1
      have hjl:j < k:=by rw [<-J r (co hi)];exact(am.1 hj).1
      have h10:=J6 (vs:=xv) hil hjl;refine⟨xv a j,?_,(m a r j c hi hj).2.ext ee⟩;have hlt:=(am.1 h10).1;rw [kS (by simpa using hlt)]
      simpa using h10)
    refine⟨.slice (some ⟨V.w.heap.size,0,none⟩) news.length cap',_,_,(V.nx,.cells e k news)::σ,?_,he',hi',?_,hK hne⟩
    ·rw [l,M];rfl
    ·have:=@Az.arr (Al V V.w.heap.size cap' False w') V.nx k 0 news.length (by simp [Al]) (by simp [Al]) (by simp [Al];exact G)
     have B:(Al V V.w.heap.size cap' False w').ρ V.nx=V.w.heap.size:=by simp [Al]
     have X:(Al V V.w.heap.size cap' False w').cap V.nx=cap':=by simp [Al]
     rw [B,X,lW,oq] at this;exact this
theorem Df{t e:TypeId}{k b:Nat}{z:List Value}{s x:Operand}{news:List (List C)}{ex:E}[u:Ci P t e k b][q:BM P e z]
 (n:ev f s=some .e) (m:ev f x=some ex) (a:ES σ k ex=some news) (i:∀r∈news,r.length=k) (c:z.length=k) (j:0 < b) (hb:news.length*b<=140737488355328)
 (l:news=[]->K .e σ nx) (p:news≠[]->K (.o (.arr nx k 0 news.length)) ((nx,.cells e k news)::σ) (nx+1)):BZ P TB Γ ⟨d,.call ⟨.builtin .append,#[s,x],#[t,t]⟩,ty,pos,af,g⟩ f σ nx K:=OI n m a i c j hb (λh b=>⟨.e,λV=>⟨b,rfl⟩,l h⟩) p
theorem Kr{t e:TypeId}{k b:Nat}{z:List Value}{s x:Operand}{news:List (List C)}{ex:E}[u:Ci P t e k b][q:BM P e z]
 (n:ev f s=some .e) (m:ev f x=some ex) (a:ES σ k ex=some news) (i:∀r∈news,r.length=k) (c:z.length=k) (j:0 < b) (hb:news.length*b<=140737488355328)
 (l:news=[]->∀b,K (.o (.d (.v (.slice b 0 0)))) σ nx) (p:news≠[]->K (.o (.arr nx k 0 news.length)) ((nx,.cells e k news)::σ) (nx+1)):BZ P TB Γ ⟨d,.call ⟨.builtin .append,#[s,x],#[t,t]⟩,ty,pos,af,g⟩ f σ nx K:=OI n m a i c j hb (λh b=>⟨.o (.d (.v (.slice b 0 0))),λV=>(show Az V (.d (.v (.slice b 0 0))) (.slice b 0 0) from .d (.v rfl)),l h b⟩) p
end
section
variable {P:Program}{TB:Bp}{Γ:Ctx}{N:Nat}
theorem Aj.Ak{c:Code}{Q:Exit->Env->Ab->Nat->Prop}{L0 Lk:List (Nat×E)}{σ Sk:Ab}{nx:Nat}(ks is:List Nat)(hk:Mx L0 ks=some Lk)(hi:Ul σ is=some Sk)(v:List (Nat×E))(s:Ab)(l:List Nat)
 (a:(∀i,i < Γ.V.nx->l[i]? = some i)/\l.Nodup) (b:Dl (nm l nx) (look L0) (v++Lk)/\AT (nm l nx) σ (s++Sk)) (h:Aj P TB Γ N c Q (look (v++Lk)) (s++Sk) l.length):Aj P TB Γ N c Q (look L0) σ nx:=
 Aj.names l (v++Lk) (s++Sk) a.1 a.2 b.1 b.2 h
end
section
variable {P:Program}{TB:Bp}{Γ:Ctx}{d:Option Tmp}{ty:TypeId}{pos:String}{af:Array Edge}{g:Option (Nat×Bool)}{f:Env}{σ:Ab}{nx:Nat}
variable {K:E->Ab->Nat->Prop}
theorem GA{t:TypeId}{z:List Value}{fl:List (Nat×Nat)}{parts:Array (Nat×Operand)}{es:List E}{qs:List (Nat×List C)}[M:BM P t z][S:Eu P t fl](p k e q k' e':Nat)(hp:z[p]? = some (.slice none 0 0))(m:z[q]? = some (.slice none 0 0))(R:p≠q)(I:HS f (parts.toList.map (·.2))=some es)(Q:Ey fl parts.toList es=some qs)
 (A:z.all NK=true) (B:(qs.all λx=>Nat.ble (x.1+x.2.length) z.length)=true) (X:K (.a (BC qs (((z.map zC).set p (.arr nx k 0 0)).set q (.arr (nx+1) k' 0 0)))) ((nx+1,.cells e' k' [])::(nx,.cells e k [])::σ) (nx+2)):BZ P TB Γ ⟨d,.build t parts,ty,pos,af,g⟩ f σ nx K:=
 Db λV ρ h1 h2 h3=>by
  subst h3;obtain⟨i,zv,hi,s,l⟩:=Hd M.out;obtain⟨G,L⟩:=h2.alloc (c:=0) (nl:=True) (w:=V.w) (ob:=.cells e k []) rfl rfl rfl rfl (i7 _) (λ_ _=>rfl) (.inl ⟨by simp [Al],rfl⟩);obtain⟨F,J⟩:=G.alloc (c:=0) (nl:=True) (w:=V.w) (ob:=.cells e' k' []) rfl rfl rfl rfl (i7 _) (λ_ _=>rfl) (.inl ⟨by simp [Al],rfl⟩);have r:=L.trans J;have H:=CY (V:=Al (Al V V.w.heap.size 0 True V.w) V.w.heap.size 0 True V.w) (ρ:=ρ) parts.toList es qs (λx y e T=>(h1.get (by simp only [Op.operands];simpa using y) T).ext r) I Q
  have u:CU (Al (Al V V.w.heap.size 0 True V.w) V.w.heap.size 0 True V.w) (((z.map zC).set p (.arr V.nx k 0 0)).set q (.arr (V.nx+1) k' 0 0)) zv.cells:=by
   refine⟨by rw [kX,kX,gc,<-l];simp,λj c v h N=>?_⟩
   have b:z[j]? = some v:=by rw [<-l,lE];exact N
   by_cases n:q=j
   ·subst n
    rw [m] at b
    injection b with b
    subst b;rw [lq (by rw [kX,gc];exact(am.1 m).1)] at h
    injection h with h
    subst h;exact Az.nil (by simp [Al]) (by simp [Al])
   ·rw [lr n] at h
    by_cases o:p=j
    ·subst o
     rw [hp] at b
     injection b with b
     subst b;rw [lq (by rw [gc];exact(am.1 hp).1)] at h
     injection h with h
     subst h;exact Az.nil (by simp [Al];omega) (by simp [Al])
    ·rw [lr o,d9,b] at h
     injection h with h
     subst h;exact IZ (f7.1 A v (co b))
  obtain⟨cells,Z,Y⟩:=Fc _ _ _ _ H u (λx y=>by rw [kX,kX,gc];exact Ht _ _ B x y);have hb:=run_build (P:=P) (ρ:=ρ) (parts:=parts) (V:=V) hi s S.out Z;refine⟨.agg cells,_,_,_,?_,r,F,(show A4 _ (.a _) _ from ⟨cells,rfl,Y⟩),X⟩
  show ((do let v <-Instr.build t (parts.map λ(i,x)=>(i,ρ x));pure (Go.Next.value v):Sem Go.Next)).run P V.w=_
  simp only [kL,hb,kF];rfl
end
end Go.Am
