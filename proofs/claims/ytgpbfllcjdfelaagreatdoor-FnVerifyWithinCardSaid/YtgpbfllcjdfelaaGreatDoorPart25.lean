/-
  What is hidden: the call's own becomes memory that only the callees of one function value look at; and such a callee, seen from outside.
-/
import Derived.Test.YtgpbfllcjdfelaaGreatDoorPart22
set_option linter.all false
namespace Go.Am
open Go
set_option linter.unusedVariables false
section
variable {P:Program}{TB:Bp}{Z:Ctx}{d:Option Tmp}{ty:TypeId}{pos:String}{af:Array Edge}{g:Option (Nat×Bool)}{f:Env}{σ:Ab}{nx:Nat}
theorem kg{gg:FuncId}{x:Operand}{c:C}(e:ev f x=some (.o c)):AW P TB Z ⟨d,.makeFunc (.func gg) #[x] #[],ty,pos,af,g⟩ f σ nx (.o (.mv gg [c])):=
 AI λV ρ i _=>by
  refine⟨.func (.func gg) #[ρ x] #[],by simp [execOp,Instr.makeFunc,go_sem],AF.mv rfl λj c' v a b=>?_⟩;have h:AF V c (ρ x):=i.get (by simp [Op.operands]) e
  match j with
  | 0=>simp at a b;subst a;subst b;exact h
  | j+1=>simp at a
theorem fD{V:View}{gg:FuncId}{recv:List C}{v:Value}(h:Bg V (.o (.mv gg recv)) v):∃vs,v=.func (.func gg) vs #[]/\CY V recv vs:=by
 have h:AF V (.mv gg recv) v:=h;generalize a:C.mv gg recv=c at h;cases h<;>cases a;rename_i vs d b;exact⟨vs,rfl,d,b⟩
theorem TY{x:Operand}{args:Array Operand}{tys:Array TypeId}{gg:FuncId}{vs:Array Value}(f:YO P gg){ρ:Operand->Value}(e:ρ x=.func (.func gg) vs #[])(w:World) :
 (execOp ρ ⟨d,.call ⟨.value x,args,tys⟩,ty,pos,af,g⟩).run P w=.ok (.enter gg (vs++args.map ρ)) w:=by
 obtain⟨fn,i,h,b⟩:=f
 have hb:∃c,fn.body=some c:=by cases hb:fn.body with|none=>rw [hb] at b;cases b|some c=>exact⟨c,rfl⟩
 obtain⟨c,hb⟩:=hb;simp only [execOp,resolve,e,Deferred.ofValue,pure_bind,invoke,callFunc]
 have a:¬fn.name = "runtime.NumGoroutine" := by simpa using h
 simp [Sem.run,program,i,a,hb,go_sem]
theorem aj{x:Operand}{args:Array Operand}{tys:Array TypeId}{gg:FuncId}{recv:List C}{es:List E}{r:E}(T:ev f x=some (.o (.mv gg recv)))(t:Jf f args.toList=some es)(F:(es.all E.BX && C.C6 recv)=true)
 (M:Pure P TB gg (recv.map .o++es) r) (U:r.BX=true):AW P TB Z ⟨d,.call ⟨.value x,args,tys⟩,ty,pos,af,g⟩ f σ nx r:=by
 intro V a u A Y;have u:=u.GV;unfold Oper.wp;generalize a.eval=ρ at u |-;obtain⟨vs,q,k⟩:=fD (u.get (x:=x) (by simp [Op.operands,Call.operands]) T);rw [TY M.1 q];rw [d4] at F;have H:=CJ t
 have p:ML { V with nx:=0 } (recv.map .o++es) (vs++args.map ρ):=by
  refine⟨by simp [k.1,H],λj e v n q=>?_⟩;have m:vs.size=recv.length:=k.1;by_cases s:j < recv.length
  ·rw [d9 (by simpa using s)] at n
   rw [lM (by rw [m];exact s)] at q;simp only [ge,d7] at n;obtain⟨c,N,rfl⟩:=n;exact AF.BX (V:=V) (V':={ V with nx:=0 }) rfl rfl (k.2 _ c v N q) (Fb _ F.2 _ c N)
  ·rw [em (by simp;omega)] at n
   rw [mA (by rw [m];omega),m] at q;simp only [f9] at n;refine Bg.BX (V:=V) (V':={ V with nx:=0 }) rfl rfl (GQ (λy R e X=>u.get (by simp [Op.operands,Call.operands];right;simpa using R) X) t _ e v n (by rw [<-ny];simpa using q)) (gc.1 F.1 e (co n))
 obtain⟨S,z,K,L⟩:=A.hid;refine(M.2 { V with nx:=0 } _ S ⟨A.iLt,DZ,A.tabs,rfl,⟨z.r,z.ji,z.bi,λb ⟨_,_,h,_⟩=>by cases h⟩⟩ p).mono ?_;rintro e w' ⟨V1,v,x1,Q,rfl,rfl,l,B,rfl⟩
 obtain⟨G,J⟩:=Jr A z K L (Vc:={ V with nx:=0 }) rfl l V1.I (λb hb=>l.ext.i b hb) (λb hb=>by
  rcases l.iNew b hb with h|h|h|h
  ·exact .inl h
  ·exact .inr (.inl ⟨h,l.iLt b hb⟩)
  ·obtain⟨_,_,h,_⟩:=h;cases h
  ·exact .inr (.inr h)) (λb hb _=>hb) (λb hb=>hb)
 exact⟨{ V with I:=V1.I,w:=V1.w },v,rfl,rfl,J,G,Y,Bg.BX (V:=V1) (V':={ V with I:=V1.I,w:=V1.w }) rfl rfl B U⟩
end
abbrev Oi(r:Nat):C:=.d (.v (.pointer (some ⟨r,0,none⟩)))
theorem ae{P:Program}{tabs:List (Nat×Obj)}{H:Hid}{r:Nat}{gg:FuncId}{k:Nat}{es:List E}{K:E}(N:YO P gg)(M:∀e∈es,e.sc=true)(F:K.sc=true)
 (h:∀s,AK P ⟨tabs,none⟩ gg 1 (H.st s) H.nx (.o (.ptr 0 k 0 0)::es) (λx σ nx=>x=K/\nx=H.nx/\∃s',σ=H.st s')):Pure P ⟨tabs,some (H,r)⟩ gg (.o (Oi r)::es) K:=by
 refine⟨N,λV vs S c ha=>?_⟩;have hr:∃(s:H.S) (V0:View),V0.I=S.J/\V0.w=V.w/\V0.nx=H.nx/\GN V0 (H.st s)/\(0 < V0.nx/\V0.ρ 0=r/\¬V0.nl 0/\∀x∈(⟨tabs,some (H,r)⟩:Bp),V0.I x.1)/\∀b,S.B b↔Dw V0 (H.st s) b:=c.hid.r;obtain⟨s,V0,e1,f,e3,st,⟨Y,q,t,tb⟩,R⟩:=hr
 have m:Good ⟨tabs,none⟩ V0 (H.st s) H.nx ⟨λ_=>False,λ_=>False⟩:=
  ⟨λb hb=>by rw [f];exact c.iLt b (c.hid.ji b (by rw [<-e1];exact hb)),st,λx F=>⟨tb x F,by rw [f];exact(c.tabs x F).2⟩,e3,⟨λ_ h=>h,λ_ h=>h.elim,λ_ h=>h.elim,λ_ _ h=>h⟩⟩
 have n:ML V0 (.o (.ptr 0 k 0 0)::es) vs:=by
  refine⟨ha.1,λj e v A hv=>?_⟩
  match j with
  | 0=>
   injection A with A
   subst A;have h1:=ha.2 0 (.o (Oi r)) v rfl hv;have h2:v=.pointer (some ⟨r,0,none⟩):=AF.val h1;subst h2;have:=AF.ptr (V:=V0) (id:=0) (k:=k) (i:=0) (j:=0) Y t;rw [q,mN] at this;exact this
  | j+1=>exact UP (ha.2 (j+1) e v A hv) (M e (co A))
 have g:=(h s).2 V0 vs _ m n;rw [f] at g;refine g.mono ?_;rintro e w' ⟨V1,v,x,σ',rfl,rfl,hi,L,rfl,G,s',rfl⟩
 have u:V.w.heap.size<=V1.w.heap.size:=by have a:V0.w.heap.size<=_:=hi.ext.size;rw [f] at a;exact a
 have d:∀b,b < V.w.heap.size->¬S.B b->V1.w.heap[b]? = V.w.heap[b]?:=λb hb G=>by
  have a:V1.w.heap[b]? = V0.w.heap[b]?:=hi.old b (by show b < V0.w.heap.size;rw [f];exact hb) λh=>h.elim (λh=>G ((R b).2 h)) λh=>h;rw [a,f]
 have l:∀b,V1.I b->S.J b\/V.w.heap.size<=b\/S.B b:=λb hb=>by
  rcases hi.iNew b hb with a|a|a|a
  ·exact .inl (by rw [<-e1];exact a)
  ·have a:V0.w.heap.size<=b:=a
   rw [f] at a;exact .inr (.inl a)
  ·exact .inr (.inr ((R b).2 a))
  ·exact a.elim
 have z:∀b,Dw V1 (H.st s') b->V.w.heap.size<=b\/S.B b:=λb ⟨id,o,X,U,T⟩=>by
  rcases hi.live id o X U b T with a|a|a
  ·have a:V0.w.heap.size<=b:=a
   rw [f] at a;exact .inl a
  ·exact .inr ((R b).2 a)
  ·exact a.elim
 have e:Ext V { V with I:=λb=>V.I b\/V1.I b,w:=V1.w } := ⟨λ_ h=>.inl h,λb hb=>d b (c.iLt b hb) λh=>c.hid.bi b h hb,u,λ_ _=>rfl,λ_ _=>rfl,λ_ _=>Iff.rfl,io _⟩
 refine⟨{ V with I:=λb=>V.I b\/V1.I b,w:=V1.w },v,x,[],rfl,rfl,⟨?_,?_,?_,λb hb N=>d b hb λh=>N (.inr h),λb hb=>?_,λb hb=>?_,e,DZ,λid o ho=>(by cases ho),λy p=>⟨.inl (c.tabs y p).1,?_⟩,⟨⟨Dw V1 (H.st s'),V1.I⟩,⟨?_,λb hb=>.inr hb,λb hb hI=>?_,λb ⟨_,_,h,_⟩=>by cases h⟩,λb hb=>?_,λb hb=>?_⟩⟩,UP L F,rfl⟩
 ·have a:V1.w.os=V0.w.os:=hi.os
  rw [f] at a;exact a
 ·have a:V1.w.tape=V0.w.tape:=hi.tape
  rw [f] at a;exact a
 ·have a:V1.w.output=V0.w.output:=hi.output
  rw [f] at a;exact a
 ·rcases hb with hb|hb
  ·exact lC (c.iLt b hb) u
  ·exact hi.iLt b hb
 ·rcases hb with hb|hb
  ·exact .inl hb
  ·rcases l b hb with a|a|a
   ·exact .inl (c.hid.ji b a)
   ·exact .inr (.inl a)
   ·exact .inr (.inr (.inr a))
 ·exact(d _ (c.iLt _ (c.tabs y p).1) λh=>c.hid.bi _ h (c.tabs y p).1).trans (c.tabs y p).2
 ·exact⟨s',V1,rfl,rfl,G,hi.st,⟨by rw [G,<-e3];exact Y,by rw [<-q];exact hi.ext.ρ 0 pC,λh=>t ((hi.ext.nl 0 pC).1 h),λy p=>hi.ext.i _ (tb y p)⟩,λ_=>Iff.rfl⟩
 ·have Q:=hb
  obtain⟨id,o,X,U,T⟩:=hb
  rcases hI with hI|hI
  ·rcases z b Q with a|a
   ·have:=c.iLt b hI;omega
   ·exact c.hid.bi b a hI
  ·exact hi.st.free id o X U b T hI
 ·rcases l b hb with a|a|a
  ·exact .inl a
  ·exact .inr (.inl a)
  ·exact .inr (.inr (.inr a))
 ·rcases z b hb with a|a
  ·exact .inl a
  ·exact .inr (.inr a)
inductive CH (i r:Nat):C->C->Prop
 | AL {c:C}:CH i r c c
 | ptr {k:Nat}:CH i r (.ptr i k 0 0) (Oi r)
 | mv {gg:FuncId} {k:Nat}:CH i r (.mv gg [.ptr i k 0 0]) (.mv gg [Oi r])
theorem CH.rel{V:View}{i r:Nat}(m:V.ρ i=r){c c':C}{v:Value}(h:CH i r c c')(a:AF V c v):AF V c' v:=by
 have e:∀ {k:Nat} {v:Value},AF V (.ptr i k 0 0) v->AF V (Oi r) v:=λ{k v} a=>by
  cases a with
  | ptr g f=>rw [mN,m];exact .d (.v rfl)
 cases h with
 | AL=>exact a
 | ptr=>exact e a
 | mv =>
  cases a with
  | mv g f=>
   refine .mv (by rw [g];rfl) λj c v b l=>?_
   match j with
   | 0=>injection b with b;subst b;exact e (f 0 _ v rfl l)
   | j+1=>simp at b
inductive LH (i r:Nat):List C->List C->Prop
 | nil:LH i r [] []
 | cons {c c':C} {l l':List C}:CH i r c c'->LH i r l l'->LH i r (c::l) (c'::l')
theorem LH.len{i r:Nat}{l l':List C}(h:LH i r l l'):l'.length=l.length:=by
 induction h with
 | nil=>rfl
 | cons _ _ a=>simp [a]
theorem LH.get{i r:Nat}{l l':List C}(h:LH i r l l'):∀(j:Nat) c',l'[j]? = some c'->∃c,l[j]? = some c/\CH i r c c':=by
 induction h with
 | nil=>intro j c' h;simp at h
 | @cons f e cs cs' d _ b=>
  intro j c' a
  cases j with
  | zero=>simp at a;subst a;exact⟨f,rfl,d⟩
  | succ j=>exact b j c' (by simpa using a)
inductive EH (i r:Nat):E->E->Prop
 | AL {e:E}:EH i r e e
 | o {c c':C}:CH i r c c'->EH i r (.o c) (.o c')
 | a {l l':List C}:LH i r l l'->EH i r (.a l) (.a l')
theorem EH.rel{V:View}{i r:Nat}(d:V.ρ i=r){e e':E}{v:Value}(h:EH i r e e')(b:Bg V e v):Bg V e' v:=by
 cases h with
 | AL=>exact b
 | o h=>exact h.rel d b
 | a h=>
  obtain⟨vs,p,n,m⟩:=b;refine⟨vs,p,by rw [n,h.len],λj c v g f=>?_⟩;obtain⟨q,l,k⟩:=h.get j c g;exact k.rel d (m j q v l f)
def YM(i r:Nat)(f:Env):List (Nat×E)->Prop
 | []=>True
 | (t,e')::L=>(∃e,f t=some e/\EH i r e e')/\YM i r f L
theorem YM.get{i r:Nat}{f:Env}:∀ {L:List (Nat×E)},YM i r f L->∀t e',look L t=some e'->∃e,f t=some e/\EH i r e e'
 | [],_,t,e,h=>by cases h
 | (k,x)::L,a,t,e,h=>by
  rw [Az] at h;by_cases hk:k=t
  ·rw [if_pos hk] at h;injection h with h;subst h;subst hk;exact a.1
  ·rw [if_neg hk] at h;exact YM.get a.2 t e h
def gP(i r:Nat)(l:List Nat)(σ:Ab):Ab->Prop
 | []=>True
 | (id,o')::S=>(id∉l/\(look σ id=some o'\/∃T k rw rw',o'=.cells T k [rw']/\look σ id=some (.cells T k [rw])/\LH i r rw rw'))/\gP i r l σ S
theorem gP.get{i r:Nat}{l:List Nat}{σ:Ab}:∀ {S:Ab},gP i r l σ S->∀id o',look S id=some o'->id∉l/\(look σ id=some o'\/∃T k rw rw',o'=.cells T k [rw']/\look σ id=some (.cells T k [rw])/\LH i r rw rw')
 | [],_,id,o,h=>by cases h
 | (k,x)::L,a,id,o,h=>by
  rw [Az] at h;by_cases hk:k=id
  ·rw [if_pos hk] at h;injection h with h;subst h;subst hk;exact a.1
  ·rw [if_neg hk] at h;exact gP.get a.2 id o h
section
variable {P:Program}{tabs:List (Nat×Obj)}{Z:Ctx}{N:Nat}{σ:Ab}
theorem Inv.forget{TB:Bp}{J:Nat->Prop}{V:View}(h:Inv TB ⟨Z.V,Z.F,J⟩ V σ):Inv ⟨TB.tabs,none⟩ Z V σ:=
 ⟨h.os,h.tape,h.output,h.old,h.iLt,h.iNew,h.ext,h.st,h.live,h.tabs,⟨⟨λ_=>False,λ_=>False⟩,⟨λ_ h=>h,λ_ h=>h.elim,λ_ h=>h.elim,λ_ _ h=>h⟩,λ_ h=>h.elim,λ_ h=>h.elim⟩⟩
theorem Aj.jS{c:Code}{Q:Exit->Env->Ab->Nat->Prop}{f:Env}{nx:Nat}(H:Hid)(s:H.S)(i:Nat)(l:List Nat)(L:Nat->List (Nat×E))(S:Nat->Ab)(G:(i::l).Nodup)(hln:(i::l).length=H.nx)(U:A4 (nm (i::l) nx) σ (H.st s))(h0:∃T k r rs,look (H.st s) 0=some (.cells T k (r::rs)))
 (hE:∀r,YM i r f (L r)) (M:∀r,gP i r (i::l) σ (S r)) (h:∀r Z',Z'.V=Z.V->Aj P ⟨tabs,some (H,r)⟩ Z' N c Q (look (L r)) (S r) nx):Aj P ⟨tabs,none⟩ Z N c Q f σ nx:=by
 intro V a Y;have hi:=Y.inv;have hnx:=Y.nx;subst hnx;have hrn:∀id,nm (i::l) V.nx id < V.nx->id < (i::l).length:=λid=>PN;have n:∀id o,look (H.st s) id=some o->id < (i::l).length:=λid o g=>hrn id (hi.st.lt _ _ (U.get id o g))
 have hmem:∀id o,look (H.st s) id=some o->nm (i::l) V.nx id∈i::l:=λid o g=>by
  rw [Fj (n id o g)];exact l6 _
 have R:GN (V.A7 (nm (i::l) V.nx) (i::l).length) (H.st s):=by
  refine⟨λid o g=>Cs.A7 hrn (hi.st.obj _ _ (U.get id o g)),n,λid o g A b hb=>hi.st.free _ _ (U.get id o g) A b (Ce.1 hb),?_⟩;intro id id' o o' g w B A hnl' b hb K;refine hi.st.inj _ _ _ _ (U.get id o g) (U.get id' o' w) ?_ A hnl' b (Ce.1 hb) (Ce.1 K);have u:=n id o g;have h4:=n id' o' w;rw [Fj u,Fj h4];intro he;have hp:=lI.1 G
  rcases nD B with d|d
  ·exact hp _ _ u h4 d he
  ·exact hp _ _ h4 u d he.symm
 have hnl0:¬V.nl i:=by
  obtain⟨T,k,r,rs,d⟩:=h0
  rcases R.obj 0 _ d with ⟨_,p⟩|⟨p,_⟩
  ·cases p
  ·exact p
 have m:∀id o,look (S (V.ρ i)) id=some o->∃q,look σ id=some q/\∀b,Eh V id o b->Eh V id q b:=λid o g=>by
  obtain⟨_,d|⟨T,k,rw,rw',rfl,d,_⟩⟩:=(M (V.ρ i)).get id o g
  ·exact⟨o,d,λ_ h=>h⟩
  ·exact⟨_,d,λ_ h=>h⟩
 have hinv : Inv ⟨tabs,some (H,V.ρ i)⟩ ⟨Z.V,Z.F,λ_=>True⟩ V (S (V.ρ i)):=by
  refine⟨hi.os,hi.tape,hi.output,hi.old,hi.iLt,hi.iNew,hi.ext,⟨λid o g=>?_,λid o g=>?_,λid o g G b hb=>?_,λid id' o o' g w B G hn' b hb K=>?_⟩,λid o g G b hb=>?_,hi.tabs,⟨⟨Dw (V.A7 (nm (i::l) V.nx) (i::l).length) (H.st s),V.I⟩,⟨?_,λ_ h=>h,λb hb hI=>?_,λb hb hB=>?_⟩,λ_ _=>.inl True.intro,λb hb=>?_⟩⟩
  ·obtain⟨_,d|⟨T,k,rw,rw',rfl,d,p⟩⟩:=(M (V.ρ i)).get id o g
   ·exact hi.st.obj id o d
   ·rcases hi.st.obj id _ d with ⟨_,h7⟩|⟨X,cur,h2,u,h4,h7,h8,h9⟩
    ·cases h7
    ·refine .inr ⟨X,cur,h2,u,h4,h7,λx z=>?_,λi' x j c' J hj=>?_⟩
     ·simp at z;subst z;rw [p.len];exact h8 rw (by simp)
     ·have hi0:i'=0:=by have:=(ce.1 J).1;simp at this;omega
      subst hi0;simp at J;subst J;obtain⟨c,hc,hf⟩:=p.get j c' hj;obtain⟨v,h10,h11⟩:=h9 0 rw j c rfl hc;exact⟨v,h10,hf.rel rfl h11⟩
  ·obtain⟨q,d,_⟩:=m id o g;exact hi.st.lt id q d
  ·obtain⟨q,d,p⟩:=m id o g;exact hi.st.free id q d G b (p b hb)
  ·obtain⟨q,d,p⟩:=m id o g
   obtain⟨o0',h5',h6'⟩:=m id' o' w;exact hi.st.inj id id' q o0' d h5' B G hn' b (p b hb) (h6' b K)
  ·obtain⟨q,d,p⟩:=m id o g;exact hi.live id q d G b (p b hb)
  ·exact⟨s,V.A7 (nm (i::l) V.nx) (i::l).length,rfl,rfl,hln,R,⟨Nat.succ_pos _,rfl,hnl0,λx z=>(hi.tabs x z).1⟩,λ_=>Iff.rfl⟩
  ·obtain⟨id,o,g1,g2,g3⟩:=hb;exact R.free id o g1 g2 b g3 hI
  ·obtain⟨id,o,g1,g2,g3⟩:=hB
   obtain⟨id',o',k1,k2,k3⟩:=hb;obtain⟨q,d,p⟩:=m id' o' k1;have hnm:=((M (V.ρ i)).get id' o' k1).1;exact hi.st.inj id' _ q _ d (U.get id o g1) (λe=>hnm (by rw [e];exact hmem id o g1)) k2 g2 b (p b k3) (Ce.1 g3)
  ·obtain⟨id,o,g1,g2,g3⟩:=hb;exact hi.live _ _ (U.get id o g1) g2 b (Ce.1 g3)
 have hst:Cb ⟨tabs,some (H,V.ρ i)⟩ ⟨Z.V,Z.F,λ_=>True⟩ N V (look (L (V.ρ i))) (S (V.ρ i)) V.nx a:=by
  refine⟨λt x z=>?_,λt x z=>?_,Y.size,hinv,rfl,Y.defers⟩
  ·obtain⟨y,X,h2⟩:=(hE (V.ρ i)).get t x z
   exact h2.rel rfl (Y.env t y X)
  ·obtain⟨y,X,_⟩:=(hE (V.ρ i)).get t x z
   exact Y.lt t y X
 refine wp_mono (h (V.ρ i) ⟨Z.V,Z.F,λ_=>True⟩ rfl V a hst) ?_;rintro e a' w' ⟨V',f',σ',X,h2,u⟩;exact⟨V',f',σ',X,h2,⟨u.env,u.lt,u.size,Inv.forget u.inv,u.nx,u.defers⟩⟩
end
end Go.Am
