/-
  Arrays of numbers as values: read, held against each other, as a map's keys.
-/
import Derived.Test.YtgpbfllcjdfelaaGreatDoorPart24
import Derived.WideKeyArr
set_option linter.all false
namespace Go.Am
open Go
def Lg(q:IntKind)(l:List Int):Value:=.agg (l.map (Value.int q)).toArray
abbrev kE(q:IntKind)(l:List Int):List C:=l.map λx=>.d (.v (.int q x))
abbrev cJ(q:IntKind)(l:List Int):E:=.a (kE q l)
theorem VP{q:IntKind}{a b:List Int}:Lg q a=Lg q b↔a=b:=by
 unfold Lg;constructor
 ·intro h
  injection h with h
  have h:=congrArg Array.toList h;simp only at h;exact(List.map_inj_right (λx y h=>by injection h)).1 h
 ·rintro rfl;rfl
theorem Ko{V:View}{q:IntKind}{l:List Int}{v:Value}(h:Bg V (cJ q l) v):v=Lg q l:=by
 obtain⟨vs,rfl,f,e⟩:=h;unfold Lg;congr 1;apply Array.ext
 ·simpa using f
 ·intro i c b
  have a:i < l.length:=by simpa using b
  have:=AF.val (e i (.d (.v (.int q l[i]))) vs[i] (by simp [d5 a]) (lD c));rw [this];simp
class FF (P:Program) (t:TypeId) (n:outParam Nat) (q:outParam IntKind):Prop where
 u:∃e,WideMaps.ArrKey P t e n/\P.underlying e=some (.int q)
 eg:P.eqGuardType P.depth t=false
 sz:P.types.size≠0
section
variable {P:Program}{t:TypeId}{n:Nat}{q:IntKind}
theorem mapM_some{α β:Type}{f:α->Option β}:∀ {l:List α},(∀x∈l,∃y,f x=some y)->∃ys,l.mapM f=some ys
 | [],_=>⟨[],rfl⟩
 | x::l,h=>by
  obtain⟨y,c⟩:=h x (by simp);obtain⟨ys,a⟩:=mapM_some (l:=l) (λz b=>h z (by simp [b]));exact⟨y::ys,by rw [nu,c,a];rfl⟩
theorem FF.key(h:FF P t n q){l:List Int}(f:l.length=n)(g:∀x∈l,(Lit.int q x).wf=true):∃lx,keyOf P t (Lg q l)=some lx:=by
 obtain⟨e,a,k⟩:=h.u;obtain⟨m,b⟩:=Nat.exists_eq_succ_of_ne_zero h.sz;have b:P.types.size=m+1:=b
 have w:∀i∈List.range n,∃y,P.keyLits (m+1) e ((((l.map (Value.int q)).toArray.toList).drop (i*P.cellsOf e)).take (P.cellsOf e))=some y:=λi hi=>by
  have hi:i < n:=lN.1 hi;rw [a.one,pE]
  obtain⟨x,d⟩:∃x,l[i]? = some x:=⟨l[i],d5 (by omega)⟩
  have v:(((l.map (Value.int q)).toArray.toList).drop i).take 1=[Value.int q x]:=by
   have s:(l.map (Value.int q))[i]? = some (Value.int q x):=by simp [d]
   obtain⟨r,p⟩:=ce.1 s;simp only;rw [n9 r,p];rfl
  rw [v];refine⟨[.int q x],?_⟩;unfold Program.keyLits;simp [k,g x (co d)]
 obtain⟨ys,c⟩:=mapM_some w
 have o:P.keyLits (P.types.size+1) t (Lg q l).cells.toList=some ys.flatten:=by
  rw [b]
  show P.keyLits (m+1+1) t (l.map (Value.int q)).toArray.toList=_
  unfold Program.keyLits;simp only [a.hu];rw [if_pos (by rw [a.size];simp [f])];rw [c];rfl
 have j:(Lg q l).formed P t=true:=by simp [Lg,Value.formed,a.hu,a.size,f]
 unfold keyOf;rw [a.hu];simp only;rw [if_pos (by rw [a.keyType ⟨m,b⟩,j];rfl),o];exact⟨_,rfl⟩
theorem FF.law(h:FF P t n q):WideMaps.KeyLaw P t:=by
 obtain⟨e,a,b⟩:=h.u;exact a.law
theorem FF.run_eq(h:FF P t n q){a b:List Int}(ha:a.length=n)(hb:b.length=n)(g:∀x∈a,(Lit.int q x).wf=true)(f:∀x∈b,(Lit.int q x).wf=true)(w:World):(Op.equal t (Lg q a) (Lg q b)).run P w=.ok (decide (a=b)) w:=by
 obtain⟨lx,d⟩:=h.key ha g;obtain⟨ly,c⟩:=h.key hb f;obtain⟨e,j,o⟩:=h.u;obtain⟨r,l,k⟩:=run_equal_deep w (m:=2) (by omega) (j.at 0) j.wide d c;rw [l];congr 1;rw [nk,k,decide_eq_true_eq];refine⟨λi=>VP.1 (h.law.inj d (by rw [i];exact c)),λi=>?_⟩;subst i;rw [d] at c;injection c
end
section
variable {P:Program}{TB:Bp}{Z:Ctx}{d:Option Tmp}{ty:TypeId}{pos:String}{af:Array Edge}{g:Option (Nat×Bool)}{f:Env}{σ:Ab}{nx:Nat}
variable {K:E->Ab->Nat->Prop}{t:TypeId}{n:Nat}{q:IntKind}
theorem KH{x y:Operand}{l:List Int}{k:IntKind}{i:Int}{v:Int}[h:FF P t n q](o:ev f x=some (cJ q l))(m:ev f y=some (eI k i))(G:l.length=n)(F:0<=i)(a:l[i.toNat]? = some v) :
 AW P TB Z ⟨d,.index t x y,ty,pos,af,g⟩ f σ nx (eI q v):=
 AI λV ρ j _=>by
  have B:=Ko (j.get (by simp [Op.operands]) o);have A:ρ y=.int k i:=AF.val (j.get (by simp [Op.operands]) m);obtain⟨e,c,b⟩:=h.u;obtain⟨inf,hi⟩:=info_of_underlying b
  have z:inf.size=1:=by have:=c.one;simpa [Program.cellsOf,hi] using this
  have p:=(ce.1 a).1
  have s:i < (n:Int):=by omega
  refine⟨.int q v,?_,.d (.v rfl)⟩
  have H:(l.map (Value.int q)).toArray[i.toNat]? = some (.int q v):=by simp [a]
  have r:(isAgg e).run P V.w=.ok false V.w:=by simp [isAgg,run_underlying b,go_sem]
  simp [execOp,B,A,Lg,Instr.index,asIntOf,run_underlying c.hu,F,s,part,r,sizeOf,typeInfo,hi,z,a,go_sem]
theorem iL{yt:TypeId}{x y:Operand}{a b:List Int}[h:FF P t n q](k:ev f x=some (cJ q a))(j:ev f y=some (cJ q b))(ha:a.length=n)(hb:b.length=n)(e:∀x∈a,(Lit.int q x).wf=true)(c:∀x∈b,(Lit.int q x).wf=true) :
 AW P TB Z ⟨d,.binOp .eql t x y yt,ty,pos,af,g⟩ f σ nx (eB (decide (a=b))):=
 AI λV ρ i _=>by
  have p:=Ko (i.get (x:=x) (by simp [Op.operands]) k);have o:=Ko (i.get (x:=y) (by simp [Op.operands]) j);refine⟨.bool (decide (a=b)),?_,.d (.v rfl)⟩;have m:binOp .eql t (Lg q a) (Lg q b)=(do pure (.bool (<-Op.equal t (Lg q a) (Lg q b)))):=rfl
  have l:(eqGuard .eql t x y (Lg q a) (Lg q b)).run P V.w=.ok () V.w:=by
   unfold eqGuard Lg;simp [h.eg,go_sem]
  simp [execOp,p,o,m,l,h.run_eq ha hb e c V.w,go_sem]
def mapA(q:IntKind)(l:List (List Int×Int)):List (Value×Value):=l.map λp=>(Lg q p.1,.int .i64 p.2)
def DD:List (List Int×Int)->List Int->Option Int
 | [],_=>none
 | p::l,s=>if p.1=s then some p.2 else DD l s
theorem Hu:∀ {l:List (List Int×Int)} {s:List Int},DD l s=none↔∀p∈l,p.1≠s
 | [],s=>by simp [DD]
 | p::l,s=>by
  unfold DD;split
  ·rename_i h;simp [h]
  ·rename_i h;rw [Hu (l:=l)];simp [h]
theorem Lr:∀ {l:List (List Int×Int)} {p:List Int×Int},l.Pairwise (λa b=>a.1≠b.1)->p∈l->DD l p.1=some p.2
 | [],p,_,h=>by cases h
 | x :: l,p,c,h=>by
  unfold DD
  rcases lF.1 h with rfl|h
  ·rw [if_pos rfl]
  ·rw [if_neg ((ma.1 c).1 p h)]
   exact Lr (ma.1 c).2 h
def Pp(n:Nat)(q:IntKind)(l:List (List Int×Int)):Prop:=∀p∈l,p.1.length=n/\∀x∈p.1,(Lit.int q x).wf=true
theorem Py[h:FF P t n q]{l:List (List Int×Int)}{es:List MapEntry}{s:List Int}(v:Pp n q l)(g:es.map (λe=>(e.key,e.val))=mapA q l)(B:s.length=n)(A:∀x∈s,(Lit.int q x).wf=true)(G:l.Pairwise (λa b=>a.1≠b.1))(w:World) :
 ∃r,(Instr.findKey t (Lg q s) es).run P w=.ok r w/\r.map (·.2)=(DD l s).map (.int .i64):=by
 obtain⟨lx,z⟩:=h.key B A
 have d:∀e∈es,∃p∈l,e.key=Lg q p.1/\e.val=.int .i64 p.2:=λe i=>by
  have:(e.key,e.val)∈mapA q l:=by rw [<-g];exact d8.2 ⟨e,i,rfl⟩
  obtain⟨p,f,c⟩:=d8.1 this
  injection c with c u
  exact⟨p,f,c.symm,u.symm⟩
 rcases h.law.find w z es (λe i=>by
  obtain⟨p,f,c,_⟩:=d e i
  rw [c];exact h.key (v p f).1 (v p f).2) with ⟨f,c⟩|⟨j,e,f,c,u⟩
 ·refine⟨none,f,?_⟩
  have:DD l s=none:=Hu.2 λp F i=>by
   have o:(Lg q p.1,Value.int .i64 p.2)∈es.map (λe=>(e.key,e.val)):=by rw [g];exact d8.2 ⟨p,F,rfl⟩
   obtain⟨e,m,k⟩:=d8.1 o
   injection k with k y
   exact c e m (by rw [k,i])
  rw [this];rfl
 ·refine⟨_,f,?_⟩
  obtain⟨p,o,m,k⟩:=d e (co c);have y:p.1=s:=VP.1 (by rw [<-m,u]);rw [<-y,Lr G o,k];rfl
theorem ND[h:FF P t n q]{s:List Int}(d:s.length=n)(c:∀x∈s,(Lit.int q x).wf=true)(b:Bool)(w:World):(Instr.checkKey b 10000 t (Lg q s)).run P w=.ok () w:=by
 obtain⟨lx,a⟩:=h.key d c;exact h.law.check w b a
theorem WC{m e:TypeId}{x y:Operand}{id:Nat}{l:List (List Int×Int)}{s:List Int}[M:JV P m t e][h:FF P t n q][U:Po P e (.int .i64 0)](Y:ev f x=some (.o (.mp id)))(X:ev f y=some (cJ q s))(ho:look σ id=some (.mp (mapA q l)))
 (hl:Pp n q l) (hd:l.Pairwise (λa b=>a.1≠b.1)) (K:s.length=n) (J:∀x∈s,(Lit.int q x).wf=true) :
 AW P TB Z ⟨d,.lookup m x y true,ty,pos,af,g⟩ f σ nx (.t [(false,[.d (.v (.int .i64 ((DD l s).getD 0)))]),(false,[.d (.v (.bool (DD l s).isSome))])]):=
 AI λV ρ L hi=>by
  have T:=L.get (by simp [Op.operands]) Y;have S:ρ y=Lg q s:=Ko (L.get (by simp [Op.operands]) X);generalize c:ρ x=v at T
  cases T with
  | mp hid =>
   obtain⟨hn,ents,clock,R,h2⟩:=hi.st.obj id _ ho;obtain⟨r,z,B⟩:=Py (P:=P) (t:=t) (es:=ents.toList) hl h2 K J hd V.w;have k:=U.out;simp only [lH] at k;obtain⟨i,H,G⟩:=k
   have F:(zeroValue e).run P V.w=.ok (.int .i64 0) V.w:=by simp [zeroValue,typeInfo,H,G,go_sem]
   have A:=ND (P:=P) (t:=t) K J ents.isEmpty V.w;refine⟨.tuple #[.int .i64 ((DD l s).getD 0),.bool (DD l s).isSome],?_,⟨_,rfl,rfl,λj x v u c=>?_⟩⟩
   ·cases r with
    | none=>
     have I:DD l s=none:=by simpa using B.symm
     simp [execOp,c,S,Instr.lookup,run_underlying M.out,MapKept.run_getObj_map R,A,z,F,I,go_sem]
    | some p=>
     obtain⟨n,I,Q⟩:∃n,DD l s=some n/\p.2=.int .i64 n:=by
      cases N:DD l s with
      | none=>rw [N] at B;simp at B
      | some n=>rw [N] at B;exact⟨n,rfl,by simpa using B⟩
     obtain⟨q1,q2⟩:=p;simp only at Q;subst Q;simp [execOp,c,S,Instr.lookup,run_underlying M.out,MapKept.run_getObj_map R,A,z,I,go_sem]
   ·match j with
    | 0=>simp at u c;subst u;subst c;exact⟨_,rfl,.d (.v rfl)⟩
    | 1=>simp at u c;subst u;subst c;exact⟨_,rfl,.d (.v rfl)⟩
    | j+2=>simp at u
theorem fE{m e:TypeId}{x y z:Operand}{id:Nat}{l:List (List Int×Int)}{s:List Int}{v:Int}[hm:JV P m t e][h:FF P t n q](T:ev f x=some (.o (.mp id)))(S:ev f y=some (cJ q s))(R:ev f z=some (eI .i64 v))(J:look σ id=some (.mp (mapA q l)))
 (hl:Pp n q l) (hd:l.Pairwise (λa b=>a.1≠b.1)) (I:s.length=n) (H:∀x∈s,(Lit.int q x).wf=true) (Y:DD l s=none) (L:K (.t []) ((id,.mp (mapA q (l++[(s,v)])))::σ) nx):BQ P TB Z ⟨d,.mapUpdate m x y z,ty,pos,af,g⟩ f σ nx K:=by
 intro V a c N h3;have c:=c.GV;unfold Oper.wp;generalize a.eval=ρ at c |-;have Q:=c.get (x:=x) (by simp [Op.operands]) T;have e2:ρ y=Lg q s:=Ko (c.get (by simp [Op.operands]) S);have e3:ρ z=.int .i64 v:=AF.val (c.get (by simp [Op.operands]) R);generalize U:ρ x=vx at Q
 cases Q with
 | mp hid=>
  obtain⟨p,ents,clock,G,F⟩:=N.st.obj id _ J;obtain⟨r,A,M⟩:=Py (P:=P) (t:=t) (es:=ents.toList) hl F I H hd V.w;rw [Y] at M
  have X:r=none:=by cases r with
   | none=>rfl
   | some q=>simp at M
  subst X;have B:=ND (P:=P) (t:=t) I H false V.w
  let ob:Obj:=.map (ents.push { key:=Lg q s,val:=.int .i64 v,born:=clock }) (clock+1)
  let w':World:={ V.w with heap:=V.w.heap.setIfInBounds (V.ρ id) ob }
  have i:=MapKept.run_setObj_map (P:=P) ob G;have u:=(lL.1 G).1
  obtain⟨hi,he⟩:=N.write J p (w:=w') (ob':=.mp (mapA q (l++[(s,v)]))) rfl rfl rfl rfl rfl (by simp [w']) (λb hb=>by simp [w',nf,Ne.symm hb]) (by
   refine⟨p,ents.push { key:=Lg q s,val:=.int .i64 v,born:=clock },clock+1,?_,?_⟩
   ·show w'.heap[V.ρ id]? = some ob
    simp [w',nf,u]
   ·simp [mapA] at F |-
    exact F)
  have k:(execOp ρ ⟨d,.mapUpdate m x y z,ty,pos,af,g⟩).run P V.w=.ok .skip w':=by
   simp [execOp,U,e2,e3,Instr.mapUpdate,run_underlying hm.out,MapKept.run_getObj_map G,B,A,i,ob,w',go_sem]
  rw [k];exact⟨{ V with w:=w' },.tuple #[],.t [],_,rfl,rfl,he,hi,⟨#[],rfl,rfl,λj x v hj=>by simp at hj⟩,by rw [<-h3] at L;exact L⟩
end
end Go.Am
