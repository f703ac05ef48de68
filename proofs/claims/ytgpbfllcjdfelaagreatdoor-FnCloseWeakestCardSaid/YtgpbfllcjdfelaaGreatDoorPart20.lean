/-
  Arrays of numbers as values: read, held against each other, as a map's keys.
-/
import Derived.Test.YtgpbfllcjdfelaaGreatDoorPart17
import Derived.WideKeyArr
set_option linter.all false
namespace Go.Am
open Go
def JR(q:IntKind)(l:List Int):Value:=.agg (l.map (Value.int q)).toArray
abbrev jX(q:IntKind)(l:List Int):List C:=l.map λx=>.d (.v (.int q x))
abbrev aV(q:IntKind)(l:List Int):E:=.a (jX q l)
theorem Uk{q:IntKind}{a b:List Int}:JR q a=JR q b↔a=b:=by
 unfold JR;constructor
 ·intro h
  injection h with h
  have h:=congrArg Array.toList h;simp only at h;exact(List.map_inj_right (λx y h=>by injection h)).1 h
 ·rintro rfl;rfl
theorem Jj{V:View}{q:IntKind}{l:List Int}{v:Value}(h:A4 V (aV q l) v):v=JR q l:=by
 obtain⟨vs,rfl,f,e⟩:=h;unfold JR;congr 1;apply Array.ext
 ·simpa using f
 ·intro i c b
  have a:i < l.length:=by simpa using b
  have:=Az.val (e i (.d (.v (.int q l[i]))) vs[i] (by simp [d7 a]) (kK c));rw [this];simp
class E5 (P:Program) (t:TypeId) (n:outParam Nat) (q:outParam IntKind):Prop where
 u:∃e,WideMaps.ArrKey P t e n/\P.underlying e=some (.int q)
 eg:P.eqGuardType P.depth t=false
 sz:P.types.size≠0
section
variable {P:Program}{t:TypeId}{n:Nat}{q:IntKind}
theorem mapM_some{U β:Type}{f:U->Option β}:∀ {l:List U},(∀x∈l,∃y,f x=some y)->∃ys,l.mapM f=some ys
 | [],_=>⟨[],rfl⟩
 | x::l,h=>by
  obtain⟨y,c⟩:=h x (by simp);obtain⟨ys,a⟩:=mapM_some (l:=l) (λz b=>h z (by simp [b]));exact⟨y::ys,by rw [mt,c,a];rfl⟩
theorem E5.key(h:E5 P t n q){l:List Int}(f:l.length=n)(hw:∀x∈l,(Lit.int q x).wf=true):∃lx,keyOf P t (JR q l)=some lx:=by
 obtain⟨e,a,j⟩:=h.u;obtain⟨m,b⟩:=Nat.exists_eq_succ_of_ne_zero h.sz;have b:P.types.size=m+1:=b
 have v:∀i∈List.range n,∃y,P.keyLits (m+1) e ((((l.map (Value.int q)).toArray.toList).drop (i*P.cellsOf e)).take (P.cellsOf e))=some y:=λi hi=>by
  have hi:i < n:=kB.1 hi;rw [a.one,nY]
  obtain⟨x,d⟩:∃x,l[i]? = some x:=⟨l[i],d7 (by omega)⟩
  have s:(((l.map (Value.int q)).toArray.toList).drop i).take 1=[Value.int q x]:=by
   have r:(l.map (Value.int q))[i]? = some (Value.int q x):=by simp [d]
   obtain⟨p,o⟩:=am.1 r;simp only;rw [mr p,o];rfl
  rw [s];refine⟨[.int q x],?_⟩;unfold Program.keyLits;simp [j,hw x (co d)]
 obtain⟨ys,c⟩:=mapM_some v
 have k:P.keyLits (P.types.size+1) t (JR q l).cells.toList=some ys.flatten:=by
  rw [b]
  show P.keyLits (m+1+1) t (l.map (Value.int q)).toArray.toList=_
  unfold Program.keyLits;simp only [a.hu];rw [if_pos (by rw [a.size];simp [f])];rw [c];rfl
 have g:(JR q l).formed P t=true:=by simp [JR,Value.formed,a.hu,a.size,f]
 unfold keyOf;rw [a.hu];simp only;rw [if_pos (by rw [a.keyType ⟨m,b⟩,g];rfl),k];exact⟨_,rfl⟩
theorem E5.law(h:E5 P t n q):WideMaps.KeyLaw P t:=by
 obtain⟨e,a,b⟩:=h.u;exact a.law
theorem E5.run_eq(h:E5 P t n q){a b:List Int}(ha:a.length=n)(hb:b.length=n)(g:∀x∈a,(Lit.int q x).wf=true)(f:∀x∈b,(Lit.int q x).wf=true)(w:World):(Op.equal t (JR q a) (JR q b)).run P w=.ok (decide (a=b)) w:=by
 obtain⟨lx,d⟩:=h.key ha g;obtain⟨ly,c⟩:=h.key hb f;obtain⟨e,j,o⟩:=h.u;obtain⟨r,l,k⟩:=run_equal_deep w (m:=2) (by omega) (j.at 0) j.wide d c;rw [l];congr 1;rw [lV,k,decide_eq_true_eq];refine⟨λi=>Uk.1 (h.law.inj d (by rw [i];exact c)),λi=>?_⟩;subst i;rw [d] at c;injection c
end
section
variable {P:Program}{TB:Bp}{Γ:Ctx}{d:Option Tmp}{ty:TypeId}{pos:String}{af:Array Edge}{g:Option (Nat×Bool)}{f:Env}{σ:Ab}{nx:Nat}
variable {K:E->Ab->Nat->Prop}{t:TypeId}{n:Nat}{q:IntKind}
theorem JB{x y:Operand}{l:List Int}{k:IntKind}{i:Int}{v:Int}[h:E5 P t n q](o:ev f x=some (aV q l))(m:ev f y=some (eI k i))(G:l.length=n)(F:0<=i)(a:l[i.toNat]? = some v) :
 AU P TB Γ ⟨d,.index t x y,ty,pos,af,g⟩ f σ nx (eI q v):=
 AF λV ρ j _=>by
  have B:=Jj (j.get (by simp [Op.operands]) o);have A:ρ y=.int k i:=Az.val (j.get (by simp [Op.operands]) m);obtain⟨e,c,b⟩:=h.u;obtain⟨inf,hi⟩:=info_of_underlying b
  have z:inf.size=1:=by have:=c.one;simpa [Program.cellsOf,hi] using this
  have p:=(am.1 a).1
  have s:i < (n:Int):=by omega
  refine⟨.int q v,?_,.d (.v rfl)⟩
  have H:(l.map (Value.int q)).toArray[i.toNat]? = some (.int q v):=by simp [a]
  have r:(isAgg e).run P V.w=.ok false V.w:=by simp [isAgg,run_underlying b,go_sem]
  simp [execOp,B,A,JR,Instr.index,asIntOf,run_underlying c.hu,F,s,part,r,sizeOf,typeInfo,hi,z,a,go_sem]
theorem gJ{yt:TypeId}{x y:Operand}{a b:List Int}[h:E5 P t n q](k:ev f x=some (aV q a))(j:ev f y=some (aV q b))(ha:a.length=n)(hb:b.length=n)(e:∀x∈a,(Lit.int q x).wf=true)(c:∀x∈b,(Lit.int q x).wf=true) :
 AU P TB Γ ⟨d,.binOp .eql t x y yt,ty,pos,af,g⟩ f σ nx (eB (decide (a=b))):=
 AF λV ρ i _=>by
  have p:=Jj (i.get (x:=x) (by simp [Op.operands]) k);have o:=Jj (i.get (x:=y) (by simp [Op.operands]) j);refine⟨.bool (decide (a=b)),?_,.d (.v rfl)⟩;have m:binOp .eql t (JR q a) (JR q b)=(do pure (.bool (<-Op.equal t (JR q a) (JR q b)))):=rfl
  have l:(eqGuard .eql t x y (JR q a) (JR q b)).run P V.w=.ok () V.w:=by
   unfold eqGuard JR;simp [h.eg,go_sem]
  simp [execOp,p,o,m,l,h.run_eq ha hb e c V.w,go_sem]
def mapA(q:IntKind)(l:List (List Int×Int)):List (Value×Value):=l.map λp=>(JR q p.1,.int .i64 p.2)
def Di:List (List Int×Int)->List Int->Option Int
 | [],_=>none
 | p::l,s=>if p.1=s then some p.2 else Di l s
theorem GO:∀ {l:List (List Int×Int)} {s:List Int},Di l s=none↔∀p∈l,p.1≠s
 | [],s=>by simp [Di]
 | p::l,s=>by
  unfold Di;split
  ·rename_i h;simp [h]
  ·rename_i h;rw [GO (l:=l)];simp [h]
theorem J0:∀ {l:List (List Int×Int)} {p:List Int×Int},l.Pairwise (λa b=>a.1≠b.1)->p∈l->Di l p.1=some p.2
 | [],p,_,h=>by cases h
 | x :: l,p,c,h=>by
  unfold Di
  rcases kw.1 h with rfl|h
  ·rw [if_pos rfl]
  ·rw [if_neg ((lg.1 c).1 p h)]
   exact J0 (lg.1 c).2 h
def Og(n:Nat)(q:IntKind)(l:List (List Int×Int)):Prop:=∀p∈l,p.1.length=n/\∀x∈p.1,(Lit.int q x).wf=true
theorem Ov[h:E5 P t n q]{l:List (List Int×Int)}{es:List MapEntry}{s:List Int}(v:Og n q l)(g:es.map (λe=>(e.key,e.val))=mapA q l)(A:s.length=n)(hw:∀x∈s,(Lit.int q x).wf=true)(B:l.Pairwise (λa b=>a.1≠b.1))(w:World) :
 ∃r,(Instr.findKey t (JR q s) es).run P w=.ok r w/\r.map (·.2)=(Di l s).map (.int .i64):=by
 obtain⟨lx,z⟩:=h.key A hw
 have d:∀e∈es,∃p∈l,e.key=JR q p.1/\e.val=.int .i64 p.2:=λe i=>by
  have:(e.key,e.val)∈mapA q l:=by rw [<-g];exact d8.2 ⟨e,i,rfl⟩
  obtain⟨p,f,c⟩:=d8.1 this
  injection c with c u
  exact⟨p,f,c.symm,u.symm⟩
 rcases h.law.find w z es (λe i=>by
  obtain⟨p,f,c,_⟩:=d e i
  rw [c];exact h.key (v p f).1 (v p f).2) with ⟨f,c⟩|⟨j,e,f,c,u⟩
 ·refine⟨none,f,?_⟩
  have:Di l s=none:=GO.2 λp hp i=>by
   have o:(JR q p.1,Value.int .i64 p.2)∈es.map (λe=>(e.key,e.val)):=by rw [g];exact d8.2 ⟨p,hp,rfl⟩
   obtain⟨e,m,k⟩:=d8.1 o
   injection k with k y
   exact c e m (by rw [k,i])
  rw [this];rfl
 ·refine⟨_,f,?_⟩
  obtain⟨p,o,m,k⟩:=d e (co c);have y:p.1=s:=Uk.1 (by rw [<-m,u]);rw [<-y,J0 B o,k];rfl
theorem Mh[h:E5 P t n q]{s:List Int}(c:s.length=n)(hw:∀x∈s,(Lit.int q x).wf=true)(b:Bool)(w:World):(Instr.checkKey b 10000 t (JR q s)).run P w=.ok () w:=by
 obtain⟨lx,a⟩:=h.key c hw;exact h.law.check w b a
theorem UE{m e:TypeId}{x y:Operand}{id:Nat}{l:List (List Int×Int)}{s:List Int}[L:DJ P m t e][h:E5 P t n q][T:Hl P e (.int .i64 0)](Y:ev f x=some (.o (.mp id)))(X:ev f y=some (aV q s))(Z:look σ id=some (.mp (mapA q l)))
 (hl:Og n q l) (hd:l.Pairwise (λa b=>a.1≠b.1)) (J:s.length=n) (hw:∀x∈s,(Lit.int q x).wf=true) :
 AU P TB Γ ⟨d,.lookup m x y true,ty,pos,af,g⟩ f σ nx (.t [(false,[.d (.v (.int .i64 ((Di l s).getD 0)))]),(false,[.d (.v (.bool (Di l s).isSome))])]):=
 AF λV ρ K hi=>by
  have S:=K.get (by simp [Op.operands]) Y;have R:ρ y=JR q s:=Jj (K.get (by simp [Op.operands]) X);generalize c:ρ x=v at S
  cases S with
  | mp hid =>
   obtain⟨hn,ents,clock,Q,h2⟩:=hi.st.obj id _ Z;obtain⟨r,z,B⟩:=Ov (P:=P) (t:=t) (es:=ents.toList) hl h2 J hw hd V.w;have k:=T.out;simp only [kI] at k;obtain⟨i,H,G⟩:=k
   have F:(zeroValue e).run P V.w=.ok (.int .i64 0) V.w:=by simp [zeroValue,typeInfo,H,G,go_sem]
   have A:=Mh (P:=P) (t:=t) J hw ents.isEmpty V.w;refine⟨.tuple #[.int .i64 ((Di l s).getD 0),.bool (Di l s).isSome],?_,⟨_,rfl,rfl,λj x v u c=>?_⟩⟩
   ·cases r with
    | none=>
     have I:Di l s=none:=by simpa using B.symm
     simp [execOp,c,R,Instr.lookup,run_underlying L.out,MapKept.run_getObj_map Q,A,z,F,I,go_sem]
    | some p=>
     obtain⟨n,I,N⟩:∃n,Di l s=some n/\p.2=.int .i64 n:=by
      cases M:Di l s with
      | none=>rw [M] at B;simp at B
      | some n=>rw [M] at B;exact⟨n,rfl,by simpa using B⟩
     obtain⟨q1,q2⟩:=p;simp only at N;subst N;simp [execOp,c,R,Instr.lookup,run_underlying L.out,MapKept.run_getObj_map Q,A,z,I,go_sem]
   ·match j with
    | 0=>simp at u c;subst u;subst c;exact⟨_,rfl,.d (.v rfl)⟩
    | 1=>simp at u c;subst u;subst c;exact⟨_,rfl,.d (.v rfl)⟩
    | j+2=>simp at u
theorem dN{m e:TypeId}{x y z:Operand}{id:Nat}{l:List (List Int×Int)}{s:List Int}{v:Int}[Z:DJ P m t e][h:E5 P t n q](S:ev f x=some (.o (.mp id)))(R:ev f y=some (aV q s))(Q:ev f z=some (eI .i64 v))(I:look σ id=some (.mp (mapA q l)))
 (hl:Og n q l) (hd:l.Pairwise (λa b=>a.1≠b.1)) (H:s.length=n) (hw:∀x∈s,(Lit.int q x).wf=true) (Y:Di l s=none) (J:K (.t []) ((id,.mp (mapA q (l++[(s,v)])))::σ) nx):BZ P TB Γ ⟨d,.mapUpdate m x y z,ty,pos,af,g⟩ f σ nx K:=by
 intro V a c M h3;have c:=c.FO;unfold Oper.wp;generalize a.eval=ρ at c |-;have N:=c.get (x:=x) (by simp [Op.operands]) S;have e2:ρ y=JR q s:=Jj (c.get (by simp [Op.operands]) R);have e3:ρ z=.int .i64 v:=Az.val (c.get (by simp [Op.operands]) Q);generalize T:ρ x=vx at N
 cases N with
 | mp hid=>
  obtain⟨p,ents,clock,G,F⟩:=M.st.obj id _ I;obtain⟨r,A,L⟩:=Ov (P:=P) (t:=t) (es:=ents.toList) hl F H hw hd V.w;rw [Y] at L
  have X:r=none:=by cases r with
   | none=>rfl
   | some q=>simp at L
  subst X;have B:=Mh (P:=P) (t:=t) H hw false V.w
  let ob:Obj:=.map (ents.push { key:=JR q s,val:=.int .i64 v,born:=clock }) (clock+1)
  let w':World:={ V.w with heap:=V.w.heap.setIfInBounds (V.ρ id) ob }
  have i:=MapKept.run_setObj_map (P:=P) ob G;have u:=(kM.1 G).1
  obtain⟨hi,he⟩:=M.write I p (w:=w') (ob':=.mp (mapA q (l++[(s,v)]))) rfl rfl rfl rfl rfl (by simp [w']) (λb hb=>by simp [w',lJ,Ne.symm hb]) (by
   refine⟨p,ents.push { key:=JR q s,val:=.int .i64 v,born:=clock },clock+1,?_,?_⟩
   ·show w'.heap[V.ρ id]? = some ob
    simp [w',lJ,u]
   ·simp [mapA] at F |-
    exact F)
  have k:(execOp ρ ⟨d,.mapUpdate m x y z,ty,pos,af,g⟩).run P V.w=.ok .skip w':=by
   simp [execOp,T,e2,e3,Instr.mapUpdate,run_underlying Z.out,MapKept.run_getObj_map G,B,A,i,ob,w',go_sem]
  rw [k];exact⟨{ V with w:=w' },.tuple #[],.t [],_,rfl,rfl,he,hi,⟨#[],rfl,rfl,λj x v hj=>by simp at hj⟩,by rw [<-h3] at J;exact J⟩
end
section
variable {P:Program}{TB:Bp}{Γ:Ctx}{d:Option Tmp}{ty:TypeId}{pos:String}{af:Array Edge}{g:Option (Nat×Bool)}{f:Env}{σ:Ab}{nx:Nat}
theorem jE{gg:FuncId}{x:Operand}{c:C}(e:ev f x=some (.o c)):AU P TB Γ ⟨d,.makeFunc (.func gg) #[x] #[],ty,pos,af,g⟩ f σ nx (.o (.mv gg [c])):=
 AF λV ρ i _=>by
  refine⟨.func (.func gg) #[ρ x] #[],by simp [execOp,Instr.makeFunc,go_sem],Az.mv rfl λj c' v a b=>?_⟩;have h:Az V c (ρ x):=i.get (by simp [Op.operands]) e
  match j with
  | 0=>simp at a b;subst a;subst b;exact h
  | j+1=>simp at a
theorem dL{V:View}{gg:FuncId}{recv:List C}{v:Value}(h:A4 V (.o (.mv gg recv)) v):∃vs,v=.func (.func gg) vs #[]/\CU V recv vs:=by
 have h:Az V (.mv gg recv) v:=h;generalize a:C.mv gg recv=c at h;cases h<;>cases a;rename_i vs d b;exact⟨vs,rfl,d,b⟩
theorem Sm{x:Operand}{args:Array Operand}{tys:Array TypeId}{gg:FuncId}{vs:Array Value}(f:WZ P gg){ρ:Operand->Value}(e:ρ x=.func (.func gg) vs #[])(w:World) :
 (execOp ρ ⟨d,.call ⟨.value x,args,tys⟩,ty,pos,af,g⟩).run P w=.ok (.enter gg (vs++args.map ρ)) w:=by
 obtain⟨fn,i,h,b⟩:=f
 have hb:∃c,fn.body=some c:=by cases hb:fn.body with|none=>rw [hb] at b;cases b|some c=>exact⟨c,rfl⟩
 obtain⟨c,hb⟩:=hb;simp only [execOp,resolve,e,Deferred.ofValue,pure_bind,invoke,callFunc]
 have a:¬fn.name = "runtime.NumGoroutine" := by simpa using h
 simp [Sem.run,program,i,a,hb,go_sem]
theorem YW{x:Operand}{args:Array Operand}{tys:Array TypeId}{gg:FuncId}{recv:List C}{es:List E}{r:E}(R:ev f x=some (.o (.mv gg recv)))(t:HS f args.toList=some es)(hp:(es.all E.Bz && C.CA recv)=true)
 (L:Pure P TB gg (recv.map .o++es) r) (T:r.Bz=true):AU P TB Γ ⟨d,.call ⟨.value x,args,tys⟩,ty,pos,af,g⟩ f σ nx r:=by
 intro V a u A Y;have u:=u.FO;unfold Oper.wp;generalize a.eval=ρ at u |-;obtain⟨vs,q,k⟩:=dL (u.get (x:=x) (by simp [Op.operands,Call.operands]) R);rw [Sm L.1 q];rw [d5] at hp;have G:=Cv t
 have p:Lj { V with nx:=0 } (recv.map .o++es) (vs++args.map ρ):=by
  refine⟨by simp [k.1,G],λj e v n q=>?_⟩;have m:vs.size=recv.length:=k.1;by_cases s:j < recv.length
  ·rw [f9 (by simpa using s)] at n
   rw [kS (by rw [m];exact s)] at q;simp only [d9,d6] at n;obtain⟨c,M,rfl⟩:=n;exact Az.Bz (V:=V) (V':={ V with nx:=0 }) rfl rfl (k.2 _ c v M q) (Ez _ hp.2 _ c M)
  ·rw [ge (by simp;omega)] at n
   rw [lM (by rw [m];omega),m] at q;simp only [gc] at n;refine A4.Bz (V:=V) (V':={ V with nx:=0 }) rfl rfl (Gp (λy Q e X=>u.get (by simp [Op.operands,Call.operands];right;simpa using Q) X) t _ e v n (by rw [<-mA];simpa using q)) (f7.1 hp.1 e (co n))
 obtain⟨S,z,J,K⟩:=A.hid;refine(L.2 { V with nx:=0 } _ S ⟨A.iLt,DC,A.tabs,rfl,⟨z.r,z.ji,z.bi,λb ⟨_,_,h,_⟩=>by cases h⟩⟩ p).mono ?_;rintro e w' ⟨V1,v,Z,N,rfl,rfl,l,B,rfl⟩
 obtain⟨F,H⟩:=IA A z J K (Vc:={ V with nx:=0 }) rfl l V1.I (λb hb=>l.ext.i b hb) (λb hb=>by
  rcases l.iNew b hb with h|h|h|h
  ·exact .inl h
  ·exact .inr (.inl ⟨h,l.iLt b hb⟩)
  ·obtain⟨_,_,h,_⟩:=h;cases h
  ·exact .inr (.inr h)) (λb hb _=>hb) (λb hb=>hb)
 exact⟨{ V with I:=V1.I,w:=V1.w },v,rfl,rfl,H,F,Y,A4.Bz (V:=V1) (V':={ V with I:=V1.I,w:=V1.w }) rfl rfl B T⟩
end
abbrev JC(r:Nat):C:=.d (.v (.pointer (some ⟨r,0,none⟩)))
theorem YU{P:Program}{tabs:List (Nat×Obj)}{H:Hid}{r:Nat}{gg:FuncId}{k:Nat}{es:List E}{L:E}(Q:WZ P gg)(N:∀e∈es,e.sc=true)(G:L.sc=true)
 (h:∀s,AS P ⟨tabs,none⟩ gg 1 (H.st s) H.nx (.o (.ptr 0 k 0 0)::es) (λx σ nx=>x=L/\nx=H.nx/\∃s',σ=H.st s')):Pure P ⟨tabs,some (H,r)⟩ gg (.o (JC r)::es) L:=by
 refine⟨Q,λV vs S c ha=>?_⟩;have hr:∃(s:H.S) (V0:View),V0.I=S.J/\V0.w=V.w/\V0.nx=H.nx/\Gj V0 (H.st s)/\(0 < V0.nx/\V0.ρ 0=r/\¬V0.nl 0/\∀x∈(⟨tabs,some (H,r)⟩:Bp),V0.I x.1)/\∀b,S.B b↔Dd V0 (H.st s) b:=c.hid.r;obtain⟨s,V0,e1,f,e3,st,⟨n0,t,u,tb⟩,T⟩:=hr
 have m:Good ⟨tabs,none⟩ V0 (H.st s) H.nx ⟨λ_=>False,λ_=>False⟩:=
  ⟨λb hb=>by rw [f];exact c.iLt b (c.hid.ji b (by rw [<-e1];exact hb)),st,λx G=>⟨tb x G,by rw [f];exact(c.tabs x G).2⟩,e3,⟨λ_ h=>h,λ_ h=>h.elim,λ_ h=>h.elim,λ_ _ h=>h⟩⟩
 have n:Lj V0 (.o (.ptr 0 k 0 0)::es) vs:=by
  refine⟨ha.1,λj e v F hv=>?_⟩
  match j with
  | 0=>
   injection F with F
   subst F;have h1:=ha.2 0 (.o (JC r)) v rfl hv;have h2:v=.pointer (some ⟨r,0,none⟩):=Az.val h1;subst h2;have:=Az.ptr (V:=V0) (id:=0) (k:=k) (i:=0) (j:=0) n0 u;rw [t,lW] at this;exact this
  | j+1=>exact Tn (ha.2 (j+1) e v F hv) (N e (co F))
 have g:=(h s).2 V0 vs _ m n;rw [f] at g;refine g.mono ?_;rintro e w' ⟨V1,v,x,σ',rfl,rfl,hi,M,rfl,K,s',rfl⟩
 have z:V.w.heap.size<=V1.w.heap.size:=by have a:V0.w.heap.size<=_:=hi.ext.size;rw [f] at a;exact a
 have d:∀b,b < V.w.heap.size->¬S.B b->V1.w.heap[b]? = V.w.heap[b]?:=λb hb K=>by
  have a:V1.w.heap[b]? = V0.w.heap[b]?:=hi.old b (by show b < V0.w.heap.size;rw [f];exact hb) λh=>h.elim (λh=>K ((T b).2 h)) λh=>h;rw [a,f]
 have l:∀b,V1.I b->S.J b\/V.w.heap.size<=b\/S.B b:=λb hb=>by
  rcases hi.iNew b hb with a|a|a|a
  ·exact .inl (by rw [<-e1];exact a)
  ·have a:V0.w.heap.size<=b:=a
   rw [f] at a;exact .inr (.inl a)
  ·exact .inr (.inr ((T b).2 a))
  ·exact a.elim
 have A:∀b,Dd V1 (H.st s') b->V.w.heap.size<=b\/S.B b:=λb ⟨id,o,Z,Y,X⟩=>by
  rcases hi.live id o Z Y b X with a|a|a
  ·have a:V0.w.heap.size<=b:=a
   rw [f] at a;exact .inl a
  ·exact .inr ((T b).2 a)
  ·exact a.elim
 have e:Ext V { V with I:=λb=>V.I b\/V1.I b,w:=V1.w } := ⟨λ_ h=>.inl h,λb hb=>d b (c.iLt b hb) λh=>c.hid.bi b h hb,z,λ_ _=>rfl,λ_ _=>rfl,λ_ _=>Iff.rfl,i7 _⟩
 refine⟨{ V with I:=λb=>V.I b\/V1.I b,w:=V1.w },v,x,[],rfl,rfl,⟨?_,?_,?_,λb hb Q=>d b hb λh=>Q (.inr h),λb hb=>?_,λb hb=>?_,e,DC,λid o ho=>(by cases ho),λy p=>⟨.inl (c.tabs y p).1,?_⟩,⟨⟨Dd V1 (H.st s'),V1.I⟩,⟨?_,λb hb=>.inr hb,λb hb q=>?_,λb ⟨_,_,h,_⟩=>by cases h⟩,λb hb=>?_,λb hb=>?_⟩⟩,Tn M G,rfl⟩
 ·have a:V1.w.os=V0.w.os:=hi.os
  rw [f] at a;exact a
 ·have a:V1.w.tape=V0.w.tape:=hi.tape
  rw [f] at a;exact a
 ·have a:V1.w.output=V0.w.output:=hi.output
  rw [f] at a;exact a
 ·rcases hb with hb|hb
  ·exact kH (c.iLt b hb) z
  ·exact hi.iLt b hb
 ·rcases hb with hb|hb
  ·exact .inl hb
  ·rcases l b hb with a|a|a
   ·exact .inl (c.hid.ji b a)
   ·exact .inr (.inl a)
   ·exact .inr (.inr (.inr a))
 ·exact(d _ (c.iLt _ (c.tabs y p).1) λh=>c.hid.bi _ h (c.tabs y p).1).trans (c.tabs y p).2
 ·exact⟨s',V1,rfl,rfl,K,hi.st,⟨by rw [K,<-e3];exact n0,by rw [<-t];exact hi.ext.ρ 0 oy,λh=>u ((hi.ext.nl 0 oy).1 h),λy p=>hi.ext.i _ (tb y p)⟩,λ_=>Iff.rfl⟩
 ·have R:=hb
  obtain⟨id,o,Z,Y,X⟩:=hb
  rcases q with q|q
  ·rcases A b R with a|a
   ·have:=c.iLt b q;omega
   ·exact c.hid.bi b a q
  ·exact hi.st.free id o Z Y b X q
 ·rcases l b hb with a|a|a
  ·exact .inl a
  ·exact .inr (.inl a)
  ·exact .inr (.inr (.inr a))
 ·rcases A b hb with a|a
  ·exact .inl a
  ·exact .inr (.inr a)
inductive CH (i r:Nat):C->C->Prop
 | Bo {c:C}:CH i r c c
 | ptr {k:Nat}:CH i r (.ptr i k 0 0) (JC r)
 | mv {gg:FuncId} {k:Nat}:CH i r (.mv gg [.ptr i k 0 0]) (.mv gg [JC r])
theorem CH.rel{V:View}{i r:Nat}(l:V.ρ i=r){c c':C}{v:Value}(h:CH i r c c')(a:Az V c v):Az V c' v:=by
 have hp:∀ {k:Nat} {v:Value},Az V (.ptr i k 0 0) v->Az V (JC r) v:=λ{k v} a=>by
  cases a with
  | ptr f e=>rw [lW,l];exact .d (.v rfl)
 cases h with
 | Bo=>exact a
 | ptr=>exact hp a
 | mv =>
  cases a with
  | mv f e=>
   refine .mv (by rw [f];rfl) λj c v b g=>?_
   match j with
   | 0=>injection b with b;subst b;exact hp (e 0 _ v rfl g)
   | j+1=>simp at b
inductive LH (i r:Nat):List C->List C->Prop
 | nil:LH i r [] []
 | cons {c c':C} {l l':List C}:CH i r c c'->LH i r l l'->LH i r (c::l) (c'::l')
theorem LH.len{i r:Nat}{l l':List C}(h:LH i r l l'):l'.length=l.length:=by
 induction h with
 | nil=>rfl
 | cons _ _ a=>simp [a]
theorem LH.get{i r:Nat}{l l':List C}(h:LH i r l l'):∀(j:Nat) c',l'[j]? = some c'->∃c,l[j]? = some c/\CH i r c c':=by
 induction h with
 | nil=>intro j c' h;simp at h
 | @cons f e cs cs' d _ b=>
  intro j c' a
  cases j with
  | zero=>simp at a;subst a;exact⟨f,rfl,d⟩
  | succ j=>exact b j c' (by simpa using a)
inductive EH (i r:Nat):E->E->Prop
 | Bo {e:E}:EH i r e e
 | o {c c':C}:CH i r c c'->EH i r (.o c) (.o c')
 | a {l l':List C}:LH i r l l'->EH i r (.a l) (.a l')
theorem EH.rel{V:View}{i r:Nat}(d:V.ρ i=r){e e':E}{v:Value}(h:EH i r e e')(b:A4 V e v):A4 V e' v:=by
 cases h with
 | Bo=>exact b
 | o h=>exact h.rel d b
 | a h=>
  obtain⟨vs,p,n,m⟩:=b;refine⟨vs,p,by rw [n,h.len],λj c v g f=>?_⟩;obtain⟨q,l,k⟩:=h.get j c g;exact k.rel d (m j q v l f)
def WX(i r:Nat)(f:Env):List (Nat×E)->Prop
 | []=>True
 | (t,e')::L=>(∃e,f t=some e/\EH i r e e')/\WX i r f L
theorem WX.get{i r:Nat}{f:Env}:∀ {L:List (Nat×E)},WX i r f L->∀t e',look L t=some e'->∃e,f t=some e/\EH i r e e'
 | [],_,t,e,h=>by cases h
 | (k,x)::L,a,t,e,h=>by
  rw [Av] at h;by_cases hk:k=t
  ·rw [if_pos hk] at h;injection h with h;subst h;subst hk;exact a.1
  ·rw [if_neg hk] at h;exact WX.get a.2 t e h
def fB(i r:Nat)(l:List Nat)(σ:Ab):Ab->Prop
 | []=>True
 | (id,o')::S=>(id∉l/\(look σ id=some o'\/∃T k rw rw',o'=.cells T k [rw']/\look σ id=some (.cells T k [rw])/\LH i r rw rw'))/\fB i r l σ S
theorem fB.get{i r:Nat}{l:List Nat}{σ:Ab}:∀ {S:Ab},fB i r l σ S->∀id o',look S id=some o'->id∉l/\(look σ id=some o'\/∃T k rw rw',o'=.cells T k [rw']/\look σ id=some (.cells T k [rw])/\LH i r rw rw')
 | [],_,id,o,h=>by cases h
 | (k,x)::L,a,id,o,h=>by
  rw [Av] at h;by_cases hk:k=id
  ·rw [if_pos hk] at h;injection h with h;subst h;subst hk;exact a.1
  ·rw [if_neg hk] at h;exact fB.get a.2 id o h
section
variable {P:Program}{tabs:List (Nat×Obj)}{Γ:Ctx}{N:Nat}{σ:Ab}
theorem Inv.forget{TB:Bp}{J:Nat->Prop}{V:View}(h:Inv TB ⟨Γ.V,Γ.F,J⟩ V σ):Inv ⟨TB.tabs,none⟩ Γ V σ:=
 ⟨h.os,h.tape,h.output,h.old,h.iLt,h.iNew,h.ext,h.st,h.live,h.tabs,⟨⟨λ_=>False,λ_=>False⟩,⟨λ_ h=>h,λ_ h=>h.elim,λ_ h=>h.elim,λ_ _ h=>h⟩,λ_ h=>h.elim,λ_ h=>h.elim⟩⟩
theorem Aj.dy{c:Code}{Q:Exit->Env->Ab->Nat->Prop}{f:Env}{nx:Nat}(H:Hid)(s:H.S)(i:Nat)(l:List Nat)(L:Nat->List (Nat×E))(S:Nat->Ab)(G:(i::l).Nodup)(hln:(i::l).length=H.nx)(X:AT (nm (i::l) nx) σ (H.st s))(h0:∃T k r rs,look (H.st s) 0=some (.cells T k (r::rs)))
 (hE:∀r,WX i r f (L r)) (M:∀r,fB i r (i::l) σ (S r)) (h:∀r Γ',Γ'.V=Γ.V->Aj P ⟨tabs,some (H,r)⟩ Γ' N c Q (look (L r)) (S r) nx):Aj P ⟨tabs,none⟩ Γ N c Q f σ nx:=by
 intro V a Z;have hi:=Z.inv;have hnx:=Z.nx;subst hnx;have hrn:∀id,nm (i::l) V.nx id < V.nx->id < (i::l).length:=λid=>OJ;have n:∀id o,look (H.st s) id=some o->id < (i::l).length:=λid o g=>hrn id (hi.st.lt _ _ (X.get id o g))
 have hmem:∀id o,look (H.st s) id=some o->nm (i::l) V.nx id∈i::l:=λid o g=>by
  rw [EG (n id o g)];exact lm _
 have R:Gj (V.AV (nm (i::l) V.nx) (i::l).length) (H.st s):=by
  refine⟨λid o g=>Cb.AV hrn (hi.st.obj _ _ (X.get id o g)),n,λid o g A b hb=>hi.st.free _ _ (X.get id o g) A b (BS.1 hb),?_⟩;intro id id' o o' g w B A hnl' b hb K;refine hi.st.inj _ _ _ _ (X.get id o g) (X.get id' o' w) ?_ A hnl' b (BS.1 hb) (BS.1 K);have u:=n id o g;have h4:=n id' o' w;rw [EG u,EG h4];intro he;have hp:=kO.1 G
  rcases mD B with d|d
  ·exact hp _ _ u h4 d he
  ·exact hp _ _ h4 u d he.symm
 have hnl0:¬V.nl i:=by
  obtain⟨T,k,r,rs,d⟩:=h0
  rcases R.obj 0 _ d with ⟨_,p⟩|⟨p,_⟩
  ·cases p
  ·exact p
 have m:∀id o,look (S (V.ρ i)) id=some o->∃q,look σ id=some q/\∀b,DL V id o b->DL V id q b:=λid o g=>by
  obtain⟨_,d|⟨T,k,rw,rw',rfl,d,_⟩⟩:=(M (V.ρ i)).get id o g
  ·exact⟨o,d,λ_ h=>h⟩
  ·exact⟨_,d,λ_ h=>h⟩
 have hinv : Inv ⟨tabs,some (H,V.ρ i)⟩ ⟨Γ.V,Γ.F,λ_=>True⟩ V (S (V.ρ i)):=by
  refine⟨hi.os,hi.tape,hi.output,hi.old,hi.iLt,hi.iNew,hi.ext,⟨λid o g=>?_,λid o g=>?_,λid o g G b hb=>?_,λid id' o o' g w B G hn' b hb K=>?_⟩,λid o g G b hb=>?_,hi.tabs,⟨⟨Dd (V.AV (nm (i::l) V.nx) (i::l).length) (H.st s),V.I⟩,⟨?_,λ_ h=>h,λb hb hI=>?_,λb hb hB=>?_⟩,λ_ _=>.inl True.intro,λb hb=>?_⟩⟩
  ·obtain⟨_,d|⟨T,k,rw,rw',rfl,d,p⟩⟩:=(M (V.ρ i)).get id o g
   ·exact hi.st.obj id o d
   ·rcases hi.st.obj id _ d with ⟨_,h7⟩|⟨Y,cur,h2,u,h4,h7,h8,h9⟩
    ·cases h7
    ·refine .inr ⟨Y,cur,h2,u,h4,h7,λx z=>?_,λi' x j c' J hj=>?_⟩
     ·simp at z;subst z;rw [p.len];exact h8 rw (by simp)
     ·have hi0:i'=0:=by have:=(am.1 J).1;simp at this;omega
      subst hi0;simp at J;subst J;obtain⟨c,hc,hf⟩:=p.get j c' hj;obtain⟨v,h10,h11⟩:=h9 0 rw j c rfl hc;exact⟨v,h10,hf.rel rfl h11⟩
  ·obtain⟨q,d,_⟩:=m id o g;exact hi.st.lt id q d
  ·obtain⟨q,d,p⟩:=m id o g;exact hi.st.free id q d G b (p b hb)
  ·obtain⟨q,d,p⟩:=m id o g
   obtain⟨o0',h5',h6'⟩:=m id' o' w;exact hi.st.inj id id' q o0' d h5' B G hn' b (p b hb) (h6' b K)
  ·obtain⟨q,d,p⟩:=m id o g;exact hi.live id q d G b (p b hb)
  ·exact⟨s,V.AV (nm (i::l) V.nx) (i::l).length,rfl,rfl,hln,R,⟨Nat.succ_pos _,rfl,hnl0,λx z=>(hi.tabs x z).1⟩,λ_=>Iff.rfl⟩
  ·obtain⟨id,o,g1,g2,g3⟩:=hb;exact R.free id o g1 g2 b g3 hI
  ·obtain⟨id,o,g1,g2,g3⟩:=hB
   obtain⟨id',o',k1,k2,k3⟩:=hb;obtain⟨q,d,p⟩:=m id' o' k1;have hnm:=((M (V.ρ i)).get id' o' k1).1;exact hi.st.inj id' _ q _ d (X.get id o g1) (λe=>hnm (by rw [e];exact hmem id o g1)) k2 g2 b (p b k3) (BS.1 g3)
  ·obtain⟨id,o,g1,g2,g3⟩:=hb;exact hi.live _ _ (X.get id o g1) g2 b (BS.1 g3)
 have hst:BV ⟨tabs,some (H,V.ρ i)⟩ ⟨Γ.V,Γ.F,λ_=>True⟩ N V (look (L (V.ρ i))) (S (V.ρ i)) V.nx a:=by
  refine⟨λt x z=>?_,λt x z=>?_,Z.size,hinv,rfl,Z.defers⟩
  ·obtain⟨y,Y,h2⟩:=(hE (V.ρ i)).get t x z
   exact h2.rel rfl (Z.env t y Y)
  ·obtain⟨y,Y,_⟩:=(hE (V.ρ i)).get t x z
   exact Z.lt t y Y
 refine wp_mono (h (V.ρ i) ⟨Γ.V,Γ.F,λ_=>True⟩ rfl V a hst) ?_;rintro e a' w' ⟨V',f',σ',Y,h2,u⟩;exact⟨V',f',σ',Y,h2,⟨u.env,u.lt,u.size,Inv.forget u.inv,u.nx,u.defers⟩⟩
end
end Go.Am
