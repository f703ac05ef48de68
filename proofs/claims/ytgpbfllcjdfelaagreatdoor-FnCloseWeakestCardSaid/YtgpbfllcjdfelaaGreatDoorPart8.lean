/-
  make, literals.
-/
import Derived.Test.YtgpbfllcjdfelaaGreatDoorPart7
import Derived.Laws.IdiomStrings
import Derived.ChangeKeysEq
set_option linter.all false
namespace Go.Am
open Go
def OZ(V:View)(place:Nat->Option (Nat×Nat)):List (Nat×Value)->List (Nat×List C)->Prop
 | [],[]=>True
 | (i,v)::ps,(off,cs)::qs=>place i=some (off,cs.length)/\CU V cs v.cells/\OZ V place ps qs
 | _,_=>False
def BC:List (Nat×List C)->List C->List C
 | [],z=>z
 | (off,cs)::r,z=>BC r (Af z off cs)
theorem Iu:∀(l:List (Value×Nat)) (n off:Nat) (cells:Array Value),(∀(q:Nat) (x:Value×Nat),l[q]? = some x->x.2=n+q)->off+n+l.length<=cells.size->
 (l.foldl (λcs x=>cs.setIfInBounds (off+x.2) x.1) cells).size=cells.size/\
 ∀q,(l.foldl (λcs x=>cs.setIfInBounds (off+x.2) x.1) cells)[q]? = if off+n<=q/\q < off+n+l.length then (l[q - (off+n)]?).map (·.1) else cells[q]?
 | [],n,off,cells,_,_=>by
  refine⟨rfl,λq=>?_⟩;rw [if_neg (by simp)];rfl
 | x :: l,n,off,cells,c,d=>by
  have h:x.2=n:=by simpa using c 0 x rfl
  have b:=Iu l (n+1) off (cells.setIfInBounds (off+x.2) x.1) (λq y f=>by have:=c (q+1) y (by simpa using f);omega) (by simp at d |-;omega);simp only [mq];refine⟨by rw [b.1];simp,λq=>?_⟩;rw [b.2 q,h];simp only [k8] at d |-;by_cases e:off+n<=q/\q < off+n+(l.length+1)
  ·rw [if_pos e]
   by_cases g:q=off+n
   ·subst g
    rw [if_neg (by omega)]
    have a:off+n < cells.size:=by omega
    simp [a]
   ·rw [if_pos (by omega)]
    have:q - (off+n)=(q - (off+(n+1)))+1:=by omega
    rw [this];simp
  ·rw [if_neg e,if_neg (by omega)]
   rw [l4 (by omega)]
theorem Tr{V:View}{z cs:List C}{cells vc cells':Array Value}{off:Nat}(f:CU V z cells)(h:CU V cs vc)(k:off+cs.length<=z.length)(i:cells'.size=cells.size)
 (l:∀q,cells'[q]? = if off<=q/\q < off+cs.length then vc[q - off]? else cells[q]?):CU V (Af z off cs) cells':=by
 refine⟨by rw [i,f.1];simp [Af];omega,λj c v b a=>?_⟩;rw [l] at a;unfold Af at b
 have d:(z.take off++cs).length=off+cs.length:=by simp;omega
 have e:(z.take off).length=off:=by simp;omega
 by_cases m:j < off+cs.length
 ·rw [f9 (by rw [d];exact m)] at b
  by_cases g:j < off
  ·rw [f9 (by rw [e];exact g),kT,if_pos g] at b
   rw [if_neg (by omega)] at a;exact f.2 j c v b a
  ·rw [ge (by rw [e];omega),e] at b
   rw [if_pos (by omega)] at a;exact h.2 _ c v b a
 ·rw [ge (by rw [d];omega),d,kQ] at b
  rw [if_neg (by omega)] at a
  have:off+cs.length+(j - (off+cs.length))=j:=by omega
  rw [this] at b;exact f.2 j c v b a
theorem Ht(n:Nat):∀(qs:List (Nat×List C)),(qs.all λx=>Nat.ble (x.1+x.2.length) n)=true->∀x∈qs,x.1+x.2.length<=n:=by
 intro qs h x a;exact ce (f7.1 h x a)
theorem Fc{V:View}{place:Nat->Option (Nat×Nat)}:∀(ps:List (Nat×Value)) (qs:List (Nat×List C)) (z:List C) (cells:Array Value),OZ V place ps qs->CU V z cells->(∀x∈qs,x.1+x.2.length<=z.length)->
 ∃cells',Instr.fill place cells ps=some cells'/\CU V (BC qs z) cells'
 | [],[],z,cells,_,d,_=>⟨cells,rfl,d⟩
 | [],_::_,_,_,h,_,_=>h.elim
 | _::_,[],_,_,h,_,_=>h.elim
 | (i, v)::ps,(off,cs)::qs,z,cells,h,d,l=>by
  obtain⟨s,m,r⟩:=h;have c:off+cs.length<=z.length:=l (off,cs) (by simp);have b:=m.1
  have k:=Iu v.cells.zipIdx.toList 0 off cells (λq x e=>by
   have:=lE (xs:=v.cells.zipIdx) (i:=q);rw [this,Array.getElem?_zipIdx] at e;simp only [d6] at e;obtain⟨a,_,rfl⟩:=e
   simp) (by simp [b];rw [d.1];exact c)
  rw [Array.foldl_toList] at k
  have j:CU V (Af z off cs) (v.cells.zipIdx.foldl (λcs (x:Value×Nat)=>cs.setIfInBounds (off+x.2) x.1) cells):=by
   refine Tr d m c k.1 λq=>?_;rw [k.2 q]
   have n:v.cells.zipIdx.toList.length=cs.length:=by simp [b]
   rw [n,ol];by_cases g:off<=q/\q < off+cs.length
   ·rw [if_pos g,if_pos g,lE,Array.getElem?_zipIdx]
    cases v.cells[q - off]?<;>rfl
   ·rw [if_neg g,if_neg g]
  obtain⟨cells',p,o⟩:=Fc ps qs _ _ r j (λx e=>by
   have:=l x (by simp [e])
   have f:(Af z off cs).length=z.length:=by simp [Af];omega
   rw [f];exact this)
  refine⟨cells',?_,o⟩;unfold Instr.fill;rw [s]
  have hno:¬(v.cells.size≠cs.length || decide (off+v.cells.size > cells.size))=true:=by
   simp [b];rw [d.1];exact c
  simp only;rw [if_neg (by simpa using hno)];exact p
def HS(f:Env):List Operand->Option (List E)
 | []=>some []
 | x::l=>(ev f x).bind λe=>(HS f l).map (e :: ·)
def C3{U:Type}:Nat->List U->List (Nat×U)
 | _,[]=>[]
 | k,x::l=>(k,x)::C3 (k+1) l
def FV(k:Nat):Nat->List E->List (Nat×List C)
 | _,[]=>[]
 | i,e::l=>(i*k,eC e)::FV k (i+1) l
theorem Uc{f:Env}:∀ {l:List Operand} {es:List E},HS f l=some es->∀(j:Nat) (x:Operand) (e:E),l[j]? = some x->es[j]? = some e->ev f x=some e
 | [],es,h,j,x,e,a,_=>by simp at a
 | y::l,es,h,j,x,e,a,b=>by
  simp only [HS,kI,d6] at h;obtain⟨e',d,es',c,rfl⟩:=h
  cases j with
  | zero=>simp at a b;subst a b;exact d
  | succ j=>exact Uc c j x e (by simpa using a) (by simpa using b)
theorem Cv{f:Env}:∀ {l:List Operand} {es:List E},HS f l=some es->es.length=l.length
 | [],es,h=>by injection h with h;subst h;rfl
 | y::l,es,h=>by
  simp only [HS,kI,d6] at h;obtain⟨e',b,es',a,rfl⟩:=h;simp [Cv a]
theorem Mq(k:Nat):∀(es:List E) (i:Nat) (pre post:List C),pre.length=i*k->post.length=es.length*k->(∀e∈es,(eC e).length=k)->
 BC (FV k i es) (pre++post)=pre++(es.map eC).flatten
 | [],i,pre,post,_,hp,_=>by
  have:post=[]:=kJ.1 (by simpa using hp);subst this;simp [FV,BC]
 | e :: es,i,pre,post,b,d,hk=>by
  have a:=hk e (by simp);simp only [k8,kU,Nat.one_mul] at d
  have:Af (pre++post) (i*k) (eC e)=(pre++eC e)++post.drop k:=by
   unfold Af;rw [<-b,List.take_left,<-List.drop_drop,List.drop_left,a]
  simp only [FV,BC,this];rw [Mq k es (i+1) (pre++eC e) (post.drop k) (by simp [b,a,kU]) (by simp;omega) (λx c=>hk x (by simp [c]))];simp
section
variable {P:Program}{TB:Bp}{Γ:Ctx}{d:Option Tmp}{ty:TypeId}{pos:String}{af:Array Edge}{g:Option (Nat×Bool)}{f:Env}{σ:Ab}{nx:Nat}
variable {K:E->Ab->Nat->Prop}
theorem Hu{V:View}{k:Nat}:∀ {rows:List (List C)} {cur:Array Value},CU V rows.flatten cur->(∀r∈rows,r.length=k)->∀(i:Nat) (r:List C) (j:Nat) (c:C),rows[i]? = some r->r[j]? = some c->∃v,cur[i*k+j]? = some v/\Az V c v:=by
 intro rows cur h hk i r j c hi d
 have key:∀(rows:List (List C)) (i:Nat),(∀r∈rows,r.length=k)->rows[i]? = some r->rows.flatten[i*k+j]? = some c:=by
  intro rows
  induction rows with
  | nil=>intro i _ hi;simp at hi
  | cons f rows g=>
   intro i hk hi
   cases i with
   | zero=>
    simp at hi;subst hi;have a:=(am.1 d).1;rw [oc,lW,kG,f9 a];exact d
   | succ i=>
    have b:=hk f (by simp);rw [oc,ge (by rw [b,kU];omega),b]
    have:(i+1)*k+j - k=i*k+j:=by rw [kU];omega
    rw [this];exact g i (λr l=>hk r (by simp [l])) (by simpa using hi)
 have e:=key rows i hk hi
 have a:i*k+j < cur.size:=by rw [h.1];exact(am.1 e).1
 exact⟨cur[i*k+j],kK a,h.2 _ c _ e (kK a)⟩
theorem OY{V:View}{zv:Value}{z:List Value}{n:Nat}(d:zv.cells.toList=z)(o:z.all NK=true):CU V ((List.replicate n (z.map zC)).flatten) ((Array.range (n*z.length)).map (zv.cells[· % zv.cells.size]!)):=by
 have k:zv.cells.size=z.length:=by rw [<-d];simp
 refine⟨by simp [nT],λq c v f s=>?_⟩
 have b:q < n*z.length:=by
  have:=(am.1 f).1
  simpa [nT] using this
 have hk:0 < z.length:=by rcases lH z.length with r|r;(rw [r] at b;simp at b);exact r
 have a:q % z.length < z.length:=Nat.mod_lt _ hk
 have y : ((List.replicate n (z.map zC)).flatten)[q]? = some (zC z[q % z.length]):=by
  have u:q / z.length < n:=Nat.div_lt_of_lt_mul (by rw [mx];exact b)
  have key:∀(n i j:Nat),i < n->j < z.length->((List.replicate n (z.map zC)).flatten)[i*z.length+j]? = some (zC (z[j]?.getD undef)):=by
   intro n
   induction n with
   | zero=>intro i j h;omega
   | succ n t=>
    intro i j hi p;rw [mB,oc]
    cases i with
    | zero=>rw [lW,kG,f9 (by simpa using p)];simp [p]
    | succ i=>
     rw [ge (by simp [kU];omega)]
     have:(i+1)*z.length+j - (z.map zC).length=i*z.length+j:=by simp [kU];omega
     rw [this];exact t i j (by omega) p
  have:=key n (q / z.length) (q % z.length) u a
  have e:q / z.length*z.length+q % z.length=q:=by rw [mx];exact Nat.div_add_mod q _
  rw [e] at this;rw [this];simp [a]
 rw [y] at f
 injection f with f
 subst f
 have x:v=z[q % z.length]:=by
  simp only [Array.getElem?_map,d6] at s;obtain⟨q',m,rfl⟩:=s
  have l:q'=q:=by
   have:=kM.1 m;obtain⟨A,w⟩:=this
   simpa using w.symm
  subst l
  have g:q' % zv.cells.size < zv.cells.size:=by rw [k];exact a
  rw [getElem!_pos zv.cells _ g];subst d;simp
 rw [x];exact IZ (f7.1 o _ (lm a))
theorem Hd{t:TypeId}{z:List Value}(h:WT P t=some z):∃i zv,P.info? t=some i/\i.zero=some zv/\zv.cells.toList=z:=by
 simp only [WT,kI,d6] at h;obtain⟨i,hi,zv,b,a⟩:=h;exact⟨i,zv,hi,b,a⟩
theorem RB{V:View}(h:Inv TB Γ V σ){e:TypeId}{k c:Nat}{rows:List (List C)}{cur:Array Value}{w:World}(hw:w=V.w.alloc (.cells cur e))(f:cur.size=c*k)(d:rows.length<=c)(g:c<=maxLen)(hk:∀r∈rows,r.length=k)
 (o:∀(i:Nat) (r:List C) (j:Nat) (c:C),rows[i]? = some r->r[j]? = some c->∃v,cur[i*k+j]? = some v/\Az V c v) :
 Inv TB Γ (Al V V.w.heap.size c False w) ((V.nx,.cells e k rows)::σ)/\Ext V (Al V V.w.heap.size c False w)/\Az (Al V V.w.heap.size c False w) (.arr V.nx k 0 rows.length) (.slice (some ⟨V.w.heap.size,0,none⟩) rows.length c):=by
 subst hw;have ee:Ext V (Al V V.w.heap.size c False (V.w.alloc (.cells cur e))):=DS (by simp) λb hb=>AZ _ _ _ (h.iLt b hb)
 have l:(Al V V.w.heap.size c False (V.w.alloc (.cells cur e))).ρ V.nx=V.w.heap.size:=by simp [Al]
 have a:(Al V V.w.heap.size c False (V.w.alloc (.cells cur e))).cap V.nx=c:=by simp [Al]
 have m:=h.alloc (c:=c) (nl:=False) (w:=V.w.alloc (.cells cur e)) (ob:=.cells e k rows) rfl rfl rfl rfl (by simp) (λb hb=>AZ _ _ _ hb) (.inr ⟨by simp [Al],cur,by rw [l];exact BW _ _,by rw [a];exact f,by rw [a];exact d,by rw [a];exact g,hk,
  λi r j c hi n=>let ⟨v,q,p⟩:=o i r j c hi n;⟨v,q,p.ext ee⟩⟩)
 refine⟨m.1,m.2,?_⟩;have:=@Az.arr (Al V V.w.heap.size c False (V.w.alloc (.cells cur e))) V.nx k 0 rows.length (by simp [Al]) (by simp [Al]) (by rw [a];omega);rw [l,a,lW,oq] at this;exact this
theorem IS{t e:TypeId}{k b:Nat}{z:List Value}{x y:Operand}{ik ik':IntKind}{n c:Int}[hl:Ci P t e k b][hz:BM P e z](hx:ev f x=some (eI ik n))(hy:ev f y=some (eI ik' c))(a:z.length=k)(I:z.all NK=true)(hb0:0 < b)
 (h0:0<=n) (hnc:n<=c) (hc:c*b<=140737488355328) (hK:K (.o (.arr nx k 0 n.toNat)) ((nx,.cells e k (List.replicate n.toNat (z.map zC)))::σ) (nx+1)):BZ P TB Γ ⟨d,.makeSlice t x y,ty,pos,af,g⟩ f σ nx K:=
 Db λV ρ S h2 h3=>by
  subst h3;obtain⟨i,hu,hi,p,u⟩:=Fq hl.out;obtain⟨i',zv,h,A,m⟩:=Hd hz.out
  rw [hi] at h;injection h with h;subst h
  have G:ρ x=.int ik n:=Az.val (S.get (by simp [Op.operands]) hx);have F:ρ y=.int ik' c:=Az.val (S.get (by simp [Op.operands]) hy)
  have Q:0<=c:=by omega
  have hcb:c<=c*b:=by
   have:=Int.mul_le_mul_of_nonneg_left (show (1:Int)<=(b:Int) by omega) Q;omega
  have wn:IntKind.i64.wrap n=n:=IntWalk.i64_in n (by omega);have wc:IntKind.i64.wrap c=c:=IntWalk.i64_in c (by omega)
  have Z:zv.cells.size=k:=by rw [<-a,<-m];simp
  let cur:Array Value:=(Array.range (c.toNat*z.length)).map (zv.cells[· % zv.cells.size]!)
  have B:=OY (V:=V) (n:=c.toNat) m I
  have q:∀r∈List.replicate c.toNat (z.map zC),r.length=k:=λr H=>by rw [List.eq_of_mem_replicate H];simp [a]
  obtain⟨L,M,s⟩:=RB h2 (e:=e) (k:=k) (c:=c.toNat) (rows:=List.replicate n.toNat (z.map zC)) (cur:=cur) rfl (by simp [cur,a]) (by simp;omega) (by unfold maxLen;omega) (λr H=>by rw [List.eq_of_mem_replicate H];simp [a])
   (λi r j cc hi hj=>Hu B q i r j cc (by
    rw [nA] at hi |-;split at hi
    ·rw [if_pos (by omega)];exact hi
    ·cases hi) hj)
  rw [List.length_replicate] at s;refine⟨.slice (some ⟨V.w.heap.size,0,none⟩) n.toNat c.toNat,_,_,_,?_,M,L,(show A4 _ (.o _) _ from s),hK⟩
  have R:(b:Int)*c<=140737488355328:=by rw [Int.mul_comm];exact hc
  have ht:¬(281474976710656:Int) < (b:Int)*c:=by omega
  show ((do let v <-Instr.makeSlice t (ρ x) (ρ y);pure (Go.Next.value v):Sem Go.Next)).run P V.w=_
  rw [G,F]
  have J:(Instr.makeSlice t (.int ik n) (.int ik' c)).run P V.w=.ok (.slice (some ⟨V.w.heap.size,0,none⟩) n.toNat c.toNat) (V.w.alloc (.cells cur e)):=by
   have Y:¬c < 0:=by omega
   have X:¬n < 0:=by omega
   have T:¬c < n:=by omega
   simp only [Instr.makeSlice,kL,run_underlying hu,kF,asInt,asIntOf,pure_bind,bind_pure_comp,map_pure,typeInfo,sizeOf,wn,wc];by_cases l:c.toNat*k=0
   ·have N:cur = #[]:=by
     have:cur.size=0:=by simp [cur,a,l]
     exact l5 this
    simp [go_sem,hi,u,p,Y,X,T,ht,askRoom,l,newRow,newObj,N];rfl
   ·simp [go_sem,hi,u,p,Y,X,T,ht,askRoom,l,newRow,newObj,zeroValue,typeInfo,A,cur,a]
    rfl
  simp only [kL,J,kF];rfl
theorem Lb{U β:Type}(h:U->β):∀(l:List U) (k:Nat),(C3 k l).map (λx=>(x.1,h x.2))=C3 k (l.map h)
 | [],_=>rfl
 | x::l,k=>by simp [C3,Lb h l (k+1)]
theorem KS{V:View}{size:Nat}{ρ:Operand->Value}:∀(l:List Operand) (es:List E) (i:Nat),(∀x∈l,∀e,ev f x=some e->A4 V e (ρ x))->HS f l=some es->(∀e∈es,Qs e=true)->(∀e∈es,(eC e).length=size)->
 OZ V (λi=>some (i*size,size)) (C3 i (l.map ρ)) (FV size i es)
 | [],es,i,_,h,_,_=>by injection h with h;subst h;trivial
 | x::l,es,i,a,h,c,hk=>by
  simp only [HS,kI,d6] at h;obtain⟨e',j,es',g,rfl⟩:=h;refine⟨?_,Mn (c e' (by simp)) (a x (by simp) e' j),KS l es' (i+1) (λx d=>a x (by simp [d])) g (λe b=>c e (by simp [b])) (λe b=>hk e (by simp [b]))⟩;rw [hk e' (by simp)]
theorem MS(k:Nat):∀(es:List E) (i n:Nat),(∀e∈es,(eC e).length=k)->i+es.length<=n->∀x∈FV k i es,x.1+x.2.length<=n*k
 | [],_,_,_,_,x,h=>by simp [FV] at h
 | e :: es,i,n,hk,a,x,h=>by
  simp only [FV,kw] at h;simp only [k8] at a
  rcases h with rfl|h
  ·simp only [hk e (by simp)]
   have:=kY k (show i+1<=n by omega);rw [kU] at this;omega
  ·exact MS k es (i+1) n (λe b=>hk e (by simp [b])) (by omega) x h
theorem Nm{t e:TypeId}{k b:Nat}{z:List Value}(X:eJ P t=some (e,k,b))(R:WT P e=some z)(c:z.length=k)(H:z.all NK=true){xs:List Operand}{es:List E}{V:View}{ρ:Operand->Value}(B:∀x∈xs,∀e,ev f x=some e->A4 V e (ρ x))
 (u:HS f xs=some es) (T:es.all Qs=true) (hk:∀x∈es,(eC x).length=k) (Y:xs.length*k<=16777216) :
 ∃cur,(Instr.buildSlice t xs.length ((C3 0 xs).toArray.map λ(i,x)=>(i,ρ x))).run P V.w=.ok (.slice (some ⟨V.w.heap.size,0,none⟩) xs.length xs.length) (V.w.alloc (.cells cur e))/\cur.size=xs.length*k/\CU V (es.map eC).flatten cur:=by
 obtain⟨i,S,hi,s,_⟩:=Fq X;obtain⟨i',zv,j,F,o⟩:=Hd R
 rw [hi] at j;injection j with j;subst j
 have Q:zv.cells.size=k:=by rw [<-c,<-o];simp
 have v:=Cv u;have I:=KS (size:=k) xs es 0 B u (λx r=>f7.1 T x r) hk;have G:=OY (V:=V) (n:=xs.length) o H
 have p:((List.replicate xs.length (z.map zC)).flatten).length=xs.length*k:=by simp [nT,c]
 obtain⟨cur,A,J⟩:=Fc _ _ _ _ I G (λx r=>by rw [p];exact MS k es 0 xs.length hk (by omega) x r);have M:=Mq k es 0 [] ((List.replicate xs.length (z.map zC)).flatten) (by simp) (by rw [p,v]) hk;simp only [mn] at M;rw [M] at J;refine⟨cur,?_,?_,J⟩
 ·have d:((C3 0 xs).toArray.map λ(i,x)=>(i,ρ x)).toList=C3 0 (xs.map ρ):=by
   rw [<-Lb];simp
  have L:¬2 ^ 24 < xs.length*k:=by
   have:(2:Nat) ^ 24=16777216:=by decide
   omega
  simp only [Instr.buildSlice,kL,run_underlying S,kF,sizeOf,typeInfo,bind_pure_comp]
  have y:¬16777216 < xs.length*k:=by omega
  have m:=d;simp only [oo] at m;by_cases K:xs.length*k=0
  ·have q:∀g:Nat->Value,Array.map g (Array.range (xs.length*k)) = #[]:=λg=>l5 (by simp [K])
   rw [c,q] at A;simp [go_sem,hi,s,newRow,newObj,y,q,m];rw [if_pos K,A];rfl
  ·rw [c] at A
   unfold Value.cells at A;simp [go_sem,hi,s,K,y,newRow,newObj,zeroValue,typeInfo,F,m];rw [A];rfl
 ·rw [J.1]
  have:∀l:List E,(∀x∈l,(eC x).length=k)->(l.map eC).flatten.length=l.length*k:=by
   intro l
   induction l with
   | nil=>simp
   | cons a l N=>intro h;simp [N (λx r=>h x (by simp [r])),h a (by simp),kU,mQ]
  rw [this es hk,v]
end
abbrev eT(l:List UInt8):E:=.o (.d (.v (.string ⟨l.toArray⟩)))
def NC:List E->Option (List (List D))
 | []=>some []
 | e::l=>(Oe (eC e)).bind λr=>(NC l).map (r :: ·)
theorem ND:∀ {l:List E} {rows:List (List D)},NC l=some rows->rows.length=l.length/\∀(i:Nat) (r:List D),rows[i]? = some r->∃e,l[i]? = some e/\Oe (eC e)=some r
 | [],rows,h=>by injection h with h;subst h;exact⟨rfl,λi r hi=>by simp at hi⟩
 | e::l,rows,h=>by
  simp only [NC,kI,d6] at h;obtain⟨g,f,rows',d,rfl⟩:=h;have a:=ND d;refine⟨by simp [a.1],λi r hi=>?_⟩
  cases i with
  | zero=>simp at hi;subst hi;exact⟨e,rfl,f⟩
  | succ i=>obtain⟨e',c,b⟩:=a.2 i r (by simpa using hi);exact⟨e',by simpa using c,b⟩
def fX(P:Program)(t:TypeId):Option (List (Nat×Nat)):=match P.underlying t with
 | some (.struct fs)=>fs.toList.mapM λf=>(P.info? f.type).map λi=>(f.offset,i.size)
 | some (.array n e)=>(P.info? e).map λi=>(List.range n).map λj=>(j*i.size,i.size)
 | _=>none
class Eu (P:Program) (t:TypeId) (fl:outParam (List (Nat×Nat))):Prop where
 out:fX P t=some fl
def Ey(fl:List (Nat×Nat)):List (Nat×Operand)->List E->Option (List (Nat×List C))
 | [],[]=>some []
 | (i,_)::ps,e::es=>match fl[i]? with
  | some (off,size)=>bif Nat.beq (eC e).length size && Qs e then (Ey fl ps es).map ((off,eC e) :: ·) else none
  | none=>none
 | _,_=>none
section
variable {P:Program}{TB:Bp}{Γ:Ctx}{d:Option Tmp}{ty:TypeId}{pos:String}{af:Array Edge}{g:Option (Nat×Bool)}{f:Env}{σ:Ab}{nx:Nat}
variable {K:E->Ab->Nat->Prop}
theorem Hb{t e:TypeId}{k b n:Nat}{z:List Value}{parts:Array (Nat×Operand)}(y:eJ P t=some (e,k,b))(q:WT P e=some z)(j:z.length=k)(m:z.all NK=true){es:List E}{V:View}{ρ:Operand->Value}(h:KL V ⟨d,.buildSlice t n parts,ty,pos,af,g⟩ f ρ)
 (hp:C3 0 (parts.toList.map (·.2))=parts.toList) (u:parts.toList.length=n) (o:HS f (parts.toList.map (·.2))=some es) (s:es.all Qs=true) (hk:∀x∈es,(eC x).length=k) (l:n*k<=16777216) :
 ∃cur,(execOp ρ ⟨d,.buildSlice t n parts,ty,pos,af,g⟩).run P V.w=.ok (.value (.slice (some ⟨V.w.heap.size,0,none⟩) n n)) (V.w.alloc (.cells cur e))/\cur.size=n*k/\CU V (es.map eC).flatten cur:=by
 have a:(parts.toList.map (·.2)).length=n:=by simpa using u
 obtain⟨cur,c,p,B⟩:=Nm (P:=P) (f:=f) (V:=V) (xs:=parts.toList.map (·.2)) (ρ:=ρ) y q j m (λx r e A=>h.get (by simp only [Op.operands];simpa using r) A) o s hk (by rw [a];exact l);rw [a] at c p;refine⟨cur,?_,p,B⟩;rw [hp] at c
 show ((do let v <-Instr.buildSlice t n (parts.map λ(i,x)=>(i,ρ x));pure (Go.Next.value v):Sem Go.Next)).run P V.w=_
 rw [Array.toArray_toList] at c;simp only [kL,c,kF];rfl
theorem Na{t e:TypeId}{k b n:Nat}{z:List Value}{parts:Array (Nat×Operand)}{es:List E}{rows:List (List D)}[Z:Ci P t e k b][T:BM P e z](hp:C3 0 (parts.toList.map (·.2))=parts.toList)(N:parts.toList.length=n)
 (A:HS f (parts.toList.map (·.2))=some es) (Y:es.all Qs=true) (G:NC es=some rows) (hk:(rows.all λr=>Nat.beq r.length k)=true) (F:z.length=k) (H:z.all NK=true) (K:Nat.ble 1 k=true) (p:Nat.ble (n*k) 16777216=true) :
 AU P TB Γ ⟨d,.buildSlice t n parts,ty,pos,af,g⟩ f σ nx (.o (.d (.l rows))):=
 KA λV ρ h1 h2=>by
  have c:=ND G
  have s:∀x∈es,(eC x).length=k:=λx X=>by
   obtain⟨i,hi,rfl⟩:=lw X
   have y:i < rows.length:=by omega
   obtain⟨e',m,S⟩:=c.2 i rows[i] (d7 y);rw [d7 hi] at m
   injection m with m
   rw [m,<-Lg S];exact gt (f7.1 hk _ (lm y))
  obtain⟨cur,m,S,h5⟩:=Hb Z.out T.out F H h1 hp N A Y s (ce p);obtain⟨hi,Q⟩:=h2.Xj (w:=V.w.alloc (.cells cur e)) rfl rfl rfl (by simp) (λb hb=>AZ _ _ _ hb)
  have q:rows.length=n:=by
   rw [c.1,Cv A];simpa using N
  have a:∀(i:Nat) (r:List D) (j:Nat) (x:D),rows[i]? = some r->r[j]? = some x->∃v,cur[i*k+j]? = some v/\C5 V.I V.w x v:=λi r j x hi u=>by
   obtain⟨e',B,M⟩:=c.2 i r hi;have h8:=JK M j x u
   obtain⟨v,R,h⟩:=Hu h5 (λr G=>by
    obtain⟨e2,L,rfl⟩:=d8.1 G
    exact s e2 L) i (eC e') j (.d x) (by simp [B]) h8
   cases h with
   | d h=>exact⟨v,R,h⟩
  have J:n<=maxLen:=by
   have R:=ce p;have:n<=n*k:=lU _ (ce K);unfold maxLen;omega
  refine⟨_,_,m,Q,hi,rfl,?_⟩;have hb:(Pq V (V.w.alloc (.cells cur e))).I V.w.heap.size:=.inr rfl;have hh:(Pq V (V.w.alloc (.cells cur e))).w.heap[V.w.heap.size]? = some (.cells cur e):=BW _ _;have := @C5.l (Pq V (V.w.alloc (.cells cur e))).I (Pq V (V.w.alloc (.cells cur e))).w rows V.w.heap.size 0 k n (λi j=>cur.getD (i*k+j) undef) hb (by omega) J
   (λi r hi=>gt (f7.1 hk _ (co hi)))
   (λi r j x hi u=>by
    obtain⟨v,B,_⟩:=a i r j x hi u
    simp [World.cell?,hh,B])
   (λi r j x hi u=>by
    obtain⟨v,B,M⟩:=a i r j x hi u
    have:cur.getD (i*k+j) undef=v:=by simp [B]
    rw [this];exact M.ext Q)
  rw [q] at this;exact .d this
theorem Bg{t e:TypeId}{k b n:Nat}{z:List Value}{parts:Array (Nat×Operand)}{es:List E}[G:Ci P t e k b][A:BM P e z](hp:C3 0 (parts.toList.map (·.2))=parts.toList)(w:parts.toList.length=n)
 (l:HS f (parts.toList.map (·.2))=some es) (F:es.all Qs=true) (j:∀x∈es,(eC x).length=k) (m:z.length=k) (p:z.all NK=true) (s:Nat.ble 1 k=true) (a:Nat.ble (n*k) 16777216=true)
 (I:K (.o (.arr nx k 0 n)) ((nx,.cells e k (es.map eC))::σ) (nx+1)):BZ P TB Γ ⟨d,.buildSlice t n parts,ty,pos,af,g⟩ f σ nx K:=
 Db λV ρ N M v=>by
  subst v;obtain⟨cur,v,L,J⟩:=Hb G.out A.out m p N hp w l F j (ce a)
  have i:(es.map eC).length=n:=by
   rw [gc,Cv l];simpa using w
  have q:n<=maxLen:=by
   have R:=ce a;have:n<=n*k:=lU _ (ce s);unfold maxLen;omega
  have h:∀r∈es.map eC,r.length=k:=λr B=>by
   obtain⟨Q,u,rfl⟩:=d8.1 B;exact j Q u
  obtain⟨hi,H,y⟩:=RB M (e:=e) (k:=k) (c:=n) (rows:=es.map eC) (cur:=cur) rfl L (by omega) q h (Hu J h);rw [i] at y;exact⟨_,_,_,_,v,H,hi,(show A4 _ (.o _) _ from y),I⟩
theorem CY{V:View}{ρ:Operand->Value}{fl:List (Nat×Nat)}:∀(ps:List (Nat×Operand)) (es:List E) (qs:List (Nat×List C)),(∀x∈ps.map (·.2),∀e,ev f x=some e->A4 V e (ρ x))->HS f (ps.map (·.2))=some es->Ey fl ps es=some qs->
 OZ V (fl[·]?) (ps.map λ(i,x)=>(i,ρ x)) qs
 | [],es,qs,_,a,h=>by
  injection a with a;subst a
  injection h with h;subst h;trivial
 | (i, x)::ps,es,qs,b,a,h=>by
  simp only [lA,HS,kI,d6] at a;obtain⟨e',k,es',j,rfl⟩:=a;simp only [Ey] at h;split at h
  ·rename_i off size c
   cases hb:Nat.beq (eC e').length size && Qs e'
   ·rw [hb] at h;cases h
   ·rw [hb] at h
    simp only [cond_true,d6] at h;obtain⟨qs',g,rfl⟩:=h;rw [d5] at hb;have:=gt hb.1;subst this;exact⟨c,Mn hb.2 (b x (by simp) e' k),CY ps es' qs' (λy d=>b y (by simp at d |-;exact .inr d)) j g⟩
  ·cases h
theorem AG{t:TypeId}{z:List Value}{fl:List (Nat×Nat)}{parts:Array (Nat×Operand)}{es:List E}{qs:List (Nat×List C)}[Y:BM P t z][hf:Eu P t fl](R:HS f (parts.toList.map (·.2))=some es)(Z:Ey fl parts.toList es=some qs)
 (M:z.all NK=true) (N:(qs.all λx=>Nat.ble (x.1+x.2.length) z.length)=true):AU P TB Γ ⟨d,.build t parts,ty,pos,af,g⟩ f σ nx (.a (BC qs (z.map zC))):=
 AF λV ρ h1 _=>by
  obtain⟨i,zv,hi,A,s⟩:=Hd Y.out;have Q:=CY (V:=V) (ρ:=ρ) parts.toList es qs (λx J e he=>h1.get (by simp only [Op.operands];simpa using J) he) R Z
  have I:CU V (z.map zC) zv.cells:=by
   refine⟨by rw [gc,<-s];simp,λj c v T S=>?_⟩;simp only [d9,d6] at T;obtain⟨u,k,rfl⟩:=T
   have:u=v:=by
    rw [<-s] at k;simp only [lE] at k;rw [k] at S;exact Option.some.inj S
   subst this;exact IZ (f7.1 M u (co k))
  obtain⟨cells,G,h4⟩:=Fc _ _ _ _ Q I (λx J=>by rw [gc];exact Ht _ _ N x J);have r:=hf.out
  have b:(parts.map λ(i,x)=>(i,ρ x)).toList=parts.toList.map λ(i,x)=>(i,ρ x):=by simp
  refine⟨.agg cells,?_,cells,rfl,h4⟩
  have hb : (Instr.build t (parts.map λ(i,x)=>(i,ρ x))).run P V.w=.ok (.agg cells) V.w:=by
   unfold fX at r;split at r
   ·rename_i fs k
    have L:∀(l:List Field) (ll:List (Nat×Nat)),(l.mapM λf=>(P.info? f.type).map λi=>(f.offset,i.size))=some ll->∀w,((l.mapM λf=>do pure (f.offset,<-sizeOf f.type)):Sem (List (Nat×Nat))).run P w=.ok ll w:=by
     intro l
     induction l with
     | nil=>intro ll h w;simp at h;subst h;simp [go_sem]
     | cons y l H=>
      intro ll h w;simp only [mt,nU,kI,d6] at h;obtain⟨p,⟨ii,o,rfl⟩,ll',h5,X⟩:=h;simp at X;subst X
      have K:(sizeOf y.type).run P w=.ok ii.size w:=by simp [sizeOf,typeInfo,o,go_sem]
      have ihh:=H ll' h5 w;simp only [bind_pure_comp] at ihh;simp only [mt,kL,K,kF,bind_pure_comp,mJ,ihh]
    have B:=L fs.toList fl r V.w
    have m:(zeroValue t).run P V.w=.ok zv V.w:=by simp [zeroValue,typeInfo,hi,A,go_sem]
    have ha:((fs.mapM λf=>do pure (f.offset,<-sizeOf f.type)):Sem (Array (Nat×Nat))).run P V.w=.ok fl.toArray V.w:=by
     rw [nj,mJ,B];rfl
    rw [<-b] at G;simp only [Instr.build,kL,m,kF,run_underlying k,ha];simp only [lI];rw [G];rfl
   ·rename_i n e k
    simp only [d6] at r;obtain⟨ii,o,rfl⟩:=r
    have m:(zeroValue t).run P V.w=.ok zv V.w:=by simp [zeroValue,typeInfo,hi,A,go_sem]
    have K:(sizeOf e).run P V.w=.ok ii.size V.w:=by simp [sizeOf,typeInfo,o,go_sem]
    have q:∀(ps:List (Nat×Value)) (c c':Array Value),Instr.fill (λi=>((List.range n).map λj=>(j*ii.size,ii.size))[i]?) c ps=some c'->Instr.fill (λi=>some (i*ii.size,ii.size)) c ps=some c':=by
     intro ps
     induction ps with
     | nil=>intro c c' h;simpa [Instr.fill] using h
     | cons p ps H=>
      intro c c' h;obtain⟨i',v'⟩:=p;unfold Instr.fill at h |-;by_cases F:i' < n
      ·simp only [d9,mC F,lu] at h
       simp only at h |-;split at h
       ·cases h
       ·rename_i hno
        rw [if_neg hno];exact H _ _ (by simpa only [d9] using h)
      ·simp [F] at h
    rw [<-b] at G;simp only [Instr.build,kL,m,kF,run_underlying k,K];rw [q _ _ _ G];rfl
   ·cases r
  show ((do let v <-Instr.build t (parts.map λ(i,x)=>(i,ρ x));pure (Go.Next.value v):Sem Go.Next)).run P V.w=_
  simp only [kL,hb,kF];rfl
theorem Js(k e:Nat)(i:K (.o (.arr nx k 0 0)) ((nx,.cells e k [])::σ) (nx+1)):BZ P TB Γ ⟨d,.assign (.const (.slice none 0 0)),ty,pos,af,g⟩ f σ nx K:=by
 intro V a m l j;subst j;obtain⟨hi,h⟩:=l.alloc (c:=0) (nl:=True) (w:=V.w) (ob:=.cells e k []) rfl rfl rfl rfl (i7 _) (λ_ _=>rfl) (.inl ⟨by simp [Al],rfl⟩);unfold Oper.wp
 have b:(execOp a.eval ⟨d,.assign (.const (.slice none 0 0)),ty,pos,af,g⟩).run P V.w=.ok (.value (.slice none 0 0)) V.w:=by simp [execOp,go_sem]
 rw [b];exact⟨Al V V.w.heap.size 0 True V.w,.slice none 0 0,.o (.arr V.nx k 0 0),_,rfl,rfl,h,hi,Az.nil (by simp [Al]) (by simp [Al]),i⟩
theorem eo{t:TypeId}{x:Operand}{s:List UInt8}[b:CK P t](a:ev f x=some (eT s)):AU P TB Γ ⟨d,.call ⟨.builtin .len,#[x],#[t]⟩,ty,pos,af,g⟩ f σ nx (eI .i64 s.length):=by
 have:=en (t:=t) (P:=P) (TB:=TB) (Γ:=Γ) (d:=d) (ty:=ty) (pos:=pos) (af:=af) (g:=g) (σ:=σ) (nx:=nx) a;exact this
theorem Y9{t:TypeId}{x y:Operand}{s:List UInt8}{n:Int}{c:UInt8}{ik:IntKind}[j:CK P t](e:ev f x=some (eT s))(b:ev f y=some (eI ik n))
 (i:0<=n) (h:s[n.toNat]? = some c):AU P TB Γ ⟨d,.index t x y,ty,pos,af,g⟩ f σ nx (eI .u8 (c.toNat:Int)):=by
 obtain⟨a,rfl⟩:=am.1 h;exact Y8 (P:=P) (TB:=TB) (Γ:=Γ) (d:=d) (ty:=ty) (pos:=pos) (af:=af) (g:=g) (σ:=σ) (nx:=nx) e b i a
theorem cJ{t yt:TypeId}{x y:Operand}{a b:List UInt8}(e:ev f x=some (eT a))(c:ev f y=some (eT b))(j:a.length+b.length<=9223372036854775807) :
 AU P TB Γ ⟨d,.binOp .add t x y yt,ty,pos,af,g⟩ f σ nx (eT (a++b)):=BB e c rfl λw=>by
 have i:¬((((⟨a.toArray⟩:ByteArray).size+(⟨b.toArray⟩:ByteArray).size:Nat):Int) > IntKind.i64.max):=by
  have:IntKind.i64.max=9223372036854775807:=by decide
  have l:(⟨a.toArray⟩:ByteArray).size=a.length:=by simp [ByteArray.size]
  have k:(⟨b.toArray⟩:ByteArray).size=b.length:=by simp [ByteArray.size]
  omega
 have h:(⟨a.toArray⟩:ByteArray)++⟨b.toArray⟩=⟨(a++b).toArray⟩:=by
  apply ByteArray.ext;simp
 have:(do eqGuard .add t x y (.string ⟨a.toArray⟩) (.string ⟨b.toArray⟩);binOp .add t (.string ⟨a.toArray⟩) (.string ⟨b.toArray⟩):Sem Value)=Op.stringOp .add ⟨a.toArray⟩ ⟨b.toArray⟩:=by
  simp [eqGuard,binOp]
 rw [this];unfold Op.stringOp;simp only;rw [if_neg i,h];rfl
theorem gH{t yt:TypeId}{x y:Operand}{a b:List UInt8}(e:ev f x=some (eT a))(c:ev f y=some (eT b)) :
 AU P TB Γ ⟨d,.binOp .eql t x y yt,ty,pos,af,g⟩ f σ nx (eB (decide (a=b))):=BB e c rfl λw=>by
 simp [eqGuard,binOp,Op.stringOp,go_sem];rw [lV];simp
theorem gV{t yt:TypeId}{x y:Operand}{a b:List UInt8}(e:ev f x=some (eT a))(c:ev f y=some (eT b)) :
 AU P TB Γ ⟨d,.binOp .neq t x y yt,ty,pos,af,g⟩ f σ nx (eB (decide (a≠b))):=BB e c rfl λw=>by
 simp [eqGuard,binOp,Op.stringOp,go_sem];rw [lV];simp
end
def C.iQ:C->Bool
 | .d (.v _)=>true
 | _=>false
def E.sc:E->Bool
 | .o c=>c.iQ
 | .a cs=>cs.all C.iQ
 | .t xs=>xs.all λx=>x.2.all C.iQ
 | .e=>true
theorem JF{V V':View}{c:C}{v:Value}(h:Az V c v)(a:c.iQ=true):Az V' c v:=by
 cases h with
 | d h=>cases h with
  | v b=>exact .d (.v b)
  | _=>cases a
 | _=>cases a
theorem Tn{V V':View}{e:E}{v:Value}(h:A4 V e v)(l:e.sc=true):A4 V' e v:=by
 cases e with
 | e=>exact h
 | o c=>exact JF h l
 | a cs=>
  obtain⟨vs,m,k⟩:=h;exact⟨vs,m,k.1,λj c v d f=>JF (k.2 j c v d f) (f7.1 l c (co d))⟩
 | t xs=>
  obtain⟨vs,m,k,q⟩:=h;refine⟨vs,m,k,λj x v d f=>?_⟩;have p:=q j x v d f;have n:=f7.1 l x (co d);obtain⟨b,cs⟩:=x;cases b
  ·obtain⟨c,g,i⟩:=p
   have g:cs=[c]:=g;subst g;exact⟨c,rfl,JF i (f7.1 n c (by simp))⟩
  ·obtain⟨ws,g,i⟩:=p
   exact⟨ws,g,i.1,λj c v d f=>JF (i.2 j c v d f) (f7.1 n c (co d))⟩
inductive CV (σ:Ab):C->C->Prop
 | pure {c:C}:c.Bz=true->CV σ c c
 | arr {id k off len:Nat} {T:TypeId} {rows:List (List C)} {ds:List (List D)}:look σ id=some (.cells T k rows)->off+len<=rows.length->(rows.drop off).take len=ds.map (λr=>r.map .d)->CV σ (.arr id k off len) (.d (.l ds))
 | ptr {id k i j:Nat} {T:TypeId} {rows:List (List C)} {r:List C} {ds:List D}:look σ id=some (.cells T k rows)->rows[i]? = some r->r.drop j=ds.map .d->CV σ (.ptr id k i j) (.ip ds)
inductive EV (σ:Ab):E->E->Prop
 | o {c c':C}:CV σ c c'->EV σ (.o c) (.o c')
 | nil:EV σ (.a []) (.a [])
 | cons {c c':C} {cs cs':List C}:CV σ c c'->EV σ (.a cs) (.a cs')->EV σ (.a (c::cs)) (.a (c'::cs'))
inductive cQ (σ:Ab):List E->List E->Prop
 | nil:cQ σ [] []
 | cons {e e':E} {es es':List E}:EV σ e e'->cQ σ es es'->cQ σ (e::es) (e'::es')
def Gz(V:View)(σ:Ab):View:={ V with I:=λb=>V.I b\/∃id o,look σ id=some o/\¬V.nl id/\DL V id o b,nx:=0 }
section
variable {P:Program}{TB:Bp}{Γ:Ctx}{d:Option Tmp}{ty:TypeId}{pos:String}{af:Array Edge}{g:Option (Nat×Bool)}{f:Env}{σ:Ab}{nx:Nat}
variable {K:E->Ab->Nat->Prop}
theorem Az.gk{V:View}{c:C}{v:Value}(h:Az V c v)(hp:c.Bz=true):Az (Gz V σ) c v:=by
 induction h with
 | d h=>exact .d (h.mono (λ_ h=>.inl h) λ_ _=>rfl)
 | nil=>simp [C.Bz] at hp
 | arr=>simp [C.Bz] at hp
 | ptr=>simp [C.Bz] at hp
 | fn f _ b=>
  simp only [C.Bz] at hp;exact .fn f λj c v a e=>b j c v a e (Ez _ hp j c a)
 | mp=>simp [C.Bz] at hp
 | mv f _ b=>
  simp only [C.Bz] at hp;exact .mv f λj c v a e=>b j c v a e (Ez _ hp j c a)
theorem C5.gj{V:View}{x:D}{v:Value}(h:C5 V.I V.w x v):C5 (Gz V σ).I (Gz V σ).w x v:=h.mono (λ_ h=>.inl h) λ_ _=>rfl
theorem CV.rel{V:View}(hi:Inv TB Γ V σ){c c':C}{v:Value}(h:CV σ c c')(F:Az V c v):Az (Gz V σ) c' v:=by
 cases h with
 | pure hp=>exact F.gk hp
 | @arr id k off len T rows ds z L u=>
  cases F with
  | nil K J=>
   have:ds=[]:=by
    have:=congrArg List.length u;simp at this;exact kJ.1 this.symm
   subst this;exact .d .nil
  | arr K p J=>
   rcases hi.st.obj id _ z with ⟨t,_⟩|⟨_,cur,t,P,N,M,H,G⟩
   ·exact absurd t p
   ·have y:ds.length=len:=by
     have:=congrArg List.length u;simp at this;omega
    have m:∀(i:Nat) (r:List D),ds[i]? = some r->rows[off+i]? = some (r.map .d):=λi r hi=>by
     have n:((rows.drop off).take len)[i]? = some (r.map .d):=by rw [u];simp [hi]
     rw [kT] at n;split at n
     ·rwa [kQ] at n
     ·cases n
    have a:∀(i:Nat) (r:List D) (j:Nat) (x:D),ds[i]? = some r->r[j]? = some x->∃v,cur[(off+i)*k+j]? = some v/\C5 V.I V.w x v:=λi r j x hi A=>by
     obtain⟨v,g,f⟩:=G (off+i) (r.map .d) j (.d x) (m i r hi) (by simp [A])
     cases f with
     | d f=>exact⟨v,g,f⟩
    rw [<-y] at J |-;refine .d (.l (b:=V.ρ id) (o:=off*k) (k:=k) (vs:=λi j=>cur.getD ((off+i)*k+j) undef) (.inr ⟨id,_,z,p,rfl⟩) (by omega) (by omega) (λi r hi=>?_) (λi r j x hi A=>?_) (λi r j x hi A=>?_))
    ·have:=H _ (co (m i r hi))
     simpa using this
    ·obtain⟨v,g,_⟩:=a i r j x hi A
     have e:off*k+i*k+j=(off+i)*k+j:=by rw [kU]
     rw [e];have:(Gz V σ).w.heap[V.ρ id]? = some (.cells cur T):=t;simp [World.cell?,this,g]
    ·obtain⟨v,g,f⟩:=a i r j x hi A
     have:cur.getD ((off+i)*k+j) undef=v:=by simp [g]
     simp only [this];exact f.gj
 | @ptr id k i j T rows r ds z B u=>
  cases F with
  | ptr K p=>
   rcases hi.st.obj id _ z with ⟨t,_⟩|⟨_,cur,t,P,N,M,H,G⟩
   ·exact absurd t p
   ·have m:∀(q:Nat) (x:D),ds[q]? = some x->r[j+q]? = some (.d x):=λq x s=>by
     have n:(r.drop j)[q]? = some (.d x):=by rw [u];simp [s]
     rwa [kQ] at n
    have a:∀(q:Nat) (x:D),ds[q]? = some x->∃v,cur[i*k+j+q]? = some v/\C5 V.I V.w x v:=λq x s=>by
     obtain⟨v,g,f⟩:=G i r (j+q) (.d x) B (m q x s)
     cases f with
     | d f=>exact⟨v,by rw [lp];exact g,f⟩
    refine .ip (V:=Gz V σ) (vs:=λq=>cur.getD (i*k+j+q) undef) (.inr ⟨id,_,z,p,rfl⟩) (λq x s=>?_) (λq x s=>?_)
    ·obtain⟨v,g,_⟩:=a q x s
     have:(Gz V σ).w.heap[V.ρ id]? = some (.cells cur T):=t;simp [World.cell?,this,g]
    ·obtain⟨v,g,f⟩:=a q x s
     have:cur.getD (i*k+j+q) undef=v:=by simp [g]
     simp only [this];exact f.gj
theorem EV.rel{V:View}(hi:Inv TB Γ V σ){e e':E}(h:EV σ e e'):∀ {v:Value},A4 V e v->A4 (Gz V σ) e' v:=by
 have key:∀ {e e':E},EV σ e e'->(∀c c',e=.o c->e'=.o c'->CV σ c c')/\(∀cs cs',e=.a cs->e'=.a cs'->cs.length=cs'.length/\∀(j:Nat) c c',cs[j]? = some c->cs'[j]? = some c'->CV σ c c')/\((∃c c',e=.o c/\e'=.o c')\/∃cs cs',e=.a cs/\e'=.a cs'):=by
  intro e e' h
  induction h with
  | o k=>exact⟨λc c' d b=>(by injection d with d;injection b with b;subst d b;exact k),λ_ _ h=>(by cases h),.inl ⟨_,_,rfl,rfl⟩⟩
  | nil=>exact⟨λ_ _ h=>(by cases h),λcs cs' d b=>(by injection d with d;injection b with b;subst d b;exact⟨rfl,λj c c' f=>(by simp at f)⟩),.inr ⟨_,_,rfl,rfl⟩⟩
  | cons k _ s=>
   refine⟨λ_ _ h=>(by cases h),λcs cs' d b=>?_,.inr ⟨_,_,rfl,rfl⟩⟩
   injection d with d;injection b with b;subst d b
   have:=s.2.1 _ _ rfl rfl;refine⟨by simp [this.1],λj c c' f g=>?_⟩
   cases j with
   | zero=>simp at f g;subst f g;exact k
   | succ j=>exact this.2 j c c' (by simpa using f) (by simpa using g)
 intro v m;obtain⟨r,q,p⟩:=key h
 rcases p with ⟨c,c',rfl,rfl⟩|⟨cs,cs',rfl,rfl⟩
 ·exact(r c c' rfl rfl).rel hi m
 ·obtain⟨vs,rfl,d,b⟩:=m
  obtain⟨l,n⟩:=q cs cs' rfl rfl;refine⟨vs,rfl,by rw [d,l],λj c' u f t=>?_⟩
  have i:j < cs.length:=by rw [l];exact(am.1 f).1
  exact(n j cs[j] c' (d7 i) f).rel hi (b j _ u (d7 i) t)
theorem Jc{x:Operand}{args:Array Operand}{tys:Array TypeId}{gg:FuncId}{vs:Array Value}(f:WZ P gg){ρ:Operand->Value}(e:ρ x=.func (.func gg) #[] vs)(w:World) :
 (execOp ρ ⟨d,.call ⟨.value x,args,tys⟩,ty,pos,af,g⟩).run P w=.ok (.enter gg (args.map ρ++vs)) w:=by
 obtain⟨fn,i,h,b⟩:=f
 have hb:∃c,fn.body=some c:=by cases hb:fn.body with|none=>rw [hb] at b;cases b|some c=>exact⟨c,rfl⟩
 obtain⟨c,hb⟩:=hb;simp only [execOp,resolve,e,Deferred.ofValue,pure_bind,invoke,callFunc]
 have a:¬fn.name = "runtime.NumGoroutine" := by simpa using h
 simp [Sem.run,program,i,a,hb,go_sem]
theorem Gp{V:View}{ρ:Operand->Value}{args:List Operand}{es:List E}(h:∀x∈args,∀e,ev f x=some e->A4 V e (ρ x))(a:HS f args=some es) :
 ∀(j:Nat) e v,es[j]? = some e->(args.map ρ)[j]? = some v->A4 V e v:=by
 intro j e v d c;simp only [d9,d6] at c;obtain⟨x,b,rfl⟩:=c;exact h x (co b) e (Uc a j x e b d)
theorem J8{V:View}{gg:FuncId}{cap:List C}{v:Value}(h:A4 V (.o (.fn gg cap)) v):∃vs,v=.func (.func gg) #[] vs/\CU V cap vs:=by
 have h:Az V (.fn gg cap) v:=h;generalize a:C.fn gg cap=c at h;cases h<;>cases a;rename_i vs d b;exact⟨vs,rfl,d,b⟩
theorem IA{V Vc V1:View}{S:P9}(h:Inv TB Γ V σ)(l:Lm TB V σ S)(v:∀b,S.J b->Γ.J b\/Γ.V.w.heap.size<=b\/Γ.F b)(j:∀b,S.B b->Γ.V.w.heap.size<=b\/Γ.F b)(hw:Vc.w=V.w){t:Ab}(p:Inv TB (ED Vc Vc [] S) V1 t)(I':Nat->Prop)(n:∀b,V.I b->I' b)(m:∀b,I' b->V.I b\/(V.w.heap.size<=b/\b < V1.w.heap.size)\/S.B b)
 (z:∀b,V1.I b->(V.w.heap.size<=b\/S.B b)->I' b) (y:∀b,I' b->V1.I b) :
 Inv TB Γ { V with I:=I',w:=V1.w } σ/\Ext V { V with I:=I',w:=V1.w } := by
 have d:∀b,b < V.w.heap.size->¬S.B b->V1.w.heap[b]? = V.w.heap[b]?:=λb hb g=>by
  have:=p.old b (by show b < Vc.w.heap.size;rw [hw];exact hb) (λh=>h.elim (λ⟨_,_,h,_⟩=>by cases h) g)
  rw [this];show Vc.w.heap[b]? = _;rw [hw]
 have k:V.w.heap.size<=V1.w.heap.size:=by have i:Vc.w.heap.size<=V1.w.heap.size:=p.ext.size;rw [hw] at i;exact i
 have e:Ext V { V with I:=I',w:=V1.w } := ⟨n,λb hb=>d b (h.iLt b hb) λq=>l.bi b q hb,k,λ_ _=>rfl,λ_ _=>rfl,λ_ _=>Iff.rfl,i7 _⟩
 refine⟨⟨?_,?_,?_,λb hb s=>(d b (kH hb h.ext.size) λq=>(j b q).elim (λh=>by omega) s).trans (h.old b hb s),?_,?_,h.ext.trans e,⟨?_,h.st.lt,?_,h.st.inj⟩,h.live,?_,?_⟩,e⟩
 ·have i:V1.w.os=Vc.w.os:=p.os
  rw [hw] at i;exact i.trans h.os
 ·have i:V1.w.tape=Vc.w.tape:=p.tape
  rw [hw] at i;exact i.trans h.tape
 ·have i:V1.w.output=Vc.w.output:=p.output
  rw [hw] at i;exact i.trans h.output
 ·intro b hb
  rcases m b hb with a|a|a
  ·exact kH (h.iLt b a) k
  ·exact a.2
  ·exact kH (l.r.blt a) k
 ·intro b hb
  rcases m b hb with a|a|a
  ·exact h.iNew b a
  ·exact .inr (.inl (i9 h.ext.size a.1))
  ·exact .inr (j b a)
 ·intro id o f
  exact(h.st.obj id o f).Bo e (h.st.lt id o f) λg b hb=>d _ ((h.st.obj id o f).blt g hb) (l.ap b ⟨id,o,f,g,hb⟩)
 ·intro id o f g b c hb
  have c:=(AB e (h.st.lt id o f)).1 c
  rcases m _ hb with a|a|a
  ·exact h.st.free id o f g b c a
  ·have:=(h.st.obj id o f).blt g c
   have M:V.w.heap.size<=b:=a.1;omega
  ·exact l.ap b ⟨id,o,f,g,c⟩ a
 ·intro x q
  have:=h.tabs x q;exact⟨n _ this.1,(d _ (h.iLt _ this.1) λL=>l.bi _ L this.1).trans this.2⟩
 ·obtain⟨S1,u,K,H⟩:=p.hid
  have G:∀b,S1.B b->V.w.heap.size<=b\/S.B b:=λb hb=>by
   rcases H b hb with a|a|a
   ·have a:Vc.w.heap.size<=b:=a
    rw [hw] at a;exact .inl a
   ·obtain⟨_,_,h,_⟩:=a;cases h
   ·exact .inr a
  have A:∀b,S1.J b->S.J b\/V.w.heap.size<=b\/S.B b:=λb hb=>by
   rcases K b hb with a|a|a|a
   ·exact .inl a
   ·have a:Vc.w.heap.size<=b:=a
    rw [hw] at a;exact .inr (.inl a)
   ·obtain⟨_,_,h,_⟩:=a;cases h
   ·exact .inr (.inr a)
  refine⟨S1,⟨u.r,λb hb=>?_,λb hb hi=>u.bi b hb (y b hi),λb s hb=>?_⟩,λb hb=>?_,λb hb=>?_⟩
  ·rcases A b hb with a|a
   ·exact n b (l.ji b a)
   ·exact z b (u.ji b hb) a
  ·obtain⟨id,o,f,g,c⟩:=Hv e h.st.lt s
   rcases G b hb with a|a
   ·have:=(h.st.obj id o f).blt g c
    omega
   ·exact l.ap b ⟨id,o,f,g,c⟩ a
  ·rcases A b hb with a|a|a
   ·exact v b a
   ·exact .inr (.inl (i9 h.ext.size a))
   ·exact .inr (j b a)
  ·rcases G b hb with a|a
   ·exact .inl (i9 h.ext.size a)
   ·exact j b a
theorem DC{V:View}:Gj V []:=⟨λ_ _ h=>(by cases h),λ_ _ h=>(by cases h),λ_ _ h=>(by cases h),λ_ _ _ _ h=>(by cases h)⟩
theorem Bu{x:Operand}{args:Array Operand}{tys:Array TypeId}{gg:FuncId}{cap:List C}{es:List E}{r:E}(R:ev f x=some (.o (.fn gg cap)))(t:HS f args.toList=some es)(hp:(es.all E.Bz && C.CA cap)=true)
 (L:Pure P TB gg (es++cap.map .o) r) (T:r.Bz=true):AU P TB Γ ⟨d,.call ⟨.value x,args,tys⟩,ty,pos,af,g⟩ f σ nx r:=by
 intro V a z B Y;have z:=z.FO;unfold Oper.wp;generalize a.eval=ρ at z |-;obtain⟨vs,p,l⟩:=J8 (z.get (x:=x) (by simp [Op.operands,Call.operands]) R);rw [Jc L.1 p];rw [d5] at hp;have u:=Cv t
 have n:Lj { V with nx:=0 } (es++cap.map .o) (args.map ρ++vs):=by
  refine⟨by simp [l.1,u],λj e v q p=>?_⟩
  have m:(args.map ρ).size=es.length:=by simp [u]
  by_cases s:j < es.length
  ·rw [f9 s] at q
   rw [kS (by rw [m];exact s)] at p;refine A4.Bz (V:=V) (V':={ V with nx:=0 }) rfl rfl (Gp (λy Q e X=>z.get (by simp [Op.operands,Call.operands];right;simpa using Q) X) t j e v q (by rw [<-mA];simpa using p)) (f7.1 hp.1 e (co q))
  ·rw [ge (by omega)] at q
   rw [lM (by rw [m];omega),m] at p;simp only [d9,d6] at q;obtain⟨c,M,rfl⟩:=q;exact Az.Bz (V:=V) (V':={ V with nx:=0 }) rfl rfl (l.2 _ c v M p) (Ez _ hp.2 _ c M)
 obtain⟨S,A,J,K⟩:=B.hid;refine(L.2 { V with nx:=0 } _ S ⟨B.iLt,DC,B.tabs,rfl,⟨A.r,A.ji,A.bi,λb ⟨_,_,h,_⟩=>by cases h⟩⟩ n).mono ?_;rintro e w' ⟨V1,v,Z,N,rfl,rfl,k,F,rfl⟩
 obtain⟨G,H⟩:=IA B A J K (Vc:={ V with nx:=0 }) rfl k V1.I (λb hb=>k.ext.i b hb) (λb hb=>by
  rcases k.iNew b hb with h|h|h|h
  ·exact .inl h
  ·exact .inr (.inl ⟨h,k.iLt b hb⟩)
  ·obtain⟨_,_,h,_⟩:=h;cases h
  ·exact .inr (.inr h)) (λb hb _=>hb) (λb hb=>hb)
 exact⟨{ V with I:=V1.I,w:=V1.w },v,rfl,rfl,H,G,Y,A4.Bz (V:=V1) (V':={ V with I:=V1.I,w:=V1.w }) rfl rfl F T⟩
theorem JA{x:Operand}{args:Array Operand}{tys:Array TypeId}{gg:FuncId}{cap:List C}{es es':List E}{r:E}(H:ev f x=some (.o (.fn gg cap)))(K:HS f args.toList=some es)(q:cQ σ (es++cap.map .o) es')
 (hs:Pure P TB gg es' r) (hr:r.sc=true):AU P TB Γ ⟨d,.call ⟨.value x,args,tys⟩,ty,pos,af,g⟩ f σ nx r:=by
 intro V a G p h3;have G:=G.FO;unfold Oper.wp;generalize a.eval=ρ at G |-;obtain⟨vs,Q,t⟩:=J8 (G.get (x:=x) (by simp [Op.operands,Call.operands]) H);rw [Jc hs.1 Q];have L:=Cv K
 have n:Lj V (es++cap.map .o) (args.map ρ++vs):=by
  refine⟨by simp [t.1,L],λj e v m q=>?_⟩
  have u:(args.map ρ).size=es.length:=by simp [L]
  by_cases k:j < es.length
  ·rw [f9 k] at m
   rw [kS (by rw [u];exact k)] at q;exact Gp (λy hy e he=>G.get (by simp [Op.operands,Call.operands];right;simpa using hy) he) K j e v m (by rw [<-mA];simpa using q)
  ·rw [ge (by omega)] at m
   rw [lM (by rw [u];omega),u] at q;simp only [d9,d6] at m;obtain⟨c,hc,rfl⟩:=m;exact t.2 _ c v hc q
 have R:∀ {l l':List E},cQ σ l l'->l.length=l'.length/\∀(j:Nat) e e',l[j]? = some e->l'[j]? = some e'->EV σ e e':=by
  intro l l' h
  induction h with
  | nil=>exact⟨rfl,λj e e' m=>by simp at m⟩
  | cons h _ ih=>
   refine⟨by simp [ih.1],λj e e' m z=>?_⟩
   cases j with
   | zero=>simp at m z;subst m z;exact h
   | succ j=>exact ih.2 j e e' (by simpa using m) (by simpa using z)
 obtain⟨s,J⟩:=R q
 have F:Lj (Gz V σ) es' (args.map ρ++vs):=by
  refine⟨by rw [n.1,s],λj e v m q=>?_⟩
  have k:j < (es++cap.map E.o).length:=by rw [s];exact(am.1 m).1
  exact(J j _ e (d7 k) m).rel p (n.2 j _ v (d7 k) q)
 have k:∀b,(Gz V σ).I b->b < (Gz V σ).w.heap.size:=by
  rintro b (hb|⟨id,o,X,T,hb⟩)
  ·exact p.iLt b hb
  ·exact(p.st.obj id o X).blt T hb
 obtain⟨S,M,hSJ,hSB⟩:=p.hid;refine(hs.2 (Gz V σ) _ S ⟨k,DC,λx H=>⟨.inl (p.tabs x H).1,(p.tabs x H).2⟩,rfl,⟨M.r,λb hb=>.inl (M.ji b hb),λb hb hi=>hi.elim (M.bi b hb) λ⟨id,o,X,T,H⟩=>M.ap b ⟨id,o,X,T,H⟩ hb,λb ⟨_,_,h,_⟩=>by cases h⟩⟩ F).mono ?_;rintro e w' ⟨V1,v,x1,σ1,rfl,rfl,A,N,rfl⟩;obtain⟨Y,Z⟩:=IA p M hSJ hSB (Vc:=Gz V σ) rfl A (λb=>V.I b\/(V.w.heap.size<=b\/S.B b)/\V1.I b) (λb hb=>.inl hb) (λb hb=>hb.elim .inl λh=>.inr (h.1.elim (λg=>.inl ⟨g,A.iLt b h.2⟩) .inr)) (λb G p=>.inr ⟨p,G⟩) (λb hb=>hb.elim (λh=>A.ext.i b (.inl h)) λh=>h.2);exact⟨{ V with I:=λb=>V.I b\/(V.w.heap.size<=b\/S.B b)/\V1.I b,w:=V1.w },v,rfl,rfl,Z,Y,h3,Tn N hr⟩
end
def Cn:List Nat->Ab->Ab
 | [],σ=>σ
 | id::r,σ=>Cn r (kill id σ)
theorem Be:∀(ids:List Nat) (σ:Ab) (i:Nat) (o:O),look (Cn ids σ) i=some o->i∉ids/\look σ i=some o
 | [],σ,i,o,h=>⟨by simp,h⟩
 | id :: r,σ,i,o,h=>by
  obtain⟨b,a⟩:=Be r (kill id σ) i o h;rw [Ej] at a;by_cases hi:i=id
  ·rw [if_pos hi] at a;cases a
  ·rw [if_neg hi] at a
   exact⟨by simp [hi,b],a⟩
inductive FC (σ:Ab) (ids:List Nat):C->C->Prop
 | Bo {c:C}:FC σ ids c c
 | arr {id k off len:Nat} {T:TypeId} {rows:List (List C)} {ds:List (List D)}:id∈ids->look σ id=some (.cells T k rows)->off+len<=rows.length->(rows.drop off).take len=ds.map (λr=>r.map .d)->FC σ ids (.arr id k off len) (.d (.l ds))
 | ptr {id k i j:Nat} {T:TypeId} {rows:List (List C)} {r:List C} {ds:List D}:id∈ids->look σ id=some (.cells T k rows)->rows[i]? = some r->r.drop j=ds.map .d->FC σ ids (.ptr id k i j) (.ip ds)
inductive FE (σ:Ab) (ids:List Nat):E->E->Prop
 | Bo {e:E}:FE σ ids e e
 | o {c c':C}:FC σ ids c c'->FE σ ids (.o c) (.o c')
 | nil:FE σ ids (.a []) (.a [])
 | cons {c c':C} {cs cs':List C}:FC σ ids c c'->FE σ ids (.a cs) (.a cs')->FE σ ids (.a (c::cs)) (.a (c'::cs'))
def Dz(σ:Ab)(ids:List Nat)(f:Env):List (Nat×E)->Prop
 | []=>True
 | (t,e')::L=>(∃e,f t=some e/\FE σ ids e e')/\Dz σ ids f L
theorem Dz.get{σ:Ab}{ids:List Nat}{f:Env}:∀ {L:List (Nat×E)},Dz σ ids f L->∀t e',look L t=some e'->∃e,f t=some e/\FE σ ids e e'
 | [],_,t,e,h=>by cases h
 | (k,x)::L,a,t,e,h=>by
  rw [Av] at h;by_cases hk:k=t
  ·rw [if_pos hk] at h;injection h with h;subst h;subst hk;exact a.1
  ·rw [if_neg hk] at h;exact Dz.get a.2 t e h
def Kf(V:View)(σ:Ab)(ids:List Nat):View:={ V with I:=λb=>V.I b\/∃id o,id∈ids/\look σ id=some o/\¬V.nl id/\DL V id o b }
section
variable {P:Program}{TB:Bp}{Γ:Ctx}{N:Nat}{σ:Ab}
theorem LC{V:View}{ids:List Nat}:Ext V (Kf V σ ids):=⟨λ_ h=>.inl h,λ_ _=>rfl,i7 _,λ_ _=>rfl,λ_ _=>rfl,λ_ _=>Iff.rfl,i7 _⟩
theorem FC.rel{V:View}(hi:Inv TB Γ V σ){ids:List Nat}{c c':C}{v:Value}(h:FC σ ids c c')(G:Az V c v):Az (Kf V σ ids) c' v:=by
 have e:Ext V (Kf V σ ids):=LC
 cases h with
 | Bo=>exact G.ext e
 | @arr id k off len T rows ds F z M u=>
  cases G with
  | nil L K=>
   have:ds=[]:=by
    have:=congrArg List.length u;simp at this;exact kJ.1 this.symm
   subst this;exact .d .nil
  | arr L p K=>
   rcases hi.st.obj id _ z with ⟨t,_⟩|⟨_,cur,t,Q,P,N,J,H⟩
   ·exact absurd t p
   ·have y:ds.length=len:=by
     have:=congrArg List.length u;simp at this;omega
    have m:∀(i:Nat) (r:List D),ds[i]? = some r->rows[off+i]? = some (r.map .d):=λi r hi=>by
     have n:((rows.drop off).take len)[i]? = some (r.map .d):=by rw [u];simp [hi]
     rw [kT] at n;split at n
     ·rwa [kQ] at n
     ·cases n
    have a:∀(i:Nat) (r:List D) (j:Nat) (x:D),ds[i]? = some r->r[j]? = some x->∃v,cur[(off+i)*k+j]? = some v/\C5 V.I V.w x v:=λi r j x hi A=>by
     obtain⟨v,g,f⟩:=H (off+i) (r.map .d) j (.d x) (m i r hi) (by simp [A])
     cases f with
     | d f=>exact⟨v,g,f⟩
    rw [<-y] at K |-;refine .d (.l (b:=V.ρ id) (o:=off*k) (k:=k) (vs:=λi j=>cur.getD ((off+i)*k+j) undef) (.inr ⟨id,_,F,z,p,rfl⟩) (by omega) (by omega) (λi r hi=>?_) (λi r j x hi A=>?_) (λi r j x hi A=>?_))
    ·have:=J _ (co (m i r hi))
     simpa using this
    ·obtain⟨v,g,_⟩:=a i r j x hi A
     have e:off*k+i*k+j=(off+i)*k+j:=by rw [kU]
     rw [e];have:(Kf V σ ids).w.heap[V.ρ id]? = some (.cells cur T):=t;simp [World.cell?,this,g]
    ·obtain⟨v,g,f⟩:=a i r j x hi A
     have:cur.getD ((off+i)*k+j) undef=v:=by simp [g]
     simp only [this];exact f.ext e
 | @ptr id k i j T rows r ds F z B u=>
  cases G with
  | ptr L p=>
   rcases hi.st.obj id _ z with ⟨t,_⟩|⟨_,cur,t,Q,P,N,J,H⟩
   ·exact absurd t p
   ·have m:∀(q:Nat) (x:D),ds[q]? = some x->r[j+q]? = some (.d x):=λq x s=>by
     have n:(r.drop j)[q]? = some (.d x):=by rw [u];simp [s]
     rwa [kQ] at n
    have a:∀(q:Nat) (x:D),ds[q]? = some x->∃v,cur[i*k+j+q]? = some v/\C5 V.I V.w x v:=λq x s=>by
     obtain⟨v,g,f⟩:=H i r (j+q) (.d x) B (m q x s)
     cases f with
     | d f=>exact⟨v,by rw [lp];exact g,f⟩
    refine .ip (V:=Kf V σ ids) (vs:=λq=>cur.getD (i*k+j+q) undef) (.inr ⟨id,_,F,z,p,rfl⟩) (λq x s=>?_) (λq x s=>?_)
    ·obtain⟨v,g,_⟩:=a q x s
     have:(Kf V σ ids).w.heap[V.ρ id]? = some (.cells cur T):=t;simp [World.cell?,this,g]
    ·obtain⟨v,g,f⟩:=a q x s
     have:cur.getD (i*k+j+q) undef=v:=by simp [g]
     simp only [this];exact f.ext e
theorem FE.rel{V:View}(hi:Inv TB Γ V σ){ids:List Nat}{e e':E}(h:FE σ ids e e'):∀ {v:Value},A4 V e v->A4 (Kf V σ ids) e' v:=by
 induction h with
 | Bo=>intro v a;exact a.ext LC
 | o f=>intro v a;exact f.rel hi a
 | nil=>intro v a;obtain⟨vs,rfl,d,_⟩:=a;exact⟨vs,rfl,d,λj c v b=>by simp at b⟩
 | @cons c c' cs cs' f _ k=>
  rintro v ⟨vs,rfl,d,i⟩
  have l:0 < vs.size:=by rw [d];simp
  have ht:=@k (.agg (vs.extract 1 vs.size)) ⟨_,rfl,by simp [d],λj c v b a=>i (j+1) c v (by simpa using b) (by
   rw [nE] at a;split at a
   ·rw [mQ] at a;exact a
   ·cases a)⟩
  obtain⟨ws,g,p,n⟩:=ht
  injection g with g
  subst g;refine⟨vs,rfl,by simp at p |-;omega,λj q v b a=>?_⟩
  cases j with
  | zero=>
   simp at b;subst b;exact f.rel hi (i 0 c v (by simp) a)
  | succ j=>
   refine n j q v (by simpa using b) ?_;have m:=(kM.1 a).1;rw [nE,if_pos (by omega),mQ];exact a
theorem BV.freeze{V:View}{f:Env}{nx:Nat}{a:Act}(h:BV TB Γ N V f σ nx a)(ids:List Nat)(L:List (Nat×E))(r:Dz σ ids f L):BV TB Γ N (Kf V σ ids) (look L) (Cn ids σ) nx a:=by
 have e:Ext V (Kf V σ ids):=LC;refine⟨λt x l=>?_,λt x l=>?_,h.size,?_,h.nx,h.defers⟩
 ·obtain⟨y,n,g⟩:=r.get t x l
  exact g.rel h.inv (h.env t y n)
 ·obtain⟨y,n,_⟩:=r.get t x l
  exact h.lt t y n
 ·have hi:=h.inv
  refine⟨hi.os,hi.tape,hi.output,hi.old,?_,?_,hi.ext.trans e,⟨?_,?_,?_,?_⟩,?_,λx l=>⟨.inl (hi.tabs x l).1,(hi.tabs x l).2⟩,hi.hid.same rfl (λ_ h=>.inl h) (λb hb=>hb.elim .inl λ⟨id,o,_,c,d,q⟩=>.inr ⟨id,o,c,d,q⟩) λb ⟨id,o,c,d,hb⟩=>have g:=(Be ids σ id o c).2;⟨id,o,g,d,(AB e (hi.st.lt id o g)).1 hb⟩⟩
  ·rintro b (hb|⟨id,o,_,c,d,hb⟩)
   ·exact hi.iLt b hb
   ·exact(hi.st.obj id o c).blt d hb
  ·rintro b (hb|⟨id,o,_,c,d,hb⟩)
   ·exact hi.iNew b hb
   ·exact .inr (hi.live id o c d b hb)
  ·intro id o c
   have:=(Be ids σ id o c).2;exact(hi.st.obj id o this).Bo e (hi.st.lt id o this) λ_ _ _=>rfl
  ·intro id o c;exact hi.st.lt id o (Be ids σ id o c).2
  ·intro id o c d b i hb
   obtain⟨n,g⟩:=Be ids σ id o c;have i:=(AB e (hi.st.lt id o g)).1 i
   rcases hb with hb|⟨id',o',s,k,j,q⟩
   ·exact hi.st.free id o g d b i hb
   ·exact hi.st.inj id id' o o' g k (λe=>n (e ▸ s)) d j b i q
  ·intro id id' o o' c k p d j b hb i
   have g:=(Be ids σ id o c).2;have m:=(Be ids σ id' o' k).2;exact hi.st.inj id id' o o' g m p d j b ((AB e (hi.st.lt id o g)).1 hb) ((AB e (hi.st.lt id' o' m)).1 i)
  ·intro id o c d b hb
   have g:=(Be ids σ id o c).2;exact hi.live id o g d b ((AB e (hi.st.lt id o g)).1 hb)
theorem FC.full{ids:List Nat}{id k len:Nat}{T:TypeId}{rows:List (List C)}{ds:List (List D)}(c:id∈ids)(e:look σ id=some (.cells T k rows))(a:rows=ds.map (λr=>r.map .d))(b:rows.length=len):FC σ ids (.arr id k 0 len) (.d (.l ds)):=
 .arr c e (by omega) (by rw [mR,<-b,kz];exact a)
theorem CV.full{id k len:Nat}{T:TypeId}{rows:List (List C)}{ds:List (List D)}(c:look σ id=some (.cells T k rows))(a:rows=ds.map (λr=>r.map .d))(b:rows.length=len):CV σ (.arr id k 0 len) (.d (.l ds)):=
 .arr c (by omega) (by rw [mR,<-b,kz];exact a)
theorem Aj.freeze{c:Code}{Q:Exit->Env->Ab->Nat->Prop}{f:Env}{nx:Nat}(ids:List Nat)(L:List (Nat×E))(d:Dz σ ids f L)(h:Aj P TB Γ N c Q (look L) (Cn ids σ) nx):Aj P TB Γ N c Q f σ nx:=
 λV a b=>h (Kf V σ ids) a (b.freeze ids L d)
end
end Go.Am
