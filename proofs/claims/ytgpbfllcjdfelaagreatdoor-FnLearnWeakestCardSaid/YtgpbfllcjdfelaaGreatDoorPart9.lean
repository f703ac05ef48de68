/-
  make, literals.
-/
import Derived.Test.YtgpbfllcjdfelaaGreatDoorPart8
import Derived.Laws.IdiomStrings
import Derived.ChangeKeysEq
set_option linter.all false
namespace Go.Am
open Go
def P6(V:View)(place:Nat->Option (Nat×Nat)):List (Nat×Value)->List (Nat×List C)->Prop
 | [],[]=>True
 | (i,v)::ps,(off,cs)::qs=>place i=some (off,cs.length)/\C0 V cs v.cells/\P6 V place ps qs
 | _,_=>False
def Bb:List (Nat×List C)->List C->List C
 | [],z=>z
 | (off,cs)::r,z=>Bb r (Ae z off cs)
theorem IM:∀(l:List (Value×Nat)) (n off:Nat) (cells:Array Value),(∀(q:Nat) (x:Value×Nat),l[q]? = some x->x.2=n+q)->off+n+l.length<=cells.size->
 (l.foldl (λcs x=>cs.setIfInBounds (off+x.2) x.1) cells).size=cells.size/\
 ∀q,(l.foldl (λcs x=>cs.setIfInBounds (off+x.2) x.1) cells)[q]? = if off+n<=q/\q < off+n+l.length then (l[q - (off+n)]?).map (·.1) else cells[q]?
 | [],n,off,cells,_,_=>by
  refine⟨rfl,λq=>?_⟩;rw [if_neg (by simp)];rfl
 | x :: l,n,off,cells,c,d=>by
  have h:x.2=n:=by simpa using c 0 x rfl
  have b:=IM l (n+1) off (cells.setIfInBounds (off+x.2) x.1) (λq y f=>by have:=c (q+1) y (by simpa using f);omega) (by simp at d |-;omega);simp only [pF];refine⟨by rw [b.1];simp,λq=>?_⟩;rw [b.2 q,h];simp only [nB] at d |-;by_cases e:off+n<=q/\q < off+n+(l.length+1)
  ·rw [if_pos e]
   by_cases g:q=off+n
   ·subst g
    rw [if_neg (by omega)]
    have a:off+n < cells.size:=by omega
    simp [a]
   ·rw [if_pos (by omega)]
    have:q - (off+n)=(q - (off+(n+1)))+1:=by omega
    rw [this];simp
  ·rw [if_neg e,if_neg (by omega)]
   rw [oz (by omega)]
theorem U7{V:View}{z cs:List C}{cells vc cells':Array Value}{off:Nat}(f:C0 V z cells)(h:C0 V cs vc)(k:off+cs.length<=z.length)(i:cells'.size=cells.size)
 (l:∀q,cells'[q]? = if off<=q/\q < off+cs.length then vc[q - off]? else cells[q]?):C0 V (Ae z off cs) cells':=by
 refine⟨by rw [i,f.1];simp [Ae];omega,λj c v b a=>?_⟩;rw [l] at a;unfold Ae at b
 have d:(z.take off++cs).length=off+cs.length:=by simp;omega
 have e:(z.take off).length=off:=by simp;omega
 by_cases m:j < off+cs.length
 ·rw [d8 (by rw [d];exact m)] at b
  by_cases g:j < off
  ·rw [d8 (by rw [e];exact g),nk,if_pos g] at b
   rw [if_neg (by omega)] at a;exact f.2 j c v b a
  ·rw [ge (by rw [e];omega),e] at b
   rw [if_pos (by omega)] at a;exact h.2 _ c v b a
 ·rw [ge (by rw [d];omega),d,nn] at b
  rw [if_neg (by omega)] at a
  have:off+cs.length+(j - (off+cs.length))=j:=by omega
  rw [this] at b;exact f.2 j c v b a
theorem HM(n:Nat):∀(qs:List (Nat×List C)),(qs.all λx=>Nat.ble (x.1+x.2.length) n)=true->∀x∈qs,x.1+x.2.length<=n:=by
 intro qs h x a;exact co (gt.1 h x a)
theorem Fz{V:View}{place:Nat->Option (Nat×Nat)}:∀(ps:List (Nat×Value)) (qs:List (Nat×List C)) (z:List C) (cells:Array Value),P6 V place ps qs->C0 V z cells->(∀x∈qs,x.1+x.2.length<=z.length)->
 ∃cells',Instr.fill place cells ps=some cells'/\C0 V (Bb qs z) cells'
 | [],[],z,cells,_,d,_=>⟨cells,rfl,d⟩
 | [],_::_,_,_,h,_,_=>h.elim
 | _::_,[],_,_,h,_,_=>h.elim
 | (i, v)::ps,(off,cs)::qs,z,cells,h,d,l=>by
  obtain⟨s,m,r⟩:=h;have c:off+cs.length<=z.length:=l (off,cs) (by simp);have b:=m.1
  have k:=IM v.cells.zipIdx.toList 0 off cells (λq x e=>by
   have:=nZ (xs:=v.cells.zipIdx) (i:=q);rw [this,Array.getElem?_zipIdx] at e;simp only [d7] at e;obtain⟨a,_,rfl⟩:=e
   simp) (by simp [b];rw [d.1];exact c)
  rw [Array.foldl_toList] at k
  have j:C0 V (Ae z off cs) (v.cells.zipIdx.foldl (λcs (x:Value×Nat)=>cs.setIfInBounds (off+x.2) x.1) cells):=by
   refine U7 d m c k.1 λq=>?_;rw [k.2 q]
   have n:v.cells.zipIdx.toList.length=cs.length:=by simp [b]
   rw [n,qD];by_cases g:off<=q/\q < off+cs.length
   ·rw [if_pos g,if_pos g,nZ,Array.getElem?_zipIdx]
    cases v.cells[q - off]?<;>rfl
   ·rw [if_neg g,if_neg g]
  obtain⟨cells',p,o⟩:=Fz ps qs _ _ r j (λx e=>by
   have:=l x (by simp [e])
   have f:(Ae z off cs).length=z.length:=by simp [Ae];omega
   rw [f];exact this)
  refine⟨cells',?_,o⟩;unfold Instr.fill;rw [s]
  have hno:¬(v.cells.size≠cs.length || decide (off+v.cells.size > cells.size))=true:=by
   simp [b];rw [d.1];exact c
  simp only;rw [if_neg (by simpa using hno)];exact p
def Il(f:Env):List Operand->Option (List E)
 | []=>some []
 | x::l=>(ev f x).bind λe=>(Il f l).map (e :: ·)
def Dc{U:Type}:Nat->List U->List (Nat×U)
 | _,[]=>[]
 | k,x::l=>(k,x)::Dc (k+1) l
def Ge(k:Nat):Nat->List E->List (Nat×List C)
 | _,[]=>[]
 | i,e::l=>(i*k,eC e)::Ge k (i+1) l
theorem VL{f:Env}:∀ {l:List Operand} {es:List E},Il f l=some es->∀(j:Nat) (x:Operand) (e:E),l[j]? = some x->es[j]? = some e->ev f x=some e
 | [],es,h,j,x,e,a,_=>by simp at a
 | y::l,es,h,j,x,e,a,b=>by
  simp only [Il,m8,d7] at h;obtain⟨e',d,es',c,rfl⟩:=h
  cases j with
  | zero=>simp at a b;subst a b;exact d
  | succ j=>exact VL c j x e (by simpa using a) (by simpa using b)
theorem Cz{f:Env}:∀ {l:List Operand} {es:List E},Il f l=some es->es.length=l.length
 | [],es,h=>by injection h with h;subst h;rfl
 | y::l,es,h=>by
  simp only [Il,m8,d7] at h;obtain⟨e',b,es',a,rfl⟩:=h;simp [Cz a]
theorem MQ(k:Nat):∀(es:List E) (i:Nat) (pre post:List C),pre.length=i*k->post.length=es.length*k->(∀e∈es,(eC e).length=k)->
 Bb (Ge k i es) (pre++post)=pre++(es.map eC).flatten
 | [],i,pre,post,_,hp,_=>by
  have:post=[]:=m7.1 (by simpa using hp);subst this;simp [Ge,Bb]
 | e :: es,i,pre,post,b,d,hk=>by
  have a:=hk e (by simp);simp only [nB,nz,Nat.one_mul] at d
  have:Ae (pre++post) (i*k) (eC e)=(pre++eC e)++post.drop k:=by
   unfold Ae;rw [<-b,List.take_left,<-List.drop_drop,List.drop_left,a]
  simp only [Ge,Bb,this];rw [MQ k es (i+1) (pre++eC e) (post.drop k) (by simp [b,a,nz]) (by simp;omega) (λx c=>hk x (by simp [c]))];simp
section
variable {P:Program}{TB:Bi}{Γ:Ctx}{d:Option Tmp}{ty:TypeId}{pos:String}{af:Array Edge}{g:Option (Nat×Bool)}{f:Env}{σ:Ab}{nx:Nat}
variable {K:E->Ab->Nat->Prop}
theorem HN{V:View}{k:Nat}:∀ {rows:List (List C)} {cur:Array Value},C0 V rows.flatten cur->(∀r∈rows,r.length=k)->∀(i:Nat) (r:List C) (j:Nat) (c:C),rows[i]? = some r->r[j]? = some c->∃v,cur[i*k+j]? = some v/\AA V c v:=by
 intro rows cur h hk i r j c hi d
 have key:∀(rows:List (List C)) (i:Nat),(∀r∈rows,r.length=k)->rows[i]? = some r->rows.flatten[i*k+j]? = some c:=by
  intro rows
  induction rows with
  | nil=>intro i _ hi;simp at hi
  | cons f rows g=>
   intro i hk hi
   cases i with
   | zero=>
    simp at hi;subst hi;have a:=(am.1 d).1;rw [qz,oy,ms,d8 a];exact d
   | succ i=>
    have b:=hk f (by simp);rw [qz,ge (by rw [b,nz];omega),b]
    have:(i+1)*k+j - k=i*k+j:=by rw [nz];omega
    rw [this];exact g i (λr l=>hk r (by simp [l])) (by simpa using hi)
 have e:=key rows i hk hi
 have a:i*k+j < cur.size:=by rw [h.1];exact(am.1 e).1
 exact⟨cur[i*k+j],nc a,h.2 _ c _ e (nc a)⟩
theorem P5{V:View}{zv:Value}{z:List Value}{n:Nat}(d:zv.cells.toList=z)(o:z.all OQ=true):C0 V ((List.replicate n (z.map zC)).flatten) ((Array.range (n*z.length)).map (zv.cells[· % zv.cells.size]!)):=by
 have k:zv.cells.size=z.length:=by rw [<-d];simp
 refine⟨by simp [ql],λq c v f s=>?_⟩
 have b:q < n*z.length:=by
  have:=(am.1 f).1
  simpa [ql] using this
 have hk:0 < z.length:=by rcases nM z.length with r|r;(rw [r] at b;simp at b);exact r
 have a:q % z.length < z.length:=Nat.mod_lt _ hk
 have y : ((List.replicate n (z.map zC)).flatten)[q]? = some (zC z[q % z.length]):=by
  have u:q / z.length < n:=Nat.div_lt_of_lt_mul (by rw [pL];exact b)
  have key:∀(n i j:Nat),i < n->j < z.length->((List.replicate n (z.map zC)).flatten)[i*z.length+j]? = some (zC (z[j]?.getD undef)):=by
   intro n
   induction n with
   | zero=>intro i j h;omega
   | succ n t=>
    intro i j hi p;rw [o4,qz]
    cases i with
    | zero=>rw [oy,ms,d8 (by simpa using p)];simp [p]
    | succ i=>
     rw [ge (by simp [nz];omega)]
     have:(i+1)*z.length+j - (z.map zC).length=i*z.length+j:=by simp [nz];omega
     rw [this];exact t i j (by omega) p
  have:=key n (q / z.length) (q % z.length) u a
  have e:q / z.length*z.length+q % z.length=q:=by rw [pL];exact Nat.div_add_mod q _
  rw [e] at this;rw [this];simp [a]
 rw [y] at f
 injection f with f
 subst f
 have x:v=z[q % z.length]:=by
  simp only [Array.getElem?_map,d7] at s;obtain⟨q',m,rfl⟩:=s
  have l:q'=q:=by
   have:=ng.1 m;obtain⟨A,w⟩:=this
   simpa using w.symm
  subst l
  have g:q' % zv.cells.size < zv.cells.size:=by rw [k];exact a
  rw [getElem!_pos zv.cells _ g];subst d;simp
 rw [x];exact Jg (gt.1 o _ (nA a))
theorem Hs{t:TypeId}{z:List Value}(h:Y7 P t=some z):∃i zv,P.info? t=some i/\i.zero=some zv/\zv.cells.toList=z:=by
 simp only [Y7,m8,d7] at h;obtain⟨i,hi,zv,b,a⟩:=h;exact⟨i,zv,hi,b,a⟩
theorem Tj{V:View}(h:Inv TB Γ V σ){e:TypeId}{k c:Nat}{rows:List (List C)}{cur:Array Value}{w:World}(hw:w=V.w.alloc (.cells cur e))(f:cur.size=c*k)(d:rows.length<=c)(g:c<=maxLen)(hk:∀r∈rows,r.length=k)
 (o:∀(i:Nat) (r:List C) (j:Nat) (c:C),rows[i]? = some r->r[j]? = some c->∃v,cur[i*k+j]? = some v/\AA V c v) :
 Inv TB Γ (Aw V V.w.heap.size c False w) ((V.nx,.cells e k rows)::σ)/\Ext V (Aw V V.w.heap.size c False w)/\AA (Aw V V.w.heap.size c False w) (.arr V.nx k 0 rows.length) (.slice (some ⟨V.w.heap.size,0,none⟩) rows.length c):=by
 subst hw;have ee:Ext V (Aw V V.w.heap.size c False (V.w.alloc (.cells cur e))):=Ec (by simp) λb hb=>A1 _ _ _ (h.iLt b hb)
 have l:(Aw V V.w.heap.size c False (V.w.alloc (.cells cur e))).ρ V.nx=V.w.heap.size:=by simp [Aw]
 have a:(Aw V V.w.heap.size c False (V.w.alloc (.cells cur e))).cap V.nx=c:=by simp [Aw]
 have m:=h.alloc (c:=c) (nl:=False) (w:=V.w.alloc (.cells cur e)) (ob:=.cells e k rows) rfl rfl rfl rfl (by simp) (λb hb=>A1 _ _ _ hb) (.inr ⟨by simp [Aw],cur,by rw [l];exact BZ _ _,by rw [a];exact f,by rw [a];exact d,by rw [a];exact g,hk,
  λi r j c hi n=>let ⟨v,q,p⟩:=o i r j c hi n;⟨v,q,p.ext ee⟩⟩)
 refine⟨m.1,m.2,?_⟩;have:=@AA.arr (Aw V V.w.heap.size c False (V.w.alloc (.cells cur e))) V.nx k 0 rows.length (by simp [Aw]) (by simp [Aw]) (by rw [a];omega);rw [l,a,oy,qG] at this;exact this
theorem I9{t e:TypeId}{k b:Nat}{z:List Value}{x y:Operand}{ik ik':IntKind}{n c:Int}[hl:CO P t e k b][hz:BU P e z](hx:ev f x=some (eI ik n))(hy:ev f y=some (eI ik' c))(a:z.length=k)(I:z.all OQ=true)(hb0:0 < b)
 (h0:0<=n) (hnc:n<=c) (hc:c*b<=140737488355328) (hK:K (.o (.arr nx k 0 n.toNat)) ((nx,.cells e k (List.replicate n.toNat (z.map zC)))::σ) (nx+1)):BS P TB Γ ⟨d,.makeSlice t x y,ty,pos,af,g⟩ f σ nx K:=
 Di λV ρ S h2 h3=>by
  subst h3;obtain⟨i,hu,hi,p,u⟩:=Gu hl.out;obtain⟨i',zv,h,A,m⟩:=Hs hz.out
  rw [hi] at h;injection h with h;subst h
  have G:ρ x=.int ik n:=AA.val (S.get (by simp [Op.operands]) hx);have F:ρ y=.int ik' c:=AA.val (S.get (by simp [Op.operands]) hy)
  have Q:0<=c:=by omega
  have hcb:c<=c*b:=by
   have:=Int.mul_le_mul_of_nonneg_left (show (1:Int)<=(b:Int) by omega) Q;omega
  have wn:IntKind.i64.wrap n=n:=IntWalk.i64_in n (by omega);have wc:IntKind.i64.wrap c=c:=IntWalk.i64_in c (by omega)
  have Z:zv.cells.size=k:=by rw [<-a,<-m];simp
  let cur:Array Value:=(Array.range (c.toNat*z.length)).map (zv.cells[· % zv.cells.size]!)
  have B:=P5 (V:=V) (n:=c.toNat) m I
  have q:∀r∈List.replicate c.toNat (z.map zC),r.length=k:=λr H=>by rw [List.eq_of_mem_replicate H];simp [a]
  obtain⟨L,M,s⟩:=Tj h2 (e:=e) (k:=k) (c:=c.toNat) (rows:=List.replicate n.toNat (z.map zC)) (cur:=cur) rfl (by simp [cur,a]) (by simp;omega) (by unfold maxLen;omega) (λr H=>by rw [List.eq_of_mem_replicate H];simp [a])
   (λi r j cc hi hj=>HN B q i r j cc (by
    rw [pT] at hi |-;split at hi
    ·rw [if_pos (by omega)];exact hi
    ·cases hi) hj)
  rw [List.length_replicate] at s;refine⟨.slice (some ⟨V.w.heap.size,0,none⟩) n.toNat c.toNat,_,_,_,?_,M,L,(show A2 _ (.o _) _ from s),hK⟩
  have R:(b:Int)*c<=140737488355328:=by rw [Int.mul_comm];exact hc
  have ht:¬(281474976710656:Int) < (b:Int)*c:=by omega
  show ((do let v <-Instr.makeSlice t (ρ x) (ρ y);pure (Go.Next.value v):Sem Go.Next)).run P V.w=_
  rw [G,F]
  have J:(Instr.makeSlice t (.int ik n) (.int ik' c)).run P V.w=.ok (.slice (some ⟨V.w.heap.size,0,none⟩) n.toNat c.toNat) (V.w.alloc (.cells cur e)):=by
   have Y:¬c < 0:=by omega
   have X:¬n < 0:=by omega
   have T:¬c < n:=by omega
   simp only [Instr.makeSlice,nf,run_underlying hu,mY,asInt,asIntOf,pure_bind,bind_pure_comp,map_pure,typeInfo,sizeOf,wn,wc];by_cases l:c.toNat*k=0
   ·have N:cur = #[]:=by
     have:cur.size=0:=by simp [cur,a,l]
     exact oH this
    simp [go_sem,hi,u,p,Y,X,T,ht,askRoom,l,newRow,newObj,N];rfl
   ·simp [go_sem,hi,u,p,Y,X,T,ht,askRoom,l,newRow,newObj,zeroValue,typeInfo,A,cur,a]
    rfl
  simp only [nf,J,mY];rfl
theorem Lp{U β:Type}(h:U->β):∀(l:List U) (k:Nat),(Dc k l).map (λx=>(x.1,h x.2))=Dc k (l.map h)
 | [],_=>rfl
 | x::l,k=>by simp [Dc,Lp h l (k+1)]
theorem Lg{V:View}{size:Nat}{ρ:Operand->Value}:∀(l:List Operand) (es:List E) (i:Nat),(∀x∈l,∀e,ev f x=some e->A2 V e (ρ x))->Il f l=some es->(∀e∈es,Sf e=true)->(∀e∈es,(eC e).length=size)->
 P6 V (λi=>some (i*size,size)) (Dc i (l.map ρ)) (Ge size i es)
 | [],es,i,_,h,_,_=>by injection h with h;subst h;trivial
 | x::l,es,i,a,h,c,hk=>by
  simp only [Il,m8,d7] at h;obtain⟨e',j,es',g,rfl⟩:=h;refine⟨?_,MN (c e' (by simp)) (a x (by simp) e' j),Lg l es' (i+1) (λx d=>a x (by simp [d])) g (λe b=>c e (by simp [b])) (λe b=>hk e (by simp [b]))⟩;rw [hk e' (by simp)]
theorem Nu(k:Nat):∀(es:List E) (i n:Nat),(∀e∈es,(eC e).length=k)->i+es.length<=n->∀x∈Ge k i es,x.1+x.2.length<=n*k
 | [],_,_,_,_,x,h=>by simp [Ge] at h
 | e :: es,i,n,hk,a,x,h=>by
  simp only [Ge,lc] at h;simp only [nB] at a
  rcases h with rfl|h
  ·simp only [hk e (by simp)]
   have:=nD k (show i+1<=n by omega);rw [nz] at this;omega
  ·exact Nu k es (i+1) n (λe b=>hk e (by simp [b])) (by omega) x h
theorem NQ{t e:TypeId}{k b:Nat}{z:List Value}(X:iC P t=some (e,k,b))(R:Y7 P e=some z)(c:z.length=k)(H:z.all OQ=true){xs:List Operand}{es:List E}{V:View}{ρ:Operand->Value}(B:∀x∈xs,∀e,ev f x=some e->A2 V e (ρ x))
 (u:Il f xs=some es) (T:es.all Sf=true) (hk:∀x∈es,(eC x).length=k) (Y:xs.length*k<=16777216) :
 ∃cur,(Instr.buildSlice t xs.length ((Dc 0 xs).toArray.map λ(i,x)=>(i,ρ x))).run P V.w=.ok (.slice (some ⟨V.w.heap.size,0,none⟩) xs.length xs.length) (V.w.alloc (.cells cur e))/\cur.size=xs.length*k/\C0 V (es.map eC).flatten cur:=by
 obtain⟨i,S,hi,s,_⟩:=Gu X;obtain⟨i',zv,j,F,o⟩:=Hs R
 rw [hi] at j;injection j with j;subst j
 have Q:zv.cells.size=k:=by rw [<-c,<-o];simp
 have v:=Cz u;have I:=Lg (size:=k) xs es 0 B u (λx r=>gt.1 T x r) hk;have G:=P5 (V:=V) (n:=xs.length) o H
 have p:((List.replicate xs.length (z.map zC)).flatten).length=xs.length*k:=by simp [ql,c]
 obtain⟨cur,A,J⟩:=Fz _ _ _ _ I G (λx r=>by rw [p];exact Nu k es 0 xs.length hk (by omega) x r);have M:=MQ k es 0 [] ((List.replicate xs.length (z.map zC)).flatten) (by simp) (by rw [p,v]) hk;simp only [oV] at M;rw [M] at J;refine⟨cur,?_,?_,J⟩
 ·have d:((Dc 0 xs).toArray.map λ(i,x)=>(i,ρ x)).toList=Dc 0 (xs.map ρ):=by
   rw [<-Lp];simp
  have L:¬2 ^ 24 < xs.length*k:=by
   have:(2:Nat) ^ 24=16777216:=by decide
   omega
  simp only [Instr.buildSlice,nf,run_underlying S,mY,sizeOf,typeInfo,bind_pure_comp]
  have y:¬16777216 < xs.length*k:=by omega
  have m:=d;simp only [qF] at m;by_cases K:xs.length*k=0
  ·have q:∀g:Nat->Value,Array.map g (Array.range (xs.length*k)) = #[]:=λg=>oH (by simp [K])
   rw [c,q] at A;simp [go_sem,hi,s,newRow,newObj,y,q,m];rw [if_pos K,A];rfl
  ·rw [c] at A
   unfold Value.cells at A;simp [go_sem,hi,s,K,y,newRow,newObj,zeroValue,typeInfo,F,m];rw [A];rfl
 ·rw [J.1]
  have:∀l:List E,(∀x∈l,(eC x).length=k)->(l.map eC).flatten.length=l.length*k:=by
   intro l
   induction l with
   | nil=>simp
   | cons a l N=>intro h;simp [N (λx r=>h x (by simp [r])),h a (by simp),nz,po]
  rw [this es hk,v]
end
abbrev eT(l:List UInt8):E:=.o (.d (.v (.string ⟨l.toArray⟩)))
def Oc:List E->Option (List (List D))
 | []=>some []
 | e::l=>(OO (eC e)).bind λr=>(Oc l).map (r :: ·)
theorem Od:∀ {l:List E} {rows:List (List D)},Oc l=some rows->rows.length=l.length/\∀(i:Nat) (r:List D),rows[i]? = some r->∃e,l[i]? = some e/\OO (eC e)=some r
 | [],rows,h=>by injection h with h;subst h;exact⟨rfl,λi r hi=>by simp at hi⟩
 | e::l,rows,h=>by
  simp only [Oc,m8,d7] at h;obtain⟨g,f,rows',d,rfl⟩:=h;have a:=Od d;refine⟨by simp [a.1],λi r hi=>?_⟩
  cases i with
  | zero=>simp at hi;subst hi;exact⟨e,rfl,f⟩
  | succ i=>obtain⟨e',c,b⟩:=a.2 i r (by simpa using hi);exact⟨e',by simpa using c,b⟩
def jB(P:Program)(t:TypeId):Option (List (Nat×Nat)):=match P.underlying t with
 | some (.struct fs)=>fs.toList.mapM λf=>(P.info? f.type).map λi=>(f.offset,i.size)
 | some (.array n e)=>(P.info? e).map λi=>(List.range n).map λj=>(j*i.size,i.size)
 | _=>none
class EC (P:Program) (t:TypeId) (fl:outParam (List (Nat×Nat))):Prop where
 out:jB P t=some fl
def EN(fl:List (Nat×Nat)):List (Nat×Operand)->List E->Option (List (Nat×List C))
 | [],[]=>some []
 | (i,_)::ps,e::es=>match fl[i]? with
  | some (off,size)=>bif Nat.beq (eC e).length size && Sf e then (EN fl ps es).map ((off,eC e) :: ·) else none
  | none=>none
 | _,_=>none
section
variable {P:Program}{TB:Bi}{Γ:Ctx}{d:Option Tmp}{ty:TypeId}{pos:String}{af:Array Edge}{g:Option (Nat×Bool)}{f:Env}{σ:Ab}{nx:Nat}
variable {K:E->Ab->Nat->Prop}
theorem JT{t e:TypeId}{k b n:Nat}{z:List Value}{parts:Array (Nat×Operand)}(y:iC P t=some (e,k,b))(q:Y7 P e=some z)(j:z.length=k)(m:z.all OQ=true){es:List E}{V:View}{ρ:Operand->Value}(h:Lc V ⟨d,.buildSlice t n parts,ty,pos,af,g⟩ f ρ)
 (hp:Dc 0 (parts.toList.map (·.2))=parts.toList) (u:parts.toList.length=n) (o:Il f (parts.toList.map (·.2))=some es) (s:es.all Sf=true) (hk:∀x∈es,(eC x).length=k) (l:n*k<=16777216) :
 ∃cur,(execOp ρ ⟨d,.buildSlice t n parts,ty,pos,af,g⟩).run P V.w=.ok (.value (.slice (some ⟨V.w.heap.size,0,none⟩) n n)) (V.w.alloc (.cells cur e))/\cur.size=n*k/\C0 V (es.map eC).flatten cur:=by
 have a:(parts.toList.map (·.2)).length=n:=by simpa using u
 obtain⟨cur,c,p,B⟩:=NQ (P:=P) (f:=f) (V:=V) (xs:=parts.toList.map (·.2)) (ρ:=ρ) y q j m (λx r e A=>h.get (by simp only [Op.operands];simpa using r) A) o s hk (by rw [a];exact l);rw [a] at c p;refine⟨cur,?_,p,B⟩;rw [hp] at c
 show ((do let v <-Instr.buildSlice t n (parts.map λ(i,x)=>(i,ρ x));pure (Go.Next.value v):Sem Go.Next)).run P V.w=_
 rw [Array.toArray_toList] at c;simp only [nf,c,mY];rfl
theorem bX{t e:TypeId}{k b n:Nat}{z:List Value}{parts:Array (Nat×Operand)}{es:List E}{rows:List (List D)}[Z:CO P t e k b][T:BU P e z](hp:Dc 0 (parts.toList.map (·.2))=parts.toList)(N:parts.toList.length=n)
 (A:Il f (parts.toList.map (·.2))=some es) (Y:es.all Sf=true) (G:Oc es=some rows) (hk:(rows.all λr=>Nat.beq r.length k)=true) (F:z.length=k) (H:z.all OQ=true) (K:Nat.ble 1 k=true) (p:Nat.ble (n*k) 16777216=true) :
 AO P TB Γ ⟨d,.buildSlice t n parts,ty,pos,af,g⟩ f σ nx (.o (.d (.l rows))):=
 PF λV ρ h1 h2=>by
  have c:=Od G
  have s:∀x∈es,(eC x).length=k:=λx X=>by
   obtain⟨i,hi,rfl⟩:=nC X
   have y:i < rows.length:=by omega
   obtain⟨e',m,S⟩:=c.2 i rows[i] (d5 y);rw [d5 hi] at m
   injection m with m
   rw [m,<-Lw S];exact i7 (gt.1 hk _ (nA y))
  obtain⟨cur,m,S,h5⟩:=JT Z.out T.out F H h1 hp N A Y s (co p);obtain⟨hi,Q⟩:=h2.Zo (w:=V.w.alloc (.cells cur e)) rfl rfl rfl (by simp) (λb hb=>A1 _ _ _ hb)
  have q:rows.length=n:=by
   rw [c.1,Cz A];simpa using N
  have a:∀(i:Nat) (r:List D) (j:Nat) (x:D),rows[i]? = some r->r[j]? = some x->∃v,cur[i*k+j]? = some v/\De V.I V.w x v:=λi r j x hi u=>by
   obtain⟨e',B,M⟩:=c.2 i r hi;have h8:=J0 M j x u
   obtain⟨v,R,h⟩:=HN h5 (λr G=>by
    obtain⟨e2,L,rfl⟩:=em.1 G
    exact s e2 L) i (eC e') j (.d x) (by simp [B]) h8
   cases h with
   | d h=>exact⟨v,R,h⟩
  have J:n<=maxLen:=by
   have R:=co p;have:n<=n*k:=ow _ (co K);unfold maxLen;omega
  refine⟨_,_,m,Q,hi,rfl,?_⟩;have hb:(QG V (V.w.alloc (.cells cur e))).I V.w.heap.size:=.inr rfl;have hh:(QG V (V.w.alloc (.cells cur e))).w.heap[V.w.heap.size]? = some (.cells cur e):=BZ _ _;have := @De.l (QG V (V.w.alloc (.cells cur e))).I (QG V (V.w.alloc (.cells cur e))).w rows V.w.heap.size 0 k n (λi j=>cur.getD (i*k+j) undef) hb (by omega) J
   (λi r hi=>i7 (gt.1 hk _ (ce hi)))
   (λi r j x hi u=>by
    obtain⟨v,B,_⟩:=a i r j x hi u
    simp [World.cell?,hh,B])
   (λi r j x hi u=>by
    obtain⟨v,B,M⟩:=a i r j x hi u
    have:cur.getD (i*k+j) undef=v:=by simp [B]
    rw [this];exact M.ext Q)
  rw [q] at this;exact .d this
theorem A9{t e:TypeId}{k b n:Nat}{z:List Value}{parts:Array (Nat×Operand)}{es:List E}[G:CO P t e k b][A:BU P e z](hp:Dc 0 (parts.toList.map (·.2))=parts.toList)(w:parts.toList.length=n)
 (l:Il f (parts.toList.map (·.2))=some es) (F:es.all Sf=true) (j:∀x∈es,(eC x).length=k) (m:z.length=k) (p:z.all OQ=true) (s:Nat.ble 1 k=true) (a:Nat.ble (n*k) 16777216=true)
 (I:K (.o (.arr nx k 0 n)) ((nx,.cells e k (es.map eC))::σ) (nx+1)):BS P TB Γ ⟨d,.buildSlice t n parts,ty,pos,af,g⟩ f σ nx K:=
 Di λV ρ N M v=>by
  subst v;obtain⟨cur,v,L,J⟩:=JT G.out A.out m p N hp w l F j (co a)
  have i:(es.map eC).length=n:=by
   rw [f7,Cz l];simpa using w
  have q:n<=maxLen:=by
   have R:=co a;have:n<=n*k:=ow _ (co s);unfold maxLen;omega
  have h:∀r∈es.map eC,r.length=k:=λr B=>by
   obtain⟨Q,u,rfl⟩:=em.1 B;exact j Q u
  obtain⟨hi,H,y⟩:=Tj M (e:=e) (k:=k) (c:=n) (rows:=es.map eC) (cur:=cur) rfl L (by omega) q h (HN J h);rw [i] at y;exact⟨_,_,_,_,v,H,hi,(show A2 _ (.o _) _ from y),I⟩
theorem C3{V:View}{ρ:Operand->Value}{fl:List (Nat×Nat)}:∀(ps:List (Nat×Operand)) (es:List E) (qs:List (Nat×List C)),(∀x∈ps.map (·.2),∀e,ev f x=some e->A2 V e (ρ x))->Il f (ps.map (·.2))=some es->EN fl ps es=some qs->
 P6 V (fl[·]?) (ps.map λ(i,x)=>(i,ρ x)) qs
 | [],es,qs,_,a,h=>by
  injection a with a;subst a
  injection h with h;subst h;trivial
 | (i, x)::ps,es,qs,b,a,h=>by
  simp only [nX,Il,m8,d7] at a;obtain⟨e',k,es',j,rfl⟩:=a;simp only [EN] at h;split at h
  ·rename_i off size c
   cases hb:Nat.beq (eC e').length size && Sf e'
   ·rw [hb] at h;cases h
   ·rw [hb] at h
    simp only [cond_true,d7] at h;obtain⟨qs',g,rfl⟩:=h;rw [d6] at hb;have:=i7 hb.1;subst this;exact⟨c,MN hb.2 (b x (by simp) e' k),C3 ps es' qs' (λy d=>b y (by simp at d |-;exact .inr d)) j g⟩
  ·cases h
theorem AF{t:TypeId}{z:List Value}{fl:List (Nat×Nat)}{parts:Array (Nat×Operand)}{es:List E}{qs:List (Nat×List C)}[Y:BU P t z][hf:EC P t fl](R:Il f (parts.toList.map (·.2))=some es)(Z:EN fl parts.toList es=some qs)
 (M:z.all OQ=true) (N:(qs.all λx=>Nat.ble (x.1+x.2.length) z.length)=true):AO P TB Γ ⟨d,.build t parts,ty,pos,af,g⟩ f σ nx (.a (Bb qs (z.map zC))):=
 AG λV ρ h1 _=>by
  obtain⟨i,zv,hi,A,s⟩:=Hs Y.out;have Q:=C3 (V:=V) (ρ:=ρ) parts.toList es qs (λx J e he=>h1.get (by simp only [Op.operands];simpa using J) he) R Z
  have I:C0 V (z.map zC) zv.cells:=by
   refine⟨by rw [f7,<-s];simp,λj c v T S=>?_⟩;simp only [d9,d7] at T;obtain⟨u,k,rfl⟩:=T
   have:u=v:=by
    rw [<-s] at k;simp only [nZ] at k;rw [k] at S;exact Option.some.inj S
   subst this;exact Jg (gt.1 M u (ce k))
  obtain⟨cells,G,h4⟩:=Fz _ _ _ _ Q I (λx J=>by rw [f7];exact HM _ _ N x J);have r:=hf.out
  have b:(parts.map λ(i,x)=>(i,ρ x)).toList=parts.toList.map λ(i,x)=>(i,ρ x):=by simp
  refine⟨.agg cells,?_,cells,rfl,h4⟩
  have hb : (Instr.build t (parts.map λ(i,x)=>(i,ρ x))).run P V.w=.ok (.agg cells) V.w:=by
   unfold jB at r;split at r
   ·rename_i fs k
    have L:∀(l:List Field) (ll:List (Nat×Nat)),(l.mapM λf=>(P.info? f.type).map λi=>(f.offset,i.size))=some ll->∀w,((l.mapM λf=>do pure (f.offset,<-sizeOf f.type)):Sem (List (Nat×Nat))).run P w=.ok ll w:=by
     intro l
     induction l with
     | nil=>intro ll h w;simp at h;subst h;simp [go_sem]
     | cons y l H=>
      intro ll h w;simp only [oX,qm,m8,d7] at h;obtain⟨p,⟨ii,o,rfl⟩,ll',h5,X⟩:=h;simp at X;subst X
      have K:(sizeOf y.type).run P w=.ok ii.size w:=by simp [sizeOf,typeInfo,o,go_sem]
      have ihh:=H ll' h5 w;simp only [bind_pure_comp] at ihh;simp only [oX,nf,K,mY,bind_pure_comp,pe,ihh]
    have B:=L fs.toList fl r V.w
    have m:(zeroValue t).run P V.w=.ok zv V.w:=by simp [zeroValue,typeInfo,hi,A,go_sem]
    have ha:((fs.mapM λf=>do pure (f.offset,<-sizeOf f.type)):Sem (Array (Nat×Nat))).run P V.w=.ok fl.toArray V.w:=by
     rw [pG,pe,B];rfl
    rw [<-b] at G;simp only [Instr.build,nf,m,mY,run_underlying k,ha];simp only [oa];rw [G];rfl
   ·rename_i n e k
    simp only [d7] at r;obtain⟨ii,o,rfl⟩:=r
    have m:(zeroValue t).run P V.w=.ok zv V.w:=by simp [zeroValue,typeInfo,hi,A,go_sem]
    have K:(sizeOf e).run P V.w=.ok ii.size V.w:=by simp [sizeOf,typeInfo,o,go_sem]
    have q:∀(ps:List (Nat×Value)) (c c':Array Value),Instr.fill (λi=>((List.range n).map λj=>(j*ii.size,ii.size))[i]?) c ps=some c'->Instr.fill (λi=>some (i*ii.size,ii.size)) c ps=some c':=by
     intro ps
     induction ps with
     | nil=>intro c c' h;simpa [Instr.fill] using h
     | cons p ps H=>
      intro c c' h;obtain⟨i',v'⟩:=p;unfold Instr.fill at h |-;by_cases F:i' < n
      ·simp only [d9,o5 F,nv] at h
       simp only at h |-;split at h
       ·cases h
       ·rename_i hno
        rw [if_neg hno];exact H _ _ (by simpa only [d9] using h)
      ·simp [F] at h
    rw [<-b] at G;simp only [Instr.build,nf,m,mY,run_underlying k,K];rw [q _ _ _ G];rfl
   ·cases r
  show ((do let v <-Instr.build t (parts.map λ(i,x)=>(i,ρ x));pure (Go.Next.value v):Sem Go.Next)).run P V.w=_
  simp only [nf,hb,mY];rfl
theorem HU(k e:Nat)(i:K (.o (.arr nx k 0 0)) ((nx,.cells e k [])::σ) (nx+1)):BS P TB Γ ⟨d,.assign (.const (.slice none 0 0)),ty,pos,af,g⟩ f σ nx K:=by
 intro V a m l j;subst j;obtain⟨hi,h⟩:=l.alloc (c:=0) (nl:=True) (w:=V.w) (ob:=.cells e k []) rfl rfl rfl rfl (io _) (λ_ _=>rfl) (.inl ⟨by simp [Aw],rfl⟩);unfold Oper.wp
 have b:(execOp a.eval ⟨d,.assign (.const (.slice none 0 0)),ty,pos,af,g⟩).run P V.w=.ok (.value (.slice none 0 0)) V.w:=by simp [execOp,go_sem]
 rw [b];exact⟨Aw V V.w.heap.size 0 True V.w,.slice none 0 0,.o (.arr V.nx k 0 0),_,rfl,rfl,h,hi,AA.nil (by simp [Aw]) (by simp [Aw]),i⟩
theorem iu{t:TypeId}{x:Operand}{s:List UInt8}[b:CR P t](a:ev f x=some (eT s)):AO P TB Γ ⟨d,.call ⟨.builtin .len,#[x],#[t]⟩,ty,pos,af,g⟩ f σ nx (eI .i64 s.length):=by
 have:=ir (t:=t) (P:=P) (TB:=TB) (Γ:=Γ) (d:=d) (ty:=ty) (pos:=pos) (af:=af) (g:=g) (σ:=σ) (nx:=nx) a;exact this
theorem bO{t:TypeId}{x y:Operand}{s:List UInt8}{n:Int}{c:UInt8}{ik:IntKind}[j:CR P t](e:ev f x=some (eT s))(b:ev f y=some (eI ik n))
 (i:0<=n) (h:s[n.toNat]? = some c):AO P TB Γ ⟨d,.index t x y,ty,pos,af,g⟩ f σ nx (eI .u8 (c.toNat:Int)):=by
 obtain⟨a,rfl⟩:=am.1 h;exact bN (P:=P) (TB:=TB) (Γ:=Γ) (d:=d) (ty:=ty) (pos:=pos) (af:=af) (g:=g) (σ:=σ) (nx:=nx) e b i a
theorem fR{t yt:TypeId}{x y:Operand}{a b:List UInt8}(e:ev f x=some (eT a))(c:ev f y=some (eT b))(j:a.length+b.length<=9223372036854775807) :
 AO P TB Γ ⟨d,.binOp .add t x y yt,ty,pos,af,g⟩ f σ nx (eT (a++b)):=Bs e c rfl λw=>by
 have i:¬((((⟨a.toArray⟩:ByteArray).size+(⟨b.toArray⟩:ByteArray).size:Nat):Int) > IntKind.i64.max):=by
  have:IntKind.i64.max=9223372036854775807:=by decide
  have l:(⟨a.toArray⟩:ByteArray).size=a.length:=by simp [ByteArray.size]
  have k:(⟨b.toArray⟩:ByteArray).size=b.length:=by simp [ByteArray.size]
  omega
 have h:(⟨a.toArray⟩:ByteArray)++⟨b.toArray⟩=⟨(a++b).toArray⟩:=by
  apply ByteArray.ext;simp
 have:(do eqGuard .add t x y (.string ⟨a.toArray⟩) (.string ⟨b.toArray⟩);binOp .add t (.string ⟨a.toArray⟩) (.string ⟨b.toArray⟩):Sem Value)=Op.stringOp .add ⟨a.toArray⟩ ⟨b.toArray⟩:=by
  simp [eqGuard,binOp]
 rw [this];unfold Op.stringOp;simp only;rw [if_neg i,h];rfl
theorem jY{t yt:TypeId}{x y:Operand}{a b:List UInt8}(e:ev f x=some (eT a))(c:ev f y=some (eT b)) :
 AO P TB Γ ⟨d,.binOp .eql t x y yt,ty,pos,af,g⟩ f σ nx (eB (decide (a=b))):=Bs e c rfl λw=>by
 simp [eqGuard,binOp,Op.stringOp,go_sem];rw [oI];simp
theorem kk{t yt:TypeId}{x y:Operand}{a b:List UInt8}(e:ev f x=some (eT a))(c:ev f y=some (eT b)) :
 AO P TB Γ ⟨d,.binOp .neq t x y yt,ty,pos,af,g⟩ f σ nx (eB (decide (a≠b))):=Bs e c rfl λw=>by
 simp [eqGuard,binOp,Op.stringOp,go_sem];rw [oI];simp
end
def C.kY:C->Bool
 | .d (.v _)=>true
 | _=>false
def E.sc:E->Bool
 | .o c=>c.kY
 | .a cs=>cs.all C.kY
 | .t xs=>xs.all λx=>x.2.all C.kY
 | .e=>true
theorem JU{V V':View}{c:C}{v:Value}(h:AA V c v)(a:c.kY=true):AA V' c v:=by
 cases h with
 | d h=>cases h with
  | v b=>exact .d (.v b)
  | _=>cases a
 | _=>cases a
theorem UY{V V':View}{e:E}{v:Value}(h:A2 V e v)(l:e.sc=true):A2 V' e v:=by
 cases e with
 | e=>exact h
 | o c=>exact JU h l
 | a cs=>
  obtain⟨vs,m,k⟩:=h;exact⟨vs,m,k.1,λj c v d f=>JU (k.2 j c v d f) (gt.1 l c (ce d))⟩
 | t xs=>
  obtain⟨vs,m,k,q⟩:=h;refine⟨vs,m,k,λj x v d f=>?_⟩;have p:=q j x v d f;have n:=gt.1 l x (ce d);obtain⟨b,cs⟩:=x;cases b
  ·obtain⟨c,g,i⟩:=p
   have g:cs=[c]:=g;subst g;exact⟨c,rfl,JU i (gt.1 n c (by simp))⟩
  ·obtain⟨ws,g,i⟩:=p
   exact⟨ws,g,i.1,λj c v d f=>JU (i.2 j c v d f) (gt.1 n c (ce d))⟩
inductive CV (σ:Ab):C->C->Prop
 | pure {c:C}:c.Bt=true->CV σ c c
 | arr {id k off len:Nat} {T:TypeId} {rows:List (List C)} {ds:List (List D)}:look σ id=some (.cells T k rows)->off+len<=rows.length->(rows.drop off).take len=ds.map (λr=>r.map .d)->CV σ (.arr id k off len) (.d (.l ds))
 | ptr {id k i j:Nat} {T:TypeId} {rows:List (List C)} {r:List C} {ds:List D}:look σ id=some (.cells T k rows)->rows[i]? = some r->r.drop j=ds.map .d->CV σ (.ptr id k i j) (.ip ds)
inductive EV (σ:Ab):E->E->Prop
 | o {c c':C}:CV σ c c'->EV σ (.o c) (.o c')
 | nil:EV σ (.a []) (.a [])
 | cons {c c':C} {cs cs':List C}:CV σ c c'->EV σ (.a cs) (.a cs')->EV σ (.a (c::cs)) (.a (c'::cs'))
inductive iR (σ:Ab):List E->List E->Prop
 | nil:iR σ [] []
 | cons {e e':E} {es es':List E}:EV σ e e'->iR σ es es'->iR σ (e::es) (e'::es')
def GL(V:View)(σ:Ab):View:={ V with I:=λb=>V.I b\/∃id o,look σ id=some o/\¬V.nl id/\DY V id o b,nx:=0 }
section
variable {P:Program}{TB:Bi}{Γ:Ctx}{d:Option Tmp}{ty:TypeId}{pos:String}{af:Array Edge}{g:Option (Nat×Bool)}{f:Env}{σ:Ab}{nx:Nat}
variable {K:E->Ab->Nat->Prop}
theorem AA.jK{V:View}{c:C}{v:Value}(h:AA V c v)(hp:c.Bt=true):AA (GL V σ) c v:=by
 induction h with
 | d h=>exact .d (h.mono (λ_ h=>.inl h) λ_ _=>rfl)
 | nil=>simp [C.Bt] at hp
 | arr=>simp [C.Bt] at hp
 | ptr=>simp [C.Bt] at hp
 | fn f _ b=>
  simp only [C.Bt] at hp;exact .fn f λj c v a e=>b j c v a e (EP _ hp j c a)
 | mp=>simp [C.Bt] at hp
 | mv f _ b=>
  simp only [C.Bt] at hp;exact .mv f λj c v a e=>b j c v a e (EP _ hp j c a)
theorem De.jJ{V:View}{x:D}{v:Value}(h:De V.I V.w x v):De (GL V σ).I (GL V σ).w x v:=h.mono (λ_ h=>.inl h) λ_ _=>rfl
theorem CV.rel{V:View}(hi:Inv TB Γ V σ){c c':C}{v:Value}(h:CV σ c c')(F:AA V c v):AA (GL V σ) c' v:=by
 cases h with
 | pure hp=>exact F.jK hp
 | @arr id k off len T rows ds z L u=>
  cases F with
  | nil K J=>
   have:ds=[]:=by
    have:=congrArg List.length u;simp at this;exact m7.1 this.symm
   subst this;exact .d .nil
  | arr K p J=>
   rcases hi.st.obj id _ z with ⟨t,_⟩|⟨_,cur,t,P,N,M,H,G⟩
   ·exact absurd t p
   ·have y:ds.length=len:=by
     have:=congrArg List.length u;simp at this;omega
    have m:∀(i:Nat) (r:List D),ds[i]? = some r->rows[off+i]? = some (r.map .d):=λi r hi=>by
     have n:((rows.drop off).take len)[i]? = some (r.map .d):=by rw [u];simp [hi]
     rw [nk] at n;split at n
     ·rwa [nn] at n
     ·cases n
    have a:∀(i:Nat) (r:List D) (j:Nat) (x:D),ds[i]? = some r->r[j]? = some x->∃v,cur[(off+i)*k+j]? = some v/\De V.I V.w x v:=λi r j x hi A=>by
     obtain⟨v,g,f⟩:=G (off+i) (r.map .d) j (.d x) (m i r hi) (by simp [A])
     cases f with
     | d f=>exact⟨v,g,f⟩
    rw [<-y] at J |-;refine .d (.l (b:=V.ρ id) (o:=off*k) (k:=k) (vs:=λi j=>cur.getD ((off+i)*k+j) undef) (.inr ⟨id,_,z,p,rfl⟩) (by omega) (by omega) (λi r hi=>?_) (λi r j x hi A=>?_) (λi r j x hi A=>?_))
    ·have:=H _ (ce (m i r hi))
     simpa using this
    ·obtain⟨v,g,_⟩:=a i r j x hi A
     have e:off*k+i*k+j=(off+i)*k+j:=by rw [nz]
     rw [e];have:(GL V σ).w.heap[V.ρ id]? = some (.cells cur T):=t;simp [World.cell?,this,g]
    ·obtain⟨v,g,f⟩:=a i r j x hi A
     have:cur.getD ((off+i)*k+j) undef=v:=by simp [g]
     simp only [this];exact f.jJ
 | @ptr id k i j T rows r ds z B u=>
  cases F with
  | ptr K p=>
   rcases hi.st.obj id _ z with ⟨t,_⟩|⟨_,cur,t,P,N,M,H,G⟩
   ·exact absurd t p
   ·have m:∀(q:Nat) (x:D),ds[q]? = some x->r[j+q]? = some (.d x):=λq x s=>by
     have n:(r.drop j)[q]? = some (.d x):=by rw [u];simp [s]
     rwa [nn] at n
    have a:∀(q:Nat) (x:D),ds[q]? = some x->∃v,cur[i*k+j+q]? = some v/\De V.I V.w x v:=λq x s=>by
     obtain⟨v,g,f⟩:=G i r (j+q) (.d x) B (m q x s)
     cases f with
     | d f=>exact⟨v,by rw [nQ];exact g,f⟩
    refine .ip (V:=GL V σ) (vs:=λq=>cur.getD (i*k+j+q) undef) (.inr ⟨id,_,z,p,rfl⟩) (λq x s=>?_) (λq x s=>?_)
    ·obtain⟨v,g,_⟩:=a q x s
     have:(GL V σ).w.heap[V.ρ id]? = some (.cells cur T):=t;simp [World.cell?,this,g]
    ·obtain⟨v,g,f⟩:=a q x s
     have:cur.getD (i*k+j+q) undef=v:=by simp [g]
     simp only [this];exact f.jJ
theorem EV.rel{V:View}(hi:Inv TB Γ V σ){e e':E}(h:EV σ e e'):∀ {v:Value},A2 V e v->A2 (GL V σ) e' v:=by
 have key:∀ {e e':E},EV σ e e'->(∀c c',e=.o c->e'=.o c'->CV σ c c')/\(∀cs cs',e=.a cs->e'=.a cs'->cs.length=cs'.length/\∀(j:Nat) c c',cs[j]? = some c->cs'[j]? = some c'->CV σ c c')/\((∃c c',e=.o c/\e'=.o c')\/∃cs cs',e=.a cs/\e'=.a cs'):=by
  intro e e' h
  induction h with
  | o k=>exact⟨λc c' d b=>(by injection d with d;injection b with b;subst d b;exact k),λ_ _ h=>(by cases h),.inl ⟨_,_,rfl,rfl⟩⟩
  | nil=>exact⟨λ_ _ h=>(by cases h),λcs cs' d b=>(by injection d with d;injection b with b;subst d b;exact⟨rfl,λj c c' f=>(by simp at f)⟩),.inr ⟨_,_,rfl,rfl⟩⟩
  | cons k _ s=>
   refine⟨λ_ _ h=>(by cases h),λcs cs' d b=>?_,.inr ⟨_,_,rfl,rfl⟩⟩
   injection d with d;injection b with b;subst d b
   have:=s.2.1 _ _ rfl rfl;refine⟨by simp [this.1],λj c c' f g=>?_⟩
   cases j with
   | zero=>simp at f g;subst f g;exact k
   | succ j=>exact this.2 j c c' (by simpa using f) (by simpa using g)
 intro v m;obtain⟨r,q,p⟩:=key h
 rcases p with ⟨c,c',rfl,rfl⟩|⟨cs,cs',rfl,rfl⟩
 ·exact(r c c' rfl rfl).rel hi m
 ·obtain⟨vs,rfl,d,b⟩:=m
  obtain⟨l,n⟩:=q cs cs' rfl rfl;refine⟨vs,rfl,by rw [d,l],λj c' u f t=>?_⟩
  have i:j < cs.length:=by rw [l];exact(am.1 f).1
  exact(n j cs[j] c' (d5 i) f).rel hi (b j _ u (d5 i) t)
theorem Jr{x:Operand}{args:Array Operand}{tys:Array TypeId}{gg:FuncId}{vs:Array Value}(f:Zd P gg){ρ:Operand->Value}(e:ρ x=.func (.func gg) #[] vs)(w:World) :
 (execOp ρ ⟨d,.call ⟨.value x,args,tys⟩,ty,pos,af,g⟩).run P w=.ok (.enter gg (args.map ρ++vs)) w:=by
 obtain⟨fn,i,h,b⟩:=f
 have hb:∃c,fn.body=some c:=by cases hb:fn.body with|none=>rw [hb] at b;cases b|some c=>exact⟨c,rfl⟩
 obtain⟨c,hb⟩:=hb;simp only [execOp,resolve,e,Deferred.ofValue,pure_bind,invoke,callFunc]
 have a:¬fn.name = "runtime.NumGoroutine" := by simpa using h
 simp [Sem.run,program,i,a,hb,go_sem]
theorem GD{V:View}{ρ:Operand->Value}{args:List Operand}{es:List E}(h:∀x∈args,∀e,ev f x=some e->A2 V e (ρ x))(a:Il f args=some es) :
 ∀(j:Nat) e v,es[j]? = some e->(args.map ρ)[j]? = some v->A2 V e v:=by
 intro j e v d c;simp only [d9,d7] at c;obtain⟨x,b,rfl⟩:=c;exact h x (ce b) e (VL a j x e b d)
theorem Kv{V:View}{gg:FuncId}{cap:List C}{v:Value}(h:A2 V (.o (.fn gg cap)) v):∃vs,v=.func (.func gg) #[] vs/\C0 V cap vs:=by
 have h:AA V (.fn gg cap) v:=h;generalize a:C.fn gg cap=c at h;cases h<;>cases a;rename_i vs d b;exact⟨vs,rfl,d,b⟩
theorem IU{V Vc V1:View}{S:RP}(h:Inv TB Γ V σ)(l:LC TB V σ S)(v:∀b,S.J b->Γ.J b\/Γ.V.w.heap.size<=b\/Γ.F b)(j:∀b,S.B b->Γ.V.w.heap.size<=b\/Γ.F b)(hw:Vc.w=V.w){t:Ab}(p:Inv TB (Fc Vc Vc [] S) V1 t)(I':Nat->Prop)(n:∀b,V.I b->I' b)(m:∀b,I' b->V.I b\/(V.w.heap.size<=b/\b < V1.w.heap.size)\/S.B b)
 (z:∀b,V1.I b->(V.w.heap.size<=b\/S.B b)->I' b) (y:∀b,I' b->V1.I b) :
 Inv TB Γ { V with I:=I',w:=V1.w } σ/\Ext V { V with I:=I',w:=V1.w } := by
 have d:∀b,b < V.w.heap.size->¬S.B b->V1.w.heap[b]? = V.w.heap[b]?:=λb hb g=>by
  have:=p.old b (by show b < Vc.w.heap.size;rw [hw];exact hb) (λh=>h.elim (λ⟨_,_,h,_⟩=>by cases h) g)
  rw [this];show Vc.w.heap[b]? = _;rw [hw]
 have k:V.w.heap.size<=V1.w.heap.size:=by have i:Vc.w.heap.size<=V1.w.heap.size:=p.ext.size;rw [hw] at i;exact i
 have e:Ext V { V with I:=I',w:=V1.w } := ⟨n,λb hb=>d b (h.iLt b hb) λq=>l.bi b q hb,k,λ_ _=>rfl,λ_ _=>rfl,λ_ _=>Iff.rfl,io _⟩
 refine⟨⟨?_,?_,?_,λb hb s=>(d b (mW hb h.ext.size) λq=>(j b q).elim (λh=>by omega) s).trans (h.old b hb s),?_,?_,h.ext.trans e,⟨?_,h.st.lt,?_,h.st.inj⟩,h.live,?_,?_⟩,e⟩
 ·have i:V1.w.os=Vc.w.os:=p.os
  rw [hw] at i;exact i.trans h.os
 ·have i:V1.w.tape=Vc.w.tape:=p.tape
  rw [hw] at i;exact i.trans h.tape
 ·have i:V1.w.output=Vc.w.output:=p.output
  rw [hw] at i;exact i.trans h.output
 ·intro b hb
  rcases m b hb with a|a|a
  ·exact mW (h.iLt b a) k
  ·exact a.2
  ·exact mW (l.r.blt a) k
 ·intro b hb
  rcases m b hb with a|a|a
  ·exact h.iNew b a
  ·exact .inr (.inl (kw h.ext.size a.1))
  ·exact .inr (j b a)
 ·intro id o f
  exact(h.st.obj id o f).Bn e (h.st.lt id o f) λg b hb=>d _ ((h.st.obj id o f).blt g hb) (l.ap b ⟨id,o,f,g,hb⟩)
 ·intro id o f g b c hb
  have c:=(AE e (h.st.lt id o f)).1 c
  rcases m _ hb with a|a|a
  ·exact h.st.free id o f g b c a
  ·have:=(h.st.obj id o f).blt g c
   have M:V.w.heap.size<=b:=a.1;omega
  ·exact l.ap b ⟨id,o,f,g,c⟩ a
 ·intro x q
  have:=h.tabs x q;exact⟨n _ this.1,(d _ (h.iLt _ this.1) λL=>l.bi _ L this.1).trans this.2⟩
 ·obtain⟨S1,u,K,H⟩:=p.hid
  have G:∀b,S1.B b->V.w.heap.size<=b\/S.B b:=λb hb=>by
   rcases H b hb with a|a|a
   ·have a:Vc.w.heap.size<=b:=a
    rw [hw] at a;exact .inl a
   ·obtain⟨_,_,h,_⟩:=a;cases h
   ·exact .inr a
  have A:∀b,S1.J b->S.J b\/V.w.heap.size<=b\/S.B b:=λb hb=>by
   rcases K b hb with a|a|a|a
   ·exact .inl a
   ·have a:Vc.w.heap.size<=b:=a
    rw [hw] at a;exact .inr (.inl a)
   ·obtain⟨_,_,h,_⟩:=a;cases h
   ·exact .inr (.inr a)
  refine⟨S1,⟨u.r,λb hb=>?_,λb hb hi=>u.bi b hb (y b hi),λb s hb=>?_⟩,λb hb=>?_,λb hb=>?_⟩
  ·rcases A b hb with a|a
   ·exact n b (l.ji b a)
   ·exact z b (u.ji b hb) a
  ·obtain⟨id,o,f,g,c⟩:=HO e h.st.lt s
   rcases G b hb with a|a
   ·have:=(h.st.obj id o f).blt g c
    omega
   ·exact l.ap b ⟨id,o,f,g,c⟩ a
  ·rcases A b hb with a|a|a
   ·exact v b a
   ·exact .inr (.inl (kw h.ext.size a))
   ·exact .inr (j b a)
  ·rcases G b hb with a|a
   ·exact .inl (kw h.ext.size a)
   ·exact j b a
theorem DL{V:View}:Gz V []:=⟨λ_ _ h=>(by cases h),λ_ _ h=>(by cases h),λ_ _ h=>(by cases h),λ_ _ _ _ h=>(by cases h)⟩
theorem A6{x:Operand}{args:Array Operand}{tys:Array TypeId}{gg:FuncId}{cap:List C}{es:List E}{r:E}(R:ev f x=some (.o (.fn gg cap)))(t:Il f args.toList=some es)(hp:(es.all E.Bt && C.Cv cap)=true)
 (L:Pure P TB gg (es++cap.map .o) r) (T:r.Bt=true):AO P TB Γ ⟨d,.call ⟨.value x,args,tys⟩,ty,pos,af,g⟩ f σ nx r:=by
 intro V a z B Y;have z:=z.Gb;unfold Oper.wp;generalize a.eval=ρ at z |-;obtain⟨vs,p,l⟩:=Kv (z.get (x:=x) (by simp [Op.operands,Call.operands]) R);rw [Jr L.1 p];rw [d6] at hp;have u:=Cz t
 have n:Lz { V with nx:=0 } (es++cap.map .o) (args.map ρ++vs):=by
  refine⟨by simp [l.1,u],λj e v q p=>?_⟩
  have m:(args.map ρ).size=es.length:=by simp [u]
  by_cases s:j < es.length
  ·rw [d8 s] at q
   rw [nt (by rw [m];exact s)] at p;refine A2.Bt (V:=V) (V':={ V with nx:=0 }) rfl rfl (GD (λy Q e X=>z.get (by simp [Op.operands,Call.operands];right;simpa using Q) X) t j e v q (by rw [<-o3];simpa using p)) (gt.1 hp.1 e (ce q))
  ·rw [ge (by omega)] at q
   rw [oe (by rw [m];omega),m] at p;simp only [d9,d7] at q;obtain⟨c,M,rfl⟩:=q;exact AA.Bt (V:=V) (V':={ V with nx:=0 }) rfl rfl (l.2 _ c v M p) (EP _ hp.2 _ c M)
 obtain⟨S,A,J,K⟩:=B.hid;refine(L.2 { V with nx:=0 } _ S ⟨B.iLt,DL,B.tabs,rfl,⟨A.r,A.ji,A.bi,λb ⟨_,_,h,_⟩=>by cases h⟩⟩ n).mono ?_;rintro e w' ⟨V1,v,Z,N,rfl,rfl,k,F,rfl⟩
 obtain⟨G,H⟩:=IU B A J K (Vc:={ V with nx:=0 }) rfl k V1.I (λb hb=>k.ext.i b hb) (λb hb=>by
  rcases k.iNew b hb with h|h|h|h
  ·exact .inl h
  ·exact .inr (.inl ⟨h,k.iLt b hb⟩)
  ·obtain⟨_,_,h,_⟩:=h;cases h
  ·exact .inr (.inr h)) (λb hb _=>hb) (λb hb=>hb)
 exact⟨{ V with I:=V1.I,w:=V1.w },v,rfl,rfl,H,G,Y,A2.Bt (V:=V1) (V':={ V with I:=V1.I,w:=V1.w }) rfl rfl F T⟩
theorem QY{x:Operand}{args:Array Operand}{tys:Array TypeId}{gg:FuncId}{cap:List C}{es es':List E}{r:E}(H:ev f x=some (.o (.fn gg cap)))(K:Il f args.toList=some es)(q:iR σ (es++cap.map .o) es')
 (hs:Pure P TB gg es' r) (hr:r.sc=true):AO P TB Γ ⟨d,.call ⟨.value x,args,tys⟩,ty,pos,af,g⟩ f σ nx r:=by
 intro V a G p h3;have G:=G.Gb;unfold Oper.wp;generalize a.eval=ρ at G |-;obtain⟨vs,Q,t⟩:=Kv (G.get (x:=x) (by simp [Op.operands,Call.operands]) H);rw [Jr hs.1 Q];have L:=Cz K
 have n:Lz V (es++cap.map .o) (args.map ρ++vs):=by
  refine⟨by simp [t.1,L],λj e v m q=>?_⟩
  have u:(args.map ρ).size=es.length:=by simp [L]
  by_cases k:j < es.length
  ·rw [d8 k] at m
   rw [nt (by rw [u];exact k)] at q;exact GD (λy hy e he=>G.get (by simp [Op.operands,Call.operands];right;simpa using hy) he) K j e v m (by rw [<-o3];simpa using q)
  ·rw [ge (by omega)] at m
   rw [oe (by rw [u];omega),u] at q;simp only [d9,d7] at m;obtain⟨c,hc,rfl⟩:=m;exact t.2 _ c v hc q
 have R:∀ {l l':List E},iR σ l l'->l.length=l'.length/\∀(j:Nat) e e',l[j]? = some e->l'[j]? = some e'->EV σ e e':=by
  intro l l' h
  induction h with
  | nil=>exact⟨rfl,λj e e' m=>by simp at m⟩
  | cons h _ ih=>
   refine⟨by simp [ih.1],λj e e' m z=>?_⟩
   cases j with
   | zero=>simp at m z;subst m z;exact h
   | succ j=>exact ih.2 j e e' (by simpa using m) (by simpa using z)
 obtain⟨s,J⟩:=R q
 have F:Lz (GL V σ) es' (args.map ρ++vs):=by
  refine⟨by rw [n.1,s],λj e v m q=>?_⟩
  have k:j < (es++cap.map E.o).length:=by rw [s];exact(am.1 m).1
  exact(J j _ e (d5 k) m).rel p (n.2 j _ v (d5 k) q)
 have k:∀b,(GL V σ).I b->b < (GL V σ).w.heap.size:=by
  rintro b (hb|⟨id,o,X,T,hb⟩)
  ·exact p.iLt b hb
  ·exact(p.st.obj id o X).blt T hb
 obtain⟨S,M,hSJ,hSB⟩:=p.hid;refine(hs.2 (GL V σ) _ S ⟨k,DL,λx H=>⟨.inl (p.tabs x H).1,(p.tabs x H).2⟩,rfl,⟨M.r,λb hb=>.inl (M.ji b hb),λb hb hi=>hi.elim (M.bi b hb) λ⟨id,o,X,T,H⟩=>M.ap b ⟨id,o,X,T,H⟩ hb,λb ⟨_,_,h,_⟩=>by cases h⟩⟩ F).mono ?_;rintro e w' ⟨V1,v,x1,σ1,rfl,rfl,A,N,rfl⟩;obtain⟨Y,Z⟩:=IU p M hSJ hSB (Vc:=GL V σ) rfl A (λb=>V.I b\/(V.w.heap.size<=b\/S.B b)/\V1.I b) (λb hb=>.inl hb) (λb hb=>hb.elim .inl λh=>.inr (h.1.elim (λg=>.inl ⟨g,A.iLt b h.2⟩) .inr)) (λb G p=>.inr ⟨p,G⟩) (λb hb=>hb.elim (λh=>A.ext.i b (.inl h)) λh=>h.2);exact⟨{ V with I:=λb=>V.I b\/(V.w.heap.size<=b\/S.B b)/\V1.I b,w:=V1.w },v,rfl,rfl,Z,Y,h3,UY N hr⟩
end
def CC:List Nat->Ab->Ab
 | [],σ=>σ
 | id::r,σ=>CC r (kill id σ)
theorem Be:∀(ids:List Nat) (σ:Ab) (i:Nat) (o:O),look (CC ids σ) i=some o->i∉ids/\look σ i=some o
 | [],σ,i,o,h=>⟨by simp,h⟩
 | id :: r,σ,i,o,h=>by
  obtain⟨b,a⟩:=Be r (kill id σ) i o h;rw [Et] at a;by_cases hi:i=id
  ·rw [if_pos hi] at a;cases a
  ·rw [if_neg hi] at a
   exact⟨by simp [hi,b],a⟩
inductive FC (σ:Ab) (ids:List Nat):C->C->Prop
 | Bn {c:C}:FC σ ids c c
 | arr {id k off len:Nat} {T:TypeId} {rows:List (List C)} {ds:List (List D)}:id∈ids->look σ id=some (.cells T k rows)->off+len<=rows.length->(rows.drop off).take len=ds.map (λr=>r.map .d)->FC σ ids (.arr id k off len) (.d (.l ds))
 | ptr {id k i j:Nat} {T:TypeId} {rows:List (List C)} {r:List C} {ds:List D}:id∈ids->look σ id=some (.cells T k rows)->rows[i]? = some r->r.drop j=ds.map .d->FC σ ids (.ptr id k i j) (.ip ds)
inductive FE (σ:Ab) (ids:List Nat):E->E->Prop
 | Bn {e:E}:FE σ ids e e
 | o {c c':C}:FC σ ids c c'->FE σ ids (.o c) (.o c')
 | nil:FE σ ids (.a []) (.a [])
 | cons {c c':C} {cs cs':List C}:FC σ ids c c'->FE σ ids (.a cs) (.a cs')->FE σ ids (.a (c::cs)) (.a (c'::cs'))
def DE(σ:Ab)(ids:List Nat)(f:Env):List (Nat×E)->Prop
 | []=>True
 | (t,e')::L=>(∃e,f t=some e/\FE σ ids e e')/\DE σ ids f L
theorem DE.get{σ:Ab}{ids:List Nat}{f:Env}:∀ {L:List (Nat×E)},DE σ ids f L->∀t e',look L t=some e'->∃e,f t=some e/\FE σ ids e e'
 | [],_,t,e,h=>by cases h
 | (k,x)::L,a,t,e,h=>by
  rw [Ax] at h;by_cases hk:k=t
  ·rw [if_pos hk] at h;injection h with h;subst h;subst hk;exact a.1
  ·rw [if_neg hk] at h;exact DE.get a.2 t e h
def Ky(V:View)(σ:Ab)(ids:List Nat):View:={ V with I:=λb=>V.I b\/∃id o,id∈ids/\look σ id=some o/\¬V.nl id/\DY V id o b }
section
variable {P:Program}{TB:Bi}{Γ:Ctx}{N:Nat}{σ:Ab}
theorem LW{V:View}{ids:List Nat}:Ext V (Ky V σ ids):=⟨λ_ h=>.inl h,λ_ _=>rfl,io _,λ_ _=>rfl,λ_ _=>rfl,λ_ _=>Iff.rfl,io _⟩
theorem FC.rel{V:View}(hi:Inv TB Γ V σ){ids:List Nat}{c c':C}{v:Value}(h:FC σ ids c c')(G:AA V c v):AA (Ky V σ ids) c' v:=by
 have e:Ext V (Ky V σ ids):=LW
 cases h with
 | Bn=>exact G.ext e
 | @arr id k off len T rows ds F z M u=>
  cases G with
  | nil L K=>
   have:ds=[]:=by
    have:=congrArg List.length u;simp at this;exact m7.1 this.symm
   subst this;exact .d .nil
  | arr L p K=>
   rcases hi.st.obj id _ z with ⟨t,_⟩|⟨_,cur,t,Q,P,N,J,H⟩
   ·exact absurd t p
   ·have y:ds.length=len:=by
     have:=congrArg List.length u;simp at this;omega
    have m:∀(i:Nat) (r:List D),ds[i]? = some r->rows[off+i]? = some (r.map .d):=λi r hi=>by
     have n:((rows.drop off).take len)[i]? = some (r.map .d):=by rw [u];simp [hi]
     rw [nk] at n;split at n
     ·rwa [nn] at n
     ·cases n
    have a:∀(i:Nat) (r:List D) (j:Nat) (x:D),ds[i]? = some r->r[j]? = some x->∃v,cur[(off+i)*k+j]? = some v/\De V.I V.w x v:=λi r j x hi A=>by
     obtain⟨v,g,f⟩:=H (off+i) (r.map .d) j (.d x) (m i r hi) (by simp [A])
     cases f with
     | d f=>exact⟨v,g,f⟩
    rw [<-y] at K |-;refine .d (.l (b:=V.ρ id) (o:=off*k) (k:=k) (vs:=λi j=>cur.getD ((off+i)*k+j) undef) (.inr ⟨id,_,F,z,p,rfl⟩) (by omega) (by omega) (λi r hi=>?_) (λi r j x hi A=>?_) (λi r j x hi A=>?_))
    ·have:=J _ (ce (m i r hi))
     simpa using this
    ·obtain⟨v,g,_⟩:=a i r j x hi A
     have e:off*k+i*k+j=(off+i)*k+j:=by rw [nz]
     rw [e];have:(Ky V σ ids).w.heap[V.ρ id]? = some (.cells cur T):=t;simp [World.cell?,this,g]
    ·obtain⟨v,g,f⟩:=a i r j x hi A
     have:cur.getD ((off+i)*k+j) undef=v:=by simp [g]
     simp only [this];exact f.ext e
 | @ptr id k i j T rows r ds F z B u=>
  cases G with
  | ptr L p=>
   rcases hi.st.obj id _ z with ⟨t,_⟩|⟨_,cur,t,Q,P,N,J,H⟩
   ·exact absurd t p
   ·have m:∀(q:Nat) (x:D),ds[q]? = some x->r[j+q]? = some (.d x):=λq x s=>by
     have n:(r.drop j)[q]? = some (.d x):=by rw [u];simp [s]
     rwa [nn] at n
    have a:∀(q:Nat) (x:D),ds[q]? = some x->∃v,cur[i*k+j+q]? = some v/\De V.I V.w x v:=λq x s=>by
     obtain⟨v,g,f⟩:=H i r (j+q) (.d x) B (m q x s)
     cases f with
     | d f=>exact⟨v,by rw [nQ];exact g,f⟩
    refine .ip (V:=Ky V σ ids) (vs:=λq=>cur.getD (i*k+j+q) undef) (.inr ⟨id,_,F,z,p,rfl⟩) (λq x s=>?_) (λq x s=>?_)
    ·obtain⟨v,g,_⟩:=a q x s
     have:(Ky V σ ids).w.heap[V.ρ id]? = some (.cells cur T):=t;simp [World.cell?,this,g]
    ·obtain⟨v,g,f⟩:=a q x s
     have:cur.getD (i*k+j+q) undef=v:=by simp [g]
     simp only [this];exact f.ext e
theorem FE.rel{V:View}(hi:Inv TB Γ V σ){ids:List Nat}{e e':E}(h:FE σ ids e e'):∀ {v:Value},A2 V e v->A2 (Ky V σ ids) e' v:=by
 induction h with
 | Bn=>intro v a;exact a.ext LW
 | o f=>intro v a;exact f.rel hi a
 | nil=>intro v a;obtain⟨vs,rfl,d,_⟩:=a;exact⟨vs,rfl,d,λj c v b=>by simp at b⟩
 | @cons c c' cs cs' f _ k=>
  rintro v ⟨vs,rfl,d,i⟩
  have l:0 < vs.size:=by rw [d];simp
  have ht:=@k (.agg (vs.extract 1 vs.size)) ⟨_,rfl,by simp [d],λj c v b a=>i (j+1) c v (by simpa using b) (by
   rw [pX] at a;split at a
   ·rw [po] at a;exact a
   ·cases a)⟩
  obtain⟨ws,g,p,n⟩:=ht
  injection g with g
  subst g;refine⟨vs,rfl,by simp at p |-;omega,λj q v b a=>?_⟩
  cases j with
  | zero=>
   simp at b;subst b;exact f.rel hi (i 0 c v (by simp) a)
  | succ j=>
   refine n j q v (by simpa using b) ?_;have m:=(ng.1 a).1;rw [pX,if_pos (by omega),po];exact a
theorem BY.freeze{V:View}{f:Env}{nx:Nat}{a:Act}(h:BY TB Γ N V f σ nx a)(ids:List Nat)(L:List (Nat×E))(r:DE σ ids f L):BY TB Γ N (Ky V σ ids) (look L) (CC ids σ) nx a:=by
 have e:Ext V (Ky V σ ids):=LW;refine⟨λt x l=>?_,λt x l=>?_,h.size,?_,h.nx,h.defers⟩
 ·obtain⟨y,n,g⟩:=r.get t x l
  exact g.rel h.inv (h.env t y n)
 ·obtain⟨y,n,_⟩:=r.get t x l
  exact h.lt t y n
 ·have hi:=h.inv
  refine⟨hi.os,hi.tape,hi.output,hi.old,?_,?_,hi.ext.trans e,⟨?_,?_,?_,?_⟩,?_,λx l=>⟨.inl (hi.tabs x l).1,(hi.tabs x l).2⟩,hi.hid.same rfl (λ_ h=>.inl h) (λb hb=>hb.elim .inl λ⟨id,o,_,c,d,q⟩=>.inr ⟨id,o,c,d,q⟩) λb ⟨id,o,c,d,hb⟩=>have g:=(Be ids σ id o c).2;⟨id,o,g,d,(AE e (hi.st.lt id o g)).1 hb⟩⟩
  ·rintro b (hb|⟨id,o,_,c,d,hb⟩)
   ·exact hi.iLt b hb
   ·exact(hi.st.obj id o c).blt d hb
  ·rintro b (hb|⟨id,o,_,c,d,hb⟩)
   ·exact hi.iNew b hb
   ·exact .inr (hi.live id o c d b hb)
  ·intro id o c
   have:=(Be ids σ id o c).2;exact(hi.st.obj id o this).Bn e (hi.st.lt id o this) λ_ _ _=>rfl
  ·intro id o c;exact hi.st.lt id o (Be ids σ id o c).2
  ·intro id o c d b i hb
   obtain⟨n,g⟩:=Be ids σ id o c;have i:=(AE e (hi.st.lt id o g)).1 i
   rcases hb with hb|⟨id',o',s,k,j,q⟩
   ·exact hi.st.free id o g d b i hb
   ·exact hi.st.inj id id' o o' g k (λe=>n (e ▸ s)) d j b i q
  ·intro id id' o o' c k p d j b hb i
   have g:=(Be ids σ id o c).2;have m:=(Be ids σ id' o' k).2;exact hi.st.inj id id' o o' g m p d j b ((AE e (hi.st.lt id o g)).1 hb) ((AE e (hi.st.lt id' o' m)).1 i)
  ·intro id o c d b hb
   have g:=(Be ids σ id o c).2;exact hi.live id o g d b ((AE e (hi.st.lt id o g)).1 hb)
theorem FC.full{ids:List Nat}{id k len:Nat}{T:TypeId}{rows:List (List C)}{ds:List (List D)}(c:id∈ids)(e:look σ id=some (.cells T k rows))(a:rows=ds.map (λr=>r.map .d))(b:rows.length=len):FC σ ids (.arr id k 0 len) (.d (.l ds)):=
 .arr c e (by omega) (by rw [pS,<-b,i9];exact a)
theorem CV.full{id k len:Nat}{T:TypeId}{rows:List (List C)}{ds:List (List D)}(c:look σ id=some (.cells T k rows))(a:rows=ds.map (λr=>r.map .d))(b:rows.length=len):CV σ (.arr id k 0 len) (.d (.l ds)):=
 .arr c (by omega) (by rw [pS,<-b,i9];exact a)
theorem Au.freeze{c:Code}{Q:Exit->Env->Ab->Nat->Prop}{f:Env}{nx:Nat}(ids:List Nat)(L:List (Nat×E))(d:DE σ ids f L)(h:Au P TB Γ N c Q (look L) (CC ids σ) nx):Au P TB Γ N c Q f σ nx:=
 λV a b=>h (Ky V σ ids) a (b.freeze ids L d)
end
end Go.Am
