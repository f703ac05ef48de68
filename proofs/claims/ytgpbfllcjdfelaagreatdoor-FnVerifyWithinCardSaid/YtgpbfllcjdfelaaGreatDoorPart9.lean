/-
  make, literals.
-/
import Derived.Test.YtgpbfllcjdfelaaGreatDoorPart8
import Derived.Laws.IdiomStrings
import Derived.ChangeKeysEq
set_option linter.all false
namespace Go.Am
open Go
def Qh(V:View)(place:Nat->Option (Nat×Nat)):List (Nat×Value)->List (Nat×List C)->Prop
 | [],[]=>True
 | (i,v)::ps,(off,cs)::qs=>place i=some (off,cs.length)/\CY V cs v.cells/\Qh V place ps qs
 | _,_=>False
def BV:List (Nat×List C)->List C->List C
 | [],z=>z
 | (off,cs)::r,z=>BV r (Af z off cs)
theorem Jl:∀(l:List (Value×Nat)) (n off:Nat) (cells:Array Value),(∀(q:Nat) (x:Value×Nat),l[q]? = some x->x.2=n+q)->off+n+l.length<=cells.size->
 (l.foldl (λcs x=>cs.setIfInBounds (off+x.2) x.1) cells).size=cells.size/\
 ∀q,(l.foldl (λcs x=>cs.setIfInBounds (off+x.2) x.1) cells)[q]? = if off+n<=q/\q < off+n+l.length then (l[q - (off+n)]?).map (·.1) else cells[q]?
 | [],n,off,cells,_,_=>by
  refine⟨rfl,λq=>?_⟩;rw [if_neg (by simp)];rfl
 | x :: l,n,off,cells,c,d=>by
  have h:x.2=n:=by simpa using c 0 x rfl
  have b:=Jl l (n+1) off (cells.setIfInBounds (off+x.2) x.1) (λq y f=>by have:=c (q+1) y (by simpa using f);omega) (by simp at d |-;omega);simp only [mM];refine⟨by rw [b.1];simp,λq=>?_⟩;rw [b.2 q,h];simp only [l7] at d |-;by_cases e:off+n<=q/\q < off+n+(l.length+1)
  ·rw [if_pos e]
   by_cases g:q=off+n
   ·subst g
    rw [if_neg (by omega)]
    have a:off+n < cells.size:=by omega
    simp [a]
   ·rw [if_pos (by omega)]
    have:q - (off+n)=(q - (off+(n+1)))+1:=by omega
    rw [this];simp
  ·rw [if_neg e,if_neg (by omega)]
   rw [mO (by omega)]
theorem UT{V:View}{z cs:List C}{cells vc cells':Array Value}{off:Nat}(f:CY V z cells)(h:CY V cs vc)(k:off+cs.length<=z.length)(i:cells'.size=cells.size)
 (l:∀q,cells'[q]? = if off<=q/\q < off+cs.length then vc[q - off]? else cells[q]?):CY V (Af z off cs) cells':=by
 refine⟨by rw [i,f.1];simp [Af];omega,λj c v b a=>?_⟩;rw [l] at a;unfold Af at b
 have d:(z.take off++cs).length=off+cs.length:=by simp;omega
 have e:(z.take off).length=off:=by simp;omega
 by_cases m:j < off+cs.length
 ·rw [d9 (by rw [d];exact m)] at b
  by_cases g:j < off
  ·rw [d9 (by rw [e];exact g),lR,if_pos g] at b
   rw [if_neg (by omega)] at a;exact f.2 j c v b a
  ·rw [em (by rw [e];omega),e] at b
   rw [if_pos (by omega)] at a;exact h.2 _ c v b a
 ·rw [em (by rw [d];omega),d,lS] at b
  rw [if_neg (by omega)] at a
  have:off+cs.length+(j - (off+cs.length))=j:=by omega
  rw [this] at b;exact f.2 j c v b a
theorem Iu(n:Nat):∀(qs:List (Nat×List C)),(qs.all λx=>Nat.ble (x.1+x.2.length) n)=true->∀x∈qs,x.1+x.2.length<=n:=by
 intro qs h x a;exact am (gc.1 h x a)
theorem FR{V:View}{place:Nat->Option (Nat×Nat)}:∀(ps:List (Nat×Value)) (qs:List (Nat×List C)) (z:List C) (cells:Array Value),Qh V place ps qs->CY V z cells->(∀x∈qs,x.1+x.2.length<=z.length)->
 ∃cells',Instr.fill place cells ps=some cells'/\CY V (BV qs z) cells'
 | [],[],z,cells,_,d,_=>⟨cells,rfl,d⟩
 | [],_::_,_,_,h,_,_=>h.elim
 | _::_,[],_,_,h,_,_=>h.elim
 | (i, v)::ps,(off,cs)::qs,z,cells,h,d,l=>by
  obtain⟨s,m,r⟩:=h;have c:off+cs.length<=z.length:=l (off,cs) (by simp);have b:=m.1
  have k:=Jl v.cells.zipIdx.toList 0 off cells (λq x e=>by
   have:=ms (xs:=v.cells.zipIdx) (i:=q);rw [this,Array.getElem?_zipIdx] at e;simp only [d7] at e;obtain⟨a,_,rfl⟩:=e
   simp) (by simp [b];rw [d.1];exact c)
  rw [Array.foldl_toList] at k
  have j:CY V (Af z off cs) (v.cells.zipIdx.foldl (λcs (x:Value×Nat)=>cs.setIfInBounds (off+x.2) x.1) cells):=by
   refine UT d m c k.1 λq=>?_;rw [k.2 q]
   have n:v.cells.zipIdx.toList.length=cs.length:=by simp [b]
   rw [n,nO];by_cases g:off<=q/\q < off+cs.length
   ·rw [if_pos g,if_pos g,ms,Array.getElem?_zipIdx]
    cases v.cells[q - off]?<;>rfl
   ·rw [if_neg g,if_neg g]
  obtain⟨cells',p,o⟩:=FR ps qs _ _ r j (λx e=>by
   have:=l x (by simp [e])
   have f:(Af z off cs).length=z.length:=by simp [Af];omega
   rw [f];exact this)
  refine⟨cells',?_,o⟩;unfold Instr.fill;rw [s]
  have hno:¬(v.cells.size≠cs.length || decide (off+v.cells.size > cells.size))=true:=by
   simp [b];rw [d.1];exact c
  simp only;rw [if_neg (by simpa using hno)];exact p
def Jf(f:Env):List Operand->Option (List E)
 | []=>some []
 | x::l=>(ev f x).bind λe=>(Jf f l).map (e :: ·)
def Dh{α:Type}:Nat->List α->List (Nat×α)
 | _,[]=>[]
 | k,x::l=>(k,x)::Dh (k+1) l
def Gy(k:Nat):Nat->List E->List (Nat×List C)
 | _,[]=>[]
 | i,e::l=>(i*k,eC e)::Gy k (i+1) l
theorem VL{f:Env}:∀ {l:List Operand} {es:List E},Jf f l=some es->∀(j:Nat) (x:Operand) (e:E),l[j]? = some x->es[j]? = some e->ev f x=some e
 | [],es,h,j,x,e,a,_=>by simp at a
 | y::l,es,h,j,x,e,a,b=>by
  simp only [Jf,lH,d7] at h;obtain⟨e',d,es',c,rfl⟩:=h
  cases j with
  | zero=>simp at a b;subst a b;exact d
  | succ j=>exact VL c j x e (by simpa using a) (by simpa using b)
theorem CJ{f:Env}:∀ {l:List Operand} {es:List E},Jf f l=some es->es.length=l.length
 | [],es,h=>by injection h with h;subst h;rfl
 | y::l,es,h=>by
  simp only [Jf,lH,d7] at h;obtain⟨e',b,es',a,rfl⟩:=h;simp [CJ a]
theorem NK(k:Nat):∀(es:List E) (i:Nat) (pre post:List C),pre.length=i*k->post.length=es.length*k->(∀e∈es,(eC e).length=k)->
 BV (Gy k i es) (pre++post)=pre++(es.map eC).flatten
 | [],i,pre,post,_,d,_=>by
  have:post=[]:=lw.1 (by simpa using d);subst this;simp [Gy,BV]
 | e :: es,i,pre,post,b,f,hk=>by
  have a:=hk e (by simp);simp only [l7,lZ,Nat.one_mul] at f
  have:Af (pre++post) (i*k) (eC e)=(pre++eC e)++post.drop k:=by
   unfold Af;rw [<-b,List.take_left,<-List.drop_drop,List.drop_left,a]
  simp only [Gy,BV,this];rw [NK k es (i+1) (pre++eC e) (post.drop k) (by simp [b,a,lZ]) (by simp;omega) (λx c=>hk x (by simp [c]))];simp
section
variable {P:Program}{TB:Bp}{Z:Ctx}{d:Option Tmp}{ty:TypeId}{pos:String}{af:Array Edge}{g:Option (Nat×Bool)}{f:Env}{σ:Ab}{nx:Nat}
variable {K:E->Ab->Nat->Prop}
theorem Iv{V:View}{k:Nat}:∀ {rows:List (List C)} {cur:Array Value},CY V rows.flatten cur->(∀r∈rows,r.length=k)->∀(i:Nat) (r:List C) (j:Nat) (c:C),rows[i]? = some r->r[j]? = some c->∃v,cur[i*k+j]? = some v/\AF V c v:=by
 intro rows cur h hk i r j c hi d
 have key:∀(rows:List (List C)) (i:Nat),(∀r∈rows,r.length=k)->rows[i]? = some r->rows.flatten[i*k+j]? = some c:=by
  intro rows
  induction rows with
  | nil=>intro i _ hi;simp at hi
  | cons f rows g=>
   intro i hk hi
   cases i with
   | zero=>
    simp at hi;subst hi;have a:=(ce.1 d).1;rw [pi,mN,lE,d9 a];exact d
   | succ i=>
    have b:=hk f (by simp);rw [pi,em (by rw [b,lZ];omega),b]
    have:(i+1)*k+j - k=i*k+j:=by rw [lZ];omega
    rw [this];exact g i (λr l=>hk r (by simp [l])) (by simpa using hi)
 have e:=key rows i hk hi
 have a:i*k+j < cur.size:=by rw [h.1];exact(ce.1 e).1
 exact⟨cur[i*k+j],lD a,h.2 _ c _ e (lD a)⟩
theorem Qe{V:View}{zv:Value}{z:List Value}{n:Nat}(d:zv.cells.toList=z)(o:z.all Pm=true):CY V ((List.replicate n (z.map zC)).flatten) ((Array.range (n*z.length)).map (zv.cells[· % zv.cells.size]!)):=by
 have k:zv.cells.size=z.length:=by rw [<-d];simp
 refine⟨by simp [o4],λq c v f s=>?_⟩
 have b:q < n*z.length:=by
  have:=(ce.1 f).1
  simpa [o4] using this
 have hk:0 < z.length:=by rcases mh z.length with r|r;(rw [r] at b;simp at b);exact r
 have a:q % z.length < z.length:=Nat.mod_lt _ hk
 have y : ((List.replicate n (z.map zC)).flatten)[q]? = some (zC z[q % z.length]):=by
  have u:q / z.length < n:=Nat.div_lt_of_lt_mul (by rw [oc];exact b)
  have key:∀(n i j:Nat),i < n->j < z.length->((List.replicate n (z.map zC)).flatten)[i*z.length+j]? = some (zC (z[j]?.getD undef)):=by
   intro n
   induction n with
   | zero=>intro i j h;omega
   | succ n t=>
    intro i j hi p;rw [nZ,pi]
    cases i with
    | zero=>rw [mN,lE,d9 (by simpa using p)];simp [p]
    | succ i=>
     rw [em (by simp [lZ];omega)]
     have:(i+1)*z.length+j - (z.map zC).length=i*z.length+j:=by simp [lZ];omega
     rw [this];exact t i j (by omega) p
  have:=key n (q / z.length) (q % z.length) u a
  have e:q / z.length*z.length+q % z.length=q:=by rw [oc];exact Nat.div_add_mod q _
  rw [e] at this;rw [this];simp [a]
 rw [y] at f
 injection f with f
 subst f
 have x:v=z[q % z.length]:=by
  simp only [Array.getElem?_map,d7] at s;obtain⟨q',m,rfl⟩:=s
  have l:q'=q:=by
   have:=lL.1 m;obtain⟨A,w⟩:=this
   simpa using w.symm
  subst l
  have g:q' % zv.cells.size < zv.cells.size:=by rw [k];exact a
  rw [getElem!_pos zv.cells _ g];subst d;simp
 rw [x];exact JR (gc.1 o _ (l6 a))
theorem HM{t:TypeId}{z:List Value}(h:YJ P t=some z):∃i zv,P.info? t=some i/\i.zero=some zv/\zv.cells.toList=z:=by
 simp only [YJ,lH,d7] at h;obtain⟨i,hi,zv,b,a⟩:=h;exact⟨i,zv,hi,b,a⟩
theorem Tf{V:View}(h:Inv TB Z V σ){e:TypeId}{k c:Nat}{rows:List (List C)}{cur:Array Value}{w:World}(n:w=V.w.alloc (.cells cur e))(f:cur.size=c*k)(d:rows.length<=c)(g:c<=maxLen)(hk:∀r∈rows,r.length=k)
 (p:∀(i:Nat) (r:List C) (j:Nat) (c:C),rows[i]? = some r->r[j]? = some c->∃v,cur[i*k+j]? = some v/\AF V c v) :
 Inv TB Z (Ax V V.w.heap.size c False w) ((V.nx,.cells e k rows)::σ)/\Ext V (Ax V V.w.heap.size c False w)/\AF (Ax V V.w.heap.size c False w) (.arr V.nx k 0 rows.length) (.slice (some ⟨V.w.heap.size,0,none⟩) rows.length c):=by
 subst n;have ee:Ext V (Ax V V.w.heap.size c False (V.w.alloc (.cells cur e))):=En (by simp) λb hb=>Bj _ _ _ (h.iLt b hb)
 have l:(Ax V V.w.heap.size c False (V.w.alloc (.cells cur e))).ρ V.nx=V.w.heap.size:=by simp [Ax]
 have a:(Ax V V.w.heap.size c False (V.w.alloc (.cells cur e))).cap V.nx=c:=by simp [Ax]
 have m:=h.alloc (c:=c) (nl:=False) (w:=V.w.alloc (.cells cur e)) (ob:=.cells e k rows) rfl rfl rfl rfl (by simp) (λb hb=>Bj _ _ _ hb) (.inr ⟨by simp [Ax],cur,by rw [l];exact Cp _ _,by rw [a];exact f,by rw [a];exact d,by rw [a];exact g,hk,
  λi r j c hi o=>let ⟨v,s,q⟩:=p i r j c hi o;⟨v,s,q.ext ee⟩⟩)
 refine⟨m.1,m.2,?_⟩;have:=@AF.arr (Ax V V.w.heap.size c False (V.w.alloc (.cells cur e))) V.nx k 0 rows.length (by simp [Ax]) (by simp [Ax]) (by rw [a];omega);rw [l,a,mN,pu] at this;exact this
theorem N8{t e:TypeId}{k b:Nat}{z:List Value}{x y:Operand}{ik ik':IntKind}{n c:Int}[hl:CL P t e k b][hz:BJ P e z](hx:ev f x=some (eI ik n))(hy:ev f y=some (eI ik' c))(a:z.length=k)(I:z.all Pm=true)(hb0:0 < b)
 (h0:0<=n) (hnc:n<=c) (hc:c*b<=140737488355328) (hK:K (.o (.arr nx k 0 n.toNat)) ((nx,.cells e k (List.replicate n.toNat (z.map zC)))::σ) (nx+1)):BQ P TB Z ⟨d,.makeSlice t x y,ty,pos,af,g⟩ f σ nx K:=
 Dr λV ρ S h2 h3=>by
  subst h3;obtain⟨i,hu,hi,p,u⟩:=GG hl.out;obtain⟨i',zv,h,A,m⟩:=HM hz.out
  rw [hi] at h;injection h with h;subst h
  have G:ρ x=.int ik n:=AF.val (S.get (by simp [Op.operands]) hx);have F:ρ y=.int ik' c:=AF.val (S.get (by simp [Op.operands]) hy)
  have Q:0<=c:=by omega
  have hcb:c<=c*b:=by
   have:=ml (show (1:Int)<=(b:Int) by omega) Q;omega
  have wn:IntKind.i64.wrap n=n:=IntWalk.i64_in n (by omega);have wc:IntKind.i64.wrap c=c:=IntWalk.i64_in c (by omega)
  have Y:zv.cells.size=k:=by rw [<-a,<-m];simp
  let cur:Array Value:=(Array.range (c.toNat*z.length)).map (zv.cells[· % zv.cells.size]!)
  have B:=Qe (V:=V) (n:=c.toNat) m I
  have q:∀r∈List.replicate c.toNat (z.map zC),r.length=k:=λr H=>by rw [List.eq_of_mem_replicate H];simp [a]
  obtain⟨L,M,s⟩:=Tf h2 (e:=e) (k:=k) (c:=c.toNat) (rows:=List.replicate n.toNat (z.map zC)) (cur:=cur) rfl (by simp [cur,a]) (by simp;omega) (by unfold maxLen;omega) (λr H=>by rw [List.eq_of_mem_replicate H];simp [a])
   (λi r j cc hi hj=>Iv B q i r j cc (by
    rw [List.getElem?_replicate] at hi |-;split at hi
    ·rw [if_pos (by omega)];exact hi
    ·cases hi) hj)
  rw [List.length_replicate] at s;refine⟨.slice (some ⟨V.w.heap.size,0,none⟩) n.toNat c.toNat,_,_,_,?_,M,L,(show Bg _ (.o _) _ from s),hK⟩
  have R:(b:Int)*c<=140737488355328:=by rw [nQ];exact hc
  have ht:¬(281474976710656:Int) < (b:Int)*c:=by omega
  show ((do let v <-Instr.makeSlice t (ρ x) (ρ y);pure (Go.Next.value v):Sem Go.Next)).run P V.w=_
  rw [G,F]
  have J:(Instr.makeSlice t (.int ik n) (.int ik' c)).run P V.w=.ok (.slice (some ⟨V.w.heap.size,0,none⟩) n.toNat c.toNat) (V.w.alloc (.cells cur e)):=by
   have X:¬c < 0:=by omega
   have U:¬n < 0:=by omega
   have T:¬c < n:=by omega
   simp only [Instr.makeSlice,lG,run_underlying hu,lc,asInt,asIntOf,pure_bind,bind_pure_comp,map_pure,typeInfo,sizeOf,wn,wc];by_cases l:c.toNat*k=0
   ·have N:cur = #[]:=by
     have:cur.size=0:=by simp [cur,a,l]
     exact mQ this
    simp [go_sem,hi,u,p,X,U,T,ht,askRoom,l,newRow,newObj,N];rfl
   ·simp [go_sem,hi,u,p,X,U,T,ht,askRoom,l,newRow,newObj,zeroValue,typeInfo,A,cur,a]
    rfl
  simp only [lG,J,lc];rfl
theorem MB{α β:Type}(h:α->β):∀(l:List α) (k:Nat),(Dh k l).map (λx=>(x.1,h x.2))=Dh k (l.map h)
 | [],_=>rfl
 | x::l,k=>by simp [Dh,MB h l (k+1)]
theorem Mp{V:View}{size:Nat}{ρ:Operand->Value}:∀(l:List Operand) (es:List E) (i:Nat),(∀x∈l,∀e,ev f x=some e->Bg V e (ρ x))->Jf f l=some es->(∀e∈es,Sc e=true)->(∀e∈es,(eC e).length=size)->
 Qh V (λi=>some (i*size,size)) (Dh i (l.map ρ)) (Gy size i es)
 | [],es,i,_,h,_,_=>by injection h with h;subst h;trivial
 | x::l,es,i,a,h,c,hk=>by
  simp only [Jf,lH,d7] at h;obtain⟨e',j,es',g,rfl⟩:=h;refine⟨?_,NI (c e' (by simp)) (a x (by simp) e' j),Mp l es' (i+1) (λx d=>a x (by simp [d])) g (λe b=>c e (by simp [b])) (λe b=>hk e (by simp [b]))⟩;rw [hk e' (by simp)]
theorem Ob(k:Nat):∀(es:List E) (i n:Nat),(∀e∈es,(eC e).length=k)->i+es.length<=n->∀x∈Gy k i es,x.1+x.2.length<=n*k
 | [],_,_,_,_,x,h=>by simp [Gy] at h
 | e :: es,i,n,hk,a,x,h=>by
  simp only [Gy,lF] at h;simp only [l7] at a
  rcases h with rfl|h
  ·simp only [hk e (by simp)]
   have:=l5 k (show i+1<=n by omega);rw [lZ] at this;omega
  ·exact Ob k es (i+1) n (λe b=>hk e (by simp [b])) (by omega) x h
theorem Ox{t e:TypeId}{k b:Nat}{z:List Value}(U:gd P t=some (e,k,b))(R:YJ P e=some z)(c:z.length=k)(H:z.all Pm=true){xs:List Operand}{es:List E}{V:View}{ρ:Operand->Value}(B:∀x∈xs,∀e,ev f x=some e->Bg V e (ρ x))
 (u:Jf f xs=some es) (T:es.all Sc=true) (hk:∀x∈es,(eC x).length=k) (X:xs.length*k<=16777216) :
 ∃cur,(Instr.buildSlice t xs.length ((Dh 0 xs).toArray.map λ(i,x)=>(i,ρ x))).run P V.w=.ok (.slice (some ⟨V.w.heap.size,0,none⟩) xs.length xs.length) (V.w.alloc (.cells cur e))/\cur.size=xs.length*k/\CY V (es.map eC).flatten cur:=by
 obtain⟨i,S,hi,s,_⟩:=GG U;obtain⟨i',zv,j,F,o⟩:=HM R
 rw [hi] at j;injection j with j;subst j
 have Q:zv.cells.size=k:=by rw [<-c,<-o];simp
 have v:=CJ u;have I:=Mp (size:=k) xs es 0 B u (λx r=>gc.1 T x r) hk;have G:=Qe (V:=V) (n:=xs.length) o H
 have p:((List.replicate xs.length (z.map zC)).flatten).length=xs.length*k:=by simp [o4,c]
 obtain⟨cur,A,J⟩:=FR _ _ _ _ I G (λx r=>by rw [p];exact Ob k es 0 xs.length hk (by omega) x r);have M:=NK k es 0 [] ((List.replicate xs.length (z.map zC)).flatten) (by simp) (by rw [p,v]) hk;simp only [nj] at M;rw [M] at J;refine⟨cur,?_,?_,J⟩
 ·have d:((Dh 0 xs).toArray.map λ(i,x)=>(i,ρ x)).toList=Dh 0 (xs.map ρ):=by
   rw [<-MB];simp
  have L:¬2 ^ 24 < xs.length*k:=by
   have:(2:Nat) ^ 24=16777216:=by decide
   omega
  simp only [Instr.buildSlice,lG,run_underlying S,lc,sizeOf,typeInfo,bind_pure_comp]
  have y:¬16777216 < xs.length*k:=by omega
  have m:=d;simp only [pp] at m;by_cases K:xs.length*k=0
  ·have q:∀g:Nat->Value,Array.map g (Array.range (xs.length*k)) = #[]:=λg=>mQ (by simp [K])
   rw [c,q] at A;simp [go_sem,hi,s,newRow,newObj,y,q,m];rw [if_pos K,A];rfl
  ·rw [c] at A
   unfold Value.cells at A;simp [go_sem,hi,s,K,y,newRow,newObj,zeroValue,typeInfo,F,m];rw [A];rfl
 ·rw [J.1]
  have:∀l:List E,(∀x∈l,(eC x).length=k)->(l.map eC).flatten.length=l.length*k:=by
   intro l
   induction l with
   | nil=>simp
   | cons a l N=>intro h;simp [N (λx r=>h x (by simp [r])),h a (by simp),lZ,oa]
  rw [this es hk,v]
end
abbrev eT(l:List UInt8):E:=.o (.d (.v (.string ⟨l.toArray⟩)))
def ON:List E->Option (List (List D))
 | []=>some []
 | e::l=>(Pl (eC e)).bind λr=>(ON l).map (r :: ·)
theorem OO:∀ {l:List E} {rows:List (List D)},ON l=some rows->rows.length=l.length/\∀(i:Nat) (r:List D),rows[i]? = some r->∃e,l[i]? = some e/\Pl (eC e)=some r
 | [],rows,h=>by injection h with h;subst h;exact⟨rfl,λi r hi=>by simp at hi⟩
 | e::l,rows,h=>by
  simp only [ON,lH,d7] at h;obtain⟨g,f,rows',d,rfl⟩:=h;have a:=OO d;refine⟨by simp [a.1],λi r hi=>?_⟩
  cases i with
  | zero=>simp at hi;subst hi;exact⟨e,rfl,f⟩
  | succ i=>obtain⟨e',c,b⟩:=a.2 i r (by simpa using hi);exact⟨e',by simpa using c,b⟩
def ie(P:Program)(t:TypeId):Option (List (Nat×Nat)):=match P.underlying t with
 | some (.struct fs)=>fs.toList.mapM λf=>(P.info? f.type).map λi=>(f.offset,i.size)
 | some (.array n e)=>(P.info? e).map λi=>(List.range n).map λj=>(j*i.size,i.size)
 | _=>none
class D0 (P:Program) (t:TypeId) (fl:outParam (List (Nat×Nat))):Prop where
 out:ie P t=some fl
def E9(fl:List (Nat×Nat)):List (Nat×Operand)->List E->Option (List (Nat×List C))
 | [],[]=>some []
 | (i,_)::ps,e::es=>match fl[i]? with
  | some (off,size)=>bif Nat.beq (eC e).length size && Sc e then (E9 fl ps es).map ((off,eC e) :: ·) else none
  | none=>none
 | _,_=>none
section
variable {P:Program}{TB:Bp}{Z:Ctx}{d:Option Tmp}{ty:TypeId}{pos:String}{af:Array Edge}{g:Option (Nat×Bool)}{f:Env}{σ:Ab}{nx:Nat}
variable {K:E->Ab->Nat->Prop}
theorem KK{t e:TypeId}{k b n:Nat}{z:List Value}{parts:Array (Nat×Operand)}(A:gd P t=some (e,k,b))(q:YJ P e=some z)(j:z.length=k)(m:z.all Pm=true){es:List E}{V:View}{ρ:Operand->Value}(h:Mi V ⟨d,.buildSlice t n parts,ty,pos,af,g⟩ f ρ)
 (s:Dh 0 (parts.toList.map (·.2))=parts.toList) (y:parts.toList.length=n) (o:Jf f (parts.toList.map (·.2))=some es) (u:es.all Sc=true) (hk:∀x∈es,(eC x).length=k) (l:n*k<=16777216) :
 ∃cur,(execOp ρ ⟨d,.buildSlice t n parts,ty,pos,af,g⟩).run P V.w=.ok (.value (.slice (some ⟨V.w.heap.size,0,none⟩) n n)) (V.w.alloc (.cells cur e))/\cur.size=n*k/\CY V (es.map eC).flatten cur:=by
 have a:(parts.toList.map (·.2)).length=n:=by simpa using y
 obtain⟨cur,c,p,F⟩:=Ox (P:=P) (f:=f) (V:=V) (xs:=parts.toList.map (·.2)) (ρ:=ρ) A q j m (λx r e B=>h.get (by simp only [Op.operands];simpa using r) B) o u hk (by rw [a];exact l);rw [a] at c p;refine⟨cur,?_,p,F⟩;rw [s] at c
 show ((do let v <-Instr.buildSlice t n (parts.map λ(i,x)=>(i,ρ x));pure (Go.Next.value v):Sem Go.Next)).run P V.w=_
 rw [Array.toArray_toList] at c;simp only [lG,c,lc];rfl
theorem aI{t e:TypeId}{k b n:Nat}{z:List Value}{parts:Array (Nat×Operand)}{es:List E}{rows:List (List D)}[hl:CL P t e k b][T:BJ P e z](X:Dh 0 (parts.toList.map (·.2))=parts.toList)(N:parts.toList.length=n)
 (A:Jf f (parts.toList.map (·.2))=some es) (Y:es.all Sc=true) (G:ON es=some rows) (hk:(rows.all λr=>Nat.beq r.length k)=true) (F:z.length=k) (H:z.all Pm=true) (K:Nat.ble 1 k=true) (p:Nat.ble (n*k) 16777216=true) :
 AW P TB Z ⟨d,.buildSlice t n parts,ty,pos,af,g⟩ f σ nx (.o (.d (.l rows))):=
 PX λV ρ h1 h2=>by
  have c:=OO G
  have s:∀x∈es,(eC x).length=k:=λx U=>by
   obtain⟨i,hi,rfl⟩:=lT U
   have y:i < rows.length:=by omega
   obtain⟨e',m,S⟩:=c.2 i rows[i] (d5 y);rw [d5 hi] at m
   injection m with m
   rw [m,<-MI S];exact f7 (gc.1 hk _ (l6 y))
  obtain⟨cur,m,S,h5⟩:=KK hl.out T.out F H h1 X N A Y s (am p);obtain⟨hi,Q⟩:=h2.Y0 (w:=V.w.alloc (.cells cur e)) rfl rfl rfl (by simp) (λb hb=>Bj _ _ _ hb)
  have q:rows.length=n:=by
   rw [c.1,CJ A];simpa using N
  have a:∀(i:Nat) (r:List D) (j:Nat) (x:D),rows[i]? = some r->r[j]? = some x->∃v,cur[i*k+j]? = some v/\Di V.I V.w x v:=λi r j x hi u=>by
   obtain⟨e',B,M⟩:=c.2 i r hi;have h8:=KV M j x u
   obtain⟨v,R,h⟩:=Iv h5 (λr G=>by
    obtain⟨e2,L,rfl⟩:=d8.1 G
    exact s e2 L) i (eC e') j (.d x) (by simp [B]) h8
   cases h with
   | d h=>exact⟨v,R,h⟩
  have J:n<=maxLen:=by
   have R:=am p;have:n<=n*k:=mL _ (am K);unfold maxLen;omega
  refine⟨_,_,m,Q,hi,rfl,?_⟩;have hb:(QT V (V.w.alloc (.cells cur e))).I V.w.heap.size:=.inr rfl;have hh:(QT V (V.w.alloc (.cells cur e))).w.heap[V.w.heap.size]? = some (.cells cur e):=Cp _ _;have := @Di.l (QT V (V.w.alloc (.cells cur e))).I (QT V (V.w.alloc (.cells cur e))).w rows V.w.heap.size 0 k n (λi j=>cur.getD (i*k+j) undef) hb (by omega) J
   (λi r hi=>f7 (gc.1 hk _ (co hi)))
   (λi r j x hi u=>by
    obtain⟨v,B,_⟩:=a i r j x hi u
    simp [World.cell?,hh,B])
   (λi r j x hi u=>by
    obtain⟨v,B,M⟩:=a i r j x hi u
    have:cur.getD (i*k+j) undef=v:=by simp [B]
    rw [this];exact M.ext Q)
  rw [q] at this;exact .d this
theorem Bb{t e:TypeId}{k b n:Nat}{z:List Value}{parts:Array (Nat×Operand)}{es:List E}[H:CL P t e k b][A:BJ P e z](F:Dh 0 (parts.toList.map (·.2))=parts.toList)(w:parts.toList.length=n)
 (l:Jf f (parts.toList.map (·.2))=some es) (G:es.all Sc=true) (j:∀x∈es,(eC x).length=k) (m:z.length=k) (p:z.all Pm=true) (s:Nat.ble 1 k=true) (a:Nat.ble (n*k) 16777216=true)
 (J:K (.o (.arr nx k 0 n)) ((nx,.cells e k (es.map eC))::σ) (nx+1)):BQ P TB Z ⟨d,.buildSlice t n parts,ty,pos,af,g⟩ f σ nx K:=
 Dr λV ρ Q N v=>by
  subst v;obtain⟨cur,v,M,L⟩:=KK H.out A.out m p Q F w l G j (am a)
  have i:(es.map eC).length=n:=by
   rw [f9,CJ l];simpa using w
  have q:n<=maxLen:=by
   have S:=am a;have:n<=n*k:=mL _ (am s);unfold maxLen;omega
  have h:∀r∈es.map eC,r.length=k:=λr B=>by
   obtain⟨R,u,rfl⟩:=d8.1 B;exact j R u
  obtain⟨hi,I,y⟩:=Tf N (e:=e) (k:=k) (c:=n) (rows:=es.map eC) (cur:=cur) rfl M (by omega) q h (Iv L h);rw [i] at y;exact⟨_,_,_,_,v,I,hi,(show Bg _ (.o _) _ from y),J⟩
theorem C9{V:View}{ρ:Operand->Value}{fl:List (Nat×Nat)}:∀(ps:List (Nat×Operand)) (es:List E) (qs:List (Nat×List C)),(∀x∈ps.map (·.2),∀e,ev f x=some e->Bg V e (ρ x))->Jf f (ps.map (·.2))=some es->E9 fl ps es=some qs->
 Qh V (fl[·]?) (ps.map λ(i,x)=>(i,ρ x)) qs
 | [],es,qs,_,a,h=>by
  injection a with a;subst a
  injection h with h;subst h;trivial
 | (i, x)::ps,es,qs,b,a,h=>by
  simp only [mt,Jf,lH,d7] at a;obtain⟨e',k,es',j,rfl⟩:=a;simp only [E9] at h;split at h
  ·rename_i off size c
   cases hb:Nat.beq (eC e').length size && Sc e'
   ·rw [hb] at h;cases h
   ·rw [hb] at h
    simp only [cond_true,d7] at h;obtain⟨qs',g,rfl⟩:=h;rw [d4] at hb;have:=f7 hb.1;subst this;exact⟨c,NI hb.2 (b x (by simp) e' k),C9 ps es' qs' (λy d=>b y (by simp at d |-;exact .inr d)) j g⟩
  ·cases h
theorem AV{t:TypeId}{z:List Value}{fl:List (Nat×Nat)}{parts:Array (Nat×Operand)}{es:List E}{qs:List (Nat×List C)}[X:BJ P t z][hf:D0 P t fl](R:Jf f (parts.toList.map (·.2))=some es)(Y:E9 fl parts.toList es=some qs)
 (M:z.all Pm=true) (N:(qs.all λx=>Nat.ble (x.1+x.2.length) z.length)=true):AW P TB Z ⟨d,.build t parts,ty,pos,af,g⟩ f σ nx (.a (BV qs (z.map zC))):=
 AI λV ρ h1 _=>by
  obtain⟨i,zv,hi,A,s⟩:=HM X.out;have Q:=C9 (V:=V) (ρ:=ρ) parts.toList es qs (λx J e he=>h1.get (by simp only [Op.operands];simpa using J) he) R Y
  have I:CY V (z.map zC) zv.cells:=by
   refine⟨by rw [f9,<-s];simp,λj c v T S=>?_⟩;simp only [ge,d7] at T;obtain⟨u,k,rfl⟩:=T
   have:u=v:=by
    rw [<-s] at k;simp only [ms] at k;rw [k] at S;exact Option.some.inj S
   subst this;exact JR (gc.1 M u (co k))
  obtain⟨cells,G,h4⟩:=FR _ _ _ _ Q I (λx J=>by rw [f9];exact Iu _ _ N x J);have r:=hf.out
  have b:(parts.map λ(i,x)=>(i,ρ x)).toList=parts.toList.map λ(i,x)=>(i,ρ x):=by simp
  refine⟨.agg cells,?_,cells,rfl,h4⟩
  have hb : (Instr.build t (parts.map λ(i,x)=>(i,ρ x))).run P V.w=.ok (.agg cells) V.w:=by
   unfold ie at r;split at r
   ·rename_i fs k
    have L:∀(l:List Field) (ll:List (Nat×Nat)),(l.mapM λf=>(P.info? f.type).map λi=>(f.offset,i.size))=some ll->∀w,((l.mapM λf=>do pure (f.offset,<-sizeOf f.type)):Sem (List (Nat×Nat))).run P w=.ok ll w:=by
     intro l
     induction l with
     | nil=>intro ll h w;simp at h;subst h;simp [go_sem]
     | cons y l H=>
      intro ll h w;simp only [nu,o5,lH,d7] at h;obtain⟨p,⟨ii,o,rfl⟩,ll',h5,U⟩:=h;simp at U;subst U
      have K:(sizeOf y.type).run P w=.ok ii.size w:=by simp [sizeOf,typeInfo,o,go_sem]
      have ihh:=H ll' h5 w;simp only [bind_pure_comp] at ihh;simp only [nu,lG,K,lc,bind_pure_comp,nI,ihh]
    have B:=L fs.toList fl r V.w
    have m:(zeroValue t).run P V.w=.ok zv V.w:=by simp [zeroValue,typeInfo,hi,A,go_sem]
    have ha:((fs.mapM λf=>do pure (f.offset,<-sizeOf f.type)):Sem (Array (Nat×Nat))).run P V.w=.ok fl.toArray V.w:=by
     rw [n8,nI,B];rfl
    rw [<-b] at G;simp only [Instr.build,lG,m,lc,run_underlying k,ha];simp only [mu];rw [G];rfl
   ·rename_i n e k
    simp only [d7] at r;obtain⟨ii,o,rfl⟩:=r
    have m:(zeroValue t).run P V.w=.ok zv V.w:=by simp [zeroValue,typeInfo,hi,A,go_sem]
    have K:(sizeOf e).run P V.w=.ok ii.size V.w:=by simp [sizeOf,typeInfo,o,go_sem]
    have q:∀(ps:List (Nat×Value)) (c c':Array Value),Instr.fill (λi=>((List.range n).map λj=>(j*ii.size,ii.size))[i]?) c ps=some c'->Instr.fill (λi=>some (i*ii.size,ii.size)) c ps=some c':=by
     intro ps
     induction ps with
     | nil=>intro c c' h;simpa [Instr.fill] using h
     | cons p ps H=>
      intro c c' h;obtain⟨i',v'⟩:=p;unfold Instr.fill at h |-;by_cases F:i' < n
      ·simp only [ge,nA F,nh] at h
       simp only at h |-;split at h
       ·cases h
       ·rename_i hno
        rw [if_neg hno];exact H _ _ (by simpa only [ge] using h)
      ·simp [F] at h
    rw [<-b] at G;simp only [Instr.build,lG,m,lc,run_underlying k,K];rw [q _ _ _ G];rfl
   ·cases r
  show ((do let v <-Instr.build t (parts.map λ(i,x)=>(i,ρ x));pure (Go.Next.value v):Sem Go.Next)).run P V.w=_
  simp only [lG,hb,lc];rfl
theorem Gx(k e:Nat)(i:K (.o (.arr nx k 0 0)) ((nx,.cells e k [])::σ) (nx+1)):BQ P TB Z ⟨d,.assign (.const (.slice none 0 0)),ty,pos,af,g⟩ f σ nx K:=by
 intro V a m l j;subst j;obtain⟨hi,h⟩:=l.alloc (c:=0) (nl:=True) (w:=V.w) (ob:=.cells e k []) rfl rfl rfl rfl (io _) (λ_ _=>rfl) (.inl ⟨by simp [Ax],rfl⟩);unfold Oper.wp
 have b:(execOp a.eval ⟨d,.assign (.const (.slice none 0 0)),ty,pos,af,g⟩).run P V.w=.ok (.value (.slice none 0 0)) V.w:=by simp [execOp,go_sem]
 rw [b];exact⟨Ax V V.w.heap.size 0 True V.w,.slice none 0 0,.o (.arr V.nx k 0 0),_,rfl,rfl,h,hi,AF.nil (by simp [Ax]) (by simp [Ax]),i⟩
theorem fV{t:TypeId}{x:Operand}{s:List UInt8}[b:DF P t](a:ev f x=some (eT s)):AW P TB Z ⟨d,.call ⟨.builtin .len,#[x],#[t]⟩,ty,pos,af,g⟩ f σ nx (eI .i64 s.length):=by
 have:=fU (t:=t) (P:=P) (TB:=TB) (Z:=Z) (d:=d) (ty:=ty) (pos:=pos) (af:=af) (g:=g) (σ:=σ) (nx:=nx) a;exact this
theorem az{t:TypeId}{x y:Operand}{s:List UInt8}{n:Int}{c:UInt8}{ik:IntKind}[j:DF P t](e:ev f x=some (eT s))(b:ev f y=some (eI ik n))
 (i:0<=n) (h:s[n.toNat]? = some c):AW P TB Z ⟨d,.index t x y,ty,pos,af,g⟩ f σ nx (eI .u8 (c.toNat:Int)):=by
 obtain⟨a,rfl⟩:=ce.1 h;exact ay (P:=P) (TB:=TB) (Z:=Z) (d:=d) (ty:=ty) (pos:=pos) (af:=af) (g:=g) (σ:=σ) (nx:=nx) e b i a
theorem iH{t yt:TypeId}{x y:Operand}{a b:List UInt8}(e:ev f x=some (eT a))(c:ev f y=some (eT b))(j:a.length+b.length<=9223372036854775807) :
 AW P TB Z ⟨d,.binOp .add t x y yt,ty,pos,af,g⟩ f σ nx (eT (a++b)):=BG e c rfl λw=>by
 have i:¬((((⟨a.toArray⟩:ByteArray).size+(⟨b.toArray⟩:ByteArray).size:Nat):Int) > IntKind.i64.max):=by
  have:IntKind.i64.max=9223372036854775807:=by decide
  have l:(⟨a.toArray⟩:ByteArray).size=a.length:=by simp [ByteArray.size]
  have k:(⟨b.toArray⟩:ByteArray).size=b.length:=by simp [ByteArray.size]
  omega
 have h:(⟨a.toArray⟩:ByteArray)++⟨b.toArray⟩=⟨(a++b).toArray⟩:=by
  apply ByteArray.ext;simp
 have:(do eqGuard .add t x y (.string ⟨a.toArray⟩) (.string ⟨b.toArray⟩);binOp .add t (.string ⟨a.toArray⟩) (.string ⟨b.toArray⟩):Sem Value)=Op.stringOp .add ⟨a.toArray⟩ ⟨b.toArray⟩:=by
  simp [eqGuard,binOp]
 rw [this];unfold Op.stringOp;simp only;rw [if_neg i,h];rfl
theorem iK{t yt:TypeId}{x y:Operand}{a b:List UInt8}(e:ev f x=some (eT a))(c:ev f y=some (eT b)) :
 AW P TB Z ⟨d,.binOp .eql t x y yt,ty,pos,af,g⟩ f σ nx (eB (decide (a=b))):=BG e c rfl λw=>by
 simp [eqGuard,binOp,Op.stringOp,go_sem];rw [nk];simp
theorem iU{t yt:TypeId}{x y:Operand}{a b:List UInt8}(e:ev f x=some (eT a))(c:ev f y=some (eT b)) :
 AW P TB Z ⟨d,.binOp .neq t x y yt,ty,pos,af,g⟩ f σ nx (eB (decide (a≠b))):=BG e c rfl λw=>by
 simp [eqGuard,binOp,Op.stringOp,go_sem];rw [nk];simp
end
def C.jz:C->Bool
 | .d (.v _)=>true
 | _=>false
def E.sc:E->Bool
 | .o c=>c.jz
 | .a cs=>cs.all C.jz
 | .t xs=>xs.all λx=>x.2.all C.jz
 | .e=>true
theorem KM{V V':View}{c:C}{v:Value}(h:AF V c v)(a:c.jz=true):AF V' c v:=by
 cases h with
 | d h=>cases h with
  | v b=>exact .d (.v b)
  | _=>cases a
 | _=>cases a
theorem UP{V V':View}{e:E}{v:Value}(h:Bg V e v)(l:e.sc=true):Bg V' e v:=by
 cases e with
 | e=>exact h
 | o c=>exact KM h l
 | a cs=>
  obtain⟨vs,m,k⟩:=h;exact⟨vs,m,k.1,λj c v d f=>KM (k.2 j c v d f) (gc.1 l c (co d))⟩
 | t xs=>
  obtain⟨vs,m,k,q⟩:=h;refine⟨vs,m,k,λj x v d f=>?_⟩;have p:=q j x v d f;have n:=gc.1 l x (co d);obtain⟨b,cs⟩:=x;cases b
  ·obtain⟨c,g,i⟩:=p
   have g:cs=[c]:=g;subst g;exact⟨c,rfl,KM i (gc.1 n c (by simp))⟩
  ·obtain⟨ws,g,i⟩:=p
   exact⟨ws,g,i.1,λj c v d f=>KM (i.2 j c v d f) (gc.1 n c (co d))⟩
inductive CV (σ:Ab):C->C->Prop
 | pure {c:C}:c.BX=true->CV σ c c
 | arr {id k off len:Nat} {T:TypeId} {rows:List (List C)} {ds:List (List D)}:look σ id=some (.cells T k rows)->off+len<=rows.length->(rows.drop off).take len=ds.map (λr=>r.map .d)->CV σ (.arr id k off len) (.d (.l ds))
 | ptr {id k i j:Nat} {T:TypeId} {rows:List (List C)} {r:List C} {ds:List D}:look σ id=some (.cells T k rows)->rows[i]? = some r->r.drop j=ds.map .d->CV σ (.ptr id k i j) (.ip ds)
inductive EV (σ:Ab):E->E->Prop
 | o {c c':C}:CV σ c c'->EV σ (.o c) (.o c')
 | nil:EV σ (.a []) (.a [])
 | cons {c c':C} {cs cs':List C}:CV σ c c'->EV σ (.a cs) (.a cs')->EV σ (.a (c::cs)) (.a (c'::cs'))
inductive gv (σ:Ab):List E->List E->Prop
 | nil:gv σ [] []
 | cons {e e':E} {es es':List E}:EV σ e e'->gv σ es es'->gv σ (e::es) (e'::es')
def G0(V:View)(σ:Ab):View:={ V with I:=λb=>V.I b\/∃id o,look σ id=some o/\¬V.nl id/\Eh V id o b,nx:=0 }
section
variable {P:Program}{TB:Bp}{Z:Ctx}{d:Option Tmp}{ty:TypeId}{pos:String}{af:Array Edge}{g:Option (Nat×Bool)}{f:Env}{σ:Ab}{nx:Nat}
variable {K:E->Ab->Nat->Prop}
theorem AF.iu{V:View}{c:C}{v:Value}(h:AF V c v)(a:c.BX=true):AF (G0 V σ) c v:=by
 induction h with
 | d h=>exact .d (h.mono (λ_ h=>.inl h) λ_ _=>rfl)
 | nil=>simp [C.BX] at a
 | arr=>simp [C.BX] at a
 | ptr=>simp [C.BX] at a
 | fn g _ e=>
  simp only [C.BX] at a;exact .fn g λj c v b f=>e j c v b f (Fb _ a j c b)
 | mp=>simp [C.BX] at a
 | mv g _ e=>
  simp only [C.BX] at a;exact .mv g λj c v b f=>e j c v b f (Fb _ a j c b)
theorem Di.ir{V:View}{x:D}{v:Value}(h:Di V.I V.w x v):Di (G0 V σ).I (G0 V σ).w x v:=h.mono (λ_ h=>.inl h) λ_ _=>rfl
theorem CV.rel{V:View}(hi:Inv TB Z V σ){c c':C}{v:Value}(h:CV σ c c')(F:AF V c v):AF (G0 V σ) c' v:=by
 cases h with
 | pure L=>exact F.iu L
 | @arr id k off len T rows ds z M u=>
  cases F with
  | nil K J=>
   have:ds=[]:=by
    have:=congrArg List.length u;simp at this;exact lw.1 this.symm
   subst this;exact .d .nil
  | arr K p J=>
   rcases hi.st.obj id _ z with ⟨t,_⟩|⟨_,cur,t,Q,P,N,H,G⟩
   ·exact absurd t p
   ·have y:ds.length=len:=by
     have:=congrArg List.length u;simp at this;omega
    have m:∀(i:Nat) (r:List D),ds[i]? = some r->rows[off+i]? = some (r.map .d):=λi r hi=>by
     have n:((rows.drop off).take len)[i]? = some (r.map .d):=by rw [u];simp [hi]
     rw [lR] at n;split at n
     ·rwa [lS] at n
     ·cases n
    have a:∀(i:Nat) (r:List D) (j:Nat) (x:D),ds[i]? = some r->r[j]? = some x->∃v,cur[(off+i)*k+j]? = some v/\Di V.I V.w x v:=λi r j x hi A=>by
     obtain⟨v,g,f⟩:=G (off+i) (r.map .d) j (.d x) (m i r hi) (by simp [A])
     cases f with
     | d f=>exact⟨v,g,f⟩
    rw [<-y] at J |-;refine .d (.l (b:=V.ρ id) (o:=off*k) (k:=k) (vs:=λi j=>cur.getD ((off+i)*k+j) undef) (.inr ⟨id,_,z,p,rfl⟩) (by omega) (by omega) (λi r hi=>?_) (λi r j x hi A=>?_) (λi r j x hi A=>?_))
    ·have:=H _ (co (m i r hi))
     simpa using this
    ·obtain⟨v,g,_⟩:=a i r j x hi A
     have e:off*k+i*k+j=(off+i)*k+j:=by rw [lZ]
     rw [e];have:(G0 V σ).w.heap[V.ρ id]? = some (.cells cur T):=t;simp [World.cell?,this,g]
    ·obtain⟨v,g,f⟩:=a i r j x hi A
     have:cur.getD ((off+i)*k+j) undef=v:=by simp [g]
     simp only [this];exact f.ir
 | @ptr id k i j T rows r ds z B u=>
  cases F with
  | ptr K p=>
   rcases hi.st.obj id _ z with ⟨t,_⟩|⟨_,cur,t,Q,P,N,H,G⟩
   ·exact absurd t p
   ·have m:∀(q:Nat) (x:D),ds[q]? = some x->r[j+q]? = some (.d x):=λq x s=>by
     have n:(r.drop j)[q]? = some (.d x):=by rw [u];simp [s]
     rwa [lS] at n
    have a:∀(q:Nat) (x:D),ds[q]? = some x->∃v,cur[i*k+j+q]? = some v/\Di V.I V.w x v:=λq x s=>by
     obtain⟨v,g,f⟩:=G i r (j+q) (.d x) B (m q x s)
     cases f with
     | d f=>exact⟨v,by rw [lX];exact g,f⟩
    refine .ip (V:=G0 V σ) (vs:=λq=>cur.getD (i*k+j+q) undef) (.inr ⟨id,_,z,p,rfl⟩) (λq x s=>?_) (λq x s=>?_)
    ·obtain⟨v,g,_⟩:=a q x s
     have:(G0 V σ).w.heap[V.ρ id]? = some (.cells cur T):=t;simp [World.cell?,this,g]
    ·obtain⟨v,g,f⟩:=a q x s
     have:cur.getD (i*k+j+q) undef=v:=by simp [g]
     simp only [this];exact f.ir
theorem EV.rel{V:View}(hi:Inv TB Z V σ){e e':E}(h:EV σ e e'):∀ {v:Value},Bg V e v->Bg (G0 V σ) e' v:=by
 have key:∀ {e e':E},EV σ e e'->(∀c c',e=.o c->e'=.o c'->CV σ c c')/\(∀cs cs',e=.a cs->e'=.a cs'->cs.length=cs'.length/\∀(j:Nat) c c',cs[j]? = some c->cs'[j]? = some c'->CV σ c c')/\((∃c c',e=.o c/\e'=.o c')\/∃cs cs',e=.a cs/\e'=.a cs'):=by
  intro e e' h
  induction h with
  | o k=>exact⟨λc c' d b=>(by injection d with d;injection b with b;subst d b;exact k),λ_ _ h=>(by cases h),.inl ⟨_,_,rfl,rfl⟩⟩
  | nil=>exact⟨λ_ _ h=>(by cases h),λcs cs' d b=>(by injection d with d;injection b with b;subst d b;exact⟨rfl,λj c c' f=>(by simp at f)⟩),.inr ⟨_,_,rfl,rfl⟩⟩
  | cons k _ s=>
   refine⟨λ_ _ h=>(by cases h),λcs cs' d b=>?_,.inr ⟨_,_,rfl,rfl⟩⟩
   injection d with d;injection b with b;subst d b
   have:=s.2.1 _ _ rfl rfl;refine⟨by simp [this.1],λj c c' f g=>?_⟩
   cases j with
   | zero=>simp at f g;subst f g;exact k
   | succ j=>exact this.2 j c c' (by simpa using f) (by simpa using g)
 intro v m;obtain⟨r,q,p⟩:=key h
 rcases p with ⟨c,c',rfl,rfl⟩|⟨cs,cs',rfl,rfl⟩
 ·exact(r c c' rfl rfl).rel hi m
 ·obtain⟨vs,rfl,d,b⟩:=m
  obtain⟨l,n⟩:=q cs cs' rfl rfl;refine⟨vs,rfl,by rw [d,l],λj c' u f t=>?_⟩
  have i:j < cs.length:=by rw [l];exact(ce.1 f).1
  exact(n j cs[j] c' (d5 i) f).rel hi (b j _ u (d5 i) t)
theorem J8{x:Operand}{args:Array Operand}{tys:Array TypeId}{gg:FuncId}{vs:Array Value}(f:YO P gg){ρ:Operand->Value}(e:ρ x=.func (.func gg) #[] vs)(w:World) :
 (execOp ρ ⟨d,.call ⟨.value x,args,tys⟩,ty,pos,af,g⟩).run P w=.ok (.enter gg (args.map ρ++vs)) w:=by
 obtain⟨fn,i,h,b⟩:=f
 have hb:∃c,fn.body=some c:=by cases hb:fn.body with|none=>rw [hb] at b;cases b|some c=>exact⟨c,rfl⟩
 obtain⟨c,hb⟩:=hb;simp only [execOp,resolve,e,Deferred.ofValue,pure_bind,invoke,callFunc]
 have a:¬fn.name = "runtime.NumGoroutine" := by simpa using h
 simp [Sem.run,program,i,a,hb,go_sem]
theorem GQ{V:View}{ρ:Operand->Value}{args:List Operand}{es:List E}(h:∀x∈args,∀e,ev f x=some e->Bg V e (ρ x))(a:Jf f args=some es) :
 ∀(j:Nat) e v,es[j]? = some e->(args.map ρ)[j]? = some v->Bg V e v:=by
 intro j e v d c;simp only [ge,d7] at c;obtain⟨x,b,rfl⟩:=c;exact h x (co b) e (VL a j x e b d)
theorem Lv{V:View}{gg:FuncId}{cap:List C}{v:Value}(h:Bg V (.o (.fn gg cap)) v):∃vs,v=.func (.func gg) #[] vs/\CY V cap vs:=by
 have h:AF V (.fn gg cap) v:=h;generalize a:C.fn gg cap=c at h;cases h<;>cases a;rename_i vs d b;exact⟨vs,rfl,d,b⟩
theorem Jr{V Vc V1:View}{S:RO}(h:Inv TB Z V σ)(m:MO TB V σ S)(y:∀b,S.J b->Z.J b\/Z.V.w.heap.size<=b\/Z.F b)(j:∀b,S.B b->Z.V.w.heap.size<=b\/Z.F b)(k:Vc.w=V.w){u:Ab}(q:Inv TB (EG Vc Vc [] S) V1 u)(I':Nat->Prop)(p:∀b,V.I b->I' b)(n:∀b,I' b->V.I b\/(V.w.heap.size<=b/\b < V1.w.heap.size)\/S.B b)
 (A:∀b,V1.I b->(V.w.heap.size<=b\/S.B b)->I' b) (z:∀b,I' b->V1.I b) :
 Inv TB Z { V with I:=I',w:=V1.w } σ/\Ext V { V with I:=I',w:=V1.w } := by
 have d:∀b,b < V.w.heap.size->¬S.B b->V1.w.heap[b]? = V.w.heap[b]?:=λb hb g=>by
  have:=q.old b (by show b < Vc.w.heap.size;rw [k];exact hb) (λh=>h.elim (λ⟨_,_,h,_⟩=>by cases h) g)
  rw [this];show Vc.w.heap[b]? = _;rw [k]
 have l:V.w.heap.size<=V1.w.heap.size:=by have i:Vc.w.heap.size<=V1.w.heap.size:=q.ext.size;rw [k] at i;exact i
 have e:Ext V { V with I:=I',w:=V1.w } := ⟨p,λb hb=>d b (h.iLt b hb) λs=>m.bi b s hb,l,λ_ _=>rfl,λ_ _=>rfl,λ_ _=>Iff.rfl,io _⟩
 refine⟨⟨?_,?_,?_,λb hb t=>(d b (lC hb h.ext.size) λs=>(j b s).elim (λh=>by omega) t).trans (h.old b hb t),?_,?_,h.ext.trans e,⟨?_,h.st.lt,?_,h.st.inj⟩,h.live,?_,?_⟩,e⟩
 ·have i:V1.w.os=Vc.w.os:=q.os
  rw [k] at i;exact i.trans h.os
 ·have i:V1.w.tape=Vc.w.tape:=q.tape
  rw [k] at i;exact i.trans h.tape
 ·have i:V1.w.output=Vc.w.output:=q.output
  rw [k] at i;exact i.trans h.output
 ·intro b hb
  rcases n b hb with a|a|a
  ·exact lC (h.iLt b a) l
  ·exact a.2
  ·exact lC (m.r.blt a) l
 ·intro b hb
  rcases n b hb with a|a|a
  ·exact h.iNew b a
  ·exact .inr (.inl (jp h.ext.size a.1))
  ·exact .inr (j b a)
 ·intro id o f
  exact(h.st.obj id o f).AL e (h.st.lt id o f) λg b hb=>d _ ((h.st.obj id o f).blt g hb) (m.ap b ⟨id,o,f,g,hb⟩)
 ·intro id o f g b c hb
  have c:=(AD e (h.st.lt id o f)).1 c
  rcases n _ hb with a|a|a
  ·exact h.st.free id o f g b c a
  ·have:=(h.st.obj id o f).blt g c
   have N:V.w.heap.size<=b:=a.1;omega
  ·exact m.ap b ⟨id,o,f,g,c⟩ a
 ·intro x s
  have:=h.tabs x s;exact⟨p _ this.1,(d _ (h.iLt _ this.1) λM=>m.bi _ M this.1).trans this.2⟩
 ·obtain⟨S1,v,L,K⟩:=q.hid
  have H:∀b,S1.B b->V.w.heap.size<=b\/S.B b:=λb hb=>by
   rcases K b hb with a|a|a
   ·have a:Vc.w.heap.size<=b:=a
    rw [k] at a;exact .inl a
   ·obtain⟨_,_,h,_⟩:=a;cases h
   ·exact .inr a
  have G:∀b,S1.J b->S.J b\/V.w.heap.size<=b\/S.B b:=λb hb=>by
   rcases L b hb with a|a|a|a
   ·exact .inl a
   ·have a:Vc.w.heap.size<=b:=a
    rw [k] at a;exact .inr (.inl a)
   ·obtain⟨_,_,h,_⟩:=a;cases h
   ·exact .inr (.inr a)
  refine⟨S1,⟨v.r,λb hb=>?_,λb hb hi=>v.bi b hb (z b hi),λb t hb=>?_⟩,λb hb=>?_,λb hb=>?_⟩
  ·rcases G b hb with a|a
   ·exact p b (m.ji b a)
   ·exact A b (v.ji b hb) a
  ·obtain⟨id,o,f,g,c⟩:=Iw e h.st.lt t
   rcases H b hb with a|a
   ·have:=(h.st.obj id o f).blt g c
    omega
   ·exact m.ap b ⟨id,o,f,g,c⟩ a
  ·rcases G b hb with a|a|a
   ·exact y b a
   ·exact .inr (.inl (jp h.ext.size a))
   ·exact .inr (j b a)
  ·rcases H b hb with a|a
   ·exact .inl (jp h.ext.size a)
   ·exact j b a
theorem DZ{V:View}:GN V []:=⟨λ_ _ h=>(by cases h),λ_ _ h=>(by cases h),λ_ _ h=>(by cases h),λ_ _ _ _ h=>(by cases h)⟩
theorem Bh{x:Operand}{args:Array Operand}{tys:Array TypeId}{gg:FuncId}{cap:List C}{es:List E}{r:E}(T:ev f x=some (.o (.fn gg cap)))(t:Jf f args.toList=some es)(G:(es.all E.BX && C.C6 cap)=true)
 (M:Pure P TB gg (es++cap.map .o) r) (U:r.BX=true):AW P TB Z ⟨d,.call ⟨.value x,args,tys⟩,ty,pos,af,g⟩ f σ nx r:=by
 intro V a z B Y;have z:=z.GV;unfold Oper.wp;generalize a.eval=ρ at z |-;obtain⟨vs,p,l⟩:=Lv (z.get (x:=x) (by simp [Op.operands,Call.operands]) T);rw [J8 M.1 p];rw [d4] at G;have u:=CJ t
 have n:ML { V with nx:=0 } (es++cap.map .o) (args.map ρ++vs):=by
  refine⟨by simp [l.1,u],λj e v q p=>?_⟩
  have m:(args.map ρ).size=es.length:=by simp [u]
  by_cases s:j < es.length
  ·rw [d9 s] at q
   rw [lM (by rw [m];exact s)] at p;refine Bg.BX (V:=V) (V':={ V with nx:=0 }) rfl rfl (GQ (λy R e X=>z.get (by simp [Op.operands,Call.operands];right;simpa using R) X) t j e v q (by rw [<-ny];simpa using p)) (gc.1 G.1 e (co q))
  ·rw [em (by omega)] at q
   rw [mA (by rw [m];omega),m] at p;simp only [ge,d7] at q;obtain⟨c,N,rfl⟩:=q;exact AF.BX (V:=V) (V':={ V with nx:=0 }) rfl rfl (l.2 _ c v N p) (Fb _ G.2 _ c N)
 obtain⟨S,A,K,L⟩:=B.hid;refine(M.2 { V with nx:=0 } _ S ⟨B.iLt,DZ,B.tabs,rfl,⟨A.r,A.ji,A.bi,λb ⟨_,_,h,_⟩=>by cases h⟩⟩ n).mono ?_;rintro e w' ⟨V1,v,x1,Q,rfl,rfl,k,F,rfl⟩
 obtain⟨H,J⟩:=Jr B A K L (Vc:={ V with nx:=0 }) rfl k V1.I (λb hb=>k.ext.i b hb) (λb hb=>by
  rcases k.iNew b hb with h|h|h|h
  ·exact .inl h
  ·exact .inr (.inl ⟨h,k.iLt b hb⟩)
  ·obtain⟨_,_,h,_⟩:=h;cases h
  ·exact .inr (.inr h)) (λb hb _=>hb) (λb hb=>hb)
 exact⟨{ V with I:=V1.I,w:=V1.w },v,rfl,rfl,J,H,Y,Bg.BX (V:=V1) (V':={ V with I:=V1.I,w:=V1.w }) rfl rfl F U⟩
theorem KG{x:Operand}{args:Array Operand}{tys:Array TypeId}{gg:FuncId}{cap:List C}{es es':List E}{r:E}(H:ev f x=some (.o (.fn gg cap)))(K:Jf f args.toList=some es)(q:gv σ (es++cap.map .o) es')
 (hs:Pure P TB gg es' r) (hr:r.sc=true):AW P TB Z ⟨d,.call ⟨.value x,args,tys⟩,ty,pos,af,g⟩ f σ nx r:=by
 intro V a G p h3;have G:=G.GV;unfold Oper.wp;generalize a.eval=ρ at G |-;obtain⟨vs,Q,t⟩:=Lv (G.get (x:=x) (by simp [Op.operands,Call.operands]) H);rw [J8 hs.1 Q];have L:=CJ K
 have n:ML V (es++cap.map .o) (args.map ρ++vs):=by
  refine⟨by simp [t.1,L],λj e v m q=>?_⟩
  have u:(args.map ρ).size=es.length:=by simp [L]
  by_cases k:j < es.length
  ·rw [d9 k] at m
   rw [lM (by rw [u];exact k)] at q;exact GQ (λy hy e he=>G.get (by simp [Op.operands,Call.operands];right;simpa using hy) he) K j e v m (by rw [<-ny];simpa using q)
  ·rw [em (by omega)] at m
   rw [mA (by rw [u];omega),u] at q;simp only [ge,d7] at m;obtain⟨c,hc,rfl⟩:=m;exact t.2 _ c v hc q
 have R:∀ {l l':List E},gv σ l l'->l.length=l'.length/\∀(j:Nat) e e',l[j]? = some e->l'[j]? = some e'->EV σ e e':=by
  intro l l' h
  induction h with
  | nil=>exact⟨rfl,λj e e' m=>by simp at m⟩
  | cons h _ ih=>
   refine⟨by simp [ih.1],λj e e' m z=>?_⟩
   cases j with
   | zero=>simp at m z;subst m z;exact h
   | succ j=>exact ih.2 j e e' (by simpa using m) (by simpa using z)
 obtain⟨s,J⟩:=R q
 have F:ML (G0 V σ) es' (args.map ρ++vs):=by
  refine⟨by rw [n.1,s],λj e v m q=>?_⟩
  have k:j < (es++cap.map E.o).length:=by rw [s];exact(ce.1 m).1
  exact(J j _ e (d5 k) m).rel p (n.2 j _ v (d5 k) q)
 have k:∀b,(G0 V σ).I b->b < (G0 V σ).w.heap.size:=by
  rintro b (hb|⟨id,o,U,T,hb⟩)
  ·exact p.iLt b hb
  ·exact(p.st.obj id o U).blt T hb
 obtain⟨S,M,hSJ,hSB⟩:=p.hid;refine(hs.2 (G0 V σ) _ S ⟨k,DZ,λx H=>⟨.inl (p.tabs x H).1,(p.tabs x H).2⟩,rfl,⟨M.r,λb hb=>.inl (M.ji b hb),λb hb hi=>hi.elim (M.bi b hb) λ⟨id,o,U,T,H⟩=>M.ap b ⟨id,o,U,T,H⟩ hb,λb ⟨_,_,h,_⟩=>by cases h⟩⟩ F).mono ?_;rintro e w' ⟨V1,v,x1,σ1,rfl,rfl,A,N,rfl⟩;obtain⟨X,Y⟩:=Jr p M hSJ hSB (Vc:=G0 V σ) rfl A (λb=>V.I b\/(V.w.heap.size<=b\/S.B b)/\V1.I b) (λb hb=>.inl hb) (λb hb=>hb.elim .inl λh=>.inr (h.1.elim (λg=>.inl ⟨g,A.iLt b h.2⟩) .inr)) (λb G p=>.inr ⟨p,G⟩) (λb hb=>hb.elim (λh=>A.ext.i b (.inl h)) λh=>h.2);exact⟨{ V with I:=λb=>V.I b\/(V.w.heap.size<=b\/S.B b)/\V1.I b,w:=V1.w },v,rfl,rfl,Y,X,h3,UP N hr⟩
end
def BP:List Nat->Ab->Ab
 | [],σ=>σ
 | id::r,σ=>BP r (kill id σ)
theorem A2:∀(ids:List Nat) (σ:Ab) (i:Nat) (o:O),look (BP ids σ) i=some o->i∉ids/\look σ i=some o
 | [],σ,i,o,h=>⟨by simp,h⟩
 | id :: r,σ,i,o,h=>by
  obtain⟨b,a⟩:=A2 r (kill id σ) i o h;rw [EM] at a;by_cases hi:i=id
  ·rw [if_pos hi] at a;cases a
  ·rw [if_neg hi] at a
   exact⟨by simp [hi,b],a⟩
inductive FC (σ:Ab) (ids:List Nat):C->C->Prop
 | AL {c:C}:FC σ ids c c
 | arr {id k off len:Nat} {T:TypeId} {rows:List (List C)} {ds:List (List D)}:id∈ids->look σ id=some (.cells T k rows)->off+len<=rows.length->(rows.drop off).take len=ds.map (λr=>r.map .d)->FC σ ids (.arr id k off len) (.d (.l ds))
 | ptr {id k i j:Nat} {T:TypeId} {rows:List (List C)} {r:List C} {ds:List D}:id∈ids->look σ id=some (.cells T k rows)->rows[i]? = some r->r.drop j=ds.map .d->FC σ ids (.ptr id k i j) (.ip ds)
inductive FE (σ:Ab) (ids:List Nat):E->E->Prop
 | AL {e:E}:FE σ ids e e
 | o {c c':C}:FC σ ids c c'->FE σ ids (.o c) (.o c')
 | nil:FE σ ids (.a []) (.a [])
 | cons {c c':C} {cs cs':List C}:FC σ ids c c'->FE σ ids (.a cs) (.a cs')->FE σ ids (.a (c::cs)) (.a (c'::cs'))
def DS(σ:Ab)(ids:List Nat)(f:Env):List (Nat×E)->Prop
 | []=>True
 | (t,e')::L=>(∃e,f t=some e/\FE σ ids e e')/\DS σ ids f L
theorem DS.get{σ:Ab}{ids:List Nat}{f:Env}:∀ {L:List (Nat×E)},DS σ ids f L->∀t e',look L t=some e'->∃e,f t=some e/\FE σ ids e e'
 | [],_,t,e,h=>by cases h
 | (k,x)::L,a,t,e,h=>by
  rw [Az] at h;by_cases hk:k=t
  ·rw [if_pos hk] at h;injection h with h;subst h;subst hk;exact a.1
  ·rw [if_neg hk] at h;exact DS.get a.2 t e h
def JA(V:View)(σ:Ab)(ids:List Nat):View:={ V with I:=λb=>V.I b\/∃id o,id∈ids/\look σ id=some o/\¬V.nl id/\Eh V id o b }
section
variable {P:Program}{TB:Bp}{Z:Ctx}{N:Nat}{σ:Ab}
theorem Ng{V:View}{ids:List Nat}:Ext V (JA V σ ids):=⟨λ_ h=>.inl h,λ_ _=>rfl,io _,λ_ _=>rfl,λ_ _=>rfl,λ_ _=>Iff.rfl,io _⟩
theorem FC.rel{V:View}(hi:Inv TB Z V σ){ids:List Nat}{c c':C}{v:Value}(h:FC σ ids c c')(G:AF V c v):AF (JA V σ ids) c' v:=by
 have e:Ext V (JA V σ ids):=Ng
 cases h with
 | AL=>exact G.ext e
 | @arr id k off len T rows ds F z M u=>
  cases G with
  | nil L K=>
   have:ds=[]:=by
    have:=congrArg List.length u;simp at this;exact lw.1 this.symm
   subst this;exact .d .nil
  | arr L p K=>
   rcases hi.st.obj id _ z with ⟨t,_⟩|⟨_,cur,t,Q,P,N,J,H⟩
   ·exact absurd t p
   ·have y:ds.length=len:=by
     have:=congrArg List.length u;simp at this;omega
    have m:∀(i:Nat) (r:List D),ds[i]? = some r->rows[off+i]? = some (r.map .d):=λi r hi=>by
     have n:((rows.drop off).take len)[i]? = some (r.map .d):=by rw [u];simp [hi]
     rw [lR] at n;split at n
     ·rwa [lS] at n
     ·cases n
    have a:∀(i:Nat) (r:List D) (j:Nat) (x:D),ds[i]? = some r->r[j]? = some x->∃v,cur[(off+i)*k+j]? = some v/\Di V.I V.w x v:=λi r j x hi A=>by
     obtain⟨v,g,f⟩:=H (off+i) (r.map .d) j (.d x) (m i r hi) (by simp [A])
     cases f with
     | d f=>exact⟨v,g,f⟩
    rw [<-y] at K |-;refine .d (.l (b:=V.ρ id) (o:=off*k) (k:=k) (vs:=λi j=>cur.getD ((off+i)*k+j) undef) (.inr ⟨id,_,F,z,p,rfl⟩) (by omega) (by omega) (λi r hi=>?_) (λi r j x hi A=>?_) (λi r j x hi A=>?_))
    ·have:=J _ (co (m i r hi))
     simpa using this
    ·obtain⟨v,g,_⟩:=a i r j x hi A
     have e:off*k+i*k+j=(off+i)*k+j:=by rw [lZ]
     rw [e];have:(JA V σ ids).w.heap[V.ρ id]? = some (.cells cur T):=t;simp [World.cell?,this,g]
    ·obtain⟨v,g,f⟩:=a i r j x hi A
     have:cur.getD ((off+i)*k+j) undef=v:=by simp [g]
     simp only [this];exact f.ext e
 | @ptr id k i j T rows r ds F z B u=>
  cases G with
  | ptr L p=>
   rcases hi.st.obj id _ z with ⟨t,_⟩|⟨_,cur,t,Q,P,N,J,H⟩
   ·exact absurd t p
   ·have m:∀(q:Nat) (x:D),ds[q]? = some x->r[j+q]? = some (.d x):=λq x s=>by
     have n:(r.drop j)[q]? = some (.d x):=by rw [u];simp [s]
     rwa [lS] at n
    have a:∀(q:Nat) (x:D),ds[q]? = some x->∃v,cur[i*k+j+q]? = some v/\Di V.I V.w x v:=λq x s=>by
     obtain⟨v,g,f⟩:=H i r (j+q) (.d x) B (m q x s)
     cases f with
     | d f=>exact⟨v,by rw [lX];exact g,f⟩
    refine .ip (V:=JA V σ ids) (vs:=λq=>cur.getD (i*k+j+q) undef) (.inr ⟨id,_,F,z,p,rfl⟩) (λq x s=>?_) (λq x s=>?_)
    ·obtain⟨v,g,_⟩:=a q x s
     have:(JA V σ ids).w.heap[V.ρ id]? = some (.cells cur T):=t;simp [World.cell?,this,g]
    ·obtain⟨v,g,f⟩:=a q x s
     have:cur.getD (i*k+j+q) undef=v:=by simp [g]
     simp only [this];exact f.ext e
theorem FE.rel{V:View}(hi:Inv TB Z V σ){ids:List Nat}{e e':E}(h:FE σ ids e e'):∀ {v:Value},Bg V e v->Bg (JA V σ ids) e' v:=by
 induction h with
 | AL=>intro v a;exact a.ext Ng
 | o f=>intro v a;exact f.rel hi a
 | nil=>intro v a;obtain⟨vs,rfl,d,_⟩:=a;exact⟨vs,rfl,d,λj c v b=>by simp at b⟩
 | @cons c c' cs cs' f _ k=>
  rintro v ⟨vs,rfl,d,i⟩
  have l:0 < vs.size:=by rw [d];simp
  have ht:=@k (.agg (vs.extract 1 vs.size)) ⟨_,rfl,by simp [d],λj c v b a=>i (j+1) c v (by simpa using b) (by
   rw [oy] at a;split at a
   ·rw [oa] at a;exact a
   ·cases a)⟩
  obtain⟨ws,g,p,n⟩:=ht
  injection g with g
  subst g;refine⟨vs,rfl,by simp at p |-;omega,λj q v b a=>?_⟩
  cases j with
  | zero=>
   simp at b;subst b;exact f.rel hi (i 0 c v (by simp) a)
  | succ j=>
   refine n j q v (by simpa using b) ?_;have m:=(lL.1 a).1;rw [oy,if_pos (by omega),oa];exact a
theorem Cb.freeze{V:View}{f:Env}{nx:Nat}{a:Act}(h:Cb TB Z N V f σ nx a)(ids:List Nat)(L:List (Nat×E))(r:DS σ ids f L):Cb TB Z N (JA V σ ids) (look L) (BP ids σ) nx a:=by
 have e:Ext V (JA V σ ids):=Ng;refine⟨λt x l=>?_,λt x l=>?_,h.size,?_,h.nx,h.defers⟩
 ·obtain⟨y,n,g⟩:=r.get t x l
  exact g.rel h.inv (h.env t y n)
 ·obtain⟨y,n,_⟩:=r.get t x l
  exact h.lt t y n
 ·have hi:=h.inv
  refine⟨hi.os,hi.tape,hi.output,hi.old,?_,?_,hi.ext.trans e,⟨?_,?_,?_,?_⟩,?_,λx l=>⟨.inl (hi.tabs x l).1,(hi.tabs x l).2⟩,hi.hid.same rfl (λ_ h=>.inl h) (λb hb=>hb.elim .inl λ⟨id,o,_,c,d,q⟩=>.inr ⟨id,o,c,d,q⟩) λb ⟨id,o,c,d,hb⟩=>have g:=(A2 ids σ id o c).2;⟨id,o,g,d,(AD e (hi.st.lt id o g)).1 hb⟩⟩
  ·rintro b (hb|⟨id,o,_,c,d,hb⟩)
   ·exact hi.iLt b hb
   ·exact(hi.st.obj id o c).blt d hb
  ·rintro b (hb|⟨id,o,_,c,d,hb⟩)
   ·exact hi.iNew b hb
   ·exact .inr (hi.live id o c d b hb)
  ·intro id o c
   have:=(A2 ids σ id o c).2;exact(hi.st.obj id o this).AL e (hi.st.lt id o this) λ_ _ _=>rfl
  ·intro id o c;exact hi.st.lt id o (A2 ids σ id o c).2
  ·intro id o c d b i hb
   obtain⟨n,g⟩:=A2 ids σ id o c;have i:=(AD e (hi.st.lt id o g)).1 i
   rcases hb with hb|⟨id',o',s,k,j,q⟩
   ·exact hi.st.free id o g d b i hb
   ·exact hi.st.inj id id' o o' g k (λe=>n (e ▸ s)) d j b i q
  ·intro id id' o o' c k p d j b hb i
   have g:=(A2 ids σ id o c).2;have m:=(A2 ids σ id' o' k).2;exact hi.st.inj id id' o o' g m p d j b ((AD e (hi.st.lt id o g)).1 hb) ((AD e (hi.st.lt id' o' m)).1 i)
  ·intro id o c d b hb
   have g:=(A2 ids σ id o c).2;exact hi.live id o g d b ((AD e (hi.st.lt id o g)).1 hb)
theorem FC.full{ids:List Nat}{id k len:Nat}{T:TypeId}{rows:List (List C)}{ds:List (List D)}(c:id∈ids)(e:look σ id=some (.cells T k rows))(a:rows=ds.map (λr=>r.map .d))(b:rows.length=len):FC σ ids (.arr id k 0 len) (.d (.l ds)):=
 .arr c e (by omega) (by rw [mw,<-b,i7];exact a)
theorem CV.full{id k len:Nat}{T:TypeId}{rows:List (List C)}{ds:List (List D)}(c:look σ id=some (.cells T k rows))(a:rows=ds.map (λr=>r.map .d))(b:rows.length=len):CV σ (.arr id k 0 len) (.d (.l ds)):=
 .arr c (by omega) (by rw [mw,<-b,i7];exact a)
theorem Aj.freeze{c:Code}{Q:Exit->Env->Ab->Nat->Prop}{f:Env}{nx:Nat}(ids:List Nat)(L:List (Nat×E))(d:DS σ ids f L)(h:Aj P TB Z N c Q (look L) (BP ids σ) nx):Aj P TB Z N c Q f σ nx:=
 λV a b=>h (JA V σ ids) a (b.freeze ids L d)
end
end Go.Am
