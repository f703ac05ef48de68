/-
  The operations that make memory or write it, one rule each.
-/
import Derived.Test.YtgpbfllcjdfelaaGreatDoorPart6
set_option linter.all false
namespace Go.Am
open Go
def zC:Value->C
 | .slice none 0 0=>.d (.l [])
 | v=>.d (.v v)
def Mr:Value->Bool
 | .slice none 0 0=>true
 | v=>KQ v
theorem Lg{V:View}{v:Value}(h:Mr v=true):AA V (zC v) v:=by
 unfold zC;split
 ·exact .d .nil
 ·rename_i a
  unfold Mr at h;split at h
  ·exact absurd rfl (a)
  ·exact .d (.v h)
def eC:E->List C
 | .o c=>[c]
 | .a cs=>cs
 | .t _=>[]
 | .e=>[.d (.l [])]
def NH:E->Bool
 | .t _=>false
 | _=>true
theorem JY{V:View}{e:E}{v:Value}(k:NH e=true)(h:A1 V e v):Cy V (eC e) v.cells:=by
 cases e with
 | o c =>
  have h:AA V c v:=h
  have : v.cells = #[v]:=by cases h with
   | d h=>cases h with
    | v i=>cases v<;>first|rfl|(simp [KQ] at i)
    | nil=>rfl
    | l=>rfl
    | e=>rfl
    | p=>rfl
   | _=>rfl
  rw [this];refine⟨rfl,λj c' v' f g=>?_⟩
  match j with
  | 0=>simp [eC] at f g;subst f g;exact h
  | j+1=>simp [eC] at f
 | a cs=>obtain⟨vs,rfl,h⟩:=h;exact h
 | t=>cases k
 | e =>
  obtain⟨b,rfl⟩:=h;refine⟨rfl,λj c' v' f g=>?_⟩
  match j with
  | 0=>
   simp [eC] at f;subst f;have g:v'=.slice b 0 0:=(Option.some.inj g).symm;subst g
   cases b with
   | none=>exact .d .nil
   | some a=>exact .d (.e (dP _))
  | j+1=>simp [eC] at f
theorem AA.one{V:View}{c:C}{v:Value}(h:AA V c v):v.oneCell'=true:=by
 cases h with
 | d h=>cases h with
  | v a=>cases v<;>first|rfl|(simp [KQ] at a)
  | nil=>rfl
  | l=>rfl
  | e=>rfl
  | p=>rfl
 | _=>rfl
section
variable {P:Program}{TB:Bg}{Z:Ctx}{d:Option Tmp}{ty:TypeId}{pos:String}{af:Array Edge}{g:Option (Nat×Bool)}{f:Env}{σ:Ab}{nx:Nat}
variable {K:E->Ab->Nat->Prop}
theorem C7{o:Oper}(h:∀V X,IV V o f X->Inv TB Z V σ->V.nx=nx->∃v V' x σ',(execOp X o).run P V.w=.ok (.value v) V'.w/\Ext V V'/\Inv TB Z V' σ'/\A1 V' x v/\K x σ' V'.nx):BH P TB Z o f σ nx K:=by
 intro V a j i g;obtain⟨v,V',x,σ',c,e,hi,b,d⟩:=h V a.eval j.GJ i g;unfold Oper.wp;rw [c];exact⟨V',v,x,σ',rfl,rfl,e,hi,b,d⟩
theorem IF{o:Oper}{x:E}(h:∀V X,IV V o f X->Inv TB Z V σ->∃v V',(execOp X o).run P V.w=.ok (.value v) V'.w/\Ext V V'/\Inv TB Z V' σ/\V'.nx=V.nx/\A1 V' x v):AP P TB Z o f σ nx x:=by
 intro V a j i g;obtain⟨v,V',c,e,hi,d,b⟩:=h V a.eval j.GJ i;unfold Oper.wp;rw [c];exact⟨V',v,rfl,rfl,e,hi,d.trans g,b⟩
theorem QO{V:View}{cs:List C}{vs:Array Value}(h:Cy V cs vs)(i:Nat)(r:List C)(j:Nat)(c:C)(hi:[cs][i]? = some r)(b:r[j]? = some c):∃v,vs[i*cs.length+j]? = some v/\AA V c v:=by
 match i with
 | 0=>
  simp at hi;subst hi
  have a:j < vs.size:=by rw [h.1];exact(am.1 b).1
  exact⟨vs[j],by simp [a],h.2 j c _ b (bP a)⟩
 | i+1=>simp at hi
theorem AQ(w:World)(o:Obj)(b:Nat)(h:b < w.heap.size):(w.alloc o).heap[b]? = w.heap[b]?:=by
 show (w.heap.push o)[b]? = _
 rw [Array.getElem?_push,if_neg (by omega)]
theorem BB(w:World)(o:Obj):(w.alloc o).heap[w.heap.size]? = some o:=by
 show (w.heap.push o)[w.heap.size]? = _
 simp
theorem JJ{V:View}{b c k:Nat}{w:World}:AA (Ai V b c False w) (.ptr V.nx k 0 0) (.pointer (some ⟨b,0,none⟩)):=by
 have:=@AA.ptr (Ai V b c False w) V.nx k 0 0 (by simp [Ai]) (by simp [Ai])
 have h:(Ai V b c False w).X V.nx=b:=by simp [Ai]
 rw [h] at this
 simpa using this
theorem ME{V:View}(h:Inv TB Z V σ){T:TypeId}{cs:List C}{vs:Array Value}(d:Cy V cs vs) :
 Inv TB Z (Ai V V.w.heap.size 1 False (V.w.alloc (.cells vs T))) ((V.nx,.cells T cs.length [cs])::σ)/\Ext V (Ai V V.w.heap.size 1 False (V.w.alloc (.cells vs T))):=by
 have e:Ext V (Ai V V.w.heap.size 1 False (V.w.alloc (.cells vs T))):=C8 (by simp) λb hb=>AQ _ _ _ (h.iLt b hb);refine h.alloc rfl rfl rfl rfl (by simp) (λb hb=>AQ _ _ _ hb) (.inr ⟨by simp [Ai],vs,?_,?_,?_,?_,?_,?_⟩)
 ·have:=BB V.w (.cells vs T)
  simpa only [Ai,if_true] using this
 ·simp [Ai,d.1]
 ·simp [Ai]
 ·simp [Ai,maxLen]
 ·intro r a;simp at a;subst a;rfl
 ·exact λi r j c hi f=>QO (d.ext e) i r j c hi f
theorem C5{T:TypeId}{x:Operand}{e:E}(a:ev f x=some e)(b:NH e=true)(i:K (.o (.ptr nx (eC e).length 0 0)) ((nx,.cells T (eC e).length [eC e])::σ) (nx+1)):BH P TB Z ⟨d,.box T x,ty,pos,af,g⟩ f σ nx K:=
 C7 λV X l k j=>by
  subst j;have h:=JY b (l.get (by simp [Op.operands]) a);obtain⟨hi,c⟩:=ME k (T:=T) h;refine⟨.pointer (some ⟨V.w.heap.size,0,none⟩),_,_,_,?_,c,hi,?_,i⟩
  ·simp [execOp,Instr.box,newVar,newRow,Ai,go_sem]
  ·exact JJ
theorem UE{T:TypeId}{z:List Value}[p:BQ P T z](l:z.all Mr=true)(s:K (.o (.ptr nx z.length 0 0)) ((nx,.cells T z.length [z.map zC])::σ) (nx+1)):BH P TB Z ⟨d,.alloc T,ty,pos,af,g⟩ f σ nx K:=
 C7 λV X y x t=>by
  subst t;have b:=p.out;simp only [RZ,bR,br] at b;obtain⟨i,hi,zv,k,a⟩:=b
  have r:Cy V (z.map zC) zv.cells:=by
   refine⟨by rw [bK,<-a];simp,λj c v n m=>?_⟩;simp only [bG,br] at n;obtain⟨u,h,rfl⟩:=n
   have:u=v:=by
    rw [<-a] at h;simp only [cU] at h;rw [h] at m;exact Option.some.inj m
   subst this;exact Lg (bH.1 l u (bm h))
  obtain⟨e,q⟩:=ME x (T:=T) r;rw [bK] at e;refine⟨.pointer (some ⟨V.w.heap.size,0,none⟩),_,_,_,?_,q,e,?_,s⟩
  ·simp [execOp,Instr.alloc,zeroValue,typeInfo,hi,k,newVar,newRow,Ai,go_sem]
  ·exact JJ
def LG:List C->Option (List D)
 | []=>some []
 | .d x::l=>(LG l).map (x :: ·)
 | _=>none
theorem Ij:∀ {l:List C} {ds:List D},LG l=some ds->∀(j:Nat) (x:D),ds[j]? = some x->l[j]? = some (.d x)
 | [],ds,h,j,x,a=>by injection h with h;subst h;simp at a
 | c::l,ds,h,j,x,a=>by
  cases c<;>simp only [LG] at h<;>try cases h
  simp only [br] at h;obtain⟨ds',b,rfl⟩:=h
  cases j with
  | zero=>simpa using a
  | succ j=>simpa using Ij b j x (by simpa using a)
theorem Jf:∀ {l:List C} {ds:List D},LG l=some ds->ds.length=l.length
 | [],ds,h=>by injection h with h;subst h;rfl
 | c::l,ds,h=>by
  cases c<;>simp only [LG] at h<;>try cases h
  simp only [br] at h;obtain⟨ds',a,rfl⟩:=h;simp [Jf a]
theorem CS{T:TypeId}{x:Operand}{e:E}{ds:List D}(n:ev f x=some e)(p:NH e=true)(m:LG (eC e)=some ds):AP P TB Z ⟨d,.box T x,ty,pos,af,g⟩ f σ nx (.o (.ip ds)):=
 IF λV X s r=>by
  have i:=JY p (s.get (by simp [Op.operands]) n);obtain⟨hi,l⟩:=r.Sj (w:=V.w.alloc (.cells (X x).cells T)) rfl rfl rfl (by simp) (λb hb=>AQ _ _ _ hb);refine⟨.pointer (some ⟨V.w.heap.size,0,none⟩),_,?_,l,hi,rfl,?_⟩
  ·simp [execOp,Instr.box,newVar,newRow,MU,go_sem]
  ·refine .ip (vs:=λj=>(X x).cells.getD j undef) (.inr rfl) (λj y h=>?_) (λj y h=>?_)
   ·have c:=Ij m j y h
    have a:j < (X x).cells.size:=by rw [i.1];exact(am.1 c).1
    have k:(MU V (V.w.alloc (.cells (X x).cells T))).w.heap[V.w.heap.size]? = some (.cells (X x).cells T):=BB _ _;simp [World.cell?,k,a]
   ·have c:=Ij m j y h
    have a:j < (X x).cells.size:=by rw [i.1];exact(am.1 c).1
    have k:=i.2 j _ _ c (bP a)
    cases k with
    | d q=>simpa [a] using q.ext l
theorem QH{t:TypeId}{x:Operand}{id k i j n:Nat}{T:TypeId}{rows:List (List C)}{r:List C}{c:C}[u:Dl P t false n](m:ev f x=some (.o (.ptr id k i j)))(s:look σ id=some (.cells T k rows))(q:rows[i]? = some r)(z:r[j]? = some c) :
 AP P TB Z ⟨d,.load t x,ty,pos,af,g⟩ f σ nx (.o c):=
 AF λV X F B=>by
  have l:=F.get (by simp [Op.operands]) m;generalize p:X x=v at l
  cases l with
  | ptr y a=>
   rcases B.st.obj id _ s with ⟨b,_⟩|⟨_,cur,b,J,I,H,G,A⟩
   ·exact absurd b a
   ·obtain⟨v,h,e⟩:=A i r j c q z
    refine⟨v,?_,e⟩
    have:V.w.cell? ⟨V.X id,i*k+j,none⟩=some v:=by simp [World.cell?,b,h]
    simp [execOp,p,Instr.loadAt,Instr.sureAddr,loadVar,(Be u.out V.w).1,this,go_sem]
theorem TA{t:TypeId}{x:Operand}{id k i j n:Nat}{T:TypeId}{rows:List (List C)}{r:List C}[A:Dl P t true n](F:ev f x=some (.o (.ptr id k i j)))(I:look σ id=some (.cells T k rows))(H:rows[i]? = some r)(N:j+n<=r.length) :
 AP P TB Z ⟨d,.load t x,ty,pos,af,g⟩ f σ nx (.a ((r.drop j).take n)):=
 AF λV X M L=>by
  have B:=M.get (by simp [Op.operands]) F;generalize G:X x=v at B
  cases B with
  | ptr J y=>
   rcases L.st.obj id _ I with ⟨z,_⟩|⟨_,cur,z,U,S,R,Q,K⟩
   ·exact absurd z y
   ·have b:∀q,q < n->∃v,cur[i*k+j+q]? = some v/\AA V (r[j+q]?.getD (.d (.l []))) v:=λq m=>by
     have p:j+q < r.length:=by omega
     obtain⟨v,e,h⟩:=K i r (j+q) r[j+q] H (bt p);exact⟨v,by rw [cy];exact e,by rw [bt p];exact h⟩
    refine⟨.agg ((List.range n).map λq=>cur.getD (i*k+j+q) undef).toArray,?_,_,rfl,by simp;omega,?_⟩
    ·have:(loadCells ⟨V.X id,i*k+j,none⟩ n).run P V.w=.ok ((List.range n).map λq=>cur.getD (i*k+j+q) undef).toArray V.w:=run_loadCells V.w _ n _ λq m=>by
      rw [Bi];obtain⟨v,e,_⟩:=b q m;simp [World.cell?,z,e]
     unfold loadCells at this;simp [execOp,G,Instr.loadAt,Instr.sureAddr,loadVar,(Be A.out V.w).1,(Be A.out V.w).2,this,go_sem]
    ·intro q c v s u
     rw [bS] at s;split at s
     ·rename_i m
      rw [bX] at s;obtain⟨v',e,h⟩:=b q m;rw [s] at h
      have:v=v':=by simpa [m,e] using u.symm
      rw [this];exact h
     ·cases s
theorem Tr{s kf off:Nat}{x:Operand}{id k i j:Nat}[t:Mx P s kf off](p:ev f x=some (.o (.ptr id k i j))):AP P TB Z ⟨d,.fieldAddr s x kf,ty,pos,af,g⟩ f σ nx (.o (.ptr id k i (j+off))):=
 AF λV X u _=>by
  have n:=u.get (by simp [Op.operands]) p;generalize q:X x=v at n
  cases n with
  | ptr l h=>
   have a:=t.out;unfold Rs at a;split at a
   ·rename_i fs r
    split at a
    ·rename_i fl m
     split at a
     ·rename_i ii hi
      cases b:Nat.beq ii.size 0
      ·rw [b] at a
       simp only [cond_false,Option.some.injEq] at a;subst a
       have c:ii.size≠0:=λe=>by rw [e] at b;cases b
       refine⟨.pointer (some ⟨V.X id,i*k+j+fl.offset,none⟩),?_,by rw [cy];exact .ptr l h⟩;simp [execOp,q,Instr.fieldAt,run_underlying r,m,Instr.sureAddr,fieldPlace,sizeOf,typeInfo,hi,c,Bi,go_sem]
      ·rw [b] at a;cases a
     ·cases a
    ·cases a
   ·cases a
theorem Ts{t e:TypeId}{x y:Operand}{id k len b:Nat}{off:Nat}{n:Int}{ik:IntKind}[w:Ch P t e k b](m:ev f x=some (.o (.arr id k off len)))(l:ev f y=some (eI ik n))
 (A:0<=n) (s:n < len):AP P TB Z ⟨d,.indexAddr t x y,ty,pos,af,g⟩ f σ nx (.o (.ptr id k (off+n.toNat) 0)):=
 AF λV X j _=>by
  have h:=j.get (by simp [Op.operands]) m;have z:X y=.int ik n:=AA.val (j.get (by simp [Op.operands]) l);generalize p:X x=v at h;obtain⟨i,q,hi,r,_⟩:=EC w.out
  cases h with
  | nil=>omega
  | arr c a u=>
   refine⟨.pointer (some ⟨V.X id,(off+n.toNat)*k+0,none⟩),?_,.ptr c a⟩;simp [execOp,p,z,Instr.indexAt,asIntOf,run_underlying q,A,s,sizeOf,typeInfo,hi,r,Bi,bY,go_sem]
theorem Tu{t:TypeId}{x y:Operand}{id k i j:Nat}{n:Int}{len ke:Nat}{ik:IntKind}[u:P7 P t len ke](m:ev f x=some (.o (.ptr id k i j)))(l:ev f y=some (eI ik n))
 (z:0<=n) (s:n < len):AP P TB Z ⟨d,.indexAddr t x y,ty,pos,af,g⟩ f σ nx (.o (.ptr id k i (j+n.toNat*ke))):=
 AF λV X h _=>by
  have c:=h.get (by simp [Op.operands]) m;have w:X y=.int ik n:=AA.val (h.get (by simp [Op.operands]) l);generalize p:X x=v at c;obtain⟨e,ii,q,hi,r⟩:=Sn u.out
  cases c with
  | ptr b a=>
   refine⟨.pointer (some ⟨V.X id,i*k+(j+n.toNat*ke),none⟩),?_,.ptr b a⟩;simp [execOp,p,w,Instr.indexAt,asIntOf,run_underlying q,Instr.sureAddr,z,s,sizeOf,typeInfo,hi,r,Bi,cy,go_sem]
theorem Hl{t:TypeId}{n:Nat}{w:World}{a:Addr}{v:Value}(h:(sizeOf t).run P w=.ok n w)(b:v.cells.size=n):(storeVar t a v).run P w=(storeCells a v.cells.toList).run P w:=by
 unfold storeVar;simp only [bV,h,bQ,b,ne_eq,not_true,if_false]
def Aj(r:List C)(j:Nat)(cs:List C):List C:=r.take j++cs++r.drop (j+cs.length)
theorem HO{t:TypeId}{x y:Operand}{id k i j n:Nat}{T:TypeId}{rows:List (List C)}{r:List C}{e:E}{ag:Bool}[hl:Dl P t ag n](hx:ev f x=some (.o (.ptr id k i j)))(hy:ev f y=some e)(ho:NH e=true)
 (J:look σ id=some (.cells T k rows)) (hr:rows[i]? = some r) (hn:(eC e).length=n) (hj:j+n<=k) (hK:K (.t []) ((id,.cells T k (rows.set i (Aj r j (eC e))))::σ) nx):BH P TB Z ⟨d,.store t x y,ty,pos,af,g⟩ f σ nx K:=by
 intro V a h1 h2 h3;have h1:=h1.GJ;unfold Oper.wp;generalize a.eval=X at h1 |-;have N:=h1.get (by simp [Op.operands]) hx;have hc:=JY ho (h1.get (by simp [Op.operands]) hy);generalize hv:X x=v at N
 cases N with
 | ptr hid F =>
  rcases h2.st.obj id _ J with ⟨h4,_⟩|⟨_,cur,h4,h5,h6,h7,h8,h9⟩
  ·exact absurd h4 F
  ·have hrk : r.length=k:=h8 r (bm hr)
   have U:=(am.1 hr).1
   have H:(X y).cells.size=n:=by rw [hc.1,hn]
   have B:(i+1)*k<=cur.size:=by rw [h5];exact cf _ (by omega)
   have hfit:i*k+j+n<=cur.size:=by rw [bY] at B;omega
   have I:=run_storeCells_at P (V.X id) (i*k+j) T (X y).cells.toList 0 cur V.w h4 (by simp;omega) (λv hv=>by
    obtain⟨q,A,rfl⟩:=cr hv
    have hq':q < (eC e).length:=by simpa [hc.1] using A
    exact(hc.2 q (eC e)[q] _ (bt hq') (by simp)).one)
   simp only [em,er] at I;rw [H] at I
   have hw := h2.write J F (w:=V.w.setRow (V.X id) (cur.toList.take (i*k+j)++(X y).cells.toList++cur.toList.drop (i*k+j+n)).toArray) (ob':=.cells T k (rows.set i (Aj r j (eC e)))) rfl rfl rfl rfl rfl (by simp) (λb hb=>setRow_other _ _ _ _ hb) (by
    have ee:Ext V { V with w:=V.w.setRow (V.X id) (cur.toList.take (i*k+j)++(X y).cells.toList++cur.toList.drop (i*k+j+n)).toArray } :=
     ⟨λ_ h=>h,λb hb=>setRow_other _ _ _ _ λe=>h2.st.free id _ J F b e hb,by simp,λ_ _=>rfl,λ_ _=>rfl,λ_ _=>Iff.rfl,bJ _⟩
    have z:(cur.toList.take (i*k+j)++(X y).cells.toList).length=i*k+j+n:=by simp [H];omega
    refine .inr ⟨F,_,setRow_heap _ _ _ _ _ _ h4,?_,by simpa using h6,h7,?_,?_⟩
    ·simp [H];omega
    ·intro r' hr'
     rcases List.mem_or_eq_of_mem_set hr' with h|h
     ·exact h8 r' h
     ·subst h;simp [Aj,hn];omega
    ·intro i' r' j' c m l
     rw [List.getElem?_set] at m
     have hidx:∀q,(cur.toList.take (i*k+j)++(X y).cells.toList++cur.toList.drop (i*k+j+n)).toArray[q]? = if q < i*k+j then cur[q]? else if q < i*k+j+n then (X y).cells[q - (i*k+j)]? else cur[q]?:=by
      intro q;simp only [dm];by_cases A:q < i*k+j+n
      ·rw [bx (by rw [z];exact A)]
       by_cases u:q < i*k+j
       ·rw [bx (by simp;omega),if_pos u]
        simp [u]
       ·rw [bz (by simp;omega),if_neg u,if_pos A]
        simp;congr 1;omega
      ·rw [bz (by rw [z];omega),if_neg (by omega),if_neg A,z,bX]
       simp;congr 1;omega
     rw [hidx];by_cases M:i=i'
     ·subst M
      rw [if_pos rfl,if_pos U] at m
      injection m with m
      subst m;unfold Aj at l
      have L:(r.take j++eC e).length=j+n:=by simp [hn];omega
      by_cases A:j' < j+n
      ·rw [bx (by rw [L];exact A)] at l
       by_cases u:j' < j
       ·rw [bx (by simp;omega)] at l
        rw [bS,if_pos u] at l;obtain⟨v,s,p⟩:=h9 i r j' c hr l;rw [if_pos (by omega)];exact⟨v,s,p.ext ee⟩
       ·rw [bz (by simp;omega)] at l
        have S:(r.take j).length=j:=by simp;omega
        rw [S] at l;rw [if_neg (by omega),if_pos (by omega)]
        have G:j' - j < (X y).cells.size:=by omega
        have he:i*k+j' - (i*k+j)=j' - j:=by omega
        rw [he];exact⟨(X y).cells[j' - j],bP G,(hc.2 _ c _ l (bP G)).ext ee⟩
      ·rw [bz (by rw [L];omega),L,bX,hn] at l
       have he:j+n+(j' - (j+n))=j':=by omega
       rw [he] at l;obtain⟨v,s,p⟩:=h9 i r j' c hr l;rw [if_neg (by omega),if_neg (by omega)];exact⟨v,s,p.ext ee⟩
     ·rw [if_neg M] at m
      obtain⟨v,s,p⟩:=h9 i' r' j' c m l;have R:r'.length=k:=h8 r' (bm m)
      have hj'k:j' < k:=by rw [<-R];exact(am.1 l).1
      have : ¬(i*k+j<=i'*k+j'/\i'*k+j' < i*k+j+n):=by
       rintro⟨ha,hb⟩
       rcases dX M with G|G
       ·have:=cf k (show i+1<=i' by omega)
        rw [bY] at this;omega
       ·have:=cf k (show i'+1<=i by omega)
        rw [bY] at this;omega
      by_cases A:i'*k+j' < i*k+j
      ·rw [if_pos A];exact⟨v,s,p.ext ee⟩
      ·rw [if_neg A,if_neg (by omega)];exact⟨v,s,p.ext ee⟩)
   have Q:(execOp X ⟨d,.store t x y,ty,pos,af,g⟩).run P V.w=.ok .skip (V.w.setRow (V.X id) (cur.toList.take (i*k+j)++(X y).cells.toList++cur.toList.drop (i*k+j+n)).toArray):=by
    show ((do Instr.storeAt t (X x) (X y);pure Go.Next.skip:Sem Go.Next)).run P V.w=_
    rw [hv];simp only [Instr.storeAt,Instr.sureAddr,pure_bind,bV,Hl (Be hl.out V.w).2 H,I,bQ];rfl
   rw [Q];exact⟨_,undef,_,_,rfl,rfl,hw.2,hw.1,IQ _,by rw [<-h3] at hK;exact hK⟩
end
def Vz(V:View)(k:Nat)(rows:List (List C))(v:Value):Prop:=
 (v=.slice none 0 0/\rows=[])\/
 ∃(a:Addr) (cap:Nat) (vs:Nat->Nat->Value),v=.slice (some a) rows.length cap/\(∀r∈rows,r.length=k)/\
  ∀(i:Nat) (r:List C) (j:Nat) (c:C),rows[i]? = some r->r[j]? = some c->V.w.cell? (a.add (i*k+j))=some (vs i j)/\AA V c (vs i j)
def Ic(σ:Ab)(k:Nat):E->Option (List (List C))
 | .o (.d (.l rows))=>some (rows.map λr=>r.map .d)
 | .o (.arr id k' off len)=>match look σ id with
  | some (.cells _ _ rows)=>bif Nat.beq k' k && Nat.ble (off+len) rows.length then some ((rows.drop off).take len) else none
  | _=>none
 | _=>none
theorem QR{TB:Bg}{Z:Ctx}{V:View}{σ:Ab}(h:Inv TB Z V σ){k:Nat}{e:E}{v:Value}{rows:List (List C)}(g:Ic σ k e=some rows)(t:∀r∈rows,r.length=k)(w:A1 V e v):Vz V k rows v:=by
 unfold Ic at g;split at g
 ·rename_i ds
  injection g with g
  subst g
  cases w with
  | d w =>
   cases w with
   | nil=>exact .inl ⟨rfl,rfl⟩
   | @e a cap=>exact .inr ⟨a,cap,λ_ _=>undef,rfl,by simp,λi r j c hi=>by simp at hi⟩
   | @l _ b o k' cap vs hb H Q B P q=>
    refine .inr ⟨⟨b,o,none⟩,cap,vs,by simp,t,λi r j c hi u=>?_⟩;simp only [bG,br] at hi;obtain⟨p,m,rfl⟩:=hi;simp only [bG,br] at u;obtain⟨x,G,rfl⟩:=u
    have:k'=k:=by
     have S:=B i p m;have J:=t (p.map .d) (bB.2 ⟨p,bm m,rfl⟩);rw [bK] at J;omega
    subst this;exact⟨by rw [Bi,<-cy];exact P i p j x m G,.d (q i p j x m G)⟩
 ·rename_i id k' off len
  split at g
  ·rename_i T k2 f L
   cases hb:Nat.beq k' k && Nat.ble (off+len) f.length
   ·rw [hb] at g;cases g
   ·rw [hb] at g
    injection g with g
    subst g;rw [bu] at hb;have z:=bA hb.1;have K:=bn hb.2;subst z
    cases w with
    | nil H B=>exact .inl ⟨rfl,by simp⟩
    | arr H y B=>
     rcases h.st.obj id _ L with ⟨q,_⟩|⟨_,cur,q,h5,h6,U,N,M⟩
     ·exact absurd q y
     ·rcases cD len with I|I
      ·subst I
       exact .inr ⟨⟨V.X id,off*k',none⟩,V.cap id - off,λ_ _=>undef,by simp,by simp,λi r j c hi=>by simp at hi⟩
      ·have A:k2=k':=by
        have n:0 < ((f.drop off).take len).length:=by simp;omega
        have S:=t _ (cx n);have J:=N _ (dJ (ce (cx n)));omega
       subst A;refine .inr ⟨⟨V.X id,off*k2,none⟩,V.cap id - off,λi j=>cur.getD ((off+i)*k2+j) undef,?_,t,λi r j c hi u=>?_⟩
       ·have:((f.drop off).take len).length=len:=by simp;omega
        rw [this]
       ·rw [bS] at hi
        split at hi
        ·rename_i n
         rw [bX] at hi;obtain⟨v,s,F⟩:=M (off+i) r j c hi u
         have R:off*k2+i*k2+j=(off+i)*k2+j:=by rw [bY]
         have:cur.getD ((off+i)*k2+j) undef=v:=by simp [s]
         simp only [this];exact⟨by rw [Bi,<-cy,R];simp [World.cell?,q,s],F⟩
        ·cases hi
  ·cases g
 ·cases g
def Cn(m k:Nat)(vs:Nat->Nat->Value):List Value:=(List.range (m*k)).map λq=>vs (q / k) (q % k)
theorem Iu{m k:Nat}{vs:Nat->Nat->Value}{i j:Nat}(hi:i < m)(b:j < k):(Cn m k vs)[i*k+j]? = some (vs i j):=by
 have a:i*k+j < m*k:=by
  have:=cf k (show i+1<=m by omega);rw [bY] at this;omega
 have c:0 < k:=by omega
 have e:(i*k+j) / k=i:=by rw [en,Nat.add_mul_div_right _ _ c,Nat.div_eq_of_lt b,bW]
 have d:(i*k+j) % k=j:=by rw [en,Nat.add_mul_mod_self_right,de b]
 simp [Cn,a,e,d]
theorem Iv{m k:Nat}{vs:Nat->Nat->Value}{q:Nat}{u:Value}(h:(Cn m k vs)[q]? = some u):∃i j,q=i*k+j/\i < m/\j < k/\u=vs i j:=by
 have a:=(am.1 h).1;simp [Cn] at a
 have c:0 < k:=by rcases cD k with b|b;(subst b;simp at a);exact b
 refine⟨q / k,q % k,?_,?_,Nat.mod_lt _ c,?_⟩
 ·rw [eW];exact(Nat.div_add_mod q k).symm
 ·exact Nat.div_lt_of_lt_mul (by rw [eW];exact a)
 ·simp [Cn,a] at h;exact h.symm
theorem Cf(m k:Nat)(vs:Nat->Nat->Value):(Cn m k vs).length=m*k:=by simp [Cn]
section
variable {P:Program}{TB:Bg}{Z:Ctx}{d:Option Tmp}{ty:TypeId}{pos:String}{af:Array Edge}{g:Option (Nat×Bool)}{f:Env}{σ:Ab}{nx:Nat}
variable {K:E->Ab->Nat->Prop}
theorem DE{t e:TypeId}{i:TypeInfo}(ht:P.underlying t=some (.slice e))(hi:P.info? e=some i)(w:World)(base:Option Addr)(n cap:Nat)(a:n<=cap)(ty:TypeId) :
 (Builtin.append_ #[t,t] ty #[.slice base n cap,.slice none 0 0]).run P w=.ok (.slice base n cap) w:=by
 cases base<;>simp [Builtin.append_,run_underlying ht,sizeOf,typeInfo,hi,Builtin.lenOf,Builtin.firstCells,storeCells,a,go_sem]
theorem JU{V:View}{k:Nat}{rows news:List (List C)}{cur':Array Value}(b:∀(i:Nat) (r:List C) (j:Nat) (c:C),rows[i]? = some r->r[j]? = some c->∃v,cur'[i*k+j]? = some v/\AA V c v)
 (d:∀(i:Nat) (r:List C) (j:Nat) (c:C),news[i]? = some r->r[j]? = some c->∃v,cur'[(rows.length+i)*k+j]? = some v/\AA V c v) :
 ∀(i:Nat) (r:List C) (j:Nat) (c:C),(rows++news)[i]? = some r->r[j]? = some c->∃v,cur'[i*k+j]? = some v/\AA V c v:=by
 intro i r j c hi a;by_cases h:i < rows.length
 ·rw [bx h] at hi;exact b i r j c hi a
 ·rw [bz (by omega)] at hi
  have:=d (i - rows.length) r j c hi a
  have e:rows.length+(i - rows.length)=i:=by omega
  rw [e] at this;exact this
theorem AT{t e:TypeId}{k b:Nat}{z:List Value}{s x:Operand}{id len:Nat}{rows news:List (List C)}{ex:E}[hl:Ch P t e k b][hz:BQ P e z]
 (hs:ev f s=some (.o (.arr id k 0 len))) (hx:ev f x=some ex) (hlk:look σ id=some (.cells e k rows)) (G:rows.length=len) (hsrc:Ic σ k ex=some news) (hkk:∀r∈news,r.length=k)
 (hzk:z.length=k) (hb0:0 < b) (hb:(len+news.length)*b<=140737488355328)
 (hK:K (.o (.arr nx k 0 (len+news.length))) ((nx,.cells e k (rows++news))::kill id σ) (nx+1)):BH P TB Z ⟨d,.call ⟨.builtin .append,#[s,x],#[t,t]⟩,ty,pos,af,g⟩ f σ nx K:=
 C7 λV X h1 h2 h3=>by
  subst h3;obtain⟨i,hu,hi,I,hby⟩:=EC hl.out;have hz':=hz.out;simp only [RZ,hi,cT,br] at hz';obtain⟨zv,hzv,hzz⟩:=hz'
  have hzc:zv.cells.size=k:=by rw [<-hzk,<-hzz];simp
  have hsr:=h1.get (x:=s) (by simp [Op.operands,Call.operands]) hs;have hxr:=QR h2 hsrc hkk (h1.get (x:=x) (by simp [Op.operands,Call.operands]) hx)
  have A:∀w,(execOp X ⟨d,.call ⟨.builtin .append,#[s,x],#[t,t]⟩,ty,pos,af,g⟩).run P w=((Builtin.append_ #[t,t] ty #[X s,X x]).run P w).andThen λv w'=>.ok (.value v) w':=λw=>by
   simp only [execOp,resolve,invoke,builtin,eX,cH,dY,pure_bind,bind_pure_comp,ea]
  have hmax:len+news.length<=maxLen:=by
   have:len+news.length<=(len+news.length)*b:=cR _ hb0;unfold maxLen;omega
  have hint:((len+news.length:Nat):Int)<=9223372036854775807:=by
   have:len+news.length<=(len+news.length)*b:=cR _ hb0;omega
  generalize hvs:X s=vs at *;generalize hvx:X x=vx at *;have hob:=h2.st.obj id _ hlk
  rcases hxr with ⟨rfl,hnil⟩|⟨xa,xc,xv,rfl,hxk,n⟩
  ·-- nothing is added: the value stays
   subst hnil;obtain⟨hi',he'⟩:=h2.alias hlk;rw [cF] at hK;refine⟨vs,_,_,_,?_,he',hi',?_,hK⟩
   ·rw [A]
    cases hsr with
    | nil=>rw [DE hu hi V.w none 0 0 (bJ _) ty];rfl
    | arr h4 h5 h6=>rw [DE hu hi V.w _ len _ (by omega) ty];rfl
   ·have R:(Ai V (V.X id) (V.cap id) (V.nl id) V.w).nl V.nx=V.nl id:=by simp [Ai]
    have hnr:(Ai V (V.X id) (V.cap id) (V.nl id) V.w).X V.nx=V.X id:=by simp [Ai]
    have U:(Ai V (V.X id) (V.cap id) (V.nl id) V.w).cap V.nx=V.cap id:=by simp [Ai]
    cases hsr with
    | nil h4 h5=>exact AA.nil (by simp [Ai]) (by rw [R];exact h5)
    | arr h4 h5 h6=>
     have:=@AA.arr (Ai V (V.X id) (V.cap id) (V.nl id) V.w) V.nx k 0 (len+0) (by simp [Ai]) (by rw [R];exact h5) (by rw [U];exact h6);rw [hnr,U] at this;exact this
  ·have l : (Cn news.length k xv).length=news.length*i.size:=by rw [Cf,I]
   have y:∀j u,(Cn news.length k xv)[j]? = some u->V.w.cell? (xa.add j)=some u:=by
    intro q u p;obtain⟨a,b,rfl,ha,hb,rfl⟩:=Iv p
    have hbl:b < news[a].length:=by rw [hxk _ (cx ha)];exact hb
    exact(n a news[a] b news[a][b] (bt ha) (bt hbl)).1
   have hnews1:∀u∈Cn news.length k xv,u.oneCell'=true:=by
    intro u hu;obtain⟨q,p,rfl⟩:=cr hu;obtain⟨a,b,_,ha,hb,he⟩:=Iv (bt p);rw [he]
    have hbl:b < news[a].length:=by rw [hxk _ (cx ha)];exact hb
    exact(n a news[a] b news[a][b] (bt ha) (bt hbl)).2.one
   have fresh:∀(olds:List Value) (cap':Nat),olds.length=len*k->len+news.length<=cap'->cap'<=maxLen->
    (∀(i:Nat) (r:List C) (j:Nat) (c:C),rows[i]? = some r->r[j]? = some c->∃v,olds[i*k+j]? = some v/\AA V c v)->
    (Builtin.append_ #[t,t] ty #[vs,.slice (some xa) news.length xc]).run P V.w=.ok (.slice (some ⟨V.w.heap.size,0,none⟩) (len+news.length) cap')
     (V.w.drew.alloc (.cells (olds.toArray++(Cn news.length k xv).toArray++Builtin.zeroCells zv.cells (cap' - (len+news.length))) e))->
    (∀r∈rows,r.length=k)->
    ∃v V' xx σ',(execOp X ⟨d,.call ⟨.builtin .append,#[s,x],#[t,t]⟩,ty,pos,af,g⟩).run P V.w=.ok (.value v) V'.w/\Ext V V'/\Inv TB Z V' σ'/\A1 V' xx v/\K xx σ' V'.nx:=by
    intro olds cap' L hcap hcm hold hrun hrk
    let w':=V.w.drew.alloc (.cells (olds.toArray++(Cn news.length k xv).toArray++Builtin.zeroCells zv.cells (cap' - (len+news.length))) e)
    have ee:Ext V (Ai V V.w.heap.size cap' False w'):=C8 (by simp [w']) λb hb=>AQ V.w.drew _ b (h2.iLt b hb)
    obtain⟨hi',he'⟩:=h2.alloc (c:=cap') (nl:=False) (w:=w') (ob:=.cells e k (rows++news)) rfl rfl rfl rfl (by simp [w']) (λb hb=>AQ V.w.drew _ b hb) (by
     refine .inr ⟨by simp [Ai],olds.toArray++(Cn news.length k xv).toArray++Builtin.zeroCells zv.cells (cap' - (len+news.length)),?_,?_,?_,?_,?_,?_⟩
     ·have:=BB V.w.drew (.cells (olds.toArray++(Cn news.length k xv).toArray++Builtin.zeroCells zv.cells (cap' - (len+news.length))) e)
      have H:(Ai V V.w.heap.size cap' False w').X V.nx=V.w.heap.size:=by simp [Ai]
      rw [H];exact this
     ·have hc:(Ai V V.w.heap.size cap' False w').cap V.nx=cap':=by simp [Ai]
      rw [hc];simp only [Array.size_append,eL,L,Cf,Builtin.zeroCells,Array.size_map,Array.size_range,hzc,<-bY];congr 1;omega
     ·have hc:(Ai V V.w.heap.size cap' False w').cap V.nx=cap':=by simp [Ai]
      rw [hc,cK,G];exact hcap
     ·have hc:(Ai V V.w.heap.size cap' False w').cap V.nx=cap':=by simp [Ai]
      rw [hc];exact hcm
     ·intro r H
      rcases bE.1 H with h|h
      ·exact hrk r h
      ·exact hkk r h
     ·refine JU (λi r j c hi B=>?_) (λi r j c hi B=>?_)
      ·obtain⟨v,m,h11⟩:=hold i r j c hi B
       refine⟨v,?_,h11.ext ee⟩;have F:=(am.1 m).1;rw [bU (by simp;omega),bU (by simpa using F)]
       simpa using m
      ·have hil:=(am.1 hi).1
       have hjl:j < k:=by rw [<-hxk r (bm hi)];exact(am.1 B).1
       have m:=Iu (vs:=xv) hil hjl;refine⟨xv i j,?_,(n i r j c hi B).2.ext ee⟩;have F:=(am.1 m).1;rw [G,bY,cy];rw [bU (by simp [L];omega),cS (by simp [L])]
       simpa [L] using m)
    refine⟨.slice (some ⟨V.w.heap.size,0,none⟩) (len+news.length) cap',_,_,(V.nx,.cells e k (rows++news))::kill id σ,?_,he',hi'.sub ?_,?_,hK⟩
    ·rw [A,hrun];rfl
    ·intro q o p
     rw [Ak] at p |-;by_cases T:V.nx=q
     ·rwa [if_pos T] at p |-
     ·rw [if_neg T] at p |-
      rw [Dq] at p;by_cases Q:q=id
      ·rw [if_pos Q] at p;cases p
      ·rwa [if_neg Q] at p
    ·have:=@AA.arr (Ai V V.w.heap.size cap' False w') V.nx k 0 (len+news.length) (by simp [Ai]) (by simp [Ai]) (by simp [Ai];exact hcap)
     have H:(Ai V V.w.heap.size cap' False w').X V.nx=V.w.heap.size:=by simp [Ai]
     have hc:(Ai V V.w.heap.size cap' False w').cap V.nx=cap':=by simp [Ai]
     rw [H,hc,dh,eY] at this;exact this
   cases hsr with
   | nil hid M=>
    have S:rows=[]:=bM.1 G
    rcases cD news.length with hm0|hm0
    ·-- nil and nothing: nil
     have R:news=[]:=bM.1 hm0;subst R;obtain⟨hi',he'⟩:=h2.alias hlk;rw [cF] at hK;refine⟨.slice none 0 0,_,_,_,?_,he',hi',?_,hK⟩
     ·rw [A]
      simp [Builtin.append_,run_underlying hu,sizeOf,typeInfo,hi,Builtin.lenOf,Builtin.firstCells,loadCells,loadCellsFrom,Ai,go_sem]
     ·exact AA.nil (by simp [Ai]) (by simp [Ai,M])
    ·have H:=run_append_nil (P:=P) V.w t ty e i zv hu hi hzv xa news.length xc _ l y hm0 (by omega) (by rw [hby];have hb':=hb;simp only [bW] at hb';omega)
     refine fresh [] (grownCap V.w news.length 0 e) (by simp) (by simp only [bW];exact grownCap_ge _ _ _ _) (grownCap_le_maxLen _ _ _ _ (by omega)) (λi r j c hi=>by rw [S] at hi;simp at hi) ?_ (λr H=>by rw [S] at H;cases H);rw [H];simp
   | arr hid M hle=>
    rcases hob with ⟨h4,_⟩|⟨_,cur,h4,h5,h6,h7,h8,h9⟩
    ·exact absurd h4 M
    ·have hcs : cur.size=V.cap id*i.size:=by rw [h5,I]
     by_cases J:len+news.length<=V.cap id
     ·-- there is room
      have N:len*i.size+(Cn news.length k xv).length<=cur.size:=by
       rw [l,hcs,<-bY];exact cf _ J
      have H:=run_append_room (P:=P) V.w t ty e i hu hi (V.X id) len (V.cap id) cur h4 xa news.length xc _ l y hnews1 J N
      have hlen2:(cur.toList.take (len*k)++Cn news.length k xv).length=len*k+news.length*k:=by
       rw [I] at N;simp [Cf] at N |-;omega
      let w':=V.w.setRow (V.X id) (cur.toList.take (len*i.size)++Cn news.length k xv++cur.toList.drop (len*i.size+(Cn news.length k xv).length)).toArray
      have ee:Ext V { V with w:=w' } :=
       ⟨λ_ h=>h,λb hb=>setRow_other _ _ _ _ λe=>h2.st.free id _ hlk M b e hb,by simp [w'],λ_ _=>rfl,λ_ _=>rfl,λ_ _=>Iff.rfl,bJ _⟩
      obtain⟨hw1,hw2⟩:=h2.write hlk M (w:=w') (ob':=.cells e k (rows++news)) rfl rfl rfl rfl rfl (by simp [w']) (λb hb=>setRow_other _ _ _ _ hb) (by
       refine .inr ⟨M,_,setRow_heap _ _ _ _ _ _ h4,?_,?_,h7,?_,?_⟩
       ·simp only [eL,cK,dK,List.length_drop,er]
        rw [hcs,l,I] at N;simp only [Cf,I,h5];omega
       ·rw [cK,G];exact J
       ·intro r H
        rcases bE.1 H with h|h
        ·exact h8 r h
        ·exact hkk r h
       ·simp only [I]
        refine JU (λi' r j c hi B=>?_) (λi' r j c hi B=>?_)
        ·obtain⟨v,m,h11⟩:=h9 i' r j c hi B
         refine⟨v,?_,h11.ext ee⟩
         have hjl:j < k:=by rw [<-h8 r (bm hi)];exact(am.1 B).1
         have hil:=(am.1 hi).1
         have F:i'*k+j < len*k:=by
          have:=cf k (show i'+1<=len by omega);rw [bY] at this;omega
         have hlc:len*k<=cur.size:=by rw [h5];exact cf _ (by omega)
         simp only [dm];rw [bx (by rw [hlen2];omega),bx (by simp;omega),bS,if_pos F]
         simpa using m
        ·have hil:=(am.1 hi).1
         have hjl:j < k:=by rw [<-hxk r (bm hi)];exact(am.1 B).1
         have m:=Iu (vs:=xv) hil hjl;have F:=(am.1 m).1;rw [Cf] at F;refine⟨xv i' j,?_,(n i' r j c hi B).2.ext ee⟩
         have hlc:len*k<=cur.size:=by rw [h5];exact cf _ (by omega)
         have htl:(cur.toList.take (len*k)).length=len*k:=by simp;omega
         simp only [dm];rw [G,bY,cy,bx (by rw [hlen2];omega),bz (by rw [htl];omega),htl]
         have:len*k+(i'*k+j) - len*k=i'*k+j:=by omega
         rw [this];exact m)
      have hlk2:look ((id,O.cells e k (rows++news))::σ) id=some (.cells e k (rows++news)):=by rw [Ak,if_pos rfl]
      obtain⟨ha1,ha2⟩:=hw1.alias hlk2;refine⟨.slice (some ⟨V.X id,0,none⟩) (len+news.length) (V.cap id),_,_,(V.nx,.cells e k (rows++news))::kill id σ,?_,hw2.trans ha2,ha1.sub ?_,?_,hK⟩
      ·rw [A]
       have:V.cap id - 0=V.cap id:=by omega
       rw [dh,this,H];rfl
      ·intro q o p
       rw [Ak] at p |-;by_cases T:V.nx=q
       ·rwa [if_pos T] at p |-
       ·rw [if_neg T] at p |-
        rw [Dq] at p |-;by_cases Q:q=id
        ·rw [if_pos Q] at p;cases p
        ·rw [if_neg Q] at p |-
         rw [Ak,if_neg (Ne.symm Q)];exact p
      ·have R:(Ai { V with w:=w' } (V.X id) (V.cap id) (V.nl id) w').nl V.nx=V.nl id:=by simp [Ai]
       have hnr:(Ai { V with w:=w' } (V.X id) (V.cap id) (V.nl id) w').X V.nx=V.X id:=by simp [Ai]
       have U:(Ai { V with w:=w' } (V.X id) (V.cap id) (V.nl id) w').cap V.nx=V.cap id:=by simp [Ai]
       have:=@AA.arr (Ai { V with w:=w' } (V.X id) (V.cap id) (V.nl id) w') V.nx k 0 (len+news.length) (by simp [Ai]) (by rw [R];exact M) (by rw [U];omega);rw [hnr,U,dh,eY] at this;exact this
     ·-- it grows
      have L:(cur.toList.take (len*k)).length=len*k:=by
       have hlc:len*k<=cur.size:=by rw [h5];exact cf _ (by omega)
       simp;omega
      have H:=run_append_grow (P:=P) V.w t ty e i zv hu hi hzv ⟨V.X id,0,none⟩ len (V.cap id) (cur.toList.take (len*k)) (by rw [L,I]) (λj v B=>by
       rw [Bi];rw [bS] at B;split at B
       ·simpa [World.cell?,h4] using B
       ·cases B) xa news.length xc _ l y (by omega) (by omega) (by rw [hby];exact growslice_fits (by omega) hb)
      refine fresh (cur.toList.take (len*k)) (grownCap V.w (len+news.length) (V.cap id) e) L (grownCap_ge _ _ _ _) (grownCap_le_maxLen _ _ _ _ hmax) (λi' r j c hi B=>?_) ?_ h8
      ·obtain⟨v,m,h11⟩:=h9 i' r j c hi B
       refine⟨v,?_,h11⟩
       have hjl:j < k:=by rw [<-h8 r (bm hi)];exact(am.1 B).1
       have hil:=(am.1 hi).1
       have F:i'*k+j < len*k:=by
        have:=cf k (show i'+1<=len by omega);rw [bY] at this;omega
       rw [bS,if_pos F];simpa using m
      ·have:V.cap id - 0=V.cap id:=by omega
       rw [dh,this];exact H
end
def Mu(V:View)(place:Nat->Option (Nat×Nat)):List (Nat×Value)->List (Nat×List C)->Prop
 | [],[]=>True
 | (i,v)::ps,(off,cs)::qs=>place i=some (off,cs.length)/\Cy V cs v.cells/\Mu V place ps qs
 | _,_=>False
def BA:List (Nat×List C)->List C->List C
 | [],z=>z
 | (off,cs)::r,z=>BA r (Aj z off cs)
theorem GL:∀(l:List (Value×Nat)) (n off:Nat) (cells:Array Value),(∀(q:Nat) (x:Value×Nat),l[q]? = some x->x.2=n+q)->off+n+l.length<=cells.size->
 (l.foldl (λcs x=>cs.setIfInBounds (off+x.2) x.1) cells).size=cells.size/\
 ∀q,(l.foldl (λcs x=>cs.setIfInBounds (off+x.2) x.1) cells)[q]? = if off+n<=q/\q < off+n+l.length then (l[q - (off+n)]?).map (·.1) else cells[q]?
 | [],n,off,cells,_,_=>by
  refine⟨rfl,λq=>?_⟩;rw [if_neg (by simp)];rfl
 | x :: l,n,off,cells,c,d=>by
  have h:x.2=n:=by simpa using c 0 x rfl
  have b:=GL l (n+1) off (cells.setIfInBounds (off+x.2) x.1) (λq y f=>by have:=c (q+1) y (by simpa using f);omega) (by simp at d |-;omega);simp only [cY];refine⟨by rw [b.1];simp,λq=>?_⟩;rw [b.2 q,h];simp only [cg] at d |-;by_cases e:off+n<=q/\q < off+n+(l.length+1)
  ·rw [if_pos e]
   by_cases g:q=off+n
   ·subst g
    rw [if_neg (by omega)]
    have a:off+n < cells.size:=by omega
    simp [a]
   ·rw [if_pos (by omega)]
    have:q - (off+n)=(q - (off+(n+1)))+1:=by omega
    rw [this];simp
  ·rw [if_neg e,if_neg (by omega)]
   rw [cW (by omega)]
theorem PI{V:View}{z cs:List C}{cells vc cells':Array Value}{off:Nat}(f:Cy V z cells)(h:Cy V cs vc)(k:off+cs.length<=z.length)(i:cells'.size=cells.size)
 (l:∀q,cells'[q]? = if off<=q/\q < off+cs.length then vc[q - off]? else cells[q]?):Cy V (Aj z off cs) cells':=by
 refine⟨by rw [i,f.1];simp [Aj];omega,λj c v b a=>?_⟩;rw [l] at a;unfold Aj at b
 have d:(z.take off++cs).length=off+cs.length:=by simp;omega
 have e:(z.take off).length=off:=by simp;omega
 by_cases m:j < off+cs.length
 ·rw [bx (by rw [d];exact m)] at b
  by_cases g:j < off
  ·rw [bx (by rw [e];exact g),bS,if_pos g] at b
   rw [if_neg (by omega)] at a;exact f.2 j c v b a
  ·rw [bz (by rw [e];omega),e] at b
   rw [if_pos (by omega)] at a;exact h.2 _ c v b a
 ·rw [bz (by rw [d];omega),d,bX] at b
  rw [if_neg (by omega)] at a
  have:off+cs.length+(j - (off+cs.length))=j:=by omega
  rw [this] at b;exact f.2 j c v b a
theorem NI(n:Nat):∀(qs:List (Nat×List C)),(qs.all λx=>Nat.ble (x.1+x.2.length) n)=true->∀x∈qs,x.1+x.2.length<=n:=by
 intro qs h x a;exact bn (bH.1 h x a)
theorem HA{V:View}{place:Nat->Option (Nat×Nat)}:∀(ps:List (Nat×Value)) (qs:List (Nat×List C)) (z:List C) (cells:Array Value),Mu V place ps qs->Cy V z cells->(∀x∈qs,x.1+x.2.length<=z.length)->
 ∃cells',Instr.fill place cells ps=some cells'/\Cy V (BA qs z) cells'
 | [],[],z,cells,_,d,_=>⟨cells,rfl,d⟩
 | [],_::_,_,_,h,_,_=>h.elim
 | _::_,[],_,_,h,_,_=>h.elim
 | (i, v)::ps,(off,cs)::qs,z,cells,h,d,l=>by
  obtain⟨s,m,r⟩:=h;have c:off+cs.length<=z.length:=l (off,cs) (by simp);have b:=m.1
  have k:=GL v.cells.zipIdx.toList 0 off cells (λq x e=>by
   have:=cU (xs:=v.cells.zipIdx) (i:=q);rw [this,Array.getElem?_zipIdx] at e;simp only [br] at e;obtain⟨a,_,rfl⟩:=e
   simp) (by simp [b];rw [d.1];exact c)
  rw [Array.foldl_toList] at k
  have j:Cy V (Aj z off cs) (v.cells.zipIdx.foldl (λcs (x:Value×Nat)=>cs.setIfInBounds (off+x.2) x.1) cells):=by
   refine PI d m c k.1 λq=>?_;rw [k.2 q]
   have n:v.cells.zipIdx.toList.length=cs.length:=by simp [b]
   rw [n,em];by_cases g:off<=q/\q < off+cs.length
   ·rw [if_pos g,if_pos g,cU,Array.getElem?_zipIdx]
    cases v.cells[q - off]?<;>rfl
   ·rw [if_neg g,if_neg g]
  obtain⟨cells',p,o⟩:=HA ps qs _ _ r j (λx e=>by
   have:=l x (by simp [e])
   have f:(Aj z off cs).length=z.length:=by simp [Aj];omega
   rw [f];exact this)
  refine⟨cells',?_,o⟩;unfold Instr.fill;rw [s]
  have hno:¬(v.cells.size≠cs.length || decide (off+v.cells.size > cells.size))=true:=by
   simp [b];rw [d.1];exact c
  simp only;rw [if_neg (by simpa using hno)];exact p
def Hz(f:Env):List Operand->Option (List E)
 | []=>some []
 | x::l=>(ev f x).bind λe=>(Hz f l).map (e :: ·)
def Cp{α:Type}:Nat->List α->List (Nat×α)
 | _,[]=>[]
 | k,x::l=>(k,x)::Cp (k+1) l
def Et(k:Nat):Nat->List E->List (Nat×List C)
 | _,[]=>[]
 | i,e::l=>(i*k,eC e)::Et k (i+1) l
theorem Qp{f:Env}:∀ {l:List Operand} {es:List E},Hz f l=some es->∀(j:Nat) (x:Operand) (e:E),l[j]? = some x->es[j]? = some e->ev f x=some e
 | [],es,h,j,x,e,a,_=>by simp at a
 | y::l,es,h,j,x,e,a,b=>by
  simp only [Hz,bR,br] at h;obtain⟨e',d,es',c,rfl⟩:=h
  cases j with
  | zero=>simp at a b;subst a b;exact d
  | succ j=>exact Qp c j x e (by simpa using a) (by simpa using b)
theorem Ce{f:Env}:∀ {l:List Operand} {es:List E},Hz f l=some es->es.length=l.length
 | [],es,h=>by injection h with h;subst h;rfl
 | y::l,es,h=>by
  simp only [Hz,bR,br] at h;obtain⟨e',b,es',a,rfl⟩:=h;simp [Ce a]
theorem J5(k:Nat):∀(es:List E) (i:Nat) (pre post:List C),pre.length=i*k->post.length=es.length*k->(∀e∈es,(eC e).length=k)->
 BA (Et k i es) (pre++post)=pre++(es.map eC).flatten
 | [],i,pre,post,_,f,_=>by
  have:post=[]:=bM.1 (by simpa using f);subst this;simp [Et,BA]
 | e :: es,i,pre,post,c,g,a=>by
  have b:=a e (by simp);simp only [cg,bY,Nat.one_mul] at g
  have:Aj (pre++post) (i*k) (eC e)=(pre++eC e)++post.drop k:=by
   unfold Aj;rw [<-c,List.take_left,<-List.drop_drop,List.drop_left,b]
  simp only [Et,BA,this];rw [J5 k es (i+1) (pre++eC e) (post.drop k) (by simp [c,b,bY]) (by simp;omega) (λx d=>a x (by simp [d]))];simp
section
variable {P:Program}{TB:Bg}{Z:Ctx}{d:Option Tmp}{ty:TypeId}{pos:String}{af:Array Edge}{g:Option (Nat×Bool)}{f:Env}{σ:Ab}{nx:Nat}
variable {K:E->Ab->Nat->Prop}
theorem FY{V:View}{k:Nat}:∀ {rows:List (List C)} {cur:Array Value},Cy V rows.flatten cur->(∀r∈rows,r.length=k)->∀(i:Nat) (r:List C) (j:Nat) (c:C),rows[i]? = some r->r[j]? = some c->∃v,cur[i*k+j]? = some v/\AA V c v:=by
 intro rows cur h d i r j c hi e
 have key:∀(rows:List (List C)) (i:Nat),(∀r∈rows,r.length=k)->rows[i]? = some r->rows.flatten[i*k+j]? = some c:=by
  intro rows
  induction rows with
  | nil=>intro i _ hi;simp at hi
  | cons g rows l=>
   intro i d hi
   cases i with
   | zero=>
    simp at hi;subst hi;have a:=(am.1 e).1;rw [eM,dh,bW,bx a];exact e
   | succ i=>
    have b:=d g (by simp);rw [eM,bz (by rw [b,bY];omega),b]
    have:(i+1)*k+j - k=i*k+j:=by rw [bY];omega
    rw [this];exact l i (λr m=>d r (by simp [m])) (by simpa using hi)
 have f:=key rows i d hi
 have a:i*k+j < cur.size:=by rw [h.1];exact(am.1 f).1
 exact⟨cur[i*k+j],bP a,h.2 _ c _ f (bP a)⟩
theorem Ms{V:View}{zv:Value}{z:List Value}{n:Nat}(d:zv.cells.toList=z)(o:z.all Mr=true):Cy V ((List.replicate n (z.map zC)).flatten) ((Array.range (n*z.length)).map (zv.cells[· % zv.cells.size]!)):=by
 have k:zv.cells.size=z.length:=by rw [<-d];simp
 refine⟨by simp [eu],λq c v f s=>?_⟩
 have b:q < n*z.length:=by
  have:=(am.1 f).1
  simpa [eu] using this
 have u:0 < z.length:=by rcases cD z.length with r|r;(rw [r] at b;simp at b);exact r
 have a:q % z.length < z.length:=Nat.mod_lt _ u
 have A : ((List.replicate n (z.map zC)).flatten)[q]? = some (zC z[q % z.length]):=by
  have w:q / z.length < n:=Nat.div_lt_of_lt_mul (by rw [eW];exact b)
  have key:∀(n i j:Nat),i < n->j < z.length->((List.replicate n (z.map zC)).flatten)[i*z.length+j]? = some (zC (z[j]?.getD undef)):=by
   intro n
   induction n with
   | zero=>intro i j h;omega
   | succ n t=>
    intro i j hi p;rw [da,eM]
    cases i with
    | zero=>rw [dh,bW,bx (by simpa using p)];simp [p]
    | succ i=>
     rw [bz (by simp [bY];omega)]
     have:(i+1)*z.length+j - (z.map zC).length=i*z.length+j:=by simp [bY];omega
     rw [this];exact t i j (by omega) p
  have:=key n (q / z.length) (q % z.length) w a
  have e:q / z.length*z.length+q % z.length=q:=by rw [eW];exact Nat.div_add_mod q _
  rw [e] at this;rw [this];simp [a]
 rw [A] at f
 injection f with f
 subst f
 have y:v=z[q % z.length]:=by
  simp only [Array.getElem?_map,br] at s;obtain⟨q',m,rfl⟩:=s
  have l:q'=q:=by
   have:=ca.1 m;obtain⟨B,x⟩:=this
   simpa using x.symm
  subst l
  have g:q' % zv.cells.size < zv.cells.size:=by rw [k];exact a
  rw [getElem!_pos zv.cells _ g];subst d;simp
 rw [y];exact Lg (bH.1 o _ (cx a))
theorem IU{t:TypeId}{z:List Value}(h:RZ P t=some z):∃i zv,P.info? t=some i/\i.zero=some zv/\zv.cells.toList=z:=by
 simp only [RZ,bR,br] at h;obtain⟨i,hi,zv,b,a⟩:=h;exact⟨i,zv,hi,b,a⟩
theorem Oy{V:View}(h:Inv TB Z V σ){e:TypeId}{k c:Nat}{rows:List (List C)}{cur:Array Value}{w:World}(n:w=V.w.alloc (.cells cur e))(f:cur.size=c*k)(d:rows.length<=c)(g:c<=maxLen)(o:∀r∈rows,r.length=k)
 (q:∀(i:Nat) (r:List C) (j:Nat) (c:C),rows[i]? = some r->r[j]? = some c->∃v,cur[i*k+j]? = some v/\AA V c v) :
 Inv TB Z (Ai V V.w.heap.size c False w) ((V.nx,.cells e k rows)::σ)/\Ext V (Ai V V.w.heap.size c False w)/\AA (Ai V V.w.heap.size c False w) (.arr V.nx k 0 rows.length) (.slice (some ⟨V.w.heap.size,0,none⟩) rows.length c):=by
 subst n;have ee:Ext V (Ai V V.w.heap.size c False (V.w.alloc (.cells cur e))):=C8 (by simp) λb hb=>AQ _ _ _ (h.iLt b hb)
 have l:(Ai V V.w.heap.size c False (V.w.alloc (.cells cur e))).X V.nx=V.w.heap.size:=by simp [Ai]
 have a:(Ai V V.w.heap.size c False (V.w.alloc (.cells cur e))).cap V.nx=c:=by simp [Ai]
 have m:=h.alloc (c:=c) (nl:=False) (w:=V.w.alloc (.cells cur e)) (ob:=.cells e k rows) rfl rfl rfl rfl (by simp) (λb hb=>AQ _ _ _ hb) (.inr ⟨by simp [Ai],cur,by rw [l];exact BB _ _,by rw [a];exact f,by rw [a];exact d,by rw [a];exact g,o,
  λi r j c hi p=>let ⟨v,t,s⟩:=q i r j c hi p;⟨v,t,s.ext ee⟩⟩)
 refine⟨m.1,m.2,?_⟩;have:=@AA.arr (Ai V V.w.heap.size c False (V.w.alloc (.cells cur e))) V.nx k 0 rows.length (by simp [Ai]) (by simp [Ai]) (by rw [a];omega);rw [l,a,dh,eY] at this;exact this
theorem Ee{t e:TypeId}{k b:Nat}{z:List Value}{x y:Operand}{ik ik':IntKind}{n c:Int}[hl:Ch P t e k b][hz:BQ P e z](hx:ev f x=some (eI ik n))(hy:ev f y=some (eI ik' c))(a:z.length=k)(I:z.all Mr=true)(hb0:0 < b)
 (h0:0<=n) (hnc:n<=c) (hc:c*b<=140737488355328) (hK:K (.o (.arr nx k 0 n.toNat)) ((nx,.cells e k (List.replicate n.toNat (z.map zC)))::σ) (nx+1)):BH P TB Z ⟨d,.makeSlice t x y,ty,pos,af,g⟩ f σ nx K:=
 C7 λV X S h2 h3=>by
  subst h3;obtain⟨i,hu,hi,p,u⟩:=EC hl.out;obtain⟨i',zv,h,A,m⟩:=IU hz.out
  rw [hi] at h;injection h with h;subst h
  have G:X x=.int ik n:=AA.val (S.get (by simp [Op.operands]) hx);have F:X y=.int ik' c:=AA.val (S.get (by simp [Op.operands]) hy)
  have Q:0<=c:=by omega
  have hcb:c<=c*b:=by
   have:=dD (show (1:Int)<=(b:Int) by omega) Q;omega
  have wn:IntKind.i64.wrap n=n:=IntWalk.i64_in n (by omega);have wc:IntKind.i64.wrap c=c:=IntWalk.i64_in c (by omega)
  have hzs:zv.cells.size=k:=by rw [<-a,<-m];simp
  let cur:Array Value:=(Array.range (c.toNat*z.length)).map (zv.cells[· % zv.cells.size]!)
  have B:=Ms (V:=V) (n:=c.toNat) m I
  have q:∀r∈List.replicate c.toNat (z.map zC),r.length=k:=λr H=>by rw [List.eq_of_mem_replicate H];simp [a]
  obtain⟨L,M,s⟩:=Oy h2 (e:=e) (k:=k) (c:=c.toNat) (rows:=List.replicate n.toNat (z.map zC)) (cur:=cur) rfl (by simp [cur,a]) (by simp;omega) (by unfold maxLen;omega) (λr H=>by rw [List.eq_of_mem_replicate H];simp [a])
   (λi r j cc hi hj=>FY B q i r j cc (by
    rw [List.getElem?_replicate] at hi |-;split at hi
    ·rw [if_pos (by omega)];exact hi
    ·cases hi) hj)
  rw [List.length_replicate] at s;refine⟨.slice (some ⟨V.w.heap.size,0,none⟩) n.toNat c.toNat,_,_,_,?_,M,L,(show A1 _ (.o _) _ from s),hK⟩
  have R:(b:Int)*c<=140737488355328:=by rw [eZ];exact hc
  have ht:¬(281474976710656:Int) < (b:Int)*c:=by omega
  show ((do let v <-Instr.makeSlice t (X x) (X y);pure (Go.Next.value v):Sem Go.Next)).run P V.w=_
  rw [G,F]
  have J:(Instr.makeSlice t (.int ik n) (.int ik' c)).run P V.w=.ok (.slice (some ⟨V.w.heap.size,0,none⟩) n.toNat c.toNat) (V.w.alloc (.cells cur e)):=by
   have g1:¬c < 0:=by omega
   have U:¬n < 0:=by omega
   have T:¬c < n:=by omega
   simp only [Instr.makeSlice,bV,run_underlying hu,bQ,asInt,asIntOf,pure_bind,bind_pure_comp,map_pure,typeInfo,sizeOf,wn,wc];by_cases l:c.toNat*k=0
   ·have N:cur = #[]:=by
     have:cur.size=0:=by simp [cur,a,l]
     exact cZ this
    simp [go_sem,hi,u,p,g1,U,T,ht,askRoom,l,newRow,newObj,N];rfl
   ·simp [go_sem,hi,u,p,g1,U,T,ht,askRoom,l,newRow,newObj,zeroValue,typeInfo,A,cur,a]
    rfl
  simp only [bV,J,bQ];rfl
theorem Ja{α Y:Type}(h:α->Y):∀(l:List α) (k:Nat),(Cp k l).map (λx=>(x.1,h x.2))=Cp k (l.map h)
 | [],_=>rfl
 | x::l,k=>by simp [Cp,Ja h l (k+1)]
theorem I0{V:View}{size:Nat}{X:Operand->Value}:∀(l:List Operand) (es:List E) (i:Nat),(∀x∈l,∀e,ev f x=some e->A1 V e (X x))->Hz f l=some es->(∀e∈es,NH e=true)->(∀e∈es,(eC e).length=size)->
 Mu V (λi=>some (i*size,size)) (Cp i (l.map X)) (Et size i es)
 | [],es,i,_,h,_,_=>by injection h with h;subst h;trivial
 | x::l,es,i,a,h,c,d=>by
  simp only [Hz,bR,br] at h;obtain⟨e',k,es',j,rfl⟩:=h;refine⟨?_,JY (c e' (by simp)) (a x (by simp) e' k),I0 l es' (i+1) (λx g=>a x (by simp [g])) j (λe b=>c e (by simp [b])) (λe b=>d e (by simp [b]))⟩;rw [d e' (by simp)]
theorem Ky(k:Nat):∀(es:List E) (i n:Nat),(∀e∈es,(eC e).length=k)->i+es.length<=n->∀x∈Et k i es,x.1+x.2.length<=n*k
 | [],_,_,_,_,x,h=>by simp [Et] at h
 | e :: es,i,n,a,b,x,h=>by
  simp only [Et,cm] at h;simp only [cg] at b
  rcases h with rfl|h
  ·simp only [a e (by simp)]
   have:=cf k (show i+1<=n by omega);rw [bY] at this;omega
  ·exact Ky k es (i+1) n (λe c=>a e (by simp [c])) (by omega) x h
theorem KP{t e:TypeId}{k b:Nat}{z:List Value}(hl:WT P t=some (e,k,b))(S:RZ P e=some z)(c:z.length=k)(I:z.all Mr=true){xs:List Operand}{es:List E}{V:View}{X:Operand->Value}(F:∀x∈xs,∀e,ev f x=some e->A1 V e (X x))
 (u:Hz f xs=some es) (U:es.all NH=true) (B:∀x∈es,(eC x).length=k) (hn:xs.length*k<=16777216) :
 ∃cur,(Instr.buildSlice t xs.length ((Cp 0 xs).toArray.map λ(i,x)=>(i,X x))).run P V.w=.ok (.slice (some ⟨V.w.heap.size,0,none⟩) xs.length xs.length) (V.w.alloc (.cells cur e))/\cur.size=xs.length*k/\Cy V (es.map eC).flatten cur:=by
 obtain⟨i,T,hi,s,_⟩:=EC hl;obtain⟨i',zv,j,G,o⟩:=IU S
 rw [hi] at j;injection j with j;subst j
 have R:zv.cells.size=k:=by rw [<-c,<-o];simp
 have v:=Ce u;have J:=I0 (size:=k) xs es 0 F u (λx r=>bH.1 U x r) B;have H:=Ms (V:=V) (n:=xs.length) o I
 have p:((List.replicate xs.length (z.map zC)).flatten).length=xs.length*k:=by simp [eu,c]
 obtain⟨cur,A,K⟩:=HA _ _ _ _ J H (λx r=>by rw [p];exact Ky k es 0 xs.length B (by omega) x r);have N:=J5 k es 0 [] ((List.replicate xs.length (z.map zC)).flatten) (by simp) (by rw [p,v]) B;simp only [dk] at N;rw [N] at K;refine⟨cur,?_,?_,K⟩
 ·have d:((Cp 0 xs).toArray.map λ(i,x)=>(i,X x)).toList=Cp 0 (xs.map X):=by
   rw [<-Ja];simp
  have M:¬2 ^ 24 < xs.length*k:=by
   have:(2:Nat) ^ 24=16777216:=by decide
   omega
  simp only [Instr.buildSlice,bV,run_underlying T,bQ,sizeOf,typeInfo,bind_pure_comp]
  have y:¬16777216 < xs.length*k:=by omega
  have m:=d;simp only [eX] at m;by_cases L:xs.length*k=0
  ·have q:∀g:Nat->Value,Array.map g (Array.range (xs.length*k)) = #[]:=λg=>cZ (by simp [L])
   rw [c,q] at A;simp [go_sem,hi,s,newRow,newObj,y,q,m];rw [if_pos L,A];rfl
  ·rw [c] at A
   unfold Value.cells at A;simp [go_sem,hi,s,L,y,newRow,newObj,zeroValue,typeInfo,G,m];rw [A];rfl
 ·rw [K.1]
  have:∀l:List E,(∀x∈l,(eC x).length=k)->(l.map eC).flatten.length=l.length*k:=by
   intro l
   induction l with
   | nil=>simp
   | cons a l Q=>intro h;simp [Q (λx r=>h x (by simp [r])),h a (by simp),bY,en]
  rw [this es B,v]
end
end Go.Am
