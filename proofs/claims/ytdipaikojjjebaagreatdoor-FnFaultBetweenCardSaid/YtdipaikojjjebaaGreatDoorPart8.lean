/-
  The operations that make memory or write it, one rule each.
-/
import Derived.Test.YtdipaikojjjebaaGreatDoorPart7
set_option linter.all false
namespace Go.Am
open Go
def zC:Value->C
 | .slice none 0 0=>.d (.l [])
 | v=>.d (.v v)
def QN:Value->Bool
 | .slice none 0 0=>true
 | v=>Qn v
theorem Lm{V:View}{v:Value}(h:QN v=true):AP V (zC v) v:=by
 unfold zC;split
 ·exact .d .nil
 ·rename_i a
  unfold QN at h;split at h
  ·exact absurd rfl (a)
  ·exact .d (.v h)
def eC:E->List C
 | .o c=>[c]
 | .a cs=>cs
 | .t _=>[]
 | .e=>[.d (.l [])]
def UI:E->Bool
 | .t _=>false
 | _=>true
theorem Pr{V:View}{e:E}{v:Value}(k:UI e=true)(h:Bu V e v):Da V (eC e) v.cells:=by
 cases e with
 | o c =>
  have h:AP V c v:=h
  have : v.cells = #[v]:=by cases h with
   | d h=>cases h with
    | v i=>cases v<;>first|rfl|(simp[Qn]at i)
    | nil=>rfl
    | l=>rfl
    | e=>rfl
    | p=>rfl
   | _=>rfl
  rw[this];refine⟨rfl,λj c' v' f g=>?_⟩
  match j with
  | 0=>simp[eC]at f g;subst f g;exact h
  | j+1=>simp[eC]at f
 | a cs=>obtain⟨vs,rfl,h⟩:=h;exact h
 | t=>cases k
 | e =>
  obtain⟨b,rfl⟩:=h;refine⟨rfl,λj c' v' f g=>?_⟩
  match j with
  | 0=>
   simp[eC]at f;subst f;have g:v'=.slice b 0 0:=(Option.some.inj g).symm;subst g
   cases b with
   | none=>exact .d .nil
   | some a=>exact .d (.e (rQ _))
  | j+1=>simp[eC]at f
theorem AP.one{V:View}{c:C}{v:Value}(h:AP V c v):v.oneCell'=true:=by
 cases h with
 | d h=>cases h with
  | v a=>cases v<;>first|rfl|(simp[Qn]at a)
  | nil=>rfl
  | l=>rfl
  | e=>rfl
  | p=>rfl
 | _=>rfl
section
variable {P:Program}{TB:BJ}{U:Ctx}{d:Option Tmp}{ty:TypeId}{pos:String}{af:Array Edge}{g:Option (Nat×Bool)}{f:Env}{σ:Ac}{nx:Nat}
variable {K:E->Ac->Nat->Prop}
theorem DC{o:Oper}(h:∀V ρ,NL V o f ρ->Inv TB U V σ->V.nx=nx->∃v V' x σ',(execOp ρ o).run P V.w=.ok (.value v) V'.w/\Ext V V'/\Inv TB U V' σ'/\Bu V' x v/\K x σ' V'.nx):Ck P TB U o f σ nx K:=by
 intro V a i g e;obtain⟨v,V',x,σ',c,d,hi,b,hk⟩:=h V a.eval i.HR g e;unfold Oper.wp;rw[c];exact⟨V',v,x,σ',rfl,rfl,d,hi,b,hk⟩
theorem Km{o:Oper}{x:E}(h:∀V ρ,NL V o f ρ->Inv TB U V σ->∃v V',(execOp ρ o).run P V.w=.ok (.value v) V'.w/\Ext V V'/\Inv TB U V' σ/\V'.nx=V.nx/\Bu V' x v):A5 P TB U o f σ nx x:=by
 intro V a j i g;obtain⟨v,V',c,e,hi,d,b⟩:=h V a.eval j.HR i;unfold Oper.wp;rw[c];exact⟨V',v,rfl,rfl,e,hi,d.trans g,b⟩
theorem ak{V:View}{cs:List C}{vs:Array Value}(h:Da V cs vs)(i:Nat)(r:List C)(j:Nat)(c:C)(hi:[cs][i]?=some r)(b:r[j]?=some c):∃v,vs[i*cs.length+j]?=some v/\AP V c v:=by
 match i with
 | 0=>
  simp at hi;subst hi
  have a:j<vs.size:=by rw[h.1];exact(am.1 b).1
  exact⟨vs[j],by simp[a],h.2 j c _ b (qU a)⟩
 | i+1=>simp at hi
theorem A6(w:World)(o:Obj)(b:Nat)(h:b<w.heap.size):(w.alloc o).heap[b]?=w.heap[b]?:=by
 show (w.heap.push o)[b]?=_
 rw[Array.getElem?_push,if_neg (by omega)]
theorem BW(w:World)(o:Obj):(w.alloc o).heap[w.heap.size]?=some o:=by
 show (w.heap.push o)[w.heap.size]?=_
 simp
theorem OW{V:View}{b c k:Nat}{w:World}:AP (Az V b c False w) (.ptr V.nx k 0 0) (.pointer (some ⟨b,0,none⟩)):=by
 have:=@AP.ptr (Az V b c False w) V.nx k 0 0 (by simp[Az]) (by simp[Az])
 have h:(Az V b c False w).ρ V.nx=b:=by simp[Az]
 rw[h]at this
 simpa using this
theorem SS{V:View}(h:Inv TB U V σ){T:TypeId}{cs:List C}{vs:Array Value}(d:Da V cs vs) :
 Inv TB U (Az V V.w.heap.size 1 False (V.w.alloc (.cells vs T))) ((V.nx,.cells T cs.length [cs])::σ)/\Ext V (Az V V.w.heap.size 1 False (V.w.alloc (.cells vs T))):=by
 have e:Ext V (Az V V.w.heap.size 1 False (V.w.alloc (.cells vs T))):=ES (by simp) λb hb=>A6 _ _ _ (h.iLt b hb);refine h.alloc rfl rfl rfl rfl (by simp) (λb hb=>A6 _ _ _ hb) (.inr ⟨by simp[Az],vs,?_,?_,?_,?_,?_,?_⟩)
 ·have:=BW V.w (.cells vs T)
  simpa only[Az,if_true]using this
 ·simp[Az,d.1]
 ·simp[Az]
 ·simp[Az,maxLen]
 ·intro r a;simp at a;subst a;rfl
 ·exact λi r j c hi f=>ak (d.ext e) i r j c hi f
theorem KG{T:TypeId}{x:Operand}{e:E}(a:ev f x=some e)(b:UI e=true)(i:K (.o (.ptr nx (eC e).length 0 0)) ((nx,.cells T (eC e).length [eC e])::σ) (nx+1)):Ck P TB U ⟨d,.box T x,ty,pos,af,g⟩ f σ nx K:=
 DC λV ρ l k j=>by
  subst j;have h:=Pr b (l.get (by simp[Op.operands]) a);obtain⟨hi,c⟩:=SS k (T:=T) h;refine⟨.pointer (some ⟨V.w.heap.size,0,none⟩),_,_,_,?_,c,hi,?_,i⟩
  ·simp[execOp,Instr.box,newVar,newRow,Az,go_sem]
  ·exact OW
theorem jn{T:TypeId}{z:List Value}[p:BN P T z](l:z.all QN=true)(s:K (.o (.ptr nx z.length 0 0)) ((nx,.cells T z.length [z.map zC])::σ) (nx+1)):Ck P TB U ⟨d,.alloc T,ty,pos,af,g⟩ f σ nx K:=
 DC λV ρ y x t=>by
  subst t;have b:=p.out;simp only[dn,qY,d7]at b;obtain⟨i,hi,zv,k,a⟩:=b
  have r:Da V (z.map zC) zv.cells:=by
   refine⟨by rw[gt,<-a];simp,λj c v n m=>?_⟩;simp only[f6,d7]at n;obtain⟨u,h,rfl⟩:=n
   have:u=v:=by
    rw[<-a]at h;simp only[rY]at h;rw[h]at m;exact Option.some.inj m
   subst this;exact Lm (ge.1 l u (co h))
  obtain⟨e,q⟩:=SS x (T:=T) r;rw[gt]at e;refine⟨.pointer (some ⟨V.w.heap.size,0,none⟩),_,_,_,?_,q,e,?_,s⟩
  ·simp[execOp,Instr.alloc,zeroValue,typeInfo,hi,k,newVar,newRow,Az,go_sem]
  ·exact OW
def RI:List C->Option (List D)
 | []=>some []
 | .d x::l=>(RI l).map (x :: ·)
 | _=>none
theorem MC:∀ {l:List C} {ds:List D},RI l=some ds->∀(j:Nat) (x:D),ds[j]?=some x->l[j]?=some (.d x)
 | [],ds,h,j,x,a=>by injection h with h;subst h;simp at a
 | c::l,ds,h,j,x,a=>by
  cases c<;>simp only[RI]at h<;>try cases h
  simp only[d7]at h;obtain⟨ds',b,rfl⟩:=h
  cases j with
  | zero=>simpa using a
  | succ j=>simpa using MC b j x (by simpa using a)
theorem Og:∀ {l:List C} {ds:List D},RI l=some ds->ds.length=l.length
 | [],ds,h=>by injection h with h;subst h;rfl
 | c::l,ds,h=>by
  cases c<;>simp only[RI]at h<;>try cases h
  simp only[d7]at h;obtain⟨ds',a,rfl⟩:=h;simp[Og a]
theorem Gm{T:TypeId}{x:Operand}{e:E}{ds:List D}(n:ev f x=some e)(p:UI e=true)(m:RI (eC e)=some ds):A5 P TB U ⟨d,.box T x,ty,pos,af,g⟩ f σ nx (.o (.ip ds)):=
 Km λV ρ s r=>by
  have i:=Pr p (s.get (by simp[Op.operands]) n);obtain⟨hi,l⟩:=r.Xe (w:=V.w.alloc (.cells (ρ x).cells T)) rfl rfl rfl (by simp) (λb hb=>A6 _ _ _ hb);refine⟨.pointer (some ⟨V.w.heap.size,0,none⟩),_,?_,l,hi,rfl,?_⟩
  ·simp[execOp,Instr.box,newVar,newRow,LW,go_sem]
  ·refine .ip (vs:=λj=>(ρ x).cells.getD j undef) (.inr rfl) (λj y h=>?_) (λj y h=>?_)
   ·have c:=MC m j y h
    have a:j<(ρ x).cells.size:=by rw[i.1];exact(am.1 c).1
    have k:(LW V (V.w.alloc (.cells (ρ x).cells T))).w.heap[V.w.heap.size]?=some (.cells (ρ x).cells T):=BW _ _;simp[World.cell?,k,a]
   ·have c:=MC m j y h
    have a:j<(ρ x).cells.size:=by rw[i.1];exact(am.1 c).1
    have k:=i.2 j _ _ c (qU a)
    cases k with
    | d q=>simpa[a]using q.ext l
theorem TS{t:TypeId}{x:Operand}{id k i j n:Nat}{T:TypeId}{rows:List (List C)}{r:List C}{c:C}[u:Fa P t false n](m:ev f x=some (.o (.ptr id k i j)))(s:look σ id=some (.cells T k rows))(q:rows[i]?=some r)(z:r[j]?=some c) :
 A5 P TB U ⟨d,.load t x,ty,pos,af,g⟩ f σ nx (.o c):=
 AQ λV ρ F B=>by
  have l:=F.get (by simp[Op.operands]) m;generalize p:ρ x=v at l
  cases l with
  | ptr y a=>
   rcases B.st.obj id _ s with ⟨b,_⟩|⟨_,cur,b,J,I,H,G,A⟩
   ·exact absurd b a
   ·obtain⟨v,h,e⟩:=A i r j c q z
    refine⟨v,?_,e⟩
    have:V.w.cell? ⟨V.ρ id,i*k+j,none⟩=some v:=by simp[World.cell?,b,h]
    simp[execOp,p,Instr.loadAt,Instr.sureAddr,loadVar,(BR u.out V.w).1,this,go_sem]
theorem fZ{t:TypeId}{x:Operand}{id k i j n:Nat}{T:TypeId}{rows:List (List C)}{r:List C}[A:Fa P t true n](F:ev f x=some (.o (.ptr id k i j)))(I:look σ id=some (.cells T k rows))(H:rows[i]?=some r)(N:j+n<=r.length) :
 A5 P TB U ⟨d,.load t x,ty,pos,af,g⟩ f σ nx (.a ((r.drop j).take n)):=
 AQ λV ρ M L=>by
  have B:=M.get (by simp[Op.operands]) F;generalize G:ρ x=v at B
  cases B with
  | ptr J y=>
   rcases L.st.obj id _ I with ⟨z,_⟩|⟨_,cur,z,X,S,R,Q,K⟩
   ·exact absurd z y
   ·have b:∀q,q<n->∃v,cur[i*k+j+q]?=some v/\AP V (r[j+q]?.getD (.d (.l []))) v:=λq m=>by
     have p:j+q<r.length:=by omega
     obtain⟨v,e,h⟩:=K i r (j+q) r[j+q] H (d6 p);exact⟨v,by rw[rz];exact e,by rw[d6 p];exact h⟩
    refine⟨.agg ((List.range n).map λq=>cur.getD (i*k+j+q) undef).toArray,?_,_,rfl,by simp;omega,?_⟩
    ·have:(loadCells ⟨V.ρ id,i*k+j,none⟩ n).run P V.w=.ok ((List.range n).map λq=>cur.getD (i*k+j+q) undef).toArray V.w:=run_loadCells V.w _ n _ λq m=>by
      rw[BO];obtain⟨v,e,_⟩:=b q m;simp[World.cell?,z,e]
     unfold loadCells at this;simp[execOp,G,Instr.loadAt,Instr.sureAddr,loadVar,(BR A.out V.w).1,(BR A.out V.w).2,this,go_sem]
    ·intro q c v s u
     rw[rh]at s;split at s
     ·rename_i m
      rw[rm]at s;obtain⟨v',e,h⟩:=b q m;rw[s]at h
      have:v=v':=by simpa[m,e]using u.symm
      rw[this];exact h
     ·cases s
theorem fR{s kf off:Nat}{x:Operand}{id k i j:Nat}[t:SF P s kf off](p:ev f x=some (.o (.ptr id k i j))):A5 P TB U ⟨d,.fieldAddr s x kf,ty,pos,af,g⟩ f σ nx (.o (.ptr id k i (j+off))):=
 AQ λV ρ u _=>by
  have n:=u.get (by simp[Op.operands]) p;generalize q:ρ x=v at n
  cases n with
  | ptr l h=>
   have a:=t.out;unfold bH at a;split at a
   ·rename_i fs r
    split at a
    ·rename_i fl m
     split at a
     ·rename_i ii hi
      cases b:Nat.beq ii.size 0
      ·rw[b]at a
       simp only[cond_false,Option.some.injEq]at a;subst a
       have c:ii.size≠0:=λe=>by rw[e]at b;cases b
       refine⟨.pointer (some ⟨V.ρ id,i*k+j+fl.offset,none⟩),?_,by rw[rz];exact .ptr l h⟩;simp[execOp,q,Instr.fieldAt,run_underlying r,m,Instr.sureAddr,fieldPlace,sizeOf,typeInfo,hi,c,BO,go_sem]
      ·rw[b]at a;cases a
     ·cases a
    ·cases a
   ·cases a
theorem fS{t e:TypeId}{x y:Operand}{id k len b:Nat}{off:Nat}{n:Int}{ik:IntKind}[w:CE P t e k b](m:ev f x=some (.o (.arr id k off len)))(l:ev f y=some (eI ik n))
 (A:0<=n) (s:n<len):A5 P TB U ⟨d,.indexAddr t x y,ty,pos,af,g⟩ f σ nx (.o (.ptr id k (off+n.toNat) 0)):=
 AQ λV ρ j _=>by
  have h:=j.get (by simp[Op.operands]) m;have z:ρ y=.int ik n:=AP.val (j.get (by simp[Op.operands]) l);generalize p:ρ x=v at h;obtain⟨i,q,hi,r,_⟩:=He w.out
  cases h with
  | nil=>omega
  | arr c a u=>
   refine⟨.pointer (some ⟨V.ρ id,(off+n.toNat)*k+0,none⟩),?_,.ptr c a⟩;simp[execOp,p,z,Instr.indexAt,asIntOf,run_underlying q,A,s,sizeOf,typeInfo,hi,r,BO,ry,go_sem]
theorem fV{t:TypeId}{x y:Operand}{id k i j:Nat}{n:Int}{len ke:Nat}{ik:IntKind}[u:RJ P t len ke](m:ev f x=some (.o (.ptr id k i j)))(l:ev f y=some (eI ik n))
 (z:0<=n) (s:n<len):A5 P TB U ⟨d,.indexAddr t x y,ty,pos,af,g⟩ f σ nx (.o (.ptr id k i (j+n.toNat*ke))):=
 AQ λV ρ h _=>by
  have c:=h.get (by simp[Op.operands]) m;have w:ρ y=.int ik n:=AP.val (h.get (by simp[Op.operands]) l);generalize p:ρ x=v at c;obtain⟨e,ii,q,hi,r⟩:=Xf u.out
  cases c with
  | ptr b a=>
   refine⟨.pointer (some ⟨V.ρ id,i*k+(j+n.toNat*ke),none⟩),?_,.ptr b a⟩;simp[execOp,p,w,Instr.indexAt,asIntOf,run_underlying q,Instr.sureAddr,z,s,sizeOf,typeInfo,hi,r,BO,rz,go_sem]
theorem Lg{t:TypeId}{n:Nat}{w:World}{a:Addr}{v:Value}(h:(sizeOf t).run P w=.ok n w)(b:v.cells.size=n):(storeVar t a v).run P w=(storeCells a v.cells.toList).run P w:=by
 unfold storeVar;simp only[pu,h,lm,b,ne_eq,not_true,if_false]
def Ae(r:List C)(j:Nat)(cs:List C):List C:=r.take j++cs++r.drop (j+cs.length)
theorem Ek{t:TypeId}{x y:Operand}{id k i j n:Nat}{T:TypeId}{rows:List (List C)}{r:List C}{e:E}{ag:Bool}[hl:Fa P t ag n](hx:ev f x=some (.o (.ptr id k i j)))(hy:ev f y=some e)(ho:UI e=true)
 (J:look σ id=some (.cells T k rows)) (hr:rows[i]?=some r) (hn:(eC e).length=n) (hj:j+n<=k) (hK:K (.t []) ((id,.cells T k (rows.set i (Ae r j (eC e))))::σ) nx):Ck P TB U ⟨d,.store t x y,ty,pos,af,g⟩ f σ nx K:=by
 intro V a Z h2 h3;have Z:=Z.HR;unfold Oper.wp;generalize a.eval=ρ at Z |-;have N:=Z.get (by simp[Op.operands]) hx;have hc:=Pr ho (Z.get (by simp[Op.operands]) hy);generalize hv:ρ x=v at N
 cases N with
 | ptr hid F =>
  rcases h2.st.obj id _ J with ⟨h4,_⟩|⟨_,cur,h4,h5,h6,h7,h8,h9⟩
  ·exact absurd h4 F
  ·have hrk : r.length=k:=h8 r (co hr)
   have X:=(am.1 hr).1
   have H:(ρ y).cells.size=n:=by rw[hc.1,hn]
   have B:(i+1)*k<=cur.size:=by rw[h5];exact rR _ (by omega)
   have hfit:i*k+j+n<=cur.size:=by rw[ry]at B;omega
   have I:=run_storeCells_at P (V.ρ id) (i*k+j) T (ρ y).cells.toList 0 cur V.w h4 (by simp;omega) (λv hv=>by
    obtain⟨q,A,rfl⟩:=q9 hv
    have hq':q<(eC e).length:=by simpa[hc.1]using A
    exact(hc.2 q (eC e)[q] _ (d6 hq') (by simp)).one)
   simp only[tY,Array.length_toList]at I;rw[H]at I
   have hw := h2.write J F (w:=V.w.setRow (V.ρ id) (cur.toList.take (i*k+j)++(ρ y).cells.toList++cur.toList.drop (i*k+j+n)).toArray) (ob':=.cells T k (rows.set i (Ae r j (eC e)))) rfl rfl rfl rfl rfl (by simp) (λb hb=>setRow_other _ _ _ _ hb) (by
    have ee:Ext V { V with w:=V.w.setRow (V.ρ id) (cur.toList.take (i*k+j)++(ρ y).cells.toList++cur.toList.drop (i*k+j+n)).toArray } :=
     ⟨λ_ h=>h,λb hb=>setRow_other _ _ _ _ λe=>h2.st.free id _ J F b e hb,by simp,λ_ _=>rfl,λ_ _=>rfl,λ_ _=>Iff.rfl,lc _⟩
    have z:(cur.toList.take (i*k+j)++(ρ y).cells.toList).length=i*k+j+n:=by simp[H];omega
    refine .inr ⟨F,_,setRow_heap _ _ _ _ _ _ h4,?_,by simpa using h6,h7,?_,?_⟩
    ·simp[H];omega
    ·intro r' hr'
     rcases List.mem_or_eq_of_mem_set hr' with h|h
     ·exact h8 r' h
     ·subst h;simp[Ae,hn];omega
    ·intro i' r' j' c m l
     rw[uT]at m
     have Y:∀q,(cur.toList.take (i*k+j)++(ρ y).cells.toList++cur.toList.drop (i*k+j+n)).toArray[q]?=if q<i*k+j then cur[q]? else if q<i*k+j+n then (ρ y).cells[q-(i*k+j)]? else cur[q]?:=by
      intro q;simp only[sf];by_cases A:q<i*k+j+n
      ·rw [f9 (by rw[z];exact A)]
       by_cases u:q<i*k+j
       ·rw[f9 (by simp;omega),if_pos u]
        simp[u]
       ·rw[io (by simp;omega),if_neg u,if_pos A]
        simp;congr 1;omega
      ·rw[io (by rw[z];omega),if_neg (by omega),if_neg A,z,rm]
       simp;congr 1;omega
     rw[Y];by_cases M:i=i'
     ·subst M
      rw[if_pos rfl,if_pos X]at m
      injection m with m
      subst m;unfold Ae at l
      have L:(r.take j++eC e).length=j+n:=by simp[hn];omega
      by_cases A:j'<j+n
      ·rw [f9 (by rw[L];exact A)]at l
       by_cases u:j'<j
       ·rw[f9 (by simp;omega)]at l
        rw[rh,if_pos u]at l;obtain⟨v,s,p⟩:=h9 i r j' c hr l;rw[if_pos (by omega)];exact⟨v,s,p.ext ee⟩
       ·rw[io (by simp;omega)]at l
        have S:(r.take j).length=j:=by simp;omega
        rw[S]at l;rw[if_neg (by omega),if_pos (by omega)]
        have G:j'-j<(ρ y).cells.size:=by omega
        have he:i*k+j'-(i*k+j)=j'-j:=by omega
        rw[he];exact⟨(ρ y).cells[j'-j],qU G,(hc.2 _ c _ l (qU G)).ext ee⟩
      ·rw[io (by rw[L];omega),L,rm,hn]at l
       have he:j+n+(j'-(j+n))=j':=by omega
       rw[he]at l;obtain⟨v,s,p⟩:=h9 i r j' c hr l;rw[if_neg (by omega),if_neg (by omega)];exact⟨v,s,p.ext ee⟩
     ·rw [if_neg M]at m
      obtain⟨v,s,p⟩:=h9 i' r' j' c m l;have R:r'.length=k:=h8 r' (co m)
      have hj'k:j'<k:=by rw[<-R];exact(am.1 l).1
      have : ¬(i*k+j<=i'*k+j'/\i'*k+j'<i*k+j+n):=by
       rintro⟨ha,hb⟩
       rcases ug M with G|G
       ·have:=rR k (show i+1<=i' by omega)
        rw[ry]at this;omega
       ·have:=rR k (show i'+1<=i by omega)
        rw[ry]at this;omega
      by_cases A:i'*k+j'<i*k+j
      ·rw[if_pos A];exact⟨v,s,p.ext ee⟩
      ·rw[if_neg A,if_neg (by omega)];exact⟨v,s,p.ext ee⟩)
   have Q:(execOp ρ ⟨d,.store t x y,ty,pos,af,g⟩).run P V.w=.ok .skip (V.w.setRow (V.ρ id) (cur.toList.take (i*k+j)++(ρ y).cells.toList++cur.toList.drop (i*k+j+n)).toArray):=by
    show ((do Instr.storeAt t (ρ x) (ρ y);pure Go.Next.skip:Sem Go.Next)).run P V.w=_
    rw[hv];simp only[Instr.storeAt,Instr.sureAddr,pure_bind,pu,Lg (BR hl.out V.w).2 H,I,lm];rfl
   rw[Q];exact⟨_,undef,_,_,rfl,rfl,hw.2,hw.1,NH _,by rw[<-h3]at hK;exact hK⟩
end
def kR(V:View)(k:Nat)(rows:List (List C))(v:Value):Prop:=
 (v=.slice none 0 0/\rows=[])\/
 ∃(a:Addr) (cap:Nat) (vs:Nat->Nat->Value),v=.slice (some a) rows.length cap/\(∀r∈rows,r.length=k)/\
  ∀(i:Nat) (r:List C) (j:Nat) (c:C),rows[i]?=some r->r[j]?=some c->V.w.cell? (a.add (i*k+j))=some (vs i j)/\AP V c (vs i j)
def IX(σ:Ac)(k:Nat):E->Option (List (List C))
 | .o (.d (.l rows))=>some (rows.map λr=>r.map .d)
 | .o (.arr id k' off len)=>match look σ id with
  | some (.cells _ _ rows)=>bif Nat.beq k' k && Nat.ble (off+len) rows.length then some ((rows.drop off).take len) else none
  | _=>none
 | _=>none
theorem aA{TB:BJ}{U:Ctx}{V:View}{σ:Ac}(h:Inv TB U V σ){k:Nat}{e:E}{v:Value}{rows:List (List C)}(g:IX σ k e=some rows)(hk:∀r∈rows,r.length=k)(w:Bu V e v):kR V k rows v:=by
 unfold IX at g;split at g
 ·rename_i ds
  injection g with g
  subst g
  cases w with
  | d w =>
   cases w with
   | nil=>exact .inl ⟨rfl,rfl⟩
   | @e a cap=>exact .inr ⟨a,cap,λ_ _=>undef,rfl,by simp,λi r j c hi=>by simp at hi⟩
   | @l _ b o k' cap vs hb H Q B P s=>
    refine .inr ⟨⟨b,o,none⟩,cap,vs,by simp,hk,λi r j c hi u=>?_⟩;simp only[f6,d7]at hi;obtain⟨q,m,rfl⟩:=hi;simp only[f6,d7]at u;obtain⟨x,G,rfl⟩:=u
    have:k'=k:=by
     have S:=B i q m;have J:=hk (q.map .d) (d9.2 ⟨q,co m,rfl⟩);rw[gt]at J;omega
    subst this;exact⟨by rw[BO,<-rz];exact P i q j x m G,.d (s i q j x m G)⟩
 ·rename_i id k' off len
  split at g
  ·rename_i T n f L
   cases hb:Nat.beq k' k && Nat.ble (off+len) f.length
   ·rw[hb]at g;cases g
   ·rw [hb]at g
    injection g with g
    subst g;rw[d4]at hb;have z:=i9 hb.1;have K:=ce hb.2;subst z
    cases w with
    | nil H B=>exact .inl ⟨rfl,by simp⟩
    | arr H y B=>
     rcases h.st.obj id _ L with ⟨s,_⟩|⟨_,cur,s,Z,Y,X,N,M⟩
     ·exact absurd s y
     ·rcases rV len with I|I
      ·subst I
       exact .inr ⟨⟨V.ρ id,off*k',none⟩,V.cap id-off,λ_ _=>undef,by simp,by simp,λi r j c hi=>by simp at hi⟩
      ·have A:n=k':=by
        have p:0<((f.drop off).take len).length:=by simp;omega
        have S:=hk _ (rF p);have J:=N _ (sQ (q7 (rF p)));omega
       subst A;refine .inr ⟨⟨V.ρ id,off*n,none⟩,V.cap id-off,λi j=>cur.getD ((off+i)*n+j) undef,?_,hk,λi r j c hi u=>?_⟩
       ·have:((f.drop off).take len).length=len:=by simp;omega
        rw[this]
       ·rw [rh]at hi
        split at hi
        ·rename_i p
         rw[rm]at hi;obtain⟨v,t,F⟩:=M (off+i) r j c hi u
         have R:off*n+i*n+j=(off+i)*n+j:=by rw[ry]
         have:cur.getD ((off+i)*n+j) undef=v:=by simp[t]
         simp only[this];exact⟨by rw[BO,<-rz,R];simp[World.cell?,s,t],F⟩
        ·cases hi
  ·cases g
 ·cases g
def Dr(m k:Nat)(vs:Nat->Nat->Value):List Value:=(List.range (m*k)).map λq=>vs (q / k) (q%k)
theorem MZ{m k:Nat}{vs:Nat->Nat->Value}{i j:Nat}(hi:i<m)(b:j<k):(Dr m k vs)[i*k+j]?=some (vs i j):=by
 have a:i*k+j<m*k:=by
  have:=rR k (show i+1<=m by omega);rw[ry]at this;omega
 have hk:0<k:=by omega
 have d:(i*k+j) / k=i:=by rw[uh,Nat.add_mul_div_right _ _ hk,Nat.div_eq_of_lt b,ms]
 have c:(i*k+j)%k=j:=by rw[uh,Nat.add_mul_mod_self_right,rt b]
 simp[Dr,a,d,c]
theorem Na{m k:Nat}{vs:Nat->Nat->Value}{q:Nat}{u:Value}(h:(Dr m k vs)[q]?=some u):∃i j,q=i*k+j/\i<m/\j<k/\u=vs i j:=by
 have a:=(am.1 h).1;simp[Dr]at a
 have hk:0<k:=by rcases rV k with b|b;(subst b;simp at a);exact b
 refine⟨q / k,q%k,?_,?_,Nat.mod_lt _ hk,?_⟩
 ·rw[ui];exact(Nat.div_add_mod q k).symm
 ·exact Nat.div_lt_of_lt_mul (by rw[ui];exact a)
 ·simp[Dr,a]at h;exact h.symm
theorem C6(m k:Nat)(vs:Nat->Nat->Value):(Dr m k vs).length=m*k:=by simp[Dr]
section
variable {P:Program}{TB:BJ}{U:Ctx}{d:Option Tmp}{ty:TypeId}{pos:String}{af:Array Edge}{g:Option (Nat×Bool)}{f:Env}{σ:Ac}{nx:Nat}
variable {K:E->Ac->Nat->Prop}
theorem Gn{t e:TypeId}{i:TypeInfo}(ht:P.underlying t=some (.slice e))(hi:P.info? e=some i)(w:World)(base:Option Addr)(n cap:Nat)(a:n<=cap)(ty:TypeId) :
 (Builtin.append_ #[t,t] ty #[.slice base n cap,.slice none 0 0]).run P w=.ok (.slice base n cap) w:=by
 cases base<;>simp[Builtin.append_,run_underlying ht,sizeOf,typeInfo,hi,Builtin.lenOf,Builtin.firstCells,storeCells,a,go_sem]
theorem Pg{V:View}{k:Nat}{rows news:List (List C)}{cur':Array Value}(b:∀(i:Nat) (r:List C) (j:Nat) (c:C),rows[i]?=some r->r[j]?=some c->∃v,cur'[i*k+j]?=some v/\AP V c v)
 (d:∀(i:Nat) (r:List C) (j:Nat) (c:C),news[i]?=some r->r[j]?=some c->∃v,cur'[(rows.length+i)*k+j]?=some v/\AP V c v) :
 ∀(i:Nat) (r:List C) (j:Nat) (c:C),(rows++news)[i]?=some r->r[j]?=some c->∃v,cur'[i*k+j]?=some v/\AP V c v:=by
 intro i r j c hi a;by_cases h:i<rows.length
 ·rw[f9 h]at hi;exact b i r j c hi a
 ·rw[io (by omega)]at hi
  have:=d (i-rows.length) r j c hi a
  have e:rows.length+(i-rows.length)=i:=by omega
  rw[e]at this;exact this
theorem Au{t e:TypeId}{k b:Nat}{z:List Value}{s x:Operand}{id len:Nat}{rows news:List (List C)}{ex:E}[hl:CE P t e k b][hz:BN P e z]
 (hs:ev f s=some (.o (.arr id k 0 len))) (hx:ev f x=some ex) (Y:look σ id=some (.cells e k rows)) (G:rows.length=len) (hsrc:IX σ k ex=some news) (hkk:∀r∈news,r.length=k)
 (hzk:z.length=k) (hb0:0<b) (hb:(len+news.length)*b<=140737488355328)
 (hK:K (.o (.arr nx k 0 (len+news.length))) ((nx,.cells e k (rows++news))::kill id σ) (nx+1)):Ck P TB U ⟨d,.call ⟨.builtin .append,#[s,x],#[t,t]⟩,ty,pos,af,g⟩ f σ nx K:=
 DC λV ρ h1 h2 h3=>by
  subst h3;obtain⟨i,hu,hi,I,hby⟩:=He hl.out;have hz':=hz.out;simp only[dn,hi,tF,d7]at hz';obtain⟨zv,hzv,hzz⟩:=hz'
  have hzc:zv.cells.size=k:=by rw[<-hzk,<-hzz];simp
  have hsr:=h1.get (x:=s) (by simp[Op.operands,Call.operands]) hs;have hxr:=aA h2 hsrc hkk (h1.get (x:=x) (by simp[Op.operands,Call.operands]) hx)
  have A:∀w,(execOp ρ ⟨d,.call ⟨.builtin .append,#[s,x],#[t,t]⟩,ty,pos,af,g⟩).run P w=((Builtin.append_ #[t,t] ty #[ρ s,ρ x]).run P w).andThen λv w'=>.ok (.value v) w':=λw=>by
   simp only[execOp,resolve,invoke,builtin,uZ,rX,u6,pure_bind,bind_pure_comp,tS]
  have hmax:len+news.length<=maxLen:=by
   have:len+news.length<=(len+news.length)*b:=sF _ hb0;unfold maxLen;omega
  have hint:((len+news.length:Nat):Int)<=9223372036854775807:=by
   have:len+news.length<=(len+news.length)*b:=sF _ hb0;omega
  generalize hvs:ρ s=vs at *;generalize hvx:ρ x=vx at *;have hob:=h2.st.obj id _ Y
  rcases hxr with ⟨rfl,hnil⟩|⟨xa,xc,xv,rfl,hxk,n⟩
  ·-- nothing is added: the value stays
   subst hnil;obtain⟨hi',he'⟩:=h2.alias Y;rw[rv]at hK;refine⟨vs,_,_,_,?_,he',hi',?_,hK⟩
   ·rw[A]
    cases hsr with
    | nil=>rw[Gn hu hi V.w none 0 0 (lc _) ty];rfl
    | arr h4 h5 h6=>rw[Gn hu hi V.w _ len _ (by omega) ty];rfl
   ·have R:(Az V (V.ρ id) (V.cap id) (V.nl id) V.w).nl V.nx=V.nl id:=by simp[Az]
    have hnr:(Az V (V.ρ id) (V.cap id) (V.nl id) V.w).ρ V.nx=V.ρ id:=by simp[Az]
    have X:(Az V (V.ρ id) (V.cap id) (V.nl id) V.w).cap V.nx=V.cap id:=by simp[Az]
    cases hsr with
    | nil h4 h5=>exact AP.nil (by simp[Az]) (by rw[R];exact h5)
    | arr h4 h5 h6=>
     have:=@AP.arr (Az V (V.ρ id) (V.cap id) (V.nl id) V.w) V.nx k 0 (len+0) (by simp[Az]) (by rw[R];exact h5) (by rw[X];exact h6);rw[hnr,X]at this;exact this
  ·have l : (Dr news.length k xv).length=news.length*i.size:=by rw[C6,I]
   have y:∀j u,(Dr news.length k xv)[j]?=some u->V.w.cell? (xa.add j)=some u:=by
    intro q u p;obtain⟨a,b,rfl,ha,hb,rfl⟩:=Na p
    have hbl:b<news[a].length:=by rw[hxk _ (rF ha)];exact hb
    exact(n a news[a] b news[a][b] (d6 ha) (d6 hbl)).1
   have hnews1:∀u∈Dr news.length k xv,u.oneCell'=true:=by
    intro u hu;obtain⟨q,p,rfl⟩:=q9 hu;obtain⟨a,b,_,ha,hb,he⟩:=Na (d6 p);rw[he]
    have hbl:b<news[a].length:=by rw[hxk _ (rF ha)];exact hb
    exact(n a news[a] b news[a][b] (d6 ha) (d6 hbl)).2.one
   have fresh:∀(olds:List Value) (cap':Nat),olds.length=len*k->len+news.length<=cap'->cap'<=maxLen->
    (∀(i:Nat) (r:List C) (j:Nat) (c:C),rows[i]?=some r->r[j]?=some c->∃v,olds[i*k+j]?=some v/\AP V c v)->
    (Builtin.append_ #[t,t] ty #[vs,.slice (some xa) news.length xc]).run P V.w=.ok (.slice (some ⟨V.w.heap.size,0,none⟩) (len+news.length) cap')
     (V.w.drew.alloc (.cells (olds.toArray++(Dr news.length k xv).toArray++Builtin.zeroCells zv.cells (cap'-(len+news.length))) e))->
    (∀r∈rows,r.length=k)->
    ∃v V' xx σ',(execOp ρ ⟨d,.call ⟨.builtin .append,#[s,x],#[t,t]⟩,ty,pos,af,g⟩).run P V.w=.ok (.value v) V'.w/\Ext V V'/\Inv TB U V' σ'/\Bu V' xx v/\K xx σ' V'.nx:=by
    intro olds cap' L hcap hcm hold hrun hrk
    let w':=V.w.drew.alloc (.cells (olds.toArray++(Dr news.length k xv).toArray++Builtin.zeroCells zv.cells (cap'-(len+news.length))) e)
    have ee:Ext V (Az V V.w.heap.size cap' False w'):=ES (by simp[w']) λb hb=>A6 V.w.drew _ b (h2.iLt b hb)
    obtain⟨hi',he'⟩:=h2.alloc (c:=cap') (nl:=False) (w:=w') (ob:=.cells e k (rows++news)) rfl rfl rfl rfl (by simp[w']) (λb hb=>A6 V.w.drew _ b hb) (by
     refine .inr ⟨by simp[Az],olds.toArray++(Dr news.length k xv).toArray++Builtin.zeroCells zv.cells (cap'-(len+news.length)),?_,?_,?_,?_,?_,?_⟩
     ·have:=BW V.w.drew (.cells (olds.toArray++(Dr news.length k xv).toArray++Builtin.zeroCells zv.cells (cap'-(len+news.length))) e)
      have H:(Az V V.w.heap.size cap' False w').ρ V.nx=V.w.heap.size:=by simp[Az]
      rw[H];exact this
     ·have hc:(Az V V.w.heap.size cap' False w').cap V.nx=cap':=by simp[Az]
      rw[hc];simp only[Array.size_append,uU,L,C6,Builtin.zeroCells,Array.size_map,Array.size_range,hzc,<-ry];congr 1;omega
     ·have hc:(Az V V.w.heap.size cap' False w').cap V.nx=cap':=by simp[Az]
      rw[hc,rW,G];exact hcap
     ·have hc:(Az V V.w.heap.size cap' False w').cap V.nx=cap':=by simp[Az]
      rw[hc];exact hcm
     ·intro r H
      rcases gc.1 H with h|h
      ·exact hrk r h
      ·exact hkk r h
     ·refine Pg (λi r j c hi B=>?_) (λi r j c hi B=>?_)
      ·obtain⟨v,m,h11⟩:=hold i r j c hi B
       refine⟨v,?_,h11.ext ee⟩;have F:=(am.1 m).1;rw[ru (by simp;omega),ru (by simpa using F)]
       simpa using m
      ·have hil:=(am.1 hi).1
       have hjl:j<k:=by rw[<-hxk r (co hi)];exact(am.1 B).1
       have m:=MZ (vs:=xv) hil hjl;refine⟨xv i j,?_,(n i r j c hi B).2.ext ee⟩;have F:=(am.1 m).1;rw[G,ry,rz];rw[ru (by simp[L];omega),sG (by simp[L])]
       simpa[L]using m)
    refine⟨.slice (some ⟨V.w.heap.size,0,none⟩) (len+news.length) cap',_,_,(V.nx,.cells e k (rows++news))::kill id σ,?_,he',hi'.sub ?_,?_,hK⟩
    ·rw[A,hrun];rfl
    ·intro q o p
     rw[AG]at p |-;by_cases T:V.nx=q
     ·rwa[if_pos T]at p |-
     ·rw[if_neg T]at p |-
      rw[Fo]at p;by_cases Q:q=id
      ·rw[if_pos Q]at p;cases p
      ·rwa[if_neg Q]at p
    ·have:=@AP.arr (Az V V.w.heap.size cap' False w') V.nx k 0 (len+news.length) (by simp[Az]) (by simp[Az]) (by simp[Az];exact hcap)
     have H:(Az V V.w.heap.size cap' False w').ρ V.nx=V.w.heap.size:=by simp[Az]
     have hc:(Az V V.w.heap.size cap' False w').cap V.nx=cap':=by simp[Az]
     rw[H,hc,th,u7]at this;exact this
   cases hsr with
   | nil hid M=>
    have S:rows=[]:=pp.1 G
    rcases rV news.length with hm0|hm0
    ·-- nil and nothing: nil
     have R:news=[]:=pp.1 hm0;subst R;obtain⟨hi',he'⟩:=h2.alias Y;rw[rv]at hK;refine⟨.slice none 0 0,_,_,_,?_,he',hi',?_,hK⟩
     ·rw[A]
      simp[Builtin.append_,run_underlying hu,sizeOf,typeInfo,hi,Builtin.lenOf,Builtin.firstCells,loadCells,loadCellsFrom,Az,go_sem]
     ·exact AP.nil (by simp[Az]) (by simp[Az,M])
    ·have H:=run_append_nil (P:=P) V.w t ty e i zv hu hi hzv xa news.length xc _ l y hm0 (by omega) (by rw[hby];have hb':=hb;simp only[ms]at hb';omega)
     refine fresh [] (grownCap V.w news.length 0 e) (by simp) (by simp only[ms];exact grownCap_ge _ _ _ _) (grownCap_le_maxLen _ _ _ _ (by omega)) (λi r j c hi=>by rw[S]at hi;simp at hi) ?_ (λr H=>by rw[S]at H;cases H);rw[H];simp
   | arr hid M hle=>
    rcases hob with ⟨h4,_⟩|⟨_,cur,h4,h5,h6,h7,h8,h9⟩
    ·exact absurd h4 M
    ·have hcs : cur.size=V.cap id*i.size:=by rw[h5,I]
     by_cases J:len+news.length<=V.cap id
     ·-- there is room
      have N:len*i.size+(Dr news.length k xv).length<=cur.size:=by
       rw[l,hcs,<-ry];exact rR _ J
      have H:=run_append_room (P:=P) V.w t ty e i hu hi (V.ρ id) len (V.cap id) cur h4 xa news.length xc _ l y hnews1 J N
      have Z:(cur.toList.take (len*k)++Dr news.length k xv).length=len*k+news.length*k:=by
       rw[I]at N;simp[C6]at N |-;omega
      let w':=V.w.setRow (V.ρ id) (cur.toList.take (len*i.size)++Dr news.length k xv++cur.toList.drop (len*i.size+(Dr news.length k xv).length)).toArray
      have ee:Ext V { V with w:=w' } :=
       ⟨λ_ h=>h,λb hb=>setRow_other _ _ _ _ λe=>h2.st.free id _ Y M b e hb,by simp[w'],λ_ _=>rfl,λ_ _=>rfl,λ_ _=>Iff.rfl,lc _⟩
      obtain⟨hw1,hw2⟩:=h2.write Y M (w:=w') (ob':=.cells e k (rows++news)) rfl rfl rfl rfl rfl (by simp[w']) (λb hb=>setRow_other _ _ _ _ hb) (by
       refine .inr ⟨M,_,setRow_heap _ _ _ _ _ _ h4,?_,?_,h7,?_,?_⟩
       ·simp only[uU,rW,sL,List.length_drop,Array.length_toList]
        rw[hcs,l,I]at N;simp only[C6,I,h5];omega
       ·rw[rW,G];exact J
       ·intro r H
        rcases gc.1 H with h|h
        ·exact h8 r h
        ·exact hkk r h
       ·simp only [I]
        refine Pg (λi' r j c hi B=>?_) (λi' r j c hi B=>?_)
        ·obtain⟨v,m,h11⟩:=h9 i' r j c hi B
         refine⟨v,?_,h11.ext ee⟩
         have hjl:j<k:=by rw[<-h8 r (co hi)];exact(am.1 B).1
         have hil:=(am.1 hi).1
         have F:i'*k+j<len*k:=by
          have:=rR k (show i'+1<=len by omega);rw[ry]at this;omega
         have hlc:len*k<=cur.size:=by rw[h5];exact rR _ (by omega)
         simp only[sf];rw[f9 (by rw[Z];omega),f9 (by simp;omega),rh,if_pos F]
         simpa using m
        ·have hil:=(am.1 hi).1
         have hjl:j<k:=by rw[<-hxk r (co hi)];exact(am.1 B).1
         have m:=MZ (vs:=xv) hil hjl;have F:=(am.1 m).1;rw[C6]at F;refine⟨xv i' j,?_,(n i' r j c hi B).2.ext ee⟩
         have hlc:len*k<=cur.size:=by rw[h5];exact rR _ (by omega)
         have htl:(cur.toList.take (len*k)).length=len*k:=by simp;omega
         simp only[sf];rw[G,ry,rz,f9 (by rw[Z];omega),io (by rw[htl];omega),htl]
         have:len*k+(i'*k+j)-len*k=i'*k+j:=by omega
         rw[this];exact m)
      have hlk2:look ((id,O.cells e k (rows++news))::σ) id=some (.cells e k (rows++news)):=by rw[AG,if_pos rfl]
      obtain⟨ha1,ha2⟩:=hw1.alias hlk2;refine⟨.slice (some ⟨V.ρ id,0,none⟩) (len+news.length) (V.cap id),_,_,(V.nx,.cells e k (rows++news))::kill id σ,?_,hw2.trans ha2,ha1.sub ?_,?_,hK⟩
      ·rw[A]
       have:V.cap id-0=V.cap id:=by omega
       rw[th,this,H];rfl
      ·intro q o p
       rw[AG]at p |-;by_cases T:V.nx=q
       ·rwa[if_pos T]at p |-
       ·rw [if_neg T]at p |-
        rw[Fo]at p |-;by_cases Q:q=id
        ·rw[if_pos Q]at p;cases p
        ·rw[if_neg Q]at p |-
         rw[AG,if_neg (Ne.symm Q)];exact p
      ·have R:(Az { V with w:=w' } (V.ρ id) (V.cap id) (V.nl id) w').nl V.nx=V.nl id:=by simp[Az]
       have hnr:(Az { V with w:=w' } (V.ρ id) (V.cap id) (V.nl id) w').ρ V.nx=V.ρ id:=by simp[Az]
       have X:(Az { V with w:=w' } (V.ρ id) (V.cap id) (V.nl id) w').cap V.nx=V.cap id:=by simp[Az]
       have:=@AP.arr (Az { V with w:=w' } (V.ρ id) (V.cap id) (V.nl id) w') V.nx k 0 (len+news.length) (by simp[Az]) (by rw[R];exact M) (by rw[X];omega);rw[hnr,X,th,u7]at this;exact this
     ·-- it grows
      have L:(cur.toList.take (len*k)).length=len*k:=by
       have hlc:len*k<=cur.size:=by rw[h5];exact rR _ (by omega)
       simp;omega
      have H:=run_append_grow (P:=P) V.w t ty e i zv hu hi hzv ⟨V.ρ id,0,none⟩ len (V.cap id) (cur.toList.take (len*k)) (by rw[L,I]) (λj v B=>by
       rw[BO];rw[rh]at B;split at B
       ·simpa[World.cell?,h4]using B
       ·cases B) xa news.length xc _ l y (by omega) (by omega) (by rw[hby];exact growslice_fits (by omega) hb)
      refine fresh (cur.toList.take (len*k)) (grownCap V.w (len+news.length) (V.cap id) e) L (grownCap_ge _ _ _ _) (grownCap_le_maxLen _ _ _ _ hmax) (λi' r j c hi B=>?_) ?_ h8
      ·obtain⟨v,m,h11⟩:=h9 i' r j c hi B
       refine⟨v,?_,h11⟩
       have hjl:j<k:=by rw[<-h8 r (co hi)];exact(am.1 B).1
       have hil:=(am.1 hi).1
       have F:i'*k+j<len*k:=by
        have:=rR k (show i'+1<=len by omega);rw[ry]at this;omega
       rw[rh,if_pos F];simpa using m
      ·have:V.cap id-0=V.cap id:=by omega
       rw[th,this];exact H
end
def SD(V:View)(place:Nat->Option (Nat×Nat)):List (Nat×Value)->List (Nat×List C)->Prop
 | [],[]=>True
 | (i,v)::ps,(off,cs)::qs=>place i=some (off,cs.length)/\Da V cs v.cells/\SD V place ps qs
 | _,_=>False
def BM:List (Nat×List C)->List C->List C
 | [],z=>z
 | (off,cs)::r,z=>BM r (Ae z off cs)
theorem KD:∀(l:List (Value×Nat)) (n off:Nat) (cells:Array Value),(∀(q:Nat) (x:Value×Nat),l[q]?=some x->x.2=n+q)->off+n+l.length<=cells.size->
 (l.foldl (λcs x=>cs.setIfInBounds (off+x.2) x.1) cells).size=cells.size/\
 ∀q,(l.foldl (λcs x=>cs.setIfInBounds (off+x.2) x.1) cells)[q]?=if off+n<=q/\q<off+n+l.length then (l[q-(off+n)]?).map (·.1) else cells[q]?
 | [],n,off,cells,_,_=>by
  refine⟨rfl,λq=>?_⟩;rw[if_neg (by simp)];rfl
 | x :: l,n,off,cells,c,d=>by
  have h:x.2=n:=by simpa using c 0 x rfl
  have b:=KD l (n+1) off (cells.setIfInBounds (off+x.2) x.1) (λq y f=>by have:=c (q+1) y (by simpa using f);omega) (by simp at d |-;omega);simp only[si];refine⟨by rw[b.1];simp,λq=>?_⟩;rw[b.2 q,h];simp only[rO]at d |-;by_cases e:off+n<=q/\q<off+n+(l.length+1)
  ·rw [if_pos e]
   by_cases g:q=off+n
   ·subst g
    rw[if_neg (by omega)]
    have a:off+n<cells.size:=by omega
    simp[a]
   ·rw[if_pos (by omega)]
    have:q-(off+n)=(q-(off+(n+1)))+1:=by omega
    rw[this];simp
  ·rw[if_neg e,if_neg (by omega)]
   rw[sO (by omega)]
theorem YF{V:View}{z cs:List C}{cells vc cells':Array Value}{off:Nat}(f:Da V z cells)(h:Da V cs vc)(k:off+cs.length<=z.length)(i:cells'.size=cells.size)
 (l:∀q,cells'[q]?=if off<=q/\q<off+cs.length then vc[q-off]? else cells[q]?):Da V (Ae z off cs) cells':=by
 refine⟨by rw[i,f.1];simp[Ae];omega,λj c v b a=>?_⟩;rw[l]at a;unfold Ae at b
 have d:(z.take off++cs).length=off+cs.length:=by simp;omega
 have e:(z.take off).length=off:=by simp;omega
 by_cases m:j<off+cs.length
 ·rw [f9 (by rw[d];exact m)]at b
  by_cases g:j<off
  ·rw[f9 (by rw[e];exact g),rh,if_pos g]at b
   rw[if_neg (by omega)]at a;exact f.2 j c v b a
  ·rw[io (by rw[e];omega),e]at b
   rw[if_pos (by omega)]at a;exact h.2 _ c v b a
 ·rw[io (by rw[d];omega),d,rm]at b
  rw[if_neg (by omega)]at a
  have:off+cs.length+(j-(off+cs.length))=j:=by omega
  rw[this]at b;exact f.2 j c v b a
theorem Jo(n:Nat):∀(qs:List (Nat×List C)),(qs.all λx=>Nat.ble (x.1+x.2.length) n)=true->∀x∈qs,x.1+x.2.length<=n:=by
 intro qs h x a;exact ce (ge.1 h x a)
theorem GR{V:View}{place:Nat->Option (Nat×Nat)}:∀(ps:List (Nat×Value)) (qs:List (Nat×List C)) (z:List C) (cells:Array Value),SD V place ps qs->Da V z cells->(∀x∈qs,x.1+x.2.length<=z.length)->
 ∃cells',Instr.fill place cells ps=some cells'/\Da V (BM qs z) cells'
 | [],[],z,cells,_,d,_=>⟨cells,rfl,d⟩
 | [],_::_,_,_,h,_,_=>h.elim
 | _::_,[],_,_,h,_,_=>h.elim
 | (i, v)::ps,(off,cs)::qs,z,cells,h,d,l=>by
  obtain⟨s,m,r⟩:=h;have c:off+cs.length<=z.length:=l (off,cs) (by simp);have b:=m.1
  have k:=KD v.cells.zipIdx.toList 0 off cells (λq x e=>by
   have:=rY (xs:=v.cells.zipIdx) (i:=q);rw[this,Array.getElem?_zipIdx]at e;simp only[d7]at e;obtain⟨a,_,rfl⟩:=e
   simp) (by simp[b];rw[d.1];exact c)
  rw[Array.foldl_toList]at k
  have j:Da V (Ae z off cs) (v.cells.zipIdx.foldl (λcs (x:Value×Nat)=>cs.setIfInBounds (off+x.2) x.1) cells):=by
   refine YF d m c k.1 λq=>?_;rw[k.2 q]
   have n:v.cells.zipIdx.toList.length=cs.length:=by simp[b]
   rw[n,tY];by_cases g:off<=q/\q<off+cs.length
   ·rw[if_pos g,if_pos g,rY,Array.getElem?_zipIdx]
    cases v.cells[q-off]?<;>rfl
   ·rw[if_neg g,if_neg g]
  obtain⟨cells',p,o⟩:=GR ps qs _ _ r j (λx e=>by
   have:=l x (by simp[e])
   have f:(Ae z off cs).length=z.length:=by simp[Ae];omega
   rw[f];exact this)
  refine⟨cells',?_,o⟩;unfold Instr.fill;rw[s]
  have hno:¬(v.cells.size≠cs.length || decide (off+v.cells.size > cells.size))=true:=by
   simp[b];rw[d.1];exact c
  simp only;rw[if_neg (by simpa using hno)];exact p
def KS(f:Env):List Operand->Option (List E)
 | []=>some []
 | x::l=>(ev f x).bind λe=>(KS f l).map (e :: ·)
def Dt{α:Type}:Nat->List α->List (Nat×α)
 | _,[]=>[]
 | k,x::l=>(k,x)::Dt (k+1) l
def Hr(k:Nat):Nat->List E->List (Nat×List C)
 | _,[]=>[]
 | i,e::l=>(i*k,eC e)::Hr k (i+1) l
theorem Zr{f:Env}:∀ {l:List Operand} {es:List E},KS f l=some es->∀(j:Nat) (x:Operand) (e:E),l[j]?=some x->es[j]?=some e->ev f x=some e
 | [],es,h,j,x,e,a,_=>by simp at a
 | y::l,es,h,j,x,e,a,b=>by
  simp only[KS,qY,d7]at h;obtain⟨e',d,es',c,rfl⟩:=h
  cases j with
  | zero=>simp at a b;subst a b;exact d
  | succ j=>exact Zr c j x e (by simpa using a) (by simpa using b)
theorem C5{f:Env}:∀ {l:List Operand} {es:List E},KS f l=some es->es.length=l.length
 | [],es,h=>by injection h with h;subst h;rfl
 | y::l,es,h=>by
  simp only[KS,qY,d7]at h;obtain⟨e',b,es',a,rfl⟩:=h;simp[C5 a]
theorem Pu(k:Nat):∀(es:List E) (i:Nat) (pre post:List C),pre.length=i*k->post.length=es.length*k->(∀e∈es,(eC e).length=k)->
 BM (Hr k i es) (pre++post)=pre++(es.map eC).flatten
 | [],i,pre,post,_,hp,_=>by
  have:post=[]:=pp.1 (by simpa using hp);subst this;simp[Hr,BM]
 | e :: es,i,pre,post,b,d,hk=>by
  have a:=hk e (by simp);simp only[rO,ry,Nat.one_mul]at d
  have:Ae (pre++post) (i*k) (eC e)=(pre++eC e)++post.drop k:=by
   unfold Ae;rw[<-b,List.take_left,<-List.drop_drop,List.drop_left,a]
  simp only[Hr,BM,this];rw[Pu k es (i+1) (pre++eC e) (post.drop k) (by simp[b,a,ry]) (by simp;omega) (λx c=>hk x (by simp[c]))];simp
section
variable {P:Program}{TB:BJ}{U:Ctx}{d:Option Tmp}{ty:TypeId}{pos:String}{af:Array Edge}{g:Option (Nat×Bool)}{f:Env}{σ:Ac}{nx:Nat}
variable {K:E->Ac->Nat->Prop}
theorem Ho{V:View}{k:Nat}:∀ {rows:List (List C)} {cur:Array Value},Da V rows.flatten cur->(∀r∈rows,r.length=k)->∀(i:Nat) (r:List C) (j:Nat) (c:C),rows[i]?=some r->r[j]?=some c->∃v,cur[i*k+j]?=some v/\AP V c v:=by
 intro rows cur h hk i r j c hi d
 have key:∀(rows:List (List C)) (i:Nat),(∀r∈rows,r.length=k)->rows[i]?=some r->rows.flatten[i*k+j]?=some c:=by
  intro rows
  induction rows with
  | nil=>intro i _ hi;simp at hi
  | cons f rows g=>
   intro i hk hi
   cases i with
   | zero=>
    simp at hi;subst hi;have a:=(am.1 d).1;rw[uV,th,ms,f9 a];exact d
   | succ i=>
    have b:=hk f (by simp);rw[uV,io (by rw[b,ry];omega),b]
    have:(i+1)*k+j-k=i*k+j:=by rw[ry];omega
    rw[this];exact g i (λr l=>hk r (by simp[l])) (by simpa using hi)
 have e:=key rows i hk hi
 have a:i*k+j<cur.size:=by rw[h.1];exact(am.1 e).1
 exact⟨cur[i*k+j],qU a,h.2 _ c _ e (qU a)⟩
theorem NK{V:View}{zv:Value}{z:List Value}{n:Nat}(d:zv.cells.toList=z)(o:z.all QN=true):Da V ((List.replicate n (z.map zC)).flatten) ((Array.range (n*z.length)).map (zv.cells[· % zv.cells.size]!)):=by
 have k:zv.cells.size=z.length:=by rw[<-d];simp
 refine⟨by simp[uK],λq c v f s=>?_⟩
 have b:q<n*z.length:=by
  have:=(am.1 f).1
  simpa[uK]using this
 have hk:0<z.length:=by rcases rV z.length with r|r;(rw[r]at b;simp at b);exact r
 have a:q%z.length<z.length:=Nat.mod_lt _ hk
 have y : ((List.replicate n (z.map zC)).flatten)[q]?=some (zC z[q%z.length]):=by
  have u:q / z.length<n:=Nat.div_lt_of_lt_mul (by rw[ui];exact b)
  have key:∀(n i j:Nat),i<n->j<z.length->((List.replicate n (z.map zC)).flatten)[i*z.length+j]?=some (zC (z[j]?.getD undef)):=by
   intro n
   induction n with
   | zero=>intro i j h;omega
   | succ n t=>
    intro i j hi p;rw[s6,uV]
    cases i with
    | zero=>rw[th,ms,f9 (by simpa using p)];simp[p]
    | succ i=>
     rw[io (by simp[ry];omega)]
     have:(i+1)*z.length+j-(z.map zC).length=i*z.length+j:=by simp[ry];omega
     rw[this];exact t i j (by omega) p
  have:=key n (q / z.length) (q%z.length) u a
  have e:q / z.length*z.length+q%z.length=q:=by rw[ui];exact Nat.div_add_mod q _
  rw[e]at this;rw[this];simp[a]
 rw[y]at f
 injection f with f
 subst f
 have x:v=z[q%z.length]:=by
  simp only[Array.getElem?_map,d7]at s;obtain⟨q',m,rfl⟩:=s
  have l:q'=q:=by
   have:=qZ.1 m;obtain⟨A,w⟩:=this
   simpa using w.symm
  subst l
  have g:q'%zv.cells.size<zv.cells.size:=by rw[k];exact a
  rw[getElem!_pos zv.cells _ g];subst d;simp
 rw[x];exact Lm (ge.1 o _ (rF a))
theorem HF{t:TypeId}{z:List Value}(h:dn P t=some z):∃i zv,P.info? t=some i/\i.zero=some zv/\zv.cells.toList=z:=by
 simp only[dn,qY,d7]at h;obtain⟨i,hi,zv,b,a⟩:=h;exact⟨i,zv,hi,b,a⟩
theorem VU{V:View}(h:Inv TB U V σ){e:TypeId}{k c:Nat}{rows:List (List C)}{cur:Array Value}{w:World}(n:w=V.w.alloc (.cells cur e))(f:cur.size=c*k)(d:rows.length<=c)(g:c<=maxLen)(hk:∀r∈rows,r.length=k)
 (p:∀(i:Nat) (r:List C) (j:Nat) (c:C),rows[i]?=some r->r[j]?=some c->∃v,cur[i*k+j]?=some v/\AP V c v) :
 Inv TB U (Az V V.w.heap.size c False w) ((V.nx,.cells e k rows)::σ)/\Ext V (Az V V.w.heap.size c False w)/\AP (Az V V.w.heap.size c False w) (.arr V.nx k 0 rows.length) (.slice (some ⟨V.w.heap.size,0,none⟩) rows.length c):=by
 subst n;have ee:Ext V (Az V V.w.heap.size c False (V.w.alloc (.cells cur e))):=ES (by simp) λb hb=>A6 _ _ _ (h.iLt b hb)
 have l:(Az V V.w.heap.size c False (V.w.alloc (.cells cur e))).ρ V.nx=V.w.heap.size:=by simp[Az]
 have a:(Az V V.w.heap.size c False (V.w.alloc (.cells cur e))).cap V.nx=c:=by simp[Az]
 have m:=h.alloc (c:=c) (nl:=False) (w:=V.w.alloc (.cells cur e)) (ob:=.cells e k rows) rfl rfl rfl rfl (by simp) (λb hb=>A6 _ _ _ hb) (.inr ⟨by simp[Az],cur,by rw[l];exact BW _ _,by rw[a];exact f,by rw[a];exact d,by rw[a];exact g,hk,
  λi r j c hi o=>let ⟨v,s,q⟩:=p i r j c hi o;⟨v,s,q.ext ee⟩⟩)
 refine⟨m.1,m.2,?_⟩;have:=@AP.arr (Az V V.w.heap.size c False (V.w.alloc (.cells cur e))) V.nx k 0 rows.length (by simp[Az]) (by simp[Az]) (by rw[a];omega);rw[l,a,th,u7]at this;exact this
theorem JC{t e:TypeId}{k b:Nat}{z:List Value}{x y:Operand}{ik ik':IntKind}{n c:Int}[hl:CE P t e k b][hz:BN P e z](hx:ev f x=some (eI ik n))(hy:ev f y=some (eI ik' c))(a:z.length=k)(I:z.all QN=true)(hb0:0<b)
 (h0:0<=n) (hnc:n<=c) (hc:c*b<=140737488355328) (hK:K (.o (.arr nx k 0 n.toNat)) ((nx,.cells e k (List.replicate n.toNat (z.map zC)))::σ) (nx+1)):Ck P TB U ⟨d,.makeSlice t x y,ty,pos,af,g⟩ f σ nx K:=
 DC λV ρ S h2 h3=>by
  subst h3;obtain⟨i,hu,hi,p,u⟩:=He hl.out;obtain⟨i',zv,h,A,m⟩:=HF hz.out
  rw[hi]at h;injection h with h;subst h
  have G:ρ x=.int ik n:=AP.val (S.get (by simp[Op.operands]) hx);have F:ρ y=.int ik' c:=AP.val (S.get (by simp[Op.operands]) hy)
  have Q:0<=c:=by omega
  have hcb:c<=c*b:=by
   have:=rC (show (1:Int)<=(b:Int) by omega) Q;omega
  have wn:IntKind.i64.wrap n=n:=IntWalk.i64_in n (by omega);have wc:IntKind.i64.wrap c=c:=IntWalk.i64_in c (by omega)
  have Z:zv.cells.size=k:=by rw[<-a,<-m];simp
  let cur:Array Value:=(Array.range (c.toNat*z.length)).map (zv.cells[· % zv.cells.size]!)
  have B:=NK (V:=V) (n:=c.toNat) m I
  have q:∀r∈List.replicate c.toNat (z.map zC),r.length=k:=λr H=>by rw[sR H];simp[a]
  obtain⟨L,M,s⟩:=VU h2 (e:=e) (k:=k) (c:=c.toNat) (rows:=List.replicate n.toNat (z.map zC)) (cur:=cur) rfl (by simp[cur,a]) (by simp;omega) (by unfold maxLen;omega) (λr H=>by rw[sR H];simp[a])
   (λi r j cc hi hj=>Ho B q i r j cc (by
    rw[uo]at hi |-;split at hi
    ·rw[if_pos (by omega)];exact hi
    ·cases hi) hj)
  rw[uB]at s;refine⟨.slice (some ⟨V.w.heap.size,0,none⟩) n.toNat c.toNat,_,_,_,?_,M,L,(show Bu _ (.o _) _ from s),hK⟩
  have R:(b:Int)*c<=140737488355328:=by rw[tH];exact hc
  have ht:¬(281474976710656:Int)<(b:Int)*c:=by omega
  show ((do let v <-Instr.makeSlice t (ρ x) (ρ y);pure (Go.Next.value v):Sem Go.Next)).run P V.w=_
  rw[G,F]
  have J:(Instr.makeSlice t (.int ik n) (.int ik' c)).run P V.w=.ok (.slice (some ⟨V.w.heap.size,0,none⟩) n.toNat c.toNat) (V.w.alloc (.cells cur e)):=by
   have Y:¬c<0:=by omega
   have X:¬n<0:=by omega
   have T:¬c<n:=by omega
   simp only[Instr.makeSlice,pu,run_underlying hu,lm,asInt,asIntOf,pure_bind,bind_pure_comp,map_pure,typeInfo,sizeOf,wn,wc];by_cases l:c.toNat*k=0
   ·have N:cur = #[]:=by
     have:cur.size=0:=by simp[cur,a,l]
     exact sS this
    simp[go_sem,hi,u,p,Y,X,T,ht,askRoom,l,newRow,newObj,N];rfl
   ·simp[go_sem,hi,u,p,Y,X,T,ht,askRoom,l,newRow,newObj,zeroValue,typeInfo,A,cur,a]
    rfl
  simp only[pu,J,lm];rfl
theorem N5{α β:Type}(h:α->β):∀(l:List α) (k:Nat),(Dt k l).map (λx=>(x.1,h x.2))=Dt k (l.map h)
 | [],_=>rfl
 | x::l,k=>by simp[Dt,N5 h l (k+1)]
theorem NR{V:View}{size:Nat}{ρ:Operand->Value}:∀(l:List Operand) (es:List E) (i:Nat),(∀x∈l,∀e,ev f x=some e->Bu V e (ρ x))->KS f l=some es->(∀e∈es,UI e=true)->(∀e∈es,(eC e).length=size)->
 SD V (λi=>some (i*size,size)) (Dt i (l.map ρ)) (Hr size i es)
 | [],es,i,_,h,_,_=>by injection h with h;subst h;trivial
 | x::l,es,i,a,h,c,hk=>by
  simp only[KS,qY,d7]at h;obtain⟨e',j,es',g,rfl⟩:=h;refine⟨?_,Pr (c e' (by simp)) (a x (by simp) e' j),NR l es' (i+1) (λx d=>a x (by simp[d])) g (λe b=>c e (by simp[b])) (λe b=>hk e (by simp[b]))⟩;rw[hk e' (by simp)]
theorem P0(k:Nat):∀(es:List E) (i n:Nat),(∀e∈es,(eC e).length=k)->i+es.length<=n->∀x∈Hr k i es,x.1+x.2.length<=n*k
 | [],_,_,_,_,x,h=>by simp[Hr]at h
 | e :: es,i,n,hk,a,x,h=>by
  simp only[Hr,lw]at h;simp only[rO]at a
  rcases h with rfl|h
  ·simp only[hk e (by simp)]
   have:=rR k (show i+1<=n by omega);rw[ry]at this;omega
  ·exact P0 k es (i+1) n (λe b=>hk e (by simp[b])) (by omega) x h
theorem Ql{t e:TypeId}{k b:Nat}{z:List Value}(X:kK P t=some (e,k,b))(R:dn P e=some z)(c:z.length=k)(H:z.all QN=true){xs:List Operand}{es:List E}{V:View}{ρ:Operand->Value}(B:∀x∈xs,∀e,ev f x=some e->Bu V e (ρ x))
 (u:KS f xs=some es) (T:es.all UI=true) (hk:∀x∈es,(eC x).length=k) (Y:xs.length*k<=16777216) :
 ∃cur,(Instr.buildSlice t xs.length ((Dt 0 xs).toArray.map λ(i,x)=>(i,ρ x))).run P V.w=.ok (.slice (some ⟨V.w.heap.size,0,none⟩) xs.length xs.length) (V.w.alloc (.cells cur e))/\cur.size=xs.length*k/\Da V (es.map eC).flatten cur:=by
 obtain⟨i,S,hi,s,_⟩:=He X;obtain⟨i',zv,j,F,o⟩:=HF R
 rw[hi]at j;injection j with j;subst j
 have Q:zv.cells.size=k:=by rw[<-c,<-o];simp
 have v:=C5 u;have I:=NR (size:=k) xs es 0 B u (λx r=>ge.1 T x r) hk;have G:=NK (V:=V) (n:=xs.length) o H
 have p:((List.replicate xs.length (z.map zC)).flatten).length=xs.length*k:=by simp[uK,c]
 obtain⟨cur,A,J⟩:=GR _ _ _ _ I G (λx r=>by rw[p];exact P0 k es 0 xs.length hk (by omega) x r);have M:=Pu k es 0 [] ((List.replicate xs.length (z.map zC)).flatten) (by simp) (by rw[p,v]) hk;simp only[ud]at M;rw[M]at J;refine⟨cur,?_,?_,J⟩
 ·have d:((Dt 0 xs).toArray.map λ(i,x)=>(i,ρ x)).toList=Dt 0 (xs.map ρ):=by
   rw[<-N5];simp
  have L:¬2 ^ 24<xs.length*k:=by
   have:(2:Nat) ^ 24=16777216:=by decide
   omega
  simp only[Instr.buildSlice,pu,run_underlying S,lm,sizeOf,typeInfo,bind_pure_comp]
  have y:¬16777216<xs.length*k:=by omega
  have m:=d;simp only[uZ]at m;by_cases K:xs.length*k=0
  ·have q:∀g:Nat->Value,Array.map g (Array.range (xs.length*k)) = #[]:=λg=>sS (by simp[K])
   rw[c,q]at A;simp[go_sem,hi,s,newRow,newObj,y,q,m];rw[if_pos K,A];rfl
  ·rw[c]at A
   unfold Value.cells at A;simp[go_sem,hi,s,K,y,newRow,newObj,zeroValue,typeInfo,F,m];rw[A];rfl
 ·rw [J.1]
  have:∀l:List E,(∀x∈l,(eC x).length=k)->(l.map eC).flatten.length=l.length*k:=by
   intro l
   induction l with
   | nil=>simp
   | cons a l N=>intro h;simp[N (λx r=>h x (by simp[r])),h a (by simp),ry,uh]
  rw[this es hk,v]
end
end Go.Am
