/-
  Wrong words show new columns, and these open the table.
-/
import Derived.Test.YtgpbfllcjdfelaaGreatDoorPart9
set_option linter.all false
namespace Go.Am
set_option linter.unusedVariables false
theorem Ma(L:W->Bool)(cols:List W)(v w:W):marks L (cols++[v]) w=marks L cols w++[Ns (L (w++v))]:=by simp [marks]
theorem A7.row{L:W->Bool}{ls:List UInt8}{t:AW}(h:A7 L ls t){i j:Nat}{r s:W}(hi:t.rows[i]? = some r)(g:t.rows[j]? = some s)(k:marks L t.cols r=marks L t.cols s):i=j:=by
 have d:(AD L t)[i]? = some (marks L t.cols r):=by simp [AD,hi]
 have c:(AD L t)[j]? = some (marks L t.cols r):=by simp [AD,g,k]
 have l1:=(am.1 d).1;have l2:=(am.1 c).1;have f:=(am.1 d).2;have e:=(am.1 c).2;have b:=bZ.1 h.nd
 rcases d7 i j with a|a|a
 ·exact absurd (f.trans e.symm) (b i j l1 l2 a)
 ·exact a
 ·exact absurd (e.trans f.symm) (b j i l2 l1 a)
structure Split (L:W->Bool) (ls:List UInt8) (t:AW) (u v:W):Prop where
 suf:∃p,p≠[]/\u=p++v
 new:v∉t.cols
 opens:∃r∈t.rows,∃c∈ls,marks L (t.cols++[v]) (r++[c])∉AD L ⟨t.rows,t.cols++[v]⟩
theorem OG{L:W->Bool}{ls:List UInt8}{t:AW}(h:A7 L ls t)(b:Bool):∀(u:W) (i:Nat) (r:W),AH ls u->t.rows[i]? = some r->L (r++u)=b->L (t.rows.getD (runM L t i u) [])≠b->∃v,splitAt L t b i u=some v/\Split L ls t u v
 | [],i,r,_,hi,hb,z=>by
  have a:t.rows.getD i []=r:=by simp [hi]
  rw [cF] at hb;exact absurd (by show L (t.rows.getD i [])=b;rw [a];exact hb) z
 | c :: v,i,r,A,hi,hb,z=>by
  have F:c∈ls:=A c (by simp)
  have j:t.rows.getD i []=r:=by simp [hi]
  obtain⟨r',a,G⟩:=h.idx hi F
  have g:t.rows.getD (Cg L t (r++[c])) []=r':=by simp [a]
  unfold splitAt;rw [j,g];by_cases k:L (r'++v)≠b
  ·rw [if_pos k]
   have n:r++c::v=(r++[c])++v:=by simp
   have f:L ((r++[c])++v)≠L (r'++v):=by rw [<-n,hb];exact λe=>k e.symm
   refine⟨v,rfl,⟨[c],by simp,rfl⟩,λl=>f ((Oa.1 G v l).symm),r,bm hi,c,F,λl=>?_⟩;unfold AD at l;obtain⟨s,I,B⟩:=bB.1 l;simp only [Ma] at B;obtain⟨S,R⟩:=List.append_inj' B rfl;obtain⟨q,J,o⟩:=cr I
   have d:t.rows[q]? = some s:=by rw [bt J,o]
   have:=h.row d a (S.trans G.symm);subst this;rw [d] at a
   injection a with a
   subst a
   have Q:Ns (L (s++v))=Ns (L (r++[c]++v)):=by simpa using R
   exact f (Qz Q).symm
  ·rw [if_neg k]
   have m:L (r'++v)=b:=by simpa using k
   have y:L (t.rows.getD (runM L t (Cg L t (r++[c])) v) [])≠b:=by
    have:runM L t i (c::v)=runM L t (Cg L t (r++[c])) v:=by show runM L t (Cg L t (t.rows.getD i []++[c])) v=_;rw [j]
    rwa [this] at z
   obtain⟨w,P,⟨p,T,N⟩,M,K⟩:=OG h b v _ r' (λx H=>A x (by simp [H])) a m y;exact⟨w,P,⟨c::p,by simp,by rw [N];rfl⟩,M,K⟩
theorem TOk.Nr{L:W->Bool}{ls:List UInt8}{t:AW}{v:W}(h:TOk L ls t)(j:AH ls v)(k:v∉t.cols):TOk L ls ⟨t.rows,t.cols++[v]⟩:=by
 have l:0 < t.cols.length:=(am.1 h.c0).1;refine⟨h.r0,by show (t.cols++[v])[0]? = _;rw [bx l];exact h.c0,h.pre,h.onR,λc d=>?_,?_,?_⟩
 ·rcases bE.1 d with d|d
  ·exact h.onC c d
  ·simp at d;subst d;exact j
 ·have g:=h.nd
  unfold AD List.Nodup at *;rw [dF] at *;refine g.imp λ{a b} f i=>f ?_;simp only [Ma] at i;exact(List.append_inj' i rfl).1
 ·rw [dp]
  exact⟨h.ndC,by simp,λa ha b hb e=>by simp at hb;subst hb;exact k (e ▸ ha)⟩
theorem UK{L:W->Bool}{ls:List UInt8}{t:AW}{r:W}{c:UInt8}(a:r∈t.rows)(d:c∈ls)(b:marks L t.cols (r++[c])∉AD L t):AX L ls t≠none:=λh=>b (Fp h r a c d)
def Jl(L:W->Bool)(t:AW)(w:W):Bool:=L (t.rows.getD (runM L t 0 w) [])
def Og(L:W->Bool)(ls:List UInt8)(t:AW)(w:W):Option AW:=(splitAt L t (L w) 0 w).bind λv=>A2 L ls 13 ⟨t.rows,t.cols++[v]⟩
structure Next (L:W->Bool) (ls:List UInt8) (t:AW) (w v:W) (t':AW):Prop where
 split:splitAt L t (L w) 0 w=some v
 close:A2 L ls 13 ⟨t.rows,t.cols++[v]⟩=some t'
 next:Og L ls t w=some t'
 ok:A7 L ls t'
 cols:t'.cols=t.cols++[v]
 new:v∉t.cols
 suf:∃p,p≠[]/\w=p++v
 more:t.rows.length < t'.rows.length
 pre:t.rows <+: t'.rows
theorem TOk.closed{L:W->Bool}{ls:List UInt8}{t:AW}(h:TOk L ls t)(a:AX L ls t=none):A7 L ls t:=⟨h,Fp a⟩
theorem MX{L:W->Bool}{ls:List UInt8}{n:Nat}(f:Fin L ls n)(m:n<=12){t:AW}(h:A7 L ls t){w:W}(a:AH ls w)(o:Jl L t w≠L w):∃v t',Next L ls t w v t':=by
 obtain⟨v,e,⟨p,l,d⟩,b,r,k,c,q,y⟩:=OG h (L w) w 0 [] a h.r0 rfl o;have j:AH ls v:=λx i=>a x (by rw [d];simp [i]);have u:=h.toTOk.Nr j b;have s:=UK (t:=⟨t.rows,t.cols++[v]⟩) k q y;have H:0 < t.rows.length:=(am.1 h.r0).1;obtain⟨t',g,G,F,B,A,z⟩:=Iq f m 13 _ u (by omega);exact⟨v,t',e,g,by simp [Og,e,g],G.closed F,A,b,⟨p,l,d⟩,z s,B⟩
def DB(L:W->Bool)(ls:List UInt8)(wr:AW->Option W)(a:AW):Nat->AW
 | 0=>a
 | k+1=>match wr (DB L ls wr a k) with
  | none=>DB L ls wr a k
  | some w=>(Og L ls (DB L ls wr a k) w).getD (DB L ls wr a k)
structure Wr (L:W->Bool) (ls:List UInt8) (wr:AW->Option W):Prop where
 on:∀t w,wr t=some w->A7 L ls t->AH ls w/\Jl L t w≠L w
theorem ON{L:W->Bool}{ls:List UInt8}{n:Nat}(f:Fin L ls n)(g:n<=12){wr:AW->Option W}(b:Wr L ls wr){a:AW}(d:A7 L ls a)(i:a.cols.length=1):∀k,(∀j,j < k->wr (DB L ls wr a j)≠none)->
 A7 L ls (DB L ls wr a k)/\k+1<=(DB L ls wr a k).rows.length/\(DB L ls wr a k).cols.length=k+1
 | 0,_=>⟨d,(am.1 d.r0).1,i⟩
 | k + 1,h=>by
  obtain⟨l,s,q⟩:=ON f g b d i k λj r=>h j (by omega);have p:=h k (by omega);unfold DB
  cases e:wr (DB L ls wr a k) with
  | none=>exact absurd e p
  | some w=>
   obtain⟨o,m⟩:=b.on _ w e l;obtain⟨v,t',c⟩:=MX f g l o m;simp only [c.next,dc];refine⟨c.ok,by have:=c.more;omega,by rw [c.cols];simp [q]⟩
theorem Pq{L:W->Bool}{ls:List UInt8}{n:Nat}(f:Fin L ls n)(i:n<=12){wr:AW->Option W}(c:Wr L ls wr){a:AW}(r:A7 L ls a)(o:a.cols.length=1) :
 ∃k,k < 12/\wr (DB L ls wr a k)=none/\∀j,j < k->wr (DB L ls wr a j)≠none:=by
 have key : ∀m,(∃k,k < m/\wr (DB L ls wr a k)=none/\∀j,j < k->wr (DB L ls wr a j)≠none)\/∀j,j < m->wr (DB L ls wr a j)≠none:=by
  intro m
  induction m with
  | zero=>exact .inr λj l=>by omega
  | succ m b=>
   rcases b with ⟨k,g,q,p⟩|b
   ·exact .inl ⟨k,by omega,q,p⟩
   ·by_cases e:wr (DB L ls wr a m)=none
    ·exact .inl ⟨m,by omega,e,b⟩
    ·refine .inr λj l=>?_
     by_cases d:j=m
     ·subst d;exact e
     ·exact b j (by omega)
 rcases key 12 with h|h
 ·exact h
 ·have g:=ON f i c r o 12 h
  have:=g.1.XK f;omega
end Go.Am
