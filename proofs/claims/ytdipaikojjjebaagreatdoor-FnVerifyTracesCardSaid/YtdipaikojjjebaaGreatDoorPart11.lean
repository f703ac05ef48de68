/-
  Wrong words show new columns, and these open the table.
-/
import Derived.Test.YtdipaikojjjebaaGreatDoorPart9
set_option linter.all false
namespace Go.Am
theorem Xv(L:W->Bool)(cols:List W)(v w:W):marks L (cols++[v]) w=marks L cols w++[Uk (L (w++v))]:=by simp[marks]
theorem BZ.row{L:W->Bool}{ls:List UInt8}{t:A9}(h:BZ L ls t){i j:Nat}{r s:W}(hi:t.rows[i]?=some r)(g:t.rows[j]?=some s)(k:marks L t.cols r=marks L t.cols s):i=j:=by
 have d:(AW L t)[i]?=some (marks L t.cols r):=by simp[AW,hi]
 have c:(AW L t)[j]?=some (marks L t.cols r):=by simp[AW,g,k]
 have l1:=(am.1 d).1;have l2:=(am.1 c).1;have f:=(am.1 d).2;have e:=(am.1 c).2;have b:=lN.1 h.nd
 rcases ol i j with a|a|a
 ·exact absurd (f.trans e.symm) (b i j l1 l2 a)
 ·exact a
 ·exact absurd (e.trans f.symm) (b j i l2 l1 a)
structure Split (L:W->Bool) (ls:List UInt8) (t:A9) (u v:W):Prop where
 suf:∃p,p≠[]/\u=p++v
 new:v∉t.cols
 opens:∃r∈t.rows,∃c∈ls,marks L (t.cols++[v]) (r++[c])∉AW L ⟨t.rows,t.cols++[v]⟩
theorem Th{L:W->Bool}{ls:List UInt8}{t:A9}(h:BZ L ls t)(b:Bool):∀(u:W) (i:Nat) (r:W),AO ls u->t.rows[i]?=some r->L (r++u)=b->L (t.rows.getD (runM L t i u) [])≠b->∃v,splitAt L t b i u=some v/\Split L ls t u v
 | [],i,r,_,hi,hb,z=>by
  have a:t.rows.getD i []=r:=by simp[hi]
  rw[mq]at hb;exact absurd (by show L (t.rows.getD i [])=b;rw[a];exact hb) z
 | c :: v,i,r,A,hi,hb,z=>by
  have F:c∈ls:=A c (by simp)
  have j:t.rows.getD i []=r:=by simp[hi]
  obtain⟨r',a,G⟩:=h.idx hi F
  have g:t.rows.getD (DN L t (r++[c])) []=r':=by simp[a]
  unfold splitAt;rw[j,g];by_cases k:L (r'++v)≠b
  ·rw[if_pos k]
   have n:r++c::v=(r++[c])++v:=by simp
   have f:L ((r++[c])++v)≠L (r'++v):=by rw[<-n,hb];exact λe=>k e.symm
   refine⟨v,rfl,⟨[c],by simp,rfl⟩,λl=>f ((Zn.1 G v l).symm),r,co hi,c,F,λl=>?_⟩;unfold AW at l;obtain⟨s,hs,B⟩:=d8.1 l;simp only[Xv]at B;obtain⟨R,Q⟩:=List.append_inj' B rfl;obtain⟨q,I,o⟩:=lO hs
   have d:t.rows[q]?=some s:=by rw[d5 I,o]
   have:=h.row d a (R.trans G.symm);subst this;rw[d]at a
   injection a with a
   subst a
   have P:Uk (L (s++v))=Uk (L (r++[c]++v)):=by simpa using Q
   exact f (VH P).symm
  ·rw [if_neg k]
   have m:L (r'++v)=b:=by simpa using k
   have y:L (t.rows.getD (runM L t (DN L t (r++[c])) v) [])≠b:=by
    have:runM L t i (c::v)=runM L t (DN L t (r++[c])) v:=by show runM L t (DN L t (t.rows.getD i []++[c])) v=_;rw[j]
    rwa[this]at z
   obtain⟨w,N,⟨p,S,M⟩,K,J⟩:=Th h b v _ r' (λx H=>A x (by simp[H])) a m y;exact⟨w,N,⟨c::p,by simp,by rw[M];rfl⟩,K,J⟩
theorem cT{L:W->Bool}{ls:List UInt8}{t:A9}{r:W}{c:UInt8}(a:r∈t.rows)(d:c∈ls)(b:marks L t.cols (r++[c])∉AW L t):Bx L ls t≠none:=λh=>b (Hr h r a c d)
def O3(L:W->Bool)(t:A9)(w:W):Bool:=L (t.rows.getD (runM L t 0 w) [])
def iz(L:W->Bool)(ls:List UInt8)(t:A9)(w:W):Option A9:=(splitAt L t (L w) 0 w).bind λv=>BJ L ls 13 ⟨t.rows,t.cols++[v]⟩
structure Next (L:W->Bool) (ls:List UInt8) (t:A9) (w v:W) (t':A9):Prop where
 split:splitAt L t (L w) 0 w=some v
 close:BJ L ls 13 ⟨t.rows,t.cols++[v]⟩=some t'
 next:iz L ls t w=some t'
 ok:BZ L ls t'
 cols:t'.cols=t.cols++[v]
 new:v∉t.cols
 suf:∃p,p≠[]/\w=p++v
 more:t.rows.length<t'.rows.length
 pre:t.rows <+: t'.rows
structure Wr (L:W->Bool) (ls:List UInt8) (wr:A9->Option W):Prop where
 on:∀t w,wr t=some w->BZ L ls t->AO ls w/\O3 L t w≠L w
end Go.Am
