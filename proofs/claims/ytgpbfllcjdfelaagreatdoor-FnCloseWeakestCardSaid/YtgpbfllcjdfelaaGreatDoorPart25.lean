/-
  Nodes are numbered in the order of the words that lead to them, plainly.
-/
import Derived.Test.YtgpbfllcjdfelaaGreatDoorPart21
set_option linter.all false
namespace Go.Am
set_option linter.unusedVariables false
section
variable {U:Type}[DecidableEq U]
def PK{U:Type}(f:U->Int->U):U->List Int->U
 | q,[]=>q
 | q,l::w=>PK f (f q l) w
theorem RC{U:Type}(f:U->Int->U):∀(u w:List Int) (q:U),PK f q (u++w)=PK f (PK f q u) w
 | [],_,_=>rfl
 | l::u,w,q=>RC f u w _
def Fj(lim:Nat)(f:U->Int->U)(q:U):List U->List Int->List Int->Option (List U×List Int)
 | nd,row,[]=>some (nd,row)
 | nd,row,l::ls=>if f q l∈nd then Fj lim f q nd (row++[((nd.idxOf (f q l):Nat):Int)]) ls
  else if nd.length=lim then none else Fj lim f q (nd++[f q l]) (row++[(nd.length:Int)]) ls
def Gl(lim:Nat)(f:U->Int->U)(ls:List Int):Nat->List U->List (List Int)->Option (List U×List (List Int))
 | 0,nd,rows=>some (nd,rows)
 | k + 1,nd,rows=>match nd[rows.length]? with
  | none=>some (nd,rows)
  | some q=>match Fj lim f q nd [] ls with
   | none=>none
   | some p=>Gl lim f ls k p.1 (rows++[p.2])
def Oa(lim:Nat)(f:U->Int->U)(ls:List Int)(s:U):Option (List U×List (List Int)):=Gl lim f ls lim [s] []
structure Part (f:U->Int->U) (ls:List Int) (s:U) (nd:List U) (rows:List (List Int)) (lim:Nat):Prop where
 st:nd[0]? = some s
 nodup:nd.Nodup
 len:rows.length<=nd.length
 lim:nd.length<=lim
 row:∀(i:Nat) (r:List Int),rows[i]? = some r->∃q,nd[i]? = some q/\r=ls.map (λl=>((nd.idxOf (f q l):Nat):Int))/\∀l∈ls,f q l∈nd
 rc:∀q∈nd,∃w:List Int,(∀l∈w,l∈ls)/\PK f s w=q
theorem Pt{lim:Nat}{f:U->Int->U}{ls:List Int}{s q:U}{rows:List (List Int)}{i:Nat}:∀(rs ds:List Int) {nd:List U} {row:List Int} {nd':List U} {row':List Int},ls=ds++rs->Part f ls s nd rows lim->nd[i]? = some q->row=ds.map (λl=>((nd.idxOf (f q l):Nat):Int))->(∀l∈ds,f q l∈nd)->
 Fj lim f q nd row rs=some (nd',row')->Part f ls s nd' rows lim/\nd'[i]? = some q/\row'=ls.map (λl=>((nd'.idxOf (f q l):Nat):Int))/\∀l∈ls,f q l∈nd'
 | [],ds,nd,row,nd',row',e,h,hi,u,o,k=>by
  simp only [Fj,Option.some.injEq,Prod.mk.injEq] at k;obtain⟨rfl,rfl⟩:=k;rw [lh] at e;subst e;exact⟨h,hi,u,o⟩
 | l :: rs, ds,nd,row,nd',row',e,h,hi,u,o,k=>by
  simp only [Fj] at k;split at k
  ·rename_i g
   exact Pt rs (ds++[l]) (by rw [e];simp) h hi (by rw [u];simp) (λm c=>by
    rcases em.1 c with d|d
    ·exact o m d
    ·simp at d;subst d;exact g) k
  ·rename_i g
   split at k
   ·cases k
   ·rename_i B
    have t:∀x∈nd,(nd++[f q l]).idxOf x=nd.idxOf x:=λx v=>by rw [me,if_pos v]
    have z:=h.lim;refine Pt rs (ds++[l]) (by rw [e];simp) ⟨?_,?_,?_,by simp;omega,?_,?_⟩ ?_ ?_ ?_ k
    ·rw [f9 (am.1 h.st).1];exact h.st
    ·exact lQ.2 ⟨h.nodup,by simp,λa ha b hb=>by simp at hb;subst hb;exact λe=>g (e ▸ ha)⟩
    ·have:=h.len;simp;omega
    ·intro j r A
     obtain⟨p,d,y,n⟩:=h.row j r A;refine⟨p,by rw [f9 (am.1 d).1];exact d,?_,λm c=>kN _ (n m c)⟩;rw [y]
     exact lz λm c=>by rw [t _ (n m c)]
    ·intro x v
     rcases em.1 v with d|d
     ·exact h.rc x d
     ·simp at d;subst d
      obtain⟨w,d,y⟩:=h.rc q (co hi);refine⟨w++[l],λm c=>?_,by rw [RC,y];rfl⟩
      rcases em.1 c with n|n
      ·exact d m n
      ·simp at n;subst n;rw [e];simp
    ·rw [f9 (am.1 hi).1];exact hi
    ·rw [u,lR]
     congr 1
     ·exact lz λm c=>by rw [t _ (o m c)]
     ·simp [me,g]
    ·intro m c
     rcases em.1 c with d|d
     ·exact kN _ (o m d)
     ·simp at d;subst d;simp
structure Vk (f:U->Int->U) (ls:List Int) (s:U) (nd:List U) (rows:List (List Int)):Prop where
 st:nd[0]? = some s
 nodup:nd.Nodup
 len:rows.length=nd.length
 row:∀(i:Nat) (q:U),nd[i]? = some q->rows[i]? = some (ls.map λl=>((nd.idxOf (f q l):Nat):Int))
 cl:∀q∈nd,∀l∈ls,f q l∈nd
 rc:∀q∈nd,∃w:List Int,(∀l∈w,l∈ls)/\PK f s w=q
theorem Part.done{f:U->Int->U}{ls:List Int}{s:U}{nd:List U}{rows:List (List Int)}{lim:Nat}(h:Part f ls s nd rows lim)(k:nd.length<=rows.length):Vk f ls s nd rows:=by
 have e:=h.len
 have key:∀(i:Nat) (q:U),nd[i]? = some q->rows[i]? = some (ls.map λl=>((nd.idxOf (f q l):Nat):Int))/\∀l∈ls,f q l∈nd:=λi q hi=>by
  have d:=(am.1 hi).1
  obtain⟨r,b⟩:∃r,rows[i]? = some r:=⟨_,d7 (by omega)⟩
  obtain⟨p,a,j,g⟩:=h.row i r b
  rw [hi] at a;injection a with a;subst a
  exact⟨by rw [b,j],g⟩
 refine⟨h.st,h.nodup,by omega,λi q hi=>(key i q hi).1,λq c=>?_,h.rc⟩;obtain⟨i,hi⟩:=lL.1 c;exact(key i q hi).2
theorem Kt{lim lim':Nat}(b:lim<=lim'){f:U->Int->U}{q:U}:∀(ls:List Int) {nd:List U} {row:List Int} {p:List U×List Int},nd.length<=lim->Fj lim f q nd row ls=some p->Fj lim' f q nd row ls=some p
 | [],nd,row,p,_,h=>h
 | l :: ls,nd,row,p,d,h=>by
  simp only [Fj] at h |-;split at h
  ·rename_i a
   rw [if_pos a];exact Kt b ls d h
  ·rename_i a
   rw [if_neg a];split at h
   ·cases h
   ·rename_i c
    rw [if_neg (by omega)];exact Kt b ls (by simp;omega) h
theorem Part.push{f:U->Int->U}{ls:List Int}{s q:U}{nd:List U}{rows:List (List Int)}{lim:Nat}{p:List U×List Int}(h:Part f ls s nd rows lim)(e:nd[rows.length]? = some q)(hp:Fj lim f q nd [] ls=some p):Part f ls s p.1 (rows++[p.2]) lim:=by
 obtain⟨b,d,k,i⟩:=Pt ls [] (row:=[]) (nd':=p.1) (row':=p.2) rfl h e rfl (by simp) hp;have g:=(am.1 d).1;refine⟨b.st,b.nodup,by simp;omega,b.lim,λj r a=>?_,b.rc⟩
 rcases lc j rows.length with c|c
 ·rw [f9 c] at a;exact b.row j r a
 ·rw [ge c] at a
  have l:j - rows.length < 1:=(am.1 a).1
  obtain rfl:j=rows.length:=by omega
  simp at a;subst a;exact⟨q,d,k,i⟩
theorem TX{lim:Nat}{f:U->Int->U}{ls:List Int}{s:U}:∀(k:Nat) {nd:List U} {rows:List (List Int)} {p:List U×List (List Int)},lim<=k+rows.length->Part f ls s nd rows lim->Gl lim f ls k nd rows=some p->Vk f ls s p.1 p.2/\p.1.length<=lim/\∀lim' k',lim<=lim'->k<=k'->Gl lim' f ls k' nd rows=some p
 | 0,nd,rows,p,hk,h,a=>by
  simp only [Gl,Option.some.injEq] at a;subst a;have g:=h.lim;refine⟨h.done (by omega),h.lim,λlim' k' c b=>?_⟩
  cases k' with
  | zero=>rfl
  | succ k'=>simp only [Gl];rw [kE (by omega)]
 | k + 1, nd,rows,p,hk,h,a=>by
  simp only [Gl] at a;split at a
  ·rename_i e
   simp only [Option.some.injEq] at a;subst a;refine⟨h.done (by simpa using e),h.lim,λlim' k' c b=>?_⟩
   cases k' with
   | zero=>omega
   | succ k'=>simp only [Gl];rw [e]
  ·rename_i q d
   split at a
   ·cases a
   ·rename_i m hp
    obtain⟨l,j,i⟩:=TX k (by simp;omega) (h.push d hp) a;refine⟨l,j,λlim' k' c b=>?_⟩
    cases k' with
    | zero=>omega
    | succ k'=>
     simp only [Gl];rw [d];simp only;rw [Kt c ls h.lim hp];exact i lim' k' c (by omega)
theorem Pu{lim:Nat}{f:U->Int->U}{ls:List Int}{s:U}{nd:List U}{rows:List (List Int)}(g:1<=lim)(h:Oa lim f ls s=some (nd,rows)):Vk f ls s nd rows/\nd.length<=lim/\∀lim',lim<=lim'->Oa lim' f ls s=some (nd,rows):=by
 obtain⟨a,b,c⟩:=TX lim (by simp) ⟨rfl,by simp,by simp,by simpa using g,by simp,λq d=>⟨[],by simp,by simp at d;subst d;rfl⟩⟩ h;exact⟨a,b,λlim' e=>c lim' lim' e e⟩
end
theorem aH:∀(n:Nat) (l:List Nat),l.Nodup->(∀x∈l,x < n)->n<=l.length->∀x,x < n->x∈l:=λn l d c f x b=>by
 refine Classical.byContradiction λe=>?_
 have:=HD n (x::l) (l6.2 ⟨e,d⟩) (λy a=>by
  rcases kw.1 a with rfl|h
  ·exact b
  ·exact c y h)
 simp at this;omega
theorem Qz{n:Nat}{l:List Int}(i:l.Nodup)(d:∀x∈l,0<=x/\x < n)(g:n<=l.length){x:Int}(m:0<=x/\x < n):x∈l:=by
 have k:(l.map Int.toNat).Nodup:=by
  unfold List.Nodup at *;rw [lF];refine(nM.1 i).imp λ{a b} h e=>?_;have ha:=d a h.1;have hb:=d b h.2.1;exact h.2.2 (by omega)
 have j:=aH n (l.map Int.toNat) k (λy f=>by
  obtain⟨z,c,rfl⟩:=d8.1 f
  have:=d z c;omega) (by simpa using g) x.toNat (by omega)
 obtain⟨z,c,o⟩:=d8.1 j;have:=d z c
 obtain rfl:z=x:=by omega
 exact c
theorem Ku{lim:Nat}{f:Int->Int->Int}{q:Int}(i:∀nd:List Int,nd.Nodup->(∀x∈nd,0<=x/\x < lim)->nd.length=lim->∀x:Int,0<=x/\x < lim->x∈nd):∀(ls:List Int) {nd row:List Int},nd.Nodup->(∀x∈nd,0<=x/\x < (lim:Int))->(∀l∈ls,0<=f q l/\f q l < lim)->∃p,Fj lim f q nd row ls=some p/\p.1.Nodup/\∀x∈p.1,0<=x/\x < (lim:Int)
 | [],nd,row,g,hb,_=>⟨(nd,row),rfl,g,hb⟩
 | l :: ls,nd,row,g,hb,k=>by
  simp only [Fj];have d:=k l (by simp);by_cases c:f q l∈nd
  ·rw [if_pos c];exact Ku i ls g hb λm j=>k m (by simp [j])
  ·rw [if_neg c,if_neg λe=>c (i nd g hb e _ d)]
   exact Ku i ls (lQ.2 ⟨g,by simp,λa ha b hb=>by simp at hb;subst hb;exact λe=>c (e ▸ ha)⟩) (λx n=>by
    rcases em.1 n with h|h
    ·exact hb x h
    ·simp at h;subst h;exact d) λm j=>k m (by simp [j])
theorem Oj{lim:Nat}{f:Int->Int->Int}{ls:List Int}(c:∀q l:Int,0<=q/\q < lim->l∈ls->0<=f q l/\f q l < lim):∀(k:Nat) {nd:List Int} {rows:List (List Int)},nd.Nodup->(∀x∈nd,0<=x/\x < (lim:Int))->∃p,Gl lim f ls k nd rows=some p
 | 0,nd,rows,_,_=>⟨_,rfl⟩
 | k + 1,nd,rows,a,hb=>by
  simp only [Gl];split
  ·exact⟨_,rfl⟩
  ·rename_i q e
   obtain⟨p,i,h,g⟩:=Ku (q:=q) (f:=f) (λnd a hb b x d=>Qz a hb (by omega) d) ls (row:=[]) a hb (λl b=>c q l (hb q (co e)) b);rw [i];exact Oj c k h g
theorem VY{lim:Nat}{f:Int->Int->Int}{ls:List Int}{s:Int}(c:∀q l:Int,0<=q/\q < lim->l∈ls->0<=f q l/\f q l < lim)(b:0<=s/\s < (lim:Int)):∃p,Oa lim f ls s=some p:=
 Oj c lim (by simp) (λx a=>by simp at a;subst a;exact b)
section
variable {U β:Type}[DecidableEq U][DecidableEq β]
theorem Uf{R:U->Prop}{φ:U->β}(hi:∀a b,R a->R b->φ a=φ b->a=b):∀ {nd:List U} {x:U},(∀y∈nd,R y)->R x->((φ x∈nd.map φ↔x∈nd)/\(nd.map φ).idxOf (φ x)=nd.idxOf x)
 | [],x,_,_=>⟨by simp,rfl⟩
 | y :: nd,x,h,d=>by
  obtain⟨i,g⟩:=Uf hi (nd:=nd) (λz f=>h z (by simp [f])) d
  have e:φ x=φ y↔x=y:=⟨hi x y d (h y (by simp)),λe=>by rw [e]⟩
  refine⟨by rw [lA,kw,kw,i,e],?_⟩;rw [lA,ox,ox,g];by_cases c:y=x
  ·subst c;simp
  ·have j:¬φ y=φ x:=λh=>c (e.1 h.symm).symm
   simp [beq_eq_false_iff_ne.2 c,beq_eq_false_iff_ne.2 j]
theorem MP{lim:Nat}{f:U->Int->U}{g:β->Int->β}{R:U->Prop}{φ:U->β}(hi:∀a b,R a->R b->φ a=φ b->a=b){q:U}:∀(ls:List Int) {nd:List U} {row:List Int},(∀y∈nd,R y)->(∀l∈ls,R (f q l)/\φ (f q l)=g (φ q) l)->
 (Fj lim g (φ q) (nd.map φ) row ls=(Fj lim f q nd row ls).map λp=>(p.1.map φ,p.2))/\∀p,Fj lim f q nd row ls=some p->∀y∈p.1,R y
 | [],nd,row,h,_=>⟨rfl,λp hp=>by simp only [Fj,Option.some.injEq] at hp;subst hp;exact h⟩
 | l :: ls,nd,row,h,k=>by
  obtain⟨o,t⟩:=k l (by simp);obtain⟨n,s⟩:=Uf hi h o;simp only [Fj];rw [<-t,s];by_cases c:f q l∈nd
  ·rw [if_pos c,if_pos (n.2 c)]
   exact MP hi ls h λm j=>k m (by simp [j])
  ·rw [if_neg c,if_neg (λe=>c (n.1 e)),gc]
   by_cases d:nd.length=lim
   ·rw [if_pos d,if_pos d];exact⟨rfl,λp hp=>by cases hp⟩
   ·rw [if_neg d,if_neg d]
    have e:nd.map φ++[φ (f q l)]=(nd++[f q l]).map φ:=by simp
    rw [e]
    exact MP hi ls (λy r=>by
     rcases em.1 r with i|i
     ·exact h y i
     ·simp at i;subst i;exact o) λm j=>k m (by simp [j])
theorem Qc{lim:Nat}{f:U->Int->U}{g:β->Int->β}{ls:List Int}{R:U->Prop}{φ:U->β}(hi:∀a b,R a->R b->φ a=φ b->a=b)(c:∀q l,R q->l∈ls->R (f q l)/\φ (f q l)=g (φ q) l):∀(k:Nat) {nd:List U} {rows:List (List Int)},(∀y∈nd,R y)->
 Gl lim g ls k (nd.map φ) rows=(Gl lim f ls k nd rows).map λp=>(p.1.map φ,p.2)
 | 0,nd,rows,h=>rfl
 | k + 1,nd,rows,h=>by
  simp only [Gl];rw [d9]
  cases e:nd[rows.length]? with
  | none=>rfl
  | some q=>
   obtain⟨m,j⟩:=MP (lim:=lim) (f:=f) (g:=g) hi (q:=q) ls (row:=[]) h (λl i=>c q l (h q (co e)) i);simp only [lu];rw [m]
   cases d:Fj lim f q nd [] ls with
   | none=>rfl
   | some p=>exact Qc hi c k (j p d)
theorem YJ{lim:Nat}{f:U->Int->U}{g:β->Int->β}{ls:List Int}{R:U->Prop}{φ:U->β}(hi:∀a b,R a->R b->φ a=φ b->a=b)(e:∀q l,R q->l∈ls->R (f q l)/\φ (f q l)=g (φ q) l){s:U}(d:R s) :
 Oa lim g ls (φ s)=(Oa lim f ls s).map λp=>(p.1.map φ,p.2):=Qc hi e lim (nd:=[s]) (λy c=>by simp at c;subst c;exact d)
end
end Go.Am
