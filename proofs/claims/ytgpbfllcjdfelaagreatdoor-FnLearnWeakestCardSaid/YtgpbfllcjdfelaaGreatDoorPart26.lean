/-
  Nodes are numbered in the order of the words that lead to them, plainly.
-/
import Derived.Test.YtgpbfllcjdfelaaGreatDoorPart24
import Derived.Test.YtgpbfllcjdfelaaGreatDoorPart22
set_option linter.all false
namespace Go.Am
set_option linter.unusedVariables false
section
variable {U:Type}[DecidableEq U]
def Rw{U:Type}(f:U->Int->U):U->List Int->U
 | q,[]=>q
 | q,l::w=>Rw f (f q l) w
theorem Tk{U:Type}(f:U->Int->U):∀(u w:List Int) (q:U),Rw f q (u++w)=Rw f (Rw f q u) w
 | [],_,_=>rfl
 | l::u,w,q=>Tk f u w _
def CG(lim:Nat)(f:U->Int->U)(q:U):List U->List Int->List Int->Option (List U×List Int)
 | nd,row,[]=>some (nd,row)
 | nd,row,l::ls=>if f q l∈nd then CG lim f q nd (row++[((nd.idxOf (f q l):Nat):Int)]) ls
  else if nd.length=lim then none else CG lim f q (nd++[f q l]) (row++[(nd.length:Int)]) ls
def C4(lim:Nat)(f:U->Int->U)(ls:List Int):Nat->List U->List (List Int)->Option (List U×List (List Int))
 | 0,nd,rows=>some (nd,rows)
 | k + 1,nd,rows=>match nd[rows.length]? with
  | none=>some (nd,rows)
  | some q=>match CG lim f q nd [] ls with
   | none=>none
   | some p=>C4 lim f ls k p.1 (rows++[p.2])
def FV(lim:Nat)(f:U->Int->U)(ls:List Int)(s:U):Option (List U×List (List Int)):=C4 lim f ls lim [s] []
structure Part (f:U->Int->U) (ls:List Int) (s:U) (nd:List U) (rows:List (List Int)) (lim:Nat):Prop where
 st:nd[0]? = some s
 nodup:nd.Nodup
 len:rows.length<=nd.length
 lim:nd.length<=lim
 row:∀(i:Nat) (r:List Int),rows[i]? = some r->∃q,nd[i]? = some q/\r=ls.map (λl=>((nd.idxOf (f q l):Nat):Int))/\∀l∈ls,f q l∈nd
 rc:∀q∈nd,∃w:List Int,(∀l∈w,l∈ls)/\Rw f s w=q
theorem QL{lim:Nat}{f:U->Int->U}{ls:List Int}{s q:U}{rows:List (List Int)}{i:Nat}:∀(rs ds:List Int) {nd:List U} {row:List Int} {nd':List U} {row':List Int},ls=ds++rs->Part f ls s nd rows lim->nd[i]? = some q->row=ds.map (λl=>((nd.idxOf (f q l):Nat):Int))->(∀l∈ds,f q l∈nd)->
 CG lim f q nd row rs=some (nd',row')->Part f ls s nd' rows lim/\nd'[i]? = some q/\row'=ls.map (λl=>((nd'.idxOf (f q l):Nat):Int))/\∀l∈ls,f q l∈nd'
 | [],ds,nd,row,nd',row',e,h,hi,u,o,k=>by
  simp only [CG,Option.some.injEq,Prod.mk.injEq] at k;obtain⟨rfl,rfl⟩:=k;rw [nG] at e;subst e;exact⟨h,hi,u,o⟩
 | l :: rs, ds,nd,row,nd',row',e,h,hi,u,o,k=>by
  simp only [CG] at k;split at k
  ·rename_i g
   exact QL rs (ds++[l]) (by rw [e];simp) h hi (by rw [u];simp) (λm c=>by
    rcases f9.1 c with d|d
    ·exact o m d
    ·simp at d;subst d;exact g) k
  ·rename_i g
   split at k
   ·cases k
   ·rename_i B
    have t:∀x∈nd,(nd++[f q l]).idxOf x=nd.idxOf x:=λx v=>by rw [nL,if_pos v]
    have z:=h.lim;refine QL rs (ds++[l]) (by rw [e];simp) ⟨?_,?_,?_,by simp;omega,?_,?_⟩ ?_ ?_ ?_ k
    ·rw [d8 (am.1 h.st).1];exact h.st
    ·exact nR.2 ⟨h.nodup,by simp,λa ha b hb=>by simp at hb;subst hb;exact λe=>g (e ▸ ha)⟩
    ·have:=h.len;simp;omega
    ·intro j r A
     obtain⟨p,d,y,n⟩:=h.row j r A;refine⟨p,by rw [d8 (am.1 d).1];exact d,?_,λm c=>m9 _ (n m c)⟩;rw [y]
     exact nu λm c=>by rw [t _ (n m c)]
    ·intro x v
     rcases f9.1 v with d|d
     ·exact h.rc x d
     ·simp at d;subst d
      obtain⟨w,d,y⟩:=h.rc q (ce hi);refine⟨w++[l],λm c=>?_,by rw [Tk,y];rfl⟩
      rcases f9.1 c with n|n
      ·exact d m n
      ·simp at n;subst n;rw [e];simp
    ·rw [d8 (am.1 hi).1];exact hi
    ·rw [u,nO]
     congr 1
     ·exact nu λm c=>by rw [t _ (o m c)]
     ·simp [nL,g]
    ·intro m c
     rcases f9.1 c with d|d
     ·exact m9 _ (o m d)
     ·simp at d;subst d;simp
structure LF (f:U->Int->U) (ls:List Int) (s:U) (nd:List U) (rows:List (List Int)):Prop where
 st:nd[0]? = some s
 nodup:nd.Nodup
 len:rows.length=nd.length
 row:∀(i:Nat) (q:U),nd[i]? = some q->rows[i]? = some (ls.map λl=>((nd.idxOf (f q l):Nat):Int))
 cl:∀q∈nd,∀l∈ls,f q l∈nd
 rc:∀q∈nd,∃w:List Int,(∀l∈w,l∈ls)/\Rw f s w=q
theorem Part.done{f:U->Int->U}{ls:List Int}{s:U}{nd:List U}{rows:List (List Int)}{lim:Nat}(h:Part f ls s nd rows lim)(k:nd.length<=rows.length):LF f ls s nd rows:=by
 have e:=h.len
 have key:∀(i:Nat) (q:U),nd[i]? = some q->rows[i]? = some (ls.map λl=>((nd.idxOf (f q l):Nat):Int))/\∀l∈ls,f q l∈nd:=λi q hi=>by
  have d:=(am.1 hi).1
  obtain⟨r,b⟩:∃r,rows[i]? = some r:=⟨_,d5 (by omega)⟩
  obtain⟨p,a,j,g⟩:=h.row i r b
  rw [hi] at a;injection a with a;subst a
  exact⟨by rw [b,j],g⟩
 refine⟨h.st,h.nodup,by omega,λi q hi=>(key i q hi).1,λq c=>?_,h.rc⟩;obtain⟨i,hi⟩:=n7.1 c;exact(key i q hi).2
theorem KJ{lim lim':Nat}(b:lim<=lim'){f:U->Int->U}{q:U}:∀(ls:List Int) {nd:List U} {row:List Int} {p:List U×List Int},nd.length<=lim->CG lim f q nd row ls=some p->CG lim' f q nd row ls=some p
 | [],nd,row,p,_,h=>h
 | l :: ls,nd,row,p,d,h=>by
  simp only [CG] at h |-;split at h
  ·rename_i a
   rw [if_pos a];exact KJ b ls d h
  ·rename_i a
   rw [if_neg a];split at h
   ·cases h
   ·rename_i c
    rw [if_neg (by omega)];exact KJ b ls (by simp;omega) h
theorem Part.push{f:U->Int->U}{ls:List Int}{s q:U}{nd:List U}{rows:List (List Int)}{lim:Nat}{p:List U×List Int}(h:Part f ls s nd rows lim)(e:nd[rows.length]? = some q)(hp:CG lim f q nd [] ls=some p):Part f ls s p.1 (rows++[p.2]) lim:=by
 obtain⟨b,d,k,i⟩:=QL ls [] (row:=[]) (nd':=p.1) (row':=p.2) rfl h e rfl (by simp) hp;have g:=(am.1 d).1;refine⟨b.st,b.nodup,by simp;omega,b.lim,λj r a=>?_,b.rc⟩
 rcases nh j rows.length with c|c
 ·rw [d8 c] at a;exact b.row j r a
 ·rw [ge c] at a
  have l:j - rows.length < 1:=(am.1 a).1
  obtain rfl:j=rows.length:=by omega
  simp at a;subst a;exact⟨q,d,k,i⟩
theorem VD{lim:Nat}{f:U->Int->U}{ls:List Int}{s:U}:∀(k:Nat) {nd:List U} {rows:List (List Int)} {p:List U×List (List Int)},lim<=k+rows.length->Part f ls s nd rows lim->C4 lim f ls k nd rows=some p->LF f ls s p.1 p.2/\p.1.length<=lim/\∀lim' k',lim<=lim'->k<=k'->C4 lim' f ls k' nd rows=some p
 | 0,nd,rows,p,hk,h,a=>by
  simp only [C4,Option.some.injEq] at a;subst a;have g:=h.lim;refine⟨h.done (by omega),h.lim,λlim' k' c b=>?_⟩
  cases k' with
  | zero=>rfl
  | succ k'=>simp only [C4];rw [i8 (by omega)]
 | k + 1, nd,rows,p,hk,h,a=>by
  simp only [C4] at a;split at a
  ·rename_i e
   simp only [Option.some.injEq] at a;subst a;refine⟨h.done (by simpa using e),h.lim,λlim' k' c b=>?_⟩
   cases k' with
   | zero=>omega
   | succ k'=>simp only [C4];rw [e]
  ·rename_i q d
   split at a
   ·cases a
   ·rename_i m hp
    obtain⟨l,j,i⟩:=VD k (by simp;omega) (h.push d hp) a;refine⟨l,j,λlim' k' c b=>?_⟩
    cases k' with
    | zero=>omega
    | succ k'=>
     simp only [C4];rw [d];simp only;rw [KJ c ls h.lim hp];exact i lim' k' c (by omega)
theorem Hh{lim:Nat}{f:U->Int->U}{ls:List Int}{s:U}{nd:List U}{rows:List (List Int)}(g:1<=lim)(h:FV lim f ls s=some (nd,rows)):LF f ls s nd rows/\nd.length<=lim/\∀lim',lim<=lim'->FV lim' f ls s=some (nd,rows):=by
 obtain⟨a,b,c⟩:=VD lim (by simp) ⟨rfl,by simp,by simp,by simpa using g,by simp,λq d=>⟨[],by simp,by simp at d;subst d;rfl⟩⟩ h;exact⟨a,b,λlim' e=>c lim' lim' e e⟩
end
theorem dF:∀(n:Nat) (l:List Nat),l.Nodup->(∀x∈l,x < n)->n<=l.length->∀x,x < n->x∈l:=λn l d c f x b=>by
 refine Classical.byContradiction λe=>?_
 have:=HV n (x::l) (oo.2 ⟨e,d⟩) (λy a=>by
  rcases lc.1 a with rfl|h
  ·exact b
  ·exact c y h)
 simp at this;omega
theorem ZO{n:Nat}{l:List Int}(i:l.Nodup)(d:∀x∈l,0<=x/\x < n)(g:n<=l.length){x:Int}(m:0<=x/\x < n):x∈l:=by
 have k:(l.map Int.toNat).Nodup:=by
  unfold List.Nodup at *;rw [nS];refine(qf.1 i).imp λ{a b} h e=>?_;have ha:=d a h.1;have hb:=d b h.2.1;exact h.2.2 (by omega)
 have j:=dF n (l.map Int.toNat) k (λy f=>by
  obtain⟨z,c,rfl⟩:=em.1 f
  have:=d z c;omega) (by simpa using g) x.toNat (by omega)
 obtain⟨z,c,o⟩:=em.1 j;have:=d z c
 obtain rfl:z=x:=by omega
 exact c
theorem KL{lim:Nat}{f:Int->Int->Int}{q:Int}(i:∀nd:List Int,nd.Nodup->(∀x∈nd,0<=x/\x < lim)->nd.length=lim->∀x:Int,0<=x/\x < lim->x∈nd):∀(ls:List Int) {nd row:List Int},nd.Nodup->(∀x∈nd,0<=x/\x < (lim:Int))->(∀l∈ls,0<=f q l/\f q l < lim)->∃p,CG lim f q nd row ls=some p/\p.1.Nodup/\∀x∈p.1,0<=x/\x < (lim:Int)
 | [],nd,row,g,hb,_=>⟨(nd,row),rfl,g,hb⟩
 | l :: ls,nd,row,g,hb,k=>by
  simp only [CG];have d:=k l (by simp);by_cases c:f q l∈nd
  ·rw [if_pos c];exact KL i ls g hb λm j=>k m (by simp [j])
  ·rw [if_neg c,if_neg λe=>c (i nd g hb e _ d)]
   exact KL i ls (nR.2 ⟨g,by simp,λa ha b hb=>by simp at hb;subst hb;exact λe=>c (e ▸ ha)⟩) (λx n=>by
    rcases f9.1 n with h|h
    ·exact hb x h
    ·simp at h;subst h;exact d) λm j=>k m (by simp [j])
theorem OY{lim:Nat}{f:Int->Int->Int}{ls:List Int}(c:∀q l:Int,0<=q/\q < lim->l∈ls->0<=f q l/\f q l < lim):∀(k:Nat) {nd:List Int} {rows:List (List Int)},nd.Nodup->(∀x∈nd,0<=x/\x < (lim:Int))->∃p,C4 lim f ls k nd rows=some p
 | 0,nd,rows,_,_=>⟨_,rfl⟩
 | k + 1,nd,rows,a,hb=>by
  simp only [C4];split
  ·exact⟨_,rfl⟩
  ·rename_i q e
   obtain⟨p,i,h,g⟩:=KL (q:=q) (f:=f) (λnd a hb b x d=>ZO a hb (by omega) d) ls (row:=[]) a hb (λl b=>c q l (hb q (ce e)) b);rw [i];exact OY c k h g
theorem Yt{lim:Nat}{f:Int->Int->Int}{ls:List Int}{s:Int}(c:∀q l:Int,0<=q/\q < lim->l∈ls->0<=f q l/\f q l < lim)(b:0<=s/\s < (lim:Int)):∃p,FV lim f ls s=some p:=
 OY c lim (by simp) (λx a=>by simp at a;subst a;exact b)
section
variable {U β:Type}[DecidableEq U][DecidableEq β]
theorem Qr{R:U->Prop}{φ:U->β}(hi:∀a b,R a->R b->φ a=φ b->a=b):∀ {nd:List U} {x:U},(∀y∈nd,R y)->R x->((φ x∈nd.map φ↔x∈nd)/\(nd.map φ).idxOf (φ x)=nd.idxOf x)
 | [],x,_,_=>⟨by simp,rfl⟩
 | y :: nd,x,h,d=>by
  obtain⟨i,g⟩:=Qr hi (nd:=nd) (λz f=>h z (by simp [f])) d
  have e:φ x=φ y↔x=y:=⟨hi x y d (h y (by simp)),λe=>by rw [e]⟩
  refine⟨by rw [nX,lc,lc,i,e],?_⟩;rw [nX,qN,qN,g];by_cases c:y=x
  ·subst c;simp
  ·have j:¬φ y=φ x:=λh=>c (e.1 h.symm).symm
   simp [beq_eq_false_iff_ne.2 c,beq_eq_false_iff_ne.2 j]
theorem Nr{lim:Nat}{f:U->Int->U}{g:β->Int->β}{R:U->Prop}{φ:U->β}(hi:∀a b,R a->R b->φ a=φ b->a=b){q:U}:∀(ls:List Int) {nd:List U} {row:List Int},(∀y∈nd,R y)->(∀l∈ls,R (f q l)/\φ (f q l)=g (φ q) l)->
 (CG lim g (φ q) (nd.map φ) row ls=(CG lim f q nd row ls).map λp=>(p.1.map φ,p.2))/\∀p,CG lim f q nd row ls=some p->∀y∈p.1,R y
 | [],nd,row,h,_=>⟨rfl,λp hp=>by simp only [CG,Option.some.injEq] at hp;subst hp;exact h⟩
 | l :: ls,nd,row,h,k=>by
  obtain⟨o,t⟩:=k l (by simp);obtain⟨n,s⟩:=Qr hi h o;simp only [CG];rw [<-t,s];by_cases c:f q l∈nd
  ·rw [if_pos c,if_pos (n.2 c)]
   exact Nr hi ls h λm j=>k m (by simp [j])
  ·rw [if_neg c,if_neg (λe=>c (n.1 e)),f7]
   by_cases d:nd.length=lim
   ·rw [if_pos d,if_pos d];exact⟨rfl,λp hp=>by cases hp⟩
   ·rw [if_neg d,if_neg d]
    have e:nd.map φ++[φ (f q l)]=(nd++[f q l]).map φ:=by simp
    rw [e]
    exact Nr hi ls (λy r=>by
     rcases f9.1 r with i|i
     ·exact h y i
     ·simp at i;subst i;exact o) λm j=>k m (by simp [j])
theorem RQ{lim:Nat}{f:U->Int->U}{g:β->Int->β}{ls:List Int}{R:U->Prop}{φ:U->β}(hi:∀a b,R a->R b->φ a=φ b->a=b)(c:∀q l,R q->l∈ls->R (f q l)/\φ (f q l)=g (φ q) l):∀(k:Nat) {nd:List U} {rows:List (List Int)},(∀y∈nd,R y)->
 C4 lim g ls k (nd.map φ) rows=(C4 lim f ls k nd rows).map λp=>(p.1.map φ,p.2)
 | 0,nd,rows,h=>rfl
 | k + 1,nd,rows,h=>by
  simp only [C4];rw [d9]
  cases e:nd[rows.length]? with
  | none=>rfl
  | some q=>
   obtain⟨m,j⟩:=Nr (lim:=lim) (f:=f) (g:=g) hi (q:=q) ls (row:=[]) h (λl i=>c q l (h q (ce e)) i);simp only [nv];rw [m]
   cases d:CG lim f q nd [] ls with
   | none=>rfl
   | some p=>exact RQ hi c k (j p d)
theorem bf{lim:Nat}{f:U->Int->U}{g:β->Int->β}{ls:List Int}{R:U->Prop}{φ:U->β}(hi:∀a b,R a->R b->φ a=φ b->a=b)(e:∀q l,R q->l∈ls->R (f q l)/\φ (f q l)=g (φ q) l){s:U}(d:R s) :
 FV lim g ls (φ s)=(FV lim f ls s).map λp=>(p.1.map φ,p.2):=RQ hi e lim (nd:=[s]) (λy c=>by simp at c;subst c;exact d)
end
section
variable {U β:Type}[DecidableEq U][DecidableEq β]
theorem CL:∀ {l m:List U},l.Nodup->(∀x∈l,x∈m)->l.length<=m.length
 | [],m,_,_=>by simp
 | x::l,m,f,b=>by
  have d:=oo.1 f;have c:=b x (by simp);have i:=List.length_erase_of_mem c;have h:=CL (l:=l) (m:=m.erase x) d.2 λy a=>(List.mem_erase_of_ne λe=>d.1 (by rw [<-e];exact a)).2 (b y (by simp [a]));have g:=p7 c;simp only [nB];omega
theorem UH{l m:List U}(e:l.Nodup)(c:∀x∈l,x∈m)(g:m.length<=l.length)(d:m.Nodup):∀x∈m,x∈l:=λx b=>by
 refine Classical.byContradiction λf=>?_
 have:=CL (l:=x::l) (m:=m) (oo.2 ⟨f,e⟩) λy a=>by
  rcases lc.1 a with rfl|h
  ·exact b
  ·exact c y h
 simp at this;omega
def uniq:List U->List U->List U
 | u,[]=>u
 | u,x::l=>uniq (if x∈u then u else u++[x]) l
theorem Of:∀(l m u:List U),uniq u (l++m)=uniq (uniq u l) m
 | [],m,u=>rfl
 | x::l,m,u=>Of l m _
theorem Xb:∀(l:List U) {u:List U},u.Nodup->(uniq u l).Nodup
 | [],u,h=>h
 | x :: l,u,h=>by
  unfold uniq;refine Xb l ?_;split
  ·exact h
  ·rename_i c
   exact nR.2 ⟨h,by simp,λa ha b hb=>by simp at hb;subst hb;exact λe=>c (e ▸ ha)⟩
theorem TA:∀(l u:List U),u <+: uniq u l
 | [],u=>pA _
 | x::l,u=>by
  unfold uniq;refine List.IsPrefix.trans ?_ (TA l _);split
  ·exact pA _
  ·exact qu _ _
theorem Tz:∀(l:List U) {u:List U} {x:U},x∈uniq u l↔x∈u\/x∈l
 | [],u,x=>by simp [uniq]
 | y :: l,u,x=>by
  unfold uniq;rw [Tz l];split
  ·rename_i a
   constructor
   ·rintro(h|h)
    ·exact .inl h
    ·exact .inr (by simp [h])
   ·rintro(h|h)
    ·exact .inl h
    ·rcases lc.1 h with rfl|h
     ·exact .inl a
     ·exact .inr h
  ·simp only [f9,pP,lc,or_assoc,qc,false_or]
def uq(l:List U):List U:=uniq [] l
theorem Lx(l:List U):(uq l).Nodup:=Xb l (by simp)
theorem Cp{l:List U}{x:U}:x∈uq l↔x∈l:=by unfold uq;rw [Tz];simp
theorem J6{l:List U}{k:Nat}{x:U}(h:l[k]? = some x):uq (l.take (k+1))=if x∈uq (l.take k) then uq (l.take k) else uq (l.take k)++[x]:=by
 unfold uq;rw [gc,h,Of];rfl
theorem Vn(l:List U)(k:Nat):uq (l.take k) <+: uq l:=by
 have h:=TA (l.drop k) (uq (l.take k));unfold uq at h |-;rw [<-Of,nJ] at h;exact h
theorem E9(l:List U):(uq l).length<=l.length:=CL (Lx l) λx a=>Cp.1 a
def CN(l:List U)(x:U):Int:=((uq l).idxOf x:Nat)
def Cn(l:List U):List Int:=l.map (CN l)
theorem JJ{l:List U}{x y:U}(c:x∈l)(h:CN l x=CN l y):x=y:=by
 have f:=Cp.2 c
 have b:(uq l).idxOf x=(uq l).idxOf y:=by unfold CN at h;omega
 have a:=mZ.2 f;have g:y∈uq l:=mZ.1 (b ▸ a);have e:(uq l)[(uq l).idxOf x]=x:=n8 a;have d:(uq l)[(uq l).idxOf y]'(b ▸ a)=y:=n8 _;rw [<-e,<-d];simp only [b]
theorem Iw{l:List U}{x:U}(a:x∈l):0<=CN l x/\CN l x < (uq l).length:=by
 have:=mZ.2 (Cp.2 a);unfold CN;omega
theorem Nq{l:List U}{x:U}(a:x∈l):(uq l)[(CN l x).toNat]? = some x:=by
 have h:=mZ.2 (Cp.2 a)
 have e:(CN l x).toNat=(uq l).idxOf x:=by unfold CN;omega
 rw [e,d5 h,n8]
theorem Ma{l:List U}{i:Nat}{x:U}(h:(uq l)[i]? = some x):CN l x=i:=by
 have a:x∈l:=Cp.1 (ce h);have b:=Nq a;have c:=(ox (am.1 b).1 (Lx l)).1 (b.trans h.symm);have:=Iw a;omega
theorem Iv{l:List U}{k:Nat}{x:U}(h:l[k]? = some x):(x∈uq (l.take k)->CN l x=((uq (l.take k)).idxOf x:Nat)/\CN l x < (uq (l.take k)).length)/\(x∉uq (l.take k)->CN l x=(uq (l.take k)).length):=by
 constructor
 ·intro a
  obtain⟨t,ht⟩:=Vn l k
  have c:(uq l).idxOf x=(uq (l.take k)).idxOf x:=by rw [<-ht,nL,if_pos a]
  have b:=mZ.2 a;unfold CN;omega
 ·intro a
  obtain⟨t,ht⟩:=Vn l (k+1);rw [J6 h,if_neg a] at ht;unfold CN;rw [<-ht,qC,nL,if_neg a];simp
theorem RD{f:U->β}{l:List U}:∀(v:List β),v.Nodup->(∀y∈v,y∈l.map f)->∃u:List U,u.map f=v/\u.Nodup/\∀x∈u,x∈l
 | [],_,_=>⟨[],rfl,by simp,by simp⟩
 | y::v,c,h=>by
  obtain⟨u,d,i,g⟩:=RD (f:=f) (l:=l) v (oo.1 c).2 λz a=>h z (by simp [a]);obtain⟨x,e,rfl⟩:=em.1 (h y (by simp));refine⟨x::u,by simp [d],oo.2 ⟨λb=>(oo.1 c).1 (by rw [<-d];exact em.2 ⟨x,b,rfl⟩),i⟩,λz a=>?_⟩
  rcases lc.1 a with rfl|a
  ·exact e
  ·exact g z a
theorem RC(f:U->β)(l:List U):(uq (l.map f)).length<=(uq l).length:=by
 obtain⟨u,e,d,c⟩:=RD (f:=f) (l:=l) (uq (l.map f)) (Lx _) λy a=>Cp.1 a;rw [<-e,f7];exact CL d λx b=>Cp.2 (c x b)
theorem iN{f:U->β}{l:List U}(h:(uq l).length<=(uq (l.map f)).length){x y:U}(e:x∈l)(c:y∈l)(p:f x=f y):x=y:=by
 obtain⟨u,o,t,s⟩:=RD (f:=f) (l:=l) (uq (l.map f)) (Lx _) λy c=>Cp.1 c;have n:=UH t (m:=uq l) (λx e=>Cp.2 (s x e)) (by rw [<-o,f7] at h;exact h) (Lx l);have a:=Lx (l.map f);rw [<-o] at a;have d:=n x (Cp.2 e);have b:=n y (Cp.2 c);obtain⟨i,hi⟩:=n7.1 d;obtain⟨j,g⟩:=n7.1 b
 have k:(u.map f)[i]? = some (f x):=by rw [d9,hi];rfl
 have r:(u.map f)[j]? = some (f x):=by rw [d9,g,p];rfl
 have q:=(ox (am.1 k).1 a).1 (k.trans r.symm);subst q;rw [hi] at g;injection g
theorem Mq(l:List U):(uq (Cn l)).length=(uq l).length:=by
 have i:=RC (CN l) l;refine qQ i ?_
 have g:(uq ((uq l).map (CN l))).length=(uq l).length:=by
  have d:((uq l).map (CN l)).Nodup:=by
   unfold List.Nodup;rw [nS];exact(qf.1 (Lx l)).imp λ{a b} h e=>h.2.2 (JJ (Cp.1 h.1) e)
  refine qQ (kw (E9 _) (by simp)) ?_;have:=CL (m:=uq ((uq l).map (CN l))) d λx c=>Cp.2 c
  simpa using this
 rw [<-g];refine CL (Lx _) λx c=>Cp.2 ?_;obtain⟨y,f,rfl⟩:=em.1 (Cp.1 c);exact em.2 ⟨y,Cp.1 f,rfl⟩
def AT(l:List U):Nat->List Nat
 | 0=>[]
 | k+1=>match l[k]? with
  | none=>AT l k
  | some x=>if x∈uq (l.take k) then AT l k else AT l k++[k]
theorem CB(l:List U):∀k,(AT l k).length=(uq (l.take k)).length
 | 0=>rfl
 | k + 1=>by
  unfold AT
  cases h:l[k]? with
  | none=>rw [gc,h,Option.toList_none,nG];exact CB l k
  | some x=>
   rw [J6 h]
   show (if x∈uq (l.take k) then AT l k else AT l k++[k]).length=_
   split
   ·exact CB l k
   ·simp [CB l k]
theorem DK(l:List U):∀(k i q:Nat),(AT l k)[i]? = some q->q < k/\∃x,l[q]? = some x/\(uq (l.take k))[i]? = some x
 | 0,i,q,h=>by simp [AT] at h
 | k + 1, i,q,h=>by
  unfold AT at h
  cases hk:l[k]? with
  | none=>
   rw [hk] at h;have h:(AT l k)[i]? = some q:=h;obtain⟨e,x,b,a⟩:=DK l k i q h;exact⟨by omega,x,b,by rw [gc,hk,Option.toList_none,nG];exact a⟩
  | some y=>
   rw [hk] at h;have h:(if y∈uq (l.take k) then AT l k else AT l k++[k])[i]? = some q:=h;rw [J6 hk];split at h
   ·rename_i d
    obtain⟨e,x,b,a⟩:=DK l k i q h;exact⟨by omega,x,b,by rw [if_pos d];exact a⟩
   ·rename_i d
    rw [if_neg d]
    rcases nh i (AT l k).length with c|c
    ·rw [d8 c] at h
     obtain⟨e,x,b,a⟩:=DK l k i q h;exact⟨by omega,x,b,by rw [d8 (by rw [<-CB];exact c)];exact a⟩
    ·rw [ge c] at h
     have g:i - (AT l k).length < 1:=(am.1 h).1
     have f:i=(AT l k).length:=by omega
     subst f;simp at h;subst h;exact⟨by omega,y,hk,by rw [CB];simp⟩
end
end Go.Am
namespace Go.Am
open Go Go.Proofs
set_option maxHeartbeats 1000000
set_option maxRecDepth 4000
attribute [local irreducible] AO BS Lex A4 Au Spec
variable {TB:Bi}
def C7{U:Type}(Q:U->Prop)(g:U->E)(x:E)(σ:Ab)(nx:Nat):Prop:=∃r,Q r/\x=g r/\σ=[]/\nx=0
theorem DT(n:Int):Spec Tryz.prog TB 280 [] 0 [eI .i64 n] (C7 (λr:W=>r.length<=6) eT):=by
 have f:(Ac n).length<=6:=AD n 6;refine eR Tryz.func280 rfl (by kernel_rfl) rfl ?_;intro Γ b;(repeat first|refine tA rfl ?_ |refine s2 rfl λ_ a=>?_ |(refine sC rfl (Ez n) ?_;intro _ a) |refine aU rfl ?_ |refine Aa ?_);(refine aC rfl ?_ ?_<;>rintro⟨⟩)
 ·(repeat first|refine tA rfl ?_ |refine aU rfl ?_ |refine Aa ?_)
  refine aR ⟨_,rfl,[],eT [],[],⟨by intro i hi;omega,by decide⟩,rfl,trivial,[],by decide,rfl,rfl,rfl⟩
 refine aK ?_;(repeat first|refine tA rfl ?_ |refine s2 rfl λ_ a=>?_ |refine aU rfl ?_ |refine Aa ?_);(refine aC rfl ?_ ?_<;>rintro⟨⟩)
 ·(repeat first|refine tA rfl ?_ |refine aU rfl ?_ |refine Aa ?_)
  refine aR ⟨_,rfl,[],eT [45],[],⟨by intro i hi;omega,by decide⟩,rfl,trivial,[45],by decide,rfl,rfl,rfl⟩
 refine aK ?_;(repeat first|refine tA rfl ?_ |refine sP rfl (CU n) rfl ?_ |refine aU rfl ?_ |refine Aa ?_);refine aB ?_;refine aL (U:={s:Nat×W // s.1<=(Ac n).length/\s.2.length=s.1}) [4] [] rfl rfl (λs=>[(3,eT s.1.2),(5,eI .i64 s.1.1)]) (λs=>[]) 0 (λs=>(Ac n).length - s.1.1) (⟨⟨0,[]⟩,by simp⟩) b rfl (by (simp[cX,zC,b])) ?_;rintro⟨⟨k,w⟩,hk,hw⟩;(try dsimp only[cA,cB]);have hk:k<=(Ac n).length:=hk;have hw:w.length=k:=hw;(repeat first|refine sN rfl ?_ |refine tA rfl ?_ |refine s2 rfl λ_ a=>?_ |refine aU rfl ?_ |refine Aa ?_)
 ((refine aC rfl ?_ ?_<;>rintro⟨⟩);all_goals try (simp at a;done))
 ·have c:k < (Ac n).length:=by (simp only[oZ] at *;omega)
  obtain⟨l,e⟩:=get_some (l:=Ac n) (k:=k) c;have h:=get_map (g:=Br) e;have d:=Ai (ce e);refine aK ?_;refine aS (aB ?_);(repeat first|(refine sA rfl ?_ ?_;first|exact tI|omega|simp only[oZ] at *;omega) |(refine s4 rfl ‹_› rfl ?_ ?_;omega) |refine sP rfl (Po l d.1 (by omega)) rfl ?_ |refine aU rfl ?_ |refine Aa ?_);refine⟨⟨⟨k+1,w++[UInt8.ofNat (97+l.toNat)]⟩,by dsimp only;omega,by simp;omega⟩,by dsimp only;(omega),[],?_⟩;(simp[cX,zC,b,cN]<;>rfl)
 ·refine aE ?_
  (repeat first|refine tA rfl ?_ |refine aU rfl ?_ |refine Aa ?_);refine aR ⟨_,rfl,[],eT w,[],⟨by intro i hi;omega,by decide⟩,rfl,trivial,w,by show w.length<=6;omega,rfl,rfl,rfl⟩
theorem Gy(s:W):Spec Tryz.prog TB 240 [] 0 [eT s] (C7 (λ_:Int×Bool=>True) (λr=>.t [(false,[.d (iD r.1)]),(false,[.d (bD r.2)])])):=by
 refine eR Tryz.func240 rfl (by kernel_rfl) rfl ?_;intro Γ a;(repeat first|refine tA rfl ?_ |refine aU rfl ?_ |refine Aa ?_);refine aB ?_;refine aL (U:={k:Nat // k<=64}) [0] [] rfl rfl (λs=>[(4,eI .i64 s.1)]) (λs=>[]) 0 (λs=>64 - s.1) (⟨0,by omega⟩) a rfl (by (simp[cX,zC,a])) ?_;rintro⟨k,hk⟩;(try dsimp only[cA,cB]);(repeat first|refine tA rfl ?_ |refine s2 rfl λ_ b=>?_ |refine aU rfl ?_ |refine Aa ?_)
 ((refine aC rfl ?_ ?_<;>rintro⟨⟩);all_goals try (simp at b;done))
 ·have f:k < 64:=by (simp only[oZ] at *;omega)
  refine aK ?_;refine aS (aB ?_);(repeat first|refine tA rfl ?_ |refine aU rfl ?_);(refine pW rfl ?_ rfl (by rfl);refine Ag [] rfl rfl (DT (TB:=TB) (k:Int)) ⟨rfl,by decide,by decide⟩ rfl trivial ?_;rintro g c e ⟨r,h,rfl,rfl,rfl⟩ _);(repeat first|refine tA rfl ?_ |refine s2 rfl λ_ b=>?_ |refine Aa ?_);(refine aC rfl ?_ ?_<;>rintro⟨⟩)
  ·(repeat first|refine tA rfl ?_ |refine aU rfl ?_ |refine Aa ?_)
   refine aR ⟨_,rfl,[],.t [(false,[.d (iD k)]),(false,[.d (bD true)])],[],⟨by intro i hi;omega,by decide⟩,rfl,trivial,(k,true),trivial,rfl,rfl,rfl⟩
  ·refine aK ?_
   (repeat first|(refine sA rfl ?_ ?_;first|exact tI|omega) |refine aU rfl ?_ |refine Aa ?_);refine⟨⟨k+1,by omega⟩,by dsimp only;(omega),[],?_⟩;(simp[cX,zC,a,cN]<;>rfl)
 ·refine aE ?_
  (repeat first|refine tA rfl ?_ |refine aU rfl ?_ |refine Aa ?_);refine aR ⟨_,rfl,[],.t [(false,[.d (iD 0)]),(false,[.d (bD false)])],[],⟨by intro i hi;omega,by decide⟩,rfl,trivial,(0,false),trivial,rfl,rfl,rfl⟩
theorem Kz(a:W)(v:a.length<=1000000)(c:UInt8):Spec Tryz.prog TB 239 [] 0 [eT a,eI .u8 c.toNat] (C7 (λr:List W=>1<=r.length/\r.length<=a.length+1/\∀w∈r,w.length<=a.length) EY):=by
  refine eR Tryz.func239 rfl (by kernel_rfl) rfl ?_;intro Γ b;(repeat first|refine tX rfl ?_ |refine aU rfl ?_ |refine Aa ?_);(refine pW rfl ?_ rfl (by rfl);refine A9 rfl rfl rfl rfl (by simp) (by rfl) (by rfl) (by rfl) (by rfl) ?_);(repeat first|refine tX rfl ?_ |refine aU rfl ?_ |refine Aa ?_);refine aB ?_;refine aL (U:={z:Nat×Nat×List W // z.1<=a.length+1/\z.2.1<=z.1/\z.2.2.length<=z.1/\(z.1=a.length+1->1<=z.2.2.length)/\∀w∈z.2.2,w.length<=a.length}) [0,1] [] rfl rfl (λs=>[(5,.o (.arr 0 1 0 s.1.2.2.length)),(6,eI .i64 s.1.2.1),(7,eI .i64 s.1.1)]) (λs=>[(0,.cells 9 1 (s.1.2.2.map Hx))]) 1 (λs=>a.length+1 - s.1.1) (⟨⟨0,0,[]⟩,by simp⟩) b rfl (by (simp[cX,zC,b])) ?_;rintro⟨⟨k,fr,r⟩,hk,q,g,d,hw⟩;(try dsimp only[cA,cB]);have hk:k<=a.length+1:=hk;have q:fr<=k:=q;have g:r.length<=k:=g;have d:k=a.length+1->1<=r.length:=d;(repeat first|refine tA rfl ?_ |refine s2 rfl λ_ j=>?_ |refine aU rfl ?_ |refine Aa ?_)
  ((refine aC rfl ?_ ?_<;>rintro⟨⟩);all_goals try (simp at j;done))
  · have u:k<=a.length:=by (simp only[oZ] at *;omega)
    refine aK ?_;refine aS (aB ?_)
    have p:k=a.length\/∃e,a[(k:Int).toNat]? = some e:=by
      rcases nh k a.length with h|h
      · obtain⟨e,t⟩:=get_some (l:=a) (k:=(k:Int).toNat) (by omega)
        exact .inr ⟨e,t⟩
      · exact .inl (by omega)
    rcases p with p|⟨e,t⟩
    all_goals (repeat' first|refine tA rfl ?_ |(refine s4 rfl ‹_› rfl ?_ ?_;omega) |refine s2 rfl λ_ j=>?_|(refine Af rfl ?_;refine gA rfl ?_;first| refine gS (λ_ _=>Mh rfl rfl rfl (by simp [Kj]) (by simp [Kj,Kh];omega) (by simp [Kh];omega)) ?_) |refine s3 rfl ?_ ?_<;>rintro rfl |refine aU rfl ?_ |refine Aa ?_|(refine aC rfl ?_ ?_<;>rintro⟨⟩))
    all_goals first
      | (exfalso;(simp only[oZ] at *;omega);done)
      | (refine aK ?_
         (repeat first|(refine sA rfl ?_ ?_;first|exact tI|omega) |refine aU rfl ?_ |refine Aa ?_);refine⟨⟨⟨k+1,fr,r⟩,by dsimp only;omega,by dsimp only;omega,by dsimp only;omega,by dsimp only;intro x;exfalso;(simp only[oZ] at *;omega),hw⟩,by dsimp only;(omega),[0],?_⟩;(simp[cX,zC,b,cN]<;>rfl)
         done)
      | ((refine pW rfl ?_ rfl (by rfl);refine Aj rfl rfl rfl (by first| (simp;done)|(simp;(omega))) rfl (by intro r g;simp at g;subst g;rfl) (by rfl) (co rfl) (by simp;omega) ?_)
         (repeat first|(refine sA rfl ?_ ?_;first|exact tI|omega) |refine aU rfl ?_ |refine Aa ?_)
         have m:∀w∈r++[(a.take k).drop fr],w.length<=a.length:=λw f=>by
           rcases f9.1 f with f|f
           · exact hw w f
           · simp at f;subst f;simp;omega
         refine⟨⟨⟨k+1,k+1,r++[(a.take k).drop fr]⟩,by dsimp only;omega,by dsimp only;omega,by simp;omega,by simp,m⟩,by dsimp only;(omega),[1],?_⟩
         (simp[cX,zC,b,cN,Kj,Kh]<;>rfl))
  · have n:k=a.length+1:=by (simp only[oZ] at *;omega)
    refine aE ?_;(repeat first|refine tA rfl ?_ |refine aU rfl ?_ |refine Aa ?_);refine Au.settle [(4,EY r)] ⟨⟨_,rfl,.o (.full rfl (by simp [d4]) (by simp))⟩,trivial⟩ ?_;refine aR ⟨_,rfl,[],EY r,[],⟨by intro i hi;omega,by decide⟩,rfl,trivial,r,⟨d n,by omega,hw⟩,rfl,rfl,rfl⟩
abbrev YZ(r:Int×Bool):E:=.t [(false,[.d (iD r.1)]),(false,[.d (bD r.2)])]
theorem Zw{z:Int}(h:0<=z/\z < 256):[[D.v (.int .u8 z)]]=[UInt8.ofNat z.toNat].map jt:=by
 have b:z.toNat % 256=z.toNat:=nF (by omega)
 have a:((z.toNat:Nat):Int)=z:=by omega
 simp [jt,b,a]
theorem GK(n:Int)(h:0<=n/\n < 100):Spec Tryz.prog TB 281 [] 0 [eI .i64 n] (C7 (λr:W=>r.length<=3) eT):=by
 refine eR Tryz.func281 rfl (by kernel_rfl) rfl ?_;intro Γ b;(repeat first|refine tA rfl ?_ |refine s2 rfl λ_ a=>?_ |refine aU rfl ?_ |refine Aa ?_)
 ((refine aC rfl ?_ ?_<;>rintro⟨⟩);all_goals try (simp at a;done))
 ·exfalso;(simp only[oZ] at *;omega)
 refine aK ?_;(repeat first|refine tA rfl ?_ |refine s2 rfl λ_ a=>?_ |refine aU rfl ?_ |refine Aa ?_)
 ((refine aC rfl ?_ ?_<;>rintro⟨⟩);all_goals try (simp at a;done))
 ·exfalso;(simp only[oZ] at *;omega)
 refine aK ?_;(repeat first|refine tA rfl ?_ |refine aU rfl ?_ |refine Aa ?_);refine aB ?_;refine aL (U:={s:Int×W // (0<=s.1/\s.1 < 100)/\s.2.length<=2/\(9 < s.1->s.2.length<=1)}) [] [] rfl rfl (λs=>[(0,eI .i64 s.1.1),(3,eT s.1.2)]) (λs=>[]) 0 (λs=>s.1.1.toNat) (⟨⟨n,[]⟩,by simp;omega⟩) b rfl (by (simp[cX,zC,b])) ?_;rintro⟨⟨q,w⟩,e,hw,c⟩;(try dsimp only[cA,cB]);have e:0<=q/\q < 100:=e;have hw:w.length<=2:=hw;have c:9 < q->w.length<=1:=c;(repeat first|refine tA rfl ?_ |refine s2 rfl λ_ a=>?_ |refine aU rfl ?_ |refine Aa ?_)
 ((refine aC rfl ?_ ?_<;>rintro⟨⟩);all_goals try (simp at a;done))
 ·have d:9 < q:=by (simp only[oZ] at *;omega)
  have f:=c d;refine aK ?_;refine aB ?_;(repeat first|(refine sA rfl ?_ ?_;first|exact tI|omega|simp only[oZ] at *;omega)|(refine Af rfl ?_;refine gA rfl ?_;first| refine gS (λ_ _=>Rq _ rfl (Zw (by omega))) ?_) |refine aU rfl ?_ |refine Aa ?_);refine⟨⟨⟨q / 10,[UInt8.ofNat (48+q % 10).toNat]++w⟩,⟨by dsimp only;omega,by dsimp only;omega⟩,by simp;omega,λg=>by exfalso;dsimp only at g;omega⟩,by dsimp only;(omega),[],?_⟩;(simp[cX,zC,b,cN]<;>rfl)
 ·refine aE ?_
  (repeat first|(refine sA rfl ?_ ?_;first|exact tI|omega|simp only[oZ] at *;omega)|(refine Af rfl ?_;refine gA rfl ?_;first| refine gS (λ_ _=>Rq _ rfl (Zw (by omega))) ?_) |refine aU rfl ?_ |refine Aa ?_);refine aR ⟨_,rfl,[],eT ([UInt8.ofNat (48+q).toNat]++w),[],⟨by intro i hi;omega,by decide⟩,rfl,trivial,[UInt8.ofNat (48+q).toNat]++w,by simp;omega,rfl,rfl,rfl⟩
theorem JY(k:Nat)(hk:k < 17):(10 ^ (k+1):Nat)=10 ^ k*10/\(10 ^ k:Nat)<=100000000000000000:=⟨pQ ..,kw (nY (by omega) (qE hk)) (by decide)⟩
theorem Ip(s0:W)(z:s0.length<=1000000):Spec Tryz.prog TB 241 [] 0 [eT s0] (C7 (λ_:Int×Bool=>True) YZ):=by
  by_cases y:s0.length=0
  · refine eR Tryz.func241 rfl (by kernel_rfl) rfl ?_;intro Γ a
    (repeat' first|refine tA rfl ?_ |refine s2 rfl λ_ b=>?_|(refine Af rfl ?_;refine gA rfl ?_;first| refine gS (λ_ _=>Ee rfl rfl (by omega) (by omega)) ?_) |refine s3 rfl ?_ ?_<;>rintro rfl |refine aU rfl ?_ |refine Aa ?_|(refine aC rfl ?_ ?_<;>rintro⟨⟩)|refine aK ?_)
    all_goals first
      | (exfalso;(simp only[oZ] at *;omega);done)
      | refine aR ⟨_,rfl,[],YZ (0,false),[],⟨by intro i hi;omega,by decide⟩,rfl,trivial,(0,false),trivial,rfl,rfl,rfl⟩
  obtain⟨c,A⟩:=get_some (l:=s0) (k:=(0:Int).toNat) (by simp;omega);have w:1 < s0.length->∃d,(s0.drop (Int.toNat 1))[(0:Int).toNat]? = some d:=λh=>get_some (by simp;omega);have o:∀m:Nat,(s0.drop m).length=s0.length - m:=λm=>qH;by_cases x:s0.length=1
  · refine eR Tryz.func241 rfl (by kernel_rfl) rfl ?_;intro Γ a
    (repeat' first|refine tA rfl ?_ |(refine s4 rfl ‹_› rfl ?_ ?_;omega) |refine s2 rfl λ_ b=>?_|(refine Af rfl ?_;refine gA rfl ?_;first| refine gS (λ_ _=>Ee rfl rfl (by omega) (by omega)) ?_) |refine s3 rfl ?_ ?_<;>rintro rfl |refine aU rfl ?_ |refine Aa ?_|(refine aC rfl ?_ ?_<;>rintro⟨⟩)|refine aK ?_)
    all_goals first
      | (exfalso;(simp only[oZ] at *;omega);done)
      | refine aR ⟨_,rfl,[],YZ (0,false),[],⟨by intro i hi;omega,by decide⟩,rfl,trivial,(0,false),trivial,rfl,rfl,rfl⟩
      | (exfalso;simp only [oZ,o] at *;omega)
      | skip
    · have g:(s0).length<=17:=by omega
      refine aB ?_;refine aL (U:={s:Nat×Int // s.1<=(s0).length/\0<=s.2/\s.2 < ((10 ^ s.1:Nat):Int)}) [0,4] [] rfl rfl (λs=>[(5,eI .i64 s.1.2),(6,eI .i64 s.1.1)]) (λs=>[]) 0 (λs=>(s0).length - s.1.1) (⟨⟨0,0⟩,by simp⟩) a rfl (by (simp[cX,zC,a])) ?_;rintro⟨⟨k,n⟩,hk,f,j⟩;(try dsimp only[cA,cB]);have hk:k<=(s0).length:=hk;have f:0<=n:=f;have j:n < ((10 ^ k:Nat):Int):=j;(repeat first|refine tA rfl ?_ |refine s2 rfl λ_ b=>?_ |refine aU rfl ?_ |refine Aa ?_)
      ((refine aC rfl ?_ ?_<;>rintro⟨⟩);all_goals try (simp at b;done))
      · have q:k < (s0).length:=by (simp only[oZ] at *;omega)
        obtain⟨e,u⟩:=get_some (l:=s0) (k:=(k:Int).toNat) (by omega);have r:=e.toNat_lt;obtain⟨p,t⟩:=JY k (by omega);refine aK ?_;refine aS (aB ?_);(repeat' first|(refine sA rfl ?_ ?_;first|exact tI|omega|simp only[oZ] at *;omega) |(refine s4 rfl ‹_› rfl ?_ ?_;omega) |refine s2 rfl λ_ b=>?_|(refine Af rfl ?_;refine gA rfl ?_;first| refine gS (λ_ _=>Ee rfl rfl (by omega) (by omega)) ?_) |refine s3 rfl ?_ ?_<;>rintro rfl |refine aU rfl ?_ |refine Aa ?_|(refine aC rfl ?_ ?_<;>rintro⟨⟩)|refine aK ?_)
        all_goals first
          | (exfalso;omega;done)
          | refine aR ⟨_,rfl,[],YZ (0,false),[],⟨by intro i hi;omega,by decide⟩,rfl,trivial,(0,false),trivial,rfl,rfl,rfl⟩
          | (refine⟨⟨⟨k+1,n*10+((e.toNat:Int) - 48)⟩,by dsimp only;omega,by dsimp only;(simp only[oZ] at *;omega),by dsimp only;rw [p];(simp only[oZ] at *;omega)⟩,by dsimp only;(omega),[],?_⟩
             (simp[cX,zC,a,cN]<;>rfl))
      · refine aE ?_
        have v:(10 ^ k:Nat)<=100000000000000000:=kw (nY (by omega) (kw hk g)) (by decide);(repeat' first|refine tA rfl ?_|(refine Af rfl ?_;refine gA rfl ?_;first| refine gS (λ_ _=>Tb rfl (IntWalk.i64_in _ (by omega))) ?_) |refine aU rfl ?_ |refine Aa ?_|(refine aC rfl ?_ ?_<;>rintro⟨⟩)|refine aK ?_);exact aR ⟨_,rfl,[],YZ (n,true),[],⟨λi hi=>absurd hi (mt i),mV⟩,rfl,trivial,(n,true),trivial,rfl,rfl,rfl⟩
    · have g:(s0).length<=17:=by omega
      refine aB ?_;refine aL (U:={s:Nat×Int // s.1<=(s0).length/\0<=s.2/\s.2 < ((10 ^ s.1:Nat):Int)}) [0,4] [] rfl rfl (λs=>[(5,eI .i64 s.1.2),(6,eI .i64 s.1.1)]) (λs=>[]) 0 (λs=>(s0).length - s.1.1) (⟨⟨0,0⟩,by simp⟩) a rfl (by (simp[cX,zC,a])) ?_;rintro⟨⟨k,n⟩,hk,f,j⟩;(try dsimp only[cA,cB]);have hk:k<=(s0).length:=hk;have f:0<=n:=f;have j:n < ((10 ^ k:Nat):Int):=j;(repeat first|refine tA rfl ?_ |refine s2 rfl λ_ b=>?_ |refine aU rfl ?_ |refine Aa ?_)
      ((refine aC rfl ?_ ?_<;>rintro⟨⟩);all_goals try (simp at b;done))
      · have q:k < (s0).length:=by (simp only[oZ] at *;omega)
        obtain⟨e,u⟩:=get_some (l:=s0) (k:=(k:Int).toNat) (by omega);have r:=e.toNat_lt;obtain⟨p,t⟩:=JY k (by omega);refine aK ?_;refine aS (aB ?_);(repeat' first|(refine sA rfl ?_ ?_;first|exact tI|omega|simp only[oZ] at *;omega) |(refine s4 rfl ‹_› rfl ?_ ?_;omega) |refine s2 rfl λ_ b=>?_|(refine Af rfl ?_;refine gA rfl ?_;first| refine gS (λ_ _=>Ee rfl rfl (by omega) (by omega)) ?_) |refine s3 rfl ?_ ?_<;>rintro rfl |refine aU rfl ?_ |refine Aa ?_|(refine aC rfl ?_ ?_<;>rintro⟨⟩)|refine aK ?_)
        all_goals first
          | (exfalso;omega;done)
          | refine aR ⟨_,rfl,[],YZ (0,false),[],⟨by intro i hi;omega,by decide⟩,rfl,trivial,(0,false),trivial,rfl,rfl,rfl⟩
          | (refine⟨⟨⟨k+1,n*10+((e.toNat:Int) - 48)⟩,by dsimp only;omega,by dsimp only;(simp only[oZ] at *;omega),by dsimp only;rw [p];(simp only[oZ] at *;omega)⟩,by dsimp only;(omega),[],?_⟩
             (simp[cX,zC,a,cN]<;>rfl))
      · refine aE ?_
        have v:(10 ^ k:Nat)<=100000000000000000:=kw (nY (by omega) (kw hk g)) (by decide);(repeat' first|refine tA rfl ?_|(refine Af rfl ?_;refine gA rfl ?_;first| refine gS (λ_ _=>Tb rfl (IntWalk.i64_in _ (by omega))) ?_) |refine aU rfl ?_ |refine Aa ?_|(refine aC rfl ?_ ?_<;>rintro⟨⟩)|refine aK ?_);exact aR ⟨_,rfl,[],YZ (n,true),[],⟨λi hi=>absurd hi (mt i),mV⟩,rfl,trivial,(n,true),trivial,rfl,rfl,rfl⟩
  obtain⟨d,w⟩:=w (by omega);refine eR Tryz.func241 rfl (by kernel_rfl) rfl ?_;intro Γ a;(repeat' first|refine tA rfl ?_ |(refine s4 rfl ‹_› rfl ?_ ?_;omega) |refine s2 rfl λ_ b=>?_|(refine Af rfl ?_;refine gA rfl ?_;first| refine gS (λ_ _=>Ee rfl rfl (by omega) (by omega)) ?_) |refine s3 rfl ?_ ?_<;>rintro rfl |refine aU rfl ?_ |refine Aa ?_|(refine aC rfl ?_ ?_<;>rintro⟨⟩)|refine aK ?_)
  all_goals first
    | (exfalso;(simp only[oZ] at *;omega);done)
    | refine aR ⟨_,rfl,[],YZ (0,false),[],⟨by intro i hi;omega,by decide⟩,rfl,trivial,(0,false),trivial,rfl,rfl,rfl⟩
    | (exfalso;simp only [oZ,o] at *;omega)
    | skip
  · have g:(List.drop (Int.toNat 1) s0).length<=17:=by (simp only[oZ] at *;omega)
    refine aB ?_;refine aL (U:={s:Nat×Int // s.1<=(List.drop (Int.toNat 1) s0).length/\0<=s.2/\s.2 < ((10 ^ s.1:Nat):Int)}) [0,4] [] rfl rfl (λs=>[(5,eI .i64 s.1.2),(6,eI .i64 s.1.1)]) (λs=>[]) 0 (λs=>(List.drop (Int.toNat 1) s0).length - s.1.1) (⟨⟨0,0⟩,by simp⟩) a rfl (by (simp[cX,zC,a])) ?_;rintro⟨⟨k,n⟩,hk,f,j⟩;(try dsimp only[cA,cB]);have hk:k<=(List.drop (Int.toNat 1) s0).length:=hk;have f:0<=n:=f;have j:n < ((10 ^ k:Nat):Int):=j;(repeat first|refine tA rfl ?_ |refine s2 rfl λ_ b=>?_ |refine aU rfl ?_ |refine Aa ?_)
    ((refine aC rfl ?_ ?_<;>rintro⟨⟩);all_goals try (simp at b;done))
    · have q:k < (List.drop (Int.toNat 1) s0).length:=by (simp only[oZ] at *;omega)
      obtain⟨e,u⟩:=get_some (l:=List.drop (Int.toNat 1) s0) (k:=(k:Int).toNat) (by omega);have r:=e.toNat_lt;obtain⟨p,t⟩:=JY k (by omega);refine aK ?_;refine aS (aB ?_);(repeat' first|(refine sA rfl ?_ ?_;first|exact tI|omega|simp only[oZ] at *;omega) |(refine s4 rfl ‹_› rfl ?_ ?_;omega) |refine s2 rfl λ_ b=>?_|(refine Af rfl ?_;refine gA rfl ?_;first| refine gS (λ_ _=>Ee rfl rfl (by omega) (by omega)) ?_) |refine s3 rfl ?_ ?_<;>rintro rfl |refine aU rfl ?_ |refine Aa ?_|(refine aC rfl ?_ ?_<;>rintro⟨⟩)|refine aK ?_)
      all_goals first
        | (exfalso;omega;done)
        | refine aR ⟨_,rfl,[],YZ (0,false),[],⟨by intro i hi;omega,by decide⟩,rfl,trivial,(0,false),trivial,rfl,rfl,rfl⟩
        | (refine⟨⟨⟨k+1,n*10+((e.toNat:Int) - 48)⟩,by dsimp only;omega,by dsimp only;(simp only[oZ] at *;omega),by dsimp only;rw [p];(simp only[oZ] at *;omega)⟩,by dsimp only;(omega),[],?_⟩
           (simp[cX,zC,a,cN]<;>rfl))
    · refine aE ?_
      have v:(10 ^ k:Nat)<=100000000000000000:=kw (nY (by omega) (kw hk g)) (by decide);(repeat' first|refine tA rfl ?_|(refine Af rfl ?_;refine gA rfl ?_;first| refine gS (λ_ _=>Tb rfl (IntWalk.i64_in _ (by omega))) ?_) |refine aU rfl ?_ |refine Aa ?_|(refine aC rfl ?_ ?_<;>rintro⟨⟩)|refine aK ?_);exact aR ⟨_,rfl,[],YZ (-n,true),[],⟨λi hi=>absurd hi (mt i),mV⟩,rfl,trivial,(-n,true),trivial,rfl,rfl,rfl⟩
  · have g:(s0).length<=17:=by (simp only[oZ] at *;omega)
    refine aB ?_;refine aL (U:={s:Nat×Int // s.1<=(s0).length/\0<=s.2/\s.2 < ((10 ^ s.1:Nat):Int)}) [0,4] [] rfl rfl (λs=>[(5,eI .i64 s.1.2),(6,eI .i64 s.1.1)]) (λs=>[]) 0 (λs=>(s0).length - s.1.1) (⟨⟨0,0⟩,by simp⟩) a rfl (by (simp[cX,zC,a])) ?_;rintro⟨⟨k,n⟩,hk,f,j⟩;(try dsimp only[cA,cB]);have hk:k<=(s0).length:=hk;have f:0<=n:=f;have j:n < ((10 ^ k:Nat):Int):=j;(repeat first|refine tA rfl ?_ |refine s2 rfl λ_ b=>?_ |refine aU rfl ?_ |refine Aa ?_)
    ((refine aC rfl ?_ ?_<;>rintro⟨⟩);all_goals try (simp at b;done))
    · have q:k < (s0).length:=by (simp only[oZ] at *;omega)
      obtain⟨e,u⟩:=get_some (l:=s0) (k:=(k:Int).toNat) (by omega);have r:=e.toNat_lt;obtain⟨p,t⟩:=JY k (by omega);refine aK ?_;refine aS (aB ?_);(repeat' first|(refine sA rfl ?_ ?_;first|exact tI|omega|simp only[oZ] at *;omega) |(refine s4 rfl ‹_› rfl ?_ ?_;omega) |refine s2 rfl λ_ b=>?_|(refine Af rfl ?_;refine gA rfl ?_;first| refine gS (λ_ _=>Ee rfl rfl (by omega) (by omega)) ?_) |refine s3 rfl ?_ ?_<;>rintro rfl |refine aU rfl ?_ |refine Aa ?_|(refine aC rfl ?_ ?_<;>rintro⟨⟩)|refine aK ?_)
      all_goals first
        | (exfalso;omega;done)
        | refine aR ⟨_,rfl,[],YZ (0,false),[],⟨by intro i hi;omega,by decide⟩,rfl,trivial,(0,false),trivial,rfl,rfl,rfl⟩
        | (refine⟨⟨⟨k+1,n*10+((e.toNat:Int) - 48)⟩,by dsimp only;omega,by dsimp only;(simp only[oZ] at *;omega),by dsimp only;rw [p];(simp only[oZ] at *;omega)⟩,by dsimp only;(omega),[],?_⟩
           (simp[cX,zC,a,cN]<;>rfl))
    · refine aE ?_
      have v:(10 ^ k:Nat)<=100000000000000000:=kw (nY (by omega) (kw hk g)) (by decide);(repeat' first|refine tA rfl ?_|(refine Af rfl ?_;refine gA rfl ?_;first| refine gS (λ_ _=>Tb rfl (IntWalk.i64_in _ (by omega))) ?_) |refine aU rfl ?_ |refine Aa ?_|(refine aC rfl ?_ ?_<;>rintro⟨⟩)|refine aK ?_);exact aR ⟨_,rfl,[],YZ (n,true),[],⟨λi hi=>absurd hi (mt i),mV⟩,rfl,trivial,(n,true),trivial,rfl,rfl,rfl⟩
abbrev kV(r:List Int×Bool):E:=.t [(false,[.d (Da r.1)]),(false,[.d (bD r.2)])]
theorem Us(e:W)(u:e.length<=1000000):Spec Tryz.prog TB 244 [] 0 [eT e] (C7 (λr:List Int×Bool=>r.1.length<=e.length+1) kV):=by
 refine eR Tryz.func244 rfl (by kernel_rfl) rfl ?_;intro Γ a;(repeat first|refine tX rfl ?_ |refine aU rfl ?_ |refine Aa ?_);(refine pW rfl ?_ rfl (by rfl);refine A9 rfl rfl rfl rfl (by simp) (by rfl) (by rfl) (by rfl) (by rfl) ?_);(repeat first|refine tX rfl ?_ |refine s2 rfl λ_ b=>?_ |refine aU rfl ?_ |refine Aa ?_);(refine aC rfl ?_ ?_<;>rintro⟨⟩)
 ·(repeat first|refine tX rfl ?_ |refine aU rfl ?_ |refine Aa ?_)
  refine Au.settle [(2,AH []),(3,eB true)] ⟨⟨_,rfl,.o (.full rfl (by simp) (by simp))⟩,⟨_,rfl,.o .d⟩,trivial⟩ ?_;exact aR ⟨_,rfl,[],kV ([],true),[],⟨λi hi=>absurd hi (mt i),mV⟩,rfl,trivial,([],true),nK _,rfl,rfl,rfl⟩
 refine aK ?_;(repeat first|refine tA rfl ?_ |refine aU rfl ?_);(refine pW rfl ?_ rfl (by rfl);refine Ag [] rfl rfl (Kz (TB:=TB) e u 44) ⟨rfl,by decide,by decide⟩ rfl trivial ?_;rintro p f h ⟨ps,⟨x,v,j⟩,rfl,rfl,rfl⟩ _);(repeat first|refine tA rfl ?_ |refine aU rfl ?_ |refine Aa ?_);refine aB ?_;refine aL (U:={z:Nat×List Int // z.1<=ps.length/\z.2.length=z.1}) [5] [] rfl rfl (λs=>[(4,.o (.arr 0 1 0 s.1.2.length)),(6,eI .i64 s.1.1)]) (λs=>[(0,.cells 3 1 (s.1.2.map Az))]) 1 (λs=>ps.length - s.1.1) (⟨⟨0,[]⟩,by simp⟩) a rfl (by (simp[cX,zC,a])) ?_;rintro⟨⟨k,r⟩,hk,c⟩;(try dsimp only[cA,cB]);have hk:k<=ps.length:=hk;have c:r.length=k:=c;(repeat first|refine sN rfl ?_ |refine tA rfl ?_ |refine s2 rfl λ_ b=>?_ |refine aU rfl ?_ |refine Aa ?_)
 ((refine aC rfl ?_ ?_<;>rintro⟨⟩);all_goals try (simp at b;done))
 ·have m:k < ps.length:=by (simp only[oZ] at *;omega)
  obtain⟨w,hw⟩:=get_some (l:=ps) (k:=k) m;have t:=get_map (g:=DQ) hw;have q:=j w (ce hw);refine aK ?_;refine aS (aB ?_);(repeat first|refine tA rfl ?_ |(refine s4 rfl ‹_› rfl ?_ ?_;omega) |refine aU rfl ?_);(refine pW rfl ?_ rfl (by rfl);refine Ag [] rfl rfl (Ip (TB:=TB) w (by omega)) ⟨rfl,by decide,by decide⟩ rfl trivial ?_;rintro p f h ⟨⟨n,ok⟩,_,rfl,rfl,rfl⟩ _);(repeat first|refine tA rfl ?_ |refine s2 rfl λ_ b=>?_ |refine aU rfl ?_ |refine Aa ?_);(refine aC rfl ?_ ?_<;>rintro⟨⟩)
  ·(repeat first|refine tA rfl ?_ |refine aU rfl ?_ |refine Aa ?_)
   exact aR ⟨_,rfl,[],kV ([],false),[],⟨λi hi=>absurd hi (mt i),mV⟩,rfl,trivial,([],false),nK _,rfl,rfl,rfl⟩
  refine aK ?_;(repeat first|refine tA rfl ?_ |refine aU rfl ?_);(refine pW rfl ?_ rfl (by rfl);refine Aj rfl rfl rfl (by first| (simp;done)|(simp;(omega))) rfl (by intro r c;simp at c;subst c;rfl) (by rfl) (co rfl) (by simp;omega) ?_);(repeat first|(refine sA rfl ?_ ?_;first|exact tI|omega) |refine aU rfl ?_ |refine Aa ?_);refine⟨⟨⟨k+1,r++[n]⟩,by dsimp only;omega,by simp;omega⟩,by dsimp only;(omega),[1],?_⟩;(simp[cX,zC,a,cN]<;>rfl)
 ·refine aE ?_
  (repeat first|refine tA rfl ?_ |refine aU rfl ?_ |refine Aa ?_);refine Au.settle [(2,AH r),(3,eB true)] ⟨⟨_,rfl,.o (.full rfl (by simp [d4]) (by simp))⟩,⟨_,rfl,.o .d⟩,trivial⟩ ?_;exact aR ⟨_,rfl,[],kV (r,true),[],⟨λi hi=>absurd hi (mt i),mV⟩,rfl,trivial,(r,true),by show r.length<=_;omega,rfl,rfl,rfl⟩
theorem Fp(a:AK):Spec Tryz.prog TB 245 [] 0 [Bm a] (C7 (λr:W=>r.length<=1000) eT):=by
 refine eR Tryz.func245 rfl (by kernel_rfl) rfl ?_;intro Γ c;(repeat first|refine tA rfl ?_ |refine s2 rfl λ_ e=>?_ |(refine sC rfl (C5 a) ?_;intro _ e) |refine aU rfl ?_ |refine Aa ?_);(refine aC rfl ?_ ?_<;>rintro⟨⟩)
 ·(repeat first|refine tA rfl ?_ |refine aU rfl ?_ |refine Aa ?_)
  exact aR ⟨_,rfl,[],eT [],[],⟨λi hi=>absurd hi (mt i),mV⟩,rfl,trivial,[],nK _,rfl,rfl,rfl⟩
 have u:AI a=true:=by (simp at e;subst e;assumption)
 obtain⟨_,N,M,R⟩:=Al u;have P:(Ac a.al).length<=6:=AD a.al 6;refine aK ?_;(repeat first|refine tA rfl ?_ |refine aU rfl ?_);(refine pW rfl ?_ rfl (by rfl);refine Ag [] rfl rfl (DT (TB:=TB) a.al) ⟨rfl,by decide,by decide⟩ rfl trivial ?_;rintro A h m ⟨J,K,rfl,rfl,rfl⟩ _);(repeat first|refine tA rfl ?_ |refine aU rfl ?_ |refine Aa ?_);refine aB ?_;refine aL (U:={z:Nat×W // z.1<=a.nx.length/\z.2.length<=6+30*z.1}) [1] [] rfl rfl (λs=>[(3,eT s.1.2),(4,eI .i64 s.1.1)]) (λs=>[]) 0 (λs=>a.nx.length - s.1.1) (⟨⟨0,J⟩,by simp;omega⟩) c rfl (by (simp[cX,zC,c])) ?_;rintro⟨⟨k,w⟩,hk,hw⟩;(try dsimp only[cA,cB]);have hk:k<=a.nx.length:=hk;have hw:w.length<=6+30*k:=hw;(repeat first|refine sN rfl ?_ |refine tA rfl ?_ |refine s2 rfl λ_ e=>?_ |refine aU rfl ?_ |refine Aa ?_)
 ((refine aC rfl ?_ ?_<;>rintro⟨⟩);all_goals try (simp at e;done))
 ·have H:k < a.nx.length:=by (simp only[oZ] at *;omega)
  obtain⟨row,t,L,q⟩:=Ii u H;have G:=get_map (g:=λr:List Int=>[Da r]) t;obtain⟨b,hb⟩:=get_some (l:=a.ac) (k:=k) (by omega);have Q:=get_map (g:=Gk) hb;refine aK ?_;refine aS (aB ?_);(repeat first|refine tA rfl ?_ |(refine s4 rfl ‹_› rfl ?_ ?_;omega) |refine aU rfl ?_ |refine Aa ?_);(refine aC rfl ?_ ?_<;>rintro⟨⟩)
  ·(repeat first|(refine sA rfl ?_ ?_;first|exact tI|simp only[oZ] at *;omega) |refine aU rfl ?_ |refine Aa ?_)
   refine aB ?_;refine aL (U:={z:Nat×W // z.1<=row.length/\z.2.length<=8+30*k+4*z.1}) [1,4] [] rfl rfl (λs=>[(3,eT s.1.2),(6,eI .i64 s.1.1)]) (λs=>[]) 0 (λs=>row.length - s.1.1) (⟨⟨0,w++[32,43]⟩,by dsimp only;omega,by simp;omega⟩) c rfl (by (simp[cX,zC,c])) ?_;rintro⟨⟨j,v⟩,y,p⟩;(try dsimp only[cA,cB]);have y:j<=row.length:=y;have p:v.length<=8+30*k+4*j:=p;(repeat first|refine sN rfl ?_ |refine tA rfl ?_ |(refine s4 rfl ‹_› rfl ?_ ?_;omega) |refine s2 rfl λ_ e=>?_ |refine aU rfl ?_ |refine Aa ?_)
   ((refine aC rfl ?_ ?_<;>rintro⟨⟩);all_goals try (simp at e;done))
   ·have n:j < row.length:=by (simp only[oZ] at *;omega)
    obtain⟨x,o⟩:=get_some (l:=row) (k:=j) n;have F:=get_map (g:=Br) o;have B:=q j x o;have f:=GK (TB:=TB) x (by omega);refine aK ?_;refine aS (aB ?_);(repeat first|refine tA rfl ?_ |refine s2 rfl λ_ e=>?_ |refine aU rfl ?_ |refine Aa ?_);(refine aC rfl ?_ ?_<;>rintro⟨⟩)
    ·(repeat first|(refine sA rfl ?_ ?_;first|exact tI|simp only[oZ] at *;omega) |(refine s4 rfl ‹_› rfl ?_ ?_;omega) |refine aU rfl ?_ |refine Aa ?_)
     (refine pW rfl ?_ rfl (by rfl);refine Ag [] rfl rfl (f) ⟨rfl,by decide,by decide⟩ rfl trivial ?_;rintro A h m ⟨d,I,rfl,rfl,rfl⟩ _);(repeat first|(refine sA rfl ?_ ?_;first|exact tI|omega|simp only[oZ] at *;omega) |refine aU rfl ?_ |refine Aa ?_);refine⟨⟨⟨j+1,v++[44]++d⟩,by dsimp only;omega,by simp;omega⟩,by dsimp only;(omega),[],?_⟩;(simp[cX,zC,c,cN]<;>rfl)
    ·refine aK ?_
     (repeat first|refine tA rfl ?_ |(refine s4 rfl ‹_› rfl ?_ ?_;omega) |refine aU rfl ?_);(refine pW rfl ?_ rfl (by rfl);refine Ag [] rfl rfl (f) ⟨rfl,by decide,by decide⟩ rfl trivial ?_;rintro A h m ⟨d,I,rfl,rfl,rfl⟩ _);(repeat first|(refine sA rfl ?_ ?_;first|exact tI|omega) |refine aU rfl ?_ |refine Aa ?_);refine⟨⟨⟨j+1,v++d⟩,by dsimp only;omega,by simp;omega⟩,by dsimp only;(omega),[],?_⟩;(simp[cX,zC,c,cN]<;>rfl)
   ·refine aE ?_
    (repeat first|(refine sA rfl ?_ ?_;first|exact tI|omega) |refine aU rfl ?_ |refine Aa ?_);refine⟨⟨⟨k+1,v⟩,by dsimp only;omega,by dsimp only;omega⟩,by dsimp only;(omega),[],?_⟩;(simp[cX,zC,c,cN]<;>rfl)
  ·refine aK ?_
   (repeat first|(refine sA rfl ?_ ?_;first|exact tI|simp only[oZ] at *;omega) |refine aU rfl ?_ |refine Aa ?_);refine aB ?_;refine aL (U:={z:Nat×W // z.1<=row.length/\z.2.length<=8+30*k+4*z.1}) [1,4] [] rfl rfl (λs=>[(3,eT s.1.2),(6,eI .i64 s.1.1)]) (λs=>[]) 0 (λs=>row.length - s.1.1) (⟨⟨0,w++[32,45]⟩,by dsimp only;omega,by simp;omega⟩) c rfl (by (simp[cX,zC,c])) ?_;rintro⟨⟨j,v⟩,y,p⟩;(try dsimp only[cA,cB]);have y:j<=row.length:=y;have p:v.length<=8+30*k+4*j:=p;(repeat first|refine sN rfl ?_ |refine tA rfl ?_ |(refine s4 rfl ‹_› rfl ?_ ?_;omega) |refine s2 rfl λ_ e=>?_ |refine aU rfl ?_ |refine Aa ?_)
   ((refine aC rfl ?_ ?_<;>rintro⟨⟩);all_goals try (simp at e;done))
   ·have n:j < row.length:=by (simp only[oZ] at *;omega)
    obtain⟨x,o⟩:=get_some (l:=row) (k:=j) n;have F:=get_map (g:=Br) o;have B:=q j x o;have f:=GK (TB:=TB) x (by omega);refine aK ?_;refine aS (aB ?_);(repeat first|refine tA rfl ?_ |refine s2 rfl λ_ e=>?_ |refine aU rfl ?_ |refine Aa ?_);(refine aC rfl ?_ ?_<;>rintro⟨⟩)
    ·(repeat first|(refine sA rfl ?_ ?_;first|exact tI|simp only[oZ] at *;omega) |(refine s4 rfl ‹_› rfl ?_ ?_;omega) |refine aU rfl ?_ |refine Aa ?_)
     (refine pW rfl ?_ rfl (by rfl);refine Ag [] rfl rfl (f) ⟨rfl,by decide,by decide⟩ rfl trivial ?_;rintro A h m ⟨d,I,rfl,rfl,rfl⟩ _);(repeat first|(refine sA rfl ?_ ?_;first|exact tI|omega|simp only[oZ] at *;omega) |refine aU rfl ?_ |refine Aa ?_);refine⟨⟨⟨j+1,v++[44]++d⟩,by dsimp only;omega,by simp;omega⟩,by dsimp only;(omega),[],?_⟩;(simp[cX,zC,c,cN]<;>rfl)
    ·refine aK ?_
     (repeat first|refine tA rfl ?_ |(refine s4 rfl ‹_› rfl ?_ ?_;omega) |refine aU rfl ?_);(refine pW rfl ?_ rfl (by rfl);refine Ag [] rfl rfl (f) ⟨rfl,by decide,by decide⟩ rfl trivial ?_;rintro A h m ⟨d,I,rfl,rfl,rfl⟩ _);(repeat first|(refine sA rfl ?_ ?_;first|exact tI|omega) |refine aU rfl ?_ |refine Aa ?_);refine⟨⟨⟨j+1,v++d⟩,by dsimp only;omega,by simp;omega⟩,by dsimp only;(omega),[],?_⟩;(simp[cX,zC,c,cN]<;>rfl)
   ·refine aE ?_
    (repeat first|(refine sA rfl ?_ ?_;first|exact tI|omega) |refine aU rfl ?_ |refine Aa ?_);refine⟨⟨⟨k+1,v⟩,by dsimp only;omega,by dsimp only;omega⟩,by dsimp only;(omega),[],?_⟩;(simp[cX,zC,c,cN]<;>rfl)
 ·refine aE ?_
  (repeat first|refine tA rfl ?_ |refine aU rfl ?_ |refine Aa ?_);exact aR ⟨_,rfl,[],eT w,[],⟨λi hi=>absurd hi (mt i),mV⟩,rfl,trivial,w,by show w.length<=_;omega,rfl,rfl,rfl⟩
end Go.Am
namespace Go.Am
set_option linter.unusedVariables false
section
variable {U:Type}[DecidableEq U]
def EF(nd:List U):Option U->Int
 | none=>1
 | some x=>if nd.idxOf x=0 then 0 else ((nd.idxOf x+1:Nat):Int)
def EE(nd:List U):Option U->List U
 | none=>nd
 | some x=>if x∈nd then nd else nd++[x]
def HY(f:U->Int->Option U)(q:U):List U->List Int->List Int->List U×List Int
 | nd,row,[]=>(nd,row)
 | nd,row,l::ls=>HY f q (EE nd (f q l)) (row++[EF (EE nd (f q l)) (f q l)]) ls
def GC(lim:Nat)(f:U->Int->Option U)(ls:List Int):Nat->List U->List (List Int)->Option (List U×List (List Int))
 | 0,nd,rows=>some (nd,rows)
 | k+1,nd,rows=>match nd[rows.length]? with
  | none=>some (nd,rows)
  | some q=>if lim < (HY f q nd [] ls).1.length then none else GC lim f ls k (HY f q nd [] ls).1 (rows++[(HY f q nd [] ls).2])
theorem ZE{nd:List U}{y:U}{o:Option U}(h:∀x,o=some x->x∈nd):EF (nd++[y]) o=EF nd o:=by
 cases o with
 | none=>rfl
 | some x=>simp only [EF];rw [nL,if_pos (h x rfl)]
theorem Mz{nd:List U}{o:Option U}:(∀x,o=some x->x∈EE nd o)/\(∀x∈nd,x∈EE nd o):=by
 cases o with
 | none=>exact⟨λ_ h=>(by cases h),λ_ h=>h⟩
 | some x=>
  simp only [EE];split
  ·rename_i a;exact⟨λ_ h=>(by injection h with h;subst h;exact a),λ_ h=>h⟩
  ·exact⟨λ_ h=>(by injection h with h;subst h;simp),λ_ h=>m9 _ h⟩
theorem OV{nd:List U}{o o':Option U}(h:∀x,o'=some x->x∈nd):EF (EE nd o) o'=EF nd o':=by
 cases o with
 | none=>rfl
 | some x=>
  simp only [EE];split
  ·rfl
  ·exact ZE h
theorem Zh{nd:List U}{o:Option U}(h:nd.Nodup):(EE nd o).Nodup:=by
 cases o with
 | none=>exact h
 | some x=>
  simp only [EE];split
  ·exact h
  ·rename_i c
   exact nR.2 ⟨h,by simp,λa ha b hb=>by simp at hb;subst hb;exact λe=>c (e ▸ ha)⟩
theorem Kn{nd:List U}{o:Option U}{i:Nat}{x:U}(h:nd[i]? = some x):(EE nd o)[i]? = some x:=by
 cases o with
 | none=>exact h
 | some y=>
  simp only [EE];split
  ·exact h
  ·rw [d8 (am.1 h).1];exact h
structure Jk (f:U->Int->Option U) (ls:List Int) (s:U) (nd:List U) (rows:List (List Int)):Prop where
 st:nd[0]? = some s
 nodup:nd.Nodup
 len:rows.length<=nd.length
 row:∀(i:Nat) (r:List Int),rows[i]? = some r->∃q,nd[i]? = some q/\r=ls.map (λl=>EF nd (f q l))/\∀l∈ls,∀x,f q l=some x->x∈nd
 rc:∀Z:List U,s∈Z->(∀q∈Z,∀l∈ls,∀x,f q l=some x->x∈Z)->∀q∈nd,q∈Z
theorem Wv{f:U->Int->Option U}{ls:List Int}{s q:U}{rows:List (List Int)}{i:Nat}:∀(rs ds:List Int) {nd:List U} {row:List Int},ls=ds++rs->Jk f ls s nd rows->nd[i]? = some q->row=ds.map (λl=>EF nd (f q l))->(∀l∈ds,∀x,f q l=some x->x∈nd)->
 Jk f ls s (HY f q nd row rs).1 rows/\(HY f q nd row rs).1[i]? = some q/\(HY f q nd row rs).2=ls.map (λl=>EF (HY f q nd row rs).1 (f q l))/\∀l∈ls,∀x,f q l=some x->x∈(HY f q nd row rs).1
 | [],ds,nd,row,e,h,hi,o,n=>by
  rw [nG] at e;subst e;exact⟨h,hi,o,n⟩
 | l :: rs, ds,nd,row,e,h,hi,o,n=>by
  have t:l∈ls:=by rw [e];simp
  refine Wv rs (ds++[l]) (by rw [e];simp) ⟨Kn h.st,Zh h.nodup,?_,?_,?_⟩ (Kn hi) ?_ ?_
  ·have:=h.len
   have w:nd.length<=(EE nd (f q l)).length:=by
    cases f q l with
    | none=>exact io _
    | some y=>simp only [EE];split<;>simp
   omega
  ·intro j r A
   obtain⟨p,b,w,v⟩:=h.row j r A;exact⟨p,Kn b,by rw [w];exact nu λm a=>(OV (v m a)).symm,λm a x g=>Mz.2 x (v m a x g)⟩
  ·intro Z k d y c
   cases u:f q l with
   | none=>rw [u] at c;exact h.rc Z k d y c
   | some z=>
    rw [u] at c;simp only [EE] at c;split at c
    ·exact h.rc Z k d y c
    ·rcases f9.1 c with b|b
     ·exact h.rc Z k d y b
     ·simp at b;subst b
      exact d q (h.rc Z k d q (ce hi)) l t _ u
  ·rw [o,nO]
   congr 1;exact nu λm a=>(OV (n m a)).symm
  ·intro m a x g
   rcases f9.1 a with b|b
   ·exact Mz.2 x (n m b x g)
   ·simp at b;subst b;exact Mz.1 x g
structure RL (f:U->Int->Option U) (ls:List Int) (s:U) (nd:List U) (rows:List (List Int)):Prop where
 st:nd[0]? = some s
 nodup:nd.Nodup
 len:rows.length=nd.length
 row:∀(i:Nat) (q:U),nd[i]? = some q->rows[i]? = some (ls.map λl=>EF nd (f q l))
 cl:∀q∈nd,∀l∈ls,∀x,f q l=some x->x∈nd
theorem Jk.done{f:U->Int->Option U}{ls:List Int}{s:U}{nd:List U}{rows:List (List Int)}(h:Jk f ls s nd rows)(k:nd.length<=rows.length):RL f ls s nd rows:=by
 have e:=h.len
 have key:∀(i:Nat) (q:U),nd[i]? = some q->rows[i]? = some (ls.map λl=>EF nd (f q l))/\∀l∈ls,∀x,f q l=some x->x∈nd:=λi q hi=>by
  have d:=(am.1 hi).1
  obtain⟨r,b⟩:∃r,rows[i]? = some r:=⟨_,d5 (by omega)⟩
  obtain⟨p,a,j,g⟩:=h.row i r b
  rw [hi] at a;injection a with a;subst a
  exact⟨by rw [b,j],g⟩
 refine⟨h.st,h.nodup,by omega,λi q hi=>(key i q hi).1,λq c=>?_⟩;obtain⟨i,hi⟩:=n7.1 c;exact(key i q hi).2
theorem Jk.push{f:U->Int->Option U}{ls:List Int}{s q:U}{nd:List U}{rows:List (List Int)}(h:Jk f ls s nd rows)(e:nd[rows.length]? = some q):Jk f ls s (HY f q nd [] ls).1 (rows++[(HY f q nd [] ls).2]):=by
 obtain⟨b,d,k,i⟩:=Wv ls [] (row:=[]) rfl h e rfl (by simp);have g:=(am.1 d).1;refine⟨b.st,b.nodup,by simp;omega,λj r a=>?_,b.rc⟩
 rcases nh j rows.length with c|c
 ·rw [d8 c] at a;exact b.row j r a
 ·rw [ge c] at a
  have l:j - rows.length < 1:=(am.1 a).1
  obtain rfl:j=rows.length:=by omega
  simp at a;subst a;exact⟨q,d,k,i⟩
theorem Jn{lim:Nat}{f:U->Int->Option U}{ls:List Int}{s:U}:∀(k:Nat) {nd:List U} {rows:List (List Int)} {p:List U×List (List Int)},nd.length<=lim->lim<=k+rows.length->Jk f ls s nd rows->GC lim f ls k nd rows=some p->RL f ls s p.1 p.2/\p.1.length<=lim
 | 0,nd,rows,p,c,hk,h,a=>by
  simp only [GC,Option.some.injEq] at a;subst a;exact⟨h.done (by omega),c⟩
 | k + 1,nd,rows,p,c,hk,h,a=>by
  simp only [GC] at a;split at a
  ·rename_i b
   simp only [Option.some.injEq] at a;subst a;exact⟨h.done (by simpa using b),c⟩
  ·rename_i q b
   split at a
   ·cases a
   ·exact Jn k (by omega) (by simp;omega) (h.push b) a
theorem OZ{lim:Nat}{f:U->Int->Option U}{ls:List Int}{s:U}{Z:List U}(a:s∈Z)(b:∀q∈Z,∀l∈ls,∀x,f q l=some x->x∈Z)(d:Z.length<=lim):∀(k:Nat) {nd:List U} {rows:List (List Int)},Jk f ls s nd rows->∃p,GC lim f ls k nd rows=some p
 | 0,nd,rows,h=>⟨_,rfl⟩
 | k + 1,nd,rows,h=>by
  simp only [GC];split
  ·exact⟨_,rfl⟩
  ·rename_i q c
   have hp:=h.push c;have e:(HY f q nd [] ls).1.length<=Z.length:=CL hp.nodup (hp.rc Z a b);rw [if_neg (by omega)];exact OZ a b d k hp
end
end Go.Am
