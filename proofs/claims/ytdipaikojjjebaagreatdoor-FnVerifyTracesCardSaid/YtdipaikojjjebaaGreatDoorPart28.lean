/-
  A set of pairs gets its number: walked.
-/
import Derived.Test.YtdipaikojjjebaaGreatDoorPart26
import Derived.Test.YtdipaikojjjebaaGreatDoorPart27
set_option linter.all false
namespace Go.Am
open Go Go.Proofs
set_option maxHeartbeats 1000000
set_option maxRecDepth 4000
attribute [local irreducible] A1 Cr Lex Bs Aj Spec
variable {TB:BA}
inductive Reach (t:CW):PS->Prop
 | start:Reach t (CT t)
 | next {F:PS} {l:Int}:0<=l->l<6->Reach t F->Reach t (EK t l F)
theorem Reach.ok{t:CW}(ht:Bu t=true){F:PS}(h:Reach t F):DF t F:=by
 induction h with
 | start=>exact G0 ht
 | next c b _ a=>exact N6 ht ⟨c,b⟩ a
noncomputable def FV(t:CW):PS->W->PS
 | F,[]=>F
 | F,c::w=>FV t (EK t ((c.toNat:Int)-97) F) w
theorem Ox{t:CW}:∀(u v:W) (F:PS),FV t F (u++v)=FV t (FV t F u) v
 | [],v,F=>rfl
 | c::u,v,F=>by simp only[mK,FV];exact Ox u v _
def gC(t:CW)(ok:W->Prop)(F:PS):Prop:=F=CT t\/∃u v,ok (u++v)/\F=FV t (CT t) u
def gb(t:CW)(ok:W->Prop):Prop:=∀l:List PS,l.Nodup->(∀F∈l,gC t ok F)->l.length<=1099511627776
structure HF (t:CW) (ok:W->Prop) (m:FF):Prop where
 l1:m.nx.length=m.F.length
 l2:m.un.length=m.F.length
 nd:m.F.Nodup
 rc:∀F∈m.F,Reach t F
 rk:∀F∈m.F,gC t ok F
 un:∀(i:Nat) F,m.F[i]?=some F->m.un[i]?=some (HL t F)
 nx:∀(i:Nat) F,m.F[i]?=some F->∃r:List Int,m.nx[i]?=some r/\r.length=6/\∀l:Nat,l<6->∃x,r[l]?=some x/\(x<0\/∃j:Nat,x=j/\m.F[j]?=some (EK t l F))
def HT(t:CW)(m:FF)(G:PS):FF:=⟨m.F++[G],m.nx++[[-1,-1,-1,-1,-1,-1]],m.un++[HL t G]⟩
theorem dP{t:CW}(ht:Bu t=true){F G:PS}(c:DF t F)(b:DF t G)(h:Gn F=Gn G):F=G:=by
 have d:=VS h;have e:=AS (DA ht);funext p
 rcases l5 p 12 with a|a
 ·exact d p a
 ·rw[c.z p (by omega),b.z p (by omega)]
theorem QN{l:List PS}{p:List Int×Int}:p∈Pe l↔∃(i:Nat) (F:PS),l[i]?=some F/\p=(Gn F,(i:Int)):=by
 unfold Pe;rw[d8];constructor
 ·rintro⟨⟨F,i⟩,h,rfl⟩
  exact⟨i,F,oM.1 h,rfl⟩
 ·rintro⟨i,F,h,rfl⟩
  exact⟨(F,i),oM.2 h,rfl⟩
theorem cI(l:List PS)(G:PS):Pe (l++[G])=Pe l++[(Gn G,(l.length:Int))]:=by
 unfold Pe;rw[List.zipIdx_append];simp
theorem Zs{t:CW}(ht:Bu t=true){l:List PS}(g:l.Nodup)(f:∀F∈l,Reach t F):(Pe l).Pairwise (λa b=>a.1≠b.1):=by
 unfold Pe;rw[mR,lN];intro i j e d c;simp only[List.length_zipIdx]at e d;simp only[List.getElem_zipIdx];intro h;have:=dP ht ((f _ (l7 e)).ok ht) ((f _ (l7 d)).ok ht) h;exact lN.1 g i j e d c this
theorem Zr{t:CW}(ht:Bu t=true){l:List PS}(a:∀F∈l,Reach t F):Po 12 .u16 (Pe l):=λp b=>by
 obtain⟨i,F,c,rfl⟩:=QN.1 b;exact⟨rfl,dF ((a F (co c)).ok ht).lt⟩
theorem Xj{t:CW}(ht:Bu t=true){l:List PS}(f:l.Nodup)(c:∀F∈l,Reach t F){G:PS}(j:DF t G){v:Int}(h:DC (Pe l) (Gn G)=some v):∃k:Nat,v=k/\l[k]?=some G:=by
 have:∃p∈Pe l,p.1=Gn G:=by
  refine Classical.byContradiction λg=>?_;have m:DC (Pe l) (Gn G)=none:=Hl.2 λp a b=>g ⟨p,a,b⟩;rw[m]at h;cases h
 obtain⟨p,a,b⟩:=this;have e:=Lj (Zs ht f c) a;rw[b,h]at e;obtain⟨i,F,d,rfl⟩:=QN.1 a;have:=dP ht ((c F (co d)).ok ht) j b;subst this;exact⟨i,by injection e,d⟩
theorem Xi{l:List PS}{G:PS}(h:DC (Pe l) (Gn G)=none):G∉l:=λb=>by
 obtain⟨i,hi,a⟩:=lO b;exact Hl.1 h (Gn G,(i:Int)) (QN.2 ⟨i,G,by rw[d5 hi,a],rfl⟩) rfl
theorem JS{α:Type}{l:List α}{a x:α}{i:Nat}(h:l[i]?=some x):(l++[a])[i]?=some x:=by
 rw[d9 (am.1 h).1];exact h
theorem RR{α:Type}{l:List α}{a x:α}{i:Nat}(h:(l++[a])[i]?=some x):l[i]?=some x\/i=l.length/\x=a:=by
 rcases l5 i l.length with b|b
 ·rw[d9 b]at h;exact .inl h
 ·rw[f9 b]at h
  have d:i-l.length<1:=(am.1 h).1
  have c:i=l.length:=by simp at d;omega
  subst c;simp at h;exact .inr ⟨rfl,h.symm⟩
theorem U8{t:CW}{ok:W->Prop}{m:FF}(d:HF t ok m){G:PS}(k:Reach t G)(hk:gC t ok G)(h:G∉m.F):HF t ok (HT t m G):=by
 refine⟨by simp[HT,d.l1],by simp[HT,d.l2],?_,?_,?_,?_,?_⟩
 ·show (m.F++[G]).Nodup
  rw[nJ];exact⟨d.nd,by simp,λa ha b hb=>by simp at hb;subst hb;intro e;subst e;exact h ha⟩
 ·intro F c
  rcases f6.1 c with c|c
  ·exact d.rc F c
  ·simp at c;subst c;exact k
 ·intro F c
  rcases f6.1 c with c|c
  ·exact d.rk F c
  ·simp at c;subst c;exact hk
 ·intro i F c
  rcases RR c with f|⟨f,rfl⟩
  ·exact JS (d.un i F f)
  ·subst f;show (m.un++[HL t F])[m.F.length]?=_;rw[<-d.l2];simp
 ·intro i F c
  rcases RR c with f|⟨f,rfl⟩
  ·obtain⟨r,v,u,s⟩:=d.nx i F f
   refine⟨r,JS v,u,λl g=>?_⟩;obtain⟨x,q,p⟩:=s l g;refine⟨x,q,p.imp id ?_⟩;rintro⟨j,o,n⟩;exact⟨j,o,JS n⟩
  ·refine⟨[-1,-1,-1,-1,-1,-1],by subst f;show (m.nx++_)[m.F.length]?=_;rw[<-d.l1];simp,rfl,λl g=>⟨-1,?_,.inl (by omega)⟩⟩
   obtain rfl|rfl|rfl|rfl|rfl|rfl:l=0\/l=1\/l=2\/l=3\/l=4\/l=5:=by omega
   all_goals rfl
def Me(t:CW)(F:PS)(k:Nat):Bool:=(List.range k).any λp=>decide (F p≠0) && !(t.q.ac.getD p false)
theorem Nm{t:CW}{F:PS}{k:Nat}:Me t F (k+1)=(Me t F k || (decide (F k≠0) && !(t.q.ac.getD k false))):=by
 unfold Me;rw[oO,List.any_append];simp
theorem WW{t:CW}{F:PS}(h:DF t F)(b:t.q.nx.length<=12):Me t F 12=HL t F:=by
 have key:∀k,Me t F (t.q.nx.length+k)=Me t F t.q.nx.length:=λk=>by
  induction k with
  | zero=>rfl
  | succ k a=>rw[<-l8,Nm,a,h.z _ (by omega)];simp
 have:=key (12-t.q.nx.length);rw[show t.q.nx.length+(12-t.q.nx.length)=12 by omega]at this;rw[this];rfl
section
variable {P:Program}{Γ:Ctx}{d:Option Tmp}{ty:TypeId}{pos:String}{af:Array Edge}{g:Option (Nat×Bool)}{f:Env}{σ:Ab}{nx:Nat}{t:TypeId}{n:Nat}{q:IntKind}{m e:TypeId}{x y:Operand}{id:Nat}{l:List (List Int×Int)}{s:List Int}
theorem aa{v:Int}[z:JJ P m t e][h:FD P t n q][w:Pn P e (.int .i64 0)](k:DC l s=some v)(i:ev f x=some (.o (.mp id)))(c:ev f y=some (cy q s))(p:look σ id=some (.mp (mapA q l)))
 (r:Po n q l) (u:l.Pairwise (λa b=>a.1≠b.1)) (hs:s.length=n) (j:∀x∈s,(Lit.int q x).wf=true) :
 A1 P TB Γ ⟨d,.lookup m x y true,ty,pos,af,g⟩ f σ nx (.t [(false,[.d (.v (.int .i64 v))]),(false,[.d (.v (.bool true))])]):=by
 have:=VU (P:=P) (TB:=TB) (Γ:=Γ) (d:=d) (ty:=ty) (pos:=pos) (af:=af) (g:=g) (nx:=nx) (t:=t) (m:=m) (e:=e) i c p r u hs j;rw[k]at this;exact this
theorem Z0[z:JJ P m t e][h:FD P t n q][w:Pn P e (.int .i64 0)](k:DC l s=none)(i:ev f x=some (.o (.mp id)))(c:ev f y=some (cy q s))(p:look σ id=some (.mp (mapA q l)))
 (r:Po n q l) (u:l.Pairwise (λa b=>a.1≠b.1)) (hs:s.length=n) (j:∀x∈s,(Lit.int q x).wf=true) :
 A1 P TB Γ ⟨d,.lookup m x y true,ty,pos,af,g⟩ f σ nx (.t [(false,[.d (.v (.int .i64 0))]),(false,[.d (.v (.bool false))])]):=by
 have:=VU (P:=P) (TB:=TB) (Γ:=Γ) (d:=d) (ty:=ty) (pos:=pos) (af:=af) (g:=g) (nx:=nx) (t:=t) (m:=m) (e:=e) i c p r u hs j;rw[k]at this;exact this
end
theorem YE{t:CW}{ok:W->Prop}(ht:Bu t=true){m:FF}(h:HF t ok m)(B:m.F.length<=1099511627776){G:PS}(p:DF t G):∃(m':FF) (k:Nat),((m'=m/\m.F[k]?=some G)\/(m'=HT t m G/\k=m.F.length/\G∉m.F))/\
 AH Tryz.prog TB 111 1 (LN t m) 5 [.o (.ptr 0 14 0 0),fz G] (λx σ nx=>x=eI .i64 (k:Int)/\σ=LN t m'/\nx=5):=by
 have K:=AS (DA ht);have f:=Zs ht h.nd h.rc;have j:=Zr ht h.rc;have e:=dF p.lt
 cases n:DC (Pe m.F) (Gn G) with
 | some v=>
  obtain⟨k,rfl,hk⟩:=Xj ht h.nd h.rc p n;refine⟨m,k,.inl ⟨rfl,hk⟩,?_⟩;refine AH.A3 (AH.Pg (m:=1) (ce rfl) Tryz.func111 rfl (by kernel_rfl) (ce rfl) ?_);intro Γ a;(repeat first|refine tA rfl ?_|refine aU rfl ?_|apply Aa);refine rG (Hf []) (by kernel_rfl) ?_;(repeat first|refine tA rfl ?_|(refine Ag rfl ?_;refine gA rfl ?_;first|refine gQ (aa (s:=Gn G) (l:=Pe m.F) n rfl rfl rfl j f rfl e) rfl ?_)|refine aU rfl ?_|apply Aa);(refine aC rfl ?_ ?_<;>rintro⟨⟩);(repeat first|refine tA rfl ?_|refine aU rfl ?_|apply Aa);refine aR ⟨_,rfl,[0,1,2,3,4],eI .i64 (k:Int),LN t m,⟨by intro i hi;match i with|0=>rfl,by decide⟩,rfl,by (simp[cX,zC,a,AZ]),rfl,rfl,rfl⟩
 | none =>
  refine⟨HT t m G,m.F.length,.inr ⟨rfl,rfl,Xi n⟩,?_⟩;have M:=h.l1;have L:=h.l2;have y:=cI m.F G;refine AH.A3 (AH.Pg (m:=1) (ce rfl) Tryz.func111 rfl (by kernel_rfl) (ce rfl) ?_);intro Γ a;(repeat first|refine tA rfl ?_|refine aU rfl ?_|apply Aa);refine rG (Hf []) (by kernel_rfl) ?_;(repeat first|refine tA rfl ?_|(refine Ag rfl ?_;refine gA rfl ?_;first|refine gQ (Z0 (s:=Gn G) (l:=Pe m.F) n rfl rfl rfl j f rfl e) rfl ?_)|refine aU rfl ?_|apply Aa);(refine aC rfl ?_ ?_<;>rintro⟨⟩);apply aK;(repeat first|refine tA rfl ?_|refine aU rfl ?_|apply Aa);refine rG (Hf [6]) (by kernel_rfl) ?_;(repeat first|refine tA rfl ?_);(refine Ag rfl ?_;refine HJ ?_ rfl (by rfl);refine fg (s:=Gn G) (l:=Pe m.F) rfl rfl rfl rfl j f rfl e n ?_);rw[<-y];apply Aa;(repeat first|refine aU rfl ?_);refine rG (JG [(4,0),(7,1),(10,1)]) (by kernel_rfl) ?_;(repeat first|refine tA rfl ?_);(refine pW rfl ?_ rfl (by rfl);refine Al rfl rfl rfl (by first|(simp;done)|(simp;(omega))) rfl (by intro r d;simp at d;subst d;rfl) (by rfl) (ce rfl) (by simp;omega) ?_);(repeat first|refine tA rfl ?_|refine aU rfl ?_|apply Aa);(repeat first|refine tA rfl ?_|(refine Ag rfl ?_;refine gA rfl ?_;first|refine gS (λ_ _=>AP rfl rfl (by rfl) (by rfl)) ?_));(refine pW rfl ?_ rfl (by rfl);refine Al rfl rfl rfl (by first|(simp;done)|(simp;(omega))) rfl (by intro r d;simp at d;subst d;rfl) (by rfl) (ce rfl) (by simp;omega) ?_);(repeat first|refine tA rfl ?_|refine aU rfl ?_|apply Aa);refine Aj.Aw [0,7,8,53,54] [] rfl rfl [] [(0,.cells 89 14 [aN t (.arr 1 12 0 (HT t m G).F.length) (.mp 2) (.arr 3 6 0 (HT t m G).nx.length) (.arr 4 1 0 m.un.length)]),(1,.cells 150 12 ((HT t m G).F.map PV)),(2,.mp (mapA .u16 (Pe (HT t m G).F))),(3,.cells 94 6 ((HT t m G).nx.map PQ)),(4,.cells 4 1 (m.un.map AN))] [0,5,2,6,4] (rl a rfl) (by (simp[cX,zC,a,AZ,HT]<;>rfl)) ?_;(try dsimp only[cA,cB]);apply aB;refine aL (α:={k:Nat // k<=12}) [0,7,53] [0,1,2,3,4] rfl rfl (λs=>[(8,eB (Me t G s.1)),(54,eI .i64 s.1)]) (λs=>[]) 5 (λs=>12-s.1) (⟨0,by omega⟩) a rfl (by (simp[cX,zC,a,AZ]<;>rfl)) ?_;rintro⟨k,hk⟩;(try dsimp only[cA,cB]);by_cases u:k<12
  ·have A:(Gn G)[((k:Nat):Int).toNat]?=some (G k:Int):=by rw[i7];exact IM u
   have hs:=Nm (t:=t) (F:=G) (k:=k);generalize Me t G k=N at *;by_cases I:k<t.q.nx.length
   ·obtain⟨b,hb⟩:=get_some (l:=t.q.ac) (k:=((k:Nat):Int).toNat) (by omega)
    have J:=get_map (g:=MF) hb
    have w:t.q.ac.getD k false=b:=by rw[i7]at hb;simp[List.getD,hb]
    rw[w]at hs;(repeat first|refine s2 rfl λ_ c=>?_|refine aU rfl ?_|apply Aa)
    ((refine aC rfl ?_ ?_<;>rintro⟨⟩);all_goals try(exfalso;(simp only[oZ] at *;omega)))
    apply aK;refine aS (aB ?_)
    (repeat' first|(refine sA rfl ?_ ?_;first|exact tI|omega)|(refine s4 rfl ‹_› rfl ?_ ?_;omega)|refine s2 rfl λ_ c=>?_|(refine Ag rfl ?_;refine gA rfl ?_;first|refine gS (λ_ _=>Ky (l:=Gn G) rfl rfl rfl (by omega) A) ?_)|refine s3 rfl ?_ ?_<;>rintro rfl|refine aU rfl ?_|apply Aa|(refine aC rfl ?_ ?_<;>rintro⟨⟩));all_goals try contradiction
    all_goals ((try apply aK);refine⟨⟨k+1,by omega⟩,by dsimp only;(omega),[0,1,2,3,4],?_⟩;simp only[decide_eq_true_eq,decide_eq_false_iff_not] at *;simp[cX,zC,a,AZ,hs];try (simp_all;done))
   ·have H:=p.z k (by omega)
    rw[H]at hs;(repeat first|refine s2 rfl λ_ c=>?_|refine aU rfl ?_|apply Aa)
    ((refine aC rfl ?_ ?_<;>rintro⟨⟩);all_goals try(exfalso;(simp only[oZ] at *;omega)))
    apply aK;refine aS (aB ?_)
    (repeat' first|(refine sA rfl ?_ ?_;first|exact tI|omega)|refine s2 rfl λ_ c=>?_|(refine Ag rfl ?_;refine gA rfl ?_;first|refine gS (λ_ _=>Ky (l:=Gn G) rfl rfl rfl (by omega) A) ?_)|refine s3 rfl ?_ ?_<;>rintro rfl|refine aU rfl ?_|apply Aa|(refine aC rfl ?_ ?_<;>rintro⟨⟩));all_goals try contradiction
    all_goals first|(exfalso;(simp only[oZ] at *;omega);done)|skip
    all_goals ((try apply aK);refine⟨⟨k+1,by omega⟩,by dsimp only;(omega),[0,1,2,3,4],?_⟩;simp[cX,zC,a,AZ,hs];try (simp_all;done))
  ·obtain rfl:k=12:=by omega
   rw[WW p (by omega)];(repeat first|refine s2 rfl λ_ c=>?_|refine aU rfl ?_|apply Aa)
   ((refine aC rfl ?_ ?_<;>rintro⟨⟩);all_goals try(exfalso;(simp only[oZ] at *;omega)))
   apply aE;(repeat first|refine tA rfl ?_|refine aU rfl ?_);(refine pW rfl ?_ rfl (by rfl);refine Al rfl rfl rfl (by first|(simp;done)|(simp;(omega))) rfl (by intro r d;simp at d;subst d;rfl) (by rfl) (ce rfl) (by simp;omega) ?_);(repeat first|refine tA rfl ?_|refine aU rfl ?_|apply Aa);refine aR ⟨_,rfl,[0,1,2,3,5],eI .i64 (m.F.length:Int),LN t (HT t m G),⟨by intro i hi;match i with|0=>rfl,by decide⟩,rfl,by (simp[cX,zC,a,AZ,HT]),rfl,rfl,rfl⟩
def jv(m m':FF):Prop:=∀(i:Nat) F,m.F[i]?=some F->m'.F[i]?=some F
theorem bL{t:CW}{m:FF}{G:PS}:jv m (HT t m G):=λ_ _ h=>JS h
def XN(m:FF)(n:Nat)(r:List Int):FF:={ m with nx:=m.nx.set n r }
theorem dm{t:CW}{ok:W->Prop}{m:FF}(a:HF t ok m){n k l:Nat}{F:PS}{r:List Int}(p:m.F[n]?=some F)(o:m.nx[n]?=some r)(v:l<6)(hk:m.F[k]?=some (EK t l F)):HF t ok (XN m n (r.set l k)):=by
 refine⟨by simp[XN,a.l1],a.l2,a.nd,a.rc,a.rk,a.un,λi G b=>?_⟩;replace b:m.F[i]?=some G:=b;by_cases e:i=n
 ·subst e
  rw[p]at b;injection b with b;subst b
  obtain⟨r',c,f,j⟩:=a.nx i F p
  rw[o]at c;injection c with c;subst c
  have g:=(am.1 o).1;refine⟨r.set l k,by simp[XN,g],by simp[f],λl' d=>?_⟩;by_cases q:l'=l
  ·subst q
   exact⟨k,by simp[f,d],.inr ⟨k,rfl,hk⟩⟩
  ·obtain⟨x,u,s⟩:=j l' d
   exact⟨x,by rw[ml (λh=>q h.symm)];exact u,s⟩
 ·obtain⟨r',c,f,j⟩:=a.nx i G b
  exact⟨r',by simp only[XN];rw[ml (λh=>e h.symm)];exact c,f,j⟩
theorem VM{r:List Int}{l:Nat}{x:Int}(h:r[l]?=some x):(PQ r)[l]?=some (.d (iD x)):=by simp[h]
theorem cO{r:List Int}{l:Nat}{x:Int}(h:l<r.length):Ae (PQ r) l [.d (iD x)]=PQ (r.set l x):=by
 rw[Hw (by simpa using h)];unfold PQ;rw[mM]
theorem WR[CG TB]{t:CW}{ok:W->Prop}(ht:Bu t=true){m:FF}(e:HF t ok m){n:Nat}{F:PS}(v:m.F[n]?=some F){l:Int}(J:0<=l/\l<6)(H:m.F.length<=1099511627776)(R:gC t ok (EK t l F)):∃(m':FF) (j:Nat),HF t ok m'/\jv m m'/\m'.F[j]?=some (EK t l F)/\m'.F.length<=m.F.length+1/\
 AH Tryz.prog TB 55 1 (LN t m) 5 [.o (.ptr 0 14 0 0),eI .i64 (n:Int),eI .i64 l] (λx σ nx=>x=eI .i64 (j:Int)/\σ=LN t m'/\nx=5):=by
 obtain⟨r,hr,hrl,Q⟩:=e.nx n F v;have hn:=(am.1 v).1;have h1:=e.l1;obtain⟨x,hx,z⟩:=Q l.toNat (by omega)
 have el:((l.toNat:Nat):Int)=l:=by omega
 rw[el]at z;have s:=(e.rc F (co v)).ok ht
 have hr':(m.nx.map PQ)[0+((n:Nat):Int).toNat]?=some (PQ r):=by rw[lH,i7];simp[hr]
 have g:(PQ r)[0+l.toNat*1]?=some (.d (iD x)):=by rw[lH,pz];exact VM hx
 by_cases N:x<0
 ·have hG:=N6 ht J s
  have Y:Reach t (EK t l F):=.next J.1 J.2 (e.rc F (co v));obtain⟨a,k,q,K⟩:=YE (TB:=TB) ht e H hG
  have c:HF t ok a/\jv m a/\a.F[k]?=some (EK t l F)/\a.F.length<=m.F.length+1:=by
   rcases q with ⟨rfl,Z⟩|⟨rfl,rfl,Z⟩
   ·exact⟨e,λ_ _ h=>h,Z,Nat.le_succ _⟩
   ·exact⟨U8 e Y R Z,bL,by simp[HT],by simp[HT]⟩
  obtain⟨c,I,hk,V⟩:=c;have L:=I n F v;obtain⟨f,p,hrl1,_⟩:=c.nx n F L;have T:=(am.1 p).1;have S:=dm (l:=l.toNat) c L p (by omega) (k:=k) (by rw[el];exact hk);refine⟨_,k,S,I,hk,V,?_⟩;have U:=VI (TB:=TB) ht m J s;have X:=RZ (TB:=TB) ht m (Lw ht J s)
  have hs':(m.F.map PV)[0+((n:Nat):Int).toNat]?=some (PV F):=by rw[lH,i7];simp[v]
  refine AH.A3 (AH.Pg (m:=1) (ce rfl) Tryz.func55 rfl (by kernel_rfl) (ce rfl) ?_);intro Γ b;(repeat first|(refine sA rfl ?_ ?_;first|exact tI|omega)|refine s2 rfl λ_ _hb=>?_|(refine Ag rfl ?_;refine gA rfl ?_;first|refine gQ (Og rfl rfl (by assumption) g) rfl ?_)|refine aU rfl ?_|apply Aa)
  ((refine aC rfl ?_ ?_<;>rintro⟨⟩);all_goals try(exfalso;(simp only[oZ] at *;omega)))
  (repeat first|(refine sA rfl ?_ ?_;first|exact tI|omega)|refine t4 rfl ‹_› rfl ?_|refine aU rfl ?_);(refine pW rfl ?_ rfl (by rfl);refine Af [0,1,2,3,4] rfl rfl (U) ⟨rfl,by decide,by decide⟩ rfl (by simp[cX,zC,b,AZ]) ?_;rintro x0 w y ⟨rfl,rfl,rfl⟩ _);(refine pW rfl ?_ rfl (by rfl);refine Af [0,1,2,3,4] rfl rfl (X) ⟨rfl,by decide,by decide⟩ rfl (by simp[cX,zC,b,AZ]) ?_;rintro x0 w y ⟨rfl,rfl,rfl⟩ _);(refine pW rfl ?_ rfl (by rfl);refine BR [0,1,2,3,4] rfl rfl 1 (K) (by decide) ⟨rfl,by decide,by decide⟩ rfl (by simp[cX,zC,b,AZ]) ?_;rintro x0 w y ⟨rfl,rfl,rfl⟩ _);(repeat first|refine tA rfl ?_);apply Aa;refine Aj.Aw [0,1,2,7] [] rfl rfl [] [(0,.cells 89 14 [aN t (.arr 1 12 0 a.F.length) (.mp 2) (.arr 3 6 0 a.nx.length) (.arr 4 1 0 a.un.length)]),(1,.cells 150 12 (a.F.map PV)),(2,.mp (mapA .u16 (Pe a.F))),(3,.cells 94 6 (a.nx.map PQ)),(4,.cells 4 1 (a.un.map AN))] [0,5,6,7,8] (rl b rfl) (by (simp[cX,zC,b,AZ])) ?_;(try dsimp only[cA,cB])
  have G:(a.nx.map PQ)[0+((n:Nat):Int).toNat]?=some (PQ f):=by rw[lH,i7];simp[p]
  have P:=cO (r:=f) (l:=l.toNat) (x:=(k:Int)) (by omega)
  have B:(f.set l.toNat (k:Int))[l.toNat]?=some (k:Int):=by rw[mj (by omega)]
  generalize f.set l.toNat (k:Int)=u at *
  have A:(PQ f).take l.toNat++C.d (iD k)::(PQ f).drop (l.toNat+1)=PQ u:=by rw[<-P];simp[Ae]
  (repeat first|(refine sA rfl ?_ ?_;first|exact tI|omega)|refine aU rfl ?_);(refine Ag rfl ?_;refine HJ ?_ rfl (by rfl);refine Et (r:=PQ f) rfl rfl rfl rfl G rfl (by show 0+l.toNat*1+1<=6;omega) ?_);apply Aa;refine Aj.Aw [0,1,2] [] rfl rfl [] [(0,.cells 89 14 [aN t (.arr 1 12 0 a.F.length) (.mp 2) (.arr 3 6 0 a.nx.length) (.arr 4 1 0 a.un.length)]),(1,.cells 150 12 (a.F.map PV)),(2,.mp (mapA .u16 (Pe a.F))),(3,.cells 94 6 ((a.nx.set n u).map PQ)),(4,.cells 4 1 (a.un.map AN))] [0,1,2,3,4] (rl b rfl) (by (simp[cX,zC,b,AZ,A])) ?_;(try dsimp only[cA,cB])
  have hr2:((a.nx.set n u).map PQ)[0+((n:Nat):Int).toNat]?=some (PQ u):=by rw[lH,i7];simp[T]
  have M:(PQ u)[0+l.toNat*1]?=some (.d (iD k)):=by rw[lH,pz];exact VM B
  (repeat first|(refine sA rfl ?_ ?_;first|exact tI|omega)|(refine Ag rfl ?_;refine gA rfl ?_;first|refine gQ (Og rfl rfl (by assumption) M) rfl ?_)|refine aU rfl ?_|apply Aa);refine aR ⟨_,rfl,[0,1,2,3,4],eI .i64 (k:Int),LN t (XN a n u),⟨by intro i hi;match i with|0=>rfl,by decide⟩,rfl,by (simp[cX,zC,b,AZ,XN]),rfl,rfl,rfl⟩
 ·obtain⟨j,rfl,hj⟩:=z.resolve_left N
  refine⟨m,j,e,λ_ _ h=>h,hj,Nat.le_succ _,?_⟩;refine AH.A3 (AH.Pg (m:=1) (ce rfl) Tryz.func55 rfl (by kernel_rfl) (ce rfl) ?_);intro Γ b;(repeat first|(refine sA rfl ?_ ?_;first|exact tI|omega)|refine s2 rfl λ_ _hb=>?_|(refine Ag rfl ?_;refine gA rfl ?_;first|refine gQ (Og rfl rfl (by assumption) g) rfl ?_)|refine aU rfl ?_|apply Aa)
  ((refine aC rfl ?_ ?_<;>rintro⟨⟩);all_goals try(exfalso;(simp only[oZ] at *;omega)))
  apply aK;(repeat first|(refine sA rfl ?_ ?_;first|exact tI|omega)|(refine Ag rfl ?_;refine gA rfl ?_;first|refine gQ (Og rfl rfl (by assumption) g) rfl ?_)|refine aU rfl ?_|apply Aa);refine aR ⟨_,rfl,[0,1,2,3,4],eI .i64 (j:Int),LN t m,⟨by intro i hi;match i with|0=>rfl,by decide⟩,rfl,by (simp[cX,zC,b,AZ]),rfl,rfl,rfl⟩
theorem YF[CG TB]{t:CW}{ok:W->Prop}(ht:Bu t=true)(a:gb t ok){m:FF}(c:HF t ok m){n:Nat}{F:PS}(e:m.F[n]?=some F){l:Int}(d:0<=l/\l<6)(b:gC t ok (EK t l F)):∃(m':FF) (j:Nat),HF t ok m'/\jv m m'/\m'.F[j]?=some (EK t l F)/\
 AH Tryz.prog TB 55 1 (LN t m) 5 [.o (.ptr 0 14 0 0),eI .i64 (n:Int),eI .i64 l] (λx σ nx=>x=eI .i64 (j:Int)/\σ=LN t m'/\nx=5):=by
 obtain⟨m',j,i,h,g,_,f⟩:=WR (TB:=TB) ht c e d (a m.F c.nd c.rk) b;exact⟨m',j,i,h,g,f⟩
def Ma(t:CW)(ok:W->Prop)(m:FF):Prop:=HF t ok m/\m.F[0]?=some (CT t)
theorem Wx[CG TB]{t:CW}{ok:W->Prop}(ht:Bu t=true)(k:gb t ok){r:FF}(h:Ma t ok r){w:W}(u:ok w)(M:∀c∈w,0<=(c.toNat:Int)-97/\(c.toNat:Int)-97<6)(L:w.length<=1048576) :
 AH Tryz.prog TB 129 1 (LN t r) 5 [.o (.ptr 0 14 0 0),eT w] (λx σ nx=>x=eB (LS t w)/\nx=5/\∃m,Ma t ok m/\σ=LN t m):=by
 have R:w.drop 0=w:=rfl;refine AH.A3 (AH.Pg (m:=1) (ce rfl) Tryz.func129 rfl (by kernel_rfl) (ce rfl) ?_);intro Γ a;(repeat first|refine tA rfl ?_|refine aU rfl ?_|apply Aa);apply aB;refine aL (α:={x:Nat×Nat×FF // x.1<=w.length/\Ma t ok x.2.2/\∃F,x.2.2.F[x.2.1]?=some F/\KB t F (w.drop x.1)=LS t w/\F=FV t (CT t) (w.take x.1)}) [0,1] [] rfl rfl (λs=>[(5,eI .i64 s.1.2.1),(6,eI .i64 s.1.1)]) (λs=>LN t s.1.2.2) 5 (λs=>w.length-s.1.1) (⟨⟨0,0,r⟩,by simp,h,CT t,h.2,rfl,rfl⟩) a rfl (by (simp[cX,zC,a,AZ])) ?_;rintro⟨⟨i,n,m⟩,hi,g,F,q,hs,f⟩;(try dsimp only[cA,cB]);have hi:i<=w.length:=hi;have g:Ma t ok m:=g;have f:F=FV t (CT t) (w.take i):=f;have q:m.F[n]?=some F:=q;have hs:KB t F (w.drop i)=LS t w:=hs;have H:=g.1.un n F q;have N:=(am.1 H).1
 have P:(m.un.map AN)[0+((n:Nat):Int).toNat]?=some (AN (HL t F)):=by rw[lH,i7];simp[H]
 by_cases y:i<w.length
 ·obtain⟨c,p⟩:=get_some y
  have B:w[((i:Nat):Int).toNat]?=some c:=by simpa using p
  have l:=M c (co p);have A:=Gk (TB:=TB) w i c B l;have S:=BE p
  have e:EK t ((c.toNat:Int)-97) F=FV t (CT t) (w.take (i+1)):=by
   rw[gt,p,Ox,<-f];rfl
  obtain⟨K,j,v,z,Q,G⟩:=YF (TB:=TB) ht k g.1 q l (.inr ⟨w.take (i+1),w.drop (i+1),by rw[mx];exact u,e⟩);rw[S,KB]at hs;generalize HL t F=b at *
  (repeat' first|(refine sA rfl ?_ ?_;first|exact tI|omega)|refine t4 rfl ‹_› rfl ?_|refine s2 rfl λ_ d=>?_|refine s3 rfl ?_ ?_<;>rintro rfl|refine aU rfl ?_|apply Aa|(refine aC rfl ?_ ?_<;>rintro⟨⟩));all_goals try contradiction
  all_goals first|(exfalso;(simp only[oZ] at *;omega);done)|skip
  ·have hb:b=false:=by simpa using d
   subst hb;apply aK;refine aS (aB ?_);(repeat first|refine tA rfl ?_|refine sP rfl (A) rfl ?_|refine aU rfl ?_);(refine pW rfl ?_ rfl (by rfl);refine BR [0,1,2,3,4] rfl rfl 1 (G) (by decide) ⟨rfl,by decide,by decide⟩ rfl (by simp[cX,zC,a,AZ]) ?_;rintro T I J ⟨rfl,rfl,rfl⟩ _);(repeat first|refine tA rfl ?_);apply Aa;(repeat first|(refine sA rfl ?_ ?_;first|exact tI|omega)|refine aU rfl ?_|apply Aa);refine⟨⟨⟨i+1,j,K⟩,by omega,⟨v,z 0 _ g.2⟩,_,Q,by simpa using hs,e⟩,by dsimp only;(omega),[0,5,6,7,8],?_⟩;simp[cX,zC,a,AZ]
  ·have hb:b=true:=by simpa using d
   subst hb
   have hs:LS t w=false:=by simpa using hs.symm
   rw[hs];apply aE;(repeat first|(refine sA rfl ?_ ?_;first|exact tI|omega)|refine t4 rfl ‹_› rfl ?_|refine s2 rfl λ_ d=>?_|refine aU rfl ?_|apply Aa);refine aR ⟨_,rfl,[0,1,2,3,4],eB false,LN t m,⟨by intro i hi;match i with|0=>rfl,by decide⟩,by subst_vars;rfl,by (simp[cX,zC,a,AZ]),rfl,rfl,m,g,rfl⟩
 ·obtain rfl:i=w.length:=by omega
  rw[oH,KB]at hs;rw[<-hs]
  (repeat' first|(refine sA rfl ?_ ?_;first|exact tI|omega)|refine t4 rfl ‹_› rfl ?_|refine s2 rfl λ_ d=>?_|refine s3 rfl ?_ ?_<;>rintro rfl|refine aU rfl ?_|apply Aa|(refine aC rfl ?_ ?_<;>rintro⟨⟩));all_goals try contradiction
  all_goals first|(exfalso;(simp only[oZ] at *;omega);done)|skip
  apply aE;(repeat first|(refine sA rfl ?_ ?_;first|exact tI|omega)|refine t4 rfl ‹_› rfl ?_|refine s2 rfl λ_ d=>?_|refine aU rfl ?_|apply Aa);refine aR ⟨_,rfl,[0,1,2,3,4],eB (!HL t F),LN t m,⟨by intro i hi;match i with|0=>rfl,by decide⟩,by subst_vars;rfl,by (simp[cX,zC,a,AZ]),rfl,rfl,m,g,rfl⟩
def ON(t:CW)(ok:W->Prop):Hid:=⟨{m:FF // Ma t ok m},λs=>LN t s.1,5⟩
theorem aP{tabs:List (Nat×Obj)}[CG ⟨tabs,none⟩]{t:CW}{ok:W->Prop}(ht:Bu t=true)(a:gb t ok){r:Nat}{w:W}(d:ok w)(f:∀c∈w,0<=(c.toNat:Int)-97/\(c.toNat:Int)-97<6)(b:w.length<=1048576) :
 Pure Tryz.prog ⟨tabs,some (ON t ok,r)⟩ 129 [.o (Oh r),eT w] (eB (LS t w)):=
 ZN (H:=ON t ok) (k:=14) (es:=[eT w]) ⟨_,Tryz.func129,by kernel_rfl,rfl⟩ (by intro e g;simp at g;subst g;rfl) rfl λs=>
  ⟨(Wx (TB:=⟨tabs,none⟩) ht a s.2 d f b).1,λV vs S hg ha=>((Wx (TB:=⟨tabs,none⟩) ht a s.2 d f b).2 V vs S hg ha).mono λe w' ⟨V',v,x,σ',u,q,p,n,l,j,m,i,h⟩=>⟨V',v,x,σ',u,q,p,n,l,j,⟨m,i⟩,h⟩⟩
abbrev dK(r:A5×Bool):E:=.t [(true,[.d (iD r.1.al),.d (Er r.1.nx),.d (GK r.1.ac)]),(false,[.d (bD r.2)])]
def SS(n:Int):List (List Int)->List Bool->Ab
 | [],_=>[(1,.cells 29 3 [[.d (iD n),.d (.v (.slice none 0 0)),.d (.v (.slice none 0 0))]])]
 | r::l,ac=>[(1,.cells 29 3 [[.d (iD n),.arr 2 1 0 (l.length+1),.arr 3 1 0 ac.length]]),(2,.cells 63 1 ((r::l).map Zc)),(3,.cells 4 1 (ac.map AN))]
theorem JK(m:W)(hs:m.length<=10000):Spec Tryz.prog TB 108 [] 0 [eT m] (De (λr:A5×Bool=>KX (m.length+1) r.1) dK):=by
 have f:KX (m.length+1) ⟨0,[],[]⟩:=⟨mt _,mt _,λr b=>by cases b⟩
 refine eR Tryz.func108 rfl (by kernel_rfl) rfl ?_;intro Γ c;(repeat first|refine tA rfl ?_|refine aU rfl ?_|apply Aa);(refine pW rfl ?_ rfl (by rfl);refine Af [] rfl rfl (Lr (TB:=TB) m (by omega) 32) ⟨rfl,by decide,by decide⟩ rfl trivial ?_;rintro B j p ⟨ps,⟨S,R,G⟩,rfl,rfl,rfl⟩ _);obtain⟨K,V⟩:=get_some (l:=ps) (k:=(0:Int).toNat) (by simp;omega);have U:=get_map (g:=FX) V;(repeat first|refine tA rfl ?_|(refine s4 rfl ‹_› rfl ?_ ?_;omega)|refine aU rfl ?_|apply Aa);(refine pW rfl ?_ rfl (by rfl);refine Af [] rfl rfl (GF (TB:=TB) K) ⟨rfl,by decide,by decide⟩ rfl trivial ?_;rintro B j p ⟨⟨n,ok⟩,_,rfl,rfl,rfl⟩ _);(repeat first|refine tA rfl ?_|refine s2 rfl λ_ a=>?_|refine aU rfl ?_|apply Aa);(refine aC rfl ?_ ?_<;>rintro⟨⟩)
 ·(repeat first|refine tA rfl ?_|(refine Ag rfl ?_;refine gA rfl ?_;first|refine gS (λ_ _=>AP rfl rfl (by rfl) (by rfl)) ?_)|refine aU rfl ?_|apply Aa)
  exact aR ⟨_,rfl,[],dK (⟨0,[],[]⟩,false),[],⟨λi hi=>absurd hi (i8 i),kw⟩,rfl,trivial,(⟨0,[],[]⟩,false),f,rfl,rfl,rfl⟩
 apply aK;by_cases Q:ps.length=1
 ·(repeat first|refine tA rfl ?_|(refine Ag rfl ?_;refine gA rfl ?_;first|refine gS (λ_ _=>AP rfl rfl (by rfl) (by rfl)) ?_)|refine aU rfl ?_|apply Aa)
  apply aB;refine aL (α:={k:Nat // k=1}) [0,3] [] rfl rfl (λs=>[(2,.o (.ptr 0 3 0 0)),(4,Fi ps),(7,.o (.ptr 1 3 0 0)),(8,eI .i64 s.1)]) (λs=>[(0,.cells 29 3 [[.d (iD 0),.d (.l []),.d (.l [])]]),(1,.cells 29 3 [[.d (iD n),.d (.l []),.d (.l [])]])]) 2 (λs=>0) (⟨1,rfl⟩) c rfl (by (simp[cX,zC,c,cN])) ?_;rintro⟨k,hk⟩;(try dsimp only[cA,cB]);(repeat first|refine sN rfl ?_|refine tA rfl ?_|refine s2 rfl λ_ a=>?_|refine aU rfl ?_|apply Aa)
  ((refine aC rfl ?_ ?_<;>rintro⟨⟩);all_goals try (simp at a;done))
  ·exfalso;(simp only[oZ] at *;omega)
  apply aE;(repeat first|refine tA rfl ?_|refine aU rfl ?_);(refine pW rfl ?_ rfl (by rfl);refine Af [] rfl rfl (FB (TB:=TB) ⟨n,[],[]⟩) ⟨rfl,by decide,by decide⟩ rfl trivial ?_;rintro B j p ⟨J,F,rfl,rfl,rfl⟩ _);(repeat first|refine tA rfl ?_|refine s2 rfl λ_ a=>?_|apply Aa);(refine aC rfl ?_ ?_<;>rintro⟨⟩)
  ·(repeat first|refine tA rfl ?_|(refine Ag rfl ?_;refine gA rfl ?_;first|refine gS (λ_ _=>AP rfl rfl (by rfl) (by rfl)) ?_)|refine aU rfl ?_|apply Aa)
   exact aR ⟨_,rfl,[],dK (⟨0,[],[]⟩,false),[],⟨λi hi=>absurd hi (i8 i),kw⟩,rfl,trivial,(⟨0,[],[]⟩,false),f,rfl,rfl,rfl⟩
  apply aK;(repeat first|refine tA rfl ?_|refine aU rfl ?_|apply Aa);exact aR ⟨_,rfl,[],dK (⟨n,[],[]⟩,true),[],⟨λi hi=>absurd hi (i8 i),kw⟩,rfl,trivial,(⟨n,[],[]⟩,true),⟨mt _,mt _,λr b=>by cases b⟩,rfl,rfl,rfl⟩
 (repeat first|refine tA rfl ?_|(refine Ag rfl ?_;refine gA rfl ?_;first|refine gS (λ_ _=>SI rfl rfl (by rfl) (by rfl)) ?_)|refine aU rfl ?_|apply Aa);apply aB;refine aL (α:={z:Nat×List (List Int)×List Bool // (1<=z.1/\z.1<=ps.length)/\z.2.1.length+1=z.1/\z.2.2.length+1=z.1/\∀r∈z.2.1,r.length<=m.length+1}) [0,3] [] rfl rfl (λs=>[(2,.o (.ptr 0 3 0 0)),(4,Fi ps),(7,.o (.ptr 1 3 0 0)),(8,eI .i64 s.1.1)]) (λs=>((0,.cells 29 3 [[.d (iD 0),.d (.l []),.d (.l [])]])::SS n s.1.2.1 s.1.2.2)) 4 (λs=>ps.length-s.1.1) (⟨⟨1,[],[]⟩,by simp;omega⟩) c rfl (by (simp[cX,zC,c,SS,cN])) ?_;rintro⟨⟨k,l,ac⟩,hk,q,A,b⟩;(try dsimp only[cA,cB]);have hk:1<=k/\k<=ps.length:=hk;have q:l.length+1=k:=q;have A:ac.length+1=k:=A;(repeat first|refine sN rfl ?_|refine tA rfl ?_|refine s2 rfl λ_ a=>?_|refine aU rfl ?_|apply Aa)
 ((refine aC rfl ?_ ?_<;>rintro⟨⟩);all_goals try (simp at a;done))
 ·have H:k<ps.length:=by (simp only[oZ] at *;omega)
  obtain⟨w,I⟩:=get_some (l:=ps) (k:=k) H;have P:=get_map (g:=FX) I;have N:=G w (co I);apply aK;refine aS (aB ?_);(repeat first|refine tA rfl ?_|(refine s4 rfl ‹_› rfl ?_ ?_;omega)|refine s2 rfl λ_ a=>?_|refine aU rfl ?_|apply Aa);(refine aC rfl ?_ ?_<;>rintro⟨⟩)
  ·(repeat first|refine tA rfl ?_|(refine Ag rfl ?_;refine gA rfl ?_;first|refine gS (λ_ _=>AP rfl rfl (by rfl) (by rfl)) ?_)|refine aU rfl ?_|apply Aa)
   exact aR ⟨_,rfl,[],dK (⟨0,[],[]⟩,false),[],⟨λi hi=>absurd hi (i8 i),kw⟩,rfl,trivial,(⟨0,[],[]⟩,false),f,rfl,rfl,rfl⟩
  have M:0<w.length:=by (simp at a;exact oX.2 a)
  obtain⟨e,X⟩:=get_some (l:=w) (k:=(0:Int).toNat) (by simp;omega);apply aK;(repeat first|refine tA rfl ?_|(refine s4 rfl ‹_› rfl ?_ ?_;omega)|(refine Ag rfl ?_;refine gA rfl ?_;first|refine gS (λ_ _=>Ex rfl rfl (by omega) (by omega)) ?_)|refine aU rfl ?_);(refine pW rfl ?_ rfl (by rfl);refine Af [] rfl rfl (Ud (TB:=TB) (w.drop (Int.toNat 1)) (by simp;omega)) ⟨rfl,by decide,by decide⟩ rfl trivial ?_;rintro B j p ⟨⟨r,L⟩,u,rfl,rfl,rfl⟩ _);have u:r.length<=m.length+1:=lm u (by simp;omega);(repeat first|refine tA rfl ?_|refine s2 rfl λ_ a=>?_|refine aU rfl ?_|apply Aa);(refine aC rfl ?_ ?_<;>rintro⟨⟩)
  ·(repeat first|refine tA rfl ?_|(refine Ag rfl ?_;refine gA rfl ?_;first|refine gS (λ_ _=>AP rfl rfl (by rfl) (by rfl)) ?_)|refine aU rfl ?_|apply Aa)
   exact aR ⟨_,rfl,[],dK (⟨0,[],[]⟩,false),[],⟨λi hi=>absurd hi (i8 i),kw⟩,rfl,trivial,(⟨0,[],[]⟩,false),f,rfl,rfl,rfl⟩
  apply aK
  have y:∀x∈l++[r],x.length<=m.length+1:=λx v=>by
   rcases f6.1 v with v|v
   ·exact b x v
   ·simp at v;subst v;exact u
  cases l with
  | nil=>
   obtain rfl:ac=[]:=lL.1 (by simp at q;omega);(repeat first|refine tA rfl ?_|refine aU rfl ?_);(refine pW rfl ?_ rfl (by rfl);refine Zw 50 rfl ?_;refine IH rfl rfl rfl (by intro r b;simp at b;subst b;rfl) (by rfl) (ce rfl) (by simp) (λh=>?_) (λ_=>?_))
   ·exact absurd h (by simp)
   (repeat first|refine tA rfl ?_);apply Aa;refine rG (Hf [9,11]) (by kernel_rfl) ?_;(repeat first|refine tA rfl ?_|(refine s4 rfl ‹_› rfl ?_ ?_;omega)|refine s2 rfl λ_ a=>?_);(refine pW rfl ?_ rfl (by rfl);refine Zw 56 rfl ?_;refine IH rfl rfl rfl (by intro r b;simp at b;subst b;rfl) (by rfl) (ce rfl) (by simp) (λh=>?_) (λ_=>?_))
   ·exact absurd h (by simp)
   (repeat first|(refine sA rfl ?_ ?_;first|exact tI|omega)|refine aU rfl ?_|apply Aa);subst a;refine⟨⟨⟨k+1,[r],[decide ((e.toNat:Int)=43)]⟩,⟨by dsimp only;omega,by dsimp only;omega⟩,by simp at q;simp;omega,by simp at q;simp;omega,y⟩,by dsimp only;(omega),[0,1,4,5],?_⟩;(simp[cX,zC,c,cN,SS,Ae,eC]<;>rfl)
  | cons t l=>
   (repeat first|refine tA rfl ?_|refine aU rfl ?_);(refine pW rfl ?_ rfl (by rfl);refine Al rfl rfl rfl (by first|(simp;done)|(simp;(omega))) rfl (by intro r b;simp at b;subst b;rfl) (by rfl) (ce rfl) (by simp at q |-;omega) ?_);(repeat first|refine tA rfl ?_);apply Aa;refine Aj.Aw [0,3,8] [] rfl rfl [(2,.o (.ptr 0 3 0 0)),(4,Fi ps),(7,.o (.ptr 1 3 0 0))] [(0,.cells 29 3 [[.d (iD 0),.d (.l []),.d (.l [])]]),(1,.cells 29 3 [[.d (iD n),.arr 2 1 0 (l.length+1+1),.arr 3 1 0 ac.length]]),(2,.cells 63 1 ((t::(l++[r])).map Zc)),(3,.cells 4 1 (ac.map AN))] [0,1,4,3] (rl c rfl) (by (simp[cX,zC,c,cN,SS,Ae,eC])) ?_;(try dsimp only[cA,cB]);refine rG (Hf [9,11]) (by kernel_rfl) ?_;(repeat first|refine tA rfl ?_|(refine s4 rfl ‹_› rfl ?_ ?_;omega)|refine s2 rfl λ_ a=>?_);(refine pW rfl ?_ rfl (by rfl);refine Al rfl rfl rfl (by first|(simp;done)|(simp;(omega))) rfl (by intro r b;simp at b;subst b;rfl) (by rfl) (ce rfl) (by simp at q |-;omega) ?_);(repeat first|(refine sA rfl ?_ ?_;first|exact tI|omega)|refine aU rfl ?_|apply Aa);subst a;refine⟨⟨⟨k+1,t::(l++[r]),ac++[decide ((e.toNat:Int)=43)]⟩,⟨by dsimp only;omega,by dsimp only;omega⟩,by simp at q |-;omega,by simp;omega,y⟩,by dsimp only;(omega),[0,1,2,4],?_⟩;(simp[cX,zC,c,cN,SS,Ae,eC]<;>rfl)
 apply aE
 have T:k=ps.length:=by (simp only[oZ] at *;omega)
 cases l with
 | nil=>exfalso;simp at q;omega
 | cons t l=>
  refine Aj.AD [1,2,3] [(0,eT m),(2,.o (.ptr 0 3 0 0)),(3,eB false),(7,.o (.ip (AU ⟨n,t::l,ac⟩)))] ⟨⟨_,rfl,.inl rfl⟩,⟨_,rfl,.inl rfl⟩,⟨_,rfl,.inl rfl⟩,⟨_,rfl,.inr (.o (.box rfl (.cons .d (.cons (.full rfl (by simp[d7]) (by simp)) (.cons (.full rfl (by simp[d7]) (by simp)) .nil)))))⟩,trivial⟩ ?_;(repeat first|refine tA rfl ?_|refine aU rfl ?_);(refine pW rfl ?_ rfl (by rfl);refine Af [] rfl rfl (FB (TB:=TB) ⟨n,t::l,ac⟩) ⟨rfl,by decide,by decide⟩ rfl trivial ?_;rintro B j p ⟨J,F,rfl,rfl,rfl⟩ _);(repeat first|refine tA rfl ?_|refine s2 rfl λ_ a=>?_|apply Aa);(refine aC rfl ?_ ?_<;>rintro⟨⟩)
  ·(repeat first|refine tA rfl ?_|(refine Ag rfl ?_;refine gA rfl ?_;first|refine gS (λ_ _=>AP rfl rfl (by rfl) (by rfl)) ?_)|refine aU rfl ?_|apply Aa)
   exact aR ⟨_,rfl,[],dK (⟨0,[],[]⟩,false),[],⟨λi hi=>absurd hi (i8 i),kw⟩,rfl,trivial,(⟨0,[],[]⟩,false),f,rfl,rfl,rfl⟩
  apply aK;(repeat first|refine tA rfl ?_|refine aU rfl ?_|apply Aa);exact aR ⟨_,rfl,[],dK (⟨n,t::l,ac⟩,true),[],⟨λi hi=>absurd hi (i8 i),kw⟩,rfl,trivial,(⟨n,t::l,ac⟩,true),⟨by show (t::l).length<=_;omega,by show ac.length<=_;omega,b⟩,rfl,rfl,rfl⟩
section
variable {P:Program}{Γ:Ctx}{d:Option Tmp}{ty:TypeId}{pos:String}{af:Array Edge}{g:Option (Nat×Bool)}{f:Env}{σ:Ab}{nx:Nat}
variable {K:E->Ab->Nat->Prop}
theorem Xy{t:TypeId}{z:List Value}{fl:List (Nat×Nat)}{parts:Array (Nat×Operand)}{es:List E}{qs:List (Nat×List C)}[U:BM P t z][hf:Eg P t fl](p k e q k' e' s k'' e'':Nat)(T:z[p]?=some (.slice none 0 0))(n:z[q]?=some (.slice none 0 0))(l:z[s]?=some (.slice none 0 0))(Z:p≠q/\p≠s/\q≠s)(N:I6 f (parts.toList.map (·.2))=some es)(Y:E5 fl parts.toList es=some qs)
 (G:z.all O2=true) (H:(qs.all λx=>Nat.ble (x.1+x.2.length) z.length)=true) (hK:K (.a (Bt qs ((((z.map zC).set p (.arr nx k 0 0)).set q (.arr (nx+1) k' 0 0)).set s (.arr (nx+2) k'' 0 0)))) ((nx+2,.cells e'' k'' [])::(nx+1,.cells e' k' [])::(nx,.cells e k [])::σ) (nx+3)):Cr P TB Γ ⟨d,.build t parts,ty,pos,af,g⟩ f σ nx K:=
 Dp λV ρ h1 h2 h3=>by
  subst h3;obtain⟨i,zv,hi,A,m⟩:=HD U.out;obtain⟨L,S⟩:=h2.alloc (c:=0) (nl:=True) (w:=V.w) (ob:=.cells e k []) rfl rfl rfl rfl (i9 _) (λ_ _=>rfl) (.inl ⟨by simp[Au],rfl⟩);obtain⟨J,R⟩:=L.alloc (c:=0) (nl:=True) (w:=V.w) (ob:=.cells e' k' []) rfl rfl rfl rfl (i9 _) (λ_ _=>rfl) (.inl ⟨by simp[Au],rfl⟩);obtain⟨I,Q⟩:=J.alloc (c:=0) (nl:=True) (w:=V.w) (ob:=.cells e'' k'' []) rfl rfl rfl rfl (i9 _) (λ_ _=>rfl) (.inl ⟨by simp[Au],rfl⟩);have y:=(S.trans R).trans Q;have M:=C8 (V:=Au (Au (Au V V.w.heap.size 0 True V.w) V.w.heap.size 0 True V.w) V.w.heap.size 0 True V.w) (ρ:=ρ) parts.toList es qs (λx F e he=>(h1.get (by simp only[Op.operands];simpa using F) he).ext y) N Y
  have B : C1 (Au (Au (Au V V.w.heap.size 0 True V.w) V.w.heap.size 0 True V.w) V.w.heap.size 0 True V.w) ((((z.map zC).set p (.arr V.nx k 0 0)).set q (.arr (V.nx+1) k' 0 0)).set s (.arr (V.nx+2) k'' 0 0)) zv.cells:=by
   refine⟨by rw[l3,l3,l3,f7,<-m];simp,λj c v h X=>?_⟩
   have b:z[j]?=some v:=by rw[<-m,mw];exact X
   by_cases o:s=j
   ·subst o
    rw[l]at b
    injection b with b
    subst b;rw[mj (by rw[l3,l3,f7];exact(am.1 l).1)]at h
    injection h with h
    subst h;exact AF.nil (by simp[Au]) (by simp[Au])
   ·rw [ml o]at h
    by_cases r:q=j
    ·subst r
     rw[n]at b
     injection b with b
     subst b;rw[mj (by rw[l3,f7];exact(am.1 n).1)]at h
     injection h with h
     subst h;exact AF.nil (by simp[Au]) (by simp[Au])
    ·rw [ml r]at h
     by_cases u:p=j
     ·subst u
      rw[T]at b
      injection b with b
      subst b;rw[mj (by rw[f7];exact(am.1 T).1)]at h
      injection h with h
      subst h;exact AF.nil (by simp[Au];omega) (by simp[Au])
     ·rw[ml u,io,b]at h
      injection h with h
      subst h;exact JF (ge.1 G v (co b))
  obtain⟨cells,h4,h5⟩:=FK _ _ _ _ M B (λx F=>by rw[l3,l3,l3,f7];exact HY _ _ H x F);have hb:=run_build (P:=P) (ρ:=ρ) (parts:=parts) (V:=V) hi A hf.out h4;refine⟨.agg cells,_,_,_,?_,y,I,(show Bd _ (.a _) _ from ⟨cells,rfl,h5⟩),hK⟩
  show ((do let v <-Instr.build t (parts.map λ(i,x)=>(i,ρ x));pure (Go.Next.value v):Sem Go.Next)).run P V.w=_
  simp only[lK,hb,lc];rfl
end
theorem NY{a b:Int}(ha:Bn a=true)(hb:Bn b=true):Ac (ID .i64 a b)=(Ac a).filter λl=>!AT b l.toNat:=by
 have key:((List.range 64).all λx=>(List.range 64).all λy=>decide (Ac (ID .i64 (x:Nat) (y:Nat))=(Ac (x:Nat)).filter λl=>!AT (y:Nat) l.toNat))=true:=by kernel_rfl
 unfold Bn at ha hb;simp only[decide_eq_true_eq]at ha hb;have d:=ge.1 key a.toNat (lS.2 (by omega));have c:=ge.1 d b.toNat (lS.2 (by omega));rw[mB ha.1,mB hb.1]at c;exact of_decide_eq_true c
abbrev Qb(t:CW):List D:=[iD t.s.al,iD t.s.st,DY t.s.es,iD t.q.al,Er t.q.nx,GK t.q.ac,iD t.al]
abbrev g9(t:CW):E:=.a ((Qb t).map .d)
theorem Sd(t:CW)(ok:W->Prop):HF t ok ⟨[],[],[]⟩:=⟨rfl,rfl,kw,by simp,by simp,by simp,by simp⟩
theorem QT[CG TB]{t:CW}(ht:Bu t=true)(ok:W->Prop):∃m,Ma t ok m/\AH Tryz.prog TB 52 0 [] 0 [g9 t] (λx σ nx=>x=.o (.ptr 0 14 0 0)/\σ=LN t m/\nx=5):=by
 have hs:Ay t.s=true:=by unfold Bu at ht;simp only[d4]at ht;exact ht.1
 have n:Bn t.al=true:=by unfold Bu at ht;simp only[d4]at ht;exact ht.2.2
 have p:=AE hs;have z:=OY ht;obtain⟨j,k,c,f⟩:=YE (TB:=TB) ht (Sd t ok) (by simp) (G0 ht)
 have d:j=HT t ⟨[],[],[]⟩ (CT t):=by
  rcases c with ⟨_,w⟩|⟨w,_,_⟩
  ·simp at w
  ·exact w
 have e:=RZ (TB:=TB) ht ⟨[],[],[]⟩ z;refine⟨j,⟨by rw[d];exact U8 (Sd t ok) .start (.inl rfl) (by simp),by rw[d];rfl⟩,?_⟩;have u:=Hp (TB:=TB) t.s hs;have l:=ER (TB:=TB) t.q (DA ht);have b:=Cj (TB:=TB) (ID .i64 t.s.al t.al);rw[NY p.1 n]at b;have b:Pure Tryz.prog TB 53 [eI .i64 (ID .i64 t.s.al t.al)] (AX (CR t)):=b;rw[show WX t KV=CT t from rfl]at e;have v:mapA .u16 (Pe [])=[]:=rfl;have r:Gn KV=[1,0,0,0,0,0,0,0,0,0,0,0]:=rfl;refine AH.A3 (AH.Pg (m:=0) (ce rfl) Tryz.func52 rfl (by kernel_rfl) (ce rfl) ?_);intro Γ a;(repeat first|refine tA rfl ?_|refine aU rfl ?_|apply Aa);refine rG (JG [(14,1),(15,1),(16,1)]) (by kernel_rfl) ?_;(repeat first|refine tX rfl ?_|refine sP rfl (u) rfl ?_|refine sP rfl (l) rfl ?_|refine sP rfl (b) rfl ?_|(refine Ag rfl ?_;refine gA rfl ?_;first|refine gS (λ_ _=>ZO rfl rfl rfl) ?_));(refine pW rfl ?_ rfl (by rfl);refine PM ?_);(refine pW rfl ?_ rfl (by rfl);refine Xy 10 12 150 12 6 94 13 1 4 rfl rfl rfl (by decide) rfl rfl (by rfl) (by rfl) ?_);(refine pW rfl ?_ rfl (by rfl);refine CY rfl rfl ?_);(repeat first|refine tA rfl ?_);apply Aa;refine Aj.Aw [] [] rfl rfl [(3,.o (.ptr 0 14 0 0))] [(0,.cells 89 14 [aN t (.arr 1 12 0 0) (.mp 2) (.arr 3 6 0 0) (.arr 4 1 0 0)]),(1,.cells 150 12 []),(2,.mp []),(3,.cells 94 6 []),(4,.cells 4 1 [])] [4,1,0,2,3] (rl a rfl) (by (simp[cX,zC,a,AZ])) ?_;(try dsimp only[cA,cB]);(repeat first|refine tA rfl ?_|(refine Ag rfl ?_;refine gA rfl ?_;first|refine gS (λ_ _=>AP rfl rfl (by rfl) (by rfl)) ?_)|refine aU rfl ?_);(refine pW rfl ?_ rfl (by rfl);refine Af [0,1,2,3,4] rfl rfl (e) ⟨rfl,by decide,by decide⟩ rfl (by simp[cX,zC,a,AZ,r,v]) ?_;rintro y g h ⟨rfl,rfl,rfl⟩ _);(refine pW rfl ?_ rfl (by rfl);refine BR [0,1,2,3,4] rfl rfl 1 (f) (by decide) ⟨rfl,by decide,by decide⟩ rfl (by simp[cX,zC,a,AZ]) ?_;rintro y g h ⟨rfl,rfl,rfl⟩ _);apply Aa;(repeat first|refine tA rfl ?_|refine aU rfl ?_|apply Aa);refine aR ⟨_,rfl,[0,5,6,7,8],.o (.ptr 0 14 0 0),LN t j,⟨by intro i hi;omega,by decide⟩,rfl,by (simp[cX,zC,a,AZ]),rfl,rfl,rfl⟩
def Ix(b:List UInt8)(p m:Int)(P:Sys->Prop)(x:E)(σ:Ab)(nx:Nat):Prop:=∃(p':Int) (s:Sys),(p<=p'/\p'<=p+m)/\P s/\x=Bi s/\σ=[(0,A6 b p')]/\nx=1
def jJ(n:Int)(s:Sys):Prop:=s.st=n/\(∀e∈s.es,0<=e.t/\e.t<n)/\s.es.length<=400
theorem Gi(b:List UInt8)(hb:b.length<=2000)(p:Int)(h0:0<=p/\p<900000000)(al n few:Int)(Z:0<=n/\n<=8):AH Tryz.prog TB 87 1 [(0,A6 b p)] 1 [.o (.ptr 0 2 0 0),eI .i64 al,eI .i64 n,eI .i64 few] (Ix b p 400 (jJ n)):=by
 have V:(Ac al).length<=6:=AQ al 6;refine AH.A3 (AH.Pg (m:=1) (ce rfl) Tryz.func87 rfl (by kernel_rfl) (ce rfl) ?_);intro Γ a;(repeat first|refine tA rfl ?_|refine aU rfl ?_|apply Aa);(refine pW rfl ?_ rfl (by rfl);refine GR 2 3 78 rfl rfl rfl (by rfl) (by rfl) ?_);(repeat first|refine tA rfl ?_|refine sP rfl (Dw al) rfl ?_|refine aU rfl ?_|apply Aa);apply aB;refine aL (α:={s:Nat×Int×List DM // (s.1:Int)<=n/\(p<=s.2.1/\s.2.1<=p+48*s.1)/\(s.2.2.length:Int)<=s.2.1-p/\∀e∈s.2.2,0<=e.t/\e.t<n}) [0,2,3,8,9,10] [1] rfl rfl (λs=>[(11,eI .i64 s.1.1)]) (λs=>[(0,A6 b s.1.2.1),(2,.cells 78 3 (s.1.2.2.map A2)),(3,.cells 25 3 [[.d (iD al),.d (iD n),.arr 2 3 0 s.1.2.2.length]])]) 4 (λs=>n.toNat-s.1.1) (⟨⟨0,p,[]⟩,by simp;omega⟩) a rfl (by (simp[cX,zC,a])) ?_;rintro⟨⟨k,q,es⟩,hk,P,F,K⟩;(try dsimp only[cA,cB]);have hk:(k:Int)<=n:=hk;have P:p<=q/\q<=p+48*k:=P;have F:(es.length:Int)<=q-p:=F;(repeat first|refine tM rfl ?_|refine s2 rfl λ_ f=>?_|refine aU rfl ?_|apply Aa)
 ((refine aC rfl ?_ ?_<;>rintro⟨⟩);all_goals try (simp at f;done))
 ·have U : (k:Int)<n:=by (simp only[oZ] at *;omega)
  apply aK;refine aS (aB ?_);(repeat first|refine tX rfl ?_|refine aU rfl ?_|apply Aa);apply aB;refine aL (α:={s:Nat×Int×List DM // s.1<=(Ac al).length/\(q<=s.2.1/\s.2.1<=q+8*s.1)/\(s.2.2.length:Int)<=s.2.1-p/\∀e∈s.2.2,0<=e.t/\e.t<n}) [0,2,3,8,9,10,11] [1] rfl rfl (λs=>[(12,eI .i64 s.1.1)]) (λs=>[(0,A6 b s.1.2.1),(2,.cells 78 3 (s.1.2.2.map A2)),(3,.cells 25 3 [[.d (iD al),.d (iD n),.arr 2 3 0 s.1.2.2.length]])]) 4 (λs=>(Ac al).length-s.1.1) (⟨⟨0,q,es⟩,by simp,by simp,F,K⟩) a rfl (by (simp[cX,zC,a])) ?_;rintro⟨⟨i,u,z⟩,hi,M,g,y⟩;(try dsimp only[cA,cB]);have hi:i<=(Ac al).length:=hi;have M:q<=u/\u<=q+8*i:=M;have g:(z.length:Int)<=u-p:=g;clear K F;(repeat first|refine sN rfl ?_|refine tM rfl ?_|refine s2 rfl λ_ f=>?_|refine aU rfl ?_|apply Aa)
  ((refine aC rfl ?_ ?_<;>rintro⟨⟩);all_goals try (simp at f;done))
  ·have B:i<(Ac al).length:=by (simp only[oZ] at *;omega)
   obtain⟨l,G⟩:=get_some B
   have X:((Ac al).map DJ)[((i:Nat):Int).toNat]?=some (DJ l):=by rw[i7];simp[G]
   apply aK;refine aS (aB ?_);(repeat first|refine tX rfl ?_|refine aU rfl ?_|apply Aa);apply aB;refine aL (α:={s:Nat×Int×List DM // (s.1:Int)<=n/\(u<=s.2.1/\s.2.1<=u+s.1)/\(s.2.2.length:Int)<=s.2.1-p/\∀e∈s.2.2,0<=e.t/\e.t<n}) [0,2,3,8,9,10,11,12] [1] rfl rfl (λs=>[(13,eI .i64 s.1.1)]) (λs=>[(0,A6 b s.1.2.1),(2,.cells 78 3 (s.1.2.2.map A2)),(3,.cells 25 3 [[.d (iD al),.d (iD n),.arr 2 3 0 s.1.2.2.length]])]) 4 (λs=>n.toNat-s.1.1) (⟨⟨0,u,z⟩,by simp;omega,by simp,g,y⟩) a rfl (by (simp[cX,zC,a])) ?_;rintro⟨⟨j,v,h⟩,Q,L,w,x⟩;(try dsimp only[cA,cB]);have Q:(j:Int)<=n:=Q;have L:u<=v/\v<=u+j:=L;have w:(h.length:Int)<=v-p:=w;clear y g;(repeat first|refine tM rfl ?_|refine s2 rfl λ_ f=>?_|refine aU rfl ?_|apply Aa)
   ((refine aC rfl ?_ ?_<;>rintro⟨⟩);all_goals try (simp at f;done))
   ·obtain⟨c,c1,c2,T⟩:=A4 (TB:=TB) b hb v few (by omega)
    have I:(j:Int)<n:=by (simp only[oZ] at *;omega)
    apply aK;refine aS (aB ?_);(repeat first|refine tA rfl ?_|refine aU rfl ?_);(refine pW rfl ?_ rfl (by rfl);refine Af [0] rfl rfl (T) ⟨rfl,by decide,by decide⟩ rfl (by simp[cX,zC,a]) ?_;rintro Y R S ⟨rfl,rfl,rfl⟩ _);(repeat first|refine s2 rfl λ_ f=>?_|apply Aa);(refine aC rfl ?_ ?_<;>rintro⟨⟩)
    ·refine rG (JG [(1,13),(10,1),(12,1)]) (by kernel_rfl) ?_
     (repeat first|refine tA rfl ?_|(refine s4 rfl ‹_› rfl ?_ ?_;omega)|(refine Ag rfl ?_;refine gA rfl ?_;first|refine gS (λ_ _=>AP rfl rfl (by rfl) (by rfl)) ?_));(refine pW rfl ?_ rfl (by rfl);refine Al rfl rfl rfl (by first|(simp;done)|(simp;(omega))) rfl (by intro r N;simp at N;subst N;rfl) (by rfl) (ce rfl) (by simp;omega) ?_);(repeat first|(refine sA rfl ?_ ?_;first|exact tI|omega)|refine aU rfl ?_|apply Aa)
     have J:∀e∈h++[(⟨k,l,j⟩:DM)],0<=e.t/\e.t<n:=λe A=>by
      rcases f6.1 A with A|A
      ·exact x e A
      ·simp at A;subst A;exact⟨by dsimp only;omega,I⟩
     refine⟨⟨⟨j+1,v+1,h++[⟨k,l,j⟩]⟩,by dsimp only;omega,by dsimp only;omega,by simp;omega,J⟩,by dsimp only;(omega),[0,1,4,3],?_⟩;(simp[cX,zC,a,cN]<;>rfl)
    ·apply aK
     (repeat first|(refine sA rfl ?_ ?_;first|exact tI|omega)|refine aU rfl ?_|apply Aa);refine⟨⟨⟨j+1,v+1,h⟩,by dsimp only;omega,by dsimp only;omega,by dsimp only;omega,x⟩,by dsimp only;(omega),[0,1,2,3],?_⟩;(simp[cX,zC,a,cN]<;>rfl)
   ·have H:(j:Int)=n:=by (simp only[oZ] at *;omega)
    apply aE;(repeat first|(refine sA rfl ?_ ?_;first|exact tI|omega)|refine aU rfl ?_|apply Aa);refine⟨⟨⟨i+1,v,h⟩,by dsimp only;omega,by dsimp only;omega,w,x⟩,by dsimp only;(omega),[0,1,2,3],?_⟩;(simp[cX,zC,a,cN]<;>rfl)
  ·apply aE
   have B:i=(Ac al).length:=by (simp only[oZ] at *;omega)
   (repeat first|(refine sA rfl ?_ ?_;first|exact tI|omega)|refine aU rfl ?_|apply Aa);refine⟨⟨⟨k+1,u,z⟩,by dsimp only;omega,by dsimp only;omega,g,y⟩,by dsimp only;(omega),[0,1,2,3],?_⟩;(simp[cX,zC,a,cN]<;>rfl)
 ·have H:(k:Int)=n:=by (simp only[oZ] at *;omega)
  apply aE;(repeat first|refine tA rfl ?_|refine aU rfl ?_|apply Aa);refine Aj.AD [1,2] [(8,.o (.ip [iD al,iD n,DY es]))] ⟨⟨_,rfl,.inr (.o (.box rfl (.cons .d (.cons .d (.cons (.full rfl (by simp[d7]) (by simp)) .nil)))))⟩,trivial⟩ ?_;refine aR ⟨_,rfl,[0],Bi ⟨al,n,es⟩,[(0,A6 b q)],⟨by intro i hi;match i with|0=>rfl,by decide⟩,rfl,by (simp[cX,zC,a,cN]),q,⟨al,n,es⟩,by omega,⟨rfl,K,by dsimp only;omega⟩,rfl,rfl,rfl⟩
def kE(m:Int)(s:Sys):Prop:=(∀e∈s.es,0<=e.t/\e.t<m)/\s.es.length<=400
theorem jJ.le{n m:Int}{s:Sys}(h:jJ n s)(b:n<=m):kE m s:=⟨λe a=>by have:=h.2.1 e a;omega,h.2.2⟩
theorem NV(b:List UInt8)(hb:b.length<=2000)(p:Int)(w:0<=p/\p<800000000):Spec Tryz.prog TB 173 [(0,A6 b p)] 1 [.o (.ptr 0 2 0 0)] (Ix b p 403 (kE 5)):=by
 obtain⟨j,u,r⟩:=CL (TB:=TB) b hb p (by omega) [3,6,7,5,2] (by decide) (by decide);obtain⟨g,l,n⟩:=CL (TB:=TB) b hb (p+1) (by omega) [2,3,1,3] (by decide) (by decide);obtain⟨h,t,m⟩:=CL (TB:=TB) b hb (p+1+1) (by omega) [2,3,4] (by decide) (by decide)
 have k:1<=g/\g<=3:=by simp at l;omega
 have f:=Gi (TB:=TB) b hb (p+1+1+1) (by omega) j g h (by omega);refine eR Tryz.func173 rfl (by kernel_rfl) rfl ?_;intro Γ a;(repeat first|refine tA rfl ?_|refine aU rfl ?_|apply Aa);(refine pW rfl ?_ rfl (by rfl);refine Af [0] rfl rfl (r) ⟨rfl,by decide,by decide⟩ rfl (by simp[cX,zC,a]) ?_;rintro e c d ⟨rfl,rfl,rfl⟩ _);(repeat first|refine tA rfl ?_);(refine pW rfl ?_ rfl (by rfl);refine Af [0] rfl rfl (n) ⟨rfl,by decide,by decide⟩ rfl (by simp[cX,zC,a]) ?_;rintro e c d ⟨rfl,rfl,rfl⟩ _);(repeat first|refine tA rfl ?_);(refine pW rfl ?_ rfl (by rfl);refine Af [0] rfl rfl (m) ⟨rfl,by decide,by decide⟩ rfl (by simp[cX,zC,a]) ?_;rintro e c d ⟨rfl,rfl,rfl⟩ _);(refine pW rfl ?_ rfl (by rfl);refine BR [0] rfl rfl 1 (f) (by decide) ⟨rfl,by decide,by decide⟩ rfl (by simp[cX,zC,a,cN]) ?_;rintro e c d ⟨q,s,v,hs,rfl,rfl,rfl⟩ _);(repeat first|refine tA rfl ?_|apply Aa);refine aR ⟨_,rfl,[0],Bi s,[(0,A6 b q)],⟨by intro i hi;match i with|0=>rfl,by decide⟩,rfl,by (simp[cX,zC,a,cN]),q,s,by omega,hs.le (by omega),rfl,rfl,rfl⟩
theorem Xn(b:List UInt8)(hb:b.length<=2000)(p:Int)(j:0<=p/\p<800000000):∃n:Int,Spec Tryz.prog TB 212 [(0,A6 b p)] 1 [.o (.ptr 0 2 0 0)] (λx σ nx=>x=eI .i64 n/\σ=[(0,A6 b (p+1))]/\nx=1):=by
 obtain⟨e,h,f⟩:=CL (TB:=TB) b hb p (by omega) [3,7,1,5,0,6,63,2,21] (by decide) (by decide);refine⟨e,?_⟩;refine eR Tryz.func212 rfl (by kernel_rfl) rfl ?_;intro Γ a;(repeat first|refine tA rfl ?_|refine aU rfl ?_|apply Aa);(refine pW rfl ?_ rfl (by rfl);refine Af [0] rfl rfl (f) ⟨rfl,by decide,by decide⟩ rfl (by simp[cX,zC,a]) ?_;rintro g c d ⟨rfl,rfl,rfl⟩ _);(repeat first|refine tA rfl ?_|apply Aa);refine aR ⟨_,rfl,?_⟩;refine⟨[0],_,[(0,A6 b (p+1))],⟨by first|(simp;done)|decide|(intro i hi;match i with|0=>rfl),by decide⟩,rfl,by (simp[cX,zC,a]),rfl,rfl,rfl⟩
theorem Pb(b:List UInt8)(hb:b.length<=2000)(p:Int)(P:0<=p/\p<700000000)(al:Int):Spec Tryz.prog TB 174 [(0,A6 b p)] 1 [.o (.ptr 0 2 0 0),eI .i64 al] (JI b p 100 (λa=>KX 6 a)):=by
 obtain⟨v,N,I⟩:=CL (TB:=TB) b hb p (by omega) [63,63,5,3,6] (by decide) (by decide);obtain⟨c,R,Q,J⟩:=A4 (TB:=TB) b hb (p+1) 8 (by omega);obtain⟨H,hs⟩:=Xn (TB:=TB) b hb (p+1+1) (by omega);refine eR Tryz.func174 rfl (by kernel_rfl) rfl ?_;intro Γ e;(repeat first|refine tA rfl ?_|refine aU rfl ?_|apply Aa);(refine pW rfl ?_ rfl (by rfl);refine Af [0] rfl rfl (I) ⟨rfl,by decide,by decide⟩ rfl (by simp[cX,zC,e]) ?_;rintro h f g ⟨rfl,rfl,rfl⟩ _);(repeat first|refine tA rfl ?_|refine aU rfl ?_|apply Aa);(refine pW rfl ?_ rfl (by rfl);refine Af [0] rfl rfl (J) ⟨rfl,by decide,by decide⟩ rfl (by simp[cX,zC,e]) ?_;rintro h f g ⟨rfl,rfl,rfl⟩ _);(repeat first|refine s2 rfl λ_ u=>?_|apply Aa);(refine aC rfl ?_ ?_<;>rintro⟨⟩)
 ·(repeat first|refine tA rfl ?_|refine aU rfl ?_)
  (refine pW rfl ?_ rfl (by rfl);refine Af [0] rfl rfl (hs) ⟨rfl,by decide,by decide⟩ rfl (by simp[cX,zC,e]) ?_;rintro h f g ⟨rfl,rfl,rfl⟩ _);(repeat first|refine tA rfl ?_|refine aU rfl ?_|apply Aa);obtain⟨M,L,K,m⟩:=A4 (TB:=TB) b hb (p+1+1+1) 4 (by omega);obtain⟨k,x,y⟩:=CL (TB:=TB) b hb (p+1+1+1+1) (by omega) [3,2,4,1] (by decide) (by decide)
  have w:1<=k/\k<=4:=by simp at x;omega
  have G:=Lt (TB:=TB) b hb (p+1+1+1+1+1) (by omega) (H) k (by omega);have F:=PH (TB:=TB) b hb (p+1+1+1+1) (by omega) (H)
  obtain⟨j,rfl⟩:∃j,j=H:=⟨_,rfl⟩
  (refine pW rfl ?_ rfl (by rfl);refine Af [0] rfl rfl (m) ⟨rfl,by decide,by decide⟩ rfl (by simp[cX,zC,e]) ?_;rintro h f g ⟨rfl,rfl,rfl⟩ _);(repeat first|refine s2 rfl λ_ u=>?_|apply Aa);(refine aC rfl ?_ ?_<;>rintro⟨⟩)
  ·(repeat first|refine tA rfl ?_|refine aU rfl ?_)
   (refine pW rfl ?_ rfl (by rfl);refine Af [0] rfl rfl (y) ⟨rfl,by decide,by decide⟩ rfl (by simp[cX,zC,e]) ?_;rintro h f g ⟨rfl,rfl,rfl⟩ _);(refine pW rfl ?_ rfl (by rfl);refine BR [0] rfl rfl 1 (G) (by decide) ⟨rfl,by decide,by decide⟩ rfl (by simp[cX,zC,e,cN]) ?_;rintro h f g ⟨q,l,ac,A,B,n,z,rfl,rfl,rfl⟩ _);(repeat first|refine tA rfl ?_|apply Aa);refine Aj.Aw [4] [] rfl rfl [] [(0,A6 b q),(1,.cells 29 3 [[.d (iD j),.arr 2 1 0 l.length,.arr 3 1 0 ac.length]]),(2,.cells 63 1 (AB l)),(3,.cells 4 1 (ac.map AN)),(4,.sld 3 (sI l))] [0,1,2,3,4] (rl e rfl) (by (simp[cX,zC,e,cN])) ?_;(try dsimp only[cA,cB]);refine Aj.AD [1,2,3,4] [(4,.o (.ip (AU ⟨j,l.map (·.2),ac⟩)))] ⟨⟨_,rfl,.inr (.o (.box rfl (.cons .d (.cons (.ML (s:=4) rfl rfl) (.cons (.full rfl (by simp[d7]) (by simp)) .nil)))))⟩,trivial⟩ ?_;refine aR ⟨_,rfl,[0],Bp ⟨j,l.map (·.2),ac⟩,[(0,A6 b q)],⟨by intro i hi;match i with|0=>rfl,by decide⟩,rfl,by (simp[cX,zC,e,cN]),q,_,by omega,QZ B n z (by omega) (by omega),rfl,rfl,rfl⟩
  ·apply aK
   (repeat first|refine tA rfl ?_|refine aU rfl ?_);(refine pW rfl ?_ rfl (by rfl);refine Af [0] rfl rfl (F) ⟨rfl,by decide,by decide⟩ rfl (by simp[cX,zC,e,cN]) ?_;rintro h f g ⟨q,t,A,r,rfl,rfl,rfl⟩ _);(repeat first|refine tA rfl ?_|apply Aa);refine aR ⟨_,rfl,[0],Bp t,[(0,A6 b q)],⟨by intro i hi;match i with|0=>rfl,by decide⟩,rfl,by (simp[cX,zC,e,cN]),q,t,by omega,r.2,rfl,rfl,rfl⟩
 ·apply aK
  (repeat first|refine tA rfl ?_|refine aU rfl ?_);obtain⟨M,L,K,m⟩:=A4 (TB:=TB) b hb (p+1+1) 4 (by omega);obtain⟨k,x,y⟩:=CL (TB:=TB) b hb (p+1+1+1) (by omega) [3,2,4,1] (by decide) (by decide)
  have w:1<=k/\k<=4:=by simp at x;omega
  have G:=Lt (TB:=TB) b hb (p+1+1+1+1) (by omega) (I7 .i64 al v) k (by omega);have F:=PH (TB:=TB) b hb (p+1+1+1) (by omega) (I7 .i64 al v);generalize I7 .i64 al v=j at *;(refine pW rfl ?_ rfl (by rfl);refine Af [0] rfl rfl (m) ⟨rfl,by decide,by decide⟩ rfl (by simp[cX,zC,e]) ?_;rintro h f g ⟨rfl,rfl,rfl⟩ _);(repeat first|refine s2 rfl λ_ u=>?_|apply Aa);(refine aC rfl ?_ ?_<;>rintro⟨⟩)
  ·(repeat first|refine tA rfl ?_|refine aU rfl ?_)
   (refine pW rfl ?_ rfl (by rfl);refine Af [0] rfl rfl (y) ⟨rfl,by decide,by decide⟩ rfl (by simp[cX,zC,e]) ?_;rintro h f g ⟨rfl,rfl,rfl⟩ _);(refine pW rfl ?_ rfl (by rfl);refine BR [0] rfl rfl 1 (G) (by decide) ⟨rfl,by decide,by decide⟩ rfl (by simp[cX,zC,e,cN]) ?_;rintro h f g ⟨q,l,ac,A,B,n,z,rfl,rfl,rfl⟩ _);(repeat first|refine tA rfl ?_|apply Aa);refine Aj.Aw [4] [] rfl rfl [] [(0,A6 b q),(1,.cells 29 3 [[.d (iD j),.arr 2 1 0 l.length,.arr 3 1 0 ac.length]]),(2,.cells 63 1 (AB l)),(3,.cells 4 1 (ac.map AN)),(4,.sld 3 (sI l))] [0,1,2,3,4] (rl e rfl) (by (simp[cX,zC,e,cN])) ?_;(try dsimp only[cA,cB]);refine Aj.AD [1,2,3,4] [(4,.o (.ip (AU ⟨j,l.map (·.2),ac⟩)))] ⟨⟨_,rfl,.inr (.o (.box rfl (.cons .d (.cons (.ML (s:=4) rfl rfl) (.cons (.full rfl (by simp[d7]) (by simp)) .nil)))))⟩,trivial⟩ ?_;refine aR ⟨_,rfl,[0],Bp ⟨j,l.map (·.2),ac⟩,[(0,A6 b q)],⟨by intro i hi;match i with|0=>rfl,by decide⟩,rfl,by (simp[cX,zC,e,cN]),q,_,by omega,QZ B n z (by omega) (by omega),rfl,rfl,rfl⟩
  ·apply aK
   (repeat first|refine tA rfl ?_|refine aU rfl ?_);(refine pW rfl ?_ rfl (by rfl);refine Af [0] rfl rfl (F) ⟨rfl,by decide,by decide⟩ rfl (by simp[cX,zC,e,cN]) ?_;rintro h f g ⟨q,t,A,r,rfl,rfl,rfl⟩ _);(repeat first|refine tA rfl ?_|apply Aa);refine aR ⟨_,rfl,[0],Bp t,[(0,A6 b q)],⟨by intro i hi;match i with|0=>rfl,by decide⟩,rfl,by (simp[cX,zC,e,cN]),q,t,by omega,r.2,rfl,rfl,rfl⟩
end Go.Am
