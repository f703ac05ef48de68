/-
  The reference's automata: runs, answers; what tells two automata apart.
-/
import Derived.Test.YtgpbfllcjdfelaaGreatDoorPart23
import Derived.Test.YtgpbfllcjdfelaaGreatDoorPart20
set_option linter.all false
namespace Go.Am
open Go Go.Proofs
set_option maxHeartbeats 1000000
set_option maxRecDepth 4000
attribute [local irreducible] AU BZ Lex Br Aj Spec
variable {TB:Bp}
theorem Ep{w:W}{al:Int}(h:within w al=true):AD (A2 al) w:=by
 unfold within at h;simp only [d5,decide_eq_true_eq] at h;intro c b;have a:=(f7.1 h.2.2) c b;unfold IK FD at a;simp only [d5,decide_eq_true_eq] at a;refine d8.2 ⟨((c.toNat - 97:Nat):Int),Gd.2 ⟨by omega,a.2⟩,?_⟩;unfold lb
 have e:97+((c.toNat - 97:Nat):Int).toNat=c.toNat:=by omega
 rw [e];simp
theorem MG{w:W}{al:Int}(h:AD (A2 al) w)(d:w.length<=50000)(ha:BO al=true):within w al=true:=by
 unfold within;simp only [d5,decide_eq_true_eq];refine⟨d,ha,f7.2 λc f=>?_⟩;obtain⟨l,b,rfl⟩:=d8.1 (h c f);have a:=Au b;have g:=Ff a.1 (by omega);unfold IK FD;simp only [d5,decide_eq_true_eq]
 have e:(lb l).toNat - 97=l.toNat:=by omega
 rw [e];exact⟨by omega,a.2.2⟩
theorem X8{p:AY}(hp:AL p=true)(w:W)(hw:AD (A2 p.al) w)(o:w.length<=1099511627776):Pure Tryz.prog TB 288 [Bi p,eI .i64 0,eT w] (eI .i64 (AI p 0 w)):=by
 have m:=Ax hp;refine eN Tryz.func288 rfl (by kernel_rfl) rfl ?_;intro Γ a;(repeat first|refine tA rfl ?_ |refine aU rfl ?_ |refine Aa ?_);refine aB ?_;refine aL (U:={k:Nat // k<=w.length}) [2,3] [] rfl rfl (λ⟨k,hk⟩=>[(1,eI .i64 (AI p 0 (w.take k))),(7,eI .i64 k)]) (λ⟨k,hk⟩=>[]) 0 (λ⟨k,hk⟩=>w.length - k) (⟨0,by omega⟩) a rfl (by (simp[cX,zC,a]<;>rfl)) ?_;rintro⟨k,hk⟩;(try dsimp only[cA,cB]);have n:=DW hp (w.take k) 0 (Pw hw k) (by omega);by_cases g:k < w.length
 ·obtain⟨c,j⟩:=get_some g
  have i:w[((k:Nat):Int).toNat]? = some c:=by simpa using j
  have d:=GW (hw c (co j));have h:=Jk (TB:=TB) w k c i;have b:=Pj (TB:=TB) p hp (AI p 0 (w.take k)).toNat (by omega) ((c.toNat:Int) - 97) d.1 d.2
  have e:(((AI p 0 (w.take k)).toNat:Nat):Int)=AI p 0 (w.take k):=by omega
  rw [e] at b;have f:=KE (p:=p) j 0;rw [<-f] at b;(repeat first|refine tA rfl ?_ |refine s2 rfl λ_ l=>?_ |refine aU rfl ?_ |refine Aa ?_);(refine aC rfl ?_ ?_<;>rintro⟨⟩)
  ·(repeat' first|(refine sA rfl ?_ ?_;first|exact tI|omega) |refine sP rfl (h) rfl ?_|refine sP rfl (b) rfl ?_ |refine aU rfl ?_ |refine Aa ?_ |refine rE (by kernel_rfl) ?_|(refine aC rfl ?_ ?_<;>rintro⟨⟩)|refine aK ?_|refine aE ?_|refine aB ?_|refine aR ⟨_,rfl,?_⟩)
   refine⟨⟨k+1,by omega⟩,by dsimp only;(omega),[],?_⟩;simp[cX,zC,a]
  ·exfalso;(simp only[oZ] at *;omega)
 ·obtain rfl:k=w.length:=by omega
  rw [kz];(repeat first|refine tA rfl ?_ |refine s2 rfl λ_ l=>?_ |refine aU rfl ?_ |refine Aa ?_);(refine aC rfl ?_ ?_<;>rintro⟨⟩)
  ·exfalso;(simp only[oZ] at *;omega)
  ·(repeat' first|refine tA rfl ?_ |refine aU rfl ?_ |refine Aa ?_|(refine aC rfl ?_ ?_<;>rintro⟨⟩)|refine aK ?_|refine aE ?_|refine aB ?_|refine aR ⟨_,rfl,?_⟩)
   rfl
def CB(p:AY)(w:W):Int:=if AL p && within w p.al then AI p 0 w else -1
def NL(p:AY)(w:W):Bool:=AL p && (within w p.al && LA p w)
theorem Od(p:AY)(w:W)(e:w.length<=1099511627776):Pure Tryz.prog TB 273 [Bi p,eT w] (eI .i64 (CB p w)):=by
 have g:=BJ (TB:=TB) p;have f:=Dw (TB:=TB) w p.al e;by_cases b:(AL p && within w p.al)=true
 ·have d:CB p w=AI p 0 w:=by unfold CB;rw [if_pos b]
  rw [d];rw [d5] at b;have h:=X8 (TB:=TB) b.1 w (Ep b.2) e;refine eN Tryz.func273 rfl (by kernel_rfl) rfl ?_;intro Γ c;(repeat' first|refine tA rfl ?_ |refine s2 rfl λ_ a=>?_ |(refine sC rfl (g) ?_;intro _ a)|(refine sC rfl (f) ?_;intro _ a)|refine sP rfl (h) rfl ?_ |refine s3 rfl ?_ ?_<;>rintro rfl |refine aU rfl ?_ |refine Aa ?_|(refine aC rfl ?_ ?_<;>rintro⟨⟩)|refine aK ?_|refine aE ?_|refine aB ?_|refine aR ⟨_,rfl,?_⟩)
  all_goals first
   | rfl
   | (exfalso;grind;done)
 ·have d:CB p w = -1:=by unfold CB;rw [if_neg b]
  rw [d];refine eN Tryz.func273 rfl (by kernel_rfl) rfl ?_;intro Γ c;(repeat' first|refine tA rfl ?_ |refine s2 rfl λ_ a=>?_ |(refine sC rfl (g) ?_;intro _ a)|(refine sC rfl (f) ?_;intro _ a) |refine s3 rfl ?_ ?_<;>rintro rfl |refine aU rfl ?_ |refine Aa ?_|(refine aC rfl ?_ ?_<;>rintro⟨⟩)|refine aK ?_|refine aE ?_|refine aB ?_|refine aR ⟨_,rfl,?_⟩)
  all_goals first
   | rfl
   | (exfalso;grind;done)
theorem Ma(p:AY)(w:W)(h:w.length<=1099511627776):Pure Tryz.prog TB 221 [Bi p,eT w] (eB (NL p w)):=by
 have c:=Od (TB:=TB) p w h;by_cases a:(AL p && within w p.al)=true
 ·have e:CB p w=AI p 0 w:=by unfold CB;rw [if_pos a]
  rw [e] at c;rw [d5] at a;have g:=Ax a.1;have j:=DW a.1 w 0 (Ep a.2) (by omega);obtain⟨b,hb⟩:=get_some (l:=p.ac) (k:=(AI p 0 w).toNat) (by omega)
  have i:(p.ac.map IB)[(AI p 0 w).toNat]? = some (IB b):=by simp [hb]
  have ha:NL p w=b:=by unfold NL LA;simp [a.1,a.2,List.getD,hb]
  rw [ha];refine eN Tryz.func221 rfl (by kernel_rfl) rfl ?_;intro Γ d;(repeat' first|refine tA rfl ?_ |(refine s4 rfl ‹_› rfl ?_ ?_;omega) |refine s2 rfl λ_ f=>?_ |refine sP rfl (c) rfl ?_ |refine s3 rfl ?_ ?_<;>rintro rfl |refine aU rfl ?_ |refine Aa ?_|(refine aC rfl ?_ ?_<;>rintro⟨⟩)|refine aK ?_|refine aE ?_|refine aB ?_|refine aR ⟨_,rfl,?_⟩)
  all_goals first
   | rfl
   | (exfalso;(simp only[oZ] at *;omega))
 ·have e:CB p w = -1:=by unfold CB;rw [if_neg a]
  rw [e] at c
  have ha:NL p w=false:=by unfold NL;grind
  rw [ha];refine eN Tryz.func221 rfl (by kernel_rfl) rfl ?_;intro Γ d;(repeat' first|refine tA rfl ?_ |refine s2 rfl λ_ f=>?_ |refine sP rfl (c) rfl ?_ |refine s3 rfl ?_ ?_<;>rintro rfl |refine aU rfl ?_ |refine Aa ?_|(refine aC rfl ?_ ?_<;>rintro⟨⟩)|refine aK ?_|refine aE ?_|refine aB ?_|refine aR ⟨_,rfl,?_⟩)
  all_goals first
   | rfl
   | (exfalso;(simp only[oZ] at *;omega))
structure FB where
 kn:Bool
 p:AY
 s:Sys
 q:AY
 al:Int
abbrev C7(t:FB):E:=il t.kn t.p t.s t.q t.al
theorem Ls(t:FB)(hk:t.kn=true):Pure Tryz.prog TB 67 [C7 t] (eI .i64 (if AL t.p then t.p.al else -1)):=by
 obtain⟨kn,p,s,q,al⟩:=t;dsimp only at hk;subst hk;refine eN Tryz.func67 rfl (by kernel_rfl) rfl ?_;intro Γ b;(repeat' first|refine tA rfl ?_ |refine s2 rfl λ_ a=>?_ |(refine sC rfl (BJ p) ?_;intro _ a) |refine s3 rfl ?_ ?_<;>rintro rfl |refine aU rfl ?_ |refine Aa ?_|(refine aC rfl ?_ ?_<;>rintro⟨⟩)|refine aK ?_|refine aE ?_|refine aB ?_|refine aR ⟨_,rfl,?_⟩)
 all_goals first
  | (show E.o _=E.o _;congr;grind)
  | (exfalso;simp at *;done)
theorem Mb(t:FB)(hk:t.kn=true)(w:W)(b:w.length<=1099511627776):Pure Tryz.prog TB 154 [C7 t,eT w] (eB (NL t.p w)):=by
 obtain⟨kn,p,s,q,al⟩:=t;dsimp only at hk;subst hk;have c:=Ma (TB:=TB) p w b;refine eN Tryz.func154 rfl (by kernel_rfl) rfl ?_;intro Γ a;(repeat' first|refine tA rfl ?_ |refine sP rfl (c) rfl ?_ |refine aU rfl ?_ |refine Aa ?_|(refine aC rfl ?_ ?_<;>rintro⟨⟩)|refine aK ?_|refine aE ?_|refine aB ?_|refine aR ⟨_,rfl,?_⟩)
 all_goals rfl
end Go.Am
namespace Go.Am
open Go
set_option linter.unusedVariables false
def BQ(es:List D0)(l:Int)(m:Nat):Nat:=es.foldl (λa e=>if e.l=l/\m.testBit e.f.toNat=true then a ||| 2 ^ e.t.toNat else a) 0
theorem HT{U:Type}{p:U->Prop}[DecidablePred p]{g:U->Nat}{j:Nat}:∀(l:List U) (a:Nat),(l.foldl (λa e=>if p e then a ||| g e else a) a).testBit j=true↔a.testBit j=true\/∃e∈l,p e/\(g e).testBit j=true
 | [],a=>by simp
 | x :: l,a=>by
  rw [mq,HT l];by_cases h:p x
  ·rw [if_pos h,lZ,kR]
   constructor
   ·rintro((b|b)|⟨e,b,c⟩)
    ·exact .inl b
    ·exact .inr ⟨x,by simp,h,b⟩
    ·exact .inr ⟨e,by simp [b],c⟩
   ·rintro(b|⟨e,b,c,d⟩)
    ·exact .inl (.inl b)
    ·rcases kw.1 b with rfl|b
     ·exact .inl (.inr d)
     ·exact .inr ⟨e,b,c,d⟩
  ·rw [if_neg h]
   constructor
   ·rintro(b|⟨e,b,c⟩)
    ·exact .inl b
    ·exact .inr ⟨e,by simp [b],c⟩
   ·rintro(b|⟨e,b,c,d⟩)
    ·exact .inl b
    ·rcases kw.1 b with rfl|b
     ·exact absurd c h
     ·exact .inr ⟨e,b,c,d⟩
theorem Ek{es:List D0}{l:Int}{m j:Nat}:(BQ es l m).testBit j=true↔∃e∈es,(e.l=l/\m.testBit e.f.toNat=true)/\e.t.toNat=j:=by
 unfold BQ;rw [HT];simp [mf]
structure Cw where
 s:Sys
 q:AY
 al:Int
def A3(t:Cw):Bool:=BD t.s && (AL t.q && BO t.al)
def CG(t:Cw):List Int:=(Ac t.s.al).filter λl=>!Eg t.al l.toNat
def C4(s:Sys)(l:Int)(m:Nat):Nat:=if Eg s.al l.toNat then BQ s.es l m else m
abbrev PS:=Nat->Nat
def Ur(t:Cw)(l:Int)(F:PS):PS:=λp'=>(List.range t.q.nx.length).foldl (λa p=>if Bj t.q p l=(p':Int) then a ||| C4 t.s l (F p) else a) 0
theorem LJ{t:Cw}{l:Int}{F:PS}{p' j:Nat}:(Ur t l F p').testBit j=true↔∃p,p < t.q.nx.length/\Bj t.q p l=(p':Int)/\(C4 t.s l (F p)).testBit j=true:=by
 unfold Ur;rw [HT];simp
inductive PX (t:Cw) (F0:PS):Nat->Nat->Prop
 | base {p j:Nat}:(F0 p).testBit j=true->PX t F0 p j
 | step {p j:Nat} {e:D0}:PX t F0 p j->e∈t.s.es->e.l∈CG t->e.f.toNat=j->PX t F0 (Bj t.q p e.l).toNat e.t.toNat
open Classical in
noncomputable def RY(t:Cw)(F0:PS):PS:=λp=>(List.range 16).foldl (λa j=>if PX t F0 p j then a ||| 2 ^ j else a) 0
open Classical in
theorem Pa{t:Cw}{F0:PS}{p j:Nat}:(RY t F0 p).testBit j=true↔j < 16/\PX t F0 p j:=by
 unfold RY;rw [HT];simp only [ot,mH,false_or,kB,mf,decide_eq_true_eq];constructor
 ·rintro⟨e,b,a,rfl⟩;exact⟨b,a⟩
 ·rintro⟨b,a⟩;exact⟨j,b,a,rfl⟩
structure C6 (t:Cw) (F:PS):Prop where
 lt:∀p,F p < 65536
 z:∀p,t.q.nx.length<=p->F p=0
theorem HQ{m:Nat}(h:∀j,m.testBit j=true->j < 16):m < 65536:=by
 have:m < 2 ^ 16:=Nat.lt_pow_two_of_testBit m λi hi=>by
  cases hb:m.testBit i
  ·rfl
  ·have:=h i hb;omega
 omega
theorem Jm{m j:Nat}(h:m < 65536)(hb:m.testBit j=true):j < 16:=by
 rcases lc j 16 with a|a
 ·exact a
 ·have:m.testBit j=false:=Nat.testBit_lt_two_pow (kH h (lC (n:=2) (by omega) a))
  rw [this] at hb;cases hb
theorem HR{m:Nat}(h:∀j,m.testBit j=false):m=0:=lT λj=>by rw [h j];simp
section
variable {t:Cw}(ht:A3 t=true)
include ht set_option linter.unusedSectionVars false
theorem RO{e:D0}(a:e∈t.s.es):0<=e.f/\e.f < 16/\0<=e.t/\e.t < 16/\0<=e.l/\e.l < 6:=by
 unfold A3 at ht;simp only [d5] at ht;have b:=CS ht.1 a;have c:=Ch ht.1;unfold C8 at b;grind
theorem CT:AL t.q=true:=by
 unfold A3 at ht;simp only [d5] at ht;exact ht.2.1
theorem GR{l:Int}(h:l∈CG t):0<=l/\l < 6/\Eg t.s.al l.toNat=true:=by
 unfold CG at h;have a:=Au (lk.1 h).1;exact⟨a.1,by omega,a.2.2⟩
theorem HG{l:Int}{m:Nat}(a:m < 65536):C4 t.s l m < 65536:=by
 unfold C4;split
 ·refine HQ λj b=>?_
  obtain⟨e,c,_,rfl⟩:=Ek.1 b;have:=RO ht c;omega
 ·exact a
theorem Kq{l:Int}(a:0<=l/\l < 6){F:PS}(h:C6 t F):C6 t (Ur t l F):=by
 refine⟨λp=>HQ λj d=>?_,λp hp=>HR λj=>?_⟩
 ·obtain⟨q,c,e,b⟩:=LJ.1 d
  exact Jm (HG ht (h.lt q)) b
 ·cases hb:(Ur t l F p).testBit j
  ·rfl
  ·obtain⟨q,c,e,b⟩:=LJ.1 hb
   have:=DA (CT ht) c a.1 a.2;omega
theorem PX.lt{F0:PS}(h:C6 t F0){p j:Nat}(c:PX t F0 p j):p < t.q.nx.length/\j < 16:=by
 induction c with
 | @base p j hb=>
  refine⟨?_,Jm (h.lt p) hb⟩
  rcases lc p t.q.nx.length with a|a
  ·exact a
  ·rw [h.z p a] at hb;simp at hb
 | @step p j e _ d f _ b=>
  have a:=RO ht d;have g:=DA (CT ht) b.1 a.2.2.2.2.1 a.2.2.2.2.2;omega
theorem Xw{F0:PS}(h:C6 t F0):C6 t (RY t F0):=by
 refine⟨λp=>HQ λj a=>(Pa.1 a).1,λp hp=>HR λj=>?_⟩;cases hb:(RY t F0 p).testBit j
 ·rfl
 ·have:=((Pa.1 hb).2.lt ht h).1
  omega
theorem Xv{F0 G:PS}(c:C6 t F0)(n:∀p,t.q.nx.length<=p->G p=0)(m:∀p j,(F0 p).testBit j=true->(G p).testBit j=true)(b:∀p j,(G p).testBit j=true->PX t F0 p j)
 (k:∀p l j,p < t.q.nx.length->l∈CG t->(BQ t.s.es l (G p)).testBit j=true->(G (Bj t.q p l).toNat).testBit j=true):G=RY t F0:=by
 have key:∀ {p j:Nat},PX t F0 p j->(G p).testBit j=true:=λ{p j} a=>by
  induction a with
  | base hb=>exact m _ _ hb
  | @step p j e a i f g d=>exact k p e.l _ (a.lt ht c).1 f (Ek.2 ⟨e,i,⟨rfl,by rw [g];exact d⟩,rfl⟩)
 funext p;refine lT λj=>?_;rw [lV,Pa];exact⟨λh=>⟨((b p j h).lt ht c).2,b p j h⟩,λh=>key h.2⟩
end
def JP:PS:=λp=>if p=0 then 1 else 0
noncomputable def CD(t:Cw):PS:=RY t JP
noncomputable def Ed(t:Cw)(l:Int)(F:PS):PS:=RY t (Ur t l F)
def JV(t:Cw)(F:PS):Bool:=(List.range t.q.nx.length).any λp=>decide (F p≠0) && !(t.q.ac.getD p false)
noncomputable def Iy(t:Cw):PS->W->Bool
 | F,[]=>!JV t F
 | F,c::w=>!JV t F && Iy t (Ed t ((c.toNat:Int) - 97) F) w
noncomputable def LS(t:Cw)(w:W):Bool:=Iy t (CD t) w
section
variable {t:Cw}(ht:A3 t=true)
include ht
theorem NH:C6 t JP:=by
 have h:=Ax (CT ht);refine⟨λp=>by unfold JP;split<;>omega,λp hp=>by unfold JP;rw [if_neg (by omega)]⟩
theorem KH:C6 t (CD t):=Xw ht (NH ht)
theorem ML{l:Int}(a:0<=l/\l < 6){F:PS}(h:C6 t F):C6 t (Ed t l F):=Xw ht (Kq ht a h)
end
end Go.Am
namespace Go.Am
open Go Go.Proofs
set_option maxHeartbeats 1000000
set_option maxRecDepth 4000
attribute [local irreducible] AU BZ Lex Br Aj Spec
variable {TB:Bp}
theorem RG:∀ {l:List Int},l.Pairwise (· < ·)->(∀x∈l,0<=x)->∀j:Nat,(BI l).testBit j=true↔(j:Int)∈l
 | [],_,_,j=>by simp [BI]
 | x :: r,hp,e,j=>by
  have g:=e x (by simp);have c:=lg.1 hp;have d:=RG c.2 (λy f=>e y (by simp [f])) j;obtain⟨m,n,k⟩:=KG hp g;rw [n,Nat.testBit_two_pow_mul];rw [k,Nat.testBit_two_pow_mul] at d;rw [kw,<-d];by_cases h:j=x.toNat
  ·subst h
   simp;omega
  ·have b:¬(j:Int)=x:=by omega
   have hb:x.toNat<=j->(2*m+1).testBit (j - x.toNat)=(2*m).testBit (j - x.toNat):=λa=>by
    obtain⟨i,hi⟩:∃i,j - x.toNat=i+1:=⟨j - x.toNat - 1,by omega⟩
    rw [hi,mg,mg];congr 1;omega
   by_cases a:x.toNat<=j
   ·rw [hb a];simp [b]
   ·simp [a,b]
def DK(m k:Nat):List Int:=((List.range k).filter (m.testBit ·)).map Int.ofNat
theorem Qj(m k:Nat):DK m (k+1)=DK m k++if m.testBit k then [(k:Int)] else []:=by
 unfold DK;rw [mE,n7,lR];cases h:m.testBit k<;>simp [h]
theorem OU(m:Nat):∀k,BI (DK m k)=m % 2 ^ k
 | 0=>by simp [DK,BI,Nat.mod_one]
 | k+1=>by
  rw [Qj,Np,OU m k,nw,Nat.mod_mul,nK];by_cases h:m / 2 ^ k % 2=1
  ·rw [h];simp [BI]
  ·rw [show m / 2 ^ k % 2=0 by omega];simp [BI]
theorem NQ(m k:Nat):(DK m k).Pairwise (· < ·):=by
 unfold DK;rw [lF]
 exact(List.pairwise_lt_range.filter _).imp λh=>by simpa using h
theorem JW{m k:Nat}{x:Int}(h:x∈DK m k):0<=x/\x < k/\m.testBit x.toNat=true:=by
 unfold DK at h;obtain⟨n,a,rfl⟩:=d8.1 h;obtain⟨c,b⟩:=lk.1 a;have:=kB.1 c;exact⟨by simp,by simp;omega,by simpa using b⟩
theorem O7{m:Nat}(h:m < 65536):m=BI (DK m 16):=by rw [OU];omega
def Ob(es:List D0)(l:Int)(xs:List Int):Nat:=xs.foldl (λa x=>a ||| BI (NA es x.toNat l.toNat)) 0
theorem MW{s:Sys}(b:BD s=true){l:Int}{j:Nat}:∀ {xs:List Int} {a:Nat},(xs.foldl (λa x=>a ||| BI (NA s.es x.toNat l.toNat)) a).testBit j=true↔a.testBit j=true\/∃x∈xs,(j:Int)∈NA s.es x.toNat l.toNat
 | [],a=>by simp
 | x::xs,a=>by
  rw [mq,MW b,lZ,kR];have c:=Fu b s.es.length x.toNat l.toNat;rw [kz] at c;have e:=RG c (λy d=>(NB b (k:=s.es.length) (by rw [kz];exact d)).1) j;rw [e];simp only [kw,exists_eq_or_imp,or_assoc]
theorem bz{s:Sys}(g:BD s=true){l:Int}(r:0<=l){m:Nat}(n:m < 65536):Ob s.es l (DK m 16)=BQ s.es l m:=by
 refine lT λj=>?_;rw [lV];unfold Ob;rw [MW g,Ek];simp only [ot,mH,false_or];constructor
 ·rintro⟨x,k,h⟩
  obtain⟨q,d,i⟩:=JW k;unfold NA at h;obtain⟨e,a,p⟩:=d8.1 h;obtain⟨c,b⟩:=lk.1 a;simp only [d5,decide_eq_true_eq] at b;exact⟨e,c,⟨by omega,by rw [show e.f.toNat=x.toNat by omega];exact i⟩,by omega⟩
 ·rintro⟨e,a,⟨q,d⟩,i⟩
  have hb:=CS g a;unfold C8 at hb;simp only [d5,decide_eq_true_eq] at hb;have o:=Jm n d;refine⟨e.f,?_,?_⟩
  ·unfold DK
   exact d8.2 ⟨e.f.toNat,lk.2 ⟨kB.2 o,d⟩,by simp;omega⟩
  ·unfold NA
   refine d8.2 ⟨e,lk.2 ⟨a,?_⟩,by omega⟩;simp only [d5,decide_eq_true_eq];omega
theorem bA{s:Sys}(b:BD s=true){l:Int}{xs:List Int}:Ob s.es l xs < 65536:=HQ λj a=>by
 unfold Ob at a;rw [MW b] at a;simp only [ot,mH,false_or] at a;obtain⟨x,_,c⟩:=a;have:=NB b (k:=s.es.length) (by rw [kz];exact c);omega
theorem LF{a b:Nat}(ha:a < 2 ^ 62)(hb:b < 2 ^ 62):VI .i64 (a:Nat) (b:Nat)=((a ||| b:Nat):Int):=by
 have d:a ||| b < 2 ^ 62:=mc ha hb;unfold VI
 have c:(BitVec.ofInt IntKind.i64.bits (a:Int) ||| BitVec.ofInt IntKind.i64.bits (b:Int)).toNat=a ||| b:=by
  have e:IntKind.i64.bits=64:=rfl;rw [e];simp only [BitVec.toNat_or,BitVec.ofInt_natCast,BitVec.toNat_ofNat];rw [kW (by omega),kW (by omega)]
 rw [c];exact IntWalk.i64_in _ (by omega)
theorem bV[FA TB]{s:Sys}(r:BD s=true){l:Int}(F:0<=l/\l < 6){m:Nat}(u:m < 65536):Pure Tryz.prog TB 236 [.o (.ip (Fi s.es)),eI .i64 (m:Nat),eI .i64 l] (eI .i64 (BQ s.es l m:Nat)):=by
 rw [<-bz r F.1 u];rw [O7 u]
 have hb:∀x∈DK m 16,0<=x/\x < 16:=λx h=>⟨(JW h).1,(JW h).2.1⟩
 have hp:=NQ m 16;rw [<-O7 u]
 conv=>arg 4;rw [O7 u]
 generalize DK m 16=xs at *;refine eG Tryz.func236 rfl (by kernel_rfl) rfl ?_;intro Γ c;(repeat first|refine tA rfl ?_ |refine aU rfl ?_ |refine Aa ?_);refine aB ?_;refine aL (U:={k:Nat // k<=xs.length}) [0,2] [] rfl rfl (λ⟨k,hk⟩=>[(1,eI .i64 (BI (xs.drop k):Nat)),(7,eI .i64 (Ob s.es l (xs.take k):Nat))]) (λ⟨k,hk⟩=>[]) 0 (λ⟨k,hk⟩=>xs.length - k) (⟨0,by omega⟩) c rfl (by (simp[cX,zC,c]<;>rfl)) ?_;rintro⟨k,hk⟩;(try dsimp only[cA,cB]);by_cases A:k < xs.length
 ·obtain⟨x,h⟩:=get_some A
  have B:=CX h;have d:=hb x (co h)
  have f:(x::xs.drop (k+1)).Pairwise (· < ·):=by rw [<-B];exact hp.sublist (List.drop_sublist _ _)
  have z:BI (x::xs.drop (k+1)) < 2 ^ 16:=by
   refine LW f λy q=>?_;rw [<-B] at q;exact hb y (nQ q)
  have w:=Nq (x:=x) (l:=xs.drop (k+1));have p:=ZG f d.1 (by omega);have n:=VH f d.1 (by omega);rw [<-B] at z w p n;have e:=iB (TB:=TB) (BI (xs.drop k)) (by omega) (by omega);rw [p] at e
  have ex:((x.toNat:Nat):Int)=x:=by omega
  rw [ex] at e;have i:=Fu r s.es.length x.toNat l.toNat;rw [kz] at i;have G:BI (NA s.es x.toNat l.toNat) < 65536:=LW (t:=16) i λy q=>NB r (k:=s.es.length) (by rw [kz];exact q);have H:Ob s.es l (xs.take k) < 65536:=bA r;have j:=LF (a:=Ob s.es l (xs.take k)) (b:=BI (NA s.es x.toNat l.toNat)) (by omega) (by omega)
  have v:Ob s.es l (xs.take (k+1))=Ob s.es l (xs.take k) ||| BI (NA s.es x.toNat l.toNat):=by unfold Ob;rw [io,h,mL];rfl
  rw [<-v] at j;(repeat first|refine tA rfl ?_ |refine s2 rfl λ_ g=>?_ |refine aU rfl ?_ |refine Aa ?_)
  ((refine aC rfl ?_ ?_<;>rintro⟨⟩);all_goals try(exfalso;(simp only[oZ] at *;omega)))
  refine aK ?_;refine aS (aB ?_);refine rG (It []) (by kernel_rfl) ?_;(repeat first|(refine sA rfl ?_ ?_;first|exact tI|omega) |refine sP rfl (e) rfl ?_|(refine Ag rfl ?_;refine gA rfl ?_;first| refine gS (λ_ _=>DD rfl (dK d F)) ?_) |refine aU rfl ?_ |refine Aa ?_);refine⟨⟨k+1,by omega⟩,by dsimp only;(omega),[],?_⟩;simp[cX,zC,c,j,n]
 ·obtain rfl:k=xs.length:=by omega
  rw [kz];(repeat first|refine tA rfl ?_ |refine s2 rfl λ_ g=>?_ |refine aU rfl ?_ |refine Aa ?_);(refine aC rfl ?_ ?_<;>rintro⟨⟩)
  ·exfalso
   rw [nL] at g;simp [BI] at g
  refine aE ?_;(repeat first|refine tA rfl ?_ |refine aU rfl ?_ |refine Aa ?_);(subst_vars;exact aR ⟨_,rfl,rfl⟩)
def FW(F:PS):List Int:=[(F 0:Nat),(F 1:Nat),(F 2:Nat),(F 3:Nat),(F 4:Nat),(F 5:Nat),(F 6:Nat),(F 7:Nat),(F 8:Nat),(F 9:Nat),(F 10:Nat),(F 11:Nat)]
abbrev ON(F:PS):List C:=jX .u16 (FW F)
abbrev ed(F:PS):E:=aV .u16 (FW F)
theorem Ic{F:PS}{p:Nat}(h:p < 12):(FW F)[p]? = some (F p:Int):=by
 obtain rfl|rfl|rfl|rfl|rfl|rfl|rfl|rfl|rfl|rfl|rfl|rfl:p=0\/p=1\/p=2\/p=3\/p=4\/p=5\/p=6\/p=7\/p=8\/p=9\/p=10\/p=11:=by omega
 all_goals rfl
theorem LQ{F:PS}{p:Nat}(h:p < 12):(ON F)[p]? = some (.d (.v (.int .u16 (F p:Int)))):=by simp [Ic h]
theorem OO{F G:PS}(h:∀p,p < 12->F p=G p):FW F=FW G:=by
 unfold FW;rw [h 0 (by omega),h 1 (by omega),h 2 (by omega),h 3 (by omega),h 4 (by omega),h 5 (by omega),h 6 (by omega),h 7 (by omega),h 8 (by omega),h 9 (by omega),h 10 (by omega),h 11 (by omega)]
theorem PA{F G:PS}(h:FW F=FW G):∀p,p < 12->F p=G p:=λp hp=>by
 have:=Ic (F:=F) hp;rw [h,Ic hp] at this
 injection this with this
 omega
theorem UC{F:PS}{p:Nat}(h:p < 12){v:Nat}:Af (ON F) p [.d (.v (.int .u16 (v:Int)))]=ON λi=>if i=p then v else F i:=by
 have b:(ON F).length=12:=by simp [FW]
 rw [Hc (by omega)];apply lG;intro i;rw [n9];by_cases hi:i < 12
 ·rw [LQ hi,LQ hi]
  by_cases e:p=i
  ·subst e;rw [if_pos rfl,if_pos (by omega),if_pos rfl]
  ·rw [if_neg e,if_neg (λh=>e h.symm)]
 ·have a:∀G:PS,(ON G)[i]? = none:=λG=>kE (by simp [FW];omega)
  rw [a,a];by_cases e:p=i
  ·omega
  ·rw [if_neg e]
theorem u16_in{n:Nat}(h:n < 65536):IntKind.u16.wrap (n:Int)=n:=by
 unfold IntKind.wrap;simp [IntKind.bits,IntKind.signed,IntKind.min,IntKind.max];omega
instance:E5 Tryz.prog 189 12 .u16:=⟨⟨187,⟨by kernel_rfl,by kernel_rfl,by kernel_rfl,by kernel_rfl⟩,by kernel_rfl⟩,by kernel_rfl,λh=>by
 have a:Nat.beq Tryz.prog.types.size 0=false:=by kernel_rfl
 rw [h] at a;cases a⟩
def Du(t:Cw)(l:Int)(F:PS)(k:Nat):PS:=λp':Nat=>(List.range k).foldl (λa p=>if Bj t.q p l=(p':Int) then a ||| C4 t.s l (F p) else a) 0
theorem HY{t:Cw}{l:Int}{F:PS}{k:Nat}:Du t l F (k+1)=λp':Nat=>if Bj t.q k l=(p':Int) then Du t l F k p' ||| C4 t.s l (F k) else Du t l F k p':=by
 funext p';unfold Du;rw [mE,mL];rfl
theorem Tm{s:Sys}{l:Int}:C4 s l 0=0:=by
 unfold C4;split
 ·exact HR λj=>by
   cases h:(BQ s.es l 0).testBit j
   ·rfl
   ·obtain⟨e,_,⟨_,a⟩,_⟩:=Ek.1 h
    simp at a
 ·rfl
theorem OH{t:Cw}{l:Int}{F:PS}{k:Nat}(h:F k=0):Du t l F (k+1)=Du t l F k:=by
 rw [HY];funext p';rw [h,Tm];split<;>simp
theorem YC{t:Cw}{l:Int}{F:PS}(h:C6 t F)(b:t.q.nx.length<=12):Du t l F 12=Ur t l F:=by
 have key:∀k,Du t l F (t.q.nx.length+k)=Du t l F t.q.nx.length:=λk=>by
  induction k with
  | zero=>rfl
  | succ k a=>rw [<-lp,OH (h.z _ (by omega)),a]
 have:=key (12 - t.q.nx.length);rw [show t.q.nx.length+(12 - t.q.nx.length)=12 by omega] at this;rw [this];rfl
theorem Us{t:Cw}(ht:A3 t=true){l:Int}{F:PS}(h:C6 t F)(k p:Nat):Du t l F k p < 65536:=by
 induction k with
 | zero=>simp [Du]
 | succ k a=>
  rw [HY];simp only;have b:=HG ht (l:=l) (h.lt k);split
  ·have:=mc (n:=16) a b;omega
  ·exact a
structure E8 where
 F:List PS
 nx:List (List Int)
 un:List Bool
abbrev OK(r:List Int):List C:=r.map λx=>.d (iD x)
def N5(F:List PS):List (List Int×Int):=F.zipIdx.map λx=>(FW x.1,(x.2:Int))
abbrev ZE(t:Cw)(a b c d:C):List C:=[.d (iD t.s.al),.d (iD t.s.st),.d (Gb t.s.es),.d (iD t.q.al),.d (Da t.q.nx),.d (FK t.q.ac),.d (iD t.al),.ip (Fi t.s.es),.d (.l (ET t.q)),.d (EK (CG t)),a,b,c,d]
abbrev KF(t:Cw)(m:E8):Ab:=[(0,.cells 131 14 [ZE t (.arr 1 12 0 m.F.length) (.mp 2) (.arr 3 6 0 m.nx.length) (.arr 4 1 0 m.un.length)]),(1,.cells 189 12 (m.F.map ON)),(2,.mp (mapA .u16 (N5 m.F))),(3,.cells 109 6 (m.nx.map OK)),(4,.cells 4 1 (m.un.map AP))]
theorem AO(r:Nat->Nat)(q:IntKind)(l:List Int):C.BH r (l.map λx=>.d (.v (.int q x)))=l.map λx=>.d (.v (.int q x)):=by
 rw [show (l.map λx=>C.d (.v (.int q x)))=(l.map λx=>D.v (.int q x)).map .d by simp,PI]
theorem MZ{P:Program}{Γ:Ctx}{d:Option Tmp}{ty:TypeId}{pos:String}{af:Array Edge}{g:Option (Nat×Bool)}{f:Env}{σ:Ab}{nx:Nat}{t:TypeId}{x:Operand}{id k i j n:Nat}{T:TypeId}{rows:List (List C)}{r:List C}{c:C}[l:DH P t false n](a:ev f x=some (.o (.ptr id k i j)))(e:look σ id=some (.cells T k rows))(b:rows[i]? = some r)(h:r[j]? = some c) :
 AU P TB Γ ⟨d,.load t x,ty,pos,af,g⟩ f σ nx (.o c):=Rt a e b (show dG false n j r=some (.o c) by unfold dG;rw [h];rfl)
theorem QF{r:List Nat}:∀i,i < 5->(0::1::2::3::4::r)[i]? = some i
 | 0,_|1,_|2,_|3,_|4,_=>rfl
 | n+5,h=>by omega
theorem Ue{a b:Nat}(ha:a < 65536)(hb:b < 65536):VI .u16 (a:Int) (b:Int)=((a ||| b:Nat):Int):=by
 have d:a ||| b < 2 ^ 16:=mc (by omega) (by omega);unfold VI
 have c:(BitVec.ofInt IntKind.u16.bits (a:Int) ||| BitVec.ofInt IntKind.u16.bits (b:Int)).toNat=a ||| b:=by
  have e:IntKind.u16.bits=16:=rfl;rw [e];simp only [BitVec.toNat_or,BitVec.ofInt_natCast,BitVec.toNat_ofNat];rw [kW (by omega),kW (by omega)]
 rw [c];exact u16_in (by omega)
theorem Up[FA TB]{t:Cw}(ht:A3 t=true)(m:E8){l:Int}(n:0<=l/\l < 6){F:PS}(A:C6 t F):Spec Tryz.prog TB 180 (KF t m) 5 [.o (.ptr 0 14 0 0),ed F,eI .i64 l] (λx σ nx=>x=ed (Ur t l F)/\σ=KF t m/\nx=5):=by
 have Q:BD t.s=true:=by unfold A3 at ht;simp only [d5] at ht;exact ht.1
 have ha:=CT ht;have R:=Ax ha;rw [<-YC A (by omega)];refine eR Tryz.func180 rfl (by kernel_rfl) rfl ?_;intro Γ c;(repeat first|refine tA rfl ?_ |refine aU rfl ?_ |refine Aa ?_);refine aB ?_;refine aL (U:={k:Nat // k<=12}) [0,2,6,7,11] [0,1,2,3,4,5] rfl rfl (λs=>[(12,eI .i64 s.1)]) (λs=>[(6,.cells 189 12 [ON (Du t l F s.1)])]) 7 (λs=>12 - s.1) (⟨0,by omega⟩) c rfl (by (simp[cX,zC,c,AO]<;>rfl)) ?_;rintro⟨k,hk⟩;(try dsimp only[cA,cB]);by_cases I:k < 12
 ·have P:(FW F)[((k:Nat):Int).toNat]? = some (F k:Int):=by rw [f6];exact Ic I
  have u:=A.lt k;(repeat first|refine s2 rfl λ_ i=>?_ |refine aU rfl ?_ |refine Aa ?_)
  ((refine aC rfl ?_ ?_<;>rintro⟨⟩);all_goals try(exfalso;(simp only[oZ] at *;omega)))
  refine aK ?_;refine aS (aB ?_);(repeat first|refine tA rfl ?_ |refine s2 rfl λ_ i=>?_|(refine Ag rfl ?_;refine gA rfl ?_;first| refine gS (λ_ _=>JB (l:=FW F) rfl rfl rfl (by omega) P) ?_) |refine aU rfl ?_ |refine Aa ?_);(refine aC rfl ?_ ?_<;>rintro⟨⟩)
  ·have N:F k=0:=by (simp only[oZ] at *;omega)
   refine aE ?_;(repeat first|(refine sA rfl ?_ ?_;first|exact tI|omega) |refine aU rfl ?_ |refine Aa ?_);refine⟨⟨k+1,by omega⟩,by dsimp only;(omega),[0,1,2,3,4,5,6],?_⟩;simp[cX,zC,c,AO,OH N];exact QF
  ·have H:k < t.q.nx.length:=by
    rcases lc k t.q.nx.length with K|K
    ·exact K
    ·have:=A.z k K;(simp only[oZ] at *;omega)
   have ta:=Ik (a:=t.q) (q:=((k:Nat):Int).toNat) (by omega);have ra:=GF (h:=λl=>Bj t.q k l) n.1 n.2
   have el:((l.toNat:Nat):Int)=l:=by omega
   simp only [el] at ra;have J:=DA ha H n.1 n.2;have w:=bV (TB:=TB) Q n u;have y:=HG ht (l:=l) u;have G:=Us ht (l:=l) A k
   obtain⟨g,M⟩:∃g:Nat,Bj t.q k l=g:=⟨(Bj t.q k l).toNat,by omega⟩
   rw [M] at ra J;refine aK ?_;(repeat first|(refine sA rfl ?_ ?_;first|exact tI|omega) |(refine sC rfl (Ms _ _) ?_;intro _ i)|(refine Ag rfl ?_;refine gA rfl ?_;first| refine gS (λ_ _=>PB rfl (IntWalk.i64_in _ (by omega))) ?_) |refine aU rfl ?_ |refine Aa ?_)
   have ej:0+((g:Nat):Int).toNat*1=g:=by omega
   have L:(ON (Du t l F k))[0+((g:Nat):Int).toNat*1]? = some (.d (.v (.int .u16 (Du t l F k g:Int)))):=by rw [ej];exact LQ (by omega)
   have f:=Ue (G g) y
   have B:Du t l F (k+1)=λp':Nat=>if p'=g then Du t l F k g ||| C4 t.s l (F k) else Du t l F k p':=by
    rw [HY,M];funext p';by_cases e:p'=g
    ·subst e;simp
    ·rw [if_neg e,if_neg (by omega)]
   have b:=UC (F:=Du t l F k) (p:=g) (by omega) (v:=Du t l F k g ||| C4 t.s l (F k));rw [<-B] at b;(refine aC rfl ?_ ?_<;>rintro⟨⟩)
   ·have hb:Eg t.s.al l.toNat=true:=by simpa [hasB,n.1] using i
    have j:C4 t.s l (F k)=BQ t.s.es l (F k):=by unfold C4;rw [if_pos hb]
    rw [<-j] at w;(repeat first|(refine sA rfl ?_ ?_;first|exact tI|omega) |(refine s4 rfl ‹_› rfl ?_ ?_;omega) |refine sP rfl (w) rfl ?_ |refine aU rfl ?_ |refine Aa ?_);(repeat first|(refine sA rfl ?_ ?_;first|exact tI|omega)|(refine Ag rfl ?_;refine gA rfl ?_;first| refine gS (λ_ _=>DD rfl ra) ?_|refine gQ (MZ rfl rfl rfl L) rfl ?_|refine gS (λ_ _=>PB rfl (u16_in y)) ?_|refine gS (λ_ _=>eu rfl rfl f) ?_));(refine Ag rfl ?_;refine Fo ?_ rfl (by rfl);refine DQ (r:=ON (Du t l F k)) rfl rfl rfl rfl rfl rfl (by show 0+((g:Nat):Int).toNat*1+1<=12;omega) ?_);refine Aa ?_;(repeat first|(refine sA rfl ?_ ?_;first|exact tI|omega) |refine aU rfl ?_ |refine Aa ?_);refine⟨⟨k+1,by omega⟩,by dsimp only;(omega),[0,1,2,3,4,5,6],?_⟩;simp[cX,zC,c,AO,f];exact⟨QF,by simpa [Af] using b⟩
   ·have hb:Eg t.s.al l.toNat=false:=by simpa [hasB,n.1] using i
    have j:C4 t.s l (F k)=F k:=by unfold C4;rw [if_neg (by simp [hb])]
    rw [j] at f b;refine aK ?_;(repeat first|(refine sA rfl ?_ ?_;first|exact tI|omega) |(refine s4 rfl ‹_› rfl ?_ ?_;omega)|(refine Ag rfl ?_;refine gA rfl ?_;first| refine gS (λ_ _=>DD rfl ra) ?_|refine gQ (MZ rfl rfl rfl L) rfl ?_|refine gS (λ_ _=>PB rfl (u16_in u)) ?_|refine gS (λ_ _=>eu rfl rfl f) ?_) |refine aU rfl ?_);(refine Ag rfl ?_;refine Fo ?_ rfl (by rfl);refine DQ (r:=ON (Du t l F k)) rfl rfl rfl rfl rfl rfl (by show 0+((g:Nat):Int).toNat*1+1<=12;omega) ?_);refine Aa ?_;(repeat first|(refine sA rfl ?_ ?_;first|exact tI|omega) |refine aU rfl ?_ |refine Aa ?_);refine⟨⟨k+1,by omega⟩,by dsimp only;(omega),[0,1,2,3,4,5,6],?_⟩;simp[cX,zC,c,AO,f];exact⟨QF,by simpa [Af] using b⟩
 ·obtain rfl:k=12:=by omega
  (repeat first|refine s2 rfl λ_ i=>?_ |refine aU rfl ?_ |refine Aa ?_)
  ((refine aC rfl ?_ ?_<;>rintro⟨⟩);all_goals try(exfalso;(simp only[oZ] at *;omega)))
  refine aE ?_;(repeat first|refine tA rfl ?_ |refine aU rfl ?_ |refine Aa ?_);refine aR ⟨_,rfl,[0,1,2,3,4],ed (Du t l F 12),KF t m,⟨QF,by decide⟩,rfl,by (simp[cX,zC,c,AO]),rfl,rfl,rfl⟩
def Hj(t:Cw)(F:PS)(ls:List Int):PS:=λp=>ls.foldl (λa l=>a ||| Ur t l F p) (F p)
def Jr(A B:PS)(k:Nat):PS:=λp=>if p < k then A p ||| B p else A p
theorem VW{A B:PS}{k:Nat}:Jr A B (k+1)=λp=>if p=k then Jr A B k k ||| B k else Jr A B k p:=by
 funext p;unfold Jr;by_cases e:p=k
 ·subst e;simp
 ·by_cases h:p < k
  ·rw [if_pos (by omega),if_neg e,if_pos h]
  ·rw [if_neg (by omega),if_neg e,if_neg h]
theorem Xf{t:Cw}{F:PS}{ls:List Int}{l:Int}:Hj t F (ls++[l])=λp=>Hj t F ls p ||| Ur t l F p:=by
 funext p;unfold Hj;rw [mL];rfl
theorem Uz{U:Type}{g:U->Nat}{j:Nat}:∀ {l:List U} {a:Nat},(l.foldl (λa x=>a ||| g x) a).testBit j=true↔a.testBit j=true\/∃x∈l,(g x).testBit j=true
 | [],a=>by simp
 | x::l,a=>by
  rw [mq,Uz,lZ,kR];simp [or_assoc]
theorem Gk{t:Cw}{F:PS}{ls:List Int}{p j:Nat}:(Hj t F ls p).testBit j=true↔(F p).testBit j=true\/∃l∈ls,(Ur t l F p).testBit j=true:=Uz
theorem TV{t:Cw}(ht:A3 t=true){F:PS}(h:C6 t F){ls:List Int}(c:∀l∈ls,0<=l/\l < 6):C6 t (Hj t F ls):=by
 refine⟨λp=>HQ λj d=>?_,λp hp=>HR λj=>?_⟩
 ·rcases Gk.1 d with a|⟨l,a,b⟩
  ·exact Jm (h.lt p) a
  ·exact Jm ((Kq ht (c l a) h).lt p) b
 ·cases hb:(Hj t F ls p).testBit j
  ·rfl
  ·rcases Gk.1 hb with a|⟨l,a,b⟩
   ·rw [h.z p hp] at a;simp at a
   ·rw [(Kq ht (c l a) h).z p hp] at b;simp at b
theorem sub_le{a b:Nat}(h:∀j,a.testBit j=true->b.testBit j=true):a<=b:=by
 have:a ||| b=b:=lT λj=>by
  rw [lZ];cases ha:a.testBit j
  ·simp
  ·simp [h j ha]
 rw [<-this];exact Nat.left_le_or
def Lr(F:PS):Nat:=(65535 - F 0)+(65535 - F 1)+(65535 - F 2)+(65535 - F 3)+(65535 - F 4)+(65535 - F 5)+(65535 - F 6)+(65535 - F 7)+(65535 - F 8)+(65535 - F 9)+(65535 - F 10)+(65535 - F 11)
theorem Uo{F G:PS}(i:∀p,F p < 65536)(a:∀p,G p < 65536)(h:∀p,F p<=G p)(b:FW G≠FW F):Lr G < Lr F:=by
 have j:¬Lr F<=Lr G:=λc=>b (OO λp hp=>by
  have J:=h 0;have I:=h 1;have H:=h 2;have B:=h 3;have A:=h 4;have z:=h 5;have y:=h 6;have x:=h 7;have w:=h 8;have v:=h 9;have g:=h 10;have f:=h 11;have u:=a 0;have t:=a 1;have s:=a 2;have r:=a 3;have q:=a 4;have o:=a 5;have n:=a 6;have m:=a 7;have l:=a 8;have k:=a 9;have e:=a 10;have d:=a 11;unfold Lr at c
  obtain rfl|rfl|rfl|rfl|rfl|rfl|rfl|rfl|rfl|rfl|rfl|rfl:p=0\/p=1\/p=2\/p=3\/p=4\/p=5\/p=6\/p=7\/p=8\/p=9\/p=10\/p=11:=by omega
  all_goals omega)
 omega
theorem cn{F:PS}(h:∀p,F p < 65536):∀x∈FW F,(Lit.int .u16 x).wf=true:=λx a=>by
 have:∃p,x=(F p:Int):=by
  unfold FW at a;simp only [kw,mZ,or_false] at a
  rcases a with h|h|h|h|h|h|h|h|h|h|h|h<;>exact⟨_,h⟩
 obtain⟨p,rfl⟩:=this;have:=h p;simp [Lit.wf,IntKind.min,IntKind.max,IntKind.signed,IntKind.bits];omega
section
variable {t:Cw}(ht:A3 t=true)
include ht
theorem Xg{F0 F:PS}(c:∀p j,(F p).testBit j=true->PX t F0 p j){p j:Nat}(h:(Hj t F (CG t) p).testBit j=true):PX t F0 p j:=by
 rcases Gk.1 h with a|⟨l,b,a⟩
 ·exact c p j a
 ·obtain⟨q,m,d,hb⟩:=LJ.1 a
  unfold C4 at hb;rw [if_pos (GR ht b).2.2] at hb;obtain⟨e,f,⟨k,i⟩,g⟩:=Ek.1 hb;subst k;have:=PX.step (c q _ i) f b rfl;rw [d,g] at this
  simpa using this
theorem Vt{F0 F:PS}(i:C6 t F0)(f:C6 t F)(h:∀p j,(F0 p).testBit j=true->(F p).testBit j=true)(g:∀p j,(F p).testBit j=true->PX t F0 p j)(e:Hj t F (CG t)=F):F=RY t F0:=
 Xv ht i f.z h g λp l j hp b c=>by
  have a:=GR ht b;have d:=DA (CT ht) hp a.1 a.2.1;rw [<-e];refine Gk.2 (.inr ⟨l,b,LJ.2 ⟨p,hp,by omega,?_⟩⟩);unfold C4;rw [if_pos a.2.2];exact c
end
theorem Qm[FA TB]{t:Cw}(ht:A3 t=true)(m:E8){F0:PS}(J:C6 t F0):Spec Tryz.prog TB 179 (KF t m) 5 [.o (.ptr 0 14 0 0),ed F0] (λx σ nx=>x=ed (RY t F0)/\σ=KF t m/\nx=5):=by
 have hah:=Ax (CT ht)
 have X:(CG t).length<=6:=by
  unfold CG;have K:(Ac t.s.al).length<=6:=AK _ _;exact i9 (mS _ _) K
 refine eR Tryz.func179 rfl (by kernel_rfl) rfl ?_;intro Γ c;(repeat first|refine aU rfl ?_);(refine pW rfl ?_ rfl (by rfl);refine FU rfl rfl ?_);(repeat first|refine tM rfl ?_ |refine Aa ?_);refine aB ?_;refine aL (U:={F:PS // C6 t F/\(∀p j,(F0 p).testBit j=true->(F p).testBit j=true)/\∀p j,(F p).testBit j=true->PX t F0 p j}) [0,3,4] [0,1,2,3,4,6] rfl rfl (λs=>[]) (λs=>[(5,.cells 189 12 [ON s.1])]) 7 (λs=>Lr s.1) (⟨F0,J,λ_ _ h=>h,λ_ _ h=>.base h⟩) c rfl (by (simp[cX,zC,c,AO]<;>rfl)) ?_;rintro⟨F,f,K,S⟩;(try dsimp only[cA,cB]);have f:C6 t F:=f;refine aB ?_;(repeat first|refine sN rfl ?_ |refine tA rfl ?_ |refine aU rfl ?_ |refine Aa ?_);refine aB ?_;refine aL (U:={k:Nat // k<=(CG t).length}) [0,3,4,5,14,15] [0,1,2,3,4,5,6] rfl rfl (λs=>[(16,eI .i64 s.1)]) (λs=>[(7,.cells 189 12 [ON (Hj t F ((CG t).take s.1))])]) 8 (λs=>(CG t).length - s.1) (⟨0,by omega⟩) c rfl (by (simp[cX,zC,c,AO]<;>rfl)) ?_;rintro⟨k,hk⟩;(try dsimp only[cA,cB]);by_cases Q:k < (CG t).length
 ·obtain⟨l,u⟩:=get_some Q
  have g:=GR ht (co u)
  have Y:((CG t).map CN)[((k:Nat):Int).toNat]? = some (CN l):=by rw [f6];simp [u]
  have I:∀x∈(CG t).take k,0<=x/\x < 6:=λx B=>by
   have:=GR ht (kZ B);omega
  have y:=TV ht f I;have hG:=Kq ht (l:=l) ⟨g.1,g.2.1⟩ f
  have M:Hj t F ((CG t).take (k+1))=λp=>Hj t F ((CG t).take k) p ||| Ur t l F p:=by rw [io,u];exact Xf
  have P:=Up (TB:=TB) ht m (l:=l) ⟨g.1,g.2.1⟩ f;generalize Hj t F ((CG t).take k)=A at *;generalize Ur t l F=G at *;(repeat first|refine s2 rfl λ_ e=>?_ |refine aU rfl ?_ |refine Aa ?_)
  ((refine aC rfl ?_ ?_<;>rintro⟨⟩);all_goals try(exfalso;(simp only[oZ] at *;omega)))
  refine aK ?_;refine aS (aB ?_);(repeat first|refine tA rfl ?_ |(refine s4 rfl ‹_› rfl ?_ ?_;omega) |refine aU rfl ?_ |refine Aa ?_);(refine pW rfl ?_ rfl (by rfl);refine Ae [0,1,2,3,4] rfl rfl (P) ⟨rfl,by decide,by decide⟩ rfl (by simp[cX,zC,c,AO]) ?_;rintro x0 T V ⟨rfl,rfl,rfl⟩ _);(repeat first|refine tA rfl ?_);refine Aa ?_;refine aB ?_;refine aL (U:={p:Nat // p<=12}) [0,3,4,5,14,15,16,23] [0,1,2,3,4,5,6] rfl rfl (λs=>[(24,eI .i64 s.1)]) (λs=>[(7,.cells 189 12 [ON (Jr A G s.1)])]) 8 (λs=>12 - s.1) (⟨0,by omega⟩) c rfl (by (simp[cX,zC,c,AO]<;>rfl)) ?_;rintro⟨p,hp⟩;(try dsimp only[cA,cB]);by_cases n:p < 12
  ·have B:(FW G)[((p:Nat):Int).toNat]? = some (G p:Int):=by rw [f6];exact Ic n
   have ej:0+((p:Nat):Int).toNat*1=p:=by omega
   have q:Jr A G p p < 65536:=by
    unfold Jr;rw [if_neg (by omega)];exact y.lt p
   have w:(ON (Jr A G p))[0+((p:Nat):Int).toNat*1]? = some (.d (.v (.int .u16 (Jr A G p p:Int)))):=by rw [ej];exact LQ n
   have L:=Ue q (hG.lt p);have i:=UC (F:=Jr A G p) (p:=p) n (v:=Jr A G p p ||| G p);rw [<-VW] at i;(repeat first|refine s2 rfl λ_ e=>?_ |refine aU rfl ?_ |refine Aa ?_)
   ((refine aC rfl ?_ ?_<;>rintro⟨⟩);all_goals try(exfalso;(simp only[oZ] at *;omega)))
   refine aK ?_;refine aS (aB ?_);(repeat first|(refine sA rfl ?_ ?_;first|exact tI|omega)|(refine Ag rfl ?_;refine gA rfl ?_;first| refine gS (λ_ _=>JB (l:=FW G) rfl rfl rfl (by omega) B) ?_|refine gQ (MZ rfl rfl rfl w) rfl ?_) |refine aU rfl ?_ |refine Aa ?_);(refine Ag rfl ?_;refine Fo ?_ rfl (by rfl);refine DQ (r:=ON (Jr A G p)) rfl rfl rfl rfl rfl rfl (by show 0+((p:Nat):Int).toNat*1+1<=12;omega) ?_);refine Aa ?_;(repeat first|(refine sA rfl ?_ ?_;first|exact tI|omega) |refine aU rfl ?_ |refine Aa ?_);refine⟨⟨p+1,by omega⟩,by dsimp only;(omega),[0,1,2,3,4,5,6,7],?_⟩;simp[cX,zC,c,AO,L];exact⟨QF,by simpa [Af] using i⟩
  ·obtain rfl:p=12:=by omega
   have q:FW (Jr A G 12)=FW λp=>A p ||| G p:=OO λp hp=>by unfold Jr;rw [if_pos hp]
   (repeat first|refine s2 rfl λ_ e=>?_ |refine aU rfl ?_ |refine Aa ?_)
   ((refine aC rfl ?_ ?_<;>rintro⟨⟩);all_goals try(exfalso;(simp only[oZ] at *;omega)))
   refine aE ?_;(repeat first|(refine sA rfl ?_ ?_;first|exact tI|omega) |refine aU rfl ?_ |refine Aa ?_);refine⟨⟨k+1,by omega⟩,by dsimp only;(omega),[0,1,2,3,4,5,6,7],?_⟩;simp[cX,zC,c,AO,M];exact⟨QF,congrArg (List.map _) q⟩
 ·obtain rfl:k=(CG t).length:=by omega
  rw [kz]
  have y:=TV ht f λx B=>by
   have:=GR ht B
   show 0<=x/\x < 6
   omega
  (repeat first|refine s2 rfl λ_ e=>?_ |refine aU rfl ?_ |refine Aa ?_)
  ((refine aC rfl ?_ ?_<;>rintro⟨⟩);all_goals try(exfalso;(simp only[oZ] at *;omega)))
  refine aE ?_;(repeat first|refine tA rfl ?_|(refine Ag rfl ?_;refine gA rfl ?_;first| (refine gB (λ_ _=>gJ (a:=FW (Hj t F (CG t))) (b:=FW F) rfl rfl rfl rfl (cn y.lt) (cn f.lt)) ?_;intro _ e)) |refine aU rfl ?_ |refine Aa ?_);(refine aC rfl ?_ ?_<;>rintro⟨⟩)
  ·have Z:Hj t F (CG t)=F:=by
    have h3:FW (Hj t F (CG t))=FW F:=by simpa using e
    have h4:=PA h3;funext p
    rcases lc p 12 with R|R
    ·exact h4 p R
    ·rw [y.z p (by omega),f.z p (by omega)]
   rw [<-Vt ht J f K S Z];(repeat first|refine tA rfl ?_ |refine aU rfl ?_ |refine Aa ?_);refine aR ⟨_,rfl,[0,1,2,3,4],ed F,KF t m,⟨QF,by decide⟩,rfl,by (simp[cX,zC,c,AO]),rfl,rfl,rfl⟩
  ·have N:FW (Hj t F (CG t))≠FW F:=by simpa using e
   have H:∀p,F p<=Hj t F (CG t) p:=λp=>sub_le λj w=>Gk.2 (.inl w);have hm:=Uo f.lt y.lt H N;refine aK ?_;(repeat first|refine tA rfl ?_ |refine aU rfl ?_ |refine Aa ?_);refine⟨⟨Hj t F (CG t),y,λp j w=>Gk.2 (.inl (K p j w)),λp j w=>Xg ht S w⟩,by dsimp only;(omega),[0,1,2,3,4,5,6],?_⟩;simp[cX,zC,c,AO];exact⟨QF,rfl,rfl⟩
inductive Reach (t:Cw):PS->Prop
 | start:Reach t (CD t)
 | next {F:PS} {l:Int}:0<=l->l < 6->Reach t F->Reach t (Ed t l F)
theorem Reach.ok{t:Cw}(ht:A3 t=true){F:PS}(h:Reach t F):C6 t F:=by
 induction h with
 | start=>exact KH ht
 | next c b _ a=>exact ML ht ⟨c,b⟩ a
noncomputable def Nl(t:Cw):PS->W->PS
 | F,[]=>F
 | F,c::w=>Nl t (Ed t ((c.toNat:Int) - 97) F) w
theorem RD{t:Cw}:∀(u v:W) (F:PS),Nl t F (u++v)=Nl t (Nl t F u) v
 | [],v,F=>rfl
 | c::u,v,F=>by simp only [lO,Nl];exact RD u v _
def fw(t:Cw)(ok:W->Prop)(F:PS):Prop:=F=CD t\/∃u v,ok (u++v)/\F=Nl t (CD t) u
def cR(t:Cw)(ok:W->Prop):Prop:=∀l:List PS,l.Nodup->(∀F∈l,fw t ok F)->l.length<=1099511627776
structure Hh (t:Cw) (ok:W->Prop) (m:E8):Prop where
 l1:m.nx.length=m.F.length
 l2:m.un.length=m.F.length
 nd:m.F.Nodup
 rc:∀F∈m.F,Reach t F
 rk:∀F∈m.F,fw t ok F
 un:∀(i:Nat) F,m.F[i]? = some F->m.un[i]? = some (JV t F)
 nx:∀(i:Nat) F,m.F[i]? = some F->∃r:List Int,m.nx[i]? = some r/\r.length=6/\∀l:Nat,l < 6->∃x,r[l]? = some x/\(x < 0\/∃j:Nat,x=j/\m.F[j]? = some (Ed t l F))
def Ho(t:Cw)(m:E8)(G:PS):E8:=⟨m.F++[G],m.nx++[[-1,-1,-1,-1,-1,-1]],m.un++[JV t G]⟩
theorem cI{t:Cw}(ht:A3 t=true){F G:PS}(c:C6 t F)(b:C6 t G)(h:FW F=FW G):F=G:=by
 have d:=PA h;have e:=Ax (CT ht);funext p
 rcases lc p 12 with a|a
 ·exact d p a
 ·rw [c.z p (by omega),b.z p (by omega)]
theorem Po{l:List PS}{p:List Int×Int}:p∈N5 l↔∃(i:Nat) (F:PS),l[i]? = some F/\p=(FW F,(i:Int)):=by
 unfold N5;rw [d8];constructor
 ·rintro⟨⟨F,i⟩,h,rfl⟩
  exact⟨i,F,nO.1 h,rfl⟩
 ·rintro⟨i,F,h,rfl⟩
  exact⟨(F,i),nO.2 h,rfl⟩
theorem bg(l:List PS)(G:PS):N5 (l++[G])=N5 l++[(FW G,(l.length:Int))]:=by
 unfold N5;rw [List.zipIdx_append];simp
theorem YB{t:Cw}(ht:A3 t=true){l:List PS}(g:l.Nodup)(f:∀F∈l,Reach t F):(N5 l).Pairwise (λa b=>a.1≠b.1):=by
 unfold N5;rw [lF,kO];intro i j e d c;simp only [List.length_zipIdx] at e d;simp only [List.getElem_zipIdx];intro h;have:=cI ht ((f _ (lm e)).ok ht) ((f _ (lm d)).ok ht) h;exact kO.1 g i j e d c this
theorem YA{t:Cw}(ht:A3 t=true){l:List PS}(a:∀F∈l,Reach t F):Og 12 .u16 (N5 l):=λp hp=>by
 obtain⟨i,F,b,rfl⟩:=Po.1 hp;exact⟨rfl,cn ((a F (co b)).ok ht).lt⟩
theorem VE{t:Cw}(ht:A3 t=true){l:List PS}(e:l.Nodup)(b:∀F∈l,Reach t F){G:PS}(g:C6 t G){v:Int}(h:Di (N5 l) (FW G)=some v):∃k:Nat,v=k/\l[k]? = some G:=by
 have:∃p∈N5 l,p.1=FW G:=by
  refine Classical.byContradiction λf=>?_;have j:Di (N5 l) (FW G)=none:=GO.2 λp hp a=>f ⟨p,hp,a⟩;rw [j] at h;cases h
 obtain⟨p,hp,a⟩:=this;have d:=J0 (YB ht e b) hp;rw [a,h] at d;obtain⟨i,F,c,rfl⟩:=Po.1 hp;have:=cI ht ((b F (co c)).ok ht) g a;subst this;exact⟨i,by injection d,c⟩
theorem VD{l:List PS}{G:PS}(h:Di (N5 l) (FW G)=none):G∉l:=λb=>by
 obtain⟨i,hi,a⟩:=lw b;exact GO.1 h (FW G,(i:Int)) (Po.2 ⟨i,G,by rw [d7 hi,a],rfl⟩) rfl
theorem Ja{U:Type}{l:List U}{a x:U}{i:Nat}(h:l[i]? = some x):(l++[a])[i]? = some x:=by
 rw [f9 (am.1 h).1];exact h
theorem Qf{U:Type}{l:List U}{a x:U}{i:Nat}(h:(l++[a])[i]? = some x):l[i]? = some x\/i=l.length/\x=a:=by
 rcases lc i l.length with b|b
 ·rw [f9 b] at h;exact .inl h
 ·rw [ge b] at h
  have d:i - l.length < 1:=(am.1 h).1
  have c:i=l.length:=by simp at d;omega
  subst c;simp at h;exact .inr ⟨rfl,h.symm⟩
theorem TU{t:Cw}{ok:W->Prop}{m:E8}(d:Hh t ok m){G:PS}(k:Reach t G)(hk:fw t ok G)(h:G∉m.F):Hh t ok (Ho t m G):=by
 refine⟨by simp [Ho,d.l1],by simp [Ho,d.l2],?_,?_,?_,?_,?_⟩
 ·show (m.F++[G]).Nodup
  rw [lQ];exact⟨d.nd,by simp,λa ha b hb=>by simp at hb;subst hb;intro e;subst e;exact h ha⟩
 ·intro F c
  rcases em.1 c with c|c
  ·exact d.rc F c
  ·simp at c;subst c;exact k
 ·intro F c
  rcases em.1 c with c|c
  ·exact d.rk F c
  ·simp at c;subst c;exact hk
 ·intro i F c
  rcases Qf c with f|⟨f,rfl⟩
  ·exact Ja (d.un i F f)
  ·subst f;show (m.un++[JV t F])[m.F.length]? = _;rw [<-d.l2];simp
 ·intro i F c
  rcases Qf c with f|⟨f,rfl⟩
  ·obtain⟨r,v,u,s⟩:=d.nx i F f
   refine⟨r,Ja v,u,λl g=>?_⟩;obtain⟨x,q,p⟩:=s l g;refine⟨x,q,p.imp id ?_⟩;rintro⟨j,o,n⟩;exact⟨j,o,Ja n⟩
  ·refine⟨[-1,-1,-1,-1,-1,-1],by subst f;show (m.nx++_)[m.F.length]? = _;rw [<-d.l1];simp,rfl,λl g=>⟨-1,?_,.inl (by omega)⟩⟩
   obtain rfl|rfl|rfl|rfl|rfl|rfl:l=0\/l=1\/l=2\/l=3\/l=4\/l=5:=by omega
   all_goals rfl
def Gs(t:Cw)(F:PS)(k:Nat):Bool:=(List.range k).any λp=>decide (F p≠0) && !(t.q.ac.getD p false)
theorem ID{t:Cw}{F:PS}{k:Nat}:Gs t F (k+1)=(Gs t F k || (decide (F k≠0) && !(t.q.ac.getD k false))):=by
 unfold Gs;rw [mE,List.any_append];simp
theorem Vq{t:Cw}{F:PS}(h:C6 t F)(b:t.q.nx.length<=12):Gs t F 12=JV t F:=by
 have key:∀k,Gs t F (t.q.nx.length+k)=Gs t F t.q.nx.length:=λk=>by
  induction k with
  | zero=>rfl
  | succ k a=>rw [<-lp,ID,a,h.z _ (by omega)];simp
 have:=key (12 - t.q.nx.length);rw [show t.q.nx.length+(12 - t.q.nx.length)=12 by omega] at this;rw [this];rfl
section
variable {P:Program}{Γ:Ctx}{d:Option Tmp}{ty:TypeId}{pos:String}{af:Array Edge}{g:Option (Nat×Bool)}{f:Env}{σ:Ab}{nx:Nat}{t:TypeId}{n:Nat}{q:IntKind}{m e:TypeId}{x y:Operand}{id:Nat}{l:List (List Int×Int)}{s:List Int}
theorem Zf{v:Int}[z:DJ P m t e][h:E5 P t n q][w:Hl P e (.int .i64 0)](j:Di l s=some v)(i:ev f x=some (.o (.mp id)))(c:ev f y=some (aV q s))(p:look σ id=some (.mp (mapA q l)))
 (r:Og n q l) (u:l.Pairwise (λa b=>a.1≠b.1)) (k:s.length=n) (hw:∀x∈s,(Lit.int q x).wf=true) :
 AU P TB Γ ⟨d,.lookup m x y true,ty,pos,af,g⟩ f σ nx (.t [(false,[.d (.v (.int .i64 v))]),(false,[.d (.v (.bool true))])]):=by
 have:=UE (P:=P) (TB:=TB) (Γ:=Γ) (d:=d) (ty:=ty) (pos:=pos) (af:=af) (g:=g) (nx:=nx) (t:=t) (m:=m) (e:=e) i c p r u k hw;rw [j] at this;exact this
theorem Ze[z:DJ P m t e][h:E5 P t n q][w:Hl P e (.int .i64 0)](j:Di l s=none)(i:ev f x=some (.o (.mp id)))(c:ev f y=some (aV q s))(p:look σ id=some (.mp (mapA q l)))
 (r:Og n q l) (u:l.Pairwise (λa b=>a.1≠b.1)) (k:s.length=n) (hw:∀x∈s,(Lit.int q x).wf=true) :
 AU P TB Γ ⟨d,.lookup m x y true,ty,pos,af,g⟩ f σ nx (.t [(false,[.d (.v (.int .i64 0))]),(false,[.d (.v (.bool false))])]):=by
 have:=UE (P:=P) (TB:=TB) (Γ:=Γ) (d:=d) (ty:=ty) (pos:=pos) (af:=af) (g:=g) (nx:=nx) (t:=t) (m:=m) (e:=e) i c p r u k hw;rw [j] at this;exact this
end
theorem Xh{t:Cw}{ok:W->Prop}(ht:A3 t=true){m:E8}(h:Hh t ok m)(H:m.F.length<=1099511627776){G:PS}(u:C6 t G):∃(m':E8) (k:Nat),((m'=m/\m.F[k]? = some G)\/(m'=Ho t m G/\k=m.F.length/\G∉m.F))/\
 AS Tryz.prog TB 178 1 (KF t m) 5 [.o (.ptr 0 14 0 0),ed G] (λx σ nx=>x=eI .i64 (k:Int)/\σ=KF t m'/\nx=5):=by
 have L:=Ax (CT ht);have f:=YB ht h.nd h.rc;have j:=YA ht h.rc;have e:=cn u.lt
 cases n:Di (N5 m.F) (FW G) with
 | some v=>
  obtain⟨k,rfl,hk⟩:=VE ht h.nd h.rc u n;refine⟨m,k,.inl ⟨rfl,hk⟩,?_⟩;refine AS.AV (AS.PZ (m:=1) (ce rfl) Tryz.func178 rfl (by kernel_rfl) (ce rfl) ?_);intro Γ a;(repeat first|refine tA rfl ?_ |refine aU rfl ?_ |refine Aa ?_);refine rG (It []) (by kernel_rfl) ?_;(repeat first|refine tA rfl ?_|(refine Ag rfl ?_;refine gA rfl ?_;first| refine gQ (Zf (s:=FW G) (l:=N5 m.F) n rfl rfl rfl j f rfl e) rfl ?_) |refine aU rfl ?_ |refine Aa ?_);(refine aC rfl ?_ ?_<;>rintro⟨⟩);(repeat first|refine tA rfl ?_ |refine aU rfl ?_ |refine Aa ?_);refine aR ⟨_,rfl,[0,1,2,3,4],eI .i64 (k:Int),KF t m,⟨by intro i hi;match i with|0=>rfl,by decide⟩,rfl,by (simp[cX,zC,a,AO]),rfl,rfl,rfl⟩
 | none =>
  refine⟨Ho t m G,m.F.length,.inr ⟨rfl,rfl,VD n⟩,?_⟩;have N:=h.l1;have M:=h.l2;have A:=bg m.F G;refine AS.AV (AS.PZ (m:=1) (ce rfl) Tryz.func178 rfl (by kernel_rfl) (ce rfl) ?_);intro Γ a;(repeat first|refine tA rfl ?_ |refine aU rfl ?_ |refine Aa ?_);refine rG (It []) (by kernel_rfl) ?_;(repeat first|refine tA rfl ?_|(refine Ag rfl ?_;refine gA rfl ?_;first| refine gQ (Ze (s:=FW G) (l:=N5 m.F) n rfl rfl rfl j f rfl e) rfl ?_) |refine aU rfl ?_ |refine Aa ?_);(refine aC rfl ?_ ?_<;>rintro⟨⟩);refine aK ?_;(repeat first|refine tA rfl ?_ |refine aU rfl ?_ |refine Aa ?_);refine rG (It [6]) (by kernel_rfl) ?_;(repeat first|refine tA rfl ?_);(refine Ag rfl ?_;refine Fo ?_ rfl (by rfl);refine dN (s:=FW G) (l:=N5 m.F) rfl rfl rfl rfl j f rfl e n ?_);rw [<-A];refine Aa ?_;(repeat first|refine aU rfl ?_);refine rG (NI [(4,0),(7,1),(10,1)]) (by kernel_rfl) ?_;(repeat first|refine tA rfl ?_);(refine pW rfl ?_ rfl (by rfl);refine Aw rfl rfl rfl (by first| (simp;done)|(simp;(omega))) rfl (by intro r d;simp at d;subst d;rfl) (by rfl) (ce rfl) (by simp;omega) ?_);(repeat first|refine tA rfl ?_ |refine aU rfl ?_ |refine Aa ?_);(repeat first|refine tA rfl ?_|(refine Ag rfl ?_;refine gA rfl ?_;first| refine gS (λ_ _=>AG rfl rfl (by rfl) (by rfl)) ?_));(refine pW rfl ?_ rfl (by rfl);refine Aw rfl rfl rfl (by first| (simp;done)|(simp;(omega))) rfl (by intro r d;simp at d;subst d;rfl) (by rfl) (ce rfl) (by simp;omega) ?_);(repeat first|refine tA rfl ?_ |refine aU rfl ?_ |refine Aa ?_);refine Aj.Ak [0,7,8,53,54] [] rfl rfl [] [(0,.cells 131 14 [ZE t (.arr 1 12 0 (Ho t m G).F.length) (.mp 2) (.arr 3 6 0 (Ho t m G).nx.length) (.arr 4 1 0 m.un.length)]),(1,.cells 189 12 ((Ho t m G).F.map ON)),(2,.mp (mapA .u16 (N5 (Ho t m G).F))),(3,.cells 109 6 ((Ho t m G).nx.map OK)),(4,.cells 4 1 (m.un.map AP))] [0,5,2,6,4] (rl a rfl) (by (simp[cX,zC,a,AO,Ho]<;>rfl)) ?_;(try dsimp only[cA,cB]);refine aB ?_;refine aL (U:={k:Nat // k<=12}) [0,7,53] [0,1,2,3,4] rfl rfl (λs=>[(8,eB (Gs t G s.1)),(54,eI .i64 s.1)]) (λs=>[]) 5 (λs=>12 - s.1) (⟨0,by omega⟩) a rfl (by (simp[cX,zC,a,AO]<;>rfl)) ?_;rintro⟨k,hk⟩;(try dsimp only[cA,cB]);by_cases w:k < 12
  ·have B:(FW G)[((k:Nat):Int).toNat]? = some (G k:Int):=by rw [f6];exact Ic w
   have p:=ID (t:=t) (F:=G) (k:=k);generalize Gs t G k=P at *;by_cases J:k < t.q.nx.length
   ·obtain⟨b,hb⟩:=get_some (l:=t.q.ac) (k:=((k:Nat):Int).toNat) (by omega)
    have K:=get_map (g:=IB) hb
    have y:t.q.ac.getD k false=b:=by rw [f6] at hb;simp [List.getD,hb]
    rw [y] at p;(repeat first|refine s2 rfl λ_ c=>?_ |refine aU rfl ?_ |refine Aa ?_)
    ((refine aC rfl ?_ ?_<;>rintro⟨⟩);all_goals try(exfalso;(simp only[oZ] at *;omega)))
    refine aK ?_;refine aS (aB ?_)
    (repeat' first|(refine sA rfl ?_ ?_;first|exact tI|omega) |(refine s4 rfl ‹_› rfl ?_ ?_;omega) |refine s2 rfl λ_ c=>?_|(refine Ag rfl ?_;refine gA rfl ?_;first| refine gS (λ_ _=>JB (l:=FW G) rfl rfl rfl (by omega) B) ?_) |refine s3 rfl ?_ ?_<;>rintro rfl |refine aU rfl ?_ |refine Aa ?_|(refine aC rfl ?_ ?_<;>rintro⟨⟩));all_goals try contradiction
    all_goals ((try refine aK ?_);refine⟨⟨k+1,by omega⟩,by dsimp only;(omega),[0,1,2,3,4],?_⟩;simp only [decide_eq_true_eq,decide_eq_false_iff_not] at *;simp[cX,zC,a,AO,p];try (simp_all;done))
   ·have I:=u.z k (by omega)
    rw [I] at p;(repeat first|refine s2 rfl λ_ c=>?_ |refine aU rfl ?_ |refine Aa ?_)
    ((refine aC rfl ?_ ?_<;>rintro⟨⟩);all_goals try(exfalso;(simp only[oZ] at *;omega)))
    refine aK ?_;refine aS (aB ?_)
    (repeat' first|(refine sA rfl ?_ ?_;first|exact tI|omega) |refine s2 rfl λ_ c=>?_|(refine Ag rfl ?_;refine gA rfl ?_;first| refine gS (λ_ _=>JB (l:=FW G) rfl rfl rfl (by omega) B) ?_) |refine s3 rfl ?_ ?_<;>rintro rfl |refine aU rfl ?_ |refine Aa ?_|(refine aC rfl ?_ ?_<;>rintro⟨⟩));all_goals try contradiction
    all_goals first| (exfalso;(simp only[oZ] at *;omega);done)|skip
    all_goals ((try refine aK ?_);refine⟨⟨k+1,by omega⟩,by dsimp only;(omega),[0,1,2,3,4],?_⟩;simp[cX,zC,a,AO,p];try (simp_all;done))
  ·obtain rfl:k=12:=by omega
   rw [Vq u (by omega)];(repeat first|refine s2 rfl λ_ c=>?_ |refine aU rfl ?_ |refine Aa ?_)
   ((refine aC rfl ?_ ?_<;>rintro⟨⟩);all_goals try(exfalso;(simp only[oZ] at *;omega)))
   refine aE ?_;(repeat first|refine tA rfl ?_ |refine aU rfl ?_);(refine pW rfl ?_ rfl (by rfl);refine Aw rfl rfl rfl (by first| (simp;done)|(simp;(omega))) rfl (by intro r d;simp at d;subst d;rfl) (by rfl) (ce rfl) (by simp;omega) ?_);(repeat first|refine tA rfl ?_ |refine aU rfl ?_ |refine Aa ?_);refine aR ⟨_,rfl,[0,1,2,3,5],eI .i64 (m.F.length:Int),KF t (Ho t m G),⟨by intro i hi;match i with|0=>rfl,by decide⟩,rfl,by (simp[cX,zC,a,AO,Ho]),rfl,rfl,rfl⟩
structure I0 (P:Program) (TB:Bp) (gA gQ:FuncId) (t:FB) (al:Int) (A:W->Bool):Prop where
 alph:Pure P TB gA [C7 t] (eI .i64 al)
 ask:∀w:W,w.length<=1099511627776->Pure P TB gQ [C7 t,eT w] (eB (A w))
theorem jh{t:FB}(hk:t.kn=true):I0 Tryz.prog TB 67 154 t (if AL t.p then t.p.al else -1) (NL t.p):=⟨Ls t hk,Mb t hk⟩
structure TS (t:A9):Prop where
 rl:t.rows.length<=4194304
 cl:t.cols.length<=4194304
 rb:∀w∈t.rows,w.length<=4194304
 cb:∀w∈t.cols,w.length<=4194304
theorem Hz(l:List W)(s:W)(n:l.length<=1099511627776):Pure Tryz.prog TB 78 [Bx l,eT s] (eB (decide (s∈l))):=by
 refine eN Tryz.func78 rfl (by kernel_rfl) rfl ?_;intro Γ b;(repeat first|refine tA rfl ?_ |refine aU rfl ?_ |refine Aa ?_);refine aB ?_;refine aL (U:={k:Nat // k<=l.length/\s∉l.take k}) [0,1] [] rfl rfl (λ⟨k,hk,c⟩=>[(5,eI .i64 k)]) (λ⟨k,hk,c⟩=>[]) 0 (λ⟨k,hk,c⟩=>l.length - k) (⟨0,by omega,by simp⟩) b rfl (by (simp[cX,zC,b])) ?_;rintro⟨k,hk,c⟩;(try dsimp only[cA,cB]);by_cases i:k < l.length
 ·obtain⟨x,e⟩:=get_some i
  have j:=get_map (g:=BU) e;by_cases d:x=s
  ·have m:s∈l:=d ▸ co e
   (repeat first|refine sN rfl ?_ |refine tA rfl ?_ |refine s2 rfl λ_ a=>?_ |refine aU rfl ?_ |refine Aa ?_);(refine aC rfl ?_ ?_<;>rintro⟨⟩)
   ·(repeat' first|(refine sA rfl ?_ ?_;first|exact tI|omega) |(refine s4 rfl ‹_› rfl ?_ ?_;omega) |refine s2 rfl λ_ a=>?_ |refine aU rfl ?_ |refine Aa ?_|(refine aC rfl ?_ ?_<;>rintro⟨⟩)|refine aK ?_|refine aE ?_|refine aB ?_|refine aR ⟨_,rfl,?_⟩)
    ·simp [m]
    ·exfalso;simp [d] at a
   ·exfalso;(simp only[oZ] at *;omega)
  ·have f:s∉l.take (k+1):=by
    rw [io,e];intro h
    rcases em.1 h with h|h
    ·exact c h
    ·simp at h;exact d h.symm
   (repeat first|refine sN rfl ?_ |refine tA rfl ?_ |refine s2 rfl λ_ a=>?_ |refine aU rfl ?_ |refine Aa ?_);(refine aC rfl ?_ ?_<;>rintro⟨⟩)
   ·(repeat' first|(refine sA rfl ?_ ?_;first|exact tI|omega) |(refine s4 rfl ‹_› rfl ?_ ?_;omega) |refine s2 rfl λ_ a=>?_ |refine aU rfl ?_ |refine Aa ?_|(refine aC rfl ?_ ?_<;>rintro⟨⟩)|refine aK ?_|refine aE ?_|refine aB ?_|refine aR ⟨_,rfl,?_⟩)
    ·exfalso;simp [d] at a
    ·refine⟨⟨k+1,by omega,f⟩,by dsimp only;(omega),[],?_⟩
     simp[cX,zC,b]
   ·exfalso;(simp only[oZ] at *;omega)
 ·rw [kD (by omega)] at c
  (repeat first|refine sN rfl ?_ |refine tA rfl ?_ |refine s2 rfl λ_ a=>?_ |refine aU rfl ?_ |refine Aa ?_);(refine aC rfl ?_ ?_<;>rintro⟨⟩)
  ·exfalso;(simp only[oZ] at *;omega)
  ·(repeat' first|refine tA rfl ?_ |refine aU rfl ?_ |refine Aa ?_|(refine aC rfl ?_ ?_<;>rintro⟨⟩)|refine aK ?_|refine aE ?_|refine aB ?_|refine aR ⟨_,rfl,?_⟩)
   simp [c]
theorem SQ{A:W->Bool}{cols:List W}{w c:W}{k:Nat}(a:cols[k]? = some c):marks A (cols.take (k+1)) w=marks A (cols.take k) w++[SS (A (w++c))]:=by
 unfold marks;rw [io,a];simp
theorem VT{A:W->Bool}{cols:List W}{w:W}:(marks A cols w).length=cols.length:=by simp [marks]
theorem Ki{t:FB}{al:Int}{A:W->Bool}(l:I0 Tryz.prog TB 67 154 t al A)(cols:List W)(w:W)(m:cols.length<=4194304)(hw:w.length<=4194305)(hb:∀x∈cols,x.length<=4194304) :
 Pure Tryz.prog TB 71 [C7 t,Bx cols,eT w] (eT (marks A cols w)):=by
 refine eN Tryz.func71 rfl (by kernel_rfl) rfl ?_;intro Γ a;(repeat first|refine tA rfl ?_ |refine aU rfl ?_ |refine Aa ?_);refine aB ?_;refine aL (U:={k:Nat // k<=cols.length}) [1,2,3] [] rfl rfl (λ⟨k,hk⟩=>[(7,eT (marks A (cols.take k) w)),(8,eI .i64 k)]) (λ⟨k,hk⟩=>[]) 0 (λ⟨k,hk⟩=>cols.length - k) (⟨0,by omega⟩) a rfl (by (simp[cX,zC,a]<;>rfl)) ?_;rintro⟨k,hk⟩;(try dsimp only[cA,cB])
 have j:(marks A (cols.take k) w).length<=4194304:=by rw [VT,mz];omega
 by_cases e:k < cols.length
 ·obtain⟨x,d⟩:=get_some e
  have h:=get_map (g:=BU) d;have f:=hb x (co d);have i:=l.ask (w++x) (by simp;omega);have b:=SQ (A:=A) (w:=w) d;(repeat first|refine sN rfl ?_ |refine tA rfl ?_ |refine s2 rfl λ_ c=>?_ |refine aU rfl ?_ |refine Aa ?_);(refine aC rfl ?_ ?_<;>rintro⟨⟩)
  ·refine aK ?_
   refine aS (aB ?_);(repeat first|(refine sA rfl ?_ ?_;first|exact tI|omega) |(refine s4 rfl ‹_› rfl ?_ ?_;omega) |(refine sC rfl (i) ?_;intro _ c) |refine aU rfl ?_ |refine Aa ?_ |refine rE (by kernel_rfl) ?_);(refine aC rfl ?_ ?_<;>rintro⟨⟩)
   ·rw [c] at b
    (repeat first|(refine sA rfl ?_ ?_;first|exact tI|omega|simp only[oZ] at *;omega) |refine aU rfl ?_ |refine Aa ?_);refine⟨⟨k+1,by omega⟩,by dsimp only;(omega),[],?_⟩;simp[cX,zC,a,b,SS]
   ·rw [c] at b
    (repeat first|(refine sA rfl ?_ ?_;first|exact tI|omega|simp only[oZ] at *;omega) |refine aU rfl ?_ |refine Aa ?_);refine⟨⟨k+1,by omega⟩,by dsimp only;(omega),[],?_⟩;simp[cX,zC,a,b,SS]
  ·exfalso;(simp only[oZ] at *;omega)
 ·obtain rfl:k=cols.length:=by omega
  rw [kz];(repeat first|refine sN rfl ?_ |refine tA rfl ?_ |refine s2 rfl λ_ c=>?_ |refine aU rfl ?_ |refine Aa ?_);(refine aC rfl ?_ ?_<;>rintro⟨⟩)
  ·exfalso;(simp only[oZ] at *;omega)
  ·(repeat' first|refine tA rfl ?_ |refine aU rfl ?_ |refine Aa ?_|(refine aC rfl ?_ ?_<;>rintro⟨⟩)|refine aK ?_|refine aE ?_|refine aB ?_|refine aR ⟨_,rfl,?_⟩)
   rfl
end Go.Am
