/-
  The reference's automata: runs, answers; what tells two automata apart.
-/
import Derived.Test.YtbfgijpfhgmepaaGreatDoorPart19
import Derived.Test.YtbfgijpfhgmepaaGreatDoorPart12
import Derived.Test.YtbfgijpfhgmepaaGreatDoorPart13
import Derived.Test.YtbfgijpfhgmepaaGreatDoorPart16
import Derived.Test.YtbfgijpfhgmepaaGreatDoorPart5
import Derived.WideKeyArr
import Derived.Test.YtbfgijpfhgmepaaGreatDoorPart14
set_option linter.constructorNameAsVariable false
set_option linter.unusedSectionVars false
set_option linter.unusedSimpArgs false
set_option linter.unusedVariables false
namespace Go.Am
open Go Go.Proofs
set_option maxHeartbeats 1000000
attribute [local irreducible] AX Cb Lex Bh Aj Spec
variable {TB:Bz}
theorem Ex{w:W}{al:Int}(h:within w al=true):AT (A6 al) w:=by
 unfold within at h;simp only [d4,decide_eq_true_eq] at h;intro c b;have a:=(f9.1 h.2.2) c b;unfold Ig Gc at a;simp only [d4,decide_eq_true_eq] at a;refine d9.2 ⟨((c.toNat - 97:Nat):Int),D0.2 ⟨by omega,a.2⟩,?_⟩;unfold lb
 have e:97+((c.toNat - 97:Nat):Int).toNat=c.toNat:=by omega
 rw [e];simp
theorem GI{w:W}{al:Int}(h:AT (A6 al) w)(d:w.length<=50000)(ha:A7 al=true):within w al=true:=by
 unfold within;simp only [d4,decide_eq_true_eq];refine⟨d,ha,f9.2 λc f=>?_⟩;obtain⟨l,b,rfl⟩:=d9.1 (h c f);have a:=Au b;have g:=MA a.1 (by omega);unfold Ig Gc;simp only [d4,decide_eq_true_eq]
 have e:(lb l).toNat - 97=l.toNat:=by omega
 rw [e];exact⟨by omega,a.2.2⟩
theorem bL{p:AZ}(g:AP p=true)(w:W)(n:AT (A6 p.al) w)(r:w.length<=1099511627776):Pure Tryz.prog TB 225 [Bi p,eI .i64 0,eT w] (eI .i64 (Fm p 0 w)):=by
 have o:=AH g;refine eN Tryz.func225 rfl (by kernel_rfl) rfl ?_;intro Z a;(repeat first|refine tA rfl ?_ |refine aU rfl ?_ |refine Aa ?_);refine aB ?_;refine aL (α:={k:Nat // k<=w.length}) [2,3] [] rfl rfl (λ⟨k,hk⟩=>[(1,eI .i64 (Fm p 0 (w.take k))),(7,eI .i64 k)]) (λ⟨k,hk⟩=>[]) 0 (λ⟨k,hk⟩=>w.length - k) (⟨0,by omega⟩) a rfl (by (simp[cX,zC,a]<;>rfl)) ?_;rintro⟨k,hk⟩;(try dsimp only[cA,cB]);have q:=SH g (w.take k) 0 (Jy n k) (by omega);by_cases h:k < w.length
 ·obtain⟨c,l⟩:=get_some h
  have j:w[((k:Nat):Int).toNat]? = some c:=by simpa using l
  have d:=Ij (n c (co l));have i:=Ih (TB:=TB) w k c j;have b:=Jt (TB:=TB) p g (Fm p 0 (w.take k)).toNat (by omega) ((c.toNat:Int) - 97) d.1 d.2
  have e:(((Fm p 0 (w.take k)).toNat:Nat):Int)=Fm p 0 (w.take k):=by omega
  rw [e] at b;have f:=ZM (p:=p) l 0;rw [<-f] at b;(repeat first|refine tA rfl ?_ |refine s2 rfl λ_ m=>?_ |refine aU rfl ?_ |refine Aa ?_);(refine aC rfl ?_ ?_<;>rintro⟨⟩)
  ·(repeat' first|(refine sA rfl ?_ ?_;first|exact tI|omega) |refine sP rfl (i) rfl ?_|refine sP rfl (b) rfl ?_ |refine aU rfl ?_ |refine Aa ?_ |refine rE (by kernel_rfl) ?_|(refine aC rfl ?_ ?_<;>rintro⟨⟩)|refine aK ?_|refine aE ?_|refine aB ?_|refine aR ⟨_,rfl,?_⟩)
   refine⟨⟨k+1,by omega⟩,by dsimp only;(omega),[],?_⟩;simp[cX,zC,a]
  ·exfalso;(simp only[oZ] at *;omega)
 ·obtain rfl:k=w.length:=by omega
  rw [io];(repeat first|refine tA rfl ?_ |refine s2 rfl λ_ m=>?_ |refine aU rfl ?_ |refine Aa ?_);(refine aC rfl ?_ ?_<;>rintro⟨⟩)
  ·exfalso;(simp only[oZ] at *;omega)
  ·(repeat' first|refine tA rfl ?_ |refine aU rfl ?_ |refine Aa ?_|(refine aC rfl ?_ ?_<;>rintro⟨⟩)|refine aK ?_|refine aE ?_|refine aB ?_|refine aR ⟨_,rfl,?_⟩)
   rfl
def Gh(p:AZ)(w:W):Int:=if AP p && within w p.al then Fm p 0 w else -1
def PQ(p:AZ)(w:W):Bool:=AP p && (within w p.al && LA p w)
theorem Qn(p:AZ)(w:W)(e:w.length<=1099511627776):Pure Tryz.prog TB 219 [Bi p,eT w] (eI .i64 (Gh p w)):=by
 have g:=Bk (TB:=TB) p;have f:=Ef (TB:=TB) w p.al e;by_cases b:(AP p && within w p.al)=true
 ·have d:Gh p w=Fm p 0 w:=by unfold Gh;rw [if_pos b]
  rw [d];rw [d4] at b;have h:=bL (TB:=TB) b.1 w (Ex b.2) e;refine eN Tryz.func219 rfl (by kernel_rfl) rfl ?_;intro Z c;(repeat' first|refine tA rfl ?_ |refine s2 rfl λ_ a=>?_ |(refine sC rfl (g) ?_;intro _ a)|(refine sC rfl (f) ?_;intro _ a)|refine sP rfl (h) rfl ?_ |refine s3 rfl ?_ ?_<;>rintro rfl |refine aU rfl ?_ |refine Aa ?_|(refine aC rfl ?_ ?_<;>rintro⟨⟩)|refine aK ?_|refine aE ?_|refine aB ?_|refine aR ⟨_,rfl,?_⟩)
  all_goals first
   | rfl
   | (exfalso;grind;done)
 ·have d:Gh p w = -1:=by unfold Gh;rw [if_neg b]
  rw [d];refine eN Tryz.func219 rfl (by kernel_rfl) rfl ?_;intro Z c;(repeat' first|refine tA rfl ?_ |refine s2 rfl λ_ a=>?_ |(refine sC rfl (g) ?_;intro _ a)|(refine sC rfl (f) ?_;intro _ a) |refine s3 rfl ?_ ?_<;>rintro rfl |refine aU rfl ?_ |refine Aa ?_|(refine aC rfl ?_ ?_<;>rintro⟨⟩)|refine aK ?_|refine aE ?_|refine aB ?_|refine aR ⟨_,rfl,?_⟩)
  all_goals first
   | rfl
   | (exfalso;grind;done)
theorem On(p:AZ)(w:W)(h:w.length<=1099511627776):Pure Tryz.prog TB 193 [Bi p,eT w] (eB (PQ p w)):=by
 have c:=Qn (TB:=TB) p w h;by_cases a:(AP p && within w p.al)=true
 ·have e:Gh p w=Fm p 0 w:=by unfold Gh;rw [if_pos a]
  rw [e] at c;rw [d4] at a;have g:=AH a.1;have j:=SH a.1 w 0 (Ex a.2) (by omega);obtain⟨b,hb⟩:=get_some (l:=p.ac) (k:=(Fm p 0 w).toNat) (by omega)
  have i:(p.ac.map IQ)[(Fm p 0 w).toNat]? = some (IQ b):=by simp [hb]
  have ha:PQ p w=b:=by unfold PQ LA;simp [a.1,a.2,List.getD,hb]
  rw [ha];refine eN Tryz.func193 rfl (by kernel_rfl) rfl ?_;intro Z d;(repeat' first|refine tA rfl ?_ |(refine s4 rfl ‹_› rfl ?_ ?_;omega) |refine s2 rfl λ_ f=>?_ |refine sP rfl (c) rfl ?_ |refine s3 rfl ?_ ?_<;>rintro rfl |refine aU rfl ?_ |refine Aa ?_|(refine aC rfl ?_ ?_<;>rintro⟨⟩)|refine aK ?_|refine aE ?_|refine aB ?_|refine aR ⟨_,rfl,?_⟩)
  all_goals first
   | rfl
   | (exfalso;(simp only[oZ] at *;omega))
 ·have e:Gh p w = -1:=by unfold Gh;rw [if_neg a]
  rw [e] at c
  have ha:PQ p w=false:=by unfold PQ;grind
  rw [ha];refine eN Tryz.func193 rfl (by kernel_rfl) rfl ?_;intro Z d;(repeat' first|refine tA rfl ?_ |refine s2 rfl λ_ f=>?_ |refine sP rfl (c) rfl ?_ |refine s3 rfl ?_ ?_<;>rintro rfl |refine aU rfl ?_ |refine Aa ?_|(refine aC rfl ?_ ?_<;>rintro⟨⟩)|refine aK ?_|refine aE ?_|refine aB ?_|refine aR ⟨_,rfl,?_⟩)
  all_goals first
   | rfl
   | (exfalso;(simp only[oZ] at *;omega))
structure EF where
 kn:Bool
 p:AZ
 s:Sys
 q:AZ
 al:Int
abbrev EE(t:EF):E:=mz t.kn t.p t.s t.q t.al
end Go.Am
namespace Go.Am
open Go
set_option linter.unusedVariables false
def Cn(es:List DW)(l:Int)(m:Nat):Nat:=es.foldl (λa e=>if e.l=l/\m.testBit e.f.toNat=true then a ||| 2 ^ e.t.toNat else a) 0
theorem Jp{α:Type}{p:α->Prop}[DecidablePred p]{g:α->Nat}{j:Nat}:∀(l:List α) (a:Nat),(l.foldl (λa e=>if p e then a ||| g e else a) a).testBit j=true↔a.testBit j=true\/∃e∈l,p e/\(g e).testBit j=true
 | [],a=>by simp
 | x :: l,a=>by
  rw [oh,Jp l];by_cases h:p x
  ·rw [if_pos h,oK,nq]
   constructor
   ·rintro((b|b)|⟨e,b,c⟩)
    ·exact .inl b
    ·exact .inr ⟨x,by simp,h,b⟩
    ·exact .inr ⟨e,by simp [b],c⟩
   ·rintro(b|⟨e,b,c,d⟩)
    ·exact .inl (.inl b)
    ·rcases ng.1 b with rfl|b
     ·exact .inl (.inr d)
     ·exact .inr ⟨e,b,c,d⟩
  ·rw [if_neg h]
   constructor
   ·rintro(b|⟨e,b,c⟩)
    ·exact .inl b
    ·exact .inr ⟨e,by simp [b],c⟩
   ·rintro(b|⟨e,b,c,d⟩)
    ·exact .inl b
    ·rcases ng.1 b with rfl|b
     ·exact absurd c h
     ·exact .inr ⟨e,b,c,d⟩
theorem DJ{es:List DW}{l:Int}{m j:Nat}:(Cn es l m).testBit j=true↔∃e∈es,(e.l=l/\m.testBit e.f.toNat=true)/\e.t.toNat=j:=by
 unfold Cn;rw [Jp];simp [oM]
structure CK where
 s:Sys
 q:AZ
 al:Int
def Bc(t:CK):Bool:=AU t.s && (AP t.q && A7 t.al)
def Cs(t:CK):List Int:=(Ac t.s.al).filter λl=>!AV t.al l.toNat
def Dh(s:Sys)(l:Int)(m:Nat):Nat:=if AV s.al l.toNat then Cn s.es l m else m
abbrev PS:=Nat->Nat
def Vo(t:CK)(l:Int)(F:PS):PS:=λp'=>(List.range t.q.nx.length).foldl (λa p=>if CA t.q p l=(p':Int) then a ||| Dh t.s l (F p) else a) 0
theorem Lg{t:CK}{l:Int}{F:PS}{p' j:Nat}:(Vo t l F p').testBit j=true↔∃p,p < t.q.nx.length/\CA t.q p l=(p':Int)/\(Dh t.s l (F p)).testBit j=true:=by
 unfold Vo;rw [Jp];simp
inductive PN (t:CK) (F0:PS):Nat->Nat->Prop
 | base {p j:Nat}:(F0 p).testBit j=true->PN t F0 p j
 | step {p j:Nat} {e:DW}:PN t F0 p j->e∈t.s.es->e.l∈Cs t->e.f.toNat=j->PN t F0 (CA t.q p e.l).toNat e.t.toNat
open Classical in
noncomputable def RP(t:CK)(F0:PS):PS:=λp=>(List.range 16).foldl (λa j=>if PN t F0 p j then a ||| 2 ^ j else a) 0
open Classical in
theorem NW{t:CK}{F0:PS}{p j:Nat}:(RP t F0 p).testBit j=true↔j < 16/\PN t F0 p j:=by
 unfold RP;rw [Jp];simp only [qS,pG,false_or,nk,oM,decide_eq_true_eq];constructor
 ·rintro⟨e,b,a,rfl⟩;exact⟨b,a⟩
 ·rintro⟨b,a⟩;exact⟨j,b,a,rfl⟩
structure CZ (t:CK) (F:PS):Prop where
 lt:∀p,F p < 65536
 z:∀p,t.q.nx.length<=p->F p=0
theorem Jo{m:Nat}(h:∀j,m.testBit j=true->j < 16):m < 65536:=by
 have:m < 2 ^ 16:=Nat.lt_pow_two_of_testBit m λi hi=>by
  cases hb:m.testBit i
  ·rfl
  ·have:=h i hb;omega
 omega
theorem La{m j:Nat}(h:m < 65536)(hb:m.testBit j=true):j < 16:=by
 rcases nG j 16 with a|a
 ·exact a
 ·have:m.testBit j=false:=Nat.testBit_lt_two_pow (lw h (nU (n:=2) (by omega) a))
  rw [this] at hb;cases hb
theorem Hy{m:Nat}(h:∀j,m.testBit j=false):m=0:=oJ λj=>by rw [h j];simp
section
variable {t:CK}(ht:Bc t=true)
include ht set_option linter.unusedSectionVars false
theorem HU{e:DW}(a:e∈t.s.es):0<=e.f/\e.f < 16/\0<=e.t/\e.t < 16/\0<=e.l/\e.l < 6:=by
 unfold Bc at ht;simp only [d4] at ht;have b:=Dc ht.1 a;have c:=AN ht.1;unfold Dy at b;grind
theorem Cw:AP t.q=true:=by
 unfold Bc at ht;simp only [d4] at ht;exact ht.2.1
theorem DH{l:Int}(h:l∈Cs t):0<=l/\l < 6/\AV t.s.al l.toNat=true:=by
 unfold Cs at h;have a:=Au (nr.1 h).1;exact⟨a.1,by omega,a.2.2⟩
theorem Jf{l:Int}{m:Nat}(a:m < 65536):Dh t.s l m < 65536:=by
 unfold Dh;split
 ·refine Jo λj b=>?_
  obtain⟨e,c,_,rfl⟩:=DJ.1 b;have:=HU ht c;omega
 ·exact a
theorem Ks{l:Int}(a:0<=l/\l < 6){F:PS}(h:CZ t F):CZ t (Vo t l F):=by
 refine⟨λp=>Jo λj d=>?_,λp f=>Hy λj=>?_⟩
 ·obtain⟨q,c,e,b⟩:=Lg.1 d
  exact La (Jf ht (h.lt q)) b
 ·cases hb:(Vo t l F p).testBit j
  ·rfl
  ·obtain⟨q,c,e,b⟩:=Lg.1 hb
   have:=Dl (Cw ht) c a.1 a.2;omega
theorem PN.lt{F0:PS}(h:CZ t F0){p j:Nat}(c:PN t F0 p j):p < t.q.nx.length/\j < 16:=by
 induction c with
 | @base p j hb=>
  refine⟨?_,La (h.lt p) hb⟩
  rcases nG p t.q.nx.length with a|a
  ·exact a
  ·rw [h.z p a] at hb;simp at hb
 | @step p j e _ d f _ b=>
  have a:=HU ht d;have g:=Dl (Cw ht) b.1 a.2.2.2.2.1 a.2.2.2.2.2;omega
theorem bg{F0:PS}(h:CZ t F0):CZ t (RP t F0):=by
 refine⟨λp=>Jo λj a=>(NW.1 a).1,λp b=>Hy λj=>?_⟩;cases hb:(RP t F0 p).testBit j
 ·rfl
 ·have:=((NW.1 hb).2.lt ht h).1
  omega
theorem bf{F0 G:PS}(c:CZ t F0)(n:∀p,t.q.nx.length<=p->G p=0)(m:∀p j,(F0 p).testBit j=true->(G p).testBit j=true)(b:∀p j,(G p).testBit j=true->PN t F0 p j)
 (k:∀p l j,p < t.q.nx.length->l∈Cs t->(Cn t.s.es l (G p)).testBit j=true->(G (CA t.q p l).toNat).testBit j=true):G=RP t F0:=by
 have key:∀ {p j:Nat},PN t F0 p j->(G p).testBit j=true:=λ{p j} a=>by
  induction a with
  | base hb=>exact m _ _ hb
  | @step p j e a i f g d=>exact k p e.l _ (a.lt ht c).1 f (DJ.2 ⟨e,i,⟨rfl,by rw [g];exact d⟩,rfl⟩)
 funext p;refine oJ λj=>?_;rw [oT,NW];exact⟨λh=>⟨((b p j h).lt ht c).2,b p j h⟩,λh=>key h.2⟩
end
def IC:PS:=λp=>if p=0 then 1 else 0
noncomputable def Cu(t:CK):PS:=RP t IC
noncomputable def Eb(t:CK)(l:Int)(F:PS):PS:=RP t (Vo t l F)
def GV(t:CK)(F:PS):Bool:=(List.range t.q.nx.length).any λp=>decide (F p≠0) && !(t.q.ac.getD p false)
noncomputable def HO(t:CK):PS->W->Bool
 | F,[]=>!GV t F
 | F,c::w=>!GV t F && HO t (Eb t ((c.toNat:Int) - 97) F) w
noncomputable def LS(t:CK)(w:W):Bool:=HO t (Cu t) w
section
variable {t:CK}(ht:Bc t=true)
include ht
theorem LX:CZ t IC:=by
 have h:=AH (Cw ht);refine⟨λp=>by unfold IC;split<;>omega,λp a=>by unfold IC;rw [if_neg (by omega)]⟩
theorem Gq:CZ t (Cu t):=bg ht (LX ht)
theorem Ll{l:Int}(a:0<=l/\l < 6){F:PS}(h:CZ t F):CZ t (Eb t l F):=bg ht (Ks ht a h)
end
end Go.Am
namespace Go.Am
open Go Go.Proofs
set_option maxHeartbeats 1000000
attribute [local irreducible] AX Cb Lex Bh Aj Spec
variable {TB:Bz}
theorem UH:∀ {l:List Int},l.Pairwise (· < ·)->(∀x∈l,0<=x)->∀j:Nat,(BI l).testBit j=true↔(j:Int)∈l
 | [],_,_,j=>by simp [BI]
 | x :: r,e,f,j=>by
  have h:=f x (by simp);have c:=nP.1 e;have d:=UH c.2 (λy g=>f y (by simp [g])) j;obtain⟨m,o,n⟩:=ML e h;rw [o,Nat.testBit_two_pow_mul];rw [n,Nat.testBit_two_pow_mul] at d;rw [ng,<-d];by_cases k:j=x.toNat
  ·subst k
   simp;omega
  ·have b:¬(j:Int)=x:=by omega
   have hb:x.toNat<=j->(2*m+1).testBit (j - x.toNat)=(2*m).testBit (j - x.toNat):=λa=>by
    obtain⟨i,hi⟩:∃i,j - x.toNat=i+1:=⟨j - x.toNat - 1,by omega⟩
    rw [hi,pb,pb];congr 1;omega
   by_cases a:x.toNat<=j
   ·rw [hb a];simp [b]
   ·simp [a,b]
def EI(m k:Nat):List Int:=((List.range k).filter (m.testBit ·)).map Int.ofNat
theorem Tv(m k:Nat):EI m (k+1)=EI m k++if m.testBit k then [(k:Int)] else []:=by
 unfold EI;rw [oU,oq,nY];cases h:m.testBit k<;>simp [h]
theorem Rv(m:Nat):∀k,BI (EI m k)=m % 2 ^ k
 | 0=>by simp [EI,BI,Nat.mod_one]
 | k+1=>by
  rw [Tv,Ps,Rv m k,qb,Nat.mod_mul,ql];by_cases h:m / 2 ^ k % 2=1
  ·rw [h];simp [BI]
  ·rw [show m / 2 ^ k % 2=0 by omega];simp [BI]
theorem PX(m k:Nat):(EI m k).Pairwise (· < ·):=by
 unfold EI;rw [oY]
 exact(List.pairwise_lt_range.filter _).imp λh=>by simpa using h
theorem Mh{m k:Nat}{x:Int}(h:x∈EI m k):0<=x/\x < k/\m.testBit x.toNat=true:=by
 unfold EI at h;obtain⟨n,a,rfl⟩:=d9.1 h;obtain⟨c,b⟩:=nr.1 a;have:=nk.1 c;exact⟨by simp,by simp;omega,by simpa using b⟩
theorem RM{m:Nat}(h:m < 65536):m=BI (EI m 16):=by rw [Rv];omega
def Qi(es:List DW)(l:Int)(xs:List Int):Nat:=xs.foldl (λa x=>a ||| BI (Ma es x.toNat l.toNat)) 0
theorem O8{s:Sys}(b:AU s=true){l:Int}{j:Nat}:∀ {xs:List Int} {a:Nat},(xs.foldl (λa x=>a ||| BI (Ma s.es x.toNat l.toNat)) a).testBit j=true↔a.testBit j=true\/∃x∈xs,(j:Int)∈Ma s.es x.toNat l.toNat
 | [],a=>by simp
 | x::xs,a=>by
  rw [oh,O8 b,oK,nq];have c:=Fs b s.es.length x.toNat l.toNat;rw [io] at c;have e:=UH c (λy d=>(MQ b (k:=s.es.length) (by rw [io];exact d)).1) j;rw [e];simp only [ng,exists_eq_or_imp,or_assoc]
theorem fm{s:Sys}(g:AU s=true){l:Int}(r:0<=l){m:Nat}(n:m < 65536):Qi s.es l (EI m 16)=Cn s.es l m:=by
 refine oJ λj=>?_;rw [oT];unfold Qi;rw [O8 g,DJ];simp only [qS,pG,false_or];constructor
 ·rintro⟨x,k,h⟩
  obtain⟨q,d,i⟩:=Mh k;unfold Ma at h;obtain⟨e,a,p⟩:=d9.1 h;obtain⟨c,b⟩:=nr.1 a;simp only [d4,decide_eq_true_eq] at b;exact⟨e,c,⟨by omega,by rw [show e.f.toNat=x.toNat by omega];exact i⟩,by omega⟩
 ·rintro⟨e,a,⟨q,d⟩,i⟩
  have hb:=Dc g a;unfold Dy at hb;simp only [d4,decide_eq_true_eq] at hb;have o:=La n d;refine⟨e.f,?_,?_⟩
  ·unfold EI
   exact d9.2 ⟨e.f.toNat,nr.2 ⟨nk.2 o,d⟩,by simp;omega⟩
  ·unfold Ma
   refine d9.2 ⟨e,nr.2 ⟨a,?_⟩,by omega⟩;simp only [d4,decide_eq_true_eq];omega
theorem fo{s:Sys}(b:AU s=true){l:Int}{xs:List Int}:Qi s.es l xs < 65536:=Jo λj a=>by
 unfold Qi at a;rw [O8 b] at a;simp only [qS,pG,false_or] at a;obtain⟨x,_,c⟩:=a;have:=MQ b (k:=s.es.length) (by rw [io];exact c);omega
theorem N5{a b:Nat}(ha:a < 2 ^ 62)(hb:b < 2 ^ 62):Gk .i64 (a:Nat) (b:Nat)=((a ||| b:Nat):Int):=by
 have d:a ||| b < 2 ^ 62:=o4 ha hb;unfold Gk
 have c:(BitVec.ofInt IntKind.i64.bits (a:Int) ||| BitVec.ofInt IntKind.i64.bits (b:Int)).toNat=a ||| b:=by
  have e:IntKind.i64.bits=64:=rfl;rw [e];simp only [BitVec.toNat_or,BitVec.ofInt_natCast,BitVec.toNat_ofNat];rw [nD (by omega),nD (by omega)]
 rw [c];exact IntWalk.i64_in _ (by omega)
theorem fN[Dt TB]{s:Sys}(r:AU s=true){l:Int}(F:0<=l/\l < 6){m:Nat}(u:m < 65536):Pure Tryz.prog TB 222 [.o (.ip (FH s.es)),eI .i64 (m:Nat),eI .i64 l] (eI .i64 (Cn s.es l m:Nat)):=by
 rw [<-fm r F.1 u];rw [RM u]
 have hb:∀x∈EI m 16,0<=x/\x < 16:=λx h=>⟨(Mh h).1,(Mh h).2.1⟩
 have I:=PX m 16;rw [<-RM u]
 conv=>arg 4;rw [RM u]
 generalize EI m 16=xs at *;refine eG Tryz.func222 rfl (by kernel_rfl) rfl ?_;intro Z c;(repeat first|refine tA rfl ?_ |refine aU rfl ?_ |refine Aa ?_);refine aB ?_;refine aL (α:={k:Nat // k<=xs.length}) [0,2] [] rfl rfl (λ⟨k,hk⟩=>[(1,eI .i64 (BI (xs.drop k):Nat)),(7,eI .i64 (Qi s.es l (xs.take k):Nat))]) (λ⟨k,hk⟩=>[]) 0 (λ⟨k,hk⟩=>xs.length - k) (⟨0,by omega⟩) c rfl (by (simp[cX,zC,c]<;>rfl)) ?_;rintro⟨k,hk⟩;(try dsimp only[cA,cB]);by_cases A:k < xs.length
 ·obtain⟨x,h⟩:=get_some A
  have B:=BA h;have d:=hb x (co h)
  have f:(x::xs.drop (k+1)).Pairwise (· < ·):=by rw [<-B];exact I.sublist (List.drop_sublist _ _)
  have z:BI (x::xs.drop (k+1)) < 2 ^ 16:=by
   refine Lv f λy q=>?_;rw [<-B] at q;exact hb y (oI q)
  have w:=Jg (x:=x) (l:=xs.drop (k+1));have p:=UI f d.1 (by omega);have n:=QG f d.1 (by omega);rw [<-B] at z w p n;have e:=gC (TB:=TB) (BI (xs.drop k)) (by omega) (by omega);rw [p] at e
  have ex:((x.toNat:Nat):Int)=x:=by omega
  rw [ex] at e;have i:=Fs r s.es.length x.toNat l.toNat;rw [io] at i;have G:BI (Ma s.es x.toNat l.toNat) < 65536:=Lv (t:=16) i λy q=>MQ r (k:=s.es.length) (by rw [io];exact q);have H:Qi s.es l (xs.take k) < 65536:=fo r;have j:=N5 (a:=Qi s.es l (xs.take k)) (b:=BI (Ma s.es x.toNat l.toNat)) (by omega) (by omega)
  have v:Qi s.es l (xs.take (k+1))=Qi s.es l (xs.take k) ||| BI (Ma s.es x.toNat l.toNat):=by unfold Qi;rw [d8,h,pK];rfl
  rw [<-v] at j;(repeat first|refine tA rfl ?_ |refine s2 rfl λ_ g=>?_ |refine aU rfl ?_ |refine Aa ?_)
  ((refine aC rfl ?_ ?_<;>rintro⟨⟩);all_goals try(exfalso;(simp only[oZ] at *;omega)))
  refine aK ?_;refine aS (aB ?_);refine rG (Gj []) (by kernel_rfl) ?_;(repeat first|(refine sA rfl ?_ ?_;first|exact tI|omega) |refine sP rfl (e) rfl ?_|(refine Ag rfl ?_;refine gA rfl ?_;first| refine gS (λ_ _=>EB rfl (bX d F)) ?_) |refine aU rfl ?_ |refine Aa ?_);refine⟨⟨k+1,by omega⟩,by dsimp only;(omega),[],?_⟩;simp[cX,zC,c,j,n]
 ·obtain rfl:k=xs.length:=by omega
  rw [io];(repeat first|refine tA rfl ?_ |refine s2 rfl λ_ g=>?_ |refine aU rfl ?_ |refine Aa ?_);(refine aC rfl ?_ ?_<;>rintro⟨⟩)
  ·exfalso
   rw [pB] at g;simp [BI] at g
  refine aE ?_;(repeat first|refine tA rfl ?_ |refine aU rfl ?_ |refine Aa ?_);(subst_vars;exact aR ⟨_,rfl,rfl⟩)
end Go.Am
namespace Go.Am
open Go
def LZ(q:IntKind)(l:List Int):Value:=.agg (l.map (Value.int q)).toArray
abbrev mo(q:IntKind)(l:List Int):List C:=l.map λx=>.d (.v (.int q x))
abbrev eL(q:IntKind)(l:List Int):E:=.a (mo q l)
theorem XH{q:IntKind}{a b:List Int}:LZ q a=LZ q b↔a=b:=by
 unfold LZ;constructor
 ·intro h
  injection h with h
  have h:=congrArg Array.toList h;simp only at h;exact(List.map_inj_right (λx y h=>by injection h)).1 h
 ·rintro rfl;rfl
theorem K8{V:View}{q:IntKind}{l:List Int}{v:Value}(h:Bl V (eL q l) v):v=LZ q l:=by
 obtain⟨vs,rfl,f,e⟩:=h;unfold LZ;congr 1;apply Array.ext
 ·simpa using f
 ·intro i c b
  have a:i < l.length:=by simpa using b
  have:=AG.val (e i (.d (.v (.int q l[i]))) vs[i] (by simp [d6 a]) (mt c));rw [this];simp
class Gt (P:Program) (t:TypeId) (n:outParam Nat) (q:outParam IntKind):Prop where
 u:∃e,WideMaps.ArrKey P t e n/\P.underlying e=some (.int q)
 eg:P.eqGuardType P.depth t=false
 sz:P.types.size≠0
section
variable {P:Program}{t:TypeId}{n:Nat}{q:IntKind}
theorem mapM_some{α β:Type}{f:α->Option β}:∀ {l:List α},(∀x∈l,∃y,f x=some y)->∃ys,l.mapM f=some ys
 | [],_=>⟨[],rfl⟩
 | x::l,h=>by
  obtain⟨y,c⟩:=h x (by simp);obtain⟨ys,a⟩:=mapM_some (l:=l) (λz b=>h z (by simp [b]));exact⟨y::ys,by rw [po,c,a];rfl⟩
theorem Gt.key(h:Gt P t n q){l:List Int}(f:l.length=n)(g:∀x∈l,(Lit.int q x).wf=true):∃lx,keyOf P t (LZ q l)=some lx:=by
 obtain⟨e,a,k⟩:=h.u;obtain⟨m,b⟩:=Nat.exists_eq_succ_of_ne_zero h.sz;have b:P.types.size=m+1:=b
 have w:∀i∈List.range n,∃y,P.keyLits (m+1) e ((((l.map (Value.int q)).toArray.toList).drop (i*P.cellsOf e)).take (P.cellsOf e))=some y:=λi hi=>by
  have hi:i < n:=nk.1 hi;rw [a.one,qW]
  obtain⟨x,d⟩:∃x,l[i]? = some x:=⟨l[i],d6 (by omega)⟩
  have v:(((l.map (Value.int q)).toArray.toList).drop i).take 1=[Value.int q x]:=by
   have s:(l.map (Value.int q))[i]? = some (Value.int q x):=by simp [d]
   obtain⟨r,p⟩:=ce.1 s;simp only;rw [pi r,p];rfl
  rw [v];refine⟨[.int q x],?_⟩;unfold Program.keyLits;simp [k,g x (co d)]
 obtain⟨ys,c⟩:=mapM_some w
 have o:P.keyLits (P.types.size+1) t (LZ q l).cells.toList=some ys.flatten:=by
  rw [b]
  show P.keyLits (m+1+1) t (l.map (Value.int q)).toArray.toList=_
  unfold Program.keyLits;simp only [a.hu];rw [if_pos (by rw [a.size];simp [f])];rw [c];rfl
 have j:(LZ q l).formed P t=true:=by simp [LZ,Value.formed,a.hu,a.size,f]
 unfold keyOf;rw [a.hu];simp only;rw [if_pos (by rw [a.keyType ⟨m,b⟩,j];rfl),o];exact⟨_,rfl⟩
theorem Gt.law(h:Gt P t n q):WideMaps.KeyLaw P t:=by
 obtain⟨e,a,b⟩:=h.u;exact a.law
theorem Gt.run_eq(h:Gt P t n q){a b:List Int}(ha:a.length=n)(hb:b.length=n)(g:∀x∈a,(Lit.int q x).wf=true)(f:∀x∈b,(Lit.int q x).wf=true)(w:World):(Op.equal t (LZ q a) (LZ q b)).run P w=.ok (decide (a=b)) w:=by
 obtain⟨lx,d⟩:=h.key ha g;obtain⟨ly,c⟩:=h.key hb f;obtain⟨e,j,o⟩:=h.u;obtain⟨r,l,k⟩:=run_equal_deep w (m:=2) (by omega) (j.at 0) j.wide d c;rw [l];congr 1;rw [oT,k,decide_eq_true_eq];refine⟨λi=>XH.1 (h.law.inj d (by rw [i];exact c)),λi=>?_⟩;subst i;rw [d] at c;injection c
end
section
variable {P:Program}{TB:Bz}{Z:Ctx}{d:Option Tmp}{ty:TypeId}{pos:String}{af:Array Edge}{g:Option (Nat×Bool)}{f:Env}{σ:Ab}{nx:Nat}
variable {K:E->Ab->Nat->Prop}{t:TypeId}{n:Nat}{q:IntKind}
theorem Lr{x y:Operand}{l:List Int}{k:IntKind}{i:Int}{v:Int}[h:Gt P t n q](o:ev f x=some (eL q l))(m:ev f y=some (eI k i))(G:l.length=n)(F:0<=i)(a:l[i.toNat]? = some v) :
 AX P TB Z ⟨d,.index t x y,ty,pos,af,g⟩ f σ nx (eI q v):=
 AO λV ρ j _=>by
  have B:=K8 (j.get (by simp [Op.operands]) o);have A:ρ y=.int k i:=AG.val (j.get (by simp [Op.operands]) m);obtain⟨e,c,b⟩:=h.u;obtain⟨inf,hi⟩:=info_of_underlying b
  have z:inf.size=1:=by have:=c.one;simpa [Program.cellsOf,hi] using this
  have p:=(ce.1 a).1
  have s:i < (n:Int):=by omega
  refine⟨.int q v,?_,.d (.v rfl)⟩
  have H:(l.map (Value.int q)).toArray[i.toNat]? = some (.int q v):=by simp [a]
  have r:(isAgg e).run P V.w=.ok false V.w:=by simp [isAgg,run_underlying b,go_sem]
  simp [execOp,B,A,LZ,Instr.index,asIntOf,run_underlying c.hu,F,s,part,r,sizeOf,typeInfo,hi,z,a,go_sem]
theorem ku{yt:TypeId}{x y:Operand}{a b:List Int}[h:Gt P t n q](k:ev f x=some (eL q a))(j:ev f y=some (eL q b))(ha:a.length=n)(hb:b.length=n)(e:∀x∈a,(Lit.int q x).wf=true)(c:∀x∈b,(Lit.int q x).wf=true) :
 AX P TB Z ⟨d,.binOp .eql t x y yt,ty,pos,af,g⟩ f σ nx (eB (decide (a=b))):=
 AO λV ρ i _=>by
  have p:=K8 (i.get (x:=x) (by simp [Op.operands]) k);have o:=K8 (i.get (x:=y) (by simp [Op.operands]) j);refine⟨.bool (decide (a=b)),?_,.d (.v rfl)⟩;have m:binOp .eql t (LZ q a) (LZ q b)=(do pure (.bool (<-Op.equal t (LZ q a) (LZ q b)))):=rfl
  have l:(eqGuard .eql t x y (LZ q a) (LZ q b)).run P V.w=.ok () V.w:=by
   unfold eqGuard LZ;simp [h.eg,go_sem]
  simp [execOp,p,o,m,l,h.run_eq ha hb e c V.w,go_sem]
def mapA(q:IntKind)(l:List (List Int×Int)):List (Value×Value):=l.map λp=>(LZ q p.1,.int .i64 p.2)
def DN:List (List Int×Int)->List Int->Option Int
 | [],_=>none
 | p::l,s=>if p.1=s then some p.2 else DN l s
theorem Ic:∀ {l:List (List Int×Int)} {s:List Int},DN l s=none↔∀p∈l,p.1≠s
 | [],s=>by simp [DN]
 | p::l,s=>by
  unfold DN;split
  ·rename_i h;simp [h]
  ·rename_i h;rw [Ic (l:=l)];simp [h]
theorem Mo:∀ {l:List (List Int×Int)} {p:List Int×Int},l.Pairwise (λa b=>a.1≠b.1)->p∈l->DN l p.1=some p.2
 | [],p,_,h=>by cases h
 | x :: l,p,c,h=>by
  unfold DN
  rcases ng.1 h with rfl|h
  ·rw [if_pos rfl]
  ·rw [if_neg ((nP.1 c).1 p h)]
   exact Mo (nP.1 c).2 h
def Qr(n:Nat)(q:IntKind)(l:List (List Int×Int)):Prop:=∀p∈l,p.1.length=n/\∀x∈p.1,(Lit.int q x).wf=true
theorem QB[h:Gt P t n q]{l:List (List Int×Int)}{es:List MapEntry}{s:List Int}(v:Qr n q l)(g:es.map (λe=>(e.key,e.val))=mapA q l)(B:s.length=n)(A:∀x∈s,(Lit.int q x).wf=true)(G:l.Pairwise (λa b=>a.1≠b.1))(w:World) :
 ∃r,(Instr.findKey t (LZ q s) es).run P w=.ok r w/\r.map (·.2)=(DN l s).map (.int .i64):=by
 obtain⟨lx,z⟩:=h.key B A
 have d:∀e∈es,∃p∈l,e.key=LZ q p.1/\e.val=.int .i64 p.2:=λe i=>by
  have:(e.key,e.val)∈mapA q l:=by rw [<-g];exact d9.2 ⟨e,i,rfl⟩
  obtain⟨p,f,c⟩:=d9.1 this
  injection c with c u
  exact⟨p,f,c.symm,u.symm⟩
 rcases h.law.find w z es (λe i=>by
  obtain⟨p,f,c,_⟩:=d e i
  rw [c];exact h.key (v p f).1 (v p f).2) with ⟨f,c⟩|⟨j,e,f,c,u⟩
 ·refine⟨none,f,?_⟩
  have:DN l s=none:=Ic.2 λp F i=>by
   have o:(LZ q p.1,Value.int .i64 p.2)∈es.map (λe=>(e.key,e.val)):=by rw [g];exact d9.2 ⟨p,F,rfl⟩
   obtain⟨e,m,k⟩:=d9.1 o
   injection k with k y
   exact c e m (by rw [k,i])
  rw [this];rfl
 ·refine⟨_,f,?_⟩
  obtain⟨p,o,m,k⟩:=d e (co c);have y:p.1=s:=XH.1 (by rw [<-m,u]);rw [<-y,Mo G o,k];rfl
theorem Ox[h:Gt P t n q]{s:List Int}(d:s.length=n)(c:∀x∈s,(Lit.int q x).wf=true)(b:Bool)(w:World):(Instr.checkKey b 10000 t (LZ q s)).run P w=.ok () w:=by
 obtain⟨lx,a⟩:=h.key d c;exact h.law.check w b a
theorem X8{m e:TypeId}{x y:Operand}{id:Nat}{l:List (List Int×Int)}{s:List Int}[M:KH P m t e][h:Gt P t n q][U:Qq P e (.int .i64 0)](Y:ev f x=some (.o (.mp id)))(X:ev f y=some (eL q s))(ho:look σ id=some (.mp (mapA q l)))
 (hl:Qr n q l) (hd:l.Pairwise (λa b=>a.1≠b.1)) (K:s.length=n) (J:∀x∈s,(Lit.int q x).wf=true) :
 AX P TB Z ⟨d,.lookup m x y true,ty,pos,af,g⟩ f σ nx (.t [(false,[.d (.v (.int .i64 ((DN l s).getD 0)))]),(false,[.d (.v (.bool (DN l s).isSome))])]):=
 AO λV ρ L hi=>by
  have T:=L.get (by simp [Op.operands]) Y;have S:ρ y=LZ q s:=K8 (L.get (by simp [Op.operands]) X);generalize c:ρ x=v at T
  cases T with
  | mp hid =>
   obtain⟨hn,ents,clock,R,h2⟩:=hi.st.obj id _ ho;obtain⟨r,z,B⟩:=QB (P:=P) (t:=t) (es:=ents.toList) hl h2 K J hd V.w;have k:=U.out;simp only [nh] at k;obtain⟨i,H,G⟩:=k
   have F:(zeroValue e).run P V.w=.ok (.int .i64 0) V.w:=by simp [zeroValue,typeInfo,H,G,go_sem]
   have A:=Ox (P:=P) (t:=t) K J ents.isEmpty V.w;refine⟨.tuple #[.int .i64 ((DN l s).getD 0),.bool (DN l s).isSome],?_,⟨_,rfl,rfl,λj x v u c=>?_⟩⟩
   ·cases r with
    | none=>
     have I:DN l s=none:=by simpa using B.symm
     simp [execOp,c,S,Instr.lookup,run_underlying M.out,MapKept.run_getObj_map R,A,z,F,I,go_sem]
    | some p=>
     obtain⟨n,I,Q⟩:∃n,DN l s=some n/\p.2=.int .i64 n:=by
      cases N:DN l s with
      | none=>rw [N] at B;simp at B
      | some n=>rw [N] at B;exact⟨n,rfl,by simpa using B⟩
     obtain⟨q1,q2⟩:=p;simp only at Q;subst Q;simp [execOp,c,S,Instr.lookup,run_underlying M.out,MapKept.run_getObj_map R,A,z,I,go_sem]
   ·match j with
    | 0=>simp at u c;subst u;subst c;exact⟨_,rfl,.d (.v rfl)⟩
    | 1=>simp at u c;subst u;subst c;exact⟨_,rfl,.d (.v rfl)⟩
    | j+2=>simp at u
theorem iC{m e:TypeId}{x y z:Operand}{id:Nat}{l:List (List Int×Int)}{s:List Int}{v:Int}[hm:KH P m t e][h:Gt P t n q](T:ev f x=some (.o (.mp id)))(S:ev f y=some (eL q s))(R:ev f z=some (eI .i64 v))(J:look σ id=some (.mp (mapA q l)))
 (hl:Qr n q l) (hd:l.Pairwise (λa b=>a.1≠b.1)) (I:s.length=n) (H:∀x∈s,(Lit.int q x).wf=true) (Y:DN l s=none) (L:K (.t []) ((id,.mp (mapA q (l++[(s,v)])))::σ) nx):Cb P TB Z ⟨d,.mapUpdate m x y z,ty,pos,af,g⟩ f σ nx K:=by
 intro V a c N h3;have c:=c.Hz;unfold Oper.wp;generalize a.eval=ρ at c |-;have Q:=c.get (x:=x) (by simp [Op.operands]) T;have e2:ρ y=LZ q s:=K8 (c.get (by simp [Op.operands]) S);have e3:ρ z=.int .i64 v:=AG.val (c.get (by simp [Op.operands]) R);generalize U:ρ x=vx at Q
 cases Q with
 | mp hid=>
  obtain⟨p,ents,clock,G,F⟩:=N.st.obj id _ J;obtain⟨r,A,M⟩:=QB (P:=P) (t:=t) (es:=ents.toList) hl F I H hd V.w;rw [Y] at M
  have X:r=none:=by cases r with
   | none=>rfl
   | some q=>simp at M
  subst X;have B:=Ox (P:=P) (t:=t) I H false V.w
  let ob:Obj:=.map (ents.push { key:=LZ q s,val:=.int .i64 v,born:=clock }) (clock+1)
  let w':World:={ V.w with heap:=V.w.heap.setIfInBounds (V.ρ id) ob }
  have i:=MapKept.run_setObj_map (P:=P) ob G;have u:=(nu.1 G).1
  obtain⟨hi,he⟩:=N.write J p (w:=w') (ob':=.mp (mapA q (l++[(s,v)]))) rfl rfl rfl rfl rfl (by simp [w']) (λb hb=>by simp [w',o8,Ne.symm hb]) (by
   refine⟨p,ents.push { key:=LZ q s,val:=.int .i64 v,born:=clock },clock+1,?_,?_⟩
   ·show w'.heap[V.ρ id]? = some ob
    simp [w',o8,u]
   ·simp [mapA] at F |-
    exact F)
  have k:(execOp ρ ⟨d,.mapUpdate m x y z,ty,pos,af,g⟩).run P V.w=.ok .skip w':=by
   simp [execOp,U,e2,e3,Instr.mapUpdate,run_underlying hm.out,MapKept.run_getObj_map G,B,A,i,ob,w',go_sem]
  rw [k];exact⟨{ V with w:=w' },.tuple #[],.t [],_,rfl,rfl,he,hi,⟨#[],rfl,rfl,λj x v hj=>by simp at hj⟩,by rw [<-h3] at L;exact L⟩
end
end Go.Am
namespace Go.Am
open Go Go.Proofs
set_option maxHeartbeats 1000000
attribute [local irreducible] AX Cb Lex Bh Aj Spec
variable {TB:Bz}
def He(F:PS):List Int:=[(F 0:Nat),(F 1:Nat),(F 2:Nat),(F 3:Nat),(F 4:Nat),(F 5:Nat),(F 6:Nat),(F 7:Nat),(F 8:Nat),(F 9:Nat),(F 10:Nat),(F 11:Nat)]
abbrev Rm(F:PS):List C:=mo .u16 (He F)
abbrev iP(F:PS):E:=eL .u16 (He F)
theorem JA{F:PS}{p:Nat}(h:p < 12):(He F)[p]? = some (F p:Int):=by
 obtain rfl|rfl|rfl|rfl|rfl|rfl|rfl|rfl|rfl|rfl|rfl|rfl:p=0\/p=1\/p=2\/p=3\/p=4\/p=5\/p=6\/p=7\/p=8\/p=9\/p=10\/p=11:=by omega
 all_goals rfl
theorem Oc{F:PS}{p:Nat}(h:p < 12):(Rm F)[p]? = some (.d (.v (.int .u16 (F p:Int)))):=by simp [JA h]
theorem Rn{F G:PS}(h:∀p,p < 12->F p=G p):He F=He G:=by
 unfold He;rw [h 0 (by omega),h 1 (by omega),h 2 (by omega),h 3 (by omega),h 4 (by omega),h 5 (by omega),h 6 (by omega),h 7 (by omega),h 8 (by omega),h 9 (by omega),h 10 (by omega),h 11 (by omega)]
theorem Sw{F G:PS}(h:He F=He G):∀p,p < 12->F p=G p:=λp a=>by
 have:=JA (F:=F) a;rw [h,JA a] at this
 injection this with this
 omega
theorem X0{F:PS}{p:Nat}(h:p < 12){v:Nat}:Ae (Rm F) p [.d (.v (.int .u16 (v:Int)))]=Rm λi=>if i=p then v else F i:=by
 have b:(Rm F).length=12:=by simp [He]
 rw [It (by omega)];apply oy;intro i;rw [qH];by_cases hi:i < 12
 ·rw [Oc hi,Oc hi]
  by_cases e:p=i
  ·subst e;rw [if_pos rfl,if_pos (by omega),if_pos rfl]
  ·rw [if_neg e,if_neg (λh=>e h.symm)]
 ·have a:∀G:PS,(Rm G)[i]? = none:=λG=>nj (by simp [He];omega)
  rw [a,a];by_cases e:p=i
  ·omega
  ·rw [if_neg e]
theorem u16_in{n:Nat}(h:n < 65536):IntKind.u16.wrap (n:Int)=n:=by
 unfold IntKind.wrap;simp [IntKind.bits,IntKind.signed,IntKind.min,IntKind.max];omega
instance:Gt Tryz.prog 199 12 .u16:=⟨⟨197,⟨by kernel_rfl,by kernel_rfl,by kernel_rfl,by kernel_rfl⟩,by kernel_rfl⟩,by kernel_rfl,λh=>by
 have a:Nat.beq Tryz.prog.types.size 0=false:=by kernel_rfl
 rw [h] at a;cases a⟩
def Ea(t:CK)(l:Int)(F:PS)(k:Nat):PS:=λp':Nat=>(List.range k).foldl (λa p=>if CA t.q p l=(p':Int) then a ||| Dh t.s l (F p) else a) 0
theorem Jv{t:CK}{l:Int}{F:PS}{k:Nat}:Ea t l F (k+1)=λp':Nat=>if CA t.q k l=(p':Int) then Ea t l F k p' ||| Dh t.s l (F k) else Ea t l F k p':=by
 funext p';unfold Ea;rw [oU,pK];rfl
theorem WL{s:Sys}{l:Int}:Dh s l 0=0:=by
 unfold Dh;split
 ·exact Hy λj=>by
   cases h:(Cn s.es l 0).testBit j
   ·rfl
   ·obtain⟨e,_,⟨_,a⟩,_⟩:=DJ.1 h
    simp at a
 ·rfl
theorem QS{t:CK}{l:Int}{F:PS}{k:Nat}(h:F k=0):Ea t l F (k+1)=Ea t l F k:=by
 rw [Jv];funext p';rw [h,WL];split<;>simp
theorem bW{t:CK}{l:Int}{F:PS}(h:CZ t F)(b:t.q.nx.length<=12):Ea t l F 12=Vo t l F:=by
 have key:∀k,Ea t l F (t.q.nx.length+k)=Ea t l F t.q.nx.length:=λk=>by
  induction k with
  | zero=>rfl
  | succ k a=>rw [<-nE,QS (h.z _ (by omega)),a]
 have:=key (12 - t.q.nx.length);rw [show t.q.nx.length+(12 - t.q.nx.length)=12 by omega] at this;rw [this];rfl
theorem XP{t:CK}(ht:Bc t=true){l:Int}{F:PS}(h:CZ t F)(k p:Nat):Ea t l F k p < 65536:=by
 induction k with
 | zero=>simp [Ea]
 | succ k a=>
  rw [Jv];simp only;have b:=Jf ht (l:=l) (h.lt k);split
  ·have:=o4 (n:=16) a b;omega
  ·exact a
structure Hh where
 F:List PS
 nx:List (List Int)
 un:List Bool
abbrev QX(r:List Int):List C:=r.map λx=>.d (iD x)
def Qf(F:List PS):List (List Int×Int):=F.zipIdx.map λx=>(He x.1,(x.2:Int))
abbrev dn(t:CK)(a b c d:C):List C:=[.d (iD t.s.al),.d (iD t.s.st),.d (Eo t.s.es),.d (iD t.q.al),.d (CW t.q.nx),.d (E4 t.q.ac),.d (iD t.al),.ip (FH t.s.es),.d (.l (GS t.q)),.d (E5 (Cs t)),a,b,c,d]
abbrev NQ(t:CK)(m:Hh):Ab:=[(0,.cells 195 14 [dn t (.arr 1 12 0 m.F.length) (.mp 2) (.arr 3 6 0 m.nx.length) (.arr 4 1 0 m.un.length)]),(1,.cells 199 12 (m.F.map Rm)),(2,.mp (mapA .u16 (Qf m.F))),(3,.cells 121 6 (m.nx.map QX)),(4,.cells 4 1 (m.un.map AS))]
theorem A3(r:Nat->Nat)(q:IntKind)(l:List Int):C.Cv r (l.map λx=>.d (.v (.int q x)))=l.map λx=>.d (.v (.int q x)):=by
 rw [show (l.map λx=>C.d (.v (.int q x)))=(l.map λx=>D.v (.int q x)).map .d by simp,SE]
theorem Pb{P:Program}{Z:Ctx}{d:Option Tmp}{ty:TypeId}{pos:String}{af:Array Edge}{g:Option (Nat×Bool)}{f:Env}{σ:Ab}{nx:Nat}{t:TypeId}{x:Operand}{id k i j n:Nat}{T:TypeId}{rows:List (List C)}{r:List C}{c:C}[l:DL P t false n](a:ev f x=some (.o (.ptr id k i j)))(e:look σ id=some (.cells T k rows))(b:rows[i]? = some r)(h:r[j]? = some c) :
 AX P TB Z ⟨d,.load t x,ty,pos,af,g⟩ f σ nx (.o c):=X6 a e b (show ix false n j r=some (.o c) by unfold ix;rw [h];rfl)
theorem TR{r:List Nat}:∀i,i < 5->(0::1::2::3::4::r)[i]? = some i
 | 0,_|1,_|2,_|3,_|4,_=>rfl
 | n+5,h=>by omega
theorem XF{a b:Nat}(ha:a < 65536)(hb:b < 65536):Gk .u16 (a:Int) (b:Int)=((a ||| b:Nat):Int):=by
 have d:a ||| b < 2 ^ 16:=o4 (by omega) (by omega);unfold Gk
 have c:(BitVec.ofInt IntKind.u16.bits (a:Int) ||| BitVec.ofInt IntKind.u16.bits (b:Int)).toNat=a ||| b:=by
  have e:IntKind.u16.bits=16:=rfl;rw [e];simp only [BitVec.toNat_or,BitVec.ofInt_natCast,BitVec.toNat_ofNat];rw [nD (by omega),nD (by omega)]
 rw [c];exact u16_in (by omega)
theorem XO[Dt TB]{t:CK}(ht:Bc t=true)(m:Hh){l:Int}(n:0<=l/\l < 6){F:PS}(A:CZ t F):Spec Tryz.prog TB 206 (NQ t m) 5 [.o (.ptr 0 14 0 0),iP F,eI .i64 l] (λx σ nx=>x=iP (Vo t l F)/\σ=NQ t m/\nx=5):=by
 have Q:AU t.s=true:=by unfold Bc at ht;simp only [d4] at ht;exact ht.1
 have ha:=Cw ht;have R:=AH ha;rw [<-bW A (by omega)];refine eR Tryz.func206 rfl (by kernel_rfl) rfl ?_;intro Z c;(repeat first|refine tA rfl ?_ |refine aU rfl ?_ |refine Aa ?_);refine aB ?_;refine aL (α:={k:Nat // k<=12}) [0,2,6,7,11] [0,1,2,3,4,5] rfl rfl (λs=>[(12,eI .i64 s.1)]) (λs=>[(6,.cells 199 12 [Rm (Ea t l F s.1)])]) 7 (λs=>12 - s.1) (⟨0,by omega⟩) c rfl (by (simp[cX,zC,c,A3]<;>rfl)) ?_;rintro⟨k,hk⟩;(try dsimp only[cA,cB]);by_cases I:k < 12
 ·have P:(He F)[((k:Nat):Int).toNat]? = some (F k:Int):=by rw [i7];exact JA I
  have u:=A.lt k;(repeat first|refine s2 rfl λ_ i=>?_ |refine aU rfl ?_ |refine Aa ?_)
  ((refine aC rfl ?_ ?_<;>rintro⟨⟩);all_goals try(exfalso;(simp only[oZ] at *;omega)))
  refine aK ?_;refine aS (aB ?_);(repeat first|refine tA rfl ?_ |refine s2 rfl λ_ i=>?_|(refine Ag rfl ?_;refine gA rfl ?_;first| refine gS (λ_ _=>Lr (l:=He F) rfl rfl rfl (by omega) P) ?_) |refine aU rfl ?_ |refine Aa ?_);(refine aC rfl ?_ ?_<;>rintro⟨⟩)
  ·have N:F k=0:=by (simp only[oZ] at *;omega)
   refine aE ?_;(repeat first|(refine sA rfl ?_ ?_;first|exact tI|omega) |refine aU rfl ?_ |refine Aa ?_);refine⟨⟨k+1,by omega⟩,by dsimp only;(omega),[0,1,2,3,4,5,6],?_⟩;simp[cX,zC,c,A3,QS N];exact TR
  ·have H:k < t.q.nx.length:=by
    rcases nG k t.q.nx.length with K|K
    ·exact K
    ·have:=A.z k K;(simp only[oZ] at *;omega)
   have ta:=LG (a:=t.q) (q:=((k:Nat):Int).toNat) (by omega);have ra:=Je (h:=λl=>CA t.q k l) n.1 n.2
   have el:((l.toNat:Nat):Int)=l:=by omega
   simp only [el] at ra;have J:=Dl ha H n.1 n.2;have w:=fN (TB:=TB) Q n u;have y:=Jf ht (l:=l) u;have G:=XP ht (l:=l) A k
   obtain⟨g,M⟩:∃g:Nat,CA t.q k l=g:=⟨(CA t.q k l).toNat,by omega⟩
   rw [M] at ra J;refine aK ?_;(repeat first|(refine sA rfl ?_ ?_;first|exact tI|omega) |(refine sC rfl (Ms _ _) ?_;intro _ i)|(refine Ag rfl ?_;refine gA rfl ?_;first| refine gS (λ_ _=>Sy rfl (IntWalk.i64_in _ (by omega))) ?_) |refine aU rfl ?_ |refine Aa ?_)
   have ej:0+((g:Nat):Int).toNat*1=g:=by omega
   have L:(Rm (Ea t l F k))[0+((g:Nat):Int).toNat*1]? = some (.d (.v (.int .u16 (Ea t l F k g:Int)))):=by rw [ej];exact Oc (by omega)
   have f:=XF (G g) y
   have B:Ea t l F (k+1)=λp':Nat=>if p'=g then Ea t l F k g ||| Dh t.s l (F k) else Ea t l F k p':=by
    rw [Jv,M];funext p';by_cases e:p'=g
    ·subst e;simp
    ·rw [if_neg e,if_neg (by omega)]
   have b:=X0 (F:=Ea t l F k) (p:=g) (by omega) (v:=Ea t l F k g ||| Dh t.s l (F k));rw [<-B] at b;(refine aC rfl ?_ ?_<;>rintro⟨⟩)
   ·have hb:AV t.s.al l.toNat=true:=by simpa [hasB,n.1] using i
    have j:Dh t.s l (F k)=Cn t.s.es l (F k):=by unfold Dh;rw [if_pos hb]
    rw [<-j] at w;(repeat first|(refine sA rfl ?_ ?_;first|exact tI|omega) |(refine s4 rfl ‹_› rfl ?_ ?_;omega) |refine sP rfl (w) rfl ?_ |refine aU rfl ?_ |refine Aa ?_);(repeat first|(refine sA rfl ?_ ?_;first|exact tI|omega)|(refine Ag rfl ?_;refine gA rfl ?_;first| refine gS (λ_ _=>EB rfl ra) ?_|refine gQ (Pb rfl rfl rfl L) rfl ?_|refine gS (λ_ _=>Sy rfl (u16_in y)) ?_|refine gS (λ_ _=>iW rfl rfl f) ?_));(refine Ag rfl ?_;refine HK ?_ rfl (by rfl);refine Ei (r:=Rm (Ea t l F k)) rfl rfl rfl rfl rfl rfl (by show 0+((g:Nat):Int).toNat*1+1<=12;omega) ?_);refine Aa ?_;(repeat first|(refine sA rfl ?_ ?_;first|exact tI|omega) |refine aU rfl ?_ |refine Aa ?_);refine⟨⟨k+1,by omega⟩,by dsimp only;(omega),[0,1,2,3,4,5,6],?_⟩;simp[cX,zC,c,A3,f];exact⟨TR,by simpa [Ae] using b⟩
   ·have hb:AV t.s.al l.toNat=false:=by simpa [hasB,n.1] using i
    have j:Dh t.s l (F k)=F k:=by unfold Dh;rw [if_neg (by simp [hb])]
    rw [j] at f b;refine aK ?_;(repeat first|(refine sA rfl ?_ ?_;first|exact tI|omega) |(refine s4 rfl ‹_› rfl ?_ ?_;omega)|(refine Ag rfl ?_;refine gA rfl ?_;first| refine gS (λ_ _=>EB rfl ra) ?_|refine gQ (Pb rfl rfl rfl L) rfl ?_|refine gS (λ_ _=>Sy rfl (u16_in u)) ?_|refine gS (λ_ _=>iW rfl rfl f) ?_) |refine aU rfl ?_);(refine Ag rfl ?_;refine HK ?_ rfl (by rfl);refine Ei (r:=Rm (Ea t l F k)) rfl rfl rfl rfl rfl rfl (by show 0+((g:Nat):Int).toNat*1+1<=12;omega) ?_);refine Aa ?_;(repeat first|(refine sA rfl ?_ ?_;first|exact tI|omega) |refine aU rfl ?_ |refine Aa ?_);refine⟨⟨k+1,by omega⟩,by dsimp only;(omega),[0,1,2,3,4,5,6],?_⟩;simp[cX,zC,c,A3,f];exact⟨TR,by simpa [Ae] using b⟩
 ·obtain rfl:k=12:=by omega
  (repeat first|refine s2 rfl λ_ i=>?_ |refine aU rfl ?_ |refine Aa ?_)
  ((refine aC rfl ?_ ?_<;>rintro⟨⟩);all_goals try(exfalso;(simp only[oZ] at *;omega)))
  refine aE ?_;(repeat first|refine tA rfl ?_ |refine aU rfl ?_ |refine Aa ?_);refine aR ⟨_,rfl,[0,1,2,3,4],iP (Ea t l F 12),NQ t m,⟨TR,by decide⟩,rfl,by (simp[cX,zC,c,A3]),rfl,rfl,rfl⟩
def IE(t:CK)(F:PS)(ls:List Int):PS:=λp=>ls.foldl (λa l=>a ||| Vo t l F p) (F p)
def Le(A B:PS)(k:Nat):PS:=λp=>if p < k then A p ||| B p else A p
theorem Zy{A B:PS}{k:Nat}:Le A B (k+1)=λp=>if p=k then Le A B k k ||| B k else Le A B k p:=by
 funext p;unfold Le;by_cases e:p=k
 ·subst e;simp
 ·by_cases h:p < k
  ·rw [if_pos (by omega),if_neg e,if_pos h]
  ·rw [if_neg (by omega),if_neg e,if_neg h]
theorem aI{t:CK}{F:PS}{ls:List Int}{l:Int}:IE t F (ls++[l])=λp=>IE t F ls p ||| Vo t l F p:=by
 funext p;unfold IE;rw [pK];rfl
theorem XX{α:Type}{g:α->Nat}{j:Nat}:∀ {l:List α} {a:Nat},(l.foldl (λa x=>a ||| g x) a).testBit j=true↔a.testBit j=true\/∃x∈l,(g x).testBit j=true
 | [],a=>by simp
 | x::l,a=>by
  rw [oh,XX,oK,nq];simp [or_assoc]
theorem Ht{t:CK}{F:PS}{ls:List Int}{p j:Nat}:(IE t F ls p).testBit j=true↔(F p).testBit j=true\/∃l∈ls,(Vo t l F p).testBit j=true:=XX
theorem Xo{t:CK}(ht:Bc t=true){F:PS}(h:CZ t F){ls:List Int}(d:∀l∈ls,0<=l/\l < 6):CZ t (IE t F ls):=by
 refine⟨λp=>Jo λj e=>?_,λp c=>Hy λj=>?_⟩
 ·rcases Ht.1 e with a|⟨l,a,b⟩
  ·exact La (h.lt p) a
  ·exact La ((Ks ht (d l a) h).lt p) b
 ·cases hb:(IE t F ls p).testBit j
  ·rfl
  ·rcases Ht.1 hb with a|⟨l,a,b⟩
   ·rw [h.z p c] at a;simp at a
   ·rw [(Ks ht (d l a) h).z p c] at b;simp at b
theorem sub_le{a b:Nat}(h:∀j,a.testBit j=true->b.testBit j=true):a<=b:=by
 have:a ||| b=b:=oJ λj=>by
  rw [oK];cases ha:a.testBit j
  ·simp
  ·simp [h j ha]
 rw [<-this];exact Nat.left_le_or
def NO(F:PS):Nat:=(65535 - F 0)+(65535 - F 1)+(65535 - F 2)+(65535 - F 3)+(65535 - F 4)+(65535 - F 5)+(65535 - F 6)+(65535 - F 7)+(65535 - F 8)+(65535 - F 9)+(65535 - F 10)+(65535 - F 11)
theorem XL{F G:PS}(j:∀p,F p < 65536)(a:∀p,G p < 65536)(h:∀p,F p<=G p)(b:He G≠He F):NO G < NO F:=by
 have k:¬NO F<=NO G:=λc=>b (Rn λp i=>by
  have K:=h 0;have J:=h 1;have I:=h 2;have H:=h 3;have B:=h 4;have A:=h 5;have z:=h 6;have y:=h 7;have x:=h 8;have w:=h 9;have g:=h 10;have f:=h 11;have v:=a 0;have u:=a 1;have t:=a 2;have s:=a 3;have r:=a 4;have q:=a 5;have o:=a 6;have n:=a 7;have m:=a 8;have l:=a 9;have e:=a 10;have d:=a 11;unfold NO at c
  obtain rfl|rfl|rfl|rfl|rfl|rfl|rfl|rfl|rfl|rfl|rfl|rfl:p=0\/p=1\/p=2\/p=3\/p=4\/p=5\/p=6\/p=7\/p=8\/p=9\/p=10\/p=11:=by omega
  all_goals omega)
 omega
theorem fZ{F:PS}(h:∀p,F p < 65536):∀x∈He F,(Lit.int .u16 x).wf=true:=λx a=>by
 have:∃p,x=(F p:Int):=by
  unfold He at a;simp only [ng,qk,or_false] at a
  rcases a with h|h|h|h|h|h|h|h|h|h|h|h<;>exact⟨_,h⟩
 obtain⟨p,rfl⟩:=this;have:=h p;simp [Lit.wf,IntKind.min,IntKind.max,IntKind.signed,IntKind.bits];omega
section
variable {t:CK}(ht:Bc t=true)
include ht
theorem aJ{F0 F:PS}(c:∀p j,(F p).testBit j=true->PN t F0 p j){p j:Nat}(h:(IE t F (Cs t) p).testBit j=true):PN t F0 p j:=by
 rcases Ht.1 h with a|⟨l,b,a⟩
 ·exact c p j a
 ·obtain⟨q,m,d,hb⟩:=Lg.1 a
  unfold Dh at hb;rw [if_pos (DH ht b).2.2] at hb;obtain⟨e,f,⟨k,i⟩,g⟩:=DJ.1 hb;subst k;have:=PN.step (c q _ i) f b rfl;rw [d,g] at this
  simpa using this
theorem YX{F0 F:PS}(k:CZ t F0)(g:CZ t F)(i:∀p j,(F0 p).testBit j=true->(F p).testBit j=true)(h:∀p j,(F p).testBit j=true->PN t F0 p j)(f:IE t F (Cs t)=F):F=RP t F0:=
 bf ht k g.z i h λp l j b c d=>by
  have a:=DH ht c;have e:=Dl (Cw ht) b a.1 a.2.1;rw [<-f];refine Ht.2 (.inr ⟨l,c,Lg.2 ⟨p,b,by omega,?_⟩⟩);unfold Dh;rw [if_pos a.2.2];exact d
end
theorem Tz[Dt TB]{t:CK}(ht:Bc t=true)(m:Hh){F0:PS}(J:CZ t F0):Spec Tryz.prog TB 155 (NQ t m) 5 [.o (.ptr 0 14 0 0),iP F0] (λx σ nx=>x=iP (RP t F0)/\σ=NQ t m/\nx=5):=by
 have hah:=AH (Cw ht)
 have X:(Cs t).length<=6:=by
  unfold Cs;have K:(Ac t.s.al).length<=6:=AK _ _;exact li (oP _ _) K
 refine eR Tryz.func155 rfl (by kernel_rfl) rfl ?_;intro Z c;(repeat first|refine aU rfl ?_);(refine pW rfl ?_ rfl (by rfl);refine C5 rfl rfl ?_);(repeat first|refine tM rfl ?_ |refine Aa ?_);refine aB ?_;refine aL (α:={F:PS // CZ t F/\(∀p j,(F0 p).testBit j=true->(F p).testBit j=true)/\∀p j,(F p).testBit j=true->PN t F0 p j}) [0,3,4] [0,1,2,3,4,6] rfl rfl (λs=>[]) (λs=>[(5,.cells 199 12 [Rm s.1])]) 7 (λs=>NO s.1) (⟨F0,J,λ_ _ h=>h,λ_ _ h=>.base h⟩) c rfl (by (simp[cX,zC,c,A3]<;>rfl)) ?_;rintro⟨F,f,K,T⟩;(try dsimp only[cA,cB]);have f:CZ t F:=f;refine aB ?_;(repeat first|refine sN rfl ?_ |refine tA rfl ?_ |refine aU rfl ?_ |refine Aa ?_);refine aB ?_;refine aL (α:={k:Nat // k<=(Cs t).length}) [0,3,4,5,14,15] [0,1,2,3,4,5,6] rfl rfl (λs=>[(16,eI .i64 s.1)]) (λs=>[(7,.cells 199 12 [Rm (IE t F ((Cs t).take s.1))])]) 8 (λs=>(Cs t).length - s.1) (⟨0,by omega⟩) c rfl (by (simp[cX,zC,c,A3]<;>rfl)) ?_;rintro⟨k,hk⟩;(try dsimp only[cA,cB]);by_cases Q:k < (Cs t).length
 ·obtain⟨l,u⟩:=get_some Q
  have g:=DH ht (co u)
  have Y:((Cs t).map Bq)[((k:Nat):Int).toNat]? = some (Bq l):=by rw [i7];simp [u]
  have I:∀x∈(Cs t).take k,0<=x/\x < 6:=λx B=>by
   have:=DH ht (nt B);omega
  have y:=Xo ht f I;have hG:=Ks ht (l:=l) ⟨g.1,g.2.1⟩ f
  have M:IE t F ((Cs t).take (k+1))=λp=>IE t F ((Cs t).take k) p ||| Vo t l F p:=by rw [d8,u];exact aI
  have P:=XO (TB:=TB) ht m (l:=l) ⟨g.1,g.2.1⟩ f;generalize IE t F ((Cs t).take k)=A at *;generalize Vo t l F=G at *;(repeat first|refine s2 rfl λ_ e=>?_ |refine aU rfl ?_ |refine Aa ?_)
  ((refine aC rfl ?_ ?_<;>rintro⟨⟩);all_goals try(exfalso;(simp only[oZ] at *;omega)))
  refine aK ?_;refine aS (aB ?_);(repeat first|refine tA rfl ?_ |(refine s4 rfl ‹_› rfl ?_ ?_;omega) |refine aU rfl ?_ |refine Aa ?_);(refine pW rfl ?_ rfl (by rfl);refine Ai [0,1,2,3,4] rfl rfl (P) ⟨rfl,by decide,by decide⟩ rfl (by simp[cX,zC,c,A3]) ?_;rintro x0 U V ⟨rfl,rfl,rfl⟩ _);(repeat first|refine tA rfl ?_);refine Aa ?_;refine aB ?_;refine aL (α:={p:Nat // p<=12}) [0,3,4,5,14,15,16,23] [0,1,2,3,4,5,6] rfl rfl (λs=>[(24,eI .i64 s.1)]) (λs=>[(7,.cells 199 12 [Rm (Le A G s.1)])]) 8 (λs=>12 - s.1) (⟨0,by omega⟩) c rfl (by (simp[cX,zC,c,A3]<;>rfl)) ?_;rintro⟨p,R⟩;(try dsimp only[cA,cB]);by_cases n:p < 12
  ·have B:(He G)[((p:Nat):Int).toNat]? = some (G p:Int):=by rw [i7];exact JA n
   have ej:0+((p:Nat):Int).toNat*1=p:=by omega
   have q:Le A G p p < 65536:=by
    unfold Le;rw [if_neg (by omega)];exact y.lt p
   have w:(Rm (Le A G p))[0+((p:Nat):Int).toNat*1]? = some (.d (.v (.int .u16 (Le A G p p:Int)))):=by rw [ej];exact Oc n
   have L:=XF q (hG.lt p);have i:=X0 (F:=Le A G p) (p:=p) n (v:=Le A G p p ||| G p);rw [<-Zy] at i;(repeat first|refine s2 rfl λ_ e=>?_ |refine aU rfl ?_ |refine Aa ?_)
   ((refine aC rfl ?_ ?_<;>rintro⟨⟩);all_goals try(exfalso;(simp only[oZ] at *;omega)))
   refine aK ?_;refine aS (aB ?_);(repeat first|(refine sA rfl ?_ ?_;first|exact tI|omega)|(refine Ag rfl ?_;refine gA rfl ?_;first| refine gS (λ_ _=>Lr (l:=He G) rfl rfl rfl (by omega) B) ?_|refine gQ (Pb rfl rfl rfl w) rfl ?_) |refine aU rfl ?_ |refine Aa ?_);(refine Ag rfl ?_;refine HK ?_ rfl (by rfl);refine Ei (r:=Rm (Le A G p)) rfl rfl rfl rfl rfl rfl (by show 0+((p:Nat):Int).toNat*1+1<=12;omega) ?_);refine Aa ?_;(repeat first|(refine sA rfl ?_ ?_;first|exact tI|omega) |refine aU rfl ?_ |refine Aa ?_);refine⟨⟨p+1,by omega⟩,by dsimp only;(omega),[0,1,2,3,4,5,6,7],?_⟩;simp[cX,zC,c,A3,L];exact⟨TR,by simpa [Ae] using i⟩
  ·obtain rfl:p=12:=by omega
   have q:He (Le A G 12)=He λp=>A p ||| G p:=Rn λp R=>by unfold Le;rw [if_pos R]
   (repeat first|refine s2 rfl λ_ e=>?_ |refine aU rfl ?_ |refine Aa ?_)
   ((refine aC rfl ?_ ?_<;>rintro⟨⟩);all_goals try(exfalso;(simp only[oZ] at *;omega)))
   refine aE ?_;(repeat first|(refine sA rfl ?_ ?_;first|exact tI|omega) |refine aU rfl ?_ |refine Aa ?_);refine⟨⟨k+1,by omega⟩,by dsimp only;(omega),[0,1,2,3,4,5,6,7],?_⟩;simp[cX,zC,c,A3,M];exact⟨TR,congrArg (List.map _) q⟩
 ·obtain rfl:k=(Cs t).length:=by omega
  rw [io]
  have y:=Xo ht f λx B=>by
   have:=DH ht B
   show 0<=x/\x < 6
   omega
  (repeat first|refine s2 rfl λ_ e=>?_ |refine aU rfl ?_ |refine Aa ?_)
  ((refine aC rfl ?_ ?_<;>rintro⟨⟩);all_goals try(exfalso;(simp only[oZ] at *;omega)))
  refine aE ?_;(repeat first|refine tA rfl ?_|(refine Ag rfl ?_;refine gA rfl ?_;first| (refine gB (λ_ _=>ku (a:=He (IE t F (Cs t))) (b:=He F) rfl rfl rfl rfl (fZ y.lt) (fZ f.lt)) ?_;intro _ e)) |refine aU rfl ?_ |refine Aa ?_);(refine aC rfl ?_ ?_<;>rintro⟨⟩)
  ·have he:IE t F (Cs t)=F:=by
    have h3:He (IE t F (Cs t))=He F:=by simpa using e
    have h4:=Sw h3;funext p
    rcases nG p 12 with S|S
    ·exact h4 p S
    ·rw [y.z p (by omega),f.z p (by omega)]
   rw [<-YX ht J f K T he];(repeat first|refine tA rfl ?_ |refine aU rfl ?_ |refine Aa ?_);refine aR ⟨_,rfl,[0,1,2,3,4],iP F,NQ t m,⟨TR,by decide⟩,rfl,by (simp[cX,zC,c,A3]),rfl,rfl,rfl⟩
  ·have N:He (IE t F (Cs t))≠He F:=by simpa using e
   have H:∀p,F p<=IE t F (Cs t) p:=λp=>sub_le λj w=>Ht.2 (.inl w);have hm:=XL f.lt y.lt H N;refine aK ?_;(repeat first|refine tA rfl ?_ |refine aU rfl ?_ |refine Aa ?_);refine⟨⟨IE t F (Cs t),y,λp j w=>Ht.2 (.inl (K p j w)),λp j w=>aJ ht T w⟩,by dsimp only;(omega),[0,1,2,3,4,5,6],?_⟩;simp[cX,zC,c,A3];exact⟨TR,rfl,rfl⟩
end Go.Am
