/-
  Tasks, plainly: sets of pairs, their closure, the safe words.
-/
import Derived.Test.YtohfiindiidcfaaGreatDoorPart25
import Derived.Test.YtohfiindiidcfaaGreatDoorPart20
set_option linter.all false
namespace Go.Am
open Go
set_option linter.unusedVariables false
def Cu(es:List Ef)(l:Int)(m:Nat):Nat:=es.foldl (λa e=>if e.l=l/\m.testBit e.f.toNat=true then a ||| 2 ^ e.t.toNat else a) 0
theorem JG{α:Type}{p:α->Prop}[DecidablePred p]{g:α->Nat}{j:Nat}:∀(l:List α) (a:Nat),(l.foldl (λa e=>if p e then a ||| g e else a) a).testBit j=true↔a.testBit j=true\/∃e∈l,p e/\(g e).testBit j=true
 | [],a=>by simp
 | x :: l,a=>by
  rw [pI,JG l];by_cases h:p x
  ·rw [if_pos h,pT,oN]
   constructor
   ·rintro((b|b)|⟨e,b,c⟩)
    ·exact .inl b
    ·exact .inr ⟨x,by simp,h,b⟩
    ·exact .inr ⟨e,by simp [b],c⟩
   ·rintro(b|⟨e,b,c,d⟩)
    ·exact .inl (.inl b)
    ·rcases oI.1 b with rfl|b
     ·exact .inl (.inr d)
     ·exact .inr ⟨e,b,c,d⟩
  ·rw [if_neg h]
   constructor
   ·rintro(b|⟨e,b,c⟩)
    ·exact .inl b
    ·exact .inr ⟨e,by simp [b],c⟩
   ·rintro(b|⟨e,b,c,d⟩)
    ·exact .inl b
    ·rcases oI.1 b with rfl|b
     ·exact absurd c h
     ·exact .inr ⟨e,b,c,d⟩
theorem DT{es:List Ef}{l:Int}{m j:Nat}:(Cu es l m).testBit j=true↔∃e∈es,(e.l=l/\m.testBit e.f.toNat=true)/\e.t.toNat=j:=by
 unfold Cu;rw [JG];simp [pZ]
structure CO where
 s:Sys
 q:AY
 al:Int
def Bd(t:CO):Bool:=AV t.s && (AI t.q && Bb t.al)
def Cy(t:CO):List Int:=(Ac t.s.al).filter λl=>!AX t.al l.toNat
def Dt(s:Sys)(l:Int)(m:Nat):Nat:=if AX s.al l.toNat then Cu s.es l m else m
abbrev PS:=Nat->Nat
def Wk(t:CO)(l:Int)(F:PS):PS:=λp'=>(List.range t.q.nx.length).foldl (λa p=>if CB t.q p l=(p':Int) then a ||| Dt t.s l (F p) else a) 0
theorem LU{t:CO}{l:Int}{F:PS}{p' j:Nat}:(Wk t l F p').testBit j=true↔∃p,p < t.q.nx.length/\CB t.q p l=(p':Int)/\(Dt t.s l (F p)).testBit j=true:=by
 unfold Wk;rw [JG];simp
inductive QB (t:CO) (F0:PS):Nat->Nat->Prop
 | base {p j:Nat}:(F0 p).testBit j=true->QB t F0 p j
 | step {p j:Nat} {e:Ef}:QB t F0 p j->e∈t.s.es->e.l∈Cy t->e.f.toNat=j->QB t F0 (CB t.q p e.l).toNat e.t.toNat
open Classical in
noncomputable def SQ(t:CO)(F0:PS):PS:=λp=>(List.range 16).foldl (λa j=>if QB t F0 p j then a ||| 2 ^ j else a) 0
open Classical in
theorem Oy{t:CO}{F0:PS}{p j:Nat}:(SQ t F0 p).testBit j=true↔j < 16/\QB t F0 p j:=by
 unfold SQ;rw [JG];simp only [sx,qb,false_or,oJ,pZ,decide_eq_true_eq];constructor
 ·rintro⟨e,b,a,rfl⟩;exact⟨b,a⟩
 ·rintro⟨b,a⟩;exact⟨j,b,a,rfl⟩
structure C7 (t:CO) (F:PS):Prop where
 lt:∀p,F p < 65536
 z:∀p,t.q.nx.length<=p->F p=0
theorem JF{m:Nat}(h:∀j,m.testBit j=true->j < 16):m < 65536:=by
 have:m < 2 ^ 16:=Nat.lt_pow_two_of_testBit m λi hi=>by
  cases hb:m.testBit i
  ·rfl
  ·have:=h i hb;omega
 omega
theorem LM{m j:Nat}(h:m < 65536)(hb:m.testBit j=true):j < 16:=by
 rcases oY j 16 with a|a
 ·exact a
 ·have:m.testBit j=false:=Nat.testBit_lt_two_pow (lw h (pm (n:=2) (by omega) a))
  rw [this] at hb;cases hb
theorem HK{m:Nat}(h:∀j,m.testBit j=false):m=0:=pU λj=>by rw [h j];simp
section
variable {t:CO}(ht:Bd t=true)
include ht set_option linter.unusedSectionVars false
theorem Ie{e:Ef}(a:e∈t.s.es):0<=e.f/\e.f < 16/\0<=e.t/\e.t < 16/\0<=e.l/\e.l < 6:=by
 unfold Bd at ht;simp only [d4] at ht;have b:=Dl ht.1 a;have c:=AN ht.1;unfold DG at b;grind
theorem CD:AI t.q=true:=by
 unfold Bd at ht;simp only [d4] at ht;exact ht.2.1
theorem DC{l:Int}(h:l∈Cy t):0<=l/\l < 6/\AX t.s.al l.toNat=true:=by
 unfold Cy at h;have a:=Al (oO.1 h).1;exact⟨a.1,by omega,a.2.2⟩
theorem Jw{l:Int}{m:Nat}(a:m < 65536):Dt t.s l m < 65536:=by
 unfold Dt;split
 ·refine JF λj b=>?_
  obtain⟨e,c,_,rfl⟩:=DT.1 b;have:=Ie ht c;omega
 ·exact a
theorem KP{l:Int}(a:0<=l/\l < 6){F:PS}(h:C7 t F):C7 t (Wk t l F):=by
 refine⟨λp=>JF λj d=>?_,λp f=>HK λj=>?_⟩
 ·obtain⟨q,c,e,b⟩:=LU.1 d
  exact LM (Jw ht (h.lt q)) b
 ·cases hb:(Wk t l F p).testBit j
  ·rfl
  ·obtain⟨q,c,e,b⟩:=LU.1 hb
   have:=Dy (CD ht) c a.1 a.2;omega
theorem QB.lt{F0:PS}(h:C7 t F0){p j:Nat}(c:QB t F0 p j):p < t.q.nx.length/\j < 16:=by
 induction c with
 | @base p j hb=>
  refine⟨?_,LM (h.lt p) hb⟩
  rcases oY p t.q.nx.length with a|a
  ·exact a
  ·rw [h.z p a] at hb;simp at hb
 | @step p j e _ d f _ b=>
  have a:=Ie ht d;have g:=Dy (CD ht) b.1 a.2.2.2.2.1 a.2.2.2.2.2;omega
theorem cn{F0:PS}(h:C7 t F0):C7 t (SQ t F0):=by
 refine⟨λp=>JF λj a=>(Oy.1 a).1,λp b=>HK λj=>?_⟩;cases hb:(SQ t F0 p).testBit j
 ·rfl
 ·have:=((Oy.1 hb).2.lt ht h).1
  omega
theorem cm{F0 G:PS}(c:C7 t F0)(n:∀p,t.q.nx.length<=p->G p=0)(m:∀p j,(F0 p).testBit j=true->(G p).testBit j=true)(b:∀p j,(G p).testBit j=true->QB t F0 p j)
 (k:∀p l j,p < t.q.nx.length->l∈Cy t->(Cu t.s.es l (G p)).testBit j=true->(G (CB t.q p l).toNat).testBit j=true):G=SQ t F0:=by
 have key:∀ {p j:Nat},QB t F0 p j->(G p).testBit j=true:=λ{p j} a=>by
  induction a with
  | base hb=>exact m _ _ hb
  | @step p j e a i f g d=>exact k p e.l _ (a.lt ht c).1 f (DT.2 ⟨e,i,⟨rfl,by rw [g];exact d⟩,rfl⟩)
 funext p;refine pU λj=>?_;rw [pY,Oy];exact⟨λh=>⟨((b p j h).lt ht c).2,b p j h⟩,λh=>key h.2⟩
end
def IT:PS:=λp=>if p=0 then 1 else 0
noncomputable def Cz(t:CO):PS:=SQ t IT
noncomputable def DK(t:CO)(l:Int)(F:PS):PS:=SQ t (Wk t l F)
def Hf(t:CO)(F:PS):Bool:=(List.range t.q.nx.length).any λp=>decide (F p≠0) && !(t.q.ac.getD p false)
noncomputable def HZ(t:CO):PS->W->Bool
 | F,[]=>!Hf t F
 | F,c::w=>!Hf t F && HZ t (DK t ((c.toNat:Int) - 97) F) w
noncomputable def LS(t:CO)(w:W):Bool:=HZ t (Cz t) w
section
variable {t:CO}(ht:Bd t=true)
include ht
theorem MF:C7 t IT:=by
 have h:=AE (CD ht);refine⟨λp=>by unfold IT;split<;>omega,λp a=>by unfold IT;rw [if_neg (by omega)]⟩
theorem Gz:C7 t (Cz t):=cn ht (MF ht)
theorem LY{l:Int}(a:0<=l/\l < 6){F:PS}(h:C7 t F):C7 t (DK t l F):=cn ht (KP ht a h)
end
end Go.Am
namespace Go.Am
open Go Go.Proofs
set_option maxHeartbeats 1000000
set_option maxRecDepth 4000
attribute [local irreducible] A3 Cp Lex Bl Aj Spec
variable {TB:BC}
theorem VD:∀ {l:List Int},l.Pairwise (· < ·)->(∀x∈l,0<=x)->∀j:Nat,(BP l).testBit j=true↔(j:Int)∈l
 | [],_,_,j=>by simp [BP]
 | x :: r,e,f,j=>by
  have h:=f x (by simp);have c:=pg.1 e;have d:=VD c.2 (λy g=>f y (by simp [g])) j;obtain⟨m,o,n⟩:=Nu e h;rw [o,Nat.testBit_two_pow_mul];rw [n,Nat.testBit_two_pow_mul] at d;rw [oI,<-d];by_cases k:j=x.toNat
  ·subst k
   simp;omega
  ·have b:¬(j:Int)=x:=by omega
   have hb:x.toNat<=j->(2*m+1).testBit (j - x.toNat)=(2*m).testBit (j - x.toNat):=λa=>by
    obtain⟨i,hi⟩:∃i,j - x.toNat=i+1:=⟨j - x.toNat - 1,by omega⟩
    rw [hi,qt,qt];congr 1;omega
   by_cases a:x.toNat<=j
   ·rw [hb a];simp [b]
   ·simp [a,b]
def EN(m k:Nat):List Int:=((List.range k).filter (m.testBit ·)).map Int.ofNat
theorem Up(m k:Nat):EN m (k+1)=EN m k++if m.testBit k then [(k:Int)] else []:=by
 unfold EN;rw [qf,pK,pv];cases h:m.testBit k<;>simp [h]
theorem Sp(m:Nat):∀k,BP (EN m k)=m % 2 ^ k
 | 0=>by simp [EN,BP,Nat.mod_one]
 | k+1=>by
  rw [Up,Qb,Sp m k,rB,Nat.mod_mul,rM];by_cases h:m / 2 ^ k % 2=1
  ·rw [h];simp [BP]
  ·rw [show m / 2 ^ k % 2=0 by omega];simp [BP]
theorem QK(m k:Nat):(EN m k).Pairwise (· < ·):=by
 unfold EN;rw [pX]
 exact(List.pairwise_lt_range.filter _).imp λh=>by simpa using h
theorem MN{m k:Nat}{x:Int}(h:x∈EN m k):0<=x/\x < k/\m.testBit x.toNat=true:=by
 unfold EN at h;obtain⟨n,a,rfl⟩:=d8.1 h;obtain⟨c,b⟩:=oO.1 a;have:=oJ.1 c;exact⟨by simp,by simp;omega,by simpa using b⟩
theorem SM{m:Nat}(h:m < 65536):m=BP (EN m 16):=by rw [Sp];omega
def Rm(es:List Ef)(l:Int)(xs:List Int):Nat:=xs.foldl (λa x=>a ||| BP (MI es x.toNat l.toNat)) 0
theorem PM{s:Sys}(b:AV s=true){l:Int}{j:Nat}:∀ {xs:List Int} {a:Nat},(xs.foldl (λa x=>a ||| BP (MI s.es x.toNat l.toNat)) a).testBit j=true↔a.testBit j=true\/∃x∈xs,(j:Int)∈MI s.es x.toNat l.toNat
 | [],a=>by simp
 | x::xs,a=>by
  rw [pI,PM b,pT,oN];have c:=FB b s.es.length x.toNat l.toNat;rw [gt] at c;have e:=VD c (λy d=>(Nz b (k:=s.es.length) (by rw [gt];exact d)).1) j;rw [e];simp only [oI,exists_eq_or_imp,or_assoc]
theorem gz{s:Sys}(g:AV s=true){l:Int}(r:0<=l){m:Nat}(n:m < 65536):Rm s.es l (EN m 16)=Cu s.es l m:=by
 refine pU λj=>?_;rw [pY];unfold Rm;rw [PM g,DT];simp only [sx,qb,false_or];constructor
 ·rintro⟨x,k,h⟩
  obtain⟨q,d,i⟩:=MN k;unfold MI at h;obtain⟨e,a,p⟩:=d8.1 h;obtain⟨c,b⟩:=oO.1 a;simp only [d4,decide_eq_true_eq] at b;exact⟨e,c,⟨by omega,by rw [show e.f.toNat=x.toNat by omega];exact i⟩,by omega⟩
 ·rintro⟨e,a,⟨q,d⟩,i⟩
  have hb:=Dl g a;unfold DG at hb;simp only [d4,decide_eq_true_eq] at hb;have o:=LM n d;refine⟨e.f,?_,?_⟩
  ·unfold EN
   exact d8.2 ⟨e.f.toNat,oO.2 ⟨oJ.2 o,d⟩,by simp;omega⟩
  ·unfold MI
   refine d8.2 ⟨e,oO.2 ⟨a,?_⟩,by omega⟩;simp only [d4,decide_eq_true_eq];omega
theorem gC{s:Sys}(b:AV s=true){l:Int}{xs:List Int}:Rm s.es l xs < 65536:=JF λj a=>by
 unfold Rm at a;rw [PM b] at a;simp only [sx,qb,false_or] at a;obtain⟨x,_,c⟩:=a;have:=Nz b (k:=s.es.length) (by rw [gt];exact c);omega
theorem OD{a b:Nat}(ha:a < 2 ^ 62)(hb:b < 2 ^ 62):Gt .i64 (a:Nat) (b:Nat)=((a ||| b:Nat):Int):=by
 have d:a ||| b < 2 ^ 62:=qk ha hb;unfold Gt
 have c:(BitVec.ofInt IntKind.i64.bits (a:Int) ||| BitVec.ofInt IntKind.i64.bits (b:Int)).toNat=a ||| b:=by
  have e:IntKind.i64.bits=64:=rfl;rw [e];simp only [BitVec.toNat_or,BitVec.ofInt_natCast,BitVec.toNat_ofNat];rw [o3 (by omega),o3 (by omega)]
 rw [c];exact IntWalk.i64_in _ (by omega)
theorem hY[Dc TB]{s:Sys}(r:AV s=true){l:Int}(F:0<=l/\l < 6){m:Nat}(u:m < 65536):Pure Tryz.prog TB 149 [.o (.ip (FR s.es)),eI .i64 (m:Nat),eI .i64 l] (eI .i64 (Cu s.es l m:Nat)):=by
 rw [<-gz r F.1 u];rw [SM u]
 have hb:∀x∈EN m 16,0<=x/\x < 16:=λx h=>⟨(MN h).1,(MN h).2.1⟩
 have I:=QK m 16;rw [<-SM u]
 conv=>arg 4;rw [SM u]
 generalize EN m 16=xs at *;refine eG Tryz.func149 rfl (by kernel_rfl) rfl ?_;intro Z c;(repeat first|refine tA rfl ?_ |refine aU rfl ?_ |refine Aa ?_);refine aB ?_;refine aL (α:={k:Nat // k<=xs.length}) [0,2] [] rfl rfl (λ⟨k,hk⟩=>[(1,eI .i64 (BP (xs.drop k):Nat)),(7,eI .i64 (Rm s.es l (xs.take k):Nat))]) (λ⟨k,hk⟩=>[]) 0 (λ⟨k,hk⟩=>xs.length - k) (⟨0,by omega⟩) c rfl (by (simp[cX,zC,c]<;>rfl)) ?_;rintro⟨k,hk⟩;(try dsimp only[cA,cB]);by_cases A:k < xs.length
 ·obtain⟨x,h⟩:=get_some A
  have B:=BD h;have d:=hb x (co h)
  have f:(x::xs.drop (k+1)).Pairwise (· < ·):=by rw [<-B];exact I.sublist (List.drop_sublist _ _)
  have z:BP (x::xs.drop (k+1)) < 2 ^ 16:=by
   refine Mj f λy q=>?_;rw [<-B] at q;exact hb y (pS q)
  have w:=Jx (x:=x) (l:=xs.drop (k+1));have p:=VE f d.1 (by omega);have n:=RJ f d.1 (by omega);rw [<-B] at z w p n;have e:=iN (TB:=TB) (BP (xs.drop k)) (by omega) (by omega);rw [p] at e
  have ex:((x.toNat:Nat):Int)=x:=by omega
  rw [ex] at e;have i:=FB r s.es.length x.toNat l.toNat;rw [gt] at i;have G:BP (MI s.es x.toNat l.toNat) < 65536:=Mj (t:=16) i λy q=>Nz r (k:=s.es.length) (by rw [gt];exact q);have H:Rm s.es l (xs.take k) < 65536:=gC r;have j:=OD (a:=Rm s.es l (xs.take k)) (b:=BP (MI s.es x.toNat l.toNat)) (by omega) (by omega)
  have v:Rm s.es l (xs.take (k+1))=Rm s.es l (xs.take k) ||| BP (MI s.es x.toNat l.toNat):=by unfold Rm;rw [d9,h,qX];rfl
  rw [<-v] at j;(repeat first|refine tA rfl ?_ |refine s2 rfl λ_ g=>?_ |refine aU rfl ?_ |refine Aa ?_)
  ((refine aC rfl ?_ ?_<;>rintro⟨⟩);all_goals try(exfalso;(simp only[oZ] at *;omega)))
  refine aK ?_;refine aS (aB ?_);refine rG (Hg []) (by kernel_rfl) ?_;(repeat first|(refine sA rfl ?_ ?_;first|exact tI|omega) |refine sP rfl (e) rfl ?_|(refine Ag rfl ?_;refine gA rfl ?_;first| refine gS (λ_ _=>EI rfl (dg d F)) ?_) |refine aU rfl ?_ |refine Aa ?_);refine⟨⟨k+1,by omega⟩,by dsimp only;(omega),[],?_⟩;simp[cX,zC,c,j,n]
 ·obtain rfl:k=xs.length:=by omega
  rw [gt];(repeat first|refine tA rfl ?_ |refine s2 rfl λ_ g=>?_ |refine aU rfl ?_ |refine Aa ?_);(refine aC rfl ?_ ?_<;>rintro⟨⟩)
  ·exfalso
   rw [qN] at g;simp [BP] at g
  refine aE ?_;(repeat first|refine tA rfl ?_ |refine aU rfl ?_ |refine Aa ?_);(subst_vars;exact aR ⟨_,rfl,rfl⟩)
def Hr(F:PS):List Int:=[(F 0:Nat),(F 1:Nat),(F 2:Nat),(F 3:Nat),(F 4:Nat),(F 5:Nat),(F 6:Nat),(F 7:Nat),(F 8:Nat),(F 9:Nat),(F 10:Nat),(F 11:Nat)]
abbrev Sf(F:PS):List C:=nN .u16 (Hr F)
abbrev jP(F:PS):E:=fX .u16 (Hr F)
theorem JQ{F:PS}{p:Nat}(h:p < 12):(Hr F)[p]? = some (F p:Int):=by
 obtain rfl|rfl|rfl|rfl|rfl|rfl|rfl|rfl|rfl|rfl|rfl|rfl:p=0\/p=1\/p=2\/p=3\/p=4\/p=5\/p=6\/p=7\/p=8\/p=9\/p=10\/p=11:=by omega
 all_goals rfl
theorem OL{F:PS}{p:Nat}(h:p < 12):(Sf F)[p]? = some (.d (.v (.int .u16 (F p:Int)))):=by simp [JQ h]
theorem Sg{F G:PS}(h:∀p,p < 12->F p=G p):Hr F=Hr G:=by
 unfold Hr;rw [h 0 (by omega),h 1 (by omega),h 2 (by omega),h 3 (by omega),h 4 (by omega),h 5 (by omega),h 6 (by omega),h 7 (by omega),h 8 (by omega),h 9 (by omega),h 10 (by omega),h 11 (by omega)]
theorem TA{F G:PS}(h:Hr F=Hr G):∀p,p < 12->F p=G p:=λp a=>by
 have:=JQ (F:=F) a;rw [h,JQ a] at this
 injection this with this
 omega
theorem YZ{F:PS}{p:Nat}(h:p < 12){v:Nat}:Ae (Sf F) p [.d (.v (.int .u16 (v:Int)))]=Sf λi=>if i=p then v else F i:=by
 have b:(Sf F).length=12:=by simp [Hr]
 rw [IF (by omega)];apply pP;intro i;rw [sf];by_cases hi:i < 12
 ·rw [OL hi,OL hi]
  by_cases e:p=i
  ·subst e;rw [if_pos rfl,if_pos (by omega),if_pos rfl]
  ·rw [if_neg e,if_neg (λh=>e h.symm)]
 ·have a:∀G:PS,(Sf G)[i]? = none:=λG=>oL (by simp [Hr];omega)
  rw [a,a];by_cases e:p=i
  ·omega
  ·rw [if_neg e]
theorem u16_in{n:Nat}(h:n < 65536):IntKind.u16.wrap (n:Int)=n:=by
 unfold IntKind.wrap;simp [IntKind.bits,IntKind.signed,IntKind.min,IntKind.max];omega
instance:GB Tryz.prog 195 12 .u16:=⟨⟨193,⟨by kernel_rfl,by kernel_rfl,by kernel_rfl,by kernel_rfl⟩,by kernel_rfl⟩,by kernel_rfl,λh=>by
 have a:Nat.beq Tryz.prog.types.size 0=false:=by kernel_rfl
 rw [h] at a;cases a⟩
def Ek(t:CO)(l:Int)(F:PS)(k:Nat):PS:=λp':Nat=>(List.range k).foldl (λa p=>if CB t.q p l=(p':Int) then a ||| Dt t.s l (F p) else a) 0
theorem JM{t:CO}{l:Int}{F:PS}{k:Nat}:Ek t l F (k+1)=λp':Nat=>if CB t.q k l=(p':Int) then Ek t l F k p' ||| Dt t.s l (F k) else Ek t l F k p':=by
 funext p';unfold Ek;rw [qf,qX];rfl
theorem Xz{s:Sys}{l:Int}:Dt s l 0=0:=by
 unfold Dt;split
 ·exact HK λj=>by
   cases h:(Cu s.es l 0).testBit j
   ·rfl
   ·obtain⟨e,_,⟨_,a⟩,_⟩:=DT.1 h
    simp at a
 ·rfl
theorem RV{t:CO}{l:Int}{F:PS}{k:Nat}(h:F k=0):Ek t l F (k+1)=Ek t l F k:=by
 rw [JM];funext p';rw [h,Xz];split<;>simp
theorem df{t:CO}{l:Int}{F:PS}(h:C7 t F)(b:t.q.nx.length<=12):Ek t l F 12=Wk t l F:=by
 have key:∀k,Ek t l F (t.q.nx.length+k)=Ek t l F t.q.nx.length:=λk=>by
  induction k with
  | zero=>rfl
  | succ k a=>rw [<-o4,RV (h.z _ (by omega)),a]
 have:=key (12 - t.q.nx.length);rw [show t.q.nx.length+(12 - t.q.nx.length)=12 by omega] at this;rw [this];rfl
theorem YP{t:CO}(ht:Bd t=true){l:Int}{F:PS}(h:C7 t F)(k p:Nat):Ek t l F k p < 65536:=by
 induction k with
 | zero=>simp [Ek]
 | succ k a=>
  rw [JM];simp only;have b:=Jw ht (l:=l) (h.lt k);split
  ·have:=qk (n:=16) a b;omega
  ·exact a
structure GF where
 F:List PS
 nx:List (List Int)
 un:List Bool
abbrev Sb(r:List Int):List C:=r.map λx=>.d (iD x)
def QX(F:List PS):List (List Int×Int):=F.zipIdx.map λx=>(Hr x.1,(x.2:Int))
abbrev eE(t:CO)(a b c d:C):List C:=[.d (iD t.s.al),.d (iD t.s.st),.d (Ev t.s.es),.d (iD t.q.al),.d (C4 t.q.nx),.d (Ff t.q.ac),.d (iD t.al),.ip (FR t.s.es),.d (.l (Hb t.q)),.d (Fg (Cy t)),a,b,c,d]
abbrev Nt(t:CO)(m:GF):Ab:=[(0,.cells 191 14 [eE t (.arr 1 12 0 m.F.length) (.mp 2) (.arr 3 6 0 m.nx.length) (.arr 4 1 0 m.un.length)]),(1,.cells 195 12 (m.F.map Sf)),(2,.mp (mapA .u16 (QX m.F))),(3,.cells 127 6 (m.nx.map Sb)),(4,.cells 4 1 (m.un.map AT))]
theorem A7(r:Nat->Nat)(q:IntKind)(l:List Int):C.CA r (l.map λx=>.d (.v (.int q x)))=l.map λx=>.d (.v (.int q x)):=by
 rw [show (l.map λx=>C.d (.v (.int q x)))=(l.map λx=>D.v (.int q x)).map .d by simp,TK]
theorem PQ{P:Program}{Z:Ctx}{d:Option Tmp}{ty:TypeId}{pos:String}{af:Array Edge}{g:Option (Nat×Bool)}{f:Env}{σ:Ab}{nx:Nat}{t:TypeId}{x:Operand}{id k i j n:Nat}{T:TypeId}{rows:List (List C)}{r:List C}{c:C}[l:DV P t false n](a:ev f x=some (.o (.ptr id k i j)))(e:look σ id=some (.cells T k rows))(b:rows[i]? = some r)(h:r[j]? = some c) :
 A3 P TB Z ⟨d,.load t x,ty,pos,af,g⟩ f σ nx (.o c):=Y0 a e b (show jy false n j r=some (.o c) by unfold jy;rw [h];rfl)
theorem UG{r:List Nat}:∀i,i < 5->(0::1::2::3::4::r)[i]? = some i
 | 0,_|1,_|2,_|3,_|4,_=>rfl
 | n+5,h=>by omega
theorem YF{a b:Nat}(ha:a < 65536)(hb:b < 65536):Gt .u16 (a:Int) (b:Int)=((a ||| b:Nat):Int):=by
 have d:a ||| b < 2 ^ 16:=qk (by omega) (by omega);unfold Gt
 have c:(BitVec.ofInt IntKind.u16.bits (a:Int) ||| BitVec.ofInt IntKind.u16.bits (b:Int)).toNat=a ||| b:=by
  have e:IntKind.u16.bits=16:=rfl;rw [e];simp only [BitVec.toNat_or,BitVec.ofInt_natCast,BitVec.toNat_ofNat];rw [o3 (by omega),o3 (by omega)]
 rw [c];exact u16_in (by omega)
theorem YO[Dc TB]{t:CO}(ht:Bd t=true)(m:GF){l:Int}(n:0<=l/\l < 6){F:PS}(A:C7 t F):Spec Tryz.prog TB 196 (Nt t m) 5 [.o (.ptr 0 14 0 0),jP F,eI .i64 l] (λx σ nx=>x=jP (Wk t l F)/\σ=Nt t m/\nx=5):=by
 have Q:AV t.s=true:=by unfold Bd at ht;simp only [d4] at ht;exact ht.1
 have ha:=CD ht;have R:=AE ha;rw [<-df A (by omega)];refine eR Tryz.func196 rfl (by kernel_rfl) rfl ?_;intro Z c;(repeat first|refine tA rfl ?_ |refine aU rfl ?_ |refine Aa ?_);refine aB ?_;refine aL (α:={k:Nat // k<=12}) [0,2,6,7,11] [0,1,2,3,4,5] rfl rfl (λs=>[(12,eI .i64 s.1)]) (λs=>[(6,.cells 195 12 [Sf (Ek t l F s.1)])]) 7 (λs=>12 - s.1) (⟨0,by omega⟩) c rfl (by (simp[cX,zC,c,A7]<;>rfl)) ?_;rintro⟨k,hk⟩;(try dsimp only[cA,cB]);by_cases I:k < 12
 ·have P:(Hr F)[((k:Nat):Int).toNat]? = some (F k:Int):=by rw [io];exact JQ I
  have u:=A.lt k;(repeat first|refine s2 rfl λ_ i=>?_ |refine aU rfl ?_ |refine Aa ?_)
  ((refine aC rfl ?_ ?_<;>rintro⟨⟩);all_goals try(exfalso;(simp only[oZ] at *;omega)))
  refine aK ?_;refine aS (aB ?_);(repeat first|refine tA rfl ?_ |refine s2 rfl λ_ i=>?_|(refine Ag rfl ?_;refine gA rfl ?_;first| refine gS (λ_ _=>Mf (l:=Hr F) rfl rfl rfl (by omega) P) ?_) |refine aU rfl ?_ |refine Aa ?_);(refine aC rfl ?_ ?_<;>rintro⟨⟩)
  ·have N:F k=0:=by (simp only[oZ] at *;omega)
   refine aE ?_;(repeat first|(refine sA rfl ?_ ?_;first|exact tI|omega) |refine aU rfl ?_ |refine Aa ?_);refine⟨⟨k+1,by omega⟩,by dsimp only;(omega),[0,1,2,3,4,5,6],?_⟩;simp[cX,zC,c,A7,RV N];exact UG
  ·have H:k < t.q.nx.length:=by
    rcases oY k t.q.nx.length with K|K
    ·exact K
    ·have:=A.z k K;(simp only[oZ] at *;omega)
   have ta:=Mq (a:=t.q) (q:=((k:Nat):Int).toNat) (by omega);have ra:=Jv (h:=λl=>CB t.q k l) n.1 n.2
   have el:((l.toNat:Nat):Int)=l:=by omega
   simp only [el] at ra;have J:=Dy ha H n.1 n.2;have w:=hY (TB:=TB) Q n u;have y:=Jw ht (l:=l) u;have G:=YP ht (l:=l) A k
   obtain⟨g,M⟩:∃g:Nat,CB t.q k l=g:=⟨(CB t.q k l).toNat,by omega⟩
   rw [M] at ra J;refine aK ?_;(repeat first|(refine sA rfl ?_ ?_;first|exact tI|omega) |(refine sC rfl (MZ _ _) ?_;intro _ i)|(refine Ag rfl ?_;refine gA rfl ?_;first| refine gS (λ_ _=>TD rfl (IntWalk.i64_in _ (by omega))) ?_) |refine aU rfl ?_ |refine Aa ?_)
   have ej:0+((g:Nat):Int).toNat*1=g:=by omega
   have L:(Sf (Ek t l F k))[0+((g:Nat):Int).toNat*1]? = some (.d (.v (.int .u16 (Ek t l F k g:Int)))):=by rw [ej];exact OL (by omega)
   have f:=YF (G g) y
   have B:Ek t l F (k+1)=λp':Nat=>if p'=g then Ek t l F k g ||| Dt t.s l (F k) else Ek t l F k p':=by
    rw [JM,M];funext p';by_cases e:p'=g
    ·subst e;simp
    ·rw [if_neg e,if_neg (by omega)]
   have b:=YZ (F:=Ek t l F k) (p:=g) (by omega) (v:=Ek t l F k g ||| Dt t.s l (F k));rw [<-B] at b;(refine aC rfl ?_ ?_<;>rintro⟨⟩)
   ·have hb:AX t.s.al l.toNat=true:=by simpa [hasB,n.1] using i
    have j:Dt t.s l (F k)=Cu t.s.es l (F k):=by unfold Dt;rw [if_pos hb]
    rw [<-j] at w;(repeat first|(refine sA rfl ?_ ?_;first|exact tI|omega) |(refine s4 rfl ‹_› rfl ?_ ?_;omega) |refine sP rfl (w) rfl ?_ |refine aU rfl ?_ |refine Aa ?_);(repeat first|(refine sA rfl ?_ ?_;first|exact tI|omega)|(refine Ag rfl ?_;refine gA rfl ?_;first| refine gS (λ_ _=>EI rfl ra) ?_|refine gQ (PQ rfl rfl rfl L) rfl ?_|refine gS (λ_ _=>TD rfl (u16_in y)) ?_|refine gS (λ_ _=>jW rfl rfl f) ?_));(refine Ag rfl ?_;refine HU ?_ rfl (by rfl);refine Er (r:=Sf (Ek t l F k)) rfl rfl rfl rfl rfl rfl (by show 0+((g:Nat):Int).toNat*1+1<=12;omega) ?_);refine Aa ?_;(repeat first|(refine sA rfl ?_ ?_;first|exact tI|omega) |refine aU rfl ?_ |refine Aa ?_);refine⟨⟨k+1,by omega⟩,by dsimp only;(omega),[0,1,2,3,4,5,6],?_⟩;simp[cX,zC,c,A7,f];exact⟨UG,by simpa [Ae] using b⟩
   ·have hb:AX t.s.al l.toNat=false:=by simpa [hasB,n.1] using i
    have j:Dt t.s l (F k)=F k:=by unfold Dt;rw [if_neg (by simp [hb])]
    rw [j] at f b;refine aK ?_;(repeat first|(refine sA rfl ?_ ?_;first|exact tI|omega) |(refine s4 rfl ‹_› rfl ?_ ?_;omega)|(refine Ag rfl ?_;refine gA rfl ?_;first| refine gS (λ_ _=>EI rfl ra) ?_|refine gQ (PQ rfl rfl rfl L) rfl ?_|refine gS (λ_ _=>TD rfl (u16_in u)) ?_|refine gS (λ_ _=>jW rfl rfl f) ?_) |refine aU rfl ?_);(refine Ag rfl ?_;refine HU ?_ rfl (by rfl);refine Er (r:=Sf (Ek t l F k)) rfl rfl rfl rfl rfl rfl (by show 0+((g:Nat):Int).toNat*1+1<=12;omega) ?_);refine Aa ?_;(repeat first|(refine sA rfl ?_ ?_;first|exact tI|omega) |refine aU rfl ?_ |refine Aa ?_);refine⟨⟨k+1,by omega⟩,by dsimp only;(omega),[0,1,2,3,4,5,6],?_⟩;simp[cX,zC,c,A7,f];exact⟨UG,by simpa [Ae] using b⟩
 ·obtain rfl:k=12:=by omega
  (repeat first|refine s2 rfl λ_ i=>?_ |refine aU rfl ?_ |refine Aa ?_)
  ((refine aC rfl ?_ ?_<;>rintro⟨⟩);all_goals try(exfalso;(simp only[oZ] at *;omega)))
  refine aE ?_;(repeat first|refine tA rfl ?_ |refine aU rfl ?_ |refine Aa ?_);refine aR ⟨_,rfl,[0,1,2,3,4],jP (Ek t l F 12),Nt t m,⟨UG,by decide⟩,rfl,by (simp[cX,zC,c,A7]),rfl,rfl,rfl⟩
def IV(t:CO)(F:PS)(ls:List Int):PS:=λp=>ls.foldl (λa l=>a ||| Wk t l F p) (F p)
def LQ(A B:PS)(k:Nat):PS:=λp=>if p < k then A p ||| B p else A p
theorem aw{A B:PS}{k:Nat}:LQ A B (k+1)=λp=>if p=k then LQ A B k k ||| B k else LQ A B k p:=by
 funext p;unfold LQ;by_cases e:p=k
 ·subst e;simp
 ·by_cases h:p < k
  ·rw [if_pos (by omega),if_neg e,if_pos h]
  ·rw [if_neg (by omega),if_neg e,if_neg h]
theorem bR{t:CO}{F:PS}{ls:List Int}{l:Int}:IV t F (ls++[l])=λp=>IV t F ls p ||| Wk t l F p:=by
 funext p;unfold IV;rw [qX];rfl
theorem YW{α:Type}{g:α->Nat}{j:Nat}:∀ {l:List α} {a:Nat},(l.foldl (λa x=>a ||| g x) a).testBit j=true↔a.testBit j=true\/∃x∈l,(g x).testBit j=true
 | [],a=>by simp
 | x::l,a=>by
  rw [pI,YW,pT,oN];simp [or_assoc]
theorem HE{t:CO}{F:PS}{ls:List Int}{p j:Nat}:(IV t F ls p).testBit j=true↔(F p).testBit j=true\/∃l∈ls,(Wk t l F p).testBit j=true:=YW
theorem X8{t:CO}(ht:Bd t=true){F:PS}(h:C7 t F){ls:List Int}(d:∀l∈ls,0<=l/\l < 6):C7 t (IV t F ls):=by
 refine⟨λp=>JF λj e=>?_,λp c=>HK λj=>?_⟩
 ·rcases HE.1 e with a|⟨l,a,b⟩
  ·exact LM (h.lt p) a
  ·exact LM ((KP ht (d l a) h).lt p) b
 ·cases hb:(IV t F ls p).testBit j
  ·rfl
  ·rcases HE.1 hb with a|⟨l,a,b⟩
   ·rw [h.z p c] at a;simp at a
   ·rw [(KP ht (d l a) h).z p c] at b;simp at b
theorem sub_le{a b:Nat}(h:∀j,a.testBit j=true->b.testBit j=true):a<=b:=by
 have:a ||| b=b:=pU λj=>by
  rw [pT];cases ha:a.testBit j
  ·simp
  ·simp [h j ha]
 rw [<-this];exact Nat.left_le_or
def On(F:PS):Nat:=(65535 - F 0)+(65535 - F 1)+(65535 - F 2)+(65535 - F 3)+(65535 - F 4)+(65535 - F 5)+(65535 - F 6)+(65535 - F 7)+(65535 - F 8)+(65535 - F 9)+(65535 - F 10)+(65535 - F 11)
theorem YL{F G:PS}(j:∀p,F p < 65536)(a:∀p,G p < 65536)(h:∀p,F p<=G p)(b:Hr G≠Hr F):On G < On F:=by
 have k:¬On F<=On G:=λc=>b (Sg λp i=>by
  have K:=h 0;have J:=h 1;have I:=h 2;have H:=h 3;have B:=h 4;have A:=h 5;have z:=h 6;have y:=h 7;have x:=h 8;have w:=h 9;have g:=h 10;have f:=h 11;have v:=a 0;have u:=a 1;have t:=a 2;have s:=a 3;have r:=a 4;have q:=a 5;have o:=a 6;have n:=a 7;have m:=a 8;have l:=a 9;have e:=a 10;have d:=a 11;unfold On at c
  obtain rfl|rfl|rfl|rfl|rfl|rfl|rfl|rfl|rfl|rfl|rfl|rfl:p=0\/p=1\/p=2\/p=3\/p=4\/p=5\/p=6\/p=7\/p=8\/p=9\/p=10\/p=11:=by omega
  all_goals omega)
 omega
theorem ir{F:PS}(h:∀p,F p < 65536):∀x∈Hr F,(Lit.int .u16 x).wf=true:=λx a=>by
 have:∃p,x=(F p:Int):=by
  unfold Hr at a;simp only [oI,rf,or_false] at a
  rcases a with h|h|h|h|h|h|h|h|h|h|h|h<;>exact⟨_,h⟩
 obtain⟨p,rfl⟩:=this;have:=h p;simp [Lit.wf,IntKind.min,IntKind.max,IntKind.signed,IntKind.bits];omega
section
variable {t:CO}(ht:Bd t=true)
include ht
theorem bS{F0 F:PS}(c:∀p j,(F p).testBit j=true->QB t F0 p j){p j:Nat}(h:(IV t F (Cy t) p).testBit j=true):QB t F0 p j:=by
 rcases HE.1 h with a|⟨l,b,a⟩
 ·exact c p j a
 ·obtain⟨q,m,d,hb⟩:=LU.1 a
  unfold Dt at hb;rw [if_pos (DC ht b).2.2] at hb;obtain⟨e,f,⟨k,i⟩,g⟩:=DT.1 hb;subst k;have:=QB.step (c q _ i) f b rfl;rw [d,g] at this
  simpa using this
theorem ZI{F0 F:PS}(k:C7 t F0)(g:C7 t F)(i:∀p j,(F0 p).testBit j=true->(F p).testBit j=true)(h:∀p j,(F p).testBit j=true->QB t F0 p j)(f:IV t F (Cy t)=F):F=SQ t F0:=
 cm ht k g.z i h λp l j b c d=>by
  have a:=DC ht c;have e:=Dy (CD ht) b a.1 a.2.1;rw [<-f];refine HE.2 (.inr ⟨l,c,LU.2 ⟨p,b,by omega,?_⟩⟩);unfold Dt;rw [if_pos a.2.2];exact d
end
theorem Us[Dc TB]{t:CO}(ht:Bd t=true)(m:GF){F0:PS}(J:C7 t F0):Spec Tryz.prog TB 160 (Nt t m) 5 [.o (.ptr 0 14 0 0),jP F0] (λx σ nx=>x=jP (SQ t F0)/\σ=Nt t m/\nx=5):=by
 have hah:=AE (CD ht)
 have X:(Cy t).length<=6:=by
  unfold Cy;have K:(Ac t.s.al).length<=6:=AM _ _;exact lc (p8 _ _) K
 refine eR Tryz.func160 rfl (by kernel_rfl) rfl ?_;intro Z c;(repeat first|refine aU rfl ?_);(refine pW rfl ?_ rfl (by rfl);refine De rfl rfl ?_);(repeat first|refine tM rfl ?_ |refine Aa ?_);refine aB ?_;refine aL (α:={F:PS // C7 t F/\(∀p j,(F0 p).testBit j=true->(F p).testBit j=true)/\∀p j,(F p).testBit j=true->QB t F0 p j}) [0,3,4] [0,1,2,3,4,6] rfl rfl (λs=>[]) (λs=>[(5,.cells 195 12 [Sf s.1])]) 7 (λs=>On s.1) (⟨F0,J,λ_ _ h=>h,λ_ _ h=>.base h⟩) c rfl (by (simp[cX,zC,c,A7]<;>rfl)) ?_;rintro⟨F,f,K,T⟩;(try dsimp only[cA,cB]);have f:C7 t F:=f;refine aB ?_;(repeat first|refine sN rfl ?_ |refine tA rfl ?_ |refine aU rfl ?_ |refine Aa ?_);refine aB ?_;refine aL (α:={k:Nat // k<=(Cy t).length}) [0,3,4,5,14,15] [0,1,2,3,4,5,6] rfl rfl (λs=>[(16,eI .i64 s.1)]) (λs=>[(7,.cells 195 12 [Sf (IV t F ((Cy t).take s.1))])]) 8 (λs=>(Cy t).length - s.1) (⟨0,by omega⟩) c rfl (by (simp[cX,zC,c,A7]<;>rfl)) ?_;rintro⟨k,hk⟩;(try dsimp only[cA,cB]);by_cases Q:k < (Cy t).length
 ·obtain⟨l,u⟩:=get_some Q
  have g:=DC ht (co u)
  have Y:((Cy t).map Bs)[((k:Nat):Int).toNat]? = some (Bs l):=by rw [io];simp [u]
  have I:∀x∈(Cy t).take k,0<=x/\x < 6:=λx B=>by
   have:=DC ht (oP B);omega
  have y:=X8 ht f I;have hG:=KP ht (l:=l) ⟨g.1,g.2.1⟩ f
  have M:IV t F ((Cy t).take (k+1))=λp=>IV t F ((Cy t).take k) p ||| Wk t l F p:=by rw [d9,u];exact bR
  have P:=YO (TB:=TB) ht m (l:=l) ⟨g.1,g.2.1⟩ f;generalize IV t F ((Cy t).take k)=A at *;generalize Wk t l F=G at *;(repeat first|refine s2 rfl λ_ e=>?_ |refine aU rfl ?_ |refine Aa ?_)
  ((refine aC rfl ?_ ?_<;>rintro⟨⟩);all_goals try(exfalso;(simp only[oZ] at *;omega)))
  refine aK ?_;refine aS (aB ?_);(repeat first|refine tA rfl ?_ |(refine s4 rfl ‹_› rfl ?_ ?_;omega) |refine aU rfl ?_ |refine Aa ?_);(refine pW rfl ?_ rfl (by rfl);refine Ai [0,1,2,3,4] rfl rfl (P) ⟨rfl,by decide,by decide⟩ rfl (by simp[cX,zC,c,A7]) ?_;rintro x0 U V ⟨rfl,rfl,rfl⟩ _);(repeat first|refine tA rfl ?_);refine Aa ?_;refine aB ?_;refine aL (α:={p:Nat // p<=12}) [0,3,4,5,14,15,16,23] [0,1,2,3,4,5,6] rfl rfl (λs=>[(24,eI .i64 s.1)]) (λs=>[(7,.cells 195 12 [Sf (LQ A G s.1)])]) 8 (λs=>12 - s.1) (⟨0,by omega⟩) c rfl (by (simp[cX,zC,c,A7]<;>rfl)) ?_;rintro⟨p,R⟩;(try dsimp only[cA,cB]);by_cases n:p < 12
  ·have B:(Hr G)[((p:Nat):Int).toNat]? = some (G p:Int):=by rw [io];exact JQ n
   have ej:0+((p:Nat):Int).toNat*1=p:=by omega
   have q:LQ A G p p < 65536:=by
    unfold LQ;rw [if_neg (by omega)];exact y.lt p
   have w:(Sf (LQ A G p))[0+((p:Nat):Int).toNat*1]? = some (.d (.v (.int .u16 (LQ A G p p:Int)))):=by rw [ej];exact OL n
   have L:=YF q (hG.lt p);have i:=YZ (F:=LQ A G p) (p:=p) n (v:=LQ A G p p ||| G p);rw [<-aw] at i;(repeat first|refine s2 rfl λ_ e=>?_ |refine aU rfl ?_ |refine Aa ?_)
   ((refine aC rfl ?_ ?_<;>rintro⟨⟩);all_goals try(exfalso;(simp only[oZ] at *;omega)))
   refine aK ?_;refine aS (aB ?_);(repeat first|(refine sA rfl ?_ ?_;first|exact tI|omega)|(refine Ag rfl ?_;refine gA rfl ?_;first| refine gS (λ_ _=>Mf (l:=Hr G) rfl rfl rfl (by omega) B) ?_|refine gQ (PQ rfl rfl rfl w) rfl ?_) |refine aU rfl ?_ |refine Aa ?_);(refine Ag rfl ?_;refine HU ?_ rfl (by rfl);refine Er (r:=Sf (LQ A G p)) rfl rfl rfl rfl rfl rfl (by show 0+((p:Nat):Int).toNat*1+1<=12;omega) ?_);refine Aa ?_;(repeat first|(refine sA rfl ?_ ?_;first|exact tI|omega) |refine aU rfl ?_ |refine Aa ?_);refine⟨⟨p+1,by omega⟩,by dsimp only;(omega),[0,1,2,3,4,5,6,7],?_⟩;simp[cX,zC,c,A7,L];exact⟨UG,by simpa [Ae] using i⟩
  ·obtain rfl:p=12:=by omega
   have q:Hr (LQ A G 12)=Hr λp=>A p ||| G p:=Sg λp R=>by unfold LQ;rw [if_pos R]
   (repeat first|refine s2 rfl λ_ e=>?_ |refine aU rfl ?_ |refine Aa ?_)
   ((refine aC rfl ?_ ?_<;>rintro⟨⟩);all_goals try(exfalso;(simp only[oZ] at *;omega)))
   refine aE ?_;(repeat first|(refine sA rfl ?_ ?_;first|exact tI|omega) |refine aU rfl ?_ |refine Aa ?_);refine⟨⟨k+1,by omega⟩,by dsimp only;(omega),[0,1,2,3,4,5,6,7],?_⟩;simp[cX,zC,c,A7,M];exact⟨UG,congrArg (List.map _) q⟩
 ·obtain rfl:k=(Cy t).length:=by omega
  rw [gt]
  have y:=X8 ht f λx B=>by
   have:=DC ht B
   show 0<=x/\x < 6
   omega
  (repeat first|refine s2 rfl λ_ e=>?_ |refine aU rfl ?_ |refine Aa ?_)
  ((refine aC rfl ?_ ?_<;>rintro⟨⟩);all_goals try(exfalso;(simp only[oZ] at *;omega)))
  refine aE ?_;(repeat first|refine tA rfl ?_|(refine Ag rfl ?_;refine gA rfl ?_;first| (refine gB (λ_ _=>lP (a:=Hr (IV t F (Cy t))) (b:=Hr F) rfl rfl rfl rfl (ir y.lt) (ir f.lt)) ?_;intro _ e)) |refine aU rfl ?_ |refine Aa ?_);(refine aC rfl ?_ ?_<;>rintro⟨⟩)
  ·have he:IV t F (Cy t)=F:=by
    have h3:Hr (IV t F (Cy t))=Hr F:=by simpa using e
    have h4:=TA h3;funext p
    rcases oY p 12 with S|S
    ·exact h4 p S
    ·rw [y.z p (by omega),f.z p (by omega)]
   rw [<-ZI ht J f K T he];(repeat first|refine tA rfl ?_ |refine aU rfl ?_ |refine Aa ?_);refine aR ⟨_,rfl,[0,1,2,3,4],jP F,Nt t m,⟨UG,by decide⟩,rfl,by (simp[cX,zC,c,A7]),rfl,rfl,rfl⟩
  ·have N:Hr (IV t F (Cy t))≠Hr F:=by simpa using e
   have H:∀p,F p<=IV t F (Cy t) p:=λp=>sub_le λj w=>HE.2 (.inl w);have hm:=YL f.lt y.lt H N;refine aK ?_;(repeat first|refine tA rfl ?_ |refine aU rfl ?_ |refine Aa ?_);refine⟨⟨IV t F (Cy t),y,λp j w=>HE.2 (.inl (K p j w)),λp j w=>bS ht T w⟩,by dsimp only;(omega),[0,1,2,3,4,5,6],?_⟩;simp[cX,zC,c,A7];exact⟨UG,rfl,rfl⟩
inductive Reach (t:CO):PS->Prop
 | start:Reach t (Cz t)
 | next {F:PS} {l:Int}:0<=l->l < 6->Reach t F->Reach t (DK t l F)
theorem Reach.ok{t:CO}(ht:Bd t=true){F:PS}(h:Reach t F):C7 t F:=by
 induction h with
 | start=>exact Gz ht
 | next c b _ a=>exact LY ht ⟨c,b⟩ a
noncomputable def GZ(t:CO):PS->W->PS
 | F,[]=>F
 | F,c::w=>GZ t (DK t ((c.toNat:Int) - 97) F) w
theorem P7{t:CO}:∀(u v:W) (F:PS),GZ t F (u++v)=GZ t (GZ t F u) v
 | [],v,F=>rfl
 | c::u,v,F=>by simp only [pM,GZ];exact P7 u v _
def kH(t:CO)(ok:W->Prop)(F:PS):Prop:=F=Cz t\/∃u v,ok (u++v)/\F=GZ t (Cz t) u
def kq(t:CO)(ok:W->Prop):Prop:=∀l:List PS,l.Nodup->(∀F∈l,kH t ok F)->l.length<=1099511627776
structure IL (t:CO) (ok:W->Prop) (m:GF):Prop where
 l1:m.nx.length=m.F.length
 l2:m.un.length=m.F.length
 nd:m.F.Nodup
 rc:∀F∈m.F,Reach t F
 rk:∀F∈m.F,kH t ok F
 un:∀(i:Nat) F,m.F[i]? = some F->m.un[i]? = some (Hf t F)
 nx:∀(i:Nat) F,m.F[i]? = some F->∃r:List Int,m.nx[i]? = some r/\r.length=6/\∀l:Nat,l < 6->∃x,r[l]? = some x/\(x < 0\/∃j:Nat,x=j/\m.F[j]? = some (DK t l F))
def I8(t:CO)(m:GF)(G:PS):GF:=⟨m.F++[G],m.nx++[[-1,-1,-1,-1,-1,-1]],m.un++[Hf t G]⟩
theorem iH{t:CO}(ht:Bd t=true){F G:PS}(c:C7 t F)(b:C7 t G)(h:Hr F=Hr G):F=G:=by
 have d:=TA h;have e:=AE (CD ht);funext p
 rcases oY p 12 with a|a
 ·exact d p a
 ·rw [c.z p (by omega),b.z p (by omega)]
theorem Tm{l:List PS}{p:List Int×Int}:p∈QX l↔∃(i:Nat) (F:PS),l[i]? = some F/\p=(Hr F,(i:Int)):=by
 unfold QX;rw [d8];constructor
 ·rintro⟨⟨F,i⟩,h,rfl⟩
  exact⟨i,F,rQ.1 h,rfl⟩
 ·rintro⟨i,F,h,rfl⟩
  exact⟨(F,i),rQ.2 h,rfl⟩
theorem gi(l:List PS)(G:PS):QX (l++[G])=QX l++[(Hr G,(l.length:Int))]:=by
 unfold QX;rw [List.zipIdx_append];simp
theorem de{t:CO}(ht:Bd t=true){l:List PS}(g:l.Nodup)(f:∀F∈l,Reach t F):(QX l).Pairwise (λa b=>a.1≠b.1):=by
 unfold QX;rw [pX,oM];intro i j e d c;simp only [List.length_zipIdx] at e d;simp only [List.getElem_zipIdx];intro h;have:=iH ht ((f _ (o8 e)).ok ht) ((f _ (o8 d)).ok ht) h;exact oM.1 g i j e d c this
theorem dc{t:CO}(ht:Bd t=true){l:List PS}(a:∀F∈l,Reach t F):Rv 12 .u16 (QX l):=λp b=>by
 obtain⟨i,F,c,rfl⟩:=Tm.1 b;exact⟨rfl,ir ((a F (co c)).ok ht).lt⟩
theorem ZT{t:CO}(ht:Bd t=true){l:List PS}(f:l.Nodup)(c:∀F∈l,Reach t F){G:PS}(j:C7 t G){v:Int}(h:DY (QX l) (Hr G)=some v):∃k:Nat,v=k/\l[k]? = some G:=by
 have:∃p∈QX l,p.1=Hr G:=by
  refine Classical.byContradiction λg=>?_;have m:DY (QX l) (Hr G)=none:=Iq.2 λp a b=>g ⟨p,a,b⟩;rw [m] at h;cases h
 obtain⟨p,a,b⟩:=this;have e:=MV (de ht f c) a;rw [b,h] at e;obtain⟨i,F,d,rfl⟩:=Tm.1 a;have:=iH ht ((c F (co d)).ok ht) j b;subst this;exact⟨i,by injection e,d⟩
theorem ZS{l:List PS}{G:PS}(h:DY (QX l) (Hr G)=none):G∉l:=λb=>by
 obtain⟨i,hi,a⟩:=oW b;exact Iq.1 h (Hr G,(i:Int)) (Tm.2 ⟨i,G,by rw [d6 hi,a],rfl⟩) rfl
theorem Lo{α:Type}{l:List α}{a x:α}{i:Nat}(h:l[i]? = some x):(l++[a])[i]? = some x:=by
 rw [f6 (ce.1 h).1];exact h
theorem Ul{α:Type}{l:List α}{a x:α}{i:Nat}(h:(l++[a])[i]? = some x):l[i]? = some x\/i=l.length/\x=a:=by
 rcases oY i l.length with b|b
 ·rw [f6 b] at h;exact .inl h
 ·rw [f9 b] at h
  have d:i - l.length < 1:=(ce.1 h).1
  have c:i=l.length:=by simp at d;omega
  subst c;simp at h;exact .inr ⟨rfl,h.symm⟩
theorem X6{t:CO}{ok:W->Prop}{m:GF}(d:IL t ok m){G:PS}(k:Reach t G)(hk:kH t ok G)(h:G∉m.F):IL t ok (I8 t m G):=by
 refine⟨by simp [I8,d.l1],by simp [I8,d.l2],?_,?_,?_,?_,?_⟩
 ·show (m.F++[G]).Nodup
  rw [qj];exact⟨d.nd,by simp,λa ha b hb=>by simp at hb;subst hb;intro e;subst e;exact h ha⟩
 ·intro F c
  rcases em.1 c with c|c
  ·exact d.rc F c
  ·simp at c;subst c;exact k
 ·intro F c
  rcases em.1 c with c|c
  ·exact d.rk F c
  ·simp at c;subst c;exact hk
 ·intro i F c
  rcases Ul c with f|⟨f,rfl⟩
  ·exact Lo (d.un i F f)
  ·subst f;show (m.un++[Hf t F])[m.F.length]? = _;rw [<-d.l2];simp
 ·intro i F c
  rcases Ul c with f|⟨f,rfl⟩
  ·obtain⟨r,v,u,s⟩:=d.nx i F f
   refine⟨r,Lo v,u,λl g=>?_⟩;obtain⟨x,q,p⟩:=s l g;refine⟨x,q,p.imp id ?_⟩;rintro⟨j,o,n⟩;exact⟨j,o,Lo n⟩
  ·refine⟨[-1,-1,-1,-1,-1,-1],by subst f;show (m.nx++_)[m.F.length]? = _;rw [<-d.l1];simp,rfl,λl g=>⟨-1,?_,.inl (by omega)⟩⟩
   obtain rfl|rfl|rfl|rfl|rfl|rfl:l=0\/l=1\/l=2\/l=3\/l=4\/l=5:=by omega
   all_goals rfl
def HI(t:CO)(F:PS)(k:Nat):Bool:=(List.range k).any λp=>decide (F p≠0) && !(t.q.ac.getD p false)
theorem Kw{t:CO}{F:PS}{k:Nat}:HI t F (k+1)=(HI t F k || (decide (F k≠0) && !(t.q.ac.getD k false))):=by
 unfold HI;rw [qf,sB];simp
theorem ZH{t:CO}{F:PS}(h:C7 t F)(b:t.q.nx.length<=12):HI t F 12=Hf t F:=by
 have key:∀k,HI t F (t.q.nx.length+k)=HI t F t.q.nx.length:=λk=>by
  induction k with
  | zero=>rfl
  | succ k a=>rw [<-o4,Kw,a,h.z _ (by omega)];simp
 have:=key (12 - t.q.nx.length);rw [show t.q.nx.length+(12 - t.q.nx.length)=12 by omega] at this;rw [this];rfl
section
variable {P:Program}{Z:Ctx}{d:Option Tmp}{ty:TypeId}{pos:String}{af:Array Edge}{g:Option (Nat×Bool)}{f:Env}{σ:Ab}{nx:Nat}{t:TypeId}{n:Nat}{q:IntKind}{m e:TypeId}{x y:Operand}{id:Nat}{l:List (List Int×Int)}{s:List Int}
theorem dV{v:Int}[A:Lf P m t e][h:GB P t n q][z:Ru P e (.int .i64 0)](k:DY l s=some v)(i:ev f x=some (.o (.mp id)))(c:ev f y=some (fX q s))(r:look σ id=some (.mp (mapA q l)))
 (u:Rv n q l) (w:l.Pairwise (λa b=>a.1≠b.1)) (p:s.length=n) (j:∀x∈s,(Lit.int q x).wf=true) :
 A3 P TB Z ⟨d,.lookup m x y true,ty,pos,af,g⟩ f σ nx (.t [(false,[.d (.v (.int .i64 v))]),(false,[.d (.v (.bool true))])]):=by
 have:=Y7 (P:=P) (TB:=TB) (Z:=Z) (d:=d) (ty:=ty) (pos:=pos) (af:=af) (g:=g) (nx:=nx) (t:=t) (m:=m) (e:=e) i c r u w p j;rw [k] at this;exact this
theorem dU[A:Lf P m t e][h:GB P t n q][z:Ru P e (.int .i64 0)](k:DY l s=none)(i:ev f x=some (.o (.mp id)))(c:ev f y=some (fX q s))(r:look σ id=some (.mp (mapA q l)))
 (u:Rv n q l) (w:l.Pairwise (λa b=>a.1≠b.1)) (p:s.length=n) (j:∀x∈s,(Lit.int q x).wf=true) :
 A3 P TB Z ⟨d,.lookup m x y true,ty,pos,af,g⟩ f σ nx (.t [(false,[.d (.v (.int .i64 0))]),(false,[.d (.v (.bool false))])]):=by
 have:=Y7 (P:=P) (TB:=TB) (Z:=Z) (d:=d) (ty:=ty) (pos:=pos) (af:=af) (g:=g) (nx:=nx) (t:=t) (m:=m) (e:=e) i c r u w p j;rw [k] at this;exact this
end
theorem bT{t:CO}{ok:W->Prop}(ht:Bd t=true){m:GF}(h:IL t ok m)(H:m.F.length<=1099511627776){G:PS}(u:C7 t G):∃(m':GF) (k:Nat),((m'=m/\m.F[k]? = some G)\/(m'=I8 t m G/\k=m.F.length/\G∉m.F))/\
 AQ Tryz.prog TB 159 1 (Nt t m) 5 [.o (.ptr 0 14 0 0),jP G] (λx σ nx=>x=eI .i64 (k:Int)/\σ=Nt t m'/\nx=5):=by
 have L:=AE (CD ht);have f:=de ht h.nd h.rc;have j:=dc ht h.rc;have e:=ir u.lt
 cases n:DY (QX m.F) (Hr G) with
 | some v=>
  obtain⟨k,rfl,hk⟩:=ZT ht h.nd h.rc u n;refine⟨m,k,.inl ⟨rfl,hk⟩,?_⟩;refine AQ.Bi (AQ.Sc (m:=1) (am rfl) Tryz.func159 rfl (by kernel_rfl) (am rfl) ?_);intro Z a;(repeat first|refine tA rfl ?_ |refine aU rfl ?_ |refine Aa ?_);refine rG (Hg []) (by kernel_rfl) ?_;(repeat first|refine tA rfl ?_|(refine Ag rfl ?_;refine gA rfl ?_;first| refine gQ (dV (s:=Hr G) (l:=QX m.F) n rfl rfl rfl j f rfl e) rfl ?_) |refine aU rfl ?_ |refine Aa ?_);(refine aC rfl ?_ ?_<;>rintro⟨⟩);(repeat first|refine tA rfl ?_ |refine aU rfl ?_ |refine Aa ?_);refine aR ⟨_,rfl,[0,1,2,3,4],eI .i64 (k:Int),Nt t m,⟨by intro i hi;match i with|0=>rfl,by decide⟩,rfl,by (simp[cX,zC,a,A7]),rfl,rfl,rfl⟩
 | none =>
  refine⟨I8 t m G,m.F.length,.inr ⟨rfl,rfl,ZS n⟩,?_⟩;have N:=h.l1;have M:=h.l2;have A:=gi m.F G;refine AQ.Bi (AQ.Sc (m:=1) (am rfl) Tryz.func159 rfl (by kernel_rfl) (am rfl) ?_);intro Z a;(repeat first|refine tA rfl ?_ |refine aU rfl ?_ |refine Aa ?_);refine rG (Hg []) (by kernel_rfl) ?_;(repeat first|refine tA rfl ?_|(refine Ag rfl ?_;refine gA rfl ?_;first| refine gQ (dU (s:=Hr G) (l:=QX m.F) n rfl rfl rfl j f rfl e) rfl ?_) |refine aU rfl ?_ |refine Aa ?_);(refine aC rfl ?_ ?_<;>rintro⟨⟩);refine aK ?_;(repeat first|refine tA rfl ?_ |refine aU rfl ?_ |refine Aa ?_);refine rG (Hg [6]) (by kernel_rfl) ?_;(repeat first|refine tA rfl ?_);(refine Ag rfl ?_;refine HU ?_ rfl (by rfl);refine jD (s:=Hr G) (l:=QX m.F) rfl rfl rfl rfl j f rfl e n ?_);rw [<-A];refine Aa ?_;(repeat first|refine aU rfl ?_);refine rG (Kh [(4,0),(7,1),(10,1)]) (by kernel_rfl) ?_;(repeat first|refine tA rfl ?_);(refine pW rfl ?_ rfl (by rfl);refine Au rfl rfl rfl (by first| (simp;done)|(simp;(omega))) rfl (by intro r d;simp at d;subst d;rfl) (by rfl) (am rfl) (by simp;omega) ?_);(repeat first|refine tA rfl ?_ |refine aU rfl ?_ |refine Aa ?_);(repeat first|refine tA rfl ?_|(refine Ag rfl ?_;refine gA rfl ?_;first| refine gS (λ_ _=>AG rfl rfl (by rfl) (by rfl)) ?_));(refine pW rfl ?_ rfl (by rfl);refine Au rfl rfl rfl (by first| (simp;done)|(simp;(omega))) rfl (by intro r d;simp at d;subst d;rfl) (by rfl) (am rfl) (by simp;omega) ?_);(repeat first|refine tA rfl ?_ |refine aU rfl ?_ |refine Aa ?_);refine Aj.Ay [0,7,8,53,54] [] rfl rfl [] [(0,.cells 191 14 [eE t (.arr 1 12 0 (I8 t m G).F.length) (.mp 2) (.arr 3 6 0 (I8 t m G).nx.length) (.arr 4 1 0 m.un.length)]),(1,.cells 195 12 ((I8 t m G).F.map Sf)),(2,.mp (mapA .u16 (QX (I8 t m G).F))),(3,.cells 127 6 ((I8 t m G).nx.map Sb)),(4,.cells 4 1 (m.un.map AT))] [0,5,2,6,4] (rl a rfl) (by (simp[cX,zC,a,A7,I8]<;>rfl)) ?_;(try dsimp only[cA,cB]);refine aB ?_;refine aL (α:={k:Nat // k<=12}) [0,7,53] [0,1,2,3,4] rfl rfl (λs=>[(8,eB (HI t G s.1)),(54,eI .i64 s.1)]) (λs=>[]) 5 (λs=>12 - s.1) (⟨0,by omega⟩) a rfl (by (simp[cX,zC,a,A7]<;>rfl)) ?_;rintro⟨k,hk⟩;(try dsimp only[cA,cB]);by_cases w:k < 12
  ·have B:(Hr G)[((k:Nat):Int).toNat]? = some (G k:Int):=by rw [io];exact JQ w
   have p:=Kw (t:=t) (F:=G) (k:=k);generalize HI t G k=P at *;by_cases J:k < t.q.nx.length
   ·obtain⟨b,hb⟩:=get_some (l:=t.q.ac) (k:=((k:Nat):Int).toNat) (by omega)
    have K:=get_map (g:=I9) hb
    have y:t.q.ac.getD k false=b:=by rw [io] at hb;simp [List.getD,hb]
    rw [y] at p;(repeat first|refine s2 rfl λ_ c=>?_ |refine aU rfl ?_ |refine Aa ?_)
    ((refine aC rfl ?_ ?_<;>rintro⟨⟩);all_goals try(exfalso;(simp only[oZ] at *;omega)))
    refine aK ?_;refine aS (aB ?_)
    (repeat' first|(refine sA rfl ?_ ?_;first|exact tI|omega) |(refine s4 rfl ‹_› rfl ?_ ?_;omega) |refine s2 rfl λ_ c=>?_|(refine Ag rfl ?_;refine gA rfl ?_;first| refine gS (λ_ _=>Mf (l:=Hr G) rfl rfl rfl (by omega) B) ?_) |refine s3 rfl ?_ ?_<;>rintro rfl |refine aU rfl ?_ |refine Aa ?_|(refine aC rfl ?_ ?_<;>rintro⟨⟩));all_goals try contradiction
    all_goals ((try refine aK ?_);refine⟨⟨k+1,by omega⟩,by dsimp only;(omega),[0,1,2,3,4],?_⟩;simp only [decide_eq_true_eq,decide_eq_false_iff_not] at *;simp[cX,zC,a,A7,p];try (simp_all;done))
   ·have I:=u.z k (by omega)
    rw [I] at p;(repeat first|refine s2 rfl λ_ c=>?_ |refine aU rfl ?_ |refine Aa ?_)
    ((refine aC rfl ?_ ?_<;>rintro⟨⟩);all_goals try(exfalso;(simp only[oZ] at *;omega)))
    refine aK ?_;refine aS (aB ?_)
    (repeat' first|(refine sA rfl ?_ ?_;first|exact tI|omega) |refine s2 rfl λ_ c=>?_|(refine Ag rfl ?_;refine gA rfl ?_;first| refine gS (λ_ _=>Mf (l:=Hr G) rfl rfl rfl (by omega) B) ?_) |refine s3 rfl ?_ ?_<;>rintro rfl |refine aU rfl ?_ |refine Aa ?_|(refine aC rfl ?_ ?_<;>rintro⟨⟩));all_goals try contradiction
    all_goals first| (exfalso;(simp only[oZ] at *;omega);done)|skip
    all_goals ((try refine aK ?_);refine⟨⟨k+1,by omega⟩,by dsimp only;(omega),[0,1,2,3,4],?_⟩;simp[cX,zC,a,A7,p];try (simp_all;done))
  ·obtain rfl:k=12:=by omega
   rw [ZH u (by omega)];(repeat first|refine s2 rfl λ_ c=>?_ |refine aU rfl ?_ |refine Aa ?_)
   ((refine aC rfl ?_ ?_<;>rintro⟨⟩);all_goals try(exfalso;(simp only[oZ] at *;omega)))
   refine aE ?_;(repeat first|refine tA rfl ?_ |refine aU rfl ?_);(refine pW rfl ?_ rfl (by rfl);refine Au rfl rfl rfl (by first| (simp;done)|(simp;(omega))) rfl (by intro r d;simp at d;subst d;rfl) (by rfl) (am rfl) (by simp;omega) ?_);(repeat first|refine tA rfl ?_ |refine aU rfl ?_ |refine Aa ?_);refine aR ⟨_,rfl,[0,1,2,3,5],eI .i64 (m.F.length:Int),Nt t (I8 t m G),⟨by intro i hi;match i with|0=>rfl,by decide⟩,rfl,by (simp[cX,zC,a,A7,I8]),rfl,rfl,rfl⟩
def mx(m m':GF):Prop:=∀(i:Nat) F,m.F[i]? = some F->m'.F[i]? = some F
theorem fx{t:CO}{m:GF}{G:PS}:mx m (I8 t m G):=λ_ _ h=>Lo h
def aW(m:GF)(n:Nat)(r:List Int):GF:={ m with nx:=m.nx.set n r }
theorem gV{t:CO}{ok:W->Prop}{m:GF}(a:IL t ok m){n k l:Nat}{F:PS}{r:List Int}(p:m.F[n]? = some F)(o:m.nx[n]? = some r)(v:l < 6)(hk:m.F[k]? = some (DK t l F)):IL t ok (aW m n (r.set l k)):=by
 refine⟨by simp [aW,a.l1],a.l2,a.nd,a.rc,a.rk,a.un,λi G b=>?_⟩;replace b:m.F[i]? = some G:=b;by_cases e:i=n
 ·subst e
  rw [p] at b;injection b with b;subst b
  obtain⟨r',c,f,j⟩:=a.nx i F p
  rw [o] at c;injection c with c;subst c
  have g:=(ce.1 o).1;refine⟨r.set l k,by simp [aW,g],by simp [f],λl' d=>?_⟩;by_cases q:l'=l
  ·subst q
   exact⟨k,by simp [f,d],.inr ⟨k,rfl,hk⟩⟩
  ·obtain⟨x,u,s⟩:=j l' d
   exact⟨x,by rw [pk (λh=>q h.symm)];exact u,s⟩
 ·obtain⟨r',c,f,j⟩:=a.nx i G b
  exact⟨r',by simp only [aW];rw [pk (λh=>e h.symm)];exact c,f,j⟩
theorem YT{r:List Int}{l:Nat}{x:Int}(h:r[l]? = some x):(Sb r)[l]? = some (.d (iD x)):=by simp [h]
theorem gr{r:List Int}{l:Nat}{x:Int}(h:l < r.length):Ae (Sb r) l [.d (iD x)]=Sb (r.set l x):=by
 rw [IF (by simpa using h)];unfold Sb;rw [pG]
theorem ZB[Dc TB]{t:CO}{ok:W->Prop}(ht:Bd t=true){m:GF}(e:IL t ok m){n:Nat}{F:PS}(v:m.F[n]? = some F){l:Int}(J:0<=l/\l < 6)(H:m.F.length<=1099511627776)(R:kH t ok (DK t l F)):∃(m':GF) (j:Nat),IL t ok m'/\mx m m'/\m'.F[j]? = some (DK t l F)/\m'.F.length<=m.F.length+1/\
 AQ Tryz.prog TB 161 1 (Nt t m) 5 [.o (.ptr 0 14 0 0),eI .i64 (n:Int),eI .i64 l] (λx σ nx=>x=eI .i64 (j:Int)/\σ=Nt t m'/\nx=5):=by
 obtain⟨r,hr,hrl,Q⟩:=e.nx n F v;have hn:=(ce.1 v).1;have h1:=e.l1;obtain⟨x,hx,z⟩:=Q l.toNat (by omega)
 have el:((l.toNat:Nat):Int)=l:=by omega
 rw [el] at z;have s:=(e.rc F (co v)).ok ht
 have hr':(m.nx.map Sb)[0+((n:Nat):Int).toNat]? = some (Sb r):=by rw [oH,io];simp [hr]
 have g:(Sb r)[0+l.toNat*1]? = some (.d (iD x)):=by rw [oH,sF];exact YT hx
 by_cases N:x < 0
 ·have hG:=LY ht J s
  have Y:Reach t (DK t l F):=.next J.1 J.2 (e.rc F (co v));obtain⟨a,k,q,K⟩:=bT (TB:=TB) ht e H hG
  have c:IL t ok a/\mx m a/\a.F[k]? = some (DK t l F)/\a.F.length<=m.F.length+1:=by
   rcases q with ⟨rfl,h2⟩|⟨rfl,rfl,h2⟩
   ·exact⟨e,λ_ _ h=>h,h2,Nat.le_succ _⟩
   ·exact⟨X6 e Y R h2,fx,by simp [I8],by simp [I8]⟩
  obtain⟨c,I,hk,V⟩:=c;have L:=I n F v;obtain⟨f,p,hrl1,_⟩:=c.nx n F L;have T:=(ce.1 p).1;have S:=gV (l:=l.toNat) c L p (by omega) (k:=k) (by rw [el];exact hk);refine⟨_,k,S,I,hk,V,?_⟩;have U:=YO (TB:=TB) ht m J s;have X:=Us (TB:=TB) ht m (KP ht J s)
  have hs':(m.F.map Sf)[0+((n:Nat):Int).toNat]? = some (Sf F):=by rw [oH,io];simp [v]
  refine AQ.Bi (AQ.Sc (m:=1) (am rfl) Tryz.func161 rfl (by kernel_rfl) (am rfl) ?_);intro Z b;(repeat first|(refine sA rfl ?_ ?_;first|exact tI|omega) |refine s2 rfl λ_ _hb=>?_|(refine Ag rfl ?_;refine gA rfl ?_;first| refine gQ (PQ rfl rfl (by assumption) g) rfl ?_) |refine aU rfl ?_ |refine Aa ?_)
  ((refine aC rfl ?_ ?_<;>rintro⟨⟩);all_goals try(exfalso;(simp only[oZ] at *;omega)))
  (repeat first|(refine sA rfl ?_ ?_;first|exact tI|omega) |refine t4 rfl ‹_› rfl ?_ |refine aU rfl ?_);(refine pW rfl ?_ rfl (by rfl);refine Ai [0,1,2,3,4] rfl rfl (U) ⟨rfl,by decide,by decide⟩ rfl (by simp[cX,zC,b,A7]) ?_;rintro x0 w y ⟨rfl,rfl,rfl⟩ _);(refine pW rfl ?_ rfl (by rfl);refine Ai [0,1,2,3,4] rfl rfl (X) ⟨rfl,by decide,by decide⟩ rfl (by simp[cX,zC,b,A7]) ?_;rintro x0 w y ⟨rfl,rfl,rfl⟩ _);(refine pW rfl ?_ rfl (by rfl);refine Ck [0,1,2,3,4] rfl rfl 1 (K) (by decide) ⟨rfl,by decide,by decide⟩ rfl (by simp[cX,zC,b,A7]) ?_;rintro x0 w y ⟨rfl,rfl,rfl⟩ _);(repeat first|refine tA rfl ?_);refine Aa ?_;refine Aj.Ay [0,1,2,7] [] rfl rfl [] [(0,.cells 191 14 [eE t (.arr 1 12 0 a.F.length) (.mp 2) (.arr 3 6 0 a.nx.length) (.arr 4 1 0 a.un.length)]),(1,.cells 195 12 (a.F.map Sf)),(2,.mp (mapA .u16 (QX a.F))),(3,.cells 127 6 (a.nx.map Sb)),(4,.cells 4 1 (a.un.map AT))] [0,5,6,7,8] (rl b rfl) (by (simp[cX,zC,b,A7])) ?_;(try dsimp only[cA,cB])
  have G:(a.nx.map Sb)[0+((n:Nat):Int).toNat]? = some (Sb f):=by rw [oH,io];simp [p]
  have P:=gr (r:=f) (l:=l.toNat) (x:=(k:Int)) (by omega)
  have B:(f.set l.toNat (k:Int))[l.toNat]? = some (k:Int):=by rw [pj (by omega)]
  generalize f.set l.toNat (k:Int)=u at *
  have A:(Sb f).take l.toNat++C.d (iD k)::(Sb f).drop (l.toNat+1)=Sb u:=by rw [<-P];simp [Ae]
  (repeat first|(refine sA rfl ?_ ?_;first|exact tI|omega) |refine aU rfl ?_);(refine Ag rfl ?_;refine HU ?_ rfl (by rfl);refine Er (r:=Sb f) rfl rfl rfl rfl G rfl (by show 0+l.toNat*1+1<=6;omega) ?_);refine Aa ?_;refine Aj.Ay [0,1,2] [] rfl rfl [] [(0,.cells 191 14 [eE t (.arr 1 12 0 a.F.length) (.mp 2) (.arr 3 6 0 a.nx.length) (.arr 4 1 0 a.un.length)]),(1,.cells 195 12 (a.F.map Sf)),(2,.mp (mapA .u16 (QX a.F))),(3,.cells 127 6 ((a.nx.set n u).map Sb)),(4,.cells 4 1 (a.un.map AT))] [0,1,2,3,4] (rl b rfl) (by (simp[cX,zC,b,A7,A])) ?_;(try dsimp only[cA,cB])
  have hr2:((a.nx.set n u).map Sb)[0+((n:Nat):Int).toNat]? = some (Sb u):=by rw [oH,io];simp [T]
  have M:(Sb u)[0+l.toNat*1]? = some (.d (iD k)):=by rw [oH,sF];exact YT B
  (repeat first|(refine sA rfl ?_ ?_;first|exact tI|omega)|(refine Ag rfl ?_;refine gA rfl ?_;first| refine gQ (PQ rfl rfl (by assumption) M) rfl ?_) |refine aU rfl ?_ |refine Aa ?_);refine aR ⟨_,rfl,[0,1,2,3,4],eI .i64 (k:Int),Nt t (aW a n u),⟨by intro i hi;match i with|0=>rfl,by decide⟩,rfl,by (simp[cX,zC,b,A7,aW]),rfl,rfl,rfl⟩
 ·obtain⟨j,rfl,hj⟩:=z.resolve_left N
  refine⟨m,j,e,λ_ _ h=>h,hj,Nat.le_succ _,?_⟩;refine AQ.Bi (AQ.Sc (m:=1) (am rfl) Tryz.func161 rfl (by kernel_rfl) (am rfl) ?_);intro Z b;(repeat first|(refine sA rfl ?_ ?_;first|exact tI|omega) |refine s2 rfl λ_ _hb=>?_|(refine Ag rfl ?_;refine gA rfl ?_;first| refine gQ (PQ rfl rfl (by assumption) g) rfl ?_) |refine aU rfl ?_ |refine Aa ?_)
  ((refine aC rfl ?_ ?_<;>rintro⟨⟩);all_goals try(exfalso;(simp only[oZ] at *;omega)))
  refine aK ?_;(repeat first|(refine sA rfl ?_ ?_;first|exact tI|omega)|(refine Ag rfl ?_;refine gA rfl ?_;first| refine gQ (PQ rfl rfl (by assumption) g) rfl ?_) |refine aU rfl ?_ |refine Aa ?_);refine aR ⟨_,rfl,[0,1,2,3,4],eI .i64 (j:Int),Nt t m,⟨by intro i hi;match i with|0=>rfl,by decide⟩,rfl,by (simp[cX,zC,b,A7]),rfl,rfl,rfl⟩
theorem bU[Dc TB]{t:CO}{ok:W->Prop}(ht:Bd t=true)(a:kq t ok){m:GF}(c:IL t ok m){n:Nat}{F:PS}(e:m.F[n]? = some F){l:Int}(d:0<=l/\l < 6)(b:kH t ok (DK t l F)):∃(m':GF) (j:Nat),IL t ok m'/\mx m m'/\m'.F[j]? = some (DK t l F)/\
 AQ Tryz.prog TB 161 1 (Nt t m) 5 [.o (.ptr 0 14 0 0),eI .i64 (n:Int),eI .i64 l] (λx σ nx=>x=eI .i64 (j:Int)/\σ=Nt t m'/\nx=5):=by
 obtain⟨m',j,i,h,g,_,f⟩:=ZB (TB:=TB) ht c e d (a m.F c.nd c.rk) b;exact⟨m',j,i,h,g,f⟩
def NG(t:CO)(ok:W->Prop)(m:GF):Prop:=IL t ok m/\m.F[0]? = some (Cz t)
theorem Zi[Dc TB]{t:CO}{ok:W->Prop}(ht:Bd t=true)(l:kq t ok){u:GF}(k:NG t ok u){w:W}(v:ok w)(N:∀c∈w,0<=(c.toNat:Int) - 97/\(c.toNat:Int) - 97 < 6)(M:w.length<=1048576) :
 AQ Tryz.prog TB 112 1 (Nt t u) 5 [.o (.ptr 0 14 0 0),eT w] (λx σ nx=>x=eB (LS t w)/\nx=5/\∃m,NG t ok m/\σ=Nt t m):=by
 have S:w.drop 0=w:=rfl;refine AQ.Bi (AQ.Sc (m:=1) (am rfl) Tryz.func112 rfl (by kernel_rfl) (am rfl) ?_);intro Z a;(repeat first|refine tA rfl ?_ |refine aU rfl ?_ |refine Aa ?_);refine aB ?_;refine aL (α:={x:Nat×Nat×GF // x.1<=w.length/\NG t ok x.2.2/\∃F,x.2.2.F[x.2.1]? = some F/\HZ t F (w.drop x.1)=LS t w/\F=GZ t (Cz t) (w.take x.1)}) [0,1] [] rfl rfl (λs=>[(5,eI .i64 s.1.2.1),(6,eI .i64 s.1.1)]) (λs=>Nt t s.1.2.2) 5 (λs=>w.length - s.1.1) (⟨⟨0,0,u⟩,by simp,k,Cz t,k.2,rfl,rfl⟩) a rfl (by (simp[cX,zC,a,A7])) ?_;rintro⟨⟨i,n,m⟩,hi,h,F,r,e,g⟩;(try dsimp only[cA,cB]);have hi:i<=w.length:=hi;have h:NG t ok m:=h;have g:F=GZ t (Cz t) (w.take i):=g;have r:m.F[n]? = some F:=r;have e:HZ t F (w.drop i)=LS t w:=e;have I:=h.1.un n F r;have P:=(ce.1 I).1
 have Q:(m.un.map AT)[0+((n:Nat):Int).toNat]? = some (AT (Hf t F)):=by rw [oH,io];simp [I]
 by_cases z:i < w.length
 ·obtain⟨c,q⟩:=get_some z
  have G:w[((i:Nat):Int).toNat]? = some c:=by simpa using q
  have p:=N c (co q);have B:=Ho (TB:=TB) w i c G p;have T:=BD q
  have f:DK t ((c.toNat:Int) - 97) F=GZ t (Cz t) (w.take (i+1)):=by
   rw [d9,q,P7,<-g];rfl
  obtain⟨L,j,y,A,R,H⟩:=bU (TB:=TB) ht l h.1 r p (.inr ⟨w.take (i+1),w.drop (i+1),by rw [px];exact v,f⟩);rw [T,HZ] at e;generalize Hf t F=b at *
  (repeat' first|(refine sA rfl ?_ ?_;first|exact tI|omega) |refine t4 rfl ‹_› rfl ?_ |refine s2 rfl λ_ d=>?_ |refine s3 rfl ?_ ?_<;>rintro rfl |refine aU rfl ?_ |refine Aa ?_|(refine aC rfl ?_ ?_<;>rintro⟨⟩));all_goals try contradiction
  all_goals first| (exfalso;(simp only[oZ] at *;omega);done)|skip
  ·have hb:b=false:=by simpa using d
   subst hb;refine aK ?_;refine aS (aB ?_);(repeat first|refine tA rfl ?_ |refine sP rfl (B) rfl ?_ |refine aU rfl ?_);(refine pW rfl ?_ rfl (by rfl);refine Ck [0,1,2,3,4] rfl rfl 1 (H) (by decide) ⟨rfl,by decide,by decide⟩ rfl (by simp[cX,zC,a,A7]) ?_;rintro U J K ⟨rfl,rfl,rfl⟩ _);(repeat first|refine tA rfl ?_);refine Aa ?_;(repeat first|(refine sA rfl ?_ ?_;first|exact tI|omega) |refine aU rfl ?_ |refine Aa ?_);refine⟨⟨⟨i+1,j,L⟩,by omega,⟨y,A 0 _ h.2⟩,_,R,by simpa using e,f⟩,by dsimp only;(omega),[0,5,6,7,8],?_⟩;simp[cX,zC,a,A7]
  ·have hb:b=true:=by simpa using d
   subst hb
   have e:LS t w=false:=by simpa using e.symm
   rw [e];refine aE ?_;(repeat first|(refine sA rfl ?_ ?_;first|exact tI|omega) |refine t4 rfl ‹_› rfl ?_ |refine s2 rfl λ_ d=>?_ |refine aU rfl ?_ |refine Aa ?_);refine aR ⟨_,rfl,[0,1,2,3,4],eB false,Nt t m,⟨by intro i hi;match i with|0=>rfl,by decide⟩,by subst_vars;rfl,by (simp[cX,zC,a,A7]),rfl,rfl,m,h,rfl⟩
 ·obtain rfl:i=w.length:=by omega
  rw [qN,HZ] at e;rw [<-e]
  (repeat' first|(refine sA rfl ?_ ?_;first|exact tI|omega) |refine t4 rfl ‹_› rfl ?_ |refine s2 rfl λ_ d=>?_ |refine s3 rfl ?_ ?_<;>rintro rfl |refine aU rfl ?_ |refine Aa ?_|(refine aC rfl ?_ ?_<;>rintro⟨⟩));all_goals try contradiction
  all_goals first| (exfalso;(simp only[oZ] at *;omega);done)|skip
  refine aE ?_;(repeat first|(refine sA rfl ?_ ?_;first|exact tI|omega) |refine t4 rfl ‹_› rfl ?_ |refine s2 rfl λ_ d=>?_ |refine aU rfl ?_ |refine Aa ?_);refine aR ⟨_,rfl,[0,1,2,3,4],eB (!Hf t F),Nt t m,⟨by intro i hi;match i with|0=>rfl,by decide⟩,by subst_vars;rfl,by (simp[cX,zC,a,A7]),rfl,rfl,m,h,rfl⟩
def Qp(t:CO)(ok:W->Prop):Hid:=⟨{m:GF // NG t ok m},λs=>Nt t s.1,5⟩
theorem eF{tabs:List (Nat×Obj)}[Dc ⟨tabs,none⟩]{t:CO}{ok:W->Prop}(ht:Bd t=true)(a:kq t ok){r:Nat}{w:W}(d:ok w)(f:∀c∈w,0<=(c.toNat:Int) - 97/\(c.toNat:Int) - 97 < 6)(b:w.length<=1048576) :
 Pure Tryz.prog ⟨tabs,some (Qp t ok,r)⟩ 112 [.o (PU r),eT w] (eB (LS t w)):=
 dF (H:=Qp t ok) (k:=14) (es:=[eT w]) ⟨_,Tryz.func112,by kernel_rfl,rfl⟩ (by intro e g;simp at g;subst g;rfl) rfl λs=>
  ⟨(Zi (TB:=⟨tabs,none⟩) ht a s.2 d f b).1,λV vs S h ha=>((Zi (TB:=⟨tabs,none⟩) ht a s.2 d f b).2 V vs S h ha).mono λe w' ⟨V',v,x,σ',y,u,q,p,n,l,m,j,i⟩=>⟨V',v,x,σ',y,u,q,p,n,l,⟨m,j⟩,i⟩⟩
end Go.Am
