/-
  The safety of a task in memory; its step: walked.
-/
import Derived.Test.YtdipaikojjjebaaGreatDoorPart25
import Derived.Test.YtdipaikojjjebaaGreatDoorPart22
set_option linter.all false
namespace Go.Am
open Go Go.Proofs
set_option maxHeartbeats 1000000
set_option maxRecDepth 4000
attribute [local irreducible] A6 CC Lex Bz Ak Spec
variable {TB:BJ}
def Hx(F:PS):List Int:=[(F 0:Nat),(F 1:Nat),(F 2:Nat),(F 3:Nat),(F 4:Nat),(F 5:Nat),(F 6:Nat),(F 7:Nat),(F 8:Nat),(F 9:Nat),(F 10:Nat),(F 11:Nat)]
abbrev Su(F:PS):List C:=n9 .u16 (Hx F)
abbrev jV(F:PS):E:=gi .u16 (Hx F)
theorem J7{F:PS}{p:Nat}(h:p<12):(Hx F)[p]?=some (F p:Int):=by
 obtain rfl|rfl|rfl|rfl|rfl|rfl|rfl|rfl|rfl|rfl|rfl|rfl:p=0\/p=1\/p=2\/p=3\/p=4\/p=5\/p=6\/p=7\/p=8\/p=9\/p=10\/p=11:=by omega
 all_goals rfl
theorem O7{F:PS}{p:Nat}(h:p<12):(Su F)[p]?=some (.d (.v (.int .u16 (F p:Int)))):=by simp[J7 h]
theorem Sv{F G:PS}(h:∀p,p<12->F p=G p):Hx F=Hx G:=by
 unfold Hx;rw[h 0 (by omega),h 1 (by omega),h 2 (by omega),h 3 (by omega),h 4 (by omega),h 5 (by omega),h 6 (by omega),h 7 (by omega),h 8 (by omega),h 9 (by omega),h 10 (by omega),h 11 (by omega)]
theorem TP{F G:PS}(h:Hx F=Hx G):∀p,p<12->F p=G p:=λp a=>by
 have:=J7 (F:=F) a;rw[h,J7 a]at this
 injection this with this
 omega
theorem Zp{F:PS}{p:Nat}(h:p<12){v:Nat}:Ae (Su F) p [.d (.v (.int .u16 (v:Int)))]=Su λi=>if i=p then v else F i:=by
 have b:(Su F).length=12:=by simp[Hx]
 rw[IP (by omega)];apply pY;intro i;rw[sE];by_cases hi:i<12
 ·rw[O7 hi,O7 hi]
  by_cases e:p=i
  ·subst e;rw[if_pos rfl,if_pos (by omega),if_pos rfl]
  ·rw[if_neg e,if_neg (λh=>e h.symm)]
 ·have a:∀G:PS,(Su G)[i]?=none:=λG=>o4 (by simp[Hx];omega)
  rw[a,a];by_cases e:p=i
  ·omega
  ·rw[if_neg e]
theorem u16_in{n:Nat}(h:n<65536):IntKind.u16.wrap (n:Int)=n:=by
 unfold IntKind.wrap;simp[IntKind.bits,IntKind.signed,IntKind.min,IntKind.max];omega
instance:GM Tryz.prog 150 12 .u16:=⟨⟨148,⟨by kernel_rfl,by kernel_rfl,by kernel_rfl,by kernel_rfl⟩,by kernel_rfl⟩,by kernel_rfl,λh=>by
 have a:Nat.beq Tryz.prog.types.size 0=false:=by kernel_rfl
 rw[h]at a;cases a⟩
def Ev(t:CP)(l:Int)(F:PS)(k:Nat):PS:=λp':Nat=>(List.range k).foldl (λa p=>if Cz t.q p l=(p':Int) then a ||| DC t.s l (F p) else a) 0
theorem JX{t:CP}{l:Int}{F:PS}{k:Nat}:Ev t l F (k+1)=λp':Nat=>if Cz t.q k l=(p':Int) then Ev t l F k p' ||| DC t.s l (F k) else Ev t l F k p':=by
 funext p';unfold Ev;rw[qz,rv];rfl
theorem XS{s:Sys}{l:Int}:DC s l 0=0:=by
 unfold DC;split
 ·exact HR λj=>by
   cases h:(Cv s.es l 0).testBit j
   ·rfl
   ·obtain⟨e,_,⟨_,a⟩,_⟩:=Eb.1 h
    simp at a
 ·rfl
theorem Sj{t:CP}{l:Int}{F:PS}{k:Nat}(h:F k=0):Ev t l F (k+1)=Ev t l F k:=by
 rw[JX];funext p';rw[h,XS];split<;>simp
theorem dB{t:CP}{l:Int}{F:PS}(h:Dd t F)(b:t.q.nx.length<=12):Ev t l F 12=WK t l F:=by
 have key:∀k,Ev t l F (t.q.nx.length+k)=Ev t l F t.q.nx.length:=λk=>by
  induction k with
  | zero=>rfl
  | succ k a=>rw[<-pu,Sj (h.z _ (by omega)),a]
 have:=key (12-t.q.nx.length);rw[show t.q.nx.length+(12-t.q.nx.length)=12 by omega]at this;rw[this];rfl
theorem Zf{t:CP}(ht:Bc t=true){l:Int}{F:PS}(h:Dd t F)(k p:Nat):Ev t l F k p<65536:=by
 induction k with
 | zero=>simp[Ev]
 | succ k a=>
  rw[JX];simp only;have b:=JD ht (l:=l) (h.lt k);split
  ·have:=qF (n:=16) a b;omega
  ·exact a
structure GO where
 F:List PS
 nx:List (List Int)
 un:List Bool
abbrev Sp(r:List Int):List C:=r.map λx=>.d (iD x)
def Rv(F:List PS):List (List Int×Int):=F.zipIdx.map λx=>(Hx x.1,(x.2:Int))
abbrev eX(t:CP)(a b c d:C):List C:=[.d (iD t.s.al),.d (iD t.s.st),.d (EG t.s.es),.d (iD t.q.al),.d (C7 t.q.nx),.d (Fo t.q.ac),.d (iD t.al),.ip (Ga t.s.es),.d (.l (Hj t.q)),.d (Fp (Cu t)),a,b,c,d]
abbrev NI(t:CP)(m:GO):Ab:=[(0,.cells 89 14 [eX t (.arr 1 12 0 m.F.length) (.mp 2) (.arr 3 6 0 m.nx.length) (.arr 4 1 0 m.un.length)]),(1,.cells 150 12 (m.F.map Su)),(2,.mp (mapA .u16 (Rv m.F))),(3,.cells 94 6 (m.nx.map Sp)),(4,.cells 4 1 (m.un.map AU))]
theorem A8(r:Nat->Nat)(q:IntKind)(l:List Int):C.CB r (l.map λx=>.d (.v (.int q x)))=l.map λx=>.d (.v (.int q x)):=by
 rw[show (l.map λx=>C.d (.v (.int q x)))=(l.map λx=>D.v (.int q x)).map .d by simp,TW]
theorem P9{P:Program}{Γ:Ctx}{d:Option Tmp}{ty:TypeId}{pos:String}{af:Array Edge}{g:Option (Nat×Bool)}{f:Env}{σ:Ab}{nx:Nat}{t:TypeId}{x:Operand}{id k i j n:Nat}{T:TypeId}{rows:List (List C)}{r:List C}{c:C}[l:Eg P t false n](a:ev f x=some (.o (.ptr id k i j)))(e:look σ id=some (.cells T k rows))(b:rows[i]?=some r)(h:r[j]?=some c) :
 A6 P TB Γ ⟨d,.load t x,ty,pos,af,g⟩ f σ nx (.o c):=Zq a e b (show jE false n j r=some (.o c) by unfold jE;rw[h];rfl)
theorem UP{r:List Nat}:∀i,i<5->(0::1::2::3::4::r)[i]?=some i
 | 0,_|1,_|2,_|3,_|4,_=>rfl
 | n+5,h=>by omega
theorem YZ{a b:Nat}(ha:a<65536)(hb:b<65536):Gq .u16 (a:Int) (b:Int)=((a ||| b:Nat):Int):=by
 have d:a ||| b<2 ^ 16:=qF (by omega) (by omega);unfold Gq
 have c:(BitVec.ofInt IntKind.u16.bits (a:Int) ||| BitVec.ofInt IntKind.u16.bits (b:Int)).toNat=a ||| b:=by
  have e:IntKind.u16.bits=16:=rfl;rw[e];simp only[BitVec.toNat_or,BitVec.ofInt_natCast,BitVec.toNat_ofNat];rw[pp (by omega),pp (by omega)]
 rw[c];exact u16_in (by omega)
theorem Ze[Dl TB]{t:CP}(ht:Bc t=true)(m:GO){l:Int}(n:0<=l/\l<6){F:PS}(A:Dd t F):Spec Tryz.prog TB 114 (NI t m) 5 [.o (.ptr 0 14 0 0),jV F,eI .i64 l] (λx σ nx=>x=jV (WK t l F)/\σ=NI t m/\nx=5):=by
 have Q:AX t.s=true:=by unfold Bc at ht;simp only[d4]at ht;exact ht.1
 have ha:=CG ht;have R:=AJ ha;rw[<-dB A (by omega)];refine eR Tryz.func114 rfl (by kernel_rfl) rfl ?_;intro Γ c;(repeat first|refine tA rfl ?_|refine aU rfl ?_|apply Aa);apply aB;refine aL (α:={k:Nat // k<=12}) [0,2,6,7,11] [0,1,2,3,4,5] rfl rfl (λs=>[(12,eI .i64 s.1)]) (λs=>[(6,.cells 150 12 [Su (Ev t l F s.1)])]) 7 (λs=>12-s.1) (⟨0,by omega⟩) c rfl (by (simp[cX,zC,c,A8]<;>rfl)) ?_;rintro⟨k,hk⟩;(try dsimp only[cA,cB]);by_cases I:k<12
 ·have P:(Hx F)[((k:Nat):Int).toNat]?=some (F k:Int):=by rw[i7];exact J7 I
  have u:=A.lt k;(repeat first|refine s2 rfl λ_ i=>?_|refine aU rfl ?_|apply Aa)
  ((refine aC rfl ?_ ?_<;>rintro⟨⟩);all_goals try(exfalso;(simp only[oZ] at *;omega)))
  apply aK;refine aS (aB ?_);(repeat first|refine tA rfl ?_|refine s2 rfl λ_ i=>?_|(refine Ag rfl ?_;refine gA rfl ?_;first|refine gS (λ_ _=>Mw (l:=Hx F) rfl rfl rfl (by omega) P) ?_)|refine aU rfl ?_|apply Aa);(refine aC rfl ?_ ?_<;>rintro⟨⟩)
  ·have N:F k=0:=by (simp only[oZ] at *;omega)
   apply aE;(repeat first|(refine sA rfl ?_ ?_;first|exact tI|omega)|refine aU rfl ?_|apply Aa);refine⟨⟨k+1,by omega⟩,by dsimp only;(omega),[0,1,2,3,4,5,6],?_⟩;simp[cX,zC,c,A8,Sj N];exact UP
  ·have H:k<t.q.nx.length:=by
    rcases po k t.q.nx.length with K|K
    ·exact K
    ·have:=A.z k K;(simp only[oZ] at *;omega)
   have ta:=MH (a:=t.q) (q:=((k:Nat):Int).toNat) (by omega);have ra:=JC (h:=λl=>Cz t.q k l) n.1 n.2
   have el:((l.toNat:Nat):Int)=l:=by omega
   simp only[el]at ra;have J:=DH ha H n.1 n.2;have w:=ij (TB:=TB) Q n u;have y:=JD ht (l:=l) u;have G:=Zf ht (l:=l) A k
   obtain⟨g,M⟩:∃g:Nat,Cz t.q k l=g:=⟨(Cz t.q k l).toNat,by omega⟩
   rw[M]at ra J;apply aK;(repeat first|(refine sA rfl ?_ ?_;first|exact tI|omega)|(refine sC rfl (Np _ _) ?_;intro _ i)|(refine Ag rfl ?_;refine gA rfl ?_;first|refine gS (λ_ _=>TR rfl (IntWalk.i64_in _ (by omega))) ?_)|refine aU rfl ?_|apply Aa)
   have ej:0+((g:Nat):Int).toNat*1=g:=by omega
   have L:(Su (Ev t l F k))[0+((g:Nat):Int).toNat*1]?=some (.d (.v (.int .u16 (Ev t l F k g:Int)))):=by rw[ej];exact O7 (by omega)
   have f:=YZ (G g) y
   have B:Ev t l F (k+1)=λp':Nat=>if p'=g then Ev t l F k g ||| DC t.s l (F k) else Ev t l F k p':=by
    rw[JX,M];funext p';by_cases e:p'=g
    ·subst e;simp
    ·rw[if_neg e,if_neg (by omega)]
   have b:=Zp (F:=Ev t l F k) (p:=g) (by omega) (v:=Ev t l F k g ||| DC t.s l (F k));rw[<-B]at b;(refine aC rfl ?_ ?_<;>rintro⟨⟩)
   ·have hb:AZ t.s.al l.toNat=true:=by simpa[hasB,n.1]using i
    have j:DC t.s l (F k)=Cv t.s.es l (F k):=by unfold DC;rw[if_pos hb]
    rw[<-j]at w;(repeat first|(refine sA rfl ?_ ?_;first|exact tI|omega)|(refine s4 rfl ‹_› rfl ?_ ?_;omega)|refine sP rfl (w) rfl ?_|refine aU rfl ?_|apply Aa);(repeat first|(refine sA rfl ?_ ?_;first|exact tI|omega)|(refine Ag rfl ?_;refine gA rfl ?_;first|refine gS (λ_ _=>ET rfl ra) ?_|refine gQ (P9 rfl rfl rfl L) rfl ?_|refine gS (λ_ _=>TR rfl (u16_in y)) ?_|refine gS (λ_ _=>ka rfl rfl f) ?_));(refine Ag rfl ?_;refine Ia ?_ rfl (by rfl);refine EB (r:=Su (Ev t l F k)) rfl rfl rfl rfl rfl rfl (by show 0+((g:Nat):Int).toNat*1+1<=12;omega) ?_);apply Aa;(repeat first|(refine sA rfl ?_ ?_;first|exact tI|omega)|refine aU rfl ?_|apply Aa);refine⟨⟨k+1,by omega⟩,by dsimp only;(omega),[0,1,2,3,4,5,6],?_⟩;simp[cX,zC,c,A8,f];exact⟨UP,by simpa[Ae]using b⟩
   ·have hb:AZ t.s.al l.toNat=false:=by simpa[hasB,n.1]using i
    have j:DC t.s l (F k)=F k:=by unfold DC;rw[if_neg (by simp[hb])]
    rw[j]at f b;apply aK;(repeat first|(refine sA rfl ?_ ?_;first|exact tI|omega)|(refine s4 rfl ‹_› rfl ?_ ?_;omega)|(refine Ag rfl ?_;refine gA rfl ?_;first|refine gS (λ_ _=>ET rfl ra) ?_|refine gQ (P9 rfl rfl rfl L) rfl ?_|refine gS (λ_ _=>TR rfl (u16_in u)) ?_|refine gS (λ_ _=>ka rfl rfl f) ?_)|refine aU rfl ?_);(refine Ag rfl ?_;refine Ia ?_ rfl (by rfl);refine EB (r:=Su (Ev t l F k)) rfl rfl rfl rfl rfl rfl (by show 0+((g:Nat):Int).toNat*1+1<=12;omega) ?_);apply Aa;(repeat first|(refine sA rfl ?_ ?_;first|exact tI|omega)|refine aU rfl ?_|apply Aa);refine⟨⟨k+1,by omega⟩,by dsimp only;(omega),[0,1,2,3,4,5,6],?_⟩;simp[cX,zC,c,A8,f];exact⟨UP,by simpa[Ae]using b⟩
 ·obtain rfl:k=12:=by omega
  (repeat first|refine s2 rfl λ_ i=>?_|refine aU rfl ?_|apply Aa)
  ((refine aC rfl ?_ ?_<;>rintro⟨⟩);all_goals try(exfalso;(simp only[oZ] at *;omega)))
  apply aE;(repeat first|refine tA rfl ?_|refine aU rfl ?_|apply Aa);refine aR ⟨_,rfl,[0,1,2,3,4],jV (Ev t l F 12),NI t m,⟨UP,by decide⟩,rfl,by (simp[cX,zC,c,A8]),rfl,rfl,rfl⟩
def Ja(t:CP)(F:PS)(ls:List Int):PS:=λp=>ls.foldl (λa l=>a ||| WK t l F p) (F p)
def Mj(A B:PS)(k:Nat):PS:=λp=>if p<k then A p ||| B p else A p
theorem aW{A B:PS}{k:Nat}:Mj A B (k+1)=λp=>if p=k then Mj A B k k ||| B k else Mj A B k p:=by
 funext p;unfold Mj;by_cases e:p=k
 ·subst e;simp
 ·by_cases h:p<k
  ·rw[if_pos (by omega),if_neg e,if_pos h]
  ·rw[if_neg (by omega),if_neg e,if_neg h]
theorem cr{t:CP}{F:PS}{ls:List Int}{l:Int}:Ja t F (ls++[l])=λp=>Ja t F ls p ||| WK t l F p:=by
 funext p;unfold Ja;rw[rv];rfl
theorem Zm{α:Type}{g:α->Nat}{j:Nat}:∀ {l:List α} {a:Nat},(l.foldl (λa x=>a ||| g x) a).testBit j=true↔a.testBit j=true\/∃x∈l,(g x).testBit j=true
 | [],a=>by simp
 | x::l,a=>by
  rw[p8,Zm,ql,o8];simp[or_assoc]
theorem HM{t:CP}{F:PS}{ls:List Int}{p j:Nat}:(Ja t F ls p).testBit j=true↔(F p).testBit j=true\/∃l∈ls,(WK t l F p).testBit j=true:=Zm
theorem YI{t:CP}(ht:Bc t=true){F:PS}(h:Dd t F){ls:List Int}(d:∀l∈ls,0<=l/\l<6):Dd t (Ja t F ls):=by
 refine⟨λp=>JP λj e=>?_,λp c=>HR λj=>?_⟩
 ·rcases HM.1 e with a|⟨l,a,b⟩
  ·exact Mf (h.lt p) a
  ·exact Mf ((Lg ht (d l a) h).lt p) b
 ·cases hb:(Ja t F ls p).testBit j
  ·rfl
  ·rcases HM.1 hb with a|⟨l,a,b⟩
   ·rw[h.z p c]at a;simp at a
   ·rw[(Lg ht (d l a) h).z p c]at b;simp at b
theorem sub_le{a b:Nat}(h:∀j,a.testBit j=true->b.testBit j=true):a<=b:=by
 have:a ||| b=b:=qm λj=>by
  rw[ql];cases ha:a.testBit j
  ·simp
  ·simp[h j ha]
 rw[<-this];exact Nat.left_le_or
def OJ(F:PS):Nat:=(65535-F 0)+(65535-F 1)+(65535-F 2)+(65535-F 3)+(65535-F 4)+(65535-F 5)+(65535-F 6)+(65535-F 7)+(65535-F 8)+(65535-F 9)+(65535-F 10)+(65535-F 11)
theorem Zb{F G:PS}(j:∀p,F p<65536)(a:∀p,G p<65536)(h:∀p,F p<=G p)(b:Hx G≠Hx F):OJ G<OJ F:=by
 have k:¬OJ F<=OJ G:=λc=>b (Sv λp i=>by
  have K:=h 0;have J:=h 1;have I:=h 2;have H:=h 3;have B:=h 4;have A:=h 5;have z:=h 6;have y:=h 7;have x:=h 8;have w:=h 9;have g:=h 10;have f:=h 11;have v:=a 0;have u:=a 1;have t:=a 2;have s:=a 3;have r:=a 4;have q:=a 5;have o:=a 6;have n:=a 7;have m:=a 8;have l:=a 9;have e:=a 10;have d:=a 11;unfold OJ at c
  obtain rfl|rfl|rfl|rfl|rfl|rfl|rfl|rfl|rfl|rfl|rfl|rfl:p=0\/p=1\/p=2\/p=3\/p=4\/p=5\/p=6\/p=7\/p=8\/p=9\/p=10\/p=11:=by omega
  all_goals omega)
 omega
theorem iz{F:PS}(h:∀p,F p<65536):∀x∈Hx F,(Lit.int .u16 x).wf=true:=λx a=>by
 have:∃p,x=(F p:Int):=by
  unfold Hx at a;simp only[o3,rY,or_false]at a
  rcases a with h|h|h|h|h|h|h|h|h|h|h|h<;>exact⟨_,h⟩
 obtain⟨p,rfl⟩:=this;have:=h p;simp[Lit.wf,IntKind.min,IntKind.max,IntKind.signed,IntKind.bits];omega
section
variable {t:CP}(ht:Bc t=true)
include ht
theorem cu{F0 F:PS}(c:∀p j,(F p).testBit j=true->QQ t F0 p j){p j:Nat}(h:(Ja t F (Cu t) p).testBit j=true):QQ t F0 p j:=by
 rcases HM.1 h with a|⟨l,b,a⟩
 ·exact c p j a
 ·obtain⟨q,m,d,hb⟩:=Ml.1 a
  unfold DC at hb;rw[if_pos (CS ht b).2.2]at hb;obtain⟨e,f,⟨k,i⟩,g⟩:=Eb.1 hb;subst k;have:=QQ.step (c q _ i) f b rfl;rw[d,g]at this
  simpa using this
theorem ZZ{F0 F:PS}(k:Dd t F0)(g:Dd t F)(i:∀p j,(F0 p).testBit j=true->(F p).testBit j=true)(h:∀p j,(F p).testBit j=true->QQ t F0 p j)(f:Ja t F (Cu t)=F):F=Td t F0:=
 cM ht k g.z i h λp l j b c d=>by
  have a:=CS ht c;have e:=DH (CG ht) b a.1 a.2.1;rw[<-f];refine HM.2 (.inr ⟨l,c,Ml.2 ⟨p,b,by omega,?_⟩⟩);unfold DC;rw[if_pos a.2.2];exact d
end
theorem UB[Dl TB]{t:CP}(ht:Bc t=true)(m:GO){F0:PS}(J:Dd t F0):Spec Tryz.prog TB 112 (NI t m) 5 [.o (.ptr 0 14 0 0),jV F0] (λx σ nx=>x=jV (Td t F0)/\σ=NI t m/\nx=5):=by
 have hah:=AJ (CG ht)
 have X:(Cu t).length<=6:=by
  unfold Cu;have K:(Ac t.s.al).length<=6:=AM _ _;exact lm (qv _ _) K
 refine eR Tryz.func112 rfl (by kernel_rfl) rfl ?_;intro Γ c;(repeat first|refine aU rfl ?_);(refine pW rfl ?_ rfl (by rfl);refine Dm rfl rfl ?_);(repeat first|refine tM rfl ?_|apply Aa);apply aB;refine aL (α:={F:PS // Dd t F/\(∀p j,(F0 p).testBit j=true->(F p).testBit j=true)/\∀p j,(F p).testBit j=true->QQ t F0 p j}) [0,3,4] [0,1,2,3,4,6] rfl rfl (λs=>[]) (λs=>[(5,.cells 150 12 [Su s.1])]) 7 (λs=>OJ s.1) (⟨F0,J,λ_ _ h=>h,λ_ _ h=>.base h⟩) c rfl (by (simp[cX,zC,c,A8]<;>rfl)) ?_;rintro⟨F,f,K,T⟩;(try dsimp only[cA,cB]);have f:Dd t F:=f;apply aB;(repeat first|refine sN rfl ?_|refine tA rfl ?_|refine aU rfl ?_|apply Aa);apply aB;refine aL (α:={k:Nat // k<=(Cu t).length}) [0,3,4,5,14,15] [0,1,2,3,4,5,6] rfl rfl (λs=>[(16,eI .i64 s.1)]) (λs=>[(7,.cells 150 12 [Su (Ja t F ((Cu t).take s.1))])]) 8 (λs=>(Cu t).length-s.1) (⟨0,by omega⟩) c rfl (by (simp[cX,zC,c,A8]<;>rfl)) ?_;rintro⟨k,hk⟩;(try dsimp only[cA,cB]);by_cases Q:k<(Cu t).length
 ·obtain⟨l,u⟩:=get_some Q
  have g:=CS ht (co u)
  have Y:((Cu t).map Bs)[((k:Nat):Int).toNat]?=some (Bs l):=by rw[i7];simp[u]
  have I:∀x∈(Cu t).take k,0<=x/\x<6:=λx B=>by
   have:=CS ht (pb B);omega
  have y:=YI ht f I;have hG:=Lg ht (l:=l) ⟨g.1,g.2.1⟩ f
  have M:Ja t F ((Cu t).take (k+1))=λp=>Ja t F ((Cu t).take k) p ||| WK t l F p:=by rw[d8,u];exact cr
  have P:=Ze (TB:=TB) ht m (l:=l) ⟨g.1,g.2.1⟩ f;generalize Ja t F ((Cu t).take k)=A at *;generalize WK t l F=G at *;(repeat first|refine s2 rfl λ_ e=>?_|refine aU rfl ?_|apply Aa)
  ((refine aC rfl ?_ ?_<;>rintro⟨⟩);all_goals try(exfalso;(simp only[oZ] at *;omega)))
  apply aK;refine aS (aB ?_);(repeat first|refine tA rfl ?_|(refine s4 rfl ‹_› rfl ?_ ?_;omega)|refine aU rfl ?_|apply Aa);(refine pW rfl ?_ rfl (by rfl);refine Ai [0,1,2,3,4] rfl rfl (P) ⟨rfl,by decide,by decide⟩ rfl (by simp[cX,zC,c,A8]) ?_;rintro x0 U V ⟨rfl,rfl,rfl⟩ _);(repeat first|refine tA rfl ?_);apply Aa;apply aB;refine aL (α:={p:Nat // p<=12}) [0,3,4,5,14,15,16,23] [0,1,2,3,4,5,6] rfl rfl (λs=>[(24,eI .i64 s.1)]) (λs=>[(7,.cells 150 12 [Su (Mj A G s.1)])]) 8 (λs=>12-s.1) (⟨0,by omega⟩) c rfl (by (simp[cX,zC,c,A8]<;>rfl)) ?_;rintro⟨p,R⟩;(try dsimp only[cA,cB]);by_cases n:p<12
  ·have B:(Hx G)[((p:Nat):Int).toNat]?=some (G p:Int):=by rw[i7];exact J7 n
   have ej:0+((p:Nat):Int).toNat*1=p:=by omega
   have q:Mj A G p p<65536:=by
    unfold Mj;rw[if_neg (by omega)];exact y.lt p
   have w:(Su (Mj A G p))[0+((p:Nat):Int).toNat*1]?=some (.d (.v (.int .u16 (Mj A G p p:Int)))):=by rw[ej];exact O7 n
   have L:=YZ q (hG.lt p);have i:=Zp (F:=Mj A G p) (p:=p) n (v:=Mj A G p p ||| G p);rw[<-aW]at i;(repeat first|refine s2 rfl λ_ e=>?_|refine aU rfl ?_|apply Aa)
   ((refine aC rfl ?_ ?_<;>rintro⟨⟩);all_goals try(exfalso;(simp only[oZ] at *;omega)))
   apply aK;refine aS (aB ?_);(repeat first|(refine sA rfl ?_ ?_;first|exact tI|omega)|(refine Ag rfl ?_;refine gA rfl ?_;first|refine gS (λ_ _=>Mw (l:=Hx G) rfl rfl rfl (by omega) B) ?_|refine gQ (P9 rfl rfl rfl w) rfl ?_)|refine aU rfl ?_|apply Aa);(refine Ag rfl ?_;refine Ia ?_ rfl (by rfl);refine EB (r:=Su (Mj A G p)) rfl rfl rfl rfl rfl rfl (by show 0+((p:Nat):Int).toNat*1+1<=12;omega) ?_);apply Aa;(repeat first|(refine sA rfl ?_ ?_;first|exact tI|omega)|refine aU rfl ?_|apply Aa);refine⟨⟨p+1,by omega⟩,by dsimp only;(omega),[0,1,2,3,4,5,6,7],?_⟩;simp[cX,zC,c,A8,L];exact⟨UP,by simpa[Ae]using i⟩
  ·obtain rfl:p=12:=by omega
   have q:Hx (Mj A G 12)=Hx λp=>A p ||| G p:=Sv λp R=>by unfold Mj;rw[if_pos R]
   (repeat first|refine s2 rfl λ_ e=>?_|refine aU rfl ?_|apply Aa)
   ((refine aC rfl ?_ ?_<;>rintro⟨⟩);all_goals try(exfalso;(simp only[oZ] at *;omega)))
   apply aE;(repeat first|(refine sA rfl ?_ ?_;first|exact tI|omega)|refine aU rfl ?_|apply Aa);refine⟨⟨k+1,by omega⟩,by dsimp only;(omega),[0,1,2,3,4,5,6,7],?_⟩;simp[cX,zC,c,A8,M];exact⟨UP,congrArg (List.map _) q⟩
 ·obtain rfl:k=(Cu t).length:=by omega
  rw[io]
  have y:=YI ht f λx B=>by
   have:=CS ht B
   show 0<=x/\x<6
   omega
  (repeat first|refine s2 rfl λ_ e=>?_|refine aU rfl ?_|apply Aa)
  ((refine aC rfl ?_ ?_<;>rintro⟨⟩);all_goals try(exfalso;(simp only[oZ] at *;omega)))
  apply aE;(repeat first|refine tA rfl ?_|(refine Ag rfl ?_;refine gA rfl ?_;first|(refine gB (λ_ _=>lX (a:=Hx (Ja t F (Cu t))) (b:=Hx F) rfl rfl rfl rfl (iz y.lt) (iz f.lt)) ?_;intro _ e))|refine aU rfl ?_|apply Aa);(refine aC rfl ?_ ?_<;>rintro⟨⟩)
  ·have Z:Ja t F (Cu t)=F:=by
    have h3:Hx (Ja t F (Cu t))=Hx F:=by simpa using e
    have h4:=TP h3;funext p
    rcases po p 12 with S|S
    ·exact h4 p S
    ·rw[y.z p (by omega),f.z p (by omega)]
   rw[<-ZZ ht J f K T Z];(repeat first|refine tA rfl ?_|refine aU rfl ?_|apply Aa);refine aR ⟨_,rfl,[0,1,2,3,4],jV F,NI t m,⟨UP,by decide⟩,rfl,by (simp[cX,zC,c,A8]),rfl,rfl,rfl⟩
  ·have N:Hx (Ja t F (Cu t))≠Hx F:=by simpa using e
   have H:∀p,F p<=Ja t F (Cu t) p:=λp=>sub_le λj w=>HM.2 (.inl w);have hm:=Zb f.lt y.lt H N;apply aK;(repeat first|refine tA rfl ?_|refine aU rfl ?_|apply Aa);refine⟨⟨Ja t F (Cu t),y,λp j w=>HM.2 (.inl (K p j w)),λp j w=>cu ht T w⟩,by dsimp only;(omega),[0,1,2,3,4,5,6],?_⟩;simp[cX,zC,c,A8];exact⟨UP,rfl,rfl⟩
def EA{α:Type}(Q:α->Prop)(g:α->E)(x:E)(σ:Ab)(nx:Nat):Prop:=∃r,Q r/\x=g r/\σ=[]/\nx=0
theorem EY(n:Int):Spec Tryz.prog TB 209 [] 0 [eI .i64 n] (EA (λr:W=>r.length<=6) eT):=by
 have h:(Ac n).length<=6:=AM n 6;refine eR Tryz.func209 rfl (by kernel_rfl) rfl ?_;intro Γ b;(repeat first|refine tA rfl ?_|refine s2 rfl λ_ a=>?_|(refine sC rfl (DE n) ?_;intro _ a)|refine aU rfl ?_|apply Aa);(refine aC rfl ?_ ?_<;>rintro⟨⟩)
 ·(repeat first|refine tA rfl ?_|refine aU rfl ?_|apply Aa)
  refine aR ⟨_,rfl,[],eT [],[],⟨by intro i hi;omega,by decide⟩,rfl,trivial,[],by decide,rfl,rfl,rfl⟩
 apply aK;(repeat first|refine tA rfl ?_|refine s2 rfl λ_ a=>?_|refine aU rfl ?_|apply Aa);(refine aC rfl ?_ ?_<;>rintro⟨⟩)
 ·(repeat first|refine tA rfl ?_|refine aU rfl ?_|apply Aa)
  refine aR ⟨_,rfl,[],eT [45],[],⟨by intro i hi;omega,by decide⟩,rfl,trivial,[45],by decide,rfl,rfl,rfl⟩
 apply aK;(repeat first|refine tA rfl ?_|refine sP rfl (Cm n) rfl ?_|refine aU rfl ?_|apply Aa);apply aB;refine aL (α:={s:Nat×W // s.1<=(Ac n).length/\s.2.length=s.1}) [4] [] rfl rfl (λs=>[(3,eT s.1.2),(5,eI .i64 s.1.1)]) (λs=>[]) 0 (λs=>(Ac n).length-s.1.1) (⟨⟨0,[]⟩,by simp⟩) b rfl (by (simp[cX,zC,b])) ?_;rintro⟨⟨k,w⟩,hk,e⟩;(try dsimp only[cA,cB]);have hk:k<=(Ac n).length:=hk;have e:w.length=k:=e;(repeat first|refine sN rfl ?_|refine tA rfl ?_|refine s2 rfl λ_ a=>?_|refine aU rfl ?_|apply Aa)
 ((refine aC rfl ?_ ?_<;>rintro⟨⟩);all_goals try (simp at a;done))
 ·have c:k<(Ac n).length:=by (simp only[oZ] at *;omega)
  obtain⟨l,f⟩:=get_some (l:=Ac n) (k:=k) c;have j:=get_map (g:=Bs) f;have d:=Aj (co f);apply aK;refine aS (aB ?_);(repeat first|(refine sA rfl ?_ ?_;first|exact tI|omega|simp only[oZ] at *;omega)|(refine s4 rfl ‹_› rfl ?_ ?_;omega)|refine sP rfl (HX l d.1 (by omega)) rfl ?_|refine aU rfl ?_|apply Aa);refine⟨⟨⟨k+1,w++[UInt8.ofNat (97+l.toNat)]⟩,by dsimp only;omega,by simp;omega⟩,by dsimp only;(omega),[],?_⟩;(simp[cX,zC,b,cN]<;>rfl)
 ·apply aE
  (repeat first|refine tA rfl ?_|refine aU rfl ?_|apply Aa);refine aR ⟨_,rfl,[],eT w,[],⟨by intro i hi;omega,by decide⟩,rfl,trivial,w,by show w.length<=6;omega,rfl,rfl,rfl⟩
theorem HK(s:W):Spec Tryz.prog TB 168 [] 0 [eT s] (EA (λ_:Int×Bool=>True) (λr=>.t [(false,[.d (iD r.1)]),(false,[.d (bD r.2)])])):=by
 refine eR Tryz.func168 rfl (by kernel_rfl) rfl ?_;intro Γ a;(repeat first|refine tA rfl ?_|refine aU rfl ?_|apply Aa);apply aB;refine aL (α:={k:Nat // k<=64}) [0] [] rfl rfl (λs=>[(4,eI .i64 s.1)]) (λs=>[]) 0 (λs=>64-s.1) (⟨0,by omega⟩) a rfl (by (simp[cX,zC,a])) ?_;rintro⟨k,hk⟩;(try dsimp only[cA,cB]);(repeat first|refine tA rfl ?_|refine s2 rfl λ_ b=>?_|refine aU rfl ?_|apply Aa)
 ((refine aC rfl ?_ ?_<;>rintro⟨⟩);all_goals try (simp at b;done))
 ·have f:k<64:=by (simp only[oZ] at *;omega)
  apply aK;refine aS (aB ?_);(repeat first|refine tA rfl ?_|refine aU rfl ?_);(refine pW rfl ?_ rfl (by rfl);refine Ai [] rfl rfl (EY (TB:=TB) (k:Int)) ⟨rfl,by decide,by decide⟩ rfl trivial ?_;rintro g c e ⟨r,h,rfl,rfl,rfl⟩ _);(repeat first|refine tA rfl ?_|refine s2 rfl λ_ b=>?_|apply Aa);(refine aC rfl ?_ ?_<;>rintro⟨⟩)
  ·(repeat first|refine tA rfl ?_|refine aU rfl ?_|apply Aa)
   refine aR ⟨_,rfl,[],.t [(false,[.d (iD k)]),(false,[.d (bD true)])],[],⟨by intro i hi;omega,by decide⟩,rfl,trivial,(k,true),trivial,rfl,rfl,rfl⟩
  ·apply aK
   (repeat first|(refine sA rfl ?_ ?_;first|exact tI|omega)|refine aU rfl ?_|apply Aa);refine⟨⟨k+1,by omega⟩,by dsimp only;(omega),[],?_⟩;(simp[cX,zC,a,cN]<;>rfl)
 ·apply aE
  (repeat first|refine tA rfl ?_|refine aU rfl ?_|apply Aa);refine aR ⟨_,rfl,[],.t [(false,[.d (iD 0)]),(false,[.d (bD false)])],[],⟨by intro i hi;omega,by decide⟩,rfl,trivial,(0,false),trivial,rfl,rfl,rfl⟩
theorem Nt(a:W)(x:a.length<=1000000)(c:UInt8):Spec Tryz.prog TB 167 [] 0 [eT a,eI .u8 c.toNat] (EA (λr:List W=>1<=r.length/\r.length<=a.length+1/\∀w∈r,w.length<=a.length) BW):=by
  refine eR Tryz.func167 rfl (by kernel_rfl) rfl ?_;intro Γ b;(repeat first|refine tX rfl ?_|refine aU rfl ?_|apply Aa);(refine pW rfl ?_ rfl (by rfl);refine Bj rfl rfl rfl rfl (by simp) (by rfl) (by rfl) (by rfl) (by rfl) ?_);(repeat first|refine tX rfl ?_|refine aU rfl ?_|apply Aa);apply aB;refine aL (α:={z:Nat×Nat×List W // z.1<=a.length+1/\z.2.1<=z.1/\z.2.2.length<=z.1/\(z.1=a.length+1->1<=z.2.2.length)/\∀w∈z.2.2,w.length<=a.length}) [0,1] [] rfl rfl (λs=>[(5,.o (.arr 0 1 0 s.1.2.2.length)),(6,eI .i64 s.1.2.1),(7,eI .i64 s.1.1)]) (λs=>[(0,.cells 9 1 (s.1.2.2.map Ex))]) 1 (λs=>a.length+1-s.1.1) (⟨⟨0,0,[]⟩,by simp⟩) b rfl (by (simp[cX,zC,b])) ?_;rintro⟨⟨k,fr,r⟩,hk,t,g,d,n⟩;(try dsimp only[cA,cB]);have hk:k<=a.length+1:=hk;have t:fr<=k:=t;have g:r.length<=k:=g;have d:k=a.length+1->1<=r.length:=d;(repeat first|refine tA rfl ?_|refine s2 rfl λ_ j=>?_|refine aU rfl ?_|apply Aa)
  ((refine aC rfl ?_ ?_<;>rintro⟨⟩);all_goals try (simp at j;done))
  · have v:k<=a.length:=by (simp only[oZ] at *;omega)
    apply aK;refine aS (aB ?_)
    have q:k=a.length\/∃e,a[(k:Int).toNat]?=some e:=by
      rcases po k a.length with h|h
      · obtain⟨e,u⟩:=get_some (l:=a) (k:=(k:Int).toNat) (by omega)
        exact .inr ⟨e,u⟩
      · exact .inl (by omega)
    rcases q with q|⟨e,u⟩
    all_goals (repeat' first|refine tA rfl ?_|(refine s4 rfl ‹_› rfl ?_ ?_;omega)|refine s2 rfl λ_ j=>?_|(refine Ag rfl ?_;refine gA rfl ?_;first|refine gS (λ_ _=>TU rfl rfl rfl (by simp[Oh]) (by simp[Oh,Ob];omega) (by simp[Ob];omega)) ?_)|refine s3 rfl ?_ ?_<;>rintro rfl|refine aU rfl ?_|apply Aa|(refine aC rfl ?_ ?_<;>rintro⟨⟩))
    all_goals first
      | (exfalso;(simp only[oZ] at *;omega);done)
      | (apply aK
         (repeat first|(refine sA rfl ?_ ?_;first|exact tI|omega)|refine aU rfl ?_|apply Aa);refine⟨⟨⟨k+1,fr,r⟩,by dsimp only;omega,by dsimp only;omega,by dsimp only;omega,by dsimp only;intro y;exfalso;(simp only[oZ] at *;omega),n⟩,by dsimp only;(omega),[0],?_⟩;(simp[cX,zC,b,cN]<;>rfl)
         done)
      | ((refine pW rfl ?_ rfl (by rfl);refine Au rfl rfl rfl (by first|(simp;done)|(simp;(omega))) rfl (by intro r g;simp at g;subst g;rfl) (by rfl) (am rfl) (by simp;omega) ?_)
         (repeat first|(refine sA rfl ?_ ?_;first|exact tI|omega)|refine aU rfl ?_|apply Aa)
         have m:∀w∈r++[(a.take k).drop fr],w.length<=a.length:=λw f=>by
           rcases f6.1 f with f|f
           · exact n w f
           · simp at f;subst f;simp;omega
         refine⟨⟨⟨k+1,k+1,r++[(a.take k).drop fr]⟩,by dsimp only;omega,by dsimp only;omega,by simp;omega,by simp,m⟩,by dsimp only;(omega),[1],?_⟩
         (simp[cX,zC,b,cN,Oh,Ob]<;>rfl))
  · have p:k=a.length+1:=by (simp only[oZ] at *;omega)
    apply aE;(repeat first|refine tA rfl ?_|refine aU rfl ?_|apply Aa);refine Ak.settle [(4,BW r)] ⟨⟨_,rfl,.o (.full rfl (by simp[d5]) (by simp))⟩,trivial⟩ ?_;refine aR ⟨_,rfl,[],BW r,[],⟨by intro i hi;omega,by decide⟩,rfl,trivial,r,⟨d p,by omega,n⟩,rfl,rfl,rfl⟩
abbrev bV(r:Int×Bool):E:=.t [(false,[.d (iD r.1)]),(false,[.d (bD r.2)])]
theorem cJ{z:Int}(h:0<=z/\z<256):[[D.v (.int .u8 z)]]=[UInt8.ofNat z.toNat].map lf:=by
 have b:z.toNat%256=z.toNat:=pp (by omega)
 have a:((z.toNat:Nat):Int)=z:=by omega
 simp[lf,b,a]
theorem HW(n:Int)(j:0<=n/\n<100):Spec Tryz.prog TB 210 [] 0 [eI .i64 n] (EA (λr:W=>r.length<=3) eT):=by
 refine eR Tryz.func210 rfl (by kernel_rfl) rfl ?_;intro Γ b;(repeat first|refine tA rfl ?_|refine s2 rfl λ_ a=>?_|refine aU rfl ?_|apply Aa)
 ((refine aC rfl ?_ ?_<;>rintro⟨⟩);all_goals try (simp at a;done))
 ·exfalso;(simp only[oZ] at *;omega)
 apply aK;(repeat first|refine tA rfl ?_|refine s2 rfl λ_ a=>?_|refine aU rfl ?_|apply Aa)
 ((refine aC rfl ?_ ?_<;>rintro⟨⟩);all_goals try (simp at a;done))
 ·exfalso;(simp only[oZ] at *;omega)
 apply aK;(repeat first|refine tA rfl ?_|refine aU rfl ?_|apply Aa);apply aB;refine aL (α:={s:Int×W // (0<=s.1/\s.1<100)/\s.2.length<=2/\(9<s.1->s.2.length<=1)}) [] [] rfl rfl (λs=>[(0,eI .i64 s.1.1),(3,eT s.1.2)]) (λs=>[]) 0 (λs=>s.1.1.toNat) (⟨⟨n,[]⟩,by simp;omega⟩) b rfl (by (simp[cX,zC,b])) ?_;rintro⟨⟨q,w⟩,f,e,c⟩;(try dsimp only[cA,cB]);have f:0<=q/\q<100:=f;have e:w.length<=2:=e;have c:9<q->w.length<=1:=c;(repeat first|refine tA rfl ?_|refine s2 rfl λ_ a=>?_|refine aU rfl ?_|apply Aa)
 ((refine aC rfl ?_ ?_<;>rintro⟨⟩);all_goals try (simp at a;done))
 ·have d:9<q:=by (simp only[oZ] at *;omega)
  have g:=c d;apply aK;apply aB;(repeat first|(refine sA rfl ?_ ?_;first|exact tI|omega|simp only[oZ] at *;omega)|(refine Ag rfl ?_;refine gA rfl ?_;first|refine gS (λ_ _=>TV _ rfl (cJ (by omega))) ?_)|refine aU rfl ?_|apply Aa);refine⟨⟨⟨q / 10,[UInt8.ofNat (48+q%10).toNat]++w⟩,⟨by dsimp only;omega,by dsimp only;omega⟩,by simp;omega,λh=>by exfalso;dsimp only at h;omega⟩,by dsimp only;(omega),[],?_⟩;(simp[cX,zC,b,cN]<;>rfl)
 ·apply aE
  (repeat first|(refine sA rfl ?_ ?_;first|exact tI|omega|simp only[oZ] at *;omega)|(refine Ag rfl ?_;refine gA rfl ?_;first|refine gS (λ_ _=>TV _ rfl (cJ (by omega))) ?_)|refine aU rfl ?_|apply Aa);refine aR ⟨_,rfl,[],eT ([UInt8.ofNat (48+q).toNat]++w),[],⟨by intro i hi;omega,by decide⟩,rfl,trivial,[UInt8.ofNat (48+q).toNat]++w,by simp;omega,rfl,rfl,rfl⟩
theorem MI(k:Nat)(hk:k<17):(10 ^ (k+1):Nat)=10 ^ k*10/\(10 ^ k:Nat)<=100000000000000000:=⟨rR ..,lm (pK (by omega) (sL hk)) (by decide)⟩
theorem JT(s0:W)(z:s0.length<=1000000):Spec Tryz.prog TB 175 [] 0 [eT s0] (EA (λ_:Int×Bool=>True) bV):=by
  by_cases y:s0.length=0
  · refine eR Tryz.func175 rfl (by kernel_rfl) rfl ?_;intro Γ a
    (repeat' first|refine tA rfl ?_|refine s2 rfl λ_ b=>?_|(refine Ag rfl ?_;refine gA rfl ?_;first|refine gS (λ_ _=>EC rfl rfl (by omega) (by omega)) ?_)|refine s3 rfl ?_ ?_<;>rintro rfl|refine aU rfl ?_|apply Aa|(refine aC rfl ?_ ?_<;>rintro⟨⟩)|apply aK)
    all_goals first
      | (exfalso;(simp only[oZ] at *;omega);done)
      | refine aR ⟨_,rfl,[],bV (0,false),[],⟨by intro i hi;omega,by decide⟩,rfl,trivial,(0,false),trivial,rfl,rfl,rfl⟩
  obtain⟨c,A⟩:=get_some (l:=s0) (k:=(0:Int).toNat) (by simp;omega);have w:1<s0.length->∃d,(s0.drop (Int.toNat 1))[(0:Int).toNat]?=some d:=λh=>get_some (by simp;omega);have o:∀m:Nat,(s0.drop m).length=s0.length-m:=λm=>sS;by_cases x:s0.length=1
  · refine eR Tryz.func175 rfl (by kernel_rfl) rfl ?_;intro Γ a
    (repeat' first|refine tA rfl ?_|(refine s4 rfl ‹_› rfl ?_ ?_;omega)|refine s2 rfl λ_ b=>?_|(refine Ag rfl ?_;refine gA rfl ?_;first|refine gS (λ_ _=>EC rfl rfl (by omega) (by omega)) ?_)|refine s3 rfl ?_ ?_<;>rintro rfl|refine aU rfl ?_|apply Aa|(refine aC rfl ?_ ?_<;>rintro⟨⟩)|apply aK)
    all_goals first
      | (exfalso;(simp only[oZ] at *;omega);done)
      | refine aR ⟨_,rfl,[],bV (0,false),[],⟨by intro i hi;omega,by decide⟩,rfl,trivial,(0,false),trivial,rfl,rfl,rfl⟩
      | (exfalso;simp only[oZ,o] at *;omega)
      | skip
    · have g:(s0).length<=17:=by omega
      apply aB;refine aL (α:={s:Nat×Int // s.1<=(s0).length/\0<=s.2/\s.2<((10 ^ s.1:Nat):Int)}) [0,4] [] rfl rfl (λs=>[(5,eI .i64 s.1.2),(6,eI .i64 s.1.1)]) (λs=>[]) 0 (λs=>(s0).length-s.1.1) (⟨⟨0,0⟩,by simp⟩) a rfl (by (simp[cX,zC,a])) ?_;rintro⟨⟨k,n⟩,hk,f,j⟩;(try dsimp only[cA,cB]);have hk:k<=(s0).length:=hk;have f:0<=n:=f;have j:n<((10 ^ k:Nat):Int):=j;(repeat first|refine tA rfl ?_|refine s2 rfl λ_ b=>?_|refine aU rfl ?_|apply Aa)
      ((refine aC rfl ?_ ?_<;>rintro⟨⟩);all_goals try (simp at b;done))
      · have q:k<(s0).length:=by (simp only[oZ] at *;omega)
        obtain⟨e,u⟩:=get_some (l:=s0) (k:=(k:Int).toNat) (by omega);have r:=e.toNat_lt;obtain⟨p,t⟩:=MI k (by omega);apply aK;refine aS (aB ?_);(repeat' first|(refine sA rfl ?_ ?_;first|exact tI|omega|simp only[oZ] at *;omega)|(refine s4 rfl ‹_› rfl ?_ ?_;omega)|refine s2 rfl λ_ b=>?_|(refine Ag rfl ?_;refine gA rfl ?_;first|refine gS (λ_ _=>EC rfl rfl (by omega) (by omega)) ?_)|refine s3 rfl ?_ ?_<;>rintro rfl|refine aU rfl ?_|apply Aa|(refine aC rfl ?_ ?_<;>rintro⟨⟩)|apply aK)
        all_goals first
          | (exfalso;omega;done)
          | refine aR ⟨_,rfl,[],bV (0,false),[],⟨by intro i hi;omega,by decide⟩,rfl,trivial,(0,false),trivial,rfl,rfl,rfl⟩
          | (refine⟨⟨⟨k+1,n*10+((e.toNat:Int)-48)⟩,by dsimp only;omega,by dsimp only;(simp only[oZ] at *;omega),by dsimp only;rw[p];(simp only[oZ] at *;omega)⟩,by dsimp only;(omega),[],?_⟩
             (simp[cX,zC,a,cN]<;>rfl))
      · apply aE
        have v:(10 ^ k:Nat)<=100000000000000000:=lm (pK (by omega) (lm hk g)) (by decide);(repeat' first|refine tA rfl ?_|(refine Ag rfl ?_;refine gA rfl ?_;first|refine gS (λ_ _=>VA rfl (IntWalk.i64_in _ (by omega))) ?_)|refine aU rfl ?_|apply Aa|(refine aC rfl ?_ ?_<;>rintro⟨⟩)|apply aK);exact aR ⟨_,rfl,[],bV (n,true),[],⟨λi hi=>absurd hi (lc i),lw⟩,rfl,trivial,(n,true),trivial,rfl,rfl,rfl⟩
    · have g:(s0).length<=17:=by omega
      apply aB;refine aL (α:={s:Nat×Int // s.1<=(s0).length/\0<=s.2/\s.2<((10 ^ s.1:Nat):Int)}) [0,4] [] rfl rfl (λs=>[(5,eI .i64 s.1.2),(6,eI .i64 s.1.1)]) (λs=>[]) 0 (λs=>(s0).length-s.1.1) (⟨⟨0,0⟩,by simp⟩) a rfl (by (simp[cX,zC,a])) ?_;rintro⟨⟨k,n⟩,hk,f,j⟩;(try dsimp only[cA,cB]);have hk:k<=(s0).length:=hk;have f:0<=n:=f;have j:n<((10 ^ k:Nat):Int):=j;(repeat first|refine tA rfl ?_|refine s2 rfl λ_ b=>?_|refine aU rfl ?_|apply Aa)
      ((refine aC rfl ?_ ?_<;>rintro⟨⟩);all_goals try (simp at b;done))
      · have q:k<(s0).length:=by (simp only[oZ] at *;omega)
        obtain⟨e,u⟩:=get_some (l:=s0) (k:=(k:Int).toNat) (by omega);have r:=e.toNat_lt;obtain⟨p,t⟩:=MI k (by omega);apply aK;refine aS (aB ?_);(repeat' first|(refine sA rfl ?_ ?_;first|exact tI|omega|simp only[oZ] at *;omega)|(refine s4 rfl ‹_› rfl ?_ ?_;omega)|refine s2 rfl λ_ b=>?_|(refine Ag rfl ?_;refine gA rfl ?_;first|refine gS (λ_ _=>EC rfl rfl (by omega) (by omega)) ?_)|refine s3 rfl ?_ ?_<;>rintro rfl|refine aU rfl ?_|apply Aa|(refine aC rfl ?_ ?_<;>rintro⟨⟩)|apply aK)
        all_goals first
          | (exfalso;omega;done)
          | refine aR ⟨_,rfl,[],bV (0,false),[],⟨by intro i hi;omega,by decide⟩,rfl,trivial,(0,false),trivial,rfl,rfl,rfl⟩
          | (refine⟨⟨⟨k+1,n*10+((e.toNat:Int)-48)⟩,by dsimp only;omega,by dsimp only;(simp only[oZ] at *;omega),by dsimp only;rw[p];(simp only[oZ] at *;omega)⟩,by dsimp only;(omega),[],?_⟩
             (simp[cX,zC,a,cN]<;>rfl))
      · apply aE
        have v:(10 ^ k:Nat)<=100000000000000000:=lm (pK (by omega) (lm hk g)) (by decide);(repeat' first|refine tA rfl ?_|(refine Ag rfl ?_;refine gA rfl ?_;first|refine gS (λ_ _=>VA rfl (IntWalk.i64_in _ (by omega))) ?_)|refine aU rfl ?_|apply Aa|(refine aC rfl ?_ ?_<;>rintro⟨⟩)|apply aK);exact aR ⟨_,rfl,[],bV (n,true),[],⟨λi hi=>absurd hi (lc i),lw⟩,rfl,trivial,(n,true),trivial,rfl,rfl,rfl⟩
  obtain⟨d,w⟩:=w (by omega);refine eR Tryz.func175 rfl (by kernel_rfl) rfl ?_;intro Γ a;(repeat' first|refine tA rfl ?_|(refine s4 rfl ‹_› rfl ?_ ?_;omega)|refine s2 rfl λ_ b=>?_|(refine Ag rfl ?_;refine gA rfl ?_;first|refine gS (λ_ _=>EC rfl rfl (by omega) (by omega)) ?_)|refine s3 rfl ?_ ?_<;>rintro rfl|refine aU rfl ?_|apply Aa|(refine aC rfl ?_ ?_<;>rintro⟨⟩)|apply aK)
  all_goals first
    | (exfalso;(simp only[oZ] at *;omega);done)
    | refine aR ⟨_,rfl,[],bV (0,false),[],⟨by intro i hi;omega,by decide⟩,rfl,trivial,(0,false),trivial,rfl,rfl,rfl⟩
    | (exfalso;simp only[oZ,o] at *;omega)
    | skip
  · have g:(List.drop (Int.toNat 1) s0).length<=17:=by (simp only[oZ] at *;omega)
    apply aB;refine aL (α:={s:Nat×Int // s.1<=(List.drop (Int.toNat 1) s0).length/\0<=s.2/\s.2<((10 ^ s.1:Nat):Int)}) [0,4] [] rfl rfl (λs=>[(5,eI .i64 s.1.2),(6,eI .i64 s.1.1)]) (λs=>[]) 0 (λs=>(List.drop (Int.toNat 1) s0).length-s.1.1) (⟨⟨0,0⟩,by simp⟩) a rfl (by (simp[cX,zC,a])) ?_;rintro⟨⟨k,n⟩,hk,f,j⟩;(try dsimp only[cA,cB]);have hk:k<=(List.drop (Int.toNat 1) s0).length:=hk;have f:0<=n:=f;have j:n<((10 ^ k:Nat):Int):=j;(repeat first|refine tA rfl ?_|refine s2 rfl λ_ b=>?_|refine aU rfl ?_|apply Aa)
    ((refine aC rfl ?_ ?_<;>rintro⟨⟩);all_goals try (simp at b;done))
    · have q:k<(List.drop (Int.toNat 1) s0).length:=by (simp only[oZ] at *;omega)
      obtain⟨e,u⟩:=get_some (l:=List.drop (Int.toNat 1) s0) (k:=(k:Int).toNat) (by omega);have r:=e.toNat_lt;obtain⟨p,t⟩:=MI k (by omega);apply aK;refine aS (aB ?_);(repeat' first|(refine sA rfl ?_ ?_;first|exact tI|omega|simp only[oZ] at *;omega)|(refine s4 rfl ‹_› rfl ?_ ?_;omega)|refine s2 rfl λ_ b=>?_|(refine Ag rfl ?_;refine gA rfl ?_;first|refine gS (λ_ _=>EC rfl rfl (by omega) (by omega)) ?_)|refine s3 rfl ?_ ?_<;>rintro rfl|refine aU rfl ?_|apply Aa|(refine aC rfl ?_ ?_<;>rintro⟨⟩)|apply aK)
      all_goals first
        | (exfalso;omega;done)
        | refine aR ⟨_,rfl,[],bV (0,false),[],⟨by intro i hi;omega,by decide⟩,rfl,trivial,(0,false),trivial,rfl,rfl,rfl⟩
        | (refine⟨⟨⟨k+1,n*10+((e.toNat:Int)-48)⟩,by dsimp only;omega,by dsimp only;(simp only[oZ] at *;omega),by dsimp only;rw[p];(simp only[oZ] at *;omega)⟩,by dsimp only;(omega),[],?_⟩
           (simp[cX,zC,a,cN]<;>rfl))
    · apply aE
      have v:(10 ^ k:Nat)<=100000000000000000:=lm (pK (by omega) (lm hk g)) (by decide);(repeat' first|refine tA rfl ?_|(refine Ag rfl ?_;refine gA rfl ?_;first|refine gS (λ_ _=>VA rfl (IntWalk.i64_in _ (by omega))) ?_)|refine aU rfl ?_|apply Aa|(refine aC rfl ?_ ?_<;>rintro⟨⟩)|apply aK);exact aR ⟨_,rfl,[],bV (-n,true),[],⟨λi hi=>absurd hi (lc i),lw⟩,rfl,trivial,(-n,true),trivial,rfl,rfl,rfl⟩
  · have g:(s0).length<=17:=by (simp only[oZ] at *;omega)
    apply aB;refine aL (α:={s:Nat×Int // s.1<=(s0).length/\0<=s.2/\s.2<((10 ^ s.1:Nat):Int)}) [0,4] [] rfl rfl (λs=>[(5,eI .i64 s.1.2),(6,eI .i64 s.1.1)]) (λs=>[]) 0 (λs=>(s0).length-s.1.1) (⟨⟨0,0⟩,by simp⟩) a rfl (by (simp[cX,zC,a])) ?_;rintro⟨⟨k,n⟩,hk,f,j⟩;(try dsimp only[cA,cB]);have hk:k<=(s0).length:=hk;have f:0<=n:=f;have j:n<((10 ^ k:Nat):Int):=j;(repeat first|refine tA rfl ?_|refine s2 rfl λ_ b=>?_|refine aU rfl ?_|apply Aa)
    ((refine aC rfl ?_ ?_<;>rintro⟨⟩);all_goals try (simp at b;done))
    · have q:k<(s0).length:=by (simp only[oZ] at *;omega)
      obtain⟨e,u⟩:=get_some (l:=s0) (k:=(k:Int).toNat) (by omega);have r:=e.toNat_lt;obtain⟨p,t⟩:=MI k (by omega);apply aK;refine aS (aB ?_);(repeat' first|(refine sA rfl ?_ ?_;first|exact tI|omega|simp only[oZ] at *;omega)|(refine s4 rfl ‹_› rfl ?_ ?_;omega)|refine s2 rfl λ_ b=>?_|(refine Ag rfl ?_;refine gA rfl ?_;first|refine gS (λ_ _=>EC rfl rfl (by omega) (by omega)) ?_)|refine s3 rfl ?_ ?_<;>rintro rfl|refine aU rfl ?_|apply Aa|(refine aC rfl ?_ ?_<;>rintro⟨⟩)|apply aK)
      all_goals first
        | (exfalso;omega;done)
        | refine aR ⟨_,rfl,[],bV (0,false),[],⟨by intro i hi;omega,by decide⟩,rfl,trivial,(0,false),trivial,rfl,rfl,rfl⟩
        | (refine⟨⟨⟨k+1,n*10+((e.toNat:Int)-48)⟩,by dsimp only;omega,by dsimp only;(simp only[oZ] at *;omega),by dsimp only;rw[p];(simp only[oZ] at *;omega)⟩,by dsimp only;(omega),[],?_⟩
           (simp[cX,zC,a,cN]<;>rfl))
    · apply aE
      have v:(10 ^ k:Nat)<=100000000000000000:=lm (pK (by omega) (lm hk g)) (by decide);(repeat' first|refine tA rfl ?_|(refine Ag rfl ?_;refine gA rfl ?_;first|refine gS (λ_ _=>VA rfl (IntWalk.i64_in _ (by omega))) ?_)|refine aU rfl ?_|apply Aa|(refine aC rfl ?_ ?_<;>rintro⟨⟩)|apply aK);exact aR ⟨_,rfl,[],bV (n,true),[],⟨λi hi=>absurd hi (lc i),lw⟩,rfl,trivial,(n,true),trivial,rfl,rfl,rfl⟩
inductive Reach (t:CP):PS->Prop
 | start:Reach t (CA t)
 | next {F:PS} {l:Int}:0<=l->l<6->Reach t F->Reach t (DA t l F)
theorem Reach.ok{t:CP}(ht:Bc t=true){F:PS}(h:Reach t F):Dd t F:=by
 induction h with
 | start=>exact GK ht
 | next c b _ a=>exact Mp ht ⟨c,b⟩ a
noncomputable def Hf(t:CP):PS->W->PS
 | F,[]=>F
 | F,c::w=>Hf t (DA t ((c.toNat:Int)-97) F) w
theorem Qo{t:CP}:∀(u v:W) (F:PS),Hf t F (u++v)=Hf t (Hf t F u) v
 | [],v,F=>rfl
 | c::u,v,F=>by simp only[qf,Hf];exact Qo u v _
def kN(t:CP)(ok:W->Prop)(F:PS):Prop:=F=CA t\/∃u v,ok (u++v)/\F=Hf t (CA t) u
def ky(t:CP)(ok:W->Prop):Prop:=∀l:List PS,l.Nodup->(∀F∈l,kN t ok F)->l.length<=1099511627776
structure IX (t:CP) (ok:W->Prop) (m:GO):Prop where
 l1:m.nx.length=m.F.length
 l2:m.un.length=m.F.length
 nd:m.F.Nodup
 rc:∀F∈m.F,Reach t F
 rk:∀F∈m.F,kN t ok F
 un:∀(i:Nat) F,m.F[i]?=some F->m.un[i]?=some (Fy t F)
 nx:∀(i:Nat) F,m.F[i]?=some F->∃r:List Int,m.nx[i]?=some r/\r.length=6/\∀l:Nat,l<6->∃x,r[l]?=some x/\(x<0\/∃j:Nat,x=j/\m.F[j]?=some (DA t l F))
def Ji(t:CP)(m:GO)(G:PS):GO:=⟨m.F++[G],m.nx++[[-1,-1,-1,-1,-1,-1]],m.un++[Fy t G]⟩
theorem iP{t:CP}(ht:Bc t=true){F G:PS}(c:Dd t F)(b:Dd t G)(h:Hx F=Hx G):F=G:=by
 have d:=TP h;have e:=AJ (CG ht);funext p
 rcases po p 12 with a|a
 ·exact d p a
 ·rw[c.z p (by omega),b.z p (by omega)]
theorem Tz{l:List PS}{p:List Int×Int}:p∈Rv l↔∃(i:Nat) (F:PS),l[i]?=some F/\p=(Hx F,(i:Int)):=by
 unfold Rv;rw[d9];constructor
 ·rintro⟨⟨F,i⟩,h,rfl⟩
  exact⟨i,F,se.1 h,rfl⟩
 ·rintro⟨i,F,h,rfl⟩
  exact⟨(F,i),se.2 h,rfl⟩
theorem gu(l:List PS)(G:PS):Rv (l++[G])=Rv l++[(Hx G,(l.length:Int))]:=by
 unfold Rv;rw[List.zipIdx_append];simp
theorem dA{t:CP}(ht:Bc t=true){l:List PS}(g:l.Nodup)(f:∀F∈l,Reach t F):(Rv l).Pairwise (λa b=>a.1≠b.1):=by
 unfold Rv;rw[qE,o7];intro i j e d c;simp only[List.length_zipIdx]at e d;simp only[List.getElem_zipIdx];intro h;have:=iP ht ((f _ (pz e)).ok ht) ((f _ (pz d)).ok ht) h;exact o7.1 g i j e d c this
theorem dy{t:CP}(ht:Bc t=true){l:List PS}(a:∀F∈l,Reach t F):RI 12 .u16 (Rv l):=λp b=>by
 obtain⟨i,F,c,rfl⟩:=Tz.1 b;exact⟨rfl,iz ((a F (co c)).ok ht).lt⟩
theorem aw{t:CP}(ht:Bc t=true){l:List PS}(f:l.Nodup)(c:∀F∈l,Reach t F){G:PS}(j:Dd t G){v:Int}(h:Ei (Rv l) (Hx G)=some v):∃k:Nat,v=k/\l[k]?=some G:=by
 have:∃p∈Rv l,p.1=Hx G:=by
  refine Classical.byContradiction λg=>?_;have m:Ei (Rv l) (Hx G)=none:=Iz.2 λp a b=>g ⟨p,a,b⟩;rw[m]at h;cases h
 obtain⟨p,a,b⟩:=this;have e:=Nk (dA ht f c) a;rw[b,h]at e;obtain⟨i,F,d,rfl⟩:=Tz.1 a;have:=iP ht ((c F (co d)).ok ht) j b;subst this;exact⟨i,by injection e,d⟩
theorem av{l:List PS}{G:PS}(h:Ei (Rv l) (Hx G)=none):G∉l:=λb=>by
 obtain⟨i,hi,a⟩:=pk b;exact Iz.1 h (Hx G,(i:Int)) (Tz.2 ⟨i,G,by rw[d6 hi,a],rfl⟩) rfl
theorem LJ{α:Type}{l:List α}{a x:α}{i:Nat}(h:l[i]?=some x):(l++[a])[i]?=some x:=by
 rw[f9 (ce.1 h).1];exact h
theorem Uu{α:Type}{l:List α}{a x:α}{i:Nat}(h:(l++[a])[i]?=some x):l[i]?=some x\/i=l.length/\x=a:=by
 rcases po i l.length with b|b
 ·rw[f9 b]at h;exact .inl h
 ·rw[gc b]at h
  have d:i-l.length<1:=(ce.1 h).1
  have c:i=l.length:=by simp at d;omega
  subst c;simp at h;exact .inr ⟨rfl,h.symm⟩
theorem YG{t:CP}{ok:W->Prop}{m:GO}(d:IX t ok m){G:PS}(k:Reach t G)(hk:kN t ok G)(h:G∉m.F):IX t ok (Ji t m G):=by
 refine⟨by simp[Ji,d.l1],by simp[Ji,d.l2],?_,?_,?_,?_,?_⟩
 ·show (m.F++[G]).Nodup
  rw[qD];exact⟨d.nd,by simp,λa ha b hb=>by simp at hb;subst hb;intro e;subst e;exact h ha⟩
 ·intro F c
  rcases f6.1 c with c|c
  ·exact d.rc F c
  ·simp at c;subst c;exact k
 ·intro F c
  rcases f6.1 c with c|c
  ·exact d.rk F c
  ·simp at c;subst c;exact hk
 ·intro i F c
  rcases Uu c with f|⟨f,rfl⟩
  ·exact LJ (d.un i F f)
  ·subst f;show (m.un++[Fy t F])[m.F.length]?=_;rw[<-d.l2];simp
 ·intro i F c
  rcases Uu c with f|⟨f,rfl⟩
  ·obtain⟨r,v,u,s⟩:=d.nx i F f
   refine⟨r,LJ v,u,λl g=>?_⟩;obtain⟨x,q,p⟩:=s l g;refine⟨x,q,p.imp id ?_⟩;rintro⟨j,o,n⟩;exact⟨j,o,LJ n⟩
  ·refine⟨[-1,-1,-1,-1,-1,-1],by subst f;show (m.nx++_)[m.F.length]?=_;rw[<-d.l1];simp,rfl,λl g=>⟨-1,?_,.inl (by omega)⟩⟩
   obtain rfl|rfl|rfl|rfl|rfl|rfl:l=0\/l=1\/l=2\/l=3\/l=4\/l=5:=by omega
   all_goals rfl
def HQ(t:CP)(F:PS)(k:Nat):Bool:=(List.range k).any λp=>decide (F p≠0) && !(t.q.ac.getD p false)
theorem KN{t:CP}{F:PS}{k:Nat}:HQ t F (k+1)=(HQ t F k || (decide (F k≠0) && !(t.q.ac.getD k false))):=by
 unfold HQ;rw[qz,sU];simp
theorem ZY{t:CP}{F:PS}(h:Dd t F)(b:t.q.nx.length<=12):HQ t F 12=Fy t F:=by
 have key:∀k,HQ t F (t.q.nx.length+k)=HQ t F t.q.nx.length:=λk=>by
  induction k with
  | zero=>rfl
  | succ k a=>rw[<-pu,KN,a,h.z _ (by omega)];simp
 have:=key (12-t.q.nx.length);rw[show t.q.nx.length+(12-t.q.nx.length)=12 by omega]at this;rw[this];rfl
section
variable {P:Program}{Γ:Ctx}{d:Option Tmp}{ty:TypeId}{pos:String}{af:Array Edge}{g:Option (Nat×Bool)}{f:Env}{σ:Ab}{nx:Nat}{t:TypeId}{n:Nat}{q:IntKind}{m e:TypeId}{x y:Operand}{id:Nat}{l:List (List Int×Int)}{s:List Int}
theorem ep{v:Int}[A:Lw P m t e][h:GM P t n q][z:RH P e (.int .i64 0)](k:Ei l s=some v)(i:ev f x=some (.o (.mp id)))(c:ev f y=some (gi q s))(r:look σ id=some (.mp (mapA q l)))
 (u:RI n q l) (w:l.Pairwise (λa b=>a.1≠b.1)) (p:s.length=n) (j:∀x∈s,(Lit.int q x).wf=true) :
 A6 P TB Γ ⟨d,.lookup m x y true,ty,pos,af,g⟩ f σ nx (.t [(false,[.d (.v (.int .i64 v))]),(false,[.d (.v (.bool true))])]):=by
 have:=Zs (P:=P) (TB:=TB) (Γ:=Γ) (d:=d) (ty:=ty) (pos:=pos) (af:=af) (g:=g) (nx:=nx) (t:=t) (m:=m) (e:=e) i c r u w p j;rw[k]at this;exact this
theorem eo[A:Lw P m t e][h:GM P t n q][z:RH P e (.int .i64 0)](k:Ei l s=none)(i:ev f x=some (.o (.mp id)))(c:ev f y=some (gi q s))(r:look σ id=some (.mp (mapA q l)))
 (u:RI n q l) (w:l.Pairwise (λa b=>a.1≠b.1)) (p:s.length=n) (j:∀x∈s,(Lit.int q x).wf=true) :
 A6 P TB Γ ⟨d,.lookup m x y true,ty,pos,af,g⟩ f σ nx (.t [(false,[.d (.v (.int .i64 0))]),(false,[.d (.v (.bool false))])]):=by
 have:=Zs (P:=P) (TB:=TB) (Γ:=Γ) (d:=d) (ty:=ty) (pos:=pos) (af:=af) (g:=g) (nx:=nx) (t:=t) (m:=m) (e:=e) i c r u w p j;rw[k]at this;exact this
end
theorem cx{t:CP}{ok:W->Prop}(ht:Bc t=true){m:GO}(h:IX t ok m)(H:m.F.length<=1099511627776){G:PS}(u:Dd t G):∃(m':GO) (k:Nat),((m'=m/\m.F[k]?=some G)\/(m'=Ji t m G/\k=m.F.length/\G∉m.F))/\
 AR Tryz.prog TB 111 1 (NI t m) 5 [.o (.ptr 0 14 0 0),jV G] (λx σ nx=>x=eI .i64 (k:Int)/\σ=NI t m'/\nx=5):=by
 have L:=AJ (CG ht);have f:=dA ht h.nd h.rc;have j:=dy ht h.rc;have e:=iz u.lt
 cases n:Ei (Rv m.F) (Hx G) with
 | some v=>
  obtain⟨k,rfl,hk⟩:=aw ht h.nd h.rc u n;refine⟨m,k,.inl ⟨rfl,hk⟩,?_⟩;refine AR.Bi (AR.Sq (m:=1) (am rfl) Tryz.func111 rfl (by kernel_rfl) (am rfl) ?_);intro Γ a;(repeat first|refine tA rfl ?_|refine aU rfl ?_|apply Aa);refine rG (Hm []) (by kernel_rfl) ?_;(repeat first|refine tA rfl ?_|(refine Ag rfl ?_;refine gA rfl ?_;first|refine gQ (ep (s:=Hx G) (l:=Rv m.F) n rfl rfl rfl j f rfl e) rfl ?_)|refine aU rfl ?_|apply Aa);(refine aC rfl ?_ ?_<;>rintro⟨⟩);(repeat first|refine tA rfl ?_|refine aU rfl ?_|apply Aa);refine aR ⟨_,rfl,[0,1,2,3,4],eI .i64 (k:Int),NI t m,⟨by intro i hi;match i with|0=>rfl,by decide⟩,rfl,by (simp[cX,zC,a,A8]),rfl,rfl,rfl⟩
 | none =>
  refine⟨Ji t m G,m.F.length,.inr ⟨rfl,rfl,av n⟩,?_⟩;have N:=h.l1;have M:=h.l2;have A:=gu m.F G;refine AR.Bi (AR.Sq (m:=1) (am rfl) Tryz.func111 rfl (by kernel_rfl) (am rfl) ?_);intro Γ a;(repeat first|refine tA rfl ?_|refine aU rfl ?_|apply Aa);refine rG (Hm []) (by kernel_rfl) ?_;(repeat first|refine tA rfl ?_|(refine Ag rfl ?_;refine gA rfl ?_;first|refine gQ (eo (s:=Hx G) (l:=Rv m.F) n rfl rfl rfl j f rfl e) rfl ?_)|refine aU rfl ?_|apply Aa);(refine aC rfl ?_ ?_<;>rintro⟨⟩);apply aK;(repeat first|refine tA rfl ?_|refine aU rfl ?_|apply Aa);refine rG (Hm [6]) (by kernel_rfl) ?_;(repeat first|refine tA rfl ?_);(refine Ag rfl ?_;refine Ia ?_ rfl (by rfl);refine jJ (s:=Hx G) (l:=Rv m.F) rfl rfl rfl rfl j f rfl e n ?_);rw[<-A];apply Aa;(repeat first|refine aU rfl ?_);refine rG (KC [(4,0),(7,1),(10,1)]) (by kernel_rfl) ?_;(repeat first|refine tA rfl ?_);(refine pW rfl ?_ rfl (by rfl);refine Au rfl rfl rfl (by first|(simp;done)|(simp;(omega))) rfl (by intro r d;simp at d;subst d;rfl) (by rfl) (am rfl) (by simp;omega) ?_);(repeat first|refine tA rfl ?_|refine aU rfl ?_|apply Aa);(repeat first|refine tA rfl ?_|(refine Ag rfl ?_;refine gA rfl ?_;first|refine gS (λ_ _=>AG rfl rfl (by rfl) (by rfl)) ?_));(refine pW rfl ?_ rfl (by rfl);refine Au rfl rfl rfl (by first|(simp;done)|(simp;(omega))) rfl (by intro r d;simp at d;subst d;rfl) (by rfl) (am rfl) (by simp;omega) ?_);(repeat first|refine tA rfl ?_|refine aU rfl ?_|apply Aa);refine Ak.Ay [0,7,8,53,54] [] rfl rfl [] [(0,.cells 89 14 [eX t (.arr 1 12 0 (Ji t m G).F.length) (.mp 2) (.arr 3 6 0 (Ji t m G).nx.length) (.arr 4 1 0 m.un.length)]),(1,.cells 150 12 ((Ji t m G).F.map Su)),(2,.mp (mapA .u16 (Rv (Ji t m G).F))),(3,.cells 94 6 ((Ji t m G).nx.map Sp)),(4,.cells 4 1 (m.un.map AU))] [0,5,2,6,4] (rl a rfl) (by (simp[cX,zC,a,A8,Ji]<;>rfl)) ?_;(try dsimp only[cA,cB]);apply aB;refine aL (α:={k:Nat // k<=12}) [0,7,53] [0,1,2,3,4] rfl rfl (λs=>[(8,eB (HQ t G s.1)),(54,eI .i64 s.1)]) (λs=>[]) 5 (λs=>12-s.1) (⟨0,by omega⟩) a rfl (by (simp[cX,zC,a,A8]<;>rfl)) ?_;rintro⟨k,hk⟩;(try dsimp only[cA,cB]);by_cases w:k<12
  ·have B:(Hx G)[((k:Nat):Int).toNat]?=some (G k:Int):=by rw[i7];exact J7 w
   have p:=KN (t:=t) (F:=G) (k:=k);generalize HQ t G k=P at *;by_cases J:k<t.q.nx.length
   ·obtain⟨b,hb⟩:=get_some (l:=t.q.ac) (k:=((k:Nat):Int).toNat) (by omega)
    have K:=get_map (g:=Jj) hb
    have y:t.q.ac.getD k false=b:=by rw[i7]at hb;simp[List.getD,hb]
    rw[y]at p;(repeat first|refine s2 rfl λ_ c=>?_|refine aU rfl ?_|apply Aa)
    ((refine aC rfl ?_ ?_<;>rintro⟨⟩);all_goals try(exfalso;(simp only[oZ] at *;omega)))
    apply aK;refine aS (aB ?_)
    (repeat' first|(refine sA rfl ?_ ?_;first|exact tI|omega)|(refine s4 rfl ‹_› rfl ?_ ?_;omega)|refine s2 rfl λ_ c=>?_|(refine Ag rfl ?_;refine gA rfl ?_;first|refine gS (λ_ _=>Mw (l:=Hx G) rfl rfl rfl (by omega) B) ?_)|refine s3 rfl ?_ ?_<;>rintro rfl|refine aU rfl ?_|apply Aa|(refine aC rfl ?_ ?_<;>rintro⟨⟩));all_goals try contradiction
    all_goals ((try apply aK);refine⟨⟨k+1,by omega⟩,by dsimp only;(omega),[0,1,2,3,4],?_⟩;simp only[decide_eq_true_eq,decide_eq_false_iff_not] at *;simp[cX,zC,a,A8,p];try (simp_all;done))
   ·have I:=u.z k (by omega)
    rw[I]at p;(repeat first|refine s2 rfl λ_ c=>?_|refine aU rfl ?_|apply Aa)
    ((refine aC rfl ?_ ?_<;>rintro⟨⟩);all_goals try(exfalso;(simp only[oZ] at *;omega)))
    apply aK;refine aS (aB ?_)
    (repeat' first|(refine sA rfl ?_ ?_;first|exact tI|omega)|refine s2 rfl λ_ c=>?_|(refine Ag rfl ?_;refine gA rfl ?_;first|refine gS (λ_ _=>Mw (l:=Hx G) rfl rfl rfl (by omega) B) ?_)|refine s3 rfl ?_ ?_<;>rintro rfl|refine aU rfl ?_|apply Aa|(refine aC rfl ?_ ?_<;>rintro⟨⟩));all_goals try contradiction
    all_goals first|(exfalso;(simp only[oZ] at *;omega);done)|skip
    all_goals ((try apply aK);refine⟨⟨k+1,by omega⟩,by dsimp only;(omega),[0,1,2,3,4],?_⟩;simp[cX,zC,a,A8,p];try (simp_all;done))
  ·obtain rfl:k=12:=by omega
   rw[ZY u (by omega)];(repeat first|refine s2 rfl λ_ c=>?_|refine aU rfl ?_|apply Aa)
   ((refine aC rfl ?_ ?_<;>rintro⟨⟩);all_goals try(exfalso;(simp only[oZ] at *;omega)))
   apply aE;(repeat first|refine tA rfl ?_|refine aU rfl ?_);(refine pW rfl ?_ rfl (by rfl);refine Au rfl rfl rfl (by first|(simp;done)|(simp;(omega))) rfl (by intro r d;simp at d;subst d;rfl) (by rfl) (am rfl) (by simp;omega) ?_);(repeat first|refine tA rfl ?_|refine aU rfl ?_|apply Aa);refine aR ⟨_,rfl,[0,1,2,3,5],eI .i64 (m.F.length:Int),NI t (Ji t m G),⟨by intro i hi;match i with|0=>rfl,by decide⟩,rfl,by (simp[cX,zC,a,A8,Ji]),rfl,rfl,rfl⟩
abbrev mM(r:List Int×Bool):E:=.t [(false,[.d (Fp r.1)]),(false,[.d (bD r.2)])]
theorem Xt(e:W)(v:e.length<=1000000):Spec Tryz.prog TB 169 [] 0 [eT e] (EA (λr:List Int×Bool=>r.1.length<=e.length+1) mM):=by
 refine eR Tryz.func169 rfl (by kernel_rfl) rfl ?_;intro Γ a;(repeat first|refine tX rfl ?_|refine aU rfl ?_|apply Aa);(refine pW rfl ?_ rfl (by rfl);refine Bj rfl rfl rfl rfl (by simp) (by rfl) (by rfl) (by rfl) (by rfl) ?_);(repeat first|refine tX rfl ?_|refine s2 rfl λ_ b=>?_|refine aU rfl ?_|apply Aa);(refine aC rfl ?_ ?_<;>rintro⟨⟩)
 ·(repeat first|refine tX rfl ?_|refine aU rfl ?_|apply Aa)
  refine Ak.settle [(2,Al []),(3,eB true)] ⟨⟨_,rfl,.o (.full rfl (by simp) (by simp))⟩,⟨_,rfl,.o .d⟩,trivial⟩ ?_;exact aR ⟨_,rfl,[],mM ([],true),[],⟨λi hi=>absurd hi (lc i),lw⟩,rfl,trivial,([],true),pH _,rfl,rfl,rfl⟩
 apply aK;(repeat first|refine tA rfl ?_|refine aU rfl ?_);(refine pW rfl ?_ rfl (by rfl);refine Ai [] rfl rfl (Nt (TB:=TB) e v 44) ⟨rfl,by decide,by decide⟩ rfl trivial ?_;rintro q f h ⟨ps,⟨y,x,j⟩,rfl,rfl,rfl⟩ _);(repeat first|refine tA rfl ?_|refine aU rfl ?_|apply Aa);apply aB;refine aL (α:={z:Nat×List Int // z.1<=ps.length/\z.2.length=z.1}) [5] [] rfl rfl (λs=>[(4,.o (.arr 0 1 0 s.1.2.length)),(6,eI .i64 s.1.1)]) (λs=>[(0,.cells 3 1 (s.1.2.map AD))]) 1 (λs=>ps.length-s.1.1) (⟨⟨0,[]⟩,by simp⟩) a rfl (by (simp[cX,zC,a])) ?_;rintro⟨⟨k,r⟩,hk,c⟩;(try dsimp only[cA,cB]);have hk:k<=ps.length:=hk;have c:r.length=k:=c;(repeat first|refine sN rfl ?_|refine tA rfl ?_|refine s2 rfl λ_ b=>?_|refine aU rfl ?_|apply Aa)
 ((refine aC rfl ?_ ?_<;>rintro⟨⟩);all_goals try (simp at b;done))
 ·have m:k<ps.length:=by (simp only[oZ] at *;omega)
  obtain⟨w,p⟩:=get_some (l:=ps) (k:=k) m;have u:=get_map (g:=CX) p;have t:=j w (co p);apply aK;refine aS (aB ?_);(repeat first|refine tA rfl ?_|(refine s4 rfl ‹_› rfl ?_ ?_;omega)|refine aU rfl ?_);(refine pW rfl ?_ rfl (by rfl);refine Ai [] rfl rfl (JT (TB:=TB) w (by omega)) ⟨rfl,by decide,by decide⟩ rfl trivial ?_;rintro q f h ⟨⟨n,ok⟩,_,rfl,rfl,rfl⟩ _);(repeat first|refine tA rfl ?_|refine s2 rfl λ_ b=>?_|refine aU rfl ?_|apply Aa);(refine aC rfl ?_ ?_<;>rintro⟨⟩)
  ·(repeat first|refine tA rfl ?_|refine aU rfl ?_|apply Aa)
   exact aR ⟨_,rfl,[],mM ([],false),[],⟨λi hi=>absurd hi (lc i),lw⟩,rfl,trivial,([],false),pH _,rfl,rfl,rfl⟩
  apply aK;(repeat first|refine tA rfl ?_|refine aU rfl ?_);(refine pW rfl ?_ rfl (by rfl);refine Au rfl rfl rfl (by first|(simp;done)|(simp;(omega))) rfl (by intro r c;simp at c;subst c;rfl) (by rfl) (am rfl) (by simp;omega) ?_);(repeat first|(refine sA rfl ?_ ?_;first|exact tI|omega)|refine aU rfl ?_|apply Aa);refine⟨⟨⟨k+1,r++[n]⟩,by dsimp only;omega,by simp;omega⟩,by dsimp only;(omega),[1],?_⟩;(simp[cX,zC,a,cN]<;>rfl)
 ·apply aE
  (repeat first|refine tA rfl ?_|refine aU rfl ?_|apply Aa);refine Ak.settle [(2,Al r),(3,eB true)] ⟨⟨_,rfl,.o (.full rfl (by simp[d5]) (by simp))⟩,⟨_,rfl,.o .d⟩,trivial⟩ ?_;exact aR ⟨_,rfl,[],mM (r,true),[],⟨λi hi=>absurd hi (lc i),lw⟩,rfl,trivial,(r,true),by show r.length<=_;omega,rfl,rfl,rfl⟩
end Go.Am
namespace Go.Am
theorem OX{α:Type}{l:List α}{k:Nat}{x d:α}(h:l[k]?=some x):l.getD k d=x:=by rw[pU,h];rfl
def fA(a:AY)(q l:Int):Int:=Cz a q.toNat l
def WQ(a:AY)(q:Int):Bool:=a.ac.getD q.toNat false
theorem mN{a:AY}(h:ZS a){q:Nat}(f:q<a.nx.length){l:Int}(j:0<=l)(i:l<6):0<=Cz a q l/\Cz a q l<a.nx.length:=by
 obtain⟨row,e,g,d⟩:=h.2 q f;unfold Cz;split
 ·rename_i hb
  have b:(AI a.al l.toNat).length<row.length:=by rw[g];exact ID (by omega) hb
  obtain⟨y,c⟩:=get_some b;have:=d _ y c
  simpa[List.getD,e,c]using this
 ·omega
theorem SA{a:AY}:∀(w:List Int) (q:Int),(∀l∈w,l∈Ac a.al)->DL (fA a) q w=FG a q (C5 w)
 | [],q,_=>rfl
 | l::w,q,h=>by
  have c:=Aj (h l (by simp));have e:FG a q (C5 (l::w))=FG a (Cz a q.toNat (((lb l).toNat:Int)-97)) (C5 w):=rfl;rw[e,Nw c.1 (by omega)];exact SA w _ λm b=>h m (by simp[b])
theorem aN{s l:Int}(h:l∈Ac s):(Ac s)[(AI s l.toNat).length]?=some l:=by
 obtain⟨k,hk⟩:=rB.1 h;rw[FO hk];exact hk
theorem eP{n:Int}{row:List Int}{k:Nat}(b:row.length=k)(h:∀(i:Nat) y,row[i]?=some y->0<=y/\y<n):Ft k n row=true:=by
 unfold Ft;rw[d4,f7];refine⟨by simp[b],λx a=>?_⟩;obtain⟨i,hi⟩:=rB.1 a;have:=h i x hi;unfold RD;exact decide_eq_true this
theorem mJ{a:AY}(h:ZS a)(j:1<=a.nx.length)(i:a.nx.length<=12)(hal:Bb a.al=true)(e:a.ac.length=a.nx.length):AE a=true:=by
 unfold AE;rw[hal,decide_eq_true (⟨j,i⟩:1<=a.nx.length/\a.nx.length<=12),decide_eq_true e];simp only[ph];rw[f7];intro row d;obtain⟨q,c⟩:=rB.1 d;obtain⟨row',b,g,f⟩:=h.2 q (ce.1 c).1
 rw[c]at b;injection b with b;subst b
 exact eP g f
end Go.Am
namespace Go.Am
open Go Go.Proofs
set_option maxHeartbeats 1000000
set_option maxRecDepth 4000
attribute [local irreducible] A6 CC Lex Bz Ak Spec
variable {TB:BJ}
end Go.Am
