/-
  The safety of a task in memory; its step: walked.
-/
import Derived.Test.YtohfiindiidcfaaGreatDoorPart25
import Derived.Test.YtohfiindiidcfaaGreatDoorPart22
set_option linter.all false
namespace Go.Am
open Go Go.Proofs
set_option maxHeartbeats 1000000
set_option maxRecDepth 4000
attribute [local irreducible] A6 Cz Lex Bv Aj Spec
variable {TB:BF}
def Hr(F:PS):List Int:=[(F 0:Nat),(F 1:Nat),(F 2:Nat),(F 3:Nat),(F 4:Nat),(F 5:Nat),(F 6:Nat),(F 7:Nat),(F 8:Nat),(F 9:Nat),(F 10:Nat),(F 11:Nat)]
abbrev RO(F:PS):List C:=nt .u16 (Hr F)
abbrev jz(F:PS):E:=fJ .u16 (Hr F)
theorem JI{F:PS}{p:Nat}(h:p < 12):(Hr F)[p]? = some (F p:Int):=by
 obtain rfl|rfl|rfl|rfl|rfl|rfl|rfl|rfl|rfl|rfl|rfl|rfl:p=0\/p=1\/p=2\/p=3\/p=4\/p=5\/p=6\/p=7\/p=8\/p=9\/p=10\/p=11:=by omega
 all_goals rfl
theorem OC{F:PS}{p:Nat}(h:p < 12):(RO F)[p]? = some (.d (.v (.int .u16 (F p:Int)))):=by simp [JI h]
theorem RP{F G:PS}(h:∀p,p < 12->F p=G p):Hr F=Hr G:=by
 unfold Hr;rw [h 0 (by omega),h 1 (by omega),h 2 (by omega),h 3 (by omega),h 4 (by omega),h 5 (by omega),h 6 (by omega),h 7 (by omega),h 8 (by omega),h 9 (by omega),h 10 (by omega),h 11 (by omega)]
theorem Th{F G:PS}(h:Hr F=Hr G):∀p,p < 12->F p=G p:=λp a=>by
 have:=JI (F:=F) a;rw [h,JI a] at this
 injection this with this
 omega
theorem YT{F:PS}{p:Nat}(h:p < 12){v:Nat}:Ae (RO F) p [.d (.v (.int .u16 (v:Int)))]=RO λi=>if i=p then v else F i:=by
 have b:(RO F).length=12:=by simp [Hr]
 rw [ID (by omega)];apply px;intro i;rw [rK];by_cases hi:i < 12
 ·rw [OC hi,OC hi]
  by_cases e:p=i
  ·subst e;rw [if_pos rfl,if_pos (by omega),if_pos rfl]
  ·rw [if_neg e,if_neg (λh=>e h.symm)]
 ·have a:∀G:PS,(RO G)[i]? = none:=λG=>oa (by simp [Hr];omega)
  rw [a,a];by_cases e:p=i
  ·omega
  ·rw [if_neg e]
theorem u16_in{n:Nat}(h:n < 65536):IntKind.u16.wrap (n:Int)=n:=by
 unfold IntKind.wrap;simp [IntKind.bits,IntKind.signed,IntKind.min,IntKind.max];omega
instance:GD Tryz.prog 195 12 .u16:=⟨⟨193,⟨by kernel_rfl,by kernel_rfl,by kernel_rfl,by kernel_rfl⟩,by kernel_rfl⟩,by kernel_rfl,λh=>by
 have a:Nat.beq Tryz.prog.types.size 0=false:=by kernel_rfl
 rw [h] at a;cases a⟩
def Eh(t:CM)(l:Int)(F:PS)(k:Nat):PS:=λp':Nat=>(List.range k).foldl (λa p=>if CC t.q p l=(p':Int) then a ||| Dm t.s l (F p) else a) 0
theorem JE{t:CM}{l:Int}{F:PS}{k:Nat}:Eh t l F (k+1)=λp':Nat=>if CC t.q k l=(p':Int) then Eh t l F k p' ||| Dm t.s l (F k) else Eh t l F k p':=by
 funext p';unfold Eh;rw [pN,qB];rfl
theorem Xq{s:Sys}{l:Int}:Dm s l 0=0:=by
 unfold Dm;split
 ·exact HK λj=>by
   cases h:(Cq s.es l 0).testBit j
   ·rfl
   ·obtain⟨e,_,⟨_,a⟩,_⟩:=DO.1 h
    simp at a
 ·rfl
theorem RF{t:CM}{l:Int}{F:PS}{k:Nat}(h:F k=0):Eh t l F (k+1)=Eh t l F k:=by
 rw [JE];funext p';rw [h,Xq];split<;>simp
theorem cU{t:CM}{l:Int}{F:PS}(h:C1 t F)(b:t.q.nx.length<=12):Eh t l F 12=VT t l F:=by
 have key:∀k,Eh t l F (t.q.nx.length+k)=Eh t l F t.q.nx.length:=λk=>by
  induction k with
  | zero=>rfl
  | succ k a=>rw [<-oI,RF (h.z _ (by omega)),a]
 have:=key (12 - t.q.nx.length);rw [show t.q.nx.length+(12 - t.q.nx.length)=12 by omega] at this;rw [this];rfl
theorem YI{t:CM}(ht:Bg t=true){l:Int}{F:PS}(h:C1 t F)(k p:Nat):Eh t l F k p < 65536:=by
 induction k with
 | zero=>simp [Eh]
 | succ k a=>
  rw [JE];simp only;have b:=Jo ht (l:=l) (h.lt k);split
  ·have:=pT (n:=16) a b;omega
  ·exact a
structure GG where
 F:List PS
 nx:List (List Int)
 un:List Bool
abbrev RK(r:List Int):List C:=r.map λx=>.d (iD x)
def QF(F:List PS):List (List Int×Int):=F.zipIdx.map λx=>(Hr x.1,(x.2:Int))
abbrev eb(t:CM)(a b c d:C):List C:=[.d (iD t.s.al),.d (iD t.s.st),.d (Eu t.s.es),.d (iD t.q.al),.d (CZ t.q.nx),.d (Fc t.q.ac),.d (iD t.al),.ip (FU t.s.es),.d (.l (Hb t.q)),.d (Fe (Cv t)),a,b,c,d]
abbrev Nk(t:CM)(m:GG):Ab:=[(0,.cells 191 14 [eb t (.arr 1 12 0 m.F.length) (.mp 2) (.arr 3 6 0 m.nx.length) (.arr 4 1 0 m.un.length)]),(1,.cells 195 12 (m.F.map RO)),(2,.mp (mapA .u16 (QF m.F))),(3,.cells 127 6 (m.nx.map RK)),(4,.cells 4 1 (m.un.map AV))]
theorem A9(r:Nat->Nat)(q:IntKind)(l:List Int):C.Cy r (l.map λx=>.d (.v (.int q x)))=l.map λx=>.d (.v (.int q x)):=by
 rw [show (l.map λx=>C.d (.v (.int q x)))=(l.map λx=>D.v (.int q x)).map .d by simp,Tr]
theorem PB{P:Program}{Γ:Ctx}{d:Option Tmp}{ty:TypeId}{pos:String}{af:Array Edge}{g:Option (Nat×Bool)}{f:Env}{σ:Ab}{nx:Nat}{t:TypeId}{x:Operand}{id k i j n:Nat}{T:TypeId}{rows:List (List C)}{r:List C}{c:C}[l:DV P t false n](a:ev f x=some (.o (.ptr id k i j)))(e:look σ id=some (.cells T k rows))(b:rows[i]? = some r)(h:r[j]? = some c) :
 A6 P TB Γ ⟨d,.load t x,ty,pos,af,g⟩ f σ nx (.o c):=YU a e b (show jg false n j r=some (.o c) by unfold jg;rw [h];rfl)
theorem Uv{r:List Nat}:∀i,i < 5->(0::1::2::3::4::r)[i]? = some i
 | 0,_|1,_|2,_|3,_|4,_=>rfl
 | n+5,h=>by omega
theorem Yx{a b:Nat}(ha:a < 65536)(hb:b < 65536):Gw .u16 (a:Int) (b:Int)=((a ||| b:Nat):Int):=by
 have d:a ||| b < 2 ^ 16:=pT (by omega) (by omega);unfold Gw
 have c:(BitVec.ofInt IntKind.u16.bits (a:Int) ||| BitVec.ofInt IntKind.u16.bits (b:Int)).toNat=a ||| b:=by
  have e:IntKind.u16.bits=16:=rfl;rw [e];simp only [BitVec.toNat_or,BitVec.ofInt_natCast,BitVec.toNat_ofNat];rw [oH (by omega),oH (by omega)]
 rw [c];exact u16_in (by omega)
theorem YH[C8 TB]{t:CM}(ht:Bg t=true)(m:GG){l:Int}(n:0<=l/\l < 6){F:PS}(A:C1 t F):Spec Tryz.prog TB 196 (Nk t m) 5 [.o (.ptr 0 14 0 0),jz F,eI .i64 l] (λx σ nx=>x=jz (VT t l F)/\σ=Nk t m/\nx=5):=by
 have hs:AW t.s=true:=by unfold Bg at ht;simp only [d4] at ht;exact ht.1
 have ha:=CA ht;have P:=AG ha;rw [<-cU A (by omega)];refine eR Tryz.func196 rfl (by kernel_rfl) rfl ?_;intro Γ c;(repeat first|refine tA rfl ?_ |refine aU rfl ?_ |apply Aa);apply aB;refine aL (α:={k:Nat // k<=12}) [0,2,6,7,11] [0,1,2,3,4,5] rfl rfl (λs=>[(12,eI .i64 s.1)]) (λs=>[(6,.cells 195 12 [RO (Eh t l F s.1)])]) 7 (λs=>12 - s.1) (⟨0,by omega⟩) c rfl (by (simp[cX,zC,c,A9]<;>rfl)) ?_;rintro⟨k,hk⟩;(try dsimp only[cA,cB]);by_cases I:k < 12
 ·have N:(Hr F)[((k:Nat):Int).toNat]? = some (F k:Int):=by rw [io];exact JI I
  have u:=A.lt k;(repeat first|refine s2 rfl λ_ i=>?_ |refine aU rfl ?_ |apply Aa)
  ((refine aC rfl ?_ ?_<;>rintro⟨⟩);all_goals try(exfalso;(simp only[oZ] at *;omega)))
  apply aK;refine aS (aB ?_);(repeat first|refine tA rfl ?_ |refine s2 rfl λ_ i=>?_|(refine Af rfl ?_;refine gA rfl ?_;first| refine gS (λ_ _=>LX (l:=Hr F) rfl rfl rfl (by omega) N) ?_) |refine aU rfl ?_ |apply Aa);(refine aC rfl ?_ ?_<;>rintro⟨⟩)
  ·have M:F k=0:=by (simp only[oZ] at *;omega)
   apply aE;(repeat first|(refine sA rfl ?_ ?_;first|exact tI|omega) |refine aU rfl ?_ |apply Aa);refine⟨⟨k+1,by omega⟩,by dsimp only;(omega),[0,1,2,3,4,5,6],?_⟩;simp[cX,zC,c,A9,RF M];exact Uv
  ·have H:k < t.q.nx.length:=by
    rcases oK k t.q.nx.length with K|K
    ·exact K
    ·have:=A.z k K;(simp only[oZ] at *;omega)
   have ta:=JP (a:=t.q) (q:=((k:Nat):Int).toNat) (by omega);have ra:=HY (h:=λl=>CC t.q k l) n.1 n.2
   have el:((l.toNat:Nat):Int)=l:=by omega
   simp only [el] at ra;have J:=Ds ha H n.1 n.2;have w:=gK (TB:=TB) hs n u;have y:=Jo ht (l:=l) u;have G:=YI ht (l:=l) A k
   obtain⟨g,hg⟩:∃g:Nat,CC t.q k l=g:=⟨(CC t.q k l).toNat,by omega⟩
   rw [hg] at ra J;apply aK;(repeat first|(refine sA rfl ?_ ?_;first|exact tI|omega) |(refine sC rfl (Kv _ _) ?_;intro _ i)|(refine Af rfl ?_;refine gA rfl ?_;first| refine gS (λ_ _=>Tj rfl (IntWalk.i64_in _ (by omega))) ?_) |refine aU rfl ?_ |apply Aa)
   have ej:0+((g:Nat):Int).toNat*1=g:=by omega
   have L:(RO (Eh t l F k))[0+((g:Nat):Int).toNat*1]? = some (.d (.v (.int .u16 (Eh t l F k g:Int)))):=by rw [ej];exact OC (by omega)
   have f:=Yx (G g) y
   have B:Eh t l F (k+1)=λp':Nat=>if p'=g then Eh t l F k g ||| Dm t.s l (F k) else Eh t l F k p':=by
    rw [JE,hg];funext p';by_cases e:p'=g
    ·subst e;simp
    ·rw [if_neg e,if_neg (by omega)]
   have b:=YT (F:=Eh t l F k) (p:=g) (by omega) (v:=Eh t l F k g ||| Dm t.s l (F k));rw [<-B] at b;(refine aC rfl ?_ ?_<;>rintro⟨⟩)
   ·have hb:AY t.s.al l.toNat=true:=by simpa [hasB,n.1] using i
    have j:Dm t.s l (F k)=Cq t.s.es l (F k):=by unfold Dm;rw [if_pos hb]
    rw [<-j] at w;(repeat first|(refine sA rfl ?_ ?_;first|exact tI|omega) |(refine s4 rfl ‹_› rfl ?_ ?_;omega) |refine sP rfl (w) rfl ?_ |refine aU rfl ?_ |apply Aa);(repeat first|(refine sA rfl ?_ ?_;first|exact tI|omega)|(refine Af rfl ?_;refine gA rfl ?_;first| refine gS (λ_ _=>DQ rfl ra) ?_|refine gQ (PB rfl rfl rfl L) rfl ?_|refine gS (λ_ _=>Tj rfl (u16_in y)) ?_|refine gS (λ_ _=>jG rfl rfl f) ?_));(refine Af rfl ?_;refine HV ?_ rfl (by rfl);refine Eo (r:=RO (Eh t l F k)) rfl rfl rfl rfl rfl rfl (by show 0+((g:Nat):Int).toNat*1+1<=12;omega) ?_);apply Aa;(repeat first|(refine sA rfl ?_ ?_;first|exact tI|omega) |refine aU rfl ?_ |apply Aa);refine⟨⟨k+1,by omega⟩,by dsimp only;(omega),[0,1,2,3,4,5,6],?_⟩;simp[cX,zC,c,A9,f];exact⟨Uv,by simpa [Ae] using b⟩
   ·have hb:AY t.s.al l.toNat=false:=by simpa [hasB,n.1] using i
    have j:Dm t.s l (F k)=F k:=by unfold Dm;rw [if_neg (by simp [hb])]
    rw [j] at f b;apply aK;(repeat first|(refine sA rfl ?_ ?_;first|exact tI|omega) |(refine s4 rfl ‹_› rfl ?_ ?_;omega)|(refine Af rfl ?_;refine gA rfl ?_;first| refine gS (λ_ _=>DQ rfl ra) ?_|refine gQ (PB rfl rfl rfl L) rfl ?_|refine gS (λ_ _=>Tj rfl (u16_in u)) ?_|refine gS (λ_ _=>jG rfl rfl f) ?_) |refine aU rfl ?_);(refine Af rfl ?_;refine HV ?_ rfl (by rfl);refine Eo (r:=RO (Eh t l F k)) rfl rfl rfl rfl rfl rfl (by show 0+((g:Nat):Int).toNat*1+1<=12;omega) ?_);apply Aa;(repeat first|(refine sA rfl ?_ ?_;first|exact tI|omega) |refine aU rfl ?_ |apply Aa);refine⟨⟨k+1,by omega⟩,by dsimp only;(omega),[0,1,2,3,4,5,6],?_⟩;simp[cX,zC,c,A9,f];exact⟨Uv,by simpa [Ae] using b⟩
 ·obtain rfl:k=12:=by omega
  (repeat first|refine s2 rfl λ_ i=>?_ |refine aU rfl ?_ |apply Aa)
  ((refine aC rfl ?_ ?_<;>rintro⟨⟩);all_goals try(exfalso;(simp only[oZ] at *;omega)))
  apply aE;(repeat first|refine tA rfl ?_ |refine aU rfl ?_ |apply Aa);refine aR ⟨_,rfl,[0,1,2,3,4],jz (Eh t l F 12),Nk t m,⟨Uv,by decide⟩,rfl,by (simp[cX,zC,c,A9]),rfl,rfl,rfl⟩
def IQ(t:CM)(F:PS)(ls:List Int):PS:=λp=>ls.foldl (λa l=>a ||| VT t l F p) (F p)
def LG(A B:PS)(k:Nat):PS:=λp=>if p < k then A p ||| B p else A p
theorem ZZ{A B:PS}{k:Nat}:LG A B (k+1)=λp=>if p=k then LG A B k k ||| B k else LG A B k p:=by
 funext p;unfold LG;by_cases e:p=k
 ·subst e;simp
 ·by_cases h:p < k
  ·rw [if_pos (by omega),if_neg e,if_pos h]
  ·rw [if_neg (by omega),if_neg e,if_neg h]
theorem bG{t:CM}{F:PS}{ls:List Int}{l:Int}:IQ t F (ls++[l])=λp=>IQ t F ls p ||| VT t l F p:=by
 funext p;unfold IQ;rw [qB];rfl
theorem YQ{α:Type}{g:α->Nat}{j:Nat}:∀ {l:List α} {a:Nat},(l.foldl (λa x=>a ||| g x) a).testBit j=true↔a.testBit j=true\/∃x∈l,(g x).testBit j=true
 | [],a=>by simp
 | x::l,a=>by
  rw [pi,YQ,pC,og];simp [or_assoc]
theorem HF{t:CM}{F:PS}{ls:List Int}{p j:Nat}:(IQ t F ls p).testBit j=true↔(F p).testBit j=true\/∃l∈ls,(VT t l F p).testBit j=true:=YQ
theorem XT{t:CM}(ht:Bg t=true){F:PS}(h:C1 t F){ls:List Int}(d:∀l∈ls,0<=l/\l < 6):C1 t (IQ t F ls):=by
 refine⟨λp=>Jw λj e=>?_,λp c=>HK λj=>?_⟩
 ·rcases HF.1 e with a|⟨l,a,b⟩
  ·exact Lz (h.lt p) a
  ·exact Lz ((KF ht (d l a) h).lt p) b
 ·cases hb:(IQ t F ls p).testBit j
  ·rfl
  ·rcases HF.1 hb with a|⟨l,a,b⟩
   ·rw [h.z p c] at a;simp at a
   ·rw [(KF ht (d l a) h).z p c] at b;simp at b
theorem sub_le{a b:Nat}(h:∀j,a.testBit j=true->b.testBit j=true):a<=b:=by
 have:a ||| b=b:=pD λj=>by
  rw [pC];cases ha:a.testBit j
  ·simp
  ·simp [h j ha]
 rw [<-this];exact Nat.left_le_or
def Og(F:PS):Nat:=(65535 - F 0)+(65535 - F 1)+(65535 - F 2)+(65535 - F 3)+(65535 - F 4)+(65535 - F 5)+(65535 - F 6)+(65535 - F 7)+(65535 - F 8)+(65535 - F 9)+(65535 - F 10)+(65535 - F 11)
theorem YE{F G:PS}(j:∀p,F p < 65536)(a:∀p,G p < 65536)(h:∀p,F p<=G p)(b:Hr G≠Hr F):Og G < Og F:=by
 have k:¬Og F<=Og G:=λc=>b (RP λp i=>by
  have K:=h 0;have J:=h 1;have I:=h 2;have H:=h 3;have B:=h 4;have A:=h 5;have z:=h 6;have y:=h 7;have x:=h 8;have w:=h 9;have g:=h 10;have f:=h 11;have v:=a 0;have u:=a 1;have t:=a 2;have s:=a 3;have r:=a 4;have q:=a 5;have o:=a 6;have n:=a 7;have m:=a 8;have l:=a 9;have e:=a 10;have d:=a 11;unfold Og at c
  obtain rfl|rfl|rfl|rfl|rfl|rfl|rfl|rfl|rfl|rfl|rfl|rfl:p=0\/p=1\/p=2\/p=3\/p=4\/p=5\/p=6\/p=7\/p=8\/p=9\/p=10\/p=11:=by omega
  all_goals omega)
 omega
theorem gY{F:PS}(h:∀p,F p < 65536):∀x∈Hr F,(Lit.int .u16 x).wf=true:=λx a=>by
 have:∃p,x=(F p:Int):=by
  unfold Hr at a;simp only [n8,q9,or_false] at a
  rcases a with h|h|h|h|h|h|h|h|h|h|h|h<;>exact⟨_,h⟩
 obtain⟨p,rfl⟩:=this;have:=h p;simp [Lit.wf,IntKind.min,IntKind.max,IntKind.signed,IntKind.bits];omega
section
variable {t:CM}(ht:Bg t=true)
include ht
theorem bH{F0 F:PS}(c:∀p j,(F p).testBit j=true->Ql t F0 p j){p j:Nat}(h:(IQ t F (Cv t) p).testBit j=true):Ql t F0 p j:=by
 rcases HF.1 h with a|⟨l,b,a⟩
 ·exact c p j a
 ·obtain⟨q,k,hg,hb⟩:=LJ.1 a
  unfold Dm at hb;rw [if_pos (DN ht b).2.2] at hb;obtain⟨e,d,⟨i,g⟩,f⟩:=DO.1 hb;subst i;have:=Ql.step (c q _ g) d b rfl;rw [hg,f] at this
  simpa using this
theorem ZA{F0 F:PS}(k:C1 t F0)(g:C1 t F)(i:∀p j,(F0 p).testBit j=true->(F p).testBit j=true)(h:∀p j,(F p).testBit j=true->Ql t F0 p j)(f:IQ t F (Cv t)=F):F=Sw t F0:=
 bT ht k g.z i h λp l j b c d=>by
  have a:=DN ht c;have e:=Ds (CA ht) b a.1 a.2.1;rw [<-f];refine HF.2 (.inr ⟨l,c,LJ.2 ⟨p,b,by omega,?_⟩⟩);unfold Dm;rw [if_pos a.2.2];exact d
end
theorem Uf[C8 TB]{t:CM}(ht:Bg t=true)(m:GG){F0:PS}(J:C1 t F0):Spec Tryz.prog TB 160 (Nk t m) 5 [.o (.ptr 0 14 0 0),jz F0] (λx σ nx=>x=jz (Sw t F0)/\σ=Nk t m/\nx=5):=by
 have hah:=AG (CA ht)
 have X:(Cv t).length<=6:=by
  unfold Cv;have K:(Ac t.s.al).length<=6:=AM _ _;exact lc (pI _ _) K
 refine eR Tryz.func160 rfl (by kernel_rfl) rfl ?_;intro Γ c;(repeat first|refine aU rfl ?_);(refine pW rfl ?_ rfl (by rfl);refine C9 rfl rfl ?_);(repeat first|refine tM rfl ?_ |apply Aa);apply aB;refine aL (α:={F:PS // C1 t F/\(∀p j,(F0 p).testBit j=true->(F p).testBit j=true)/\∀p j,(F p).testBit j=true->Ql t F0 p j}) [0,3,4] [0,1,2,3,4,6] rfl rfl (λs=>[]) (λs=>[(5,.cells 195 12 [RO s.1])]) 7 (λs=>Og s.1) (⟨F0,J,λ_ _ h=>h,λ_ _ h=>.base h⟩) c rfl (by (simp[cX,zC,c,A9]<;>rfl)) ?_;rintro⟨F,f,K,T⟩;(try dsimp only[cA,cB]);have f:C1 t F:=f;apply aB;(repeat first|refine sN rfl ?_ |refine tA rfl ?_ |refine aU rfl ?_ |apply Aa);apply aB;refine aL (α:={k:Nat // k<=(Cv t).length}) [0,3,4,5,14,15] [0,1,2,3,4,5,6] rfl rfl (λs=>[(16,eI .i64 s.1)]) (λs=>[(7,.cells 195 12 [RO (IQ t F ((Cv t).take s.1))])]) 8 (λs=>(Cv t).length - s.1) (⟨0,by omega⟩) c rfl (by (simp[cX,zC,c,A9]<;>rfl)) ?_;rintro⟨k,hk⟩;(try dsimp only[cA,cB]);by_cases Q:k < (Cv t).length
 ·obtain⟨l,u⟩:=get_some Q
  have g:=DN ht (co u)
  have Y:((Cv t).map Br)[((k:Nat):Int).toNat]? = some (Br l):=by rw [io];simp [u]
  have I:∀x∈(Cv t).take k,0<=x/\x < 6:=λx B=>by
   have:=DN ht (ol B);omega
  have y:=XT ht f I;have hG:=KF ht (l:=l) ⟨g.1,g.2.1⟩ f
  have M:IQ t F ((Cv t).take (k+1))=λp=>IQ t F ((Cv t).take k) p ||| VT t l F p:=by rw [d8,u];exact bG
  have P:=YH (TB:=TB) ht m (l:=l) ⟨g.1,g.2.1⟩ f;generalize IQ t F ((Cv t).take k)=A at *;generalize VT t l F=G at *;(repeat first|refine s2 rfl λ_ e=>?_ |refine aU rfl ?_ |apply Aa)
  ((refine aC rfl ?_ ?_<;>rintro⟨⟩);all_goals try(exfalso;(simp only[oZ] at *;omega)))
  apply aK;refine aS (aB ?_);(repeat first|refine tA rfl ?_ |(refine s4 rfl ‹_› rfl ?_ ?_;omega) |refine aU rfl ?_ |apply Aa);(refine pW rfl ?_ rfl (by rfl);refine Ai [0,1,2,3,4] rfl rfl (P) ⟨rfl,by decide,by decide⟩ rfl (by simp[cX,zC,c,A9]) ?_;rintro x0 U V ⟨rfl,rfl,rfl⟩ _);(repeat first|refine tA rfl ?_);apply Aa;apply aB;refine aL (α:={p:Nat // p<=12}) [0,3,4,5,14,15,16,23] [0,1,2,3,4,5,6] rfl rfl (λs=>[(24,eI .i64 s.1)]) (λs=>[(7,.cells 195 12 [RO (LG A G s.1)])]) 8 (λs=>12 - s.1) (⟨0,by omega⟩) c rfl (by (simp[cX,zC,c,A9]<;>rfl)) ?_;rintro⟨p,R⟩;(try dsimp only[cA,cB]);by_cases n:p < 12
  ·have B:(Hr G)[((p:Nat):Int).toNat]? = some (G p:Int):=by rw [io];exact JI n
   have ej:0+((p:Nat):Int).toNat*1=p:=by omega
   have q:LG A G p p < 65536:=by
    unfold LG;rw [if_neg (by omega)];exact y.lt p
   have w:(RO (LG A G p))[0+((p:Nat):Int).toNat*1]? = some (.d (.v (.int .u16 (LG A G p p:Int)))):=by rw [ej];exact OC n
   have L:=Yx q (hG.lt p);have i:=YT (F:=LG A G p) (p:=p) n (v:=LG A G p p ||| G p);rw [<-ZZ] at i;(repeat first|refine s2 rfl λ_ e=>?_ |refine aU rfl ?_ |apply Aa)
   ((refine aC rfl ?_ ?_<;>rintro⟨⟩);all_goals try(exfalso;(simp only[oZ] at *;omega)))
   apply aK;refine aS (aB ?_);(repeat first|(refine sA rfl ?_ ?_;first|exact tI|omega)|(refine Af rfl ?_;refine gA rfl ?_;first| refine gS (λ_ _=>LX (l:=Hr G) rfl rfl rfl (by omega) B) ?_|refine gQ (PB rfl rfl rfl w) rfl ?_) |refine aU rfl ?_ |apply Aa);(refine Af rfl ?_;refine HV ?_ rfl (by rfl);refine Eo (r:=RO (LG A G p)) rfl rfl rfl rfl rfl rfl (by show 0+((p:Nat):Int).toNat*1+1<=12;omega) ?_);apply Aa;(repeat first|(refine sA rfl ?_ ?_;first|exact tI|omega) |refine aU rfl ?_ |apply Aa);refine⟨⟨p+1,by omega⟩,by dsimp only;(omega),[0,1,2,3,4,5,6,7],?_⟩;simp[cX,zC,c,A9,L];exact⟨Uv,by simpa [Ae] using i⟩
  ·obtain rfl:p=12:=by omega
   have q:Hr (LG A G 12)=Hr λp=>A p ||| G p:=RP λp R=>by unfold LG;rw [if_pos R]
   (repeat first|refine s2 rfl λ_ e=>?_ |refine aU rfl ?_ |apply Aa)
   ((refine aC rfl ?_ ?_<;>rintro⟨⟩);all_goals try(exfalso;(simp only[oZ] at *;omega)))
   apply aE;(repeat first|(refine sA rfl ?_ ?_;first|exact tI|omega) |refine aU rfl ?_ |apply Aa);refine⟨⟨k+1,by omega⟩,by dsimp only;(omega),[0,1,2,3,4,5,6,7],?_⟩;simp[cX,zC,c,A9,M];exact⟨Uv,congrArg (List.map _) q⟩
 ·obtain rfl:k=(Cv t).length:=by omega
  rw [ge]
  have y:=XT ht f λx B=>by
   have:=DN ht B
   show 0<=x/\x < 6
   omega
  (repeat first|refine s2 rfl λ_ e=>?_ |refine aU rfl ?_ |apply Aa)
  ((refine aC rfl ?_ ?_<;>rintro⟨⟩);all_goals try(exfalso;(simp only[oZ] at *;omega)))
  apply aE;(repeat first|refine tA rfl ?_|(refine Af rfl ?_;refine gA rfl ?_;first| (refine gB (λ_ _=>lq (a:=Hr (IQ t F (Cv t))) (b:=Hr F) rfl rfl rfl rfl (gY y.lt) (gY f.lt)) ?_;intro _ e)) |refine aU rfl ?_ |apply Aa);(refine aC rfl ?_ ?_<;>rintro⟨⟩)
  ·have Z:IQ t F (Cv t)=F:=by
    have h3:Hr (IQ t F (Cv t))=Hr F:=by simpa using e
    have h4:=Th h3;funext p
    rcases oK p 12 with S|S
    ·exact h4 p S
    ·rw [y.z p (by omega),f.z p (by omega)]
   rw [<-ZA ht J f K T Z];(repeat first|refine tA rfl ?_ |refine aU rfl ?_ |apply Aa);refine aR ⟨_,rfl,[0,1,2,3,4],jz F,Nk t m,⟨Uv,by decide⟩,rfl,by (simp[cX,zC,c,A9]),rfl,rfl,rfl⟩
  ·have N:Hr (IQ t F (Cv t))≠Hr F:=by simpa using e
   have H:∀p,F p<=IQ t F (Cv t) p:=λp=>sub_le λj w=>HF.2 (.inl w);have hm:=YE f.lt y.lt H N;apply aK;(repeat first|refine tA rfl ?_ |refine aU rfl ?_ |apply Aa);refine⟨⟨IQ t F (Cv t),y,λp j w=>HF.2 (.inl (K p j w)),λp j w=>bH ht T w⟩,by dsimp only;(omega),[0,1,2,3,4,5,6],?_⟩;simp[cX,zC,c,A9];exact⟨Uv,rfl,rfl⟩
def Em{α:Type}(Q:α->Prop)(g:α->E)(x:E)(σ:Ab)(nx:Nat):Prop:=∃r,Q r/\x=g r/\σ=[]/\nx=0
theorem EM(n:Int):Spec Tryz.prog TB 188 [] 0 [eI .i64 n] (Em (λr:W=>r.length<=6) eT):=by
 have h:(Ac n).length<=6:=AM n 6;refine eR Tryz.func188 rfl (by kernel_rfl) rfl ?_;intro Γ b;(repeat first|refine tA rfl ?_ |refine s2 rfl λ_ a=>?_ |(refine sC rfl (Dq n) ?_;intro _ a) |refine aU rfl ?_ |apply Aa);(refine aC rfl ?_ ?_<;>rintro⟨⟩)
 ·(repeat first|refine tA rfl ?_ |refine aU rfl ?_ |apply Aa)
  refine aR ⟨_,rfl,[],eT [],[],⟨by intro i hi;omega,by decide⟩,rfl,trivial,[],by decide,rfl,rfl,rfl⟩
 apply aK;(repeat first|refine tA rfl ?_ |refine s2 rfl λ_ a=>?_ |refine aU rfl ?_ |apply Aa);(refine aC rfl ?_ ?_<;>rintro⟨⟩)
 ·(repeat first|refine tA rfl ?_ |refine aU rfl ?_ |apply Aa)
  refine aR ⟨_,rfl,[],eT [45],[],⟨by intro i hi;omega,by decide⟩,rfl,trivial,[45],by decide,rfl,rfl,rfl⟩
 apply aK;(repeat first|refine tA rfl ?_ |refine sP rfl (Cj n) rfl ?_ |refine aU rfl ?_ |apply Aa);apply aB;refine aL (α:={s:Nat×W // s.1<=(Ac n).length/\s.2.length=s.1}) [4] [] rfl rfl (λs=>[(3,eT s.1.2),(5,eI .i64 s.1.1)]) (λs=>[]) 0 (λs=>(Ac n).length - s.1.1) (⟨⟨0,[]⟩,by simp⟩) b rfl (by (simp[cX,zC,b])) ?_;rintro⟨⟨k,w⟩,hk,e⟩;(try dsimp only[cA,cB]);have hk:k<=(Ac n).length:=hk;have e:w.length=k:=e;(repeat first|refine sN rfl ?_ |refine tA rfl ?_ |refine s2 rfl λ_ a=>?_ |refine aU rfl ?_ |apply Aa)
 ((refine aC rfl ?_ ?_<;>rintro⟨⟩);all_goals try (simp at a;done))
 ·have c:k < (Ac n).length:=by (simp only[oZ] at *;omega)
  obtain⟨l,f⟩:=get_some (l:=Ac n) (k:=k) c;have j:=get_map (g:=Br) f;have d:=Au (co f);apply aK;refine aS (aB ?_);(repeat first|(refine sA rfl ?_ ?_;first|exact tI|omega|simp only[oZ] at *;omega) |(refine s4 rfl ‹_› rfl ?_ ?_;omega) |refine sP rfl (HP l d.1 (by omega)) rfl ?_ |refine aU rfl ?_ |apply Aa);refine⟨⟨⟨k+1,w++[UInt8.ofNat (97+l.toNat)]⟩,by dsimp only;omega,by simp;omega⟩,by dsimp only;(omega),[],?_⟩;(simp[cX,zC,b,cN]<;>rfl)
 ·apply aE
  (repeat first|refine tA rfl ?_ |refine aU rfl ?_ |apply Aa);refine aR ⟨_,rfl,[],eT w,[],⟨by intro i hi;omega,by decide⟩,rfl,trivial,w,by show w.length<=6;omega,rfl,rfl,rfl⟩
theorem HD(s:W):Spec Tryz.prog TB 139 [] 0 [eT s] (Em (λ_:Int×Bool=>True) (λr=>.t [(false,[.d (iD r.1)]),(false,[.d (bD r.2)])])):=by
 refine eR Tryz.func139 rfl (by kernel_rfl) rfl ?_;intro Γ a;(repeat first|refine tA rfl ?_ |refine aU rfl ?_ |apply Aa);apply aB;refine aL (α:={k:Nat // k<=64}) [0] [] rfl rfl (λs=>[(4,eI .i64 s.1)]) (λs=>[]) 0 (λs=>64 - s.1) (⟨0,by omega⟩) a rfl (by (simp[cX,zC,a])) ?_;rintro⟨k,hk⟩;(try dsimp only[cA,cB]);(repeat first|refine tA rfl ?_ |refine s2 rfl λ_ b=>?_ |refine aU rfl ?_ |apply Aa)
 ((refine aC rfl ?_ ?_<;>rintro⟨⟩);all_goals try (simp at b;done))
 ·have f:k < 64:=by (simp only[oZ] at *;omega)
  apply aK;refine aS (aB ?_);(repeat first|refine tA rfl ?_ |refine aU rfl ?_);(refine pW rfl ?_ rfl (by rfl);refine Ai [] rfl rfl (EM (TB:=TB) (k:Int)) ⟨rfl,by decide,by decide⟩ rfl trivial ?_;rintro g c e ⟨r,h,rfl,rfl,rfl⟩ _);(repeat first|refine tA rfl ?_ |refine s2 rfl λ_ b=>?_ |apply Aa);(refine aC rfl ?_ ?_<;>rintro⟨⟩)
  ·(repeat first|refine tA rfl ?_ |refine aU rfl ?_ |apply Aa)
   refine aR ⟨_,rfl,[],.t [(false,[.d (iD k)]),(false,[.d (bD true)])],[],⟨by intro i hi;omega,by decide⟩,rfl,trivial,(k,true),trivial,rfl,rfl,rfl⟩
  ·apply aK
   (repeat first|(refine sA rfl ?_ ?_;first|exact tI|omega) |refine aU rfl ?_ |apply Aa);refine⟨⟨k+1,by omega⟩,by dsimp only;(omega),[],?_⟩;(simp[cX,zC,a,cN]<;>rfl)
 ·apply aE
  (repeat first|refine tA rfl ?_ |refine aU rfl ?_ |apply Aa);refine aR ⟨_,rfl,[],.t [(false,[.d (iD 0)]),(false,[.d (bD false)])],[],⟨by intro i hi;omega,by decide⟩,rfl,trivial,(0,false),trivial,rfl,rfl,rfl⟩
theorem MW(a:W)(hs:a.length<=1000000)(c:UInt8):Spec Tryz.prog TB 138 [] 0 [eT a,eI .u8 c.toNat] (Em (λr:List W=>1<=r.length/\r.length<=a.length+1/\∀w∈r,w.length<=a.length) BT):=by
  refine eR Tryz.func138 rfl (by kernel_rfl) rfl ?_;intro Γ b;(repeat first|refine tX rfl ?_ |refine aU rfl ?_ |apply Aa);(refine pW rfl ?_ rfl (by rfl);refine Bk rfl rfl rfl rfl (by simp) (by rfl) (by rfl) (by rfl) (by rfl) ?_);(repeat first|refine tX rfl ?_ |refine aU rfl ?_ |apply Aa);apply aB;refine aL (α:={z:Nat×Nat×List W // z.1<=a.length+1/\z.2.1<=z.1/\z.2.2.length<=z.1/\(z.1=a.length+1->1<=z.2.2.length)/\∀w∈z.2.2,w.length<=a.length}) [0,1] [] rfl rfl (λs=>[(5,.o (.arr 0 1 0 s.1.2.2.length)),(6,eI .i64 s.1.2.1),(7,eI .i64 s.1.1)]) (λs=>[(0,.cells 9 1 (s.1.2.2.map Ej))]) 1 (λs=>a.length+1 - s.1.1) (⟨⟨0,0,[]⟩,by simp⟩) b rfl (by (simp[cX,zC,b])) ?_;rintro⟨⟨k,fr,r⟩,hk,t,g,d,n⟩;(try dsimp only[cA,cB]);have hk:k<=a.length+1:=hk;have t:fr<=k:=t;have g:r.length<=k:=g;have d:k=a.length+1->1<=r.length:=d;(repeat first|refine tA rfl ?_ |refine s2 rfl λ_ j=>?_ |refine aU rfl ?_ |apply Aa)
  ((refine aC rfl ?_ ?_<;>rintro⟨⟩);all_goals try (simp at j;done))
  · have v:k<=a.length:=by (simp only[oZ] at *;omega)
    apply aK;refine aS (aB ?_)
    have q:k=a.length\/∃e,a[(k:Int).toNat]? = some e:=by
      rcases oK k a.length with h|h
      · obtain⟨e,u⟩:=get_some (l:=a) (k:=(k:Int).toNat) (by omega)
        exact .inr ⟨e,u⟩
      · exact .inl (by omega)
    rcases q with q|⟨e,u⟩
    all_goals (repeat' first|refine tA rfl ?_ |(refine s4 rfl ‹_› rfl ?_ ?_;omega) |refine s2 rfl λ_ j=>?_|(refine Af rfl ?_;refine gA rfl ?_;first| refine gS (λ_ _=>Tm rfl rfl rfl (by simp [NM]) (by simp [NM,NI];omega) (by simp [NI];omega)) ?_) |refine s3 rfl ?_ ?_<;>rintro rfl |refine aU rfl ?_ |apply Aa|(refine aC rfl ?_ ?_<;>rintro⟨⟩))
    all_goals first
      | (exfalso;(simp only[oZ] at *;omega);done)
      | (apply aK
         (repeat first|(refine sA rfl ?_ ?_;first|exact tI|omega) |refine aU rfl ?_ |apply Aa);refine⟨⟨⟨k+1,fr,r⟩,by dsimp only;omega,by dsimp only;omega,by dsimp only;omega,by dsimp only;intro x;exfalso;(simp only[oZ] at *;omega),n⟩,by dsimp only;(omega),[0],?_⟩;(simp[cX,zC,b,cN]<;>rfl)
         done)
      | ((refine pW rfl ?_ rfl (by rfl);refine Al rfl rfl rfl (by first| (simp;done)|(simp;(omega))) rfl (by intro r g;simp at g;subst g;rfl) (by rfl) (am rfl) (by simp;omega) ?_)
         (repeat first|(refine sA rfl ?_ ?_;first|exact tI|omega) |refine aU rfl ?_ |apply Aa)
         have m:∀w∈r++[(a.take k).drop fr],w.length<=a.length:=λw f=>by
           rcases em.1 f with f|f
           · exact n w f
           · simp at f;subst f;simp;omega
         refine⟨⟨⟨k+1,k+1,r++[(a.take k).drop fr]⟩,by dsimp only;omega,by dsimp only;omega,by simp;omega,by simp,m⟩,by dsimp only;(omega),[1],?_⟩
         (simp[cX,zC,b,cN,NM,NI]<;>rfl))
  · have p:k=a.length+1:=by (simp only[oZ] at *;omega)
    apply aE;(repeat first|refine tA rfl ?_ |refine aU rfl ?_ |apply Aa);refine Aj.settle [(4,BT r)] ⟨⟨_,rfl,.o (.full rfl (by simp [d5]) (by simp))⟩,trivial⟩ ?_;refine aR ⟨_,rfl,[],BT r,[],⟨by intro i hi;omega,by decide⟩,rfl,trivial,r,⟨d p,by omega,n⟩,rfl,rfl,rfl⟩
abbrev bh(r:Int×Bool):E:=.t [(false,[.d (iD r.1)]),(false,[.d (bD r.2)])]
theorem bQ{z:Int}(h:0<=z/\z < 256):[[D.v (.int .u8 z)]]=[UInt8.ofNat z.toNat].map kC:=by
 have b:z.toNat % 256=z.toNat:=oH (by omega)
 have a:((z.toNat:Nat):Int)=z:=by omega
 simp [kC,b,a]
theorem HO(n:Int)(j:0<=n/\n < 100):Spec Tryz.prog TB 189 [] 0 [eI .i64 n] (Em (λr:W=>r.length<=3) eT):=by
 refine eR Tryz.func189 rfl (by kernel_rfl) rfl ?_;intro Γ b;(repeat first|refine tA rfl ?_ |refine s2 rfl λ_ a=>?_ |refine aU rfl ?_ |apply Aa)
 ((refine aC rfl ?_ ?_<;>rintro⟨⟩);all_goals try (simp at a;done))
 ·exfalso;(simp only[oZ] at *;omega)
 apply aK;(repeat first|refine tA rfl ?_ |refine s2 rfl λ_ a=>?_ |refine aU rfl ?_ |apply Aa)
 ((refine aC rfl ?_ ?_<;>rintro⟨⟩);all_goals try (simp at a;done))
 ·exfalso;(simp only[oZ] at *;omega)
 apply aK;(repeat first|refine tA rfl ?_ |refine aU rfl ?_ |apply Aa);apply aB;refine aL (α:={s:Int×W // (0<=s.1/\s.1 < 100)/\s.2.length<=2/\(9 < s.1->s.2.length<=1)}) [] [] rfl rfl (λs=>[(0,eI .i64 s.1.1),(3,eT s.1.2)]) (λs=>[]) 0 (λs=>s.1.1.toNat) (⟨⟨n,[]⟩,by simp;omega⟩) b rfl (by (simp[cX,zC,b])) ?_;rintro⟨⟨q,w⟩,f,e,c⟩;(try dsimp only[cA,cB]);have f:0<=q/\q < 100:=f;have e:w.length<=2:=e;have c:9 < q->w.length<=1:=c;(repeat first|refine tA rfl ?_ |refine s2 rfl λ_ a=>?_ |refine aU rfl ?_ |apply Aa)
 ((refine aC rfl ?_ ?_<;>rintro⟨⟩);all_goals try (simp at a;done))
 ·have d:9 < q:=by (simp only[oZ] at *;omega)
  have g:=c d;apply aK;apply aB;(repeat first|(refine sA rfl ?_ ?_;first|exact tI|omega|simp only[oZ] at *;omega)|(refine Af rfl ?_;refine gA rfl ?_;first| refine gS (λ_ _=>Tn _ rfl (bQ (by omega))) ?_) |refine aU rfl ?_ |apply Aa);refine⟨⟨⟨q / 10,[UInt8.ofNat (48+q % 10).toNat]++w⟩,⟨by dsimp only;omega,by dsimp only;omega⟩,by simp;omega,λh=>by exfalso;dsimp only at h;omega⟩,by dsimp only;(omega),[],?_⟩;(simp[cX,zC,b,cN]<;>rfl)
 ·apply aE
  (repeat first|(refine sA rfl ?_ ?_;first|exact tI|omega|simp only[oZ] at *;omega)|(refine Af rfl ?_;refine gA rfl ?_;first| refine gS (λ_ _=>Tn _ rfl (bQ (by omega))) ?_) |refine aU rfl ?_ |apply Aa);refine aR ⟨_,rfl,[],eT ([UInt8.ofNat (48+q).toNat]++w),[],⟨by intro i hi;omega,by decide⟩,rfl,trivial,[UInt8.ofNat (48+q).toNat]++w,by simp;omega,rfl,rfl,rfl⟩
theorem Ml(k:Nat)(hk:k < 17):(10 ^ (k+1):Nat)=10 ^ k*10/\(10 ^ k:Nat)<=100000000000000000:=⟨qU ..,lc (oY (by omega) (rQ hk)) (by decide)⟩
theorem JA(s0:W)(hs:s0.length<=1000000):Spec Tryz.prog TB 153 [] 0 [eT s0] (Em (λ_:Int×Bool=>True) bh):=by
  by_cases y:s0.length=0
  · refine eR Tryz.func153 rfl (by kernel_rfl) rfl ?_;intro Γ a
    (repeat' first|refine tA rfl ?_ |refine s2 rfl λ_ b=>?_|(refine Af rfl ?_;refine gA rfl ?_;first| refine gS (λ_ _=>Ep rfl rfl (by omega) (by omega)) ?_) |refine s3 rfl ?_ ?_<;>rintro rfl |refine aU rfl ?_ |apply Aa|(refine aC rfl ?_ ?_<;>rintro⟨⟩)|apply aK)
    all_goals first
      | (exfalso;(simp only[oZ] at *;omega);done)
      | refine aR ⟨_,rfl,[],bh (0,false),[],⟨by intro i hi;omega,by decide⟩,rfl,trivial,(0,false),trivial,rfl,rfl,rfl⟩
  obtain⟨c,z⟩:=get_some (l:=s0) (k:=(0:Int).toNat) (by simp;omega);have w:1 < s0.length->∃d,(s0.drop (Int.toNat 1))[(0:Int).toNat]? = some d:=λh=>get_some (by simp;omega);have o:∀m:Nat,(s0.drop m).length=s0.length - m:=λm=>rU;by_cases x:s0.length=1
  · refine eR Tryz.func153 rfl (by kernel_rfl) rfl ?_;intro Γ a
    (repeat' first|refine tA rfl ?_ |(refine s4 rfl ‹_› rfl ?_ ?_;omega) |refine s2 rfl λ_ b=>?_|(refine Af rfl ?_;refine gA rfl ?_;first| refine gS (λ_ _=>Ep rfl rfl (by omega) (by omega)) ?_) |refine s3 rfl ?_ ?_<;>rintro rfl |refine aU rfl ?_ |apply Aa|(refine aC rfl ?_ ?_<;>rintro⟨⟩)|apply aK)
    all_goals first
      | (exfalso;(simp only[oZ] at *;omega);done)
      | refine aR ⟨_,rfl,[],bh (0,false),[],⟨by intro i hi;omega,by decide⟩,rfl,trivial,(0,false),trivial,rfl,rfl,rfl⟩
      | (exfalso;simp only [oZ,o] at *;omega)
      | skip
    · have g:(s0).length<=17:=by omega
      apply aB;refine aL (α:={s:Nat×Int // s.1<=(s0).length/\0<=s.2/\s.2 < ((10 ^ s.1:Nat):Int)}) [0,4] [] rfl rfl (λs=>[(5,eI .i64 s.1.2),(6,eI .i64 s.1.1)]) (λs=>[]) 0 (λs=>(s0).length - s.1.1) (⟨⟨0,0⟩,by simp⟩) a rfl (by (simp[cX,zC,a])) ?_;rintro⟨⟨k,n⟩,hk,f,j⟩;(try dsimp only[cA,cB]);have hk:k<=(s0).length:=hk;have f:0<=n:=f;have j:n < ((10 ^ k:Nat):Int):=j;(repeat first|refine tA rfl ?_ |refine s2 rfl λ_ b=>?_ |refine aU rfl ?_ |apply Aa)
      ((refine aC rfl ?_ ?_<;>rintro⟨⟩);all_goals try (simp at b;done))
      · have q:k < (s0).length:=by (simp only[oZ] at *;omega)
        obtain⟨e,u⟩:=get_some (l:=s0) (k:=(k:Int).toNat) (by omega);have r:=e.toNat_lt;obtain⟨p,t⟩:=Ml k (by omega);apply aK;refine aS (aB ?_);(repeat' first|(refine sA rfl ?_ ?_;first|exact tI|omega|simp only[oZ] at *;omega) |(refine s4 rfl ‹_› rfl ?_ ?_;omega) |refine s2 rfl λ_ b=>?_|(refine Af rfl ?_;refine gA rfl ?_;first| refine gS (λ_ _=>Ep rfl rfl (by omega) (by omega)) ?_) |refine s3 rfl ?_ ?_<;>rintro rfl |refine aU rfl ?_ |apply Aa|(refine aC rfl ?_ ?_<;>rintro⟨⟩)|apply aK)
        all_goals first
          | (exfalso;omega;done)
          | refine aR ⟨_,rfl,[],bh (0,false),[],⟨by intro i hi;omega,by decide⟩,rfl,trivial,(0,false),trivial,rfl,rfl,rfl⟩
          | (refine⟨⟨⟨k+1,n*10+((e.toNat:Int) - 48)⟩,by dsimp only;omega,by dsimp only;(simp only[oZ] at *;omega),by dsimp only;rw [p];(simp only[oZ] at *;omega)⟩,by dsimp only;(omega),[],?_⟩
             (simp[cX,zC,a,cN]<;>rfl))
      · apply aE
        have v:(10 ^ k:Nat)<=100000000000000000:=lc (oY (by omega) (lc hk g)) (by decide);(repeat' first|refine tA rfl ?_|(refine Af rfl ?_;refine gA rfl ?_;first| refine gS (λ_ _=>U7 rfl (IntWalk.i64_in _ (by omega))) ?_) |refine aU rfl ?_ |apply Aa|(refine aC rfl ?_ ?_<;>rintro⟨⟩)|apply aK);exact aR ⟨_,rfl,[],bh (n,true),[],⟨λi hi=>absurd hi (kw i),lm⟩,rfl,trivial,(n,true),trivial,rfl,rfl,rfl⟩
    · have g:(s0).length<=17:=by omega
      apply aB;refine aL (α:={s:Nat×Int // s.1<=(s0).length/\0<=s.2/\s.2 < ((10 ^ s.1:Nat):Int)}) [0,4] [] rfl rfl (λs=>[(5,eI .i64 s.1.2),(6,eI .i64 s.1.1)]) (λs=>[]) 0 (λs=>(s0).length - s.1.1) (⟨⟨0,0⟩,by simp⟩) a rfl (by (simp[cX,zC,a])) ?_;rintro⟨⟨k,n⟩,hk,f,j⟩;(try dsimp only[cA,cB]);have hk:k<=(s0).length:=hk;have f:0<=n:=f;have j:n < ((10 ^ k:Nat):Int):=j;(repeat first|refine tA rfl ?_ |refine s2 rfl λ_ b=>?_ |refine aU rfl ?_ |apply Aa)
      ((refine aC rfl ?_ ?_<;>rintro⟨⟩);all_goals try (simp at b;done))
      · have q:k < (s0).length:=by (simp only[oZ] at *;omega)
        obtain⟨e,u⟩:=get_some (l:=s0) (k:=(k:Int).toNat) (by omega);have r:=e.toNat_lt;obtain⟨p,t⟩:=Ml k (by omega);apply aK;refine aS (aB ?_);(repeat' first|(refine sA rfl ?_ ?_;first|exact tI|omega|simp only[oZ] at *;omega) |(refine s4 rfl ‹_› rfl ?_ ?_;omega) |refine s2 rfl λ_ b=>?_|(refine Af rfl ?_;refine gA rfl ?_;first| refine gS (λ_ _=>Ep rfl rfl (by omega) (by omega)) ?_) |refine s3 rfl ?_ ?_<;>rintro rfl |refine aU rfl ?_ |apply Aa|(refine aC rfl ?_ ?_<;>rintro⟨⟩)|apply aK)
        all_goals first
          | (exfalso;omega;done)
          | refine aR ⟨_,rfl,[],bh (0,false),[],⟨by intro i hi;omega,by decide⟩,rfl,trivial,(0,false),trivial,rfl,rfl,rfl⟩
          | (refine⟨⟨⟨k+1,n*10+((e.toNat:Int) - 48)⟩,by dsimp only;omega,by dsimp only;(simp only[oZ] at *;omega),by dsimp only;rw [p];(simp only[oZ] at *;omega)⟩,by dsimp only;(omega),[],?_⟩
             (simp[cX,zC,a,cN]<;>rfl))
      · apply aE
        have v:(10 ^ k:Nat)<=100000000000000000:=lc (oY (by omega) (lc hk g)) (by decide);(repeat' first|refine tA rfl ?_|(refine Af rfl ?_;refine gA rfl ?_;first| refine gS (λ_ _=>U7 rfl (IntWalk.i64_in _ (by omega))) ?_) |refine aU rfl ?_ |apply Aa|(refine aC rfl ?_ ?_<;>rintro⟨⟩)|apply aK);exact aR ⟨_,rfl,[],bh (n,true),[],⟨λi hi=>absurd hi (kw i),lm⟩,rfl,trivial,(n,true),trivial,rfl,rfl,rfl⟩
  obtain⟨d,w⟩:=w (by omega);refine eR Tryz.func153 rfl (by kernel_rfl) rfl ?_;intro Γ a;(repeat' first|refine tA rfl ?_ |(refine s4 rfl ‹_› rfl ?_ ?_;omega) |refine s2 rfl λ_ b=>?_|(refine Af rfl ?_;refine gA rfl ?_;first| refine gS (λ_ _=>Ep rfl rfl (by omega) (by omega)) ?_) |refine s3 rfl ?_ ?_<;>rintro rfl |refine aU rfl ?_ |apply Aa|(refine aC rfl ?_ ?_<;>rintro⟨⟩)|apply aK)
  all_goals first
    | (exfalso;(simp only[oZ] at *;omega);done)
    | refine aR ⟨_,rfl,[],bh (0,false),[],⟨by intro i hi;omega,by decide⟩,rfl,trivial,(0,false),trivial,rfl,rfl,rfl⟩
    | (exfalso;simp only [oZ,o] at *;omega)
    | skip
  · have g:(List.drop (Int.toNat 1) s0).length<=17:=by (simp only[oZ] at *;omega)
    apply aB;refine aL (α:={s:Nat×Int // s.1<=(List.drop (Int.toNat 1) s0).length/\0<=s.2/\s.2 < ((10 ^ s.1:Nat):Int)}) [0,4] [] rfl rfl (λs=>[(5,eI .i64 s.1.2),(6,eI .i64 s.1.1)]) (λs=>[]) 0 (λs=>(List.drop (Int.toNat 1) s0).length - s.1.1) (⟨⟨0,0⟩,by simp⟩) a rfl (by (simp[cX,zC,a])) ?_;rintro⟨⟨k,n⟩,hk,f,j⟩;(try dsimp only[cA,cB]);have hk:k<=(List.drop (Int.toNat 1) s0).length:=hk;have f:0<=n:=f;have j:n < ((10 ^ k:Nat):Int):=j;(repeat first|refine tA rfl ?_ |refine s2 rfl λ_ b=>?_ |refine aU rfl ?_ |apply Aa)
    ((refine aC rfl ?_ ?_<;>rintro⟨⟩);all_goals try (simp at b;done))
    · have q:k < (List.drop (Int.toNat 1) s0).length:=by (simp only[oZ] at *;omega)
      obtain⟨e,u⟩:=get_some (l:=List.drop (Int.toNat 1) s0) (k:=(k:Int).toNat) (by omega);have r:=e.toNat_lt;obtain⟨p,t⟩:=Ml k (by omega);apply aK;refine aS (aB ?_);(repeat' first|(refine sA rfl ?_ ?_;first|exact tI|omega|simp only[oZ] at *;omega) |(refine s4 rfl ‹_› rfl ?_ ?_;omega) |refine s2 rfl λ_ b=>?_|(refine Af rfl ?_;refine gA rfl ?_;first| refine gS (λ_ _=>Ep rfl rfl (by omega) (by omega)) ?_) |refine s3 rfl ?_ ?_<;>rintro rfl |refine aU rfl ?_ |apply Aa|(refine aC rfl ?_ ?_<;>rintro⟨⟩)|apply aK)
      all_goals first
        | (exfalso;omega;done)
        | refine aR ⟨_,rfl,[],bh (0,false),[],⟨by intro i hi;omega,by decide⟩,rfl,trivial,(0,false),trivial,rfl,rfl,rfl⟩
        | (refine⟨⟨⟨k+1,n*10+((e.toNat:Int) - 48)⟩,by dsimp only;omega,by dsimp only;(simp only[oZ] at *;omega),by dsimp only;rw [p];(simp only[oZ] at *;omega)⟩,by dsimp only;(omega),[],?_⟩
           (simp[cX,zC,a,cN]<;>rfl))
    · apply aE
      have v:(10 ^ k:Nat)<=100000000000000000:=lc (oY (by omega) (lc hk g)) (by decide);(repeat' first|refine tA rfl ?_|(refine Af rfl ?_;refine gA rfl ?_;first| refine gS (λ_ _=>U7 rfl (IntWalk.i64_in _ (by omega))) ?_) |refine aU rfl ?_ |apply Aa|(refine aC rfl ?_ ?_<;>rintro⟨⟩)|apply aK);exact aR ⟨_,rfl,[],bh (-n,true),[],⟨λi hi=>absurd hi (kw i),lm⟩,rfl,trivial,(-n,true),trivial,rfl,rfl,rfl⟩
  · have g:(s0).length<=17:=by (simp only[oZ] at *;omega)
    apply aB;refine aL (α:={s:Nat×Int // s.1<=(s0).length/\0<=s.2/\s.2 < ((10 ^ s.1:Nat):Int)}) [0,4] [] rfl rfl (λs=>[(5,eI .i64 s.1.2),(6,eI .i64 s.1.1)]) (λs=>[]) 0 (λs=>(s0).length - s.1.1) (⟨⟨0,0⟩,by simp⟩) a rfl (by (simp[cX,zC,a])) ?_;rintro⟨⟨k,n⟩,hk,f,j⟩;(try dsimp only[cA,cB]);have hk:k<=(s0).length:=hk;have f:0<=n:=f;have j:n < ((10 ^ k:Nat):Int):=j;(repeat first|refine tA rfl ?_ |refine s2 rfl λ_ b=>?_ |refine aU rfl ?_ |apply Aa)
    ((refine aC rfl ?_ ?_<;>rintro⟨⟩);all_goals try (simp at b;done))
    · have q:k < (s0).length:=by (simp only[oZ] at *;omega)
      obtain⟨e,u⟩:=get_some (l:=s0) (k:=(k:Int).toNat) (by omega);have r:=e.toNat_lt;obtain⟨p,t⟩:=Ml k (by omega);apply aK;refine aS (aB ?_);(repeat' first|(refine sA rfl ?_ ?_;first|exact tI|omega|simp only[oZ] at *;omega) |(refine s4 rfl ‹_› rfl ?_ ?_;omega) |refine s2 rfl λ_ b=>?_|(refine Af rfl ?_;refine gA rfl ?_;first| refine gS (λ_ _=>Ep rfl rfl (by omega) (by omega)) ?_) |refine s3 rfl ?_ ?_<;>rintro rfl |refine aU rfl ?_ |apply Aa|(refine aC rfl ?_ ?_<;>rintro⟨⟩)|apply aK)
      all_goals first
        | (exfalso;omega;done)
        | refine aR ⟨_,rfl,[],bh (0,false),[],⟨by intro i hi;omega,by decide⟩,rfl,trivial,(0,false),trivial,rfl,rfl,rfl⟩
        | (refine⟨⟨⟨k+1,n*10+((e.toNat:Int) - 48)⟩,by dsimp only;omega,by dsimp only;(simp only[oZ] at *;omega),by dsimp only;rw [p];(simp only[oZ] at *;omega)⟩,by dsimp only;(omega),[],?_⟩
           (simp[cX,zC,a,cN]<;>rfl))
    · apply aE
      have v:(10 ^ k:Nat)<=100000000000000000:=lc (oY (by omega) (lc hk g)) (by decide);(repeat' first|refine tA rfl ?_|(refine Af rfl ?_;refine gA rfl ?_;first| refine gS (λ_ _=>U7 rfl (IntWalk.i64_in _ (by omega))) ?_) |refine aU rfl ?_ |apply Aa|(refine aC rfl ?_ ?_<;>rintro⟨⟩)|apply aK);exact aR ⟨_,rfl,[],bh (n,true),[],⟨λi hi=>absurd hi (kw i),lm⟩,rfl,trivial,(n,true),trivial,rfl,rfl,rfl⟩
inductive Reach (t:CM):PS->Prop
 | start:Reach t (Cw t)
 | next {F:PS} {l:Int}:0<=l->l < 6->Reach t F->Reach t (Dk t l F)
theorem Reach.ok{t:CM}(ht:Bg t=true){F:PS}(h:Reach t F):C1 t F:=by
 induction h with
 | start=>exact GB ht
 | next c b _ a=>exact LO ht ⟨c,b⟩ a
noncomputable def GX(t:CM):PS->W->PS
 | F,[]=>F
 | F,c::w=>GX t (Dk t ((c.toNat:Int) - 97) F) w
theorem PQ{t:CM}:∀(u v:W) (F:PS),GX t F (u++v)=GX t (GX t F u) v
 | [],v,F=>rfl
 | c::u,v,F=>by simp only [pp,GX];exact PQ u v _
def ki(t:CM)(ok:W->Prop)(F:PS):Prop:=F=Cw t\/∃u v,ok (u++v)/\F=GX t (Cw t) u
def jT(t:CM)(ok:W->Prop):Prop:=∀l:List PS,l.Nodup->(∀F∈l,ki t ok F)->l.length<=1099511627776
structure II (t:CM) (ok:W->Prop) (m:GG):Prop where
 l1:m.nx.length=m.F.length
 l2:m.un.length=m.F.length
 nd:m.F.Nodup
 rc:∀F∈m.F,Reach t F
 rk:∀F∈m.F,ki t ok F
 un:∀(i:Nat) F,m.F[i]? = some F->m.un[i]? = some (Fm t F)
 nx:∀(i:Nat) F,m.F[i]? = some F->∃r:List Int,m.nx[i]? = some r/\r.length=6/\∀l:Nat,l < 6->∃x,r[l]? = some x/\(x < 0\/∃j:Nat,x=j/\m.F[j]? = some (Dk t l F))
def IZ(t:CM)(m:GG)(G:PS):GG:=⟨m.F++[G],m.nx++[[-1,-1,-1,-1,-1,-1]],m.un++[Fm t G]⟩
theorem ig{t:CM}(ht:Bg t=true){F G:PS}(c:C1 t F)(b:C1 t G)(h:Hr F=Hr G):F=G:=by
 have d:=Th h;have e:=AG (CA ht);funext p
 rcases oK p 12 with a|a
 ·exact d p a
 ·rw [c.z p (by omega),b.z p (by omega)]
theorem SQ{l:List PS}{p:List Int×Int}:p∈QF l↔∃(i:Nat) (F:PS),l[i]? = some F/\p=(Hr F,(i:Int)):=by
 unfold QF;rw [d9];constructor
 ·rintro⟨⟨F,i⟩,h,rfl⟩
  exact⟨i,F,ro.1 h,rfl⟩
 ·rintro⟨i,F,h,rfl⟩
  exact⟨(F,i),ro.2 h,rfl⟩
theorem fS(l:List PS)(G:PS):QF (l++[G])=QF l++[(Hr G,(l.length:Int))]:=by
 unfold QF;rw [List.zipIdx_append];simp
theorem cT{t:CM}(ht:Bg t=true){l:List PS}(g:l.Nodup)(f:∀F∈l,Reach t F):(QF l).Pairwise (λa b=>a.1≠b.1):=by
 unfold QF;rw [pS,oe];intro i j e d c;simp only [List.length_zipIdx] at e d;simp only [List.getElem_zipIdx];intro h;have:=ig ht ((f _ (oN e)).ok ht) ((f _ (oN d)).ok ht) h;exact oe.1 g i j e d c this
theorem cS{t:CM}(ht:Bg t=true){l:List PS}(a:∀F∈l,Reach t F):QQ 12 .u16 (QF l):=λp b=>by
 obtain⟨i,F,c,rfl⟩:=SQ.1 b;exact⟨rfl,gY ((a F (co c)).ok ht).lt⟩
theorem ZK{t:CM}(ht:Bg t=true){l:List PS}(f:l.Nodup)(c:∀F∈l,Reach t F){G:PS}(j:C1 t G){v:Int}(h:DY (QF l) (Hr G)=some v):∃k:Nat,v=k/\l[k]? = some G:=by
 have:∃p∈QF l,p.1=Hr G:=by
  refine Classical.byContradiction λg=>?_;have m:DY (QF l) (Hr G)=none:=Ip.2 λp a b=>g ⟨p,a,b⟩;rw [m] at h;cases h
 obtain⟨p,a,b⟩:=this;have e:=MO (cT ht f c) a;rw [b,h] at e;obtain⟨i,F,d,rfl⟩:=SQ.1 a;have:=ig ht ((c F (co d)).ok ht) j b;subst this;exact⟨i,by injection e,d⟩
theorem ZJ{l:List PS}{G:PS}(h:DY (QF l) (Hr G)=none):G∉l:=λb=>by
 obtain⟨i,hi,a⟩:=oy b;exact Ip.1 h (Hr G,(i:Int)) (SQ.2 ⟨i,G,by rw [d6 hi,a],rfl⟩) rfl
theorem Le{α:Type}{l:List α}{a x:α}{i:Nat}(h:l[i]? = some x):(l++[a])[i]? = some x:=by
 rw [f6 (ce.1 h).1];exact h
theorem TZ{α:Type}{l:List α}{a x:α}{i:Nat}(h:(l++[a])[i]? = some x):l[i]? = some x\/i=l.length/\x=a:=by
 rcases oK i l.length with b|b
 ·rw [f6 b] at h;exact .inl h
 ·rw [f9 b] at h
  have d:i - l.length < 1:=(ce.1 h).1
  have c:i=l.length:=by simp at d;omega
  subst c;simp at h;exact .inr ⟨rfl,h.symm⟩
theorem XR{t:CM}{ok:W->Prop}{m:GG}(d:II t ok m){G:PS}(k:Reach t G)(hk:ki t ok G)(h:G∉m.F):II t ok (IZ t m G):=by
 refine⟨by simp [IZ,d.l1],by simp [IZ,d.l2],?_,?_,?_,?_,?_⟩
 ·show (m.F++[G]).Nodup
  rw [pR];exact⟨d.nd,by simp,λa ha b hb=>by simp at hb;subst hb;intro e;subst e;exact h ha⟩
 ·intro F c
  rcases em.1 c with c|c
  ·exact d.rc F c
  ·simp at c;subst c;exact k
 ·intro F c
  rcases em.1 c with c|c
  ·exact d.rk F c
  ·simp at c;subst c;exact hk
 ·intro i F c
  rcases TZ c with f|⟨f,rfl⟩
  ·exact Le (d.un i F f)
  ·subst f;show (m.un++[Fm t F])[m.F.length]? = _;rw [<-d.l2];simp
 ·intro i F c
  rcases TZ c with f|⟨f,rfl⟩
  ·obtain⟨r,v,u,s⟩:=d.nx i F f
   refine⟨r,Le v,u,λl g=>?_⟩;obtain⟨x,q,p⟩:=s l g;refine⟨x,q,p.imp id ?_⟩;rintro⟨j,o,n⟩;exact⟨j,o,Le n⟩
  ·refine⟨[-1,-1,-1,-1,-1,-1],by subst f;show (m.nx++_)[m.F.length]? = _;rw [<-d.l1];simp,rfl,λl g=>⟨-1,?_,.inl (by omega)⟩⟩
   obtain rfl|rfl|rfl|rfl|rfl|rfl:l=0\/l=1\/l=2\/l=3\/l=4\/l=5:=by omega
   all_goals rfl
def HJ(t:CM)(F:PS)(k:Nat):Bool:=(List.range k).any λp=>decide (F p≠0) && !(t.q.ac.getD p false)
theorem Ko{t:CM}{F:PS}{k:Nat}:HJ t F (k+1)=(HJ t F k || (decide (F k≠0) && !(t.q.ac.getD k false))):=by
 unfold HJ;rw [pN,rW];simp
theorem Zz{t:CM}{F:PS}(h:C1 t F)(b:t.q.nx.length<=12):HJ t F 12=Fm t F:=by
 have key:∀k,HJ t F (t.q.nx.length+k)=HJ t F t.q.nx.length:=λk=>by
  induction k with
  | zero=>rfl
  | succ k a=>rw [<-oI,Ko,a,h.z _ (by omega)];simp
 have:=key (12 - t.q.nx.length);rw [show t.q.nx.length+(12 - t.q.nx.length)=12 by omega] at this;rw [this];rfl
section
variable {P:Program}{Γ:Ctx}{d:Option Tmp}{ty:TypeId}{pos:String}{af:Array Edge}{g:Option (Nat×Bool)}{f:Env}{σ:Ab}{nx:Nat}{t:TypeId}{n:Nat}{q:IntKind}{m e:TypeId}{x y:Operand}{id:Nat}{l:List (List Int×Int)}{s:List Int}
theorem dJ{v:Int}[z:KU P m t e][h:GD P t n q][w:QP P e (.int .i64 0)](k:DY l s=some v)(i:ev f x=some (.o (.mp id)))(c:ev f y=some (fJ q s))(p:look σ id=some (.mp (mapA q l)))
 (r:QQ n q l) (u:l.Pairwise (λa b=>a.1≠b.1)) (hs:s.length=n) (j:∀x∈s,(Lit.int q x).wf=true) :
 A6 P TB Γ ⟨d,.lookup m x y true,ty,pos,af,g⟩ f σ nx (.t [(false,[.d (.v (.int .i64 v))]),(false,[.d (.v (.bool true))])]):=by
 have:=YW (P:=P) (TB:=TB) (Γ:=Γ) (d:=d) (ty:=ty) (pos:=pos) (af:=af) (g:=g) (nx:=nx) (t:=t) (m:=m) (e:=e) i c p r u hs j;rw [k] at this;exact this
theorem dI[z:KU P m t e][h:GD P t n q][w:QP P e (.int .i64 0)](k:DY l s=none)(i:ev f x=some (.o (.mp id)))(c:ev f y=some (fJ q s))(p:look σ id=some (.mp (mapA q l)))
 (r:QQ n q l) (u:l.Pairwise (λa b=>a.1≠b.1)) (hs:s.length=n) (j:∀x∈s,(Lit.int q x).wf=true) :
 A6 P TB Γ ⟨d,.lookup m x y true,ty,pos,af,g⟩ f σ nx (.t [(false,[.d (.v (.int .i64 0))]),(false,[.d (.v (.bool false))])]):=by
 have:=YW (P:=P) (TB:=TB) (Γ:=Γ) (d:=d) (ty:=ty) (pos:=pos) (af:=af) (g:=g) (nx:=nx) (t:=t) (m:=m) (e:=e) i c p r u hs j;rw [k] at this;exact this
end
theorem bI{t:CM}{ok:W->Prop}(ht:Bg t=true){m:GG}(h:II t ok m)(B:m.F.length<=1099511627776){G:PS}(p:C1 t G):∃(m':GG) (k:Nat),((m'=m/\m.F[k]? = some G)\/(m'=IZ t m G/\k=m.F.length/\G∉m.F))/\
 AS Tryz.prog TB 159 1 (Nk t m) 5 [.o (.ptr 0 14 0 0),jz G] (λx σ nx=>x=eI .i64 (k:Int)/\σ=Nk t m'/\nx=5):=by
 have K:=AG (CA ht);have f:=cT ht h.nd h.rc;have j:=cS ht h.rc;have e:=gY p.lt
 cases n:DY (QF m.F) (Hr G) with
 | some v=>
  obtain⟨k,rfl,hk⟩:=ZK ht h.nd h.rc p n;refine⟨m,k,.inl ⟨rfl,hk⟩,?_⟩;refine AS.Bj (AS.RL (m:=1) (am rfl) Tryz.func159 rfl (by kernel_rfl) (am rfl) ?_);intro Γ a;(repeat first|refine tA rfl ?_ |refine aU rfl ?_ |apply Aa);refine rG (He []) (by kernel_rfl) ?_;(repeat first|refine tA rfl ?_|(refine Af rfl ?_;refine gA rfl ?_;first| refine gQ (dJ (s:=Hr G) (l:=QF m.F) n rfl rfl rfl j f rfl e) rfl ?_) |refine aU rfl ?_ |apply Aa);(refine aC rfl ?_ ?_<;>rintro⟨⟩);(repeat first|refine tA rfl ?_ |refine aU rfl ?_ |apply Aa);refine aR ⟨_,rfl,[0,1,2,3,4],eI .i64 (k:Int),Nk t m,⟨by intro i hi;match i with|0=>rfl,by decide⟩,rfl,by (simp[cX,zC,a,A9]),rfl,rfl,rfl⟩
 | none =>
  refine⟨IZ t m G,m.F.length,.inr ⟨rfl,rfl,ZJ n⟩,?_⟩;have M:=h.l1;have L:=h.l2;have y:=fS m.F G;refine AS.Bj (AS.RL (m:=1) (am rfl) Tryz.func159 rfl (by kernel_rfl) (am rfl) ?_);intro Γ a;(repeat first|refine tA rfl ?_ |refine aU rfl ?_ |apply Aa);refine rG (He []) (by kernel_rfl) ?_;(repeat first|refine tA rfl ?_|(refine Af rfl ?_;refine gA rfl ?_;first| refine gQ (dI (s:=Hr G) (l:=QF m.F) n rfl rfl rfl j f rfl e) rfl ?_) |refine aU rfl ?_ |apply Aa);(refine aC rfl ?_ ?_<;>rintro⟨⟩);apply aK;(repeat first|refine tA rfl ?_ |refine aU rfl ?_ |apply Aa);refine rG (He [6]) (by kernel_rfl) ?_;(repeat first|refine tA rfl ?_);(refine Af rfl ?_;refine HV ?_ rfl (by rfl);refine jm (s:=Hr G) (l:=QF m.F) rfl rfl rfl rfl j f rfl e n ?_);rw [<-y];apply Aa;(repeat first|refine aU rfl ?_);refine rG (J6 [(4,0),(7,1),(10,1)]) (by kernel_rfl) ?_;(repeat first|refine tA rfl ?_);(refine pW rfl ?_ rfl (by rfl);refine Al rfl rfl rfl (by first| (simp;done)|(simp;(omega))) rfl (by intro r d;simp at d;subst d;rfl) (by rfl) (am rfl) (by simp;omega) ?_);(repeat first|refine tA rfl ?_ |refine aU rfl ?_ |apply Aa);(repeat first|refine tA rfl ?_|(refine Af rfl ?_;refine gA rfl ?_;first| refine gS (λ_ _=>AB rfl rfl (by rfl) (by rfl)) ?_));(refine pW rfl ?_ rfl (by rfl);refine Al rfl rfl rfl (by first| (simp;done)|(simp;(omega))) rfl (by intro r d;simp at d;subst d;rfl) (by rfl) (am rfl) (by simp;omega) ?_);(repeat first|refine tA rfl ?_ |refine aU rfl ?_ |apply Aa);refine Aj.Ay [0,7,8,53,54] [] rfl rfl [] [(0,.cells 191 14 [eb t (.arr 1 12 0 (IZ t m G).F.length) (.mp 2) (.arr 3 6 0 (IZ t m G).nx.length) (.arr 4 1 0 m.un.length)]),(1,.cells 195 12 ((IZ t m G).F.map RO)),(2,.mp (mapA .u16 (QF (IZ t m G).F))),(3,.cells 127 6 ((IZ t m G).nx.map RK)),(4,.cells 4 1 (m.un.map AV))] [0,5,2,6,4] (rl a rfl) (by (simp[cX,zC,a,A9,IZ]<;>rfl)) ?_;(try dsimp only[cA,cB]);apply aB;refine aL (α:={k:Nat // k<=12}) [0,7,53] [0,1,2,3,4] rfl rfl (λs=>[(8,eB (HJ t G s.1)),(54,eI .i64 s.1)]) (λs=>[]) 5 (λs=>12 - s.1) (⟨0,by omega⟩) a rfl (by (simp[cX,zC,a,A9]<;>rfl)) ?_;rintro⟨k,hk⟩;(try dsimp only[cA,cB]);by_cases u:k < 12
  ·have A:(Hr G)[((k:Nat):Int).toNat]? = some (G k:Int):=by rw [io];exact JI u
   have hs:=Ko (t:=t) (F:=G) (k:=k);generalize HJ t G k=N at *;by_cases I:k < t.q.nx.length
   ·obtain⟨b,hb⟩:=get_some (l:=t.q.ac) (k:=((k:Nat):Int).toNat) (by omega)
    have J:=get_map (g:=Ik) hb
    have w:t.q.ac.getD k false=b:=by rw [io] at hb;simp [List.getD,hb]
    rw [w] at hs;(repeat first|refine s2 rfl λ_ c=>?_ |refine aU rfl ?_ |apply Aa)
    ((refine aC rfl ?_ ?_<;>rintro⟨⟩);all_goals try(exfalso;(simp only[oZ] at *;omega)))
    apply aK;refine aS (aB ?_)
    (repeat' first|(refine sA rfl ?_ ?_;first|exact tI|omega) |(refine s4 rfl ‹_› rfl ?_ ?_;omega) |refine s2 rfl λ_ c=>?_|(refine Af rfl ?_;refine gA rfl ?_;first| refine gS (λ_ _=>LX (l:=Hr G) rfl rfl rfl (by omega) A) ?_) |refine s3 rfl ?_ ?_<;>rintro rfl |refine aU rfl ?_ |apply Aa|(refine aC rfl ?_ ?_<;>rintro⟨⟩));all_goals try contradiction
    all_goals ((try apply aK);refine⟨⟨k+1,by omega⟩,by dsimp only;(omega),[0,1,2,3,4],?_⟩;simp only [decide_eq_true_eq,decide_eq_false_iff_not] at *;simp[cX,zC,a,A9,hs];try (simp_all;done))
   ·have H:=p.z k (by omega)
    rw [H] at hs;(repeat first|refine s2 rfl λ_ c=>?_ |refine aU rfl ?_ |apply Aa)
    ((refine aC rfl ?_ ?_<;>rintro⟨⟩);all_goals try(exfalso;(simp only[oZ] at *;omega)))
    apply aK;refine aS (aB ?_)
    (repeat' first|(refine sA rfl ?_ ?_;first|exact tI|omega) |refine s2 rfl λ_ c=>?_|(refine Af rfl ?_;refine gA rfl ?_;first| refine gS (λ_ _=>LX (l:=Hr G) rfl rfl rfl (by omega) A) ?_) |refine s3 rfl ?_ ?_<;>rintro rfl |refine aU rfl ?_ |apply Aa|(refine aC rfl ?_ ?_<;>rintro⟨⟩));all_goals try contradiction
    all_goals first| (exfalso;(simp only[oZ] at *;omega);done)|skip
    all_goals ((try apply aK);refine⟨⟨k+1,by omega⟩,by dsimp only;(omega),[0,1,2,3,4],?_⟩;simp[cX,zC,a,A9,hs];try (simp_all;done))
  ·obtain rfl:k=12:=by omega
   rw [Zz p (by omega)];(repeat first|refine s2 rfl λ_ c=>?_ |refine aU rfl ?_ |apply Aa)
   ((refine aC rfl ?_ ?_<;>rintro⟨⟩);all_goals try(exfalso;(simp only[oZ] at *;omega)))
   apply aE;(repeat first|refine tA rfl ?_ |refine aU rfl ?_);(refine pW rfl ?_ rfl (by rfl);refine Al rfl rfl rfl (by first| (simp;done)|(simp;(omega))) rfl (by intro r d;simp at d;subst d;rfl) (by rfl) (am rfl) (by simp;omega) ?_);(repeat first|refine tA rfl ?_ |refine aU rfl ?_ |apply Aa);refine aR ⟨_,rfl,[0,1,2,3,5],eI .i64 (m.F.length:Int),Nk t (IZ t m G),⟨by intro i hi;match i with|0=>rfl,by decide⟩,rfl,by (simp[cX,zC,a,A9,IZ]),rfl,rfl,rfl⟩
abbrev l7(r:List Int×Bool):E:=.t [(false,[.d (Fe r.1)]),(false,[.d (bD r.2)])]
theorem WT(e:W)(hs:e.length<=1000000):Spec Tryz.prog TB 140 [] 0 [eT e] (Em (λr:List Int×Bool=>r.1.length<=e.length+1) l7):=by
 refine eR Tryz.func140 rfl (by kernel_rfl) rfl ?_;intro Γ a;(repeat first|refine tX rfl ?_ |refine aU rfl ?_ |apply Aa);(refine pW rfl ?_ rfl (by rfl);refine Bk rfl rfl rfl rfl (by simp) (by rfl) (by rfl) (by rfl) (by rfl) ?_);(repeat first|refine tX rfl ?_ |refine s2 rfl λ_ b=>?_ |refine aU rfl ?_ |apply Aa);(refine aC rfl ?_ ?_<;>rintro⟨⟩)
 ·(repeat first|refine tX rfl ?_ |refine aU rfl ?_ |apply Aa)
  refine Aj.settle [(2,Ak []),(3,eB true)] ⟨⟨_,rfl,.o (.full rfl (by simp) (by simp))⟩,⟨_,rfl,.o .d⟩,trivial⟩ ?_;exact aR ⟨_,rfl,[],l7 ([],true),[],⟨λi hi=>absurd hi (kw i),lm⟩,rfl,trivial,([],true),oV _,rfl,rfl,rfl⟩
 apply aK;(repeat first|refine tA rfl ?_ |refine aU rfl ?_);(refine pW rfl ?_ rfl (by rfl);refine Ai [] rfl rfl (MW (TB:=TB) e hs 44) ⟨rfl,by decide,by decide⟩ rfl trivial ?_;rintro q f h ⟨ps,⟨x,v,j⟩,rfl,rfl,rfl⟩ _);(repeat first|refine tA rfl ?_ |refine aU rfl ?_ |apply Aa);apply aB;refine aL (α:={z:Nat×List Int // z.1<=ps.length/\z.2.length=z.1}) [5] [] rfl rfl (λs=>[(4,.o (.arr 0 1 0 s.1.2.length)),(6,eI .i64 s.1.1)]) (λs=>[(0,.cells 3 1 (s.1.2.map AE))]) 1 (λs=>ps.length - s.1.1) (⟨⟨0,[]⟩,by simp⟩) a rfl (by (simp[cX,zC,a])) ?_;rintro⟨⟨k,r⟩,hk,c⟩;(try dsimp only[cA,cB]);have hk:k<=ps.length:=hk;have c:r.length=k:=c;(repeat first|refine sN rfl ?_ |refine tA rfl ?_ |refine s2 rfl λ_ b=>?_ |refine aU rfl ?_ |apply Aa)
 ((refine aC rfl ?_ ?_<;>rintro⟨⟩);all_goals try (simp at b;done))
 ·have m:k < ps.length:=by (simp only[oZ] at *;omega)
  obtain⟨w,p⟩:=get_some (l:=ps) (k:=k) m;have u:=get_map (g:=CQ) p;have t:=j w (co p);apply aK;refine aS (aB ?_);(repeat first|refine tA rfl ?_ |(refine s4 rfl ‹_› rfl ?_ ?_;omega) |refine aU rfl ?_);(refine pW rfl ?_ rfl (by rfl);refine Ai [] rfl rfl (JA (TB:=TB) w (by omega)) ⟨rfl,by decide,by decide⟩ rfl trivial ?_;rintro q f h ⟨⟨n,ok⟩,_,rfl,rfl,rfl⟩ _);(repeat first|refine tA rfl ?_ |refine s2 rfl λ_ b=>?_ |refine aU rfl ?_ |apply Aa);(refine aC rfl ?_ ?_<;>rintro⟨⟩)
  ·(repeat first|refine tA rfl ?_ |refine aU rfl ?_ |apply Aa)
   exact aR ⟨_,rfl,[],l7 ([],false),[],⟨λi hi=>absurd hi (kw i),lm⟩,rfl,trivial,([],false),oV _,rfl,rfl,rfl⟩
  apply aK;(repeat first|refine tA rfl ?_ |refine aU rfl ?_);(refine pW rfl ?_ rfl (by rfl);refine Al rfl rfl rfl (by first| (simp;done)|(simp;(omega))) rfl (by intro r c;simp at c;subst c;rfl) (by rfl) (am rfl) (by simp;omega) ?_);(repeat first|(refine sA rfl ?_ ?_;first|exact tI|omega) |refine aU rfl ?_ |apply Aa);refine⟨⟨⟨k+1,r++[n]⟩,by dsimp only;omega,by simp;omega⟩,by dsimp only;(omega),[1],?_⟩;(simp[cX,zC,a,cN]<;>rfl)
 ·apply aE
  (repeat first|refine tA rfl ?_ |refine aU rfl ?_ |apply Aa);refine Aj.settle [(2,Ak r),(3,eB true)] ⟨⟨_,rfl,.o (.full rfl (by simp [d5]) (by simp))⟩,⟨_,rfl,.o .d⟩,trivial⟩ ?_;exact aR ⟨_,rfl,[],l7 (r,true),[],⟨λi hi=>absurd hi (kw i),lm⟩,rfl,trivial,(r,true),by show r.length<=_;omega,rfl,rfl,rfl⟩
end Go.Am
namespace Go.Am
def m8(a:AX)(q r:Int):Prop:=∀w,AR (A7 a.al) w->VZ a (DT a q w)=VZ a (DT a r w)
structure nX (a:AX) (ks:List (List Int)):Prop where
 len:ks.length=a.nx.length
 ac:∀q r:Nat,q < a.nx.length->r < a.nx.length->ks[q]? = ks[r]?->VZ a q=VZ a r
 go:∀q r:Nat,q < a.nx.length->r < a.nx.length->ks[q]? = ks[r]?->∀l∈Ac a.al,ks[(CC a q l).toNat]? = ks[(CC a r l).toNat]?
 res:∀q r:Nat,q < a.nx.length->r < a.nx.length->m8 a q r->ks[q]? = ks[r]?
structure kh (a:AX):Prop where
 b:iv a
 n1:1<=a.nx.length
 ac:a.ac.length=a.nx.length
section
variable {a:AX}(h:kh a)
include h
end
structure m7 (a m:AX):Prop where
 al:m.al=a.al
 g:kh m
 n2:m.nx.length<=a.nx.length
 lang:∀w,AR (A7 a.al) w->LA m w=LA a w
 rc:∀i:Nat,i < m.nx.length->∃w,AR (A7 a.al) w/\DT m 0 w=i
 ds:∀i j:Nat,i < m.nx.length->j < m.nx.length->m8 m i j->i=j
end Go.Am
namespace Go.Am
open Go Go.Proofs
set_option maxHeartbeats 1000000
set_option maxRecDepth 4000
attribute [local irreducible] A6 Cz Lex Bv Aj Spec
variable {TB:BF}
end Go.Am
