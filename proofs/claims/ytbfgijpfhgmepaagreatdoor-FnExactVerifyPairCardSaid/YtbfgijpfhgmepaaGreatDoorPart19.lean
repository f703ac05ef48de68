/-
  The safety of a task in memory; its step: walked.
-/
import Derived.Test.YtbfgijpfhgmepaaGreatDoorPart17
import Derived.Test.YtbfgijpfhgmepaaGreatDoorPart18
import Derived.Test.YtbfgijpfhgmepaaGreatDoorPart14
set_option linter.constructorNameAsVariable false
set_option linter.unusedSectionVars false
set_option linter.unusedSimpArgs false
set_option linter.unusedVariables false
namespace Go.Am
open Go Go.Proofs
set_option maxHeartbeats 1000000
attribute [local irreducible] AQ BS Lex Bc Av Spec
variable {TB:Bs}
def Hd(F:PS):List Int:=[(F 0:Nat),(F 1:Nat),(F 2:Nat),(F 3:Nat),(F 4:Nat),(F 5:Nat),(F 6:Nat),(F 7:Nat),(F 8:Nat),(F 9:Nat),(F 10:Nat),(F 11:Nat)]
abbrev Rr(F:PS):List C:=mz .u16 (Hd F)
abbrev iR(F:PS):E:=eK .u16 (Hd F)
theorem Jy{F:PS}{p:Nat}(h:p < 12):(Hd F)[p]? = some (F p:Int):=by
 obtain rfl|rfl|rfl|rfl|rfl|rfl|rfl|rfl|rfl|rfl|rfl|rfl:p=0∨p=1∨p=2∨p=3∨p=4∨p=5∨p=6∨p=7∨p=8∨p=9∨p=10∨p=11:=by omega
 all_goals rfl
theorem N0{F:PS}{p:Nat}(h:p < 12):(Rr F)[p]? = some (.d (.v (.int .u16 (F p:Int)))):=by simp [Jy h]
theorem Rs{F G:PS}(h:∀p,p < 12→F p=G p):Hd F=Hd G:=by
 unfold Hd
 rw [h 0 (by omega),h 1 (by omega),h 2 (by omega),h 3 (by omega),h 4 (by omega),h 5 (by omega),h 6 (by omega),h 7 (by omega),h 8 (by omega),h 9 (by omega),h 10 (by omega),h 11 (by omega)]
theorem SI{F G:PS}(h:Hd F=Hd G):∀p,p < 12→F p=G p:=fun p hp=>by
 have:=Jy (F:=F) hp
 rw [h,Jy hp] at this
 injection this with this
 omega
theorem Yy{F:PS}{p:Nat}(h:p < 12){v:Nat}:Af (Rr F) p [.d (.v (.int .u16 (v:Int)))]=Rr fun i=>if i=p then v else F i:=by
 have hl:(Rr F).length=12:=by simp [Hd]
 rw [Ir (by omega)]
 apply List.ext_getElem?
 intro i
 rw [List.getElem?_set]
 by_cases hi:i < 12
 ·rw [N0 hi,N0 hi]
  by_cases e:p=i
  ·subst e;rw [if_pos rfl,if_pos (by omega),if_pos rfl]
  ·rw [if_neg e,if_neg (fun h=>e h.symm)]
 ·have h1:∀G:PS,(Rr G)[i]? = none:=fun G=>List.getElem?_eq_none (by simp [Hd];omega)
  rw [h1,h1]
  by_cases e:p=i
  ·omega
  ·rw [if_neg e]
theorem u16_in{n:Nat}(h:n < 65536):IntKind.u16.wrap (n:Int)=n:=by
 unfold IntKind.wrap
 simp [IntKind.bits,IntKind.signed,IntKind.min,IntKind.max]
 omega
instance:Gh Tryz.prog 199 12 .u16:=⟨⟨197,⟨by kernel_rfl,by kernel_rfl,by kernel_rfl,by kernel_rfl⟩,by kernel_rfl⟩,by kernel_rfl,fun h=>by
 have h2:Nat.beq Tryz.prog.types.size 0=false:=by kernel_rfl
 rw [h] at h2;cases h2⟩
def DU(t:CB)(l:Int)(F:PS)(k:Nat):PS:=fun p':Nat=>(List.range k).foldl (fun a p=>if Cs t.q p l=(p':Int) then a ||| C7 t.s l (F p) else a) 0
theorem Ju{t:CB}{l:Int}{F:PS}{k:Nat}:DU t l F (k+1)=fun p':Nat=>if Cs t.q k l=(p':Int) then DU t l F k p' ||| C7 t.s l (F k) else DU t l F k p':=by
 funext p'
 unfold DU
 rw [List.range_succ,List.foldl_append];rfl
theorem WS{s:Sys}{l:Int}:C7 s l 0=0:=by
 unfold C7
 split
 ·exact Hw fun j=>by
   cases h:(Cb s.es l 0).testBit j
   ·rfl
   ·obtain⟨e,_,⟨_,h2⟩,_⟩:=DC.1 h
    simp at h2
 ·rfl
theorem QY{t:CB}{l:Int}{F:PS}{k:Nat}(h:F k=0):DU t l F (k+1)=DU t l F k:=by
 rw [Ju]
 funext p'
 rw [h,WS]
 split<;>simp
theorem ca{t:CB}{l:Int}{F:PS}(h:CS t F)(hn:t.q.nx.length≤12):DU t l F 12=VE t l F:=by
 have key:∀k,DU t l F (t.q.nx.length+k)=DU t l F t.q.nx.length:=fun k=>by
  induction k with
  | zero=>rfl
  | succ k ih=>rw [←Nat.add_assoc,QY (h.z _ (by omega)),ih]
 have:=key (12 - t.q.nx.length)
 rw [show t.q.nx.length+(12 - t.q.nx.length)=12 by omega] at this
 rw [this];rfl
theorem X9{t:CB}(ht:A6 t=true){l:Int}{F:PS}(h:CS t F)(k p:Nat):DU t l F k p < 65536:=by
 induction k with
 | zero=>simp [DU]
 | succ k ih=>
  rw [Ju]
  simp only
  have h2:=Je ht (l:=l) (h.lt k)
  split
  ·have:=Nat.or_lt_two_pow (n:=16) ih h2;omega
  ·exact ih
structure Hh where
 F:List PS
 nx:List (List Int)
 un:List Bool
abbrev Ro(r:List Int):List C:=r.map fun x=>.d (iD x)
def Qi(F:List PS):List (List Int×Int):=F.zipIdx.map fun x=>(Hd x.1,(x.2:Int))
abbrev dv(t:CB)(a b c d:C):List C:=[.d (iD t.s.al),.d (iD t.s.st),.d (Ef t.s.es),.d (iD t.q.al),.d (CD t.q.nx),.d (Ez t.q.ac),.d (iD t.al),.ip (Fy t.s.es),.d (.l (GM t.q)),.d (FQ (Ck t)),a,b,c,d]
abbrev ND(t:CB)(m:Hh):Ab:=[(0,.cells 195 14 [dv t (.arr 1 12 0 m.F.length) (.mp 2) (.arr 3 6 0 m.nx.length) (.arr 4 1 0 m.un.length)]),(1,.cells 199 12 (m.F.map Rr)),(2,.mp (mapA .u16 (Qi m.F))),(3,.cells 121 6 (m.nx.map Ro)),(4,.cells 4 1 (m.un.map AB))]
theorem AW(r:Nat→Nat)(q:IntKind)(l:List Int):C.BC r (l.map fun x=>.d (.v (.int q x)))=l.map fun x=>.d (.v (.int q x)):=by
 rw [show (l.map fun x=>C.d (.v (.int q x)))=(l.map fun x=>D.v (.int q x)).map .d by simp,SS]
theorem O8{P:Program}{Γ:Ctx}{d:Option Tmp}{ty:TypeId}{pos:String}{af:Array Edge}{g:Option (Nat×Bool)}{f:Env}{σ:Ab}{nx:Nat}{t:TypeId}{x:Operand}{id k i j n:Nat}{T:TypeId}{rows:List (List C)}{r:List C}{c:C}[hl:Dp P t false n](hx:ev f x=some (.o (.ptr id k i j)))(ho:look σ id=some (.cells T k rows))(hr:rows[i]? = some r)(hc:r[j]? = some c) :
 AQ P TB Γ ⟨d,.load t x,ty,pos,af,g⟩ f σ nx (.o c):=Yz hx ho hr (show ix false n j r=some (.o c) by unfold ix;rw [hc];rfl)
theorem Ub{r:List Nat}:∀i,i < 5→(0::1::2::3::4::r)[i]? = some i
 | 0,_|1,_|2,_|3,_|4,_=>rfl
 | n+5,h=>by omega
theorem XT{a b:Nat}(ha:a < 65536)(hb:b < 65536):GO .u16 (a:Int) (b:Int)=((a ||| b:Nat):Int):=by
 have h0:a ||| b < 2 ^ 16:=Nat.or_lt_two_pow (by omega) (by omega)
 unfold GO
 have h1:(BitVec.ofInt IntKind.u16.bits (a:Int) ||| BitVec.ofInt IntKind.u16.bits (b:Int)).toNat=a ||| b:=by
  have e:IntKind.u16.bits=16:=rfl
  rw [e]
  simp only [BitVec.toNat_or,BitVec.ofInt_natCast,BitVec.toNat_ofNat]
  rw [Nat.mod_eq_of_lt (by omega),Nat.mod_eq_of_lt (by omega)]
 rw [h1]
 exact u16_in (by omega)
theorem X8[Dl TB]{t:CB}(ht:A6 t=true)(m:Hh){l:Int}(hl:0≤l∧l < 6){F:PS}(hF:CS t F):Spec Tryz.prog TB 206 (ND t m) 5 [.o (.ptr 0 14 0 0),iR F,eI .i64 l] (fun x σ nx=>x=iR (VE t l F)∧σ=ND t m∧nx=5):=by
 have hs:AP t.s=true:=by unfold A6 at ht;simp only [Bool.and_eq_true] at ht;exact ht.1
 have ha:=Cn ht
 have hah:=AF ha
 rw [←ca hF (by omega)]
 refine eR Tryz.func206 rfl (by kernel_rfl) rfl ?_;intro Γ hΓ
 (repeat first|refine tA rfl ?_ |refine aU rfl ?_ |refine Aa ?_)
 refine aB ?_
 refine aL (α:={k:Nat // k≤12}) [0,2,6,7,11] [0,1,2,3,4,5] rfl rfl (fun s=>[(12,eI .i64 s.1)]) (fun s=>[(6,.cells 199 12 [Rr (DU t l F s.1)])]) 7 (fun s=>12 - s.1) (⟨0,by omega⟩) hΓ rfl (by (simp[cX,zC,hΓ,AW]<;>rfl)) ?_;rintro⟨k,hk⟩;(try dsimp only[cA,cB])
 by_cases hkl:k < 12
 ·have hx:(Hd F)[((k:Nat):Int).toNat]? = some (F k:Int):=by rw [Int.toNat_natCast];exact Jy hkl
  have hfk:=hF.lt k
  (repeat first|refine s2 rfl fun _ _hb=>?_ |refine aU rfl ?_ |refine Aa ?_)
  ((refine aC rfl ?_ ?_<;>rintro⟨⟩);all_goals try(exfalso;(simp only[oZ] at *;omega)))
  refine aK ?_
  refine aS (aB ?_)
  (repeat first|refine tA rfl ?_ |refine s2 rfl fun _ _hb=>?_|(refine Ai rfl ?_;refine gA rfl ?_;first| refine gS (fun _ _=>Le (l:=Hd F) rfl rfl rfl (by omega) hx) ?_) |refine aU rfl ?_ |refine Aa ?_)
  (refine aC rfl ?_ ?_<;>rintro⟨⟩)
  ·have hz:F k=0:=by (simp only[oZ] at *;omega)
   refine aE ?_
   (repeat first|(refine sA rfl ?_ ?_;first|exact tI|omega) |refine aU rfl ?_ |refine Aa ?_)
   refine⟨⟨k+1,by omega⟩,by dsimp only;(omega),[0,1,2,3,4,5,6],?_⟩
   simp[cX,zC,hΓ,AW,QY hz];exact Ub
  ·have hkn:k < t.q.nx.length:=by
    rcases Nat.lt_or_ge k t.q.nx.length with h1|h1
    ·exact h1
    ·have:=hF.z k h1;(simp only[oZ] at *;omega)
   have ta:=Lt (a:=t.q) (q:=((k:Nat):Int).toNat) (by omega)
   have ra:=Jd (h:=fun l=>Cs t.q k l) hl.1 hl.2
   have el:((l.toNat:Nat):Int)=l:=by omega
   simp only [el] at ra
   have hga:=Db ha hkn hl.1 hl.2
   have hst:=fT (TB:=TB) hs hl hfk
   have hss:=Je ht (l:=l) hfk
   have hml:=X9 ht (l:=l) hF k
   obtain⟨g,hg⟩:∃g:Nat,Cs t.q k l=g:=⟨(Cs t.q k l).toNat,by omega⟩
   rw [hg] at ra hga
   refine aK ?_
   (repeat first|(refine sA rfl ?_ ?_;first|exact tI|omega) |(refine sC rfl (Mg _ _) ?_;intro _ _hb)|(refine Ai rfl ?_;refine gA rfl ?_;first| refine gS (fun _ _=>SJ rfl (IntWalk.i64_in _ (by omega))) ?_) |refine aU rfl ?_ |refine Aa ?_)
   have ej:0+((g:Nat):Int).toNat*1=g:=by omega
   have hj:(Rr (DU t l F k))[0+((g:Nat):Int).toNat*1]? = some (.d (.v (.int .u16 (DU t l F k g:Int)))):=by rw [ej];exact N0 (by omega)
   have hor:=XT (hml g) hss
   have hns:DU t l F (k+1)=fun p':Nat=>if p'=g then DU t l F k g ||| C7 t.s l (F k) else DU t l F k p':=by
    rw [Ju,hg]
    funext p'
    by_cases e:p'=g
    ·subst e;simp
    ·rw [if_neg e,if_neg (by omega)]
   have hset:=Yy (F:=DU t l F k) (p:=g) (by omega) (v:=DU t l F k g ||| C7 t.s l (F k))
   rw [←hns] at hset
   (refine aC rfl ?_ ?_<;>rintro⟨⟩)
   ·have hb:AV t.s.al l.toNat=true:=by simpa [hasB,hl.1] using _hb
    have hsm:C7 t.s l (F k)=Cb t.s.es l (F k):=by unfold C7;rw [if_pos hb]
    rw [←hsm] at hst
    (repeat first|(refine sA rfl ?_ ?_;first|exact tI|omega) |(refine s4 rfl ‹_› rfl ?_ ?_;omega) |refine sP rfl (hst) rfl ?_ |refine aU rfl ?_ |refine Aa ?_)
    (repeat first|(refine sA rfl ?_ ?_;first|exact tI|omega)|(refine Ai rfl ?_;refine gA rfl ?_;first| refine gS (fun _ _=>Es rfl ra) ?_|refine gQ (O8 rfl rfl rfl hj) rfl ?_|refine gS (fun _ _=>SJ rfl (u16_in hss)) ?_|refine gS (fun _ _=>iY rfl rfl hor) ?_))
    (refine Ai rfl ?_;refine HJ ?_ rfl (by rfl);refine Fk (r:=Rr (DU t l F k)) rfl rfl rfl rfl rfl rfl (by show 0+((g:Nat):Int).toNat*1+1≤12;omega) ?_)
    refine Aa ?_
    (repeat first|(refine sA rfl ?_ ?_;first|exact tI|omega) |refine aU rfl ?_ |refine Aa ?_)
    refine⟨⟨k+1,by omega⟩,by dsimp only;(omega),[0,1,2,3,4,5,6],?_⟩
    simp[cX,zC,hΓ,AW,hor];exact⟨Ub,by simpa [Af] using hset⟩
   ·have hb:AV t.s.al l.toNat=false:=by simpa [hasB,hl.1] using _hb
    have hsm:C7 t.s l (F k)=F k:=by unfold C7;rw [if_neg (by simp [hb])]
    rw [hsm] at hor hset
    refine aK ?_
    (repeat first|(refine sA rfl ?_ ?_;first|exact tI|omega) |(refine s4 rfl ‹_› rfl ?_ ?_;omega)|(refine Ai rfl ?_;refine gA rfl ?_;first| refine gS (fun _ _=>Es rfl ra) ?_|refine gQ (O8 rfl rfl rfl hj) rfl ?_|refine gS (fun _ _=>SJ rfl (u16_in hfk)) ?_|refine gS (fun _ _=>iY rfl rfl hor) ?_) |refine aU rfl ?_)
    (refine Ai rfl ?_;refine HJ ?_ rfl (by rfl);refine Fk (r:=Rr (DU t l F k)) rfl rfl rfl rfl rfl rfl (by show 0+((g:Nat):Int).toNat*1+1≤12;omega) ?_)
    refine Aa ?_
    (repeat first|(refine sA rfl ?_ ?_;first|exact tI|omega) |refine aU rfl ?_ |refine Aa ?_)
    refine⟨⟨k+1,by omega⟩,by dsimp only;(omega),[0,1,2,3,4,5,6],?_⟩
    simp[cX,zC,hΓ,AW,hor];exact⟨Ub,by simpa [Af] using hset⟩
 ·obtain rfl:k=12:=by omega
  (repeat first|refine s2 rfl fun _ _hb=>?_ |refine aU rfl ?_ |refine Aa ?_)
  ((refine aC rfl ?_ ?_<;>rintro⟨⟩);all_goals try(exfalso;(simp only[oZ] at *;omega)))
  refine aE ?_
  (repeat first|refine tA rfl ?_ |refine aU rfl ?_ |refine Aa ?_)
  refine aR ⟨_,rfl,[0,1,2,3,4],iR (DU t l F 12),ND t m,⟨Ub,by decide⟩,rfl,by (simp[cX,zC,hΓ,AW]),rfl,rfl,rfl⟩
def IA(t:CB)(F:PS)(ls:List Int):PS:=fun p=>ls.foldl (fun a l=>a ||| VE t l F p) (F p)
def K3(A B:PS)(k:Nat):PS:=fun p=>if p < k then A p ||| B p else A p
theorem ZI{A B:PS}{k:Nat}:K3 A B (k+1)=fun p=>if p=k then K3 A B k k ||| B k else K3 A B k p:=by
 funext p
 unfold K3
 by_cases e:p=k
 ·subst e;simp
 ·by_cases h:p < k
  ·rw [if_pos (by omega),if_neg e,if_pos h]
  ·rw [if_neg (by omega),if_neg e,if_neg h]
theorem aT{t:CB}{F:PS}{ls:List Int}{l:Int}:IA t F (ls++[l])=fun p=>IA t F ls p ||| VE t l F p:=by
 funext p
 unfold IA
 rw [List.foldl_append];rfl
theorem Yw{α:Type}{g:α→Nat}{j:Nat}:∀ {l:List α} {a:Nat},(l.foldl (fun a x=>a ||| g x) a).testBit j=true↔a.testBit j=true∨∃x∈l,(g x).testBit j=true
 | [],a=>by simp
 | x::l,a=>by
  rw [List.foldl_cons,Yw,Nat.testBit_or,Bool.or_eq_true]
  simp [or_assoc]
theorem Hs{t:CB}{F:PS}{ls:List Int}{p j:Nat}:(IA t F ls p).testBit j=true↔(F p).testBit j=true∨∃l∈ls,(VE t l F p).testBit j=true:=Yw
theorem Xz{t:CB}(ht:A6 t=true){F:PS}(h:CS t F){ls:List Int}(hl:∀l∈ls,0≤l∧l < 6):CS t (IA t F ls):=by
 refine⟨fun p=>Jo fun j hj=>?_,fun p hp=>Hw fun j=>?_⟩
 ·rcases Hs.1 hj with h1|⟨l,h1,h2⟩
  ·exact KS (h.lt p) h1
  ·exact KS ((Kh ht (hl l h1) h).lt p) h2
 ·cases hb:(IA t F ls p).testBit j
  ·rfl
  ·rcases Hs.1 hb with h1|⟨l,h1,h2⟩
   ·rw [h.z p hp] at h1;simp at h1
   ·rw [(Kh ht (hl l h1) h).z p hp] at h2;simp at h2
theorem sub_le{a b:Nat}(h:∀j,a.testBit j=true→b.testBit j=true):a≤b:=by
 have:a ||| b=b:=Nat.eq_of_testBit_eq fun j=>by
  rw [Nat.testBit_or]
  cases ha:a.testBit j
  ·simp
  ·simp [h j ha]
 rw [←this];exact Nat.left_le_or
def NA(F:PS):Nat:=(65535 - F 0)+(65535 - F 1)+(65535 - F 2)+(65535 - F 3)+(65535 - F 4)+(65535 - F 5)+(65535 - F 6)+(65535 - F 7)+(65535 - F 8)+(65535 - F 9)+(65535 - F 10)+(65535 - F 11)
theorem XZ{F G:PS}(hF:∀p,F p < 65536)(hG:∀p,G p < 65536)(h:∀p,F p≤G p)(hne:Hd G≠Hd F):NA G < NA F:=by
 have h1:¬NA F≤NA G:=fun hle=>hne (Rs fun p hp=>by
  have a0:=h 0;have a1:=h 1;have a2:=h 2;have a3:=h 3;have a4:=h 4;have a5:=h 5;have a6:=h 6;have a7:=h 7;have a8:=h 8;have a9:=h 9;have a10:=h 10;have a11:=h 11
  have b0:=hG 0;have b1:=hG 1;have b2:=hG 2;have b3:=hG 3;have b4:=hG 4;have b5:=hG 5;have b6:=hG 6;have b7:=hG 7;have b8:=hG 8;have b9:=hG 9;have b10:=hG 10;have b11:=hG 11
  unfold NA at hle
  obtain rfl|rfl|rfl|rfl|rfl|rfl|rfl|rfl|rfl|rfl|rfl|rfl:p=0∨p=1∨p=2∨p=3∨p=4∨p=5∨p=6∨p=7∨p=8∨p=9∨p=10∨p=11:=by omega
  all_goals omega)
 omega
theorem gi{F:PS}(h:∀p,F p < 65536):∀x∈Hd F,(Lit.int .u16 x).wf=true:=fun x hx=>by
 have:∃p,x=(F p:Int):=by
  unfold Hd at hx
  simp only [List.mem_cons,List.not_mem_nil,or_false] at hx
  rcases hx with h|h|h|h|h|h|h|h|h|h|h|h<;>exact⟨_,h⟩
 obtain⟨p,rfl⟩:=this
 have:=h p
 simp [Lit.wf,IntKind.min,IntKind.max,IntKind.signed,IntKind.bits]
 omega
section
variable {t:CB}(ht:A6 t=true)
include ht
theorem aV{F0 F:PS}(h2:∀p j,(F p).testBit j=true→PQ t F0 p j){p j:Nat}(h:(IA t F (Ck t) p).testBit j=true):PQ t F0 p j:=by
 rcases Hs.1 h with h1|⟨l,hl,h1⟩
 ·exact h2 p j h1
 ·obtain⟨q,hq,hg,hb⟩:=K5.1 h1
  unfold C7 at hb
  rw [if_pos (DA ht hl).2.2] at hb
  obtain⟨e,he,⟨h3,h4⟩,h5⟩:=DC.1 hb
  subst h3
  have:=PQ.step (h2 q _ h4) he hl rfl
  rw [hg,h5] at this
  simpa using this
theorem Zc{F0 F:PS}(h0:CS t F0)(hF:CS t F)(h1:∀p j,(F0 p).testBit j=true→(F p).testBit j=true)(h2:∀p j,(F p).testBit j=true→PQ t F0 p j)(he:IA t F (Ck t)=F):F=RY t F0:=
 bk ht h0 hF.z h1 h2 fun p l j hp hl hj=>by
  have hin:=DA ht hl
  have hga:=Db (Cn ht) hp hin.1 hin.2.1
  rw [←he]
  refine Hs.2 (.inr ⟨l,hl,K5.2 ⟨p,hp,by omega,?_⟩⟩)
  unfold C7
  rw [if_pos hin.2.2]
  exact hj
end
theorem TN[Dl TB]{t:CB}(ht:A6 t=true)(m:Hh){F0:PS}(hF0:CS t F0):Spec Tryz.prog TB 155 (ND t m) 5 [.o (.ptr 0 14 0 0),iR F0] (fun x σ nx=>x=iR (RY t F0)∧σ=ND t m∧nx=5):=by
 have hah:=AF (Cn ht)
 have hll:(Ck t).length≤6:=by
  unfold Ck
  have h1:(Ac t.s.al).length≤6:=AS _ _
  exact Nat.le_trans (List.length_filter_le _ _) h1
 refine eR Tryz.func155 rfl (by kernel_rfl) rfl ?_;intro Γ hΓ
 (repeat first|refine aU rfl ?_)
 (refine pW rfl ?_ rfl (by rfl);refine Di rfl rfl ?_)
 (repeat first|refine tM rfl ?_ |refine Aa ?_)
 refine aB ?_
 refine aL (α:={F:PS // CS t F∧(∀p j,(F0 p).testBit j=true→(F p).testBit j=true)∧∀p j,(F p).testBit j=true→PQ t F0 p j}) [0,3,4] [0,1,2,3,4,6] rfl rfl (fun s=>[]) (fun s=>[(5,.cells 199 12 [Rr s.1])]) 7 (fun s=>NA s.1) (⟨F0,hF0,fun _ _ h=>h,fun _ _ h=>.base h⟩) hΓ rfl (by (simp[cX,zC,hΓ,AW]<;>rfl)) ?_;rintro⟨F,hF,h1,h2⟩;(try dsimp only[cA,cB])
 have hF:CS t F:=hF
 refine aB ?_
 (repeat first|refine sN rfl ?_ |refine tA rfl ?_ |refine aU rfl ?_ |refine Aa ?_)
 refine aB ?_
 refine aL (α:={k:Nat // k≤(Ck t).length}) [0,3,4,5,14,15] [0,1,2,3,4,5,6] rfl rfl (fun s=>[(16,eI .i64 s.1)]) (fun s=>[(7,.cells 199 12 [Rr (IA t F ((Ck t).take s.1))])]) 8 (fun s=>(Ck t).length - s.1) (⟨0,by omega⟩) hΓ rfl (by (simp[cX,zC,hΓ,AW]<;>rfl)) ?_;rintro⟨k,hk⟩;(try dsimp only[cA,cB])
 by_cases hkl:k < (Ck t).length
 ·obtain⟨l,hlk⟩:=get_some hkl
  have hin:=DA ht (List.mem_of_getElem? hlk)
  have hl':((Ck t).map Bk)[((k:Nat):Int).toNat]? = some (Bk l):=by rw [Int.toNat_natCast];simp [hlk]
  have hall:∀x∈(Ck t).take k,0≤x∧x < 6:=fun x hx=>by
   have:=DA ht (List.mem_of_mem_take hx)
   omega
  have hA:=Xz ht hF hall
  have hG:=Kh ht (l:=l) ⟨hin.1,hin.2.1⟩ hF
  have hnx:IA t F ((Ck t).take (k+1))=fun p=>IA t F ((Ck t).take k) p ||| VE t l F p:=by rw [List.take_add_one,hlk];exact aT
  have hmv:=X8 (TB:=TB) ht m (l:=l) ⟨hin.1,hin.2.1⟩ hF
  generalize IA t F ((Ck t).take k)=A at *
  generalize VE t l F=G at *
  (repeat first|refine s2 rfl fun _ _hb=>?_ |refine aU rfl ?_ |refine Aa ?_)
  ((refine aC rfl ?_ ?_<;>rintro⟨⟩);all_goals try(exfalso;(simp only[oZ] at *;omega)))
  refine aK ?_
  refine aS (aB ?_)
  (repeat first|refine tA rfl ?_ |(refine s4 rfl ‹_› rfl ?_ ?_;omega) |refine aU rfl ?_ |refine Aa ?_)
  (refine pW rfl ?_ rfl (by rfl);refine Bq [0,1,2,3,4] rfl rfl (hmv) ⟨rfl,by decide,by decide⟩ rfl (by simp[cX,zC,hΓ,AW]) ?_;rintro x0 σ1 nx1 ⟨rfl,rfl,rfl⟩ _)
  (repeat first|refine tA rfl ?_)
  refine Aa ?_
  refine aB ?_
  refine aL (α:={p:Nat // p≤12}) [0,3,4,5,14,15,16,23] [0,1,2,3,4,5,6] rfl rfl (fun s=>[(24,eI .i64 s.1)]) (fun s=>[(7,.cells 199 12 [Rr (K3 A G s.1)])]) 8 (fun s=>12 - s.1) (⟨0,by omega⟩) hΓ rfl (by (simp[cX,zC,hΓ,AW]<;>rfl)) ?_;rintro⟨p,hp⟩;(try dsimp only[cA,cB])
  by_cases hpl:p < 12
  ·have hx:(Hd G)[((p:Nat):Int).toNat]? = some (G p:Int):=by rw [Int.toNat_natCast];exact Jy hpl
   have ej:0+((p:Nat):Int).toNat*1=p:=by omega
   have hmx:K3 A G p p < 65536:=by
    unfold K3
    rw [if_neg (by omega)]
    exact hA.lt p
   have hj:(Rr (K3 A G p))[0+((p:Nat):Int).toNat*1]? = some (.d (.v (.int .u16 (K3 A G p p:Int)))):=by rw [ej];exact N0 hpl
   have hor:=XT hmx (hG.lt p)
   have hset:=Yy (F:=K3 A G p) (p:=p) hpl (v:=K3 A G p p ||| G p)
   rw [←ZI] at hset
   (repeat first|refine s2 rfl fun _ _hb=>?_ |refine aU rfl ?_ |refine Aa ?_)
   ((refine aC rfl ?_ ?_<;>rintro⟨⟩);all_goals try(exfalso;(simp only[oZ] at *;omega)))
   refine aK ?_
   refine aS (aB ?_)
   (repeat first|(refine sA rfl ?_ ?_;first|exact tI|omega)|(refine Ai rfl ?_;refine gA rfl ?_;first| refine gS (fun _ _=>Le (l:=Hd G) rfl rfl rfl (by omega) hx) ?_|refine gQ (O8 rfl rfl rfl hj) rfl ?_) |refine aU rfl ?_ |refine Aa ?_)
   (refine Ai rfl ?_;refine HJ ?_ rfl (by rfl);refine Fk (r:=Rr (K3 A G p)) rfl rfl rfl rfl rfl rfl (by show 0+((p:Nat):Int).toNat*1+1≤12;omega) ?_)
   refine Aa ?_
   (repeat first|(refine sA rfl ?_ ?_;first|exact tI|omega) |refine aU rfl ?_ |refine Aa ?_)
   refine⟨⟨p+1,by omega⟩,by dsimp only;(omega),[0,1,2,3,4,5,6,7],?_⟩
   simp[cX,zC,hΓ,AW,hor];exact⟨Ub,by simpa [Af] using hset⟩
  ·obtain rfl:p=12:=by omega
   have hmx:Hd (K3 A G 12)=Hd fun p=>A p ||| G p:=Rs fun p hp=>by unfold K3;rw [if_pos hp]
   (repeat first|refine s2 rfl fun _ _hb=>?_ |refine aU rfl ?_ |refine Aa ?_)
   ((refine aC rfl ?_ ?_<;>rintro⟨⟩);all_goals try(exfalso;(simp only[oZ] at *;omega)))
   refine aE ?_
   (repeat first|(refine sA rfl ?_ ?_;first|exact tI|omega) |refine aU rfl ?_ |refine Aa ?_)
   refine⟨⟨k+1,by omega⟩,by dsimp only;(omega),[0,1,2,3,4,5,6,7],?_⟩
   simp[cX,zC,hΓ,AW,hnx];exact⟨Ub,congrArg (List.map _) hmx⟩
 ·obtain rfl:k=(Ck t).length:=by omega
  rw [List.take_length]
  have hA:=Xz ht hF fun x hx=>by
   have:=DA ht hx
   show 0≤x∧x < 6
   omega
  (repeat first|refine s2 rfl fun _ _hb=>?_ |refine aU rfl ?_ |refine Aa ?_)
  ((refine aC rfl ?_ ?_<;>rintro⟨⟩);all_goals try(exfalso;(simp only[oZ] at *;omega)))
  refine aE ?_
  (repeat first|refine tA rfl ?_|(refine Ai rfl ?_;refine gA rfl ?_;first| (refine gB (fun _ _=>kB (a:=Hd (IA t F (Ck t))) (b:=Hd F) rfl rfl rfl rfl (gi hA.lt) (gi hF.lt)) ?_;intro _ _hb)) |refine aU rfl ?_ |refine Aa ?_)
  (refine aC rfl ?_ ?_<;>rintro⟨⟩)
  ·have he:IA t F (Ck t)=F:=by
    have h3:Hd (IA t F (Ck t))=Hd F:=by simpa using _hb
    have h4:=SI h3
    funext p
    rcases Nat.lt_or_ge p 12 with h5|h5
    ·exact h4 p h5
    ·rw [hA.z p (by omega),hF.z p (by omega)]
   rw [←Zc ht hF0 hF h1 h2 he]
   (repeat first|refine tA rfl ?_ |refine aU rfl ?_ |refine Aa ?_)
   refine aR ⟨_,rfl,[0,1,2,3,4],iR F,ND t m,⟨Ub,by decide⟩,rfl,by (simp[cX,zC,hΓ,AW]),rfl,rfl,rfl⟩
  ·have hne:Hd (IA t F (Ck t))≠Hd F:=by simpa using _hb
   have hsub:∀p,F p≤IA t F (Ck t) p:=fun p=>sub_le fun j hj=>Hs.2 (.inl hj)
   have hm:=XZ hF.lt hA.lt hsub hne
   refine aK ?_
   (repeat first|refine tA rfl ?_ |refine aU rfl ?_ |refine Aa ?_)
   refine⟨⟨IA t F (Ck t),hA,fun p j hj=>Hs.2 (.inl (h1 p j hj)),fun p j hj=>aV ht h2 hj⟩,by dsimp only;(omega),[0,1,2,3,4,5,6],?_⟩
   simp[cX,zC,hΓ,AW];exact⟨Ub,rfl,rfl⟩
inductive Reach (t:CB):PS→Prop
 | start:Reach t (Cm t)
 | next {F:PS} {l:Int}:0≤l→l < 6→Reach t F→Reach t (DV t l F)
theorem Reach.ok{t:CB}(ht:A6 t=true){F:PS}(h:Reach t F):CS t F:=by
 induction h with
 | start=>exact Gg ht
 | next h0 h1 _ ih=>exact K9 ht ⟨h0,h1⟩ ih
noncomputable def GI(t:CB):PS→W→PS
 | F,[]=>F
 | F,c::w=>GI t (DV t ((c.toNat:Int) - 97) F) w
theorem Pn{t:CB}:∀(u v:W) (F:PS),GI t F (u++v)=GI t (GI t F u) v
 | [],v,F=>rfl
 | c::u,v,F=>by simp only [List.cons_append,GI];exact Pn u v _
def lg(t:CB)(ok:W→Prop)(F:PS):Prop:=F=Cm t∨∃u v,ok (u++v)∧F=GI t (Cm t) u
def js(t:CB)(ok:W→Prop):Prop:=∀l:List PS,l.Nodup→(∀F∈l,lg t ok F)→l.length≤1099511627776
structure JN (t:CB) (ok:W→Prop) (m:Hh):Prop where
 l1:m.nx.length=m.F.length
 l2:m.un.length=m.F.length
 nd:m.F.Nodup
 rc:∀F∈m.F,Reach t F
 rk:∀F∈m.F,lg t ok F
 un:∀(i:Nat) F,m.F[i]? = some F→m.un[i]? = some (GR t F)
 nx:∀(i:Nat) F,m.F[i]? = some F→∃r:List Int,m.nx[i]? = some r∧r.length=6∧∀l:Nat,l < 6→∃x,r[l]? = some x∧(x < 0∨∃j:Nat,x=j∧m.F[j]? = some (DV t l F))
def JK(t:CB)(m:Hh)(G:PS):Hh:=⟨m.F++[G],m.nx++[[-1,-1,-1,-1,-1,-1]],m.un++[GR t G]⟩
theorem gu{t:CB}(ht:A6 t=true){F G:PS}(hF:CS t F)(hG:CS t G)(h:Hd F=Hd G):F=G:=by
 have h4:=SI h
 have h0:=AF (Cn ht)
 funext p
 rcases Nat.lt_or_ge p 12 with h5|h5
 ·exact h4 p h5
 ·rw [hF.z p (by omega),hG.z p (by omega)]
theorem Sy{l:List PS}{p:List Int×Int}:p∈Qi l↔∃(i:Nat) (F:PS),l[i]? = some F∧p=(Hd F,(i:Int)):=by
 unfold Qi
 rw [List.mem_map]
 constructor
 ·rintro⟨⟨F,i⟩,h,rfl⟩
  exact⟨i,F,List.mk_mem_zipIdx_iff_getElem?.1 h,rfl⟩
 ·rintro⟨i,F,h,rfl⟩
  exact⟨(F,i),List.mk_mem_zipIdx_iff_getElem?.2 h,rfl⟩
theorem eW(l:List PS)(G:PS):Qi (l++[G])=Qi l++[(Hd G,(l.length:Int))]:=by
 unfold Qi
 rw [List.zipIdx_append]
 simp
theorem bZ{t:CB}(ht:A6 t=true){l:List PS}(hn:l.Nodup)(hr:∀F∈l,Reach t F):(Qi l).Pairwise (fun a b=>a.1≠b.1):=by
 unfold Qi
 rw [List.pairwise_map,List.pairwise_iff_getElem]
 intro i j h1 h2 hij
 simp only [List.length_zipIdx] at h1 h2
 simp only [List.getElem_zipIdx]
 intro he
 have:=gu ht ((hr _ (List.getElem_mem h1)).ok ht) ((hr _ (List.getElem_mem h2)).ok ht) he
 exact List.pairwise_iff_getElem.1 hn i j h1 h2 hij this
theorem bY{t:CB}(ht:A6 t=true){l:List PS}(hr:∀F∈l,Reach t F):Qu 12 .u16 (Qi l):=fun p hp=>by
 obtain⟨i,F,h1,rfl⟩:=Sy.1 hp
 exact⟨rfl,gi ((hr F (List.mem_of_getElem? h1)).ok ht).lt⟩
theorem Zu{t:CB}(ht:A6 t=true){l:List PS}(hn:l.Nodup)(hr:∀F∈l,Reach t F){G:PS}(hG:CS t G){v:Int}(h:DF (Qi l) (Hd G)=some v):∃k:Nat,v=k∧l[k]? = some G:=by
 have:∃p∈Qi l,p.1=Hd G:=by
  refine Classical.byContradiction fun hc=>?_
  have h2:DF (Qi l) (Hd G)=none:=Ib.2 fun p hp he=>hc ⟨p,hp,he⟩
  rw [h2] at h;cases h
 obtain⟨p,hp,he⟩:=this
 have h3:=Mb (bZ ht hn hr) hp
 rw [he,h] at h3
 obtain⟨i,F,h4,rfl⟩:=Sy.1 hp
 have:=gu ht ((hr F (List.mem_of_getElem? h4)).ok ht) hG he
 subst this
 exact⟨i,by injection h3,h4⟩
theorem Zt{l:List PS}{G:PS}(h:DF (Qi l) (Hd G)=none):G∉l:=fun hG=>by
 obtain⟨i,hi,he⟩:=List.getElem_of_mem hG
 exact Ib.1 h (Hd G,(i:Int)) (Sy.2 ⟨i,G,by rw [List.getElem?_eq_getElem hi,he],rfl⟩) rfl
theorem Kz{α:Type}{l:List α}{a x:α}{i:Nat}(h:l[i]? = some x):(l++[a])[i]? = some x:=by
 rw [List.getElem?_append_left (List.getElem?_eq_some_iff.1 h).1];exact h
theorem TE{α:Type}{l:List α}{a x:α}{i:Nat}(h:(l++[a])[i]? = some x):l[i]? = some x∨i=l.length∧x=a:=by
 rcases Nat.lt_or_ge i l.length with h1|h1
 ·rw [List.getElem?_append_left h1] at h;exact .inl h
 ·rw [List.getElem?_append_right h1] at h
  have h2:i - l.length < 1:=(List.getElem?_eq_some_iff.1 h).1
  have h3:i=l.length:=by simp at h2;omega
  subst h3
  simp at h
  exact .inr ⟨rfl,h.symm⟩
theorem Xx{t:CB}{ok:W→Prop}{m:Hh}(hm:JN t ok m){G:PS}(hG:Reach t G)(hk:lg t ok G)(h:G∉m.F):JN t ok (JK t m G):=by
 refine⟨by simp [JK,hm.l1],by simp [JK,hm.l2],?_,?_,?_,?_,?_⟩
 ·show (m.F++[G]).Nodup
  rw [List.nodup_append]
  exact⟨hm.nd,by simp,fun a ha b hb=>by simp at hb;subst hb;intro e;subst e;exact h ha⟩
 ·intro F hF
  rcases List.mem_append.1 hF with hF|hF
  ·exact hm.rc F hF
  ·simp at hF;subst hF;exact hG
 ·intro F hF
  rcases List.mem_append.1 hF with hF|hF
  ·exact hm.rk F hF
  ·simp at hF;subst hF;exact hk
 ·intro i F hF
  rcases TE hF with h1|⟨h1,rfl⟩
  ·exact Kz (hm.un i F h1)
  ·subst h1;show (m.un++[GR t F])[m.F.length]? = _;rw [←hm.l2];simp
 ·intro i F hF
  rcases TE hF with h1|⟨h1,rfl⟩
  ·obtain⟨r,h2,h3,h4⟩:=hm.nx i F h1
   refine⟨r,Kz h2,h3,fun l hl=>?_⟩
   obtain⟨x,h5,h6⟩:=h4 l hl
   refine⟨x,h5,h6.imp id ?_⟩
   rintro⟨j,h7,h8⟩
   exact⟨j,h7,Kz h8⟩
  ·refine⟨[-1,-1,-1,-1,-1,-1],by subst h1;show (m.nx++_)[m.F.length]? = _;rw [←hm.l1];simp,rfl,fun l hl=>⟨-1,?_,.inl (by omega)⟩⟩
   obtain rfl|rfl|rfl|rfl|rfl|rfl:l=0∨l=1∨l=2∨l=3∨l=4∨l=5:=by omega
   all_goals rfl
def Hv(t:CB)(F:PS)(k:Nat):Bool:=(List.range k).any fun p=>decide (F p≠0) && !(t.q.ac.getD p false)
theorem JY{t:CB}{F:PS}{k:Nat}:Hv t F (k+1)=(Hv t F k || (decide (F k≠0) && !(t.q.ac.getD k false))):=by
 unfold Hv
 rw [List.range_succ,List.any_append];simp
theorem Zb{t:CB}{F:PS}(h:CS t F)(hn:t.q.nx.length≤12):Hv t F 12=GR t F:=by
 have key:∀k,Hv t F (t.q.nx.length+k)=Hv t F t.q.nx.length:=fun k=>by
  induction k with
  | zero=>rfl
  | succ k ih=>rw [←Nat.add_assoc,JY,ih,h.z _ (by omega)];simp
 have:=key (12 - t.q.nx.length)
 rw [show t.q.nx.length+(12 - t.q.nx.length)=12 by omega] at this
 rw [this];rfl
section
variable {P:Program}{Γ:Ctx}{d:Option Tmp}{ty:TypeId}{pos:String}{af:Array Edge}{g:Option (Nat×Bool)}{f:Env}{σ:Ab}{nx:Nat}{t:TypeId}{n:Nat}{q:IntKind}{m e:TypeId}{x y:Operand}{id:Nat}{l:List (List Int×Int)}{s:List Int}
theorem cZ{v:Int}[hm:Ku P m t e][h:Gh P t n q][hz:Qt P e (.int .i64 0)](hv:DF l s=some v)(hx:ev f x=some (.o (.mp id)))(hy:ev f y=some (eK q s))(ho:look σ id=some (.mp (mapA q l)))
 (hl:Qu n q l) (hd:l.Pairwise (fun a b=>a.1≠b.1)) (hs:s.length=n) (hw:∀x∈s,(Lit.int q x).wf=true) :
 AQ P TB Γ ⟨d,.lookup m x y true,ty,pos,af,g⟩ f σ nx (.t [(false,[.d (.v (.int .i64 v))]),(false,[.d (.v (.bool true))])]):=by
 have:=YB (P:=P) (TB:=TB) (Γ:=Γ) (d:=d) (ty:=ty) (pos:=pos) (af:=af) (g:=g) (nx:=nx) (t:=t) (m:=m) (e:=e) hx hy ho hl hd hs hw
 rw [hv] at this;exact this
theorem cY[hm:Ku P m t e][h:Gh P t n q][hz:Qt P e (.int .i64 0)](hv:DF l s=none)(hx:ev f x=some (.o (.mp id)))(hy:ev f y=some (eK q s))(ho:look σ id=some (.mp (mapA q l)))
 (hl:Qu n q l) (hd:l.Pairwise (fun a b=>a.1≠b.1)) (hs:s.length=n) (hw:∀x∈s,(Lit.int q x).wf=true) :
 AQ P TB Γ ⟨d,.lookup m x y true,ty,pos,af,g⟩ f σ nx (.t [(false,[.d (.v (.int .i64 0))]),(false,[.d (.v (.bool false))])]):=by
 have:=YB (P:=P) (TB:=TB) (Γ:=Γ) (d:=d) (ty:=ty) (pos:=pos) (af:=af) (g:=g) (nx:=nx) (t:=t) (m:=m) (e:=e) hx hy ho hl hd hs hw
 rw [hv] at this;exact this
end
theorem aW{t:CB}{ok:W→Prop}(ht:A6 t=true){m:Hh}(hm:JN t ok m)(hlen:m.F.length≤1099511627776){G:PS}(hG:CS t G):∃(m':Hh) (k:Nat),((m'=m∧m.F[k]? = some G)∨(m'=JK t m G∧k=m.F.length∧G∉m.F))∧
 AG Tryz.prog TB 154 1 (ND t m) 5 [.o (.ptr 0 14 0 0),iR G] (fun x σ nx=>x=eI .i64 (k:Int)∧σ=ND t m'∧nx=5):=by
 have hah:=AF (Cn ht)
 have hpw:=bZ ht hm.nd hm.rc
 have hks:=bY ht hm.rc
 have hwf:=gi hG.lt
 cases hf:DF (Qi m.F) (Hd G) with
 | some v=>
  obtain⟨k,rfl,hk⟩:=Zu ht hm.nd hm.rc hG hf
  refine⟨m,k,.inl ⟨rfl,hk⟩,?_⟩
  refine AG.A1 (AG.Ql (m:=1) (Nat.le_of_ble_eq_true rfl) Tryz.func154 rfl (by kernel_rfl) (Nat.le_of_ble_eq_true rfl) ?_);intro Γ hΓ
  (repeat first|refine tA rfl ?_ |refine aU rfl ?_ |refine Aa ?_)
  refine rG (IW []) (by kernel_rfl) ?_
  (repeat first|refine tA rfl ?_|(refine Ai rfl ?_;refine gA rfl ?_;first| refine gQ (cZ (s:=Hd G) (l:=Qi m.F) hf rfl rfl rfl hks hpw rfl hwf) rfl ?_) |refine aU rfl ?_ |refine Aa ?_)
  (refine aC rfl ?_ ?_<;>rintro⟨⟩)
  (repeat first|refine tA rfl ?_ |refine aU rfl ?_ |refine Aa ?_)
  refine aR ⟨_,rfl,[0,1,2,3,4],eI .i64 (k:Int),ND t m,⟨by intro i hi;match i with|0=>rfl,by decide⟩,rfl,by (simp[cX,zC,hΓ,AW]),rfl,rfl,rfl⟩
 | none =>
  refine⟨JK t m G,m.F.length,.inr ⟨rfl,rfl,Zt hf⟩,?_⟩
  have h1:=hm.l1
  have h2:=hm.l2
  have hap:=eW m.F G
  refine AG.A1 (AG.Ql (m:=1) (Nat.le_of_ble_eq_true rfl) Tryz.func154 rfl (by kernel_rfl) (Nat.le_of_ble_eq_true rfl) ?_);intro Γ hΓ
  (repeat first|refine tA rfl ?_ |refine aU rfl ?_ |refine Aa ?_)
  refine rG (IW []) (by kernel_rfl) ?_
  (repeat first|refine tA rfl ?_|(refine Ai rfl ?_;refine gA rfl ?_;first| refine gQ (cY (s:=Hd G) (l:=Qi m.F) hf rfl rfl rfl hks hpw rfl hwf) rfl ?_) |refine aU rfl ?_ |refine Aa ?_)
  (refine aC rfl ?_ ?_<;>rintro⟨⟩)
  refine aK ?_
  (repeat first|refine tA rfl ?_ |refine aU rfl ?_ |refine Aa ?_)
  refine rG (IW [6]) (by kernel_rfl) ?_
  (repeat first|refine tA rfl ?_)
  (refine Ai rfl ?_;refine HJ ?_ rfl (by rfl);refine iC (s:=Hd G) (l:=Qi m.F) rfl rfl rfl rfl hks hpw rfl hwf hf ?_)
  rw [←hap]
  refine Aa ?_
  (repeat first|refine aU rfl ?_)
  refine rG (dS [(4,0),(7,1),(10,1)]) (by kernel_rfl) ?_
  (repeat first|refine tA rfl ?_)
  (refine pW rfl ?_ rfl (by rfl);refine AH rfl rfl rfl (by first| (simp;done)|(simp;(omega))) rfl (by intro r hr;simp at hr;subst hr;rfl) (by rfl) (Nat.le_of_ble_eq_true rfl) (by simp;omega) ?_)
  (repeat first|refine tA rfl ?_ |refine aU rfl ?_ |refine Aa ?_)
  (repeat first|refine tA rfl ?_|(refine Ai rfl ?_;refine gA rfl ?_;first| refine gS (fun _ _=>AU rfl rfl (by rfl) (by rfl)) ?_))
  (refine pW rfl ?_ rfl (by rfl);refine AH rfl rfl rfl (by first| (simp;done)|(simp;(omega))) rfl (by intro r hr;simp at hr;subst hr;rfl) (by rfl) (Nat.le_of_ble_eq_true rfl) (by simp;omega) ?_)
  (repeat first|refine tA rfl ?_ |refine aU rfl ?_ |refine Aa ?_)
  refine Av.Ce [0,7,8,53,54] [] rfl rfl [] [(0,.cells 195 14 [dv t (.arr 1 12 0 (JK t m G).F.length) (.mp 2) (.arr 3 6 0 (JK t m G).nx.length) (.arr 4 1 0 m.un.length)]),(1,.cells 199 12 ((JK t m G).F.map Rr)),(2,.mp (mapA .u16 (Qi (JK t m G).F))),(3,.cells 121 6 ((JK t m G).nx.map Ro)),(4,.cells 4 1 (m.un.map AB))] [0,5,2,6,4] (rl hΓ rfl) (by (simp[cX,zC,hΓ,AW,JK]<;>rfl)) ?_;(try dsimp only[cA,cB])
  refine aB ?_
  refine aL (α:={k:Nat // k≤12}) [0,7,53] [0,1,2,3,4] rfl rfl (fun s=>[(8,eB (Hv t G s.1)),(54,eI .i64 s.1)]) (fun s=>[]) 5 (fun s=>12 - s.1) (⟨0,by omega⟩) hΓ rfl (by (simp[cX,zC,hΓ,AW]<;>rfl)) ?_;rintro⟨k,hk⟩;(try dsimp only[cA,cB])
  by_cases hkl:k < 12
  ·have hx:(Hd G)[((k:Nat):Int).toNat]? = some (G k:Int):=by rw [Int.toNat_natCast];exact Jy hkl
   have hs:=JY (t:=t) (F:=G) (k:=k)
   generalize Hv t G k=b0 at *
   by_cases hkn:k < t.q.nx.length
   ·obtain⟨b,hb⟩:=get_some (l:=t.q.ac) (k:=((k:Nat):Int).toNat) (by omega)
    have hb':=get_map (g:=HY) hb
    have hgd:t.q.ac.getD k false=b:=by rw [Int.toNat_natCast] at hb;simp [List.getD,hb]
    rw [hgd] at hs
    (repeat first|refine s2 rfl fun _ _hb=>?_ |refine aU rfl ?_ |refine Aa ?_)
    ((refine aC rfl ?_ ?_<;>rintro⟨⟩);all_goals try(exfalso;(simp only[oZ] at *;omega)))
    refine aK ?_
    refine aS (aB ?_)
    (repeat' first|(refine sA rfl ?_ ?_;first|exact tI|omega) |(refine s4 rfl ‹_› rfl ?_ ?_;omega) |refine s2 rfl fun _ _hb=>?_|(refine Ai rfl ?_;refine gA rfl ?_;first| refine gS (fun _ _=>Le (l:=Hd G) rfl rfl rfl (by omega) hx) ?_) |refine s3 rfl ?_ ?_<;>rintro rfl |refine aU rfl ?_ |refine Aa ?_|(refine aC rfl ?_ ?_<;>rintro⟨⟩));all_goals try contradiction
    all_goals ((try refine aK ?_);refine⟨⟨k+1,by omega⟩,by dsimp only;(omega),[0,1,2,3,4],?_⟩;simp only [decide_eq_true_eq,decide_eq_false_iff_not] at *;simp[cX,zC,hΓ,AW,hs];try (simp_all;done))
   ·have hz:=hG.z k (by omega)
    rw [hz] at hs
    (repeat first|refine s2 rfl fun _ _hb=>?_ |refine aU rfl ?_ |refine Aa ?_)
    ((refine aC rfl ?_ ?_<;>rintro⟨⟩);all_goals try(exfalso;(simp only[oZ] at *;omega)))
    refine aK ?_
    refine aS (aB ?_)
    (repeat' first|(refine sA rfl ?_ ?_;first|exact tI|omega) |refine s2 rfl fun _ _hb=>?_|(refine Ai rfl ?_;refine gA rfl ?_;first| refine gS (fun _ _=>Le (l:=Hd G) rfl rfl rfl (by omega) hx) ?_) |refine s3 rfl ?_ ?_<;>rintro rfl |refine aU rfl ?_ |refine Aa ?_|(refine aC rfl ?_ ?_<;>rintro⟨⟩));all_goals try contradiction
    all_goals first| (exfalso;(simp only[oZ] at *;omega);done)|skip
    all_goals ((try refine aK ?_);refine⟨⟨k+1,by omega⟩,by dsimp only;(omega),[0,1,2,3,4],?_⟩;simp[cX,zC,hΓ,AW,hs];try (simp_all;done))
  ·obtain rfl:k=12:=by omega
   rw [Zb hG (by omega)]
   (repeat first|refine s2 rfl fun _ _hb=>?_ |refine aU rfl ?_ |refine Aa ?_)
   ((refine aC rfl ?_ ?_<;>rintro⟨⟩);all_goals try(exfalso;(simp only[oZ] at *;omega)))
   refine aE ?_
   (repeat first|refine tA rfl ?_ |refine aU rfl ?_)
   (refine pW rfl ?_ rfl (by rfl);refine AH rfl rfl rfl (by first| (simp;done)|(simp;(omega))) rfl (by intro r hr;simp at hr;subst hr;rfl) (by rfl) (Nat.le_of_ble_eq_true rfl) (by simp;omega) ?_)
   (repeat first|refine tA rfl ?_ |refine aU rfl ?_ |refine Aa ?_)
   refine aR ⟨_,rfl,[0,1,2,3,5],eI .i64 (m.F.length:Int),ND t (JK t m G),⟨by intro i hi;match i with|0=>rfl,by decide⟩,rfl,by (simp[cX,zC,hΓ,AW,JK]),rfl,rfl,rfl⟩
def lC(m m':Hh):Prop:=∀(i:Nat) F,m.F[i]? = some F→m'.F[i]? = some F
theorem dW{t:CB}{m:Hh}{G:PS}:lC m (JK t m G):=fun _ _ h=>Kz h
def ZZ(m:Hh)(n:Nat)(r:List Int):Hh:={ m with nx:=m.nx.set n r }
theorem fK{t:CB}{ok:W→Prop}{m:Hh}(hm:JN t ok m){n k l:Nat}{F:PS}{r:List Int}(hF:m.F[n]? = some F)(hr:m.nx[n]? = some r)(hl:l < 6)(hk:m.F[k]? = some (DV t l F)):JN t ok (ZZ m n (r.set l k)):=by
 refine⟨by simp [ZZ,hm.l1],hm.l2,hm.nd,hm.rc,hm.rk,hm.un,fun i G hG=>?_⟩
 replace hG:m.F[i]? = some G:=hG
 by_cases e:i=n
 ·subst e
  rw [hF] at hG;injection hG with hG;subst hG
  obtain⟨r',h1,h2,h3⟩:=hm.nx i F hF
  rw [hr] at h1;injection h1 with h1;subst h1
  have hlt:=(List.getElem?_eq_some_iff.1 hr).1
  refine⟨r.set l k,by simp [ZZ,hlt],by simp [h2],fun l' hl'=>?_⟩
  by_cases e2:l'=l
  ·subst e2
   exact⟨k,by simp [h2,hl'],.inr ⟨k,rfl,hk⟩⟩
  ·obtain⟨x,h4,h5⟩:=h3 l' hl'
   exact⟨x,by rw [List.getElem?_set_ne (fun h=>e2 h.symm)];exact h4,h5⟩
 ·obtain⟨r',h1,h2,h3⟩:=hm.nx i G hG
  exact⟨r',by simp only [ZZ];rw [List.getElem?_set_ne (fun h=>e h.symm)];exact h1,h2,h3⟩
theorem Yu{r:List Int}{l:Nat}{x:Int}(h:r[l]? = some x):(Ro r)[l]? = some (.d (iD x)):=by simp [h]
theorem fe{r:List Int}{l:Nat}{x:Int}(h:l < r.length):Af (Ro r) l [.d (iD x)]=Ro (r.set l x):=by
 rw [Ir (by simpa using h)]
 unfold Ro
 rw [List.map_set]
theorem aX[Dl TB]{t:CB}{ok:W→Prop}(ht:A6 t=true)(hfew:js t ok){m:Hh}(hm:JN t ok m){n:Nat}{F:PS}(hF:m.F[n]? = some F){l:Int}(hl:0≤l∧l < 6)(hrk:lg t ok (DV t l F)):∃(m':Hh) (j:Nat),JN t ok m'∧lC m m'∧m'.F[j]? = some (DV t l F)∧
 AG Tryz.prog TB 156 1 (ND t m) 5 [.o (.ptr 0 14 0 0),eI .i64 (n:Int),eI .i64 l] (fun x σ nx=>x=eI .i64 (j:Int)∧σ=ND t m'∧nx=5):=by
 have hlen:=hfew m.F hm.nd hm.rk
 obtain⟨r,hr,hrl,hrx⟩:=hm.nx n F hF
 have hn:=(List.getElem?_eq_some_iff.1 hF).1
 have h1:=hm.l1
 obtain⟨x,hx,hxx⟩:=hrx l.toNat (by omega)
 have el:((l.toNat:Nat):Int)=l:=by omega
 rw [el] at hxx
 have hFo:=(hm.rc F (List.mem_of_getElem? hF)).ok ht
 have hr':(m.nx.map Ro)[0+((n:Nat):Int).toNat]? = some (Ro r):=by rw [Nat.zero_add,Int.toNat_natCast];simp [hr]
 have hx':(Ro r)[0+l.toNat*1]? = some (.d (iD x)):=by rw [Nat.zero_add,Nat.mul_one];exact Yu hx
 by_cases hx0:x < 0
 ·have hG:=K9 ht hl hFo
  have hGr:Reach t (DV t l F):=.next hl.1 hl.2 (hm.rc F (List.mem_of_getElem? hF))
  obtain⟨m1,k,hcase,hadd⟩:=aW (TB:=TB) ht hm hlen hG
  have hm1:JN t ok m1∧lC m m1∧m1.F[k]? = some (DV t l F):=by
   rcases hcase with ⟨rfl,h2⟩|⟨rfl,rfl,h2⟩
   ·exact⟨hm,fun _ _ h=>h,h2⟩
   ·exact⟨Xx hm hGr hrk h2,dW,by simp [JK]⟩
  obtain⟨hm1,hle,hk⟩:=hm1
  have hF1:=hle n F hF
  obtain⟨r1,hr1,hrl1,_⟩:=hm1.nx n F hF1
  have hn1:=(List.getElem?_eq_some_iff.1 hr1).1
  have hok:=fK (l:=l.toNat) hm1 hF1 hr1 (by omega) (k:=k) (by rw [el];exact hk)
  refine⟨_,k,hok,hle,hk,?_⟩
  have hmv:=X8 (TB:=TB) ht m hl hFo
  have hcl:=TN (TB:=TB) ht m (Kh ht hl hFo)
  have hs':(m.F.map Rr)[0+((n:Nat):Int).toNat]? = some (Rr F):=by rw [Nat.zero_add,Int.toNat_natCast];simp [hF]
  refine AG.A1 (AG.Ql (m:=1) (Nat.le_of_ble_eq_true rfl) Tryz.func156 rfl (by kernel_rfl) (Nat.le_of_ble_eq_true rfl) ?_);intro Γ hΓ
  (repeat first|(refine sA rfl ?_ ?_;first|exact tI|omega) |refine s2 rfl fun _ _hb=>?_|(refine Ai rfl ?_;refine gA rfl ?_;first| refine gQ (O8 rfl rfl (by assumption) hx') rfl ?_) |refine aU rfl ?_ |refine Aa ?_)
  ((refine aC rfl ?_ ?_<;>rintro⟨⟩);all_goals try(exfalso;(simp only[oZ] at *;omega)))
  (repeat first|(refine sA rfl ?_ ?_;first|exact tI|omega) |refine t4 rfl ‹_› rfl ?_ |refine aU rfl ?_)
  (refine pW rfl ?_ rfl (by rfl);refine Bq [0,1,2,3,4] rfl rfl (hmv) ⟨rfl,by decide,by decide⟩ rfl (by simp[cX,zC,hΓ,AW]) ?_;rintro x0 σ1 nx1 ⟨rfl,rfl,rfl⟩ _)
  (refine pW rfl ?_ rfl (by rfl);refine Bq [0,1,2,3,4] rfl rfl (hcl) ⟨rfl,by decide,by decide⟩ rfl (by simp[cX,zC,hΓ,AW]) ?_;rintro x0 σ1 nx1 ⟨rfl,rfl,rfl⟩ _)
  (refine pW rfl ?_ rfl (by rfl);refine CA [0,1,2,3,4] rfl rfl 1 (hadd) (by decide) ⟨rfl,by decide,by decide⟩ rfl (by simp[cX,zC,hΓ,AW]) ?_;rintro x0 σ1 nx1 ⟨rfl,rfl,rfl⟩ _)
  (repeat first|refine tA rfl ?_)
  refine Aa ?_
  refine Av.Ce [0,1,2,7] [] rfl rfl [] [(0,.cells 195 14 [dv t (.arr 1 12 0 m1.F.length) (.mp 2) (.arr 3 6 0 m1.nx.length) (.arr 4 1 0 m1.un.length)]),(1,.cells 199 12 (m1.F.map Rr)),(2,.mp (mapA .u16 (Qi m1.F))),(3,.cells 121 6 (m1.nx.map Ro)),(4,.cells 4 1 (m1.un.map AB))] [0,5,6,7,8] (rl hΓ rfl) (by (simp[cX,zC,hΓ,AW])) ?_;(try dsimp only[cA,cB])
  have hr1':(m1.nx.map Ro)[0+((n:Nat):Int).toNat]? = some (Ro r1):=by rw [Nat.zero_add,Int.toNat_natCast];simp [hr1]
  have hst:=fe (r:=r1) (l:=l.toNat) (x:=(k:Int)) (by omega)
  have hr2l:(r1.set l.toNat (k:Int))[l.toNat]? = some (k:Int):=by rw [List.getElem?_set_self (by omega)]
  generalize r1.set l.toNat (k:Int)=r2 at *
  have hst2:(Ro r1).take l.toNat++C.d (iD k)::(Ro r1).drop (l.toNat+1)=Ro r2:=by rw [←hst];simp [Af]
  (repeat first|(refine sA rfl ?_ ?_;first|exact tI|omega) |refine aU rfl ?_)
  (refine Ai rfl ?_;refine HJ ?_ rfl (by rfl);refine Fk (r:=Ro r1) rfl rfl rfl rfl hr1' rfl (by show 0+l.toNat*1+1≤6;omega) ?_)
  refine Aa ?_
  refine Av.Ce [0,1,2] [] rfl rfl [] [(0,.cells 195 14 [dv t (.arr 1 12 0 m1.F.length) (.mp 2) (.arr 3 6 0 m1.nx.length) (.arr 4 1 0 m1.un.length)]),(1,.cells 199 12 (m1.F.map Rr)),(2,.mp (mapA .u16 (Qi m1.F))),(3,.cells 121 6 ((m1.nx.set n r2).map Ro)),(4,.cells 4 1 (m1.un.map AB))] [0,1,2,3,4] (rl hΓ rfl) (by (simp[cX,zC,hΓ,AW,hst2])) ?_;(try dsimp only[cA,cB])
  have hr2:((m1.nx.set n r2).map Ro)[0+((n:Nat):Int).toNat]? = some (Ro r2):=by rw [Nat.zero_add,Int.toNat_natCast];simp [hn1]
  have hx2:(Ro r2)[0+l.toNat*1]? = some (.d (iD k)):=by rw [Nat.zero_add,Nat.mul_one];exact Yu hr2l
  (repeat first|(refine sA rfl ?_ ?_;first|exact tI|omega)|(refine Ai rfl ?_;refine gA rfl ?_;first| refine gQ (O8 rfl rfl (by assumption) hx2) rfl ?_) |refine aU rfl ?_ |refine Aa ?_)
  refine aR ⟨_,rfl,[0,1,2,3,4],eI .i64 (k:Int),ND t (ZZ m1 n r2),⟨by intro i hi;match i with|0=>rfl,by decide⟩,rfl,by (simp[cX,zC,hΓ,AW,ZZ]),rfl,rfl,rfl⟩
 ·obtain⟨j,rfl,hj⟩:=hxx.resolve_left hx0
  refine⟨m,j,hm,fun _ _ h=>h,hj,?_⟩
  refine AG.A1 (AG.Ql (m:=1) (Nat.le_of_ble_eq_true rfl) Tryz.func156 rfl (by kernel_rfl) (Nat.le_of_ble_eq_true rfl) ?_);intro Γ hΓ
  (repeat first|(refine sA rfl ?_ ?_;first|exact tI|omega) |refine s2 rfl fun _ _hb=>?_|(refine Ai rfl ?_;refine gA rfl ?_;first| refine gQ (O8 rfl rfl (by assumption) hx') rfl ?_) |refine aU rfl ?_ |refine Aa ?_)
  ((refine aC rfl ?_ ?_<;>rintro⟨⟩);all_goals try(exfalso;(simp only[oZ] at *;omega)))
  refine aK ?_
  (repeat first|(refine sA rfl ?_ ?_;first|exact tI|omega)|(refine Ai rfl ?_;refine gA rfl ?_;first| refine gQ (O8 rfl rfl (by assumption) hx') rfl ?_) |refine aU rfl ?_ |refine Aa ?_)
  refine aR ⟨_,rfl,[0,1,2,3,4],eI .i64 (j:Int),ND t m,⟨by intro i hi;match i with|0=>rfl,by decide⟩,rfl,by (simp[cX,zC,hΓ,AW]),rfl,rfl,rfl⟩
end Go.Am
namespace Go.Am
open Go
set_option linter.unusedVariables false
section
variable {P:Program}{TB:Bs}{Γ:Ctx}{d:Option Tmp}{ty:TypeId}{pos:String}{af:Array Edge}{g:Option (Nat×Bool)}{f:Env}{σ:Ab}{nx:Nat}
theorem l3{gg:FuncId}{x:Operand}{c:C}(hx:ev f x=some (.o c)):AQ P TB Γ ⟨d,.makeFunc (.func gg) #[x] #[],ty,pos,af,g⟩ f σ nx (.o (.mv gg [c])):=
 AJ fun V ρ h1 _=>by
  refine⟨.func (.func gg) #[ρ x] #[],by simp [execOp,Instr.makeFunc,go_sem],AA.mv rfl fun j c' v hj hv=>?_⟩
  have h2:AA V c (ρ x):=h1.get (by simp [Op.operands]) hx
  match j with
  | 0=>simp at hj hv;subst hj;subst hv;exact h2
  | j+1=>simp at hj
theorem iB{V:View}{gg:FuncId}{recv:List C}{v:Value}(h:Bb V (.o (.mv gg recv)) v):∃vs,v=.func (.func gg) vs #[]∧C3 V recv vs:=by
 have h:AA V (.mv gg recv) v:=h
 generalize hc:C.mv gg recv=c at h
 cases h<;>cases hc
 rename_i vs h1 h2
 exact⟨vs,rfl,h1,h2⟩
theorem VS{x:Operand}{args:Array Operand}{tys:Array TypeId}{gg:FuncId}{vs:Array Value}(hf:aI P gg){ρ:Operand→Value}(hv:ρ x=.func (.func gg) vs #[])(w:World) :
 (execOp ρ ⟨d,.call ⟨.value x,args,tys⟩,ty,pos,af,g⟩).run P w=.ok (.enter gg (vs++args.map ρ)) w:=by
 obtain⟨fn,h1,h2,h3⟩:=hf
 have hb:∃c,fn.body=some c:=by cases hb:fn.body with|none=>rw [hb] at h3;cases h3|some c=>exact⟨c,rfl⟩
 obtain⟨c,hb⟩:=hb
 simp only [execOp,resolve,hv,Deferred.ofValue,pure_bind,invoke,callFunc]
 have h2':¬fn.name = "runtime.NumGoroutine" := by simpa using h2
 simp [Sem.run,program,h1,h2',hb,go_sem]
theorem cK{x:Operand}{args:Array Operand}{tys:Array TypeId}{gg:FuncId}{recv:List C}{es:List E}{r:E}(hx:ev f x=some (.o (.mv gg recv)))(hes:JL f args.toList=some es)(hp:(es.all E.BW && C.C6 recv)=true)
 (hs:Pure P TB gg (recv.map .o++es) r) (hr:r.BW=true):AQ P TB Γ ⟨d,.call ⟨.value x,args,tys⟩,ty,pos,af,g⟩ f σ nx r:=by
 intro V a h1 h2 h3
 have h1:=h1.Hy
 unfold Oper.wp
 generalize a.eval=ρ at h1 ⊢
 obtain⟨vs,hv,hcap⟩:=iB (h1.get (x:=x) (by simp [Op.operands,Call.operands]) hx)
 rw [VS hs.1 hv]
 rw [Bool.and_eq_true] at hp
 have hel:=CO hes
 have hargs:Nn { V with nx:=0 } (recv.map .o++es) (vs++args.map ρ):=by
  refine⟨by simp [hcap.1,hel],fun j e v hj hv=>?_⟩
  have hsz:vs.size=recv.length:=hcap.1
  by_cases hlt:j < recv.length
  ·rw [List.getElem?_append_left (by simpa using hlt)] at hj
   rw [Array.getElem?_append_left (by rw [hsz];exact hlt)] at hv
   simp only [List.getElem?_map,Option.map_eq_some_iff] at hj
   obtain⟨c,hc,rfl⟩:=hj
   exact AA.BW (V:=V) (V':={ V with nx:=0 }) rfl rfl (hcap.2 _ c v hc hv) (FB _ hp.2 _ c hc)
  ·rw [List.getElem?_append_right (by simp;omega)] at hj
   rw [Array.getElem?_append_right (by rw [hsz];omega),hsz] at hv
   simp only [List.length_map] at hj
   refine Bb.BW (V:=V) (V':={ V with nx:=0 }) rfl rfl (Ht (fun y hy e he=>h1.get (by simp [Op.operands,Call.operands];right;simpa using hy) he) hes _ e v hj (by rw [←Array.toList_map];simpa using hv)) (List.all_eq_true.1 hp.1 e (List.mem_of_getElem? hj))
 obtain⟨S,hS,hSJ,hSB⟩:=h2.hid
 refine(hs.2 { V with nx:=0 } _ S ⟨h2.iLt,Em,h2.tabs,rfl,⟨hS.r,hS.ji,hS.bi,fun b ⟨_,_,h,_⟩=>by cases h⟩⟩ hargs).mono ?_
 rintro e w' ⟨V1,v,x1,σ1,rfl,rfl,hi1,hx1,rfl⟩
 obtain⟨hi',he'⟩:=JW h2 hS hSJ hSB (Vc:={ V with nx:=0 }) rfl hi1 V1.I (fun b hb=>hi1.ext.i b hb) (fun b hb=>by
  rcases hi1.iNew b hb with h|h|h|h
  ·exact .inl h
  ·exact .inr (.inl ⟨h,hi1.iLt b hb⟩)
  ·obtain⟨_,_,h,_⟩:=h;cases h
  ·exact .inr (.inr h)) (fun b hb _=>hb) (fun b hb=>hb)
 exact⟨{ V with I:=V1.I,w:=V1.w },v,rfl,rfl,he',hi',h3,Bb.BW (V:=V1) (V':={ V with I:=V1.I,w:=V1.w }) rfl rfl hx1 hr⟩
end
abbrev Pb(r:Nat):C:=.d (.v (.pointer (some ⟨r,0,none⟩)))
theorem cG{P:Program}{tabs:List (Nat×Obj)}{H:Hid}{r:Nat}{gg:FuncId}{k:Nat}{es:List E}{x0:E}(hf:aI P gg)(hsc:∀e∈es,e.sc=true)(hx:x0.sc=true)
 (h:∀s,AG P ⟨tabs,none⟩ gg 1 (H.st s) H.nx (.o (.ptr 0 k 0 0)::es) (fun x σ nx=>x=x0∧nx=H.nx∧∃s',σ=H.st s')):Pure P ⟨tabs,some (H,r)⟩ gg (.o (Pb r)::es) x0:=by
 refine⟨hf,fun V vs S hg ha=>?_⟩
 have hr:∃(s:H.S) (V0:View),V0.I=S.J∧V0.w=V.w∧V0.nx=H.nx∧Hr V0 (H.st s)∧(0 < V0.nx∧V0.ρ 0=r∧¬V0.nl 0∧∀x∈(⟨tabs,some (H,r)⟩:Bs),V0.I x.1)∧∀b,S.B b↔Dx V0 (H.st s) b:=hg.hid.r
 obtain⟨s,V0,e1,e2,e3,st,⟨n0,ρ0,nl0,tb⟩,hB⟩:=hr
 have hgood:Good ⟨tabs,none⟩ V0 (H.st s) H.nx ⟨fun _=>False,fun _=>False⟩:=
  ⟨fun b hb=>by rw [e2];exact hg.iLt b (hg.hid.ji b (by rw [←e1];exact hb)),st,fun x hx=>⟨tb x hx,by rw [e2];exact(hg.tabs x hx).2⟩,e3,⟨fun _ h=>h,fun _ h=>h.elim,fun _ h=>h.elim,fun _ _ h=>h⟩⟩
 have hargs:Nn V0 (.o (.ptr 0 k 0 0)::es) vs:=by
  refine⟨ha.1,fun j e v hj hv=>?_⟩
  match j with
  | 0=>
   injection hj with hj
   subst hj
   have h1:=ha.2 0 (.o (Pb r)) v rfl hv
   have h2:v=.pointer (some ⟨r,0,none⟩):=AA.val h1
   subst h2
   have:=AA.ptr (V:=V0) (id:=0) (k:=k) (i:=0) (j:=0) n0 nl0
   rw [ρ0,Nat.zero_mul] at this
   exact this
  | j+1=>exact WT (ha.2 (j+1) e v hj hv) (hsc e (List.mem_of_getElem? hj))
 have hrun:=(h s).2 V0 vs _ hgood hargs
 rw [e2] at hrun
 refine hrun.mono ?_
 rintro e w' ⟨V1,v,x,σ',rfl,rfl,hi,hx1,rfl,hn,s',rfl⟩
 have hsz:V.w.heap.size≤V1.w.heap.size:=by have h9:V0.w.heap.size≤_:=hi.ext.size;rw [e2] at h9;exact h9
 have hold:∀b,b < V.w.heap.size→¬S.B b→V1.w.heap[b]? = V.w.heap[b]?:=fun b hb hn=>by
  have h9:V1.w.heap[b]? = V0.w.heap[b]?:=hi.old b (by show b < V0.w.heap.size;rw [e2];exact hb) fun h=>h.elim (fun h=>hn ((hB b).2 h)) fun h=>h
  rw [h9,e2]
 have hnew:∀b,V1.I b→S.J b∨V.w.heap.size≤b∨S.B b:=fun b hb=>by
  rcases hi.iNew b hb with h9|h9|h9|h9
  ·exact .inl (by rw [←e1];exact h9)
  ·have h9:V0.w.heap.size≤b:=h9
   rw [e2] at h9;exact .inr (.inl h9)
  ·exact .inr (.inr ((hB b).2 h9))
  ·exact h9.elim
 have hlv:∀b,Dx V1 (H.st s') b→V.w.heap.size≤b∨S.B b:=fun b ⟨id,o,g1,g2,g3⟩=>by
  rcases hi.live id o g1 g2 b g3 with h9|h9|h9
  ·have h9:V0.w.heap.size≤b:=h9
   rw [e2] at h9;exact .inl h9
  ·exact .inr ((hB b).2 h9)
  ·exact h9.elim
 have e:Ext V { V with I:=fun b=>V.I b∨V1.I b,w:=V1.w } := ⟨fun _ h=>.inl h,fun b hb=>hold b (hg.iLt b hb) fun h=>hg.hid.bi b h hb,hsz,fun _ _=>rfl,fun _ _=>rfl,fun _ _=>Iff.rfl,Nat.le_refl _⟩
 refine⟨{ V with I:=fun b=>V.I b∨V1.I b,w:=V1.w },v,x,[],rfl,rfl,⟨?_,?_,?_,fun b hb hf=>hold b hb fun h=>hf (.inr h),fun b hb=>?_,fun b hb=>?_,e,Em,fun id o ho=>(by cases ho),fun y hy=>⟨.inl (hg.tabs y hy).1,?_⟩,⟨⟨Dx V1 (H.st s'),V1.I⟩,⟨?_,fun b hb=>.inr hb,fun b hb hI=>?_,fun b ⟨_,_,h,_⟩=>by cases h⟩,fun b hb=>?_,fun b hb=>?_⟩⟩,WT hx1 hx,rfl⟩
 ·have h9:V1.w.os=V0.w.os:=hi.os
  rw [e2] at h9;exact h9
 ·have h9:V1.w.tape=V0.w.tape:=hi.tape
  rw [e2] at h9;exact h9
 ·have h9:V1.w.output=V0.w.output:=hi.output
  rw [e2] at h9;exact h9
 ·rcases hb with hb|hb
  ·exact Nat.lt_of_lt_of_le (hg.iLt b hb) hsz
  ·exact hi.iLt b hb
 ·rcases hb with hb|hb
  ·exact .inl hb
  ·rcases hnew b hb with h9|h9|h9
   ·exact .inl (hg.hid.ji b h9)
   ·exact .inr (.inl h9)
   ·exact .inr (.inr (.inr h9))
 ·exact(hold _ (hg.iLt _ (hg.tabs y hy).1) fun h=>hg.hid.bi _ h (hg.tabs y hy).1).trans (hg.tabs y hy).2
 ·exact⟨s',V1,rfl,rfl,hn,hi.st,⟨by rw [hn,←e3];exact n0,by rw [←ρ0];exact hi.ext.ρ 0 Nat.zero_lt_one,fun h=>nl0 ((hi.ext.nl 0 Nat.zero_lt_one).1 h),fun y hy=>hi.ext.i _ (tb y hy)⟩,fun _=>Iff.rfl⟩
 ·have hb':=hb
  obtain⟨id,o,g1,g2,g3⟩:=hb
  rcases hI with hI|hI
  ·rcases hlv b hb' with h9|h9
   ·have:=hg.iLt b hI;omega
   ·exact hg.hid.bi b h9 hI
  ·exact hi.st.free id o g1 g2 b g3 hI
 ·rcases hnew b hb with h9|h9|h9
  ·exact .inl h9
  ·exact .inr (.inl h9)
  ·exact .inr (.inr (.inr h9))
 ·rcases hlv b hb with h9|h9
  ·exact .inl h9
  ·exact .inr (.inr h9)
inductive CH (i r:Nat):C→C→Prop
 | AD {c:C}:CH i r c c
 | ptr {k:Nat}:CH i r (.ptr i k 0 0) (Pb r)
 | mv {gg:FuncId} {k:Nat}:CH i r (.mv gg [.ptr i k 0 0]) (.mv gg [Pb r])
theorem CH.rel{V:View}{i r:Nat}(hr:V.ρ i=r){c c':C}{v:Value}(h:CH i r c c')(hc:AA V c v):AA V c' v:=by
 have hp:∀ {k:Nat} {v:Value},AA V (.ptr i k 0 0) v→AA V (Pb r) v:=fun {k v} hc=>by
  cases hc with
  | ptr h1 h2=>rw [Nat.zero_mul,hr];exact .d (.v rfl)
 cases h with
 | AD=>exact hc
 | ptr=>exact hp hc
 | mv =>
  cases hc with
  | mv h1 h2=>
   refine .mv (by rw [h1];rfl) fun j c v hj hv=>?_
   match j with
   | 0=>injection hj with hj;subst hj;exact hp (h2 0 _ v rfl hv)
   | j+1=>simp at hj
inductive LH (i r:Nat):List C→List C→Prop
 | nil:LH i r [] []
 | cons {c c':C} {l l':List C}:CH i r c c'→LH i r l l'→LH i r (c::l) (c'::l')
theorem LH.len{i r:Nat}{l l':List C}(h:LH i r l l'):l'.length=l.length:=by
 induction h with
 | nil=>rfl
 | cons _ _ ih=>simp [ih]
theorem LH.get{i r:Nat}{l l':List C}(h:LH i r l l'):∀(j:Nat) c',l'[j]? = some c'→∃c,l[j]? = some c∧CH i r c c':=by
 induction h with
 | nil=>intro j c' h;simp at h
 | @cons c0 c0' cs cs' h1 _ ih=>
  intro j c' hj
  cases j with
  | zero=>simp at hj;subst hj;exact⟨c0,rfl,h1⟩
  | succ j=>exact ih j c' (by simpa using hj)
inductive EH (i r:Nat):E→E→Prop
 | AD {e:E}:EH i r e e
 | o {c c':C}:CH i r c c'→EH i r (.o c) (.o c')
 | a {l l':List C}:LH i r l l'→EH i r (.a l) (.a l')
theorem EH.rel{V:View}{i r:Nat}(hr:V.ρ i=r){e e':E}{v:Value}(h:EH i r e e')(hc:Bb V e v):Bb V e' v:=by
 cases h with
 | AD=>exact hc
 | o h=>exact h.rel hr hc
 | a h=>
  obtain⟨vs,h1,h2,h3⟩:=hc
  refine⟨vs,h1,by rw [h2,h.len],fun j c v hj hv=>?_⟩
  obtain⟨c0,h4,h5⟩:=h.get j c hj
  exact h5.rel hr (h3 j c0 v h4 hv)
def aG(i r:Nat)(f:Env):List (Nat×E)→Prop
 | []=>True
 | (t,e')::L=>(∃e,f t=some e∧EH i r e e')∧aG i r f L
theorem aG.get{i r:Nat}{f:Env}:∀ {L:List (Nat×E)},aG i r f L→∀t e',look L t=some e'→∃e,f t=some e∧EH i r e e'
 | [],_,t,e,h=>by cases h
 | (k,x)::L,hs,t,e,h=>by
  rw [Ax] at h
  by_cases hk:k=t
  ·rw [if_pos hk] at h;injection h with h;subst h;subst hk;exact hs.1
  ·rw [if_neg hk] at h;exact aG.get hs.2 t e h
def jG(i r:Nat)(l:List Nat)(σ:Ab):Ab→Prop
 | []=>True
 | (id,o')::S=>(id∉l∧(look σ id=some o'∨∃T k rw rw',o'=.cells T k [rw']∧look σ id=some (.cells T k [rw])∧LH i r rw rw'))∧jG i r l σ S
theorem jG.get{i r:Nat}{l:List Nat}{σ:Ab}:∀ {S:Ab},jG i r l σ S→∀id o',look S id=some o'→id∉l∧(look σ id=some o'∨∃T k rw rw',o'=.cells T k [rw']∧look σ id=some (.cells T k [rw])∧LH i r rw rw')
 | [],_,id,o,h=>by cases h
 | (k,x)::L,hs,id,o,h=>by
  rw [Ax] at h
  by_cases hk:k=id
  ·rw [if_pos hk] at h;injection h with h;subst h;subst hk;exact hs.1
  ·rw [if_neg hk] at h;exact jG.get hs.2 id o h
section
variable {P:Program}{tabs:List (Nat×Obj)}{Γ:Ctx}{N:Nat}{σ:Ab}
theorem Inv.forget{TB:Bs}{J:Nat→Prop}{V:View}(h:Inv TB ⟨Γ.V,Γ.F,J⟩ V σ):Inv ⟨TB.tabs,none⟩ Γ V σ:=
 ⟨h.os,h.tape,h.output,h.old,h.iLt,h.iNew,h.ext,h.st,h.live,h.tabs,⟨⟨fun _=>False,fun _=>False⟩,⟨fun _ h=>h,fun _ h=>h.elim,fun _ h=>h.elim,fun _ _ h=>h⟩,fun _ h=>h.elim,fun _ h=>h.elim⟩⟩
theorem Av.lN{c:Code}{Q:Exit→Env→Ab→Nat→Prop}{f:Env}{nx:Nat}(H:Hid)(s:H.S)(i:Nat)(l:List Nat)(L:Nat→List (Nat×E))(S:Nat→Ab)(hn:(i::l).Nodup)(hln:(i::l).length=H.nx)(hS:A4 (nm (i::l) nx) σ (H.st s))(h0:∃T k r rs,look (H.st s) 0=some (.cells T k (r::rs)))
 (hE:∀r,aG i r f (L r)) (hSt:∀r,jG i r (i::l) σ (S r)) (h:∀r Γ',Γ'.V=Γ.V→Av P ⟨tabs,some (H,r)⟩ Γ' N c Q (look (L r)) (S r) nx):Av P ⟨tabs,none⟩ Γ N c Q f σ nx:=by
 intro V a hr
 have hi:=hr.inv
 have hnx:=hr.nx
 subst hnx
 have hrn:∀id,nm (i::l) V.nx id < V.nx→id < (i::l).length:=fun id=>Rm
 have hidl:∀id o,look (H.st s) id=some o→id < (i::l).length:=fun id o ho=>hrn id (hi.st.lt _ _ (hS.get id o ho))
 have hmem:∀id o,look (H.st s) id=some o→nm (i::l) V.nx id∈i::l:=fun id o ho=>by
  rw [FM (hidl id o ho)];exact List.getElem_mem _
 have hS0:Hr (V.A1 (nm (i::l) V.nx) (i::l).length) (H.st s):=by
  refine⟨fun id o ho=>Cw.A1 hrn (hi.st.obj _ _ (hS.get id o ho)),hidl,fun id o ho hnl b hb=>hi.st.free _ _ (hS.get id o ho) hnl b (Ci.1 hb),?_⟩
  intro id id' o o' ho ho' hne hnl hnl' b hb hb'
  refine hi.st.inj _ _ _ _ (hS.get id o ho) (hS.get id' o' ho') ?_ hnl hnl' b (Ci.1 hb) (Ci.1 hb')
  have h3:=hidl id o ho
  have h4:=hidl id' o' ho'
  rw [FM h3,FM h4]
  intro he
  have hp:=List.pairwise_iff_getElem.1 hn
  rcases Nat.lt_or_gt_of_ne hne with h5|h5
  ·exact hp _ _ h3 h4 h5 he
  ·exact hp _ _ h4 h3 h5 he.symm
 have hnl0:¬V.nl i:=by
  obtain⟨T,k,r,rs,h5⟩:=h0
  rcases hS0.obj 0 _ h5 with ⟨_,h6⟩|⟨h6,_⟩
  ·cases h6
  ·exact h6
 have hsrc:∀id o,look (S (V.ρ i)) id=some o→∃o0,look σ id=some o0∧∀b,EB V id o b→EB V id o0 b:=fun id o ho=>by
  obtain⟨_,h5|⟨T,k,rw,rw',rfl,h5,_⟩⟩:=(hSt (V.ρ i)).get id o ho
  ·exact⟨o,h5,fun _ h=>h⟩
  ·exact⟨_,h5,fun _ h=>h⟩
 have hinv : Inv ⟨tabs,some (H,V.ρ i)⟩ ⟨Γ.V,Γ.F,fun _=>True⟩ V (S (V.ρ i)):=by
  refine⟨hi.os,hi.tape,hi.output,hi.old,hi.iLt,hi.iNew,hi.ext,⟨fun id o ho=>?_,fun id o ho=>?_,fun id o ho hn b hb=>?_,fun id id' o o' ho ho' hne hn hn' b hb hb'=>?_⟩,fun id o ho hn b hb=>?_,hi.tabs,⟨⟨Dx (V.A1 (nm (i::l) V.nx) (i::l).length) (H.st s),V.I⟩,⟨?_,fun _ h=>h,fun b hb hI=>?_,fun b hb hB=>?_⟩,fun _ _=>.inl True.intro,fun b hb=>?_⟩⟩
  ·obtain⟨_,h5|⟨T,k,rw,rw',rfl,h5,h6⟩⟩:=(hSt (V.ρ i)).get id o ho
   ·exact hi.st.obj id o h5
   ·rcases hi.st.obj id _ h5 with ⟨_,h7⟩|⟨h1,cur,h2,h3,h4,h7,h8,h9⟩
    ·cases h7
    ·refine .inr ⟨h1,cur,h2,h3,h4,h7,fun x hx=>?_,fun i' x j c' hix hj=>?_⟩
     ·simp at hx;subst hx;rw [h6.len];exact h8 rw (by simp)
     ·have hi0:i'=0:=by have:=(List.getElem?_eq_some_iff.1 hix).1;simp at this;omega
      subst hi0
      simp at hix
      subst hix
      obtain⟨c,hc,hf⟩:=h6.get j c' hj
      obtain⟨v,h10,h11⟩:=h9 0 rw j c rfl hc
      exact⟨v,h10,hf.rel rfl h11⟩
  ·obtain⟨o0,h5,_⟩:=hsrc id o ho;exact hi.st.lt id o0 h5
  ·obtain⟨o0,h5,h6⟩:=hsrc id o ho;exact hi.st.free id o0 h5 hn b (h6 b hb)
  ·obtain⟨o0,h5,h6⟩:=hsrc id o ho
   obtain⟨o0',h5',h6'⟩:=hsrc id' o' ho'
   exact hi.st.inj id id' o0 o0' h5 h5' hne hn hn' b (h6 b hb) (h6' b hb')
  ·obtain⟨o0,h5,h6⟩:=hsrc id o ho;exact hi.live id o0 h5 hn b (h6 b hb)
  ·exact⟨s,V.A1 (nm (i::l) V.nx) (i::l).length,rfl,rfl,hln,hS0,⟨Nat.succ_pos _,rfl,hnl0,fun x hx=>(hi.tabs x hx).1⟩,fun _=>Iff.rfl⟩
  ·obtain⟨id,o,g1,g2,g3⟩:=hb;exact hS0.free id o g1 g2 b g3 hI
  ·obtain⟨id,o,g1,g2,g3⟩:=hB
   obtain⟨id',o',k1,k2,k3⟩:=hb
   obtain⟨o0,h5,h6⟩:=hsrc id' o' k1
   have hnm:=((hSt (V.ρ i)).get id' o' k1).1
   exact hi.st.inj id' _ o0 _ h5 (hS.get id o g1) (fun e=>hnm (by rw [e];exact hmem id o g1)) k2 g2 b (h6 b k3) (Ci.1 g3)
  ·obtain⟨id,o,g1,g2,g3⟩:=hb;exact hi.live _ _ (hS.get id o g1) g2 b (Ci.1 g3)
 have hst:Ch ⟨tabs,some (H,V.ρ i)⟩ ⟨Γ.V,Γ.F,fun _=>True⟩ N V (look (L (V.ρ i))) (S (V.ρ i)) V.nx a:=by
  refine⟨fun t x hx=>?_,fun t x hx=>?_,hr.size,hinv,rfl,hr.defers⟩
  ·obtain⟨y,h1,h2⟩:=(hE (V.ρ i)).get t x hx
   exact h2.rel rfl (hr.env t y h1)
  ·obtain⟨y,h1,_⟩:=(hE (V.ρ i)).get t x hx
   exact hr.lt t y h1
 refine wp_mono (h (V.ρ i) ⟨Γ.V,Γ.F,fun _=>True⟩ rfl V a hst) ?_
 rintro e a' w' ⟨V',f',σ',h1,h2,h3⟩
 exact⟨V',f',σ',h1,h2,⟨h3.env,h3.lt,h3.size,Inv.forget h3.inv,h3.nx,h3.defers⟩⟩
end
end Go.Am
namespace Go.Am
open Go Go.Proofs
set_option maxHeartbeats 1000000
attribute [local irreducible] AQ BS Lex Bc Av Spec
variable {TB:Bs}
def ML(t:CB)(ok:W→Prop)(m:Hh):Prop:=JN t ok m∧m.F[0]? = some (Cm t)
theorem YM[Dl TB]{t:CB}{ok:W→Prop}(ht:A6 t=true)(hfew:js t ok){m0:Hh}(hm0:ML t ok m0){w:W}(how:ok w)(hw:∀c∈w,0≤(c.toNat:Int) - 97∧(c.toNat:Int) - 97 < 6)(hwl:w.length≤1048576) :
 AG Tryz.prog TB 106 1 (ND t m0) 5 [.o (.ptr 0 14 0 0),eT w] (fun x σ nx=>x=eB (LS t w)∧nx=5∧∃m,ML t ok m∧σ=ND t m):=by
 have hdr:w.drop 0=w:=rfl
 refine AG.A1 (AG.Ql (m:=1) (Nat.le_of_ble_eq_true rfl) Tryz.func106 rfl (by kernel_rfl) (Nat.le_of_ble_eq_true rfl) ?_);intro Γ hΓ
 (repeat first|refine tA rfl ?_ |refine aU rfl ?_ |refine Aa ?_)
 refine aB ?_
 refine aL (α:={x:Nat×Nat×Hh // x.1≤w.length∧ML t ok x.2.2∧∃F,x.2.2.F[x.2.1]? = some F∧HN t F (w.drop x.1)=LS t w∧F=GI t (Cm t) (w.take x.1)}) [0,1] [] rfl rfl (fun s=>[(5,eI .i64 s.1.2.1),(6,eI .i64 s.1.1)]) (fun s=>ND t s.1.2.2) 5 (fun s=>w.length - s.1.1) (⟨⟨0,0,m0⟩,by simp,hm0,Cm t,hm0.2,rfl,rfl⟩) hΓ rfl (by (simp[cX,zC,hΓ,AW])) ?_;rintro⟨⟨i,n,m⟩,hi,hm,F,hF,hs,hrn⟩;(try dsimp only[cA,cB])
 have hi:i≤w.length:=hi
 have hm:ML t ok m:=hm
 have hrn:F=GI t (Cm t) (w.take i):=hrn
 have hF:m.F[n]? = some F:=hF
 have hs:HN t F (w.drop i)=LS t w:=hs
 have hu:=hm.1.un n F hF
 have hul:=(List.getElem?_eq_some_iff.1 hu).1
 have hu':(m.un.map AB)[0+((n:Nat):Int).toNat]? = some (AB (GR t F)):=by rw [Nat.zero_add,Int.toNat_natCast];simp [hu]
 by_cases hlt:i < w.length
 ·obtain⟨c,hc⟩:=get_some hlt
  have hc':w[((i:Nat):Int).toNat]? = some c:=by simpa using hc
  have hcl:=hw c (List.mem_of_getElem? hc)
  have hla:=Ha (TB:=TB) w i c hc' hcl
  have hd:=Bl hc
  have hrn1:DV t ((c.toNat:Int) - 97) F=GI t (Cm t) (w.take (i+1)):=by
   rw [List.take_add_one,hc,Pn,←hrn];rfl
  obtain⟨m1,j,hm1,hle,hj,haf⟩:=aX (TB:=TB) ht hfew hm.1 hF hcl (.inr ⟨w.take (i+1),w.drop (i+1),by rw [List.take_append_drop];exact how,hrn1⟩)
  rw [hd,HN] at hs
  generalize GR t F=b at *
  (repeat' first|(refine sA rfl ?_ ?_;first|exact tI|omega) |refine t4 rfl ‹_› rfl ?_ |refine s2 rfl fun _ _hb=>?_ |refine s3 rfl ?_ ?_<;>rintro rfl |refine aU rfl ?_ |refine Aa ?_|(refine aC rfl ?_ ?_<;>rintro⟨⟩));all_goals try contradiction
  all_goals first| (exfalso;(simp only[oZ] at *;omega);done)|skip
  ·have hb:b=false:=by simpa using _hb
   subst hb
   refine aK ?_
   refine aS (aB ?_)
   (repeat first|refine tA rfl ?_ |refine sP rfl (hla) rfl ?_ |refine aU rfl ?_)
   (refine pW rfl ?_ rfl (by rfl);refine CA [0,1,2,3,4] rfl rfl 1 (haf) (by decide) ⟨rfl,by decide,by decide⟩ rfl (by simp[cX,zC,hΓ,AW]) ?_;rintro x0 σ1 nx1 ⟨rfl,rfl,rfl⟩ _)
   (repeat first|refine tA rfl ?_)
   refine Aa ?_
   (repeat first|(refine sA rfl ?_ ?_;first|exact tI|omega) |refine aU rfl ?_ |refine Aa ?_)
   refine⟨⟨⟨i+1,j,m1⟩,by omega,⟨hm1,hle 0 _ hm.2⟩,_,hj,by simpa using hs,hrn1⟩,by dsimp only;(omega),[0,5,6,7,8],?_⟩
   simp[cX,zC,hΓ,AW]
  ·have hb:b=true:=by simpa using _hb
   subst hb
   have hs:LS t w=false:=by simpa using hs.symm
   rw [hs]
   refine aE ?_
   (repeat first|(refine sA rfl ?_ ?_;first|exact tI|omega) |refine t4 rfl ‹_› rfl ?_ |refine s2 rfl fun _ _hb=>?_ |refine aU rfl ?_ |refine Aa ?_)
   refine aR ⟨_,rfl,[0,1,2,3,4],eB false,ND t m,⟨by intro i hi;match i with|0=>rfl,by decide⟩,by subst_vars;rfl,by (simp[cX,zC,hΓ,AW]),rfl,rfl,m,hm,rfl⟩
 ·obtain rfl:i=w.length:=by omega
  rw [List.drop_length,HN] at hs
  rw [←hs]
  (repeat' first|(refine sA rfl ?_ ?_;first|exact tI|omega) |refine t4 rfl ‹_› rfl ?_ |refine s2 rfl fun _ _hb=>?_ |refine s3 rfl ?_ ?_<;>rintro rfl |refine aU rfl ?_ |refine Aa ?_|(refine aC rfl ?_ ?_<;>rintro⟨⟩));all_goals try contradiction
  all_goals first| (exfalso;(simp only[oZ] at *;omega);done)|skip
  refine aE ?_
  (repeat first|(refine sA rfl ?_ ?_;first|exact tI|omega) |refine t4 rfl ‹_› rfl ?_ |refine s2 rfl fun _ _hb=>?_ |refine aU rfl ?_ |refine Aa ?_)
  refine aR ⟨_,rfl,[0,1,2,3,4],eB (!GR t F),ND t m,⟨by intro i hi;match i with|0=>rfl,by decide⟩,by subst_vars;rfl,by (simp[cX,zC,hΓ,AW]),rfl,rfl,m,hm,rfl⟩
def PD(t:CB)(ok:W→Prop):Hid:=⟨{m:Hh // ML t ok m},fun s=>ND t s.1,5⟩
theorem dw{tabs:List (Nat×Obj)}[Dl ⟨tabs,none⟩]{t:CB}{ok:W→Prop}(ht:A6 t=true)(hfew:js t ok){r:Nat}{w:W}(how:ok w)(hw:∀c∈w,0≤(c.toNat:Int) - 97∧(c.toNat:Int) - 97 < 6)(hwl:w.length≤1048576) :
 Pure Tryz.prog ⟨tabs,some (PD t ok,r)⟩ 106 [.o (Pb r),eT w] (eB (LS t w)):=
 cG (H:=PD t ok) (k:=14) (es:=[eT w]) ⟨_,Tryz.func106,by kernel_rfl,rfl⟩ (by intro e he;simp at he;subst he;rfl) rfl fun s=>
  ⟨(YM (TB:=⟨tabs,none⟩) ht hfew s.2 how hw hwl).1,fun V vs S hg ha=>((YM (TB:=⟨tabs,none⟩) ht hfew s.2 how hw hwl).2 V vs S hg ha).mono fun e w' ⟨V',v,x,σ',h1,h2,h3,h4,h5,h6,m,h7,h8⟩=>⟨V',v,x,σ',h1,h2,h3,h4,h5,h6,⟨m,h7⟩,h8⟩⟩
end Go.Am
