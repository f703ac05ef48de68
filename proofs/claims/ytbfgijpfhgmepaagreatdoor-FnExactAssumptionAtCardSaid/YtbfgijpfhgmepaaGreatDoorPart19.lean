/-
  The safety of a task in memory; its step: walked.
-/
import Derived.Test.YtbfgijpfhgmepaaGreatDoorPart17
import Derived.Test.YtbfgijpfhgmepaaGreatDoorPart18
import Derived.Test.YtbfgijpfhgmepaaGreatDoorPart14
set_option linter.constructorNameAsVariable false
set_option linter.unusedSectionVars false
set_option linter.unusedSimpArgs false
set_option linter.unusedVariables false
namespace Go.Am
open Go Go.Proofs
set_option maxHeartbeats 1000000
attribute [local irreducible] AS BT Lex Bc Au Spec
variable {TB:Bt}
def Hm(F:PS):List Int:=[(F 0:Nat),(F 1:Nat),(F 2:Nat),(F 3:Nat),(F 4:Nat),(F 5:Nat),(F 6:Nat),(F 7:Nat),(F 8:Nat),(F 9:Nat),(F 10:Nat),(F 11:Nat)]
abbrev Rz(F:PS):List C:=mO .u16 (Hm F)
abbrev jd(F:PS):E:=fh .u16 (Hm F)
theorem JC{F:PS}{p:Nat}(h:p < 12):(Hm F)[p]? = some (F p:Int):=by
 obtain rfl|rfl|rfl|rfl|rfl|rfl|rfl|rfl|rfl|rfl|rfl|rfl:p=0∨p=1∨p=2∨p=3∨p=4∨p=5∨p=6∨p=7∨p=8∨p=9∨p=10∨p=11:=by omega
 all_goals rfl
theorem Og{F:PS}{p:Nat}(h:p < 12):(Rz F)[p]? = some (.d (.v (.int .u16 (F p:Int)))):=by simp [JC h]
theorem RA{F G:PS}(h:∀p,p < 12→F p=G p):Hm F=Hm G:=by
 unfold Hm
 rw [h 0 (by omega),h 1 (by omega),h 2 (by omega),h 3 (by omega),h 4 (by omega),h 5 (by omega),h 6 (by omega),h 7 (by omega),h 8 (by omega),h 9 (by omega),h 10 (by omega),h 11 (by omega)]
theorem SZ{F G:PS}(h:Hm F=Hm G):∀p,p < 12→F p=G p:=fun p hp=>by
 have:=JC (F:=F) hp
 rw [h,JC hp] at this
 injection this with this
 omega
theorem YM{F:PS}{p:Nat}(h:p < 12){v:Nat}:Af (Rz F) p [.d (.v (.int .u16 (v:Int)))]=Rz fun i=>if i=p then v else F i:=by
 have hl:(Rz F).length=12:=by simp [Hm]
 rw [Iy (by omega)]
 apply List.ext_getElem?
 intro i
 rw [List.getElem?_set]
 by_cases hi:i < 12
 ·rw [Og hi,Og hi]
  by_cases e:p=i
  ·subst e;rw [if_pos rfl,if_pos (by omega),if_pos rfl]
  ·rw [if_neg e,if_neg (fun h=>e h.symm)]
 ·have h1:∀G:PS,(Rz G)[i]? = none:=fun G=>List.getElem?_eq_none (by simp [Hm];omega)
  rw [h1,h1]
  by_cases e:p=i
  ·omega
  ·rw [if_neg e]
theorem u16_in{n:Nat}(h:n < 65536):IntKind.u16.wrap (n:Int)=n:=by
 unfold IntKind.wrap
 simp [IntKind.bits,IntKind.signed,IntKind.min,IntKind.max]
 omega
instance:Gn Tryz.prog 199 12 .u16:=⟨⟨197,⟨by kernel_rfl,by kernel_rfl,by kernel_rfl,by kernel_rfl⟩,by kernel_rfl⟩,by kernel_rfl,fun h=>by
 have h2:Nat.beq Tryz.prog.types.size 0=false:=by kernel_rfl
 rw [h] at h2;cases h2⟩
def Ea(t:CD)(l:Int)(F:PS)(k:Nat):PS:=fun p':Nat=>(List.range k).foldl (fun a p=>if Cy t.q p l=(p':Int) then a ||| Db t.s l (F p) else a) 0
theorem Jy{t:CD}{l:Int}{F:PS}{k:Nat}:Ea t l F (k+1)=fun p':Nat=>if Cy t.q k l=(p':Int) then Ea t l F k p' ||| Db t.s l (F k) else Ea t l F k p':=by
 funext p'
 unfold Ea
 rw [List.range_succ,List.foldl_append];rfl
theorem Xe{s:Sys}{l:Int}:Db s l 0=0:=by
 unfold Db
 split
 ·exact HD fun j=>by
   cases h:(Cg s.es l 0).testBit j
   ·rfl
   ·obtain⟨e,_,⟨_,h2⟩,_⟩:=DH.1 h
    simp at h2
 ·rfl
theorem Rr{t:CD}{l:Int}{F:PS}{k:Nat}(h:F k=0):Ea t l F (k+1)=Ea t l F k:=by
 rw [Jy]
 funext p'
 rw [h,Xe]
 split<;>simp
theorem cH{t:CD}{l:Int}{F:PS}(h:CW t F)(hn:t.q.nx.length≤12):Ea t l F 12=VP t l F:=by
 have key:∀k,Ea t l F (t.q.nx.length+k)=Ea t l F t.q.nx.length:=fun k=>by
  induction k with
  | zero=>rfl
  | succ k ih=>rw [←Nat.add_assoc,Rr (h.z _ (by omega)),ih]
 have:=key (12 - t.q.nx.length)
 rw [show t.q.nx.length+(12 - t.q.nx.length)=12 by omega] at this
 rw [this];rfl
theorem YE{t:CD}(ht:A9 t=true){l:Int}{F:PS}(h:CW t F)(k p:Nat):Ea t l F k p < 65536:=by
 induction k with
 | zero=>simp [Ea]
 | succ k ih=>
  rw [Jy]
  simp only
  have h2:=Ji ht (l:=l) (h.lt k)
  split
  ·have:=Nat.or_lt_two_pow (n:=16) ih h2;omega
  ·exact ih
structure Hp where
 F:List PS
 nx:List (List Int)
 un:List Bool
abbrev Rw(r:List Int):List C:=r.map fun x=>.d (iD x)
def Qs(F:List PS):List (List Int×Int):=F.zipIdx.map fun x=>(Hm x.1,(x.2:Int))
abbrev dP(t:CD)(a b c d:C):List C:=[.d (iD t.s.al),.d (iD t.s.st),.d (Ek t.s.es),.d (iD t.q.al),.d (CR t.q.nx),.d (E4 t.q.ac),.d (iD t.al),.ip (FB t.s.es),.d (.l (GV t.q)),.d (FX (Cn t)),a,b,c,d]
abbrev NS(t:CD)(m:Hp):Ab:=[(0,.cells 195 14 [dP t (.arr 1 12 0 m.F.length) (.mp 2) (.arr 3 6 0 m.nx.length) (.arr 4 1 0 m.un.length)]),(1,.cells 199 12 (m.F.map Rz)),(2,.mp (mapA .u16 (Qs m.F))),(3,.cells 121 6 (m.nx.map Rw)),(4,.cells 4 1 (m.un.map Ax))]
theorem A1(r:Nat→Nat)(q:IntKind)(l:List Int):C.BB r (l.map fun x=>.d (.v (.int q x)))=l.map fun x=>.d (.v (.int q x)):=by
 rw [show (l.map fun x=>C.d (.v (.int q x)))=(l.map fun x=>D.v (.int q x)).map .d by simp,Th]
theorem Pk{P:Program}{Γ:Ctx}{d:Option Tmp}{ty:TypeId}{pos:String}{af:Array Edge}{g:Option (Nat×Bool)}{f:Env}{σ:Ab}{nx:Nat}{t:TypeId}{x:Operand}{id k i j n:Nat}{T:TypeId}{rows:List (List C)}{r:List C}{c:C}[hl:Dt P t false n](hx:ev f x=some (.o (.ptr id k i j)))(ho:look σ id=some (.cells T k rows))(hr:rows[i]? = some r)(hc:r[j]? = some c) :
 AS P TB Γ ⟨d,.load t x,ty,pos,af,g⟩ f σ nx (.o c):=YN hx ho hr (show iK false n j r=some (.o c) by unfold iK;rw [hc];rfl)
theorem Up{r:List Nat}:∀i,i < 5→(0::1::2::3::4::r)[i]? = some i
 | 0,_|1,_|2,_|3,_|4,_=>rfl
 | n+5,h=>by omega
theorem Ys{a b:Nat}(ha:a < 65536)(hb:b < 65536):GZ .u16 (a:Int) (b:Int)=((a ||| b:Nat):Int):=by
 have h0:a ||| b < 2 ^ 16:=Nat.or_lt_two_pow (by omega) (by omega)
 unfold GZ
 have h1:(BitVec.ofInt IntKind.u16.bits (a:Int) ||| BitVec.ofInt IntKind.u16.bits (b:Int)).toNat=a ||| b:=by
  have e:IntKind.u16.bits=16:=rfl
  rw [e]
  simp only [BitVec.toNat_or,BitVec.ofInt_natCast,BitVec.toNat_ofNat]
  rw [Nat.mod_eq_of_lt (by omega),Nat.mod_eq_of_lt (by omega)]
 rw [h1]
 exact u16_in (by omega)
theorem YD[Df TB]{t:CD}(ht:A9 t=true)(m:Hp){l:Int}(hl:0≤l∧l < 6){F:PS}(hF:CW t F):Spec Tryz.prog TB 206 (NS t m) 5 [.o (.ptr 0 14 0 0),jd F,eI .i64 l] (fun x σ nx=>x=jd (VP t l F)∧σ=NS t m∧nx=5):=by
 have hs:AR t.s=true:=by unfold A9 at ht;simp only [Bool.and_eq_true] at ht;exact ht.1
 have ha:=Cr ht
 have hah:=AG ha
 rw [←cH hF (by omega)]
 refine eR Tryz.func206 rfl (by kernel_rfl) rfl ?_;intro Γ hΓ
 (repeat first|refine tA rfl ?_ |refine aU rfl ?_ |refine Aa ?_)
 refine aB ?_
 refine aL (α:={k:Nat // k≤12}) [0,2,6,7,11] [0,1,2,3,4,5] rfl rfl (fun s=>[(12,eI .i64 s.1)]) (fun s=>[(6,.cells 199 12 [Rz (Ea t l F s.1)])]) 7 (fun s=>12 - s.1) (⟨0,by omega⟩) hΓ rfl (by (simp[cX,zC,hΓ,A1]<;>rfl)) ?_;rintro⟨k,hk⟩;(try dsimp only[cA,cB])
 by_cases hkl:k < 12
 ·have hx:(Hm F)[((k:Nat):Int).toNat]? = some (F k:Int):=by rw [Int.toNat_natCast];exact JC hkl
  have hfk:=hF.lt k
  (repeat first|refine s2 rfl fun _ _hb=>?_ |refine aU rfl ?_ |refine Aa ?_)
  ((refine aC rfl ?_ ?_<;>rintro⟨⟩);all_goals try(exfalso;(simp only[oZ] at *;omega)))
  refine aK ?_
  refine aS (aB ?_)
  (repeat first|refine tA rfl ?_ |refine s2 rfl fun _ _hb=>?_|(refine Ai rfl ?_;refine gA rfl ?_;first| refine gS (fun _ _=>Ln (l:=Hm F) rfl rfl rfl (by omega) hx) ?_) |refine aU rfl ?_ |refine Aa ?_)
  (refine aC rfl ?_ ?_<;>rintro⟨⟩)
  ·have hz:F k=0:=by (simp only[oZ] at *;omega)
   refine aE ?_
   (repeat first|(refine sA rfl ?_ ?_;first|exact tI|omega) |refine aU rfl ?_ |refine Aa ?_)
   refine⟨⟨k+1,by omega⟩,by dsimp only;(omega),[0,1,2,3,4,5,6],?_⟩
   simp[cX,zC,hΓ,A1,Rr hz];exact Up
  ·have hkn:k < t.q.nx.length:=by
    rcases Nat.lt_or_ge k t.q.nx.length with h1|h1
    ·exact h1
    ·have:=hF.z k h1;(simp only[oZ] at *;omega)
   have ta:=LF (a:=t.q) (q:=((k:Nat):Int).toNat) (by omega)
   have ra:=Jh (h:=fun l=>Cy t.q k l) hl.1 hl.2
   have el:((l.toNat:Nat):Int)=l:=by omega
   simp only [el] at ra
   have hga:=Dg ha hkn hl.1 hl.2
   have hst:=gk (TB:=TB) hs hl hfk
   have hss:=Ji ht (l:=l) hfk
   have hml:=YE ht (l:=l) hF k
   obtain⟨g,hg⟩:∃g:Nat,Cy t.q k l=g:=⟨(Cy t.q k l).toNat,by omega⟩
   rw [hg] at ra hga
   refine aK ?_
   (repeat first|(refine sA rfl ?_ ?_;first|exact tI|omega) |(refine sC rfl (Mo _ _) ?_;intro _ _hb)|(refine Ai rfl ?_;refine gA rfl ?_;first| refine gS (fun _ _=>Tb rfl (IntWalk.i64_in _ (by omega))) ?_) |refine aU rfl ?_ |refine Aa ?_)
   have ej:0+((g:Nat):Int).toNat*1=g:=by omega
   have hj:(Rz (Ea t l F k))[0+((g:Nat):Int).toNat*1]? = some (.d (.v (.int .u16 (Ea t l F k g:Int)))):=by rw [ej];exact Og (by omega)
   have hor:=Ys (hml g) hss
   have hns:Ea t l F (k+1)=fun p':Nat=>if p'=g then Ea t l F k g ||| Db t.s l (F k) else Ea t l F k p':=by
    rw [Jy,hg]
    funext p'
    by_cases e:p'=g
    ·subst e;simp
    ·rw [if_neg e,if_neg (by omega)]
   have hset:=YM (F:=Ea t l F k) (p:=g) (by omega) (v:=Ea t l F k g ||| Db t.s l (F k))
   rw [←hns] at hset
   (refine aC rfl ?_ ?_<;>rintro⟨⟩)
   ·have hb:A0 t.s.al l.toNat=true:=by simpa [hasB,hl.1] using _hb
    have hsm:Db t.s l (F k)=Cg t.s.es l (F k):=by unfold Db;rw [if_pos hb]
    rw [←hsm] at hst
    (repeat first|(refine sA rfl ?_ ?_;first|exact tI|omega) |(refine s4 rfl ‹_› rfl ?_ ?_;omega) |refine sP rfl (hst) rfl ?_ |refine aU rfl ?_ |refine Aa ?_)
    (repeat first|(refine sA rfl ?_ ?_;first|exact tI|omega)|(refine Ai rfl ?_;refine gA rfl ?_;first| refine gS (fun _ _=>Ey rfl ra) ?_|refine gQ (Pk rfl rfl rfl hj) rfl ?_|refine gS (fun _ _=>Tb rfl (u16_in hss)) ?_|refine gS (fun _ _=>jm rfl rfl hor) ?_))
    (refine Ai rfl ?_;refine HP ?_ rfl (by rfl);refine Eg (r:=Rz (Ea t l F k)) rfl rfl rfl rfl rfl rfl (by show 0+((g:Nat):Int).toNat*1+1≤12;omega) ?_)
    refine Aa ?_
    (repeat first|(refine sA rfl ?_ ?_;first|exact tI|omega) |refine aU rfl ?_ |refine Aa ?_)
    refine⟨⟨k+1,by omega⟩,by dsimp only;(omega),[0,1,2,3,4,5,6],?_⟩
    simp[cX,zC,hΓ,A1,hor];exact⟨Up,by simpa [Af] using hset⟩
   ·have hb:A0 t.s.al l.toNat=false:=by simpa [hasB,hl.1] using _hb
    have hsm:Db t.s l (F k)=F k:=by unfold Db;rw [if_neg (by simp [hb])]
    rw [hsm] at hor hset
    refine aK ?_
    (repeat first|(refine sA rfl ?_ ?_;first|exact tI|omega) |(refine s4 rfl ‹_› rfl ?_ ?_;omega)|(refine Ai rfl ?_;refine gA rfl ?_;first| refine gS (fun _ _=>Ey rfl ra) ?_|refine gQ (Pk rfl rfl rfl hj) rfl ?_|refine gS (fun _ _=>Tb rfl (u16_in hfk)) ?_|refine gS (fun _ _=>jm rfl rfl hor) ?_) |refine aU rfl ?_)
    (refine Ai rfl ?_;refine HP ?_ rfl (by rfl);refine Eg (r:=Rz (Ea t l F k)) rfl rfl rfl rfl rfl rfl (by show 0+((g:Nat):Int).toNat*1+1≤12;omega) ?_)
    refine Aa ?_
    (repeat first|(refine sA rfl ?_ ?_;first|exact tI|omega) |refine aU rfl ?_ |refine Aa ?_)
    refine⟨⟨k+1,by omega⟩,by dsimp only;(omega),[0,1,2,3,4,5,6],?_⟩
    simp[cX,zC,hΓ,A1,hor];exact⟨Up,by simpa [Af] using hset⟩
 ·obtain rfl:k=12:=by omega
  (repeat first|refine s2 rfl fun _ _hb=>?_ |refine aU rfl ?_ |refine Aa ?_)
  ((refine aC rfl ?_ ?_<;>rintro⟨⟩);all_goals try(exfalso;(simp only[oZ] at *;omega)))
  refine aE ?_
  (repeat first|refine tA rfl ?_ |refine aU rfl ?_ |refine Aa ?_)
  refine aR ⟨_,rfl,[0,1,2,3,4],jd (Ea t l F 12),NS t m,⟨Up,by decide⟩,rfl,by (simp[cX,zC,hΓ,A1]),rfl,rfl,rfl⟩
def IG(t:CD)(F:PS)(ls:List Int):PS:=fun p=>ls.foldl (fun a l=>a ||| VP t l F p) (F p)
def Lb(A B:PS)(k:Nat):PS:=fun p=>if p < k then A p ||| B p else A p
theorem ZV{A B:PS}{k:Nat}:Lb A B (k+1)=fun p=>if p=k then Lb A B k k ||| B k else Lb A B k p:=by
 funext p
 unfold Lb
 by_cases e:p=k
 ·subst e;simp
 ·by_cases h:p < k
  ·rw [if_pos (by omega),if_neg e,if_pos h]
  ·rw [if_neg (by omega),if_neg e,if_neg h]
theorem bt{t:CD}{F:PS}{ls:List Int}{l:Int}:IG t F (ls++[l])=fun p=>IG t F ls p ||| VP t l F p:=by
 funext p
 unfold IG
 rw [List.foldl_append];rfl
theorem YJ{α:Type}{g:α→Nat}{j:Nat}:∀ {l:List α} {a:Nat},(l.foldl (fun a x=>a ||| g x) a).testBit j=true↔a.testBit j=true∨∃x∈l,(g x).testBit j=true
 | [],a=>by simp
 | x::l,a=>by
  rw [List.foldl_cons,YJ,Nat.testBit_or,Bool.or_eq_true]
  simp [or_assoc]
theorem Hz{t:CD}{F:PS}{ls:List Int}{p j:Nat}:(IG t F ls p).testBit j=true↔(F p).testBit j=true∨∃l∈ls,(VP t l F p).testBit j=true:=YJ
theorem XL{t:CD}(ht:A9 t=true){F:PS}(h:CW t F){ls:List Int}(hl:∀l∈ls,0≤l∧l < 6):CW t (IG t F ls):=by
 refine⟨fun p=>Jr fun j hj=>?_,fun p hp=>HD fun j=>?_⟩
 ·rcases Hz.1 hj with h1|⟨l,h1,h2⟩
  ·exact K3 (h.lt p) h1
  ·exact K3 ((Ko ht (hl l h1) h).lt p) h2
 ·cases hb:(IG t F ls p).testBit j
  ·rfl
  ·rcases Hz.1 hb with h1|⟨l,h1,h2⟩
   ·rw [h.z p hp] at h1;simp at h1
   ·rw [(Ko ht (hl l h1) h).z p hp] at h2;simp at h2
theorem sub_le{a b:Nat}(h:∀j,a.testBit j=true→b.testBit j=true):a≤b:=by
 have:a ||| b=b:=Nat.eq_of_testBit_eq fun j=>by
  rw [Nat.testBit_or]
  cases ha:a.testBit j
  ·simp
  ·simp [h j ha]
 rw [←this];exact Nat.left_le_or
def NO(F:PS):Nat:=(65535 - F 0)+(65535 - F 1)+(65535 - F 2)+(65535 - F 3)+(65535 - F 4)+(65535 - F 5)+(65535 - F 6)+(65535 - F 7)+(65535 - F 8)+(65535 - F 9)+(65535 - F 10)+(65535 - F 11)
theorem Yz{F G:PS}(hF:∀p,F p < 65536)(hG:∀p,G p < 65536)(h:∀p,F p≤G p)(hne:Hm G≠Hm F):NO G < NO F:=by
 have h1:¬NO F≤NO G:=fun hle=>hne (RA fun p hp=>by
  have a0:=h 0;have a1:=h 1;have a2:=h 2;have a3:=h 3;have a4:=h 4;have a5:=h 5;have a6:=h 6;have a7:=h 7;have a8:=h 8;have a9:=h 9;have a10:=h 10;have a11:=h 11
  have b0:=hG 0;have b1:=hG 1;have b2:=hG 2;have b3:=hG 3;have b4:=hG 4;have b5:=hG 5;have b6:=hG 6;have b7:=hG 7;have b8:=hG 8;have b9:=hG 9;have b10:=hG 10;have b11:=hG 11
  unfold NO at hle
  obtain rfl|rfl|rfl|rfl|rfl|rfl|rfl|rfl|rfl|rfl|rfl|rfl:p=0∨p=1∨p=2∨p=3∨p=4∨p=5∨p=6∨p=7∨p=8∨p=9∨p=10∨p=11:=by omega
  all_goals omega)
 omega
theorem gC{F:PS}(h:∀p,F p < 65536):∀x∈Hm F,(Lit.int .u16 x).wf=true:=fun x hx=>by
 have:∃p,x=(F p:Int):=by
  unfold Hm at hx
  simp only [List.mem_cons,List.not_mem_nil,or_false] at hx
  rcases hx with h|h|h|h|h|h|h|h|h|h|h|h<;>exact⟨_,h⟩
 obtain⟨p,rfl⟩:=this
 have:=h p
 simp [Lit.wf,IntKind.min,IntKind.max,IntKind.signed,IntKind.bits]
 omega
section
variable {t:CD}(ht:A9 t=true)
include ht
theorem bu{F0 F:PS}(h2:∀p j,(F p).testBit j=true→P5 t F0 p j){p j:Nat}(h:(IG t F (Cn t) p).testBit j=true):P5 t F0 p j:=by
 rcases Hz.1 h with h1|⟨l,hl,h1⟩
 ·exact h2 p j h1
 ·obtain⟨q,hq,hg,hb⟩:=Ld.1 h1
  unfold Db at hb
  rw [if_pos (DF ht hl).2.2] at hb
  obtain⟨e,he,⟨h3,h4⟩,h5⟩:=DH.1 hb
  subst h3
  have:=P5.step (h2 q _ h4) he hl rfl
  rw [hg,h5] at this
  simpa using this
theorem Zq{F0 F:PS}(h0:CW t F0)(hF:CW t F)(h1:∀p j,(F0 p).testBit j=true→(F p).testBit j=true)(h2:∀p j,(F p).testBit j=true→P5 t F0 p j)(he:IG t F (Cn t)=F):F=Sj t F0:=
 bI ht h0 hF.z h1 h2 fun p l j hp hl hj=>by
  have hin:=DF ht hl
  have hga:=Dg (Cr ht) hp hin.1 hin.2.1
  rw [←he]
  refine Hz.2 (.inr ⟨l,hl,Ld.2 ⟨p,hp,by omega,?_⟩⟩)
  unfold Db
  rw [if_pos hin.2.2]
  exact hj
end
theorem Ua[Df TB]{t:CD}(ht:A9 t=true)(m:Hp){F0:PS}(hF0:CW t F0):Spec Tryz.prog TB 155 (NS t m) 5 [.o (.ptr 0 14 0 0),jd F0] (fun x σ nx=>x=jd (Sj t F0)∧σ=NS t m∧nx=5):=by
 have hah:=AG (Cr ht)
 have hll:(Cn t).length≤6:=by
  unfold Cn
  have h1:(Ac t.s.al).length≤6:=AV _ _
  exact Nat.le_trans (List.length_filter_le _ _) h1
 refine eR Tryz.func155 rfl (by kernel_rfl) rfl ?_;intro Γ hΓ
 (repeat first|refine aU rfl ?_)
 (refine pW rfl ?_ rfl (by rfl);refine Da rfl rfl ?_)
 (repeat first|refine tM rfl ?_ |refine Aa ?_)
 refine aB ?_
 refine aL (α:={F:PS // CW t F∧(∀p j,(F0 p).testBit j=true→(F p).testBit j=true)∧∀p j,(F p).testBit j=true→P5 t F0 p j}) [0,3,4] [0,1,2,3,4,6] rfl rfl (fun s=>[]) (fun s=>[(5,.cells 199 12 [Rz s.1])]) 7 (fun s=>NO s.1) (⟨F0,hF0,fun _ _ h=>h,fun _ _ h=>.base h⟩) hΓ rfl (by (simp[cX,zC,hΓ,A1]<;>rfl)) ?_;rintro⟨F,hF,h1,h2⟩;(try dsimp only[cA,cB])
 have hF:CW t F:=hF
 refine aB ?_
 (repeat first|refine sN rfl ?_ |refine tA rfl ?_ |refine aU rfl ?_ |refine Aa ?_)
 refine aB ?_
 refine aL (α:={k:Nat // k≤(Cn t).length}) [0,3,4,5,14,15] [0,1,2,3,4,5,6] rfl rfl (fun s=>[(16,eI .i64 s.1)]) (fun s=>[(7,.cells 199 12 [Rz (IG t F ((Cn t).take s.1))])]) 8 (fun s=>(Cn t).length - s.1) (⟨0,by omega⟩) hΓ rfl (by (simp[cX,zC,hΓ,A1]<;>rfl)) ?_;rintro⟨k,hk⟩;(try dsimp only[cA,cB])
 by_cases hkl:k < (Cn t).length
 ·obtain⟨l,hlk⟩:=get_some hkl
  have hin:=DF ht (List.mem_of_getElem? hlk)
  have hl':((Cn t).map Bm)[((k:Nat):Int).toNat]? = some (Bm l):=by rw [Int.toNat_natCast];simp [hlk]
  have hall:∀x∈(Cn t).take k,0≤x∧x < 6:=fun x hx=>by
   have:=DF ht (List.mem_of_mem_take hx)
   omega
  have hA:=XL ht hF hall
  have hG:=Ko ht (l:=l) ⟨hin.1,hin.2.1⟩ hF
  have hnx:IG t F ((Cn t).take (k+1))=fun p=>IG t F ((Cn t).take k) p ||| VP t l F p:=by rw [List.take_add_one,hlk];exact bt
  have hmv:=YD (TB:=TB) ht m (l:=l) ⟨hin.1,hin.2.1⟩ hF
  generalize IG t F ((Cn t).take k)=A at *
  generalize VP t l F=G at *
  (repeat first|refine s2 rfl fun _ _hb=>?_ |refine aU rfl ?_ |refine Aa ?_)
  ((refine aC rfl ?_ ?_<;>rintro⟨⟩);all_goals try(exfalso;(simp only[oZ] at *;omega)))
  refine aK ?_
  refine aS (aB ?_)
  (repeat first|refine tA rfl ?_ |(refine s4 rfl ‹_› rfl ?_ ?_;omega) |refine aU rfl ?_ |refine Aa ?_)
  (refine pW rfl ?_ rfl (by rfl);refine Bx [0,1,2,3,4] rfl rfl (hmv) ⟨rfl,by decide,by decide⟩ rfl (by simp[cX,zC,hΓ,A1]) ?_;rintro x0 σ1 nx1 ⟨rfl,rfl,rfl⟩ _)
  (repeat first|refine tA rfl ?_)
  refine Aa ?_
  refine aB ?_
  refine aL (α:={p:Nat // p≤12}) [0,3,4,5,14,15,16,23] [0,1,2,3,4,5,6] rfl rfl (fun s=>[(24,eI .i64 s.1)]) (fun s=>[(7,.cells 199 12 [Rz (Lb A G s.1)])]) 8 (fun s=>12 - s.1) (⟨0,by omega⟩) hΓ rfl (by (simp[cX,zC,hΓ,A1]<;>rfl)) ?_;rintro⟨p,hp⟩;(try dsimp only[cA,cB])
  by_cases hpl:p < 12
  ·have hx:(Hm G)[((p:Nat):Int).toNat]? = some (G p:Int):=by rw [Int.toNat_natCast];exact JC hpl
   have ej:0+((p:Nat):Int).toNat*1=p:=by omega
   have hmx:Lb A G p p < 65536:=by
    unfold Lb
    rw [if_neg (by omega)]
    exact hA.lt p
   have hj:(Rz (Lb A G p))[0+((p:Nat):Int).toNat*1]? = some (.d (.v (.int .u16 (Lb A G p p:Int)))):=by rw [ej];exact Og hpl
   have hor:=Ys hmx (hG.lt p)
   have hset:=YM (F:=Lb A G p) (p:=p) hpl (v:=Lb A G p p ||| G p)
   rw [←ZV] at hset
   (repeat first|refine s2 rfl fun _ _hb=>?_ |refine aU rfl ?_ |refine Aa ?_)
   ((refine aC rfl ?_ ?_<;>rintro⟨⟩);all_goals try(exfalso;(simp only[oZ] at *;omega)))
   refine aK ?_
   refine aS (aB ?_)
   (repeat first|(refine sA rfl ?_ ?_;first|exact tI|omega)|(refine Ai rfl ?_;refine gA rfl ?_;first| refine gS (fun _ _=>Ln (l:=Hm G) rfl rfl rfl (by omega) hx) ?_|refine gQ (Pk rfl rfl rfl hj) rfl ?_) |refine aU rfl ?_ |refine Aa ?_)
   (refine Ai rfl ?_;refine HP ?_ rfl (by rfl);refine Eg (r:=Rz (Lb A G p)) rfl rfl rfl rfl rfl rfl (by show 0+((p:Nat):Int).toNat*1+1≤12;omega) ?_)
   refine Aa ?_
   (repeat first|(refine sA rfl ?_ ?_;first|exact tI|omega) |refine aU rfl ?_ |refine Aa ?_)
   refine⟨⟨p+1,by omega⟩,by dsimp only;(omega),[0,1,2,3,4,5,6,7],?_⟩
   simp[cX,zC,hΓ,A1,hor];exact⟨Up,by simpa [Af] using hset⟩
  ·obtain rfl:p=12:=by omega
   have hmx:Hm (Lb A G 12)=Hm fun p=>A p ||| G p:=RA fun p hp=>by unfold Lb;rw [if_pos hp]
   (repeat first|refine s2 rfl fun _ _hb=>?_ |refine aU rfl ?_ |refine Aa ?_)
   ((refine aC rfl ?_ ?_<;>rintro⟨⟩);all_goals try(exfalso;(simp only[oZ] at *;omega)))
   refine aE ?_
   (repeat first|(refine sA rfl ?_ ?_;first|exact tI|omega) |refine aU rfl ?_ |refine Aa ?_)
   refine⟨⟨k+1,by omega⟩,by dsimp only;(omega),[0,1,2,3,4,5,6,7],?_⟩
   simp[cX,zC,hΓ,A1,hnx];exact⟨Up,congrArg (List.map _) hmx⟩
 ·obtain rfl:k=(Cn t).length:=by omega
  rw [List.take_length]
  have hA:=XL ht hF fun x hx=>by
   have:=DF ht hx
   show 0≤x∧x < 6
   omega
  (repeat first|refine s2 rfl fun _ _hb=>?_ |refine aU rfl ?_ |refine Aa ?_)
  ((refine aC rfl ?_ ?_<;>rintro⟨⟩);all_goals try(exfalso;(simp only[oZ] at *;omega)))
  refine aE ?_
  (repeat first|refine tA rfl ?_|(refine Ai rfl ?_;refine gA rfl ?_;first| (refine gB (fun _ _=>kP (a:=Hm (IG t F (Cn t))) (b:=Hm F) rfl rfl rfl rfl (gC hA.lt) (gC hF.lt)) ?_;intro _ _hb)) |refine aU rfl ?_ |refine Aa ?_)
  (refine aC rfl ?_ ?_<;>rintro⟨⟩)
  ·have he:IG t F (Cn t)=F:=by
    have h3:Hm (IG t F (Cn t))=Hm F:=by simpa using _hb
    have h4:=SZ h3
    funext p
    rcases Nat.lt_or_ge p 12 with h5|h5
    ·exact h4 p h5
    ·rw [hA.z p (by omega),hF.z p (by omega)]
   rw [←Zq ht hF0 hF h1 h2 he]
   (repeat first|refine tA rfl ?_ |refine aU rfl ?_ |refine Aa ?_)
   refine aR ⟨_,rfl,[0,1,2,3,4],jd F,NS t m,⟨Up,by decide⟩,rfl,by (simp[cX,zC,hΓ,A1]),rfl,rfl,rfl⟩
  ·have hne:Hm (IG t F (Cn t))≠Hm F:=by simpa using _hb
   have hsub:∀p,F p≤IG t F (Cn t) p:=fun p=>sub_le fun j hj=>Hz.2 (.inl hj)
   have hm:=Yz hF.lt hA.lt hsub hne
   refine aK ?_
   (repeat first|refine tA rfl ?_ |refine aU rfl ?_ |refine Aa ?_)
   refine⟨⟨IG t F (Cn t),hA,fun p j hj=>Hz.2 (.inl (h1 p j hj)),fun p j hj=>bu ht h2 hj⟩,by dsimp only;(omega),[0,1,2,3,4,5,6],?_⟩
   simp[cX,zC,hΓ,A1];exact⟨Up,rfl,rfl⟩
inductive Reach (t:CD):PS→Prop
 | start:Reach t (Cq t)
 | next {F:PS} {l:Int}:0≤l→l < 6→Reach t F→Reach t (Dy t l F)
theorem Reach.ok{t:CD}(ht:A9 t=true){F:PS}(h:Reach t F):CW t F:=by
 induction h with
 | start=>exact Gm ht
 | next h0 h1 _ ih=>exact Lh ht ⟨h0,h1⟩ ih
noncomputable def GP(t:CD):PS→W→PS
 | F,[]=>F
 | F,c::w=>GP t (Dy t ((c.toNat:Int) - 97) F) w
theorem Py{t:CD}:∀(u v:W) (F:PS),GP t F (u++v)=GP t (GP t F u) v
 | [],v,F=>rfl
 | c::u,v,F=>by simp only [List.cons_append,GP];exact Py u v _
def lF(t:CD)(ok:W→Prop)(F:PS):Prop:=F=Cq t∨∃u v,ok (u++v)∧F=GP t (Cq t) u
def jF(t:CD)(ok:W→Prop):Prop:=∀l:List PS,l.Nodup→(∀F∈l,lF t ok F)→l.length≤1099511627776
structure JT (t:CD) (ok:W→Prop) (m:Hp):Prop where
 l1:m.nx.length=m.F.length
 l2:m.un.length=m.F.length
 nd:m.F.Nodup
 rc:∀F∈m.F,Reach t F
 rk:∀F∈m.F,lF t ok F
 un:∀(i:Nat) F,m.F[i]? = some F→m.un[i]? = some (Fb t F)
 nx:∀(i:Nat) F,m.F[i]? = some F→∃r:List Int,m.nx[i]? = some r∧r.length=6∧∀l:Nat,l < 6→∃x,r[l]? = some x∧(x < 0∨∃j:Nat,x=j∧m.F[j]? = some (Dy t l F))
def JO(t:CD)(m:Hp)(G:PS):Hp:=⟨m.F++[G],m.nx++[[-1,-1,-1,-1,-1,-1]],m.un++[Fb t G]⟩
theorem gM{t:CD}(ht:A9 t=true){F G:PS}(hF:CW t F)(hG:CW t G)(h:Hm F=Hm G):F=G:=by
 have h4:=SZ h
 have h0:=AG (Cr ht)
 funext p
 rcases Nat.lt_or_ge p 12 with h5|h5
 ·exact h4 p h5
 ·rw [hF.z p (by omega),hG.z p (by omega)]
theorem SI{l:List PS}{p:List Int×Int}:p∈Qs l↔∃(i:Nat) (F:PS),l[i]? = some F∧p=(Hm F,(i:Int)):=by
 unfold Qs
 rw [List.mem_map]
 constructor
 ·rintro⟨⟨F,i⟩,h,rfl⟩
  exact⟨i,F,List.mk_mem_zipIdx_iff_getElem?.1 h,rfl⟩
 ·rintro⟨i,F,h,rfl⟩
  exact⟨(F,i),List.mk_mem_zipIdx_iff_getElem?.2 h,rfl⟩
theorem fq(l:List PS)(G:PS):Qs (l++[G])=Qs l++[(Hm G,(l.length:Int))]:=by
 unfold Qs
 rw [List.zipIdx_append]
 simp
theorem cG{t:CD}(ht:A9 t=true){l:List PS}(hn:l.Nodup)(hr:∀F∈l,Reach t F):(Qs l).Pairwise (fun a b=>a.1≠b.1):=by
 unfold Qs
 rw [List.pairwise_map,List.pairwise_iff_getElem]
 intro i j h1 h2 hij
 simp only [List.length_zipIdx] at h1 h2
 simp only [List.getElem_zipIdx]
 intro he
 have:=gM ht ((hr _ (List.getElem_mem h1)).ok ht) ((hr _ (List.getElem_mem h2)).ok ht) he
 exact List.pairwise_iff_getElem.1 hn i j h1 h2 hij this
theorem cF{t:CD}(ht:A9 t=true){l:List PS}(hr:∀F∈l,Reach t F):QD 12 .u16 (Qs l):=fun p hp=>by
 obtain⟨i,F,h1,rfl⟩:=SI.1 hp
 exact⟨rfl,gC ((hr F (List.mem_of_getElem? h1)).ok ht).lt⟩
theorem ZG{t:CD}(ht:A9 t=true){l:List PS}(hn:l.Nodup)(hr:∀F∈l,Reach t F){G:PS}(hG:CW t G){v:Int}(h:DM (Qs l) (Hm G)=some v):∃k:Nat,v=k∧l[k]? = some G:=by
 have:∃p∈Qs l,p.1=Hm G:=by
  refine Classical.byContradiction fun hc=>?_
  have h2:DM (Qs l) (Hm G)=none:=Ii.2 fun p hp he=>hc ⟨p,hp,he⟩
  rw [h2] at h;cases h
 obtain⟨p,hp,he⟩:=this
 have h3:=Mj (cG ht hn hr) hp
 rw [he,h] at h3
 obtain⟨i,F,h4,rfl⟩:=SI.1 hp
 have:=gM ht ((hr F (List.mem_of_getElem? h4)).ok ht) hG he
 subst this
 exact⟨i,by injection h3,h4⟩
theorem ZF{l:List PS}{G:PS}(h:DM (Qs l) (Hm G)=none):G∉l:=fun hG=>by
 obtain⟨i,hi,he⟩:=List.getElem_of_mem hG
 exact Ii.1 h (Hm G,(i:Int)) (SI.2 ⟨i,G,by rw [List.getElem?_eq_getElem hi,he],rfl⟩) rfl
theorem KH{α:Type}{l:List α}{a x:α}{i:Nat}(h:l[i]? = some x):(l++[a])[i]? = some x:=by
 rw [List.getElem?_append_left (List.getElem?_eq_some_iff.1 h).1];exact h
theorem TS{α:Type}{l:List α}{a x:α}{i:Nat}(h:(l++[a])[i]? = some x):l[i]? = some x∨i=l.length∧x=a:=by
 rcases Nat.lt_or_ge i l.length with h1|h1
 ·rw [List.getElem?_append_left h1] at h;exact .inl h
 ·rw [List.getElem?_append_right h1] at h
  have h2:i - l.length < 1:=(List.getElem?_eq_some_iff.1 h).1
  have h3:i=l.length:=by simp at h2;omega
  subst h3
  simp at h
  exact .inr ⟨rfl,h.symm⟩
theorem XJ{t:CD}{ok:W→Prop}{m:Hp}(hm:JT t ok m){G:PS}(hG:Reach t G)(hk:lF t ok G)(h:G∉m.F):JT t ok (JO t m G):=by
 refine⟨by simp [JO,hm.l1],by simp [JO,hm.l2],?_,?_,?_,?_,?_⟩
 ·show (m.F++[G]).Nodup
  rw [List.nodup_append]
  exact⟨hm.nd,by simp,fun a ha b hb=>by simp at hb;subst hb;intro e;subst e;exact h ha⟩
 ·intro F hF
  rcases List.mem_append.1 hF with hF|hF
  ·exact hm.rc F hF
  ·simp at hF;subst hF;exact hG
 ·intro F hF
  rcases List.mem_append.1 hF with hF|hF
  ·exact hm.rk F hF
  ·simp at hF;subst hF;exact hk
 ·intro i F hF
  rcases TS hF with h1|⟨h1,rfl⟩
  ·exact KH (hm.un i F h1)
  ·subst h1;show (m.un++[Fb t F])[m.F.length]? = _;rw [←hm.l2];simp
 ·intro i F hF
  rcases TS hF with h1|⟨h1,rfl⟩
  ·obtain⟨r,h2,h3,h4⟩:=hm.nx i F h1
   refine⟨r,KH h2,h3,fun l hl=>?_⟩
   obtain⟨x,h5,h6⟩:=h4 l hl
   refine⟨x,h5,h6.imp id ?_⟩
   rintro⟨j,h7,h8⟩
   exact⟨j,h7,KH h8⟩
  ·refine⟨[-1,-1,-1,-1,-1,-1],by subst h1;show (m.nx++_)[m.F.length]? = _;rw [←hm.l1];simp,rfl,fun l hl=>⟨-1,?_,.inl (by omega)⟩⟩
   obtain rfl|rfl|rfl|rfl|rfl|rfl:l=0∨l=1∨l=2∨l=3∨l=4∨l=5:=by omega
   all_goals rfl
def HC(t:CD)(F:PS)(k:Nat):Bool:=(List.range k).any fun p=>decide (F p≠0) && !(t.q.ac.getD p false)
theorem Ka{t:CD}{F:PS}{k:Nat}:HC t F (k+1)=(HC t F k || (decide (F k≠0) && !(t.q.ac.getD k false))):=by
 unfold HC
 rw [List.range_succ,List.any_append];simp
theorem Zp{t:CD}{F:PS}(h:CW t F)(hn:t.q.nx.length≤12):HC t F 12=Fb t F:=by
 have key:∀k,HC t F (t.q.nx.length+k)=HC t F t.q.nx.length:=fun k=>by
  induction k with
  | zero=>rfl
  | succ k ih=>rw [←Nat.add_assoc,Ka,ih,h.z _ (by omega)];simp
 have:=key (12 - t.q.nx.length)
 rw [show t.q.nx.length+(12 - t.q.nx.length)=12 by omega] at this
 rw [this];rfl
section
variable {P:Program}{Γ:Ctx}{d:Option Tmp}{ty:TypeId}{pos:String}{af:Array Edge}{g:Option (Nat×Bool)}{f:Env}{σ:Ab}{nx:Nat}{t:TypeId}{n:Nat}{q:IntKind}{m e:TypeId}{x y:Operand}{id:Nat}{l:List (List Int×Int)}{s:List Int}
theorem dv{v:Int}[hm:KB P m t e][h:Gn P t n q][hz:QB P e (.int .i64 0)](hv:DM l s=some v)(hx:ev f x=some (.o (.mp id)))(hy:ev f y=some (fh q s))(ho:look σ id=some (.mp (mapA q l)))
 (hl:QD n q l) (hd:l.Pairwise (fun a b=>a.1≠b.1)) (hs:s.length=n) (hw:∀x∈s,(Lit.int q x).wf=true) :
 AS P TB Γ ⟨d,.lookup m x y true,ty,pos,af,g⟩ f σ nx (.t [(false,[.d (.v (.int .i64 v))]),(false,[.d (.v (.bool true))])]):=by
 have:=YP (P:=P) (TB:=TB) (Γ:=Γ) (d:=d) (ty:=ty) (pos:=pos) (af:=af) (g:=g) (nx:=nx) (t:=t) (m:=m) (e:=e) hx hy ho hl hd hs hw
 rw [hv] at this;exact this
theorem dr[hm:KB P m t e][h:Gn P t n q][hz:QB P e (.int .i64 0)](hv:DM l s=none)(hx:ev f x=some (.o (.mp id)))(hy:ev f y=some (fh q s))(ho:look σ id=some (.mp (mapA q l)))
 (hl:QD n q l) (hd:l.Pairwise (fun a b=>a.1≠b.1)) (hs:s.length=n) (hw:∀x∈s,(Lit.int q x).wf=true) :
 AS P TB Γ ⟨d,.lookup m x y true,ty,pos,af,g⟩ f σ nx (.t [(false,[.d (.v (.int .i64 0))]),(false,[.d (.v (.bool false))])]):=by
 have:=YP (P:=P) (TB:=TB) (Γ:=Γ) (d:=d) (ty:=ty) (pos:=pos) (af:=af) (g:=g) (nx:=nx) (t:=t) (m:=m) (e:=e) hx hy ho hl hd hs hw
 rw [hv] at this;exact this
end
theorem bx{t:CD}{ok:W→Prop}(ht:A9 t=true){m:Hp}(hm:JT t ok m)(hlen:m.F.length≤1099511627776){G:PS}(hG:CW t G):∃(m':Hp) (k:Nat),((m'=m∧m.F[k]? = some G)∨(m'=JO t m G∧k=m.F.length∧G∉m.F))∧
 AD Tryz.prog TB 154 1 (NS t m) 5 [.o (.ptr 0 14 0 0),jd G] (fun x σ nx=>x=eI .i64 (k:Int)∧σ=NS t m'∧nx=5):=by
 have hah:=AG (Cr ht)
 have hpw:=cG ht hm.nd hm.rc
 have hks:=cF ht hm.rc
 have hwf:=gC hG.lt
 cases hf:DM (Qs m.F) (Hm G) with
 | some v=>
  obtain⟨k,rfl,hk⟩:=ZG ht hm.nd hm.rc hG hf
  refine⟨m,k,.inl ⟨rfl,hk⟩,?_⟩
  refine AD.A3 (AD.P6 (m:=1) (Nat.le_of_ble_eq_true rfl) Tryz.func154 rfl (by kernel_rfl) (Nat.le_of_ble_eq_true rfl) ?_);intro Γ hΓ
  (repeat first|refine tA rfl ?_ |refine aU rfl ?_ |refine Aa ?_)
  refine rG (IZ []) (by kernel_rfl) ?_
  (repeat first|refine tA rfl ?_|(refine Ai rfl ?_;refine gA rfl ?_;first| refine gQ (dv (s:=Hm G) (l:=Qs m.F) hf rfl rfl rfl hks hpw rfl hwf) rfl ?_) |refine aU rfl ?_ |refine Aa ?_)
  (refine aC rfl ?_ ?_<;>rintro⟨⟩)
  (repeat first|refine tA rfl ?_ |refine aU rfl ?_ |refine Aa ?_)
  refine aR ⟨_,rfl,[0,1,2,3,4],eI .i64 (k:Int),NS t m,⟨by intro i hi;match i with|0=>rfl,by decide⟩,rfl,by (simp[cX,zC,hΓ,A1]),rfl,rfl,rfl⟩
 | none =>
  refine⟨JO t m G,m.F.length,.inr ⟨rfl,rfl,ZF hf⟩,?_⟩
  have h1:=hm.l1
  have h2:=hm.l2
  have hap:=fq m.F G
  refine AD.A3 (AD.P6 (m:=1) (Nat.le_of_ble_eq_true rfl) Tryz.func154 rfl (by kernel_rfl) (Nat.le_of_ble_eq_true rfl) ?_);intro Γ hΓ
  (repeat first|refine tA rfl ?_ |refine aU rfl ?_ |refine Aa ?_)
  refine rG (IZ []) (by kernel_rfl) ?_
  (repeat first|refine tA rfl ?_|(refine Ai rfl ?_;refine gA rfl ?_;first| refine gQ (dr (s:=Hm G) (l:=Qs m.F) hf rfl rfl rfl hks hpw rfl hwf) rfl ?_) |refine aU rfl ?_ |refine Aa ?_)
  (refine aC rfl ?_ ?_<;>rintro⟨⟩)
  refine aK ?_
  (repeat first|refine tA rfl ?_ |refine aU rfl ?_ |refine Aa ?_)
  refine rG (IZ [6]) (by kernel_rfl) ?_
  (repeat first|refine tA rfl ?_)
  (refine Ai rfl ?_;refine HP ?_ rfl (by rfl);refine iP (s:=Hm G) (l:=Qs m.F) rfl rfl rfl rfl hks hpw rfl hwf hf ?_)
  rw [←hap]
  refine Aa ?_
  (repeat first|refine aU rfl ?_)
  refine rG (aX [(4,0),(7,1),(10,1)]) (by kernel_rfl) ?_
  (repeat first|refine tA rfl ?_)
  (refine pW rfl ?_ rfl (by rfl);refine AH rfl rfl rfl (by first| (simp;done)|(simp;(omega))) rfl (by intro r hr;simp at hr;subst hr;rfl) (by rfl) (Nat.le_of_ble_eq_true rfl) (by simp;omega) ?_)
  (repeat first|refine tA rfl ?_ |refine aU rfl ?_ |refine Aa ?_)
  (repeat first|refine tA rfl ?_|(refine Ai rfl ?_;refine gA rfl ?_;first| refine gS (fun _ _=>AQ rfl rfl (by rfl) (by rfl)) ?_))
  (refine pW rfl ?_ rfl (by rfl);refine AH rfl rfl rfl (by first| (simp;done)|(simp;(omega))) rfl (by intro r hr;simp at hr;subst hr;rfl) (by rfl) (Nat.le_of_ble_eq_true rfl) (by simp;omega) ?_)
  (repeat first|refine tA rfl ?_ |refine aU rfl ?_ |refine Aa ?_)
  refine Au.BR [0,7,8,53,54] [] rfl rfl [] [(0,.cells 195 14 [dP t (.arr 1 12 0 (JO t m G).F.length) (.mp 2) (.arr 3 6 0 (JO t m G).nx.length) (.arr 4 1 0 m.un.length)]),(1,.cells 199 12 ((JO t m G).F.map Rz)),(2,.mp (mapA .u16 (Qs (JO t m G).F))),(3,.cells 121 6 ((JO t m G).nx.map Rw)),(4,.cells 4 1 (m.un.map Ax))] [0,5,2,6,4] (rl hΓ rfl) (by (simp[cX,zC,hΓ,A1,JO]<;>rfl)) ?_;(try dsimp only[cA,cB])
  refine aB ?_
  refine aL (α:={k:Nat // k≤12}) [0,7,53] [0,1,2,3,4] rfl rfl (fun s=>[(8,eB (HC t G s.1)),(54,eI .i64 s.1)]) (fun s=>[]) 5 (fun s=>12 - s.1) (⟨0,by omega⟩) hΓ rfl (by (simp[cX,zC,hΓ,A1]<;>rfl)) ?_;rintro⟨k,hk⟩;(try dsimp only[cA,cB])
  by_cases hkl:k < 12
  ·have hx:(Hm G)[((k:Nat):Int).toNat]? = some (G k:Int):=by rw [Int.toNat_natCast];exact JC hkl
   have hs:=Ka (t:=t) (F:=G) (k:=k)
   generalize HC t G k=b0 at *
   by_cases hkn:k < t.q.nx.length
   ·obtain⟨b,hb⟩:=get_some (l:=t.q.ac) (k:=((k:Nat):Int).toNat) (by omega)
    have hb':=get_map (g:=Ib) hb
    have hgd:t.q.ac.getD k false=b:=by rw [Int.toNat_natCast] at hb;simp [List.getD,hb]
    rw [hgd] at hs
    (repeat first|refine s2 rfl fun _ _hb=>?_ |refine aU rfl ?_ |refine Aa ?_)
    ((refine aC rfl ?_ ?_<;>rintro⟨⟩);all_goals try(exfalso;(simp only[oZ] at *;omega)))
    refine aK ?_
    refine aS (aB ?_)
    (repeat' first|(refine sA rfl ?_ ?_;first|exact tI|omega) |(refine s4 rfl ‹_› rfl ?_ ?_;omega) |refine s2 rfl fun _ _hb=>?_|(refine Ai rfl ?_;refine gA rfl ?_;first| refine gS (fun _ _=>Ln (l:=Hm G) rfl rfl rfl (by omega) hx) ?_) |refine s3 rfl ?_ ?_<;>rintro rfl |refine aU rfl ?_ |refine Aa ?_|(refine aC rfl ?_ ?_<;>rintro⟨⟩));all_goals try contradiction
    all_goals ((try refine aK ?_);refine⟨⟨k+1,by omega⟩,by dsimp only;(omega),[0,1,2,3,4],?_⟩;simp only [decide_eq_true_eq,decide_eq_false_iff_not] at *;simp[cX,zC,hΓ,A1,hs];try (simp_all;done))
   ·have hz:=hG.z k (by omega)
    rw [hz] at hs
    (repeat first|refine s2 rfl fun _ _hb=>?_ |refine aU rfl ?_ |refine Aa ?_)
    ((refine aC rfl ?_ ?_<;>rintro⟨⟩);all_goals try(exfalso;(simp only[oZ] at *;omega)))
    refine aK ?_
    refine aS (aB ?_)
    (repeat' first|(refine sA rfl ?_ ?_;first|exact tI|omega) |refine s2 rfl fun _ _hb=>?_|(refine Ai rfl ?_;refine gA rfl ?_;first| refine gS (fun _ _=>Ln (l:=Hm G) rfl rfl rfl (by omega) hx) ?_) |refine s3 rfl ?_ ?_<;>rintro rfl |refine aU rfl ?_ |refine Aa ?_|(refine aC rfl ?_ ?_<;>rintro⟨⟩));all_goals try contradiction
    all_goals first| (exfalso;(simp only[oZ] at *;omega);done)|skip
    all_goals ((try refine aK ?_);refine⟨⟨k+1,by omega⟩,by dsimp only;(omega),[0,1,2,3,4],?_⟩;simp[cX,zC,hΓ,A1,hs];try (simp_all;done))
  ·obtain rfl:k=12:=by omega
   rw [Zp hG (by omega)]
   (repeat first|refine s2 rfl fun _ _hb=>?_ |refine aU rfl ?_ |refine Aa ?_)
   ((refine aC rfl ?_ ?_<;>rintro⟨⟩);all_goals try(exfalso;(simp only[oZ] at *;omega)))
   refine aE ?_
   (repeat first|refine tA rfl ?_ |refine aU rfl ?_)
   (refine pW rfl ?_ rfl (by rfl);refine AH rfl rfl rfl (by first| (simp;done)|(simp;(omega))) rfl (by intro r hr;simp at hr;subst hr;rfl) (by rfl) (Nat.le_of_ble_eq_true rfl) (by simp;omega) ?_)
   (repeat first|refine tA rfl ?_ |refine aU rfl ?_ |refine Aa ?_)
   refine aR ⟨_,rfl,[0,1,2,3,5],eI .i64 (m.F.length:Int),NS t (JO t m G),⟨by intro i hi;match i with|0=>rfl,by decide⟩,rfl,by (simp[cX,zC,hΓ,A1,JO]),rfl,rfl,rfl⟩
def lQ(m m':Hp):Prop:=∀(i:Nat) F,m.F[i]? = some F→m'.F[i]? = some F
theorem eH{t:CD}{m:Hp}{G:PS}:lQ m (JO t m G):=fun _ _ h=>KH h
def az(m:Hp)(n:Nat)(r:List Int):Hp:={ m with nx:=m.nx.set n r }
theorem ga{t:CD}{ok:W→Prop}{m:Hp}(hm:JT t ok m){n k l:Nat}{F:PS}{r:List Int}(hF:m.F[n]? = some F)(hr:m.nx[n]? = some r)(hl:l < 6)(hk:m.F[k]? = some (Dy t l F)):JT t ok (az m n (r.set l k)):=by
 refine⟨by simp [az,hm.l1],hm.l2,hm.nd,hm.rc,hm.rk,hm.un,fun i G hG=>?_⟩
 replace hG:m.F[i]? = some G:=hG
 by_cases e:i=n
 ·subst e
  rw [hF] at hG;injection hG with hG;subst hG
  obtain⟨r',h1,h2,h3⟩:=hm.nx i F hF
  rw [hr] at h1;injection h1 with h1;subst h1
  have hlt:=(List.getElem?_eq_some_iff.1 hr).1
  refine⟨r.set l k,by simp [az,hlt],by simp [h2],fun l' hl'=>?_⟩
  by_cases e2:l'=l
  ·subst e2
   exact⟨k,by simp [h2,hl'],.inr ⟨k,rfl,hk⟩⟩
  ·obtain⟨x,h4,h5⟩:=h3 l' hl'
   exact⟨x,by rw [List.getElem?_set_ne (fun h=>e2 h.symm)];exact h4,h5⟩
 ·obtain⟨r',h1,h2,h3⟩:=hm.nx i G hG
  exact⟨r',by simp only [az];rw [List.getElem?_set_ne (fun h=>e h.symm)];exact h1,h2,h3⟩
theorem YH{r:List Int}{l:Nat}{x:Int}(h:r[l]? = some x):(Rw r)[l]? = some (.d (iD x)):=by simp [h]
theorem fB{r:List Int}{l:Nat}{x:Int}(h:l < r.length):Af (Rw r) l [.d (iD x)]=Rw (r.set l x):=by
 rw [Iy (by simpa using h)]
 unfold Rw
 rw [List.map_set]
theorem bz[Df TB]{t:CD}{ok:W→Prop}(ht:A9 t=true)(hfew:jF t ok){m:Hp}(hm:JT t ok m){n:Nat}{F:PS}(hF:m.F[n]? = some F){l:Int}(hl:0≤l∧l < 6)(hrk:lF t ok (Dy t l F)):∃(m':Hp) (j:Nat),JT t ok m'∧lQ m m'∧m'.F[j]? = some (Dy t l F)∧
 AD Tryz.prog TB 156 1 (NS t m) 5 [.o (.ptr 0 14 0 0),eI .i64 (n:Int),eI .i64 l] (fun x σ nx=>x=eI .i64 (j:Int)∧σ=NS t m'∧nx=5):=by
 have hlen:=hfew m.F hm.nd hm.rk
 obtain⟨r,hr,hrl,hrx⟩:=hm.nx n F hF
 have hn:=(List.getElem?_eq_some_iff.1 hF).1
 have h1:=hm.l1
 obtain⟨x,hx,hxx⟩:=hrx l.toNat (by omega)
 have el:((l.toNat:Nat):Int)=l:=by omega
 rw [el] at hxx
 have hFo:=(hm.rc F (List.mem_of_getElem? hF)).ok ht
 have hr':(m.nx.map Rw)[0+((n:Nat):Int).toNat]? = some (Rw r):=by rw [Nat.zero_add,Int.toNat_natCast];simp [hr]
 have hx':(Rw r)[0+l.toNat*1]? = some (.d (iD x)):=by rw [Nat.zero_add,Nat.mul_one];exact YH hx
 by_cases hx0:x < 0
 ·have hG:=Lh ht hl hFo
  have hGr:Reach t (Dy t l F):=.next hl.1 hl.2 (hm.rc F (List.mem_of_getElem? hF))
  obtain⟨m1,k,hcase,hadd⟩:=bx (TB:=TB) ht hm hlen hG
  have hm1:JT t ok m1∧lQ m m1∧m1.F[k]? = some (Dy t l F):=by
   rcases hcase with ⟨rfl,h2⟩|⟨rfl,rfl,h2⟩
   ·exact⟨hm,fun _ _ h=>h,h2⟩
   ·exact⟨XJ hm hGr hrk h2,eH,by simp [JO]⟩
  obtain⟨hm1,hle,hk⟩:=hm1
  have hF1:=hle n F hF
  obtain⟨r1,hr1,hrl1,_⟩:=hm1.nx n F hF1
  have hn1:=(List.getElem?_eq_some_iff.1 hr1).1
  have hok:=ga (l:=l.toNat) hm1 hF1 hr1 (by omega) (k:=k) (by rw [el];exact hk)
  refine⟨_,k,hok,hle,hk,?_⟩
  have hmv:=YD (TB:=TB) ht m hl hFo
  have hcl:=Ua (TB:=TB) ht m (Ko ht hl hFo)
  have hs':(m.F.map Rz)[0+((n:Nat):Int).toNat]? = some (Rz F):=by rw [Nat.zero_add,Int.toNat_natCast];simp [hF]
  refine AD.A3 (AD.P6 (m:=1) (Nat.le_of_ble_eq_true rfl) Tryz.func156 rfl (by kernel_rfl) (Nat.le_of_ble_eq_true rfl) ?_);intro Γ hΓ
  (repeat first|(refine sA rfl ?_ ?_;first|exact tI|omega) |refine s2 rfl fun _ _hb=>?_|(refine Ai rfl ?_;refine gA rfl ?_;first| refine gQ (Pk rfl rfl (by assumption) hx') rfl ?_) |refine aU rfl ?_ |refine Aa ?_)
  ((refine aC rfl ?_ ?_<;>rintro⟨⟩);all_goals try(exfalso;(simp only[oZ] at *;omega)))
  (repeat first|(refine sA rfl ?_ ?_;first|exact tI|omega) |refine t4 rfl ‹_› rfl ?_ |refine aU rfl ?_)
  (refine pW rfl ?_ rfl (by rfl);refine Bx [0,1,2,3,4] rfl rfl (hmv) ⟨rfl,by decide,by decide⟩ rfl (by simp[cX,zC,hΓ,A1]) ?_;rintro x0 σ1 nx1 ⟨rfl,rfl,rfl⟩ _)
  (refine pW rfl ?_ rfl (by rfl);refine Bx [0,1,2,3,4] rfl rfl (hcl) ⟨rfl,by decide,by decide⟩ rfl (by simp[cX,zC,hΓ,A1]) ?_;rintro x0 σ1 nx1 ⟨rfl,rfl,rfl⟩ _)
  (refine pW rfl ?_ rfl (by rfl);refine BO [0,1,2,3,4] rfl rfl 1 (hadd) (by decide) ⟨rfl,by decide,by decide⟩ rfl (by simp[cX,zC,hΓ,A1]) ?_;rintro x0 σ1 nx1 ⟨rfl,rfl,rfl⟩ _)
  (repeat first|refine tA rfl ?_)
  refine Aa ?_
  refine Au.BR [0,1,2,7] [] rfl rfl [] [(0,.cells 195 14 [dP t (.arr 1 12 0 m1.F.length) (.mp 2) (.arr 3 6 0 m1.nx.length) (.arr 4 1 0 m1.un.length)]),(1,.cells 199 12 (m1.F.map Rz)),(2,.mp (mapA .u16 (Qs m1.F))),(3,.cells 121 6 (m1.nx.map Rw)),(4,.cells 4 1 (m1.un.map Ax))] [0,5,6,7,8] (rl hΓ rfl) (by (simp[cX,zC,hΓ,A1])) ?_;(try dsimp only[cA,cB])
  have hr1':(m1.nx.map Rw)[0+((n:Nat):Int).toNat]? = some (Rw r1):=by rw [Nat.zero_add,Int.toNat_natCast];simp [hr1]
  have hst:=fB (r:=r1) (l:=l.toNat) (x:=(k:Int)) (by omega)
  have hr2l:(r1.set l.toNat (k:Int))[l.toNat]? = some (k:Int):=by rw [List.getElem?_set_self (by omega)]
  generalize r1.set l.toNat (k:Int)=r2 at *
  have hst2:(Rw r1).take l.toNat++C.d (iD k)::(Rw r1).drop (l.toNat+1)=Rw r2:=by rw [←hst];simp [Af]
  (repeat first|(refine sA rfl ?_ ?_;first|exact tI|omega) |refine aU rfl ?_)
  (refine Ai rfl ?_;refine HP ?_ rfl (by rfl);refine Eg (r:=Rw r1) rfl rfl rfl rfl hr1' rfl (by show 0+l.toNat*1+1≤6;omega) ?_)
  refine Aa ?_
  refine Au.BR [0,1,2] [] rfl rfl [] [(0,.cells 195 14 [dP t (.arr 1 12 0 m1.F.length) (.mp 2) (.arr 3 6 0 m1.nx.length) (.arr 4 1 0 m1.un.length)]),(1,.cells 199 12 (m1.F.map Rz)),(2,.mp (mapA .u16 (Qs m1.F))),(3,.cells 121 6 ((m1.nx.set n r2).map Rw)),(4,.cells 4 1 (m1.un.map Ax))] [0,1,2,3,4] (rl hΓ rfl) (by (simp[cX,zC,hΓ,A1,hst2])) ?_;(try dsimp only[cA,cB])
  have hr2:((m1.nx.set n r2).map Rw)[0+((n:Nat):Int).toNat]? = some (Rw r2):=by rw [Nat.zero_add,Int.toNat_natCast];simp [hn1]
  have hx2:(Rw r2)[0+l.toNat*1]? = some (.d (iD k)):=by rw [Nat.zero_add,Nat.mul_one];exact YH hr2l
  (repeat first|(refine sA rfl ?_ ?_;first|exact tI|omega)|(refine Ai rfl ?_;refine gA rfl ?_;first| refine gQ (Pk rfl rfl (by assumption) hx2) rfl ?_) |refine aU rfl ?_ |refine Aa ?_)
  refine aR ⟨_,rfl,[0,1,2,3,4],eI .i64 (k:Int),NS t (az m1 n r2),⟨by intro i hi;match i with|0=>rfl,by decide⟩,rfl,by (simp[cX,zC,hΓ,A1,az]),rfl,rfl,rfl⟩
 ·obtain⟨j,rfl,hj⟩:=hxx.resolve_left hx0
  refine⟨m,j,hm,fun _ _ h=>h,hj,?_⟩
  refine AD.A3 (AD.P6 (m:=1) (Nat.le_of_ble_eq_true rfl) Tryz.func156 rfl (by kernel_rfl) (Nat.le_of_ble_eq_true rfl) ?_);intro Γ hΓ
  (repeat first|(refine sA rfl ?_ ?_;first|exact tI|omega) |refine s2 rfl fun _ _hb=>?_|(refine Ai rfl ?_;refine gA rfl ?_;first| refine gQ (Pk rfl rfl (by assumption) hx') rfl ?_) |refine aU rfl ?_ |refine Aa ?_)
  ((refine aC rfl ?_ ?_<;>rintro⟨⟩);all_goals try(exfalso;(simp only[oZ] at *;omega)))
  refine aK ?_
  (repeat first|(refine sA rfl ?_ ?_;first|exact tI|omega)|(refine Ai rfl ?_;refine gA rfl ?_;first| refine gQ (Pk rfl rfl (by assumption) hx') rfl ?_) |refine aU rfl ?_ |refine Aa ?_)
  refine aR ⟨_,rfl,[0,1,2,3,4],eI .i64 (j:Int),NS t m,⟨by intro i hi;match i with|0=>rfl,by decide⟩,rfl,by (simp[cX,zC,hΓ,A1]),rfl,rfl,rfl⟩
end Go.Am
namespace Go.Am
open Go
set_option linter.unusedVariables false
section
variable {P:Program}{TB:Bt}{Γ:Ctx}{d:Option Tmp}{ty:TypeId}{pos:String}{af:Array Edge}{g:Option (Nat×Bool)}{f:Env}{σ:Ab}{nx:Nat}
theorem ml{gg:FuncId}{x:Operand}{c:C}(hx:ev f x=some (.o c)):AS P TB Γ ⟨d,.makeFunc (.func gg) #[x] #[],ty,pos,af,g⟩ f σ nx (.o (.mv gg [c])):=
 AJ fun V ρ h1 _=>by
  refine⟨.func (.func gg) #[ρ x] #[],by simp [execOp,Instr.makeFunc,go_sem],AB.mv rfl fun j c' v hj hv=>?_⟩
  have h2:AB V c (ρ x):=h1.get (by simp [Op.operands]) hx
  match j with
  | 0=>simp at hj hv;subst hj;subst hv;exact h2
  | j+1=>simp at hj
theorem iO{V:View}{gg:FuncId}{recv:List C}{v:Value}(h:Bd V (.o (.mv gg recv)) v):∃vs,v=.func (.func gg) vs #[]∧C7 V recv vs:=by
 have h:AB V (.mv gg recv) v:=h
 generalize hc:C.mv gg recv=c at h
 cases h<;>cases hc
 rename_i vs h1 h2
 exact⟨vs,rfl,h1,h2⟩
theorem Wq{x:Operand}{args:Array Operand}{tys:Array TypeId}{gg:FuncId}{vs:Array Value}(hf:bh P gg){ρ:Operand→Value}(hv:ρ x=.func (.func gg) vs #[])(w:World) :
 (execOp ρ ⟨d,.call ⟨.value x,args,tys⟩,ty,pos,af,g⟩).run P w=.ok (.enter gg (vs++args.map ρ)) w:=by
 obtain⟨fn,h1,h2,h3⟩:=hf
 have hb:∃c,fn.body=some c:=by cases hb:fn.body with|none=>rw [hb] at h3;cases h3|some c=>exact⟨c,rfl⟩
 obtain⟨c,hb⟩:=hb
 simp only [execOp,resolve,hv,Deferred.ofValue,pure_bind,invoke,callFunc]
 have h2':¬fn.name = "runtime.NumGoroutine" := by simpa using h2
 simp [Sem.run,program,h1,h2',hb,go_sem]
theorem db{x:Operand}{args:Array Operand}{tys:Array TypeId}{gg:FuncId}{recv:List C}{es:List E}{r:E}(hx:ev f x=some (.o (.mv gg recv)))(hes:JP f args.toList=some es)(hp:(es.all E.Cp && C.Dr recv)=true)
 (hs:Pure P TB gg (recv.map .o++es) r) (hr:r.Cp=true):AS P TB Γ ⟨d,.call ⟨.value x,args,tys⟩,ty,pos,af,g⟩ f σ nx r:=by
 intro V a h1 h2 h3
 have h1:=h1.HF
 unfold Oper.wp
 generalize a.eval=ρ at h1 ⊢
 obtain⟨vs,hv,hcap⟩:=iO (h1.get (x:=x) (by simp [Op.operands,Call.operands]) hx)
 rw [Wq hs.1 hv]
 rw [Bool.and_eq_true] at hp
 have hel:=CQ hes
 have hargs:NB { V with nx:=0 } (recv.map .o++es) (vs++args.map ρ):=by
  refine⟨by simp [hcap.1,hel],fun j e v hj hv=>?_⟩
  have hsz:vs.size=recv.length:=hcap.1
  by_cases hlt:j < recv.length
  ·rw [List.getElem?_append_left (by simpa using hlt)] at hj
   rw [Array.getElem?_append_left (by rw [hsz];exact hlt)] at hv
   simp only [List.getElem?_map,Option.map_eq_some_iff] at hj
   obtain⟨c,hc,rfl⟩:=hj
   exact AB.Cp (V:=V) (V':={ V with nx:=0 }) rfl rfl (hcap.2 _ c v hc hv) (FG _ hp.2 _ c hc)
  ·rw [List.getElem?_append_right (by simp;omega)] at hj
   rw [Array.getElem?_append_right (by rw [hsz];omega),hsz] at hv
   simp only [List.length_map] at hj
   refine Bd.Cp (V:=V) (V':={ V with nx:=0 }) rfl rfl (HA (fun y hy e he=>h1.get (by simp [Op.operands,Call.operands];right;simpa using hy) he) hes _ e v hj (by rw [←Array.toList_map];simpa using hv)) (List.all_eq_true.1 hp.1 e (List.mem_of_getElem? hj))
 obtain⟨S,hS,hSJ,hSB⟩:=h2.hid
 refine(hs.2 { V with nx:=0 } _ S ⟨h2.iLt,Es,h2.tabs,rfl,⟨hS.r,hS.ji,hS.bi,fun b ⟨_,_,h,_⟩=>by cases h⟩⟩ hargs).mono ?_
 rintro e w' ⟨V1,v,x1,σ1,rfl,rfl,hi1,hx1,rfl⟩
 obtain⟨hi',he'⟩:=J6 h2 hS hSJ hSB (Vc:={ V with nx:=0 }) rfl hi1 V1.I (fun b hb=>hi1.ext.i b hb) (fun b hb=>by
  rcases hi1.iNew b hb with h|h|h|h
  ·exact .inl h
  ·exact .inr (.inl ⟨h,hi1.iLt b hb⟩)
  ·obtain⟨_,_,h,_⟩:=h;cases h
  ·exact .inr (.inr h)) (fun b hb _=>hb) (fun b hb=>hb)
 exact⟨{ V with I:=V1.I,w:=V1.w },v,rfl,rfl,he',hi',h3,Bd.Cp (V:=V1) (V':={ V with I:=V1.I,w:=V1.w }) rfl rfl hx1 hr⟩
end
abbrev Pn(r:Nat):C:=.d (.v (.pointer (some ⟨r,0,none⟩)))
theorem c6{P:Program}{tabs:List (Nat×Obj)}{H:Hid}{r:Nat}{gg:FuncId}{k:Nat}{es:List E}{x0:E}(hf:bh P gg)(hsc:∀e∈es,e.sc=true)(hx:x0.sc=true)
 (h:∀s,AD P ⟨tabs,none⟩ gg 1 (H.st s) H.nx (.o (.ptr 0 k 0 0)::es) (fun x σ nx=>x=x0∧nx=H.nx∧∃s',σ=H.st s')):Pure P ⟨tabs,some (H,r)⟩ gg (.o (Pn r)::es) x0:=by
 refine⟨hf,fun V vs S hg ha=>?_⟩
 have hr:∃(s:H.S) (V0:View),V0.I=S.J∧V0.w=V.w∧V0.nx=H.nx∧Hy V0 (H.st s)∧(0 < V0.nx∧V0.ρ 0=r∧¬V0.nl 0∧∀x∈(⟨tabs,some (H,r)⟩:Bt),V0.I x.1)∧∀b,S.B b↔DB V0 (H.st s) b:=hg.hid.r
 obtain⟨s,V0,e1,e2,e3,st,⟨n0,ρ0,nl0,tb⟩,hB⟩:=hr
 have hgood:Good ⟨tabs,none⟩ V0 (H.st s) H.nx ⟨fun _=>False,fun _=>False⟩:=
  ⟨fun b hb=>by rw [e2];exact hg.iLt b (hg.hid.ji b (by rw [←e1];exact hb)),st,fun x hx=>⟨tb x hx,by rw [e2];exact(hg.tabs x hx).2⟩,e3,⟨fun _ h=>h,fun _ h=>h.elim,fun _ h=>h.elim,fun _ _ h=>h⟩⟩
 have hargs:NB V0 (.o (.ptr 0 k 0 0)::es) vs:=by
  refine⟨ha.1,fun j e v hj hv=>?_⟩
  match j with
  | 0=>
   injection hj with hj
   subst hj
   have h1:=ha.2 0 (.o (Pn r)) v rfl hv
   have h2:v=.pointer (some ⟨r,0,none⟩):=AB.val h1
   subst h2
   have:=AB.ptr (V:=V0) (id:=0) (k:=k) (i:=0) (j:=0) n0 nl0
   rw [ρ0,Nat.zero_mul] at this
   exact this
  | j+1=>exact Xf (ha.2 (j+1) e v hj hv) (hsc e (List.mem_of_getElem? hj))
 have hrun:=(h s).2 V0 vs _ hgood hargs
 rw [e2] at hrun
 refine hrun.mono ?_
 rintro e w' ⟨V1,v,x,σ',rfl,rfl,hi,hx1,rfl,hn,s',rfl⟩
 have hsz:V.w.heap.size≤V1.w.heap.size:=by have h9:V0.w.heap.size≤_:=hi.ext.size;rw [e2] at h9;exact h9
 have hold:∀b,b < V.w.heap.size→¬S.B b→V1.w.heap[b]? = V.w.heap[b]?:=fun b hb hn=>by
  have h9:V1.w.heap[b]? = V0.w.heap[b]?:=hi.old b (by show b < V0.w.heap.size;rw [e2];exact hb) fun h=>h.elim (fun h=>hn ((hB b).2 h)) fun h=>h
  rw [h9,e2]
 have hnew:∀b,V1.I b→S.J b∨V.w.heap.size≤b∨S.B b:=fun b hb=>by
  rcases hi.iNew b hb with h9|h9|h9|h9
  ·exact .inl (by rw [←e1];exact h9)
  ·have h9:V0.w.heap.size≤b:=h9
   rw [e2] at h9;exact .inr (.inl h9)
  ·exact .inr (.inr ((hB b).2 h9))
  ·exact h9.elim
 have hlv:∀b,DB V1 (H.st s') b→V.w.heap.size≤b∨S.B b:=fun b ⟨id,o,g1,g2,g3⟩=>by
  rcases hi.live id o g1 g2 b g3 with h9|h9|h9
  ·have h9:V0.w.heap.size≤b:=h9
   rw [e2] at h9;exact .inl h9
  ·exact .inr ((hB b).2 h9)
  ·exact h9.elim
 have e:Ext V { V with I:=fun b=>V.I b∨V1.I b,w:=V1.w } := ⟨fun _ h=>.inl h,fun b hb=>hold b (hg.iLt b hb) fun h=>hg.hid.bi b h hb,hsz,fun _ _=>rfl,fun _ _=>rfl,fun _ _=>Iff.rfl,Nat.le_refl _⟩
 refine⟨{ V with I:=fun b=>V.I b∨V1.I b,w:=V1.w },v,x,[],rfl,rfl,⟨?_,?_,?_,fun b hb hf=>hold b hb fun h=>hf (.inr h),fun b hb=>?_,fun b hb=>?_,e,Es,fun id o ho=>(by cases ho),fun y hy=>⟨.inl (hg.tabs y hy).1,?_⟩,⟨⟨DB V1 (H.st s'),V1.I⟩,⟨?_,fun b hb=>.inr hb,fun b hb hI=>?_,fun b ⟨_,_,h,_⟩=>by cases h⟩,fun b hb=>?_,fun b hb=>?_⟩⟩,Xf hx1 hx,rfl⟩
 ·have h9:V1.w.os=V0.w.os:=hi.os
  rw [e2] at h9;exact h9
 ·have h9:V1.w.tape=V0.w.tape:=hi.tape
  rw [e2] at h9;exact h9
 ·have h9:V1.w.output=V0.w.output:=hi.output
  rw [e2] at h9;exact h9
 ·rcases hb with hb|hb
  ·exact Nat.lt_of_lt_of_le (hg.iLt b hb) hsz
  ·exact hi.iLt b hb
 ·rcases hb with hb|hb
  ·exact .inl hb
  ·rcases hnew b hb with h9|h9|h9
   ·exact .inl (hg.hid.ji b h9)
   ·exact .inr (.inl h9)
   ·exact .inr (.inr (.inr h9))
 ·exact(hold _ (hg.iLt _ (hg.tabs y hy).1) fun h=>hg.hid.bi _ h (hg.tabs y hy).1).trans (hg.tabs y hy).2
 ·exact⟨s',V1,rfl,rfl,hn,hi.st,⟨by rw [hn,←e3];exact n0,by rw [←ρ0];exact hi.ext.ρ 0 Nat.zero_lt_one,fun h=>nl0 ((hi.ext.nl 0 Nat.zero_lt_one).1 h),fun y hy=>hi.ext.i _ (tb y hy)⟩,fun _=>Iff.rfl⟩
 ·have hb':=hb
  obtain⟨id,o,g1,g2,g3⟩:=hb
  rcases hI with hI|hI
  ·rcases hlv b hb' with h9|h9
   ·have:=hg.iLt b hI;omega
   ·exact hg.hid.bi b h9 hI
  ·exact hi.st.free id o g1 g2 b g3 hI
 ·rcases hnew b hb with h9|h9|h9
  ·exact .inl h9
  ·exact .inr (.inl h9)
  ·exact .inr (.inr (.inr h9))
 ·rcases hlv b hb with h9|h9
  ·exact .inl h9
  ·exact .inr (.inr h9)
inductive CH (i r:Nat):C→C→Prop
 | AE {c:C}:CH i r c c
 | ptr {k:Nat}:CH i r (.ptr i k 0 0) (Pn r)
 | mv {gg:FuncId} {k:Nat}:CH i r (.mv gg [.ptr i k 0 0]) (.mv gg [Pn r])
theorem CH.rel{V:View}{i r:Nat}(hr:V.ρ i=r){c c':C}{v:Value}(h:CH i r c c')(hc:AB V c v):AB V c' v:=by
 have hp:∀ {k:Nat} {v:Value},AB V (.ptr i k 0 0) v→AB V (Pn r) v:=fun {k v} hc=>by
  cases hc with
  | ptr h1 h2=>rw [Nat.zero_mul,hr];exact .d (.v rfl)
 cases h with
 | AE=>exact hc
 | ptr=>exact hp hc
 | mv =>
  cases hc with
  | mv h1 h2=>
   refine .mv (by rw [h1];rfl) fun j c v hj hv=>?_
   match j with
   | 0=>injection hj with hj;subst hj;exact hp (h2 0 _ v rfl hv)
   | j+1=>simp at hj
inductive LH (i r:Nat):List C→List C→Prop
 | nil:LH i r [] []
 | cons {c c':C} {l l':List C}:CH i r c c'→LH i r l l'→LH i r (c::l) (c'::l')
theorem LH.len{i r:Nat}{l l':List C}(h:LH i r l l'):l'.length=l.length:=by
 induction h with
 | nil=>rfl
 | cons _ _ ih=>simp [ih]
theorem LH.get{i r:Nat}{l l':List C}(h:LH i r l l'):∀(j:Nat) c',l'[j]? = some c'→∃c,l[j]? = some c∧CH i r c c':=by
 induction h with
 | nil=>intro j c' h;simp at h
 | @cons c0 c0' cs cs' h1 _ ih=>
  intro j c' hj
  cases j with
  | zero=>simp at hj;subst hj;exact⟨c0,rfl,h1⟩
  | succ j=>exact ih j c' (by simpa using hj)
inductive EH (i r:Nat):E→E→Prop
 | AE {e:E}:EH i r e e
 | o {c c':C}:CH i r c c'→EH i r (.o c) (.o c')
 | a {l l':List C}:LH i r l l'→EH i r (.a l) (.a l')
theorem EH.rel{V:View}{i r:Nat}(hr:V.ρ i=r){e e':E}{v:Value}(h:EH i r e e')(hc:Bd V e v):Bd V e' v:=by
 cases h with
 | AE=>exact hc
 | o h=>exact h.rel hr hc
 | a h=>
  obtain⟨vs,h1,h2,h3⟩:=hc
  refine⟨vs,h1,by rw [h2,h.len],fun j c v hj hv=>?_⟩
  obtain⟨c0,h4,h5⟩:=h.get j c hj
  exact h5.rel hr (h3 j c0 v h4 hv)
def bf(i r:Nat)(f:Env):List (Nat×E)→Prop
 | []=>True
 | (t,e')::L=>(∃e,f t=some e∧EH i r e e')∧bf i r f L
theorem bf.get{i r:Nat}{f:Env}:∀ {L:List (Nat×E)},bf i r f L→∀t e',look L t=some e'→∃e,f t=some e∧EH i r e e'
 | [],_,t,e,h=>by cases h
 | (k,x)::L,hs,t,e,h=>by
  rw [Ay] at h
  by_cases hk:k=t
  ·rw [if_pos hk] at h;injection h with h;subst h;subst hk;exact hs.1
  ·rw [if_neg hk] at h;exact bf.get hs.2 t e h
def jS(i r:Nat)(l:List Nat)(σ:Ab):Ab→Prop
 | []=>True
 | (id,o')::S=>(id∉l∧(look σ id=some o'∨∃T k rw rw',o'=.cells T k [rw']∧look σ id=some (.cells T k [rw])∧LH i r rw rw'))∧jS i r l σ S
theorem jS.get{i r:Nat}{l:List Nat}{σ:Ab}:∀ {S:Ab},jS i r l σ S→∀id o',look S id=some o'→id∉l∧(look σ id=some o'∨∃T k rw rw',o'=.cells T k [rw']∧look σ id=some (.cells T k [rw])∧LH i r rw rw')
 | [],_,id,o,h=>by cases h
 | (k,x)::L,hs,id,o,h=>by
  rw [Ay] at h
  by_cases hk:k=id
  ·rw [if_pos hk] at h;injection h with h;subst h;subst hk;exact hs.1
  ·rw [if_neg hk] at h;exact jS.get hs.2 id o h
section
variable {P:Program}{tabs:List (Nat×Obj)}{Γ:Ctx}{N:Nat}{σ:Ab}
theorem Inv.forget{TB:Bt}{J:Nat→Prop}{V:View}(h:Inv TB ⟨Γ.V,Γ.F,J⟩ V σ):Inv ⟨TB.tabs,none⟩ Γ V σ:=
 ⟨h.os,h.tape,h.output,h.old,h.iLt,h.iNew,h.ext,h.st,h.live,h.tabs,⟨⟨fun _=>False,fun _=>False⟩,⟨fun _ h=>h,fun _ h=>h.elim,fun _ h=>h.elim,fun _ _ h=>h⟩,fun _ h=>h.elim,fun _ h=>h.elim⟩⟩
theorem Au.l4{c:Code}{Q:Exit→Env→Ab→Nat→Prop}{f:Env}{nx:Nat}(H:Hid)(s:H.S)(i:Nat)(l:List Nat)(L:Nat→List (Nat×E))(S:Nat→Ab)(hn:(i::l).Nodup)(hln:(i::l).length=H.nx)(hS:A7 (nm (i::l) nx) σ (H.st s))(h0:∃T k r rs,look (H.st s) 0=some (.cells T k (r::rs)))
 (hE:∀r,bf i r f (L r)) (hSt:∀r,jS i r (i::l) σ (S r)) (h:∀r Γ',Γ'.V=Γ.V→Au P ⟨tabs,some (H,r)⟩ Γ' N c Q (look (L r)) (S r) nx):Au P ⟨tabs,none⟩ Γ N c Q f σ nx:=by
 intro V a hr
 have hi:=hr.inv
 have hnx:=hr.nx
 subst hnx
 have hrn:∀id,nm (i::l) V.nx id < V.nx→id < (i::l).length:=fun id=>Ru
 have hidl:∀id o,look (H.st s) id=some o→id < (i::l).length:=fun id o ho=>hrn id (hi.st.lt _ _ (hS.get id o ho))
 have hmem:∀id o,look (H.st s) id=some o→nm (i::l) V.nx id∈i::l:=fun id o ho=>by
  rw [FQ (hidl id o ho)];exact List.getElem_mem _
 have hS0:Hy (V.A3 (nm (i::l) V.nx) (i::l).length) (H.st s):=by
  refine⟨fun id o ho=>CA.A3 hrn (hi.st.obj _ _ (hS.get id o ho)),hidl,fun id o ho hnl b hb=>hi.st.free _ _ (hS.get id o ho) hnl b (Ck.1 hb),?_⟩
  intro id id' o o' ho ho' hne hnl hnl' b hb hb'
  refine hi.st.inj _ _ _ _ (hS.get id o ho) (hS.get id' o' ho') ?_ hnl hnl' b (Ck.1 hb) (Ck.1 hb')
  have h3:=hidl id o ho
  have h4:=hidl id' o' ho'
  rw [FQ h3,FQ h4]
  intro he
  have hp:=List.pairwise_iff_getElem.1 hn
  rcases Nat.lt_or_gt_of_ne hne with h5|h5
  ·exact hp _ _ h3 h4 h5 he
  ·exact hp _ _ h4 h3 h5 he.symm
 have hnl0:¬V.nl i:=by
  obtain⟨T,k,r,rs,h5⟩:=h0
  rcases hS0.obj 0 _ h5 with ⟨_,h6⟩|⟨h6,_⟩
  ·cases h6
  ·exact h6
 have hsrc:∀id o,look (S (V.ρ i)) id=some o→∃o0,look σ id=some o0∧∀b,EF V id o b→EF V id o0 b:=fun id o ho=>by
  obtain⟨_,h5|⟨T,k,rw,rw',rfl,h5,_⟩⟩:=(hSt (V.ρ i)).get id o ho
  ·exact⟨o,h5,fun _ h=>h⟩
  ·exact⟨_,h5,fun _ h=>h⟩
 have hinv : Inv ⟨tabs,some (H,V.ρ i)⟩ ⟨Γ.V,Γ.F,fun _=>True⟩ V (S (V.ρ i)):=by
  refine⟨hi.os,hi.tape,hi.output,hi.old,hi.iLt,hi.iNew,hi.ext,⟨fun id o ho=>?_,fun id o ho=>?_,fun id o ho hn b hb=>?_,fun id id' o o' ho ho' hne hn hn' b hb hb'=>?_⟩,fun id o ho hn b hb=>?_,hi.tabs,⟨⟨DB (V.A3 (nm (i::l) V.nx) (i::l).length) (H.st s),V.I⟩,⟨?_,fun _ h=>h,fun b hb hI=>?_,fun b hb hB=>?_⟩,fun _ _=>.inl True.intro,fun b hb=>?_⟩⟩
  ·obtain⟨_,h5|⟨T,k,rw,rw',rfl,h5,h6⟩⟩:=(hSt (V.ρ i)).get id o ho
   ·exact hi.st.obj id o h5
   ·rcases hi.st.obj id _ h5 with ⟨_,h7⟩|⟨h1,cur,h2,h3,h4,h7,h8,h9⟩
    ·cases h7
    ·refine .inr ⟨h1,cur,h2,h3,h4,h7,fun x hx=>?_,fun i' x j c' hix hj=>?_⟩
     ·simp at hx;subst hx;rw [h6.len];exact h8 rw (by simp)
     ·have hi0:i'=0:=by have:=(List.getElem?_eq_some_iff.1 hix).1;simp at this;omega
      subst hi0
      simp at hix
      subst hix
      obtain⟨c,hc,hf⟩:=h6.get j c' hj
      obtain⟨v,h10,h11⟩:=h9 0 rw j c rfl hc
      exact⟨v,h10,hf.rel rfl h11⟩
  ·obtain⟨o0,h5,_⟩:=hsrc id o ho;exact hi.st.lt id o0 h5
  ·obtain⟨o0,h5,h6⟩:=hsrc id o ho;exact hi.st.free id o0 h5 hn b (h6 b hb)
  ·obtain⟨o0,h5,h6⟩:=hsrc id o ho
   obtain⟨o0',h5',h6'⟩:=hsrc id' o' ho'
   exact hi.st.inj id id' o0 o0' h5 h5' hne hn hn' b (h6 b hb) (h6' b hb')
  ·obtain⟨o0,h5,h6⟩:=hsrc id o ho;exact hi.live id o0 h5 hn b (h6 b hb)
  ·exact⟨s,V.A3 (nm (i::l) V.nx) (i::l).length,rfl,rfl,hln,hS0,⟨Nat.succ_pos _,rfl,hnl0,fun x hx=>(hi.tabs x hx).1⟩,fun _=>Iff.rfl⟩
  ·obtain⟨id,o,g1,g2,g3⟩:=hb;exact hS0.free id o g1 g2 b g3 hI
  ·obtain⟨id,o,g1,g2,g3⟩:=hB
   obtain⟨id',o',k1,k2,k3⟩:=hb
   obtain⟨o0,h5,h6⟩:=hsrc id' o' k1
   have hnm:=((hSt (V.ρ i)).get id' o' k1).1
   exact hi.st.inj id' _ o0 _ h5 (hS.get id o g1) (fun e=>hnm (by rw [e];exact hmem id o g1)) k2 g2 b (h6 b k3) (Ck.1 g3)
  ·obtain⟨id,o,g1,g2,g3⟩:=hb;exact hi.live _ _ (hS.get id o g1) g2 b (Ck.1 g3)
 have hst:Ci ⟨tabs,some (H,V.ρ i)⟩ ⟨Γ.V,Γ.F,fun _=>True⟩ N V (look (L (V.ρ i))) (S (V.ρ i)) V.nx a:=by
  refine⟨fun t x hx=>?_,fun t x hx=>?_,hr.size,hinv,rfl,hr.defers⟩
  ·obtain⟨y,h1,h2⟩:=(hE (V.ρ i)).get t x hx
   exact h2.rel rfl (hr.env t y h1)
  ·obtain⟨y,h1,_⟩:=(hE (V.ρ i)).get t x hx
   exact hr.lt t y h1
 refine wp_mono (h (V.ρ i) ⟨Γ.V,Γ.F,fun _=>True⟩ rfl V a hst) ?_
 rintro e a' w' ⟨V',f',σ',h1,h2,h3⟩
 exact⟨V',f',σ',h1,h2,⟨h3.env,h3.lt,h3.size,Inv.forget h3.inv,h3.nx,h3.defers⟩⟩
end
end Go.Am
namespace Go.Am
open Go Go.Proofs
set_option maxHeartbeats 1000000
attribute [local irreducible] AS BT Lex Bc Au Spec
variable {TB:Bt}
def MU(t:CD)(ok:W→Prop)(m:Hp):Prop:=JT t ok m∧m.F[0]? = some (Cq t)
theorem Y0[Df TB]{t:CD}{ok:W→Prop}(ht:A9 t=true)(hfew:jF t ok){m0:Hp}(hm0:MU t ok m0){w:W}(how:ok w)(hw:∀c∈w,0≤(c.toNat:Int) - 97∧(c.toNat:Int) - 97 < 6)(hwl:w.length≤1048576) :
 AD Tryz.prog TB 106 1 (NS t m0) 5 [.o (.ptr 0 14 0 0),eT w] (fun x σ nx=>x=eB (LS t w)∧nx=5∧∃m,MU t ok m∧σ=NS t m):=by
 have hdr:w.drop 0=w:=rfl
 refine AD.A3 (AD.P6 (m:=1) (Nat.le_of_ble_eq_true rfl) Tryz.func106 rfl (by kernel_rfl) (Nat.le_of_ble_eq_true rfl) ?_);intro Γ hΓ
 (repeat first|refine tA rfl ?_ |refine aU rfl ?_ |refine Aa ?_)
 refine aB ?_
 refine aL (α:={x:Nat×Nat×Hp // x.1≤w.length∧MU t ok x.2.2∧∃F,x.2.2.F[x.2.1]? = some F∧FK t F (w.drop x.1)=LS t w∧F=GP t (Cq t) (w.take x.1)}) [0,1] [] rfl rfl (fun s=>[(5,eI .i64 s.1.2.1),(6,eI .i64 s.1.1)]) (fun s=>NS t s.1.2.2) 5 (fun s=>w.length - s.1.1) (⟨⟨0,0,m0⟩,by simp,hm0,Cq t,hm0.2,rfl,rfl⟩) hΓ rfl (by (simp[cX,zC,hΓ,A1])) ?_;rintro⟨⟨i,n,m⟩,hi,hm,F,hF,hs,hrn⟩;(try dsimp only[cA,cB])
 have hi:i≤w.length:=hi
 have hm:MU t ok m:=hm
 have hrn:F=GP t (Cq t) (w.take i):=hrn
 have hF:m.F[n]? = some F:=hF
 have hs:FK t F (w.drop i)=LS t w:=hs
 have hu:=hm.1.un n F hF
 have hul:=(List.getElem?_eq_some_iff.1 hu).1
 have hu':(m.un.map Ax)[0+((n:Nat):Int).toNat]? = some (Ax (Fb t F)):=by rw [Nat.zero_add,Int.toNat_natCast];simp [hu]
 by_cases hlt:i < w.length
 ·obtain⟨c,hc⟩:=get_some hlt
  have hc':w[((i:Nat):Int).toNat]? = some c:=by simpa using hc
  have hcl:=hw c (List.mem_of_getElem? hc)
  have hla:=Hj (TB:=TB) w i c hc' hcl
  have hd:=Bo hc
  have hrn1:Dy t ((c.toNat:Int) - 97) F=GP t (Cq t) (w.take (i+1)):=by
   rw [List.take_add_one,hc,Py,←hrn];rfl
  obtain⟨m1,j,hm1,hle,hj,haf⟩:=bz (TB:=TB) ht hfew hm.1 hF hcl (.inr ⟨w.take (i+1),w.drop (i+1),by rw [List.take_append_drop];exact how,hrn1⟩)
  rw [hd,FK] at hs
  generalize Fb t F=b at *
  (repeat' first|(refine sA rfl ?_ ?_;first|exact tI|omega) |refine t4 rfl ‹_› rfl ?_ |refine s2 rfl fun _ _hb=>?_ |refine s3 rfl ?_ ?_<;>rintro rfl |refine aU rfl ?_ |refine Aa ?_|(refine aC rfl ?_ ?_<;>rintro⟨⟩));all_goals try contradiction
  all_goals first| (exfalso;(simp only[oZ] at *;omega);done)|skip
  ·have hb:b=false:=by simpa using _hb
   subst hb
   refine aK ?_
   refine aS (aB ?_)
   (repeat first|refine tA rfl ?_ |refine sP rfl (hla) rfl ?_ |refine aU rfl ?_)
   (refine pW rfl ?_ rfl (by rfl);refine BO [0,1,2,3,4] rfl rfl 1 (haf) (by decide) ⟨rfl,by decide,by decide⟩ rfl (by simp[cX,zC,hΓ,A1]) ?_;rintro x0 σ1 nx1 ⟨rfl,rfl,rfl⟩ _)
   (repeat first|refine tA rfl ?_)
   refine Aa ?_
   (repeat first|(refine sA rfl ?_ ?_;first|exact tI|omega) |refine aU rfl ?_ |refine Aa ?_)
   refine⟨⟨⟨i+1,j,m1⟩,by omega,⟨hm1,hle 0 _ hm.2⟩,_,hj,by simpa using hs,hrn1⟩,by dsimp only;(omega),[0,5,6,7,8],?_⟩
   simp[cX,zC,hΓ,A1]
  ·have hb:b=true:=by simpa using _hb
   subst hb
   have hs:LS t w=false:=by simpa using hs.symm
   rw [hs]
   refine aE ?_
   (repeat first|(refine sA rfl ?_ ?_;first|exact tI|omega) |refine t4 rfl ‹_› rfl ?_ |refine s2 rfl fun _ _hb=>?_ |refine aU rfl ?_ |refine Aa ?_)
   refine aR ⟨_,rfl,[0,1,2,3,4],eB false,NS t m,⟨by intro i hi;match i with|0=>rfl,by decide⟩,by subst_vars;rfl,by (simp[cX,zC,hΓ,A1]),rfl,rfl,m,hm,rfl⟩
 ·obtain rfl:i=w.length:=by omega
  rw [List.drop_length,FK] at hs
  rw [←hs]
  (repeat' first|(refine sA rfl ?_ ?_;first|exact tI|omega) |refine t4 rfl ‹_› rfl ?_ |refine s2 rfl fun _ _hb=>?_ |refine s3 rfl ?_ ?_<;>rintro rfl |refine aU rfl ?_ |refine Aa ?_|(refine aC rfl ?_ ?_<;>rintro⟨⟩));all_goals try contradiction
  all_goals first| (exfalso;(simp only[oZ] at *;omega);done)|skip
  refine aE ?_
  (repeat first|(refine sA rfl ?_ ?_;first|exact tI|omega) |refine t4 rfl ‹_› rfl ?_ |refine s2 rfl fun _ _hb=>?_ |refine aU rfl ?_ |refine Aa ?_)
  refine aR ⟨_,rfl,[0,1,2,3,4],eB (!Fb t F),NS t m,⟨by intro i hi;match i with|0=>rfl,by decide⟩,by subst_vars;rfl,by (simp[cX,zC,hΓ,A1]),rfl,rfl,m,hm,rfl⟩
def PO(t:CD)(ok:W→Prop):Hid:=⟨{m:Hp // MU t ok m},fun s=>NS t s.1,5⟩
theorem dQ{tabs:List (Nat×Obj)}[Df ⟨tabs,none⟩]{t:CD}{ok:W→Prop}(ht:A9 t=true)(hfew:jF t ok){r:Nat}{w:W}(how:ok w)(hw:∀c∈w,0≤(c.toNat:Int) - 97∧(c.toNat:Int) - 97 < 6)(hwl:w.length≤1048576) :
 Pure Tryz.prog ⟨tabs,some (PO t ok,r)⟩ 106 [.o (Pn r),eT w] (eB (LS t w)):=
 c6 (H:=PO t ok) (k:=14) (es:=[eT w]) ⟨_,Tryz.func106,by kernel_rfl,rfl⟩ (by intro e he;simp at he;subst he;rfl) rfl fun s=>
  ⟨(Y0 (TB:=⟨tabs,none⟩) ht hfew s.2 how hw hwl).1,fun V vs S hg ha=>((Y0 (TB:=⟨tabs,none⟩) ht hfew s.2 how hw hwl).2 V vs S hg ha).mono fun e w' ⟨V',v,x,σ',h1,h2,h3,h4,h5,h6,m,h7,h8⟩=>⟨V',v,x,σ',h1,h2,h3,h4,h5,h6,⟨m,h7⟩,h8⟩⟩
end Go.Am
