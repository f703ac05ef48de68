/-
  Trailing zeros; the members of a set.
-/
import Derived.Test.YtkkihplpglchjaaGreatDoorPart11
import Derived.Test.YtkkihplpglchjaaGreatDoorPart9
import Derived.Test.YtkkihplpglchjaaGreatDoorPart5
import Derived.Test.YtkkihplpglchjaaGreatDoorPart6
set_option linter.constructorNameAsVariable false
set_option linter.unusedSimpArgs false
set_option linter.unusedVariables false
namespace Go.Am
open Go Go.Proofs
set_option maxHeartbeats 1000000
attribute [local irreducible] A1 BZ Lex Bj Ai Spec
variable {TB:Bh}
theorem YH(i:Nat)(h:i < 64):Bq[i]? = some (.int .u8 (Lib.deBruijn64tab.getD i 0:Nat)):=by
 have e:Bq=Lib.deBruijn64tab.map fun n=>Value.int .u8 (n:Nat):=rfl
 have hl:Lib.deBruijn64tab.length=64:=rfl
 rw [e,List.getElem?_map,List.getElem?_eq_getElem (by omega)]
 simp [List.getD,hl,h]
theorem ZZ(x a:Nat)(hx:x < 18446744073709551616)(hx0:x≠0)(hlow:x &&& (18446744073709551616 - x)=a) :
 (IntKind.u64.wrap (Ey .u64 (x:Int) (IntKind.u64.wrap (-(x:Int)))*285870213051353865)).fdiv (2 ^ (min (58:Int).toNat IntKind.u64.bits))=((a*285870213051353865 % 18446744073709551616 / 288230376151711744:Nat):Int):=by
 have w64:∀n:Int,IntKind.u64.wrap n=n % 18446744073709551616:=fun n=>by simp [IntKind.wrap,IntKind.signed,IntKind.bits]
 have e1:IntKind.u64.wrap (-(x:Int))=((18446744073709551616 - x:Nat):Int):=by rw [w64];omega
 have e2:Ey .u64 (x:Int) ((18446744073709551616 - x:Nat):Int)=(a:Int):=by
  unfold Ey
  have e:IntKind.u64.bits=64:=rfl
  rw [e]
  have h1:(BitVec.ofInt 64 (x:Int) &&& BitVec.ofInt 64 ((18446744073709551616 - x:Nat):Int)).toNat=a:=by
   simp only [BitVec.toNat_and,BitVec.ofInt_natCast,BitVec.toNat_ofNat]
   rw [Nat.mod_eq_of_lt (by omega),Nat.mod_eq_of_lt (by omega),hlow]
  rw [h1,w64]
  have h2:a≤x:=by rw [←hlow];exact Nat.and_le_left
  omega
 rw [e1,e2,w64]
 have e3:(2:Int) ^ (min (58:Int).toNat IntKind.u64.bits)=288230376151711744:=rfl
 rw [e3,Int.fdiv_eq_ediv_of_nonneg _ (by omega)]
 omega
theorem YJ[Eh TB](x:Nat)(hx0:x≠0)(hx:x < 18446744073709551616):Pure Tryz.prog TB 209 [eI .u64 x] (eI .i64 (Lib.ctz 64 x)):=by
 obtain⟨hlow,hk⟩:=Lib.lowest_bit 64 x hx0 hx
 obtain⟨hi,htab⟩:=Lib.deBruijn64_at _ hk
 have hkey:=ZZ x _ hx hx0 hlow
 have htv:=YH _ hi
 rw [htab] at htv
 generalize Lib.ctz 64 x=cz at *
 generalize 2 ^ cz*285870213051353865 % 18446744073709551616 / 288230376151711744=idx at *
 refine eN Tryz.func209 rfl (by kernel_rfl) rfl ?_;intro Γ hΓ
 (repeat' first|(refine sA rfl ?_ ?_;first|exact tI|omega) |refine s2 rfl fun _ _hb=>?_|(refine Af rfl ?_;refine gA rfl ?_;first| refine gS (fun _ _=>QA rfl rfl) ?_|refine gS (fun _ _=>YV rfl rfl rfl) ?_) |refine aU rfl ?_ |refine Aa ?_|(refine aC rfl ?_ ?_<;>rintro⟨⟩)|refine aK ?_|refine aE ?_|refine aB ?_|refine aR ⟨_,rfl,?_⟩)
 ·exfalso;(simp only[oZ] at *;omega)
 rw [hkey]
 clear hkey hlow htab
 (repeat' first|(refine sA rfl ?_ ?_;first|exact tI|omega)|(refine Af rfl ?_;refine gA rfl ?_;first| refine gS (fun _ _=>WQ (v:=.int .u8 ((cz:Nat):Int)) rfl (by omega) (by omega) (by rw [Int.toNat_natCast];exact htv)) ?_) |refine Aa ?_|(refine aC rfl ?_ ?_<;>rintro⟨⟩)|refine aK ?_|refine aE ?_|refine aB ?_|refine aR ⟨_,rfl,?_⟩)
 rfl
theorem bZ[Eh TB](x:Nat)(hx0:x≠0)(hx:x < 18446744073709551616):Pure Tryz.prog TB 207 [eI .u64 x] (eI .i64 (Lib.ctz 64 x)):=by
 refine eN Tryz.func207 rfl (by kernel_rfl) rfl ?_;intro Γ hΓ
 (repeat' first|refine tA rfl ?_ |refine sP rfl (YJ x hx0 hx) rfl ?_ |refine aU rfl ?_ |refine Aa ?_|(refine aC rfl ?_ ?_<;>rintro⟨⟩)|refine aK ?_|refine aE ?_|refine aB ?_|refine aR ⟨_,rfl,?_⟩)
 all_goals rfl
theorem Uc{x:Int}{l:List Int}(hp:(x::l).Pairwise (· < ·))(h0:0≤x)(hlt:BG (x::l) < 2 ^ 62):Ey .i64 (BG (x::l):Nat) ((BG (x::l):Nat) - 1)=(BG l:Nat):=by
 have h1:=UJ hp h0
 have h2:=MO (x:=x) (l:=l)
 have h3:BG l≤BG (x::l):=Nat.le_add_left _ _
 generalize BG (x::l)=a at *
 have e1:((a:Nat):Int) - 1=((a - 1:Nat):Int):=by omega
 rw [e1]
 unfold Ey
 have e:IntKind.i64.bits=64:=rfl
 rw [e]
 have h4:(BitVec.ofInt 64 (a:Int) &&& BitVec.ofInt 64 ((a - 1:Nat):Int)).toNat=BG l:=by
  simp only [BitVec.toNat_and,BitVec.ofInt_natCast,BitVec.toNat_ofNat]
  rw [Nat.mod_eq_of_lt (by omega),Nat.mod_eq_of_lt (by omega),h1]
 rw [h4]
 exact IntWalk.i64_in _ (by omega)
theorem Pe(r:Nat→Nat):∀ds:List D,C.Ce r (ds.map .d)=ds.map .d
 | []=>rfl
 | d::l=>by simp [C.Ce,C.A4,Pe r l]
def MY(es:List Eb)(f l:Nat):List Int:=(es.filter fun e:Eb=>decide (e.f=(f:Int)) && decide (e.l=(l:Int))).map (·.t)
def Fb(es:List Eb):List D:=(List.range 96).map fun i=>iD (BG (MY es (i / 6) (i % 6)):Nat)
theorem HT{es:List Eb}{i:Nat}(h:i < 96):(Fb es)[i]? = some (iD (BG (MY es (i / 6) (i % 6)):Nat)):=by simp [Fb,h]
theorem TR(es:List Eb)(e:Eb)(f l:Nat):MY (es++[e]) f l=MY es f l++if e.f=(f:Int)∧e.l=(l:Int) then [e.t] else []:=by
 simp only [MY,List.filter_append,List.map_append,List.filter_cons,List.filter_nil]
 grind
theorem GS{r:List C}{j:Nat}{c:C}(h:j < r.length):Ag r j [c]=r.set j c:=by
 unfold Ag
 rw [List.set_eq_take_append_cons_drop,if_pos h]
 simp
theorem RO{es:List Eb}{e:Eb}{v:Int}(h0:0≤e.f∧e.f < 16)(h1:0≤e.l∧e.l < 6)(hv:v=(BG (MY (es++[e]) e.f.toNat e.l.toNat):Nat)) :
 Ag ((Fb es).map .d) (0+e.f.toNat*6+e.l.toNat*1) (eC (eI .i64 v))=(Fb (es++[e])).map .d:=by
 have hj:0+e.f.toNat*6+e.l.toNat*1 < 96:=by omega
 have:eC (eI .i64 v)=[C.d (iD v)]:=rfl
 rw [this,GS (by simp [Fb];omega),←List.map_set]
 congr 1
 apply List.ext_getElem?
 intro i
 by_cases hi:i < 96
 ·rw [HT hi]
  by_cases hij:0+e.f.toNat*6+e.l.toNat*1=i
  ·subst hij
   rw [List.getElem?_set_self (by simp [Fb];omega),hv]
   have e1:(0+e.f.toNat*6+e.l.toNat*1) / 6=e.f.toNat:=by omega
   have e2:(0+e.f.toNat*6+e.l.toNat*1) % 6=e.l.toNat:=by omega
   rw [e1,e2]
  ·rw [List.getElem?_set_ne hij,HT hi,TR,if_neg (by omega),List.append_nil]
 ·rw [List.getElem?_eq_none (by simp [Fb];omega),List.getElem?_eq_none (by simp [Fb];omega)]
theorem Fm{s:Sys}(h:Bw s=true)(k f l:Nat):(MY (s.es.take k) f l).Pairwise (· < ·):=by
 unfold MY
 rw [List.pairwise_map]
 refine List.Pairwise.imp_of_mem (fun {a b} ha hb hab=>?_) (((JI h).sublist (List.take_sublist k s.es)).filter _)
 have h1:=(List.mem_filter.1 ha).2
 have h2:=(List.mem_filter.1 hb).2
 unfold IB at hab
 grind
theorem MZ{s:Sys}(h:Bw s=true){k f l:Nat}{x:Int}(hx:x∈MY (s.es.take k) f l):0≤x∧x < 16:=by
 unfold MY at hx
 obtain⟨e,he,rfl⟩:=List.mem_map.1 hx
 have h2:=CQ h (List.mem_of_mem_take (List.mem_filter.1 he).1)
 have h3:=BY h
 unfold Dc at h2
 grind
theorem XX{a t:Nat}(ha:a < 2 ^ 16)(ht:t < 16):Ud .i64 (a:Nat) ((2 ^ t:Nat):Int)=((a ||| 2 ^ t:Nat):Int):=by
 have h2:2 ^ t < 2 ^ 16:=Nat.pow_lt_pow_right (by omega) ht
 have h0:a ||| 2 ^ t < 2 ^ 16:=Nat.or_lt_two_pow ha h2
 unfold Ud
 have h1:(BitVec.ofInt IntKind.i64.bits (a:Int) ||| BitVec.ofInt IntKind.i64.bits ((2 ^ t:Nat):Int)).toNat=a ||| 2 ^ t:=by
  have e:IntKind.i64.bits=64:=rfl
  rw [e]
  simp only [BitVec.toNat_or,BitVec.ofInt_natCast,BitVec.toNat_ofNat]
  rw [Nat.mod_eq_of_lt (by omega),Nat.mod_eq_of_lt (by omega)]
 rw [h1]
 exact IntWalk.i64_in _ (by omega)
theorem TG{t:Int}(h0:0≤t)(h1:t < 16):IntKind.i64.wrap (1*2 ^ (min t.toNat IntKind.i64.bits))=((2 ^ t.toNat:Nat):Int):=by
 have e:min t.toNat IntKind.i64.bits=t.toNat:=by
  have:IntKind.i64.bits=64:=rfl
  omega
 rw [e,Int.one_mul]
 have h2:2 ^ t.toNat < 2 ^ 16:=Nat.pow_lt_pow_right (by omega) (by omega)
 have h3:(2:Int) ^ t.toNat=((2 ^ t.toNat:Nat):Int):=by push_cast;rfl
 rw [h3]
 generalize 2 ^ t.toNat=p at *
 exact IntWalk.i64_in _ (by omega)
theorem RN(s:Sys)(h:Bw s=true):Pure Tryz.prog TB 135 [Dr s] (.o (.ip (Fb s.es))):=by
 refine eN Tryz.func135 rfl (by kernel_rfl) rfl ?_;intro Γ hΓ
 (repeat first|refine sN rfl ?_ |refine tA rfl ?_ |refine aU rfl ?_ |refine Aa ?_)
 refine Ai.bound 8 rfl fun hB0=>?_
 have hB:=hB0 (s.es.map Dk) .refl
 refine aB ?_
 refine Ai.Bm (α:={k:Nat // k≤s.es.length}) (fun ⟨k,hk⟩=>[(3,.o (.ptr 0 96 0 0)),(8,YQ s.es),(9,eI .i64 s.es.length),(10,eI .i64 k)]) (fun ⟨k,hk⟩=>[(0,.cells 185 96 [(Fb (s.es.take k)).map .d])]) 1 (fun ⟨k,hk⟩=>s.es.length - k) (⟨0,by omega⟩) [0] (Fq hΓ rfl rfl) (by (repeat' first|exact tI|rfl|refine And.intro ?_ ?_)) ?_;rintro⟨k,hk⟩;(try dsimp only)
 (repeat first|refine s2 rfl fun _ _hb=>?_ |refine aU rfl ?_ |refine Aa ?_)
 (refine aC rfl ?_ ?_<;>rintro⟨⟩)
 ·obtain⟨e,he⟩:=get_some (l:=s.es) (k:=k) (by (simp only[oZ] at *;omega))
  have he':=get_map (g:=Dk) he
  have heo:=CQ h (List.mem_of_getElem? he)
  have hh:=BY h
  unfold Dc at heo
  simp only [Bool.and_eq_true,decide_eq_true_eq] at heo
  obtain⟨⟨hf0,hf1,ht0,ht1,hl0,hl1⟩,hbit⟩:=heo
  have hj96:0+e.f.toNat*6+e.l.toNat*1+1≤96:=by omega
  have hshl:=TG ht0 (by omega)
  have htk:s.es.take (k+1)=s.es.take k++[e]:=by rw [List.take_add_one,he];rfl
  have hap:MY (s.es.take (k+1)) e.f.toNat e.l.toNat=MY (s.es.take k) e.f.toNat e.l.toNat++[e.t]:=by
   rw [htk,TR,if_pos (by omega)]
  have hbnd:∀x∈MY (s.es.take k) e.f.toNat e.l.toNat,0≤x∧x < e.t.toNat:=by
   intro x hx
   have h1:=Fm h (k+1) e.f.toNat e.l.toNat
   rw [hap,List.pairwise_append] at h1
   have h2:=h1.2.2 x hx e.t (by simp)
   have h3:=MZ h hx
   omega
  have hor1:=Yy (Fm h k e.f.toNat e.l.toNat) hbnd
  have hlt:=Lt (t:=16) (Fm h k e.f.toNat e.l.toNat) fun x hx=>MZ h hx
  have hor:=XX hlt (t:=e.t.toNat) (by omega)
  have et:((e.t.toNat:Nat):Int)=e.t:=by omega
  rw [hor1,et,←hap,htk] at hor
  have hstep:=RO (es:=s.es.take k) (e:=e) ⟨hf0,by omega⟩ ⟨hl0,hl1⟩ rfl
  rw [←hor] at hstep
  have hld:((Fb (s.es.take k)).map C.d)[0+e.f.toNat*6+e.l.toNat*1]? = some (.d (iD (BG (MY (s.es.take k) e.f.toNat e.l.toNat):Nat))):=by
   have e1:(0+e.f.toNat*6+e.l.toNat*1) / 6=e.f.toNat:=by omega
   have e2:(0+e.f.toNat*6+e.l.toNat*1) % 6=e.l.toNat:=by omega
   rw [List.getElem?_map,HT (by omega),e1,e2];rfl
  refine aK ?_
  refine aS (aB ?_)
  (repeat first|refine tA rfl ?_ |(refine s4 rfl ‹_› rfl ?_ ?_;omega) |refine aU rfl ?_ |refine Aa ?_)
  refine rG (HN [16]) (by kernel_rfl) ?_
  (repeat first|(refine sA rfl ?_ ?_;first|exact tI|omega)|(refine Af rfl ?_;refine gA rfl ?_;first| refine gS (fun _ _=>W8 rfl rfl (by omega) hshl) ?_|refine gQ (Tv rfl rfl rfl hld) (by rfl) ?_))
  (refine Af rfl ?_;refine Gm ?_ rfl (by rfl);refine Di rfl rfl rfl rfl (rfl) rfl (hj96) ?_)
  (repeat first|(refine sA rfl ?_ ?_;first|exact tI|simp only[oZ] at *;omega) |refine aU rfl ?_ |refine Aa ?_)
  refine⟨⟨k+1,by (simp only[oZ] at *;omega)⟩,by dsimp only;((simp only[oZ] at *;omega)),[0],?_⟩
  rw [hstep,←htk]
  simp[cX,zC,hΓ,List.set_cons_zero,Pe]
 ·obtain rfl:k=s.es.length:=by (simp only[oZ] at *;omega)
  refine aE ?_
  rw [List.take_length]
  (repeat first|refine tM rfl ?_ |refine aU rfl ?_ |refine Aa ?_)
  refine Ai.freeze [0] [(2,.o (.ip (Fb s.es)))] ⟨⟨_,rfl,.o (.ptr (by simp) rfl rfl rfl)⟩,trivial⟩ ?_
  refine aR ⟨_,rfl,rfl⟩
def MJ(h:Nat→Int):List C:=(List.range 6).map fun l=>.d (iD (h l))
def RX(h:Nat→Int):List D:=(List.range 6).map fun l=>iD (h l)
theorem Xj(h:Nat→Int):MJ h=(RX h).map .d:=by simp [MJ,RX]
def B0{α:Type}(n:Nat)(g:Nat→α):List α:=(List.range n).map g
theorem Eo{α:Type}{n q:Nat}{g:Nat→α}(h:q < n):(B0 n g)[q]? = some (g q):=by simp [B0,h]
theorem Kv{α:Type}{n q:Nat}{g:Nat→α}{x:α}:(B0 n g).set q x=B0 n fun i=>if i=q then x else g i:=by
 apply List.ext_getElem?
 intro i
 by_cases hi:i < n
 ·rw [Eo hi]
  by_cases hq:q=i
  ·subst hq;rw [List.getElem?_set_self (by simp [B0,hi])];simp
  ·rw [List.getElem?_set_ne hq,Eo hi,if_neg (Ne.symm hq)]
 ·rw [List.getElem?_eq_none (by simp [B0];omega),List.getElem?_eq_none (by simp [B0];omega)]
theorem Df{α:Type}{n:Nat}{g g':Nat→α}(h:∀i,i < n→g i=g' i):B0 n g=B0 n g':=by
 unfold B0
 exact List.map_congr_left fun i hi=>h i (List.mem_range.1 hi)
theorem Xk{h:Nat→Int}{l:Nat}{v:Int}(hl:l < 6):Ag (MJ h) (0+l*1) (eC (eI .i64 v))=MJ fun x=>if x=l then v else h x:=by
 have e:eC (eI .i64 v)=[C.d (iD v)]:=rfl
 rw [e,GS (by simp [MJ];omega)]
 have:=Kv (n:=6) (q:=l) (g:=fun l=>C.d (iD (h l))) (x:=C.d (iD v))
 have e1:0+l*1=l:=by omega
 rw [e1]
 refine Eq.trans this (Df fun i _=>?_)
 by_cases e:i=l<;>simp [e]
theorem IQ{h h':Nat→Int}(hh:∀l,l < 6→h l=h' l):MJ h=MJ h':=Df fun i hi=>by rw [hh i hi]
theorem Ir(s:Int):∀(n k:Nat),k≤n→AG s k <+: AG s n
  | 0, k, h => by have:k=0:=by omega
                  subst this;exact List.prefix_refl _
  | n + 1,k,h=>by
    rcases Nat.lt_or_ge k (n+1) with h1|h1
    · rw [CB]
      exact(Ir s n k (by omega)).trans (List.prefix_append _ _)
    · have:k=n+1:=by omega
      subst this;exact List.prefix_refl _
theorem It{s:Int}{k n:Nat}{l:Int}(h:(AG s n)[k]? = some l):(AG s l.toNat).length=k:=by
 have h1:=A2 (List.mem_of_getElem? h)
 have h2:(AG s (l.toNat+1))[(AG s l.toNat).length]? = some l:=by
  rw [CB,if_pos h1.2.2,List.getElem?_append_right (Nat.le_refl _)]
  simp;omega
 have h3:(AG s n)[(AG s l.toNat).length]? = some l:=by
  obtain⟨t,ht⟩:=Ir s n (l.toNat+1) (by omega)
  rw [←ht,List.getElem?_append_left (List.getElem?_eq_some_iff.1 h2).1];exact h2
 have hp:=DW s n
 rw [List.pairwise_iff_getElem] at hp
 obtain⟨a1,a2⟩:=List.getElem?_eq_some_iff.1 h
 obtain⟨b1,b2⟩:=List.getElem?_eq_some_iff.1 h3
 rcases Nat.lt_trichotomy (AG s l.toNat).length k with h4|h4|h4
 ·have:=hp _ _ b1 a1 h4;omega
 ·exact h4
 ·have:=hp _ _ a1 b1 h4;omega
theorem FM{s:Int}{n l:Nat}:(l:Int)∈AG s n↔l < n∧Ei s l=true:=by
 unfold AG
 simp only [List.mem_map,List.mem_filter,List.mem_range]
 constructor
 ·rintro⟨a,ha,e⟩
  have:a=l:=by have e:((a:Nat):Int)=l:=e;omega
  subst this;exact ha
 ·intro h;exact⟨l,h,rfl⟩
def Nf(n:Nat)(H:Nat→Nat→Int):List (List C):=B0 n fun i=>MJ (H i)
theorem Ib(r:Nat→Nat)(n:Nat)(H:Nat→Nat→Int):(Nf n H).map (C.Ce r)=Nf n H:=by
 unfold Nf B0
 rw [List.map_map]
 exact List.map_congr_left fun i _=>by simp only [Function.comp_def,Xj,Pe]
theorem Xs(n:Nat):Nf n (fun _ _=>0)=List.replicate n [C.d (D.v (Value.int IntKind.i64 0)),C.d (D.v (Value.int IntKind.i64 0)),C.d (D.v (Value.int IntKind.i64 0)),C.d (D.v (Value.int IntKind.i64 0)),C.d (D.v (Value.int IntKind.i64 0)),C.d (D.v (Value.int IntKind.i64 0))]:=by
 unfold Nf B0
 rw [List.map_const'];simp;exact .inr rfl
theorem TM{n q:Nat}{H:Nat→Nat→Int}(h:q < n):(Nf n H)[0+((q:Nat):Int).toNat]? = some (MJ (H q)):=by
 rw [Nat.zero_add,Int.toNat_natCast];exact Eo (g:=fun i=>MJ (H i)) h
theorem TN{n q l:Nat}{v:Int}{H:Nat→Nat→Int}(hl:l < 6):(Nf n H).set (0+((q:Nat):Int).toNat) (Ag (MJ (H q)) (0+((l:Nat):Int).toNat*1) (eC (eI .i64 v)))=Nf n fun i x=>if i=q∧x=l then v else H i x:=by
 rw [Nat.zero_add,Int.toNat_natCast,Int.toNat_natCast,Xk hl]
 unfold Nf
 rw [Kv]
 refine Df fun i _=>?_
 by_cases e:i=q
 ·subst e;rw [if_pos rfl];exact IQ fun l _=>by simp
 ·rw [if_neg e];exact IQ fun l _=>by simp [e]
theorem Gt{n:Nat}{H H':Nat→Nat→Int}(h:∀i,i < n→∀l,l < 6→H i l=H' i l):Nf n H=Nf n H':=Df fun i hi=>IQ fun l hl=>h i hi l hl
theorem YI(n:Nat)(H:Nat→Nat→Int):(Nf n H).length=n:=by simp [Nf,B0]
def ND(a:BT):List (List D):=B0 a.nx.length fun q=>RX fun l=>CW a q l
theorem bX(a:BT):Nf a.nx.length (fun i l=>CW a i l)=(ND a).map fun r=>r.map .d:=by
 unfold Nf ND B0
 rw [List.map_map]
 exact List.map_congr_left fun i _=>by simp only [Function.comp_def,Xj]
def ah(a:BT):Prop:=a.nx.length≤64∧∀q,q < a.nx.length→∃row:List Int,a.nx[q]? = some row∧row.length=(Ac a.al).length∧∀(k:Nat) y,row[k]? = some y→0≤y∧y < a.nx.length
theorem XO{a:BT}(h:A5 a=true):ah a:=⟨by have:=AI h;omega,fun q hq=>HI h hq⟩
theorem QU(a:BT)(h:ah a):Pure Tryz.prog TB 83 [BL a] (.o (.d (.l (ND a)))):=by
 have hh:=h.1
 have hll:(Ac a.al).length≤6:=AR a.al 6
 refine eN Tryz.func83 rfl (by kernel_rfl) rfl ?_;intro Γ hΓ
 (repeat first|refine aU rfl ?_)
 (refine Af rfl ?_;refine Ci (fun _ _=>C0 rfl rfl rfl) rfl ?_)
 (refine Af rfl ?_;refine Ci (fun _ _=>DA rfl) rfl ?_)
 (repeat first|refine sN rfl ?_ |refine tM rfl ?_ |refine aU rfl ?_ |refine Aa ?_)
 (refine pW rfl ?_ rfl (by rfl);refine Km rfl rfl (by rfl) (by rfl) (Nat.le_of_ble_eq_true rfl) (by omega) (by omega) (by omega) ?_)
 (repeat first|refine sN rfl ?_ |refine tM rfl ?_ |refine sP rfl (DV a.al) rfl ?_ |refine aU rfl ?_ |refine Aa ?_)
 refine aB ?_
 refine Ai.Bm (α:={q:Nat // q≤a.nx.length}) (fun ⟨q,hq⟩=>[(1,.o (.ip (BF a))),(3,.o (.arr 0 6 0 a.nx.length)),(4,Ay (Ac a.al)),(18,EJ a.nx),(19,eI .i64 a.nx.length),(20,eI .i64 q)]) (fun ⟨q,hq⟩=>[(0,.cells 96 6 (Nf a.nx.length fun i l=>if i < q then CW a i l else 0))]) 1 (fun ⟨q,hq⟩=>a.nx.length - q) (⟨0,by omega⟩) [0] (Fq hΓ rfl rfl) (by (simp[cX,zC,hΓ,Ib,Xs])) ?_;rintro⟨q,hq⟩;(try dsimp only)
 (repeat first|refine s2 rfl fun _ _hb=>?_ |refine aU rfl ?_ |refine Aa ?_)
 (refine aC rfl ?_ ?_<;>rintro⟨⟩)
 ·have hqn : q < a.nx.length:=by (simp only[oZ] at *;omega)
  obtain⟨row,hr,hrl,hrx⟩:=h.2 q hqn
  have hr':=get_map (g:=E8) hr
  refine aK ?_
  refine aS (aB ?_)
  (repeat first|refine tM rfl ?_ |(refine s4 rfl ‹_› rfl ?_ ?_;omega) |refine aU rfl ?_ |refine Aa ?_)
  refine aB ?_
  refine Ai.Bm (α:={m:Nat // m≤6}) (fun ⟨m,hm⟩=>[(1,.o (.ip (BF a))),(3,.o (.arr 0 6 0 a.nx.length)),(4,Ay (Ac a.al)),(18,EJ a.nx),(19,eI .i64 a.nx.length),(20,eI .i64 q),(5,eI .i64 q),(6,Ay row),(25,eI .i64 m)]) (fun ⟨m,hm⟩=>[(0,.cells 96 6 (Nf a.nx.length fun i l=>if i < q then CW a i l else if i=q∧l < m then q else 0))]) 1 (fun ⟨m,hm⟩=>6 - m) (⟨0,by omega⟩) [0] (Fq hΓ rfl rfl) (by (simp[cX,zC,hΓ,Ib])) ?_;rintro⟨m,hm⟩;(try dsimp only)
  (repeat first|refine s2 rfl fun _ _hb=>?_ |refine aU rfl ?_ |refine Aa ?_)
  (refine aC rfl ?_ ?_<;>rintro⟨⟩)
  ·have hm6:m < 6:=by (simp only[oZ] at *;omega)
   have hmj:0+((m:Nat):Int).toNat*1+1≤6:=by omega
   have hg:=TM (H:=fun i l=>if i < q then CW a i l else if i=q∧l < m then q else 0) hqn
   have hs:=TN (n:=a.nx.length) (q:=q) (v:=q) (H:=fun i l=>if i < q then CW a i l else if i=q∧l < m then q else 0) hm6
   have hc:(Nf a.nx.length fun (i x:Nat)=>if i=q∧x=m then (q:Int) else (fun (i l:Nat)=>if i < q then CW a i l else if i=q∧l < m then (q:Int) else 0) i x)=Nf a.nx.length fun i l=>if i < q then CW a i l else if i=q∧l < m+1 then (q:Int) else 0:=Gt fun i _ l _=>by dsimp only;grind
   refine aK ?_
   refine aS (aB ?_)
   (repeat first|(refine sM rfl ?_ ?_;first|exact tI|omega) |refine aU rfl ?_ |refine Aa ?_)
   (refine Af rfl ?_;refine Gm ?_ rfl (by rfl);refine Di rfl rfl rfl rfl (hg) rfl (hmj) ?_)
   (repeat first|(refine sM rfl ?_ ?_;first|exact tI|omega) |refine aU rfl ?_ |refine Aa ?_)
   refine⟨⟨m+1,by omega⟩,by dsimp only;(omega),[0],?_⟩
   rw [hs,hc]
   simp[cX,zC,hΓ,Ib]
  ·obtain rfl:m=6:=by (simp only[oZ] at *;omega)
   have hc0:=Gt (n:=a.nx.length) (H:=fun i l=>if i < q then CW a i l else if i=q∧l < 6 then (q:Int) else 0) (H':=fun i l=>if i < q then CW a i l else if i=q then (if (l:Int)∈(Ac a.al).take 0 then CW a q l else (q:Int)) else 0) fun i _ l hl=>by simp [hl]
   rw [hc0]
   refine aE ?_
   (repeat first|refine sN rfl ?_ |refine tM rfl ?_ |refine aU rfl ?_ |refine Aa ?_)
   refine aB ?_
   refine Ai.Bm (α:={k:Nat // k≤(Ac a.al).length}) (fun ⟨k,hk⟩=>[(1,.o (.ip (BF a))),(3,.o (.arr 0 6 0 a.nx.length)),(4,Ay (Ac a.al)),(18,EJ a.nx),(19,eI .i64 a.nx.length),(20,eI .i64 q),(5,eI .i64 q),(6,Ay row),(35,Ay (Ac a.al)),(36,eI .i64 (Ac a.al).length),(37,eI .i64 k)]) (fun ⟨k,hk⟩=>[(0,.cells 96 6 (Nf a.nx.length fun i l=>if i < q then CW a i l else if i=q then (if (l:Int)∈(Ac a.al).take k then CW a q l else (q:Int)) else 0))]) 1 (fun ⟨k,hk⟩=>(Ac a.al).length - k) (⟨0,by omega⟩) [0] (Fq hΓ rfl rfl) (by (simp[cX,zC,hΓ,Ib])) ?_;rintro⟨k,hk⟩;(try dsimp only)
   (repeat first|refine s2 rfl fun _ _hb=>?_ |refine aU rfl ?_ |refine Aa ?_)
   (refine aC rfl ?_ ?_<;>rintro⟨⟩)
   ·obtain⟨l,hl⟩:=get_some (l:=Ac a.al) (k:=k) (by (simp only[oZ] at *;omega))
    have hl':=get_map (g:=Bv) hl
    have hlb:=A2 (List.mem_of_getElem? hl)
    have hpl:=It hl
    obtain⟨y,hy⟩:=get_some (l:=row) (k:=k) (by (simp only[oZ] at *;omega))
    have hy':=get_map (g:=Bv) hy
    obtain⟨m,rfl⟩:∃m:Nat,l=m:=⟨l.toNat,by omega⟩
    have hgo:CW a q m=y:=by
     unfold CW
     rw [if_pos hlb.2.2,hpl];simp [List.getD,hr,hy]
    have hm6:m < 6:=by omega
    have hmj:0+((m:Nat):Int).toNat*1+1≤6:=by omega
    have hg:=TM (H:=fun i l=>if i < q then CW a i l else if i=q then (if (l:Int)∈(Ac a.al).take k then CW a q l else (q:Int)) else 0) hqn
    have hs:=TN (n:=a.nx.length) (q:=q) (v:=y) (H:=fun i l=>if i < q then CW a i l else if i=q then (if (l:Int)∈(Ac a.al).take k then CW a q l else (q:Int)) else 0) hm6
    have hc:(Nf a.nx.length fun (i x:Nat)=>if i=q∧x=m then y else (fun (i l:Nat)=>if i < q then CW a i l else if i=q then (if (l:Int)∈(Ac a.al).take k then CW a q l else (q:Int)) else 0) i x)=Nf a.nx.length fun i l=>if i < q then CW a i l else if i=q then (if (l:Int)∈(Ac a.al).take (k+1) then CW a q l else (q:Int)) else 0:=Gt fun i _ l _=>by
     try dsimp only
     rw [List.take_add_one,hl]
     by_cases e:i=q
     ·subst e
      by_cases e2:l=m
      ·subst e2;simp [hgo]
      ·have e3:¬(l:Int)=(m:Int):=by omega
       simp [e2,e3]
     ·simp [e]
    refine aK ?_
    refine aS (aB ?_)
    (repeat first|refine tM rfl ?_ |(refine s4 rfl ‹_› rfl ?_ ?_;omega) |refine aU rfl ?_ |refine Aa ?_)
    refine rG (HN [9]) (by kernel_rfl) ?_
    (repeat first|(refine sM rfl ?_ ?_;first|exact tI|omega) |(refine s4 rfl ‹_› rfl ?_ ?_;omega))
    (refine Af rfl ?_;refine Gm ?_ rfl (by rfl);refine Di rfl rfl rfl rfl (hg) rfl (hmj) ?_)
    (repeat first|(refine sM rfl ?_ ?_;first|exact tI|omega) |refine aU rfl ?_ |refine Aa ?_)
    refine⟨⟨k+1,by (simp only[oZ] at *;omega)⟩,by dsimp only;((simp only[oZ] at *;omega)),[0],?_⟩
    rw [hs,hc]
    simp[cX,zC,hΓ,Ib]
   ·obtain rfl:k=(Ac a.al).length:=by (simp only[oZ] at *;omega)
    have hc0:=Gt (n:=a.nx.length) (H:=fun i l=>if i < q then CW a i l else if i=q then (if (l:Int)∈(Ac a.al).take (Ac a.al).length then CW a q l else (q:Int)) else 0) (H':=fun i l=>if i < q+1 then CW a i l else 0) fun i _ l hl=>by
     try dsimp only
     rw [List.take_length]
     by_cases e:i=q
     ·subst e
      simp only [Nat.lt_irrefl,if_false,if_true,Nat.lt_succ_self]
      by_cases e2:Ei a.al l=true
      ·rw [if_pos (FM.2 ⟨hl,e2⟩)]
      ·rw [if_neg (fun h=>e2 (FM.1 h).2)];unfold CW;rw [if_neg (by simpa using e2)]
     ·by_cases e2:i < q
      ·rw [if_pos e2,if_pos (by omega)]
      ·rw [if_neg e2,if_neg e,if_neg (by omega)]
    rw [hc0]
    refine aE ?_
    (repeat first|(refine sM rfl ?_ ?_;first|exact tI|omega) |refine aU rfl ?_ |refine Aa ?_)
    refine⟨⟨q+1,by omega⟩,by dsimp only;(omega),[0],?_⟩
    simp[cX,zC,hΓ,Ib]
 ·obtain rfl:q=a.nx.length:=by (simp only[oZ] at *;omega)
  have hc:=Gt (n:=a.nx.length) (H:=fun i l=>if i < a.nx.length then CW a i l else 0) (H':=fun i l=>CW a i l) fun i hi l _=>by rw [if_pos hi]
  rw [hc]
  refine aE ?_
  (repeat first|refine tM rfl ?_ |refine aU rfl ?_ |refine Aa ?_)
  refine Ai.freeze [0] [(2,.o (.d (.l (ND a))))] ⟨⟨_,rfl,.o (.full (by simp) rfl (bX a) (by simp [YI]))⟩,trivial⟩ ?_
  refine aR ⟨_,rfl,rfl⟩
theorem GV(a:BT)(h:A5 a=true):Pure Tryz.prog TB 83 [BL a] (.o (.d (.l (ND a)))):=QU a (XO h)
end Go.Am
namespace Go.Am
open Go
def Ki:List Int→List (List Int)→List Int
 | _::zs,c::cs=>c.flatMap fun q=>(Ki zs cs).map fun r=>q*AL zs+r
 | _,_=>[0]
theorem Wq:∀ {zs:List Int} {cs:List (List Int)},FF zs cs→∀out:List Int,GL zs cs out=out.flatMap fun o=>(Ki zs cs).map fun r=>o*AL zs+r:=by
 intro zs cs h
 induction h with
 | nil=>intro out;simp [GL,Ki,AL]
 | @cons z c zs cs _ _ _ ih=>
  intro out
  rw [GL,ih,List.flatMap_assoc]
  congr 1
  funext o
  rw [List.flatMap_map,Ki,List.map_flatMap]
  congr 1
  funext q
  rw [List.map_map]
  congr 1
  funext r
  simp only [Function.comp_def,AL]
  rw [Int.add_mul,Int.mul_assoc];omega
theorem Us{zs:List Int}{cs:List (List Int)}(h:FF zs cs):GL zs cs [0]=Ki zs cs:=by
 rw [Wq h];simp
theorem Kr:∀(zs ws:List Int),AL (zs++ws)=AL zs*AL ws
 | [],ws=>by simp [AL]
 | z::zs,ws=>by simp [AL,Kr zs ws,Int.mul_assoc]
theorem PM:∀(zs ws:List Int) (n:Int),(∀w∈ws,0 < w)→BU (zs++ws) n=BU zs (n / AL ws)++BU ws n
 | [],ws,n,_=>rfl
 | z::zs,ws,n,h=>by
  have hp:=On h
  simp only [List.cons_append,BU,PM zs ws n h,Kr]
  rw [Int.mul_comm (AL zs),Int.ediv_ediv_of_nonneg (by omega)]
def Z2(l:List Sys)(node letter:Int):List (List Int):=l.zipWith (fun s q=>CM s q letter) (BU (l.map (·.st)) node)
theorem Ze{l:List Sys}(h:∀s∈l,Bw s=true)(hl:l.length≤3){letter:Int}(h0:0≤letter)(h1:letter < 6)(node:Int):FF (l.map (·.st)) (Z2 l node letter):=by
 have hn:Ee ⟨l,[],[],0,0,0⟩:=⟨h,fun a ha=>(by cases ha),hl,by simp⟩
 have hz:Aj ⟨l,[],[],0,0,0⟩=l.map (·.st):=by simp [Aj]
 have hf:=Jh hn node
 have:=Je hn hf h0 h1
 rw [hz] at this
 unfold K2 at this
 simpa [Z2] using this
end Go.Am
namespace Go.Am
open Go Go.Proofs
set_option maxHeartbeats 1000000
attribute [local irreducible] A1 BZ Lex Bj Ai Spec
variable {TB:Bh}
theorem En{P:Program}{Γ:Ctx}{d:Option Tmp}{ty:TypeId}{pos:String}{af:Array Edge}{g:Option (Nat×Bool)}{f:Env}{σ:Ab}{nx:Nat}{t:TypeId}{x:Operand}{c:D}{cs:List D}{n:Nat}[hl:DJ P t false n](hx:ev f x=some (.o (.ip cs)))(hc:cs[0]? = some c):A1 P TB Γ ⟨d,.load t x,ty,pos,af,g⟩ f σ nx (.o (.d c)):=by
 cases cs with
 | nil=>cases hc
 | cons a l=>injection hc with hc;subst hc;exact Qz hx
theorem Zx{es:List Eb}{q l:Int}(h0:0≤q∧q < 16)(h1:0≤l∧l < 6):(((Fb es).drop (q.toNat*6)).drop (l.toNat*1))[0]? = some (iD (BG (MY es q.toNat l.toNat):Nat)):=by
 rw [List.getElem?_drop,List.getElem?_drop,HT (by omega)]
 have e1:(q.toNat*6+(l.toNat*1+0)) / 6=q.toNat:=by omega
 have e2:(q.toNat*6+(l.toNat*1+0)) % 6=l.toNat:=by omega
 rw [e1,e2]
end Go.Am
namespace Go.Am
open Go
structure dB where
 p:Int
 l:Int
 ns:List Int
structure dO where
 seen:List Bool
 fresh:List Int
 found:Bool
def sn(seen:List Bool)(n:Int):Bool:=seen.getD n.toNat false
structure dV (goal:Int→Bool) (N:Nat) (seen:List Bool) (nodes:List Int) (st:dO):Prop where
 len:st.seen.length=N
 snI:∀n:Int,0≤n→(sn st.seen n=true↔sn seen n=true∨n∈nodes)
 fr:∀n:Int,n∈st.fresh↔n∈nodes∧sn seen n=false
 nd:st.fresh.Nodup
 fd:st.found=st.fresh.any goal
 cnt:st.seen.count true=seen.count true+st.fresh.length
structure FI (g:Gr) (seen:List Bool) (steps:List dB) (ws:List (List Int)) (i j:Nat):Prop where
 slen:seen.length=g.N
 wlen:ws.length=steps.length
 chain:∀(t:Nat) s,steps[t]? = some s→(s.p = -1∧ws[t]? = some [])∨∃(q:Nat) (w:List Int),s.p=(q:Int)∧q < t∧ws[q]? = some w∧ws[t]? = some (w++[s.l])∧s.l∈g.ls
 rch:∀(t:Nat) s w,steps[t]? = some s→ws[t]? = some w→∀n∈s.ns,reach g w g.s0 n
 ov:∀w∈ws,over g w
 min:∀(t:Nat) s w,steps[t]? = some s→ws[t]? = some w→∀n∈s.ns,∀u,over g u→slt u w→¬reach g u g.s0 n
 ord:ws.Pairwise slt
 par:∀w∈ws,w=[]∨∃(p:Nat) (v:List Int) (l:Int),ws[p]? = some v∧w=v++[l]∧l∈g.ls∧(p < i∨p=i∧∃j',j' < j∧g.ls[j']? = some l)
 snI:∀n:Int,0≤n→(sn seen n=true↔∃s∈steps,n∈s.ns)
 done:∀(t:Nat) s,steps[t]? = some s→∀l,(t < i∧l∈g.ls∨t=i∧∃j',j' < j∧g.ls[j']? = some l)→∀n∈s.ns,∀y∈g.succ n l,sn seen y=true
 nogoal:∀s∈steps,∀n∈s.ns,g.goal n=false
 inn:∀s∈steps,∀n∈s.ns,0≤n∧n < g.N
 start:sn seen g.s0=true
 cnt:steps.length≤seen.count true
 le:i≤steps.length
 nd:∀s∈steps,s.ns.Nodup
structure dw (ls:List Int) (steps:List dB) (ws:List (List Int)):Prop where
 wlen:ws.length=steps.length
 chain:∀(t:Nat) s,steps[t]? = some s→(s.p = -1∧ws[t]? = some [])∨∃(q:Nat) (w:List Int),s.p=(q:Int)∧q < t∧ws[q]? = some w∧ws[t]? = some (w++[s.l])∧s.l∈ls
end Go.Am
namespace Go.Am
open Go Go.Proofs
set_option maxHeartbeats 1000000
attribute [local irreducible] A1 BZ Lex Bj Ai Spec
variable {TB:Bh}
theorem Xc(r:Nat→Nat)(c:UInt8):C.Ce r (Jc c)=Jc c:=rfl
theorem RV(r:Nat→Nat)(n:Nat)(H:Nat→UInt8):(B0 n fun i=>Jc (H i)).map (C.Ce r)=B0 n fun i=>Jc (H i):=by
 unfold B0
 rw [List.map_map]
 exact List.map_congr_left fun i _=>rfl
theorem SO{n q:Nat}{H:Nat→UInt8}(h:q < n):(B0 n fun i=>Jc (H i))[0+((q:Nat):Int).toNat]? = some (Jc (H q)):=by
 rw [Nat.zero_add,Int.toNat_natCast];exact Eo (g:=fun i=>Jc (H i)) h
theorem TF{n q:Nat}{H:Nat→UInt8}{c d:UInt8}:(B0 n fun i=>Jc (H i)).set (0+((q:Nat):Int).toNat) (Ag (Jc d) 0 (eC (eI .u8 (c.toNat:Nat))))=B0 n fun i=>Jc (if i=q then c else H i):=by
 rw [Nat.zero_add,Int.toNat_natCast]
 have e:Ag (Jc d) 0 (eC (eI .u8 (c.toNat:Nat)))=Jc c:=rfl
 rw [e,Kv]
 refine Df fun i _=>?_
 by_cases h:i=q<;>simp [h]
theorem JJ{a:BT}{q:Nat}(h:q < a.nx.length):(ND a)[q]? = some (RX fun l=>CW a q l):=Eo (g:=fun q=>RX fun l=>CW a q l) h
theorem Hx{h:Nat→Int}{l:Int}(h0:0≤l)(h1:l < 6):((RX h).drop (l.toNat*1))[0]? = some (iD (h l.toNat)):=by
 rw [List.getElem?_drop]
 have h2:l.toNat*1+0=l.toNat:=by omega
 have h3:l.toNat < 6:=by omega
 rw [h2]
 simp [RX,h3]
end Go.Am
namespace Go.Am
open Go
theorem FA{g g':Gr}(hg:Lw g)(hls:g.ls=g'.ls)(hs:∀x:Int,0≤x∧x < g.N→∀l∈g.ls,g.succ x l=g'.succ x l):∀ {w:List Int} {a x:Int},over g w→(0≤a∧a < g.N)→(reach g w a x↔reach g' w a x)
 | [],a,x,_,_=>Iff.rfl
 | l :: w,a,x,ho,ha=>by
  have hl:=ho l (by simp)
  simp only [reach,←hs a ha l hl]
  constructor
  ·rintro⟨y,hy,h⟩
   exact⟨y,hy,(FA hg hls hs (fun m hm=>ho m (by simp [hm])) (hg.inn a ha l hl y hy)).1 h⟩
  ·rintro⟨y,hy,h⟩
   exact⟨y,hy,(FA hg hls hs (fun m hm=>ho m (by simp [hm])) (hg.inn a ha l hl y hy)).2 h⟩
theorem Ed.congr{g g':Gr}(hg:Lw g)(hls:g.ls=g'.ls)(h0:g.s0=g'.s0)(hs:∀x:Int,0≤x∧x < g.N→∀l∈g.ls,g.succ x l=g'.succ x l)(hgo:∀x:Int,0≤x∧x < g.N→g.goal x=g'.goal x){r:Option (List Int)}(h:Ed g r):Ed g' r:=by
 have hov:∀w,over g' w↔over g w:=fun w=>by unfold over;rw [hls]
 have hh:∀w,over g w→(UX g' w↔UX g w):=fun w hw=>by
  unfold UX
  rw [←h0]
  constructor
  ·rintro⟨x,hx,hgx⟩
   have hx:=(FA hg hls hs hw hg.s0).2 hx
   exact⟨x,hx,by rw [hgo x (Fg hg hw hg.s0 hx)];exact hgx⟩
  ·rintro⟨x,hx,hgx⟩
   exact⟨x,(FA hg hls hs hw hg.s0).1 hx,by rw [←hgo x (Fg hg hw hg.s0 hx)];exact hgx⟩
 cases r with
 | none=>exact fun u hu hx=>h u ((hov u).1 hu) ((hh u ((hov u).1 hu)).1 hx)
 | some w=>
  obtain⟨h1,h2,h3⟩:=h
  exact⟨(hov w).2 h1,(hh w h1).2 h2,fun u hu hx=>h3 u ((hov u).1 hu) ((hh u ((hov u).1 hu)).1 hx)⟩
theorem Wn{zs ws:List Int}{cs ds:List (List Int)}(h:FF zs cs):Ki (zs++ws) (cs++ds)=(Ki zs cs).flatMap fun o=>(Ki ws ds).map fun r=>o*AL ws+r:=by
 induction h with
 | nil=>simp [Ki]
 | @cons z c zs cs _ _ _ ih=>
  simp only [List.cons_append,Ki,ih]
  rw [List.flatMap_assoc]
  congr 1
  funext q
  rw [List.map_flatMap,List.flatMap_map]
  congr 1
  funext o
  rw [List.map_map]
  congr 1
  funext r
  simp only [Function.comp_def,Kr]
  rw [Int.add_mul,Int.mul_assoc];omega
theorem QO(l:List Sys)(aus:List BT)(st:List Int)(ls kd gl:Int):Aj ⟨l,aus,st,ls,kd,gl⟩=l.map (·.st)++aus.map (fun a=>(a.nx.length:Int)):=rfl
theorem O3{l:List Sys}{aus:List BT}{st:List Int}{ls kd gl:Int}(hn:Ee ⟨l,aus,st,ls,kd,gl⟩){node letter:Int}(h0:0≤letter)(h1:letter < 6) :
 Fc ⟨l,aus,st,ls,kd,gl⟩ (Aj ⟨l,aus,st,ls,kd,gl⟩) (BU (Aj ⟨l,aus,st,ls,kd,gl⟩) node) letter =
  (Ki (l.map (·.st)) (Z2 l (node / AL (aus.map fun a=>(a.nx.length:Int))) letter)).flatMap fun o=>(Ki (aus.map fun a=>(a.nx.length:Int)) (aus.zipWith (fun a q=>[CW a q.toNat letter]) (BU (aus.map fun a=>(a.nx.length:Int)) node))).map fun r=>o*AL (aus.map fun a=>(a.nx.length:Int))+r:=by
 have hp:∀w∈aus.map (fun a=>(a.nx.length:Int)),0 < w:=fun w hw=>by
  obtain⟨a,ha,rfl⟩:=List.mem_map.1 hw
  have:=AI (hn.au a ha);omega
 unfold Fc
 rw [Us (Je hn (Jh hn node) h0 h1),QO,PM _ _ _ hp]
 have hch:=Ze hn.ps hn.np h0 h1 (node / AL (aus.map fun a=>(a.nx.length:Int)))
 have e:K2 ⟨l,aus,st,ls,kd,gl⟩ (BU (l.map (·.st)) (node / AL (aus.map fun a=>(a.nx.length:Int)))++BU (aus.map fun a=>(a.nx.length:Int)) node) letter=Z2 l (node / AL (aus.map fun a=>(a.nx.length:Int))) letter++aus.zipWith (fun a q=>[CW a q.toNat letter]) (BU (aus.map fun a=>(a.nx.length:Int)) node):=by
  unfold K2 Z2
  have hl:(BU (l.map (·.st)) (node / AL (aus.map fun a=>(a.nx.length:Int)))).length=l.length:=by rw [LQ];simp
  simp only
  rw [List.drop_append_of_le_length (by omega),List.drop_of_length_le (by omega),List.nil_append]
  congr 1
  rw [GX,List.take_append_of_le_length (by omega),List.take_of_length_le (by omega)]
 rw [e,Wn hch]
theorem NV:∀(zs:List Int) (k:Nat),GB zs (List.replicate k 0) 0=0
 | [],k=>by simp [GB]
 | z::zs,0=>by simp [GB]
 | z::zs,k+1=>by
  rw [List.replicate_succ]
  simp only [GB,Int.zero_mul,Int.add_zero]
  exact NV zs k
end Go.Am
namespace Go.Am
open Go Go.Proofs
set_option maxHeartbeats 1000000
attribute [local irreducible] A1 BZ Lex Bj Ai Spec
variable {TB:Bh}
end Go.Am
namespace Go.Proofs.YtkkihplpglchjaaGreatDoor
open Go Go.Am Go.ChangeShapes Go.WideShapes Go.ChangeAt Go.RowKit
def UT(l:List Value):List Int:=l.map fun v=>match v with|.int _ n=>n|_=>0
theorem TL{P:Program}{W:World}{name:String}{g:Nat}{t e:TypeId}{n:Nat}{zs:List Int}{fuel:Nat}{cs:Array Value}{p:List MemPlace}(hg:P.globalNamed name=some g)(ht:P.underlying t=some (.array n e))(he:P.underlying e=some (.int .u8))(hce:P.cellsOf e=1)(hct:P.cellsOf t=n)
 (hv:W.var? P name=some cs) (hd:DataW.trod (fun _=>()) P W 0 (fun _=>true) false fuel t cs.toList=some (Lib.tabData .u8 zs,p)):∃T fr,W.heap[g]? = some (.cells (zs.map fun z=>Value.int .u8 z).toArray T fr):=by
 have h:=Lib.cells_of_tab ht he hce hct hd
 unfold World.var? at hv
 rw [hg] at hv
 simp only [Option.bind_some] at hv
 split at hv
 ·rename_i c T fr hh
  injection hv with hv
  subst hv
  refine⟨T,fr,?_⟩
  rw [hh,←h]
 ·cases hv
theorem tables{W:World}(h:laidMetH Tryz.prog Rows.fnTableRowsRow.laid W):∃tabs:List (Nat×Obj),Eh ⟨tabs,none⟩∧∀x∈(⟨tabs,none⟩:Bh),below W x.1∧W.heap[x.1]? = some x.2:=by
 have h:laidMet Tryz.prog Rows.fnTableRowsRow.laid W:=h
 obtain⟨ps,⟨g0,t0,cs0,f0,p0,q0,hg0,ht0,hv0,hd0,⟨g1,t1,cs1,f1,p1,q1,hg1,ht1,hv1,hd1,_,_⟩,_⟩,_,_⟩:=h
 have k0:Tryz.prog.globalNamed "math/bits.deBruijn32tab" = some 0:=by kernel_rfl
 have k1:Tryz.prog.globalNamed "math/bits.deBruijn64tab" = some 1:=by kernel_rfl
 obtain rfl:=Option.some.inj (k0.symm.trans hg0)
 obtain rfl:=Option.some.inj (k1.symm.trans hg1)
 have l0:(Tryz.prog.globals[0]?).map (·.type)=some 213:=by kernel_rfl
 have l1:(Tryz.prog.globals[1]?).map (·.type)=some 214:=by kernel_rfl
 obtain rfl:=Option.some.inj (l0.symm.trans ht0)
 obtain rfl:=Option.some.inj (l1.symm.trans ht1)
 obtain⟨T0,fr0,h0⟩:=TL (zs:=UT B5) k0 Tryz.underlying213 Tryz.underlying5 (by kernel_rfl) (by kernel_rfl) hv0 hd0
 obtain⟨T1,fr1,h1⟩:=TL (zs:=UT Bq) k1 Tryz.underlying214 Tryz.underlying5 (by kernel_rfl) (by kernel_rfl) hv1 hd1
 refine⟨[(0,.cells ((UT B5).map fun z=>Value.int .u8 z).toArray T0 fr0),(1,.cells ((UT Bq).map fun z=>Value.int .u8 z).toArray T1 fr1)],⟨⟨⟨_,_,_,List.mem_cons_self,fun i v hv=>?_⟩,by decide⟩,⟨⟨_,_,_,List.mem_cons_of_mem _ List.mem_cons_self,fun i v hv=>?_⟩,by decide⟩⟩,?_⟩
 ·have:B5=(UT B5).map fun z=>Value.int .u8 z:=rfl
  rw [List.getElem?_toArray,←this];exact hv
 ·have:Bq=(UT Bq).map fun z=>Value.int .u8 z:=rfl
  rw [List.getElem?_toArray,←this];exact hv
 ·intro x hx
  have hx:x∈[_,_]:=hx
  simp only [List.mem_cons,List.not_mem_nil,or_false] at hx
  rcases hx with rfl|rfl
  ·exact⟨(Array.getElem?_eq_some_iff.1 h0).1,h0⟩
  ·exact⟨(Array.getElem?_eq_some_iff.1 h1).1,h1⟩
end Go.Proofs.YtkkihplpglchjaaGreatDoor
namespace Go.Am
open Go
set_option linter.unusedVariables false
theorem PZ{a b:Nat}(ha:a < 2 ^ 62)(hb:b < 2 ^ 62):Ey .i64 a b=((a &&& b:Nat):Int):=by
 have h0:a &&& b≤a:=Nat.and_le_left
 unfold Ey
 have h1:(BitVec.ofInt IntKind.i64.bits (a:Int) &&& BitVec.ofInt IntKind.i64.bits (b:Int)).toNat=a &&& b:=by
  have e:IntKind.i64.bits=64:=rfl
  rw [e]
  simp only [BitVec.toNat_and,BitVec.ofInt_natCast,BitVec.toNat_ofNat]
  rw [Nat.mod_eq_of_lt (by omega),Nat.mod_eq_of_lt (by omega)]
 rw [h1]
 exact IntWalk.i64_in _ (by omega)
theorem VS(s n:Nat):((s:Nat):Int).fdiv (2 ^ n)=((s / 2 ^ n:Nat):Int):=by
 have h:(0:Int)≤2 ^ n:=Int.le_of_lt (Int.pow_pos (by omega))
 rw [Int.fdiv_eq_ediv_of_nonneg _ h]
 push_cast
 rfl
theorem Jb{s n:Nat}(hs:s < 2 ^ 62)(hn:n < 64):Ei (s:Nat) n=s.testBit n:=by
 unfold Ei
 have e:min n 64=n:=by omega
 rw [e,VS]
 have h1:s / 2 ^ n≤s:=Nat.div_le_self _ _
 have h2:=PZ (a:=s / 2 ^ n) (b:=1) (by omega) (by omega)
 rw [show ((1:Nat):Int)=1 from rfl] at h2
 rw [h2,Nat.testBit_eq_decide_div_mod_eq,Nat.and_one_is_mod]
 congr 1
 rw [eq_iff_iff]
 omega
theorem YG{s a:Nat}:s &&& a=s↔∀n,s.testBit n=true→a.testBit n=true:=by
 constructor
 ·intro h n hn
  have:=congrArg (·.testBit n) h
  simp only [Nat.testBit_and,hn,Bool.true_and] at this
  exact this
 ·intro h
  apply Nat.eq_of_testBit_eq
  intro n
  rw [Nat.testBit_and]
  cases hs:s.testBit n
  ·rfl
  ·rw [h n hs];rfl
abbrev Wd:=List UInt8
def Fs(c:UInt8):Bool:=decide (97≤c.toNat∧c.toNat < 103)
def Fo(w:Wd):Bool:=decide (w.length≤50000) && w.all Fs
def IV(w:Wd):Nat:=w.foldl (fun s c=>s ||| 2 ^ (c.toNat - 97)) 0
def IH(al:Int)(c:UInt8):Bool:=Fs c && Ei al (c.toNat - 97)
def within(w:Wd)(al:Int):Bool:=decide (w.length≤50000) && (Bo al && w.all (IH al))
theorem PU(n:Nat):∀(w:Wd) (s:Nat),(w.foldl (fun s c=>s ||| 2 ^ (c.toNat - 97)) s).testBit n=(s.testBit n || w.any fun c=>decide (c.toNat - 97=n))
 | [],s=>by simp
 | c::w,s=>by
  rw [List.foldl_cons,PU n w,Nat.testBit_or,Nat.testBit_two_pow,List.any_cons,Bool.or_assoc]
theorem QN(w:Wd)(n:Nat):(IV w).testBit n=w.any fun c=>decide (c.toNat - 97=n):=by
 unfold IV;rw [PU];simp
theorem Ph:∀ {w:Wd} {s:Nat},w.all Fs=true→s < 64→w.foldl (fun s c=>s ||| 2 ^ (c.toNat - 97)) s < 64
 | [],s,_,hs=>hs
 | c::w,s,h,hs=>by
  simp only [List.all_cons,Bool.and_eq_true] at h
  rw [List.foldl_cons]
  refine Ph h.2 ?_
  have h1:=h.1
  unfold Fs at h1
  simp only [decide_eq_true_eq] at h1
  have h2:2 ^ (c.toNat - 97) < 2 ^ 6:=Nat.pow_lt_pow_right (by omega) (by omega)
  exact Nat.or_lt_two_pow (n:=6) hs h2
theorem Yz{w:Wd}{al:Int}(hw:w.all Fs=true)(ha:Bo al=true):decide (Ey .i64 (IV w:Nat) al=(IV w:Nat))=w.all (IH al):=by
 have hs:IV w < 64:=Ph hw (by omega)
 unfold Bo at ha
 simp only [decide_eq_true_eq] at ha
 obtain⟨a,rfl⟩:∃a:Nat,al=a:=⟨al.toNat,by omega⟩
 rw [PZ (by omega) (by omega)]
 rw [Bool.eq_iff_iff,decide_eq_true_eq,List.all_eq_true]
 have h1:((IV w &&& a:Nat):Int)=(IV w:Nat)↔IV w &&& a=IV w:=by omega
 rw [h1,YG]
 rw [List.all_eq_true] at hw
 constructor
 ·intro h c hc
  have h2:=hw c hc
  unfold IH
  rw [h2,Bool.true_and]
  unfold Fs at h2
  simp only [decide_eq_true_eq] at h2
  rw [Jb (by omega) (by omega)]
  refine h _ ?_
  rw [QN,List.any_eq_true]
  exact⟨c,hc,by simp⟩
 ·intro h n hn
  rw [QN,List.any_eq_true] at hn
  obtain⟨c,hc,hcn⟩:=hn
  simp only [decide_eq_true_eq] at hcn
  have h2:=hw c hc
  have h3:=h c hc
  unfold IH at h3
  rw [h2,Bool.true_and] at h3
  unfold Fs at h2
  simp only [decide_eq_true_eq] at h2
  rw [Jb (by omega) (by omega),hcn] at h3
  exact h3
theorem Sn{w:Wd}{al:Int}(h:w.all (IH al)=true):w.all Fs=true:=by
 rw [List.all_eq_true] at *
 intro c hc
 have:=h c hc
 unfold IH at this
 simp only [Bool.and_eq_true] at this
 exact this.1
inductive FL (σ:Ab) (ids:List Nat):List C→List C→Prop
 | nil:FL σ ids [] []
 | cons {c c':C} {cs cs':List C}:FC σ ids c c'→FL σ ids cs cs'→FL σ ids (c::cs) (c'::cs')
theorem FL.len{σ:Ab}{ids:List Nat}{l l':List C}(h:FL σ ids l l'):l'.length=l.length:=by
 induction h with
 | nil=>rfl
 | cons _ _ ih=>simp [ih]
theorem FL.get{σ:Ab}{ids:List Nat}{l l':List C}(h:FL σ ids l l'):∀(j:Nat) c',l'[j]? = some c'→∃c,l[j]? = some c∧FC σ ids c c':=by
 induction h with
 | nil=>intro j c' h;simp at h
 | @cons c0 c0' cs cs' h1 _ ih=>
  intro j c' hj
  cases j with
  | zero=>simp at hj;subst hj;exact⟨c0,rfl,h1⟩
  | succ j=>exact ih j c' (by simpa using hj)
def NJ(σ:Ab)(ids:List Nat):Ab→Prop
 | []=>True
 | (id,.cells T k [r'])::S=>(∃r,look σ id=some (.cells T k [r])∧id∉ids∧FL σ ids r r')∧NJ σ ids S
 | _=>False
theorem NJ.get{σ:Ab}{ids:List Nat}:∀ {S:Ab},NJ σ ids S→∀id o',look S id=some o'→∃T k r r',o'=.cells T k [r']∧look σ id=some (.cells T k [r])∧id∉ids∧FL σ ids r r'
 | [],_,id,o',h=>by cases h
 | (i, o)::S,hs,id,o',h=>by
  match o,hs with
  | .cells T k [r'],hs=>
   rw [Aw] at h
   by_cases hi:i=id
   ·rw [if_pos hi] at h
    injection h with h
    subst h;subst hi
    obtain⟨r,h1,h2,h3⟩:=hs.1
    exact⟨T,k,r,r',rfl,h1,h2,h3⟩
   ·rw [if_neg hi] at h
    exact NJ.get hs.2 id o' h
section
variable {P:Program}{TB:Bh}{Γ:Ctx}{N:Nat}{σ:Ab}
theorem B1.Jl{V:View}{f:Env}{nx:Nat}{a:Act}(h:B1 TB Γ N V f σ nx a)(ids:List Nat)(L:List (Nat×E))(S:Ab)(hE:DD σ ids f L)(hS:NJ σ ids S):B1 TB Γ N (Ka V σ ids) (look L) S nx a:=by
 have e:Ext V (Ka V σ ids):=Li
 have hi:=h.inv
 refine⟨fun t x hx=>?_,fun t x hx=>?_,h.size,?_,h.nx,h.defers⟩
 ·obtain⟨y,h1,h2⟩:=hE.get t x hx
  exact h2.rel h.inv (h.env t y h1)
 ·obtain⟨y,h1,_⟩:=hE.get t x hx
  exact h.lt t y h1
 ·refine⟨hi.os,hi.tape,hi.output,hi.old,?_,?_,hi.ext.trans e,⟨?_,?_,?_,?_⟩,?_,fun x hx=>⟨.inl (hi.tabs x hx).1,(hi.tabs x hx).2⟩,hi.hid.same rfl (fun _ h=>.inl h) (fun b hb=>hb.elim .inl fun ⟨id,o,_,hl,hn,he⟩=>.inr ⟨id,o,hl,hn,he⟩) fun b ⟨id,o,hl,hn,hb⟩=>?_⟩
  ·rintro b (hb|⟨id,o,_,hl,hn,hb⟩)
   ·exact hi.iLt b hb
   ·exact(hi.st.obj id o hl).blt hn hb
  ·rintro b (hb|⟨id,o,_,hl,hn,hb⟩)
   ·exact hi.iNew b hb
   ·exact .inr (hi.live id o hl hn b hb)
  ·intro id o hl
   obtain⟨T,k,r,r',rfl,h1,h2,h3⟩:=hS.get id o hl
   rcases hi.st.obj id _ h1 with ⟨h4,h5⟩|⟨h0,cur,h4,h5,h6,h7,h8,h9⟩
   ·cases h5
   ·refine .inr ⟨h0,cur,h4,h5,h6,h7,fun x hx=>?_,fun i x j c' hix hj=>?_⟩
    ·simp at hx;subst hx;rw [h3.len];exact h8 r (by simp)
    ·have hi0:i=0:=by have:=(List.getElem?_eq_some_iff.1 hix).1;simp at this;omega
     subst hi0
     simp at hix
     subst hix
     obtain⟨c,hc,hf⟩:=h3.get j c' hj
     obtain⟨v,h10,h11⟩:=h9 0 r j c rfl hc
     exact⟨v,h10,hf.rel hi h11⟩
  ·intro id o hl
   obtain⟨T,k,r,r',_,h1,_,_⟩:=hS.get id o hl
   exact hi.st.lt id _ h1
  ·intro id o hl hn b hb' hb
   obtain⟨T,k,r,r',rfl,h1,h2,_⟩:=hS.get id o hl
   rcases hb with hb|⟨id',o',hm,hl',hn',he⟩
   ·exact hi.st.free id _ h1 hn b hb' hb
   ·exact hi.st.inj id id' _ o' h1 hl' (fun e=>h2 (e ▸ hm)) hn hn' b hb' he
  ·intro id id' o o' hl hl' hne hn hn' b hb hb'
   obtain⟨T,k,r,r',rfl,h1,_,_⟩:=hS.get id o hl
   obtain⟨T2,k2,r2,r2',rfl,h12,_,_⟩:=hS.get id' o' hl'
   exact hi.st.inj id id' _ _ h1 h12 hne hn hn' b hb hb'
  ·intro id o hl hn b hb
   obtain⟨T,k,r,r',rfl,h1,_,_⟩:=hS.get id o hl
   exact hi.live id _ h1 hn b hb
  ·obtain⟨T,k,r,r',rfl,h1,_,_⟩:=hS.get id o hl
   exact⟨id,_,h1,hn,hb⟩
theorem Ai.Jl{c:Code}{Q:Exit→Env→Ab→Nat→Prop}{f:Env}{nx:Nat}(ids:List Nat)(L:List (Nat×E))(S:Ab)(hE:DD σ ids f L)(hS:NJ σ ids S)(h:Ai P TB Γ N c Q (look L) S nx):Ai P TB Γ N c Q f σ nx:=
 fun V a hr=>h (Ka V σ ids) a (hr.Jl ids L S hE hS)
theorem Yp{d:Option Tmp}{ty:TypeId}{pos:String}{af:Array Edge}{g:Option (Nat×Bool)}{f:Env}{nx:Nat}{t k e:TypeId}{x y:Operand}{id:Nat}{l:List (List UInt8×Int)}{s:List UInt8}[hm:Ik P t k e][hk:Dq P k][hz:NH P e (.int .i64 0)](hx:ev f x=some (.o (.mp id)))(hy:ev f y=some (eT s))(ho:look σ id=some (.mp (Gj l))) :
 A1 P TB Γ ⟨d,.lookup t x y false,ty,pos,af,g⟩ f σ nx (eI .i64 ((Ch l s).getD 0)):=
 AH fun V ρ hr hi=>by
  have e1:=hr.get (by simp [Op.operands]) hx
  have e2:ρ y=.string ⟨s.toArray⟩:=AE.val (hr.get (by simp [Op.operands]) hy)
  generalize hv:ρ x=v at e1
  cases e1 with
  | mp hid=>
   obtain⟨hn,ents,clock,h1,h2⟩:=hi.st.obj id _ ho
   obtain⟨r,h3,h4⟩:=Jk s l ents.toList 0 h2
   have hzz:=hz.out
   simp only [Option.bind_eq_some_iff] at hzz
   obtain⟨i,hi1,hz1⟩:=hzz
   have hzv:(zeroValue e).run P V.w=.ok (.int .i64 0) V.w:=by simp [zeroValue,typeInfo,hi1,hz1,go_sem]
   have hfk:(Instr.findKey k (.string ⟨s.toArray⟩) ents.toList).run P V.w=.ok r V.w:=by simp [Instr.findKey,run_underlying hk.out,h3,go_sem]
   have hck:=ID hk.out ents.isEmpty ⟨s.toArray⟩ V.w
   refine⟨.int .i64 ((Ch l s).getD 0),?_,.d (.v rfl)⟩
   cases r with
   | none=>
    have h5:Ch l s=none:=by simpa using h4.symm
    simp [execOp,hv,e2,Instr.lookup,run_underlying hm.out,MapKept.run_getObj_map h1,hck,hfk,hzv,h5,go_sem]
   | some q=>
    obtain⟨n,h5,h6⟩:∃n,Ch l s=some n∧q.2=.int .i64 n:=by
     cases hf:Ch l s with
     | none=>rw [hf] at h4;simp at h4
     | some n=>rw [hf] at h4;exact⟨n,rfl,by simpa using h4⟩
    obtain⟨q1,q2⟩:=q
    simp only at h6
    subst h6
    simp [execOp,hv,e2,Instr.lookup,run_underlying hm.out,MapKept.run_getObj_map h1,hck,hfk,h5,go_sem]
end
end Go.Am
namespace Go.Am
set_option linter.unusedVariables false
abbrev W:=List UInt8
structure AT where
 rows:List W
 cols:List W
def Oe(b:Bool):UInt8:=if b then 43 else 45
theorem Te{a b:Bool}(h:Oe a=Oe b):a=b:=by cases a<;>cases b<;>first|rfl|(simp [Oe] at h)
def marks(L:W→Bool)(cols:List W)(w:W):W:=cols.map fun c=>Oe (L (w++c))
theorem Qk{L:W→Bool}{cols:List W}{u w:W}:marks L cols u=marks L cols w↔∀c∈cols,L (u++c)=L (w++c):=by
 unfold marks
 rw [List.map_inj_left]
 exact⟨fun h c hc=>Te (h c hc),fun h c hc=>by rw [h c hc]⟩
def AA(L:W→Bool)(t:AT):List W:=t.rows.map (marks L t.cols)
def Cd(ls:List UInt8)(rows:List W):List W:=rows.flatMap fun r=>ls.map fun l=>r++[l]
def AO(L:W→Bool)(ls:List UInt8)(t:AT):Option W:=(Cd ls t.rows).find? fun w=>!(AA L t).contains (marks L t.cols w)
def A3(L:W→Bool)(ls:List UInt8):Nat→AT→Option AT
 | 0,_=>none
 | n+1,t=>match AO L ls t with
  | none=>some t
  | some w=>if t.rows.length=12 then none else A3 L ls n ⟨t.rows++[w],t.cols⟩
def AN(ls:List UInt8)(w:W):Prop:=∀c∈w,c∈ls
structure TOk (L:W→Bool) (ls:List UInt8) (t:AT):Prop where
 r0:t.rows[0]? = some []
 c0:t.cols[0]? = some []
 pre:∀(i:Nat) w,t.rows[i]? = some w→0 < i→w≠[]∧∃j,j < i∧t.rows[j]? = some w.dropLast
 onR:∀w∈t.rows,AN ls w
 onC:∀c∈t.cols,AN ls c
 nd:(AA L t).Nodup
 ndC:t.cols.Nodup
theorem Ff{L:W→Bool}{ls:List UInt8}{t:AT}{w:W}(h:AO L ls t=some w):(∃r∈t.rows,∃l∈ls,w=r++[l])∧marks L t.cols w∉AA L t:=by
 have h1:=List.find?_some h
 have h2:=List.mem_of_find?_eq_some h
 unfold Cd at h2
 simp only [List.mem_flatMap,List.mem_map] at h2
 obtain⟨r,hr,l,hl,rfl⟩:=h2
 exact⟨⟨r,hr,l,hl,rfl⟩,by simpa using h1⟩
theorem Em{L:W→Bool}{ls:List UInt8}{t:AT}(h:AO L ls t=none):∀r∈t.rows,∀l∈ls,marks L t.cols (r++[l])∈AA L t:=by
 intro r hr l hl
 have h1:=List.find?_eq_none.1 h (r++[l]) (by unfold Cd;simp only [List.mem_flatMap,List.mem_map];exact⟨r,hr,l,hl,rfl⟩)
 simpa using h1
theorem TOk.push{L:W→Bool}{ls:List UInt8}{t:AT}{w:W}(h:TOk L ls t)(ho:AO L ls t=some w):TOk L ls ⟨t.rows++[w],t.cols⟩:=by
 obtain⟨⟨r,hr,l,hl,rfl⟩,hn⟩:=Ff ho
 have h0:0 < t.rows.length:=(List.getElem?_eq_some_iff.1 h.r0).1
 refine⟨by rw [List.getElem?_append_left h0];exact h.r0,h.c0,fun i w hi hp=>?_,fun w hw=>?_,h.onC,?_,h.ndC⟩
 ·by_cases hil:i < t.rows.length
  ·rw [List.getElem?_append_left hil] at hi
   obtain⟨h1,j,h2,h3⟩:=h.pre i w hi hp
   exact⟨h1,j,h2,by rw [List.getElem?_append_left (by omega)];exact h3⟩
  ·rw [List.getElem?_append_right (by omega)] at hi
   have hi0:i=t.rows.length:=by
    have:=(List.getElem?_eq_some_iff.1 hi).1
    simp at this;omega
   subst hi0
   simp at hi
   subst hi
   obtain⟨j,hj,he⟩:=List.getElem_of_mem hr
   refine⟨by simp,j,hj,?_⟩
   rw [List.getElem?_append_left hj,List.dropLast_concat,List.getElem?_eq_getElem hj,he]
 ·rcases List.mem_append.1 hw with hw|hw
  ·exact h.onR w hw
  ·simp at hw
   subst hw
   intro c hc
   rcases List.mem_append.1 hc with hc|hc
   ·exact h.onR r hr c hc
   ·simp at hc;subst hc;exact hl
 ·unfold AA
  rw [List.map_append,List.nodup_append]
  refine⟨h.nd,by simp,fun a ha b hb=>?_⟩
  simp at hb
  subst hb
  intro e
  exact hn (e ▸ ha)
structure Fin (L:W→Bool) (ls:List UInt8) (n:Nat) where
 st:W→Nat
 lt:∀w,AN ls w→st w < n
 same:∀u w v,AN ls u→AN ls w→AN ls v→st u=st w→L (u++v)=L (w++v)
theorem Ms:∀(n:Nat) (l:List Nat),l.Nodup→(∀x∈l,x < n)→l.length≤n
 | 0,l,_,h=>by cases l with
  | nil=>simp
  | cons x l=>have:=h x (by simp);omega
 | n + 1,l,hd,h=>by
  have h1:=Ms n (l.erase n) (hd.erase n) fun x hx=>by
   have h2:=h x (List.mem_of_mem_erase hx)
   have h3:x≠n:=fun e=>by subst e;exact(List.Nodup.not_mem_erase hd) hx
   omega
  by_cases hn:n∈l
  ·rw [List.length_erase_of_mem hn] at h1;omega
  ·rw [List.erase_of_not_mem hn] at h1;omega
theorem TOk.aP{L:W→Bool}{ls:List UInt8}{t:AT}{n:Nat}(h:TOk L ls t)(f:Fin L ls n):t.rows.length≤n:=by
 have h1:(t.rows.map f.st).Nodup:=by
  have hnd:=h.nd
  unfold AA at hnd
  unfold List.Nodup at *
  rw [List.pairwise_map] at *
  refine List.Pairwise.imp_of_mem (fun {a b} ha hb hne hst=>hne ?_) hnd
  exact Qk.2 fun c hc=>f.same a b c (h.onR a ha) (h.onR b hb) (h.onC c hc) hst
 have h2:=Ms n _ h1 fun x hx=>by
  obtain⟨w,hw,rfl⟩:=List.mem_map.1 hx
  exact f.lt w (h.onR w hw)
 simpa using h2
theorem NS{L:W→Bool}{ls:List UInt8}{n:Nat}(f:Fin L ls n)(hn:n≤12):∀(k:Nat) (t:AT),TOk L ls t→13≤k+t.rows.length→∃t',A3 L ls k t=some t'∧TOk L ls t'∧AO L ls t'=none∧t.rows <+: t'.rows∧t'.cols=t.cols∧(AO L ls t≠none→t.rows.length < t'.rows.length)
 | 0,t,h,hk=>by have:=h.aP f;omega
 | k + 1,t,h,hk=>by
  unfold A3
  cases ho:AO L ls t with
  | none=>exact⟨t,rfl,h,ho,List.prefix_refl _,rfl,fun h=>absurd rfl h⟩
  | some w=>
   have h2:=h.push ho
   have h3:=h2.aP f
   simp only [List.length_append,List.length_cons,List.length_nil] at h3
   simp only
   rw [if_neg (show ¬t.rows.length=12 by omega)]
   obtain⟨t',e1,e2,e3,e4,e5,_⟩:=NS f hn k _ h2 (by simp;omega)
   have h5:t.rows <+: t'.rows:=List.IsPrefix.trans (List.prefix_append _ _) e4
   refine⟨t',e1,e2,e3,h5,e5,fun _=>?_⟩
   have:=e4.length_le
   simp at this;omega
def De(L:W→Bool)(t:AT)(w:W):Nat:=(AA L t).idxOf (marks L t.cols w)
def runM(L:W→Bool)(t:AT):Nat→W→Nat
 | i,[]=>i
 | i,c::w=>runM L t (De L t ((t.rows.getD i [])++[c])) w
theorem QI(L:W→Bool)(t:AT):∀(u w:W) (i:Nat),runM L t i (u++w)=runM L t (runM L t i u) w
 | [],_,_=>rfl
 | c::u,w,i=>QI L t u w _
structure BN (L:W→Bool) (ls:List UInt8) (t:AT):Prop extends TOk L ls t where
 cl:∀r∈t.rows,∀l∈ls,marks L t.cols (r++[l])∈AA L t
theorem BN.idx{L:W→Bool}{ls:List UInt8}{t:AT}(h:BN L ls t){i:Nat}{r:W}{l:UInt8}(hi:t.rows[i]? = some r)(hl:l∈ls):∃r',t.rows[De L t (r++[l])]? = some r'∧marks L t.cols r'=marks L t.cols (r++[l]):=by
 have h1:=h.cl r (List.mem_of_getElem? hi) l hl
 have h2:De L t (r++[l]) < (AA L t).length:=List.idxOf_lt_length_iff.2 h1
 have h3:(AA L t)[De L t (r++[l])]'h2=marks L t.cols (r++[l]):=List.getElem_idxOf h2
 have h4:De L t (r++[l]) < t.rows.length:=by simpa [AA] using h2
 refine⟨t.rows[De L t (r++[l])],List.getElem?_eq_getElem h4,?_⟩
 rw [←h3]
 simp [AA]
theorem BN.run{L:W→Bool}{ls:List UInt8}{t:AT}(h:BN L ls t):∀(w:W) (i:Nat),AN ls w→i < t.rows.length→runM L t i w < t.rows.length
 | [],_,_,hi=>hi
 | c::w,i,hw,hi=>by
  have h1:t.rows[i]? = some t.rows[i]:=List.getElem?_eq_getElem hi
  obtain⟨_,h2,_⟩:=h.idx h1 (hw c (by simp))
  have h3:t.rows.getD i []=t.rows[i]:=by simp [h1]
  show runM L t (De L t (t.rows.getD i []++[c])) w < _
  rw [h3]
  exact h.run w _ (fun x hx=>hw x (by simp [hx])) (List.getElem?_eq_some_iff.1 h2).1
def splitAt(L:W→Bool)(t:AT)(b:Bool):Nat→W→Option W
 | _,[]=>none
 | i,c::v=>if L (t.rows.getD (De L t ((t.rows.getD i [])++[c])) []++v)≠b then some v else splitAt L t b (De L t ((t.rows.getD i [])++[c])) v
end Go.Am
namespace Go.Am
open Go Go.Proofs
set_option maxHeartbeats 1000000
attribute [local irreducible] A1 BZ Lex Bj Ai Spec
variable {TB:Bh}
abbrev QT(t:AT):List D:=[AM t.rows,AM t.cols]
abbrev BV(t:AT):E:=.a [.d (AM t.rows),.d (AM t.cols)]
abbrev Ji(al:Int)(c:C):E:=.a [.d (iD al),c]
mutual
theorem Cm:∀(c:C),c.AS=true→∀r,c.A4 r=c
 | .d x,_,r=>rfl
 | .fn g cap,h,r=>by
  simp only [C.AS] at h
  simp only [C.A4,MI cap h r]
 | .arr ..,h,_=>by cases h
 | .ptr ..,h,_=>by cases h
 | .mp ..,h,_=>by cases h
 | .mv g l,h,r=>by
  simp only [C.AS] at h
  simp only [C.A4,MI l h r]
theorem MI:∀(l:List C),C.Be l=true→∀r,C.Ce r l=l
 | [],_,r=>rfl
 | c::l,h,r=>by
  simp only [C.Be,Bool.and_eq_true] at h
  simp only [C.Ce,Cm c h.1 r,MI l h.2 r]
end
structure FD (P:Program) (TB:Bh) (c:C) (L:W→Bool) (ok:W→Prop):Prop where
 AS:c.AS=true
 ask:∀ {Γ:Ctx} {d:Option Tmp} {ty:TypeId} {pos:String} {af:Array Edge} {g:Option (Nat×Bool)} {f:Env} {σ:Ab} {nx:Nat} {x a:Operand} {tys:Array TypeId} {w:W},
  ev f x=some (.o c)→ev f a=some (eT w)→ok w→A1 P TB Γ ⟨d,.call ⟨.value x,#[a],tys⟩,ty,pos,af,g⟩ f σ nx (eB (L w))
theorem FD.of{P:Program}{g:FuncId}{cap:List C}{L:W→Bool}{ok:W→Prop}(hc:C.Be cap=true)(h:∀w,ok w→Pure P TB g ([eT w]++cap.map .o) (eB (L w))):FD P TB (.fn g cap) L ok:=
 ⟨hc,fun hx ha hw=>AJ (es:=[eT _]) hx (by simp [HM,ha]) (by simp [E.AS,C.AS,hc]) (h _ hw) rfl⟩
def Qm(L:W→Bool)(cols:List W)(w:W)(k:Nat)(i:Nat):UInt8:=if i < k then Oe (L (w++cols.getD i [])) else 0
theorem RK(L:W→Bool)(cols:List W)(w:W):(B0 cols.length fun i=>Jc (Qm L cols w cols.length i))=(marks L cols w).map Jc:=by
 apply List.ext_getElem?
 intro i
 by_cases h:i < cols.length
 ·rw [Eo h]
  simp [marks,Qm,h]
 ·rw [List.getElem?_eq_none (by simp [B0];omega),List.getElem?_eq_none (by simp [marks];omega)]
theorem cQ:Jc 0=[C.d (D.v (Value.int IntKind.u8 0))]:=rfl
theorem bg(L:W→Bool)(cols:List W)(w:W)(n:Nat):(B0 n fun i=>Jc (Qm L cols w 0 i))=List.replicate n (Jc 0):=by
 apply List.ext_getElem?
 intro i
 by_cases h:i < n
 ·rw [Eo h];simp [Qm,h]
 ·rw [List.getElem?_eq_none (by simp [B0];omega),List.getElem?_eq_none (by simp;omega)]
theorem Ws{L:W→Bool}{cols:List W}{w x:W}{k:Nat}(hx:cols[k]? = some x):(B0 cols.length fun i=>Jc (if i=k then Oe (L (w++x)) else Qm L cols w k i))=B0 cols.length fun i=>Jc (Qm L cols w (k+1) i):=by
 refine Df fun i _=>?_
 congr 1
 unfold Qm
 by_cases h:i=k
 ·subst h
  rw [if_pos rfl,if_pos (by omega)]
  simp [hx]
 ·rw [if_neg h]
  by_cases h2:i < k
  ·rw [if_pos h2,if_pos (by omega)]
  ·rw [if_neg h2,if_neg (by omega)]
theorem Mo{c:C}{L:W→Bool}{ok:W→Prop}(hc:FD Tryz.prog TB c L ok)(al:Int)(t:AT)(w:W)(hl:t.cols.length≤1048576)(hk:∀x∈t.cols,ok (w++x))(hb:∀x∈t.cols,w.length+x.length≤1048576) :
 Pure Tryz.prog TB 81 [Ji al c,BV t,eT w] (eT (marks L t.cols w)):=by
 have hr:=Cm c hc.AS
 refine eN Tryz.func81 rfl (by kernel_rfl) rfl ?_;intro Γ hΓ
 (repeat first|refine aU rfl ?_)
 (refine pW rfl ?_ rfl (by rfl);refine Dm rfl rfl ?_)
 (refine Af rfl ?_;refine Ci (fun _ _=>C0 rfl rfl rfl) rfl ?_)
 (repeat first|refine sN rfl ?_ |refine tM rfl ?_ |refine aU rfl ?_ |refine Aa ?_)
 (refine pW rfl ?_ rfl (by rfl);refine Km rfl rfl (by rfl) (by rfl) (Nat.le_of_ble_eq_true rfl) (by omega) (by omega) (by omega) ?_)
 (repeat first|refine sN rfl ?_ |refine tM rfl ?_ |refine aU rfl ?_ |refine Aa ?_)
 refine aB ?_
 refine Ai.Bm (α:={k:Nat // k≤t.cols.length}) (fun ⟨k,hkl⟩=>[(2,eT w),(3,.o (.ptr 0 2 0 0)),(7,.o (.arr 1 1 0 t.cols.length)),(15,.o (.d (AM t.cols))),(16,eI .i64 t.cols.length),(17,eI .i64 k)]) (fun ⟨k,hkl⟩=>[(1,.cells 5 1 (B0 t.cols.length fun i=>Jc (Qm L t.cols w k i))),(0,.cells 71 2 [[.d (iD al),c]])]) 2 (fun ⟨k,hkl⟩=>t.cols.length - k) (⟨0,by omega⟩) [0,1] (Fq hΓ rfl rfl) (by (simp[cX,zC,hΓ,RV,hr,bg,eC,Xc,cQ])) ?_;rintro⟨k,hkl⟩;(try dsimp only)
 (repeat first|refine s2 rfl fun _ _hb=>?_ |refine aU rfl ?_ |refine Aa ?_)
 (refine aC rfl ?_ ?_<;>rintro⟨⟩)
 ·have hlt:k < t.cols.length:=by (simp only[oZ] at *;omega)
  obtain⟨x,hx⟩:=get_some (l:=t.cols) (k:=k) hlt
  have hx':=get_map (g:=BD) hx
  have hxm:=List.mem_of_getElem? hx
  have hxb:=hb x hxm
  have hok:=hk x hxm
  have hg:=SO (H:=Qm L t.cols w k) (q:=k) (n:=t.cols.length) hlt
  have hs1:(B0 t.cols.length fun i=>Jc (Qm L t.cols w k i)).set (0+((k:Nat):Int).toNat) (Ag (Jc (Qm L t.cols w k k)) 0 (eC (eI .u8 45)))=B0 t.cols.length fun i=>Jc (if i=k then 45 else Qm L t.cols w k i):=TF (c:=45)
  have hg2:=SO (H:=fun i=>if i=k then 45 else Qm L t.cols w k i) (q:=k) (n:=t.cols.length) hlt
  rw [←hs1] at hg2
  have hs2:(B0 t.cols.length fun i=>Jc (if i=k then 45 else Qm L t.cols w k i)).set (0+((k:Nat):Int).toNat) (Ag (Jc (if k=k then 45 else Qm L t.cols w k k)) 0 (eC (eI .u8 43)))=B0 t.cols.length fun i=>Jc (if i=k then 43 else Qm L t.cols w k i):=by
   refine(TF (H:=fun i=>if i=k then 45 else Qm L t.cols w k i) (c:=43)).trans ?_
   refine Df fun i _=>?_
   by_cases h:i=k<;>simp [h]
  have hst:=Ws (L:=L) (w:=w) hx
  refine aK ?_
  refine aS (aB ?_)
  (repeat first|((first|refine sM rfl ?_ ?_|refine s4 rfl ‹_› rfl ?_ ?_);first|exact tI|omega)|(refine Af rfl ?_;refine gA rfl ?_;first| (refine gB (fun _ _=>hc.ask rfl rfl hok) ?_;intro _ _hb)) |refine aU rfl ?_ |refine Aa ?_)
  (refine aC rfl ?_ ?_<;>rintro⟨⟩)
  ·(repeat first|(refine sM rfl ?_ ?_;first|exact tI|omega) |refine t4 rfl ‹_› rfl ?_ |refine aU rfl ?_ |refine Aa ?_)
   refine⟨⟨k+1,by omega⟩,by dsimp only;(omega),[0,1],?_⟩
   rw [hs1,hs2]
   rw [_hb] at hst
   have e43:Oe true=43:=rfl
   have e45:Oe false=45:=rfl
   simp only [e43,e45] at hst
   simp[cX,zC,hΓ,RV,hr,hst]
  ·refine aK ?_
   (repeat first|(refine sM rfl ?_ ?_;first|exact tI|omega) |refine aU rfl ?_ |refine Aa ?_)
   refine⟨⟨k+1,by omega⟩,by dsimp only;(omega),[0,1],?_⟩
   rw [hs1]
   rw [_hb] at hst
   have e43:Oe true=43:=rfl
   have e45:Oe false=45:=rfl
   simp only [e43,e45] at hst
   simp[cX,zC,hΓ,RV,hr,hst]
 ·obtain rfl:k=t.cols.length:=by (simp only[oZ] at *;omega)
  rw [RK]
  refine aE ?_
  (repeat first|refine tM rfl ?_|(refine Af rfl ?_;refine gA rfl ?_;first| refine gQ (Yu (marks L t.cols w) rfl rfl (by simp [marks]) (by rw [List.drop_zero,List.take_of_length_le (by simp [marks])])) (by rfl) ?_) |refine aU rfl ?_ |refine Aa ?_)
  refine aR ⟨_,rfl,rfl⟩
end Go.Am
