/-
  Moves of a system as sets.
-/
import Derived.Test.YtliafogflkcnbaaGreatDoorPart11
import Derived.Test.YtliafogflkcnbaaGreatDoorPart9
set_option linter.constructorNameAsVariable false
set_option linter.unusedSectionVars false
set_option linter.unusedSimpArgs false
set_option linter.unusedVariables false
namespace Go.Am
open Go Go.Proofs
set_option maxHeartbeats 1000000
attribute [local irreducible] AY B2 Lex Bq Ak Spec
variable {TB:Bu}
theorem QT(r:Nat→Nat):∀ds:List D,C.Bz r (ds.map .d)=ds.map .d
 | []=>rfl
 | d::l=>by simp [C.Bz,C.A0,QT r l]
def Ru(es:List JH)(f l:Nat):List Int:=(es.filter fun e:JH=>decide (e.f=(f:Int)) && decide (e.l=(l:Int))).map (·.t)
def Fj(es:List JH):List D:=(List.range 96).map fun i=>iD (B3 (Ru es (i / 6) (i % 6)):Nat)
theorem Hb{es:List JH}{i:Nat}(h:i < 96):(Fj es)[i]? = some (iD (B3 (Ru es (i / 6) (i % 6)):Nat)):=by simp [Fj,h]
theorem SU(es:List JH)(e:JH)(f l:Nat):Ru (es++[e]) f l=Ru es f l++if e.f=(f:Int)∧e.l=(l:Int) then [e.t] else []:=by
 simp only [Ru,List.filter_append,List.map_append,List.filter_cons,List.filter_nil]
 grind
theorem LR{r:List C}{j:Nat}{c:C}(h:j < r.length):Aj r j [c]=r.set j c:=by
 unfold Aj
 rw [List.set_eq_take_append_cons_drop,if_pos h]
 simp
theorem QL{es:List JH}{e:JH}{v:Int}(h0:0≤e.f∧e.f < 16)(h1:0≤e.l∧e.l < 6)(hv:v=(B3 (Ru (es++[e]) e.f.toNat e.l.toNat):Nat)) :
 Aj ((Fj es).map .d) (0+e.f.toNat*6+e.l.toNat*1) (eC (eI .i64 v))=(Fj (es++[e])).map .d:=by
 have hj:0+e.f.toNat*6+e.l.toNat*1 < 96:=by omega
 have:eC (eI .i64 v)=[C.d (iD v)]:=rfl
 rw [this,LR (by simp [Fj];omega),←List.map_set]
 congr 1
 apply List.ext_getElem?
 intro i
 by_cases hi:i < 96
 ·rw [Hb hi]
  by_cases hij:0+e.f.toNat*6+e.l.toNat*1=i
  ·subst hij
   rw [List.getElem?_set_self (by simp [Fj];omega),hv]
   have e1:(0+e.f.toNat*6+e.l.toNat*1) / 6=e.f.toNat:=by omega
   have e2:(0+e.f.toNat*6+e.l.toNat*1) % 6=e.l.toNat:=by omega
   rw [e1,e2]
  ·rw [List.getElem?_set_ne hij,Hb hi,SU,if_neg (by omega),List.append_nil]
 ·rw [List.getElem?_eq_none (by simp [Fj];omega),List.getElem?_eq_none (by simp [Fj];omega)]
theorem HV{s:Sys}(h:CU s=true)(k f l:Nat):(Ru (s.es.take k) f l).Pairwise (· < ·):=by
 unfold Ru
 rw [List.pairwise_map]
 refine List.Pairwise.imp_of_mem (fun {a b} ha hb hab=>?_) (((IU h).sublist (List.take_sublist k s.es)).filter _)
 have h1:=(List.mem_filter.1 ha).2
 have h2:=(List.mem_filter.1 hb).2
 unfold Jb at hab
 grind
theorem WR{s:Sys}(h:CU s=true){k f l:Nat}{x:Int}(hx:x∈Ru (s.es.take k) f l):0≤x∧x < 16:=by
 unfold Ru at hx
 obtain⟨e,he,rfl⟩:=List.mem_map.1 hx
 have h2:=HU h (List.mem_of_mem_take (List.mem_filter.1 he).1)
 have h3:=Gb h
 unfold FB at h2
 grind
theorem Xt{a t:Nat}(ha:a < 2 ^ 16)(ht:t < 16):Y9 .i64 (a:Nat) ((2 ^ t:Nat):Int)=((a ||| 2 ^ t:Nat):Int):=by
 have h2:2 ^ t < 2 ^ 16:=Nat.pow_lt_pow_right (by omega) ht
 have h0:a ||| 2 ^ t < 2 ^ 16:=Nat.or_lt_two_pow ha h2
 unfold Y9
 have h1:(BitVec.ofInt IntKind.i64.bits (a:Int) ||| BitVec.ofInt IntKind.i64.bits ((2 ^ t:Nat):Int)).toNat=a ||| 2 ^ t:=by
  have e:IntKind.i64.bits=64:=rfl
  rw [e]
  simp only [BitVec.toNat_or,BitVec.ofInt_natCast,BitVec.toNat_ofNat]
  rw [Nat.mod_eq_of_lt (by omega),Nat.mod_eq_of_lt (by omega)]
 rw [h1]
 exact IntWalk.i64_in _ (by omega)
theorem SG{t:Int}(h0:0≤t)(h1:t < 16):IntKind.i64.wrap (1*2 ^ (min t.toNat IntKind.i64.bits))=((2 ^ t.toNat:Nat):Int):=by
 have e:min t.toNat IntKind.i64.bits=t.toNat:=by
  have:IntKind.i64.bits=64:=rfl
  omega
 rw [e,Int.one_mul]
 have h2:2 ^ t.toNat < 2 ^ 16:=Nat.pow_lt_pow_right (by omega) (by omega)
 have h3:(2:Int) ^ t.toNat=((2 ^ t.toNat:Nat):Int):=by push_cast;rfl
 rw [h3]
 generalize 2 ^ t.toNat=p at *
 exact IntWalk.i64_in _ (by omega)
theorem Zh(s:Sys)(h:CU s=true):Pure Tryz.prog TB 180 [YZ s] (.o (.ip (Fj s.es))):=by
 refine eN Tryz.func180 rfl (by kernel_rfl) rfl ?_;intro Γ hΓ
 (repeat first|refine sN rfl ?_ |refine tA rfl ?_ |refine aU rfl ?_ |refine Aa ?_)
 refine Ak.bound 8 rfl fun hB0=>?_
 have hB:=hB0 (s.es.map JP) .refl
 refine aB ?_
 refine Ak.AZ (α:={k:Nat // k≤s.es.length}) (fun ⟨k,hk⟩=>[(3,.o (.ptr 0 96 0 0)),(8,Yq s.es),(9,eI .i64 s.es.length),(10,eI .i64 k)]) (fun ⟨k,hk⟩=>[(0,.cells 215 96 [(Fj (s.es.take k)).map .d])]) 1 (fun ⟨k,hk⟩=>s.es.length - k) (⟨0,by omega⟩) [0] (DB hΓ rfl rfl) (by (repeat' first|exact tI|rfl|refine And.intro ?_ ?_)) ?_;rintro⟨k,hk⟩;(try dsimp only)
 (repeat first|refine s2 rfl fun _ _hb=>?_ |refine aU rfl ?_ |refine Aa ?_)
 (refine aC rfl ?_ ?_<;>rintro⟨⟩)
 ·obtain⟨e,he⟩:=get_some (l:=s.es) (k:=k) (by (simp only[oZ] at *;omega))
  have he':=get_map (g:=JP) he
  have heo:=HU h (List.mem_of_getElem? he)
  have hh:=Gb h
  unfold FB at heo
  simp only [Bool.and_eq_true,decide_eq_true_eq] at heo
  obtain⟨⟨hf0,hf1,ht0,ht1,hl0,hl1⟩,hbit⟩:=heo
  have hj96:0+e.f.toNat*6+e.l.toNat*1+1≤96:=by omega
  have hshl:=SG ht0 (by omega)
  have htk:s.es.take (k+1)=s.es.take k++[e]:=by rw [List.take_add_one,he];rfl
  have hap:Ru (s.es.take (k+1)) e.f.toNat e.l.toNat=Ru (s.es.take k) e.f.toNat e.l.toNat++[e.t]:=by
   rw [htk,SU,if_pos (by omega)]
  have hbnd:∀x∈Ru (s.es.take k) e.f.toNat e.l.toNat,0≤x∧x < e.t.toNat:=by
   intro x hx
   have h1:=HV h (k+1) e.f.toNat e.l.toNat
   rw [hap,List.pairwise_append] at h1
   have h2:=h1.2.2 x hx e.t (by simp)
   have h3:=WR h hx
   omega
  have hor1:=XZ (HV h k e.f.toNat e.l.toNat) hbnd
  have hlt:=SF (t:=16) (HV h k e.f.toNat e.l.toNat) fun x hx=>WR h hx
  have hor:=Xt hlt (t:=e.t.toNat) (by omega)
  have et:((e.t.toNat:Nat):Int)=e.t:=by omega
  rw [hor1,et,←hap,htk] at hor
  have hstep:=QL (es:=s.es.take k) (e:=e) ⟨hf0,by omega⟩ ⟨hl0,hl1⟩ rfl
  rw [←hor] at hstep
  have hld:((Fj (s.es.take k)).map C.d)[0+e.f.toNat*6+e.l.toNat*1]? = some (.d (iD (B3 (Ru (s.es.take k) e.f.toNat e.l.toNat):Nat))):=by
   have e1:(0+e.f.toNat*6+e.l.toNat*1) / 6=e.f.toNat:=by omega
   have e2:(0+e.f.toNat*6+e.l.toNat*1) % 6=e.l.toNat:=by omega
   rw [List.getElem?_map,Hb (by omega),e1,e2];rfl
  refine aK ?_
  refine aS (aB ?_)
  (repeat first|refine tA rfl ?_ |(refine s4 rfl ‹_› rfl ?_ ?_;omega) |refine aU rfl ?_ |refine Aa ?_)
  refine rG (HW [16]) (by kernel_rfl) ?_
  (repeat first|(refine sA rfl ?_ ?_;first|exact tI|omega)|(refine Ag rfl ?_;refine gA rfl ?_;first| refine gS (fun _ _=>Yz rfl rfl (by omega) hshl) ?_|refine gQ (N8 rfl rfl rfl hld) (by rfl) ?_))
  (refine Ag rfl ?_;refine GN ?_ rfl (by rfl);refine Hc rfl rfl rfl rfl (rfl) rfl (hj96) ?_)
  (repeat first|(refine sA rfl ?_ ?_;first|exact tI|simp only[oZ] at *;omega) |refine aU rfl ?_ |refine Aa ?_)
  refine⟨⟨k+1,by (simp only[oZ] at *;omega)⟩,by dsimp only;((simp only[oZ] at *;omega)),[0],?_⟩
  rw [hstep,←htk]
  simp[cX,zC,hΓ,List.set_cons_zero,QT]
 ·obtain rfl:k=s.es.length:=by (simp only[oZ] at *;omega)
  refine aE ?_
  rw [List.take_length]
  (repeat first|refine tM rfl ?_ |refine aU rfl ?_ |refine Aa ?_)
  refine Ak.freeze [0] [(2,.o (.ip (Fj s.es)))] ⟨⟨_,rfl,.o (.ptr (by simp) rfl rfl rfl)⟩,trivial⟩ ?_
  refine aR ⟨_,rfl,rfl⟩
def LK(h:Nat→Int):List C:=(List.range 6).map fun l=>.d (iD (h l))
def QV(h:Nat→Int):List D:=(List.range 6).map fun l=>iD (h l)
theorem Wy(h:Nat→Int):LK h=(QV h).map .d:=by simp [LK,QV]
def Bl{α:Type}(n:Nat)(g:Nat→α):List α:=(List.range n).map g
theorem CG{α:Type}{n q:Nat}{g:Nat→α}(h:q < n):(Bl n g)[q]? = some (g q):=by simp [Bl,h]
theorem Jw{α:Type}{n q:Nat}{g:Nat→α}{x:α}:(Bl n g).set q x=Bl n fun i=>if i=q then x else g i:=by
 apply List.ext_getElem?
 intro i
 by_cases hi:i < n
 ·rw [CG hi]
  by_cases hq:q=i
  ·subst hq;rw [List.getElem?_set_self (by simp [Bl,hi])];simp
  ·rw [List.getElem?_set_ne hq,CG hi,if_neg (Ne.symm hq)]
 ·rw [List.getElem?_eq_none (by simp [Bl];omega),List.getElem?_eq_none (by simp [Bl];omega)]
theorem B4{α:Type}{n:Nat}{g g':Nat→α}(h:∀i,i < n→g i=g' i):Bl n g=Bl n g':=by
 unfold Bl
 exact List.map_congr_left fun i hi=>h i (List.mem_range.1 hi)
theorem Wz{h:Nat→Int}{l:Nat}{v:Int}(hl:l < 6):Aj (LK h) (0+l*1) (eC (eI .i64 v))=LK fun x=>if x=l then v else h x:=by
 have e:eC (eI .i64 v)=[C.d (iD v)]:=rfl
 rw [e,LR (by simp [LK];omega)]
 have:=Jw (n:=6) (q:=l) (g:=fun l=>C.d (iD (h l))) (x:=C.d (iD v))
 have e1:0+l*1=l:=by omega
 rw [e1]
 refine Eq.trans this (B4 fun i _=>?_)
 by_cases e:i=l<;>simp [e]
theorem HP{h h':Nat→Int}(hh:∀l,l < 6→h l=h' l):LK h=LK h':=B4 fun i hi=>by rw [hh i hi]
theorem Hr(s:Int):∀(n k:Nat),k≤n→Az s k <+: Az s n
  | 0, k, h => by have:k=0:=by omega
                  subst this;exact List.prefix_refl _
  | n + 1,k,h=>by
    rcases Nat.lt_or_ge k (n+1) with h1|h1
    · rw [B0]
      exact(Hr s n k (by omega)).trans (List.prefix_append _ _)
    · have:k=n+1:=by omega
      subst this;exact List.prefix_refl _
theorem DA{s:Int}{k n:Nat}{l:Int}(h:(Az s n)[k]? = some l):(Az s l.toNat).length=k:=by
 have h1:=Au (List.mem_of_getElem? h)
 have h2:(Az s (l.toNat+1))[(Az s l.toNat).length]? = some l:=by
  rw [B0,if_pos h1.2.2,List.getElem?_append_right (Nat.le_refl _)]
  simp;omega
 have h3:(Az s n)[(Az s l.toNat).length]? = some l:=by
  obtain⟨t,ht⟩:=Hr s n (l.toNat+1) (by omega)
  rw [←ht,List.getElem?_append_left (List.getElem?_eq_some_iff.1 h2).1];exact h2
 have hp:=C8 s n
 rw [List.pairwise_iff_getElem] at hp
 obtain⟨a1,a2⟩:=List.getElem?_eq_some_iff.1 h
 obtain⟨b1,b2⟩:=List.getElem?_eq_some_iff.1 h3
 rcases Nat.lt_trichotomy (Az s l.toNat).length k with h4|h4|h4
 ·have:=hp _ _ b1 a1 h4;omega
 ·exact h4
 ·have:=hp _ _ a1 b1 h4;omega
theorem E0{s:Int}{n l:Nat}:(l:Int)∈Az s n↔l < n∧ET s l=true:=by
 unfold Az
 simp only [List.mem_map,List.mem_filter,List.mem_range]
 constructor
 ·rintro⟨a,ha,e⟩
  have:a=l:=by have e:((a:Nat):Int)=l:=e;omega
  subst this;exact ha
 ·intro h;exact⟨l,h,rfl⟩
def Me(n:Nat)(H:Nat→Nat→Int):List (List C):=Bl n fun i=>LK (H i)
theorem Hi(r:Nat→Nat)(n:Nat)(H:Nat→Nat→Int):(Me n H).map (C.Bz r)=Me n H:=by
 unfold Me Bl
 rw [List.map_map]
 exact List.map_congr_left fun i _=>by simp only [Function.comp_def,Wy,QT]
theorem WM(n:Nat):Me n (fun _ _=>0)=List.replicate n [C.d (D.v (Value.int IntKind.i64 0)),C.d (D.v (Value.int IntKind.i64 0)),C.d (D.v (Value.int IntKind.i64 0)),C.d (D.v (Value.int IntKind.i64 0)),C.d (D.v (Value.int IntKind.i64 0)),C.d (D.v (Value.int IntKind.i64 0))]:=by
 unfold Me Bl
 rw [List.map_const'];simp;exact .inr rfl
theorem SO{n q:Nat}{H:Nat→Nat→Int}(h:q < n):(Me n H)[0+((q:Nat):Int).toNat]? = some (LK (H q)):=by
 rw [Nat.zero_add,Int.toNat_natCast];exact CG (g:=fun i=>LK (H i)) h
theorem SP{n q l:Nat}{v:Int}{H:Nat→Nat→Int}(hl:l < 6):(Me n H).set (0+((q:Nat):Int).toNat) (Aj (LK (H q)) (0+((l:Nat):Int).toNat*1) (eC (eI .i64 v)))=Me n fun i x=>if i=q∧x=l then v else H i x:=by
 rw [Nat.zero_add,Int.toNat_natCast,Int.toNat_natCast,Wz hl]
 unfold Me
 rw [Jw]
 refine B4 fun i _=>?_
 by_cases e:i=q
 ·subst e;rw [if_pos rfl];exact HP fun l _=>by simp
 ·rw [if_neg e];exact HP fun l _=>by simp [e]
theorem Fu{n:Nat}{H H':Nat→Nat→Int}(h:∀i,i < n→∀l,l < 6→H i l=H' i l):Me n H=Me n H':=B4 fun i hi=>HP fun l hl=>h i hi l hl
theorem Yi(n:Nat)(H:Nat→Nat→Int):(Me n H).length=n:=by simp [Me,Bl]
def Ey(a:AN):List (List D):=Bl a.nx.length fun q=>QV fun l=>Bm a q l
theorem cm(a:AN):Me a.nx.length (fun i l=>Bm a i l)=(Ey a).map fun r=>r.map .d:=by
 unfold Me Ey Bl
 rw [List.map_map]
 exact List.map_congr_left fun i _=>by simp only [Function.comp_def,Wy]
def HY(a:AN):Prop:=a.nx.length≤64∧∀q,q < a.nx.length→∃row:List Int,a.nx[q]? = some row∧row.length=(Ac a.al).length∧∀(k:Nat) y,row[k]? = some y→0≤y∧y < a.nx.length
theorem RO{a:AN}(h:Ay a=true):HY a:=⟨by have:=Ar h;omega,fun q hq=>GZ h hq⟩
theorem J9(a:AN)(h:HY a):Pure Tryz.prog TB 118 [AT a] (.o (.d (.l (Ey a)))):=by
 have hh:=h.1
 have hll:(Ac a.al).length≤6:=AM a.al 6
 refine eN Tryz.func118 rfl (by kernel_rfl) rfl ?_;intro Γ hΓ
 (repeat first|refine aU rfl ?_)
 (refine Ag rfl ?_;refine CK (fun _ _=>Dc rfl rfl rfl) rfl ?_)
 (refine Ag rfl ?_;refine CK (fun _ _=>CT rfl) rfl ?_)
 (repeat first|refine sN rfl ?_ |refine tM rfl ?_ |refine aU rfl ?_ |refine Aa ?_)
 (refine pW rfl ?_ rfl (by rfl);refine HM rfl rfl (by rfl) (by rfl) (Nat.le_of_ble_eq_true rfl) (by omega) (by omega) (by omega) ?_)
 (repeat first|refine sN rfl ?_ |refine tM rfl ?_ |refine sP rfl (CD a.al) rfl ?_ |refine aU rfl ?_ |refine Aa ?_)
 refine aB ?_
 refine Ak.AZ (α:={q:Nat // q≤a.nx.length}) (fun ⟨q,hq⟩=>[(1,.o (.ip (Bn a))),(3,.o (.arr 0 6 0 a.nx.length)),(4,Ai (Ac a.al)),(18,Ds a.nx),(19,eI .i64 a.nx.length),(20,eI .i64 q)]) (fun ⟨q,hq⟩=>[(0,.cells 129 6 (Me a.nx.length fun i l=>if i < q then Bm a i l else 0))]) 1 (fun ⟨q,hq⟩=>a.nx.length - q) (⟨0,by omega⟩) [0] (DB hΓ rfl rfl) (by (simp[cX,zC,hΓ,Hi,WM])) ?_;rintro⟨q,hq⟩;(try dsimp only)
 (repeat first|refine s2 rfl fun _ _hb=>?_ |refine aU rfl ?_ |refine Aa ?_)
 (refine aC rfl ?_ ?_<;>rintro⟨⟩)
 ·have hqn : q < a.nx.length:=by (simp only[oZ] at *;omega)
  obtain⟨row,hr,hrl,hrx⟩:=h.2 q hqn
  have hr':=get_map (g:=C1) hr
  refine aK ?_
  refine aS (aB ?_)
  (repeat first|refine tM rfl ?_ |(refine s4 rfl ‹_› rfl ?_ ?_;omega) |refine aU rfl ?_ |refine Aa ?_)
  refine aB ?_
  refine Ak.AZ (α:={m:Nat // m≤6}) (fun ⟨m,hm⟩=>[(1,.o (.ip (Bn a))),(3,.o (.arr 0 6 0 a.nx.length)),(4,Ai (Ac a.al)),(18,Ds a.nx),(19,eI .i64 a.nx.length),(20,eI .i64 q),(5,eI .i64 q),(6,Ai row),(25,eI .i64 m)]) (fun ⟨m,hm⟩=>[(0,.cells 129 6 (Me a.nx.length fun i l=>if i < q then Bm a i l else if i=q∧l < m then q else 0))]) 1 (fun ⟨m,hm⟩=>6 - m) (⟨0,by omega⟩) [0] (DB hΓ rfl rfl) (by (simp[cX,zC,hΓ,Hi])) ?_;rintro⟨m,hm⟩;(try dsimp only)
  (repeat first|refine s2 rfl fun _ _hb=>?_ |refine aU rfl ?_ |refine Aa ?_)
  (refine aC rfl ?_ ?_<;>rintro⟨⟩)
  ·have hm6:m < 6:=by (simp only[oZ] at *;omega)
   have hmj:0+((m:Nat):Int).toNat*1+1≤6:=by omega
   have hg:=SO (H:=fun i l=>if i < q then Bm a i l else if i=q∧l < m then q else 0) hqn
   have hs:=SP (n:=a.nx.length) (q:=q) (v:=q) (H:=fun i l=>if i < q then Bm a i l else if i=q∧l < m then q else 0) hm6
   have hc:(Me a.nx.length fun (i x:Nat)=>if i=q∧x=m then (q:Int) else (fun (i l:Nat)=>if i < q then Bm a i l else if i=q∧l < m then (q:Int) else 0) i x)=Me a.nx.length fun i l=>if i < q then Bm a i l else if i=q∧l < m+1 then (q:Int) else 0:=Fu fun i _ l _=>by dsimp only;grind
   refine aK ?_
   refine aS (aB ?_)
   (repeat first|(refine sM rfl ?_ ?_;first|exact tI|omega) |refine aU rfl ?_ |refine Aa ?_)
   (refine Ag rfl ?_;refine GN ?_ rfl (by rfl);refine Hc rfl rfl rfl rfl (hg) rfl (hmj) ?_)
   (repeat first|(refine sM rfl ?_ ?_;first|exact tI|omega) |refine aU rfl ?_ |refine Aa ?_)
   refine⟨⟨m+1,by omega⟩,by dsimp only;(omega),[0],?_⟩
   rw [hs,hc]
   simp[cX,zC,hΓ,Hi]
  ·obtain rfl:m=6:=by (simp only[oZ] at *;omega)
   have hc0:=Fu (n:=a.nx.length) (H:=fun i l=>if i < q then Bm a i l else if i=q∧l < 6 then (q:Int) else 0) (H':=fun i l=>if i < q then Bm a i l else if i=q then (if (l:Int)∈(Ac a.al).take 0 then Bm a q l else (q:Int)) else 0) fun i _ l hl=>by simp [hl]
   rw [hc0]
   refine aE ?_
   (repeat first|refine sN rfl ?_ |refine tM rfl ?_ |refine aU rfl ?_ |refine Aa ?_)
   refine aB ?_
   refine Ak.AZ (α:={k:Nat // k≤(Ac a.al).length}) (fun ⟨k,hk⟩=>[(1,.o (.ip (Bn a))),(3,.o (.arr 0 6 0 a.nx.length)),(4,Ai (Ac a.al)),(18,Ds a.nx),(19,eI .i64 a.nx.length),(20,eI .i64 q),(5,eI .i64 q),(6,Ai row),(35,Ai (Ac a.al)),(36,eI .i64 (Ac a.al).length),(37,eI .i64 k)]) (fun ⟨k,hk⟩=>[(0,.cells 129 6 (Me a.nx.length fun i l=>if i < q then Bm a i l else if i=q then (if (l:Int)∈(Ac a.al).take k then Bm a q l else (q:Int)) else 0))]) 1 (fun ⟨k,hk⟩=>(Ac a.al).length - k) (⟨0,by omega⟩) [0] (DB hΓ rfl rfl) (by (simp[cX,zC,hΓ,Hi])) ?_;rintro⟨k,hk⟩;(try dsimp only)
   (repeat first|refine s2 rfl fun _ _hb=>?_ |refine aU rfl ?_ |refine Aa ?_)
   (refine aC rfl ?_ ?_<;>rintro⟨⟩)
   ·obtain⟨l,hl⟩:=get_some (l:=Ac a.al) (k:=k) (by (simp only[oZ] at *;omega))
    have hl':=get_map (g:=Bk) hl
    have hlb:=Au (List.mem_of_getElem? hl)
    have hpl:=DA hl
    obtain⟨y,hy⟩:=get_some (l:=row) (k:=k) (by (simp only[oZ] at *;omega))
    have hy':=get_map (g:=Bk) hy
    obtain⟨m,rfl⟩:∃m:Nat,l=m:=⟨l.toNat,by omega⟩
    have hgo:Bm a q m=y:=by
     unfold Bm
     rw [if_pos hlb.2.2,hpl];simp [List.getD,hr,hy]
    have hm6:m < 6:=by omega
    have hmj:0+((m:Nat):Int).toNat*1+1≤6:=by omega
    have hg:=SO (H:=fun i l=>if i < q then Bm a i l else if i=q then (if (l:Int)∈(Ac a.al).take k then Bm a q l else (q:Int)) else 0) hqn
    have hs:=SP (n:=a.nx.length) (q:=q) (v:=y) (H:=fun i l=>if i < q then Bm a i l else if i=q then (if (l:Int)∈(Ac a.al).take k then Bm a q l else (q:Int)) else 0) hm6
    have hc:(Me a.nx.length fun (i x:Nat)=>if i=q∧x=m then y else (fun (i l:Nat)=>if i < q then Bm a i l else if i=q then (if (l:Int)∈(Ac a.al).take k then Bm a q l else (q:Int)) else 0) i x)=Me a.nx.length fun i l=>if i < q then Bm a i l else if i=q then (if (l:Int)∈(Ac a.al).take (k+1) then Bm a q l else (q:Int)) else 0:=Fu fun i _ l _=>by
     try dsimp only
     rw [List.take_add_one,hl]
     by_cases e:i=q
     ·subst e
      by_cases e2:l=m
      ·subst e2;simp [hgo]
      ·have e3:¬(l:Int)=(m:Int):=by omega
       simp [e2,e3]
     ·simp [e]
    refine aK ?_
    refine aS (aB ?_)
    (repeat first|refine tM rfl ?_ |(refine s4 rfl ‹_› rfl ?_ ?_;omega) |refine aU rfl ?_ |refine Aa ?_)
    refine rG (HW [9]) (by kernel_rfl) ?_
    (repeat first|(refine sM rfl ?_ ?_;first|exact tI|omega) |(refine s4 rfl ‹_› rfl ?_ ?_;omega))
    (refine Ag rfl ?_;refine GN ?_ rfl (by rfl);refine Hc rfl rfl rfl rfl (hg) rfl (hmj) ?_)
    (repeat first|(refine sM rfl ?_ ?_;first|exact tI|omega) |refine aU rfl ?_ |refine Aa ?_)
    refine⟨⟨k+1,by (simp only[oZ] at *;omega)⟩,by dsimp only;((simp only[oZ] at *;omega)),[0],?_⟩
    rw [hs,hc]
    simp[cX,zC,hΓ,Hi]
   ·obtain rfl:k=(Ac a.al).length:=by (simp only[oZ] at *;omega)
    have hc0:=Fu (n:=a.nx.length) (H:=fun i l=>if i < q then Bm a i l else if i=q then (if (l:Int)∈(Ac a.al).take (Ac a.al).length then Bm a q l else (q:Int)) else 0) (H':=fun i l=>if i < q+1 then Bm a i l else 0) fun i _ l hl=>by
     try dsimp only
     rw [List.take_length]
     by_cases e:i=q
     ·subst e
      simp only [Nat.lt_irrefl,if_false,if_true,Nat.lt_succ_self]
      by_cases e2:ET a.al l=true
      ·rw [if_pos (E0.2 ⟨hl,e2⟩)]
      ·rw [if_neg (fun h=>e2 (E0.1 h).2)];unfold Bm;rw [if_neg (by simpa using e2)]
     ·by_cases e2:i < q
      ·rw [if_pos e2,if_pos (by omega)]
      ·rw [if_neg e2,if_neg e,if_neg (by omega)]
    rw [hc0]
    refine aE ?_
    (repeat first|(refine sM rfl ?_ ?_;first|exact tI|omega) |refine aU rfl ?_ |refine Aa ?_)
    refine⟨⟨q+1,by omega⟩,by dsimp only;(omega),[0],?_⟩
    simp[cX,zC,hΓ,Hi]
 ·obtain rfl:q=a.nx.length:=by (simp only[oZ] at *;omega)
  have hc:=Fu (n:=a.nx.length) (H:=fun i l=>if i < a.nx.length then Bm a i l else 0) (H':=fun i l=>Bm a i l) fun i hi l _=>by rw [if_pos hi]
  rw [hc]
  refine aE ?_
  (repeat first|refine tM rfl ?_ |refine aU rfl ?_ |refine Aa ?_)
  refine Ak.freeze [0] [(2,.o (.d (.l (Ey a))))] ⟨⟨_,rfl,.o (.full (by simp) rfl (cm a) (by simp [Yi]))⟩,trivial⟩ ?_
  refine aR ⟨_,rfl,rfl⟩
theorem Gc(a:AN)(h:Ay a=true):Pure Tryz.prog TB 118 [AT a] (.o (.d (.l (Ey a)))):=J9 a (RO h)
end Go.Am
namespace Go.Am
open Go
def Jn:List Int→List (List Int)→List Int
 | _::zs,c::cs=>c.flatMap fun q=>(Jn zs cs).map fun r=>q*AJ zs+r
 | _,_=>[0]
theorem Vt:∀ {zs:List Int} {cs:List (List Int)},EP zs cs→∀out:List Int,FN zs cs out=out.flatMap fun o=>(Jn zs cs).map fun r=>o*AJ zs+r:=by
 intro zs cs h
 induction h with
 | nil=>intro out;simp [FN,Jn,AJ]
 | @cons z c zs cs _ _ _ ih=>
  intro out
  rw [FN,ih,List.flatMap_assoc]
  congr 1
  funext o
  rw [List.flatMap_map,Jn,List.map_flatMap]
  congr 1
  funext q
  rw [List.map_map]
  congr 1
  funext r
  simp only [Function.comp_def,AJ]
  rw [Int.add_mul,Int.mul_assoc];omega
theorem TK{zs:List Int}{cs:List (List Int)}(h:EP zs cs):FN zs cs [0]=Jn zs cs:=by
 rw [Vt h];simp
theorem Jt:∀(zs ws:List Int),AJ (zs++ws)=AJ zs*AJ ws
 | [],ws=>by simp [AJ]
 | z::zs,ws=>by simp [AJ,Jt zs ws,Int.mul_assoc]
theorem OJ:∀(zs ws:List Int) (n:Int),(∀w∈ws,0 < w)→Bx (zs++ws) n=Bx zs (n / AJ ws)++Bx ws n
 | [],ws,n,_=>rfl
 | z::zs,ws,n,h=>by
  have hp:=Ng h
  simp only [List.cons_append,Bx,OJ zs ws n h,Jt]
  rw [Int.mul_comm (AJ zs),Int.ediv_ediv_of_nonneg (by omega)]
def Z3(l:List Sys)(node letter:Int):List (List Int):=l.zipWith (fun s q=>B5 s q letter) (Bx (l.map (·.st)) node)
theorem YU{l:List Sys}(h:∀s∈l,CU s=true)(hl:l.length≤3){letter:Int}(h0:0≤letter)(h1:letter < 6)(node:Int):EP (l.map (·.st)) (Z3 l node letter):=by
 have hn:Dq ⟨l,[],[],0,0,0⟩:=⟨h,fun a ha=>(by cases ha),hl,by simp⟩
 have hz:Ae ⟨l,[],[],0,0,0⟩=l.map (·.st):=by simp [Ae]
 have hf:=Il hn node
 have:=Ii hn hf h0 h1
 rw [hz] at this
 unfold Kg at this
 simpa [Z3] using this
end Go.Am
namespace Go.Am
open Go Go.Proofs
set_option maxHeartbeats 1000000
attribute [local irreducible] AY B2 Lex Bq Ak Spec
variable {TB:Bu}
theorem Ed{P:Program}{Γ:Ctx}{d:Option Tmp}{ty:TypeId}{pos:String}{af:Array Edge}{g:Option (Nat×Bool)}{f:Env}{σ:Ab}{nx:Nat}{t:TypeId}{x:Operand}{c:D}{cs:List D}{n:Nat}[hl:DE P t false n](hx:ev f x=some (.o (.ip cs)))(hc:cs[0]? = some c):AY P TB Γ ⟨d,.load t x,ty,pos,af,g⟩ f σ nx (.o (.d c)):=by
 cases cs with
 | nil=>cases hc
 | cons a l=>injection hc with hc;subst hc;exact Pv hx
theorem dh{es:List JH}{q l:Int}(h0:0≤q∧q < 16)(h1:0≤l∧l < 6):(((Fj es).drop (q.toNat*6)).drop (l.toNat*1))[0]? = some (iD (B3 (Ru es q.toNat l.toNat):Nat)):=by
 rw [List.getElem?_drop,List.getElem?_drop,Hb (by omega)]
 have e1:(q.toNat*6+(l.toNat*1+0)) / 6=q.toNat:=by omega
 have e2:(q.toNat*6+(l.toNat*1+0)) % 6=l.toNat:=by omega
 rw [e1,e2]
end Go.Am
namespace Go.Am
open Go
structure Kn where
 p:Int
 l:Int
 ns:List Int
structure YI where
 seen:List Bool
 fresh:List Int
 found:Bool
def sn(seen:List Bool)(n:Int):Bool:=seen.getD n.toNat false
def PY(goal:Int→Bool)(st:YI)(n:Int):YI:=if sn st.seen n then st else ⟨st.seen.set n.toNat true,st.fresh++[n],st.found || goal n⟩
def Om(goal:Int→Bool)(seen:List Bool)(nodes:List Int):YI:=nodes.foldl (PY goal) ⟨seen,[],false⟩
theorem ZO{seen:List Bool}{n m:Int}(hn:0≤n∧n.toNat < seen.length)(hm:0≤m):sn (seen.set n.toNat true) m=(sn seen m || decide (m=n)):=by
 unfold sn
 by_cases h:m=n
 ·subst h;simp [List.getD,hn.2]
 ·have:n.toNat≠m.toNat:=by omega
  simp [List.getD,List.getElem?_set_ne this,h]
theorem count_set{seen:List Bool}{k:Nat}(h:seen[k]? = some false):(seen.set k true).count true=seen.count true+1:=by
 induction seen generalizing k with
 | nil=>simp at h
 | cons a l ih=>
  cases k with
  | zero=>simp at h;subst h;simp
  | succ k=>
   have:=ih (k:=k) (by simpa using h)
   simp only [List.set_cons_succ,List.count_cons,this];omega
structure ZZ (goal:Int→Bool) (N:Nat) (seen:List Bool) (nodes:List Int) (st:YI):Prop where
 len:st.seen.length=N
 snI:∀n:Int,0≤n→(sn st.seen n=true↔sn seen n=true∨n∈nodes)
 fr:∀n:Int,n∈st.fresh↔n∈nodes∧sn seen n=false
 nd:st.fresh.Nodup
 fd:st.found=st.fresh.any goal
 cnt:st.seen.count true=seen.count true+st.fresh.length
theorem RA{goal:Int→Bool}{N:Nat}{seen:List Bool}{nodes:List Int}(hs:seen.length=N)(hn:∀n∈nodes,0≤n∧n < N):ZZ goal N seen nodes (Om goal seen nodes):=by
 have key : ∀ (l done:List Int) (st:YI),(∀n∈l,0≤n∧n < N)→(∀n∈done,0≤n)→ZZ goal N seen done st→ZZ goal N seen (done++l) (l.foldl (PY goal) st):=by
  intro l
  induction l with
  | nil=>intro done st _ _ h;simpa using h
  | cons a l ih=>
   intro done st hl hd h
   have ha:=hl a (by simp)
   rw [List.foldl_cons,show done++a::l=(done++[a])++l by simp]
   refine ih (done++[a]) _ (fun n hn=>hl n (by simp [hn])) (fun n hn=>by rcases List.mem_append.1 hn with h1|h1;exact hd n h1;simp at h1;omega) ?_
   have hlen:=h.len
   have hmem:∀n:Int,n∈done++[a]↔n∈done∨n=a:=fun n=>by simp
   unfold PY
   by_cases hsa:sn st.seen a=true
   ·rw [if_pos hsa]
    have h1:=(h.snI a ha.1).1 hsa
    refine⟨h.len,fun n hn0=>?_,fun n=>?_,h.nd,h.fd,h.cnt⟩
    ·rw [h.snI n hn0,hmem]
     constructor
     ·rintro(h2|h2);exact .inl h2;exact .inr (.inl h2)
     ·rintro(h2|h2|rfl);exact .inl h2;exact .inr h2;exact h1
    ·rw [h.fr n,hmem]
     constructor
     ·rintro⟨h2,h3⟩;exact⟨.inl h2,h3⟩
     ·rintro⟨h2|rfl,h3⟩
      ·exact⟨h2,h3⟩
      ·rcases h1 with h1|h1
       ·rw [h1] at h3;cases h3
       ·exact⟨h1,h3⟩
   ·rw [if_neg hsa]
    have h1:sn seen a=false∧a∉done:=by
     have h2:¬(sn seen a=true∨a∈done):=fun h3=>hsa ((h.snI a ha.1).2 h3)
     exact⟨by simpa using fun h3=>h2 (.inl h3),fun h3=>h2 (.inr h3)⟩
    have hk:st.seen[a.toNat]? = some false:=by
     unfold sn at hsa
     have:a.toNat < st.seen.length:=by omega
     simp [List.getD,this] at hsa
     rw [List.getElem?_eq_getElem this,hsa]
    refine⟨by simpa using h.len,fun n hn0=>?_,fun n=>?_,?_,?_,?_⟩
    ·rw [ZO ⟨ha.1,by omega⟩ hn0,hmem,Bool.or_eq_true,h.snI n hn0];simp;grind
    ·simp only [List.mem_append,List.mem_singleton,h.fr n]
     grind
    ·refine List.nodup_append.2 ⟨h.nd,by simp,fun x hx y hy=>?_⟩
     simp at hy;subst hy
     intro e;subst e
     exact h1.2 ((h.fr x).1 hx).1
    ·simp [List.any_append,h.fd]
    ·rw [count_set hk,h.cnt];simp;omega
 have:=key nodes [] ⟨seen,[],false⟩ hn (by simp) ⟨hs,fun n _=>by simp,fun n=>by simp,.nil,rfl,by simp⟩
 simpa [Om] using this
theorem MY:∀ {a b c:List Int},P5 a b→P5 b c→P5 a c
 | [],_,_,h,_=>h.elim
 | _::_,[],_,h,_=>h.elim
 | _::_,_::_,[],_,h=>h.elim
 | x::a,y::b,z::c,h,k=>by
  simp only [P5] at *
  rcases h with h|⟨h,h'⟩<;>rcases k with k|⟨k,k'⟩
  ·exact .inl (by omega)
  ·exact .inl (by omega)
  ·exact .inl (by omega)
  ·exact .inr ⟨by omega,MY h' k'⟩
theorem NR:∀ {a:List Int},¬P5 a a
 | [],h=>h
 | x::a,h=>by rcases h with h|⟨_,h⟩;omega;exact NR h
theorem Ee{a b c:List Int}(h:slt a b)(k:slt b c):slt a c:=by
 unfold slt at *
 rcases h with h|⟨h,h'⟩<;>rcases k with k|⟨k,k'⟩
 ·exact .inl (by omega)
 ·exact .inl (by omega)
 ·exact .inl (by omega)
 ·exact .inr ⟨by omega,MY h' k'⟩
theorem IP{a:List Int}:¬slt a a:=by
 rintro(h|⟨_,h⟩);omega;exact NR h
theorem PK(a b:List Int):slt a b∨a=b∨slt b a:=by
 rcases Nat.lt_trichotomy a.length b.length with h|h|h
 ·exact .inl (.inl h)
 ·rcases NS h with h1|h1|h1
  ·exact .inl (.inr ⟨h,h1⟩)
  ·exact .inr (.inl h1)
  ·exact .inr (.inr (.inr ⟨h.symm,h1⟩))
 ·exact .inr (.inr (.inl h))
theorem SH{a b:List Int}{l m:Int}(h:slt a b):slt (a++[l]) (b++[m]):=by
 rcases h with h|⟨h,h'⟩
 ·exact .inl (by simp;omega)
 ·exact .inr ⟨by simp;omega,(GG h).2 (.inl h')⟩
theorem WE{a:List Int}{l m:Int}(h:l < m):slt (a++[l]) (a++[m]):=.inr ⟨by simp,(GG rfl).2 (.inr ⟨rfl,h⟩)⟩
theorem WH{a b:List Int}{l m:Int}:slt (a++[l]) (b++[m])→slt a b∨a=b∧l < m:=by
 intro h
 rcases PK a b with h1|h1|h1
 ·exact .inl h1
 ·subst h1
  rcases h with h|⟨h,h'⟩
  ·simp at h
  ·rcases(GG rfl).1 h' with h2|h2
   ·exact absurd h2 NR
   ·exact .inr h2
 ·exact absurd (Ee h (SH h1)) IP
theorem WG{a:List Int}{l:Int}:slt a (a++[l]):=.inl (by simp)
structure FI (g:Gr) (seen:List Bool) (steps:List Kn) (ws:List (List Int)) (i j:Nat):Prop where
 slen:seen.length=g.N
 wlen:ws.length=steps.length
 chain:∀(t:Nat) s,steps[t]? = some s→(s.p = -1∧ws[t]? = some [])∨∃(q:Nat) (w:List Int),s.p=(q:Int)∧q < t∧ws[q]? = some w∧ws[t]? = some (w++[s.l])∧s.l∈g.ls
 rch:∀(t:Nat) s w,steps[t]? = some s→ws[t]? = some w→∀n∈s.ns,reach g w g.s0 n
 ov:∀w∈ws,over g w
 min:∀(t:Nat) s w,steps[t]? = some s→ws[t]? = some w→∀n∈s.ns,∀u,over g u→slt u w→¬reach g u g.s0 n
 ord:ws.Pairwise slt
 par:∀w∈ws,w=[]∨∃(p:Nat) (v:List Int) (l:Int),ws[p]? = some v∧w=v++[l]∧l∈g.ls∧(p < i∨p=i∧∃j',j' < j∧g.ls[j']? = some l)
 snI:∀n:Int,0≤n→(sn seen n=true↔∃s∈steps,n∈s.ns)
 done:∀(t:Nat) s,steps[t]? = some s→∀l,(t < i∧l∈g.ls∨t=i∧∃j',j' < j∧g.ls[j']? = some l)→∀n∈s.ns,∀y∈g.succ n l,sn seen y=true
 nogoal:∀s∈steps,∀n∈s.ns,g.goal n=false
 inn:∀s∈steps,∀n∈s.ns,0≤n∧n < g.N
 start:sn seen g.s0=true
 cnt:steps.length≤seen.count true
 le:i≤steps.length
 nd:∀s∈steps,s.ns.Nodup
theorem FI.bq{g:Gr}{seen:List Bool}{steps:List Kn}{ws:List (List Int)}{i j:Nat}(h:FI g seen steps ws i j):steps.length≤g.N:=by
 have h1:=h.cnt
 have h2:seen.count true≤seen.length:=List.count_le_length
 rw [h.slen] at h2;omega
theorem FI.Yo{g:Gr}(hg:Gm g){seen:List Bool}{steps:List Kn}{ws:List (List Int)}{i j:Nat}(h:FI g seen steps ws i j){wi:List Int}{lj:Int}(hw:ws[i]? = some wi)(hj:g.ls[j]? = some lj) :
 ∀(n:Nat) (u:List Int),u.length=n→over g u→slt u (wi++[lj])→∀x,reach g u g.s0 x→sn seen x=true:=by
 intro n
 induction n with
 | zero=>
  intro u hu _ _ x hx
  have:u=[]:=List.length_eq_zero_iff.1 hu
  subst this
  have hx:g.s0=x:=hx
  rw [←hx];exact h.start
 | succ n ih=>
  intro u hu ho hlt x hx
  have hu0:u≠[]:=fun e=>by subst e;simp at hu
  obtain⟨v,l,rfl⟩:∃v l,u=v++[l]:=⟨u.dropLast,u.getLast hu0,(List.dropLast_concat_getLast hu0).symm⟩
  obtain⟨m,hm,hxm⟩:=C0.1 hx
  obtain⟨hov,hl⟩:=Ec.1 ho
  have hms:=ih v (by simpa using hu) hov (Ee WG hlt) m hm
  have hmin:=Cy hg hov hg.s0 hm
  obtain⟨s,hs,hms2⟩:=(h.snI m hmin.1).1 hms
  obtain⟨t,ht⟩:=List.getElem?_of_mem hs
  obtain⟨wt,hwt⟩:∃wt,ws[t]? = some wt:=get_some (by have:=(List.getElem?_eq_some_iff.1 ht).1;rw [h.wlen];exact this)
  have hle:¬slt v wt:=fun h1=>h.min t s wt ht hwt m hms2 v hov h1 hm
  have hvi:=WH hlt
  have hti:t≤i:=by
   rcases Nat.lt_or_ge i t with h1|h1
   ·exfalso
    obtain⟨a1,a2⟩:=List.getElem?_eq_some_iff.1 hw
    obtain⟨b1,b2⟩:=List.getElem?_eq_some_iff.1 hwt
    have h2:=(List.pairwise_iff_getElem.1 h.ord) i t a1 b1 h1
    rw [a2,b2] at h2
    rcases PK v wt with h3|h3|h3
    ·exact hle h3
    ·subst h3
     rcases hvi with h4|⟨h4,_⟩
     ·exact IP (Ee h2 h4)
     ·subst h4;exact IP h2
    ·rcases hvi with h4|⟨h4,_⟩
     ·exact IP (Ee (Ee h2 h3) h4)
     ·subst h4;exact IP (Ee h2 h3)
   ·exact h1
  refine h.done t s ht l ?_ m hms2 x hxm
  rcases Nat.lt_or_ge t i with h1|h1
  ·exact .inl ⟨h1,hl⟩
  ·have:t=i:=by omega
   subst this
   rw [hw] at hwt
   injection hwt with hwt
   subst hwt
   rcases hvi with h4|⟨h4,h5⟩
   ·exact absurd h4 hle
   ·obtain⟨j',hj'⟩:=List.getElem?_of_mem hl
    exact .inr ⟨rfl,j',UX hg.srt hj' hj h5,hj'⟩
theorem BH.found{g:Gr}(hg:Gm g){seen:List Bool}{steps:List Kn}{ws:List (List Int)}{i j:Nat}(h:FI g seen steps ws i j){wi:List Int}{lj:Int}(hw:ws[i]? = some wi)(hj:g.ls[j]? = some lj){n x:Int}{s:Kn}(hs:steps[i]? = some s)(hn:n∈s.ns)(hx:x∈g.succ n lj)(hgx:g.goal x=true):BH g (some (wi++[lj])):=by
 have hl:=List.mem_of_getElem? hj
 refine⟨Ec.2 ⟨h.ov wi (List.mem_of_getElem? hw),hl⟩,⟨x,C0.2 ⟨n,h.rch i s wi hs hw n hn,hx⟩,hgx⟩,fun u hu hh hlt=>?_⟩
 obtain⟨y,hy,hgy⟩:=hh
 have hys:=h.Yo hg hw hj u.length u rfl hu hlt y hy
 obtain⟨s',hs',hy'⟩:=(h.snI y (Cy hg hu hg.s0 hy).1).1 hys
 rw [h.nogoal s' hs' y hy'] at hgy;cases hgy
theorem BH.ea{g:Gr}(hg:Gm g){seen:List Bool}{steps:List Kn}{ws:List (List Int)}(h:FI g seen steps ws steps.length 0):BH g none:=by
 have key:∀(n:Nat) (u:List Int),u.length=n→over g u→∀x,reach g u g.s0 x→sn seen x=true:=by
  intro n
  induction n with
  | zero=>
   intro u hu _ x hx
   have:u=[]:=List.length_eq_zero_iff.1 hu
   subst this
   have hx:g.s0=x:=hx
   rw [←hx];exact h.start
  | succ n ih=>
   intro u hu ho x hx
   have hu0:u≠[]:=fun e=>by subst e;simp at hu
   obtain⟨v,l,rfl⟩:∃v l,u=v++[l]:=⟨u.dropLast,u.getLast hu0,(List.dropLast_concat_getLast hu0).symm⟩
   obtain⟨m,hm,hxm⟩:=C0.1 hx
   obtain⟨hov,hl⟩:=Ec.1 ho
   have hms:=ih v (by simpa using hu) hov m hm
   obtain⟨s,hs,hms2⟩:=(h.snI m (Cy hg hov hg.s0 hm).1).1 hms
   obtain⟨t,ht⟩:=List.getElem?_of_mem hs
   exact h.done t s ht l (.inl ⟨(List.getElem?_eq_some_iff.1 ht).1,hl⟩) m hms2 x hxm
 rintro u hu ⟨x,hx,hgx⟩
 have hxs:=key u.length u rfl hu x hx
 obtain⟨s,hs,hxs2⟩:=(h.snI x (Cy hg hu hg.s0 hx).1).1 hxs
 rw [h.nogoal s hs x hxs2] at hgx;cases hgx
theorem FI.bz{g:Gr}{seen:List Bool}{steps:List Kn}{ws:List (List Int)}{i:Nat}(h:FI g seen steps ws i g.ls.length)(hi:i < steps.length):FI g seen steps ws (i+1) 0:=by
 refine⟨h.slen,h.wlen,h.chain,h.rch,h.ov,h.min,h.ord,fun w hw=>?_,h.snI,fun t s hs l hl=>?_,h.nogoal,h.inn,h.start,h.cnt,by omega,h.nd⟩
 ·rcases h.par w hw with h1|⟨p,v,l,h1,h2,h3,h4⟩
  ·exact .inl h1
  ·exact .inr ⟨p,v,l,h1,h2,h3,.inl (by rcases h4 with h4|⟨h4,_⟩<;>omega)⟩
 ·refine h.done t s hs l ?_
  rcases hl with ⟨h1,h2⟩|⟨_,j',h1,_⟩
  ·rcases Nat.lt_or_ge t i with h3|h3
   ·exact .inl ⟨h3,h2⟩
   ·obtain⟨j',hj'⟩:=List.getElem?_of_mem h2
    exact .inr ⟨by omega,j',(List.getElem?_eq_some_iff.1 hj').1,hj'⟩
  ·omega
def Dh(steps:List Kn)(p l:Int)(fresh:List Int):List Kn:=if fresh=[] then steps else steps++[⟨p,l,fresh⟩]
def dF(ws:List (List Int))(w fresh:List Int):List (List Int):=if fresh=[] then ws else ws++[w]
structure Chain (ls:List Int) (steps:List Kn) (ws:List (List Int)):Prop where
 wlen:ws.length=steps.length
 chain:∀(t:Nat) s,steps[t]? = some s→(s.p = -1∧ws[t]? = some [])∨∃(q:Nat) (w:List Int),s.p=(q:Int)∧q < t∧ws[q]? = some w∧ws[t]? = some (w++[s.l])∧s.l∈ls
theorem EI{α:Type}{l:List α}{x y:α}{t:Nat}(h:(l++[x])[t]? = some y):l[t]? = some y∨t=l.length∧y=x:=by
 rcases Nat.lt_or_ge t l.length with h1|h1
 ·rw [List.getElem?_append_left h1] at h;exact .inl h
 ·rw [List.getElem?_append_right h1] at h
  have h2:=(List.getElem?_eq_some_iff.1 h).1
  simp at h2
  have:t=l.length:=by omega
  subst this
  simp at h
  exact .inr ⟨rfl,h.symm⟩
theorem G0{α:Type}{l:List α}{x y:α}{t:Nat}(h:l[t]? = some y):(l++[x])[t]? = some y:=by
 rw [List.getElem?_append_left (List.getElem?_eq_some_iff.1 h).1];exact h
theorem Chain.app{ls:List Int}{steps:List Kn}{ws:List (List Int)}(h:Chain ls steps ws){i:Nat}{wi:List Int}{l:Int}{ns:List Int}(hw:ws[i]? = some wi)(hl:l∈ls):Chain ls (steps++[⟨i,l,ns⟩]) (ws++[wi++[l]]):=by
 have hi:=(List.getElem?_eq_some_iff.1 hw).1
 refine⟨by simp [h.wlen],fun t s hs=>?_⟩
 rcases EI hs with h1|⟨h1,h2⟩
 ·rcases h.chain t s h1 with ⟨h2,h3⟩|⟨q,w,h2,h3,h4,h5,h6⟩
  ·exact .inl ⟨h2,G0 h3⟩
  ·exact .inr ⟨q,w,h2,h3,G0 h4,G0 h5,h6⟩
 ·subst h2
  refine .inr ⟨i,wi,rfl,?_,G0 hw,?_,hl⟩
  ·rw [h1,←h.wlen];exact hi
  ·rw [h1,←h.wlen];simp
theorem FI.SS{g:Gr}{seen:List Bool}{steps:List Kn}{ws:List (List Int)}{i j:Nat}(h:FI g seen steps ws i j):Chain g.ls steps ws:=⟨h.wlen,h.chain⟩
theorem FI.visit{g:Gr}(hg:Gm g){seen:List Bool}{steps:List Kn}{ws:List (List Int)}{i j:Nat}(h:FI g seen steps ws i j){wi:List Int}{lj:Int}(hw:ws[i]? = some wi)(hj:g.ls[j]? = some lj){s:Kn}(hs:steps[i]? = some s)
 {R:List Int} (hR:∀y,y∈R↔∃n∈s.ns,y∈g.succ n lj) {st:YI} (hv:ZZ g.goal g.N seen R st) (hf:st.found=false):FI g st.seen (Dh steps i lj st.fresh) (dF ws (wi++[lj]) st.fresh) i (j+1):=by
 have hl:=List.mem_of_getElem? hj
 have hRin:∀y∈R,0≤y∧y < g.N:=fun y hy=>by
  obtain⟨n,hn,hy⟩:=(hR y).1 hy
  exact hg.inn n (h.inn s (List.mem_of_getElem? hs) n hn) lj hl y hy
 have hmono:∀n:Int,0≤n→sn seen n=true→sn st.seen n=true:=fun n hn hx=>(hv.snI n hn).2 (.inl hx)
 have hnog:∀n∈st.fresh,g.goal n=false:=fun n hn=>by
  have:=hv.fd
  rw [hf] at this
  have h2:=List.any_eq_false.1 this.symm n hn
  simpa using h2
 have hpar:∀w∈ws,w=[]∨∃(p:Nat) (v:List Int) (l:Int),ws[p]? = some v∧w=v++[l]∧l∈g.ls∧(p < i∨p=i∧∃j',j' < j+1∧g.ls[j']? = some l):=fun w hw=>by
  rcases h.par w hw with h1|⟨p,v,l,h1,h2,h3,h4⟩
  ·exact .inl h1
  ·refine .inr ⟨p,v,l,h1,h2,h3,?_⟩
   rcases h4 with h4|⟨h4,j',h5,h6⟩
   ·exact .inl h4
   ·exact .inr ⟨h4,j',by omega,h6⟩
 have hdone:∀(t:Nat) s',steps[t]? = some s'→∀l,(t < i∧l∈g.ls∨t=i∧∃j',j' < j+1∧g.ls[j']? = some l)→∀n∈s'.ns,∀y∈g.succ n l,sn st.seen y=true:=by
  intro t s' hs' l hl' n hn y hy
  have hyin:0≤y∧y < g.N:=by
   refine hg.inn n (h.inn s' (List.mem_of_getElem? hs') n hn) l ?_ y hy
   rcases hl' with ⟨_,h1⟩|⟨_,j',_,h1⟩
   ·exact h1
   ·exact List.mem_of_getElem? h1
  rcases hl' with h1|⟨h1,j',h2,h3⟩
  ·exact hmono y hyin.1 (h.done t s' hs' l (.inl h1) n hn y hy)
  ·subst h1
   rcases Nat.lt_succ_iff_lt_or_eq.1 h2 with h4|h4
   ·exact hmono y hyin.1 (h.done t s' hs' l (.inr ⟨rfl,j',h4,h3⟩) n hn y hy)
   ·subst h4
    rw [hj] at h3
    injection h3 with h3
    subst h3
    rw [hs] at hs'
    injection hs' with hs'
    subst hs'
    exact(hv.snI y hyin.1).2 (.inr ((hR y).2 ⟨n,hn,hy⟩))
 unfold Dh dF
 by_cases hfr:st.fresh=[]
 ·rw [if_pos hfr,if_pos hfr]
  have hsame:∀n:Int,0≤n→(sn st.seen n=true↔sn seen n=true):=fun n hn=>by
   rw [hv.snI n hn]
   refine⟨fun h1=>?_,.inl⟩
   rcases h1 with h1|h1
   ·exact h1
   ·rcases Bool.eq_false_or_eq_true (sn seen n) with h2|h2
    ·exact h2
    ·have:=(hv.fr n).2 ⟨h1,h2⟩
     rw [hfr] at this;cases this
  refine⟨hv.len,h.wlen,h.chain,h.rch,h.ov,h.min,h.ord,hpar,fun n hn=>by rw [hsame n hn];exact h.snI n hn,hdone,h.nogoal,h.inn,hmono _ hg.s0.1 h.start,?_,h.le,h.nd⟩
  rw [hv.cnt,hfr];exact h.cnt
 ·rw [if_neg hfr,if_neg hfr]
  have hch:=h.SS.app (ns:=st.fresh) hw hl
  have hnew:∀n∈st.fresh,n∈R∧sn seen n=false:=fun n hn=>(hv.fr n).1 hn
  have hbig:∀w∈ws,slt w (wi++[lj]):=by
   intro w hww
   rcases h.par w hww with rfl|⟨p,v,l,h1,rfl,h3,h4⟩
   ·exact .inl (by simp)
   ·rcases h4 with h4|⟨h4,j',h5,h6⟩
    ·obtain⟨a1,a2⟩:=List.getElem?_eq_some_iff.1 h1
     obtain⟨b1,b2⟩:=List.getElem?_eq_some_iff.1 hw
     have h7:=(List.pairwise_iff_getElem.1 h.ord) p i a1 b1 h4
     rw [a2,b2] at h7
     exact SH h7
    ·subst h4
     rw [hw] at h1
     injection h1 with h1
     subst h1
     obtain⟨a1,a2⟩:=List.getElem?_eq_some_iff.1 h6
     obtain⟨b1,b2⟩:=List.getElem?_eq_some_iff.1 hj
     have h7:=(List.pairwise_iff_getElem.1 hg.srt) j' j a1 b1 h5
     rw [a2,b2] at h7
     exact WE h7
  have hmemR:∀n∈st.fresh,∃m∈s.ns,n∈g.succ m lj:=fun n hn=>(hR n).1 (hnew n hn).1
  refine⟨hv.len,hch.wlen,hch.chain,fun t s' w hs' hw' n hn=>?_,fun w hww=>?_,fun t s' w hs' hw' n hn u hu hlt hr=>?_,?_,fun w hww=>?_,fun n hn=>?_,fun t s' hs' l hl' n hn y hy=>?_,fun s' hs' n hn=>?_,fun s' hs' n hn=>?_,hmono _ hg.s0.1 h.start,?_,?_,fun s' hs'=>?_⟩
  ·rcases EI hs' with h1|⟨h1,h2⟩
   ·rcases EI hw' with h3|⟨h3,h4⟩
    ·exact h.rch t s' w h1 h3 n hn
    ·have:=(List.getElem?_eq_some_iff.1 h1).1
     rw [h.wlen] at h3;omega
   ·subst h2
    rcases EI hw' with h3|⟨h3,h4⟩
    ·have:=(List.getElem?_eq_some_iff.1 h3).1
     rw [h.wlen] at this;omega
    ·subst h4
     obtain⟨m,hm,hnm⟩:=hmemR n hn
     exact C0.2 ⟨m,h.rch i s wi hs hw m hm,hnm⟩
  ·rcases List.mem_append.1 hww with h1|h1
   ·exact h.ov w h1
   ·simp at h1;subst h1
    exact Ec.2 ⟨h.ov wi (List.mem_of_getElem? hw),hl⟩
  ·rcases EI hs' with h1|⟨h1,h2⟩
   ·rcases EI hw' with h3|⟨h3,h4⟩
    ·exact h.min t s' w h1 h3 n hn u hu hlt hr
    ·have:=(List.getElem?_eq_some_iff.1 h1).1
     rw [h.wlen] at h3;omega
   ·subst h2
    rcases EI hw' with h3|⟨h3,h4⟩
    ·have:=(List.getElem?_eq_some_iff.1 h3).1
     rw [h.wlen] at this;omega
    ·subst h4
     have:=h.Yo hg hw hj u.length u rfl hu hlt n hr
     rw [(hnew n hn).2] at this;cases this
  ·refine List.pairwise_append.2 ⟨h.ord,by simp,fun a ha b hb=>?_⟩
   simp at hb;subst hb
   exact hbig a ha
  ·rcases List.mem_append.1 hww with h1|h1
   ·rcases hpar w h1 with h2|⟨p,v,l,h2,h3,h4,h5⟩
    ·exact .inl h2
    ·exact .inr ⟨p,v,l,G0 h2,h3,h4,h5⟩
   ·simp at h1;subst h1
    exact .inr ⟨i,wi,lj,G0 hw,rfl,hl,.inr ⟨rfl,j,by omega,hj⟩⟩
  ·rw [hv.snI n hn,h.snI n hn]
   constructor
   ·rintro(⟨s',hs',hns⟩|hnR)
    ·exact⟨s',List.mem_append_left _ hs',hns⟩
    ·rcases Bool.eq_false_or_eq_true (sn seen n) with h2|h2
     ·obtain⟨s',hs',hns⟩:=(h.snI n hn).1 h2
      exact⟨s',List.mem_append_left _ hs',hns⟩
     ·exact⟨⟨i,lj,st.fresh⟩,List.mem_append_right _ (by simp),(hv.fr n).2 ⟨hnR,h2⟩⟩
   ·rintro⟨s',hs',hns⟩
    rcases List.mem_append.1 hs' with h1|h1
    ·exact .inl ⟨s',h1,hns⟩
    ·simp at h1;subst h1
     exact .inr (hnew n hns).1
  ·rcases EI hs' with h1|⟨h1,h2⟩
   ·exact hdone t s' h1 l hl' n hn y hy
   ·have:=(List.getElem?_eq_some_iff.1 hs).1
    rcases hl' with ⟨h3,_⟩|⟨h3,_⟩<;>omega
  ·rcases List.mem_append.1 hs' with h1|h1
   ·exact h.nogoal s' h1 n hn
   ·simp at h1;subst h1;exact hnog n hn
  ·rcases List.mem_append.1 hs' with h1|h1
   ·exact h.inn s' h1 n hn
   ·simp at h1;subst h1;exact hRin n (hnew n hn).1
  ·have h1:=hv.cnt
   have h2:=h.cnt
   have h3:0 < st.fresh.length:=List.length_pos_iff.2 hfr
   simp;omega
  ·have:=h.le;simp;omega
  ·rcases List.mem_append.1 hs' with h1|h1
   ·exact h.nd s' h1
   ·simp at h1;subst h1;exact hv.nd
theorem FI.init{g:Gr}(hg:Gm g){st:YI}(hv:ZZ g.goal g.N (List.replicate g.N false) [g.s0] st)(hf:st.found=false):st.fresh=[g.s0]∧FI g st.seen [⟨-1,0,[g.s0]⟩] [[]] 0 0:=by
 have hno:∀n,sn (List.replicate g.N false) n=false:=fun n=>by
  unfold sn
  by_cases h:n.toNat < g.N<;>simp [List.getD,h]
 have hmem:∀n,n∈st.fresh↔n=g.s0:=fun n=>by rw [hv.fr n];simp [hno]
 have hfr:st.fresh=[g.s0]:=by
  have h1:=hv.nd
  generalize st.fresh=l at hmem h1
  cases l with
  | nil=>have:=(hmem g.s0).2 rfl;cases this
  | cons a l=>
   have ha:=(hmem a).1 (by simp)
   subst ha
   cases l with
   | nil=>rfl
   | cons b l=>
    have hb:=(hmem b).1 (by simp)
    subst hb
    simp at h1
 refine⟨hfr,?_⟩
 have hng:g.goal g.s0=false:=by
  have:=hv.fd
  rw [hf,hfr] at this
  simpa using this.symm
 have one:∀(t:Nat) (s:Kn),[(⟨-1,0,[g.s0]⟩:Kn)][t]? = some s→t=0∧s=⟨-1,0,[g.s0]⟩:=fun t s h=>by
  cases t with
  | zero=>simp at h;exact⟨rfl,h.symm⟩
  | succ t=>simp at h
 have one':∀(t:Nat) (w:List Int),[([]:List Int)][t]? = some w→w=[]:=fun t w h=>by
  cases t with
  | zero=>exact(Option.some.inj h).symm
  | succ t=>simp at h
 refine⟨hv.len,rfl,fun t s hs=>?_,fun t s w hs hw n hn=>?_,fun w hw=>?_,fun t s w hs hw n hn u _ hlt=>?_,by simp,fun w hw=>by simp at hw;exact .inl hw,fun n hn=>?_,fun t s hs l hl n hn y hy=>?_,fun s hs n hn=>?_,fun s hs n hn=>?_,?_,?_,by simp,fun s hs=>?_⟩
 ·obtain⟨rfl,rfl⟩:=one t s hs;exact .inl ⟨rfl,rfl⟩
 ·obtain⟨rfl,rfl⟩:=one t s hs
  have:=one' 0 w hw
  subst this
  simp at hn;subst hn;exact(rfl:g.s0=g.s0)
 ·simp at hw;subst hw;exact fun l hl=>(by cases hl)
 ·have:=one' t w hw
  subst this
  rcases hlt with h1|⟨_,h1⟩
  ·simp at h1
  ·cases u<;>exact h1.elim
 ·rw [hv.snI n hn];simp [hno]
 ·rcases hl with ⟨h1,_⟩|⟨_,j',h1,_⟩<;>omega
 ·simp at hs;subst hs;simp at hn;subst hn;exact hng
 ·simp at hs;subst hs;simp at hn;subst hn;exact hg.s0
 ·exact(hv.snI _ hg.s0.1).2 (.inr (by simp))
 ·rw [hv.cnt,hfr];simp
 ·simp at hs;subst hs;simp
theorem BH.start{g:Gr}(h:g.goal g.s0=true):BH g (some []):=
 ⟨fun l hl=>(by cases hl),⟨g.s0,rfl,h⟩,fun u _ _ hlt=>by rcases hlt with h1|⟨_,h1⟩;(simp at h1);(cases u<;>exact h1.elim)⟩
end Go.Am
namespace Go.Am
open Go Go.Proofs
set_option maxHeartbeats 1000000
attribute [local irreducible] AY B2 Lex Bq Ak Spec
variable {TB:Bu}
def Df(bs:List UInt8)(k i:Nat):UInt8:=if i < k∨bs.length≤i+k then bs.getD (bs.length - 1 - i) 0 else bs.getD i 0
theorem ZK(bs:List UInt8):(Bl bs.length fun i=>El (Df bs 0 i))=bs.map El:=by
 apply List.ext_getElem?
 intro i
 by_cases hi:i < bs.length
 ·rw [CG (g:=fun i=>El (Df bs 0 i)) hi]
  unfold Df
  rw [if_neg (by omega)]
  simp [List.getD,hi]
 ·rw [List.getElem?_eq_none (by simp [Bl];omega),List.getElem?_eq_none (by simp;omega)]
theorem Wx(bs:List UInt8){k:Nat}(hk:bs.length≤2*k+1):(Bl bs.length fun i=>El (Df bs k i))=bs.reverse.map El:=by
 apply List.ext_getElem?
 intro i
 by_cases hi:i < bs.length
 ·rw [CG (g:=fun i=>El (Df bs k i)) hi]
  unfold Df
  have h1:bs.reverse[i]? = some (bs.getD (bs.length - 1 - i) 0):=by
   rw [List.getElem?_reverse hi]
   have:bs.length - 1 - i < bs.length:=by omega
   simp [List.getD,this]
  rw [List.getElem?_map,h1]
  by_cases h2:i < k∨bs.length≤i+k
  ·rw [if_pos h2];rfl
  ·rw [if_neg h2]
   have:bs.length - 1 - i=i:=by omega
   rw [this];rfl
 ·rw [List.getElem?_eq_none (by simp [Bl];omega),List.getElem?_eq_none (by simp;omega)]
theorem XX(r:Nat→Nat)(l:List UInt8):(l.map El).map (C.Bz r)=l.map El:=by
 rw [List.map_map];exact List.map_congr_left fun c _=>rfl
theorem IM(r:Nat→Nat)(c:UInt8):C.Bz r (El c)=El c:=rfl
theorem LJ(r:Nat→Nat)(n:Nat)(H:Nat→UInt8):(Bl n fun i=>El (H i)).map (C.Bz r)=Bl n fun i=>El (H i):=by
 unfold Bl
 rw [List.map_map]
 exact List.map_congr_left fun i _=>rfl
theorem Ip{n q:Nat}{H:Nat→UInt8}(h:q < n):(Bl n fun i=>El (H i))[0+((q:Nat):Int).toNat]? = some (El (H q)):=by
 rw [Nat.zero_add,Int.toNat_natCast];exact CG (g:=fun i=>El (H i)) h
theorem KF{n q:Nat}{H:Nat→UInt8}{c d:UInt8}:(Bl n fun i=>El (H i)).set (0+((q:Nat):Int).toNat) (Aj (El d) 0 (eC (eI .u8 (c.toNat:Nat))))=Bl n fun i=>El (if i=q then c else H i):=by
 rw [Nat.zero_add,Int.toNat_natCast]
 have e:Aj (El d) 0 (eC (eI .u8 (c.toNat:Nat)))=El c:=rfl
 rw [e,Jw]
 refine B4 fun i _=>?_
 by_cases h:i=q<;>simp [h]
theorem QU(bs:List UInt8)(hb:bs.length≤1099511627776):Spec Tryz.prog TB 263 [(0,.cells 5 1 (bs.map El))] 1 [.o (.arr 0 1 0 bs.length)] (fun x σ nx=>x=.t []∧nx=1∧σ=[(0,.cells 5 1 (bs.reverse.map El))]):=by
 refine eN Tryz.func263 rfl (by kernel_rfl) rfl ?_;intro Γ hΓ
 (repeat first|(refine sM rfl ?_ ?_;first|exact tI|omega) |refine aU rfl ?_ |refine Aa ?_)
 refine aB ?_
 refine Ak.AZ (α:={k:Nat // k≤bs.length}) (fun ⟨k,hk⟩=>[(0,.o (.arr 0 1 0 bs.length)),(2,eI .i64 k),(3,eI .i64 ((bs.length:Int) - 1 - k))]) (fun ⟨k,hk⟩=>[(0,.cells 5 1 (Bl bs.length fun i=>El (Df bs k i)))]) 1 (fun ⟨k,hk⟩=>bs.length - k) (⟨0,by omega⟩) [0] (DB hΓ rfl rfl) (by (simp[cX,zC,hΓ,LJ,ZK,IM])) ?_;rintro⟨k,hk⟩;(try dsimp only)
 (repeat first|refine tM rfl ?_ |refine s2 rfl fun _ _hb=>?_ |refine aU rfl ?_ |refine Aa ?_)
 (refine aC rfl ?_ ?_<;>rintro⟨⟩)
 ·have hlt:2*k+1 < bs.length:=by (simp only[oZ] at *;omega)
  obtain⟨m,hm⟩:∃m:Nat,m=bs.length - 1 - k:=⟨_,rfl⟩
  have e3:(bs.length:Int) - 1 - k=((m:Nat):Int):=by omega
  have hk1:Df bs k k=bs.getD k 0:=by unfold Df;rw [if_neg (by omega)]
  have hm1:Df bs k m=bs.getD m 0:=by unfold Df;rw [if_neg (by omega)]
  have hgk:=Ip (H:=Df bs k) (q:=k) (n:=bs.length) (by omega)
  have hgm:=Ip (H:=Df bs k) (q:=m) (n:=bs.length) (by omega)
  have hs1:=KF (n:=bs.length) (q:=k) (H:=Df bs k) (c:=Df bs k m) (d:=Df bs k k)
  have hgm2:=Ip (H:=fun i=>if i=k then Df bs k m else Df bs k i) (q:=m) (n:=bs.length) (by omega)
  have hs2:=KF (n:=bs.length) (q:=m) (H:=fun i=>if i=k then Df bs k m else Df bs k i) (c:=Df bs k k) (d:=Df bs k m)
  have hmk:m≠k:=by omega
  rw [if_neg hmk] at hgm2
  have hc:(Bl bs.length fun i=>El (if i=m then Df bs k k else if i=k then Df bs k m else Df bs k i))=Bl bs.length fun i=>El (Df bs (k+1) i):=B4 fun i hi=>by
   congr 1
   by_cases h1:i=m
   ·subst h1;rw [if_pos rfl,hk1];unfold Df;rw [if_pos (by omega)];congr 1;omega
   ·rw [if_neg h1]
    by_cases h2:i=k
    ·subst h2;rw [if_pos rfl,hm1];unfold Df;rw [if_pos (by omega)];congr 1
    ·rw [if_neg h2];unfold Df
     by_cases h3:i < k∨bs.length≤i+k
     ·rw [if_pos h3,if_pos (by omega)]
     ·rw [if_neg h3,if_neg (by omega)]
  rw [←hs1] at hgm2
  rw [e3]
  refine aK ?_
  refine aS (aB ?_)
  refine rG (eb [13,15] [2,3]) (by kernel_rfl) ?_
  (repeat first|(refine sM rfl ?_ ?_;first|exact tI|omega) |refine t4 rfl ‹_› rfl ?_ |refine aU rfl ?_ |refine Aa ?_)
  refine⟨⟨k+1,by omega⟩,by dsimp only;(omega),[0],?_⟩
  rw [hs1,hs2,hc]
  have e4:(m:Int) - 1=bs.length - 1 - (k+1):=by omega
  simp[cX,zC,hΓ,LJ,e4]
 ·have hle:bs.length≤2*k+1:=by (simp only[oZ] at *;omega)
  rw [Wx bs hle]
  exact aE ⟨_,rfl,rfl,rfl,rfl⟩
abbrev YB(s:Kn):List D:=[iD s.p,iD s.l,CO s.ns]
abbrev LU(s:Kn):List C:=[.d (iD s.p),.d (iD s.l),.d (CO s.ns)]
abbrev WJ(l:List Kn):D:=.l (l.map YB)
theorem TF{l:Int}(h0:0≤l)(h1:l < 6):El (UInt8.ofNat (97+l.toNat))=[.d (.v (.int .u8 (97+l)))]:=by
 have h2:(97+l.toNat) % 256=97+l.toNat:=Nat.mod_eq_of_lt (by omega)
 have h3:(97+l:Int)=((97+l.toNat:Nat):Int):=by omega
 simp [El,h2,h3]
theorem Yj(o:List Int):(CM o).reverse=CM o.reverse:=by simp [CM]
theorem Pq{ls:List Int}{steps:List Kn}{ws:List (List Int)}(h:Chain ls steps ws)(hls:∀l∈ls,0≤l∧l < 6){w:List Int}(hlen:1≤steps.length∧steps.length≤2097152)(hw:ws[steps.length - 1]? = some w):Pure Tryz.prog TB 237 [.o (.d (WJ steps))] (eT (CM w)):=by
 refine eN Tryz.func237 rfl (by kernel_rfl) rfl ?_;intro Γ hΓ
 (repeat first|refine tM rfl ?_ |refine aU rfl ?_ |refine Aa ?_)
 (refine pW rfl ?_ rfl (by rfl);refine IB 1 5 ?_)
 (repeat first|refine sN rfl ?_ |(refine sM rfl ?_ ?_;first|exact tI|omega) |refine aU rfl ?_ |refine Aa ?_)
 refine aB ?_
 refine Ak.AZ (α:={x:Nat×List Int // x.1+x.2.length < steps.length∧∃v,ws[x.1]? = some v∧w=v++x.2.reverse}) (fun ⟨⟨i,o⟩,hP⟩=>[(0,.o (.d (WJ steps))),(3,.o (.arr 0 1 0 o.length)),(4,eI .i64 i)]) (fun ⟨⟨i,o⟩,hP⟩=>[(0,.cells 5 1 ((CM o).map El))]) 1 (fun ⟨⟨i,o⟩,hP⟩=>i) (⟨(steps.length - 1,[]),by simp;omega,w,hw,by simp⟩) [0] (DB hΓ rfl rfl) (by (simp[cX,zC,hΓ,CM,Int.ofNat_sub,hlen.1])) ?_;rintro⟨⟨i,o⟩,hP⟩;(try dsimp only)
 obtain⟨hi,v,hv,hwv⟩:=hP
 simp only at hi hv hwv
 obtain⟨s,hs⟩:=get_some (l:=steps) (k:=i) (by omega)
 have hs':=get_map (g:=YB) hs
 have hch:=h.chain i s hs
 have htl:(CM o).length=o.length:=by simp [CM]
 (repeat first|refine tM rfl ?_ |(refine s4 rfl ‹_› rfl ?_ ?_;omega) |refine s2 rfl fun _ _hb=>?_ |refine aU rfl ?_ |refine Aa ?_)
 (refine aC rfl ?_ ?_<;>rintro⟨⟩)
 ·obtain⟨q,u,hq,hqi,hqu,hu,hl⟩:∃(q:Nat) (u:List Int),s.p=(q:Int)∧q < i∧ws[q]? = some u∧ws[i]? = some (u++[s.l])∧s.l∈ls:=by
   rcases hch with ⟨h1,_⟩|h1
   ·exfalso;(simp only[oZ] at *;omega)
   ·exact h1
  have hlb:=hls _ hl
  rw [hv] at hu
  injection hu with hu
  have hby:=TF hlb.1 hlb.2
  have htx:CM (o++[s.l])=CM o++[UInt8.ofNat (97+s.l.toNat)]:=by simp [CM]
  have htx2:(CM (o++[s.l])).map El=(CM o).map El++[[.d (.v (.int .u8 (97+s.l)))]]:=by rw [htx,List.map_append,List.map_cons,hby];rfl
  refine aK ?_
  refine aS (aB ?_)
  (repeat first|refine tA rfl ?_ |(refine s4 rfl ‹_› rfl ?_ ?_;omega) |refine sP rfl (EY s.l hlb.1 (by omega)) rfl ?_ |refine aU rfl ?_)
  (refine pW rfl ?_ rfl (by rfl);refine Aw rfl rfl rfl (by first| (simp;done)|(simp;(omega))) rfl (by intro r hr;simp at hr;subst hr;rfl) (by rfl) (Nat.le_of_ble_eq_true rfl) (by simp;omega) ?_)
  (repeat first|refine tX rfl ?_ |(refine s4 rfl ‹_› rfl ?_ ?_;omega) |refine aU rfl ?_ |refine Aa ?_)
  refine⟨⟨(q,o++[s.l]),by simp;omega,u,hqu,by rw [hwv,hu];simp⟩,by dsimp only;omega,[1],?_⟩
  dsimp only
  rw [htx2]
  simp[cX,zC,hΓ,hq,IM]
 ·have hv0:v=[]:=by
   rcases hch with ⟨_,h1⟩|⟨q,u,h1,_⟩
   ·rw [hv] at h1;injection h1
   ·exfalso;(simp only[oZ] at *;omega)
  subst hv0
  have hwo:w=o.reverse:=by rw [hwv];rfl
  have hrv:=QU (TB:=TB) (CM o) (by omega)
  rw [htl,Yj,←hwo] at hrv
  refine aE ?_
  (repeat first|refine tM rfl ?_ |refine aU rfl ?_)
  (refine pW rfl ?_ rfl (by rfl);refine AD [0] rfl rfl hrv ⟨rfl,by simp,by simp⟩ rfl (by simp[cX,zC,hΓ,IM]) ?_;rintro x0 σ1 nx1 ⟨rfl,rfl,rfl⟩ _)
  have htw:(CM w).length=o.length:=by rw [hwo];simp [CM]
  (repeat first|refine tM rfl ?_|(refine Ag rfl ?_;refine gA rfl ?_;first| refine gQ (Sw (CM w) rfl rfl (by simp;omega) (by rw [List.drop_zero,XX,List.take_of_length_le (by simp;omega)])) (by rfl) ?_) |refine aU rfl ?_ |refine Aa ?_)
  refine aR ⟨_,rfl,rfl⟩
theorem YK(p:Nat→Prop):(∀i,i < 5→p i)↔p 0∧p 1∧p 2∧p 3∧p 4:=by
 constructor
 ·intro h;exact⟨h 0 (by omega),h 1 (by omega),h 2 (by omega),h 3 (by omega),h 4 (by omega)⟩
 ·rintro⟨h0,h1,h2,h3,h4⟩ i hi
  have:i=0∨i=1∨i=2∨i=3∨i=4:=by omega
  rcases this with rfl|rfl|rfl|rfl|rfl<;>assumption
theorem WV{goal:Int→Bool}{seen:List Bool}{nodes:List Int}{k:Nat}{x:Int}(h:nodes[k]? = some x):Om goal seen (nodes.take (k+1))=PY goal (Om goal seen (nodes.take k)) x:=by
 unfold Om;rw [HG h]
theorem PI{l:List Bool}{n:Int}:(l.map AQ).set (0+n.toNat) (Aj (AQ false) 0 (eC (eB true)))=(l.set n.toNat true).map AQ:=by
 simp [Aj,eC,List.map_set]
abbrev DN(N:Nat)(gG:FuncId)(capsG:List C)(seen:List Bool)(q:Nat)(steps:List Kn):Ab:=
 [(0,.cells 23 1 [[.arr 1 1 0 N]]),(1,.cells 4 1 (seen.map AQ)),(2,.cells 134 1 [[.fn gG capsG]]),(3,.cells 236 1 [[.arr q 3 0 steps.length]]),(q,.cells 238 3 (steps.map LU))]
theorem PX{goal:Int→Bool}{gG:FuncId}{capsG:List C}{N:Nat}(hG:∀n:Int,0≤n∧n < N→Pure Tryz.prog TB gG ([eI .i64 n]++capsG.map .o) (eB (goal n)))(hcG:C.CE capsG=true)(hren:∀r,C.Bz r capsG=capsG)
 (seen:List Bool) (steps:List Kn) (p l:Int) (nodes:List Int) (hs:seen.length=N) (hN:N≤1048576) (hst:steps.length≤1048576) (hn:∀n∈nodes,0≤n∧n < N) :
 Spec Tryz.prog TB 236 (DN N gG capsG seen 4 steps) 5 [eI .i64 p,eI .i64 l,Ai nodes,.o (.ptr 0 1 0 0),.o (.ptr 2 1 0 0),.o (.ptr 3 1 0 0)]
  (fun x σ nx=>x=eB (Om goal seen nodes).found∧∃q,(q=4∧nx=5∨q=5∧nx=6)∧σ=DN N gG capsG (Om goal seen nodes).seen q (Dh steps p l (Om goal seen nodes).fresh)):=by
 have hvk:∀k,ZZ goal N seen (nodes.take k) (Om goal seen (nodes.take k)):=fun k=>RA hs fun n hn'=>hn n (List.mem_of_mem_take hn')
 refine eN Tryz.func236 rfl (by kernel_rfl) rfl ?_;intro Γ hΓ
 refine Ak.bound 2 rfl fun hB0=>?_
 have hB:=hB0 _ .refl
 rw [List.length_map] at hB
 (repeat first|refine tM rfl ?_ |refine aU rfl ?_ |refine Aa ?_)
 (refine pW rfl ?_ rfl (by rfl);refine IB 1 3 ?_)
 (repeat first|refine sN rfl ?_ |refine tM rfl ?_ |refine aU rfl ?_ |refine Aa ?_)
 refine aB ?_
 refine Ak.AZ (α:={k:Nat // k≤nodes.length}) (fun ⟨k,hk⟩=>[(0,eI .i64 p),(1,eI .i64 l),(3,.o (.ptr 0 1 0 0)),(4,.o (.ptr 2 1 0 0)),(5,.o (.ptr 3 1 0 0)),(10,.o (.arr 5 1 0 (Om goal seen (nodes.take k)).fresh.length)),(11,eB (Om goal seen (nodes.take k)).found),(14,Ai nodes),(15,eI .i64 nodes.length),(16,eI .i64 k)]) (fun ⟨k,hk⟩=>DN N gG capsG (Om goal seen (nodes.take k)).seen 4 steps++[(5,.cells 3 1 ((Om goal seen (nodes.take k)).fresh.map AB))]) 6 (fun ⟨k,hk⟩=>nodes.length - k) (⟨0,by omega⟩) [0,1,2,3,4,5] (DB hΓ rfl rfl) (by (simp[cX,zC,hΓ,DN,Om,hren])) ?_;rintro⟨k,hk⟩;(try dsimp only)
 have hv:=hvk k
 have hvs:=fun x=>WV (goal:=goal) (seen:=seen) (nodes:=nodes) (k:=k) (x:=x)
 generalize hV:Om goal seen (nodes.take k)=v at *
 (repeat first|refine s2 rfl fun _ _hb=>?_ |refine aU rfl ?_ |refine Aa ?_)
 (refine aC rfl ?_ ?_<;>rintro⟨⟩)
 ·obtain⟨x,hx⟩:=get_some (l:=nodes) (k:=k) (by (simp only[oZ] at *;omega))
  have hx':=get_map (g:=Bk) hx
  have hxb:=hn x (List.mem_of_getElem? hx)
  have hvs:=hvs x hx
  have hvl:=hv.len
  obtain⟨b,hb⟩:=get_some (l:=v.seen) (k:=x.toNat) (by omega)
  have hb':(v.seen.map AQ)[0+x.toNat]? = some (AQ b):=by simp [hb]
  have hsb:sn v.seen x=b:=by simp [sn,List.getD,hb]
  have hfl:v.fresh.length≤N:=by
   refine Eb _ _ hv.nd fun y hy=>hn y (List.mem_of_mem_take ((hv.fr y).1 hy).1)
  unfold PY at hvs
  rw [hsb] at hvs
  obtain⟨vse,vfr,vfd⟩:=v
  simp only at hvs hvl hb hb' hfl
  refine aK ?_
  refine aS (aB ?_)
  (repeat first|((first|refine sM rfl ?_ ?_|refine s4 rfl ‹_› rfl ?_ ?_);first|exact tI|omega) |refine s2 rfl fun _ _hb=>?_ |refine aU rfl ?_ |refine Aa ?_)
  (refine aC rfl ?_ ?_<;>rintro⟨⟩)
  ·have hbf:b=false:=by simpa using _hb
   subst hbf
   rw [if_neg (by simp)] at hvs
   (repeat first|(refine sA rfl ?_ ?_;first|exact tI|omega) |refine t4 rfl ‹_› rfl ?_ |refine aU rfl ?_ |refine Aa ?_)
   (refine pW rfl ?_ rfl (by rfl);refine Aw rfl rfl rfl (by first| (simp;done)|(simp;(omega))) rfl (by intro r hr;simp at hr;subst hr;rfl) (by rfl) (Nat.le_of_ble_eq_true rfl) (by simp;omega) ?_)
   (repeat first|(refine sX rfl ?_ ?_;first|exact tI|simp only[oZ] at *;omega) |refine s3 rfl ?_ ?_<;>rintro rfl |refine aU rfl ?_ |refine Aa ?_)
   (repeat first|(refine sC rfl (hG x hxb) ?_;intro _ _hb)|(refine Ag rfl ?_;refine gA rfl ?_;first| refine gQ (N8 rfl rfl rfl rfl) (by rfl) ?_))
   ·refine⟨⟨k+1,by (simp only[oZ] at *;omega)⟩,by dsimp only;((simp only[oZ] at *;omega)),[0,1,2,3,4,6],?_⟩
    rw [PI]
    simp[cX,zC,hΓ,hvs,DN,hren,YK]
   ·(repeat first|(refine sA rfl ?_ ?_;first|exact tI|simp only[oZ] at *;omega)|(refine Ag rfl ?_;refine gA rfl ?_;first| (refine gB (fun _ _=>BL rfl rfl (by simp [E.BU,C.BU,hcG]) (hG x hxb) rfl) ?_;intro _ _hb)) |refine aU rfl ?_ |refine Aa ?_)
    refine⟨⟨k+1,by (simp only[oZ] at *;omega)⟩,by dsimp only;((simp only[oZ] at *;omega)),[0,1,2,3,4,6],?_⟩
    rw [PI]
    simp[cX,zC,hΓ,hvs,DN,hren,YK,_hb]
  ·have hbt:b=true:=by simpa using _hb
   subst hbt
   rw [if_pos rfl] at hvs
   refine aK ?_
   (repeat first|(refine sM rfl ?_ ?_;first|exact tI|simp only[oZ] at *;omega) |refine aU rfl ?_ |refine Aa ?_)
   refine⟨⟨k+1,by (simp only[oZ] at *;omega)⟩,by dsimp only;((simp only[oZ] at *;omega)),[0,1,2,3,4,5],?_⟩
   simp[cX,zC,hΓ,hvs,DN,hren,YK]
 ·obtain rfl:k=nodes.length:=by (simp only[oZ] at *;omega)
  rw [List.take_length] at hV
  subst hV
  refine aE ?_
  have hfl:(Om goal seen nodes).fresh.length≤N:=by
   have hv:=hvk nodes.length
   rw [List.take_length] at hv
   refine Eb _ _ hv.nd fun y hy=>hn y ((hv.fr y).1 hy).1
  generalize Om goal seen nodes=vv at *
  obtain⟨vse,vfr,vfd⟩:=vv
  have hfl:vfr.length≤N:=hfl
  (repeat first|refine tM rfl ?_ |refine s2 rfl fun _ _hb=>?_ |refine aU rfl ?_ |refine Aa ?_)
  (refine aC rfl ?_ ?_<;>rintro⟨⟩)
  ·have hne:vfr≠[]:=fun e=>by rw [e] at _hb;simp at _hb
   refine Ak.freeze [5] [(0,eI .i64 p),(1,eI .i64 l),(5,.o (.ptr 3 1 0 0)),(10,Ai vfr),(11,eB vfd)] ⟨⟨_,rfl,.Bb⟩,⟨_,rfl,.Bb⟩,⟨_,rfl,.Bb⟩,⟨_,rfl,.o (.full (by simp) rfl (by simp [Function.comp_def]) (by simp))⟩,⟨_,rfl,.Bb⟩,trivial⟩ ?_
   (repeat first|refine tA rfl ?_|(refine Ag rfl ?_;refine gA rfl ?_;first| refine gS (fun _ _=>AI rfl rfl (by rfl) (by rfl)) ?_) |refine aU rfl ?_)
   (refine pW rfl ?_ rfl (by rfl);refine Aw rfl rfl rfl (by first| (simp;done)|(simp;(omega))) rfl (by intro r hr;simp at hr;subst hr;rfl) (by rfl) (Nat.le_of_ble_eq_true rfl) (by simp;omega) ?_)
   (repeat first|refine tX rfl ?_ |refine aU rfl ?_ |refine Aa ?_)
   refine Ak.names [0,1,2,3,4,6] [(9,eB vfd)] (DN N gG capsG vse 5 (Dh steps p l vfr)) (by rw [hΓ];decide) (by decide) (by simp[cX,zC,hΓ]) (by simp[cX,zC,hΓ,DN,hren,Dh,hne,BR,Aj,eC]) ?_
   refine aR ⟨_,rfl,rfl,5,.inr ⟨rfl,rfl⟩,rfl⟩
  ·have hne:vfr=[]:=List.length_eq_zero_iff.1 (by (simp only[oZ] at *;omega))
   subst hne
   refine aK ?_
   (repeat first|refine tM rfl ?_ |refine aU rfl ?_ |refine Aa ?_)
   refine Ak.names [0,1,2,3,4] [(9,eB vfd)] (DN N gG capsG vse 4 steps) (by rw [hΓ];decide) (by decide) (by simp[cX,zC,hΓ]) (by simp[cX,zC,hΓ,DN,hren]) ?_
   refine aR ⟨_,rfl,rfl,4,.inl ⟨rfl,rfl⟩,by simp [Dh]⟩
end Go.Am
