/-
  The safety of a task is made: walked; a task's oracle.
-/
import Derived.Test.YtbfgijpfhgmepaaGreatDoorPart19
import Derived.Test.YtbfgijpfhgmepaaGreatDoorPart16
import Derived.Test.YtbfgijpfhgmepaaGreatDoorPart15
import Derived.Test.YtbfgijpfhgmepaaGreatDoorPart17
import Derived.Test.YtbfgijpfhgmepaaGreatDoorPart12
set_option linter.constructorNameAsVariable false
set_option linter.unusedSectionVars false
set_option linter.unusedSimpArgs false
set_option linter.unusedVariables false
namespace Go.Am
open Go Go.Proofs
set_option maxHeartbeats 1000000
attribute [local irreducible] AQ BS Lex Bc Av Spec
variable {TB:Bs}
section
variable {P:Program}{Γ:Ctx}{d:Option Tmp}{ty:TypeId}{pos:String}{af:Array Edge}{g:Option (Nat×Bool)}{f:Env}{σ:Ab}{nx:Nat}
variable {K:E→Ab→Nat→Prop}
theorem ZK{t:TypeId}{z:List Value}{fl:List (Nat×Nat)}{parts:Array (Nat×Operand)}{es:List E}{qs:List (Nat×List C)}[hz:BI P t z][hf:Ey P t fl](p k e q k' e' s k'' e'':Nat)(hp:z[p]? = some (.slice none 0 0))(hp':z[q]? = some (.slice none 0 0))(hp'':z[s]? = some (.slice none 0 0))(hpq:p≠q∧p≠s∧q≠s)(hes:JL f (parts.toList.map (·.2))=some es)(hq:Fz fl parts.toList es=some qs)
 (hok:z.all PO=true) (hle:(qs.all fun x=>Nat.ble (x.1+x.2.length) z.length)=true) (hK:K (.a (Bp qs ((((z.map zC).set p (.arr nx k 0 0)).set q (.arr (nx+1) k' 0 0)).set s (.arr (nx+2) k'' 0 0)))) ((nx+2,.cells e'' k'' [])::(nx+1,.cells e' k' [])::(nx,.cells e k [])::σ) (nx+3)):BS P TB Γ ⟨d,.build t parts,ty,pos,af,g⟩ f σ nx K:=
 Dt fun V ρ h1 h2 h3=>by
  subst h3
  obtain⟨i,zv,hi,hzv,hzz⟩:=Hp hz.out
  obtain⟨hi1,he1⟩:=h2.alloc (c:=0) (nl:=True) (w:=V.w) (ob:=.cells e k []) rfl rfl rfl rfl (Nat.le_refl _) (fun _ _=>rfl) (.inl ⟨by simp [Aw],rfl⟩)
  obtain⟨hi2,he2⟩:=hi1.alloc (c:=0) (nl:=True) (w:=V.w) (ob:=.cells e' k' []) rfl rfl rfl rfl (Nat.le_refl _) (fun _ _=>rfl) (.inl ⟨by simp [Aw],rfl⟩)
  obtain⟨hi4,he4⟩:=hi2.alloc (c:=0) (nl:=True) (w:=V.w) (ob:=.cells e'' k'' []) rfl rfl rfl rfl (Nat.le_refl _) (fun _ _=>rfl) (.inl ⟨by simp [Aw],rfl⟩)
  have he3:=(he1.trans he2).trans he4
  have hfo:=Da (V:=Aw (Aw (Aw V V.w.heap.size 0 True V.w) V.w.heap.size 0 True V.w) V.w.heap.size 0 True V.w) (ρ:=ρ) parts.toList es qs (fun x hx e he=>(h1.get (by simp only [Op.operands];simpa using hx) he).ext he3) hes hq
  have hzr : C3 (Aw (Aw (Aw V V.w.heap.size 0 True V.w) V.w.heap.size 0 True V.w) V.w.heap.size 0 True V.w) ((((z.map zC).set p (.arr V.nx k 0 0)).set q (.arr (V.nx+1) k' 0 0)).set s (.arr (V.nx+2) k'' 0 0)) zv.cells:=by
   refine⟨by rw [List.length_set,List.length_set,List.length_set,List.length_map,←hzz];simp,fun j c v hj hv=>?_⟩
   have hzj:z[j]? = some v:=by rw [←hzz,Array.getElem?_toList];exact hv
   by_cases hjs:s=j
   ·subst hjs
    rw [hp''] at hzj
    injection hzj with hzj
    subst hzj
    rw [List.getElem?_set_self (by rw [List.length_set,List.length_set,List.length_map];exact(List.getElem?_eq_some_iff.1 hp'').1)] at hj
    injection hj with hj
    subst hj
    exact AA.nil (by simp [Aw]) (by simp [Aw])
   ·rw [List.getElem?_set_ne hjs] at hj
    by_cases hjq:q=j
    ·subst hjq
     rw [hp'] at hzj
     injection hzj with hzj
     subst hzj
     rw [List.getElem?_set_self (by rw [List.length_set,List.length_map];exact(List.getElem?_eq_some_iff.1 hp').1)] at hj
     injection hj with hj
     subst hj
     exact AA.nil (by simp [Aw]) (by simp [Aw])
    ·rw [List.getElem?_set_ne hjq] at hj
     by_cases hjp:p=j
     ·subst hjp
      rw [hp] at hzj
      injection hzj with hzj
      subst hzj
      rw [List.getElem?_set_self (by rw [List.length_map];exact(List.getElem?_eq_some_iff.1 hp).1)] at hj
      injection hj with hj
      subst hj
      exact AA.nil (by simp [Aw];omega) (by simp [Aw])
     ·rw [List.getElem?_set_ne hjp,List.getElem?_map,hzj] at hj
      injection hj with hj
      subst hj
      exact Ks (List.all_eq_true.1 hok v (List.mem_of_getElem? hzj))
  obtain⟨cells,h4,h5⟩:=Gq _ _ _ _ hfo hzr (fun x hx=>by rw [List.length_set,List.length_set,List.length_set,List.length_map];exact IV _ _ hle x hx)
  have hb:=run_build (P:=P) (ρ:=ρ) (parts:=parts) (V:=V) hi hzv hf.out h4
  refine⟨.agg cells,_,_,_,?_,he3,hi4,(show Bb _ (.a _) _ from ⟨cells,rfl,h5⟩),hK⟩
  show ((do let v ←Instr.build t (parts.map fun (i,x)=>(i,ρ x));pure (Go.Next.value v):Sem Go.Next)).run P V.w=_
  simp only [Sem.run_bind,hb,Result.andThen_ok]
  rfl
end
theorem I0{a b:Int}(ha:A2 a=true)(hb:A2 b=true):Ac (G0 .i64 a b)=(Ac a).filter fun l=>!AV b l.toNat:=by
 have key:((List.range 64).all fun x=>(List.range 64).all fun y=>decide (Ac (G0 .i64 (x:Nat) (y:Nat))=(Ac (x:Nat)).filter fun l=>!AV (y:Nat) l.toNat))=true:=by kernel_rfl
 unfold A2 at ha hb
 simp only [decide_eq_true_eq] at ha hb
 have h1:=List.all_eq_true.1 key a.toNat (List.mem_range.2 (by omega))
 have h2:=List.all_eq_true.1 h1 b.toNat (List.mem_range.2 (by omega))
 rw [Int.toNat_of_nonneg ha.1,Int.toNat_of_nonneg hb.1] at h2
 exact of_decide_eq_true h2
abbrev Lv(t:CB):List D:=[iD t.s.al,iD t.s.st,Ef t.s.es,iD t.q.al,CD t.q.nx,Ez t.q.ac,iD t.al]
abbrev P5(t:CB):E:=.a ((Lv t).map .d)
theorem TS(t:CB)(ok:W→Prop):JN t ok ⟨[],[],[]⟩:=⟨rfl,rfl,List.nodup_nil,by simp,by simp,by simp,by simp⟩
theorem SB[Dl TB]{t:CB}(ht:A6 t=true)(ok:W→Prop):∃m,ML t ok m∧AG Tryz.prog TB 105 0 [] 0 [P5 t] (fun x σ nx=>x=.o (.ptr 0 14 0 0)∧σ=ND t m∧nx=5):=by
 have hs:AP t.s=true:=by unfold A6 at ht;simp only [Bool.and_eq_true] at ht;exact ht.1
 have hta:A2 t.al=true:=by unfold A6 at ht;simp only [Bool.and_eq_true] at ht;exact ht.2.2
 have hsh:=AK hs
 have hz:=LI ht
 obtain⟨m1,k,hcase,hadd⟩:=aW (TB:=TB) ht (TS t ok) (by simp) (Gg ht)
 have hm1:m1=JK t ⟨[],[],[]⟩ (Cm t):=by
  rcases hcase with ⟨_,h2⟩|⟨h2,_,_⟩
  ·simp at h2
  ·exact h2
 have hcl:=TN (TB:=TB) ht ⟨[],[],[]⟩ hz
 refine⟨m1,⟨by rw [hm1];exact Xx (TS t ok) .start (.inl rfl) (by simp),by rw [hm1];rfl⟩,?_⟩
 have hmv:=OY (TB:=TB) t.s hs
 have htb:=Fb (TB:=TB) t.q (Cn ht)
 have hlo:=CK (TB:=TB) (G0 .i64 t.s.al t.al)
 rw [I0 hsh.1 hta] at hlo
 have hlo:Pure Tryz.prog TB 75 [eI .i64 (G0 .i64 t.s.al t.al)] (Ag (Ck t)):=hlo
 rw [show RY t Iy=Cm t from rfl] at hcl
 have hmp:mapA .u16 (Qi [])=[]:=rfl
 have hpz:Hd Iy=[1,0,0,0,0,0,0,0,0,0,0,0]:=rfl
 refine AG.A1 (AG.Ql (m:=0) (Nat.le_of_ble_eq_true rfl) Tryz.func105 rfl (by kernel_rfl) (Nat.le_of_ble_eq_true rfl) ?_);intro Γ hΓ
 (repeat first|refine tA rfl ?_ |refine aU rfl ?_ |refine Aa ?_)
 refine rG (dS [(14,1),(15,1),(16,1)]) (by kernel_rfl) ?_
 (repeat first|refine tX rfl ?_ |refine sP rfl (hmv) rfl ?_|refine sP rfl (htb) rfl ?_|refine sP rfl (hlo) rfl ?_|(refine Ai rfl ?_;refine gA rfl ?_;first| refine gS (fun _ _=>cI rfl rfl rfl) ?_))
 (refine pW rfl ?_ rfl (by rfl);refine QZ ?_)
 (refine pW rfl ?_ rfl (by rfl);refine ZK 10 12 199 12 6 121 13 1 4 rfl rfl rfl (by decide) rfl rfl (by rfl) (by rfl) ?_)
 (refine pW rfl ?_ rfl (by rfl);refine Di rfl rfl ?_)
 (repeat first|refine tA rfl ?_)
 refine Aa ?_
 refine Av.Ce [] [] rfl rfl [(3,.o (.ptr 0 14 0 0))] [(0,.cells 195 14 [dv t (.arr 1 12 0 0) (.mp 2) (.arr 3 6 0 0) (.arr 4 1 0 0)]),(1,.cells 199 12 []),(2,.mp []),(3,.cells 121 6 []),(4,.cells 4 1 [])] [4,1,0,2,3] (rl hΓ rfl) (by (simp[cX,zC,hΓ,AW])) ?_;(try dsimp only[cA,cB])
 (repeat first|refine tA rfl ?_|(refine Ai rfl ?_;refine gA rfl ?_;first| refine gS (fun _ _=>AU rfl rfl (by rfl) (by rfl)) ?_) |refine aU rfl ?_)
 (refine pW rfl ?_ rfl (by rfl);refine Bq [0,1,2,3,4] rfl rfl (hcl) ⟨rfl,by decide,by decide⟩ rfl (by simp[cX,zC,hΓ,AW,hpz,hmp]) ?_;rintro x0 σ1 nx1 ⟨rfl,rfl,rfl⟩ _)
 (refine pW rfl ?_ rfl (by rfl);refine CA [0,1,2,3,4] rfl rfl 1 (hadd) (by decide) ⟨rfl,by decide,by decide⟩ rfl (by simp[cX,zC,hΓ,AW]) ?_;rintro x0 σ1 nx1 ⟨rfl,rfl,rfl⟩ _)
 refine Aa ?_
 (repeat first|refine tA rfl ?_ |refine aU rfl ?_ |refine Aa ?_)
 refine aR ⟨_,rfl,[0,5,6,7,8],.o (.ptr 0 14 0 0),ND t m1,⟨by intro i hi;omega,by decide⟩,rfl,by (simp[cX,zC,hΓ,AW]),rfl,rfl,rfl⟩
theorem Wy{es:List EO}{l:Int}{m k:Nat}{e:EO}(he:es[k]? = some e):Cb (es.take (k+1)) l m=if e.l=l∧m.testBit e.f.toNat=true then Cb (es.take k) l m ||| 2 ^ e.t.toNat else Cb (es.take k) l m:=by
 unfold Cb
 rw [List.take_add_one,he,List.foldl_append];rfl
theorem Up{s:Sys}(hs:AP s=true){l:Int}{m k:Nat}:Cb (s.es.take k) l m < 65536:=Jo fun j hj=>by
 obtain⟨e,he,_,rfl⟩:=DC.1 hj
 have hb:=Dv hs (List.mem_of_mem_take he)
 have hh:=AK hs
 unfold DL at hb
 simp only [Bool.and_eq_true,decide_eq_true_eq] at hb
 omega
theorem QP{s:Sys}(hs:AP s=true)(l:Int){m:Nat}(hm:m < 65536):Pure Tryz.prog TB 214 [Bt s,eI .i64 (m:Nat),eI .i64 l] (eI .i64 (Cb s.es l m:Nat)):=by
 have hh:=AK hs
 refine eG Tryz.func214 rfl (by kernel_rfl) rfl ?_;intro Γ hΓ
 refine Av.bound 0 rfl fun hB0=>?_
 have hB:=hB0 (s.es.map C5) ⟨2,_,rfl,.refl⟩
 rw [List.length_map] at hB
 (repeat first|refine tA rfl ?_ |refine aU rfl ?_ |refine Aa ?_)
 refine aB ?_
 refine aL (α:={k:Nat // k≤s.es.length}) [1,2,3] [] rfl rfl (fun ⟨k,hk⟩=>[(7,eI .i64 (Cb (s.es.take k) l m:Nat)),(8,eI .i64 k)]) (fun ⟨k,hk⟩=>[]) 0 (fun ⟨k,hk⟩=>s.es.length - k) (⟨0,by omega⟩) hΓ rfl (by (simp[cX,zC,hΓ]<;>rfl)) ?_;rintro⟨k,hk⟩;(try dsimp only[cA,cB])
 by_cases hlt:k < s.es.length
 ·obtain⟨e,he⟩:=get_some hlt
  have he':=get_map (g:=C5) he
  have hee:(s.es.map C5)[((k:Nat):Int).toNat]? = some (C5 e):=by rw [Int.toNat_natCast];exact he'
  have hb:=Dv hs (List.mem_of_getElem? he)
  unfold DL at hb
  simp only [Bool.and_eq_true,decide_eq_true_eq] at hb
  have hst:=Wy (l:=l) (m:=m) he
  have hlt1:=Up hs (l:=l) (m:=m) (k:=k)
  have hh1:=CT (TB:=TB) (m:Nat) e.f (by omega) (by omega)
  rw [C4 (by omega) (by omega)] at hh1
  have hbt:=Uj (TB:=TB) e.t (by omega) (by omega)
  have hp2:2 ^ e.t.toNat < 65536:=by
   have:2 ^ e.t.toNat≤2 ^ 15:=Nat.pow_le_pow_right (by omega) (by omega)
   omega
  have hor:=NT (a:=Cb (s.es.take k) l m) (b:=2 ^ e.t.toNat) (by omega) (by omega)
  generalize 2 ^ e.t.toNat=p2 at *
  (repeat first|refine sN rfl ?_ |refine tA rfl ?_ |refine s2 rfl fun _ _hb=>?_ |refine aU rfl ?_ |refine Aa ?_)
  ((refine aC rfl ?_ ?_<;>rintro⟨⟩);all_goals try(exfalso;(simp only[oZ] at *;omega)))
  refine aK ?_
  refine aS (aB ?_)
  (repeat' first|(refine sA rfl ?_ ?_;first|exact tI|omega) |(refine s4 rfl ‹_› rfl ?_ ?_;omega) |refine s2 rfl fun _ _hb=>?_ |(refine sC rfl (hh1) ?_;intro _ _hb)|refine sP rfl (hbt) rfl ?_ |refine s3 rfl ?_ ?_<;>rintro rfl |refine aU rfl ?_ |refine Aa ?_|(refine aC rfl ?_ ?_<;>rintro⟨⟩));all_goals try contradiction
  ·refine⟨⟨k+1,by omega⟩,by dsimp only;(omega),[],?_⟩
   have h1:Cb (s.es.take (k+1)) l m=Cb (s.es.take k) l m ||| p2:=by rw [hst,if_pos ⟨by simpa using ‹decide (e.l=l)=true›,_hb⟩]
   simp[cX,zC,hΓ,hor,h1]
  ·have h1:Cb (s.es.take (k+1)) l m=Cb (s.es.take k) l m:=by rw [hst,if_neg (by simp [_hb])]
   refine aK ?_
   (repeat first|(refine sA rfl ?_ ?_;first|exact tI|omega) |refine aU rfl ?_ |refine Aa ?_)
   refine⟨⟨k+1,by omega⟩,by dsimp only;(omega),[],?_⟩
   simp[cX,zC,hΓ,h1]
  ·have h1:Cb (s.es.take (k+1)) l m=Cb (s.es.take k) l m:=by rw [hst,if_neg (fun h=>by simp [h.1] at _hb)]
   refine aK ?_
   (repeat first|(refine sA rfl ?_ ?_;first|exact tI|omega) |refine aU rfl ?_ |refine Aa ?_)
   refine⟨⟨k+1,by omega⟩,by dsimp only;(omega),[],?_⟩
   simp[cX,zC,hΓ,h1]
 ·obtain rfl:k=s.es.length:=by omega
  rw [List.take_length]
  (repeat first|refine sN rfl ?_ |refine tA rfl ?_ |refine s2 rfl fun _ _hb=>?_ |refine aU rfl ?_ |refine Aa ?_)
  ((refine aC rfl ?_ ?_<;>rintro⟨⟩);all_goals try(exfalso;(simp only[oZ] at *;omega)))
  refine aE ?_
  (repeat first|refine tA rfl ?_ |refine aU rfl ?_ |refine Aa ?_)
  (subst_vars;exact aR ⟨_,rfl,rfl⟩)
abbrev Ms(n:Nat)(F:PS):List Int:=(List.range n).map fun p=>(F p:Int)
def Cl(t:CB)(G:PS)(i k:Nat):Prop:=∀p,p < t.q.nx.length→∀l∈Ck t,(p < i∨(p=i∧l∈(Ck t).take k))→∀j,(Cb t.s.es l (G p)).testBit j=true→(G (Cs t.q p l).toNat).testBit j=true
structure Tt (t:CB) (F0 F:PS) (i k:Nat) (G:PS) (b:Bool):Prop where
 ok:CS t G
 lo:∀p j,(F0 p).testBit j=true→(G p).testBit j=true
 hi:∀p j,(G p).testBit j=true→PQ t F0 p j
 le:∀p,F p≤G p
 yes:b=true→NA G < NA F
 no:b=false→G=F∧Cl t F i k
theorem eU{F G:PS}(h:∀p,F p≤G p):NA G≤NA F:=by
 unfold NA
 repeat' apply Nat.add_le_add
 all_goals exact Nat.sub_le_sub_left (h _) _
def Xi(G:PS)(x v:Nat):PS:=fun p=>if p=x then v else G p
theorem Tt.Pu{t:CB}(ht:A6 t=true){F0 F G:PS}{i k:Nat}{b:Bool}(h:Tt t F0 F i k G b)(hi:i < t.q.nx.length){l:Int}(hk:(Ck t)[k]? = some l){x:Nat}(hx:Cs t.q i l=(x:Int))(hne:G x ||| Cb t.s.es l (G i)≠G x):Tt t F0 F i (k+1) (Xi G x (G x ||| Cb t.s.es l (G i))) true:=by
 have hl:=List.mem_of_getElem? hk
 have hin:=DA ht hl
 have hga:=Db (Cn ht) hi hin.1 hin.2.1
 have hss:=Je ht (l:=l) (h.ok.lt i)
 unfold C7 at hss
 rw [if_pos hin.2.2] at hss
 have hlt:G x ||| Cb t.s.es l (G i) < 65536:=by have:=Nat.or_lt_two_pow (n:=16) (h.ok.lt x) hss;omega
 have hle:∀p,G p≤Xi G x (G x ||| Cb t.s.es l (G i)) p:=fun p=>by
  unfold Xi
  split
  ·rename_i e;subst e;exact Nat.left_le_or
  ·exact Nat.le_refl _
 refine⟨⟨fun p=>?_,fun p hp=>?_⟩,fun p j hj=>?_,fun p j hj=>?_,fun p=>Nat.le_trans (h.le p) (hle p),fun _=>?_,fun h=>by cases h⟩
 ·unfold Xi
  split
  ·exact hlt
  ·exact h.ok.lt p
 ·unfold Xi
  rw [if_neg (by omega)];exact h.ok.z p hp
 ·have:=h.lo p j hj
  unfold Xi
  split
  ·rename_i e;subst e;rw [Nat.testBit_or,this];rfl
  ·exact this
 ·unfold Xi at hj
  split at hj
  ·rename_i e
   subst e
   rw [Nat.testBit_or,Bool.or_eq_true] at hj
   rcases hj with hj|hj
   ·exact h.hi p j hj
   ·obtain⟨e,he,⟨h3,h4⟩,h5⟩:=DC.1 hj
    subst h3
    have:=PQ.step (h.hi i _ h4) he hl rfl
    rw [hx,h5] at this
    simpa using this
  ·exact h.hi p j hj
 ·have h1:=eU h.le
  refine Nat.lt_of_lt_of_le (XZ h.ok.lt (fun p=>?_) hle fun he=>hne ?_) h1
  ·unfold Xi
   split
   ·exact hlt
   ·exact h.ok.lt p
  ·have hn:=AF (Cn ht)
   have:=SI he x (by omega)
   simpa [Xi] using this
theorem Tt.kT{t:CB}(ht:A6 t=true){F0 F G:PS}{i k:Nat}{b:Bool}(h:Tt t F0 F i k G b){l:Int}(hk:(Ck t)[k]? = some l){x:Nat}(hx:Cs t.q i l=(x:Int))(he:G x ||| Cb t.s.es l (G i)=G x):Tt t F0 F i (k+1) G b:=
 ⟨h.ok, h.lo,h.hi,h.le,h.yes,fun hb=>by
  obtain⟨rfl,hc⟩:=h.no hb
  refine⟨rfl,fun p hp l' hl' hor j hj=>?_⟩
  rcases hor with h1|⟨rfl,h1⟩
  ·exact hc p hp l' hl' (.inl h1) j hj
  ·rw [List.take_add_one,hk] at h1
   rcases List.mem_append.1 h1 with h1|h1
   ·exact hc p hp l' hl' (.inr ⟨rfl,h1⟩) j hj
   ·simp at h1
    subst h1
    rw [hx,Int.toNat_natCast,←he,Nat.testBit_or,hj,Bool.or_true]⟩
theorem Tt.row{t:CB}{F0 F G:PS}{i:Nat}{b:Bool}(h:Tt t F0 F i (Ck t).length G b):Tt t F0 F (i+1) 0 G b:=
 ⟨h.ok,h.lo,h.hi,h.le,h.yes,fun hb=>by
  obtain⟨rfl,hc⟩:=h.no hb
  refine⟨rfl,fun p hp l' hl' hor j hj=>?_⟩
  rcases hor with h1|⟨rfl,h1⟩
  ·rcases Nat.lt_or_ge p i with h2|h2
   ·exact hc p hp l' hl' (.inl h2) j hj
   ·exact hc p hp l' hl' (.inr ⟨by omega,by rw [List.take_length];exact hl'⟩) j hj
  ·simp at h1⟩
theorem Tt.done{t:CB}(ht:A6 t=true){F0 F G:PS}(h0:CS t F0)(h:Tt t F0 F t.q.nx.length 0 G false):G=RY t F0:=by
 obtain⟨rfl,hc⟩:=h.no rfl
 exact bk ht h0 h.ok.z h.lo h.hi fun p l j hp hl hj=>hc p hp l hl (.inl hp) j hj
theorem fU{a b:Int}(ha:A2 a=true)(hb:A2 b=true):a - GS .i64 a b=G0 .i64 a b∧0≤GS .i64 a b∧GS .i64 a b≤63:=by
 have key:((List.range 64).all fun x=>(List.range 64).all fun y=>decide (((x:Nat):Int) - GS .i64 (x:Nat) (y:Nat)=G0 .i64 (x:Nat) (y:Nat)∧0≤GS .i64 (x:Nat) (y:Nat)∧GS .i64 (x:Nat) (y:Nat)≤63))=true:=by kernel_rfl
 unfold A2 at ha hb
 simp only [decide_eq_true_eq] at ha hb
 have h1:=List.all_eq_true.1 key a.toNat (List.mem_range.2 (by omega))
 have h2:=List.all_eq_true.1 h1 b.toNat (List.mem_range.2 (by omega))
 rw [Int.toNat_of_nonneg ha.1,Int.toNat_of_nonneg hb.1] at h2
 exact of_decide_eq_true h2
theorem SH{n x v:Nat}{G:PS}:((Ms n G).map Al).set x (Al (v:Int))=(Ms n (Xi G x v)).map Al:=by
 apply List.ext_getElem?
 intro i
 rw [List.getElem?_set]
 by_cases hi:i < n
 ·have h1:∀H:PS,((Ms n H).map Al)[i]? = some (Al (H i:Int)):=fun H=>by simp [hi]
  rw [h1,h1]
  unfold Xi
  by_cases e:x=i
  ·subst e;rw [if_pos rfl,if_pos (by simpa using hi),if_pos rfl]
  ·rw [if_neg e,if_neg (fun h=>e h.symm)]
 ·have h1:∀H:PS,((Ms n H).map Al)[i]? = none:=fun H=>List.getElem?_eq_none (by simp;omega)
  rw [h1,h1]
  by_cases e:x=i
  ·subst e;rw [if_pos rfl,if_neg (by simpa using hi)]
  ·rw [if_neg e]
theorem SG{n x:Nat}{G:PS}(h:x < n):((Ms n G).map Al)[0+((x:Nat):Int).toNat]? = some (Al (G x:Int)):=by rw [Nat.zero_add,Int.toNat_natCast];simp [h]
theorem Tt.start{t:CB}{F0 F:PS}(hF:CS t F)(h1:∀p j,(F0 p).testBit j=true→(F p).testBit j=true)(h2:∀p j,(F p).testBit j=true→PQ t F0 p j):Tt t F0 F 0 0 F false:=
 ⟨hF,h1,h2,fun _=>Nat.le_refl _,fun h=>(by cases h),fun _=>⟨rfl,fun p _ l _ h=>by simp at h⟩⟩
theorem OP{t:CB}(ht:A6 t=true){F0:PS}(hF0:CS t F0):Spec Tryz.prog TB 213 [(0,.cells 3 1 ((Ms t.q.nx.length F0).map Al))] 1 [P5 t,.o (.arr 0 1 0 t.q.nx.length)] (fun x σ nx=>x=.o (.arr 0 1 0 t.q.nx.length)∧σ=[(0,.cells 3 1 ((Ms t.q.nx.length (RY t F0)).map Al))]∧nx=1):=by
 have hs:AP t.s=true:=by unfold A6 at ht;simp only [Bool.and_eq_true] at ht;exact ht.1
 have hta:A2 t.al=true:=by unfold A6 at ht;simp only [Bool.and_eq_true] at ht;exact ht.2.2
 have hsh:=AK hs
 have haut:=Cn ht
 have hah:=AF haut
 have hsa:=fU hsh.1 hta
 have hla:=hsh.1
 unfold A2 at hla
 simp only [decide_eq_true_eq] at hla
 have hlo:Pure Tryz.prog TB 121 [eI .i64 (t.s.al - GS .i64 t.s.al t.al)] (Ag (Ck t)):=by
  have:=DB (TB:=TB) (t.s.al - GS .i64 t.s.al t.al)
  rw [hsa.1,I0 hsh.1 hta] at this
  rw [hsa.1];exact this
 have hll:(Ck t).length≤6:=by
  unfold Ck
  have h1:(Ac t.s.al).length≤6:=AS _ _
  exact Nat.le_trans (List.length_filter_le _ _) h1
 refine eR Tryz.func213 rfl (by kernel_rfl) rfl ?_;intro Γ hΓ
 (repeat first|(refine sA rfl ?_ ?_;first|exact tI|omega) |refine sP rfl (hlo) rfl ?_ |refine aU rfl ?_ |refine Aa ?_)
 refine aB ?_
 refine aL (α:={s:PS×Bool // CS t s.1∧(∀p j,(F0 p).testBit j=true→(s.1 p).testBit j=true)∧(∀p j,(s.1 p).testBit j=true→PQ t F0 p j)∧(s.2=false→s.1=RY t F0)}) [1,2,5] [] rfl rfl (fun s=>[(6,eB s.1.2)]) (fun s=>[(0,.cells 3 1 ((Ms t.q.nx.length s.1.1).map Al))]) 1 (fun s=>(if s.1.2 then NA s.1.1+1 else 0)) (⟨⟨F0,true⟩,hF0,fun _ _ h=>h,fun _ _ h=>.base h,fun h=>by cases h⟩) hΓ rfl (by (simp[cX,zC,hΓ])) ?_;rintro⟨⟨F,b⟩,hF,h1,h2,h3⟩;(try dsimp only[cA,cB])
 have hF:CS t F:=hF
 cases b with
 | false=>
  obtain rfl:F=RY t F0:=h3 rfl
  (repeat first|refine tA rfl ?_ |refine aU rfl ?_ |refine Aa ?_)
  (refine aC rfl ?_ ?_<;>rintro⟨⟩)
  refine aE ?_
  (repeat first|refine tA rfl ?_ |refine aU rfl ?_ |refine Aa ?_)
  refine aR ⟨_,rfl,[0],.o (.arr 0 1 0 t.q.nx.length),_,⟨by intro i hi;match i with|0=>rfl,by decide⟩,rfl,?_,rfl,rfl,rfl⟩
  (simp[cX,zC,hΓ])
 | true =>
  (repeat first|refine tA rfl ?_ |refine aU rfl ?_ |refine Aa ?_)
  (refine aC rfl ?_ ?_<;>rintro⟨⟩)
  refine aK ?_
  refine aB ?_
  (repeat first|refine tA rfl ?_ |refine aU rfl ?_ |refine Aa ?_)
  refine aB ?_
  refine aL (α:={s:Nat×PS×Bool // s.1≤t.q.nx.length∧Tt t F0 F s.1 0 s.2.1 s.2.2}) [1,2,5] [] rfl rfl (fun s=>[(6,eB s.1.2.2),(7,eI .i64 s.1.1)]) (fun s=>[(0,.cells 3 1 ((Ms t.q.nx.length s.1.2.1).map Al))]) 1 (fun s=>t.q.nx.length - s.1.1) (⟨⟨0,F,false⟩,by simp,.start hF h1 h2⟩) hΓ rfl (by (simp[cX,zC,hΓ])) ?_;rintro⟨⟨i,G,b⟩,hi,hG⟩;(try dsimp only[cA,cB])
  have hi:i≤t.q.nx.length:=hi
  have hG:Tt t F0 F i 0 G b:=hG
  by_cases hin:i < t.q.nx.length
  ·(repeat first|refine tA rfl ?_ |refine s2 rfl fun _ _hb=>?_ |refine aU rfl ?_ |refine Aa ?_)
   ((refine aC rfl ?_ ?_<;>rintro⟨⟩);all_goals try(exfalso;(simp only[oZ] at *;omega)))
   refine aK ?_
   refine aS (aB ?_)
   (repeat first|refine tA rfl ?_ |refine aU rfl ?_ |refine Aa ?_)
   refine aB ?_
   refine aL (α:={s:Nat×PS×Bool // s.1≤(Ck t).length∧Tt t F0 F i s.1 s.2.1 s.2.2}) [1,2,5,7] [] rfl rfl (fun s=>[(6,eB s.1.2.2),(8,eI .i64 s.1.1)]) (fun s=>[(0,.cells 3 1 ((Ms t.q.nx.length s.1.2.1).map Al))]) 1 (fun s=>(Ck t).length - s.1.1) (⟨⟨0,G,b⟩,by simp,hG⟩) hΓ rfl (by (simp[cX,zC,hΓ])) ?_;rintro⟨⟨k,G',b'⟩,hk,hG'⟩;(try dsimp only[cA,cB])
   have hk:k≤(Ck t).length:=hk
   have hG':Tt t F0 F i k G' b':=hG'
   clear hG
   by_cases hkl:k < (Ck t).length
   ·obtain⟨l,hlk⟩:=get_some hkl
    have hin':=DA ht (List.mem_of_getElem? hlk)
    have hl':((Ck t).map Bk)[((k:Nat):Int).toNat]? = some (Bk l):=by rw [Int.toNat_natCast];simp [hlk]
    have hgo:=Js (TB:=TB) t.q haut i hin l hin'.1 hin'.2.1
    have hga:=Db haut hin hin'.1 hin'.2.1
    obtain⟨x,hx⟩:∃x:Nat,Cs t.q i l=x:=⟨(Cs t.q i l).toNat,by omega⟩
    rw [hx] at hgo hga
    have hst:=QP (TB:=TB) hs l (hG'.ok.lt i)
    have hms:Cb t.s.es l (G' i) < 65536:=by
     have:=Up hs (l:=l) (m:=G' i) (k:=t.s.es.length)
     rwa [List.take_length] at this
    have r1:=SG (n:=t.q.nx.length) (G:=G') (x:=x) (by omega)
    have r2:=SG (n:=t.q.nx.length) (G:=G') (x:=i) hin
    have hxl:=hG'.ok.lt x
    have hor:=NT (a:=G' x) (b:=Cb t.s.es l (G' i)) (by omega) (by omega)
    have hset:=SH (n:=t.q.nx.length) (x:=x) (v:=G' x ||| Cb t.s.es l (G' i)) (G:=G')
    (repeat first|refine sN rfl ?_ |refine tA rfl ?_ |refine s2 rfl fun _ _hb=>?_ |refine aU rfl ?_ |refine Aa ?_)
    ((refine aC rfl ?_ ?_<;>rintro⟨⟩);all_goals try(exfalso;(simp only[oZ] at *;omega)))
    refine aK ?_
    refine aS (aB ?_)
    (repeat first|refine aU rfl ?_)
    refine rG (IW []) (by kernel_rfl) ?_
    (repeat first|refine tA rfl ?_ |(refine s4 rfl ‹_› rfl ?_ ?_;omega) |refine sP rfl (hgo) rfl ?_ |refine aU rfl ?_ |refine Aa ?_)
    refine rG (IW []) (by kernel_rfl) ?_
    (repeat first|((first|refine sA rfl ?_ ?_|refine s4 rfl ‹_› rfl ?_ ?_);first|exact tI|omega) |refine s2 rfl fun _ _hb=>?_ |refine sP rfl (hst) rfl ?_ |refine aU rfl ?_ |refine Aa ?_)
    (refine aC rfl ?_ ?_<;>rintro⟨⟩)
    ·have hne:G' x ||| Cb t.s.es l (G' i)≠G' x:=by
      rw [hor] at _hb
      simp only [decide_eq_true_eq] at _hb
      omega
     (repeat first|(refine sA rfl ?_ ?_;first|exact tI|omega) |refine t4 rfl ‹_› rfl ?_ |refine aU rfl ?_ |refine Aa ?_)
     have hs1:=hG'.Pu ht hin hlk hx hne
     generalize Xi G' x (G' x ||| Cb t.s.es l (G' i))=G2 at *
     refine⟨⟨⟨k+1,G2,true⟩,by omega,hs1⟩,by dsimp only;(omega),[0],?_⟩
     simp[cX,zC,hΓ,hor];simpa [Function.comp_def] using hset
    ·have he:G' x ||| Cb t.s.es l (G' i)=G' x:=by
      rw [hor] at _hb
      simp only [decide_eq_false_iff_not] at _hb
      omega
     refine aK ?_
     (repeat first|(refine sA rfl ?_ ?_;first|exact tI|omega) |refine aU rfl ?_ |refine Aa ?_)
     refine⟨⟨⟨k+1,G',b'⟩,by omega,hG'.kT ht hlk hx he⟩,by dsimp only;(omega),[0],?_⟩
     simp[cX,zC,hΓ]
   ·obtain rfl:k=(Ck t).length:=by omega
    (repeat first|refine sN rfl ?_ |refine tA rfl ?_ |refine s2 rfl fun _ _hb=>?_ |refine aU rfl ?_ |refine Aa ?_)
    ((refine aC rfl ?_ ?_<;>rintro⟨⟩);all_goals try(exfalso;(simp only[oZ] at *;omega)))
    refine aE ?_
    (repeat first|(refine sA rfl ?_ ?_;first|exact tI|omega) |refine aU rfl ?_ |refine Aa ?_)
    refine⟨⟨⟨i+1,G',b'⟩,by omega,hG'.row⟩,by dsimp only;(omega),[0],?_⟩
    simp[cX,zC,hΓ]
  ·obtain rfl:i=t.q.nx.length:=by omega
   (repeat first|refine tA rfl ?_ |refine s2 rfl fun _ _hb=>?_ |refine aU rfl ?_ |refine Aa ?_)
   ((refine aC rfl ?_ ?_<;>rintro⟨⟩);all_goals try(exfalso;(simp only[oZ] at *;omega)))
   refine aE ?_
   refine⟨⟨⟨G,b⟩,hG.ok,hG.lo,hG.hi,fun hb=>by have hb:b=false:=hb;subst hb;exact hG.done ht hF0⟩,by cases b<;>simp_all [hG.yes],[0],?_⟩
   simp[cX,zC,hΓ]
theorem RG{n:Nat}:List.replicate n (Al 0)=(Ms n fun _=>0).map Al:=by
 apply List.ext_getElem?
 intro i
 by_cases h:i < n
 ·simp [h]
 ·rw [List.getElem?_eq_none (by simp;omega),List.getElem?_eq_none (by simp;omega)]
theorem W0{n:Nat}:(List.replicate n (Al 0)).set 0 (Al 1)=(Ms n Iy).map Al:=by
 rw [RG]
 have:=SH (n:=n) (x:=0) (v:=1) (G:=fun _=>0)
 have e:Xi (fun _=>0) 0 1=Iy:=by funext p;rfl
 rw [e] at this
 exact this
theorem Wx{t:CB}(ht:A6 t=true):Pure Tryz.prog TB 181 [P5 t] (Ag (Ms t.q.nx.length (Cm t))):=by
 have hah:=AF (Cn ht)
 have hcl:=OP (TB:=TB) ht (LI ht)
 rw [show RY t Iy=Cm t from rfl] at hcl
 have hst:=W0 (n:=t.q.nx.length)
 have hr0:(List.replicate t.q.nx.length (Al 0))[0+(0:Int).toNat]? = some (Al 0):=by rw [List.getElem?_replicate,if_pos];simp;omega
 refine eG Tryz.func181 rfl (by kernel_rfl) rfl ?_;intro Γ hΓ
 (repeat first|refine sN rfl ?_ |refine tA rfl ?_ |refine aU rfl ?_ |refine Aa ?_)
 (refine pW rfl ?_ rfl (by rfl);refine Ej rfl rfl (by rfl) (by rfl) (Nat.le_of_ble_eq_true rfl) (by omega) (by omega) (by omega) ?_)
 (repeat first|(refine sA rfl ?_ ?_;first|exact tI|omega) |refine t4 rfl ‹_› rfl ?_ |refine aU rfl ?_ |refine Aa ?_)
 (refine pW rfl ?_ rfl (by rfl);refine Bq [0] rfl rfl (hcl) ⟨rfl,by decide,by decide⟩ rfl (by simp[cX,zC,hΓ,hst]) ?_;rintro x0 σ1 nx1 ⟨rfl,rfl,rfl⟩ _)
 (repeat first|refine tA rfl ?_)
 refine Aa ?_
 refine Av.Ce [] [] rfl rfl [(2,.o (.arr 0 1 0 t.q.nx.length))] [(0,.cells 3 1 ((Ms t.q.nx.length (Cm t)).map Al))] [0] (rl hΓ rfl) (by (simp[cX,zC,hΓ,hst])) ?_;(try dsimp only[cA,cB])
 refine Av.settle [(2,Ag (Ms t.q.nx.length (Cm t)))] ⟨⟨_,rfl,.o (.full rfl (by simp [Function.comp_def]) (by simp))⟩,trivial⟩ ?_
 refine aR ⟨_,rfl,rfl⟩
theorem bQ{t:CB}(ht:A6 t=true){F:PS}:Pure Tryz.prog TB 182 [P5 t,Ag (Ms t.q.nx.length F)] (eB (GR t F)):=by
 have hah:=AF (Cn ht)
 have hpl:(Ms t.q.nx.length F).length=t.q.nx.length:=by simp
 have hdef:GR t F=Hv t F t.q.nx.length:=rfl
 refine eG Tryz.func182 rfl (by kernel_rfl) rfl ?_;intro Γ hΓ
 (repeat first|refine tA rfl ?_ |refine aU rfl ?_ |refine Aa ?_)
 refine aB ?_
 refine aL (α:={k:Nat // k≤t.q.nx.length∧Hv t F k=false}) [1,2] [] rfl rfl (fun ⟨k,hk,hb⟩=>[(5,eI .i64 k)]) (fun ⟨k,hk,hb⟩=>[]) 0 (fun ⟨k,hk,hb⟩=>t.q.nx.length - k) (⟨0,by omega,rfl⟩) hΓ rfl (by (simp[cX,zC,hΓ])) ?_;rintro⟨k,hk,hb⟩;(try dsimp only[cA,cB])
 by_cases hlt:k < t.q.nx.length
 ·have hr:((Ms t.q.nx.length F).map Bk)[((k:Nat):Int).toNat]? = some (Bk (F k:Int)):=by rw [Int.toNat_natCast];simp [hlt]
  obtain⟨b,hb1⟩:=get_some (l:=t.q.ac) (k:=((k:Nat):Int).toNat) (by omega)
  have hb':=get_map (g:=HY) hb1
  have hgd:t.q.ac.getD k false=b:=by rw [Int.toNat_natCast] at hb1;simp [List.getD,hb1]
  have hs:=JY (t:=t) (F:=F) (k:=k)
  rw [hgd,hb] at hs
  (repeat first|refine sN rfl ?_ |refine tA rfl ?_ |refine s2 rfl fun _ _hb=>?_ |refine aU rfl ?_ |refine Aa ?_)
  ((refine aC rfl ?_ ?_<;>rintro⟨⟩);all_goals try(exfalso;(simp only[oZ] at *;omega)))
  refine aK ?_
  refine aS (aB ?_)
  (repeat' first|refine tA rfl ?_ |(refine s4 rfl ‹_› rfl ?_ ?_;omega) |refine s2 rfl fun _ _hb=>?_ |refine s3 rfl ?_ ?_<;>rintro rfl |refine aU rfl ?_ |refine Aa ?_|(refine aC rfl ?_ ?_<;>rintro⟨⟩));all_goals try contradiction
  ·have hbt:GR t F=true:=by
    have h7:=of_decide_eq_true ‹decide ((F k:Int)≠0)=true›
    have h8:F k≠0:=by omega
    rw [hdef]
    unfold Hv
    exact List.any_eq_true.2 ⟨k,List.mem_range.2 hlt,by rw [hgd,_hb];simp [h8]⟩
   rw [hbt]
   (subst_vars;exact aR ⟨_,rfl,rfl⟩)
  ·have hk1:Hv t F (k+1)=false:=by rw [hs];simp_all
   refine aK ?_
   (repeat first|(refine sA rfl ?_ ?_;first|exact tI|omega) |refine aU rfl ?_ |refine Aa ?_)
   refine⟨⟨k+1,by omega,hk1⟩,by dsimp only;(omega),[],?_⟩
   simp[cX,zC,hΓ]
  ·have hk1:Hv t F (k+1)=false:=by rw [hs];simp at _hb;simp;omega
   refine aK ?_
   (repeat first|(refine sA rfl ?_ ?_;first|exact tI|omega) |refine aU rfl ?_ |refine Aa ?_)
   refine⟨⟨k+1,by omega,hk1⟩,by dsimp only;(omega),[],?_⟩
   simp[cX,zC,hΓ]
 ·obtain rfl:k=t.q.nx.length:=by omega
  rw [hdef,hb]
  (repeat first|refine sN rfl ?_ |refine tA rfl ?_ |refine s2 rfl fun _ _hb=>?_ |refine aU rfl ?_ |refine Aa ?_)
  ((refine aC rfl ?_ ?_<;>rintro⟨⟩);all_goals try(exfalso;(simp only[oZ] at *;omega)))
  refine aE ?_
  (repeat first|refine tA rfl ?_ |refine aU rfl ?_ |refine Aa ?_)
  (subst_vars;exact aR ⟨_,rfl,rfl⟩)
theorem eX{t:CB}{l:Int}{F:PS}{k x:Nat}(h:Cs t.q k l=(x:Int)):DU t l F (k+1)=Xi (DU t l F k) x (DU t l F k x ||| C7 t.s l (F k)):=by
 rw [Ju]
 funext p
 unfold Xi
 rw [h]
 by_cases e:p=x
 ·subst e;simp
 ·rw [if_neg e,if_neg (by omega)]
theorem ZB{t:CB}(ht:A6 t=true){F:PS}(hF:CS t F){l:Int}(hl:0≤l∧l < 6):Pure Tryz.prog TB 183 [P5 t,Ag (Ms t.q.nx.length F),eI .i64 l] (Ag (Ms t.q.nx.length (DV t l F))):=by
 have hs:AP t.s=true:=by unfold A6 at ht;simp only [Bool.and_eq_true] at ht;exact ht.1
 have haut:=Cn ht
 have hah:=AF haut
 have hcl:=OP (TB:=TB) ht (Kh ht hl hF)
 rw [show RY t (VE t l F)=DV t l F from rfl] at hcl
 have hpl:(Ms t.q.nx.length F).length=t.q.nx.length:=by simp
 have h0:List.replicate t.q.nx.length (Al 0)=(Ms t.q.nx.length (DU t l F 0)).map Al:=RG
 have hz0:[zC (Value.int IntKind.i64 0)]=Al 0:=rfl
 have hhas:=CT (TB:=TB) t.s.al l hl.1 (by omega)
 refine eG Tryz.func183 rfl (by kernel_rfl) rfl ?_;intro Γ hΓ
 (repeat first|refine sN rfl ?_ |refine tA rfl ?_ |refine aU rfl ?_ |refine Aa ?_)
 (refine pW rfl ?_ rfl (by rfl);refine Ej rfl rfl (by rfl) (by rfl) (Nat.le_of_ble_eq_true rfl) (by omega) (by omega) (by omega) ?_)
 (repeat first|refine tA rfl ?_ |refine aU rfl ?_ |refine Aa ?_)
 refine aB ?_
 refine aL (α:={k:Nat // k≤t.q.nx.length}) [1,2,3] [] rfl rfl (fun s=>[(7,.o (.arr 0 1 0 t.q.nx.length)),(8,eI .i64 s.1)]) (fun s=>[(0,.cells 3 1 ((Ms t.q.nx.length (DU t l F s.1)).map Al))]) 1 (fun s=>t.q.nx.length - s.1) (⟨0,by omega⟩) hΓ rfl (by (simp[cX,zC,hΓ,h0,hz0])) ?_;rintro⟨k,hk⟩;(try dsimp only[cA,cB])
 by_cases hkl:k < t.q.nx.length
 ·have hr:((Ms t.q.nx.length F).map Bk)[((k:Nat):Int).toNat]? = some (Bk (F k:Int)):=by rw [Int.toNat_natCast];simp [hkl]
  have hgo:=Js (TB:=TB) t.q haut k hkl l hl.1 hl.2
  have hga:=Db haut hkl hl.1 hl.2
  obtain⟨x,hx⟩:∃x:Nat,Cs t.q k l=x:=⟨(Cs t.q k l).toNat,by omega⟩
  have hnx:=eX (F:=F) hx
  rw [hx] at hgo hga
  have hst:=QP (TB:=TB) hs l (hF.lt k)
  have r1:=SG (n:=t.q.nx.length) (G:=DU t l F k) (x:=x) (by omega)
  have hml:=X9 ht (l:=l) hF k x
  have hss:=Je ht (l:=l) (hF.lt k)
  have hor:=NT (a:=DU t l F k x) (b:=C7 t.s l (F k)) (by omega) (by omega)
  have hset:=SH (n:=t.q.nx.length) (x:=x) (v:=DU t l F k x ||| C7 t.s l (F k)) (G:=DU t l F k)
  rw [←hnx] at hset
  (repeat first|refine sN rfl ?_ |refine tA rfl ?_ |refine s2 rfl fun _ _hb=>?_ |refine aU rfl ?_ |refine Aa ?_)
  ((refine aC rfl ?_ ?_<;>rintro⟨⟩);all_goals try(exfalso;(simp only[oZ] at *;omega)))
  refine aK ?_
  refine aS (aB ?_)
  (repeat first|refine tA rfl ?_ |(refine s4 rfl ‹_› rfl ?_ ?_;omega) |(refine sC rfl (hhas) ?_;intro _ _hb) |refine aU rfl ?_ |refine Aa ?_)
  (refine aC rfl ?_ ?_<;>rintro⟨⟩)
  ·have hsm:C7 t.s l (F k)=Cb t.s.es l (F k):=by unfold C7;rw [if_pos _hb]
   rw [←hsm] at hst
   (repeat first|(refine sA rfl ?_ ?_;first|exact tI|omega) |refine t4 rfl ‹_› rfl ?_ |refine sP rfl (hst) rfl ?_|refine sP rfl (hgo) rfl ?_ |refine aU rfl ?_ |refine Aa ?_)
   refine⟨⟨k+1,by omega⟩,by dsimp only;(omega),[0],?_⟩
   simp[cX,zC,hΓ,hor];simpa [Function.comp_def] using hset
  ·have hsm:C7 t.s l (F k)=F k:=by unfold C7;rw [if_neg (by simp [_hb])]
   rw [hsm] at hor hset
   refine aK ?_
   (repeat first|(refine sA rfl ?_ ?_;first|exact tI|omega) |refine t4 rfl ‹_› rfl ?_ |refine sP rfl (hgo) rfl ?_ |refine aU rfl ?_ |refine Aa ?_)
   refine⟨⟨k+1,by omega⟩,by dsimp only;(omega),[0],?_⟩
   simp[cX,zC,hΓ,hor];simpa [Function.comp_def] using hset
 ·obtain rfl:k=t.q.nx.length:=by omega
  rw [show DU t l F t.q.nx.length=VE t l F from rfl]
  (repeat first|refine sN rfl ?_ |refine tA rfl ?_ |refine s2 rfl fun _ _hb=>?_ |refine aU rfl ?_ |refine Aa ?_)
  ((refine aC rfl ?_ ?_<;>rintro⟨⟩);all_goals try(exfalso;(simp only[oZ] at *;omega)))
  refine aE ?_
  (repeat first|refine tA rfl ?_ |refine aU rfl ?_)
  (refine pW rfl ?_ rfl (by rfl);refine Bq [0] rfl rfl (hcl) ⟨rfl,by decide,by decide⟩ rfl (by simp[cX,zC,hΓ]) ?_;rintro x0 σ1 nx1 ⟨rfl,rfl,rfl⟩ _)
  (repeat first|refine tA rfl ?_)
  refine Aa ?_
  refine Av.Ce [] [] rfl rfl [(6,.o (.arr 0 1 0 t.q.nx.length))] [(0,.cells 3 1 ((Ms t.q.nx.length (DV t l F)).map Al))] [0] (rl hΓ rfl) (by (simp[cX,zC,hΓ])) ?_;(try dsimp only[cA,cB])
  refine Av.settle [(6,Ag (Ms t.q.nx.length (DV t l F)))] ⟨⟨_,rfl,.o (.full rfl (by simp [Function.comp_def]) (by simp))⟩,trivial⟩ ?_
  refine aR ⟨_,rfl,rfl⟩
theorem HP(t:CB):Pure Tryz.prog TB 174 [P5 t] (eB (A6 t)):=by
 unfold A6
 refine eN Tryz.func174 rfl (by kernel_rfl) rfl ?_;intro Γ hΓ
 (repeat' first|refine tA rfl ?_ |(refine sC rfl (Cy t.s) ?_;intro _ _hb)|(refine sC rfl (Bi t.q) ?_;intro _ _hb)|(refine sC rfl (DS t.al) ?_;intro _ _hb) |refine s3 rfl ?_ ?_<;>rintro rfl |refine aU rfl ?_ |refine Aa ?_|(refine aC rfl ?_ ?_<;>rintro⟨⟩)|refine aK ?_|refine aE ?_|refine aB ?_|refine aR ⟨_,rfl,?_⟩)
 all_goals (show E.o _=E.o _;simp_all)
noncomputable def JT(t:CB)(w:W):Bool:=A6 t && (within w t.al && LS t w)
theorem Xs{w:W}{al:Int}(h:within w al=true):∀c∈w,0≤(c.toNat:Int) - 97∧(c.toNat:Int) - 97 < 6:=fun c hc=>Ii (Eo h c hc)
theorem Nf(t:CB)(w:W)(hl:w.length≤1099511627776):Pure Tryz.prog TB 129 [P5 t,eT w] (eB (JT t w)):=by
 have hv:=HP (TB:=TB) t
 have hw:=Ea (TB:=TB) w t.al hl
 by_cases h:(A6 t && within w t.al)=true
 ·have ht:A6 t=true:=by revert h;cases A6 t<;>simp
  have hwi:within w t.al=true:=by revert h;cases within w t.al<;>simp
  have hn:=Xs hwi
  have hA:JT t w=LS t w:=by unfold JT;rw [ht,hwi];rfl
  rw [hA]
  rw [ht] at hv
  rw [hwi] at hw
  have hst:=Wx (TB:=TB) ht
  refine eG Tryz.func129 rfl (by kernel_rfl) rfl ?_;intro Γ hΓ
  (repeat' first|refine tA rfl ?_ |refine s2 rfl fun _ _hb=>?_ |refine sP rfl (hv) rfl ?_|refine sP rfl (hw) rfl ?_|refine sP rfl (hst) rfl ?_ |refine s3 rfl ?_ ?_<;>rintro rfl |refine aU rfl ?_ |refine Aa ?_|(refine aC rfl ?_ ?_<;>rintro⟨⟩));all_goals try contradiction
  refine aK ?_
  (repeat first|refine tA rfl ?_ |refine sP rfl (hst) rfl ?_ |refine aU rfl ?_ |refine Aa ?_)
  refine aB ?_
  refine aL (α:={x:Nat×PS // x.1≤w.length∧CS t x.2∧HN t x.2 (w.drop x.1)=LS t w}) [1,2] [] rfl rfl (fun s=>[(5,Ag (Ms t.q.nx.length s.1.2)),(6,eI .i64 s.1.1)]) (fun s=>[]) 0 (fun s=>w.length - s.1.1) (⟨⟨0,Cm t⟩,by simp,Gg ht,rfl⟩) hΓ rfl (by (simp[cX,zC,hΓ])) ?_;rintro⟨⟨i,F⟩,hi,hF,hs⟩;(try dsimp only[cA,cB])
  have hi:i≤w.length:=hi
  have hF:CS t F:=hF
  have hs:HN t F (w.drop i)=LS t w:=hs
  have hbd:=bQ (TB:=TB) ht (F:=F)
  by_cases hlt:i < w.length
  ·obtain⟨c,hc⟩:=get_some hlt
   have hc':w[((i:Nat):Int).toNat]? = some c:=by simpa using hc
   have hcl:=hn c (List.mem_of_getElem? hc)
   have hla:=Jr (TB:=TB) w i c hc'
   have hmv:=ZB (TB:=TB) ht hF hcl
   have hno:=K9 ht hcl hF
   rw [Bl hc,HN] at hs
   generalize GR t F=b at *
   (repeat' first|refine tA rfl ?_ |refine s2 rfl fun _ _hb=>?_ |refine sP rfl (hbd) rfl ?_ |refine s3 rfl ?_ ?_<;>rintro rfl |refine aU rfl ?_ |refine Aa ?_|(refine aC rfl ?_ ?_<;>rintro⟨⟩));all_goals try contradiction
   all_goals first| (exfalso;(simp only[oZ] at *;omega);done)|skip
   ·have hb:b=false:=by simpa using _hb
    subst hb
    refine aK ?_
    refine aS (aB ?_)
    refine rG (IW []) (by kernel_rfl) ?_
    (repeat first|(refine sA rfl ?_ ?_;first|exact tI|omega) |refine sP rfl (hla) rfl ?_|refine sP rfl (hmv) rfl ?_ |refine aU rfl ?_ |refine Aa ?_)
    refine⟨⟨⟨i+1,DV t ((c.toNat:Int) - 97) F⟩,by omega,hno,by simpa using hs⟩,by dsimp only;(omega),[],?_⟩
    simp[cX,zC,hΓ]
   ·have hb:b=true:=by simpa using _hb
    subst hb
    have hs:LS t w=false:=by simpa using hs.symm
    rw [hs]
    refine aE ?_
    (repeat first|refine tA rfl ?_ |refine s2 rfl fun _ _hb=>?_ |refine sP rfl (hbd) rfl ?_ |refine aU rfl ?_ |refine Aa ?_)
    (subst_vars;exact aR ⟨_,rfl,rfl⟩)
  ·obtain rfl:i=w.length:=by omega
   rw [List.drop_length,HN] at hs
   rw [←hs]
   (repeat' first|refine tA rfl ?_ |refine s2 rfl fun _ _hb=>?_ |refine sP rfl (hbd) rfl ?_ |refine s3 rfl ?_ ?_<;>rintro rfl |refine aU rfl ?_ |refine Aa ?_|(refine aC rfl ?_ ?_<;>rintro⟨⟩));all_goals try contradiction
   all_goals first| (exfalso;(simp only[oZ] at *;omega);done)|skip
   refine aE ?_
   (repeat first|refine tA rfl ?_ |refine s2 rfl fun _ _hb=>?_ |refine sP rfl (hbd) rfl ?_ |refine aU rfl ?_ |refine Aa ?_)
   (subst_vars;exact aR ⟨_,rfl,rfl⟩)
 ·have hA:JT t w=false:=by unfold JT;revert h;cases A6 t<;>cases within w t.al<;>simp
  rw [hA]
  refine eG Tryz.func129 rfl (by kernel_rfl) rfl ?_;intro Γ hΓ
  (repeat' first|refine tA rfl ?_ |refine s2 rfl fun _ _hb=>?_ |(refine sC rfl (hv) ?_;intro _ _hb)|(refine sC rfl (hw) ?_;intro _ _hb) |refine s3 rfl ?_ ?_<;>rintro rfl |refine aU rfl ?_ |refine Aa ?_|(refine aC rfl ?_ ?_<;>rintro⟨⟩));all_goals try contradiction
  all_goals first
   | (subst_vars;exact aR ⟨_,rfl,rfl⟩)
   | (exfalso;simp_all;done)
theorem NF(t:Ex)(hk:t.kn=false):Pure Tryz.prog TB 120 [Ew t] (eI .i64 (if A6 ⟨t.s,t.q,t.al⟩ then t.al else -1)):=by
 obtain⟨kn,p,s,q,al⟩:=t
 dsimp only at hk
 subst hk
 have hv:=HP (TB:=TB) ⟨s,q,al⟩
 refine eN Tryz.func120 rfl (by kernel_rfl) rfl ?_;intro Γ hΓ
 (repeat' first|refine tA rfl ?_ |refine s2 rfl fun _ _hb=>?_ |(refine sC rfl (hv) ?_;intro _ _hb) |refine s3 rfl ?_ ?_<;>rintro rfl |refine aU rfl ?_ |refine Aa ?_|(refine aC rfl ?_ ?_<;>rintro⟨⟩)|refine aK ?_|refine aE ?_|refine aB ?_|refine aR ⟨_,rfl,?_⟩)
 all_goals first
  | (show E.o _=E.o _;congr;grind)
  | (exfalso;simp at *;done)
theorem Og(t:Ex)(hk:t.kn=false)(w:W)(hl:w.length≤1099511627776):Pure Tryz.prog TB 175 [Ew t,eT w] (eB (JT ⟨t.s,t.q,t.al⟩ w)):=by
 obtain⟨kn,p,s,q,al⟩:=t
 dsimp only at hk
 subst hk
 have h1:=Nf (TB:=TB) ⟨s,q,al⟩ w hl
 refine eN Tryz.func175 rfl (by kernel_rfl) rfl ?_;intro Γ hΓ
 (repeat' first|refine tA rfl ?_ |refine sP rfl (h1) rfl ?_ |refine aU rfl ?_ |refine Aa ?_|(refine aC rfl ?_ ?_<;>rintro⟨⟩)|refine aK ?_|refine aE ?_|refine aB ?_|refine aR ⟨_,rfl,?_⟩)
 all_goals rfl
theorem gU{t:Ex}(hk:t.kn=false):JU Tryz.prog TB 120 175 t (if A6 ⟨t.s,t.q,t.al⟩ then t.al else -1) (JT ⟨t.s,t.q,t.al⟩):=⟨NF t hk,Og t hk⟩
theorem So(w:W)(i:Nat)(c:UInt8)(hc:w[((i:Nat):Int).toNat]? = some c):Pure Tryz.prog TB 104 [eT w,eI .i64 i] (eI .i64 (if FU c then (c.toNat:Int) - 97 else -1)):=by
 by_cases h:FU c=true
 ·rw [if_pos h]
  rw [Ft,decide_eq_true_eq] at h
  exact Ha w i c hc h
 ·rw [if_neg h]
  rw [Ft,decide_eq_true_eq] at h
  have hb:=c.toNat_lt
  refine eN Tryz.func104 rfl (by kernel_rfl) rfl ?_;intro Γ hΓ
  (repeat' first|(refine sA rfl ?_ ?_;first|exact tI|omega) |(refine s4 rfl ‹_› rfl ?_ ?_;omega) |refine s2 rfl fun _ _hb=>?_ |refine s3 rfl ?_ ?_<;>rintro rfl |refine aU rfl ?_ |refine Aa ?_|(refine aC rfl ?_ ?_<;>rintro⟨⟩)|refine aK ?_|refine aE ?_|refine aB ?_|refine aR ⟨_,rfl,?_⟩)
  all_goals first
   | rfl
   | (exfalso;grind)
theorem Ue(al:Int)(c:UInt8):hasB al (if FU c then (c.toNat:Int) - 97 else -1)=Ie al c:=by
 unfold Ie hasB
 by_cases h:FU c=true
 ·rw [if_pos h,h]
  rw [Ft,decide_eq_true_eq] at h
  have e:((c.toNat:Int) - 97).toNat=c.toNat - 97:=by omega
  rw [e]
  simp
  omega
 ·rw [if_neg h]
  simp [h]
theorem Mh(t:CB):Pure Tryz.prog TB 152 [P5 t] (eB (A6 t)):=by
 unfold A6
 refine eN Tryz.func152 rfl (by kernel_rfl) rfl ?_;intro Γ hΓ
 (repeat' first|refine tA rfl ?_ |(refine sC rfl (BR t.s) ?_;intro _ _hb)|(refine sC rfl (A9 t.q) ?_;intro _ _hb)|(refine sC rfl (Hk t.al) ?_;intro _ _hb) |refine s3 rfl ?_ ?_<;>rintro rfl |refine aU rfl ?_ |refine Aa ?_|(refine aC rfl ?_ ?_<;>rintro⟨⟩)|refine aK ?_|refine aE ?_|refine aB ?_|refine aR ⟨_,rfl,?_⟩)
 all_goals (show E.o _=E.o _;simp_all)
abbrev mH(p:AZ)(t:CB):E:=mF false p t.s t.q t.al
theorem PE(p:AZ)(t:CB):Pure Tryz.prog TB 102 [mH p t] (eI .i64 (if A6 t then t.al else -1)):=by
 have hv:=Mh (TB:=TB) t
 refine eN Tryz.func102 rfl (by kernel_rfl) rfl ?_;intro Γ hΓ
 (repeat' first|refine tA rfl ?_ |refine s2 rfl fun _ _hb=>?_ |(refine sC rfl (hv) ?_;intro _ _hb) |refine s3 rfl ?_ ?_<;>rintro rfl |refine aU rfl ?_ |refine Aa ?_|(refine aC rfl ?_ ?_<;>rintro⟨⟩)|refine aK ?_|refine aE ?_|refine aB ?_|refine aR ⟨_,rfl,?_⟩)
 all_goals first
  | (show E.o _=E.o _;congr;grind)
  | (exfalso;simp at *;done)
abbrev Nd(c:C):C:=.mv 106 [c]
theorem Qk[Dl TB](p:AZ){t:CB}(ht:A6 t=true)(ok:W→Prop):∃m,ML t ok m∧AG Tryz.prog TB 59 0 [] 0 [mH p t] (fun x σ nx=>x=.t [(true,[.d (iD t.al),Nd (.ptr 0 14 0 0)]),(false,[.d (bD true)])]∧σ=ND t m∧nx=5):=by
 obtain⟨m,hm,hns⟩:=SB (TB:=TB) ht ok
 refine⟨m,hm,?_⟩
 have hT:=PE (TB:=TB) p t
 rw [if_pos ht] at hT
 have hta:A2 t.al=true:=by unfold A6 at ht;simp only [Bool.and_eq_true] at ht;exact ht.2.2
 unfold A2 at hta
 simp only [decide_eq_true_eq] at hta
 refine AG.A1 (AG.Ql (m:=0) (Nat.le_of_ble_eq_true rfl) Tryz.func59 rfl (by kernel_rfl) (Nat.le_of_ble_eq_true rfl) ?_);intro Γ hΓ
 (repeat first|refine tA rfl ?_ |refine sP rfl (hT) rfl ?_ |refine aU rfl ?_ |refine Aa ?_)
 refine aB ?_
 (repeat first|refine tA rfl ?_ |refine s2 rfl fun _ _hb=>?_ |refine aU rfl ?_ |refine Aa ?_)
 ((refine aC rfl ?_ ?_<;>rintro⟨⟩);all_goals try (simp at _hb;done))
 ·exfalso;(simp only[oZ] at *;omega)
 ·(repeat first|refine tA rfl ?_ |refine aU rfl ?_ |refine Aa ?_)
  ((refine aC rfl ?_ ?_<;>rintro⟨⟩);all_goals try (simp at _hb;done))
  refine aK ?_
  (repeat first|refine tA rfl ?_ |refine aU rfl ?_)
  (refine pW rfl ?_ rfl (by rfl);refine CA [] rfl rfl 0 (hns) (by decide) ⟨rfl,by decide,by decide⟩ rfl (by simp[cX,zC,hΓ,AW]) ?_;rintro x0 σ1 nx1 ⟨rfl,rfl,rfl⟩ _)
  (repeat first| (refine Ai rfl ?_;refine gA rfl ?_;first| refine gS (fun _ _=>l3 rfl) ?_))
  (repeat first|refine tA rfl ?_|(refine Ai rfl ?_;refine gA rfl ?_;first| refine gS (fun _ _=>AU rfl rfl (by rfl) (by rfl)) ?_))
  refine Aa ?_
  refine aR ⟨_,rfl,[1,2,3,4,5],.t [(true,[.d (iD t.al),Nd (.ptr 0 14 0 0)]),(false,[.d (bD true)])],ND t m,⟨by intro i hi;omega,by decide⟩,rfl,by (simp[cX,zC,hΓ,AW]),rfl,rfl,rfl⟩
def CM(te:Ex):Bool:=if te.kn then AL te.p else A6 ⟨te.s,te.q,te.al⟩
def A5(te:Ex):Int:=if te.kn then te.p.al else te.al
noncomputable def Cv(te:Ex)(w:W):Bool:=if te.kn then LA te.p w else LS ⟨te.s,te.q,te.al⟩ w
def Th(te:Ex)(ok:W→Prop):Prop:=te.kn=false→js ⟨te.s,te.q,te.al⟩ ok
abbrev jy(al:Int):W→Prop:=fun w=>AM (A0 al) w∧w.length≤1048576
theorem lH{tabs:List (Nat×Obj)}[Dl ⟨tabs,none⟩]{t:CB}{ok:W→Prop}(ht:A6 t=true)(hsub:∀w,ok w→jy t.al w)(hfew:js t ok){r:Nat}:JH Tryz.prog ⟨tabs,some (PD t ok,r)⟩ (Nd (Pb r)) (LS t) ok:=
 ⟨rfl,fun hx ha hw=>cK (es:=[eT _]) hx (by simp [JL,ha]) rfl (dw ht hfew hw (fun c hc=>Ii ((hsub _ hw).1 c hc)) (hsub _ hw).2) rfl⟩
theorem kU{tabs:List (Nat×Obj)}{h:Option (Hid×Nat)}{b:Nat}{vals:List Value}(hT:LM ⟨tabs,none⟩ b vals):LM ⟨tabs,h⟩ b vals:=⟨hT.out⟩
theorem jh{tabs:List (Nat×Obj)}{h:Option (Hid×Nat)}(hT:Dl ⟨tabs,none⟩):Dl ⟨tabs,h⟩:=by
 cases hT
 constructor<;>(apply kU;assumption)
theorem Kb{t:Ex}{al:Int}{A:W→Bool}(hT:JU Tryz.prog TB 120 175 t al A)(cols words:List W)(hl:cols.length≤4194304)(hw:∀w∈words,w.length≤4194305)(hb:∀x∈cols,x.length≤4194304)(hwl:words.length≤4194304) :
 Pure Tryz.prog TB 122 [Ew t,CN cols,CN words] (CN (words.map (marks A cols))):=by
 refine eN Tryz.func122 rfl (by kernel_rfl) rfl ?_;intro Γ hΓ
 (repeat first|refine aU rfl ?_)
 (refine Ai rfl ?_;refine Bx (fun _ _=>CW rfl rfl rfl) rfl ?_)
 (repeat first|refine tX rfl ?_ |refine aU rfl ?_ |refine Aa ?_)
 (refine pW rfl ?_ rfl (by rfl);refine BL rfl rfl rfl rfl (by simp) (by rfl) (by rfl) (by rfl) (by rfl) ?_)
 (repeat first|refine tX rfl ?_ |refine aU rfl ?_ |refine Aa ?_)
 refine aB ?_
 refine aL (α:={k:Nat // k≤words.length}) [1,2,3] [] rfl rfl (fun ⟨k,hk⟩=>[(7,.o (.arr 0 1 0 k)),(8,eI .i64 k)]) (fun ⟨k,hk⟩=>[(0,.cells 9 1 ((words.take k).map fun w=>[.d (tD (marks A cols w))]))]) 1 (fun ⟨k,hk⟩=>words.length - k) (⟨0,by omega⟩) hΓ rfl (by (simp[cX,zC,hΓ])) ?_;rintro⟨k,hk⟩;(try dsimp only[cA,cB])
 by_cases hlt:k < words.length
 ·obtain⟨x,hx⟩:=get_some hlt
  have hx':=get_map (g:=DZ) hx
  have hr:=Mi hT cols x hl (hw x (List.mem_of_getElem? hx)) hb
  have hst:(words.take (k+1)).map (fun w=>[C.d (tD (marks A cols w))])=(words.take k).map (fun w=>[C.d (tD (marks A cols w))])++[[C.d (tD (marks A cols x))]]:=by rw [List.take_add_one,hx];simp
  (repeat first|refine sN rfl ?_ |refine tX rfl ?_ |refine s2 rfl fun _ _hb=>?_ |refine aU rfl ?_ |refine Aa ?_)
  (refine aC rfl ?_ ?_<;>rintro⟨⟩)
  ·refine aK ?_
   refine aS (aB ?_)
   refine rG (IW [9]) (by kernel_rfl) ?_
   (repeat first|refine tA rfl ?_ |(refine s4 rfl ‹_› rfl ?_ ?_;omega) |refine sP rfl (hr) rfl ?_)
   (refine pW rfl ?_ rfl (by rfl);refine AH rfl rfl rfl (by first| (simp;done)|(simp;(omega))) rfl (by intro r hr;simp at hr;subst hr;rfl) (by rfl) (Nat.le_of_ble_eq_true rfl) (by simp;omega) ?_)
   (repeat first|(refine sA rfl ?_ ?_;first|exact tI|omega) |refine aU rfl ?_ |refine Aa ?_)
   refine⟨⟨k+1,by omega⟩,by dsimp only;(omega),[1],?_⟩
   simp[cX,zC,hΓ,hst]
  ·exfalso;(simp only[oZ] at *;omega)
 ·obtain rfl:k=words.length:=by omega
  rw [List.take_length]
  (repeat first|refine sN rfl ?_ |refine tX rfl ?_ |refine s2 rfl fun _ _hb=>?_ |refine aU rfl ?_ |refine Aa ?_)
  (refine aC rfl ?_ ?_<;>rintro⟨⟩)
  ·exfalso;(simp only[oZ] at *;omega)
  ·refine aE ?_
   (repeat first|refine tX rfl ?_ |refine aU rfl ?_ |refine Aa ?_)
   refine Av.settle [(6,CN (words.map (marks A cols)))] ⟨⟨_,rfl,.o (.full rfl (by simp [Function.comp_def]) (by simp))⟩,trivial⟩ ?_
   refine aR ⟨_,rfl,rfl⟩
def rowAt(al:Int)(l:List W)(i:Nat):Bool:=match l[i]? with
 | none=>true
 | some w=>!decide (w.length=0) && (within w al && decide (w.dropLast∈l.take i))
def Oq(al:Int)(l:List W)(i:Nat):Bool:=match l[i]? with
 | none=>true
 | some w=>decide (w.length≤4000) && (within w al && !decide (w∈l.take i))
def Gt(f:Nat→Bool)(n:Nat):Bool:=(List.range n).all fun i=>decide (i=0) || f i
theorem OC{f:Nat→Bool}{k:Nat}(h:Gt f k=true)(hf:f k=true):Gt f (k+1)=true:=by
 unfold Gt at *
 rw [List.range_succ,List.all_append,h];simp [hf]
theorem QI{f:Nat→Bool}{k n:Nat}(h0:0 < k)(h:k < n)(hf:f k=false):Gt f n=false:=by
 unfold Gt
 rw [List.all_eq_false]
 exact⟨k,List.mem_range.2 h,by simp [hf];omega⟩
def MA(al:Int)(t:AT):Bool:=decide (0≤al) && (decide (1≤t.rows.length∧t.rows.length≤12) && (decide (1≤t.cols.length∧t.cols.length≤20) && (decide (t.rows[0]? = some []) && decide (t.cols[0]? = some []))))
def FO(al:Int)(t:AT):Bool:=MA al t && (Gt (rowAt al t.rows) t.rows.length && Gt (Oq al t.cols) t.cols.length)
theorem Ug(al:Int)(t:AT)(hz:VC t):Pure Tryz.prog TB 211 [eI .i64 al,DO t] (eB (FO al t)):=by
 have hrl:=hz.rl
 have hcl:=hz.cl
 by_cases h0:MA al t=true
 ·have hss : FO al t=(Gt (rowAt al t.rows) t.rows.length && Gt (Oq al t.cols) t.cols.length):=by unfold FO;rw [h0];rfl
  rw [hss]
  unfold MA at h0
  simp only [Bool.and_eq_true,decide_eq_true_eq] at h0
  obtain⟨h1,h2,h3,h4,h5⟩:=h0
  have h4':=get_map (g:=DZ) (k:=0) h4
  have h5':=get_map (g:=DZ) (k:=0) h5
  have e0:((0:Nat):Int).toNat=(0:Int).toNat:=rfl
  rw [e0] at h4' h5'
  refine eN Tryz.func211 rfl (by kernel_rfl) rfl ?_;intro Γ hΓ
  (repeat' first|refine sN rfl ?_ |refine tA rfl ?_ |(refine s4 rfl ‹_› rfl ?_ ?_;omega) |refine s2 rfl fun _ _hb=>?_ |refine s3 rfl ?_ ?_<;>rintro rfl |refine aU rfl ?_ |refine Aa ?_|(refine aC rfl ?_ ?_<;>rintro⟨⟩)|refine aK ?_|refine aE ?_|refine aB ?_|refine aR ⟨_,rfl,?_⟩)
  all_goals first
   | (exfalso;(simp only[oZ] at *;omega);done)
   | (exfalso;simp at *;done)
   | skip
  refine aL (α:={k:Nat // 1≤k∧k≤t.rows.length∧Gt (rowAt al t.rows) k=true}) [0,3,5,6] [] rfl rfl (fun ⟨k,hk1,hk,ha⟩=>[(7,eI .i64 k)]) (fun ⟨k,hk1,hk,ha⟩=>[]) 0 (fun ⟨k,hk1,hk,ha⟩=>t.rows.length - k) (⟨1,by omega,by omega,rfl⟩) hΓ rfl (by (simp[cX,zC,hΓ])) ?_;rintro⟨k,hk1,hk,ha⟩;(try dsimp only[cA,cB])
  by_cases hlt:k < t.rows.length
  ·obtain⟨x,hx⟩:=get_some hlt
   have hx':=get_map (g:=DZ) hx
   have hxb:=hz.rb x (List.mem_of_getElem? hx)
   have hra:rowAt al t.rows k=(!decide (x.length=0) && (within x al && decide (x.dropLast∈t.rows.take k))):=by unfold rowAt;rw [hx]
   have hww:=Ea (TB:=TB) x al (by omega)
   have hin:Pure Tryz.prog TB 195 [.o (.d (.l ((t.rows.map DZ).take ((k:Nat):Int).toNat))),eT (x.take ((x.length:Int) - 1).toNat)] (eB (decide (x.dropLast∈t.rows.take k))):=by
    have e1:(x.take ((x.length:Int) - 1).toNat)=x.dropLast:=by rw [List.dropLast_eq_take];congr 1;omega
    rw [e1,Int.toNat_natCast,←List.map_take]
    exact IZ _ _ (by simp;omega)
   (repeat first|refine tA rfl ?_ |refine s2 rfl fun _ _hb=>?_ |refine aU rfl ?_ |refine Aa ?_)
   (refine aC rfl ?_ ?_<;>rintro⟨⟩)
   ·(repeat' first|(refine sA rfl ?_ ?_;first|exact tI|omega) |(refine s4 rfl ‹_› rfl ?_ ?_;omega) |refine s2 rfl fun _ _hb=>?_ |(refine sC rfl (hww) ?_;intro _ _hb)|(refine sC rfl (hin) ?_;intro _ _hb)|(refine Ai rfl ?_;refine gA rfl ?_;first| refine gS (fun _ _=>SP rfl rfl (by simp) (by omega) (by (simp only[oZ] at *;omega))) ?_|refine gS (fun _ _=>fE rfl rfl (by (simp only[oZ] at *;omega)) (by omega)) ?_) |refine s3 rfl ?_ ?_<;>rintro rfl |refine aU rfl ?_ |refine Aa ?_ |refine rE (by kernel_rfl) ?_|(refine aC rfl ?_ ?_<;>rintro⟨⟩)|refine aK ?_|refine aE ?_|refine aB ?_|refine aR ⟨_,rfl,?_⟩)
    all_goals first
     | (show eB false=eB _;rw [QI (by omega) hlt (by rw [hra];grind)];rfl)
     | (have hst:=OC ha (by rw [hra];grind);refine⟨⟨k+1,by omega,by omega,hst⟩,by dsimp only;(omega),[],?_⟩;simp[cX,zC,hΓ])
   ·exfalso;(simp only[oZ] at *;omega)
  ·obtain rfl:k=t.rows.length:=by omega
   rw [ha]
   (repeat first|refine tA rfl ?_ |refine s2 rfl fun _ _hb=>?_ |refine aU rfl ?_ |refine Aa ?_)
   (refine aC rfl ?_ ?_<;>rintro⟨⟩)
   ·exfalso;(simp only[oZ] at *;omega)
   ·(repeat' first|refine tA rfl ?_ |refine aU rfl ?_ |refine Aa ?_|(refine aC rfl ?_ ?_<;>rintro⟨⟩)|refine aK ?_|refine aE ?_|refine aB ?_|refine aR ⟨_,rfl,?_⟩)
    refine aL (α:={k:Nat // 1≤k∧k≤t.cols.length∧Gt (Oq al t.cols) k=true}) [0,3,6] [] rfl rfl (fun ⟨k,hk1,hk,ha⟩=>[(9,eI .i64 k)]) (fun ⟨k,hk1,hk,ha⟩=>[]) 0 (fun ⟨k,hk1,hk,ha⟩=>t.cols.length - k) (⟨1,by omega,by omega,rfl⟩) hΓ rfl (by (simp[cX,zC,hΓ])) ?_;rintro⟨k,hk1,hk,ha⟩;(try dsimp only[cA,cB])
    by_cases hlt:k < t.cols.length
    ·obtain⟨x,hx⟩:=get_some hlt
     have hx':=get_map (g:=DZ) hx
     have hxb:=hz.cb x (List.mem_of_getElem? hx)
     have hra:Oq al t.cols k=(decide (x.length≤4000) && (within x al && !decide (x∈t.cols.take k))):=by unfold Oq;rw [hx]
     have hww:=Ea (TB:=TB) x al (by omega)
     have hin:Pure Tryz.prog TB 195 [.o (.d (.l ((t.cols.map DZ).take ((k:Nat):Int).toNat))),eT x] (eB (decide (x∈t.cols.take k))):=by
      rw [Int.toNat_natCast,←List.map_take]
      exact IZ _ _ (by simp;omega)
     (repeat first|refine tA rfl ?_ |refine s2 rfl fun _ _hb=>?_ |refine aU rfl ?_ |refine Aa ?_)
     (refine aC rfl ?_ ?_<;>rintro⟨⟩)
     ·(repeat' first|(refine sA rfl ?_ ?_;first|exact tI|omega) |(refine s4 rfl ‹_› rfl ?_ ?_;omega) |refine s2 rfl fun _ _hb=>?_ |(refine sC rfl (hww) ?_;intro _ _hb)|(refine sC rfl (hin) ?_;intro _ _hb)|(refine Ai rfl ?_;refine gA rfl ?_;first| refine gS (fun _ _=>SP rfl rfl (by simp) (by omega) (by (simp only[oZ] at *;omega))) ?_) |refine s3 rfl ?_ ?_<;>rintro rfl |refine aU rfl ?_ |refine Aa ?_|(refine aC rfl ?_ ?_<;>rintro⟨⟩)|refine aK ?_|refine aE ?_|refine aB ?_|refine aR ⟨_,rfl,?_⟩)
      all_goals first
       | (show eB false=eB _;rw [QI (by omega) hlt (by rw [hra];grind)];rfl)
       | (have hst:=OC ha (by rw [hra];grind);refine⟨⟨k+1,by omega,by omega,hst⟩,by dsimp only;(omega),[],?_⟩;simp[cX,zC,hΓ])
     ·exfalso;(simp only[oZ] at *;omega)
    ·obtain rfl:k=t.cols.length:=by omega
     rw [ha]
     (repeat first|refine tA rfl ?_ |refine s2 rfl fun _ _hb=>?_ |refine aU rfl ?_ |refine Aa ?_)
     (refine aC rfl ?_ ?_<;>rintro⟨⟩)
     ·exfalso;(simp only[oZ] at *;omega)
     ·(repeat' first|refine tA rfl ?_ |refine aU rfl ?_ |refine Aa ?_|(refine aC rfl ?_ ?_<;>rintro⟨⟩)|refine aK ?_|refine aE ?_|refine aB ?_|refine aR ⟨_,rfl,?_⟩)
      rfl
 ·have hss:FO al t=false:=by unfold FO;simp [h0]
  rw [hss]
  have h0':¬(0≤al∧(1≤t.rows.length∧t.rows.length≤12)∧(1≤t.cols.length∧t.cols.length≤20)∧t.rows[0]? = some []∧t.cols[0]? = some []):=by
   intro h;apply h0;unfold MA;simp [h]
  have hR':(t.rows.map DZ)[(0:Int).toNat]? = (t.rows[0]?).map DZ:=by simp
  have hC':(t.cols.map DZ)[(0:Int).toNat]? = (t.cols[0]?).map DZ:=by simp
  have hRn:t.rows[0]? = none→t.rows.length=0:=fun h=>by have:=List.getElem?_eq_none_iff.1 h;omega
  have hCn:t.cols[0]? = none→t.cols.length=0:=fun h=>by have:=List.getElem?_eq_none_iff.1 h;omega
  refine eN Tryz.func211 rfl (by kernel_rfl) rfl ?_;intro Γ hΓ
  cases hR:t.rows[0]?<;>cases hC:t.cols[0]?<;>rw [hR] at hR' h0'<;>rw [hC] at hC' h0'<;>(
   (repeat' first|refine sN rfl ?_ |refine tA rfl ?_ |(refine s4 rfl ‹_› rfl ?_ ?_;omega) |refine s2 rfl fun _ _hb=>?_ |refine s3 rfl ?_ ?_<;>rintro rfl |refine aU rfl ?_ |refine Aa ?_|(refine aC rfl ?_ ?_<;>rintro⟨⟩)|refine aK ?_|refine aE ?_|refine aB ?_|refine aR ⟨_,rfl,?_⟩)
   all_goals first
    | rfl
    | (exfalso;grind;done))
end Go.Am
