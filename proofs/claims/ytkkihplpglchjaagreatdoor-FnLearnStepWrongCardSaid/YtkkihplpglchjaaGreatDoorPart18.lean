/-
  The safety of a task is made: walked; a task's oracle.
-/
import Derived.Test.YtkkihplpglchjaaGreatDoorPart17
import Derived.Test.YtkkihplpglchjaaGreatDoorPart14
import Derived.Test.YtkkihplpglchjaaGreatDoorPart12
import Derived.Test.YtkkihplpglchjaaGreatDoorPart15
set_option linter.constructorNameAsVariable false
set_option linter.unusedSimpArgs false
set_option linter.unusedVariables false
namespace Go.Am
open Go Go.Proofs
set_option maxHeartbeats 1000000
attribute [local irreducible] A1 BZ Lex Bj Ai Spec
variable {TB:Bh}
section
variable {P:Program}{Γ:Ctx}{d:Option Tmp}{ty:TypeId}{pos:String}{af:Array Edge}{g:Option (Nat×Bool)}{f:Env}{σ:Ab}{nx:Nat}
variable {K:E→Ab→Nat→Prop}
theorem Uu{t:TypeId}{z:List Value}{fl:List (Nat×Nat)}{parts:Array (Nat×Operand)}{es:List E}{qs:List (Nat×List C)}[hz:BO P t z][hf:Ev P t fl](p k e q k' e' s k'' e'':Nat)(hp:z[p]? = some (.slice none 0 0))(hp':z[q]? = some (.slice none 0 0))(hp'':z[s]? = some (.slice none 0 0))(hpq:p≠q∧p≠s∧q≠s)(hes:HM f (parts.toList.map (·.2))=some es)(hq:EB fl parts.toList es=some qs)
 (hok:z.all Ng=true) (hle:(qs.all fun x=>Nat.ble (x.1+x.2.length) z.length)=true) (hK:K (.a (B2 qs ((((z.map zC).set p (.arr nx k 0 0)).set q (.arr (nx+1) k' 0 0)).set s (.arr (nx+2) k'' 0 0)))) ((nx+2,.cells e'' k'' [])::(nx+1,.cells e' k' [])::(nx,.cells e k [])::σ) (nx+3)):BZ P TB Γ ⟨d,.build t parts,ty,pos,af,g⟩ f σ nx K:=
 Dy fun V ρ h1 h2 h3=>by
  subst h3
  obtain⟨i,zv,hi,hzv,hzz⟩:=HG hz.out
  obtain⟨hi1,he1⟩:=h2.alloc (c:=0) (nl:=True) (w:=V.w) (ob:=.cells e k []) rfl rfl rfl rfl (Nat.le_refl _) (fun _ _=>rfl) (.inl ⟨by simp [Au],rfl⟩)
  obtain⟨hi2,he2⟩:=hi1.alloc (c:=0) (nl:=True) (w:=V.w) (ob:=.cells e' k' []) rfl rfl rfl rfl (Nat.le_refl _) (fun _ _=>rfl) (.inl ⟨by simp [Au],rfl⟩)
  obtain⟨hi4,he4⟩:=hi2.alloc (c:=0) (nl:=True) (w:=V.w) (ob:=.cells e'' k'' []) rfl rfl rfl rfl (Nat.le_refl _) (fun _ _=>rfl) (.inl ⟨by simp [Au],rfl⟩)
  have he3:=(he1.trans he2).trans he4
  have hfo:=CT (V:=Au (Au (Au V V.w.heap.size 0 True V.w) V.w.heap.size 0 True V.w) V.w.heap.size 0 True V.w) (ρ:=ρ) parts.toList es qs (fun x hx e he=>(h1.get (by simp only [Op.operands];simpa using hx) he).ext he3) hes hq
  have hzr : CU (Au (Au (Au V V.w.heap.size 0 True V.w) V.w.heap.size 0 True V.w) V.w.heap.size 0 True V.w) ((((z.map zC).set p (.arr V.nx k 0 0)).set q (.arr (V.nx+1) k' 0 0)).set s (.arr (V.nx+2) k'' 0 0)) zv.cells:=by
   refine⟨by rw [List.length_set,List.length_set,List.length_set,List.length_map,←hzz];simp,fun j c v hj hv=>?_⟩
   have hzj:z[j]? = some v:=by rw [←hzz,Array.getElem?_toList];exact hv
   by_cases hjs:s=j
   ·subst hjs
    rw [hp''] at hzj
    injection hzj with hzj
    subst hzj
    rw [List.getElem?_set_self (by rw [List.length_set,List.length_set,List.length_map];exact(List.getElem?_eq_some_iff.1 hp'').1)] at hj
    injection hj with hj
    subst hj
    exact AE.nil (by simp [Au]) (by simp [Au])
   ·rw [List.getElem?_set_ne hjs] at hj
    by_cases hjq:q=j
    ·subst hjq
     rw [hp'] at hzj
     injection hzj with hzj
     subst hzj
     rw [List.getElem?_set_self (by rw [List.length_set,List.length_map];exact(List.getElem?_eq_some_iff.1 hp').1)] at hj
     injection hj with hj
     subst hj
     exact AE.nil (by simp [Au]) (by simp [Au])
    ·rw [List.getElem?_set_ne hjq] at hj
     by_cases hjp:p=j
     ·subst hjp
      rw [hp] at hzj
      injection hzj with hzj
      subst hzj
      rw [List.getElem?_set_self (by rw [List.length_map];exact(List.getElem?_eq_some_iff.1 hp).1)] at hj
      injection hj with hj
      subst hj
      exact AE.nil (by simp [Au];omega) (by simp [Au])
     ·rw [List.getElem?_set_ne hjp,List.getElem?_map,hzj] at hj
      injection hj with hj
      subst hj
      exact IX (List.all_eq_true.1 hok v (List.mem_of_getElem? hzj))
  obtain⟨cells,h4,h5⟩:=E6 _ _ _ _ hfo hzr (fun x hx=>by rw [List.length_set,List.length_set,List.length_set,List.length_map];exact Hn _ _ hle x hx)
  have hb:=run_build (P:=P) (ρ:=ρ) (parts:=parts) (V:=V) hi hzv hf.out h4
  refine⟨.agg cells,_,_,_,?_,he3,hi4,(show Bc _ (.a _) _ from ⟨cells,rfl,h5⟩),hK⟩
  show ((do let v ←Instr.build t (parts.map fun (i,x)=>(i,ρ x));pure (Go.Next.value v):Sem Go.Next)).run P V.w=_
  simp only [Sem.run_bind,hb,Result.andThen_ok]
  rfl
end
theorem Hs{a b:Int}(ha:Bo a=true)(hb:Bo b=true):Ac (Fx .i64 a b)=(Ac a).filter fun l=>!Ei b l.toNat:=by
 have key:((List.range 64).all fun x=>(List.range 64).all fun y=>decide (Ac (Fx .i64 (x:Nat) (y:Nat))=(Ac (x:Nat)).filter fun l=>!Ei (y:Nat) l.toNat))=true:=by kernel_rfl
 unfold Bo at ha hb
 simp only [decide_eq_true_eq] at ha hb
 have h1:=List.all_eq_true.1 key a.toNat (List.mem_range.2 (by omega))
 have h2:=List.all_eq_true.1 h1 b.toNat (List.mem_range.2 (by omega))
 rw [Int.toNat_of_nonneg ha.1,Int.toNat_of_nonneg hb.1] at h2
 exact of_decide_eq_true h2
abbrev Xu(t:Cy):List D:=[iD t.s.al,iD t.s.st,FK t.s.es,iD t.q.al,CX t.q.nx,Fu t.q.ac,iD t.al]
abbrev Hm(t:Cy):E:=.a ((Xu t).map .d)
theorem PO(t:Cy)(ok:W→Prop):Il t ok ⟨[],[],[]⟩:=⟨rfl,rfl,List.nodup_nil,by simp,by simp,by simp,by simp⟩
theorem Jv[Eh TB]{t:Cy}(ht:A6 t=true)(ok:W→Prop):∃m,KF t ok m∧AU Tryz.prog TB 107 0 [] 0 [Hm t] (fun x σ nx=>x=.o (.ptr 0 14 0 0)∧σ=K8 t m∧nx=5):=by
 have hs:Bw t.s=true:=by unfold A6 at ht;simp only [Bool.and_eq_true] at ht;exact ht.1
 have hta:Bo t.al=true:=by unfold A6 at ht;simp only [Bool.and_eq_true] at ht;exact ht.2.2
 have hsh:=BY hs
 have hz:=Nd ht
 obtain⟨m1,k,hcase,hadd⟩:=Vq (TB:=TB) ht (PO t ok) (by simp) (KA ht)
 have hm1:m1=Ig t ⟨[],[],[]⟩ (CD t):=by
  rcases hcase with ⟨_,h2⟩|⟨h2,_,_⟩
  ·simp at h2
  ·exact h2
 have hcl:=PL (TB:=TB) ht ⟨[],[],[]⟩ hz
 refine⟨m1,⟨by rw [hm1];exact Sv (PO t ok) .start (.inl rfl) (by simp),by rw [hm1];rfl⟩,?_⟩
 have hmv:=RN (TB:=TB) t.s hs
 have htb:=GV (TB:=TB) t.q (CR ht)
 have hlo:=DV (TB:=TB) (Fx .i64 t.s.al t.al)
 rw [Hs hsh.1 hta] at hlo
 have hlo:Pure Tryz.prog TB 94 [eI .i64 (Fx .i64 t.s.al t.al)] (Ay (CI t)):=hlo
 rw [show Ra t JS=CD t from rfl] at hcl
 have hmp:mapA .u16 (Nv [])=[]:=rfl
 have hpz:Fz JS=[1,0,0,0,0,0,0,0,0,0,0,0]:=rfl
 refine AU.A4 (AU.Pr (m:=0) (Nat.le_of_ble_eq_true rfl) Tryz.func107 rfl (by kernel_rfl) (Nat.le_of_ble_eq_true rfl) ?_);intro Γ hΓ
 (repeat first|refine tA rfl ?_ |refine aU rfl ?_ |refine Aa ?_)
 refine rG (Nn [(14,1),(15,1),(16,1)]) (by kernel_rfl) ?_
 (repeat first|refine tX rfl ?_ |refine sP rfl (hmv) rfl ?_|refine sP rfl (htb) rfl ?_|refine sP rfl (hlo) rfl ?_|(refine Af rfl ?_;refine gA rfl ?_;first| refine gS (fun _ _=>WK rfl rfl rfl) ?_))
 (refine pW rfl ?_ rfl (by rfl);refine Oh ?_)
 (refine pW rfl ?_ rfl (by rfl);refine Uu 10 12 147 12 6 96 13 1 4 rfl rfl rfl (by decide) rfl rfl (by rfl) (by rfl) ?_)
 (refine pW rfl ?_ rfl (by rfl);refine Dm rfl rfl ?_)
 (repeat first|refine tA rfl ?_)
 refine Aa ?_
 refine Ai.Ar [] [] rfl rfl [(3,.o (.ptr 0 14 0 0))] [(0,.cells 143 14 [Xn t (.arr 1 12 0 0) (.mp 2) (.arr 3 6 0 0) (.arr 4 1 0 0)]),(1,.cells 147 12 []),(2,.mp []),(3,.cells 96 6 []),(4,.cells 4 1 [])] [4,1,0,2,3] (rl hΓ rfl) (by (simp[cX,zC,hΓ,AK])) ?_;(try dsimp only[cA,cB])
 (repeat first|refine tA rfl ?_|(refine Af rfl ?_;refine gA rfl ?_;first| refine gS (fun _ _=>Av rfl rfl (by rfl) (by rfl)) ?_) |refine aU rfl ?_)
 (refine pW rfl ?_ rfl (by rfl);refine Ae [0,1,2,3,4] rfl rfl (hcl) ⟨rfl,by decide,by decide⟩ rfl (by simp[cX,zC,hΓ,AK,hpz,hmp]) ?_;rintro x0 σ1 nx1 ⟨rfl,rfl,rfl⟩ _)
 (refine pW rfl ?_ rfl (by rfl);refine Bu [0,1,2,3,4] rfl rfl 1 (hadd) (by decide) ⟨rfl,by decide,by decide⟩ rfl (by simp[cX,zC,hΓ,AK]) ?_;rintro x0 σ1 nx1 ⟨rfl,rfl,rfl⟩ _)
 refine Aa ?_
 (repeat first|refine tA rfl ?_ |refine aU rfl ?_ |refine Aa ?_)
 refine aR ⟨_,rfl,[0,5,6,7,8],.o (.ptr 0 14 0 0),K8 t m1,⟨by intro i hi;omega,by decide⟩,rfl,by (simp[cX,zC,hΓ,AK]),rfl,rfl,rfl⟩
theorem RJ{es:List Eb}{l:Int}{m k:Nat}{e:Eb}(he:es[k]? = some e):BP (es.take (k+1)) l m=if e.l=l∧m.testBit e.f.toNat=true then BP (es.take k) l m ||| 2 ^ e.t.toNat else BP (es.take k) l m:=by
 unfold BP
 rw [List.take_add_one,he,List.foldl_append];rfl
theorem Qj{s:Sys}(hs:Bw s=true){l:Int}{m k:Nat}:BP (s.es.take k) l m < 65536:=HJ fun j hj=>by
 obtain⟨e,he,_,rfl⟩:=El.1 hj
 have hb:=CQ hs (List.mem_of_mem_take he)
 have hh:=BY hs
 unfold Dc at hb
 simp only [Bool.and_eq_true,decide_eq_true_eq] at hb
 omega
theorem Oa{s:Sys}(hs:Bw s=true)(l:Int){m:Nat}(hm:m < 65536):Pure Tryz.prog TB 200 [Dr s,eI .i64 (m:Nat),eI .i64 l] (eI .i64 (BP s.es l m:Nat)):=by
 have hh:=BY hs
 refine eG Tryz.func200 rfl (by kernel_rfl) rfl ?_;intro Γ hΓ
 refine Ai.bound 0 rfl fun hB0=>?_
 have hB:=hB0 (s.es.map Dk) ⟨2,_,rfl,.refl⟩
 rw [List.length_map] at hB
 (repeat first|refine tA rfl ?_ |refine aU rfl ?_ |refine Aa ?_)
 refine aB ?_
 refine aL (α:={k:Nat // k≤s.es.length}) [1,2,3] [] rfl rfl (fun ⟨k,hk⟩=>[(7,eI .i64 (BP (s.es.take k) l m:Nat)),(8,eI .i64 k)]) (fun ⟨k,hk⟩=>[]) 0 (fun ⟨k,hk⟩=>s.es.length - k) (⟨0,by omega⟩) hΓ rfl (by (simp[cX,zC,hΓ]<;>rfl)) ?_;rintro⟨k,hk⟩;(try dsimp only[cA,cB])
 by_cases hlt:k < s.es.length
 ·obtain⟨e,he⟩:=get_some hlt
  have he':=get_map (g:=Dk) he
  have hee:(s.es.map Dk)[((k:Nat):Int).toNat]? = some (Dk e):=by rw [Int.toNat_natCast];exact he'
  have hb:=CQ hs (List.mem_of_getElem? he)
  unfold Dc at hb
  simp only [Bool.and_eq_true,decide_eq_true_eq] at hb
  have hst:=RJ (l:=l) (m:=m) he
  have hlt1:=Qj hs (l:=l) (m:=m) (k:=k)
  have hh1:=CS (TB:=TB) (m:Nat) e.f (by omega) (by omega)
  rw [Jb (by omega) (by omega)] at hh1
  have hbt:=Qb (TB:=TB) e.t (by omega) (by omega)
  have hp2:2 ^ e.t.toNat < 65536:=by
   have:2 ^ e.t.toNat≤2 ^ 15:=Nat.pow_le_pow_right (by omega) (by omega)
   omega
  have hor:=Lj (a:=BP (s.es.take k) l m) (b:=2 ^ e.t.toNat) (by omega) (by omega)
  generalize 2 ^ e.t.toNat=p2 at *
  (repeat first|refine sN rfl ?_ |refine tA rfl ?_ |refine s2 rfl fun _ _hb=>?_ |refine aU rfl ?_ |refine Aa ?_)
  ((refine aC rfl ?_ ?_<;>rintro⟨⟩);all_goals try(exfalso;(simp only[oZ] at *;omega)))
  refine aK ?_
  refine aS (aB ?_)
  (repeat' first|(refine sA rfl ?_ ?_;first|exact tI|omega) |(refine s4 rfl ‹_› rfl ?_ ?_;omega) |refine s2 rfl fun _ _hb=>?_ |(refine sC rfl (hh1) ?_;intro _ _hb)|refine sP rfl (hbt) rfl ?_ |refine s3 rfl ?_ ?_<;>rintro rfl |refine aU rfl ?_ |refine Aa ?_|(refine aC rfl ?_ ?_<;>rintro⟨⟩));all_goals try contradiction
  ·refine⟨⟨k+1,by omega⟩,by dsimp only;(omega),[],?_⟩
   have h1:BP (s.es.take (k+1)) l m=BP (s.es.take k) l m ||| p2:=by rw [hst,if_pos ⟨by simpa using ‹decide (e.l=l)=true›,_hb⟩]
   simp[cX,zC,hΓ,hor,h1]
  ·have h1:BP (s.es.take (k+1)) l m=BP (s.es.take k) l m:=by rw [hst,if_neg (by simp [_hb])]
   refine aK ?_
   (repeat first|(refine sA rfl ?_ ?_;first|exact tI|omega) |refine aU rfl ?_ |refine Aa ?_)
   refine⟨⟨k+1,by omega⟩,by dsimp only;(omega),[],?_⟩
   simp[cX,zC,hΓ,h1]
  ·have h1:BP (s.es.take (k+1)) l m=BP (s.es.take k) l m:=by rw [hst,if_neg (fun h=>by simp [h.1] at _hb)]
   refine aK ?_
   (repeat first|(refine sA rfl ?_ ?_;first|exact tI|omega) |refine aU rfl ?_ |refine Aa ?_)
   refine⟨⟨k+1,by omega⟩,by dsimp only;(omega),[],?_⟩
   simp[cX,zC,hΓ,h1]
 ·obtain rfl:k=s.es.length:=by omega
  rw [List.take_length]
  (repeat first|refine sN rfl ?_ |refine tA rfl ?_ |refine s2 rfl fun _ _hb=>?_ |refine aU rfl ?_ |refine Aa ?_)
  ((refine aC rfl ?_ ?_<;>rintro⟨⟩);all_goals try(exfalso;(simp only[oZ] at *;omega)))
  refine aE ?_
  (repeat first|refine tA rfl ?_ |refine aU rfl ?_ |refine Aa ?_)
  (subst_vars;exact aR ⟨_,rfl,rfl⟩)
abbrev Ks(n:Nat)(F:PS):List Int:=(List.range n).map fun p=>(F p:Int)
def Cl(t:Cy)(G:PS)(i k:Nat):Prop:=∀p,p < t.q.nx.length→∀l∈CI t,(p < i∨(p=i∧l∈(CI t).take k))→∀j,(BP t.s.es l (G p)).testBit j=true→(G (CW t.q p l).toNat).testBit j=true
structure Px (t:Cy) (F0 F:PS) (i k:Nat) (G:PS) (b:Bool):Prop where
 ok:Da t G
 lo:∀p j,(F0 p).testBit j=true→(G p).testBit j=true
 hi:∀p j,(G p).testBit j=true→Pp t F0 p j
 le:∀p,F p≤G p
 yes:b=true→K6 G < K6 F
 no:b=false→G=F∧Cl t F i k
theorem X7{F G:PS}(h:∀p,F p≤G p):K6 G≤K6 F:=by
 unfold K6
 repeat' apply Nat.add_le_add
 all_goals exact Nat.sub_le_sub_left (h _) _
def Sj(G:PS)(x v:Nat):PS:=fun p=>if p=x then v else G p
theorem Px.MU{t:Cy}(ht:A6 t=true){F0 F G:PS}{i k:Nat}{b:Bool}(h:Px t F0 F i k G b)(hi:i < t.q.nx.length){l:Int}(hk:(CI t)[k]? = some l){x:Nat}(hx:CW t.q i l=(x:Int))(hne:G x ||| BP t.s.es l (G i)≠G x):Px t F0 F i (k+1) (Sj G x (G x ||| BP t.s.es l (G i))) true:=by
 have hl:=List.mem_of_getElem? hk
 have hin:=GH ht hl
 have hga:=Ej (CR ht) hi hin.1 hin.2.1
 have hss:=Hy ht (l:=l) (h.ok.lt i)
 unfold C6 at hss
 rw [if_pos hin.2.2] at hss
 have hlt:G x ||| BP t.s.es l (G i) < 65536:=by have:=Nat.or_lt_two_pow (n:=16) (h.ok.lt x) hss;omega
 have hle:∀p,G p≤Sj G x (G x ||| BP t.s.es l (G i)) p:=fun p=>by
  unfold Sj
  split
  ·rename_i e;subst e;exact Nat.left_le_or
  ·exact Nat.le_refl _
 refine⟨⟨fun p=>?_,fun p hp=>?_⟩,fun p j hj=>?_,fun p j hj=>?_,fun p=>Nat.le_trans (h.le p) (hle p),fun _=>?_,fun h=>by cases h⟩
 ·unfold Sj
  split
  ·exact hlt
  ·exact h.ok.lt p
 ·unfold Sj
  rw [if_neg (by omega)];exact h.ok.z p hp
 ·have:=h.lo p j hj
  unfold Sj
  split
  ·rename_i e;subst e;rw [Nat.testBit_or,this];rfl
  ·exact this
 ·unfold Sj at hj
  split at hj
  ·rename_i e
   subst e
   rw [Nat.testBit_or,Bool.or_eq_true] at hj
   rcases hj with hj|hj
   ·exact h.hi p j hj
   ·obtain⟨e,he,⟨h3,h4⟩,h5⟩:=El.1 hj
    subst h3
    have:=Pp.step (h.hi i _ h4) he hl rfl
    rw [hx,h5] at this
    simpa using this
  ·exact h.hi p j hj
 ·have h1:=X7 h.le
  refine Nat.lt_of_lt_of_le (Tc h.ok.lt (fun p=>?_) hle fun he=>hne ?_) h1
  ·unfold Sj
   split
   ·exact hlt
   ·exact h.ok.lt p
  ·have hn:=AI (CR ht)
   have:=O9 he x (by omega)
   simpa [Sj] using this
theorem Px.bV{t:Cy}(ht:A6 t=true){F0 F G:PS}{i k:Nat}{b:Bool}(h:Px t F0 F i k G b){l:Int}(hk:(CI t)[k]? = some l){x:Nat}(hx:CW t.q i l=(x:Int))(he:G x ||| BP t.s.es l (G i)=G x):Px t F0 F i (k+1) G b:=
 ⟨h.ok, h.lo,h.hi,h.le,h.yes,fun hb=>by
  obtain⟨rfl,hc⟩:=h.no hb
  refine⟨rfl,fun p hp l' hl' hor j hj=>?_⟩
  rcases hor with h1|⟨rfl,h1⟩
  ·exact hc p hp l' hl' (.inl h1) j hj
  ·rw [List.take_add_one,hk] at h1
   rcases List.mem_append.1 h1 with h1|h1
   ·exact hc p hp l' hl' (.inr ⟨rfl,h1⟩) j hj
   ·simp at h1
    subst h1
    rw [hx,Int.toNat_natCast,←he,Nat.testBit_or,hj,Bool.or_true]⟩
theorem Px.row{t:Cy}{F0 F G:PS}{i:Nat}{b:Bool}(h:Px t F0 F i (CI t).length G b):Px t F0 F (i+1) 0 G b:=
 ⟨h.ok,h.lo,h.hi,h.le,h.yes,fun hb=>by
  obtain⟨rfl,hc⟩:=h.no hb
  refine⟨rfl,fun p hp l' hl' hor j hj=>?_⟩
  rcases hor with h1|⟨rfl,h1⟩
  ·rcases Nat.lt_or_ge p i with h2|h2
   ·exact hc p hp l' hl' (.inl h2) j hj
   ·exact hc p hp l' hl' (.inr ⟨by omega,by rw [List.take_length];exact hl'⟩) j hj
  ·simp at h1⟩
theorem Px.done{t:Cy}(ht:A6 t=true){F0 F G:PS}(h0:Da t F0)(h:Px t F0 F t.q.nx.length 0 G false):G=Ra t F0:=by
 obtain⟨rfl,hc⟩:=h.no rfl
 exact VF ht h0 h.ok.z h.lo h.hi fun p l j hp hl hj=>hc p hp l hl (.inl hp) j hj
theorem YF{a b:Int}(ha:Bo a=true)(hb:Bo b=true):a - Ey .i64 a b=Fx .i64 a b∧0≤Ey .i64 a b∧Ey .i64 a b≤63:=by
 have key:((List.range 64).all fun x=>(List.range 64).all fun y=>decide (((x:Nat):Int) - Ey .i64 (x:Nat) (y:Nat)=Fx .i64 (x:Nat) (y:Nat)∧0≤Ey .i64 (x:Nat) (y:Nat)∧Ey .i64 (x:Nat) (y:Nat)≤63))=true:=by kernel_rfl
 unfold Bo at ha hb
 simp only [decide_eq_true_eq] at ha hb
 have h1:=List.all_eq_true.1 key a.toNat (List.mem_range.2 (by omega))
 have h2:=List.all_eq_true.1 h1 b.toNat (List.mem_range.2 (by omega))
 rw [Int.toNat_of_nonneg ha.1,Int.toNat_of_nonneg hb.1] at h2
 exact of_decide_eq_true h2
theorem O8{n x v:Nat}{G:PS}:((Ks n G).map AQ).set x (AQ (v:Int))=(Ks n (Sj G x v)).map AQ:=by
 apply List.ext_getElem?
 intro i
 rw [List.getElem?_set]
 by_cases hi:i < n
 ·have h1:∀H:PS,((Ks n H).map AQ)[i]? = some (AQ (H i:Int)):=fun H=>by simp [hi]
  rw [h1,h1]
  unfold Sj
  by_cases e:x=i
  ·subst e;rw [if_pos rfl,if_pos (by simpa using hi),if_pos rfl]
  ·rw [if_neg e,if_neg (fun h=>e h.symm)]
 ·have h1:∀H:PS,((Ks n H).map AQ)[i]? = none:=fun H=>List.getElem?_eq_none (by simp;omega)
  rw [h1,h1]
  by_cases e:x=i
  ·subst e;rw [if_pos rfl,if_neg (by simpa using hi)]
  ·rw [if_neg e]
theorem O7{n x:Nat}{G:PS}(h:x < n):((Ks n G).map AQ)[0+((x:Nat):Int).toNat]? = some (AQ (G x:Int)):=by rw [Nat.zero_add,Int.toNat_natCast];simp [h]
theorem Px.start{t:Cy}{F0 F:PS}(hF:Da t F)(h1:∀p j,(F0 p).testBit j=true→(F p).testBit j=true)(h2:∀p j,(F p).testBit j=true→Pp t F0 p j):Px t F0 F 0 0 F false:=
 ⟨hF,h1,h2,fun _=>Nat.le_refl _,fun h=>(by cases h),fun _=>⟨rfl,fun p _ l _ h=>by simp at h⟩⟩
theorem Mj{t:Cy}(ht:A6 t=true){F0:PS}(hF0:Da t F0):Spec Tryz.prog TB 199 [(0,.cells 3 1 ((Ks t.q.nx.length F0).map AQ))] 1 [Hm t,.o (.arr 0 1 0 t.q.nx.length)] (fun x σ nx=>x=.o (.arr 0 1 0 t.q.nx.length)∧σ=[(0,.cells 3 1 ((Ks t.q.nx.length (Ra t F0)).map AQ))]∧nx=1):=by
 have hs:Bw t.s=true:=by unfold A6 at ht;simp only [Bool.and_eq_true] at ht;exact ht.1
 have hta:Bo t.al=true:=by unfold A6 at ht;simp only [Bool.and_eq_true] at ht;exact ht.2.2
 have hsh:=BY hs
 have haut:=CR ht
 have hah:=AI haut
 have hsa:=YF hsh.1 hta
 have hla:=hsh.1
 unfold Bo at hla
 simp only [decide_eq_true_eq] at hla
 have hlo:Pure Tryz.prog TB 88 [eI .i64 (t.s.al - Ey .i64 t.s.al t.al)] (Ay (CI t)):=by
  have:=BM (TB:=TB) (t.s.al - Ey .i64 t.s.al t.al)
  rw [hsa.1,Hs hsh.1 hta] at this
  rw [hsa.1];exact this
 have hll:(CI t).length≤6:=by
  unfold CI
  have h1:(Ac t.s.al).length≤6:=AR _ _
  exact Nat.le_trans (List.length_filter_le _ _) h1
 refine eR Tryz.func199 rfl (by kernel_rfl) rfl ?_;intro Γ hΓ
 (repeat first|(refine sA rfl ?_ ?_;first|exact tI|omega) |refine sP rfl (hlo) rfl ?_ |refine aU rfl ?_ |refine Aa ?_)
 refine aB ?_
 refine aL (α:={s:PS×Bool // Da t s.1∧(∀p j,(F0 p).testBit j=true→(s.1 p).testBit j=true)∧(∀p j,(s.1 p).testBit j=true→Pp t F0 p j)∧(s.2=false→s.1=Ra t F0)}) [1,2,5] [] rfl rfl (fun s=>[(6,eB s.1.2)]) (fun s=>[(0,.cells 3 1 ((Ks t.q.nx.length s.1.1).map AQ))]) 1 (fun s=>(if s.1.2 then K6 s.1.1+1 else 0)) (⟨⟨F0,true⟩,hF0,fun _ _ h=>h,fun _ _ h=>.base h,fun h=>by cases h⟩) hΓ rfl (by (simp[cX,zC,hΓ])) ?_;rintro⟨⟨F,b⟩,hF,h1,h2,h3⟩;(try dsimp only[cA,cB])
 have hF:Da t F:=hF
 cases b with
 | false=>
  obtain rfl:F=Ra t F0:=h3 rfl
  (repeat first|refine tA rfl ?_ |refine aU rfl ?_ |refine Aa ?_)
  (refine aC rfl ?_ ?_<;>rintro⟨⟩)
  refine aE ?_
  (repeat first|refine tA rfl ?_ |refine aU rfl ?_ |refine Aa ?_)
  refine aR ⟨_,rfl,[0],.o (.arr 0 1 0 t.q.nx.length),_,⟨by intro i hi;match i with|0=>rfl,by decide⟩,rfl,?_,rfl,rfl,rfl⟩
  (simp[cX,zC,hΓ])
 | true =>
  (repeat first|refine tA rfl ?_ |refine aU rfl ?_ |refine Aa ?_)
  (refine aC rfl ?_ ?_<;>rintro⟨⟩)
  refine aK ?_
  refine aB ?_
  (repeat first|refine tA rfl ?_ |refine aU rfl ?_ |refine Aa ?_)
  refine aB ?_
  refine aL (α:={s:Nat×PS×Bool // s.1≤t.q.nx.length∧Px t F0 F s.1 0 s.2.1 s.2.2}) [1,2,5] [] rfl rfl (fun s=>[(6,eB s.1.2.2),(7,eI .i64 s.1.1)]) (fun s=>[(0,.cells 3 1 ((Ks t.q.nx.length s.1.2.1).map AQ))]) 1 (fun s=>t.q.nx.length - s.1.1) (⟨⟨0,F,false⟩,by simp,.start hF h1 h2⟩) hΓ rfl (by (simp[cX,zC,hΓ])) ?_;rintro⟨⟨i,G,b⟩,hi,hG⟩;(try dsimp only[cA,cB])
  have hi:i≤t.q.nx.length:=hi
  have hG:Px t F0 F i 0 G b:=hG
  by_cases hin:i < t.q.nx.length
  ·(repeat first|refine tA rfl ?_ |refine s2 rfl fun _ _hb=>?_ |refine aU rfl ?_ |refine Aa ?_)
   ((refine aC rfl ?_ ?_<;>rintro⟨⟩);all_goals try(exfalso;(simp only[oZ] at *;omega)))
   refine aK ?_
   refine aS (aB ?_)
   (repeat first|refine tA rfl ?_ |refine aU rfl ?_ |refine Aa ?_)
   refine aB ?_
   refine aL (α:={s:Nat×PS×Bool // s.1≤(CI t).length∧Px t F0 F i s.1 s.2.1 s.2.2}) [1,2,5,7] [] rfl rfl (fun s=>[(6,eB s.1.2.2),(8,eI .i64 s.1.1)]) (fun s=>[(0,.cells 3 1 ((Ks t.q.nx.length s.1.2.1).map AQ))]) 1 (fun s=>(CI t).length - s.1.1) (⟨⟨0,G,b⟩,by simp,hG⟩) hΓ rfl (by (simp[cX,zC,hΓ])) ?_;rintro⟨⟨k,G',b'⟩,hk,hG'⟩;(try dsimp only[cA,cB])
   have hk:k≤(CI t).length:=hk
   have hG':Px t F0 F i k G' b':=hG'
   clear hG
   by_cases hkl:k < (CI t).length
   ·obtain⟨l,hlk⟩:=get_some hkl
    have hin':=GH ht (List.mem_of_getElem? hlk)
    have hl':((CI t).map Bv)[((k:Nat):Int).toNat]? = some (Bv l):=by rw [Int.toNat_natCast];simp [hlk]
    have hgo:=HR (TB:=TB) t.q haut i hin l hin'.1 hin'.2.1
    have hga:=Ej haut hin hin'.1 hin'.2.1
    obtain⟨x,hx⟩:∃x:Nat,CW t.q i l=x:=⟨(CW t.q i l).toNat,by omega⟩
    rw [hx] at hgo hga
    have hst:=Oa (TB:=TB) hs l (hG'.ok.lt i)
    have hms:BP t.s.es l (G' i) < 65536:=by
     have:=Qj hs (l:=l) (m:=G' i) (k:=t.s.es.length)
     rwa [List.take_length] at this
    have r1:=O7 (n:=t.q.nx.length) (G:=G') (x:=x) (by omega)
    have r2:=O7 (n:=t.q.nx.length) (G:=G') (x:=i) hin
    have hxl:=hG'.ok.lt x
    have hor:=Lj (a:=G' x) (b:=BP t.s.es l (G' i)) (by omega) (by omega)
    have hset:=O8 (n:=t.q.nx.length) (x:=x) (v:=G' x ||| BP t.s.es l (G' i)) (G:=G')
    (repeat first|refine sN rfl ?_ |refine tA rfl ?_ |refine s2 rfl fun _ _hb=>?_ |refine aU rfl ?_ |refine Aa ?_)
    ((refine aC rfl ?_ ?_<;>rintro⟨⟩);all_goals try(exfalso;(simp only[oZ] at *;omega)))
    refine aK ?_
    refine aS (aB ?_)
    (repeat first|refine aU rfl ?_)
    refine rG (HN []) (by kernel_rfl) ?_
    (repeat first|refine tA rfl ?_ |(refine s4 rfl ‹_› rfl ?_ ?_;omega) |refine sP rfl (hgo) rfl ?_ |refine aU rfl ?_ |refine Aa ?_)
    refine rG (HN []) (by kernel_rfl) ?_
    (repeat first|((first|refine sA rfl ?_ ?_|refine s4 rfl ‹_› rfl ?_ ?_);first|exact tI|omega) |refine s2 rfl fun _ _hb=>?_ |refine sP rfl (hst) rfl ?_ |refine aU rfl ?_ |refine Aa ?_)
    (refine aC rfl ?_ ?_<;>rintro⟨⟩)
    ·have hne:G' x ||| BP t.s.es l (G' i)≠G' x:=by
      rw [hor] at _hb
      simp only [decide_eq_true_eq] at _hb
      omega
     (repeat first|(refine sA rfl ?_ ?_;first|exact tI|omega) |refine t4 rfl ‹_› rfl ?_ |refine aU rfl ?_ |refine Aa ?_)
     have hs1:=hG'.MU ht hin hlk hx hne
     generalize Sj G' x (G' x ||| BP t.s.es l (G' i))=G2 at *
     refine⟨⟨⟨k+1,G2,true⟩,by omega,hs1⟩,by dsimp only;(omega),[0],?_⟩
     simp[cX,zC,hΓ,hor];simpa [Function.comp_def] using hset
    ·have he:G' x ||| BP t.s.es l (G' i)=G' x:=by
      rw [hor] at _hb
      simp only [decide_eq_false_iff_not] at _hb
      omega
     refine aK ?_
     (repeat first|(refine sA rfl ?_ ?_;first|exact tI|omega) |refine aU rfl ?_ |refine Aa ?_)
     refine⟨⟨⟨k+1,G',b'⟩,by omega,hG'.bV ht hlk hx he⟩,by dsimp only;(omega),[0],?_⟩
     simp[cX,zC,hΓ]
   ·obtain rfl:k=(CI t).length:=by omega
    (repeat first|refine sN rfl ?_ |refine tA rfl ?_ |refine s2 rfl fun _ _hb=>?_ |refine aU rfl ?_ |refine Aa ?_)
    ((refine aC rfl ?_ ?_<;>rintro⟨⟩);all_goals try(exfalso;(simp only[oZ] at *;omega)))
    refine aE ?_
    (repeat first|(refine sA rfl ?_ ?_;first|exact tI|omega) |refine aU rfl ?_ |refine Aa ?_)
    refine⟨⟨⟨i+1,G',b'⟩,by omega,hG'.row⟩,by dsimp only;(omega),[0],?_⟩
    simp[cX,zC,hΓ]
  ·obtain rfl:i=t.q.nx.length:=by omega
   (repeat first|refine tA rfl ?_ |refine s2 rfl fun _ _hb=>?_ |refine aU rfl ?_ |refine Aa ?_)
   ((refine aC rfl ?_ ?_<;>rintro⟨⟩);all_goals try(exfalso;(simp only[oZ] at *;omega)))
   refine aE ?_
   refine⟨⟨⟨G,b⟩,hG.ok,hG.lo,hG.hi,fun hb=>by have hb:b=false:=hb;subst hb;exact hG.done ht hF0⟩,by cases b<;>simp_all [hG.yes],[0],?_⟩
   simp[cX,zC,hΓ]
structure Hc (P:Program) (TB:Bh) (gA gQ:FuncId) (t:Cx) (al:Int) (A:W→Bool):Prop where
 alph:Pure P TB gA [B8 t] (eI .i64 al)
 ask:∀w:W,w.length≤1099511627776→Pure P TB gQ [B8 t,eT w] (eB (A w))
theorem cO{t:Cx}(hk:t.kn=true):Hc Tryz.prog TB 60 101 t (if A5 t.p then t.p.al else -1) (FJ t.p):=⟨La t hk,LB t hk⟩
structure Ly (t:AT):Prop where
 rl:t.rows.length≤4194304
 cl:t.cols.length≤4194304
 rb:∀w∈t.rows,w.length≤4194304
 cb:∀w∈t.cols,w.length≤4194304
theorem Gg(l:List W)(s:W)(hl:l.length≤1099511627776):Pure Tryz.prog TB 62 [Bp l,eT s] (eB (decide (s∈l))):=by
 refine eN Tryz.func62 rfl (by kernel_rfl) rfl ?_;intro Γ hΓ
 (repeat first|refine tA rfl ?_ |refine aU rfl ?_ |refine Aa ?_)
 refine aB ?_
 refine aL (α:={k:Nat // k≤l.length∧s∉l.take k}) [0,1] [] rfl rfl (fun ⟨k,hk,hn⟩=>[(5,eI .i64 k)]) (fun ⟨k,hk,hn⟩=>[]) 0 (fun ⟨k,hk,hn⟩=>l.length - k) (⟨0,by omega,by simp⟩) hΓ rfl (by (simp[cX,zC,hΓ])) ?_;rintro⟨k,hk,hn⟩;(try dsimp only[cA,cB])
 by_cases hlt:k < l.length
 ·obtain⟨x,hx⟩:=get_some hlt
  have hx':=get_map (g:=BD) hx
  by_cases hs:x=s
  ·have hm:s∈l:=hs ▸ List.mem_of_getElem? hx
   (repeat first|refine sN rfl ?_ |refine tA rfl ?_ |refine s2 rfl fun _ _hb=>?_ |refine aU rfl ?_ |refine Aa ?_)
   (refine aC rfl ?_ ?_<;>rintro⟨⟩)
   ·(repeat' first|(refine sA rfl ?_ ?_;first|exact tI|omega) |(refine s4 rfl ‹_› rfl ?_ ?_;omega) |refine s2 rfl fun _ _hb=>?_ |refine aU rfl ?_ |refine Aa ?_|(refine aC rfl ?_ ?_<;>rintro⟨⟩)|refine aK ?_|refine aE ?_|refine aB ?_|refine aR ⟨_,rfl,?_⟩)
    ·simp [hm]
    ·exfalso;simp [hs] at _hb
   ·exfalso;(simp only[oZ] at *;omega)
  ·have hn2:s∉l.take (k+1):=by
    rw [List.take_add_one,hx]
    intro h
    rcases List.mem_append.1 h with h|h
    ·exact hn h
    ·simp at h;exact hs h.symm
   (repeat first|refine sN rfl ?_ |refine tA rfl ?_ |refine s2 rfl fun _ _hb=>?_ |refine aU rfl ?_ |refine Aa ?_)
   (refine aC rfl ?_ ?_<;>rintro⟨⟩)
   ·(repeat' first|(refine sA rfl ?_ ?_;first|exact tI|omega) |(refine s4 rfl ‹_› rfl ?_ ?_;omega) |refine s2 rfl fun _ _hb=>?_ |refine aU rfl ?_ |refine Aa ?_|(refine aC rfl ?_ ?_<;>rintro⟨⟩)|refine aK ?_|refine aE ?_|refine aB ?_|refine aR ⟨_,rfl,?_⟩)
    ·exfalso;simp [hs] at _hb
    ·refine⟨⟨k+1,by omega,hn2⟩,by dsimp only;(omega),[],?_⟩
     simp[cX,zC,hΓ]
   ·exfalso;(simp only[oZ] at *;omega)
 ·rw [List.take_of_length_le (by omega)] at hn
  (repeat first|refine sN rfl ?_ |refine tA rfl ?_ |refine s2 rfl fun _ _hb=>?_ |refine aU rfl ?_ |refine Aa ?_)
  (refine aC rfl ?_ ?_<;>rintro⟨⟩)
  ·exfalso;(simp only[oZ] at *;omega)
  ·(repeat' first|refine tA rfl ?_ |refine aU rfl ?_ |refine Aa ?_|(refine aC rfl ?_ ?_<;>rintro⟨⟩)|refine aK ?_|refine aE ?_|refine aB ?_|refine aR ⟨_,rfl,?_⟩)
   simp [hn]
theorem RM{A:W→Bool}{cols:List W}{w c:W}{k:Nat}(hc:cols[k]? = some c):marks A (cols.take (k+1)) w=marks A (cols.take k) w++[Oe (A (w++c))]:=by
 unfold marks
 rw [List.take_add_one,hc];simp
theorem Ur{A:W→Bool}{cols:List W}{w:W}:(marks A cols w).length=cols.length:=by simp [marks]
theorem Kc{t:Cx}{al:Int}{A:W→Bool}(hT:Hc Tryz.prog TB 60 101 t al A)(cols:List W)(w:W)(hl:cols.length≤4194304)(hw:w.length≤4194305)(hb:∀x∈cols,x.length≤4194304) :
 Pure Tryz.prog TB 82 [B8 t,Bp cols,eT w] (eT (marks A cols w)):=by
 refine eN Tryz.func82 rfl (by kernel_rfl) rfl ?_;intro Γ hΓ
 (repeat first|refine tA rfl ?_ |refine aU rfl ?_ |refine Aa ?_)
 refine aB ?_
 refine aL (α:={k:Nat // k≤cols.length}) [1,2,3] [] rfl rfl (fun ⟨k,hk⟩=>[(7,eT (marks A (cols.take k) w)),(8,eI .i64 k)]) (fun ⟨k,hk⟩=>[]) 0 (fun ⟨k,hk⟩=>cols.length - k) (⟨0,by omega⟩) hΓ rfl (by (simp[cX,zC,hΓ]<;>rfl)) ?_;rintro⟨k,hk⟩;(try dsimp only[cA,cB])
 have hml:(marks A (cols.take k) w).length≤4194304:=by rw [Ur,List.length_take];omega
 by_cases hlt:k < cols.length
 ·obtain⟨x,hx⟩:=get_some hlt
  have hx':=get_map (g:=BD) hx
  have hxb:=hb x (List.mem_of_getElem? hx)
  have hq:=hT.ask (w++x) (by simp;omega)
  have hst:=RM (A:=A) (w:=w) hx
  (repeat first|refine sN rfl ?_ |refine tA rfl ?_ |refine s2 rfl fun _ _hb=>?_ |refine aU rfl ?_ |refine Aa ?_)
  (refine aC rfl ?_ ?_<;>rintro⟨⟩)
  ·refine aK ?_
   refine aS (aB ?_)
   (repeat first|(refine sA rfl ?_ ?_;first|exact tI|omega) |(refine s4 rfl ‹_› rfl ?_ ?_;omega) |(refine sC rfl (hq) ?_;intro _ _hb) |refine aU rfl ?_ |refine Aa ?_ |refine rE (by kernel_rfl) ?_)
   (refine aC rfl ?_ ?_<;>rintro⟨⟩)
   ·rw [_hb] at hst
    (repeat first|(refine sA rfl ?_ ?_;first|exact tI|omega|simp only[oZ] at *;omega) |refine aU rfl ?_ |refine Aa ?_)
    refine⟨⟨k+1,by omega⟩,by dsimp only;(omega),[],?_⟩
    simp[cX,zC,hΓ,hst,Oe]
   ·rw [_hb] at hst
    (repeat first|(refine sA rfl ?_ ?_;first|exact tI|omega|simp only[oZ] at *;omega) |refine aU rfl ?_ |refine Aa ?_)
    refine⟨⟨k+1,by omega⟩,by dsimp only;(omega),[],?_⟩
    simp[cX,zC,hΓ,hst,Oe]
  ·exfalso;(simp only[oZ] at *;omega)
 ·obtain rfl:k=cols.length:=by omega
  rw [List.take_length]
  (repeat first|refine sN rfl ?_ |refine tA rfl ?_ |refine s2 rfl fun _ _hb=>?_ |refine aU rfl ?_ |refine Aa ?_)
  (refine aC rfl ?_ ?_<;>rintro⟨⟩)
  ·exfalso;(simp only[oZ] at *;omega)
  ·(repeat' first|refine tA rfl ?_ |refine aU rfl ?_ |refine Aa ?_|(refine aC rfl ?_ ?_<;>rintro⟨⟩)|refine aK ?_|refine aE ?_|refine aB ?_|refine aR ⟨_,rfl,?_⟩)
   rfl
theorem OB{n:Nat}:List.replicate n (AQ 0)=(Ks n fun _=>0).map AQ:=by
 apply List.ext_getElem?
 intro i
 by_cases h:i < n
 ·simp [h]
 ·rw [List.getElem?_eq_none (by simp;omega),List.getElem?_eq_none (by simp;omega)]
theorem Sg{n:Nat}:(List.replicate n (AQ 0)).set 0 (AQ 1)=(Ks n JS).map AQ:=by
 rw [OB]
 have:=O8 (n:=n) (x:=0) (v:=1) (G:=fun _=>0)
 have e:Sj (fun _=>0) 0 1=JS:=by funext p;rfl
 rw [e] at this
 exact this
theorem RI{t:Cy}(ht:A6 t=true):Pure Tryz.prog TB 172 [Hm t] (Ay (Ks t.q.nx.length (CD t))):=by
 have hah:=AI (CR ht)
 have hcl:=Mj (TB:=TB) ht (Nd ht)
 rw [show Ra t JS=CD t from rfl] at hcl
 have hst:=Sg (n:=t.q.nx.length)
 have hr0:(List.replicate t.q.nx.length (AQ 0))[0+(0:Int).toNat]? = some (AQ 0):=by rw [List.getElem?_replicate,if_pos];simp;omega
 refine eG Tryz.func172 rfl (by kernel_rfl) rfl ?_;intro Γ hΓ
 (repeat first|refine sN rfl ?_ |refine tA rfl ?_ |refine aU rfl ?_ |refine Aa ?_)
 (refine pW rfl ?_ rfl (by rfl);refine Km rfl rfl (by rfl) (by rfl) (Nat.le_of_ble_eq_true rfl) (by omega) (by omega) (by omega) ?_)
 (repeat first|(refine sA rfl ?_ ?_;first|exact tI|omega) |refine t4 rfl ‹_› rfl ?_ |refine aU rfl ?_ |refine Aa ?_)
 (refine pW rfl ?_ rfl (by rfl);refine Ae [0] rfl rfl (hcl) ⟨rfl,by decide,by decide⟩ rfl (by simp[cX,zC,hΓ,hst]) ?_;rintro x0 σ1 nx1 ⟨rfl,rfl,rfl⟩ _)
 (repeat first|refine tA rfl ?_)
 refine Aa ?_
 refine Ai.Ar [] [] rfl rfl [(2,.o (.arr 0 1 0 t.q.nx.length))] [(0,.cells 3 1 ((Ks t.q.nx.length (CD t)).map AQ))] [0] (rl hΓ rfl) (by (simp[cX,zC,hΓ,hst])) ?_;(try dsimp only[cA,cB])
 refine Ai.settle [(2,Ay (Ks t.q.nx.length (CD t)))] ⟨⟨_,rfl,.o (.full rfl (by simp [Function.comp_def]) (by simp))⟩,trivial⟩ ?_
 refine aR ⟨_,rfl,rfl⟩
theorem Wk{t:Cy}(ht:A6 t=true){F:PS}:Pure Tryz.prog TB 173 [Hm t,Ay (Ks t.q.nx.length F)] (eB (JX t F)):=by
 have hah:=AI (CR ht)
 have hpl:(Ks t.q.nx.length F).length=t.q.nx.length:=by simp
 have hdef:JX t F=FY t F t.q.nx.length:=rfl
 refine eG Tryz.func173 rfl (by kernel_rfl) rfl ?_;intro Γ hΓ
 (repeat first|refine tA rfl ?_ |refine aU rfl ?_ |refine Aa ?_)
 refine aB ?_
 refine aL (α:={k:Nat // k≤t.q.nx.length∧FY t F k=false}) [1,2] [] rfl rfl (fun ⟨k,hk,hb⟩=>[(5,eI .i64 k)]) (fun ⟨k,hk,hb⟩=>[]) 0 (fun ⟨k,hk,hb⟩=>t.q.nx.length - k) (⟨0,by omega,rfl⟩) hΓ rfl (by (simp[cX,zC,hΓ])) ?_;rintro⟨k,hk,hb⟩;(try dsimp only[cA,cB])
 by_cases hlt:k < t.q.nx.length
 ·have hr:((Ks t.q.nx.length F).map Bv)[((k:Nat):Int).toNat]? = some (Bv (F k:Int)):=by rw [Int.toNat_natCast];simp [hlt]
  obtain⟨b,hb1⟩:=get_some (l:=t.q.ac) (k:=((k:Nat):Int).toNat) (by omega)
  have hb':=get_map (g:=Ja) hb1
  have hgd:t.q.ac.getD k false=b:=by rw [Int.toNat_natCast] at hb1;simp [List.getD,hb1]
  have hs:=IA (t:=t) (F:=F) (k:=k)
  rw [hgd,hb] at hs
  (repeat first|refine sN rfl ?_ |refine tA rfl ?_ |refine s2 rfl fun _ _hb=>?_ |refine aU rfl ?_ |refine Aa ?_)
  ((refine aC rfl ?_ ?_<;>rintro⟨⟩);all_goals try(exfalso;(simp only[oZ] at *;omega)))
  refine aK ?_
  refine aS (aB ?_)
  (repeat' first|refine tA rfl ?_ |(refine s4 rfl ‹_› rfl ?_ ?_;omega) |refine s2 rfl fun _ _hb=>?_ |refine s3 rfl ?_ ?_<;>rintro rfl |refine aU rfl ?_ |refine Aa ?_|(refine aC rfl ?_ ?_<;>rintro⟨⟩));all_goals try contradiction
  ·have hbt:JX t F=true:=by
    have h7:=of_decide_eq_true ‹decide ((F k:Int)≠0)=true›
    have h8:F k≠0:=by omega
    rw [hdef]
    unfold FY
    exact List.any_eq_true.2 ⟨k,List.mem_range.2 hlt,by rw [hgd,_hb];simp [h8]⟩
   rw [hbt]
   (subst_vars;exact aR ⟨_,rfl,rfl⟩)
  ·have hk1:FY t F (k+1)=false:=by rw [hs];simp_all
   refine aK ?_
   (repeat first|(refine sA rfl ?_ ?_;first|exact tI|omega) |refine aU rfl ?_ |refine Aa ?_)
   refine⟨⟨k+1,by omega,hk1⟩,by dsimp only;(omega),[],?_⟩
   simp[cX,zC,hΓ]
  ·have hk1:FY t F (k+1)=false:=by rw [hs];simp at _hb;simp;omega
   refine aK ?_
   (repeat first|(refine sA rfl ?_ ?_;first|exact tI|omega) |refine aU rfl ?_ |refine Aa ?_)
   refine⟨⟨k+1,by omega,hk1⟩,by dsimp only;(omega),[],?_⟩
   simp[cX,zC,hΓ]
 ·obtain rfl:k=t.q.nx.length:=by omega
  rw [hdef,hb]
  (repeat first|refine sN rfl ?_ |refine tA rfl ?_ |refine s2 rfl fun _ _hb=>?_ |refine aU rfl ?_ |refine Aa ?_)
  ((refine aC rfl ?_ ?_<;>rintro⟨⟩);all_goals try(exfalso;(simp only[oZ] at *;omega)))
  refine aE ?_
  (repeat first|refine tA rfl ?_ |refine aU rfl ?_ |refine Aa ?_)
  (subst_vars;exact aR ⟨_,rfl,rfl⟩)
theorem X9{t:Cy}{l:Int}{F:PS}{k x:Nat}(h:CW t.q k l=(x:Int)):Dx t l F (k+1)=Sj (Dx t l F k) x (Dx t l F k x ||| C6 t.s l (F k)):=by
 rw [HU]
 funext p
 unfold Sj
 rw [h]
 by_cases e:p=x
 ·subst e;simp
 ·rw [if_neg e,if_neg (by omega)]
theorem Um{t:Cy}(ht:A6 t=true){F:PS}(hF:Da t F){l:Int}(hl:0≤l∧l < 6):Pure Tryz.prog TB 174 [Hm t,Ay (Ks t.q.nx.length F),eI .i64 l] (Ay (Ks t.q.nx.length (EM t l F))):=by
 have hs:Bw t.s=true:=by unfold A6 at ht;simp only [Bool.and_eq_true] at ht;exact ht.1
 have haut:=CR ht
 have hah:=AI haut
 have hcl:=Mj (TB:=TB) ht (Kk ht hl hF)
 rw [show Ra t (Tg t l F)=EM t l F from rfl] at hcl
 have hpl:(Ks t.q.nx.length F).length=t.q.nx.length:=by simp
 have h0:List.replicate t.q.nx.length (AQ 0)=(Ks t.q.nx.length (Dx t l F 0)).map AQ:=OB
 have hz0:[zC (Value.int IntKind.i64 0)]=AQ 0:=rfl
 have hhas:=CS (TB:=TB) t.s.al l hl.1 (by omega)
 refine eG Tryz.func174 rfl (by kernel_rfl) rfl ?_;intro Γ hΓ
 (repeat first|refine sN rfl ?_ |refine tA rfl ?_ |refine aU rfl ?_ |refine Aa ?_)
 (refine pW rfl ?_ rfl (by rfl);refine Km rfl rfl (by rfl) (by rfl) (Nat.le_of_ble_eq_true rfl) (by omega) (by omega) (by omega) ?_)
 (repeat first|refine tA rfl ?_ |refine aU rfl ?_ |refine Aa ?_)
 refine aB ?_
 refine aL (α:={k:Nat // k≤t.q.nx.length}) [1,2,3] [] rfl rfl (fun s=>[(7,.o (.arr 0 1 0 t.q.nx.length)),(8,eI .i64 s.1)]) (fun s=>[(0,.cells 3 1 ((Ks t.q.nx.length (Dx t l F s.1)).map AQ))]) 1 (fun s=>t.q.nx.length - s.1) (⟨0,by omega⟩) hΓ rfl (by (simp[cX,zC,hΓ,h0,hz0])) ?_;rintro⟨k,hk⟩;(try dsimp only[cA,cB])
 by_cases hkl:k < t.q.nx.length
 ·have hr:((Ks t.q.nx.length F).map Bv)[((k:Nat):Int).toNat]? = some (Bv (F k:Int)):=by rw [Int.toNat_natCast];simp [hkl]
  have hgo:=HR (TB:=TB) t.q haut k hkl l hl.1 hl.2
  have hga:=Ej haut hkl hl.1 hl.2
  obtain⟨x,hx⟩:∃x:Nat,CW t.q k l=x:=⟨(CW t.q k l).toNat,by omega⟩
  have hnx:=X9 (F:=F) hx
  rw [hx] at hgo hga
  have hst:=Oa (TB:=TB) hs l (hF.lt k)
  have r1:=O7 (n:=t.q.nx.length) (G:=Dx t l F k) (x:=x) (by omega)
  have hml:=Th ht (l:=l) hF k x
  have hss:=Hy ht (l:=l) (hF.lt k)
  have hor:=Lj (a:=Dx t l F k x) (b:=C6 t.s l (F k)) (by omega) (by omega)
  have hset:=O8 (n:=t.q.nx.length) (x:=x) (v:=Dx t l F k x ||| C6 t.s l (F k)) (G:=Dx t l F k)
  rw [←hnx] at hset
  (repeat first|refine sN rfl ?_ |refine tA rfl ?_ |refine s2 rfl fun _ _hb=>?_ |refine aU rfl ?_ |refine Aa ?_)
  ((refine aC rfl ?_ ?_<;>rintro⟨⟩);all_goals try(exfalso;(simp only[oZ] at *;omega)))
  refine aK ?_
  refine aS (aB ?_)
  (repeat first|refine tA rfl ?_ |(refine s4 rfl ‹_› rfl ?_ ?_;omega) |(refine sC rfl (hhas) ?_;intro _ _hb) |refine aU rfl ?_ |refine Aa ?_)
  (refine aC rfl ?_ ?_<;>rintro⟨⟩)
  ·have hsm:C6 t.s l (F k)=BP t.s.es l (F k):=by unfold C6;rw [if_pos _hb]
   rw [←hsm] at hst
   (repeat first|(refine sA rfl ?_ ?_;first|exact tI|omega) |refine t4 rfl ‹_› rfl ?_ |refine sP rfl (hst) rfl ?_|refine sP rfl (hgo) rfl ?_ |refine aU rfl ?_ |refine Aa ?_)
   refine⟨⟨k+1,by omega⟩,by dsimp only;(omega),[0],?_⟩
   simp[cX,zC,hΓ,hor];simpa [Function.comp_def] using hset
  ·have hsm:C6 t.s l (F k)=F k:=by unfold C6;rw [if_neg (by simp [_hb])]
   rw [hsm] at hor hset
   refine aK ?_
   (repeat first|(refine sA rfl ?_ ?_;first|exact tI|omega) |refine t4 rfl ‹_› rfl ?_ |refine sP rfl (hgo) rfl ?_ |refine aU rfl ?_ |refine Aa ?_)
   refine⟨⟨k+1,by omega⟩,by dsimp only;(omega),[0],?_⟩
   simp[cX,zC,hΓ,hor];simpa [Function.comp_def] using hset
 ·obtain rfl:k=t.q.nx.length:=by omega
  rw [show Dx t l F t.q.nx.length=Tg t l F from rfl]
  (repeat first|refine sN rfl ?_ |refine tA rfl ?_ |refine s2 rfl fun _ _hb=>?_ |refine aU rfl ?_ |refine Aa ?_)
  ((refine aC rfl ?_ ?_<;>rintro⟨⟩);all_goals try(exfalso;(simp only[oZ] at *;omega)))
  refine aE ?_
  (repeat first|refine tA rfl ?_ |refine aU rfl ?_)
  (refine pW rfl ?_ rfl (by rfl);refine Ae [0] rfl rfl (hcl) ⟨rfl,by decide,by decide⟩ rfl (by simp[cX,zC,hΓ]) ?_;rintro x0 σ1 nx1 ⟨rfl,rfl,rfl⟩ _)
  (repeat first|refine tA rfl ?_)
  refine Aa ?_
  refine Ai.Ar [] [] rfl rfl [(6,.o (.arr 0 1 0 t.q.nx.length))] [(0,.cells 3 1 ((Ks t.q.nx.length (EM t l F)).map AQ))] [0] (rl hΓ rfl) (by (simp[cX,zC,hΓ])) ?_;(try dsimp only[cA,cB])
  refine Ai.settle [(6,Ay (Ks t.q.nx.length (EM t l F)))] ⟨⟨_,rfl,.o (.full rfl (by simp [Function.comp_def]) (by simp))⟩,trivial⟩ ?_
  refine aR ⟨_,rfl,rfl⟩
theorem Gs(t:Cy):Pure Tryz.prog TB 113 [Hm t] (eB (A6 t)):=by
 unfold A6
 refine eN Tryz.func113 rfl (by kernel_rfl) rfl ?_;intro Γ hΓ
 (repeat' first|refine tA rfl ?_ |(refine sC rfl (CP t.s) ?_;intro _ _hb)|(refine sC rfl (Bg t.q) ?_;intro _ _hb)|(refine sC rfl (Dw t.al) ?_;intro _ _hb) |refine s3 rfl ?_ ?_<;>rintro rfl |refine aU rfl ?_ |refine Aa ?_|(refine aC rfl ?_ ?_<;>rintro⟨⟩)|refine aK ?_|refine aE ?_|refine aB ?_|refine aR ⟨_,rfl,?_⟩)
 all_goals (show E.o _=E.o _;simp_all)
noncomputable def Fh(t:Cy)(w:W):Bool:=A6 t && (within w t.al && LS t w)
theorem Nc{w:W}{al:Int}(h:within w al=true):∀c∈w,0≤(c.toNat:Int) - 97∧(c.toNat:Int) - 97 < 6:=fun c hc=>ER (Cw h c hc)
theorem QL(t:Cy)(w:W)(hl:w.length≤1099511627776):Pure Tryz.prog TB 133 [Hm t,eT w] (eB (Fh t w)):=by
 have hv:=Gs (TB:=TB) t
 have hw:=DC (TB:=TB) w t.al hl
 by_cases h:(A6 t && within w t.al)=true
 ·have ht:A6 t=true:=by revert h;cases A6 t<;>simp
  have hwi:within w t.al=true:=by revert h;cases within w t.al<;>simp
  have hn:=Nc hwi
  have hA:Fh t w=LS t w:=by unfold Fh;rw [ht,hwi];rfl
  rw [hA]
  rw [ht] at hv
  rw [hwi] at hw
  have hst:=RI (TB:=TB) ht
  refine eG Tryz.func133 rfl (by kernel_rfl) rfl ?_;intro Γ hΓ
  (repeat' first|refine tA rfl ?_ |refine s2 rfl fun _ _hb=>?_ |refine sP rfl (hv) rfl ?_|refine sP rfl (hw) rfl ?_|refine sP rfl (hst) rfl ?_ |refine s3 rfl ?_ ?_<;>rintro rfl |refine aU rfl ?_ |refine Aa ?_|(refine aC rfl ?_ ?_<;>rintro⟨⟩));all_goals try contradiction
  refine aK ?_
  (repeat first|refine tA rfl ?_ |refine sP rfl (hst) rfl ?_ |refine aU rfl ?_ |refine Aa ?_)
  refine aB ?_
  refine aL (α:={x:Nat×PS // x.1≤w.length∧Da t x.2∧Iu t x.2 (w.drop x.1)=LS t w}) [1,2] [] rfl rfl (fun s=>[(5,Ay (Ks t.q.nx.length s.1.2)),(6,eI .i64 s.1.1)]) (fun s=>[]) 0 (fun s=>w.length - s.1.1) (⟨⟨0,CD t⟩,by simp,KA ht,rfl⟩) hΓ rfl (by (simp[cX,zC,hΓ])) ?_;rintro⟨⟨i,F⟩,hi,hF,hs⟩;(try dsimp only[cA,cB])
  have hi:i≤w.length:=hi
  have hF:Da t F:=hF
  have hs:Iu t F (w.drop i)=LS t w:=hs
  have hbd:=Wk (TB:=TB) ht (F:=F)
  by_cases hlt:i < w.length
  ·obtain⟨c,hc⟩:=get_some hlt
   have hc':w[((i:Nat):Int).toNat]? = some c:=by simpa using hc
   have hcl:=hn c (List.mem_of_getElem? hc)
   have hla:=HQ (TB:=TB) w i c hc'
   have hmv:=Um (TB:=TB) ht hF hcl
   have hno:=Mp ht hcl hF
   rw [Cz hc,Iu] at hs
   generalize JX t F=b at *
   (repeat' first|refine tA rfl ?_ |refine s2 rfl fun _ _hb=>?_ |refine sP rfl (hbd) rfl ?_ |refine s3 rfl ?_ ?_<;>rintro rfl |refine aU rfl ?_ |refine Aa ?_|(refine aC rfl ?_ ?_<;>rintro⟨⟩));all_goals try contradiction
   all_goals first| (exfalso;(simp only[oZ] at *;omega);done)|skip
   ·have hb:b=false:=by simpa using _hb
    subst hb
    refine aK ?_
    refine aS (aB ?_)
    refine rG (HN []) (by kernel_rfl) ?_
    (repeat first|(refine sA rfl ?_ ?_;first|exact tI|omega) |refine sP rfl (hla) rfl ?_|refine sP rfl (hmv) rfl ?_ |refine aU rfl ?_ |refine Aa ?_)
    refine⟨⟨⟨i+1,EM t ((c.toNat:Int) - 97) F⟩,by omega,hno,by simpa using hs⟩,by dsimp only;(omega),[],?_⟩
    simp[cX,zC,hΓ]
   ·have hb:b=true:=by simpa using _hb
    subst hb
    have hs:LS t w=false:=by simpa using hs.symm
    rw [hs]
    refine aE ?_
    (repeat first|refine tA rfl ?_ |refine s2 rfl fun _ _hb=>?_ |refine sP rfl (hbd) rfl ?_ |refine aU rfl ?_ |refine Aa ?_)
    (subst_vars;exact aR ⟨_,rfl,rfl⟩)
  ·obtain rfl:i=w.length:=by omega
   rw [List.drop_length,Iu] at hs
   rw [←hs]
   (repeat' first|refine tA rfl ?_ |refine s2 rfl fun _ _hb=>?_ |refine sP rfl (hbd) rfl ?_ |refine s3 rfl ?_ ?_<;>rintro rfl |refine aU rfl ?_ |refine Aa ?_|(refine aC rfl ?_ ?_<;>rintro⟨⟩));all_goals try contradiction
   all_goals first| (exfalso;(simp only[oZ] at *;omega);done)|skip
   refine aE ?_
   (repeat first|refine tA rfl ?_ |refine s2 rfl fun _ _hb=>?_ |refine sP rfl (hbd) rfl ?_ |refine aU rfl ?_ |refine Aa ?_)
   (subst_vars;exact aR ⟨_,rfl,rfl⟩)
 ·have hA:Fh t w=false:=by unfold Fh;revert h;cases A6 t<;>cases within w t.al<;>simp
  rw [hA]
  refine eG Tryz.func133 rfl (by kernel_rfl) rfl ?_;intro Γ hΓ
  (repeat' first|refine tA rfl ?_ |refine s2 rfl fun _ _hb=>?_ |(refine sC rfl (hv) ?_;intro _ _hb)|(refine sC rfl (hw) ?_;intro _ _hb) |refine s3 rfl ?_ ?_<;>rintro rfl |refine aU rfl ?_ |refine Aa ?_|(refine aC rfl ?_ ?_<;>rintro⟨⟩));all_goals try contradiction
  all_goals first
   | (subst_vars;exact aR ⟨_,rfl,rfl⟩)
   | (exfalso;simp_all;done)
theorem Lb(t:Cx)(hk:t.kn=false):Pure Tryz.prog TB 60 [B8 t] (eI .i64 (if A6 ⟨t.s,t.q,t.al⟩ then t.al else -1)):=by
 obtain⟨kn,p,s,q,al⟩:=t
 dsimp only at hk
 subst hk
 have hv:=Gs (TB:=TB) ⟨s,q,al⟩
 refine eN Tryz.func60 rfl (by kernel_rfl) rfl ?_;intro Γ hΓ
 (repeat' first|refine tA rfl ?_ |refine s2 rfl fun _ _hb=>?_ |(refine sC rfl (hv) ?_;intro _ _hb) |refine s3 rfl ?_ ?_<;>rintro rfl |refine aU rfl ?_ |refine Aa ?_|(refine aC rfl ?_ ?_<;>rintro⟨⟩)|refine aK ?_|refine aE ?_|refine aB ?_|refine aR ⟨_,rfl,?_⟩)
 all_goals first
  | (show E.o _=E.o _;congr;grind)
  | (exfalso;simp at *;done)
theorem LC(t:Cx)(hk:t.kn=false)(w:W)(hl:w.length≤1099511627776):Pure Tryz.prog TB 101 [B8 t,eT w] (eB (Fh ⟨t.s,t.q,t.al⟩ w)):=by
 obtain⟨kn,p,s,q,al⟩:=t
 dsimp only at hk
 subst hk
 have h1:=QL (TB:=TB) ⟨s,q,al⟩ w hl
 refine eN Tryz.func101 rfl (by kernel_rfl) rfl ?_;intro Γ hΓ
 (repeat' first|refine tA rfl ?_ |refine sP rfl (h1) rfl ?_ |refine aU rfl ?_ |refine Aa ?_|(refine aC rfl ?_ ?_<;>rintro⟨⟩)|refine aK ?_|refine aE ?_|refine aB ?_|refine aR ⟨_,rfl,?_⟩)
 all_goals rfl
theorem Y6{t:Cx}(hk:t.kn=false):Hc Tryz.prog TB 60 101 t (if A6 ⟨t.s,t.q,t.al⟩ then t.al else -1) (Fh ⟨t.s,t.q,t.al⟩):=⟨Lb t hk,LC t hk⟩
theorem OX(w:W)(i:Nat)(c:UInt8)(hc:w[((i:Nat):Int).toNat]? = some c):Pure Tryz.prog TB 84 [eT w,eI .i64 i] (eI .i64 (if Fs c then (c.toNat:Int) - 97 else -1)):=by
 by_cases h:Fs c=true
 ·rw [if_pos h]
  rw [Hk,decide_eq_true_eq] at h
  exact DL w i c hc h
 ·rw [if_neg h]
  rw [Hk,decide_eq_true_eq] at h
  have hb:=c.toNat_lt
  refine eN Tryz.func84 rfl (by kernel_rfl) rfl ?_;intro Γ hΓ
  (repeat' first|(refine sA rfl ?_ ?_;first|exact tI|omega) |(refine s4 rfl ‹_› rfl ?_ ?_;omega) |refine s2 rfl fun _ _hb=>?_ |refine s3 rfl ?_ ?_<;>rintro rfl |refine aU rfl ?_ |refine Aa ?_|(refine aC rfl ?_ ?_<;>rintro⟨⟩)|refine aK ?_|refine aE ?_|refine aB ?_|refine aR ⟨_,rfl,?_⟩)
  all_goals first
   | rfl
   | (exfalso;grind)
theorem Wa(al:Int)(c:UInt8):hasB al (if Fs c then (c.toNat:Int) - 97 else -1)=IH al c:=by
 unfold IH hasB
 by_cases h:Fs c=true
 ·rw [if_pos h,h]
  rw [Hk,decide_eq_true_eq] at h
  have e:((c.toNat:Int) - 97).toNat=c.toNat - 97:=by omega
  rw [e]
  simp
  omega
 ·rw [if_neg h]
  simp [h]
theorem CG(w:W)(al:Int)(hl:w.length≤1099511627776):Pure Tryz.prog TB 50 [eT w,eI .i64 al] (eB (within w al)):=by
 have h1:=Et (TB:=TB) al
 by_cases h0:Bo al=true∧w.length≤50000
 ·rw [h0.1] at h1
  have hwk:within w al=w.all (IH al):=by unfold within;simp [h0.1,h0.2]
  rw [hwk]
  refine eG Tryz.func50 rfl (by kernel_rfl) rfl ?_;intro Γ hΓ
  (repeat first|refine tA rfl ?_ |refine s2 rfl fun _ _hb=>?_ |refine sP rfl (h1) rfl ?_ |refine s3 rfl ?_ ?_<;>rintro rfl |refine aU rfl ?_ |refine Aa ?_)
  (repeat' first|refine tA rfl ?_ |refine s2 rfl fun _ _hb=>?_ |refine sP rfl (h1) rfl ?_ |refine aU rfl ?_ |refine Aa ?_|(refine aC rfl ?_ ?_<;>rintro⟨⟩));all_goals try contradiction
  all_goals first
   | (exfalso;(simp only[oZ] at *;omega);done)
   | skip
  refine aK ?_
  (repeat first|refine tA rfl ?_ |refine aU rfl ?_ |refine Aa ?_)
  refine aB ?_
  refine aL (α:={k:Nat // k≤w.length∧(w.take k).all (IH al)=true}) [0,1,15] [] rfl rfl (fun ⟨k,hk,ha⟩=>[(16,eI .i64 k)]) (fun ⟨k,hk,ha⟩=>[]) 0 (fun ⟨k,hk,ha⟩=>w.length - k) (⟨0,by omega,rfl⟩) hΓ rfl (by (simp[cX,zC,hΓ])) ?_;rintro⟨k,hk,ha⟩;(try dsimp only[cA,cB])
  by_cases hlt:k < w.length
  ·obtain⟨c,hc⟩:=get_some hlt
   have hc':w[((k:Nat):Int).toNat]? = some c:=by simpa using hc
   have hla:=OX (TB:=TB) w k c hc'
   have hha:=Mb (TB:=TB) al (if Fs c then (c.toNat:Int) - 97 else -1)
   rw [Wa] at hha
   generalize (if Fs c then (c.toNat:Int) - 97 else -1:Int)=l at hla hha
   cases hcc:IH al c
   ·have hst:=Gx hc (f:=IH al) hcc
    rw [hcc] at hha
    rw [hst]
    (repeat first|refine s2 rfl fun _ _hb=>?_ |refine aU rfl ?_ |refine Aa ?_)
    ((refine aC rfl ?_ ?_<;>rintro⟨⟩);all_goals try(exfalso;(simp only[oZ] at *;omega)))
    refine aK ?_
    refine aS (aB ?_)
    (repeat first|refine tA rfl ?_ |refine s2 rfl fun _ _hb=>?_ |refine sP rfl (hla) rfl ?_|refine sP rfl (hha) rfl ?_ |refine aU rfl ?_ |refine Aa ?_)
    (repeat' first|refine tA rfl ?_ |refine sP rfl (hla) rfl ?_|refine sP rfl (hha) rfl ?_ |refine aU rfl ?_ |refine Aa ?_|(refine aC rfl ?_ ?_<;>rintro⟨⟩));all_goals try contradiction
    (subst_vars;exact aR ⟨_,rfl,rfl⟩)
   ·have hst:=E4 hc ha hcc
    rw [hcc] at hha
    (repeat first|refine s2 rfl fun _ _hb=>?_ |refine aU rfl ?_ |refine Aa ?_)
    ((refine aC rfl ?_ ?_<;>rintro⟨⟩);all_goals try(exfalso;(simp only[oZ] at *;omega)))
    refine aK ?_
    refine aS (aB ?_)
    (repeat first|refine tA rfl ?_ |refine s2 rfl fun _ _hb=>?_ |refine sP rfl (hla) rfl ?_|refine sP rfl (hha) rfl ?_ |refine aU rfl ?_ |refine Aa ?_)
    (repeat' first|refine tA rfl ?_ |refine sP rfl (hla) rfl ?_|refine sP rfl (hha) rfl ?_ |refine aU rfl ?_ |refine Aa ?_|(refine aC rfl ?_ ?_<;>rintro⟨⟩));all_goals try contradiction
    refine aK ?_
    (repeat first|(refine sA rfl ?_ ?_;first|exact tI|omega) |refine aU rfl ?_ |refine Aa ?_)
    refine⟨⟨k+1,by omega,hst⟩,by dsimp only;(omega),[],?_⟩
    simp[cX,zC,hΓ]
  ·have hd:=E3 ha (show w.length≤k by omega)
   rw [hd]
   (repeat first|refine s2 rfl fun _ _hb=>?_ |refine aU rfl ?_ |refine Aa ?_)
   ((refine aC rfl ?_ ?_<;>rintro⟨⟩);all_goals try(exfalso;(simp only[oZ] at *;omega)))
   refine aE ?_
   (repeat first|refine tA rfl ?_ |refine aU rfl ?_ |refine Aa ?_)
   (subst_vars;exact aR ⟨_,rfl,rfl⟩)
 ·have hwk:within w al=false:=by unfold within;grind
  rw [hwk]
  by_cases ha:Bo al=true
  ·have h00:¬w.length≤50000:=fun h=>h0 ⟨ha,h⟩
   rw [ha] at h1
   refine eG Tryz.func50 rfl (by kernel_rfl) rfl ?_;intro Γ hΓ
   (repeat first|refine tA rfl ?_ |refine s2 rfl fun _ _hb=>?_ |refine sP rfl (h1) rfl ?_ |refine s3 rfl ?_ ?_<;>rintro rfl |refine aU rfl ?_ |refine Aa ?_)
   (repeat' first|refine tA rfl ?_ |refine s2 rfl fun _ _hb=>?_ |refine sP rfl (h1) rfl ?_ |refine aU rfl ?_ |refine Aa ?_|(refine aC rfl ?_ ?_<;>rintro⟨⟩));all_goals try contradiction
   all_goals first
    | (exfalso;(simp only[oZ] at *;omega);done)
    | (subst_vars;exact aR ⟨_,rfl,rfl⟩)
  ·rw [Bool.not_eq_true _ |>.mp ha] at h1
   refine eG Tryz.func50 rfl (by kernel_rfl) rfl ?_;intro Γ hΓ
   (repeat first|refine tA rfl ?_ |refine s2 rfl fun _ _hb=>?_ |refine sP rfl (h1) rfl ?_ |refine s3 rfl ?_ ?_<;>rintro rfl |refine aU rfl ?_ |refine Aa ?_)
   (repeat' first|refine tA rfl ?_ |refine s2 rfl fun _ _hb=>?_ |refine sP rfl (h1) rfl ?_ |refine aU rfl ?_ |refine Aa ?_|(refine aC rfl ?_ ?_<;>rintro⟨⟩));all_goals try contradiction
   (subst_vars;exact aR ⟨_,rfl,rfl⟩)
theorem HA(p:BT)(w:W)(hl:w.length≤1099511627776):Pure Tryz.prog TB 37 [BL p,eT w] (eI .i64 (BE p w)):=by
 have h1:=CY (TB:=TB) p
 have h2:=CG (TB:=TB) w p.al hl
 by_cases hp:A5 p=true
 ·by_cases hw0:within w p.al=true
  ·have hs:BE p w=Cv p 0 w:=by unfold BE;rw [hp,hw0];rfl
   rw [hs]
   rw [hp] at h1
   rw [hw0] at h2
   have h3:=GV (TB:=TB) p hp
   have hw:=Cw hw0
   have hph:=AI hp
   refine eG Tryz.func37 rfl (by kernel_rfl) rfl ?_;intro Γ hΓ
   (repeat first|refine tA rfl ?_ |refine s2 rfl fun _ _hb=>?_ |refine sP rfl (h1) rfl ?_|refine sP rfl (h2) rfl ?_ |refine s3 rfl ?_ ?_<;>rintro rfl |refine aU rfl ?_ |refine Aa ?_)
   (repeat' first|refine tA rfl ?_ |refine s2 rfl fun _ _hb=>?_ |refine sP rfl (h1) rfl ?_|refine sP rfl (h2) rfl ?_ |refine aU rfl ?_ |refine Aa ?_|(refine aC rfl ?_ ?_<;>rintro⟨⟩));all_goals try contradiction
   refine aK ?_
   (repeat first|refine tA rfl ?_ |refine sP rfl (h3) rfl ?_ |refine aU rfl ?_ |refine Aa ?_)
   refine aB ?_
   refine aL (α:={k:Nat // k≤w.length}) [1,5,21] [] rfl rfl (fun ⟨k,hk⟩=>[(6,eI .i64 (Cv p 0 (w.take k))),(22,eI .i64 k)]) (fun ⟨k,hk⟩=>[]) 0 (fun ⟨k,hk⟩=>w.length - k) (⟨0,by omega⟩) hΓ rfl (by (simp[cX,zC,hΓ]<;>rfl)) ?_;rintro⟨k,hk⟩;(try dsimp only[cA,cB])
   have hr:=Ea hp (w.take k) 0 (ES hw k) (by omega)
   by_cases hlt:k < w.length
   ·obtain⟨c,hc⟩:=get_some hlt
    have hc':w[((k:Nat):Int).toNat]? = some c:=by simpa using hc
    have hcl:=ER (hw c (List.mem_of_getElem? hc))
    have hla:=DL (TB:=TB) w k c hc' hcl
    have ta:=JJ (a:=p) (q:=(Cv p 0 (w.take k)).toNat) (by omega)
    have el:((((c.toNat:Int) - 97).toNat:Nat):Int)=(c.toNat:Int) - 97:=by omega
    have ra:=Hx (h:=fun l=>CW p (Cv p 0 (w.take k)).toNat l) hcl.1 (by omega)
    simp only [el] at ra
    have hst:=Kx (p:=p) hc 0
    (repeat first|refine s2 rfl fun _ _hb=>?_ |refine aU rfl ?_ |refine Aa ?_)
    ((refine aC rfl ?_ ?_<;>rintro⟨⟩);all_goals try(exfalso;(simp only[oZ] at *;omega)))
    refine aK ?_
    refine aS (aB ?_)
    (repeat first|refine tA rfl ?_ |refine aU rfl ?_ |refine Aa ?_)
    refine rG (HN []) (by kernel_rfl) ?_
    (repeat first|(refine sA rfl ?_ ?_;first|exact tI|omega) |(refine s4 rfl ‹_› rfl ?_ ?_;omega) |refine sP rfl (hla) rfl ?_|(refine Af rfl ?_;refine gA rfl ?_;first| refine gS (fun _ _=>En rfl ra) ?_) |refine aU rfl ?_ |refine Aa ?_)
    refine⟨⟨k+1,by omega⟩,by dsimp only;(omega),[],?_⟩
    simp[cX,zC,hΓ,hst]
   ·obtain rfl:k=w.length:=by omega
    rw [List.take_length] at *
    (repeat first|refine s2 rfl fun _ _hb=>?_ |refine aU rfl ?_ |refine Aa ?_)
    ((refine aC rfl ?_ ?_<;>rintro⟨⟩);all_goals try(exfalso;(simp only[oZ] at *;omega)))
    refine aE ?_
    (repeat first|refine tA rfl ?_ |refine aU rfl ?_ |refine Aa ?_)
    (subst_vars;exact aR ⟨_,rfl,rfl⟩)
  ·have hs:BE p w = -1:=by unfold BE;rw [hp,Bool.not_eq_true _ |>.mp hw0];rfl
   rw [hs]
   rw [hp] at h1
   rw [Bool.not_eq_true _ |>.mp hw0] at h2
   refine eG Tryz.func37 rfl (by kernel_rfl) rfl ?_;intro Γ hΓ
   (repeat first|refine tA rfl ?_ |refine s2 rfl fun _ _hb=>?_ |refine sP rfl (h1) rfl ?_|refine sP rfl (h2) rfl ?_ |refine s3 rfl ?_ ?_<;>rintro rfl |refine aU rfl ?_ |refine Aa ?_)
   (repeat' first|refine tA rfl ?_ |refine s2 rfl fun _ _hb=>?_ |refine sP rfl (h1) rfl ?_|refine sP rfl (h2) rfl ?_ |refine aU rfl ?_ |refine Aa ?_|(refine aC rfl ?_ ?_<;>rintro⟨⟩));all_goals try contradiction
   (subst_vars;exact aR ⟨_,rfl,rfl⟩)
 ·have hs:BE p w = -1:=by unfold BE;rw [Bool.not_eq_true _ |>.mp hp];rfl
  rw [hs]
  rw [Bool.not_eq_true _ |>.mp hp] at h1
  refine eG Tryz.func37 rfl (by kernel_rfl) rfl ?_;intro Γ hΓ
  (repeat first|refine tA rfl ?_ |refine s2 rfl fun _ _hb=>?_ |refine sP rfl (h1) rfl ?_ |refine s3 rfl ?_ ?_<;>rintro rfl |refine aU rfl ?_ |refine Aa ?_)
  (repeat' first|refine tA rfl ?_ |refine sP rfl (h1) rfl ?_ |refine aU rfl ?_ |refine Aa ?_|(refine aC rfl ?_ ?_<;>rintro⟨⟩));all_goals try contradiction
  (subst_vars;exact aR ⟨_,rfl,rfl⟩)
theorem EG(p:BT)(w:W)(hl:w.length≤1099511627776):Pure Tryz.prog TB 28 [BL p,eT w] (eB (FJ p w)):=by
 have h1:=HA (TB:=TB) p w hl
 by_cases hv:(A5 p && within w p.al)=true
 ·have hs:BE p w=Cv p 0 w:=by unfold BE;rw [if_pos hv]
  rw [hs] at h1
  rw [Bool.and_eq_true] at hv
  have hph:=AI hv.1
  have hr:=Ea hv.1 w 0 (Cw hv.2) (by omega)
  obtain⟨b,hb⟩:=get_some (l:=p.ac) (k:=(Cv p 0 w).toNat) (by omega)
  have hb':(p.ac.map Ja)[(Cv p 0 w).toNat]? = some (Ja b):=by simp [hb]
  have ha:FJ p w=b:=by unfold FJ LA;simp [hv.1,hv.2,List.getD,hb]
  rw [ha]
  refine eG Tryz.func28 rfl (by kernel_rfl) rfl ?_;intro Γ hΓ
  (repeat first|refine tA rfl ?_ |(refine s4 rfl ‹_› rfl ?_ ?_;omega) |refine s2 rfl fun _ _hb=>?_ |refine sP rfl (h1) rfl ?_ |refine s3 rfl ?_ ?_<;>rintro rfl |refine aU rfl ?_ |refine Aa ?_)
  (repeat' first|refine tA rfl ?_ |refine sP rfl (h1) rfl ?_ |refine Aa ?_|(refine aC rfl ?_ ?_<;>rintro⟨⟩));all_goals try contradiction
  all_goals first
   | (exfalso;(simp only[oZ] at *;omega);done)
   | (subst_vars;exact aR ⟨_,rfl,rfl⟩)
 ·have hs:BE p w = -1:=by unfold BE;rw [if_neg hv]
  rw [hs] at h1
  have ha:FJ p w=false:=by unfold FJ;grind
  rw [ha]
  refine eG Tryz.func28 rfl (by kernel_rfl) rfl ?_;intro Γ hΓ
  (repeat first|refine tA rfl ?_ |refine s2 rfl fun _ _hb=>?_ |refine sP rfl (h1) rfl ?_ |refine s3 rfl ?_ ?_<;>rintro rfl |refine aU rfl ?_ |refine Aa ?_)
  (repeat' first|refine tA rfl ?_ |refine sP rfl (h1) rfl ?_ |refine Aa ?_|(refine aC rfl ?_ ?_<;>rintro⟨⟩));all_goals try contradiction
  all_goals first
   | (exfalso;omega;done)
   | (subst_vars;exact aR ⟨_,rfl,rfl⟩)
theorem Gf(t:Cy):Pure Tryz.prog TB 70 [Hm t] (eB (A6 t)):=by
 unfold A6
 refine eN Tryz.func70 rfl (by kernel_rfl) rfl ?_;intro Γ hΓ
 (repeat' first|refine tA rfl ?_ |(refine sC rfl (IG t.s) ?_;intro _ _hb)|(refine sC rfl (CY t.q) ?_;intro _ _hb)|(refine sC rfl (Et t.al) ?_;intro _ _hb) |refine s3 rfl ?_ ?_<;>rintro rfl |refine aU rfl ?_ |refine Aa ?_|(refine aC rfl ?_ ?_<;>rintro⟨⟩)|refine aK ?_|refine aE ?_|refine aB ?_|refine aR ⟨_,rfl,?_⟩)
 all_goals (show E.o _=E.o _;simp_all)
abbrev dn(p:BT)(t:Cy):E:=bY false p t.s t.q t.al
theorem HE(p:BT)(t:Cy):Pure Tryz.prog TB 26 [dn p t] (eI .i64 (if A6 t then t.al else -1)):=by
 have hv:=Gf (TB:=TB) t
 refine eN Tryz.func26 rfl (by kernel_rfl) rfl ?_;intro Γ hΓ
 (repeat' first|refine tA rfl ?_ |refine s2 rfl fun _ _hb=>?_ |(refine sC rfl (hv) ?_;intro _ _hb) |refine s3 rfl ?_ ?_<;>rintro rfl |refine aU rfl ?_ |refine Aa ?_|(refine aC rfl ?_ ?_<;>rintro⟨⟩)|refine aK ?_|refine aE ?_|refine aB ?_|refine aR ⟨_,rfl,?_⟩)
 all_goals first
  | (show E.o _=E.o _;congr;grind)
  | (exfalso;simp at *;done)
theorem Nz(p:BT){t:Cy}(ht:A6 t=false):Pure Tryz.prog TB 57 [dn p t] (.t [(true,[.d (iD 0),.d (.v .nilFunc)]),(false,[.d (bD false)])]):=by
 have hT:=HE (TB:=TB) p t
 rw [if_neg (by simp [ht])] at hT
 refine eG Tryz.func57 rfl (by kernel_rfl) rfl ?_;intro Γ hΓ
 (repeat first|refine tA rfl ?_ |refine sP rfl (hT) rfl ?_ |refine aU rfl ?_ |refine Aa ?_)
 refine aB ?_
 (repeat first|refine tA rfl ?_ |refine s2 rfl fun _ _hb=>?_ |refine aU rfl ?_ |refine Aa ?_)
 ((refine aC rfl ?_ ?_<;>rintro⟨⟩);all_goals try (simp at _hb;done))
 ·(repeat first|refine tA rfl ?_|(refine Af rfl ?_;refine gA rfl ?_;first| refine gS (fun _ _=>Av rfl rfl (by rfl) (by rfl)) ?_) |refine aU rfl ?_ |refine Aa ?_)
  refine aR ⟨_,rfl,rfl⟩
abbrev EF(c:C):C:=.mv 108 [c]
theorem NA[Eh TB](p:BT){t:Cy}(ht:A6 t=true)(ok:W→Prop):∃m,KF t ok m∧AU Tryz.prog TB 57 0 [] 0 [dn p t] (fun x σ nx=>x=.t [(true,[.d (iD t.al),EF (.ptr 0 14 0 0)]),(false,[.d (bD true)])]∧σ=K8 t m∧nx=5):=by
 obtain⟨m,hm,hns⟩:=Jv (TB:=TB) ht ok
 refine⟨m,hm,?_⟩
 have hT:=HE (TB:=TB) p t
 rw [if_pos ht] at hT
 have hta:Bo t.al=true:=by unfold A6 at ht;simp only [Bool.and_eq_true] at ht;exact ht.2.2
 unfold Bo at hta
 simp only [decide_eq_true_eq] at hta
 refine AU.A4 (AU.Pr (m:=0) (Nat.le_of_ble_eq_true rfl) Tryz.func57 rfl (by kernel_rfl) (Nat.le_of_ble_eq_true rfl) ?_);intro Γ hΓ
 (repeat first|refine tA rfl ?_ |refine sP rfl (hT) rfl ?_ |refine aU rfl ?_ |refine Aa ?_)
 refine aB ?_
 (repeat first|refine tA rfl ?_ |refine s2 rfl fun _ _hb=>?_ |refine aU rfl ?_ |refine Aa ?_)
 ((refine aC rfl ?_ ?_<;>rintro⟨⟩);all_goals try (simp at _hb;done))
 ·exfalso;(simp only[oZ] at *;omega)
 ·(repeat first|refine tA rfl ?_ |refine aU rfl ?_ |refine Aa ?_)
  ((refine aC rfl ?_ ?_<;>rintro⟨⟩);all_goals try (simp at _hb;done))
  refine aK ?_
  (repeat first|refine tA rfl ?_ |refine aU rfl ?_)
  (refine pW rfl ?_ rfl (by rfl);refine Bu [] rfl rfl 0 (hns) (by decide) ⟨rfl,by decide,by decide⟩ rfl (by simp[cX,zC,hΓ,AK]) ?_;rintro x0 σ1 nx1 ⟨rfl,rfl,rfl⟩ _)
  (repeat first| (refine Af rfl ?_;refine gA rfl ?_;first| refine gS (fun _ _=>dh rfl) ?_))
  (repeat first|refine tA rfl ?_|(refine Af rfl ?_;refine gA rfl ?_;first| refine gS (fun _ _=>Av rfl rfl (by rfl) (by rfl)) ?_))
  refine Aa ?_
  refine aR ⟨_,rfl,[1,2,3,4,5],.t [(true,[.d (iD t.al),EF (.ptr 0 14 0 0)]),(false,[.d (bD true)])],K8 t m,⟨by intro i hi;omega,by decide⟩,rfl,by (simp[cX,zC,hΓ,AK]),rfl,rfl,rfl⟩
def BK(te:Cx):Bool:=if te.kn then A5 te.p else A6 ⟨te.s,te.q,te.al⟩
def Ak(te:Cx):Int:=if te.kn then te.p.al else te.al
noncomputable def A8(te:Cx)(w:W):Bool:=if te.kn then LA te.p w else LS ⟨te.s,te.q,te.al⟩ w
def Pn(te:Cx)(ok:W→Prop):Prop:=te.kn=false→YM ⟨te.s,te.q,te.al⟩ ok
abbrev aa(al:Int):W→Prop:=fun w=>AN (AY al) w∧w.length≤1048576
theorem cP{tabs:List (Nat×Obj)}[Eh ⟨tabs,none⟩]{t:Cy}{ok:W→Prop}(ht:A6 t=true)(hsub:∀w,ok w→aa t.al w)(hfew:YM t ok){r:Nat}:FD Tryz.prog ⟨tabs,some (HD t ok,r)⟩ (EF (Gn r)) (LS t) ok:=
 ⟨rfl,fun hx ha hw=>WL (es:=[eT _]) hx (by simp [HM,ha]) rfl (Xo ht hfew hw (fun c hc=>ER ((hsub _ hw).1 c hc)) (hsub _ hw).2) rfl⟩
theorem bW{tabs:List (Nat×Obj)}{h:Option (Hid×Nat)}{b:Nat}{vals:List Value}(hT:JU ⟨tabs,none⟩ b vals):JU ⟨tabs,h⟩ b vals:=⟨hT.out⟩
theorem ZV{tabs:List (Nat×Obj)}{h:Option (Hid×Nat)}(hT:Eh ⟨tabs,none⟩):Eh ⟨tabs,h⟩:=by
 cases hT
 constructor<;>(apply bW;assumption)
theorem both{X:Bh→Ctx→C→Prop}{Y:Prop}(h:∀(TB1:Bh) (Γ1:Ctx) (c1:C),Γ1.V.nx=0→X TB1 Γ1 c1)(hk:(∀(TB1:Bh) (Γ1:Ctx) (c1:C),Γ1.V.nx=0→X TB1 Γ1 c1)→Y):Y:=hk h
theorem FD.sub{P:Program}{c:C}{L:W→Bool}{ok ok':W→Prop}(h:FD P TB c L ok)(hs:∀w,ok' w→ok w):FD P TB c L ok':=⟨h.AS,fun hx ha hw=>h.ask hx ha (hs _ hw)⟩
end Go.Am
