/-
  The safety of a task is made: walked; a task's oracle.
-/
import Derived.Test.YtbfgijpfhgmepaaGreatDoorPart19
import Derived.Test.YtbfgijpfhgmepaaGreatDoorPart16
import Derived.Test.YtbfgijpfhgmepaaGreatDoorPart17
import Derived.Test.YtbfgijpfhgmepaaGreatDoorPart9
import Derived.Test.YtbfgijpfhgmepaaGreatDoorPart15
import Derived.Test.YtbfgijpfhgmepaaGreatDoorPart12
set_option linter.constructorNameAsVariable false
set_option linter.unusedSectionVars false
set_option linter.unusedSimpArgs false
set_option linter.unusedVariables false
namespace Go.Am
open Go Go.Proofs
set_option maxHeartbeats 1000000
attribute [local irreducible] AS BT Lex Bc Au Spec
variable {TB:Bt}
section
variable {P:Program}{Γ:Ctx}{d:Option Tmp}{ty:TypeId}{pos:String}{af:Array Edge}{g:Option (Nat×Bool)}{f:Env}{σ:Ab}{nx:Nat}
variable {K:E→Ab→Nat→Prop}
theorem ZX{t:TypeId}{z:List Value}{fl:List (Nat×Nat)}{parts:Array (Nat×Operand)}{es:List E}{qs:List (Nat×List C)}[hz:BM P t z][hf:ED P t fl](p k e q k' e' s k'' e'':Nat)(hp:z[p]? = some (.slice none 0 0))(hp':z[q]? = some (.slice none 0 0))(hp'':z[s]? = some (.slice none 0 0))(hpq:p≠q∧p≠s∧q≠s)(hes:JP f (parts.toList.map (·.2))=some es)(hq:FD fl parts.toList es=some qs)
 (hok:z.all P4=true) (hle:(qs.all fun x=>Nat.ble (x.1+x.2.length) z.length)=true) (hK:K (.a (Bi qs ((((z.map zC).set p (.arr nx k 0 0)).set q (.arr (nx+1) k' 0 0)).set s (.arr (nx+2) k'' 0 0)))) ((nx+2,.cells e'' k'' [])::(nx+1,.cells e' k' [])::(nx,.cells e k [])::σ) (nx+3)):BT P TB Γ ⟨d,.build t parts,ty,pos,af,g⟩ f σ nx K:=
 Dx fun V ρ h1 h2 h3=>by
  subst h3
  obtain⟨i,zv,hi,hzv,hzz⟩:=Hw hz.out
  obtain⟨hi1,he1⟩:=h2.alloc (c:=0) (nl:=True) (w:=V.w) (ob:=.cells e k []) rfl rfl rfl rfl (Nat.le_refl _) (fun _ _=>rfl) (.inl ⟨by simp [Aw],rfl⟩)
  obtain⟨hi2,he2⟩:=hi1.alloc (c:=0) (nl:=True) (w:=V.w) (ob:=.cells e' k' []) rfl rfl rfl rfl (Nat.le_refl _) (fun _ _=>rfl) (.inl ⟨by simp [Aw],rfl⟩)
  obtain⟨hi4,he4⟩:=hi2.alloc (c:=0) (nl:=True) (w:=V.w) (ob:=.cells e'' k'' []) rfl rfl rfl rfl (Nat.le_refl _) (fun _ _=>rfl) (.inl ⟨by simp [Aw],rfl⟩)
  have he3:=(he1.trans he2).trans he4
  have hfo:=De (V:=Aw (Aw (Aw V V.w.heap.size 0 True V.w) V.w.heap.size 0 True V.w) V.w.heap.size 0 True V.w) (ρ:=ρ) parts.toList es qs (fun x hx e he=>(h1.get (by simp only [Op.operands];simpa using hx) he).ext he3) hes hq
  have hzr : C7 (Aw (Aw (Aw V V.w.heap.size 0 True V.w) V.w.heap.size 0 True V.w) V.w.heap.size 0 True V.w) ((((z.map zC).set p (.arr V.nx k 0 0)).set q (.arr (V.nx+1) k' 0 0)).set s (.arr (V.nx+2) k'' 0 0)) zv.cells:=by
   refine⟨by rw [List.length_set,List.length_set,List.length_set,List.length_map,←hzz];simp,fun j c v hj hv=>?_⟩
   have hzj:z[j]? = some v:=by rw [←hzz,Array.getElem?_toList];exact hv
   by_cases hjs:s=j
   ·subst hjs
    rw [hp''] at hzj
    injection hzj with hzj
    subst hzj
    rw [List.getElem?_set_self (by rw [List.length_set,List.length_set,List.length_map];exact(List.getElem?_eq_some_iff.1 hp'').1)] at hj
    injection hj with hj
    subst hj
    exact AB.nil (by simp [Aw]) (by simp [Aw])
   ·rw [List.getElem?_set_ne hjs] at hj
    by_cases hjq:q=j
    ·subst hjq
     rw [hp'] at hzj
     injection hzj with hzj
     subst hzj
     rw [List.getElem?_set_self (by rw [List.length_set,List.length_map];exact(List.getElem?_eq_some_iff.1 hp').1)] at hj
     injection hj with hj
     subst hj
     exact AB.nil (by simp [Aw]) (by simp [Aw])
    ·rw [List.getElem?_set_ne hjq] at hj
     by_cases hjp:p=j
     ·subst hjp
      rw [hp] at hzj
      injection hzj with hzj
      subst hzj
      rw [List.getElem?_set_self (by rw [List.length_map];exact(List.getElem?_eq_some_iff.1 hp).1)] at hj
      injection hj with hj
      subst hj
      exact AB.nil (by simp [Aw];omega) (by simp [Aw])
     ·rw [List.getElem?_set_ne hjp,List.getElem?_map,hzj] at hj
      injection hj with hj
      subst hj
      exact Kz (List.all_eq_true.1 hok v (List.mem_of_getElem? hzj))
  obtain⟨cells,h4,h5⟩:=GA _ _ _ _ hfo hzr (fun x hx=>by rw [List.length_set,List.length_set,List.length_set,List.length_map];exact IY _ _ hle x hx)
  have hb:=run_build (P:=P) (ρ:=ρ) (parts:=parts) (V:=V) hi hzv hf.out h4
  refine⟨.agg cells,_,_,_,?_,he3,hi4,(show Bd _ (.a _) _ from ⟨cells,rfl,h5⟩),hK⟩
  show ((do let v ←Instr.build t (parts.map fun (i,x)=>(i,ρ x));pure (Go.Next.value v):Sem Go.Next)).run P V.w=_
  simp only [Sem.run_bind,hb,Result.andThen_ok]
  rfl
end
theorem I9{a b:Int}(ha:A4 a=true)(hb:A4 b=true):Ac (Hi .i64 a b)=(Ac a).filter fun l=>!A0 b l.toNat:=by
 have key:((List.range 64).all fun x=>(List.range 64).all fun y=>decide (Ac (Hi .i64 (x:Nat) (y:Nat))=(Ac (x:Nat)).filter fun l=>!A0 (y:Nat) l.toNat))=true:=by kernel_rfl
 unfold A4 at ha hb
 simp only [decide_eq_true_eq] at ha hb
 have h1:=List.all_eq_true.1 key a.toNat (List.mem_range.2 (by omega))
 have h2:=List.all_eq_true.1 h1 b.toNat (List.mem_range.2 (by omega))
 rw [Int.toNat_of_nonneg ha.1,Int.toNat_of_nonneg hb.1] at h2
 exact of_decide_eq_true h2
abbrev LI(t:CD):List D:=[iD t.s.al,iD t.s.st,Ek t.s.es,iD t.q.al,CR t.q.nx,E4 t.q.ac,iD t.al]
abbrev Qh(t:CD):E:=.a ((LI t).map .d)
theorem Ud(t:CD)(ok:W→Prop):JT t ok ⟨[],[],[]⟩:=⟨rfl,rfl,List.nodup_nil,by simp,by simp,by simp,by simp⟩
theorem SM[Df TB]{t:CD}(ht:A9 t=true)(ok:W→Prop):∃m,MU t ok m∧AD Tryz.prog TB 105 0 [] 0 [Qh t] (fun x σ nx=>x=.o (.ptr 0 14 0 0)∧σ=NS t m∧nx=5):=by
 have hs:AR t.s=true:=by unfold A9 at ht;simp only [Bool.and_eq_true] at ht;exact ht.1
 have hta:A4 t.al=true:=by unfold A9 at ht;simp only [Bool.and_eq_true] at ht;exact ht.2.2
 have hsh:=AM hs
 have hz:=LU ht
 obtain⟨m1,k,hcase,hadd⟩:=bx (TB:=TB) ht (Ud t ok) (by simp) (Gm ht)
 have hm1:m1=JO t ⟨[],[],[]⟩ (Cq t):=by
  rcases hcase with ⟨_,h2⟩|⟨h2,_,_⟩
  ·simp at h2
  ·exact h2
 have hcl:=Ua (TB:=TB) ht ⟨[],[],[]⟩ hz
 refine⟨m1,⟨by rw [hm1];exact XJ (Ud t ok) .start (.inl rfl) (by simp),by rw [hm1];rfl⟩,?_⟩
 have hmv:=O9 (TB:=TB) t.s hs
 have htb:=Fj (TB:=TB) t.q (Cr ht)
 have hlo:=CN (TB:=TB) (Hi .i64 t.s.al t.al)
 rw [I9 hsh.1 hta] at hlo
 have hlo:Pure Tryz.prog TB 75 [eI .i64 (Hi .i64 t.s.al t.al)] (Ag (Cn t)):=hlo
 rw [show Sj t IE=Cq t from rfl] at hcl
 have hmp:mapA .u16 (Qs [])=[]:=rfl
 have hpz:Hm IE=[1,0,0,0,0,0,0,0,0,0,0,0]:=rfl
 refine AD.A3 (AD.P6 (m:=0) (Nat.le_of_ble_eq_true rfl) Tryz.func105 rfl (by kernel_rfl) (Nat.le_of_ble_eq_true rfl) ?_);intro Γ hΓ
 (repeat first|refine tA rfl ?_ |refine aU rfl ?_ |refine Aa ?_)
 refine rG (aX [(14,1),(15,1),(16,1)]) (by kernel_rfl) ?_
 (repeat first|refine tX rfl ?_ |refine sP rfl (hmv) rfl ?_|refine sP rfl (htb) rfl ?_|refine sP rfl (hlo) rfl ?_|(refine Ai rfl ?_;refine gA rfl ?_;first| refine gS (fun _ _=>c8 rfl rfl rfl) ?_))
 (refine pW rfl ?_ rfl (by rfl);refine Rs ?_)
 (refine pW rfl ?_ rfl (by rfl);refine ZX 10 12 199 12 6 121 13 1 4 rfl rfl rfl (by decide) rfl rfl (by rfl) (by rfl) ?_)
 (refine pW rfl ?_ rfl (by rfl);refine Da rfl rfl ?_)
 (repeat first|refine tA rfl ?_)
 refine Aa ?_
 refine Au.BR [] [] rfl rfl [(3,.o (.ptr 0 14 0 0))] [(0,.cells 195 14 [dP t (.arr 1 12 0 0) (.mp 2) (.arr 3 6 0 0) (.arr 4 1 0 0)]),(1,.cells 199 12 []),(2,.mp []),(3,.cells 121 6 []),(4,.cells 4 1 [])] [4,1,0,2,3] (rl hΓ rfl) (by (simp[cX,zC,hΓ,A1])) ?_;(try dsimp only[cA,cB])
 (repeat first|refine tA rfl ?_|(refine Ai rfl ?_;refine gA rfl ?_;first| refine gS (fun _ _=>AQ rfl rfl (by rfl) (by rfl)) ?_) |refine aU rfl ?_)
 (refine pW rfl ?_ rfl (by rfl);refine Bx [0,1,2,3,4] rfl rfl (hcl) ⟨rfl,by decide,by decide⟩ rfl (by simp[cX,zC,hΓ,A1,hpz,hmp]) ?_;rintro x0 σ1 nx1 ⟨rfl,rfl,rfl⟩ _)
 (refine pW rfl ?_ rfl (by rfl);refine BO [0,1,2,3,4] rfl rfl 1 (hadd) (by decide) ⟨rfl,by decide,by decide⟩ rfl (by simp[cX,zC,hΓ,A1]) ?_;rintro x0 σ1 nx1 ⟨rfl,rfl,rfl⟩ _)
 refine Aa ?_
 (repeat first|refine tA rfl ?_ |refine aU rfl ?_ |refine Aa ?_)
 refine aR ⟨_,rfl,[0,5,6,7,8],.o (.ptr 0 14 0 0),NS t m1,⟨by intro i hi;omega,by decide⟩,rfl,by (simp[cX,zC,hΓ,A1]),rfl,rfl,rfl⟩
end Go.Am
namespace Go.Proofs.YtbfgijpfhgmepaaGreatDoor
open Go Go.Am Go.ChangeShapes Go.WideShapes Go.ChangeAt Go.RowKit
theorem jW{H:Type}{enc:TypeId×Value→H}{P:Program}{w:World}{t:TypeId}{v:Value}{d:DataW H}{ps:List MemPlace}{base:Nat}(ht:P.underlying t=some (.int .i64))(hv:Value.okWide P w .any base t v)(hd:DataW.Trod enc P w 0 (fun _=>true) true t v d ps):∃n : { n:Int // n < 9223372036854775808 },Bd (TY w) (eI .i64 n.1) v:=by
 obtain⟨m,hm⟩:=hd
 obtain⟨n,hc,_,hw⟩:=DataW.trod_int ht hm
 refine⟨⟨n,by have:=bounds_i64 hw;omega⟩,?_⟩
 have:v=.int .i64 n:=by
  unfold Value.okWide Cell.okWide Cell.ok at hv
  simp only [ht] at hv
  split at hv<;>simp_all [Value.cells]
 subst this
 exact .d (.v rfl)
section
variable {w:World}
end
end Go.Proofs.YtbfgijpfhgmepaaGreatDoor
namespace Go.Am
open Go Go.Proofs
set_option maxHeartbeats 1000000
attribute [local irreducible] AS BT Lex Bc Au Spec
variable {TB:Bt}
theorem WM{es:List ET}{l:Int}{m k:Nat}{e:ET}(he:es[k]? = some e):Cg (es.take (k+1)) l m=if e.l=l∧m.testBit e.f.toNat=true then Cg (es.take k) l m ||| 2 ^ e.t.toNat else Cg (es.take k) l m:=by
 unfold Cg
 rw [List.take_add_one,he,List.foldl_append];rfl
theorem UC{s:Sys}(hs:AR s=true){l:Int}{m k:Nat}:Cg (s.es.take k) l m < 65536:=Jr fun j hj=>by
 obtain⟨e,he,_,rfl⟩:=DH.1 hj
 have hb:=DA hs (List.mem_of_mem_take he)
 have hh:=AM hs
 unfold DT at hb
 simp only [Bool.and_eq_true,decide_eq_true_eq] at hb
 omega
theorem QW{s:Sys}(hs:AR s=true)(l:Int){m:Nat}(hm:m < 65536):Pure Tryz.prog TB 214 [Bv s,eI .i64 (m:Nat),eI .i64 l] (eI .i64 (Cg s.es l m:Nat)):=by
 have hh:=AM hs
 refine eG Tryz.func214 rfl (by kernel_rfl) rfl ?_;intro Γ hΓ
 refine Au.bound 0 rfl fun hB0=>?_
 have hB:=hB0 (s.es.map C9) ⟨2,_,rfl,.refl⟩
 rw [List.length_map] at hB
 (repeat first|refine tA rfl ?_ |refine aU rfl ?_ |refine Aa ?_)
 refine aB ?_
 refine aL (α:={k:Nat // k≤s.es.length}) [1,2,3] [] rfl rfl (fun ⟨k,hk⟩=>[(7,eI .i64 (Cg (s.es.take k) l m:Nat)),(8,eI .i64 k)]) (fun ⟨k,hk⟩=>[]) 0 (fun ⟨k,hk⟩=>s.es.length - k) (⟨0,by omega⟩) hΓ rfl (by (simp[cX,zC,hΓ]<;>rfl)) ?_;rintro⟨k,hk⟩;(try dsimp only[cA,cB])
 by_cases hlt:k < s.es.length
 ·obtain⟨e,he⟩:=get_some hlt
  have he':=get_map (g:=C9) he
  have hee:(s.es.map C9)[((k:Nat):Int).toNat]? = some (C9 e):=by rw [Int.toNat_natCast];exact he'
  have hb:=DA hs (List.mem_of_getElem? he)
  unfold DT at hb
  simp only [Bool.and_eq_true,decide_eq_true_eq] at hb
  have hst:=WM (l:=l) (m:=m) he
  have hlt1:=UC hs (l:=l) (m:=m) (k:=k)
  have hh1:=CY (TB:=TB) (m:Nat) e.f (by omega) (by omega)
  rw [C8 (by omega) (by omega)] at hh1
  have hbt:=Uw (TB:=TB) e.t (by omega) (by omega)
  have hp2:2 ^ e.t.toNat < 65536:=by
   have:2 ^ e.t.toNat≤2 ^ 15:=Nat.pow_le_pow_right (by omega) (by omega)
   omega
  have hor:=N9 (a:=Cg (s.es.take k) l m) (b:=2 ^ e.t.toNat) (by omega) (by omega)
  generalize 2 ^ e.t.toNat=p2 at *
  (repeat first|refine sN rfl ?_ |refine tA rfl ?_ |refine s2 rfl fun _ _hb=>?_ |refine aU rfl ?_ |refine Aa ?_)
  ((refine aC rfl ?_ ?_<;>rintro⟨⟩);all_goals try(exfalso;(simp only[oZ] at *;omega)))
  refine aK ?_
  refine aS (aB ?_)
  (repeat' first|(refine sA rfl ?_ ?_;first|exact tI|omega) |(refine s4 rfl ‹_› rfl ?_ ?_;omega) |refine s2 rfl fun _ _hb=>?_ |(refine sC rfl (hh1) ?_;intro _ _hb)|refine sP rfl (hbt) rfl ?_ |refine s3 rfl ?_ ?_<;>rintro rfl |refine aU rfl ?_ |refine Aa ?_|(refine aC rfl ?_ ?_<;>rintro⟨⟩));all_goals try contradiction
  ·refine⟨⟨k+1,by omega⟩,by dsimp only;(omega),[],?_⟩
   have h1:Cg (s.es.take (k+1)) l m=Cg (s.es.take k) l m ||| p2:=by rw [hst,if_pos ⟨by simpa using ‹decide (e.l=l)=true›,_hb⟩]
   simp[cX,zC,hΓ,hor,h1]
  ·have h1:Cg (s.es.take (k+1)) l m=Cg (s.es.take k) l m:=by rw [hst,if_neg (by simp [_hb])]
   refine aK ?_
   (repeat first|(refine sA rfl ?_ ?_;first|exact tI|omega) |refine aU rfl ?_ |refine Aa ?_)
   refine⟨⟨k+1,by omega⟩,by dsimp only;(omega),[],?_⟩
   simp[cX,zC,hΓ,h1]
  ·have h1:Cg (s.es.take (k+1)) l m=Cg (s.es.take k) l m:=by rw [hst,if_neg (fun h=>by simp [h.1] at _hb)]
   refine aK ?_
   (repeat first|(refine sA rfl ?_ ?_;first|exact tI|omega) |refine aU rfl ?_ |refine Aa ?_)
   refine⟨⟨k+1,by omega⟩,by dsimp only;(omega),[],?_⟩
   simp[cX,zC,hΓ,h1]
 ·obtain rfl:k=s.es.length:=by omega
  rw [List.take_length]
  (repeat first|refine sN rfl ?_ |refine tA rfl ?_ |refine s2 rfl fun _ _hb=>?_ |refine aU rfl ?_ |refine Aa ?_)
  ((refine aC rfl ?_ ?_<;>rintro⟨⟩);all_goals try(exfalso;(simp only[oZ] at *;omega)))
  refine aE ?_
  (repeat first|refine tA rfl ?_ |refine aU rfl ?_ |refine Aa ?_)
  (subst_vars;exact aR ⟨_,rfl,rfl⟩)
abbrev MC(n:Nat)(F:PS):List Int:=(List.range n).map fun p=>(F p:Int)
def Cl(t:CD)(G:PS)(i k:Nat):Prop:=∀p,p < t.q.nx.length→∀l∈Cn t,(p < i∨(p=i∧l∈(Cn t).take k))→∀j,(Cg t.s.es l (G p)).testBit j=true→(G (Cy t.q p l).toNat).testBit j=true
structure TG (t:CD) (F0 F:PS) (i k:Nat) (G:PS) (b:Bool):Prop where
 ok:CW t G
 lo:∀p j,(F0 p).testBit j=true→(G p).testBit j=true
 hi:∀p j,(G p).testBit j=true→P5 t F0 p j
 le:∀p,F p≤G p
 yes:b=true→NO G < NO F
 no:b=false→G=F∧Cl t F i k
theorem fp{F G:PS}(h:∀p,F p≤G p):NO G≤NO F:=by
 unfold NO
 repeat' apply Nat.add_le_add
 all_goals exact Nat.sub_le_sub_left (h _) _
def Xu(G:PS)(x v:Nat):PS:=fun p=>if p=x then v else G p
theorem TG.PF{t:CD}(ht:A9 t=true){F0 F G:PS}{i k:Nat}{b:Bool}(h:TG t F0 F i k G b)(hi:i < t.q.nx.length){l:Int}(hk:(Cn t)[k]? = some l){x:Nat}(hx:Cy t.q i l=(x:Int))(hne:G x ||| Cg t.s.es l (G i)≠G x):TG t F0 F i (k+1) (Xu G x (G x ||| Cg t.s.es l (G i))) true:=by
 have hl:=List.mem_of_getElem? hk
 have hin:=DF ht hl
 have hga:=Dg (Cr ht) hi hin.1 hin.2.1
 have hss:=Ji ht (l:=l) (h.ok.lt i)
 unfold Db at hss
 rw [if_pos hin.2.2] at hss
 have hlt:G x ||| Cg t.s.es l (G i) < 65536:=by have:=Nat.or_lt_two_pow (n:=16) (h.ok.lt x) hss;omega
 have hle:∀p,G p≤Xu G x (G x ||| Cg t.s.es l (G i)) p:=fun p=>by
  unfold Xu
  split
  ·rename_i e;subst e;exact Nat.left_le_or
  ·exact Nat.le_refl _
 refine⟨⟨fun p=>?_,fun p hp=>?_⟩,fun p j hj=>?_,fun p j hj=>?_,fun p=>Nat.le_trans (h.le p) (hle p),fun _=>?_,fun h=>by cases h⟩
 ·unfold Xu
  split
  ·exact hlt
  ·exact h.ok.lt p
 ·unfold Xu
  rw [if_neg (by omega)];exact h.ok.z p hp
 ·have:=h.lo p j hj
  unfold Xu
  split
  ·rename_i e;subst e;rw [Nat.testBit_or,this];rfl
  ·exact this
 ·unfold Xu at hj
  split at hj
  ·rename_i e
   subst e
   rw [Nat.testBit_or,Bool.or_eq_true] at hj
   rcases hj with hj|hj
   ·exact h.hi p j hj
   ·obtain⟨e,he,⟨h3,h4⟩,h5⟩:=DH.1 hj
    subst h3
    have:=P5.step (h.hi i _ h4) he hl rfl
    rw [hx,h5] at this
    simpa using this
  ·exact h.hi p j hj
 ·have h1:=fp h.le
  refine Nat.lt_of_lt_of_le (Yz h.ok.lt (fun p=>?_) hle fun he=>hne ?_) h1
  ·unfold Xu
   split
   ·exact hlt
   ·exact h.ok.lt p
  ·have hn:=AG (Cr ht)
   have:=SZ he x (by omega)
   simpa [Xu] using this
theorem TG.lq{t:CD}(ht:A9 t=true){F0 F G:PS}{i k:Nat}{b:Bool}(h:TG t F0 F i k G b){l:Int}(hk:(Cn t)[k]? = some l){x:Nat}(hx:Cy t.q i l=(x:Int))(he:G x ||| Cg t.s.es l (G i)=G x):TG t F0 F i (k+1) G b:=
 ⟨h.ok, h.lo,h.hi,h.le,h.yes,fun hb=>by
  obtain⟨rfl,hc⟩:=h.no hb
  refine⟨rfl,fun p hp l' hl' hor j hj=>?_⟩
  rcases hor with h1|⟨rfl,h1⟩
  ·exact hc p hp l' hl' (.inl h1) j hj
  ·rw [List.take_add_one,hk] at h1
   rcases List.mem_append.1 h1 with h1|h1
   ·exact hc p hp l' hl' (.inr ⟨rfl,h1⟩) j hj
   ·simp at h1
    subst h1
    rw [hx,Int.toNat_natCast,←he,Nat.testBit_or,hj,Bool.or_true]⟩
theorem TG.row{t:CD}{F0 F G:PS}{i:Nat}{b:Bool}(h:TG t F0 F i (Cn t).length G b):TG t F0 F (i+1) 0 G b:=
 ⟨h.ok,h.lo,h.hi,h.le,h.yes,fun hb=>by
  obtain⟨rfl,hc⟩:=h.no hb
  refine⟨rfl,fun p hp l' hl' hor j hj=>?_⟩
  rcases hor with h1|⟨rfl,h1⟩
  ·rcases Nat.lt_or_ge p i with h2|h2
   ·exact hc p hp l' hl' (.inl h2) j hj
   ·exact hc p hp l' hl' (.inr ⟨by omega,by rw [List.take_length];exact hl'⟩) j hj
  ·simp at h1⟩
theorem TG.done{t:CD}(ht:A9 t=true){F0 F G:PS}(h0:CW t F0)(h:TG t F0 F t.q.nx.length 0 G false):G=Sj t F0:=by
 obtain⟨rfl,hc⟩:=h.no rfl
 exact bI ht h0 h.ok.z h.lo h.hi fun p l j hp hl hj=>hc p hp l hl (.inl hp) j hj
theorem gm{a b:Int}(ha:A4 a=true)(hb:A4 b=true):a - Hc .i64 a b=Hi .i64 a b∧0≤Hc .i64 a b∧Hc .i64 a b≤63:=by
 have key:((List.range 64).all fun x=>(List.range 64).all fun y=>decide (((x:Nat):Int) - Hc .i64 (x:Nat) (y:Nat)=Hi .i64 (x:Nat) (y:Nat)∧0≤Hc .i64 (x:Nat) (y:Nat)∧Hc .i64 (x:Nat) (y:Nat)≤63))=true:=by kernel_rfl
 unfold A4 at ha hb
 simp only [decide_eq_true_eq] at ha hb
 have h1:=List.all_eq_true.1 key a.toNat (List.mem_range.2 (by omega))
 have h2:=List.all_eq_true.1 h1 b.toNat (List.mem_range.2 (by omega))
 rw [Int.toNat_of_nonneg ha.1,Int.toNat_of_nonneg hb.1] at h2
 exact of_decide_eq_true h2
theorem SY{n x v:Nat}{G:PS}:((MC n G).map Al).set x (Al (v:Int))=(MC n (Xu G x v)).map Al:=by
 apply List.ext_getElem?
 intro i
 rw [List.getElem?_set]
 by_cases hi:i < n
 ·have h1:∀H:PS,((MC n H).map Al)[i]? = some (Al (H i:Int)):=fun H=>by simp [hi]
  rw [h1,h1]
  unfold Xu
  by_cases e:x=i
  ·subst e;rw [if_pos rfl,if_pos (by simpa using hi),if_pos rfl]
  ·rw [if_neg e,if_neg (fun h=>e h.symm)]
 ·have h1:∀H:PS,((MC n H).map Al)[i]? = none:=fun H=>List.getElem?_eq_none (by simp;omega)
  rw [h1,h1]
  by_cases e:x=i
  ·subst e;rw [if_pos rfl,if_neg (by simpa using hi)]
  ·rw [if_neg e]
theorem SW{n x:Nat}{G:PS}(h:x < n):((MC n G).map Al)[0+((x:Nat):Int).toNat]? = some (Al (G x:Int)):=by rw [Nat.zero_add,Int.toNat_natCast];simp [h]
theorem TG.start{t:CD}{F0 F:PS}(hF:CW t F)(h1:∀p j,(F0 p).testBit j=true→(F p).testBit j=true)(h2:∀p j,(F p).testBit j=true→P5 t F0 p j):TG t F0 F 0 0 F false:=
 ⟨hF,h1,h2,fun _=>Nat.le_refl _,fun h=>(by cases h),fun _=>⟨rfl,fun p _ l _ h=>by simp at h⟩⟩
theorem O1{t:CD}(ht:A9 t=true){F0:PS}(hF0:CW t F0):Spec Tryz.prog TB 213 [(0,.cells 3 1 ((MC t.q.nx.length F0).map Al))] 1 [Qh t,.o (.arr 0 1 0 t.q.nx.length)] (fun x σ nx=>x=.o (.arr 0 1 0 t.q.nx.length)∧σ=[(0,.cells 3 1 ((MC t.q.nx.length (Sj t F0)).map Al))]∧nx=1):=by
 have hs:AR t.s=true:=by unfold A9 at ht;simp only [Bool.and_eq_true] at ht;exact ht.1
 have hta:A4 t.al=true:=by unfold A9 at ht;simp only [Bool.and_eq_true] at ht;exact ht.2.2
 have hsh:=AM hs
 have haut:=Cr ht
 have hah:=AG haut
 have hsa:=gm hsh.1 hta
 have hla:=hsh.1
 unfold A4 at hla
 simp only [decide_eq_true_eq] at hla
 have hlo:Pure Tryz.prog TB 121 [eI .i64 (t.s.al - Hc .i64 t.s.al t.al)] (Ag (Cn t)):=by
  have:=DG (TB:=TB) (t.s.al - Hc .i64 t.s.al t.al)
  rw [hsa.1,I9 hsh.1 hta] at this
  rw [hsa.1];exact this
 have hll:(Cn t).length≤6:=by
  unfold Cn
  have h1:(Ac t.s.al).length≤6:=AV _ _
  exact Nat.le_trans (List.length_filter_le _ _) h1
 refine eR Tryz.func213 rfl (by kernel_rfl) rfl ?_;intro Γ hΓ
 (repeat first|(refine sA rfl ?_ ?_;first|exact tI|omega) |refine sP rfl (hlo) rfl ?_ |refine aU rfl ?_ |refine Aa ?_)
 refine aB ?_
 refine aL (α:={s:PS×Bool // CW t s.1∧(∀p j,(F0 p).testBit j=true→(s.1 p).testBit j=true)∧(∀p j,(s.1 p).testBit j=true→P5 t F0 p j)∧(s.2=false→s.1=Sj t F0)}) [1,2,5] [] rfl rfl (fun s=>[(6,eB s.1.2)]) (fun s=>[(0,.cells 3 1 ((MC t.q.nx.length s.1.1).map Al))]) 1 (fun s=>(if s.1.2 then NO s.1.1+1 else 0)) (⟨⟨F0,true⟩,hF0,fun _ _ h=>h,fun _ _ h=>.base h,fun h=>by cases h⟩) hΓ rfl (by (simp[cX,zC,hΓ])) ?_;rintro⟨⟨F,b⟩,hF,h1,h2,h3⟩;(try dsimp only[cA,cB])
 have hF:CW t F:=hF
 cases b with
 | false=>
  obtain rfl:F=Sj t F0:=h3 rfl
  (repeat first|refine tA rfl ?_ |refine aU rfl ?_ |refine Aa ?_)
  (refine aC rfl ?_ ?_<;>rintro⟨⟩)
  refine aE ?_
  (repeat first|refine tA rfl ?_ |refine aU rfl ?_ |refine Aa ?_)
  refine aR ⟨_,rfl,[0],.o (.arr 0 1 0 t.q.nx.length),_,⟨by intro i hi;match i with|0=>rfl,by decide⟩,rfl,?_,rfl,rfl,rfl⟩
  (simp[cX,zC,hΓ])
 | true =>
  (repeat first|refine tA rfl ?_ |refine aU rfl ?_ |refine Aa ?_)
  (refine aC rfl ?_ ?_<;>rintro⟨⟩)
  refine aK ?_
  refine aB ?_
  (repeat first|refine tA rfl ?_ |refine aU rfl ?_ |refine Aa ?_)
  refine aB ?_
  refine aL (α:={s:Nat×PS×Bool // s.1≤t.q.nx.length∧TG t F0 F s.1 0 s.2.1 s.2.2}) [1,2,5] [] rfl rfl (fun s=>[(6,eB s.1.2.2),(7,eI .i64 s.1.1)]) (fun s=>[(0,.cells 3 1 ((MC t.q.nx.length s.1.2.1).map Al))]) 1 (fun s=>t.q.nx.length - s.1.1) (⟨⟨0,F,false⟩,by simp,.start hF h1 h2⟩) hΓ rfl (by (simp[cX,zC,hΓ])) ?_;rintro⟨⟨i,G,b⟩,hi,hG⟩;(try dsimp only[cA,cB])
  have hi:i≤t.q.nx.length:=hi
  have hG:TG t F0 F i 0 G b:=hG
  by_cases hin:i < t.q.nx.length
  ·(repeat first|refine tA rfl ?_ |refine s2 rfl fun _ _hb=>?_ |refine aU rfl ?_ |refine Aa ?_)
   ((refine aC rfl ?_ ?_<;>rintro⟨⟩);all_goals try(exfalso;(simp only[oZ] at *;omega)))
   refine aK ?_
   refine aS (aB ?_)
   (repeat first|refine tA rfl ?_ |refine aU rfl ?_ |refine Aa ?_)
   refine aB ?_
   refine aL (α:={s:Nat×PS×Bool // s.1≤(Cn t).length∧TG t F0 F i s.1 s.2.1 s.2.2}) [1,2,5,7] [] rfl rfl (fun s=>[(6,eB s.1.2.2),(8,eI .i64 s.1.1)]) (fun s=>[(0,.cells 3 1 ((MC t.q.nx.length s.1.2.1).map Al))]) 1 (fun s=>(Cn t).length - s.1.1) (⟨⟨0,G,b⟩,by simp,hG⟩) hΓ rfl (by (simp[cX,zC,hΓ])) ?_;rintro⟨⟨k,G',b'⟩,hk,hG'⟩;(try dsimp only[cA,cB])
   have hk:k≤(Cn t).length:=hk
   have hG':TG t F0 F i k G' b':=hG'
   clear hG
   by_cases hkl:k < (Cn t).length
   ·obtain⟨l,hlk⟩:=get_some hkl
    have hin':=DF ht (List.mem_of_getElem? hlk)
    have hl':((Cn t).map Bm)[((k:Nat):Int).toNat]? = some (Bm l):=by rw [Int.toNat_natCast];simp [hlk]
    have hgo:=Jw (TB:=TB) t.q haut i hin l hin'.1 hin'.2.1
    have hga:=Dg haut hin hin'.1 hin'.2.1
    obtain⟨x,hx⟩:∃x:Nat,Cy t.q i l=x:=⟨(Cy t.q i l).toNat,by omega⟩
    rw [hx] at hgo hga
    have hst:=QW (TB:=TB) hs l (hG'.ok.lt i)
    have hms:Cg t.s.es l (G' i) < 65536:=by
     have:=UC hs (l:=l) (m:=G' i) (k:=t.s.es.length)
     rwa [List.take_length] at this
    have r1:=SW (n:=t.q.nx.length) (G:=G') (x:=x) (by omega)
    have r2:=SW (n:=t.q.nx.length) (G:=G') (x:=i) hin
    have hxl:=hG'.ok.lt x
    have hor:=N9 (a:=G' x) (b:=Cg t.s.es l (G' i)) (by omega) (by omega)
    have hset:=SY (n:=t.q.nx.length) (x:=x) (v:=G' x ||| Cg t.s.es l (G' i)) (G:=G')
    (repeat first|refine sN rfl ?_ |refine tA rfl ?_ |refine s2 rfl fun _ _hb=>?_ |refine aU rfl ?_ |refine Aa ?_)
    ((refine aC rfl ?_ ?_<;>rintro⟨⟩);all_goals try(exfalso;(simp only[oZ] at *;omega)))
    refine aK ?_
    refine aS (aB ?_)
    (repeat first|refine aU rfl ?_)
    refine rG (IZ []) (by kernel_rfl) ?_
    (repeat first|refine tA rfl ?_ |(refine s4 rfl ‹_› rfl ?_ ?_;omega) |refine sP rfl (hgo) rfl ?_ |refine aU rfl ?_ |refine Aa ?_)
    refine rG (IZ []) (by kernel_rfl) ?_
    (repeat first|((first|refine sA rfl ?_ ?_|refine s4 rfl ‹_› rfl ?_ ?_);first|exact tI|omega) |refine s2 rfl fun _ _hb=>?_ |refine sP rfl (hst) rfl ?_ |refine aU rfl ?_ |refine Aa ?_)
    (refine aC rfl ?_ ?_<;>rintro⟨⟩)
    ·have hne:G' x ||| Cg t.s.es l (G' i)≠G' x:=by
      rw [hor] at _hb
      simp only [decide_eq_true_eq] at _hb
      omega
     (repeat first|(refine sA rfl ?_ ?_;first|exact tI|omega) |refine t4 rfl ‹_› rfl ?_ |refine aU rfl ?_ |refine Aa ?_)
     have hs1:=hG'.PF ht hin hlk hx hne
     generalize Xu G' x (G' x ||| Cg t.s.es l (G' i))=G2 at *
     refine⟨⟨⟨k+1,G2,true⟩,by omega,hs1⟩,by dsimp only;(omega),[0],?_⟩
     simp[cX,zC,hΓ,hor];simpa [Function.comp_def] using hset
    ·have he:G' x ||| Cg t.s.es l (G' i)=G' x:=by
      rw [hor] at _hb
      simp only [decide_eq_false_iff_not] at _hb
      omega
     refine aK ?_
     (repeat first|(refine sA rfl ?_ ?_;first|exact tI|omega) |refine aU rfl ?_ |refine Aa ?_)
     refine⟨⟨⟨k+1,G',b'⟩,by omega,hG'.lq ht hlk hx he⟩,by dsimp only;(omega),[0],?_⟩
     simp[cX,zC,hΓ]
   ·obtain rfl:k=(Cn t).length:=by omega
    (repeat first|refine sN rfl ?_ |refine tA rfl ?_ |refine s2 rfl fun _ _hb=>?_ |refine aU rfl ?_ |refine Aa ?_)
    ((refine aC rfl ?_ ?_<;>rintro⟨⟩);all_goals try(exfalso;(simp only[oZ] at *;omega)))
    refine aE ?_
    (repeat first|(refine sA rfl ?_ ?_;first|exact tI|omega) |refine aU rfl ?_ |refine Aa ?_)
    refine⟨⟨⟨i+1,G',b'⟩,by omega,hG'.row⟩,by dsimp only;(omega),[0],?_⟩
    simp[cX,zC,hΓ]
  ·obtain rfl:i=t.q.nx.length:=by omega
   (repeat first|refine tA rfl ?_ |refine s2 rfl fun _ _hb=>?_ |refine aU rfl ?_ |refine Aa ?_)
   ((refine aC rfl ?_ ?_<;>rintro⟨⟩);all_goals try(exfalso;(simp only[oZ] at *;omega)))
   refine aE ?_
   refine⟨⟨⟨G,b⟩,hG.ok,hG.lo,hG.hi,fun hb=>by have hb:b=false:=hb;subst hb;exact hG.done ht hF0⟩,by cases b<;>simp_all [hG.yes],[0],?_⟩
   simp[cX,zC,hΓ]
theorem RQ{n:Nat}:List.replicate n (Al 0)=(MC n fun _=>0).map Al:=by
 apply List.ext_getElem?
 intro i
 by_cases h:i < n
 ·simp [h]
 ·rw [List.getElem?_eq_none (by simp;omega),List.getElem?_eq_none (by simp;omega)]
theorem Xm{n:Nat}:(List.replicate n (Al 0)).set 0 (Al 1)=(MC n IE).map Al:=by
 rw [RQ]
 have:=SY (n:=n) (x:=0) (v:=1) (G:=fun _=>0)
 have e:Xu (fun _=>0) 0 1=IE:=by funext p;rfl
 rw [e] at this
 exact this
theorem WL{t:CD}(ht:A9 t=true):Pure Tryz.prog TB 181 [Qh t] (Ag (MC t.q.nx.length (Cq t))):=by
 have hah:=AG (Cr ht)
 have hcl:=O1 (TB:=TB) ht (LU ht)
 rw [show Sj t IE=Cq t from rfl] at hcl
 have hst:=Xm (n:=t.q.nx.length)
 have hr0:(List.replicate t.q.nx.length (Al 0))[0+(0:Int).toNat]? = some (Al 0):=by rw [List.getElem?_replicate,if_pos];simp;omega
 refine eG Tryz.func181 rfl (by kernel_rfl) rfl ?_;intro Γ hΓ
 (repeat first|refine sN rfl ?_ |refine tA rfl ?_ |refine aU rfl ?_ |refine Aa ?_)
 (refine pW rfl ?_ rfl (by rfl);refine Eo rfl rfl (by rfl) (by rfl) (Nat.le_of_ble_eq_true rfl) (by omega) (by omega) (by omega) ?_)
 (repeat first|(refine sA rfl ?_ ?_;first|exact tI|omega) |refine t4 rfl ‹_› rfl ?_ |refine aU rfl ?_ |refine Aa ?_)
 (refine pW rfl ?_ rfl (by rfl);refine Bx [0] rfl rfl (hcl) ⟨rfl,by decide,by decide⟩ rfl (by simp[cX,zC,hΓ,hst]) ?_;rintro x0 σ1 nx1 ⟨rfl,rfl,rfl⟩ _)
 (repeat first|refine tA rfl ?_)
 refine Aa ?_
 refine Au.BR [] [] rfl rfl [(2,.o (.arr 0 1 0 t.q.nx.length))] [(0,.cells 3 1 ((MC t.q.nx.length (Cq t)).map Al))] [0] (rl hΓ rfl) (by (simp[cX,zC,hΓ,hst])) ?_;(try dsimp only[cA,cB])
 refine Au.settle [(2,Ag (MC t.q.nx.length (Cq t)))] ⟨⟨_,rfl,.o (.full rfl (by simp [Function.comp_def]) (by simp))⟩,trivial⟩ ?_
 refine aR ⟨_,rfl,rfl⟩
theorem cr{t:CD}(ht:A9 t=true){F:PS}:Pure Tryz.prog TB 182 [Qh t,Ag (MC t.q.nx.length F)] (eB (Fb t F)):=by
 have hah:=AG (Cr ht)
 have hpl:(MC t.q.nx.length F).length=t.q.nx.length:=by simp
 have hdef:Fb t F=HC t F t.q.nx.length:=rfl
 refine eG Tryz.func182 rfl (by kernel_rfl) rfl ?_;intro Γ hΓ
 (repeat first|refine tA rfl ?_ |refine aU rfl ?_ |refine Aa ?_)
 refine aB ?_
 refine aL (α:={k:Nat // k≤t.q.nx.length∧HC t F k=false}) [1,2] [] rfl rfl (fun ⟨k,hk,hb⟩=>[(5,eI .i64 k)]) (fun ⟨k,hk,hb⟩=>[]) 0 (fun ⟨k,hk,hb⟩=>t.q.nx.length - k) (⟨0,by omega,rfl⟩) hΓ rfl (by (simp[cX,zC,hΓ])) ?_;rintro⟨k,hk,hb⟩;(try dsimp only[cA,cB])
 by_cases hlt:k < t.q.nx.length
 ·have hr:((MC t.q.nx.length F).map Bm)[((k:Nat):Int).toNat]? = some (Bm (F k:Int)):=by rw [Int.toNat_natCast];simp [hlt]
  obtain⟨b,hb1⟩:=get_some (l:=t.q.ac) (k:=((k:Nat):Int).toNat) (by omega)
  have hb':=get_map (g:=Ib) hb1
  have hgd:t.q.ac.getD k false=b:=by rw [Int.toNat_natCast] at hb1;simp [List.getD,hb1]
  have hs:=Ka (t:=t) (F:=F) (k:=k)
  rw [hgd,hb] at hs
  (repeat first|refine sN rfl ?_ |refine tA rfl ?_ |refine s2 rfl fun _ _hb=>?_ |refine aU rfl ?_ |refine Aa ?_)
  ((refine aC rfl ?_ ?_<;>rintro⟨⟩);all_goals try(exfalso;(simp only[oZ] at *;omega)))
  refine aK ?_
  refine aS (aB ?_)
  (repeat' first|refine tA rfl ?_ |(refine s4 rfl ‹_› rfl ?_ ?_;omega) |refine s2 rfl fun _ _hb=>?_ |refine s3 rfl ?_ ?_<;>rintro rfl |refine aU rfl ?_ |refine Aa ?_|(refine aC rfl ?_ ?_<;>rintro⟨⟩));all_goals try contradiction
  ·have hbt:Fb t F=true:=by
    have h7:=of_decide_eq_true ‹decide ((F k:Int)≠0)=true›
    have h8:F k≠0:=by omega
    rw [hdef]
    unfold HC
    exact List.any_eq_true.2 ⟨k,List.mem_range.2 hlt,by rw [hgd,_hb];simp [h8]⟩
   rw [hbt]
   (subst_vars;exact aR ⟨_,rfl,rfl⟩)
  ·have hk1:HC t F (k+1)=false:=by rw [hs];simp_all
   refine aK ?_
   (repeat first|(refine sA rfl ?_ ?_;first|exact tI|omega) |refine aU rfl ?_ |refine Aa ?_)
   refine⟨⟨k+1,by omega,hk1⟩,by dsimp only;(omega),[],?_⟩
   simp[cX,zC,hΓ]
  ·have hk1:HC t F (k+1)=false:=by rw [hs];simp at _hb;simp;omega
   refine aK ?_
   (repeat first|(refine sA rfl ?_ ?_;first|exact tI|omega) |refine aU rfl ?_ |refine Aa ?_)
   refine⟨⟨k+1,by omega,hk1⟩,by dsimp only;(omega),[],?_⟩
   simp[cX,zC,hΓ]
 ·obtain rfl:k=t.q.nx.length:=by omega
  rw [hdef,hb]
  (repeat first|refine sN rfl ?_ |refine tA rfl ?_ |refine s2 rfl fun _ _hb=>?_ |refine aU rfl ?_ |refine Aa ?_)
  ((refine aC rfl ?_ ?_<;>rintro⟨⟩);all_goals try(exfalso;(simp only[oZ] at *;omega)))
  refine aE ?_
  (repeat first|refine tA rfl ?_ |refine aU rfl ?_ |refine Aa ?_)
  (subst_vars;exact aR ⟨_,rfl,rfl⟩)
theorem ft{t:CD}{l:Int}{F:PS}{k x:Nat}(h:Cy t.q k l=(x:Int)):Ea t l F (k+1)=Xu (Ea t l F k) x (Ea t l F k x ||| Db t.s l (F k)):=by
 rw [Jy]
 funext p
 unfold Xu
 rw [h]
 by_cases e:p=x
 ·subst e;simp
 ·rw [if_neg e,if_neg (by omega)]
theorem ZO{t:CD}(ht:A9 t=true){F:PS}(hF:CW t F){l:Int}(hl:0≤l∧l < 6):Pure Tryz.prog TB 183 [Qh t,Ag (MC t.q.nx.length F),eI .i64 l] (Ag (MC t.q.nx.length (Dy t l F))):=by
 have hs:AR t.s=true:=by unfold A9 at ht;simp only [Bool.and_eq_true] at ht;exact ht.1
 have haut:=Cr ht
 have hah:=AG haut
 have hcl:=O1 (TB:=TB) ht (Ko ht hl hF)
 rw [show Sj t (VP t l F)=Dy t l F from rfl] at hcl
 have hpl:(MC t.q.nx.length F).length=t.q.nx.length:=by simp
 have h0:List.replicate t.q.nx.length (Al 0)=(MC t.q.nx.length (Ea t l F 0)).map Al:=RQ
 have hz0:[zC (Value.int IntKind.i64 0)]=Al 0:=rfl
 have hhas:=CY (TB:=TB) t.s.al l hl.1 (by omega)
 refine eG Tryz.func183 rfl (by kernel_rfl) rfl ?_;intro Γ hΓ
 (repeat first|refine sN rfl ?_ |refine tA rfl ?_ |refine aU rfl ?_ |refine Aa ?_)
 (refine pW rfl ?_ rfl (by rfl);refine Eo rfl rfl (by rfl) (by rfl) (Nat.le_of_ble_eq_true rfl) (by omega) (by omega) (by omega) ?_)
 (repeat first|refine tA rfl ?_ |refine aU rfl ?_ |refine Aa ?_)
 refine aB ?_
 refine aL (α:={k:Nat // k≤t.q.nx.length}) [1,2,3] [] rfl rfl (fun s=>[(7,.o (.arr 0 1 0 t.q.nx.length)),(8,eI .i64 s.1)]) (fun s=>[(0,.cells 3 1 ((MC t.q.nx.length (Ea t l F s.1)).map Al))]) 1 (fun s=>t.q.nx.length - s.1) (⟨0,by omega⟩) hΓ rfl (by (simp[cX,zC,hΓ,h0,hz0])) ?_;rintro⟨k,hk⟩;(try dsimp only[cA,cB])
 by_cases hkl:k < t.q.nx.length
 ·have hr:((MC t.q.nx.length F).map Bm)[((k:Nat):Int).toNat]? = some (Bm (F k:Int)):=by rw [Int.toNat_natCast];simp [hkl]
  have hgo:=Jw (TB:=TB) t.q haut k hkl l hl.1 hl.2
  have hga:=Dg haut hkl hl.1 hl.2
  obtain⟨x,hx⟩:∃x:Nat,Cy t.q k l=x:=⟨(Cy t.q k l).toNat,by omega⟩
  have hnx:=ft (F:=F) hx
  rw [hx] at hgo hga
  have hst:=QW (TB:=TB) hs l (hF.lt k)
  have r1:=SW (n:=t.q.nx.length) (G:=Ea t l F k) (x:=x) (by omega)
  have hml:=YE ht (l:=l) hF k x
  have hss:=Ji ht (l:=l) (hF.lt k)
  have hor:=N9 (a:=Ea t l F k x) (b:=Db t.s l (F k)) (by omega) (by omega)
  have hset:=SY (n:=t.q.nx.length) (x:=x) (v:=Ea t l F k x ||| Db t.s l (F k)) (G:=Ea t l F k)
  rw [←hnx] at hset
  (repeat first|refine sN rfl ?_ |refine tA rfl ?_ |refine s2 rfl fun _ _hb=>?_ |refine aU rfl ?_ |refine Aa ?_)
  ((refine aC rfl ?_ ?_<;>rintro⟨⟩);all_goals try(exfalso;(simp only[oZ] at *;omega)))
  refine aK ?_
  refine aS (aB ?_)
  (repeat first|refine tA rfl ?_ |(refine s4 rfl ‹_› rfl ?_ ?_;omega) |(refine sC rfl (hhas) ?_;intro _ _hb) |refine aU rfl ?_ |refine Aa ?_)
  (refine aC rfl ?_ ?_<;>rintro⟨⟩)
  ·have hsm:Db t.s l (F k)=Cg t.s.es l (F k):=by unfold Db;rw [if_pos _hb]
   rw [←hsm] at hst
   (repeat first|(refine sA rfl ?_ ?_;first|exact tI|omega) |refine t4 rfl ‹_› rfl ?_ |refine sP rfl (hst) rfl ?_|refine sP rfl (hgo) rfl ?_ |refine aU rfl ?_ |refine Aa ?_)
   refine⟨⟨k+1,by omega⟩,by dsimp only;(omega),[0],?_⟩
   simp[cX,zC,hΓ,hor];simpa [Function.comp_def] using hset
  ·have hsm:Db t.s l (F k)=F k:=by unfold Db;rw [if_neg (by simp [_hb])]
   rw [hsm] at hor hset
   refine aK ?_
   (repeat first|(refine sA rfl ?_ ?_;first|exact tI|omega) |refine t4 rfl ‹_› rfl ?_ |refine sP rfl (hgo) rfl ?_ |refine aU rfl ?_ |refine Aa ?_)
   refine⟨⟨k+1,by omega⟩,by dsimp only;(omega),[0],?_⟩
   simp[cX,zC,hΓ,hor];simpa [Function.comp_def] using hset
 ·obtain rfl:k=t.q.nx.length:=by omega
  rw [show Ea t l F t.q.nx.length=VP t l F from rfl]
  (repeat first|refine sN rfl ?_ |refine tA rfl ?_ |refine s2 rfl fun _ _hb=>?_ |refine aU rfl ?_ |refine Aa ?_)
  ((refine aC rfl ?_ ?_<;>rintro⟨⟩);all_goals try(exfalso;(simp only[oZ] at *;omega)))
  refine aE ?_
  (repeat first|refine tA rfl ?_ |refine aU rfl ?_)
  (refine pW rfl ?_ rfl (by rfl);refine Bx [0] rfl rfl (hcl) ⟨rfl,by decide,by decide⟩ rfl (by simp[cX,zC,hΓ]) ?_;rintro x0 σ1 nx1 ⟨rfl,rfl,rfl⟩ _)
  (repeat first|refine tA rfl ?_)
  refine Aa ?_
  refine Au.BR [] [] rfl rfl [(6,.o (.arr 0 1 0 t.q.nx.length))] [(0,.cells 3 1 ((MC t.q.nx.length (Dy t l F)).map Al))] [0] (rl hΓ rfl) (by (simp[cX,zC,hΓ])) ?_;(try dsimp only[cA,cB])
  refine Au.settle [(6,Ag (MC t.q.nx.length (Dy t l F)))] ⟨⟨_,rfl,.o (.full rfl (by simp [Function.comp_def]) (by simp))⟩,trivial⟩ ?_
  refine aR ⟨_,rfl,rfl⟩
theorem HU(t:CD):Pure Tryz.prog TB 174 [Qh t] (eB (A9 t)):=by
 unfold A9
 refine eN Tryz.func174 rfl (by kernel_rfl) rfl ?_;intro Γ hΓ
 (repeat' first|refine tA rfl ?_ |(refine sC rfl (CB t.s) ?_;intro _ _hb)|(refine sC rfl (Bk t.q) ?_;intro _ _hb)|(refine sC rfl (DZ t.al) ?_;intro _ _hb) |refine s3 rfl ?_ ?_<;>rintro rfl |refine aU rfl ?_ |refine Aa ?_|(refine aC rfl ?_ ?_<;>rintro⟨⟩)|refine aK ?_|refine aE ?_|refine aB ?_|refine aR ⟨_,rfl,?_⟩)
 all_goals (show E.o _=E.o _;simp_all)
noncomputable def JZ(t:CD)(w:W):Bool:=A9 t && (within w t.al && LS t w)
theorem XE{w:W}{al:Int}(h:within w al=true):∀c∈w,0≤(c.toNat:Int) - 97∧(c.toNat:Int) - 97 < 6:=fun c hc=>Ip (Eu h c hc)
theorem Ns(t:CD)(w:W)(hl:w.length≤1099511627776):Pure Tryz.prog TB 129 [Qh t,eT w] (eB (JZ t w)):=by
 have hv:=HU (TB:=TB) t
 have hw:=Ef (TB:=TB) w t.al hl
 by_cases h:(A9 t && within w t.al)=true
 ·have ht:A9 t=true:=by revert h;cases A9 t<;>simp
  have hwi:within w t.al=true:=by revert h;cases within w t.al<;>simp
  have hn:=XE hwi
  have hA:JZ t w=LS t w:=by unfold JZ;rw [ht,hwi];rfl
  rw [hA]
  rw [ht] at hv
  rw [hwi] at hw
  have hst:=WL (TB:=TB) ht
  refine eG Tryz.func129 rfl (by kernel_rfl) rfl ?_;intro Γ hΓ
  (repeat' first|refine tA rfl ?_ |refine s2 rfl fun _ _hb=>?_ |refine sP rfl (hv) rfl ?_|refine sP rfl (hw) rfl ?_|refine sP rfl (hst) rfl ?_ |refine s3 rfl ?_ ?_<;>rintro rfl |refine aU rfl ?_ |refine Aa ?_|(refine aC rfl ?_ ?_<;>rintro⟨⟩));all_goals try contradiction
  refine aK ?_
  (repeat first|refine tA rfl ?_ |refine sP rfl (hst) rfl ?_ |refine aU rfl ?_ |refine Aa ?_)
  refine aB ?_
  refine aL (α:={x:Nat×PS // x.1≤w.length∧CW t x.2∧FK t x.2 (w.drop x.1)=LS t w}) [1,2] [] rfl rfl (fun s=>[(5,Ag (MC t.q.nx.length s.1.2)),(6,eI .i64 s.1.1)]) (fun s=>[]) 0 (fun s=>w.length - s.1.1) (⟨⟨0,Cq t⟩,by simp,Gm ht,rfl⟩) hΓ rfl (by (simp[cX,zC,hΓ])) ?_;rintro⟨⟨i,F⟩,hi,hF,hs⟩;(try dsimp only[cA,cB])
  have hi:i≤w.length:=hi
  have hF:CW t F:=hF
  have hs:FK t F (w.drop i)=LS t w:=hs
  have hbd:=cr (TB:=TB) ht (F:=F)
  by_cases hlt:i < w.length
  ·obtain⟨c,hc⟩:=get_some hlt
   have hc':w[((i:Nat):Int).toNat]? = some c:=by simpa using hc
   have hcl:=hn c (List.mem_of_getElem? hc)
   have hla:=Jv (TB:=TB) w i c hc'
   have hmv:=ZO (TB:=TB) ht hF hcl
   have hno:=Lh ht hcl hF
   rw [Bo hc,FK] at hs
   generalize Fb t F=b at *
   (repeat' first|refine tA rfl ?_ |refine s2 rfl fun _ _hb=>?_ |refine sP rfl (hbd) rfl ?_ |refine s3 rfl ?_ ?_<;>rintro rfl |refine aU rfl ?_ |refine Aa ?_|(refine aC rfl ?_ ?_<;>rintro⟨⟩));all_goals try contradiction
   all_goals first| (exfalso;(simp only[oZ] at *;omega);done)|skip
   ·have hb:b=false:=by simpa using _hb
    subst hb
    refine aK ?_
    refine aS (aB ?_)
    refine rG (IZ []) (by kernel_rfl) ?_
    (repeat first|(refine sA rfl ?_ ?_;first|exact tI|omega) |refine sP rfl (hla) rfl ?_|refine sP rfl (hmv) rfl ?_ |refine aU rfl ?_ |refine Aa ?_)
    refine⟨⟨⟨i+1,Dy t ((c.toNat:Int) - 97) F⟩,by omega,hno,by simpa using hs⟩,by dsimp only;(omega),[],?_⟩
    simp[cX,zC,hΓ]
   ·have hb:b=true:=by simpa using _hb
    subst hb
    have hs:LS t w=false:=by simpa using hs.symm
    rw [hs]
    refine aE ?_
    (repeat first|refine tA rfl ?_ |refine s2 rfl fun _ _hb=>?_ |refine sP rfl (hbd) rfl ?_ |refine aU rfl ?_ |refine Aa ?_)
    (subst_vars;exact aR ⟨_,rfl,rfl⟩)
  ·obtain rfl:i=w.length:=by omega
   rw [List.drop_length,FK] at hs
   rw [←hs]
   (repeat' first|refine tA rfl ?_ |refine s2 rfl fun _ _hb=>?_ |refine sP rfl (hbd) rfl ?_ |refine s3 rfl ?_ ?_<;>rintro rfl |refine aU rfl ?_ |refine Aa ?_|(refine aC rfl ?_ ?_<;>rintro⟨⟩));all_goals try contradiction
   all_goals first| (exfalso;(simp only[oZ] at *;omega);done)|skip
   refine aE ?_
   (repeat first|refine tA rfl ?_ |refine s2 rfl fun _ _hb=>?_ |refine sP rfl (hbd) rfl ?_ |refine aU rfl ?_ |refine Aa ?_)
   (subst_vars;exact aR ⟨_,rfl,rfl⟩)
 ·have hA:JZ t w=false:=by unfold JZ;revert h;cases A9 t<;>cases within w t.al<;>simp
  rw [hA]
  refine eG Tryz.func129 rfl (by kernel_rfl) rfl ?_;intro Γ hΓ
  (repeat' first|refine tA rfl ?_ |refine s2 rfl fun _ _hb=>?_ |(refine sC rfl (hv) ?_;intro _ _hb)|(refine sC rfl (hw) ?_;intro _ _hb) |refine s3 rfl ?_ ?_<;>rintro rfl |refine aU rfl ?_ |refine Aa ?_|(refine aC rfl ?_ ?_<;>rintro⟨⟩));all_goals try contradiction
  all_goals first
   | (subst_vars;exact aR ⟨_,rfl,rfl⟩)
   | (exfalso;simp_all;done)
theorem NT(t:Ew)(hk:t.kn=false):Pure Tryz.prog TB 120 [EC t] (eI .i64 (if A9 ⟨t.s,t.q,t.al⟩ then t.al else -1)):=by
 obtain⟨kn,p,s,q,al⟩:=t
 dsimp only at hk
 subst hk
 have hv:=HU (TB:=TB) ⟨s,q,al⟩
 refine eN Tryz.func120 rfl (by kernel_rfl) rfl ?_;intro Γ hΓ
 (repeat' first|refine tA rfl ?_ |refine s2 rfl fun _ _hb=>?_ |(refine sC rfl (hv) ?_;intro _ _hb) |refine s3 rfl ?_ ?_<;>rintro rfl |refine aU rfl ?_ |refine Aa ?_|(refine aC rfl ?_ ?_<;>rintro⟨⟩)|refine aK ?_|refine aE ?_|refine aB ?_|refine aR ⟨_,rfl,?_⟩)
 all_goals first
  | (show E.o _=E.o _;congr;grind)
  | (exfalso;simp at *;done)
theorem Ov(t:Ew)(hk:t.kn=false)(w:W)(hl:w.length≤1099511627776):Pure Tryz.prog TB 175 [EC t,eT w] (eB (JZ ⟨t.s,t.q,t.al⟩ w)):=by
 obtain⟨kn,p,s,q,al⟩:=t
 dsimp only at hk
 subst hk
 have h1:=Ns (TB:=TB) ⟨s,q,al⟩ w hl
 refine eN Tryz.func175 rfl (by kernel_rfl) rfl ?_;intro Γ hΓ
 (repeat' first|refine tA rfl ?_ |refine sP rfl (h1) rfl ?_ |refine aU rfl ?_ |refine Aa ?_|(refine aC rfl ?_ ?_<;>rintro⟨⟩)|refine aK ?_|refine aE ?_|refine aB ?_|refine aR ⟨_,rfl,?_⟩)
 all_goals rfl
theorem ic{t:Ew}(hk:t.kn=false):J0 Tryz.prog TB 120 175 t (if A9 ⟨t.s,t.q,t.al⟩ then t.al else -1) (JZ ⟨t.s,t.q,t.al⟩):=⟨NT t hk,Ov t hk⟩
theorem Sz(w:W)(i:Nat)(c:UInt8)(hc:w[((i:Nat):Int).toNat]? = some c):Pure Tryz.prog TB 104 [eT w,eI .i64 i] (eI .i64 (if Gb c then (c.toNat:Int) - 97 else -1)):=by
 by_cases h:Gb c=true
 ·rw [if_pos h]
  rw [Fw,decide_eq_true_eq] at h
  exact Hj w i c hc h
 ·rw [if_neg h]
  rw [Fw,decide_eq_true_eq] at h
  have hb:=c.toNat_lt
  refine eN Tryz.func104 rfl (by kernel_rfl) rfl ?_;intro Γ hΓ
  (repeat' first|(refine sA rfl ?_ ?_;first|exact tI|omega) |(refine s4 rfl ‹_› rfl ?_ ?_;omega) |refine s2 rfl fun _ _hb=>?_ |refine s3 rfl ?_ ?_<;>rintro rfl |refine aU rfl ?_ |refine Aa ?_|(refine aC rfl ?_ ?_<;>rintro⟨⟩)|refine aK ?_|refine aE ?_|refine aB ?_|refine aR ⟨_,rfl,?_⟩)
  all_goals first
   | rfl
   | (exfalso;grind)
theorem Ur(al:Int)(c:UInt8):hasB al (if Gb c then (c.toNat:Int) - 97 else -1)=Ik al c:=by
 unfold Ik hasB
 by_cases h:Gb c=true
 ·rw [if_pos h,h]
  rw [Fw,decide_eq_true_eq] at h
  have e:((c.toNat:Int) - 97).toNat=c.toNat - 97:=by omega
  rw [e]
  simp
  omega
 ·rw [if_neg h]
  simp [h]
theorem Mp(t:CD):Pure Tryz.prog TB 152 [Qh t] (eB (A9 t)):=by
 unfold A9
 refine eN Tryz.func152 rfl (by kernel_rfl) rfl ?_;intro Γ hΓ
 (repeat' first|refine tA rfl ?_ |(refine sC rfl (BX t.s) ?_;intro _ _hb)|(refine sC rfl (Be t.q) ?_;intro _ _hb)|(refine sC rfl (Hs t.al) ?_;intro _ _hb) |refine s3 rfl ?_ ?_<;>rintro rfl |refine aU rfl ?_ |refine Aa ?_|(refine aC rfl ?_ ?_<;>rintro⟨⟩)|refine aK ?_|refine aE ?_|refine aB ?_|refine aR ⟨_,rfl,?_⟩)
 all_goals (show E.o _=E.o _;simp_all)
abbrev mW(p:AU)(t:CD):E:=mV false p t.s t.q t.al
theorem PQ(p:AU)(t:CD):Pure Tryz.prog TB 102 [mW p t] (eI .i64 (if A9 t then t.al else -1)):=by
 have hv:=Mp (TB:=TB) t
 refine eN Tryz.func102 rfl (by kernel_rfl) rfl ?_;intro Γ hΓ
 (repeat' first|refine tA rfl ?_ |refine s2 rfl fun _ _hb=>?_ |(refine sC rfl (hv) ?_;intro _ _hb) |refine s3 rfl ?_ ?_<;>rintro rfl |refine aU rfl ?_ |refine Aa ?_|(refine aC rfl ?_ ?_<;>rintro⟨⟩)|refine aK ?_|refine aE ?_|refine aB ?_|refine aR ⟨_,rfl,?_⟩)
 all_goals first
  | (show E.o _=E.o _;congr;grind)
  | (exfalso;simp at *;done)
abbrev Nr(c:C):C:=.mv 106 [c]
theorem Qu[Df TB](p:AU){t:CD}(ht:A9 t=true)(ok:W→Prop):∃m,MU t ok m∧AD Tryz.prog TB 59 0 [] 0 [mW p t] (fun x σ nx=>x=.t [(true,[.d (iD t.al),Nr (.ptr 0 14 0 0)]),(false,[.d (bD true)])]∧σ=NS t m∧nx=5):=by
 obtain⟨m,hm,hns⟩:=SM (TB:=TB) ht ok
 refine⟨m,hm,?_⟩
 have hT:=PQ (TB:=TB) p t
 rw [if_pos ht] at hT
 have hta:A4 t.al=true:=by unfold A9 at ht;simp only [Bool.and_eq_true] at ht;exact ht.2.2
 unfold A4 at hta
 simp only [decide_eq_true_eq] at hta
 refine AD.A3 (AD.P6 (m:=0) (Nat.le_of_ble_eq_true rfl) Tryz.func59 rfl (by kernel_rfl) (Nat.le_of_ble_eq_true rfl) ?_);intro Γ hΓ
 (repeat first|refine tA rfl ?_ |refine sP rfl (hT) rfl ?_ |refine aU rfl ?_ |refine Aa ?_)
 refine aB ?_
 (repeat first|refine tA rfl ?_ |refine s2 rfl fun _ _hb=>?_ |refine aU rfl ?_ |refine Aa ?_)
 ((refine aC rfl ?_ ?_<;>rintro⟨⟩);all_goals try (simp at _hb;done))
 ·exfalso;(simp only[oZ] at *;omega)
 ·(repeat first|refine tA rfl ?_ |refine aU rfl ?_ |refine Aa ?_)
  ((refine aC rfl ?_ ?_<;>rintro⟨⟩);all_goals try (simp at _hb;done))
  refine aK ?_
  (repeat first|refine tA rfl ?_ |refine aU rfl ?_)
  (refine pW rfl ?_ rfl (by rfl);refine BO [] rfl rfl 0 (hns) (by decide) ⟨rfl,by decide,by decide⟩ rfl (by simp[cX,zC,hΓ,A1]) ?_;rintro x0 σ1 nx1 ⟨rfl,rfl,rfl⟩ _)
  (repeat first| (refine Ai rfl ?_;refine gA rfl ?_;first| refine gS (fun _ _=>ml rfl) ?_))
  (repeat first|refine tA rfl ?_|(refine Ai rfl ?_;refine gA rfl ?_;first| refine gS (fun _ _=>AQ rfl rfl (by rfl) (by rfl)) ?_))
  refine Aa ?_
  refine aR ⟨_,rfl,[1,2,3,4,5],.t [(true,[.d (iD t.al),Nr (.ptr 0 14 0 0)]),(false,[.d (bD true)])],NS t m,⟨by intro i hi;omega,by decide⟩,rfl,by (simp[cX,zC,hΓ,A1]),rfl,rfl,rfl⟩
def CG(te:Ew):Bool:=if te.kn then AN te.p else A9 ⟨te.s,te.q,te.al⟩
def AY(te:Ew):Int:=if te.kn then te.p.al else te.al
noncomputable def BV(te:Ew)(w:W):Bool:=if te.kn then LA te.p w else LS ⟨te.s,te.q,te.al⟩ w
def Tu(te:Ew)(ok:W→Prop):Prop:=te.kn=false→jF ⟨te.s,te.q,te.al⟩ ok
abbrev jK(al:Int):W→Prop:=fun w=>AK (AZ al) w∧w.length≤1048576
theorem lV{tabs:List (Nat×Obj)}[Df ⟨tabs,none⟩]{t:CD}{ok:W→Prop}(ht:A9 t=true)(hsub:∀w,ok w→jK t.al w)(hfew:jF t ok){r:Nat}:JL Tryz.prog ⟨tabs,some (PO t ok,r)⟩ (Nr (Pn r)) (LS t) ok:=
 ⟨rfl,fun hx ha hw=>db (es:=[eT _]) hx (by simp [JP,ha]) rfl (dQ ht hfew hw (fun c hc=>Ip ((hsub _ hw).1 c hc)) (hsub _ hw).2) rfl⟩
theorem lr{tabs:List (Nat×Obj)}{h:Option (Hid×Nat)}{b:Nat}{vals:List Value}(hT:LX ⟨tabs,none⟩ b vals):LX ⟨tabs,h⟩ b vals:=⟨hT.out⟩
theorem jw{tabs:List (Nat×Obj)}{h:Option (Hid×Nat)}(hT:Df ⟨tabs,none⟩):Df ⟨tabs,h⟩:=by
 cases hT
 constructor<;>(apply lr;assumption)
theorem Kj{t:Ew}{al:Int}{A:W→Bool}(hT:J0 Tryz.prog TB 120 175 t al A)(cols words:List W)(hl:cols.length≤4194304)(hw:∀w∈words,w.length≤4194305)(hb:∀x∈cols,x.length≤4194304)(hwl:words.length≤4194304) :
 Pure Tryz.prog TB 122 [EC t,CP cols,CP words] (CP (words.map (marks A cols))):=by
 refine eN Tryz.func122 rfl (by kernel_rfl) rfl ?_;intro Γ hΓ
 (repeat first|refine aU rfl ?_)
 (refine Ai rfl ?_;refine Bs (fun _ _=>C0 rfl rfl rfl) rfl ?_)
 (repeat first|refine tX rfl ?_ |refine aU rfl ?_ |refine Aa ?_)
 (refine pW rfl ?_ rfl (by rfl);refine BP rfl rfl rfl rfl (by simp) (by rfl) (by rfl) (by rfl) (by rfl) ?_)
 (repeat first|refine tX rfl ?_ |refine aU rfl ?_ |refine Aa ?_)
 refine aB ?_
 refine aL (α:={k:Nat // k≤words.length}) [1,2,3] [] rfl rfl (fun ⟨k,hk⟩=>[(7,.o (.arr 0 1 0 k)),(8,eI .i64 k)]) (fun ⟨k,hk⟩=>[(0,.cells 9 1 ((words.take k).map fun w=>[.d (tD (marks A cols w))]))]) 1 (fun ⟨k,hk⟩=>words.length - k) (⟨0,by omega⟩) hΓ rfl (by (simp[cX,zC,hΓ])) ?_;rintro⟨k,hk⟩;(try dsimp only[cA,cB])
 by_cases hlt:k < words.length
 ·obtain⟨x,hx⟩:=get_some hlt
  have hx':=get_map (g:=Ed) hx
  have hr:=Mq hT cols x hl (hw x (List.mem_of_getElem? hx)) hb
  have hst:(words.take (k+1)).map (fun w=>[C.d (tD (marks A cols w))])=(words.take k).map (fun w=>[C.d (tD (marks A cols w))])++[[C.d (tD (marks A cols x))]]:=by rw [List.take_add_one,hx];simp
  (repeat first|refine sN rfl ?_ |refine tX rfl ?_ |refine s2 rfl fun _ _hb=>?_ |refine aU rfl ?_ |refine Aa ?_)
  (refine aC rfl ?_ ?_<;>rintro⟨⟩)
  ·refine aK ?_
   refine aS (aB ?_)
   refine rG (IZ [9]) (by kernel_rfl) ?_
   (repeat first|refine tA rfl ?_ |(refine s4 rfl ‹_› rfl ?_ ?_;omega) |refine sP rfl (hr) rfl ?_)
   (refine pW rfl ?_ rfl (by rfl);refine AH rfl rfl rfl (by first| (simp;done)|(simp;(omega))) rfl (by intro r hr;simp at hr;subst hr;rfl) (by rfl) (Nat.le_of_ble_eq_true rfl) (by simp;omega) ?_)
   (repeat first|(refine sA rfl ?_ ?_;first|exact tI|omega) |refine aU rfl ?_ |refine Aa ?_)
   refine⟨⟨k+1,by omega⟩,by dsimp only;(omega),[1],?_⟩
   simp[cX,zC,hΓ,hst]
  ·exfalso;(simp only[oZ] at *;omega)
 ·obtain rfl:k=words.length:=by omega
  rw [List.take_length]
  (repeat first|refine sN rfl ?_ |refine tX rfl ?_ |refine s2 rfl fun _ _hb=>?_ |refine aU rfl ?_ |refine Aa ?_)
  (refine aC rfl ?_ ?_<;>rintro⟨⟩)
  ·exfalso;(simp only[oZ] at *;omega)
  ·refine aE ?_
   (repeat first|refine tX rfl ?_ |refine aU rfl ?_ |refine Aa ?_)
   refine Au.settle [(6,CP (words.map (marks A cols)))] ⟨⟨_,rfl,.o (.full rfl (by simp [Function.comp_def]) (by simp))⟩,trivial⟩ ?_
   refine aR ⟨_,rfl,rfl⟩
def rowAt(al:Int)(l:List W)(i:Nat):Bool:=match l[i]? with
 | none=>true
 | some w=>!decide (w.length=0) && (within w al && decide (w.dropLast∈l.take i))
def OE(al:Int)(l:List W)(i:Nat):Bool:=match l[i]? with
 | none=>true
 | some w=>decide (w.length≤4000) && (within w al && !decide (w∈l.take i))
def GC(f:Nat→Bool)(n:Nat):Bool:=(List.range n).all fun i=>decide (i=0) || f i
theorem OO{f:Nat→Bool}{k:Nat}(h:GC f k=true)(hf:f k=true):GC f (k+1)=true:=by
 unfold GC at *
 rw [List.range_succ,List.all_append,h];simp [hf]
theorem QQ{f:Nat→Bool}{k n:Nat}(h0:0 < k)(h:k < n)(hf:f k=false):GC f n=false:=by
 unfold GC
 rw [List.all_eq_false]
 exact⟨k,List.mem_range.2 h,by simp [hf];omega⟩
def MJ(al:Int)(t:AW):Bool:=decide (0≤al) && (decide (1≤t.rows.length∧t.rows.length≤12) && (decide (1≤t.cols.length∧t.cols.length≤20) && (decide (t.rows[0]? = some []) && decide (t.cols[0]? = some []))))
def FU(al:Int)(t:AW):Bool:=MJ al t && (GC (rowAt al t.rows) t.rows.length && GC (OE al t.cols) t.cols.length)
theorem Ut(al:Int)(t:AW)(hz:VN t):Pure Tryz.prog TB 211 [eI .i64 al,DW t] (eB (FU al t)):=by
 have hrl:=hz.rl
 have hcl:=hz.cl
 by_cases h0:MJ al t=true
 ·have hss : FU al t=(GC (rowAt al t.rows) t.rows.length && GC (OE al t.cols) t.cols.length):=by unfold FU;rw [h0];rfl
  rw [hss]
  unfold MJ at h0
  simp only [Bool.and_eq_true,decide_eq_true_eq] at h0
  obtain⟨h1,h2,h3,h4,h5⟩:=h0
  have h4':=get_map (g:=Ed) (k:=0) h4
  have h5':=get_map (g:=Ed) (k:=0) h5
  have e0:((0:Nat):Int).toNat=(0:Int).toNat:=rfl
  rw [e0] at h4' h5'
  refine eN Tryz.func211 rfl (by kernel_rfl) rfl ?_;intro Γ hΓ
  (repeat' first|refine sN rfl ?_ |refine tA rfl ?_ |(refine s4 rfl ‹_› rfl ?_ ?_;omega) |refine s2 rfl fun _ _hb=>?_ |refine s3 rfl ?_ ?_<;>rintro rfl |refine aU rfl ?_ |refine Aa ?_|(refine aC rfl ?_ ?_<;>rintro⟨⟩)|refine aK ?_|refine aE ?_|refine aB ?_|refine aR ⟨_,rfl,?_⟩)
  all_goals first
   | (exfalso;(simp only[oZ] at *;omega);done)
   | (exfalso;simp at *;done)
   | skip
  refine aL (α:={k:Nat // 1≤k∧k≤t.rows.length∧GC (rowAt al t.rows) k=true}) [0,3,5,6] [] rfl rfl (fun ⟨k,hk1,hk,ha⟩=>[(7,eI .i64 k)]) (fun ⟨k,hk1,hk,ha⟩=>[]) 0 (fun ⟨k,hk1,hk,ha⟩=>t.rows.length - k) (⟨1,by omega,by omega,rfl⟩) hΓ rfl (by (simp[cX,zC,hΓ])) ?_;rintro⟨k,hk1,hk,ha⟩;(try dsimp only[cA,cB])
  by_cases hlt:k < t.rows.length
  ·obtain⟨x,hx⟩:=get_some hlt
   have hx':=get_map (g:=Ed) hx
   have hxb:=hz.rb x (List.mem_of_getElem? hx)
   have hra:rowAt al t.rows k=(!decide (x.length=0) && (within x al && decide (x.dropLast∈t.rows.take k))):=by unfold rowAt;rw [hx]
   have hww:=Ef (TB:=TB) x al (by omega)
   have hin:Pure Tryz.prog TB 195 [.o (.d (.l ((t.rows.map Ed).take ((k:Nat):Int).toNat))),eT (x.take ((x.length:Int) - 1).toNat)] (eB (decide (x.dropLast∈t.rows.take k))):=by
    have e1:(x.take ((x.length:Int) - 1).toNat)=x.dropLast:=by rw [List.dropLast_eq_take];congr 1;omega
    rw [e1,Int.toNat_natCast,←List.map_take]
    exact I8 _ _ (by simp;omega)
   (repeat first|refine tA rfl ?_ |refine s2 rfl fun _ _hb=>?_ |refine aU rfl ?_ |refine Aa ?_)
   (refine aC rfl ?_ ?_<;>rintro⟨⟩)
   ·(repeat' first|(refine sA rfl ?_ ?_;first|exact tI|omega) |(refine s4 rfl ‹_› rfl ?_ ?_;omega) |refine s2 rfl fun _ _hb=>?_ |(refine sC rfl (hww) ?_;intro _ _hb)|(refine sC rfl (hin) ?_;intro _ _hb)|(refine Ai rfl ?_;refine gA rfl ?_;first| refine gS (fun _ _=>Tf rfl rfl (by simp) (by omega) (by (simp only[oZ] at *;omega))) ?_|refine gS (fun _ _=>fU rfl rfl (by (simp only[oZ] at *;omega)) (by omega)) ?_) |refine s3 rfl ?_ ?_<;>rintro rfl |refine aU rfl ?_ |refine Aa ?_ |refine rE (by kernel_rfl) ?_|(refine aC rfl ?_ ?_<;>rintro⟨⟩)|refine aK ?_|refine aE ?_|refine aB ?_|refine aR ⟨_,rfl,?_⟩)
    all_goals first
     | (show eB false=eB _;rw [QQ (by omega) hlt (by rw [hra];grind)];rfl)
     | (have hst:=OO ha (by rw [hra];grind);refine⟨⟨k+1,by omega,by omega,hst⟩,by dsimp only;(omega),[],?_⟩;simp[cX,zC,hΓ])
   ·exfalso;(simp only[oZ] at *;omega)
  ·obtain rfl:k=t.rows.length:=by omega
   rw [ha]
   (repeat first|refine tA rfl ?_ |refine s2 rfl fun _ _hb=>?_ |refine aU rfl ?_ |refine Aa ?_)
   (refine aC rfl ?_ ?_<;>rintro⟨⟩)
   ·exfalso;(simp only[oZ] at *;omega)
   ·(repeat' first|refine tA rfl ?_ |refine aU rfl ?_ |refine Aa ?_|(refine aC rfl ?_ ?_<;>rintro⟨⟩)|refine aK ?_|refine aE ?_|refine aB ?_|refine aR ⟨_,rfl,?_⟩)
    refine aL (α:={k:Nat // 1≤k∧k≤t.cols.length∧GC (OE al t.cols) k=true}) [0,3,6] [] rfl rfl (fun ⟨k,hk1,hk,ha⟩=>[(9,eI .i64 k)]) (fun ⟨k,hk1,hk,ha⟩=>[]) 0 (fun ⟨k,hk1,hk,ha⟩=>t.cols.length - k) (⟨1,by omega,by omega,rfl⟩) hΓ rfl (by (simp[cX,zC,hΓ])) ?_;rintro⟨k,hk1,hk,ha⟩;(try dsimp only[cA,cB])
    by_cases hlt:k < t.cols.length
    ·obtain⟨x,hx⟩:=get_some hlt
     have hx':=get_map (g:=Ed) hx
     have hxb:=hz.cb x (List.mem_of_getElem? hx)
     have hra:OE al t.cols k=(decide (x.length≤4000) && (within x al && !decide (x∈t.cols.take k))):=by unfold OE;rw [hx]
     have hww:=Ef (TB:=TB) x al (by omega)
     have hin:Pure Tryz.prog TB 195 [.o (.d (.l ((t.cols.map Ed).take ((k:Nat):Int).toNat))),eT x] (eB (decide (x∈t.cols.take k))):=by
      rw [Int.toNat_natCast,←List.map_take]
      exact I8 _ _ (by simp;omega)
     (repeat first|refine tA rfl ?_ |refine s2 rfl fun _ _hb=>?_ |refine aU rfl ?_ |refine Aa ?_)
     (refine aC rfl ?_ ?_<;>rintro⟨⟩)
     ·(repeat' first|(refine sA rfl ?_ ?_;first|exact tI|omega) |(refine s4 rfl ‹_› rfl ?_ ?_;omega) |refine s2 rfl fun _ _hb=>?_ |(refine sC rfl (hww) ?_;intro _ _hb)|(refine sC rfl (hin) ?_;intro _ _hb)|(refine Ai rfl ?_;refine gA rfl ?_;first| refine gS (fun _ _=>Tf rfl rfl (by simp) (by omega) (by (simp only[oZ] at *;omega))) ?_) |refine s3 rfl ?_ ?_<;>rintro rfl |refine aU rfl ?_ |refine Aa ?_|(refine aC rfl ?_ ?_<;>rintro⟨⟩)|refine aK ?_|refine aE ?_|refine aB ?_|refine aR ⟨_,rfl,?_⟩)
      all_goals first
       | (show eB false=eB _;rw [QQ (by omega) hlt (by rw [hra];grind)];rfl)
       | (have hst:=OO ha (by rw [hra];grind);refine⟨⟨k+1,by omega,by omega,hst⟩,by dsimp only;(omega),[],?_⟩;simp[cX,zC,hΓ])
     ·exfalso;(simp only[oZ] at *;omega)
    ·obtain rfl:k=t.cols.length:=by omega
     rw [ha]
     (repeat first|refine tA rfl ?_ |refine s2 rfl fun _ _hb=>?_ |refine aU rfl ?_ |refine Aa ?_)
     (refine aC rfl ?_ ?_<;>rintro⟨⟩)
     ·exfalso;(simp only[oZ] at *;omega)
     ·(repeat' first|refine tA rfl ?_ |refine aU rfl ?_ |refine Aa ?_|(refine aC rfl ?_ ?_<;>rintro⟨⟩)|refine aK ?_|refine aE ?_|refine aB ?_|refine aR ⟨_,rfl,?_⟩)
      rfl
 ·have hss:FU al t=false:=by unfold FU;simp [h0]
  rw [hss]
  have h0':¬(0≤al∧(1≤t.rows.length∧t.rows.length≤12)∧(1≤t.cols.length∧t.cols.length≤20)∧t.rows[0]? = some []∧t.cols[0]? = some []):=by
   intro h;apply h0;unfold MJ;simp [h]
  have hR':(t.rows.map Ed)[(0:Int).toNat]? = (t.rows[0]?).map Ed:=by simp
  have hC':(t.cols.map Ed)[(0:Int).toNat]? = (t.cols[0]?).map Ed:=by simp
  have hRn:t.rows[0]? = none→t.rows.length=0:=fun h=>by have:=List.getElem?_eq_none_iff.1 h;omega
  have hCn:t.cols[0]? = none→t.cols.length=0:=fun h=>by have:=List.getElem?_eq_none_iff.1 h;omega
  refine eN Tryz.func211 rfl (by kernel_rfl) rfl ?_;intro Γ hΓ
  cases hR:t.rows[0]?<;>cases hC:t.cols[0]?<;>rw [hR] at hR' h0'<;>rw [hC] at hC' h0'<;>(
   (repeat' first|refine sN rfl ?_ |refine tA rfl ?_ |(refine s4 rfl ‹_› rfl ?_ ?_;omega) |refine s2 rfl fun _ _hb=>?_ |refine s3 rfl ?_ ?_<;>rintro rfl |refine aU rfl ?_ |refine Aa ?_|(refine aC rfl ?_ ?_<;>rintro⟨⟩)|refine aK ?_|refine aE ?_|refine aB ?_|refine aR ⟨_,rfl,?_⟩)
   all_goals first
    | rfl
    | (exfalso;grind;done))
end Go.Am
