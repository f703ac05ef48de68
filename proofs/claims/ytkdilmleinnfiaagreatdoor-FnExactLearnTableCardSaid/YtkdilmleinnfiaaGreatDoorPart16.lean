/-
  The first word that tells two automata apart, walked.
-/
import Derived.Test.YtkdilmleinnfiaaGreatDoorPart15
import Derived.Test.YtkdilmleinnfiaaGreatDoorPart13
import Derived.Test.YtkdilmleinnfiaaGreatDoorPart9
set_option linter.constructorNameAsVariable false
set_option linter.unusedSectionVars false
set_option linter.unusedSimpArgs false
set_option linter.unusedVariables false
namespace Go.Am
open Go Go.Proofs
set_option maxHeartbeats 1000000
set_option maxRecDepth 4000
attribute [local irreducible] AV BX Lex Bf Av Spec
variable {TB:Be}
abbrev eU(g:FuncId):D:=.v (.func (.func g) #[] #[])
theorem Ha(a b:Bn):Pure Tryz.prog TB 136 [Da a,Da b] (eB (Eu a b)):=by
 refine eN Tryz.func136 rfl (by kernel_rfl) rfl ?_;intro Γ hΓ
 (repeat' first |refine sN rfl ?_ |((first|refine sA rfl ?_ ?_|refine s4 rfl ‹_› rfl ?_ ?_);first|exact tI|omega|simp only[oZ] at *;omega) |refine s2 rfl fun _ _hb=>?_ |(refine sC rfl (BR a) ?_;intro _ _hb)|(refine sC rfl (BR b) ?_;intro _ _hb) |refine s3 rfl ?_ ?_<;>rintro rfl |refine aU rfl ?_ |refine Aa ?_ |refine rE (by kernel_rfl) ?_|(refine aC rfl ?_ ?_<;>rintro⟨⟩)|refine aK ?_|refine aE ?_|refine aB ?_|refine aR ⟨_,rfl,?_⟩)
 all_goals (show E.o _=E.o _;congr;unfold Eu;grind)
theorem Ry(x y:Bool):Pure Tryz.prog TB 199 [eB x,eB y] (eB (bne x y)):=by
 refine eN Tryz.func199 rfl (by kernel_rfl) rfl ?_;intro Γ hΓ
 (repeat' first |refine sN rfl ?_ |((first|refine sA rfl ?_ ?_|refine s4 rfl ‹_› rfl ?_ ?_);first|exact tI|omega|simp only[oZ] at *;omega) |refine s2 rfl fun _ _hb=>?_ |refine s3 rfl ?_ ?_<;>rintro rfl |refine aU rfl ?_ |refine Aa ?_ |refine rE (by kernel_rfl) ?_|(refine aC rfl ?_ ?_<;>rintro⟨⟩)|refine aK ?_|refine aE ?_|refine aB ?_|refine aR ⟨_,rfl,?_⟩)
 all_goals (show E.o _=E.o _;congr;grind)
theorem VJ{a b:Bn}(ha:AK a=true)(hb:AK b=true){f0:FuncId}{op:Bool→Bool→Bool}{s0:Int}(hop:∀x y,Pure Tryz.prog TB f0 [eB x,eB y] (eB (op x y)))(node:Int)(hn:0≤node∧node < (Lc a b s0 op).N) :
 Pure Tryz.prog TB 246 [eI .i64 node,.o (.ip [eU f0]),.o (.ip (Ed a)),.o (.ip [iD b.nx.length]),.o (.ip (Ed b))] (eB ((Lc a b s0 op).goal node)):=by
 have hah:=Aj ha
 have hbh:=Aj hb
 have h1:=Hh (a:=a) hb (x:=node) hn
 have hN:node < 1048576:=by
  have h2:a.nx.length*b.nx.length≤12*12:=Nat.mul_le_mul (by omega) (by omega)
  have h3:(Lc a b s0 op).N=a.nx.length*b.nx.length:=rfl
  omega
 obtain⟨x,hx⟩:=get_some (l:=a.ac) (k:=(node / b.nx.length).toNat) (by omega)
 obtain⟨y,hy⟩:=get_some (l:=b.ac) (k:=(node % b.nx.length).toNat) (by omega)
 have hx':(a.ac.map Gh)[(node / b.nx.length).toNat]? = some (Gh x):=by simp [hx]
 have hy':(b.ac.map Gh)[(node % b.nx.length).toNat]? = some (Gh y):=by simp [hy]
 have hg:(Lc a b s0 op).goal node=op x y:=by simp [Lc,List.getD,hx,hy]
 rw [hg]
 have hxy:=hop x y
 refine eN Tryz.func246 rfl (by kernel_rfl) rfl ?_;intro Γ hΓ
 (repeat first |refine sN rfl ?_ |((first|refine sA rfl ?_ ?_|refine s4 rfl ‹_› rfl ?_ ?_);first|exact tI|omega|simp only[oZ] at *;omega) |refine s2 rfl fun _ _hb=>?_ |refine s3 rfl ?_ ?_<;>rintro rfl |refine aU rfl ?_ |refine Aa ?_)
 refine rG (J6 []) (by kernel_rfl) ?_
 (repeat first |refine sN rfl ?_ |((first|refine sA rfl ?_ ?_|refine s4 rfl ‹_› rfl ?_ ?_);first|exact tI|omega|simp only[oZ] at *;omega) |refine s2 rfl fun _ _hb=>?_|(refine Ai rfl ?_;refine gA rfl ?_;first|refine gS (fun _ _=>aQ (t:=7) rfl (AD rfl rfl rfl hxy rfl)) ?_) |refine s3 rfl ?_ ?_<;>rintro rfl |refine aU rfl ?_ |refine Aa ?_)
 refine aR ⟨_,rfl,rfl⟩
theorem VI{a b:Bn}(ha:AK a=true)(hb:AK b=true){op:Bool→Bool→Bool}{s0:Int}:Vu Tryz.prog TB 3 (Lc a b s0 op) 245 [.ip [.l (Gb a)],.ip [iD b.nx.length],.ip [.l (Gb b)]]:=by
 intro node l outs hn hl hol
 have hl:=AS (show l∈Ay a.al 6 from hl)
 have hah:=Aj ha
 have hbh:=Aj hb
 have h1:=Hh (a:=a) hb (x:=node) hn
 have hN:node < 1048576:=by
  have h2:a.nx.length*b.nx.length≤12*12:=Nat.mul_le_mul (by omega) (by omega)
  have h3:(Lc a b s0 op).N=a.nx.length*b.nx.length:=rfl
  omega
 have hga:=Dc ha (q:=(node / b.nx.length).toNat) (by omega) hl.1 (by omega)
 have hgb:=Dc hb (q:=(node % b.nx.length).toNat) (by omega) hl.1 (by omega)
 have ta:=HN (a:=a) (q:=(node / b.nx.length).toNat) (by omega)
 have tb:=HN (a:=b) (q:=(node % b.nx.length).toNat) (by omega)
 have el:((l.toNat:Nat):Int)=l:=by omega
 have ra:=FU (h:=fun l=>B9 a (node / b.nx.length).toNat l) hl.1 (by omega)
 have rb:=FU (h:=fun l=>B9 b (node % b.nx.length).toNat l) hl.1 (by omega)
 simp only [el] at ra rb
 have hm:0≤B9 a (node / b.nx.length).toNat l*b.nx.length∧B9 a (node / b.nx.length).toNat l*b.nx.length≤144:=⟨Int.mul_nonneg hga.1 (by omega),by
  have:B9 a (node / b.nx.length).toNat l*b.nx.length≤12*12:=Int.mul_le_mul (by omega) (by omega) (by omega) (by omega)
  omega⟩
 have hs:(Lc a b s0 op).succ node l=[B9 a (node / b.nx.length).toNat l*b.nx.length+B9 b (node % b.nx.length).toNat l]:=rfl
 rw [hs]
 refine eN Tryz.func245 rfl (by kernel_rfl) rfl ?_;intro Γ hΓ
 (repeat first |refine sN rfl ?_ |((first|refine sA rfl ?_ ?_|refine s4 rfl ‹_› rfl ?_ ?_);first|exact tI|omega|simp only[oZ] at *;omega) |refine s2 rfl fun _ _hb=>?_ |refine s3 rfl ?_ ?_<;>rintro rfl |refine aU rfl ?_ |refine Aa ?_)
 refine rG (J6 [21]) (by kernel_rfl) ?_
 (repeat first |refine sN rfl ?_ |((first|refine sA rfl ?_ ?_|refine s4 rfl ‹_› rfl ?_ ?_);first|exact tI|omega|simp only[oZ] at *;omega) |refine s2 rfl fun _ _hb=>?_|(refine Ai rfl ?_;refine gA rfl ?_;first|refine gS (fun _ _=>Dp rfl ra) ?_|refine gS (fun _ _=>Dp rfl rb) ?_) |refine s3 rfl ?_ ?_<;>rintro rfl |refine aU rfl ?_ |refine Aa ?_)
 (refine pW rfl ?_ rfl (by rfl);refine AY rfl rfl rfl (by first|(simp;done)|(simp;(first|omega|simp only[oZ] at *;omega))) rfl (by intro r hr;simp at hr;subst hr;rfl) (by rfl) (Nat.le_of_ble_eq_true rfl) (by simp;omega) ?_)
 (repeat first |refine sN rfl ?_ |((first|refine sA rfl ?_ ?_|refine s4 rfl ‹_› rfl ?_ ?_);first|exact tI|omega|simp only[oZ] at *;omega) |refine s2 rfl fun _ _hb=>?_ |refine s3 rfl ?_ ?_<;>rintro rfl |refine aU rfl ?_ |refine Aa ?_)
 refine aR ⟨_,rfl,by simp,rfl,by simp [kill]⟩
theorem LQ{a b:Bn}(ha:AK a=true)(hb:AK b=true){f0:FuncId}{op:Bool→Bool→Bool}(hop:∀x y,Pure Tryz.prog TB f0 [eB x,eB y] (eB (op x y)))(i j:Int)(hi:0≤i∧i < a.nx.length)(hj:0≤j∧j < b.nx.length) :
 Pure Tryz.prog TB 198 [Da a,Da b,eI .i64 i,eI .i64 j,.o (.d (eU f0))] (PI (GX (Lc a b (i*b.nx.length+j) op))):=by
 have hah:=Aj ha
 have hbh:=Aj hb
 have hta:=E1 (TB:=TB) a ha
 have htb:=E1 (TB:=TB) b hb
 have hm:0≤i*(b.nx.length:Int)∧(i+1)*(b.nx.length:Int)≤a.nx.length*b.nx.length:=⟨Int.mul_nonneg hi.1 (by omega),Int.mul_le_mul_of_nonneg_right (by omega) (by omega)⟩
 have hm1:(i+1)*(b.nx.length:Int)=i*b.nx.length+b.nx.length:=by rw [Int.add_mul];omega
 have hN:a.nx.length*b.nx.length≤144:=Nat.mul_le_mul (show a.nx.length≤12 by omega) (show b.nx.length≤12 by omega)
 have hNi:((a.nx.length:Int)*b.nx.length)≤144:=by rw [←Int.natCast_mul];omega
 have hs0:0≤i*(b.nx.length:Int)+j∧i*(b.nx.length:Int)+j < a.nx.length*b.nx.length:=by omega
 have hg:=VZ (op:=op) (s0:=i*b.nx.length+j) ha hb hs0
 have hla:(Gb a).length=a.nx.length:=by simp [Gb,Bi]
 have hlb:(Gb b).length=b.nx.length:=by simp [Gb,Bi]
 have hfp:Pure Tryz.prog TB 182 [eI .i64 ((a.nx.length:Int)*b.nx.length),Ag [i*b.nx.length+j],Ag (Ac a.al),.o (.fn 245 [.ip [.l (Gb a)],.ip [iD b.nx.length],.ip [.l (Gb b)]]),.o (.fn 246 [.ip [eU f0],.ip (Ed a),.ip [iD b.nx.length],.ip (Ed b)])]
  (PI (GX (Lc a b (i*b.nx.length+j) op))):=by
  rw [←Int.natCast_mul]
  exact OK hg (show a.nx.length*b.nx.length≤1048576 by omega) (fun x hx=>by have:=AS hx;omega) (A0 _ 6) (fun node l hn hl=>by
   have h1:1≤a.nx.length*b.nx.length:=Nat.mul_pos (show 0 < a.nx.length by omega) (show 0 < b.nx.length by omega)
   exact h1) (VI ha hb) (fun n hn=>VJ ha hb hop n hn) rfl (fun r=>rfl) (fun r=>rfl) (GY _)
 refine eN Tryz.func198 rfl (by kernel_rfl) rfl ?_;intro Γ hΓ
 (repeat first |refine sN rfl ?_ |((first|refine sA rfl ?_ ?_|refine s4 rfl ‹_› rfl ?_ ?_);first|exact tI|omega|simp only[oZ] at *;omega) |refine s2 rfl fun _ _hb=>?_ |refine s3 rfl ?_ ?_<;>rintro rfl |refine aU rfl ?_ |refine Aa ?_)
 refine R.bk [(0,2),(1,2),(2,2),(3,2),(4,3),(5,3),(6,5),(7,5)] mixed (by kernel_rfl) rfl (by kernel_rfl) ?_
 (repeat ((refine R.Ai rfl ?_;first |(refine R.yQ (md:=false) rfl rfl rfl ?_ ?_;first|exact tI|omega|simp only[oZ] at *;omega) |(refine R.yB rfl rfl rfl ?_;intro _ _hb) |refine R.yS rfl rfl rfl ?_ |refine R.yP rfl rfl rfl rfl ?_ |refine R.yA rfl rfl rfl rfl ?_ |refine R.yW rfl rfl rfl ?_|refine R.B5 (fun _ _ _=>AD rfl rfl rfl (hta) rfl) rfl rfl ?_|refine R.B5 (fun _ _ _=>AD rfl rfl rfl (htb) rfl) rfl rfl ?_ |refine R.cW rfl rfl ?_ |(refine R.yG rfl rfl ?_ ?_<;>intro hb<;>subst hb) )))
 refine R.aw ?_
 refine aS ?_
 refine Av.Jb [0,1] [2,3,5,6,9] rfl [(12,.o (.ip [.l (Gb a)])),(13,.o (.ip [.l (Gb b)]))] ⟨⟨_,rfl,.o (.ptr (by simp) rfl rfl rfl)⟩,⟨_,rfl,.o (.ptr (by simp) rfl rfl rfl)⟩,trivial⟩ ?_;(try dsimp only[cA,cB])
 refine fp (by kernel_rfl) ?_;(repeat first |refine sN rfl ?_ |((first|refine sA rfl ?_ ?_|refine s4 rfl ‹_› rfl ?_ ?_);first|exact tI|omega|simp only[oZ] at *;omega) |refine s2 rfl fun _ _hb=>?_ |refine s3 rfl ?_ ?_<;>rintro rfl);refine Aa ?_
 simp only [List.length_range]
 refine aS ?_
 refine Av.Jb [2] [2,3,5,6,9,12,13] rfl [(14,.o (.ip [iD b.nx.length]))] ⟨⟨_,rfl,.o (.ptr (by simp) rfl rfl rfl)⟩,trivial⟩ ?_;(try dsimp only[cA,cB])
 (repeat first |refine sN rfl ?_ |((first|refine sA rfl ?_ ?_|refine s4 rfl ‹_› rfl ?_ ?_);first|exact tI|omega|simp only[oZ] at *;omega) |refine s2 rfl fun _ _hb=>?_ |refine s3 rfl ?_ ?_<;>rintro rfl |refine aU rfl ?_ |refine Aa ?_)
 refine rG (J6 []) (by kernel_rfl) ?_
 have hlo:=CP (TB:=TB) a.al
 (repeat first |refine sN rfl ?_ |((first|refine sA rfl ?_ ?_|refine s4 rfl ‹_› rfl ?_ ?_);first|exact tI|omega|simp only[oZ] at *;omega) |refine s2 rfl fun _ _hb=>?_ |refine s3 rfl ?_ ?_<;>rintro rfl |refine aU rfl ?_ |refine Aa ?_)
 simp only [List.length_range]
 (repeat first |refine sN rfl ?_ |((first|refine sA rfl ?_ ?_|refine s4 rfl ‹_› rfl ?_ ?_);first|exact tI|omega|simp only[oZ] at *;omega) |refine s2 rfl fun _ _hb=>?_ |refine sP rfl (hlo) rfl ?_|refine sP rfl (hfp) rfl ?_ |refine s3 rfl ?_ ?_<;>rintro rfl |refine aU rfl ?_ |refine Aa ?_)
 refine aR ⟨_,rfl,rfl⟩
theorem KX(a b:Bn):Pure Tryz.prog TB 135 [Da a,Da b] (PI (JY a b)):=by
 by_cases hv:Eu a b=true
 ·have hv2:=hv
  unfold Eu at hv2
  simp only [Bool.and_eq_true,decide_eq_true_eq] at hv2
  obtain⟨⟨ha,hb⟩,_⟩:=hv2
  have hah:=Aj ha
  have hbh:=Aj hb
  have hd:JY a b=GX (Lc a b 0 bne):=by unfold JY;rw [if_pos hv,Qg ha hb (fun x y=>by simp) (.inl rfl)]
  have hf:=LQ (TB:=TB) ha hb Ry 0 0 ⟨by omega,by omega⟩ ⟨by omega,by omega⟩
  have hf2:Pure Tryz.prog TB 198 [Da a,Da b,eI .i64 0,eI .i64 0,.o (.fn 199 [])] (PI (GX (Lc a b 0 bne))):=by
   have:=Spec.eF (l:=[Da a,Da b,eI .i64 0,eI .i64 0]) (m:=[]) hf
   rw [Int.zero_mul,Int.zero_add] at this
   exact this
  rw [hd]
  refine eN Tryz.func135 rfl (by kernel_rfl) rfl ?_;intro Γ hΓ
  (repeat' first |refine sN rfl ?_ |((first|refine sA rfl ?_ ?_|refine s4 rfl ‹_› rfl ?_ ?_);first|exact tI|omega|simp only[oZ] at *;omega) |refine s2 rfl fun _ _hb=>?_ |(refine sC rfl (Ha a b) ?_;intro _ _hb)|refine sP rfl (hf2) rfl ?_ |refine s3 rfl ?_ ?_<;>rintro rfl |refine aU rfl ?_ |refine Aa ?_ |refine rE (by kernel_rfl) ?_|(refine aC rfl ?_ ?_<;>rintro⟨⟩)|refine aK ?_|refine aE ?_|refine aB ?_|refine aR ⟨_,rfl,?_⟩)
  all_goals first
   | rfl
   | (exfalso;grind;done)
 ·have hd:JY a b=none:=by unfold JY;rw [if_neg hv]
  rw [hd]
  refine eN Tryz.func135 rfl (by kernel_rfl) rfl ?_;intro Γ hΓ
  (repeat' first |refine sN rfl ?_ |((first|refine sA rfl ?_ ?_|refine s4 rfl ‹_› rfl ?_ ?_);first|exact tI|omega|simp only[oZ] at *;omega) |refine s2 rfl fun _ _hb=>?_ |(refine sC rfl (Ha a b) ?_;intro _ _hb) |refine s3 rfl ?_ ?_<;>rintro rfl |refine aU rfl ?_ |refine Aa ?_ |refine rE (by kernel_rfl) ?_|(refine aC rfl ?_ ?_<;>rintro⟨⟩)|refine aK ?_|refine aE ?_|refine aB ?_|refine aR ⟨_,rfl,?_⟩)
  all_goals first
   | rfl
   | (exfalso;grind;done)
end Go.Am
namespace Go.Am
open Go
section
variable {P:Program}{TB:Be}{Γ:Ctx}{d:Option Tmp}{ty:TypeId}{pos:String}{af:Array Edge}{g:Option (Nat×Bool)}{f:Env}{σ:Ab}{nx:Nat}
variable {K:E→Ab→Nat→Prop}
theorem N0{t:TypeId}{z:List Value}{fl:List (Nat×Nat)}{parts:Array (Nat×Operand)}{es:List E}{qs:List (Nat×List C)}[hz:BL P t z][hf:GI P t fl](p k e q k' e':Nat)(hp:z[p]? = some (.slice none 0 0))(hp':z[q]? = some (.slice none 0 0))(hpq:p≠q)(hes:HU f (parts.toList.map (·.2))=some es)(hq:FO fl parts.toList es=some qs)
 (hok:z.all Nw=true) (hle:(qs.all fun x=>Nat.ble (x.1+x.2.length) z.length)=true) (hK:K (.a (Ef qs (((z.map zC).set p (.arr nx k 0 0)).set q (.arr (nx+1) k' 0 0)))) ((nx+1,.cells e' k' [])::(nx,.cells e k [])::σ) (nx+2)):BX P TB Γ ⟨d,.build t parts,ty,pos,af,g⟩ f σ nx K:=
 C4 fun V ρ h1 h2 h3=>by
  subst h3
  obtain⟨i,zv,hi,hzv,hzz⟩:=IQ hz.out
  obtain⟨hi1,he1⟩:=h2.alloc (c:=0) (nl:=True) (w:=V.w) (ob:=.cells e k []) rfl rfl rfl rfl (Nat.le_refl _) (fun _ _=>rfl) (.inl ⟨by simp [Ak],rfl⟩)
  obtain⟨hi2,he2⟩:=hi1.alloc (c:=0) (nl:=True) (w:=V.w) (ob:=.cells e' k' []) rfl rfl rfl rfl (Nat.le_refl _) (fun _ _=>rfl) (.inl ⟨by simp [Ak],rfl⟩)
  have he3:=he1.trans he2
  have hfo:=Eb (V:=Ak (Ak V V.w.heap.size 0 True V.w) V.w.heap.size 0 True V.w) (ρ:=ρ) parts.toList es qs (fun x hx e he=>(h1.get (by simp only [Op.operands];simpa using hx) he).ext he3) hes hq
  have hzr:Cy (Ak (Ak V V.w.heap.size 0 True V.w) V.w.heap.size 0 True V.w) (((z.map zC).set p (.arr V.nx k 0 0)).set q (.arr (V.nx+1) k' 0 0)) zv.cells:=by
   refine⟨by rw [List.length_set,List.length_set,List.length_map,←hzz];simp,fun j c v hj hv=>?_⟩
   have hzj:z[j]? = some v:=by rw [←hzz,Array.getElem?_toList];exact hv
   by_cases hjq:q=j
   ·subst hjq
    rw [hp'] at hzj
    injection hzj with hzj
    subst hzj
    rw [List.getElem?_set_self (by rw [List.length_set,List.length_map];exact(List.getElem?_eq_some_iff.1 hp').1)] at hj
    injection hj with hj
    subst hj
    exact Ax.nil (by simp [Ak]) (by simp [Ak])
   ·rw [List.getElem?_set_ne hjq] at hj
    by_cases hjp:p=j
    ·subst hjp
     rw [hp] at hzj
     injection hzj with hzj
     subst hzj
     rw [List.getElem?_set_self (by rw [List.length_map];exact(List.getElem?_eq_some_iff.1 hp).1)] at hj
     injection hj with hj
     subst hj
     exact Ax.nil (by simp [Ak];omega) (by simp [Ak])
    ·rw [List.getElem?_set_ne hjp,List.getElem?_map,hzj] at hj
     injection hj with hj
     subst hj
     exact Kx (List.all_eq_true.1 hok v (List.mem_of_getElem? hzj))
  obtain⟨cells,h4,h5⟩:=He _ _ _ _ hfo hzr (fun x hx=>by rw [List.length_set,List.length_set,List.length_map];exact LO _ _ hle x hx)
  have hb:=run_build (P:=P) (ρ:=ρ) (parts:=parts) (V:=V) hi hzv hf.out h4
  refine⟨.agg cells,_,_,_,?_,he3,hi2,(show A2 _ (.a _) _ from ⟨cells,rfl,h5⟩),hK⟩
  show ((do let v ←Instr.build t (parts.map fun (i,x)=>(i,ρ x));pure (Go.Next.value v):Sem Go.Next)).run P V.w=_
  simp only [Sem.run_bind,hb,Result.andThen_ok]
  rfl
end
end Go.Am
namespace Go.Am
open Go Go.Proofs
set_option maxHeartbeats 1000000
set_option maxRecDepth 4000
attribute [local irreducible] AV BX Lex Bf Av Spec
variable {TB:Be}
theorem Fp{c:C}{L:W→Bool}{ok:W→Prop}(hc:En Tryz.prog TB c L ok)(al:Int)(t:AN)(hf:GQ ok (AO al) t)(ht:ED al 20012 t)(ho:AM L (AO al) t=none) :
 Pure Tryz.prog TB 99 [FF al c,B8 t] (Da (AT L al t)):=by
 have hr:=BW c hc.AL
 have hrl:=ht.rl
 have hcl:=ht.cl
 have hla:(Ac al).length≤6:=A0 al 6
 have hask:=ht.Uf hf (by omega)
 have hnl:(AT L al t).nx.length=t.rows.length:=by simp [AT]
 have hal:(AT L al t).ac.length=t.rows.length:=by simp [AT]
 refine A3.Fv (A3.ofM 3 (Nat.le_refl _) Tryz.func99 rfl rfl (by kernel_rfl) (Nat.le_of_ble_eq_true rfl) ?_);intro Γ hΓ
 (repeat first|refine aU rfl ?_)
 (refine pW rfl ?_ rfl (by rfl);refine CT rfl rfl ?_)
 (refine Ai rfl ?_;refine B5 (fun _ _=>CE rfl rfl rfl) rfl ?_)
 (repeat first|refine tA rfl ?_ |refine aU rfl ?_ |refine Aa ?_)
 (refine pW rfl ?_ rfl (by rfl);refine Cr [] rfl rfl (Ft hc al t hask.1) ⟨rfl,by simp,by simp⟩ (by simp [DM,E.AW,C.Bp,C.AW,hr,eC]) trivial ?_;rintro x0 σ1 nx1 ⟨rfl,rfl,rfl⟩ _)
 (repeat first|refine tA rfl ?_ |refine aU rfl ?_ |refine Aa ?_)
 (refine pW rfl ?_ rfl (by rfl);refine N0 1 1 84 2 1 4 rfl rfl (by decide) rfl rfl (by rfl) (by rfl) ?_)
 (repeat first|refine sN rfl ?_ |refine tA rfl ?_ |refine aU rfl ?_ |refine Aa ?_)
 refine aB ?_
 refine Av.AR (α:={k:Nat // k≤t.rows.length}) (fun ⟨k,hkl⟩=>[(2,.o (.ptr 0 2 0 0)),(3,.o (.ip (QN t))),(4,.o (.ptr 1 3 0 0)),(5,.o (.mp 2)),(6,.o (.ptr 3 3 0 0)),(19,.o (.d (Ba t.rows))),(20,eI .i64 t.rows.length),(21,eI .i64 k)]) (fun ⟨k,hkl⟩=>[(0,.cells 100 2 [[.d (iD al),c]]),(1,.cells 41 3 [[.d (iD 0),.d (.l []),.d (.l [])]]),(2,.mp (FN (A9 L t t.rows.length))),(3,.cells 41 3 [[.d (iD al),.arr 4 1 0 k,.arr 5 1 0 k]]),(4,.cells 84 1 (((AT L al t).nx.take k).map fun r=>[.d (Eg r)])),(5,.cells 4 1 (((AT L al t).ac.take k).map fun b=>[.d (bD b)]))]) 6 (fun ⟨k,hkl⟩=>t.rows.length - k) (⟨0,by omega⟩) [0,1,2,5,3,4] (Dq hΓ rfl rfl) (by (simp[cX,zC,hΓ,hr,eC,Ab.AW,BH,GO,Ef,AE])) ?_;rintro⟨k,hkl⟩;(try dsimp only)
 (repeat first|refine s2 rfl fun _ _hb=>?_ |refine aU rfl ?_ |refine Aa ?_)
 (refine aC rfl ?_ ?_<;>rintro⟨⟩)
 ·have hlt:k < t.rows.length:=by (simp only[oZ] at *;omega)
  obtain⟨r,hx⟩:=get_some (l:=t.rows) (k:=k) hlt
  have hx':=get_map (g:=BD) hx
  have hxm:=List.mem_of_getElem? hx
  refine aK ?_
  refine aS (aB ?_)
  (repeat first|refine tM rfl ?_ |(refine s4 rfl ‹_› rfl ?_ ?_;omega) |refine aU rfl ?_ |refine Aa ?_)
  (refine pW rfl ?_ rfl (by rfl);refine N6 1 3 ?_)
  (repeat first|refine sN rfl ?_ |refine tM rfl ?_ |refine sP rfl (CP al) rfl ?_ |refine aU rfl ?_ |refine Aa ?_)
  refine aB ?_
  refine Av.AR (α:={j:Nat // j≤(Ac al).length}) (fun ⟨j,hjl⟩=>[(2,.o (.ptr 0 2 0 0)),(3,.o (.ip (QN t))),(4,.o (.ptr 1 3 0 0)),(5,.o (.mp 2)),(6,.o (.ptr 3 3 0 0)),(19,.o (.d (Ba t.rows))),(20,eI .i64 t.rows.length),(21,eI .i64 k),(8,eT r),(9,.o (.arr 6 1 0 j)),(27,Ag (Ac al)),(28,eI .i64 (Ac al).length),(29,eI .i64 j)]) (fun ⟨j,hjl⟩=>[(0,.cells 100 2 [[.d (iD al),c]]),(1,.cells 41 3 [[.d (iD 0),.d (.l []),.d (.l [])]]),(2,.mp (FN (A9 L t t.rows.length))),(3,.cells 41 3 [[.d (iD al),.arr 4 1 0 k,.arr 5 1 0 k]]),(4,.cells 84 1 (((AT L al t).nx.take k).map fun r=>[.d (Eg r)])),(5,.cells 4 1 (((AT L al t).ac.take k).map fun b=>[.d (bD b)])),(6,.cells 3 1 (((Ac al).take j).map fun l=>[.d (iD ((CD L t (r++[lb l]):Nat):Int))]))]) 7 (fun ⟨j,hjl⟩=>(Ac al).length - j) (⟨0,by omega⟩) [0,1,2,3,4,5,6] (Dq hΓ rfl rfl) (by (simp[cX,zC,hΓ,hr,eC,Ab.AW,BH,GO])) ?_;rintro⟨j,hjl⟩;(try dsimp only)
  (repeat first|refine s2 rfl fun _ _hb=>?_ |refine aU rfl ?_ |refine Aa ?_)
  (refine aC rfl ?_ ?_<;>rintro⟨⟩)
  ·have hjlt:j < (Ac al).length:=by (simp only[oZ] at *;omega)
   obtain⟨l,hl⟩:=get_some (l:=Ac al) (k:=j) hjlt
   have hl':=get_map (g:=Bm) hl
   have hlm:=List.mem_of_getElem? hl
   have hlb:=AS hlm
   have hrb:=ht.onR r hxm
   have hm:=Mf (TB:=TB) hc al t (r++[lb l]) (by omega) (fun x hx=>hask.2 r hxm _ (List.mem_map.2 ⟨l,hlm,rfl⟩) x hx) (fun y hy=>by have:=(ht.onC y hy).2;simp;omega)
   have hlk:=Wz ho hxm hlm
   refine aK ?_
   refine aS (aB ?_)
   (repeat first|refine tA rfl ?_ |(refine s4 rfl ‹_› rfl ?_ ?_;omega) |refine aU rfl ?_ |refine Aa ?_)
   refine rG (J6 [13]) (by kernel_rfl) ?_
   (repeat first|(refine sA rfl ?_ ?_;first|exact tI|omega|simp only[oZ] at *;omega) |refine sP rfl (Fq l hlb.1 (by omega)) rfl ?_|(refine Ai rfl ?_;refine gA rfl ?_;first| refine gS (fun _ _=>Xi rfl (by omega) (by omega)) ?_))
   rw [Zt hlb.1]
   (repeat first| (refine Ai rfl ?_;refine gA rfl ?_;first| refine gS (fun _ _=>AD rfl rfl (by simp [E.AL,C.A5,C.AL,hc.AL]) hm rfl) ?_|refine gQ (YU rfl rfl rfl) (by rfl) ?_))
   (repeat first|refine tA rfl ?_)
   (refine pW rfl ?_ rfl (by rfl);refine AY rfl rfl rfl (by first| (simp;done)|(simp;(omega))) rfl (by intro r hr;simp at hr;subst hr;rfl) (by rfl) (Nat.le_of_ble_eq_true rfl) (by simp;omega) ?_)
   (repeat first|(refine sA rfl ?_ ?_;first|exact tI|omega) |refine aU rfl ?_ |refine Aa ?_)
   rw [hlk]
   refine⟨⟨j+1,by omega⟩,by dsimp only;(omega),[0,1,2,3,4,5,7],?_⟩
   simp[cX,zC,hΓ,hr,List.take_add_one,hl]
  ·obtain rfl:j=(Ac al).length:=by (simp only[oZ] at *;omega)
   have hok:=hf r ⟨r,hxm,[],.inl rfl,[],.inl rfl,by simp⟩
   have hnx:(AT L al t).nx.take (k+1)=(AT L al t).nx.take k++[(Ac al).map fun l=>((CD L t (r++[lb l]):Nat):Int)]:=by
    rw [List.take_add_one];simp [AT,hx]
   have hac:(AT L al t).ac.take (k+1)=(AT L al t).ac.take k++[L r]:=by
    rw [List.take_add_one];simp [AT,hx]
   refine aE ?_
   rw [List.take_length]
   refine Av.Jb [6] [2,3,4,5,6,8,19,20,21] rfl [(9,Ag ((Ac al).map fun l=>((CD L t (r++[lb l]):Nat):Int)))] ⟨⟨_,rfl,.o (.full (by simp) rfl (by simp [Function.comp_def]) (by simp))⟩,trivial⟩ ?_;(try dsimp only[cA,cB])
   (repeat first|refine tA rfl ?_ |refine aU rfl ?_)
   (refine pW rfl ?_ rfl (by rfl);refine AY rfl rfl rfl (by first| (simp;done)|(simp;(omega))) rfl (by intro r hr;simp at hr;subst hr;rfl) (by rfl) (Nat.le_of_ble_eq_true rfl) (by simp;omega) ?_)
   (repeat first|refine tA rfl ?_ |refine Aa ?_)
   refine rG (J6 [7,9]) (by kernel_rfl) ?_
   (repeat first|refine tA rfl ?_|(refine Ai rfl ?_;refine gA rfl ?_;first| refine gS (fun _ _=>hc.ask rfl rfl hok) ?_))
   (refine pW rfl ?_ rfl (by rfl);refine AY rfl rfl rfl (by first| (simp;done)|(simp;(omega))) rfl (by intro r hr;simp at hr;subst hr;rfl) (by rfl) (Nat.le_of_ble_eq_true rfl) (by simp;omega) ?_)
   (repeat first|(refine sA rfl ?_ ?_;first|exact tI|omega) |refine aU rfl ?_ |refine Aa ?_)
   refine⟨⟨k+1,by omega⟩,by dsimp only;(omega),[0,1,2,3,7,8],?_⟩
   simp[cX,zC,hΓ,hr,eC,Ab.AW,BH,GO,Ef,AE,hnx,hac]
 ·obtain rfl:k=t.rows.length:=by (simp only[oZ] at *;omega)
  have ht1:(AT L al t).nx.take t.rows.length=(AT L al t).nx:=List.take_of_length_le (by simp [AT])
  have ht2:(AT L al t).ac.take t.rows.length=(AT L al t).ac:=List.take_of_length_le (by simp [AT])
  rw [ht1,ht2]
  refine aE ?_
  (repeat first|refine tM rfl ?_ |refine aU rfl ?_ |refine Aa ?_)
  refine Av.settle [(4,.o (.ip [iD al,Dx (AT L al t).nx,GZ (AT L al t).ac]))] ⟨⟨_,rfl,.o (.box rfl (.cons .d (.cons (.full rfl (by simp [Function.comp_def]) (by simp [AT])) (.cons (.full rfl (by simp [Function.comp_def]) (by simp [AT])) .nil))))⟩,trivial⟩ ?_
  refine aR ⟨_,rfl,rfl⟩
theorem OE{c:C}{L:W→Bool}{ok:W→Prop}(hc:En Tryz.prog TB c L ok)(al:Int)(t:AN)(hf:GS ok al)(ht:ED al 20012 t)(ho:AM L (AO al) t=none) :
 Pure Tryz.prog TB 99 [FF al c,B8 t] (Da (AT L al t)):=Fp hc al t (ht.on hf (by omega)) ht ho
theorem Eh(w:W)(i:Nat)(c:UInt8)(hc:w[((i:Nat):Int).toNat]? = some c)(hl:0≤(c.toNat:Int) - 97∧(c.toNat:Int) - 97 < 6):Pure Tryz.prog TB 133 [eT w,eI .i64 i] (eI .i64 ((c.toNat:Int) - 97)):=by
 refine eN Tryz.func133 rfl (by kernel_rfl) rfl ?_;intro Γ hΓ
 (repeat' first|(refine sA rfl ?_ ?_;first|exact tI|omega) |(refine s4 rfl ‹_› rfl ?_ ?_;omega) |refine s2 rfl fun _ _hb=>?_ |refine s3 rfl ?_ ?_<;>rintro rfl |refine aU rfl ?_ |refine Aa ?_|(refine aC rfl ?_ ?_<;>rintro⟨⟩)|refine aK ?_|refine aE ?_|refine aB ?_|refine aR ⟨_,rfl,?_⟩)
 all_goals first
  | rfl
  | (exfalso;grind)
abbrev Ua(kn:Bool)(p:Bn)(s:Sys)(q:Bn)(al:Int):List D:=[bD kn,iD p.al,Dx p.nx,GZ p.ac,iD s.al,iD s.st,Hc s.es,iD q.al,Dx q.nx,GZ q.ac,iD al]
theorem Gx{ls:List UInt8}{w:W}(h:AB ls w)(k:Nat):AB ls (w.take k):=fun c hc=>h c (List.mem_of_mem_take hc)
theorem YN{ls:List UInt8}{w:W}(h:AB ls w)(k:Nat):AB ls (w.drop k):=fun c hc=>h c (List.mem_of_mem_drop hc)
theorem Oh{p:Bn}{w:W}{k:Nat}{c:UInt8}(hc:w[k]? = some c)(q:Int):Cz p q (w.take (k+1))=B9 p (Cz p q (w.take k)).toNat ((c.toNat:Int) - 97):=by
 rw [List.take_add_one,hc,Jy];rfl
theorem Kp{L:W→Bool}{t:AN}{w:W}{k:Nat}{c:UInt8}(hc:w[k]? = some c)(q:Nat):runM L t q (w.take (k+1))=CD L t (t.rows.getD (runM L t q (w.take k)) []++[c]):=by
 rw [List.take_add_one,hc,Qw];rfl
theorem X0{p:Bn}(hp:AK p=true)(s:Sys)(q:Bn)(al:Int)(kn:Bool)(w:W)(hw:AB (AO p.al) w)(hl:w.length≤1048576) :
 Pure Tryz.prog TB 145 [eT w,.o (.ip [.l (Gb p)]),.o (.ip (Ua kn p s q al))] (eB (LA p w)):=by
 have hph:=Aj hp
 refine eN Tryz.func145 rfl (by kernel_rfl) rfl ?_;intro Γ hΓ
 (repeat first|refine tA rfl ?_ |refine aU rfl ?_ |refine Aa ?_)
 refine aB ?_
 refine aL (α:={k:Nat // k≤w.length}) [0,1,2,8] [] rfl rfl (fun ⟨k,hk⟩=>[(5,eI .i64 (Cz p 0 (w.take k))),(9,eI .i64 k)]) (fun ⟨k,hk⟩=>[]) 0 (fun ⟨k,hk⟩=>w.length - k) (⟨0,by omega⟩) hΓ rfl (by (simp[cX,zC,hΓ]<;>rfl)) ?_;rintro⟨k,hk⟩;(try dsimp only[cA,cB])
 have hr:=EA hp (w.take k) 0 (Gx hw k) (by omega)
 by_cases hlt:k < w.length
 ·obtain⟨c,hc⟩:=get_some hlt
  have hc':w[((k:Nat):Int).toNat]? = some c:=by simpa using hc
  have hcl:=Fc (hw c (List.mem_of_getElem? hc))
  have hla:=Eh (TB:=TB) w k c hc' hcl
  have ta:=HN (a:=p) (q:=(Cz p 0 (w.take k)).toNat) (by omega)
  have el:((((c.toNat:Int) - 97).toNat:Nat):Int)=(c.toNat:Int) - 97:=by omega
  have ra:=FU (h:=fun l=>B9 p (Cz p 0 (w.take k)).toNat l) hcl.1 (by omega)
  simp only [el] at ra
  have hst:=Oh (p:=p) hc 0
  (repeat first|refine s2 rfl fun _ _hb=>?_ |refine aU rfl ?_ |refine Aa ?_)
  (refine aC rfl ?_ ?_<;>rintro⟨⟩)
  ·(repeat' first|(refine sA rfl ?_ ?_;first|exact tI|omega) |(refine s4 rfl ‹_› rfl ?_ ?_;omega) |refine sP rfl (hla) rfl ?_|(refine Ai rfl ?_;refine gA rfl ?_;first| refine gS (fun _ _=>Dp rfl ra) ?_) |refine aU rfl ?_ |refine Aa ?_ |refine rE (by kernel_rfl) ?_|(refine aC rfl ?_ ?_<;>rintro⟨⟩)|refine aK ?_|refine aE ?_|refine aB ?_|refine aR ⟨_,rfl,?_⟩)
   refine⟨⟨k+1,by omega⟩,by dsimp only;(omega),[],?_⟩
   simp[cX,zC,hΓ,hst]
  ·exfalso;(simp only[oZ] at *;omega)
 ·obtain rfl:k=w.length:=by omega
  rw [List.take_length] at *
  obtain⟨b,hb⟩:=get_some (l:=p.ac) (k:=(Cz p 0 w).toNat) (by omega)
  have hb':(p.ac.map Gh)[(Cz p 0 w).toNat]? = some (Gh b):=by simp [hb]
  have hbl:LA p w=b:=by unfold LA;simp [List.getD,hb]
  rw [hbl]
  (repeat first|refine s2 rfl fun _ _hb=>?_ |refine aU rfl ?_ |refine Aa ?_)
  (refine aC rfl ?_ ?_<;>rintro⟨⟩)
  ·exfalso;(simp only[oZ] at *;omega)
  ·(repeat' first|refine tA rfl ?_ |(refine s4 rfl ‹_› rfl ?_ ?_;omega) |refine aU rfl ?_ |refine Aa ?_|(refine aC rfl ?_ ?_<;>rintro⟨⟩)|refine aK ?_|refine aE ?_|refine aB ?_|refine aR ⟨_,rfl,?_⟩)
   rfl
def Bt(L:W→Bool)(t:AN)(w:W):Option W:=if IU L t w=L w then none else splitAt L t (L w) 0 w
theorem JB{L:W→Bool}{t:AN}{b:Bool}{w:W}{k q:Nat}{c:UInt8}(hc:w[k]? = some c):splitAt L t b q (w.drop k)=if L (t.rows.getD (CD L t (t.rows.getD q []++[c])) []++w.drop (k+1))≠b then some (w.drop (k+1)) else splitAt L t b (CD L t (t.rows.getD q []++[c])) (w.drop (k+1)):=by
 rw [BJ hc,splitAt]
def SU(t:AN)(w v:W):Prop:=∃r,(r=[]∨r∈t.rows)∧∃k:Nat,v=r++w.drop k
theorem Ie{c:C}{L:W→Bool}{ok:W→Prop}(hc:En Tryz.prog TB c L ok)(al:Int)(t:AN)(hf:GQ ok (AO al) t)(ht:ED al 20012 t)(hal:Bb al=true)(hcl:A7 L (AO al) t)(ho:AM L (AO al) t=none)(w:W)(hfs:∀v,SU t w v→ok v)(hw:AB (AO al) w)(hwl:w.length≤20000) :
 Pure Tryz.prog TB 89 [FF al c,B8 t,eT w] (RA (Bt L t w)):=by
 have hr:=BW c hc.AL
 have hrl:=ht.rl
 have hau:=Fp (TB:=TB) hc al t hf ht ho
 have haok:=IX hal hcl hrl
 have hta:=E1 (TB:=TB) (AT L al t) haok
 have hnl:(AT L al t).nx.length=t.rows.length:=by simp [AT]
 have h0:0 < t.rows.length:=(List.getElem?_eq_some_iff.1 hcl.r0).1
 have hokw:=hfs w ⟨[],.inl rfl,0,rfl⟩
 have hpu:([FF al c,B8 t].all E.AL && C.A5 [])=true:=by simp [E.AL,C.A5,C.AL,hc.AL]
 refine eN Tryz.func89 rfl (by kernel_rfl) rfl ?_;intro Γ hΓ
 (repeat first|refine aU rfl ?_)
 (refine pW rfl ?_ rfl (by rfl);refine CT rfl rfl ?_)
 (refine Ai rfl ?_;refine B5 (fun _ _=>CE rfl rfl rfl) rfl ?_)
 (repeat first|refine tA rfl ?_ |refine aU rfl ?_ |refine Aa ?_)
 (repeat first|refine tA rfl ?_|(refine Ai rfl ?_;refine gA rfl ?_;first| refine gS (fun _ _=>AD rfl rfl hpu hau rfl) ?_) |refine aU rfl ?_ |refine Aa ?_)
 (repeat first|refine tA rfl ?_ |refine sP rfl (hta) rfl ?_ |refine aU rfl ?_ |refine Aa ?_)
 refine aB ?_
 refine aL (α:={k:Nat // k≤w.length}) [2,3,4,8,9,20] [0,1] rfl rfl (fun ⟨k,hk⟩=>[(10,eI .i64 (runM L t 0 (w.take k):Nat)),(21,eI .i64 k)]) (fun ⟨k,hk⟩=>[]) 2 (fun ⟨k,hk⟩=>w.length - k) (⟨0,by omega⟩) hΓ rfl (by (simp[cX,zC,hΓ,hr]<;>rfl)) ?_;rintro⟨k,hk⟩;(try dsimp only[cA,cB])
 have hrn:=hcl.run (w.take k) 0 (Gx hw k) h0
 by_cases hlt:k < w.length
 ·obtain⟨c2,hc2⟩:=get_some hlt
  have hc':w[((k:Nat):Int).toNat]? = some c2:=by simpa using hc2
  have hcm:=hw c2 (List.mem_of_getElem? hc2)
  have hcn:=Fc hcm
  have hla:=Eh (TB:=TB) w k c2 hc' hcn
  have ta:=HN (a:=AT L al t) (q:=(((runM L t 0 (w.take k):Nat):Int)).toNat) (by omega)
  have el:((((c2.toNat:Int) - 97).toNat:Nat):Int)=(c2.toNat:Int) - 97:=by omega
  have ra:=FU (h:=fun l=>B9 (AT L al t) (((runM L t 0 (w.take k):Nat):Int)).toNat l) hcn.1 (by omega)
  simp only [el] at ra
  have hga:=Jd (L:=L) (al:=al) (t:=t) (q:=runM L t 0 (w.take k)) hrn hcm
  have hst:=Kp (L:=L) (t:=t) hc2 0
  rw [←hst] at hga
  rw [Int.toNat_natCast,hga] at ra
  (repeat first|refine s2 rfl fun _ _hb=>?_ |refine aU rfl ?_ |refine Aa ?_)
  (refine aC rfl ?_ ?_<;>rintro⟨⟩)
  ·(repeat' first|(refine sA rfl ?_ ?_;first|exact tI|omega) |(refine s4 rfl ‹_› rfl ?_ ?_;omega) |refine sP rfl (hla) rfl ?_|(refine Ai rfl ?_;refine gA rfl ?_;first| refine gS (fun _ _=>Dp rfl ra) ?_) |refine aU rfl ?_ |refine Aa ?_ |refine rE (by kernel_rfl) ?_|(refine aC rfl ?_ ?_<;>rintro⟨⟩)|refine aK ?_|refine aE ?_|refine aB ?_|refine aR ⟨_,rfl,?_⟩)
   refine⟨⟨k+1,by omega⟩,by dsimp only;(omega),[0,1],?_⟩
   simp[cX,zC,hΓ,hr]
  ·exfalso;(simp only[oZ] at *;omega)
 ·obtain rfl : k=w.length:=by omega
  rw [List.take_length] at *
  (repeat first|refine s2 rfl fun _ _hb=>?_ |refine aU rfl ?_ |refine Aa ?_)
  (refine aC rfl ?_ ?_<;>rintro⟨⟩)
  ·exfalso;(simp only[oZ] at *;omega)
  ·refine aE ?_
   have hacx:((AT L al t).ac.map Gh)[(((runM L t 0 w:Nat):Int)).toNat]? = some (Gh (IU L t w)):=by
    unfold IU
    simp [AT,List.getD,hrn]
   (repeat first|refine tA rfl ?_ |(refine s4 rfl ‹_› rfl ?_ ?_;omega) |refine s2 rfl fun _ _hb=>?_|(refine Ai rfl ?_;refine gA rfl ?_;first| refine gS (fun _ _=>hc.ask rfl rfl hokw) ?_) |refine aU rfl ?_ |refine Aa ?_)
   (refine aC rfl ?_ ?_<;>rintro⟨⟩)
   ·have hn:Bt L t w=none:=by unfold Bt;rw [if_pos (by simpa using _hb)]
    (repeat first|refine tA rfl ?_ |refine aU rfl ?_ |refine Aa ?_)
    refine aR ⟨_,rfl,?_⟩
    rw [hn];rfl
   ·have hso:Bt L t w=splitAt L t (L w) 0 w:=by unfold Bt;rw [if_neg (by simpa using _hb)]
    rw [hso]
    refine aK ?_
    (repeat first|refine tA rfl ?_ |refine aU rfl ?_ |refine Aa ?_)
    refine aB ?_
    refine aL (α:={k:Nat // k≤w.length∧splitAt L t (L w) 0 w=splitAt L t (L w) (runM L t 0 (w.take k)) (w.drop k)}) [2,3,4,9,12,45] [0] rfl rfl (fun ⟨k,hk,he⟩=>[(10,eI .i64 (runM L t 0 (w.take k):Nat)),(46,eI .i64 k)]) (fun ⟨k,hk,he⟩=>[]) 1 (fun ⟨k,hk,he⟩=>w.length - k) (⟨0,by omega,rfl⟩) hΓ rfl (by (simp[cX,zC,hΓ,hr]<;>rfl)) ?_;rintro⟨k,hk,he⟩;(try dsimp only[cA,cB])
    have hrn:=hcl.run (w.take k) 0 (Gx hw k) h0
    by_cases hlt:k < w.length
    ·obtain⟨c2,hc2⟩:=get_some hlt
     have hc':w[((k:Nat):Int).toNat]? = some c2:=by simpa using hc2
     have hcm:=hw c2 (List.mem_of_getElem? hc2)
     have hcn:=Fc hcm
     have hla:=Eh (TB:=TB) w k c2 hc' hcn
     have ta:=HN (a:=AT L al t) (q:=(((runM L t 0 (w.take k):Nat):Int)).toNat) (by omega)
     have el:((((c2.toNat:Int) - 97).toNat:Nat):Int)=(c2.toNat:Int) - 97:=by omega
     have ra:=FU (h:=fun l=>B9 (AT L al t) (((runM L t 0 (w.take k):Nat):Int)).toNat l) hcn.1 (by omega)
     simp only [el] at ra
     have hga:=Jd (L:=L) (al:=al) (t:=t) (q:=runM L t 0 (w.take k)) hrn hcm
     have hst:=Kp (L:=L) (t:=t) hc2 0
     have hrn2:=hcl.run (w.take (k+1)) 0 (Gx hw (k+1)) h0
     rw [JB hc2,←hst] at he
     rw [←hst] at hga
     rw [Int.toNat_natCast,hga] at ra
     generalize hq2:runM L t 0 (w.take (k+1))=q2 at *
     obtain⟨r2,hr2⟩:=get_some (l:=t.rows) (k:=q2) hrn2
     have hr2':=get_map (g:=BD) hr2
     have hgd:t.rows.getD q2 []=r2:=by simp [List.getD,hr2]
     rw [hgd] at he
     have hrb:=ht.onR r2 (List.mem_of_getElem? hr2)
     have hdl:(w.drop (k+1)).length=w.length - (k+1):=List.length_drop
     have hokv:=hfs (r2++w.drop (k+1)) ⟨r2,.inr (List.mem_of_getElem? hr2),k+1,rfl⟩
     have hk1:(((k:Nat):Int)+1).toNat=k+1:=by omega
     (repeat first|refine s2 rfl fun _ _hb=>?_ |refine aU rfl ?_ |refine Aa ?_)
     (refine aC rfl ?_ ?_<;>rintro⟨⟩)
     ·refine aK ?_
      refine aS (aB ?_)
      (repeat first|(refine sA rfl ?_ ?_;first|exact tI|omega) |(refine s4 rfl ‹_› rfl ?_ ?_;omega) |refine sP rfl (hla) rfl ?_|(refine Ai rfl ?_;refine gA rfl ?_;first| refine gS (fun _ _=>Dp rfl ra) ?_) |refine aU rfl ?_ |refine Aa ?_ |refine rE (by kernel_rfl) ?_)
      (repeat first| (refine Ai rfl ?_;refine gA rfl ?_;first| refine gS (fun _ _=>O4 rfl rfl (by omega) (by omega)) ?_))
      rw [hk1]
      (repeat first|(refine sA rfl ?_ ?_;first|exact tI|omega) |refine s2 rfl fun _ _hb=>?_|(refine Ai rfl ?_;refine gA rfl ?_;first| refine gS (fun _ _=>hc.ask rfl rfl hokv) ?_) |refine Aa ?_)
      (refine aC rfl ?_ ?_<;>rintro⟨⟩)
      ·rw [if_pos (by simpa using _hb)] at he
       (repeat first|(refine sA rfl ?_ ?_;first|exact tI|omega)|(refine Ai rfl ?_;refine gA rfl ?_;first| refine gS (fun _ _=>O4 rfl rfl (by omega) (by omega)) ?_) |refine aU rfl ?_ |refine Aa ?_)
       refine aR ⟨_,rfl,?_⟩
       rw [hk1,he];rfl
      ·rw [if_neg (by simpa using _hb)] at he
       refine aK ?_
       (repeat first|(refine sA rfl ?_ ?_;first|exact tI|omega) |refine aU rfl ?_ |refine Aa ?_)
       subst hq2
       refine⟨⟨k+1,by omega,he⟩,by dsimp only;(omega),[0],?_⟩
       simp[cX,zC,hΓ,hr]
     ·exfalso;(simp only[oZ] at *;omega)
    ·obtain rfl:k=w.length:=by omega
     rw [List.drop_length] at he
     (repeat first|refine s2 rfl fun _ _hb=>?_ |refine aU rfl ?_ |refine Aa ?_)
     (refine aC rfl ?_ ?_<;>rintro⟨⟩)
     ·exfalso;(simp only[oZ] at *;omega)
     ·refine aE ?_
      (repeat first|refine tA rfl ?_ |refine aU rfl ?_ |refine Aa ?_)
      refine aR ⟨_,rfl,?_⟩
      rw [he];rfl
theorem ED.fV{ok:W→Prop}{al:Int}{t:AN}(ht:ED al 20012 t)(hf:GS ok al){w:W}(hw:AB (AO al) w)(hwl:w.length≤20000):∀v,SU t w v→ok v:=by
 rintro v ⟨r,hr,k,rfl⟩
 have h1:AB (AO al) r∧r.length≤20012:=by
  rcases hr with rfl|hr
  ·exact⟨fun c hc=>by simp at hc,by simp⟩
  ·exact ht.onR r hr
 refine hf _ (fun c hc=>?_) (by simp;omega)
 rcases List.mem_append.1 hc with hc|hc
 ·exact h1.1 c hc
 ·exact YN hw _ c hc
def Fh(L:W→Bool)(ls:List UInt8)(t:AN)(w:W):Option AN:=(Bt L t w).bind fun v=>(Dr t v).bind fun u=>AZ L ls 13 u
theorem KL{L:W→Bool}{t:AN}{b:Bool}:∀ {w:W} {q:Nat} {v:W},splitAt L t b q w=some v→∃p,p≠[]∧w=p++v
 | [],q,v,h=>by simp [splitAt] at h
 | c::w,q,v,h=>by
  unfold splitAt at h
  split at h
  ·injection h with h;subst h;exact⟨[c],by simp,rfl⟩
  ·obtain⟨p,_,h2⟩:=KL h;exact⟨c::p,by simp,by rw [h2];rfl⟩
theorem E0{L:W→Bool}{t:AN}{w v:W}(h:Bt L t w=some v):∃p,p≠[]∧w=p++v:=by
 unfold Bt at h
 split at h
 ·cases h
 ·exact KL h
theorem ED.mono{al:Int}{b b':Nat}{t:AN}(h:ED al b t)(hb:b≤b'):ED al b' t:=⟨fun w hw=>⟨(h.onR w hw).1,Nat.le_trans (h.onR w hw).2 hb⟩,h.onC,h.rl,h.cl⟩
theorem K7{al:Int}{b:Nat}{t u:AN}{v:W}(h:ED al b t)(hv:AB (AO al) v)(hl:v.length≤20000)(ha:Dr t v=some u):ED al b u:=by
 unfold Dr at ha
 split at ha
 ·cases ha
 ·rename_i hn
  injection ha with ha
  subst ha
  refine⟨h.onR,fun x hx=>?_,h.rl,?_⟩
  ·rcases List.mem_append.1 hx with hx|hx
   ·exact h.onC x hx
   ·simp at hx;subst hx;exact⟨hv,hl⟩
  ·have:=h.cl
   have h2:t.cols.length≠20:=fun e=>hn (.inl e)
   simp;omega
def SS(L:W→Bool)(ls:List UInt8)(t:AN)(w v:W):Prop:=Lw ls t v∨SU t w v∨∃x,Bt L t w=some x∧∃u,Dr t x=some u∧∃y∈Dl L ls 13 u,Lw ls y v
theorem HX{c:C}{L:W→Bool}{ok:W→Prop}(hc:En Tryz.prog TB c L ok)(al:Int)(t:AN)(ht:ED al 20000 t)(hal:Bb al=true)(hcl:A7 L (AO al) t)(ho:AM L (AO al) t=none)(w:W)(hf:∀v,SS L (AO al) t w v→ok v)(hw:AB (AO al) w)(hwl:w.length≤20000) :
 Pure Tryz.prog TB 117 [FF al c,B8 t,eT w] (EP (Fh L (AO al) t w)):=by
 have hr:=BW c hc.AL
 have hpu1:([FF al c,B8 t,eT w].all E.AL && C.A5 [])=true:=by simp [E.AL,C.A5,C.AL,hc.AL]
 have hsp:=Ie (TB:=TB) hc al t (fun v hv=>hf v (.inl hv)) (ht.mono (by omega)) hal hcl ho w (fun v hv=>hf v (.inr (.inl hv))) hw hwl
 have hrl:=ht.rl
 have hcl2:=ht.cl
 rcases hs:Bt L t w with _|v
 ·have hn:Fh L (AO al) t w=none:=by unfold Fh;rw [hs];rfl
  rw [hn]
  rw [hs] at hsp
  refine A3.Fv (A3.ofM 2 (Nat.le_refl _) Tryz.func117 rfl rfl (by kernel_rfl) (Nat.le_of_ble_eq_true rfl) ?_);intro Γ hΓ
  (repeat first|refine aU rfl ?_)
  (refine pW rfl ?_ rfl (by rfl);refine CT rfl rfl ?_)
  (refine pW rfl ?_ rfl (by rfl);refine CT rfl rfl ?_)
  (repeat first|refine tA rfl ?_ |refine aU rfl ?_ |refine Aa ?_)
  (repeat first|refine tA rfl ?_ |refine s2 rfl fun _ _hb=>?_|(refine Ai rfl ?_;refine gA rfl ?_;first| refine gS (fun _ _=>AD rfl rfl hpu1 hsp rfl) ?_) |refine aU rfl ?_ |refine Aa ?_)
  ((refine aC rfl ?_ ?_<;>rintro⟨⟩);all_goals try (simp at _hb;done))
  (repeat first|refine tA rfl ?_|(refine Ai rfl ?_;refine gA rfl ?_;first| refine gS (fun _ _=>AJ rfl rfl (by rfl) (by rfl)) ?_) |refine aU rfl ?_ |refine Aa ?_)
  refine Av.settle [(6,.o (.ip [.l [],.l []])),(7,eB false)] ⟨⟨_,rfl,.o (.box rfl (.cons .d (.cons .d .nil)))⟩,⟨_,rfl,.o .d⟩,trivial⟩ ?_
  refine aR ⟨_,rfl,rfl⟩
 ·have hsuf:=E0 hs
  have hvw:AB (AO al) v∧v.length≤20000:=by
   obtain⟨p,_,rfl⟩:=hsuf
   exact⟨fun c hc=>hw c (by simp [hc]),by simp at hwl;omega⟩
  have hac:=IV (TB:=TB) t v (by omega) (by omega)
  rw [hs] at hsp
  rcases ha:Dr t v with _|u
  ·have hn:Fh L (AO al) t w=none:=by unfold Fh;rw [hs];simp [ha]
   rw [hn]
   rw [ha] at hac
   refine A3.Fv (A3.ofM 2 (Nat.le_refl _) Tryz.func117 rfl rfl (by kernel_rfl) (Nat.le_of_ble_eq_true rfl) ?_);intro Γ hΓ
   (repeat first|refine aU rfl ?_)
   (refine pW rfl ?_ rfl (by rfl);refine CT rfl rfl ?_)
   (refine pW rfl ?_ rfl (by rfl);refine CT rfl rfl ?_)
   (repeat first|refine tA rfl ?_ |refine aU rfl ?_ |refine Aa ?_)
   (repeat first|refine tA rfl ?_ |refine s2 rfl fun _ _hb=>?_|(refine Ai rfl ?_;refine gA rfl ?_;first| refine gS (fun _ _=>AD rfl rfl hpu1 hsp rfl) ?_) |refine aU rfl ?_ |refine Aa ?_)
   ((refine aC rfl ?_ ?_<;>rintro⟨⟩);all_goals try (simp at _hb;done))
   refine aK ?_
   (repeat first|refine tA rfl ?_ |refine s2 rfl fun _ _hb=>?_ |refine sP rfl (hac) rfl ?_ |refine aU rfl ?_ |refine Aa ?_)
   ((refine aC rfl ?_ ?_<;>rintro⟨⟩);all_goals try (simp at _hb;done))
   (repeat first|refine tA rfl ?_|(refine Ai rfl ?_;refine gA rfl ?_;first| refine gS (fun _ _=>AJ rfl rfl (by rfl) (by rfl)) ?_) |refine aU rfl ?_ |refine Aa ?_)
   refine Av.settle [(6,.o (.ip [.l [],.l []])),(7,eB false)] ⟨⟨_,rfl,.o (.box rfl (.cons .d (.cons .d .nil)))⟩,⟨_,rfl,.o .d⟩,trivial⟩ ?_
   refine aR ⟨_,rfl,rfl⟩
  ·have hu:=K7 ht hvw.1 hvw.2 ha
   have hct:=EO (TB:=TB) hc al u (fun y hy v hv=>hf v (.inr (.inr ⟨_,hs,_,ha,y,hy,hv⟩))) hu
   have hpu2:([FF al c,B8 u].all E.AL && C.A5 [])=true:=by simp [E.AL,C.A5,C.AL,hc.AL]
   have hn:Fh L (AO al) t w=AZ L (AO al) 13 u:=by unfold Fh;rw [hs];simp [ha]
   rw [hn]
   rw [ha] at hac
   rcases hcn:AZ L (AO al) 13 u with _|x
   ·rw [hcn] at hct
    refine A3.Fv (A3.ofM 2 (Nat.le_refl _) Tryz.func117 rfl rfl (by kernel_rfl) (Nat.le_of_ble_eq_true rfl) ?_);intro Γ hΓ
    (repeat first|refine aU rfl ?_)
    (refine pW rfl ?_ rfl (by rfl);refine CT rfl rfl ?_)
    (refine pW rfl ?_ rfl (by rfl);refine CT rfl rfl ?_)
    (repeat first|refine tA rfl ?_ |refine aU rfl ?_ |refine Aa ?_)
    (repeat first|refine tA rfl ?_ |refine s2 rfl fun _ _hb=>?_|(refine Ai rfl ?_;refine gA rfl ?_;first| refine gS (fun _ _=>AD rfl rfl hpu1 hsp rfl) ?_) |refine aU rfl ?_ |refine Aa ?_)
    ((refine aC rfl ?_ ?_<;>rintro⟨⟩);all_goals try (simp at _hb;done))
    refine aK ?_
    (repeat first|refine tA rfl ?_ |refine s2 rfl fun _ _hb=>?_ |refine sP rfl (hac) rfl ?_ |refine aU rfl ?_ |refine Aa ?_)
    ((refine aC rfl ?_ ?_<;>rintro⟨⟩);all_goals try (simp at _hb;done))
    refine aK ?_
    (repeat first|refine tA rfl ?_|(refine Ai rfl ?_;refine gA rfl ?_;first| refine gS (fun _ _=>AD rfl rfl hpu2 hct rfl) ?_) |refine aU rfl ?_ |refine Aa ?_)
    refine Av.settle [(6,.o (.ip [.l [],.l []])),(7,eB false)] ⟨⟨_,rfl,.o (.box rfl (.cons .d (.cons .d .nil)))⟩,⟨_,rfl,.o .d⟩,trivial⟩ ?_
    refine aR ⟨_,rfl,rfl⟩
   ·rw [hcn] at hct
    refine A3.Fv (A3.ofM 2 (Nat.le_refl _) Tryz.func117 rfl rfl (by kernel_rfl) (Nat.le_of_ble_eq_true rfl) ?_);intro Γ hΓ
    (repeat first|refine aU rfl ?_)
    (refine pW rfl ?_ rfl (by rfl);refine CT rfl rfl ?_)
    (refine pW rfl ?_ rfl (by rfl);refine CT rfl rfl ?_)
    (repeat first|refine tA rfl ?_ |refine aU rfl ?_ |refine Aa ?_)
    (repeat first|refine tA rfl ?_ |refine s2 rfl fun _ _hb=>?_|(refine Ai rfl ?_;refine gA rfl ?_;first| refine gS (fun _ _=>AD rfl rfl hpu1 hsp rfl) ?_) |refine aU rfl ?_ |refine Aa ?_)
    ((refine aC rfl ?_ ?_<;>rintro⟨⟩);all_goals try (simp at _hb;done))
    refine aK ?_
    (repeat first|refine tA rfl ?_ |refine s2 rfl fun _ _hb=>?_ |refine sP rfl (hac) rfl ?_ |refine aU rfl ?_ |refine Aa ?_)
    ((refine aC rfl ?_ ?_<;>rintro⟨⟩);all_goals try (simp at _hb;done))
    refine aK ?_
    (repeat first|refine tA rfl ?_|(refine Ai rfl ?_;refine gA rfl ?_;first| refine gS (fun _ _=>AD rfl rfl hpu2 hct rfl) ?_) |refine aU rfl ?_ |refine Aa ?_)
    refine Av.settle [(6,.o (.ip [Ba x.rows,Ba x.cols])),(7,eB true)] ⟨⟨_,rfl,.o (.box rfl (.cons .d (.cons .d .nil)))⟩,⟨_,rfl,.o .d⟩,trivial⟩ ?_
    refine aR ⟨_,rfl,rfl⟩
theorem ON{c:C}{L:W→Bool}{ok:W→Prop}(hc:En Tryz.prog TB c L ok)(al:Int)(t:AN)(hf:GS ok al)(ht:ED al 20000 t)(hal:Bb al=true)(hcl:A7 L (AO al) t)(ho:AM L (AO al) t=none)(w:W)(hw:AB (AO al) w)(hwl:w.length≤20000) :
 Pure Tryz.prog TB 117 [FF al c,B8 t,eT w] (EP (Fh L (AO al) t w)):=by
 refine HX hc al t ht hal hcl ho w (fun v hv=>?_) hw hwl
 rcases hv with hv|hv|⟨x,hx,u,hu,y,hy,hv⟩
 ·exact ht.on hf (by omega) v hv
 ·exact(ht.mono (by omega)).fV hf hw hwl v hv
 ·obtain⟨p,_,rfl⟩:=E0 hx
  exact(K7 ht (fun c hc=>hw c (by simp [hc])) (by simp at hwl;omega) hu).ed hf (by omega) y hy v hv
end Go.Am
namespace Go.Am
open Go
set_option linter.unusedVariables false
def fD:Bool×List C→Option E
 | (false,[c])=>some (.o c)
 | (true,cs)=>some (.a cs)
 | _=>none
def SY(f:Env)(σ:Ab)(t:Tmp)(ag:Bool)(n:Nat):Option (Bool×List C):=match f t with
 | some (.o (.d (.p cs)))=>match Nat.ble n cs.length with
  | true=>some (ag,(cs.take n).map .d)
  | false=>none
 | some (.o (.ptr id k i j))=>match look σ id with
  | some (.cells _ k' rows)=>match Nat.beq k k',nth rows i with
   | true,some r=>match Nat.ble (j+n) r.length with
    | true=>some (ag,(r.drop j).take n)
    | false=>none
   | _,_=>none
  | _=>none
 | _=>none
def UR(T:List (Nat×TI))(f:Env)(σ:Ab):ResultVar→Option (Bool×List C)
 | .tmp t=>match f t with
  | some e=>Qm e
  | none=>none
 | .cell t T'=>match (HR T T').ld with
  | some (true,n)=>SY f σ t true n
  | some (false,1)=>SY f σ t false 1
  | _=>none
def US(T:List (Nat×TI))(f:Env)(σ:Ab):List ResultVar→Option (List (Bool×List C))
 | []=>some []
 | r::rs=>match UR T f σ r,US T f σ rs with
  | some x,some xs=>some (x::xs)
  | _,_=>none
def Xn(T:List (Nat×TI))(rs:Array ResultVar)(f:Env)(σ:Ab):Option E:=match rs.toList with
 | []=>some (.t [])
 | [r]=>match UR T f σ r with
  | some x=>fD x
  | none=>none
 | rs=>match rs.length,US T f σ rs with
  | 2,some xs=>some (.t xs)
  | 3,some xs=>some (.t xs)
  | 4,some xs=>some (.t xs)
  | _,_=>none
def Vv(T:List (Nat×TI))(rs:Array ResultVar)(post:E→Ab→Nat→Prop):Exit→Env→Ab→Nat→Prop
 | .ret,f,σ,nx|.normal,f,σ,nx=>∃x,Xn T rs f σ=some x∧post x σ nx
 | _,_,_,_=>False
section
variable {P:Program}{TB:Be}{Γ:Ctx}{σ:Ab}
theorem NF{V:View}{f:Env}{a:Act}{t:Tmp}{T':TypeId}{ag:Bool}{n:Nat}{x:Bool×List C}(hi:Inv TB Γ V σ)(hl:Cu P T' ag n)(h1n:ag=false→n=1)(hE:C9 V f a.tmps)(h:SY f σ t ag n=some x) :
 ∃v,((do loadVar T' (←asAddr (a.tmps.getD t undef))):Sem Value).run P V.w=.ok v V.w∧KR V x v:=by
 have key : ∃ (b o:Nat) (cs:List C) (vs:Nat→Value),a.tmps.getD t undef=.pointer (some ⟨b,o,none⟩)∧x=(ag,cs)∧cs.length=n∧∀(q:Nat) (c:C),cs[q]? = some c→V.w.cell? ⟨b,o+q,none⟩=some (vs q)∧Ax V c (vs q):=by
  unfold SY at h
  split at h
  ·rename_i ds hf
   split at h
   ·rename_i hn
    have hn:=Nat.le_of_ble_eq_true hn
    injection h with h
    subst h
    have h3:Ax V (.d (.p ds)) (a.tmps.getD t undef):=hE t _ hf
    generalize a.tmps.getD t undef=v0 at h3
    obtain⟨h3⟩:=h3
    cases h3 with
    | @p _ b o vs hb h1 h2=>
     refine⟨b,o,_,vs,rfl,rfl,by simp;omega,fun q c hq=>?_⟩
     rw [List.getElem?_map,Option.map_eq_some_iff] at hq
     obtain⟨dd,hd,rfl⟩:=hq
     rw [List.getElem?_take] at hd
     split at hd
     ·exact⟨h1 q dd hd,.d (h2 q dd hd)⟩
     ·cases hd
   ·cases h
  ·rename_i id k i j hf
   split at h
   ·rename_i T0 k' rows ho
    split at h
    ·rename_i r hk hr
     have hk:=Nat.eq_of_beq_eq_true hk
     subst hk
     split at h
     ·rename_i hn
      have hn:=Nat.le_of_ble_eq_true hn
      injection h with h
      subst h
      rw [Li] at hr
      have h3:Ax V (.ptr id k i j) (a.tmps.getD t undef):=hE t _ hf
      generalize a.tmps.getD t undef=v0 at h3
      cases h3 with
      | ptr hid hnl=>
       rcases hi.st.obj id _ ho with ⟨h4,_⟩|⟨_,cur,h4,h5,h6,h7,h8,h9⟩
       ·exact absurd h4 hnl
       ·refine⟨V.ρ id,i*k+j,_,fun q=>cur.getD (i*k+j+q) undef,rfl,rfl,by simp;omega,fun q c hq=>?_⟩
        rw [List.getElem?_take] at hq
        split at hq
        ·rw [List.getElem?_drop] at hq
         obtain⟨v,h10,h11⟩:=h9 i r (j+q) c hr hq
         rw [←Nat.add_assoc] at h10
         have e:cur.getD (i*k+j+q) undef=v:=by simp [h10]
         dsimp only
         rw [e]
         exact⟨by simp [World.cell?,h4,h10],h11⟩
        ·cases hq
     ·cases h
    ·cases h
   ·cases h
  ·cases h
 obtain⟨b,o,cs,vs,hv,rfl,hlen,hc⟩:=key
 rw [hv]
 cases ag with
 | false=>
  have hn1:=h1n rfl
  subst hn1
  match cs,hlen with
  | [c],_=>
   obtain⟨h1,h2⟩:=hc 0 c rfl
   refine⟨vs 0,?_,c,rfl,h2⟩
   rw [Nat.add_zero] at h1
   simp [asAddr,loadVar,(Bk hl.out V.w).1,h1,go_sem]
 | true =>
  refine⟨.agg ((List.range n).map fun q=>vs q).toArray,?_,_,rfl,by simp [hlen],fun j c v hj hvv=>?_⟩
  ·have:(loadCells ⟨b,o,none⟩ n).run P V.w=.ok ((List.range n).map fun q=>vs q).toArray V.w:=run_loadCells V.w _ n _ fun q hq=>by
    rw [Bj]
    exact(hc q cs[q] (List.getElem?_eq_getElem (by omega))).1
   unfold loadCells at this
   simp [asAddr,loadVar,(Bk hl.out V.w).1,(Bk hl.out V.w).2,this,go_sem]
  ·have hq:j < n:=by have:=(List.getElem?_eq_some_iff.1 hj).1;omega
   have:v=vs j:=by simpa [hq] using hvv.symm
   subst this
   exact(hc j c hj).2
theorem Xm[hT:Ci P]{V:View}{f:Env}{a:Act}{r:ResultVar}{x:Bool×List C}(hi:Inv TB Γ V σ)(hE:C9 V f a.tmps)(h:UR hT.T f σ r=some x) :
 ∃v,((match r with
  | .tmp t=>pure (a.tmps.getD t undef)
  | .cell b t=>do loadVar t (←asAddr (a.tmps.getD b undef))):Sem Value).run P V.w=.ok v V.w∧KR V x v:=by
 have hty:=fun t=>CX (P:=P) t hT.ok
 unfold UR at h
 split at h
 ·rename_i t
  split at h
  ·rename_i e he
   exact⟨_,by simp [go_sem],EX h (hE t e he)⟩
  ·cases h
 ·rename_i t T'
  split at h
  ·rename_i n hl
   exact NF hi ((hty T').KD hl) (fun h=>(by cases h)) hE h
  ·rename_i hl
   exact NF hi ((hty T').KD hl) (fun _=>rfl) hE h
  ·cases h
theorem Zo{V:View}{x:Bool×List C}{e:E}{v:Value}(h:fD x=some e)(hr:KR V x v):A2 V e v:=by
 unfold fD at h
 split at h
 ·injection h with h;subst h
  obtain⟨c,h1,h2⟩:=hr
  simp at h1;subst h1;exact h2
 ·injection h with h;subst h;exact hr
 ·cases h
theorem Xo[hT:Ci P]{fn:Func}{V:View}{f:Env}{a:Act}{x:E}(hi:Inv TB Γ V σ)(hE:C9 V f a.tmps)(h:Xn hT.T fn.results f σ=some x):∃v,(results fn a.tmps).run P V.w=.ok v V.w∧A2 V x v:=by
 obtain⟨F,hF,hFr⟩:∃F:ResultVar→Sem Value,results fn a.tmps=(do let vs ←fn.results.mapM F;pure (if h:vs.size=1 then vs[0] else .tuple vs))∧∀r x,UR hT.T f σ r=some x→∃v,(F r).run P V.w=.ok v V.w∧KR V x v:=
  ⟨fun r=>match r with
   | .tmp t=>pure (a.tmps.getD t undef)
   | .cell b t=>do loadVar t (←asAddr (a.tmps.getD b undef)),rfl,fun r x hr=>Xm hi hE hr⟩
 have two:∀ {r:ResultVar} {rs:List ResultVar} {xs:List (Bool×List C)},US hT.T f σ (r::rs)=some xs→∃y ys,xs=y::ys∧UR hT.T f σ r=some y∧US hT.T f σ rs=some ys:=by
  intro r rs xs h
  unfold US at h
  split at h
  ·rename_i y ys h1 h2
   injection h with h;subst h;exact⟨y,ys,rfl,h1,h2⟩
  ·cases h
 have nil:∀ {xs:List (Bool×List C)},US hT.T f σ []=some xs→xs=[]:=fun h=>by injection h with h;exact h.symm
 have key:∀l:List ResultVar,fn.results=l.toArray→Xn hT.T l.toArray f σ=some x→∃v,(results fn a.tmps).run P V.w=.ok v V.w∧A2 V x v:=by
  intro l hll h
  rw [hF,hll]
  unfold Xn at h
  simp only at h
  match l with
  | []=>
   injection h with h;subst h
   exact⟨.tuple #[],by simp [go_sem],#[],rfl,rfl,fun j x v hj=>by simp at hj⟩
  | [r]=>
   simp only at h
   split at h
   ·rename_i y hy
    obtain⟨v,h1,h2⟩:=hFr r y hy
    exact⟨v,by simp [h1,go_sem],Zo h h2⟩
   ·cases h
  | [r1,r2]=>
   simp only [List.length_cons,List.length_nil] at h
   split at h
   ·rename_i xs _ hx
    injection h with h;subst h
    obtain⟨y1,ys,rfl,h1,hx⟩:=two hx
    obtain⟨y2,ys,rfl,h2,hx⟩:=two hx
    have:=nil hx;subst this
    obtain⟨v1,e1,t1⟩:=hFr _ _ h1
    obtain⟨v2,e2,t2⟩:=hFr _ _ h2
    refine⟨.tuple #[v1,v2],by simp [e1,e2,go_sem],_,rfl,rfl,fun j x v' hj hv=>?_⟩
    match j with
    | 0=>simp at hj hv;subst hj;subst hv;exact t1
    | 1=>simp at hj hv;subst hj;subst hv;exact t2
    | j+2=>simp at hj
   ·omega
   ·omega
   ·cases h
  | [r1,r2,r3]=>
   simp only [List.length_cons,List.length_nil] at h
   split at h
   ·omega
   ·rename_i xs _ hx
    injection h with h;subst h
    obtain⟨y1,ys,rfl,h1,hx⟩:=two hx
    obtain⟨y2,ys,rfl,h2,hx⟩:=two hx
    obtain⟨y3,ys,rfl,h3,hx⟩:=two hx
    have:=nil hx;subst this
    obtain⟨v1,e1,t1⟩:=hFr _ _ h1
    obtain⟨v2,e2,t2⟩:=hFr _ _ h2
    obtain⟨v3,e3,t3⟩:=hFr _ _ h3
    refine⟨.tuple #[v1,v2,v3],by simp [e1,e2,e3,go_sem],_,rfl,rfl,fun j x v' hj hv=>?_⟩
    match j with
    | 0=>simp at hj hv;subst hj;subst hv;exact t1
    | 1=>simp at hj hv;subst hj;subst hv;exact t2
    | 2=>simp at hj hv;subst hj;subst hv;exact t3
    | j+3=>simp at hj
   ·omega
   ·cases h
  | [r1,r2,r3,r4]=>
   simp only [List.length_cons,List.length_nil] at h
   split at h
   ·omega
   ·omega
   ·rename_i xs _ hx
    injection h with h;subst h
    obtain⟨y1,ys,rfl,h1,hx⟩:=two hx
    obtain⟨y2,ys,rfl,h2,hx⟩:=two hx
    obtain⟨y3,ys,rfl,h3,hx⟩:=two hx
    obtain⟨y4,ys,rfl,h4,hx⟩:=two hx
    have:=nil hx;subst this
    obtain⟨v1,e1,t1⟩:=hFr _ _ h1
    obtain⟨v2,e2,t2⟩:=hFr _ _ h2
    obtain⟨v3,e3,t3⟩:=hFr _ _ h3
    obtain⟨v4,e4,t4⟩:=hFr _ _ h4
    refine⟨.tuple #[v1,v2,v3,v4],by simp [e1,e2,e3,e4,go_sem],_,rfl,rfl,fun j x v' hj hv=>?_⟩
    match j with
    | 0=>simp at hj hv;subst hj;subst hv;exact t1
    | 1=>simp at hj hv;subst hj;subst hv;exact t2
    | 2=>simp at hj hv;subst hj;subst hv;exact t3
    | 3=>simp at hj hv;subst hj;subst hv;exact t4
    | j+4=>simp at hj
   ·cases h
  | _::_::_::_::_::_=>
   simp only [List.length_cons] at h
   cases h
 exact key fn.results.toList (by simp) (by simpa using h)
theorem A3.YL [hT:Ci P] {g:FuncId} {fn:Func} {c:Code} {m:Nat} {σ:Ab} {nx:Nat} {args:List E} {post:E→Ab→Nat→Prop} (hm:m≤nx) (hf:P.funcs[g]? = some fn) (hb:fn.body=some c) (hname:(fn.name == "runtime.NumGoroutine")=false)
 (hargs:args.length≤fn.ntmps) (h:∀Γ:Ctx,Γ.V.nx=m→Av P TB Γ fn.ntmps c (Vv hT.T fn.results post) (look (Bw 0 args)) σ nx):A3 P TB g m σ nx args post:=by
 refine⟨⟨fn,hf,hname,by rw [hb];rfl⟩,?_⟩
 intro V vs S hg ha
 refine calls_of_wp hf hb ?_
 have hs:vs.size≤fn.ntmps:=by rw [ha.1];exact hargs
 have hi:Inv TB (DJ V (Kf V m) σ S) V σ:=
  ⟨rfl,rfl,rfl,fun _ _ _=>rfl,hg.iLt,fun _ h=>.inl h,Tk (by rw [hg.nx];exact hm),hg.st,fun id o ho hnl b hb=>.inr (.inl ⟨id,o,ho,hnl,hb⟩),hg.tabs,⟨S,hg.hid,fun b hb=>.inl hb,fun b hb=>.inr (.inr hb)⟩⟩
 have hr:BA TB (DJ V (Kf V m) σ S) fn.ntmps V (look (Bw 0 args)) σ nx { tmps:=vs++Array.replicate (fn.ntmps - vs.size) undef,defers:=[] } := by
  refine⟨?_,?_,by simp;omega,hi,hg.nx,rfl⟩
  ·intro t e he
   obtain⟨_,h2⟩:=Bu args 0 t e he
   have h2:args[t]? = some e:=by simpa using h2
   have hlt:t < vs.size:=by rw [ha.1];exact(List.getElem?_eq_some_iff.1 h2).1
   have h3:=ha.2 t e vs[t] h2 (Array.getElem?_eq_getElem hlt)
   simpa [Array.getElem?_append_left hlt,hlt] using h3
  ·intro t e he
   obtain⟨_,h2⟩:=Bu args 0 t e he
   have h2:args[t]? = some e:=by simpa using h2
   have:=(List.getElem?_eq_some_iff.1 h2).1
   omega
 refine wp_mono (h (DJ V (Kf V m) σ S) rfl V _ hr) ?_
 rintro e a' w' ⟨V',f',σ',rfl,hq,hr'⟩
 have fin:(∃x,Xn hT.T fn.results f' σ'=some x∧post x σ' V'.nx)→a'.defers=[]∧∃v,(results fn a'.tmps).run P V'.w=.ok v V'.w∧∃V'' v' x σ'',Ending.returned v=.returned v'∧V''.w=V'.w∧Inv TB (DJ V (Kf V m) σ S) V'' σ''∧A2 V'' x v'∧post x σ'' V''.nx:=by
  rintro⟨x,hx,hp⟩
  obtain⟨v,hv,he⟩:=Xo (P:=P) hr'.inv hr'.env hx
  exact⟨hr'.defers,v,hv,V',v,x,σ',rfl,rfl,hr'.inv,he,hp⟩
 cases e with
 | normal=>exact fin hq
 | ret=>exact fin hq
 | exit id=>exact hq.elim
 | goto l=>exact hq.elim
 | panic ch=>exact hq.elim
 | outgrown=>exact hq.elim
theorem eG [hT:Ci P] {g:FuncId} {fn:Func} {c:Code} {nx:Nat} {args:List E} {post:E→Ab→Nat→Prop} (hf:P.funcs[g]? = some fn) (hb:fn.body=some c) (hname:(fn.name == "runtime.NumGoroutine")=false)
 (ha:Nat.ble args.length fn.ntmps=true) (h:∀Γ:Ctx,Γ.V.nx=nx→Av P TB Γ fn.ntmps c (Vv hT.T fn.results post) (look (Bw 0 args)) σ nx):Spec P TB g σ nx args post:=
 A3.Fv (A3.YL (Nat.le_refl _) hf hb hname (Nat.le_of_ble_eq_true ha) h)
end
end Go.Am
namespace Go.Am
open Go Go.Proofs
set_option maxHeartbeats 1000000
set_option maxRecDepth 4000
attribute [local irreducible] AV BX Lex Bf Av Spec
variable {TB:Be}
abbrev dI(kn:Bool)(p:Bn)(s:Sys)(q:Bn)(al:Int):E:=.a ((Ua kn p s q al).map .d)
theorem GK(p:Bn)(s:Sys)(q:Bn)(al:Int):Pure Tryz.prog TB 144 [dI true p s q al] (eI .i64 (if AK p then p.al else -1)):=by
 refine eN Tryz.func144 rfl (by kernel_rfl) rfl ?_;intro Γ hΓ
 (repeat' first|refine tA rfl ?_ |refine s2 rfl fun _ _hb=>?_ |(refine sC rfl (BR p) ?_;intro _ _hb) |refine s3 rfl ?_ ?_<;>rintro rfl |refine aU rfl ?_ |refine Aa ?_|(refine aC rfl ?_ ?_<;>rintro⟨⟩)|refine aK ?_|refine aE ?_|refine aB ?_|refine aR ⟨_,rfl,?_⟩)
 all_goals first
  | (show E.o _=E.o _;congr;grind)
  | (exfalso;simp at *;done)
abbrev cr(kn:Bool)(p:Bn)(s:Sys)(q:Bn)(al:Int):C:=.fn 145 [.ip [.l (Gb p)],.ip (Ua kn p s q al)]
theorem VF{p:Bn}(hp:AK p=true)(s:Sys)(q:Bn)(al:Int)(kn:Bool):En Tryz.prog TB (cr kn p s q al) (LA p) (fun w=>AB (AO p.al) w∧w.length≤1048576):=
 .of rfl fun w hw=>X0 hp s q al kn w hw.1 hw.2
theorem RE(p:Bn):GS (fun w=>AB (AO p.al) w∧w.length≤1048576) p.al:=fun w h1 h2=>⟨h1,by omega⟩
theorem Ia{p:Bn}(hp:AK p=true)(s:Sys)(q:Bn)(al:Int):Pure Tryz.prog TB 75 [dI true p s q al] (.t [(true,[.d (iD p.al),cr true p s q al]),(false,[.d (bD true)])]):=by
 have hT:=GK (TB:=TB) p s q al
 rw [if_pos hp] at hT
 have h0:=Aj hp
 have ha:=h0.1
 unfold Bb at ha
 simp only [decide_eq_true_eq] at ha
 have htb:=E1 (TB:=TB) p hp
 refine eG Tryz.func75 rfl (by kernel_rfl) rfl ?_;intro Γ hΓ
 (repeat first|refine tA rfl ?_ |refine sP rfl (hT) rfl ?_ |refine aU rfl ?_ |refine Aa ?_)
 refine aB ?_
 (repeat first|refine tA rfl ?_ |refine s2 rfl fun _ _hb=>?_ |refine aU rfl ?_ |refine Aa ?_)
 ((refine aC rfl ?_ ?_<;>rintro⟨⟩);all_goals try (simp at _hb;done))
 ·exfalso;(simp only[oZ] at *;omega)
 ·(repeat first|refine tA rfl ?_ |refine aU rfl ?_ |refine Aa ?_)
  ((refine aC rfl ?_ ?_<;>rintro⟨⟩);all_goals try (simp at _hb;done))
  refine aS ?_
  refine fp (by kernel_rfl) ?_;(repeat first|refine tA rfl ?_ |refine sP rfl (htb) rfl ?_);refine Aa ?_
  refine aS ?_
  refine Av.Jb [1] [1,2,3,4] rfl [(5,.o (.ip [.l (Gb p)]))] ⟨⟨_,rfl,.o (.ptr (by simp) rfl rfl rfl)⟩,trivial⟩ ?_;(try dsimp only[cA,cB])
  (repeat first|refine tA rfl ?_|(refine Ai rfl ?_;refine gA rfl ?_;first| refine gS (fun _ _=>AJ rfl rfl (by rfl) (by rfl)) ?_) |refine aU rfl ?_ |refine Aa ?_)
  refine aR ⟨_,rfl,rfl⟩
theorem H0{p:Bn}(hp:AK p=false)(s:Sys)(q:Bn)(al:Int):Pure Tryz.prog TB 75 [dI true p s q al] (.t [(true,[.d (iD 0),.d (.v .nilFunc)]),(false,[.d (bD false)])]):=by
 have hT:=GK (TB:=TB) p s q al
 rw [if_neg (by simp [hp])] at hT
 refine eG Tryz.func75 rfl (by kernel_rfl) rfl ?_;intro Γ hΓ
 (repeat first|refine tA rfl ?_ |refine sP rfl (hT) rfl ?_ |refine aU rfl ?_ |refine Aa ?_)
 refine aB ?_
 (repeat first|refine tA rfl ?_ |refine s2 rfl fun _ _hb=>?_ |refine aU rfl ?_ |refine Aa ?_)
 ((refine aC rfl ?_ ?_<;>rintro⟨⟩);all_goals try (simp at _hb;done))
 ·(repeat first|refine tA rfl ?_|(refine Ai rfl ?_;refine gA rfl ?_;first| refine gS (fun _ _=>AJ rfl rfl (by rfl) (by rfl)) ?_) |refine aU rfl ?_ |refine Aa ?_)
  refine aR ⟨_,rfl,rfl⟩
abbrev bq:Sys:=⟨0,0,[]⟩
abbrev ZM:Bn:=⟨0,[],[]⟩
theorem A7.OZ{L:W→Bool}{ls:List UInt8}{t:AN}(h:A7 L ls t):AM L ls t=none:=List.find?_eq_none.2 fun w hw=>by
 unfold BP at hw
 simp only [List.mem_flatMap,List.mem_map] at hw
 obtain⟨r,hr,l,hl,rfl⟩:=hw
 simpa using h.cl r hr l hl
theorem Ls{p:Bn}(hp:AK p=true){k:Nat}(hk:k≤Dn p):ED p.al 20000 (BK p k):=by
 obtain⟨h1,h2,h3,h4,h5⟩:=Fi hp k hk
 have h6:=(ER hp).1
 refine⟨fun w hw=>⟨h1.onR w hw,?_⟩,fun x hx=>⟨h1.onC x hx,by have:=h5 x hx;omega⟩,h3,by omega⟩
 obtain⟨i,hi,he⟩:=List.getElem_of_mem hw
 have:=h1.toTOk.short i w (by rw [List.getElem?_eq_getElem hi,he])
 omega
theorem So{L:W→Bool}{ls:List UInt8}{t t':AN}{w v:W}(h:Next L ls t w v t')(hd:IU L t w≠L w)(hc:t.cols.length < 20):Fh L ls t w=some t':=by
 unfold Fh Bt
 rw [if_neg hd,h.split]
 simp only [Option.bind_some]
 unfold Dr
 rw [if_neg (by intro he;rcases he with he|he;omega;exact h.new he)]
 exact h.close
noncomputable def Hk(p:Bn):AN:=if AK p then BK p (Dn p) else ⟨[],[]⟩
noncomputable def Kd(p:Bn):Int:=if AK p then (Dn p:Int)+1 else 0
theorem UB(p:Bn):Pure Tryz.prog TB 122 [Da p,.o (.d (.v .nilFunc))] (.t [(true,[.d (Ba (Hk p).rows),.d (Ba (Hk p).cols)]),(false,[.d (iD (Kd p))])]):=by
 by_cases hp:AK p=true
 ·have hno:=Ia (TB:=TB) hp bq ZM 0
  have hV:=VF (TB:=TB) hp bq ZM 0 true
  have hf:=RE p
  have hnt:=Qh (TB:=TB) hV p.al hf
  rw [(JG hp).1] at hnt
  have hLT:Hk p=BK p (Dn p):=by unfold Hk;rw [if_pos hp]
  have hLN:Kd p=(Dn p:Int)+1:=by unfold Kd;rw [if_pos hp]
  rw [hLT,hLN]
  have hl12:=(ER hp).1
  refine eG Tryz.func122 rfl (by kernel_rfl) rfl ?_;intro Γ hΓ
  (repeat first |refine sN rfl ?_ |((first|refine sA rfl ?_ ?_|refine s4 rfl ‹_› rfl ?_ ?_);first|exact tI|omega|simp only[oZ] at *;omega) |refine s2 rfl fun _ _hb=>?_ |refine sP rfl (hno) rfl ?_|(refine Ai rfl ?_;refine gA rfl ?_;first|refine gS (fun _ _=>AJ rfl rfl (by rfl) (by rfl)) ?_) |refine s3 rfl ?_ ?_<;>rintro rfl |refine aU rfl ?_ |refine Aa ?_)
  ((refine aC rfl ?_ ?_<;>rintro⟨⟩);all_goals try (simp at _hb;done))
  refine aK ?_
  (repeat first |refine sN rfl ?_ |((first|refine sA rfl ?_ ?_|refine s4 rfl ‹_› rfl ?_ ?_);first|exact tI|omega|simp only[oZ] at *;omega) |refine s2 rfl fun _ _hb=>?_ |refine sP rfl (hnt) rfl ?_ |refine s3 rfl ?_ ?_<;>rintro rfl |refine aU rfl ?_ |refine Aa ?_)
  refine aB ?_
  refine aL (α:={k:Nat // k≤Dn p}) [1,2,4,6,8] [0,1] rfl rfl (fun ⟨k,hk⟩=>[(10,eI .i64 ((k:Int)+1))]) (fun ⟨k,hk⟩=>[(2,.cells 38 2 [[.d (Ba (BK p k).rows),.d (Ba (BK p k).cols)]])]) 3 (fun ⟨k,hk⟩=>Dn p - k) (⟨0,by omega⟩) hΓ rfl (by ((repeat' first|exact tI|rfl|refine And.intro ?_ ?_)<;>(simp[cX,zC,hΓ]<;>rfl))) ?_;rintro⟨k,hk⟩;(try dsimp only[cA,cB])
  obtain⟨h1,h2,h3,h4,h5⟩:=Fi hp k hk
  have hbd:=Ls hp hk
  have hau:=OE (TB:=TB) hV p.al (BK p k) hf (hbd.mono (by omega)) h1.OZ
  have hdf:=KX (TB:=TB) (AT (LA p) p.al (BK p k)) p
  refine aS (aB ?_)
  by_cases hlt:k < Dn p
  ·obtain⟨w,v,hw,hN⟩:=Oq hp hlt
   have hwd:=hw
   unfold Pj at hwd
   obtain⟨u,hu,hut⟩:=Option.map_eq_some_iff.1 hwd
   obtain⟨hon,hne⟩:=(MX p).on _ w hw h1
   have hsh:=Kw hw
   have hls:=ON (TB:=TB) hV p.al (BK p k) hf hbd (Aj hp).1 h1 h1.OZ w hon (by omega)
   rw [So hN hne (by omega)] at hls
   rw [hu] at hdf
   rw [←hut] at hls
   (repeat first |refine sN rfl ?_ |((first|refine sA rfl ?_ ?_|refine s4 rfl ‹_› rfl ?_ ?_);first|exact tI|omega|simp only[oZ] at *;omega) |refine s2 rfl fun _ _hb=>?_ |refine sP rfl (hau) rfl ?_ |refine s3 rfl ?_ ?_<;>rintro rfl |refine aU rfl ?_ |refine Aa ?_)
   (repeat first |refine sN rfl ?_ |((first|refine sA rfl ?_ ?_|refine s4 rfl ‹_› rfl ?_ ?_);first|exact tI|omega|simp only[oZ] at *;omega) |refine s2 rfl fun _ _hb=>?_|(refine Ai rfl ?_;refine gA rfl ?_;first|refine gS (fun _ _=>TH rfl rfl) ?_) |refine s3 rfl ?_ ?_<;>rintro rfl |refine aU rfl ?_ |refine Aa ?_)
   ((refine aC rfl ?_ ?_<;>rintro⟨⟩);all_goals try (simp at _hb;done))
   refine aK ?_
   (repeat first |refine sN rfl ?_ |((first|refine sA rfl ?_ ?_|refine s4 rfl ‹_› rfl ?_ ?_);first|exact tI|omega|simp only[oZ] at *;omega) |refine s2 rfl fun _ _hb=>?_ |refine sP rfl (hdf) rfl ?_ |refine s3 rfl ?_ ?_<;>rintro rfl |refine aU rfl ?_ |refine Aa ?_)
   ((refine aC rfl ?_ ?_<;>rintro⟨⟩);all_goals try (simp at _hb;done))
   refine aK ?_
   (repeat first |refine sN rfl ?_ |((first|refine sA rfl ?_ ?_|refine s4 rfl ‹_› rfl ?_ ?_);first|exact tI|omega|simp only[oZ] at *;omega) |refine s2 rfl fun _ _hb=>?_ |refine sP rfl (hls) rfl ?_ |refine s3 rfl ?_ ?_<;>rintro rfl |refine aU rfl ?_ |refine Aa ?_)
   refine⟨⟨k+1,by first|omega|simp only[oZ] at *;omega⟩,by dsimp only;(first|omega|simp only[oZ] at *;omega),[0,1,2],?_⟩
   simp[cX,zC,hΓ]
  ·obtain rfl:k=Dn p:=by omega
   have hwd:=(ER hp).2.1
   unfold Pj at hwd
   rw [Option.map_eq_none_iff.1 hwd] at hdf
   (repeat first |refine sN rfl ?_ |((first|refine sA rfl ?_ ?_|refine s4 rfl ‹_› rfl ?_ ?_);first|exact tI|omega|simp only[oZ] at *;omega) |refine s2 rfl fun _ _hb=>?_ |refine sP rfl (hau) rfl ?_ |refine s3 rfl ?_ ?_<;>rintro rfl |refine aU rfl ?_ |refine Aa ?_)
   (repeat first |refine sN rfl ?_ |((first|refine sA rfl ?_ ?_|refine s4 rfl ‹_› rfl ?_ ?_);first|exact tI|omega|simp only[oZ] at *;omega) |refine s2 rfl fun _ _hb=>?_|(refine Ai rfl ?_;refine gA rfl ?_;first|refine gS (fun _ _=>TH rfl rfl) ?_) |refine s3 rfl ?_ ?_<;>rintro rfl |refine aU rfl ?_ |refine Aa ?_)
   ((refine aC rfl ?_ ?_<;>rintro⟨⟩);all_goals try (simp at _hb;done))
   refine aK ?_
   (repeat first |refine sN rfl ?_ |((first|refine sA rfl ?_ ?_|refine s4 rfl ‹_› rfl ?_ ?_);first|exact tI|omega|simp only[oZ] at *;omega) |refine s2 rfl fun _ _hb=>?_ |refine sP rfl (hdf) rfl ?_ |refine s3 rfl ?_ ?_<;>rintro rfl |refine aU rfl ?_ |refine Aa ?_)
   ((refine aC rfl ?_ ?_<;>rintro⟨⟩);all_goals try (simp at _hb;done))
   (repeat first |refine sN rfl ?_ |((first|refine sA rfl ?_ ?_|refine s4 rfl ‹_› rfl ?_ ?_);first|exact tI|omega|simp only[oZ] at *;omega) |refine s2 rfl fun _ _hb=>?_ |refine s3 rfl ?_ ?_<;>rintro rfl |refine aU rfl ?_ |refine Aa ?_)
   refine aR ⟨_,rfl,rfl⟩
 ·have hLT:Hk p=⟨[],[]⟩:=by unfold Hk;rw [if_neg hp]
  have hLN:Kd p=0:=by unfold Kd;rw [if_neg hp]
  rw [hLT,hLN]
  have hno:=H0 (TB:=TB) (by simpa using hp) bq ZM 0
  refine eG Tryz.func122 rfl (by kernel_rfl) rfl ?_;intro Γ hΓ
  (repeat first |refine sN rfl ?_ |((first|refine sA rfl ?_ ?_|refine s4 rfl ‹_› rfl ?_ ?_);first|exact tI|omega|simp only[oZ] at *;omega) |refine s2 rfl fun _ _hb=>?_ |refine sP rfl (hno) rfl ?_|(refine Ai rfl ?_;refine gA rfl ?_;first|refine gS (fun _ _=>AJ rfl rfl (by rfl) (by rfl)) ?_) |refine s3 rfl ?_ ?_<;>rintro rfl |refine aU rfl ?_ |refine Aa ?_)
  ((refine aC rfl ?_ ?_<;>rintro⟨⟩);all_goals try (simp at _hb;done))
  (repeat first |refine sN rfl ?_ |((first|refine sA rfl ?_ ?_|refine s4 rfl ‹_› rfl ?_ ?_);first|exact tI|omega|simp only[oZ] at *;omega) |refine s2 rfl fun _ _hb=>?_|(refine Ai rfl ?_;refine gA rfl ?_;first|refine gS (fun _ _=>AJ rfl rfl (by rfl) (by rfl)) ?_) |refine s3 rfl ?_ ?_<;>rintro rfl |refine aU rfl ?_ |refine Aa ?_)
  refine aR ⟨_,rfl,rfl⟩
end Go.Am
