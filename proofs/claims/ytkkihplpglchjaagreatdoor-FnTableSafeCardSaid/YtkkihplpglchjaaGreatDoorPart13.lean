/-
  A struct's literal with two slices of the call's own.
-/
import Derived.Test.YtkkihplpglchjaaGreatDoorPart12
import Derived.Test.YtkkihplpglchjaaGreatDoorPart9
import Derived.Test.YtkkihplpglchjaaGreatDoorPart11
import Derived.Test.YtkkihplpglchjaaGreatDoorPart10
set_option linter.constructorNameAsVariable false
set_option linter.unusedSimpArgs false
set_option linter.unusedVariables false
namespace Go.Am
open Go
section
variable {P:Program} {TB:Ba} {Γ:Ctx} {d:Option Tmp} {ty:TypeId} {pos:String} {af:Array Edge} {g:Option (Nat×Bool)} {f:Env} {σ:Ab} {nx:Nat}
variable {K:E→Ab→Nat→Prop}
theorem GF {t:TypeId} {z:List Value} {fl:List (Nat×Nat)} {parts:Array (Nat×Operand)} {es:List E} {qs:List (Nat×List C)} [hz:Bw P t z] [hf:DA P t fl] (p k e q k' e':Nat) (hp:z[p]? = some (.slice none 0 0)) (hp':z[q]? = some (.slice none 0 0)) (hpq:p≠q) (hes:Gw f (parts.toList.map (·.2))=some es) (hq:DE fl parts.toList es=some qs)
    (hok:z.all Ld=true) (hle:(qs.all fun x=>Nat.ble (x.1+x.2.length) z.length)=true) (hK:K (.a (B4 qs (((z.map zC).set p (.arr nx k 0 0)).set q (.arr (nx+1) k' 0 0)))) ((nx+1,.cells e' k' [])::(nx,.cells e k [])::σ) (nx+2)):BZ P TB Γ ⟨d,.build t parts,ty,pos,af,g⟩ f σ nx K:=
  Cy fun V ρ h1 h2 h3=>by
    subst h3
    obtain ⟨i,zv,hi,hzv,hzz⟩:=Fy hz.out
    obtain ⟨hi1,he1⟩:=h2.alloc (c:=0) (nl:=True) (w:=V.w) (ob:=.cells e k []) rfl rfl rfl rfl (Nat.le_refl _) (fun _ _=>rfl) (.inl ⟨by simp [Al],rfl⟩)
    obtain ⟨hi2,he2⟩:=hi1.alloc (c:=0) (nl:=True) (w:=V.w) (ob:=.cells e' k' []) rfl rfl rfl rfl (Nat.le_refl _) (fun _ _=>rfl) (.inl ⟨by simp [Al],rfl⟩)
    have he3:=he1.trans he2
    have hfo:=Cp (V:=Al (Al V V.w.heap.size 0 True V.w) V.w.heap.size 0 True V.w) (ρ:=ρ) parts.toList es qs (fun x hx e he=>(h1.get (by simp only [Op.operands];simpa using hx) he).ext he3) hes hq
    have hzr:Cm (Al (Al V V.w.heap.size 0 True V.w) V.w.heap.size 0 True V.w) (((z.map zC).set p (.arr V.nx k 0 0)).set q (.arr (V.nx+1) k' 0 0)) zv.cells:=by
      refine ⟨by rw [List.length_set,List.length_set,List.length_map,←hzz];simp,fun j c v hj hv=>?_⟩
      have hzj:z[j]? = some v:=by rw [←hzz,Array.getElem?_toList];exact hv
      by_cases hjq:q=j
      · subst hjq
        rw [hp'] at hzj
        injection hzj with hzj
        subst hzj
        rw [List.getElem?_set_self (by rw [List.length_set,List.length_map];exact (List.getElem?_eq_some_iff.1 hp').1)] at hj
        injection hj with hj
        subst hj
        exact Aw.nil (by simp [Al]) (by simp [Al])
      · rw [List.getElem?_set_ne hjq] at hj
        by_cases hjp:p=j
        · subst hjp
          rw [hp] at hzj
          injection hzj with hzj
          subst hzj
          rw [List.getElem?_set_self (by rw [List.length_map];exact (List.getElem?_eq_some_iff.1 hp).1)] at hj
          injection hj with hj
          subst hj
          exact Aw.nil (by simp [Al];omega) (by simp [Al])
        · rw [List.getElem?_set_ne hjp,List.getElem?_map,hzj] at hj
          injection hj with hj
          subst hj
          exact Hu (List.all_eq_true.1 hok v (List.mem_of_getElem? hzj))
    obtain ⟨cells,h4,h5⟩:=Ef _ _ _ _ hfo hzr (fun x hx=>by rw [List.length_set,List.length_set,List.length_map];exact FU _ _ hle x hx)
    have hb:=run_build (P:=P) (ρ:=ρ) (parts:=parts) (V:=V) hi hzv hf.out h4
    refine ⟨.agg cells,_,_,_,?_,he3,hi2,(show AX _ (.a _) _ from ⟨cells,rfl,h5⟩),hK⟩
    show ((do let v ←Instr.build t (parts.map fun (i,x)=>(i,ρ x));pure (Go.Next.value v):Sem Go.Next)).run P V.w=_
    simp only [Sem.run_bind,hb,Result.andThen_ok]
    rfl
end
end Go.Am
namespace Go.Am
open Go Go.Proofs
set_option maxHeartbeats 1000000
attribute [local irreducible] AR BZ Lex Bm Aj Spec
variable {TB:Ba}
theorem Lg {c:C} {L:W→Bool} {ok:W→Prop} (hc:FF Tryz.prog TB c L ok) (al:Int) (t:A3) (hf:JW ok (Bl al) t) (ht:Hz al 20012 t) (ho:A9 L (Bl al) t=none) :
    Pure Tryz.prog TB 72 [O2 al c,Cn t] (BC (A1 L al t)):=by
  have hr:=Dk c hc.Bc
  have hrl:=ht.rl
  have hcl:=ht.cl
  have hla:(Af al).length≤6:=AI al 6
  have hask:=ht.UC hf (by omega)
  have hnl:(A1 L al t).nx.length=t.rows.length:=by simp [A1]
  have hal:(A1 L al t).ac.length=t.rows.length:=by simp [A1]
  refine AP.PG (AP.ofM 3 (Nat.le_refl _) Tryz.func72 rfl rfl (by kernel_rfl) (Nat.le_of_ble_eq_true rfl) ?_);intro Γ hΓ
  (repeat first|refine aU rfl ?_)
  (refine pW rfl ?_ rfl (by rfl);refine E6 rfl rfl ?_)
  (refine Ag rfl ?_;refine Di (fun _ _=>Ek rfl rfl rfl) rfl ?_)
  (repeat first|refine tA rfl ?_ |refine aU rfl ?_ |refine Aa ?_)
  (refine pW rfl ?_ rfl (by rfl);refine Ac [] rfl rfl (EJ hc al t hask.1) ⟨rfl,by simp,by simp⟩ (by simp [Ds,E.AO,C.BE,C.AO,hr,eC]) trivial ?_;rintro x0 σ1 nx1 ⟨rfl,rfl,rfl⟩ _)
  (repeat first|refine tA rfl ?_ |refine aU rfl ?_ |refine Aa ?_)
  (refine pW rfl ?_ rfl (by rfl);refine GF 1 1 90 2 1 4 rfl rfl (by decide) rfl rfl (by rfl) (by rfl) ?_)
  (repeat first|refine sN rfl ?_ |refine tA rfl ?_ |refine aU rfl ?_ |refine Aa ?_)
  refine aB ?_
  refine Aj.BO (α:={k:Nat // k≤t.rows.length}) (fun ⟨k,hkl⟩=>[(2,.o (.ptr 0 2 0 0)),(3,.o (.ip (OC t))),(4,.o (.ptr 1 3 0 0)),(5,.o (.mp 2)),(6,.o (.ptr 3 3 0 0)),(19,.o (.d (AZ t.rows))),(20,eI .i64 t.rows.length),(21,eI .i64 k)]) (fun ⟨k,hkl⟩=>[(0,.cells 71 2 [[.d (iD al),c]]),(1,.cells 26 3 [[.d (iD 0),.d (.l []),.d (.l [])]]),(2,.mp (E5 (A5 L t t.rows.length))),(3,.cells 26 3 [[.d (iD al),.arr 4 1 0 k,.arr 5 1 0 k]]),(4,.cells 90 1 (((A1 L al t).nx.take k).map fun r=>[.d (E0 r)])),(5,.cells 4 1 (((A1 L al t).ac.take k).map fun b=>[.d (bD b)]))]) 6 (fun ⟨k,hkl⟩=>t.rows.length - k) (⟨0,by omega⟩) [0,1,2,5,3,4] (Hw hΓ rfl rfl) (by (simp[cX,zC,hΓ,hr,eC,Ab.AO,Cd,Hv,B4,Ae])) ?_;rintro ⟨k,hkl⟩;(try dsimp only)
  (repeat first|refine s2 rfl fun _ _hb=>?_ |refine aU rfl ?_ |refine Aa ?_)
  (refine aC rfl ?_ ?_<;>rintro ⟨⟩)
  · have hlt:k < t.rows.length:=by (simp only[oZ] at *;omega)
    obtain ⟨r,hx⟩:=get_some (l:=t.rows) (k:=k) hlt
    have hx':=get_map (g:=BH) hx
    have hxm:=List.mem_of_getElem? hx
    refine aK ?_
    refine aS (aB ?_)
    (repeat first|refine tM rfl ?_ |(refine s4 rfl ‹_› rfl ?_ ?_;omega) |refine aU rfl ?_ |refine Aa ?_)
    (refine pW rfl ?_ rfl (by rfl);refine N9 1 3 ?_)
    (repeat first|refine sN rfl ?_ |refine tM rfl ?_ |refine sP rfl (De al) rfl ?_ |refine aU rfl ?_ |refine Aa ?_)
    refine aB ?_
    refine Aj.BO (α:={j:Nat // j≤(Af al).length}) (fun ⟨j,hjl⟩=>[(2,.o (.ptr 0 2 0 0)),(3,.o (.ip (OC t))),(4,.o (.ptr 1 3 0 0)),(5,.o (.mp 2)),(6,.o (.ptr 3 3 0 0)),(19,.o (.d (AZ t.rows))),(20,eI .i64 t.rows.length),(21,eI .i64 k),(8,eT r),(9,.o (.arr 6 1 0 j)),(27,AW (Af al)),(28,eI .i64 (Af al).length),(29,eI .i64 j)]) (fun ⟨j,hjl⟩=>[(0,.cells 71 2 [[.d (iD al),c]]),(1,.cells 26 3 [[.d (iD 0),.d (.l []),.d (.l [])]]),(2,.mp (E5 (A5 L t t.rows.length))),(3,.cells 26 3 [[.d (iD al),.arr 4 1 0 k,.arr 5 1 0 k]]),(4,.cells 90 1 (((A1 L al t).nx.take k).map fun r=>[.d (E0 r)])),(5,.cells 4 1 (((A1 L al t).ac.take k).map fun b=>[.d (bD b)])),(6,.cells 3 1 (((Af al).take j).map fun l=>[.d (iD ((DW L t (r++[lb l]):Nat):Int))]))]) 7 (fun ⟨j,hjl⟩=>(Af al).length - j) (⟨0,by omega⟩) [0,1,2,3,4,5,6] (Hw hΓ rfl rfl) (by (simp[cX,zC,hΓ,hr,eC,Ab.AO,Cd,Hv])) ?_;rintro ⟨j,hjl⟩;(try dsimp only)
    (repeat first|refine s2 rfl fun _ _hb=>?_ |refine aU rfl ?_ |refine Aa ?_)
    (refine aC rfl ?_ ?_<;>rintro ⟨⟩)
    · have hjlt:j < (Af al).length:=by (simp only[oZ] at *;omega)
      obtain ⟨l,hl⟩:=get_some (l:=Af al) (k:=j) hjlt
      have hl':=get_map (g:=CC) hl
      have hlm:=List.mem_of_getElem? hl
      have hlb:=Bg hlm
      have hrb:=ht.onR r hxm
      have hm:=HP (TB:=TB) hc al t (r++[lb l]) (by omega) (fun x hx=>hask.2 r hxm _ (List.mem_map.2 ⟨l,hlm,rfl⟩) x hx) (fun y hy=>by have:=(ht.onC y hy).2;simp;omega)
      have hlk:=Td ho hxm hlm
      refine aK ?_
      refine aS (aB ?_)
      (repeat first|refine tA rfl ?_ |(refine s4 rfl ‹_› rfl ?_ ?_;omega) |refine aU rfl ?_ |refine Aa ?_)
      refine rG (Hf [13]) (by kernel_rfl) ?_
      (repeat first|(refine sA rfl ?_ ?_;first|exact tI|omega|simp only[oZ] at *;omega) |refine sP rfl (EG l hlb.1 (by omega)) rfl ?_|(refine Ag rfl ?_;refine gA rfl ?_;first| refine gS (fun _ _=>TR rfl (by omega) (by omega)) ?_))
      rw [VS hlb.1]
      (repeat first| (refine Ag rfl ?_;refine gA rfl ?_;first| refine gS (fun _ _=>Bb rfl rfl (by simp [E.Bc,C.BR,C.Bc,hc.Bc]) hm rfl) ?_|refine gQ (Vn rfl rfl rfl) (by rfl) ?_))
      (repeat first|refine tA rfl ?_)
      (refine pW rfl ?_ rfl (by rfl);refine Ax rfl rfl rfl (by first| (simp;done)|(simp;(omega))) rfl (by intro r hr;simp at hr;subst hr;rfl) (by rfl) (Nat.le_of_ble_eq_true rfl) (by simp;omega) ?_)
      (repeat first|(refine sA rfl ?_ ?_;first|exact tI|omega) |refine aU rfl ?_ |refine Aa ?_)
      rw [hlk]
      refine ⟨⟨j+1,by omega⟩,by dsimp only;(omega),[0,1,2,3,4,5,7],?_⟩
      simp[cX,zC,hΓ,hr,List.take_add_one,hl]
    · obtain rfl:j=(Af al).length:=by (simp only[oZ] at *;omega)
      have hok:=hf r ⟨r,hxm,[],.inl rfl,[],.inl rfl,by simp⟩
      have hnx:(A1 L al t).nx.take (k+1)=(A1 L al t).nx.take k++[(Af al).map fun l=>((DW L t (r++[lb l]):Nat):Int)]:=by
        rw [List.take_add_one];simp [A1,hx]
      have hac:(A1 L al t).ac.take (k+1)=(A1 L al t).ac.take k++[L r]:=by
        rw [List.take_add_one];simp [A1,hx]
      refine aE ?_
      rw [List.take_length]
      refine Aj.MC [6] [2,3,4,5,6,8,19,20,21] rfl [(9,AW ((Af al).map fun l=>((DW L t (r++[lb l]):Nat):Int)))] ⟨⟨_,rfl,.o (.full (by simp) rfl (by simp [Function.comp_def]) (by simp))⟩,trivial⟩ ?_;(try dsimp only[cA,cB])
      (repeat first|refine tA rfl ?_ |refine aU rfl ?_)
      (refine pW rfl ?_ rfl (by rfl);refine Ax rfl rfl rfl (by first| (simp;done)|(simp;(omega))) rfl (by intro r hr;simp at hr;subst hr;rfl) (by rfl) (Nat.le_of_ble_eq_true rfl) (by simp;omega) ?_)
      (repeat first|refine tA rfl ?_ |refine Aa ?_)
      refine rG (Hf [7,9]) (by kernel_rfl) ?_
      (repeat first|refine tA rfl ?_|(refine Ag rfl ?_;refine gA rfl ?_;first| refine gS (fun _ _=>hc.ask rfl rfl hok) ?_))
      (refine pW rfl ?_ rfl (by rfl);refine Ax rfl rfl rfl (by first| (simp;done)|(simp;(omega))) rfl (by intro r hr;simp at hr;subst hr;rfl) (by rfl) (Nat.le_of_ble_eq_true rfl) (by simp;omega) ?_)
      (repeat first|(refine sA rfl ?_ ?_;first|exact tI|omega) |refine aU rfl ?_ |refine Aa ?_)
      refine ⟨⟨k+1,by omega⟩,by dsimp only;(omega),[0,1,2,3,7,8],?_⟩
      simp[cX,zC,hΓ,hr,eC,Ab.AO,Cd,Hv,B4,Ae,hnx,hac]
  · obtain rfl:k=t.rows.length:=by (simp only[oZ] at *;omega)
    have ht1:(A1 L al t).nx.take t.rows.length=(A1 L al t).nx:=List.take_of_length_le (by simp [A1])
    have ht2:(A1 L al t).ac.take t.rows.length=(A1 L al t).ac:=List.take_of_length_le (by simp [A1])
    rw [ht1,ht2]
    refine aE ?_
    (repeat first|refine tM rfl ?_ |refine aU rfl ?_ |refine Aa ?_)
    refine Aj.settle [(4,.o (.ip [iD al,C1 (A1 L al t).nx,Ew (A1 L al t).ac]))] ⟨⟨_,rfl,.o (.box rfl (.cons .d (.cons (.full rfl (by simp [Function.comp_def]) (by simp [A1])) (.cons (.full rfl (by simp [Function.comp_def]) (by simp [A1])) .nil))))⟩,trivial⟩ ?_
    refine aR ⟨_,rfl,rfl⟩
theorem Ez (w:W) (i:Nat) (c:UInt8) (hc:w[((i:Nat):Int).toNat]? = some c) (hl:0≤(c.toNat:Int) - 97∧(c.toNat:Int) - 97 < 6):Pure Tryz.prog TB 84 [eT w,eI .i64 i] (eI .i64 ((c.toNat:Int) - 97)):=by
  refine eN Tryz.func84 rfl (by kernel_rfl) rfl ?_;intro Γ hΓ
  (repeat' first|(refine sA rfl ?_ ?_;first|exact tI|omega) |(refine s4 rfl ‹_› rfl ?_ ?_;omega) |refine s2 rfl fun _ _hb=>?_ |refine s3 rfl ?_ ?_<;>rintro rfl |refine aU rfl ?_ |refine Aa ?_|(refine aC rfl ?_ ?_<;>rintro ⟨⟩)|refine aK ?_|refine aE ?_|refine aB ?_|refine aR ⟨_,rfl,?_⟩)
  all_goals first
    | rfl
    | (exfalso;grind)
abbrev Jq (kn:Bool) (p:B6) (s:Sys) (q:B6) (al:Int):List D:=[bD kn,iD p.al,C1 p.nx,Ew p.ac,iD s.al,iD s.st,EF s.es,iD q.al,C1 q.nx,Ew q.ac,iD al]
theorem MO {ls:List UInt8} {w:W} (h:AV ls w) (k:Nat):AV ls (w.take k):=fun c hc=>h c (List.mem_of_mem_take hc)
theorem I6 {p:B6} {w:W} {k:Nat} {c:UInt8} (hc:w[k]? = some c) (q:Int):CP p q (w.take (k+1))=C7 p (CP p q (w.take k)).toNat ((c.toNat:Int) - 97):=by
  rw [List.take_add_one,hc,Ot];rfl
theorem UB {p:B6} (hp:A6 p=true) (s:Sys) (q:B6) (al:Int) (kn:Bool) (w:W) (hw:AV (Bl p.al) w) (hl:w.length≤1048576) :
    Pure Tryz.prog TB 106 [eT w,.o (.ip [.l (Lu p)]),.o (.ip (Jq kn p s q al))] (eB (LA p w)):=by
  have hph:=AT hp
  refine eN Tryz.func106 rfl (by kernel_rfl) rfl ?_;intro Γ hΓ
  (repeat first|refine tA rfl ?_ |refine aU rfl ?_ |refine Aa ?_)
  refine aB ?_
  refine aL (α:={k:Nat // k≤w.length}) [0,1,2,8] [] rfl rfl (fun ⟨k,hk⟩=>[(5,eI .i64 (CP p 0 (w.take k))),(9,eI .i64 k)]) (fun ⟨k,hk⟩=>[]) 0 (fun ⟨k,hk⟩=>w.length - k) (⟨0,by omega⟩) hΓ rfl (by (simp[cX,zC,hΓ]<;>rfl)) ?_;rintro ⟨k,hk⟩;(try dsimp only[cA,cB])
  have hr:=GK hp (w.take k) 0 (MO hw k) (by omega)
  by_cases hlt:k < w.length
  · obtain ⟨c,hc⟩:=get_some hlt
    have hc':w[((k:Nat):Int).toNat]? = some c:=by simpa using hc
    have hcl:=GB (hw c (List.mem_of_getElem? hc))
    have hla:=Ez (TB:=TB) w k c hc' hcl
    have ta:=Ni (a:=p) (q:=(CP p 0 (w.take k)).toNat) (by omega)
    have el:((((c.toNat:Int) - 97).toNat:Nat):Int)=(c.toNat:Int) - 97:=by omega
    have ra:=KQ (h:=fun l=>C7 p (CP p 0 (w.take k)).toNat l) hcl.1 (by omega)
    simp only [el] at ra
    have hst:=I6 (p:=p) hc 0
    (repeat first|refine s2 rfl fun _ _hb=>?_ |refine aU rfl ?_ |refine Aa ?_)
    (refine aC rfl ?_ ?_<;>rintro ⟨⟩)
    · (repeat' first|(refine sA rfl ?_ ?_;first|exact tI|omega) |(refine s4 rfl ‹_› rfl ?_ ?_;omega) |refine sP rfl (hla) rfl ?_|(refine Ag rfl ?_;refine gA rfl ?_;first| refine gS (fun _ _=>E9 rfl ra) ?_) |refine aU rfl ?_ |refine Aa ?_ |refine rE (by kernel_rfl) ?_|(refine aC rfl ?_ ?_<;>rintro ⟨⟩)|refine aK ?_|refine aE ?_|refine aB ?_|refine aR ⟨_,rfl,?_⟩)
      refine ⟨⟨k+1,by omega⟩,by dsimp only;(omega),[],?_⟩
      simp[cX,zC,hΓ,hst]
    · exfalso;(simp only[oZ] at *;omega)
  · obtain rfl:k=w.length:=by omega
    rw [List.take_length] at *
    obtain ⟨b,hb⟩:=get_some (l:=p.ac) (k:=(CP p 0 w).toNat) (by omega)
    have hb':(p.ac.map HB)[(CP p 0 w).toNat]? = some (HB b):=by simp [hb]
    have hbl:LA p w=b:=by unfold LA;simp [List.getD,hb]
    rw [hbl]
    (repeat first|refine s2 rfl fun _ _hb=>?_ |refine aU rfl ?_ |refine Aa ?_)
    (refine aC rfl ?_ ?_<;>rintro ⟨⟩)
    · exfalso;(simp only[oZ] at *;omega)
    · (repeat' first|refine tA rfl ?_ |(refine s4 rfl ‹_› rfl ?_ ?_;omega) |refine aU rfl ?_ |refine Aa ?_|(refine aC rfl ?_ ?_<;>rintro ⟨⟩)|refine aK ?_|refine aE ?_|refine aB ?_|refine aR ⟨_,rfl,?_⟩)
      rfl
theorem Hz.mono {al:Int} {b b':Nat} {t:A3} (h:Hz al b t) (hb:b≤b'):Hz al b' t:=⟨fun w hw=>⟨(h.onR w hw).1,Nat.le_trans (h.onR w hw).2 hb⟩,h.onC,h.rl,h.cl⟩
end Go.Am
namespace Go.Am
open Go
set_option linter.unusedVariables false
def Zw:Bool×List C→Option E
  | (false,[c])=>some (.o c)
  | (true,cs)=>some (.a cs)
  | _=>none
def P7 (f:Env) (σ:Ab) (t:Tmp) (ag:Bool) (n:Nat):Option (Bool×List C):=match f t with
  | some (.o (.d (.p cs)))=>match Nat.ble n cs.length with
    | true=>some (ag,(cs.take n).map .d)
    | false=>none
  | some (.o (.ptr id k i j))=>match look σ id with
    | some (.cells _ k' rows)=>match Nat.beq k k',nth rows i with
      | true,some r=>match Nat.ble (j+n) r.length with
        | true=>some (ag,(r.drop j).take n)
        | false=>none
      | _,_=>none
    | _=>none
  | _=>none
def RD (T:List (Nat×TI)) (f:Env) (σ:Ab):ResultVar→Option (Bool×List C)
  | .tmp t=>match f t with
    | some e=>Od e
    | none=>none
  | .cell t T'=>match (GP T T').ld with
    | some (true,n)=>P7 f σ t true n
    | some (false,1)=>P7 f σ t false 1
    | _=>none
def RE (T:List (Nat×TI)) (f:Env) (σ:Ab):List ResultVar→Option (List (Bool×List C))
  | []=>some []
  | r::rs=>match RD T f σ r,RE T f σ rs with
    | some x,some xs=>some (x::xs)
    | _,_=>none
def TY (T:List (Nat×TI)) (rs:Array ResultVar) (f:Env) (σ:Ab):Option E:=match rs.toList with
  | []=>some (.t [])
  | [r]=>match RD T f σ r with
    | some x=>Zw x
    | none=>none
  | rs=>match rs.length,RE T f σ rs with
    | 2,some xs=>some (.t xs)
    | 3,some xs=>some (.t xs)
    | 4,some xs=>some (.t xs)
    | _,_=>none
def RZ (T:List (Nat×TI)) (rs:Array ResultVar) (post:E→Ab→Nat→Prop):Exit→Env→Ab→Nat→Prop
  | .ret,f,σ,nx|.normal,f,σ,nx=>∃x,TY T rs f σ=some x∧post x σ nx
  | _,_,_,_=>False
section
variable {P:Program} {TB:Ba} {Γ:Ctx} {σ:Ab}
theorem LI {V:View} {f:Env} {a:Act} {t:Tmp} {T':TypeId} {ag:Bool} {n:Nat} {x:Bool×List C} (hi:Inv TB Γ V σ) (hl:Da P T' ag n) (h1n:ag=false→n=1) (hE:C8 V f a.tmps) (h:P7 f σ t ag n=some x) :
    ∃v,((do loadVar T' (←asAddr (a.tmps.getD t undef))):Sem Value).run P V.w=.ok v V.w∧Jv V x v:=by
  have key : ∃ (b o:Nat) (cs:List C) (vs:Nat→Value),a.tmps.getD t undef=.pointer (some ⟨b,o,none⟩)∧x=(ag,cs)∧cs.length=n∧∀(q:Nat) (c:C),cs[q]? = some c→V.w.cell? ⟨b,o+q,none⟩=some (vs q)∧Aw V c (vs q):=by
    unfold P7 at h
    split at h
    · rename_i ds hf
      split at h
      · rename_i hn
        have hn:=Nat.le_of_ble_eq_true hn
        injection h with h
        subst h
        have h3:Aw V (.d (.p ds)) (a.tmps.getD t undef):=hE t _ hf
        generalize a.tmps.getD t undef=v0 at h3
        obtain ⟨h3⟩:=h3
        cases h3 with
        | @p _ b o vs hb h1 h2=>
          refine ⟨b,o,_,vs,rfl,rfl,by simp;omega,fun q c hq=>?_⟩
          rw [List.getElem?_map,Option.map_eq_some_iff] at hq
          obtain ⟨dd,hd,rfl⟩:=hq
          rw [List.getElem?_take] at hd
          split at hd
          · exact ⟨h1 q dd hd,.d (h2 q dd hd)⟩
          · cases hd
      · cases h
    · rename_i id k i j hf
      split at h
      · rename_i T0 k' rows ho
        split at h
        · rename_i r hk hr
          have hk:=Nat.eq_of_beq_eq_true hk
          subst hk
          split at h
          · rename_i hn
            have hn:=Nat.le_of_ble_eq_true hn
            injection h with h
            subst h
            rw [JO] at hr
            have h3:Aw V (.ptr id k i j) (a.tmps.getD t undef):=hE t _ hf
            generalize a.tmps.getD t undef=v0 at h3
            cases h3 with
            | ptr hid hnl=>
              rcases hi.st.obj id _ ho with ⟨h4,_⟩|⟨_,cur,h4,h5,h6,h7,h8,h9⟩
              · exact absurd h4 hnl
              · refine ⟨V.ρ id,i*k+j,_,fun q=>cur.getD (i*k+j+q) undef,rfl,rfl,by simp;omega,fun q c hq=>?_⟩
                rw [List.getElem?_take] at hq
                split at hq
                · rw [List.getElem?_drop] at hq
                  obtain ⟨v,h10,h11⟩:=h9 i r (j+q) c hr hq
                  rw [←Nat.add_assoc] at h10
                  have e:cur.getD (i*k+j+q) undef=v:=by simp [h10]
                  dsimp only
                  rw [e]
                  exact ⟨by simp [World.cell?,h4,h10],h11⟩
                · cases hq
          · cases h
        · cases h
      · cases h
    · cases h
  obtain ⟨b,o,cs,vs,hv,rfl,hlen,hc⟩:=key
  rw [hv]
  cases ag with
  | false=>
    have hn1:=h1n rfl
    subst hn1
    match cs,hlen with
    | [c],_=>
      obtain ⟨h1,h2⟩:=hc 0 c rfl
      refine ⟨vs 0,?_,c,rfl,h2⟩
      rw [Nat.add_zero] at h1
      simp [asAddr,loadVar,(Bv hl.out V.w).1,h1,go_sem]
  | true =>
    refine ⟨.agg ((List.range n).map fun q=>vs q).toArray,?_,_,rfl,by simp [hlen],fun j c v hj hvv=>?_⟩
    · have:(loadCells ⟨b,o,none⟩ n).run P V.w=.ok ((List.range n).map fun q=>vs q).toArray V.w:=run_loadCells V.w _ n _ fun q hq=>by
        rw [Bi]
        exact (hc q cs[q] (List.getElem?_eq_getElem (by omega))).1
      unfold loadCells at this
      simp [asAddr,loadVar,(Bv hl.out V.w).1,(Bv hl.out V.w).2,this,go_sem]
    · have hq:j < n:=by have:=(List.getElem?_eq_some_iff.1 hj).1;omega
      have:v=vs j:=by simpa [hq] using hvv.symm
      subst this
      exact (hc j c hj).2
theorem TX [hT:Cf P] {V:View} {f:Env} {a:Act} {r:ResultVar} {x:Bool×List C} (hi:Inv TB Γ V σ) (hE:C8 V f a.tmps) (h:RD hT.T f σ r=some x) :
    ∃v,((match r with
      | .tmp t=>pure (a.tmps.getD t undef)
      | .cell b t=>do loadVar t (←asAddr (a.tmps.getD b undef))):Sem Value).run P V.w=.ok v V.w∧Jv V x v:=by
  have hty:=fun t=>CQ (P:=P) t hT.ok
  unfold RD at h
  split at h
  · rename_i t
    split at h
    · rename_i e he
      exact ⟨_,by simp [go_sem],Ej h (hE t e he)⟩
    · cases h
  · rename_i t T'
    split at h
    · rename_i n hl
      exact LI hi ((hty T').Jj hl) (fun h=>(by cases h)) hE h
    · rename_i hl
      exact LI hi ((hty T').Jj hl) (fun _=>rfl) hE h
    · cases h
theorem VK {V:View} {x:Bool×List C} {e:E} {v:Value} (h:Zw x=some e) (hr:Jv V x v):AX V e v:=by
  unfold Zw at h
  split at h
  · injection h with h;subst h
    obtain ⟨c,h1,h2⟩:=hr
    simp at h1;subst h1;exact h2
  · injection h with h;subst h;exact hr
  · cases h
theorem TZ [hT:Cf P] {fn:Func} {V:View} {f:Env} {a:Act} {x:E} (hi:Inv TB Γ V σ) (hE:C8 V f a.tmps) (h:TY hT.T fn.results f σ=some x):∃v,(results fn a.tmps).run P V.w=.ok v V.w∧AX V x v:=by
  obtain ⟨F,hF,hFr⟩:∃F:ResultVar→Sem Value,results fn a.tmps=(do let vs ←fn.results.mapM F;pure (if h:vs.size=1 then vs[0] else .tuple vs))∧∀r x,RD hT.T f σ r=some x→∃v,(F r).run P V.w=.ok v V.w∧Jv V x v:=
    ⟨fun r=>match r with
      | .tmp t=>pure (a.tmps.getD t undef)
      | .cell b t=>do loadVar t (←asAddr (a.tmps.getD b undef)),rfl,fun r x hr=>TX hi hE hr⟩
  have two:∀ {r:ResultVar} {rs:List ResultVar} {xs:List (Bool×List C)},RE hT.T f σ (r::rs)=some xs→∃y ys,xs=y::ys∧RD hT.T f σ r=some y∧RE hT.T f σ rs=some ys:=by
    intro r rs xs h
    unfold RE at h
    split at h
    · rename_i y ys h1 h2
      injection h with h;subst h;exact ⟨y,ys,rfl,h1,h2⟩
    · cases h
  have nil:∀ {xs:List (Bool×List C)},RE hT.T f σ []=some xs→xs=[]:=fun h=>by injection h with h;exact h.symm
  have key:∀l:List ResultVar,fn.results=l.toArray→TY hT.T l.toArray f σ=some x→∃v,(results fn a.tmps).run P V.w=.ok v V.w∧AX V x v:=by
    intro l hll h
    rw [hF,hll]
    unfold TY at h
    simp only at h
    match l with
    | []=>
      injection h with h;subst h
      exact ⟨.tuple #[],by simp [go_sem],#[],rfl,rfl,fun j x v hj=>by simp at hj⟩
    | [r]=>
      simp only at h
      split at h
      · rename_i y hy
        obtain ⟨v,h1,h2⟩:=hFr r y hy
        exact ⟨v,by simp [h1,go_sem],VK h h2⟩
      · cases h
    | [r1,r2]=>
      simp only [List.length_cons,List.length_nil] at h
      split at h
      · rename_i xs _ hx
        injection h with h;subst h
        obtain ⟨y1,ys,rfl,h1,hx⟩:=two hx
        obtain ⟨y2,ys,rfl,h2,hx⟩:=two hx
        have:=nil hx;subst this
        obtain ⟨v1,e1,t1⟩:=hFr _ _ h1
        obtain ⟨v2,e2,t2⟩:=hFr _ _ h2
        refine ⟨.tuple #[v1,v2],by simp [e1,e2,go_sem],_,rfl,rfl,fun j x v' hj hv=>?_⟩
        match j with
        | 0=>simp at hj hv;subst hj;subst hv;exact t1
        | 1=>simp at hj hv;subst hj;subst hv;exact t2
        | j+2=>simp at hj
      · omega
      · omega
      · cases h
    | [r1,r2,r3]=>
      simp only [List.length_cons,List.length_nil] at h
      split at h
      · omega
      · rename_i xs _ hx
        injection h with h;subst h
        obtain ⟨y1,ys,rfl,h1,hx⟩:=two hx
        obtain ⟨y2,ys,rfl,h2,hx⟩:=two hx
        obtain ⟨y3,ys,rfl,h3,hx⟩:=two hx
        have:=nil hx;subst this
        obtain ⟨v1,e1,t1⟩:=hFr _ _ h1
        obtain ⟨v2,e2,t2⟩:=hFr _ _ h2
        obtain ⟨v3,e3,t3⟩:=hFr _ _ h3
        refine ⟨.tuple #[v1,v2,v3],by simp [e1,e2,e3,go_sem],_,rfl,rfl,fun j x v' hj hv=>?_⟩
        match j with
        | 0=>simp at hj hv;subst hj;subst hv;exact t1
        | 1=>simp at hj hv;subst hj;subst hv;exact t2
        | 2=>simp at hj hv;subst hj;subst hv;exact t3
        | j+3=>simp at hj
      · omega
      · cases h
    | [r1,r2,r3,r4]=>
      simp only [List.length_cons,List.length_nil] at h
      split at h
      · omega
      · omega
      · rename_i xs _ hx
        injection h with h;subst h
        obtain ⟨y1,ys,rfl,h1,hx⟩:=two hx
        obtain ⟨y2,ys,rfl,h2,hx⟩:=two hx
        obtain ⟨y3,ys,rfl,h3,hx⟩:=two hx
        obtain ⟨y4,ys,rfl,h4,hx⟩:=two hx
        have:=nil hx;subst this
        obtain ⟨v1,e1,t1⟩:=hFr _ _ h1
        obtain ⟨v2,e2,t2⟩:=hFr _ _ h2
        obtain ⟨v3,e3,t3⟩:=hFr _ _ h3
        obtain ⟨v4,e4,t4⟩:=hFr _ _ h4
        refine ⟨.tuple #[v1,v2,v3,v4],by simp [e1,e2,e3,e4,go_sem],_,rfl,rfl,fun j x v' hj hv=>?_⟩
        match j with
        | 0=>simp at hj hv;subst hj;subst hv;exact t1
        | 1=>simp at hj hv;subst hj;subst hv;exact t2
        | 2=>simp at hj hv;subst hj;subst hv;exact t3
        | 3=>simp at hj hv;subst hj;subst hv;exact t4
        | j+4=>simp at hj
      · cases h
    | _::_::_::_::_::_=>
      simp only [List.length_cons] at h
      cases h
  exact key fn.results.toList (by simp) (by simpa using h)
theorem AP.Np [hT:Cf P] {g:FuncId} {fn:Func} {c:Code} {m:Nat} {σ:Ab} {nx:Nat} {args:List E} {post:E→Ab→Nat→Prop} (hm:m≤nx) (hf:P.funcs[g]? = some fn) (hb:fn.body=some c) (hname:(fn.name == "runtime.NumGoroutine")=false)
    (hargs:args.length≤fn.ntmps) (h:∀Γ:Ctx,Γ.V.nx=m→Aj P TB Γ fn.ntmps c (RZ hT.T fn.results post) (look (BN 0 args)) σ nx):AP P TB g m σ nx args post:=by
  refine ⟨⟨fn,hf,hname,by rw [hb];rfl⟩,?_⟩
  intro V vs S hg ha
  refine calls_of_wp hf hb ?_
  have hs:vs.size≤fn.ntmps:=by rw [ha.1];exact hargs
  have hi:Inv TB (DL V (IN V m) σ S) V σ:=
    ⟨rfl,rfl,rfl,fun _ _ _=>rfl,hg.iLt,fun _ h=>.inl h,Qi (by rw [hg.nx];exact hm),hg.st,fun id o ho hnl b hb=>.inr (.inl ⟨id,o,ho,hnl,hb⟩),hg.tabs,⟨S,hg.hid,fun b hb=>.inl hb,fun b hb=>.inr (.inr hb)⟩⟩
  have hr:BI TB (DL V (IN V m) σ S) fn.ntmps V (look (BN 0 args)) σ nx { tmps:=vs++Array.replicate (fn.ntmps - vs.size) undef,defers:=[] } := by
    refine ⟨?_,?_,by simp;omega,hi,hg.nx,rfl⟩
    · intro t e he
      obtain ⟨_,h2⟩:=B0 args 0 t e he
      have h2:args[t]? = some e:=by simpa using h2
      have hlt:t < vs.size:=by rw [ha.1];exact (List.getElem?_eq_some_iff.1 h2).1
      have h3:=ha.2 t e vs[t] h2 (Array.getElem?_eq_getElem hlt)
      simpa [Array.getElem?_append_left hlt,hlt] using h3
    · intro t e he
      obtain ⟨_,h2⟩:=B0 args 0 t e he
      have h2:args[t]? = some e:=by simpa using h2
      have:=(List.getElem?_eq_some_iff.1 h2).1
      omega
  refine wp_mono (h (DL V (IN V m) σ S) rfl V _ hr) ?_
  rintro e a' w' ⟨V',f',σ',rfl,hq,hr'⟩
  have fin:(∃x,TY hT.T fn.results f' σ'=some x∧post x σ' V'.nx)→a'.defers=[]∧∃v,(results fn a'.tmps).run P V'.w=.ok v V'.w∧∃V'' v' x σ'',Ending.returned v=.returned v'∧V''.w=V'.w∧Inv TB (DL V (IN V m) σ S) V'' σ''∧AX V'' x v'∧post x σ'' V''.nx:=by
    rintro ⟨x,hx,hp⟩
    obtain ⟨v,hv,he⟩:=TZ (P:=P) hr'.inv hr'.env hx
    exact ⟨hr'.defers,v,hv,V',v,x,σ',rfl,rfl,hr'.inv,he,hp⟩
  cases e with
  | normal=>exact fin hq
  | ret=>exact fin hq
  | exit id=>exact hq.elim
  | goto l=>exact hq.elim
  | panic ch=>exact hq.elim
  | outgrown=>exact hq.elim
theorem eG [hT:Cf P] {g:FuncId} {fn:Func} {c:Code} {nx:Nat} {args:List E} {post:E→Ab→Nat→Prop} (hf:P.funcs[g]? = some fn) (hb:fn.body=some c) (hname:(fn.name == "runtime.NumGoroutine")=false)
    (ha:Nat.ble args.length fn.ntmps=true) (h:∀Γ:Ctx,Γ.V.nx=nx→Aj P TB Γ fn.ntmps c (RZ hT.T fn.results post) (look (BN 0 args)) σ nx):Spec P TB g σ nx args post:=
  AP.PG (AP.Np (Nat.le_refl _) hf hb hname (Nat.le_of_ble_eq_true ha) h)
end
end Go.Am
namespace Go.Am
open Go Go.Proofs
set_option maxHeartbeats 1000000
attribute [local irreducible] AR BZ Lex Bm Aj Spec
variable {TB:Ba}
abbrev YH (kn:Bool) (p:B6) (s:Sys) (q:B6) (al:Int):E:=.a ((Jq kn p s q al).map .d)
theorem DO (p:B6) (s:Sys) (q:B6) (al:Int):Pure Tryz.prog TB 26 [YH true p s q al] (eI .i64 (if A6 p then p.al else -1)):=by
  refine eN Tryz.func26 rfl (by kernel_rfl) rfl ?_;intro Γ hΓ
  (repeat' first|refine tA rfl ?_ |refine s2 rfl fun _ _hb=>?_ |(refine sC rfl (BP p) ?_;intro _ _hb) |refine s3 rfl ?_ ?_<;>rintro rfl |refine aU rfl ?_ |refine Aa ?_|(refine aC rfl ?_ ?_<;>rintro ⟨⟩)|refine aK ?_|refine aE ?_|refine aB ?_|refine aR ⟨_,rfl,?_⟩)
  all_goals first
    | (show E.o _=E.o _;congr;grind)
    | (exfalso;simp at *;done)
abbrev XK (kn:Bool) (p:B6) (s:Sys) (q:B6) (al:Int):C:=.fn 106 [.ip [.l (Lu p)],.ip (Jq kn p s q al)]
theorem Wj {p:B6} (hp:A6 p=true) (s:Sys) (q:B6) (al:Int) (kn:Bool):FF Tryz.prog TB (XK kn p s q al) (LA p) (fun w=>AV (Bl p.al) w∧w.length≤1048576):=
  .of rfl fun w hw=>UB hp s q al kn w hw.1 hw.2
theorem Lp {p:B6} (hp:A6 p=true) (s:Sys) (q:B6) (al:Int):Pure Tryz.prog TB 57 [YH true p s q al] (.t [(true,[.d (iD p.al),XK true p s q al]),(false,[.d (bD true)])]):=by
  have hT:=DO (TB:=TB) p s q al
  rw [if_pos hp] at hT
  have h0:=AT hp
  have ha:=h0.1
  unfold Bq at ha
  simp only [decide_eq_true_eq] at ha
  have htb:=Hs (TB:=TB) p hp
  refine eG Tryz.func57 rfl (by kernel_rfl) rfl ?_;intro Γ hΓ
  (repeat first|refine tA rfl ?_ |refine sP rfl (hT) rfl ?_ |refine aU rfl ?_ |refine Aa ?_)
  refine aB ?_
  (repeat first|refine tA rfl ?_ |refine s2 rfl fun _ _hb=>?_ |refine aU rfl ?_ |refine Aa ?_)
  ((refine aC rfl ?_ ?_<;>rintro ⟨⟩);all_goals try (simp at _hb;done))
  · exfalso;(simp only[oZ] at *;omega)
  · (repeat first|refine tA rfl ?_ |refine aU rfl ?_ |refine Aa ?_)
    ((refine aC rfl ?_ ?_<;>rintro ⟨⟩);all_goals try (simp at _hb;done))
    refine aS ?_
    refine YU (by kernel_rfl) ?_;(repeat first|refine tA rfl ?_ |refine sP rfl (htb) rfl ?_);refine Aa ?_
    refine aS ?_
    refine Aj.MC [1] [1,2,3,4] rfl [(5,.o (.ip [.l (Lu p)]))] ⟨⟨_,rfl,.o (.ptr (by simp) rfl rfl rfl)⟩,trivial⟩ ?_;(try dsimp only[cA,cB])
    (repeat first|refine tA rfl ?_|(refine Ag rfl ?_;refine gA rfl ?_;first| refine gS (fun _ _=>AD rfl rfl (by rfl) (by rfl)) ?_) |refine aU rfl ?_ |refine Aa ?_)
    refine aR ⟨_,rfl,rfl⟩
theorem Lo {p:B6} (hp:A6 p=false) (s:Sys) (q:B6) (al:Int):Pure Tryz.prog TB 57 [YH true p s q al] (.t [(true,[.d (iD 0),.d (.v .nilFunc)]),(false,[.d (bD false)])]):=by
  have hT:=DO (TB:=TB) p s q al
  rw [if_neg (by simp [hp])] at hT
  refine eG Tryz.func57 rfl (by kernel_rfl) rfl ?_;intro Γ hΓ
  (repeat first|refine tA rfl ?_ |refine sP rfl (hT) rfl ?_ |refine aU rfl ?_ |refine Aa ?_)
  refine aB ?_
  (repeat first|refine tA rfl ?_ |refine s2 rfl fun _ _hb=>?_ |refine aU rfl ?_ |refine Aa ?_)
  ((refine aC rfl ?_ ?_<;>rintro ⟨⟩);all_goals try (simp at _hb;done))
  · (repeat first|refine tA rfl ?_|(refine Ag rfl ?_;refine gA rfl ?_;first| refine gS (fun _ _=>AD rfl rfl (by rfl) (by rfl)) ?_) |refine aU rfl ?_ |refine Aa ?_)
    refine aR ⟨_,rfl,rfl⟩
theorem HL (w:W) (i:Nat) (c:UInt8) (hc:w[((i:Nat):Int).toNat]? = some c):Pure Tryz.prog TB 103 [eT w,eI .i64 i] (eI .i64 ((c.toNat:Int) - 97)):=by
  have hb:=c.toNat_lt
  refine eN Tryz.func103 rfl (by kernel_rfl) rfl ?_;intro Γ hΓ
  (repeat' first|(refine sA rfl ?_ ?_;first|exact tI|omega) |(refine s4 rfl ‹_› rfl ?_ ?_;omega) |refine aU rfl ?_ |refine Aa ?_|(refine aC rfl ?_ ?_<;>rintro ⟨⟩)|refine aK ?_|refine aE ?_|refine aB ?_|refine aR ⟨_,rfl,?_⟩)
  rfl
theorem NW (n:Int) (h0:0≤n) (h1:n < 16):Pure Tryz.prog TB 153 [eI .i64 n] (eI .i64 ((2 ^ n.toNat:Nat):Int)):=by
  refine eN Tryz.func153 rfl (by kernel_rfl) rfl ?_;intro Γ hΓ
  (repeat' first|(refine sA rfl ?_ ?_;first|exact tI|omega)|(refine Ag rfl ?_;refine gA rfl ?_;first| refine gS (fun _ _=>TS rfl rfl h0 (QG h0 h1)) ?_) |refine aU rfl ?_ |refine Aa ?_|(refine aC rfl ?_ ?_<;>rintro ⟨⟩)|refine aK ?_|refine aE ?_|refine aB ?_|refine aR ⟨_,rfl,?_⟩)
  rfl
theorem FQ {c:UInt8}:Et c=decide (0≤(c.toNat:Int) - 97∧(c.toNat:Int) - 97 < 6):=by
  unfold Et
  rw [Bool.eq_iff_iff,decide_eq_true_eq,decide_eq_true_eq]
  omega
theorem Nm (w:W) (hl:w.length≤1099511627776):Pure Tryz.prog TB 176 [eT w] (eB (Er w)):=by
  by_cases h5:w.length≤50000
  · have hwk : Er w=w.all Et:=by unfold Er;simp [h5]
    rw [hwk]
    refine eN Tryz.func176 rfl (by kernel_rfl) rfl ?_;intro Γ hΓ
    (repeat first|refine tA rfl ?_ |refine s2 rfl fun _ _hb=>?_ |refine aU rfl ?_ |refine Aa ?_)
    (refine aC rfl ?_ ?_<;>rintro ⟨⟩)
    · exfalso;(simp only[oZ] at *;omega)
    refine aK ?_
    (repeat first|refine tA rfl ?_ |refine aU rfl ?_ |refine Aa ?_)
    refine aB ?_
    refine aL (α:={k:Nat // k≤w.length∧(w.take k).all Et=true}) [0] [] rfl rfl (fun ⟨k,hk,ha⟩=>[(3,eI .i64 k)]) (fun ⟨k,hk,ha⟩=>[]) 0 (fun ⟨k,hk,ha⟩=>w.length - k) (⟨0,by omega,rfl⟩) hΓ rfl (by (simp[cX,zC,hΓ])) ?_;rintro ⟨k,hk,ha⟩;(try dsimp only[cA,cB])
    by_cases hlt:k < w.length
    · obtain ⟨c,hc⟩:=get_some hlt
      have hc':w[((k:Nat):Int).toNat]? = some c:=by simpa using hc
      have hla:=HL (TB:=TB) w k c hc'
      have hcn:=FQ (c:=c)
      by_cases hcc:Et c=true
      · have hst:=ER hc ha hcc
        rw [hcn] at hcc
        simp only [decide_eq_true_eq] at hcc
        (repeat first|refine tA rfl ?_ |refine s2 rfl fun _ _hb=>?_ |refine aU rfl ?_ |refine Aa ?_)
        (refine aC rfl ?_ ?_<;>rintro ⟨⟩)
        · (repeat' first|(refine sA rfl ?_ ?_;first|exact tI|omega) |refine s2 rfl fun _ _hb=>?_ |refine sP rfl (hla) rfl ?_ |refine s3 rfl ?_ ?_<;>rintro rfl |refine aU rfl ?_ |refine Aa ?_|(refine aC rfl ?_ ?_<;>rintro ⟨⟩)|refine aK ?_|refine aE ?_|refine aB ?_|refine aR ⟨_,rfl,?_⟩)
          · exfalso;(simp only[oZ] at *;omega)
          · exfalso;(simp only[oZ] at *;omega)
          · refine ⟨⟨k+1,by omega,hst⟩,by dsimp only;(omega),[],?_⟩
            simp[cX,zC,hΓ]
        · exfalso;(simp only[oZ] at *;omega)
      · have hst:=Gq hc (f:=Et) (by simpa using hcc)
        rw [hcn] at hcc
        simp only [decide_eq_true_eq] at hcc
        (repeat first|refine tA rfl ?_ |refine s2 rfl fun _ _hb=>?_ |refine aU rfl ?_ |refine Aa ?_)
        (refine aC rfl ?_ ?_<;>rintro ⟨⟩)
        · (repeat' first|(refine sA rfl ?_ ?_;first|exact tI|omega) |refine s2 rfl fun _ _hb=>?_ |refine sP rfl (hla) rfl ?_ |refine s3 rfl ?_ ?_<;>rintro rfl |refine aU rfl ?_ |refine Aa ?_|(refine aC rfl ?_ ?_<;>rintro ⟨⟩)|refine aK ?_|refine aE ?_|refine aB ?_|refine aR ⟨_,rfl,?_⟩)
          · rw [hst]
          · rw [hst]
          · exfalso;(simp only[oZ] at *;omega)
        · exfalso;(simp only[oZ] at *;omega)
    · have hd:=EP ha (show w.length≤k by omega)
      (repeat first|refine tA rfl ?_ |refine s2 rfl fun _ _hb=>?_ |refine aU rfl ?_ |refine Aa ?_)
      (refine aC rfl ?_ ?_<;>rintro ⟨⟩)
      · exfalso;(simp only[oZ] at *;omega)
      · (repeat' first|refine tA rfl ?_ |refine aU rfl ?_ |refine Aa ?_|(refine aC rfl ?_ ?_<;>rintro ⟨⟩)|refine aK ?_|refine aE ?_|refine aB ?_|refine aR ⟨_,rfl,?_⟩)
        rw [hd]
  · have hwk:Er w=false:=by unfold Er;simp [h5]
    rw [hwk]
    refine eN Tryz.func176 rfl (by kernel_rfl) rfl ?_;intro Γ hΓ
    (repeat first|refine tA rfl ?_ |refine s2 rfl fun _ _hb=>?_ |refine aU rfl ?_ |refine Aa ?_)
    (refine aC rfl ?_ ?_<;>rintro ⟨⟩)
    · (repeat' first|refine tA rfl ?_ |refine aU rfl ?_ |refine Aa ?_|(refine aC rfl ?_ ?_<;>rintro ⟨⟩)|refine aK ?_|refine aE ?_|refine aB ?_|refine aR ⟨_,rfl,?_⟩)
      rfl
    · exfalso;(simp only[oZ] at *;omega)
abbrev ZG (n:Int) (b:Bool):E:=.t [(false,[.d (iD n)]),(false,[.d (bD b)])]
theorem RK {w:W} {k:Nat} {c:UInt8} (hc:w[k]? = some c):Hr (w.take (k+1))=Hr (w.take k) ||| 2 ^ (c.toNat - 97):=by
  unfold Hr
  rw [List.take_add_one,hc];simp
theorem Lf (w:W) (hl:w.length≤1099511627776):Pure Tryz.prog TB 140 [eT w] (if Er w then ZG (Hr w:Nat) true else ZG 0 false):=by
  have hwv:=Nm (TB:=TB) w hl
  by_cases hok:Er w=true
  · have hok2:=hok
    unfold Er at hok2
    simp only [Bool.and_eq_true,decide_eq_true_eq] at hok2
    rw [if_pos hok]
    refine eN Tryz.func140 rfl (by kernel_rfl) rfl ?_;intro Γ hΓ
    (repeat first|refine tA rfl ?_ |refine s2 rfl fun _ _hb=>?_ |(refine sC rfl (hwv) ?_;intro _ _hb) |refine aU rfl ?_ |refine Aa ?_)
    (refine aC rfl ?_ ?_<;>rintro ⟨⟩)
    · exfalso;simp at *;grind
    refine aK ?_
    (repeat first|refine tA rfl ?_ |refine aU rfl ?_ |refine Aa ?_)
    refine aB ?_
    refine aL (α:={k:Nat // k≤w.length}) [0] [] rfl rfl (fun ⟨k,hk⟩=>[(4,eI .i64 (Hr (w.take k):Nat)),(5,eI .i64 k)]) (fun ⟨k,hk⟩=>[]) 0 (fun ⟨k,hk⟩=>w.length - k) (⟨0,by omega⟩) hΓ rfl (by (simp[cX,zC,hΓ]<;>rfl)) ?_;rintro ⟨k,hk⟩;(try dsimp only[cA,cB])
    by_cases hlt:k < w.length
    · obtain ⟨c,hc⟩:=get_some hlt
      have hc':w[((k:Nat):Int).toNat]? = some c:=by simpa using hc
      have hla:=HL (TB:=TB) w k c hc'
      have hcc:=(List.all_eq_true.1 hok2.2) c (List.mem_of_getElem? hc)
      rw [FQ,decide_eq_true_eq] at hcc
      have hbt:=NW (TB:=TB) ((c.toNat:Int) - 97) hcc.1 (by omega)
      have hst:=RK hc
      have hs1:Hr (w.take k) < 64:=Nc (by rw [List.all_eq_true];exact fun x hx=>(List.all_eq_true.1 hok2.2) x (List.mem_of_mem_take hx)) (by omega)
      have ht:((c.toNat:Int) - 97).toNat=c.toNat - 97:=by omega
      have h26:2 ^ (c.toNat - 97) < 2 ^ 6:=Nat.pow_lt_pow_right (by omega) (by omega)
      have hor:=(UM hs1 h26).1
      rw [←hst] at hor
      rw [ht] at hbt
      (repeat first|refine tA rfl ?_ |refine s2 rfl fun _ _hb=>?_ |refine aU rfl ?_ |refine Aa ?_)
      (refine aC rfl ?_ ?_<;>rintro ⟨⟩)
      · (repeat' first|(refine sA rfl ?_ ?_;first|exact tI|omega) |refine sP rfl (hla) rfl ?_|refine sP rfl (hbt) rfl ?_ |refine aU rfl ?_ |refine Aa ?_|(refine aC rfl ?_ ?_<;>rintro ⟨⟩)|refine aK ?_|refine aE ?_|refine aB ?_|refine aR ⟨_,rfl,?_⟩)
        rw [hor]
        refine ⟨⟨k+1,by omega⟩,by dsimp only;(omega),[],?_⟩
        simp[cX,zC,hΓ]
      · exfalso;(simp only[oZ] at *;omega)
    · obtain rfl:k=w.length:=by omega
      rw [List.take_length]
      (repeat first|refine tA rfl ?_ |refine s2 rfl fun _ _hb=>?_ |refine aU rfl ?_ |refine Aa ?_)
      (refine aC rfl ?_ ?_<;>rintro ⟨⟩)
      · exfalso;(simp only[oZ] at *;omega)
      · (repeat' first|refine tA rfl ?_ |refine aU rfl ?_ |refine Aa ?_|(refine aC rfl ?_ ?_<;>rintro ⟨⟩)|refine aK ?_|refine aE ?_|refine aB ?_|refine aR ⟨_,rfl,?_⟩)
        rfl
  · rw [if_neg hok]
    refine eN Tryz.func140 rfl (by kernel_rfl) rfl ?_;intro Γ hΓ
    (repeat first|refine tA rfl ?_ |refine s2 rfl fun _ _hb=>?_ |(refine sC rfl (hwv) ?_;intro _ _hb) |refine aU rfl ?_ |refine Aa ?_)
    (refine aC rfl ?_ ?_<;>rintro ⟨⟩)
    · (repeat' first|refine tA rfl ?_ |refine aU rfl ?_ |refine Aa ?_|(refine aC rfl ?_ ?_<;>rintro ⟨⟩)|refine aK ?_|refine aE ?_|refine aB ?_|refine aR ⟨_,rfl,?_⟩)
      rfl
    · exfalso;simp at *;grind
theorem CZ (w:W) (al:Int) (hl:w.length≤1099511627776):Pure Tryz.prog TB 111 [eT w,eI .i64 al] (eB (within w al)):=by
  have h1:=Lf (TB:=TB) w hl
  have h2:=CU (TB:=TB) al
  by_cases hok:Er w=true
  · rw [if_pos hok] at h1
    unfold Er at hok
    simp only [Bool.and_eq_true,decide_eq_true_eq] at hok
    have hw:within w al=(Bq al && w.all (Hi al)):=by unfold within;simp [hok.1]
    rw [hw]
    refine eN Tryz.func111 rfl (by kernel_rfl) rfl ?_;intro Γ hΓ
    (repeat' first|refine tA rfl ?_ |refine s2 rfl fun _ _hb=>?_ |refine sP rfl (h1) rfl ?_|(refine sC rfl (h2) ?_;intro _ _hb) |refine s3 rfl ?_ ?_<;>rintro rfl |refine aU rfl ?_ |refine Aa ?_|(refine aC rfl ?_ ?_<;>rintro ⟨⟩)|refine aK ?_|refine aE ?_|refine aB ?_|refine aR ⟨_,rfl,?_⟩)
    all_goals first
      | (show E.o _=E.o _;congr;grind)
      | (rename_i ha b;rw [Vy hok.2 ha] at _hb;show E.o _=E.o _;rw [ha,_hb];rfl)
  · rw [if_neg hok] at h1
    have hw:within w al=false:=by
      rw [Bool.eq_false_iff]
      intro h
      unfold within at h
      simp only [Bool.and_eq_true,decide_eq_true_eq] at h
      exact hok (by unfold Er;simp [h.1,PM h.2.2])
    rw [hw]
    refine eN Tryz.func111 rfl (by kernel_rfl) rfl ?_;intro Γ hΓ
    (repeat' first|refine tA rfl ?_ |refine sP rfl (h1) rfl ?_|(refine sC rfl (h2) ?_;intro _ _hb) |refine aU rfl ?_ |refine Aa ?_|(refine aC rfl ?_ ?_<;>rintro ⟨⟩)|refine aK ?_|refine aE ?_|refine aB ?_|refine aR ⟨_,rfl,?_⟩)
    all_goals rfl
theorem Ck {w:W} {al:Int} (h:within w al=true):AV (Bl al) w:=by
  unfold within at h
  simp only [Bool.and_eq_true,decide_eq_true_eq] at h
  intro c hc
  have h1:=(List.all_eq_true.1 h.2.2) c hc
  unfold Hi Et at h1
  simp only [Bool.and_eq_true,decide_eq_true_eq] at h1
  refine List.mem_map.2 ⟨((c.toNat - 97:Nat):Int),EI.2 ⟨by omega,h1.2⟩,?_⟩
  unfold lb
  have e:97+((c.toNat - 97:Nat):Int).toNat=c.toNat:=by omega
  rw [e]
  simp
theorem Fp {w:W} {al:Int} (h:AV (Bl al) w) (hl:w.length≤50000) (ha:Bq al=true):within w al=true:=by
  unfold within
  simp only [Bool.and_eq_true,decide_eq_true_eq]
  refine ⟨hl,ha,List.all_eq_true.2 fun c hc=>?_⟩
  obtain ⟨l,hm,rfl⟩:=List.mem_map.1 (h c hc)
  have h1:=Bg hm
  have h2:=Pk h1.1 (by omega)
  unfold Hi Et
  simp only [Bool.and_eq_true,decide_eq_true_eq]
  have e:(lb l).toNat - 97=l.toNat:=by omega
  rw [e]
  exact ⟨by omega,h1.2.2⟩
theorem SZ {p:B6} (hp:A6 p=true) (w:W) (hw:AV (Bl p.al) w) (hl:w.length≤1099511627776):Pure Tryz.prog TB 171 [BC p,eI .i64 0,eT w] (eI .i64 (CP p 0 w)):=by
  have hph:=AT hp
  refine eN Tryz.func171 rfl (by kernel_rfl) rfl ?_;intro Γ hΓ
  (repeat first|refine tA rfl ?_ |refine aU rfl ?_ |refine Aa ?_)
  refine aB ?_
  refine aL (α:={k:Nat // k≤w.length}) [2,3] [] rfl rfl (fun ⟨k,hk⟩=>[(1,eI .i64 (CP p 0 (w.take k))),(7,eI .i64 k)]) (fun ⟨k,hk⟩=>[]) 0 (fun ⟨k,hk⟩=>w.length - k) (⟨0,by omega⟩) hΓ rfl (by (simp[cX,zC,hΓ]<;>rfl)) ?_;rintro ⟨k,hk⟩;(try dsimp only[cA,cB])
  have hr:=GK hp (w.take k) 0 (MO hw k) (by omega)
  by_cases hlt:k < w.length
  · obtain ⟨c,hc⟩:=get_some hlt
    have hc':w[((k:Nat):Int).toNat]? = some c:=by simpa using hc
    have hcl:=GB (hw c (List.mem_of_getElem? hc))
    have hla:=HL (TB:=TB) w k c hc'
    have hgo:=ME (TB:=TB) p hp (CP p 0 (w.take k)).toNat (by omega) ((c.toNat:Int) - 97) hcl.1 hcl.2
    have e:(((CP p 0 (w.take k)).toNat:Nat):Int)=CP p 0 (w.take k):=by omega
    rw [e] at hgo
    have hst:=I6 (p:=p) hc 0
    rw [←hst] at hgo
    (repeat first|refine tA rfl ?_ |refine s2 rfl fun _ _hb=>?_ |refine aU rfl ?_ |refine Aa ?_)
    (refine aC rfl ?_ ?_<;>rintro ⟨⟩)
    · (repeat' first|(refine sA rfl ?_ ?_;first|exact tI|omega) |refine sP rfl (hla) rfl ?_|refine sP rfl (hgo) rfl ?_ |refine aU rfl ?_ |refine Aa ?_ |refine rE (by kernel_rfl) ?_|(refine aC rfl ?_ ?_<;>rintro ⟨⟩)|refine aK ?_|refine aE ?_|refine aB ?_|refine aR ⟨_,rfl,?_⟩)
      refine ⟨⟨k+1,by omega⟩,by dsimp only;(omega),[],?_⟩
      simp[cX,zC,hΓ]
    · exfalso;(simp only[oZ] at *;omega)
  · obtain rfl:k=w.length:=by omega
    rw [List.take_length]
    (repeat first|refine tA rfl ?_ |refine s2 rfl fun _ _hb=>?_ |refine aU rfl ?_ |refine Aa ?_)
    (refine aC rfl ?_ ?_<;>rintro ⟨⟩)
    · exfalso;(simp only[oZ] at *;omega)
    · (repeat' first|refine tA rfl ?_ |refine aU rfl ?_ |refine Aa ?_|(refine aC rfl ?_ ?_<;>rintro ⟨⟩)|refine aK ?_|refine aE ?_|refine aB ?_|refine aR ⟨_,rfl,?_⟩)
      rfl
def Bp (p:B6) (w:W):Int:=if A6 p && within w p.al then CP p 0 w else -1
def FP (p:B6) (w:W):Bool:=A6 p && (within w p.al && LA p w)
theorem Lt (p:B6) (w:W) (hl:w.length≤1099511627776):Pure Tryz.prog TB 132 [BC p,eT w] (eI .i64 (Bp p w)):=by
  have h1:=Bt (TB:=TB) p
  have h2:=CZ (TB:=TB) w p.al hl
  by_cases hv:(A6 p && within w p.al)=true
  · have hs:Bp p w=CP p 0 w:=by unfold Bp;rw [if_pos hv]
    rw [hs]
    rw [Bool.and_eq_true] at hv
    have h3:=SZ (TB:=TB) hv.1 w (Ck hv.2) hl
    refine eN Tryz.func132 rfl (by kernel_rfl) rfl ?_;intro Γ hΓ
    (repeat' first|refine tA rfl ?_ |refine s2 rfl fun _ _hb=>?_ |(refine sC rfl (h1) ?_;intro _ _hb)|(refine sC rfl (h2) ?_;intro _ _hb)|refine sP rfl (h3) rfl ?_ |refine s3 rfl ?_ ?_<;>rintro rfl |refine aU rfl ?_ |refine Aa ?_|(refine aC rfl ?_ ?_<;>rintro ⟨⟩)|refine aK ?_|refine aE ?_|refine aB ?_|refine aR ⟨_,rfl,?_⟩)
    all_goals first
      | rfl
      | (exfalso;grind;done)
  · have hs:Bp p w = -1:=by unfold Bp;rw [if_neg hv]
    rw [hs]
    refine eN Tryz.func132 rfl (by kernel_rfl) rfl ?_;intro Γ hΓ
    (repeat' first|refine tA rfl ?_ |refine s2 rfl fun _ _hb=>?_ |(refine sC rfl (h1) ?_;intro _ _hb)|(refine sC rfl (h2) ?_;intro _ _hb) |refine s3 rfl ?_ ?_<;>rintro rfl |refine aU rfl ?_ |refine Aa ?_|(refine aC rfl ?_ ?_<;>rintro ⟨⟩)|refine aK ?_|refine aE ?_|refine aB ?_|refine aR ⟨_,rfl,?_⟩)
    all_goals first
      | rfl
      | (exfalso;grind;done)
theorem JX (p:B6) (w:W) (hl:w.length≤1099511627776):Pure Tryz.prog TB 100 [BC p,eT w] (eB (FP p w)):=by
  have h1:=Lt (TB:=TB) p w hl
  by_cases hv:(A6 p && within w p.al)=true
  · have hs:Bp p w=CP p 0 w:=by unfold Bp;rw [if_pos hv]
    rw [hs] at h1
    rw [Bool.and_eq_true] at hv
    have hph:=AT hv.1
    have hr:=GK hv.1 w 0 (Ck hv.2) (by omega)
    obtain ⟨b,hb⟩:=get_some (l:=p.ac) (k:=(CP p 0 w).toNat) (by omega)
    have hb':(p.ac.map HB)[(CP p 0 w).toNat]? = some (HB b):=by simp [hb]
    have ha:FP p w=b:=by unfold FP LA;simp [hv.1,hv.2,List.getD,hb]
    rw [ha]
    refine eN Tryz.func100 rfl (by kernel_rfl) rfl ?_;intro Γ hΓ
    (repeat' first|refine tA rfl ?_ |(refine s4 rfl ‹_› rfl ?_ ?_;omega) |refine s2 rfl fun _ _hb=>?_ |refine sP rfl (h1) rfl ?_ |refine s3 rfl ?_ ?_<;>rintro rfl |refine aU rfl ?_ |refine Aa ?_|(refine aC rfl ?_ ?_<;>rintro ⟨⟩)|refine aK ?_|refine aE ?_|refine aB ?_|refine aR ⟨_,rfl,?_⟩)
    all_goals first
      | rfl
      | (exfalso;(simp only[oZ] at *;omega))
  · have hs:Bp p w = -1:=by unfold Bp;rw [if_neg hv]
    rw [hs] at h1
    have ha:FP p w=false:=by unfold FP;grind
    rw [ha]
    refine eN Tryz.func100 rfl (by kernel_rfl) rfl ?_;intro Γ hΓ
    (repeat' first|refine tA rfl ?_ |refine s2 rfl fun _ _hb=>?_ |refine sP rfl (h1) rfl ?_ |refine s3 rfl ?_ ?_<;>rintro rfl |refine aU rfl ?_ |refine Aa ?_|(refine aC rfl ?_ ?_<;>rintro ⟨⟩)|refine aK ?_|refine aE ?_|refine aB ?_|refine aR ⟨_,rfl,?_⟩)
    all_goals first
      | rfl
      | (exfalso;(simp only[oZ] at *;omega))
structure Dx where
  kn:Bool
  p:B6
  s:Sys
  q:B6
  al:Int
abbrev Cg (t:Dx):E:=YH t.kn t.p t.s t.q t.al
theorem JC (t:Dx) (hk:t.kn=true):Pure Tryz.prog TB 60 [Cg t] (eI .i64 (if A6 t.p then t.p.al else -1)):=by
  obtain ⟨kn,p,s,q,al⟩:=t
  dsimp only at hk
  subst hk
  refine eN Tryz.func60 rfl (by kernel_rfl) rfl ?_;intro Γ hΓ
  (repeat' first|refine tA rfl ?_ |refine s2 rfl fun _ _hb=>?_ |(refine sC rfl (Bt p) ?_;intro _ _hb) |refine s3 rfl ?_ ?_<;>rintro rfl |refine aU rfl ?_ |refine Aa ?_|(refine aC rfl ?_ ?_<;>rintro ⟨⟩)|refine aK ?_|refine aE ?_|refine aB ?_|refine aR ⟨_,rfl,?_⟩)
  all_goals first
    | (show E.o _=E.o _;congr;grind)
    | (exfalso;simp at *;done)
theorem JY (t:Dx) (hk:t.kn=true) (w:W) (hl:w.length≤1099511627776):Pure Tryz.prog TB 101 [Cg t,eT w] (eB (FP t.p w)):=by
  obtain ⟨kn,p,s,q,al⟩:=t
  dsimp only at hk
  subst hk
  have h1:=JX (TB:=TB) p w hl
  refine eN Tryz.func101 rfl (by kernel_rfl) rfl ?_;intro Γ hΓ
  (repeat' first|refine tA rfl ?_ |refine sP rfl (h1) rfl ?_ |refine aU rfl ?_ |refine Aa ?_|(refine aC rfl ?_ ?_<;>rintro ⟨⟩)|refine aK ?_|refine aE ?_|refine aB ?_|refine aR ⟨_,rfl,?_⟩)
  all_goals rfl
end Go.Am
namespace Go.Am
open Go
set_option linter.unusedVariables false
def Bz (es:List Dp) (l:Int) (m:Nat):Nat:=es.foldl (fun a e=>if e.l=l∧m.testBit e.f.toNat=true then a ||| 2 ^ e.t.toNat else a) 0
theorem Gx {α:Type} {p:α→Prop} [DecidablePred p] {g:α→Nat} {j:Nat}:∀(l:List α) (a:Nat),(l.foldl (fun a e=>if p e then a ||| g e else a) a).testBit j=true↔a.testBit j=true∨∃e∈l,p e∧(g e).testBit j=true
  | [],a=>by simp
  | x :: l,a=>by
    rw [List.foldl_cons,Gx l]
    by_cases h:p x
    · rw [if_pos h,Nat.testBit_or,Bool.or_eq_true]
      constructor
      · rintro ((h1|h1)|⟨e,h1,h2⟩)
        · exact .inl h1
        · exact .inr ⟨x,by simp,h,h1⟩
        · exact .inr ⟨e,by simp [h1],h2⟩
      · rintro (h1|⟨e,h1,h2,h3⟩)
        · exact .inl (.inl h1)
        · rcases List.mem_cons.1 h1 with rfl|h1
          · exact .inl (.inr h3)
          · exact .inr ⟨e,h1,h2,h3⟩
    · rw [if_neg h]
      constructor
      · rintro (h1|⟨e,h1,h2⟩)
        · exact .inl h1
        · exact .inr ⟨e,by simp [h1],h2⟩
      · rintro (h1|⟨e,h1,h2,h3⟩)
        · exact .inl h1
        · rcases List.mem_cons.1 h1 with rfl|h1
          · exact absurd h2 h
          · exact .inr ⟨e,h1,h2,h3⟩
theorem Dv {es:List Dp} {l:Int} {m j:Nat}:(Bz es l m).testBit j=true↔∃e∈es,(e.l=l∧m.testBit e.f.toNat=true)∧e.t.toNat=j:=by
  unfold Bz
  rw [Gx]
  simp [Nat.testBit_two_pow]
structure B3 where
  s:Sys
  q:B6
  al:Int
def AQ (t:B3):Bool:=BB t.s && (A6 t.q && Bq t.al)
def Cb (t:B3):List Int:=(Af t.s.al).filter fun l=>!DK t.al l.toNat
def Cu (s:Sys) (l:Int) (m:Nat):Nat:=if DK s.al l.toNat then Bz s.es l m else m
abbrev PS:=Nat→Nat
def Ql (t:B3) (l:Int) (F:PS):PS:=fun p'=>(List.range t.q.nx.length).foldl (fun a p=>if C7 t.q p l=(p':Int) then a ||| Cu t.s l (F p) else a) 0
theorem JM {t:B3} {l:Int} {F:PS} {p' j:Nat}:(Ql t l F p').testBit j=true↔∃p,p < t.q.nx.length∧C7 t.q p l=(p':Int)∧(Cu t.s l (F p)).testBit j=true:=by
  unfold Ql
  rw [Gx]
  simp
inductive Nn (t:B3) (F0:PS):Nat→Nat→Prop
  | base {p j:Nat}:(F0 p).testBit j=true→Nn t F0 p j
  | step {p j:Nat} {e:Dp}:Nn t F0 p j→e∈t.s.es→e.l∈Cb t→e.f.toNat=j→Nn t F0 (C7 t.q p e.l).toNat e.t.toNat
open Classical in
noncomputable def OL (t:B3) (F0:PS):PS:=fun p=>(List.range 16).foldl (fun a j=>if Nn t F0 p j then a ||| 2 ^ j else a) 0
open Classical in
theorem Mw {t:B3} {F0:PS} {p j:Nat}:(OL t F0 p).testBit j=true↔j < 16∧Nn t F0 p j:=by
  unfold OL
  rw [Gx]
  simp only [Nat.zero_testBit,Bool.false_eq_true,false_or,List.mem_range,Nat.testBit_two_pow,decide_eq_true_eq]
  constructor
  · rintro ⟨e,h1,h2,rfl⟩;exact ⟨h1,h2⟩
  · rintro ⟨h1,h2⟩;exact ⟨j,h1,h2,rfl⟩
structure Cw (t:B3) (F:PS):Prop where
  lt:∀p,F p < 65536
  z:∀p,t.q.nx.length≤p→F p=0
theorem Gt {m:Nat} (h:∀j,m.testBit j=true→j < 16):m < 65536:=by
  have:m < 2 ^ 16:=Nat.lt_pow_two_of_testBit m fun i hi=>by
    cases hb:m.testBit i
    · rfl
    · have:=h i hb;omega
  omega
theorem HO {m j:Nat} (h:m < 65536) (hb:m.testBit j=true):j < 16:=by
  rcases Nat.lt_or_ge j 16 with h1|h1
  · exact h1
  · have:m.testBit j=false:=Nat.testBit_lt_two_pow (Nat.lt_of_lt_of_le h (Nat.pow_le_pow_right (n:=2) (by omega) h1))
    rw [this] at hb;cases hb
theorem Gu {m:Nat} (h:∀j,m.testBit j=false):m=0:=Nat.eq_of_testBit_eq fun j=>by rw [h j];simp
section
variable {t:B3} (ht:AQ t=true)
include ht set_option linter.unusedSectionVars false
theorem OE {e:Dp} (he:e∈t.s.es):0≤e.f∧e.f < 16∧0≤e.t∧e.t < 16∧0≤e.l∧e.l < 6:=by
  unfold AQ at ht
  simp only [Bool.and_eq_true] at ht
  have h1:=Cz ht.1 he
  have h2:=B2 ht.1
  unfold CO at h1
  grind
theorem Cj:A6 t.q=true:=by
  unfold AQ at ht
  simp only [Bool.and_eq_true] at ht
  exact ht.2.1
theorem Fk {l:Int} (h:l∈Cb t):0≤l∧l < 6∧DK t.s.al l.toNat=true:=by
  unfold Cb at h
  have h1:=Bg (List.mem_filter.1 h).1
  exact ⟨h1.1,by omega,h1.2.2⟩
theorem Gj {l:Int} {m:Nat} (hm:m < 65536):Cu t.s l m < 65536:=by
  unfold Cu
  split
  · refine Gt fun j hj=>?_
    obtain ⟨e,h1,_,rfl⟩:=Dv.1 hj
    have:=OE ht h1;omega
  · exact hm
theorem IP {l:Int} (hl:0≤l∧l < 6) {F:PS} (h:Cw t F):Cw t (Ql t l F):=by
  refine ⟨fun p=>Gt fun j hj=>?_,fun p hp=>Gu fun j=>?_⟩
  · obtain ⟨q,h1,h2,h3⟩:=JM.1 hj
    exact HO (Gj ht (h.lt q)) h3
  · cases hb:(Ql t l F p).testBit j
    · rfl
    · obtain ⟨q,h1,h2,h3⟩:=JM.1 hb
      have:=FX (Cj ht) h1 hl.1 hl.2
      omega
theorem Nn.lt {F0:PS} (h:Cw t F0) {p j:Nat} (hr:Nn t F0 p j):p < t.q.nx.length∧j < 16:=by
  induction hr with
  | @base p j hb=>
    refine ⟨?_,HO (h.lt p) hb⟩
    rcases Nat.lt_or_ge p t.q.nx.length with h1|h1
    · exact h1
    · rw [h.z p h1] at hb;simp at hb
  | @step p j e _ he hl _ ih=>
    have h1:=OE ht he
    have h2:=FX (Cj ht) ih.1 h1.2.2.2.2.1 h1.2.2.2.2.2
    omega
theorem Su {F0:PS} (h:Cw t F0):Cw t (OL t F0):=by
  refine ⟨fun p=>Gt fun j hj=>(Mw.1 hj).1,fun p hp=>Gu fun j=>?_⟩
  cases hb:(OL t F0 p).testBit j
  · rfl
  · have:=((Mw.1 hb).2.lt ht h).1
    omega
theorem Ss {F0 G:PS} (h0:Cw t F0) (hG:∀p,t.q.nx.length≤p→G p=0) (h1:∀p j,(F0 p).testBit j=true→(G p).testBit j=true) (h2:∀p j,(G p).testBit j=true→Nn t F0 p j)
    (h3:∀p l j,p < t.q.nx.length→l∈Cb t→(Bz t.s.es l (G p)).testBit j=true→(G (C7 t.q p l).toNat).testBit j=true):G=OL t F0:=by
  have key:∀ {p j:Nat},Nn t F0 p j→(G p).testBit j=true:=fun {p j} hr=>by
    induction hr with
    | base hb=>exact h1 _ _ hb
    | @step p j e hr he hl hf ih=>exact h3 p e.l _ (hr.lt ht h0).1 hl (Dv.2 ⟨e,he,⟨rfl,by rw [hf];exact ih⟩,rfl⟩)
  funext p
  refine Nat.eq_of_testBit_eq fun j=>?_
  rw [Bool.eq_iff_iff,Mw]
  exact ⟨fun h=>⟨((h2 p j h).lt ht h0).2,h2 p j h⟩,fun h=>key h.2⟩
end
def Iu:PS:=fun p=>if p=0 then 1 else 0
noncomputable def B9 (t:B3):PS:=OL t Iu
noncomputable def DQ (t:B3) (l:Int) (F:PS):PS:=OL t (Ql t l F)
def Ix (t:B3) (F:PS):Bool:=(List.range t.q.nx.length).any fun p=>decide (F p≠0) && !(t.q.ac.getD p false)
noncomputable def GY (t:B3):PS→W→Bool
  | F,[]=>!Ix t F
  | F,c::w=>!Ix t F && GY t (DQ t ((c.toNat:Int) - 97) F) w
noncomputable def LS (t:B3) (w:W):Bool:=GY t (B9 t) w
section
variable {t:B3} (ht:AQ t=true)
include ht
theorem Lb:Cw t Iu:=by
  have h:=AT (Cj ht)
  refine ⟨fun p=>by unfold Iu;split<;>omega,fun p hp=>by unfold Iu;rw [if_neg (by omega)]⟩
theorem I8:Cw t (B9 t):=Su ht (Lb ht)
theorem Kw {l:Int} (hl:0≤l∧l < 6) {F:PS} (h:Cw t F):Cw t (DQ t l F):=Su ht (IP ht hl h)
end
end Go.Am
namespace Go.Am
open Go Go.Proofs
set_option maxHeartbeats 1000000
attribute [local irreducible] AR BZ Lex Bm Aj Spec
variable {TB:Ba}
theorem Oy:∀ {l:List Int},l.Pairwise (· < ·)→(∀x∈l,0≤x)→∀j:Nat,(Bs l).testBit j=true↔(j:Int)∈l
  | [],_,_,j=>by simp [Bs]
  | x :: r,hp,h0,j=>by
    have hx:=h0 x (by simp)
    have hp2:=List.pairwise_cons.1 hp
    have ih:=Oy hp2.2 (fun y hy=>h0 y (by simp [hy])) j
    obtain ⟨m,h1,h2⟩:=I7 hp hx
    rw [h1,Nat.testBit_two_pow_mul]
    rw [h2,Nat.testBit_two_pow_mul] at ih
    rw [List.mem_cons,←ih]
    by_cases hj:j=x.toNat
    · subst hj
      simp
      omega
    · have hne:¬(j:Int)=x:=by omega
      have hb:x.toNat≤j→(2*m+1).testBit (j - x.toNat)=(2*m).testBit (j - x.toNat):=fun hle=>by
        obtain ⟨i,hi⟩:∃i,j - x.toNat=i+1:=⟨j - x.toNat - 1,by omega⟩
        rw [hi,Nat.testBit_succ,Nat.testBit_succ]
        congr 1;omega
      by_cases hle:x.toNat≤j
      · rw [hb hle];simp [hne]
      · simp [hle,hne]
def Db (m k:Nat):List Int:=((List.range k).filter (m.testBit ·)).map Int.ofNat
theorem ND (m k:Nat):Db m (k+1)=Db m k++if m.testBit k then [(k:Int)] else []:=by
  unfold Db
  rw [List.range_succ,List.filter_append,List.map_append]
  cases h:m.testBit k<;>simp [h]
theorem Ml (m:Nat):∀k,Bs (Db m k)=m % 2 ^ k
  | 0=>by simp [Db,Bs,Nat.mod_one]
  | k+1=>by
    rw [ND,KV,Ml m k,Nat.pow_succ,Nat.mod_mul,Nat.testBit_eq_decide_div_mod_eq]
    by_cases h:m / 2 ^ k % 2=1
    · rw [h];simp [Bs]
    · rw [show m / 2 ^ k % 2=0 by omega];simp [Bs]
theorem Lh (m k:Nat):(Db m k).Pairwise (· < ·):=by
  unfold Db
  rw [List.pairwise_map]
  exact (List.pairwise_lt_range.filter _).imp fun h=>by simpa using h
theorem Iy {m k:Nat} {x:Int} (h:x∈Db m k):0≤x∧x < k∧m.testBit x.toNat=true:=by
  unfold Db at h
  obtain ⟨n,hn,rfl⟩:=List.mem_map.1 h
  obtain ⟨h1,h2⟩:=List.mem_filter.1 hn
  have:=List.mem_range.1 h1
  exact ⟨by simp,by simp;omega,by simpa using h2⟩
theorem Mt {m:Nat} (h:m < 65536):m=Bs (Db m 16):=by rw [Ml];omega
def Ls (es:List Dp) (l:Int) (xs:List Int):Nat:=xs.foldl (fun a x=>a ||| Bs (K5 es x.toNat l.toNat)) 0
theorem KE {s:Sys} (hs:BB s=true) {l:Int} {j:Nat}:∀ {xs:List Int} {a:Nat},(xs.foldl (fun a x=>a ||| Bs (K5 s.es x.toNat l.toNat)) a).testBit j=true↔a.testBit j=true∨∃x∈xs,(j:Int)∈K5 s.es x.toNat l.toNat
  | [],a=>by simp
  | x::xs,a=>by
    rw [List.foldl_cons,KE hs,Nat.testBit_or,Bool.or_eq_true]
    have h1:=Ep hs s.es.length x.toNat l.toNat
    rw [List.take_length] at h1
    have h2:=Oy h1 (fun y hy=>(K6 hs (k:=s.es.length) (by rw [List.take_length];exact hy)).1) j
    rw [h2]
    simp only [List.mem_cons,exists_eq_or_imp,or_assoc]
theorem Vj {s:Sys} (hs:BB s=true) {l:Int} (hl:0≤l) {m:Nat} (hm:m < 65536):Ls s.es l (Db m 16)=Bz s.es l m:=by
  refine Nat.eq_of_testBit_eq fun j=>?_
  rw [Bool.eq_iff_iff]
  unfold Ls
  rw [KE hs,Dv]
  simp only [Nat.zero_testBit,Bool.false_eq_true,false_or]
  constructor
  · rintro ⟨x,hx,hj⟩
    obtain ⟨h1,h2,h3⟩:=Iy hx
    unfold K5 at hj
    obtain ⟨e,he,het⟩:=List.mem_map.1 hj
    obtain ⟨he1,he2⟩:=List.mem_filter.1 he
    simp only [Bool.and_eq_true,decide_eq_true_eq] at he2
    exact ⟨e,he1,⟨by omega,by rw [show e.f.toNat=x.toNat by omega];exact h3⟩,by omega⟩
  · rintro ⟨e,he,⟨h1,h2⟩,h3⟩
    have hb:=Cz hs he
    unfold CO at hb
    simp only [Bool.and_eq_true,decide_eq_true_eq] at hb
    have hf:=HO hm h2
    refine ⟨e.f,?_,?_⟩
    · unfold Db
      exact List.mem_map.2 ⟨e.f.toNat,List.mem_filter.2 ⟨List.mem_range.2 hf,h2⟩,by simp;omega⟩
    · unfold K5
      refine List.mem_map.2 ⟨e,List.mem_filter.2 ⟨he,?_⟩,by omega⟩
      simp only [Bool.and_eq_true,decide_eq_true_eq]
      omega
theorem Vk {s:Sys} (hs:BB s=true) {l:Int} {xs:List Int}:Ls s.es l xs < 65536:=Gt fun j hj=>by
  unfold Ls at hj
  rw [KE hs] at hj
  simp only [Nat.zero_testBit,Bool.false_eq_true,false_or] at hj
  obtain ⟨x,_,hx⟩:=hj
  have:=K6 hs (k:=s.es.length) (by rw [List.take_length];exact hx)
  omega
theorem JK {a b:Nat} (ha:a < 2 ^ 62) (hb:b < 2 ^ 62):Ri .i64 (a:Nat) (b:Nat)=((a ||| b:Nat):Int):=by
  have h0:a ||| b < 2 ^ 62:=Nat.or_lt_two_pow ha hb
  unfold Ri
  have h1:(BitVec.ofInt IntKind.i64.bits (a:Int) ||| BitVec.ofInt IntKind.i64.bits (b:Int)).toNat=a ||| b:=by
    have e:IntKind.i64.bits=64:=rfl
    rw [e]
    simp only [BitVec.toNat_or,BitVec.ofInt_natCast,BitVec.toNat_ofNat]
    rw [Nat.mod_eq_of_lt (by omega),Nat.mod_eq_of_lt (by omega)]
  rw [h1]
  exact IntWalk.i64_in _ (by omega)
theorem VC [DT TB] {s:Sys} (hs:BB s=true) {l:Int} (hl:0≤l∧l < 6) {m:Nat} (hm:m < 65536):Pure Tryz.prog TB 201 [.o (.ip (Ei s.es)),eI .i64 (m:Nat),eI .i64 l] (eI .i64 (Bz s.es l m:Nat)):=by
  rw [←Vj hs hl.1 hm]
  rw [Mt hm]
  have hb:∀x∈Db m 16,0≤x∧x < 16:=fun x hx=>⟨(Iy hx).1,(Iy hx).2.1⟩
  have hp:=Lh m 16
  rw [←Mt hm]
  conv=>arg 4;rw [Mt hm]
  generalize Db m 16=xs at *
  refine eG Tryz.func201 rfl (by kernel_rfl) rfl ?_;intro Γ hΓ
  (repeat first|refine tA rfl ?_ |refine aU rfl ?_ |refine Aa ?_)
  refine aB ?_
  refine aL (α:={k:Nat // k≤xs.length}) [0,2] [] rfl rfl (fun ⟨k,hk⟩=>[(1,eI .i64 (Bs (xs.drop k):Nat)),(7,eI .i64 (Ls s.es l (xs.take k):Nat))]) (fun ⟨k,hk⟩=>[]) 0 (fun ⟨k,hk⟩=>xs.length - k) (⟨0,by omega⟩) hΓ rfl (by (simp[cX,zC,hΓ]<;>rfl)) ?_;rintro ⟨k,hk⟩;(try dsimp only[cA,cB])
  by_cases hkl:k < xs.length
  · obtain ⟨x,hx⟩:=get_some hkl
    have hd:=CB hx
    have hxb:=hb x (List.mem_of_getElem? hx)
    have hpd:(x::xs.drop (k+1)).Pairwise (· < ·):=by rw [←hd];exact hp.sublist (List.drop_sublist _ _)
    have hlt:Bs (x::xs.drop (k+1)) < 2 ^ 16:=by
      refine JT hpd fun y hy=>?_
      rw [←hd] at hy;exact hb y (List.mem_of_mem_drop hy)
    have hps:=KX (x:=x) (l:=xs.drop (k+1))
    have hct:=Ub hpd hxb.1 (by omega)
    have hia:=Rh hpd hxb.1 (by omega)
    rw [←hd] at hlt hps hct hia
    have htz:=YI (TB:=TB) (Bs (xs.drop k)) (by omega) (by omega)
    rw [hct] at htz
    have ex:((x.toNat:Nat):Int)=x:=by omega
    rw [ex] at htz
    have hto:=Ep hs s.es.length x.toNat l.toNat
    rw [List.take_length] at hto
    have hs2:Bs (K5 s.es x.toNat l.toNat) < 65536:=JT (t:=16) hto fun y hy=>K6 hs (k:=s.es.length) (by rw [List.take_length];exact hy)
    have hs1:Ls s.es l (xs.take k) < 65536:=Vk hs
    have hor:=JK (a:=Ls s.es l (xs.take k)) (b:=Bs (K5 s.es x.toNat l.toNat)) (by omega) (by omega)
    have hst:Ls s.es l (xs.take (k+1))=Ls s.es l (xs.take k) ||| Bs (K5 s.es x.toNat l.toNat):=by unfold Ls;rw [List.take_add_one,hx,List.foldl_append];rfl
    rw [←hst] at hor
    (repeat first|refine tA rfl ?_ |refine s2 rfl fun _ _hb=>?_ |refine aU rfl ?_ |refine Aa ?_)
    ((refine aC rfl ?_ ?_<;>rintro ⟨⟩);all_goals try(exfalso;(simp only[oZ] at *;omega)))
    refine aK ?_
    refine aS (aB ?_)
    refine rG (Hf []) (by kernel_rfl) ?_
    (repeat first|(refine sA rfl ?_ ?_;first|exact tI|omega) |refine sP rfl (htz) rfl ?_|(refine Ag rfl ?_;refine gA rfl ?_;first| refine gS (fun _ _=>E9 rfl (WI hxb hl)) ?_) |refine aU rfl ?_ |refine Aa ?_)
    refine ⟨⟨k+1,by omega⟩,by dsimp only;(omega),[],?_⟩
    simp[cX,zC,hΓ,hor,hia]
  · obtain rfl:k=xs.length:=by omega
    rw [List.take_length]
    (repeat first|refine tA rfl ?_ |refine s2 rfl fun _ _hb=>?_ |refine aU rfl ?_ |refine Aa ?_)
    (refine aC rfl ?_ ?_<;>rintro ⟨⟩)
    · exfalso
      rw [List.drop_length] at _hb
      simp [Bs] at _hb
    refine aE ?_
    (repeat first|refine tA rfl ?_ |refine aU rfl ?_ |refine Aa ?_)
    (subst_vars;exact aR ⟨_,rfl,rfl⟩)
end Go.Am
