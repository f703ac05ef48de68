/-
  Is a word safe: walked; the answers of a task's oracle.
-/
import Derived.Test.YtkkihplpglchjaaGreatDoorPart15
import Derived.Test.YtkkihplpglchjaaGreatDoorPart13
import Derived.Test.YtkkihplpglchjaaGreatDoorPart11
import Derived.Test.YtkkihplpglchjaaGreatDoorPart10
set_option linter.constructorNameAsVariable false
set_option linter.unusedSimpArgs false
set_option linter.unusedVariables false
namespace Go.Am
open Go Go.Proofs
set_option maxHeartbeats 1000000
attribute [local irreducible] AR BZ Lex Bm Aj Spec
variable {TB:Ba}
def Jd (t:B3) (ok:W→Prop) (m:EE):Prop:=GQ t ok m∧m.F[0]? = some (B9 t)
theorem Nb [DT TB] {t:B3} {ok:W→Prop} (ht:AQ t=true) (hfew:VL t ok) {m0:EE} (hm0:Jd t ok m0) {w:W} (how:ok w) (hw:∀c∈w,0≤(c.toNat:Int) - 97∧(c.toNat:Int) - 97 < 6) (hwl:w.length≤1048576) :
    AP Tryz.prog TB 108 1 (JB t m0) 5 [.o (.ptr 0 14 0 0),eT w] (fun x σ nx=>x=eB (LS t w)∧nx=5∧∃m,Jd t ok m∧σ=JB t m):=by
  have hdr:w.drop 0=w:=rfl
  refine AP.AO (AP.Np (m:=1) (Nat.le_of_ble_eq_true rfl) Tryz.func108 rfl (by kernel_rfl) (Nat.le_of_ble_eq_true rfl) ?_);intro Γ hΓ
  (repeat first|refine tA rfl ?_ |refine aU rfl ?_ |refine Aa ?_)
  refine aB ?_
  refine aL (α:={x:Nat×Nat×EE // x.1≤w.length∧Jd t ok x.2.2∧∃F,x.2.2.F[x.2.1]? = some F∧GY t F (w.drop x.1)=LS t w∧F=KS t (B9 t) (w.take x.1)}) [0,1] [] rfl rfl (fun s=>[(5,eI .i64 s.1.2.1),(6,eI .i64 s.1.1)]) (fun s=>JB t s.1.2.2) 5 (fun s=>w.length - s.1.1) (⟨⟨0,0,m0⟩,by simp,hm0,B9 t,hm0.2,rfl,rfl⟩) hΓ rfl (by (simp[cX,zC,hΓ,AE])) ?_;rintro ⟨⟨i,n,m⟩,hi,hm,F,hF,hs,hrn⟩;(try dsimp only[cA,cB])
  have hi:i≤w.length:=hi
  have hm:Jd t ok m:=hm
  have hrn:F=KS t (B9 t) (w.take i):=hrn
  have hF:m.F[n]? = some F:=hF
  have hs:GY t F (w.drop i)=LS t w:=hs
  have hu:=hm.1.un n F hF
  have hul:=(List.getElem?_eq_some_iff.1 hu).1
  have hu':(m.un.map AH)[0+((n:Nat):Int).toNat]? = some (AH (Ix t F)):=by rw [Nat.zero_add,Int.toNat_natCast];simp [hu]
  by_cases hlt:i < w.length
  · obtain ⟨c,hc⟩:=get_some hlt
    have hc':w[((i:Nat):Int).toNat]? = some c:=by simpa using hc
    have hcl:=hw c (List.mem_of_getElem? hc)
    have hla:=Ez (TB:=TB) w i c hc' hcl
    have hd:=CB hc
    have hrn1:DQ t ((c.toNat:Int) - 97) F=KS t (B9 t) (w.take (i+1)):=by
      rw [List.take_add_one,hc,Ov,←hrn];rfl
    obtain ⟨m1,j,hm1,hle,hj,haf⟩:=Se (TB:=TB) ht hfew hm.1 hF hcl (.inr ⟨w.take (i+1),w.drop (i+1),by rw [List.take_append_drop];exact how,hrn1⟩)
    rw [hd,GY] at hs
    generalize Ix t F=b at *
    (repeat' first|(refine sA rfl ?_ ?_;first|exact tI|omega) |refine t4 rfl ‹_› rfl ?_ |refine s2 rfl fun _ _hb=>?_ |refine s3 rfl ?_ ?_<;>rintro rfl |refine aU rfl ?_ |refine Aa ?_|(refine aC rfl ?_ ?_<;>rintro ⟨⟩));all_goals try contradiction
    all_goals first| (exfalso;(simp only[oZ] at *;omega);done)|skip
    · have hb:b=false:=by simpa using _hb
      subst hb
      refine aK ?_
      refine aS (aB ?_)
      (repeat first|refine tA rfl ?_ |refine sP rfl (hla) rfl ?_ |refine aU rfl ?_)
      (refine pW rfl ?_ rfl (by rfl);refine Bo [0,1,2,3,4] rfl rfl 1 (haf) (by decide) ⟨rfl,by decide,by decide⟩ rfl (by simp[cX,zC,hΓ,AE]) ?_;rintro x0 σ1 nx1 ⟨rfl,rfl,rfl⟩ _)
      (repeat first|refine tA rfl ?_)
      refine Aa ?_
      (repeat first|(refine sA rfl ?_ ?_;first|exact tI|omega) |refine aU rfl ?_ |refine Aa ?_)
      refine ⟨⟨⟨i+1,j,m1⟩,by omega,⟨hm1,hle 0 _ hm.2⟩,_,hj,by simpa using hs,hrn1⟩,by dsimp only;(omega),[0,5,6,7,8],?_⟩
      simp[cX,zC,hΓ,AE]
    · have hb:b=true:=by simpa using _hb
      subst hb
      have hs:LS t w=false:=by simpa using hs.symm
      rw [hs]
      refine aE ?_
      (repeat first|(refine sA rfl ?_ ?_;first|exact tI|omega) |refine t4 rfl ‹_› rfl ?_ |refine s2 rfl fun _ _hb=>?_ |refine aU rfl ?_ |refine Aa ?_)
      refine aR ⟨_,rfl,[0,1,2,3,4],eB false,JB t m,⟨by intro i hi;match i with|0=>rfl,by decide⟩,by subst_vars;rfl,by (simp[cX,zC,hΓ,AE]),rfl,rfl,m,hm,rfl⟩
  · obtain rfl:i=w.length:=by omega
    rw [List.drop_length,GY] at hs
    rw [←hs]
    (repeat' first|(refine sA rfl ?_ ?_;first|exact tI|omega) |refine t4 rfl ‹_› rfl ?_ |refine s2 rfl fun _ _hb=>?_ |refine s3 rfl ?_ ?_<;>rintro rfl |refine aU rfl ?_ |refine Aa ?_|(refine aC rfl ?_ ?_<;>rintro ⟨⟩));all_goals try contradiction
    all_goals first| (exfalso;(simp only[oZ] at *;omega);done)|skip
    refine aE ?_
    (repeat first|(refine sA rfl ?_ ?_;first|exact tI|omega) |refine t4 rfl ‹_› rfl ?_ |refine s2 rfl fun _ _hb=>?_ |refine aU rfl ?_ |refine Aa ?_)
    refine aR ⟨_,rfl,[0,1,2,3,4],eB (!Ix t F),JB t m,⟨by intro i hi;match i with|0=>rfl,by decide⟩,by subst_vars;rfl,by (simp[cX,zC,hΓ,AE]),rfl,rfl,m,hm,rfl⟩
def Jp (t:B3) (ok:W→Prop):Hid:=⟨{m:EE // Jd t ok m},fun s=>JB t s.1,5⟩
theorem Ua {tabs:List (Nat×Obj)} [DT ⟨tabs,none⟩] {t:B3} {ok:W→Prop} (ht:AQ t=true) (hfew:VL t ok) {r:Nat} {w:W} (how:ok w) (hw:∀c∈w,0≤(c.toNat:Int) - 97∧(c.toNat:Int) - 97 < 6) (hwl:w.length≤1048576) :
    Pure Tryz.prog ⟨tabs,some (Jp t ok,r)⟩ 108 [.o (Ia r),eT w] (eB (LS t w)):=
  Tu (H:=Jp t ok) (k:=14) (es:=[eT w]) ⟨_,Tryz.func108,by kernel_rfl,rfl⟩ (by intro e he;simp at he;subst he;rfl) rfl fun s=>
    ⟨(Nb (TB:=⟨tabs,none⟩) ht hfew s.2 how hw hwl).1,fun V vs S hg ha=>((Nb (TB:=⟨tabs,none⟩) ht hfew s.2 how hw hwl).2 V vs S hg ha).mono fun e w' ⟨V',v,x,σ',h1,h2,h3,h4,h5,h6,m,h7,h8⟩=>⟨V',v,x,σ',h1,h2,h3,h4,h5,h6,⟨m,h7⟩,h8⟩⟩
section
variable {P:Program} {Γ:Ctx} {d:Option Tmp} {ty:TypeId} {pos:String} {af:Array Edge} {g:Option (Nat×Bool)} {f:Env} {σ:Ab} {nx:Nat}
variable {K:E→Ab→Nat→Prop}
theorem Ru {t:TypeId} {z:List Value} {fl:List (Nat×Nat)} {parts:Array (Nat×Operand)} {es:List E} {qs:List (Nat×List C)} [hz:Bw P t z] [hf:DA P t fl] (p k e q k' e' s k'' e'':Nat) (hp:z[p]? = some (.slice none 0 0)) (hp':z[q]? = some (.slice none 0 0)) (hp'':z[s]? = some (.slice none 0 0)) (hpq:p≠q∧p≠s∧q≠s) (hes:Gw f (parts.toList.map (·.2))=some es) (hq:DE fl parts.toList es=some qs)
    (hok:z.all Ld=true) (hle:(qs.all fun x=>Nat.ble (x.1+x.2.length) z.length)=true) (hK:K (.a (B4 qs ((((z.map zC).set p (.arr nx k 0 0)).set q (.arr (nx+1) k' 0 0)).set s (.arr (nx+2) k'' 0 0)))) ((nx+2,.cells e'' k'' [])::(nx+1,.cells e' k' [])::(nx,.cells e k [])::σ) (nx+3)):BZ P TB Γ ⟨d,.build t parts,ty,pos,af,g⟩ f σ nx K:=
  Cy fun V ρ h1 h2 h3=>by
    subst h3
    obtain ⟨i,zv,hi,hzv,hzz⟩:=Fy hz.out
    obtain ⟨hi1,he1⟩:=h2.alloc (c:=0) (nl:=True) (w:=V.w) (ob:=.cells e k []) rfl rfl rfl rfl (Nat.le_refl _) (fun _ _=>rfl) (.inl ⟨by simp [Al],rfl⟩)
    obtain ⟨hi2,he2⟩:=hi1.alloc (c:=0) (nl:=True) (w:=V.w) (ob:=.cells e' k' []) rfl rfl rfl rfl (Nat.le_refl _) (fun _ _=>rfl) (.inl ⟨by simp [Al],rfl⟩)
    obtain ⟨hi4,he4⟩:=hi2.alloc (c:=0) (nl:=True) (w:=V.w) (ob:=.cells e'' k'' []) rfl rfl rfl rfl (Nat.le_refl _) (fun _ _=>rfl) (.inl ⟨by simp [Al],rfl⟩)
    have he3:=(he1.trans he2).trans he4
    have hfo:=Cp (V:=Al (Al (Al V V.w.heap.size 0 True V.w) V.w.heap.size 0 True V.w) V.w.heap.size 0 True V.w) (ρ:=ρ) parts.toList es qs (fun x hx e he=>(h1.get (by simp only [Op.operands];simpa using hx) he).ext he3) hes hq
    have hzr : Cm (Al (Al (Al V V.w.heap.size 0 True V.w) V.w.heap.size 0 True V.w) V.w.heap.size 0 True V.w) ((((z.map zC).set p (.arr V.nx k 0 0)).set q (.arr (V.nx+1) k' 0 0)).set s (.arr (V.nx+2) k'' 0 0)) zv.cells:=by
      refine ⟨by rw [List.length_set,List.length_set,List.length_set,List.length_map,←hzz];simp,fun j c v hj hv=>?_⟩
      have hzj:z[j]? = some v:=by rw [←hzz,Array.getElem?_toList];exact hv
      by_cases hjs:s=j
      · subst hjs
        rw [hp''] at hzj
        injection hzj with hzj
        subst hzj
        rw [List.getElem?_set_self (by rw [List.length_set,List.length_set,List.length_map];exact (List.getElem?_eq_some_iff.1 hp'').1)] at hj
        injection hj with hj
        subst hj
        exact Aw.nil (by simp [Al]) (by simp [Al])
      · rw [List.getElem?_set_ne hjs] at hj
        by_cases hjq:q=j
        · subst hjq
          rw [hp'] at hzj
          injection hzj with hzj
          subst hzj
          rw [List.getElem?_set_self (by rw [List.length_set,List.length_map];exact (List.getElem?_eq_some_iff.1 hp').1)] at hj
          injection hj with hj
          subst hj
          exact Aw.nil (by simp [Al]) (by simp [Al])
        · rw [List.getElem?_set_ne hjq] at hj
          by_cases hjp:p=j
          · subst hjp
            rw [hp] at hzj
            injection hzj with hzj
            subst hzj
            rw [List.getElem?_set_self (by rw [List.length_map];exact (List.getElem?_eq_some_iff.1 hp).1)] at hj
            injection hj with hj
            subst hj
            exact Aw.nil (by simp [Al];omega) (by simp [Al])
          · rw [List.getElem?_set_ne hjp,List.getElem?_map,hzj] at hj
            injection hj with hj
            subst hj
            exact Hu (List.all_eq_true.1 hok v (List.mem_of_getElem? hzj))
    obtain ⟨cells,h4,h5⟩:=Ef _ _ _ _ hfo hzr (fun x hx=>by rw [List.length_set,List.length_set,List.length_set,List.length_map];exact FU _ _ hle x hx)
    have hb:=run_build (P:=P) (ρ:=ρ) (parts:=parts) (V:=V) hi hzv hf.out h4
    refine ⟨.agg cells,_,_,_,?_,he3,hi4,(show AX _ (.a _) _ from ⟨cells,rfl,h5⟩),hK⟩
    show ((do let v ←Instr.build t (parts.map fun (i,x)=>(i,ρ x));pure (Go.Next.value v):Sem Go.Next)).run P V.w=_
    simp only [Sem.run_bind,hb,Result.andThen_ok]
    rfl
end
theorem Ge {a b:Int} (ha:Bq a=true) (hb:Bq b=true):Af (Ey .i64 a b)=(Af a).filter fun l=>!DK b l.toNat:=by
  have key:((List.range 64).all fun x=>(List.range 64).all fun y=>decide (Af (Ey .i64 (x:Nat) (y:Nat))=(Af (x:Nat)).filter fun l=>!DK (y:Nat) l.toNat))=true:=by kernel_rfl
  unfold Bq at ha hb
  simp only [decide_eq_true_eq] at ha hb
  have h1:=List.all_eq_true.1 key a.toNat (List.mem_range.2 (by omega))
  have h2:=List.all_eq_true.1 h1 b.toNat (List.mem_range.2 (by omega))
  rw [Int.toNat_of_nonneg ha.1,Int.toNat_of_nonneg hb.1] at h2
  exact of_decide_eq_true h2
abbrev Uj (t:B3):List D:=[iD t.s.al,iD t.s.st,EF t.s.es,iD t.q.al,C1 t.q.nx,Ew t.q.ac,iD t.al]
abbrev FT (t:B3):E:=.a ((Uj t).map .d)
theorem NI (t:B3) (ok:W→Prop):GQ t ok ⟨[],[],[]⟩:=⟨rfl,rfl,List.nodup_nil,by simp,by simp,by simp,by simp⟩
theorem HT [DT TB] {t:B3} (ht:AQ t=true) (ok:W→Prop):∃m,Jd t ok m∧AP Tryz.prog TB 107 0 [] 0 [FT t] (fun x σ nx=>x=.o (.ptr 0 14 0 0)∧σ=JB t m∧nx=5):=by
  have hs:BB t.s=true:=by unfold AQ at ht;simp only [Bool.and_eq_true] at ht;exact ht.1
  have hta:Bq t.al=true:=by unfold AQ at ht;simp only [Bool.and_eq_true] at ht;exact ht.2.2
  have hsh:=B2 hs
  have hz:=Lb ht
  obtain ⟨m1,k,hcase,hadd⟩:=Sd (TB:=TB) ht (NI t ok) (by simp) (I8 ht)
  have hm1:m1=GO t ⟨[],[],[]⟩ (B9 t):=by
    rcases hcase with ⟨_,h2⟩|⟨h2,_,_⟩
    · simp at h2
    · exact h2
  have hcl:=NG (TB:=TB) ht ⟨[],[],[]⟩ hz
  refine ⟨m1,⟨by rw [hm1];exact PW (NI t ok) .start (.inl rfl) (by simp),by rw [hm1];rfl⟩,?_⟩
  have hmv:=Pp (TB:=TB) t.s hs
  have htb:=Hs (TB:=TB) t.q (Cj ht)
  have hlo:=De (TB:=TB) (Ey .i64 t.s.al t.al)
  rw [Ge hsh.1 hta] at hlo
  have hlo:Pure Tryz.prog TB 94 [eI .i64 (Ey .i64 t.s.al t.al)] (AW (Cb t)):=hlo
  rw [show OL t Iu=B9 t from rfl] at hcl
  have hmp:mapA .u16 (Ln [])=[]:=rfl
  have hpz:EB Iu=[1,0,0,0,0,0,0,0,0,0,0,0]:=rfl
  refine AP.AO (AP.Np (m:=0) (Nat.le_of_ble_eq_true rfl) Tryz.func107 rfl (by kernel_rfl) (Nat.le_of_ble_eq_true rfl) ?_);intro Γ hΓ
  (repeat first|refine tA rfl ?_ |refine aU rfl ?_ |refine Aa ?_)
  refine rG (Lj [(14,1),(15,1),(16,1)]) (by kernel_rfl) ?_
  (repeat first|refine tX rfl ?_ |refine sP rfl (hmv) rfl ?_|refine sP rfl (htb) rfl ?_|refine sP rfl (hlo) rfl ?_|(refine Ag rfl ?_;refine gA rfl ?_;first| refine gS (fun _ _=>Tw rfl rfl rfl) ?_))
  (refine pW rfl ?_ rfl (by rfl);refine Mc ?_)
  (refine pW rfl ?_ rfl (by rfl);refine Ru 10 12 147 12 6 96 13 1 4 rfl rfl rfl (by decide) rfl rfl (by rfl) (by rfl) ?_)
  (refine pW rfl ?_ rfl (by rfl);refine E6 rfl rfl ?_)
  (repeat first|refine tA rfl ?_)
  refine Aa ?_
  refine Aj.Ak [] [] rfl rfl [(3,.o (.ptr 0 14 0 0))] [(0,.cells 143 14 [T9 t (.arr 1 12 0 0) (.mp 2) (.arr 3 6 0 0) (.arr 4 1 0 0)]),(1,.cells 147 12 []),(2,.mp []),(3,.cells 96 6 []),(4,.cells 4 1 [])] [4,1,0,2,3] (rl hΓ rfl) (by (simp[cX,zC,hΓ,AE])) ?_;(try dsimp only[cA,cB])
  (repeat first|refine tA rfl ?_|(refine Ag rfl ?_;refine gA rfl ?_;first| refine gS (fun _ _=>AD rfl rfl (by rfl) (by rfl)) ?_) |refine aU rfl ?_)
  (refine pW rfl ?_ rfl (by rfl);refine Ac [0,1,2,3,4] rfl rfl (hcl) ⟨rfl,by decide,by decide⟩ rfl (by simp[cX,zC,hΓ,AE,hpz,hmp]) ?_;rintro x0 σ1 nx1 ⟨rfl,rfl,rfl⟩ _)
  (refine pW rfl ?_ rfl (by rfl);refine Bo [0,1,2,3,4] rfl rfl 1 (hadd) (by decide) ⟨rfl,by decide,by decide⟩ rfl (by simp[cX,zC,hΓ,AE]) ?_;rintro x0 σ1 nx1 ⟨rfl,rfl,rfl⟩ _)
  refine Aa ?_
  (repeat first|refine tA rfl ?_ |refine aU rfl ?_ |refine Aa ?_)
  refine aR ⟨_,rfl,[0,5,6,7,8],.o (.ptr 0 14 0 0),JB t m1,⟨by intro i hi;omega,by decide⟩,rfl,by (simp[cX,zC,hΓ,AE]),rfl,rfl,rfl⟩
theorem Pl {es:List Dp} {l:Int} {m k:Nat} {e:Dp} (he:es[k]? = some e):Bz (es.take (k+1)) l m=if e.l=l∧m.testBit e.f.toNat=true then Bz (es.take k) l m ||| 2 ^ e.t.toNat else Bz (es.take k) l m:=by
  unfold Bz
  rw [List.take_add_one,he,List.foldl_append];rfl
theorem N0 {s:Sys} (hs:BB s=true) {l:Int} {m k:Nat}:Bz (s.es.take k) l m < 65536:=Gt fun j hj=>by
  obtain ⟨e,he,_,rfl⟩:=Dv.1 hj
  have hb:=Cz hs (List.mem_of_mem_take he)
  have hh:=B2 hs
  unfold CO at hb
  simp only [Bool.and_eq_true,decide_eq_true_eq] at hb
  omega
theorem LW {s:Sys} (hs:BB s=true) (l:Int) {m:Nat} (hm:m < 65536):Pure Tryz.prog TB 200 [CN s,eI .i64 (m:Nat),eI .i64 l] (eI .i64 (Bz s.es l m:Nat)):=by
  have hh:=B2 hs
  refine eG Tryz.func200 rfl (by kernel_rfl) rfl ?_;intro Γ hΓ
  refine Aj.bound 0 rfl fun hB0=>?_
  have hB:=hB0 (s.es.map CS) ⟨2,_,rfl,.refl⟩
  rw [List.length_map] at hB
  (repeat first|refine tA rfl ?_ |refine aU rfl ?_ |refine Aa ?_)
  refine aB ?_
  refine aL (α:={k:Nat // k≤s.es.length}) [1,2,3] [] rfl rfl (fun ⟨k,hk⟩=>[(7,eI .i64 (Bz (s.es.take k) l m:Nat)),(8,eI .i64 k)]) (fun ⟨k,hk⟩=>[]) 0 (fun ⟨k,hk⟩=>s.es.length - k) (⟨0,by omega⟩) hΓ rfl (by (simp[cX,zC,hΓ]<;>rfl)) ?_;rintro ⟨k,hk⟩;(try dsimp only[cA,cB])
  by_cases hlt:k < s.es.length
  · obtain ⟨e,he⟩:=get_some hlt
    have he':=get_map (g:=CS) he
    have hee:(s.es.map CS)[((k:Nat):Int).toNat]? = some (CS e):=by rw [Int.toNat_natCast];exact he'
    have hb:=Cz hs (List.mem_of_getElem? he)
    unfold CO at hb
    simp only [Bool.and_eq_true,decide_eq_true_eq] at hb
    have hst:=Pl (l:=l) (m:=m) he
    have hlt1:=N0 hs (l:=l) (m:=m) (k:=k)
    have hh1:=CW (TB:=TB) (m:Nat) e.f (by omega) (by omega)
    rw [HD (by omega) (by omega)] at hh1
    have hbt:=NW (TB:=TB) e.t (by omega) (by omega)
    have hp2:2 ^ e.t.toNat < 65536:=by
      have:2 ^ e.t.toNat≤2 ^ 15:=Nat.pow_le_pow_right (by omega) (by omega)
      omega
    have hor:=JK (a:=Bz (s.es.take k) l m) (b:=2 ^ e.t.toNat) (by omega) (by omega)
    generalize 2 ^ e.t.toNat=p2 at *
    (repeat first|refine sN rfl ?_ |refine tA rfl ?_ |refine s2 rfl fun _ _hb=>?_ |refine aU rfl ?_ |refine Aa ?_)
    ((refine aC rfl ?_ ?_<;>rintro ⟨⟩);all_goals try(exfalso;(simp only[oZ] at *;omega)))
    refine aK ?_
    refine aS (aB ?_)
    (repeat' first|(refine sA rfl ?_ ?_;first|exact tI|omega) |(refine s4 rfl ‹_› rfl ?_ ?_;omega) |refine s2 rfl fun _ _hb=>?_ |(refine sC rfl (hh1) ?_;intro _ _hb)|refine sP rfl (hbt) rfl ?_ |refine s3 rfl ?_ ?_<;>rintro rfl |refine aU rfl ?_ |refine Aa ?_|(refine aC rfl ?_ ?_<;>rintro ⟨⟩));all_goals try contradiction
    · refine ⟨⟨k+1,by omega⟩,by dsimp only;(omega),[],?_⟩
      have h1:Bz (s.es.take (k+1)) l m=Bz (s.es.take k) l m ||| p2:=by rw [hst,if_pos ⟨by simpa using ‹decide (e.l=l)=true›,_hb⟩]
      simp[cX,zC,hΓ,hor,h1]
    · have h1:Bz (s.es.take (k+1)) l m=Bz (s.es.take k) l m:=by rw [hst,if_neg (by simp [_hb])]
      refine aK ?_
      (repeat first|(refine sA rfl ?_ ?_;first|exact tI|omega) |refine aU rfl ?_ |refine Aa ?_)
      refine ⟨⟨k+1,by omega⟩,by dsimp only;(omega),[],?_⟩
      simp[cX,zC,hΓ,h1]
    · have h1:Bz (s.es.take (k+1)) l m=Bz (s.es.take k) l m:=by rw [hst,if_neg (fun h=>by simp [h.1] at _hb)]
      refine aK ?_
      (repeat first|(refine sA rfl ?_ ?_;first|exact tI|omega) |refine aU rfl ?_ |refine Aa ?_)
      refine ⟨⟨k+1,by omega⟩,by dsimp only;(omega),[],?_⟩
      simp[cX,zC,hΓ,h1]
  · obtain rfl:k=s.es.length:=by omega
    rw [List.take_length]
    (repeat first|refine sN rfl ?_ |refine tA rfl ?_ |refine s2 rfl fun _ _hb=>?_ |refine aU rfl ?_ |refine Aa ?_)
    ((refine aC rfl ?_ ?_<;>rintro ⟨⟩);all_goals try(exfalso;(simp only[oZ] at *;omega)))
    refine aE ?_
    (repeat first|refine tA rfl ?_ |refine aU rfl ?_ |refine Aa ?_)
    (subst_vars;exact aR ⟨_,rfl,rfl⟩)
abbrev IV (n:Nat) (F:PS):List Int:=(List.range n).map fun p=>(F p:Int)
def Cl (t:B3) (G:PS) (i k:Nat):Prop:=∀p,p < t.q.nx.length→∀l∈Cb t,(p < i∨(p=i∧l∈(Cb t).take k))→∀j,(Bz t.s.es l (G p)).testBit j=true→(G (C7 t.q p l).toNat).testBit j=true
structure Nu (t:B3) (F0 F:PS) (i k:Nat) (G:PS) (b:Bool):Prop where
  ok:Cw t G
  lo:∀p j,(F0 p).testBit j=true→(G p).testBit j=true
  hi:∀p j,(G p).testBit j=true→Nn t F0 p j
  le:∀p,F p≤G p
  yes:b=true→JA G < JA F
  no:b=false→G=F∧Cl t F i k
theorem UW {F G:PS} (h:∀p,F p≤G p):JA G≤JA F:=by
  unfold JA
  repeat' apply Nat.add_le_add
  all_goals exact Nat.sub_le_sub_left (h _) _
def PH (G:PS) (x v:Nat):PS:=fun p=>if p=x then v else G p
theorem Nu.K1 {t:B3} (ht:AQ t=true) {F0 F G:PS} {i k:Nat} {b:Bool} (h:Nu t F0 F i k G b) (hi:i < t.q.nx.length) {l:Int} (hk:(Cb t)[k]? = some l) {x:Nat} (hx:C7 t.q i l=(x:Int)) (hne:G x ||| Bz t.s.es l (G i)≠G x):Nu t F0 F i (k+1) (PH G x (G x ||| Bz t.s.es l (G i))) true:=by
  have hl:=List.mem_of_getElem? hk
  have hin:=Fk ht hl
  have hga:=FX (Cj ht) hi hin.1 hin.2.1
  have hss:=Gj ht (l:=l) (h.ok.lt i)
  unfold Cu at hss
  rw [if_pos hin.2.2] at hss
  have hlt:G x ||| Bz t.s.es l (G i) < 65536:=by have:=Nat.or_lt_two_pow (n:=16) (h.ok.lt x) hss;omega
  have hle:∀p,G p≤PH G x (G x ||| Bz t.s.es l (G i)) p:=fun p=>by
    unfold PH
    split
    · rename_i e;subst e;exact Nat.left_le_or
    · exact Nat.le_refl _
  refine ⟨⟨fun p=>?_,fun p hp=>?_⟩,fun p j hj=>?_,fun p j hj=>?_,fun p=>Nat.le_trans (h.le p) (hle p),fun _=>?_,fun h=>by cases h⟩
  · unfold PH
    split
    · exact hlt
    · exact h.ok.lt p
  · unfold PH
    rw [if_neg (by omega)];exact h.ok.z p hp
  · have:=h.lo p j hj
    unfold PH
    split
    · rename_i e;subst e;rw [Nat.testBit_or,this];rfl
    · exact this
  · unfold PH at hj
    split at hj
    · rename_i e
      subst e
      rw [Nat.testBit_or,Bool.or_eq_true] at hj
      rcases hj with hj|hj
      · exact h.hi p j hj
      · obtain ⟨e,he,⟨h3,h4⟩,h5⟩:=Dv.1 hj
        subst h3
        have:=Nn.step (h.hi i _ h4) he hl rfl
        rw [hx,h5] at this
        simpa using this
    · exact h.hi p j hj
  · have h1:=UW h.le
    refine Nat.lt_of_lt_of_le (Qj h.ok.lt (fun p=>?_) hle fun he=>hne ?_) h1
    · unfold PH
      split
      · exact hlt
      · exact h.ok.lt p
    · have hn:=AT (Cj ht)
      have:=MS he x (by omega)
      simpa [PH] using this
theorem Nu.YE {t:B3} (ht:AQ t=true) {F0 F G:PS} {i k:Nat} {b:Bool} (h:Nu t F0 F i k G b) {l:Int} (hk:(Cb t)[k]? = some l) {x:Nat} (hx:C7 t.q i l=(x:Int)) (he:G x ||| Bz t.s.es l (G i)=G x):Nu t F0 F i (k+1) G b:=
  ⟨h.ok, h.lo,h.hi,h.le,h.yes,fun hb=>by
    obtain ⟨rfl,hc⟩:=h.no hb
    refine ⟨rfl,fun p hp l' hl' hor j hj=>?_⟩
    rcases hor with h1|⟨rfl,h1⟩
    · exact hc p hp l' hl' (.inl h1) j hj
    · rw [List.take_add_one,hk] at h1
      rcases List.mem_append.1 h1 with h1|h1
      · exact hc p hp l' hl' (.inr ⟨rfl,h1⟩) j hj
      · simp at h1
        subst h1
        rw [hx,Int.toNat_natCast,←he,Nat.testBit_or,hj,Bool.or_true]⟩
theorem Nu.row {t:B3} {F0 F G:PS} {i:Nat} {b:Bool} (h:Nu t F0 F i (Cb t).length G b):Nu t F0 F (i+1) 0 G b:=
  ⟨h.ok,h.lo,h.hi,h.le,h.yes,fun hb=>by
    obtain ⟨rfl,hc⟩:=h.no hb
    refine ⟨rfl,fun p hp l' hl' hor j hj=>?_⟩
    rcases hor with h1|⟨rfl,h1⟩
    · rcases Nat.lt_or_ge p i with h2|h2
      · exact hc p hp l' hl' (.inl h2) j hj
      · exact hc p hp l' hl' (.inr ⟨by omega,by rw [List.take_length];exact hl'⟩) j hj
    · simp at h1⟩
theorem Nu.done {t:B3} (ht:AQ t=true) {F0 F G:PS} (h0:Cw t F0) (h:Nu t F0 F t.q.nx.length 0 G false):G=OL t F0:=by
  obtain ⟨rfl,hc⟩:=h.no rfl
  exact Ss ht h0 h.ok.z h.lo h.hi fun p l j hp hl hj=>hc p hp l hl (.inl hp) j hj
theorem VD {a b:Int} (ha:Bq a=true) (hb:Bq b=true):a - DC .i64 a b=Ey .i64 a b∧0≤DC .i64 a b∧DC .i64 a b≤63:=by
  have key:((List.range 64).all fun x=>(List.range 64).all fun y=>decide (((x:Nat):Int) - DC .i64 (x:Nat) (y:Nat)=Ey .i64 (x:Nat) (y:Nat)∧0≤DC .i64 (x:Nat) (y:Nat)∧DC .i64 (x:Nat) (y:Nat)≤63))=true:=by kernel_rfl
  unfold Bq at ha hb
  simp only [decide_eq_true_eq] at ha hb
  have h1:=List.all_eq_true.1 key a.toNat (List.mem_range.2 (by omega))
  have h2:=List.all_eq_true.1 h1 b.toNat (List.mem_range.2 (by omega))
  rw [Int.toNat_of_nonneg ha.1,Int.toNat_of_nonneg hb.1] at h2
  exact of_decide_eq_true h2
theorem MR {n x v:Nat} {G:PS}:((IV n G).map AU).set x (AU (v:Int))=(IV n (PH G x v)).map AU:=by
  apply List.ext_getElem?
  intro i
  rw [List.getElem?_set]
  by_cases hi:i < n
  · have h1:∀H:PS,((IV n H).map AU)[i]? = some (AU (H i:Int)):=fun H=>by simp [hi]
    rw [h1,h1]
    unfold PH
    by_cases e:x=i
    · subst e;rw [if_pos rfl,if_pos (by simpa using hi),if_pos rfl]
    · rw [if_neg e,if_neg (fun h=>e h.symm)]
  · have h1:∀H:PS,((IV n H).map AU)[i]? = none:=fun H=>List.getElem?_eq_none (by simp;omega)
    rw [h1,h1]
    by_cases e:x=i
    · subst e;rw [if_pos rfl,if_neg (by simpa using hi)]
    · rw [if_neg e]
theorem MQ {n x:Nat} {G:PS} (h:x < n):((IV n G).map AU)[0+((x:Nat):Int).toNat]? = some (AU (G x:Int)):=by rw [Nat.zero_add,Int.toNat_natCast];simp [h]
theorem Nu.start {t:B3} {F0 F:PS} (hF:Cw t F) (h1:∀p j,(F0 p).testBit j=true→(F p).testBit j=true) (h2:∀p j,(F p).testBit j=true→Nn t F0 p j):Nu t F0 F 0 0 F false:=
  ⟨hF,h1,h2,fun _=>Nat.le_refl _,fun h=>(by cases h),fun _=>⟨rfl,fun p _ l _ h=>by simp at h⟩⟩
theorem Kp {t:B3} (ht:AQ t=true) {F0:PS} (hF0:Cw t F0):Spec Tryz.prog TB 199 [(0,.cells 3 1 ((IV t.q.nx.length F0).map AU))] 1 [FT t,.o (.arr 0 1 0 t.q.nx.length)] (fun x σ nx=>x=.o (.arr 0 1 0 t.q.nx.length)∧σ=[(0,.cells 3 1 ((IV t.q.nx.length (OL t F0)).map AU))]∧nx=1):=by
  have hs:BB t.s=true:=by unfold AQ at ht;simp only [Bool.and_eq_true] at ht;exact ht.1
  have hta:Bq t.al=true:=by unfold AQ at ht;simp only [Bool.and_eq_true] at ht;exact ht.2.2
  have hsh:=B2 hs
  have haut:=Cj ht
  have hah:=AT haut
  have hsa:=VD hsh.1 hta
  have hla:=hsh.1
  unfold Bq at hla
  simp only [decide_eq_true_eq] at hla
  have hlo:Pure Tryz.prog TB 88 [eI .i64 (t.s.al - DC .i64 t.s.al t.al)] (AW (Cb t)):=by
    have:=BW (TB:=TB) (t.s.al - DC .i64 t.s.al t.al)
    rw [hsa.1,Ge hsh.1 hta] at this
    rw [hsa.1];exact this
  have hll:(Cb t).length≤6:=by
    unfold Cb
    have h1:(Af t.s.al).length≤6:=AI _ _
    exact Nat.le_trans (List.length_filter_le _ _) h1
  refine eR Tryz.func199 rfl (by kernel_rfl) rfl ?_;intro Γ hΓ
  (repeat first|(refine sA rfl ?_ ?_;first|exact tI|omega) |refine sP rfl (hlo) rfl ?_ |refine aU rfl ?_ |refine Aa ?_)
  refine aB ?_
  refine aL (α:={s:PS×Bool // Cw t s.1∧(∀p j,(F0 p).testBit j=true→(s.1 p).testBit j=true)∧(∀p j,(s.1 p).testBit j=true→Nn t F0 p j)∧(s.2=false→s.1=OL t F0)}) [1,2,5] [] rfl rfl (fun s=>[(6,eB s.1.2)]) (fun s=>[(0,.cells 3 1 ((IV t.q.nx.length s.1.1).map AU))]) 1 (fun s=>(if s.1.2 then JA s.1.1+1 else 0)) (⟨⟨F0,true⟩,hF0,fun _ _ h=>h,fun _ _ h=>.base h,fun h=>by cases h⟩) hΓ rfl (by (simp[cX,zC,hΓ])) ?_;rintro ⟨⟨F,b⟩,hF,h1,h2,h3⟩;(try dsimp only[cA,cB])
  have hF:Cw t F:=hF
  cases b with
  | false=>
    obtain rfl:F=OL t F0:=h3 rfl
    (repeat first|refine tA rfl ?_ |refine aU rfl ?_ |refine Aa ?_)
    (refine aC rfl ?_ ?_<;>rintro ⟨⟩)
    refine aE ?_
    (repeat first|refine tA rfl ?_ |refine aU rfl ?_ |refine Aa ?_)
    refine aR ⟨_,rfl,[0],.o (.arr 0 1 0 t.q.nx.length),_,⟨by intro i hi;match i with|0=>rfl,by decide⟩,rfl,?_,rfl,rfl,rfl⟩
    (simp[cX,zC,hΓ])
  | true =>
    (repeat first|refine tA rfl ?_ |refine aU rfl ?_ |refine Aa ?_)
    (refine aC rfl ?_ ?_<;>rintro ⟨⟩)
    refine aK ?_
    refine aB ?_
    (repeat first|refine tA rfl ?_ |refine aU rfl ?_ |refine Aa ?_)
    refine aB ?_
    refine aL (α:={s:Nat×PS×Bool // s.1≤t.q.nx.length∧Nu t F0 F s.1 0 s.2.1 s.2.2}) [1,2,5] [] rfl rfl (fun s=>[(6,eB s.1.2.2),(7,eI .i64 s.1.1)]) (fun s=>[(0,.cells 3 1 ((IV t.q.nx.length s.1.2.1).map AU))]) 1 (fun s=>t.q.nx.length - s.1.1) (⟨⟨0,F,false⟩,by simp,.start hF h1 h2⟩) hΓ rfl (by (simp[cX,zC,hΓ])) ?_;rintro ⟨⟨i,G,b⟩,hi,hG⟩;(try dsimp only[cA,cB])
    have hi:i≤t.q.nx.length:=hi
    have hG:Nu t F0 F i 0 G b:=hG
    by_cases hin:i < t.q.nx.length
    · (repeat first|refine tA rfl ?_ |refine s2 rfl fun _ _hb=>?_ |refine aU rfl ?_ |refine Aa ?_)
      ((refine aC rfl ?_ ?_<;>rintro ⟨⟩);all_goals try(exfalso;(simp only[oZ] at *;omega)))
      refine aK ?_
      refine aS (aB ?_)
      (repeat first|refine tA rfl ?_ |refine aU rfl ?_ |refine Aa ?_)
      refine aB ?_
      refine aL (α:={s:Nat×PS×Bool // s.1≤(Cb t).length∧Nu t F0 F i s.1 s.2.1 s.2.2}) [1,2,5,7] [] rfl rfl (fun s=>[(6,eB s.1.2.2),(8,eI .i64 s.1.1)]) (fun s=>[(0,.cells 3 1 ((IV t.q.nx.length s.1.2.1).map AU))]) 1 (fun s=>(Cb t).length - s.1.1) (⟨⟨0,G,b⟩,by simp,hG⟩) hΓ rfl (by (simp[cX,zC,hΓ])) ?_;rintro ⟨⟨k,G',b'⟩,hk,hG'⟩;(try dsimp only[cA,cB])
      have hk:k≤(Cb t).length:=hk
      have hG':Nu t F0 F i k G' b':=hG'
      clear hG
      by_cases hkl:k < (Cb t).length
      · obtain ⟨l,hlk⟩:=get_some hkl
        have hin':=Fk ht (List.mem_of_getElem? hlk)
        have hl':((Cb t).map CC)[((k:Nat):Int).toNat]? = some (CC l):=by rw [Int.toNat_natCast];simp [hlk]
        have hgo:=ME (TB:=TB) t.q haut i hin l hin'.1 hin'.2.1
        have hga:=FX haut hin hin'.1 hin'.2.1
        obtain ⟨x,hx⟩:∃x:Nat,C7 t.q i l=x:=⟨(C7 t.q i l).toNat,by omega⟩
        rw [hx] at hgo hga
        have hst:=LW (TB:=TB) hs l (hG'.ok.lt i)
        have hms:Bz t.s.es l (G' i) < 65536:=by
          have:=N0 hs (l:=l) (m:=G' i) (k:=t.s.es.length)
          rwa [List.take_length] at this
        have r1:=MQ (n:=t.q.nx.length) (G:=G') (x:=x) (by omega)
        have r2:=MQ (n:=t.q.nx.length) (G:=G') (x:=i) hin
        have hxl:=hG'.ok.lt x
        have hor:=JK (a:=G' x) (b:=Bz t.s.es l (G' i)) (by omega) (by omega)
        have hset:=MR (n:=t.q.nx.length) (x:=x) (v:=G' x ||| Bz t.s.es l (G' i)) (G:=G')
        (repeat first|refine sN rfl ?_ |refine tA rfl ?_ |refine s2 rfl fun _ _hb=>?_ |refine aU rfl ?_ |refine Aa ?_)
        ((refine aC rfl ?_ ?_<;>rintro ⟨⟩);all_goals try(exfalso;(simp only[oZ] at *;omega)))
        refine aK ?_
        refine aS (aB ?_)
        (repeat first|refine aU rfl ?_)
        refine rG (Hf []) (by kernel_rfl) ?_
        (repeat first|refine tA rfl ?_ |(refine s4 rfl ‹_› rfl ?_ ?_;omega) |refine sP rfl (hgo) rfl ?_ |refine aU rfl ?_ |refine Aa ?_)
        refine rG (Hf []) (by kernel_rfl) ?_
        (repeat first|((first|refine sA rfl ?_ ?_|refine s4 rfl ‹_› rfl ?_ ?_);first|exact tI|omega) |refine s2 rfl fun _ _hb=>?_ |refine sP rfl (hst) rfl ?_ |refine aU rfl ?_ |refine Aa ?_)
        (refine aC rfl ?_ ?_<;>rintro ⟨⟩)
        · have hne:G' x ||| Bz t.s.es l (G' i)≠G' x:=by
            rw [hor] at _hb
            simp only [decide_eq_true_eq] at _hb
            omega
          (repeat first|(refine sA rfl ?_ ?_;first|exact tI|omega) |refine t4 rfl ‹_› rfl ?_ |refine aU rfl ?_ |refine Aa ?_)
          have hs1:=hG'.K1 ht hin hlk hx hne
          generalize PH G' x (G' x ||| Bz t.s.es l (G' i))=G2 at *
          refine ⟨⟨⟨k+1,G2,true⟩,by omega,hs1⟩,by dsimp only;(omega),[0],?_⟩
          simp[cX,zC,hΓ,hor];simpa [Function.comp_def] using hset
        · have he:G' x ||| Bz t.s.es l (G' i)=G' x:=by
            rw [hor] at _hb
            simp only [decide_eq_false_iff_not] at _hb
            omega
          refine aK ?_
          (repeat first|(refine sA rfl ?_ ?_;first|exact tI|omega) |refine aU rfl ?_ |refine Aa ?_)
          refine ⟨⟨⟨k+1,G',b'⟩,by omega,hG'.YE ht hlk hx he⟩,by dsimp only;(omega),[0],?_⟩
          simp[cX,zC,hΓ]
      · obtain rfl:k=(Cb t).length:=by omega
        (repeat first|refine sN rfl ?_ |refine tA rfl ?_ |refine s2 rfl fun _ _hb=>?_ |refine aU rfl ?_ |refine Aa ?_)
        ((refine aC rfl ?_ ?_<;>rintro ⟨⟩);all_goals try(exfalso;(simp only[oZ] at *;omega)))
        refine aE ?_
        (repeat first|(refine sA rfl ?_ ?_;first|exact tI|omega) |refine aU rfl ?_ |refine Aa ?_)
        refine ⟨⟨⟨i+1,G',b'⟩,by omega,hG'.row⟩,by dsimp only;(omega),[0],?_⟩
        simp[cX,zC,hΓ]
    · obtain rfl:i=t.q.nx.length:=by omega
      (repeat first|refine tA rfl ?_ |refine s2 rfl fun _ _hb=>?_ |refine aU rfl ?_ |refine Aa ?_)
      ((refine aC rfl ?_ ?_<;>rintro ⟨⟩);all_goals try(exfalso;(simp only[oZ] at *;omega)))
      refine aE ?_
      refine ⟨⟨⟨G,b⟩,hG.ok,hG.lo,hG.hi,fun hb=>by have hb:b=false:=hb;subst hb;exact hG.done ht hF0⟩,by cases b<;>simp_all [hG.yes],[0],?_⟩
      simp[cX,zC,hΓ]
structure Hx (P:Program) (TB:Ba) (gA gQ:FuncId) (t:Dx) (al:Int) (A:W→Bool):Prop where
  alph:Pure P TB gA [Cg t] (eI .i64 al)
  ask:∀w:W,w.length≤1099511627776→Pure P TB gQ [Cg t,eT w] (eB (A w))
theorem Y4 {t:Dx} (hk:t.kn=true):Hx Tryz.prog TB 60 101 t (if A6 t.p then t.p.al else -1) (FP t.p):=⟨JC t hk,JY t hk⟩
structure PU (t:A3):Prop where
  rl:t.rows.length≤4194304
  cl:t.cols.length≤4194304
  rb:∀w∈t.rows,w.length≤4194304
  cb:∀w∈t.cols,w.length≤4194304
theorem Gb (l:List W) (s:W) (hl:l.length≤1099511627776):Pure Tryz.prog TB 62 [Bk l,eT s] (eB (decide (s∈l))):=by
  refine eN Tryz.func62 rfl (by kernel_rfl) rfl ?_;intro Γ hΓ
  (repeat first|refine tA rfl ?_ |refine aU rfl ?_ |refine Aa ?_)
  refine aB ?_
  refine aL (α:={k:Nat // k≤l.length∧s∉l.take k}) [0,1] [] rfl rfl (fun ⟨k,hk,hn⟩=>[(5,eI .i64 k)]) (fun ⟨k,hk,hn⟩=>[]) 0 (fun ⟨k,hk,hn⟩=>l.length - k) (⟨0,by omega,by simp⟩) hΓ rfl (by (simp[cX,zC,hΓ])) ?_;rintro ⟨k,hk,hn⟩;(try dsimp only[cA,cB])
  by_cases hlt:k < l.length
  · obtain ⟨x,hx⟩:=get_some hlt
    have hx':=get_map (g:=BH) hx
    by_cases hs:x=s
    · have hm:s∈l:=hs ▸ List.mem_of_getElem? hx
      (repeat first|refine sN rfl ?_ |refine tA rfl ?_ |refine s2 rfl fun _ _hb=>?_ |refine aU rfl ?_ |refine Aa ?_)
      (refine aC rfl ?_ ?_<;>rintro ⟨⟩)
      · (repeat' first|(refine sA rfl ?_ ?_;first|exact tI|omega) |(refine s4 rfl ‹_› rfl ?_ ?_;omega) |refine s2 rfl fun _ _hb=>?_ |refine aU rfl ?_ |refine Aa ?_|(refine aC rfl ?_ ?_<;>rintro ⟨⟩)|refine aK ?_|refine aE ?_|refine aB ?_|refine aR ⟨_,rfl,?_⟩)
        · simp [hm]
        · exfalso;simp [hs] at _hb
      · exfalso;(simp only[oZ] at *;omega)
    · have hn2:s∉l.take (k+1):=by
        rw [List.take_add_one,hx]
        intro h
        rcases List.mem_append.1 h with h|h
        · exact hn h
        · simp at h;exact hs h.symm
      (repeat first|refine sN rfl ?_ |refine tA rfl ?_ |refine s2 rfl fun _ _hb=>?_ |refine aU rfl ?_ |refine Aa ?_)
      (refine aC rfl ?_ ?_<;>rintro ⟨⟩)
      · (repeat' first|(refine sA rfl ?_ ?_;first|exact tI|omega) |(refine s4 rfl ‹_› rfl ?_ ?_;omega) |refine s2 rfl fun _ _hb=>?_ |refine aU rfl ?_ |refine Aa ?_|(refine aC rfl ?_ ?_<;>rintro ⟨⟩)|refine aK ?_|refine aE ?_|refine aB ?_|refine aR ⟨_,rfl,?_⟩)
        · exfalso;simp [hs] at _hb
        · refine ⟨⟨k+1,by omega,hn2⟩,by dsimp only;(omega),[],?_⟩
          simp[cX,zC,hΓ]
      · exfalso;(simp only[oZ] at *;omega)
  · rw [List.take_of_length_le (by omega)] at hn
    (repeat first|refine sN rfl ?_ |refine tA rfl ?_ |refine s2 rfl fun _ _hb=>?_ |refine aU rfl ?_ |refine Aa ?_)
    (refine aC rfl ?_ ?_<;>rintro ⟨⟩)
    · exfalso;(simp only[oZ] at *;omega)
    · (repeat' first|refine tA rfl ?_ |refine aU rfl ?_ |refine Aa ?_|(refine aC rfl ?_ ?_<;>rintro ⟨⟩)|refine aK ?_|refine aE ?_|refine aB ?_|refine aR ⟨_,rfl,?_⟩)
      simp [hn]
theorem Pn {A:W→Bool} {cols:List W} {w c:W} {k:Nat} (hc:cols[k]? = some c):marks A (cols.take (k+1)) w=marks A (cols.take k) w++[Po (A (w++c))]:=by
  unfold marks
  rw [List.take_add_one,hc];simp
theorem Rs {A:W→Bool} {cols:List W} {w:W}:(marks A cols w).length=cols.length:=by simp [marks]
theorem IG {t:Dx} {al:Int} {A:W→Bool} (hT:Hx Tryz.prog TB 60 101 t al A) (cols:List W) (w:W) (hl:cols.length≤4194304) (hw:w.length≤4194305) (hb:∀x∈cols,x.length≤4194304) :
    Pure Tryz.prog TB 82 [Cg t,Bk cols,eT w] (eT (marks A cols w)):=by
  refine eN Tryz.func82 rfl (by kernel_rfl) rfl ?_;intro Γ hΓ
  (repeat first|refine tA rfl ?_ |refine aU rfl ?_ |refine Aa ?_)
  refine aB ?_
  refine aL (α:={k:Nat // k≤cols.length}) [1,2,3] [] rfl rfl (fun ⟨k,hk⟩=>[(7,eT (marks A (cols.take k) w)),(8,eI .i64 k)]) (fun ⟨k,hk⟩=>[]) 0 (fun ⟨k,hk⟩=>cols.length - k) (⟨0,by omega⟩) hΓ rfl (by (simp[cX,zC,hΓ]<;>rfl)) ?_;rintro ⟨k,hk⟩;(try dsimp only[cA,cB])
  have hml:(marks A (cols.take k) w).length≤4194304:=by rw [Rs,List.length_take];omega
  by_cases hlt:k < cols.length
  · obtain ⟨x,hx⟩:=get_some hlt
    have hx':=get_map (g:=BH) hx
    have hxb:=hb x (List.mem_of_getElem? hx)
    have hq:=hT.ask (w++x) (by simp;omega)
    have hst:=Pn (A:=A) (w:=w) hx
    (repeat first|refine sN rfl ?_ |refine tA rfl ?_ |refine s2 rfl fun _ _hb=>?_ |refine aU rfl ?_ |refine Aa ?_)
    (refine aC rfl ?_ ?_<;>rintro ⟨⟩)
    · refine aK ?_
      refine aS (aB ?_)
      (repeat first|(refine sA rfl ?_ ?_;first|exact tI|omega) |(refine s4 rfl ‹_› rfl ?_ ?_;omega) |(refine sC rfl (hq) ?_;intro _ _hb) |refine aU rfl ?_ |refine Aa ?_ |refine rE (by kernel_rfl) ?_)
      (refine aC rfl ?_ ?_<;>rintro ⟨⟩)
      · rw [_hb] at hst
        (repeat first|(refine sA rfl ?_ ?_;first|exact tI|omega|simp only[oZ] at *;omega) |refine aU rfl ?_ |refine Aa ?_)
        refine ⟨⟨k+1,by omega⟩,by dsimp only;(omega),[],?_⟩
        simp[cX,zC,hΓ,hst,Po]
      · rw [_hb] at hst
        (repeat first|(refine sA rfl ?_ ?_;first|exact tI|omega|simp only[oZ] at *;omega) |refine aU rfl ?_ |refine Aa ?_)
        refine ⟨⟨k+1,by omega⟩,by dsimp only;(omega),[],?_⟩
        simp[cX,zC,hΓ,hst,Po]
    · exfalso;(simp only[oZ] at *;omega)
  · obtain rfl:k=cols.length:=by omega
    rw [List.take_length]
    (repeat first|refine sN rfl ?_ |refine tA rfl ?_ |refine s2 rfl fun _ _hb=>?_ |refine aU rfl ?_ |refine Aa ?_)
    (refine aC rfl ?_ ?_<;>rintro ⟨⟩)
    · exfalso;(simp only[oZ] at *;omega)
    · (repeat' first|refine tA rfl ?_ |refine aU rfl ?_ |refine Aa ?_|(refine aC rfl ?_ ?_<;>rintro ⟨⟩)|refine aK ?_|refine aE ?_|refine aB ?_|refine aR ⟨_,rfl,?_⟩)
      rfl
theorem Mm {n:Nat}:List.replicate n (AU 0)=(IV n fun _=>0).map AU:=by
  apply List.ext_getElem?
  intro i
  by_cases h:i < n
  · simp [h]
  · rw [List.getElem?_eq_none (by simp;omega),List.getElem?_eq_none (by simp;omega)]
theorem PD {n:Nat}:(List.replicate n (AU 0)).set 0 (AU 1)=(IV n Iu).map AU:=by
  rw [Mm]
  have:=MR (n:=n) (x:=0) (v:=1) (G:=fun _=>0)
  have e:PH (fun _=>0) 0 1=Iu:=by funext p;rfl
  rw [e] at this
  exact this
theorem Pj {t:B3} (ht:AQ t=true):Pure Tryz.prog TB 172 [FT t] (AW (IV t.q.nx.length (B9 t))):=by
  have hah:=AT (Cj ht)
  have hcl:=Kp (TB:=TB) ht (Lb ht)
  rw [show OL t Iu=B9 t from rfl] at hcl
  have hst:=PD (n:=t.q.nx.length)
  have hr0:(List.replicate t.q.nx.length (AU 0))[0+(0:Int).toNat]? = some (AU 0):=by rw [List.getElem?_replicate,if_pos];simp;omega
  refine eG Tryz.func172 rfl (by kernel_rfl) rfl ?_;intro Γ hΓ
  (repeat first|refine sN rfl ?_ |refine tA rfl ?_ |refine aU rfl ?_ |refine Aa ?_)
  (refine pW rfl ?_ rfl (by rfl);refine Kv rfl rfl (by rfl) (by rfl) (Nat.le_of_ble_eq_true rfl) (by omega) (by omega) (by omega) ?_)
  (repeat first|(refine sA rfl ?_ ?_;first|exact tI|omega) |refine t4 rfl ‹_› rfl ?_ |refine aU rfl ?_ |refine Aa ?_)
  (refine pW rfl ?_ rfl (by rfl);refine Ac [0] rfl rfl (hcl) ⟨rfl,by decide,by decide⟩ rfl (by simp[cX,zC,hΓ,hst]) ?_;rintro x0 σ1 nx1 ⟨rfl,rfl,rfl⟩ _)
  (repeat first|refine tA rfl ?_)
  refine Aa ?_
  refine Aj.Ak [] [] rfl rfl [(2,.o (.arr 0 1 0 t.q.nx.length))] [(0,.cells 3 1 ((IV t.q.nx.length (B9 t)).map AU))] [0] (rl hΓ rfl) (by (simp[cX,zC,hΓ,hst])) ?_;(try dsimp only[cA,cB])
  refine Aj.settle [(2,AW (IV t.q.nx.length (B9 t)))] ⟨⟨_,rfl,.o (.full rfl (by simp [Function.comp_def]) (by simp))⟩,trivial⟩ ?_
  refine aR ⟨_,rfl,rfl⟩
theorem Tc {t:B3} (ht:AQ t=true) {F:PS}:Pure Tryz.prog TB 173 [FT t,AW (IV t.q.nx.length F)] (eB (Ix t F)):=by
  have hah:=AT (Cj ht)
  have hpl:(IV t.q.nx.length F).length=t.q.nx.length:=by simp
  have hdef:Ix t F=EU t F t.q.nx.length:=rfl
  refine eG Tryz.func173 rfl (by kernel_rfl) rfl ?_;intro Γ hΓ
  (repeat first|refine tA rfl ?_ |refine aU rfl ?_ |refine Aa ?_)
  refine aB ?_
  refine aL (α:={k:Nat // k≤t.q.nx.length∧EU t F k=false}) [1,2] [] rfl rfl (fun ⟨k,hk,hb⟩=>[(5,eI .i64 k)]) (fun ⟨k,hk,hb⟩=>[]) 0 (fun ⟨k,hk,hb⟩=>t.q.nx.length - k) (⟨0,by omega,rfl⟩) hΓ rfl (by (simp[cX,zC,hΓ])) ?_;rintro ⟨k,hk,hb⟩;(try dsimp only[cA,cB])
  by_cases hlt:k < t.q.nx.length
  · have hr:((IV t.q.nx.length F).map CC)[((k:Nat):Int).toNat]? = some (CC (F k:Int)):=by rw [Int.toNat_natCast];simp [hlt]
    obtain ⟨b,hb1⟩:=get_some (l:=t.q.ac) (k:=((k:Nat):Int).toNat) (by omega)
    have hb':=get_map (g:=HB) hb1
    have hgd:t.q.ac.getD k false=b:=by rw [Int.toNat_natCast] at hb1;simp [List.getD,hb1]
    have hs:=Hb (t:=t) (F:=F) (k:=k)
    rw [hgd,hb] at hs
    (repeat first|refine sN rfl ?_ |refine tA rfl ?_ |refine s2 rfl fun _ _hb=>?_ |refine aU rfl ?_ |refine Aa ?_)
    ((refine aC rfl ?_ ?_<;>rintro ⟨⟩);all_goals try(exfalso;(simp only[oZ] at *;omega)))
    refine aK ?_
    refine aS (aB ?_)
    (repeat' first|refine tA rfl ?_ |(refine s4 rfl ‹_› rfl ?_ ?_;omega) |refine s2 rfl fun _ _hb=>?_ |refine s3 rfl ?_ ?_<;>rintro rfl |refine aU rfl ?_ |refine Aa ?_|(refine aC rfl ?_ ?_<;>rintro ⟨⟩));all_goals try contradiction
    · have hbt:Ix t F=true:=by
        have h7:=of_decide_eq_true ‹decide ((F k:Int)≠0)=true›
        have h8:F k≠0:=by omega
        rw [hdef]
        unfold EU
        exact List.any_eq_true.2 ⟨k,List.mem_range.2 hlt,by rw [hgd,_hb];simp [h8]⟩
      rw [hbt]
      (subst_vars;exact aR ⟨_,rfl,rfl⟩)
    · have hk1:EU t F (k+1)=false:=by rw [hs];simp_all
      refine aK ?_
      (repeat first|(refine sA rfl ?_ ?_;first|exact tI|omega) |refine aU rfl ?_ |refine Aa ?_)
      refine ⟨⟨k+1,by omega,hk1⟩,by dsimp only;(omega),[],?_⟩
      simp[cX,zC,hΓ]
    · have hk1:EU t F (k+1)=false:=by rw [hs];simp at _hb;simp;omega
      refine aK ?_
      (repeat first|(refine sA rfl ?_ ?_;first|exact tI|omega) |refine aU rfl ?_ |refine Aa ?_)
      refine ⟨⟨k+1,by omega,hk1⟩,by dsimp only;(omega),[],?_⟩
      simp[cX,zC,hΓ]
  · obtain rfl:k=t.q.nx.length:=by omega
    rw [hdef,hb]
    (repeat first|refine sN rfl ?_ |refine tA rfl ?_ |refine s2 rfl fun _ _hb=>?_ |refine aU rfl ?_ |refine Aa ?_)
    ((refine aC rfl ?_ ?_<;>rintro ⟨⟩);all_goals try(exfalso;(simp only[oZ] at *;omega)))
    refine aE ?_
    (repeat first|refine tA rfl ?_ |refine aU rfl ?_ |refine Aa ?_)
    (subst_vars;exact aR ⟨_,rfl,rfl⟩)
theorem UZ {t:B3} {l:Int} {F:PS} {k x:Nat} (h:C7 t.q k l=(x:Int)):CX t l F (k+1)=PH (CX t l F k) x (CX t l F k x ||| Cu t.s l (F k)):=by
  rw [GD]
  funext p
  unfold PH
  rw [h]
  by_cases e:p=x
  · subst e;simp
  · rw [if_neg e,if_neg (by omega)]
theorem Ro {t:B3} (ht:AQ t=true) {F:PS} (hF:Cw t F) {l:Int} (hl:0≤l∧l < 6):Pure Tryz.prog TB 174 [FT t,AW (IV t.q.nx.length F),eI .i64 l] (AW (IV t.q.nx.length (DQ t l F))):=by
  have hs:BB t.s=true:=by unfold AQ at ht;simp only [Bool.and_eq_true] at ht;exact ht.1
  have haut:=Cj ht
  have hah:=AT haut
  have hcl:=Kp (TB:=TB) ht (IP ht hl hF)
  rw [show OL t (Ql t l F)=DQ t l F from rfl] at hcl
  have hpl:(IV t.q.nx.length F).length=t.q.nx.length:=by simp
  have h0:List.replicate t.q.nx.length (AU 0)=(IV t.q.nx.length (CX t l F 0)).map AU:=Mm
  have hz0:[zC (Value.int IntKind.i64 0)]=AU 0:=rfl
  have hhas:=CW (TB:=TB) t.s.al l hl.1 (by omega)
  refine eG Tryz.func174 rfl (by kernel_rfl) rfl ?_;intro Γ hΓ
  (repeat first|refine sN rfl ?_ |refine tA rfl ?_ |refine aU rfl ?_ |refine Aa ?_)
  (refine pW rfl ?_ rfl (by rfl);refine Kv rfl rfl (by rfl) (by rfl) (Nat.le_of_ble_eq_true rfl) (by omega) (by omega) (by omega) ?_)
  (repeat first|refine tA rfl ?_ |refine aU rfl ?_ |refine Aa ?_)
  refine aB ?_
  refine aL (α:={k:Nat // k≤t.q.nx.length}) [1,2,3] [] rfl rfl (fun s=>[(7,.o (.arr 0 1 0 t.q.nx.length)),(8,eI .i64 s.1)]) (fun s=>[(0,.cells 3 1 ((IV t.q.nx.length (CX t l F s.1)).map AU))]) 1 (fun s=>t.q.nx.length - s.1) (⟨0,by omega⟩) hΓ rfl (by (simp[cX,zC,hΓ,h0,hz0])) ?_;rintro ⟨k,hk⟩;(try dsimp only[cA,cB])
  by_cases hkl:k < t.q.nx.length
  · have hr:((IV t.q.nx.length F).map CC)[((k:Nat):Int).toNat]? = some (CC (F k:Int)):=by rw [Int.toNat_natCast];simp [hkl]
    have hgo:=ME (TB:=TB) t.q haut k hkl l hl.1 hl.2
    have hga:=FX haut hkl hl.1 hl.2
    obtain ⟨x,hx⟩:∃x:Nat,C7 t.q k l=x:=⟨(C7 t.q k l).toNat,by omega⟩
    have hnx:=UZ (F:=F) hx
    rw [hx] at hgo hga
    have hst:=LW (TB:=TB) hs l (hF.lt k)
    have r1:=MQ (n:=t.q.nx.length) (G:=CX t l F k) (x:=x) (by omega)
    have hml:=Qm ht (l:=l) hF k x
    have hss:=Gj ht (l:=l) (hF.lt k)
    have hor:=JK (a:=CX t l F k x) (b:=Cu t.s l (F k)) (by omega) (by omega)
    have hset:=MR (n:=t.q.nx.length) (x:=x) (v:=CX t l F k x ||| Cu t.s l (F k)) (G:=CX t l F k)
    rw [←hnx] at hset
    (repeat first|refine sN rfl ?_ |refine tA rfl ?_ |refine s2 rfl fun _ _hb=>?_ |refine aU rfl ?_ |refine Aa ?_)
    ((refine aC rfl ?_ ?_<;>rintro ⟨⟩);all_goals try(exfalso;(simp only[oZ] at *;omega)))
    refine aK ?_
    refine aS (aB ?_)
    (repeat first|refine tA rfl ?_ |(refine s4 rfl ‹_› rfl ?_ ?_;omega) |(refine sC rfl (hhas) ?_;intro _ _hb) |refine aU rfl ?_ |refine Aa ?_)
    (refine aC rfl ?_ ?_<;>rintro ⟨⟩)
    · have hsm:Cu t.s l (F k)=Bz t.s.es l (F k):=by unfold Cu;rw [if_pos _hb]
      rw [←hsm] at hst
      (repeat first|(refine sA rfl ?_ ?_;first|exact tI|omega) |refine t4 rfl ‹_› rfl ?_ |refine sP rfl (hst) rfl ?_|refine sP rfl (hgo) rfl ?_ |refine aU rfl ?_ |refine Aa ?_)
      refine ⟨⟨k+1,by omega⟩,by dsimp only;(omega),[0],?_⟩
      simp[cX,zC,hΓ,hor];simpa [Function.comp_def] using hset
    · have hsm:Cu t.s l (F k)=F k:=by unfold Cu;rw [if_neg (by simp [_hb])]
      rw [hsm] at hor hset
      refine aK ?_
      (repeat first|(refine sA rfl ?_ ?_;first|exact tI|omega) |refine t4 rfl ‹_› rfl ?_ |refine sP rfl (hgo) rfl ?_ |refine aU rfl ?_ |refine Aa ?_)
      refine ⟨⟨k+1,by omega⟩,by dsimp only;(omega),[0],?_⟩
      simp[cX,zC,hΓ,hor];simpa [Function.comp_def] using hset
  · obtain rfl:k=t.q.nx.length:=by omega
    rw [show CX t l F t.q.nx.length=Ql t l F from rfl]
    (repeat first|refine sN rfl ?_ |refine tA rfl ?_ |refine s2 rfl fun _ _hb=>?_ |refine aU rfl ?_ |refine Aa ?_)
    ((refine aC rfl ?_ ?_<;>rintro ⟨⟩);all_goals try(exfalso;(simp only[oZ] at *;omega)))
    refine aE ?_
    (repeat first|refine tA rfl ?_ |refine aU rfl ?_)
    (refine pW rfl ?_ rfl (by rfl);refine Ac [0] rfl rfl (hcl) ⟨rfl,by decide,by decide⟩ rfl (by simp[cX,zC,hΓ]) ?_;rintro x0 σ1 nx1 ⟨rfl,rfl,rfl⟩ _)
    (repeat first|refine tA rfl ?_)
    refine Aa ?_
    refine Aj.Ak [] [] rfl rfl [(6,.o (.arr 0 1 0 t.q.nx.length))] [(0,.cells 3 1 ((IV t.q.nx.length (DQ t l F)).map AU))] [0] (rl hΓ rfl) (by (simp[cX,zC,hΓ])) ?_;(try dsimp only[cA,cB])
    refine Aj.settle [(6,AW (IV t.q.nx.length (DQ t l F)))] ⟨⟨_,rfl,.o (.full rfl (by simp [Function.comp_def]) (by simp))⟩,trivial⟩ ?_
    refine aR ⟨_,rfl,rfl⟩
theorem Fa (t:B3):Pure Tryz.prog TB 113 [FT t] (eB (AQ t)):=by
  unfold AQ
  refine eN Tryz.func113 rfl (by kernel_rfl) rfl ?_;intro Γ hΓ
  (repeat' first|refine tA rfl ?_ |(refine sC rfl (Ci t.s) ?_;intro _ _hb)|(refine sC rfl (Bt t.q) ?_;intro _ _hb)|(refine sC rfl (CU t.al) ?_;intro _ _hb) |refine s3 rfl ?_ ?_<;>rintro rfl |refine aU rfl ?_ |refine Aa ?_|(refine aC rfl ?_ ?_<;>rintro ⟨⟩)|refine aK ?_|refine aE ?_|refine aB ?_|refine aR ⟨_,rfl,?_⟩)
  all_goals (show E.o _=E.o _;simp_all)
noncomputable def Em (t:B3) (w:W):Bool:=AQ t && (within w t.al && LS t w)
theorem La {w:W} {al:Int} (h:within w al=true):∀c∈w,0≤(c.toNat:Int) - 97∧(c.toNat:Int) - 97 < 6:=fun c hc=>GB (Ck h c hc)
theorem Ox (t:B3) (w:W) (hl:w.length≤1099511627776):Pure Tryz.prog TB 133 [FT t,eT w] (eB (Em t w)):=by
  have hv:=Fa (TB:=TB) t
  have hw:=CZ (TB:=TB) w t.al hl
  by_cases h:(AQ t && within w t.al)=true
  · have ht:AQ t=true:=by revert h;cases AQ t<;>simp
    have hwi:within w t.al=true:=by revert h;cases within w t.al<;>simp
    have hn:=La hwi
    have hA:Em t w=LS t w:=by unfold Em;rw [ht,hwi];rfl
    rw [hA]
    rw [ht] at hv
    rw [hwi] at hw
    have hst:=Pj (TB:=TB) ht
    refine eG Tryz.func133 rfl (by kernel_rfl) rfl ?_;intro Γ hΓ
    (repeat' first|refine tA rfl ?_ |refine s2 rfl fun _ _hb=>?_ |refine sP rfl (hv) rfl ?_|refine sP rfl (hw) rfl ?_|refine sP rfl (hst) rfl ?_ |refine s3 rfl ?_ ?_<;>rintro rfl |refine aU rfl ?_ |refine Aa ?_|(refine aC rfl ?_ ?_<;>rintro ⟨⟩));all_goals try contradiction
    refine aK ?_
    (repeat first|refine tA rfl ?_ |refine sP rfl (hst) rfl ?_ |refine aU rfl ?_ |refine Aa ?_)
    refine aB ?_
    refine aL (α:={x:Nat×PS // x.1≤w.length∧Cw t x.2∧GY t x.2 (w.drop x.1)=LS t w}) [1,2] [] rfl rfl (fun s=>[(5,AW (IV t.q.nx.length s.1.2)),(6,eI .i64 s.1.1)]) (fun s=>[]) 0 (fun s=>w.length - s.1.1) (⟨⟨0,B9 t⟩,by simp,I8 ht,rfl⟩) hΓ rfl (by (simp[cX,zC,hΓ])) ?_;rintro ⟨⟨i,F⟩,hi,hF,hs⟩;(try dsimp only[cA,cB])
    have hi:i≤w.length:=hi
    have hF:Cw t F:=hF
    have hs:GY t F (w.drop i)=LS t w:=hs
    have hbd:=Tc (TB:=TB) ht (F:=F)
    by_cases hlt:i < w.length
    · obtain ⟨c,hc⟩:=get_some hlt
      have hc':w[((i:Nat):Int).toNat]? = some c:=by simpa using hc
      have hcl:=hn c (List.mem_of_getElem? hc)
      have hla:=HL (TB:=TB) w i c hc'
      have hmv:=Ro (TB:=TB) ht hF hcl
      have hno:=Kw ht hcl hF
      rw [CB hc,GY] at hs
      generalize Ix t F=b at *
      (repeat' first|refine tA rfl ?_ |refine s2 rfl fun _ _hb=>?_ |refine sP rfl (hbd) rfl ?_ |refine s3 rfl ?_ ?_<;>rintro rfl |refine aU rfl ?_ |refine Aa ?_|(refine aC rfl ?_ ?_<;>rintro ⟨⟩));all_goals try contradiction
      all_goals first| (exfalso;(simp only[oZ] at *;omega);done)|skip
      · have hb:b=false:=by simpa using _hb
        subst hb
        refine aK ?_
        refine aS (aB ?_)
        refine rG (Hf []) (by kernel_rfl) ?_
        (repeat first|(refine sA rfl ?_ ?_;first|exact tI|omega) |refine sP rfl (hla) rfl ?_|refine sP rfl (hmv) rfl ?_ |refine aU rfl ?_ |refine Aa ?_)
        refine ⟨⟨⟨i+1,DQ t ((c.toNat:Int) - 97) F⟩,by omega,hno,by simpa using hs⟩,by dsimp only;(omega),[],?_⟩
        simp[cX,zC,hΓ]
      · have hb:b=true:=by simpa using _hb
        subst hb
        have hs:LS t w=false:=by simpa using hs.symm
        rw [hs]
        refine aE ?_
        (repeat first|refine tA rfl ?_ |refine s2 rfl fun _ _hb=>?_ |refine sP rfl (hbd) rfl ?_ |refine aU rfl ?_ |refine Aa ?_)
        (subst_vars;exact aR ⟨_,rfl,rfl⟩)
    · obtain rfl:i=w.length:=by omega
      rw [List.drop_length,GY] at hs
      rw [←hs]
      (repeat' first|refine tA rfl ?_ |refine s2 rfl fun _ _hb=>?_ |refine sP rfl (hbd) rfl ?_ |refine s3 rfl ?_ ?_<;>rintro rfl |refine aU rfl ?_ |refine Aa ?_|(refine aC rfl ?_ ?_<;>rintro ⟨⟩));all_goals try contradiction
      all_goals first| (exfalso;(simp only[oZ] at *;omega);done)|skip
      refine aE ?_
      (repeat first|refine tA rfl ?_ |refine s2 rfl fun _ _hb=>?_ |refine sP rfl (hbd) rfl ?_ |refine aU rfl ?_ |refine Aa ?_)
      (subst_vars;exact aR ⟨_,rfl,rfl⟩)
  · have hA:Em t w=false:=by unfold Em;revert h;cases AQ t<;>cases within w t.al<;>simp
    rw [hA]
    refine eG Tryz.func133 rfl (by kernel_rfl) rfl ?_;intro Γ hΓ
    (repeat' first|refine tA rfl ?_ |refine s2 rfl fun _ _hb=>?_ |(refine sC rfl (hv) ?_;intro _ _hb)|(refine sC rfl (hw) ?_;intro _ _hb) |refine s3 rfl ?_ ?_<;>rintro rfl |refine aU rfl ?_ |refine Aa ?_|(refine aC rfl ?_ ?_<;>rintro ⟨⟩));all_goals try contradiction
    all_goals first
      | (subst_vars;exact aR ⟨_,rfl,rfl⟩)
      | (exfalso;simp_all;done)
theorem JD (t:Dx) (hk:t.kn=false):Pure Tryz.prog TB 60 [Cg t] (eI .i64 (if AQ ⟨t.s,t.q,t.al⟩ then t.al else -1)):=by
  obtain ⟨kn,p,s,q,al⟩:=t
  dsimp only at hk
  subst hk
  have hv:=Fa (TB:=TB) ⟨s,q,al⟩
  refine eN Tryz.func60 rfl (by kernel_rfl) rfl ?_;intro Γ hΓ
  (repeat' first|refine tA rfl ?_ |refine s2 rfl fun _ _hb=>?_ |(refine sC rfl (hv) ?_;intro _ _hb) |refine s3 rfl ?_ ?_<;>rintro rfl |refine aU rfl ?_ |refine Aa ?_|(refine aC rfl ?_ ?_<;>rintro ⟨⟩)|refine aK ?_|refine aE ?_|refine aB ?_|refine aR ⟨_,rfl,?_⟩)
  all_goals first
    | (show E.o _=E.o _;congr;grind)
    | (exfalso;simp at *;done)
theorem JZ (t:Dx) (hk:t.kn=false) (w:W) (hl:w.length≤1099511627776):Pure Tryz.prog TB 101 [Cg t,eT w] (eB (Em ⟨t.s,t.q,t.al⟩ w)):=by
  obtain ⟨kn,p,s,q,al⟩:=t
  dsimp only at hk
  subst hk
  have h1:=Ox (TB:=TB) ⟨s,q,al⟩ w hl
  refine eN Tryz.func101 rfl (by kernel_rfl) rfl ?_;intro Γ hΓ
  (repeat' first|refine tA rfl ?_ |refine sP rfl (h1) rfl ?_ |refine aU rfl ?_ |refine Aa ?_|(refine aC rfl ?_ ?_<;>rintro ⟨⟩)|refine aK ?_|refine aE ?_|refine aB ?_|refine aR ⟨_,rfl,?_⟩)
  all_goals rfl
theorem Wk {t:Dx} (hk:t.kn=false):Hx Tryz.prog TB 60 101 t (if AQ ⟨t.s,t.q,t.al⟩ then t.al else -1) (Em ⟨t.s,t.q,t.al⟩):=⟨JD t hk,JZ t hk⟩
theorem MF (w:W) (i:Nat) (c:UInt8) (hc:w[((i:Nat):Int).toNat]? = some c):Pure Tryz.prog TB 84 [eT w,eI .i64 i] (eI .i64 (if Et c then (c.toNat:Int) - 97 else -1)):=by
  by_cases h:Et c=true
  · rw [if_pos h]
    rw [FQ,decide_eq_true_eq] at h
    exact Ez w i c hc h
  · rw [if_neg h]
    rw [FQ,decide_eq_true_eq] at h
    have hb:=c.toNat_lt
    refine eN Tryz.func84 rfl (by kernel_rfl) rfl ?_;intro Γ hΓ
    (repeat' first|(refine sA rfl ?_ ?_;first|exact tI|omega) |(refine s4 rfl ‹_› rfl ?_ ?_;omega) |refine s2 rfl fun _ _hb=>?_ |refine s3 rfl ?_ ?_<;>rintro rfl |refine aU rfl ?_ |refine Aa ?_|(refine aC rfl ?_ ?_<;>rintro ⟨⟩)|refine aK ?_|refine aE ?_|refine aB ?_|refine aR ⟨_,rfl,?_⟩)
    all_goals first
      | rfl
      | (exfalso;grind)
theorem SO (al:Int) (c:UInt8):hasB al (if Et c then (c.toNat:Int) - 97 else -1)=Hi al c:=by
  unfold Hi hasB
  by_cases h:Et c=true
  · rw [if_pos h,h]
    rw [FQ,decide_eq_true_eq] at h
    have e:((c.toNat:Int) - 97).toNat=c.toNat - 97:=by omega
    rw [e]
    simp
    omega
  · rw [if_neg h]
    simp [h]
theorem Dn (w:W) (al:Int) (hl:w.length≤1099511627776):Pure Tryz.prog TB 50 [eT w,eI .i64 al] (eB (within w al)):=by
  have h1:=Dy (TB:=TB) al
  by_cases h0:Bq al=true∧w.length≤50000
  · rw [h0.1] at h1
    have hwk:within w al=w.all (Hi al):=by unfold within;simp [h0.1,h0.2]
    rw [hwk]
    refine eG Tryz.func50 rfl (by kernel_rfl) rfl ?_;intro Γ hΓ
    (repeat first|refine tA rfl ?_ |refine s2 rfl fun _ _hb=>?_ |refine sP rfl (h1) rfl ?_ |refine s3 rfl ?_ ?_<;>rintro rfl |refine aU rfl ?_ |refine Aa ?_)
    (repeat' first|refine tA rfl ?_ |refine s2 rfl fun _ _hb=>?_ |refine sP rfl (h1) rfl ?_ |refine aU rfl ?_ |refine Aa ?_|(refine aC rfl ?_ ?_<;>rintro ⟨⟩));all_goals try contradiction
    all_goals first
      | (exfalso;(simp only[oZ] at *;omega);done)
      | skip
    refine aK ?_
    (repeat first|refine tA rfl ?_ |refine aU rfl ?_ |refine Aa ?_)
    refine aB ?_
    refine aL (α:={k:Nat // k≤w.length∧(w.take k).all (Hi al)=true}) [0,1,15] [] rfl rfl (fun ⟨k,hk,ha⟩=>[(16,eI .i64 k)]) (fun ⟨k,hk,ha⟩=>[]) 0 (fun ⟨k,hk,ha⟩=>w.length - k) (⟨0,by omega,rfl⟩) hΓ rfl (by (simp[cX,zC,hΓ])) ?_;rintro ⟨k,hk,ha⟩;(try dsimp only[cA,cB])
    by_cases hlt:k < w.length
    · obtain ⟨c,hc⟩:=get_some hlt
      have hc':w[((k:Nat):Int).toNat]? = some c:=by simpa using hc
      have hla:=MF (TB:=TB) w k c hc'
      have hha:=Kh (TB:=TB) al (if Et c then (c.toNat:Int) - 97 else -1)
      rw [SO] at hha
      generalize (if Et c then (c.toNat:Int) - 97 else -1:Int)=l at hla hha
      cases hcc:Hi al c
      · have hst:=Gq hc (f:=Hi al) hcc
        rw [hcc] at hha
        rw [hst]
        (repeat first|refine s2 rfl fun _ _hb=>?_ |refine aU rfl ?_ |refine Aa ?_)
        ((refine aC rfl ?_ ?_<;>rintro ⟨⟩);all_goals try(exfalso;(simp only[oZ] at *;omega)))
        refine aK ?_
        refine aS (aB ?_)
        (repeat first|refine tA rfl ?_ |refine s2 rfl fun _ _hb=>?_ |refine sP rfl (hla) rfl ?_|refine sP rfl (hha) rfl ?_ |refine aU rfl ?_ |refine Aa ?_)
        (repeat' first|refine tA rfl ?_ |refine sP rfl (hla) rfl ?_|refine sP rfl (hha) rfl ?_ |refine aU rfl ?_ |refine Aa ?_|(refine aC rfl ?_ ?_<;>rintro ⟨⟩));all_goals try contradiction
        (subst_vars;exact aR ⟨_,rfl,rfl⟩)
      · have hst:=ER hc ha hcc
        rw [hcc] at hha
        (repeat first|refine s2 rfl fun _ _hb=>?_ |refine aU rfl ?_ |refine Aa ?_)
        ((refine aC rfl ?_ ?_<;>rintro ⟨⟩);all_goals try(exfalso;(simp only[oZ] at *;omega)))
        refine aK ?_
        refine aS (aB ?_)
        (repeat first|refine tA rfl ?_ |refine s2 rfl fun _ _hb=>?_ |refine sP rfl (hla) rfl ?_|refine sP rfl (hha) rfl ?_ |refine aU rfl ?_ |refine Aa ?_)
        (repeat' first|refine tA rfl ?_ |refine sP rfl (hla) rfl ?_|refine sP rfl (hha) rfl ?_ |refine aU rfl ?_ |refine Aa ?_|(refine aC rfl ?_ ?_<;>rintro ⟨⟩));all_goals try contradiction
        refine aK ?_
        (repeat first|(refine sA rfl ?_ ?_;first|exact tI|omega) |refine aU rfl ?_ |refine Aa ?_)
        refine ⟨⟨k+1,by omega,hst⟩,by dsimp only;(omega),[],?_⟩
        simp[cX,zC,hΓ]
    · have hd:=EP ha (show w.length≤k by omega)
      rw [hd]
      (repeat first|refine s2 rfl fun _ _hb=>?_ |refine aU rfl ?_ |refine Aa ?_)
      ((refine aC rfl ?_ ?_<;>rintro ⟨⟩);all_goals try(exfalso;(simp only[oZ] at *;omega)))
      refine aE ?_
      (repeat first|refine tA rfl ?_ |refine aU rfl ?_ |refine Aa ?_)
      (subst_vars;exact aR ⟨_,rfl,rfl⟩)
  · have hwk:within w al=false:=by unfold within;grind
    rw [hwk]
    by_cases ha:Bq al=true
    · have h00:¬w.length≤50000:=fun h=>h0 ⟨ha,h⟩
      rw [ha] at h1
      refine eG Tryz.func50 rfl (by kernel_rfl) rfl ?_;intro Γ hΓ
      (repeat first|refine tA rfl ?_ |refine s2 rfl fun _ _hb=>?_ |refine sP rfl (h1) rfl ?_ |refine s3 rfl ?_ ?_<;>rintro rfl |refine aU rfl ?_ |refine Aa ?_)
      (repeat' first|refine tA rfl ?_ |refine s2 rfl fun _ _hb=>?_ |refine sP rfl (h1) rfl ?_ |refine aU rfl ?_ |refine Aa ?_|(refine aC rfl ?_ ?_<;>rintro ⟨⟩));all_goals try contradiction
      all_goals first
        | (exfalso;(simp only[oZ] at *;omega);done)
        | (subst_vars;exact aR ⟨_,rfl,rfl⟩)
    · rw [Bool.not_eq_true _ |>.mp ha] at h1
      refine eG Tryz.func50 rfl (by kernel_rfl) rfl ?_;intro Γ hΓ
      (repeat first|refine tA rfl ?_ |refine s2 rfl fun _ _hb=>?_ |refine sP rfl (h1) rfl ?_ |refine s3 rfl ?_ ?_<;>rintro rfl |refine aU rfl ?_ |refine Aa ?_)
      (repeat' first|refine tA rfl ?_ |refine s2 rfl fun _ _hb=>?_ |refine sP rfl (h1) rfl ?_ |refine aU rfl ?_ |refine Aa ?_|(refine aC rfl ?_ ?_<;>rintro ⟨⟩));all_goals try contradiction
      (subst_vars;exact aR ⟨_,rfl,rfl⟩)
theorem Gm (p:B6) (w:W) (hl:w.length≤1099511627776):Pure Tryz.prog TB 37 [BC p,eT w] (eI .i64 (Bp p w)):=by
  have h1:=BP (TB:=TB) p
  have h2:=Dn (TB:=TB) w p.al hl
  by_cases hp:A6 p=true
  · by_cases hw0:within w p.al=true
    · have hs:Bp p w=CP p 0 w:=by unfold Bp;rw [hp,hw0];rfl
      rw [hs]
      rw [hp] at h1
      rw [hw0] at h2
      have h3:=Hs (TB:=TB) p hp
      have hw:=Ck hw0
      have hph:=AT hp
      refine eG Tryz.func37 rfl (by kernel_rfl) rfl ?_;intro Γ hΓ
      (repeat first|refine tA rfl ?_ |refine s2 rfl fun _ _hb=>?_ |refine sP rfl (h1) rfl ?_|refine sP rfl (h2) rfl ?_ |refine s3 rfl ?_ ?_<;>rintro rfl |refine aU rfl ?_ |refine Aa ?_)
      (repeat' first|refine tA rfl ?_ |refine s2 rfl fun _ _hb=>?_ |refine sP rfl (h1) rfl ?_|refine sP rfl (h2) rfl ?_ |refine aU rfl ?_ |refine Aa ?_|(refine aC rfl ?_ ?_<;>rintro ⟨⟩));all_goals try contradiction
      refine aK ?_
      (repeat first|refine tA rfl ?_ |refine sP rfl (h3) rfl ?_ |refine aU rfl ?_ |refine Aa ?_)
      refine aB ?_
      refine aL (α:={k:Nat // k≤w.length}) [1,5,21] [] rfl rfl (fun ⟨k,hk⟩=>[(6,eI .i64 (CP p 0 (w.take k))),(22,eI .i64 k)]) (fun ⟨k,hk⟩=>[]) 0 (fun ⟨k,hk⟩=>w.length - k) (⟨0,by omega⟩) hΓ rfl (by (simp[cX,zC,hΓ]<;>rfl)) ?_;rintro ⟨k,hk⟩;(try dsimp only[cA,cB])
      have hr:=GK hp (w.take k) 0 (MO hw k) (by omega)
      by_cases hlt:k < w.length
      · obtain ⟨c,hc⟩:=get_some hlt
        have hc':w[((k:Nat):Int).toNat]? = some c:=by simpa using hc
        have hcl:=GB (hw c (List.mem_of_getElem? hc))
        have hla:=Ez (TB:=TB) w k c hc' hcl
        have ta:=Ni (a:=p) (q:=(CP p 0 (w.take k)).toNat) (by omega)
        have el:((((c.toNat:Int) - 97).toNat:Nat):Int)=(c.toNat:Int) - 97:=by omega
        have ra:=KQ (h:=fun l=>C7 p (CP p 0 (w.take k)).toNat l) hcl.1 (by omega)
        simp only [el] at ra
        have hst:=I6 (p:=p) hc 0
        (repeat first|refine s2 rfl fun _ _hb=>?_ |refine aU rfl ?_ |refine Aa ?_)
        ((refine aC rfl ?_ ?_<;>rintro ⟨⟩);all_goals try(exfalso;(simp only[oZ] at *;omega)))
        refine aK ?_
        refine aS (aB ?_)
        (repeat first|refine tA rfl ?_ |refine aU rfl ?_ |refine Aa ?_)
        refine rG (Hf []) (by kernel_rfl) ?_
        (repeat first|(refine sA rfl ?_ ?_;first|exact tI|omega) |(refine s4 rfl ‹_› rfl ?_ ?_;omega) |refine sP rfl (hla) rfl ?_|(refine Ag rfl ?_;refine gA rfl ?_;first| refine gS (fun _ _=>E9 rfl ra) ?_) |refine aU rfl ?_ |refine Aa ?_)
        refine ⟨⟨k+1,by omega⟩,by dsimp only;(omega),[],?_⟩
        simp[cX,zC,hΓ,hst]
      · obtain rfl:k=w.length:=by omega
        rw [List.take_length] at *
        (repeat first|refine s2 rfl fun _ _hb=>?_ |refine aU rfl ?_ |refine Aa ?_)
        ((refine aC rfl ?_ ?_<;>rintro ⟨⟩);all_goals try(exfalso;(simp only[oZ] at *;omega)))
        refine aE ?_
        (repeat first|refine tA rfl ?_ |refine aU rfl ?_ |refine Aa ?_)
        (subst_vars;exact aR ⟨_,rfl,rfl⟩)
    · have hs:Bp p w = -1:=by unfold Bp;rw [hp,Bool.not_eq_true _ |>.mp hw0];rfl
      rw [hs]
      rw [hp] at h1
      rw [Bool.not_eq_true _ |>.mp hw0] at h2
      refine eG Tryz.func37 rfl (by kernel_rfl) rfl ?_;intro Γ hΓ
      (repeat first|refine tA rfl ?_ |refine s2 rfl fun _ _hb=>?_ |refine sP rfl (h1) rfl ?_|refine sP rfl (h2) rfl ?_ |refine s3 rfl ?_ ?_<;>rintro rfl |refine aU rfl ?_ |refine Aa ?_)
      (repeat' first|refine tA rfl ?_ |refine s2 rfl fun _ _hb=>?_ |refine sP rfl (h1) rfl ?_|refine sP rfl (h2) rfl ?_ |refine aU rfl ?_ |refine Aa ?_|(refine aC rfl ?_ ?_<;>rintro ⟨⟩));all_goals try contradiction
      (subst_vars;exact aR ⟨_,rfl,rfl⟩)
  · have hs:Bp p w = -1:=by unfold Bp;rw [Bool.not_eq_true _ |>.mp hp];rfl
    rw [hs]
    rw [Bool.not_eq_true _ |>.mp hp] at h1
    refine eG Tryz.func37 rfl (by kernel_rfl) rfl ?_;intro Γ hΓ
    (repeat first|refine tA rfl ?_ |refine s2 rfl fun _ _hb=>?_ |refine sP rfl (h1) rfl ?_ |refine s3 rfl ?_ ?_<;>rintro rfl |refine aU rfl ?_ |refine Aa ?_)
    (repeat' first|refine tA rfl ?_ |refine sP rfl (h1) rfl ?_ |refine aU rfl ?_ |refine Aa ?_|(refine aC rfl ?_ ?_<;>rintro ⟨⟩));all_goals try contradiction
    (subst_vars;exact aR ⟨_,rfl,rfl⟩)
theorem Jw (p:B6) (w:W) (hl:w.length≤1099511627776):Pure Tryz.prog TB 28 [BC p,eT w] (eB (FP p w)):=by
  have h1:=Gm (TB:=TB) p w hl
  by_cases hv:(A6 p && within w p.al)=true
  · have hs:Bp p w=CP p 0 w:=by unfold Bp;rw [if_pos hv]
    rw [hs] at h1
    rw [Bool.and_eq_true] at hv
    have hph:=AT hv.1
    have hr:=GK hv.1 w 0 (Ck hv.2) (by omega)
    obtain ⟨b,hb⟩:=get_some (l:=p.ac) (k:=(CP p 0 w).toNat) (by omega)
    have hb':(p.ac.map HB)[(CP p 0 w).toNat]? = some (HB b):=by simp [hb]
    have ha:FP p w=b:=by unfold FP LA;simp [hv.1,hv.2,List.getD,hb]
    rw [ha]
    refine eG Tryz.func28 rfl (by kernel_rfl) rfl ?_;intro Γ hΓ
    (repeat first|refine tA rfl ?_ |(refine s4 rfl ‹_› rfl ?_ ?_;omega) |refine s2 rfl fun _ _hb=>?_ |refine sP rfl (h1) rfl ?_ |refine s3 rfl ?_ ?_<;>rintro rfl |refine aU rfl ?_ |refine Aa ?_)
    (repeat' first|refine tA rfl ?_ |refine sP rfl (h1) rfl ?_ |refine Aa ?_|(refine aC rfl ?_ ?_<;>rintro ⟨⟩));all_goals try contradiction
    all_goals first
      | (exfalso;(simp only[oZ] at *;omega);done)
      | (subst_vars;exact aR ⟨_,rfl,rfl⟩)
  · have hs:Bp p w = -1:=by unfold Bp;rw [if_neg hv]
    rw [hs] at h1
    have ha:FP p w=false:=by unfold FP;grind
    rw [ha]
    refine eG Tryz.func28 rfl (by kernel_rfl) rfl ?_;intro Γ hΓ
    (repeat first|refine tA rfl ?_ |refine s2 rfl fun _ _hb=>?_ |refine sP rfl (h1) rfl ?_ |refine s3 rfl ?_ ?_<;>rintro rfl |refine aU rfl ?_ |refine Aa ?_)
    (repeat' first|refine tA rfl ?_ |refine sP rfl (h1) rfl ?_ |refine Aa ?_|(refine aC rfl ?_ ?_<;>rintro ⟨⟩));all_goals try contradiction
    all_goals first
      | (exfalso;omega;done)
      | (subst_vars;exact aR ⟨_,rfl,rfl⟩)
theorem E1 (t:B3):Pure Tryz.prog TB 70 [FT t] (eB (AQ t)):=by
  unfold AQ
  refine eN Tryz.func70 rfl (by kernel_rfl) rfl ?_;intro Γ hΓ
  (repeat' first|refine tA rfl ?_ |(refine sC rfl (Hg t.s) ?_;intro _ _hb)|(refine sC rfl (BP t.q) ?_;intro _ _hb)|(refine sC rfl (Dy t.al) ?_;intro _ _hb) |refine s3 rfl ?_ ?_<;>rintro rfl |refine aU rfl ?_ |refine Aa ?_|(refine aC rfl ?_ ?_<;>rintro ⟨⟩)|refine aK ?_|refine aE ?_|refine aB ?_|refine aR ⟨_,rfl,?_⟩)
  all_goals (show E.o _=E.o _;simp_all)
abbrev Zr (p:B6) (t:B3):E:=YH false p t.s t.q t.al
theorem Eo (p:B6) (t:B3):Pure Tryz.prog TB 26 [Zr p t] (eI .i64 (if AQ t then t.al else -1)):=by
  have hv:=E1 (TB:=TB) t
  refine eN Tryz.func26 rfl (by kernel_rfl) rfl ?_;intro Γ hΓ
  (repeat' first|refine tA rfl ?_ |refine s2 rfl fun _ _hb=>?_ |(refine sC rfl (hv) ?_;intro _ _hb) |refine s3 rfl ?_ ?_<;>rintro rfl |refine aU rfl ?_ |refine Aa ?_|(refine aC rfl ?_ ?_<;>rintro ⟨⟩)|refine aK ?_|refine aE ?_|refine aB ?_|refine aR ⟨_,rfl,?_⟩)
  all_goals first
    | (show E.o _=E.o _;congr;grind)
    | (exfalso;simp at *;done)
theorem Lq (p:B6) {t:B3} (ht:AQ t=false):Pure Tryz.prog TB 57 [Zr p t] (.t [(true,[.d (iD 0),.d (.v .nilFunc)]),(false,[.d (bD false)])]):=by
  have hT:=Eo (TB:=TB) p t
  rw [if_neg (by simp [ht])] at hT
  refine eG Tryz.func57 rfl (by kernel_rfl) rfl ?_;intro Γ hΓ
  (repeat first|refine tA rfl ?_ |refine sP rfl (hT) rfl ?_ |refine aU rfl ?_ |refine Aa ?_)
  refine aB ?_
  (repeat first|refine tA rfl ?_ |refine s2 rfl fun _ _hb=>?_ |refine aU rfl ?_ |refine Aa ?_)
  ((refine aC rfl ?_ ?_<;>rintro ⟨⟩);all_goals try (simp at _hb;done))
  · (repeat first|refine tA rfl ?_|(refine Ag rfl ?_;refine gA rfl ?_;first| refine gS (fun _ _=>AD rfl rfl (by rfl) (by rfl)) ?_) |refine aU rfl ?_ |refine Aa ?_)
    refine aR ⟨_,rfl,rfl⟩
abbrev Gk (c:C):C:=.mv 108 [c]
theorem Lr [DT TB] (p:B6) {t:B3} (ht:AQ t=true) (ok:W→Prop):∃m,Jd t ok m∧AP Tryz.prog TB 57 0 [] 0 [Zr p t] (fun x σ nx=>x=.t [(true,[.d (iD t.al),Gk (.ptr 0 14 0 0)]),(false,[.d (bD true)])]∧σ=JB t m∧nx=5):=by
  obtain ⟨m,hm,hns⟩:=HT (TB:=TB) ht ok
  refine ⟨m,hm,?_⟩
  have hT:=Eo (TB:=TB) p t
  rw [if_pos ht] at hT
  have hta:Bq t.al=true:=by unfold AQ at ht;simp only [Bool.and_eq_true] at ht;exact ht.2.2
  unfold Bq at hta
  simp only [decide_eq_true_eq] at hta
  refine AP.AO (AP.Np (m:=0) (Nat.le_of_ble_eq_true rfl) Tryz.func57 rfl (by kernel_rfl) (Nat.le_of_ble_eq_true rfl) ?_);intro Γ hΓ
  (repeat first|refine tA rfl ?_ |refine sP rfl (hT) rfl ?_ |refine aU rfl ?_ |refine Aa ?_)
  refine aB ?_
  (repeat first|refine tA rfl ?_ |refine s2 rfl fun _ _hb=>?_ |refine aU rfl ?_ |refine Aa ?_)
  ((refine aC rfl ?_ ?_<;>rintro ⟨⟩);all_goals try (simp at _hb;done))
  · exfalso;(simp only[oZ] at *;omega)
  · (repeat first|refine tA rfl ?_ |refine aU rfl ?_ |refine Aa ?_)
    ((refine aC rfl ?_ ?_<;>rintro ⟨⟩);all_goals try (simp at _hb;done))
    refine aK ?_
    (repeat first|refine tA rfl ?_ |refine aU rfl ?_)
    (refine pW rfl ?_ rfl (by rfl);refine Bo [] rfl rfl 0 (hns) (by decide) ⟨rfl,by decide,by decide⟩ rfl (by simp[cX,zC,hΓ,AE]) ?_;rintro x0 σ1 nx1 ⟨rfl,rfl,rfl⟩ _)
    (repeat first| (refine Ag rfl ?_;refine gA rfl ?_;first| refine gS (fun _ _=>Zo rfl) ?_))
    (repeat first|refine tA rfl ?_|(refine Ag rfl ?_;refine gA rfl ?_;first| refine gS (fun _ _=>AD rfl rfl (by rfl) (by rfl)) ?_))
    refine Aa ?_
    refine aR ⟨_,rfl,[1,2,3,4,5],.t [(true,[.d (iD t.al),Gk (.ptr 0 14 0 0)]),(false,[.d (bD true)])],JB t m,⟨by intro i hi;omega,by decide⟩,rfl,by (simp[cX,zC,hΓ,AE]),rfl,rfl,rfl⟩
def DH (te:Dx):Bool:=if te.kn then A6 te.p else AQ ⟨te.s,te.q,te.al⟩
def AM (te:Dx):Int:=if te.kn then te.p.al else te.al
noncomputable def CG (te:Dx) (w:W):Bool:=if te.kn then LA te.p w else LS ⟨te.s,te.q,te.al⟩ w
def Nj (te:Dx) (ok:W→Prop):Prop:=te.kn=false→VL ⟨te.s,te.q,te.al⟩ ok
abbrev Xt (al:Int):W→Prop:=fun w=>AV (Bl al) w∧w.length≤1048576
theorem Y5 {tabs:List (Nat×Obj)} [DT ⟨tabs,none⟩] {t:B3} {ok:W→Prop} (ht:AQ t=true) (hsub:∀w,ok w→Xt t.al w) (hfew:VL t ok) {r:Nat}:FF Tryz.prog ⟨tabs,some (Jp t ok,r)⟩ (Gk (Ia r)) (LS t) ok:=
  ⟨rfl,fun hx ha hw=>Tx (es:=[eT _]) hx (by simp [Gw,ha]) rfl (Ua ht hfew hw (fun c hc=>GB ((hsub _ hw).1 c hc)) (hsub _ hw).2) rfl⟩
theorem YF {tabs:List (Nat×Obj)} {h:Option (Hid×Nat)} {b:Nat} {vals:List Value} (hT:Iw ⟨tabs,none⟩ b vals):Iw ⟨tabs,h⟩ b vals:=⟨hT.out⟩
theorem Xe {tabs:List (Nat×Obj)} {h:Option (Hid×Nat)} (hT:DT ⟨tabs,none⟩):DT ⟨tabs,h⟩:=by
  cases hT
  constructor<;>(apply YF;assumption)
theorem both {X:Ba→Ctx→C→Prop} {Y:Prop} (h:∀(TB1:Ba) (Γ1:Ctx) (c1:C),Γ1.V.nx=0→X TB1 Γ1 c1) (hk:(∀(TB1:Ba) (Γ1:Ctx) (c1:C),Γ1.V.nx=0→X TB1 Γ1 c1)→Y):Y:=hk h
theorem FF.sub {P:Program} {c:C} {L:W→Bool} {ok ok':W→Prop} (h:FF P TB c L ok) (hs:∀w,ok' w→ok w):FF P TB c L ok':=⟨h.Bc,fun hx ha hw=>h.ask hx ha (hs _ hw)⟩
end Go.Am
