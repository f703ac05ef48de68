/-
  Verdicts held against each other and marked: walked.
-/
import Derived.Test.YtbfgijpfhgmepaaGreatDoorPart23
import Derived.Test.YtbfgijpfhgmepaaGreatDoorPart25
import Derived.Test.YtbfgijpfhgmepaaGreatDoorPart24
import Derived.Test.YtbfgijpfhgmepaaGreatDoorPart22
import Derived.Test.YtbfgijpfhgmepaaGreatDoorRows
import Derived.JoinedCond
import Derived.KernelRfl
set_option linter.constructorNameAsVariable false
set_option linter.unusedSectionVars false
set_option linter.unusedSimpArgs false
set_option linter.unusedVariables false
namespace Go.Am
open Go Go.Proofs
set_option maxHeartbeats 1000000
attribute [local irreducible] AQ BS Lex Bc Av Spec
variable {TB:Bs}
theorem QE{σ:Ab}{T:TypeId}{i n:Nat}{s:Sys}(h0:look σ i=some (.cells T 3 (s.es.map Az)))(hn:s.es.length=n):EZ σ (.a [.d (iD s.al),.d (iD s.st),.arr i 3 0 n]) (Bt s):=by
 subst hn
 exact .a (ds:=[iD s.al,iD s.st,Ef s.es]) (.cons .d (.cons .d (.cons (.full h0 (by simp [Function.comp_def]) (List.length_map _)) .nil)))
theorem ep{σ:Ab}{T U S:TypeId}{i j k n m:Nat}{l:IH}{v:Vd}(h0:look σ i=some (.cells T 1 (Be l)))(h1:look σ j=some (.cells U 1 (v.a.ac.map AB)))(h2:look σ k=some (.sld S (sI l)))(hl:l.map (·.2)=v.a.nx)(hn:l.length=n)(hm:v.a.ac.length=m) :
 EZ σ (.a [.d (iD v.code),.d (iD v.a.al),.arr i 1 0 n,.arr j 1 0 m,.d (tD v.tr),.d (iD v.rd)]) (P6 v):=by
 obtain⟨code,⟨al,nx,ac⟩,tr,rd⟩:=v
 dsimp only at *
 subst hl hn hm
 exact .a (ds:=[iD code,iD al,CD (l.map (·.2)),Ez ac,tD tr,iD rd]) (.cons .d (.cons .d (.cons (.jw h0 h2) (.cons (.full h1 (by simp [Function.comp_def]) (List.length_map _)) (.cons .d (.cons .d .nil))))))
theorem bM(r:Nat→Nat)(a b d:Int)(c:W)(n m:Nat):E.Ig (E.A1 r (.a [.d (iD a),.d (iD b),.arr 0 1 0 n,.arr 1 1 0 m,.d (tD c),.d (iD d)])):=by
 show ∀x∈[C.d (iD a),C.d (iD b),C.arr (r 0) 1 0 n,C.arr (r 1) 1 0 m,C.d (tD c),C.d (iD d)],C.Ig x=true
 simp [C.Ig]
theorem iv(r:Nat→Nat)(v:Vd)(h:v.a=Hl):E.Ig (E.A1 r (P6 v)):=by
 obtain⟨code,a,tr,rd⟩:=v
 obtain rfl:a=Hl:=h
 show ∀x∈[C.d (iD code),C.d (iD 0),C.d (.l []),C.d (.l []),C.d (tD tr),C.d (iD rd)],C.Ig x=true
 simp [C.Ig]
theorem Sd(v:Vd):Pure Tryz.prog TB 24 [P6 v,P6 v] (eB true):=by
 have h1:=IU (TB:=TB) v.a
 refine eG Tryz.func24 rfl (by kernel_rfl) rfl ?_;intro Γ hΓ
 (repeat first|refine tA rfl ?_ |refine s2 rfl fun _ _hb=>?_ |refine aU rfl ?_ |refine Aa ?_)
 ((refine aC rfl ?_ ?_<;>rintro⟨⟩);all_goals try (simp at _hb;done))
 refine aK ?_
 (repeat first|refine tA rfl ?_ |refine s2 rfl fun _ _hb=>?_ |refine sP rfl (h1) rfl ?_ |refine aU rfl ?_ |refine Aa ?_)
 ((refine aC rfl ?_ ?_<;>rintro⟨⟩);all_goals try (simp at _hb;done))
 refine aK ?_
 (repeat first|refine tA rfl ?_ |refine s2 rfl fun _ _hb=>?_ |refine aU rfl ?_ |refine Aa ?_)
 ((refine aC rfl ?_ ?_<;>rintro⟨⟩);all_goals try (simp at _hb;done))
 refine aK ?_
 (repeat first|refine tA rfl ?_ |refine s2 rfl fun _ _hb=>?_ |refine aU rfl ?_ |refine Aa ?_)
 ((refine aC rfl ?_ ?_<;>rintro⟨⟩);all_goals try (simp at _hb;done))
 refine aK ?_
 (repeat first|refine tA rfl ?_ |refine aU rfl ?_ |refine Aa ?_)
 (subst_vars;exact aR ⟨_,rfl,rfl⟩)
theorem OW(v:Vd)(l:IH)(k:Int)(h0:0≤k)(h1:k+(Bg l).sum≤576460752303423488)(h2:l.length≤576460752303423488)(h3:v.a.ac.length≤576460752303423488) :
 Spec Tryz.prog TB 25 [(0,.cells 62 1 (Be l)),(1,.cells 4 1 (v.a.ac.map AB)),(2,.sld 3 (sI l))] 3 [.a [.d (iD v.code),.d (iD v.a.al),.arr 0 1 0 l.length,.arr 1 1 0 v.a.ac.length,.d (tD v.tr),.d (iD v.rd)],eI .i64 k]
  (fun x σ nx=>∃l':IH,l'.map (·.2)=Kf k (Bg l)∧x=eI .i64 (k+(Bg l).sum+v.a.ac.length)∧nx=3∧σ=[(0,.cells 62 1 (Be l')),(1,.cells 4 1 ((IE (k+(Bg l).sum) v.a.ac.length).map AB)),(2,.sld 3 (sI l'))]):=by
 have c1:=E4 (TB:=TB) v.a.al l v.a.ac k h0 h1 h2 h3
 refine eR Tryz.func25 rfl (by kernel_rfl) rfl ?_;intro Γ hΓ
 (repeat first|refine aU rfl ?_)
 (refine pW rfl ?_ rfl (by rfl);refine Di rfl rfl ?_)
 (repeat first|refine tA rfl ?_ |refine aU rfl ?_ |refine Aa ?_)
 (refine pW rfl ?_ rfl (by rfl);refine Bq [0,1,2] rfl rfl (c1) ⟨rfl,by decide,by decide⟩ rfl (by simp[cX,zC,hΓ,cN]) ?_;rintro x0 σ1 nx1 ⟨u,hu,rfl,rfl,rfl⟩ _)
 (repeat first|refine tA rfl ?_ |refine aU rfl ?_ |refine Aa ?_)
 exact aR ⟨_,rfl,[0,1,2],eI .i64 (k+(Bg l).sum+v.a.ac.length),[(0,.cells 62 1 (Be u)),(1,.cells 4 1 ((IE (k+(Bg l).sum) v.a.ac.length).map AB)),(2,.sld 3 (sI u))],⟨by intro i hi;match i with|0=>rfl|1=>rfl|2=>rfl,by decide⟩,rfl,by (simp[cX,zC,hΓ,cN]),u,hu,rfl,rfl,rfl⟩
theorem Nz(v:Vd)(h:v.a=Hl):Pure Tryz.prog TB 25 [P6 v,eI .i64 1] (eI .i64 1):=by
 obtain⟨code,a,tr,rd⟩:=v
 obtain rfl:a=Hl:=h
 have c1:Pure Tryz.prog TB 21 [Bo Hl,eI .i64 1] (eI .i64 1):=KU (TB:=TB)
 refine eG Tryz.func25 rfl (by kernel_rfl) rfl ?_;intro Γ hΓ
 (repeat first|refine tA rfl ?_ |refine sP rfl (c1) rfl ?_ |refine aU rfl ?_ |refine Aa ?_)
 (subst_vars;exact aR ⟨_,rfl,rfl⟩)
theorem OF(v:Vd)(ns:List Nat)(n:Nat)(k:Int)(h0:0≤k)(h1:k+ns.sum+n≤1152921504606846976)(h2:ns.length≤1152921504606846976):Pure Tryz.prog TB 26 [P6 ⟨v.code,⟨v.a.al,Kf k ns,IE (k+ns.sum) n⟩,v.tr,v.rd⟩,eI .i64 k] (eI .i64 (k+ns.sum+n)):=by
 have c1:=HC (TB:=TB) v.a.al ns n k h0 h1 h2
 refine eG Tryz.func26 rfl (by kernel_rfl) rfl ?_;intro Γ hΓ
 (repeat first|refine tA rfl ?_ |refine s2 rfl fun _ _hb=>?_ |refine sP rfl (c1) rfl ?_ |refine aU rfl ?_ |refine Aa ?_)
 ((refine aC rfl ?_ ?_<;>rintro⟨⟩);all_goals try(exfalso;(simp only[oZ] at *;omega)))
 refine aK ?_
 (repeat first|refine tA rfl ?_ |refine aU rfl ?_ |refine Aa ?_)
 (subst_vars;exact aR ⟨_,rfl,rfl⟩)
theorem Ny(v:Vd)(h:v.a=Hl):Pure Tryz.prog TB 26 [P6 v,eI .i64 1] (eI .i64 1):=by
 obtain⟨code,a,tr,rd⟩:=v
 obtain rfl:a=Hl:=h
 have c1:Pure Tryz.prog TB 22 [Bo Hl,eI .i64 1] (eI .i64 1):=KL (TB:=TB)
 refine eG Tryz.func26 rfl (by kernel_rfl) rfl ?_;intro Γ hΓ
 (repeat first|refine tA rfl ?_ |refine s2 rfl fun _ _hb=>?_ |refine sP rfl (c1) rfl ?_ |refine aU rfl ?_ |refine Aa ?_)
 ((refine aC rfl ?_ ?_<;>rintro⟨⟩);all_goals try(exfalso;(simp only[oZ] at *;omega)))
 refine aK ?_
 (repeat first|refine tA rfl ?_ |refine aU rfl ?_ |refine Aa ?_)
 (subst_vars;exact aR ⟨_,rfl,rfl⟩)
theorem Y9{a:AZ}(h:AL a=true):a.nx.length≤1048576∧(∀r∈a.nx,r.length≤1048576)∧a.ac.length≤1048576:=by
 obtain⟨_,h1,h2,h3⟩:=AF h
 refine⟨by omega,fun r hr=>?_,by omega⟩
 obtain⟨i,hi⟩:=List.mem_iff_getElem?.1 hr
 obtain⟨row,g1,g2,_⟩:=(XG h).2 i (List.getElem?_eq_some_iff.1 hi).1
 rw [hi] at g1
 injection g1 with g1
 subst g1
 have:(Ac a.al).length≤6:=AS _ 6
 omega
theorem gh(s t:Sys)(p:AZ):(C8 s t p).a.nx.length≤1048576∧(∀r∈(C8 s t p).a.nx,r.length≤1048576)∧(C8 s t p).a.ac.length≤1048576:=by
 have h0:(C8 s t p).a=Hl→(C8 s t p).a.nx.length≤1048576∧(∀r∈(C8 s t p).a.nx,r.length≤1048576)∧(C8 s t p).a.ac.length≤1048576:=fun e=>by rw [e];exact⟨Nat.zero_le _,⟨fun r hr=>absurd hr List.not_mem_nil,Nat.zero_le _⟩⟩
 by_cases h:Bz s p t < 0
 ·rw [Tj h];exact⟨Nat.zero_le _,⟨fun r hr=>absurd hr List.not_mem_nil,Nat.zero_le _⟩⟩
 ·obtain⟨x,hx,_,hc⟩:=aw (HD h)
  rcases hc with ⟨e,_⟩|⟨e,_⟩|⟨e,_⟩
  ·rw [e];exact Y9 (LP (HD h) hx).1
  ·exact h0 (by rw [e])
  ·exact h0 (by rw [e])
theorem aZ(s:Sys)(p:AZ)(al:Int):JU Tryz.prog TB 120 175 (En s p al) (D0 (En s p al)) (Fc (En s p al)):=gU (t:=En s p al) rfl
theorem dL{te:Ex}:0≤D0 te→A2 (D0 te)=true:=fun h=>by
 unfold D0 at *
 split at h
 ·rename_i hk;rw [if_pos hk];exact HS hk
 ·omega
theorem ae(s:Sys)(p:AZ)(al:Int):Pure Tryz.prog TB 68 [Ew (En s p al)] (Iv (SA (En s p al))):=by
 rw [←iF];exact SD (aZ s p al)
theorem ah(s:Sys)(p:AZ)(al:Int)(x:AT)(hz:VC x):Pure Tryz.prog TB 69 [Ew (En s p al),DO x] (gp (Y8 (En s p al) x)):=by
 rw [←gX];exact Hf (aZ s p al) x hz
theorem WW(s:Sys)(p:AZ)(al:Int)(x:AT)(hz:VC x)(w:W)(hw:w.length≤4000):Pure Tryz.prog TB 73 [Ew (En s p al),DO x,eT w] (Iv (Lq (En s p al) x w)):=by
 rw [←fS];exact Qf (aZ s p al) (dL (te:=En s p al)) x hz w (by omega)
theorem Ix(w:W)(al:Int)(hw:Ep w=true)(ha:A2 al=true)(hl:w.length≤50000):Pure Tryz.prog TB 127 [eT w,eI .i64 al] (eT (IG al w)):=by
 have h1:=LC (TB:=TB) w (by omega)
 have h2:=DS (TB:=TB) al
 have hall:∀c∈w,FU c=true:=by
  unfold Ep at hw
  rw [Bool.and_eq_true,List.all_eq_true] at hw
  exact hw.2
 rw [hw] at h1
 rw [ha] at h2
 refine eG Tryz.func127 rfl (by kernel_rfl) rfl ?_;intro Γ hΓ
 (repeat first|refine tA rfl ?_ |refine s2 rfl fun _ _hb=>?_ |refine sP rfl (h1) rfl ?_|refine sP rfl (h2) rfl ?_ |refine s3 rfl ?_ ?_<;>rintro rfl |refine aU rfl ?_ |refine Aa ?_)
 (repeat' first|refine tA rfl ?_ |refine s2 rfl fun _ _hb=>?_ |refine sP rfl (h1) rfl ?_|refine sP rfl (h2) rfl ?_ |refine aU rfl ?_ |refine Aa ?_|(refine aC rfl ?_ ?_<;>rintro⟨⟩));all_goals try contradiction
 refine aK ?_
 (repeat first|refine aU rfl ?_)
 (refine pW rfl ?_ rfl (by rfl);refine BL rfl rfl rfl rfl (by simp) (by rfl) (by rfl) (by rfl) (by rfl) ?_)
 (repeat first|refine tX rfl ?_ |refine aU rfl ?_ |refine Aa ?_)
 refine aB ?_
 refine aL (α:={k:Nat // k≤w.length}) [0,1] [] rfl rfl (fun ⟨k,hk⟩=>[(5,.o (.arr 0 1 0 (IG al (w.take k)).length)),(6,eI .i64 k)]) (fun ⟨k,hk⟩=>[(0,.cells 5 1 ((IG al (w.take k)).map Fs))]) 1 (fun ⟨k,hk⟩=>w.length - k) (⟨0,by omega⟩) hΓ rfl (by (simp[cX,zC,hΓ,IG])) ?_;rintro⟨k,hk⟩;(try dsimp only[cA,cB])
 by_cases hlt:k < w.length
 ·obtain⟨c,hc⟩:=get_some hlt
  have hc':w[((k:Nat):Int).toNat]? = some c:=by simpa using hc
  have hch:=hall c (List.mem_of_getElem? hc)
  have hch2:=hch
  rw [Ft,decide_eq_true_eq] at hch2
  have hla:=Jr (TB:=TB) w k c hc'
  have hha:=CT (TB:=TB) al ((c.toNat:Int) - 97) (by omega) (by omega)
  have e:AV al ((c.toNat:Int) - 97).toNat=Ie al c:=by
   unfold Ie
   rw [hch,Bool.true_and]
   congr 1
   omega
  rw [e] at hha
  have hst:=Rv (al:=al) hc
  have hrl:=UL al (w.take k)
  rw [List.length_take] at hrl
  (repeat first|refine tA rfl ?_ |refine s2 rfl fun _ _hb=>?_ |refine aU rfl ?_ |refine Aa ?_)
  ((refine aC rfl ?_ ?_<;>rintro⟨⟩);all_goals try(exfalso;(simp only[oZ] at *;omega)))
  refine aK ?_
  refine aS (aB ?_)
  cases hcc:Ie al c
  ·rw [hcc] at hha hst
   (repeat first|refine tA rfl ?_ |refine sP rfl (hla) rfl ?_|refine sP rfl (hha) rfl ?_ |refine aU rfl ?_ |refine Aa ?_)
   ((refine aC rfl ?_ ?_<;>rintro⟨⟩);all_goals try (simp at _hb;done))
   refine aK ?_
   (repeat first|(refine sA rfl ?_ ?_;first|exact tI|omega) |refine aU rfl ?_ |refine Aa ?_)
   refine⟨⟨k+1,by omega⟩,by dsimp only;(omega),[0],?_⟩
   simp[cX,zC,hΓ,hst,Fs,FD]
  ·rw [hcc] at hha hst
   (repeat first|refine tA rfl ?_ |refine sP rfl (hla) rfl ?_|refine sP rfl (hha) rfl ?_ |refine aU rfl ?_ |refine Aa ?_)
   ((refine aC rfl ?_ ?_<;>rintro⟨⟩);all_goals try (simp at _hb;done))
   (repeat first|refine tA rfl ?_ |(refine s4 rfl ‹_› rfl ?_ ?_;omega) |refine aU rfl ?_)
   (refine pW rfl ?_ rfl (by rfl);refine AH rfl rfl rfl (by first| (simp;done)|(simp;(omega))) rfl (by intro r hr;simp at hr;subst hr;rfl) (by rfl) (Nat.le_of_ble_eq_true rfl) (by simp;omega) ?_)
   (repeat first|(refine sX rfl ?_ ?_;first|exact tI|omega) |refine aU rfl ?_ |refine Aa ?_)
   refine⟨⟨k+1,by omega⟩,by dsimp only;(omega),[1],?_⟩
   simp[cX,zC,hΓ,hst,FD,Fs,List.map_append,Mw]
 ·obtain rfl:k=w.length:=by omega
  rw [List.take_length] at *
  (repeat first|refine tA rfl ?_ |refine s2 rfl fun _ _hb=>?_ |refine aU rfl ?_ |refine Aa ?_)
  ((refine aC rfl ?_ ?_<;>rintro⟨⟩);all_goals try(exfalso;(simp only[oZ] at *;omega)))
  refine aE ?_
  (repeat first|refine tM rfl ?_|(refine Ai rfl ?_;refine gA rfl ?_;first| refine gQ (N6 (IG al w) rfl rfl (by simp) (by first| rw [List.drop_zero,List.take_of_length_le (by simp)]|rw [List.drop_zero,SU,List.take_of_length_le (by simp)])) (by rfl) ?_) |refine aU rfl ?_ |refine Aa ?_)
  (subst_vars;exact aR ⟨_,rfl,rfl⟩)
abbrev jS(w:W)(c:Int):E:=.t [(false,[.d (tD w)]),(false,[.d (iD c)])]
section
variable [Dl TB]{s t:Sys}{p:AZ}{al:Int}(hI:Fp s p t al)
include hI
theorem Uh{a:AZ}(h:FY s t p al a=none):Pure Tryz.prog TB 70 [Bt t,P5 ⟨s,p,al⟩,Bo a] (jS [] 0):=by
 obtain⟨g1,g2⟩:=UK h
 have h1:=EX (TB:=TB) s a p
 have h2:=EU (TB:=TB) t a
 rw [g1] at h1
 rw [g2] at h2
 refine eG Tryz.func70 rfl (by kernel_rfl) rfl ?_;intro Γ hΓ
 (repeat first|refine tA rfl ?_ |refine sP rfl (h1) rfl ?_|refine sP rfl (h2) rfl ?_ |refine aU rfl ?_ |refine Aa ?_)
 (repeat' first|refine sP rfl (h1) rfl ?_|refine sP rfl (h2) rfl ?_|(refine aC rfl ?_ ?_<;>rintro⟨⟩));all_goals try contradiction
 refine aK ?_
 (repeat first|refine tA rfl ?_ |refine s2 rfl fun _ _hb=>?_ |refine sP rfl (h2) rfl ?_ |refine aU rfl ?_ |refine Aa ?_)
 (repeat' first|refine tA rfl ?_ |refine sP rfl (h2) rfl ?_ |refine aU rfl ?_ |refine Aa ?_|(refine aC rfl ?_ ?_<;>rintro⟨⟩));all_goals try contradiction
 (subst_vars;exact aR ⟨_,rfl,rfl⟩)
theorem Ui{a:AZ}{w:W}{b:Bool}(h:FY s t p al a=some (w,b))(hw:AM (A0 al) w)(hl:w.length≤4000):Pure Tryz.prog TB 70 [Bt t,P5 ⟨s,p,al⟩,Bo a] (jS w (if (b || LS ⟨s,p,al⟩ w)=true then -1 else 1)):=by
 have hal:=QL hI
 have h1:=EX (TB:=TB) s a p
 have h2:=EU (TB:=TB) t a
 rcases UJ hI h with ⟨u,rfl,g1,g2,g3,g4⟩|⟨u,rfl,g0,g1,g2,g3,g4⟩
 ·rw [g1] at h1
  have h3:=Ix (TB:=TB) (Df u) al (PN g3 (by omega)) hal (by omega)
  rw [g2] at h3
  rw [Bool.true_or,if_pos rfl]
  refine eG Tryz.func70 rfl (by kernel_rfl) rfl ?_;intro Γ hΓ
  (repeat first|refine tA rfl ?_ |refine sP rfl (h1) rfl ?_ |refine aU rfl ?_ |refine Aa ?_)
  (repeat' first|refine tA rfl ?_ |refine sP rfl (h1) rfl ?_|refine sP rfl (h3) rfl ?_ |refine aU rfl ?_ |refine Aa ?_|(refine aC rfl ?_ ?_<;>rintro⟨⟩));all_goals try contradiction
  (subst_vars;exact aR ⟨_,rfl,rfl⟩)
 ·rw [g0] at h1
  rw [g1] at h2
  have h3:=Ix (TB:=TB) (Df u) al (PN g3 (by omega)) hal (by omega)
  rw [g2] at h3
  have h4:=Nf (TB:=TB) ⟨s,p,al⟩ w (by omega)
  rw [Ry (FW hI) w hw (by omega)] at h4
  rw [Bool.false_or]
  generalize LS ⟨s,p,al⟩ w=b0 at *
  refine eG Tryz.func70 rfl (by kernel_rfl) rfl ?_;intro Γ hΓ
  (repeat first|refine tA rfl ?_ |refine sP rfl (h1) rfl ?_ |refine aU rfl ?_ |refine Aa ?_)
  (repeat' first|refine sP rfl (h1) rfl ?_|(refine aC rfl ?_ ?_<;>rintro⟨⟩));all_goals try contradiction
  refine aK ?_
  (repeat first|refine tA rfl ?_ |refine s2 rfl fun _ _hb=>?_ |refine sP rfl (h2) rfl ?_ |refine aU rfl ?_ |refine Aa ?_)
  (repeat' first|refine tA rfl ?_ |refine sP rfl (h2) rfl ?_ |refine aU rfl ?_ |refine Aa ?_|(refine aC rfl ?_ ?_<;>rintro⟨⟩));all_goals try contradiction
  refine aK ?_
  (repeat first|refine tA rfl ?_ |refine sP rfl (h3) rfl ?_ |refine aU rfl ?_ |refine Aa ?_)
  cases b0
  ·(repeat first|refine s2 rfl fun _ _hb=>?_ |refine sP rfl (h4) rfl ?_ |refine Aa ?_)
   ((refine aC rfl ?_ ?_<;>rintro⟨⟩);all_goals try (simp at _hb;done))
   (repeat first|refine tA rfl ?_ |refine aU rfl ?_ |refine Aa ?_)
   (subst_vars;exact aR ⟨_,rfl,rfl⟩)
  ·(repeat first|refine s2 rfl fun _ _hb=>?_ |refine sP rfl (h4) rfl ?_ |refine Aa ?_)
   ((refine aC rfl ?_ ?_<;>rintro⟨⟩);all_goals try (simp at _hb;done))
   refine aK ?_
   (repeat first|refine tA rfl ?_ |refine aU rfl ?_ |refine Aa ?_)
   (subst_vars;exact aR ⟨_,rfl,rfl⟩)
end
end Go.Am
namespace Go.Am
open Go Go.Proofs
set_option maxHeartbeats 1000000
attribute [local irreducible] AQ BS Lex Bc Av Spec
variable {TB:Bs}[Dl TB]
noncomputable def Kd(s t:Sys)(p:AZ)(al:Int):Nat→AZ
 | 0=>Hl
 | k+1=>BO s p al (BH s t p al k)
abbrev jT(v:Vd)(a:AZ):E:=.t [(true,(Hg v).map .d),(true,(Bv a).map .d)]
noncomputable def Qn(s t:Sys)(p:AZ)(al:Int)(R:Int):Vd:=if ((BX s t p al).length:Int)≤R then C8 s t p else ⟨2,Hl,[],(R.toNat:Int)⟩
theorem Zx{s t:Sys}{p:AZ}(h:Bz s p t < 0)(hes:s.es.length≤1048576)(R:Int):Pure Tryz.prog TB 34 [Bt s,Bt t,Bo p,eI .i64 R] (jT ⟨3,Hl,[],0⟩ Hl):=by
 have h1:=Jg (TB:=TB) s p t hes
 unfold Vt at h1
 rw [if_pos h] at h1
 refine eG Tryz.func34 rfl (by kernel_rfl) rfl ?_;intro Γ hΓ
 (repeat first|refine tA rfl ?_ |refine s2 rfl fun _ _hb=>?_ |refine sP rfl (h1) rfl ?_ |refine aU rfl ?_ |refine Aa ?_)
 ((refine aC rfl ?_ ?_<;>rintro⟨⟩);all_goals try (simp at _hb;done))
 (repeat first|refine tA rfl ?_|(refine Ai rfl ?_;refine gA rfl ?_;first| refine gS (fun _ _=>AU rfl rfl (by rfl) (by rfl)) ?_) |refine aU rfl ?_ |refine Aa ?_)
 (subst_vars;exact aR ⟨_,rfl,rfl⟩)
theorem Zy{s t:Sys}{p:AZ}{al:Int}(hI:Fp s p t al)(hes:s.es.length≤1048576)(R:Int):Pure Tryz.prog TB 34 [Bt s,Bt t,Bo p,eI .i64 R] (jT (Qn s t p al R) (Kd s t p al (min (BX s t p al).length R.toNat))):=by
 have h1:=Jg (TB:=TB) s p t hes
 unfold Vt at h1
 rw [if_neg (Ud hI),←hI.hal] at h1
 have h2:=ae (TB:=TB) s p al
 rw [dG (t:=t) hI] at h2
 obtain⟨hl1,hl2⟩:=Li hI
 obtain⟨n,hn⟩:∃n,n=(BX s t p al).length:=⟨_,rfl⟩
 rw [←hn] at hl1 hl2 ⊢
 obtain⟨V,hV⟩:∃V,V=Qn s t p al R:=⟨_,rfl⟩
 obtain⟨A,hA⟩:∃A,A=Kd s t p al (min n R.toNat):=⟨_,rfl⟩
 rw [←hV,←hA]
 refine eG Tryz.func34 rfl (by kernel_rfl) rfl ?_;intro Γ hΓ
 (repeat first|refine tA rfl ?_ |refine s2 rfl fun _ _hb=>?_ |refine sP rfl (h1) rfl ?_ |refine aU rfl ?_ |refine Aa ?_)
 ((refine aC rfl ?_ ?_<;>rintro⟨⟩);all_goals try (simp at _hb;done))
 refine aK ?_
 (repeat first|refine tA rfl ?_ |refine sP rfl (h2) rfl ?_|(refine Ai rfl ?_;refine gA rfl ?_;first| refine gS (fun _ _=>AU rfl rfl (by rfl) (by rfl)) ?_) |refine aU rfl ?_ |refine Aa ?_)
 refine Av.Eb [2,3] [(3,eI .i64 R),(4,.o (.ip (CQ s))),(5,.o (.ip (CQ t))),(6,.o (.ip (Bv p))),(8,.o (.ptr 0 6 0 0)),(9,.o (.ptr 1 3 0 0)),(10,.o (.ip (Lv ⟨s,p,al⟩))),(12,.o (.ip (dK false Hl s p al))),(13,.o (.ptr 4 2 0 0)),(14,eB true),(15,.o (.ptr 5 6 0 0)),(16,.o (.ptr 6 3 0 0))] ⟨⟨_,rfl,.inl rfl⟩,⟨_,rfl,.inl rfl⟩,⟨_,rfl,.inl rfl⟩,⟨_,rfl,.inl rfl⟩,⟨_,rfl,.inl rfl⟩,⟨_,rfl,.inl rfl⟩,⟨_,rfl,.inr (.o (.box rfl (NI.refl (Lv ⟨s,p,al⟩))))⟩,⟨_,rfl,.inr (.o (.box rfl (NI.refl (dK false Hl s p al))))⟩,⟨_,rfl,.inl rfl⟩,⟨_,rfl,.inl rfl⟩,⟨_,rfl,.inl rfl⟩,⟨_,rfl,.inl rfl⟩,trivial⟩ ?_
 refine Av.Ce [3,4,5,6,10,12] [0,1] rfl rfl [(8,.o (.ptr 0 6 0 0)),(9,.o (.ptr 1 3 0 0)),(13,.o (.ptr 2 2 0 0)),(14,eB true),(15,.o (.ptr 3 6 0 0)),(16,.o (.ptr 4 3 0 0))] [(2,.cells 99 2 [[.d (Cf (BH s t p al 0).rows),.d (Cf (BH s t p al 0).cols)]]),(3,.cells 35 6 [[.d (iD 2),.d (iD 0),.d (.l []),.d (.l []),.d (tD []),.d (iD 0)]]),(4,.cells 29 3 [[.d (iD 0),.d (.l []),.d (.l [])]])] [0,1,4,5,6] (rl hΓ rfl) (by (simp[cX,zC,hΓ,cN,Bp,Af,eC])) ?_;(try dsimp only[cA,cB])
 refine aB ?_
 refine aL (α:={k:Nat // k≤n∧k≤R.toNat∧(k=n→C8 s t p=⟨2,Hl,[],(k:Int)⟩)}) [3,4,5,6,8,9,10,12,13,15,16] [0,1] rfl rfl (fun ⟨k,hkn,hkR,hk2⟩=>[(14,eB (decide (k < n)))]) (fun ⟨k,hkn,hkR,hk2⟩=>[(2,.cells 99 2 [[.d (Cf (BH s t p al k).rows),.d (Cf (BH s t p al k).cols)]]),(3,.cells 35 6 [[.d (iD 2),.d (iD 0),.d (.l []),.d (.l []),.d (tD []),.d (iD k)]]),(4,.cells 29 3 [[.d (iD (Kd s t p al k).al),.d (CD (Kd s t p al k).nx),.d (Ez (Kd s t p al k).ac)]])]) 5 (fun ⟨k,hkn,hkR,hk2⟩=>n - k) (⟨0,by omega,by omega,by omega⟩) hΓ rfl (by (simp[cX,zC,hΓ,cN,Kd,Hl,decide_eq_true (show 0 < n by omega)])) ?_;rintro⟨k,hkn,hkR,hk2⟩;(try dsimp only[cA,cB])
 by_cases hlt:k < n
 ·simp only [decide_eq_true hlt]
  by_cases hR:(k:Int) < R
  ·obtain⟨hx,hc⟩:=UN hI (k:=k) (by omega)
   have hsz:VC (BH s t p al k):=by obtain⟨_,_,_,hsh,_⟩:=Dk hx.v;exact hsh.sz
   have hta:=ah (TB:=TB) s p al (BH s t p al k) hsz
   rw [bf hI hx] at hta
   obtain⟨hao,_⟩:=LP hI hx
   have hla:Kd s t p al (k+1)=BO s p al (BH s t p al k):=rfl
   have hkl:k+1=(BX s t p al).length→Qn s t p al R=C8 s t p∧min n R.toNat=k+1:=fun h=>⟨by unfold Qn;rw [if_pos (by omega)],by omega⟩
   rcases hc with ⟨hr,hv,hk⟩|⟨w,b,hr,hon,hwl,hc⟩
   ·have hj:=Uh (TB:=TB) hI hr
    obtain⟨k1,k2⟩:=hkl hk
    have eV:V=⟨0,BO s p al (BH s t p al k),[],(k:Int)+1⟩:=by rw [hV,k1,hv]
    have eA:A=BO s p al (BH s t p al k):=by rw [hA,k2,hla]
    clear hV hA
    subst eV eA
    have hcp:=QQ (TB:=TB) (BO s p al (BH s t p al k)) (Oh hao)
    generalize BO s p al (BH s t p al k)=a at *
    generalize Kd s t p al k=la
    generalize BH s t p al k=tb at *
    (repeat first|refine tA rfl ?_ |refine s2 rfl fun _ _hb=>?_ |refine aU rfl ?_ |refine Aa ?_)
    ((refine aC rfl ?_ ?_<;>rintro⟨⟩);(all_goals try (simp at _hb;done));(all_goals try(exfalso;(simp only[oZ] at *;omega))))
    refine aK ?_
    refine aB ?_
    (repeat first|(refine sA rfl ?_ ?_;first|exact tI|omega) |refine sP rfl (hta) rfl ?_|refine sP rfl (hj) rfl ?_ |refine aU rfl ?_ |refine Aa ?_)
    refine aB ?_
    (repeat first|refine tA rfl ?_ |refine s2 rfl fun _ _hb=>?_ |refine aU rfl ?_ |refine Aa ?_)
    ((refine aC rfl ?_ ?_<;>rintro⟨⟩);(all_goals try (simp at _hb;done));(all_goals try(exfalso;omega)))
    (repeat first|refine tX rfl ?_ |refine aU rfl ?_ |refine Aa ?_)
    (refine pW rfl ?_ rfl (by rfl);refine CA [] rfl rfl 0 (hcp) (by decide) ⟨rfl,by decide,by decide⟩ rfl (by simp[cX,zC,hΓ,cN]) ?_;rintro x0 σ1 nx1 ⟨l,hl,rfl,rfl,rfl⟩ _)
    (repeat first|refine tX rfl ?_ |refine aU rfl ?_ |refine Aa ?_)
    refine Av.Ce [3,4,5,6,10,12] [0,1] rfl rfl [(8,.o (.ptr 0 6 0 0)),(9,.o (.ptr 1 3 0 0)),(15,.o (.ptr 2 6 0 0)),(16,.o (.ptr 3 3 0 0))] [(2,.cells 35 6 [[.d (iD 0),.d (iD a.al),.arr 4 1 0 l.length,.arr 5 1 0 a.ac.length,.d (tD []),.d (iD ((k:Int)+1))]]),(3,.cells 29 3 [[.d (iD a.al),.d (CD a.nx),.d (Ez a.ac)]]),(4,.cells 62 1 (Be l)),(5,.cells 4 1 (a.ac.map AB)),(6,.sld 3 (sI l))] [0,1,3,4,6,7,8] (rl hΓ rfl) (by (simp[cX,zC,hΓ,cN,Bp,Af,eC])) ?_;(try dsimp only[cA,cB])
    refine Av.Eb [2,3,4,5,6] [(8,.o (.ptr 0 6 0 0)),(9,.o (.ptr 1 3 0 0)),(15,.o (.ip (Hg ⟨0,⟨a.al,l.map (·.2),a.ac⟩,[],(k:Int)+1⟩))),(16,.o (.ip (Bv a)))] ⟨⟨_,rfl,.inl rfl⟩,⟨_,rfl,.inl rfl⟩,⟨_,rfl,.inr (.o (.box rfl (.cons .d (.cons .d (.cons (.jw (s:=6) rfl rfl) (.cons (.full rfl (by simp [Function.comp_def]) (by simp)) (.cons .d (.cons .d .nil))))))))⟩,⟨_,rfl,.inr (.o (.box rfl (NI.refl (Bv a))))⟩,trivial⟩ ?_
    rw [hl]
    refine rG (dS [(2,1),(3,1)]) (by kernel_rfl) ?_
    (repeat first|refine tA rfl ?_ |refine Aa ?_)
    (subst_vars;exact aR ⟨_,rfl,rfl⟩)
   ·have hj:=Ui (TB:=TB) hI hr hon hwl
    have hpv:=EW (TB:=TB) [s,t] p
    have hls:=WW (TB:=TB) s p al (BH s t p al k) hsz w hwl
    rw [YR hI hx hon hwl] at hls
    rcases hc with ⟨rfl,hb0,hv,hk⟩|⟨hb,hc⟩
    ·rw [hb0,Bool.false_or,if_neg Bool.false_ne_true] at hj
     obtain⟨k1,k2⟩:=hkl hk
     have eV:V=⟨1,Hl,PX (Cg [s,t] p),(k:Int)+1⟩:=by rw [hV,k1,hv]
     have eA:A=BO s p al (BH s t p al k):=by rw [hA,k2,hla]
     clear hV hA
     subst eV eA
     generalize BO s p al (BH s t p al k)=a at *
     generalize Kd s t p al k=la
     generalize BH s t p al k=tb at *
     (repeat first|refine tA rfl ?_ |refine s2 rfl fun _ _hb=>?_ |refine aU rfl ?_ |refine Aa ?_)
     ((refine aC rfl ?_ ?_<;>rintro⟨⟩);(all_goals try (simp at _hb;done));(all_goals try(exfalso;(simp only[oZ] at *;omega))))
     refine aK ?_
     refine aB ?_
     (repeat first|(refine sA rfl ?_ ?_;first|exact tI|omega) |refine sP rfl (hta) rfl ?_|refine sP rfl (hj) rfl ?_ |refine aU rfl ?_ |refine Aa ?_)
     refine aB ?_
     (repeat first|refine tA rfl ?_ |refine s2 rfl fun _ _hb=>?_ |refine aU rfl ?_ |refine Aa ?_)
     ((refine aC rfl ?_ ?_<;>rintro⟨⟩);(all_goals try (simp at _hb;done));(all_goals try(exfalso;omega)))
     (repeat first|refine tA rfl ?_ |refine s2 rfl fun _ _hb=>?_ |refine aU rfl ?_ |refine Aa ?_)
     ((refine aC rfl ?_ ?_<;>rintro⟨⟩);(all_goals try (simp at _hb;done));(all_goals try(exfalso;omega)))
     (repeat first|refine tA rfl ?_ |refine sP rfl (hpv) rfl ?_ |refine aU rfl ?_ |refine Aa ?_)
     refine Av.Ce [3,4,5,6,10,12] [0,1] rfl rfl [(8,.o (.ptr 0 6 0 0)),(9,.o (.ptr 1 3 0 0)),(15,.o (.ptr 2 6 0 0)),(16,.o (.ptr 3 3 0 0))] [(2,.cells 35 6 [[.d (iD 1),.d (iD 0),.d (.l []),.d (.l []),.d (tD (PX (Cg [s,t] p))),.d (iD ((k:Int)+1))]]),(3,.cells 29 3 [[.d (iD a.al),.d (CD a.nx),.d (Ez a.ac)]])] [0,1,3,4] (rl hΓ rfl) (by (simp[cX,zC,hΓ,cN,Bp,Af,eC])) ?_;(try dsimp only[cA,cB])
     refine Av.Eb [2,3] [(8,.o (.ptr 0 6 0 0)),(9,.o (.ptr 1 3 0 0)),(15,.o (.ip (Hg ⟨1,Hl,PX (Cg [s,t] p),(k:Int)+1⟩))),(16,.o (.ip (Bv a)))] ⟨⟨_,rfl,.inl rfl⟩,⟨_,rfl,.inl rfl⟩,⟨_,rfl,.inr (.o (.box rfl (NI.refl (Hg ⟨1,Hl,PX (Cg [s,t] p),(k:Int)+1⟩))))⟩,⟨_,rfl,.inr (.o (.box rfl (NI.refl (Bv a))))⟩,trivial⟩ ?_
     refine rG (dS [(2,1),(3,1)]) (by kernel_rfl) ?_
     (repeat first|refine tA rfl ?_ |refine Aa ?_)
     (subst_vars;exact aR ⟨_,rfl,rfl⟩)
    ·rw [if_pos (by rcases hb with h|h<;>simp [h])] at hj
     rcases hc with ⟨hst,hlt2⟩|⟨hst,htb,hk,hv⟩
     all_goals
      rw [hst] at hls
      have hkk:(k:Int)+1=((k+1:Nat):Int):=by omega
      generalize BO s p al (BH s t p al k)=a at *
      generalize Kd s t p al k=la
      generalize BH s t p al k=tb at *
      (repeat first|refine tA rfl ?_ |refine s2 rfl fun _ _hb=>?_ |refine aU rfl ?_ |refine Aa ?_)
      ((refine aC rfl ?_ ?_<;>rintro⟨⟩);(all_goals try (simp at _hb;done));(all_goals try(exfalso;(simp only[oZ] at *;omega))))
      refine aK ?_
      refine aB ?_
      (repeat first|(refine sA rfl ?_ ?_;first|exact tI|omega) |refine sP rfl (hta) rfl ?_|refine sP rfl (hj) rfl ?_ |refine aU rfl ?_ |refine Aa ?_)
      refine aB ?_
      (repeat first|refine tA rfl ?_ |refine s2 rfl fun _ _hb=>?_ |refine aU rfl ?_ |refine Aa ?_)
      ((refine aC rfl ?_ ?_<;>rintro⟨⟩);(all_goals try (simp at _hb;done));(all_goals try(exfalso;omega)))
      (repeat first|refine tA rfl ?_ |refine s2 rfl fun _ _hb=>?_ |refine aU rfl ?_ |refine Aa ?_)
      ((refine aC rfl ?_ ?_<;>rintro⟨⟩);(all_goals try (simp at _hb;done));(all_goals try(exfalso;omega)))
      refine aK ?_
      (repeat first|refine tA rfl ?_ |refine sP rfl (hls) rfl ?_ |refine aU rfl ?_ |refine Aa ?_)
     ·refine⟨⟨k+1,by omega,by omega,by omega⟩,by dsimp only;(omega),[0,1,2,3,4],?_⟩
      simp[cX,zC,hΓ,cN,hla,decide_eq_true (show k+1 < n by omega)]
     ·refine⟨⟨k+1,by omega,by omega,fun _=>by rw [hv,hkk]⟩,by dsimp only;(omega),[0,1,2,3,4],?_⟩
      simp[cX,zC,hΓ,cN,hla,htb,decide_eq_false (show ¬k+1 < n by omega)]
  ·have hk:k=R.toNat:=by omega
   have e1:Qn s t p al R=⟨2,Hl,[],(k:Int)⟩:=by unfold Qn;rw [if_neg (by omega),hk]
   have e2:min n R.toNat=k:=by omega
   have eV:V=⟨2,Hl,[],(k:Int)⟩:=by rw [hV,e1]
   have eA:A=Kd s t p al k:=by rw [hA,e2]
   clear hV hA
   subst eV eA
   generalize Kd s t p al k=la
   generalize BH s t p al k=tb
   (repeat first|refine tA rfl ?_ |refine s2 rfl fun _ _hb=>?_ |refine aU rfl ?_ |refine Aa ?_)
   ((refine aC rfl ?_ ?_<;>rintro⟨⟩);(all_goals try (simp at _hb;done));(all_goals try(exfalso;(simp only[oZ] at *;omega))))
   refine aE ?_
   (repeat first|refine aU rfl ?_)
   refine Av.Eb [3,4] [(8,.o (.ptr 0 6 0 0)),(9,.o (.ptr 1 3 0 0)),(15,.o (.ip (Hg ⟨2,Hl,[],(k:Int)⟩))),(16,.o (.ip (Bv la)))] ⟨⟨_,rfl,.inl rfl⟩,⟨_,rfl,.inl rfl⟩,⟨_,rfl,.inr (.o (.box rfl (NI.refl (Hg ⟨2,Hl,[],(k:Int)⟩))))⟩,⟨_,rfl,.inr (.o (.box rfl (NI.refl (Bv la))))⟩,trivial⟩ ?_
   refine rG (dS [(2,1),(3,1)]) (by kernel_rfl) ?_
   (repeat first|refine tA rfl ?_ |refine Aa ?_)
   (subst_vars;exact aR ⟨_,rfl,rfl⟩)
 ·obtain rfl:k=n:=by omega
  have e1:Qn s t p al R=⟨2,Hl,[],(k:Int)⟩:=by unfold Qn;rw [if_pos (by omega)];exact hk2 rfl
  have e2:min k R.toNat=k:=by omega
  simp only [decide_eq_false hlt]
  have eV:V=⟨2,Hl,[],(k:Int)⟩:=by rw [hV,e1]
  have eA:A=Kd s t p al k:=by rw [hA,e2]
  clear hV hA
  subst eV eA
  generalize Kd s t p al k=la
  generalize BH s t p al k=tb
  (repeat first|refine tA rfl ?_ |refine aU rfl ?_ |refine Aa ?_)
  ((refine aC rfl ?_ ?_<;>rintro⟨⟩);all_goals try (simp at _hb;done))
  refine aE ?_
  (repeat first|refine aU rfl ?_)
  refine Av.Eb [3,4] [(8,.o (.ptr 0 6 0 0)),(9,.o (.ptr 1 3 0 0)),(15,.o (.ip (Hg ⟨2,Hl,[],(k:Int)⟩))),(16,.o (.ip (Bv la)))] ⟨⟨_,rfl,.inl rfl⟩,⟨_,rfl,.inl rfl⟩,⟨_,rfl,.inr (.o (.box rfl (NI.refl (Hg ⟨2,Hl,[],(k:Int)⟩))))⟩,⟨_,rfl,.inr (.o (.box rfl (NI.refl (Bv la))))⟩,trivial⟩ ?_
  refine rG (dS [(2,1),(3,1)]) (by kernel_rfl) ?_
  (repeat first|refine tA rfl ?_ |refine Aa ?_)
  (subst_vars;exact aR ⟨_,rfl,rfl⟩)
theorem Ln(s t:Sys)(p:AZ)(hes:s.es.length≤1048576):Pure Tryz.prog TB 23 [Bt s,Bt t,Bo p] (P6 (C8 s t p)):=by
 by_cases h:Bz s p t < 0
 ·have h1:=Zx (TB:=TB) h hes 12
  rw [Tj h]
  refine eG Tryz.func23 rfl (by kernel_rfl) rfl ?_;intro Γ hΓ
  (repeat first|refine tA rfl ?_ |refine sP rfl (h1) rfl ?_ |refine aU rfl ?_ |refine Aa ?_)
  (subst_vars;exact aR ⟨_,rfl,rfl⟩)
 ·have hI:=HD h
  have h1:=Zy (TB:=TB) hI hes 12
  have hr:Qn s t p (Bz s p t) 12=C8 s t p:=by
   unfold Qn
   rw [if_pos (by have:=Li hI;omega)]
  rw [hr] at h1
  generalize Kd s t p (Bz s p t) _=la at h1
  generalize C8 s t p=v at *
  refine eG Tryz.func23 rfl (by kernel_rfl) rfl ?_;intro Γ hΓ
  (repeat first|refine tA rfl ?_ |refine sP rfl (h1) rfl ?_ |refine aU rfl ?_ |refine Aa ?_)
  (subst_vars;exact aR ⟨_,rfl,rfl⟩)
end Go.Am
namespace Go.Am
open Go Go.Proofs
set_option maxHeartbeats 1000000
attribute [local irreducible] AQ BS Lex Bc Av Spec
theorem Tn{tabs:List (Nat×Obj)}[hTb:Dl ⟨tabs,none⟩](s t:Sys)(p:AZ):Pure Tryz.prog ⟨tabs,none⟩ 5 [Bt s,Bt t,Bo p] (eB true):=by
 have z1:=MD (n:=s.es.length) (left:=1048576) (by omega)
 refine eG Tryz.func5 rfl (by kernel_rfl) rfl ?_;intro Γ hΓ
 (repeat first|refine tA rfl ?_ |refine s2 rfl fun _ _hb=>?_ |refine sP rfl (Ni s 1048576 (by omega) (by omega)) rfl ?_ |refine aU rfl ?_ |refine Aa ?_)
 (refine aC rfl ?_ ?_<;>rintro⟨⟩)
 ·(repeat first|refine tA rfl ?_ |refine aU rfl ?_ |refine Aa ?_)
  (subst_vars;exact aR ⟨_,rfl,rfl⟩)
 have k1:0≤PR s.es.length 1048576:=by (simp only[oZ] at *;omega)
 have hes:s.es.length≤1048576:=by have:=z1.2.2 k1;omega
 have k2:=z1.2.1
 refine aK ?_
 generalize PR s.es.length 1048576=l1 at *
 have z2:=MD (n:=t.es.length) (left:=l1) k1
 (repeat first|refine tA rfl ?_ |refine s2 rfl fun _ _hb=>?_ |refine sP rfl (Ni t l1 k1 k2) rfl ?_ |refine aU rfl ?_ |refine Aa ?_)
 (refine aC rfl ?_ ?_<;>rintro⟨⟩)
 ·(repeat first|refine tA rfl ?_ |refine aU rfl ?_ |refine Aa ?_)
  (subst_vars;exact aR ⟨_,rfl,rfl⟩)
 have k3:0≤PR t.es.length l1:=by (simp only[oZ] at *;omega)
 have het:t.es.length≤1048576:=by have:=z2.2.2 k3;omega
 have k4:PR t.es.length l1≤1048576:=by have:=z2.2.1;omega
 refine aK ?_
 generalize PR t.es.length l1=l2 at *
 have z3:=jg (a:=p) (left:=l2) k3
 (repeat first|refine tA rfl ?_ |refine s2 rfl fun _ _hb=>?_ |refine sP rfl (Pz p l2 k3 k4) rfl ?_ |refine aU rfl ?_ |refine Aa ?_)
 (refine aC rfl ?_ ?_<;>rintro⟨⟩)
 ·(repeat first|refine tA rfl ?_ |refine aU rfl ?_ |refine Aa ?_)
  (subst_vars;exact aR ⟨_,rfl,rfl⟩)
 have k5:0≤jf p l2:=by (simp only[oZ] at *;omega)
 refine aK ?_
 obtain⟨hp1,hp2,hp3⟩:=z3.2.2 k5
 have h3:p.nx.length≤1048576∧p.ac.length≤1048576∧∀r∈p.nx,r.length≤1048576:=⟨by omega,by omega,fun r hr=>by have:=hp3 r hr;omega⟩
 have hm1:=h3.2.1
 have c0:=Nk (TB:=⟨tabs,none⟩) s hes
 have c1:=Nk (TB:=⟨tabs,none⟩) t het
 have c2:=PF (TB:=⟨tabs,none⟩) p h3.1 h3.2.1 h3.2.2
 have d0:=Lx (TB:=⟨tabs,none⟩) s hes
 have d1:=Lx (TB:=⟨tabs,none⟩) t het
 have d2:=NH (TB:=⟨tabs,none⟩) p h3.1 h3.2.1 h3.2.2
 have q0:=MQ (TB:=⟨tabs,none⟩) s
 have q1:=MQ (TB:=⟨tabs,none⟩) t
 have q2:=IU (TB:=⟨tabs,none⟩) p
 have e1:=Ln (TB:=⟨tabs,none⟩) s t p hes
 have e2:=KP (tabs:=tabs) s t p hes
 have e3:=Gu (tabs:=tabs) s t p hes
 obtain⟨b1,b2,b3⟩:=gh s t p
 generalize C8 s t p=v at *
 have q3:=Sd (TB:=⟨tabs,none⟩) v
 (repeat first|refine aU rfl ?_)
 refine R.Pf [(0,2),(1,2),(2,2),(3,2),(4,2),(5,2),(6,2),(7,3),(8,5)] mixed (by kernel_rfl) rfl (by kernel_rfl) ?_
 (repeat ((refine R.Ai rfl ?_;first|(refine R.yQ (md:=false) rfl rfl rfl ?_ ?_;exact tI) |refine R.yP rfl rfl rfl rfl ?_ |refine R.yA rfl rfl rfl rfl ?_|refine R.Bx (fun _ _ _=>AN rfl rfl rfl (c0) rfl) rfl rfl ?_|refine R.Bx (fun _ _ _=>AN rfl rfl rfl (c1) rfl) rfl rfl ?_|refine R.Bx (fun _ _ _=>AN rfl rfl rfl (c2) rfl) rfl rfl ?_|refine R.Bx (fun _ _ _=>AN rfl rfl rfl (e1) rfl) rfl rfl ?_ )))
 refine R.OT ?_
 refine Av.Eb [0] [(3,.o (.ip (CQ s))),(4,.o (.ip (CQ t))),(5,.o (.ip (Bv p))),(8,.o (.ip (Hg v)))] ⟨⟨_,rfl,.inl rfl⟩,⟨_,rfl,.inl rfl⟩,⟨_,rfl,.inl rfl⟩,⟨_,rfl,.inr (.o (.box rfl (NI.refl (Hg v))))⟩,trivial⟩ ?_
 (repeat first|refine tA rfl ?_ |refine aU rfl ?_)
 (refine pW rfl ?_ rfl (by rfl);refine CA [] rfl rfl 0 (d0) (by decide) ⟨rfl,by decide,by decide⟩ rfl (by simp[cX,zC,hΓ,cN]) ?_;rintro x0 σ1 nx1 ⟨rfl,rfl,rfl⟩ _)
 (repeat first|refine tA rfl ?_ |refine aU rfl ?_ |refine Aa ?_)
 (refine pW rfl ?_ rfl (by rfl);refine CA [] rfl rfl 0 (d1) (by decide) ⟨rfl,by decide,by decide⟩ rfl (by simp[cX,zC,hΓ,cN]) ?_;rintro x0 σ1 nx1 ⟨rfl,rfl,rfl⟩ _)
 (repeat first|refine tA rfl ?_ |refine aU rfl ?_ |refine Aa ?_)
 (refine pW rfl ?_ rfl (by rfl);refine CA [] rfl rfl 0 (d2) (by decide) ⟨rfl,by decide,by decide⟩ rfl (by simp[cX,zC,hΓ,cN]) ?_;rintro x0 σ1 nx1 ⟨l,hl,rfl,rfl,rfl⟩ _)
 (repeat first|refine tA rfl ?_)
 refine Aa ?_
 refine Av.Ce [3,4,5,8] [] rfl rfl [(9,.o (.ptr 1 3 0 0)),(10,.o (.ptr 3 3 0 0)),(11,.o (.ptr 7 3 0 0))] [(0,.cells 126 3 (s.es.map Az)),(1,.cells 25 3 [TR s 0]),(2,.cells 126 3 (t.es.map Az)),(3,.cells 25 3 [TR t 2]),(4,.cells 62 1 (Be l)),(5,.cells 4 1 (p.ac.map AB)),(6,.sld 3 (sI l)),(7,.cells 29 3 [[.d (iD p.al),.arr 4 1 0 l.length,.arr 5 1 0 p.ac.length]])] [1,2,3,4,5,6,7,8] (rl hΓ rfl) (by (simp[cX,zC,hΓ,cN,Af,eC,Bp])) ?_;(try dsimp only[cA,cB])
 (repeat first|refine tA rfl ?_ |refine aU rfl ?_)
 (refine pW rfl ?_ rfl (by rfl);refine BS.GU [(45,Bt s),(46,Bt t),(47,Bo p)] ⟨⟨_,rfl,QE (s:=s) rfl rfl⟩,⟨_,rfl,QE (s:=t) rfl rfl⟩,⟨_,rfl,Hz (k:=6) rfl rfl rfl hl rfl rfl⟩,trivial⟩ (fun Γ'=>?_);refine CA [] rfl rfl 0 e3 (by decide) ⟨rfl,by decide,by decide⟩ rfl trivial ?_;rintro x0 σ1 nx1 (⟨hva,rfl,rfl,rfl⟩|⟨u,hu,rfl,rfl,rfl⟩) _)
 ·refine⟨⟨iv _ _ hva,fun x hx=>by simp [Ab.A1,BK] at hx⟩,?_⟩
  (repeat first|refine tA rfl ?_)
  refine Aa ?_
  refine Av.Eb [8] [(3,.o (.ip (CQ s))),(4,.o (.ip (CQ t))),(5,.o (.ip (Bv p))),(8,.o (.ip (Hg v))),(9,.o (.ptr 1 3 0 0)),(10,.o (.ptr 3 3 0 0)),(11,.o (.ptr 7 3 0 0)),(12,.o (.ip (Hg v)))] ⟨⟨_,rfl,.inl rfl⟩,⟨_,rfl,.inl rfl⟩,⟨_,rfl,.inl rfl⟩,⟨_,rfl,.inl rfl⟩,⟨_,rfl,.inl rfl⟩,⟨_,rfl,.inl rfl⟩,⟨_,rfl,.inl rfl⟩,⟨_,rfl,.inr (.o (.box rfl (NI.refl (Hg v))))⟩,trivial⟩ ?_
  (repeat' first|refine tA rfl ?_ |refine s2 rfl fun _ _hb=>?_ |refine sP rfl (q3) rfl ?_ |refine aU rfl ?_ |refine Aa ?_|(refine aC rfl ?_ ?_<;>rintro⟨⟩));all_goals try contradiction
  refine aK ?_
  (repeat first|refine aU rfl ?_)
  refine rG (IW []) (by kernel_rfl) ?_
  (repeat' first|refine tA rfl ?_ |refine s2 rfl fun _ _hb=>?_ |refine sP rfl (c0) rfl ?_|(refine Ai rfl ?_;refine gA rfl ?_;first| refine gQ (AQ.GU [(53,Bt s),(55,Bt s)] ⟨⟨_,rfl,QE (s:=s) rfl rfl⟩,⟨_,rfl,.AD rfl⟩,trivial⟩ (fun Γ'=>AN rfl rfl rfl q0 rfl) (MU _)) rfl ?_) |refine aU rfl ?_ |refine Aa ?_|(refine aC rfl ?_ ?_<;>rintro⟨⟩));all_goals try contradiction
  refine aK ?_
  (repeat first|refine aU rfl ?_)
  refine rG (IW []) (by kernel_rfl) ?_
  (repeat' first|refine tA rfl ?_ |refine s2 rfl fun _ _hb=>?_ |refine sP rfl (c1) rfl ?_|(refine Ai rfl ?_;refine gA rfl ?_;first| refine gQ (AQ.GU [(58,Bt t),(60,Bt t)] ⟨⟨_,rfl,QE (s:=t) rfl rfl⟩,⟨_,rfl,.AD rfl⟩,trivial⟩ (fun Γ'=>AN rfl rfl rfl q1 rfl) (MU _)) rfl ?_) |refine aU rfl ?_ |refine Aa ?_|(refine aC rfl ?_ ?_<;>rintro⟨⟩));all_goals try contradiction
  refine aK ?_
  (repeat first|refine aU rfl ?_)
  refine rG (IW []) (by kernel_rfl) ?_
  (repeat' first|refine tA rfl ?_ |refine s2 rfl fun _ _hb=>?_ |refine sP rfl (c2) rfl ?_|(refine Ai rfl ?_;refine gA rfl ?_;first| refine gQ (AQ.GU [(63,Bo p),(65,Bo p)] ⟨⟨_,rfl,Hz (k:=6) rfl rfl rfl hl rfl rfl⟩,⟨_,rfl,.AD rfl⟩,trivial⟩ (fun Γ'=>AN rfl rfl rfl q2 rfl) (MU _)) rfl ?_) |refine aU rfl ?_ |refine Aa ?_|(refine aC rfl ?_ ?_<;>rintro⟨⟩));all_goals try contradiction
  refine aK ?_
  have lb:=Sn hl h3.1 h3.2.2
  have m0:=Fj (TB:=⟨tabs,none⟩) s 1 (by omega) (by omega) (by omega)
  have m1:=Fj (TB:=⟨tabs,none⟩) t (1+3*s.es.length) (by omega) (by omega) (by omega)
  have m2:=E4 (TB:=⟨tabs,none⟩) p.al l p.ac (1+3*s.es.length+3*t.es.length) (by omega) (by omega) (by omega) (by omega)
  (repeat first|refine tA rfl ?_ |refine aU rfl ?_ |refine Aa ?_)
  (refine pW rfl ?_ rfl (by rfl);refine Bq [0] rfl rfl (m0) ⟨rfl,by decide,by decide⟩ rfl (by simp[cX,zC,hΓ,cN]) ?_;rintro x0 σ1 nx1 ⟨rfl,rfl,rfl⟩ _)
  (repeat first|refine tA rfl ?_ |refine aU rfl ?_ |refine Aa ?_)
  (refine pW rfl ?_ rfl (by rfl);refine Bq [2] rfl rfl (m1) ⟨rfl,by decide,by decide⟩ rfl (by simp[cX,zC,hΓ,cN]) ?_;rintro x0 σ1 nx1 ⟨rfl,rfl,rfl⟩ _)
  (repeat first|refine tA rfl ?_ |refine aU rfl ?_ |refine Aa ?_)
  (refine pW rfl ?_ rfl (by rfl);refine Bq [4,5,6] rfl rfl (m2) ⟨rfl,by decide,by decide⟩ rfl (by simp[cX,zC,hΓ,cN]) ?_;rintro x0 σ1 nx1 ⟨l',hl',rfl,rfl,rfl⟩ _)
  (repeat first|refine tA rfl ?_)
  refine Aa ?_
  refine Av.Ce [3,4,5,8,12,13] [] rfl rfl [] [] [] (rl hΓ rfl) (by (simp[cX,zC,hΓ,cN,Af,eC,Bp])) ?_;(try dsimp only[cA,cB])
  (repeat' first|refine tA rfl ?_ |refine s2 rfl fun _ _hb=>?_ |refine sP rfl (q3) rfl ?_ |refine s3 rfl ?_ ?_<;>rintro rfl |refine aU rfl ?_ |refine Aa ?_|(refine aC rfl ?_ ?_<;>rintro⟨⟩));all_goals try contradiction
  all_goals first| (exfalso;omega;done)|skip
  refine aK ?_
  have q4:=Ny (TB:=⟨tabs,none⟩) v hva
  have q5:=Nz (TB:=⟨tabs,none⟩) v hva
  (repeat first|refine tA rfl ?_ |refine s2 rfl fun _ _hb=>?_ |refine sP rfl (q4) rfl ?_|refine sP rfl (q5) rfl ?_ |refine aU rfl ?_ |refine Aa ?_)
  ((refine aC rfl ?_ ?_<;>rintro⟨⟩);all_goals try(exfalso;(simp only[oZ] at *;omega)))
  refine aK ?_
  (repeat first|refine tA rfl ?_ |refine s2 rfl fun _ _hb=>?_ |refine aU rfl ?_ |refine Aa ?_)
  ((refine aC rfl ?_ ?_<;>rintro⟨⟩);all_goals try(exfalso;(simp only[oZ] at *;omega)))
  refine aK ?_
  (repeat first|refine aU rfl ?_)
  refine R.Pf [(0,2),(1,2),(2,2),(3,2),(4,2),(5,2),(6,2),(7,3),(8,5)] mixed (by kernel_rfl) rfl (by kernel_rfl) ?_
  (repeat ((refine R.Ai rfl ?_;first|(refine R.yQ (md:=false) rfl rfl rfl ?_ ?_;exact tI) |refine R.yP rfl rfl rfl rfl ?_ |refine R.yA rfl rfl rfl rfl ?_|refine R.Bx (fun _ _ _=>AN rfl rfl rfl (c0) rfl) rfl rfl ?_|refine R.Bx (fun _ _ _=>AN rfl rfl rfl (c1) rfl) rfl rfl ?_|refine R.Bx (fun _ _ _=>AN rfl rfl rfl (c2) rfl) rfl rfl ?_|refine R.Bx (fun _ _ _=>AN rfl rfl rfl (e2) rfl) rfl rfl ?_ )))
  refine R.OT ?_
  (repeat' first|refine tA rfl ?_ |refine s2 rfl fun _ _hb=>?_ |refine sP rfl (q3) rfl ?_ |refine aU rfl ?_ |refine Aa ?_|(refine aC rfl ?_ ?_<;>rintro⟨⟩));all_goals try contradiction
  refine aK ?_
  (repeat first|refine tA rfl ?_ |refine s2 rfl fun _ _hb=>?_ |refine sP rfl (q4) rfl ?_ |refine aU rfl ?_ |refine Aa ?_)
  ((refine aC rfl ?_ ?_<;>rintro⟨⟩);all_goals try(exfalso;(simp only[oZ] at *;omega)))
  refine aK ?_
  (repeat first|refine tA rfl ?_ |refine s2 rfl fun _ _hb=>?_ |refine aU rfl ?_ |refine Aa ?_)
  ((refine aC rfl ?_ ?_<;>rintro⟨⟩);all_goals try(exfalso;(simp only[oZ] at *;omega)))
  refine aK ?_
  (repeat first|refine tA rfl ?_ |refine aU rfl ?_ |refine Aa ?_)
  (subst_vars;exact aR ⟨_,rfl,rfl⟩)
 ·refine⟨⟨bM _ _ _ _ _ _ _,fun x hx=>?_⟩,?_⟩
  ·simp only [Ab.A1,List.map_cons,List.map_nil,BK,List.append_nil,List.mem_cons,List.not_mem_nil,or_false] at hx
   rcases hx with rfl|rfl|rfl
   ·exact l4
   ·exact jO
   ·exact trivial
  (repeat first|refine tA rfl ?_)
  refine Aa ?_
  refine Av.Ce [3,4,5,8,9,10,11] [0,1,2,3,4,5,6,7] rfl rfl [(12,.o (.ptr 11 6 0 0))] [(8,.cells 62 1 (Be u)),(9,.cells 4 1 (v.a.ac.map AB)),(10,.sld 3 (sI u)),(11,.cells 35 6 [[.d (iD v.code),.d (iD v.a.al),.arr 8 1 0 u.length,.arr 9 1 0 v.a.ac.length,.d (tD v.tr),.d (iD v.rd)]])] [0,1,2,3,4,5,6,7,8,9,10,11] (rl hΓ rfl) (by (simp[cX,zC,hΓ,cN,Af,eC,Bp])) ?_;(try dsimp only[cA,cB])
  (repeat' first|refine tA rfl ?_ |refine s2 rfl fun _ _hb=>?_|(refine Ai rfl ?_;refine gA rfl ?_;first| refine gQ (AQ.GU [(49,P6 v),(50,P6 v)] ⟨⟨_,rfl,ep (v:=v) (k:=10) rfl rfl rfl hu rfl rfl⟩,⟨_,rfl,.AD rfl⟩,trivial⟩ (fun Γ'=>AN rfl rfl rfl q3 rfl) (MU _)) rfl ?_) |refine aU rfl ?_ |refine Aa ?_|(refine aC rfl ?_ ?_<;>rintro⟨⟩));all_goals try contradiction
  refine aK ?_
  (repeat first|refine aU rfl ?_)
  refine rG (IW []) (by kernel_rfl) ?_
  (repeat' first|refine tA rfl ?_ |refine s2 rfl fun _ _hb=>?_ |refine sP rfl (c0) rfl ?_|(refine Ai rfl ?_;refine gA rfl ?_;first| refine gQ (AQ.GU [(53,Bt s),(55,Bt s)] ⟨⟨_,rfl,QE (s:=s) rfl rfl⟩,⟨_,rfl,.AD rfl⟩,trivial⟩ (fun Γ'=>AN rfl rfl rfl q0 rfl) (MU _)) rfl ?_) |refine aU rfl ?_ |refine Aa ?_|(refine aC rfl ?_ ?_<;>rintro⟨⟩));all_goals try contradiction
  refine aK ?_
  (repeat first|refine aU rfl ?_)
  refine rG (IW []) (by kernel_rfl) ?_
  (repeat' first|refine tA rfl ?_ |refine s2 rfl fun _ _hb=>?_ |refine sP rfl (c1) rfl ?_|(refine Ai rfl ?_;refine gA rfl ?_;first| refine gQ (AQ.GU [(58,Bt t),(60,Bt t)] ⟨⟨_,rfl,QE (s:=t) rfl rfl⟩,⟨_,rfl,.AD rfl⟩,trivial⟩ (fun Γ'=>AN rfl rfl rfl q1 rfl) (MU _)) rfl ?_) |refine aU rfl ?_ |refine Aa ?_|(refine aC rfl ?_ ?_<;>rintro⟨⟩));all_goals try contradiction
  refine aK ?_
  (repeat first|refine aU rfl ?_)
  refine rG (IW []) (by kernel_rfl) ?_
  (repeat' first|refine tA rfl ?_ |refine s2 rfl fun _ _hb=>?_ |refine sP rfl (c2) rfl ?_|(refine Ai rfl ?_;refine gA rfl ?_;first| refine gQ (AQ.GU [(63,Bo p),(65,Bo p)] ⟨⟨_,rfl,Hz (k:=6) rfl rfl rfl hl rfl rfl⟩,⟨_,rfl,.AD rfl⟩,trivial⟩ (fun Γ'=>AN rfl rfl rfl q2 rfl) (MU _)) rfl ?_) |refine aU rfl ?_ |refine Aa ?_|(refine aC rfl ?_ ?_<;>rintro⟨⟩));all_goals try contradiction
  refine aK ?_
  have lb:=Sn hl h3.1 h3.2.2
  have m0:=Fj (TB:=⟨tabs,none⟩) s 1 (by omega) (by omega) (by omega)
  have m1:=Fj (TB:=⟨tabs,none⟩) t (1+3*s.es.length) (by omega) (by omega) (by omega)
  have m2:=E4 (TB:=⟨tabs,none⟩) p.al l p.ac (1+3*s.es.length+3*t.es.length) (by omega) (by omega) (by omega) (by omega)
  (repeat first|refine tA rfl ?_ |refine aU rfl ?_ |refine Aa ?_)
  (refine pW rfl ?_ rfl (by rfl);refine Bq [0] rfl rfl (m0) ⟨rfl,by decide,by decide⟩ rfl (by simp[cX,zC,hΓ,cN]) ?_;rintro x0 σ1 nx1 ⟨rfl,rfl,rfl⟩ _)
  (repeat first|refine tA rfl ?_ |refine aU rfl ?_ |refine Aa ?_)
  (refine pW rfl ?_ rfl (by rfl);refine Bq [2] rfl rfl (m1) ⟨rfl,by decide,by decide⟩ rfl (by simp[cX,zC,hΓ,cN]) ?_;rintro x0 σ1 nx1 ⟨rfl,rfl,rfl⟩ _)
  (repeat first|refine tA rfl ?_ |refine aU rfl ?_ |refine Aa ?_)
  (refine pW rfl ?_ rfl (by rfl);refine Bq [4,5,6] rfl rfl (m2) ⟨rfl,by decide,by decide⟩ rfl (by simp[cX,zC,hΓ,cN]) ?_;rintro x0 σ1 nx1 ⟨l',hl',rfl,rfl,rfl⟩ _)
  (repeat first|refine tA rfl ?_)
  refine Aa ?_
  refine Av.Ce [3,4,5,8,13] [] rfl rfl [(12,.o (.ptr 3 6 0 0))] [(0,.cells 62 1 (Be u)),(1,.cells 4 1 (v.a.ac.map AB)),(2,.sld 3 (sI u)),(3,.cells 35 6 [[.d (iD v.code),.d (iD v.a.al),.arr 0 1 0 u.length,.arr 1 1 0 v.a.ac.length,.d (tD v.tr),.d (iD v.rd)]])] [8,9,10,11] (rl hΓ rfl) (by (simp[cX,zC,hΓ,cN,Af,eC,Bp])) ?_;(try dsimp only[cA,cB])
  (repeat' first|refine tA rfl ?_ |refine s2 rfl fun _ _hb=>?_|(refine Ai rfl ?_;refine gA rfl ?_;first| refine gQ (AQ.GU [(80,P6 v),(81,P6 v)] ⟨⟨_,rfl,ep (v:=v) (k:=2) rfl rfl rfl hu rfl rfl⟩,⟨_,rfl,.AD rfl⟩,trivial⟩ (fun Γ'=>AN rfl rfl rfl q3 rfl) (MU _)) rfl ?_) |refine s3 rfl ?_ ?_<;>rintro rfl |refine aU rfl ?_ |refine Aa ?_|(refine aC rfl ?_ ?_<;>rintro⟨⟩));all_goals try contradiction
  all_goals first| (exfalso;omega;done)|skip
  refine aK ?_
  have ub:=Sn hu b1 b2
  have mG:=OW (TB:=⟨tabs,none⟩) v u 1 (by omega) (by omega) (by omega) (by omega)
  have q4:=OF (TB:=⟨tabs,none⟩) v (Bg u) v.a.ac.length 1 (by omega) (by omega) (by simp;omega)
  (repeat first|refine tA rfl ?_ |refine aU rfl ?_ |refine Aa ?_)
  (refine pW rfl ?_ rfl (by rfl);refine Bq [0,1,2] rfl rfl (mG) ⟨rfl,by decide,by decide⟩ rfl (by simp[cX,zC,hΓ,cN]) ?_;rintro x0 σ1 nx1 ⟨z,hz2,rfl,rfl,rfl⟩ _)
  (repeat first|refine tA rfl ?_)
  refine Aa ?_
  have hzl:z.length=u.length:=by have:=congrArg List.length hz2;simpa [Uu] using this
  refine Av.Ce [3,4,5,8,14] [3] rfl rfl [(12,.o (.ptr 3 6 0 0))] [(0,.cells 62 1 (Be z)),(1,.cells 4 1 ((IE (1+(Bg u).sum) v.a.ac.length).map AB)),(2,.sld 3 (sI z))] [0,1,2,3] (rl hΓ rfl) (by (simp[cX,zC,hΓ,cN,Af,eC,Bp])) ?_;(try dsimp only[cA,cB])
  (repeat first|refine tA rfl ?_ |refine s2 rfl fun _ _hb=>?_|(refine Ai rfl ?_;refine gA rfl ?_;first| refine gQ (AQ.GU [(88,P6 ⟨v.code,⟨v.a.al,Kf 1 (Bg u),IE (1+(Bg u).sum) v.a.ac.length⟩,v.tr,v.rd⟩),(89,eI .i64 1)] ⟨⟨_,rfl,ep (v:=⟨v.code,⟨v.a.al,Kf 1 (Bg u),IE (1+(Bg u).sum) v.a.ac.length⟩,v.tr,v.rd⟩) (k:=2) rfl rfl rfl hz2 hzl (OX _ _)⟩,⟨_,rfl,.AD rfl⟩,trivial⟩ (fun Γ'=>AN rfl rfl rfl q4 rfl) (gr _ _)) rfl ?_) |refine aU rfl ?_ |refine Aa ?_)
  ((refine aC rfl ?_ ?_<;>rintro⟨⟩);all_goals try(exfalso;(simp only[oZ] at *;omega)))
  refine aK ?_
  (repeat first|refine tA rfl ?_ |refine s2 rfl fun _ _hb=>?_ |refine aU rfl ?_ |refine Aa ?_)
  ((refine aC rfl ?_ ?_<;>rintro⟨⟩);all_goals try(exfalso;(simp only[oZ] at *;omega)))
  refine aK ?_
  (repeat first|refine aU rfl ?_)
  refine R.Pf [(0,2),(1,2),(2,2),(3,2),(4,2),(5,2),(6,2),(7,3),(8,5)] mixed (by kernel_rfl) rfl (by kernel_rfl) ?_
  (repeat ((refine R.Ai rfl ?_;first|(refine R.yQ (md:=false) rfl rfl rfl ?_ ?_;exact tI) |refine R.yP rfl rfl rfl rfl ?_ |refine R.yA rfl rfl rfl rfl ?_|refine R.Bx (fun _ _ _=>AN rfl rfl rfl (c0) rfl) rfl rfl ?_|refine R.Bx (fun _ _ _=>AN rfl rfl rfl (c1) rfl) rfl rfl ?_|refine R.Bx (fun _ _ _=>AN rfl rfl rfl (c2) rfl) rfl rfl ?_|refine R.Bx (fun _ _ _=>AN rfl rfl rfl (e2) rfl) rfl rfl ?_ )))
  refine R.OT ?_
  (repeat' first|refine tA rfl ?_ |refine s2 rfl fun _ _hb=>?_ |refine sP rfl (q3) rfl ?_ |refine aU rfl ?_ |refine Aa ?_|(refine aC rfl ?_ ?_<;>rintro⟨⟩));all_goals try contradiction
  refine aK ?_
  (repeat first|refine tA rfl ?_ |refine s2 rfl fun _ _hb=>?_|(refine Ai rfl ?_;refine gA rfl ?_;first| refine gQ (AQ.GU [(107,P6 ⟨v.code,⟨v.a.al,Kf 1 (Bg u),IE (1+(Bg u).sum) v.a.ac.length⟩,v.tr,v.rd⟩),(108,eI .i64 1)] ⟨⟨_,rfl,ep (v:=⟨v.code,⟨v.a.al,Kf 1 (Bg u),IE (1+(Bg u).sum) v.a.ac.length⟩,v.tr,v.rd⟩) (k:=2) rfl rfl rfl hz2 hzl (OX _ _)⟩,⟨_,rfl,.AD rfl⟩,trivial⟩ (fun Γ'=>AN rfl rfl rfl q4 rfl) (gr _ _)) rfl ?_) |refine aU rfl ?_ |refine Aa ?_)
  ((refine aC rfl ?_ ?_<;>rintro⟨⟩);all_goals try(exfalso;(simp only[oZ] at *;omega)))
  refine aK ?_
  (repeat first|refine tA rfl ?_ |refine s2 rfl fun _ _hb=>?_ |refine aU rfl ?_ |refine Aa ?_)
  ((refine aC rfl ?_ ?_<;>rintro⟨⟩);all_goals try(exfalso;(simp only[oZ] at *;omega)))
  refine aK ?_
  (repeat first|refine tA rfl ?_ |refine aU rfl ?_ |refine Aa ?_)
  (subst_vars;exact aR ⟨_,rfl,rfl⟩)
end Go.Am
namespace Go.Proofs.YtbfgijpfhgmepaaGreatDoor
open Go
theorem P7:mapsRowed Tryz.prog=true:=by kernel_rfl
theorem Zo:(Tryz.prog.stops == [])=true:=by kernel_rfl
theorem Zm:(Tryz.prog.stopKnobs == [])=true:=by kernel_rfl
theorem Zl:Tryz.prog.stopsHeard=true:=by kernel_rfl
theorem P8:(false == Tryz.prog.plainKeys)=true:=by kernel_rfl
end Go.Proofs.YtbfgijpfhgmepaaGreatDoor
