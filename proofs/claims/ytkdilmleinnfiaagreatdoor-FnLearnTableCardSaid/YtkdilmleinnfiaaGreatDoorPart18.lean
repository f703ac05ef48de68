/-
  The reference's automata: runs, answers; what tells two automata apart.
-/
import Derived.Test.YtkdilmleinnfiaaGreatDoorPart17
import Derived.Test.YtkdilmleinnfiaaGreatDoorPart14
import Derived.Test.YtkdilmleinnfiaaGreatDoorPart15
import Derived.Test.YtkdilmleinnfiaaGreatDoorPart12
import Derived.Test.YtkdilmleinnfiaaGreatDoorPart16
set_option linter.constructorNameAsVariable false
set_option linter.unusedSectionVars false
set_option linter.unusedSimpArgs false
set_option linter.unusedVariables false
namespace Go.Am
open Go Go.Proofs
set_option maxHeartbeats 1000000
set_option maxRecDepth 4000
attribute [local irreducible] AY B2 Lex Br Ak Spec
variable {TB:Bw}
theorem Et{w:W}{al:Int}(h:within w al=true):Ay (AR al) w:=by
 unfold within at h
 simp only [Bool.and_eq_true,decide_eq_true_eq] at h
 intro c hc
 have h1:=(List.all_eq_true.1 h.2.2) c hc
 unfold HD Ew at h1
 simp only [Bool.and_eq_true,decide_eq_true_eq] at h1
 refine List.mem_map.2 ⟨((c.toNat - 97:Nat):Int),EW.2 ⟨by omega,h1.2⟩,?_⟩
 unfold lb
 have e:97+((c.toNat - 97:Nat):Int).toNat=c.toNat:=by omega
 rw [e]
 simp
theorem FG{w:W}{al:Int}(h:Ay (AR al) w)(hl:w.length≤50000)(ha:BI al=true):within w al=true:=by
 unfold within
 simp only [Bool.and_eq_true,decide_eq_true_eq]
 refine⟨hl,ha,List.all_eq_true.2 fun c hc=>?_⟩
 obtain⟨l,hm,rfl⟩:=List.mem_map.1 (h c hc)
 have h1:=Av hm
 have h2:=ET h1.1 (by omega)
 unfold HD Ew
 simp only [Bool.and_eq_true,decide_eq_true_eq]
 have e:(lb l).toNat - 97=l.toNat:=by omega
 rw [e]
 exact⟨by omega,h1.2.2⟩
theorem UF{p:AP}(hp:AF p=true)(w:W)(hw:Ay (AR p.al) w)(hl:w.length≤1099511627776):Pure Tryz.prog TB 213 [A2 p,eI .i64 0,eT w] (eI .i64 (AU p 0 w)):=by
 have hph:=Al hp
 refine eN Tryz.func213 rfl (by kernel_rfl) rfl ?_;intro Γ hΓ
 (repeat first|refine tA rfl ?_ |refine aU rfl ?_ |refine Aa ?_)
 refine aB ?_
 refine aL (α:={k:Nat // k≤w.length}) [2,3] [] rfl rfl (fun ⟨k,hk⟩=>[(1,eI .i64 (AU p 0 (w.take k))),(7,eI .i64 k)]) (fun ⟨k,hk⟩=>[]) 0 (fun ⟨k,hk⟩=>w.length - k) (⟨0,by omega⟩) hΓ rfl (by (simp[cX,zC,hΓ]<;>rfl)) ?_;rintro⟨k,hk⟩;(try dsimp only[cA,cB])
 have hr:=Dg hp (w.take k) 0 (FM hw k) (by omega)
 by_cases hlt:k < w.length
 ·obtain⟨c,hc⟩:=get_some hlt
  have hc':w[((k:Nat):Int).toNat]? = some c:=by simpa using hc
  have hcl:=FF (hw c (List.mem_of_getElem? hc))
  have hla:=Kj (TB:=TB) w k c hc'
  have hgo:=Kk (TB:=TB) p hp (AU p 0 (w.take k)).toNat (by omega) ((c.toNat:Int) - 97) hcl.1 hcl.2
  have e:(((AU p 0 (w.take k)).toNat:Nat):Int)=AU p 0 (w.take k):=by omega
  rw [e] at hgo
  have hst:=MQ (p:=p) hc 0
  rw [←hst] at hgo
  (repeat first|refine tA rfl ?_ |refine s2 rfl fun _ _hb=>?_ |refine aU rfl ?_ |refine Aa ?_)
  (refine aC rfl ?_ ?_<;>rintro⟨⟩)
  ·(repeat' first|(refine sA rfl ?_ ?_;first|exact tI|omega) |refine sP rfl (hla) rfl ?_|refine sP rfl (hgo) rfl ?_ |refine aU rfl ?_ |refine Aa ?_ |refine rE (by kernel_rfl) ?_|(refine aC rfl ?_ ?_<;>rintro⟨⟩)|refine aK ?_|refine aE ?_|refine aB ?_|refine aR ⟨_,rfl,?_⟩)
   refine⟨⟨k+1,by omega⟩,by dsimp only;(omega),[],?_⟩
   simp[cX,zC,hΓ]
  ·exfalso;(simp only[oZ] at *;omega)
 ·obtain rfl:k=w.length:=by omega
  rw [List.take_length]
  (repeat first|refine tA rfl ?_ |refine s2 rfl fun _ _hb=>?_ |refine aU rfl ?_ |refine Aa ?_)
  (refine aC rfl ?_ ?_<;>rintro⟨⟩)
  ·exfalso;(simp only[oZ] at *;omega)
  ·(repeat' first|refine tA rfl ?_ |refine aU rfl ?_ |refine Aa ?_|(refine aC rfl ?_ ?_<;>rintro⟨⟩)|refine aK ?_|refine aE ?_|refine aB ?_|refine aR ⟨_,rfl,?_⟩)
   rfl
def DU(p:AP)(w:W):Int:=if AF p && within w p.al then AU p 0 w else -1
def Gg(p:AP)(w:W):Bool:=AF p && (within w p.al && LA p w)
theorem Mi(p:AP)(w:W)(hl:w.length≤1099511627776):Pure Tryz.prog TB 154 [A2 p,eT w] (eI .i64 (DU p w)):=by
 have h1:=Bk (TB:=TB) p
 have h2:=DB (TB:=TB) w p.al hl
 by_cases hv:(AF p && within w p.al)=true
 ·have hs:DU p w=AU p 0 w:=by unfold DU;rw [if_pos hv]
  rw [hs]
  rw [Bool.and_eq_true] at hv
  have h3:=UF (TB:=TB) hv.1 w (Et hv.2) hl
  refine eN Tryz.func154 rfl (by kernel_rfl) rfl ?_;intro Γ hΓ
  (repeat' first|refine tA rfl ?_ |refine s2 rfl fun _ _hb=>?_ |(refine sC rfl (h1) ?_;intro _ _hb)|(refine sC rfl (h2) ?_;intro _ _hb)|refine sP rfl (h3) rfl ?_ |refine s3 rfl ?_ ?_<;>rintro rfl |refine aU rfl ?_ |refine Aa ?_|(refine aC rfl ?_ ?_<;>rintro⟨⟩)|refine aK ?_|refine aE ?_|refine aB ?_|refine aR ⟨_,rfl,?_⟩)
  all_goals first
   | rfl
   | (exfalso;grind;done)
 ·have hs:DU p w = -1:=by unfold DU;rw [if_neg hv]
  rw [hs]
  refine eN Tryz.func154 rfl (by kernel_rfl) rfl ?_;intro Γ hΓ
  (repeat' first|refine tA rfl ?_ |refine s2 rfl fun _ _hb=>?_ |(refine sC rfl (h1) ?_;intro _ _hb)|(refine sC rfl (h2) ?_;intro _ _hb) |refine s3 rfl ?_ ?_<;>rintro rfl |refine aU rfl ?_ |refine Aa ?_|(refine aC rfl ?_ ?_<;>rintro⟨⟩)|refine aK ?_|refine aE ?_|refine aB ?_|refine aR ⟨_,rfl,?_⟩)
  all_goals first
   | rfl
   | (exfalso;grind;done)
theorem Gl(p:AP)(w:W)(hl:w.length≤1099511627776):Pure Tryz.prog TB 84 [A2 p,eT w] (eB (Gg p w)):=by
 have h1:=Mi (TB:=TB) p w hl
 by_cases hv:(AF p && within w p.al)=true
 ·have hs:DU p w=AU p 0 w:=by unfold DU;rw [if_pos hv]
  rw [hs] at h1
  rw [Bool.and_eq_true] at hv
  have hph:=Al hv.1
  have hr:=Dg hv.1 w 0 (Et hv.2) (by omega)
  obtain⟨b,hb⟩:=get_some (l:=p.ac) (k:=(AU p 0 w).toNat) (by omega)
  have hb':(p.ac.map Gq)[(AU p 0 w).toNat]? = some (Gq b):=by simp [hb]
  have ha:Gg p w=b:=by unfold Gg LA;simp [hv.1,hv.2,List.getD,hb]
  rw [ha]
  refine eN Tryz.func84 rfl (by kernel_rfl) rfl ?_;intro Γ hΓ
  (repeat' first|refine tA rfl ?_ |(refine s4 rfl ‹_› rfl ?_ ?_;omega) |refine s2 rfl fun _ _hb=>?_ |refine sP rfl (h1) rfl ?_ |refine s3 rfl ?_ ?_<;>rintro rfl |refine aU rfl ?_ |refine Aa ?_|(refine aC rfl ?_ ?_<;>rintro⟨⟩)|refine aK ?_|refine aE ?_|refine aB ?_|refine aR ⟨_,rfl,?_⟩)
  all_goals first
   | rfl
   | (exfalso;(simp only[oZ] at *;omega))
 ·have hs:DU p w = -1:=by unfold DU;rw [if_neg hv]
  rw [hs] at h1
  have ha:Gg p w=false:=by unfold Gg;grind
  rw [ha]
  refine eN Tryz.func84 rfl (by kernel_rfl) rfl ?_;intro Γ hΓ
  (repeat' first|refine tA rfl ?_ |refine s2 rfl fun _ _hb=>?_ |refine sP rfl (h1) rfl ?_ |refine s3 rfl ?_ ?_<;>rintro rfl |refine aU rfl ?_ |refine Aa ?_|(refine aC rfl ?_ ?_<;>rintro⟨⟩)|refine aK ?_|refine aE ?_|refine aB ?_|refine aR ⟨_,rfl,?_⟩)
  all_goals first
   | rfl
   | (exfalso;(simp only[oZ] at *;omega))
theorem OE(a b:AP):Pure Tryz.prog TB 241 [A2 a,A2 b] (eB (CM a b)):=by
 refine eN Tryz.func241 rfl (by kernel_rfl) rfl ?_;intro Γ hΓ
 (repeat' first|refine tA rfl ?_ |refine s2 rfl fun _ _hb=>?_ |(refine sC rfl (Bk a) ?_;intro _ _hb)|(refine sC rfl (Bk b) ?_;intro _ _hb) |refine s3 rfl ?_ ?_<;>rintro rfl |refine aU rfl ?_ |refine Aa ?_|(refine aC rfl ?_ ?_<;>rintro⟨⟩)|refine aK ?_|refine aE ?_|refine aB ?_|refine aR ⟨_,rfl,?_⟩)
 all_goals (show E.o _=E.o _;congr;unfold CM;grind)
theorem J6(a b:AP):Pure Tryz.prog TB 192 [A2 a,A2 b] (Nk (Fw a b)):=by
 by_cases hv:CM a b=true
 ·have hv2:=hv
  unfold CM at hv2
  simp only [Bool.and_eq_true,decide_eq_true_eq] at hv2
  obtain⟨⟨ha,hb⟩,_⟩:=hv2
  obtain⟨hn,hk,hs⟩:=RA (kd:=1) ha hb
  have hf:=P5 (TB:=TB) hn hk hs (E5 _)
  rw [Wu] at hf
  have hd:Fw a b=Gn (E3 (C6 a b 1)):=by unfold Fw;rw [if_pos hv]
  rw [hd]
  have hf':Pure Tryz.prog TB 236 [.a [.d (.l []),.d (PE [a,b]),.d (CO [0,0]),.d (iD a.al),.d (iD 1),.d (iD 0)]] (Nk (Gn (E3 (C6 a b 1)))):=hf
  refine eN Tryz.func192 rfl (by kernel_rfl) rfl ?_;intro Γ hΓ
  (repeat' first|refine tA rfl ?_ |refine s2 rfl fun _ _hb=>?_ |(refine sC rfl (OE a b) ?_;intro _ _hb)|refine sP rfl (hf') rfl ?_|(refine Ag rfl ?_;refine gA rfl ?_;first| refine gS (fun _ _=>AK rfl rfl (by rfl) (by rfl)) ?_) |refine aU rfl ?_ |refine Aa ?_|(refine aC rfl ?_ ?_<;>rintro⟨⟩)|refine aK ?_|refine aE ?_|refine aB ?_|refine aR ⟨_,rfl,?_⟩)
  all_goals first
   | rfl
   | (exfalso;grind;done)
 ·have hd:Fw a b=none:=by unfold Fw;rw [if_neg hv]
  rw [hd]
  refine eN Tryz.func192 rfl (by kernel_rfl) rfl ?_;intro Γ hΓ
  (repeat' first|refine tA rfl ?_ |refine s2 rfl fun _ _hb=>?_ |(refine sC rfl (OE a b) ?_;intro _ _hb) |refine aU rfl ?_ |refine Aa ?_|(refine aC rfl ?_ ?_<;>rintro⟨⟩)|refine aK ?_|refine aE ?_|refine aB ?_|refine aR ⟨_,rfl,?_⟩)
  all_goals first
   | rfl
   | (exfalso;grind;done)
structure Nb where
 kn:Bool
 p:AP
 s:Sys
 q:AP
 al:Int
abbrev Dq(t:Nb):E:=bg t.kn t.p t.s t.q t.al
theorem J7(t:Nb)(hk:t.kn=true):Pure Tryz.prog TB 93 [Dq t] (eI .i64 (if AF t.p then t.p.al else -1)):=by
 obtain⟨kn,p,s,q,al⟩:=t
 dsimp only at hk
 subst hk
 refine eN Tryz.func93 rfl (by kernel_rfl) rfl ?_;intro Γ hΓ
 (repeat' first|refine tA rfl ?_ |refine s2 rfl fun _ _hb=>?_ |(refine sC rfl (Bk p) ?_;intro _ _hb) |refine s3 rfl ?_ ?_<;>rintro rfl |refine aU rfl ?_ |refine Aa ?_|(refine aC rfl ?_ ?_<;>rintro⟨⟩)|refine aK ?_|refine aE ?_|refine aB ?_|refine aR ⟨_,rfl,?_⟩)
 all_goals first
  | (show E.o _=E.o _;congr;grind)
  | (exfalso;simp at *;done)
theorem KC(t:Nb)(hk:t.kn=true)(w:W)(hl:w.length≤1099511627776):Pure Tryz.prog TB 85 [Dq t,eT w] (eB (Gg t.p w)):=by
 obtain⟨kn,p,s,q,al⟩:=t
 dsimp only at hk
 subst hk
 have h1:=Gl (TB:=TB) p w hl
 refine eN Tryz.func85 rfl (by kernel_rfl) rfl ?_;intro Γ hΓ
 (repeat' first|refine tA rfl ?_ |refine sP rfl (h1) rfl ?_ |refine aU rfl ?_ |refine Aa ?_|(refine aC rfl ?_ ?_<;>rintro⟨⟩)|refine aK ?_|refine aE ?_|refine aB ?_|refine aR ⟨_,rfl,?_⟩)
 all_goals rfl
theorem VY{a:AP}{q l:Int}(hq:0≤q∧q < a.nx.length)(hl:l∈Ac a.al):Pure Tryz.prog TB 181 [eI .i64 q,eI .i64 l,.o (.ip [.l (Es a)])] (eI .i64 (fA a q l)):=by
 have hl:=Av hl
 have ta:=He (a:=a) (q:=q.toNat) (by omega)
 have el:((l.toNat:Nat):Int)=l:=by omega
 have ra:=Fh (h:=fun l=>Bo a q.toNat l) hl.1 (by omega)
 simp only [el] at ra
 refine eN Tryz.func181 rfl (by kernel_rfl) rfl ?_;intro Γ hΓ
 (repeat first|(refine sA rfl ?_ ?_;first|exact tI|omega) |(refine s4 rfl ‹_› rfl ?_ ?_;omega)|(refine Ag rfl ?_;refine gA rfl ?_;first| refine gS (fun _ _=>Ea rfl ra) ?_) |refine aU rfl ?_ |refine Aa ?_)
 refine aR ⟨_,rfl,rfl⟩
theorem Xw{a:AP}(h:Hh a):Pure Tryz.prog TB 114 [A2 a] (A2 (Pq a)):=by
 have hn:=h.b.1
 have hn1:=h.n1
 have hac:=h.ac
 have hta:=JS (TB:=TB) a h.b
 have hlo:=CD (TB:=TB) a.al
 obtain⟨nd,rows,e1,e2,e3,e4,e5⟩:=Xv h.b h.n1
 have hnu:Pure Tryz.prog TB 180 [eI .i64 0,Aj (Ac a.al),eI .i64 a.nx.length,.o (.fn 181 [.ip [.l (Es a)]])] (ZM (OW a.nx.length (fA a) (Ac a.al) 0)):=by
  refine OX (lim:=a.nx.length) (R:=fun q=>0≤q∧q < ((a.nx.length:Nat):Int)) ⟨hn1,hn⟩ (AL _ 6) (by omega) (fun q l hq hl=>?_) (fun q l hq hl=>VY hq hl) rfl (fun r=>rfl)
  have hl:=Av hl
  exact CW h.b (q:=q.toNat) (by omega) hl.1 (by omega)
 rw [e1] at hnu
 rw [e5]
 have hnl:=e2.len
 refine eG Tryz.func114 rfl (by kernel_rfl) rfl ?_;intro Γ hΓ
 (repeat first|refine tA rfl ?_ |refine sP rfl (hta) rfl ?_ |refine aU rfl ?_ |refine Aa ?_)
 refine Ak.Bi [1] [(1,.o (.ip (Bm a))),(2,.o (.ptr 0 3 0 0)),(3,.o (.ip [.l (Es a)]))] ⟨⟨_,rfl,.inl rfl⟩,⟨_,rfl,.inl rfl⟩,⟨_,rfl,.inr (.o (.box rfl (Py.refl [.l (Es a)])))⟩,trivial⟩ ?_
 have hlr:(List.range a.nx.length).length=a.nx.length:=List.length_range
 rw [←hlr] at hnu
 refine rG (IY []) (by kernel_rfl) ?_
 (repeat first|refine sN rfl ?_ |refine tA rfl ?_ |refine sP rfl (hlo) rfl ?_|refine sP rfl (hnu) rfl ?_ |refine aU rfl ?_ |refine Aa ?_)
 (refine pW rfl ?_ rfl (by rfl);refine OP 2 1 4 rfl rfl rfl (by rfl) (by rfl) ?_)
 (repeat first|refine sN rfl ?_ |refine tA rfl ?_ |refine aU rfl ?_ |refine Aa ?_)
 refine aB ?_
 refine aL (α:={k:Nat // k≤nd.length}) [1,2,7,27,28] [0] rfl rfl (fun ⟨k,hk⟩=>[(29,eI .i64 k)]) (fun ⟨k,hk⟩=>[(3,.cells 41 3 [[.d (iD a.al),.d (Ci rows),.arr 2 1 0 k]]),(2,.cells 4 1 (((nd.take k).map (Fp a)).map AQ))]) 4 (fun ⟨k,hk⟩=>nd.length - k) (⟨0,by omega⟩) hΓ rfl (by (simp[cX,zC,hΓ,eC,BZ,Ai])) ?_;rintro⟨k,hk⟩;(try dsimp only[cA,cB])
 by_cases hlt:k < nd.length
 ·obtain⟨q,hq⟩:=get_some hlt
  have hq':=get_map (g:=Bq) hq
  have hqi:=e4 q (List.mem_of_getElem? hq)
  obtain⟨bb,hb⟩:=get_some (l:=a.ac) (k:=q.toNat) (by omega)
  have hb':=get_map (g:=Gq) hb
  have hba:Fp a q=bb:=DT hb
  have ht:nd.take (k+1)=nd.take k++[q]:=by rw [List.take_add_one,hq];rfl
  rw [Int.toNat_natCast] at hb'
  (repeat first|refine s2 rfl fun _ _hb=>?_ |refine aU rfl ?_ |refine Aa ?_)
  ((refine aC rfl ?_ ?_<;>rintro⟨⟩);all_goals try(exfalso;(simp only[oZ] at *;omega)))
  refine aK ?_
  refine aS (aB ?_)
  (repeat first|refine tA rfl ?_ |(refine s4 rfl ‹_› rfl ?_ ?_;omega) |refine aU rfl ?_ |refine Aa ?_)
  refine rG (IY [8,10]) (by kernel_rfl) ?_
  (repeat first|refine tA rfl ?_ |(refine s4 rfl ‹_› rfl ?_ ?_;omega))
  (refine pW rfl ?_ rfl (by rfl);refine Aw rfl rfl rfl (by first| (simp;done)|(simp;(omega))) rfl (by intro r hr;simp at hr;subst hr;rfl) (by rfl) (Nat.le_of_ble_eq_true rfl) (by simp;omega) ?_)
  (repeat first|(refine sA rfl ?_ ?_;first|exact tI|omega) |refine aU rfl ?_ |refine Aa ?_)
  refine⟨⟨k+1,by omega⟩,by dsimp only;(omega),[0,1,4,3],?_⟩
  simp[cX,zC,hΓ,eC,BZ,Ai,ht,hba]
 ·obtain rfl:k=nd.length:=by omega
  rw [List.take_length]
  (repeat first|refine s2 rfl fun _ _hb=>?_ |refine aU rfl ?_ |refine Aa ?_)
  ((refine aC rfl ?_ ?_<;>rintro⟨⟩);all_goals try(exfalso;(simp only[oZ] at *;omega)))
  refine aE ?_
  refine Ak.Bi [2,3] [(2,.o (.ptr 0 3 0 0)),(7,.o (.ip [iD a.al,Ci rows,FY (nd.map (Fp a))]))] ⟨⟨_,rfl,.inl rfl⟩,⟨_,rfl,.inr (.o (.box rfl (.cons .d (.cons .d (.cons (.full rfl (by simp [Function.comp_def]) (by simp)) .nil)))))⟩,trivial⟩ ?_
  (repeat first|refine tA rfl ?_ |refine aU rfl ?_ |refine Aa ?_)
  (subst_vars;exact aR ⟨_,rfl,rfl⟩)
structure Hs (P:Program) (TB:Bw) (gA gQ:FuncId) (t:Nb) (al:Int) (A:W→Bool):Prop where
 alph:Pure P TB gA [Dq t] (eI .i64 al)
 ask:∀w:W,w.length≤1099511627776→Pure P TB gQ [Dq t,eT w] (eB (A w))
theorem bP{t:Nb}(hk:t.kn=true):Hs Tryz.prog TB 93 85 t (if AF t.p then t.p.al else -1) (Gg t.p):=⟨J7 t hk,KC t hk⟩
structure NV (t:AZ):Prop where
 rl:t.rows.length≤4194304
 cl:t.cols.length≤4194304
 rb:∀w∈t.rows,w.length≤4194304
 cb:∀w∈t.cols,w.length≤4194304
theorem GH(l:List W)(s:W)(hl:l.length≤1099511627776):Pure Tryz.prog TB 72 [Bg l,eT s] (eB (decide (s∈l))):=by
 refine eN Tryz.func72 rfl (by kernel_rfl) rfl ?_;intro Γ hΓ
 (repeat first|refine tA rfl ?_ |refine aU rfl ?_ |refine Aa ?_)
 refine aB ?_
 refine aL (α:={k:Nat // k≤l.length∧s∉l.take k}) [0,1] [] rfl rfl (fun ⟨k,hk,hn⟩=>[(5,eI .i64 k)]) (fun ⟨k,hk,hn⟩=>[]) 0 (fun ⟨k,hk,hn⟩=>l.length - k) (⟨0,by omega,by simp⟩) hΓ rfl (by (simp[cX,zC,hΓ])) ?_;rintro⟨k,hk,hn⟩;(try dsimp only[cA,cB])
 by_cases hlt:k < l.length
 ·obtain⟨x,hx⟩:=get_some hlt
  have hx':=get_map (g:=BC) hx
  by_cases hs:x=s
  ·have hm:s∈l:=hs ▸ List.mem_of_getElem? hx
   (repeat first|refine sN rfl ?_ |refine tA rfl ?_ |refine s2 rfl fun _ _hb=>?_ |refine aU rfl ?_ |refine Aa ?_)
   (refine aC rfl ?_ ?_<;>rintro⟨⟩)
   ·(repeat' first|(refine sA rfl ?_ ?_;first|exact tI|omega) |(refine s4 rfl ‹_› rfl ?_ ?_;omega) |refine s2 rfl fun _ _hb=>?_ |refine aU rfl ?_ |refine Aa ?_|(refine aC rfl ?_ ?_<;>rintro⟨⟩)|refine aK ?_|refine aE ?_|refine aB ?_|refine aR ⟨_,rfl,?_⟩)
    ·simp [hm]
    ·exfalso;simp [hs] at _hb
   ·exfalso;(simp only[oZ] at *;omega)
  ·have hn2:s∉l.take (k+1):=by
    rw [List.take_add_one,hx]
    intro h
    rcases List.mem_append.1 h with h|h
    ·exact hn h
    ·simp at h;exact hs h.symm
   (repeat first|refine sN rfl ?_ |refine tA rfl ?_ |refine s2 rfl fun _ _hb=>?_ |refine aU rfl ?_ |refine Aa ?_)
   (refine aC rfl ?_ ?_<;>rintro⟨⟩)
   ·(repeat' first|(refine sA rfl ?_ ?_;first|exact tI|omega) |(refine s4 rfl ‹_› rfl ?_ ?_;omega) |refine s2 rfl fun _ _hb=>?_ |refine aU rfl ?_ |refine Aa ?_|(refine aC rfl ?_ ?_<;>rintro⟨⟩)|refine aK ?_|refine aE ?_|refine aB ?_|refine aR ⟨_,rfl,?_⟩)
    ·exfalso;simp [hs] at _hb
    ·refine⟨⟨k+1,by omega,hn2⟩,by dsimp only;(omega),[],?_⟩
     simp[cX,zC,hΓ]
   ·exfalso;(simp only[oZ] at *;omega)
 ·rw [List.take_of_length_le (by omega)] at hn
  (repeat first|refine sN rfl ?_ |refine tA rfl ?_ |refine s2 rfl fun _ _hb=>?_ |refine aU rfl ?_ |refine Aa ?_)
  (refine aC rfl ?_ ?_<;>rintro⟨⟩)
  ·exfalso;(simp only[oZ] at *;omega)
  ·(repeat' first|refine tA rfl ?_ |refine aU rfl ?_ |refine Aa ?_|(refine aC rfl ?_ ?_<;>rintro⟨⟩)|refine aK ?_|refine aE ?_|refine aB ?_|refine aR ⟨_,rfl,?_⟩)
   simp [hn]
theorem Qe{A:W→Bool}{cols:List W}{w c:W}{k:Nat}(hc:cols[k]? = some c):marks A (cols.take (k+1)) w=marks A (cols.take k) w++[NX (A (w++c))]:=by
 unfold marks
 rw [List.take_add_one,hc];simp
theorem SU{A:W→Bool}{cols:List W}{w:W}:(marks A cols w).length=cols.length:=by simp [marks]
theorem Ji{t:Nb}{al:Int}{A:W→Bool}(hT:Hs Tryz.prog TB 93 85 t al A)(cols:List W)(w:W)(hl:cols.length≤4194304)(hw:w.length≤4194305)(hb:∀x∈cols,x.length≤4194304) :
 Pure Tryz.prog TB 97 [Dq t,Bg cols,eT w] (eT (marks A cols w)):=by
 refine eN Tryz.func97 rfl (by kernel_rfl) rfl ?_;intro Γ hΓ
 (repeat first|refine tA rfl ?_ |refine aU rfl ?_ |refine Aa ?_)
 refine aB ?_
 refine aL (α:={k:Nat // k≤cols.length}) [1,2,3] [] rfl rfl (fun ⟨k,hk⟩=>[(7,eT (marks A (cols.take k) w)),(8,eI .i64 k)]) (fun ⟨k,hk⟩=>[]) 0 (fun ⟨k,hk⟩=>cols.length - k) (⟨0,by omega⟩) hΓ rfl (by (simp[cX,zC,hΓ]<;>rfl)) ?_;rintro⟨k,hk⟩;(try dsimp only[cA,cB])
 have hml:(marks A (cols.take k) w).length≤4194304:=by rw [SU,List.length_take];omega
 by_cases hlt:k < cols.length
 ·obtain⟨x,hx⟩:=get_some hlt
  have hx':=get_map (g:=BC) hx
  have hxb:=hb x (List.mem_of_getElem? hx)
  have hq:=hT.ask (w++x) (by simp;omega)
  have hst:=Qe (A:=A) (w:=w) hx
  (repeat first|refine sN rfl ?_ |refine tA rfl ?_ |refine s2 rfl fun _ _hb=>?_ |refine aU rfl ?_ |refine Aa ?_)
  (refine aC rfl ?_ ?_<;>rintro⟨⟩)
  ·refine aK ?_
   refine aS (aB ?_)
   (repeat first|(refine sA rfl ?_ ?_;first|exact tI|omega) |(refine s4 rfl ‹_› rfl ?_ ?_;omega) |(refine sC rfl (hq) ?_;intro _ _hb) |refine aU rfl ?_ |refine Aa ?_ |refine rE (by kernel_rfl) ?_)
   (refine aC rfl ?_ ?_<;>rintro⟨⟩)
   ·rw [_hb] at hst
    (repeat first|(refine sA rfl ?_ ?_;first|exact tI|omega|simp only[oZ] at *;omega) |refine aU rfl ?_ |refine Aa ?_)
    refine⟨⟨k+1,by omega⟩,by dsimp only;(omega),[],?_⟩
    simp[cX,zC,hΓ,hst,NX]
   ·rw [_hb] at hst
    (repeat first|(refine sA rfl ?_ ?_;first|exact tI|omega|simp only[oZ] at *;omega) |refine aU rfl ?_ |refine Aa ?_)
    refine⟨⟨k+1,by omega⟩,by dsimp only;(omega),[],?_⟩
    simp[cX,zC,hΓ,hst,NX]
  ·exfalso;(simp only[oZ] at *;omega)
 ·obtain rfl:k=cols.length:=by omega
  rw [List.take_length]
  (repeat first|refine sN rfl ?_ |refine tA rfl ?_ |refine s2 rfl fun _ _hb=>?_ |refine aU rfl ?_ |refine Aa ?_)
  (refine aC rfl ?_ ?_<;>rintro⟨⟩)
  ·exfalso;(simp only[oZ] at *;omega)
  ·(repeat' first|refine tA rfl ?_ |refine aU rfl ?_ |refine Aa ?_|(refine aC rfl ?_ ?_<;>rintro⟨⟩)|refine aK ?_|refine aE ?_|refine aB ?_|refine aR ⟨_,rfl,?_⟩)
   rfl
theorem HF{t:Nb}{al:Int}{A:W→Bool}(hT:Hs Tryz.prog TB 93 85 t al A)(cols words:List W)(hl:cols.length≤4194304)(hw:∀w∈words,w.length≤4194305)(hb:∀x∈cols,x.length≤4194304)(hwl:words.length≤4194304) :
 Pure Tryz.prog TB 95 [Dq t,Bg cols,Bg words] (Bg (words.map (marks A cols))):=by
 refine eN Tryz.func95 rfl (by kernel_rfl) rfl ?_;intro Γ hΓ
 (repeat first|refine aU rfl ?_)
 (refine Ag rfl ?_;refine Cq (fun _ _=>Cw rfl rfl rfl) rfl ?_)
 (repeat first|refine tX rfl ?_ |refine aU rfl ?_ |refine Aa ?_)
 (refine pW rfl ?_ rfl (by rfl);refine A1 rfl rfl rfl rfl (by simp) (by rfl) (by rfl) (by rfl) (by rfl) ?_)
 (repeat first|refine tX rfl ?_ |refine aU rfl ?_ |refine Aa ?_)
 refine aB ?_
 refine aL (α:={k:Nat // k≤words.length}) [1,2,3] [] rfl rfl (fun ⟨k,hk⟩=>[(7,.o (.arr 0 1 0 k)),(8,eI .i64 k)]) (fun ⟨k,hk⟩=>[(0,.cells 9 1 ((words.take k).map fun w=>[.d (tD (marks A cols w))]))]) 1 (fun ⟨k,hk⟩=>words.length - k) (⟨0,by omega⟩) hΓ rfl (by (simp[cX,zC,hΓ])) ?_;rintro⟨k,hk⟩;(try dsimp only[cA,cB])
 by_cases hlt:k < words.length
 ·obtain⟨x,hx⟩:=get_some hlt
  have hx':=get_map (g:=BC) hx
  have hr:=Ji hT cols x hl (hw x (List.mem_of_getElem? hx)) hb
  have hst:(words.take (k+1)).map (fun w=>[C.d (tD (marks A cols w))])=(words.take k).map (fun w=>[C.d (tD (marks A cols w))])++[[C.d (tD (marks A cols x))]]:=by rw [List.take_add_one,hx];simp
  (repeat first|refine sN rfl ?_ |refine tX rfl ?_ |refine s2 rfl fun _ _hb=>?_ |refine aU rfl ?_ |refine Aa ?_)
  (refine aC rfl ?_ ?_<;>rintro⟨⟩)
  ·refine aK ?_
   refine aS (aB ?_)
   refine rG (IY [9]) (by kernel_rfl) ?_
   (repeat first|refine tA rfl ?_ |(refine s4 rfl ‹_› rfl ?_ ?_;omega) |refine sP rfl (hr) rfl ?_)
   (refine pW rfl ?_ rfl (by rfl);refine Aw rfl rfl rfl (by first| (simp;done)|(simp;(omega))) rfl (by intro r hr;simp at hr;subst hr;rfl) (by rfl) (Nat.le_of_ble_eq_true rfl) (by simp;omega) ?_)
   (repeat first|(refine sA rfl ?_ ?_;first|exact tI|omega) |refine aU rfl ?_ |refine Aa ?_)
   refine⟨⟨k+1,by omega⟩,by dsimp only;(omega),[1],?_⟩
   simp[cX,zC,hΓ,hst]
  ·exfalso;(simp only[oZ] at *;omega)
 ·obtain rfl:k=words.length:=by omega
  rw [List.take_length]
  (repeat first|refine sN rfl ?_ |refine tX rfl ?_ |refine s2 rfl fun _ _hb=>?_ |refine aU rfl ?_ |refine Aa ?_)
  (refine aC rfl ?_ ?_<;>rintro⟨⟩)
  ·exfalso;(simp only[oZ] at *;omega)
  ·refine aE ?_
   (repeat first|refine tX rfl ?_ |refine aU rfl ?_ |refine Aa ?_)
   refine Ak.settle [(6,Bg (words.map (marks A cols)))] ⟨⟨_,rfl,.o (.full rfl (by simp [Function.comp_def]) (by simp))⟩,trivial⟩ ?_
   refine aR ⟨_,rfl,rfl⟩
def rowAt(al:Int)(l:List W)(i:Nat):Bool:=match l[i]? with
 | none=>true
 | some w=>!decide (w.length=0) && (within w al && decide (w.dropLast∈l.take i))
def Ga(al:Int)(l:List W)(i:Nat):Bool:=match l[i]? with
 | none=>true
 | some w=>decide (w.length≤4000) && (within w al && !decide (w∈l.take i))
def CN(f:Nat→Bool)(n:Nat):Bool:=(List.range n).all fun i=>decide (i=0) || f i
theorem Fy{f:Nat→Bool}{k:Nat}(h:CN f k=true)(hf:f k=true):CN f (k+1)=true:=by
 unfold CN at *
 rw [List.range_succ,List.all_append,h];simp [hf]
theorem E9{f:Nat→Bool}{k n:Nat}(h0:0 < k)(h:k < n)(hf:f k=false):CN f n=false:=by
 unfold CN
 rw [List.all_eq_false]
 exact⟨k,List.mem_range.2 h,by simp [hf];omega⟩
def FT(al:Int)(t:AZ):Bool:=decide (0≤al) && (decide (1≤t.rows.length∧t.rows.length≤12) && (decide (1≤t.cols.length∧t.cols.length≤20) && (decide (t.rows[0]? = some []) && decide (t.cols[0]? = some []))))
def Dh(al:Int)(t:AZ):Bool:=FT al t && (CN (rowAt al t.rows) t.rows.length && CN (Ga al t.cols) t.cols.length)
theorem Oy(al:Int)(t:AZ)(hz:NV t):Pure Tryz.prog TB 129 [eI .i64 al,CB t] (eB (Dh al t)):=by
 have hrl:=hz.rl
 have hcl:=hz.cl
 by_cases h0:FT al t=true
 ·have hss : Dh al t=(CN (rowAt al t.rows) t.rows.length && CN (Ga al t.cols) t.cols.length):=by unfold Dh;rw [h0];rfl
  rw [hss]
  unfold FT at h0
  simp only [Bool.and_eq_true,decide_eq_true_eq] at h0
  obtain⟨h1,h2,h3,h4,h5⟩:=h0
  have h4':=get_map (g:=BC) (k:=0) h4
  have h5':=get_map (g:=BC) (k:=0) h5
  have e0:((0:Nat):Int).toNat=(0:Int).toNat:=rfl
  rw [e0] at h4' h5'
  refine eN Tryz.func129 rfl (by kernel_rfl) rfl ?_;intro Γ hΓ
  (repeat' first|refine sN rfl ?_ |refine tA rfl ?_ |(refine s4 rfl ‹_› rfl ?_ ?_;omega) |refine s2 rfl fun _ _hb=>?_ |refine s3 rfl ?_ ?_<;>rintro rfl |refine aU rfl ?_ |refine Aa ?_|(refine aC rfl ?_ ?_<;>rintro⟨⟩)|refine aK ?_|refine aE ?_|refine aB ?_|refine aR ⟨_,rfl,?_⟩)
  all_goals first
   | (exfalso;(simp only[oZ] at *;omega);done)
   | (exfalso;simp at *;done)
   | skip
  refine aL (α:={k:Nat // 1≤k∧k≤t.rows.length∧CN (rowAt al t.rows) k=true}) [0,3,5,6] [] rfl rfl (fun ⟨k,hk1,hk,ha⟩=>[(7,eI .i64 k)]) (fun ⟨k,hk1,hk,ha⟩=>[]) 0 (fun ⟨k,hk1,hk,ha⟩=>t.rows.length - k) (⟨1,by omega,by omega,rfl⟩) hΓ rfl (by (simp[cX,zC,hΓ])) ?_;rintro⟨k,hk1,hk,ha⟩;(try dsimp only[cA,cB])
  by_cases hlt:k < t.rows.length
  ·obtain⟨x,hx⟩:=get_some hlt
   have hx':=get_map (g:=BC) hx
   have hxb:=hz.rb x (List.mem_of_getElem? hx)
   have hra:rowAt al t.rows k=(!decide (x.length=0) && (within x al && decide (x.dropLast∈t.rows.take k))):=by unfold rowAt;rw [hx]
   have hww:=DB (TB:=TB) x al (by omega)
   have hin:Pure Tryz.prog TB 72 [.o (.d (.l ((t.rows.map BC).take ((k:Nat):Int).toNat))),eT (x.take ((x.length:Int) - 1).toNat)] (eB (decide (x.dropLast∈t.rows.take k))):=by
    have e1:(x.take ((x.length:Int) - 1).toNat)=x.dropLast:=by rw [List.dropLast_eq_take];congr 1;omega
    rw [e1,Int.toNat_natCast,←List.map_take]
    exact GH _ _ (by simp;omega)
   (repeat first|refine tA rfl ?_ |refine s2 rfl fun _ _hb=>?_ |refine aU rfl ?_ |refine Aa ?_)
   (refine aC rfl ?_ ?_<;>rintro⟨⟩)
   ·(repeat' first|(refine sA rfl ?_ ?_;first|exact tI|omega) |(refine s4 rfl ‹_› rfl ?_ ?_;omega) |refine s2 rfl fun _ _hb=>?_ |(refine sC rfl (hww) ?_;intro _ _hb)|(refine sC rfl (hin) ?_;intro _ _hb)|(refine Ag rfl ?_;refine gA rfl ?_;first| refine gS (fun _ _=>G0 rfl rfl (by simp) (by omega) (by (simp only[oZ] at *;omega))) ?_|refine gS (fun _ _=>RN rfl rfl (by (simp only[oZ] at *;omega)) (by omega)) ?_) |refine s3 rfl ?_ ?_<;>rintro rfl |refine aU rfl ?_ |refine Aa ?_ |refine rE (by kernel_rfl) ?_|(refine aC rfl ?_ ?_<;>rintro⟨⟩)|refine aK ?_|refine aE ?_|refine aB ?_|refine aR ⟨_,rfl,?_⟩)
    all_goals first
     | (show eB false=eB _;rw [E9 (by omega) hlt (by rw [hra];grind)];rfl)
     | (have hst:=Fy ha (by rw [hra];grind);refine⟨⟨k+1,by omega,by omega,hst⟩,by dsimp only;(omega),[],?_⟩;simp[cX,zC,hΓ])
   ·exfalso;(simp only[oZ] at *;omega)
  ·obtain rfl:k=t.rows.length:=by omega
   rw [ha]
   (repeat first|refine tA rfl ?_ |refine s2 rfl fun _ _hb=>?_ |refine aU rfl ?_ |refine Aa ?_)
   (refine aC rfl ?_ ?_<;>rintro⟨⟩)
   ·exfalso;(simp only[oZ] at *;omega)
   ·(repeat' first|refine tA rfl ?_ |refine aU rfl ?_ |refine Aa ?_|(refine aC rfl ?_ ?_<;>rintro⟨⟩)|refine aK ?_|refine aE ?_|refine aB ?_|refine aR ⟨_,rfl,?_⟩)
    refine aL (α:={k:Nat // 1≤k∧k≤t.cols.length∧CN (Ga al t.cols) k=true}) [0,3,6] [] rfl rfl (fun ⟨k,hk1,hk,ha⟩=>[(9,eI .i64 k)]) (fun ⟨k,hk1,hk,ha⟩=>[]) 0 (fun ⟨k,hk1,hk,ha⟩=>t.cols.length - k) (⟨1,by omega,by omega,rfl⟩) hΓ rfl (by (simp[cX,zC,hΓ])) ?_;rintro⟨k,hk1,hk,ha⟩;(try dsimp only[cA,cB])
    by_cases hlt:k < t.cols.length
    ·obtain⟨x,hx⟩:=get_some hlt
     have hx':=get_map (g:=BC) hx
     have hxb:=hz.cb x (List.mem_of_getElem? hx)
     have hra:Ga al t.cols k=(decide (x.length≤4000) && (within x al && !decide (x∈t.cols.take k))):=by unfold Ga;rw [hx]
     have hww:=DB (TB:=TB) x al (by omega)
     have hin:Pure Tryz.prog TB 72 [.o (.d (.l ((t.cols.map BC).take ((k:Nat):Int).toNat))),eT x] (eB (decide (x∈t.cols.take k))):=by
      rw [Int.toNat_natCast,←List.map_take]
      exact GH _ _ (by simp;omega)
     (repeat first|refine tA rfl ?_ |refine s2 rfl fun _ _hb=>?_ |refine aU rfl ?_ |refine Aa ?_)
     (refine aC rfl ?_ ?_<;>rintro⟨⟩)
     ·(repeat' first|(refine sA rfl ?_ ?_;first|exact tI|omega) |(refine s4 rfl ‹_› rfl ?_ ?_;omega) |refine s2 rfl fun _ _hb=>?_ |(refine sC rfl (hww) ?_;intro _ _hb)|(refine sC rfl (hin) ?_;intro _ _hb)|(refine Ag rfl ?_;refine gA rfl ?_;first| refine gS (fun _ _=>G0 rfl rfl (by simp) (by omega) (by (simp only[oZ] at *;omega))) ?_) |refine s3 rfl ?_ ?_<;>rintro rfl |refine aU rfl ?_ |refine Aa ?_|(refine aC rfl ?_ ?_<;>rintro⟨⟩)|refine aK ?_|refine aE ?_|refine aB ?_|refine aR ⟨_,rfl,?_⟩)
      all_goals first
       | (show eB false=eB _;rw [E9 (by omega) hlt (by rw [hra];grind)];rfl)
       | (have hst:=Fy ha (by rw [hra];grind);refine⟨⟨k+1,by omega,by omega,hst⟩,by dsimp only;(omega),[],?_⟩;simp[cX,zC,hΓ])
     ·exfalso;(simp only[oZ] at *;omega)
    ·obtain rfl:k=t.cols.length:=by omega
     rw [ha]
     (repeat first|refine tA rfl ?_ |refine s2 rfl fun _ _hb=>?_ |refine aU rfl ?_ |refine Aa ?_)
     (refine aC rfl ?_ ?_<;>rintro⟨⟩)
     ·exfalso;(simp only[oZ] at *;omega)
     ·(repeat' first|refine tA rfl ?_ |refine aU rfl ?_ |refine Aa ?_|(refine aC rfl ?_ ?_<;>rintro⟨⟩)|refine aK ?_|refine aE ?_|refine aB ?_|refine aR ⟨_,rfl,?_⟩)
      rfl
 ·have hss:Dh al t=false:=by unfold Dh;simp [h0]
  rw [hss]
  have h0':¬(0≤al∧(1≤t.rows.length∧t.rows.length≤12)∧(1≤t.cols.length∧t.cols.length≤20)∧t.rows[0]? = some []∧t.cols[0]? = some []):=by
   intro h;apply h0;unfold FT;simp [h]
  have hR':(t.rows.map BC)[(0:Int).toNat]? = (t.rows[0]?).map BC:=by simp
  have hC':(t.cols.map BC)[(0:Int).toNat]? = (t.cols[0]?).map BC:=by simp
  have hRn:t.rows[0]? = none→t.rows.length=0:=fun h=>by have:=List.getElem?_eq_none_iff.1 h;omega
  have hCn:t.cols[0]? = none→t.cols.length=0:=fun h=>by have:=List.getElem?_eq_none_iff.1 h;omega
  refine eN Tryz.func129 rfl (by kernel_rfl) rfl ?_;intro Γ hΓ
  cases hR:t.rows[0]?<;>cases hC:t.cols[0]?<;>rw [hR] at hR' h0'<;>rw [hC] at hC' h0'<;>(
   (repeat' first|refine sN rfl ?_ |refine tA rfl ?_ |(refine s4 rfl ‹_› rfl ?_ ?_;omega) |refine s2 rfl fun _ _hb=>?_ |refine s3 rfl ?_ ?_<;>rintro rfl |refine aU rfl ?_ |refine Aa ?_|(refine aC rfl ?_ ?_<;>rintro⟨⟩)|refine aK ?_|refine aE ?_|refine aB ?_|refine aR ⟨_,rfl,?_⟩)
   all_goals first
    | rfl
    | (exfalso;grind;done))
def Fz(al:Int)(w:W):Bool:=within w al && decide (w.length≤4000)
theorem KV{t:Nb}{al:Int}{A:W→Bool}(hT:Hs Tryz.prog TB 93 85 t al A)(w:W)(hl:w.length≤1099511627776):Pure Tryz.prog TB 71 [Dq t,eT w] (eB (Fz al w)):=by
 have h1:=hT.alph
 have h2:=DB (TB:=TB) w al hl
 have hc:Fz al w=(within w al && decide ((w.length:Int)≤4000)):=by unfold Fz;congr 1;rw [decide_eq_decide];omega
 rw [hc]
 refine eN Tryz.func71 rfl (by kernel_rfl) rfl ?_;intro Γ hΓ
 (repeat' first|refine tA rfl ?_ |refine s2 rfl fun _ _hb=>?_ |refine sP rfl (h1) rfl ?_|(refine sC rfl (h2) ?_;intro _ _hb) |refine s3 rfl ?_ ?_<;>rintro rfl |refine aU rfl ?_ |refine Aa ?_|(refine aC rfl ?_ ?_<;>rintro⟨⟩)|refine aK ?_|refine aE ?_|refine aB ?_|refine aR ⟨_,rfl,?_⟩)
 all_goals (show E.o _=E.o _;congr;grind)
def Bh(A:W→Bool)(al:Int)(t:AZ):Bool:=Dh al t && decide (AE A t).Nodup
theorem Rz{l:List W}{k:Nat}{x:W}(hx:l[k]? = some x)(h:(l.take k).Nodup)(hn:x∉l.take k):(l.take (k+1)).Nodup:=by
 rw [List.take_add_one,hx,List.nodup_append]
 refine⟨h,by simp,fun a ha b hb e=>?_⟩
 simp at hb;subst hb;exact hn (e ▸ ha)
theorem YE{l:List W}{k:Nat}{x:W}(hx:l[k]? = some x)(hn:x∈l.take k):¬l.Nodup:=by
 intro h
 obtain⟨h1,rfl⟩:=List.getElem?_eq_some_iff.1 hx
 rw [←List.take_append_drop k l,List.nodup_append] at h
 exact h.2.2 _ hn _ (by rw [List.drop_eq_getElem_cons h1];exact List.mem_cons_self) rfl
theorem DA{t:Nb}{al:Int}{A:W→Bool}(hT:Hs Tryz.prog TB 93 85 t al A)(tab:AZ)(hz:NV tab):Pure Tryz.prog TB 55 [Dq t,CB tab] (eB (Bh A al tab)):=by
 have h1:=hT.alph
 have h2:=Oy (TB:=TB) al tab hz
 have h3:=HF hT tab.cols tab.rows hz.cl (fun w hw=>by have:=hz.rb w hw;omega) hz.cb hz.rl
 by_cases hs:Dh al tab=true
 ·have hv:Bh A al tab=decide (AE A tab).Nodup:=by unfold Bh;rw [hs];rfl
  rw [hv]
  have h3':Pure Tryz.prog TB 95 [Dq t,Bg tab.cols,Bg tab.rows] (Bg (AE A tab)):=h3
  have hml:(AE A tab).length=tab.rows.length:=by simp [AE]
  have hrl:=hz.rl
  generalize AE A tab=l at *
  refine eN Tryz.func55 rfl (by kernel_rfl) rfl ?_;intro Γ hΓ
  (repeat' first|refine tA rfl ?_ |refine s2 rfl fun _ _hb=>?_ |refine sP rfl (h1) rfl ?_|(refine sC rfl (h2) ?_;intro _ _hb)|refine sP rfl (h3') rfl ?_ |refine aU rfl ?_ |refine Aa ?_ |refine rE (by kernel_rfl) ?_|(refine aC rfl ?_ ?_<;>rintro⟨⟩)|refine aK ?_|refine aE ?_|refine aB ?_|refine aR ⟨_,rfl,?_⟩)
  all_goals first
   | (exfalso;grind;done)
   | skip
  refine aL (α:={k:Nat // k≤l.length∧(l.take k).Nodup}) [5] [] rfl rfl (fun ⟨k,hk,hn⟩=>[(6,eI .i64 k)]) (fun ⟨k,hk,hn⟩=>[]) 0 (fun ⟨k,hk,hn⟩=>l.length - k) (⟨0,by omega,by simp⟩) hΓ rfl (by (simp[cX,zC,hΓ])) ?_;rintro⟨k,hk,hn⟩;(try dsimp only[cA,cB])
  by_cases hlt:k < l.length
  ·obtain⟨x,hx⟩:=get_some hlt
   have hx':=get_map (g:=BC) hx
   have hin:Pure Tryz.prog TB 72 [.o (.d (.l ((l.map BC).take ((k:Nat):Int).toNat))),eT x] (eB (decide (x∈l.take k))):=by
    rw [Int.toNat_natCast,←List.map_take]
    exact GH _ _ (by simp;omega)
   (repeat first|refine sN rfl ?_ |refine tA rfl ?_ |refine s2 rfl fun _ _hb=>?_ |refine aU rfl ?_ |refine Aa ?_)
   (refine aC rfl ?_ ?_<;>rintro⟨⟩)
   ·(repeat' first|(refine sA rfl ?_ ?_;first|exact tI|omega) |(refine s4 rfl ‹_› rfl ?_ ?_;omega) |(refine sC rfl (hin) ?_;intro _ _hb)|(refine Ag rfl ?_;refine gA rfl ?_;first| refine gS (fun _ _=>G0 rfl rfl (by simp) (by omega) (by (simp only[oZ] at *;omega))) ?_) |refine aU rfl ?_ |refine Aa ?_ |refine rE (by kernel_rfl) ?_|(refine aC rfl ?_ ?_<;>rintro⟨⟩)|refine aK ?_|refine aE ?_|refine aB ?_|refine aR ⟨_,rfl,?_⟩)
    ·show eB false=eB _
     rw [decide_eq_false (YE hx (by simpa using _hb))]
    ·have hst:=Rz hx hn (by simpa using _hb)
     refine⟨⟨k+1,by omega,hst⟩,by dsimp only;(omega),[],?_⟩
     simp[cX,zC,hΓ]
   ·exfalso;(simp only[oZ] at *;omega)
  ·rw [List.take_of_length_le (by omega)] at hn
   (repeat first|refine sN rfl ?_ |refine tA rfl ?_ |refine s2 rfl fun _ _hb=>?_ |refine aU rfl ?_ |refine Aa ?_)
   (refine aC rfl ?_ ?_<;>rintro⟨⟩)
   ·exfalso;(simp only[oZ] at *;omega)
   ·(repeat' first|refine tA rfl ?_ |refine aU rfl ?_ |refine Aa ?_|(refine aC rfl ?_ ?_<;>rintro⟨⟩)|refine aK ?_|refine aE ?_|refine aB ?_|refine aR ⟨_,rfl,?_⟩)
    rw [decide_eq_true hn]
 ·have hv:Bh A al tab=false:=by unfold Bh;simp [hs]
  rw [hv]
  refine eN Tryz.func55 rfl (by kernel_rfl) rfl ?_;intro Γ hΓ
  (repeat' first|refine tA rfl ?_ |refine s2 rfl fun _ _hb=>?_ |refine sP rfl (h1) rfl ?_|(refine sC rfl (h2) ?_;intro _ _hb) |refine aU rfl ?_ |refine Aa ?_ |refine rE (by kernel_rfl) ?_|(refine aC rfl ?_ ?_<;>rintro⟨⟩)|refine aK ?_|refine aE ?_|refine aB ?_|refine aR ⟨_,rfl,?_⟩)
  all_goals first
   | rfl
   | (exfalso;grind;done)
theorem HE{t:Nb}{al:Int}{A:W→Bool}(hT:Hs Tryz.prog TB 93 85 t al A)(tab:AZ)(hz:NV tab):Pure Tryz.prog TB 90 [Dq t,CB tab] (Sr (A0 A (AR al) tab)):=by
 have h1:=hT.alph
 have h2:=Cf (TB:=TB) al
 have h3:Pure Tryz.prog TB 95 [Dq t,Bg tab.cols,Bg tab.rows] (Bg (AE A tab)):=HF hT tab.cols tab.rows hz.cl (fun w hw=>by have:=hz.rb w hw;omega) hz.cb hz.rl
 have hrl:=hz.rl
 have hla:(Ac al).length≤6:=AL al 6
 refine eN Tryz.func90 rfl (by kernel_rfl) rfl ?_;intro Γ hΓ
 (repeat' first|refine tA rfl ?_ |refine sP rfl (h1) rfl ?_|refine sP rfl (h2) rfl ?_|refine sP rfl (h3) rfl ?_ |refine aU rfl ?_ |refine Aa ?_|(refine aC rfl ?_ ?_<;>rintro⟨⟩)|refine aK ?_|refine aE ?_|refine aB ?_|refine aR ⟨_,rfl,?_⟩)
 refine aL (α:={k:Nat // k≤tab.rows.length∧∀w∈BO (AR al) (tab.rows.take k),marks A tab.cols w∈AE A tab}) [2,3,6,7] [] rfl rfl (fun ⟨k,hk,hkd⟩=>[(8,eI .i64 k)]) (fun ⟨k,hk,hkd⟩=>[]) 0 (fun ⟨k,hk,hkd⟩=>tab.rows.length - k) (⟨0,by omega,by simp [BO]⟩) hΓ rfl (by (simp[cX,zC,hΓ])) ?_;rintro⟨k,hk,hkd⟩;(try dsimp only[cA,cB])
 by_cases hlt:k < tab.rows.length
 ·obtain⟨r, hx⟩:=get_some hlt
  have hx':=get_map (g:=BC) hx
  have hrb:=hz.rb r (List.mem_of_getElem? hx)
  (repeat first|refine sN rfl ?_ |refine tA rfl ?_ |refine s2 rfl fun _ _hb=>?_ |refine aU rfl ?_ |refine Aa ?_)
  (refine aC rfl ?_ ?_<;>rintro⟨⟩)
  ·refine aK ?_
   refine aS (aB ?_)
   (repeat first|refine tA rfl ?_ |refine aU rfl ?_ |refine Aa ?_)
   refine aB ?_
   refine aL (α:={j:Nat // j≤(Ac al).length∧∀x∈(AR al).take j,marks A tab.cols (r++[x])∈AE A tab}) [2,3,6,7,8] [] rfl rfl (fun ⟨j,hj,hjd⟩=>[(9,eI .i64 j)]) (fun ⟨j,hj,hjd⟩=>[]) 0 (fun ⟨j,hj,hjd⟩=>(Ac al).length - j) (⟨0,by omega,by simp⟩) hΓ rfl (by (simp[cX,zC,hΓ])) ?_;rintro⟨j,hj,hjd⟩;(try dsimp only[cA,cB])
   by_cases hjlt:j < (Ac al).length
   ·obtain⟨l,hl⟩:=get_some hjlt
    have hl':=get_map (g:=Bq) hl
    have hlb:=Av (List.mem_of_getElem? hl)
    have hll:(AR al)[j]? = some (lb l):=by simp [AR,hl]
    have htx:Pure Tryz.prog TB 98 [eI .i64 l] (eT [lb l]):=GY l hlb.1 (by omega)
    have hrow:=Ji hT tab.cols (r++[lb l]) hz.cl (by simp;omega) hz.cb
    have hin:=GH (TB:=TB) (AE A tab) (marks A tab.cols (r++[lb l])) (by simp [AE];omega)
    (repeat first|refine sN rfl ?_ |refine tA rfl ?_ |refine s2 rfl fun _ _hb=>?_ |refine aU rfl ?_ |refine Aa ?_)
    (refine aC rfl ?_ ?_<;>rintro⟨⟩)
    ·(repeat' first|(refine sA rfl ?_ ?_;first|exact tI|omega|simp only[oZ] at *;omega) |(refine s4 rfl ‹_› rfl ?_ ?_;omega) |refine s2 rfl fun _ _hb=>?_ |refine sP rfl (htx) rfl ?_|refine sP rfl (hrow) rfl ?_|(refine sC rfl (hin) ?_;intro _ _hb) |refine aU rfl ?_ |refine Aa ?_ |refine rE (by kernel_rfl) ?_|(refine aC rfl ?_ ?_<;>rintro⟨⟩)|refine aK ?_|refine aE ?_|refine aB ?_|refine aR ⟨_,rfl,?_⟩)
     ·have hno:marks A tab.cols (r++[lb l])∉AE A tab:=by grind
      rw [RE hx hll hkd hjd hno]
      rfl
     ·have hyes:marks A tab.cols (r++[lb l])∈AE A tab:=by grind
      have hjd2:∀x∈(AR al).take (j+1),marks A tab.cols (r++[x])∈AE A tab:=fun x hx=>by
       rw [List.take_add_one,hll] at hx
       rcases List.mem_append.1 hx with hx|hx
       ·exact hjd x hx
       ·simp at hx;subst hx;exact hyes
      refine⟨⟨j+1,by omega,hjd2⟩,by dsimp only;(omega),[],?_⟩
      simp[cX,zC,hΓ]
    ·exfalso;(simp only[oZ] at *;omega)
   ·have hkd2:∀w∈BO (AR al) (tab.rows.take (k+1)),marks A tab.cols w∈AE A tab:=fun w hw=>by
     rw [K4 hx] at hw
     rcases List.mem_append.1 hw with hw|hw
     ·exact hkd w hw
     ·obtain⟨x,hx2,rfl⟩:=List.mem_map.1 hw
      exact hjd x (by rw [List.take_of_length_le (by simp [AR];omega)];exact hx2)
    (repeat first|refine sN rfl ?_ |refine tA rfl ?_ |refine s2 rfl fun _ _hb=>?_ |refine aU rfl ?_ |refine Aa ?_)
    (refine aC rfl ?_ ?_<;>rintro⟨⟩)
    ·exfalso;(simp only[oZ] at *;omega)
    ·(repeat' first|(refine sA rfl ?_ ?_;first|exact tI|omega) |refine aU rfl ?_ |refine Aa ?_|(refine aC rfl ?_ ?_<;>rintro⟨⟩)|refine aK ?_|refine aE ?_|refine aB ?_|refine aR ⟨_,rfl,?_⟩)
     refine⟨⟨k+1,by omega,hkd2⟩,by dsimp only;(omega),[],?_⟩
     simp[cX,zC,hΓ]
  ·exfalso;(simp only[oZ] at *;omega)
 ·have hno:A0 A (AR al) tab=none:=List.find?_eq_none.2 fun w hw=>by
   have:=hkd w (by rw [List.take_of_length_le (by omega)];exact hw)
   simpa using this
  rw [hno]
  (repeat first|refine sN rfl ?_ |refine tA rfl ?_ |refine s2 rfl fun _ _hb=>?_ |refine aU rfl ?_ |refine Aa ?_)
  (refine aC rfl ?_ ?_<;>rintro⟨⟩)
  ·exfalso;(simp only[oZ] at *;omega)
  ·(repeat' first|refine tA rfl ?_ |refine aU rfl ?_ |refine Aa ?_|(refine aC rfl ?_ ?_<;>rintro⟨⟩)|refine aK ?_|refine aE ?_|refine aB ?_|refine aR ⟨_,rfl,?_⟩)
   rfl
theorem LV{t:Nb}{al:Int}{A:W→Bool}(hT:Hs Tryz.prog TB 93 85 t al A)(tab:AZ)(hz:NV tab):Pure Tryz.prog TB 159 [Dq t,CB tab] (Sr (if Bh A al tab then A0 A (AR al) tab else none)):=by
 have h1:=DA hT tab hz
 have h2:=HE hT tab hz
 by_cases hv:Bh A al tab=true
 ·rw [if_pos hv]
  cases ho:A0 A (AR al) tab<;>rw [ho] at h2<;>(
   refine eN Tryz.func159 rfl (by kernel_rfl) rfl ?_;intro Γ hΓ
   (repeat' first|refine tA rfl ?_ |refine s2 rfl fun _ _hb=>?_ |(refine sC rfl (h1) ?_;intro _ _hb)|refine sP rfl (h2) rfl ?_ |refine aU rfl ?_ |refine Aa ?_|(refine aC rfl ?_ ?_<;>rintro⟨⟩)|refine aK ?_|refine aE ?_|refine aB ?_|refine aR ⟨_,rfl,?_⟩)
   all_goals first
    | rfl
    | (exfalso;grind;done))
 ·rw [if_neg hv]
  refine eN Tryz.func159 rfl (by kernel_rfl) rfl ?_;intro Γ hΓ
  (repeat' first|refine tA rfl ?_ |refine s2 rfl fun _ _hb=>?_ |(refine sC rfl (h1) ?_;intro _ _hb) |refine aU rfl ?_ |refine Aa ?_|(refine aC rfl ?_ ?_<;>rintro⟨⟩)|refine aK ?_|refine aE ?_|refine aB ?_|refine aR ⟨_,rfl,?_⟩)
  all_goals first
   | rfl
   | (exfalso;grind;done)
def BQ(A:W→Bool)(al:Int)(t:AZ):Bool:=Bh A al t && (A0 A (AR al) t).isNone
theorem Lu{t:Nb}{al:Int}{A:W→Bool}(hT:Hs Tryz.prog TB 93 85 t al A)(tab:AZ)(hz:NV tab):Pure Tryz.prog TB 92 [Dq t,CB tab] (eB (BQ A al tab)):=by
 have h1:=DA hT tab hz
 have h2:=LV hT tab hz
 by_cases hv:Bh A al tab=true
 ·rw [if_pos hv] at h2
  have hc:BQ A al tab=(A0 A (AR al) tab).isNone:=by unfold BQ;rw [hv];rfl
  rw [hc]
  cases ho:A0 A (AR al) tab<;>rw [ho] at h2<;>(
   refine eN Tryz.func92 rfl (by kernel_rfl) rfl ?_;intro Γ hΓ
   (repeat' first|refine tA rfl ?_ |refine s2 rfl fun _ _hb=>?_ |(refine sC rfl (h1) ?_;intro _ _hb)|refine sP rfl (h2) rfl ?_ |refine s3 rfl ?_ ?_<;>rintro rfl |refine aU rfl ?_ |refine Aa ?_|(refine aC rfl ?_ ?_<;>rintro⟨⟩)|refine aK ?_|refine aE ?_|refine aB ?_|refine aR ⟨_,rfl,?_⟩)
   all_goals first
    | rfl
    | (exfalso;grind;done)
    | (show E.o _=E.o _;congr;first| grind|(simp at *;assumption)))
 ·rw [if_neg hv] at h2
  have hc:BQ A al tab=false:=by unfold BQ;simp [hv]
  rw [hc]
  refine eN Tryz.func92 rfl (by kernel_rfl) rfl ?_;intro Γ hΓ
  (repeat' first|refine tA rfl ?_ |refine s2 rfl fun _ _hb=>?_ |(refine sC rfl (h1) ?_;intro _ _hb)|refine sP rfl (h2) rfl ?_ |refine s3 rfl ?_ ?_<;>rintro rfl |refine aU rfl ?_ |refine Aa ?_|(refine aC rfl ?_ ?_<;>rintro⟨⟩)|refine aK ?_|refine aE ?_|refine aB ?_|refine aR ⟨_,rfl,?_⟩)
  all_goals first
   | rfl
   | (exfalso;grind;done)
theorem Yx{l:List W}{s:W}{k:Nat}(hx:l[k]? = some s)(hn:s∉l.take k):l.idxOf s=k:=by
 have hl:k < l.length:=(List.getElem?_eq_some_iff.1 hx).1
 have e:l=l.take k++s::l.drop (k+1):=by rw [←C3 hx,List.take_append_drop]
 rw [e,List.idxOf_append,if_neg hn,List.idxOf_cons_self]
 simp;omega
theorem Ox(l:List W)(s:W)(hm:s∈l)(hl:l.length≤1099511627776):Pure Tryz.prog TB 96 [Bg l,eT s] (eI .i64 (l.idxOf s:Nat)):=by
 refine eN Tryz.func96 rfl (by kernel_rfl) rfl ?_;intro Γ hΓ
 (repeat first|refine tA rfl ?_ |refine aU rfl ?_ |refine Aa ?_)
 refine aB ?_
 refine aL (α:={k:Nat // k≤l.length∧s∉l.take k}) [0,1] [] rfl rfl (fun ⟨k,hk,hn⟩=>[(5,eI .i64 k)]) (fun ⟨k,hk,hn⟩=>[]) 0 (fun ⟨k,hk,hn⟩=>l.length - k) (⟨0,by omega,by simp⟩) hΓ rfl (by (simp[cX,zC,hΓ])) ?_;rintro⟨k,hk,hn⟩;(try dsimp only[cA,cB])
 have hkl:k < l.length:=by
  rcases Nat.lt_or_ge k l.length with h|h
  ·exact h
  ·rw [List.take_of_length_le h] at hn;exact absurd hm hn
 obtain⟨x,hx⟩:=get_some (l:=l) (k:=k) hkl
 have hx':=get_map (g:=BC) hx
 by_cases hs:x=s
 ·subst hs
  have he:=Yx hx hn
  rw [he]
  (repeat first|refine tA rfl ?_ |(refine s4 rfl ‹_› rfl ?_ ?_;omega) |refine s2 rfl fun _ _hb=>?_ |refine aU rfl ?_ |refine Aa ?_)
  (refine aC rfl ?_ ?_<;>rintro⟨⟩)
  ·exfalso;simp at _hb
  ·(repeat' first|refine tA rfl ?_ |refine aU rfl ?_ |refine Aa ?_|(refine aC rfl ?_ ?_<;>rintro⟨⟩)|refine aK ?_|refine aE ?_|refine aB ?_|refine aR ⟨_,rfl,?_⟩)
   rfl
 ·have hn2:s∉l.take (k+1):=by
   rw [List.take_add_one,hx]
   intro h
   rcases List.mem_append.1 h with h|h
   ·exact hn h
   ·simp at h;exact hs h.symm
  (repeat first|refine tA rfl ?_ |(refine s4 rfl ‹_› rfl ?_ ?_;omega) |refine s2 rfl fun _ _hb=>?_ |refine aU rfl ?_ |refine Aa ?_)
  (refine aC rfl ?_ ?_<;>rintro⟨⟩)
  ·(repeat' first|(refine sA rfl ?_ ?_;first|exact tI|omega) |refine aU rfl ?_ |refine Aa ?_|(refine aC rfl ?_ ?_<;>rintro⟨⟩)|refine aK ?_|refine aE ?_|refine aB ?_|refine aR ⟨_,rfl,?_⟩)
   refine⟨⟨k+1,by omega,hn2⟩,by dsimp only;(omega),[],?_⟩
   simp[cX,zC,hΓ]
  ·exfalso;simp [hs] at _hb
end Go.Am
namespace Go.Am
open Go
set_option linter.unusedVariables false
theorem Ok{f:Nat→Bool}{n k:Nat}(h:CN f n=true)(h0:0 < k)(hk:k < n):f k=true:=by
 unfold CN at h
 have:=(List.all_eq_true.1 h) k (List.mem_range.2 hk)
 simp at this
 rcases this with h|h
 ·omega
 ·exact h
theorem Ol{f:Nat→Bool}{n:Nat}(h:∀k,0 < k→k < n→f k=true):CN f n=true:=by
 unfold CN
 refine List.all_eq_true.2 fun k hk=>?_
 have hk:=List.mem_range.1 hk
 rcases Nat.eq_zero_or_pos k with h0|h0
 ·subst h0;rfl
 ·simp [h k h0 hk]
structure Tx (al:Int) (t:AZ):Prop where
 pos:0≤al
 r1:1≤t.rows.length
 rl:t.rows.length≤12
 c1:1≤t.cols.length
 cl:t.cols.length≤20
 r0:t.rows[0]? = some []
 c0:t.cols[0]? = some []
 rw:∀w∈t.rows,w.length≤50000∧Ay (AR al) w
 cw:∀w∈t.cols,w.length≤4000∧Ay (AR al) w
 pre:∀(i:Nat) w,t.rows[i]? = some w→0 < i→w≠[]∧∃j,j < i∧t.rows[j]? = some w.dropLast
 ndC:t.cols.Nodup
theorem JM{α:Type}{l:List α}{k:Nat}{x:α}(h:x∈l.take k):∃j,j < k∧l[j]? = some x:=by
 obtain⟨j,hj,he⟩:=List.getElem_of_mem h
 have h1:j < k:=by simp at hj;omega
 refine⟨j,h1,?_⟩
 rw [←he,List.getElem_take,List.getElem?_eq_getElem]
theorem JE{α:Type}{l:List α}{j k:Nat}{x:α}(h:l[j]? = some x)(hj:j < k):x∈l.take k:=by
 have:(l.take k)[j]? = some x:=by rw [List.getElem?_take,if_pos hj];exact h
 exact List.mem_of_getElem? this
theorem QL{w:W}{al:Int}(h:within w al=true):w.length≤50000:=by
 unfold within at h
 simp only [Bool.and_eq_true,decide_eq_true_eq] at h
 exact h.1
theorem Pf{al:Int}{t:AZ}(h:Dh al t=true):Tx al t:=by
 unfold Dh FT at h
 simp only [Bool.and_eq_true,decide_eq_true_eq] at h
 obtain⟨⟨h1,h2,h3,h4,h5⟩,h6,h7⟩:=h
 have hrow:∀(i:Nat) w,t.rows[i]? = some w→0 < i→w≠[]∧within w al=true∧w.dropLast∈t.rows.take i:=fun i w hi h0=>by
  have:=Ok h6 h0 (List.getElem?_eq_some_iff.1 hi).1
  unfold rowAt at this
  rw [hi] at this
  simp only [Bool.and_eq_true,decide_eq_true_eq,Bool.not_eq_true',decide_eq_false_iff_not] at this
  exact⟨fun e=>this.1 (by rw [e];rfl),this.2.1,this.2.2⟩
 have hcol:∀(i:Nat) w,t.cols[i]? = some w→0 < i→w.length≤4000∧within w al=true∧w∉t.cols.take i:=fun i w hi h0=>by
  have:=Ok h7 h0 (List.getElem?_eq_some_iff.1 hi).1
  unfold Ga at this
  rw [hi] at this
  simp only [Bool.and_eq_true,decide_eq_true_eq,Bool.not_eq_true',decide_eq_false_iff_not] at this
  exact this
 refine⟨h1,h2.1,h2.2,h3.1,h3.2,h4,h5,fun w hw=>?_,fun w hw=>?_,fun i w hi h0=>?_,?_⟩
 ·obtain⟨i,hi,he⟩:=List.getElem_of_mem hw
  have hi':t.rows[i]? = some w:=by rw [List.getElem?_eq_getElem hi,he]
  rcases Nat.eq_zero_or_pos i with h0|h0
  ·subst h0
   rw [h4] at hi';injection hi' with hi';subst hi'
   exact⟨by simp,fun c hc=>by cases hc⟩
  ·have:=hrow i w hi' h0
   exact⟨QL this.2.1,Et this.2.1⟩
 ·obtain⟨i,hi,he⟩:=List.getElem_of_mem hw
  have hi':t.cols[i]? = some w:=by rw [List.getElem?_eq_getElem hi,he]
  rcases Nat.eq_zero_or_pos i with h0|h0
  ·subst h0
   rw [h5] at hi';injection hi' with hi';subst hi'
   exact⟨by simp,fun c hc=>by cases hc⟩
  ·have:=hcol i w hi' h0
   exact⟨this.1,Et this.2.1⟩
 ·have:=hrow i w hi h0
  exact⟨this.1,JM this.2.2⟩
 ·unfold List.Nodup
  rw [List.pairwise_iff_getElem]
  intro i j hi hj hij he
  have:=hcol j t.cols[j] (List.getElem?_eq_getElem hj) (by omega)
  exact this.2.2 (JE (by rw [List.getElem?_eq_getElem hi,he]) hij)
theorem Tq{al:Int}{t:AZ}(ha:BI al=true)(h0:0≤al)(hr:1≤t.rows.length∧t.rows.length≤12)(hc:1≤t.cols.length∧t.cols.length≤20)(r0:t.rows[0]? = some [])(c0:t.cols[0]? = some [])
 (rw':∀w∈t.rows,w.length≤50000∧Ay (AR al) w) (cw:∀w∈t.cols,w.length≤4000∧Ay (AR al) w) (pre:∀(i:Nat) w,t.rows[i]? = some w→0 < i→w≠[]∧∃j,j < i∧t.rows[j]? = some w.dropLast) (ndC:t.cols.Nodup):Dh al t=true:=by
 unfold Dh FT
 simp only [Bool.and_eq_true,decide_eq_true_eq]
 refine⟨⟨h0,hr,hc,r0,c0⟩,Ol fun k hk hkn=>?_,Ol fun k hk hkn=>?_⟩
 ·have hx:=List.getElem?_eq_getElem hkn
  obtain⟨h1,j,hj,h2⟩:=pre k _ hx hk
  have h3:=rw' _ (List.getElem_mem hkn)
  unfold rowAt
  rw [hx]
  simp only [Bool.and_eq_true,decide_eq_true_eq,Bool.not_eq_true',decide_eq_false_iff_not]
  exact⟨fun e=>h1 (List.length_eq_zero_iff.1 e),FG h3.2 h3.1 ha,JE h2 hj⟩
 ·have hx:=List.getElem?_eq_getElem hkn
  have h3:=cw _ (List.getElem_mem hkn)
  unfold Ga
  rw [hx]
  simp only [Bool.and_eq_true,decide_eq_true_eq,Bool.not_eq_true',decide_eq_false_iff_not]
  refine⟨h3.1,FG h3.2 (by omega) ha,fun hm=>?_⟩
  obtain⟨j,hj,he⟩:=JM hm
  obtain⟨hj2,he⟩:=List.getElem?_eq_some_iff.1 he
  exact(List.pairwise_iff_getElem.1 ndC) j k hj2 hkn hj he
theorem Cz{A:W→Bool}{al:Int}{t:AZ}(h:Bh A al t=true):Tx al t∧(AE A t).Nodup:=by
 unfold Bh at h
 rw [Bool.and_eq_true,decide_eq_true_eq] at h
 exact⟨Pf h.1,h.2⟩
theorem QI{A:W→Bool}{al:Int}{t:AZ}(h:Bh A al t=true):TOk A (AR al) t:=by
 obtain⟨h1,h2⟩:=Cz h
 exact⟨h1.r0,h1.c0,h1.pre,fun w hw=>(h1.rw w hw).2,fun w hw=>(h1.cw w hw).2,h2,h1.ndC⟩
theorem Hf{A:W→Bool}{al:Int}{t:AZ}(ha:BI al=true)(h0:0≤al)(h:TOk A (AR al) t)(hr:t.rows.length≤12)(hc:t.cols.length≤20)(hrw:∀w∈t.rows,w.length≤50000)(hcw:∀w∈t.cols,w.length≤4000):Bh A al t=true:=by
 unfold Bh
 rw [Bool.and_eq_true,decide_eq_true_eq]
 have h1:=(List.getElem?_eq_some_iff.1 h.r0).1
 have h2:=(List.getElem?_eq_some_iff.1 h.c0).1
 exact⟨Tq ha h0 ⟨h1,hr⟩ ⟨h2,hc⟩ h.r0 h.c0 (fun w hw=>⟨hrw w hw,h.onR w hw⟩) (fun w hw=>⟨hcw w hw,h.onC w hw⟩) h.pre h.ndC,h.nd⟩
theorem E7{A:W→Bool}{al:Int}{t:AZ}(h:BQ A al t=true):Bh A al t=true∧A0 A (AR al) t=none∧A7 A (AR al) t:=by
 unfold BQ at h
 rw [Bool.and_eq_true] at h
 have h2:A0 A (AR al) t=none:=by simpa using h.2
 exact⟨h.1,h2,⟨QI h.1,FN h2⟩⟩
theorem KG{A:W→Bool}{al:Int}{t:AZ}(h:Bh A al t=true)(ho:A0 A (AR al) t=none):BQ A al t=true:=by
 unfold BQ;rw [h,ho];rfl
theorem Tx.sz{al:Int}{t:AZ}(h:Tx al t):NV t:=⟨by have:=h.rl;omega,by have:=h.cl;omega,fun w hw=>by have:=(h.rw w hw).1;omega,fun w hw=>by have:=(h.cw w hw).1;omega⟩
def Sj(A L:W→Bool)(al:Int):Prop:=∀w,Ay (AR al) w→w.length≤50000→A w=L w
theorem Qj{ls:List UInt8}{u w:W}(hu:Ay ls u)(hw:Ay ls w):Ay ls (u++w):=fun c hc=>by
 rcases List.mem_append.1 hc with h|h
 ·exact hu c h
 ·exact hw c h
theorem MG{A L:W→Bool}{al:Int}(h:Sj A L al){cols:List W}{w:W}(hw:Ay (AR al) w)(hc:∀x∈cols,Ay (AR al) x∧w.length+x.length≤50000):marks A cols w=marks L cols w:=by
 rw [marks,marks,List.map_inj_left]
 intro x hx
 rw [h _ (Qj hw (hc x hx).1) (by simp;exact(hc x hx).2)]
theorem Hb{A L:W→Bool}{al:Int}{b:Nat}{t:AZ}(h:Sj A L al)(ht:Ev al b t)(hb:b≤20100):AE A t=AE L t:=by
 rw [AE,AE,List.map_inj_left]
 intro r hr
 have:=ht.onR r hr
 exact MG h this.1 fun x hx=>⟨(ht.onC x hx).1,by have:=(ht.onC x hx).2;omega⟩
theorem K3{A L:W→Bool}{al:Int}{b:Nat}{t:AZ}(h:Sj A L al)(ht:Ev al b t)(hb:b≤20100){r:W}{l:UInt8}(hr:r∈t.rows)(hl:l∈AR al):marks A t.cols (r++[l])=marks L t.cols (r++[l]):=by
 have:=ht.onR r hr
 refine MG h (Qj this.1 (fun c hc=>by simp at hc;subst hc;exact hl)) fun x hx=>⟨(ht.onC x hx).1,by have:=(ht.onC x hx).2;simp;omega⟩
theorem Oh{α:Type}{p q:α→Bool}:∀ {l:List α},(∀x∈l,p x=q x)→l.find? p=l.find? q
 | [],_=>rfl
 | x::l,h=>by
  rw [List.find?_cons,List.find?_cons,h x (by simp),Oh (l:=l) fun y hy=>h y (by simp [hy])]
theorem Tb{A L:W→Bool}{al:Int}{b:Nat}{t:AZ}(h:Sj A L al)(ht:Ev al b t)(hb:b≤20100):A0 A (AR al) t=A0 L (AR al) t:=by
 unfold A0
 refine Oh fun w hw=>?_
 unfold BO at hw
 simp only [List.mem_flatMap,List.mem_map] at hw
 obtain⟨r,hr,l,hl,rfl⟩:=hw
 rw [Hb h ht hb,K3 h ht hb hr hl]
theorem Hy{A L:W→Bool}{al:Int}(h:Sj A L al):∀(n:Nat) {b:Nat} {t:AZ},Ev al b t→b+n≤20100→A8 A (AR al) n t=A8 L (AR al) n t
 | 0,_,_,_,_=>rfl
 | n + 1,b,t,ht,hb=>by
  unfold A8
  rw [Tb h ht (by omega)]
  cases ho:A0 L (AR al) t with
  | none=>rfl
  | some w=>
   dsimp only
   by_cases h12:t.rows.length=12
   ·rw [if_pos h12,if_pos h12]
   ·rw [if_neg h12,if_neg h12]
    have hrl:=ht.rl
    exact Hy h n (ht.push ho (by omega)) (by omega)
theorem Ot{A L:W→Bool}{al:Int}{b:Nat}{t:AZ}(h:Sj A L al)(ht:Ev al b t)(hb:b≤20100){r:W}{l:UInt8}(hr:r∈t.rows)(hl:l∈AR al):Cv A t (r++[l])=Cv L t (r++[l]):=by
 unfold Cv
 rw [Hb h ht hb,K3 h ht hb hr hl]
theorem Oa{A L:W→Bool}{al:Int}{b:Nat}{t:AZ}(h:Sj A L al)(ht:Ev al b t)(hb:b≤20100):AO A al t=AO L al t:=by
 unfold AO
 congr 1
 ·refine List.map_inj_left.2 fun r hr=>List.map_inj_left.2 fun l hl=>?_
  rw [Ot h ht hb hr (Kl hl)]
 ·refine List.map_inj_left.2 fun r hr=>?_
  have:=ht.onR r hr
  rw [h r this.1 (by omega)]
theorem TOk.Zz{A L:W→Bool}{al:Int}{b:Nat}{t:AZ}(h:Sj A L al)(ht:Ev al b t)(hb:b≤20100)(hk:TOk L (AR al) t):TOk A (AR al) t:=⟨hk.r0,hk.c0,hk.pre,hk.onR,hk.onC,by rw [Hb h ht hb];exact hk.nd,hk.ndC⟩
theorem A7.Zz{A L:W→Bool}{al:Int}{b:Nat}{t:AZ}(h:Sj A L al)(ht:Ev al b t)(hb:b≤20100)(hk:A7 L (AR al) t):A7 A (AR al) t:=⟨hk.toTOk.Zz h ht hb,fun r hr l hl=>by
 rw [K3 h ht hb hr hl,Hb h ht hb];exact hk.cl r hr l hl⟩
theorem VI{A:W→Bool}{al:Int}{t:AZ}(h:A7 A (AR al) t){q:Nat}(hq:q < t.rows.length):t.rows.getD q []∈t.rows:=by
 rw [List.getD,List.getElem?_eq_getElem hq];exact List.getElem_mem hq
theorem JQ{A L:W→Bool}{al:Int}{b0:Nat}{t:AZ}(h:Sj A L al)(ht:Ev al b0 t)(hb:b0≤20100)(hk:A7 L (AR al) t)(b:Bool):∀(w:W) (q:Nat),q < t.rows.length→Ay (AR al) w→w.length≤20000→splitAt A t b q w=splitAt L t b q w
 | [],_,_,_,_=>rfl
 | c :: w,q,hq,hw,hl=>by
  have hr:=VI hk hq
  have hc:=hw c (by simp)
  have he:=Ot h ht hb hr hc
  obtain⟨r',h2,_⟩:=hk.idx (i:=q) (List.getElem?_eq_getElem hq) hc
  have hg:t.rows.getD q []=t.rows[q]:=by rw [List.getD,List.getElem?_eq_getElem hq];rfl
  rw [←hg] at h2
  have hq2:=(List.getElem?_eq_some_iff.1 h2).1
  have hr2:=VI hk hq2
  have hww:Ay (AR al) w:=fun x hx=>hw x (by simp [hx])
  simp at hl
  have hA:A (t.rows.getD (Cv L t (t.rows.getD q []++[c])) []++w)=L (t.rows.getD (Cv L t (t.rows.getD q []++[c])) []++w):=
   h _ (Qj (ht.onR _ hr2).1 hww) (by have:=(ht.onR _ hr2).2;simp only [List.length_append];omega)
  unfold splitAt
  rw [he,hA]
  split
  ·rfl
  ·exact JQ h ht hb hk b w _ hq2 hww (by omega)
end Go.Am
namespace Go.Am
open Go Go.Proofs
set_option maxHeartbeats 1000000
set_option maxRecDepth 4000
attribute [local irreducible] AY B2 Lex Br Ak Spec
variable {TB:Bw}
theorem Oc{A:W→Bool}{ls:List UInt8}{m:Nat}{u:AZ}{w:W}{R:Option AZ}(he:R=A8 A ls (m+1) u)(ho:A0 A ls u=some w)(hl:u.rows.length < 12):R=A8 A ls m ⟨u.rows++[w],u.cols⟩:=by
 rw [he]
 conv=>lhs;unfold A8
 rw [ho]
 dsimp only
 rw [if_neg (by omega)]
theorem Gw{t:Nb}{al:Int}{A:W→Bool}(hT:Hs Tryz.prog TB 93 85 t al A)(tab:AZ)(hz:NV tab) :
 Pure Tryz.prog TB 29 [Dq t,CB tab] (Gb (if Bh A al tab then A8 A (AR al) 13 tab else none)):=by
 have h1:=DA hT tab hz
 by_cases hv:Bh A al tab=true
 ·rw [if_pos hv]
  rw [hv] at h1
  have hsh:Tx al tab:=(Cz hv).1
  have hr1:=hsh.r1
  have hc1:=hsh.c1
  have hrl:=hsh.rl
  have hcl:=hsh.cl
  refine eG Tryz.func29 rfl (by kernel_rfl) rfl ?_;intro Γ hΓ
  (repeat first|refine tA rfl ?_ |refine s2 rfl fun _ _hb=>?_ |refine sP rfl (h1) rfl ?_ |refine aU rfl ?_ |refine Aa ?_)
  ((refine aC rfl ?_ ?_<;>rintro⟨⟩);all_goals try (simp at _hb;done))
  refine aK ?_
  (repeat first|refine aU rfl ?_)
  refine R.Xh [(0,2),(1,2),(2,2),(4,2),(5,2),(6,2),(9,3),(3,1),(7,1),(8,2),(10,5)] mixed (by kernel_rfl) rfl (by kernel_rfl) ?_
  (repeat ((refine R.Ag rfl ?_;first|(refine R.yQ (md:=false) rfl rfl rfl ?_ ?_;exact tI) |refine R.yP rfl rfl rfl rfl ?_|refine R.Cq (fun _ _ _=>ND (by rfl) (by rfl)) rfl rfl ?_ )))
  (refine R.Ag rfl ?_;refine R.Mf (fun _=>?_) rfl rfl;refine DW rfl rfl rfl (by intro r hr;simp at hr;obtain⟨_,_,rfl⟩:=hr;rfl) (by rfl) (Nat.le_of_ble_eq_true rfl) (by simp;omega) (fun h=>?_) (fun _=>?_))
  ·exfalso;simp at h;rw [h] at hr1;simp at hr1
  (refine R.Ag rfl ?_;refine R.Mf (fun _=>?_) rfl rfl;refine DW rfl rfl rfl (by intro r hr;simp at hr;obtain⟨_,_,rfl⟩:=hr;rfl) (by rfl) (Nat.le_of_ble_eq_true rfl) (by simp;omega) (fun h=>?_) (fun _=>?_))
  ·exfalso;simp at h;rw [h] at hc1;simp at hc1
  (repeat ((refine R.Ag rfl ?_;first|refine R.yA rfl rfl rfl rfl ?_|refine R.Cq (fun _ _ _=>AK rfl rfl (by rfl) (by rfl)) rfl rfl ?_ )))
  refine R.WN ?_
  refine aS ?_
  refine Ak.AT [2] [] rfl rfl [(4,.o (.ptr 0 2 0 0)),(6,.o (.ptr 3 2 0 0))] [(0,.cells 38 2 [[.d (.l []),.d (.l [])]]),(1,.cells 9 1 (tab.rows.map CU)),(2,.cells 9 1 (tab.cols.map CU)),(3,.cells 38 2 [[.arr 1 1 0 tab.rows.length,.arr 2 1 0 tab.cols.length]])] [0,1,2,3] (rl hΓ rfl) (by (simp[cX,zC,hΓ])) ?_;(try dsimp only[cA,cB])
  have hfo0:=HE hT tab hz
  have htk:∀l:List W,((l.map CU).drop 0).take l.length=(l.map BC).map (fun r=>r.map C.d):=fun l=>by rw [List.drop_zero,List.take_of_length_le (by simp)];simp [Function.comp_def]
  have hev:∀u:AZ,XM [(0,.cells 38 2 [[.d (.l []),.d (.l [])]]),(1,.cells 9 1 (u.rows.map CU)),(2,.cells 9 1 (u.cols.map CU)),(3,.cells 38 2 [[.arr 1 1 0 u.rows.length,.arr 2 1 0 u.cols.length]])] [Dq t,.a [.arr 1 1 0 u.rows.length,.arr 2 1 0 u.cols.length]] [Dq t,CB u]:=fun u=>
   .cons (.cons (.pure rfl) (.cons (.pure rfl) (.cons (.pure rfl) (.cons (.pure rfl) (.cons (.pure rfl) (.cons (.pure rfl) (.cons (.pure rfl) (.cons (.pure rfl) (.cons (.pure rfl) (.cons (.pure rfl) (.cons (.pure rfl) .nil))))))))))) (.cons (.cons (.arr rfl (by simp) (htk _)) (.cons (.arr rfl (by simp) (htk _)) .nil)) .nil)
  have hop:∀x:AZ,Sr (A0 A (AR al) x)=.t [(false,[.d (tD ((A0 A (AR al) x).getD []))]),(false,[.d (bD (A0 A (AR al) x).isSome)])]:=fun x=>by cases A0 A (AR al) x<;>rfl
  rw [hop] at hfo0
  (repeat first|refine tA rfl ?_|(refine Ag rfl ?_;refine gA rfl ?_;first| refine gQ (FP rfl rfl ((hev tab)) (hfo0) rfl) rfl ?_) |refine aU rfl ?_ |refine Aa ?_)
  obtain⟨R,hR⟩:∃R,R=A8 A (AR al) 13 tab:=⟨_,rfl⟩
  rw [←hR]
  refine aB ?_
  refine aL (α:={p:Nat×AZ // p.1≤13∧13≤p.1+p.2.rows.length∧p.2.rows.length≤12∧p.2.cols.length≤20∧(∀w∈p.2.rows,w.length≤50000+p.2.rows.length)∧(∀w∈p.2.cols,w.length≤4000)∧R=A8 A (AR al) p.1 p.2}) [2,4,6] [0] rfl rfl (fun ⟨⟨m,u⟩,hm,hmu,hur,huc,hurb,hucb,he⟩=>[(7,eT ((A0 A (AR al) u).getD [])),(8,eB (A0 A (AR al) u).isSome)]) (fun ⟨⟨m,u⟩,hm,hmu,hur,huc,hurb,hucb,he⟩=>[(1,.cells 9 1 (u.rows.map CU)),(2,.cells 9 1 (u.cols.map CU)),(3,.cells 38 2 [[.arr 1 1 0 u.rows.length,.arr 2 1 0 u.cols.length]])]) 4 (fun ⟨⟨m,u⟩,hm,hmu,hur,huc,hurb,hucb,he⟩=>m) (⟨(13,tab),by simp,by simp,hrl,hcl,fun w hw=>by have:=(hsh.rw w hw).1;show w.length≤50000+tab.rows.length;omega,fun w hw=>(hsh.cw w hw).1,hR⟩) hΓ rfl (by (simp[cX,zC,hΓ])) ?_;rintro⟨⟨m,u⟩,hm,hmu,hur,huc,hurb,hucb,he⟩;(try dsimp only[cA,cB])
  dsimp only at hm hmu hur huc hurb hucb he
  have hz0:A0 A (AR al) u=none∨∃w,A0 A (AR al) u=some w:=by cases A0 A (AR al) u<;>simp
  rcases hz0 with ho|⟨w,ho⟩
  ·rw [ho]
   have hn:R=some u:=by
    rw [he]
    obtain⟨m',rfl⟩:∃m',m=m'+1:=⟨m - 1,by omega⟩
    simp [A8,ho]
   (repeat first|refine tA rfl ?_ |refine aU rfl ?_ |refine Aa ?_)
   ((refine aC rfl ?_ ?_<;>rintro⟨⟩);all_goals try (simp at _hb;done))
   refine aE ?_
   (repeat first|refine tA rfl ?_ |refine aU rfl ?_ |refine Aa ?_)
   refine Ak.settle [(4,.o (.ip [A5 u.rows,A5 u.cols])),(5,eB true)] ⟨⟨_,rfl,.o (.box rfl (.cons (.full rfl (by simp [Function.comp_def]) (by simp)) (.cons (.full rfl (by simp [Function.comp_def]) (by simp)) .nil)))⟩,⟨_,rfl,.o .d⟩,trivial⟩ ?_
   refine aR ⟨_,rfl,?_⟩
   rw [hn];rfl
  ·rw [ho]
   obtain⟨m',rfl⟩:∃m',m=m'+1:=⟨m - 1,by omega⟩
   obtain⟨⟨r,hr,l,hl,hw⟩,_⟩:=HK ho
   have hwl:w.length≤50000+(u.rows++[w]).length:=by
    have:=hurb r hr
    rw [hw];simp;omega
   (repeat first|refine tA rfl ?_ |refine aU rfl ?_ |refine Aa ?_)
   ((refine aC rfl ?_ ?_<;>rintro⟨⟩);all_goals try (simp at _hb;done))
   refine aK ?_
   refine aB ?_
   (repeat first|refine tA rfl ?_ |refine s2 rfl fun _ _hb=>?_ |refine aU rfl ?_ |refine Aa ?_)
   (refine aC rfl ?_ ?_<;>rintro⟨⟩)
   ·have h12:u.rows.length=12:=by (simp only[oZ] at *;omega)
    have hn:R=none:=by
     rw [he]
     simp [A8,ho,h12]
    (repeat first|refine tA rfl ?_|(refine Ag rfl ?_;refine gA rfl ?_;first| refine gS (fun _ _=>AK rfl rfl (by rfl) (by rfl)) ?_) |refine aU rfl ?_ |refine Aa ?_)
    refine Ak.settle [(4,.o (.ip [.l [],.l []])),(5,eB false)] ⟨⟨_,rfl,.o (.box rfl (.cons .d (.cons .d .nil)))⟩,⟨_,rfl,.o .d⟩,trivial⟩ ?_
    refine aR ⟨_,rfl,?_⟩
    rw [hn];rfl
   ·have hlt:u.rows.length < 12:=by (simp only[oZ] at *;omega)
    have hst:=Oc he ho hlt
    have hzu:NV ⟨u.rows++[w],u.cols⟩:=⟨by simp;omega,by dsimp only;omega,fun x hx=>by
     rcases List.mem_append.1 hx with hx|hx
     ·have:=hurb x hx;omega
     ·simp at hx;subst hx;simp at hwl;omega,fun x hx=>by have:=hucb x hx;omega⟩
    have hfo:=HE hT ⟨u.rows++[w],u.cols⟩ hzu
    rw [hop] at hfo
    refine aK ?_
    (repeat first|refine tA rfl ?_ |refine aU rfl ?_)
    (refine pW rfl ?_ rfl (by rfl);refine Aw rfl rfl rfl (by first| (simp;done)|(simp;(omega))) rfl (by intro r hr;simp at hr;subst hr;rfl) (by rfl) (Nat.le_of_ble_eq_true rfl) (by simp;omega) ?_)
    (repeat first|refine tA rfl ?_)
    refine Aa ?_
    have hn1:∀x∈u.rows++[w],x.length≤50000+(u.rows++[w]).length:=fun x hx=>by
     rcases List.mem_append.1 hx with hx|hx
     ·have:=hurb x hx;simp;omega
     ·simp at hx;subst hx;exact hwl
    refine Ak.AT [2,4,6] [] rfl rfl [] [(0,.cells 38 2 [[.d (.l []),.d (.l [])]]),(1,.cells 9 1 ((u.rows++[w]).map CU)),(2,.cells 9 1 (u.cols.map CU)),(3,.cells 38 2 [[.arr 1 1 0 (u.rows++[w]).length,.arr 2 1 0 u.cols.length]])] [0,4,2,3] (rl hΓ rfl) (by (simp[cX,zC,hΓ])) ?_;(try dsimp only[cA,cB])
    (repeat first|refine tA rfl ?_|(refine Ag rfl ?_;refine gA rfl ?_;first| refine gQ (FP rfl rfl ((hev ⟨u.rows++[w],u.cols⟩)) (hfo) rfl) rfl ?_) |refine aU rfl ?_ |refine Aa ?_)
    refine⟨⟨⟨m',⟨u.rows++[w],u.cols⟩⟩,by dsimp only;omega,by simp;omega,by simp;omega,huc,hn1,hucb,hst⟩,by dsimp only;(omega),[0,1,2,3],?_⟩
    simp[cX,zC,hΓ]
 ·have hv:Bh A al tab=false:=by simpa using hv
  rw [if_neg (by simp [hv])]
  rw [hv] at h1
  refine eG Tryz.func29 rfl (by kernel_rfl) rfl ?_;intro Γ hΓ
  (repeat first|refine tA rfl ?_ |refine s2 rfl fun _ _hb=>?_ |refine sP rfl (h1) rfl ?_ |refine aU rfl ?_ |refine Aa ?_)
  ((refine aC rfl ?_ ?_<;>rintro⟨⟩);all_goals try (simp at _hb;done))
  (repeat first|refine tA rfl ?_|(refine Ag rfl ?_;refine gA rfl ?_;first| refine gS (fun _ _=>AK rfl rfl (by rfl) (by rfl)) ?_) |refine aU rfl ?_ |refine Aa ?_)
  refine Ak.settle [(4,.o (.ip [.l [],.l []])),(5,eB false)] ⟨⟨_,rfl,.o (.box rfl (.cons .d (.cons .d .nil)))⟩,⟨_,rfl,.o .d⟩,trivial⟩ ?_
  refine aR ⟨_,rfl,rfl⟩
end Go.Am
