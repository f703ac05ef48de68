/-
  Learning a known automaton, plainly: the tables, the last round.
-/
import Derived.Test.YtkdilmleinnfiaaGreatDoorPart14
import Derived.Test.YtkdilmleinnfiaaGreatDoorPart15
import Derived.Test.YtkdilmleinnfiaaGreatDoorPart12
import Derived.Test.YtkdilmleinnfiaaGreatDoorPart16
set_option linter.constructorNameAsVariable false
set_option linter.unusedSectionVars false
set_option linter.unusedSimpArgs false
set_option linter.unusedVariables false
namespace Go.Am
open Go
set_option linter.unusedVariables false
noncomputable def HR(p:AP)(t:AZ):Option W:=(Fw (AO (LA p) p.al t) p).map CK
theorem LG(p:AP):Wr (LA p) (AR p.al) (HR p):=⟨fun t w h hc=>by
 unfold HR at h
 obtain⟨v,hv,rfl⟩:=Option.map_eq_some_iff.1 h
 obtain⟨_,h1,h2,_⟩:=Mt hv
 exact⟨h1,fun he=>h2 (by rw [HW hc h1,he])⟩⟩
theorem Hg{p:AP}{t:AZ}{w:W}(h:HR p t=some w):w.length≤144:=by
 unfold HR at h
 obtain⟨v,hv,rfl⟩:=Option.map_eq_some_iff.1 h
 exact(Mt hv).2.2.2
theorem MT(L:W→Bool)(ls:List UInt8):TOk L ls Bt:=by
 refine⟨rfl,rfl,fun i w hi h0=>?_,fun w hw=>?_,fun w hw=>?_,by simp [AE,Bt],by simp [Bt]⟩
 ·have:=(List.getElem?_eq_some_iff.1 hi).1
  simp [Bt] at this;omega
 ·simp [Bt] at hw;subst hw;exact fun c hc=>(by cases hc)
 ·simp [Bt] at hw;subst hw;exact fun c hc=>(by cases hc)
noncomputable def NR(p:AP):AZ:=(A8 (LA p) (AR p.al) 13 Bt).getD Bt
theorem IP{p:AP}(hp:AF p=true):A8 (LA p) (AR p.al) 13 Bt=some (NR p)∧A7 (LA p) (AR p.al) (NR p)∧(NR p).cols=[[]]:=by
 have h1:=Al hp
 obtain⟨t',e1,e2,e3,e4,e5,_⟩:=I7 (Sx hp p.al) h1.2.2.1 13 Bt (MT _ _) (by simp [Bt])
 have:NR p=t':=by unfold NR;rw [e1];rfl
 rw [this]
 exact⟨e1,e2.closed e3,e5⟩
noncomputable def AW(p:AP)(k:Nat):AZ:=DJ (LA p) (AR p.al) (HR p) (NR p) k
theorem WM{p:AP}(hp:AF p=true):∃k,k < 12∧HR p (AW p k)=none∧∀j,j < k→HR p (AW p j)≠none:=
 Qc (Sx hp p.al) (Al hp).2.2.1 (LG p) (IP hp).2.1 (by rw [(IP hp).2.2];rfl)
open Classical in
noncomputable def Bf(p:AP):Nat:=if h:∃k,k < 12∧HR p (AW p k)=none∧∀j,j < k→HR p (AW p j)≠none then Classical.choose h else 0
theorem Ch{p:AP}(hp:AF p=true):Bf p < 12∧HR p (AW p (Bf p))=none∧∀j,j < Bf p→HR p (AW p j)≠none:=by
 have h:=WM hp
 unfold Bf
 rw [dif_pos h]
 exact Classical.choose_spec h
theorem TOk.short{L:W→Bool}{ls:List UInt8}{t:AZ}(h:TOk L ls t):∀(i:Nat) w,t.rows[i]? = some w→w.length≤i:=by
 intro i
 induction i using Nat.strongRecOn with
 | _ i ih=>
  intro w hw
  rcases Nat.eq_zero_or_pos i with h0|h0
  ·subst h0
   rw [h.r0] at hw
   injection hw with hw
   subst hw;simp
  ·obtain⟨h1,j,hj,h2⟩:=h.pre i w hw h0
   have:=ih j hj _ h2
   simp at this
   omega
def XZ(n:Nat)(t:AZ):Prop:=∀c∈t.cols,c.length≤n
theorem Dz{p:AP}(hp:AF p=true):∀k,k≤Bf p→A7 (LA p) (AR p.al) (AW p k)∧k+1≤(AW p k).rows.length∧(AW p k).rows.length≤12∧(AW p k).cols.length=k+1∧XZ 144 (AW p k)
 | 0, hk=>by
  have h1:=IP hp
  have h2:=h1.2.1.Zn (Sx hp p.al)
  have h3:=Al hp
  have h0:=(List.getElem?_eq_some_iff.1 h1.2.1.r0).1
  exact⟨h1.2.1,h0,by show (NR p).rows.length≤12;omega,by show (NR p).cols.length=1;rw [h1.2.2];rfl,fun c hc=>by
   have hc:c∈(NR p).cols:=hc
   rw [h1.2.2] at hc
   simp at hc;subst hc;simp⟩
 | k + 1,hk=>by
  obtain⟨h1,h2,h3,h4,h5⟩:=Dz hp k (by omega)
  have h6:=(Ch hp).2.2 k (by omega)
  have e:AW p (k+1)=match HR p (AW p k) with
   | none=>AW p k
   | some w=>(OS (LA p) (AR p.al) (AW p k) w).getD (AW p k):=rfl
  cases hw:HR p (AW p k) with
  | none=>exact absurd hw h6
  | some w=>
   obtain⟨h7,h8⟩:=(LG p).on _ w hw h1
   have h10:=Al hp
   obtain⟨v,t',hN⟩:=Am.Nz (Sx hp p.al) h10.2.2.1 h1 h7 h8
   rw [hw] at e
   simp only [hN.next,Option.getD_some] at e
   rw [e]
   refine⟨hN.ok,by have:=hN.more;omega,by have:=hN.ok.Zn (Sx hp p.al);omega,by rw [hN.cols];simp [h4],fun c hc=>?_⟩
   rw [hN.cols] at hc
   rcases List.mem_append.1 hc with hc|hc
   ·exact h5 c hc
   ·simp at hc
    subst hc
    have:=Hg hw
    obtain⟨q,_,hq⟩:=hN.suf
    rw [hq] at this
    simp at this;omega
theorem Jw{p:AP}(hp:AF p=true){k:Nat}(hk:k < Bf p):∃w v,HR p (AW p k)=some w∧Next (LA p) (AR p.al) (AW p k) w v (AW p (k+1)):=by
 have h1:=(Dz hp k (by omega)).1
 have h6:=(Ch hp).2.2 k hk
 have e:AW p (k+1)=match HR p (AW p k) with
  | none=>AW p k
  | some w=>(OS (LA p) (AR p.al) (AW p k) w).getD (AW p k):=rfl
 cases hw:HR p (AW p k) with
 | none=>exact absurd hw h6
 | some w=>
  obtain⟨h7,h8⟩:=(LG p).on _ w hw h1
  obtain⟨v,t',hN⟩:=Am.Nz (Sx hp p.al) (Al hp).2.2.1 h1 h7 h8
  rw [hw] at e
  simp only [hN.next,Option.getD_some] at e
  rw [e]
  exact⟨w,v,rfl,hN⟩
end Go.Am
namespace Go.Am
open Go Go.Proofs
set_option maxHeartbeats 1000000
set_option maxRecDepth 4000
attribute [local irreducible] AY B2 Lex Br Ak Spec
variable {TB:Bw}
abbrev bT(g:FuncId):D:=.v (.func (.func g) #[] #[])
theorem Gy(a b:AP):Pure Tryz.prog TB 136 [A2 a,A2 b] (eB (CM a b)):=by
 refine eN Tryz.func136 rfl (by kernel_rfl) rfl ?_;intro Γ hΓ
 (repeat' first |refine sN rfl ?_ |((first|refine sA rfl ?_ ?_|refine s4 rfl ‹_› rfl ?_ ?_);first|exact tI|omega|simp only[oZ] at *;omega) |refine s2 rfl fun _ _hb=>?_ |(refine sC rfl (Bv a) ?_;intro _ _hb)|(refine sC rfl (Bv b) ?_;intro _ _hb) |refine s3 rfl ?_ ?_<;>rintro rfl |refine aU rfl ?_ |refine Aa ?_ |refine rE (by kernel_rfl) ?_|(refine aC rfl ?_ ?_<;>rintro⟨⟩)|refine aK ?_|refine aE ?_|refine aB ?_|refine aR ⟨_,rfl,?_⟩)
 all_goals (show E.o _=E.o _;congr;unfold CM;grind)
theorem PK(x y:Bool):Pure Tryz.prog TB 199 [eB x,eB y] (eB (bne x y)):=by
 refine eN Tryz.func199 rfl (by kernel_rfl) rfl ?_;intro Γ hΓ
 (repeat' first |refine sN rfl ?_ |((first|refine sA rfl ?_ ?_|refine s4 rfl ‹_› rfl ?_ ?_);first|exact tI|omega|simp only[oZ] at *;omega) |refine s2 rfl fun _ _hb=>?_ |refine s3 rfl ?_ ?_<;>rintro rfl |refine aU rfl ?_ |refine Aa ?_ |refine rE (by kernel_rfl) ?_|(refine aC rfl ?_ ?_<;>rintro⟨⟩)|refine aK ?_|refine aE ?_|refine aB ?_|refine aR ⟨_,rfl,?_⟩)
 all_goals (show E.o _=E.o _;congr;grind)
theorem TZ{a b:AP}(ha:AF a=true)(hb:AF b=true){f0:FuncId}{op:Bool→Bool→Bool}{s0:Int}(hop:∀x y,Pure Tryz.prog TB f0 [eB x,eB y] (eB (op x y)))(node:Int)(hn:0≤node∧node < (JH a b s0 op).N) :
 Pure Tryz.prog TB 246 [eI .i64 node,.o (.ip [bT f0]),.o (.ip (Bm a)),.o (.ip [iD b.nx.length]),.o (.ip (Bm b))] (eB ((JH a b s0 op).goal node)):=by
 have hah:=Al ha
 have hbh:=Al hb
 have h1:=GC (a:=a) hb (x:=node) hn
 have hN:node < 1048576:=by
  have h2:a.nx.length*b.nx.length≤12*12:=Nat.mul_le_mul (by omega) (by omega)
  have h3:(JH a b s0 op).N=a.nx.length*b.nx.length:=rfl
  omega
 obtain⟨x,hx⟩:=get_some (l:=a.ac) (k:=(node / b.nx.length).toNat) (by omega)
 obtain⟨y,hy⟩:=get_some (l:=b.ac) (k:=(node % b.nx.length).toNat) (by omega)
 have hx':(a.ac.map Gq)[(node / b.nx.length).toNat]? = some (Gq x):=by simp [hx]
 have hy':(b.ac.map Gq)[(node % b.nx.length).toNat]? = some (Gq y):=by simp [hy]
 have hg:(JH a b s0 op).goal node=op x y:=by simp [JH,List.getD,hx,hy]
 rw [hg]
 have hxy:=hop x y
 refine eN Tryz.func246 rfl (by kernel_rfl) rfl ?_;intro Γ hΓ
 (repeat first |refine sN rfl ?_ |((first|refine sA rfl ?_ ?_|refine s4 rfl ‹_› rfl ?_ ?_);first|exact tI|omega|simp only[oZ] at *;omega) |refine s2 rfl fun _ _hb=>?_ |refine s3 rfl ?_ ?_<;>rintro rfl |refine aU rfl ?_ |refine Aa ?_)
 refine rG (IY []) (by kernel_rfl) ?_
 (repeat first |refine sN rfl ?_ |((first|refine sA rfl ?_ ?_|refine s4 rfl ‹_› rfl ?_ ?_);first|exact tI|omega|simp only[oZ] at *;omega) |refine s2 rfl fun _ _hb=>?_|(refine Ag rfl ?_;refine gA rfl ?_;first|refine gS (fun _ _=>YQ (t:=7) rfl (BE rfl rfl rfl hxy rfl)) ?_) |refine s3 rfl ?_ ?_<;>rintro rfl |refine aU rfl ?_ |refine Aa ?_)
 refine aR ⟨_,rfl,rfl⟩
theorem TY{a b:AP}(ha:AF a=true)(hb:AF b=true){op:Bool→Bool→Bool}{s0:Int}:TJ Tryz.prog TB 3 (JH a b s0 op) 245 [.ip [.l (Es a)],.ip [iD b.nx.length],.ip [.l (Es b)]]:=by
 intro node l outs hn hl hol
 have hl:=Av (show l∈Az a.al 6 from hl)
 have hah:=Al ha
 have hbh:=Al hb
 have h1:=GC (a:=a) hb (x:=node) hn
 have hN:node < 1048576:=by
  have h2:a.nx.length*b.nx.length≤12*12:=Nat.mul_le_mul (by omega) (by omega)
  have h3:(JH a b s0 op).N=a.nx.length*b.nx.length:=rfl
  omega
 have hga:=GF ha (q:=(node / b.nx.length).toNat) (by omega) hl.1 (by omega)
 have hgb:=GF hb (q:=(node % b.nx.length).toNat) (by omega) hl.1 (by omega)
 have ta:=He (a:=a) (q:=(node / b.nx.length).toNat) (by omega)
 have tb:=He (a:=b) (q:=(node % b.nx.length).toNat) (by omega)
 have el:((l.toNat:Nat):Int)=l:=by omega
 have ra:=Fh (h:=fun l=>Bo a (node / b.nx.length).toNat l) hl.1 (by omega)
 have rb:=Fh (h:=fun l=>Bo b (node % b.nx.length).toNat l) hl.1 (by omega)
 simp only [el] at ra rb
 have hm:0≤Bo a (node / b.nx.length).toNat l*b.nx.length∧Bo a (node / b.nx.length).toNat l*b.nx.length≤144:=⟨Int.mul_nonneg hga.1 (by omega),by
  have:Bo a (node / b.nx.length).toNat l*b.nx.length≤12*12:=Int.mul_le_mul (by omega) (by omega) (by omega) (by omega)
  omega⟩
 have hs:(JH a b s0 op).succ node l=[Bo a (node / b.nx.length).toNat l*b.nx.length+Bo b (node % b.nx.length).toNat l]:=rfl
 rw [hs]
 refine eN Tryz.func245 rfl (by kernel_rfl) rfl ?_;intro Γ hΓ
 (repeat first |refine sN rfl ?_ |((first|refine sA rfl ?_ ?_|refine s4 rfl ‹_› rfl ?_ ?_);first|exact tI|omega|simp only[oZ] at *;omega) |refine s2 rfl fun _ _hb=>?_ |refine s3 rfl ?_ ?_<;>rintro rfl |refine aU rfl ?_ |refine Aa ?_)
 refine rG (IY [21]) (by kernel_rfl) ?_
 (repeat first |refine sN rfl ?_ |((first|refine sA rfl ?_ ?_|refine s4 rfl ‹_› rfl ?_ ?_);first|exact tI|omega|simp only[oZ] at *;omega) |refine s2 rfl fun _ _hb=>?_|(refine Ag rfl ?_;refine gA rfl ?_;first|refine gS (fun _ _=>Ea rfl ra) ?_|refine gS (fun _ _=>Ea rfl rb) ?_) |refine s3 rfl ?_ ?_<;>rintro rfl |refine aU rfl ?_ |refine Aa ?_)
 (refine pW rfl ?_ rfl (by rfl);refine Aw rfl rfl rfl (by first|(simp;done)|(simp;(first|omega|simp only[oZ] at *;omega))) rfl (by intro r hr;simp at hr;subst hr;rfl) (by rfl) (Nat.le_of_ble_eq_true rfl) (by simp;omega) ?_)
 (repeat first |refine sN rfl ?_ |((first|refine sA rfl ?_ ?_|refine s4 rfl ‹_› rfl ?_ ?_);first|exact tI|omega|simp only[oZ] at *;omega) |refine s2 rfl fun _ _hb=>?_ |refine s3 rfl ?_ ?_<;>rintro rfl |refine aU rfl ?_ |refine Aa ?_)
 refine aR ⟨_,rfl,by simp,rfl,by simp [kill]⟩
theorem KO{a b:AP}(ha:AF a=true)(hb:AF b=true){f0:FuncId}{op:Bool→Bool→Bool}(hop:∀x y,Pure Tryz.prog TB f0 [eB x,eB y] (eB (op x y)))(i j:Int)(hi:0≤i∧i < a.nx.length)(hj:0≤j∧j < b.nx.length) :
 Pure Tryz.prog TB 198 [A2 a,A2 b,eI .i64 i,eI .i64 j,.o (.d (bT f0))] (Nk (Gn (JH a b (i*b.nx.length+j) op))):=by
 have hah:=Al ha
 have hbh:=Al hb
 have hta:=FW (TB:=TB) a ha
 have htb:=FW (TB:=TB) b hb
 have hm:0≤i*(b.nx.length:Int)∧(i+1)*(b.nx.length:Int)≤a.nx.length*b.nx.length:=⟨Int.mul_nonneg hi.1 (by omega),Int.mul_le_mul_of_nonneg_right (by omega) (by omega)⟩
 have hm1:(i+1)*(b.nx.length:Int)=i*b.nx.length+b.nx.length:=by rw [Int.add_mul];omega
 have hN:a.nx.length*b.nx.length≤144:=Nat.mul_le_mul (show a.nx.length≤12 by omega) (show b.nx.length≤12 by omega)
 have hNi:((a.nx.length:Int)*b.nx.length)≤144:=by rw [←Int.natCast_mul];omega
 have hs0:0≤i*(b.nx.length:Int)+j∧i*(b.nx.length:Int)+j < a.nx.length*b.nx.length:=by omega
 have hg:=Un (op:=op) (s0:=i*b.nx.length+j) ha hb hs0
 have hla:(Es a).length=a.nx.length:=by simp [Es,Bn]
 have hlb:(Es b).length=b.nx.length:=by simp [Es,Bn]
 have hfp:Pure Tryz.prog TB 182 [eI .i64 ((a.nx.length:Int)*b.nx.length),Aj [i*b.nx.length+j],Aj (Ac a.al),.o (.fn 245 [.ip [.l (Es a)],.ip [iD b.nx.length],.ip [.l (Es b)]]),.o (.fn 246 [.ip [bT f0],.ip (Bm a),.ip [iD b.nx.length],.ip (Bm b)])]
  (Nk (Gn (JH a b (i*b.nx.length+j) op))):=by
  rw [←Int.natCast_mul]
  exact Nm hg (show a.nx.length*b.nx.length≤1048576 by omega) (fun x hx=>by have:=Av hx;omega) (AL _ 6) (fun node l hn hl=>by
   have h1:1≤a.nx.length*b.nx.length:=Nat.mul_pos (show 0 < a.nx.length by omega) (show 0 < b.nx.length by omega)
   exact h1) (TY ha hb) (fun n hn=>TZ ha hb hop n hn) rfl (fun r=>rfl) (fun r=>rfl) (E5 _)
 refine eN Tryz.func198 rfl (by kernel_rfl) rfl ?_;intro Γ hΓ
 (repeat first |refine sN rfl ?_ |((first|refine sA rfl ?_ ?_|refine s4 rfl ‹_› rfl ?_ ?_);first|exact tI|omega|simp only[oZ] at *;omega) |refine s2 rfl fun _ _hb=>?_ |refine s3 rfl ?_ ?_<;>rintro rfl |refine aU rfl ?_ |refine Aa ?_)
 refine R.Xh [(0,2),(1,2),(2,2),(3,2),(4,3),(5,3),(6,5),(7,5)] mixed (by kernel_rfl) rfl (by kernel_rfl) ?_
 (repeat ((refine R.Ag rfl ?_;first |(refine R.yQ (md:=false) rfl rfl rfl ?_ ?_;first|exact tI|omega|simp only[oZ] at *;omega) |(refine R.yB rfl rfl rfl ?_;intro _ _hb) |refine R.yS rfl rfl rfl ?_ |refine R.yP rfl rfl rfl rfl ?_ |refine R.yA rfl rfl rfl rfl ?_ |refine R.yW rfl rfl rfl ?_|refine R.Cq (fun _ _ _=>BE rfl rfl rfl (hta) rfl) rfl rfl ?_|refine R.Cq (fun _ _ _=>BE rfl rfl rfl (htb) rfl) rfl rfl ?_ |refine R.ak rfl rfl ?_ |(refine R.yG rfl rfl ?_ ?_<;>intro hb<;>subst hb) )))
 refine R.WN ?_
 refine aS ?_
 refine Ak.DS [0,1] [2,3,5,6,9] rfl [(12,.o (.ip [.l (Es a)])),(13,.o (.ip [.l (Es b)]))] ⟨⟨_,rfl,.o (.ptr (by simp) rfl rfl rfl)⟩,⟨_,rfl,.o (.ptr (by simp) rfl rfl rfl)⟩,trivial⟩ ?_;(try dsimp only[cA,cB])
 refine bF (by kernel_rfl) ?_;(repeat first |refine sN rfl ?_ |((first|refine sA rfl ?_ ?_|refine s4 rfl ‹_› rfl ?_ ?_);first|exact tI|omega|simp only[oZ] at *;omega) |refine s2 rfl fun _ _hb=>?_ |refine s3 rfl ?_ ?_<;>rintro rfl);refine Aa ?_
 simp only [List.length_range]
 refine aS ?_
 refine Ak.DS [2] [2,3,5,6,9,12,13] rfl [(14,.o (.ip [iD b.nx.length]))] ⟨⟨_,rfl,.o (.ptr (by simp) rfl rfl rfl)⟩,trivial⟩ ?_;(try dsimp only[cA,cB])
 (repeat first |refine sN rfl ?_ |((first|refine sA rfl ?_ ?_|refine s4 rfl ‹_› rfl ?_ ?_);first|exact tI|omega|simp only[oZ] at *;omega) |refine s2 rfl fun _ _hb=>?_ |refine s3 rfl ?_ ?_<;>rintro rfl |refine aU rfl ?_ |refine Aa ?_)
 refine rG (IY []) (by kernel_rfl) ?_
 have hlo:=CD (TB:=TB) a.al
 (repeat first |refine sN rfl ?_ |((first|refine sA rfl ?_ ?_|refine s4 rfl ‹_› rfl ?_ ?_);first|exact tI|omega|simp only[oZ] at *;omega) |refine s2 rfl fun _ _hb=>?_ |refine s3 rfl ?_ ?_<;>rintro rfl |refine aU rfl ?_ |refine Aa ?_)
 simp only [List.length_range]
 (repeat first |refine sN rfl ?_ |((first|refine sA rfl ?_ ?_|refine s4 rfl ‹_› rfl ?_ ?_);first|exact tI|omega|simp only[oZ] at *;omega) |refine s2 rfl fun _ _hb=>?_ |refine sP rfl (hlo) rfl ?_|refine sP rfl (hfp) rfl ?_ |refine s3 rfl ?_ ?_<;>rintro rfl |refine aU rfl ?_ |refine Aa ?_)
 refine aR ⟨_,rfl,rfl⟩
theorem J0(a b:AP):Pure Tryz.prog TB 135 [A2 a,A2 b] (Nk (Fw a b)):=by
 by_cases hv:CM a b=true
 ·have hv2:=hv
  unfold CM at hv2
  simp only [Bool.and_eq_true,decide_eq_true_eq] at hv2
  obtain⟨⟨ha,hb⟩,_⟩:=hv2
  have hah:=Al ha
  have hbh:=Al hb
  have hd:Fw a b=Gn (JH a b 0 bne):=by unfold Fw;rw [if_pos hv,K2 ha hb (fun x y=>by simp) (.inl rfl)]
  have hf:=KO (TB:=TB) ha hb PK 0 0 ⟨by omega,by omega⟩ ⟨by omega,by omega⟩
  have hf2:Pure Tryz.prog TB 198 [A2 a,A2 b,eI .i64 0,eI .i64 0,.o (.fn 199 [])] (Nk (Gn (JH a b 0 bne))):=by
   have:=Spec.bO (l:=[A2 a,A2 b,eI .i64 0,eI .i64 0]) (m:=[]) hf
   rw [Int.zero_mul,Int.zero_add] at this
   exact this
  rw [hd]
  refine eN Tryz.func135 rfl (by kernel_rfl) rfl ?_;intro Γ hΓ
  (repeat' first |refine sN rfl ?_ |((first|refine sA rfl ?_ ?_|refine s4 rfl ‹_› rfl ?_ ?_);first|exact tI|omega|simp only[oZ] at *;omega) |refine s2 rfl fun _ _hb=>?_ |(refine sC rfl (Gy a b) ?_;intro _ _hb)|refine sP rfl (hf2) rfl ?_ |refine s3 rfl ?_ ?_<;>rintro rfl |refine aU rfl ?_ |refine Aa ?_ |refine rE (by kernel_rfl) ?_|(refine aC rfl ?_ ?_<;>rintro⟨⟩)|refine aK ?_|refine aE ?_|refine aB ?_|refine aR ⟨_,rfl,?_⟩)
  all_goals first
   | rfl
   | (exfalso;grind;done)
 ·have hd:Fw a b=none:=by unfold Fw;rw [if_neg hv]
  rw [hd]
  refine eN Tryz.func135 rfl (by kernel_rfl) rfl ?_;intro Γ hΓ
  (repeat' first |refine sN rfl ?_ |((first|refine sA rfl ?_ ?_|refine s4 rfl ‹_› rfl ?_ ?_);first|exact tI|omega|simp only[oZ] at *;omega) |refine s2 rfl fun _ _hb=>?_ |(refine sC rfl (Gy a b) ?_;intro _ _hb) |refine s3 rfl ?_ ?_<;>rintro rfl |refine aU rfl ?_ |refine Aa ?_ |refine rE (by kernel_rfl) ?_|(refine aC rfl ?_ ?_<;>rintro⟨⟩)|refine aK ?_|refine aE ?_|refine aB ?_|refine aR ⟨_,rfl,?_⟩)
  all_goals first
   | rfl
   | (exfalso;grind;done)
theorem Hk{c:C}{L:W→Bool}{ok:W→Prop}(hc:Gf Tryz.prog TB c L ok)(al:Int)(t:AZ)(hf:HS ok (AR al) t)(ht:Ev al 20012 t)(ho:A0 L (AR al) t=none) :
 Pure Tryz.prog TB 99 [EP al c,CB t] (A2 (AO L al t)):=by
 have hr:=CX c hc.BK
 have hrl:=ht.rl
 have hcl:=ht.cl
 have hla:(Ac al).length≤6:=AL al 6
 have hask:=ht.XU hf (by omega)
 have hnl:(AO L al t).nx.length=t.rows.length:=by simp [AO]
 have hal:(AO L al t).ac.length=t.rows.length:=by simp [AO]
 refine Bl.E2 (Bl.ofM 3 (Nat.le_refl _) Tryz.func99 rfl rfl (by kernel_rfl) (Nat.le_of_ble_eq_true rfl) ?_);intro Γ hΓ
 (repeat first|refine aU rfl ?_)
 (refine pW rfl ?_ rfl (by rfl);refine CG rfl rfl ?_)
 (refine Ag rfl ?_;refine Cq (fun _ _=>Cw rfl rfl rfl) rfl ?_)
 (repeat first|refine tA rfl ?_ |refine aU rfl ?_ |refine Aa ?_)
 (refine pW rfl ?_ rfl (by rfl);refine AD [] rfl rfl (E0 hc al t hask.1) ⟨rfl,by simp,by simp⟩ (by simp [Dn,E.AX,C.BA,C.AX,hr,eC]) trivial ?_;rintro x0 σ1 nx1 ⟨rfl,rfl,rfl⟩ _)
 (repeat first|refine tA rfl ?_ |refine aU rfl ?_ |refine Aa ?_)
 (refine pW rfl ?_ rfl (by rfl);refine Fe 1 1 84 2 1 4 rfl rfl (by decide) rfl rfl (by rfl) (by rfl) ?_)
 (repeat first|refine sN rfl ?_ |refine tA rfl ?_ |refine aU rfl ?_ |refine Aa ?_)
 refine aB ?_
 refine Ak.A4 (α:={k:Nat // k≤t.rows.length}) (fun ⟨k,hkl⟩=>[(2,.o (.ptr 0 2 0 0)),(3,.o (.ip (Po t))),(4,.o (.ptr 1 3 0 0)),(5,.o (.mp 2)),(6,.o (.ptr 3 3 0 0)),(19,.o (.d (A5 t.rows))),(20,eI .i64 t.rows.length),(21,eI .i64 k)]) (fun ⟨k,hkl⟩=>[(0,.cells 100 2 [[.d (iD al),c]]),(1,.cells 41 3 [[.d (iD 0),.d (.l []),.d (.l [])]]),(2,.mp (Du (Ba L t t.rows.length))),(3,.cells 41 3 [[.d (iD al),.arr 4 1 0 k,.arr 5 1 0 k]]),(4,.cells 84 1 (((AO L al t).nx.take k).map fun r=>[.d (CO r)])),(5,.cells 4 1 (((AO L al t).ac.take k).map fun b=>[.d (bD b)]))]) 6 (fun ⟨k,hkl⟩=>t.rows.length - k) (⟨0,by omega⟩) [0,1,2,5,3,4] (Eb hΓ rfl rfl) (by (simp[cX,zC,hΓ,hr,eC,Ab.AX,BV,Gi,BZ,Ai])) ?_;rintro⟨k,hkl⟩;(try dsimp only)
 (repeat first|refine s2 rfl fun _ _hb=>?_ |refine aU rfl ?_ |refine Aa ?_)
 (refine aC rfl ?_ ?_<;>rintro⟨⟩)
 ·have hlt:k < t.rows.length:=by (simp only[oZ] at *;omega)
  obtain⟨r,hx⟩:=get_some (l:=t.rows) (k:=k) hlt
  have hx':=get_map (g:=BC) hx
  have hxm:=List.mem_of_getElem? hx
  refine aK ?_
  refine aS (aB ?_)
  (repeat first|refine tM rfl ?_ |(refine s4 rfl ‹_› rfl ?_ ?_;omega) |refine aU rfl ?_ |refine Aa ?_)
  (refine pW rfl ?_ rfl (by rfl);refine Iw 1 3 ?_)
  (repeat first|refine sN rfl ?_ |refine tM rfl ?_ |refine sP rfl (CD al) rfl ?_ |refine aU rfl ?_ |refine Aa ?_)
  refine aB ?_
  refine Ak.A4 (α:={j:Nat // j≤(Ac al).length}) (fun ⟨j,hjl⟩=>[(2,.o (.ptr 0 2 0 0)),(3,.o (.ip (Po t))),(4,.o (.ptr 1 3 0 0)),(5,.o (.mp 2)),(6,.o (.ptr 3 3 0 0)),(19,.o (.d (A5 t.rows))),(20,eI .i64 t.rows.length),(21,eI .i64 k),(8,eT r),(9,.o (.arr 6 1 0 j)),(27,Aj (Ac al)),(28,eI .i64 (Ac al).length),(29,eI .i64 j)]) (fun ⟨j,hjl⟩=>[(0,.cells 100 2 [[.d (iD al),c]]),(1,.cells 41 3 [[.d (iD 0),.d (.l []),.d (.l [])]]),(2,.mp (Du (Ba L t t.rows.length))),(3,.cells 41 3 [[.d (iD al),.arr 4 1 0 k,.arr 5 1 0 k]]),(4,.cells 84 1 (((AO L al t).nx.take k).map fun r=>[.d (CO r)])),(5,.cells 4 1 (((AO L al t).ac.take k).map fun b=>[.d (bD b)])),(6,.cells 3 1 (((Ac al).take j).map fun l=>[.d (iD ((Cv L t (r++[lb l]):Nat):Int))]))]) 7 (fun ⟨j,hjl⟩=>(Ac al).length - j) (⟨0,by omega⟩) [0,1,2,3,4,5,6] (Eb hΓ rfl rfl) (by (simp[cX,zC,hΓ,hr,eC,Ab.AX,BV,Gi])) ?_;rintro⟨j,hjl⟩;(try dsimp only)
  (repeat first|refine s2 rfl fun _ _hb=>?_ |refine aU rfl ?_ |refine Aa ?_)
  (refine aC rfl ?_ ?_<;>rintro⟨⟩)
  ·have hjlt:j < (Ac al).length:=by (simp only[oZ] at *;omega)
   obtain⟨l,hl⟩:=get_some (l:=Ac al) (k:=j) hjlt
   have hl':=get_map (g:=Bq) hl
   have hlm:=List.mem_of_getElem? hl
   have hlb:=Av hlm
   have hrb:=ht.onR r hxm
   have hm:=K0 (TB:=TB) hc al t (r++[lb l]) (by omega) (fun x hx=>hask.2 r hxm _ (List.mem_map.2 ⟨l,hlm,rfl⟩) x hx) (fun y hy=>by have:=(ht.onC y hy).2;simp;omega)
   have hlk:=UG ho hxm hlm
   refine aK ?_
   refine aS (aB ?_)
   (repeat first|refine tA rfl ?_ |(refine s4 rfl ‹_› rfl ?_ ?_;omega) |refine aU rfl ?_ |refine Aa ?_)
   refine rG (IY [13]) (by kernel_rfl) ?_
   (repeat first|(refine sA rfl ?_ ?_;first|exact tI|omega|simp only[oZ] at *;omega) |refine sP rfl (EU l hlb.1 (by omega)) rfl ?_|(refine Ag rfl ?_;refine gA rfl ?_;first| refine gS (fun _ _=>Vv rfl (by omega) (by omega)) ?_))
   rw [XE hlb.1]
   (repeat first| (refine Ag rfl ?_;refine gA rfl ?_;first| refine gS (fun _ _=>BE rfl rfl (by simp [E.BK,C.Cr,C.BK,hc.BK]) hm rfl) ?_|refine gQ (Xb rfl rfl rfl) (by rfl) ?_))
   (repeat first|refine tA rfl ?_)
   (refine pW rfl ?_ rfl (by rfl);refine Aw rfl rfl rfl (by first| (simp;done)|(simp;(omega))) rfl (by intro r hr;simp at hr;subst hr;rfl) (by rfl) (Nat.le_of_ble_eq_true rfl) (by simp;omega) ?_)
   (repeat first|(refine sA rfl ?_ ?_;first|exact tI|omega) |refine aU rfl ?_ |refine Aa ?_)
   rw [hlk]
   refine⟨⟨j+1,by omega⟩,by dsimp only;(omega),[0,1,2,3,4,5,7],?_⟩
   simp[cX,zC,hΓ,hr,List.take_add_one,hl]
  ·obtain rfl:j=(Ac al).length:=by (simp only[oZ] at *;omega)
   have hok:=hf r ⟨r,hxm,[],.inl rfl,[],.inl rfl,by simp⟩
   have hnx:(AO L al t).nx.take (k+1)=(AO L al t).nx.take k++[(Ac al).map fun l=>((Cv L t (r++[lb l]):Nat):Int)]:=by
    rw [List.take_add_one];simp [AO,hx]
   have hac:(AO L al t).ac.take (k+1)=(AO L al t).ac.take k++[L r]:=by
    rw [List.take_add_one];simp [AO,hx]
   refine aE ?_
   rw [List.take_length]
   refine Ak.DS [6] [2,3,4,5,6,8,19,20,21] rfl [(9,Aj ((Ac al).map fun l=>((Cv L t (r++[lb l]):Nat):Int)))] ⟨⟨_,rfl,.o (.full (by simp) rfl (by simp [Function.comp_def]) (by simp))⟩,trivial⟩ ?_;(try dsimp only[cA,cB])
   (repeat first|refine tA rfl ?_ |refine aU rfl ?_)
   (refine pW rfl ?_ rfl (by rfl);refine Aw rfl rfl rfl (by first| (simp;done)|(simp;(omega))) rfl (by intro r hr;simp at hr;subst hr;rfl) (by rfl) (Nat.le_of_ble_eq_true rfl) (by simp;omega) ?_)
   (repeat first|refine tA rfl ?_ |refine Aa ?_)
   refine rG (IY [7,9]) (by kernel_rfl) ?_
   (repeat first|refine tA rfl ?_|(refine Ag rfl ?_;refine gA rfl ?_;first| refine gS (fun _ _=>hc.ask rfl rfl hok) ?_))
   (refine pW rfl ?_ rfl (by rfl);refine Aw rfl rfl rfl (by first| (simp;done)|(simp;(omega))) rfl (by intro r hr;simp at hr;subst hr;rfl) (by rfl) (Nat.le_of_ble_eq_true rfl) (by simp;omega) ?_)
   (repeat first|(refine sA rfl ?_ ?_;first|exact tI|omega) |refine aU rfl ?_ |refine Aa ?_)
   refine⟨⟨k+1,by omega⟩,by dsimp only;(omega),[0,1,2,3,7,8],?_⟩
   simp[cX,zC,hΓ,hr,eC,Ab.AX,BV,Gi,BZ,Ai,hnx,hac]
 ·obtain rfl:k=t.rows.length:=by (simp only[oZ] at *;omega)
  have ht1:(AO L al t).nx.take t.rows.length=(AO L al t).nx:=List.take_of_length_le (by simp [AO])
  have ht2:(AO L al t).ac.take t.rows.length=(AO L al t).ac:=List.take_of_length_le (by simp [AO])
  rw [ht1,ht2]
  refine aE ?_
  (repeat first|refine tM rfl ?_ |refine aU rfl ?_ |refine Aa ?_)
  refine Ak.settle [(4,.o (.ip [iD al,Ci (AO L al t).nx,FY (AO L al t).ac]))] ⟨⟨_,rfl,.o (.box rfl (.cons .d (.cons (.full rfl (by simp [Function.comp_def]) (by simp [AO])) (.cons (.full rfl (by simp [Function.comp_def]) (by simp [AO])) .nil))))⟩,trivial⟩ ?_
  refine aR ⟨_,rfl,rfl⟩
theorem Nf{c:C}{L:W→Bool}{ok:W→Prop}(hc:Gf Tryz.prog TB c L ok)(al:Int)(t:AZ)(hf:Fq ok al)(ht:Ev al 20012 t)(ho:A0 L (AR al) t=none) :
 Pure Tryz.prog TB 99 [EP al c,CB t] (A2 (AO L al t)):=Hk hc al t (ht.on hf (by omega)) ht ho
theorem EE(w:W)(i:Nat)(c:UInt8)(hc:w[((i:Nat):Int).toNat]? = some c)(hl:0≤(c.toNat:Int) - 97∧(c.toNat:Int) - 97 < 6):Pure Tryz.prog TB 133 [eT w,eI .i64 i] (eI .i64 ((c.toNat:Int) - 97)):=by
 refine eN Tryz.func133 rfl (by kernel_rfl) rfl ?_;intro Γ hΓ
 (repeat' first|(refine sA rfl ?_ ?_;first|exact tI|omega) |(refine s4 rfl ‹_› rfl ?_ ?_;omega) |refine s2 rfl fun _ _hb=>?_ |refine s3 rfl ?_ ?_<;>rintro rfl |refine aU rfl ?_ |refine Aa ?_|(refine aC rfl ?_ ?_<;>rintro⟨⟩)|refine aK ?_|refine aE ?_|refine aB ?_|refine aR ⟨_,rfl,?_⟩)
 all_goals first
  | rfl
  | (exfalso;grind)
abbrev VV(kn:Bool)(p:AP)(s:Sys)(q:AP)(al:Int):List D:=[bD kn,iD p.al,Ci p.nx,FY p.ac,iD s.al,iD s.st,PM s.es,iD q.al,Ci q.nx,FY q.ac,iD al]
theorem FM{ls:List UInt8}{w:W}(h:Ay ls w)(k:Nat):Ay ls (w.take k):=fun c hc=>h c (List.mem_of_mem_take hc)
theorem WV{ls:List UInt8}{w:W}(h:Ay ls w)(k:Nat):Ay ls (w.drop k):=fun c hc=>h c (List.mem_of_mem_drop hc)
theorem MQ{p:AP}{w:W}{k:Nat}{c:UInt8}(hc:w[k]? = some c)(q:Int):AU p q (w.take (k+1))=Bo p (AU p q (w.take k)).toNat ((c.toNat:Int) - 97):=by
 rw [List.take_add_one,hc,DH];rfl
theorem Jv{L:W→Bool}{t:AZ}{w:W}{k:Nat}{c:UInt8}(hc:w[k]? = some c)(q:Nat):runM L t q (w.take (k+1))=Cv L t (t.rows.getD (runM L t q (w.take k)) []++[c]):=by
 rw [List.take_add_one,hc,IG];rfl
theorem Ww{p:AP}(hp:AF p=true)(s:Sys)(q:AP)(al:Int)(kn:Bool)(w:W)(hw:Ay (AR p.al) w)(hl:w.length≤1048576) :
 Pure Tryz.prog TB 145 [eT w,.o (.ip [.l (Es p)]),.o (.ip (VV kn p s q al))] (eB (LA p w)):=by
 have hph:=Al hp
 refine eN Tryz.func145 rfl (by kernel_rfl) rfl ?_;intro Γ hΓ
 (repeat first|refine tA rfl ?_ |refine aU rfl ?_ |refine Aa ?_)
 refine aB ?_
 refine aL (α:={k:Nat // k≤w.length}) [0,1,2,8] [] rfl rfl (fun ⟨k,hk⟩=>[(5,eI .i64 (AU p 0 (w.take k))),(9,eI .i64 k)]) (fun ⟨k,hk⟩=>[]) 0 (fun ⟨k,hk⟩=>w.length - k) (⟨0,by omega⟩) hΓ rfl (by (simp[cX,zC,hΓ]<;>rfl)) ?_;rintro⟨k,hk⟩;(try dsimp only[cA,cB])
 have hr:=Dg hp (w.take k) 0 (FM hw k) (by omega)
 by_cases hlt:k < w.length
 ·obtain⟨c,hc⟩:=get_some hlt
  have hc':w[((k:Nat):Int).toNat]? = some c:=by simpa using hc
  have hcl:=FF (hw c (List.mem_of_getElem? hc))
  have hla:=EE (TB:=TB) w k c hc' hcl
  have ta:=He (a:=p) (q:=(AU p 0 (w.take k)).toNat) (by omega)
  have el:((((c.toNat:Int) - 97).toNat:Nat):Int)=(c.toNat:Int) - 97:=by omega
  have ra:=Fh (h:=fun l=>Bo p (AU p 0 (w.take k)).toNat l) hcl.1 (by omega)
  simp only [el] at ra
  have hst:=MQ (p:=p) hc 0
  (repeat first|refine s2 rfl fun _ _hb=>?_ |refine aU rfl ?_ |refine Aa ?_)
  (refine aC rfl ?_ ?_<;>rintro⟨⟩)
  ·(repeat' first|(refine sA rfl ?_ ?_;first|exact tI|omega) |(refine s4 rfl ‹_› rfl ?_ ?_;omega) |refine sP rfl (hla) rfl ?_|(refine Ag rfl ?_;refine gA rfl ?_;first| refine gS (fun _ _=>Ea rfl ra) ?_) |refine aU rfl ?_ |refine Aa ?_ |refine rE (by kernel_rfl) ?_|(refine aC rfl ?_ ?_<;>rintro⟨⟩)|refine aK ?_|refine aE ?_|refine aB ?_|refine aR ⟨_,rfl,?_⟩)
   refine⟨⟨k+1,by omega⟩,by dsimp only;(omega),[],?_⟩
   simp[cX,zC,hΓ,hst]
  ·exfalso;(simp only[oZ] at *;omega)
 ·obtain rfl:k=w.length:=by omega
  rw [List.take_length] at *
  obtain⟨b,hb⟩:=get_some (l:=p.ac) (k:=(AU p 0 w).toNat) (by omega)
  have hb':(p.ac.map Gq)[(AU p 0 w).toNat]? = some (Gq b):=by simp [hb]
  have hbl:LA p w=b:=by unfold LA;simp [List.getD,hb]
  rw [hbl]
  (repeat first|refine s2 rfl fun _ _hb=>?_ |refine aU rfl ?_ |refine Aa ?_)
  (refine aC rfl ?_ ?_<;>rintro⟨⟩)
  ·exfalso;(simp only[oZ] at *;omega)
  ·(repeat' first|refine tA rfl ?_ |(refine s4 rfl ‹_› rfl ?_ ?_;omega) |refine aU rfl ?_ |refine Aa ?_|(refine aC rfl ?_ ?_<;>rintro⟨⟩)|refine aK ?_|refine aE ?_|refine aB ?_|refine aR ⟨_,rfl,?_⟩)
   rfl
def BT(L:W→Bool)(t:AZ)(w:W):Option W:=if Ht L t w=L w then none else splitAt L t (L w) 0 w
theorem IL{L:W→Bool}{t:AZ}{b:Bool}{w:W}{k q:Nat}{c:UInt8}(hc:w[k]? = some c):splitAt L t b q (w.drop k)=if L (t.rows.getD (Cv L t (t.rows.getD q []++[c])) []++w.drop (k+1))≠b then some (w.drop (k+1)) else splitAt L t b (Cv L t (t.rows.getD q []++[c])) (w.drop (k+1)):=by
 rw [C3 hc,splitAt]
def TT(t:AZ)(w v:W):Prop:=∃r,(r=[]∨r∈t.rows)∧∃k:Nat,v=r++w.drop k
theorem Mg{c:C}{L:W→Bool}{ok:W→Prop}(hc:Gf Tryz.prog TB c L ok)(al:Int)(t:AZ)(hf:HS ok (AR al) t)(ht:Ev al 20012 t)(hal:BI al=true)(hcl:A7 L (AR al) t)(ho:A0 L (AR al) t=none)(w:W)(hfs:∀v,TT t w v→ok v)(hw:Ay (AR al) w)(hwl:w.length≤20000) :
 Pure Tryz.prog TB 89 [EP al c,CB t,eT w] (Sr (BT L t w)):=by
 have hr:=CX c hc.BK
 have hrl:=ht.rl
 have hau:=Hk (TB:=TB) hc al t hf ht ho
 have haok:=Kd hal hcl hrl
 have hta:=FW (TB:=TB) (AO L al t) haok
 have hnl:(AO L al t).nx.length=t.rows.length:=by simp [AO]
 have h0:0 < t.rows.length:=(List.getElem?_eq_some_iff.1 hcl.r0).1
 have hokw:=hfs w ⟨[],.inl rfl,0,rfl⟩
 have hpu:([EP al c,CB t].all E.BK && C.Cr [])=true:=by simp [E.BK,C.Cr,C.BK,hc.BK]
 refine eN Tryz.func89 rfl (by kernel_rfl) rfl ?_;intro Γ hΓ
 (repeat first|refine aU rfl ?_)
 (refine pW rfl ?_ rfl (by rfl);refine CG rfl rfl ?_)
 (refine Ag rfl ?_;refine Cq (fun _ _=>Cw rfl rfl rfl) rfl ?_)
 (repeat first|refine tA rfl ?_ |refine aU rfl ?_ |refine Aa ?_)
 (repeat first|refine tA rfl ?_|(refine Ag rfl ?_;refine gA rfl ?_;first| refine gS (fun _ _=>BE rfl rfl hpu hau rfl) ?_) |refine aU rfl ?_ |refine Aa ?_)
 (repeat first|refine tA rfl ?_ |refine sP rfl (hta) rfl ?_ |refine aU rfl ?_ |refine Aa ?_)
 refine aB ?_
 refine aL (α:={k:Nat // k≤w.length}) [2,3,4,8,9,20] [0,1] rfl rfl (fun ⟨k,hk⟩=>[(10,eI .i64 (runM L t 0 (w.take k):Nat)),(21,eI .i64 k)]) (fun ⟨k,hk⟩=>[]) 2 (fun ⟨k,hk⟩=>w.length - k) (⟨0,by omega⟩) hΓ rfl (by (simp[cX,zC,hΓ,hr]<;>rfl)) ?_;rintro⟨k,hk⟩;(try dsimp only[cA,cB])
 have hrn:=hcl.run (w.take k) 0 (FM hw k) h0
 by_cases hlt:k < w.length
 ·obtain⟨c2,hc2⟩:=get_some hlt
  have hc':w[((k:Nat):Int).toNat]? = some c2:=by simpa using hc2
  have hcm:=hw c2 (List.mem_of_getElem? hc2)
  have hcn:=FF hcm
  have hla:=EE (TB:=TB) w k c2 hc' hcn
  have ta:=He (a:=AO L al t) (q:=(((runM L t 0 (w.take k):Nat):Int)).toNat) (by omega)
  have el:((((c2.toNat:Int) - 97).toNat:Nat):Int)=(c2.toNat:Int) - 97:=by omega
  have ra:=Fh (h:=fun l=>Bo (AO L al t) (((runM L t 0 (w.take k):Nat):Int)).toNat l) hcn.1 (by omega)
  simp only [el] at ra
  have hga:=Im (L:=L) (al:=al) (t:=t) (q:=runM L t 0 (w.take k)) hrn hcm
  have hst:=Jv (L:=L) (t:=t) hc2 0
  rw [←hst] at hga
  rw [Int.toNat_natCast,hga] at ra
  (repeat first|refine s2 rfl fun _ _hb=>?_ |refine aU rfl ?_ |refine Aa ?_)
  (refine aC rfl ?_ ?_<;>rintro⟨⟩)
  ·(repeat' first|(refine sA rfl ?_ ?_;first|exact tI|omega) |(refine s4 rfl ‹_› rfl ?_ ?_;omega) |refine sP rfl (hla) rfl ?_|(refine Ag rfl ?_;refine gA rfl ?_;first| refine gS (fun _ _=>Ea rfl ra) ?_) |refine aU rfl ?_ |refine Aa ?_ |refine rE (by kernel_rfl) ?_|(refine aC rfl ?_ ?_<;>rintro⟨⟩)|refine aK ?_|refine aE ?_|refine aB ?_|refine aR ⟨_,rfl,?_⟩)
   refine⟨⟨k+1,by omega⟩,by dsimp only;(omega),[0,1],?_⟩
   simp[cX,zC,hΓ,hr]
  ·exfalso;(simp only[oZ] at *;omega)
 ·obtain rfl : k=w.length:=by omega
  rw [List.take_length] at *
  (repeat first|refine s2 rfl fun _ _hb=>?_ |refine aU rfl ?_ |refine Aa ?_)
  (refine aC rfl ?_ ?_<;>rintro⟨⟩)
  ·exfalso;(simp only[oZ] at *;omega)
  ·refine aE ?_
   have hacx:((AO L al t).ac.map Gq)[(((runM L t 0 w:Nat):Int)).toNat]? = some (Gq (Ht L t w)):=by
    unfold Ht
    simp [AO,List.getD,hrn]
   (repeat first|refine tA rfl ?_ |(refine s4 rfl ‹_› rfl ?_ ?_;omega) |refine s2 rfl fun _ _hb=>?_|(refine Ag rfl ?_;refine gA rfl ?_;first| refine gS (fun _ _=>hc.ask rfl rfl hokw) ?_) |refine aU rfl ?_ |refine Aa ?_)
   (refine aC rfl ?_ ?_<;>rintro⟨⟩)
   ·have hn:BT L t w=none:=by unfold BT;rw [if_pos (by simpa using _hb)]
    (repeat first|refine tA rfl ?_ |refine aU rfl ?_ |refine Aa ?_)
    refine aR ⟨_,rfl,?_⟩
    rw [hn];rfl
   ·have hso:BT L t w=splitAt L t (L w) 0 w:=by unfold BT;rw [if_neg (by simpa using _hb)]
    rw [hso]
    refine aK ?_
    (repeat first|refine tA rfl ?_ |refine aU rfl ?_ |refine Aa ?_)
    refine aB ?_
    refine aL (α:={k:Nat // k≤w.length∧splitAt L t (L w) 0 w=splitAt L t (L w) (runM L t 0 (w.take k)) (w.drop k)}) [2,3,4,9,12,45] [0] rfl rfl (fun ⟨k,hk,he⟩=>[(10,eI .i64 (runM L t 0 (w.take k):Nat)),(46,eI .i64 k)]) (fun ⟨k,hk,he⟩=>[]) 1 (fun ⟨k,hk,he⟩=>w.length - k) (⟨0,by omega,rfl⟩) hΓ rfl (by (simp[cX,zC,hΓ,hr]<;>rfl)) ?_;rintro⟨k,hk,he⟩;(try dsimp only[cA,cB])
    have hrn:=hcl.run (w.take k) 0 (FM hw k) h0
    by_cases hlt:k < w.length
    ·obtain⟨c2,hc2⟩:=get_some hlt
     have hc':w[((k:Nat):Int).toNat]? = some c2:=by simpa using hc2
     have hcm:=hw c2 (List.mem_of_getElem? hc2)
     have hcn:=FF hcm
     have hla:=EE (TB:=TB) w k c2 hc' hcn
     have ta:=He (a:=AO L al t) (q:=(((runM L t 0 (w.take k):Nat):Int)).toNat) (by omega)
     have el:((((c2.toNat:Int) - 97).toNat:Nat):Int)=(c2.toNat:Int) - 97:=by omega
     have ra:=Fh (h:=fun l=>Bo (AO L al t) (((runM L t 0 (w.take k):Nat):Int)).toNat l) hcn.1 (by omega)
     simp only [el] at ra
     have hga:=Im (L:=L) (al:=al) (t:=t) (q:=runM L t 0 (w.take k)) hrn hcm
     have hst:=Jv (L:=L) (t:=t) hc2 0
     have hrn2:=hcl.run (w.take (k+1)) 0 (FM hw (k+1)) h0
     rw [IL hc2,←hst] at he
     rw [←hst] at hga
     rw [Int.toNat_natCast,hga] at ra
     generalize hq2:runM L t 0 (w.take (k+1))=q2 at *
     obtain⟨r2,hr2⟩:=get_some (l:=t.rows) (k:=q2) hrn2
     have hr2':=get_map (g:=BC) hr2
     have hgd:t.rows.getD q2 []=r2:=by simp [List.getD,hr2]
     rw [hgd] at he
     have hrb:=ht.onR r2 (List.mem_of_getElem? hr2)
     have hdl:(w.drop (k+1)).length=w.length - (k+1):=List.length_drop
     have hokv:=hfs (r2++w.drop (k+1)) ⟨r2,.inr (List.mem_of_getElem? hr2),k+1,rfl⟩
     have hk1:(((k:Nat):Int)+1).toNat=k+1:=by omega
     (repeat first|refine s2 rfl fun _ _hb=>?_ |refine aU rfl ?_ |refine Aa ?_)
     (refine aC rfl ?_ ?_<;>rintro⟨⟩)
     ·refine aK ?_
      refine aS (aB ?_)
      (repeat first|(refine sA rfl ?_ ?_;first|exact tI|omega) |(refine s4 rfl ‹_› rfl ?_ ?_;omega) |refine sP rfl (hla) rfl ?_|(refine Ag rfl ?_;refine gA rfl ?_;first| refine gS (fun _ _=>Ea rfl ra) ?_) |refine aU rfl ?_ |refine Aa ?_ |refine rE (by kernel_rfl) ?_)
      (repeat first| (refine Ag rfl ?_;refine gA rfl ?_;first| refine gS (fun _ _=>Dd rfl rfl (by omega) (by omega)) ?_))
      rw [hk1]
      (repeat first|(refine sA rfl ?_ ?_;first|exact tI|omega) |refine s2 rfl fun _ _hb=>?_|(refine Ag rfl ?_;refine gA rfl ?_;first| refine gS (fun _ _=>hc.ask rfl rfl hokv) ?_) |refine Aa ?_)
      (refine aC rfl ?_ ?_<;>rintro⟨⟩)
      ·rw [if_pos (by simpa using _hb)] at he
       (repeat first|(refine sA rfl ?_ ?_;first|exact tI|omega)|(refine Ag rfl ?_;refine gA rfl ?_;first| refine gS (fun _ _=>Dd rfl rfl (by omega) (by omega)) ?_) |refine aU rfl ?_ |refine Aa ?_)
       refine aR ⟨_,rfl,?_⟩
       rw [hk1,he];rfl
      ·rw [if_neg (by simpa using _hb)] at he
       refine aK ?_
       (repeat first|(refine sA rfl ?_ ?_;first|exact tI|omega) |refine aU rfl ?_ |refine Aa ?_)
       subst hq2
       refine⟨⟨k+1,by omega,he⟩,by dsimp only;(omega),[0],?_⟩
       simp[cX,zC,hΓ,hr]
     ·exfalso;(simp only[oZ] at *;omega)
    ·obtain rfl:k=w.length:=by omega
     rw [List.drop_length] at he
     (repeat first|refine s2 rfl fun _ _hb=>?_ |refine aU rfl ?_ |refine Aa ?_)
     (refine aC rfl ?_ ?_<;>rintro⟨⟩)
     ·exfalso;(simp only[oZ] at *;omega)
     ·refine aE ?_
      (repeat first|refine tA rfl ?_ |refine aU rfl ?_ |refine Aa ?_)
      refine aR ⟨_,rfl,?_⟩
      rw [he];rfl
theorem Ev.dg{ok:W→Prop}{al:Int}{t:AZ}(ht:Ev al 20012 t)(hf:Fq ok al){w:W}(hw:Ay (AR al) w)(hwl:w.length≤20000):∀v,TT t w v→ok v:=by
 rintro v ⟨r,hr,k,rfl⟩
 have h1:Ay (AR al) r∧r.length≤20012:=by
  rcases hr with rfl|hr
  ·exact⟨fun c hc=>by simp at hc,by simp⟩
  ·exact ht.onR r hr
 refine hf _ (fun c hc=>?_) (by simp;omega)
 rcases List.mem_append.1 hc with hc|hc
 ·exact h1.1 c hc
 ·exact WV hw _ c hc
def Hr(L:W→Bool)(ls:List UInt8)(t:AZ)(w:W):Option AZ:=(BT L t w).bind fun v=>(EL t v).bind fun u=>A8 L ls 13 u
theorem JR{L:W→Bool}{t:AZ}{b:Bool}:∀ {w:W} {q:Nat} {v:W},splitAt L t b q w=some v→∃p,p≠[]∧w=p++v
 | [],q,v,h=>by simp [splitAt] at h
 | c::w,q,v,h=>by
  unfold splitAt at h
  split at h
  ·injection h with h;subst h;exact⟨[c],by simp,rfl⟩
  ·obtain⟨p,_,h2⟩:=JR h;exact⟨c::p,by simp,by rw [h2];rfl⟩
theorem HQ{L:W→Bool}{t:AZ}{w v:W}(h:BT L t w=some v):∃p,p≠[]∧w=p++v:=by
 unfold BT at h
 split at h
 ·cases h
 ·exact JR h
theorem Ev.mono{al:Int}{b b':Nat}{t:AZ}(h:Ev al b t)(hb:b≤b'):Ev al b' t:=⟨fun w hw=>⟨(h.onR w hw).1,Nat.le_trans (h.onR w hw).2 hb⟩,h.onC,h.rl,h.cl⟩
theorem QS{al:Int}{b:Nat}{t u:AZ}{v:W}(h:Ev al b t)(hv:Ay (AR al) v)(hl:v.length≤20000)(ha:EL t v=some u):Ev al b u:=by
 unfold EL at ha
 split at ha
 ·cases ha
 ·rename_i hn
  injection ha with ha
  subst ha
  refine⟨h.onR,fun x hx=>?_,h.rl,?_⟩
  ·rcases List.mem_append.1 hx with hx|hx
   ·exact h.onC x hx
   ·simp at hx;subst hx;exact⟨hv,hl⟩
  ·have:=h.cl
   have h2:t.cols.length≠20:=fun e=>hn (.inl e)
   simp;omega
def ZE(L:W→Bool)(ls:List UInt8)(t:AZ)(w v:W):Prop:=TU ls t v∨TT t w v∨∃x,BT L t w=some x∧∃u,EL t x=some u∧∃y∈Gc L ls 13 u,TU ls y v
theorem LZ{c:C}{L:W→Bool}{ok:W→Prop}(hc:Gf Tryz.prog TB c L ok)(al:Int)(t:AZ)(ht:Ev al 20000 t)(hal:BI al=true)(hcl:A7 L (AR al) t)(ho:A0 L (AR al) t=none)(w:W)(hf:∀v,ZE L (AR al) t w v→ok v)(hw:Ay (AR al) w)(hwl:w.length≤20000) :
 Pure Tryz.prog TB 117 [EP al c,CB t,eT w] (Gb (Hr L (AR al) t w)):=by
 have hr:=CX c hc.BK
 have hpu1:([EP al c,CB t,eT w].all E.BK && C.Cr [])=true:=by simp [E.BK,C.Cr,C.BK,hc.BK]
 have hsp:=Mg (TB:=TB) hc al t (fun v hv=>hf v (.inl hv)) (ht.mono (by omega)) hal hcl ho w (fun v hv=>hf v (.inr (.inl hv))) hw hwl
 have hrl:=ht.rl
 have hcl2:=ht.cl
 rcases hs:BT L t w with _|v
 ·have hn:Hr L (AR al) t w=none:=by unfold Hr;rw [hs];rfl
  rw [hn]
  rw [hs] at hsp
  refine Bl.E2 (Bl.ofM 2 (Nat.le_refl _) Tryz.func117 rfl rfl (by kernel_rfl) (Nat.le_of_ble_eq_true rfl) ?_);intro Γ hΓ
  (repeat first|refine aU rfl ?_)
  (refine pW rfl ?_ rfl (by rfl);refine CG rfl rfl ?_)
  (refine pW rfl ?_ rfl (by rfl);refine CG rfl rfl ?_)
  (repeat first|refine tA rfl ?_ |refine aU rfl ?_ |refine Aa ?_)
  (repeat first|refine tA rfl ?_ |refine s2 rfl fun _ _hb=>?_|(refine Ag rfl ?_;refine gA rfl ?_;first| refine gS (fun _ _=>BE rfl rfl hpu1 hsp rfl) ?_) |refine aU rfl ?_ |refine Aa ?_)
  ((refine aC rfl ?_ ?_<;>rintro⟨⟩);all_goals try (simp at _hb;done))
  (repeat first|refine tA rfl ?_|(refine Ag rfl ?_;refine gA rfl ?_;first| refine gS (fun _ _=>AK rfl rfl (by rfl) (by rfl)) ?_) |refine aU rfl ?_ |refine Aa ?_)
  refine Ak.settle [(6,.o (.ip [.l [],.l []])),(7,eB false)] ⟨⟨_,rfl,.o (.box rfl (.cons .d (.cons .d .nil)))⟩,⟨_,rfl,.o .d⟩,trivial⟩ ?_
  refine aR ⟨_,rfl,rfl⟩
 ·have hsuf:=HQ hs
  have hvw:Ay (AR al) v∧v.length≤20000:=by
   obtain⟨p,_,rfl⟩:=hsuf
   exact⟨fun c hc=>hw c (by simp [hc]),by simp at hwl;omega⟩
  have hac:=Nc (TB:=TB) t v (by omega) (by omega)
  rw [hs] at hsp
  rcases ha:EL t v with _|u
  ·have hn:Hr L (AR al) t w=none:=by unfold Hr;rw [hs];simp [ha]
   rw [hn]
   rw [ha] at hac
   refine Bl.E2 (Bl.ofM 2 (Nat.le_refl _) Tryz.func117 rfl rfl (by kernel_rfl) (Nat.le_of_ble_eq_true rfl) ?_);intro Γ hΓ
   (repeat first|refine aU rfl ?_)
   (refine pW rfl ?_ rfl (by rfl);refine CG rfl rfl ?_)
   (refine pW rfl ?_ rfl (by rfl);refine CG rfl rfl ?_)
   (repeat first|refine tA rfl ?_ |refine aU rfl ?_ |refine Aa ?_)
   (repeat first|refine tA rfl ?_ |refine s2 rfl fun _ _hb=>?_|(refine Ag rfl ?_;refine gA rfl ?_;first| refine gS (fun _ _=>BE rfl rfl hpu1 hsp rfl) ?_) |refine aU rfl ?_ |refine Aa ?_)
   ((refine aC rfl ?_ ?_<;>rintro⟨⟩);all_goals try (simp at _hb;done))
   refine aK ?_
   (repeat first|refine tA rfl ?_ |refine s2 rfl fun _ _hb=>?_ |refine sP rfl (hac) rfl ?_ |refine aU rfl ?_ |refine Aa ?_)
   ((refine aC rfl ?_ ?_<;>rintro⟨⟩);all_goals try (simp at _hb;done))
   (repeat first|refine tA rfl ?_|(refine Ag rfl ?_;refine gA rfl ?_;first| refine gS (fun _ _=>AK rfl rfl (by rfl) (by rfl)) ?_) |refine aU rfl ?_ |refine Aa ?_)
   refine Ak.settle [(6,.o (.ip [.l [],.l []])),(7,eB false)] ⟨⟨_,rfl,.o (.box rfl (.cons .d (.cons .d .nil)))⟩,⟨_,rfl,.o .d⟩,trivial⟩ ?_
   refine aR ⟨_,rfl,rfl⟩
  ·have hu:=QS ht hvw.1 hvw.2 ha
   have hct:=Gu (TB:=TB) hc al u (fun y hy v hv=>hf v (.inr (.inr ⟨_,hs,_,ha,y,hy,hv⟩))) hu
   have hpu2:([EP al c,CB u].all E.BK && C.Cr [])=true:=by simp [E.BK,C.Cr,C.BK,hc.BK]
   have hn:Hr L (AR al) t w=A8 L (AR al) 13 u:=by unfold Hr;rw [hs];simp [ha]
   rw [hn]
   rw [ha] at hac
   rcases hcn:A8 L (AR al) 13 u with _|x
   ·rw [hcn] at hct
    refine Bl.E2 (Bl.ofM 2 (Nat.le_refl _) Tryz.func117 rfl rfl (by kernel_rfl) (Nat.le_of_ble_eq_true rfl) ?_);intro Γ hΓ
    (repeat first|refine aU rfl ?_)
    (refine pW rfl ?_ rfl (by rfl);refine CG rfl rfl ?_)
    (refine pW rfl ?_ rfl (by rfl);refine CG rfl rfl ?_)
    (repeat first|refine tA rfl ?_ |refine aU rfl ?_ |refine Aa ?_)
    (repeat first|refine tA rfl ?_ |refine s2 rfl fun _ _hb=>?_|(refine Ag rfl ?_;refine gA rfl ?_;first| refine gS (fun _ _=>BE rfl rfl hpu1 hsp rfl) ?_) |refine aU rfl ?_ |refine Aa ?_)
    ((refine aC rfl ?_ ?_<;>rintro⟨⟩);all_goals try (simp at _hb;done))
    refine aK ?_
    (repeat first|refine tA rfl ?_ |refine s2 rfl fun _ _hb=>?_ |refine sP rfl (hac) rfl ?_ |refine aU rfl ?_ |refine Aa ?_)
    ((refine aC rfl ?_ ?_<;>rintro⟨⟩);all_goals try (simp at _hb;done))
    refine aK ?_
    (repeat first|refine tA rfl ?_|(refine Ag rfl ?_;refine gA rfl ?_;first| refine gS (fun _ _=>BE rfl rfl hpu2 hct rfl) ?_) |refine aU rfl ?_ |refine Aa ?_)
    refine Ak.settle [(6,.o (.ip [.l [],.l []])),(7,eB false)] ⟨⟨_,rfl,.o (.box rfl (.cons .d (.cons .d .nil)))⟩,⟨_,rfl,.o .d⟩,trivial⟩ ?_
    refine aR ⟨_,rfl,rfl⟩
   ·rw [hcn] at hct
    refine Bl.E2 (Bl.ofM 2 (Nat.le_refl _) Tryz.func117 rfl rfl (by kernel_rfl) (Nat.le_of_ble_eq_true rfl) ?_);intro Γ hΓ
    (repeat first|refine aU rfl ?_)
    (refine pW rfl ?_ rfl (by rfl);refine CG rfl rfl ?_)
    (refine pW rfl ?_ rfl (by rfl);refine CG rfl rfl ?_)
    (repeat first|refine tA rfl ?_ |refine aU rfl ?_ |refine Aa ?_)
    (repeat first|refine tA rfl ?_ |refine s2 rfl fun _ _hb=>?_|(refine Ag rfl ?_;refine gA rfl ?_;first| refine gS (fun _ _=>BE rfl rfl hpu1 hsp rfl) ?_) |refine aU rfl ?_ |refine Aa ?_)
    ((refine aC rfl ?_ ?_<;>rintro⟨⟩);all_goals try (simp at _hb;done))
    refine aK ?_
    (repeat first|refine tA rfl ?_ |refine s2 rfl fun _ _hb=>?_ |refine sP rfl (hac) rfl ?_ |refine aU rfl ?_ |refine Aa ?_)
    ((refine aC rfl ?_ ?_<;>rintro⟨⟩);all_goals try (simp at _hb;done))
    refine aK ?_
    (repeat first|refine tA rfl ?_|(refine Ag rfl ?_;refine gA rfl ?_;first| refine gS (fun _ _=>BE rfl rfl hpu2 hct rfl) ?_) |refine aU rfl ?_ |refine Aa ?_)
    refine Ak.settle [(6,.o (.ip [A5 x.rows,A5 x.cols])),(7,eB true)] ⟨⟨_,rfl,.o (.box rfl (.cons .d (.cons .d .nil)))⟩,⟨_,rfl,.o .d⟩,trivial⟩ ?_
    refine aR ⟨_,rfl,rfl⟩
theorem Nr{c:C}{L:W→Bool}{ok:W→Prop}(hc:Gf Tryz.prog TB c L ok)(al:Int)(t:AZ)(hf:Fq ok al)(ht:Ev al 20000 t)(hal:BI al=true)(hcl:A7 L (AR al) t)(ho:A0 L (AR al) t=none)(w:W)(hw:Ay (AR al) w)(hwl:w.length≤20000) :
 Pure Tryz.prog TB 117 [EP al c,CB t,eT w] (Gb (Hr L (AR al) t w)):=by
 refine LZ hc al t ht hal hcl ho w (fun v hv=>?_) hw hwl
 rcases hv with hv|hv|⟨x,hx,u,hu,y,hy,hv⟩
 ·exact ht.on hf (by omega) v hv
 ·exact(ht.mono (by omega)).dg hf hw hwl v hv
 ·obtain⟨p,_,rfl⟩:=HQ hx
  exact(QS ht (fun c hc=>hw c (by simp [hc])) (by simp at hwl;omega) hu).cP hf (by omega) y hy v hv
abbrev bg(kn:Bool)(p:AP)(s:Sys)(q:AP)(al:Int):E:=.a ((VV kn p s q al).map .d)
theorem Ge(p:AP)(s:Sys)(q:AP)(al:Int):Pure Tryz.prog TB 144 [bg true p s q al] (eI .i64 (if AF p then p.al else -1)):=by
 refine eN Tryz.func144 rfl (by kernel_rfl) rfl ?_;intro Γ hΓ
 (repeat' first|refine tA rfl ?_ |refine s2 rfl fun _ _hb=>?_ |(refine sC rfl (Bv p) ?_;intro _ _hb) |refine s3 rfl ?_ ?_<;>rintro rfl |refine aU rfl ?_ |refine Aa ?_|(refine aC rfl ?_ ?_<;>rintro⟨⟩)|refine aK ?_|refine aE ?_|refine aB ?_|refine aR ⟨_,rfl,?_⟩)
 all_goals first
  | (show E.o _=E.o _;congr;grind)
  | (exfalso;simp at *;done)
abbrev ZD(kn:Bool)(p:AP)(s:Sys)(q:AP)(al:Int):C:=.fn 145 [.ip [.l (Es p)],.ip (VV kn p s q al)]
theorem TS{p:AP}(hp:AF p=true)(s:Sys)(q:AP)(al:Int)(kn:Bool):Gf Tryz.prog TB (ZD kn p s q al) (LA p) (fun w=>Ay (AR p.al) w∧w.length≤1048576):=
 .of rfl fun w hw=>Ww hp s q al kn w hw.1 hw.2
theorem KP(p:AP):Fq (fun w=>Ay (AR p.al) w∧w.length≤1048576) p.al:=fun w h1 h2=>⟨h1,by omega⟩
theorem Hp{p:AP}(hp:AF p=true)(s:Sys)(q:AP)(al:Int):Pure Tryz.prog TB 75 [bg true p s q al] (.t [(true,[.d (iD p.al),ZD true p s q al]),(false,[.d (bD true)])]):=by
 have hT:=Ge (TB:=TB) p s q al
 rw [if_pos hp] at hT
 have h0:=Al hp
 have ha:=h0.1
 unfold BI at ha
 simp only [decide_eq_true_eq] at ha
 have htb:=FW (TB:=TB) p hp
 refine eG Tryz.func75 rfl (by kernel_rfl) rfl ?_;intro Γ hΓ
 (repeat first|refine tA rfl ?_ |refine sP rfl (hT) rfl ?_ |refine aU rfl ?_ |refine Aa ?_)
 refine aB ?_
 (repeat first|refine tA rfl ?_ |refine s2 rfl fun _ _hb=>?_ |refine aU rfl ?_ |refine Aa ?_)
 ((refine aC rfl ?_ ?_<;>rintro⟨⟩);all_goals try (simp at _hb;done))
 ·exfalso;(simp only[oZ] at *;omega)
 ·(repeat first|refine tA rfl ?_ |refine aU rfl ?_ |refine Aa ?_)
  ((refine aC rfl ?_ ?_<;>rintro⟨⟩);all_goals try (simp at _hb;done))
  refine aS ?_
  refine bF (by kernel_rfl) ?_;(repeat first|refine tA rfl ?_ |refine sP rfl (htb) rfl ?_);refine Aa ?_
  refine aS ?_
  refine Ak.DS [1] [1,2,3,4] rfl [(5,.o (.ip [.l (Es p)]))] ⟨⟨_,rfl,.o (.ptr (by simp) rfl rfl rfl)⟩,trivial⟩ ?_;(try dsimp only[cA,cB])
  (repeat first|refine tA rfl ?_|(refine Ag rfl ?_;refine gA rfl ?_;first| refine gS (fun _ _=>AK rfl rfl (by rfl) (by rfl)) ?_) |refine aU rfl ?_ |refine Aa ?_)
  refine aR ⟨_,rfl,rfl⟩
theorem Mc{p:AP}(hp:AF p=false)(s:Sys)(q:AP)(al:Int):Pure Tryz.prog TB 75 [bg true p s q al] (.t [(true,[.d (iD 0),.d (.v .nilFunc)]),(false,[.d (bD false)])]):=by
 have hT:=Ge (TB:=TB) p s q al
 rw [if_neg (by simp [hp])] at hT
 refine eG Tryz.func75 rfl (by kernel_rfl) rfl ?_;intro Γ hΓ
 (repeat first|refine tA rfl ?_ |refine sP rfl (hT) rfl ?_ |refine aU rfl ?_ |refine Aa ?_)
 refine aB ?_
 (repeat first|refine tA rfl ?_ |refine s2 rfl fun _ _hb=>?_ |refine aU rfl ?_ |refine Aa ?_)
 ((refine aC rfl ?_ ?_<;>rintro⟨⟩);all_goals try (simp at _hb;done))
 ·(repeat first|refine tA rfl ?_|(refine Ag rfl ?_;refine gA rfl ?_;first| refine gS (fun _ _=>AK rfl rfl (by rfl) (by rfl)) ?_) |refine aU rfl ?_ |refine Aa ?_)
  refine aR ⟨_,rfl,rfl⟩
abbrev VS:Sys:=⟨0,0,[]⟩
abbrev TW:AP:=⟨0,[],[]⟩
theorem A7.Kr{L:W→Bool}{ls:List UInt8}{t:AZ}(h:A7 L ls t):A0 L ls t=none:=List.find?_eq_none.2 fun w hw=>by
 unfold BO at hw
 simp only [List.mem_flatMap,List.mem_map] at hw
 obtain⟨r,hr,l,hl,rfl⟩:=hw
 simpa using h.cl r hr l hl
theorem IN{p:AP}(hp:AF p=true){k:Nat}(hk:k≤Bf p):Ev p.al 20000 (AW p k):=by
 obtain⟨h1,h2,h3,h4,h5⟩:=Dz hp k hk
 have h6:=(Ch hp).1
 refine⟨fun w hw=>⟨h1.onR w hw,?_⟩,fun x hx=>⟨h1.onC x hx,by have:=h5 x hx;omega⟩,h3,by omega⟩
 obtain⟨i,hi,he⟩:=List.getElem_of_mem hw
 have:=h1.toTOk.short i w (by rw [List.getElem?_eq_getElem hi,he])
 omega
theorem Qz{L:W→Bool}{ls:List UInt8}{t t':AZ}{w v:W}(h:Next L ls t w v t')(hd:Ht L t w≠L w)(hc:t.cols.length < 20):Hr L ls t w=some t':=by
 unfold Hr BT
 rw [if_neg hd,h.split]
 simp only [Option.bind_some]
 unfold EL
 rw [if_neg (by intro he;rcases he with he|he;omega;exact h.new he)]
 exact h.close
noncomputable def BG(p:AP):AZ:=if AF p then AW p (Bf p) else ⟨[],[]⟩
noncomputable def Ds(p:AP):Int:=if AF p then (Bf p:Int)+1 else 0
theorem MD(p:AP):Pure Tryz.prog TB 122 [A2 p,.o (.d (.v .nilFunc))] (.t [(true,[.d (A5 (BG p).rows),.d (A5 (BG p).cols)]),(false,[.d (iD (Ds p))])]):=by
 by_cases hp:AF p=true
 ·have hno:=Hp (TB:=TB) hp VS TW 0
  have hV:=TS (TB:=TB) hp VS TW 0 true
  have hf:=KP p
  have hnt:=OR (TB:=TB) hV p.al hf
  rw [(IP hp).1] at hnt
  have hLT:BG p=AW p (Bf p):=by unfold BG;rw [if_pos hp]
  have hLN:Ds p=(Bf p:Int)+1:=by unfold Ds;rw [if_pos hp]
  rw [hLT,hLN]
  have hl12:=(Ch hp).1
  refine eG Tryz.func122 rfl (by kernel_rfl) rfl ?_;intro Γ hΓ
  (repeat first |refine sN rfl ?_ |((first|refine sA rfl ?_ ?_|refine s4 rfl ‹_› rfl ?_ ?_);first|exact tI|omega|simp only[oZ] at *;omega) |refine s2 rfl fun _ _hb=>?_ |refine sP rfl (hno) rfl ?_|(refine Ag rfl ?_;refine gA rfl ?_;first|refine gS (fun _ _=>AK rfl rfl (by rfl) (by rfl)) ?_) |refine s3 rfl ?_ ?_<;>rintro rfl |refine aU rfl ?_ |refine Aa ?_)
  ((refine aC rfl ?_ ?_<;>rintro⟨⟩);all_goals try (simp at _hb;done))
  refine aK ?_
  (repeat first |refine sN rfl ?_ |((first|refine sA rfl ?_ ?_|refine s4 rfl ‹_› rfl ?_ ?_);first|exact tI|omega|simp only[oZ] at *;omega) |refine s2 rfl fun _ _hb=>?_ |refine sP rfl (hnt) rfl ?_ |refine s3 rfl ?_ ?_<;>rintro rfl |refine aU rfl ?_ |refine Aa ?_)
  refine aB ?_
  refine aL (α:={k:Nat // k≤Bf p}) [1,2,4,6,8] [0,1] rfl rfl (fun ⟨k,hk⟩=>[(10,eI .i64 ((k:Int)+1))]) (fun ⟨k,hk⟩=>[(2,.cells 38 2 [[.d (A5 (AW p k).rows),.d (A5 (AW p k).cols)]])]) 3 (fun ⟨k,hk⟩=>Bf p - k) (⟨0,by omega⟩) hΓ rfl (by ((repeat' first|exact tI|rfl|refine And.intro ?_ ?_)<;>(simp[cX,zC,hΓ]<;>rfl))) ?_;rintro⟨k,hk⟩;(try dsimp only[cA,cB])
  obtain⟨h1,h2,h3,h4,h5⟩:=Dz hp k hk
  have hbd:=IN hp hk
  have hau:=Nf (TB:=TB) hV p.al (AW p k) hf (hbd.mono (by omega)) h1.Kr
  have hdf:=J0 (TB:=TB) (AO (LA p) p.al (AW p k)) p
  refine aS (aB ?_)
  by_cases hlt:k < Bf p
  ·obtain⟨w,v,hw,hN⟩:=Jw hp hlt
   have hwd:=hw
   unfold HR at hwd
   obtain⟨u,hu,hut⟩:=Option.map_eq_some_iff.1 hwd
   obtain⟨hon,hne⟩:=(LG p).on _ w hw h1
   have hsh:=Hg hw
   have hls:=Nr (TB:=TB) hV p.al (AW p k) hf hbd (Al hp).1 h1 h1.Kr w hon (by omega)
   rw [Qz hN hne (by omega)] at hls
   rw [hu] at hdf
   rw [←hut] at hls
   (repeat first |refine sN rfl ?_ |((first|refine sA rfl ?_ ?_|refine s4 rfl ‹_› rfl ?_ ?_);first|exact tI|omega|simp only[oZ] at *;omega) |refine s2 rfl fun _ _hb=>?_ |refine sP rfl (hau) rfl ?_ |refine s3 rfl ?_ ?_<;>rintro rfl |refine aU rfl ?_ |refine Aa ?_)
   (repeat first |refine sN rfl ?_ |((first|refine sA rfl ?_ ?_|refine s4 rfl ‹_› rfl ?_ ?_);first|exact tI|omega|simp only[oZ] at *;omega) |refine s2 rfl fun _ _hb=>?_|(refine Ag rfl ?_;refine gA rfl ?_;first|refine gS (fun _ _=>RJ rfl rfl) ?_) |refine s3 rfl ?_ ?_<;>rintro rfl |refine aU rfl ?_ |refine Aa ?_)
   ((refine aC rfl ?_ ?_<;>rintro⟨⟩);all_goals try (simp at _hb;done))
   refine aK ?_
   (repeat first |refine sN rfl ?_ |((first|refine sA rfl ?_ ?_|refine s4 rfl ‹_› rfl ?_ ?_);first|exact tI|omega|simp only[oZ] at *;omega) |refine s2 rfl fun _ _hb=>?_ |refine sP rfl (hdf) rfl ?_ |refine s3 rfl ?_ ?_<;>rintro rfl |refine aU rfl ?_ |refine Aa ?_)
   ((refine aC rfl ?_ ?_<;>rintro⟨⟩);all_goals try (simp at _hb;done))
   refine aK ?_
   (repeat first |refine sN rfl ?_ |((first|refine sA rfl ?_ ?_|refine s4 rfl ‹_› rfl ?_ ?_);first|exact tI|omega|simp only[oZ] at *;omega) |refine s2 rfl fun _ _hb=>?_ |refine sP rfl (hls) rfl ?_ |refine s3 rfl ?_ ?_<;>rintro rfl |refine aU rfl ?_ |refine Aa ?_)
   refine⟨⟨k+1,by first|omega|simp only[oZ] at *;omega⟩,by dsimp only;(first|omega|simp only[oZ] at *;omega),[0,1,2],?_⟩
   simp[cX,zC,hΓ]
  ·obtain rfl:k=Bf p:=by omega
   have hwd:=(Ch hp).2.1
   unfold HR at hwd
   rw [Option.map_eq_none_iff.1 hwd] at hdf
   (repeat first |refine sN rfl ?_ |((first|refine sA rfl ?_ ?_|refine s4 rfl ‹_› rfl ?_ ?_);first|exact tI|omega|simp only[oZ] at *;omega) |refine s2 rfl fun _ _hb=>?_ |refine sP rfl (hau) rfl ?_ |refine s3 rfl ?_ ?_<;>rintro rfl |refine aU rfl ?_ |refine Aa ?_)
   (repeat first |refine sN rfl ?_ |((first|refine sA rfl ?_ ?_|refine s4 rfl ‹_› rfl ?_ ?_);first|exact tI|omega|simp only[oZ] at *;omega) |refine s2 rfl fun _ _hb=>?_|(refine Ag rfl ?_;refine gA rfl ?_;first|refine gS (fun _ _=>RJ rfl rfl) ?_) |refine s3 rfl ?_ ?_<;>rintro rfl |refine aU rfl ?_ |refine Aa ?_)
   ((refine aC rfl ?_ ?_<;>rintro⟨⟩);all_goals try (simp at _hb;done))
   refine aK ?_
   (repeat first |refine sN rfl ?_ |((first|refine sA rfl ?_ ?_|refine s4 rfl ‹_› rfl ?_ ?_);first|exact tI|omega|simp only[oZ] at *;omega) |refine s2 rfl fun _ _hb=>?_ |refine sP rfl (hdf) rfl ?_ |refine s3 rfl ?_ ?_<;>rintro rfl |refine aU rfl ?_ |refine Aa ?_)
   ((refine aC rfl ?_ ?_<;>rintro⟨⟩);all_goals try (simp at _hb;done))
   (repeat first |refine sN rfl ?_ |((first|refine sA rfl ?_ ?_|refine s4 rfl ‹_› rfl ?_ ?_);first|exact tI|omega|simp only[oZ] at *;omega) |refine s2 rfl fun _ _hb=>?_ |refine s3 rfl ?_ ?_<;>rintro rfl |refine aU rfl ?_ |refine Aa ?_)
   refine aR ⟨_,rfl,rfl⟩
 ·have hLT:BG p=⟨[],[]⟩:=by unfold BG;rw [if_neg hp]
  have hLN:Ds p=0:=by unfold Ds;rw [if_neg hp]
  rw [hLT,hLN]
  have hno:=Mc (TB:=TB) (by simpa using hp) VS TW 0
  refine eG Tryz.func122 rfl (by kernel_rfl) rfl ?_;intro Γ hΓ
  (repeat first |refine sN rfl ?_ |((first|refine sA rfl ?_ ?_|refine s4 rfl ‹_› rfl ?_ ?_);first|exact tI|omega|simp only[oZ] at *;omega) |refine s2 rfl fun _ _hb=>?_ |refine sP rfl (hno) rfl ?_|(refine Ag rfl ?_;refine gA rfl ?_;first|refine gS (fun _ _=>AK rfl rfl (by rfl) (by rfl)) ?_) |refine s3 rfl ?_ ?_<;>rintro rfl |refine aU rfl ?_ |refine Aa ?_)
  ((refine aC rfl ?_ ?_<;>rintro⟨⟩);all_goals try (simp at _hb;done))
  (repeat first |refine sN rfl ?_ |((first|refine sA rfl ?_ ?_|refine s4 rfl ‹_› rfl ?_ ?_);first|exact tI|omega|simp only[oZ] at *;omega) |refine s2 rfl fun _ _hb=>?_|(refine Ag rfl ?_;refine gA rfl ?_;first|refine gS (fun _ _=>AK rfl rfl (by rfl) (by rfl)) ?_) |refine s3 rfl ?_ ?_<;>rintro rfl |refine aU rfl ?_ |refine Aa ?_)
  refine aR ⟨_,rfl,rfl⟩
theorem HC(p:AP):Pure Tryz.prog TB 65 [A2 p] (eI .i64 (Ds p)):=by
 have hl:=MD (TB:=TB) p
 refine eG Tryz.func65 rfl (by kernel_rfl) rfl ?_;intro Γ hΓ
 (repeat first |refine sN rfl ?_ |((first|refine sA rfl ?_ ?_|refine s4 rfl ‹_› rfl ?_ ?_);first|exact tI|omega|simp only[oZ] at *;omega) |refine s2 rfl fun _ _hb=>?_ |refine sP rfl (hl) rfl ?_ |refine s3 rfl ?_ ?_<;>rintro rfl |refine aU rfl ?_ |refine Aa ?_)
 refine aR ⟨_,rfl,rfl⟩
theorem Kj(w:W)(i:Nat)(c:UInt8)(hc:w[((i:Nat):Int).toNat]? = some c):Pure Tryz.prog TB 87 [eT w,eI .i64 i] (eI .i64 ((c.toNat:Int) - 97)):=by
 have hb:=c.toNat_lt
 refine eN Tryz.func87 rfl (by kernel_rfl) rfl ?_;intro Γ hΓ
 (repeat' first|(refine sA rfl ?_ ?_;first|exact tI|omega) |(refine s4 rfl ‹_› rfl ?_ ?_;omega) |refine aU rfl ?_ |refine Aa ?_|(refine aC rfl ?_ ?_<;>rintro⟨⟩)|refine aK ?_|refine aE ?_|refine aB ?_|refine aR ⟨_,rfl,?_⟩)
 rfl
theorem UC(n:Int)(h0:0≤n)(h1:n < 16):Pure Tryz.prog TB 231 [eI .i64 n] (eI .i64 ((2 ^ n.toNat:Nat):Int)):=by
 refine eN Tryz.func231 rfl (by kernel_rfl) rfl ?_;intro Γ hΓ
 (repeat' first|(refine sA rfl ?_ ?_;first|exact tI|omega)|(refine Ag rfl ?_;refine gA rfl ?_;first| refine gS (fun _ _=>aT rfl rfl h0 (Xo h0 h1)) ?_) |refine aU rfl ?_ |refine Aa ?_|(refine aC rfl ?_ ?_<;>rintro⟨⟩)|refine aK ?_|refine aE ?_|refine aB ?_|refine aR ⟨_,rfl,?_⟩)
 rfl
theorem Gs{c:UInt8}:Ew c=decide (0≤(c.toNat:Int) - 97∧(c.toNat:Int) - 97 < 6):=by
 unfold Ew
 rw [Bool.eq_iff_iff,decide_eq_true_eq,decide_eq_true_eq]
 omega
theorem NU(w:W)(hl:w.length≤1099511627776):Pure Tryz.prog TB 253 [eT w] (eB (Eu w)):=by
 by_cases h5:w.length≤50000
 ·have hwk : Eu w=w.all Ew:=by unfold Eu;simp [h5]
  rw [hwk]
  refine eN Tryz.func253 rfl (by kernel_rfl) rfl ?_;intro Γ hΓ
  (repeat first|refine tA rfl ?_ |refine s2 rfl fun _ _hb=>?_ |refine aU rfl ?_ |refine Aa ?_)
  (refine aC rfl ?_ ?_<;>rintro⟨⟩)
  ·exfalso;(simp only[oZ] at *;omega)
  refine aK ?_
  (repeat first|refine tA rfl ?_ |refine aU rfl ?_ |refine Aa ?_)
  refine aB ?_
  refine aL (α:={k:Nat // k≤w.length∧(w.take k).all Ew=true}) [0] [] rfl rfl (fun ⟨k,hk,ha⟩=>[(3,eI .i64 k)]) (fun ⟨k,hk,ha⟩=>[]) 0 (fun ⟨k,hk,ha⟩=>w.length - k) (⟨0,by omega,rfl⟩) hΓ rfl (by (simp[cX,zC,hΓ])) ?_;rintro⟨k,hk,ha⟩;(try dsimp only[cA,cB])
  by_cases hlt:k < w.length
  ·obtain⟨c,hc⟩:=get_some hlt
   have hc':w[((k:Nat):Int).toNat]? = some c:=by simpa using hc
   have hla:=Kj (TB:=TB) w k c hc'
   have hcn:=Gs (c:=c)
   by_cases hcc:Ew c=true
   ·have hst:=Ej hc ha hcc
    rw [hcn] at hcc
    simp only [decide_eq_true_eq] at hcc
    (repeat first|refine tA rfl ?_ |refine s2 rfl fun _ _hb=>?_ |refine aU rfl ?_ |refine Aa ?_)
    (refine aC rfl ?_ ?_<;>rintro⟨⟩)
    ·(repeat' first|(refine sA rfl ?_ ?_;first|exact tI|omega) |refine s2 rfl fun _ _hb=>?_ |refine sP rfl (hla) rfl ?_ |refine s3 rfl ?_ ?_<;>rintro rfl |refine aU rfl ?_ |refine Aa ?_|(refine aC rfl ?_ ?_<;>rintro⟨⟩)|refine aK ?_|refine aE ?_|refine aB ?_|refine aR ⟨_,rfl,?_⟩)
     ·exfalso;(simp only[oZ] at *;omega)
     ·exfalso;(simp only[oZ] at *;omega)
     ·refine⟨⟨k+1,by omega,hst⟩,by dsimp only;(omega),[],?_⟩
      simp[cX,zC,hΓ]
    ·exfalso;(simp only[oZ] at *;omega)
   ·have hst:=Ft hc (f:=Ew) (by simpa using hcc)
    rw [hcn] at hcc
    simp only [decide_eq_true_eq] at hcc
    (repeat first|refine tA rfl ?_ |refine s2 rfl fun _ _hb=>?_ |refine aU rfl ?_ |refine Aa ?_)
    (refine aC rfl ?_ ?_<;>rintro⟨⟩)
    ·(repeat' first|(refine sA rfl ?_ ?_;first|exact tI|omega) |refine s2 rfl fun _ _hb=>?_ |refine sP rfl (hla) rfl ?_ |refine s3 rfl ?_ ?_<;>rintro rfl |refine aU rfl ?_ |refine Aa ?_|(refine aC rfl ?_ ?_<;>rintro⟨⟩)|refine aK ?_|refine aE ?_|refine aB ?_|refine aR ⟨_,rfl,?_⟩)
     ·rw [hst]
     ·rw [hst]
     ·exfalso;(simp only[oZ] at *;omega)
    ·exfalso;(simp only[oZ] at *;omega)
  ·have hd:=Ei ha (show w.length≤k by omega)
   (repeat first|refine tA rfl ?_ |refine s2 rfl fun _ _hb=>?_ |refine aU rfl ?_ |refine Aa ?_)
   (refine aC rfl ?_ ?_<;>rintro⟨⟩)
   ·exfalso;(simp only[oZ] at *;omega)
   ·(repeat' first|refine tA rfl ?_ |refine aU rfl ?_ |refine Aa ?_|(refine aC rfl ?_ ?_<;>rintro⟨⟩)|refine aK ?_|refine aE ?_|refine aB ?_|refine aR ⟨_,rfl,?_⟩)
    rw [hd]
 ·have hwk:Eu w=false:=by unfold Eu;simp [h5]
  rw [hwk]
  refine eN Tryz.func253 rfl (by kernel_rfl) rfl ?_;intro Γ hΓ
  (repeat first|refine tA rfl ?_ |refine s2 rfl fun _ _hb=>?_ |refine aU rfl ?_ |refine Aa ?_)
  (refine aC rfl ?_ ?_<;>rintro⟨⟩)
  ·(repeat' first|refine tA rfl ?_ |refine aU rfl ?_ |refine Aa ?_|(refine aC rfl ?_ ?_<;>rintro⟨⟩)|refine aK ?_|refine aE ?_|refine aB ?_|refine aR ⟨_,rfl,?_⟩)
   rfl
  ·exfalso;(simp only[oZ] at *;omega)
abbrev cJ(n:Int)(b:Bool):E:=.t [(false,[.d (iD n)]),(false,[.d (bD b)])]
theorem Tp{w:W}{k:Nat}{c:UInt8}(hc:w[k]? = some c):HP (w.take (k+1))=HP (w.take k) ||| 2 ^ (c.toNat - 97):=by
 unfold HP
 rw [List.take_add_one,hc];simp
theorem LN(w:W)(hl:w.length≤1099511627776):Pure Tryz.prog TB 203 [eT w] (if Eu w then cJ (HP w:Nat) true else cJ 0 false):=by
 have hwv:=NU (TB:=TB) w hl
 by_cases hok:Eu w=true
 ·have hok2:=hok
  unfold Eu at hok2
  simp only [Bool.and_eq_true,decide_eq_true_eq] at hok2
  rw [if_pos hok]
  refine eN Tryz.func203 rfl (by kernel_rfl) rfl ?_;intro Γ hΓ
  (repeat first|refine tA rfl ?_ |refine s2 rfl fun _ _hb=>?_ |(refine sC rfl (hwv) ?_;intro _ _hb) |refine aU rfl ?_ |refine Aa ?_)
  (refine aC rfl ?_ ?_<;>rintro⟨⟩)
  ·exfalso;simp at *;grind
  refine aK ?_
  (repeat first|refine tA rfl ?_ |refine aU rfl ?_ |refine Aa ?_)
  refine aB ?_
  refine aL (α:={k:Nat // k≤w.length}) [0] [] rfl rfl (fun ⟨k,hk⟩=>[(4,eI .i64 (HP (w.take k):Nat)),(5,eI .i64 k)]) (fun ⟨k,hk⟩=>[]) 0 (fun ⟨k,hk⟩=>w.length - k) (⟨0,by omega⟩) hΓ rfl (by (simp[cX,zC,hΓ]<;>rfl)) ?_;rintro⟨k,hk⟩;(try dsimp only[cA,cB])
  by_cases hlt:k < w.length
  ·obtain⟨c,hc⟩:=get_some hlt
   have hc':w[((k:Nat):Int).toNat]? = some c:=by simpa using hc
   have hla:=Kj (TB:=TB) w k c hc'
   have hcc:=(List.all_eq_true.1 hok2.2) c (List.mem_of_getElem? hc)
   rw [Gs,decide_eq_true_eq] at hcc
   have hbt:=UC (TB:=TB) ((c.toNat:Int) - 97) hcc.1 (by omega)
   have hst:=Tp hc
   have hs1:HP (w.take k) < 64:=NL (by rw [List.all_eq_true];exact fun x hx=>(List.all_eq_true.1 hok2.2) x (List.mem_of_mem_take hx)) (by omega)
   have ht:((c.toNat:Int) - 97).toNat=c.toNat - 97:=by omega
   have h26:2 ^ (c.toNat - 97) < 2 ^ 6:=Nat.pow_lt_pow_right (by omega) (by omega)
   have hor:=(WG hs1 h26).1
   rw [←hst] at hor
   rw [ht] at hbt
   (repeat first|refine tA rfl ?_ |refine s2 rfl fun _ _hb=>?_ |refine aU rfl ?_ |refine Aa ?_)
   (refine aC rfl ?_ ?_<;>rintro⟨⟩)
   ·(repeat' first|(refine sA rfl ?_ ?_;first|exact tI|omega) |refine sP rfl (hla) rfl ?_|refine sP rfl (hbt) rfl ?_ |refine aU rfl ?_ |refine Aa ?_|(refine aC rfl ?_ ?_<;>rintro⟨⟩)|refine aK ?_|refine aE ?_|refine aB ?_|refine aR ⟨_,rfl,?_⟩)
    rw [hor]
    refine⟨⟨k+1,by omega⟩,by dsimp only;(omega),[],?_⟩
    simp[cX,zC,hΓ]
   ·exfalso;(simp only[oZ] at *;omega)
  ·obtain rfl:k=w.length:=by omega
   rw [List.take_length]
   (repeat first|refine tA rfl ?_ |refine s2 rfl fun _ _hb=>?_ |refine aU rfl ?_ |refine Aa ?_)
   (refine aC rfl ?_ ?_<;>rintro⟨⟩)
   ·exfalso;(simp only[oZ] at *;omega)
   ·(repeat' first|refine tA rfl ?_ |refine aU rfl ?_ |refine Aa ?_|(refine aC rfl ?_ ?_<;>rintro⟨⟩)|refine aK ?_|refine aE ?_|refine aB ?_|refine aR ⟨_,rfl,?_⟩)
    rfl
 ·rw [if_neg hok]
  refine eN Tryz.func203 rfl (by kernel_rfl) rfl ?_;intro Γ hΓ
  (repeat first|refine tA rfl ?_ |refine s2 rfl fun _ _hb=>?_ |(refine sC rfl (hwv) ?_;intro _ _hb) |refine aU rfl ?_ |refine Aa ?_)
  (refine aC rfl ?_ ?_<;>rintro⟨⟩)
  ·(repeat' first|refine tA rfl ?_ |refine aU rfl ?_ |refine Aa ?_|(refine aC rfl ?_ ?_<;>rintro⟨⟩)|refine aK ?_|refine aE ?_|refine aB ?_|refine aR ⟨_,rfl,?_⟩)
   rfl
  ·exfalso;simp at *;grind
theorem DB(w:W)(al:Int)(hl:w.length≤1099511627776):Pure Tryz.prog TB 142 [eT w,eI .i64 al] (eB (within w al)):=by
 have h1:=LN (TB:=TB) w hl
 have h2:=ES (TB:=TB) al
 by_cases hok:Eu w=true
 ·rw [if_pos hok] at h1
  unfold Eu at hok
  simp only [Bool.and_eq_true,decide_eq_true_eq] at hok
  have hw:within w al=(BI al && w.all (HD al)):=by unfold within;simp [hok.1]
  rw [hw]
  refine eN Tryz.func142 rfl (by kernel_rfl) rfl ?_;intro Γ hΓ
  (repeat' first|refine tA rfl ?_ |refine s2 rfl fun _ _hb=>?_ |refine sP rfl (h1) rfl ?_|(refine sC rfl (h2) ?_;intro _ _hb) |refine s3 rfl ?_ ?_<;>rintro rfl |refine aU rfl ?_ |refine Aa ?_|(refine aC rfl ?_ ?_<;>rintro⟨⟩)|refine aK ?_|refine aE ?_|refine aB ?_|refine aR ⟨_,rfl,?_⟩)
  all_goals first
   | (show E.o _=E.o _;congr;grind)
   | (rename_i ha b;rw [Xm hok.2 ha] at _hb;show E.o _=E.o _;rw [ha,_hb];rfl)
 ·rw [if_neg hok] at h1
  have hw:within w al=false:=by
   rw [Bool.eq_false_iff]
   intro h
   unfold within at h
   simp only [Bool.and_eq_true,decide_eq_true_eq] at h
   exact hok (by unfold Eu;simp [h.1,QK h.2.2])
  rw [hw]
  refine eN Tryz.func142 rfl (by kernel_rfl) rfl ?_;intro Γ hΓ
  (repeat' first|refine tA rfl ?_ |refine sP rfl (h1) rfl ?_|(refine sC rfl (h2) ?_;intro _ _hb) |refine aU rfl ?_ |refine Aa ?_|(refine aC rfl ?_ ?_<;>rintro⟨⟩)|refine aK ?_|refine aE ?_|refine aB ?_|refine aR ⟨_,rfl,?_⟩)
  all_goals rfl
end Go.Am
