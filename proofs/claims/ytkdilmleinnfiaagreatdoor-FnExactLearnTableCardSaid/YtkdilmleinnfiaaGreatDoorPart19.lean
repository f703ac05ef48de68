/-
  The closure under letters that are not seen: walked.
-/
import Derived.Test.YtkdilmleinnfiaaGreatDoorPart18
import Derived.Test.YtkdilmleinnfiaaGreatDoorPart16
set_option linter.constructorNameAsVariable false
set_option linter.unusedSectionVars false
set_option linter.unusedSimpArgs false
set_option linter.unusedVariables false
namespace Go.Am
open Go Go.Proofs
set_option maxHeartbeats 1000000
set_option maxRecDepth 4000
attribute [local irreducible] AV BX Lex Bf Av Spec
variable {TB:Be}
def GN(t:B1)(F:PS)(ls:List Int):PS:=fun p=>ls.foldl (fun a l=>a ||| Tq t l F p) (F p)
def Jk(A B:PS)(k:Nat):PS:=fun p=>if p < k then A p ||| B p else A p
theorem UH{A B:PS}{k:Nat}:Jk A B (k+1)=fun p=>if p=k then Jk A B k k ||| B k else Jk A B k p:=by
 funext p
 unfold Jk
 by_cases e:p=k
 ·subst e;simp
 ·by_cases h:p < k
  ·rw [if_pos (by omega),if_neg e,if_pos h]
  ·rw [if_neg (by omega),if_neg e,if_neg h]
theorem Vy{t:B1}{F:PS}{ls:List Int}{l:Int}:GN t F (ls++[l])=fun p=>GN t F ls p ||| Tq t l F p:=by
 funext p
 unfold GN
 rw [List.foldl_append];rfl
theorem TA{α:Type}{g:α→Nat}{j:Nat}:∀ {l:List α} {a:Nat},(l.foldl (fun a x=>a ||| g x) a).testBit j=true↔a.testBit j=true∨∃x∈l,(g x).testBit j=true
 | [],a=>by simp
 | x::l,a=>by
  rw [List.foldl_cons,TA,Nat.testBit_or,Bool.or_eq_true]
  simp [or_assoc]
theorem Fz{t:B1}{F:PS}{ls:List Int}{p j:Nat}:(GN t F ls p).testBit j=true↔(F p).testBit j=true∨∃l∈ls,(Tq t l F p).testBit j=true:=TA
theorem SO{t:B1}(ht:A1 t=true){F:PS}(h:CB t F){ls:List Int}(hl:∀l∈ls,0≤l∧l < 6):CB t (GN t F ls):=by
 refine⟨fun p=>HB fun j hj=>?_,fun p hp=>HC fun j=>?_⟩
 ·rcases Fz.1 hj with h1|⟨l,h1,h2⟩
  ·exact Jh (h.lt p) h1
  ·exact Jh ((Kg ht (hl l h1) h).lt p) h2
 ·cases hb:(GN t F ls p).testBit j
  ·rfl
  ·rcases Fz.1 hb with h1|⟨l,h1,h2⟩
   ·rw [h.z p hp] at h1;simp at h1
   ·rw [(Kg ht (hl l h1) h).z p hp] at h2;simp at h2
theorem sub_le{a b:Nat}(h:∀j,a.testBit j=true→b.testBit j=true):a≤b:=by
 have:a ||| b=b:=Nat.eq_of_testBit_eq fun j=>by
  rw [Nat.testBit_or]
  cases ha:a.testBit j
  ·simp
  ·simp [h j ha]
 rw [←this];exact Nat.left_le_or
def KY(F:PS):Nat:=(65535 - F 0)+(65535 - F 1)+(65535 - F 2)+(65535 - F 3)+(65535 - F 4)+(65535 - F 5)+(65535 - F 6)+(65535 - F 7)+(65535 - F 8)+(65535 - F 9)+(65535 - F 10)+(65535 - F 11)
theorem Tl{F G:PS}(hF:∀p,F p < 65536)(hG:∀p,G p < 65536)(h:∀p,F p≤G p)(hne:Ff G≠Ff F):KY G < KY F:=by
 have h1:¬KY F≤KY G:=fun hle=>hne (Od fun p hp=>by
  have a0:=h 0;have a1:=h 1;have a2:=h 2;have a3:=h 3;have a4:=h 4;have a5:=h 5;have a6:=h 6;have a7:=h 7;have a8:=h 8;have a9:=h 9;have a10:=h 10;have a11:=h 11
  have b0:=hG 0;have b1:=hG 1;have b2:=hG 2;have b3:=hG 3;have b4:=hG 4;have b5:=hG 5;have b6:=hG 6;have b7:=hG 7;have b8:=hG 8;have b9:=hG 9;have b10:=hG 10;have b11:=hG 11
  unfold KY at hle
  obtain rfl|rfl|rfl|rfl|rfl|rfl|rfl|rfl|rfl|rfl|rfl|rfl:p=0∨p=1∨p=2∨p=3∨p=4∨p=5∨p=6∨p=7∨p=8∨p=9∨p=10∨p=11:=by omega
  all_goals omega)
 omega
theorem Zn{F:PS}(h:∀p,F p < 65536):∀x∈Ff F,(Lit.int .u16 x).wf=true:=fun x hx=>by
 have:∃p,x=(F p:Int):=by
  unfold Ff at hx
  simp only [List.mem_cons,List.not_mem_nil,or_false] at hx
  rcases hx with h|h|h|h|h|h|h|h|h|h|h|h<;>exact⟨_,h⟩
 obtain⟨p,rfl⟩:=this
 have:=h p
 simp [Lit.wf,IntKind.min,IntKind.max,IntKind.signed,IntKind.bits]
 omega
section
variable {t:B1}(ht:A1 t=true)
include ht
theorem Vz{F0 F:PS}(h2:∀p j,(F p).testBit j=true→Pk t F0 p j){p j:Nat}(h:(GN t F (Cb t) p).testBit j=true):Pk t F0 p j:=by
 rcases Fz.1 h with h1|⟨l,hl,h1⟩
 ·exact h2 p j h1
 ·obtain⟨q,hq,hg,hb⟩:=Lh.1 h1
  unfold Cx at hb
  rw [if_pos (Gq ht hl).2.2] at hb
  obtain⟨e,he,⟨h3,h4⟩,h5⟩:=DT.1 hb
  subst h3
  have:=Pk.step (h2 q _ h4) he hl rfl
  rw [hg,h5] at this
  simpa using this
theorem Ui{F0 F:PS}(h0:CB t F0)(hF:CB t F)(h1:∀p j,(F0 p).testBit j=true→(F p).testBit j=true)(h2:∀p j,(F p).testBit j=true→Pk t F0 p j)(he:GN t F (Cb t)=F):F=QY t F0:=
 VM ht h0 hF.z h1 h2 fun p l j hp hl hj=>by
  have hin:=Gq ht hl
  have hga:=Dc (Cn ht) hp hin.1 hin.2.1
  rw [←he]
  refine Fz.2 (.inr ⟨l,hl,Lh.2 ⟨p,hp,by omega,?_⟩⟩)
  unfold Cx
  rw [if_pos hin.2.2]
  exact hj
end
theorem PG[Fo TB]{t:B1}(ht:A1 t=true)(m:Fm){F0:PS}(hF0:CB t F0):Spec Tryz.prog TB 208 (K0 t m) 5 [.o (.ptr 0 14 0 0),aP F0] (fun x σ nx=>x=aP (QY t F0)∧σ=K0 t m∧nx=5):=by
 have hah:=Aj (Cn ht)
 have hll:(Cb t).length≤6:=by
  unfold Cb
  have h1:(Ac t.s.al).length≤6:=A0 _ _
  exact Nat.le_trans (List.length_filter_le _ _) h1
 refine eR Tryz.func208 rfl (by kernel_rfl) rfl ?_;intro Γ hΓ
 (repeat first|refine aU rfl ?_)
 (refine pW rfl ?_ rfl (by rfl);refine CT rfl rfl ?_)
 (repeat first|refine tM rfl ?_ |refine Aa ?_)
 refine aB ?_
 refine aL (α:={F:PS // CB t F∧(∀p j,(F0 p).testBit j=true→(F p).testBit j=true)∧∀p j,(F p).testBit j=true→Pk t F0 p j}) [0,3,4] [0,1,2,3,4,6] rfl rfl (fun s=>[]) (fun s=>[(5,.cells 213 12 [Oc s.1])]) 7 (fun s=>KY s.1) (⟨F0,hF0,fun _ _ h=>h,fun _ _ h=>.base h⟩) hΓ rfl (by (simp[cX,zC,hΓ,AH]<;>rfl)) ?_;rintro⟨F,hF,h1,h2⟩;(try dsimp only[cA,cB])
 have hF:CB t F:=hF
 refine aB ?_
 (repeat first|refine sN rfl ?_ |refine tA rfl ?_ |refine aU rfl ?_ |refine Aa ?_)
 refine aB ?_
 refine aL (α:={k:Nat // k≤(Cb t).length}) [0,3,4,5,14,15] [0,1,2,3,4,5,6] rfl rfl (fun s=>[(16,eI .i64 s.1)]) (fun s=>[(7,.cells 213 12 [Oc (GN t F ((Cb t).take s.1))])]) 8 (fun s=>(Cb t).length - s.1) (⟨0,by omega⟩) hΓ rfl (by (simp[cX,zC,hΓ,AH]<;>rfl)) ?_;rintro⟨k,hk⟩;(try dsimp only[cA,cB])
 by_cases hkl:k < (Cb t).length
 ·obtain⟨l,hlk⟩:=get_some hkl
  have hin:=Gq ht (List.mem_of_getElem? hlk)
  have hl':((Cb t).map Bm)[((k:Nat):Int).toNat]? = some (Bm l):=by rw [Int.toNat_natCast];simp [hlk]
  have hall:∀x∈(Cb t).take k,0≤x∧x < 6:=fun x hx=>by
   have:=Gq ht (List.mem_of_mem_take hx)
   omega
  have hA:=SO ht hF hall
  have hG:=Kg ht (l:=l) ⟨hin.1,hin.2.1⟩ hF
  have hnx:GN t F ((Cb t).take (k+1))=fun p=>GN t F ((Cb t).take k) p ||| Tq t l F p:=by rw [List.take_add_one,hlk];exact Vy
  have hmv:=Tp (TB:=TB) ht m (l:=l) ⟨hin.1,hin.2.1⟩ hF
  generalize GN t F ((Cb t).take k)=A at *
  generalize Tq t l F=G at *
  (repeat first|refine s2 rfl fun _ _hb=>?_ |refine aU rfl ?_ |refine Aa ?_)
  ((refine aC rfl ?_ ?_<;>rintro⟨⟩);all_goals try(exfalso;(simp only[oZ] at *;omega)))
  refine aK ?_
  refine aS (aB ?_)
  (repeat first|refine tA rfl ?_ |(refine s4 rfl ‹_› rfl ?_ ?_;omega) |refine aU rfl ?_ |refine Aa ?_)
  (refine pW rfl ?_ rfl (by rfl);refine Cr [0,1,2,3,4] rfl rfl (hmv) ⟨rfl,by decide,by decide⟩ rfl (by simp[cX,zC,hΓ,AH]) ?_;rintro x0 σ1 nx1 ⟨rfl,rfl,rfl⟩ _)
  (repeat first|refine tA rfl ?_)
  refine Aa ?_
  refine aB ?_
  refine aL (α:={p:Nat // p≤12}) [0,3,4,5,14,15,16,23] [0,1,2,3,4,5,6] rfl rfl (fun s=>[(24,eI .i64 s.1)]) (fun s=>[(7,.cells 213 12 [Oc (Jk A G s.1)])]) 8 (fun s=>12 - s.1) (⟨0,by omega⟩) hΓ rfl (by (simp[cX,zC,hΓ,AH]<;>rfl)) ?_;rintro⟨p,hp⟩;(try dsimp only[cA,cB])
  by_cases hpl:p < 12
  ·have hx:(Ff G)[((p:Nat):Int).toNat]? = some (G p:Int):=by rw [Int.toNat_natCast];exact HJ hpl
   have ej:0+((p:Nat):Int).toNat*1=p:=by omega
   have hmx:Jk A G p p < 65536:=by
    unfold Jk
    rw [if_neg (by omega)]
    exact hA.lt p
   have hj:(Oc (Jk A G p))[0+((p:Nat):Int).toNat*1]? = some (.d (.v (.int .u16 (Jk A G p p:Int)))):=by rw [ej];exact Lm hpl
   have hor:=Td hmx (hG.lt p)
   have hset:=TD (F:=Jk A G p) (p:=p) hpl (v:=Jk A G p p ||| G p)
   rw [←UH] at hset
   (repeat first|refine s2 rfl fun _ _hb=>?_ |refine aU rfl ?_ |refine Aa ?_)
   ((refine aC rfl ?_ ?_<;>rintro⟨⟩);all_goals try(exfalso;(simp only[oZ] at *;omega)))
   refine aK ?_
   refine aS (aB ?_)
   (repeat first|(refine sA rfl ?_ ?_;first|exact tI|omega)|(refine Ai rfl ?_;refine gA rfl ?_;first| refine gS (fun _ _=>Jt (l:=Ff G) rfl rfl rfl (by omega) hx) ?_|refine gQ (Mt rfl rfl rfl hj) rfl ?_) |refine aU rfl ?_ |refine Aa ?_)
   (refine Ai rfl ?_;refine FT ?_ rfl (by rfl);refine Ea (r:=Oc (Jk A G p)) rfl rfl rfl rfl rfl rfl (by show 0+((p:Nat):Int).toNat*1+1≤12;omega) ?_)
   refine Aa ?_
   (repeat first|(refine sA rfl ?_ ?_;first|exact tI|omega) |refine aU rfl ?_ |refine Aa ?_)
   refine⟨⟨p+1,by omega⟩,by dsimp only;(omega),[0,1,2,3,4,5,6,7],?_⟩
   simp[cX,zC,hΓ,AH,hor];exact⟨PW,by simpa [AE] using hset⟩
  ·obtain rfl:p=12:=by omega
   have hmx:Ff (Jk A G 12)=Ff fun p=>A p ||| G p:=Od fun p hp=>by unfold Jk;rw [if_pos hp]
   (repeat first|refine s2 rfl fun _ _hb=>?_ |refine aU rfl ?_ |refine Aa ?_)
   ((refine aC rfl ?_ ?_<;>rintro⟨⟩);all_goals try(exfalso;(simp only[oZ] at *;omega)))
   refine aE ?_
   (repeat first|(refine sA rfl ?_ ?_;first|exact tI|omega) |refine aU rfl ?_ |refine Aa ?_)
   refine⟨⟨k+1,by omega⟩,by dsimp only;(omega),[0,1,2,3,4,5,6,7],?_⟩
   simp[cX,zC,hΓ,AH,hnx];exact⟨PW,congrArg (List.map _) hmx⟩
 ·obtain rfl:k=(Cb t).length:=by omega
  rw [List.take_length]
  have hA:=SO ht hF fun x hx=>by
   have:=Gq ht hx
   show 0≤x∧x < 6
   omega
  (repeat first|refine s2 rfl fun _ _hb=>?_ |refine aU rfl ?_ |refine Aa ?_)
  ((refine aC rfl ?_ ?_<;>rintro⟨⟩);all_goals try(exfalso;(simp only[oZ] at *;omega)))
  refine aE ?_
  (repeat first|refine tA rfl ?_|(refine Ai rfl ?_;refine gA rfl ?_;first| (refine gB (fun _ _=>dc (a:=Ff (GN t F (Cb t))) (b:=Ff F) rfl rfl rfl rfl (Zn hA.lt) (Zn hF.lt)) ?_;intro _ _hb)) |refine aU rfl ?_ |refine Aa ?_)
  (refine aC rfl ?_ ?_<;>rintro⟨⟩)
  ·have he:GN t F (Cb t)=F:=by
    have h3:Ff (GN t F (Cb t))=Ff F:=by simpa using _hb
    have h4:=O2 h3
    funext p
    rcases Nat.lt_or_ge p 12 with h5|h5
    ·exact h4 p h5
    ·rw [hA.z p (by omega),hF.z p (by omega)]
   rw [←Ui ht hF0 hF h1 h2 he]
   (repeat first|refine tA rfl ?_ |refine aU rfl ?_ |refine Aa ?_)
   refine aR ⟨_,rfl,[0,1,2,3,4],aP F,K0 t m,⟨PW,by decide⟩,rfl,by (simp[cX,zC,hΓ,AH]),rfl,rfl,rfl⟩
  ·have hne:Ff (GN t F (Cb t))≠Ff F:=by simpa using _hb
   have hsub:∀p,F p≤GN t F (Cb t) p:=fun p=>sub_le fun j hj=>Fz.2 (.inl hj)
   have hm:=Tl hF.lt hA.lt hsub hne
   refine aK ?_
   (repeat first|refine tA rfl ?_ |refine aU rfl ?_ |refine Aa ?_)
   refine⟨⟨GN t F (Cb t),hA,fun p j hj=>Fz.2 (.inl (h1 p j hj)),fun p j hj=>Vz ht h2 hj⟩,by dsimp only;(omega),[0,1,2,3,4,5,6],?_⟩
   simp[cX,zC,hΓ,AH];exact⟨PW,rfl,rfl⟩
inductive Reach (t:B1):PS→Prop
 | start:Reach t (B6 t)
 | next {F:PS} {l:Int}:0≤l→l < 6→Reach t F→Reach t (Ev t l F)
theorem Reach.ok{t:B1}(ht:A1 t=true){F:PS}(h:Reach t F):CB t F:=by
 induction h with
 | start=>exact Kr ht
 | next h0 h1 _ ih=>exact Mh ht ⟨h0,h1⟩ ih
noncomputable def ME(t:B1):PS→W→PS
 | F,[]=>F
 | F,c::w=>ME t (Ev t ((c.toNat:Int) - 97) F) w
theorem Qx{t:B1}:∀(u v:W) (F:PS),ME t F (u++v)=ME t (ME t F u) v
 | [],v,F=>rfl
 | c::u,v,F=>by simp only [List.cons_append,ME];exact Qx u v _
def dR(t:B1)(ok:W→Prop)(F:PS):Prop:=F=B6 t∨∃u v,ok (u++v)∧F=ME t (B6 t) u
def ZC(t:B1)(ok:W→Prop):Prop:=∀l:List PS,l.Nodup→(∀F∈l,dR t ok F)→l.length≤1099511627776
structure HT (t:B1) (ok:W→Prop) (m:Fm):Prop where
 l1:m.nx.length=m.F.length
 l2:m.un.length=m.F.length
 nd:m.F.Nodup
 rc:∀F∈m.F,Reach t F
 rk:∀F∈m.F,dR t ok F
 un:∀(i:Nat) F,m.F[i]? = some F→m.un[i]? = some (JU t F)
 nx:∀(i:Nat) F,m.F[i]? = some F→∃r:List Int,m.nx[i]? = some r∧r.length=6∧∀l:Nat,l < 6→∃x,r[l]? = some x∧(x < 0∨∃j:Nat,x=j∧m.F[j]? = some (Ev t l F))
def HP(t:B1)(m:Fm)(G:PS):Fm:=⟨m.F++[G],m.nx++[[-1,-1,-1,-1,-1,-1]],m.un++[JU t G]⟩
theorem Zv{t:B1}(ht:A1 t=true){F G:PS}(hF:CB t F)(hG:CB t G)(h:Ff F=Ff G):F=G:=by
 have h4:=O2 h
 have h0:=Aj (Cn ht)
 funext p
 rcases Nat.lt_or_ge p 12 with h5|h5
 ·exact h4 p h5
 ·rw [hF.z p (by omega),hG.z p (by omega)]
theorem OS{l:List PS}{p:List Int×Int}:p∈Nm l↔∃(i:Nat) (F:PS),l[i]? = some F∧p=(Ff F,(i:Int)):=by
 unfold Nm
 rw [List.mem_map]
 constructor
 ·rintro⟨⟨F,i⟩,h,rfl⟩
  exact⟨i,F,List.mk_mem_zipIdx_iff_getElem?.1 h,rfl⟩
 ·rintro⟨i,F,h,rfl⟩
  exact⟨(F,i),List.mk_mem_zipIdx_iff_getElem?.2 h,rfl⟩
theorem YF(l:List PS)(G:PS):Nm (l++[G])=Nm l++[(Ff G,(l.length:Int))]:=by
 unfold Nm
 rw [List.zipIdx_append]
 simp
theorem WG{t:B1}(ht:A1 t=true){l:List PS}(hn:l.Nodup)(hr:∀F∈l,Reach t F):(Nm l).Pairwise (fun a b=>a.1≠b.1):=by
 unfold Nm
 rw [List.pairwise_map,List.pairwise_iff_getElem]
 intro i j h1 h2 hij
 simp only [List.length_zipIdx] at h1 h2
 simp only [List.getElem_zipIdx]
 intro he
 have:=Zv ht ((hr _ (List.getElem_mem h1)).ok ht) ((hr _ (List.getElem_mem h2)).ok ht) he
 exact List.pairwise_iff_getElem.1 hn i j h1 h2 hij this
theorem WE{t:B1}(ht:A1 t=true){l:List PS}(hr:∀F∈l,Reach t F):Nz 12 .u16 (Nm l):=fun p hp=>by
 obtain⟨i,F,h1,rfl⟩:=OS.1 hp
 exact⟨rfl,Zn ((hr F (List.mem_of_getElem? h1)).ok ht).lt⟩
theorem Ur{t:B1}(ht:A1 t=true){l:List PS}(hn:l.Nodup)(hr:∀F∈l,Reach t F){G:PS}(hG:CB t G){v:Int}(h:CS (Nm l) (Ff G)=some v):∃k:Nat,v=k∧l[k]? = some G:=by
 have:∃p∈Nm l,p.1=Ff G:=by
  refine Classical.byContradiction fun hc=>?_
  have h2:CS (Nm l) (Ff G)=none:=Gm.2 fun p hp he=>hc ⟨p,hp,he⟩
  rw [h2] at h;cases h
 obtain⟨p,hp,he⟩:=this
 have h3:=J5 (WG ht hn hr) hp
 rw [he,h] at h3
 obtain⟨i,F,h4,rfl⟩:=OS.1 hp
 have:=Zv ht ((hr F (List.mem_of_getElem? h4)).ok ht) hG he
 subst this
 exact⟨i,by injection h3,h4⟩
theorem Uq{l:List PS}{G:PS}(h:CS (Nm l) (Ff G)=none):G∉l:=fun hG=>by
 obtain⟨i,hi,he⟩:=List.getElem_of_mem hG
 exact Gm.1 h (Ff G,(i:Int)) (OS.2 ⟨i,G,by rw [List.getElem?_eq_getElem hi,he],rfl⟩) rfl
theorem IW{α:Type}{l:List α}{a x:α}{i:Nat}(h:l[i]? = some x):(l++[a])[i]? = some x:=by
 rw [List.getElem?_append_left (List.getElem?_eq_some_iff.1 h).1];exact h
theorem Pz{α:Type}{l:List α}{a x:α}{i:Nat}(h:(l++[a])[i]? = some x):l[i]? = some x∨i=l.length∧x=a:=by
 rcases Nat.lt_or_ge i l.length with h1|h1
 ·rw [List.getElem?_append_left h1] at h;exact .inl h
 ·rw [List.getElem?_append_right h1] at h
  have h2:i - l.length < 1:=(List.getElem?_eq_some_iff.1 h).1
  have h3:i=l.length:=by simp at h2;omega
  subst h3
  simp at h
  exact .inr ⟨rfl,h.symm⟩
theorem SL{t:B1}{ok:W→Prop}{m:Fm}(hm:HT t ok m){G:PS}(hG:Reach t G)(hk:dR t ok G)(h:G∉m.F):HT t ok (HP t m G):=by
 refine⟨by simp [HP,hm.l1],by simp [HP,hm.l2],?_,?_,?_,?_,?_⟩
 ·show (m.F++[G]).Nodup
  rw [List.nodup_append]
  exact⟨hm.nd,by simp,fun a ha b hb=>by simp at hb;subst hb;intro e;subst e;exact h ha⟩
 ·intro F hF
  rcases List.mem_append.1 hF with hF|hF
  ·exact hm.rc F hF
  ·simp at hF;subst hF;exact hG
 ·intro F hF
  rcases List.mem_append.1 hF with hF|hF
  ·exact hm.rk F hF
  ·simp at hF;subst hF;exact hk
 ·intro i F hF
  rcases Pz hF with h1|⟨h1,rfl⟩
  ·exact IW (hm.un i F h1)
  ·subst h1;show (m.un++[JU t F])[m.F.length]? = _;rw [←hm.l2];simp
 ·intro i F hF
  rcases Pz hF with h1|⟨h1,rfl⟩
  ·obtain⟨r,h2,h3,h4⟩:=hm.nx i F h1
   refine⟨r,IW h2,h3,fun l hl=>?_⟩
   obtain⟨x,h5,h6⟩:=h4 l hl
   refine⟨x,h5,h6.imp id ?_⟩
   rintro⟨j,h7,h8⟩
   exact⟨j,h7,IW h8⟩
  ·refine⟨[-1,-1,-1,-1,-1,-1],by subst h1;show (m.nx++_)[m.F.length]? = _;rw [←hm.l1];simp,rfl,fun l hl=>⟨-1,?_,.inl (by omega)⟩⟩
   obtain rfl|rfl|rfl|rfl|rfl|rfl:l=0∨l=1∨l=2∨l=3∨l=4∨l=5:=by omega
   all_goals rfl
def FD(t:B1)(F:PS)(k:Nat):Bool:=(List.range k).any fun p=>decide (F p≠0) && !(t.q.ac.getD p false)
theorem Im{t:B1}{F:PS}{k:Nat}:FD t F (k+1)=(FD t F k || (decide (F k≠0) && !(t.q.ac.getD k false))):=by
 unfold FD
 rw [List.range_succ,List.any_append];simp
theorem Uh{t:B1}{F:PS}(h:CB t F)(hn:t.q.nx.length≤12):FD t F 12=JU t F:=by
 have key:∀k,FD t F (t.q.nx.length+k)=FD t F t.q.nx.length:=fun k=>by
  induction k with
  | zero=>rfl
  | succ k ih=>rw [←Nat.add_assoc,Im,ih,h.z _ (by omega)];simp
 have:=key (12 - t.q.nx.length)
 rw [show t.q.nx.length+(12 - t.q.nx.length)=12 by omega] at this
 rw [this];rfl
section
variable {P:Program}{Γ:Ctx}{d:Option Tmp}{ty:TypeId}{pos:String}{af:Array Edge}{g:Option (Nat×Bool)}{f:Env}{σ:Ab}{nx:Nat}{t:TypeId}{n:Nat}{q:IntKind}{m e:TypeId}{x y:Operand}{id:Nat}{l:List (List Int×Int)}{s:List Int}
theorem Xh{v:Int}[hm:HS P m t e][h:EI P t n q][hz:Ny P e (.int .i64 0)](hv:CS l s=some v)(hx:ev f x=some (.o (.mp id)))(hy:ev f y=some (Yx q s))(ho:look σ id=some (.mp (mapA q l)))
 (hl:Nz n q l) (hd:l.Pairwise (fun a b=>a.1≠b.1)) (hs:s.length=n) (hw:∀x∈s,(Lit.int q x).wf=true) :
 AV P TB Γ ⟨d,.lookup m x y true,ty,pos,af,g⟩ f σ nx (.t [(false,[.d (.v (.int .i64 v))]),(false,[.d (.v (.bool true))])]):=by
 have:=TG (P:=P) (TB:=TB) (Γ:=Γ) (d:=d) (ty:=ty) (pos:=pos) (af:=af) (g:=g) (nx:=nx) (t:=t) (m:=m) (e:=e) hx hy ho hl hd hs hw
 rw [hv] at this;exact this
theorem Xg[hm:HS P m t e][h:EI P t n q][hz:Ny P e (.int .i64 0)](hv:CS l s=none)(hx:ev f x=some (.o (.mp id)))(hy:ev f y=some (Yx q s))(ho:look σ id=some (.mp (mapA q l)))
 (hl:Nz n q l) (hd:l.Pairwise (fun a b=>a.1≠b.1)) (hs:s.length=n) (hw:∀x∈s,(Lit.int q x).wf=true) :
 AV P TB Γ ⟨d,.lookup m x y true,ty,pos,af,g⟩ f σ nx (.t [(false,[.d (.v (.int .i64 0))]),(false,[.d (.v (.bool false))])]):=by
 have:=TG (P:=P) (TB:=TB) (Γ:=Γ) (d:=d) (ty:=ty) (pos:=pos) (af:=af) (g:=g) (nx:=nx) (t:=t) (m:=m) (e:=e) hx hy ho hl hd hs hw
 rw [hv] at this;exact this
end
theorem VA{t:B1}{ok:W→Prop}(ht:A1 t=true){m:Fm}(hm:HT t ok m)(hlen:m.F.length≤1099511627776){G:PS}(hG:CB t G):∃(m':Fm) (k:Nat),((m'=m∧m.F[k]? = some G)∨(m'=HP t m G∧k=m.F.length∧G∉m.F))∧
 A3 Tryz.prog TB 207 1 (K0 t m) 5 [.o (.ptr 0 14 0 0),aP G] (fun x σ nx=>x=eI .i64 (k:Int)∧σ=K0 t m'∧nx=5):=by
 have hah:=Aj (Cn ht)
 have hpw:=WG ht hm.nd hm.rc
 have hks:=WE ht hm.rc
 have hwf:=Zn hG.lt
 cases hf:CS (Nm m.F) (Ff G) with
 | some v=>
  obtain⟨k,rfl,hk⟩:=Ur ht hm.nd hm.rc hG hf
  refine⟨m,k,.inl ⟨rfl,hk⟩,?_⟩
  refine A3.AW (A3.YL (m:=1) (Nat.le_of_ble_eq_true rfl) Tryz.func207 rfl (by kernel_rfl) (Nat.le_of_ble_eq_true rfl) ?_);intro Γ hΓ
  (repeat first|refine tA rfl ?_ |refine aU rfl ?_ |refine Aa ?_)
  refine rG (J6 []) (by kernel_rfl) ?_
  (repeat first|refine tA rfl ?_|(refine Ai rfl ?_;refine gA rfl ?_;first| refine gQ (Xh (s:=Ff G) (l:=Nm m.F) hf rfl rfl rfl hks hpw rfl hwf) rfl ?_) |refine aU rfl ?_ |refine Aa ?_)
  (refine aC rfl ?_ ?_<;>rintro⟨⟩)
  (repeat first|refine tA rfl ?_ |refine aU rfl ?_ |refine Aa ?_)
  refine aR ⟨_,rfl,[0,1,2,3,4],eI .i64 (k:Int),K0 t m,⟨by intro i hi;match i with|0=>rfl,by decide⟩,rfl,by (simp[cX,zC,hΓ,AH]),rfl,rfl,rfl⟩
 | none =>
  refine⟨HP t m G,m.F.length,.inr ⟨rfl,rfl,Uq hf⟩,?_⟩
  have h1:=hm.l1
  have h2:=hm.l2
  have hap:=YF m.F G
  refine A3.AW (A3.YL (m:=1) (Nat.le_of_ble_eq_true rfl) Tryz.func207 rfl (by kernel_rfl) (Nat.le_of_ble_eq_true rfl) ?_);intro Γ hΓ
  (repeat first|refine tA rfl ?_ |refine aU rfl ?_ |refine Aa ?_)
  refine rG (J6 []) (by kernel_rfl) ?_
  (repeat first|refine tA rfl ?_|(refine Ai rfl ?_;refine gA rfl ?_;first| refine gQ (Xg (s:=Ff G) (l:=Nm m.F) hf rfl rfl rfl hks hpw rfl hwf) rfl ?_) |refine aU rfl ?_ |refine Aa ?_)
  (refine aC rfl ?_ ?_<;>rintro⟨⟩)
  refine aK ?_
  (repeat first|refine tA rfl ?_ |refine aU rfl ?_ |refine Aa ?_)
  refine rG (J6 [6]) (by kernel_rfl) ?_
  (repeat first|refine tA rfl ?_)
  (refine Ai rfl ?_;refine FT ?_ rfl (by rfl);refine az (s:=Ff G) (l:=Nm m.F) rfl rfl rfl rfl hks hpw rfl hwf hf ?_)
  rw [←hap]
  refine Aa ?_
  (repeat first|refine aU rfl ?_)
  refine rG (fO [(4,0),(7,1),(10,1)]) (by kernel_rfl) ?_
  (repeat first|refine tA rfl ?_)
  (refine pW rfl ?_ rfl (by rfl);refine AY rfl rfl rfl (by first| (simp;done)|(simp;(omega))) rfl (by intro r hr;simp at hr;subst hr;rfl) (by rfl) (Nat.le_of_ble_eq_true rfl) (by simp;omega) ?_)
  (repeat first|refine tA rfl ?_ |refine aU rfl ?_ |refine Aa ?_)
  (repeat first|refine tA rfl ?_|(refine Ai rfl ?_;refine gA rfl ?_;first| refine gS (fun _ _=>AJ rfl rfl (by rfl) (by rfl)) ?_))
  (refine pW rfl ?_ rfl (by rfl);refine AY rfl rfl rfl (by first| (simp;done)|(simp;(omega))) rfl (by intro r hr;simp at hr;subst hr;rfl) (by rfl) (Nat.le_of_ble_eq_true rfl) (by simp;omega) ?_)
  (repeat first|refine tA rfl ?_ |refine aU rfl ?_ |refine Aa ?_)
  refine Av.Cs [0,7,8,53,54] [] rfl rfl [] [(0,.cells 209 14 [Xx t (.arr 1 12 0 (HP t m G).F.length) (.mp 2) (.arr 3 6 0 (HP t m G).nx.length) (.arr 4 1 0 m.un.length)]),(1,.cells 213 12 ((HP t m G).F.map Oc)),(2,.mp (mapA .u16 (Nm (HP t m G).F))),(3,.cells 148 6 ((HP t m G).nx.map N9)),(4,.cells 4 1 (m.un.map BE))] [0,5,2,6,4] (rl hΓ rfl) (by (simp[cX,zC,hΓ,AH,HP]<;>rfl)) ?_;(try dsimp only[cA,cB])
  refine aB ?_
  refine aL (α:={k:Nat // k≤12}) [0,7,53] [0,1,2,3,4] rfl rfl (fun s=>[(8,eB (FD t G s.1)),(54,eI .i64 s.1)]) (fun s=>[]) 5 (fun s=>12 - s.1) (⟨0,by omega⟩) hΓ rfl (by (simp[cX,zC,hΓ,AH]<;>rfl)) ?_;rintro⟨k,hk⟩;(try dsimp only[cA,cB])
  by_cases hkl:k < 12
  ·have hx:(Ff G)[((k:Nat):Int).toNat]? = some (G k:Int):=by rw [Int.toNat_natCast];exact HJ hkl
   have hs:=Im (t:=t) (F:=G) (k:=k)
   generalize FD t G k=b0 at *
   by_cases hkn:k < t.q.nx.length
   ·obtain⟨b,hb⟩:=get_some (l:=t.q.ac) (k:=((k:Nat):Int).toNat) (by omega)
    have hb':=get_map (g:=Gh) hb
    have hgd:t.q.ac.getD k false=b:=by rw [Int.toNat_natCast] at hb;simp [List.getD,hb]
    rw [hgd] at hs
    (repeat first|refine s2 rfl fun _ _hb=>?_ |refine aU rfl ?_ |refine Aa ?_)
    ((refine aC rfl ?_ ?_<;>rintro⟨⟩);all_goals try(exfalso;(simp only[oZ] at *;omega)))
    refine aK ?_
    refine aS (aB ?_)
    (repeat' first|(refine sA rfl ?_ ?_;first|exact tI|omega) |(refine s4 rfl ‹_› rfl ?_ ?_;omega) |refine s2 rfl fun _ _hb=>?_|(refine Ai rfl ?_;refine gA rfl ?_;first| refine gS (fun _ _=>Jt (l:=Ff G) rfl rfl rfl (by omega) hx) ?_) |refine s3 rfl ?_ ?_<;>rintro rfl |refine aU rfl ?_ |refine Aa ?_|(refine aC rfl ?_ ?_<;>rintro⟨⟩));all_goals try contradiction
    all_goals ((try refine aK ?_);refine⟨⟨k+1,by omega⟩,by dsimp only;(omega),[0,1,2,3,4],?_⟩;simp only [decide_eq_true_eq,decide_eq_false_iff_not] at *;simp[cX,zC,hΓ,AH,hs];try (simp_all;done))
   ·have hz:=hG.z k (by omega)
    rw [hz] at hs
    (repeat first|refine s2 rfl fun _ _hb=>?_ |refine aU rfl ?_ |refine Aa ?_)
    ((refine aC rfl ?_ ?_<;>rintro⟨⟩);all_goals try(exfalso;(simp only[oZ] at *;omega)))
    refine aK ?_
    refine aS (aB ?_)
    (repeat' first|(refine sA rfl ?_ ?_;first|exact tI|omega) |refine s2 rfl fun _ _hb=>?_|(refine Ai rfl ?_;refine gA rfl ?_;first| refine gS (fun _ _=>Jt (l:=Ff G) rfl rfl rfl (by omega) hx) ?_) |refine s3 rfl ?_ ?_<;>rintro rfl |refine aU rfl ?_ |refine Aa ?_|(refine aC rfl ?_ ?_<;>rintro⟨⟩));all_goals try contradiction
    all_goals first| (exfalso;(simp only[oZ] at *;omega);done)|skip
    all_goals ((try refine aK ?_);refine⟨⟨k+1,by omega⟩,by dsimp only;(omega),[0,1,2,3,4],?_⟩;simp[cX,zC,hΓ,AH,hs];try (simp_all;done))
  ·obtain rfl:k=12:=by omega
   rw [Uh hG (by omega)]
   (repeat first|refine s2 rfl fun _ _hb=>?_ |refine aU rfl ?_ |refine Aa ?_)
   ((refine aC rfl ?_ ?_<;>rintro⟨⟩);all_goals try(exfalso;(simp only[oZ] at *;omega)))
   refine aE ?_
   (repeat first|refine tA rfl ?_ |refine aU rfl ?_)
   (refine pW rfl ?_ rfl (by rfl);refine AY rfl rfl rfl (by first| (simp;done)|(simp;(omega))) rfl (by intro r hr;simp at hr;subst hr;rfl) (by rfl) (Nat.le_of_ble_eq_true rfl) (by simp;omega) ?_)
   (repeat first|refine tA rfl ?_ |refine aU rfl ?_ |refine Aa ?_)
   refine aR ⟨_,rfl,[0,1,2,3,5],eI .i64 (m.F.length:Int),K0 t (HP t m G),⟨by intro i hi;match i with|0=>rfl,by decide⟩,rfl,by (simp[cX,zC,hΓ,AH,HP]),rfl,rfl,rfl⟩
def eu(m m':Fm):Prop:=∀(i:Nat) F,m.F[i]? = some F→m'.F[i]? = some F
theorem XV{t:B1}{m:Fm}{G:PS}:eu m (HP t m G):=fun _ _ h=>IW h
def UX(m:Fm)(n:Nat)(r:List Int):Fm:={ m with nx:=m.nx.set n r }
theorem Y9{t:B1}{ok:W→Prop}{m:Fm}(hm:HT t ok m){n k l:Nat}{F:PS}{r:List Int}(hF:m.F[n]? = some F)(hr:m.nx[n]? = some r)(hl:l < 6)(hk:m.F[k]? = some (Ev t l F)):HT t ok (UX m n (r.set l k)):=by
 refine⟨by simp [UX,hm.l1],hm.l2,hm.nd,hm.rc,hm.rk,hm.un,fun i G hG=>?_⟩
 replace hG:m.F[i]? = some G:=hG
 by_cases e:i=n
 ·subst e
  rw [hF] at hG;injection hG with hG;subst hG
  obtain⟨r',h1,h2,h3⟩:=hm.nx i F hF
  rw [hr] at h1;injection h1 with h1;subst h1
  have hlt:=(List.getElem?_eq_some_iff.1 hr).1
  refine⟨r.set l k,by simp [UX,hlt],by simp [h2],fun l' hl'=>?_⟩
  by_cases e2:l'=l
  ·subst e2
   exact⟨k,by simp [h2,hl'],.inr ⟨k,rfl,hk⟩⟩
  ·obtain⟨x,h4,h5⟩:=h3 l' hl'
   exact⟨x,by rw [List.getElem?_set_ne (fun h=>e2 h.symm)];exact h4,h5⟩
 ·obtain⟨r',h1,h2,h3⟩:=hm.nx i G hG
  exact⟨r',by simp only [UX];rw [List.getElem?_set_ne (fun h=>e h.symm)];exact h1,h2,h3⟩
theorem Tw{r:List Int}{l:Nat}{x:Int}(h:r[l]? = some x):(N9 r)[l]? = some (.d (iD x)):=by simp [h]
theorem YK{r:List Int}{l:Nat}{x:Int}(h:l < r.length):AE (N9 r) l [.d (iD x)]=N9 (r.set l x):=by
 rw [GF (by simpa using h)]
 unfold N9
 rw [List.map_set]
theorem VB[Fo TB]{t:B1}{ok:W→Prop}(ht:A1 t=true)(hfew:ZC t ok){m:Fm}(hm:HT t ok m){n:Nat}{F:PS}(hF:m.F[n]? = some F){l:Int}(hl:0≤l∧l < 6)(hrk:dR t ok (Ev t l F)):∃(m':Fm) (j:Nat),HT t ok m'∧eu m m'∧m'.F[j]? = some (Ev t l F)∧
 A3 Tryz.prog TB 209 1 (K0 t m) 5 [.o (.ptr 0 14 0 0),eI .i64 (n:Int),eI .i64 l] (fun x σ nx=>x=eI .i64 (j:Int)∧σ=K0 t m'∧nx=5):=by
 have hlen:=hfew m.F hm.nd hm.rk
 obtain⟨r,hr,hrl,hrx⟩:=hm.nx n F hF
 have hn:=(List.getElem?_eq_some_iff.1 hF).1
 have h1:=hm.l1
 obtain⟨x,hx,hxx⟩:=hrx l.toNat (by omega)
 have el:((l.toNat:Nat):Int)=l:=by omega
 rw [el] at hxx
 have hFo:=(hm.rc F (List.mem_of_getElem? hF)).ok ht
 have hr':(m.nx.map N9)[0+((n:Nat):Int).toNat]? = some (N9 r):=by rw [Nat.zero_add,Int.toNat_natCast];simp [hr]
 have hx':(N9 r)[0+l.toNat*1]? = some (.d (iD x)):=by rw [Nat.zero_add,Nat.mul_one];exact Tw hx
 by_cases hx0:x < 0
 ·have hG:=Mh ht hl hFo
  have hGr:Reach t (Ev t l F):=.next hl.1 hl.2 (hm.rc F (List.mem_of_getElem? hF))
  obtain⟨m1,k,hcase,hadd⟩:=VA (TB:=TB) ht hm hlen hG
  have hm1:HT t ok m1∧eu m m1∧m1.F[k]? = some (Ev t l F):=by
   rcases hcase with ⟨rfl,h2⟩|⟨rfl,rfl,h2⟩
   ·exact⟨hm,fun _ _ h=>h,h2⟩
   ·exact⟨SL hm hGr hrk h2,XV,by simp [HP]⟩
  obtain⟨hm1,hle,hk⟩:=hm1
  have hF1:=hle n F hF
  obtain⟨r1,hr1,hrl1,_⟩:=hm1.nx n F hF1
  have hn1:=(List.getElem?_eq_some_iff.1 hr1).1
  have hok:=Y9 (l:=l.toNat) hm1 hF1 hr1 (by omega) (k:=k) (by rw [el];exact hk)
  refine⟨_,k,hok,hle,hk,?_⟩
  have hmv:=Tp (TB:=TB) ht m hl hFo
  have hcl:=PG (TB:=TB) ht m (Kg ht hl hFo)
  have hs':(m.F.map Oc)[0+((n:Nat):Int).toNat]? = some (Oc F):=by rw [Nat.zero_add,Int.toNat_natCast];simp [hF]
  refine A3.AW (A3.YL (m:=1) (Nat.le_of_ble_eq_true rfl) Tryz.func209 rfl (by kernel_rfl) (Nat.le_of_ble_eq_true rfl) ?_);intro Γ hΓ
  (repeat first|(refine sA rfl ?_ ?_;first|exact tI|omega) |refine s2 rfl fun _ _hb=>?_|(refine Ai rfl ?_;refine gA rfl ?_;first| refine gQ (Mt rfl rfl (by assumption) hx') rfl ?_) |refine aU rfl ?_ |refine Aa ?_)
  ((refine aC rfl ?_ ?_<;>rintro⟨⟩);all_goals try(exfalso;(simp only[oZ] at *;omega)))
  (repeat first|(refine sA rfl ?_ ?_;first|exact tI|omega) |refine t4 rfl ‹_› rfl ?_ |refine aU rfl ?_)
  (refine pW rfl ?_ rfl (by rfl);refine Cr [0,1,2,3,4] rfl rfl (hmv) ⟨rfl,by decide,by decide⟩ rfl (by simp[cX,zC,hΓ,AH]) ?_;rintro x0 σ1 nx1 ⟨rfl,rfl,rfl⟩ _)
  (refine pW rfl ?_ rfl (by rfl);refine Cr [0,1,2,3,4] rfl rfl (hcl) ⟨rfl,by decide,by decide⟩ rfl (by simp[cX,zC,hΓ,AH]) ?_;rintro x0 σ1 nx1 ⟨rfl,rfl,rfl⟩ _)
  (refine pW rfl ?_ rfl (by rfl);refine Ez [0,1,2,3,4] rfl rfl 1 (hadd) (by decide) ⟨rfl,by decide,by decide⟩ rfl (by simp[cX,zC,hΓ,AH]) ?_;rintro x0 σ1 nx1 ⟨rfl,rfl,rfl⟩ _)
  (repeat first|refine tA rfl ?_)
  refine Aa ?_
  refine Av.Cs [0,1,2,7] [] rfl rfl [] [(0,.cells 209 14 [Xx t (.arr 1 12 0 m1.F.length) (.mp 2) (.arr 3 6 0 m1.nx.length) (.arr 4 1 0 m1.un.length)]),(1,.cells 213 12 (m1.F.map Oc)),(2,.mp (mapA .u16 (Nm m1.F))),(3,.cells 148 6 (m1.nx.map N9)),(4,.cells 4 1 (m1.un.map BE))] [0,5,6,7,8] (rl hΓ rfl) (by (simp[cX,zC,hΓ,AH])) ?_;(try dsimp only[cA,cB])
  have hr1':(m1.nx.map N9)[0+((n:Nat):Int).toNat]? = some (N9 r1):=by rw [Nat.zero_add,Int.toNat_natCast];simp [hr1]
  have hst:=YK (r:=r1) (l:=l.toNat) (x:=(k:Int)) (by omega)
  have hr2l:(r1.set l.toNat (k:Int))[l.toNat]? = some (k:Int):=by rw [List.getElem?_set_self (by omega)]
  generalize r1.set l.toNat (k:Int)=r2 at *
  have hst2:(N9 r1).take l.toNat++C.d (iD k)::(N9 r1).drop (l.toNat+1)=N9 r2:=by rw [←hst];simp [AE]
  (repeat first|(refine sA rfl ?_ ?_;first|exact tI|omega) |refine aU rfl ?_)
  (refine Ai rfl ?_;refine FT ?_ rfl (by rfl);refine Ea (r:=N9 r1) rfl rfl rfl rfl hr1' rfl (by show 0+l.toNat*1+1≤6;omega) ?_)
  refine Aa ?_
  refine Av.Cs [0,1,2] [] rfl rfl [] [(0,.cells 209 14 [Xx t (.arr 1 12 0 m1.F.length) (.mp 2) (.arr 3 6 0 m1.nx.length) (.arr 4 1 0 m1.un.length)]),(1,.cells 213 12 (m1.F.map Oc)),(2,.mp (mapA .u16 (Nm m1.F))),(3,.cells 148 6 ((m1.nx.set n r2).map N9)),(4,.cells 4 1 (m1.un.map BE))] [0,1,2,3,4] (rl hΓ rfl) (by (simp[cX,zC,hΓ,AH,hst2])) ?_;(try dsimp only[cA,cB])
  have hr2:((m1.nx.set n r2).map N9)[0+((n:Nat):Int).toNat]? = some (N9 r2):=by rw [Nat.zero_add,Int.toNat_natCast];simp [hn1]
  have hx2:(N9 r2)[0+l.toNat*1]? = some (.d (iD k)):=by rw [Nat.zero_add,Nat.mul_one];exact Tw hr2l
  (repeat first|(refine sA rfl ?_ ?_;first|exact tI|omega)|(refine Ai rfl ?_;refine gA rfl ?_;first| refine gQ (Mt rfl rfl (by assumption) hx2) rfl ?_) |refine aU rfl ?_ |refine Aa ?_)
  refine aR ⟨_,rfl,[0,1,2,3,4],eI .i64 (k:Int),K0 t (UX m1 n r2),⟨by intro i hi;match i with|0=>rfl,by decide⟩,rfl,by (simp[cX,zC,hΓ,AH,UX]),rfl,rfl,rfl⟩
 ·obtain⟨j,rfl,hj⟩:=hxx.resolve_left hx0
  refine⟨m,j,hm,fun _ _ h=>h,hj,?_⟩
  refine A3.AW (A3.YL (m:=1) (Nat.le_of_ble_eq_true rfl) Tryz.func209 rfl (by kernel_rfl) (Nat.le_of_ble_eq_true rfl) ?_);intro Γ hΓ
  (repeat first|(refine sA rfl ?_ ?_;first|exact tI|omega) |refine s2 rfl fun _ _hb=>?_|(refine Ai rfl ?_;refine gA rfl ?_;first| refine gQ (Mt rfl rfl (by assumption) hx') rfl ?_) |refine aU rfl ?_ |refine Aa ?_)
  ((refine aC rfl ?_ ?_<;>rintro⟨⟩);all_goals try(exfalso;(simp only[oZ] at *;omega)))
  refine aK ?_
  (repeat first|(refine sA rfl ?_ ?_;first|exact tI|omega)|(refine Ai rfl ?_;refine gA rfl ?_;first| refine gQ (Mt rfl rfl (by assumption) hx') rfl ?_) |refine aU rfl ?_ |refine Aa ?_)
  refine aR ⟨_,rfl,[0,1,2,3,4],eI .i64 (j:Int),K0 t m,⟨by intro i hi;match i with|0=>rfl,by decide⟩,rfl,by (simp[cX,zC,hΓ,AH]),rfl,rfl,rfl⟩
end Go.Am
namespace Go.Am
open Go
set_option linter.unusedVariables false
section
variable {P:Program}{TB:Be}{Γ:Ctx}{d:Option Tmp}{ty:TypeId}{pos:String}{af:Array Edge}{g:Option (Nat×Bool)}{f:Env}{σ:Ab}{nx:Nat}
theorem fm{gg:FuncId}{x:Operand}{c:C}(hx:ev f x=some (.o c)):AV P TB Γ ⟨d,.makeFunc (.func gg) #[x] #[],ty,pos,af,g⟩ f σ nx (.o (.mv gg [c])):=
 AA fun V ρ h1 _=>by
  refine⟨.func (.func gg) #[ρ x] #[],by simp [execOp,Instr.makeFunc,go_sem],Ax.mv rfl fun j c' v hj hv=>?_⟩
  have h2:Ax V c (ρ x):=h1.get (by simp [Op.operands]) hx
  match j with
  | 0=>simp at hj hv;subst hj;subst hv;exact h2
  | j+1=>simp at hj
theorem ay{V:View}{gg:FuncId}{recv:List C}{v:Value}(h:A2 V (.o (.mv gg recv)) v):∃vs,v=.func (.func gg) vs #[]∧Cy V recv vs:=by
 have h:Ax V (.mv gg recv) v:=h
 generalize hc:C.mv gg recv=c at h
 cases h<;>cases hc
 rename_i vs h1 h2
 exact⟨vs,rfl,h1,h2⟩
theorem Ru{x:Operand}{args:Array Operand}{tys:Array TypeId}{gg:FuncId}{vs:Array Value}(hf:Vt P gg){ρ:Operand→Value}(hv:ρ x=.func (.func gg) vs #[])(w:World) :
 (execOp ρ ⟨d,.call ⟨.value x,args,tys⟩,ty,pos,af,g⟩).run P w=.ok (.enter gg (vs++args.map ρ)) w:=by
 obtain⟨fn,h1,h2,h3⟩:=hf
 have hb:∃c,fn.body=some c:=by cases hb:fn.body with|none=>rw [hb] at h3;cases h3|some c=>exact⟨c,rfl⟩
 obtain⟨c,hb⟩:=hb
 simp only [execOp,resolve,hv,Deferred.ofValue,pure_bind,invoke,callFunc]
 have h2':¬fn.name = "runtime.NumGoroutine" := by simpa using h2
 simp [Sem.run,program,h1,h2',hb,go_sem]
theorem WU{x:Operand}{args:Array Operand}{tys:Array TypeId}{gg:FuncId}{recv:List C}{es:List E}{r:E}(hx:ev f x=some (.o (.mv gg recv)))(hes:HU f args.toList=some es)(hp:(es.all E.AL && C.A5 recv)=true)
 (hs:Pure P TB gg (recv.map .o++es) r) (hr:r.AL=true):AV P TB Γ ⟨d,.call ⟨.value x,args,tys⟩,ty,pos,af,g⟩ f σ nx r:=by
 intro V a h1 h2 h3
 have h1:=h1.FG
 unfold Oper.wp
 generalize a.eval=ρ at h1 ⊢
 obtain⟨vs,hv,hcap⟩:=ay (h1.get (x:=x) (by simp [Op.operands,Call.operands]) hx)
 rw [Ru hs.1 hv]
 rw [Bool.and_eq_true] at hp
 have hel:=BY hes
 have hargs:KO { V with nx:=0 } (recv.map .o++es) (vs++args.map ρ):=by
  refine⟨by simp [hcap.1,hel],fun j e v hj hv=>?_⟩
  have hsz:vs.size=recv.length:=hcap.1
  by_cases hlt:j < recv.length
  ·rw [List.getElem?_append_left (by simpa using hlt)] at hj
   rw [Array.getElem?_append_left (by rw [hsz];exact hlt)] at hv
   simp only [List.getElem?_map,Option.map_eq_some_iff] at hj
   obtain⟨c,hc,rfl⟩:=hj
   exact Ax.AL (V:=V) (V':={ V with nx:=0 }) rfl rfl (hcap.2 _ c v hc hv) (Ej _ hp.2 _ c hc)
  ·rw [List.getElem?_append_right (by simp;omega)] at hj
   rw [Array.getElem?_append_right (by rw [hsz];omega),hsz] at hv
   simp only [List.length_map] at hj
   refine A2.AL (V:=V) (V':={ V with nx:=0 }) rfl rfl (FA (fun y hy e he=>h1.get (by simp [Op.operands,Call.operands];right;simpa using hy) he) hes _ e v hj (by rw [←Array.toList_map];simpa using hv)) (List.all_eq_true.1 hp.1 e (List.mem_of_getElem? hj))
 obtain⟨S,hS,hSJ,hSB⟩:=h2.hid
 refine(hs.2 { V with nx:=0 } _ S ⟨h2.iLt,Dh,h2.tabs,rfl,⟨hS.r,hS.ji,hS.bi,fun b ⟨_,_,h,_⟩=>by cases h⟩⟩ hargs).mono ?_
 rintro e w' ⟨V1,v,x1,σ1,rfl,rfl,hi1,hx1,rfl⟩
 obtain⟨hi',he'⟩:=Ik h2 hS hSJ hSB (Vc:={ V with nx:=0 }) rfl hi1 V1.I (fun b hb=>hi1.ext.i b hb) (fun b hb=>by
  rcases hi1.iNew b hb with h|h|h|h
  ·exact .inl h
  ·exact .inr (.inl ⟨h,hi1.iLt b hb⟩)
  ·obtain⟨_,_,h,_⟩:=h;cases h
  ·exact .inr (.inr h)) (fun b hb _=>hb) (fun b hb=>hb)
 exact⟨{ V with I:=V1.I,w:=V1.w },v,rfl,rfl,he',hi',h3,A2.AL (V:=V1) (V':={ V with I:=V1.I,w:=V1.w }) rfl rfl hx1 hr⟩
end
abbrev GP(r:Nat):C:=.d (.v (.pointer (some ⟨r,0,none⟩)))
theorem WS{P:Program}{tabs:List (Nat×Obj)}{H:Hid}{r:Nat}{gg:FuncId}{k:Nat}{es:List E}{x0:E}(hf:Vt P gg)(hsc:∀e∈es,e.sc=true)(hx:x0.sc=true)
 (h:∀s,A3 P ⟨tabs,none⟩ gg 1 (H.st s) H.nx (.o (.ptr 0 k 0 0)::es) (fun x σ nx=>x=x0∧nx=H.nx∧∃s',σ=H.st s')):Pure P ⟨tabs,some (H,r)⟩ gg (.o (GP r)::es) x0:=by
 refine⟨hf,fun V vs S hg ha=>?_⟩
 have hr:∃(s:H.S) (V0:View),V0.I=S.J∧V0.w=V.w∧V0.nx=H.nx∧Fy V0 (H.st s)∧(0 < V0.nx∧V0.ρ 0=r∧¬V0.nl 0∧∀x∈(⟨tabs,some (H,r)⟩:Be),V0.I x.1)∧∀b,S.B b↔CK V0 (H.st s) b:=hg.hid.r
 obtain⟨s,V0,e1,e2,e3,st,⟨n0,ρ0,nl0,tb⟩,hB⟩:=hr
 have hgood:Good ⟨tabs,none⟩ V0 (H.st s) H.nx ⟨fun _=>False,fun _=>False⟩:=
  ⟨fun b hb=>by rw [e2];exact hg.iLt b (hg.hid.ji b (by rw [←e1];exact hb)),st,fun x hx=>⟨tb x hx,by rw [e2];exact(hg.tabs x hx).2⟩,e3,⟨fun _ h=>h,fun _ h=>h.elim,fun _ h=>h.elim,fun _ _ h=>h⟩⟩
 have hargs:KO V0 (.o (.ptr 0 k 0 0)::es) vs:=by
  refine⟨ha.1,fun j e v hj hv=>?_⟩
  match j with
  | 0=>
   injection hj with hj
   subst hj
   have h1:=ha.2 0 (.o (GP r)) v rfl hv
   have h2:v=.pointer (some ⟨r,0,none⟩):=Ax.val h1
   subst h2
   have:=Ax.ptr (V:=V0) (id:=0) (k:=k) (i:=0) (j:=0) n0 nl0
   rw [ρ0,Nat.zero_mul] at this
   exact this
  | j+1=>exact Sg (ha.2 (j+1) e v hj hv) (hsc e (List.mem_of_getElem? hj))
 have hrun:=(h s).2 V0 vs _ hgood hargs
 rw [e2] at hrun
 refine hrun.mono ?_
 rintro e w' ⟨V1,v,x,σ',rfl,rfl,hi,hx1,rfl,hn,s',rfl⟩
 have hsz:V.w.heap.size≤V1.w.heap.size:=by have h9:V0.w.heap.size≤_:=hi.ext.size;rw [e2] at h9;exact h9
 have hold:∀b,b < V.w.heap.size→¬S.B b→V1.w.heap[b]? = V.w.heap[b]?:=fun b hb hn=>by
  have h9:V1.w.heap[b]? = V0.w.heap[b]?:=hi.old b (by show b < V0.w.heap.size;rw [e2];exact hb) fun h=>h.elim (fun h=>hn ((hB b).2 h)) fun h=>h
  rw [h9,e2]
 have hnew:∀b,V1.I b→S.J b∨V.w.heap.size≤b∨S.B b:=fun b hb=>by
  rcases hi.iNew b hb with h9|h9|h9|h9
  ·exact .inl (by rw [←e1];exact h9)
  ·have h9:V0.w.heap.size≤b:=h9
   rw [e2] at h9;exact .inr (.inl h9)
  ·exact .inr (.inr ((hB b).2 h9))
  ·exact h9.elim
 have hlv:∀b,CK V1 (H.st s') b→V.w.heap.size≤b∨S.B b:=fun b ⟨id,o,g1,g2,g3⟩=>by
  rcases hi.live id o g1 g2 b g3 with h9|h9|h9
  ·have h9:V0.w.heap.size≤b:=h9
   rw [e2] at h9;exact .inl h9
  ·exact .inr ((hB b).2 h9)
  ·exact h9.elim
 have e:Ext V { V with I:=fun b=>V.I b∨V1.I b,w:=V1.w } := ⟨fun _ h=>.inl h,fun b hb=>hold b (hg.iLt b hb) fun h=>hg.hid.bi b h hb,hsz,fun _ _=>rfl,fun _ _=>rfl,fun _ _=>Iff.rfl,Nat.le_refl _⟩
 refine⟨{ V with I:=fun b=>V.I b∨V1.I b,w:=V1.w },v,x,[],rfl,rfl,⟨?_,?_,?_,fun b hb hf=>hold b hb fun h=>hf (.inr h),fun b hb=>?_,fun b hb=>?_,e,Dh,fun id o ho=>(by cases ho),fun y hy=>⟨.inl (hg.tabs y hy).1,?_⟩,⟨⟨CK V1 (H.st s'),V1.I⟩,⟨?_,fun b hb=>.inr hb,fun b hb hI=>?_,fun b ⟨_,_,h,_⟩=>by cases h⟩,fun b hb=>?_,fun b hb=>?_⟩⟩,Sg hx1 hx,rfl⟩
 ·have h9:V1.w.os=V0.w.os:=hi.os
  rw [e2] at h9;exact h9
 ·have h9:V1.w.tape=V0.w.tape:=hi.tape
  rw [e2] at h9;exact h9
 ·have h9:V1.w.output=V0.w.output:=hi.output
  rw [e2] at h9;exact h9
 ·rcases hb with hb|hb
  ·exact Nat.lt_of_lt_of_le (hg.iLt b hb) hsz
  ·exact hi.iLt b hb
 ·rcases hb with hb|hb
  ·exact .inl hb
  ·rcases hnew b hb with h9|h9|h9
   ·exact .inl (hg.hid.ji b h9)
   ·exact .inr (.inl h9)
   ·exact .inr (.inr (.inr h9))
 ·exact(hold _ (hg.iLt _ (hg.tabs y hy).1) fun h=>hg.hid.bi _ h (hg.tabs y hy).1).trans (hg.tabs y hy).2
 ·exact⟨s',V1,rfl,rfl,hn,hi.st,⟨by rw [hn,←e3];exact n0,by rw [←ρ0];exact hi.ext.ρ 0 Nat.zero_lt_one,fun h=>nl0 ((hi.ext.nl 0 Nat.zero_lt_one).1 h),fun y hy=>hi.ext.i _ (tb y hy)⟩,fun _=>Iff.rfl⟩
 ·have hb':=hb
  obtain⟨id,o,g1,g2,g3⟩:=hb
  rcases hI with hI|hI
  ·rcases hlv b hb' with h9|h9
   ·have:=hg.iLt b hI;omega
   ·exact hg.hid.bi b h9 hI
  ·exact hi.st.free id o g1 g2 b g3 hI
 ·rcases hnew b hb with h9|h9|h9
  ·exact .inl h9
  ·exact .inr (.inl h9)
  ·exact .inr (.inr (.inr h9))
 ·rcases hlv b hb with h9|h9
  ·exact .inl h9
  ·exact .inr (.inr h9)
inductive CH (i r:Nat):C→C→Prop
 | AU {c:C}:CH i r c c
 | ptr {k:Nat}:CH i r (.ptr i k 0 0) (GP r)
 | mv {gg:FuncId} {k:Nat}:CH i r (.mv gg [.ptr i k 0 0]) (.mv gg [GP r])
theorem CH.rel{V:View}{i r:Nat}(hr:V.ρ i=r){c c':C}{v:Value}(h:CH i r c c')(hc:Ax V c v):Ax V c' v:=by
 have hp:∀ {k:Nat} {v:Value},Ax V (.ptr i k 0 0) v→Ax V (GP r) v:=fun {k v} hc=>by
  cases hc with
  | ptr h1 h2=>rw [Nat.zero_mul,hr];exact .d (.v rfl)
 cases h with
 | AU=>exact hc
 | ptr=>exact hp hc
 | mv =>
  cases hc with
  | mv h1 h2=>
   refine .mv (by rw [h1];rfl) fun j c v hj hv=>?_
   match j with
   | 0=>injection hj with hj;subst hj;exact hp (h2 0 _ v rfl hv)
   | j+1=>simp at hj
inductive LH (i r:Nat):List C→List C→Prop
 | nil:LH i r [] []
 | cons {c c':C} {l l':List C}:CH i r c c'→LH i r l l'→LH i r (c::l) (c'::l')
theorem LH.len{i r:Nat}{l l':List C}(h:LH i r l l'):l'.length=l.length:=by
 induction h with
 | nil=>rfl
 | cons _ _ ih=>simp [ih]
theorem LH.get{i r:Nat}{l l':List C}(h:LH i r l l'):∀(j:Nat) c',l'[j]? = some c'→∃c,l[j]? = some c∧CH i r c c':=by
 induction h with
 | nil=>intro j c' h;simp at h
 | @cons c0 c0' cs cs' h1 _ ih=>
  intro j c' hj
  cases j with
  | zero=>simp at hj;subst hj;exact⟨c0,rfl,h1⟩
  | succ j=>exact ih j c' (by simpa using hj)
inductive EH (i r:Nat):E→E→Prop
 | AU {e:E}:EH i r e e
 | o {c c':C}:CH i r c c'→EH i r (.o c) (.o c')
 | a {l l':List C}:LH i r l l'→EH i r (.a l) (.a l')
theorem EH.rel{V:View}{i r:Nat}(hr:V.ρ i=r){e e':E}{v:Value}(h:EH i r e e')(hc:A2 V e v):A2 V e' v:=by
 cases h with
 | AU=>exact hc
 | o h=>exact h.rel hr hc
 | a h=>
  obtain⟨vs,h1,h2,h3⟩:=hc
  refine⟨vs,h1,by rw [h2,h.len],fun j c v hj hv=>?_⟩
  obtain⟨c0,h4,h5⟩:=h.get j c hj
  exact h5.rel hr (h3 j c0 v h4 hv)
def Vq(i r:Nat)(f:Env):List (Nat×E)→Prop
 | []=>True
 | (t,e')::L=>(∃e,f t=some e∧EH i r e e')∧Vq i r f L
theorem Vq.get{i r:Nat}{f:Env}:∀ {L:List (Nat×E)},Vq i r f L→∀t e',look L t=some e'→∃e,f t=some e∧EH i r e e'
 | [],_,t,e,h=>by cases h
 | (k,x)::L,hs,t,e,h=>by
  rw [Au] at h
  by_cases hk:k=t
  ·rw [if_pos hk] at h;injection h with h;subst h;subst hk;exact hs.1
  ·rw [if_neg hk] at h;exact Vq.get hs.2 t e h
def cd(i r:Nat)(l:List Nat)(σ:Ab):Ab→Prop
 | []=>True
 | (id,o')::S=>(id∉l∧(look σ id=some o'∨∃T k rw rw',o'=.cells T k [rw']∧look σ id=some (.cells T k [rw])∧LH i r rw rw'))∧cd i r l σ S
theorem cd.get{i r:Nat}{l:List Nat}{σ:Ab}:∀ {S:Ab},cd i r l σ S→∀id o',look S id=some o'→id∉l∧(look σ id=some o'∨∃T k rw rw',o'=.cells T k [rw']∧look σ id=some (.cells T k [rw])∧LH i r rw rw')
 | [],_,id,o,h=>by cases h
 | (k,x)::L,hs,id,o,h=>by
  rw [Au] at h
  by_cases hk:k=id
  ·rw [if_pos hk] at h;injection h with h;subst h;subst hk;exact hs.1
  ·rw [if_neg hk] at h;exact cd.get hs.2 id o h
section
variable {P:Program}{tabs:List (Nat×Obj)}{Γ:Ctx}{N:Nat}{σ:Ab}
theorem Inv.forget{TB:Be}{J:Nat→Prop}{V:View}(h:Inv TB ⟨Γ.V,Γ.F,J⟩ V σ):Inv ⟨TB.tabs,none⟩ Γ V σ:=
 ⟨h.os,h.tape,h.output,h.old,h.iLt,h.iNew,h.ext,h.st,h.live,h.tabs,⟨⟨fun _=>False,fun _=>False⟩,⟨fun _ h=>h,fun _ h=>h.elim,fun _ h=>h.elim,fun _ _ h=>h⟩,fun _ h=>h.elim,fun _ h=>h.elim⟩⟩
theorem Av.Wo{c:Code}{Q:Exit→Env→Ab→Nat→Prop}{f:Env}{nx:Nat}(H:Hid)(s:H.S)(i:Nat)(l:List Nat)(L:Nat→List (Nat×E))(S:Nat→Ab)(hn:(i::l).Nodup)(hln:(i::l).length=H.nx)(hS:AQ (nm (i::l) nx) σ (H.st s))(h0:∃T k r rs,look (H.st s) 0=some (.cells T k (r::rs)))
 (hE:∀r,Vq i r f (L r)) (hSt:∀r,cd i r (i::l) σ (S r)) (h:∀r Γ',Γ'.V=Γ.V→Av P ⟨tabs,some (H,r)⟩ Γ' N c Q (look (L r)) (S r) nx):Av P ⟨tabs,none⟩ Γ N c Q f σ nx:=by
 intro V a hr
 have hi:=hr.inv
 have hnx:=hr.nx
 subst hnx
 have hrn:∀id,nm (i::l) V.nx id < V.nx→id < (i::l).length:=fun id=>N8
 have hidl:∀id o,look (H.st s) id=some o→id < (i::l).length:=fun id o ho=>hrn id (hi.st.lt _ _ (hS.get id o ho))
 have hmem:∀id o,look (H.st s) id=some o→nm (i::l) V.nx id∈i::l:=fun id o ho=>by
  rw [Er (hidl id o ho)];exact List.getElem_mem _
 have hS0:Fy (V.AW (nm (i::l) V.nx) (i::l).length) (H.st s):=by
  refine⟨fun id o ho=>BN.AW hrn (hi.st.obj _ _ (hS.get id o ho)),hidl,fun id o ho hnl b hb=>hi.st.free _ _ (hS.get id o ho) hnl b (BB.1 hb),?_⟩
  intro id id' o o' ho ho' hne hnl hnl' b hb hb'
  refine hi.st.inj _ _ _ _ (hS.get id o ho) (hS.get id' o' ho') ?_ hnl hnl' b (BB.1 hb) (BB.1 hb')
  have h3:=hidl id o ho
  have h4:=hidl id' o' ho'
  rw [Er h3,Er h4]
  intro he
  have hp:=List.pairwise_iff_getElem.1 hn
  rcases Nat.lt_or_gt_of_ne hne with h5|h5
  ·exact hp _ _ h3 h4 h5 he
  ·exact hp _ _ h4 h3 h5 he.symm
 have hnl0:¬V.nl i:=by
  obtain⟨T,k,r,rs,h5⟩:=h0
  rcases hS0.obj 0 _ h5 with ⟨_,h6⟩|⟨h6,_⟩
  ·cases h6
  ·exact h6
 have hsrc:∀id o,look (S (V.ρ i)) id=some o→∃o0,look σ id=some o0∧∀b,Dv V id o b→Dv V id o0 b:=fun id o ho=>by
  obtain⟨_,h5|⟨T,k,rw,rw',rfl,h5,_⟩⟩:=(hSt (V.ρ i)).get id o ho
  ·exact⟨o,h5,fun _ h=>h⟩
  ·exact⟨_,h5,fun _ h=>h⟩
 have hinv : Inv ⟨tabs,some (H,V.ρ i)⟩ ⟨Γ.V,Γ.F,fun _=>True⟩ V (S (V.ρ i)):=by
  refine⟨hi.os,hi.tape,hi.output,hi.old,hi.iLt,hi.iNew,hi.ext,⟨fun id o ho=>?_,fun id o ho=>?_,fun id o ho hn b hb=>?_,fun id id' o o' ho ho' hne hn hn' b hb hb'=>?_⟩,fun id o ho hn b hb=>?_,hi.tabs,⟨⟨CK (V.AW (nm (i::l) V.nx) (i::l).length) (H.st s),V.I⟩,⟨?_,fun _ h=>h,fun b hb hI=>?_,fun b hb hB=>?_⟩,fun _ _=>.inl True.intro,fun b hb=>?_⟩⟩
  ·obtain⟨_,h5|⟨T,k,rw,rw',rfl,h5,h6⟩⟩:=(hSt (V.ρ i)).get id o ho
   ·exact hi.st.obj id o h5
   ·rcases hi.st.obj id _ h5 with ⟨_,h7⟩|⟨h1,cur,h2,h3,h4,h7,h8,h9⟩
    ·cases h7
    ·refine .inr ⟨h1,cur,h2,h3,h4,h7,fun x hx=>?_,fun i' x j c' hix hj=>?_⟩
     ·simp at hx;subst hx;rw [h6.len];exact h8 rw (by simp)
     ·have hi0:i'=0:=by have:=(List.getElem?_eq_some_iff.1 hix).1;simp at this;omega
      subst hi0
      simp at hix
      subst hix
      obtain⟨c,hc,hf⟩:=h6.get j c' hj
      obtain⟨v,h10,h11⟩:=h9 0 rw j c rfl hc
      exact⟨v,h10,hf.rel rfl h11⟩
  ·obtain⟨o0,h5,_⟩:=hsrc id o ho;exact hi.st.lt id o0 h5
  ·obtain⟨o0,h5,h6⟩:=hsrc id o ho;exact hi.st.free id o0 h5 hn b (h6 b hb)
  ·obtain⟨o0,h5,h6⟩:=hsrc id o ho
   obtain⟨o0',h5',h6'⟩:=hsrc id' o' ho'
   exact hi.st.inj id id' o0 o0' h5 h5' hne hn hn' b (h6 b hb) (h6' b hb')
  ·obtain⟨o0,h5,h6⟩:=hsrc id o ho;exact hi.live id o0 h5 hn b (h6 b hb)
  ·exact⟨s,V.AW (nm (i::l) V.nx) (i::l).length,rfl,rfl,hln,hS0,⟨Nat.succ_pos _,rfl,hnl0,fun x hx=>(hi.tabs x hx).1⟩,fun _=>Iff.rfl⟩
  ·obtain⟨id,o,g1,g2,g3⟩:=hb;exact hS0.free id o g1 g2 b g3 hI
  ·obtain⟨id,o,g1,g2,g3⟩:=hB
   obtain⟨id',o',k1,k2,k3⟩:=hb
   obtain⟨o0,h5,h6⟩:=hsrc id' o' k1
   have hnm:=((hSt (V.ρ i)).get id' o' k1).1
   exact hi.st.inj id' _ o0 _ h5 (hS.get id o g1) (fun e=>hnm (by rw [e];exact hmem id o g1)) k2 g2 b (h6 b k3) (BB.1 g3)
  ·obtain⟨id,o,g1,g2,g3⟩:=hb;exact hi.live _ _ (hS.get id o g1) g2 b (BB.1 g3)
 have hst:BA ⟨tabs,some (H,V.ρ i)⟩ ⟨Γ.V,Γ.F,fun _=>True⟩ N V (look (L (V.ρ i))) (S (V.ρ i)) V.nx a:=by
  refine⟨fun t x hx=>?_,fun t x hx=>?_,hr.size,hinv,rfl,hr.defers⟩
  ·obtain⟨y,h1,h2⟩:=(hE (V.ρ i)).get t x hx
   exact h2.rel rfl (hr.env t y h1)
  ·obtain⟨y,h1,_⟩:=(hE (V.ρ i)).get t x hx
   exact hr.lt t y h1
 refine wp_mono (h (V.ρ i) ⟨Γ.V,Γ.F,fun _=>True⟩ rfl V a hst) ?_
 rintro e a' w' ⟨V',f',σ',h1,h2,h3⟩
 exact⟨V',f',σ',h1,h2,⟨h3.env,h3.lt,h3.size,Inv.forget h3.inv,h3.nx,h3.defers⟩⟩
end
end Go.Am
namespace Go.Am
open Go Go.Proofs
set_option maxHeartbeats 1000000
set_option maxRecDepth 4000
attribute [local irreducible] AV BX Lex Bf Av Spec
variable {TB:Be}
def Kz(t:B1)(ok:W→Prop)(m:Fm):Prop:=HT t ok m∧m.F[0]? = some (B6 t)
theorem TU[Fo TB]{t:B1}{ok:W→Prop}(ht:A1 t=true)(hfew:ZC t ok){m0:Fm}(hm0:Kz t ok m0){w:W}(how:ok w)(hw:∀c∈w,0≤(c.toNat:Int) - 97∧(c.toNat:Int) - 97 < 6)(hwl:w.length≤1048576) :
 A3 Tryz.prog TB 147 1 (K0 t m0) 5 [.o (.ptr 0 14 0 0),eT w] (fun x σ nx=>x=eB (LS t w)∧nx=5∧∃m,Kz t ok m∧σ=K0 t m):=by
 have hdr:w.drop 0=w:=rfl
 refine A3.AW (A3.YL (m:=1) (Nat.le_of_ble_eq_true rfl) Tryz.func147 rfl (by kernel_rfl) (Nat.le_of_ble_eq_true rfl) ?_);intro Γ hΓ
 (repeat first|refine tA rfl ?_ |refine aU rfl ?_ |refine Aa ?_)
 refine aB ?_
 refine aL (α:={x:Nat×Nat×Fm // x.1≤w.length∧Kz t ok x.2.2∧∃F,x.2.2.F[x.2.1]? = some F∧Ic t F (w.drop x.1)=LS t w∧F=ME t (B6 t) (w.take x.1)}) [0,1] [] rfl rfl (fun s=>[(5,eI .i64 s.1.2.1),(6,eI .i64 s.1.1)]) (fun s=>K0 t s.1.2.2) 5 (fun s=>w.length - s.1.1) (⟨⟨0,0,m0⟩,by simp,hm0,B6 t,hm0.2,rfl,rfl⟩) hΓ rfl (by (simp[cX,zC,hΓ,AH])) ?_;rintro⟨⟨i,n,m⟩,hi,hm,F,hF,hs,hrn⟩;(try dsimp only[cA,cB])
 have hi:i≤w.length:=hi
 have hm:Kz t ok m:=hm
 have hrn:F=ME t (B6 t) (w.take i):=hrn
 have hF:m.F[n]? = some F:=hF
 have hs:Ic t F (w.drop i)=LS t w:=hs
 have hu:=hm.1.un n F hF
 have hul:=(List.getElem?_eq_some_iff.1 hu).1
 have hu':(m.un.map BE)[0+((n:Nat):Int).toNat]? = some (BE (JU t F)):=by rw [Nat.zero_add,Int.toNat_natCast];simp [hu]
 by_cases hlt:i < w.length
 ·obtain⟨c,hc⟩:=get_some hlt
  have hc':w[((i:Nat):Int).toNat]? = some c:=by simpa using hc
  have hcl:=hw c (List.mem_of_getElem? hc)
  have hla:=Eh (TB:=TB) w i c hc' hcl
  have hd:=BJ hc
  have hrn1:Ev t ((c.toNat:Int) - 97) F=ME t (B6 t) (w.take (i+1)):=by
   rw [List.take_add_one,hc,Qx,←hrn];rfl
  obtain⟨m1,j,hm1,hle,hj,haf⟩:=VB (TB:=TB) ht hfew hm.1 hF hcl (.inr ⟨w.take (i+1),w.drop (i+1),by rw [List.take_append_drop];exact how,hrn1⟩)
  rw [hd,Ic] at hs
  generalize JU t F=b at *
  (repeat' first|(refine sA rfl ?_ ?_;first|exact tI|omega) |refine t4 rfl ‹_› rfl ?_ |refine s2 rfl fun _ _hb=>?_ |refine s3 rfl ?_ ?_<;>rintro rfl |refine aU rfl ?_ |refine Aa ?_|(refine aC rfl ?_ ?_<;>rintro⟨⟩));all_goals try contradiction
  all_goals first| (exfalso;(simp only[oZ] at *;omega);done)|skip
  ·have hb:b=false:=by simpa using _hb
   subst hb
   refine aK ?_
   refine aS (aB ?_)
   (repeat first|refine tA rfl ?_ |refine sP rfl (hla) rfl ?_ |refine aU rfl ?_)
   (refine pW rfl ?_ rfl (by rfl);refine Ez [0,1,2,3,4] rfl rfl 1 (haf) (by decide) ⟨rfl,by decide,by decide⟩ rfl (by simp[cX,zC,hΓ,AH]) ?_;rintro x0 σ1 nx1 ⟨rfl,rfl,rfl⟩ _)
   (repeat first|refine tA rfl ?_)
   refine Aa ?_
   (repeat first|(refine sA rfl ?_ ?_;first|exact tI|omega) |refine aU rfl ?_ |refine Aa ?_)
   refine⟨⟨⟨i+1,j,m1⟩,by omega,⟨hm1,hle 0 _ hm.2⟩,_,hj,by simpa using hs,hrn1⟩,by dsimp only;(omega),[0,5,6,7,8],?_⟩
   simp[cX,zC,hΓ,AH]
  ·have hb:b=true:=by simpa using _hb
   subst hb
   have hs:LS t w=false:=by simpa using hs.symm
   rw [hs]
   refine aE ?_
   (repeat first|(refine sA rfl ?_ ?_;first|exact tI|omega) |refine t4 rfl ‹_› rfl ?_ |refine s2 rfl fun _ _hb=>?_ |refine aU rfl ?_ |refine Aa ?_)
   refine aR ⟨_,rfl,[0,1,2,3,4],eB false,K0 t m,⟨by intro i hi;match i with|0=>rfl,by decide⟩,by subst_vars;rfl,by (simp[cX,zC,hΓ,AH]),rfl,rfl,m,hm,rfl⟩
 ·obtain rfl:i=w.length:=by omega
  rw [List.drop_length,Ic] at hs
  rw [←hs]
  (repeat' first|(refine sA rfl ?_ ?_;first|exact tI|omega) |refine t4 rfl ‹_› rfl ?_ |refine s2 rfl fun _ _hb=>?_ |refine s3 rfl ?_ ?_<;>rintro rfl |refine aU rfl ?_ |refine Aa ?_|(refine aC rfl ?_ ?_<;>rintro⟨⟩));all_goals try contradiction
  all_goals first| (exfalso;(simp only[oZ] at *;omega);done)|skip
  refine aE ?_
  (repeat first|(refine sA rfl ?_ ?_;first|exact tI|omega) |refine t4 rfl ‹_› rfl ?_ |refine s2 rfl fun _ _hb=>?_ |refine aU rfl ?_ |refine Aa ?_)
  refine aR ⟨_,rfl,[0,1,2,3,4],eB (!JU t F),K0 t m,⟨by intro i hi;match i with|0=>rfl,by decide⟩,by subst_vars;rfl,by (simp[cX,zC,hΓ,AH]),rfl,rfl,m,hm,rfl⟩
def Ig(t:B1)(ok:W→Prop):Hid:=⟨{m:Fm // Kz t ok m},fun s=>K0 t s.1,5⟩
theorem Xy{tabs:List (Nat×Obj)}[Fo ⟨tabs,none⟩]{t:B1}{ok:W→Prop}(ht:A1 t=true)(hfew:ZC t ok){r:Nat}{w:W}(how:ok w)(hw:∀c∈w,0≤(c.toNat:Int) - 97∧(c.toNat:Int) - 97 < 6)(hwl:w.length≤1048576) :
 Pure Tryz.prog ⟨tabs,some (Ig t ok,r)⟩ 147 [.o (GP r),eT w] (eB (LS t w)):=
 WS (H:=Ig t ok) (k:=14) (es:=[eT w]) ⟨_,Tryz.func147,by kernel_rfl,rfl⟩ (by intro e he;simp at he;subst he;rfl) rfl fun s=>
  ⟨(TU (TB:=⟨tabs,none⟩) ht hfew s.2 how hw hwl).1,fun V vs S hg ha=>((TU (TB:=⟨tabs,none⟩) ht hfew s.2 how hw hwl).2 V vs S hg ha).mono fun e w' ⟨V',v,x,σ',h1,h2,h3,h4,h5,h6,m,h7,h8⟩=>⟨V',v,x,σ',h1,h2,h3,h4,h5,h6,⟨m,h7⟩,h8⟩⟩
section
variable {P:Program}{Γ:Ctx}{d:Option Tmp}{ty:TypeId}{pos:String}{af:Array Edge}{g:Option (Nat×Bool)}{f:Env}{σ:Ab}{nx:Nat}
variable {K:E→Ab→Nat→Prop}
theorem UJ{t:TypeId}{z:List Value}{fl:List (Nat×Nat)}{parts:Array (Nat×Operand)}{es:List E}{qs:List (Nat×List C)}[hz:BL P t z][hf:GI P t fl](p k e q k' e' s k'' e'':Nat)(hp:z[p]? = some (.slice none 0 0))(hp':z[q]? = some (.slice none 0 0))(hp'':z[s]? = some (.slice none 0 0))(hpq:p≠q∧p≠s∧q≠s)(hes:HU f (parts.toList.map (·.2))=some es)(hq:FO fl parts.toList es=some qs)
 (hok:z.all Nw=true) (hle:(qs.all fun x=>Nat.ble (x.1+x.2.length) z.length)=true) (hK:K (.a (Ef qs ((((z.map zC).set p (.arr nx k 0 0)).set q (.arr (nx+1) k' 0 0)).set s (.arr (nx+2) k'' 0 0)))) ((nx+2,.cells e'' k'' [])::(nx+1,.cells e' k' [])::(nx,.cells e k [])::σ) (nx+3)):BX P TB Γ ⟨d,.build t parts,ty,pos,af,g⟩ f σ nx K:=
 C4 fun V ρ h1 h2 h3=>by
  subst h3
  obtain⟨i,zv,hi,hzv,hzz⟩:=IQ hz.out
  obtain⟨hi1,he1⟩:=h2.alloc (c:=0) (nl:=True) (w:=V.w) (ob:=.cells e k []) rfl rfl rfl rfl (Nat.le_refl _) (fun _ _=>rfl) (.inl ⟨by simp [Ak],rfl⟩)
  obtain⟨hi2,he2⟩:=hi1.alloc (c:=0) (nl:=True) (w:=V.w) (ob:=.cells e' k' []) rfl rfl rfl rfl (Nat.le_refl _) (fun _ _=>rfl) (.inl ⟨by simp [Ak],rfl⟩)
  obtain⟨hi4,he4⟩:=hi2.alloc (c:=0) (nl:=True) (w:=V.w) (ob:=.cells e'' k'' []) rfl rfl rfl rfl (Nat.le_refl _) (fun _ _=>rfl) (.inl ⟨by simp [Ak],rfl⟩)
  have he3:=(he1.trans he2).trans he4
  have hfo:=Eb (V:=Ak (Ak (Ak V V.w.heap.size 0 True V.w) V.w.heap.size 0 True V.w) V.w.heap.size 0 True V.w) (ρ:=ρ) parts.toList es qs (fun x hx e he=>(h1.get (by simp only [Op.operands];simpa using hx) he).ext he3) hes hq
  have hzr : Cy (Ak (Ak (Ak V V.w.heap.size 0 True V.w) V.w.heap.size 0 True V.w) V.w.heap.size 0 True V.w) ((((z.map zC).set p (.arr V.nx k 0 0)).set q (.arr (V.nx+1) k' 0 0)).set s (.arr (V.nx+2) k'' 0 0)) zv.cells:=by
   refine⟨by rw [List.length_set,List.length_set,List.length_set,List.length_map,←hzz];simp,fun j c v hj hv=>?_⟩
   have hzj:z[j]? = some v:=by rw [←hzz,Array.getElem?_toList];exact hv
   by_cases hjs:s=j
   ·subst hjs
    rw [hp''] at hzj
    injection hzj with hzj
    subst hzj
    rw [List.getElem?_set_self (by rw [List.length_set,List.length_set,List.length_map];exact(List.getElem?_eq_some_iff.1 hp'').1)] at hj
    injection hj with hj
    subst hj
    exact Ax.nil (by simp [Ak]) (by simp [Ak])
   ·rw [List.getElem?_set_ne hjs] at hj
    by_cases hjq:q=j
    ·subst hjq
     rw [hp'] at hzj
     injection hzj with hzj
     subst hzj
     rw [List.getElem?_set_self (by rw [List.length_set,List.length_map];exact(List.getElem?_eq_some_iff.1 hp').1)] at hj
     injection hj with hj
     subst hj
     exact Ax.nil (by simp [Ak]) (by simp [Ak])
    ·rw [List.getElem?_set_ne hjq] at hj
     by_cases hjp:p=j
     ·subst hjp
      rw [hp] at hzj
      injection hzj with hzj
      subst hzj
      rw [List.getElem?_set_self (by rw [List.length_map];exact(List.getElem?_eq_some_iff.1 hp).1)] at hj
      injection hj with hj
      subst hj
      exact Ax.nil (by simp [Ak];omega) (by simp [Ak])
     ·rw [List.getElem?_set_ne hjp,List.getElem?_map,hzj] at hj
      injection hj with hj
      subst hj
      exact Kx (List.all_eq_true.1 hok v (List.mem_of_getElem? hzj))
  obtain⟨cells,h4,h5⟩:=He _ _ _ _ hfo hzr (fun x hx=>by rw [List.length_set,List.length_set,List.length_set,List.length_map];exact LO _ _ hle x hx)
  have hb:=run_build (P:=P) (ρ:=ρ) (parts:=parts) (V:=V) hi hzv hf.out h4
  refine⟨.agg cells,_,_,_,?_,he3,hi4,(show A2 _ (.a _) _ from ⟨cells,rfl,h5⟩),hK⟩
  show ((do let v ←Instr.build t (parts.map fun (i,x)=>(i,ρ x));pure (Go.Next.value v):Sem Go.Next)).run P V.w=_
  simp only [Sem.run_bind,hb,Result.andThen_ok]
  rfl
end
theorem Hl{a b:Int}(ha:Bb a=true)(hb:Bb b=true):Ac (Fb .i64 a b)=(Ac a).filter fun l=>!DN b l.toNat:=by
 have key:((List.range 64).all fun x=>(List.range 64).all fun y=>decide (Ac (Fb .i64 (x:Nat) (y:Nat))=(Ac (x:Nat)).filter fun l=>!DN (y:Nat) l.toNat))=true:=by kernel_rfl
 unfold Bb at ha hb
 simp only [decide_eq_true_eq] at ha hb
 have h1:=List.all_eq_true.1 key a.toNat (List.mem_range.2 (by omega))
 have h2:=List.all_eq_true.1 h1 b.toNat (List.mem_range.2 (by omega))
 rw [Int.toNat_of_nonneg ha.1,Int.toNat_of_nonneg hb.1] at h2
 exact of_decide_eq_true h2
abbrev ZA(t:B1):List D:=[iD t.s.al,iD t.s.st,Hc t.s.es,iD t.q.al,Dx t.q.nx,GZ t.q.ac,iD t.al]
abbrev J0(t:B1):E:=.a ((ZA t).map .d)
theorem PK(t:B1)(ok:W→Prop):HT t ok ⟨[],[],[]⟩:=⟨rfl,rfl,List.nodup_nil,by simp,by simp,by simp,by simp⟩
theorem OU[Fo TB]{t:B1}(ht:A1 t=true)(ok:W→Prop):∃m,Kz t ok m∧A3 Tryz.prog TB 146 0 [] 0 [J0 t] (fun x σ nx=>x=.o (.ptr 0 14 0 0)∧σ=K0 t m∧nx=5):=by
 have hs:BC t.s=true:=by unfold A1 at ht;simp only [Bool.and_eq_true] at ht;exact ht.1
 have hta:Bb t.al=true:=by unfold A1 at ht;simp only [Bool.and_eq_true] at ht;exact ht.2.2
 have hsh:=Cm hs
 have hz:=MY ht
 obtain⟨m1,k,hcase,hadd⟩:=VA (TB:=TB) ht (PK t ok) (by simp) (Kr ht)
 have hm1:m1=HP t ⟨[],[],[]⟩ (B6 t):=by
  rcases hcase with ⟨_,h2⟩|⟨h2,_,_⟩
  ·simp at h2
  ·exact h2
 have hcl:=PG (TB:=TB) ht ⟨[],[],[]⟩ hz
 refine⟨m1,⟨by rw [hm1];exact SL (PK t ok) .start (.inl rfl) (by simp),by rw [hm1];rfl⟩,?_⟩
 have hmv:=RT (TB:=TB) t.s hs
 have htb:=E1 (TB:=TB) t.q (Cn ht)
 have hlo:=CP (TB:=TB) (Fb .i64 t.s.al t.al)
 rw [Hl hsh.1 hta] at hlo
 have hlo:Pure Tryz.prog TB 140 [eI .i64 (Fb .i64 t.s.al t.al)] (Ag (Cb t)):=hlo
 rw [show QY t JP=B6 t from rfl] at hcl
 have hmp:mapA .u16 (Nm [])=[]:=rfl
 have hpz:Ff JP=[1,0,0,0,0,0,0,0,0,0,0,0]:=rfl
 refine A3.AW (A3.YL (m:=0) (Nat.le_of_ble_eq_true rfl) Tryz.func146 rfl (by kernel_rfl) (Nat.le_of_ble_eq_true rfl) ?_);intro Γ hΓ
 (repeat first|refine tA rfl ?_ |refine aU rfl ?_ |refine Aa ?_)
 refine rG (fO [(14,1),(15,1),(16,1)]) (by kernel_rfl) ?_
 (repeat first|refine tX rfl ?_ |refine sP rfl (hmv) rfl ?_|refine sP rfl (htb) rfl ?_|refine sP rfl (hlo) rfl ?_|(refine Ai rfl ?_;refine gA rfl ?_;first| refine gS (fun _ _=>WT rfl rfl rfl) ?_))
 (refine pW rfl ?_ rfl (by rfl);refine N5 ?_)
 (refine pW rfl ?_ rfl (by rfl);refine UJ 10 12 213 12 6 148 13 1 4 rfl rfl rfl (by decide) rfl rfl (by rfl) (by rfl) ?_)
 (refine pW rfl ?_ rfl (by rfl);refine CT rfl rfl ?_)
 (repeat first|refine tA rfl ?_)
 refine Aa ?_
 refine Av.Cs [] [] rfl rfl [(3,.o (.ptr 0 14 0 0))] [(0,.cells 209 14 [Xx t (.arr 1 12 0 0) (.mp 2) (.arr 3 6 0 0) (.arr 4 1 0 0)]),(1,.cells 213 12 []),(2,.mp []),(3,.cells 148 6 []),(4,.cells 4 1 [])] [4,1,0,2,3] (rl hΓ rfl) (by (simp[cX,zC,hΓ,AH])) ?_;(try dsimp only[cA,cB])
 (repeat first|refine tA rfl ?_|(refine Ai rfl ?_;refine gA rfl ?_;first| refine gS (fun _ _=>AJ rfl rfl (by rfl) (by rfl)) ?_) |refine aU rfl ?_)
 (refine pW rfl ?_ rfl (by rfl);refine Cr [0,1,2,3,4] rfl rfl (hcl) ⟨rfl,by decide,by decide⟩ rfl (by simp[cX,zC,hΓ,AH,hpz,hmp]) ?_;rintro x0 σ1 nx1 ⟨rfl,rfl,rfl⟩ _)
 (refine pW rfl ?_ rfl (by rfl);refine Ez [0,1,2,3,4] rfl rfl 1 (hadd) (by decide) ⟨rfl,by decide,by decide⟩ rfl (by simp[cX,zC,hΓ,AH]) ?_;rintro x0 σ1 nx1 ⟨rfl,rfl,rfl⟩ _)
 refine Aa ?_
 (repeat first|refine tA rfl ?_ |refine aU rfl ?_ |refine Aa ?_)
 refine aR ⟨_,rfl,[0,5,6,7,8],.o (.ptr 0 14 0 0),K0 t m1,⟨by intro i hi;omega,by decide⟩,rfl,by (simp[cX,zC,hΓ,AH]),rfl,rfl,rfl⟩
end Go.Am
