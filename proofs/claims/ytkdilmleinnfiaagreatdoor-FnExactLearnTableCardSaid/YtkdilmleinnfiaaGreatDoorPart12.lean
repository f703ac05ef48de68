/-
  The reference's search, the walk.
-/
import Derived.Test.YtkdilmleinnfiaaGreatDoorPart11
import Derived.Test.YtkdilmleinnfiaaGreatDoorPart9
import Derived.Lib.TrailingZeros
set_option linter.constructorNameAsVariable false
set_option linter.unusedSectionVars false
set_option linter.unusedSimpArgs false
set_option linter.unusedVariables false
namespace Go.Am
open Go Go.Proofs
set_option maxHeartbeats 1000000
set_option maxRecDepth 4000
attribute [local irreducible] AV BX Lex Bf Av Spec
variable {TB:Be}
theorem Wq{l:List Int}(h:l.Pairwise (· < ·)){i j:Nat}{a b:Int}(hi:l[i]? = some a)(hj:l[j]? = some b)(hab:a < b):i < j:=by
 obtain⟨h1,rfl⟩:=List.getElem?_eq_some_iff.1 hi
 obtain⟨h2,rfl⟩:=List.getElem?_eq_some_iff.1 hj
 rw [List.pairwise_iff_getElem] at h
 rcases Nat.lt_trichotomy i j with h3|h3|h3
 ·exact h3
 ·subst h3;omega
 ·have:=h j i h2 h1 h3;omega
theorem RI{n:Net}(hn:DL n)(hk:ZD n)(hst:Fits (Ae n) n.st){r:Option (List Int)}(hr:BM (Fw n) r):Pure Tryz.prog TB 236 [JZ n] (cn r):=by
 have hpr:=Ll hn
 have hg:=VY hn hst
 have hnp:=hn.np
 have hna:=hn.na
 have hzl:=MK hn
 have hll:(Ac n.ls).length≤6:=A0 n.ls 6
 have hpos:=FW hn
 have hsz:=RM (TB:=TB) n (by omega)
 have hmv:=RK (TB:=TB) hn (Fw n).N (by show (AG (Ae n)).toNat≤1048576;omega)
 have hpN:AG (Ae n)=(((Fw n).N:Nat):Int):=by show _=(((AG (Ae n)).toNat:Nat):Int);omega
 have hNle:(Fw n).N≤1048576:=by omega
 have hml:(Cq n (Fw n).N).length=(Fw n).N:=by simp [Cq]
 have hdec:∀(x:Nat),x < (Fw n).N→Pure Tryz.prog TB 282 [Ag (Ae n),eI .i64 x] (Ag (Bz (Ae n) x)):=fun x hx=>
  KF _ _ (by omega) (by omega) (fun z hz=>by have:=hpos z hz;omega) (by omega)
 have hfnd:∀(x:Nat),Pure Tryz.prog TB 281 [JZ n,Ag (Bz (Ae n) x),BS (Ek n x)] (eB (B3 n (Bz (Ae n) x) (Ek n x))):=fun x=>RJ hn hk (I7 hn _) _
 have hencc:=P6 (TB:=TB) (Ae n) n.st hst (by omega)
 have hlet:=CO (TB:=TB) n.ls
 have hdist:=fun dist h1 h2=>Uy (TB:=TB) (Cq n (Fw n).N) (fun i=>B3 n (Bz (Ae n) i) (Ek n i)) dist (Jl hn) (by omega) h1 h2
 refine eN Tryz.func236 rfl (by kernel_rfl) rfl ?_;intro Γ hΓ
 (repeat first|refine tA rfl ?_ |refine sP rfl (hsz) rfl ?_ |refine aU rfl ?_ |refine Aa ?_)
 refine aB ?_
 refine Av.AR (α:={k:Nat // k≤(Ae n).length}) (fun ⟨k,hkl⟩=>[(1,.o (.ip (KZ n))),(4,Ag (Ae n)),(5,eI .i64 (AG ((Ae n).take k))),(6,eI .i64 k)]) (fun ⟨k,hkl⟩=>[]) 0 (fun ⟨k,hkl⟩=>(Ae n).length - k) (⟨0,by omega⟩) [] (Dq hΓ rfl rfl) (by (simp[cX,zC,hΓ,AG])) ?_;rintro⟨k,hkl⟩;(try dsimp only)
 (repeat first|refine sN rfl ?_ |refine tA rfl ?_ |refine s2 rfl fun _ _hb=>?_ |refine aU rfl ?_ |refine Aa ?_)
 (refine aC rfl ?_ ?_<;>rintro⟨⟩)
 ·obtain⟨z,hz⟩:=get_some (l:=Ae n) (k:=k) (by (simp only[oZ] at *;omega))
  have hz':=get_map (g:=Bm) hz
  have h1:=Ms hz
  have h2:=Mr ((Ae n).take (k+1)) fun z hz=>hpos z (List.mem_of_mem_take hz)
  have h3:=(hst.take (k+1)).2
  rw [h1] at h2 h3
  refine aK ?_
  refine aS (aB ?_)
  (repeat first|(refine sA rfl ?_ ?_;first|exact tI|omega) |(refine s4 rfl ‹_› rfl ?_ ?_;omega) |refine aU rfl ?_ |refine Aa ?_)
  refine⟨⟨k+1,by (simp only[oZ] at *;omega)⟩,by dsimp only;((simp only[oZ] at *;omega)),[],?_⟩
  simp[cX,zC,hΓ,h1]
 obtain rfl:k=(Ae n).length:=by (simp only[oZ] at *;omega)
 refine aE ?_
 rw [List.take_length,hpN]
 generalize hNN:(Fw n).N=N at *
 generalize hmm:Cq n N=mv at *
 (repeat first|refine tM rfl ?_ |refine sP rfl (hmv) rfl ?_ |refine aU rfl ?_ |refine Aa ?_)
 (refine pW rfl ?_ rfl (by rfl);refine Ep rfl rfl (by rfl) (by rfl) (Nat.le_of_ble_eq_true rfl) (by omega) (by omega) (by omega) ?_)
 (repeat first|refine tM rfl ?_ |refine aU rfl ?_ |refine Aa ?_)
 refine aB ?_
 refine Av.AR (α:={i:Nat // i≤N}) (fun ⟨i,hi⟩=>[(1,.o (.ip (KZ n))),(4,Ag (Ae n)),(5,eI .i64 N),(7,CM mv),(8,.o (.arr 0 1 0 N)),(9,eI .i64 i)]) (fun ⟨i,hi⟩=>[(0,.cells 3 1 ((dl (fun j=>if B3 n (Bz (Ae n) (j:Nat)) (Ek n j) then 0 else -1) N i).map AI))]) 1 (fun ⟨i,hi⟩=>N - i) (⟨0,by omega⟩) [0] (Dq hΓ rfl rfl) (by (simp[cX,zC,hΓ,dl])) ?_;rintro⟨i,hi⟩;(try dsimp only)
 (repeat first|refine tM rfl ?_ |refine s2 rfl fun _ _hb=>?_ |refine aU rfl ?_ |refine Aa ?_)
 (refine aC rfl ?_ ?_<;>rintro⟨⟩)
 ·have hiN:i < N:=by (simp only[oZ] at *;omega)
  have hd0:=ZV (f:=fun j=>if B3 n (Bz (Ae n) (j:Nat)) (Ek n j) then 0 else -1) hiN
  have hds:=ZW (f:=fun j=>if B3 n (Bz (Ae n) (j:Nat)) (Ek n j) then 0 else -1) hiN
  have hdl:=VU (f:=fun j=>if B3 n (Bz (Ae n) (j:Nat)) (Ek n j) then 0 else -1) (Nat.le_of_lt hiN)
  generalize dl (fun j=>if B3 n (Bz (Ae n) (j:Nat)) (Ek n j) then 0 else -1) N i=cur at *
  have hd0':=Hi (g:=AI) hd0
  have hd1:(cur.set i (-1))[i]? = some (-1):=by simp [hdl,hiN]
  have hd1':=Hi (g:=AI) hd1
  rw [←Hu (x:=0)] at hd1'
  have hmi:(mv.map Ix)[((i:Nat):Int).toNat]? = some (Ix (Ek n i)):=by rw [←hmm];exact get_map (ID hiN)
  refine aK ?_
  refine aS (aB ?_)
  (repeat' first|((first|refine sM rfl ?_ ?_|refine s4 rfl ‹_› rfl ?_ ?_);first|exact tI|omega) |refine sP rfl (hdec i hiN) rfl ?_|(refine sC rfl (hfnd i) ?_;intro _ _hb) |refine aU rfl ?_ |refine Aa ?_ |refine rE (by kernel_rfl) ?_|(refine aC rfl ?_ ?_<;>rintro⟨⟩)|refine aK ?_|refine aE ?_|refine aB ?_|refine aR ⟨_,rfl,?_⟩)
  ·rw [if_pos (by assumption)] at hds
   refine⟨⟨i+1,by omega⟩,by dsimp only;(omega),[0],?_⟩
   rw [Hu,Hu,List.set_set]
   simp[cX,zC,hΓ,hds]
  ·rw [if_neg (by grind)] at hds
   refine⟨⟨i+1,by omega⟩,by dsimp only;(omega),[0],?_⟩
   rw [Hu]
   simp[cX,zC,hΓ,hds]
 obtain rfl:i=N:=by (simp only[oZ] at *;omega)
 refine aE ?_
 (repeat first|refine tM rfl ?_ |refine aU rfl ?_)
 have hdlg:∀x,x < i→(dl (fun j=>if B3 n (Bz (Ae n) (j:Nat)) (Ek n j) then 0 else -1) i i).getD x 0=if B3 n (Bz (Ae n) (x:Nat)) (Ek n x) then 0 else -1:=by
  intro x hx;simp [dl,List.getD,hx]
 have hdll:(dl (fun j=>if B3 n (Bz (Ae n) (j:Nat)) (Ek n j) then 0 else -1) i i).length=i:=VU (Nat.le_refl _)
 generalize dl (fun j=>if B3 n (Bz (Ae n) (j:Nat)) (Ek n j) then 0 else -1) i i=d0 at *
 have hdist:=hdist d0 (by omega) (by rw [hml];exact hdlg)
 rw [hml] at hdist
 (refine pW rfl ?_ rfl (by rfl);refine Cr [0] rfl rfl hdist ⟨rfl,by simp,by simp⟩ rfl (by simp[cX,zC,hΓ]) ?_;rintro x0 σ1 nx1 ⟨rfl,rfl,dist,hD,rfl⟩ _)
 refine Aa ?_
 refine aS ?_
 refine Av.freeze [0] [(1,.o (.ip (KZ n))),(4,Ag (Ae n)),(7,CM mv),(8,Ag dist)] ⟨⟨_,rfl,.AU⟩,⟨_,rfl,.AU⟩,⟨_,rfl,.AU⟩,⟨.o (.arr 0 1 0 i),rfl,.o (.full (T:=3) (rows:=dist.map AI) (by simp) (by simp[cX,zC,hΓ,Ab.AW,BH,GO]) (by simp [Function.comp_def]) (by simp [hD.len,hml]))⟩,trivial⟩ ?_
 have hG:IS (Fw n) (fun x=>dist.getD x.toNat 0):=VT (by rw [hNN,hmm];exact hD)
 have hdl:=hD.len
 have hin:=Jl hn
 rw [hNN,hmm] at hin
 have hrow:∀x:Int,0≤x∧x < i→mv.getD x.toNat []=(Ac n.ls).map fun l=>(Fw n).succ x l:=by
  intro x hx;rw [←hmm,←hNN];exact ET (by rw [hNN];exact hx)
 have hrl:∀x,x < mv.length→(mv.getD x []).length=(Ac n.ls).length:=by
  intro x hx
  have:=hrow (x:Nat) (by omega)
  rw [Int.toNat_natCast] at this
  rw [this];simp
 have hcl:∀(at':List Int) (k:Nat) (d:Int),CA i at'→k < (Ac n.ls).length→Pure Tryz.prog TB 285 [CM mv,Ag dist,Ag at',eI .i64 k,eI .i64 d] (Ag (Ee mv dist at' k d)):=fun at' k d ha hk=>
  P5 mv dist at' k d hin (by omega) hdl (by rw [hml];exact ha.2) (by have:=EE _ _ ha.1 ha.2;omega) (fun x hx=>by rw [hrl x hx];exact hk)
 have hcm:∀(at':List Int) (k:Nat) (d:Int) (m:Int),(Ac n.ls)[k]? = some m→CA i at'→∀y,y∈Ee mv dist at' k d↔∃x∈at',y∈(Fw n).succ x m∧dist.getD y.toNat 0=d:=by
  intro at' k d m hm ha y
  rw [←hmm,←hNN]
  exact VO hm (by rw [hNN];exact ha.2)
 have hac:∀(at':List Int) (k:Nat) (d:Int),CA i at'→CA i (Ee mv dist at' k d):=by
  intro at' k d ha
  have:=CA.ZO hin (dist:=dist) (d:=d) (k:=k) (l:=at') .nil (by rw [hml];exact ha.2)
  rwa [hml] at this
 obtain⟨s,hs⟩:∃s,Gl (Ae n) n.st 0=s:=⟨_,rfl⟩
 have hgs:(Fw n).s0=s:=hs
 have hsin:=hg.s0
 rw [hgs,hNN] at hsin
 rw [hs] at hencc
 obtain⟨dd,hdd⟩:=get_some (l:=dist) (k:=s.toNat) (by omega)
 have hdd':(dist.map Bm)[s.toNat]? = some (Bm dd):=by simp [hdd]
 have hddg:dist.getD (Fw n).s0.toNat 0=dd:=by rw [hgs];simp [List.getD,hdd]
 have hs0':([s].map Bm)[(0:Int).toNat]? = some (Bm s):=rfl
 have hbd:=hD.bound s.toNat (by omega)
 have hddb:dist.getD s.toNat 0=dd:=by simp [List.getD,hdd]
 rw [hddb] at hbd
 (repeat first|refine tA rfl ?_ |(refine s4 rfl ‹_› rfl ?_ ?_;omega) |refine sP rfl (hencc) rfl ?_|refine sP rfl (hlet) rfl ?_ |refine aU rfl ?_ |refine Aa ?_)
 by_cases hneg:dd < 0
 ·have hans:=VE hg hG (by show dist.getD (Fw n).s0.toNat 0 < 0;rw [hddg];exact hneg)
  have hrr:=BM.unique hr hans
  subst hrr
  refine aB ?_
  refine Av.AR (α:=Unit) (fun _=>[(12,eT []),(13,eI .i64 dd)]) (fun _=>[]) 0 (fun _=>0) (()) [] (Dq hΓ rfl rfl) (by (simp[cX,zC,hΓ])) ?_;rintro _;(try dsimp only)
  (repeat first|refine tA rfl ?_ |refine s2 rfl fun _ _hb=>?_ |refine aU rfl ?_ |refine Aa ?_)
  (refine aC rfl ?_ ?_<;>rintro⟨⟩)
  ·exfalso;(simp only[oZ] at *;omega)
  (repeat' first|refine tA rfl ?_ |refine s2 rfl fun _ _hb=>?_ |refine aU rfl ?_ |refine Aa ?_|(refine aC rfl ?_ ?_<;>rintro⟨⟩)|refine aK ?_|refine aE ?_|refine aB ?_|refine aR ⟨_,rfl,?_⟩)
  all_goals first
   | (exfalso;omega;done)
   | (subst _hb;rw [show decide (dd=0)=false from decide_eq_false (by omega)];rfl)
 ·have hW0 := KS.init (dx:=fun x=>dist.getD x.toNat 0) hg (by show 0≤dist.getD (Fw n).s0.toNat 0;rw [hddg];omega)
  have hW0:KS (Fw n) (fun x=>dist.getD x.toNat 0) [] [s] dd:=by rw [hgs,hddb] at hW0;exact hW0
  refine aB ?_
  refine Av.AR (α:={x:List Int×List Int×Int // KS (Fw n) (fun x=>dist.getD x.toNat 0) x.1 x.2.1 x.2.2}) (fun ⟨⟨w,at',d⟩,hW⟩=>[(7,CM mv),(8,Ag dist),(10,Ag at'),(11,Ag (Ac n.ls)),(12,eT (E7 w)),(13,eI .i64 d)]) (fun ⟨⟨w,at',d⟩,hW⟩=>[]) 0 (fun ⟨⟨w,at',d⟩,hW⟩=>d.toNat) (⟨([],[s],dd),hW0⟩) [] (Dq hΓ rfl rfl) (by (repeat' first|exact tI|rfl|refine And.intro ?_ ?_)) ?_;rintro⟨⟨w,at',d⟩,hW⟩;(try dsimp only)
  simp only at hW
  have hWl:=hW.len
  have hWd:=hW.d0
  have hWa:=hW.acc
  have hWl:(w.length:Int)+d=dd:=by rw [←hddg];exact hWl
  rw [hNN] at hWa
  (repeat first|refine tA rfl ?_ |refine s2 rfl fun _ _hb=>?_ |refine aU rfl ?_ |refine Aa ?_)
  (refine aC rfl ?_ ?_<;>rintro⟨⟩)
  ·have hdp:0 < d:=by (simp only[oZ] at *;omega)
   obtain⟨l0,hl0,hx0⟩:=hW.prog hG hdp
   have hlx:∀l:Int,l∈(Fw n).ls→∃k:Nat,(Ac n.ls)[k]? = some l:=fun l hl=>List.getElem?_of_mem hl
   have hkp:∀k:Nat,(∀k',k' < k→Ee mv dist at' k' (d - 1)=[])→k < (Ac n.ls).length:=by
    intro k hk2
    rcases Nat.lt_or_ge k (Ac n.ls).length with h|h
    ·exact h
    ·exfalso
     obtain⟨j,hj⟩:=hlx l0 hl0
     have h1:=hk2 j (by have:=(List.getElem?_eq_some_iff.1 hj).1;omega)
     obtain⟨x,hx,y,hy,hdy⟩:=hx0
     have h2:=(hcm at' j (d - 1) l0 hj hWa y).2 ⟨x,hx,hy,hdy⟩
     rw [h1] at h2;cases h2
   have hk0:=hkp 0 (fun k' h=>by omega)
   refine aK ?_
   refine aS (aB ?_)
   (repeat first|(refine sA rfl ?_ ?_;first|exact tI|omega) |refine sP rfl (hcl at' 0 (d - 1) hWa hk0) rfl ?_ |refine aU rfl ?_ |refine Aa ?_)
   refine aB ?_
   refine Av.AR (α:={k:Nat // ∀k',k' < k→Ee mv dist at' k' (d - 1)=[]}) (fun ⟨k,hkk⟩=>[(7,CM mv),(8,Ag dist),(10,Ag at'),(11,Ag (Ac n.ls)),(12,eT (E7 w)),(13,eI .i64 d),(14,eI .i64 k),(15,Ag (Ee mv dist at' k (d - 1)))]) (fun ⟨k,hkk⟩=>[]) 0 (fun ⟨k,hkk⟩=>(Ac n.ls).length - k) (⟨0,fun k' h=>by omega⟩) [] (Dq hΓ rfl rfl) (by (simp[cX,zC,hΓ])) ?_;rintro⟨k,hkk⟩;(try dsimp only)
   have hkl:=hkp k hkk
   have hacK:=hac at' k (d - 1) hWa
   (repeat first|refine sN rfl ?_ |refine tA rfl ?_ |refine s2 rfl fun _ _hb=>?_ |refine aU rfl ?_ |refine Aa ?_)
   (refine aC rfl ?_ ?_<;>rintro⟨⟩)
   ·have hnil:Ee mv dist at' k (d - 1)=[]:=List.length_eq_zero_iff.1 (by (simp only[oZ] at *;omega))
    have hkk2:∀k',k' < k+1→Ee mv dist at' k' (d - 1)=[]:=fun k' h=>by
     rcases Nat.lt_succ_iff_lt_or_eq.1 h with h|h
     ·exact hkk k' h
     ·rw [h];exact hnil
    have hc2:=hcl at' (k+1) (d - 1) hWa (hkp _ hkk2)
    rw [show (((k+1:Nat)):Int)=(k:Int)+1 from rfl] at hc2
    refine aK ?_
    refine aB ?_
    (repeat first|(refine sA rfl ?_ ?_;first|exact tI|omega) |refine sP rfl (hc2) rfl ?_ |refine aU rfl ?_ |refine Aa ?_)
    refine⟨⟨k+1,hkk2⟩,by dsimp only;(omega),[],?_⟩
    simp[cX,zC,hΓ]
   ·obtain⟨m,hm⟩:=get_some (l:=Ac n.ls) (k:=k) hkl
    have hm':=get_map (g:=Bm) hm
    have hmb:=AS (List.mem_of_getElem? hm)
    have hne:Ee mv dist at' k (d - 1)≠[]:=fun e=>by rw [e] at _hb;simp at _hb
    have hN2:=hW.next hg hG hdp (l:=m) (List.mem_of_getElem? hm) (at2:=Ee mv dist at' k (d - 1)) (by rw [hNN];exact hacK) hne (fun y=>by
     rw [hcm at' k (d - 1) m hm hWa y]) (fun m' hm' hlt=>by
     rintro⟨x,hx,y,hy,hdy⟩
     obtain⟨j,hj⟩:=hlx m' hm'
     have hjk:=Wq (DA n.ls 6) hj hm hlt
     have h2:=(hcm at' j (d - 1) m' hj hWa y).2 ⟨x,hx,hy,hdy⟩
     rw [hkk j hjk] at h2;cases h2)
    have htl:(E7 w).length=w.length:=by simp [E7]
    have htx:E7 w++[97+UInt8.ofNat m.toNat]=E7 (w++[m]):=by simp [E7]
    refine aE ?_
    (repeat first|(refine sA rfl ?_ ?_;first|exact tI|omega|simp only[oZ] at *;omega) |(refine s4 rfl ‹_› rfl ?_ ?_;omega) |refine sP rfl (Kc m (by omega) (by omega)) rfl ?_ |refine aU rfl ?_ |refine Aa ?_)
    refine⟨⟨(w++[m],Ee mv dist at' k (d - 1),d - 1),hN2⟩,by dsimp only;omega,[],?_⟩
    simp[cX,zC,hΓ,htx]
  ·obtain rfl:d=0:=by (simp only[oZ] at *;omega)
   have hans:=hW.gi hg hG
   have hrr:=BM.unique hr hans
   subst hrr
   (repeat' first|refine tA rfl ?_ |refine s2 rfl fun _ _hb=>?_ |refine aU rfl ?_ |refine Aa ?_|(refine aC rfl ?_ ?_<;>rintro⟨⟩)|refine aK ?_|refine aE ?_|refine aB ?_|refine aR ⟨_,rfl,?_⟩)
   all_goals first
    | (subst _hb;rfl)
abbrev ez(r:Option (List Int)):List UInt8:=(r.map E7).getD []
abbrev PI(r:Option (List Int)):E:=.t [(false,[.d (tD (ez r))]),(false,[.d (bD r.isSome)])]
theorem XY(r:Option (List Int)):cn r=PI r:=by cases r<;>rfl
noncomputable def GX(g:Gr):Option (List Int):=Classical.choose (LN g)
theorem GY(g:Gr):BM g (GX g):=Classical.choose_spec (LN g)
theorem VD{g:Gr}{r:Option (List Int)}(h:BM g r):GX g=r:=BM.unique (GY g) h
theorem Yu{a b:Nat}(ha:a < 64)(hb:b < 64):Wp .i64 a b=((a ||| b:Nat):Int)∧a ||| b < 64:=by
 have h0:a ||| b < 64:=Nat.or_lt_two_pow (n:=6) ha hb
 refine⟨?_,h0⟩
 unfold Wp
 have h1:(BitVec.ofInt IntKind.i64.bits (a:Int) ||| BitVec.ofInt IntKind.i64.bits (b:Int)).toNat=a ||| b:=by
  have e:IntKind.i64.bits=64:=rfl
  rw [e]
  simp only [BitVec.toNat_or,BitVec.ofInt_natCast,BitVec.toNat_ofNat]
  rw [Nat.mod_eq_of_lt (by omega),Nat.mod_eq_of_lt (by omega)]
 rw [h1]
 exact IntWalk.i64_in _ (by omega)
theorem NP:∀ {zs:List Int},(∀z∈zs,0 < z)→Fits zs (List.replicate zs.length 0)
 | [],_=>.nil
 | z::zs,h=>by
  rw [List.length_cons,List.replicate_succ]
  exact .cons (by omega) (h z (by simp)) (NP fun x hx=>h x (by simp [hx]))
end Go.Am
namespace Go.Am
open Go
def Br:List Int→Nat
 | []=>0
 | x::l=>2 ^ x.toNat+Br l
theorem MG:∀(l m:List Int),Br (l++m)=Br l+Br m
 | [],m=>by simp [Br]
 | x::l,m=>by simp [Br,MG l m,Nat.add_assoc]
theorem Lp:∀ {l:List Int} {t:Nat},l.Pairwise (· < ·)→(∀x∈l,0≤x∧x < t)→Br l < 2 ^ t
 | [],t,_,_=>Nat.two_pow_pos t
 | x :: l,t,hp,h=>by
  have key:∀(l:List Int) (a t:Nat),(∀x∈l,(a:Int)≤x∧x < t)→l.Pairwise (· < ·)→a≤t→2 ^ a+Br l≤2 ^ t:=by
   intro l
   induction l with
   | nil=>intro a t _ _ hat;simpa [Br] using Nat.pow_le_pow_right (by omega) hat
   | cons y l ih=>
    intro a t h hp hat
    have hy:=h y (by simp)
    have hp2:=List.pairwise_cons.1 hp
    have h1:=ih (y.toNat+1) t (fun x hx=>by have:=hp2.1 x hx;have:=h x (by simp [hx]);omega) hp2.2 (by omega)
    have h2:2 ^ a≤2 ^ y.toNat:=Nat.pow_le_pow_right (by omega) (by omega)
    rw [Nat.pow_succ] at h1
    simp only [Br];omega
  have hx:=h x (by simp)
  have hp2:=List.pairwise_cons.1 hp
  have h1:=key l (x.toNat+1) t (fun y hy=>by have:=hp2.1 y hy;have:=h y (by simp [hy]);omega) hp2.2 (by omega)
  rw [Nat.pow_succ] at h1
  simp only [Br]
  have:=Nat.two_pow_pos x.toNat
  omega
theorem Za{l:List Int}{t:Nat}(hp:l.Pairwise (· < ·))(h:∀x∈l,0≤x∧x < t):Br l ||| 2 ^ t=Br (l++[(t:Int)]):=by
 have h1:=Lp hp h
 rw [MG]
 have h2:=Nat.two_pow_add_eq_or_of_lt h1 1
 simp only [Nat.mul_one] at h2
 rw [Nat.or_comm,←h2]
 simp [Br];omega
theorem Pw:∀(k m:Nat),(2 ^ k*(2*m+1)) &&& (2 ^ k*(2*m+1) - 1)=2 ^ k*(2*m)
 | 0, m=>by
  apply Nat.eq_of_testBit_eq
  intro i
  cases i with
  | zero=>simp
  | succ i=>
   simp only [Nat.pow_zero,Nat.one_mul,Nat.add_sub_cancel]
   have h1:(2*m+1) / 2=m:=by omega
   have h2:2*m / 2=m:=by omega
   rw [Nat.testBit_and,Nat.testBit_succ,Nat.testBit_succ,h1,h2];simp
 | k + 1,m=>by
  have ih:=Pw k m
  have hp:0 < 2 ^ k*(2*m+1):=Nat.mul_pos (Nat.two_pow_pos k) (by omega)
  have e1:2 ^ (k+1)*(2*m+1)=2*(2 ^ k*(2*m+1)):=by rw [Nat.pow_succ,Nat.mul_comm (2 ^ k) 2,Nat.mul_assoc]
  have e2:2 ^ (k+1)*(2*m)=2*(2 ^ k*(2*m)):=by rw [Nat.pow_succ,Nat.mul_comm (2 ^ k) 2,Nat.mul_assoc]
  rw [e1,e2,←ih]
  generalize 2 ^ k*(2*m+1)=a at hp
  apply Nat.eq_of_testBit_eq
  intro i
  cases i with
  | zero=>simp
  | succ i=>
   have h1:2*a / 2=a:=by omega
   have h2:(2*a - 1) / 2=a - 1:=by omega
   have h3:2*(a &&& (a - 1)) / 2=a &&& (a - 1):=by omega
   rw [Nat.testBit_and,Nat.testBit_succ,Nat.testBit_succ,Nat.testBit_succ,h1,h2,h3,Nat.testBit_and]
theorem MI:∀ {l:List Int} {k:Nat},l.Pairwise (· < ·)→(∀x∈l,(k:Int) < x)→∃m,Br l=2 ^ k*(2*m)
 | [],k,_,_=>⟨0,by simp [Br]⟩
 | x :: l,k,hp,h=>by
  have hp2:=List.pairwise_cons.1 hp
  have hx:=h x (by simp)
  obtain⟨m,hm⟩:=MI (l:=l) (k:=k) hp2.2 fun y hy=>by have:=hp2.1 y hy;omega
  refine⟨2 ^ (x.toNat - k - 1)+m,?_⟩
  have e:x.toNat=k+(1+(x.toNat - k - 1)):=by omega
  have:2 ^ x.toNat=2 ^ k*(2*2 ^ (x.toNat - k - 1)):=by
   conv=>lhs;rw [e,Nat.pow_add,Nat.pow_add]
  simp only [Br,hm,this,←Nat.mul_add]
theorem Kq{x:Int}{l:List Int}(hp:(x::l).Pairwise (· < ·))(h0:0≤x):∃m,Br (x::l)=2 ^ x.toNat*(2*m+1)∧Br l=2 ^ x.toNat*(2*m):=by
 have hp2:=List.pairwise_cons.1 hp
 obtain⟨m,hm⟩:=MI (l:=l) (k:=x.toNat) hp2.2 fun y hy=>by have:=hp2.1 y hy;omega
 exact⟨m,by simp only [Br,hm];rw [Nat.mul_add];omega,hm⟩
theorem UY{x:Int}{l:List Int}(hp:(x::l).Pairwise (· < ·))(h0:0≤x):Br (x::l) &&& (Br (x::l) - 1)=Br l:=by
 obtain⟨m,h1,h2⟩:=Kq hp h0
 rw [h1,h2,Pw]
theorem MH{x:Int}{l:List Int}:0 < Br (x::l):=by
 simp only [Br];have:=Nat.two_pow_pos x.toNat;omega
theorem Xz{x:Int}{l:List Int}(hp:(x::l).Pairwise (· < ·))(h0:0≤x)(hlt:Br (x::l) < 2 ^ 64):Lib.ctz 64 (Br (x::l))=x.toNat:=by
 obtain⟨m,h1,_⟩:=Kq hp h0
 have h2:=Lib.lowest_bit 64 _ (by have:=MH (x:=x) (l:=l);omega) hlt
 have h3:=Lib.and_neg 64 x.toNat m (by rw [←h1];exact hlt)
 rw [←h1,h2.1] at h3
 exact(Nat.pow_right_inj (by omega)).1 h3
end Go.Am
namespace Go.Am
open Go Go.Proofs
set_option maxHeartbeats 1000000
set_option maxRecDepth 4000
attribute [local irreducible] AV BX Lex Bf Av Spec
variable {TB:Be}
theorem Zi(i:Nat)(h:i < 64):B7[i]? = some (.int .u8 (Lib.deBruijn64tab.getD i 0:Nat)):=by
 have e:B7=Lib.deBruijn64tab.map fun n=>Value.int .u8 (n:Nat):=rfl
 have hl:Lib.deBruijn64tab.length=64:=rfl
 rw [e,List.getElem?_map,List.getElem?_eq_getElem (by omega)]
 simp [List.getD,hl,h]
theorem bE(x a:Nat)(hx:x < 18446744073709551616)(hx0:x≠0)(hlow:x &&& (18446744073709551616 - x)=a) :
 (IntKind.u64.wrap (FK .u64 (x:Int) (IntKind.u64.wrap (-(x:Int)))*285870213051353865)).fdiv (2 ^ (min (58:Int).toNat IntKind.u64.bits))=((a*285870213051353865 % 18446744073709551616 / 288230376151711744:Nat):Int):=by
 have w64:∀n:Int,IntKind.u64.wrap n=n % 18446744073709551616:=fun n=>by simp [IntKind.wrap,IntKind.signed,IntKind.bits]
 have e1:IntKind.u64.wrap (-(x:Int))=((18446744073709551616 - x:Nat):Int):=by rw [w64];omega
 have e2:FK .u64 (x:Int) ((18446744073709551616 - x:Nat):Int)=(a:Int):=by
  unfold FK
  have e:IntKind.u64.bits=64:=rfl
  rw [e]
  have h1:(BitVec.ofInt 64 (x:Int) &&& BitVec.ofInt 64 ((18446744073709551616 - x:Nat):Int)).toNat=a:=by
   simp only [BitVec.toNat_and,BitVec.ofInt_natCast,BitVec.toNat_ofNat]
   rw [Nat.mod_eq_of_lt (by omega),Nat.mod_eq_of_lt (by omega),hlow]
  rw [h1,w64]
  have h2:a≤x:=by rw [←hlow];exact Nat.and_le_left
  omega
 rw [e1,e2,w64]
 have e3:(2:Int) ^ (min (58:Int).toNat IntKind.u64.bits)=288230376151711744:=rfl
 rw [e3,Int.fdiv_eq_ediv_of_nonneg _ (by omega)]
 omega
theorem Zm[Fo TB](x:Nat)(hx0:x≠0)(hx:x < 18446744073709551616):Pure Tryz.prog TB 318 [eI .u64 x] (eI .i64 (Lib.ctz 64 x)):=by
 obtain⟨hlow,hk⟩:=Lib.lowest_bit 64 x hx0 hx
 obtain⟨hi,htab⟩:=Lib.deBruijn64_at _ hk
 have hkey:=bE x _ hx hx0 hlow
 have htv:=Zi _ hi
 rw [htab] at htv
 generalize Lib.ctz 64 x=cz at *
 generalize 2 ^ cz*285870213051353865 % 18446744073709551616 / 288230376151711744=idx at *
 refine eN Tryz.func318 rfl (by kernel_rfl) rfl ?_;intro Γ hΓ
 (repeat' first|(refine sA rfl ?_ ?_;first|exact tI|omega) |refine s2 rfl fun _ _hb=>?_|(refine Ai rfl ?_;refine gA rfl ?_;first| refine gS (fun _ _=>dq rfl rfl) ?_|refine gS (fun _ _=>Zw rfl rfl rfl) ?_) |refine aU rfl ?_ |refine Aa ?_|(refine aC rfl ?_ ?_<;>rintro⟨⟩)|refine aK ?_|refine aE ?_|refine aB ?_|refine aR ⟨_,rfl,?_⟩)
 ·exfalso;(simp only[oZ] at *;omega)
 rw [hkey]
 clear hkey hlow htab
 (repeat' first|(refine sA rfl ?_ ?_;first|exact tI|omega)|(refine Ai rfl ?_;refine gA rfl ?_;first| refine gS (fun _ _=>WY (v:=.int .u8 ((cz:Nat):Int)) rfl (by omega) (by omega) (by rw [Int.toNat_natCast];exact htv)) ?_) |refine Aa ?_|(refine aC rfl ?_ ?_<;>rintro⟨⟩)|refine aK ?_|refine aE ?_|refine aB ?_|refine aR ⟨_,rfl,?_⟩)
 rfl
theorem dP[Fo TB](x:Nat)(hx0:x≠0)(hx:x < 18446744073709551616):Pure Tryz.prog TB 311 [eI .u64 x] (eI .i64 (Lib.ctz 64 x)):=by
 refine eN Tryz.func311 rfl (by kernel_rfl) rfl ?_;intro Γ hΓ
 (repeat' first|refine tA rfl ?_ |refine sP rfl (Zm x hx0 hx) rfl ?_ |refine aU rfl ?_ |refine Aa ?_|(refine aC rfl ?_ ?_<;>rintro⟨⟩)|refine aK ?_|refine aE ?_|refine aB ?_|refine aR ⟨_,rfl,?_⟩)
 all_goals rfl
theorem Uu{x:Int}{l:List Int}(hp:(x::l).Pairwise (· < ·))(h0:0≤x)(hlt:Br (x::l) < 2 ^ 62):FK .i64 (Br (x::l):Nat) ((Br (x::l):Nat) - 1)=(Br l:Nat):=by
 have h1:=UY hp h0
 have h2:=MH (x:=x) (l:=l)
 have h3:Br l≤Br (x::l):=Nat.le_add_left _ _
 generalize Br (x::l)=a at *
 have e1:((a:Nat):Int) - 1=((a - 1:Nat):Int):=by omega
 rw [e1]
 unfold FK
 have e:IntKind.i64.bits=64:=rfl
 rw [e]
 have h4:(BitVec.ofInt 64 (a:Int) &&& BitVec.ofInt 64 ((a - 1:Nat):Int)).toNat=Br l:=by
  simp only [BitVec.toNat_and,BitVec.ofInt_natCast,BitVec.toNat_ofNat]
  rw [Nat.mod_eq_of_lt (by omega),Nat.mod_eq_of_lt (by omega),h1]
 rw [h4]
 exact IntWalk.i64_in _ (by omega)
theorem O7(r:Nat→Nat):∀ds:List D,C.Bp r (ds.map .d)=ds.map .d
 | []=>rfl
 | d::l=>by simp [C.Bp,C.AW,O7 r l]
def MT(es:List Fk)(f l:Nat):List Int:=(es.filter fun e:Fk=>decide (e.f=(f:Int)) && decide (e.l=(l:Int))).map (·.t)
def EU(es:List Fk):List D:=(List.range 96).map fun i=>iD (Br (MT es (i / 6) (i % 6)):Nat)
theorem HG{es:List Fk}{i:Nat}(h:i < 96):(EU es)[i]? = some (iD (Br (MT es (i / 6) (i % 6)):Nat)):=by simp [EU,h]
theorem Ud(es:List Fk)(e:Fk)(f l:Nat):MT (es++[e]) f l=MT es f l++if e.f=(f:Int)∧e.l=(l:Int) then [e.t] else []:=by
 simp only [MT,List.filter_append,List.map_append,List.filter_cons,List.filter_nil]
 grind
theorem GF{r:List C}{j:Nat}{c:C}(h:j < r.length):AE r j [c]=r.set j c:=by
 unfold AE
 rw [List.set_eq_take_append_cons_drop,if_pos h]
 simp
theorem RU{es:List Fk}{e:Fk}{v:Int}(h0:0≤e.f∧e.f < 16)(h1:0≤e.l∧e.l < 6)(hv:v=(Br (MT (es++[e]) e.f.toNat e.l.toNat):Nat)) :
 AE ((EU es).map .d) (0+e.f.toNat*6+e.l.toNat*1) (eC (eI .i64 v))=(EU (es++[e])).map .d:=by
 have hj:0+e.f.toNat*6+e.l.toNat*1 < 96:=by omega
 have:eC (eI .i64 v)=[C.d (iD v)]:=rfl
 rw [this,GF (by simp [EU];omega),←List.map_set]
 congr 1
 apply List.ext_getElem?
 intro i
 by_cases hi:i < 96
 ·rw [HG hi]
  by_cases hij:0+e.f.toNat*6+e.l.toNat*1=i
  ·subst hij
   rw [List.getElem?_set_self (by simp [EU];omega),hv]
   have e1:(0+e.f.toNat*6+e.l.toNat*1) / 6=e.f.toNat:=by omega
   have e2:(0+e.f.toNat*6+e.l.toNat*1) % 6=e.l.toNat:=by omega
   rw [e1,e2]
  ·rw [List.getElem?_set_ne hij,HG hi,Ud,if_neg (by omega),List.append_nil]
 ·rw [List.getElem?_eq_none (by simp [EU];omega),List.getElem?_eq_none (by simp [EU];omega)]
theorem E2{s:Sys}(h:BC s=true)(k f l:Nat):(MT (s.es.take k) f l).Pairwise (· < ·):=by
 unfold MT
 rw [List.pairwise_map]
 refine List.Pairwise.imp_of_mem (fun {a b} ha hb hab=>?_) (((JD h).sublist (List.take_sublist k s.es)).filter _)
 have h1:=(List.mem_filter.1 ha).2
 have h2:=(List.mem_filter.1 hb).2
 unfold Io at hab
 grind
theorem MU{s:Sys}(h:BC s=true){k f l:Nat}{x:Int}(hx:x∈MT (s.es.take k) f l):0≤x∧x < 16:=by
 unfold MT at hx
 obtain⟨e,he,rfl⟩:=List.mem_map.1 hx
 have h2:=Di h (List.mem_of_mem_take (List.mem_filter.1 he).1)
 have h3:=Cm h
 unfold Db at h2
 grind
theorem Yv{a t:Nat}(ha:a < 2 ^ 16)(ht:t < 16):Wp .i64 (a:Nat) ((2 ^ t:Nat):Int)=((a ||| 2 ^ t:Nat):Int):=by
 have h2:2 ^ t < 2 ^ 16:=Nat.pow_lt_pow_right (by omega) ht
 have h0:a ||| 2 ^ t < 2 ^ 16:=Nat.or_lt_two_pow ha h2
 unfold Wp
 have h1:(BitVec.ofInt IntKind.i64.bits (a:Int) ||| BitVec.ofInt IntKind.i64.bits ((2 ^ t:Nat):Int)).toNat=a ||| 2 ^ t:=by
  have e:IntKind.i64.bits=64:=rfl
  rw [e]
  simp only [BitVec.toNat_or,BitVec.ofInt_natCast,BitVec.toNat_ofNat]
  rw [Nat.mod_eq_of_lt (by omega),Nat.mod_eq_of_lt (by omega)]
 rw [h1]
 exact IntWalk.i64_in _ (by omega)
theorem TV{t:Int}(h0:0≤t)(h1:t < 16):IntKind.i64.wrap (1*2 ^ (min t.toNat IntKind.i64.bits))=((2 ^ t.toNat:Nat):Int):=by
 have e:min t.toNat IntKind.i64.bits=t.toNat:=by
  have:IntKind.i64.bits=64:=rfl
  omega
 rw [e,Int.one_mul]
 have h2:2 ^ t.toNat < 2 ^ 16:=Nat.pow_lt_pow_right (by omega) (by omega)
 have h3:(2:Int) ^ t.toNat=((2 ^ t.toNat:Nat):Int):=by push_cast;rfl
 rw [h3]
 generalize 2 ^ t.toNat=p at *
 exact IntWalk.i64_in _ (by omega)
theorem RT(s:Sys)(h:BC s=true):Pure Tryz.prog TB 206 [Nh s] (.o (.ip (EU s.es))):=by
 refine eN Tryz.func206 rfl (by kernel_rfl) rfl ?_;intro Γ hΓ
 (repeat first|refine sN rfl ?_ |refine tA rfl ?_ |refine aU rfl ?_ |refine Aa ?_)
 refine Av.bound 8 rfl fun hB0=>?_
 have hB:=hB0 (s.es.map CZ) .refl
 refine aB ?_
 refine Av.AR (α:={k:Nat // k≤s.es.length}) (fun ⟨k,hk⟩=>[(3,.o (.ptr 0 96 0 0)),(8,Hb s.es),(9,eI .i64 s.es.length),(10,eI .i64 k)]) (fun ⟨k,hk⟩=>[(0,.cells 255 96 [(EU (s.es.take k)).map .d])]) 1 (fun ⟨k,hk⟩=>s.es.length - k) (⟨0,by omega⟩) [0] (Dq hΓ rfl rfl) (by (repeat' first|exact tI|rfl|refine And.intro ?_ ?_)) ?_;rintro⟨k,hk⟩;(try dsimp only)
 (repeat first|refine s2 rfl fun _ _hb=>?_ |refine aU rfl ?_ |refine Aa ?_)
 (refine aC rfl ?_ ?_<;>rintro⟨⟩)
 ·obtain⟨e,he⟩:=get_some (l:=s.es) (k:=k) (by (simp only[oZ] at *;omega))
  have he':=get_map (g:=CZ) he
  have heo:=Di h (List.mem_of_getElem? he)
  have hh:=Cm h
  unfold Db at heo
  simp only [Bool.and_eq_true,decide_eq_true_eq] at heo
  obtain⟨⟨hf0,hf1,ht0,ht1,hl0,hl1⟩,hbit⟩:=heo
  have hj96:0+e.f.toNat*6+e.l.toNat*1+1≤96:=by omega
  have hshl:=TV ht0 (by omega)
  have htk:s.es.take (k+1)=s.es.take k++[e]:=by rw [List.take_add_one,he];rfl
  have hap:MT (s.es.take (k+1)) e.f.toNat e.l.toNat=MT (s.es.take k) e.f.toNat e.l.toNat++[e.t]:=by
   rw [htk,Ud,if_pos (by omega)]
  have hbnd:∀x∈MT (s.es.take k) e.f.toNat e.l.toNat,0≤x∧x < e.t.toNat:=by
   intro x hx
   have h1:=E2 h (k+1) e.f.toNat e.l.toNat
   rw [hap,List.pairwise_append] at h1
   have h2:=h1.2.2 x hx e.t (by simp)
   have h3:=MU h hx
   omega
  have hor1:=Za (E2 h k e.f.toNat e.l.toNat) hbnd
  have hlt:=Lp (t:=16) (E2 h k e.f.toNat e.l.toNat) fun x hx=>MU h hx
  have hor:=Yv hlt (t:=e.t.toNat) (by omega)
  have et:((e.t.toNat:Nat):Int)=e.t:=by omega
  rw [hor1,et,←hap,htk] at hor
  have hstep:=RU (es:=s.es.take k) (e:=e) ⟨hf0,by omega⟩ ⟨hl0,hl1⟩ rfl
  rw [←hor] at hstep
  have hld:((EU (s.es.take k)).map C.d)[0+e.f.toNat*6+e.l.toNat*1]? = some (.d (iD (Br (MT (s.es.take k) e.f.toNat e.l.toNat):Nat))):=by
   have e1:(0+e.f.toNat*6+e.l.toNat*1) / 6=e.f.toNat:=by omega
   have e2:(0+e.f.toNat*6+e.l.toNat*1) % 6=e.l.toNat:=by omega
   rw [List.getElem?_map,HG (by omega),e1,e2];rfl
  refine aK ?_
  refine aS (aB ?_)
  (repeat first|refine tA rfl ?_ |(refine s4 rfl ‹_› rfl ?_ ?_;omega) |refine aU rfl ?_ |refine Aa ?_)
  refine rG (J6 [16]) (by kernel_rfl) ?_
  (repeat first|(refine sA rfl ?_ ?_;first|exact tI|omega)|(refine Ai rfl ?_;refine gA rfl ?_;first| refine gS (fun _ _=>Zx rfl rfl (by omega) hshl) ?_|refine gQ (O6 rfl rfl rfl hld) (by rfl) ?_))
  (refine Ai rfl ?_;refine FT ?_ rfl (by rfl);refine Ea rfl rfl rfl rfl (rfl) rfl (hj96) ?_)
  (repeat first|(refine sA rfl ?_ ?_;first|exact tI|simp only[oZ] at *;omega) |refine aU rfl ?_ |refine Aa ?_)
  refine⟨⟨k+1,by (simp only[oZ] at *;omega)⟩,by dsimp only;((simp only[oZ] at *;omega)),[0],?_⟩
  rw [hstep,←htk]
  simp[cX,zC,hΓ,List.set_cons_zero,O7]
 ·obtain rfl:k=s.es.length:=by (simp only[oZ] at *;omega)
  refine aE ?_
  rw [List.take_length]
  (repeat first|refine tM rfl ?_ |refine aU rfl ?_ |refine Aa ?_)
  refine Av.freeze [0] [(2,.o (.ip (EU s.es)))] ⟨⟨_,rfl,.o (.ptr (by simp) rfl rfl rfl)⟩,trivial⟩ ?_
  refine aR ⟨_,rfl,rfl⟩
def MD(h:Nat→Int):List C:=(List.range 6).map fun l=>.d (iD (h l))
def Sd(h:Nat→Int):List D:=(List.range 6).map fun l=>iD (h l)
theorem Xt(h:Nat→Int):MD h=(Sd h).map .d:=by simp [MD,Sd]
def Bi{α:Type}(n:Nat)(g:Nat→α):List α:=(List.range n).map g
theorem CR{α:Type}{n q:Nat}{g:Nat→α}(h:q < n):(Bi n g)[q]? = some (g q):=by simp [Bi,h]
theorem Ko{α:Type}{n q:Nat}{g:Nat→α}{x:α}:(Bi n g).set q x=Bi n fun i=>if i=q then x else g i:=by
 apply List.ext_getElem?
 intro i
 by_cases hi:i < n
 ·rw [CR hi]
  by_cases hq:q=i
  ·subst hq;rw [List.getElem?_set_self (by simp [Bi,hi])];simp
  ·rw [List.getElem?_set_ne hq,CR hi,if_neg (Ne.symm hq)]
 ·rw [List.getElem?_eq_none (by simp [Bi];omega),List.getElem?_eq_none (by simp [Bi];omega)]
theorem Ce{α:Type}{n:Nat}{g g':Nat→α}(h:∀i,i < n→g i=g' i):Bi n g=Bi n g':=by
 unfold Bi
 exact List.map_congr_left fun i hi=>h i (List.mem_range.1 hi)
theorem Xu{h:Nat→Int}{l:Nat}{v:Int}(hl:l < 6):AE (MD h) (0+l*1) (eC (eI .i64 v))=MD fun x=>if x=l then v else h x:=by
 have e:eC (eI .i64 v)=[C.d (iD v)]:=rfl
 rw [e,GF (by simp [MD];omega)]
 have:=Ko (n:=6) (q:=l) (g:=fun l=>C.d (iD (h l))) (x:=C.d (iD v))
 have e1:0+l*1=l:=by omega
 rw [e1]
 refine Eq.trans this (Ce fun i _=>?_)
 by_cases e:i=l<;>simp [e]
theorem IH{h h':Nat→Int}(hh:∀l,l < 6→h l=h' l):MD h=MD h':=Ce fun i hi=>by rw [hh i hi]
theorem HY(s:Int):∀(n k:Nat),k≤n→Ay s k <+: Ay s n
  | 0, k, h => by have:k=0:=by omega
                  subst this;exact List.prefix_refl _
  | n + 1,k,h=>by
    rcases Nat.lt_or_ge k (n+1) with h1|h1
    · rw [B4]
      exact(HY s n k (by omega)).trans (List.prefix_append _ _)
    · have:k=n+1:=by omega
      subst this;exact List.prefix_refl _
theorem HZ{s:Int}{k n:Nat}{l:Int}(h:(Ay s n)[k]? = some l):(Ay s l.toNat).length=k:=by
 have h1:=AS (List.mem_of_getElem? h)
 have h2:(Ay s (l.toNat+1))[(Ay s l.toNat).length]? = some l:=by
  rw [B4,if_pos h1.2.2,List.getElem?_append_right (Nat.le_refl _)]
  simp;omega
 have h3:(Ay s n)[(Ay s l.toNat).length]? = some l:=by
  obtain⟨t,ht⟩:=HY s n (l.toNat+1) (by omega)
  rw [←ht,List.getElem?_append_left (List.getElem?_eq_some_iff.1 h2).1];exact h2
 have hp:=DA s n
 rw [List.pairwise_iff_getElem] at hp
 obtain⟨a1,a2⟩:=List.getElem?_eq_some_iff.1 h
 obtain⟨b1,b2⟩:=List.getElem?_eq_some_iff.1 h3
 rcases Nat.lt_trichotomy (Ay s l.toNat).length k with h4|h4|h4
 ·have:=hp _ _ b1 a1 h4;omega
 ·exact h4
 ·have:=hp _ _ a1 b1 h4;omega
theorem Fs{s:Int}{n l:Nat}:(l:Int)∈Ay s n↔l < n∧DN s l=true:=by
 unfold Ay
 simp only [List.mem_map,List.mem_filter,List.mem_range]
 constructor
 ·rintro⟨a,ha,e⟩
  have:a=l:=by have e:((a:Nat):Int)=l:=e;omega
  subst this;exact ha
 ·intro h;exact⟨l,h,rfl⟩
def MZ(n:Nat)(H:Nat→Nat→Int):List (List C):=Bi n fun i=>MD (H i)
theorem HM(r:Nat→Nat)(n:Nat)(H:Nat→Nat→Int):(MZ n H).map (C.Bp r)=MZ n H:=by
 unfold MZ Bi
 rw [List.map_map]
 exact List.map_congr_left fun i _=>by simp only [Function.comp_def,Xt,O7]
theorem XH(n:Nat):MZ n (fun _ _=>0)=List.replicate n [C.d (D.v (Value.int IntKind.i64 0)),C.d (D.v (Value.int IntKind.i64 0)),C.d (D.v (Value.int IntKind.i64 0)),C.d (D.v (Value.int IntKind.i64 0)),C.d (D.v (Value.int IntKind.i64 0)),C.d (D.v (Value.int IntKind.i64 0))]:=by
 unfold MZ Bi
 rw [List.map_const'];simp;exact .inr rfl
theorem T8{n q:Nat}{H:Nat→Nat→Int}(h:q < n):(MZ n H)[0+((q:Nat):Int).toNat]? = some (MD (H q)):=by
 rw [Nat.zero_add,Int.toNat_natCast];exact CR (g:=fun i=>MD (H i)) h
theorem T9{n q l:Nat}{v:Int}{H:Nat→Nat→Int}(hl:l < 6):(MZ n H).set (0+((q:Nat):Int).toNat) (AE (MD (H q)) (0+((l:Nat):Int).toNat*1) (eC (eI .i64 v)))=MZ n fun i x=>if i=q∧x=l then v else H i x:=by
 rw [Nat.zero_add,Int.toNat_natCast,Int.toNat_natCast,Xu hl]
 unfold MZ
 rw [Ko]
 refine Ce fun i _=>?_
 by_cases e:i=q
 ·subst e;rw [if_pos rfl];exact IH fun l _=>by simp
 ·rw [if_neg e];exact IH fun l _=>by simp [e]
theorem Ga{n:Nat}{H H':Nat→Nat→Int}(h:∀i,i < n→∀l,l < 6→H i l=H' i l):MZ n H=MZ n H':=Ce fun i hi=>IH fun l hl=>h i hi l hl
theorem Zj(n:Nat)(H:Nat→Nat→Int):(MZ n H).length=n:=by simp [MZ,Bi]
def Gb(a:Bn):List (List D):=Bi a.nx.length fun q=>Sd fun l=>B9 a q l
theorem dH(a:Bn):MZ a.nx.length (fun i l=>B9 a i l)=(Gb a).map fun r=>r.map .d:=by
 unfold MZ Gb Bi
 rw [List.map_map]
 exact List.map_congr_left fun i _=>by simp only [Function.comp_def,Xt]
def bV(a:Bn):Prop:=a.nx.length≤64∧∀q,q < a.nx.length→∃row:List Int,a.nx[q]? = some row∧row.length=(Ac a.al).length∧∀(k:Nat) y,row[k]? = some y→0≤y∧y < a.nx.length
theorem X6{a:Bn}(h:AK a=true):bV a:=⟨by have:=Aj h;omega,fun q hq=>JT h hq⟩
theorem QP(a:Bn)(h:bV a):Pure Tryz.prog TB 132 [Da a] (.o (.d (.l (Gb a)))):=by
 have hh:=h.1
 have hll:(Ac a.al).length≤6:=A0 a.al 6
 refine eN Tryz.func132 rfl (by kernel_rfl) rfl ?_;intro Γ hΓ
 (repeat first|refine aU rfl ?_)
 (refine Ai rfl ?_;refine B5 (fun _ _=>CE rfl rfl rfl) rfl ?_)
 (refine Ai rfl ?_;refine B5 (fun _ _=>BQ rfl) rfl ?_)
 (repeat first|refine sN rfl ?_ |refine tM rfl ?_ |refine aU rfl ?_ |refine Aa ?_)
 (refine pW rfl ?_ rfl (by rfl);refine Ep rfl rfl (by rfl) (by rfl) (Nat.le_of_ble_eq_true rfl) (by omega) (by omega) (by omega) ?_)
 (repeat first|refine sN rfl ?_ |refine tM rfl ?_ |refine sP rfl (CP a.al) rfl ?_ |refine aU rfl ?_ |refine Aa ?_)
 refine aB ?_
 refine Av.AR (α:={q:Nat // q≤a.nx.length}) (fun ⟨q,hq⟩=>[(1,.o (.ip (Ed a))),(3,.o (.arr 0 6 0 a.nx.length)),(4,Ag (Ac a.al)),(18,BS a.nx),(19,eI .i64 a.nx.length),(20,eI .i64 q)]) (fun ⟨q,hq⟩=>[(0,.cells 148 6 (MZ a.nx.length fun i l=>if i < q then B9 a i l else 0))]) 1 (fun ⟨q,hq⟩=>a.nx.length - q) (⟨0,by omega⟩) [0] (Dq hΓ rfl rfl) (by (simp[cX,zC,hΓ,HM,XH])) ?_;rintro⟨q,hq⟩;(try dsimp only)
 (repeat first|refine s2 rfl fun _ _hb=>?_ |refine aU rfl ?_ |refine Aa ?_)
 (refine aC rfl ?_ ?_<;>rintro⟨⟩)
 ·have hqn : q < a.nx.length:=by (simp only[oZ] at *;omega)
  obtain⟨row,hr,hrl,hrx⟩:=h.2 q hqn
  have hr':=get_map (g:=Dy) hr
  refine aK ?_
  refine aS (aB ?_)
  (repeat first|refine tM rfl ?_ |(refine s4 rfl ‹_› rfl ?_ ?_;omega) |refine aU rfl ?_ |refine Aa ?_)
  refine aB ?_
  refine Av.AR (α:={m:Nat // m≤6}) (fun ⟨m,hm⟩=>[(1,.o (.ip (Ed a))),(3,.o (.arr 0 6 0 a.nx.length)),(4,Ag (Ac a.al)),(18,BS a.nx),(19,eI .i64 a.nx.length),(20,eI .i64 q),(5,eI .i64 q),(6,Ag row),(25,eI .i64 m)]) (fun ⟨m,hm⟩=>[(0,.cells 148 6 (MZ a.nx.length fun i l=>if i < q then B9 a i l else if i=q∧l < m then q else 0))]) 1 (fun ⟨m,hm⟩=>6 - m) (⟨0,by omega⟩) [0] (Dq hΓ rfl rfl) (by (simp[cX,zC,hΓ,HM])) ?_;rintro⟨m,hm⟩;(try dsimp only)
  (repeat first|refine s2 rfl fun _ _hb=>?_ |refine aU rfl ?_ |refine Aa ?_)
  (refine aC rfl ?_ ?_<;>rintro⟨⟩)
  ·have hm6:m < 6:=by (simp only[oZ] at *;omega)
   have hmj:0+((m:Nat):Int).toNat*1+1≤6:=by omega
   have hg:=T8 (H:=fun i l=>if i < q then B9 a i l else if i=q∧l < m then q else 0) hqn
   have hs:=T9 (n:=a.nx.length) (q:=q) (v:=q) (H:=fun i l=>if i < q then B9 a i l else if i=q∧l < m then q else 0) hm6
   have hc:(MZ a.nx.length fun (i x:Nat)=>if i=q∧x=m then (q:Int) else (fun (i l:Nat)=>if i < q then B9 a i l else if i=q∧l < m then (q:Int) else 0) i x)=MZ a.nx.length fun i l=>if i < q then B9 a i l else if i=q∧l < m+1 then (q:Int) else 0:=Ga fun i _ l _=>by dsimp only;grind
   refine aK ?_
   refine aS (aB ?_)
   (repeat first|(refine sM rfl ?_ ?_;first|exact tI|omega) |refine aU rfl ?_ |refine Aa ?_)
   (refine Ai rfl ?_;refine FT ?_ rfl (by rfl);refine Ea rfl rfl rfl rfl (hg) rfl (hmj) ?_)
   (repeat first|(refine sM rfl ?_ ?_;first|exact tI|omega) |refine aU rfl ?_ |refine Aa ?_)
   refine⟨⟨m+1,by omega⟩,by dsimp only;(omega),[0],?_⟩
   rw [hs,hc]
   simp[cX,zC,hΓ,HM]
  ·obtain rfl:m=6:=by (simp only[oZ] at *;omega)
   have hc0:=Ga (n:=a.nx.length) (H:=fun i l=>if i < q then B9 a i l else if i=q∧l < 6 then (q:Int) else 0) (H':=fun i l=>if i < q then B9 a i l else if i=q then (if (l:Int)∈(Ac a.al).take 0 then B9 a q l else (q:Int)) else 0) fun i _ l hl=>by simp [hl]
   rw [hc0]
   refine aE ?_
   (repeat first|refine sN rfl ?_ |refine tM rfl ?_ |refine aU rfl ?_ |refine Aa ?_)
   refine aB ?_
   refine Av.AR (α:={k:Nat // k≤(Ac a.al).length}) (fun ⟨k,hk⟩=>[(1,.o (.ip (Ed a))),(3,.o (.arr 0 6 0 a.nx.length)),(4,Ag (Ac a.al)),(18,BS a.nx),(19,eI .i64 a.nx.length),(20,eI .i64 q),(5,eI .i64 q),(6,Ag row),(35,Ag (Ac a.al)),(36,eI .i64 (Ac a.al).length),(37,eI .i64 k)]) (fun ⟨k,hk⟩=>[(0,.cells 148 6 (MZ a.nx.length fun i l=>if i < q then B9 a i l else if i=q then (if (l:Int)∈(Ac a.al).take k then B9 a q l else (q:Int)) else 0))]) 1 (fun ⟨k,hk⟩=>(Ac a.al).length - k) (⟨0,by omega⟩) [0] (Dq hΓ rfl rfl) (by (simp[cX,zC,hΓ,HM])) ?_;rintro⟨k,hk⟩;(try dsimp only)
   (repeat first|refine s2 rfl fun _ _hb=>?_ |refine aU rfl ?_ |refine Aa ?_)
   (refine aC rfl ?_ ?_<;>rintro⟨⟩)
   ·obtain⟨l,hl⟩:=get_some (l:=Ac a.al) (k:=k) (by (simp only[oZ] at *;omega))
    have hl':=get_map (g:=Bm) hl
    have hlb:=AS (List.mem_of_getElem? hl)
    have hpl:=HZ hl
    obtain⟨y,hy⟩:=get_some (l:=row) (k:=k) (by (simp only[oZ] at *;omega))
    have hy':=get_map (g:=Bm) hy
    obtain⟨m,rfl⟩:∃m:Nat,l=m:=⟨l.toNat,by omega⟩
    have hgo:B9 a q m=y:=by
     unfold B9
     rw [if_pos hlb.2.2,hpl];simp [List.getD,hr,hy]
    have hm6:m < 6:=by omega
    have hmj:0+((m:Nat):Int).toNat*1+1≤6:=by omega
    have hg:=T8 (H:=fun i l=>if i < q then B9 a i l else if i=q then (if (l:Int)∈(Ac a.al).take k then B9 a q l else (q:Int)) else 0) hqn
    have hs:=T9 (n:=a.nx.length) (q:=q) (v:=y) (H:=fun i l=>if i < q then B9 a i l else if i=q then (if (l:Int)∈(Ac a.al).take k then B9 a q l else (q:Int)) else 0) hm6
    have hc:(MZ a.nx.length fun (i x:Nat)=>if i=q∧x=m then y else (fun (i l:Nat)=>if i < q then B9 a i l else if i=q then (if (l:Int)∈(Ac a.al).take k then B9 a q l else (q:Int)) else 0) i x)=MZ a.nx.length fun i l=>if i < q then B9 a i l else if i=q then (if (l:Int)∈(Ac a.al).take (k+1) then B9 a q l else (q:Int)) else 0:=Ga fun i _ l _=>by
     try dsimp only
     rw [List.take_add_one,hl]
     by_cases e:i=q
     ·subst e
      by_cases e2:l=m
      ·subst e2;simp [hgo]
      ·have e3:¬(l:Int)=(m:Int):=by omega
       simp [e2,e3]
     ·simp [e]
    refine aK ?_
    refine aS (aB ?_)
    (repeat first|refine tM rfl ?_ |(refine s4 rfl ‹_› rfl ?_ ?_;omega) |refine aU rfl ?_ |refine Aa ?_)
    refine rG (J6 [9]) (by kernel_rfl) ?_
    (repeat first|(refine sM rfl ?_ ?_;first|exact tI|omega) |(refine s4 rfl ‹_› rfl ?_ ?_;omega))
    (refine Ai rfl ?_;refine FT ?_ rfl (by rfl);refine Ea rfl rfl rfl rfl (hg) rfl (hmj) ?_)
    (repeat first|(refine sM rfl ?_ ?_;first|exact tI|omega) |refine aU rfl ?_ |refine Aa ?_)
    refine⟨⟨k+1,by (simp only[oZ] at *;omega)⟩,by dsimp only;((simp only[oZ] at *;omega)),[0],?_⟩
    rw [hs,hc]
    simp[cX,zC,hΓ,HM]
   ·obtain rfl:k=(Ac a.al).length:=by (simp only[oZ] at *;omega)
    have hc0:=Ga (n:=a.nx.length) (H:=fun i l=>if i < q then B9 a i l else if i=q then (if (l:Int)∈(Ac a.al).take (Ac a.al).length then B9 a q l else (q:Int)) else 0) (H':=fun i l=>if i < q+1 then B9 a i l else 0) fun i _ l hl=>by
     try dsimp only
     rw [List.take_length]
     by_cases e:i=q
     ·subst e
      simp only [Nat.lt_irrefl,if_false,if_true,Nat.lt_succ_self]
      by_cases e2:DN a.al l=true
      ·rw [if_pos (Fs.2 ⟨hl,e2⟩)]
      ·rw [if_neg (fun h=>e2 (Fs.1 h).2)];unfold B9;rw [if_neg (by simpa using e2)]
     ·by_cases e2:i < q
      ·rw [if_pos e2,if_pos (by omega)]
      ·rw [if_neg e2,if_neg e,if_neg (by omega)]
    rw [hc0]
    refine aE ?_
    (repeat first|(refine sM rfl ?_ ?_;first|exact tI|omega) |refine aU rfl ?_ |refine Aa ?_)
    refine⟨⟨q+1,by omega⟩,by dsimp only;(omega),[0],?_⟩
    simp[cX,zC,hΓ,HM]
 ·obtain rfl:q=a.nx.length:=by (simp only[oZ] at *;omega)
  have hc:=Ga (n:=a.nx.length) (H:=fun i l=>if i < a.nx.length then B9 a i l else 0) (H':=fun i l=>B9 a i l) fun i hi l _=>by rw [if_pos hi]
  rw [hc]
  refine aE ?_
  (repeat first|refine tM rfl ?_ |refine aU rfl ?_ |refine Aa ?_)
  refine Av.freeze [0] [(2,.o (.d (.l (Gb a))))] ⟨⟨_,rfl,.o (.full (by simp) rfl (dH a) (by simp [Zj]))⟩,trivial⟩ ?_
  refine aR ⟨_,rfl,rfl⟩
theorem E1(a:Bn)(h:AK a=true):Pure Tryz.prog TB 132 [Da a] (.o (.d (.l (Gb a)))):=QP a (X6 h)
end Go.Am
namespace Go.Am
open Go
def Ke:List Int→List (List Int)→List Int
 | _::zs,c::cs=>c.flatMap fun q=>(Ke zs cs).map fun r=>q*AG zs+r
 | _,_=>[0]
theorem WC:∀ {zs:List Int} {cs:List (List Int)},Fj zs cs→∀out:List Int,Gu zs cs out=out.flatMap fun o=>(Ke zs cs).map fun r=>o*AG zs+r:=by
 intro zs cs h
 induction h with
 | nil=>intro out;simp [Gu,Ke,AG]
 | @cons z c zs cs _ _ _ ih=>
  intro out
  rw [Gu,ih,List.flatMap_assoc]
  congr 1
  funext o
  rw [List.flatMap_map,Ke,List.map_flatMap]
  congr 1
  funext q
  rw [List.map_map]
  congr 1
  funext r
  simp only [Function.comp_def,AG]
  rw [Int.add_mul,Int.mul_assoc];omega
theorem UG{zs:List Int}{cs:List (List Int)}(h:Fj zs cs):Gu zs cs [0]=Ke zs cs:=by
 rw [WC h];simp
theorem Kk:∀(zs ws:List Int),AG (zs++ws)=AG zs*AG ws
 | [],ws=>by simp [AG]
 | z::zs,ws=>by simp [AG,Kk zs ws,Int.mul_assoc]
theorem PH:∀(zs ws:List Int) (n:Int),(∀w∈ws,0 < w)→Bz (zs++ws) n=Bz zs (n / AG ws)++Bz ws n
 | [],ws,n,_=>rfl
 | z::zs,ws,n,h=>by
  have hp:=Ob h
  simp only [List.cons_append,Bz,PH zs ws n h,Kk]
  rw [Int.mul_comm (AG zs),Int.ediv_ediv_of_nonneg (by omega)]
def bI(l:List Sys)(node letter:Int):List (List Int):=l.zipWith (fun s q=>Cf s q letter) (Bz (l.map (·.st)) node)
theorem ZU{l:List Sys}(h:∀s∈l,BC s=true)(hl:l.length≤3){letter:Int}(h0:0≤letter)(h1:letter < 6)(node:Int):Fj (l.map (·.st)) (bI l node letter):=by
 have hn:DL ⟨l,[],[],0,0,0⟩:=⟨h,fun a ha=>(by cases ha),hl,by simp⟩
 have hz:Ae ⟨l,[],[],0,0,0⟩=l.map (·.st):=by simp [Ae]
 have hf:=I7 hn node
 have:=IZ hn hf h0 h1
 rw [hz] at this
 unfold KU at this
 simpa [bI] using this
end Go.Am
namespace Go.Am
open Go Go.Proofs
set_option maxHeartbeats 1000000
set_option maxRecDepth 4000
attribute [local irreducible] AV BX Lex Bf Av Spec
variable {TB:Be}
theorem Dp{P:Program}{Γ:Ctx}{d:Option Tmp}{ty:TypeId}{pos:String}{af:Array Edge}{g:Option (Nat×Bool)}{f:Env}{σ:Ab}{nx:Nat}{t:TypeId}{x:Operand}{c:D}{cs:List D}{n:Nat}[hl:Cu P t false n](hx:ev f x=some (.o (.ip cs)))(hc:cs[0]? = some c):AV P TB Γ ⟨d,.load t x,ty,pos,af,g⟩ f σ nx (.o (.d c)):=by
 cases cs with
 | nil=>cases hc
 | cons a l=>injection hc with hc;subst hc;exact Qr hx
theorem ax{es:List Fk}{q l:Int}(h0:0≤q∧q < 16)(h1:0≤l∧l < 6):(((EU es).drop (q.toNat*6)).drop (l.toNat*1))[0]? = some (iD (Br (MT es q.toNat l.toNat):Nat)):=by
 rw [List.getElem?_drop,List.getElem?_drop,HG (by omega)]
 have e1:(q.toNat*6+(l.toNat*1+0)) / 6=q.toNat:=by omega
 have e2:(q.toNat*6+(l.toNat*1+0)) % 6=l.toNat:=by omega
 rw [e1,e2]
end Go.Am
namespace Go.Am
open Go
structure K6 where
 p:Int
 l:Int
 ns:List Int
structure ZF where
 seen:List Bool
 fresh:List Int
 found:Bool
def sn(seen:List Bool)(n:Int):Bool:=seen.getD n.toNat false
def QV(goal:Int→Bool)(st:ZF)(n:Int):ZF:=if sn st.seen n then st else ⟨st.seen.set n.toNat true,st.fresh++[n],st.found || goal n⟩
def Pg(goal:Int→Bool)(seen:List Bool)(nodes:List Int):ZF:=nodes.foldl (QV goal) ⟨seen,[],false⟩
theorem bp{seen:List Bool}{n m:Int}(hn:0≤n∧n.toNat < seen.length)(hm:0≤m):sn (seen.set n.toNat true) m=(sn seen m || decide (m=n)):=by
 unfold sn
 by_cases h:m=n
 ·subst h;simp [List.getD,hn.2]
 ·have:n.toNat≠m.toNat:=by omega
  simp [List.getD,List.getElem?_set_ne this,h]
theorem count_set{seen:List Bool}{k:Nat}(h:seen[k]? = some false):(seen.set k true).count true=seen.count true+1:=by
 induction seen generalizing k with
 | nil=>simp at h
 | cons a l ih=>
  cases k with
  | zero=>simp at h;subst h;simp
  | succ k=>
   have:=ih (k:=k) (by simpa using h)
   simp only [List.set_cons_succ,List.count_cons,this];omega
structure bH (goal:Int→Bool) (N:Nat) (seen:List Bool) (nodes:List Int) (st:ZF):Prop where
 len:st.seen.length=N
 snI:∀n:Int,0≤n→(sn st.seen n=true↔sn seen n=true∨n∈nodes)
 fr:∀n:Int,n∈st.fresh↔n∈nodes∧sn seen n=false
 nd:st.fresh.Nodup
 fd:st.found=st.fresh.any goal
 cnt:st.seen.count true=seen.count true+st.fresh.length
theorem SB{goal:Int→Bool}{N:Nat}{seen:List Bool}{nodes:List Int}(hs:seen.length=N)(hn:∀n∈nodes,0≤n∧n < N):bH goal N seen nodes (Pg goal seen nodes):=by
 have key : ∀ (l done:List Int) (st:ZF),(∀n∈l,0≤n∧n < N)→(∀n∈done,0≤n)→bH goal N seen done st→bH goal N seen (done++l) (l.foldl (QV goal) st):=by
  intro l
  induction l with
  | nil=>intro done st _ _ h;simpa using h
  | cons a l ih=>
   intro done st hl hd h
   have ha:=hl a (by simp)
   rw [List.foldl_cons,show done++a::l=(done++[a])++l by simp]
   refine ih (done++[a]) _ (fun n hn=>hl n (by simp [hn])) (fun n hn=>by rcases List.mem_append.1 hn with h1|h1;exact hd n h1;simp at h1;omega) ?_
   have hlen:=h.len
   have hmem:∀n:Int,n∈done++[a]↔n∈done∨n=a:=fun n=>by simp
   unfold QV
   by_cases hsa:sn st.seen a=true
   ·rw [if_pos hsa]
    have h1:=(h.snI a ha.1).1 hsa
    refine⟨h.len,fun n hn0=>?_,fun n=>?_,h.nd,h.fd,h.cnt⟩
    ·rw [h.snI n hn0,hmem]
     constructor
     ·rintro(h2|h2);exact .inl h2;exact .inr (.inl h2)
     ·rintro(h2|h2|rfl);exact .inl h2;exact .inr h2;exact h1
    ·rw [h.fr n,hmem]
     constructor
     ·rintro⟨h2,h3⟩;exact⟨.inl h2,h3⟩
     ·rintro⟨h2|rfl,h3⟩
      ·exact⟨h2,h3⟩
      ·rcases h1 with h1|h1
       ·rw [h1] at h3;cases h3
       ·exact⟨h1,h3⟩
   ·rw [if_neg hsa]
    have h1:sn seen a=false∧a∉done:=by
     have h2:¬(sn seen a=true∨a∈done):=fun h3=>hsa ((h.snI a ha.1).2 h3)
     exact⟨by simpa using fun h3=>h2 (.inl h3),fun h3=>h2 (.inr h3)⟩
    have hk:st.seen[a.toNat]? = some false:=by
     unfold sn at hsa
     have:a.toNat < st.seen.length:=by omega
     simp [List.getD,this] at hsa
     rw [List.getElem?_eq_getElem this,hsa]
    refine⟨by simpa using h.len,fun n hn0=>?_,fun n=>?_,?_,?_,?_⟩
    ·rw [bp ⟨ha.1,by omega⟩ hn0,hmem,Bool.or_eq_true,h.snI n hn0];simp;grind
    ·simp only [List.mem_append,List.mem_singleton,h.fr n]
     grind
    ·refine List.nodup_append.2 ⟨h.nd,by simp,fun x hx y hy=>?_⟩
     simp at hy;subst hy
     intro e;subst e
     exact h1.2 ((h.fr x).1 hx).1
    ·simp [List.any_append,h.fd]
    ·rw [count_set hk,h.cnt];simp;omega
 have:=key nodes [] ⟨seen,[],false⟩ hn (by simp) ⟨hs,fun n _=>by simp,fun n=>by simp,.nil,rfl,by simp⟩
 simpa [Pg] using this
theorem NV:∀ {a b c:List Int},QZ a b→QZ b c→QZ a c
 | [],_,_,h,_=>h.elim
 | _::_,[],_,h,_=>h.elim
 | _::_,_::_,[],_,h=>h.elim
 | x::a,y::b,z::c,h,k=>by
  simp only [QZ] at *
  rcases h with h|⟨h,h'⟩<;>rcases k with k|⟨k,k'⟩
  ·exact .inl (by omega)
  ·exact .inl (by omega)
  ·exact .inl (by omega)
  ·exact .inr ⟨by omega,NV h' k'⟩
theorem OP:∀ {a:List Int},¬QZ a a
 | [],h=>h
 | x::a,h=>by rcases h with h|⟨_,h⟩;omega;exact OP h
theorem EG{a b c:List Int}(h:slt a b)(k:slt b c):slt a c:=by
 unfold slt at *
 rcases h with h|⟨h,h'⟩<;>rcases k with k|⟨k,k'⟩
 ·exact .inl (by omega)
 ·exact .inl (by omega)
 ·exact .inl (by omega)
 ·exact .inr ⟨by omega,NV h' k'⟩
theorem JA{a:List Int}:¬slt a a:=by
 rintro(h|⟨_,h⟩);omega;exact OP h
theorem QF(a b:List Int):slt a b∨a=b∨slt b a:=by
 rcases Nat.lt_trichotomy a.length b.length with h|h|h
 ·exact .inl (.inl h)
 ·rcases OQ h with h1|h1|h1
  ·exact .inl (.inr ⟨h,h1⟩)
  ·exact .inr (.inl h1)
  ·exact .inr (.inr (.inr ⟨h.symm,h1⟩))
 ·exact .inr (.inr (.inl h))
theorem TW{a b:List Int}{l m:Int}(h:slt a b):slt (a++[l]) (b++[m]):=by
 rcases h with h|⟨h,h'⟩
 ·exact .inl (by simp;omega)
 ·exact .inr ⟨by simp;omega,(Hm h).2 (.inl h')⟩
theorem XA{a:List Int}{l m:Int}(h:l < m):slt (a++[l]) (a++[m]):=.inr ⟨by simp,(Hm rfl).2 (.inr ⟨rfl,h⟩)⟩
theorem XC{a b:List Int}{l m:Int}:slt (a++[l]) (b++[m])→slt a b∨a=b∧l < m:=by
 intro h
 rcases QF a b with h1|h1|h1
 ·exact .inl h1
 ·subst h1
  rcases h with h|⟨h,h'⟩
  ·simp at h
  ·rcases(Hm rfl).1 h' with h2|h2
   ·exact absurd h2 OP
   ·exact .inr h2
 ·exact absurd (EG h (TW h1)) JA
theorem XB{a:List Int}{l:Int}:slt a (a++[l]):=.inl (by simp)
structure FI (g:Gr) (seen:List Bool) (steps:List K6) (ws:List (List Int)) (i j:Nat):Prop where
 slen:seen.length=g.N
 wlen:ws.length=steps.length
 chain:∀(t:Nat) s,steps[t]? = some s→(s.p = -1∧ws[t]? = some [])∨∃(q:Nat) (w:List Int),s.p=(q:Int)∧q < t∧ws[q]? = some w∧ws[t]? = some (w++[s.l])∧s.l∈g.ls
 rch:∀(t:Nat) s w,steps[t]? = some s→ws[t]? = some w→∀n∈s.ns,reach g w g.s0 n
 ov:∀w∈ws,over g w
 min:∀(t:Nat) s w,steps[t]? = some s→ws[t]? = some w→∀n∈s.ns,∀u,over g u→slt u w→¬reach g u g.s0 n
 ord:ws.Pairwise slt
 par:∀w∈ws,w=[]∨∃(p:Nat) (v:List Int) (l:Int),ws[p]? = some v∧w=v++[l]∧l∈g.ls∧(p < i∨p=i∧∃j',j' < j∧g.ls[j']? = some l)
 snI:∀n:Int,0≤n→(sn seen n=true↔∃s∈steps,n∈s.ns)
 done:∀(t:Nat) s,steps[t]? = some s→∀l,(t < i∧l∈g.ls∨t=i∧∃j',j' < j∧g.ls[j']? = some l)→∀n∈s.ns,∀y∈g.succ n l,sn seen y=true
 nogoal:∀s∈steps,∀n∈s.ns,g.goal n=false
 inn:∀s∈steps,∀n∈s.ns,0≤n∧n < g.N
 start:sn seen g.s0=true
 cnt:steps.length≤seen.count true
 le:i≤steps.length
 nd:∀s∈steps,s.ns.Nodup
theorem FI.cK{g:Gr}{seen:List Bool}{steps:List K6}{ws:List (List Int)}{i j:Nat}(h:FI g seen steps ws i j):steps.length≤g.N:=by
 have h1:=h.cnt
 have h2:seen.count true≤seen.length:=List.count_le_length
 rw [h.slen] at h2;omega
theorem FI.Zq{g:Gr}(hg:GR g){seen:List Bool}{steps:List K6}{ws:List (List Int)}{i j:Nat}(h:FI g seen steps ws i j){wi:List Int}{lj:Int}(hw:ws[i]? = some wi)(hj:g.ls[j]? = some lj) :
 ∀(n:Nat) (u:List Int),u.length=n→over g u→slt u (wi++[lj])→∀x,reach g u g.s0 x→sn seen x=true:=by
 intro n
 induction n with
 | zero=>
  intro u hu _ _ x hx
  have:u=[]:=List.length_eq_zero_iff.1 hu
  subst this
  have hx:g.s0=x:=hx
  rw [←hx];exact h.start
 | succ n ih=>
  intro u hu ho hlt x hx
  have hu0:u≠[]:=fun e=>by subst e;simp at hu
  obtain⟨v,l,rfl⟩:∃v l,u=v++[l]:=⟨u.dropLast,u.getLast hu0,(List.dropLast_concat_getLast hu0).symm⟩
  obtain⟨m,hm,hxm⟩:=De.1 hx
  obtain⟨hov,hl⟩:=EF.1 ho
  have hms:=ih v (by simpa using hu) hov (EG XB hlt) m hm
  have hmin:=CG hg hov hg.s0 hm
  obtain⟨s,hs,hms2⟩:=(h.snI m hmin.1).1 hms
  obtain⟨t,ht⟩:=List.getElem?_of_mem hs
  obtain⟨wt,hwt⟩:∃wt,ws[t]? = some wt:=get_some (by have:=(List.getElem?_eq_some_iff.1 ht).1;rw [h.wlen];exact this)
  have hle:¬slt v wt:=fun h1=>h.min t s wt ht hwt m hms2 v hov h1 hm
  have hvi:=XC hlt
  have hti:t≤i:=by
   rcases Nat.lt_or_ge i t with h1|h1
   ·exfalso
    obtain⟨a1,a2⟩:=List.getElem?_eq_some_iff.1 hw
    obtain⟨b1,b2⟩:=List.getElem?_eq_some_iff.1 hwt
    have h2:=(List.pairwise_iff_getElem.1 h.ord) i t a1 b1 h1
    rw [a2,b2] at h2
    rcases QF v wt with h3|h3|h3
    ·exact hle h3
    ·subst h3
     rcases hvi with h4|⟨h4,_⟩
     ·exact JA (EG h2 h4)
     ·subst h4;exact JA h2
    ·rcases hvi with h4|⟨h4,_⟩
     ·exact JA (EG (EG h2 h3) h4)
     ·subst h4;exact JA (EG h2 h3)
   ·exact h1
  refine h.done t s ht l ?_ m hms2 x hxm
  rcases Nat.lt_or_ge t i with h1|h1
  ·exact .inl ⟨h1,hl⟩
  ·have:t=i:=by omega
   subst this
   rw [hw] at hwt
   injection hwt with hwt
   subst hwt
   rcases hvi with h4|⟨h4,h5⟩
   ·exact absurd h4 hle
   ·obtain⟨j',hj'⟩:=List.getElem?_of_mem hl
    exact .inr ⟨rfl,j',Wq hg.srt hj' hj h5,hj'⟩
theorem BM.found{g:Gr}(hg:GR g){seen:List Bool}{steps:List K6}{ws:List (List Int)}{i j:Nat}(h:FI g seen steps ws i j){wi:List Int}{lj:Int}(hw:ws[i]? = some wi)(hj:g.ls[j]? = some lj){n x:Int}{s:K6}(hs:steps[i]? = some s)(hn:n∈s.ns)(hx:x∈g.succ n lj)(hgx:g.goal x=true):BM g (some (wi++[lj])):=by
 have hl:=List.mem_of_getElem? hj
 refine⟨EF.2 ⟨h.ov wi (List.mem_of_getElem? hw),hl⟩,⟨x,De.2 ⟨n,h.rch i s wi hs hw n hn,hx⟩,hgx⟩,fun u hu hh hlt=>?_⟩
 obtain⟨y,hy,hgy⟩:=hh
 have hys:=h.Zq hg hw hj u.length u rfl hu hlt y hy
 obtain⟨s',hs',hy'⟩:=(h.snI y (CG hg hu hg.s0 hy).1).1 hys
 rw [h.nogoal s' hs' y hy'] at hgy;cases hgy
theorem BM.gj{g:Gr}(hg:GR g){seen:List Bool}{steps:List K6}{ws:List (List Int)}(h:FI g seen steps ws steps.length 0):BM g none:=by
 have key:∀(n:Nat) (u:List Int),u.length=n→over g u→∀x,reach g u g.s0 x→sn seen x=true:=by
  intro n
  induction n with
  | zero=>
   intro u hu _ x hx
   have:u=[]:=List.length_eq_zero_iff.1 hu
   subst this
   have hx:g.s0=x:=hx
   rw [←hx];exact h.start
  | succ n ih=>
   intro u hu ho x hx
   have hu0:u≠[]:=fun e=>by subst e;simp at hu
   obtain⟨v,l,rfl⟩:∃v l,u=v++[l]:=⟨u.dropLast,u.getLast hu0,(List.dropLast_concat_getLast hu0).symm⟩
   obtain⟨m,hm,hxm⟩:=De.1 hx
   obtain⟨hov,hl⟩:=EF.1 ho
   have hms:=ih v (by simpa using hu) hov m hm
   obtain⟨s,hs,hms2⟩:=(h.snI m (CG hg hov hg.s0 hm).1).1 hms
   obtain⟨t,ht⟩:=List.getElem?_of_mem hs
   exact h.done t s ht l (.inl ⟨(List.getElem?_eq_some_iff.1 ht).1,hl⟩) m hms2 x hxm
 rintro u hu ⟨x,hx,hgx⟩
 have hxs:=key u.length u rfl hu x hx
 obtain⟨s,hs,hxs2⟩:=(h.snI x (CG hg hu hg.s0 hx).1).1 hxs
 rw [h.nogoal s hs x hxs2] at hgx;cases hgx
theorem FI.cR{g:Gr}{seen:List Bool}{steps:List K6}{ws:List (List Int)}{i:Nat}(h:FI g seen steps ws i g.ls.length)(hi:i < steps.length):FI g seen steps ws (i+1) 0:=by
 refine⟨h.slen,h.wlen,h.chain,h.rch,h.ov,h.min,h.ord,fun w hw=>?_,h.snI,fun t s hs l hl=>?_,h.nogoal,h.inn,h.start,h.cnt,by omega,h.nd⟩
 ·rcases h.par w hw with h1|⟨p,v,l,h1,h2,h3,h4⟩
  ·exact .inl h1
  ·exact .inr ⟨p,v,l,h1,h2,h3,.inl (by rcases h4 with h4|⟨h4,_⟩<;>omega)⟩
 ·refine h.done t s hs l ?_
  rcases hl with ⟨h1,h2⟩|⟨_,j',h1,_⟩
  ·rcases Nat.lt_or_ge t i with h3|h3
   ·exact .inl ⟨h3,h2⟩
   ·obtain⟨j',hj'⟩:=List.getElem?_of_mem h2
    exact .inr ⟨by omega,j',(List.getElem?_eq_some_iff.1 hj').1,hj'⟩
  ·omega
end Go.Am
