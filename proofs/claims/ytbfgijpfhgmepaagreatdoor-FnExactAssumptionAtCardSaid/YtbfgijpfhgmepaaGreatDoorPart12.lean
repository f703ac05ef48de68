/-
  The reference's search, the walk.
-/
import Derived.Test.YtbfgijpfhgmepaaGreatDoorPart11
import Derived.Test.YtbfgijpfhgmepaaGreatDoorPart9
import Derived.Lib.TrailingZeros
set_option linter.constructorNameAsVariable false
set_option linter.unusedSectionVars false
set_option linter.unusedSimpArgs false
set_option linter.unusedVariables false
namespace Go.Am
open Go Go.Proofs
set_option maxHeartbeats 1000000
attribute [local irreducible] AS BT Lex Bc Au Spec
variable {TB:Bt}
theorem bY{l:List Int}(h:l.Pairwise (· < ·)){i j:Nat}{a b:Int}(hi:l[i]? = some a)(hj:l[j]? = some b)(hab:a < b):i < j:=by
 obtain⟨h1,rfl⟩:=List.getElem?_eq_some_iff.1 hi
 obtain⟨h2,rfl⟩:=List.getElem?_eq_some_iff.1 hj
 rw [List.pairwise_iff_getElem] at h
 rcases Nat.lt_trichotomy i j with h3|h3|h3
 ·exact h3
 ·subst h3;omega
 ·have:=h j i h2 h1 h3;omega
theorem OZ{n:Net}(hn:DL n)(hk:eD n)(hst:Fits (Ae n) n.st){r:Option (List Int)}(hr:Cs (Ex n) r):Pure Tryz.prog TB 132 [Mg n] (jU r):=by
 have hpr:=Of hn
 have hg:=OP hn hst
 have hnp:=hn.np
 have hna:=hn.na
 have hzl:=PD hn
 have hll:(Ac n.ls).length≤6:=AV n.ls 6
 have hpos:=Gk hn
 have hsz:=WK (TB:=TB) n (by omega)
 have hmv:=WI (TB:=TB) hn (Ex n).N (by show (Av (Ae n)).toNat≤1048576;omega)
 have hpN:Av (Ae n)=(((Ex n).N:Nat):Int):=by show _=(((Av (Ae n)).toNat:Nat):Int);omega
 have hNle:(Ex n).N≤1048576:=by omega
 have hml:(Dh n (Ex n).N).length=(Ex n).N:=by simp [Dh]
 have hdec:∀(x:Nat),x < (Ex n).N→Pure Tryz.prog TB 188 [Ag (Ae n),eI .i64 x] (Ag (BA (Ae n) x)):=fun x hx=>
  Nj _ _ (by omega) (by omega) (fun z hz=>by have:=hpos z hz;omega) (by omega)
 have hfnd:∀(x:Nat),Pure Tryz.prog TB 187 [Mg n,Ag (BA (Ae n) x),Cm (Fg n x)] (eB (CI n (BA (Ae n) x) (Fg n x))):=fun x=>WH hn hk (KN hn _) _
 have hencc:=Uy (TB:=TB) (Ae n) n.st hst (by omega)
 have hlet:=DG (TB:=TB) n.ls
 have hdist:=fun dist h1 h2=>ZM (TB:=TB) (Dh n (Ex n).N) (fun i=>CI n (BA (Ae n) i) (Fg n i)) dist (Lc hn) (by omega) h1 h2
 refine eN Tryz.func132 rfl (by kernel_rfl) rfl ?_;intro Γ hΓ
 (repeat first|refine tA rfl ?_ |refine sP rfl (hsz) rfl ?_ |refine aU rfl ?_ |refine Aa ?_)
 refine aB ?_
 refine Au.AP (α:={k:Nat // k≤(Ae n).length}) (fun ⟨k,hkl⟩=>[(1,.o (.ip (NP n))),(4,Ag (Ae n)),(5,eI .i64 (Av ((Ae n).take k))),(6,eI .i64 k)]) (fun ⟨k,hkl⟩=>[]) 0 (fun ⟨k,hkl⟩=>(Ae n).length - k) (⟨0,by omega⟩) [] (Di hΓ rfl rfl) (by (simp[cX,zC,hΓ,Av])) ?_;rintro⟨k,hkl⟩;(try dsimp only)
 (repeat first|refine sN rfl ?_ |refine tA rfl ?_ |refine s2 rfl fun _ _hb=>?_ |refine aU rfl ?_ |refine Aa ?_)
 (refine aC rfl ?_ ?_<;>rintro⟨⟩)
 ·obtain⟨z,hz⟩:=get_some (l:=Ae n) (k:=k) (by (simp only[oZ] at *;omega))
  have hz':=get_map (g:=Bm) hz
  have h1:=Kp hz
  have h2:=HQ ((Ae n).take (k+1)) fun z hz=>hpos z (List.mem_of_mem_take hz)
  have h3:=(hst.take (k+1)).2
  rw [h1] at h2 h3
  refine aK ?_
  refine aS (aB ?_)
  (repeat first|(refine sA rfl ?_ ?_;first|exact tI|omega) |(refine s4 rfl ‹_› rfl ?_ ?_;omega) |refine aU rfl ?_ |refine Aa ?_)
  refine⟨⟨k+1,by (simp only[oZ] at *;omega)⟩,by dsimp only;((simp only[oZ] at *;omega)),[],?_⟩
  simp[cX,zC,hΓ,h1]
 obtain rfl:k=(Ae n).length:=by (simp only[oZ] at *;omega)
 refine aE ?_
 rw [List.take_length,hpN]
 generalize hNN:(Ex n).N=N at *
 generalize hmm:Dh n N=mv at *
 (repeat first|refine tM rfl ?_ |refine sP rfl (hmv) rfl ?_ |refine aU rfl ?_ |refine Aa ?_)
 (refine pW rfl ?_ rfl (by rfl);refine Eo rfl rfl (by rfl) (by rfl) (Nat.le_of_ble_eq_true rfl) (by omega) (by omega) (by omega) ?_)
 (repeat first|refine tM rfl ?_ |refine aU rfl ?_ |refine Aa ?_)
 refine aB ?_
 refine Au.AP (α:={i:Nat // i≤N}) (fun ⟨i,hi⟩=>[(1,.o (.ip (NP n))),(4,Ag (Ae n)),(5,eI .i64 N),(7,DC mv),(8,.o (.arr 0 1 0 N)),(9,eI .i64 i)]) (fun ⟨i,hi⟩=>[(0,.cells 3 1 ((dl (fun j=>if CI n (BA (Ae n) (j:Nat)) (Fg n j) then 0 else -1) N i).map Al))]) 1 (fun ⟨i,hi⟩=>N - i) (⟨0,by omega⟩) [0] (Di hΓ rfl rfl) (by (simp[cX,zC,hΓ,dl])) ?_;rintro⟨i,hi⟩;(try dsimp only)
 (repeat first|refine tM rfl ?_ |refine s2 rfl fun _ _hb=>?_ |refine aU rfl ?_ |refine Aa ?_)
 (refine aC rfl ?_ ?_<;>rintro⟨⟩)
 ·have hiN:i < N:=by (simp only[oZ] at *;omega)
  have hd0:=iv (f:=fun j=>if CI n (BA (Ae n) (j:Nat)) (Fg n j) then 0 else -1) hiN
  have hds:=iw (f:=fun j=>if CI n (BA (Ae n) (j:Nat)) (Fg n j) then 0 else -1) hiN
  have hdl:=bQ (f:=fun j=>if CI n (BA (Ae n) (j:Nat)) (Fg n j) then 0 else -1) (Nat.le_of_lt hiN)
  generalize dl (fun j=>if CI n (BA (Ae n) (j:Nat)) (Fg n j) then 0 else -1) N i=cur at *
  have hd0':=HG (g:=Al) hd0
  have hd1:(cur.set i (-1))[i]? = some (-1):=by simp [hdl,hiN]
  have hd1':=HG (g:=Al) hd1
  rw [←HT (x:=0)] at hd1'
  have hmi:(mv.map Kg)[((i:Nat):Int).toNat]? = some (Kg (Fg n i)):=by rw [←hmm];exact get_map (Kn hiN)
  refine aK ?_
  refine aS (aB ?_)
  (repeat' first|((first|refine sM rfl ?_ ?_|refine s4 rfl ‹_› rfl ?_ ?_);first|exact tI|omega) |refine sP rfl (hdec i hiN) rfl ?_|(refine sC rfl (hfnd i) ?_;intro _ _hb) |refine aU rfl ?_ |refine Aa ?_ |refine rE (by kernel_rfl) ?_|(refine aC rfl ?_ ?_<;>rintro⟨⟩)|refine aK ?_|refine aE ?_|refine aB ?_|refine aR ⟨_,rfl,?_⟩)
  ·rw [if_pos (by assumption)] at hds
   refine⟨⟨i+1,by omega⟩,by dsimp only;(omega),[0],?_⟩
   rw [HT,HT,List.set_set]
   simp[cX,zC,hΓ,hds]
  ·rw [if_neg (by grind)] at hds
   refine⟨⟨i+1,by omega⟩,by dsimp only;(omega),[0],?_⟩
   rw [HT]
   simp[cX,zC,hΓ,hds]
 obtain rfl:i=N:=by (simp only[oZ] at *;omega)
 refine aE ?_
 (repeat first|refine tM rfl ?_ |refine aU rfl ?_)
 have hdlg:∀x,x < i→(dl (fun j=>if CI n (BA (Ae n) (j:Nat)) (Fg n j) then 0 else -1) i i).getD x 0=if CI n (BA (Ae n) (x:Nat)) (Fg n x) then 0 else -1:=by
  intro x hx;simp [dl,List.getD,hx]
 have hdll:(dl (fun j=>if CI n (BA (Ae n) (j:Nat)) (Fg n j) then 0 else -1) i i).length=i:=bQ (Nat.le_refl _)
 generalize dl (fun j=>if CI n (BA (Ae n) (j:Nat)) (Fg n j) then 0 else -1) i i=d0 at *
 have hdist:=hdist d0 (by omega) (by rw [hml];exact hdlg)
 rw [hml] at hdist
 (refine pW rfl ?_ rfl (by rfl);refine Bx [0] rfl rfl hdist ⟨rfl,by simp,by simp⟩ rfl (by simp[cX,zC,hΓ]) ?_;rintro x0 σ1 nx1 ⟨rfl,rfl,dist,hD,rfl⟩ _)
 refine Aa ?_
 refine aS ?_
 refine Au.freeze [0] [(1,.o (.ip (NP n))),(4,Ag (Ae n)),(7,DC mv),(8,Ag dist)] ⟨⟨_,rfl,.AE⟩,⟨_,rfl,.AE⟩,⟨_,rfl,.AE⟩,⟨.o (.arr 0 1 0 i),rfl,.o (.full (T:=3) (rows:=dist.map Al) (by simp) (by simp[cX,zC,hΓ,Ab.A3,BN,IC]) (by simp [Function.comp_def]) (by simp [hD.len,hml]))⟩,trivial⟩ ?_
 have hG:KA (Ex n) (fun x=>dist.getD x.toNat 0):=bP (by rw [hNN,hmm];exact hD)
 have hdl:=hD.len
 have hin:=Lc hn
 rw [hNN,hmm] at hin
 have hrow:∀x:Int,0≤x∧x < i→mv.getD x.toNat []=(Ac n.ls).map fun l=>(Ex n).succ x l:=by
  intro x hx;rw [←hmm,←hNN];exact GK (by rw [hNN];exact hx)
 have hrl:∀x,x < mv.length→(mv.getD x []).length=(Ac n.ls).length:=by
  intro x hx
  have:=hrow (x:Nat) (by omega)
  rw [Int.toNat_natCast] at this
  rw [this];simp
 have hcl:∀(at':List Int) (k:Nat) (d:Int),Ds i at'→k < (Ac n.ls).length→Pure Tryz.prog TB 191 [DC mv,Ag dist,Ag at',eI .i64 k,eI .i64 d] (Ag (Fx mv dist at' k d)):=fun at' k d ha hk=>
  Ux mv dist at' k d hin (by omega) hdl (by rw [hml];exact ha.2) (by have:=Gi _ _ ha.1 ha.2;omega) (fun x hx=>by rw [hrl x hx];exact hk)
 have hcm:∀(at':List Int) (k:Nat) (d:Int) (m:Int),(Ac n.ls)[k]? = some m→Ds i at'→∀y,y∈Fx mv dist at' k d↔∃x∈at',y∈(Ex n).succ x m∧dist.getD y.toNat 0=d:=by
  intro at' k d m hm ha y
  rw [←hmm,←hNN]
  exact bL hm (by rw [hNN];exact ha.2)
 have hac:∀(at':List Int) (k:Nat) (d:Int),Ds i at'→Ds i (Fx mv dist at' k d):=by
  intro at' k d ha
  have:=Ds.il hin (dist:=dist) (d:=d) (k:=k) (l:=at') .nil (by rw [hml];exact ha.2)
  rwa [hml] at this
 obtain⟨s,hs⟩:∃s,Dq (Ae n) n.st 0=s:=⟨_,rfl⟩
 have hgs:(Ex n).s0=s:=hs
 have hsin:=hg.s0
 rw [hgs,hNN] at hsin
 rw [hs] at hencc
 obtain⟨dd,hdd⟩:=get_some (l:=dist) (k:=s.toNat) (by omega)
 have hdd':(dist.map Bm)[s.toNat]? = some (Bm dd):=by simp [hdd]
 have hddg:dist.getD (Ex n).s0.toNat 0=dd:=by rw [hgs];simp [List.getD,hdd]
 have hs0':([s].map Bm)[(0:Int).toNat]? = some (Bm s):=rfl
 have hbd:=hD.bound s.toNat (by omega)
 have hddb:dist.getD s.toNat 0=dd:=by simp [List.getD,hdd]
 rw [hddb] at hbd
 (repeat first|refine tA rfl ?_ |(refine s4 rfl ‹_› rfl ?_ ?_;omega) |refine sP rfl (hencc) rfl ?_|refine sP rfl (hlet) rfl ?_ |refine aU rfl ?_ |refine Aa ?_)
 by_cases hneg:dd < 0
 ·have hans:=bA hg hG (by show dist.getD (Ex n).s0.toNat 0 < 0;rw [hddg];exact hneg)
  have hrr:=Cs.unique hr hans
  subst hrr
  refine aB ?_
  refine Au.AP (α:=Unit) (fun _=>[(12,eT []),(13,eI .i64 dd)]) (fun _=>[]) 0 (fun _=>0) (()) [] (Di hΓ rfl rfl) (by (simp[cX,zC,hΓ])) ?_;rintro _;(try dsimp only)
  (repeat first|refine tA rfl ?_ |refine s2 rfl fun _ _hb=>?_ |refine aU rfl ?_ |refine Aa ?_)
  (refine aC rfl ?_ ?_<;>rintro⟨⟩)
  ·exfalso;(simp only[oZ] at *;omega)
  (repeat' first|refine tA rfl ?_ |refine s2 rfl fun _ _hb=>?_ |refine aU rfl ?_ |refine Aa ?_|(refine aC rfl ?_ ?_<;>rintro⟨⟩)|refine aK ?_|refine aE ?_|refine aB ?_|refine aR ⟨_,rfl,?_⟩)
  all_goals first
   | (exfalso;omega;done)
   | (subst _hb;rw [show decide (dd=0)=false from decide_eq_false (by omega)];rfl)
 ·have hW0 := NH.init (dx:=fun x=>dist.getD x.toNat 0) hg (by show 0≤dist.getD (Ex n).s0.toNat 0;rw [hddg];omega)
  have hW0:NH (Ex n) (fun x=>dist.getD x.toNat 0) [] [s] dd:=by rw [hgs,hddb] at hW0;exact hW0
  refine aB ?_
  refine Au.AP (α:={x:List Int×List Int×Int // NH (Ex n) (fun x=>dist.getD x.toNat 0) x.1 x.2.1 x.2.2}) (fun ⟨⟨w,at',d⟩,hW⟩=>[(7,DC mv),(8,Ag dist),(10,Ag at'),(11,Ag (Ac n.ls)),(12,eT (Dk w)),(13,eI .i64 d)]) (fun ⟨⟨w,at',d⟩,hW⟩=>[]) 0 (fun ⟨⟨w,at',d⟩,hW⟩=>d.toNat) (⟨([],[s],dd),hW0⟩) [] (Di hΓ rfl rfl) (by (repeat' first|exact tI|rfl|refine And.intro ?_ ?_)) ?_;rintro⟨⟨w,at',d⟩,hW⟩;(try dsimp only)
  simp only at hW
  have hWl:=hW.len
  have hWd:=hW.d0
  have hWa:=hW.acc
  have hWl:(w.length:Int)+d=dd:=by rw [←hddg];exact hWl
  rw [hNN] at hWa
  (repeat first|refine tA rfl ?_ |refine s2 rfl fun _ _hb=>?_ |refine aU rfl ?_ |refine Aa ?_)
  (refine aC rfl ?_ ?_<;>rintro⟨⟩)
  ·have hdp:0 < d:=by (simp only[oZ] at *;omega)
   obtain⟨l0,hl0,hx0⟩:=hW.prog hG hdp
   have hlx:∀l:Int,l∈(Ex n).ls→∃k:Nat,(Ac n.ls)[k]? = some l:=fun l hl=>List.getElem?_of_mem hl
   have hkp:∀k:Nat,(∀k',k' < k→Fx mv dist at' k' (d - 1)=[])→k < (Ac n.ls).length:=by
    intro k hk2
    rcases Nat.lt_or_ge k (Ac n.ls).length with h|h
    ·exact h
    ·exfalso
     obtain⟨j,hj⟩:=hlx l0 hl0
     have h1:=hk2 j (by have:=(List.getElem?_eq_some_iff.1 hj).1;omega)
     obtain⟨x,hx,y,hy,hdy⟩:=hx0
     have h2:=(hcm at' j (d - 1) l0 hj hWa y).2 ⟨x,hx,hy,hdy⟩
     rw [h1] at h2;cases h2
   have hk0:=hkp 0 (fun k' h=>by omega)
   refine aK ?_
   refine aS (aB ?_)
   (repeat first|(refine sA rfl ?_ ?_;first|exact tI|omega) |refine sP rfl (hcl at' 0 (d - 1) hWa hk0) rfl ?_ |refine aU rfl ?_ |refine Aa ?_)
   refine aB ?_
   refine Au.AP (α:={k:Nat // ∀k',k' < k→Fx mv dist at' k' (d - 1)=[]}) (fun ⟨k,hkk⟩=>[(7,DC mv),(8,Ag dist),(10,Ag at'),(11,Ag (Ac n.ls)),(12,eT (Dk w)),(13,eI .i64 d),(14,eI .i64 k),(15,Ag (Fx mv dist at' k (d - 1)))]) (fun ⟨k,hkk⟩=>[]) 0 (fun ⟨k,hkk⟩=>(Ac n.ls).length - k) (⟨0,fun k' h=>by omega⟩) [] (Di hΓ rfl rfl) (by (simp[cX,zC,hΓ])) ?_;rintro⟨k,hkk⟩;(try dsimp only)
   have hkl:=hkp k hkk
   have hacK:=hac at' k (d - 1) hWa
   (repeat first|refine sN rfl ?_ |refine tA rfl ?_ |refine s2 rfl fun _ _hb=>?_ |refine aU rfl ?_ |refine Aa ?_)
   (refine aC rfl ?_ ?_<;>rintro⟨⟩)
   ·have hnil:Fx mv dist at' k (d - 1)=[]:=List.length_eq_zero_iff.1 (by (simp only[oZ] at *;omega))
    have hkk2:∀k',k' < k+1→Fx mv dist at' k' (d - 1)=[]:=fun k' h=>by
     rcases Nat.lt_succ_iff_lt_or_eq.1 h with h|h
     ·exact hkk k' h
     ·rw [h];exact hnil
    have hc2:=hcl at' (k+1) (d - 1) hWa (hkp _ hkk2)
    rw [show (((k+1:Nat)):Int)=(k:Int)+1 from rfl] at hc2
    refine aK ?_
    refine aB ?_
    (repeat first|(refine sA rfl ?_ ?_;first|exact tI|omega) |refine sP rfl (hc2) rfl ?_ |refine aU rfl ?_ |refine Aa ?_)
    refine⟨⟨k+1,hkk2⟩,by dsimp only;(omega),[],?_⟩
    simp[cX,zC,hΓ]
   ·obtain⟨m,hm⟩:=get_some (l:=Ac n.ls) (k:=k) hkl
    have hm':=get_map (g:=Bm) hm
    have hmb:=Ak (List.mem_of_getElem? hm)
    have hne:Fx mv dist at' k (d - 1)≠[]:=fun e=>by rw [e] at _hb;simp at _hb
    have hN2:=hW.next hg hG hdp (l:=m) (List.mem_of_getElem? hm) (at2:=Fx mv dist at' k (d - 1)) (by rw [hNN];exact hacK) hne (fun y=>by
     rw [hcm at' k (d - 1) m hm hWa y]) (fun m' hm' hlt=>by
     rintro⟨x,hx,y,hy,hdy⟩
     obtain⟨j,hj⟩:=hlx m' hm'
     have hjk:=bY (EJ n.ls 6) hj hm hlt
     have h2:=(hcm at' j (d - 1) m' hj hWa y).2 ⟨x,hx,hy,hdy⟩
     rw [hkk j hjk] at h2;cases h2)
    have htl:(Dk w).length=w.length:=by simp [Dk]
    have htx:Dk w++[97+UInt8.ofNat m.toNat]=Dk (w++[m]):=by simp [Dk]
    refine aE ?_
    (repeat first|(refine sA rfl ?_ ?_;first|exact tI|omega|simp only[oZ] at *;omega) |(refine s4 rfl ‹_› rfl ?_ ?_;omega) |refine sP rfl (Mr m (by omega) (by omega)) rfl ?_ |refine aU rfl ?_ |refine Aa ?_)
    refine⟨⟨(w++[m],Fx mv dist at' k (d - 1),d - 1),hN2⟩,by dsimp only;omega,[],?_⟩
    simp[cX,zC,hΓ,htx]
  ·obtain rfl:d=0:=by (simp only[oZ] at *;omega)
   have hans:=hW.nh hg hG
   have hrr:=Cs.unique hr hans
   subst hrr
   (repeat' first|refine tA rfl ?_ |refine s2 rfl fun _ _hb=>?_ |refine aU rfl ?_ |refine Aa ?_|(refine aC rfl ?_ ?_<;>rintro⟨⟩)|refine aK ?_|refine aE ?_|refine aB ?_|refine aR ⟨_,rfl,?_⟩)
   all_goals first
    | (subst _hb;rfl)
abbrev J7(r:Option (List Int)):List UInt8:=(r.map Dk).getD []
abbrev KO(r:Option (List Int)):E:=.t [(false,[.d (tD (J7 r))]),(false,[.d (bD r.isSome)])]
theorem XN(r:Option (List Int)):jU r=KO r:=by cases r<;>rfl
noncomputable def DV(g:Gr):Option (List Int):=Classical.choose (OK g)
theorem Du(g:Gr):Cs g (DV g):=Classical.choose_spec (OK g)
theorem TP{g:Gr}{r:Option (List Int)}(h:Cs g r):DV g=r:=Cs.unique (Du g) h
def Ep(s:Sys)(a p:AU):Net:=⟨[s],[a,p],[0,0,0],GZ .i64 s.al a.al,2,0⟩
def Dl(s:Sys)(a p:AU):Bool:=AR s && AN a && AN p
noncomputable def DN(s:Sys)(a p:AU):Option (List Int):=if Dl s a p then DV (Ex (Ep s a p)) else none
noncomputable def cn(s:Sys)(a p:AU):Bool:=Dl s a p && !(DN s a p).isSome
def Ht(l:List Sys)(n:Int):Int:=l.foldl (fun n s=>GZ .i64 n s.al) n
def A5(l:List Sys):Bool:=decide (1≤l.length∧l.length≤3) && l.all AR
def Bq(l:List Sys):Int:=if A5 l then Ht l 0 else -1
def CS(l:List Sys)(p:AU):Net:=⟨l,[p],List.replicate (l.length+1) 0,Bq l,3,0⟩
noncomputable def BJ(l:List Sys)(p:AU):Option (List Int):=if A5 l && AN p then DV (Ex (CS l p)) else none
noncomputable def I7(l:List Sys)(p:AU):Bool:=A5 l && AN p && !(BJ l p).isSome
def AL(s:Sys)(p:AU)(t:Sys):Int:=if AR s && AN p && AR t then Hc .i64 (GZ .i64 s.al p.al) t.al else -1
noncomputable def Ih(s t:Sys)(p a:AU):Int:=
 if AL s p t < 0∨AN a=false then 1 else if a.al≠AL s p t then 2 else if cn s a p=false then 3 else if I7 [t] a=false then 4 else 0
theorem KZ{a b:Nat}(ha:a < 64)(hb:b < 64):GZ .i64 a b=((a ||| b:Nat):Int)∧a ||| b < 64:=by
 have h0:a ||| b < 64:=Nat.or_lt_two_pow (n:=6) ha hb
 refine⟨?_,h0⟩
 unfold GZ
 have h1:(BitVec.ofInt IntKind.i64.bits (a:Int) ||| BitVec.ofInt IntKind.i64.bits (b:Int)).toNat=a ||| b:=by
  have e:IntKind.i64.bits=64:=rfl
  rw [e]
  simp only [BitVec.toNat_or,BitVec.ofInt_natCast,BitVec.toNat_ofNat]
  rw [Nat.mod_eq_of_lt (by omega),Nat.mod_eq_of_lt (by omega)]
 rw [h1]
 exact IntWalk.i64_in _ (by omega)
theorem KY{a b:Int}(ha:A4 a=true)(hb:A4 b=true):A4 (GZ .i64 a b)=true:=by
 unfold A4 at *
 simp only [decide_eq_true_eq] at *
 have h1:=KZ (a:=a.toNat) (b:=b.toNat) (by omega) (by omega)
 have e1:((a.toNat:Nat):Int)=a:=by omega
 have e2:((b.toNat:Nat):Int)=b:=by omega
 rw [e1,e2] at h1
 omega
theorem Je:∀ {l:List Sys} {n:Int},l.all AR=true→A4 n=true→A4 (Ht l n)=true
 | [],_,_,hn=>hn
 | s::l,n,h,hn=>by
  simp only [List.all_cons,Bool.and_eq_true] at h
  exact Je (l:=l) h.2 (KY hn (AM h.1).1)
theorem SV{l:List Sys}:(0≤Bq l)=(A5 l=true):=by
 unfold Bq
 split
 ·rename_i h
  have h2:l.all AR=true:=by unfold A5 at h;rw [Bool.and_eq_true] at h;exact h.2
  have:=Je (n:=0) h2 rfl
  unfold A4 at this
  simp only [decide_eq_true_eq] at this
  simp [h];omega
 ·rename_i h;simp [h]
theorem Oc{s:Sys}{a p:AU}(h:Dl s a p=true):DL (Ep s a p)∧eD (Ep s a p)∧Fits (Ae (Ep s a p)) (Ep s a p).st:=by
 unfold Dl at h
 simp only [Bool.and_eq_true] at h
 obtain⟨⟨h1,h2⟩,h3⟩:=h
 have h4:=AM h1
 have h5:=AG h2
 have h6:=AG h3
 refine⟨⟨fun x hx=>by simp [Ep] at hx;subst hx;exact h1,fun x hx=>by simp [Ep] at hx;rcases hx with rfl|rfl;exact h2;exact h3,by simp [Ep],by simp [Ep]⟩,⟨fun _=>by simp [Ep],fun _=>by simp [Ep]⟩,?_⟩
 show Fits [s.st,(a.nx.length:Int),(p.nx.length:Int)] [0,0,0]
 exact .cons (by omega) (by omega) (.cons (by omega) (by omega) (.cons (by omega) (by omega) .nil))
theorem QP:∀ {zs:List Int},(∀z∈zs,0 < z)→Fits zs (List.replicate zs.length 0)
 | [],_=>.nil
 | z::zs,h=>by
  rw [List.length_cons,List.replicate_succ]
  exact .cons (by omega) (h z (by simp)) (QP fun x hx=>h x (by simp [hx]))
theorem Ob{l:List Sys}{p:AU}(h:(A5 l && AN p)=true):DL (CS l p)∧eD (CS l p)∧Fits (Ae (CS l p)) (CS l p).st:=by
 rw [Bool.and_eq_true] at h
 obtain⟨h1,h2⟩:=h
 unfold A5 at h1
 simp only [Bool.and_eq_true,decide_eq_true_eq,List.all_eq_true] at h1
 have hn:DL (CS l p):=⟨h1.2,fun x hx=>by simp [CS] at hx;subst hx;exact h2,h1.1.2,by simp [CS]⟩
 refine⟨hn,⟨fun _=>by simp [CS],fun h=>by simp [CS] at h⟩,?_⟩
 have h3:=QP (zs:=Ae (CS l p)) fun z hz=>by have:=Gk hn z hz;omega
 have h4:(Ae (CS l p)).length=l.length+1:=by simp [Ae,CS]
 rw [h4] at h3
 exact h3
theorem FM(l:List Sys):Pure Tryz.prog TB 130 [Gx l] (eI .i64 (Bq l)):=by
 refine eN Tryz.func130 rfl (by kernel_rfl) rfl ?_;intro Γ hΓ
 refine Au.bound 0 rfl fun hB0=>?_
 have hB:=hB0 (l.map CE) .refl
 (repeat' first |refine sN rfl ?_ |((first|refine sA rfl ?_ ?_|refine s4 rfl ‹_› rfl ?_ ?_);first|exact tI|omega|simp only[oZ] at *;omega) |refine s2 rfl fun _ _hb=>?_ |refine s3 rfl ?_ ?_<;>rintro rfl |refine aU rfl ?_ |refine Aa ?_ |refine rE (by kernel_rfl) ?_|(refine aC rfl ?_ ?_<;>rintro⟨⟩)|refine aK ?_|refine aE ?_|refine aB ?_|refine aR ⟨_,rfl,?_⟩)
 all_goals try (show E.o _=E.o _;congr;unfold Bq A5;rw [if_neg (by grind)])
 refine Au.AP (α:={k:Nat // k≤l.length∧(l.take k).all AR=true}) (fun ⟨k,hk,ha⟩=>[(0,Gx l),(3,eI .i64 (Ht (l.take k) 0)),(4,eI .i64 k)]) (fun ⟨k,hk,ha⟩=>[]) 0 (fun ⟨k,hk,ha⟩=>l.length - k) (⟨0,by omega,rfl⟩) [] (Di hΓ rfl rfl) (by ((repeat' first|exact tI|rfl|refine And.intro ?_ ?_)<;>(simp[cX,zC,hΓ]))) ?_;rintro⟨k,hk,ha⟩;(try dsimp only)
 (repeat first |refine sN rfl ?_ |((first|refine sA rfl ?_ ?_|refine s4 rfl ‹_› rfl ?_ ?_);first|exact tI|omega|simp only[oZ] at *;omega) |refine s2 rfl fun _ _hb=>?_ |refine s3 rfl ?_ ?_<;>rintro rfl |refine aU rfl ?_ |refine Aa ?_ |refine rE (by kernel_rfl) ?_)
 (refine aC rfl ?_ ?_<;>rintro⟨⟩)
 ·obtain⟨x,hx⟩:=get_some (l:=l) (k:=k) (by first|omega|simp only[oZ] at *;omega)
  have hx':=get_map (g:=CE) hx
  have hst:Ht (l.take (k+1)) 0=GZ .i64 (Ht (l.take k) 0) x.al:=by unfold Ht;rw [GB hx]
  (repeat' first |refine sN rfl ?_ |((first|refine sA rfl ?_ ?_|refine s4 rfl ‹_› rfl ?_ ?_);first|exact tI|omega|simp only[oZ] at *;omega) |refine s2 rfl fun _ _hb=>?_ |(refine sC rfl (CB x) ?_;intro _ _hb) |refine s3 rfl ?_ ?_<;>rintro rfl |refine aU rfl ?_ |refine Aa ?_ |refine rE (by kernel_rfl) ?_|(refine aC rfl ?_ ?_<;>rintro⟨⟩)|refine aK ?_|refine aE ?_|refine aB ?_|refine aR ⟨_,rfl,?_⟩)
  all_goals first
   | (have h3:=Ia hx (f:=AR) (by grind);show E.o _=E.o _;congr;unfold Bq A5;rw [h3];simp;done)
   | (refine⟨⟨k+1,by first|omega|simp only[oZ] at *;omega,Gu hx ha (by grind)⟩,by dsimp only;(first|omega|simp only[oZ] at *;omega),[],?_⟩;simp[cX,zC,hΓ,hst];done)
 ·have h3:=Gt ha (by first|omega|simp only[oZ] at *;omega)
  (repeat' first |refine sN rfl ?_ |((first|refine sA rfl ?_ ?_|refine s4 rfl ‹_› rfl ?_ ?_);first|exact tI|omega|simp only[oZ] at *;omega) |refine s2 rfl fun _ _hb=>?_ |refine s3 rfl ?_ ?_<;>rintro rfl |refine aU rfl ?_ |refine Aa ?_ |refine rE (by kernel_rfl) ?_|(refine aC rfl ?_ ?_<;>rintro⟨⟩)|refine aK ?_|refine aE ?_|refine aB ?_|refine aR ⟨_,rfl,?_⟩)
  rw [List.take_of_length_le (by first|omega|simp only[oZ] at *;omega)]
  show E.o _=E.o _;congr;unfold Bq A5;rw [if_pos (by grind)]
theorem E9(l:List Sys)(p:AU):Pure Tryz.prog TB 72 [Gx l,Bp p] (KO (BJ l p)):=by
 have hpn:=SV (l:=l)
 by_cases hv:(A5 l && AN p)=true
 ·obtain⟨hn,hk,hs⟩:=Ob hv
  have hf:=OZ (TB:=TB) hn hk hs (Du _)
  rw [XN] at hf
  have hlen:1≤l.length∧l.length≤3:=by unfold A5 at hv;grind
  have hvp:BJ l p=DV (Ex (CS l p)):=by unfold BJ;rw [if_pos hv]
  rw [hvp]
  have e:(List.replicate (l.length+1) 0).map Bm=List.replicate ((l.length:Int)+1).toNat (Bm 0):=by
   rw [List.map_replicate];congr
  have hf':Pure Tryz.prog TB 132 [.a [.d (Jm l),.d (VZ [p]),.d (.l (List.replicate ((l.length:Int)+1).toNat (Bm 0))),.d (iD (Bq l)),.d (iD 3),.d (iD 0)]] (KO (DV (Ex (CS l p)))):=by rw [←e];exact hf
  refine eN Tryz.func72 rfl (by kernel_rfl) rfl ?_;intro Γ hΓ
  (repeat' first|refine sN rfl ?_ |((first|refine sA rfl ?_ ?_|refine s4 rfl ‹_› rfl ?_ ?_);first|exact tI|omega|simp only[oZ] at *;omega) |refine s2 rfl fun _ _hb=>?_ |refine sP rfl (FM l) rfl ?_|(refine sC rfl (Bk p) ?_;intro _ _hb)|refine sP rfl (hf') rfl ?_|(refine Ai rfl ?_;refine gA rfl ?_;first| refine gS (fun _ _=>YQ (dz:=Bm 0) rfl rfl (by rfl) (by rfl) (by rfl) (Nat.le_of_ble_eq_true rfl) (by first|omega|simp only[oZ] at *;omega) (by first|omega|simp only[oZ] at *;omega)) ?_|refine gS (fun _ _=>AQ rfl rfl (by rfl) (by rfl)) ?_) |refine s3 rfl ?_ ?_<;>rintro rfl |refine aU rfl ?_ |refine Aa ?_ |refine rE (by kernel_rfl) ?_|(refine aC rfl ?_ ?_<;>rintro⟨⟩)|refine aK ?_|refine aE ?_|refine aB ?_|refine aR ⟨_,rfl,?_⟩)
  all_goals first
   | rfl
   | (exfalso;grind;done)
 ·have hvp:BJ l p=none:=by unfold BJ;rw [if_neg hv]
  rw [hvp]
  refine eN Tryz.func72 rfl (by kernel_rfl) rfl ?_;intro Γ hΓ
  (repeat' first|refine sN rfl ?_ |((first|refine sA rfl ?_ ?_|refine s4 rfl ‹_› rfl ?_ ?_);first|exact tI|omega|simp only[oZ] at *;omega) |refine s2 rfl fun _ _hb=>?_ |refine sP rfl (FM l) rfl ?_|(refine sC rfl (Bk p) ?_;intro _ _hb) |refine s3 rfl ?_ ?_<;>rintro rfl |refine aU rfl ?_ |refine Aa ?_ |refine rE (by kernel_rfl) ?_|(refine aC rfl ?_ ?_<;>rintro⟨⟩)|refine aK ?_|refine aE ?_|refine aB ?_|refine aR ⟨_,rfl,?_⟩)
  all_goals first
   | rfl
   | (exfalso;grind;done)
theorem Fa(s:Sys)(a p:AU):Pure Tryz.prog TB 126 [Bv s,Bp a,Bp p] (KO (DN s a p)):=by
 by_cases hv:Dl s a p=true
 ·obtain⟨hn,hk,hs⟩:=Oc hv
  have hf:=OZ (TB:=TB) hn hk hs (Du _)
  rw [XN] at hf
  have hvp:DN s a p=DV (Ex (Ep s a p)):=by unfold DN;rw [if_pos hv]
  rw [hvp]
  refine eN Tryz.func126 rfl (by kernel_rfl) rfl ?_;intro Γ hΓ
  (repeat' first|refine sN rfl ?_ |((first|refine sA rfl ?_ ?_|refine s4 rfl ‹_› rfl ?_ ?_);first|exact tI|omega|simp only[oZ] at *;omega) |refine s2 rfl fun _ _hb=>?_ |(refine sC rfl (O0 s a p) ?_;intro _ _hb)|refine sP rfl (hf) rfl ?_|(refine Ai rfl ?_;refine gA rfl ?_;first| refine gS (fun _ _=>YQ (dz:=Bm 0) rfl rfl (by rfl) (by rfl) (by rfl) (Nat.le_of_ble_eq_true rfl) (by first|omega|simp only[oZ] at *;omega) (by first|omega|simp only[oZ] at *;omega)) ?_|refine gS (fun _ _=>AQ rfl rfl (by rfl) (by rfl)) ?_) |refine s3 rfl ?_ ?_<;>rintro rfl |refine aU rfl ?_ |refine Aa ?_ |refine rE (by kernel_rfl) ?_|(refine aC rfl ?_ ?_<;>rintro⟨⟩)|refine aK ?_|refine aE ?_|refine aB ?_|refine aR ⟨_,rfl,?_⟩)
  all_goals first
   | rfl
   | (exfalso;unfold Dl at hv;grind;done)
 ·have hvp:DN s a p=none:=by unfold DN;rw [if_neg hv]
  rw [hvp]
  refine eN Tryz.func126 rfl (by kernel_rfl) rfl ?_;intro Γ hΓ
  (repeat' first|refine sN rfl ?_ |((first|refine sA rfl ?_ ?_|refine s4 rfl ‹_› rfl ?_ ?_);first|exact tI|omega|simp only[oZ] at *;omega) |refine s2 rfl fun _ _hb=>?_ |(refine sC rfl (O0 s a p) ?_;intro _ _hb) |refine s3 rfl ?_ ?_<;>rintro rfl |refine aU rfl ?_ |refine Aa ?_ |refine rE (by kernel_rfl) ?_|(refine aC rfl ?_ ?_<;>rintro⟨⟩)|refine aK ?_|refine aE ?_|refine aB ?_|refine aR ⟨_,rfl,?_⟩)
  all_goals first
   | rfl
   | (exfalso;unfold Dl at hv;grind;done)
theorem Kx(s:Sys)(p:AU)(t:Sys):Pure Tryz.prog TB 115 [Bv s,Bp p,Bv t] (eI .i64 (AL s p t)):=by
 refine eN Tryz.func115 rfl (by kernel_rfl) rfl ?_;intro Γ hΓ
 (repeat' first|refine tA rfl ?_ |refine s2 rfl fun _ _hb=>?_ |(refine sC rfl (CB s) ?_;intro _ _hb)|(refine sC rfl (Bk p) ?_;intro _ _hb)|(refine sC rfl (CB t) ?_;intro _ _hb) |refine s3 rfl ?_ ?_<;>rintro rfl |refine aU rfl ?_ |refine Aa ?_|(refine aC rfl ?_ ?_<;>rintro⟨⟩)|refine aK ?_|refine aE ?_|refine aB ?_|refine aR ⟨_,rfl,?_⟩)
 all_goals (show E.o _=E.o _;congr;unfold AL;grind)
end Go.Am
namespace Go.Am
open Go
def BH:List Int→Nat
 | []=>0
 | x::l=>2 ^ x.toNat+BH l
theorem PB:∀(l m:List Int),BH (l++m)=BH l+BH m
 | [],m=>by simp [BH]
 | x::l,m=>by simp [BH,PB l m,Nat.add_assoc]
theorem Lv:∀ {l:List Int} {t:Nat},l.Pairwise (· < ·)→(∀x∈l,0≤x∧x < t)→BH l < 2 ^ t
 | [],t,_,_=>Nat.two_pow_pos t
 | x :: l,t,hp,h=>by
  have key:∀(l:List Int) (a t:Nat),(∀x∈l,(a:Int)≤x∧x < t)→l.Pairwise (· < ·)→a≤t→2 ^ a+BH l≤2 ^ t:=by
   intro l
   induction l with
   | nil=>intro a t _ _ hat;simpa [BH] using Nat.pow_le_pow_right (by omega) hat
   | cons y l ih=>
    intro a t h hp hat
    have hy:=h y (by simp)
    have hp2:=List.pairwise_cons.1 hp
    have h1:=ih (y.toNat+1) t (fun x hx=>by have:=hp2.1 x hx;have:=h x (by simp [hx]);omega) hp2.2 (by omega)
    have h2:2 ^ a≤2 ^ y.toNat:=Nat.pow_le_pow_right (by omega) (by omega)
    rw [Nat.pow_succ] at h1
    simp only [BH];omega
  have hx:=h x (by simp)
  have hp2:=List.pairwise_cons.1 hp
  have h1:=key l (x.toNat+1) t (fun y hy=>by have:=hp2.1 y hy;have:=h y (by simp [hy]);omega) hp2.2 (by omega)
  rw [Nat.pow_succ] at h1
  simp only [BH]
  have:=Nat.two_pow_pos x.toNat
  omega
theorem gb{l:List Int}{t:Nat}(hp:l.Pairwise (· < ·))(h:∀x∈l,0≤x∧x < t):BH l ||| 2 ^ t=BH (l++[(t:Int)]):=by
 have h1:=Lv hp h
 rw [PB]
 have h2:=Nat.two_pow_add_eq_or_of_lt h1 1
 simp only [Nat.mul_one] at h2
 rw [Nat.or_comm,←h2]
 simp [BH];omega
theorem TN:∀(k m:Nat),(2 ^ k*(2*m+1)) &&& (2 ^ k*(2*m+1) - 1)=2 ^ k*(2*m)
 | 0, m=>by
  apply Nat.eq_of_testBit_eq
  intro i
  cases i with
  | zero=>simp
  | succ i=>
   simp only [Nat.pow_zero,Nat.one_mul,Nat.add_sub_cancel]
   have h1:(2*m+1) / 2=m:=by omega
   have h2:2*m / 2=m:=by omega
   rw [Nat.testBit_and,Nat.testBit_succ,Nat.testBit_succ,h1,h2];simp
 | k + 1,m=>by
  have ih:=TN k m
  have hp:0 < 2 ^ k*(2*m+1):=Nat.mul_pos (Nat.two_pow_pos k) (by omega)
  have e1:2 ^ (k+1)*(2*m+1)=2*(2 ^ k*(2*m+1)):=by rw [Nat.pow_succ,Nat.mul_comm (2 ^ k) 2,Nat.mul_assoc]
  have e2:2 ^ (k+1)*(2*m)=2*(2 ^ k*(2*m)):=by rw [Nat.pow_succ,Nat.mul_comm (2 ^ k) 2,Nat.mul_assoc]
  rw [e1,e2,←ih]
  generalize 2 ^ k*(2*m+1)=a at hp
  apply Nat.eq_of_testBit_eq
  intro i
  cases i with
  | zero=>simp
  | succ i=>
   have h1:2*a / 2=a:=by omega
   have h2:(2*a - 1) / 2=a - 1:=by omega
   have h3:2*(a &&& (a - 1)) / 2=a &&& (a - 1):=by omega
   rw [Nat.testBit_and,Nat.testBit_succ,Nat.testBit_succ,Nat.testBit_succ,h1,h2,h3,Nat.testBit_and]
theorem PC:∀ {l:List Int} {k:Nat},l.Pairwise (· < ·)→(∀x∈l,(k:Int) < x)→∃m,BH l=2 ^ k*(2*m)
 | [],k,_,_=>⟨0,by simp [BH]⟩
 | x :: l,k,hp,h=>by
  have hp2:=List.pairwise_cons.1 hp
  have hx:=h x (by simp)
  obtain⟨m,hm⟩:=PC (l:=l) (k:=k) hp2.2 fun y hy=>by have:=hp2.1 y hy;omega
  refine⟨2 ^ (x.toNat - k - 1)+m,?_⟩
  have e:x.toNat=k+(1+(x.toNat - k - 1)):=by omega
  have:2 ^ x.toNat=2 ^ k*(2*2 ^ (x.toNat - k - 1)):=by
   conv=>lhs;rw [e,Nat.pow_add,Nat.pow_add]
  simp only [BH,hm,this,←Nat.mul_add]
theorem MI{x:Int}{l:List Int}(hp:(x::l).Pairwise (· < ·))(h0:0≤x):∃m,BH (x::l)=2 ^ x.toNat*(2*m+1)∧BH l=2 ^ x.toNat*(2*m):=by
 have hp2:=List.pairwise_cons.1 hp
 obtain⟨m,hm⟩:=PC (l:=l) (k:=x.toNat) hp2.2 fun y hy=>by have:=hp2.1 y hy;omega
 exact⟨m,by simp only [BH,hm];rw [Nat.mul_add];omega,hm⟩
theorem aA{x:Int}{l:List Int}(hp:(x::l).Pairwise (· < ·))(h0:0≤x):BH (x::l) &&& (BH (x::l) - 1)=BH l:=by
 obtain⟨m,h1,h2⟩:=MI hp h0
 rw [h1,h2,TN]
theorem Jj{x:Int}{l:List Int}:0 < BH (x::l):=by
 simp only [BH];have:=Nat.two_pow_pos x.toNat;omega
theorem Vk{x:Int}{l:List Int}(hp:(x::l).Pairwise (· < ·))(h0:0≤x)(hlt:BH (x::l) < 2 ^ 64):Lib.ctz 64 (BH (x::l))=x.toNat:=by
 obtain⟨m,h1,_⟩:=MI hp h0
 have h2:=Lib.lowest_bit 64 _ (by have:=Jj (x:=x) (l:=l);omega) hlt
 have h3:=Lib.and_neg 64 x.toNat m (by rw [←h1];exact hlt)
 rw [←h1,h2.1] at h3
 exact(Nat.pow_right_inj (by omega)).1 h3
end Go.Am
namespace Go.Am
open Go Go.Proofs
set_option maxHeartbeats 1000000
attribute [local irreducible] AS BT Lex Bc Au Spec
variable {TB:Bt}
theorem gq(i:Nat)(h:i < 64):Bz[i]? = some (.int .u8 (Lib.deBruijn64tab.getD i 0:Nat)):=by
 have e:Bz=Lib.deBruijn64tab.map fun n=>Value.int .u8 (n:Nat):=rfl
 have hl:Lib.deBruijn64tab.length=64:=rfl
 rw [e,List.getElem?_map,List.getElem?_eq_getElem (by omega)]
 simp [List.getD,hl,h]
theorem jB(x a:Nat)(hx:x < 18446744073709551616)(hx0:x≠0)(hlow:x &&& (18446744073709551616 - x)=a) :
 (IntKind.u64.wrap (Hc .u64 (x:Int) (IntKind.u64.wrap (-(x:Int)))*285870213051353865)).fdiv (2 ^ (min (58:Int).toNat IntKind.u64.bits))=((a*285870213051353865 % 18446744073709551616 / 288230376151711744:Nat):Int):=by
 have w64:∀n:Int,IntKind.u64.wrap n=n % 18446744073709551616:=fun n=>by simp [IntKind.wrap,IntKind.signed,IntKind.bits]
 have e1:IntKind.u64.wrap (-(x:Int))=((18446744073709551616 - x:Nat):Int):=by rw [w64];omega
 have e2:Hc .u64 (x:Int) ((18446744073709551616 - x:Nat):Int)=(a:Int):=by
  unfold Hc
  have e:IntKind.u64.bits=64:=rfl
  rw [e]
  have h1:(BitVec.ofInt 64 (x:Int) &&& BitVec.ofInt 64 ((18446744073709551616 - x:Nat):Int)).toNat=a:=by
   simp only [BitVec.toNat_and,BitVec.ofInt_natCast,BitVec.toNat_ofNat]
   rw [Nat.mod_eq_of_lt (by omega),Nat.mod_eq_of_lt (by omega),hlow]
  rw [h1,w64]
  have h2:a≤x:=by rw [←hlow];exact Nat.and_le_left
  omega
 rw [e1,e2,w64]
 have e3:(2:Int) ^ (min (58:Int).toNat IntKind.u64.bits)=288230376151711744:=rfl
 rw [e3,Int.fdiv_eq_ediv_of_nonneg _ (by omega)]
 omega
theorem gz[Df TB](x:Nat)(hx0:x≠0)(hx:x < 18446744073709551616):Pure Tryz.prog TB 227 [eI .u64 x] (eI .i64 (Lib.ctz 64 x)):=by
 obtain⟨hlow,hk⟩:=Lib.lowest_bit 64 x hx0 hx
 obtain⟨hi,htab⟩:=Lib.deBruijn64_at _ hk
 have hkey:=jB x _ hx hx0 hlow
 have htv:=gq _ hi
 rw [htab] at htv
 generalize Lib.ctz 64 x=cz at *
 generalize 2 ^ cz*285870213051353865 % 18446744073709551616 / 288230376151711744=idx at *
 refine eN Tryz.func227 rfl (by kernel_rfl) rfl ?_;intro Γ hΓ
 (repeat' first|(refine sA rfl ?_ ?_;first|exact tI|omega) |refine s2 rfl fun _ _hb=>?_|(refine Ai rfl ?_;refine gA rfl ?_;first| refine gS (fun _ _=>kZ rfl rfl) ?_|refine gS (fun _ _=>gP rfl rfl rfl) ?_) |refine aU rfl ?_ |refine Aa ?_|(refine aC rfl ?_ ?_<;>rintro⟨⟩)|refine aK ?_|refine aE ?_|refine aB ?_|refine aR ⟨_,rfl,?_⟩)
 ·exfalso;(simp only[oZ] at *;omega)
 rw [hkey]
 clear hkey hlow htab
 (repeat' first|(refine sA rfl ?_ ?_;first|exact tI|omega)|(refine Ai rfl ?_;refine gA rfl ?_;first| refine gS (fun _ _=>dg (v:=.int .u8 ((cz:Nat):Int)) rfl (by omega) (by omega) (by rw [Int.toNat_natCast];exact htv)) ?_) |refine Aa ?_|(refine aC rfl ?_ ?_<;>rintro⟨⟩)|refine aK ?_|refine aE ?_|refine aB ?_|refine aR ⟨_,rfl,?_⟩)
 rfl
theorem gV[Df TB](x:Nat)(hx0:x≠0)(hx:x < 18446744073709551616):Pure Tryz.prog TB 223 [eI .u64 x] (eI .i64 (Lib.ctz 64 x)):=by
 refine eN Tryz.func223 rfl (by kernel_rfl) rfl ?_;intro Γ hΓ
 (repeat' first|refine tA rfl ?_ |refine sP rfl (gz x hx0 hx) rfl ?_ |refine aU rfl ?_ |refine Aa ?_|(refine aC rfl ?_ ?_<;>rintro⟨⟩)|refine aK ?_|refine aE ?_|refine aB ?_|refine aR ⟨_,rfl,?_⟩)
 all_goals rfl
theorem QS{x:Int}{l:List Int}(hp:(x::l).Pairwise (· < ·))(h0:0≤x)(hlt:BH (x::l) < 2 ^ 62):Hc .i64 (BH (x::l):Nat) ((BH (x::l):Nat) - 1)=(BH l:Nat):=by
 have h1:=aA hp h0
 have h2:=Jj (x:=x) (l:=l)
 have h3:BH l≤BH (x::l):=Nat.le_add_left _ _
 generalize BH (x::l)=a at *
 have e1:((a:Nat):Int) - 1=((a - 1:Nat):Int):=by omega
 rw [e1]
 unfold Hc
 have e:IntKind.i64.bits=64:=rfl
 rw [e]
 have h4:(BitVec.ofInt 64 (a:Int) &&& BitVec.ofInt 64 ((a - 1:Nat):Int)).toNat=BH l:=by
  simp only [BitVec.toNat_and,BitVec.ofInt_natCast,BitVec.toNat_ofNat]
  rw [Nat.mod_eq_of_lt (by omega),Nat.mod_eq_of_lt (by omega),h1]
 rw [h4]
 exact IntWalk.i64_in _ (by omega)
theorem WR[Df TB](l:List Int)(hp:l.Pairwise (· < ·))(hb:∀x∈l,0≤x∧x < 60):Pure Tryz.prog TB 207 [eI .i64 (BH l:Nat)] (Ag l):=by
 have hlen:l.length≤60:=by
  cases l with
  | nil=>simp
  | cons a m=>
   have h4:=OT m a 60 hp fun x hx=>(hb x hx).2
   have h5:=hb a (by simp)
   simp;omega
 refine eN Tryz.func207 rfl (by kernel_rfl) rfl ?_;intro Γ hΓ
 (repeat first|refine sN rfl ?_ |((first|refine sM rfl ?_ ?_|refine s4 rfl ‹_› rfl ?_ ?_);first|exact tI|omega|simp only[oZ] at *;omega) |refine s2 rfl fun _ _hb=>?_ |refine s3 rfl ?_ ?_<;>rintro rfl |refine aU rfl ?_ |refine Aa ?_ |refine rE (by kernel_rfl) ?_)
 (refine Ai rfl ?_;refine Bs (fun _ _=>Br rfl) rfl ?_)
 (repeat first|refine sN rfl ?_ |((first|refine sM rfl ?_ ?_|refine s4 rfl ‹_› rfl ?_ ?_);first|exact tI|omega|simp only[oZ] at *;omega) |refine s2 rfl fun _ _hb=>?_ |refine s3 rfl ?_ ?_<;>rintro rfl |refine aU rfl ?_ |refine Aa ?_ |refine rE (by kernel_rfl) ?_)
 (refine pW rfl ?_ rfl (by rfl);refine Hk 1 3 ?_)
 (repeat first|refine sN rfl ?_ |((first|refine sM rfl ?_ ?_|refine s4 rfl ‹_› rfl ?_ ?_);first|exact tI|omega|simp only[oZ] at *;omega) |refine s2 rfl fun _ _hb=>?_ |refine s3 rfl ?_ ?_<;>rintro rfl |refine aU rfl ?_ |refine Aa ?_ |refine rE (by kernel_rfl) ?_)
 refine aB ?_
 refine Au.AP (α:={k:Nat // k≤l.length}) (fun ⟨k,hk⟩=>[(0,eI .i64 (BH (l.drop k):Nat)),(3,.o (.arr 0 1 0 k))]) (fun ⟨k,hk⟩=>[(0,.cells 3 1 ((l.take k).map Al))]) 1 (fun ⟨k,hk⟩=>l.length - k) (⟨0,by omega⟩) [0] (Di hΓ rfl rfl) (by ((repeat' first|exact tI|rfl|refine And.intro ?_ ?_)<;>(simp[cX,zC,hΓ]))) ?_;rintro⟨k,hk⟩;(try dsimp only)
 (repeat first|refine sN rfl ?_ |((first|refine sM rfl ?_ ?_|refine s4 rfl ‹_› rfl ?_ ?_);first|exact tI|omega|simp only[oZ] at *;omega) |refine s2 rfl fun _ _hb=>?_ |refine s3 rfl ?_ ?_<;>rintro rfl |refine aU rfl ?_ |refine Aa ?_ |refine rE (by kernel_rfl) ?_)
 (refine aC rfl ?_ ?_<;>rintro⟨⟩)
 ·have hkl:k < l.length:=by
   rcases Nat.lt_or_ge k l.length with h|h
   ·exact h
   ·rw [List.drop_of_length_le h] at _hb;simp [BH] at _hb
  obtain⟨x,hx⟩:=get_some hkl
  have hd:=Bo hx
  have hxb:=hb x (List.mem_of_getElem? hx)
  have hpd:(x::l.drop (k+1)).Pairwise (· < ·):=by rw [←hd];exact hp.sublist (List.drop_sublist _ _)
  have hlt:BH (x::l.drop (k+1)) < 2 ^ 60:=by
   refine Lv hpd fun y hy=>?_
   rw [←hd] at hy;exact hb y (List.mem_of_mem_drop hy)
  have hps:=Jj (x:=x) (l:=l.drop (k+1))
  have hct:=Vk hpd hxb.1 (by omega)
  have hia:=QS hpd hxb.1 (by omega)
  rw [←hd] at hlt hps hct hia
  have htz:=gV (TB:=TB) (BH (l.drop k)) (by omega) (by omega)
  rw [hct] at htz
  have ex:((x.toNat:Nat):Int)=x:=by omega
  rw [ex] at htz
  refine aK ?_
  refine aS (aB ?_)
  (repeat first|refine sN rfl ?_ |((first|refine sA rfl ?_ ?_|refine s4 rfl ‹_› rfl ?_ ?_);first|exact tI|omega|simp only[oZ] at *;omega) |refine s2 rfl fun _ _hb=>?_ |refine sP rfl (htz) rfl ?_ |refine s3 rfl ?_ ?_<;>rintro rfl |refine aU rfl ?_ |refine Aa ?_ |refine rE (by kernel_rfl) ?_)
  (refine pW rfl ?_ rfl (by rfl);refine AH rfl rfl rfl (by first| (simp;done)|(simp;(first|omega|simp only[oZ] at *;omega))) rfl (by intro r hr;simp at hr;subst hr;rfl) (by rfl) (Nat.le_of_ble_eq_true rfl) (by simp;first|omega|simp only[oZ] at *;omega) ?_)
  (repeat first|refine sN rfl ?_ |((first|refine sX rfl ?_ ?_|refine s4 rfl ‹_› rfl ?_ ?_);first|exact tI|omega|simp only[oZ] at *;omega) |refine s2 rfl fun _ _hb=>?_|(refine Ai rfl ?_;refine gA rfl ?_;first| refine gS (fun _ _=>gO rfl rfl hia) ?_) |refine s3 rfl ?_ ?_<;>rintro rfl |refine aU rfl ?_ |refine Aa ?_ |refine rE (by kernel_rfl) ?_)
  refine⟨⟨k+1,by first|omega|simp only[oZ] at *;omega⟩,by dsimp only;(first|omega|simp only[oZ] at *;omega),[1],?_⟩
  simp[cX,zC,hΓ,hia,List.take_add_one,hx]
 ·obtain rfl:k=l.length:=by
   rcases Nat.lt_or_ge k l.length with h|h
   ·exfalso
    obtain⟨x,hx⟩:=get_some h
    have hd:=Bo hx
    have hps:=Jj (x:=x) (l:=l.drop (k+1))
    rw [←hd] at hps
    first|omega|simp only[oZ] at *;omega
   ·omega
  rw [List.take_length]
  refine aE ?_
  (repeat first|refine sN rfl ?_ |((first|refine sX rfl ?_ ?_|refine s4 rfl ‹_› rfl ?_ ?_);first|exact tI|omega|simp only[oZ] at *;omega) |refine s2 rfl fun _ _hb=>?_ |refine s3 rfl ?_ ?_<;>rintro rfl |refine aU rfl ?_ |refine Aa ?_ |refine rE (by kernel_rfl) ?_)
  refine Au.freeze [0] [(2,Ag l)] ⟨⟨_,rfl,.o (.full (by simp) rfl (by simp [Function.comp_def]) (by simp))⟩,trivial⟩ ?_
  refine aR ⟨_,rfl,rfl⟩
theorem Th(r:Nat→Nat):∀ds:List D,C.BB r (ds.map .d)=ds.map .d
 | []=>rfl
 | d::l=>by simp [C.BB,C.A3,Th r l]
def LW(es:List ET)(f l:Nat):List Int:=(es.filter fun e:ET=>decide (e.f=(f:Int)) && decide (e.l=(l:Int))).map (·.t)
def FB(es:List ET):List D:=(List.range 96).map fun i=>iD (BH (LW es (i / 6) (i % 6)):Nat)
theorem Jx{es:List ET}{i:Nat}(h:i < 96):(FB es)[i]? = some (iD (BH (LW es (i / 6) (i % 6)):Nat)):=by simp [FB,h]
theorem Zi(es:List ET)(e:ET)(f l:Nat):LW (es++[e]) f l=LW es f l++if e.f=(f:Int)∧e.l=(l:Int) then [e.t] else []:=by
 simp only [LW,List.filter_append,List.map_append,List.filter_cons,List.filter_nil]
 grind
theorem Iy{r:List C}{j:Nat}{c:C}(h:j < r.length):Af r j [c]=r.set j c:=by
 unfold Af
 rw [List.set_eq_take_append_cons_drop,if_pos h]
 simp
theorem WS{es:List ET}{e:ET}{v:Int}(h0:0≤e.f∧e.f < 16)(h1:0≤e.l∧e.l < 6)(hv:v=(BH (LW (es++[e]) e.f.toNat e.l.toNat):Nat)) :
 Af ((FB es).map .d) (0+e.f.toNat*6+e.l.toNat*1) (eC (eI .i64 v))=(FB (es++[e])).map .d:=by
 have hj:0+e.f.toNat*6+e.l.toNat*1 < 96:=by omega
 have:eC (eI .i64 v)=[C.d (iD v)]:=rfl
 rw [this,Iy (by simp [FB];omega),←List.map_set]
 congr 1
 apply List.ext_getElem?
 intro i
 by_cases hi:i < 96
 ·rw [Jx hi]
  by_cases hij:0+e.f.toNat*6+e.l.toNat*1=i
  ·subst hij
   rw [List.getElem?_set_self (by simp [FB];omega),hv]
   have e1:(0+e.f.toNat*6+e.l.toNat*1) / 6=e.f.toNat:=by omega
   have e2:(0+e.f.toNat*6+e.l.toNat*1) % 6=e.l.toNat:=by omega
   rw [e1,e2]
  ·rw [List.getElem?_set_ne hij,Jx hi,Zi,if_neg (by omega),List.append_nil]
 ·rw [List.getElem?_eq_none (by simp [FB];omega),List.getElem?_eq_none (by simp [FB];omega)]
theorem Fk{s:Sys}(h:AR s=true)(k f l:Nat):(LW (s.es.take k) f l).Pairwise (· < ·):=by
 unfold LW
 rw [List.pairwise_map]
 refine List.Pairwise.imp_of_mem (fun {a b} ha hb hab=>?_) (((LC h).sublist (List.take_sublist k s.es)).filter _)
 have h1:=(List.mem_filter.1 ha).2
 have h2:=(List.mem_filter.1 hb).2
 unfold Kb at hab
 grind
theorem MO{s:Sys}(h:AR s=true){k f l:Nat}{x:Int}(hx:x∈LW (s.es.take k) f l):0≤x∧x < 16:=by
 unfold LW at hx
 obtain⟨e,he,rfl⟩:=List.mem_map.1 hx
 have h2:=DA h (List.mem_of_mem_take (List.mem_filter.1 he).1)
 have h3:=AM h
 unfold DT at h2
 grind
theorem aM{s:Sys}{f l:Nat}(hb:A0 s.al l=true):LW s.es f l=BI s f l:=by
 unfold LW BI
 rw [if_pos (by simpa using hb)]
theorem ff{a t:Nat}(ha:a < 2 ^ 16)(ht:t < 16):GZ .i64 (a:Nat) ((2 ^ t:Nat):Int)=((a ||| 2 ^ t:Nat):Int):=by
 have h2:2 ^ t < 2 ^ 16:=Nat.pow_lt_pow_right (by omega) ht
 have h0:a ||| 2 ^ t < 2 ^ 16:=Nat.or_lt_two_pow ha h2
 unfold GZ
 have h1:(BitVec.ofInt IntKind.i64.bits (a:Int) ||| BitVec.ofInt IntKind.i64.bits ((2 ^ t:Nat):Int)).toNat=a ||| 2 ^ t:=by
  have e:IntKind.i64.bits=64:=rfl
  rw [e]
  simp only [BitVec.toNat_or,BitVec.ofInt_natCast,BitVec.toNat_ofNat]
  rw [Nat.mod_eq_of_lt (by omega),Nat.mod_eq_of_lt (by omega)]
 rw [h1]
 exact IntWalk.i64_in _ (by omega)
theorem Y3{t:Int}(h0:0≤t)(h1:t < 16):IntKind.i64.wrap (1*2 ^ (min t.toNat IntKind.i64.bits))=((2 ^ t.toNat:Nat):Int):=by
 have e:min t.toNat IntKind.i64.bits=t.toNat:=by
  have:IntKind.i64.bits=64:=rfl
  omega
 rw [e,Int.one_mul]
 have h2:2 ^ t.toNat < 2 ^ 16:=Nat.pow_lt_pow_right (by omega) (by omega)
 have h3:(2:Int) ^ t.toNat=((2 ^ t.toNat:Nat):Int):=by push_cast;rfl
 rw [h3]
 generalize 2 ^ t.toNat=p at *
 exact IntWalk.i64_in _ (by omega)
theorem O9(s:Sys)(h:AR s=true):Pure Tryz.prog TB 153 [Bv s] (.o (.ip (FB s.es))):=by
 refine eN Tryz.func153 rfl (by kernel_rfl) rfl ?_;intro Γ hΓ
 (repeat first|refine sN rfl ?_ |refine tA rfl ?_ |refine aU rfl ?_ |refine Aa ?_)
 refine Au.bound 8 rfl fun hB0=>?_
 have hB:=hB0 (s.es.map C9) .refl
 refine aB ?_
 refine Au.AP (α:={k:Nat // k≤s.es.length}) (fun ⟨k,hk⟩=>[(3,.o (.ptr 0 96 0 0)),(8,HE s.es),(9,eI .i64 s.es.length),(10,eI .i64 k)]) (fun ⟨k,hk⟩=>[(0,.cells 236 96 [(FB (s.es.take k)).map .d])]) 1 (fun ⟨k,hk⟩=>s.es.length - k) (⟨0,by omega⟩) [0] (Di hΓ rfl rfl) (by (repeat' first|exact tI|rfl|refine And.intro ?_ ?_)) ?_;rintro⟨k,hk⟩;(try dsimp only)
 (repeat first|refine s2 rfl fun _ _hb=>?_ |refine aU rfl ?_ |refine Aa ?_)
 (refine aC rfl ?_ ?_<;>rintro⟨⟩)
 ·obtain⟨e,he⟩:=get_some (l:=s.es) (k:=k) (by (simp only[oZ] at *;omega))
  have he':=get_map (g:=C9) he
  have heo:=DA h (List.mem_of_getElem? he)
  have hh:=AM h
  unfold DT at heo
  simp only [Bool.and_eq_true,decide_eq_true_eq] at heo
  obtain⟨⟨hf0,hf1,ht0,ht1,hl0,hl1⟩,hbit⟩:=heo
  have hj96:0+e.f.toNat*6+e.l.toNat*1+1≤96:=by omega
  have hshl:=Y3 ht0 (by omega)
  have htk:s.es.take (k+1)=s.es.take k++[e]:=by rw [List.take_add_one,he];rfl
  have hap:LW (s.es.take (k+1)) e.f.toNat e.l.toNat=LW (s.es.take k) e.f.toNat e.l.toNat++[e.t]:=by
   rw [htk,Zi,if_pos (by omega)]
  have hbnd:∀x∈LW (s.es.take k) e.f.toNat e.l.toNat,0≤x∧x < e.t.toNat:=by
   intro x hx
   have h1:=Fk h (k+1) e.f.toNat e.l.toNat
   rw [hap,List.pairwise_append] at h1
   have h2:=h1.2.2 x hx e.t (by simp)
   have h3:=MO h hx
   omega
  have hor1:=gb (Fk h k e.f.toNat e.l.toNat) hbnd
  have hlt:=Lv (t:=16) (Fk h k e.f.toNat e.l.toNat) fun x hx=>MO h hx
  have hor:=ff hlt (t:=e.t.toNat) (by omega)
  have et:((e.t.toNat:Nat):Int)=e.t:=by omega
  rw [hor1,et,←hap,htk] at hor
  have hstep:=WS (es:=s.es.take k) (e:=e) ⟨hf0,by omega⟩ ⟨hl0,hl1⟩ rfl
  rw [←hor] at hstep
  have hld:((FB (s.es.take k)).map C.d)[0+e.f.toNat*6+e.l.toNat*1]? = some (.d (iD (BH (LW (s.es.take k) e.f.toNat e.l.toNat):Nat))):=by
   have e1:(0+e.f.toNat*6+e.l.toNat*1) / 6=e.f.toNat:=by omega
   have e2:(0+e.f.toNat*6+e.l.toNat*1) % 6=e.l.toNat:=by omega
   rw [List.getElem?_map,Jx (by omega),e1,e2];rfl
  refine aK ?_
  refine aS (aB ?_)
  (repeat first|refine tA rfl ?_ |(refine s4 rfl ‹_› rfl ?_ ?_;omega) |refine aU rfl ?_ |refine Aa ?_)
  refine rG (IZ [16]) (by kernel_rfl) ?_
  (repeat first|(refine sA rfl ?_ ?_;first|exact tI|omega)|(refine Ai rfl ?_;refine gA rfl ?_;first| refine gS (fun _ _=>dw rfl rfl (by omega) hshl) ?_|refine gQ (Te rfl rfl rfl hld) (by rfl) ?_))
  (refine Ai rfl ?_;refine HP ?_ rfl (by rfl);refine Eg rfl rfl rfl rfl (rfl) rfl (hj96) ?_)
  (repeat first|(refine sA rfl ?_ ?_;first|exact tI|simp only[oZ] at *;omega) |refine aU rfl ?_ |refine Aa ?_)
  refine⟨⟨k+1,by (simp only[oZ] at *;omega)⟩,by dsimp only;((simp only[oZ] at *;omega)),[0],?_⟩
  rw [hstep,←htk]
  simp[cX,zC,hΓ,List.set_cons_zero,Th]
 ·obtain rfl:k=s.es.length:=by (simp only[oZ] at *;omega)
  refine aE ?_
  rw [List.take_length]
  (repeat first|refine tM rfl ?_ |refine aU rfl ?_ |refine Aa ?_)
  refine Au.freeze [0] [(2,.o (.ip (FB s.es)))] ⟨⟨_,rfl,.o (.ptr (by simp) rfl rfl rfl)⟩,trivial⟩ ?_
  refine aR ⟨_,rfl,rfl⟩
def Pu(h:Nat→Int):List C:=(List.range 6).map fun l=>.d (iD (h l))
def Xa(h:Nat→Int):List D:=(List.range 6).map fun l=>iD (h l)
theorem dK(h:Nat→Int):Pu h=(Xa h).map .d:=by simp [Pu,Xa]
def BF{α:Type}(n:Nat)(g:Nat→α):List α:=(List.range n).map g
theorem DJ{α:Type}{n q:Nat}{g:Nat→α}(h:q < n):(BF n g)[q]? = some (g q):=by simp [BF,h]
theorem MG{α:Type}{n q:Nat}{g:Nat→α}{x:α}:(BF n g).set q x=BF n fun i=>if i=q then x else g i:=by
 apply List.ext_getElem?
 intro i
 by_cases hi:i < n
 ·rw [DJ hi]
  by_cases hq:q=i
  ·subst hq;rw [List.getElem?_set_self (by simp [BF,hi])];simp
  ·rw [List.getElem?_set_ne hq,DJ hi,if_neg (Ne.symm hq)]
 ·rw [List.getElem?_eq_none (by simp [BF];omega),List.getElem?_eq_none (by simp [BF];omega)]
theorem C4{α:Type}{n:Nat}{g g':Nat→α}(h:∀i,i < n→g i=g' i):BF n g=BF n g':=by
 unfold BF
 exact List.map_congr_left fun i hi=>h i (List.mem_range.1 hi)
theorem dL{h:Nat→Int}{l:Nat}{v:Int}(hl:l < 6):Af (Pu h) (0+l*1) (eC (eI .i64 v))=Pu fun x=>if x=l then v else h x:=by
 have e:eC (eI .i64 v)=[C.d (iD v)]:=rfl
 rw [e,Iy (by simp [Pu];omega)]
 have:=MG (n:=6) (q:=l) (g:=fun l=>C.d (iD (h l))) (x:=C.d (iD v))
 have e1:0+l*1=l:=by omega
 rw [e1]
 refine Eq.trans this (C4 fun i _=>?_)
 by_cases e:i=l<;>simp [e]
theorem Kt{h h':Nat→Int}(hh:∀l,l < 6→h l=h' l):Pu h=Pu h':=C4 fun i hi=>by rw [hh i hi]
theorem JW(s:Int):∀(n k:Nat),k≤n→AI s k <+: AI s n
  | 0, k, h => by have:k=0:=by omega
                  subst this;exact List.prefix_refl _
  | n + 1,k,h=>by
    rcases Nat.lt_or_ge k (n+1) with h1|h1
    · rw [CZ]
      exact(JW s n k (by omega)).trans (List.prefix_append _ _)
    · have:k=n+1:=by omega
      subst this;exact List.prefix_refl _
theorem JX{s:Int}{k n:Nat}{l:Int}(h:(AI s n)[k]? = some l):(AI s l.toNat).length=k:=by
 have h1:=Ak (List.mem_of_getElem? h)
 have h2:(AI s (l.toNat+1))[(AI s l.toNat).length]? = some l:=by
  rw [CZ,if_pos h1.2.2,List.getElem?_append_right (Nat.le_refl _)]
  simp;omega
 have h3:(AI s n)[(AI s l.toNat).length]? = some l:=by
  obtain⟨t,ht⟩:=JW s n (l.toNat+1) (by omega)
  rw [←ht,List.getElem?_append_left (List.getElem?_eq_some_iff.1 h2).1];exact h2
 have hp:=EJ s n
 rw [List.pairwise_iff_getElem] at hp
 obtain⟨a1,a2⟩:=List.getElem?_eq_some_iff.1 h
 obtain⟨b1,b2⟩:=List.getElem?_eq_some_iff.1 h3
 rcases Nat.lt_trichotomy (AI s l.toNat).length k with h4|h4|h4
 ·have:=hp _ _ b1 a1 h4;omega
 ·exact h4
 ·have:=hp _ _ a1 b1 h4;omega
theorem D0{s:Int}{n l:Nat}:(l:Int)∈AI s n↔l < n∧A0 s l=true:=by
 unfold AI
 simp only [List.mem_map,List.mem_filter,List.mem_range]
 constructor
 ·rintro⟨a,ha,e⟩
  have:a=l:=by have e:((a:Nat):Int)=l:=e;omega
  subst this;exact ha
 ·intro h;exact⟨l,h,rfl⟩
def P8(n:Nat)(H:Nat→Nat→Int):List (List C):=BF n fun i=>Pu (H i)
theorem JI(r:Nat→Nat)(n:Nat)(H:Nat→Nat→Int):(P8 n H).map (C.BB r)=P8 n H:=by
 unfold P8 BF
 rw [List.map_map]
 exact List.map_congr_left fun i _=>by simp only [Function.comp_def,dK,Th]
theorem ef(n:Nat):P8 n (fun _ _=>0)=List.replicate n [C.d (D.v (Value.int IntKind.i64 0)),C.d (D.v (Value.int IntKind.i64 0)),C.d (D.v (Value.int IntKind.i64 0)),C.d (D.v (Value.int IntKind.i64 0)),C.d (D.v (Value.int IntKind.i64 0)),C.d (D.v (Value.int IntKind.i64 0))]:=by
 unfold P8 BF
 rw [List.map_const'];simp;exact .inr rfl
theorem Zf{n q:Nat}{H:Nat→Nat→Int}(h:q < n):(P8 n H)[0+((q:Nat):Int).toNat]? = some (Pu (H q)):=by
 rw [Nat.zero_add,Int.toNat_natCast];exact DJ (g:=fun i=>Pu (H i)) h
theorem Zg{n q l:Nat}{v:Int}{H:Nat→Nat→Int}(hl:l < 6):(P8 n H).set (0+((q:Nat):Int).toNat) (Af (Pu (H q)) (0+((l:Nat):Int).toNat*1) (eC (eI .i64 v)))=P8 n fun i x=>if i=q∧x=l then v else H i x:=by
 rw [Nat.zero_add,Int.toNat_natCast,Int.toNat_natCast,dL hl]
 unfold P8
 rw [MG]
 refine C4 fun i _=>?_
 by_cases e:i=q
 ·subst e;rw [if_pos rfl];exact Kt fun l _=>by simp
 ·rw [if_neg e];exact Kt fun l _=>by simp [e]
theorem HV{n:Nat}{H H':Nat→Nat→Int}(h:∀i,i < n→∀l,l < 6→H i l=H' i l):P8 n H=P8 n H':=C4 fun i hi=>Kt fun l hl=>h i hi l hl
theorem gr(n:Nat)(H:Nat→Nat→Int):(P8 n H).length=n:=by simp [P8,BF]
def GV(a:AU):List (List D):=BF a.nx.length fun q=>Xa fun l=>Cy a q l
theorem lu(a:AU):P8 a.nx.length (fun i l=>Cy a i l)=(GV a).map fun r=>r.map .d:=by
 unfold P8 GV BF
 rw [List.map_map]
 exact List.map_congr_left fun i _=>by simp only [Function.comp_def,dK]
def gX(a:AU):Prop:=a.nx.length≤64∧∀q,q < a.nx.length→∃row:List Int,a.nx[q]? = some row∧row.length=(Ac a.al).length∧∀(k:Nat) y,row[k]? = some y→0≤y∧y < a.nx.length
theorem XT{a:AU}(h:AN a=true):gX a:=⟨by have:=AG h;omega,fun q hq=>Jq h hq⟩
theorem Vz(a:AU)(h:gX a):Pure Tryz.prog TB 76 [Bp a] (.o (.d (.l (GV a)))):=by
 have hh:=h.1
 have hll:(Ac a.al).length≤6:=AV a.al 6
 refine eN Tryz.func76 rfl (by kernel_rfl) rfl ?_;intro Γ hΓ
 (repeat first|refine aU rfl ?_)
 (refine Ai rfl ?_;refine Bs (fun _ _=>C0 rfl rfl rfl) rfl ?_)
 (refine Ai rfl ?_;refine Bs (fun _ _=>Br rfl) rfl ?_)
 (repeat first|refine sN rfl ?_ |refine tM rfl ?_ |refine aU rfl ?_ |refine Aa ?_)
 (refine pW rfl ?_ rfl (by rfl);refine Eo rfl rfl (by rfl) (by rfl) (Nat.le_of_ble_eq_true rfl) (by omega) (by omega) (by omega) ?_)
 (repeat first|refine sN rfl ?_ |refine tM rfl ?_ |refine sP rfl (CN a.al) rfl ?_ |refine aU rfl ?_ |refine Aa ?_)
 refine aB ?_
 refine Au.AP (α:={q:Nat // q≤a.nx.length}) (fun ⟨q,hq⟩=>[(1,.o (.ip (Bh a))),(3,.o (.arr 0 6 0 a.nx.length)),(4,Ag (Ac a.al)),(18,Cm a.nx),(19,eI .i64 a.nx.length),(20,eI .i64 q)]) (fun ⟨q,hq⟩=>[(0,.cells 121 6 (P8 a.nx.length fun i l=>if i < q then Cy a i l else 0))]) 1 (fun ⟨q,hq⟩=>a.nx.length - q) (⟨0,by omega⟩) [0] (Di hΓ rfl rfl) (by (simp[cX,zC,hΓ,JI,ef])) ?_;rintro⟨q,hq⟩;(try dsimp only)
 (repeat first|refine s2 rfl fun _ _hb=>?_ |refine aU rfl ?_ |refine Aa ?_)
 (refine aC rfl ?_ ?_<;>rintro⟨⟩)
 ·have hqn : q < a.nx.length:=by (simp only[oZ] at *;omega)
  obtain⟨row,hr,hrl,hrx⟩:=h.2 q hqn
  have hr':=get_map (g:=Dw) hr
  refine aK ?_
  refine aS (aB ?_)
  (repeat first|refine tM rfl ?_ |(refine s4 rfl ‹_› rfl ?_ ?_;omega) |refine aU rfl ?_ |refine Aa ?_)
  refine aB ?_
  refine Au.AP (α:={m:Nat // m≤6}) (fun ⟨m,hm⟩=>[(1,.o (.ip (Bh a))),(3,.o (.arr 0 6 0 a.nx.length)),(4,Ag (Ac a.al)),(18,Cm a.nx),(19,eI .i64 a.nx.length),(20,eI .i64 q),(5,eI .i64 q),(6,Ag row),(25,eI .i64 m)]) (fun ⟨m,hm⟩=>[(0,.cells 121 6 (P8 a.nx.length fun i l=>if i < q then Cy a i l else if i=q∧l < m then q else 0))]) 1 (fun ⟨m,hm⟩=>6 - m) (⟨0,by omega⟩) [0] (Di hΓ rfl rfl) (by (simp[cX,zC,hΓ,JI])) ?_;rintro⟨m,hm⟩;(try dsimp only)
  (repeat first|refine s2 rfl fun _ _hb=>?_ |refine aU rfl ?_ |refine Aa ?_)
  (refine aC rfl ?_ ?_<;>rintro⟨⟩)
  ·have hm6:m < 6:=by (simp only[oZ] at *;omega)
   have hmj:0+((m:Nat):Int).toNat*1+1≤6:=by omega
   have hg:=Zf (H:=fun i l=>if i < q then Cy a i l else if i=q∧l < m then q else 0) hqn
   have hs:=Zg (n:=a.nx.length) (q:=q) (v:=q) (H:=fun i l=>if i < q then Cy a i l else if i=q∧l < m then q else 0) hm6
   have hc:(P8 a.nx.length fun (i x:Nat)=>if i=q∧x=m then (q:Int) else (fun (i l:Nat)=>if i < q then Cy a i l else if i=q∧l < m then (q:Int) else 0) i x)=P8 a.nx.length fun i l=>if i < q then Cy a i l else if i=q∧l < m+1 then (q:Int) else 0:=HV fun i _ l _=>by dsimp only;grind
   refine aK ?_
   refine aS (aB ?_)
   (repeat first|(refine sM rfl ?_ ?_;first|exact tI|omega) |refine aU rfl ?_ |refine Aa ?_)
   (refine Ai rfl ?_;refine HP ?_ rfl (by rfl);refine Eg rfl rfl rfl rfl (hg) rfl (hmj) ?_)
   (repeat first|(refine sM rfl ?_ ?_;first|exact tI|omega) |refine aU rfl ?_ |refine Aa ?_)
   refine⟨⟨m+1,by omega⟩,by dsimp only;(omega),[0],?_⟩
   rw [hs,hc]
   simp[cX,zC,hΓ,JI]
  ·obtain rfl:m=6:=by (simp only[oZ] at *;omega)
   have hc0:=HV (n:=a.nx.length) (H:=fun i l=>if i < q then Cy a i l else if i=q∧l < 6 then (q:Int) else 0) (H':=fun i l=>if i < q then Cy a i l else if i=q then (if (l:Int)∈(Ac a.al).take 0 then Cy a q l else (q:Int)) else 0) fun i _ l hl=>by simp [hl]
   rw [hc0]
   refine aE ?_
   (repeat first|refine sN rfl ?_ |refine tM rfl ?_ |refine aU rfl ?_ |refine Aa ?_)
   refine aB ?_
   refine Au.AP (α:={k:Nat // k≤(Ac a.al).length}) (fun ⟨k,hk⟩=>[(1,.o (.ip (Bh a))),(3,.o (.arr 0 6 0 a.nx.length)),(4,Ag (Ac a.al)),(18,Cm a.nx),(19,eI .i64 a.nx.length),(20,eI .i64 q),(5,eI .i64 q),(6,Ag row),(35,Ag (Ac a.al)),(36,eI .i64 (Ac a.al).length),(37,eI .i64 k)]) (fun ⟨k,hk⟩=>[(0,.cells 121 6 (P8 a.nx.length fun i l=>if i < q then Cy a i l else if i=q then (if (l:Int)∈(Ac a.al).take k then Cy a q l else (q:Int)) else 0))]) 1 (fun ⟨k,hk⟩=>(Ac a.al).length - k) (⟨0,by omega⟩) [0] (Di hΓ rfl rfl) (by (simp[cX,zC,hΓ,JI])) ?_;rintro⟨k,hk⟩;(try dsimp only)
   (repeat first|refine s2 rfl fun _ _hb=>?_ |refine aU rfl ?_ |refine Aa ?_)
   (refine aC rfl ?_ ?_<;>rintro⟨⟩)
   ·obtain⟨l,hl⟩:=get_some (l:=Ac a.al) (k:=k) (by (simp only[oZ] at *;omega))
    have hl':=get_map (g:=Bm) hl
    have hlb:=Ak (List.mem_of_getElem? hl)
    have hpl:=JX hl
    obtain⟨y,hy⟩:=get_some (l:=row) (k:=k) (by (simp only[oZ] at *;omega))
    have hy':=get_map (g:=Bm) hy
    obtain⟨m,rfl⟩:∃m:Nat,l=m:=⟨l.toNat,by omega⟩
    have hgo:Cy a q m=y:=by
     unfold Cy
     rw [if_pos hlb.2.2,hpl];simp [List.getD,hr,hy]
    have hm6:m < 6:=by omega
    have hmj:0+((m:Nat):Int).toNat*1+1≤6:=by omega
    have hg:=Zf (H:=fun i l=>if i < q then Cy a i l else if i=q then (if (l:Int)∈(Ac a.al).take k then Cy a q l else (q:Int)) else 0) hqn
    have hs:=Zg (n:=a.nx.length) (q:=q) (v:=y) (H:=fun i l=>if i < q then Cy a i l else if i=q then (if (l:Int)∈(Ac a.al).take k then Cy a q l else (q:Int)) else 0) hm6
    have hc:(P8 a.nx.length fun (i x:Nat)=>if i=q∧x=m then y else (fun (i l:Nat)=>if i < q then Cy a i l else if i=q then (if (l:Int)∈(Ac a.al).take k then Cy a q l else (q:Int)) else 0) i x)=P8 a.nx.length fun i l=>if i < q then Cy a i l else if i=q then (if (l:Int)∈(Ac a.al).take (k+1) then Cy a q l else (q:Int)) else 0:=HV fun i _ l _=>by
     try dsimp only
     rw [List.take_add_one,hl]
     by_cases e:i=q
     ·subst e
      by_cases e2:l=m
      ·subst e2;simp [hgo]
      ·have e3:¬(l:Int)=(m:Int):=by omega
       simp [e2,e3]
     ·simp [e]
    refine aK ?_
    refine aS (aB ?_)
    (repeat first|refine tM rfl ?_ |(refine s4 rfl ‹_› rfl ?_ ?_;omega) |refine aU rfl ?_ |refine Aa ?_)
    refine rG (IZ [9]) (by kernel_rfl) ?_
    (repeat first|(refine sM rfl ?_ ?_;first|exact tI|omega) |(refine s4 rfl ‹_› rfl ?_ ?_;omega))
    (refine Ai rfl ?_;refine HP ?_ rfl (by rfl);refine Eg rfl rfl rfl rfl (hg) rfl (hmj) ?_)
    (repeat first|(refine sM rfl ?_ ?_;first|exact tI|omega) |refine aU rfl ?_ |refine Aa ?_)
    refine⟨⟨k+1,by (simp only[oZ] at *;omega)⟩,by dsimp only;((simp only[oZ] at *;omega)),[0],?_⟩
    rw [hs,hc]
    simp[cX,zC,hΓ,JI]
   ·obtain rfl:k=(Ac a.al).length:=by (simp only[oZ] at *;omega)
    have hc0:=HV (n:=a.nx.length) (H:=fun i l=>if i < q then Cy a i l else if i=q then (if (l:Int)∈(Ac a.al).take (Ac a.al).length then Cy a q l else (q:Int)) else 0) (H':=fun i l=>if i < q+1 then Cy a i l else 0) fun i _ l hl=>by
     try dsimp only
     rw [List.take_length]
     by_cases e:i=q
     ·subst e
      simp only [Nat.lt_irrefl,if_false,if_true,Nat.lt_succ_self]
      by_cases e2:A0 a.al l=true
      ·rw [if_pos (D0.2 ⟨hl,e2⟩)]
      ·rw [if_neg (fun h=>e2 (D0.1 h).2)];unfold Cy;rw [if_neg (by simpa using e2)]
     ·by_cases e2:i < q
      ·rw [if_pos e2,if_pos (by omega)]
      ·rw [if_neg e2,if_neg e,if_neg (by omega)]
    rw [hc0]
    refine aE ?_
    (repeat first|(refine sM rfl ?_ ?_;first|exact tI|omega) |refine aU rfl ?_ |refine Aa ?_)
    refine⟨⟨q+1,by omega⟩,by dsimp only;(omega),[0],?_⟩
    simp[cX,zC,hΓ,JI]
 ·obtain rfl:q=a.nx.length:=by (simp only[oZ] at *;omega)
  have hc:=HV (n:=a.nx.length) (H:=fun i l=>if i < a.nx.length then Cy a i l else 0) (H':=fun i l=>Cy a i l) fun i hi l _=>by rw [if_pos hi]
  rw [hc]
  refine aE ?_
  (repeat first|refine tM rfl ?_ |refine aU rfl ?_ |refine Aa ?_)
  refine Au.freeze [0] [(2,.o (.d (.l (GV a))))] ⟨⟨_,rfl,.o (.full (by simp) rfl (lu a) (by simp [gr]))⟩,trivial⟩ ?_
  refine aR ⟨_,rfl,rfl⟩
theorem Fj(a:AU)(h:AN a=true):Pure Tryz.prog TB 76 [Bp a] (.o (.d (.l (GV a)))):=Vz a (XT h)
abbrev SJ(s:Sys):List D:=[.p (FB s.es)]
abbrev fv(s:Sys):List C:=[.d (.p (FB s.es))]
abbrev Wv(l:List Sys):E:=.a [.d (Jm l),.d (.l (l.map SJ))]
abbrev GN(l:List Sys):List D:=[Jm l,.l (l.map SJ)]
theorem Nl(l:List Sys)(h:∀s∈l,AR s=true)(hl:l.length≤3):Pure Tryz.prog TB 159 [Gx l] (Wv l):=by
 refine Spec.lN 2 205 2 [1] Tryz.func159 rfl (by kernel_rfl) rfl (Nat.le_of_ble_eq_true rfl) ?_;intro Γ hΓ
 (repeat first |refine sN rfl ?_ |((first|refine sM rfl ?_ ?_|refine s4 rfl ‹_› rfl ?_ ?_);first|exact tI|omega|simp only[oZ] at *;omega) |refine s2 rfl fun _ _hb=>?_ |refine s3 rfl ?_ ?_<;>rintro rfl |refine aU rfl ?_ |refine Aa ?_)
 (refine pW rfl ?_ rfl (by rfl);refine Pa 1 1 190 rfl rfl rfl (by rfl) (by rfl) ?_)
 (repeat first |refine sN rfl ?_ |((first|refine sM rfl ?_ ?_|refine s4 rfl ‹_› rfl ?_ ?_);first|exact tI|omega|simp only[oZ] at *;omega) |refine s2 rfl fun _ _hb=>?_ |refine s3 rfl ?_ ?_<;>rintro rfl |refine aU rfl ?_ |refine Aa ?_)
 refine aB ?_
 refine Au.AP (α:={k:Nat // k≤l.length}) (fun ⟨k,hk⟩=>[(2,.o (.ptr 0 2 0 0)),(3,.o (.ptr 2 2 0 0)),(8,Gx l),(9,eI .i64 l.length),(10,eI .i64 k)]) (fun ⟨k,hk⟩=>[(0,.cells 205 2 [[.d (.l []),.d (.l [])]]),(1,.cells 190 1 ((l.take k).map fv)),(2,.cells 205 2 [[.d (Jm l),.arr 1 1 0 k]])]) 3 (fun ⟨k,hk⟩=>l.length - k) (⟨0,by omega⟩) [0,1,2] (Di hΓ rfl rfl) (by ((repeat' first|exact tI|rfl|refine And.intro ?_ ?_)<;>(simp[cX,zC,hΓ,List.set_cons_zero,Af,eC]))) ?_;rintro⟨k,hk⟩;(try dsimp only)
 (repeat first |refine sN rfl ?_ |((first|refine sM rfl ?_ ?_|refine s4 rfl ‹_› rfl ?_ ?_);first|exact tI|omega|simp only[oZ] at *;omega) |refine s2 rfl fun _ _hb=>?_ |refine s3 rfl ?_ ?_<;>rintro rfl |refine aU rfl ?_ |refine Aa ?_ |refine rE (by kernel_rfl) ?_)
 (refine aC rfl ?_ ?_<;>rintro⟨⟩)
 ·obtain⟨x,hx⟩:=get_some (l:=l) (k:=k) (by first|omega|simp only[oZ] at *;omega)
  have hx':=get_map (g:=CE) hx
  have hxo:=h x (List.mem_of_getElem? hx)
  refine aK ?_
  refine aS (aB ?_)
  (repeat first |refine sN rfl ?_ |((first|refine sA rfl ?_ ?_|refine s4 rfl ‹_› rfl ?_ ?_);first|exact tI|omega|simp only[oZ] at *;omega) |refine s2 rfl fun _ _hb=>?_ |refine s3 rfl ?_ ?_<;>rintro rfl |refine aU rfl ?_ |refine Aa ?_)
  refine rG (IZ [5,7]) (by kernel_rfl) ?_
  (repeat first |refine sN rfl ?_ |((first|refine sA rfl ?_ ?_|refine s4 rfl ‹_› rfl ?_ ?_);first|exact tI|omega|simp only[oZ] at *;omega) |refine s2 rfl fun _ _hb=>?_ |refine sP rfl (O9 x hxo) rfl ?_ |refine s3 rfl ?_ ?_<;>rintro rfl |refine aU rfl ?_ |refine Aa ?_ |refine rE (by kernel_rfl) ?_)
  (refine pW rfl ?_ rfl (by rfl);refine AH rfl rfl rfl (by first|(simp;done)|(simp;(first|omega|simp only[oZ] at *;omega))) rfl (by intro r hr;simp at hr;subst hr;rfl) (by rfl) (Nat.le_of_ble_eq_true rfl) (by simp;first|omega|simp only[oZ] at *;omega) ?_)
  (repeat first |refine sN rfl ?_ |((first|refine sX rfl ?_ ?_|refine s4 rfl ‹_› rfl ?_ ?_);first|exact tI|omega|simp only[oZ] at *;omega) |refine s2 rfl fun _ _hb=>?_ |refine s3 rfl ?_ ?_<;>rintro rfl |refine aU rfl ?_ |refine Aa ?_ |refine rE (by kernel_rfl) ?_)
  refine⟨⟨k+1,by first|omega|simp only[oZ] at *;omega⟩,by dsimp only;(first|omega|simp only[oZ] at *;omega),[0,4,2],?_⟩
  simp[cX,zC,hΓ,List.take_add_one,hx,Af,eC]
 ·obtain rfl:k=l.length:=by first|omega|simp only[oZ] at *;omega
  refine aE ?_
  (repeat first |refine sN rfl ?_ |((first|refine sM rfl ?_ ?_|refine s4 rfl ‹_› rfl ?_ ?_);first|exact tI|omega|simp only[oZ] at *;omega) |refine s2 rfl fun _ _hb=>?_ |refine s3 rfl ?_ ?_<;>rintro rfl |refine aU rfl ?_ |refine Aa ?_ |refine rE (by kernel_rfl) ?_)
  rw [List.take_length]
  refine aR ⟨⟨0,2,0,205,_,[.d (Jm l),.arr 1 1 0 l.length],_,rfl,rfl,rfl,.cons .AE (.cons (.full (by simp) rfl (by simp [Function.comp_def]) (by simp)) .nil),rfl⟩,?_⟩
  intro id k i h
  injection h with h;injection h with h;injection h with _ h;exact h.symm
theorem Y7(l:List Sys)(h:∀s∈l,AR s=true)(hl:l.length≤3):Pure Tryz.prog TB 164 [Wv l] (eI .i64 (Av (l.map (·.st)))):=by
 have hpos:∀z∈l.map (·.st),1≤z∧z≤16:=by
  intro z hz
  obtain⟨s,hs,rfl⟩:=List.mem_map.1 hz
  have:=AM (h s hs)
  omega
 refine eN Tryz.func164 rfl (by kernel_rfl) rfl ?_;intro Γ hΓ
 (repeat first |refine sN rfl ?_ |((first|refine sM rfl ?_ ?_|refine s4 rfl ‹_› rfl ?_ ?_);first|exact tI|omega|simp only[oZ] at *;omega) |refine s2 rfl fun _ _hb=>?_ |refine s3 rfl ?_ ?_<;>rintro rfl |refine aU rfl ?_ |refine Aa ?_ |refine rE (by kernel_rfl) ?_)
 (refine Ai rfl ?_;refine Bs (fun _ _=>C0 rfl rfl rfl) rfl ?_)
 (repeat first |refine sN rfl ?_ |((first|refine sM rfl ?_ ?_|refine s4 rfl ‹_› rfl ?_ ?_);first|exact tI|omega|simp only[oZ] at *;omega) |refine s2 rfl fun _ _hb=>?_ |refine s3 rfl ?_ ?_<;>rintro rfl |refine aU rfl ?_ |refine Aa ?_ |refine rE (by kernel_rfl) ?_)
 refine aB ?_
 refine Au.AP (α:={k:Nat // k≤l.length}) (fun ⟨k,hk⟩=>[(3,eI .i64 (Av ((l.map (·.st)).take k))),(7,Gx l),(8,eI .i64 l.length),(9,eI .i64 k)]) (fun ⟨k,hk⟩=>[]) 0 (fun ⟨k,hk⟩=>l.length - k) (⟨0,by omega⟩) [] (Di hΓ rfl rfl) (by ((repeat' first|exact tI|rfl|refine And.intro ?_ ?_)<;>(simp[cX,zC,hΓ,Av]))) ?_;rintro⟨k,hk⟩;(try dsimp only)
 (repeat first |refine sN rfl ?_ |((first|refine sM rfl ?_ ?_|refine s4 rfl ‹_› rfl ?_ ?_);first|exact tI|omega|simp only[oZ] at *;omega) |refine s2 rfl fun _ _hb=>?_ |refine s3 rfl ?_ ?_<;>rintro rfl |refine aU rfl ?_ |refine Aa ?_ |refine rE (by kernel_rfl) ?_)
 (refine aC rfl ?_ ?_<;>rintro⟨⟩)
 ·obtain⟨x,hx⟩:=get_some (l:=l) (k:=k) (by first|omega|simp only[oZ] at *;omega)
  have hx':=get_map (g:=CE) hx
  have hxo:=hpos x.st (List.mem_map.2 ⟨x,List.mem_of_getElem? hx,rfl⟩)
  have hz:(l.map (·.st))[k]? = some x.st:=by simp [hx]
  have h1:=Kp hz
  have h2:=HQ ((l.map (·.st)).take (k+1)) fun z hz=>hpos z (List.mem_of_mem_take hz)
  have h3:(16:Int) ^ ((l.map (·.st)).take (k+1)).length≤4096:=by
   have:((l.map (·.st)).take (k+1)).length≤3:=by simp;omega
   generalize ((l.map (·.st)).take (k+1)).length=n at this
   have:n=0∨n=1∨n=2∨n=3:=by omega
   rcases this with rfl|rfl|rfl|rfl<;>decide
  rw [h1] at h2
  refine aK ?_
  refine aS (aB ?_)
  (repeat first |refine sN rfl ?_ |((first|refine sA rfl ?_ ?_|refine s4 rfl ‹_› rfl ?_ ?_);first|exact tI|omega|simp only[oZ] at *;omega) |refine s2 rfl fun _ _hb=>?_ |refine s3 rfl ?_ ?_<;>rintro rfl |refine aU rfl ?_ |refine Aa ?_ |refine rE (by kernel_rfl) ?_)
  refine⟨⟨k+1,by first|omega|simp only[oZ] at *;omega⟩,by dsimp only;(first|omega|simp only[oZ] at *;omega),[],?_⟩
  simp[cX,zC,hΓ,h1]
 ·obtain rfl:k=l.length:=by first|omega|simp only[oZ] at *;omega
  refine aE ?_
  (repeat first |refine sN rfl ?_ |((first|refine sM rfl ?_ ?_|refine s4 rfl ‹_› rfl ?_ ?_);first|exact tI|omega|simp only[oZ] at *;omega) |refine s2 rfl fun _ _hb=>?_ |refine s3 rfl ?_ ?_<;>rintro rfl |refine aU rfl ?_ |refine Aa ?_ |refine rE (by kernel_rfl) ?_)
  rw [List.take_of_length_le (by simp)]
  refine aR ⟨_,rfl,rfl⟩
end Go.Am
