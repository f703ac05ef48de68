/-
  Automata and systems are valid.
-/
import Derived.Test.YtliafogflkcnbaaGreatDoorPart9
set_option linter.constructorNameAsVariable false
set_option linter.unusedSectionVars false
set_option linter.unusedSimpArgs false
set_option linter.unusedVariables false
namespace Go.Am
open Go Go.Proofs
set_option maxHeartbeats 1000000
attribute [local irreducible] AY B2 Lex Bq Ak Spec
variable {TB:Bu}
theorem Ar{a:AN}(h:Ay a=true):BW a.al=true∧1≤a.nx.length∧a.nx.length≤12∧a.ac.length=a.nx.length:=by
 unfold Ay at h;grind
theorem A6(a:AN):Pure Tryz.prog TB 109 [AT a] (eB (Ay a)):=by
 refine eN Tryz.func109 rfl (by kernel_rfl) rfl ?_;intro Γ hΓ
 (repeat' first|refine sN rfl ?_ |refine tA rfl ?_ |refine s2 rfl fun _ _hb=>?_ |(refine sC rfl (EX _) ?_;intro _ _hb) |refine s3 rfl ?_ ?_<;>rintro rfl |refine aU rfl ?_ |refine Aa ?_|(refine aC rfl ?_ ?_<;>rintro⟨⟩)|refine aK ?_|refine aE ?_|refine aB ?_|refine aR ⟨_,rfl,?_⟩)
 all_goals try (show E.o _=E.o _;congr;unfold Ay;(try simp only [List.length_map] at *);grind)
 refine Ak.bound 1 rfl fun hB=>?_
 have hB:=hB (a.nx.map C1) (.p (j:=1) rfl .refl)
 refine Ak.AZ (α:={k:Nat // k≤a.nx.length∧(a.nx.take k).all (DU (Ac a.al).length a.nx.length)=true}) (fun ⟨k,hk,ha⟩=>[(1,.o (.ip (Bn a))),(3,eI .i64 a.nx.length),(4,eI .i64 k)]) (fun ⟨k,hk,ha⟩=>[]) 0 (fun ⟨k,hk,ha⟩=>a.nx.length - k) (⟨0,by omega,rfl⟩) [] (DB hΓ rfl rfl) (by (simp[cX,zC,hΓ])) ?_;rintro⟨k,hk,ha⟩;(try dsimp only)
 (repeat first|refine tA rfl ?_ |refine s2 rfl fun _ _hb=>?_ |refine aU rfl ?_ |refine Aa ?_)
 (refine aC rfl ?_ ?_<;>rintro⟨⟩)
 ·obtain⟨x,hx⟩:=get_some (l:=a.nx) (k:=k) (by (simp only[oZ] at *;omega))
  have hx':=get_map (g:=C1) hx
  (repeat' first|refine sN rfl ?_ |(refine sA rfl ?_ ?_;first|exact tI|simp only[oZ] at *;omega) |(refine s4 rfl ‹_› rfl ?_ ?_;omega) |refine s2 rfl fun _ _hb=>?_ |refine sP rfl (Cg _) rfl ?_|(refine sC rfl (Vl _ _ _) ?_;intro _ _hb) |refine aU rfl ?_ |refine Aa ?_ |refine rE (by kernel_rfl) ?_|(refine aC rfl ?_ ?_<;>rintro⟨⟩)|refine aK ?_|refine aE ?_|refine aB ?_|refine aR ⟨_,rfl,?_⟩)
  all_goals first
   | (have h1:=GX (f:=DU (Ac a.al).length a.nx.length) hx (by grind);(show E.o _=E.o _;congr;unfold Ay;(try simp only [List.length_map] at *);grind);done)
   | (refine⟨⟨k+1,by (simp only[oZ] at *;omega),E9 hx ha (by grind)⟩,by dsimp only;((simp only[oZ] at *;omega)),[],?_⟩;simp[cX,zC,hΓ];done)
 ·(repeat' first|refine tA rfl ?_ |refine aU rfl ?_ |refine Aa ?_|(refine aC rfl ?_ ?_<;>rintro⟨⟩)|refine aK ?_|refine aE ?_|refine aB ?_|refine aR ⟨_,rfl,?_⟩)
  show E.o _=E.o _;congr
  have h1:=E8 ha (by (simp only[oZ] at *;omega))
  unfold Ay;simp only [List.length_map] at *;grind
def FF:List Int→Int
 | []=>0
 | x::l=>if x≠0 then x else FF l
theorem CA{α:Type}{l:List α}{k:Nat}{x:α}(h:l[k]? = some x):l.drop k=x::l.drop (k+1):=by
 obtain⟨h1,rfl⟩:=List.getElem?_eq_some_iff.1 h
 exact List.drop_eq_getElem_cons h1
theorem UI(l:List Int):Pure Tryz.prog TB 265 [Ai l] (eI .i64 (FF l)):=by
 refine eN Tryz.func265 rfl (by kernel_rfl) rfl ?_;intro Γ hΓ
 refine Ak.bound 0 rfl fun hB=>?_
 have hB:=hB (l.map Bk) .refl
 (repeat' first|refine sN rfl ?_ |refine tA rfl ?_ |refine aU rfl ?_ |refine Aa ?_|(refine aC rfl ?_ ?_<;>rintro⟨⟩)|refine aK ?_|refine aE ?_|refine aB ?_|refine aR ⟨_,rfl,?_⟩)
 refine Ak.AZ (α:={k:Nat // k≤l.length∧FF l=FF (l.drop k)}) (fun ⟨k,hk,ha⟩=>[(3,eI .i64 0),(6,Ai l),(7,eI .i64 l.length),(8,eI .i64 k)]) (fun ⟨k,hk,ha⟩=>[]) 0 (fun ⟨k,hk,ha⟩=>l.length - k) (⟨0,by omega,rfl⟩) [] (DB hΓ rfl rfl) (by (simp[cX,zC,hΓ])) ?_;rintro⟨k,hk,ha⟩;(try dsimp only)
 (repeat first|refine s2 rfl fun _ _hb=>?_ |refine aU rfl ?_ |refine Aa ?_)
 (refine aC rfl ?_ ?_<;>rintro⟨⟩)
 ·obtain⟨x,hx⟩:=get_some (l:=l) (k:=k) (by (simp only[oZ] at *;omega))
  have hx':=get_map (g:=Bk) hx
  rw [CA hx,FF] at ha
  (repeat' first|(refine sA rfl ?_ ?_;first|exact tI|simp only[oZ] at *;omega) |(refine s4 rfl ‹_› rfl ?_ ?_;omega) |refine s2 rfl fun _ _hb=>?_ |refine aU rfl ?_ |refine Aa ?_|(refine aC rfl ?_ ?_<;>rintro⟨⟩)|refine aK ?_|refine aE ?_|refine aB ?_|refine aR ⟨_,rfl,?_⟩)
  ·rw [if_pos (by grind)] at ha
   rw [ha]
  ·rw [if_neg (by grind)] at ha
   refine⟨⟨k+1,by (simp only[oZ] at *;omega),ha⟩,by dsimp only;((simp only[oZ] at *;omega)),[],?_⟩
   simp[cX,zC,hΓ]
 ·(repeat' first|refine tA rfl ?_ |refine aU rfl ?_ |refine Aa ?_|(refine aC rfl ?_ ?_<;>rintro⟨⟩)|refine aK ?_|refine aE ?_|refine aB ?_|refine aR ⟨_,rfl,?_⟩)
  rw [ha,List.drop_of_length_le (by (simp only[oZ] at *;omega))];rfl
def YP(e f:JH):Int:=FF [NH e.f f.f,NH e.l f.l,NH e.t f.t]
theorem UH(e f:JH):(0≤YP e f)=(Jb e f=false):=by
 unfold YP Jb;simp only [FF,NH];grind
theorem Kh(e f:JH):Pure Tryz.prog TB 244 [aY e,aY f] (eI .i64 (YP e f)):=by
 refine eN Tryz.func244 rfl (by kernel_rfl) rfl ?_;intro Γ hΓ
 (repeat' first|refine tA rfl ?_ |refine sP rfl (Mk _ _) rfl ?_|refine sP rfl (UI [NH e.f f.f,NH e.l f.l,NH e.t f.t]) rfl ?_ |refine aU rfl ?_ |refine Aa ?_ |refine rE (by kernel_rfl) ?_|(refine aC rfl ?_ ?_<;>rintro⟨⟩)|refine aK ?_|refine aE ?_|refine aB ?_|refine aR ⟨_,rfl,?_⟩)
 rfl
theorem SM{s:Sys}{e:JH}(h:s.es[0]? = some e):Hw s 0=FB s.al s.st e:=by
 unfold Hw;rw [h];simp
theorem Oh{s:Sys}{k:Nat}{e p:JH}(h:s.es[k+1]? = some e)(hp:s.es[k]? = some p):Hw s (k+1)=(FB s.al s.st e && Jb p e):=by
 unfold Hw;rw [h];simp [hp]
theorem Ly{k:Nat}{f:Nat→Bool}(h:∀i,i < k→f i=true)(h1:f k=true):∀i,i < k+1→f i=true:=fun i hi=>by
 rcases Nat.lt_succ_iff_lt_or_eq.1 hi with h2|h2
 ·exact h i h2
 ·rw [h2];exact h1
theorem Nn{s:Sys}{k:Nat}(hk:k < s.es.length)(h:Hw s k=false):CU s=false:=by
 have h1:(List.range s.es.length).all (Hw s)=false:=by
  rw [List.all_eq_false];exact⟨k,List.mem_range.2 hk,by simp [h]⟩
 unfold CU;rw [h1];simp
theorem Rq{s:Sys}{k:Nat}(h0:BW s.al=true)(h1:1≤s.st∧s.st≤16)(hk:s.es.length≤k)(h:∀i,i < k→Hw s i=true):CU s=true:=by
 have h1:(List.range s.es.length).all (Hw s)=true:=by
  rw [List.all_eq_true];intro i hi;exact h i (by have:=List.mem_range.1 hi;omega)
 unfold CU;rw [h1];grind
theorem MM{s:Sys}{e:JH}:FB s.al s.st e=(decide (0≤e.f∧e.f < s.st) && decide (0≤e.t∧e.t < s.st) && decide (e.l < 6) && hasB s.al e.l):=by
 unfold FB hasB;grind
theorem Qs(s:Sys):Pure Tryz.prog TB 213 [YZ s] (eB (CU s)):=by
 refine eN Tryz.func213 rfl (by kernel_rfl) rfl ?_;intro Γ hΓ
 (repeat' first|refine sN rfl ?_ |refine tA rfl ?_ |refine s2 rfl fun _ _hb=>?_ |(refine sC rfl (Hq _) ?_;intro _ _hb) |refine s3 rfl ?_ ?_<;>rintro rfl |refine aU rfl ?_ |refine Aa ?_|(refine aC rfl ?_ ?_<;>rintro⟨⟩)|refine aK ?_|refine aE ?_|refine aB ?_|refine aR ⟨_,rfl,?_⟩)
 all_goals try (show E.o _=E.o _;congr;unfold CU;(try simp only [List.length_map] at *);grind)
 refine Ak.bound 1 rfl fun hB=>?_
 have hB:=hB (s.es.map JP) (.p (j:=2) rfl .refl)
 refine Ak.AZ (α:={k:Nat // k≤s.es.length∧∀i,i < k→Hw s i=true}) (fun ⟨k,hk,ha⟩=>[(1,.o (.ip (SL s))),(20,.o (.d (KZ s.es))),(21,eI .i64 s.es.length),(22,eI .i64 k)]) (fun ⟨k,hk,ha⟩=>[]) 0 (fun ⟨k,hk,ha⟩=>s.es.length - k) (⟨0,by omega,by omega⟩) [] (DB hΓ rfl rfl) (by (simp[cX,zC,hΓ])) ?_;rintro⟨k,hk,ha⟩;(try dsimp only)
 (repeat first|refine s2 rfl fun _ _hb=>?_ |refine aU rfl ?_ |refine Aa ?_)
 (refine aC rfl ?_ ?_<;>rintro⟨⟩)
 ·obtain⟨e,hx⟩:=get_some (l:=s.es) (k:=k) (by (simp only[oZ] at *;omega))
  have hx':=get_map (g:=JP) hx
  cases k with
  | zero=>
   have h1:=SM hx
   rw [MM] at h1
   (repeat' first|(refine sA rfl ?_ ?_;first|exact tI|omega) |(refine s4 rfl ‹_› rfl ?_ ?_;first|omega|simp only[oZ] at *;omega) |refine s2 rfl fun _ _hb=>?_ |(refine sC rfl (K7 s _) ?_;intro _ _hb)|(refine sC rfl (Qo _ _) ?_;intro _ _hb) |refine s3 rfl ?_ ?_<;>rintro rfl |refine aU rfl ?_ |refine Aa ?_ |refine rE (by kernel_rfl) ?_|(refine aC rfl ?_ ?_<;>rintro⟨⟩)|refine aK ?_|refine aE ?_|refine aB ?_|refine aR ⟨_,rfl,?_⟩)
   all_goals first
    | (exfalso;(simp only[oZ] at *;omega);done)
    | (have h2:=Nn (s:=s) (k:=0) (by (simp only[oZ] at *;omega)) (by grind);show E.o _=E.o _;congr;exact h2.symm;done)
    | (refine⟨⟨0+1,by (simp only[oZ] at *;omega),Ly ha (by grind)⟩,by dsimp only;((simp only[oZ] at *;omega)),[],?_⟩;simp[cX,zC,hΓ];done)
  | succ k=>
   obtain⟨p,hp⟩:=get_some (l:=s.es) (k:=k) (by omega)
   have hp':(s.es.map JP)[(((k+1:Nat):Int) - 1).toNat]? = some (JP p):=by simp [hp]
   have h1:=Oh hx hp
   have h3:=UH p e
   rw [MM] at h1
   (repeat' first|(refine sA rfl ?_ ?_;first|exact tI|simp only[oZ] at *;omega) |(refine s4 rfl ‹_› rfl ?_ ?_;omega) |refine s2 rfl fun _ _hb=>?_ |(refine sC rfl (K7 s _) ?_;intro _ _hb)|(refine sC rfl (Qo _ _) ?_;intro _ _hb)|refine sP rfl (Kh p e) rfl ?_ |refine s3 rfl ?_ ?_<;>rintro rfl |refine aU rfl ?_ |refine Aa ?_ |refine rE (by kernel_rfl) ?_|(refine aC rfl ?_ ?_<;>rintro⟨⟩)|refine aK ?_|refine aE ?_|refine aB ?_|refine aR ⟨_,rfl,?_⟩)
   all_goals first
    | (exfalso;(simp only[oZ] at *;omega);done)
    | (have h2:=Nn (s:=s) (k:=k+1) (by (simp only[oZ] at *;omega)) (by grind);show E.o _=E.o _;congr;exact h2.symm;done)
    | (refine⟨⟨k+1+1,by (simp only[oZ] at *;omega),Ly ha (by grind)⟩,by dsimp only;((simp only[oZ] at *;omega)),[],?_⟩;simp[cX,zC,hΓ];done)
 ·(repeat' first|refine tA rfl ?_ |refine aU rfl ?_ |refine Aa ?_|(refine aC rfl ?_ ?_<;>rintro⟨⟩)|refine aK ?_|refine aE ?_|refine aB ?_|refine aR ⟨_,rfl,?_⟩)
  have h2:=Rq (s:=s) (by grind) (by grind) (by (simp only[oZ] at *;omega)) ha
  show E.o _=E.o _;congr;exact h2.symm
theorem MG{a:AN}{k:Nat}{x:List Int}(hx:a.nx[k]? = some x)(h:DU (Ac a.al).length a.nx.length x=false):Ay a=false:=by
 have h1:=GX (f:=DU (Ac a.al).length a.nx.length) hx h
 unfold Ay;rw [h1];simp
theorem Qe{a:AN}{k:Nat}(h0:BW a.al=true)(h1:1≤a.nx.length∧a.nx.length≤12)(h2:a.ac.length=a.nx.length)(hk:a.nx.length≤k)(h:(a.nx.take k).all (DU (Ac a.al).length a.nx.length)=true):Ay a=true:=by
 have h3:=E8 h hk
 unfold Ay;rw [h3];grind
theorem Bg(a:AN):Pure Tryz.prog TB 58 [AT a] (eB (Ay a)):=by
 refine eN Tryz.func58 rfl (by kernel_rfl) rfl ?_;intro Γ hΓ
 (repeat' first|refine sN rfl ?_ |refine tA rfl ?_ |refine s2 rfl fun _ _hb=>?_ |(refine sC rfl (Hq _) ?_;intro _ _hb)|refine sP rfl (CD _) rfl ?_ |refine s3 rfl ?_ ?_<;>rintro rfl |refine aU rfl ?_ |refine Aa ?_|(refine aC rfl ?_ ?_<;>rintro⟨⟩)|refine aK ?_|refine aE ?_|refine aB ?_|refine aR ⟨_,rfl,?_⟩)
 all_goals try (show E.o _=E.o _;congr;unfold Ay;(try simp only [List.length_map] at *);grind)
 refine Ak.bound 1 rfl fun hB=>?_
 have hB:=hB (a.nx.map C1) (.p (j:=1) rfl .refl)
 refine Ak.AZ (α:={k:Nat // k≤a.nx.length∧(a.nx.take k).all (DU (Ac a.al).length a.nx.length)=true}) (fun ⟨k,hk,ha⟩=>[(1,.o (.ip (Bn a))),(3,eI .i64 (Ac a.al).length),(38,Ds a.nx),(39,eI .i64 a.nx.length),(40,eI .i64 k)]) (fun ⟨k,hk,ha⟩=>[]) 0 (fun ⟨k,hk,ha⟩=>a.nx.length - k) (⟨0,by omega,rfl⟩) [] (DB hΓ rfl rfl) (by (simp[cX,zC,hΓ])) ?_;rintro⟨k,hk,ha⟩;(try dsimp only)
 (repeat first|refine s2 rfl fun _ _hb=>?_ |refine aU rfl ?_ |refine Aa ?_)
 (refine aC rfl ?_ ?_<;>rintro⟨⟩)
 ·obtain⟨x,hx⟩:=get_some (l:=a.nx) (k:=k) (by (simp only[oZ] at *;omega))
  have hx':=get_map (g:=C1) hx
  (repeat' first|refine sN rfl ?_ |refine tA rfl ?_ |(refine s4 rfl ‹_› rfl ?_ ?_;omega) |refine s2 rfl fun _ _hb=>?_ |refine aU rfl ?_ |refine Aa ?_|(refine aC rfl ?_ ?_<;>rintro⟨⟩)|refine aK ?_|refine aE ?_|refine aB ?_|refine aR ⟨_,rfl,?_⟩)
  ·have h2:=MG hx (by unfold DU;grind)
   show E.o _=E.o _;congr;exact h2.symm
  refine Ak.bound 5 rfl fun hB2=>?_
  have hB2:=hB2 (x.map Bk) .refl
  refine Ak.AZ (α:={j:Nat // j≤x.length∧(x.take j).all (Og a.nx.length)=true}) (fun ⟨j,hj,hc⟩=>[(1,.o (.ip (Bn a))),(3,eI .i64 (Ac a.al).length),(38,Ds a.nx),(39,eI .i64 a.nx.length),(40,eI .i64 k),(48,Ai x),(49,eI .i64 x.length),(50,eI .i64 j)]) (fun ⟨j,hj,hc⟩=>[]) 0 (fun ⟨j,hj,hc⟩=>x.length - j) (⟨0,by omega,rfl⟩) [] (DB hΓ rfl rfl) (by (simp[cX,zC,hΓ])) ?_;rintro⟨j,hj,hc⟩;(try dsimp only)
  (repeat first|refine s2 rfl fun _ _hb=>?_ |refine aU rfl ?_ |refine Aa ?_)
  (refine aC rfl ?_ ?_<;>rintro⟨⟩)
  ·obtain⟨y,hy⟩:=get_some (l:=x) (k:=j) (by (simp only[oZ] at *;omega))
   have hy':=get_map (g:=Bk) hy
   (repeat' first|refine sN rfl ?_ |(refine sA rfl ?_ ?_;first|exact tI|simp only[oZ] at *;omega) |(refine s4 rfl ‹_› rfl ?_ ?_;omega) |refine s2 rfl fun _ _hb=>?_ |refine s3 rfl ?_ ?_<;>rintro rfl |refine aU rfl ?_ |refine Aa ?_|(refine aC rfl ?_ ?_<;>rintro⟨⟩)|refine aK ?_|refine aE ?_|refine aB ?_|refine aR ⟨_,rfl,?_⟩)
   all_goals first
    | (have h2:=MG hx (by rw [DU,GX hy (by unfold Og;grind)];simp);show E.o _=E.o _;congr;exact h2.symm;done)
    | (refine⟨⟨j+1,by (simp only[oZ] at *;omega),E9 hy hc (by unfold Og;grind)⟩,by dsimp only;((simp only[oZ] at *;omega)),[],?_⟩;simp[cX,zC,hΓ];done)
  ·(repeat' first|(refine sA rfl ?_ ?_;first|exact tI|simp only[oZ] at *;omega) |refine aU rfl ?_ |refine Aa ?_|(refine aC rfl ?_ ?_<;>rintro⟨⟩)|refine aK ?_|refine aE ?_|refine aB ?_|refine aR ⟨_,rfl,?_⟩)
   have h3:=E8 hc (by (simp only[oZ] at *;omega))
   refine⟨⟨k+1,by (simp only[oZ] at *;omega),E9 hx ha (by rw [DU,h3];grind)⟩,by dsimp only;((simp only[oZ] at *;omega)),[],?_⟩
   simp[cX,zC,hΓ]
 ·(repeat' first|refine tA rfl ?_ |refine aU rfl ?_ |refine Aa ?_|(refine aC rfl ?_ ?_<;>rintro⟨⟩)|refine aK ?_|refine aE ?_|refine aB ?_|refine aR ⟨_,rfl,?_⟩)
  have h2:=Qe (a:=a) (by grind) (by grind) (by grind) (by (simp only[oZ] at *;omega)) ha
  show E.o _=E.o _;congr;exact h2.symm
def Bm(a:AN)(q:Nat)(l:Int):Int:=if ET a.al l.toNat then ((a.nx.getD q []).getD (Az a.al l.toNat).length 0) else q
theorem FG{s:Int}{l k:Nat}(hl:l < k)(hb:ET s l=true):(Az s l).length < (Az s k).length:=by
 induction k with
 | zero=>omega
 | succ k ih=>
  rw [B0,List.length_append]
  rcases Nat.lt_succ_iff_lt_or_eq.1 hl with h|h
  ·have:=ih h;omega
  ·subst h;rw [if_pos hb];simp
theorem GZ{a:AN}(h:Ay a=true){q:Nat}(hq:q < a.nx.length):∃row,a.nx[q]? = some row∧row.length=(Ac a.al).length∧∀(i:Nat) (x:Int),row[i]? = some x→0≤x∧x < a.nx.length:=by
 obtain⟨row,hr⟩:=get_some hq
 refine⟨row,hr,?_⟩
 unfold Ay at h
 rw [Bool.and_eq_true,List.all_eq_true] at h
 have h1:=h.2 row (List.mem_of_getElem? hr)
 unfold DU at h1
 rw [Bool.and_eq_true,List.all_eq_true] at h1
 refine⟨by grind,fun i x hx=>?_⟩
 have:=h1.2 x (List.mem_of_getElem? hx)
 unfold Og at this;grind
theorem Kv(a:AN)(h:Ay a=true)(q:Nat)(hq:q < a.nx.length)(l:Int)(h0:0≤l)(h1:l < 6):Pure Tryz.prog TB 82 [AT a,eI .i64 q,eI .i64 l] (eI .i64 (Bm a q l)):=by
 refine eN Tryz.func82 rfl (by kernel_rfl) rfl ?_;intro Γ hΓ
 obtain⟨row,hr,hl,hx⟩:=GZ h hq
 have hr':=get_map (g:=C1) hr
 by_cases hb:ET a.al l.toNat=true
 ·have hlt:(Az a.al l.toNat).length < row.length:=by rw [hl];exact FG (by omega) hb
  obtain⟨y,hy⟩:=get_some hlt
  have hy':=get_map (g:=Bk) hy
  (repeat' first|refine tA rfl ?_ |(refine s4 rfl ‹_› rfl ?_ ?_;omega) |refine s2 rfl fun _ _hb=>?_ |(refine sC rfl (Fh _ _ (by omega) (by omega)) ?_;intro _ _hb)|refine sP rfl (Qx _ _ (by omega) (by omega)) rfl ?_ |refine aU rfl ?_ |refine Aa ?_ |refine rE (by kernel_rfl) ?_|(refine aC rfl ?_ ?_<;>rintro⟨⟩)|refine aK ?_|refine aE ?_|refine aB ?_|refine aR ⟨_,rfl,?_⟩)
  all_goals first
   | (exfalso;grind;done)
   | (show E.o _=E.o _;congr;unfold Bm;rw [if_pos hb];simp [List.getD,hr,hy];done)
 ·(repeat' first|refine tA rfl ?_ |(refine s4 rfl ‹_› rfl ?_ ?_;omega) |refine s2 rfl fun _ _hb=>?_ |(refine sC rfl (Fh _ _ (by omega) (by omega)) ?_;intro _ _hb) |refine aU rfl ?_ |refine Aa ?_ |refine rE (by kernel_rfl) ?_|(refine aC rfl ?_ ?_<;>rintro⟨⟩)|refine aK ?_|refine aE ?_|refine aB ?_|refine aR ⟨_,rfl,?_⟩)
  all_goals first
   | (show E.o _=E.o _;congr;unfold Bm;rw [if_neg hb];done)
   | (exfalso;grind;done)
structure Net where
 ps:List Sys
 au:List AN
 st:List Int
 ls:Int
 kd:Int
 gl:Int
abbrev Kj(n:Net):List D:=[WK n.ps,Qd n.au,CO n.st,iD n.ls,iD n.kd,iD n.gl]
abbrev Jf(n:Net):E:=.a [.d (WK n.ps),.d (Qd n.au),.d (CO n.st),.d (iD n.ls),.d (iD n.kd),.d (iD n.gl)]
theorem Xx(l:List Int)(n:Int):Pure Tryz.prog TB 249 [Ai l,eI .i64 n] (eB (decide (n∈l))):=by
 refine eN Tryz.func249 rfl (by kernel_rfl) rfl ?_;intro Γ hΓ
 refine Ak.bound 0 rfl fun hB=>?_
 have hB:=hB (l.map Bk) .refl
 (repeat' first|refine tA rfl ?_ |refine aU rfl ?_ |refine Aa ?_|(refine aC rfl ?_ ?_<;>rintro⟨⟩)|refine aK ?_|refine aE ?_|refine aB ?_|refine aR ⟨_,rfl,?_⟩)
 refine Ak.AZ (α:={k:Nat // k≤l.length∧n∉l.take k}) (fun ⟨k,hk,ha⟩=>[(0,Ai l),(1,eI .i64 n),(5,eI .i64 k)]) (fun ⟨k,hk,ha⟩=>[]) 0 (fun ⟨k,hk,ha⟩=>l.length - k) (⟨0,by omega,by simp⟩) [] (DB hΓ rfl rfl) (by (simp[cX,zC,hΓ])) ?_;rintro⟨k,hk,ha⟩;(try dsimp only)
 (repeat first|refine sN rfl ?_ |refine tA rfl ?_ |refine s2 rfl fun _ _hb=>?_ |refine aU rfl ?_ |refine Aa ?_)
 (refine aC rfl ?_ ?_<;>rintro⟨⟩)
 ·obtain⟨x,hx⟩:=get_some (l:=l) (k:=k) (by (simp only[oZ] at *;omega))
  have hx':=get_map (g:=Bk) hx
  (repeat' first|(refine sA rfl ?_ ?_;first|exact tI|simp only[oZ] at *;omega) |(refine s4 rfl ‹_› rfl ?_ ?_;omega) |refine s2 rfl fun _ _hb=>?_ |refine aU rfl ?_ |refine Aa ?_|(refine aC rfl ?_ ?_<;>rintro⟨⟩)|refine aK ?_|refine aE ?_|refine aB ?_|refine aR ⟨_,rfl,?_⟩)
  ·have h1:=List.mem_of_getElem? hx
   show E.o _=E.o _;congr;grind
  ·refine⟨⟨k+1,by (simp only[oZ] at *;omega),by rw [List.take_add_one,hx];grind⟩,by dsimp only;((simp only[oZ] at *;omega)),[],?_⟩
   simp[cX,zC,hΓ]
 ·(repeat' first|refine tA rfl ?_ |refine aU rfl ?_ |refine Aa ?_|(refine aC rfl ?_ ?_<;>rintro⟨⟩)|refine aK ?_|refine aE ?_|refine aB ?_|refine aR ⟨_,rfl,?_⟩)
  rw [List.take_of_length_le (by (simp only[oZ] at *;omega))] at ha
  show E.o _=E.o _;congr;grind
def FD:List Int→List Int→Int→Int
 | z::zs,s::ss,n=>FD zs ss (n*z+s)
 | _,_,n=>n
theorem OD{α:Type}{l:List α}{f:α→Bool}{k:Nat}{x:α}(h:l[k]? = some x)(h1:(l.take k).any f=false)(h2:f x=false):(l.take (k+1)).any f=false:=by
 rw [List.take_add_one,h];simp [List.any_append,h1,h2]
theorem RN{α:Type}{l:List α}{f:α→Bool}{k:Nat}{x:α}(h:l[k]? = some x)(h2:f x=true):l.any f=true:=by
 rw [List.any_eq_true];exact⟨x,List.mem_of_getElem? h,h2⟩
theorem OC{α:Type}{l:List α}{f:α→Bool}{k:Nat}(h:(l.take k).any f=false)(hk:l.length≤k):l.any f=false:=by
 rwa [List.take_of_length_le hk] at h
def YM(dist:List Int)(d v:Int):Bool:=decide (dist.getD v.toNat 0=d)
def IC(mv:List (List Int))(dist:List Int)(d:Int):Bool:=mv.any fun r=>r.any (YM dist d)
def dX(n:Nat)(v:Int):Prop:=0≤v∧v < n
theorem TA(mv:List (List Int))(dist:List Int)(d:Int)(hin:∀r∈mv,∀v∈r,dX dist.length v):Pure Tryz.prog TB 248 [Ds mv,Ai dist,eI .i64 d] (eB (IC mv dist d)):=by
 refine eN Tryz.func248 rfl (by kernel_rfl) rfl ?_;intro Γ hΓ
 refine Ak.bound 0 rfl fun hB0=>?_
 have hB:=hB0 (mv.map C1) .refl
 (repeat' first|refine tA rfl ?_ |refine aU rfl ?_ |refine Aa ?_|(refine aC rfl ?_ ?_<;>rintro⟨⟩)|refine aK ?_|refine aE ?_|refine aB ?_|refine aR ⟨_,rfl,?_⟩)
 refine Ak.AZ (α:={k:Nat // k≤mv.length∧(mv.take k).any (fun r=>r.any (YM dist d))=false}) (fun ⟨k,hk,ha⟩=>[(0,Ds mv),(1,Ai dist),(2,eI .i64 d),(7,eI .i64 k)]) (fun ⟨k,hk,ha⟩=>[]) 0 (fun ⟨k,hk,ha⟩=>mv.length - k) (⟨0,by omega,by simp⟩) [] (DB hΓ rfl rfl) (by (simp[cX,zC,hΓ])) ?_;rintro⟨k,hk,ha⟩;(try dsimp only)
 (repeat first|refine sN rfl ?_ |refine tA rfl ?_ |refine s2 rfl fun _ _hb=>?_ |refine aU rfl ?_ |refine Aa ?_)
 (refine aC rfl ?_ ?_<;>rintro⟨⟩)
 ·obtain⟨x,hx⟩:=get_some (l:=mv) (k:=k) (by (simp only[oZ] at *;omega))
  have hx':=get_map (g:=C1) hx
  have hBx:=hB0 (x.map Bk) (.l (i:=k) (j:=0) (r:=C1 x) (by simp [hx]) rfl .refl)
  have hin:=hin x (List.mem_of_getElem? hx)
  (repeat' first|refine tA rfl ?_ |refine aU rfl ?_ |refine Aa ?_|(refine aC rfl ?_ ?_<;>rintro⟨⟩)|refine aK ?_|refine aE ?_|refine aB ?_|refine aR ⟨_,rfl,?_⟩)
  refine Ak.AZ (α:={j:Nat // j≤x.length∧(x.take j).any (YM dist d)=false}) (fun ⟨j,hj,hc⟩=>[(0,Ds mv),(1,Ai dist),(2,eI .i64 d),(7,eI .i64 k),(8,eI .i64 j)]) (fun ⟨j,hj,hc⟩=>[]) 0 (fun ⟨j,hj,hc⟩=>x.length - j) (⟨0,by omega,by simp⟩) [] (DB hΓ rfl rfl) (by (simp[cX,zC,hΓ])) ?_;rintro⟨j,hj,hc⟩;(try dsimp only)
  (repeat first|refine sN rfl ?_ |refine tA rfl ?_ |(refine s4 rfl ‹_› rfl ?_ ?_;omega) |refine s2 rfl fun _ _hb=>?_ |refine aU rfl ?_ |refine Aa ?_)
  (refine aC rfl ?_ ?_<;>rintro⟨⟩)
  ·obtain⟨y,hy⟩:=get_some (l:=x) (k:=j) (by (simp only[oZ] at *;omega))
   have hy':=get_map (g:=Bk) hy
   obtain⟨h1,h2⟩:=hin y (List.mem_of_getElem? hy)
   obtain⟨z,hz⟩:=get_some (l:=dist) (k:=y.toNat) (by omega)
   have hz':(dist.map Bk)[y.toNat]? = some (Bk z):=by simp [hz]
   have hat:YM dist d y=decide (z=d):=by simp [YM,hz]
   (repeat' first|(refine sA rfl ?_ ?_;first|exact tI|simp only[oZ] at *;omega) |(refine s4 rfl ‹_› rfl ?_ ?_;omega) |refine s2 rfl fun _ _hb=>?_ |refine aU rfl ?_ |refine Aa ?_|(refine aC rfl ?_ ?_<;>rintro⟨⟩)|refine aK ?_|refine aE ?_|refine aB ?_|refine aR ⟨_,rfl,?_⟩)
   all_goals first
    | (have h3:=RN hx (f:=fun r=>r.any (YM dist d)) (RN hy (by rw [hat];grind));show E.o _=E.o _;congr;unfold IC;rw [h3];done)
    | (refine⟨⟨j+1,by (simp only[oZ] at *;omega),OD hy hc (by rw [hat];grind)⟩,by dsimp only;((simp only[oZ] at *;omega)),[],?_⟩;simp[cX,zC,hΓ];done)
  ·(repeat' first|(refine sA rfl ?_ ?_;first|exact tI|simp only[oZ] at *;omega) |refine aU rfl ?_ |refine Aa ?_|(refine aC rfl ?_ ?_<;>rintro⟨⟩)|refine aK ?_|refine aE ?_|refine aB ?_|refine aR ⟨_,rfl,?_⟩)
   refine⟨⟨k+1,by (simp only[oZ] at *;omega),OD hx ha (OC hc (by (simp only[oZ] at *;omega)))⟩,by dsimp only;((simp only[oZ] at *;omega)),[],?_⟩
   simp[cX,zC,hΓ]
 ·(repeat' first|refine tA rfl ?_ |refine aU rfl ?_ |refine Aa ?_|(refine aC rfl ?_ ?_<;>rintro⟨⟩)|refine aK ?_|refine aE ?_|refine aB ?_|refine aR ⟨_,rfl,?_⟩)
  have h1:=OC ha (by (simp only[oZ] at *;omega))
  show E.o _=E.o _;congr;unfold IC;rw [h1]
end Go.Am
namespace Go.Am
open Go
inductive Fits:List Int→List Int→Prop
 | nil:Fits [] []
 | cons {z s:Int} {zs ss:List Int}:0≤s→s < z→Fits zs ss→Fits (z::zs) (s::ss)
def AJ:List Int→Int
 | []=>1
 | z::zs=>z*AJ zs
theorem Fits.len{zs ss:List Int}(h:Fits zs ss):zs.length=ss.length:=by
 induction h with
 | nil=>rfl
 | cons _ _ _ ih=>simp [ih]
theorem Fits.pos{zs ss:List Int}(h:Fits zs ss):1≤AJ zs:=by
 induction h with
 | nil=>simp [AJ]
 | @cons z s zs ss h0 h1 _ ih=>
  have:1*1≤z*AJ zs:=Int.mul_le_mul (by omega) ih (by omega) (by omega)
  simpa [AJ] using this
theorem Fits.enc{zs ss:List Int}(h:Fits zs ss):∀n:Int,0≤n→0≤FD zs ss n∧FD zs ss n < (n+1)*AJ zs:=by
 induction h with
 | nil=>intro n hn;simp [FD,AJ];omega
 | @cons z s zs ss h0 h1 h2 ih=>
  intro n hn
  have hz:0≤n*z:=Int.mul_nonneg hn (by omega)
  obtain⟨h3,h4⟩:=ih (n*z+s) (by omega)
  refine⟨h3,Int.lt_of_lt_of_le h4 ?_⟩
  rw [AJ,←Int.mul_assoc]
  refine Int.mul_le_mul_of_nonneg_right ?_ (by have:=h2.pos;omega)
  rw [Int.add_mul];omega
theorem Fits.take{zs ss:List Int}(h:Fits zs ss):∀k,Fits (zs.take k) (ss.take k)∧AJ (zs.take k)≤AJ zs:=by
 induction h with
 | nil=>intro k;simp;exact .nil
 | @cons z s zs ss h0 h1 h2 ih=>
  intro k
  cases k with
  | zero=>
   have:=(Fits.cons h0 h1 h2).pos
   exact⟨.nil,by simpa [AJ] using this⟩
  | succ k=>
   obtain⟨h3,h4⟩:=ih k
   exact⟨.cons h0 h1 h3,by simp only [List.take_succ_cons,AJ];exact Int.mul_le_mul_of_nonneg_left h4 (by omega)⟩
theorem Fits.get{zs ss:List Int}(h:Fits zs ss):∀(k:Nat) (z s:Int),zs[k]? = some z→ss[k]? = some s→0≤s∧s < z:=by
 induction h with
 | nil=>intro k z s hz;simp at hz
 | cons h0 h1 _ ih=>
  intro k z s hz hs
  cases k with
  | zero=>simp at hz hs;subst hz hs;exact⟨h0,h1⟩
  | succ k=>exact ih k z s (by simpa using hz) (by simpa using hs)
theorem MN:∀ {zs ss:List Int} {k:Nat} {z s:Int} (n:Int),zs[k]? = some z→ss[k]? = some s→FD (zs.take (k+1)) (ss.take (k+1)) n=FD (zs.take k) (ss.take k) n*z+s
 | [],_,k,z,s,n,hz,_=>by simp at hz
 | a::zs,[],k,z,s,n,_,hs=>by simp at hs
 | a::zs,b::ss,0,z,s,n,hz,hs=>by
  simp at hz hs;subst hz hs;simp [FD]
 | a::zs,b::ss,k+1,z,s,n,hz,hs=>by
  simp only [List.take_succ_cons,FD]
  exact MN _ (by simpa using hz) (by simpa using hs)
end Go.Am
namespace Go.Am
open Go Go.Proofs
set_option maxHeartbeats 1000000
attribute [local irreducible] AY B2 Lex Bq Ak Spec
variable {TB:Bu}
theorem Xy(n:Net)(st:List Int)(i:Nat)(a:AN)(q:Int)(b:Bool)(ha:n.au[i]? = some a)(hs:st[n.ps.length+i]? = some q)(h0:0≤q)(hb:a.ac[q.toNat]? = some b):Pure Tryz.prog TB 247 [Jf n,Ai st,eI .i64 i] (eB b):=by
 refine eN Tryz.func247 rfl (by kernel_rfl) rfl ?_;intro Γ hΓ
 refine Ak.bound 1 rfl fun hB0=>?_
 have hB:=hB0 (st.map Bk) .refl
 have h1:=(List.getElem?_eq_some_iff.1 hs).1
 have ha':=get_map (g:=Bn) ha
 have hs':(st.map Bk)[((n.ps.length:Int)+(i:Int)).toNat]? = some (Bk q):=by
  have:((n.ps.length:Int)+(i:Int)).toNat=n.ps.length+i:=by omega
  rw [this];simp [hs]
 have hb':(a.ac.map Fb)[q.toNat]? = some (Fb b):=by simp [hb]
 (repeat' first|refine sN rfl ?_ |(refine sA rfl ?_ ?_;first|exact tI|simp only[oZ] at *;omega) |(refine s4 rfl ‹_› rfl ?_ ?_;omega) |refine aU rfl ?_ |refine Aa ?_ |refine rE (by kernel_rfl) ?_|(refine aC rfl ?_ ?_<;>rintro⟨⟩)|refine aK ?_|refine aE ?_|refine aB ?_|refine aR ⟨_,rfl,?_⟩)
 rfl
theorem O6(zs ss:List Int)(hf:Fits zs ss)(hp:AJ zs≤4611686018427387904):Pure Tryz.prog TB 225 [Ai zs,Ai ss] (eI .i64 (FD zs ss 0)):=by
 refine eN Tryz.func225 rfl (by kernel_rfl) rfl ?_;intro Γ hΓ
 refine Ak.bound 0 rfl fun hB0=>?_
 have hB:=hB0 (zs.map Bk) .refl
 have hlen:=hf.len
 (repeat' first|refine tA rfl ?_ |refine aU rfl ?_ |refine Aa ?_|(refine aC rfl ?_ ?_<;>rintro⟨⟩)|refine aK ?_|refine aE ?_|refine aB ?_|refine aR ⟨_,rfl,?_⟩)
 refine Ak.AZ (α:={k:Nat // k≤zs.length}) (fun ⟨k,hk⟩=>[(0,Ai zs),(1,Ai ss),(5,eI .i64 (FD (zs.take k) (ss.take k) 0)),(6,eI .i64 k)]) (fun ⟨k,hk⟩=>[]) 0 (fun ⟨k,hk⟩=>zs.length - k) (⟨0,by omega⟩) [] (DB hΓ rfl rfl) (by (repeat' first|exact tI|rfl|refine And.intro ?_ ?_)) ?_;rintro⟨k,hk⟩;(try dsimp only)
 (repeat first|refine sN rfl ?_ |refine tA rfl ?_ |refine s2 rfl fun _ _hb=>?_ |refine aU rfl ?_ |refine Aa ?_)
 (refine aC rfl ?_ ?_<;>rintro⟨⟩)
 ·obtain⟨x,hx⟩:=get_some (l:=zs) (k:=k) (by (simp only[oZ] at *;omega))
  have hx':=get_map (g:=Bk) hx
  obtain⟨y,hy⟩:=get_some (l:=ss) (k:=k) (by (simp only[oZ] at *;omega))
  have hy':=get_map (g:=Bk) hy
  have h1:=(hf.take k).1.enc 0 (by omega)
  have h2:=(hf.take (k+1)).1.enc 0 (by omega)
  have h3:=(hf.take (k+1)).2
  have h4:=MN 0 hx hy
  have h6:=hf.get k x y hx hy
  have h5:0≤FD (zs.take k) (ss.take k) 0*x:=Int.mul_nonneg h1.1 (by omega)
  (repeat' first|(refine sA rfl ?_ ?_;first|exact tI|omega|simp only[oZ] at *;omega) |(refine s4 rfl ‹_› rfl ?_ ?_;omega) |refine aU rfl ?_ |refine Aa ?_ |refine rE (by kernel_rfl) ?_|(refine aC rfl ?_ ?_<;>rintro⟨⟩)|refine aK ?_|refine aE ?_|refine aB ?_|refine aR ⟨_,rfl,?_⟩)
  refine⟨⟨k+1,by (simp only[oZ] at *;omega)⟩,by dsimp only;((simp only[oZ] at *;omega)),[],?_⟩
  simp[cX,zC,hΓ,h4]
 ·(repeat' first|refine tA rfl ?_ |refine aU rfl ?_ |refine Aa ?_|(refine aC rfl ?_ ?_<;>rintro⟨⟩)|refine aK ?_|refine aE ?_|refine aB ?_|refine aR ⟨_,rfl,?_⟩)
  rw [List.take_of_length_le (by (simp only[oZ] at *;omega)),List.take_of_length_le (by (simp only[oZ] at *;omega))]
def Ae(n:Net):List Int:=n.ps.map (·.st)++n.au.map (fun a=>(a.nx.length:Int))
theorem QF(n:Net)(hsm:n.ps.length+n.au.length≤1000000):Pure Tryz.prog TB 220 [Jf n] (Ai (Ae n)):=by
 refine eN Tryz.func220 rfl (by kernel_rfl) rfl ?_;intro Γ hΓ
 (repeat first|refine aU rfl ?_)
 (refine Ag rfl ?_;refine CK (fun _ _=>Dc rfl rfl rfl) rfl ?_)
 (refine Ag rfl ?_;refine CK (fun _ _=>CT rfl) rfl ?_)
 (repeat first|refine aU rfl ?_ |refine Aa ?_)
 (refine pW rfl ?_ rfl (by rfl);refine A1 rfl rfl rfl rfl (by simp) (by rfl) (by rfl) (by rfl) (by rfl) ?_)
 (repeat first|refine tM rfl ?_ |refine aU rfl ?_ |refine Aa ?_)
 refine aB ?_
 refine Ak.AZ (α:={k:Nat // k≤n.ps.length}) (fun ⟨k,hk⟩=>[(1,.o (.ip (Kj n))),(3,.o (.arr 0 1 0 k)),(4,eI .i64 k)]) (fun ⟨k,hk⟩=>[(0,.cells 3 1 (((n.ps.take k).map (·.st)).map AB))]) 1 (fun ⟨k,hk⟩=>n.ps.length - k) (⟨0,by omega⟩) [0] (DB hΓ rfl rfl) (by (simp[cX,zC,hΓ])) ?_;rintro⟨k,hk⟩;(try dsimp only)
 (repeat first|refine sN rfl ?_ |refine tM rfl ?_ |refine s2 rfl fun _ _hb=>?_ |refine aU rfl ?_ |refine Aa ?_)
 (refine aC rfl ?_ ?_<;>rintro⟨⟩)
 ·obtain⟨x,hx⟩:=get_some (l:=n.ps) (k:=k) (by (simp only[oZ] at *;omega))
  have hx':=get_map (g:=SL) hx
  refine aK ?_
  refine aS (aB ?_)
  (repeat first|refine tA rfl ?_ |(refine s4 rfl ‹_› rfl ?_ ?_;omega) |refine aU rfl ?_)
  (refine pW rfl ?_ rfl (by rfl);refine Aw rfl rfl rfl (by first| (simp;done)|(simp;(omega))) rfl (by intro r hr;simp at hr;subst hr;rfl) (by rfl) (Nat.le_of_ble_eq_true rfl) (by simp;omega) ?_)
  (repeat first|(refine sX rfl ?_ ?_;first|exact tI|omega) |refine aU rfl ?_ |refine Aa ?_)
  refine⟨⟨k+1,by (simp only[oZ] at *;omega)⟩,by dsimp only;((simp only[oZ] at *;omega)),[1],?_⟩
  simp[cX,zC,hΓ,List.take_add_one,hx]
 ·obtain rfl:k=n.ps.length:=by (simp only[oZ] at *;omega)
  refine aE ?_
  (repeat first|refine tM rfl ?_ |refine aU rfl ?_ |refine Aa ?_)
  refine aB ?_
  refine Ak.AZ (α:={j:Nat // j≤n.au.length}) (fun ⟨j,hj⟩=>[(1,.o (.ip (Kj n))),(3,.o (.arr 0 1 0 (n.ps.length+j))),(5,eI .i64 j)]) (fun ⟨j,hj⟩=>[(0,.cells 3 1 ((n.ps.map (·.st)++(n.au.take j).map (fun a=>(a.nx.length:Int))).map AB))]) 1 (fun ⟨j,hj⟩=>n.au.length - j) (⟨0,by omega⟩) [0] (DB hΓ rfl rfl) (by (simp[cX,zC,hΓ])) ?_;rintro⟨j,hj⟩;(try dsimp only)
  (repeat first|refine sN rfl ?_ |refine tM rfl ?_ |refine s2 rfl fun _ _hb=>?_ |refine aU rfl ?_ |refine Aa ?_)
  (refine aC rfl ?_ ?_<;>rintro⟨⟩)
  ·obtain⟨x,hx⟩:=get_some (l:=n.au) (k:=j) (by (simp only[oZ] at *;omega))
   have hx':=get_map (g:=Bn) hx
   refine aK ?_
   refine aS (aB ?_)
   (repeat first|refine sN rfl ?_ |refine tA rfl ?_ |(refine s4 rfl ‹_› rfl ?_ ?_;omega) |refine aU rfl ?_)
   (refine pW rfl ?_ rfl (by rfl);refine Aw rfl rfl rfl (by first| (simp;done)|(simp;(omega))) rfl (by intro r hr;simp at hr;subst hr;rfl) (by rfl) (Nat.le_of_ble_eq_true rfl) (by simp;omega) ?_)
   (repeat first|(refine sX rfl ?_ ?_;first|exact tI|omega) |refine aU rfl ?_ |refine Aa ?_)
   refine⟨⟨j+1,by (simp only[oZ] at *;omega)⟩,by dsimp only;((simp only[oZ] at *;omega)),[1],?_⟩
   simp[cX,zC,hΓ,List.take_add_one,hx,Nat.add_assoc]
  ·obtain rfl:j=n.au.length:=by (simp only[oZ] at *;omega)
   refine aE ?_
   (repeat first|refine tM rfl ?_ |refine aU rfl ?_ |refine Aa ?_)
   refine Ak.freeze [0] [(2,.o (.d (CO (Ae n))))] ⟨⟨_,rfl,.o (.full (by simp) rfl (by simp [Function.comp_def,Ae]) (by simp))⟩,trivial⟩ ?_
   refine aR ⟨_,rfl,rfl⟩
def Bx:List Int→Int→List Int
 | [],_=>[]
 | z::zs,n=>n / AJ zs % z::Bx zs n
theorem KU:∀(zs:List Int) (n:Int),(Bx zs n).length=zs.length
 | [],_=>rfl
 | z::zs,n=>by simp [Bx,KU zs n]
theorem X6{α:Type}(a x:α)(k:Nat)(L:List α):(List.replicate (k+1) a++L).set k x=List.replicate k a++x::L:=by
 rw [List.set_append_left _ _ (by simp),List.replicate_succ',List.set_append_right _ _ (by simp)]
 simp
theorem JW(zs:List Int)(n:Int)(h0:0≤n)(h1:n≤9223372036854775807)(hz:∀z∈zs,0 < z)(hl:zs.length≤1000000):Pure Tryz.prog TB 223 [Ai zs,eI .i64 n] (Ai (Bx zs n)):=by
 have hpp:∀k,0 < AJ (zs.drop k):=by
  intro k
  have:∀l:List Int,(∀z∈l,0 < z)→0 < AJ l:=by
   intro l
   induction l with
   | nil=>intro _;simp [AJ]
   | cons a l ih=>intro h;exact Int.mul_pos (h a (by simp)) (ih fun z hz=>h z (by simp [hz]))
  exact this _ fun z h=>hz z (List.mem_of_mem_drop h)
 refine eN Tryz.func223 rfl (by kernel_rfl) rfl ?_;intro Γ hΓ
 (repeat first|refine aU rfl ?_)
 (refine Ag rfl ?_;refine CK (fun _ _=>CT rfl) rfl ?_)
 (repeat first|refine sN rfl ?_ |refine tM rfl ?_ |refine aU rfl ?_ |refine Aa ?_)
 (refine pW rfl ?_ rfl (by rfl);refine HM rfl rfl (by rfl) (by rfl) (Nat.le_of_ble_eq_true rfl) (by omega) (by omega) (by omega) ?_)
 (repeat first|refine sN rfl ?_ |(refine sM rfl ?_ ?_;first|exact tI|omega) |refine aU rfl ?_ |refine Aa ?_)
 refine aB ?_
 refine Ak.AZ (α:={k:Nat // k≤zs.length}) (fun ⟨k,hk⟩=>[(0,Ai zs),(1,eI .i64 (n / AJ (zs.drop k))),(5,.o (.arr 0 1 0 zs.length)),(6,eI .i64 ((k:Int) - 1))]) (fun ⟨k,hk⟩=>[(0,.cells 3 1 ((List.replicate k 0++Bx (zs.drop k) n).map AB))]) 1 (fun ⟨k,hk⟩=>k) (⟨zs.length,by omega⟩) [0] (DB hΓ rfl rfl) (by (simp[cX,zC,hΓ,Bx,AJ])) ?_;rintro⟨k,hk⟩;(try dsimp only)
 (repeat first|refine tM rfl ?_ |refine s2 rfl fun _ _hb=>?_ |refine aU rfl ?_ |refine Aa ?_)
 (refine aC rfl ?_ ?_<;>rintro⟨⟩)
 ·obtain⟨k,rfl⟩:∃k',k=k'+1:=⟨k - 1,by (simp only[oZ] at *;omega)⟩
  obtain⟨x,hx⟩:=get_some (l:=zs) (k:=k) (by omega)
  have hx':(zs.map Bk)[(((k+1:Nat):Int) - 1).toNat]? = some (Bk x):=by simp [hx]
  have hxp:=hz x (List.mem_of_getElem? hx)
  have hd:=CA hx
  have hP:=hpp (k+1)
  have h2:0≤n / AJ (zs.drop (k+1)):=Int.ediv_nonneg h0 (by omega)
  have h3:n / AJ (zs.drop (k+1))≤n:=Int.ediv_le_self _ h0
  have hi:((((k+1:Nat):Int) - 1).toNat)=k:=by omega
  refine aK ?_
  refine aS (aB ?_)
  (repeat first|(refine sA rfl ?_ ?_;first|exact tI|omega) |(refine s4 rfl ‹_› rfl ?_ ?_;omega) |refine aU rfl ?_)
  (refine Ag rfl ?_;refine GN ?_ rfl (by rfl);refine Hc (r:=AB 0) rfl rfl rfl rfl (by rw [Nat.zero_add,hi,List.getElem?_map,List.getElem?_append_left (by simp)];simp) rfl (Nat.le_of_ble_eq_true rfl) ?_)
  (repeat first|(refine sA rfl ?_ ?_;first|exact tI|omega) |(refine s4 rfl ‹_› rfl ?_ ?_;omega) |refine aU rfl ?_ |refine Aa ?_)
  refine⟨⟨k,by omega⟩,by dsimp only;(omega),[0],?_⟩
  rw [Nat.zero_add,hi]
  have h5:((List.replicate (k+1) (0:Int)++Bx (zs.drop (k+1)) n).map AB).set k (AB (n / AJ (zs.drop (k+1)) % x))=(List.replicate k 0++Bx (zs.drop k) n).map AB:=by
   rw [←List.map_set,X6,hd,Bx]
  have h6:n / AJ (zs.drop (k+1)) / x=n / AJ (zs.drop k):=by
   rw [hd,AJ,Int.mul_comm,Int.ediv_ediv_of_nonneg (by omega)]
  have h7:Aj (AB 0) 0 (eC (eI .i64 (n / AJ (zs.drop (k+1)) % x)))=AB (n / AJ (zs.drop (k+1)) % x):=rfl
  rw [h7,h5]
  simp[cX,zC,hΓ,h6]
 ·obtain rfl:k=0:=by (simp only[oZ] at *;omega)
  refine aE ?_
  (repeat first|refine tM rfl ?_ |refine aU rfl ?_ |refine Aa ?_)
  refine Ak.freeze [0] [(4,.o (.d (CO (Bx zs n))))] ⟨⟨_,rfl,.o (.full (by simp) rfl (by simp [Function.comp_def]) (by simp [KU]))⟩,trivial⟩ ?_
  refine aR ⟨_,rfl,rfl⟩
end Go.Am
namespace Go.Am
open Go
def B5(s:Sys)(q l:Int):List Int:=if ET s.al l.toNat then (s.es.filter fun e=>decide (e.f=q) && decide (e.l=l)).map (·.t) else [q]
theorem Qf{a b c:JH}(h:Jb a b=true)(k:Jb b c=true):Jb a c=true:=by
 unfold Jb at *;grind
theorem Gb{s:Sys}(h:CU s=true):BW s.al=true∧1≤s.st∧s.st≤16:=by
 unfold CU at h;grind
theorem HU{s:Sys}(h:CU s=true){e:JH}(he:e∈s.es):FB s.al s.st e=true:=by
 obtain⟨k,hk,rfl⟩:=List.getElem_of_mem he
 unfold CU at h
 simp only [Bool.and_eq_true,List.all_eq_true] at h
 have h1:=h.2 k (List.mem_range.2 hk)
 cases k with
 | zero=>rw [SM (List.getElem?_eq_getElem hk)] at h1;exact h1
 | succ k=>rw [Oh (List.getElem?_eq_getElem hk) (List.getElem?_eq_getElem (by omega))] at h1;grind
theorem IU{s:Sys}(h:CU s=true):s.es.Pairwise fun a b=>Jb a b=true:=by
 have key:∀(l:List JH),(∀(k:Nat) (p e:JH),l[k]? = some p→l[k+1]? = some e→Jb p e=true)→l.Pairwise fun a b=>Jb a b=true:=by
  intro l
  induction l with
  | nil=>intro _;exact .nil
  | cons a l ih=>
   intro hl
   have h1:=ih fun k p e hp he=>hl (k+1) p e (by simpa using hp) (by simpa using he)
   refine List.pairwise_cons.2 ⟨fun b hb=>?_,h1⟩
   cases l with
   | nil=>cases hb
   | cons c l=>
    have h2:=hl 0 a c rfl rfl
    rcases List.mem_cons.1 hb with rfl|hb
    ·exact h2
    ·exact Qf h2 ((List.pairwise_cons.1 h1).1 b hb)
 refine key _ fun k p e hp he=>?_
 unfold CU at h
 simp only [Bool.and_eq_true,List.all_eq_true] at h
 have h1:=h.2 (k+1) (List.mem_range.2 (List.getElem?_eq_some_iff.1 he).1)
 rw [Oh he hp] at h1
 grind
theorem OY:∀(l:List Int) (a b:Int),(a::l).Pairwise (· < ·)→(∀x∈a::l,x < b)→a+((l.length:Int)+1)≤b
 | [],a,b,_,h=>by have:=h a (by simp);simp;omega
 | c::l,a,b,hp,h=>by
  have h1:=OY l c b (List.pairwise_cons.1 hp).2 fun x hx=>h x (by simp at hx ⊢;exact .inr hx)
  have h2:=(List.pairwise_cons.1 hp).1 c (by simp)
  simp;omega
theorem Oi{s:Sys}(h:CU s=true)(q l:Int):(B5 s q l).Pairwise (· < ·):=by
 unfold B5
 split
 ·rw [List.pairwise_map]
  refine List.Pairwise.imp_of_mem (fun {a b} ha hb hab=>?_) ((IU h).filter _)
  have h1:=(List.mem_filter.1 ha).2
  have h2:=(List.mem_filter.1 hb).2
  unfold Jb at hab
  grind
 ·simp
theorem PO{s:Sys}(h:CU s=true){q l:Int}(h0:0≤q)(h1:q < s.st){x:Int}(hx:x∈B5 s q l):0≤x∧x < s.st:=by
 unfold B5 at hx
 split at hx
 ·obtain⟨e,he,rfl⟩:=List.mem_map.1 hx
  have h2:=HU h (List.mem_filter.1 he).1
  unfold FB at h2
  grind
 ·simp at hx;subst hx;exact⟨h0,h1⟩
theorem Np{s:Sys}(h:CU s=true){q l:Int}(h0:0≤q)(h1:q < s.st):((B5 s q l).length:Int)≤s.st:=by
 have h2:=Oi h q l
 have h3:∀x∈B5 s q l,0≤x∧x < s.st:=fun x hx=>PO h h0 h1 hx
 generalize B5 s q l=m at h2 h3
 cases m with
 | nil=>simp;omega
 | cons a m=>
  have h4:=OY m a s.st h2 fun x hx=>(h3 x hx).2
  have h5:=h3 a (by simp)
  simp;omega
theorem GB{a:AN}(h:Ay a=true){q:Nat}(hq:q < a.nx.length){l:Int}(h0:0≤l)(h1:l < 6):0≤Bm a q l∧Bm a q l < a.nx.length:=by
 obtain⟨row,hr,hl,hx⟩:=GZ h hq
 unfold Bm
 split
 ·rename_i hb
  have hlt:(Az a.al l.toNat).length < row.length:=by rw [hl];exact FG (by omega) hb
  obtain⟨y,hy⟩:=get_some hlt
  have:=hx _ y hy
  simpa [List.getD,hr,hy] using this
 ·omega
structure Dq (n:Net):Prop where
 ps:∀s∈n.ps,CU s=true
 au:∀a∈n.au,Ay a=true
 np:n.ps.length≤3
 na:n.au.length≤2
def Kg(n:Net)(st:List Int)(l:Int):List (List Int):=n.ps.zipWith (fun s q=>B5 s q l) st++n.au.zipWith (fun a q=>[Bm a q.toNat l]) (st.drop n.ps.length)
def FN:List Int→List (List Int)→List Int→List Int
 | z::zs,c::cs,out=>FN zs cs (out.flatMap fun o=>c.map fun x=>o*z+x)
 | _,_,out=>out
def Es(n:Net)(zs st:List Int)(l:Int):List Int:=FN zs (Kg n st l) [0]
inductive EP:List Int→List (List Int)→Prop
 | nil:EP [] []
 | cons {z:Int} {c:List Int} {zs:List Int} {cs:List (List Int)}:(∀x∈c,0≤x∧x < z)→(c.length:Int)≤z→EP zs cs→EP (z::zs) (c::cs)
theorem Nb:∀ {zs:List Int} {cs:List (List Int)} {k:Nat} {z:Int} {c:List Int} (out:List Int),zs[k]? = some z→cs[k]? = some c→
 FN (zs.take (k+1)) (cs.take (k+1)) out=(FN (zs.take k) (cs.take k) out).flatMap fun o=>c.map fun x=>o*z+x
 | [],_,k,z,s,n,hz,_=>by simp at hz
 | a::zs,[],k,z,s,n,_,hs=>by simp at hs
 | a::zs,b::ss,0,z,s,n,hz,hs=>by
  simp at hz hs;subst hz hs;simp [FN]
 | a::zs,b::ss,k+1,z,s,n,hz,hs=>by
  simp only [List.take_succ_cons,FN]
  exact Nb _ (by simpa using hz) (by simpa using hs)
theorem K4{α β:Type}(l:List α)(g:α→List β)(n:Int)(h:∀x∈l,((g x).length:Int)≤n):((l.flatMap g).length:Int)≤l.length*n:=by
 induction l with
 | nil=>simp
 | cons a l ih=>
  have h1:=h a (by simp)
  have h2:=ih fun x hx=>h x (by simp [hx])
  simp only [List.flatMap_cons,List.length_append,List.length_cons]
  have h3:((l.length:Int)+1)*n=l.length*n+n:=by rw [Int.add_mul];simp
  push_cast
  omega
theorem Sh{zs:List Int}{cs:List (List Int)}(h:EP zs cs):∀(out:List Int) (B:Int),(∀o∈out,0≤o∧o < B)→0≤B→(out.length:Int)≤B→
 (∀v∈FN zs cs out,0≤v∧v < B*AJ zs)∧((FN zs cs out).length:Int)≤B*AJ zs:=by
 induction h with
 | nil=>intro out B ho hB hl;simp [FN,AJ];exact⟨ho,hl⟩
 | @cons z c zs cs hc hcl _ ih=>
  intro out B ho hB hl
  have hz:0≤z:=by omega
  have h1:=ih (out.flatMap fun o=>c.map fun x=>o*z+x) (B*z) (fun v hv=>by
   obtain⟨o,ho',hv⟩:=List.mem_flatMap.1 hv
   obtain⟨x,hx,rfl⟩:=List.mem_map.1 hv
   obtain⟨h2,h3⟩:=ho o ho'
   obtain⟨h4,h5⟩:=hc x hx
   have h6:0≤o*z:=Int.mul_nonneg h2 hz
   have h7:(o+1)*z≤B*z:=Int.mul_le_mul_of_nonneg_right (by omega) hz
   rw [Int.add_mul] at h7
   omega) (Int.mul_nonneg hB hz) (by
    have h2:=K4 out (fun o=>c.map fun x=>o*z+x) z (fun x _=>by simpa using hcl)
    have h3:(out.length:Int)*z≤B*z:=Int.mul_le_mul_of_nonneg_right hl hz
    omega)
  rw [FN,AJ,←Int.mul_assoc]
  exact h1
theorem EP.take{zs:List Int}{cs:List (List Int)}(h:EP zs cs):∀k,EP (zs.take k) (cs.take k):=by
 induction h with
 | nil=>intro k;simp;exact .nil
 | cons h1 h2 h3 ih=>
  intro k
  cases k with
  | zero=>exact .nil
  | succ k=>exact .cons h1 h2 (ih k)
theorem EP.get{zs:List Int}{cs:List (List Int)}(h:EP zs cs):∀(k:Nat) (z:Int) (c:List Int),zs[k]? = some z→cs[k]? = some c→(∀x∈c,0≤x∧x < z)∧(c.length:Int)≤z:=by
 induction h with
 | nil=>intro k z s hz;simp at hz
 | cons h0 h1 _ ih=>
  intro k z s hz hs
  cases k with
  | zero=>simp at hz hs;subst hz hs;exact⟨h0,h1⟩
  | succ k=>exact ih k z s (by simpa using hz) (by simpa using hs)
theorem EP.len{zs:List Int}{cs:List (List Int)}(h:EP zs cs):zs.length=cs.length:=by
 induction h with
 | nil=>rfl
 | cons _ _ _ ih=>simp [ih]
theorem Fits.split{zs zs' ss:List Int}(h:Fits (zs++zs') ss):Fits zs (ss.take zs.length)∧Fits zs' (ss.drop zs.length):=by
 induction zs generalizing ss with
 | nil=>exact⟨.nil,h⟩
 | cons a zs ih=>
  cases h with
  | cons h0 h1 h2=>exact⟨.cons h0 h1 (ih h2).1,(ih h2).2⟩
theorem EP.app{zs zs':List Int}{cs cs':List (List Int)}(h:EP zs cs)(h':EP zs' cs'):EP (zs++zs') (cs++cs'):=by
 induction h with
 | nil=>exact h'
 | cons h0 h1 _ ih=>exact .cons h0 h1 ih
theorem Gd{α β γ:Type}(f:α→β→γ):∀(l:List α) (m:List β),l.zipWith f m=l.zipWith f (m.take l.length)
 | [],_=>by simp
 | a::l,[]=>by simp
 | a::l,b::m=>by simp [Gd f l m]
theorem Ii{n:Net}(hn:Dq n){st:List Int}(hf:Fits (Ae n) st){l:Int}(h0:0≤l)(h1:l < 6):EP (Ae n) (Kg n st l):=by
 unfold Ae at *
 obtain⟨ha,hb⟩:=hf.split
 rw [List.length_map] at ha hb
 unfold Kg
 refine EP.app ?_ ?_
 ·have : n.ps.zipWith (fun s q=>B5 s q l) st=n.ps.zipWith (fun s q=>B5 s q l) (st.take n.ps.length):=by
   exact Gd _ _ _
  rw [this]
  have hp:=hn.ps
  generalize st.take n.ps.length=ss at ha
  generalize n.ps=ps at ha hp
  induction ps generalizing ss with
  | nil=>cases ha;exact .nil
  | cons s ps ih=>
   cases ha with
   | cons h2 h3 h4=>
    have hs:=hp s (by simp)
    exact .cons (fun x hx=>PO hs h2 h3 hx) (Np hs h2 h3) (ih _ h4 fun t ht=>hp t (by simp [ht]))
 ·have hp:=hn.au
  generalize st.drop n.ps.length=ss at hb
  generalize n.au=au at hb hp
  induction au generalizing ss with
  | nil=>cases hb;exact .nil
  | cons s ps ih=>
   cases hb with
   | @cons _ q _ _ h2 h3 h4=>
    have hs:=hp s (by simp)
    dsimp only at h3
    have h5:=GB hs (q:=q.toNat) (by omega) h0 h1
    exact .cons (fun x hx=>by simp at hx;subst hx;exact h5) (by dsimp only;simp;omega) (ih _ h4 fun t ht=>hp t (by simp [ht]))
theorem Fs{n:Net}(hn:Dq n):∀z∈Ae n,1≤z∧z≤16:=by
 intro z hz
 unfold Ae at hz
 rcases List.mem_append.1 hz with h|h
 ·obtain⟨s,hs,rfl⟩:=List.mem_map.1 h
  have:=Gb (hn.ps s hs)
  omega
 ·obtain⟨a,ha,rfl⟩:=List.mem_map.1 h
  have:=Ar (hn.au a ha)
  omega
theorem Lv:∀(l:List Int),(∀z∈l,1≤z∧z≤16)→1≤AJ l∧AJ l≤16 ^ l.length
 | [],_=>by simp [AJ]
 | z::l,h=>by
  obtain⟨h1,h2⟩:=Lv l fun x hx=>h x (by simp [hx])
  obtain⟨h3,h4⟩:=h z (by simp)
  have h5:z*AJ l≤16*16 ^ l.length:=Int.mul_le_mul h4 h2 (by omega) (by omega)
  have h6:1*1≤z*AJ l:=Int.mul_le_mul h3 h1 (by omega) (by omega)
  have h7:(16:Int) ^ (l.length+1)=16*16 ^ l.length:=by rw [Int.pow_succ,Int.mul_comm]
  simp only [AJ,List.length_cons,h7]
  exact⟨by simpa using h6,h5⟩
theorem KB{n:Net}(hn:Dq n):1≤AJ (Ae n)∧AJ (Ae n)≤1048576:=by
 obtain⟨h1,h2⟩:=Lv _ (Fs hn)
 refine⟨h1,Int.le_trans h2 ?_⟩
 have h3:(Ae n).length≤5:=by unfold Ae;have:=hn.np;have:=hn.na;simp;omega
 generalize (Ae n).length=k at h3
 have:k=0∨k=1∨k=2∨k=3∨k=4∨k=5:=by omega
 rcases this with rfl|rfl|rfl|rfl|rfl|rfl<;>decide
end Go.Am
namespace Go.Am
open Go Go.Proofs
set_option maxHeartbeats 1000000
attribute [local irreducible] AY B2 Lex Bq Ak Spec
variable {TB:Bu}
theorem Mo(n:Net)(i:Nat)(a:AN)(q:Nat)(l:Int)(ha:n.au[i]? = some a)(hok:Ay a=true)(hq:q < a.nx.length)(h0:0≤l)(h1:l < 6)(hnp:n.ps.length≤3)(hna:n.au.length≤2) :
 Pure Tryz.prog TB 268 [Jf n,eI .i64 (n.ps.length+i),eI .i64 q,eI .i64 l] (Ai [Bm a q l]):=by
 have hi:=(List.getElem?_eq_some_iff.1 ha).1
 have ha':=get_map (g:=Bn) ha
 have he:((n.ps.length:Int)+i - n.ps.length).toNat=((i:Nat):Int).toNat:=by omega
 have ha2:(n.au.map Bn)[((n.ps.length:Int)+i - n.ps.length).toNat]? = some (Bn a):=by rw [he];exact ha'
 refine eN Tryz.func268 rfl (by kernel_rfl) rfl ?_;intro Γ hΓ
 (repeat' first|refine sN rfl ?_ |(refine sA rfl ?_ ?_;first|exact tI|omega) |(refine s4 rfl ‹_› rfl ?_ ?_;omega) |refine s2 rfl fun _ _hb=>?_ |(refine sC rfl (Kv a hok q hq l h0 h1) ?_;intro _ _hb)|refine sP rfl (Kv a hok q hq l h0 h1) rfl ?_ |refine aU rfl ?_ |refine Aa ?_|(refine aC rfl ?_ ?_<;>rintro⟨⟩)|refine aK ?_|refine aE ?_|refine aB ?_|refine aR ⟨_,rfl,?_⟩)
 all_goals first| rfl|(exfalso;(simp only[oZ] at *;omega))
theorem Mp(n:Net)(i:Nat)(s:Sys)(q l:Int)(hs:n.ps[i]? = some s)(hok:CU s=true)(hq0:0≤q)(hq1:q < s.st)(h0:0≤l)(h1:l < 6)(hnp:n.ps.length≤3) :
    Pure Tryz.prog TB 268 [Jf n,eI .i64 i,eI .i64 q,eI .i64 l] (Ai (B5 s q l)):=by
  have hi:=(List.getElem?_eq_some_iff.1 hs).1
  have hs':=get_map (g:=SL) hs
  refine eN Tryz.func268 rfl (by kernel_rfl) rfl ?_;intro Γ hΓ
  (repeat first|refine aU rfl ?_)
  (refine Ag rfl ?_;refine CK (fun _ _=>Dc rfl rfl rfl) rfl ?_)
  (refine Ag rfl ?_;refine CK (fun _ _=>CT rfl) rfl ?_)
  (repeat first|refine sN rfl ?_ |refine tM rfl ?_ |refine s2 rfl fun _ _hb=>?_ |(refine sC rfl (Fh _ _ (by omega) (by omega)) ?_;intro _ _hb) |refine aU rfl ?_ |refine Aa ?_)
  (refine aC rfl ?_ ?_<;>rintro⟨⟩)
  · exfalso;(simp only[oZ] at *;omega)
  refine aK ?_
  (repeat first|refine tM rfl ?_ |(refine s4 rfl ‹_› rfl ?_ ?_;omega) |refine s2 rfl fun _ _hb=>?_ |(refine sC rfl (Fh _ _ (by omega) (by omega)) ?_;intro _ _hb) |refine aU rfl ?_ |refine Aa ?_)
  (refine aC rfl ?_ ?_<;>rintro⟨⟩)
  · (repeat' first|refine tA rfl ?_ |refine aU rfl ?_ |refine Aa ?_|(refine aC rfl ?_ ?_<;>rintro⟨⟩)|refine aK ?_|refine aE ?_|refine aB ?_|refine aR ⟨_,rfl,?_⟩)
    rw [show B5 s q l=[q] by unfold B5;rw [if_neg (by grind)]];rfl
  refine aK ?_
  (repeat first|refine aU rfl ?_)
  (refine pW rfl ?_ rfl (by rfl);refine A1 rfl rfl rfl rfl (by simp) (by rfl) (by rfl) (by rfl) (by rfl) ?_)
  (repeat first|refine tM rfl ?_ |(refine s4 rfl ‹_› rfl ?_ ?_;omega) |refine aU rfl ?_ |refine Aa ?_)
  refine Ak.bound 10 rfl fun hB=>?_
  have hB:=hB _ .refl
  rw [List.length_map] at hB
  refine aB ?_
  have hb2:ET s.al l.toNat=true:=by grind
  refine Ak.AZ (α:={k:Nat // k≤s.es.length}) (fun ⟨k,hk⟩=>[(2,eI .i64 q),(3,eI .i64 l),(9,.o (.arr 0 1 0 (B5 { s with es:=s.es.take k } q l).length)),(10,Yq s.es),(11,eI .i64 k)]) (fun ⟨k,hk⟩=>[(0,.cells 3 1 ((B5 { s with es:=s.es.take k } q l).map AB))]) 1 (fun ⟨k,hk⟩=>s.es.length - k) (⟨0,by omega⟩) [0] (DB hΓ rfl rfl) (by (simp[cX,zC,hΓ,B5,hb2])) ?_;rintro⟨k,hk⟩;(try dsimp only)
  (repeat first|refine sN rfl ?_ |refine tM rfl ?_ |refine s2 rfl fun _ _hb=>?_ |refine aU rfl ?_ |refine Aa ?_)
  have hlen:∀k,(B5 { s with es:=s.es.take k } q l).length≤16:=by
    intro k
    have h1:=Np hok (l:=l) hq0 hq1
    have h2:=Gb hok
    have h3:(B5 { s with es:=s.es.take k } q l).length≤(B5 s q l).length:=by
      simp only [B5,hb2,if_true,List.length_map]
      exact((List.take_sublist k s.es).filter _).length_le
    omega
  have hst:∀e,s.es[k]? = some e→B5 { s with es:=s.es.take (k+1) } q l=B5 { s with es:=s.es.take k } q l++if e.f=q∧e.l=l then [e.t] else []:=by
    intro e he
    simp only [B5,hb2,if_true,List.take_add_one,he,Option.toList_some,List.filter_append,List.map_append,List.filter_cons,List.filter_nil]
    grind
  (refine aC rfl ?_ ?_<;>rintro⟨⟩)
  · obtain⟨e,he⟩:=get_some (l:=s.es) (k:=k) (by (simp only[oZ] at *;omega))
    have he':=get_map (g:=JP) he
    have hst:=hst e he
    refine aK ?_
    refine aS (aB ?_)
    (repeat' first|(refine sM rfl ?_ ?_;first|exact tI|simp only[oZ] at *;omega) |(refine s4 rfl ‹_› rfl ?_ ?_;omega) |refine s2 rfl fun _ _hb=>?_ |refine s3 rfl ?_ ?_<;>rintro rfl |refine aU rfl ?_ |refine Aa ?_|(refine aC rfl ?_ ?_<;>rintro⟨⟩)|refine aK ?_|refine aE ?_|refine aB ?_|refine aR ⟨_,rfl,?_⟩)
    all_goals first
      | (rw [if_pos (by grind)] at hst
         (repeat first|refine tA rfl ?_)
         (refine pW rfl ?_ rfl (by rfl);refine Aw rfl rfl rfl (by first| (simp;done)|(simp;(omega))) rfl (by intro r hr;simp at hr;subst hr;rfl) (by rfl) (Nat.le_of_ble_eq_true rfl) (by have:=hlen k;simp;omega) ?_)
         (repeat first|(refine sX rfl ?_ ?_;first|exact tI|simp only[oZ] at *;omega) |refine aU rfl ?_ |refine Aa ?_)
         refine⟨⟨k+1,by (simp only[oZ] at *;omega)⟩,by dsimp only;((simp only[oZ] at *;omega)),[1],?_⟩
         simp[cX,zC,hΓ,hst]
         done)
      | (rw [if_neg (by grind),List.append_nil] at hst
         refine⟨⟨k+1,by (simp only[oZ] at *;omega)⟩,by dsimp only;((simp only[oZ] at *;omega)),[0],?_⟩
         simp[cX,zC,hΓ,hst]
         done)
  · obtain rfl:k=s.es.length:=by (simp only[oZ] at *;omega)
    refine aE ?_
    (repeat first|refine tM rfl ?_ |refine aU rfl ?_ |refine Aa ?_)
    refine Ak.freeze [0] [(8,.o (.d (CO (B5 s q l))))] ⟨⟨_,rfl,.o (.full (by simp) rfl (by simp [Function.comp_def]) (by simp))⟩,trivial⟩ ?_
    refine aR ⟨_,rfl,rfl⟩
theorem NQ{n:Net}(hn:Dq n){st:List Int}(hf:Fits (Ae n) st){l:Int}(h0:0≤l)(h1:l < 6){i:Nat}{c:List Int}{q:Int}(hc:(Kg n st l)[i]? = some c)(hq:st[i]? = some q) :
 Pure Tryz.prog TB 268 [Jf n,eI .i64 i,eI .i64 q,eI .i64 l] (Ai c):=by
 have hlen:=hf.len
 unfold Ae at hlen
 simp only [List.length_append,List.length_map] at hlen
 have hsq:=(hf.get i)
 have hlz:(n.ps.zipWith (fun s q=>B5 s q l) st).length=n.ps.length:=by rw [List.length_zipWith];omega
 have hiq:=(List.getElem?_eq_some_iff.1 hq).1
 unfold Kg at hc
 by_cases hi:i < n.ps.length
 ·rw [List.getElem?_append_left (by omega)] at hc
  obtain⟨s,hs⟩:=get_some hi
  rw [List.getElem?_zipWith,hs,hq] at hc
  simp only [Option.some.injEq] at hc
  subst hc
  have h2:=hsq s.st q (by unfold Ae;rw [List.getElem?_append_left (by simpa using hi)];simp [hs]) hq
  exact Mp n i s q l hs (hn.ps s (List.mem_of_getElem? hs)) h2.1 h2.2 h0 h1 hn.np
 ·obtain⟨j,rfl⟩:∃j,i=n.ps.length+j:=⟨i - n.ps.length,by omega⟩
  rw [List.getElem?_append_right (by omega),hlz] at hc
  have e:n.ps.length+j - n.ps.length=j:=by omega
  rw [e] at hc
  have hj:j < n.au.length:=by omega
  obtain⟨a,ha⟩:=get_some hj
  rw [List.getElem?_zipWith,ha,List.getElem?_drop,hq] at hc
  simp only [Option.some.injEq] at hc
  subst hc
  have h2:=hsq a.nx.length q (by unfold Ae;rw [List.getElem?_append_right (by simp)];simp [ha]) hq
  have h3:=Mo (TB:=TB) n j a q.toNat l ha (hn.au a (List.mem_of_getElem? ha)) (by omega) h0 h1 hn.np hn.na
  have e2:((q.toNat:Nat):Int)=q:=by omega
  rw [e2] at h3
  push_cast
  exact h3
theorem Pk{n:Net}(hn:Dq n){st:List Int}(hf:Fits (Ae n) st){l:Int}(h0:0≤l)(h1:l < 6)(k:Nat) :
 (∀v∈FN ((Ae n).take k) ((Kg n st l).take k) [0],0≤v∧v < 1048576)∧(FN ((Ae n).take k) ((Kg n st l).take k) [0]).length≤1048576:=by
 have h2:=Sh ((Ii hn hf h0 h1).take k) [0] 1 (by simp) (by omega) (by simp)
 have h3:=(hf.take k).2
 have h4:=KB hn
 rw [Int.one_mul] at h2
 exact⟨fun v hv=>by have:=h2.1 v hv;omega,by omega⟩
theorem QE{n:Net}(hn:Dq n){st:List Int}(hf:Fits (Ae n) st){l:Int}(h0:0≤l)(h1:l < 6) :
 Pure Tryz.prog TB 246 [Jf n,Ai (Ae n),Ai st,eI .i64 l] (Ai (Es n (Ae n) st l)):=by
 have hch:=Ii hn hf h0 h1
 have hbd:=Pk hn hf h0 h1
 have hpr:=KB hn
 have hfl:=hf.len
 have hcl:=hch.len
 unfold Es
 have hcall:∀(i:Nat) (c:List Int) (q:Int),(Kg n st l)[i]? = some c→st[i]? = some q→Pure Tryz.prog TB 268 [Jf n,eI .i64 i,eI .i64 q,eI .i64 l] (Ai c):=fun i c q=>NQ hn hf h0 h1
 have hzl:(Ae n).length≤5:=by unfold Ae;have:=hn.np;have:=hn.na;simp;omega
 have hpos:=Fs hn
 generalize Kg n st l=cs at *
 generalize Ae n=zs at *
 refine eN Tryz.func246 rfl (by kernel_rfl) rfl ?_;intro Γ hΓ
 (repeat first|refine aU rfl ?_)
 (refine Ag rfl ?_;refine CK (fun _ _=>Dc rfl rfl rfl) rfl ?_)
 (refine Ag rfl ?_;refine CK (fun _ _=>CT rfl) rfl ?_)
 (repeat first|refine tA rfl ?_ |refine aU rfl ?_ |refine Aa ?_)
 refine aB ?_
 refine Ak.AZ (α:={k:Nat // k≤zs.length}) (fun ⟨k,hk⟩=>[(1,Ai zs),(2,Ai st),(3,eI .i64 l),(4,.o (.ip (Kj n))),(9,Ai (FN (zs.take k) (cs.take k) [0])),(10,eI .i64 k)]) (fun ⟨k,hk⟩=>[]) 0 (fun ⟨k,hk⟩=>zs.length - k) (⟨0,by omega⟩) [] (DB hΓ rfl rfl) (by (simp[cX,zC,hΓ,FN])) ?_;rintro⟨k,hk⟩;(try dsimp only)
 (repeat first|refine sN rfl ?_ |refine tA rfl ?_ |refine s2 rfl fun _ _hb=>?_ |refine aU rfl ?_ |refine Aa ?_)
 (refine aC rfl ?_ ?_<;>rintro⟨⟩)
 ·obtain⟨z,hz⟩:=get_some (l:=zs) (k:=k) (by (simp only[oZ] at *;omega))
  have hz':=get_map (g:=Bk) hz
  obtain⟨c,hc⟩:=get_some (l:=cs) (k:=k) (by (simp only[oZ] at *;omega))
  obtain⟨q,hq⟩:=get_some (l:=st) (k:=k) (by (simp only[oZ] at *;omega))
  have hq':=get_map (g:=Bk) hq
  have hst:=Nb [0] hz hc
  have hb0:=hbd k
  have hb1:=(hbd (k+1)).2
  have hzz:=hpos z (List.mem_of_getElem? hz)
  obtain⟨hcx,hcn⟩:=hch.get k z c hz hc
  rw [hst] at hb1
  generalize FN (zs.take k) (cs.take k) [0]=out at *
  refine aK ?_
  refine aS (aB ?_)
  (repeat first|refine tM rfl ?_ |(refine s4 rfl ‹_› rfl ?_ ?_;omega) |refine sP rfl (hcall k c q hc hq) rfl ?_ |refine aU rfl ?_ |refine Aa ?_ |refine rE (by kernel_rfl) ?_)
  (refine pW rfl ?_ rfl (by rfl);refine A1 rfl rfl rfl rfl (by simp) (by rfl) (by rfl) (by rfl) (by rfl) ?_)
  (repeat first|refine tM rfl ?_ |refine aU rfl ?_ |refine Aa ?_)
  refine aB ?_
  have hlen:∀m,(((out.take m).flatMap fun o=>c.map fun x=>o*z+x).length:Int)≤16777216:=by
   intro m
   have h2:=K4 (out.take m) (fun o=>c.map fun x=>o*z+x) 16 (fun x _=>by simp;omega)
   have h3:(out.take m).length≤out.length:=by simp;omega
   omega
  refine Ak.AZ (α:={m:Nat // m≤out.length}) (fun ⟨m,hm⟩=>[(1,Ai zs),(2,Ai st),(3,eI .i64 l),(4,.o (.ip (Kj n))),(9,Ai out),(10,eI .i64 k),(11,Ai c),(12,.o (.arr 0 1 0 ((out.take m).flatMap fun o=>c.map fun x=>o*z+x).length)),(13,eI .i64 m)]) (fun ⟨m,hm⟩=>[(0,.cells 3 1 (((out.take m).flatMap fun o=>c.map fun x=>o*z+x).map AB))]) 1 (fun ⟨m,hm⟩=>out.length - m) (⟨0,by omega⟩) [0] (DB hΓ rfl rfl) (by (simp[cX,zC,hΓ])) ?_;rintro⟨m,hm⟩;(try dsimp only)
  (repeat first|refine sN rfl ?_ |refine tM rfl ?_ |refine s2 rfl fun _ _hb=>?_ |refine aU rfl ?_ |refine Aa ?_)
  (refine aC rfl ?_ ?_<;>rintro⟨⟩)
  ·obtain⟨o,ho⟩:=get_some (l:=out) (k:=m) (by (simp only[oZ] at *;omega))
   have ho':=get_map (g:=Bk) ho
   have hob:=hb0.1 o (List.mem_of_getElem? ho)
   have hlm:=hlen m
   have h16:0≤o*z∧o*z≤16777216:=⟨Int.mul_nonneg hob.1 (by omega),by
    have h5:o*z≤o*16:=Int.mul_le_mul_of_nonneg_left hzz.2 hob.1
    omega⟩
   have hfm:(out.take (m+1)).flatMap (fun o=>c.map fun x=>o*z+x)=(out.take m).flatMap (fun o=>c.map fun x=>o*z+x)++c.map fun x=>o*z+x:=by
    rw [List.take_add_one,ho];simp
   refine aK ?_
   refine aS (aB ?_)
   (repeat first|refine tM rfl ?_ |refine aU rfl ?_ |refine Aa ?_)
   refine aB ?_
   generalize (out.take m).flatMap (fun o=>c.map fun x=>o*z+x)=pre at *
   refine Ak.AZ (α:={j:Nat // j≤c.length}) (fun ⟨j,hj⟩=>[(1,Ai zs),(2,Ai st),(3,eI .i64 l),(4,.o (.ip (Kj n))),(9,Ai out),(10,eI .i64 k),(11,Ai c),(12,.o (.arr 0 1 0 (pre.length+j))),(13,eI .i64 m),(14,eI .i64 j)]) (fun ⟨j,hj⟩=>[(0,.cells 3 1 ((pre++(c.take j).map fun x=>o*z+x).map AB))]) 1 (fun ⟨j,hj⟩=>c.length - j) (⟨0,by omega⟩) [0] (DB hΓ rfl rfl) (by (simp[cX,zC,hΓ])) ?_;rintro⟨j,hj⟩;(try dsimp only)
   (repeat first|refine sN rfl ?_ |refine tM rfl ?_ |refine s2 rfl fun _ _hb=>?_ |refine aU rfl ?_ |refine Aa ?_)
   (refine aC rfl ?_ ?_<;>rintro⟨⟩)
   ·obtain⟨x,hx⟩:=get_some (l:=c) (k:=j) (by (simp only[oZ] at *;omega))
    have hx':=get_map (g:=Bk) hx
    have hxb:=hcx x (List.mem_of_getElem? hx)
    refine aK ?_
    refine aS (aB ?_)
    refine rG (HW [16]) (by kernel_rfl) ?_
    (repeat first|(refine sA rfl ?_ ?_;first|exact tI|omega) |(refine s4 rfl ‹_› rfl ?_ ?_;omega))
    (refine pW rfl ?_ rfl (by rfl);refine Aw rfl rfl rfl (by first| (simp;done)|(simp;(omega))) rfl (by intro r hr;simp at hr;subst hr;rfl) (by rfl) (Nat.le_of_ble_eq_true rfl) (by simp;omega) ?_)
    (repeat first|(refine sX rfl ?_ ?_;first|exact tI|omega) |refine aU rfl ?_ |refine Aa ?_)
    refine⟨⟨j+1,by (simp only[oZ] at *;omega)⟩,by dsimp only;((simp only[oZ] at *;omega)),[1],?_⟩
    simp[cX,zC,hΓ,List.take_add_one,hx,Nat.add_assoc]
   ·obtain rfl:j=c.length:=by (simp only[oZ] at *;omega)
    refine aE ?_
    (repeat first|(refine sM rfl ?_ ?_;first|exact tI|omega) |refine aU rfl ?_ |refine Aa ?_)
    refine⟨⟨m+1,by (simp only[oZ] at *;omega)⟩,by dsimp only;((simp only[oZ] at *;omega)),[0],?_⟩
    simp[cX,zC,hΓ,hfm]
  ·obtain rfl:m=out.length:=by (simp only[oZ] at *;omega)
   refine aE ?_
   rw [List.take_length] at *
   refine Ak.freeze [0] [(1,Ai zs),(2,Ai st),(3,eI .i64 l),(4,.o (.ip (Kj n))),(10,eI .i64 k),(12,Ai (out.flatMap fun o=>c.map fun x=>o*z+x))] ⟨⟨_,rfl,.Bb⟩,⟨_,rfl,.Bb⟩,⟨_,rfl,.Bb⟩,⟨_,rfl,.Bb⟩,⟨_,rfl,.Bb⟩,⟨_,rfl,.o (.full (by simp) rfl (by simp [Function.comp_def]) (by simp))⟩,trivial⟩ ?_
   (repeat first|(refine sA rfl ?_ ?_;first|exact tI|omega) |refine aU rfl ?_ |refine Aa ?_)
   refine⟨⟨k+1,by (simp only[oZ] at *;omega)⟩,by dsimp only;((simp only[oZ] at *;omega)),[],?_⟩
   simp[cX,zC,hΓ,hst]
 ·obtain rfl:k=zs.length:=by (simp only[oZ] at *;omega)
  rw [List.take_of_length_le (by omega),List.take_of_length_le (by omega)]
  (repeat' first|refine tA rfl ?_ |refine aU rfl ?_ |refine Aa ?_|(refine aC rfl ?_ ?_<;>rintro⟨⟩)|refine aK ?_|refine aE ?_|refine aB ?_|refine aR ⟨_,rfl,?_⟩)
  all_goals rfl
abbrev Sa(l:List (List Int)):List C:=[.d (Cf l)]
abbrev CB(l:List (List (List Int))):E:=.o (.d (Xw l))
theorem Au{s:Int}{k:Nat}{l:Int}(h:l∈Az s k):0≤l∧l < k∧ET s l.toNat=true:=by
 unfold Az at h
 obtain⟨i,hi,rfl⟩:=List.mem_map.1 h
 obtain⟨h1,h2⟩:=List.mem_filter.1 hi
 have:=List.mem_range.1 h1
 exact⟨Int.natCast_nonneg _,by show ((i:Nat):Int) < k;omega,h2⟩
theorem Ng:∀ {l:List Int},(∀z∈l,0 < z)→0 < AJ l
 | [],_=>by simp [AJ]
 | a::l,h=>Int.mul_pos (h a (by simp)) (Ng fun z hz=>h z (by simp [hz]))
theorem Je:∀ {zs:List Int} (_:∀z∈zs,0 < z) (n:Int),Fits zs (Bx zs n)
 | [],_,_=>.nil
 | z::zs,h,n=>by
  have hz:=h z (by simp)
  exact .cons (Int.emod_nonneg _ (by omega)) (Int.emod_lt_of_pos _ hz) (Je (fun x hx=>h x (by simp [hx])) n)
def DL(n:Net)(x:Nat):List (List Int):=(Ac n.ls).map fun l=>Es n (Ae n) (Bx (Ae n) x) l
def Cn(n:Net)(tot:Nat):List (List (List Int)):=(List.range tot).map (DL n)
theorem HL{n:Net}{tot i:Nat}(h:i < tot):(Cn n tot)[i]? = some (DL n i):=by simp [Cn,h]
theorem LQ{n:Net}(hn:Dq n):(Ae n).length≤5:=by unfold Ae;have:=hn.np;have:=hn.na;simp;omega
theorem QD{n:Net}(hn:Dq n)(tot:Nat)(ht:tot≤1048576):Pure Tryz.prog TB 221 [Jf n,Ai (Ae n),eI .i64 tot] (CB (Cn n tot)):=by
 have hzl:=LQ hn
 have hpos:=Fs hn
 have hdec:∀(x:Nat),x < tot→Pure Tryz.prog TB 223 [Ai (Ae n),eI .i64 x] (Ai (Bx (Ae n) x)):=fun x hx=>
  JW _ _ (by omega) (by omega) (fun z hz=>by have:=hpos z hz;omega) (by omega)
 have hnx:∀(x:Nat) (l:Int),l∈Ac n.ls→Pure Tryz.prog TB 246 [Jf n,Ai (Ae n),Ai (Bx (Ae n) x),eI .i64 l] (Ai (Es n (Ae n) (Bx (Ae n) x) l)):=fun x l hl=>by
  have h1:=Au hl
  exact QE hn (Je (fun z hz=>by have:=hpos z hz;omega) _) (by omega) (by omega)
 have hll:(Ac n.ls).length≤6:=AM n.ls 6
 unfold Cn
 refine eN Tryz.func221 rfl (by kernel_rfl) rfl ?_;intro Γ hΓ
 (repeat first|refine aU rfl ?_)
 (refine Ag rfl ?_;refine CK (fun _ _=>Dc rfl rfl rfl) rfl ?_)
 (refine Ag rfl ?_;refine CK (fun _ _=>CT rfl) rfl ?_)
 (repeat first|refine aU rfl ?_ |refine Aa ?_)
 (refine pW rfl ?_ rfl (by rfl);refine A1 rfl rfl rfl rfl (by simp) (by rfl) (by rfl) (by rfl) (by rfl) ?_)
 (repeat first|refine tM rfl ?_ |refine sP rfl (Cg n.ls) rfl ?_ |refine aU rfl ?_ |refine Aa ?_)
 refine aB ?_
 refine Ak.AZ (α:={k:Nat // k≤tot}) (fun ⟨k,hk⟩=>[(1,Ai (Ae n)),(2,eI .i64 tot),(3,.o (.ip (Kj n))),(7,.o (.arr 0 1 0 k)),(8,Ai (Ac n.ls)),(9,eI .i64 k)]) (fun ⟨k,hk⟩=>[(0,.cells 22 1 (((List.range k).map (DL n)).map Sa))]) 1 (fun ⟨k,hk⟩=>tot - k) (⟨0,by omega⟩) [0] (DB hΓ rfl rfl) (by (simp[cX,zC,hΓ])) ?_;rintro⟨k,hk⟩;(try dsimp only)
 (repeat first|refine tM rfl ?_ |refine s2 rfl fun _ _hb=>?_ |refine aU rfl ?_ |refine Aa ?_)
 (refine aC rfl ?_ ?_<;>rintro⟨⟩)
 ·have hk2:k < tot:=by (simp only[oZ] at *;omega)
  refine aK ?_
  refine aS (aB ?_)
  (repeat first|refine tM rfl ?_ |refine sP rfl (hdec k hk2) rfl ?_ |refine aU rfl ?_ |refine Aa ?_)
  (refine pW rfl ?_ rfl (by rfl);refine A1 rfl rfl rfl rfl (by simp) (by rfl) (by rfl) (by rfl) (by rfl) ?_)
  (repeat first|refine tM rfl ?_ |refine aU rfl ?_ |refine Aa ?_)
  refine aB ?_
  generalize hL:Ac n.ls=ls at *
  refine Ak.AZ (α:={m:Nat // m≤ls.length}) (fun ⟨m,hm⟩=>[(1,Ai (Ae n)),(2,eI .i64 tot),(3,.o (.ip (Kj n))),(7,.o (.arr 0 1 0 k)),(8,Ai ls),(9,eI .i64 k),(10,Ai (Bx (Ae n) k)),(11,.o (.arr 1 1 0 m)),(12,eI .i64 m)]) (fun ⟨m,hm⟩=>[(0,.cells 22 1 (((List.range k).map (DL n)).map Sa)),(1,.cells 75 1 (((ls.take m).map fun l=>Es n (Ae n) (Bx (Ae n) k) l).map Qq))]) 2 (fun ⟨m,hm⟩=>ls.length - m) (⟨0,by omega⟩) [0,1] (DB hΓ rfl rfl) (by (simp[cX,zC,hΓ])) ?_;rintro⟨m,hm⟩;(try dsimp only)
  (repeat first|refine sN rfl ?_ |refine tM rfl ?_ |refine s2 rfl fun _ _hb=>?_ |refine aU rfl ?_ |refine Aa ?_)
  (refine aC rfl ?_ ?_<;>rintro⟨⟩)
  ·obtain⟨x,hx⟩:=get_some (l:=ls) (k:=m) (by (simp only[oZ] at *;omega))
   have hx':=get_map (g:=Bk) hx
   have hxm:=hnx k x (List.mem_of_getElem? hx)
   refine aK ?_
   refine aS (aB ?_)
   refine rG (HW [10]) (by kernel_rfl) ?_
   (repeat first|refine tA rfl ?_ |(refine s4 rfl ‹_› rfl ?_ ?_;omega) |refine sP rfl (hxm) rfl ?_)
   (refine pW rfl ?_ rfl (by rfl);refine Aw rfl rfl rfl (by first| (simp;done)|(simp;(omega))) rfl (by intro r hr;simp at hr;subst hr;rfl) (by rfl) (Nat.le_of_ble_eq_true rfl) (by simp;omega) ?_)
   (repeat first|(refine sX rfl ?_ ?_;first|exact tI|omega) |refine aU rfl ?_ |refine Aa ?_)
   refine⟨⟨m+1,by (simp only[oZ] at *;omega)⟩,by dsimp only;((simp only[oZ] at *;omega)),[0,2],?_⟩
   simp[cX,zC,hΓ,List.take_add_one,hx,Nat.add_assoc]
  ·obtain rfl:m=ls.length:=by (simp only[oZ] at *;omega)
   refine aE ?_
   rw [List.take_length] at *
   have hrow:ls.map (fun l=>Es n (Ae n) (Bx (Ae n) k) l)=DL n k:=by rw [←hL];rfl
   rw [hrow]
   have hrl:(DL n k).length=ls.length:=by rw [←hrow];simp
   refine Ak.freeze [1] [(1,Ai (Ae n)),(2,eI .i64 tot),(3,.o (.ip (Kj n))),(7,.o (.arr 0 1 0 k)),(8,Ai ls),(9,eI .i64 k),(11,Ds (DL n k))] ⟨⟨_,rfl,.Bb⟩,⟨_,rfl,.Bb⟩,⟨_,rfl,.Bb⟩,⟨_,rfl,.Bb⟩,⟨_,rfl,.Bb⟩,⟨_,rfl,.Bb⟩,⟨_,rfl,.o (.full (by simp) rfl (by simp [Function.comp_def]) (by simp [hrl]))⟩,trivial⟩ ?_
   (repeat first|refine tA rfl ?_ |refine aU rfl ?_)
   (refine pW rfl ?_ rfl (by rfl);refine Aw rfl rfl rfl (by first| (simp;done)|(simp;(omega))) rfl (by intro r hr;simp at hr;subst hr;rfl) (by rfl) (Nat.le_of_ble_eq_true rfl) (by simp;omega) ?_)
   (repeat first|(refine sX rfl ?_ ?_;first|exact tI|omega) |refine aU rfl ?_ |refine Aa ?_)
   refine⟨⟨k+1,by omega⟩,by dsimp only;(omega),[2],?_⟩
   simp[cX,zC,hΓ,List.range_succ]
 ·obtain rfl:k=tot:=by (simp only[oZ] at *;omega)
  refine aE ?_
  (repeat first|refine tM rfl ?_ |refine aU rfl ?_ |refine Aa ?_)
  refine Ak.freeze [0] [(6,CB ((List.range k).map (DL n)))] ⟨⟨_,rfl,.o (.full (by simp) rfl (by simp [Function.comp_def]) (by simp))⟩,trivial⟩ ?_
  refine aR ⟨_,rfl,rfl⟩
end Go.Am
