/-
  Automata and systems are valid.
-/
import Derived.Test.YtkkihplpglchjaaGreatDoorPart9
import Derived.Lib.TrailingZeros
set_option linter.constructorNameAsVariable false
set_option linter.unusedSimpArgs false
set_option linter.unusedVariables false
namespace Go.Am
open Go Go.Proofs
set_option maxHeartbeats 1000000
attribute [local irreducible] AU B3 Lex Br Ai Spec
variable {TB:Bc}
theorem AX {a:Ci} (h:Bh a=true):Bn a.al=true∧1≤a.nx.length∧a.nx.length≤12∧a.ac.length=a.nx.length:=by
  unfold Bh at h;grind
theorem Bt (a:Ci):Pure Tryz.prog TB 112 [BH a] (eB (Bh a)):=by
  refine eN Tryz.func112 rfl (by kernel_rfl) rfl ?_;intro Γ hΓ
  (repeat' first|refine sN rfl ?_ |refine tA rfl ?_ |refine s2 rfl fun _ _hb=>?_ |(refine sC rfl (C3 _) ?_;intro _ _hb) |refine s3 rfl ?_ ?_<;>rintro rfl |refine aU rfl ?_ |refine Aa ?_|(refine aC rfl ?_ ?_<;>rintro ⟨⟩)|refine aK ?_|refine aE ?_|refine aB ?_|refine aR ⟨_,rfl,?_⟩)
  all_goals try (show E.o _=E.o _;congr;unfold Bh;(try simp only [List.length_map] at *);grind)
  refine Ai.bound 1 rfl fun hB=>?_
  have hB:=hB (a.nx.map Jt) (.p (j:=1) rfl .refl)
  refine Ai.B0 (α:={k:Nat // k≤a.nx.length∧(a.nx.take k).all (DY (Af a.al).length a.nx.length)=true}) (fun ⟨k,hk,ha⟩=>[(1,.o (.ip (BQ a))),(3,eI .i64 a.nx.length),(4,eI .i64 k)]) (fun ⟨k,hk,ha⟩=>[]) 0 (fun ⟨k,hk,ha⟩=>a.nx.length - k) (⟨0,by omega,rfl⟩) [] (IE hΓ rfl rfl) (by (simp[cX,zC,hΓ])) ?_;rintro ⟨k,hk,ha⟩;(try dsimp only)
  (repeat first|refine tA rfl ?_ |refine s2 rfl fun _ _hb=>?_ |refine aU rfl ?_ |refine Aa ?_)
  (refine aC rfl ?_ ?_<;>rintro ⟨⟩)
  · obtain ⟨x,hx⟩:=get_some (l:=a.nx) (k:=k) (by (simp only[oZ] at *;omega))
    have hx':=get_map (g:=Jt) hx
    (repeat' first|refine sN rfl ?_ |(refine sA rfl ?_ ?_;first|exact tI|simp only[oZ] at *;omega) |(refine s4 rfl ‹_› rfl ?_ ?_;omega) |refine s2 rfl fun _ _hb=>?_ |refine sP rfl (BZ _) rfl ?_|(refine sC rfl (Tu _ _ _) ?_;intro _ _hb) |refine aU rfl ?_ |refine Aa ?_ |refine rE (by kernel_rfl) ?_|(refine aC rfl ?_ ?_<;>rintro ⟨⟩)|refine aK ?_|refine aE ?_|refine aB ?_|refine aR ⟨_,rfl,?_⟩)
    all_goals first
      | (have h1:=GD (f:=DY (Af a.al).length a.nx.length) hx (by grind);(show E.o _=E.o _;congr;unfold Bh;(try simp only [List.length_map] at *);grind);done)
      | (refine ⟨⟨k+1,by (simp only[oZ] at *;omega),E1 hx ha (by grind)⟩,by dsimp only;((simp only[oZ] at *;omega)),[],?_⟩;simp[cX,zC,hΓ];done)
  · (repeat' first|refine tA rfl ?_ |refine aU rfl ?_ |refine Aa ?_|(refine aC rfl ?_ ?_<;>rintro ⟨⟩)|refine aK ?_|refine aE ?_|refine aB ?_|refine aR ⟨_,rfl,?_⟩)
    show E.o _=E.o _;congr
    have h1:=E0 ha (by (simp only[oZ] at *;omega))
    unfold Bh;simp only [List.length_map] at *;grind
def Fx:List Int→Int
  | []=>0
  | x::l=>if x≠0 then x else Fx l
theorem CJ {α:Type} {l:List α} {k:Nat} {x:α} (h:l[k]? = some x):l.drop k=x::l.drop (k+1):=by
  obtain ⟨h1,rfl⟩:=List.getElem?_eq_some_iff.1 h
  exact List.drop_eq_getElem_cons h1
theorem SV (l:List Int):Pure Tryz.prog TB 192 [A7 l] (eI .i64 (Fx l)):=by
  refine eN Tryz.func192 rfl (by kernel_rfl) rfl ?_;intro Γ hΓ
  refine Ai.bound 0 rfl fun hB=>?_
  have hB:=hB (l.map Db) .refl
  (repeat' first|refine sN rfl ?_ |refine tA rfl ?_ |refine aU rfl ?_ |refine Aa ?_|(refine aC rfl ?_ ?_<;>rintro ⟨⟩)|refine aK ?_|refine aE ?_|refine aB ?_|refine aR ⟨_,rfl,?_⟩)
  refine Ai.B0 (α:={k:Nat // k≤l.length∧Fx l=Fx (l.drop k)}) (fun ⟨k,hk,ha⟩=>[(3,eI .i64 0),(6,A7 l),(7,eI .i64 l.length),(8,eI .i64 k)]) (fun ⟨k,hk,ha⟩=>[]) 0 (fun ⟨k,hk,ha⟩=>l.length - k) (⟨0,by omega,rfl⟩) [] (IE hΓ rfl rfl) (by (simp[cX,zC,hΓ])) ?_;rintro ⟨k,hk,ha⟩;(try dsimp only)
  (repeat first|refine s2 rfl fun _ _hb=>?_ |refine aU rfl ?_ |refine Aa ?_)
  (refine aC rfl ?_ ?_<;>rintro ⟨⟩)
  · obtain ⟨x,hx⟩:=get_some (l:=l) (k:=k) (by (simp only[oZ] at *;omega))
    have hx':=get_map (g:=Db) hx
    rw [CJ hx,Fx] at ha
    (repeat' first|(refine sA rfl ?_ ?_;first|exact tI|simp only[oZ] at *;omega) |(refine s4 rfl ‹_› rfl ?_ ?_;omega) |refine s2 rfl fun _ _hb=>?_ |refine aU rfl ?_ |refine Aa ?_|(refine aC rfl ?_ ?_<;>rintro ⟨⟩)|refine aK ?_|refine aE ?_|refine aB ?_|refine aR ⟨_,rfl,?_⟩)
    · rw [if_pos (by grind)] at ha
      rw [ha]
    · rw [if_neg (by grind)] at ha
      refine ⟨⟨k+1,by (simp only[oZ] at *;omega),ha⟩,by dsimp only;((simp only[oZ] at *;omega)),[],?_⟩
      simp[cX,zC,hΓ]
  · (repeat' first|refine tA rfl ?_ |refine aU rfl ?_ |refine Aa ?_|(refine aC rfl ?_ ?_<;>rintro ⟨⟩)|refine aK ?_|refine aE ?_|refine aB ?_|refine aR ⟨_,rfl,?_⟩)
    rw [ha,List.drop_of_length_le (by (simp only[oZ] at *;omega))];rfl
def WK (e f:Dw):Int:=Fx [MS e.f f.f,MS e.l f.l,MS e.t f.t]
theorem SU (e f:Dw):(0≤WK e f)=(HN e f=false):=by
  unfold WK HN;simp only [Fx,MS];grind
theorem JH (e f:Dw):Pure Tryz.prog TB 161 [SW e,SW f] (eI .i64 (WK e f)):=by
  refine eN Tryz.func161 rfl (by kernel_rfl) rfl ?_;intro Γ hΓ
  (repeat' first|refine tA rfl ?_ |refine sP rfl (Lx _ _) rfl ?_|refine sP rfl (SV [MS e.f f.f,MS e.l f.l,MS e.t f.t]) rfl ?_ |refine aU rfl ?_ |refine Aa ?_ |refine rE (by kernel_rfl) ?_|(refine aC rfl ?_ ?_<;>rintro ⟨⟩)|refine aK ?_|refine aE ?_|refine aB ?_|refine aR ⟨_,rfl,?_⟩)
  rfl
theorem NA {s:Sys} {e:Dw} (h:s.es[0]? = some e):GA s 0=CT s.al s.st e:=by
  unfold GA;rw [h];simp
theorem Kb {s:Sys} {k:Nat} {e p:Dw} (h:s.es[k+1]? = some e) (hp:s.es[k]? = some p):GA s (k+1)=(CT s.al s.st e && HN p e):=by
  unfold GA;rw [h];simp [hp]
theorem FJ {k:Nat} {f:Nat→Bool} (h:∀i,i < k→f i=true) (h1:f k=true):∀i,i < k+1→f i=true:=fun i hi=>by
  rcases Nat.lt_succ_iff_lt_or_eq.1 hi with h2|h2
  · exact h i h2
  · rw [h2];exact h1
theorem GZ {s:Sys} {k:Nat} (hk:k < s.es.length) (h:GA s k=false):BD s=false:=by
  have h1:(List.range s.es.length).all (GA s)=false:=by
    rw [List.all_eq_false];exact ⟨k,List.mem_range.2 hk,by simp [h]⟩
  unfold BD;rw [h1];simp
theorem Lc {s:Sys} {k:Nat} (h0:Bn s.al=true) (h1:1≤s.st∧s.st≤16) (hk:s.es.length≤k) (h:∀i,i < k→GA s i=true):BD s=true:=by
  have h1:(List.range s.es.length).all (GA s)=true:=by
    rw [List.all_eq_true];intro i hi;exact h i (by have:=List.mem_range.1 hi;omega)
  unfold BD;rw [h1];grind
theorem Cm (s:Sys):Pure Tryz.prog TB 143 [CS s] (eB (BD s)):=by
  refine eN Tryz.func143 rfl (by kernel_rfl) rfl ?_;intro Γ hΓ
  (repeat' first|refine tA rfl ?_ |refine s2 rfl fun _ _hb=>?_ |(refine sC rfl (C3 _) ?_;intro _ _hb) |refine s3 rfl ?_ ?_<;>rintro rfl |refine aU rfl ?_ |refine Aa ?_|(refine aC rfl ?_ ?_<;>rintro ⟨⟩)|refine aK ?_|refine aE ?_|refine aB ?_|refine aR ⟨_,rfl,?_⟩)
  all_goals try (show E.o _=E.o _;congr;unfold BD;(try simp only [List.length_map] at *);grind)
  refine Ai.bound 1 rfl fun hB=>?_
  have hB:=hB (s.es.map CZ) (.p (j:=2) rfl .refl)
  refine Ai.B0 (α:={k:Nat // k≤s.es.length∧∀i,i < k→GA s i=true}) (fun ⟨k,hk,ha⟩=>[(1,.o (.ip (B9 s))),(3,eI .i64 k)]) (fun ⟨k,hk,ha⟩=>[]) 0 (fun ⟨k,hk,ha⟩=>s.es.length - k) (⟨0,by omega,by omega⟩) [] (IE hΓ rfl rfl) (by (simp[cX,zC,hΓ])) ?_;rintro ⟨k,hk,ha⟩;(try dsimp only)
  (repeat first|refine sN rfl ?_ |refine tA rfl ?_ |refine s2 rfl fun _ _hb=>?_ |refine aU rfl ?_ |refine Aa ?_)
  (refine aC rfl ?_ ?_<;>rintro ⟨⟩)
  · obtain ⟨e,hx⟩:=get_some (l:=s.es) (k:=k) (by (simp only[oZ] at *;omega))
    have hx':=get_map (g:=CZ) hx
    cases k with
    | zero=>
      have h1:=NA hx
      (repeat' first|(refine sA rfl ?_ ?_;first|exact tI|omega) |(refine s4 rfl ‹_› rfl ?_ ?_;first|omega|simp only[oZ] at *;omega) |refine s2 rfl fun _ _hb=>?_ |(refine sC rfl (Ml _ _ e) ?_;intro _ _hb)|(refine sC rfl (Jv _ _) ?_;intro _ _hb) |refine s3 rfl ?_ ?_<;>rintro rfl |refine aU rfl ?_ |refine Aa ?_ |refine rE (by kernel_rfl) ?_|(refine aC rfl ?_ ?_<;>rintro ⟨⟩)|refine aK ?_|refine aE ?_|refine aB ?_|refine aR ⟨_,rfl,?_⟩)
      all_goals first
        | (exfalso;(simp only[oZ] at *;omega);done)
        | (have h2:=GZ (s:=s) (k:=0) (by (simp only[oZ] at *;omega)) (by grind);show E.o _=E.o _;congr;exact h2.symm;done)
        | (refine ⟨⟨0+1,by (simp only[oZ] at *;omega),FJ ha (by grind)⟩,by dsimp only;((simp only[oZ] at *;omega)),[],?_⟩;simp[cX,zC,hΓ];done)
    | succ k=>
      obtain ⟨p,hp⟩:=get_some (l:=s.es) (k:=k) (by omega)
      have hp':(s.es.map CZ)[(((k+1:Nat):Int) - 1).toNat]? = some (CZ p):=by simp [hp]
      have h1:=Kb hx hp
      (repeat' first|(refine sA rfl ?_ ?_;first|exact tI|simp only[oZ] at *;omega) |(refine s4 rfl ‹_› rfl ?_ ?_;omega) |refine s2 rfl fun _ _hb=>?_ |(refine sC rfl (Ml _ _ e) ?_;intro _ _hb)|(refine sC rfl (Jv p e) ?_;intro _ _hb) |refine s3 rfl ?_ ?_<;>rintro rfl |refine aU rfl ?_ |refine Aa ?_ |refine rE (by kernel_rfl) ?_|(refine aC rfl ?_ ?_<;>rintro ⟨⟩)|refine aK ?_|refine aE ?_|refine aB ?_|refine aR ⟨_,rfl,?_⟩)
      all_goals first
        | (exfalso;(simp only[oZ] at *;omega);done)
        | (have h2:=GZ (s:=s) (k:=k+1) (by (simp only[oZ] at *;omega)) (by grind);show E.o _=E.o _;congr;exact h2.symm;done)
        | (refine ⟨⟨k+1+1,by (simp only[oZ] at *;omega),FJ ha (by grind)⟩,by dsimp only;((simp only[oZ] at *;omega)),[],?_⟩;simp[cX,zC,hΓ];done)
  · (repeat' first|refine tA rfl ?_ |refine aU rfl ?_ |refine Aa ?_|(refine aC rfl ?_ ?_<;>rintro ⟨⟩)|refine aK ?_|refine aE ?_|refine aB ?_|refine aR ⟨_,rfl,?_⟩)
    have h2:=Lc (s:=s) (by grind) (by grind) (by (simp only[oZ] at *;omega)) ha
    show E.o _=E.o _;congr;exact h2.symm
theorem Mc {s:Sys} {e:Dw}:CT s.al s.st e=(decide (0≤e.f∧e.f < s.st) && decide (0≤e.t∧e.t < s.st) && decide (e.l < 6) && hasB s.al e.l):=by
  unfold CT hasB;grind
theorem Hv (s:Sys):Pure Tryz.prog TB 121 [CS s] (eB (BD s)):=by
  refine eN Tryz.func121 rfl (by kernel_rfl) rfl ?_;intro Γ hΓ
  (repeat' first|refine sN rfl ?_ |refine tA rfl ?_ |refine s2 rfl fun _ _hb=>?_ |(refine sC rfl (DE _) ?_;intro _ _hb) |refine s3 rfl ?_ ?_<;>rintro rfl |refine aU rfl ?_ |refine Aa ?_|(refine aC rfl ?_ ?_<;>rintro ⟨⟩)|refine aK ?_|refine aE ?_|refine aB ?_|refine aR ⟨_,rfl,?_⟩)
  all_goals try (show E.o _=E.o _;congr;unfold BD;(try simp only [List.length_map] at *);grind)
  refine Ai.bound 1 rfl fun hB=>?_
  have hB:=hB (s.es.map CZ) (.p (j:=2) rfl .refl)
  refine Ai.B0 (α:={k:Nat // k≤s.es.length∧∀i,i < k→GA s i=true}) (fun ⟨k,hk,ha⟩=>[(1,.o (.ip (B9 s))),(20,.o (.d (EO s.es))),(21,eI .i64 s.es.length),(22,eI .i64 k)]) (fun ⟨k,hk,ha⟩=>[]) 0 (fun ⟨k,hk,ha⟩=>s.es.length - k) (⟨0,by omega,by omega⟩) [] (IE hΓ rfl rfl) (by (simp[cX,zC,hΓ])) ?_;rintro ⟨k,hk,ha⟩;(try dsimp only)
  (repeat first|refine s2 rfl fun _ _hb=>?_ |refine aU rfl ?_ |refine Aa ?_)
  (refine aC rfl ?_ ?_<;>rintro ⟨⟩)
  · obtain ⟨e,hx⟩:=get_some (l:=s.es) (k:=k) (by (simp only[oZ] at *;omega))
    have hx':=get_map (g:=CZ) hx
    cases k with
    | zero=>
      have h1:=NA hx
      rw [Mc] at h1
      (repeat' first|(refine sA rfl ?_ ?_;first|exact tI|omega) |(refine s4 rfl ‹_› rfl ?_ ?_;first|omega|simp only[oZ] at *;omega) |refine s2 rfl fun _ _hb=>?_ |(refine sC rfl (Kv s _) ?_;intro _ _hb)|(refine sC rfl (Kt _ _) ?_;intro _ _hb) |refine s3 rfl ?_ ?_<;>rintro rfl |refine aU rfl ?_ |refine Aa ?_ |refine rE (by kernel_rfl) ?_|(refine aC rfl ?_ ?_<;>rintro ⟨⟩)|refine aK ?_|refine aE ?_|refine aB ?_|refine aR ⟨_,rfl,?_⟩)
      all_goals first
        | (exfalso;(simp only[oZ] at *;omega);done)
        | (have h2:=GZ (s:=s) (k:=0) (by (simp only[oZ] at *;omega)) (by grind);show E.o _=E.o _;congr;exact h2.symm;done)
        | (refine ⟨⟨0+1,by (simp only[oZ] at *;omega),FJ ha (by grind)⟩,by dsimp only;((simp only[oZ] at *;omega)),[],?_⟩;simp[cX,zC,hΓ];done)
    | succ k=>
      obtain ⟨p,hp⟩:=get_some (l:=s.es) (k:=k) (by omega)
      have hp':(s.es.map CZ)[(((k+1:Nat):Int) - 1).toNat]? = some (CZ p):=by simp [hp]
      have h1:=Kb hx hp
      have h3:=SU p e
      rw [Mc] at h1
      (repeat' first|(refine sA rfl ?_ ?_;first|exact tI|simp only[oZ] at *;omega) |(refine s4 rfl ‹_› rfl ?_ ?_;omega) |refine s2 rfl fun _ _hb=>?_ |(refine sC rfl (Kv s _) ?_;intro _ _hb)|(refine sC rfl (Kt _ _) ?_;intro _ _hb)|refine sP rfl (JH p e) rfl ?_ |refine s3 rfl ?_ ?_<;>rintro rfl |refine aU rfl ?_ |refine Aa ?_ |refine rE (by kernel_rfl) ?_|(refine aC rfl ?_ ?_<;>rintro ⟨⟩)|refine aK ?_|refine aE ?_|refine aB ?_|refine aR ⟨_,rfl,?_⟩)
      all_goals first
        | (exfalso;(simp only[oZ] at *;omega);done)
        | (have h2:=GZ (s:=s) (k:=k+1) (by (simp only[oZ] at *;omega)) (by grind);show E.o _=E.o _;congr;exact h2.symm;done)
        | (refine ⟨⟨k+1+1,by (simp only[oZ] at *;omega),FJ ha (by grind)⟩,by dsimp only;((simp only[oZ] at *;omega)),[],?_⟩;simp[cX,zC,hΓ];done)
  · (repeat' first|refine tA rfl ?_ |refine aU rfl ?_ |refine Aa ?_|(refine aC rfl ?_ ?_<;>rintro ⟨⟩)|refine aK ?_|refine aE ?_|refine aB ?_|refine aR ⟨_,rfl,?_⟩)
    have h2:=Lc (s:=s) (by grind) (by grind) (by (simp only[oZ] at *;omega)) ha
    show E.o _=E.o _;congr;exact h2.symm
theorem LX {a:Ci} {k:Nat} {x:List Int} (hx:a.nx[k]? = some x) (h:DY (Af a.al).length a.nx.length x=false):Bh a=false:=by
  have h1:=GD (f:=DY (Af a.al).length a.nx.length) hx h
  unfold Bh;rw [h1];simp
theorem Pc {a:Ci} {k:Nat} (h0:Bn a.al=true) (h1:1≤a.nx.length∧a.nx.length≤12) (h2:a.ac.length=a.nx.length) (hk:a.nx.length≤k) (h:(a.nx.take k).all (DY (Af a.al).length a.nx.length)=true):Bh a=true:=by
  have h3:=E0 h hk
  unfold Bh;rw [h3];grind
theorem Cu (a:Ci):Pure Tryz.prog TB 43 [BH a] (eB (Bh a)):=by
  refine eN Tryz.func43 rfl (by kernel_rfl) rfl ?_;intro Γ hΓ
  (repeat' first|refine sN rfl ?_ |refine tA rfl ?_ |refine s2 rfl fun _ _hb=>?_ |(refine sC rfl (DE _) ?_;intro _ _hb)|refine sP rfl (Dp _) rfl ?_ |refine s3 rfl ?_ ?_<;>rintro rfl |refine aU rfl ?_ |refine Aa ?_|(refine aC rfl ?_ ?_<;>rintro ⟨⟩)|refine aK ?_|refine aE ?_|refine aB ?_|refine aR ⟨_,rfl,?_⟩)
  all_goals try (show E.o _=E.o _;congr;unfold Bh;(try simp only [List.length_map] at *);grind)
  refine Ai.bound 1 rfl fun hB=>?_
  have hB:=hB (a.nx.map Jt) (.p (j:=1) rfl .refl)
  refine Ai.B0 (α:={k:Nat // k≤a.nx.length∧(a.nx.take k).all (DY (Af a.al).length a.nx.length)=true}) (fun ⟨k,hk,ha⟩=>[(1,.o (.ip (BQ a))),(3,eI .i64 (Af a.al).length),(38,Kp a.nx),(39,eI .i64 a.nx.length),(40,eI .i64 k)]) (fun ⟨k,hk,ha⟩=>[]) 0 (fun ⟨k,hk,ha⟩=>a.nx.length - k) (⟨0,by omega,rfl⟩) [] (IE hΓ rfl rfl) (by (simp[cX,zC,hΓ])) ?_;rintro ⟨k,hk,ha⟩;(try dsimp only)
  (repeat first|refine s2 rfl fun _ _hb=>?_ |refine aU rfl ?_ |refine Aa ?_)
  (refine aC rfl ?_ ?_<;>rintro ⟨⟩)
  · obtain ⟨x,hx⟩:=get_some (l:=a.nx) (k:=k) (by (simp only[oZ] at *;omega))
    have hx':=get_map (g:=Jt) hx
    (repeat' first|refine sN rfl ?_ |refine tA rfl ?_ |(refine s4 rfl ‹_› rfl ?_ ?_;omega) |refine s2 rfl fun _ _hb=>?_ |refine aU rfl ?_ |refine Aa ?_|(refine aC rfl ?_ ?_<;>rintro ⟨⟩)|refine aK ?_|refine aE ?_|refine aB ?_|refine aR ⟨_,rfl,?_⟩)
    · have h2:=LX hx (by unfold DY;grind)
      show E.o _=E.o _;congr;exact h2.symm
    refine Ai.bound 5 rfl fun hB2=>?_
    have hB2:=hB2 (x.map Db) .refl
    refine Ai.B0 (α:={j:Nat // j≤x.length∧(x.take j).all (Nz a.nx.length)=true}) (fun ⟨j,hj,hc⟩=>[(1,.o (.ip (BQ a))),(3,eI .i64 (Af a.al).length),(38,Kp a.nx),(39,eI .i64 a.nx.length),(40,eI .i64 k),(48,A7 x),(49,eI .i64 x.length),(50,eI .i64 j)]) (fun ⟨j,hj,hc⟩=>[]) 0 (fun ⟨j,hj,hc⟩=>x.length - j) (⟨0,by omega,rfl⟩) [] (IE hΓ rfl rfl) (by (simp[cX,zC,hΓ])) ?_;rintro ⟨j,hj,hc⟩;(try dsimp only)
    (repeat first|refine s2 rfl fun _ _hb=>?_ |refine aU rfl ?_ |refine Aa ?_)
    (refine aC rfl ?_ ?_<;>rintro ⟨⟩)
    · obtain ⟨y,hy⟩:=get_some (l:=x) (k:=j) (by (simp only[oZ] at *;omega))
      have hy':=get_map (g:=Db) hy
      (repeat' first|refine sN rfl ?_ |(refine sA rfl ?_ ?_;first|exact tI|simp only[oZ] at *;omega) |(refine s4 rfl ‹_› rfl ?_ ?_;omega) |refine s2 rfl fun _ _hb=>?_ |refine s3 rfl ?_ ?_<;>rintro rfl |refine aU rfl ?_ |refine Aa ?_|(refine aC rfl ?_ ?_<;>rintro ⟨⟩)|refine aK ?_|refine aE ?_|refine aB ?_|refine aR ⟨_,rfl,?_⟩)
      all_goals first
        | (have h2:=LX hx (by rw [DY,GD hy (by unfold Nz;grind)];simp);show E.o _=E.o _;congr;exact h2.symm;done)
        | (refine ⟨⟨j+1,by (simp only[oZ] at *;omega),E1 hy hc (by unfold Nz;grind)⟩,by dsimp only;((simp only[oZ] at *;omega)),[],?_⟩;simp[cX,zC,hΓ];done)
    · (repeat' first|(refine sA rfl ?_ ?_;first|exact tI|simp only[oZ] at *;omega) |refine aU rfl ?_ |refine Aa ?_|(refine aC rfl ?_ ?_<;>rintro ⟨⟩)|refine aK ?_|refine aE ?_|refine aB ?_|refine aR ⟨_,rfl,?_⟩)
      have h3:=E0 hc (by (simp only[oZ] at *;omega))
      refine ⟨⟨k+1,by (simp only[oZ] at *;omega),E1 hx ha (by rw [DY,h3];grind)⟩,by dsimp only;((simp only[oZ] at *;omega)),[],?_⟩
      simp[cX,zC,hΓ]
  · (repeat' first|refine tA rfl ?_ |refine aU rfl ?_ |refine Aa ?_|(refine aC rfl ?_ ?_<;>rintro ⟨⟩)|refine aK ?_|refine aE ?_|refine aB ?_|refine aR ⟨_,rfl,?_⟩)
    have h2:=Pc (a:=a) (by grind) (by grind) (by grind) (by (simp only[oZ] at *;omega)) ha
    show E.o _=E.o _;congr;exact h2.symm
def Dj (a:Ci) (q:Nat) (l:Int):Int:=if DQ a.al l.toNat then ((a.nx.getD q []).getD (AB a.al l.toNat).length 0) else q
theorem HY {s:Int} {l k:Nat} (hl:l < k) (hb:DQ s l=true):(AB s l).length < (AB s k).length:=by
  induction k with
  | zero=>omega
  | succ k ih=>
    rw [Cd,List.length_append]
    rcases Nat.lt_succ_iff_lt_or_eq.1 hl with h|h
    · have:=ih h;omega
    · subst h;rw [if_pos hb];simp
theorem GF {a:Ci} (h:Bh a=true) {q:Nat} (hq:q < a.nx.length):∃row,a.nx[q]? = some row∧row.length=(Af a.al).length∧∀(i:Nat) (x:Int),row[i]? = some x→0≤x∧x < a.nx.length:=by
  obtain ⟨row,hr⟩:=get_some hq
  refine ⟨row,hr,?_⟩
  unfold Bh at h
  rw [Bool.and_eq_true,List.all_eq_true] at h
  have h1:=h.2 row (List.mem_of_getElem? hr)
  unfold DY at h1
  rw [Bool.and_eq_true,List.all_eq_true] at h1
  refine ⟨by grind,fun i x hx=>?_⟩
  have:=h1.2 x (List.mem_of_getElem? hx)
  unfold Nz at this;grind
theorem MW (a:Ci) (h:Bh a=true) (q:Nat) (hq:q < a.nx.length) (l:Int) (h0:0≤l) (h1:l < 6):Pure Tryz.prog TB 102 [BH a,eI .i64 q,eI .i64 l] (eI .i64 (Dj a q l)):=by
  refine eN Tryz.func102 rfl (by kernel_rfl) rfl ?_;intro Γ hΓ
  obtain ⟨row,hr,hl,hx⟩:=GF h hq
  have hr':=get_map (g:=Jt) hr
  by_cases hb:DQ a.al l.toNat=true
  · have hlt:(AB a.al l.toNat).length < row.length:=by rw [hl];exact HY (by omega) hb
    obtain ⟨y,hy⟩:=get_some hlt
    have hy':=get_map (g:=Db) hy
    (repeat' first|refine tA rfl ?_ |(refine s4 rfl ‹_› rfl ?_ ?_;omega) |refine s2 rfl fun _ _hb=>?_ |(refine sC rfl (C4 _ _ (by omega) (by omega)) ?_;intro _ _hb)|refine sP rfl (Po _ _ (by omega) (by omega)) rfl ?_ |refine aU rfl ?_ |refine Aa ?_ |refine rE (by kernel_rfl) ?_|(refine aC rfl ?_ ?_<;>rintro ⟨⟩)|refine aK ?_|refine aE ?_|refine aB ?_|refine aR ⟨_,rfl,?_⟩)
    all_goals first
      | (exfalso;grind;done)
      | (show E.o _=E.o _;congr;unfold Dj;rw [if_pos hb];simp [List.getD,hr,hy];done)
  · (repeat' first|refine tA rfl ?_ |(refine s4 rfl ‹_› rfl ?_ ?_;omega) |refine s2 rfl fun _ _hb=>?_ |(refine sC rfl (C4 _ _ (by omega) (by omega)) ?_;intro _ _hb) |refine aU rfl ?_ |refine Aa ?_ |refine rE (by kernel_rfl) ?_|(refine aC rfl ?_ ?_<;>rintro ⟨⟩)|refine aK ?_|refine aE ?_|refine aB ?_|refine aR ⟨_,rfl,?_⟩)
    all_goals first
      | (show E.o _=E.o _;congr;unfold Dj;rw [if_neg hb];done)
      | (exfalso;grind;done)
structure Net where
  ps:List Sys
  au:List Ci
  st:List Int
  ls:Int
  kd:Int
  gl:Int
end Go.Am
namespace Go.Am
open Go
inductive Fits:List Int→List Int→Prop
  | nil:Fits [] []
  | cons {z s:Int} {zs ss:List Int}:0≤s→s < z→Fits zs ss→Fits (z::zs) (s::ss)
end Go.Am
namespace Go.Am
open Go Go.Proofs
set_option maxHeartbeats 1000000
attribute [local irreducible] AU B3 Lex Br Ai Spec
variable {TB:Bc}
end Go.Am
namespace Go.Am
open Go
theorem Pd {a b c:Dw} (h:HN a b=true) (k:HN b c=true):HN a c=true:=by
  unfold HN at *;grind
theorem B7 {s:Sys} (h:BD s=true):Bn s.al=true∧1≤s.st∧s.st≤16:=by
  unfold BD at h;grind
theorem CE {s:Sys} (h:BD s=true) {e:Dw} (he:e∈s.es):CT s.al s.st e=true:=by
  obtain ⟨k,hk,rfl⟩:=List.getElem_of_mem he
  unfold BD at h
  simp only [Bool.and_eq_true,List.all_eq_true] at h
  have h1:=h.2 k (List.mem_range.2 hk)
  cases k with
  | zero=>rw [NA (List.getElem?_eq_getElem hk)] at h1;exact h1
  | succ k=>rw [Kb (List.getElem?_eq_getElem hk) (List.getElem?_eq_getElem (by omega))] at h1;grind
theorem NB {s:Sys} (h:BD s=true):s.es.Pairwise fun a b=>HN a b=true:=by
  have key:∀(l:List Dw),(∀(k:Nat) (p e:Dw),l[k]? = some p→l[k+1]? = some e→HN p e=true)→l.Pairwise fun a b=>HN a b=true:=by
    intro l
    induction l with
    | nil=>intro _;exact .nil
    | cons a l ih=>
      intro hl
      have h1:=ih fun k p e hp he=>hl (k+1) p e (by simpa using hp) (by simpa using he)
      refine List.pairwise_cons.2 ⟨fun b hb=>?_,h1⟩
      cases l with
      | nil=>cases hb
      | cons c l=>
        have h2:=hl 0 a c rfl rfl
        rcases List.mem_cons.1 hb with rfl|hb
        · exact h2
        · exact Pd h2 ((List.pairwise_cons.1 h1).1 b hb)
  refine key _ fun k p e hp he=>?_
  unfold BD at h
  simp only [Bool.and_eq_true,List.all_eq_true] at h
  have h1:=h.2 (k+1) (List.mem_range.2 (List.getElem?_eq_some_iff.1 he).1)
  rw [Kb he hp] at h1
  grind
theorem Gp {a:Ci} (h:Bh a=true) {q:Nat} (hq:q < a.nx.length) {l:Int} (h0:0≤l) (h1:l < 6):0≤Dj a q l∧Dj a q l < a.nx.length:=by
  obtain ⟨row,hr,hl,hx⟩:=GF h hq
  unfold Dj
  split
  · rename_i hb
    have hlt:(AB a.al l.toNat).length < row.length:=by rw [hl];exact HY (by omega) hb
    obtain ⟨y,hy⟩:=get_some hlt
    have:=hx _ y hy
    simpa [List.getD,hr,hy] using this
  · omega
structure Z8 (n:Net):Prop where
  ps:∀s∈n.ps,BD s=true
  au:∀a∈n.au,Bh a=true
  np:n.ps.length≤3
  na:n.au.length≤2
inductive Ws:List Int→List (List Int)→Prop
  | nil:Ws [] []
  | cons {z:Int} {c:List Int} {zs:List Int} {cs:List (List Int)}:(∀x∈c,0≤x∧x < z)→(c.length:Int)≤z→Ws zs cs→Ws (z::zs) (c::cs)
theorem Td {α β:Type} (l:List α) (g:α→List β) (n:Int) (h:∀x∈l,((g x).length:Int)≤n):((l.flatMap g).length:Int)≤l.length*n:=by
  induction l with
  | nil=>simp
  | cons a l ih=>
    have h1:=h a (by simp)
    have h2:=ih fun x hx=>h x (by simp [hx])
    simp only [List.flatMap_cons,List.length_append,List.length_cons]
    have h3:((l.length:Int)+1)*n=l.length*n+n:=by rw [Int.add_mul];simp
    push_cast
    omega
end Go.Am
namespace Go.Am
open Go Go.Proofs
set_option maxHeartbeats 1000000
attribute [local irreducible] AU B3 Lex Br Ai Spec
variable {TB:Bc}
theorem Bj {s:Int} {k:Nat} {l:Int} (h:l∈AB s k):0≤l∧l < k∧DQ s l.toNat=true:=by
  unfold AB at h
  obtain ⟨i,hi,rfl⟩:=List.mem_map.1 h
  obtain ⟨h1,h2⟩:=List.mem_filter.1 hi
  have:=List.mem_range.1 h1
  exact ⟨Int.natCast_nonneg _,by show ((i:Nat):Int) < k;omega,h2⟩
structure ay (n:Net):Prop where
  one:n.kd=0∨n.kd=3∨n.kd=5→1≤n.au.length
  two:n.kd=1∨n.kd=2→2≤n.au.length
theorem Og {α β:Type} {l:List α} {g:α→β} {k:Nat} {x:α} (h:l[k]? = some x):(l.map g)[0+((k:Nat):Int).toNat]? = some (g x):=by simp [h]
def Xe (l:List Int):Nat:=l.countP (decide <| · < 0)
structure Wt (mv:List (List (List Int))) (g:Nat→Bool) (dist:List Int):Prop where
  len:dist.length=mv.length
  zero:∀i,i < mv.length→(dist.getD i 0=0↔g i=true)
  step:∀i,i < mv.length→0 < dist.getD i 0→∃r∈mv.getD i [],∃j∈r,dist.getD j.toNat 0=dist.getD i 0 - 1
  close:∀i,i < mv.length→∀r∈mv.getD i [],∀j∈r,0≤dist.getD j.toNat 0→0≤dist.getD i 0∧dist.getD i 0≤dist.getD j.toNat 0+1
  bound:∀i,i < mv.length→-1≤dist.getD i 0∧dist.getD i 0≤mv.length+1
structure DI (mv:List (List (List Int))) (g:Nat→Bool) (dist:List Int) (d:Int) (more:Bool) (i:Nat):Prop where
  len:dist.length=mv.length
  d1:1≤d
  zero:∀i,i < mv.length→(dist.getD i 0=0↔g i=true)
  step:∀i,i < mv.length→0 < dist.getD i 0→∃r∈mv.getD i [],∃j∈r,dist.getD j.toNat 0=dist.getD i 0 - 1
  lt:∀x,x < mv.length→-1≤dist.getD x 0∧dist.getD x 0≤d
  up:∀x,i≤x→x < mv.length→dist.getD x 0 < d
  last:more=false→∀x,x < mv.length→dist.getD x 0 < d
  close:∀x,x < mv.length→∀r∈mv.getD x [],∀j∈r,0≤dist.getD j.toNat 0→(dist.getD j.toNat 0 < d - 1∨x < i∧dist.getD j.toNat 0=d - 1)→0≤dist.getD x 0∧dist.getD x 0≤dist.getD j.toNat 0+1
structure Z5 (mv:List (List (List Int))) (g:Nat→Bool) (dt:List Int) (d:Int) (more:Bool):Prop where
  len:dt.length=mv.length
  d1:1≤d
  d2:d≤mv.length+2
  yes:more=true→DI mv g dt d true 0∧d+Xe dt≤mv.length+1
  no:more=false→Wt mv g dt
structure ax (mv:List (List (List Int))) (g:Nat→Bool) (dt:List Int) (d:Int) (du:List Int) (m2:Bool) (i:Nat):Prop where
  le:i≤mv.length
  di:DI mv g du d m2 i
  cnt:Xe du+(if m2 then 1 else 0)≤Xe dt
theorem RD (l:List Int) (a:Int):l.length=l.count a+(l.filter (· != a)).length:=by
  induction l with
  | nil=>rfl
  | cons b l ih=>
    simp only [List.count_cons,List.filter_cons,List.length_cons]
    by_cases h:b=a
    · subst h;simp;omega
    · simp [h];omega
theorem GS:∀(n:Nat) (l:List Int),l.Nodup→(∀x∈l,0≤x∧x < n)→l.length≤n
  | 0,l,_,h=>by
    cases l with
    | nil=>simp
    | cons a l=>have:=h a (by simp);omega
  | n + 1,l,hn,h=>by
    have h1:=RD l n
    have h2:=List.nodup_iff_count.1 hn n
    have h3:=GS n (l.filter (· != (n:Int))) (hn.filter _) fun x hx=>by
      obtain ⟨h4,h5⟩:=List.mem_filter.1 hx
      have:=h x h4
      simp at h5
      omega
    omega
def XU (n:Nat) (acc:List Int):Prop:=acc.Nodup∧∀x∈acc,0≤x∧x < n
theorem Pj {α β:Type} {l:List α} {k:Nat} {x:α} (h:l[k]? = some x) (f:β→α→β) (b:β):(l.take (k+1)).foldl f b=f ((l.take k).foldl f b) x:=by
  rw [List.take_add_one,h,List.foldl_append];rfl
end Go.Am
namespace Go.Am
open Go
structure Gr where
  N:Nat
  succ:Int→Int→List Int
  goal:Int→Bool
  ls:List Int
  s0:Int
structure NR (g:Gr):Prop where
  s0:0≤g.s0∧g.s0 < g.N
  inn:∀x:Int,0≤x∧x < g.N→∀l∈g.ls,∀y∈g.succ x l,0≤y∧y < g.N
  srt:g.ls.Pairwise (· < ·)
def reach (g:Gr):List Int→Int→Int→Prop
  | [],a,x=>a=x
  | l::w,a,x=>∃y∈g.succ a l,reach g w y x
def over (g:Gr) (w:List Int):Prop:=∀l∈w,l∈g.ls
def Vk (g:Gr) (w:List Int):Prop:=∃x,reach g w g.s0 x∧g.goal x=true
def O6:List Int→List Int→Prop
  | a::u,b::w=>a < b∨a=b∧O6 u w
  | _,_=>False
def slt (u w:List Int):Prop:=u.length < w.length∨u.length=w.length∧O6 u w
def Dg (g:Gr):Option (List Int)→Prop
  | some w=>over g w∧Vk g w∧∀u,over g u→Vk g u→¬slt u w
  | none=>∀u,over g u→¬Vk g u
theorem Eu {g:Gr}:∀ {w:List Int} {l a x:Int},reach g (w++[l]) a x↔∃y,reach g w a y∧x∈g.succ y l
  | [],l,a,x=>by simp [reach]
  | m::w,l,a,x=>by
    simp only [List.cons_append,reach,Eu]
    constructor
    · rintro ⟨y,hy,z,hz,hx⟩;exact ⟨z,⟨y,hy,hz⟩,hx⟩
    · rintro ⟨z,⟨y,hy,hz⟩,hx⟩;exact ⟨y,hy,z,hz,hx⟩
theorem Fm {g:Gr} (hg:NR g):∀ {w:List Int} {a x:Int},over g w→(0≤a∧a < g.N)→reach g w a x→0≤x∧x < g.N
  | [],a,x,_,ha,h=>by have h:a=x:=h;subst h;exact ha
  | l::w,a,x,ho,ha,h=>by
    obtain ⟨y,hy,h⟩:=h
    exact Fm hg (fun m hm=>ho m (by simp [hm])) (hg.inn a ha l (ho l (by simp)) y hy) h
theorem GU {g:Gr} {w:List Int} {l:Int}:over g (w++[l])↔over g w∧l∈g.ls:=by
  unfold over;simp only [List.mem_append,List.mem_singleton]
  constructor
  · intro h;exact ⟨fun m hm=>h m (.inl hm),h l (.inr rfl)⟩
  · rintro ⟨h1,h2⟩ m (hm|rfl);exact h1 m hm;exact h2
theorem HZ:∀ {u w:List Int} {m l:Int},u.length=w.length→(O6 (u++[m]) (w++[l])↔O6 u w∨u=w∧m < l)
  | [],[],m,l,_=>by simp [O6]
  | [],b::w,m,l,h=>by simp at h
  | a::u,[],m,l,h=>by simp at h
  | a :: u,b::w,m,l,h=>by
    simp only [List.cons_append,O6,HZ (u:=u) (w:=w) (by simpa using h),List.cons.injEq]
    constructor
    · rintro (h|⟨h1,h2|⟨h2,h3⟩⟩)
      · exact .inl (.inl h)
      · exact .inl (.inr ⟨h1,h2⟩)
      · exact .inr ⟨⟨h1,h2⟩,h3⟩
    · rintro ((h|⟨h1,h2⟩)|⟨⟨h1,h2⟩,h3⟩)
      · exact .inl h
      · exact .inr ⟨h1,.inl h2⟩
      · exact .inr ⟨h1,.inr ⟨h2,h3⟩⟩
theorem Na:∀ {u w:List Int},u.length=w.length→O6 u w∨u=w∨O6 w u
  | [],[],_=>.inr (.inl rfl)
  | [],b::w,h=>by simp at h
  | a::u,[],h=>by simp at h
  | a :: u,b::w,h=>by
    simp only [O6,List.cons.injEq]
    have h1:=Na (u:=u) (w:=w) (by simpa using h)
    rcases Int.lt_trichotomy a b with h2|h2|h2
    · exact .inl (.inl h2)
    · rcases h1 with h1|h1|h1
      · exact .inl (.inr ⟨h2,h1⟩)
      · exact .inr (.inl ⟨h2,h1⟩)
      · exact .inr (.inr (.inr ⟨h2.symm,h1⟩))
    · exact .inr (.inr (.inl h2))
theorem VV {u w:List Int} (h1:¬slt u w) (h2:¬slt w u):u=w:=by
  unfold slt at h1 h2
  have hl:u.length=w.length:=by omega
  rcases Na hl with h|h|h
  · exact absurd (.inr ⟨hl,h⟩) h1
  · exact h
  · exact absurd (.inr ⟨hl.symm,h⟩) h2
theorem Dg.unique {g:Gr} {r s:Option (List Int)} (hr:Dg g r) (hs:Dg g s):r=s:=by
  cases r with
  | none=>
    cases s with
    | none=>rfl
    | some w=>exact absurd hs.2.1 (hr w hs.1)
  | some v=>
    cases s with
    | none=>exact absurd hr.2.1 (hs v hr.1)
    | some w=>rw [VV (hs.2.2 v hr.1 hr.2.1) (hr.2.2 w hs.1 hs.2.1)]
theorem Ot:∀(l:List Int) (Q:Int→Prop),(∃x∈l,Q x)→∃x∈l,Q x∧∀y∈l,Q y→¬y < x
  | [],Q,h=>by obtain ⟨x,hx,_⟩:=h;cases hx
  | a :: l,Q,h=>by
    by_cases ht:∃x∈l,Q x
    · obtain ⟨x,hx,hq,hm⟩:=Ot l Q ht
      by_cases ha:Q a∧a < x
      · refine ⟨a,by simp,ha.1,fun y hy hqy=>?_⟩
        rcases List.mem_cons.1 hy with rfl|hy
        · omega
        · have:=hm y hy hqy;omega
      · refine ⟨x,by simp [hx],hq,fun y hy hqy=>?_⟩
        rcases List.mem_cons.1 hy with rfl|hy
        · exact fun hlt=>ha ⟨hqy,hlt⟩
        · exact hm y hy hqy
    · obtain ⟨x,hx,hq⟩:=h
      rcases List.mem_cons.1 hx with rfl|hx
      · refine ⟨x,by simp,hq,fun y hy hqy=>?_⟩
        rcases List.mem_cons.1 hy with rfl|hy
        · omega
        · exact absurd ⟨y,hy,hqy⟩ ht
      · exact absurd ⟨x,hx,hq⟩ ht
theorem KC (ls:List Int):∀(n:Nat) (Q:List Int→Prop),(∃u:List Int,u.length=n∧(∀l∈u,l∈ls)∧Q u)→∃u:List Int,u.length=n∧(∀l∈u,l∈ls)∧Q u∧∀v:List Int,v.length=n→(∀l∈v,l∈ls)→Q v→¬O6 v u
  | 0,Q,⟨u,h1,h2,h3⟩=>by
    have:u=[]:=List.length_eq_zero_iff.1 h1
    subst this
    exact ⟨[],rfl,h2,h3,fun v hv _ _=>by have:v=[]:=List.length_eq_zero_iff.1 hv;subst this;exact fun h=>h⟩
  | n + 1,Q,⟨u,h1,h2,h3⟩=>by
    cases u with
    | nil=>simp at h1
    | cons a u=>
      obtain ⟨x,hx,⟨u1,h4,h5,h6⟩,hm⟩:=Ot ls (fun x=>∃u:List Int,u.length=n∧(∀l∈u,l∈ls)∧Q (x::u)) ⟨a,h2 a (by simp),u,by simpa using h1,fun l hl=>h2 l (by simp [hl]),h3⟩
      obtain ⟨u2,h7,h8,h9,h10⟩:=KC ls n (fun u=>Q (x::u)) ⟨u1,h4,h5,h6⟩
      refine ⟨x::u2,by simp [h7],fun l hl=>by rcases List.mem_cons.1 hl with rfl|hl;exact hx;exact h8 l hl,h9,fun v hv hvl hq=>?_⟩
      cases v with
      | nil=>simp at hv
      | cons b v=>
        have hb:=hm b (hvl b (by simp)) ⟨v,by simpa using hv,fun l hl=>hvl l (by simp [hl]),hq⟩
        rintro (h|⟨h,h'⟩)
        · exact hb h
        · subst h;exact h10 v (by simpa using hv) (fun l hl=>hvl l (by simp [hl])) hq h'
theorem Kq (g:Gr):∃r,Dg g r:=by
  by_cases h:∃u,over g u∧Vk g u
  · have key : ∀n,(∃u,u.length≤n∧over g u∧Vk g u)→∃m,(∃u,u.length=m∧over g u∧Vk g u)∧∀u,over g u→Vk g u→m≤u.length:=by
      intro n
      induction n with
      | zero=>
        rintro ⟨u,h1,h2,h3⟩
        exact ⟨0,⟨u,by omega,h2,h3⟩,fun _ _ _=>Nat.zero_le _⟩
      | succ n ih=>
        rintro ⟨u,h1,h2,h3⟩
        by_cases hx:∃u,u.length≤n∧over g u∧Vk g u
        · exact ih hx
        · refine ⟨n+1,⟨u,?_,h2,h3⟩,fun v hv hv'=>?_⟩
          · have:¬u.length≤n:=fun h=>hx ⟨u,h,h2,h3⟩
            omega
          · have:¬v.length≤n:=fun h=>hx ⟨v,h,hv,hv'⟩
            omega
    obtain ⟨u,hu⟩:=h
    obtain ⟨m,⟨v,h1,h2,h3⟩,hm⟩:=key u.length ⟨u,Nat.le_refl _,hu⟩
    obtain ⟨w,h4,h5,h6,h7⟩:=KC g.ls m (Vk g) ⟨v,h1,h2,h3⟩
    refine ⟨some w,h5,h6,fun u hu hh=>?_⟩
    rintro (h|⟨h,h'⟩)
    · have:=hm u hu hh;omega
    · exact h7 u (by omega) hu hh h'
  · exact ⟨none,fun u hu hh=>h ⟨u,hu,hh⟩⟩
structure Z6 (g:Gr) (dx:Int→Int):Prop where
  zero:∀x:Int,0≤x∧x < g.N→(dx x=0↔g.goal x=true)
  step:∀x:Int,0≤x∧x < g.N→0 < dx x→∃l∈g.ls,∃j∈g.succ x l,dx j=dx x - 1
  close:∀x:Int,0≤x∧x < g.N→∀l∈g.ls,∀j∈g.succ x l,0≤dx j→0≤dx x∧dx x≤dx j+1
structure az (g:Gr) (dx:Int→Int) (w:List Int) (at':List Int) (d:Int):Prop where
  ov:over g w
  ne:at'≠[]
  acc:XU g.N at'
  mem:∀x,x∈at'↔reach g w g.s0 x∧dx x=d
  len:w.length+d=dx g.s0
  d0:0≤d
  min:∀u,over g u→u.length=w.length→O6 u w→∀x,reach g u g.s0 x→dx x≠d
def MI (w:List Int):List UInt8:=w.map fun l=>UInt8.ofNat (97+l.toNat)
end Go.Am
namespace Go.Am
open Go Go.Proofs
set_option maxHeartbeats 1000000
attribute [local irreducible] AU B3 Lex Br Ai Spec
variable {TB:Bc}
theorem KE (s:Int) (k:Nat):(AB s k).Pairwise (· < ·):=by
  unfold AB
  rw [List.pairwise_map]
  refine (List.pairwise_lt_range.filter _).imp fun {a b} h=>?_
  show ((a:Nat):Int) < ((b:Nat):Int)
  omega
theorem WX {l:List Int} (h:l.Pairwise (· < ·)) {i j:Nat} {a b:Int} (hi:l[i]? = some a) (hj:l[j]? = some b) (hab:a < b):i < j:=by
  obtain ⟨h1,rfl⟩:=List.getElem?_eq_some_iff.1 hi
  obtain ⟨h2,rfl⟩:=List.getElem?_eq_some_iff.1 hj
  rw [List.pairwise_iff_getElem] at h
  rcases Nat.lt_trichotomy i j with h3|h3|h3
  · exact h3
  · subst h3;omega
  · have:=h j i h2 h1 h3;omega
abbrev Zu (r:Option (List Int)):List UInt8:=(r.map MI).getD []
abbrev ZC (r:Option (List Int)):E:=.t [(false,[.d (tD (Zu r))]),(false,[.d (bD r.isSome)])]
noncomputable def X4 (g:Gr):Option (List Int):=Classical.choose (Kq g)
theorem X5 (g:Gr):Dg g (X4 g):=Classical.choose_spec (Kq g)
theorem Vl {a b:Nat} (ha:a < 64) (hb:b < 64):Ry .i64 a b=((a ||| b:Nat):Int)∧a ||| b < 64:=by
  have h0:a ||| b < 64:=Nat.or_lt_two_pow (n:=6) ha hb
  refine ⟨?_,h0⟩
  unfold Ry
  have h1:(BitVec.ofInt IntKind.i64.bits (a:Int) ||| BitVec.ofInt IntKind.i64.bits (b:Int)).toNat=a ||| b:=by
    have e:IntKind.i64.bits=64:=rfl
    rw [e]
    simp only [BitVec.toNat_or,BitVec.ofInt_natCast,BitVec.toNat_ofNat]
    rw [Nat.mod_eq_of_lt (by omega),Nat.mod_eq_of_lt (by omega)]
  rw [h1]
  exact IntWalk.i64_in _ (by omega)
end Go.Am
namespace Go.Am
open Go
def Bs:List Int→Nat
  | []=>0
  | x::l=>2 ^ x.toNat+Bs l
theorem K5:∀(l m:List Int),Bs (l++m)=Bs l+Bs m
  | [],m=>by simp [Bs]
  | x::l,m=>by simp [Bs,K5 l m,Nat.add_assoc]
theorem J9:∀ {l:List Int} {t:Nat},l.Pairwise (· < ·)→(∀x∈l,0≤x∧x < t)→Bs l < 2 ^ t
  | [],t,_,_=>Nat.two_pow_pos t
  | x :: l,t,hp,h=>by
    have key:∀(l:List Int) (a t:Nat),(∀x∈l,(a:Int)≤x∧x < t)→l.Pairwise (· < ·)→a≤t→2 ^ a+Bs l≤2 ^ t:=by
      intro l
      induction l with
      | nil=>intro a t _ _ hat;simpa [Bs] using Nat.pow_le_pow_right (by omega) hat
      | cons y l ih=>
        intro a t h hp hat
        have hy:=h y (by simp)
        have hp2:=List.pairwise_cons.1 hp
        have h1:=ih (y.toNat+1) t (fun x hx=>by have:=hp2.1 x hx;have:=h x (by simp [hx]);omega) hp2.2 (by omega)
        have h2:2 ^ a≤2 ^ y.toNat:=Nat.pow_le_pow_right (by omega) (by omega)
        rw [Nat.pow_succ] at h1
        simp only [Bs];omega
    have hx:=h x (by simp)
    have hp2:=List.pairwise_cons.1 hp
    have h1:=key l (x.toNat+1) t (fun y hy=>by have:=hp2.1 y hy;have:=h y (by simp [hy]);omega) hp2.2 (by omega)
    rw [Nat.pow_succ] at h1
    simp only [Bs]
    have:=Nat.two_pow_pos x.toNat
    omega
theorem VR {l:List Int} {t:Nat} (hp:l.Pairwise (· < ·)) (h:∀x∈l,0≤x∧x < t):Bs l ||| 2 ^ t=Bs (l++[(t:Int)]):=by
  have h1:=J9 hp h
  rw [K5]
  have h2:=Nat.two_pow_add_eq_or_of_lt h1 1
  simp only [Nat.mul_one] at h2
  rw [Nat.or_comm,←h2]
  simp [Bs];omega
theorem NY:∀(k m:Nat),(2 ^ k*(2*m+1)) &&& (2 ^ k*(2*m+1) - 1)=2 ^ k*(2*m)
  | 0, m=>by
    apply Nat.eq_of_testBit_eq
    intro i
    cases i with
    | zero=>simp
    | succ i=>
      simp only [Nat.pow_zero,Nat.one_mul,Nat.add_sub_cancel]
      have h1:(2*m+1) / 2=m:=by omega
      have h2:2*m / 2=m:=by omega
      rw [Nat.testBit_and,Nat.testBit_succ,Nat.testBit_succ,h1,h2];simp
  | k + 1,m=>by
    have ih:=NY k m
    have hp:0 < 2 ^ k*(2*m+1):=Nat.mul_pos (Nat.two_pow_pos k) (by omega)
    have e1:2 ^ (k+1)*(2*m+1)=2*(2 ^ k*(2*m+1)):=by rw [Nat.pow_succ,Nat.mul_comm (2 ^ k) 2,Nat.mul_assoc]
    have e2:2 ^ (k+1)*(2*m)=2*(2 ^ k*(2*m)):=by rw [Nat.pow_succ,Nat.mul_comm (2 ^ k) 2,Nat.mul_assoc]
    rw [e1,e2,←ih]
    generalize 2 ^ k*(2*m+1)=a at hp
    apply Nat.eq_of_testBit_eq
    intro i
    cases i with
    | zero=>simp
    | succ i=>
      have h1:2*a / 2=a:=by omega
      have h2:(2*a - 1) / 2=a - 1:=by omega
      have h3:2*(a &&& (a - 1)) / 2=a &&& (a - 1):=by omega
      rw [Nat.testBit_and,Nat.testBit_succ,Nat.testBit_succ,Nat.testBit_succ,h1,h2,h3,Nat.testBit_and]
theorem K7:∀ {l:List Int} {k:Nat},l.Pairwise (· < ·)→(∀x∈l,(k:Int) < x)→∃m,Bs l=2 ^ k*(2*m)
  | [],k,_,_=>⟨0,by simp [Bs]⟩
  | x :: l,k,hp,h=>by
    have hp2:=List.pairwise_cons.1 hp
    have hx:=h x (by simp)
    obtain ⟨m,hm⟩:=K7 (l:=l) (k:=k) hp2.2 fun y hy=>by have:=hp2.1 y hy;omega
    refine ⟨2 ^ (x.toNat - k - 1)+m,?_⟩
    have e:x.toNat=k+(1+(x.toNat - k - 1)):=by omega
    have:2 ^ x.toNat=2 ^ k*(2*2 ^ (x.toNat - k - 1)):=by
      conv=>lhs;rw [e,Nat.pow_add,Nat.pow_add]
    simp only [Bs,hm,this,←Nat.mul_add]
theorem Jf {x:Int} {l:List Int} (hp:(x::l).Pairwise (· < ·)) (h0:0≤x):∃m,Bs (x::l)=2 ^ x.toNat*(2*m+1)∧Bs l=2 ^ x.toNat*(2*m):=by
  have hp2:=List.pairwise_cons.1 hp
  obtain ⟨m,hm⟩:=K7 (l:=l) (k:=x.toNat) hp2.2 fun y hy=>by have:=hp2.1 y hy;omega
  exact ⟨m,by simp only [Bs,hm];rw [Nat.mul_add];omega,hm⟩
theorem RY {x:Int} {l:List Int} (hp:(x::l).Pairwise (· < ·)) (h0:0≤x):Bs (x::l) &&& (Bs (x::l) - 1)=Bs l:=by
  obtain ⟨m,h1,h2⟩:=Jf hp h0
  rw [h1,h2,NY]
theorem K6 {x:Int} {l:List Int}:0 < Bs (x::l):=by
  simp only [Bs];have:=Nat.two_pow_pos x.toNat;omega
theorem Uu {x:Int} {l:List Int} (hp:(x::l).Pairwise (· < ·)) (h0:0≤x) (hlt:Bs (x::l) < 2 ^ 64):Lib.ctz 64 (Bs (x::l))=x.toNat:=by
  obtain ⟨m,h1,_⟩:=Jf hp h0
  have h2:=Lib.lowest_bit 64 _ (by have:=K6 (x:=x) (l:=l);omega) hlt
  have h3:=Lib.and_neg 64 x.toNat m (by rw [←h1];exact hlt)
  rw [←h1,h2.1] at h3
  exact (Nat.pow_right_inj (by omega)).1 h3
end Go.Am
namespace Go.Am
open Go Go.Proofs
set_option maxHeartbeats 1000000
attribute [local irreducible] AU B3 Lex Br Ai Spec
variable {TB:Bc}
theorem VZ (i:Nat) (h:i < 64):Be[i]? = some (.int .u8 (Lib.deBruijn64tab.getD i 0:Nat)):=by
  have e:Be=Lib.deBruijn64tab.map fun n=>Value.int .u8 (n:Nat):=rfl
  have hl:Lib.deBruijn64tab.length=64:=rfl
  rw [e,List.getElem?_map,List.getElem?_eq_getElem (by omega)]
  simp [List.getD,hl,h]
theorem XE (x a:Nat) (hx:x < 18446744073709551616) (hx0:x≠0) (hlow:x &&& (18446744073709551616 - x)=a) :
    (IntKind.u64.wrap (DH .u64 (x:Int) (IntKind.u64.wrap (-(x:Int)))*285870213051353865)).fdiv (2 ^ (min (58:Int).toNat IntKind.u64.bits))=((a*285870213051353865 % 18446744073709551616 / 288230376151711744:Nat):Int):=by
  have w64:∀n:Int,IntKind.u64.wrap n=n % 18446744073709551616:=fun n=>by simp [IntKind.wrap,IntKind.signed,IntKind.bits]
  have e1:IntKind.u64.wrap (-(x:Int))=((18446744073709551616 - x:Nat):Int):=by rw [w64];omega
  have e2:DH .u64 (x:Int) ((18446744073709551616 - x:Nat):Int)=(a:Int):=by
    unfold DH
    have e:IntKind.u64.bits=64:=rfl
    rw [e]
    have h1:(BitVec.ofInt 64 (x:Int) &&& BitVec.ofInt 64 ((18446744073709551616 - x:Nat):Int)).toNat=a:=by
      simp only [BitVec.toNat_and,BitVec.ofInt_natCast,BitVec.toNat_ofNat]
      rw [Nat.mod_eq_of_lt (by omega),Nat.mod_eq_of_lt (by omega),hlow]
    rw [h1,w64]
    have h2:a≤x:=by rw [←hlow];exact Nat.and_le_left
    omega
  rw [e1,e2,w64]
  have e3:(2:Int) ^ (min (58:Int).toNat IntKind.u64.bits)=288230376151711744:=rfl
  rw [e3,Int.fdiv_eq_ediv_of_nonneg _ (by omega)]
  omega
theorem Wc [DZ TB] (x:Nat) (hx0:x≠0) (hx:x < 18446744073709551616):Pure Tryz.prog TB 209 [eI .u64 x] (eI .i64 (Lib.ctz 64 x)):=by
  obtain ⟨hlow,hk⟩:=Lib.lowest_bit 64 x hx0 hx
  obtain ⟨hi,htab⟩:=Lib.deBruijn64_at _ hk
  have hkey:=XE x _ hx hx0 hlow
  have htv:=VZ _ hi
  rw [htab] at htv
  generalize Lib.ctz 64 x=cz at *
  generalize 2 ^ cz*285870213051353865 % 18446744073709551616 / 288230376151711744=idx at *
  refine eN Tryz.func209 rfl (by kernel_rfl) rfl ?_;intro Γ hΓ
  (repeat' first|(refine sA rfl ?_ ?_;first|exact tI|omega) |refine s2 rfl fun _ _hb=>?_|(refine Ag rfl ?_;refine gA rfl ?_;first| refine gS (fun _ _=>OJ rfl rfl) ?_|refine gS (fun _ _=>Wo rfl rfl rfl) ?_) |refine aU rfl ?_ |refine Aa ?_|(refine aC rfl ?_ ?_<;>rintro ⟨⟩)|refine aK ?_|refine aE ?_|refine aB ?_|refine aR ⟨_,rfl,?_⟩)
  · exfalso;(simp only[oZ] at *;omega)
  rw [hkey]
  clear hkey hlow htab
  (repeat' first|(refine sA rfl ?_ ?_;first|exact tI|omega)|(refine Ag rfl ?_;refine gA rfl ?_;first| refine gS (fun _ _=>TX (v:=.int .u8 ((cz:Nat):Int)) rfl (by omega) (by omega) (by rw [Int.toNat_natCast];exact htv)) ?_) |refine Aa ?_|(refine aC rfl ?_ ?_<;>rintro ⟨⟩)|refine aK ?_|refine aE ?_|refine aB ?_|refine aR ⟨_,rfl,?_⟩)
  rfl
theorem Za [DZ TB] (x:Nat) (hx0:x≠0) (hx:x < 18446744073709551616):Pure Tryz.prog TB 207 [eI .u64 x] (eI .i64 (Lib.ctz 64 x)):=by
  refine eN Tryz.func207 rfl (by kernel_rfl) rfl ?_;intro Γ hΓ
  (repeat' first|refine tA rfl ?_ |refine sP rfl (Wc x hx0 hx) rfl ?_ |refine aU rfl ?_ |refine Aa ?_|(refine aC rfl ?_ ?_<;>rintro ⟨⟩)|refine aK ?_|refine aE ?_|refine aB ?_|refine aR ⟨_,rfl,?_⟩)
  all_goals rfl
theorem Rx {x:Int} {l:List Int} (hp:(x::l).Pairwise (· < ·)) (h0:0≤x) (hlt:Bs (x::l) < 2 ^ 62):DH .i64 (Bs (x::l):Nat) ((Bs (x::l):Nat) - 1)=(Bs l:Nat):=by
  have h1:=RY hp h0
  have h2:=K6 (x:=x) (l:=l)
  have h3:Bs l≤Bs (x::l):=Nat.le_add_left _ _
  generalize Bs (x::l)=a at *
  have e1:((a:Nat):Int) - 1=((a - 1:Nat):Int):=by omega
  rw [e1]
  unfold DH
  have e:IntKind.i64.bits=64:=rfl
  rw [e]
  have h4:(BitVec.ofInt 64 (a:Int) &&& BitVec.ofInt 64 ((a - 1:Nat):Int)).toNat=Bs l:=by
    simp only [BitVec.toNat_and,BitVec.ofInt_natCast,BitVec.toNat_ofNat]
    rw [Nat.mod_eq_of_lt (by omega),Nat.mod_eq_of_lt (by omega),h1]
  rw [h4]
  exact IntWalk.i64_in _ (by omega)
theorem Nu (r:Nat→Nat):∀ds:List D,C.BG r (ds.map .d)=ds.map .d
  | []=>rfl
  | d::l=>by simp [C.BG,C.AP,Nu r l]
def Lh (es:List Dw) (f l:Nat):List Int:=(es.filter fun e:Dw=>decide (e.f=(f:Int)) && decide (e.l=(l:Int))).map (·.t)
def Er (es:List Dw):List D:=(List.range 96).map fun i=>iD (Bs (Lh es (i / 6) (i % 6)):Nat)
theorem GP {es:List Dw} {i:Nat} (h:i < 96):(Er es)[i]? = some (iD (Bs (Lh es (i / 6) (i % 6)):Nat)):=by simp [Er,h]
theorem Rf (es:List Dw) (e:Dw) (f l:Nat):Lh (es++[e]) f l=Lh es f l++if e.f=(f:Int)∧e.l=(l:Int) then [e.t] else []:=by
  simp only [Lh,List.filter_append,List.map_append,List.filter_cons,List.filter_nil]
  grind
theorem FO {r:List C} {j:Nat} {c:C} (h:j < r.length):Ae r j [c]=r.set j c:=by
  unfold Ae
  rw [List.set_eq_take_append_cons_drop,if_pos h]
  simp
theorem PD {es:List Dw} {e:Dw} {v:Int} (h0:0≤e.f∧e.f < 16) (h1:0≤e.l∧e.l < 6) (hv:v=(Bs (Lh (es++[e]) e.f.toNat e.l.toNat):Nat)) :
    Ae ((Er es).map .d) (0+e.f.toNat*6+e.l.toNat*1) (eC (eI .i64 v))=(Er (es++[e])).map .d:=by
  have hj:0+e.f.toNat*6+e.l.toNat*1 < 96:=by omega
  have:eC (eI .i64 v)=[C.d (iD v)]:=rfl
  rw [this,FO (by simp [Er];omega),←List.map_set]
  congr 1
  apply List.ext_getElem?
  intro i
  by_cases hi:i < 96
  · rw [GP hi]
    by_cases hij:0+e.f.toNat*6+e.l.toNat*1=i
    · subst hij
      rw [List.getElem?_set_self (by simp [Er];omega),hv]
      have e1:(0+e.f.toNat*6+e.l.toNat*1) / 6=e.f.toNat:=by omega
      have e2:(0+e.f.toNat*6+e.l.toNat*1) % 6=e.l.toNat:=by omega
      rw [e1,e2]
    · rw [List.getElem?_set_ne hij,GP hi,Rf,if_neg (by omega),List.append_nil]
  · rw [List.getElem?_eq_none (by simp [Er];omega),List.getElem?_eq_none (by simp [Er];omega)]
theorem Ey {s:Sys} (h:BD s=true) (k f l:Nat):(Lh (s.es.take k) f l).Pairwise (· < ·):=by
  unfold Lh
  rw [List.pairwise_map]
  refine List.Pairwise.imp_of_mem (fun {a b} ha hb hab=>?_) (((NB h).sublist (List.take_sublist k s.es)).filter _)
  have h1:=(List.mem_filter.1 ha).2
  have h2:=(List.mem_filter.1 hb).2
  unfold HN at hab
  grind
theorem Li {s:Sys} (h:BD s=true) {k f l:Nat} {x:Int} (hx:x∈Lh (s.es.take k) f l):0≤x∧x < 16:=by
  unfold Lh at hx
  obtain ⟨e,he,rfl⟩:=List.mem_map.1 hx
  have h2:=CE h (List.mem_of_mem_take (List.mem_filter.1 he).1)
  have h3:=B7 h
  unfold CT at h2
  grind
theorem Vm {a t:Nat} (ha:a < 2 ^ 16) (ht:t < 16):Ry .i64 (a:Nat) ((2 ^ t:Nat):Int)=((a ||| 2 ^ t:Nat):Int):=by
  have h2:2 ^ t < 2 ^ 16:=Nat.pow_lt_pow_right (by omega) ht
  have h0:a ||| 2 ^ t < 2 ^ 16:=Nat.or_lt_two_pow ha h2
  unfold Ry
  have h1:(BitVec.ofInt IntKind.i64.bits (a:Int) ||| BitVec.ofInt IntKind.i64.bits ((2 ^ t:Nat):Int)).toNat=a ||| 2 ^ t:=by
    have e:IntKind.i64.bits=64:=rfl
    rw [e]
    simp only [BitVec.toNat_or,BitVec.ofInt_natCast,BitVec.toNat_ofNat]
    rw [Nat.mod_eq_of_lt (by omega),Nat.mod_eq_of_lt (by omega)]
  rw [h1]
  exact IntWalk.i64_in _ (by omega)
theorem QU {t:Int} (h0:0≤t) (h1:t < 16):IntKind.i64.wrap (1*2 ^ (min t.toNat IntKind.i64.bits))=((2 ^ t.toNat:Nat):Int):=by
  have e:min t.toNat IntKind.i64.bits=t.toNat:=by
    have:IntKind.i64.bits=64:=rfl
    omega
  rw [e,Int.one_mul]
  have h2:2 ^ t.toNat < 2 ^ 16:=Nat.pow_lt_pow_right (by omega) (by omega)
  have h3:(2:Int) ^ t.toNat=((2 ^ t.toNat:Nat):Int):=by push_cast;rfl
  rw [h3]
  generalize 2 ^ t.toNat=p at *
  exact IntWalk.i64_in _ (by omega)
theorem PC (s:Sys) (h:BD s=true):Pure Tryz.prog TB 135 [CS s] (.o (.ip (Er s.es))):=by
  refine eN Tryz.func135 rfl (by kernel_rfl) rfl ?_;intro Γ hΓ
  (repeat first|refine sN rfl ?_ |refine tA rfl ?_ |refine aU rfl ?_ |refine Aa ?_)
  refine Ai.bound 8 rfl fun hB0=>?_
  have hB:=hB0 (s.es.map CZ) .refl
  refine aB ?_
  refine Ai.B0 (α:={k:Nat // k≤s.es.length}) (fun ⟨k,hk⟩=>[(3,.o (.ptr 0 96 0 0)),(8,Yh s.es),(9,eI .i64 s.es.length),(10,eI .i64 k)]) (fun ⟨k,hk⟩=>[(0,.cells 185 96 [(Er (s.es.take k)).map .d])]) 1 (fun ⟨k,hk⟩=>s.es.length - k) (⟨0,by omega⟩) [0] (IE hΓ rfl rfl) (by (repeat' first|exact tI|rfl|refine And.intro ?_ ?_)) ?_;rintro ⟨k,hk⟩;(try dsimp only)
  (repeat first|refine s2 rfl fun _ _hb=>?_ |refine aU rfl ?_ |refine Aa ?_)
  (refine aC rfl ?_ ?_<;>rintro ⟨⟩)
  · obtain ⟨e,he⟩:=get_some (l:=s.es) (k:=k) (by (simp only[oZ] at *;omega))
    have he':=get_map (g:=CZ) he
    have heo:=CE h (List.mem_of_getElem? he)
    have hh:=B7 h
    unfold CT at heo
    simp only [Bool.and_eq_true,decide_eq_true_eq] at heo
    obtain ⟨⟨hf0,hf1,ht0,ht1,hl0,hl1⟩,hbit⟩:=heo
    have hj96:0+e.f.toNat*6+e.l.toNat*1+1≤96:=by omega
    have hshl:=QU ht0 (by omega)
    have htk:s.es.take (k+1)=s.es.take k++[e]:=by rw [List.take_add_one,he];rfl
    have hap:Lh (s.es.take (k+1)) e.f.toNat e.l.toNat=Lh (s.es.take k) e.f.toNat e.l.toNat++[e.t]:=by
      rw [htk,Rf,if_pos (by omega)]
    have hbnd:∀x∈Lh (s.es.take k) e.f.toNat e.l.toNat,0≤x∧x < e.t.toNat:=by
      intro x hx
      have h1:=Ey h (k+1) e.f.toNat e.l.toNat
      rw [hap,List.pairwise_append] at h1
      have h2:=h1.2.2 x hx e.t (by simp)
      have h3:=Li h hx
      omega
    have hor1:=VR (Ey h k e.f.toNat e.l.toNat) hbnd
    have hlt:=J9 (t:=16) (Ey h k e.f.toNat e.l.toNat) fun x hx=>Li h hx
    have hor:=Vm hlt (t:=e.t.toNat) (by omega)
    have et:((e.t.toNat:Nat):Int)=e.t:=by omega
    rw [hor1,et,←hap,htk] at hor
    have hstep:=PD (es:=s.es.take k) (e:=e) ⟨hf0,by omega⟩ ⟨hl0,hl1⟩ rfl
    rw [←hor] at hstep
    have hld:((Er (s.es.take k)).map C.d)[0+e.f.toNat*6+e.l.toNat*1]? = some (.d (iD (Bs (Lh (s.es.take k) e.f.toNat e.l.toNat):Nat))):=by
      have e1:(0+e.f.toNat*6+e.l.toNat*1) / 6=e.f.toNat:=by omega
      have e2:(0+e.f.toNat*6+e.l.toNat*1) % 6=e.l.toNat:=by omega
      rw [List.getElem?_map,GP (by omega),e1,e2];rfl
    refine aK ?_
    refine aS (aB ?_)
    (repeat first|refine tA rfl ?_ |(refine s4 rfl ‹_› rfl ?_ ?_;omega) |refine aU rfl ?_ |refine Aa ?_)
    refine rG (Jr [16]) (by kernel_rfl) ?_
    (repeat first|(refine sA rfl ?_ ?_;first|exact tI|omega)|(refine Ag rfl ?_;refine gA rfl ?_;first| refine gS (fun _ _=>Ud rfl rfl (by omega) hshl) ?_|refine gQ (Nq rfl rfl rfl hld) (by rfl) ?_))
    (refine Ag rfl ?_;refine FW ?_ rfl (by rfl);refine CK rfl rfl rfl rfl (rfl) rfl (hj96) ?_)
    (repeat first|(refine sA rfl ?_ ?_;first|exact tI|simp only[oZ] at *;omega) |refine aU rfl ?_ |refine Aa ?_)
    refine ⟨⟨k+1,by (simp only[oZ] at *;omega)⟩,by dsimp only;((simp only[oZ] at *;omega)),[0],?_⟩
    rw [hstep,←htk]
    simp[cX,zC,hΓ,List.set_cons_zero,Nu]
  · obtain rfl:k=s.es.length:=by (simp only[oZ] at *;omega)
    refine aE ?_
    rw [List.take_length]
    (repeat first|refine tM rfl ?_ |refine aU rfl ?_ |refine Aa ?_)
    refine Ai.freeze [0] [(2,.o (.ip (Er s.es)))] ⟨⟨_,rfl,.o (.ptr (by simp) rfl rfl rfl)⟩,trivial⟩ ?_
    refine aR ⟨_,rfl,rfl⟩
def K1 (h:Nat→Int):List C:=(List.range 6).map fun l=>.d (iD (h l))
def PJ (h:Nat→Int):List D:=(List.range 6).map fun l=>iD (h l)
theorem Un (h:Nat→Int):K1 h=(PJ h).map .d:=by simp [K1,PJ]
def Bl {α:Type} (n:Nat) (g:Nat→α):List α:=(List.range n).map g
theorem CM {α:Type} {n q:Nat} {g:Nat→α} (h:q < n):(Bl n g)[q]? = some (g q):=by simp [Bl,h]
theorem Jc {α:Type} {n q:Nat} {g:Nat→α} {x:α}:(Bl n g).set q x=Bl n fun i=>if i=q then x else g i:=by
  apply List.ext_getElem?
  intro i
  by_cases hi:i < n
  · rw [CM hi]
    by_cases hq:q=i
    · subst hq;rw [List.getElem?_set_self (by simp [Bl,hi])];simp
    · rw [List.getElem?_set_ne hq,CM hi,if_neg (Ne.symm hq)]
  · rw [List.getElem?_eq_none (by simp [Bl];omega),List.getElem?_eq_none (by simp [Bl];omega)]
theorem Ch {α:Type} {n:Nat} {g g':Nat→α} (h:∀i,i < n→g i=g' i):Bl n g=Bl n g':=by
  unfold Bl
  exact List.map_congr_left fun i hi=>h i (List.mem_range.1 hi)
theorem Uo {h:Nat→Int} {l:Nat} {v:Int} (hl:l < 6):Ae (K1 h) (0+l*1) (eC (eI .i64 v))=K1 fun x=>if x=l then v else h x:=by
  have e:eC (eI .i64 v)=[C.d (iD v)]:=rfl
  rw [e,FO (by simp [K1];omega)]
  have:=Jc (n:=6) (q:=l) (g:=fun l=>C.d (iD (h l))) (x:=C.d (iD v))
  have e1:0+l*1=l:=by omega
  rw [e1]
  refine Eq.trans this (Ch fun i _=>?_)
  by_cases e:i=l<;>simp [e]
theorem HB {h h':Nat→Int} (hh:∀l,l < 6→h l=h' l):K1 h=K1 h':=Ch fun i hi=>by rw [hh i hi]
theorem Hk (s:Int):∀(n k:Nat),k≤n→AB s k <+: AB s n
  | 0, k, h => by have:k=0:=by omega
                  subst this;exact List.prefix_refl _
  | n + 1,k,h=>by
    rcases Nat.lt_or_ge k (n+1) with h1|h1
    · rw [Cd]
      exact (Hk s n k (by omega)).trans (List.prefix_append _ _)
    · have:k=n+1:=by omega
      subst this;exact List.prefix_refl _
theorem Hl {s:Int} {k n:Nat} {l:Int} (h:(AB s n)[k]? = some l):(AB s l.toNat).length=k:=by
  have h1:=Bj (List.mem_of_getElem? h)
  have h2:(AB s (l.toNat+1))[(AB s l.toNat).length]? = some l:=by
    rw [Cd,if_pos h1.2.2,List.getElem?_append_right (Nat.le_refl _)]
    simp;omega
  have h3:(AB s n)[(AB s l.toNat).length]? = some l:=by
    obtain ⟨t,ht⟩:=Hk s n (l.toNat+1) (by omega)
    rw [←ht,List.getElem?_append_left (List.getElem?_eq_some_iff.1 h2).1];exact h2
  have hp:=KE s n
  rw [List.pairwise_iff_getElem] at hp
  obtain ⟨a1,a2⟩:=List.getElem?_eq_some_iff.1 h
  obtain ⟨b1,b2⟩:=List.getElem?_eq_some_iff.1 h3
  rcases Nat.lt_trichotomy (AB s l.toNat).length k with h4|h4|h4
  · have:=hp _ _ b1 a1 h4;omega
  · exact h4
  · have:=hp _ _ a1 b1 h4;omega
theorem ER {s:Int} {n l:Nat}:(l:Int)∈AB s n↔l < n∧DQ s l=true:=by
  unfold AB
  simp only [List.mem_map,List.mem_filter,List.mem_range]
  constructor
  · rintro ⟨a,ha,e⟩
    have:a=l:=by have e:((a:Nat):Int)=l:=e;omega
    subst this;exact ha
  · intro h;exact ⟨l,h,rfl⟩
def Lq (n:Nat) (H:Nat→Nat→Int):List (List C):=Bl n fun i=>K1 (H i)
theorem G0 (r:Nat→Nat) (n:Nat) (H:Nat→Nat→Int):(Lq n H).map (C.BG r)=Lq n H:=by
  unfold Lq Bl
  rw [List.map_map]
  exact List.map_congr_left fun i _=>by simp only [Function.comp_def,Un,Nu]
theorem UA (n:Nat):Lq n (fun _ _=>0)=List.replicate n [C.d (D.v (Value.int IntKind.i64 0)),C.d (D.v (Value.int IntKind.i64 0)),C.d (D.v (Value.int IntKind.i64 0)),C.d (D.v (Value.int IntKind.i64 0)),C.d (D.v (Value.int IntKind.i64 0)),C.d (D.v (Value.int IntKind.i64 0))]:=by
  unfold Lq Bl
  rw [List.map_const'];simp;exact .inr rfl
theorem Rb {n q:Nat} {H:Nat→Nat→Int} (h:q < n):(Lq n H)[0+((q:Nat):Int).toNat]? = some (K1 (H q)):=by
  rw [Nat.zero_add,Int.toNat_natCast];exact CM (g:=fun i=>K1 (H i)) h
theorem Rc {n q l:Nat} {v:Int} {H:Nat→Nat→Int} (hl:l < 6):(Lq n H).set (0+((q:Nat):Int).toNat) (Ae (K1 (H q)) (0+((l:Nat):Int).toNat*1) (eC (eI .i64 v)))=Lq n fun i x=>if i=q∧x=l then v else H i x:=by
  rw [Nat.zero_add,Int.toNat_natCast,Int.toNat_natCast,Uo hl]
  unfold Lq
  rw [Jc]
  refine Ch fun i _=>?_
  by_cases e:i=q
  · subst e;rw [if_pos rfl];exact HB fun l _=>by simp
  · rw [if_neg e];exact HB fun l _=>by simp [e]
theorem Fp {n:Nat} {H H':Nat→Nat→Int} (h:∀i,i < n→∀l,l < 6→H i l=H' i l):Lq n H=Lq n H':=Ch fun i hi=>HB fun l hl=>h i hi l hl
theorem Wa (n:Nat) (H:Nat→Nat→Int):(Lq n H).length=n:=by simp [Lq,Bl]
def LN (a:Ci):List (List D):=Bl a.nx.length fun q=>PJ fun l=>Dj a q l
theorem Y8 (a:Ci):Lq a.nx.length (fun i l=>Dj a i l)=(LN a).map fun r=>r.map .d:=by
  unfold Lq LN Bl
  rw [List.map_map]
  exact List.map_congr_left fun i _=>by simp only [Function.comp_def,Un]
def XV (a:Ci):Prop:=a.nx.length≤64∧∀q,q < a.nx.length→∃row:List Int,a.nx[q]? = some row∧row.length=(Af a.al).length∧∀(k:Nat) y,row[k]? = some y→0≤y∧y < a.nx.length
theorem U0 {a:Ci} (h:Bh a=true):XV a:=⟨by have:=AX h;omega,fun q hq=>GF h hq⟩
theorem OY (a:Ci) (h:XV a):Pure Tryz.prog TB 83 [BH a] (.o (.d (.l (LN a)))):=by
  have hh:=h.1
  have hll:(Af a.al).length≤6:=AM a.al 6
  refine eN Tryz.func83 rfl (by kernel_rfl) rfl ?_;intro Γ hΓ
  (repeat first|refine aU rfl ?_)
  (refine Ag rfl ?_;refine CU (fun _ _=>DD rfl rfl rfl) rfl ?_)
  (refine Ag rfl ?_;refine CU (fun _ _=>Im rfl) rfl ?_)
  (repeat first|refine sN rfl ?_ |refine tM rfl ?_ |refine aU rfl ?_ |refine Aa ?_)
  (refine pW rfl ?_ rfl (by rfl);refine KG rfl rfl (by rfl) (by rfl) (Nat.le_of_ble_eq_true rfl) (by omega) (by omega) (by omega) ?_)
  (repeat first|refine sN rfl ?_ |refine tM rfl ?_ |refine sP rfl (Dp a.al) rfl ?_ |refine aU rfl ?_ |refine Aa ?_)
  refine aB ?_
  refine Ai.B0 (α:={q:Nat // q≤a.nx.length}) (fun ⟨q,hq⟩=>[(1,.o (.ip (BQ a))),(3,.o (.arr 0 6 0 a.nx.length)),(4,A7 (Af a.al)),(18,Kp a.nx),(19,eI .i64 a.nx.length),(20,eI .i64 q)]) (fun ⟨q,hq⟩=>[(0,.cells 96 6 (Lq a.nx.length fun i l=>if i < q then Dj a i l else 0))]) 1 (fun ⟨q,hq⟩=>a.nx.length - q) (⟨0,by omega⟩) [0] (IE hΓ rfl rfl) (by (simp[cX,zC,hΓ,G0,UA])) ?_;rintro ⟨q,hq⟩;(try dsimp only)
  (repeat first|refine s2 rfl fun _ _hb=>?_ |refine aU rfl ?_ |refine Aa ?_)
  (refine aC rfl ?_ ?_<;>rintro ⟨⟩)
  · have hqn : q < a.nx.length:=by (simp only[oZ] at *;omega)
    obtain ⟨row,hr,hrl,hrx⟩:=h.2 q hqn
    have hr':=get_map (g:=Jt) hr
    refine aK ?_
    refine aS (aB ?_)
    (repeat first|refine tM rfl ?_ |(refine s4 rfl ‹_› rfl ?_ ?_;omega) |refine aU rfl ?_ |refine Aa ?_)
    refine aB ?_
    refine Ai.B0 (α:={m:Nat // m≤6}) (fun ⟨m,hm⟩=>[(1,.o (.ip (BQ a))),(3,.o (.arr 0 6 0 a.nx.length)),(4,A7 (Af a.al)),(18,Kp a.nx),(19,eI .i64 a.nx.length),(20,eI .i64 q),(5,eI .i64 q),(6,A7 row),(25,eI .i64 m)]) (fun ⟨m,hm⟩=>[(0,.cells 96 6 (Lq a.nx.length fun i l=>if i < q then Dj a i l else if i=q∧l < m then q else 0))]) 1 (fun ⟨m,hm⟩=>6 - m) (⟨0,by omega⟩) [0] (IE hΓ rfl rfl) (by (simp[cX,zC,hΓ,G0])) ?_;rintro ⟨m,hm⟩;(try dsimp only)
    (repeat first|refine s2 rfl fun _ _hb=>?_ |refine aU rfl ?_ |refine Aa ?_)
    (refine aC rfl ?_ ?_<;>rintro ⟨⟩)
    · have hm6:m < 6:=by (simp only[oZ] at *;omega)
      have hmj:0+((m:Nat):Int).toNat*1+1≤6:=by omega
      have hg:=Rb (H:=fun i l=>if i < q then Dj a i l else if i=q∧l < m then q else 0) hqn
      have hs:=Rc (n:=a.nx.length) (q:=q) (v:=q) (H:=fun i l=>if i < q then Dj a i l else if i=q∧l < m then q else 0) hm6
      have hc:(Lq a.nx.length fun (i x:Nat)=>if i=q∧x=m then (q:Int) else (fun (i l:Nat)=>if i < q then Dj a i l else if i=q∧l < m then (q:Int) else 0) i x)=Lq a.nx.length fun i l=>if i < q then Dj a i l else if i=q∧l < m+1 then (q:Int) else 0:=Fp fun i _ l _=>by dsimp only;grind
      refine aK ?_
      refine aS (aB ?_)
      (repeat first|(refine sM rfl ?_ ?_;first|exact tI|omega) |refine aU rfl ?_ |refine Aa ?_)
      (refine Ag rfl ?_;refine FW ?_ rfl (by rfl);refine CK rfl rfl rfl rfl (hg) rfl (hmj) ?_)
      (repeat first|(refine sM rfl ?_ ?_;first|exact tI|omega) |refine aU rfl ?_ |refine Aa ?_)
      refine ⟨⟨m+1,by omega⟩,by dsimp only;(omega),[0],?_⟩
      rw [hs,hc]
      simp[cX,zC,hΓ,G0]
    · obtain rfl:m=6:=by (simp only[oZ] at *;omega)
      have hc0:=Fp (n:=a.nx.length) (H:=fun i l=>if i < q then Dj a i l else if i=q∧l < 6 then (q:Int) else 0) (H':=fun i l=>if i < q then Dj a i l else if i=q then (if (l:Int)∈(Af a.al).take 0 then Dj a q l else (q:Int)) else 0) fun i _ l hl=>by simp [hl]
      rw [hc0]
      refine aE ?_
      (repeat first|refine sN rfl ?_ |refine tM rfl ?_ |refine aU rfl ?_ |refine Aa ?_)
      refine aB ?_
      refine Ai.B0 (α:={k:Nat // k≤(Af a.al).length}) (fun ⟨k,hk⟩=>[(1,.o (.ip (BQ a))),(3,.o (.arr 0 6 0 a.nx.length)),(4,A7 (Af a.al)),(18,Kp a.nx),(19,eI .i64 a.nx.length),(20,eI .i64 q),(5,eI .i64 q),(6,A7 row),(35,A7 (Af a.al)),(36,eI .i64 (Af a.al).length),(37,eI .i64 k)]) (fun ⟨k,hk⟩=>[(0,.cells 96 6 (Lq a.nx.length fun i l=>if i < q then Dj a i l else if i=q then (if (l:Int)∈(Af a.al).take k then Dj a q l else (q:Int)) else 0))]) 1 (fun ⟨k,hk⟩=>(Af a.al).length - k) (⟨0,by omega⟩) [0] (IE hΓ rfl rfl) (by (simp[cX,zC,hΓ,G0])) ?_;rintro ⟨k,hk⟩;(try dsimp only)
      (repeat first|refine s2 rfl fun _ _hb=>?_ |refine aU rfl ?_ |refine Aa ?_)
      (refine aC rfl ?_ ?_<;>rintro ⟨⟩)
      · obtain ⟨l,hl⟩:=get_some (l:=Af a.al) (k:=k) (by (simp only[oZ] at *;omega))
        have hl':=get_map (g:=Db) hl
        have hlb:=Bj (List.mem_of_getElem? hl)
        have hpl:=Hl hl
        obtain ⟨y,hy⟩:=get_some (l:=row) (k:=k) (by (simp only[oZ] at *;omega))
        have hy':=get_map (g:=Db) hy
        obtain ⟨m,rfl⟩:∃m:Nat,l=m:=⟨l.toNat,by omega⟩
        have hgo:Dj a q m=y:=by
          unfold Dj
          rw [if_pos hlb.2.2,hpl];simp [List.getD,hr,hy]
        have hm6:m < 6:=by omega
        have hmj:0+((m:Nat):Int).toNat*1+1≤6:=by omega
        have hg:=Rb (H:=fun i l=>if i < q then Dj a i l else if i=q then (if (l:Int)∈(Af a.al).take k then Dj a q l else (q:Int)) else 0) hqn
        have hs:=Rc (n:=a.nx.length) (q:=q) (v:=y) (H:=fun i l=>if i < q then Dj a i l else if i=q then (if (l:Int)∈(Af a.al).take k then Dj a q l else (q:Int)) else 0) hm6
        have hc:(Lq a.nx.length fun (i x:Nat)=>if i=q∧x=m then y else (fun (i l:Nat)=>if i < q then Dj a i l else if i=q then (if (l:Int)∈(Af a.al).take k then Dj a q l else (q:Int)) else 0) i x)=Lq a.nx.length fun i l=>if i < q then Dj a i l else if i=q then (if (l:Int)∈(Af a.al).take (k+1) then Dj a q l else (q:Int)) else 0:=Fp fun i _ l _=>by
          try dsimp only
          rw [List.take_add_one,hl]
          by_cases e:i=q
          · subst e
            by_cases e2:l=m
            · subst e2;simp [hgo]
            · have e3:¬(l:Int)=(m:Int):=by omega
              simp [e2,e3]
          · simp [e]
        refine aK ?_
        refine aS (aB ?_)
        (repeat first|refine tM rfl ?_ |(refine s4 rfl ‹_› rfl ?_ ?_;omega) |refine aU rfl ?_ |refine Aa ?_)
        refine rG (Jr [9]) (by kernel_rfl) ?_
        (repeat first|(refine sM rfl ?_ ?_;first|exact tI|omega) |(refine s4 rfl ‹_› rfl ?_ ?_;omega))
        (refine Ag rfl ?_;refine FW ?_ rfl (by rfl);refine CK rfl rfl rfl rfl (hg) rfl (hmj) ?_)
        (repeat first|(refine sM rfl ?_ ?_;first|exact tI|omega) |refine aU rfl ?_ |refine Aa ?_)
        refine ⟨⟨k+1,by (simp only[oZ] at *;omega)⟩,by dsimp only;((simp only[oZ] at *;omega)),[0],?_⟩
        rw [hs,hc]
        simp[cX,zC,hΓ,G0]
      · obtain rfl:k=(Af a.al).length:=by (simp only[oZ] at *;omega)
        have hc0:=Fp (n:=a.nx.length) (H:=fun i l=>if i < q then Dj a i l else if i=q then (if (l:Int)∈(Af a.al).take (Af a.al).length then Dj a q l else (q:Int)) else 0) (H':=fun i l=>if i < q+1 then Dj a i l else 0) fun i _ l hl=>by
          try dsimp only
          rw [List.take_length]
          by_cases e:i=q
          · subst e
            simp only [Nat.lt_irrefl,if_false,if_true,Nat.lt_succ_self]
            by_cases e2:DQ a.al l=true
            · rw [if_pos (ER.2 ⟨hl,e2⟩)]
            · rw [if_neg (fun h=>e2 (ER.1 h).2)];unfold Dj;rw [if_neg (by simpa using e2)]
          · by_cases e2:i < q
            · rw [if_pos e2,if_pos (by omega)]
            · rw [if_neg e2,if_neg e,if_neg (by omega)]
        rw [hc0]
        refine aE ?_
        (repeat first|(refine sM rfl ?_ ?_;first|exact tI|omega) |refine aU rfl ?_ |refine Aa ?_)
        refine ⟨⟨q+1,by omega⟩,by dsimp only;(omega),[0],?_⟩
        simp[cX,zC,hΓ,G0]
  · obtain rfl:q=a.nx.length:=by (simp only[oZ] at *;omega)
    have hc:=Fp (n:=a.nx.length) (H:=fun i l=>if i < a.nx.length then Dj a i l else 0) (H':=fun i l=>Dj a i l) fun i hi l _=>by rw [if_pos hi]
    rw [hc]
    refine aE ?_
    (repeat first|refine tM rfl ?_ |refine aU rfl ?_ |refine Aa ?_)
    refine Ai.freeze [0] [(2,.o (.d (.l (LN a))))] ⟨⟨_,rfl,.o (.full (by simp) rfl (Y8 a) (by simp [Wa]))⟩,trivial⟩ ?_
    refine aR ⟨_,rfl,rfl⟩
theorem HG (a:Ci) (h:Bh a=true):Pure Tryz.prog TB 83 [BH a] (.o (.d (.l (LN a)))):=OY a (U0 h)
end Go.Am
