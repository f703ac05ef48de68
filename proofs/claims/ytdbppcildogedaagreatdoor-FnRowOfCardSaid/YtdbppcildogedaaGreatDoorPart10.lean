/-
  Automata and systems are valid.
-/
import Derived.Test.YtdbppcildogedaaGreatDoorPart9
import Derived.Lib.TrailingZeros
set_option linter.constructorNameAsVariable false
set_option linter.unusedSimpArgs false
set_option linter.unusedVariables false
namespace Go.Am
open Go Go.Proofs
set_option maxHeartbeats 1000000
attribute [local irreducible] AU B0 Lex Bo Ak Spec
variable {TB:A7}
theorem AN {a:Cj} (h:Bf a=true):Bk a.al=true∧1≤a.nx.length∧a.nx.length≤12∧a.ac.length=a.nx.length:=by
  unfold Bf at h;grind
theorem Bn (a:Cj):Pure Tryz.prog TB 96 [BF a] (eB (Bf a)):=by
  refine eN Tryz.func96 rfl (by kernel_rfl) rfl ?_;intro Γ hΓ
  (repeat' first|refine sN rfl ?_ |refine tA rfl ?_ |refine s2 rfl fun _ _hb=>?_ |(refine sC rfl (CP _) ?_;intro _ _hb) |refine s3 rfl ?_ ?_<;>rintro rfl |refine aU rfl ?_ |refine Aa ?_|(refine aC rfl ?_ ?_<;>rintro ⟨⟩)|refine aK ?_|refine aE ?_|refine aB ?_|refine aR ⟨_,rfl,?_⟩)
  all_goals try (show E.o _=E.o _;congr;unfold Bf;(try simp only [List.length_map] at *);grind)
  refine Ak.bound 1 rfl fun hB=>?_
  have hB:=hB (a.nx.map IH) (.p (j:=1) rfl .refl)
  refine Ak.CR (α:={k:Nat // k≤a.nx.length∧(a.nx.take k).all (Ee (Ag a.al).length a.nx.length)=true}) (fun ⟨k,hk,ha⟩=>[(1,.o (.ip (BJ a))),(3,eI .i64 a.nx.length),(4,eI .i64 k)]) (fun ⟨k,hk,ha⟩=>[]) 0 (fun ⟨k,hk,ha⟩=>a.nx.length - k) (⟨0,by omega,rfl⟩) [] (Lz hΓ rfl rfl) (by (simp[cX,zC,hΓ])) ?_;rintro ⟨k,hk,ha⟩;(try dsimp only)
  (repeat first|refine tA rfl ?_ |refine s2 rfl fun _ _hb=>?_ |refine aU rfl ?_ |refine Aa ?_)
  (refine aC rfl ?_ ?_<;>rintro ⟨⟩)
  · obtain ⟨x,hx⟩:=get_some (l:=a.nx) (k:=k) (by (simp only[oZ] at *;omega))
    have hx':=get_map (g:=IH) hx
    (repeat' first|refine sN rfl ?_ |(refine sA rfl ?_ ?_;first|exact tI|simp only[oZ] at *;omega) |(refine s4 rfl ‹_› rfl ?_ ?_;omega) |refine s2 rfl fun _ _hb=>?_ |refine sP rfl (B7 _) rfl ?_|(refine sC rfl (RP _ _ _) ?_;intro _ _hb) |refine aU rfl ?_ |refine Aa ?_ |refine rE (by kernel_rfl) ?_|(refine aC rfl ?_ ?_<;>rintro ⟨⟩)|refine aK ?_|refine aE ?_|refine aB ?_|refine aR ⟨_,rfl,?_⟩)
    all_goals first
      | (have h1:=FY (f:=Ee (Ag a.al).length a.nx.length) hx (by grind);(show E.o _=E.o _;congr;unfold Bf;(try simp only [List.length_map] at *);grind);done)
      | (refine ⟨⟨k+1,by (simp only[oZ] at *;omega),EI hx ha (by grind)⟩,by dsimp only;((simp only[oZ] at *;omega)),[],?_⟩;simp[cX,zC,hΓ];done)
  · (repeat' first|refine tA rfl ?_ |refine aU rfl ?_ |refine Aa ?_|(refine aC rfl ?_ ?_<;>rintro ⟨⟩)|refine aK ?_|refine aE ?_|refine aB ?_|refine aR ⟨_,rfl,?_⟩)
    show E.o _=E.o _;congr
    have h1:=EG ha (by (simp only[oZ] at *;omega))
    unfold Bf;simp only [List.length_map] at *;grind
def E6:List Int→Int
  | []=>0
  | x::l=>if x≠0 then x else E6 l
theorem C6 {α:Type} {l:List α} {k:Nat} {x:α} (h:l[k]? = some x):l.drop k=x::l.drop (k+1):=by
  obtain ⟨h1,rfl⟩:=List.getElem?_eq_some_iff.1 h
  exact List.drop_eq_getElem_cons h1
theorem Rv (l:List Int):Pure Tryz.prog TB 150 [BP l] (eI .i64 (E6 l)):=by
  refine eN Tryz.func150 rfl (by kernel_rfl) rfl ?_;intro Γ hΓ
  refine Ak.bound 0 rfl fun hB=>?_
  have hB:=hB (l.map Dv) .refl
  (repeat' first|refine sN rfl ?_ |refine tA rfl ?_ |refine aU rfl ?_ |refine Aa ?_|(refine aC rfl ?_ ?_<;>rintro ⟨⟩)|refine aK ?_|refine aE ?_|refine aB ?_|refine aR ⟨_,rfl,?_⟩)
  refine Ak.CR (α:={k:Nat // k≤l.length∧E6 l=E6 (l.drop k)}) (fun ⟨k,hk,ha⟩=>[(3,eI .i64 0),(6,BP l),(7,eI .i64 l.length),(8,eI .i64 k)]) (fun ⟨k,hk,ha⟩=>[]) 0 (fun ⟨k,hk,ha⟩=>l.length - k) (⟨0,by omega,rfl⟩) [] (Lz hΓ rfl rfl) (by (simp[cX,zC,hΓ])) ?_;rintro ⟨k,hk,ha⟩;(try dsimp only)
  (repeat first|refine s2 rfl fun _ _hb=>?_ |refine aU rfl ?_ |refine Aa ?_)
  (refine aC rfl ?_ ?_<;>rintro ⟨⟩)
  · obtain ⟨x,hx⟩:=get_some (l:=l) (k:=k) (by (simp only[oZ] at *;omega))
    have hx':=get_map (g:=Dv) hx
    rw [C6 hx,E6] at ha
    (repeat' first|(refine sA rfl ?_ ?_;first|exact tI|simp only[oZ] at *;omega) |(refine s4 rfl ‹_› rfl ?_ ?_;omega) |refine s2 rfl fun _ _hb=>?_ |refine aU rfl ?_ |refine Aa ?_|(refine aC rfl ?_ ?_<;>rintro ⟨⟩)|refine aK ?_|refine aE ?_|refine aB ?_|refine aR ⟨_,rfl,?_⟩)
    · rw [if_pos (by grind)] at ha
      rw [ha]
    · rw [if_neg (by grind)] at ha
      refine ⟨⟨k+1,by (simp only[oZ] at *;omega),ha⟩,by dsimp only;((simp only[oZ] at *;omega)),[],?_⟩
      simp[cX,zC,hΓ]
  · (repeat' first|refine tA rfl ?_ |refine aU rfl ?_ |refine Aa ?_|(refine aC rfl ?_ ?_<;>rintro ⟨⟩)|refine aK ?_|refine aE ?_|refine aB ?_|refine aR ⟨_,rfl,?_⟩)
    rw [ha,List.drop_of_length_le (by (simp only[oZ] at *;omega))];rfl
def UO (e f:Dm):Int:=E6 [LR e.f f.f,LR e.l f.l,LR e.t f.t]
theorem Ru (e f:Dm):(0≤UO e f)=(Hf e f=false):=by
  unfold UO Hf;simp only [E6,LR];grind
theorem IY (e f:Dm):Pure Tryz.prog TB 122 [Rw e,Rw f] (eI .i64 (UO e f)):=by
  refine eN Tryz.func122 rfl (by kernel_rfl) rfl ?_;intro Γ hΓ
  (repeat' first|refine tA rfl ?_ |refine sP rfl (KK _ _) rfl ?_|refine sP rfl (Rv [LR e.f f.f,LR e.l f.l,LR e.t f.t]) rfl ?_ |refine aU rfl ?_ |refine Aa ?_ |refine rE (by kernel_rfl) ?_|(refine aC rfl ?_ ?_<;>rintro ⟨⟩)|refine aK ?_|refine aE ?_|refine aB ?_|refine aR ⟨_,rfl,?_⟩)
  rfl
theorem Mw {s:Sys} {e:Dm} (h:s.es[0]? = some e):FU s 0=CJ s.al s.st e:=by
  unfold FU;rw [h];simp
theorem Jr {s:Sys} {k:Nat} {e p:Dm} (h:s.es[k+1]? = some e) (hp:s.es[k]? = some p):FU s (k+1)=(CJ s.al s.st e && Hf p e):=by
  unfold FU;rw [h];simp [hp]
theorem Fg {k:Nat} {f:Nat→Bool} (h:∀i,i < k→f i=true) (h1:f k=true):∀i,i < k+1→f i=true:=fun i hi=>by
  rcases Nat.lt_succ_iff_lt_or_eq.1 hi with h2|h2
  · exact h i h2
  · rw [h2];exact h1
theorem Gn {s:Sys} {k:Nat} (hk:k < s.es.length) (h:FU s k=false):Bu s=false:=by
  have h1:(List.range s.es.length).all (FU s)=false:=by
    rw [List.all_eq_false];exact ⟨k,List.mem_range.2 hk,by simp [h]⟩
  unfold Bu;rw [h1];simp
theorem Kt {s:Sys} {k:Nat} (h0:Bk s.al=true) (h1:1≤s.st∧s.st≤16) (hk:s.es.length≤k) (h:∀i,i < k→FU s i=true):Bu s=true:=by
  have h1:(List.range s.es.length).all (FU s)=true:=by
    rw [List.all_eq_true];intro i hi;exact h i (by have:=List.mem_range.1 hi;omega)
  unfold Bu;rw [h1];grind
theorem B8 (s:Sys):Pure Tryz.prog TB 118 [CI s] (eB (Bu s)):=by
  refine eN Tryz.func118 rfl (by kernel_rfl) rfl ?_;intro Γ hΓ
  (repeat' first|refine tA rfl ?_ |refine s2 rfl fun _ _hb=>?_ |(refine sC rfl (CP _) ?_;intro _ _hb) |refine s3 rfl ?_ ?_<;>rintro rfl |refine aU rfl ?_ |refine Aa ?_|(refine aC rfl ?_ ?_<;>rintro ⟨⟩)|refine aK ?_|refine aE ?_|refine aB ?_|refine aR ⟨_,rfl,?_⟩)
  all_goals try (show E.o _=E.o _;congr;unfold Bu;(try simp only [List.length_map] at *);grind)
  refine Ak.bound 1 rfl fun hB=>?_
  have hB:=hB (s.es.map CL) (.p (j:=2) rfl .refl)
  refine Ak.CR (α:={k:Nat // k≤s.es.length∧∀i,i < k→FU s i=true}) (fun ⟨k,hk,ha⟩=>[(1,.o (.ip (BZ s))),(3,eI .i64 k)]) (fun ⟨k,hk,ha⟩=>[]) 0 (fun ⟨k,hk,ha⟩=>s.es.length - k) (⟨0,by omega,by omega⟩) [] (Lz hΓ rfl rfl) (by (simp[cX,zC,hΓ])) ?_;rintro ⟨k,hk,ha⟩;(try dsimp only)
  (repeat first|refine sN rfl ?_ |refine tA rfl ?_ |refine s2 rfl fun _ _hb=>?_ |refine aU rfl ?_ |refine Aa ?_)
  (refine aC rfl ?_ ?_<;>rintro ⟨⟩)
  · obtain ⟨e,hx⟩:=get_some (l:=s.es) (k:=k) (by (simp only[oZ] at *;omega))
    have hx':=get_map (g:=CL) hx
    cases k with
    | zero=>
      have h1:=Mw hx
      (repeat' first|(refine sA rfl ?_ ?_;first|exact tI|omega) |(refine s4 rfl ‹_› rfl ?_ ?_;first|omega|simp only[oZ] at *;omega) |refine s2 rfl fun _ _hb=>?_ |(refine sC rfl (Li _ _ e) ?_;intro _ _hb)|(refine sC rfl (II _ _) ?_;intro _ _hb) |refine s3 rfl ?_ ?_<;>rintro rfl |refine aU rfl ?_ |refine Aa ?_ |refine rE (by kernel_rfl) ?_|(refine aC rfl ?_ ?_<;>rintro ⟨⟩)|refine aK ?_|refine aE ?_|refine aB ?_|refine aR ⟨_,rfl,?_⟩)
      all_goals first
        | (exfalso;(simp only[oZ] at *;omega);done)
        | (have h2:=Gn (s:=s) (k:=0) (by (simp only[oZ] at *;omega)) (by grind);show E.o _=E.o _;congr;exact h2.symm;done)
        | (refine ⟨⟨0+1,by (simp only[oZ] at *;omega),Fg ha (by grind)⟩,by dsimp only;((simp only[oZ] at *;omega)),[],?_⟩;simp[cX,zC,hΓ];done)
    | succ k=>
      obtain ⟨p,hp⟩:=get_some (l:=s.es) (k:=k) (by omega)
      have hp':(s.es.map CL)[(((k+1:Nat):Int) - 1).toNat]? = some (CL p):=by simp [hp]
      have h1:=Jr hx hp
      (repeat' first|(refine sA rfl ?_ ?_;first|exact tI|simp only[oZ] at *;omega) |(refine s4 rfl ‹_› rfl ?_ ?_;omega) |refine s2 rfl fun _ _hb=>?_ |(refine sC rfl (Li _ _ e) ?_;intro _ _hb)|(refine sC rfl (II p e) ?_;intro _ _hb) |refine s3 rfl ?_ ?_<;>rintro rfl |refine aU rfl ?_ |refine Aa ?_ |refine rE (by kernel_rfl) ?_|(refine aC rfl ?_ ?_<;>rintro ⟨⟩)|refine aK ?_|refine aE ?_|refine aB ?_|refine aR ⟨_,rfl,?_⟩)
      all_goals first
        | (exfalso;(simp only[oZ] at *;omega);done)
        | (have h2:=Gn (s:=s) (k:=k+1) (by (simp only[oZ] at *;omega)) (by grind);show E.o _=E.o _;congr;exact h2.symm;done)
        | (refine ⟨⟨k+1+1,by (simp only[oZ] at *;omega),Fg ha (by grind)⟩,by dsimp only;((simp only[oZ] at *;omega)),[],?_⟩;simp[cX,zC,hΓ];done)
  · (repeat' first|refine tA rfl ?_ |refine aU rfl ?_ |refine Aa ?_|(refine aC rfl ?_ ?_<;>rintro ⟨⟩)|refine aK ?_|refine aE ?_|refine aB ?_|refine aR ⟨_,rfl,?_⟩)
    have h2:=Kt (s:=s) (by grind) (by grind) (by (simp only[oZ] at *;omega)) ha
    show E.o _=E.o _;congr;exact h2.symm
theorem La {s:Sys} {e:Dm}:CJ s.al s.st e=(decide (0≤e.f∧e.f < s.st) && decide (0≤e.t∧e.t < s.st) && decide (e.l < 6) && hasB s.al e.l):=by
  unfold CJ hasB;grind
theorem GN (s:Sys):Pure Tryz.prog TB 100 [CI s] (eB (Bu s)):=by
  refine eN Tryz.func100 rfl (by kernel_rfl) rfl ?_;intro Γ hΓ
  (repeat' first|refine sN rfl ?_ |refine tA rfl ?_ |refine s2 rfl fun _ _hb=>?_ |(refine sC rfl (Dt _) ?_;intro _ _hb) |refine s3 rfl ?_ ?_<;>rintro rfl |refine aU rfl ?_ |refine Aa ?_|(refine aC rfl ?_ ?_<;>rintro ⟨⟩)|refine aK ?_|refine aE ?_|refine aB ?_|refine aR ⟨_,rfl,?_⟩)
  all_goals try (show E.o _=E.o _;congr;unfold Bu;(try simp only [List.length_map] at *);grind)
  refine Ak.bound 1 rfl fun hB=>?_
  have hB:=hB (s.es.map CL) (.p (j:=2) rfl .refl)
  refine Ak.CR (α:={k:Nat // k≤s.es.length∧∀i,i < k→FU s i=true}) (fun ⟨k,hk,ha⟩=>[(1,.o (.ip (BZ s))),(20,.o (.d (Ey s.es))),(21,eI .i64 s.es.length),(22,eI .i64 k)]) (fun ⟨k,hk,ha⟩=>[]) 0 (fun ⟨k,hk,ha⟩=>s.es.length - k) (⟨0,by omega,by omega⟩) [] (Lz hΓ rfl rfl) (by (simp[cX,zC,hΓ])) ?_;rintro ⟨k,hk,ha⟩;(try dsimp only)
  (repeat first|refine s2 rfl fun _ _hb=>?_ |refine aU rfl ?_ |refine Aa ?_)
  (refine aC rfl ?_ ?_<;>rintro ⟨⟩)
  · obtain ⟨e,hx⟩:=get_some (l:=s.es) (k:=k) (by (simp only[oZ] at *;omega))
    have hx':=get_map (g:=CL) hx
    cases k with
    | zero=>
      have h1:=Mw hx
      rw [La] at h1
      (repeat' first|(refine sA rfl ?_ ?_;first|exact tI|omega) |(refine s4 rfl ‹_› rfl ?_ ?_;first|omega|simp only[oZ] at *;omega) |refine s2 rfl fun _ _hb=>?_ |(refine sC rfl (JN s _) ?_;intro _ _hb)|(refine sC rfl (JL _ _) ?_;intro _ _hb) |refine s3 rfl ?_ ?_<;>rintro rfl |refine aU rfl ?_ |refine Aa ?_ |refine rE (by kernel_rfl) ?_|(refine aC rfl ?_ ?_<;>rintro ⟨⟩)|refine aK ?_|refine aE ?_|refine aB ?_|refine aR ⟨_,rfl,?_⟩)
      all_goals first
        | (exfalso;(simp only[oZ] at *;omega);done)
        | (have h2:=Gn (s:=s) (k:=0) (by (simp only[oZ] at *;omega)) (by grind);show E.o _=E.o _;congr;exact h2.symm;done)
        | (refine ⟨⟨0+1,by (simp only[oZ] at *;omega),Fg ha (by grind)⟩,by dsimp only;((simp only[oZ] at *;omega)),[],?_⟩;simp[cX,zC,hΓ];done)
    | succ k=>
      obtain ⟨p,hp⟩:=get_some (l:=s.es) (k:=k) (by omega)
      have hp':(s.es.map CL)[(((k+1:Nat):Int) - 1).toNat]? = some (CL p):=by simp [hp]
      have h1:=Jr hx hp
      have h3:=Ru p e
      rw [La] at h1
      (repeat' first|(refine sA rfl ?_ ?_;first|exact tI|simp only[oZ] at *;omega) |(refine s4 rfl ‹_› rfl ?_ ?_;omega) |refine s2 rfl fun _ _hb=>?_ |(refine sC rfl (JN s _) ?_;intro _ _hb)|(refine sC rfl (JL _ _) ?_;intro _ _hb)|refine sP rfl (IY p e) rfl ?_ |refine s3 rfl ?_ ?_<;>rintro rfl |refine aU rfl ?_ |refine Aa ?_ |refine rE (by kernel_rfl) ?_|(refine aC rfl ?_ ?_<;>rintro ⟨⟩)|refine aK ?_|refine aE ?_|refine aB ?_|refine aR ⟨_,rfl,?_⟩)
      all_goals first
        | (exfalso;(simp only[oZ] at *;omega);done)
        | (have h2:=Gn (s:=s) (k:=k+1) (by (simp only[oZ] at *;omega)) (by grind);show E.o _=E.o _;congr;exact h2.symm;done)
        | (refine ⟨⟨k+1+1,by (simp only[oZ] at *;omega),Fg ha (by grind)⟩,by dsimp only;((simp only[oZ] at *;omega)),[],?_⟩;simp[cX,zC,hΓ];done)
  · (repeat' first|refine tA rfl ?_ |refine aU rfl ?_ |refine Aa ?_|(refine aC rfl ?_ ?_<;>rintro ⟨⟩)|refine aK ?_|refine aE ?_|refine aB ?_|refine aR ⟨_,rfl,?_⟩)
    have h2:=Kt (s:=s) (by grind) (by grind) (by (simp only[oZ] at *;omega)) ha
    show E.o _=E.o _;congr;exact h2.symm
theorem K5 {a:Cj} {k:Nat} {x:List Int} (hx:a.nx[k]? = some x) (h:Ee (Ag a.al).length a.nx.length x=false):Bf a=false:=by
  have h1:=FY (f:=Ee (Ag a.al).length a.nx.length) hx h
  unfold Bf;rw [h1];simp
theorem N6 {a:Cj} {k:Nat} (h0:Bk a.al=true) (h1:1≤a.nx.length∧a.nx.length≤12) (h2:a.ac.length=a.nx.length) (hk:a.nx.length≤k) (h:(a.nx.take k).all (Ee (Ag a.al).length a.nx.length)=true):Bf a=true:=by
  have h3:=EG h hk
  unfold Bf;rw [h3];grind
theorem Ch (a:Cj):Pure Tryz.prog TB 46 [BF a] (eB (Bf a)):=by
  refine eN Tryz.func46 rfl (by kernel_rfl) rfl ?_;intro Γ hΓ
  (repeat' first|refine sN rfl ?_ |refine tA rfl ?_ |refine s2 rfl fun _ _hb=>?_ |(refine sC rfl (Dt _) ?_;intro _ _hb)|refine sP rfl (DL _) rfl ?_ |refine s3 rfl ?_ ?_<;>rintro rfl |refine aU rfl ?_ |refine Aa ?_|(refine aC rfl ?_ ?_<;>rintro ⟨⟩)|refine aK ?_|refine aE ?_|refine aB ?_|refine aR ⟨_,rfl,?_⟩)
  all_goals try (show E.o _=E.o _;congr;unfold Bf;(try simp only [List.length_map] at *);grind)
  refine Ak.bound 1 rfl fun hB=>?_
  have hB:=hB (a.nx.map IH) (.p (j:=1) rfl .refl)
  refine Ak.CR (α:={k:Nat // k≤a.nx.length∧(a.nx.take k).all (Ee (Ag a.al).length a.nx.length)=true}) (fun ⟨k,hk,ha⟩=>[(1,.o (.ip (BJ a))),(3,eI .i64 (Ag a.al).length),(38,JG a.nx),(39,eI .i64 a.nx.length),(40,eI .i64 k)]) (fun ⟨k,hk,ha⟩=>[]) 0 (fun ⟨k,hk,ha⟩=>a.nx.length - k) (⟨0,by omega,rfl⟩) [] (Lz hΓ rfl rfl) (by (simp[cX,zC,hΓ])) ?_;rintro ⟨k,hk,ha⟩;(try dsimp only)
  (repeat first|refine s2 rfl fun _ _hb=>?_ |refine aU rfl ?_ |refine Aa ?_)
  (refine aC rfl ?_ ?_<;>rintro ⟨⟩)
  · obtain ⟨x,hx⟩:=get_some (l:=a.nx) (k:=k) (by (simp only[oZ] at *;omega))
    have hx':=get_map (g:=IH) hx
    (repeat' first|refine sN rfl ?_ |refine tA rfl ?_ |(refine s4 rfl ‹_› rfl ?_ ?_;omega) |refine s2 rfl fun _ _hb=>?_ |refine aU rfl ?_ |refine Aa ?_|(refine aC rfl ?_ ?_<;>rintro ⟨⟩)|refine aK ?_|refine aE ?_|refine aB ?_|refine aR ⟨_,rfl,?_⟩)
    · have h2:=K5 hx (by unfold Ee;grind)
      show E.o _=E.o _;congr;exact h2.symm
    refine Ak.bound 5 rfl fun hB2=>?_
    have hB2:=hB2 (x.map Dv) .refl
    refine Ak.CR (α:={j:Nat // j≤x.length∧(x.take j).all (NL a.nx.length)=true}) (fun ⟨j,hj,hc⟩=>[(1,.o (.ip (BJ a))),(3,eI .i64 (Ag a.al).length),(38,JG a.nx),(39,eI .i64 a.nx.length),(40,eI .i64 k),(48,BP x),(49,eI .i64 x.length),(50,eI .i64 j)]) (fun ⟨j,hj,hc⟩=>[]) 0 (fun ⟨j,hj,hc⟩=>x.length - j) (⟨0,by omega,rfl⟩) [] (Lz hΓ rfl rfl) (by (simp[cX,zC,hΓ])) ?_;rintro ⟨j,hj,hc⟩;(try dsimp only)
    (repeat first|refine s2 rfl fun _ _hb=>?_ |refine aU rfl ?_ |refine Aa ?_)
    (refine aC rfl ?_ ?_<;>rintro ⟨⟩)
    · obtain ⟨y,hy⟩:=get_some (l:=x) (k:=j) (by (simp only[oZ] at *;omega))
      have hy':=get_map (g:=Dv) hy
      (repeat' first|refine sN rfl ?_ |(refine sA rfl ?_ ?_;first|exact tI|simp only[oZ] at *;omega) |(refine s4 rfl ‹_› rfl ?_ ?_;omega) |refine s2 rfl fun _ _hb=>?_ |refine s3 rfl ?_ ?_<;>rintro rfl |refine aU rfl ?_ |refine Aa ?_|(refine aC rfl ?_ ?_<;>rintro ⟨⟩)|refine aK ?_|refine aE ?_|refine aB ?_|refine aR ⟨_,rfl,?_⟩)
      all_goals first
        | (have h2:=K5 hx (by rw [Ee,FY hy (by unfold NL;grind)];simp);show E.o _=E.o _;congr;exact h2.symm;done)
        | (refine ⟨⟨j+1,by (simp only[oZ] at *;omega),EI hy hc (by unfold NL;grind)⟩,by dsimp only;((simp only[oZ] at *;omega)),[],?_⟩;simp[cX,zC,hΓ];done)
    · (repeat' first|(refine sA rfl ?_ ?_;first|exact tI|simp only[oZ] at *;omega) |refine aU rfl ?_ |refine Aa ?_|(refine aC rfl ?_ ?_<;>rintro ⟨⟩)|refine aK ?_|refine aE ?_|refine aB ?_|refine aR ⟨_,rfl,?_⟩)
      have h3:=EG hc (by (simp only[oZ] at *;omega))
      refine ⟨⟨k+1,by (simp only[oZ] at *;omega),EI hx ha (by rw [Ee,h3];grind)⟩,by dsimp only;((simp only[oZ] at *;omega)),[],?_⟩
      simp[cX,zC,hΓ]
  · (repeat' first|refine tA rfl ?_ |refine aU rfl ?_ |refine Aa ?_|(refine aC rfl ?_ ?_<;>rintro ⟨⟩)|refine aK ?_|refine aE ?_|refine aB ?_|refine aR ⟨_,rfl,?_⟩)
    have h2:=N6 (a:=a) (by grind) (by grind) (by grind) (by (simp only[oZ] at *;omega)) ha
    show E.o _=E.o _;congr;exact h2.symm
def Dl (a:Cj) (q:Nat) (l:Int):Int:=if DJ a.al l.toNat then ((a.nx.getD q []).getD (AA a.al l.toNat).length 0) else q
theorem Hn {s:Int} {l k:Nat} (hl:l < k) (hb:DJ s l=true):(AA s l).length < (AA s k).length:=by
  induction k with
  | zero=>omega
  | succ k ih=>
    rw [B1,List.length_append]
    rcases Nat.lt_succ_iff_lt_or_eq.1 hl with h|h
    · have:=ih h;omega
    · subst h;rw [if_pos hb];simp
theorem Ga {a:Cj} (h:Bf a=true) {q:Nat} (hq:q < a.nx.length):∃row,a.nx[q]? = some row∧row.length=(Ag a.al).length∧∀(i:Nat) (x:Int),row[i]? = some x→0≤x∧x < a.nx.length:=by
  obtain ⟨row,hr⟩:=get_some hq
  refine ⟨row,hr,?_⟩
  unfold Bf at h
  rw [Bool.and_eq_true,List.all_eq_true] at h
  have h1:=h.2 row (List.mem_of_getElem? hr)
  unfold Ee at h1
  rw [Bool.and_eq_true,List.all_eq_true] at h1
  refine ⟨by grind,fun i x hx=>?_⟩
  have:=h1.2 x (List.mem_of_getElem? hx)
  unfold NL at this;grind
theorem LW (a:Cj) (h:Bf a=true) (q:Nat) (hq:q < a.nx.length) (l:Int) (h0:0≤l) (h1:l < 6):Pure Tryz.prog TB 170 [BF a,eI .i64 q,eI .i64 l] (eI .i64 (Dl a q l)):=by
  refine eN Tryz.func170 rfl (by kernel_rfl) rfl ?_;intro Γ hΓ
  obtain ⟨row,hr,hl,hx⟩:=Ga h hq
  have hr':=get_map (g:=IH) hr
  by_cases hb:DJ a.al l.toNat=true
  · have hlt:(AA a.al l.toNat).length < row.length:=by rw [hl];exact Hn (by omega) hb
    obtain ⟨y,hy⟩:=get_some hlt
    have hy':=get_map (g:=Dv) hy
    (repeat' first|refine tA rfl ?_ |(refine s4 rfl ‹_› rfl ?_ ?_;omega) |refine s2 rfl fun _ _hb=>?_ |(refine sC rfl (CQ _ _ (by omega) (by omega)) ?_;intro _ _hb)|refine sP rfl (Oi _ _ (by omega) (by omega)) rfl ?_ |refine aU rfl ?_ |refine Aa ?_ |refine rE (by kernel_rfl) ?_|(refine aC rfl ?_ ?_<;>rintro ⟨⟩)|refine aK ?_|refine aE ?_|refine aB ?_|refine aR ⟨_,rfl,?_⟩)
    all_goals first
      | (exfalso;grind;done)
      | (show E.o _=E.o _;congr;unfold Dl;rw [if_pos hb];simp [List.getD,hr,hy];done)
  · (repeat' first|refine tA rfl ?_ |(refine s4 rfl ‹_› rfl ?_ ?_;omega) |refine s2 rfl fun _ _hb=>?_ |(refine sC rfl (CQ _ _ (by omega) (by omega)) ?_;intro _ _hb) |refine aU rfl ?_ |refine Aa ?_ |refine rE (by kernel_rfl) ?_|(refine aC rfl ?_ ?_<;>rintro ⟨⟩)|refine aK ?_|refine aE ?_|refine aB ?_|refine aR ⟨_,rfl,?_⟩)
    all_goals first
      | (show E.o _=E.o _;congr;unfold Dl;rw [if_neg hb];done)
      | (exfalso;grind;done)
structure Net where
  ps:List Sys
  au:List Cj
  st:List Int
  ls:Int
  kd:Int
  gl:Int
end Go.Am
namespace Go.Am
open Go
inductive Fits:List Int→List Int→Prop
  | nil:Fits [] []
  | cons {z s:Int} {zs ss:List Int}:0≤s→s < z→Fits zs ss→Fits (z::zs) (s::ss)
end Go.Am
namespace Go.Am
open Go Go.Proofs
set_option maxHeartbeats 1000000
attribute [local irreducible] AU B0 Lex Bo Ak Spec
variable {TB:A7}
end Go.Am
namespace Go.Am
open Go
theorem N7 {a b c:Dm} (h:Hf a b=true) (k:Hf b c=true):Hf a c=true:=by
  unfold Hf at *;grind
theorem BX {s:Sys} (h:Bu s=true):Bk s.al=true∧1≤s.st∧s.st≤16:=by
  unfold Bu at h;grind
theorem Cx {s:Sys} (h:Bu s=true) {e:Dm} (he:e∈s.es):CJ s.al s.st e=true:=by
  obtain ⟨k,hk,rfl⟩:=List.getElem_of_mem he
  unfold Bu at h
  simp only [Bool.and_eq_true,List.all_eq_true] at h
  have h1:=h.2 k (List.mem_range.2 hk)
  cases k with
  | zero=>rw [Mw (List.getElem?_eq_getElem hk)] at h1;exact h1
  | succ k=>rw [Jr (List.getElem?_eq_getElem hk) (List.getElem?_eq_getElem (by omega))] at h1;grind
theorem Mx {s:Sys} (h:Bu s=true):s.es.Pairwise fun a b=>Hf a b=true:=by
  have key:∀(l:List Dm),(∀(k:Nat) (p e:Dm),l[k]? = some p→l[k+1]? = some e→Hf p e=true)→l.Pairwise fun a b=>Hf a b=true:=by
    intro l
    induction l with
    | nil=>intro _;exact .nil
    | cons a l ih=>
      intro hl
      have h1:=ih fun k p e hp he=>hl (k+1) p e (by simpa using hp) (by simpa using he)
      refine List.pairwise_cons.2 ⟨fun b hb=>?_,h1⟩
      cases l with
      | nil=>cases hb
      | cons c l=>
        have h2:=hl 0 a c rfl rfl
        rcases List.mem_cons.1 hb with rfl|hb
        · exact h2
        · exact N7 h2 ((List.pairwise_cons.1 h1).1 b hb)
  refine key _ fun k p e hp he=>?_
  unfold Bu at h
  simp only [Bool.and_eq_true,List.all_eq_true] at h
  have h1:=h.2 (k+1) (List.mem_range.2 (List.getElem?_eq_some_iff.1 he).1)
  rw [Jr he hp] at h1
  grind
theorem FG {a:Cj} (h:Bf a=true) {q:Nat} (hq:q < a.nx.length) {l:Int} (h0:0≤l) (h1:l < 6):0≤Dl a q l∧Dl a q l < a.nx.length:=by
  obtain ⟨row,hr,hl,hx⟩:=Ga h hq
  unfold Dl
  split
  · rename_i hb
    have hlt:(AA a.al l.toNat).length < row.length:=by rw [hl];exact Hn (by omega) hb
    obtain ⟨y,hy⟩:=get_some hlt
    have:=hx _ y hy
    simpa [List.getD,hr,hy] using this
  · omega
structure Yb (n:Net):Prop where
  ps:∀s∈n.ps,Bu s=true
  au:∀a∈n.au,Bf a=true
  np:n.ps.length≤3
  na:n.au.length≤2
inductive UA:List Int→List (List Int)→Prop
  | nil:UA [] []
  | cons {z:Int} {c:List Int} {zs:List Int} {cs:List (List Int)}:(∀x∈c,0≤x∧x < z)→(c.length:Int)≤z→UA zs cs→UA (z::zs) (c::cs)
end Go.Am
namespace Go.Am
open Go Go.Proofs
set_option maxHeartbeats 1000000
attribute [local irreducible] AU B0 Lex Bo Ak Spec
variable {TB:A7}
theorem BB {s:Int} {k:Nat} {l:Int} (h:l∈AA s k):0≤l∧l < k∧DJ s l.toNat=true:=by
  unfold AA at h
  obtain ⟨i,hi,rfl⟩:=List.mem_map.1 h
  obtain ⟨h1,h2⟩:=List.mem_filter.1 hi
  have:=List.mem_range.1 h1
  exact ⟨Int.natCast_nonneg _,by show ((i:Nat):Int) < k;omega,h2⟩
structure Yq (n:Net):Prop where
  one:n.kd=0∨n.kd=3∨n.kd=5→1≤n.au.length
  two:n.kd=1∨n.kd=2→2≤n.au.length
def Vl (l:List Int):Nat:=l.countP (decide <| · < 0)
structure UB (mv:List (List (List Int))) (g:Nat→Bool) (dist:List Int):Prop where
  len:dist.length=mv.length
  zero:∀i,i < mv.length→(dist.getD i 0=0↔g i=true)
  step:∀i,i < mv.length→0 < dist.getD i 0→∃r∈mv.getD i [],∃j∈r,dist.getD j.toNat 0=dist.getD i 0 - 1
  close:∀i,i < mv.length→∀r∈mv.getD i [],∀j∈r,0≤dist.getD j.toNat 0→0≤dist.getD i 0∧dist.getD i 0≤dist.getD j.toNat 0+1
  bound:∀i,i < mv.length→-1≤dist.getD i 0∧dist.getD i 0≤mv.length+1
structure DI (mv:List (List (List Int))) (g:Nat→Bool) (dist:List Int) (d:Int) (more:Bool) (i:Nat):Prop where
  len:dist.length=mv.length
  d1:1≤d
  zero:∀i,i < mv.length→(dist.getD i 0=0↔g i=true)
  step:∀i,i < mv.length→0 < dist.getD i 0→∃r∈mv.getD i [],∃j∈r,dist.getD j.toNat 0=dist.getD i 0 - 1
  lt:∀x,x < mv.length→-1≤dist.getD x 0∧dist.getD x 0≤d
  up:∀x,i≤x→x < mv.length→dist.getD x 0 < d
  last:more=false→∀x,x < mv.length→dist.getD x 0 < d
  close:∀x,x < mv.length→∀r∈mv.getD x [],∀j∈r,0≤dist.getD j.toNat 0→(dist.getD j.toNat 0 < d - 1∨x < i∧dist.getD j.toNat 0=d - 1)→0≤dist.getD x 0∧dist.getD x 0≤dist.getD j.toNat 0+1
structure X8 (mv:List (List (List Int))) (g:Nat→Bool) (dt:List Int) (d:Int) (more:Bool):Prop where
  len:dt.length=mv.length
  d1:1≤d
  d2:d≤mv.length+2
  yes:more=true→DI mv g dt d true 0∧d+Vl dt≤mv.length+1
  no:more=false→UB mv g dt
structure Yo (mv:List (List (List Int))) (g:Nat→Bool) (dt:List Int) (d:Int) (du:List Int) (m2:Bool) (i:Nat):Prop where
  le:i≤mv.length
  di:DI mv g du d m2 i
  cnt:Vl du+(if m2 then 1 else 0)≤Vl dt
def VU (n:Nat) (acc:List Int):Prop:=acc.Nodup∧∀x∈acc,0≤x∧x < n
end Go.Am
namespace Go.Am
open Go
structure Gr where
  N:Nat
  succ:Int→Int→List Int
  goal:Int→Bool
  ls:List Int
  s0:Int
structure Yp (g:Gr):Prop where
  s0:0≤g.s0∧g.s0 < g.N
  inn:∀x:Int,0≤x∧x < g.N→∀l∈g.ls,∀y∈g.succ x l,0≤y∧y < g.N
  srt:g.ls.Pairwise (· < ·)
def reach (g:Gr):List Int→Int→Int→Prop
  | [],a,x=>a=x
  | l::w,a,x=>∃y∈g.succ a l,reach g w y x
def over (g:Gr) (w:List Int):Prop:=∀l∈w,l∈g.ls
def XO:List Int→List Int→Prop
  | a::u,b::w=>a < b∨a=b∧XO u w
  | _,_=>False
def slt (u w:List Int):Prop:=u.length < w.length∨u.length=w.length∧XO u w
structure X9 (g:Gr) (dx:Int→Int):Prop where
  zero:∀x:Int,0≤x∧x < g.N→(dx x=0↔g.goal x=true)
  step:∀x:Int,0≤x∧x < g.N→0 < dx x→∃l∈g.ls,∃j∈g.succ x l,dx j=dx x - 1
  close:∀x:Int,0≤x∧x < g.N→∀l∈g.ls,∀j∈g.succ x l,0≤dx j→0≤dx x∧dx x≤dx j+1
structure Ys (g:Gr) (dx:Int→Int) (w:List Int) (at':List Int) (d:Int):Prop where
  ov:over g w
  ne:at'≠[]
  acc:VU g.N at'
  mem:∀x,x∈at'↔reach g w g.s0 x∧dx x=d
  len:w.length+d=dx g.s0
  d0:0≤d
  min:∀u,over g u→u.length=w.length→XO u w→∀x,reach g u g.s0 x→dx x≠d
end Go.Am
namespace Go.Am
open Go Go.Proofs
set_option maxHeartbeats 1000000
attribute [local irreducible] AU B0 Lex Bo Ak Spec
variable {TB:A7}
theorem JV (s:Int) (k:Nat):(AA s k).Pairwise (· < ·):=by
  unfold AA
  rw [List.pairwise_map]
  refine (List.pairwise_lt_range.filter _).imp fun {a b} h=>?_
  show ((a:Nat):Int) < ((b:Nat):Int)
  omega
theorem TC {a b:Nat} (ha:a < 64) (hb:b < 64):Qh .i64 a b=((a ||| b:Nat):Int)∧a ||| b < 64:=by
  have h0:a ||| b < 64:=Nat.or_lt_two_pow (n:=6) ha hb
  refine ⟨?_,h0⟩
  unfold Qh
  have h1:(BitVec.ofInt IntKind.i64.bits (a:Int) ||| BitVec.ofInt IntKind.i64.bits (b:Int)).toNat=a ||| b:=by
    have e:IntKind.i64.bits=64:=rfl
    rw [e]
    simp only [BitVec.toNat_or,BitVec.ofInt_natCast,BitVec.toNat_ofNat]
    rw [Nat.mod_eq_of_lt (by omega),Nat.mod_eq_of_lt (by omega)]
  rw [h1]
  exact IntWalk.i64_in _ (by omega)
end Go.Am
namespace Go.Am
open Go
def Bm:List Int→Nat
  | []=>0
  | x::l=>2 ^ x.toNat+Bm l
theorem Kn:∀(l m:List Int),Bm (l++m)=Bm l+Bm m
  | [],m=>by simp [Bm]
  | x::l,m=>by simp [Bm,Kn l m,Nat.add_assoc]
theorem Jp:∀ {l:List Int} {t:Nat},l.Pairwise (· < ·)→(∀x∈l,0≤x∧x < t)→Bm l < 2 ^ t
  | [],t,_,_=>Nat.two_pow_pos t
  | x :: l,t,hp,h=>by
    have key:∀(l:List Int) (a t:Nat),(∀x∈l,(a:Int)≤x∧x < t)→l.Pairwise (· < ·)→a≤t→2 ^ a+Bm l≤2 ^ t:=by
      intro l
      induction l with
      | nil=>intro a t _ _ hat;simpa [Bm] using Nat.pow_le_pow_right (by omega) hat
      | cons y l ih=>
        intro a t h hp hat
        have hy:=h y (by simp)
        have hp2:=List.pairwise_cons.1 hp
        have h1:=ih (y.toNat+1) t (fun x hx=>by have:=hp2.1 x hx;have:=h x (by simp [hx]);omega) hp2.2 (by omega)
        have h2:2 ^ a≤2 ^ y.toNat:=Nat.pow_le_pow_right (by omega) (by omega)
        rw [Nat.pow_succ] at h1
        simp only [Bm];omega
    have hx:=h x (by simp)
    have hp2:=List.pairwise_cons.1 hp
    have h1:=key l (x.toNat+1) t (fun y hy=>by have:=hp2.1 y hy;have:=h y (by simp [hy]);omega) hp2.2 (by omega)
    rw [Nat.pow_succ] at h1
    simp only [Bm]
    have:=Nat.two_pow_pos x.toNat
    omega
theorem Uc {l:List Int} {t:Nat} (hp:l.Pairwise (· < ·)) (h:∀x∈l,0≤x∧x < t):Bm l ||| 2 ^ t=Bm (l++[(t:Int)]):=by
  have h1:=Jp hp h
  rw [Kn]
  have h2:=Nat.two_pow_add_eq_or_of_lt h1 1
  simp only [Nat.mul_one] at h2
  rw [Nat.or_comm,←h2]
  simp [Bm];omega
theorem MM:∀(k m:Nat),(2 ^ k*(2*m+1)) &&& (2 ^ k*(2*m+1) - 1)=2 ^ k*(2*m)
  | 0, m=>by
    apply Nat.eq_of_testBit_eq
    intro i
    cases i with
    | zero=>simp
    | succ i=>
      simp only [Nat.pow_zero,Nat.one_mul,Nat.add_sub_cancel]
      have h1:(2*m+1) / 2=m:=by omega
      have h2:2*m / 2=m:=by omega
      rw [Nat.testBit_and,Nat.testBit_succ,Nat.testBit_succ,h1,h2];simp
  | k + 1,m=>by
    have ih:=MM k m
    have hp:0 < 2 ^ k*(2*m+1):=Nat.mul_pos (Nat.two_pow_pos k) (by omega)
    have e1:2 ^ (k+1)*(2*m+1)=2*(2 ^ k*(2*m+1)):=by rw [Nat.pow_succ,Nat.mul_comm (2 ^ k) 2,Nat.mul_assoc]
    have e2:2 ^ (k+1)*(2*m)=2*(2 ^ k*(2*m)):=by rw [Nat.pow_succ,Nat.mul_comm (2 ^ k) 2,Nat.mul_assoc]
    rw [e1,e2,←ih]
    generalize 2 ^ k*(2*m+1)=a at hp
    apply Nat.eq_of_testBit_eq
    intro i
    cases i with
    | zero=>simp
    | succ i=>
      have h1:2*a / 2=a:=by omega
      have h2:(2*a - 1) / 2=a - 1:=by omega
      have h3:2*(a &&& (a - 1)) / 2=a &&& (a - 1):=by omega
      rw [Nat.testBit_and,Nat.testBit_succ,Nat.testBit_succ,Nat.testBit_succ,h1,h2,h3,Nat.testBit_and]
theorem Kp:∀ {l:List Int} {k:Nat},l.Pairwise (· < ·)→(∀x∈l,(k:Int) < x)→∃m,Bm l=2 ^ k*(2*m)
  | [],k,_,_=>⟨0,by simp [Bm]⟩
  | x :: l,k,hp,h=>by
    have hp2:=List.pairwise_cons.1 hp
    have hx:=h x (by simp)
    obtain ⟨m,hm⟩:=Kp (l:=l) (k:=k) hp2.2 fun y hy=>by have:=hp2.1 y hy;omega
    refine ⟨2 ^ (x.toNat - k - 1)+m,?_⟩
    have e:x.toNat=k+(1+(x.toNat - k - 1)):=by omega
    have:2 ^ x.toNat=2 ^ k*(2*2 ^ (x.toNat - k - 1)):=by
      conv=>lhs;rw [e,Nat.pow_add,Nat.pow_add]
    simp only [Bm,hm,this,←Nat.mul_add]
theorem Iq {x:Int} {l:List Int} (hp:(x::l).Pairwise (· < ·)) (h0:0≤x):∃m,Bm (x::l)=2 ^ x.toNat*(2*m+1)∧Bm l=2 ^ x.toNat*(2*m):=by
  have hp2:=List.pairwise_cons.1 hp
  obtain ⟨m,hm⟩:=Kp (l:=l) (k:=x.toNat) hp2.2 fun y hy=>by have:=hp2.1 y hy;omega
  exact ⟨m,by simp only [Bm,hm];rw [Nat.mul_add];omega,hm⟩
theorem QH {x:Int} {l:List Int} (hp:(x::l).Pairwise (· < ·)) (h0:0≤x):Bm (x::l) &&& (Bm (x::l) - 1)=Bm l:=by
  obtain ⟨m,h1,h2⟩:=Iq hp h0
  rw [h1,h2,MM]
theorem Ko {x:Int} {l:List Int}:0 < Bm (x::l):=by
  simp only [Bm];have:=Nat.two_pow_pos x.toNat;omega
theorem SU {x:Int} {l:List Int} (hp:(x::l).Pairwise (· < ·)) (h0:0≤x) (hlt:Bm (x::l) < 2 ^ 64):Lib.ctz 64 (Bm (x::l))=x.toNat:=by
  obtain ⟨m,h1,_⟩:=Iq hp h0
  have h2:=Lib.lowest_bit 64 _ (by have:=Ko (x:=x) (l:=l);omega) hlt
  have h3:=Lib.and_neg 64 x.toNat m (by rw [←h1];exact hlt)
  rw [←h1,h2.1] at h3
  exact (Nat.pow_right_inj (by omega)).1 h3
end Go.Am
namespace Go.Am
open Go Go.Proofs
set_option maxHeartbeats 1000000
attribute [local irreducible] AU B0 Lex Bo Ak Spec
variable {TB:A7}
theorem Uj (i:Nat) (h:i < 64):A6[i]? = some (.int .u8 (Lib.deBruijn64tab.getD i 0:Nat)):=by
  have e:A6=Lib.deBruijn64tab.map fun n=>Value.int .u8 (n:Nat):=rfl
  have hl:Lib.deBruijn64tab.length=64:=rfl
  rw [e,List.getElem?_map,List.getElem?_eq_getElem (by omega)]
  simp [List.getD,hl,h]
theorem VI (x a:Nat) (hx:x < 18446744073709551616) (hx0:x≠0) (hlow:x &&& (18446744073709551616 - x)=a) :
    (IntKind.u64.wrap (Du .u64 (x:Int) (IntKind.u64.wrap (-(x:Int)))*285870213051353865)).fdiv (2 ^ (min (58:Int).toNat IntKind.u64.bits))=((a*285870213051353865 % 18446744073709551616 / 288230376151711744:Nat):Int):=by
  have w64:∀n:Int,IntKind.u64.wrap n=n % 18446744073709551616:=fun n=>by simp [IntKind.wrap,IntKind.signed,IntKind.bits]
  have e1:IntKind.u64.wrap (-(x:Int))=((18446744073709551616 - x:Nat):Int):=by rw [w64];omega
  have e2:Du .u64 (x:Int) ((18446744073709551616 - x:Nat):Int)=(a:Int):=by
    unfold Du
    have e:IntKind.u64.bits=64:=rfl
    rw [e]
    have h1:(BitVec.ofInt 64 (x:Int) &&& BitVec.ofInt 64 ((18446744073709551616 - x:Nat):Int)).toNat=a:=by
      simp only [BitVec.toNat_and,BitVec.ofInt_natCast,BitVec.toNat_ofNat]
      rw [Nat.mod_eq_of_lt (by omega),Nat.mod_eq_of_lt (by omega),hlow]
    rw [h1,w64]
    have h2:a≤x:=by rw [←hlow];exact Nat.and_le_left
    omega
  rw [e1,e2,w64]
  have e3:(2:Int) ^ (min (58:Int).toNat IntKind.u64.bits)=288230376151711744:=rfl
  rw [e3,Int.fdiv_eq_ediv_of_nonneg _ (by omega)]
  omega
theorem Ul [DG TB] (x:Nat) (hx0:x≠0) (hx:x < 18446744073709551616):Pure Tryz.prog TB 178 [eI .u64 x] (eI .i64 (Lib.ctz 64 x)):=by
  obtain ⟨hlow,hk⟩:=Lib.lowest_bit 64 x hx0 hx
  obtain ⟨hi,htab⟩:=Lib.deBruijn64_at _ hk
  have hkey:=VI x _ hx hx0 hlow
  have htv:=Uj _ hi
  rw [htab] at htv
  generalize Lib.ctz 64 x=cz at *
  generalize 2 ^ cz*285870213051353865 % 18446744073709551616 / 288230376151711744=idx at *
  refine eN Tryz.func178 rfl (by kernel_rfl) rfl ?_;intro Γ hΓ
  (repeat' first|(refine sA rfl ?_ ?_;first|exact tI|omega) |refine s2 rfl fun _ _hb=>?_|(refine Af rfl ?_;refine gA rfl ?_;first| refine gS (fun _ _=>Nz rfl rfl) ?_|refine gS (fun _ _=>Uy rfl rfl rfl) ?_) |refine aU rfl ?_ |refine Aa ?_|(refine aC rfl ?_ ?_<;>rintro ⟨⟩)|refine aK ?_|refine aE ?_|refine aB ?_|refine aR ⟨_,rfl,?_⟩)
  · exfalso;(simp only[oZ] at *;omega)
  rw [hkey]
  clear hkey hlow htab
  (repeat' first|(refine sA rfl ?_ ?_;first|exact tI|omega)|(refine Af rfl ?_;refine gA rfl ?_;first| refine gS (fun _ _=>Sn (v:=.int .u8 ((cz:Nat):Int)) rfl (by omega) (by omega) (by rw [Int.toNat_natCast];exact htv)) ?_) |refine Aa ?_|(refine aC rfl ?_ ?_<;>rintro ⟨⟩)|refine aK ?_|refine aE ?_|refine aB ?_|refine aR ⟨_,rfl,?_⟩)
  rfl
theorem Xh [DG TB] (x:Nat) (hx0:x≠0) (hx:x < 18446744073709551616):Pure Tryz.prog TB 175 [eI .u64 x] (eI .i64 (Lib.ctz 64 x)):=by
  refine eN Tryz.func175 rfl (by kernel_rfl) rfl ?_;intro Γ hΓ
  (repeat' first|refine tA rfl ?_ |refine sP rfl (Ul x hx0 hx) rfl ?_ |refine aU rfl ?_ |refine Aa ?_|(refine aC rfl ?_ ?_<;>rintro ⟨⟩)|refine aK ?_|refine aE ?_|refine aB ?_|refine aR ⟨_,rfl,?_⟩)
  all_goals rfl
theorem Qg {x:Int} {l:List Int} (hp:(x::l).Pairwise (· < ·)) (h0:0≤x) (hlt:Bm (x::l) < 2 ^ 62):Du .i64 (Bm (x::l):Nat) ((Bm (x::l):Nat) - 1)=(Bm l:Nat):=by
  have h1:=QH hp h0
  have h2:=Ko (x:=x) (l:=l)
  have h3:Bm l≤Bm (x::l):=Nat.le_add_left _ _
  generalize Bm (x::l)=a at *
  have e1:((a:Nat):Int) - 1=((a - 1:Nat):Int):=by omega
  rw [e1]
  unfold Du
  have e:IntKind.i64.bits=64:=rfl
  rw [e]
  have h4:(BitVec.ofInt 64 (a:Int) &&& BitVec.ofInt 64 ((a - 1:Nat):Int)).toNat=Bm l:=by
    simp only [BitVec.toNat_and,BitVec.ofInt_natCast,BitVec.toNat_ofNat]
    rw [Nat.mod_eq_of_lt (by omega),Nat.mod_eq_of_lt (by omega),h1]
  rw [h4]
  exact IntWalk.i64_in _ (by omega)
theorem Mq (r:Nat→Nat):∀ds:List D,C.BT r (ds.map .d)=ds.map .d
  | []=>rfl
  | d::l=>by simp [C.BT,C.AQ,Mq r l]
def Kw (es:List Dm) (f l:Nat):List Int:=(es.filter fun e:Dm=>decide (e.f=(f:Int)) && decide (e.l=(l:Int))).map (·.t)
def Eb (es:List Dm):List D:=(List.range 96).map fun i=>iD (Bm (Kw es (i / 6) (i % 6)):Nat)
theorem Gj {es:List Dm} {i:Nat} (h:i < 96):(Eb es)[i]? = some (iD (Bm (Kw es (i / 6) (i % 6)):Nat)):=by simp [Eb,h]
theorem PV (es:List Dm) (e:Dm) (f l:Nat):Kw (es++[e]) f l=Kw es f l++if e.f=(f:Int)∧e.l=(l:Int) then [e.t] else []:=by
  simp only [Kw,List.filter_append,List.map_append,List.filter_cons,List.filter_nil]
  grind
theorem Fk {r:List C} {j:Nat} {c:C} (h:j < r.length):Ae r j [c]=r.set j c:=by
  unfold Ae
  rw [List.set_eq_take_append_cons_drop,if_pos h]
  simp
theorem Oy {es:List Dm} {e:Dm} {v:Int} (h0:0≤e.f∧e.f < 16) (h1:0≤e.l∧e.l < 6) (hv:v=(Bm (Kw (es++[e]) e.f.toNat e.l.toNat):Nat)) :
    Ae ((Eb es).map .d) (0+e.f.toNat*6+e.l.toNat*1) (eC (eI .i64 v))=(Eb (es++[e])).map .d:=by
  have hj:0+e.f.toNat*6+e.l.toNat*1 < 96:=by omega
  have:eC (eI .i64 v)=[C.d (iD v)]:=rfl
  rw [this,Fk (by simp [Eb];omega),←List.map_set]
  congr 1
  apply List.ext_getElem?
  intro i
  by_cases hi:i < 96
  · rw [Gj hi]
    by_cases hij:0+e.f.toNat*6+e.l.toNat*1=i
    · subst hij
      rw [List.getElem?_set_self (by simp [Eb];omega),hv]
      have e1:(0+e.f.toNat*6+e.l.toNat*1) / 6=e.f.toNat:=by omega
      have e2:(0+e.f.toNat*6+e.l.toNat*1) % 6=e.l.toNat:=by omega
      rw [e1,e2]
    · rw [List.getElem?_set_ne hij,Gj hi,PV,if_neg (by omega),List.append_nil]
  · rw [List.getElem?_eq_none (by simp [Eb];omega),List.getElem?_eq_none (by simp [Eb];omega)]
theorem Ek {s:Sys} (h:Bu s=true) (k f l:Nat):(Kw (s.es.take k) f l).Pairwise (· < ·):=by
  unfold Kw
  rw [List.pairwise_map]
  refine List.Pairwise.imp_of_mem (fun {a b} ha hb hab=>?_) (((Mx h).sublist (List.take_sublist k s.es)).filter _)
  have h1:=(List.mem_filter.1 ha).2
  have h2:=(List.mem_filter.1 hb).2
  unfold Hf at hab
  grind
theorem Kx {s:Sys} (h:Bu s=true) {k f l:Nat} {x:Int} (hx:x∈Kw (s.es.take k) f l):0≤x∧x < 16:=by
  unfold Kw at hx
  obtain ⟨e,he,rfl⟩:=List.mem_map.1 hx
  have h2:=Cx h (List.mem_of_mem_take (List.mem_filter.1 he).1)
  have h3:=BX h
  unfold CJ at h2
  grind
theorem TD {a t:Nat} (ha:a < 2 ^ 16) (ht:t < 16):Qh .i64 (a:Nat) ((2 ^ t:Nat):Int)=((a ||| 2 ^ t:Nat):Int):=by
  have h2:2 ^ t < 2 ^ 16:=Nat.pow_lt_pow_right (by omega) ht
  have h0:a ||| 2 ^ t < 2 ^ 16:=Nat.or_lt_two_pow ha h2
  unfold Qh
  have h1:(BitVec.ofInt IntKind.i64.bits (a:Int) ||| BitVec.ofInt IntKind.i64.bits ((2 ^ t:Nat):Int)).toNat=a ||| 2 ^ t:=by
    have e:IntKind.i64.bits=64:=rfl
    rw [e]
    simp only [BitVec.toNat_or,BitVec.ofInt_natCast,BitVec.toNat_ofNat]
    rw [Nat.mod_eq_of_lt (by omega),Nat.mod_eq_of_lt (by omega)]
  rw [h1]
  exact IntWalk.i64_in _ (by omega)
theorem PL {t:Int} (h0:0≤t) (h1:t < 16):IntKind.i64.wrap (1*2 ^ (min t.toNat IntKind.i64.bits))=((2 ^ t.toNat:Nat):Int):=by
  have e:min t.toNat IntKind.i64.bits=t.toNat:=by
    have:IntKind.i64.bits=64:=rfl
    omega
  rw [e,Int.one_mul]
  have h2:2 ^ t.toNat < 2 ^ 16:=Nat.pow_lt_pow_right (by omega) (by omega)
  have h3:(2:Int) ^ t.toNat=((2 ^ t.toNat:Nat):Int):=by push_cast;rfl
  rw [h3]
  generalize 2 ^ t.toNat=p at *
  exact IntWalk.i64_in _ (by omega)
theorem Ox (s:Sys) (h:Bu s=true):Pure Tryz.prog TB 110 [CI s] (.o (.ip (Eb s.es))):=by
  refine eN Tryz.func110 rfl (by kernel_rfl) rfl ?_;intro Γ hΓ
  (repeat first|refine sN rfl ?_ |refine tA rfl ?_ |refine aU rfl ?_ |refine Aa ?_)
  refine Ak.bound 8 rfl fun hB0=>?_
  have hB:=hB0 (s.es.map CL) .refl
  refine aB ?_
  refine Ak.CR (α:={k:Nat // k≤s.es.length}) (fun ⟨k,hk⟩=>[(3,.o (.ptr 0 96 0 0)),(8,Wn s.es),(9,eI .i64 s.es.length),(10,eI .i64 k)]) (fun ⟨k,hk⟩=>[(0,.cells 160 96 [(Eb (s.es.take k)).map .d])]) 1 (fun ⟨k,hk⟩=>s.es.length - k) (⟨0,by omega⟩) [0] (Lz hΓ rfl rfl) (by (repeat' first|exact tI|rfl|refine And.intro ?_ ?_)) ?_;rintro ⟨k,hk⟩;(try dsimp only)
  (repeat first|refine s2 rfl fun _ _hb=>?_ |refine aU rfl ?_ |refine Aa ?_)
  (refine aC rfl ?_ ?_<;>rintro ⟨⟩)
  · obtain ⟨e,he⟩:=get_some (l:=s.es) (k:=k) (by (simp only[oZ] at *;omega))
    have he':=get_map (g:=CL) he
    have heo:=Cx h (List.mem_of_getElem? he)
    have hh:=BX h
    unfold CJ at heo
    simp only [Bool.and_eq_true,decide_eq_true_eq] at heo
    obtain ⟨⟨hf0,hf1,ht0,ht1,hl0,hl1⟩,hbit⟩:=heo
    have hj96:0+e.f.toNat*6+e.l.toNat*1+1≤96:=by omega
    have hshl:=PL ht0 (by omega)
    have htk:s.es.take (k+1)=s.es.take k++[e]:=by rw [List.take_add_one,he];rfl
    have hap:Kw (s.es.take (k+1)) e.f.toNat e.l.toNat=Kw (s.es.take k) e.f.toNat e.l.toNat++[e.t]:=by
      rw [htk,PV,if_pos (by omega)]
    have hbnd:∀x∈Kw (s.es.take k) e.f.toNat e.l.toNat,0≤x∧x < e.t.toNat:=by
      intro x hx
      have h1:=Ek h (k+1) e.f.toNat e.l.toNat
      rw [hap,List.pairwise_append] at h1
      have h2:=h1.2.2 x hx e.t (by simp)
      have h3:=Kx h hx
      omega
    have hor1:=Uc (Ek h k e.f.toNat e.l.toNat) hbnd
    have hlt:=Jp (t:=16) (Ek h k e.f.toNat e.l.toNat) fun x hx=>Kx h hx
    have hor:=TD hlt (t:=e.t.toNat) (by omega)
    have et:((e.t.toNat:Nat):Int)=e.t:=by omega
    rw [hor1,et,←hap,htk] at hor
    have hstep:=Oy (es:=s.es.take k) (e:=e) ⟨hf0,by omega⟩ ⟨hl0,hl1⟩ rfl
    rw [←hor] at hstep
    have hld:((Eb (s.es.take k)).map C.d)[0+e.f.toNat*6+e.l.toNat*1]? = some (.d (iD (Bm (Kw (s.es.take k) e.f.toNat e.l.toNat):Nat))):=by
      have e1:(0+e.f.toNat*6+e.l.toNat*1) / 6=e.f.toNat:=by omega
      have e2:(0+e.f.toNat*6+e.l.toNat*1) % 6=e.l.toNat:=by omega
      rw [List.getElem?_map,Gj (by omega),e1,e2];rfl
    refine aK ?_
    refine aS (aB ?_)
    (repeat first|refine tA rfl ?_ |(refine s4 rfl ‹_› rfl ?_ ?_;omega) |refine aU rfl ?_ |refine Aa ?_)
    refine rG (KD [16]) (by kernel_rfl) ?_
    (repeat first|(refine sA rfl ?_ ?_;first|exact tI|omega)|(refine Af rfl ?_;refine gA rfl ?_;first| refine gS (fun _ _=>SA rfl rfl (by omega) hshl) ?_|refine gQ (PC rfl rfl rfl hld) (by rfl) ?_))
    (refine Af rfl ?_;refine Fs ?_ rfl (by rfl);refine CB rfl rfl rfl rfl (rfl) rfl (hj96) ?_)
    (repeat first|(refine sA rfl ?_ ?_;first|exact tI|simp only[oZ] at *;omega) |refine aU rfl ?_ |refine Aa ?_)
    refine ⟨⟨k+1,by (simp only[oZ] at *;omega)⟩,by dsimp only;((simp only[oZ] at *;omega)),[0],?_⟩
    rw [hstep,←htk]
    simp[cX,zC,hΓ,List.set_cons_zero,Mq]
  · obtain rfl:k=s.es.length:=by (simp only[oZ] at *;omega)
    refine aE ?_
    rw [List.take_length]
    (repeat first|refine tM rfl ?_ |refine aU rfl ?_ |refine Aa ?_)
    refine Ak.freeze [0] [(2,.o (.ip (Eb s.es)))] ⟨⟨_,rfl,.o (.ptr (by simp) rfl rfl rfl)⟩,trivial⟩ ?_
    refine aR ⟨_,rfl,rfl⟩
def Kj (h:Nat→Int):List C:=(List.range 6).map fun l=>.d (iD (h l))
def OE (h:Nat→Int):List D:=(List.range 6).map fun l=>iD (h l)
theorem SL (h:Nat→Int):Kj h=(OE h).map .d:=by simp [Kj,OE]
def BA {α:Type} (n:Nat) (g:Nat→α):List α:=(List.range n).map g
theorem Dr {α:Type} {n q:Nat} {g:Nat→α} (h:q < n):(BA n g)[q]? = some (g q):=by simp [BA,h]
theorem Io {α:Type} {n q:Nat} {g:Nat→α} {x:α}:(BA n g).set q x=BA n fun i=>if i=q then x else g i:=by
  apply List.ext_getElem?
  intro i
  by_cases hi:i < n
  · rw [Dr hi]
    by_cases hq:q=i
    · subst hq;rw [List.getElem?_set_self (by simp [BA,hi])];simp
    · rw [List.getElem?_set_ne hq,Dr hi,if_neg (Ne.symm hq)]
  · rw [List.getElem?_eq_none (by simp [BA];omega),List.getElem?_eq_none (by simp [BA];omega)]
theorem Cw {α:Type} {n:Nat} {g g':Nat→α} (h:∀i,i < n→g i=g' i):BA n g=BA n g':=by
  unfold BA
  exact List.map_congr_left fun i hi=>h i (List.mem_range.1 hi)
theorem SM {h:Nat→Int} {l:Nat} {v:Int} (hl:l < 6):Ae (Kj h) (0+l*1) (eC (eI .i64 v))=Kj fun x=>if x=l then v else h x:=by
  have e:eC (eI .i64 v)=[C.d (iD v)]:=rfl
  rw [e,Fk (by simp [Kj];omega)]
  have:=Io (n:=6) (q:=l) (g:=fun l=>C.d (iD (h l))) (x:=C.d (iD v))
  have e1:0+l*1=l:=by omega
  rw [e1]
  refine Eq.trans this (Cw fun i _=>?_)
  by_cases e:i=l<;>simp [e]
theorem GU {h h':Nat→Int} (hh:∀l,l < 6→h l=h' l):Kj h=Kj h':=Cw fun i hi=>by rw [hh i hi]
theorem GB (s:Int):∀(n k:Nat),k≤n→AA s k <+: AA s n
  | 0, k, h => by have:k=0:=by omega
                  subst this;exact List.prefix_refl _
  | n + 1,k,h=>by
    rcases Nat.lt_or_ge k (n+1) with h1|h1
    · rw [B1]
      exact (GB s n k (by omega)).trans (List.prefix_append _ _)
    · have:k=n+1:=by omega
      subst this;exact List.prefix_refl _
theorem KP {s:Int} {k n:Nat} {l:Int} (h:(AA s n)[k]? = some l):(AA s l.toNat).length=k:=by
  have h1:=BB (List.mem_of_getElem? h)
  have h2:(AA s (l.toNat+1))[(AA s l.toNat).length]? = some l:=by
    rw [B1,if_pos h1.2.2,List.getElem?_append_right (Nat.le_refl _)]
    simp;omega
  have h3:(AA s n)[(AA s l.toNat).length]? = some l:=by
    obtain ⟨t,ht⟩:=GB s n (l.toNat+1) (by omega)
    rw [←ht,List.getElem?_append_left (List.getElem?_eq_some_iff.1 h2).1];exact h2
  have hp:=JV s n
  rw [List.pairwise_iff_getElem] at hp
  obtain ⟨a1,a2⟩:=List.getElem?_eq_some_iff.1 h
  obtain ⟨b1,b2⟩:=List.getElem?_eq_some_iff.1 h3
  rcases Nat.lt_trichotomy (AA s l.toNat).length k with h4|h4|h4
  · have:=hp _ _ b1 a1 h4;omega
  · exact h4
  · have:=hp _ _ a1 b1 h4;omega
theorem EA {s:Int} {n l:Nat}:(l:Int)∈AA s n↔l < n∧DJ s l=true:=by
  unfold AA
  simp only [List.mem_map,List.mem_filter,List.mem_range]
  constructor
  · rintro ⟨a,ha,e⟩
    have:a=l:=by have e:((a:Nat):Int)=l:=e;omega
    subst this;exact ha
  · intro h;exact ⟨l,h,rfl⟩
def KE (n:Nat) (H:Nat→Nat→Int):List (List C):=BA n fun i=>Kj (H i)
theorem Gp (r:Nat→Nat) (n:Nat) (H:Nat→Nat→Int):(KE n H).map (C.BT r)=KE n H:=by
  unfold KE BA
  rw [List.map_map]
  exact List.map_congr_left fun i _=>by simp only [Function.comp_def,SL,Mq]
theorem SY (n:Nat):KE n (fun _ _=>0)=List.replicate n [C.d (D.v (Value.int IntKind.i64 0)),C.d (D.v (Value.int IntKind.i64 0)),C.d (D.v (Value.int IntKind.i64 0)),C.d (D.v (Value.int IntKind.i64 0)),C.d (D.v (Value.int IntKind.i64 0)),C.d (D.v (Value.int IntKind.i64 0))]:=by
  unfold KE BA
  rw [List.map_const'];simp;exact .inr rfl
theorem PR {n q:Nat} {H:Nat→Nat→Int} (h:q < n):(KE n H)[0+((q:Nat):Int).toNat]? = some (Kj (H q)):=by
  rw [Nat.zero_add,Int.toNat_natCast];exact Dr (g:=fun i=>Kj (H i)) h
theorem PT {n q l:Nat} {v:Int} {H:Nat→Nat→Int} (hl:l < 6):(KE n H).set (0+((q:Nat):Int).toNat) (Ae (Kj (H q)) (0+((l:Nat):Int).toNat*1) (eC (eI .i64 v)))=KE n fun i x=>if i=q∧x=l then v else H i x:=by
  rw [Nat.zero_add,Int.toNat_natCast,Int.toNat_natCast,SM hl]
  unfold KE
  rw [Io]
  refine Cw fun i _=>?_
  by_cases e:i=q
  · subst e;rw [if_pos rfl];exact GU fun l _=>by simp
  · rw [if_neg e];exact GU fun l _=>by simp [e]
theorem E1 {n:Nat} {H H':Nat→Nat→Int} (h:∀i,i < n→∀l,l < 6→H i l=H' i l):KE n H=KE n H':=Cw fun i hi=>GU fun l hl=>h i hi l hl
theorem Uk (n:Nat) (H:Nat→Nat→Int):(KE n H).length=n:=by simp [KE,BA]
def My (a:Cj):List (List D):=BA a.nx.length fun q=>OE fun l=>Dl a q l
theorem Xf (a:Cj):KE a.nx.length (fun i l=>Dl a i l)=(My a).map fun r=>r.map .d:=by
  unfold KE My BA
  rw [List.map_map]
  exact List.map_congr_left fun i _=>by simp only [Function.comp_def,SL]
theorem GZ (a:Cj) (h:Bf a=true):Pure Tryz.prog TB 79 [BF a] (.o (.d (.l (My a)))):=by
  have hh:=AN h
  have hll:(Ag a.al).length≤6:=AO a.al 6
  refine eN Tryz.func79 rfl (by kernel_rfl) rfl ?_;intro Γ hΓ
  (repeat first|refine aU rfl ?_)
  (refine Af rfl ?_;refine C0 (fun _ _=>Ed rfl rfl rfl) rfl ?_)
  (refine Af rfl ?_;refine C0 (fun _ _=>Hy rfl) rfl ?_)
  (repeat first|refine sN rfl ?_ |refine tM rfl ?_ |refine aU rfl ?_ |refine Aa ?_)
  (refine pW rfl ?_ rfl (by rfl);refine Mb rfl rfl (by rfl) (by rfl) (Nat.le_of_ble_eq_true rfl) (by omega) (by omega) (by omega) ?_)
  (repeat first|refine sN rfl ?_ |refine tM rfl ?_ |refine sP rfl (DL a.al) rfl ?_ |refine aU rfl ?_ |refine Aa ?_)
  refine aB ?_
  refine Ak.CR (α:={q:Nat // q≤a.nx.length}) (fun ⟨q,hq⟩=>[(1,.o (.ip (BJ a))),(3,.o (.arr 0 6 0 a.nx.length)),(4,BP (Ag a.al)),(18,JG a.nx),(19,eI .i64 a.nx.length),(20,eI .i64 q)]) (fun ⟨q,hq⟩=>[(0,.cells 97 6 (KE a.nx.length fun i l=>if i < q then Dl a i l else 0))]) 1 (fun ⟨q,hq⟩=>a.nx.length - q) (⟨0,by omega⟩) [0] (Lz hΓ rfl rfl) (by (simp[cX,zC,hΓ,Gp,SY])) ?_;rintro ⟨q,hq⟩;(try dsimp only)
  (repeat first|refine s2 rfl fun _ _hb=>?_ |refine aU rfl ?_ |refine Aa ?_)
  (refine aC rfl ?_ ?_<;>rintro ⟨⟩)
  · have hqn : q < a.nx.length:=by (simp only[oZ] at *;omega)
    obtain ⟨row,hr,hrl,hrx⟩:=Ga h hqn
    have hr':=get_map (g:=IH) hr
    refine aK ?_
    refine aS (aB ?_)
    (repeat first|refine tM rfl ?_ |(refine s4 rfl ‹_› rfl ?_ ?_;omega) |refine aU rfl ?_ |refine Aa ?_)
    refine aB ?_
    refine Ak.CR (α:={m:Nat // m≤6}) (fun ⟨m,hm⟩=>[(1,.o (.ip (BJ a))),(3,.o (.arr 0 6 0 a.nx.length)),(4,BP (Ag a.al)),(18,JG a.nx),(19,eI .i64 a.nx.length),(20,eI .i64 q),(5,eI .i64 q),(6,BP row),(25,eI .i64 m)]) (fun ⟨m,hm⟩=>[(0,.cells 97 6 (KE a.nx.length fun i l=>if i < q then Dl a i l else if i=q∧l < m then q else 0))]) 1 (fun ⟨m,hm⟩=>6 - m) (⟨0,by omega⟩) [0] (Lz hΓ rfl rfl) (by (simp[cX,zC,hΓ,Gp])) ?_;rintro ⟨m,hm⟩;(try dsimp only)
    (repeat first|refine s2 rfl fun _ _hb=>?_ |refine aU rfl ?_ |refine Aa ?_)
    (refine aC rfl ?_ ?_<;>rintro ⟨⟩)
    · have hm6:m < 6:=by (simp only[oZ] at *;omega)
      have hmj:0+((m:Nat):Int).toNat*1+1≤6:=by omega
      have hg:=PR (H:=fun i l=>if i < q then Dl a i l else if i=q∧l < m then q else 0) hqn
      have hs:=PT (n:=a.nx.length) (q:=q) (v:=q) (H:=fun i l=>if i < q then Dl a i l else if i=q∧l < m then q else 0) hm6
      have hc:(KE a.nx.length fun (i x:Nat)=>if i=q∧x=m then (q:Int) else (fun (i l:Nat)=>if i < q then Dl a i l else if i=q∧l < m then (q:Int) else 0) i x)=KE a.nx.length fun i l=>if i < q then Dl a i l else if i=q∧l < m+1 then (q:Int) else 0:=E1 fun i _ l _=>by dsimp only;grind
      refine aK ?_
      refine aS (aB ?_)
      (repeat first|(refine sM rfl ?_ ?_;first|exact tI|omega) |refine aU rfl ?_ |refine Aa ?_)
      (refine Af rfl ?_;refine Fs ?_ rfl (by rfl);refine CB rfl rfl rfl rfl (hg) rfl (hmj) ?_)
      (repeat first|(refine sM rfl ?_ ?_;first|exact tI|omega) |refine aU rfl ?_ |refine Aa ?_)
      refine ⟨⟨m+1,by omega⟩,by dsimp only;(omega),[0],?_⟩
      rw [hs,hc]
      simp[cX,zC,hΓ,Gp]
    · obtain rfl:m=6:=by (simp only[oZ] at *;omega)
      have hc0:=E1 (n:=a.nx.length) (H:=fun i l=>if i < q then Dl a i l else if i=q∧l < 6 then (q:Int) else 0) (H':=fun i l=>if i < q then Dl a i l else if i=q then (if (l:Int)∈(Ag a.al).take 0 then Dl a q l else (q:Int)) else 0) fun i _ l hl=>by simp [hl]
      rw [hc0]
      refine aE ?_
      (repeat first|refine sN rfl ?_ |refine tM rfl ?_ |refine aU rfl ?_ |refine Aa ?_)
      refine aB ?_
      refine Ak.CR (α:={k:Nat // k≤(Ag a.al).length}) (fun ⟨k,hk⟩=>[(1,.o (.ip (BJ a))),(3,.o (.arr 0 6 0 a.nx.length)),(4,BP (Ag a.al)),(18,JG a.nx),(19,eI .i64 a.nx.length),(20,eI .i64 q),(5,eI .i64 q),(6,BP row),(35,BP (Ag a.al)),(36,eI .i64 (Ag a.al).length),(37,eI .i64 k)]) (fun ⟨k,hk⟩=>[(0,.cells 97 6 (KE a.nx.length fun i l=>if i < q then Dl a i l else if i=q then (if (l:Int)∈(Ag a.al).take k then Dl a q l else (q:Int)) else 0))]) 1 (fun ⟨k,hk⟩=>(Ag a.al).length - k) (⟨0,by omega⟩) [0] (Lz hΓ rfl rfl) (by (simp[cX,zC,hΓ,Gp])) ?_;rintro ⟨k,hk⟩;(try dsimp only)
      (repeat first|refine s2 rfl fun _ _hb=>?_ |refine aU rfl ?_ |refine Aa ?_)
      (refine aC rfl ?_ ?_<;>rintro ⟨⟩)
      · obtain ⟨l,hl⟩:=get_some (l:=Ag a.al) (k:=k) (by (simp only[oZ] at *;omega))
        have hl':=get_map (g:=Dv) hl
        have hlb:=BB (List.mem_of_getElem? hl)
        have hpl:=KP hl
        obtain ⟨y,hy⟩:=get_some (l:=row) (k:=k) (by (simp only[oZ] at *;omega))
        have hy':=get_map (g:=Dv) hy
        obtain ⟨m,rfl⟩:∃m:Nat,l=m:=⟨l.toNat,by omega⟩
        have hgo:Dl a q m=y:=by
          unfold Dl
          rw [if_pos hlb.2.2,hpl];simp [List.getD,hr,hy]
        have hm6:m < 6:=by omega
        have hmj:0+((m:Nat):Int).toNat*1+1≤6:=by omega
        have hg:=PR (H:=fun i l=>if i < q then Dl a i l else if i=q then (if (l:Int)∈(Ag a.al).take k then Dl a q l else (q:Int)) else 0) hqn
        have hs:=PT (n:=a.nx.length) (q:=q) (v:=y) (H:=fun i l=>if i < q then Dl a i l else if i=q then (if (l:Int)∈(Ag a.al).take k then Dl a q l else (q:Int)) else 0) hm6
        have hc:(KE a.nx.length fun (i x:Nat)=>if i=q∧x=m then y else (fun (i l:Nat)=>if i < q then Dl a i l else if i=q then (if (l:Int)∈(Ag a.al).take k then Dl a q l else (q:Int)) else 0) i x)=KE a.nx.length fun i l=>if i < q then Dl a i l else if i=q then (if (l:Int)∈(Ag a.al).take (k+1) then Dl a q l else (q:Int)) else 0:=E1 fun i _ l _=>by
          try dsimp only
          rw [List.take_add_one,hl]
          by_cases e:i=q
          · subst e
            by_cases e2:l=m
            · subst e2;simp [hgo]
            · have e3:¬(l:Int)=(m:Int):=by omega
              simp [e2,e3]
          · simp [e]
        refine aK ?_
        refine aS (aB ?_)
        (repeat first|refine tM rfl ?_ |(refine s4 rfl ‹_› rfl ?_ ?_;omega) |refine aU rfl ?_ |refine Aa ?_)
        refine rG (KD [9]) (by kernel_rfl) ?_
        (repeat first|(refine sM rfl ?_ ?_;first|exact tI|omega) |(refine s4 rfl ‹_› rfl ?_ ?_;omega))
        (refine Af rfl ?_;refine Fs ?_ rfl (by rfl);refine CB rfl rfl rfl rfl (hg) rfl (hmj) ?_)
        (repeat first|(refine sM rfl ?_ ?_;first|exact tI|omega) |refine aU rfl ?_ |refine Aa ?_)
        refine ⟨⟨k+1,by (simp only[oZ] at *;omega)⟩,by dsimp only;((simp only[oZ] at *;omega)),[0],?_⟩
        rw [hs,hc]
        simp[cX,zC,hΓ,Gp]
      · obtain rfl:k=(Ag a.al).length:=by (simp only[oZ] at *;omega)
        have hc0:=E1 (n:=a.nx.length) (H:=fun i l=>if i < q then Dl a i l else if i=q then (if (l:Int)∈(Ag a.al).take (Ag a.al).length then Dl a q l else (q:Int)) else 0) (H':=fun i l=>if i < q+1 then Dl a i l else 0) fun i _ l hl=>by
          try dsimp only
          rw [List.take_length]
          by_cases e:i=q
          · subst e
            simp only [Nat.lt_irrefl,if_false,if_true,Nat.lt_succ_self]
            by_cases e2:DJ a.al l=true
            · rw [if_pos (EA.2 ⟨hl,e2⟩)]
            · rw [if_neg (fun h=>e2 (EA.1 h).2)];unfold Dl;rw [if_neg (by simpa using e2)]
          · by_cases e2:i < q
            · rw [if_pos e2,if_pos (by omega)]
            · rw [if_neg e2,if_neg e,if_neg (by omega)]
        rw [hc0]
        refine aE ?_
        (repeat first|(refine sM rfl ?_ ?_;first|exact tI|omega) |refine aU rfl ?_ |refine Aa ?_)
        refine ⟨⟨q+1,by omega⟩,by dsimp only;(omega),[0],?_⟩
        simp[cX,zC,hΓ,Gp]
  · obtain rfl:q=a.nx.length:=by (simp only[oZ] at *;omega)
    have hc:=E1 (n:=a.nx.length) (H:=fun i l=>if i < a.nx.length then Dl a i l else 0) (H':=fun i l=>Dl a i l) fun i hi l _=>by rw [if_pos hi]
    rw [hc]
    refine aE ?_
    (repeat first|refine tM rfl ?_ |refine aU rfl ?_ |refine Aa ?_)
    refine Ak.freeze [0] [(2,.o (.d (.l (My a))))] ⟨⟨_,rfl,.o (.full (by simp) rfl (Xf a) (by simp [Uk]))⟩,trivial⟩ ?_
    refine aR ⟨_,rfl,rfl⟩
end Go.Am
namespace Go.Am
open Go
end Go.Am
namespace Go.Am
open Go Go.Proofs
set_option maxHeartbeats 1000000
attribute [local irreducible] AU B0 Lex Bo Ak Spec
variable {TB:A7}
theorem EY {P:Program} {Γ:Ctx} {d:Option Tmp} {ty:TypeId} {pos:String} {af:Array Edge} {g:Option (Nat×Bool)} {f:Env} {σ:Ab} {nx:Nat} {t:TypeId} {x:Operand} {c:D} {cs:List D} {n:Nat} [hl:C4 P t false n] (hx:ev f x=some (.o (.ip cs))) (hc:cs[0]? = some c):AU P TB Γ ⟨d,.load t x,ty,pos,af,g⟩ f σ nx (.o (.d c)):=by
  cases cs with
  | nil=>cases hc
  | cons a l=>injection hc with hc;subst hc;exact Ny hx
theorem Vh {es:List Dm} {q l:Int} (h0:0≤q∧q < 16) (h1:0≤l∧l < 6):(((Eb es).drop (q.toNat*6)).drop (l.toNat*1))[0]? = some (iD (Bm (Kw es q.toNat l.toNat):Nat)):=by
  rw [List.getElem?_drop,List.getElem?_drop,Gj (by omega)]
  have e1:(q.toNat*6+(l.toNat*1+0)) / 6=q.toNat:=by omega
  have e2:(q.toNat*6+(l.toNat*1+0)) % 6=l.toNat:=by omega
  rw [e1,e2]
end Go.Am
namespace Go.Am
open Go
structure Yd where
  p:Int
  l:Int
  ns:List Int
structure Yr where
  seen:List Bool
  fresh:List Int
  found:Bool
def sn (seen:List Bool) (n:Int):Bool:=seen.getD n.toNat false
structure Yz (goal:Int→Bool) (N:Nat) (seen:List Bool) (nodes:List Int) (st:Yr):Prop where
  len:st.seen.length=N
  snI:∀n:Int,0≤n→(sn st.seen n=true↔sn seen n=true∨n∈nodes)
  fr:∀n:Int,n∈st.fresh↔n∈nodes∧sn seen n=false
  nd:st.fresh.Nodup
  fd:st.found=st.fresh.any goal
  cnt:st.seen.count true=seen.count true+st.fresh.length
structure FI (g:Gr) (seen:List Bool) (steps:List Yd) (ws:List (List Int)) (i j:Nat):Prop where
  slen:seen.length=g.N
  wlen:ws.length=steps.length
  chain:∀(t:Nat) s,steps[t]? = some s→(s.p = -1∧ws[t]? = some [])∨∃(q:Nat) (w:List Int),s.p=(q:Int)∧q < t∧ws[q]? = some w∧ws[t]? = some (w++[s.l])∧s.l∈g.ls
  rch:∀(t:Nat) s w,steps[t]? = some s→ws[t]? = some w→∀n∈s.ns,reach g w g.s0 n
  ov:∀w∈ws,over g w
  min:∀(t:Nat) s w,steps[t]? = some s→ws[t]? = some w→∀n∈s.ns,∀u,over g u→slt u w→¬reach g u g.s0 n
  ord:ws.Pairwise slt
  par:∀w∈ws,w=[]∨∃(p:Nat) (v:List Int) (l:Int),ws[p]? = some v∧w=v++[l]∧l∈g.ls∧(p < i∨p=i∧∃j',j' < j∧g.ls[j']? = some l)
  snI:∀n:Int,0≤n→(sn seen n=true↔∃s∈steps,n∈s.ns)
  done:∀(t:Nat) s,steps[t]? = some s→∀l,(t < i∧l∈g.ls∨t=i∧∃j',j' < j∧g.ls[j']? = some l)→∀n∈s.ns,∀y∈g.succ n l,sn seen y=true
  nogoal:∀s∈steps,∀n∈s.ns,g.goal n=false
  inn:∀s∈steps,∀n∈s.ns,0≤n∧n < g.N
  start:sn seen g.s0=true
  cnt:steps.length≤seen.count true
  le:i≤steps.length
  nd:∀s∈steps,s.ns.Nodup
structure X7 (ls:List Int) (steps:List Yd) (ws:List (List Int)):Prop where
  wlen:ws.length=steps.length
  chain:∀(t:Nat) s,steps[t]? = some s→(s.p = -1∧ws[t]? = some [])∨∃(q:Nat) (w:List Int),s.p=(q:Int)∧q < t∧ws[q]? = some w∧ws[t]? = some (w++[s.l])∧s.l∈ls
end Go.Am
namespace Go.Am
open Go Go.Proofs
set_option maxHeartbeats 1000000
attribute [local irreducible] AU B0 Lex Bo Ak Spec
variable {TB:A7}
theorem SE (r:Nat→Nat) (c:UInt8):C.BT r (Hh c)=Hh c:=rfl
theorem OD (r:Nat→Nat) (n:Nat) (H:Nat→UInt8):(BA n fun i=>Hh (H i)).map (C.BT r)=BA n fun i=>Hh (H i):=by
  unfold BA
  rw [List.map_map]
  exact List.map_congr_left fun i _=>rfl
theorem Pc {n q:Nat} {H:Nat→UInt8} (h:q < n):(BA n fun i=>Hh (H i))[0+((q:Nat):Int).toNat]? = some (Hh (H q)):=by
  rw [Nat.zero_add,Int.toNat_natCast];exact Dr (g:=fun i=>Hh (H i)) h
theorem PK {n q:Nat} {H:Nat→UInt8} {c d:UInt8}:(BA n fun i=>Hh (H i)).set (0+((q:Nat):Int).toNat) (Ae (Hh d) 0 (eC (eI .u8 (c.toNat:Nat))))=BA n fun i=>Hh (if i=q then c else H i):=by
  rw [Nat.zero_add,Int.toNat_natCast]
  have e:Ae (Hh d) 0 (eC (eI .u8 (c.toNat:Nat)))=Hh c:=rfl
  rw [e,Io]
  refine Cw fun i _=>?_
  by_cases h:i=q<;>simp [h]
theorem Mz {a:Cj} {q:Nat} (h:q < a.nx.length):(My a)[q]? = some (OE fun l=>Dl a q l):=Dr (g:=fun q=>OE fun l=>Dl a q l) h
theorem Ki {h:Nat→Int} {l:Int} (h0:0≤l) (h1:l < 6):((OE h).drop (l.toNat*1))[0]? = some (iD (h l.toNat)):=by
  rw [List.getElem?_drop]
  have h2:l.toNat*1+0=l.toNat:=by omega
  have h3:l.toNat < 6:=by omega
  rw [h2]
  simp [OE,h3]
end Go.Am
namespace Go.Am
open Go
end Go.Am
namespace Go.Am
open Go Go.Proofs
set_option maxHeartbeats 1000000
attribute [local irreducible] AU B0 Lex Bo Ak Spec
variable {TB:A7}
end Go.Am
