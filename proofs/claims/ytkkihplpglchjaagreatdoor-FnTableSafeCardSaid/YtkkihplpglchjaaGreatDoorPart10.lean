/-
  Automata and systems are valid.
-/
import Derived.Test.YtkkihplpglchjaaGreatDoorPart9
import Derived.Lib.TrailingZeros
set_option linter.constructorNameAsVariable false
set_option linter.unusedSimpArgs false
set_option linter.unusedVariables false
namespace Go.Am
open Go Go.Proofs
set_option maxHeartbeats 1000000
attribute [local irreducible] AR BZ Lex Bm Aj Spec
variable {TB:Ba}
theorem AT {a:B6} (h:A6 a=true):Bq a.al=true∧1≤a.nx.length∧a.nx.length≤12∧a.ac.length=a.nx.length:=by
  unfold A6 at h;grind
theorem Bt (a:B6):Pure Tryz.prog TB 112 [BC a] (eB (A6 a)):=by
  refine eN Tryz.func112 rfl (by kernel_rfl) rfl ?_;intro Γ hΓ
  (repeat' first|refine sN rfl ?_ |refine tA rfl ?_ |refine s2 rfl fun _ _hb=>?_ |(refine sC rfl (CU _) ?_;intro _ _hb) |refine s3 rfl ?_ ?_<;>rintro rfl |refine aU rfl ?_ |refine Aa ?_|(refine aC rfl ?_ ?_<;>rintro ⟨⟩)|refine aK ?_|refine aE ?_|refine aB ?_|refine aR ⟨_,rfl,?_⟩)
  all_goals try (show E.o _=E.o _;congr;unfold A6;(try simp only [List.length_map] at *);grind)
  refine Aj.bound 1 rfl fun hB=>?_
  have hB:=hB (a.nx.map FY) (.p (j:=1) rfl .refl)
  refine Aj.BO (α:={k:Nat // k≤a.nx.length∧(a.nx.take k).all (DS (Af a.al).length a.nx.length)=true}) (fun ⟨k,hk,ha⟩=>[(1,.o (.ip (BF a))),(3,eI .i64 a.nx.length),(4,eI .i64 k)]) (fun ⟨k,hk,ha⟩=>[]) 0 (fun ⟨k,hk,ha⟩=>a.nx.length - k) (⟨0,by omega,rfl⟩) [] (Hw hΓ rfl rfl) (by (simp[cX,zC,hΓ])) ?_;rintro ⟨k,hk,ha⟩;(try dsimp only)
  (repeat first|refine tA rfl ?_ |refine s2 rfl fun _ _hb=>?_ |refine aU rfl ?_ |refine Aa ?_)
  (refine aC rfl ?_ ?_<;>rintro ⟨⟩)
  · obtain ⟨x,hx⟩:=get_some (l:=a.nx) (k:=k) (by (simp only[oZ] at *;omega))
    have hx':=get_map (g:=FY) hx
    (repeat' first|refine sN rfl ?_ |(refine sA rfl ?_ ?_;first|exact tI|simp only[oZ] at *;omega) |(refine s4 rfl ‹_› rfl ?_ ?_;omega) |refine s2 rfl fun _ _hb=>?_ |refine sP rfl (BW _) rfl ?_|(refine sC rfl (SY _ _ _) ?_;intro _ _hb) |refine aU rfl ?_ |refine Aa ?_ |refine rE (by kernel_rfl) ?_|(refine aC rfl ?_ ?_<;>rintro ⟨⟩)|refine aK ?_|refine aE ?_|refine aB ?_|refine aR ⟨_,rfl,?_⟩)
    all_goals first
      | (have h1:=Gq (f:=DS (Af a.al).length a.nx.length) hx (by grind);(show E.o _=E.o _;congr;unfold A6;(try simp only [List.length_map] at *);grind);done)
      | (refine ⟨⟨k+1,by (simp only[oZ] at *;omega),ER hx ha (by grind)⟩,by dsimp only;((simp only[oZ] at *;omega)),[],?_⟩;simp[cX,zC,hΓ];done)
  · (repeat' first|refine tA rfl ?_ |refine aU rfl ?_ |refine Aa ?_|(refine aC rfl ?_ ?_<;>rintro ⟨⟩)|refine aK ?_|refine aE ?_|refine aB ?_|refine aR ⟨_,rfl,?_⟩)
    show E.o _=E.o _;congr
    have h1:=EP ha (by (simp only[oZ] at *;omega))
    unfold A6;simp only [List.length_map] at *;grind
def Fi:List Int→Int
  | []=>0
  | x::l=>if x≠0 then x else Fi l
theorem CB {α:Type} {l:List α} {k:Nat} {x:α} (h:l[k]? = some x):l.drop k=x::l.drop (k+1):=by
  obtain ⟨h1,rfl⟩:=List.getElem?_eq_some_iff.1 h
  exact List.drop_eq_getElem_cons h1
theorem Sw (l:List Int):Pure Tryz.prog TB 192 [AW l] (eI .i64 (Fi l)):=by
  refine eN Tryz.func192 rfl (by kernel_rfl) rfl ?_;intro Γ hΓ
  refine Aj.bound 0 rfl fun hB=>?_
  have hB:=hB (l.map CC) .refl
  (repeat' first|refine sN rfl ?_ |refine tA rfl ?_ |refine aU rfl ?_ |refine Aa ?_|(refine aC rfl ?_ ?_<;>rintro ⟨⟩)|refine aK ?_|refine aE ?_|refine aB ?_|refine aR ⟨_,rfl,?_⟩)
  refine Aj.BO (α:={k:Nat // k≤l.length∧Fi l=Fi (l.drop k)}) (fun ⟨k,hk,ha⟩=>[(3,eI .i64 0),(6,AW l),(7,eI .i64 l.length),(8,eI .i64 k)]) (fun ⟨k,hk,ha⟩=>[]) 0 (fun ⟨k,hk,ha⟩=>l.length - k) (⟨0,by omega,rfl⟩) [] (Hw hΓ rfl rfl) (by (simp[cX,zC,hΓ])) ?_;rintro ⟨k,hk,ha⟩;(try dsimp only)
  (repeat first|refine s2 rfl fun _ _hb=>?_ |refine aU rfl ?_ |refine Aa ?_)
  (refine aC rfl ?_ ?_<;>rintro ⟨⟩)
  · obtain ⟨x,hx⟩:=get_some (l:=l) (k:=k) (by (simp only[oZ] at *;omega))
    have hx':=get_map (g:=CC) hx
    rw [CB hx,Fi] at ha
    (repeat' first|(refine sA rfl ?_ ?_;first|exact tI|simp only[oZ] at *;omega) |(refine s4 rfl ‹_› rfl ?_ ?_;omega) |refine s2 rfl fun _ _hb=>?_ |refine aU rfl ?_ |refine Aa ?_|(refine aC rfl ?_ ?_<;>rintro ⟨⟩)|refine aK ?_|refine aE ?_|refine aB ?_|refine aR ⟨_,rfl,?_⟩)
    · rw [if_pos (by grind)] at ha
      rw [ha]
    · rw [if_neg (by grind)] at ha
      refine ⟨⟨k+1,by (simp only[oZ] at *;omega),ha⟩,by dsimp only;((simp only[oZ] at *;omega)),[],?_⟩
      simp[cX,zC,hΓ]
  · (repeat' first|refine tA rfl ?_ |refine aU rfl ?_ |refine Aa ?_|(refine aC rfl ?_ ?_<;>rintro ⟨⟩)|refine aK ?_|refine aE ?_|refine aB ?_|refine aR ⟨_,rfl,?_⟩)
    rw [ha,List.drop_of_length_le (by (simp only[oZ] at *;omega))];rfl
def Wn (e f:Dp):Int:=Fi [Mx e.f f.f,Mx e.l f.l,Mx e.t f.t]
theorem Sv (e f:Dp):(0≤Wn e f)=(HC e f=false):=by
  unfold Wn HC;simp only [Fi,Mx];grind
theorem Jx (e f:Dp):Pure Tryz.prog TB 161 [Sx e,Sx f] (eI .i64 (Wn e f)):=by
  refine eN Tryz.func161 rfl (by kernel_rfl) rfl ?_;intro Γ hΓ
  (repeat' first|refine tA rfl ?_ |refine sP rfl (Li _ _) rfl ?_|refine sP rfl (Sw [Mx e.f f.f,Mx e.l f.l,Mx e.t f.t]) rfl ?_ |refine aU rfl ?_ |refine Aa ?_ |refine rE (by kernel_rfl) ?_|(refine aC rfl ?_ ?_<;>rintro ⟨⟩)|refine aK ?_|refine aE ?_|refine aB ?_|refine aR ⟨_,rfl,?_⟩)
  rfl
theorem Ng {s:Sys} {e:Dp} (h:s.es[0]? = some e):Gn s 0=CO s.al s.st e:=by
  unfold Gn;rw [h];simp
theorem JV {s:Sys} {k:Nat} {e p:Dp} (h:s.es[k+1]? = some e) (hp:s.es[k]? = some p):Gn s (k+1)=(CO s.al s.st e && HC p e):=by
  unfold Gn;rw [h];simp [hp]
theorem Fu {k:Nat} {f:Nat→Bool} (h:∀i,i < k→f i=true) (h1:f k=true):∀i,i < k+1→f i=true:=fun i hi=>by
  rcases Nat.lt_succ_iff_lt_or_eq.1 hi with h2|h2
  · exact h i h2
  · rw [h2];exact h1
theorem GL {s:Sys} {k:Nat} (hk:k < s.es.length) (h:Gn s k=false):BB s=false:=by
  have h1:(List.range s.es.length).all (Gn s)=false:=by
    rw [List.all_eq_false];exact ⟨k,List.mem_range.2 hk,by simp [h]⟩
  unfold BB;rw [h1];simp
theorem K2 {s:Sys} {k:Nat} (h0:Bq s.al=true) (h1:1≤s.st∧s.st≤16) (hk:s.es.length≤k) (h:∀i,i < k→Gn s i=true):BB s=true:=by
  have h1:(List.range s.es.length).all (Gn s)=true:=by
    rw [List.all_eq_true];intro i hi;exact h i (by have:=List.mem_range.1 hi;omega)
  unfold BB;rw [h1];grind
theorem Ci (s:Sys):Pure Tryz.prog TB 143 [CN s] (eB (BB s)):=by
  refine eN Tryz.func143 rfl (by kernel_rfl) rfl ?_;intro Γ hΓ
  (repeat' first|refine tA rfl ?_ |refine s2 rfl fun _ _hb=>?_ |(refine sC rfl (CU _) ?_;intro _ _hb) |refine s3 rfl ?_ ?_<;>rintro rfl |refine aU rfl ?_ |refine Aa ?_|(refine aC rfl ?_ ?_<;>rintro ⟨⟩)|refine aK ?_|refine aE ?_|refine aB ?_|refine aR ⟨_,rfl,?_⟩)
  all_goals try (show E.o _=E.o _;congr;unfold BB;(try simp only [List.length_map] at *);grind)
  refine Aj.bound 1 rfl fun hB=>?_
  have hB:=hB (s.es.map CS) (.p (j:=2) rfl .refl)
  refine Aj.BO (α:={k:Nat // k≤s.es.length∧∀i,i < k→Gn s i=true}) (fun ⟨k,hk,ha⟩=>[(1,.o (.ip (B5 s))),(3,eI .i64 k)]) (fun ⟨k,hk,ha⟩=>[]) 0 (fun ⟨k,hk,ha⟩=>s.es.length - k) (⟨0,by omega,by omega⟩) [] (Hw hΓ rfl rfl) (by (simp[cX,zC,hΓ])) ?_;rintro ⟨k,hk,ha⟩;(try dsimp only)
  (repeat first|refine sN rfl ?_ |refine tA rfl ?_ |refine s2 rfl fun _ _hb=>?_ |refine aU rfl ?_ |refine Aa ?_)
  (refine aC rfl ?_ ?_<;>rintro ⟨⟩)
  · obtain ⟨e,hx⟩:=get_some (l:=s.es) (k:=k) (by (simp only[oZ] at *;omega))
    have hx':=get_map (g:=CS) hx
    cases k with
    | zero=>
      have h1:=Ng hx
      (repeat' first|(refine sA rfl ?_ ?_;first|exact tI|omega) |(refine s4 rfl ‹_› rfl ?_ ?_;first|omega|simp only[oZ] at *;omega) |refine s2 rfl fun _ _hb=>?_ |(refine sC rfl (LV _ _ e) ?_;intro _ _hb)|(refine sC rfl (Jk _ _) ?_;intro _ _hb) |refine s3 rfl ?_ ?_<;>rintro rfl |refine aU rfl ?_ |refine Aa ?_ |refine rE (by kernel_rfl) ?_|(refine aC rfl ?_ ?_<;>rintro ⟨⟩)|refine aK ?_|refine aE ?_|refine aB ?_|refine aR ⟨_,rfl,?_⟩)
      all_goals first
        | (exfalso;(simp only[oZ] at *;omega);done)
        | (have h2:=GL (s:=s) (k:=0) (by (simp only[oZ] at *;omega)) (by grind);show E.o _=E.o _;congr;exact h2.symm;done)
        | (refine ⟨⟨0+1,by (simp only[oZ] at *;omega),Fu ha (by grind)⟩,by dsimp only;((simp only[oZ] at *;omega)),[],?_⟩;simp[cX,zC,hΓ];done)
    | succ k=>
      obtain ⟨p,hp⟩:=get_some (l:=s.es) (k:=k) (by omega)
      have hp':(s.es.map CS)[(((k+1:Nat):Int) - 1).toNat]? = some (CS p):=by simp [hp]
      have h1:=JV hx hp
      (repeat' first|(refine sA rfl ?_ ?_;first|exact tI|simp only[oZ] at *;omega) |(refine s4 rfl ‹_› rfl ?_ ?_;omega) |refine s2 rfl fun _ _hb=>?_ |(refine sC rfl (LV _ _ e) ?_;intro _ _hb)|(refine sC rfl (Jk p e) ?_;intro _ _hb) |refine s3 rfl ?_ ?_<;>rintro rfl |refine aU rfl ?_ |refine Aa ?_ |refine rE (by kernel_rfl) ?_|(refine aC rfl ?_ ?_<;>rintro ⟨⟩)|refine aK ?_|refine aE ?_|refine aB ?_|refine aR ⟨_,rfl,?_⟩)
      all_goals first
        | (exfalso;(simp only[oZ] at *;omega);done)
        | (have h2:=GL (s:=s) (k:=k+1) (by (simp only[oZ] at *;omega)) (by grind);show E.o _=E.o _;congr;exact h2.symm;done)
        | (refine ⟨⟨k+1+1,by (simp only[oZ] at *;omega),Fu ha (by grind)⟩,by dsimp only;((simp only[oZ] at *;omega)),[],?_⟩;simp[cX,zC,hΓ];done)
  · (repeat' first|refine tA rfl ?_ |refine aU rfl ?_ |refine Aa ?_|(refine aC rfl ?_ ?_<;>rintro ⟨⟩)|refine aK ?_|refine aE ?_|refine aB ?_|refine aR ⟨_,rfl,?_⟩)
    have h2:=K2 (s:=s) (by grind) (by grind) (by (simp only[oZ] at *;omega)) ha
    show E.o _=E.o _;congr;exact h2.symm
theorem LN {s:Sys} {e:Dp}:CO s.al s.st e=(decide (0≤e.f∧e.f < s.st) && decide (0≤e.t∧e.t < s.st) && decide (e.l < 6) && hasB s.al e.l):=by
  unfold CO hasB;grind
theorem Hg (s:Sys):Pure Tryz.prog TB 121 [CN s] (eB (BB s)):=by
  refine eN Tryz.func121 rfl (by kernel_rfl) rfl ?_;intro Γ hΓ
  (repeat' first|refine sN rfl ?_ |refine tA rfl ?_ |refine s2 rfl fun _ _hb=>?_ |(refine sC rfl (Dy _) ?_;intro _ _hb) |refine s3 rfl ?_ ?_<;>rintro rfl |refine aU rfl ?_ |refine Aa ?_|(refine aC rfl ?_ ?_<;>rintro ⟨⟩)|refine aK ?_|refine aE ?_|refine aB ?_|refine aR ⟨_,rfl,?_⟩)
  all_goals try (show E.o _=E.o _;congr;unfold BB;(try simp only [List.length_map] at *);grind)
  refine Aj.bound 1 rfl fun hB=>?_
  have hB:=hB (s.es.map CS) (.p (j:=2) rfl .refl)
  refine Aj.BO (α:={k:Nat // k≤s.es.length∧∀i,i < k→Gn s i=true}) (fun ⟨k,hk,ha⟩=>[(1,.o (.ip (B5 s))),(20,.o (.d (EF s.es))),(21,eI .i64 s.es.length),(22,eI .i64 k)]) (fun ⟨k,hk,ha⟩=>[]) 0 (fun ⟨k,hk,ha⟩=>s.es.length - k) (⟨0,by omega,by omega⟩) [] (Hw hΓ rfl rfl) (by (simp[cX,zC,hΓ])) ?_;rintro ⟨k,hk,ha⟩;(try dsimp only)
  (repeat first|refine s2 rfl fun _ _hb=>?_ |refine aU rfl ?_ |refine Aa ?_)
  (refine aC rfl ?_ ?_<;>rintro ⟨⟩)
  · obtain ⟨e,hx⟩:=get_some (l:=s.es) (k:=k) (by (simp only[oZ] at *;omega))
    have hx':=get_map (g:=CS) hx
    cases k with
    | zero=>
      have h1:=Ng hx
      rw [LN] at h1
      (repeat' first|(refine sA rfl ?_ ?_;first|exact tI|omega) |(refine s4 rfl ‹_› rfl ?_ ?_;first|omega|simp only[oZ] at *;omega) |refine s2 rfl fun _ _hb=>?_ |(refine sC rfl (Kk s _) ?_;intro _ _hb)|(refine sC rfl (Kh _ _) ?_;intro _ _hb) |refine s3 rfl ?_ ?_<;>rintro rfl |refine aU rfl ?_ |refine Aa ?_ |refine rE (by kernel_rfl) ?_|(refine aC rfl ?_ ?_<;>rintro ⟨⟩)|refine aK ?_|refine aE ?_|refine aB ?_|refine aR ⟨_,rfl,?_⟩)
      all_goals first
        | (exfalso;(simp only[oZ] at *;omega);done)
        | (have h2:=GL (s:=s) (k:=0) (by (simp only[oZ] at *;omega)) (by grind);show E.o _=E.o _;congr;exact h2.symm;done)
        | (refine ⟨⟨0+1,by (simp only[oZ] at *;omega),Fu ha (by grind)⟩,by dsimp only;((simp only[oZ] at *;omega)),[],?_⟩;simp[cX,zC,hΓ];done)
    | succ k=>
      obtain ⟨p,hp⟩:=get_some (l:=s.es) (k:=k) (by omega)
      have hp':(s.es.map CS)[(((k+1:Nat):Int) - 1).toNat]? = some (CS p):=by simp [hp]
      have h1:=JV hx hp
      have h3:=Sv p e
      rw [LN] at h1
      (repeat' first|(refine sA rfl ?_ ?_;first|exact tI|simp only[oZ] at *;omega) |(refine s4 rfl ‹_› rfl ?_ ?_;omega) |refine s2 rfl fun _ _hb=>?_ |(refine sC rfl (Kk s _) ?_;intro _ _hb)|(refine sC rfl (Kh _ _) ?_;intro _ _hb)|refine sP rfl (Jx p e) rfl ?_ |refine s3 rfl ?_ ?_<;>rintro rfl |refine aU rfl ?_ |refine Aa ?_ |refine rE (by kernel_rfl) ?_|(refine aC rfl ?_ ?_<;>rintro ⟨⟩)|refine aK ?_|refine aE ?_|refine aB ?_|refine aR ⟨_,rfl,?_⟩)
      all_goals first
        | (exfalso;(simp only[oZ] at *;omega);done)
        | (have h2:=GL (s:=s) (k:=k+1) (by (simp only[oZ] at *;omega)) (by grind);show E.o _=E.o _;congr;exact h2.symm;done)
        | (refine ⟨⟨k+1+1,by (simp only[oZ] at *;omega),Fu ha (by grind)⟩,by dsimp only;((simp only[oZ] at *;omega)),[],?_⟩;simp[cX,zC,hΓ];done)
  · (repeat' first|refine tA rfl ?_ |refine aU rfl ?_ |refine Aa ?_|(refine aC rfl ?_ ?_<;>rintro ⟨⟩)|refine aK ?_|refine aE ?_|refine aB ?_|refine aR ⟨_,rfl,?_⟩)
    have h2:=K2 (s:=s) (by grind) (by grind) (by (simp only[oZ] at *;omega)) ha
    show E.o _=E.o _;congr;exact h2.symm
theorem LF {a:B6} {k:Nat} {x:List Int} (hx:a.nx[k]? = some x) (h:DS (Af a.al).length a.nx.length x=false):A6 a=false:=by
  have h1:=Gq (f:=DS (Af a.al).length a.nx.length) hx h
  unfold A6;rw [h1];simp
theorem OW {a:B6} {k:Nat} (h0:Bq a.al=true) (h1:1≤a.nx.length∧a.nx.length≤12) (h2:a.ac.length=a.nx.length) (hk:a.nx.length≤k) (h:(a.nx.take k).all (DS (Af a.al).length a.nx.length)=true):A6 a=true:=by
  have h3:=EP h hk
  unfold A6;rw [h3];grind
theorem BP (a:B6):Pure Tryz.prog TB 43 [BC a] (eB (A6 a)):=by
  refine eN Tryz.func43 rfl (by kernel_rfl) rfl ?_;intro Γ hΓ
  (repeat' first|refine sN rfl ?_ |refine tA rfl ?_ |refine s2 rfl fun _ _hb=>?_ |(refine sC rfl (Dy _) ?_;intro _ _hb)|refine sP rfl (De _) rfl ?_ |refine s3 rfl ?_ ?_<;>rintro rfl |refine aU rfl ?_ |refine Aa ?_|(refine aC rfl ?_ ?_<;>rintro ⟨⟩)|refine aK ?_|refine aE ?_|refine aB ?_|refine aR ⟨_,rfl,?_⟩)
  all_goals try (show E.o _=E.o _;congr;unfold A6;(try simp only [List.length_map] at *);grind)
  refine Aj.bound 1 rfl fun hB=>?_
  have hB:=hB (a.nx.map FY) (.p (j:=1) rfl .refl)
  refine Aj.BO (α:={k:Nat // k≤a.nx.length∧(a.nx.take k).all (DS (Af a.al).length a.nx.length)=true}) (fun ⟨k,hk,ha⟩=>[(1,.o (.ip (BF a))),(3,eI .i64 (Af a.al).length),(38,Kd a.nx),(39,eI .i64 a.nx.length),(40,eI .i64 k)]) (fun ⟨k,hk,ha⟩=>[]) 0 (fun ⟨k,hk,ha⟩=>a.nx.length - k) (⟨0,by omega,rfl⟩) [] (Hw hΓ rfl rfl) (by (simp[cX,zC,hΓ])) ?_;rintro ⟨k,hk,ha⟩;(try dsimp only)
  (repeat first|refine s2 rfl fun _ _hb=>?_ |refine aU rfl ?_ |refine Aa ?_)
  (refine aC rfl ?_ ?_<;>rintro ⟨⟩)
  · obtain ⟨x,hx⟩:=get_some (l:=a.nx) (k:=k) (by (simp only[oZ] at *;omega))
    have hx':=get_map (g:=FY) hx
    (repeat' first|refine sN rfl ?_ |refine tA rfl ?_ |(refine s4 rfl ‹_› rfl ?_ ?_;omega) |refine s2 rfl fun _ _hb=>?_ |refine aU rfl ?_ |refine Aa ?_|(refine aC rfl ?_ ?_<;>rintro ⟨⟩)|refine aK ?_|refine aE ?_|refine aB ?_|refine aR ⟨_,rfl,?_⟩)
    · have h2:=LF hx (by unfold DS;grind)
      show E.o _=E.o _;congr;exact h2.symm
    refine Aj.bound 5 rfl fun hB2=>?_
    have hB2:=hB2 (x.map CC) .refl
    refine Aj.BO (α:={j:Nat // j≤x.length∧(x.take j).all (Nf a.nx.length)=true}) (fun ⟨j,hj,hc⟩=>[(1,.o (.ip (BF a))),(3,eI .i64 (Af a.al).length),(38,Kd a.nx),(39,eI .i64 a.nx.length),(40,eI .i64 k),(48,AW x),(49,eI .i64 x.length),(50,eI .i64 j)]) (fun ⟨j,hj,hc⟩=>[]) 0 (fun ⟨j,hj,hc⟩=>x.length - j) (⟨0,by omega,rfl⟩) [] (Hw hΓ rfl rfl) (by (simp[cX,zC,hΓ])) ?_;rintro ⟨j,hj,hc⟩;(try dsimp only)
    (repeat first|refine s2 rfl fun _ _hb=>?_ |refine aU rfl ?_ |refine Aa ?_)
    (refine aC rfl ?_ ?_<;>rintro ⟨⟩)
    · obtain ⟨y,hy⟩:=get_some (l:=x) (k:=j) (by (simp only[oZ] at *;omega))
      have hy':=get_map (g:=CC) hy
      (repeat' first|refine sN rfl ?_ |(refine sA rfl ?_ ?_;first|exact tI|simp only[oZ] at *;omega) |(refine s4 rfl ‹_› rfl ?_ ?_;omega) |refine s2 rfl fun _ _hb=>?_ |refine s3 rfl ?_ ?_<;>rintro rfl |refine aU rfl ?_ |refine Aa ?_|(refine aC rfl ?_ ?_<;>rintro ⟨⟩)|refine aK ?_|refine aE ?_|refine aB ?_|refine aR ⟨_,rfl,?_⟩)
      all_goals first
        | (have h2:=LF hx (by rw [DS,Gq hy (by unfold Nf;grind)];simp);show E.o _=E.o _;congr;exact h2.symm;done)
        | (refine ⟨⟨j+1,by (simp only[oZ] at *;omega),ER hy hc (by unfold Nf;grind)⟩,by dsimp only;((simp only[oZ] at *;omega)),[],?_⟩;simp[cX,zC,hΓ];done)
    · (repeat' first|(refine sA rfl ?_ ?_;first|exact tI|simp only[oZ] at *;omega) |refine aU rfl ?_ |refine Aa ?_|(refine aC rfl ?_ ?_<;>rintro ⟨⟩)|refine aK ?_|refine aE ?_|refine aB ?_|refine aR ⟨_,rfl,?_⟩)
      have h3:=EP hc (by (simp only[oZ] at *;omega))
      refine ⟨⟨k+1,by (simp only[oZ] at *;omega),ER hx ha (by rw [DS,h3];grind)⟩,by dsimp only;((simp only[oZ] at *;omega)),[],?_⟩
      simp[cX,zC,hΓ]
  · (repeat' first|refine tA rfl ?_ |refine aU rfl ?_ |refine Aa ?_|(refine aC rfl ?_ ?_<;>rintro ⟨⟩)|refine aK ?_|refine aE ?_|refine aB ?_|refine aR ⟨_,rfl,?_⟩)
    have h2:=OW (a:=a) (by grind) (by grind) (by grind) (by (simp only[oZ] at *;omega)) ha
    show E.o _=E.o _;congr;exact h2.symm
def C7 (a:B6) (q:Nat) (l:Int):Int:=if DK a.al l.toNat then ((a.nx.getD q []).getD (AA a.al l.toNat).length 0) else q
theorem HM {s:Int} {l k:Nat} (hl:l < k) (hb:DK s l=true):(AA s l).length < (AA s k).length:=by
  induction k with
  | zero=>omega
  | succ k ih=>
    rw [B8,List.length_append]
    rcases Nat.lt_succ_iff_lt_or_eq.1 hl with h|h
    · have:=ih h;omega
    · subst h;rw [if_pos hb];simp
theorem Gs {a:B6} (h:A6 a=true) {q:Nat} (hq:q < a.nx.length):∃row,a.nx[q]? = some row∧row.length=(Af a.al).length∧∀(i:Nat) (x:Int),row[i]? = some x→0≤x∧x < a.nx.length:=by
  obtain ⟨row,hr⟩:=get_some hq
  refine ⟨row,hr,?_⟩
  unfold A6 at h
  rw [Bool.and_eq_true,List.all_eq_true] at h
  have h1:=h.2 row (List.mem_of_getElem? hr)
  unfold DS at h1
  rw [Bool.and_eq_true,List.all_eq_true] at h1
  refine ⟨by grind,fun i x hx=>?_⟩
  have:=h1.2 x (List.mem_of_getElem? hx)
  unfold Nf at this;grind
theorem ME (a:B6) (h:A6 a=true) (q:Nat) (hq:q < a.nx.length) (l:Int) (h0:0≤l) (h1:l < 6):Pure Tryz.prog TB 102 [BC a,eI .i64 q,eI .i64 l] (eI .i64 (C7 a q l)):=by
  refine eN Tryz.func102 rfl (by kernel_rfl) rfl ?_;intro Γ hΓ
  obtain ⟨row,hr,hl,hx⟩:=Gs h hq
  have hr':=get_map (g:=FY) hr
  by_cases hb:DK a.al l.toNat=true
  · have hlt:(AA a.al l.toNat).length < row.length:=by rw [hl];exact HM (by omega) hb
    obtain ⟨y,hy⟩:=get_some hlt
    have hy':=get_map (g:=CC) hy
    (repeat' first|refine tA rfl ?_ |(refine s4 rfl ‹_› rfl ?_ ?_;omega) |refine s2 rfl fun _ _hb=>?_ |(refine sC rfl (CW _ _ (by omega) (by omega)) ?_;intro _ _hb)|refine sP rfl (Pa _ _ (by omega) (by omega)) rfl ?_ |refine aU rfl ?_ |refine Aa ?_ |refine rE (by kernel_rfl) ?_|(refine aC rfl ?_ ?_<;>rintro ⟨⟩)|refine aK ?_|refine aE ?_|refine aB ?_|refine aR ⟨_,rfl,?_⟩)
    all_goals first
      | (exfalso;grind;done)
      | (show E.o _=E.o _;congr;unfold C7;rw [if_pos hb];simp [List.getD,hr,hy];done)
  · (repeat' first|refine tA rfl ?_ |(refine s4 rfl ‹_› rfl ?_ ?_;omega) |refine s2 rfl fun _ _hb=>?_ |(refine sC rfl (CW _ _ (by omega) (by omega)) ?_;intro _ _hb) |refine aU rfl ?_ |refine Aa ?_ |refine rE (by kernel_rfl) ?_|(refine aC rfl ?_ ?_<;>rintro ⟨⟩)|refine aK ?_|refine aE ?_|refine aB ?_|refine aR ⟨_,rfl,?_⟩)
    all_goals first
      | (show E.o _=E.o _;congr;unfold C7;rw [if_neg hb];done)
      | (exfalso;grind;done)
structure Net where
  ps:List Sys
  au:List B6
  st:List Int
  ls:Int
  kd:Int
  gl:Int
end Go.Am
namespace Go.Am
open Go
inductive Fits:List Int→List Int→Prop
  | nil:Fits [] []
  | cons {z s:Int} {zs ss:List Int}:0≤s→s < z→Fits zs ss→Fits (z::zs) (s::ss)
end Go.Am
namespace Go.Am
open Go Go.Proofs
set_option maxHeartbeats 1000000
attribute [local irreducible] AR BZ Lex Bm Aj Spec
variable {TB:Ba}
end Go.Am
namespace Go.Am
open Go
theorem OY {a b c:Dp} (h:HC a b=true) (k:HC b c=true):HC a c=true:=by
  unfold HC at *;grind
theorem B2 {s:Sys} (h:BB s=true):Bq s.al=true∧1≤s.st∧s.st≤16:=by
  unfold BB at h;grind
theorem Cz {s:Sys} (h:BB s=true) {e:Dp} (he:e∈s.es):CO s.al s.st e=true:=by
  obtain ⟨k,hk,rfl⟩:=List.getElem_of_mem he
  unfold BB at h
  simp only [Bool.and_eq_true,List.all_eq_true] at h
  have h1:=h.2 k (List.mem_range.2 hk)
  cases k with
  | zero=>rw [Ng (List.getElem?_eq_getElem hk)] at h1;exact h1
  | succ k=>rw [JV (List.getElem?_eq_getElem hk) (List.getElem?_eq_getElem (by omega))] at h1;grind
theorem Nh {s:Sys} (h:BB s=true):s.es.Pairwise fun a b=>HC a b=true:=by
  have key:∀(l:List Dp),(∀(k:Nat) (p e:Dp),l[k]? = some p→l[k+1]? = some e→HC p e=true)→l.Pairwise fun a b=>HC a b=true:=by
    intro l
    induction l with
    | nil=>intro _;exact .nil
    | cons a l ih=>
      intro hl
      have h1:=ih fun k p e hp he=>hl (k+1) p e (by simpa using hp) (by simpa using he)
      refine List.pairwise_cons.2 ⟨fun b hb=>?_,h1⟩
      cases l with
      | nil=>cases hb
      | cons c l=>
        have h2:=hl 0 a c rfl rfl
        rcases List.mem_cons.1 hb with rfl|hb
        · exact h2
        · exact OY h2 ((List.pairwise_cons.1 h1).1 b hb)
  refine key _ fun k p e hp he=>?_
  unfold BB at h
  simp only [Bool.and_eq_true,List.all_eq_true] at h
  have h1:=h.2 (k+1) (List.mem_range.2 (List.getElem?_eq_some_iff.1 he).1)
  rw [JV he hp] at h1
  grind
theorem FX {a:B6} (h:A6 a=true) {q:Nat} (hq:q < a.nx.length) {l:Int} (h0:0≤l) (h1:l < 6):0≤C7 a q l∧C7 a q l < a.nx.length:=by
  obtain ⟨row,hr,hl,hx⟩:=Gs h hq
  unfold C7
  split
  · rename_i hb
    have hlt:(AA a.al l.toNat).length < row.length:=by rw [hl];exact HM (by omega) hb
    obtain ⟨y,hy⟩:=get_some hlt
    have:=hx _ y hy
    simpa [List.getD,hr,hy] using this
  · omega
structure ZB (n:Net):Prop where
  ps:∀s∈n.ps,BB s=true
  au:∀a∈n.au,A6 a=true
  np:n.ps.length≤3
  na:n.au.length≤2
inductive VX:List Int→List (List Int)→Prop
  | nil:VX [] []
  | cons {z:Int} {c:List Int} {zs:List Int} {cs:List (List Int)}:(∀x∈c,0≤x∧x < z)→(c.length:Int)≤z→VX zs cs→VX (z::zs) (c::cs)
theorem SD {α β:Type} (l:List α) (g:α→List β) (n:Int) (h:∀x∈l,((g x).length:Int)≤n):((l.flatMap g).length:Int)≤l.length*n:=by
  induction l with
  | nil=>simp
  | cons a l ih=>
    have h1:=h a (by simp)
    have h2:=ih fun x hx=>h x (by simp [hx])
    simp only [List.flatMap_cons,List.length_append,List.length_cons]
    have h3:((l.length:Int)+1)*n=l.length*n+n:=by rw [Int.add_mul];simp
    push_cast
    omega
end Go.Am
namespace Go.Am
open Go Go.Proofs
set_option maxHeartbeats 1000000
attribute [local irreducible] AR BZ Lex Bm Aj Spec
variable {TB:Ba}
theorem Bg {s:Int} {k:Nat} {l:Int} (h:l∈AA s k):0≤l∧l < k∧DK s l.toNat=true:=by
  unfold AA at h
  obtain ⟨i,hi,rfl⟩:=List.mem_map.1 h
  obtain ⟨h1,h2⟩:=List.mem_filter.1 hi
  have:=List.mem_range.1 h1
  exact ⟨Int.natCast_nonneg _,by show ((i:Nat):Int) < k;omega,h2⟩
structure ZO (n:Net):Prop where
  one:n.kd=0∨n.kd=3∨n.kd=5→1≤n.au.length
  two:n.kd=1∨n.kd=2→2≤n.au.length
theorem NO {α β:Type} {l:List α} {g:α→β} {k:Nat} {x:α} (h:l[k]? = some x):(l.map g)[0+((k:Nat):Int).toNat]? = some (g x):=by simp [h]
def WM (l:List Int):Nat:=l.countP (decide <| · < 0)
structure VY (mv:List (List (List Int))) (g:Nat→Bool) (dist:List Int):Prop where
  len:dist.length=mv.length
  zero:∀i,i < mv.length→(dist.getD i 0=0↔g i=true)
  step:∀i,i < mv.length→0 < dist.getD i 0→∃r∈mv.getD i [],∃j∈r,dist.getD j.toNat 0=dist.getD i 0 - 1
  close:∀i,i < mv.length→∀r∈mv.getD i [],∀j∈r,0≤dist.getD j.toNat 0→0≤dist.getD i 0∧dist.getD i 0≤dist.getD j.toNat 0+1
  bound:∀i,i < mv.length→-1≤dist.getD i 0∧dist.getD i 0≤mv.length+1
structure DI (mv:List (List (List Int))) (g:Nat→Bool) (dist:List Int) (d:Int) (more:Bool) (i:Nat):Prop where
  len:dist.length=mv.length
  d1:1≤d
  zero:∀i,i < mv.length→(dist.getD i 0=0↔g i=true)
  step:∀i,i < mv.length→0 < dist.getD i 0→∃r∈mv.getD i [],∃j∈r,dist.getD j.toNat 0=dist.getD i 0 - 1
  lt:∀x,x < mv.length→-1≤dist.getD x 0∧dist.getD x 0≤d
  up:∀x,i≤x→x < mv.length→dist.getD x 0 < d
  last:more=false→∀x,x < mv.length→dist.getD x 0 < d
  close:∀x,x < mv.length→∀r∈mv.getD x [],∀j∈r,0≤dist.getD j.toNat 0→(dist.getD j.toNat 0 < d - 1∨x < i∧dist.getD j.toNat 0=d - 1)→0≤dist.getD x 0∧dist.getD x 0≤dist.getD j.toNat 0+1
structure Zy (mv:List (List (List Int))) (g:Nat→Bool) (dt:List Int) (d:Int) (more:Bool):Prop where
  len:dt.length=mv.length
  d1:1≤d
  d2:d≤mv.length+2
  yes:more=true→DI mv g dt d true 0∧d+WM dt≤mv.length+1
  no:more=false→VY mv g dt
structure ZN (mv:List (List (List Int))) (g:Nat→Bool) (dt:List Int) (d:Int) (du:List Int) (m2:Bool) (i:Nat):Prop where
  le:i≤mv.length
  di:DI mv g du d m2 i
  cnt:WM du+(if m2 then 1 else 0)≤WM dt
theorem Rp (l:List Int) (a:Int):l.length=l.count a+(l.filter (· != a)).length:=by
  induction l with
  | nil=>rfl
  | cons b l ih=>
    simp only [List.count_cons,List.filter_cons,List.length_cons]
    by_cases h:b=a
    · subst h;simp;omega
    · simp [h];omega
theorem GG:∀(n:Nat) (l:List Int),l.Nodup→(∀x∈l,0≤x∧x < n)→l.length≤n
  | 0,l,_,h=>by
    cases l with
    | nil=>simp
    | cons a l=>have:=h a (by simp);omega
  | n + 1,l,hn,h=>by
    have h1:=Rp l n
    have h2:=List.nodup_iff_count.1 hn n
    have h3:=GG n (l.filter (· != (n:Int))) (hn.filter _) fun x hx=>by
      obtain ⟨h4,h5⟩:=List.mem_filter.1 hx
      have:=h x h4
      simp at h5
      omega
    omega
def Xv (n:Nat) (acc:List Int):Prop:=acc.Nodup∧∀x∈acc,0≤x∧x < n
theorem O4 {α β:Type} {l:List α} {k:Nat} {x:α} (h:l[k]? = some x) (f:β→α→β) (b:β):(l.take (k+1)).foldl f b=f ((l.take k).foldl f b) x:=by
  rw [List.take_add_one,h,List.foldl_append];rfl
end Go.Am
namespace Go.Am
open Go
structure Gr where
  N:Nat
  succ:Int→Int→List Int
  goal:Int→Bool
  ls:List Int
  s0:Int
structure OO (g:Gr):Prop where
  s0:0≤g.s0∧g.s0 < g.N
  inn:∀x:Int,0≤x∧x < g.N→∀l∈g.ls,∀y∈g.succ x l,0≤y∧y < g.N
  srt:g.ls.Pairwise (· < ·)
def reach (g:Gr):List Int→Int→Int→Prop
  | [],a,x=>a=x
  | l::w,a,x=>∃y∈g.succ a l,reach g w y x
def over (g:Gr) (w:List Int):Prop:=∀l∈w,l∈g.ls
def UL (g:Gr) (w:List Int):Prop:=∃x,reach g w g.s0 x∧g.goal x=true
def OM:List Int→List Int→Prop
  | a::u,b::w=>a < b∨a=b∧OM u w
  | _,_=>False
def slt (u w:List Int):Prop:=u.length < w.length∨u.length=w.length∧OM u w
def Dr (g:Gr):Option (List Int)→Prop
  | some w=>over g w∧UL g w∧∀u,over g u→UL g u→¬slt u w
  | none=>∀u,over g u→¬UL g u
theorem El {g:Gr}:∀ {w:List Int} {l a x:Int},reach g (w++[l]) a x↔∃y,reach g w a y∧x∈g.succ y l
  | [],l,a,x=>by simp [reach]
  | m::w,l,a,x=>by
    simp only [List.cons_append,reach,El]
    constructor
    · rintro ⟨y,hy,z,hz,hx⟩;exact ⟨z,⟨y,hy,hz⟩,hx⟩
    · rintro ⟨z,⟨y,hy,hz⟩,hx⟩;exact ⟨y,hy,z,hz,hx⟩
theorem Gi {g:Gr} (hg:OO g):∀ {w:List Int} {a x:Int},over g w→(0≤a∧a < g.N)→reach g w a x→0≤x∧x < g.N
  | [],a,x,_,ha,h=>by have h:a=x:=h;subst h;exact ha
  | l::w,a,x,ho,ha,h=>by
    obtain ⟨y,hy,h⟩:=h
    exact Gi hg (fun m hm=>ho m (by simp [hm])) (hg.inn a ha l (ho l (by simp)) y hy) h
theorem GH {g:Gr} {w:List Int} {l:Int}:over g (w++[l])↔over g w∧l∈g.ls:=by
  unfold over;simp only [List.mem_append,List.mem_singleton]
  constructor
  · intro h;exact ⟨fun m hm=>h m (.inl hm),h l (.inr rfl)⟩
  · rintro ⟨h1,h2⟩ m (hm|rfl);exact h1 m hm;exact h2
theorem HN:∀ {u w:List Int} {m l:Int},u.length=w.length→(OM (u++[m]) (w++[l])↔OM u w∨u=w∧m < l)
  | [],[],m,l,_=>by simp [OM]
  | [],b::w,m,l,h=>by simp at h
  | a::u,[],m,l,h=>by simp at h
  | a :: u,b::w,m,l,h=>by
    simp only [List.cons_append,OM,HN (u:=u) (w:=w) (by simpa using h),List.cons.injEq]
    constructor
    · rintro (h|⟨h1,h2|⟨h2,h3⟩⟩)
      · exact .inl (.inl h)
      · exact .inl (.inr ⟨h1,h2⟩)
      · exact .inr ⟨⟨h1,h2⟩,h3⟩
    · rintro ((h|⟨h1,h2⟩)|⟨⟨h1,h2⟩,h3⟩)
      · exact .inl h
      · exact .inr ⟨h1,.inl h2⟩
      · exact .inr ⟨h1,.inr ⟨h2,h3⟩⟩
theorem MI:∀ {u w:List Int},u.length=w.length→OM u w∨u=w∨OM w u
  | [],[],_=>.inr (.inl rfl)
  | [],b::w,h=>by simp at h
  | a::u,[],h=>by simp at h
  | a :: u,b::w,h=>by
    simp only [OM,List.cons.injEq]
    have h1:=MI (u:=u) (w:=w) (by simpa using h)
    rcases Int.lt_trichotomy a b with h2|h2|h2
    · exact .inl (.inl h2)
    · rcases h1 with h1|h1|h1
      · exact .inl (.inr ⟨h2,h1⟩)
      · exact .inr (.inl ⟨h2,h1⟩)
      · exact .inr (.inr (.inr ⟨h2.symm,h1⟩))
    · exact .inr (.inr (.inl h2))
theorem VB {u w:List Int} (h1:¬slt u w) (h2:¬slt w u):u=w:=by
  unfold slt at h1 h2
  have hl:u.length=w.length:=by omega
  rcases MI hl with h|h|h
  · exact absurd (.inr ⟨hl,h⟩) h1
  · exact h
  · exact absurd (.inr ⟨hl.symm,h⟩) h2
theorem Dr.unique {g:Gr} {r s:Option (List Int)} (hr:Dr g r) (hs:Dr g s):r=s:=by
  cases r with
  | none=>
    cases s with
    | none=>rfl
    | some w=>exact absurd hs.2.1 (hr w hs.1)
  | some v=>
    cases s with
    | none=>exact absurd hr.2.1 (hs v hr.1)
    | some w=>rw [VB (hs.2.2 v hr.1 hr.2.1) (hr.2.2 w hs.1 hs.2.1)]
theorem NZ:∀(l:List Int) (Q:Int→Prop),(∃x∈l,Q x)→∃x∈l,Q x∧∀y∈l,Q y→¬y < x
  | [],Q,h=>by obtain ⟨x,hx,_⟩:=h;cases hx
  | a :: l,Q,h=>by
    by_cases ht:∃x∈l,Q x
    · obtain ⟨x,hx,hq,hm⟩:=NZ l Q ht
      by_cases ha:Q a∧a < x
      · refine ⟨a,by simp,ha.1,fun y hy hqy=>?_⟩
        rcases List.mem_cons.1 hy with rfl|hy
        · omega
        · have:=hm y hy hqy;omega
      · refine ⟨x,by simp [hx],hq,fun y hy hqy=>?_⟩
        rcases List.mem_cons.1 hy with rfl|hy
        · exact fun hlt=>ha ⟨hqy,hlt⟩
        · exact hm y hy hqy
    · obtain ⟨x,hx,hq⟩:=h
      rcases List.mem_cons.1 hx with rfl|hx
      · refine ⟨x,by simp,hq,fun y hy hqy=>?_⟩
        rcases List.mem_cons.1 hy with rfl|hy
        · omega
        · exact absurd ⟨y,hy,hqy⟩ ht
      · exact absurd ⟨x,hx,hq⟩ ht
theorem Kr (ls:List Int):∀(n:Nat) (Q:List Int→Prop),(∃u:List Int,u.length=n∧(∀l∈u,l∈ls)∧Q u)→∃u:List Int,u.length=n∧(∀l∈u,l∈ls)∧Q u∧∀v:List Int,v.length=n→(∀l∈v,l∈ls)→Q v→¬OM v u
  | 0,Q,⟨u,h1,h2,h3⟩=>by
    have:u=[]:=List.length_eq_zero_iff.1 h1
    subst this
    exact ⟨[],rfl,h2,h3,fun v hv _ _=>by have:v=[]:=List.length_eq_zero_iff.1 hv;subst this;exact fun h=>h⟩
  | n + 1,Q,⟨u,h1,h2,h3⟩=>by
    cases u with
    | nil=>simp at h1
    | cons a u=>
      obtain ⟨x,hx,⟨u1,h4,h5,h6⟩,hm⟩:=NZ ls (fun x=>∃u:List Int,u.length=n∧(∀l∈u,l∈ls)∧Q (x::u)) ⟨a,h2 a (by simp),u,by simpa using h1,fun l hl=>h2 l (by simp [hl]),h3⟩
      obtain ⟨u2,h7,h8,h9,h10⟩:=Kr ls n (fun u=>Q (x::u)) ⟨u1,h4,h5,h6⟩
      refine ⟨x::u2,by simp [h7],fun l hl=>by rcases List.mem_cons.1 hl with rfl|hl;exact hx;exact h8 l hl,h9,fun v hv hvl hq=>?_⟩
      cases v with
      | nil=>simp at hv
      | cons b v=>
        have hb:=hm b (hvl b (by simp)) ⟨v,by simpa using hv,fun l hl=>hvl l (by simp [hl]),hq⟩
        rintro (h|⟨h,h'⟩)
        · exact hb h
        · subst h;exact h10 v (by simpa using hv) (fun l hl=>hvl l (by simp [hl])) hq h'
theorem Ke (g:Gr):∃r,Dr g r:=by
  by_cases h:∃u,over g u∧UL g u
  · have key : ∀n,(∃u,u.length≤n∧over g u∧UL g u)→∃m,(∃u,u.length=m∧over g u∧UL g u)∧∀u,over g u→UL g u→m≤u.length:=by
      intro n
      induction n with
      | zero=>
        rintro ⟨u,h1,h2,h3⟩
        exact ⟨0,⟨u,by omega,h2,h3⟩,fun _ _ _=>Nat.zero_le _⟩
      | succ n ih=>
        rintro ⟨u,h1,h2,h3⟩
        by_cases hx:∃u,u.length≤n∧over g u∧UL g u
        · exact ih hx
        · refine ⟨n+1,⟨u,?_,h2,h3⟩,fun v hv hv'=>?_⟩
          · have:¬u.length≤n:=fun h=>hx ⟨u,h,h2,h3⟩
            omega
          · have:¬v.length≤n:=fun h=>hx ⟨v,h,hv,hv'⟩
            omega
    obtain ⟨u,hu⟩:=h
    obtain ⟨m,⟨v,h1,h2,h3⟩,hm⟩:=key u.length ⟨u,Nat.le_refl _,hu⟩
    obtain ⟨w,h4,h5,h6,h7⟩:=Kr g.ls m (UL g) ⟨v,h1,h2,h3⟩
    refine ⟨some w,h5,h6,fun u hu hh=>?_⟩
    rintro (h|⟨h,h'⟩)
    · have:=hm u hu hh;omega
    · exact h7 u (by omega) hu hh h'
  · exact ⟨none,fun u hu hh=>h ⟨u,hu,hh⟩⟩
structure Zz (g:Gr) (dx:Int→Int):Prop where
  zero:∀x:Int,0≤x∧x < g.N→(dx x=0↔g.goal x=true)
  step:∀x:Int,0≤x∧x < g.N→0 < dx x→∃l∈g.ls,∃j∈g.succ x l,dx j=dx x - 1
  close:∀x:Int,0≤x∧x < g.N→∀l∈g.ls,∀j∈g.succ x l,0≤dx j→0≤dx x∧dx x≤dx j+1
structure ZP (g:Gr) (dx:Int→Int) (w:List Int) (at':List Int) (d:Int):Prop where
  ov:over g w
  ne:at'≠[]
  acc:Xv g.N at'
  mem:∀x,x∈at'↔reach g w g.s0 x∧dx x=d
  len:w.length+d=dx g.s0
  d0:0≤d
  min:∀u,over g u→u.length=w.length→OM u w→∀x,reach g u g.s0 x→dx x≠d
def Nk (w:List Int):List UInt8:=w.map fun l=>UInt8.ofNat (97+l.toNat)
end Go.Am
namespace Go.Am
open Go Go.Proofs
set_option maxHeartbeats 1000000
attribute [local irreducible] AR BZ Lex Bm Aj Spec
variable {TB:Ba}
theorem Kt (s:Int) (k:Nat):(AA s k).Pairwise (· < ·):=by
  unfold AA
  rw [List.pairwise_map]
  refine (List.pairwise_lt_range.filter _).imp fun {a b} h=>?_
  show ((a:Nat):Int) < ((b:Nat):Int)
  omega
theorem WA {l:List Int} (h:l.Pairwise (· < ·)) {i j:Nat} {a b:Int} (hi:l[i]? = some a) (hj:l[j]? = some b) (hab:a < b):i < j:=by
  obtain ⟨h1,rfl⟩:=List.getElem?_eq_some_iff.1 hi
  obtain ⟨h2,rfl⟩:=List.getElem?_eq_some_iff.1 hj
  rw [List.pairwise_iff_getElem] at h
  rcases Nat.lt_trichotomy i j with h3|h3|h3
  · exact h3
  · subst h3;omega
  · have:=h j i h2 h1 h3;omega
abbrev Y0 (r:Option (List Int)):List UInt8:=(r.map Nk).getD []
abbrev Y7 (r:Option (List Int)):E:=.t [(false,[.d (tD (Y0 r))]),(false,[.d (bD r.isSome)])]
noncomputable def XG (g:Gr):Option (List Int):=Classical.choose (Ke g)
theorem XH (g:Gr):Dr g (XG g):=Classical.choose_spec (Ke g)
theorem UM {a b:Nat} (ha:a < 64) (hb:b < 64):Ri .i64 a b=((a ||| b:Nat):Int)∧a ||| b < 64:=by
  have h0:a ||| b < 64:=Nat.or_lt_two_pow (n:=6) ha hb
  refine ⟨?_,h0⟩
  unfold Ri
  have h1:(BitVec.ofInt IntKind.i64.bits (a:Int) ||| BitVec.ofInt IntKind.i64.bits (b:Int)).toNat=a ||| b:=by
    have e:IntKind.i64.bits=64:=rfl
    rw [e]
    simp only [BitVec.toNat_or,BitVec.ofInt_natCast,BitVec.toNat_ofNat]
    rw [Nat.mod_eq_of_lt (by omega),Nat.mod_eq_of_lt (by omega)]
  rw [h1]
  exact IntWalk.i64_in _ (by omega)
end Go.Am
namespace Go.Am
open Go
def Bs:List Int→Nat
  | []=>0
  | x::l=>2 ^ x.toNat+Bs l
theorem KV:∀(l m:List Int),Bs (l++m)=Bs l+Bs m
  | [],m=>by simp [Bs]
  | x::l,m=>by simp [Bs,KV l m,Nat.add_assoc]
theorem JT:∀ {l:List Int} {t:Nat},l.Pairwise (· < ·)→(∀x∈l,0≤x∧x < t)→Bs l < 2 ^ t
  | [],t,_,_=>Nat.two_pow_pos t
  | x :: l,t,hp,h=>by
    have key:∀(l:List Int) (a t:Nat),(∀x∈l,(a:Int)≤x∧x < t)→l.Pairwise (· < ·)→a≤t→2 ^ a+Bs l≤2 ^ t:=by
      intro l
      induction l with
      | nil=>intro a t _ _ hat;simpa [Bs] using Nat.pow_le_pow_right (by omega) hat
      | cons y l ih=>
        intro a t h hp hat
        have hy:=h y (by simp)
        have hp2:=List.pairwise_cons.1 hp
        have h1:=ih (y.toNat+1) t (fun x hx=>by have:=hp2.1 x hx;have:=h x (by simp [hx]);omega) hp2.2 (by omega)
        have h2:2 ^ a≤2 ^ y.toNat:=Nat.pow_le_pow_right (by omega) (by omega)
        rw [Nat.pow_succ] at h1
        simp only [Bs];omega
    have hx:=h x (by simp)
    have hp2:=List.pairwise_cons.1 hp
    have h1:=key l (x.toNat+1) t (fun y hy=>by have:=hp2.1 y hy;have:=h y (by simp [hy]);omega) hp2.2 (by omega)
    rw [Nat.pow_succ] at h1
    simp only [Bs]
    have:=Nat.two_pow_pos x.toNat
    omega
theorem Vx {l:List Int} {t:Nat} (hp:l.Pairwise (· < ·)) (h:∀x∈l,0≤x∧x < t):Bs l ||| 2 ^ t=Bs (l++[(t:Int)]):=by
  have h1:=JT hp h
  rw [KV]
  have h2:=Nat.two_pow_add_eq_or_of_lt h1 1
  simp only [Nat.mul_one] at h2
  rw [Nat.or_comm,←h2]
  simp [Bs];omega
theorem Ny:∀(k m:Nat),(2 ^ k*(2*m+1)) &&& (2 ^ k*(2*m+1) - 1)=2 ^ k*(2*m)
  | 0, m=>by
    apply Nat.eq_of_testBit_eq
    intro i
    cases i with
    | zero=>simp
    | succ i=>
      simp only [Nat.pow_zero,Nat.one_mul,Nat.add_sub_cancel]
      have h1:(2*m+1) / 2=m:=by omega
      have h2:2*m / 2=m:=by omega
      rw [Nat.testBit_and,Nat.testBit_succ,Nat.testBit_succ,h1,h2];simp
  | k + 1,m=>by
    have ih:=Ny k m
    have hp:0 < 2 ^ k*(2*m+1):=Nat.mul_pos (Nat.two_pow_pos k) (by omega)
    have e1:2 ^ (k+1)*(2*m+1)=2*(2 ^ k*(2*m+1)):=by rw [Nat.pow_succ,Nat.mul_comm (2 ^ k) 2,Nat.mul_assoc]
    have e2:2 ^ (k+1)*(2*m)=2*(2 ^ k*(2*m)):=by rw [Nat.pow_succ,Nat.mul_comm (2 ^ k) 2,Nat.mul_assoc]
    rw [e1,e2,←ih]
    generalize 2 ^ k*(2*m+1)=a at hp
    apply Nat.eq_of_testBit_eq
    intro i
    cases i with
    | zero=>simp
    | succ i=>
      have h1:2*a / 2=a:=by omega
      have h2:(2*a - 1) / 2=a - 1:=by omega
      have h3:2*(a &&& (a - 1)) / 2=a &&& (a - 1):=by omega
      rw [Nat.testBit_and,Nat.testBit_succ,Nat.testBit_succ,Nat.testBit_succ,h1,h2,h3,Nat.testBit_and]
theorem KY:∀ {l:List Int} {k:Nat},l.Pairwise (· < ·)→(∀x∈l,(k:Int) < x)→∃m,Bs l=2 ^ k*(2*m)
  | [],k,_,_=>⟨0,by simp [Bs]⟩
  | x :: l,k,hp,h=>by
    have hp2:=List.pairwise_cons.1 hp
    have hx:=h x (by simp)
    obtain ⟨m,hm⟩:=KY (l:=l) (k:=k) hp2.2 fun y hy=>by have:=hp2.1 y hy;omega
    refine ⟨2 ^ (x.toNat - k - 1)+m,?_⟩
    have e:x.toNat=k+(1+(x.toNat - k - 1)):=by omega
    have:2 ^ x.toNat=2 ^ k*(2*2 ^ (x.toNat - k - 1)):=by
      conv=>lhs;rw [e,Nat.pow_add,Nat.pow_add]
    simp only [Bs,hm,this,←Nat.mul_add]
theorem I7 {x:Int} {l:List Int} (hp:(x::l).Pairwise (· < ·)) (h0:0≤x):∃m,Bs (x::l)=2 ^ x.toNat*(2*m+1)∧Bs l=2 ^ x.toNat*(2*m):=by
  have hp2:=List.pairwise_cons.1 hp
  obtain ⟨m,hm⟩:=KY (l:=l) (k:=x.toNat) hp2.2 fun y hy=>by have:=hp2.1 y hy;omega
  exact ⟨m,by simp only [Bs,hm];rw [Nat.mul_add];omega,hm⟩
theorem RJ {x:Int} {l:List Int} (hp:(x::l).Pairwise (· < ·)) (h0:0≤x):Bs (x::l) &&& (Bs (x::l) - 1)=Bs l:=by
  obtain ⟨m,h1,h2⟩:=I7 hp h0
  rw [h1,h2,Ny]
theorem KX {x:Int} {l:List Int}:0 < Bs (x::l):=by
  simp only [Bs];have:=Nat.two_pow_pos x.toNat;omega
theorem Ub {x:Int} {l:List Int} (hp:(x::l).Pairwise (· < ·)) (h0:0≤x) (hlt:Bs (x::l) < 2 ^ 64):Lib.ctz 64 (Bs (x::l))=x.toNat:=by
  obtain ⟨m,h1,_⟩:=I7 hp h0
  have h2:=Lib.lowest_bit 64 _ (by have:=KX (x:=x) (l:=l);omega) hlt
  have h3:=Lib.and_neg 64 x.toNat m (by rw [←h1];exact hlt)
  rw [←h1,h2.1] at h3
  exact (Nat.pow_right_inj (by omega)).1 h3
end Go.Am
namespace Go.Am
open Go Go.Proofs
set_option maxHeartbeats 1000000
attribute [local irreducible] AR BZ Lex Bm Aj Spec
variable {TB:Ba}
theorem VF (i:Nat) (h:i < 64):A7[i]? = some (.int .u8 (Lib.deBruijn64tab.getD i 0:Nat)):=by
  have e:A7=Lib.deBruijn64tab.map fun n=>Value.int .u8 (n:Nat):=rfl
  have hl:Lib.deBruijn64tab.length=64:=rfl
  rw [e,List.getElem?_map,List.getElem?_eq_getElem (by omega)]
  simp [List.getD,hl,h]
theorem Xh (x a:Nat) (hx:x < 18446744073709551616) (hx0:x≠0) (hlow:x &&& (18446744073709551616 - x)=a) :
    (IntKind.u64.wrap (DC .u64 (x:Int) (IntKind.u64.wrap (-(x:Int)))*285870213051353865)).fdiv (2 ^ (min (58:Int).toNat IntKind.u64.bits))=((a*285870213051353865 % 18446744073709551616 / 288230376151711744:Nat):Int):=by
  have w64:∀n:Int,IntKind.u64.wrap n=n % 18446744073709551616:=fun n=>by simp [IntKind.wrap,IntKind.signed,IntKind.bits]
  have e1:IntKind.u64.wrap (-(x:Int))=((18446744073709551616 - x:Nat):Int):=by rw [w64];omega
  have e2:DC .u64 (x:Int) ((18446744073709551616 - x:Nat):Int)=(a:Int):=by
    unfold DC
    have e:IntKind.u64.bits=64:=rfl
    rw [e]
    have h1:(BitVec.ofInt 64 (x:Int) &&& BitVec.ofInt 64 ((18446744073709551616 - x:Nat):Int)).toNat=a:=by
      simp only [BitVec.toNat_and,BitVec.ofInt_natCast,BitVec.toNat_ofNat]
      rw [Nat.mod_eq_of_lt (by omega),Nat.mod_eq_of_lt (by omega),hlow]
    rw [h1,w64]
    have h2:a≤x:=by rw [←hlow];exact Nat.and_le_left
    omega
  rw [e1,e2,w64]
  have e3:(2:Int) ^ (min (58:Int).toNat IntKind.u64.bits)=288230376151711744:=rfl
  rw [e3,Int.fdiv_eq_ediv_of_nonneg _ (by omega)]
  omega
theorem VI [DT TB] (x:Nat) (hx0:x≠0) (hx:x < 18446744073709551616):Pure Tryz.prog TB 209 [eI .u64 x] (eI .i64 (Lib.ctz 64 x)):=by
  obtain ⟨hlow,hk⟩:=Lib.lowest_bit 64 x hx0 hx
  obtain ⟨hi,htab⟩:=Lib.deBruijn64_at _ hk
  have hkey:=Xh x _ hx hx0 hlow
  have htv:=VF _ hi
  rw [htab] at htv
  generalize Lib.ctz 64 x=cz at *
  generalize 2 ^ cz*285870213051353865 % 18446744073709551616 / 288230376151711744=idx at *
  refine eN Tryz.func209 rfl (by kernel_rfl) rfl ?_;intro Γ hΓ
  (repeat' first|(refine sA rfl ?_ ?_;first|exact tI|omega) |refine s2 rfl fun _ _hb=>?_|(refine Ag rfl ?_;refine gA rfl ?_;first| refine gS (fun _ _=>Ok rfl rfl) ?_|refine gS (fun _ _=>VU rfl rfl rfl) ?_) |refine aU rfl ?_ |refine Aa ?_|(refine aC rfl ?_ ?_<;>rintro ⟨⟩)|refine aK ?_|refine aE ?_|refine aB ?_|refine aR ⟨_,rfl,?_⟩)
  · exfalso;(simp only[oZ] at *;omega)
  rw [hkey]
  clear hkey hlow htab
  (repeat' first|(refine sA rfl ?_ ?_;first|exact tI|omega)|(refine Ag rfl ?_;refine gA rfl ?_;first| refine gS (fun _ _=>TD (v:=.int .u8 ((cz:Nat):Int)) rfl (by omega) (by omega) (by rw [Int.toNat_natCast];exact htv)) ?_) |refine Aa ?_|(refine aC rfl ?_ ?_<;>rintro ⟨⟩)|refine aK ?_|refine aE ?_|refine aB ?_|refine aR ⟨_,rfl,?_⟩)
  rfl
theorem YI [DT TB] (x:Nat) (hx0:x≠0) (hx:x < 18446744073709551616):Pure Tryz.prog TB 207 [eI .u64 x] (eI .i64 (Lib.ctz 64 x)):=by
  refine eN Tryz.func207 rfl (by kernel_rfl) rfl ?_;intro Γ hΓ
  (repeat' first|refine tA rfl ?_ |refine sP rfl (VI x hx0 hx) rfl ?_ |refine aU rfl ?_ |refine Aa ?_|(refine aC rfl ?_ ?_<;>rintro ⟨⟩)|refine aK ?_|refine aE ?_|refine aB ?_|refine aR ⟨_,rfl,?_⟩)
  all_goals rfl
theorem Rh {x:Int} {l:List Int} (hp:(x::l).Pairwise (· < ·)) (h0:0≤x) (hlt:Bs (x::l) < 2 ^ 62):DC .i64 (Bs (x::l):Nat) ((Bs (x::l):Nat) - 1)=(Bs l:Nat):=by
  have h1:=RJ hp h0
  have h2:=KX (x:=x) (l:=l)
  have h3:Bs l≤Bs (x::l):=Nat.le_add_left _ _
  generalize Bs (x::l)=a at *
  have e1:((a:Nat):Int) - 1=((a - 1:Nat):Int):=by omega
  rw [e1]
  unfold DC
  have e:IntKind.i64.bits=64:=rfl
  rw [e]
  have h4:(BitVec.ofInt 64 (a:Int) &&& BitVec.ofInt 64 ((a - 1:Nat):Int)).toNat=Bs l:=by
    simp only [BitVec.toNat_and,BitVec.ofInt_natCast,BitVec.toNat_ofNat]
    rw [Nat.mod_eq_of_lt (by omega),Nat.mod_eq_of_lt (by omega),h1]
  rw [h4]
  exact IntWalk.i64_in _ (by omega)
theorem MZ (r:Nat→Nat):∀ds:List D,C.BE r (ds.map .d)=ds.map .d
  | []=>rfl
  | d::l=>by simp [C.BE,C.AO,MZ r l]
def K5 (es:List Dp) (f l:Nat):List Int:=(es.filter fun e:Dp=>decide (e.f=(f:Int)) && decide (e.l=(l:Int))).map (·.t)
def Ei (es:List Dp):List D:=(List.range 96).map fun i=>iD (Bs (K5 es (i / 6) (i % 6)):Nat)
theorem GC {es:List Dp} {i:Nat} (h:i < 96):(Ei es)[i]? = some (iD (Bs (K5 es (i / 6) (i % 6)):Nat)):=by simp [Ei,h]
theorem QQ (es:List Dp) (e:Dp) (f l:Nat):K5 (es++[e]) f l=K5 es f l++if e.f=(f:Int)∧e.l=(l:Int) then [e.t] else []:=by
  simp only [K5,List.filter_append,List.map_append,List.filter_cons,List.filter_nil]
  grind
theorem Fx {r:List C} {j:Nat} {c:C} (h:j < r.length):Ae r j [c]=r.set j c:=by
  unfold Ae
  rw [List.set_eq_take_append_cons_drop,if_pos h]
  simp
theorem Pq {es:List Dp} {e:Dp} {v:Int} (h0:0≤e.f∧e.f < 16) (h1:0≤e.l∧e.l < 6) (hv:v=(Bs (K5 (es++[e]) e.f.toNat e.l.toNat):Nat)) :
    Ae ((Ei es).map .d) (0+e.f.toNat*6+e.l.toNat*1) (eC (eI .i64 v))=(Ei (es++[e])).map .d:=by
  have hj:0+e.f.toNat*6+e.l.toNat*1 < 96:=by omega
  have:eC (eI .i64 v)=[C.d (iD v)]:=rfl
  rw [this,Fx (by simp [Ei];omega),←List.map_set]
  congr 1
  apply List.ext_getElem?
  intro i
  by_cases hi:i < 96
  · rw [GC hi]
    by_cases hij:0+e.f.toNat*6+e.l.toNat*1=i
    · subst hij
      rw [List.getElem?_set_self (by simp [Ei];omega),hv]
      have e1:(0+e.f.toNat*6+e.l.toNat*1) / 6=e.f.toNat:=by omega
      have e2:(0+e.f.toNat*6+e.l.toNat*1) % 6=e.l.toNat:=by omega
      rw [e1,e2]
    · rw [List.getElem?_set_ne hij,GC hi,QQ,if_neg (by omega),List.append_nil]
  · rw [List.getElem?_eq_none (by simp [Ei];omega),List.getElem?_eq_none (by simp [Ei];omega)]
theorem Ep {s:Sys} (h:BB s=true) (k f l:Nat):(K5 (s.es.take k) f l).Pairwise (· < ·):=by
  unfold K5
  rw [List.pairwise_map]
  refine List.Pairwise.imp_of_mem (fun {a b} ha hb hab=>?_) (((Nh h).sublist (List.take_sublist k s.es)).filter _)
  have h1:=(List.mem_filter.1 ha).2
  have h2:=(List.mem_filter.1 hb).2
  unfold HC at hab
  grind
theorem K6 {s:Sys} (h:BB s=true) {k f l:Nat} {x:Int} (hx:x∈K5 (s.es.take k) f l):0≤x∧x < 16:=by
  unfold K5 at hx
  obtain ⟨e,he,rfl⟩:=List.mem_map.1 hx
  have h2:=Cz h (List.mem_of_mem_take (List.mem_filter.1 he).1)
  have h3:=B2 h
  unfold CO at h2
  grind
theorem UN {a t:Nat} (ha:a < 2 ^ 16) (ht:t < 16):Ri .i64 (a:Nat) ((2 ^ t:Nat):Int)=((a ||| 2 ^ t:Nat):Int):=by
  have h2:2 ^ t < 2 ^ 16:=Nat.pow_lt_pow_right (by omega) ht
  have h0:a ||| 2 ^ t < 2 ^ 16:=Nat.or_lt_two_pow ha h2
  unfold Ri
  have h1:(BitVec.ofInt IntKind.i64.bits (a:Int) ||| BitVec.ofInt IntKind.i64.bits ((2 ^ t:Nat):Int)).toNat=a ||| 2 ^ t:=by
    have e:IntKind.i64.bits=64:=rfl
    rw [e]
    simp only [BitVec.toNat_or,BitVec.ofInt_natCast,BitVec.toNat_ofNat]
    rw [Nat.mod_eq_of_lt (by omega),Nat.mod_eq_of_lt (by omega)]
  rw [h1]
  exact IntWalk.i64_in _ (by omega)
theorem QG {t:Int} (h0:0≤t) (h1:t < 16):IntKind.i64.wrap (1*2 ^ (min t.toNat IntKind.i64.bits))=((2 ^ t.toNat:Nat):Int):=by
  have e:min t.toNat IntKind.i64.bits=t.toNat:=by
    have:IntKind.i64.bits=64:=rfl
    omega
  rw [e,Int.one_mul]
  have h2:2 ^ t.toNat < 2 ^ 16:=Nat.pow_lt_pow_right (by omega) (by omega)
  have h3:(2:Int) ^ t.toNat=((2 ^ t.toNat:Nat):Int):=by push_cast;rfl
  rw [h3]
  generalize 2 ^ t.toNat=p at *
  exact IntWalk.i64_in _ (by omega)
theorem Pp (s:Sys) (h:BB s=true):Pure Tryz.prog TB 135 [CN s] (.o (.ip (Ei s.es))):=by
  refine eN Tryz.func135 rfl (by kernel_rfl) rfl ?_;intro Γ hΓ
  (repeat first|refine sN rfl ?_ |refine tA rfl ?_ |refine aU rfl ?_ |refine Aa ?_)
  refine Aj.bound 8 rfl fun hB0=>?_
  have hB:=hB0 (s.es.map CS) .refl
  refine aB ?_
  refine Aj.BO (α:={k:Nat // k≤s.es.length}) (fun ⟨k,hk⟩=>[(3,.o (.ptr 0 96 0 0)),(8,XR s.es),(9,eI .i64 s.es.length),(10,eI .i64 k)]) (fun ⟨k,hk⟩=>[(0,.cells 185 96 [(Ei (s.es.take k)).map .d])]) 1 (fun ⟨k,hk⟩=>s.es.length - k) (⟨0,by omega⟩) [0] (Hw hΓ rfl rfl) (by (repeat' first|exact tI|rfl|refine And.intro ?_ ?_)) ?_;rintro ⟨k,hk⟩;(try dsimp only)
  (repeat first|refine s2 rfl fun _ _hb=>?_ |refine aU rfl ?_ |refine Aa ?_)
  (refine aC rfl ?_ ?_<;>rintro ⟨⟩)
  · obtain ⟨e,he⟩:=get_some (l:=s.es) (k:=k) (by (simp only[oZ] at *;omega))
    have he':=get_map (g:=CS) he
    have heo:=Cz h (List.mem_of_getElem? he)
    have hh:=B2 h
    unfold CO at heo
    simp only [Bool.and_eq_true,decide_eq_true_eq] at heo
    obtain ⟨⟨hf0,hf1,ht0,ht1,hl0,hl1⟩,hbit⟩:=heo
    have hj96:0+e.f.toNat*6+e.l.toNat*1+1≤96:=by omega
    have hshl:=QG ht0 (by omega)
    have htk:s.es.take (k+1)=s.es.take k++[e]:=by rw [List.take_add_one,he];rfl
    have hap:K5 (s.es.take (k+1)) e.f.toNat e.l.toNat=K5 (s.es.take k) e.f.toNat e.l.toNat++[e.t]:=by
      rw [htk,QQ,if_pos (by omega)]
    have hbnd:∀x∈K5 (s.es.take k) e.f.toNat e.l.toNat,0≤x∧x < e.t.toNat:=by
      intro x hx
      have h1:=Ep h (k+1) e.f.toNat e.l.toNat
      rw [hap,List.pairwise_append] at h1
      have h2:=h1.2.2 x hx e.t (by simp)
      have h3:=K6 h hx
      omega
    have hor1:=Vx (Ep h k e.f.toNat e.l.toNat) hbnd
    have hlt:=JT (t:=16) (Ep h k e.f.toNat e.l.toNat) fun x hx=>K6 h hx
    have hor:=UN hlt (t:=e.t.toNat) (by omega)
    have et:((e.t.toNat:Nat):Int)=e.t:=by omega
    rw [hor1,et,←hap,htk] at hor
    have hstep:=Pq (es:=s.es.take k) (e:=e) ⟨hf0,by omega⟩ ⟨hl0,hl1⟩ rfl
    rw [←hor] at hstep
    have hld:((Ei (s.es.take k)).map C.d)[0+e.f.toNat*6+e.l.toNat*1]? = some (.d (iD (Bs (K5 (s.es.take k) e.f.toNat e.l.toNat):Nat))):=by
      have e1:(0+e.f.toNat*6+e.l.toNat*1) / 6=e.f.toNat:=by omega
      have e2:(0+e.f.toNat*6+e.l.toNat*1) % 6=e.l.toNat:=by omega
      rw [List.getElem?_map,GC (by omega),e1,e2];rfl
    refine aK ?_
    refine aS (aB ?_)
    (repeat first|refine tA rfl ?_ |(refine s4 rfl ‹_› rfl ?_ ?_;omega) |refine aU rfl ?_ |refine Aa ?_)
    refine rG (Hf [16]) (by kernel_rfl) ?_
    (repeat first|(refine sA rfl ?_ ?_;first|exact tI|omega)|(refine Ag rfl ?_;refine gA rfl ?_;first| refine gS (fun _ _=>TS rfl rfl (by omega) hshl) ?_|refine gQ (MV rfl rfl rfl hld) (by rfl) ?_))
    (refine Ag rfl ?_;refine FD ?_ rfl (by rfl);refine Df rfl rfl rfl rfl (rfl) rfl (hj96) ?_)
    (repeat first|(refine sA rfl ?_ ?_;first|exact tI|simp only[oZ] at *;omega) |refine aU rfl ?_ |refine Aa ?_)
    refine ⟨⟨k+1,by (simp only[oZ] at *;omega)⟩,by dsimp only;((simp only[oZ] at *;omega)),[0],?_⟩
    rw [hstep,←htk]
    simp[cX,zC,hΓ,List.set_cons_zero,MZ]
  · obtain rfl:k=s.es.length:=by (simp only[oZ] at *;omega)
    refine aE ?_
    rw [List.take_length]
    (repeat first|refine tM rfl ?_ |refine aU rfl ?_ |refine Aa ?_)
    refine Aj.freeze [0] [(2,.o (.ip (Ei s.es)))] ⟨⟨_,rfl,.o (.ptr (by simp) rfl rfl rfl)⟩,trivial⟩ ?_
    refine aR ⟨_,rfl,rfl⟩
def KR (h:Nat→Int):List C:=(List.range 6).map fun l=>.d (iD (h l))
def Pw (h:Nat→Int):List D:=(List.range 6).map fun l=>iD (h l)
theorem T6 (h:Nat→Int):KR h=(Pw h).map .d:=by simp [KR,Pw]
def Bh {α:Type} (n:Nat) (g:Nat→α):List α:=(List.range n).map g
theorem CE {α:Type} {n q:Nat} {g:Nat→α} (h:q < n):(Bh n g)[q]? = some (g q):=by simp [Bh,h]
theorem IY {α:Type} {n q:Nat} {g:Nat→α} {x:α}:(Bh n g).set q x=Bh n fun i=>if i=q then x else g i:=by
  apply List.ext_getElem?
  intro i
  by_cases hi:i < n
  · rw [CE hi]
    by_cases hq:q=i
    · subst hq;rw [List.getElem?_set_self (by simp [Bh,hi])];simp
    · rw [List.getElem?_set_ne hq,CE hi,if_neg (Ne.symm hq)]
  · rw [List.getElem?_eq_none (by simp [Bh];omega),List.getElem?_eq_none (by simp [Bh];omega)]
theorem Ce {α:Type} {n:Nat} {g g':Nat→α} (h:∀i,i < n→g i=g' i):Bh n g=Bh n g':=by
  unfold Bh
  exact List.map_congr_left fun i hi=>h i (List.mem_range.1 hi)
theorem T7 {h:Nat→Int} {l:Nat} {v:Int} (hl:l < 6):Ae (KR h) (0+l*1) (eC (eI .i64 v))=KR fun x=>if x=l then v else h x:=by
  have e:eC (eI .i64 v)=[C.d (iD v)]:=rfl
  rw [e,Fx (by simp [KR];omega)]
  have:=IY (n:=6) (q:=l) (g:=fun l=>C.d (iD (h l))) (x:=C.d (iD v))
  have e1:0+l*1=l:=by omega
  rw [e1]
  refine Eq.trans this (Ce fun i _=>?_)
  by_cases e:i=l<;>simp [e]
theorem Hn {h h':Nat→Int} (hh:∀l,l < 6→h l=h' l):KR h=KR h':=Ce fun i hi=>by rw [hh i hi]
theorem GW (s:Int):∀(n k:Nat),k≤n→AA s k <+: AA s n
  | 0, k, h => by have:k=0:=by omega
                  subst this;exact List.prefix_refl _
  | n + 1,k,h=>by
    rcases Nat.lt_or_ge k (n+1) with h1|h1
    · rw [B8]
      exact (GW s n k (by omega)).trans (List.prefix_append _ _)
    · have:k=n+1:=by omega
      subst this;exact List.prefix_refl _
theorem GX {s:Int} {k n:Nat} {l:Int} (h:(AA s n)[k]? = some l):(AA s l.toNat).length=k:=by
  have h1:=Bg (List.mem_of_getElem? h)
  have h2:(AA s (l.toNat+1))[(AA s l.toNat).length]? = some l:=by
    rw [B8,if_pos h1.2.2,List.getElem?_append_right (Nat.le_refl _)]
    simp;omega
  have h3:(AA s n)[(AA s l.toNat).length]? = some l:=by
    obtain ⟨t,ht⟩:=GW s n (l.toNat+1) (by omega)
    rw [←ht,List.getElem?_append_left (List.getElem?_eq_some_iff.1 h2).1];exact h2
  have hp:=Kt s n
  rw [List.pairwise_iff_getElem] at hp
  obtain ⟨a1,a2⟩:=List.getElem?_eq_some_iff.1 h
  obtain ⟨b1,b2⟩:=List.getElem?_eq_some_iff.1 h3
  rcases Nat.lt_trichotomy (AA s l.toNat).length k with h4|h4|h4
  · have:=hp _ _ b1 a1 h4;omega
  · exact h4
  · have:=hp _ _ a1 b1 h4;omega
theorem EI {s:Int} {n l:Nat}:(l:Int)∈AA s n↔l < n∧DK s l=true:=by
  unfold AA
  simp only [List.mem_map,List.mem_filter,List.mem_range]
  constructor
  · rintro ⟨a,ha,e⟩
    have:a=l:=by have e:((a:Nat):Int)=l:=e;omega
    subst this;exact ha
  · intro h;exact ⟨l,h,rfl⟩
def Lc (n:Nat) (H:Nat→Nat→Int):List (List C):=Bh n fun i=>KR (H i)
theorem GM (r:Nat→Nat) (n:Nat) (H:Nat→Nat→Int):(Lc n H).map (C.BE r)=Lc n H:=by
  unfold Lc Bh
  rw [List.map_map]
  exact List.map_congr_left fun i _=>by simp only [Function.comp_def,T6,MZ]
theorem Uh (n:Nat):Lc n (fun _ _=>0)=List.replicate n [C.d (D.v (Value.int IntKind.i64 0)),C.d (D.v (Value.int IntKind.i64 0)),C.d (D.v (Value.int IntKind.i64 0)),C.d (D.v (Value.int IntKind.i64 0)),C.d (D.v (Value.int IntKind.i64 0)),C.d (D.v (Value.int IntKind.i64 0))]:=by
  unfold Lc Bh
  rw [List.map_const'];simp;exact .inr rfl
theorem QM {n q:Nat} {H:Nat→Nat→Int} (h:q < n):(Lc n H)[0+((q:Nat):Int).toNat]? = some (KR (H q)):=by
  rw [Nat.zero_add,Int.toNat_natCast];exact CE (g:=fun i=>KR (H i)) h
theorem QN {n q l:Nat} {v:Int} {H:Nat→Nat→Int} (hl:l < 6):(Lc n H).set (0+((q:Nat):Int).toNat) (Ae (KR (H q)) (0+((l:Nat):Int).toNat*1) (eC (eI .i64 v)))=Lc n fun i x=>if i=q∧x=l then v else H i x:=by
  rw [Nat.zero_add,Int.toNat_natCast,Int.toNat_natCast,T7 hl]
  unfold Lc
  rw [IY]
  refine Ce fun i _=>?_
  by_cases e:i=q
  · subst e;rw [if_pos rfl];exact Hn fun l _=>by simp
  · rw [if_neg e];exact Hn fun l _=>by simp [e]
theorem Fb {n:Nat} {H H':Nat→Nat→Int} (h:∀i,i < n→∀l,l < 6→H i l=H' i l):Lc n H=Lc n H':=Ce fun i hi=>Hn fun l hl=>h i hi l hl
theorem VG (n:Nat) (H:Nat→Nat→Int):(Lc n H).length=n:=by simp [Lc,Bh]
def Lu (a:B6):List (List D):=Bh a.nx.length fun q=>Pw fun l=>C7 a q l
theorem YG (a:B6):Lc a.nx.length (fun i l=>C7 a i l)=(Lu a).map fun r=>r.map .d:=by
  unfold Lc Lu Bh
  rw [List.map_map]
  exact List.map_congr_left fun i _=>by simp only [Function.comp_def,T6]
def Xw (a:B6):Prop:=a.nx.length≤64∧∀q,q < a.nx.length→∃row:List Int,a.nx[q]? = some row∧row.length=(Af a.al).length∧∀(k:Nat) y,row[k]? = some y→0≤y∧y < a.nx.length
theorem UF {a:B6} (h:A6 a=true):Xw a:=⟨by have:=AT h;omega,fun q hq=>Gs h hq⟩
theorem OD (a:B6) (h:Xw a):Pure Tryz.prog TB 83 [BC a] (.o (.d (.l (Lu a)))):=by
  have hh:=h.1
  have hll:(Af a.al).length≤6:=AI a.al 6
  refine eN Tryz.func83 rfl (by kernel_rfl) rfl ?_;intro Γ hΓ
  (repeat first|refine aU rfl ?_)
  (refine Ag rfl ?_;refine Di (fun _ _=>Ek rfl rfl rfl) rfl ?_)
  (refine Ag rfl ?_;refine Di (fun _ _=>KG rfl) rfl ?_)
  (repeat first|refine sN rfl ?_ |refine tM rfl ?_ |refine aU rfl ?_ |refine Aa ?_)
  (refine pW rfl ?_ rfl (by rfl);refine Kv rfl rfl (by rfl) (by rfl) (Nat.le_of_ble_eq_true rfl) (by omega) (by omega) (by omega) ?_)
  (repeat first|refine sN rfl ?_ |refine tM rfl ?_ |refine sP rfl (De a.al) rfl ?_ |refine aU rfl ?_ |refine Aa ?_)
  refine aB ?_
  refine Aj.BO (α:={q:Nat // q≤a.nx.length}) (fun ⟨q,hq⟩=>[(1,.o (.ip (BF a))),(3,.o (.arr 0 6 0 a.nx.length)),(4,AW (Af a.al)),(18,Kd a.nx),(19,eI .i64 a.nx.length),(20,eI .i64 q)]) (fun ⟨q,hq⟩=>[(0,.cells 96 6 (Lc a.nx.length fun i l=>if i < q then C7 a i l else 0))]) 1 (fun ⟨q,hq⟩=>a.nx.length - q) (⟨0,by omega⟩) [0] (Hw hΓ rfl rfl) (by (simp[cX,zC,hΓ,GM,Uh])) ?_;rintro ⟨q,hq⟩;(try dsimp only)
  (repeat first|refine s2 rfl fun _ _hb=>?_ |refine aU rfl ?_ |refine Aa ?_)
  (refine aC rfl ?_ ?_<;>rintro ⟨⟩)
  · have hqn : q < a.nx.length:=by (simp only[oZ] at *;omega)
    obtain ⟨row,hr,hrl,hrx⟩:=h.2 q hqn
    have hr':=get_map (g:=FY) hr
    refine aK ?_
    refine aS (aB ?_)
    (repeat first|refine tM rfl ?_ |(refine s4 rfl ‹_› rfl ?_ ?_;omega) |refine aU rfl ?_ |refine Aa ?_)
    refine aB ?_
    refine Aj.BO (α:={m:Nat // m≤6}) (fun ⟨m,hm⟩=>[(1,.o (.ip (BF a))),(3,.o (.arr 0 6 0 a.nx.length)),(4,AW (Af a.al)),(18,Kd a.nx),(19,eI .i64 a.nx.length),(20,eI .i64 q),(5,eI .i64 q),(6,AW row),(25,eI .i64 m)]) (fun ⟨m,hm⟩=>[(0,.cells 96 6 (Lc a.nx.length fun i l=>if i < q then C7 a i l else if i=q∧l < m then q else 0))]) 1 (fun ⟨m,hm⟩=>6 - m) (⟨0,by omega⟩) [0] (Hw hΓ rfl rfl) (by (simp[cX,zC,hΓ,GM])) ?_;rintro ⟨m,hm⟩;(try dsimp only)
    (repeat first|refine s2 rfl fun _ _hb=>?_ |refine aU rfl ?_ |refine Aa ?_)
    (refine aC rfl ?_ ?_<;>rintro ⟨⟩)
    · have hm6:m < 6:=by (simp only[oZ] at *;omega)
      have hmj:0+((m:Nat):Int).toNat*1+1≤6:=by omega
      have hg:=QM (H:=fun i l=>if i < q then C7 a i l else if i=q∧l < m then q else 0) hqn
      have hs:=QN (n:=a.nx.length) (q:=q) (v:=q) (H:=fun i l=>if i < q then C7 a i l else if i=q∧l < m then q else 0) hm6
      have hc:(Lc a.nx.length fun (i x:Nat)=>if i=q∧x=m then (q:Int) else (fun (i l:Nat)=>if i < q then C7 a i l else if i=q∧l < m then (q:Int) else 0) i x)=Lc a.nx.length fun i l=>if i < q then C7 a i l else if i=q∧l < m+1 then (q:Int) else 0:=Fb fun i _ l _=>by dsimp only;grind
      refine aK ?_
      refine aS (aB ?_)
      (repeat first|(refine sM rfl ?_ ?_;first|exact tI|omega) |refine aU rfl ?_ |refine Aa ?_)
      (refine Ag rfl ?_;refine FD ?_ rfl (by rfl);refine Df rfl rfl rfl rfl (hg) rfl (hmj) ?_)
      (repeat first|(refine sM rfl ?_ ?_;first|exact tI|omega) |refine aU rfl ?_ |refine Aa ?_)
      refine ⟨⟨m+1,by omega⟩,by dsimp only;(omega),[0],?_⟩
      rw [hs,hc]
      simp[cX,zC,hΓ,GM]
    · obtain rfl:m=6:=by (simp only[oZ] at *;omega)
      have hc0:=Fb (n:=a.nx.length) (H:=fun i l=>if i < q then C7 a i l else if i=q∧l < 6 then (q:Int) else 0) (H':=fun i l=>if i < q then C7 a i l else if i=q then (if (l:Int)∈(Af a.al).take 0 then C7 a q l else (q:Int)) else 0) fun i _ l hl=>by simp [hl]
      rw [hc0]
      refine aE ?_
      (repeat first|refine sN rfl ?_ |refine tM rfl ?_ |refine aU rfl ?_ |refine Aa ?_)
      refine aB ?_
      refine Aj.BO (α:={k:Nat // k≤(Af a.al).length}) (fun ⟨k,hk⟩=>[(1,.o (.ip (BF a))),(3,.o (.arr 0 6 0 a.nx.length)),(4,AW (Af a.al)),(18,Kd a.nx),(19,eI .i64 a.nx.length),(20,eI .i64 q),(5,eI .i64 q),(6,AW row),(35,AW (Af a.al)),(36,eI .i64 (Af a.al).length),(37,eI .i64 k)]) (fun ⟨k,hk⟩=>[(0,.cells 96 6 (Lc a.nx.length fun i l=>if i < q then C7 a i l else if i=q then (if (l:Int)∈(Af a.al).take k then C7 a q l else (q:Int)) else 0))]) 1 (fun ⟨k,hk⟩=>(Af a.al).length - k) (⟨0,by omega⟩) [0] (Hw hΓ rfl rfl) (by (simp[cX,zC,hΓ,GM])) ?_;rintro ⟨k,hk⟩;(try dsimp only)
      (repeat first|refine s2 rfl fun _ _hb=>?_ |refine aU rfl ?_ |refine Aa ?_)
      (refine aC rfl ?_ ?_<;>rintro ⟨⟩)
      · obtain ⟨l,hl⟩:=get_some (l:=Af a.al) (k:=k) (by (simp only[oZ] at *;omega))
        have hl':=get_map (g:=CC) hl
        have hlb:=Bg (List.mem_of_getElem? hl)
        have hpl:=GX hl
        obtain ⟨y,hy⟩:=get_some (l:=row) (k:=k) (by (simp only[oZ] at *;omega))
        have hy':=get_map (g:=CC) hy
        obtain ⟨m,rfl⟩:∃m:Nat,l=m:=⟨l.toNat,by omega⟩
        have hgo:C7 a q m=y:=by
          unfold C7
          rw [if_pos hlb.2.2,hpl];simp [List.getD,hr,hy]
        have hm6:m < 6:=by omega
        have hmj:0+((m:Nat):Int).toNat*1+1≤6:=by omega
        have hg:=QM (H:=fun i l=>if i < q then C7 a i l else if i=q then (if (l:Int)∈(Af a.al).take k then C7 a q l else (q:Int)) else 0) hqn
        have hs:=QN (n:=a.nx.length) (q:=q) (v:=y) (H:=fun i l=>if i < q then C7 a i l else if i=q then (if (l:Int)∈(Af a.al).take k then C7 a q l else (q:Int)) else 0) hm6
        have hc:(Lc a.nx.length fun (i x:Nat)=>if i=q∧x=m then y else (fun (i l:Nat)=>if i < q then C7 a i l else if i=q then (if (l:Int)∈(Af a.al).take k then C7 a q l else (q:Int)) else 0) i x)=Lc a.nx.length fun i l=>if i < q then C7 a i l else if i=q then (if (l:Int)∈(Af a.al).take (k+1) then C7 a q l else (q:Int)) else 0:=Fb fun i _ l _=>by
          try dsimp only
          rw [List.take_add_one,hl]
          by_cases e:i=q
          · subst e
            by_cases e2:l=m
            · subst e2;simp [hgo]
            · have e3:¬(l:Int)=(m:Int):=by omega
              simp [e2,e3]
          · simp [e]
        refine aK ?_
        refine aS (aB ?_)
        (repeat first|refine tM rfl ?_ |(refine s4 rfl ‹_› rfl ?_ ?_;omega) |refine aU rfl ?_ |refine Aa ?_)
        refine rG (Hf [9]) (by kernel_rfl) ?_
        (repeat first|(refine sM rfl ?_ ?_;first|exact tI|omega) |(refine s4 rfl ‹_› rfl ?_ ?_;omega))
        (refine Ag rfl ?_;refine FD ?_ rfl (by rfl);refine Df rfl rfl rfl rfl (hg) rfl (hmj) ?_)
        (repeat first|(refine sM rfl ?_ ?_;first|exact tI|omega) |refine aU rfl ?_ |refine Aa ?_)
        refine ⟨⟨k+1,by (simp only[oZ] at *;omega)⟩,by dsimp only;((simp only[oZ] at *;omega)),[0],?_⟩
        rw [hs,hc]
        simp[cX,zC,hΓ,GM]
      · obtain rfl:k=(Af a.al).length:=by (simp only[oZ] at *;omega)
        have hc0:=Fb (n:=a.nx.length) (H:=fun i l=>if i < q then C7 a i l else if i=q then (if (l:Int)∈(Af a.al).take (Af a.al).length then C7 a q l else (q:Int)) else 0) (H':=fun i l=>if i < q+1 then C7 a i l else 0) fun i _ l hl=>by
          try dsimp only
          rw [List.take_length]
          by_cases e:i=q
          · subst e
            simp only [Nat.lt_irrefl,if_false,if_true,Nat.lt_succ_self]
            by_cases e2:DK a.al l=true
            · rw [if_pos (EI.2 ⟨hl,e2⟩)]
            · rw [if_neg (fun h=>e2 (EI.1 h).2)];unfold C7;rw [if_neg (by simpa using e2)]
          · by_cases e2:i < q
            · rw [if_pos e2,if_pos (by omega)]
            · rw [if_neg e2,if_neg e,if_neg (by omega)]
        rw [hc0]
        refine aE ?_
        (repeat first|(refine sM rfl ?_ ?_;first|exact tI|omega) |refine aU rfl ?_ |refine Aa ?_)
        refine ⟨⟨q+1,by omega⟩,by dsimp only;(omega),[0],?_⟩
        simp[cX,zC,hΓ,GM]
  · obtain rfl:q=a.nx.length:=by (simp only[oZ] at *;omega)
    have hc:=Fb (n:=a.nx.length) (H:=fun i l=>if i < a.nx.length then C7 a i l else 0) (H':=fun i l=>C7 a i l) fun i hi l _=>by rw [if_pos hi]
    rw [hc]
    refine aE ?_
    (repeat first|refine tM rfl ?_ |refine aU rfl ?_ |refine Aa ?_)
    refine Aj.freeze [0] [(2,.o (.d (.l (Lu a))))] ⟨⟨_,rfl,.o (.full (by simp) rfl (YG a) (by simp [VG]))⟩,trivial⟩ ?_
    refine aR ⟨_,rfl,rfl⟩
theorem Hs (a:B6) (h:A6 a=true):Pure Tryz.prog TB 83 [BC a] (.o (.d (.l (Lu a)))):=OD a (UF h)
end Go.Am
