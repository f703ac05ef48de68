/-
  Automata and systems are valid.
-/
import Derived.Test.YtkkihplpglchjaaGreatDoorPart9
set_option linter.constructorNameAsVariable false
set_option linter.unusedSimpArgs false
set_option linter.unusedVariables false
namespace Go.Am
open Go Go.Proofs
set_option maxHeartbeats 1000000
attribute [local irreducible] A1 BZ Lex Bj Ai Spec
variable {TB:Bh}
theorem AI{a:BT}(h:A5 a=true):Bo a.al=true∧1≤a.nx.length∧a.nx.length≤12∧a.ac.length=a.nx.length:=by
 unfold A5 at h;grind
theorem Bg(a:BT):Pure Tryz.prog TB 112 [BL a] (eB (A5 a)):=by
 refine eN Tryz.func112 rfl (by kernel_rfl) rfl ?_;intro Γ hΓ
 (repeat' first|refine sN rfl ?_ |refine tA rfl ?_ |refine s2 rfl fun _ _hb=>?_ |(refine sC rfl (Dw _) ?_;intro _ _hb) |refine s3 rfl ?_ ?_<;>rintro rfl |refine aU rfl ?_ |refine Aa ?_|(refine aC rfl ?_ ?_<;>rintro⟨⟩)|refine aK ?_|refine aE ?_|refine aB ?_|refine aR ⟨_,rfl,?_⟩)
 all_goals try (show E.o _=E.o _;congr;unfold A5;(try simp only [List.length_map] at *);grind)
 refine Ai.bound 1 rfl fun hB=>?_
 have hB:=hB (a.nx.map E8) (.p (j:=1) rfl .refl)
 refine Ai.Bm (α:={k:Nat // k≤a.nx.length∧(a.nx.take k).all (EN (Ac a.al).length a.nx.length)=true}) (fun ⟨k,hk,ha⟩=>[(1,.o (.ip (BF a))),(3,eI .i64 a.nx.length),(4,eI .i64 k)]) (fun ⟨k,hk,ha⟩=>[]) 0 (fun ⟨k,hk,ha⟩=>a.nx.length - k) (⟨0,by omega,rfl⟩) [] (Fq hΓ rfl rfl) (by (simp[cX,zC,hΓ])) ?_;rintro⟨k,hk,ha⟩;(try dsimp only)
 (repeat first|refine tA rfl ?_ |refine s2 rfl fun _ _hb=>?_ |refine aU rfl ?_ |refine Aa ?_)
 (refine aC rfl ?_ ?_<;>rintro⟨⟩)
 ·obtain⟨x,hx⟩:=get_some (l:=a.nx) (k:=k) (by (simp only[oZ] at *;omega))
  have hx':=get_map (g:=E8) hx
  (repeat' first|refine sN rfl ?_ |(refine sA rfl ?_ ?_;first|exact tI|simp only[oZ] at *;omega) |(refine s4 rfl ‹_› rfl ?_ ?_;omega) |refine s2 rfl fun _ _hb=>?_ |refine sP rfl (BM _) rfl ?_|(refine sC rfl (Wh _ _ _) ?_;intro _ _hb) |refine aU rfl ?_ |refine Aa ?_ |refine rE (by kernel_rfl) ?_|(refine aC rfl ?_ ?_<;>rintro⟨⟩)|refine aK ?_|refine aE ?_|refine aB ?_|refine aR ⟨_,rfl,?_⟩)
  all_goals first
   | (have h1:=Gx (f:=EN (Ac a.al).length a.nx.length) hx (by grind);(show E.o _=E.o _;congr;unfold A5;(try simp only [List.length_map] at *);grind);done)
   | (refine⟨⟨k+1,by (simp only[oZ] at *;omega),E4 hx ha (by grind)⟩,by dsimp only;((simp only[oZ] at *;omega)),[],?_⟩;simp[cX,zC,hΓ];done)
 ·(repeat' first|refine tA rfl ?_ |refine aU rfl ?_ |refine Aa ?_|(refine aC rfl ?_ ?_<;>rintro⟨⟩)|refine aK ?_|refine aE ?_|refine aB ?_|refine aR ⟨_,rfl,?_⟩)
  show E.o _=E.o _;congr
  have h1:=E3 ha (by (simp only[oZ] at *;omega))
  unfold A5;simp only [List.length_map] at *;grind
def GD:List Int→Int
 | []=>0
 | x::l=>if x≠0 then x else GD l
theorem Cz{α:Type}{l:List α}{k:Nat}{x:α}(h:l[k]? = some x):l.drop k=x::l.drop (k+1):=by
 obtain⟨h1,rfl⟩:=List.getElem?_eq_some_iff.1 h
 exact List.drop_eq_getElem_cons h1
theorem VK(l:List Int):Pure Tryz.prog TB 192 [Ay l] (eI .i64 (GD l)):=by
 refine eN Tryz.func192 rfl (by kernel_rfl) rfl ?_;intro Γ hΓ
 refine Ai.bound 0 rfl fun hB=>?_
 have hB:=hB (l.map Bv) .refl
 (repeat' first|refine sN rfl ?_ |refine tA rfl ?_ |refine aU rfl ?_ |refine Aa ?_|(refine aC rfl ?_ ?_<;>rintro⟨⟩)|refine aK ?_|refine aE ?_|refine aB ?_|refine aR ⟨_,rfl,?_⟩)
 refine Ai.Bm (α:={k:Nat // k≤l.length∧GD l=GD (l.drop k)}) (fun ⟨k,hk,ha⟩=>[(3,eI .i64 0),(6,Ay l),(7,eI .i64 l.length),(8,eI .i64 k)]) (fun ⟨k,hk,ha⟩=>[]) 0 (fun ⟨k,hk,ha⟩=>l.length - k) (⟨0,by omega,rfl⟩) [] (Fq hΓ rfl rfl) (by (simp[cX,zC,hΓ])) ?_;rintro⟨k,hk,ha⟩;(try dsimp only)
 (repeat first|refine s2 rfl fun _ _hb=>?_ |refine aU rfl ?_ |refine Aa ?_)
 (refine aC rfl ?_ ?_<;>rintro⟨⟩)
 ·obtain⟨x,hx⟩:=get_some (l:=l) (k:=k) (by (simp only[oZ] at *;omega))
  have hx':=get_map (g:=Bv) hx
  rw [Cz hx,GD] at ha
  (repeat' first|(refine sA rfl ?_ ?_;first|exact tI|simp only[oZ] at *;omega) |(refine s4 rfl ‹_› rfl ?_ ?_;omega) |refine s2 rfl fun _ _hb=>?_ |refine aU rfl ?_ |refine Aa ?_|(refine aC rfl ?_ ?_<;>rintro⟨⟩)|refine aK ?_|refine aE ?_|refine aB ?_|refine aR ⟨_,rfl,?_⟩)
  ·rw [if_pos (by grind)] at ha
   rw [ha]
  ·rw [if_neg (by grind)] at ha
   refine⟨⟨k+1,by (simp only[oZ] at *;omega),ha⟩,by dsimp only;((simp only[oZ] at *;omega)),[],?_⟩
   simp[cX,zC,hΓ]
 ·(repeat' first|refine tA rfl ?_ |refine aU rfl ?_ |refine Aa ?_|(refine aC rfl ?_ ?_<;>rintro⟨⟩)|refine aK ?_|refine aE ?_|refine aB ?_|refine aR ⟨_,rfl,?_⟩)
  rw [ha,List.drop_of_length_le (by (simp only[oZ] at *;omega))];rfl
def Za(e f:Eb):Int:=GD [OP e.f f.f,OP e.l f.l,OP e.t f.t]
theorem VJ(e f:Eb):(0≤Za e f)=(IB e f=false):=by
 unfold Za IB;simp only [GD,OP];grind
theorem K3(e f:Eb):Pure Tryz.prog TB 161 [VP e,VP f] (eI .i64 (Za e f)):=by
 refine eN Tryz.func161 rfl (by kernel_rfl) rfl ?_;intro Γ hΓ
 (repeat' first|refine tA rfl ?_ |refine sP rfl (Nm _ _) rfl ?_|refine sP rfl (VK [OP e.f f.f,OP e.l f.l,OP e.t f.t]) rfl ?_ |refine aU rfl ?_ |refine Aa ?_ |refine rE (by kernel_rfl) ?_|(refine aC rfl ?_ ?_<;>rintro⟨⟩)|refine aK ?_|refine aE ?_|refine aB ?_|refine aR ⟨_,rfl,?_⟩)
 rfl
theorem Pl{s:Sys}{e:Eb}(h:s.es[0]? = some e):HC s 0=Dc s.al s.st e:=by
 unfold HC;rw [h];simp
theorem Lv{s:Sys}{k:Nat}{e p:Eb}(h:s.es[k+1]? = some e)(hp:s.es[k]? = some p):HC s (k+1)=(Dc s.al s.st e && IB p e):=by
 unfold HC;rw [h];simp [hp]
theorem GO{k:Nat}{f:Nat→Bool}(h:∀i,i < k→f i=true)(h1:f k=true):∀i,i < k+1→f i=true:=fun i hi=>by
 rcases Nat.lt_succ_iff_lt_or_eq.1 hi with h2|h2
 ·exact h i h2
 ·rw [h2];exact h1
theorem Ia{s:Sys}{k:Nat}(hk:k < s.es.length)(h:HC s k=false):Bw s=false:=by
 have h1:(List.range s.es.length).all (HC s)=false:=by
  rw [List.all_eq_false];exact⟨k,List.mem_range.2 hk,by simp [h]⟩
 unfold Bw;rw [h1];simp
theorem MV{s:Sys}{k:Nat}(h0:Bo s.al=true)(h1:1≤s.st∧s.st≤16)(hk:s.es.length≤k)(h:∀i,i < k→HC s i=true):Bw s=true:=by
 have h1:(List.range s.es.length).all (HC s)=true:=by
  rw [List.all_eq_true];intro i hi;exact h i (by have:=List.mem_range.1 hi;omega)
 unfold Bw;rw [h1];grind
theorem CP(s:Sys):Pure Tryz.prog TB 143 [Dr s] (eB (Bw s)):=by
 refine eN Tryz.func143 rfl (by kernel_rfl) rfl ?_;intro Γ hΓ
 (repeat' first|refine tA rfl ?_ |refine s2 rfl fun _ _hb=>?_ |(refine sC rfl (Dw _) ?_;intro _ _hb) |refine s3 rfl ?_ ?_<;>rintro rfl |refine aU rfl ?_ |refine Aa ?_|(refine aC rfl ?_ ?_<;>rintro⟨⟩)|refine aK ?_|refine aE ?_|refine aB ?_|refine aR ⟨_,rfl,?_⟩)
 all_goals try (show E.o _=E.o _;congr;unfold Bw;(try simp only [List.length_map] at *);grind)
 refine Ai.bound 1 rfl fun hB=>?_
 have hB:=hB (s.es.map Dk) (.p (j:=2) rfl .refl)
 refine Ai.Bm (α:={k:Nat // k≤s.es.length∧∀i,i < k→HC s i=true}) (fun ⟨k,hk,ha⟩=>[(1,.o (.ip (B9 s))),(3,eI .i64 k)]) (fun ⟨k,hk,ha⟩=>[]) 0 (fun ⟨k,hk,ha⟩=>s.es.length - k) (⟨0,by omega,by omega⟩) [] (Fq hΓ rfl rfl) (by (simp[cX,zC,hΓ])) ?_;rintro⟨k,hk,ha⟩;(try dsimp only)
 (repeat first|refine sN rfl ?_ |refine tA rfl ?_ |refine s2 rfl fun _ _hb=>?_ |refine aU rfl ?_ |refine Aa ?_)
 (refine aC rfl ?_ ?_<;>rintro⟨⟩)
 ·obtain⟨e,hx⟩:=get_some (l:=s.es) (k:=k) (by (simp only[oZ] at *;omega))
  have hx':=get_map (g:=Dk) hx
  cases k with
  | zero=>
   have h1:=Pl hx
   (repeat' first|(refine sA rfl ?_ ?_;first|exact tI|omega) |(refine s4 rfl ‹_› rfl ?_ ?_;first|omega|simp only[oZ] at *;omega) |refine s2 rfl fun _ _hb=>?_ |(refine sC rfl (N9 _ _ e) ?_;intro _ _hb)|(refine sC rfl (KL _ _) ?_;intro _ _hb) |refine s3 rfl ?_ ?_<;>rintro rfl |refine aU rfl ?_ |refine Aa ?_ |refine rE (by kernel_rfl) ?_|(refine aC rfl ?_ ?_<;>rintro⟨⟩)|refine aK ?_|refine aE ?_|refine aB ?_|refine aR ⟨_,rfl,?_⟩)
   all_goals first
    | (exfalso;(simp only[oZ] at *;omega);done)
    | (have h2:=Ia (s:=s) (k:=0) (by (simp only[oZ] at *;omega)) (by grind);show E.o _=E.o _;congr;exact h2.symm;done)
    | (refine⟨⟨0+1,by (simp only[oZ] at *;omega),GO ha (by grind)⟩,by dsimp only;((simp only[oZ] at *;omega)),[],?_⟩;simp[cX,zC,hΓ];done)
  | succ k=>
   obtain⟨p,hp⟩:=get_some (l:=s.es) (k:=k) (by omega)
   have hp':(s.es.map Dk)[(((k+1:Nat):Int) - 1).toNat]? = some (Dk p):=by simp [hp]
   have h1:=Lv hx hp
   (repeat' first|(refine sA rfl ?_ ?_;first|exact tI|simp only[oZ] at *;omega) |(refine s4 rfl ‹_› rfl ?_ ?_;omega) |refine s2 rfl fun _ _hb=>?_ |(refine sC rfl (N9 _ _ e) ?_;intro _ _hb)|(refine sC rfl (KL p e) ?_;intro _ _hb) |refine s3 rfl ?_ ?_<;>rintro rfl |refine aU rfl ?_ |refine Aa ?_ |refine rE (by kernel_rfl) ?_|(refine aC rfl ?_ ?_<;>rintro⟨⟩)|refine aK ?_|refine aE ?_|refine aB ?_|refine aR ⟨_,rfl,?_⟩)
   all_goals first
    | (exfalso;(simp only[oZ] at *;omega);done)
    | (have h2:=Ia (s:=s) (k:=k+1) (by (simp only[oZ] at *;omega)) (by grind);show E.o _=E.o _;congr;exact h2.symm;done)
    | (refine⟨⟨k+1+1,by (simp only[oZ] at *;omega),GO ha (by grind)⟩,by dsimp only;((simp only[oZ] at *;omega)),[],?_⟩;simp[cX,zC,hΓ];done)
 ·(repeat' first|refine tA rfl ?_ |refine aU rfl ?_ |refine Aa ?_|(refine aC rfl ?_ ?_<;>rintro⟨⟩)|refine aK ?_|refine aE ?_|refine aB ?_|refine aR ⟨_,rfl,?_⟩)
  have h2:=MV (s:=s) (by grind) (by grind) (by (simp only[oZ] at *;omega)) ha
  show E.o _=E.o _;congr;exact h2.symm
theorem NT{s:Sys}{e:Eb}:Dc s.al s.st e=(decide (0≤e.f∧e.f < s.st) && decide (0≤e.t∧e.t < s.st) && decide (e.l < 6) && hasB s.al e.l):=by
 unfold Dc hasB;grind
theorem IG(s:Sys):Pure Tryz.prog TB 121 [Dr s] (eB (Bw s)):=by
 refine eN Tryz.func121 rfl (by kernel_rfl) rfl ?_;intro Γ hΓ
 (repeat' first|refine sN rfl ?_ |refine tA rfl ?_ |refine s2 rfl fun _ _hb=>?_ |(refine sC rfl (Et _) ?_;intro _ _hb) |refine s3 rfl ?_ ?_<;>rintro rfl |refine aU rfl ?_ |refine Aa ?_|(refine aC rfl ?_ ?_<;>rintro⟨⟩)|refine aK ?_|refine aE ?_|refine aB ?_|refine aR ⟨_,rfl,?_⟩)
 all_goals try (show E.o _=E.o _;congr;unfold Bw;(try simp only [List.length_map] at *);grind)
 refine Ai.bound 1 rfl fun hB=>?_
 have hB:=hB (s.es.map Dk) (.p (j:=2) rfl .refl)
 refine Ai.Bm (α:={k:Nat // k≤s.es.length∧∀i,i < k→HC s i=true}) (fun ⟨k,hk,ha⟩=>[(1,.o (.ip (B9 s))),(20,.o (.d (FK s.es))),(21,eI .i64 s.es.length),(22,eI .i64 k)]) (fun ⟨k,hk,ha⟩=>[]) 0 (fun ⟨k,hk,ha⟩=>s.es.length - k) (⟨0,by omega,by omega⟩) [] (Fq hΓ rfl rfl) (by (simp[cX,zC,hΓ])) ?_;rintro⟨k,hk,ha⟩;(try dsimp only)
 (repeat first|refine s2 rfl fun _ _hb=>?_ |refine aU rfl ?_ |refine Aa ?_)
 (refine aC rfl ?_ ?_<;>rintro⟨⟩)
 ·obtain⟨e,hx⟩:=get_some (l:=s.es) (k:=k) (by (simp only[oZ] at *;omega))
  have hx':=get_map (g:=Dk) hx
  cases k with
  | zero=>
   have h1:=Pl hx
   rw [NT] at h1
   (repeat' first|(refine sA rfl ?_ ?_;first|exact tI|omega) |(refine s4 rfl ‹_› rfl ?_ ?_;first|omega|simp only[oZ] at *;omega) |refine s2 rfl fun _ _hb=>?_ |(refine sC rfl (Me s _) ?_;intro _ _hb)|(refine sC rfl (Mb _ _) ?_;intro _ _hb) |refine s3 rfl ?_ ?_<;>rintro rfl |refine aU rfl ?_ |refine Aa ?_ |refine rE (by kernel_rfl) ?_|(refine aC rfl ?_ ?_<;>rintro⟨⟩)|refine aK ?_|refine aE ?_|refine aB ?_|refine aR ⟨_,rfl,?_⟩)
   all_goals first
    | (exfalso;(simp only[oZ] at *;omega);done)
    | (have h2:=Ia (s:=s) (k:=0) (by (simp only[oZ] at *;omega)) (by grind);show E.o _=E.o _;congr;exact h2.symm;done)
    | (refine⟨⟨0+1,by (simp only[oZ] at *;omega),GO ha (by grind)⟩,by dsimp only;((simp only[oZ] at *;omega)),[],?_⟩;simp[cX,zC,hΓ];done)
  | succ k=>
   obtain⟨p,hp⟩:=get_some (l:=s.es) (k:=k) (by omega)
   have hp':(s.es.map Dk)[(((k+1:Nat):Int) - 1).toNat]? = some (Dk p):=by simp [hp]
   have h1:=Lv hx hp
   have h3:=VJ p e
   rw [NT] at h1
   (repeat' first|(refine sA rfl ?_ ?_;first|exact tI|simp only[oZ] at *;omega) |(refine s4 rfl ‹_› rfl ?_ ?_;omega) |refine s2 rfl fun _ _hb=>?_ |(refine sC rfl (Me s _) ?_;intro _ _hb)|(refine sC rfl (Mb _ _) ?_;intro _ _hb)|refine sP rfl (K3 p e) rfl ?_ |refine s3 rfl ?_ ?_<;>rintro rfl |refine aU rfl ?_ |refine Aa ?_ |refine rE (by kernel_rfl) ?_|(refine aC rfl ?_ ?_<;>rintro⟨⟩)|refine aK ?_|refine aE ?_|refine aB ?_|refine aR ⟨_,rfl,?_⟩)
   all_goals first
    | (exfalso;(simp only[oZ] at *;omega);done)
    | (have h2:=Ia (s:=s) (k:=k+1) (by (simp only[oZ] at *;omega)) (by grind);show E.o _=E.o _;congr;exact h2.symm;done)
    | (refine⟨⟨k+1+1,by (simp only[oZ] at *;omega),GO ha (by grind)⟩,by dsimp only;((simp only[oZ] at *;omega)),[],?_⟩;simp[cX,zC,hΓ];done)
 ·(repeat' first|refine tA rfl ?_ |refine aU rfl ?_ |refine Aa ?_|(refine aC rfl ?_ ?_<;>rintro⟨⟩)|refine aK ?_|refine aE ?_|refine aB ?_|refine aR ⟨_,rfl,?_⟩)
  have h2:=MV (s:=s) (by grind) (by grind) (by (simp only[oZ] at *;omega)) ha
  show E.o _=E.o _;congr;exact h2.symm
theorem NM{a:BT}{k:Nat}{x:List Int}(hx:a.nx[k]? = some x)(h:EN (Ac a.al).length a.nx.length x=false):A5 a=false:=by
 have h1:=Gx (f:=EN (Ac a.al).length a.nx.length) hx h
 unfold A5;rw [h1];simp
theorem Ri{a:BT}{k:Nat}(h0:Bo a.al=true)(h1:1≤a.nx.length∧a.nx.length≤12)(h2:a.ac.length=a.nx.length)(hk:a.nx.length≤k)(h:(a.nx.take k).all (EN (Ac a.al).length a.nx.length)=true):A5 a=true:=by
 have h3:=E3 h hk
 unfold A5;rw [h3];grind
theorem CY(a:BT):Pure Tryz.prog TB 43 [BL a] (eB (A5 a)):=by
 refine eN Tryz.func43 rfl (by kernel_rfl) rfl ?_;intro Γ hΓ
 (repeat' first|refine sN rfl ?_ |refine tA rfl ?_ |refine s2 rfl fun _ _hb=>?_ |(refine sC rfl (Et _) ?_;intro _ _hb)|refine sP rfl (DV _) rfl ?_ |refine s3 rfl ?_ ?_<;>rintro rfl |refine aU rfl ?_ |refine Aa ?_|(refine aC rfl ?_ ?_<;>rintro⟨⟩)|refine aK ?_|refine aE ?_|refine aB ?_|refine aR ⟨_,rfl,?_⟩)
 all_goals try (show E.o _=E.o _;congr;unfold A5;(try simp only [List.length_map] at *);grind)
 refine Ai.bound 1 rfl fun hB=>?_
 have hB:=hB (a.nx.map E8) (.p (j:=1) rfl .refl)
 refine Ai.Bm (α:={k:Nat // k≤a.nx.length∧(a.nx.take k).all (EN (Ac a.al).length a.nx.length)=true}) (fun ⟨k,hk,ha⟩=>[(1,.o (.ip (BF a))),(3,eI .i64 (Ac a.al).length),(38,EJ a.nx),(39,eI .i64 a.nx.length),(40,eI .i64 k)]) (fun ⟨k,hk,ha⟩=>[]) 0 (fun ⟨k,hk,ha⟩=>a.nx.length - k) (⟨0,by omega,rfl⟩) [] (Fq hΓ rfl rfl) (by (simp[cX,zC,hΓ])) ?_;rintro⟨k,hk,ha⟩;(try dsimp only)
 (repeat first|refine s2 rfl fun _ _hb=>?_ |refine aU rfl ?_ |refine Aa ?_)
 (refine aC rfl ?_ ?_<;>rintro⟨⟩)
 ·obtain⟨x,hx⟩:=get_some (l:=a.nx) (k:=k) (by (simp only[oZ] at *;omega))
  have hx':=get_map (g:=E8) hx
  (repeat' first|refine sN rfl ?_ |refine tA rfl ?_ |(refine s4 rfl ‹_› rfl ?_ ?_;omega) |refine s2 rfl fun _ _hb=>?_ |refine aU rfl ?_ |refine Aa ?_|(refine aC rfl ?_ ?_<;>rintro⟨⟩)|refine aK ?_|refine aE ?_|refine aB ?_|refine aR ⟨_,rfl,?_⟩)
  ·have h2:=NM hx (by unfold EN;grind)
   show E.o _=E.o _;congr;exact h2.symm
  refine Ai.bound 5 rfl fun hB2=>?_
  have hB2:=hB2 (x.map Bv) .refl
  refine Ai.Bm (α:={j:Nat // j≤x.length∧(x.take j).all (Pk a.nx.length)=true}) (fun ⟨j,hj,hc⟩=>[(1,.o (.ip (BF a))),(3,eI .i64 (Ac a.al).length),(38,EJ a.nx),(39,eI .i64 a.nx.length),(40,eI .i64 k),(48,Ay x),(49,eI .i64 x.length),(50,eI .i64 j)]) (fun ⟨j,hj,hc⟩=>[]) 0 (fun ⟨j,hj,hc⟩=>x.length - j) (⟨0,by omega,rfl⟩) [] (Fq hΓ rfl rfl) (by (simp[cX,zC,hΓ])) ?_;rintro⟨j,hj,hc⟩;(try dsimp only)
  (repeat first|refine s2 rfl fun _ _hb=>?_ |refine aU rfl ?_ |refine Aa ?_)
  (refine aC rfl ?_ ?_<;>rintro⟨⟩)
  ·obtain⟨y,hy⟩:=get_some (l:=x) (k:=j) (by (simp only[oZ] at *;omega))
   have hy':=get_map (g:=Bv) hy
   (repeat' first|refine sN rfl ?_ |(refine sA rfl ?_ ?_;first|exact tI|simp only[oZ] at *;omega) |(refine s4 rfl ‹_› rfl ?_ ?_;omega) |refine s2 rfl fun _ _hb=>?_ |refine s3 rfl ?_ ?_<;>rintro rfl |refine aU rfl ?_ |refine Aa ?_|(refine aC rfl ?_ ?_<;>rintro⟨⟩)|refine aK ?_|refine aE ?_|refine aB ?_|refine aR ⟨_,rfl,?_⟩)
   all_goals first
    | (have h2:=NM hx (by rw [EN,Gx hy (by unfold Pk;grind)];simp);show E.o _=E.o _;congr;exact h2.symm;done)
    | (refine⟨⟨j+1,by (simp only[oZ] at *;omega),E4 hy hc (by unfold Pk;grind)⟩,by dsimp only;((simp only[oZ] at *;omega)),[],?_⟩;simp[cX,zC,hΓ];done)
  ·(repeat' first|(refine sA rfl ?_ ?_;first|exact tI|simp only[oZ] at *;omega) |refine aU rfl ?_ |refine Aa ?_|(refine aC rfl ?_ ?_<;>rintro⟨⟩)|refine aK ?_|refine aE ?_|refine aB ?_|refine aR ⟨_,rfl,?_⟩)
   have h3:=E3 hc (by (simp only[oZ] at *;omega))
   refine⟨⟨k+1,by (simp only[oZ] at *;omega),E4 hx ha (by rw [EN,h3];grind)⟩,by dsimp only;((simp only[oZ] at *;omega)),[],?_⟩
   simp[cX,zC,hΓ]
 ·(repeat' first|refine tA rfl ?_ |refine aU rfl ?_ |refine Aa ?_|(refine aC rfl ?_ ?_<;>rintro⟨⟩)|refine aK ?_|refine aE ?_|refine aB ?_|refine aR ⟨_,rfl,?_⟩)
  have h2:=Ri (a:=a) (by grind) (by grind) (by grind) (by (simp only[oZ] at *;omega)) ha
  show E.o _=E.o _;congr;exact h2.symm
def CW(a:BT)(q:Nat)(l:Int):Int:=if Ei a.al l.toNat then ((a.nx.getD q []).getD (AG a.al l.toNat).length 0) else q
theorem Jo{s:Int}{l k:Nat}(hl:l < k)(hb:Ei s l=true):(AG s l).length < (AG s k).length:=by
 induction k with
 | zero=>omega
 | succ k ih=>
  rw [CB,List.length_append]
  rcases Nat.lt_succ_iff_lt_or_eq.1 hl with h|h
  ·have:=ih h;omega
  ·subst h;rw [if_pos hb];simp
theorem HI{a:BT}(h:A5 a=true){q:Nat}(hq:q < a.nx.length):∃row,a.nx[q]? = some row∧row.length=(Ac a.al).length∧∀(i:Nat) (x:Int),row[i]? = some x→0≤x∧x < a.nx.length:=by
 obtain⟨row,hr⟩:=get_some hq
 refine⟨row,hr,?_⟩
 unfold A5 at h
 rw [Bool.and_eq_true,List.all_eq_true] at h
 have h1:=h.2 row (List.mem_of_getElem? hr)
 unfold EN at h1
 rw [Bool.and_eq_true,List.all_eq_true] at h1
 refine⟨by grind,fun i x hx=>?_⟩
 have:=h1.2 x (List.mem_of_getElem? hx)
 unfold Pk at this;grind
theorem HR(a:BT)(h:A5 a=true)(q:Nat)(hq:q < a.nx.length)(l:Int)(h0:0≤l)(h1:l < 6):Pure Tryz.prog TB 102 [BL a,eI .i64 q,eI .i64 l] (eI .i64 (CW a q l)):=by
 refine eN Tryz.func102 rfl (by kernel_rfl) rfl ?_;intro Γ hΓ
 obtain⟨row,hr,hl,hx⟩:=HI h hq
 have hr':=get_map (g:=E8) hr
 by_cases hb:Ei a.al l.toNat=true
 ·have hlt:(AG a.al l.toNat).length < row.length:=by rw [hl];exact Jo (by omega) hb
  obtain⟨y,hy⟩:=get_some hlt
  have hy':=get_map (g:=Bv) hy
  (repeat' first|refine tA rfl ?_ |(refine s4 rfl ‹_› rfl ?_ ?_;omega) |refine s2 rfl fun _ _hb=>?_ |(refine sC rfl (CS _ _ (by omega) (by omega)) ?_;intro _ _hb)|refine sP rfl (Rv _ _ (by omega) (by omega)) rfl ?_ |refine aU rfl ?_ |refine Aa ?_ |refine rE (by kernel_rfl) ?_|(refine aC rfl ?_ ?_<;>rintro⟨⟩)|refine aK ?_|refine aE ?_|refine aB ?_|refine aR ⟨_,rfl,?_⟩)
  all_goals first
   | (exfalso;grind;done)
   | (show E.o _=E.o _;congr;unfold CW;rw [if_pos hb];simp [List.getD,hr,hy];done)
 ·(repeat' first|refine tA rfl ?_ |(refine s4 rfl ‹_› rfl ?_ ?_;omega) |refine s2 rfl fun _ _hb=>?_ |(refine sC rfl (CS _ _ (by omega) (by omega)) ?_;intro _ _hb) |refine aU rfl ?_ |refine Aa ?_ |refine rE (by kernel_rfl) ?_|(refine aC rfl ?_ ?_<;>rintro⟨⟩)|refine aK ?_|refine aE ?_|refine aB ?_|refine aR ⟨_,rfl,?_⟩)
  all_goals first
   | (show E.o _=E.o _;congr;unfold CW;rw [if_neg hb];done)
   | (exfalso;grind;done)
structure Net where
 ps:List Sys
 au:List BT
 st:List Int
 ls:Int
 kd:Int
 gl:Int
abbrev K7(n:Net):List D:=[Xq n.ps,Rh n.au,Ez n.st,iD n.ls,iD n.kd,iD n.gl]
abbrev J5(n:Net):E:=.a [.d (Xq n.ps),.d (Rh n.au),.d (Ez n.st),.d (iD n.ls),.d (iD n.kd),.d (iD n.gl)]
theorem X3(l:List Int)(n:Int):Pure Tryz.prog TB 198 [Ay l,eI .i64 n] (eB (decide (n∈l))):=by
 refine eN Tryz.func198 rfl (by kernel_rfl) rfl ?_;intro Γ hΓ
 refine Ai.bound 0 rfl fun hB=>?_
 have hB:=hB (l.map Bv) .refl
 (repeat' first|refine tA rfl ?_ |refine aU rfl ?_ |refine Aa ?_|(refine aC rfl ?_ ?_<;>rintro⟨⟩)|refine aK ?_|refine aE ?_|refine aB ?_|refine aR ⟨_,rfl,?_⟩)
 refine Ai.Bm (α:={k:Nat // k≤l.length∧n∉l.take k}) (fun ⟨k,hk,ha⟩=>[(0,Ay l),(1,eI .i64 n),(5,eI .i64 k)]) (fun ⟨k,hk,ha⟩=>[]) 0 (fun ⟨k,hk,ha⟩=>l.length - k) (⟨0,by omega,by simp⟩) [] (Fq hΓ rfl rfl) (by (simp[cX,zC,hΓ])) ?_;rintro⟨k,hk,ha⟩;(try dsimp only)
 (repeat first|refine sN rfl ?_ |refine tA rfl ?_ |refine s2 rfl fun _ _hb=>?_ |refine aU rfl ?_ |refine Aa ?_)
 (refine aC rfl ?_ ?_<;>rintro⟨⟩)
 ·obtain⟨x,hx⟩:=get_some (l:=l) (k:=k) (by (simp only[oZ] at *;omega))
  have hx':=get_map (g:=Bv) hx
  (repeat' first|(refine sA rfl ?_ ?_;first|exact tI|simp only[oZ] at *;omega) |(refine s4 rfl ‹_› rfl ?_ ?_;omega) |refine s2 rfl fun _ _hb=>?_ |refine aU rfl ?_ |refine Aa ?_|(refine aC rfl ?_ ?_<;>rintro⟨⟩)|refine aK ?_|refine aE ?_|refine aB ?_|refine aR ⟨_,rfl,?_⟩)
  ·have h1:=List.mem_of_getElem? hx
   show E.o _=E.o _;congr;grind
  ·refine⟨⟨k+1,by (simp only[oZ] at *;omega),by rw [List.take_add_one,hx];grind⟩,by dsimp only;((simp only[oZ] at *;omega)),[],?_⟩
   simp[cX,zC,hΓ]
 ·(repeat' first|refine tA rfl ?_ |refine aU rfl ?_ |refine Aa ?_|(refine aC rfl ?_ ?_<;>rintro⟨⟩)|refine aK ?_|refine aE ?_|refine aB ?_|refine aR ⟨_,rfl,?_⟩)
  rw [List.take_of_length_le (by (simp only[oZ] at *;omega))] at ha
  show E.o _=E.o _;congr;grind
def GB:List Int→List Int→Int→Int
 | z::zs,s::ss,n=>GB zs ss (n*z+s)
 | _,_,n=>n
theorem PE{α:Type}{l:List α}{f:α→Bool}{k:Nat}{x:α}(h:l[k]? = some x)(h1:(l.take k).any f=false)(h2:f x=false):(l.take (k+1)).any f=false:=by
 rw [List.take_add_one,h];simp [List.any_append,h1,h2]
theorem Sz{α:Type}{l:List α}{f:α→Bool}{k:Nat}{x:α}(h:l[k]? = some x)(h2:f x=true):l.any f=true:=by
 rw [List.any_eq_true];exact⟨x,List.mem_of_getElem? h,h2⟩
theorem PD{α:Type}{l:List α}{f:α→Bool}{k:Nat}(h:(l.take k).any f=false)(hk:l.length≤k):l.any f=false:=by
 rwa [List.take_of_length_le hk] at h
def Y7(dist:List Int)(d v:Int):Bool:=decide (dist.getD v.toNat 0=d)
def Ju(mv:List (List Int))(dist:List Int)(d:Int):Bool:=mv.any fun r=>r.any (Y7 dist d)
def dN(n:Nat)(v:Int):Prop:=0≤v∧v < n
theorem Uk(mv:List (List Int))(dist:List Int)(d:Int)(hin:∀r∈mv,∀v∈r,dN dist.length v):Pure Tryz.prog TB 197 [EJ mv,Ay dist,eI .i64 d] (eB (Ju mv dist d)):=by
 refine eN Tryz.func197 rfl (by kernel_rfl) rfl ?_;intro Γ hΓ
 refine Ai.bound 0 rfl fun hB0=>?_
 have hB:=hB0 (mv.map E8) .refl
 (repeat' first|refine tA rfl ?_ |refine aU rfl ?_ |refine Aa ?_|(refine aC rfl ?_ ?_<;>rintro⟨⟩)|refine aK ?_|refine aE ?_|refine aB ?_|refine aR ⟨_,rfl,?_⟩)
 refine Ai.Bm (α:={k:Nat // k≤mv.length∧(mv.take k).any (fun r=>r.any (Y7 dist d))=false}) (fun ⟨k,hk,ha⟩=>[(0,EJ mv),(1,Ay dist),(2,eI .i64 d),(7,eI .i64 k)]) (fun ⟨k,hk,ha⟩=>[]) 0 (fun ⟨k,hk,ha⟩=>mv.length - k) (⟨0,by omega,by simp⟩) [] (Fq hΓ rfl rfl) (by (simp[cX,zC,hΓ])) ?_;rintro⟨k,hk,ha⟩;(try dsimp only)
 (repeat first|refine sN rfl ?_ |refine tA rfl ?_ |refine s2 rfl fun _ _hb=>?_ |refine aU rfl ?_ |refine Aa ?_)
 (refine aC rfl ?_ ?_<;>rintro⟨⟩)
 ·obtain⟨x,hx⟩:=get_some (l:=mv) (k:=k) (by (simp only[oZ] at *;omega))
  have hx':=get_map (g:=E8) hx
  have hBx:=hB0 (x.map Bv) (.l (i:=k) (j:=0) (r:=E8 x) (by simp [hx]) rfl .refl)
  have hin:=hin x (List.mem_of_getElem? hx)
  (repeat' first|refine tA rfl ?_ |refine aU rfl ?_ |refine Aa ?_|(refine aC rfl ?_ ?_<;>rintro⟨⟩)|refine aK ?_|refine aE ?_|refine aB ?_|refine aR ⟨_,rfl,?_⟩)
  refine Ai.Bm (α:={j:Nat // j≤x.length∧(x.take j).any (Y7 dist d)=false}) (fun ⟨j,hj,hc⟩=>[(0,EJ mv),(1,Ay dist),(2,eI .i64 d),(7,eI .i64 k),(8,eI .i64 j)]) (fun ⟨j,hj,hc⟩=>[]) 0 (fun ⟨j,hj,hc⟩=>x.length - j) (⟨0,by omega,by simp⟩) [] (Fq hΓ rfl rfl) (by (simp[cX,zC,hΓ])) ?_;rintro⟨j,hj,hc⟩;(try dsimp only)
  (repeat first|refine sN rfl ?_ |refine tA rfl ?_ |(refine s4 rfl ‹_› rfl ?_ ?_;omega) |refine s2 rfl fun _ _hb=>?_ |refine aU rfl ?_ |refine Aa ?_)
  (refine aC rfl ?_ ?_<;>rintro⟨⟩)
  ·obtain⟨y,hy⟩:=get_some (l:=x) (k:=j) (by (simp only[oZ] at *;omega))
   have hy':=get_map (g:=Bv) hy
   obtain⟨h1,h2⟩:=hin y (List.mem_of_getElem? hy)
   obtain⟨z,hz⟩:=get_some (l:=dist) (k:=y.toNat) (by omega)
   have hz':(dist.map Bv)[y.toNat]? = some (Bv z):=by simp [hz]
   have hat:Y7 dist d y=decide (z=d):=by simp [Y7,hz]
   (repeat' first|(refine sA rfl ?_ ?_;first|exact tI|simp only[oZ] at *;omega) |(refine s4 rfl ‹_› rfl ?_ ?_;omega) |refine s2 rfl fun _ _hb=>?_ |refine aU rfl ?_ |refine Aa ?_|(refine aC rfl ?_ ?_<;>rintro⟨⟩)|refine aK ?_|refine aE ?_|refine aB ?_|refine aR ⟨_,rfl,?_⟩)
   all_goals first
    | (have h3:=Sz hx (f:=fun r=>r.any (Y7 dist d)) (Sz hy (by rw [hat];grind));show E.o _=E.o _;congr;unfold Ju;rw [h3];done)
    | (refine⟨⟨j+1,by (simp only[oZ] at *;omega),PE hy hc (by rw [hat];grind)⟩,by dsimp only;((simp only[oZ] at *;omega)),[],?_⟩;simp[cX,zC,hΓ];done)
  ·(repeat' first|(refine sA rfl ?_ ?_;first|exact tI|simp only[oZ] at *;omega) |refine aU rfl ?_ |refine Aa ?_|(refine aC rfl ?_ ?_<;>rintro⟨⟩)|refine aK ?_|refine aE ?_|refine aB ?_|refine aR ⟨_,rfl,?_⟩)
   refine⟨⟨k+1,by (simp only[oZ] at *;omega),PE hx ha (PD hc (by (simp only[oZ] at *;omega)))⟩,by dsimp only;((simp only[oZ] at *;omega)),[],?_⟩
   simp[cX,zC,hΓ]
 ·(repeat' first|refine tA rfl ?_ |refine aU rfl ?_ |refine Aa ?_|(refine aC rfl ?_ ?_<;>rintro⟨⟩)|refine aK ?_|refine aE ?_|refine aB ?_|refine aR ⟨_,rfl,?_⟩)
  have h1:=PD ha (by (simp only[oZ] at *;omega))
  show E.o _=E.o _;congr;unfold Ju;rw [h1]
end Go.Am
namespace Go.Am
open Go
inductive Fits:List Int→List Int→Prop
 | nil:Fits [] []
 | cons {z s:Int} {zs ss:List Int}:0≤s→s < z→Fits zs ss→Fits (z::zs) (s::ss)
def AL:List Int→Int
 | []=>1
 | z::zs=>z*AL zs
theorem Fits.len{zs ss:List Int}(h:Fits zs ss):zs.length=ss.length:=by
 induction h with
 | nil=>rfl
 | cons _ _ _ ih=>simp [ih]
theorem Fits.pos{zs ss:List Int}(h:Fits zs ss):1≤AL zs:=by
 induction h with
 | nil=>simp [AL]
 | @cons z s zs ss h0 h1 _ ih=>
  have:1*1≤z*AL zs:=Int.mul_le_mul (by omega) ih (by omega) (by omega)
  simpa [AL] using this
theorem Fits.enc{zs ss:List Int}(h:Fits zs ss):∀n:Int,0≤n→0≤GB zs ss n∧GB zs ss n < (n+1)*AL zs:=by
 induction h with
 | nil=>intro n hn;simp [GB,AL];omega
 | @cons z s zs ss h0 h1 h2 ih=>
  intro n hn
  have hz:0≤n*z:=Int.mul_nonneg hn (by omega)
  obtain⟨h3,h4⟩:=ih (n*z+s) (by omega)
  refine⟨h3,Int.lt_of_lt_of_le h4 ?_⟩
  rw [AL,←Int.mul_assoc]
  refine Int.mul_le_mul_of_nonneg_right ?_ (by have:=h2.pos;omega)
  rw [Int.add_mul];omega
theorem Fits.take{zs ss:List Int}(h:Fits zs ss):∀k,Fits (zs.take k) (ss.take k)∧AL (zs.take k)≤AL zs:=by
 induction h with
 | nil=>intro k;simp;exact .nil
 | @cons z s zs ss h0 h1 h2 ih=>
  intro k
  cases k with
  | zero=>
   have:=(Fits.cons h0 h1 h2).pos
   exact⟨.nil,by simpa [AL] using this⟩
  | succ k=>
   obtain⟨h3,h4⟩:=ih k
   exact⟨.cons h0 h1 h3,by simp only [List.take_succ_cons,AL];exact Int.mul_le_mul_of_nonneg_left h4 (by omega)⟩
theorem Fits.get{zs ss:List Int}(h:Fits zs ss):∀(k:Nat) (z s:Int),zs[k]? = some z→ss[k]? = some s→0≤s∧s < z:=by
 induction h with
 | nil=>intro k z s hz;simp at hz
 | cons h0 h1 _ ih=>
  intro k z s hz hs
  cases k with
  | zero=>simp at hz hs;subst hz hs;exact⟨h0,h1⟩
  | succ k=>exact ih k z s (by simpa using hz) (by simpa using hs)
theorem NU:∀ {zs ss:List Int} {k:Nat} {z s:Int} (n:Int),zs[k]? = some z→ss[k]? = some s→GB (zs.take (k+1)) (ss.take (k+1)) n=GB (zs.take k) (ss.take k) n*z+s
 | [],_,k,z,s,n,hz,_=>by simp at hz
 | a::zs,[],k,z,s,n,_,hs=>by simp at hs
 | a::zs,b::ss,0,z,s,n,hz,hs=>by
  simp at hz hs;subst hz hs;simp [GB]
 | a::zs,b::ss,k+1,z,s,n,hz,hs=>by
  simp only [List.take_succ_cons,GB]
  exact NU _ (by simpa using hz) (by simpa using hs)
end Go.Am
namespace Go.Am
open Go Go.Proofs
set_option maxHeartbeats 1000000
attribute [local irreducible] A1 BZ Lex Bj Ai Spec
variable {TB:Bh}
theorem X4(n:Net)(st:List Int)(i:Nat)(a:BT)(q:Int)(b:Bool)(ha:n.au[i]? = some a)(hs:st[n.ps.length+i]? = some q)(h0:0≤q)(hb:a.ac[q.toNat]? = some b):Pure Tryz.prog TB 196 [J5 n,Ay st,eI .i64 i] (eB b):=by
 refine eN Tryz.func196 rfl (by kernel_rfl) rfl ?_;intro Γ hΓ
 refine Ai.bound 1 rfl fun hB0=>?_
 have hB:=hB0 (st.map Bv) .refl
 have h1:=(List.getElem?_eq_some_iff.1 hs).1
 have ha':=get_map (g:=BF) ha
 have hs':(st.map Bv)[((n.ps.length:Int)+(i:Int)).toNat]? = some (Bv q):=by
  have:((n.ps.length:Int)+(i:Int)).toNat=n.ps.length+i:=by omega
  rw [this];simp [hs]
 have hb':(a.ac.map Ja)[q.toNat]? = some (Ja b):=by simp [hb]
 (repeat' first|refine sN rfl ?_ |(refine sA rfl ?_ ?_;first|exact tI|simp only[oZ] at *;omega) |(refine s4 rfl ‹_› rfl ?_ ?_;omega) |refine aU rfl ?_ |refine Aa ?_ |refine rE (by kernel_rfl) ?_|(refine aC rfl ?_ ?_<;>rintro⟨⟩)|refine aK ?_|refine aE ?_|refine aB ?_|refine aR ⟨_,rfl,?_⟩)
 rfl
theorem Qe(zs ss:List Int)(hf:Fits zs ss)(hp:AL zs≤4611686018427387904):Pure Tryz.prog TB 169 [Ay zs,Ay ss] (eI .i64 (GB zs ss 0)):=by
 refine eN Tryz.func169 rfl (by kernel_rfl) rfl ?_;intro Γ hΓ
 refine Ai.bound 0 rfl fun hB0=>?_
 have hB:=hB0 (zs.map Bv) .refl
 have hlen:=hf.len
 (repeat' first|refine tA rfl ?_ |refine aU rfl ?_ |refine Aa ?_|(refine aC rfl ?_ ?_<;>rintro⟨⟩)|refine aK ?_|refine aE ?_|refine aB ?_|refine aR ⟨_,rfl,?_⟩)
 refine Ai.Bm (α:={k:Nat // k≤zs.length}) (fun ⟨k,hk⟩=>[(0,Ay zs),(1,Ay ss),(5,eI .i64 (GB (zs.take k) (ss.take k) 0)),(6,eI .i64 k)]) (fun ⟨k,hk⟩=>[]) 0 (fun ⟨k,hk⟩=>zs.length - k) (⟨0,by omega⟩) [] (Fq hΓ rfl rfl) (by (repeat' first|exact tI|rfl|refine And.intro ?_ ?_)) ?_;rintro⟨k,hk⟩;(try dsimp only)
 (repeat first|refine sN rfl ?_ |refine tA rfl ?_ |refine s2 rfl fun _ _hb=>?_ |refine aU rfl ?_ |refine Aa ?_)
 (refine aC rfl ?_ ?_<;>rintro⟨⟩)
 ·obtain⟨x,hx⟩:=get_some (l:=zs) (k:=k) (by (simp only[oZ] at *;omega))
  have hx':=get_map (g:=Bv) hx
  obtain⟨y,hy⟩:=get_some (l:=ss) (k:=k) (by (simp only[oZ] at *;omega))
  have hy':=get_map (g:=Bv) hy
  have h1:=(hf.take k).1.enc 0 (by omega)
  have h2:=(hf.take (k+1)).1.enc 0 (by omega)
  have h3:=(hf.take (k+1)).2
  have h4:=NU 0 hx hy
  have h6:=hf.get k x y hx hy
  have h5:0≤GB (zs.take k) (ss.take k) 0*x:=Int.mul_nonneg h1.1 (by omega)
  (repeat' first|(refine sA rfl ?_ ?_;first|exact tI|omega|simp only[oZ] at *;omega) |(refine s4 rfl ‹_› rfl ?_ ?_;omega) |refine aU rfl ?_ |refine Aa ?_ |refine rE (by kernel_rfl) ?_|(refine aC rfl ?_ ?_<;>rintro⟨⟩)|refine aK ?_|refine aE ?_|refine aB ?_|refine aR ⟨_,rfl,?_⟩)
  refine⟨⟨k+1,by (simp only[oZ] at *;omega)⟩,by dsimp only;((simp only[oZ] at *;omega)),[],?_⟩
  simp[cX,zC,hΓ,h4]
 ·(repeat' first|refine tA rfl ?_ |refine aU rfl ?_ |refine Aa ?_|(refine aC rfl ?_ ?_<;>rintro⟨⟩)|refine aK ?_|refine aE ?_|refine aB ?_|refine aR ⟨_,rfl,?_⟩)
  rw [List.take_of_length_le (by (simp only[oZ] at *;omega)),List.take_of_length_le (by (simp only[oZ] at *;omega))]
def Aj(n:Net):List Int:=n.ps.map (·.st)++n.au.map (fun a=>(a.nx.length:Int))
theorem RG(n:Net)(hsm:n.ps.length+n.au.length≤1000000):Pure Tryz.prog TB 164 [J5 n] (Ay (Aj n)):=by
 refine eN Tryz.func164 rfl (by kernel_rfl) rfl ?_;intro Γ hΓ
 (repeat first|refine aU rfl ?_)
 (refine Af rfl ?_;refine Ci (fun _ _=>C0 rfl rfl rfl) rfl ?_)
 (refine Af rfl ?_;refine Ci (fun _ _=>DA rfl) rfl ?_)
 (repeat first|refine aU rfl ?_ |refine Aa ?_)
 (refine pW rfl ?_ rfl (by rfl);refine Ba rfl rfl rfl rfl (by simp) (by rfl) (by rfl) (by rfl) (by rfl) ?_)
 (repeat first|refine tM rfl ?_ |refine aU rfl ?_ |refine Aa ?_)
 refine aB ?_
 refine Ai.Bm (α:={k:Nat // k≤n.ps.length}) (fun ⟨k,hk⟩=>[(1,.o (.ip (K7 n))),(3,.o (.arr 0 1 0 k)),(4,eI .i64 k)]) (fun ⟨k,hk⟩=>[(0,.cells 3 1 (((n.ps.take k).map (·.st)).map AQ))]) 1 (fun ⟨k,hk⟩=>n.ps.length - k) (⟨0,by omega⟩) [0] (Fq hΓ rfl rfl) (by (simp[cX,zC,hΓ])) ?_;rintro⟨k,hk⟩;(try dsimp only)
 (repeat first|refine sN rfl ?_ |refine tM rfl ?_ |refine s2 rfl fun _ _hb=>?_ |refine aU rfl ?_ |refine Aa ?_)
 (refine aC rfl ?_ ?_<;>rintro⟨⟩)
 ·obtain⟨x,hx⟩:=get_some (l:=n.ps) (k:=k) (by (simp only[oZ] at *;omega))
  have hx':=get_map (g:=B9) hx
  refine aK ?_
  refine aS (aB ?_)
  (repeat first|refine tA rfl ?_ |(refine s4 rfl ‹_› rfl ?_ ?_;omega) |refine aU rfl ?_)
  (refine pW rfl ?_ rfl (by rfl);refine Ax rfl rfl rfl (by first| (simp;done)|(simp;(omega))) rfl (by intro r hr;simp at hr;subst hr;rfl) (by rfl) (Nat.le_of_ble_eq_true rfl) (by simp;omega) ?_)
  (repeat first|(refine sX rfl ?_ ?_;first|exact tI|omega) |refine aU rfl ?_ |refine Aa ?_)
  refine⟨⟨k+1,by (simp only[oZ] at *;omega)⟩,by dsimp only;((simp only[oZ] at *;omega)),[1],?_⟩
  simp[cX,zC,hΓ,List.take_add_one,hx]
 ·obtain rfl:k=n.ps.length:=by (simp only[oZ] at *;omega)
  refine aE ?_
  (repeat first|refine tM rfl ?_ |refine aU rfl ?_ |refine Aa ?_)
  refine aB ?_
  refine Ai.Bm (α:={j:Nat // j≤n.au.length}) (fun ⟨j,hj⟩=>[(1,.o (.ip (K7 n))),(3,.o (.arr 0 1 0 (n.ps.length+j))),(5,eI .i64 j)]) (fun ⟨j,hj⟩=>[(0,.cells 3 1 ((n.ps.map (·.st)++(n.au.take j).map (fun a=>(a.nx.length:Int))).map AQ))]) 1 (fun ⟨j,hj⟩=>n.au.length - j) (⟨0,by omega⟩) [0] (Fq hΓ rfl rfl) (by (simp[cX,zC,hΓ])) ?_;rintro⟨j,hj⟩;(try dsimp only)
  (repeat first|refine sN rfl ?_ |refine tM rfl ?_ |refine s2 rfl fun _ _hb=>?_ |refine aU rfl ?_ |refine Aa ?_)
  (refine aC rfl ?_ ?_<;>rintro⟨⟩)
  ·obtain⟨x,hx⟩:=get_some (l:=n.au) (k:=j) (by (simp only[oZ] at *;omega))
   have hx':=get_map (g:=BF) hx
   refine aK ?_
   refine aS (aB ?_)
   (repeat first|refine sN rfl ?_ |refine tA rfl ?_ |(refine s4 rfl ‹_› rfl ?_ ?_;omega) |refine aU rfl ?_)
   (refine pW rfl ?_ rfl (by rfl);refine Ax rfl rfl rfl (by first| (simp;done)|(simp;(omega))) rfl (by intro r hr;simp at hr;subst hr;rfl) (by rfl) (Nat.le_of_ble_eq_true rfl) (by simp;omega) ?_)
   (repeat first|(refine sX rfl ?_ ?_;first|exact tI|omega) |refine aU rfl ?_ |refine Aa ?_)
   refine⟨⟨j+1,by (simp only[oZ] at *;omega)⟩,by dsimp only;((simp only[oZ] at *;omega)),[1],?_⟩
   simp[cX,zC,hΓ,List.take_add_one,hx,Nat.add_assoc]
  ·obtain rfl:j=n.au.length:=by (simp only[oZ] at *;omega)
   refine aE ?_
   (repeat first|refine tM rfl ?_ |refine aU rfl ?_ |refine Aa ?_)
   refine Ai.freeze [0] [(2,.o (.d (Ez (Aj n))))] ⟨⟨_,rfl,.o (.full (by simp) rfl (by simp [Function.comp_def,Aj]) (by simp))⟩,trivial⟩ ?_
   refine aR ⟨_,rfl,rfl⟩
def BU:List Int→Int→List Int
 | [],_=>[]
 | z::zs,n=>n / AL zs % z::BU zs n
theorem LQ:∀(zs:List Int) (n:Int),(BU zs n).length=zs.length
 | [],_=>rfl
 | z::zs,n=>by simp [BU,LQ zs n]
theorem YB{α:Type}(a x:α)(k:Nat)(L:List α):(List.replicate (k+1) a++L).set k x=List.replicate k a++x::L:=by
 rw [List.set_append_left _ _ (by simp),List.replicate_succ',List.set_append_right _ _ (by simp)]
 simp
theorem KN(zs:List Int)(n:Int)(h0:0≤n)(h1:n≤9223372036854775807)(hz:∀z∈zs,0 < z)(hl:zs.length≤1000000):Pure Tryz.prog TB 167 [Ay zs,eI .i64 n] (Ay (BU zs n)):=by
 have hpp:∀k,0 < AL (zs.drop k):=by
  intro k
  have:∀l:List Int,(∀z∈l,0 < z)→0 < AL l:=by
   intro l
   induction l with
   | nil=>intro _;simp [AL]
   | cons a l ih=>intro h;exact Int.mul_pos (h a (by simp)) (ih fun z hz=>h z (by simp [hz]))
  exact this _ fun z h=>hz z (List.mem_of_mem_drop h)
 refine eN Tryz.func167 rfl (by kernel_rfl) rfl ?_;intro Γ hΓ
 (repeat first|refine aU rfl ?_)
 (refine Af rfl ?_;refine Ci (fun _ _=>DA rfl) rfl ?_)
 (repeat first|refine sN rfl ?_ |refine tM rfl ?_ |refine aU rfl ?_ |refine Aa ?_)
 (refine pW rfl ?_ rfl (by rfl);refine Km rfl rfl (by rfl) (by rfl) (Nat.le_of_ble_eq_true rfl) (by omega) (by omega) (by omega) ?_)
 (repeat first|refine sN rfl ?_ |(refine sM rfl ?_ ?_;first|exact tI|omega) |refine aU rfl ?_ |refine Aa ?_)
 refine aB ?_
 refine Ai.Bm (α:={k:Nat // k≤zs.length}) (fun ⟨k,hk⟩=>[(0,Ay zs),(1,eI .i64 (n / AL (zs.drop k))),(5,.o (.arr 0 1 0 zs.length)),(6,eI .i64 ((k:Int) - 1))]) (fun ⟨k,hk⟩=>[(0,.cells 3 1 ((List.replicate k 0++BU (zs.drop k) n).map AQ))]) 1 (fun ⟨k,hk⟩=>k) (⟨zs.length,by omega⟩) [0] (Fq hΓ rfl rfl) (by (simp[cX,zC,hΓ,BU,AL])) ?_;rintro⟨k,hk⟩;(try dsimp only)
 (repeat first|refine tM rfl ?_ |refine s2 rfl fun _ _hb=>?_ |refine aU rfl ?_ |refine Aa ?_)
 (refine aC rfl ?_ ?_<;>rintro⟨⟩)
 ·obtain⟨k,rfl⟩:∃k',k=k'+1:=⟨k - 1,by (simp only[oZ] at *;omega)⟩
  obtain⟨x,hx⟩:=get_some (l:=zs) (k:=k) (by omega)
  have hx':(zs.map Bv)[(((k+1:Nat):Int) - 1).toNat]? = some (Bv x):=by simp [hx]
  have hxp:=hz x (List.mem_of_getElem? hx)
  have hd:=Cz hx
  have hP:=hpp (k+1)
  have h2:0≤n / AL (zs.drop (k+1)):=Int.ediv_nonneg h0 (by omega)
  have h3:n / AL (zs.drop (k+1))≤n:=Int.ediv_le_self _ h0
  have hi:((((k+1:Nat):Int) - 1).toNat)=k:=by omega
  refine aK ?_
  refine aS (aB ?_)
  (repeat first|(refine sA rfl ?_ ?_;first|exact tI|omega) |(refine s4 rfl ‹_› rfl ?_ ?_;omega) |refine aU rfl ?_)
  (refine Af rfl ?_;refine Gm ?_ rfl (by rfl);refine Di (r:=AQ 0) rfl rfl rfl rfl (by rw [Nat.zero_add,hi,List.getElem?_map,List.getElem?_append_left (by simp)];simp) rfl (Nat.le_of_ble_eq_true rfl) ?_)
  (repeat first|(refine sA rfl ?_ ?_;first|exact tI|omega) |(refine s4 rfl ‹_› rfl ?_ ?_;omega) |refine aU rfl ?_ |refine Aa ?_)
  refine⟨⟨k,by omega⟩,by dsimp only;(omega),[0],?_⟩
  rw [Nat.zero_add,hi]
  have h5:((List.replicate (k+1) (0:Int)++BU (zs.drop (k+1)) n).map AQ).set k (AQ (n / AL (zs.drop (k+1)) % x))=(List.replicate k 0++BU (zs.drop k) n).map AQ:=by
   rw [←List.map_set,YB,hd,BU]
  have h6:n / AL (zs.drop (k+1)) / x=n / AL (zs.drop k):=by
   rw [hd,AL,Int.mul_comm,Int.ediv_ediv_of_nonneg (by omega)]
  have h7:Ag (AQ 0) 0 (eC (eI .i64 (n / AL (zs.drop (k+1)) % x)))=AQ (n / AL (zs.drop (k+1)) % x):=rfl
  rw [h7,h5]
  simp[cX,zC,hΓ,h6]
 ·obtain rfl:k=0:=by (simp only[oZ] at *;omega)
  refine aE ?_
  (repeat first|refine tM rfl ?_ |refine aU rfl ?_ |refine Aa ?_)
  refine Ai.freeze [0] [(4,.o (.d (Ez (BU zs n))))] ⟨⟨_,rfl,.o (.full (by simp) rfl (by simp [Function.comp_def]) (by simp [LQ]))⟩,trivial⟩ ?_
  refine aR ⟨_,rfl,rfl⟩
end Go.Am
namespace Go.Am
open Go
def CM(s:Sys)(q l:Int):List Int:=if Ei s.al l.toNat then (s.es.filter fun e=>decide (e.f=q) && decide (e.l=l)).map (·.t) else [q]
theorem Rj{a b c:Eb}(h:IB a b=true)(k:IB b c=true):IB a c=true:=by
 unfold IB at *;grind
theorem BY{s:Sys}(h:Bw s=true):Bo s.al=true∧1≤s.st∧s.st≤16:=by
 unfold Bw at h;grind
theorem CQ{s:Sys}(h:Bw s=true){e:Eb}(he:e∈s.es):Dc s.al s.st e=true:=by
 obtain⟨k,hk,rfl⟩:=List.getElem_of_mem he
 unfold Bw at h
 simp only [Bool.and_eq_true,List.all_eq_true] at h
 have h1:=h.2 k (List.mem_range.2 hk)
 cases k with
 | zero=>rw [Pl (List.getElem?_eq_getElem hk)] at h1;exact h1
 | succ k=>rw [Lv (List.getElem?_eq_getElem hk) (List.getElem?_eq_getElem (by omega))] at h1;grind
theorem JI{s:Sys}(h:Bw s=true):s.es.Pairwise fun a b=>IB a b=true:=by
 have key:∀(l:List Eb),(∀(k:Nat) (p e:Eb),l[k]? = some p→l[k+1]? = some e→IB p e=true)→l.Pairwise fun a b=>IB a b=true:=by
  intro l
  induction l with
  | nil=>intro _;exact .nil
  | cons a l ih=>
   intro hl
   have h1:=ih fun k p e hp he=>hl (k+1) p e (by simpa using hp) (by simpa using he)
   refine List.pairwise_cons.2 ⟨fun b hb=>?_,h1⟩
   cases l with
   | nil=>cases hb
   | cons c l=>
    have h2:=hl 0 a c rfl rfl
    rcases List.mem_cons.1 hb with rfl|hb
    ·exact h2
    ·exact Rj h2 ((List.pairwise_cons.1 h1).1 b hb)
 refine key _ fun k p e hp he=>?_
 unfold Bw at h
 simp only [Bool.and_eq_true,List.all_eq_true] at h
 have h1:=h.2 (k+1) (List.mem_range.2 (List.getElem?_eq_some_iff.1 he).1)
 rw [Lv he hp] at h1
 grind
theorem P5:∀(l:List Int) (a b:Int),(a::l).Pairwise (· < ·)→(∀x∈a::l,x < b)→a+((l.length:Int)+1)≤b
 | [],a,b,_,h=>by have:=h a (by simp);simp;omega
 | c::l,a,b,hp,h=>by
  have h1:=P5 l c b (List.pairwise_cons.1 hp).2 fun x hx=>h x (by simp at hx ⊢;exact .inr hx)
  have h2:=(List.pairwise_cons.1 hp).1 c (by simp)
  simp;omega
theorem Pm{s:Sys}(h:Bw s=true)(q l:Int):(CM s q l).Pairwise (· < ·):=by
 unfold CM
 split
 ·rw [List.pairwise_map]
  refine List.Pairwise.imp_of_mem (fun {a b} ha hb hab=>?_) ((JI h).filter _)
  have h1:=(List.mem_filter.1 ha).2
  have h2:=(List.mem_filter.1 hb).2
  unfold IB at hab
  grind
 ·simp
theorem QS{s:Sys}(h:Bw s=true){q l:Int}(h0:0≤q)(h1:q < s.st){x:Int}(hx:x∈CM s q l):0≤x∧x < s.st:=by
 unfold CM at hx
 split at hx
 ·obtain⟨e,he,rfl⟩:=List.mem_map.1 hx
  have h2:=CQ h (List.mem_filter.1 he).1
  unfold Dc at h2
  grind
 ·simp at hx;subst hx;exact⟨h0,h1⟩
theorem Oz{s:Sys}(h:Bw s=true){q l:Int}(h0:0≤q)(h1:q < s.st):((CM s q l).length:Int)≤s.st:=by
 have h2:=Pm h q l
 have h3:∀x∈CM s q l,0≤x∧x < s.st:=fun x hx=>QS h h0 h1 hx
 generalize CM s q l=m at h2 h3
 cases m with
 | nil=>simp;omega
 | cons a m=>
  have h4:=P5 m a s.st h2 fun x hx=>(h3 x hx).2
  have h5:=h3 a (by simp)
  simp;omega
theorem Ej{a:BT}(h:A5 a=true){q:Nat}(hq:q < a.nx.length){l:Int}(h0:0≤l)(h1:l < 6):0≤CW a q l∧CW a q l < a.nx.length:=by
 obtain⟨row,hr,hl,hx⟩:=HI h hq
 unfold CW
 split
 ·rename_i hb
  have hlt:(AG a.al l.toNat).length < row.length:=by rw [hl];exact Jo (by omega) hb
  obtain⟨y,hy⟩:=get_some hlt
  have:=hx _ y hy
  simpa [List.getD,hr,hy] using this
 ·omega
structure Ee (n:Net):Prop where
 ps:∀s∈n.ps,Bw s=true
 au:∀a∈n.au,A5 a=true
 np:n.ps.length≤3
 na:n.au.length≤2
def K2(n:Net)(st:List Int)(l:Int):List (List Int):=n.ps.zipWith (fun s q=>CM s q l) st++n.au.zipWith (fun a q=>[CW a q.toNat l]) (st.drop n.ps.length)
def GL:List Int→List (List Int)→List Int→List Int
 | z::zs,c::cs,out=>GL zs cs (out.flatMap fun o=>c.map fun x=>o*z+x)
 | _,_,out=>out
def Fc(n:Net)(zs st:List Int)(l:Int):List Int:=GL zs (K2 n st l) [0]
inductive FF:List Int→List (List Int)→Prop
 | nil:FF [] []
 | cons {z:Int} {c:List Int} {zs:List Int} {cs:List (List Int)}:(∀x∈c,0≤x∧x < z)→(c.length:Int)≤z→FF zs cs→FF (z::zs) (c::cs)
theorem Od:∀ {zs:List Int} {cs:List (List Int)} {k:Nat} {z:Int} {c:List Int} (out:List Int),zs[k]? = some z→cs[k]? = some c→
 GL (zs.take (k+1)) (cs.take (k+1)) out=(GL (zs.take k) (cs.take k) out).flatMap fun o=>c.map fun x=>o*z+x
 | [],_,k,z,s,n,hz,_=>by simp at hz
 | a::zs,[],k,z,s,n,_,hs=>by simp at hs
 | a::zs,b::ss,0,z,s,n,hz,hs=>by
  simp at hz hs;subst hz hs;simp [GL]
 | a::zs,b::ss,k+1,z,s,n,hz,hs=>by
  simp only [List.take_succ_cons,GL]
  exact Od _ (by simpa using hz) (by simpa using hs)
theorem PT{α β:Type}(l:List α)(g:α→List β)(n:Int)(h:∀x∈l,((g x).length:Int)≤n):((l.flatMap g).length:Int)≤l.length*n:=by
 induction l with
 | nil=>simp
 | cons a l ih=>
  have h1:=h a (by simp)
  have h2:=ih fun x hx=>h x (by simp [hx])
  simp only [List.flatMap_cons,List.length_append,List.length_cons]
  have h3:((l.length:Int)+1)*n=l.length*n+n:=by rw [Int.add_mul];simp
  push_cast
  omega
theorem Td{zs:List Int}{cs:List (List Int)}(h:FF zs cs):∀(out:List Int) (B:Int),(∀o∈out,0≤o∧o < B)→0≤B→(out.length:Int)≤B→
 (∀v∈GL zs cs out,0≤v∧v < B*AL zs)∧((GL zs cs out).length:Int)≤B*AL zs:=by
 induction h with
 | nil=>intro out B ho hB hl;simp [GL,AL];exact⟨ho,hl⟩
 | @cons z c zs cs hc hcl _ ih=>
  intro out B ho hB hl
  have hz:0≤z:=by omega
  have h1:=ih (out.flatMap fun o=>c.map fun x=>o*z+x) (B*z) (fun v hv=>by
   obtain⟨o,ho',hv⟩:=List.mem_flatMap.1 hv
   obtain⟨x,hx,rfl⟩:=List.mem_map.1 hv
   obtain⟨h2,h3⟩:=ho o ho'
   obtain⟨h4,h5⟩:=hc x hx
   have h6:0≤o*z:=Int.mul_nonneg h2 hz
   have h7:(o+1)*z≤B*z:=Int.mul_le_mul_of_nonneg_right (by omega) hz
   rw [Int.add_mul] at h7
   omega) (Int.mul_nonneg hB hz) (by
    have h2:=PT out (fun o=>c.map fun x=>o*z+x) z (fun x _=>by simpa using hcl)
    have h3:(out.length:Int)*z≤B*z:=Int.mul_le_mul_of_nonneg_right hl hz
    omega)
  rw [GL,AL,←Int.mul_assoc]
  exact h1
theorem FF.take{zs:List Int}{cs:List (List Int)}(h:FF zs cs):∀k,FF (zs.take k) (cs.take k):=by
 induction h with
 | nil=>intro k;simp;exact .nil
 | cons h1 h2 h3 ih=>
  intro k
  cases k with
  | zero=>exact .nil
  | succ k=>exact .cons h1 h2 (ih k)
theorem FF.get{zs:List Int}{cs:List (List Int)}(h:FF zs cs):∀(k:Nat) (z:Int) (c:List Int),zs[k]? = some z→cs[k]? = some c→(∀x∈c,0≤x∧x < z)∧(c.length:Int)≤z:=by
 induction h with
 | nil=>intro k z s hz;simp at hz
 | cons h0 h1 _ ih=>
  intro k z s hz hs
  cases k with
  | zero=>simp at hz hs;subst hz hs;exact⟨h0,h1⟩
  | succ k=>exact ih k z s (by simpa using hz) (by simpa using hs)
theorem FF.len{zs:List Int}{cs:List (List Int)}(h:FF zs cs):zs.length=cs.length:=by
 induction h with
 | nil=>rfl
 | cons _ _ _ ih=>simp [ih]
theorem Fits.split{zs zs' ss:List Int}(h:Fits (zs++zs') ss):Fits zs (ss.take zs.length)∧Fits zs' (ss.drop zs.length):=by
 induction zs generalizing ss with
 | nil=>exact⟨.nil,h⟩
 | cons a zs ih=>
  cases h with
  | cons h0 h1 h2=>exact⟨.cons h0 h1 (ih h2).1,(ih h2).2⟩
theorem FF.app{zs zs':List Int}{cs cs':List (List Int)}(h:FF zs cs)(h':FF zs' cs'):FF (zs++zs') (cs++cs'):=by
 induction h with
 | nil=>exact h'
 | cons h0 h1 _ ih=>exact .cons h0 h1 ih
theorem GX{α β γ:Type}(f:α→β→γ):∀(l:List α) (m:List β),l.zipWith f m=l.zipWith f (m.take l.length)
 | [],_=>by simp
 | a::l,[]=>by simp
 | a::l,b::m=>by simp [GX f l m]
theorem Je{n:Net}(hn:Ee n){st:List Int}(hf:Fits (Aj n) st){l:Int}(h0:0≤l)(h1:l < 6):FF (Aj n) (K2 n st l):=by
 unfold Aj at *
 obtain⟨ha,hb⟩:=hf.split
 rw [List.length_map] at ha hb
 unfold K2
 refine FF.app ?_ ?_
 ·have : n.ps.zipWith (fun s q=>CM s q l) st=n.ps.zipWith (fun s q=>CM s q l) (st.take n.ps.length):=by
   exact GX _ _ _
  rw [this]
  have hp:=hn.ps
  generalize st.take n.ps.length=ss at ha
  generalize n.ps=ps at ha hp
  induction ps generalizing ss with
  | nil=>cases ha;exact .nil
  | cons s ps ih=>
   cases ha with
   | cons h2 h3 h4=>
    have hs:=hp s (by simp)
    exact .cons (fun x hx=>QS hs h2 h3 hx) (Oz hs h2 h3) (ih _ h4 fun t ht=>hp t (by simp [ht]))
 ·have hp:=hn.au
  generalize st.drop n.ps.length=ss at hb
  generalize n.au=au at hb hp
  induction au generalizing ss with
  | nil=>cases hb;exact .nil
  | cons s ps ih=>
   cases hb with
   | @cons _ q _ _ h2 h3 h4=>
    have hs:=hp s (by simp)
    dsimp only at h3
    have h5:=Ej hs (q:=q.toNat) (by omega) h0 h1
    exact .cons (fun x hx=>by simp at hx;subst hx;exact h5) (by dsimp only;simp;omega) (ih _ h4 fun t ht=>hp t (by simp [ht]))
theorem Gq{n:Net}(hn:Ee n):∀z∈Aj n,1≤z∧z≤16:=by
 intro z hz
 unfold Aj at hz
 rcases List.mem_append.1 hz with h|h
 ·obtain⟨s,hs,rfl⟩:=List.mem_map.1 h
  have:=BY (hn.ps s hs)
  omega
 ·obtain⟨a,ha,rfl⟩:=List.mem_map.1 h
  have:=AI (hn.au a ha)
  omega
theorem MB:∀(l:List Int),(∀z∈l,1≤z∧z≤16)→1≤AL l∧AL l≤16 ^ l.length
 | [],_=>by simp [AL]
 | z::l,h=>by
  obtain⟨h1,h2⟩:=MB l fun x hx=>h x (by simp [hx])
  obtain⟨h3,h4⟩:=h z (by simp)
  have h5:z*AL l≤16*16 ^ l.length:=Int.mul_le_mul h4 h2 (by omega) (by omega)
  have h6:1*1≤z*AL l:=Int.mul_le_mul h3 h1 (by omega) (by omega)
  have h7:(16:Int) ^ (l.length+1)=16*16 ^ l.length:=by rw [Int.pow_succ,Int.mul_comm]
  simp only [AL,List.length_cons,h7]
  exact⟨by simpa using h6,h5⟩
theorem Lq{n:Net}(hn:Ee n):1≤AL (Aj n)∧AL (Aj n)≤1048576:=by
 obtain⟨h1,h2⟩:=MB _ (Gq hn)
 refine⟨h1,Int.le_trans h2 ?_⟩
 have h3:(Aj n).length≤5:=by unfold Aj;have:=hn.np;have:=hn.na;simp;omega
 generalize (Aj n).length=k at h3
 have:k=0∨k=1∨k=2∨k=3∨k=4∨k=5:=by omega
 rcases this with rfl|rfl|rfl|rfl|rfl|rfl<;>decide
end Go.Am
namespace Go.Am
open Go Go.Proofs
set_option maxHeartbeats 1000000
attribute [local irreducible] A1 BZ Lex Bj Ai Spec
variable {TB:Bh}
theorem Nq(n:Net)(i:Nat)(a:BT)(q:Nat)(l:Int)(ha:n.au[i]? = some a)(hok:A5 a=true)(hq:q < a.nx.length)(h0:0≤l)(h1:l < 6)(hnp:n.ps.length≤3)(hna:n.au.length≤2) :
 Pure Tryz.prog TB 206 [J5 n,eI .i64 (n.ps.length+i),eI .i64 q,eI .i64 l] (Ay [CW a q l]):=by
 have hi:=(List.getElem?_eq_some_iff.1 ha).1
 have ha':=get_map (g:=BF) ha
 have he:((n.ps.length:Int)+i - n.ps.length).toNat=((i:Nat):Int).toNat:=by omega
 have ha2:(n.au.map BF)[((n.ps.length:Int)+i - n.ps.length).toNat]? = some (BF a):=by rw [he];exact ha'
 refine eN Tryz.func206 rfl (by kernel_rfl) rfl ?_;intro Γ hΓ
 (repeat' first|refine sN rfl ?_ |(refine sA rfl ?_ ?_;first|exact tI|omega) |(refine s4 rfl ‹_› rfl ?_ ?_;omega) |refine s2 rfl fun _ _hb=>?_ |(refine sC rfl (HR a hok q hq l h0 h1) ?_;intro _ _hb)|refine sP rfl (HR a hok q hq l h0 h1) rfl ?_ |refine aU rfl ?_ |refine Aa ?_|(refine aC rfl ?_ ?_<;>rintro⟨⟩)|refine aK ?_|refine aE ?_|refine aB ?_|refine aR ⟨_,rfl,?_⟩)
 all_goals first| rfl|(exfalso;(simp only[oZ] at *;omega))
theorem Nr(n:Net)(i:Nat)(s:Sys)(q l:Int)(hs:n.ps[i]? = some s)(hok:Bw s=true)(hq0:0≤q)(hq1:q < s.st)(h0:0≤l)(h1:l < 6)(hnp:n.ps.length≤3) :
    Pure Tryz.prog TB 206 [J5 n,eI .i64 i,eI .i64 q,eI .i64 l] (Ay (CM s q l)):=by
  have hi:=(List.getElem?_eq_some_iff.1 hs).1
  have hs':=get_map (g:=B9) hs
  refine eN Tryz.func206 rfl (by kernel_rfl) rfl ?_;intro Γ hΓ
  (repeat first|refine aU rfl ?_)
  (refine Af rfl ?_;refine Ci (fun _ _=>C0 rfl rfl rfl) rfl ?_)
  (refine Af rfl ?_;refine Ci (fun _ _=>DA rfl) rfl ?_)
  (repeat first|refine sN rfl ?_ |refine tM rfl ?_ |refine s2 rfl fun _ _hb=>?_ |(refine sC rfl (CS _ _ (by omega) (by omega)) ?_;intro _ _hb) |refine aU rfl ?_ |refine Aa ?_)
  (refine aC rfl ?_ ?_<;>rintro⟨⟩)
  · exfalso;(simp only[oZ] at *;omega)
  refine aK ?_
  (repeat first|refine tM rfl ?_ |(refine s4 rfl ‹_› rfl ?_ ?_;omega) |refine s2 rfl fun _ _hb=>?_ |(refine sC rfl (CS _ _ (by omega) (by omega)) ?_;intro _ _hb) |refine aU rfl ?_ |refine Aa ?_)
  (refine aC rfl ?_ ?_<;>rintro⟨⟩)
  · (repeat' first|refine tA rfl ?_ |refine aU rfl ?_ |refine Aa ?_|(refine aC rfl ?_ ?_<;>rintro⟨⟩)|refine aK ?_|refine aE ?_|refine aB ?_|refine aR ⟨_,rfl,?_⟩)
    rw [show CM s q l=[q] by unfold CM;rw [if_neg (by grind)]];rfl
  refine aK ?_
  (repeat first|refine aU rfl ?_)
  (refine pW rfl ?_ rfl (by rfl);refine Ba rfl rfl rfl rfl (by simp) (by rfl) (by rfl) (by rfl) (by rfl) ?_)
  (repeat first|refine tM rfl ?_ |(refine s4 rfl ‹_› rfl ?_ ?_;omega) |refine aU rfl ?_ |refine Aa ?_)
  refine Ai.bound 10 rfl fun hB=>?_
  have hB:=hB _ .refl
  rw [List.length_map] at hB
  refine aB ?_
  have hb2:Ei s.al l.toNat=true:=by grind
  refine Ai.Bm (α:={k:Nat // k≤s.es.length}) (fun ⟨k,hk⟩=>[(2,eI .i64 q),(3,eI .i64 l),(9,.o (.arr 0 1 0 (CM { s with es:=s.es.take k } q l).length)),(10,YQ s.es),(11,eI .i64 k)]) (fun ⟨k,hk⟩=>[(0,.cells 3 1 ((CM { s with es:=s.es.take k } q l).map AQ))]) 1 (fun ⟨k,hk⟩=>s.es.length - k) (⟨0,by omega⟩) [0] (Fq hΓ rfl rfl) (by (simp[cX,zC,hΓ,CM,hb2])) ?_;rintro⟨k,hk⟩;(try dsimp only)
  (repeat first|refine sN rfl ?_ |refine tM rfl ?_ |refine s2 rfl fun _ _hb=>?_ |refine aU rfl ?_ |refine Aa ?_)
  have hlen:∀k,(CM { s with es:=s.es.take k } q l).length≤16:=by
    intro k
    have h1:=Oz hok (l:=l) hq0 hq1
    have h2:=BY hok
    have h3:(CM { s with es:=s.es.take k } q l).length≤(CM s q l).length:=by
      simp only [CM,hb2,if_true,List.length_map]
      exact((List.take_sublist k s.es).filter _).length_le
    omega
  have hst:∀e,s.es[k]? = some e→CM { s with es:=s.es.take (k+1) } q l=CM { s with es:=s.es.take k } q l++if e.f=q∧e.l=l then [e.t] else []:=by
    intro e he
    simp only [CM,hb2,if_true,List.take_add_one,he,Option.toList_some,List.filter_append,List.map_append,List.filter_cons,List.filter_nil]
    grind
  (refine aC rfl ?_ ?_<;>rintro⟨⟩)
  · obtain⟨e,he⟩:=get_some (l:=s.es) (k:=k) (by (simp only[oZ] at *;omega))
    have he':=get_map (g:=Dk) he
    have hst:=hst e he
    refine aK ?_
    refine aS (aB ?_)
    (repeat' first|(refine sM rfl ?_ ?_;first|exact tI|simp only[oZ] at *;omega) |(refine s4 rfl ‹_› rfl ?_ ?_;omega) |refine s2 rfl fun _ _hb=>?_ |refine s3 rfl ?_ ?_<;>rintro rfl |refine aU rfl ?_ |refine Aa ?_|(refine aC rfl ?_ ?_<;>rintro⟨⟩)|refine aK ?_|refine aE ?_|refine aB ?_|refine aR ⟨_,rfl,?_⟩)
    all_goals first
      | (rw [if_pos (by grind)] at hst
         (repeat first|refine tA rfl ?_)
         (refine pW rfl ?_ rfl (by rfl);refine Ax rfl rfl rfl (by first| (simp;done)|(simp;(omega))) rfl (by intro r hr;simp at hr;subst hr;rfl) (by rfl) (Nat.le_of_ble_eq_true rfl) (by have:=hlen k;simp;omega) ?_)
         (repeat first|(refine sX rfl ?_ ?_;first|exact tI|simp only[oZ] at *;omega) |refine aU rfl ?_ |refine Aa ?_)
         refine⟨⟨k+1,by (simp only[oZ] at *;omega)⟩,by dsimp only;((simp only[oZ] at *;omega)),[1],?_⟩
         simp[cX,zC,hΓ,hst]
         done)
      | (rw [if_neg (by grind),List.append_nil] at hst
         refine⟨⟨k+1,by (simp only[oZ] at *;omega)⟩,by dsimp only;((simp only[oZ] at *;omega)),[0],?_⟩
         simp[cX,zC,hΓ,hst]
         done)
  · obtain rfl:k=s.es.length:=by (simp only[oZ] at *;omega)
    refine aE ?_
    (repeat first|refine tM rfl ?_ |refine aU rfl ?_ |refine Aa ?_)
    refine Ai.freeze [0] [(8,.o (.d (Ez (CM s q l))))] ⟨⟨_,rfl,.o (.full (by simp) rfl (by simp [Function.comp_def]) (by simp))⟩,trivial⟩ ?_
    refine aR ⟨_,rfl,rfl⟩
theorem OV{n:Net}(hn:Ee n){st:List Int}(hf:Fits (Aj n) st){l:Int}(h0:0≤l)(h1:l < 6){i:Nat}{c:List Int}{q:Int}(hc:(K2 n st l)[i]? = some c)(hq:st[i]? = some q) :
 Pure Tryz.prog TB 206 [J5 n,eI .i64 i,eI .i64 q,eI .i64 l] (Ay c):=by
 have hlen:=hf.len
 unfold Aj at hlen
 simp only [List.length_append,List.length_map] at hlen
 have hsq:=(hf.get i)
 have hlz:(n.ps.zipWith (fun s q=>CM s q l) st).length=n.ps.length:=by rw [List.length_zipWith];omega
 have hiq:=(List.getElem?_eq_some_iff.1 hq).1
 unfold K2 at hc
 by_cases hi:i < n.ps.length
 ·rw [List.getElem?_append_left (by omega)] at hc
  obtain⟨s,hs⟩:=get_some hi
  rw [List.getElem?_zipWith,hs,hq] at hc
  simp only [Option.some.injEq] at hc
  subst hc
  have h2:=hsq s.st q (by unfold Aj;rw [List.getElem?_append_left (by simpa using hi)];simp [hs]) hq
  exact Nr n i s q l hs (hn.ps s (List.mem_of_getElem? hs)) h2.1 h2.2 h0 h1 hn.np
 ·obtain⟨j,rfl⟩:∃j,i=n.ps.length+j:=⟨i - n.ps.length,by omega⟩
  rw [List.getElem?_append_right (by omega),hlz] at hc
  have e:n.ps.length+j - n.ps.length=j:=by omega
  rw [e] at hc
  have hj:j < n.au.length:=by omega
  obtain⟨a,ha⟩:=get_some hj
  rw [List.getElem?_zipWith,ha,List.getElem?_drop,hq] at hc
  simp only [Option.some.injEq] at hc
  subst hc
  have h2:=hsq a.nx.length q (by unfold Aj;rw [List.getElem?_append_right (by simp)];simp [ha]) hq
  have h3:=Nq (TB:=TB) n j a q.toNat l ha (hn.au a (List.mem_of_getElem? ha)) (by omega) h0 h1 hn.np hn.na
  have e2:((q.toNat:Nat):Int)=q:=by omega
  rw [e2] at h3
  push_cast
  exact h3
theorem Qq{n:Net}(hn:Ee n){st:List Int}(hf:Fits (Aj n) st){l:Int}(h0:0≤l)(h1:l < 6)(k:Nat) :
 (∀v∈GL ((Aj n).take k) ((K2 n st l).take k) [0],0≤v∧v < 1048576)∧(GL ((Aj n).take k) ((K2 n st l).take k) [0]).length≤1048576:=by
 have h2:=Td ((Je hn hf h0 h1).take k) [0] 1 (by simp) (by omega) (by simp)
 have h3:=(hf.take k).2
 have h4:=Lq hn
 rw [Int.one_mul] at h2
 exact⟨fun v hv=>by have:=h2.1 v hv;omega,by omega⟩
theorem RF{n:Net}(hn:Ee n){st:List Int}(hf:Fits (Aj n) st){l:Int}(h0:0≤l)(h1:l < 6) :
 Pure Tryz.prog TB 195 [J5 n,Ay (Aj n),Ay st,eI .i64 l] (Ay (Fc n (Aj n) st l)):=by
 have hch:=Je hn hf h0 h1
 have hbd:=Qq hn hf h0 h1
 have hpr:=Lq hn
 have hfl:=hf.len
 have hcl:=hch.len
 unfold Fc
 have hcall:∀(i:Nat) (c:List Int) (q:Int),(K2 n st l)[i]? = some c→st[i]? = some q→Pure Tryz.prog TB 206 [J5 n,eI .i64 i,eI .i64 q,eI .i64 l] (Ay c):=fun i c q=>OV hn hf h0 h1
 have hzl:(Aj n).length≤5:=by unfold Aj;have:=hn.np;have:=hn.na;simp;omega
 have hpos:=Gq hn
 generalize K2 n st l=cs at *
 generalize Aj n=zs at *
 refine eN Tryz.func195 rfl (by kernel_rfl) rfl ?_;intro Γ hΓ
 (repeat first|refine aU rfl ?_)
 (refine Af rfl ?_;refine Ci (fun _ _=>C0 rfl rfl rfl) rfl ?_)
 (refine Af rfl ?_;refine Ci (fun _ _=>DA rfl) rfl ?_)
 (repeat first|refine tA rfl ?_ |refine aU rfl ?_ |refine Aa ?_)
 refine aB ?_
 refine Ai.Bm (α:={k:Nat // k≤zs.length}) (fun ⟨k,hk⟩=>[(1,Ay zs),(2,Ay st),(3,eI .i64 l),(4,.o (.ip (K7 n))),(9,Ay (GL (zs.take k) (cs.take k) [0])),(10,eI .i64 k)]) (fun ⟨k,hk⟩=>[]) 0 (fun ⟨k,hk⟩=>zs.length - k) (⟨0,by omega⟩) [] (Fq hΓ rfl rfl) (by (simp[cX,zC,hΓ,GL])) ?_;rintro⟨k,hk⟩;(try dsimp only)
 (repeat first|refine sN rfl ?_ |refine tA rfl ?_ |refine s2 rfl fun _ _hb=>?_ |refine aU rfl ?_ |refine Aa ?_)
 (refine aC rfl ?_ ?_<;>rintro⟨⟩)
 ·obtain⟨z,hz⟩:=get_some (l:=zs) (k:=k) (by (simp only[oZ] at *;omega))
  have hz':=get_map (g:=Bv) hz
  obtain⟨c,hc⟩:=get_some (l:=cs) (k:=k) (by (simp only[oZ] at *;omega))
  obtain⟨q,hq⟩:=get_some (l:=st) (k:=k) (by (simp only[oZ] at *;omega))
  have hq':=get_map (g:=Bv) hq
  have hst:=Od [0] hz hc
  have hb0:=hbd k
  have hb1:=(hbd (k+1)).2
  have hzz:=hpos z (List.mem_of_getElem? hz)
  obtain⟨hcx,hcn⟩:=hch.get k z c hz hc
  rw [hst] at hb1
  generalize GL (zs.take k) (cs.take k) [0]=out at *
  refine aK ?_
  refine aS (aB ?_)
  (repeat first|refine tM rfl ?_ |(refine s4 rfl ‹_› rfl ?_ ?_;omega) |refine sP rfl (hcall k c q hc hq) rfl ?_ |refine aU rfl ?_ |refine Aa ?_ |refine rE (by kernel_rfl) ?_)
  (refine pW rfl ?_ rfl (by rfl);refine Ba rfl rfl rfl rfl (by simp) (by rfl) (by rfl) (by rfl) (by rfl) ?_)
  (repeat first|refine tM rfl ?_ |refine aU rfl ?_ |refine Aa ?_)
  refine aB ?_
  have hlen:∀m,(((out.take m).flatMap fun o=>c.map fun x=>o*z+x).length:Int)≤16777216:=by
   intro m
   have h2:=PT (out.take m) (fun o=>c.map fun x=>o*z+x) 16 (fun x _=>by simp;omega)
   have h3:(out.take m).length≤out.length:=by simp;omega
   omega
  refine Ai.Bm (α:={m:Nat // m≤out.length}) (fun ⟨m,hm⟩=>[(1,Ay zs),(2,Ay st),(3,eI .i64 l),(4,.o (.ip (K7 n))),(9,Ay out),(10,eI .i64 k),(11,Ay c),(12,.o (.arr 0 1 0 ((out.take m).flatMap fun o=>c.map fun x=>o*z+x).length)),(13,eI .i64 m)]) (fun ⟨m,hm⟩=>[(0,.cells 3 1 (((out.take m).flatMap fun o=>c.map fun x=>o*z+x).map AQ))]) 1 (fun ⟨m,hm⟩=>out.length - m) (⟨0,by omega⟩) [0] (Fq hΓ rfl rfl) (by (simp[cX,zC,hΓ])) ?_;rintro⟨m,hm⟩;(try dsimp only)
  (repeat first|refine sN rfl ?_ |refine tM rfl ?_ |refine s2 rfl fun _ _hb=>?_ |refine aU rfl ?_ |refine Aa ?_)
  (refine aC rfl ?_ ?_<;>rintro⟨⟩)
  ·obtain⟨o,ho⟩:=get_some (l:=out) (k:=m) (by (simp only[oZ] at *;omega))
   have ho':=get_map (g:=Bv) ho
   have hob:=hb0.1 o (List.mem_of_getElem? ho)
   have hlm:=hlen m
   have h16:0≤o*z∧o*z≤16777216:=⟨Int.mul_nonneg hob.1 (by omega),by
    have h5:o*z≤o*16:=Int.mul_le_mul_of_nonneg_left hzz.2 hob.1
    omega⟩
   have hfm:(out.take (m+1)).flatMap (fun o=>c.map fun x=>o*z+x)=(out.take m).flatMap (fun o=>c.map fun x=>o*z+x)++c.map fun x=>o*z+x:=by
    rw [List.take_add_one,ho];simp
   refine aK ?_
   refine aS (aB ?_)
   (repeat first|refine tM rfl ?_ |refine aU rfl ?_ |refine Aa ?_)
   refine aB ?_
   generalize (out.take m).flatMap (fun o=>c.map fun x=>o*z+x)=pre at *
   refine Ai.Bm (α:={j:Nat // j≤c.length}) (fun ⟨j,hj⟩=>[(1,Ay zs),(2,Ay st),(3,eI .i64 l),(4,.o (.ip (K7 n))),(9,Ay out),(10,eI .i64 k),(11,Ay c),(12,.o (.arr 0 1 0 (pre.length+j))),(13,eI .i64 m),(14,eI .i64 j)]) (fun ⟨j,hj⟩=>[(0,.cells 3 1 ((pre++(c.take j).map fun x=>o*z+x).map AQ))]) 1 (fun ⟨j,hj⟩=>c.length - j) (⟨0,by omega⟩) [0] (Fq hΓ rfl rfl) (by (simp[cX,zC,hΓ])) ?_;rintro⟨j,hj⟩;(try dsimp only)
   (repeat first|refine sN rfl ?_ |refine tM rfl ?_ |refine s2 rfl fun _ _hb=>?_ |refine aU rfl ?_ |refine Aa ?_)
   (refine aC rfl ?_ ?_<;>rintro⟨⟩)
   ·obtain⟨x,hx⟩:=get_some (l:=c) (k:=j) (by (simp only[oZ] at *;omega))
    have hx':=get_map (g:=Bv) hx
    have hxb:=hcx x (List.mem_of_getElem? hx)
    refine aK ?_
    refine aS (aB ?_)
    refine rG (HN [16]) (by kernel_rfl) ?_
    (repeat first|(refine sA rfl ?_ ?_;first|exact tI|omega) |(refine s4 rfl ‹_› rfl ?_ ?_;omega))
    (refine pW rfl ?_ rfl (by rfl);refine Ax rfl rfl rfl (by first| (simp;done)|(simp;(omega))) rfl (by intro r hr;simp at hr;subst hr;rfl) (by rfl) (Nat.le_of_ble_eq_true rfl) (by simp;omega) ?_)
    (repeat first|(refine sX rfl ?_ ?_;first|exact tI|omega) |refine aU rfl ?_ |refine Aa ?_)
    refine⟨⟨j+1,by (simp only[oZ] at *;omega)⟩,by dsimp only;((simp only[oZ] at *;omega)),[1],?_⟩
    simp[cX,zC,hΓ,List.take_add_one,hx,Nat.add_assoc]
   ·obtain rfl:j=c.length:=by (simp only[oZ] at *;omega)
    refine aE ?_
    (repeat first|(refine sM rfl ?_ ?_;first|exact tI|omega) |refine aU rfl ?_ |refine Aa ?_)
    refine⟨⟨m+1,by (simp only[oZ] at *;omega)⟩,by dsimp only;((simp only[oZ] at *;omega)),[0],?_⟩
    simp[cX,zC,hΓ,hfm]
  ·obtain rfl:m=out.length:=by (simp only[oZ] at *;omega)
   refine aE ?_
   rw [List.take_length] at *
   refine Ai.freeze [0] [(1,Ay zs),(2,Ay st),(3,eI .i64 l),(4,.o (.ip (K7 n))),(10,eI .i64 k),(12,Ay (out.flatMap fun o=>c.map fun x=>o*z+x))] ⟨⟨_,rfl,.Bb⟩,⟨_,rfl,.Bb⟩,⟨_,rfl,.Bb⟩,⟨_,rfl,.Bb⟩,⟨_,rfl,.Bb⟩,⟨_,rfl,.o (.full (by simp) rfl (by simp [Function.comp_def]) (by simp))⟩,trivial⟩ ?_
   (repeat first|(refine sA rfl ?_ ?_;first|exact tI|omega) |refine aU rfl ?_ |refine Aa ?_)
   refine⟨⟨k+1,by (simp only[oZ] at *;omega)⟩,by dsimp only;((simp only[oZ] at *;omega)),[],?_⟩
   simp[cX,zC,hΓ,hst]
 ·obtain rfl:k=zs.length:=by (simp only[oZ] at *;omega)
  rw [List.take_of_length_le (by omega),List.take_of_length_le (by omega)]
  (repeat' first|refine tA rfl ?_ |refine aU rfl ?_ |refine Aa ?_|(refine aC rfl ?_ ?_<;>rintro⟨⟩)|refine aK ?_|refine aE ?_|refine aB ?_|refine aR ⟨_,rfl,?_⟩)
  all_goals rfl
end Go.Am
