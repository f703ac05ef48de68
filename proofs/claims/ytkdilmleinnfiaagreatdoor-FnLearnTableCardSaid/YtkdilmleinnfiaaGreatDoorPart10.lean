/-
  Rows and automata.
-/
import Derived.Test.YtkdilmleinnfiaaGreatDoorPart9
set_option linter.constructorNameAsVariable false
set_option linter.unusedSectionVars false
set_option linter.unusedSimpArgs false
set_option linter.unusedVariables false
namespace Go.Am
open Go Go.Proofs
set_option maxHeartbeats 1000000
set_option maxRecDepth 4000
attribute [local irreducible] AY B2 Lex Br Ak Spec
variable {TB:Bw}
theorem UE(row:List Int)(ls n:Int):Pure Tryz.prog TB 191 [Aj row,eI .i64 ls,eI .i64 n] (eB (DN ls n row)):=by
 refine eN Tryz.func191 rfl (by kernel_rfl) rfl ?_;intro Γ hΓ
 (repeat' first|refine sN rfl ?_ |refine tA rfl ?_ |refine s2 rfl fun _ _hb=>?_ |refine aU rfl ?_ |refine Aa ?_|(refine aC rfl ?_ ?_<;>rintro⟨⟩)|refine aK ?_|refine aE ?_|refine aB ?_|refine aR ⟨_,rfl,?_⟩)
 ·show E.o _=E.o _;congr;unfold DN;grind
 refine Ak.bound 0 rfl fun hB=>?_
 have hB:=hB _ .refl
 rw [List.length_map] at hB
 refine Ak.A4 (α:={k:Nat // k≤row.length∧(row.take k).all (NO n)=true}) (fun ⟨k,hk,ha⟩=>[(0,Aj row),(2,eI .i64 n),(7,eI .i64 k)]) (fun ⟨k,hk,ha⟩=>[]) 0 (fun ⟨k,hk,ha⟩=>row.length - k) (⟨0,by omega,rfl⟩) [] (Eb hΓ rfl rfl) (by (simp[cX,zC,hΓ])) ?_;rintro⟨k,hk,ha⟩;(try dsimp only)
 (repeat first|refine sN rfl ?_ |refine tA rfl ?_ |refine s2 rfl fun _ _hb=>?_ |refine aU rfl ?_ |refine Aa ?_)
 (refine aC rfl ?_ ?_<;>rintro⟨⟩)
 ·obtain⟨x,hx⟩:=get_some (l:=row) (k:=k) (by (simp only[oZ] at *;omega))
  have hx':=get_map (g:=Bq) hx
  (repeat' first|(refine sA rfl ?_ ?_;first|exact tI|simp only[oZ] at *;omega) |(refine s4 rfl ‹_› rfl ?_ ?_;omega) |refine s2 rfl fun _ _hb=>?_ |refine s3 rfl ?_ ?_<;>rintro rfl |refine aU rfl ?_ |refine Aa ?_|(refine aC rfl ?_ ?_<;>rintro⟨⟩)|refine aK ?_|refine aE ?_|refine aB ?_|refine aR ⟨_,rfl,?_⟩)
  all_goals first
   | (show E.o _=E.o _;congr;rw [DN,Ft hx (by unfold NO;grind)];simp;done)
   | (refine⟨⟨k+1,by (simp only[oZ] at *;omega),Ej hx ha (by unfold NO;grind)⟩,by dsimp only;((simp only[oZ] at *;omega)),[],?_⟩;simp[cX,zC,hΓ];done)
 ·(repeat' first|refine tA rfl ?_ |refine aU rfl ?_ |refine Aa ?_|(refine aC rfl ?_ ?_<;>rintro⟨⟩)|refine aK ?_|refine aE ?_|refine aB ?_|refine aR ⟨_,rfl,?_⟩)
  show E.o _=E.o _;congr;rw [DN,Ei ha (by (simp only[oZ] at *;omega))];grind
theorem Al{a:AP}(h:AF a=true):BI a.al=true∧1≤a.nx.length∧a.nx.length≤12∧a.ac.length=a.nx.length:=by
 unfold AF at h;grind
theorem Bk(a:AP):Pure Tryz.prog TB 124 [A2 a] (eB (AF a)):=by
 refine eN Tryz.func124 rfl (by kernel_rfl) rfl ?_;intro Γ hΓ
 (repeat' first|refine sN rfl ?_ |refine tA rfl ?_ |refine s2 rfl fun _ _hb=>?_ |(refine sC rfl (ES _) ?_;intro _ _hb) |refine s3 rfl ?_ ?_<;>rintro rfl |refine aU rfl ?_ |refine Aa ?_|(refine aC rfl ?_ ?_<;>rintro⟨⟩)|refine aK ?_|refine aE ?_|refine aB ?_|refine aR ⟨_,rfl,?_⟩)
 all_goals try (show E.o _=E.o _;congr;unfold AF;(try simp only [List.length_map] at *);grind)
 refine Ak.bound 1 rfl fun hB=>?_
 have hB:=hB (a.nx.map Dm) (.p (j:=1) rfl .refl)
 refine Ak.A4 (α:={k:Nat // k≤a.nx.length∧(a.nx.take k).all (DN (Ac a.al).length a.nx.length)=true}) (fun ⟨k,hk,ha⟩=>[(1,.o (.ip (Bm a))),(3,eI .i64 a.nx.length),(4,eI .i64 k)]) (fun ⟨k,hk,ha⟩=>[]) 0 (fun ⟨k,hk,ha⟩=>a.nx.length - k) (⟨0,by omega,rfl⟩) [] (Eb hΓ rfl rfl) (by (simp[cX,zC,hΓ])) ?_;rintro⟨k,hk,ha⟩;(try dsimp only)
 (repeat first|refine tA rfl ?_ |refine s2 rfl fun _ _hb=>?_ |refine aU rfl ?_ |refine Aa ?_)
 (refine aC rfl ?_ ?_<;>rintro⟨⟩)
 ·obtain⟨x,hx⟩:=get_some (l:=a.nx) (k:=k) (by (simp only[oZ] at *;omega))
  have hx':=get_map (g:=Dm) hx
  (repeat' first|refine sN rfl ?_ |(refine sA rfl ?_ ?_;first|exact tI|simp only[oZ] at *;omega) |(refine s4 rfl ‹_› rfl ?_ ?_;omega) |refine s2 rfl fun _ _hb=>?_ |refine sP rfl (Cf _) rfl ?_|(refine sC rfl (UE _ _ _) ?_;intro _ _hb) |refine aU rfl ?_ |refine Aa ?_ |refine rE (by kernel_rfl) ?_|(refine aC rfl ?_ ?_<;>rintro⟨⟩)|refine aK ?_|refine aE ?_|refine aB ?_|refine aR ⟨_,rfl,?_⟩)
  all_goals first
   | (have h1:=Ft (f:=DN (Ac a.al).length a.nx.length) hx (by grind);(show E.o _=E.o _;congr;unfold AF;(try simp only [List.length_map] at *);grind);done)
   | (refine⟨⟨k+1,by (simp only[oZ] at *;omega),Ej hx ha (by grind)⟩,by dsimp only;((simp only[oZ] at *;omega)),[],?_⟩;simp[cX,zC,hΓ];done)
 ·(repeat' first|refine tA rfl ?_ |refine aU rfl ?_ |refine Aa ?_|(refine aC rfl ?_ ?_<;>rintro⟨⟩)|refine aK ?_|refine aE ?_|refine aB ?_|refine aR ⟨_,rfl,?_⟩)
  show E.o _=E.o _;congr
  have h1:=Ei ha (by (simp only[oZ] at *;omega))
  unfold AF;simp only [List.length_map] at *;grind
theorem C3{α:Type}{l:List α}{k:Nat}{x:α}(h:l[k]? = some x):l.drop k=x::l.drop (k+1):=by
 obtain⟨h1,rfl⟩:=List.getElem?_eq_some_iff.1 h
 exact List.drop_eq_getElem_cons h1
theorem Xs{s:Sys}{e:Tw}(h:s.es[0]? = some e):Pm s 0=KL s.al s.st e:=by
 unfold Pm;rw [h];simp
theorem Sa{s:Sys}{k:Nat}{e p:Tw}(h:s.es[k+1]? = some e)(hp:s.es[k]? = some p):Pm s (k+1)=(KL s.al s.st e && LO p e):=by
 unfold Pm;rw [h];simp [hp]
theorem Mo{a:AP}{k:Nat}{x:List Int}(hx:a.nx[k]? = some x)(h:DN (Ac a.al).length a.nx.length x=false):AF a=false:=by
 have h1:=Ft (f:=DN (Ac a.al).length a.nx.length) hx h
 unfold AF;rw [h1];simp
theorem PF{a:AP}{k:Nat}(h0:BI a.al=true)(h1:1≤a.nx.length∧a.nx.length≤12)(h2:a.ac.length=a.nx.length)(hk:a.nx.length≤k)(h:(a.nx.take k).all (DN (Ac a.al).length a.nx.length)=true):AF a=true:=by
 have h3:=Ei h hk
 unfold AF;rw [h3];grind
theorem Bv(a:AP):Pure Tryz.prog TB 63 [A2 a] (eB (AF a)):=by
 refine eN Tryz.func63 rfl (by kernel_rfl) rfl ?_;intro Γ hΓ
 (repeat' first|refine sN rfl ?_ |refine tA rfl ?_ |refine s2 rfl fun _ _hb=>?_ |(refine sC rfl (Hm _) ?_;intro _ _hb)|refine sP rfl (CD _) rfl ?_ |refine s3 rfl ?_ ?_<;>rintro rfl |refine aU rfl ?_ |refine Aa ?_|(refine aC rfl ?_ ?_<;>rintro⟨⟩)|refine aK ?_|refine aE ?_|refine aB ?_|refine aR ⟨_,rfl,?_⟩)
 all_goals try (show E.o _=E.o _;congr;unfold AF;(try simp only [List.length_map] at *);grind)
 refine Ak.bound 1 rfl fun hB=>?_
 have hB:=hB (a.nx.map Dm) (.p (j:=1) rfl .refl)
 refine Ak.A4 (α:={k:Nat // k≤a.nx.length∧(a.nx.take k).all (DN (Ac a.al).length a.nx.length)=true}) (fun ⟨k,hk,ha⟩=>[(1,.o (.ip (Bm a))),(3,eI .i64 (Ac a.al).length),(38,Dp a.nx),(39,eI .i64 a.nx.length),(40,eI .i64 k)]) (fun ⟨k,hk,ha⟩=>[]) 0 (fun ⟨k,hk,ha⟩=>a.nx.length - k) (⟨0,by omega,rfl⟩) [] (Eb hΓ rfl rfl) (by (simp[cX,zC,hΓ])) ?_;rintro⟨k,hk,ha⟩;(try dsimp only)
 (repeat first|refine s2 rfl fun _ _hb=>?_ |refine aU rfl ?_ |refine Aa ?_)
 (refine aC rfl ?_ ?_<;>rintro⟨⟩)
 ·obtain⟨x,hx⟩:=get_some (l:=a.nx) (k:=k) (by (simp only[oZ] at *;omega))
  have hx':=get_map (g:=Dm) hx
  (repeat' first|refine sN rfl ?_ |refine tA rfl ?_ |(refine s4 rfl ‹_› rfl ?_ ?_;omega) |refine s2 rfl fun _ _hb=>?_ |refine aU rfl ?_ |refine Aa ?_|(refine aC rfl ?_ ?_<;>rintro⟨⟩)|refine aK ?_|refine aE ?_|refine aB ?_|refine aR ⟨_,rfl,?_⟩)
  ·have h2:=Mo hx (by unfold DN;grind)
   show E.o _=E.o _;congr;exact h2.symm
  refine Ak.bound 5 rfl fun hB2=>?_
  have hB2:=hB2 (x.map Bq) .refl
  refine Ak.A4 (α:={j:Nat // j≤x.length∧(x.take j).all (NO a.nx.length)=true}) (fun ⟨j,hj,hc⟩=>[(1,.o (.ip (Bm a))),(3,eI .i64 (Ac a.al).length),(38,Dp a.nx),(39,eI .i64 a.nx.length),(40,eI .i64 k),(48,Aj x),(49,eI .i64 x.length),(50,eI .i64 j)]) (fun ⟨j,hj,hc⟩=>[]) 0 (fun ⟨j,hj,hc⟩=>x.length - j) (⟨0,by omega,rfl⟩) [] (Eb hΓ rfl rfl) (by (simp[cX,zC,hΓ])) ?_;rintro⟨j,hj,hc⟩;(try dsimp only)
  (repeat first|refine s2 rfl fun _ _hb=>?_ |refine aU rfl ?_ |refine Aa ?_)
  (refine aC rfl ?_ ?_<;>rintro⟨⟩)
  ·obtain⟨y,hy⟩:=get_some (l:=x) (k:=j) (by (simp only[oZ] at *;omega))
   have hy':=get_map (g:=Bq) hy
   (repeat' first|refine sN rfl ?_ |(refine sA rfl ?_ ?_;first|exact tI|simp only[oZ] at *;omega) |(refine s4 rfl ‹_› rfl ?_ ?_;omega) |refine s2 rfl fun _ _hb=>?_ |refine s3 rfl ?_ ?_<;>rintro rfl |refine aU rfl ?_ |refine Aa ?_|(refine aC rfl ?_ ?_<;>rintro⟨⟩)|refine aK ?_|refine aE ?_|refine aB ?_|refine aR ⟨_,rfl,?_⟩)
   all_goals first
    | (have h2:=Mo hx (by rw [DN,Ft hy (by unfold NO;grind)];simp);show E.o _=E.o _;congr;exact h2.symm;done)
    | (refine⟨⟨j+1,by (simp only[oZ] at *;omega),Ej hy hc (by unfold NO;grind)⟩,by dsimp only;((simp only[oZ] at *;omega)),[],?_⟩;simp[cX,zC,hΓ];done)
  ·(repeat' first|(refine sA rfl ?_ ?_;first|exact tI|simp only[oZ] at *;omega) |refine aU rfl ?_ |refine Aa ?_|(refine aC rfl ?_ ?_<;>rintro⟨⟩)|refine aK ?_|refine aE ?_|refine aB ?_|refine aR ⟨_,rfl,?_⟩)
   have h3:=Ei hc (by (simp only[oZ] at *;omega))
   refine⟨⟨k+1,by (simp only[oZ] at *;omega),Ej hx ha (by rw [DN,h3];grind)⟩,by dsimp only;((simp only[oZ] at *;omega)),[],?_⟩
   simp[cX,zC,hΓ]
 ·(repeat' first|refine tA rfl ?_ |refine aU rfl ?_ |refine Aa ?_|(refine aC rfl ?_ ?_<;>rintro⟨⟩)|refine aK ?_|refine aE ?_|refine aB ?_|refine aR ⟨_,rfl,?_⟩)
  have h2:=PF (a:=a) (by grind) (by grind) (by grind) (by (simp only[oZ] at *;omega)) ha
  show E.o _=E.o _;congr;exact h2.symm
def Bo(a:AP)(q:Nat)(l:Int):Int:=if EM a.al l.toNat then ((a.nx.getD q []).getD (Az a.al l.toNat).length 0) else q
theorem FA{s:Int}{l k:Nat}(hl:l < k)(hb:EM s l=true):(Az s l).length < (Az s k).length:=by
 induction k with
 | zero=>omega
 | succ k ih=>
  rw [B1,List.length_append]
  rcases Nat.lt_succ_iff_lt_or_eq.1 hl with h|h
  ·have:=ih h;omega
  ·subst h;rw [if_pos hb];simp
theorem GW{a:AP}(h:AF a=true){q:Nat}(hq:q < a.nx.length):∃row,a.nx[q]? = some row∧row.length=(Ac a.al).length∧∀(i:Nat) (x:Int),row[i]? = some x→0≤x∧x < a.nx.length:=by
 obtain⟨row,hr⟩:=get_some hq
 refine⟨row,hr,?_⟩
 unfold AF at h
 rw [Bool.and_eq_true,List.all_eq_true] at h
 have h1:=h.2 row (List.mem_of_getElem? hr)
 unfold DN at h1
 rw [Bool.and_eq_true,List.all_eq_true] at h1
 refine⟨by grind,fun i x hx=>?_⟩
 have:=h1.2 x (List.mem_of_getElem? hx)
 unfold NO at this;grind
theorem Kk(a:AP)(h:AF a=true)(q:Nat)(hq:q < a.nx.length)(l:Int)(h0:0≤l)(h1:l < 6):Pure Tryz.prog TB 86 [A2 a,eI .i64 q,eI .i64 l] (eI .i64 (Bo a q l)):=by
 refine eN Tryz.func86 rfl (by kernel_rfl) rfl ?_;intro Γ hΓ
 obtain⟨row,hr,hl,hx⟩:=GW h hq
 have hr':=get_map (g:=Dm) hr
 by_cases hb:EM a.al l.toNat=true
 ·have hlt:(Az a.al l.toNat).length < row.length:=by rw [hl];exact FA (by omega) hb
  obtain⟨y,hy⟩:=get_some hlt
  have hy':=get_map (g:=Bq) hy
  (repeat' first|refine tA rfl ?_ |(refine s4 rfl ‹_› rfl ?_ ?_;omega) |refine s2 rfl fun _ _hb=>?_ |(refine sC rfl (Fb _ _ (by omega) (by omega)) ?_;intro _ _hb)|refine sP rfl (PZ _ _ (by omega) (by omega)) rfl ?_ |refine aU rfl ?_ |refine Aa ?_ |refine rE (by kernel_rfl) ?_|(refine aC rfl ?_ ?_<;>rintro⟨⟩)|refine aK ?_|refine aE ?_|refine aB ?_|refine aR ⟨_,rfl,?_⟩)
  all_goals first
   | (exfalso;grind;done)
   | (show E.o _=E.o _;congr;unfold Bo;rw [if_pos hb];simp [List.getD,hr,hy];done)
 ·(repeat' first|refine tA rfl ?_ |(refine s4 rfl ‹_› rfl ?_ ?_;omega) |refine s2 rfl fun _ _hb=>?_ |(refine sC rfl (Fb _ _ (by omega) (by omega)) ?_;intro _ _hb) |refine aU rfl ?_ |refine Aa ?_ |refine rE (by kernel_rfl) ?_|(refine aC rfl ?_ ?_<;>rintro⟨⟩)|refine aK ?_|refine aE ?_|refine aB ?_|refine aR ⟨_,rfl,?_⟩)
  all_goals first
   | (show E.o _=E.o _;congr;unfold Bo;rw [if_neg hb];done)
   | (exfalso;grind;done)
structure Net where
 ps:List Sys
 au:List AP
 st:List Int
 ls:Int
 kd:Int
 gl:Int
abbrev J5(n:Net):List D:=[VQ n.ps,PE n.au,CO n.st,iD n.ls,iD n.kd,iD n.gl]
abbrev Ja(n:Net):E:=.a [.d (VQ n.ps),.d (PE n.au),.d (CO n.st),.d (iD n.ls),.d (iD n.kd),.d (iD n.gl)]
theorem WK(l:List Int)(n:Int):Pure Tryz.prog TB 304 [Aj l,eI .i64 n] (eB (decide (n∈l))):=by
 refine eN Tryz.func304 rfl (by kernel_rfl) rfl ?_;intro Γ hΓ
 refine Ak.bound 0 rfl fun hB=>?_
 have hB:=hB (l.map Bq) .refl
 (repeat' first|refine tA rfl ?_ |refine aU rfl ?_ |refine Aa ?_|(refine aC rfl ?_ ?_<;>rintro⟨⟩)|refine aK ?_|refine aE ?_|refine aB ?_|refine aR ⟨_,rfl,?_⟩)
 refine Ak.A4 (α:={k:Nat // k≤l.length∧n∉l.take k}) (fun ⟨k,hk,ha⟩=>[(0,Aj l),(1,eI .i64 n),(5,eI .i64 k)]) (fun ⟨k,hk,ha⟩=>[]) 0 (fun ⟨k,hk,ha⟩=>l.length - k) (⟨0,by omega,by simp⟩) [] (Eb hΓ rfl rfl) (by (simp[cX,zC,hΓ])) ?_;rintro⟨k,hk,ha⟩;(try dsimp only)
 (repeat first|refine sN rfl ?_ |refine tA rfl ?_ |refine s2 rfl fun _ _hb=>?_ |refine aU rfl ?_ |refine Aa ?_)
 (refine aC rfl ?_ ?_<;>rintro⟨⟩)
 ·obtain⟨x,hx⟩:=get_some (l:=l) (k:=k) (by (simp only[oZ] at *;omega))
  have hx':=get_map (g:=Bq) hx
  (repeat' first|(refine sA rfl ?_ ?_;first|exact tI|simp only[oZ] at *;omega) |(refine s4 rfl ‹_› rfl ?_ ?_;omega) |refine s2 rfl fun _ _hb=>?_ |refine aU rfl ?_ |refine Aa ?_|(refine aC rfl ?_ ?_<;>rintro⟨⟩)|refine aK ?_|refine aE ?_|refine aB ?_|refine aR ⟨_,rfl,?_⟩)
  ·have h1:=List.mem_of_getElem? hx
   show E.o _=E.o _;congr;grind
  ·refine⟨⟨k+1,by (simp only[oZ] at *;omega),by rw [List.take_add_one,hx];grind⟩,by dsimp only;((simp only[oZ] at *;omega)),[],?_⟩
   simp[cX,zC,hΓ]
 ·(repeat' first|refine tA rfl ?_ |refine aU rfl ?_ |refine Aa ?_|(refine aC rfl ?_ ?_<;>rintro⟨⟩)|refine aK ?_|refine aE ?_|refine aB ?_|refine aR ⟨_,rfl,?_⟩)
  rw [List.take_of_length_le (by (simp only[oZ] at *;omega))] at ha
  show E.o _=E.o _;congr;grind
def Fx:List Int→List Int→Int→Int
 | z::zs,s::ss,n=>Fx zs ss (n*z+s)
 | _,_,n=>n
theorem N9{α:Type}{l:List α}{f:α→Bool}{k:Nat}{x:α}(h:l[k]? = some x)(h1:(l.take k).any f=false)(h2:f x=false):(l.take (k+1)).any f=false:=by
 rw [List.take_add_one,h];simp [List.any_append,h1,h2]
theorem QW{α:Type}{l:List α}{f:α→Bool}{k:Nat}{x:α}(h:l[k]? = some x)(h2:f x=true):l.any f=true:=by
 rw [List.any_eq_true];exact⟨x,List.mem_of_getElem? h,h2⟩
theorem N8{α:Type}{l:List α}{f:α→Bool}{k:Nat}(h:(l.take k).any f=false)(hk:l.length≤k):l.any f=false:=by
 rwa [List.take_of_length_le hk] at h
def XV(dist:List Int)(d v:Int):Bool:=decide (dist.getD v.toNat 0=d)
def Iy(mv:List (List Int))(dist:List Int)(d:Int):Bool:=mv.any fun r=>r.any (XV dist d)
def cW(n:Nat)(v:Int):Prop:=0≤v∧v < n
theorem SL(mv:List (List Int))(dist:List Int)(d:Int)(hin:∀r∈mv,∀v∈r,cW dist.length v):Pure Tryz.prog TB 303 [Dp mv,Aj dist,eI .i64 d] (eB (Iy mv dist d)):=by
 refine eN Tryz.func303 rfl (by kernel_rfl) rfl ?_;intro Γ hΓ
 refine Ak.bound 0 rfl fun hB0=>?_
 have hB:=hB0 (mv.map Dm) .refl
 (repeat' first|refine tA rfl ?_ |refine aU rfl ?_ |refine Aa ?_|(refine aC rfl ?_ ?_<;>rintro⟨⟩)|refine aK ?_|refine aE ?_|refine aB ?_|refine aR ⟨_,rfl,?_⟩)
 refine Ak.A4 (α:={k:Nat // k≤mv.length∧(mv.take k).any (fun r=>r.any (XV dist d))=false}) (fun ⟨k,hk,ha⟩=>[(0,Dp mv),(1,Aj dist),(2,eI .i64 d),(7,eI .i64 k)]) (fun ⟨k,hk,ha⟩=>[]) 0 (fun ⟨k,hk,ha⟩=>mv.length - k) (⟨0,by omega,by simp⟩) [] (Eb hΓ rfl rfl) (by (simp[cX,zC,hΓ])) ?_;rintro⟨k,hk,ha⟩;(try dsimp only)
 (repeat first|refine sN rfl ?_ |refine tA rfl ?_ |refine s2 rfl fun _ _hb=>?_ |refine aU rfl ?_ |refine Aa ?_)
 (refine aC rfl ?_ ?_<;>rintro⟨⟩)
 ·obtain⟨x,hx⟩:=get_some (l:=mv) (k:=k) (by (simp only[oZ] at *;omega))
  have hx':=get_map (g:=Dm) hx
  have hBx:=hB0 (x.map Bq) (.l (i:=k) (j:=0) (r:=Dm x) (by simp [hx]) rfl .refl)
  have hin:=hin x (List.mem_of_getElem? hx)
  (repeat' first|refine tA rfl ?_ |refine aU rfl ?_ |refine Aa ?_|(refine aC rfl ?_ ?_<;>rintro⟨⟩)|refine aK ?_|refine aE ?_|refine aB ?_|refine aR ⟨_,rfl,?_⟩)
  refine Ak.A4 (α:={j:Nat // j≤x.length∧(x.take j).any (XV dist d)=false}) (fun ⟨j,hj,hc⟩=>[(0,Dp mv),(1,Aj dist),(2,eI .i64 d),(7,eI .i64 k),(8,eI .i64 j)]) (fun ⟨j,hj,hc⟩=>[]) 0 (fun ⟨j,hj,hc⟩=>x.length - j) (⟨0,by omega,by simp⟩) [] (Eb hΓ rfl rfl) (by (simp[cX,zC,hΓ])) ?_;rintro⟨j,hj,hc⟩;(try dsimp only)
  (repeat first|refine sN rfl ?_ |refine tA rfl ?_ |(refine s4 rfl ‹_› rfl ?_ ?_;omega) |refine s2 rfl fun _ _hb=>?_ |refine aU rfl ?_ |refine Aa ?_)
  (refine aC rfl ?_ ?_<;>rintro⟨⟩)
  ·obtain⟨y,hy⟩:=get_some (l:=x) (k:=j) (by (simp only[oZ] at *;omega))
   have hy':=get_map (g:=Bq) hy
   obtain⟨h1,h2⟩:=hin y (List.mem_of_getElem? hy)
   obtain⟨z,hz⟩:=get_some (l:=dist) (k:=y.toNat) (by omega)
   have hz':(dist.map Bq)[y.toNat]? = some (Bq z):=by simp [hz]
   have hat:XV dist d y=decide (z=d):=by simp [XV,hz]
   (repeat' first|(refine sA rfl ?_ ?_;first|exact tI|simp only[oZ] at *;omega) |(refine s4 rfl ‹_› rfl ?_ ?_;omega) |refine s2 rfl fun _ _hb=>?_ |refine aU rfl ?_ |refine Aa ?_|(refine aC rfl ?_ ?_<;>rintro⟨⟩)|refine aK ?_|refine aE ?_|refine aB ?_|refine aR ⟨_,rfl,?_⟩)
   all_goals first
    | (have h3:=QW hx (f:=fun r=>r.any (XV dist d)) (QW hy (by rw [hat];grind));show E.o _=E.o _;congr;unfold Iy;rw [h3];done)
    | (refine⟨⟨j+1,by (simp only[oZ] at *;omega),N9 hy hc (by rw [hat];grind)⟩,by dsimp only;((simp only[oZ] at *;omega)),[],?_⟩;simp[cX,zC,hΓ];done)
  ·(repeat' first|(refine sA rfl ?_ ?_;first|exact tI|simp only[oZ] at *;omega) |refine aU rfl ?_ |refine Aa ?_|(refine aC rfl ?_ ?_<;>rintro⟨⟩)|refine aK ?_|refine aE ?_|refine aB ?_|refine aR ⟨_,rfl,?_⟩)
   refine⟨⟨k+1,by (simp only[oZ] at *;omega),N9 hx ha (N8 hc (by (simp only[oZ] at *;omega)))⟩,by dsimp only;((simp only[oZ] at *;omega)),[],?_⟩
   simp[cX,zC,hΓ]
 ·(repeat' first|refine tA rfl ?_ |refine aU rfl ?_ |refine Aa ?_|(refine aC rfl ?_ ?_<;>rintro⟨⟩)|refine aK ?_|refine aE ?_|refine aB ?_|refine aR ⟨_,rfl,?_⟩)
  have h1:=N8 ha (by (simp only[oZ] at *;omega))
  show E.o _=E.o _;congr;unfold Iy;rw [h1]
end Go.Am
namespace Go.Am
open Go
inductive Fits:List Int→List Int→Prop
 | nil:Fits [] []
 | cons {z s:Int} {zs ss:List Int}:0≤s→s < z→Fits zs ss→Fits (z::zs) (s::ss)
def AJ:List Int→Int
 | []=>1
 | z::zs=>z*AJ zs
theorem Fits.len{zs ss:List Int}(h:Fits zs ss):zs.length=ss.length:=by
 induction h with
 | nil=>rfl
 | cons _ _ _ ih=>simp [ih]
theorem Fits.pos{zs ss:List Int}(h:Fits zs ss):1≤AJ zs:=by
 induction h with
 | nil=>simp [AJ]
 | @cons z s zs ss h0 h1 _ ih=>
  have:1*1≤z*AJ zs:=Int.mul_le_mul (by omega) ih (by omega) (by omega)
  simpa [AJ] using this
theorem Fits.enc{zs ss:List Int}(h:Fits zs ss):∀n:Int,0≤n→0≤Fx zs ss n∧Fx zs ss n < (n+1)*AJ zs:=by
 induction h with
 | nil=>intro n hn;simp [Fx,AJ];omega
 | @cons z s zs ss h0 h1 h2 ih=>
  intro n hn
  have hz:0≤n*z:=Int.mul_nonneg hn (by omega)
  obtain⟨h3,h4⟩:=ih (n*z+s) (by omega)
  refine⟨h3,Int.lt_of_lt_of_le h4 ?_⟩
  rw [AJ,←Int.mul_assoc]
  refine Int.mul_le_mul_of_nonneg_right ?_ (by have:=h2.pos;omega)
  rw [Int.add_mul];omega
theorem Fits.take{zs ss:List Int}(h:Fits zs ss):∀k,Fits (zs.take k) (ss.take k)∧AJ (zs.take k)≤AJ zs:=by
 induction h with
 | nil=>intro k;simp;exact .nil
 | @cons z s zs ss h0 h1 h2 ih=>
  intro k
  cases k with
  | zero=>
   have:=(Fits.cons h0 h1 h2).pos
   exact⟨.nil,by simpa [AJ] using this⟩
  | succ k=>
   obtain⟨h3,h4⟩:=ih k
   exact⟨.cons h0 h1 h3,by simp only [List.take_succ_cons,AJ];exact Int.mul_le_mul_of_nonneg_left h4 (by omega)⟩
theorem Fits.get{zs ss:List Int}(h:Fits zs ss):∀(k:Nat) (z s:Int),zs[k]? = some z→ss[k]? = some s→0≤s∧s < z:=by
 induction h with
 | nil=>intro k z s hz;simp at hz
 | cons h0 h1 _ ih=>
  intro k z s hz hs
  cases k with
  | zero=>simp at hz hs;subst hz hs;exact⟨h0,h1⟩
  | succ k=>exact ih k z s (by simpa using hz) (by simpa using hs)
theorem Mu:∀ {zs ss:List Int} {k:Nat} {z s:Int} (n:Int),zs[k]? = some z→ss[k]? = some s→Fx (zs.take (k+1)) (ss.take (k+1)) n=Fx (zs.take k) (ss.take k) n*z+s
 | [],_,k,z,s,n,hz,_=>by simp at hz
 | a::zs,[],k,z,s,n,_,hs=>by simp at hs
 | a::zs,b::ss,0,z,s,n,hz,hs=>by
  simp at hz hs;subst hz hs;simp [Fx]
 | a::zs,b::ss,k+1,z,s,n,hz,hs=>by
  simp only [List.take_succ_cons,Fx]
  exact Mu _ (by simpa using hz) (by simpa using hs)
end Go.Am
namespace Go.Am
open Go Go.Proofs
set_option maxHeartbeats 1000000
set_option maxRecDepth 4000
attribute [local irreducible] AY B2 Lex Br Ak Spec
variable {TB:Bw}
theorem WL(n:Net)(st:List Int)(i:Nat)(a:AP)(q:Int)(b:Bool)(ha:n.au[i]? = some a)(hs:st[n.ps.length+i]? = some q)(h0:0≤q)(hb:a.ac[q.toNat]? = some b):Pure Tryz.prog TB 302 [Ja n,Aj st,eI .i64 i] (eB b):=by
 refine eN Tryz.func302 rfl (by kernel_rfl) rfl ?_;intro Γ hΓ
 refine Ak.bound 1 rfl fun hB0=>?_
 have hB:=hB0 (st.map Bq) .refl
 have h1:=(List.getElem?_eq_some_iff.1 hs).1
 have ha':=get_map (g:=Bm) ha
 have hs':(st.map Bq)[((n.ps.length:Int)+(i:Int)).toNat]? = some (Bq q):=by
  have:((n.ps.length:Int)+(i:Int)).toNat=n.ps.length+i:=by omega
  rw [this];simp [hs]
 have hb':(a.ac.map Gq)[q.toNat]? = some (Gq b):=by simp [hb]
 (repeat' first|refine sN rfl ?_ |(refine sA rfl ?_ ?_;first|exact tI|simp only[oZ] at *;omega) |(refine s4 rfl ‹_› rfl ?_ ?_;omega) |refine aU rfl ?_ |refine Aa ?_ |refine rE (by kernel_rfl) ?_|(refine aC rfl ?_ ?_<;>rintro⟨⟩)|refine aK ?_|refine aE ?_|refine aB ?_|refine aR ⟨_,rfl,?_⟩)
 rfl
theorem OC(zs ss:List Int)(hf:Fits zs ss)(hp:AJ zs≤4611686018427387904):Pure Tryz.prog TB 284 [Aj zs,Aj ss] (eI .i64 (Fx zs ss 0)):=by
 refine eN Tryz.func284 rfl (by kernel_rfl) rfl ?_;intro Γ hΓ
 refine Ak.bound 0 rfl fun hB0=>?_
 have hB:=hB0 (zs.map Bq) .refl
 have hlen:=hf.len
 (repeat' first|refine tA rfl ?_ |refine aU rfl ?_ |refine Aa ?_|(refine aC rfl ?_ ?_<;>rintro⟨⟩)|refine aK ?_|refine aE ?_|refine aB ?_|refine aR ⟨_,rfl,?_⟩)
 refine Ak.A4 (α:={k:Nat // k≤zs.length}) (fun ⟨k,hk⟩=>[(0,Aj zs),(1,Aj ss),(5,eI .i64 (Fx (zs.take k) (ss.take k) 0)),(6,eI .i64 k)]) (fun ⟨k,hk⟩=>[]) 0 (fun ⟨k,hk⟩=>zs.length - k) (⟨0,by omega⟩) [] (Eb hΓ rfl rfl) (by (repeat' first|exact tI|rfl|refine And.intro ?_ ?_)) ?_;rintro⟨k,hk⟩;(try dsimp only)
 (repeat first|refine sN rfl ?_ |refine tA rfl ?_ |refine s2 rfl fun _ _hb=>?_ |refine aU rfl ?_ |refine Aa ?_)
 (refine aC rfl ?_ ?_<;>rintro⟨⟩)
 ·obtain⟨x,hx⟩:=get_some (l:=zs) (k:=k) (by (simp only[oZ] at *;omega))
  have hx':=get_map (g:=Bq) hx
  obtain⟨y,hy⟩:=get_some (l:=ss) (k:=k) (by (simp only[oZ] at *;omega))
  have hy':=get_map (g:=Bq) hy
  have h1:=(hf.take k).1.enc 0 (by omega)
  have h2:=(hf.take (k+1)).1.enc 0 (by omega)
  have h3:=(hf.take (k+1)).2
  have h4:=Mu 0 hx hy
  have h6:=hf.get k x y hx hy
  have h5:0≤Fx (zs.take k) (ss.take k) 0*x:=Int.mul_nonneg h1.1 (by omega)
  (repeat' first|(refine sA rfl ?_ ?_;first|exact tI|omega|simp only[oZ] at *;omega) |(refine s4 rfl ‹_› rfl ?_ ?_;omega) |refine aU rfl ?_ |refine Aa ?_ |refine rE (by kernel_rfl) ?_|(refine aC rfl ?_ ?_<;>rintro⟨⟩)|refine aK ?_|refine aE ?_|refine aB ?_|refine aR ⟨_,rfl,?_⟩)
  refine⟨⟨k+1,by (simp only[oZ] at *;omega)⟩,by dsimp only;((simp only[oZ] at *;omega)),[],?_⟩
  simp[cX,zC,hΓ,h4]
 ·(repeat' first|refine tA rfl ?_ |refine aU rfl ?_ |refine Aa ?_|(refine aC rfl ?_ ?_<;>rintro⟨⟩)|refine aK ?_|refine aE ?_|refine aB ?_|refine aR ⟨_,rfl,?_⟩)
  rw [List.take_of_length_le (by (simp only[oZ] at *;omega)),List.take_of_length_le (by (simp only[oZ] at *;omega))]
def Ae(n:Net):List Int:=n.ps.map (·.st)++n.au.map (fun a=>(a.nx.length:Int))
theorem P9(n:Net)(hsm:n.ps.length+n.au.length≤1000000):Pure Tryz.prog TB 279 [Ja n] (Aj (Ae n)):=by
 refine eN Tryz.func279 rfl (by kernel_rfl) rfl ?_;intro Γ hΓ
 (repeat first|refine aU rfl ?_)
 (refine Ag rfl ?_;refine Cq (fun _ _=>Cw rfl rfl rfl) rfl ?_)
 (refine Ag rfl ?_;refine Cq (fun _ _=>CT rfl) rfl ?_)
 (repeat first|refine aU rfl ?_ |refine Aa ?_)
 (refine pW rfl ?_ rfl (by rfl);refine A1 rfl rfl rfl rfl (by simp) (by rfl) (by rfl) (by rfl) (by rfl) ?_)
 (repeat first|refine tM rfl ?_ |refine aU rfl ?_ |refine Aa ?_)
 refine aB ?_
 refine Ak.A4 (α:={k:Nat // k≤n.ps.length}) (fun ⟨k,hk⟩=>[(1,.o (.ip (J5 n))),(3,.o (.arr 0 1 0 k)),(4,eI .i64 k)]) (fun ⟨k,hk⟩=>[(0,.cells 3 1 (((n.ps.take k).map (·.st)).map AB))]) 1 (fun ⟨k,hk⟩=>n.ps.length - k) (⟨0,by omega⟩) [0] (Eb hΓ rfl rfl) (by (simp[cX,zC,hΓ])) ?_;rintro⟨k,hk⟩;(try dsimp only)
 (repeat first|refine sN rfl ?_ |refine tM rfl ?_ |refine s2 rfl fun _ _hb=>?_ |refine aU rfl ?_ |refine Aa ?_)
 (refine aC rfl ?_ ?_<;>rintro⟨⟩)
 ·obtain⟨x,hx⟩:=get_some (l:=n.ps) (k:=k) (by (simp only[oZ] at *;omega))
  have hx':=get_map (g:=VR) hx
  refine aK ?_
  refine aS (aB ?_)
  (repeat first|refine tA rfl ?_ |(refine s4 rfl ‹_› rfl ?_ ?_;omega) |refine aU rfl ?_)
  (refine pW rfl ?_ rfl (by rfl);refine Aw rfl rfl rfl (by first| (simp;done)|(simp;(omega))) rfl (by intro r hr;simp at hr;subst hr;rfl) (by rfl) (Nat.le_of_ble_eq_true rfl) (by simp;omega) ?_)
  (repeat first|(refine sX rfl ?_ ?_;first|exact tI|omega) |refine aU rfl ?_ |refine Aa ?_)
  refine⟨⟨k+1,by (simp only[oZ] at *;omega)⟩,by dsimp only;((simp only[oZ] at *;omega)),[1],?_⟩
  simp[cX,zC,hΓ,List.take_add_one,hx]
 ·obtain rfl:k=n.ps.length:=by (simp only[oZ] at *;omega)
  refine aE ?_
  (repeat first|refine tM rfl ?_ |refine aU rfl ?_ |refine Aa ?_)
  refine aB ?_
  refine Ak.A4 (α:={j:Nat // j≤n.au.length}) (fun ⟨j,hj⟩=>[(1,.o (.ip (J5 n))),(3,.o (.arr 0 1 0 (n.ps.length+j))),(5,eI .i64 j)]) (fun ⟨j,hj⟩=>[(0,.cells 3 1 ((n.ps.map (·.st)++(n.au.take j).map (fun a=>(a.nx.length:Int))).map AB))]) 1 (fun ⟨j,hj⟩=>n.au.length - j) (⟨0,by omega⟩) [0] (Eb hΓ rfl rfl) (by (simp[cX,zC,hΓ])) ?_;rintro⟨j,hj⟩;(try dsimp only)
  (repeat first|refine sN rfl ?_ |refine tM rfl ?_ |refine s2 rfl fun _ _hb=>?_ |refine aU rfl ?_ |refine Aa ?_)
  (refine aC rfl ?_ ?_<;>rintro⟨⟩)
  ·obtain⟨x,hx⟩:=get_some (l:=n.au) (k:=j) (by (simp only[oZ] at *;omega))
   have hx':=get_map (g:=Bm) hx
   refine aK ?_
   refine aS (aB ?_)
   (repeat first|refine sN rfl ?_ |refine tA rfl ?_ |(refine s4 rfl ‹_› rfl ?_ ?_;omega) |refine aU rfl ?_)
   (refine pW rfl ?_ rfl (by rfl);refine Aw rfl rfl rfl (by first| (simp;done)|(simp;(omega))) rfl (by intro r hr;simp at hr;subst hr;rfl) (by rfl) (Nat.le_of_ble_eq_true rfl) (by simp;omega) ?_)
   (repeat first|(refine sX rfl ?_ ?_;first|exact tI|omega) |refine aU rfl ?_ |refine Aa ?_)
   refine⟨⟨j+1,by (simp only[oZ] at *;omega)⟩,by dsimp only;((simp only[oZ] at *;omega)),[1],?_⟩
   simp[cX,zC,hΓ,List.take_add_one,hx,Nat.add_assoc]
  ·obtain rfl:j=n.au.length:=by (simp only[oZ] at *;omega)
   refine aE ?_
   (repeat first|refine tM rfl ?_ |refine aU rfl ?_ |refine Aa ?_)
   refine Ak.freeze [0] [(2,.o (.d (CO (Ae n))))] ⟨⟨_,rfl,.o (.full (by simp) rfl (by simp [Function.comp_def,Ae]) (by simp))⟩,trivial⟩ ?_
   refine aR ⟨_,rfl,rfl⟩
def BB:List Int→Int→List Int
 | [],_=>[]
 | z::zs,n=>n / AJ zs % z::BB zs n
theorem KI:∀(zs:List Int) (n:Int),(BB zs n).length=zs.length
 | [],_=>rfl
 | z::zs,n=>by simp [BB,KI zs n]
theorem Xn{α:Type}(a x:α)(k:Nat)(L:List α):(List.replicate (k+1) a++L).set k x=List.replicate k a++x::L:=by
 rw [List.set_append_left _ _ (by simp),List.replicate_succ',List.set_append_right _ _ (by simp)]
 simp
theorem JL(zs:List Int)(n:Int)(h0:0≤n)(h1:n≤9223372036854775807)(hz:∀z∈zs,0 < z)(hl:zs.length≤1000000):Pure Tryz.prog TB 282 [Aj zs,eI .i64 n] (Aj (BB zs n)):=by
 have hpp:∀k,0 < AJ (zs.drop k):=by
  intro k
  have:∀l:List Int,(∀z∈l,0 < z)→0 < AJ l:=by
   intro l
   induction l with
   | nil=>intro _;simp [AJ]
   | cons a l ih=>intro h;exact Int.mul_pos (h a (by simp)) (ih fun z hz=>h z (by simp [hz]))
  exact this _ fun z h=>hz z (List.mem_of_mem_drop h)
 refine eN Tryz.func282 rfl (by kernel_rfl) rfl ?_;intro Γ hΓ
 (repeat first|refine aU rfl ?_)
 (refine Ag rfl ?_;refine Cq (fun _ _=>CT rfl) rfl ?_)
 (repeat first|refine sN rfl ?_ |refine tM rfl ?_ |refine aU rfl ?_ |refine Aa ?_)
 (refine pW rfl ?_ rfl (by rfl);refine HI rfl rfl (by rfl) (by rfl) (Nat.le_of_ble_eq_true rfl) (by omega) (by omega) (by omega) ?_)
 (repeat first|refine sN rfl ?_ |(refine sM rfl ?_ ?_;first|exact tI|omega) |refine aU rfl ?_ |refine Aa ?_)
 refine aB ?_
 refine Ak.A4 (α:={k:Nat // k≤zs.length}) (fun ⟨k,hk⟩=>[(0,Aj zs),(1,eI .i64 (n / AJ (zs.drop k))),(5,.o (.arr 0 1 0 zs.length)),(6,eI .i64 ((k:Int) - 1))]) (fun ⟨k,hk⟩=>[(0,.cells 3 1 ((List.replicate k 0++BB (zs.drop k) n).map AB))]) 1 (fun ⟨k,hk⟩=>k) (⟨zs.length,by omega⟩) [0] (Eb hΓ rfl rfl) (by (simp[cX,zC,hΓ,BB,AJ])) ?_;rintro⟨k,hk⟩;(try dsimp only)
 (repeat first|refine tM rfl ?_ |refine s2 rfl fun _ _hb=>?_ |refine aU rfl ?_ |refine Aa ?_)
 (refine aC rfl ?_ ?_<;>rintro⟨⟩)
 ·obtain⟨k,rfl⟩:∃k',k=k'+1:=⟨k - 1,by (simp only[oZ] at *;omega)⟩
  obtain⟨x,hx⟩:=get_some (l:=zs) (k:=k) (by omega)
  have hx':(zs.map Bq)[(((k+1:Nat):Int) - 1).toNat]? = some (Bq x):=by simp [hx]
  have hxp:=hz x (List.mem_of_getElem? hx)
  have hd:=C3 hx
  have hP:=hpp (k+1)
  have h2:0≤n / AJ (zs.drop (k+1)):=Int.ediv_nonneg h0 (by omega)
  have h3:n / AJ (zs.drop (k+1))≤n:=Int.ediv_le_self _ h0
  have hi:((((k+1:Nat):Int) - 1).toNat)=k:=by omega
  refine aK ?_
  refine aS (aB ?_)
  (repeat first|(refine sA rfl ?_ ?_;first|exact tI|omega) |(refine s4 rfl ‹_› rfl ?_ ?_;omega) |refine aU rfl ?_)
  (refine Ag rfl ?_;refine Hq ?_ rfl (by rfl);refine Ix (r:=AB 0) rfl rfl rfl rfl (by rw [Nat.zero_add,hi,List.getElem?_map,List.getElem?_append_left (by simp)];simp) rfl (Nat.le_of_ble_eq_true rfl) ?_)
  (repeat first|(refine sA rfl ?_ ?_;first|exact tI|omega) |(refine s4 rfl ‹_› rfl ?_ ?_;omega) |refine aU rfl ?_ |refine Aa ?_)
  refine⟨⟨k,by omega⟩,by dsimp only;(omega),[0],?_⟩
  rw [Nat.zero_add,hi]
  have h5:((List.replicate (k+1) (0:Int)++BB (zs.drop (k+1)) n).map AB).set k (AB (n / AJ (zs.drop (k+1)) % x))=(List.replicate k 0++BB (zs.drop k) n).map AB:=by
   rw [←List.map_set,Xn,hd,BB]
  have h6:n / AJ (zs.drop (k+1)) / x=n / AJ (zs.drop k):=by
   rw [hd,AJ,Int.mul_comm,Int.ediv_ediv_of_nonneg (by omega)]
  have h7:Ai (AB 0) 0 (eC (eI .i64 (n / AJ (zs.drop (k+1)) % x)))=AB (n / AJ (zs.drop (k+1)) % x):=rfl
  rw [h7,h5]
  simp[cX,zC,hΓ,h6]
 ·obtain rfl:k=0:=by (simp only[oZ] at *;omega)
  refine aE ?_
  (repeat first|refine tM rfl ?_ |refine aU rfl ?_ |refine Aa ?_)
  refine Ak.freeze [0] [(4,.o (.d (CO (BB zs n))))] ⟨⟨_,rfl,.o (.full (by simp) rfl (by simp [Function.comp_def]) (by simp [KI]))⟩,trivial⟩ ?_
  refine aR ⟨_,rfl,rfl⟩
end Go.Am
namespace Go.Am
open Go
def B5(s:Sys)(q l:Int):List Int:=if EM s.al l.toNat then (s.es.filter fun e=>decide (e.f=q) && decide (e.l=l)).map (·.t) else [q]
theorem PG{a b c:Tw}(h:LO a b=true)(k:LO b c=true):LO a c=true:=by
 unfold LO at *;grind
theorem Lt{s:Sys}(h:Gd s=true):BI s.al=true∧1≤s.st∧s.st≤16:=by
 unfold Gd at h;grind
theorem QA{s:Sys}(h:Gd s=true){e:Tw}(he:e∈s.es):KL s.al s.st e=true:=by
 obtain⟨k,hk,rfl⟩:=List.getElem_of_mem he
 unfold Gd at h
 simp only [Bool.and_eq_true,List.all_eq_true] at h
 have h1:=h.2 k (List.mem_range.2 hk)
 cases k with
 | zero=>rw [Xs (List.getElem?_eq_getElem hk)] at h1;exact h1
 | succ k=>rw [Sa (List.getElem?_eq_getElem hk) (List.getElem?_eq_getElem (by omega))] at h1;grind
theorem NP{s:Sys}(h:Gd s=true):s.es.Pairwise fun a b=>LO a b=true:=by
 have key:∀(l:List Tw),(∀(k:Nat) (p e:Tw),l[k]? = some p→l[k+1]? = some e→LO p e=true)→l.Pairwise fun a b=>LO a b=true:=by
  intro l
  induction l with
  | nil=>intro _;exact .nil
  | cons a l ih=>
   intro hl
   have h1:=ih fun k p e hp he=>hl (k+1) p e (by simpa using hp) (by simpa using he)
   refine List.pairwise_cons.2 ⟨fun b hb=>?_,h1⟩
   cases l with
   | nil=>cases hb
   | cons c l=>
    have h2:=hl 0 a c rfl rfl
    rcases List.mem_cons.1 hb with rfl|hb
    ·exact h2
    ·exact PG h2 ((List.pairwise_cons.1 h1).1 b hb)
 refine key _ fun k p e hp he=>?_
 unfold Gd at h
 simp only [Bool.and_eq_true,List.all_eq_true] at h
 have h1:=h.2 (k+1) (List.mem_range.2 (List.getElem?_eq_some_iff.1 he).1)
 rw [Sa he hp] at h1
 grind
theorem Ou:∀(l:List Int) (a b:Int),(a::l).Pairwise (· < ·)→(∀x∈a::l,x < b)→a+((l.length:Int)+1)≤b
 | [],a,b,_,h=>by have:=h a (by simp);simp;omega
 | c::l,a,b,hp,h=>by
  have h1:=Ou l c b (List.pairwise_cons.1 hp).2 fun x hx=>h x (by simp at hx ⊢;exact .inr hx)
  have h2:=(List.pairwise_cons.1 hp).1 c (by simp)
  simp;omega
theorem NQ{s:Sys}(h:Gd s=true)(q l:Int):(B5 s q l).Pairwise (· < ·):=by
 unfold B5
 split
 ·rw [List.pairwise_map]
  refine List.Pairwise.imp_of_mem (fun {a b} ha hb hab=>?_) ((NP h).filter _)
  have h1:=(List.mem_filter.1 ha).2
  have h2:=(List.mem_filter.1 hb).2
  unfold LO at hab
  grind
 ·simp
theorem Pn{s:Sys}(h:Gd s=true){q l:Int}(h0:0≤q)(h1:q < s.st){x:Int}(hx:x∈B5 s q l):0≤x∧x < s.st:=by
 unfold B5 at hx
 split at hx
 ·obtain⟨e,he,rfl⟩:=List.mem_map.1 hx
  have h2:=QA h (List.mem_filter.1 he).1
  unfold KL at h2
  grind
 ·simp at hx;subst hx;exact⟨h0,h1⟩
theorem MS{s:Sys}(h:Gd s=true){q l:Int}(h0:0≤q)(h1:q < s.st):((B5 s q l).length:Int)≤s.st:=by
 have h2:=NQ h q l
 have h3:∀x∈B5 s q l,0≤x∧x < s.st:=fun x hx=>Pn h h0 h1 hx
 generalize B5 s q l=m at h2 h3
 cases m with
 | nil=>simp;omega
 | cons a m=>
  have h4:=Ou m a s.st h2 fun x hx=>(h3 x hx).2
  have h5:=h3 a (by simp)
  simp;omega
theorem GF{a:AP}(h:AF a=true){q:Nat}(hq:q < a.nx.length){l:Int}(h0:0≤l)(h1:l < 6):0≤Bo a q l∧Bo a q l < a.nx.length:=by
 obtain⟨row,hr,hl,hx⟩:=GW h hq
 unfold Bo
 split
 ·rename_i hb
  have hlt:(Az a.al l.toNat).length < row.length:=by rw [hl];exact FA (by omega) hb
  obtain⟨y,hy⟩:=get_some hlt
  have:=hx _ y hy
  simpa [List.getD,hr,hy] using this
 ·omega
structure Dl (n:Net):Prop where
 ps:∀s∈n.ps,Gd s=true
 au:∀a∈n.au,AF a=true
 np:n.ps.length≤3
 na:n.au.length≤2
def JZ(n:Net)(st:List Int)(l:Int):List (List Int):=n.ps.zipWith (fun s q=>B5 s q l) st++n.au.zipWith (fun a q=>[Bo a q.toNat l]) (st.drop n.ps.length)
def FH:List Int→List (List Int)→List Int→List Int
 | z::zs,c::cs,out=>FH zs cs (out.flatMap fun o=>c.map fun x=>o*z+x)
 | _,_,out=>out
def En(n:Net)(zs st:List Int)(l:Int):List Int:=FH zs (JZ n st l) [0]
inductive EJ:List Int→List (List Int)→Prop
 | nil:EJ [] []
 | cons {z:Int} {c:List Int} {zs:List Int} {cs:List (List Int)}:(∀x∈c,0≤x∧x < z)→(c.length:Int)≤z→EJ zs cs→EJ (z::zs) (c::cs)
theorem MI:∀ {zs:List Int} {cs:List (List Int)} {k:Nat} {z:Int} {c:List Int} (out:List Int),zs[k]? = some z→cs[k]? = some c→
 FH (zs.take (k+1)) (cs.take (k+1)) out=(FH (zs.take k) (cs.take k) out).flatMap fun o=>c.map fun x=>o*z+x
 | [],_,k,z,s,n,hz,_=>by simp at hz
 | a::zs,[],k,z,s,n,_,hs=>by simp at hs
 | a::zs,b::ss,0,z,s,n,hz,hs=>by
  simp at hz hs;subst hz hs;simp [FH]
 | a::zs,b::ss,k+1,z,s,n,hz,hs=>by
  simp only [List.take_succ_cons,FH]
  exact MI _ (by simpa using hz) (by simpa using hs)
theorem KQ{α β:Type}(l:List α)(g:α→List β)(n:Int)(h:∀x∈l,((g x).length:Int)≤n):((l.flatMap g).length:Int)≤l.length*n:=by
 induction l with
 | nil=>simp
 | cons a l ih=>
  have h1:=h a (by simp)
  have h2:=ih fun x hx=>h x (by simp [hx])
  simp only [List.flatMap_cons,List.length_append,List.length_cons]
  have h3:((l.length:Int)+1)*n=l.length*n+n:=by rw [Int.add_mul];simp
  push_cast
  omega
theorem Rw{zs:List Int}{cs:List (List Int)}(h:EJ zs cs):∀(out:List Int) (B:Int),(∀o∈out,0≤o∧o < B)→0≤B→(out.length:Int)≤B→
 (∀v∈FH zs cs out,0≤v∧v < B*AJ zs)∧((FH zs cs out).length:Int)≤B*AJ zs:=by
 induction h with
 | nil=>intro out B ho hB hl;simp [FH,AJ];exact⟨ho,hl⟩
 | @cons z c zs cs hc hcl _ ih=>
  intro out B ho hB hl
  have hz:0≤z:=by omega
  have h1:=ih (out.flatMap fun o=>c.map fun x=>o*z+x) (B*z) (fun v hv=>by
   obtain⟨o,ho',hv⟩:=List.mem_flatMap.1 hv
   obtain⟨x,hx,rfl⟩:=List.mem_map.1 hv
   obtain⟨h2,h3⟩:=ho o ho'
   obtain⟨h4,h5⟩:=hc x hx
   have h6:0≤o*z:=Int.mul_nonneg h2 hz
   have h7:(o+1)*z≤B*z:=Int.mul_le_mul_of_nonneg_right (by omega) hz
   rw [Int.add_mul] at h7
   omega) (Int.mul_nonneg hB hz) (by
    have h2:=KQ out (fun o=>c.map fun x=>o*z+x) z (fun x _=>by simpa using hcl)
    have h3:(out.length:Int)*z≤B*z:=Int.mul_le_mul_of_nonneg_right hl hz
    omega)
  rw [FH,AJ,←Int.mul_assoc]
  exact h1
theorem EJ.take{zs:List Int}{cs:List (List Int)}(h:EJ zs cs):∀k,EJ (zs.take k) (cs.take k):=by
 induction h with
 | nil=>intro k;simp;exact .nil
 | cons h1 h2 h3 ih=>
  intro k
  cases k with
  | zero=>exact .nil
  | succ k=>exact .cons h1 h2 (ih k)
theorem EJ.get{zs:List Int}{cs:List (List Int)}(h:EJ zs cs):∀(k:Nat) (z:Int) (c:List Int),zs[k]? = some z→cs[k]? = some c→(∀x∈c,0≤x∧x < z)∧(c.length:Int)≤z:=by
 induction h with
 | nil=>intro k z s hz;simp at hz
 | cons h0 h1 _ ih=>
  intro k z s hz hs
  cases k with
  | zero=>simp at hz hs;subst hz hs;exact⟨h0,h1⟩
  | succ k=>exact ih k z s (by simpa using hz) (by simpa using hs)
theorem EJ.len{zs:List Int}{cs:List (List Int)}(h:EJ zs cs):zs.length=cs.length:=by
 induction h with
 | nil=>rfl
 | cons _ _ _ ih=>simp [ih]
theorem Fits.split{zs zs' ss:List Int}(h:Fits (zs++zs') ss):Fits zs (ss.take zs.length)∧Fits zs' (ss.drop zs.length):=by
 induction zs generalizing ss with
 | nil=>exact⟨.nil,h⟩
 | cons a zs ih=>
  cases h with
  | cons h0 h1 h2=>exact⟨.cons h0 h1 (ih h2).1,(ih h2).2⟩
theorem EJ.app{zs zs':List Int}{cs cs':List (List Int)}(h:EJ zs cs)(h':EJ zs' cs'):EJ (zs++zs') (cs++cs'):=by
 induction h with
 | nil=>exact h'
 | cons h0 h1 _ ih=>exact .cons h0 h1 ih
theorem FX{α β γ:Type}(f:α→β→γ):∀(l:List α) (m:List β),l.zipWith f m=l.zipWith f (m.take l.length)
 | [],_=>by simp
 | a::l,[]=>by simp
 | a::l,b::m=>by simp [FX f l m]
theorem Ic{n:Net}(hn:Dl n){st:List Int}(hf:Fits (Ae n) st){l:Int}(h0:0≤l)(h1:l < 6):EJ (Ae n) (JZ n st l):=by
 unfold Ae at *
 obtain⟨ha,hb⟩:=hf.split
 rw [List.length_map] at ha hb
 unfold JZ
 refine EJ.app ?_ ?_
 ·have : n.ps.zipWith (fun s q=>B5 s q l) st=n.ps.zipWith (fun s q=>B5 s q l) (st.take n.ps.length):=by
   exact FX _ _ _
  rw [this]
  have hp:=hn.ps
  generalize st.take n.ps.length=ss at ha
  generalize n.ps=ps at ha hp
  induction ps generalizing ss with
  | nil=>cases ha;exact .nil
  | cons s ps ih=>
   cases ha with
   | cons h2 h3 h4=>
    have hs:=hp s (by simp)
    exact .cons (fun x hx=>Pn hs h2 h3 hx) (MS hs h2 h3) (ih _ h4 fun t ht=>hp t (by simp [ht]))
 ·have hp:=hn.au
  generalize st.drop n.ps.length=ss at hb
  generalize n.au=au at hb hp
  induction au generalizing ss with
  | nil=>cases hb;exact .nil
  | cons s ps ih=>
   cases hb with
   | @cons _ q _ _ h2 h3 h4=>
    have hs:=hp s (by simp)
    dsimp only at h3
    have h5:=GF hs (q:=q.toNat) (by omega) h0 h1
    exact .cons (fun x hx=>by simp at hx;subst hx;exact h5) (by dsimp only;simp;omega) (ih _ h4 fun t ht=>hp t (by simp [ht]))
theorem Fi{n:Net}(hn:Dl n):∀z∈Ae n,1≤z∧z≤16:=by
 intro z hz
 unfold Ae at hz
 rcases List.mem_append.1 hz with h|h
 ·obtain⟨s,hs,rfl⟩:=List.mem_map.1 h
  have:=Lt (hn.ps s hs)
  omega
 ·obtain⟨a,ha,rfl⟩:=List.mem_map.1 h
  have:=Al (hn.au a ha)
  omega
theorem Ld:∀(l:List Int),(∀z∈l,1≤z∧z≤16)→1≤AJ l∧AJ l≤16 ^ l.length
 | [],_=>by simp [AJ]
 | z::l,h=>by
  obtain⟨h1,h2⟩:=Ld l fun x hx=>h x (by simp [hx])
  obtain⟨h3,h4⟩:=h z (by simp)
  have h5:z*AJ l≤16*16 ^ l.length:=Int.mul_le_mul h4 h2 (by omega) (by omega)
  have h6:1*1≤z*AJ l:=Int.mul_le_mul h3 h1 (by omega) (by omega)
  have h7:(16:Int) ^ (l.length+1)=16*16 ^ l.length:=by rw [Int.pow_succ,Int.mul_comm]
  simp only [AJ,List.length_cons,h7]
  exact⟨by simpa using h6,h5⟩
theorem Ks{n:Net}(hn:Dl n):1≤AJ (Ae n)∧AJ (Ae n)≤1048576:=by
 obtain⟨h1,h2⟩:=Ld _ (Fi hn)
 refine⟨h1,Int.le_trans h2 ?_⟩
 have h3:(Ae n).length≤5:=by unfold Ae;have:=hn.np;have:=hn.na;simp;omega
 generalize (Ae n).length=k at h3
 have:k=0∨k=1∨k=2∨k=3∨k=4∨k=5:=by omega
 rcases this with rfl|rfl|rfl|rfl|rfl|rfl<;>decide
end Go.Am
namespace Go.Am
open Go Go.Proofs
set_option maxHeartbeats 1000000
set_option maxRecDepth 4000
attribute [local irreducible] AY B2 Lex Br Ak Spec
variable {TB:Bw}
theorem LX(n:Net)(i:Nat)(a:AP)(q:Nat)(l:Int)(ha:n.au[i]? = some a)(hok:AF a=true)(hq:q < a.nx.length)(h0:0≤l)(h1:l < 6)(hnp:n.ps.length≤3)(hna:n.au.length≤2) :
 Pure Tryz.prog TB 312 [Ja n,eI .i64 (n.ps.length+i),eI .i64 q,eI .i64 l] (Aj [Bo a q l]):=by
 have hi:=(List.getElem?_eq_some_iff.1 ha).1
 have ha':=get_map (g:=Bm) ha
 have he:((n.ps.length:Int)+i - n.ps.length).toNat=((i:Nat):Int).toNat:=by omega
 have ha2:(n.au.map Bm)[((n.ps.length:Int)+i - n.ps.length).toNat]? = some (Bm a):=by rw [he];exact ha'
 refine eN Tryz.func312 rfl (by kernel_rfl) rfl ?_;intro Γ hΓ
 (repeat' first|refine sN rfl ?_ |(refine sA rfl ?_ ?_;first|exact tI|omega) |(refine s4 rfl ‹_› rfl ?_ ?_;omega) |refine s2 rfl fun _ _hb=>?_ |(refine sC rfl (Kk a hok q hq l h0 h1) ?_;intro _ _hb)|refine sP rfl (Kk a hok q hq l h0 h1) rfl ?_ |refine aU rfl ?_ |refine Aa ?_|(refine aC rfl ?_ ?_<;>rintro⟨⟩)|refine aK ?_|refine aE ?_|refine aB ?_|refine aR ⟨_,rfl,?_⟩)
 all_goals first| rfl|(exfalso;(simp only[oZ] at *;omega))
theorem LY(n:Net)(i:Nat)(s:Sys)(q l:Int)(hs:n.ps[i]? = some s)(hok:Gd s=true)(hq0:0≤q)(hq1:q < s.st)(h0:0≤l)(h1:l < 6)(hnp:n.ps.length≤3) :
    Pure Tryz.prog TB 312 [Ja n,eI .i64 i,eI .i64 q,eI .i64 l] (Aj (B5 s q l)):=by
  have hi:=(List.getElem?_eq_some_iff.1 hs).1
  have hs':=get_map (g:=VR) hs
  refine eN Tryz.func312 rfl (by kernel_rfl) rfl ?_;intro Γ hΓ
  (repeat first|refine aU rfl ?_)
  (refine Ag rfl ?_;refine Cq (fun _ _=>Cw rfl rfl rfl) rfl ?_)
  (refine Ag rfl ?_;refine Cq (fun _ _=>CT rfl) rfl ?_)
  (repeat first|refine sN rfl ?_ |refine tM rfl ?_ |refine s2 rfl fun _ _hb=>?_ |(refine sC rfl (Fb _ _ (by omega) (by omega)) ?_;intro _ _hb) |refine aU rfl ?_ |refine Aa ?_)
  (refine aC rfl ?_ ?_<;>rintro⟨⟩)
  · exfalso;(simp only[oZ] at *;omega)
  refine aK ?_
  (repeat first|refine tM rfl ?_ |(refine s4 rfl ‹_› rfl ?_ ?_;omega) |refine s2 rfl fun _ _hb=>?_ |(refine sC rfl (Fb _ _ (by omega) (by omega)) ?_;intro _ _hb) |refine aU rfl ?_ |refine Aa ?_)
  (refine aC rfl ?_ ?_<;>rintro⟨⟩)
  · (repeat' first|refine tA rfl ?_ |refine aU rfl ?_ |refine Aa ?_|(refine aC rfl ?_ ?_<;>rintro⟨⟩)|refine aK ?_|refine aE ?_|refine aB ?_|refine aR ⟨_,rfl,?_⟩)
    rw [show B5 s q l=[q] by unfold B5;rw [if_neg (by grind)]];rfl
  refine aK ?_
  (repeat first|refine aU rfl ?_)
  (refine pW rfl ?_ rfl (by rfl);refine A1 rfl rfl rfl rfl (by simp) (by rfl) (by rfl) (by rfl) (by rfl) ?_)
  (repeat first|refine tM rfl ?_ |(refine s4 rfl ‹_› rfl ?_ ?_;omega) |refine aU rfl ?_ |refine Aa ?_)
  refine Ak.bound 10 rfl fun hB=>?_
  have hB:=hB _ .refl
  rw [List.length_map] at hB
  refine aB ?_
  have hb2:EM s.al l.toNat=true:=by grind
  refine Ak.A4 (α:={k:Nat // k≤s.es.length}) (fun ⟨k,hk⟩=>[(2,eI .i64 q),(3,eI .i64 l),(9,.o (.arr 0 1 0 (B5 { s with es:=s.es.take k } q l).length)),(10,ZL s.es),(11,eI .i64 k)]) (fun ⟨k,hk⟩=>[(0,.cells 3 1 ((B5 { s with es:=s.es.take k } q l).map AB))]) 1 (fun ⟨k,hk⟩=>s.es.length - k) (⟨0,by omega⟩) [0] (Eb hΓ rfl rfl) (by (simp[cX,zC,hΓ,B5,hb2])) ?_;rintro⟨k,hk⟩;(try dsimp only)
  (repeat first|refine sN rfl ?_ |refine tM rfl ?_ |refine s2 rfl fun _ _hb=>?_ |refine aU rfl ?_ |refine Aa ?_)
  have hlen:∀k,(B5 { s with es:=s.es.take k } q l).length≤16:=by
    intro k
    have h1:=MS hok (l:=l) hq0 hq1
    have h2:=Lt hok
    have h3:(B5 { s with es:=s.es.take k } q l).length≤(B5 s q l).length:=by
      simp only [B5,hb2,if_true,List.length_map]
      exact((List.take_sublist k s.es).filter _).length_le
    omega
  have hst:∀e,s.es[k]? = some e→B5 { s with es:=s.es.take (k+1) } q l=B5 { s with es:=s.es.take k } q l++if e.f=q∧e.l=l then [e.t] else []:=by
    intro e he
    simp only [B5,hb2,if_true,List.take_add_one,he,Option.toList_some,List.filter_append,List.map_append,List.filter_cons,List.filter_nil]
    grind
  (refine aC rfl ?_ ?_<;>rintro⟨⟩)
  · obtain⟨e,he⟩:=get_some (l:=s.es) (k:=k) (by (simp only[oZ] at *;omega))
    have he':=get_map (g:=XC) he
    have hst:=hst e he
    refine aK ?_
    refine aS (aB ?_)
    (repeat' first|(refine sM rfl ?_ ?_;first|exact tI|simp only[oZ] at *;omega) |(refine s4 rfl ‹_› rfl ?_ ?_;omega) |refine s2 rfl fun _ _hb=>?_ |refine s3 rfl ?_ ?_<;>rintro rfl |refine aU rfl ?_ |refine Aa ?_|(refine aC rfl ?_ ?_<;>rintro⟨⟩)|refine aK ?_|refine aE ?_|refine aB ?_|refine aR ⟨_,rfl,?_⟩)
    all_goals first
      | (rw [if_pos (by grind)] at hst
         (repeat first|refine tA rfl ?_)
         (refine pW rfl ?_ rfl (by rfl);refine Aw rfl rfl rfl (by first| (simp;done)|(simp;(omega))) rfl (by intro r hr;simp at hr;subst hr;rfl) (by rfl) (Nat.le_of_ble_eq_true rfl) (by have:=hlen k;simp;omega) ?_)
         (repeat first|(refine sX rfl ?_ ?_;first|exact tI|simp only[oZ] at *;omega) |refine aU rfl ?_ |refine Aa ?_)
         refine⟨⟨k+1,by (simp only[oZ] at *;omega)⟩,by dsimp only;((simp only[oZ] at *;omega)),[1],?_⟩
         simp[cX,zC,hΓ,hst]
         done)
      | (rw [if_neg (by grind),List.append_nil] at hst
         refine⟨⟨k+1,by (simp only[oZ] at *;omega)⟩,by dsimp only;((simp only[oZ] at *;omega)),[0],?_⟩
         simp[cX,zC,hΓ,hst]
         done)
  · obtain rfl:k=s.es.length:=by (simp only[oZ] at *;omega)
    refine aE ?_
    (repeat first|refine tM rfl ?_ |refine aU rfl ?_ |refine Aa ?_)
    refine Ak.freeze [0] [(8,.o (.d (CO (B5 s q l))))] ⟨⟨_,rfl,.o (.full (by simp) rfl (by simp [Function.comp_def]) (by simp))⟩,trivial⟩ ?_
    refine aR ⟨_,rfl,rfl⟩
theorem Nq{n:Net}(hn:Dl n){st:List Int}(hf:Fits (Ae n) st){l:Int}(h0:0≤l)(h1:l < 6){i:Nat}{c:List Int}{q:Int}(hc:(JZ n st l)[i]? = some c)(hq:st[i]? = some q) :
 Pure Tryz.prog TB 312 [Ja n,eI .i64 i,eI .i64 q,eI .i64 l] (Aj c):=by
 have hlen:=hf.len
 unfold Ae at hlen
 simp only [List.length_append,List.length_map] at hlen
 have hsq:=(hf.get i)
 have hlz:(n.ps.zipWith (fun s q=>B5 s q l) st).length=n.ps.length:=by rw [List.length_zipWith];omega
 have hiq:=(List.getElem?_eq_some_iff.1 hq).1
 unfold JZ at hc
 by_cases hi:i < n.ps.length
 ·rw [List.getElem?_append_left (by omega)] at hc
  obtain⟨s,hs⟩:=get_some hi
  rw [List.getElem?_zipWith,hs,hq] at hc
  simp only [Option.some.injEq] at hc
  subst hc
  have h2:=hsq s.st q (by unfold Ae;rw [List.getElem?_append_left (by simpa using hi)];simp [hs]) hq
  exact LY n i s q l hs (hn.ps s (List.mem_of_getElem? hs)) h2.1 h2.2 h0 h1 hn.np
 ·obtain⟨j,rfl⟩:∃j,i=n.ps.length+j:=⟨i - n.ps.length,by omega⟩
  rw [List.getElem?_append_right (by omega),hlz] at hc
  have e:n.ps.length+j - n.ps.length=j:=by omega
  rw [e] at hc
  have hj:j < n.au.length:=by omega
  obtain⟨a,ha⟩:=get_some hj
  rw [List.getElem?_zipWith,ha,List.getElem?_drop,hq] at hc
  simp only [Option.some.injEq] at hc
  subst hc
  have h2:=hsq a.nx.length q (by unfold Ae;rw [List.getElem?_append_right (by simp)];simp [ha]) hq
  have h3:=LX (TB:=TB) n j a q.toNat l ha (hn.au a (List.mem_of_getElem? ha)) (by omega) h0 h1 hn.np hn.na
  have e2:((q.toNat:Nat):Int)=q:=by omega
  rw [e2] at h3
  push_cast
  exact h3
theorem OT{n:Net}(hn:Dl n){st:List Int}(hf:Fits (Ae n) st){l:Int}(h0:0≤l)(h1:l < 6)(k:Nat) :
 (∀v∈FH ((Ae n).take k) ((JZ n st l).take k) [0],0≤v∧v < 1048576)∧(FH ((Ae n).take k) ((JZ n st l).take k) [0]).length≤1048576:=by
 have h2:=Rw ((Ic hn hf h0 h1).take k) [0] 1 (by simp) (by omega) (by simp)
 have h3:=(hf.take k).2
 have h4:=Ks hn
 rw [Int.one_mul] at h2
 exact⟨fun v hv=>by have:=h2.1 v hv;omega,by omega⟩
theorem P8{n:Net}(hn:Dl n){st:List Int}(hf:Fits (Ae n) st){l:Int}(h0:0≤l)(h1:l < 6) :
 Pure Tryz.prog TB 301 [Ja n,Aj (Ae n),Aj st,eI .i64 l] (Aj (En n (Ae n) st l)):=by
 have hch:=Ic hn hf h0 h1
 have hbd:=OT hn hf h0 h1
 have hpr:=Ks hn
 have hfl:=hf.len
 have hcl:=hch.len
 unfold En
 have hcall:∀(i:Nat) (c:List Int) (q:Int),(JZ n st l)[i]? = some c→st[i]? = some q→Pure Tryz.prog TB 312 [Ja n,eI .i64 i,eI .i64 q,eI .i64 l] (Aj c):=fun i c q=>Nq hn hf h0 h1
 have hzl:(Ae n).length≤5:=by unfold Ae;have:=hn.np;have:=hn.na;simp;omega
 have hpos:=Fi hn
 generalize JZ n st l=cs at *
 generalize Ae n=zs at *
 refine eN Tryz.func301 rfl (by kernel_rfl) rfl ?_;intro Γ hΓ
 (repeat first|refine aU rfl ?_)
 (refine Ag rfl ?_;refine Cq (fun _ _=>Cw rfl rfl rfl) rfl ?_)
 (refine Ag rfl ?_;refine Cq (fun _ _=>CT rfl) rfl ?_)
 (repeat first|refine tA rfl ?_ |refine aU rfl ?_ |refine Aa ?_)
 refine aB ?_
 refine Ak.A4 (α:={k:Nat // k≤zs.length}) (fun ⟨k,hk⟩=>[(1,Aj zs),(2,Aj st),(3,eI .i64 l),(4,.o (.ip (J5 n))),(9,Aj (FH (zs.take k) (cs.take k) [0])),(10,eI .i64 k)]) (fun ⟨k,hk⟩=>[]) 0 (fun ⟨k,hk⟩=>zs.length - k) (⟨0,by omega⟩) [] (Eb hΓ rfl rfl) (by (simp[cX,zC,hΓ,FH])) ?_;rintro⟨k,hk⟩;(try dsimp only)
 (repeat first|refine sN rfl ?_ |refine tA rfl ?_ |refine s2 rfl fun _ _hb=>?_ |refine aU rfl ?_ |refine Aa ?_)
 (refine aC rfl ?_ ?_<;>rintro⟨⟩)
 ·obtain⟨z,hz⟩:=get_some (l:=zs) (k:=k) (by (simp only[oZ] at *;omega))
  have hz':=get_map (g:=Bq) hz
  obtain⟨c,hc⟩:=get_some (l:=cs) (k:=k) (by (simp only[oZ] at *;omega))
  obtain⟨q,hq⟩:=get_some (l:=st) (k:=k) (by (simp only[oZ] at *;omega))
  have hq':=get_map (g:=Bq) hq
  have hst:=MI [0] hz hc
  have hb0:=hbd k
  have hb1:=(hbd (k+1)).2
  have hzz:=hpos z (List.mem_of_getElem? hz)
  obtain⟨hcx,hcn⟩:=hch.get k z c hz hc
  rw [hst] at hb1
  generalize FH (zs.take k) (cs.take k) [0]=out at *
  refine aK ?_
  refine aS (aB ?_)
  (repeat first|refine tM rfl ?_ |(refine s4 rfl ‹_› rfl ?_ ?_;omega) |refine sP rfl (hcall k c q hc hq) rfl ?_ |refine aU rfl ?_ |refine Aa ?_ |refine rE (by kernel_rfl) ?_)
  (refine pW rfl ?_ rfl (by rfl);refine A1 rfl rfl rfl rfl (by simp) (by rfl) (by rfl) (by rfl) (by rfl) ?_)
  (repeat first|refine tM rfl ?_ |refine aU rfl ?_ |refine Aa ?_)
  refine aB ?_
  have hlen:∀m,(((out.take m).flatMap fun o=>c.map fun x=>o*z+x).length:Int)≤16777216:=by
   intro m
   have h2:=KQ (out.take m) (fun o=>c.map fun x=>o*z+x) 16 (fun x _=>by simp;omega)
   have h3:(out.take m).length≤out.length:=by simp;omega
   omega
  refine Ak.A4 (α:={m:Nat // m≤out.length}) (fun ⟨m,hm⟩=>[(1,Aj zs),(2,Aj st),(3,eI .i64 l),(4,.o (.ip (J5 n))),(9,Aj out),(10,eI .i64 k),(11,Aj c),(12,.o (.arr 0 1 0 ((out.take m).flatMap fun o=>c.map fun x=>o*z+x).length)),(13,eI .i64 m)]) (fun ⟨m,hm⟩=>[(0,.cells 3 1 (((out.take m).flatMap fun o=>c.map fun x=>o*z+x).map AB))]) 1 (fun ⟨m,hm⟩=>out.length - m) (⟨0,by omega⟩) [0] (Eb hΓ rfl rfl) (by (simp[cX,zC,hΓ])) ?_;rintro⟨m,hm⟩;(try dsimp only)
  (repeat first|refine sN rfl ?_ |refine tM rfl ?_ |refine s2 rfl fun _ _hb=>?_ |refine aU rfl ?_ |refine Aa ?_)
  (refine aC rfl ?_ ?_<;>rintro⟨⟩)
  ·obtain⟨o,ho⟩:=get_some (l:=out) (k:=m) (by (simp only[oZ] at *;omega))
   have ho':=get_map (g:=Bq) ho
   have hob:=hb0.1 o (List.mem_of_getElem? ho)
   have hlm:=hlen m
   have h16:0≤o*z∧o*z≤16777216:=⟨Int.mul_nonneg hob.1 (by omega),by
    have h5:o*z≤o*16:=Int.mul_le_mul_of_nonneg_left hzz.2 hob.1
    omega⟩
   have hfm:(out.take (m+1)).flatMap (fun o=>c.map fun x=>o*z+x)=(out.take m).flatMap (fun o=>c.map fun x=>o*z+x)++c.map fun x=>o*z+x:=by
    rw [List.take_add_one,ho];simp
   refine aK ?_
   refine aS (aB ?_)
   (repeat first|refine tM rfl ?_ |refine aU rfl ?_ |refine Aa ?_)
   refine aB ?_
   generalize (out.take m).flatMap (fun o=>c.map fun x=>o*z+x)=pre at *
   refine Ak.A4 (α:={j:Nat // j≤c.length}) (fun ⟨j,hj⟩=>[(1,Aj zs),(2,Aj st),(3,eI .i64 l),(4,.o (.ip (J5 n))),(9,Aj out),(10,eI .i64 k),(11,Aj c),(12,.o (.arr 0 1 0 (pre.length+j))),(13,eI .i64 m),(14,eI .i64 j)]) (fun ⟨j,hj⟩=>[(0,.cells 3 1 ((pre++(c.take j).map fun x=>o*z+x).map AB))]) 1 (fun ⟨j,hj⟩=>c.length - j) (⟨0,by omega⟩) [0] (Eb hΓ rfl rfl) (by (simp[cX,zC,hΓ])) ?_;rintro⟨j,hj⟩;(try dsimp only)
   (repeat first|refine sN rfl ?_ |refine tM rfl ?_ |refine s2 rfl fun _ _hb=>?_ |refine aU rfl ?_ |refine Aa ?_)
   (refine aC rfl ?_ ?_<;>rintro⟨⟩)
   ·obtain⟨x,hx⟩:=get_some (l:=c) (k:=j) (by (simp only[oZ] at *;omega))
    have hx':=get_map (g:=Bq) hx
    have hxb:=hcx x (List.mem_of_getElem? hx)
    refine aK ?_
    refine aS (aB ?_)
    refine rG (IY [16]) (by kernel_rfl) ?_
    (repeat first|(refine sA rfl ?_ ?_;first|exact tI|omega) |(refine s4 rfl ‹_› rfl ?_ ?_;omega))
    (refine pW rfl ?_ rfl (by rfl);refine Aw rfl rfl rfl (by first| (simp;done)|(simp;(omega))) rfl (by intro r hr;simp at hr;subst hr;rfl) (by rfl) (Nat.le_of_ble_eq_true rfl) (by simp;omega) ?_)
    (repeat first|(refine sX rfl ?_ ?_;first|exact tI|omega) |refine aU rfl ?_ |refine Aa ?_)
    refine⟨⟨j+1,by (simp only[oZ] at *;omega)⟩,by dsimp only;((simp only[oZ] at *;omega)),[1],?_⟩
    simp[cX,zC,hΓ,List.take_add_one,hx,Nat.add_assoc]
   ·obtain rfl:j=c.length:=by (simp only[oZ] at *;omega)
    refine aE ?_
    (repeat first|(refine sM rfl ?_ ?_;first|exact tI|omega) |refine aU rfl ?_ |refine Aa ?_)
    refine⟨⟨m+1,by (simp only[oZ] at *;omega)⟩,by dsimp only;((simp only[oZ] at *;omega)),[0],?_⟩
    simp[cX,zC,hΓ,hfm]
  ·obtain rfl:m=out.length:=by (simp only[oZ] at *;omega)
   refine aE ?_
   rw [List.take_length] at *
   refine Ak.freeze [0] [(1,Aj zs),(2,Aj st),(3,eI .i64 l),(4,.o (.ip (J5 n))),(10,eI .i64 k),(12,Aj (out.flatMap fun o=>c.map fun x=>o*z+x))] ⟨⟨_,rfl,.Bb⟩,⟨_,rfl,.Bb⟩,⟨_,rfl,.Bb⟩,⟨_,rfl,.Bb⟩,⟨_,rfl,.Bb⟩,⟨_,rfl,.o (.full (by simp) rfl (by simp [Function.comp_def]) (by simp))⟩,trivial⟩ ?_
   (repeat first|(refine sA rfl ?_ ?_;first|exact tI|omega) |refine aU rfl ?_ |refine Aa ?_)
   refine⟨⟨k+1,by (simp only[oZ] at *;omega)⟩,by dsimp only;((simp only[oZ] at *;omega)),[],?_⟩
   simp[cX,zC,hΓ,hst]
 ·obtain rfl:k=zs.length:=by (simp only[oZ] at *;omega)
  rw [List.take_of_length_le (by omega),List.take_of_length_le (by omega)]
  (repeat' first|refine tA rfl ?_ |refine aU rfl ?_ |refine Aa ?_|(refine aC rfl ?_ ?_<;>rintro⟨⟩)|refine aK ?_|refine aE ?_|refine aB ?_|refine aR ⟨_,rfl,?_⟩)
  all_goals rfl
abbrev Rr(l:List (List Int)):List C:=[.d (Ci l)]
abbrev CA(l:List (List (List Int))):E:=.o (.d (WJ l))
theorem Av{s:Int}{k:Nat}{l:Int}(h:l∈Az s k):0≤l∧l < k∧EM s l.toNat=true:=by
 unfold Az at h
 obtain⟨i,hi,rfl⟩:=List.mem_map.1 h
 obtain⟨h1,h2⟩:=List.mem_filter.1 hi
 have:=List.mem_range.1 h1
 exact⟨Int.natCast_nonneg _,by show ((i:Nat):Int) < k;omega,h2⟩
theorem ML:∀ {l:List Int},(∀z∈l,0 < z)→0 < AJ l
 | [],_=>by simp [AJ]
 | a::l,h=>Int.mul_pos (h a (by simp)) (ML fun z hz=>h z (by simp [hz]))
theorem I9:∀ {zs:List Int} (_:∀z∈zs,0 < z) (n:Int),Fits zs (BB zs n)
 | [],_,_=>.nil
 | z::zs,h,n=>by
  have hz:=h z (by simp)
  exact .cons (Int.emod_nonneg _ (by omega)) (Int.emod_lt_of_pos _ hz) (I9 (fun x hx=>h x (by simp [hx])) n)
def DG(n:Net)(x:Nat):List (List Int):=(Ac n.ls).map fun l=>En n (Ae n) (BB (Ae n) x) l
def Cj(n:Net)(tot:Nat):List (List (List Int)):=(List.range tot).map (DG n)
theorem HH{n:Net}{tot i:Nat}(h:i < tot):(Cj n tot)[i]? = some (DG n i):=by simp [Cj,h]
theorem Lr{n:Net}(hn:Dl n):(Ae n).length≤5:=by unfold Ae;have:=hn.np;have:=hn.na;simp;omega
theorem P7{n:Net}(hn:Dl n)(tot:Nat)(ht:tot≤1048576):Pure Tryz.prog TB 280 [Ja n,Aj (Ae n),eI .i64 tot] (CA (Cj n tot)):=by
 have hzl:=Lr hn
 have hpos:=Fi hn
 have hdec:∀(x:Nat),x < tot→Pure Tryz.prog TB 282 [Aj (Ae n),eI .i64 x] (Aj (BB (Ae n) x)):=fun x hx=>
  JL _ _ (by omega) (by omega) (fun z hz=>by have:=hpos z hz;omega) (by omega)
 have hnx:∀(x:Nat) (l:Int),l∈Ac n.ls→Pure Tryz.prog TB 301 [Ja n,Aj (Ae n),Aj (BB (Ae n) x),eI .i64 l] (Aj (En n (Ae n) (BB (Ae n) x) l)):=fun x l hl=>by
  have h1:=Av hl
  exact P8 hn (I9 (fun z hz=>by have:=hpos z hz;omega) _) (by omega) (by omega)
 have hll:(Ac n.ls).length≤6:=AL n.ls 6
 unfold Cj
 refine eN Tryz.func280 rfl (by kernel_rfl) rfl ?_;intro Γ hΓ
 (repeat first|refine aU rfl ?_)
 (refine Ag rfl ?_;refine Cq (fun _ _=>Cw rfl rfl rfl) rfl ?_)
 (refine Ag rfl ?_;refine Cq (fun _ _=>CT rfl) rfl ?_)
 (repeat first|refine aU rfl ?_ |refine Aa ?_)
 (refine pW rfl ?_ rfl (by rfl);refine A1 rfl rfl rfl rfl (by simp) (by rfl) (by rfl) (by rfl) (by rfl) ?_)
 (repeat first|refine tM rfl ?_ |refine sP rfl (Cf n.ls) rfl ?_ |refine aU rfl ?_ |refine Aa ?_)
 refine aB ?_
 refine Ak.A4 (α:={k:Nat // k≤tot}) (fun ⟨k,hk⟩=>[(1,Aj (Ae n)),(2,eI .i64 tot),(3,.o (.ip (J5 n))),(7,.o (.arr 0 1 0 k)),(8,Aj (Ac n.ls)),(9,eI .i64 k)]) (fun ⟨k,hk⟩=>[(0,.cells 22 1 (((List.range k).map (DG n)).map Rr))]) 1 (fun ⟨k,hk⟩=>tot - k) (⟨0,by omega⟩) [0] (Eb hΓ rfl rfl) (by (simp[cX,zC,hΓ])) ?_;rintro⟨k,hk⟩;(try dsimp only)
 (repeat first|refine tM rfl ?_ |refine s2 rfl fun _ _hb=>?_ |refine aU rfl ?_ |refine Aa ?_)
 (refine aC rfl ?_ ?_<;>rintro⟨⟩)
 ·have hk2:k < tot:=by (simp only[oZ] at *;omega)
  refine aK ?_
  refine aS (aB ?_)
  (repeat first|refine tM rfl ?_ |refine sP rfl (hdec k hk2) rfl ?_ |refine aU rfl ?_ |refine Aa ?_)
  (refine pW rfl ?_ rfl (by rfl);refine A1 rfl rfl rfl rfl (by simp) (by rfl) (by rfl) (by rfl) (by rfl) ?_)
  (repeat first|refine tM rfl ?_ |refine aU rfl ?_ |refine Aa ?_)
  refine aB ?_
  generalize hL:Ac n.ls=ls at *
  refine Ak.A4 (α:={m:Nat // m≤ls.length}) (fun ⟨m,hm⟩=>[(1,Aj (Ae n)),(2,eI .i64 tot),(3,.o (.ip (J5 n))),(7,.o (.arr 0 1 0 k)),(8,Aj ls),(9,eI .i64 k),(10,Aj (BB (Ae n) k)),(11,.o (.arr 1 1 0 m)),(12,eI .i64 m)]) (fun ⟨m,hm⟩=>[(0,.cells 22 1 (((List.range k).map (DG n)).map Rr)),(1,.cells 84 1 (((ls.take m).map fun l=>En n (Ae n) (BB (Ae n) k) l).map PT))]) 2 (fun ⟨m,hm⟩=>ls.length - m) (⟨0,by omega⟩) [0,1] (Eb hΓ rfl rfl) (by (simp[cX,zC,hΓ])) ?_;rintro⟨m,hm⟩;(try dsimp only)
  (repeat first|refine sN rfl ?_ |refine tM rfl ?_ |refine s2 rfl fun _ _hb=>?_ |refine aU rfl ?_ |refine Aa ?_)
  (refine aC rfl ?_ ?_<;>rintro⟨⟩)
  ·obtain⟨x,hx⟩:=get_some (l:=ls) (k:=m) (by (simp only[oZ] at *;omega))
   have hx':=get_map (g:=Bq) hx
   have hxm:=hnx k x (List.mem_of_getElem? hx)
   refine aK ?_
   refine aS (aB ?_)
   refine rG (IY [10]) (by kernel_rfl) ?_
   (repeat first|refine tA rfl ?_ |(refine s4 rfl ‹_› rfl ?_ ?_;omega) |refine sP rfl (hxm) rfl ?_)
   (refine pW rfl ?_ rfl (by rfl);refine Aw rfl rfl rfl (by first| (simp;done)|(simp;(omega))) rfl (by intro r hr;simp at hr;subst hr;rfl) (by rfl) (Nat.le_of_ble_eq_true rfl) (by simp;omega) ?_)
   (repeat first|(refine sX rfl ?_ ?_;first|exact tI|omega) |refine aU rfl ?_ |refine Aa ?_)
   refine⟨⟨m+1,by (simp only[oZ] at *;omega)⟩,by dsimp only;((simp only[oZ] at *;omega)),[0,2],?_⟩
   simp[cX,zC,hΓ,List.take_add_one,hx,Nat.add_assoc]
  ·obtain rfl:m=ls.length:=by (simp only[oZ] at *;omega)
   refine aE ?_
   rw [List.take_length] at *
   have hrow:ls.map (fun l=>En n (Ae n) (BB (Ae n) k) l)=DG n k:=by rw [←hL];rfl
   rw [hrow]
   have hrl:(DG n k).length=ls.length:=by rw [←hrow];simp
   refine Ak.freeze [1] [(1,Aj (Ae n)),(2,eI .i64 tot),(3,.o (.ip (J5 n))),(7,.o (.arr 0 1 0 k)),(8,Aj ls),(9,eI .i64 k),(11,Dp (DG n k))] ⟨⟨_,rfl,.Bb⟩,⟨_,rfl,.Bb⟩,⟨_,rfl,.Bb⟩,⟨_,rfl,.Bb⟩,⟨_,rfl,.Bb⟩,⟨_,rfl,.Bb⟩,⟨_,rfl,.o (.full (by simp) rfl (by simp [Function.comp_def]) (by simp [hrl]))⟩,trivial⟩ ?_
   (repeat first|refine tA rfl ?_ |refine aU rfl ?_)
   (refine pW rfl ?_ rfl (by rfl);refine Aw rfl rfl rfl (by first| (simp;done)|(simp;(omega))) rfl (by intro r hr;simp at hr;subst hr;rfl) (by rfl) (Nat.le_of_ble_eq_true rfl) (by simp;omega) ?_)
   (repeat first|(refine sX rfl ?_ ?_;first|exact tI|omega) |refine aU rfl ?_ |refine Aa ?_)
   refine⟨⟨k+1,by omega⟩,by dsimp only;(omega),[2],?_⟩
   simp[cX,zC,hΓ,List.range_succ]
 ·obtain rfl:k=tot:=by (simp only[oZ] at *;omega)
  refine aE ?_
  (repeat first|refine tM rfl ?_ |refine aU rfl ?_ |refine Aa ?_)
  refine Ak.freeze [0] [(6,CA ((List.range k).map (DG n)))] ⟨⟨_,rfl,.o (.full (by simp) rfl (by simp [Function.comp_def]) (by simp))⟩,trivial⟩ ?_
  refine aR ⟨_,rfl,rfl⟩
def Wo(n:Net)(st:List Int)(i:Nat):Bool:=((n.au[i]?.map (·.ac)).getD []).getD (st.getD (n.ps.length+i) 0).toNat false
def B0(n:Net)(st:List Int)(mv:List (List Int)):Bool:=
 if n.kd=0 then Wo n st 0 else if n.kd=1 then Wo n st 0 != Wo n st 1 else if n.kd=2 then Wo n st 0 && !Wo n st 1 else if n.kd=3 then !Wo n st 0 else
 if n.kd=5 then decide (st.getD n.ps.length 0=n.gl) else mv.all (·.isEmpty)
structure XO (n:Net):Prop where
 one:n.kd=0∨n.kd=3∨n.kd=5→1≤n.au.length
 two:n.kd=1∨n.kd=2→2≤n.au.length
theorem OD{n:Net}(hn:Dl n){st:List Int}(hf:Fits (Ae n) st)(i:Nat)(hi:i < n.au.length):Pure Tryz.prog TB 302 [Ja n,Aj st,eI .i64 i] (eB (Wo n st i)):=by
 obtain⟨a,ha⟩:=get_some hi
 have hok:=hn.au a (List.mem_of_getElem? ha)
 have h1:=Al hok
 have hz:(Ae n)[n.ps.length+i]? = some (a.nx.length:Int):=by unfold Ae;rw [List.getElem?_append_right (by simp)];simp [ha]
 have hlen:=hf.len
 obtain⟨q,hq⟩:=get_some (l:=st) (k:=n.ps.length+i) (by have:=(List.getElem?_eq_some_iff.1 hz).1;omega)
 have h2:=hf.get _ _ _ hz hq
 obtain⟨b,hb⟩:=get_some (l:=a.ac) (k:=q.toNat) (by omega)
 have h3:=WL (TB:=TB) n st i a q b ha hq h2.1 hb
 have h4:Wo n st i=b:=by simp [Wo,ha,List.getD,hq,hb]
 rw [h4];exact h3
theorem P6{n:Net}(hn:Dl n)(hk:XO n){st:List Int}(hf:Fits (Ae n) st)(mv:List (List Int)):Pure Tryz.prog TB 281 [Ja n,Aj st,Dp mv] (eB (B0 n st mv)):=by
 have h0:=OD (TB:=TB) hn hf 0
 have h1:=OD (TB:=TB) hn hf 1
 have hk1:=hk.one
 have hk2:=hk.two
 have hnp:=hn.np
 have hna:=hn.na
 have hst:n.ps.length+n.au.length=st.length:=by have:=hf.len;unfold Ae at this;simpa using this
 have hat:n.kd=5→(st.map Bq)[((n.ps.length:Nat):Int).toNat]? = some (Bq (st.getD n.ps.length 0)):=by
  intro h5
  obtain⟨x,hx⟩:=get_some (l:=st) (k:=n.ps.length) (by omega)
  rw [get_map (g:=Bq) hx];simp [List.getD,hx]
 refine eN Tryz.func281 rfl (by kernel_rfl) rfl ?_;intro Γ hΓ
 refine Ak.bound 2 rfl fun hB0=>?_
 have hB:=hB0 (mv.map Dm) .refl
 (repeat' first|refine sN rfl ?_ |refine tA rfl ?_ |refine s2 rfl fun _ _hb=>?_ |(refine sC rfl (h0 (by (simp only[oZ] at *;omega))) ?_;intro _ _hb)|(refine sC rfl (h1 (by (simp only[oZ] at *;omega))) ?_;intro _ _hb) |refine s3 rfl ?_ ?_<;>rintro rfl |refine aU rfl ?_ |refine Aa ?_ |refine rE (by kernel_rfl) ?_|(refine aC rfl ?_ ?_<;>rintro⟨⟩)|refine aK ?_|refine aE ?_|refine aB ?_|refine aR ⟨_,rfl,?_⟩)
 all_goals try (show E.o _=E.o _;congr;unfold B0;grind)
 ·have hat:=hat (by grind)
  (repeat' first|refine tA rfl ?_ |(refine s4 rfl ‹_› rfl ?_ ?_;omega) |refine s2 rfl fun _ _hb=>?_ |refine Aa ?_|(refine aC rfl ?_ ?_<;>rintro⟨⟩)|refine aK ?_|refine aE ?_|refine aB ?_|refine aR ⟨_,rfl,?_⟩)
  show E.o _=E.o _;congr;unfold B0;grind
 refine Ak.A4 (α:={k:Nat // k≤mv.length∧(mv.take k).all (·.isEmpty)=true}) (fun ⟨k,hk,ha⟩=>[(2,Dp mv),(7,eI .i64 k)]) (fun ⟨k,hk,ha⟩=>[]) 0 (fun ⟨k,hk,ha⟩=>mv.length - k) (⟨0,by omega,rfl⟩) [] (Eb hΓ rfl rfl) (by (simp[cX,zC,hΓ])) ?_;rintro⟨k,hk,ha⟩;(try dsimp only)
 (repeat first|refine sN rfl ?_ |refine tA rfl ?_ |refine s2 rfl fun _ _hb=>?_ |refine aU rfl ?_ |refine Aa ?_)
 (refine aC rfl ?_ ?_<;>rintro⟨⟩)
 ·obtain⟨x,hx⟩:=get_some (l:=mv) (k:=k) (by (simp only[oZ] at *;omega))
  have hx':=get_map (g:=Dm) hx
  (repeat' first|refine sN rfl ?_ |(refine sA rfl ?_ ?_;first|exact tI|simp only[oZ] at *;omega) |(refine s4 rfl ‹_› rfl ?_ ?_;omega) |refine s2 rfl fun _ _hb=>?_ |refine aU rfl ?_ |refine Aa ?_|(refine aC rfl ?_ ?_<;>rintro⟨⟩)|refine aK ?_|refine aE ?_|refine aB ?_|refine aR ⟨_,rfl,?_⟩)
  ·have h3:=Ft (f:=fun x:List Int=>x.isEmpty) hx (by cases x<;>grind)
   show E.o _=E.o _;congr;unfold B0;grind
  ·refine⟨⟨k+1,by (simp only[oZ] at *;omega),Ej hx ha (by cases x<;>grind)⟩,by dsimp only;((simp only[oZ] at *;omega)),[],?_⟩
   simp[cX,zC,hΓ]
 ·(repeat' first|refine tA rfl ?_ |refine aU rfl ?_ |refine Aa ?_|(refine aC rfl ?_ ?_<;>rintro⟨⟩)|refine aK ?_|refine aE ?_|refine aB ?_|refine aR ⟨_,rfl,?_⟩)
  have h3:=Ei ha (by (simp only[oZ] at *;omega))
  show E.o _=E.o _;congr;unfold B0;grind
end Go.Am
