/-
  The parts of the reference's search, 1.
-/
import Derived.Test.YtainaphkaklkmaaGreatDoorPart10
set_option linter.constructorNameAsVariable false
set_option linter.unusedSimpArgs false
set_option linter.unusedVariables false
namespace Go.Am
open Go Go.Proofs
set_option maxHeartbeats 1000000
attribute [local irreducible] QOp AOp Lex LexO AWp Spec
variable {TB:List (Nat×Obj)}
structure Net where
  ps:List Sys
  au:List Aut
  st:List Int
  ls:Int
  kd:Int
  gl:Int
abbrev nRow (n:Net):List D:=[syList n.ps,auList n.au,iList n.st,iD n.ls,iD n.kd,iD n.gl]
abbrev eNet (n:Net):E:=.a [.d (syList n.ps),.d (auList n.au),.d (iList n.st),.d (iD n.ls),.d (iD n.kd),.d (iD n.gl)]
theorem l4In_ok (l:List Int) (n:Int):Pure Tryz.prog TB 154 [eInts l,eI .i64 n] (eB (decide (n∈l))):=by
  refine eN Tryz.func154 rfl (by kernel_rfl) rfl ?_;intro Γ hΓ
  refine AWp.bound 0 rfl fun hB=>?_
  have hB:=hB (l.map iRow) .refl
  (repeat' first|refine sN rfl ?_|((first|refine sA rfl ?_ ?_|refine s4 rfl ‹_› rfl ?_ ?_);first|exact tI|omega|(simp only[oZ] at *;omega))|(refine s2 rfl ?_;intro _ _hb)|(refine s3 rfl ?_ ?_<;>intro hb<;>subst hb)|refine aS ?_|refine reg (by kernel_rfl) ?_|refine lexE ?_|refine rD (by kernel_rfl) (by kernel_rfl) ?_|(refine aC rfl ?_ ?_<;>intro hb<;>cases hb)|refine aK ?_|refine aE ?_|refine aB ?_|refine AWp.ret ⟨_,rfl,?_⟩)
  refine AWp.loopL (α:={k:Nat // k≤l.length∧n∉l.take k}) (fun ⟨k,hk,ha⟩=>[(0,eInts l),(1,eI .i64 n),(5,eI .i64 k)]) (fun ⟨k,hk,ha⟩=>[]) 0 (fun ⟨k,hk,ha⟩=>l.length - k) (⟨0,by omega,by simp⟩) [] (by first|(simp [hΓ];done)|(rw [hΓ];decide)) (by (repeat' (first|exact trivial|rfl|refine And.intro ?_ ?_))<;>simp [EnvSub,StoreSub,look_cons,nm,E.ren,C.ren,C.renL,O.ren,killc,kill0,Function.comp_def,argsFrom,zC,hΓ]) ?_;rintro ⟨k,hk,ha⟩;(try dsimp only)
  (repeat first|refine sN rfl ?_|((first|refine sA rfl ?_ ?_|refine s4 rfl ‹_› rfl ?_ ?_);first|exact tI|omega|(simp only[oZ] at *;omega))|(refine s2 rfl ?_;intro _ _hb)|(refine s3 rfl ?_ ?_<;>intro hb<;>subst hb)|refine aS ?_|refine reg (by kernel_rfl) ?_|refine lexE ?_|refine rD (by kernel_rfl) (by kernel_rfl) ?_)
  (refine aC rfl ?_ ?_<;>intro hb<;>cases hb)
  · obtain ⟨x,hx⟩:=get_some (l:=l) (k:=k) (by first|omega|(simp only [oZ] at *;omega))
    have hx':=get_map (g:=iRow) hx
    (repeat' first|refine sN rfl ?_|((first|refine sA rfl ?_ ?_|refine s4 rfl ‹_› rfl ?_ ?_);first|exact tI|omega|(simp only[oZ] at *;omega))|(refine s2 rfl ?_;intro _ _hb)|(refine s3 rfl ?_ ?_<;>intro hb<;>subst hb)|refine aS ?_|refine reg (by kernel_rfl) ?_|refine lexE ?_|refine rD (by kernel_rfl) (by kernel_rfl) ?_|(refine aC rfl ?_ ?_<;>intro hb<;>cases hb)|refine aK ?_|refine aE ?_|refine aB ?_|refine AWp.ret ⟨_,rfl,?_⟩)
    · have h1:=List.mem_of_getElem? hx
      show E.o _=E.o _;congr;grind
    · refine ⟨⟨k+1,by first|omega|(simp only [oZ] at *;omega),by rw [List.take_add_one,hx];grind⟩,by dsimp only;(first|omega|(simp only [oZ] at *;omega)),[],?_⟩
      simp [EnvSub,StoreSub,look_cons,nm,E.ren,C.ren,C.renL,O.ren,killc,kill0,Function.comp_def,argsFrom,zC,hΓ]
  · (repeat' first|refine sN rfl ?_|((first|refine sA rfl ?_ ?_|refine s4 rfl ‹_› rfl ?_ ?_);first|exact tI|omega|(simp only[oZ] at *;omega))|(refine s2 rfl ?_;intro _ _hb)|(refine s3 rfl ?_ ?_<;>intro hb<;>subst hb)|refine aS ?_|refine reg (by kernel_rfl) ?_|refine lexE ?_|refine rD (by kernel_rfl) (by kernel_rfl) ?_|(refine aC rfl ?_ ?_<;>intro hb<;>cases hb)|refine aK ?_|refine aE ?_|refine aB ?_|refine AWp.ret ⟨_,rfl,?_⟩)
    rw [List.take_of_length_le (by first|omega|(simp only [oZ] at *;omega))] at ha
    show E.o _=E.o _;congr;grind
def encN:List Int→List Int→Int→Int
  | z::zs,s::ss,n=>encN zs ss (n*z+s)
  | _,_,n=>n
end Go.Am
namespace Go.Am
open Go Go.Proofs
set_option maxHeartbeats 1000000
attribute [local irreducible] QOp AOp Lex LexO AWp Spec
variable {TB:List (Nat×Obj)}
theorem any_step {α:Type} {l:List α} {f:α→Bool} {k:Nat} {x:α} (h:l[k]? = some x) (h1:(l.take k).any f=false) (h2:f x=false):(l.take (k+1)).any f=false:=by
  rw [List.take_add_one,h];simp [List.any_append,h1,h2]
theorem any_hit {α:Type} {l:List α} {f:α→Bool} {k:Nat} {x:α} (h:l[k]? = some x) (h2:f x=true):l.any f=true:=by
  rw [List.any_eq_true];exact ⟨x,List.mem_of_getElem? h,h2⟩
theorem any_done {α:Type} {l:List α} {f:α→Bool} {k:Nat} (h:(l.take k).any f=false) (hk:l.length≤k):l.any f=false:=by
  rwa [List.take_of_length_le hk] at h
def atD (dist:List Int) (d v:Int):Bool:=decide (dist.getD v.toNat 0=d)
def nearB (mv:List (List Int)) (dist:List Int) (d:Int):Bool:=mv.any fun r=>r.any (atD dist d)
def InR (n:Nat) (v:Int):Prop:=0≤v∧v < n
theorem l4Near_ok (mv:List (List Int)) (dist:List Int) (d:Int) (hin:∀r∈mv,∀v∈r,InR dist.length v):Pure Tryz.prog TB 153 [eIntss mv,eInts dist,eI .i64 d] (eB (nearB mv dist d)):=by
  refine eN Tryz.func153 rfl (by kernel_rfl) rfl ?_;intro Γ hΓ
  refine AWp.bound 0 rfl fun hB0=>?_
  have hB:=hB0 (mv.map iiRow) .refl
  (repeat' first|refine sN rfl ?_|((first|refine sA rfl ?_ ?_|refine s4 rfl ‹_› rfl ?_ ?_);first|exact tI|omega|(simp only[oZ] at *;omega))|(refine s2 rfl ?_;intro _ _hb)|(refine s3 rfl ?_ ?_<;>intro hb<;>subst hb)|refine aS ?_|refine reg (by kernel_rfl) ?_|refine lexE ?_|refine rD (by kernel_rfl) (by kernel_rfl) ?_|(refine aC rfl ?_ ?_<;>intro hb<;>cases hb)|refine aK ?_|refine aE ?_|refine aB ?_|refine AWp.ret ⟨_,rfl,?_⟩)
  refine AWp.loopL (α:={k:Nat // k≤mv.length∧(mv.take k).any (fun r=>r.any (atD dist d))=false}) (fun ⟨k,hk,ha⟩=>[(0,eIntss mv),(1,eInts dist),(2,eI .i64 d),(7,eI .i64 k)]) (fun ⟨k,hk,ha⟩=>[]) 0 (fun ⟨k,hk,ha⟩=>mv.length - k) (⟨0,by omega,by simp⟩) [] (by first|(simp [hΓ];done)|(rw [hΓ];decide)) (by (repeat' (first|exact trivial|rfl|refine And.intro ?_ ?_))<;>simp [EnvSub,StoreSub,look_cons,nm,E.ren,C.ren,C.renL,O.ren,killc,kill0,Function.comp_def,argsFrom,zC,hΓ]) ?_;rintro ⟨k,hk,ha⟩;(try dsimp only)
  (repeat first|refine sN rfl ?_|((first|refine sA rfl ?_ ?_|refine s4 rfl ‹_› rfl ?_ ?_);first|exact tI|omega|(simp only[oZ] at *;omega))|(refine s2 rfl ?_;intro _ _hb)|(refine s3 rfl ?_ ?_<;>intro hb<;>subst hb)|refine aS ?_|refine reg (by kernel_rfl) ?_|refine lexE ?_|refine rD (by kernel_rfl) (by kernel_rfl) ?_)
  (refine aC rfl ?_ ?_<;>intro hb<;>cases hb)
  · obtain ⟨x,hx⟩:=get_some (l:=mv) (k:=k) (by first|omega|(simp only [oZ] at *;omega))
    have hx':=get_map (g:=iiRow) hx
    have hBx:=hB0 (x.map iRow) (.l (i:=k) (j:=0) (r:=iiRow x) (by simp [hx]) rfl .refl)
    have hin:=hin x (List.mem_of_getElem? hx)
    (repeat' first|refine sN rfl ?_|((first|refine sA rfl ?_ ?_|refine s4 rfl ‹_› rfl ?_ ?_);first|exact tI|omega|(simp only[oZ] at *;omega))|(refine s2 rfl ?_;intro _ _hb)|(refine s3 rfl ?_ ?_<;>intro hb<;>subst hb)|refine aS ?_|refine reg (by kernel_rfl) ?_|refine lexE ?_|refine rD (by kernel_rfl) (by kernel_rfl) ?_|(refine aC rfl ?_ ?_<;>intro hb<;>cases hb)|refine aK ?_|refine aE ?_|refine aB ?_|refine AWp.ret ⟨_,rfl,?_⟩)
    refine AWp.loopL (α:={j:Nat // j≤x.length∧(x.take j).any (atD dist d)=false}) (fun ⟨j,hj,hc⟩=>[(0,eIntss mv),(1,eInts dist),(2,eI .i64 d),(7,eI .i64 k),(8,eI .i64 j)]) (fun ⟨j,hj,hc⟩=>[]) 0 (fun ⟨j,hj,hc⟩=>x.length - j) (⟨0,by omega,by simp⟩) [] (by first|(simp [hΓ];done)|(rw [hΓ];decide)) (by (repeat' (first|exact trivial|rfl|refine And.intro ?_ ?_))<;>simp [EnvSub,StoreSub,look_cons,nm,E.ren,C.ren,C.renL,O.ren,killc,kill0,Function.comp_def,argsFrom,zC,hΓ]) ?_;rintro ⟨j,hj,hc⟩;(try dsimp only)
    (repeat first|refine sN rfl ?_|((first|refine sA rfl ?_ ?_|refine s4 rfl ‹_› rfl ?_ ?_);first|exact tI|omega|(simp only[oZ] at *;omega))|(refine s2 rfl ?_;intro _ _hb)|(refine s3 rfl ?_ ?_<;>intro hb<;>subst hb)|refine aS ?_|refine reg (by kernel_rfl) ?_|refine lexE ?_|refine rD (by kernel_rfl) (by kernel_rfl) ?_)
    (refine aC rfl ?_ ?_<;>intro hb<;>cases hb)
    · obtain ⟨y,hy⟩:=get_some (l:=x) (k:=j) (by first|omega|(simp only [oZ] at *;omega))
      have hy':=get_map (g:=iRow) hy
      obtain ⟨h1,h2⟩:=hin y (List.mem_of_getElem? hy)
      obtain ⟨z,hz⟩:=get_some (l:=dist) (k:=y.toNat) (by omega)
      have hz':(dist.map iRow)[y.toNat]? = some (iRow z):=by simp [hz]
      have hat:atD dist d y=decide (z=d):=by simp [atD,hz]
      (repeat' first|refine sN rfl ?_|((first|refine sA rfl ?_ ?_|refine s4 rfl ‹_› rfl ?_ ?_);first|exact tI|omega|(simp only[oZ] at *;omega))|(refine s2 rfl ?_;intro _ _hb)|(refine s3 rfl ?_ ?_<;>intro hb<;>subst hb)|refine aS ?_|refine reg (by kernel_rfl) ?_|refine lexE ?_|refine rD (by kernel_rfl) (by kernel_rfl) ?_|(refine aC rfl ?_ ?_<;>intro hb<;>cases hb)|refine aK ?_|refine aE ?_|refine aB ?_|refine AWp.ret ⟨_,rfl,?_⟩)
      all_goals first
        | (have h3:=any_hit hx (f:=fun r=>r.any (atD dist d)) (any_hit hy (by rw [hat];grind));show E.o _=E.o _;congr;unfold nearB;rw [h3];done)
        | (refine ⟨⟨j+1,by first|omega|(simp only [oZ] at *;omega),any_step hy hc (by rw [hat];grind)⟩,by dsimp only;(first|omega|(simp only [oZ] at *;omega)),[],?_⟩;simp [EnvSub,StoreSub,look_cons,nm,E.ren,C.ren,C.renL,O.ren,killc,kill0,Function.comp_def,argsFrom,zC,hΓ];done)
    · (repeat' first|refine sN rfl ?_|((first|refine sA rfl ?_ ?_|refine s4 rfl ‹_› rfl ?_ ?_);first|exact tI|omega|(simp only[oZ] at *;omega))|(refine s2 rfl ?_;intro _ _hb)|(refine s3 rfl ?_ ?_<;>intro hb<;>subst hb)|refine aS ?_|refine reg (by kernel_rfl) ?_|refine lexE ?_|refine rD (by kernel_rfl) (by kernel_rfl) ?_|(refine aC rfl ?_ ?_<;>intro hb<;>cases hb)|refine aK ?_|refine aE ?_|refine aB ?_|refine AWp.ret ⟨_,rfl,?_⟩)
      refine ⟨⟨k+1,by first|omega|(simp only [oZ] at *;omega),any_step hx ha (any_done hc (by first|omega|(simp only [oZ] at *;omega)))⟩,by dsimp only;(first|omega|(simp only [oZ] at *;omega)),[],?_⟩
      simp [EnvSub,StoreSub,look_cons,nm,E.ren,C.ren,C.renL,O.ren,killc,kill0,Function.comp_def,argsFrom,zC,hΓ]
  · (repeat' first|refine sN rfl ?_|((first|refine sA rfl ?_ ?_|refine s4 rfl ‹_› rfl ?_ ?_);first|exact tI|omega|(simp only[oZ] at *;omega))|(refine s2 rfl ?_;intro _ _hb)|(refine s3 rfl ?_ ?_<;>intro hb<;>subst hb)|refine aS ?_|refine reg (by kernel_rfl) ?_|refine lexE ?_|refine rD (by kernel_rfl) (by kernel_rfl) ?_|(refine aC rfl ?_ ?_<;>intro hb<;>cases hb)|refine aK ?_|refine aE ?_|refine aB ?_|refine AWp.ret ⟨_,rfl,?_⟩)
    have h1:=any_done ha (by first|omega|(simp only [oZ] at *;omega))
    show E.o _=E.o _;congr;unfold nearB;rw [h1]
end Go.Am
namespace Go.Am
open Go
inductive Fits:List Int→List Int→Prop
  | nil:Fits [] []
  | cons {z s:Int} {zs ss:List Int}:0≤s→s < z→Fits zs ss→Fits (z::zs) (s::ss)
def prodI:List Int→Int
  | []=>1
  | z::zs=>z*prodI zs
theorem Fits.len {zs ss:List Int} (h:Fits zs ss):zs.length=ss.length:=by
  induction h with
  | nil=>rfl
  | cons _ _ _ ih=>simp [ih]
theorem Fits.pos {zs ss:List Int} (h:Fits zs ss):1≤prodI zs:=by
  induction h with
  | nil=>simp [prodI]
  | @cons z s zs ss h0 h1 _ ih=>
    have:1*1≤z*prodI zs:=Int.mul_le_mul (by omega) ih (by omega) (by omega)
    simpa [prodI] using this
theorem Fits.enc {zs ss:List Int} (h:Fits zs ss):∀n:Int,0≤n→0≤encN zs ss n∧encN zs ss n < (n+1)*prodI zs:=by
  induction h with
  | nil=>intro n hn;simp [encN,prodI];omega
  | @cons z s zs ss h0 h1 h2 ih=>
    intro n hn
    have hz:0≤n*z:=Int.mul_nonneg hn (by omega)
    obtain ⟨h3,h4⟩:=ih (n*z+s) (by omega)
    refine ⟨h3,Int.lt_of_lt_of_le h4 ?_⟩
    rw [prodI,←Int.mul_assoc]
    refine Int.mul_le_mul_of_nonneg_right ?_ (by have:=h2.pos;omega)
    rw [Int.add_mul];omega
theorem Fits.take {zs ss:List Int} (h:Fits zs ss):∀k,Fits (zs.take k) (ss.take k)∧prodI (zs.take k)≤prodI zs:=by
  induction h with
  | nil=>intro k;simp;exact .nil
  | @cons z s zs ss h0 h1 h2 ih=>
    intro k
    cases k with
    | zero=>
      have:=(Fits.cons h0 h1 h2).pos
      exact ⟨.nil,by simpa [prodI] using this⟩
    | succ k=>
      obtain ⟨h3,h4⟩:=ih k
      exact ⟨.cons h0 h1 h3,by simp only [List.take_succ_cons,prodI];exact Int.mul_le_mul_of_nonneg_left h4 (by omega)⟩
theorem Fits.get {zs ss:List Int} (h:Fits zs ss):∀(k:Nat) (z s:Int),zs[k]? = some z→ss[k]? = some s→0≤s∧s < z:=by
  induction h with
  | nil=>intro k z s hz;simp at hz
  | cons h0 h1 _ ih=>
    intro k z s hz hs
    cases k with
    | zero=>simp at hz hs;subst hz hs;exact ⟨h0,h1⟩
    | succ k=>exact ih k z s (by simpa using hz) (by simpa using hs)
theorem encN_step:∀ {zs ss:List Int} {k:Nat} {z s:Int} (n:Int),zs[k]? = some z→ss[k]? = some s→encN (zs.take (k+1)) (ss.take (k+1)) n=encN (zs.take k) (ss.take k) n*z+s
  | [],_,k,z,s,n,hz,_=>by simp at hz
  | a::zs,[],k,z,s,n,_,hs=>by simp at hs
  | a::zs,b::ss,0,z,s,n,hz,hs=>by
    simp at hz hs;subst hz hs;simp [encN]
  | a::zs,b::ss,k+1,z,s,n,hz,hs=>by
    simp only [List.take_succ_cons,encN]
    exact encN_step _ (by simpa using hz) (by simpa using hs)
end Go.Am
namespace Go.Am
open Go Go.Proofs
set_option maxHeartbeats 1000000
attribute [local irreducible] QOp AOp Lex LexO AWp Spec
variable {TB:List (Nat×Obj)}
theorem l4Ok_ok (n:Net) (st:List Int) (i:Nat) (a:Aut) (q:Int) (b:Bool) (ha:n.au[i]? = some a) (hs:st[n.ps.length+i]? = some q) (h0:0≤q) (hb:a.ac[q.toNat]? = some b):Pure Tryz.prog TB 152 [eNet n,eInts st,eI .i64 i] (eB b):=by
  refine eN Tryz.func152 rfl (by kernel_rfl) rfl ?_;intro Γ hΓ
  refine AWp.bound 1 rfl fun hB0=>?_
  have hB:=hB0 (st.map iRow) .refl
  have h1:=(List.getElem?_eq_some_iff.1 hs).1
  have ha':=get_map (g:=auRow) ha
  have hs':(st.map iRow)[((n.ps.length:Int)+(i:Int)).toNat]? = some (iRow q):=by
    have:((n.ps.length:Int)+(i:Int)).toNat=n.ps.length+i:=by omega
    rw [this];simp [hs]
  have hb':(a.ac.map bRow)[q.toNat]? = some (bRow b):=by simp [hb]
  (repeat' first|refine sN rfl ?_|((first|refine sA rfl ?_ ?_|refine s4 rfl ‹_› rfl ?_ ?_);first|exact tI|omega|(simp only[oZ] at *;omega))|(refine s2 rfl ?_;intro _ _hb)|(refine s3 rfl ?_ ?_<;>intro hb<;>subst hb)|refine aS ?_|refine reg (by kernel_rfl) ?_|refine lexE ?_|refine rD (by kernel_rfl) (by kernel_rfl) ?_|(refine aC rfl ?_ ?_<;>intro hb<;>cases hb)|refine aK ?_|refine aE ?_|refine aB ?_|refine AWp.ret ⟨_,rfl,?_⟩)
  rfl
theorem l4Encode_ok (zs ss:List Int) (hf:Fits zs ss) (hp:prodI zs≤4611686018427387904):Pure Tryz.prog TB 133 [eInts zs,eInts ss] (eI .i64 (encN zs ss 0)):=by
  refine eN Tryz.func133 rfl (by kernel_rfl) rfl ?_;intro Γ hΓ
  refine AWp.bound 0 rfl fun hB0=>?_
  have hB:=hB0 (zs.map iRow) .refl
  have hlen:=hf.len
  (repeat' first|refine sN rfl ?_|((first|refine sA rfl ?_ ?_|refine s4 rfl ‹_› rfl ?_ ?_);first|exact tI|omega|(simp only[oZ] at *;omega))|(refine s2 rfl ?_;intro _ _hb)|(refine s3 rfl ?_ ?_<;>intro hb<;>subst hb)|refine aS ?_|refine reg (by kernel_rfl) ?_|refine lexE ?_|refine rD (by kernel_rfl) (by kernel_rfl) ?_|(refine aC rfl ?_ ?_<;>intro hb<;>cases hb)|refine aK ?_|refine aE ?_|refine aB ?_|refine AWp.ret ⟨_,rfl,?_⟩)
  refine AWp.loopL (α:={k:Nat // k≤zs.length}) (fun ⟨k,hk⟩=>[(0,eInts zs),(1,eInts ss),(5,eI .i64 (encN (zs.take k) (ss.take k) 0)),(6,eI .i64 k)]) (fun ⟨k,hk⟩=>[]) 0 (fun ⟨k,hk⟩=>zs.length - k) (⟨0,by omega⟩) [] (by first|(simp [hΓ];done)|(rw [hΓ];decide)) (by (repeat' (first|exact trivial|rfl|refine And.intro ?_ ?_))<;>simp [EnvSub,StoreSub,look_cons,nm,E.ren,C.ren,C.renL,O.ren,killc,kill0,Function.comp_def,argsFrom,zC,hΓ]) ?_;rintro ⟨k,hk⟩;(try dsimp only)
  (repeat first|refine sN rfl ?_|((first|refine sA rfl ?_ ?_|refine s4 rfl ‹_› rfl ?_ ?_);first|exact tI|omega|(simp only[oZ] at *;omega))|(refine s2 rfl ?_;intro _ _hb)|(refine s3 rfl ?_ ?_<;>intro hb<;>subst hb)|refine aS ?_|refine reg (by kernel_rfl) ?_|refine lexE ?_|refine rD (by kernel_rfl) (by kernel_rfl) ?_)
  (refine aC rfl ?_ ?_<;>intro hb<;>cases hb)
  · obtain ⟨x,hx⟩:=get_some (l:=zs) (k:=k) (by first|omega|(simp only [oZ] at *;omega))
    have hx':=get_map (g:=iRow) hx
    obtain ⟨y,hy⟩:=get_some (l:=ss) (k:=k) (by first|omega|(simp only [oZ] at *;omega))
    have hy':=get_map (g:=iRow) hy
    have h1:=(hf.take k).1.enc 0 (by omega)
    have h2:=(hf.take (k+1)).1.enc 0 (by omega)
    have h3:=(hf.take (k+1)).2
    have h4:=encN_step 0 hx hy
    have h6:=hf.get k x y hx hy
    have h5:0≤encN (zs.take k) (ss.take k) 0*x:=Int.mul_nonneg h1.1 (by omega)
    (repeat' first|refine sN rfl ?_|((first|refine sA rfl ?_ ?_|refine s4 rfl ‹_› rfl ?_ ?_);first|exact tI|omega|(simp only[oZ] at *;omega))|(refine s2 rfl ?_;intro _ _hb)|(refine s3 rfl ?_ ?_<;>intro hb<;>subst hb)|refine aS ?_|refine reg (by kernel_rfl) ?_|refine lexE ?_|refine rD (by kernel_rfl) (by kernel_rfl) ?_|(refine aC rfl ?_ ?_<;>intro hb<;>cases hb)|refine aK ?_|refine aE ?_|refine aB ?_|refine AWp.ret ⟨_,rfl,?_⟩)
    refine ⟨⟨k+1,by first|omega|(simp only [oZ] at *;omega)⟩,by dsimp only;(first|omega|(simp only [oZ] at *;omega)),[],?_⟩
    simp [EnvSub,StoreSub,look_cons,nm,E.ren,C.ren,C.renL,O.ren,killc,kill0,Function.comp_def,argsFrom,zC,hΓ,h4]
  · (repeat' first|refine sN rfl ?_|((first|refine sA rfl ?_ ?_|refine s4 rfl ‹_› rfl ?_ ?_);first|exact tI|omega|(simp only[oZ] at *;omega))|(refine s2 rfl ?_;intro _ _hb)|(refine s3 rfl ?_ ?_<;>intro hb<;>subst hb)|refine aS ?_|refine reg (by kernel_rfl) ?_|refine lexE ?_|refine rD (by kernel_rfl) (by kernel_rfl) ?_|(refine aC rfl ?_ ?_<;>intro hb<;>cases hb)|refine aK ?_|refine aE ?_|refine aB ?_|refine AWp.ret ⟨_,rfl,?_⟩)
    rw [List.take_of_length_le (by first|omega|(simp only [oZ] at *;omega)),List.take_of_length_le (by first|omega|(simp only [oZ] at *;omega))]
end Go.Am
namespace Go.Am
open Go Go.Proofs
set_option maxHeartbeats 1000000
attribute [local irreducible] QOp AOp Lex LexO AWp Spec
variable {TB:List (Nat×Obj)}
def sizesN (n:Net):List Int:=n.ps.map (·.st)++n.au.map (fun a=>(a.nx.length:Int))
theorem l4Sizes_ok (n:Net) (hsm:n.ps.length+n.au.length≤1000000):Pure Tryz.prog TB 128 [eNet n] (eInts (sizesN n)):=by
  refine eN Tryz.func128 rfl (by kernel_rfl) rfl ?_;intro Γ hΓ
  (repeat first|refine sN rfl ?_|((first|refine sM rfl ?_ ?_|refine s4 rfl ‹_› rfl ?_ ?_);first|exact tI|omega|(simp only[oZ] at *;omega))|(refine s2 rfl ?_;intro _ _hb)|(refine s3 rfl ?_ ?_<;>intro hb<;>subst hb)|refine aS ?_|refine reg (by kernel_rfl) ?_|refine lexE ?_|refine rD (by kernel_rfl) (by kernel_rfl) ?_)
  (refine popO rfl ?_;refine popS (fun _ _=>q_boxI rfl rfl rfl) rfl ?_)
  (refine popO rfl ?_;refine popS (fun _ _=>q_assign rfl) rfl ?_)
  (repeat first|refine sN rfl ?_|((first|refine sM rfl ?_ ?_|refine s4 rfl ‹_› rfl ?_ ?_);first|exact tI|omega|(simp only[oZ] at *;omega))|(refine s2 rfl ?_;intro _ _hb)|(refine s3 rfl ?_ ?_<;>intro hb<;>subst hb)|refine aS ?_|refine reg (by kernel_rfl) ?_|refine lexE ?_|refine rD (by kernel_rfl) (by kernel_rfl) ?_)
  (refine popO rfl ?_;refine popW ?_ rfl (by rfl);refine n_sliceB rfl rfl rfl rfl (by simp) (by rfl) (by rfl) (by rfl) (by rfl) ?_)
  (repeat first|refine sN rfl ?_|((first|refine sM rfl ?_ ?_|refine s4 rfl ‹_› rfl ?_ ?_);first|exact tI|omega|(simp only[oZ] at *;omega))|(refine s2 rfl ?_;intro _ _hb)|(refine s3 rfl ?_ ?_<;>intro hb<;>subst hb)|refine aS ?_|refine reg (by kernel_rfl) ?_|refine lexE ?_|refine rD (by kernel_rfl) (by kernel_rfl) ?_)
  refine AWp.block ?_
  refine AWp.loopL (α:={k:Nat // k≤n.ps.length}) (fun ⟨k,hk⟩=>[(1,.o (.ip (nRow n))),(3,.o (.arr 0 1 0 k)),(4,eI .i64 k)]) (fun ⟨k,hk⟩=>[(0,.cells 3 1 (((n.ps.take k).map (·.st)).map iRowC))]) 1 (fun ⟨k,hk⟩=>n.ps.length - k) (⟨0,by omega⟩) [0] (by first|(simp [hΓ];done)|(rw [hΓ];decide)) (by (repeat' (first|exact trivial|rfl|refine And.intro ?_ ?_))<;>simp [EnvSub,StoreSub,look_cons,nm,E.ren,C.ren,C.renL,O.ren,killc,kill0,Function.comp_def,argsFrom,zC,hΓ]) ?_;rintro ⟨k,hk⟩;(try dsimp only)
  (repeat first|refine sN rfl ?_|((first|refine sM rfl ?_ ?_|refine s4 rfl ‹_› rfl ?_ ?_);first|exact tI|omega|(simp only[oZ] at *;omega))|(refine s2 rfl ?_;intro _ _hb)|(refine s3 rfl ?_ ?_<;>intro hb<;>subst hb)|refine aS ?_|refine reg (by kernel_rfl) ?_|refine lexE ?_|refine rD (by kernel_rfl) (by kernel_rfl) ?_)
  (refine aC rfl ?_ ?_<;>intro hb<;>cases hb)
  · obtain ⟨x,hx⟩:=get_some (l:=n.ps) (k:=k) (by first|omega|(simp only [oZ] at *;omega))
    have hx':=get_map (g:=syRow) hx
    refine AWp.skip ?_
    refine AWp.seq (AWp.block ?_)
    (repeat first|refine sN rfl ?_|((first|refine sA rfl ?_ ?_|refine s4 rfl ‹_› rfl ?_ ?_);first|exact tI|omega|(simp only[oZ] at *;omega))|(refine s2 rfl ?_;intro _ _hb)|(refine s3 rfl ?_ ?_<;>intro hb<;>subst hb)|refine aS ?_|refine reg (by kernel_rfl) ?_|refine lexE ?_|refine rD (by kernel_rfl) (by kernel_rfl) ?_)
    (refine popO rfl ?_;refine popW ?_ rfl (by rfl);refine n_append rfl rfl rfl (by first|(simp;done)|(simp;(first|omega|(simp only [oZ] at *;omega)))) rfl (by intro r hr;simp at hr;subst hr;rfl) (by rfl) (Nat.le_of_ble_eq_true rfl) (by simp;first|omega|(simp only [oZ] at *;omega)) ?_)
    (repeat first|refine sN rfl ?_|((first|refine sX rfl ?_ ?_|refine s4 rfl ‹_› rfl ?_ ?_);first|exact tI|omega|(simp only[oZ] at *;omega))|(refine s2 rfl ?_;intro _ _hb)|(refine s3 rfl ?_ ?_<;>intro hb<;>subst hb)|refine aS ?_|refine reg (by kernel_rfl) ?_|refine lexE ?_|refine rD (by kernel_rfl) (by kernel_rfl) ?_)
    refine ⟨⟨k+1,by first|omega|(simp only [oZ] at *;omega)⟩,by dsimp only;(first|omega|(simp only [oZ] at *;omega)),[1],?_⟩
    simp [EnvSub,StoreSub,look_cons,nm,E.ren,C.ren,C.renL,O.ren,killc,kill0,Function.comp_def,argsFrom,zC,hΓ,List.take_add_one,hx]
  · obtain rfl:k=n.ps.length:=by first|omega|(simp only [oZ] at *;omega)
    refine AWp.exit ?_
    (repeat first|refine sN rfl ?_|((first|refine sM rfl ?_ ?_|refine s4 rfl ‹_› rfl ?_ ?_);first|exact tI|omega|(simp only[oZ] at *;omega))|(refine s2 rfl ?_;intro _ _hb)|(refine s3 rfl ?_ ?_<;>intro hb<;>subst hb)|refine aS ?_|refine reg (by kernel_rfl) ?_|refine lexE ?_|refine rD (by kernel_rfl) (by kernel_rfl) ?_)
    refine AWp.block ?_
    refine AWp.loopL (α:={j:Nat // j≤n.au.length}) (fun ⟨j,hj⟩=>[(1,.o (.ip (nRow n))),(3,.o (.arr 0 1 0 (n.ps.length+j))),(5,eI .i64 j)]) (fun ⟨j,hj⟩=>[(0,.cells 3 1 ((n.ps.map (·.st)++(n.au.take j).map (fun a=>(a.nx.length:Int))).map iRowC))]) 1 (fun ⟨j,hj⟩=>n.au.length - j) (⟨0,by omega⟩) [0] (by first|(simp [hΓ];done)|(rw [hΓ];decide)) (by (repeat' (first|exact trivial|rfl|refine And.intro ?_ ?_))<;>simp [EnvSub,StoreSub,look_cons,nm,E.ren,C.ren,C.renL,O.ren,killc,kill0,Function.comp_def,argsFrom,zC,hΓ]) ?_;rintro ⟨j,hj⟩;(try dsimp only)
    (repeat first|refine sN rfl ?_|((first|refine sM rfl ?_ ?_|refine s4 rfl ‹_› rfl ?_ ?_);first|exact tI|omega|(simp only[oZ] at *;omega))|(refine s2 rfl ?_;intro _ _hb)|(refine s3 rfl ?_ ?_<;>intro hb<;>subst hb)|refine aS ?_|refine reg (by kernel_rfl) ?_|refine lexE ?_|refine rD (by kernel_rfl) (by kernel_rfl) ?_)
    (refine aC rfl ?_ ?_<;>intro hb<;>cases hb)
    · obtain ⟨x,hx⟩:=get_some (l:=n.au) (k:=j) (by first|omega|(simp only [oZ] at *;omega))
      have hx':=get_map (g:=auRow) hx
      refine AWp.skip ?_
      refine AWp.seq (AWp.block ?_)
      (repeat first|refine sN rfl ?_|((first|refine sA rfl ?_ ?_|refine s4 rfl ‹_› rfl ?_ ?_);first|exact tI|omega|(simp only[oZ] at *;omega))|(refine s2 rfl ?_;intro _ _hb)|(refine s3 rfl ?_ ?_<;>intro hb<;>subst hb)|refine aS ?_|refine reg (by kernel_rfl) ?_|refine lexE ?_|refine rD (by kernel_rfl) (by kernel_rfl) ?_)
      (refine popO rfl ?_;refine popW ?_ rfl (by rfl);refine n_append rfl rfl rfl (by first|(simp;done)|(simp;(first|omega|(simp only [oZ] at *;omega)))) rfl (by intro r hr;simp at hr;subst hr;rfl) (by rfl) (Nat.le_of_ble_eq_true rfl) (by simp;first|omega|(simp only [oZ] at *;omega)) ?_)
      (repeat first|refine sN rfl ?_|((first|refine sX rfl ?_ ?_|refine s4 rfl ‹_› rfl ?_ ?_);first|exact tI|omega|(simp only[oZ] at *;omega))|(refine s2 rfl ?_;intro _ _hb)|(refine s3 rfl ?_ ?_<;>intro hb<;>subst hb)|refine aS ?_|refine reg (by kernel_rfl) ?_|refine lexE ?_|refine rD (by kernel_rfl) (by kernel_rfl) ?_)
      refine ⟨⟨j+1,by first|omega|(simp only [oZ] at *;omega)⟩,by dsimp only;(first|omega|(simp only [oZ] at *;omega)),[1],?_⟩
      simp [EnvSub,StoreSub,look_cons,nm,E.ren,C.ren,C.renL,O.ren,killc,kill0,Function.comp_def,argsFrom,zC,hΓ,List.take_add_one,hx,Nat.add_assoc]
    · obtain rfl:j=n.au.length:=by first|omega|(simp only [oZ] at *;omega)
      refine AWp.exit ?_
      (repeat first|refine sN rfl ?_|((first|refine sM rfl ?_ ?_|refine s4 rfl ‹_› rfl ?_ ?_);first|exact tI|omega|(simp only[oZ] at *;omega))|(refine s2 rfl ?_;intro _ _hb)|(refine s3 rfl ?_ ?_<;>intro hb<;>subst hb)|refine aS ?_|refine reg (by kernel_rfl) ?_|refine lexE ?_|refine rD (by kernel_rfl) (by kernel_rfl) ?_)
      refine AWp.freeze [0] [(2,.o (.d (iList (sizesN n))))] ⟨⟨_,rfl,.o (.full (by simp) rfl (by simp [Function.comp_def,sizesN]) (by simp))⟩,trivial⟩ ?_
      refine AWp.ret ⟨_,rfl,rfl⟩
end Go.Am
namespace Go.Am
open Go Go.Proofs
set_option maxHeartbeats 1000000
attribute [local irreducible] QOp AOp Lex LexO AWp Spec
variable {TB:List (Nat×Obj)}
def decN:List Int→Int→List Int
  | [],_=>[]
  | z::zs,n=>n / prodI zs % z::decN zs n
theorem decN_len:∀(zs:List Int) (n:Int),(decN zs n).length=zs.length
  | [],_=>rfl
  | z::zs,n=>by simp [decN,decN_len zs n]
theorem set_mid {α:Type} (a x:α) (k:Nat) (L:List α):(List.replicate (k+1) a++L).set k x=List.replicate k a++x::L:=by
  rw [List.set_append_left _ _ (by simp),List.replicate_succ',List.set_append_right _ _ (by simp)]
  simp
theorem l4Decode_ok (zs:List Int) (n:Int) (h0:0≤n) (h1:n≤9223372036854775807) (hz:∀z∈zs,0 < z) (hl:zs.length≤1000000):Pure Tryz.prog TB 131 [eInts zs,eI .i64 n] (eInts (decN zs n)):=by
  have hpp:∀k,0 < prodI (zs.drop k):=by
    intro k
    have:∀l:List Int,(∀z∈l,0 < z)→0 < prodI l:=by
      intro l
      induction l with
      | nil=>intro _;simp [prodI]
      | cons a l ih=>intro h;exact Int.mul_pos (h a (by simp)) (ih fun z hz=>h z (by simp [hz]))
    exact this _ fun z h=>hz z (List.mem_of_mem_drop h)
  refine eN Tryz.func131 rfl (by kernel_rfl) rfl ?_;intro Γ hΓ
  (repeat first|refine sN rfl ?_|((first|refine sM rfl ?_ ?_|refine s4 rfl ‹_› rfl ?_ ?_);first|exact tI|omega|(simp only[oZ] at *;omega))|(refine s2 rfl ?_;intro _ _hb)|(refine s3 rfl ?_ ?_<;>intro hb<;>subst hb)|refine aS ?_|refine reg (by kernel_rfl) ?_|refine lexE ?_|refine rD (by kernel_rfl) (by kernel_rfl) ?_)
  (refine popO rfl ?_;refine popS (fun _ _=>q_assign rfl) rfl ?_)
  (repeat first|refine sN rfl ?_|((first|refine sM rfl ?_ ?_|refine s4 rfl ‹_› rfl ?_ ?_);first|exact tI|omega|(simp only[oZ] at *;omega))|(refine s2 rfl ?_;intro _ _hb)|(refine s3 rfl ?_ ?_<;>intro hb<;>subst hb)|refine aS ?_|refine reg (by kernel_rfl) ?_|refine lexE ?_|refine rD (by kernel_rfl) (by kernel_rfl) ?_)
  (refine popO rfl ?_;refine popW ?_ rfl (by rfl);refine n_make rfl rfl (by rfl) (by rfl) (Nat.le_of_ble_eq_true rfl) (by omega) (by omega) (by omega) ?_)
  (repeat first|refine sN rfl ?_|((first|refine sM rfl ?_ ?_|refine s4 rfl ‹_› rfl ?_ ?_);first|exact tI|omega|(simp only[oZ] at *;omega))|(refine s2 rfl ?_;intro _ _hb)|(refine s3 rfl ?_ ?_<;>intro hb<;>subst hb)|refine aS ?_|refine reg (by kernel_rfl) ?_|refine lexE ?_|refine rD (by kernel_rfl) (by kernel_rfl) ?_)
  refine AWp.block ?_
  refine AWp.loopL (α:={k:Nat // k≤zs.length}) (fun ⟨k,hk⟩=>[(0,eInts zs),(1,eI .i64 (n / prodI (zs.drop k))),(5,.o (.arr 0 1 0 zs.length)),(6,eI .i64 ((k:Int) - 1))]) (fun ⟨k,hk⟩=>[(0,.cells 3 1 ((List.replicate k 0++decN (zs.drop k) n).map iRowC))]) 1 (fun ⟨k,hk⟩=>k) (⟨zs.length,by omega⟩) [0] (by first|(simp [hΓ];done)|(rw [hΓ];decide)) (by (repeat' (first|exact trivial|rfl|refine And.intro ?_ ?_))<;>simp [EnvSub,StoreSub,look_cons,nm,E.ren,C.ren,C.renL,O.ren,killc,kill0,Function.comp_def,argsFrom,zC,hΓ,decN,prodI]) ?_;rintro ⟨k,hk⟩;(try dsimp only)
  (repeat first|refine sN rfl ?_|((first|refine sM rfl ?_ ?_|refine s4 rfl ‹_› rfl ?_ ?_);first|exact tI|omega|(simp only[oZ] at *;omega))|(refine s2 rfl ?_;intro _ _hb)|(refine s3 rfl ?_ ?_<;>intro hb<;>subst hb)|refine aS ?_|refine reg (by kernel_rfl) ?_|refine lexE ?_|refine rD (by kernel_rfl) (by kernel_rfl) ?_)
  (refine aC rfl ?_ ?_<;>intro hb<;>cases hb)
  · obtain ⟨k,rfl⟩:∃k',k=k'+1:=⟨k - 1,by first|omega|(simp only [oZ] at *;omega)⟩
    obtain ⟨x,hx⟩:=get_some (l:=zs) (k:=k) (by first|omega|(simp only [oZ] at *;omega))
    have hx':(zs.map iRow)[(((k+1:Nat):Int) - 1).toNat]? = some (iRow x):=by simp [hx]
    have hxp:=hz x (List.mem_of_getElem? hx)
    have hd:=drop_some hx
    have hP:=hpp (k+1)
    have h2:0≤n / prodI (zs.drop (k+1)):=Int.ediv_nonneg h0 (by omega)
    have h3:n / prodI (zs.drop (k+1))≤n:=Int.ediv_le_self _ h0
    have hi:((((k+1:Nat):Int) - 1).toNat)=k:=by omega
    refine AWp.skip ?_
    refine AWp.seq (AWp.block ?_)
    (repeat first|refine sN rfl ?_|((first|refine sA rfl ?_ ?_|refine s4 rfl ‹_› rfl ?_ ?_);first|exact tI|omega|(simp only[oZ] at *;omega))|(refine s2 rfl ?_;intro _ _hb)|(refine s3 rfl ?_ ?_<;>intro hb<;>subst hb)|refine aS ?_|refine reg (by kernel_rfl) ?_|refine lexE ?_|refine rD (by kernel_rfl) (by kernel_rfl) ?_)
    (refine popO rfl ?_;refine popW0 ?_ rfl (by rfl);refine n_store (r:=iRowC 0) rfl rfl rfl rfl (by rw [Nat.zero_add,hi,List.getElem?_map,List.getElem?_append_left (by simp)];simp) rfl (Nat.le_of_ble_eq_true rfl) ?_)
    (repeat first|refine sN rfl ?_|((first|refine sA rfl ?_ ?_|refine s4 rfl ‹_› rfl ?_ ?_);first|exact tI|omega|(simp only[oZ] at *;omega))|(refine s2 rfl ?_;intro _ _hb)|(refine s3 rfl ?_ ?_<;>intro hb<;>subst hb)|refine aS ?_|refine reg (by kernel_rfl) ?_|refine lexE ?_|refine rD (by kernel_rfl) (by kernel_rfl) ?_)
    refine ⟨⟨k,by first|omega|(simp only [oZ] at *;omega)⟩,by dsimp only;(first|omega|(simp only [oZ] at *;omega)),[0],?_⟩
    rw [Nat.zero_add,hi]
    have h5:((List.replicate (k+1) (0:Int)++decN (zs.drop (k+1)) n).map iRowC).set k (iRowC (n / prodI (zs.drop (k+1)) % x))=(List.replicate k 0++decN (zs.drop k) n).map iRowC:=by
      rw [←List.map_set,set_mid,hd,decN]
    have h6:n / prodI (zs.drop (k+1)) / x=n / prodI (zs.drop k):=by
      rw [hd,prodI,Int.mul_comm,Int.ediv_ediv_of_nonneg (by omega)]
    have h7:spliceC (iRowC 0) 0 (eC (eI .i64 (n / prodI (zs.drop (k+1)) % x)))=iRowC (n / prodI (zs.drop (k+1)) % x):=rfl
    rw [h7,h5]
    simp [EnvSub,StoreSub,look_cons,nm,E.ren,C.ren,C.renL,O.ren,killc,kill0,Function.comp_def,argsFrom,zC,hΓ,h6]
  · obtain rfl:k=0:=by first|omega|(simp only [oZ] at *;omega)
    refine AWp.exit ?_
    (repeat first|refine sN rfl ?_|((first|refine sM rfl ?_ ?_|refine s4 rfl ‹_› rfl ?_ ?_);first|exact tI|omega|(simp only[oZ] at *;omega))|(refine s2 rfl ?_;intro _ _hb)|(refine s3 rfl ?_ ?_<;>intro hb<;>subst hb)|refine aS ?_|refine reg (by kernel_rfl) ?_|refine lexE ?_|refine rD (by kernel_rfl) (by kernel_rfl) ?_)
    refine AWp.freeze [0] [(4,.o (.d (iList (decN zs n))))] ⟨⟨_,rfl,.o (.full (by simp) rfl (by simp [Function.comp_def]) (by simp [decN_len]))⟩,trivial⟩ ?_
    refine AWp.ret ⟨_,rfl,rfl⟩
end Go.Am
namespace Go.Am
open Go
def sysTo (s:Sys) (q l:Int):List Int:=if bitB s.al l.toNat then (s.es.filter fun e=>decide (e.f=q) && decide (e.l=l)).map (·.t) else [q]
theorem befB_trans {a b c:Edg} (h:befB a b=true) (k:befB b c=true):befB a c=true:=by
  unfold befB at *;grind
theorem sysOk_head {s:Sys} (h:sysOk s=true):alphB s.al=true∧1≤s.st∧s.st≤16:=by
  unfold sysOk at h;grind
theorem sysOk_edge {s:Sys} (h:sysOk s=true) {e:Edg} (he:e∈s.es):edgeOk s.al s.st e=true:=by
  obtain ⟨k,hk,rfl⟩:=List.getElem_of_mem he
  unfold sysOk at h
  simp only [Bool.and_eq_true,List.all_eq_true] at h
  have h1:=h.2 k (List.mem_range.2 hk)
  cases k with
  | zero=>rw [sysAt_0 (List.getElem?_eq_getElem hk)] at h1;exact h1
  | succ k=>rw [sysAt_s (List.getElem?_eq_getElem hk) (List.getElem?_eq_getElem (by omega))] at h1;grind
theorem sysOk_sorted {s:Sys} (h:sysOk s=true):s.es.Pairwise fun a b=>befB a b=true:=by
  have key:∀(l:List Edg),(∀(k:Nat) (p e:Edg),l[k]? = some p→l[k+1]? = some e→befB p e=true)→l.Pairwise fun a b=>befB a b=true:=by
    intro l
    induction l with
    | nil=>intro _;exact .nil
    | cons a l ih=>
      intro hl
      have h1:=ih fun k p e hp he=>hl (k+1) p e (by simpa using hp) (by simpa using he)
      refine List.pairwise_cons.2 ⟨fun b hb=>?_,h1⟩
      cases l with
      | nil=>cases hb
      | cons c l=>
        have h2:=hl 0 a c rfl rfl
        rcases List.mem_cons.1 hb with rfl|hb
        · exact h2
        · exact befB_trans h2 ((List.pairwise_cons.1 h1).1 b hb)
  refine key _ fun k p e hp he=>?_
  unfold sysOk at h
  simp only [Bool.and_eq_true,List.all_eq_true] at h
  have h1:=h.2 (k+1) (List.mem_range.2 (List.getElem?_eq_some_iff.1 he).1)
  rw [sysAt_s he hp] at h1
  grind
theorem incr_len:∀(l:List Int) (a b:Int),(a::l).Pairwise (· < ·)→(∀x∈a::l,x < b)→a+((l.length:Int)+1)≤b
  | [],a,b,_,h=>by have:=h a (by simp);simp;omega
  | c::l,a,b,hp,h=>by
    have h1:=incr_len l c b (List.pairwise_cons.1 hp).2 fun x hx=>h x (by simp at hx ⊢;exact .inr hx)
    have h2:=(List.pairwise_cons.1 hp).1 c (by simp)
    simp;omega
theorem sysTo_sorted {s:Sys} (h:sysOk s=true) (q l:Int):(sysTo s q l).Pairwise (· < ·):=by
  unfold sysTo
  split
  · rw [List.pairwise_map]
    refine List.Pairwise.imp_of_mem (fun {a b} ha hb hab=>?_) ((sysOk_sorted h).filter _)
    have h1:=(List.mem_filter.1 ha).2
    have h2:=(List.mem_filter.1 hb).2
    unfold befB at hab
    grind
  · simp
theorem sysTo_in {s:Sys} (h:sysOk s=true) {q l:Int} (h0:0≤q) (h1:q < s.st) {x:Int} (hx:x∈sysTo s q l):0≤x∧x < s.st:=by
  unfold sysTo at hx
  split at hx
  · obtain ⟨e,he,rfl⟩:=List.mem_map.1 hx
    have h2:=sysOk_edge h (List.mem_filter.1 he).1
    unfold edgeOk at h2
    grind
  · simp at hx;subst hx;exact ⟨h0,h1⟩
theorem sysTo_len {s:Sys} (h:sysOk s=true) {q l:Int} (h0:0≤q) (h1:q < s.st):((sysTo s q l).length:Int)≤s.st:=by
  have h2:=sysTo_sorted h q l
  have h3:∀x∈sysTo s q l,0≤x∧x < s.st:=fun x hx=>sysTo_in h h0 h1 hx
  generalize sysTo s q l=m at h2 h3
  cases m with
  | nil=>simp;omega
  | cons a m=>
    have h4:=incr_len m a s.st h2 fun x hx=>(h3 x hx).2
    have h5:=h3 a (by simp)
    simp;omega
theorem goA_in {a:Aut} (h:autOk a=true) {q:Nat} (hq:q < a.nx.length) {l:Int} (h0:0≤l) (h1:l < 6):0≤goA a q l∧goA a q l < a.nx.length:=by
  obtain ⟨row,hr,hl,hx⟩:=autOk_row h hq
  unfold goA
  split
  · rename_i hb
    have hlt:(lettersTo a.al l.toNat).length < row.length:=by rw [hl];exact lettersTo_lt (by omega) hb
    obtain ⟨y,hy⟩:=get_some hlt
    have:=hx _ y hy
    simpa [List.getD,hr,hy] using this
  · omega
structure NetOk (n:Net):Prop where
  ps:∀s∈n.ps,sysOk s=true
  au:∀a∈n.au,autOk a=true
  np:n.ps.length≤3
  na:n.au.length≤2
def choL (n:Net) (st:List Int) (l:Int):List (List Int):=n.ps.zipWith (fun s q=>sysTo s q l) st++n.au.zipWith (fun a q=>[goA a q.toNat l]) (st.drop n.ps.length)
def mixN:List Int→List (List Int)→List Int→List Int
  | z::zs,c::cs,out=>mixN zs cs (out.flatMap fun o=>c.map fun x=>o*z+x)
  | _,_,out=>out
def nextsN (n:Net) (zs st:List Int) (l:Int):List Int:=mixN zs (choL n st l) [0]
inductive ChOk:List Int→List (List Int)→Prop
  | nil:ChOk [] []
  | cons {z:Int} {c:List Int} {zs:List Int} {cs:List (List Int)}:(∀x∈c,0≤x∧x < z)→(c.length:Int)≤z→ChOk zs cs→ChOk (z::zs) (c::cs)
theorem mixN_step:∀ {zs:List Int} {cs:List (List Int)} {k:Nat} {z:Int} {c:List Int} (out:List Int),zs[k]? = some z→cs[k]? = some c→
    mixN (zs.take (k+1)) (cs.take (k+1)) out=(mixN (zs.take k) (cs.take k) out).flatMap fun o=>c.map fun x=>o*z+x
  | [],_,k,z,s,n,hz,_=>by simp at hz
  | a::zs,[],k,z,s,n,_,hs=>by simp at hs
  | a::zs,b::ss,0,z,s,n,hz,hs=>by
    simp at hz hs;subst hz hs;simp [mixN]
  | a::zs,b::ss,k+1,z,s,n,hz,hs=>by
    simp only [List.take_succ_cons,mixN]
    exact mixN_step _ (by simpa using hz) (by simpa using hs)
theorem flat_len {α β:Type} (l:List α) (g:α→List β) (n:Int) (h:∀x∈l,((g x).length:Int)≤n):((l.flatMap g).length:Int)≤l.length*n:=by
  induction l with
  | nil=>simp
  | cons a l ih=>
    have h1:=h a (by simp)
    have h2:=ih fun x hx=>h x (by simp [hx])
    simp only [List.flatMap_cons,List.length_append,List.length_cons]
    have h3:((l.length:Int)+1)*n=l.length*n+n:=by rw [Int.add_mul];simp
    push_cast
    omega
theorem mixN_in {zs:List Int} {cs:List (List Int)} (h:ChOk zs cs):∀(out:List Int) (B:Int),(∀o∈out,0≤o∧o < B)→0≤B→(out.length:Int)≤B→
    (∀v∈mixN zs cs out,0≤v∧v < B*prodI zs)∧((mixN zs cs out).length:Int)≤B*prodI zs:=by
  induction h with
  | nil=>intro out B ho hB hl;simp [mixN,prodI];exact ⟨ho,hl⟩
  | @cons z c zs cs hc hcl _ ih=>
    intro out B ho hB hl
    have hz:0≤z:=by omega
    have h1:=ih (out.flatMap fun o=>c.map fun x=>o*z+x) (B*z) (fun v hv=>by
      obtain ⟨o,ho',hv⟩:=List.mem_flatMap.1 hv
      obtain ⟨x,hx,rfl⟩:=List.mem_map.1 hv
      obtain ⟨h2,h3⟩:=ho o ho'
      obtain ⟨h4,h5⟩:=hc x hx
      have h6:0≤o*z:=Int.mul_nonneg h2 hz
      have h7:(o+1)*z≤B*z:=Int.mul_le_mul_of_nonneg_right (by omega) hz
      rw [Int.add_mul] at h7
      omega) (Int.mul_nonneg hB hz) (by
        have h2:=flat_len out (fun o=>c.map fun x=>o*z+x) z (fun x _=>by simpa using hcl)
        have h3:(out.length:Int)*z≤B*z:=Int.mul_le_mul_of_nonneg_right hl hz
        omega)
    rw [mixN,prodI,←Int.mul_assoc]
    exact h1
theorem ChOk.take {zs:List Int} {cs:List (List Int)} (h:ChOk zs cs):∀k,ChOk (zs.take k) (cs.take k):=by
  induction h with
  | nil=>intro k;simp;exact .nil
  | cons h1 h2 h3 ih=>
    intro k
    cases k with
    | zero=>exact .nil
    | succ k=>exact .cons h1 h2 (ih k)
theorem ChOk.get {zs:List Int} {cs:List (List Int)} (h:ChOk zs cs):∀(k:Nat) (z:Int) (c:List Int),zs[k]? = some z→cs[k]? = some c→(∀x∈c,0≤x∧x < z)∧(c.length:Int)≤z:=by
  induction h with
  | nil=>intro k z s hz;simp at hz
  | cons h0 h1 _ ih=>
    intro k z s hz hs
    cases k with
    | zero=>simp at hz hs;subst hz hs;exact ⟨h0,h1⟩
    | succ k=>exact ih k z s (by simpa using hz) (by simpa using hs)
theorem ChOk.len {zs:List Int} {cs:List (List Int)} (h:ChOk zs cs):zs.length=cs.length:=by
  induction h with
  | nil=>rfl
  | cons _ _ _ ih=>simp [ih]
theorem Fits.split {zs zs' ss:List Int} (h:Fits (zs++zs') ss):Fits zs (ss.take zs.length)∧Fits zs' (ss.drop zs.length):=by
  induction zs generalizing ss with
  | nil=>exact ⟨.nil,h⟩
  | cons a zs ih=>
    cases h with
    | cons h0 h1 h2=>exact ⟨.cons h0 h1 (ih h2).1,(ih h2).2⟩
theorem ChOk.app {zs zs':List Int} {cs cs':List (List Int)} (h:ChOk zs cs) (h':ChOk zs' cs'):ChOk (zs++zs') (cs++cs'):=by
  induction h with
  | nil=>exact h'
  | cons h0 h1 _ ih=>exact .cons h0 h1 ih
theorem zipWith_take {α β γ:Type} (f:α→β→γ):∀(l:List α) (m:List β),l.zipWith f m=l.zipWith f (m.take l.length)
  | [],_=>by simp
  | a::l,[]=>by simp
  | a::l,b::m=>by simp [zipWith_take f l m]
theorem choL_ok {n:Net} (hn:NetOk n) {st:List Int} (hf:Fits (sizesN n) st) {l:Int} (h0:0≤l) (h1:l < 6):ChOk (sizesN n) (choL n st l):=by
  unfold sizesN at *
  obtain ⟨ha,hb⟩:=hf.split
  rw [List.length_map] at ha hb
  unfold choL
  refine ChOk.app ?_ ?_
  · have : n.ps.zipWith (fun s q=>sysTo s q l) st=n.ps.zipWith (fun s q=>sysTo s q l) (st.take n.ps.length):=by
      exact zipWith_take _ _ _
    rw [this]
    have hp:=hn.ps
    generalize st.take n.ps.length=ss at ha
    generalize n.ps=ps at ha hp
    induction ps generalizing ss with
    | nil=>cases ha;exact .nil
    | cons s ps ih=>
      cases ha with
      | cons h2 h3 h4=>
        have hs:=hp s (by simp)
        exact .cons (fun x hx=>sysTo_in hs h2 h3 hx) (sysTo_len hs h2 h3) (ih _ h4 fun t ht=>hp t (by simp [ht]))
  · have hp:=hn.au
    generalize st.drop n.ps.length=ss at hb
    generalize n.au=au at hb hp
    induction au generalizing ss with
    | nil=>cases hb;exact .nil
    | cons s ps ih=>
      cases hb with
      | @cons _ q _ _ h2 h3 h4=>
        have hs:=hp s (by simp)
        dsimp only at h3
        have h5:=goA_in hs (q:=q.toNat) (by omega) h0 h1
        exact .cons (fun x hx=>by simp at hx;subst hx;exact h5) (by dsimp only;simp;omega) (ih _ h4 fun t ht=>hp t (by simp [ht]))
theorem sizes_pos {n:Net} (hn:NetOk n):∀z∈sizesN n,1≤z∧z≤16:=by
  intro z hz
  unfold sizesN at hz
  rcases List.mem_append.1 hz with h|h
  · obtain ⟨s,hs,rfl⟩:=List.mem_map.1 h
    have:=sysOk_head (hn.ps s hs)
    omega
  · obtain ⟨a,ha,rfl⟩:=List.mem_map.1 h
    have:=autOk_head (hn.au a ha)
    omega
theorem prodI_le:∀(l:List Int),(∀z∈l,1≤z∧z≤16)→1≤prodI l∧prodI l≤16 ^ l.length
  | [],_=>by simp [prodI]
  | z::l,h=>by
    obtain ⟨h1,h2⟩:=prodI_le l fun x hx=>h x (by simp [hx])
    obtain ⟨h3,h4⟩:=h z (by simp)
    have h5:z*prodI l≤16*16 ^ l.length:=Int.mul_le_mul h4 h2 (by omega) (by omega)
    have h6:1*1≤z*prodI l:=Int.mul_le_mul h3 h1 (by omega) (by omega)
    have h7:(16:Int) ^ (l.length+1)=16*16 ^ l.length:=by rw [Int.pow_succ,Int.mul_comm]
    simp only [prodI,List.length_cons,h7]
    exact ⟨by simpa using h6,h5⟩
theorem prod_le {n:Net} (hn:NetOk n):1≤prodI (sizesN n)∧prodI (sizesN n)≤1048576:=by
  obtain ⟨h1,h2⟩:=prodI_le _ (sizes_pos hn)
  refine ⟨h1,Int.le_trans h2 ?_⟩
  have h3:(sizesN n).length≤5:=by unfold sizesN;have:=hn.np;have:=hn.na;simp;omega
  generalize (sizesN n).length=k at h3
  have:k=0∨k=1∨k=2∨k=3∨k=4∨k=5:=by omega
  rcases this with rfl|rfl|rfl|rfl|rfl|rfl<;>decide
end Go.Am
namespace Go.Am
open Go Go.Proofs
set_option maxHeartbeats 1000000
attribute [local irreducible] QOp AOp Lex LexO AWp Spec
variable {TB:List (Nat×Obj)}
theorem l4ChoicesA_ok (n:Net) (i:Nat) (a:Aut) (q:Nat) (l:Int) (ha:n.au[i]? = some a) (hok:autOk a=true) (hq:q < a.nx.length) (h0:0≤l) (h1:l < 6) (hnp:n.ps.length≤3) (hna:n.au.length≤2) :
    Pure Tryz.prog TB 164 [eNet n,eI .i64 (n.ps.length+i),eI .i64 q,eI .i64 l] (eInts [goA a q l]):=by
  have hi:=(List.getElem?_eq_some_iff.1 ha).1
  have ha':=get_map (g:=auRow) ha
  have he:((n.ps.length:Int)+i - n.ps.length).toNat=((i:Nat):Int).toNat:=by omega
  have ha2:(n.au.map auRow)[((n.ps.length:Int)+i - n.ps.length).toNat]? = some (auRow a):=by rw [he];exact ha'
  refine eN Tryz.func164 rfl (by kernel_rfl) rfl ?_;intro Γ hΓ
  (repeat' first|refine sN rfl ?_|((first|refine sA rfl ?_ ?_|refine s4 rfl ‹_› rfl ?_ ?_);first|exact tI|omega|(simp only[oZ] at *;omega))|(refine s2 rfl ?_;intro _ _hb) |(refine sC rfl (l3Go_ok a hok q hq l h0 h1) ?_;intro _ _hb)|refine sP rfl (l3Go_ok a hok q hq l h0 h1) rfl ?_|(refine s3 rfl ?_ ?_<;>intro hb<;>subst hb)|refine aS ?_|refine reg (by kernel_rfl) ?_|refine lexE ?_|refine rD (by kernel_rfl) (by kernel_rfl) ?_|(refine aC rfl ?_ ?_<;>intro hb<;>cases hb)|refine aK ?_|refine aE ?_|refine aB ?_|refine AWp.ret ⟨_,rfl,?_⟩)
  all_goals first|rfl|(exfalso;first|omega|(simp only [oZ] at *;omega))
theorem l4ChoicesS_ok (n:Net) (i:Nat) (s:Sys) (q l:Int) (hs:n.ps[i]? = some s) (hok:sysOk s=true) (hq0:0≤q) (hq1:q < s.st) (h0:0≤l) (h1:l < 6) (hnp:n.ps.length≤3) :
    Pure Tryz.prog TB 164 [eNet n,eI .i64 i,eI .i64 q,eI .i64 l] (eInts (sysTo s q l)):=by
  have hi:=(List.getElem?_eq_some_iff.1 hs).1
  have hs':=get_map (g:=syRow) hs
  refine eN Tryz.func164 rfl (by kernel_rfl) rfl ?_;intro Γ hΓ
  (repeat first|refine sN rfl ?_|((first|refine sM rfl ?_ ?_|refine s4 rfl ‹_› rfl ?_ ?_);first|exact tI|omega|(simp only[oZ] at *;omega))|(refine s2 rfl ?_;intro _ _hb)|(refine s3 rfl ?_ ?_<;>intro hb<;>subst hb)|refine aS ?_|refine reg (by kernel_rfl) ?_|refine lexE ?_|refine rD (by kernel_rfl) (by kernel_rfl) ?_)
  (refine popO rfl ?_;refine popS (fun _ _=>q_boxI rfl rfl rfl) rfl ?_)
  (refine popO rfl ?_;refine popS (fun _ _=>q_assign rfl) rfl ?_)
  (repeat first|refine sN rfl ?_|((first|refine sM rfl ?_ ?_|refine s4 rfl ‹_› rfl ?_ ?_);first|exact tI|omega|(simp only[oZ] at *;omega))|(refine s2 rfl ?_;intro _ _hb) |(refine sC rfl (l1Has_ok _ _ (by first|omega|(simp only [oZ] at *;omega)) (by first|omega|(simp only [oZ] at *;omega))) ?_;intro _ _hb)|(refine s3 rfl ?_ ?_<;>intro hb<;>subst hb)|refine aS ?_|refine reg (by kernel_rfl) ?_|refine lexE ?_|refine rD (by kernel_rfl) (by kernel_rfl) ?_)
  (refine aC rfl ?_ ?_<;>intro hb<;>cases hb)
  · exfalso;first|omega|(simp only [oZ] at *;omega)
  refine AWp.skip ?_
  (repeat first|refine sN rfl ?_|((first|refine sM rfl ?_ ?_|refine s4 rfl ‹_› rfl ?_ ?_);first|exact tI|omega|(simp only[oZ] at *;omega))|(refine s2 rfl ?_;intro _ _hb) |(refine sC rfl (l1Has_ok _ _ (by first|omega|(simp only [oZ] at *;omega)) (by first|omega|(simp only [oZ] at *;omega))) ?_;intro _ _hb)|(refine s3 rfl ?_ ?_<;>intro hb<;>subst hb)|refine aS ?_|refine reg (by kernel_rfl) ?_|refine lexE ?_|refine rD (by kernel_rfl) (by kernel_rfl) ?_)
  (refine aC rfl ?_ ?_<;>intro hb<;>cases hb)
  · (repeat' first|refine sN rfl ?_|((first|refine sA rfl ?_ ?_|refine s4 rfl ‹_› rfl ?_ ?_);first|exact tI|omega|(simp only[oZ] at *;omega))|(refine s2 rfl ?_;intro _ _hb)|(refine s3 rfl ?_ ?_<;>intro hb<;>subst hb)|refine aS ?_|refine reg (by kernel_rfl) ?_|refine lexE ?_|refine rD (by kernel_rfl) (by kernel_rfl) ?_|(refine aC rfl ?_ ?_<;>intro hb<;>cases hb)|refine aK ?_|refine aE ?_|refine aB ?_|refine AWp.ret ⟨_,rfl,?_⟩)
    rw [show sysTo s q l=[q] by unfold sysTo;rw [if_neg (by grind)]];rfl
  refine AWp.skip ?_
  (repeat first|refine sN rfl ?_|((first|refine sM rfl ?_ ?_|refine s4 rfl ‹_› rfl ?_ ?_);first|exact tI|omega|(simp only[oZ] at *;omega))|(refine s2 rfl ?_;intro _ _hb)|(refine s3 rfl ?_ ?_<;>intro hb<;>subst hb)|refine aS ?_|refine reg (by kernel_rfl) ?_|refine lexE ?_|refine rD (by kernel_rfl) (by kernel_rfl) ?_)
  (refine popO rfl ?_;refine popW ?_ rfl (by rfl);refine n_sliceB rfl rfl rfl rfl (by simp) (by rfl) (by rfl) (by rfl) (by rfl) ?_)
  (repeat first|refine sN rfl ?_|((first|refine sM rfl ?_ ?_|refine s4 rfl ‹_› rfl ?_ ?_);first|exact tI|omega|(simp only[oZ] at *;omega))|(refine s2 rfl ?_;intro _ _hb)|(refine s3 rfl ?_ ?_<;>intro hb<;>subst hb)|refine aS ?_|refine reg (by kernel_rfl) ?_|refine lexE ?_|refine rD (by kernel_rfl) (by kernel_rfl) ?_)
  refine AWp.bound 10 rfl fun hB=>?_
  have hB:=hB _ .refl
  rw [List.length_map] at hB
  refine AWp.block ?_
  have hb2:bitB s.al l.toNat=true:=by grind
  refine AWp.loopL (α:={k:Nat // k≤s.es.length}) (fun ⟨k,hk⟩=>[(2,eI .i64 q),(3,eI .i64 l),(9,.o (.arr 0 1 0 (sysTo { s with es:=s.es.take k } q l).length)),(10,eEdgs s.es),(11,eI .i64 k)]) (fun ⟨k,hk⟩=>[(0,.cells 3 1 ((sysTo { s with es:=s.es.take k } q l).map iRowC))]) 1 (fun ⟨k,hk⟩=>s.es.length - k) (⟨0,by omega⟩) [0] (by first|(simp [hΓ];done)|(rw [hΓ];decide)) (by (repeat' (first|exact trivial|rfl|refine And.intro ?_ ?_))<;>simp [EnvSub,StoreSub,look_cons,nm,E.ren,C.ren,C.renL,O.ren,killc,kill0,Function.comp_def,argsFrom,zC,hΓ,sysTo,hb2]) ?_;rintro ⟨k,hk⟩;(try dsimp only)
  (repeat first|refine sN rfl ?_|((first|refine sM rfl ?_ ?_|refine s4 rfl ‹_› rfl ?_ ?_);first|exact tI|omega|(simp only[oZ] at *;omega))|(refine s2 rfl ?_;intro _ _hb)|(refine s3 rfl ?_ ?_<;>intro hb<;>subst hb)|refine aS ?_|refine reg (by kernel_rfl) ?_|refine lexE ?_|refine rD (by kernel_rfl) (by kernel_rfl) ?_)
  have hlen:∀k,(sysTo { s with es:=s.es.take k } q l).length≤16:=by
    intro k
    have h1:=sysTo_len hok (l:=l) hq0 hq1
    have h2:=sysOk_head hok
    have h3:(sysTo { s with es:=s.es.take k } q l).length≤(sysTo s q l).length:=by
      simp only [sysTo,hb2,if_true,List.length_map]
      exact ((List.take_sublist k s.es).filter _).length_le
    omega
  have hst:∀e,s.es[k]? = some e→sysTo { s with es:=s.es.take (k+1) } q l=sysTo { s with es:=s.es.take k } q l++if e.f=q∧e.l=l then [e.t] else []:=by
    intro e he
    simp only [sysTo,hb2,if_true,List.take_add_one,he,Option.toList_some,List.filter_append,List.map_append,List.filter_cons,List.filter_nil]
    grind
  (refine aC rfl ?_ ?_<;>intro hb<;>cases hb)
  · obtain ⟨e,he⟩:=get_some (l:=s.es) (k:=k) (by first|omega|(simp only [oZ] at *;omega))
    have he':=get_map (g:=edRow) he
    have hst:=hst e he
    refine AWp.skip ?_
    refine AWp.seq (AWp.block ?_)
    (repeat' first|refine sN rfl ?_|((first|refine sM rfl ?_ ?_|refine s4 rfl ‹_› rfl ?_ ?_);first|exact tI|omega|(simp only[oZ] at *;omega))|(refine s2 rfl ?_;intro _ _hb)|(refine s3 rfl ?_ ?_<;>intro hb<;>subst hb)|refine aS ?_|refine reg (by kernel_rfl) ?_|refine lexE ?_|refine rD (by kernel_rfl) (by kernel_rfl) ?_|(refine aC rfl ?_ ?_<;>intro hb<;>cases hb)|refine aK ?_|refine aE ?_|refine aB ?_|refine AWp.ret ⟨_,rfl,?_⟩)
    all_goals first
      | (rw [if_pos (by grind)] at hst
         (repeat first|refine sN rfl ?_|((first|refine sA rfl ?_ ?_|refine s4 rfl ‹_› rfl ?_ ?_);first|exact tI|omega|(simp only[oZ] at *;omega))|(refine s2 rfl ?_;intro _ _hb)|(refine s3 rfl ?_ ?_<;>intro hb<;>subst hb)|refine aS ?_|refine reg (by kernel_rfl) ?_|refine lexE ?_|refine rD (by kernel_rfl) (by kernel_rfl) ?_)
         (refine popO rfl ?_;refine popW ?_ rfl (by rfl);refine n_append rfl rfl rfl (by first|(simp;done)|(simp;(first|omega|(simp only [oZ] at *;omega)))) rfl (by intro r hr;simp at hr;subst hr;rfl) (by rfl) (Nat.le_of_ble_eq_true rfl) (by have:=hlen k;simp;omega) ?_)
         (repeat first|refine sN rfl ?_|((first|refine sX rfl ?_ ?_|refine s4 rfl ‹_› rfl ?_ ?_);first|exact tI|omega|(simp only[oZ] at *;omega))|(refine s2 rfl ?_;intro _ _hb)|(refine s3 rfl ?_ ?_<;>intro hb<;>subst hb)|refine aS ?_|refine reg (by kernel_rfl) ?_|refine lexE ?_|refine rD (by kernel_rfl) (by kernel_rfl) ?_)
         refine ⟨⟨k+1,by first|omega|(simp only [oZ] at *;omega)⟩,by dsimp only;(first|omega|(simp only [oZ] at *;omega)),[1],?_⟩
         simp [EnvSub,StoreSub,look_cons,nm,E.ren,C.ren,C.renL,O.ren,killc,kill0,Function.comp_def,argsFrom,zC,hΓ,hst]
         done)
      | (rw [if_neg (by grind),List.append_nil] at hst
         refine ⟨⟨k+1,by first|omega|(simp only [oZ] at *;omega)⟩,by dsimp only;(first|omega|(simp only [oZ] at *;omega)),[0],?_⟩
         simp [EnvSub,StoreSub,look_cons,nm,E.ren,C.ren,C.renL,O.ren,killc,kill0,Function.comp_def,argsFrom,zC,hΓ,hst]
         done)
  · obtain rfl:k=s.es.length:=by first|omega|(simp only [oZ] at *;omega)
    refine AWp.exit ?_
    (repeat first|refine sN rfl ?_|((first|refine sM rfl ?_ ?_|refine s4 rfl ‹_› rfl ?_ ?_);first|exact tI|omega|(simp only[oZ] at *;omega))|(refine s2 rfl ?_;intro _ _hb)|(refine s3 rfl ?_ ?_<;>intro hb<;>subst hb)|refine aS ?_|refine reg (by kernel_rfl) ?_|refine lexE ?_|refine rD (by kernel_rfl) (by kernel_rfl) ?_)
    refine AWp.freeze [0] [(8,.o (.d (iList (sysTo s q l))))] ⟨⟨_,rfl,.o (.full (by simp) rfl (by simp [Function.comp_def]) (by simp))⟩,trivial⟩ ?_
    refine AWp.ret ⟨_,rfl,rfl⟩
end Go.Am
namespace Go.Am
open Go Go.Proofs
set_option maxHeartbeats 1000000
attribute [local irreducible] QOp AOp Lex LexO AWp Spec
variable {TB:List (Nat×Obj)}
theorem l4Choices_ok {n:Net} (hn:NetOk n) {st:List Int} (hf:Fits (sizesN n) st) {l:Int} (h0:0≤l) (h1:l < 6) {i:Nat} {c:List Int} {q:Int} (hc:(choL n st l)[i]? = some c) (hq:st[i]? = some q) :
    Pure Tryz.prog TB 164 [eNet n,eI .i64 i,eI .i64 q,eI .i64 l] (eInts c):=by
  have hlen:=hf.len
  unfold sizesN at hlen
  simp only [List.length_append,List.length_map] at hlen
  have hsq:=(hf.get i)
  have hlz:(n.ps.zipWith (fun s q=>sysTo s q l) st).length=n.ps.length:=by rw [List.length_zipWith];omega
  have hiq:=(List.getElem?_eq_some_iff.1 hq).1
  unfold choL at hc
  by_cases hi:i < n.ps.length
  · rw [List.getElem?_append_left (by omega)] at hc
    obtain ⟨s,hs⟩:=get_some hi
    rw [List.getElem?_zipWith,hs,hq] at hc
    simp only [Option.some.injEq] at hc
    subst hc
    have h2:=hsq s.st q (by unfold sizesN;rw [List.getElem?_append_left (by simpa using hi)];simp [hs]) hq
    exact l4ChoicesS_ok n i s q l hs (hn.ps s (List.mem_of_getElem? hs)) h2.1 h2.2 h0 h1 hn.np
  · obtain ⟨j,rfl⟩:∃j,i=n.ps.length+j:=⟨i - n.ps.length,by omega⟩
    rw [List.getElem?_append_right (by omega),hlz] at hc
    have e:n.ps.length+j - n.ps.length=j:=by omega
    rw [e] at hc
    have hj:j < n.au.length:=by omega
    obtain ⟨a,ha⟩:=get_some hj
    rw [List.getElem?_zipWith,ha,List.getElem?_drop,hq] at hc
    simp only [Option.some.injEq] at hc
    subst hc
    have h2:=hsq a.nx.length q (by unfold sizesN;rw [List.getElem?_append_right (by simp)];simp [ha]) hq
    have h3:=l4ChoicesA_ok (TB:=TB) n j a q.toNat l ha (hn.au a (List.mem_of_getElem? ha)) (by omega) h0 h1 hn.np hn.na
    have e2:((q.toNat:Nat):Int)=q:=by omega
    rw [e2] at h3
    push_cast
    exact h3
theorem nexts_bound {n:Net} (hn:NetOk n) {st:List Int} (hf:Fits (sizesN n) st) {l:Int} (h0:0≤l) (h1:l < 6) (k:Nat) :
    (∀v∈mixN ((sizesN n).take k) ((choL n st l).take k) [0],0≤v∧v < 1048576)∧(mixN ((sizesN n).take k) ((choL n st l).take k) [0]).length≤1048576:=by
  have h2:=mixN_in ((choL_ok hn hf h0 h1).take k) [0] 1 (by simp) (by omega) (by simp)
  have h3:=(hf.take k).2
  have h4:=prod_le hn
  rw [Int.one_mul] at h2
  exact ⟨fun v hv=>by have:=h2.1 v hv;omega,by omega⟩
theorem l4Nexts_ok {n:Net} (hn:NetOk n) {st:List Int} (hf:Fits (sizesN n) st) {l:Int} (h0:0≤l) (h1:l < 6) :
    Pure Tryz.prog TB 151 [eNet n,eInts (sizesN n),eInts st,eI .i64 l] (eInts (nextsN n (sizesN n) st l)):=by
  have hch:=choL_ok hn hf h0 h1
  have hbd:=nexts_bound hn hf h0 h1
  have hpr:=prod_le hn
  have hfl:=hf.len
  have hcl:=hch.len
  unfold nextsN
  have hcall:∀(i:Nat) (c:List Int) (q:Int),(choL n st l)[i]? = some c→st[i]? = some q→Pure Tryz.prog TB 164 [eNet n,eI .i64 i,eI .i64 q,eI .i64 l] (eInts c):=fun i c q=>l4Choices_ok hn hf h0 h1
  have hzl:(sizesN n).length≤5:=by unfold sizesN;have:=hn.np;have:=hn.na;simp;omega
  have hpos:=sizes_pos hn
  generalize choL n st l=cs at *
  generalize sizesN n=zs at *
  refine eN Tryz.func151 rfl (by kernel_rfl) rfl ?_;intro Γ hΓ
  (repeat first|refine sN rfl ?_|((first|refine sM rfl ?_ ?_|refine s4 rfl ‹_› rfl ?_ ?_);first|exact tI|omega|(simp only[oZ] at *;omega))|(refine s2 rfl ?_;intro _ _hb)|(refine s3 rfl ?_ ?_<;>intro hb<;>subst hb)|refine aS ?_|refine reg (by kernel_rfl) ?_|refine lexE ?_|refine rD (by kernel_rfl) (by kernel_rfl) ?_)
  (refine popO rfl ?_;refine popS (fun _ _=>q_boxI rfl rfl rfl) rfl ?_)
  (refine popO rfl ?_;refine popS (fun _ _=>q_assign rfl) rfl ?_)
  (repeat first|refine sN rfl ?_|((first|refine sA rfl ?_ ?_|refine s4 rfl ‹_› rfl ?_ ?_);first|exact tI|omega|(simp only[oZ] at *;omega))|(refine s2 rfl ?_;intro _ _hb)|(refine s3 rfl ?_ ?_<;>intro hb<;>subst hb)|refine aS ?_|refine reg (by kernel_rfl) ?_|refine lexE ?_|refine rD (by kernel_rfl) (by kernel_rfl) ?_)
  refine AWp.block ?_
  refine AWp.loopL (α:={k:Nat // k≤zs.length}) (fun ⟨k,hk⟩=>[(1,eInts zs),(2,eInts st),(3,eI .i64 l),(4,.o (.ip (nRow n))),(9,eInts (mixN (zs.take k) (cs.take k) [0])),(10,eI .i64 k)]) (fun ⟨k,hk⟩=>[]) 0 (fun ⟨k,hk⟩=>zs.length - k) (⟨0,by omega⟩) [] (by first|(simp [hΓ];done)|(rw [hΓ];decide)) (by (repeat' (first|exact trivial|rfl|refine And.intro ?_ ?_))<;>simp [EnvSub,StoreSub,look_cons,nm,E.ren,C.ren,C.renL,O.ren,killc,kill0,Function.comp_def,argsFrom,zC,hΓ,mixN]) ?_;rintro ⟨k,hk⟩;(try dsimp only)
  (repeat first|refine sN rfl ?_|((first|refine sA rfl ?_ ?_|refine s4 rfl ‹_› rfl ?_ ?_);first|exact tI|omega|(simp only[oZ] at *;omega))|(refine s2 rfl ?_;intro _ _hb)|(refine s3 rfl ?_ ?_<;>intro hb<;>subst hb)|refine aS ?_|refine reg (by kernel_rfl) ?_|refine lexE ?_|refine rD (by kernel_rfl) (by kernel_rfl) ?_)
  (refine aC rfl ?_ ?_<;>intro hb<;>cases hb)
  · obtain ⟨z,hz⟩:=get_some (l:=zs) (k:=k) (by first|omega|(simp only [oZ] at *;omega))
    have hz':=get_map (g:=iRow) hz
    obtain ⟨c,hc⟩:=get_some (l:=cs) (k:=k) (by first|omega|(simp only [oZ] at *;omega))
    obtain ⟨q,hq⟩:=get_some (l:=st) (k:=k) (by first|omega|(simp only [oZ] at *;omega))
    have hq':=get_map (g:=iRow) hq
    have hst:=mixN_step [0] hz hc
    have hb0:=hbd k
    have hb1:=(hbd (k+1)).2
    have hzz:=hpos z (List.mem_of_getElem? hz)
    obtain ⟨hcx,hcn⟩:=hch.get k z c hz hc
    rw [hst] at hb1
    generalize mixN (zs.take k) (cs.take k) [0]=out at *
    refine AWp.skip ?_
    refine AWp.seq (AWp.block ?_)
    (repeat first|refine sN rfl ?_|((first|refine sM rfl ?_ ?_|refine s4 rfl ‹_› rfl ?_ ?_);first|exact tI|omega|(simp only[oZ] at *;omega))|(refine s2 rfl ?_;intro _ _hb) |refine sP rfl (hcall k c q hc hq) rfl ?_|(refine s3 rfl ?_ ?_<;>intro hb<;>subst hb)|refine aS ?_|refine reg (by kernel_rfl) ?_|refine lexE ?_|refine rD (by kernel_rfl) (by kernel_rfl) ?_)
    (refine popO rfl ?_;refine popW ?_ rfl (by rfl);refine n_sliceB rfl rfl rfl rfl (by simp) (by rfl) (by rfl) (by rfl) (by rfl) ?_)
    (repeat first|refine sN rfl ?_|((first|refine sM rfl ?_ ?_|refine s4 rfl ‹_› rfl ?_ ?_);first|exact tI|omega|(simp only[oZ] at *;omega))|(refine s2 rfl ?_;intro _ _hb)|(refine s3 rfl ?_ ?_<;>intro hb<;>subst hb)|refine aS ?_|refine reg (by kernel_rfl) ?_|refine lexE ?_|refine rD (by kernel_rfl) (by kernel_rfl) ?_)
    refine AWp.block ?_
    have hlen:∀m,(((out.take m).flatMap fun o=>c.map fun x=>o*z+x).length:Int)≤16777216:=by
      intro m
      have h2:=flat_len (out.take m) (fun o=>c.map fun x=>o*z+x) 16 (fun x _=>by simp;omega)
      have h3:(out.take m).length≤out.length:=by simp;omega
      omega
    refine AWp.loopL (α:={m:Nat // m≤out.length}) (fun ⟨m,hm⟩=>[(1,eInts zs),(2,eInts st),(3,eI .i64 l),(4,.o (.ip (nRow n))),(9,eInts out),(10,eI .i64 k),(11,eInts c),(12,.o (.arr 0 1 0 ((out.take m).flatMap fun o=>c.map fun x=>o*z+x).length)),(13,eI .i64 m)]) (fun ⟨m,hm⟩=>[(0,.cells 3 1 (((out.take m).flatMap fun o=>c.map fun x=>o*z+x).map iRowC))]) 1 (fun ⟨m,hm⟩=>out.length - m) (⟨0,by omega⟩) [0] (by first|(simp [hΓ];done)|(rw [hΓ];decide)) (by (repeat' (first|exact trivial|rfl|refine And.intro ?_ ?_))<;>simp [EnvSub,StoreSub,look_cons,nm,E.ren,C.ren,C.renL,O.ren,killc,kill0,Function.comp_def,argsFrom,zC,hΓ]) ?_;rintro ⟨m,hm⟩;(try dsimp only)
    (repeat first|refine sN rfl ?_|((first|refine sM rfl ?_ ?_|refine s4 rfl ‹_› rfl ?_ ?_);first|exact tI|omega|(simp only[oZ] at *;omega))|(refine s2 rfl ?_;intro _ _hb)|(refine s3 rfl ?_ ?_<;>intro hb<;>subst hb)|refine aS ?_|refine reg (by kernel_rfl) ?_|refine lexE ?_|refine rD (by kernel_rfl) (by kernel_rfl) ?_)
    (refine aC rfl ?_ ?_<;>intro hb<;>cases hb)
    · obtain ⟨o,ho⟩:=get_some (l:=out) (k:=m) (by first|omega|(simp only [oZ] at *;omega))
      have ho':=get_map (g:=iRow) ho
      have hob:=hb0.1 o (List.mem_of_getElem? ho)
      have hlm:=hlen m
      have h16:0≤o*z∧o*z≤16777216:=⟨Int.mul_nonneg hob.1 (by omega),by
        have h5:o*z≤o*16:=Int.mul_le_mul_of_nonneg_left hzz.2 hob.1
        omega⟩
      have hfm:(out.take (m+1)).flatMap (fun o=>c.map fun x=>o*z+x)=(out.take m).flatMap (fun o=>c.map fun x=>o*z+x)++c.map fun x=>o*z+x:=by
        rw [List.take_add_one,ho];simp
      refine AWp.skip ?_
      refine AWp.seq (AWp.block ?_)
      (repeat first|refine sN rfl ?_|((first|refine sM rfl ?_ ?_|refine s4 rfl ‹_› rfl ?_ ?_);first|exact tI|omega|(simp only[oZ] at *;omega))|(refine s2 rfl ?_;intro _ _hb)|(refine s3 rfl ?_ ?_<;>intro hb<;>subst hb)|refine aS ?_|refine reg (by kernel_rfl) ?_|refine lexE ?_|refine rD (by kernel_rfl) (by kernel_rfl) ?_)
      refine AWp.block ?_
      generalize (out.take m).flatMap (fun o=>c.map fun x=>o*z+x)=pre at *
      refine AWp.loopL (α:={j:Nat // j≤c.length}) (fun ⟨j,hj⟩=>[(1,eInts zs),(2,eInts st),(3,eI .i64 l),(4,.o (.ip (nRow n))),(9,eInts out),(10,eI .i64 k),(11,eInts c),(12,.o (.arr 0 1 0 (pre.length+j))),(13,eI .i64 m),(14,eI .i64 j)]) (fun ⟨j,hj⟩=>[(0,.cells 3 1 ((pre++(c.take j).map fun x=>o*z+x).map iRowC))]) 1 (fun ⟨j,hj⟩=>c.length - j) (⟨0,by omega⟩) [0] (by first|(simp [hΓ];done)|(rw [hΓ];decide)) (by (repeat' (first|exact trivial|rfl|refine And.intro ?_ ?_))<;>simp [EnvSub,StoreSub,look_cons,nm,E.ren,C.ren,C.renL,O.ren,killc,kill0,Function.comp_def,argsFrom,zC,hΓ]) ?_;rintro ⟨j,hj⟩;(try dsimp only)
      (repeat first|refine sN rfl ?_|((first|refine sM rfl ?_ ?_|refine s4 rfl ‹_› rfl ?_ ?_);first|exact tI|omega|(simp only[oZ] at *;omega))|(refine s2 rfl ?_;intro _ _hb)|(refine s3 rfl ?_ ?_<;>intro hb<;>subst hb)|refine aS ?_|refine reg (by kernel_rfl) ?_|refine lexE ?_|refine rD (by kernel_rfl) (by kernel_rfl) ?_)
      (refine aC rfl ?_ ?_<;>intro hb<;>cases hb)
      · obtain ⟨x,hx⟩:=get_some (l:=c) (k:=j) (by first|omega|(simp only [oZ] at *;omega))
        have hx':=get_map (g:=iRow) hx
        have hxb:=hcx x (List.mem_of_getElem? hx)
        refine AWp.skip ?_
        refine AWp.seq (AWp.block ?_)
        refine regD (flN [16]) mixed (by kernel_rfl) (by kernel_rfl) ?_
        (repeat first|refine sN rfl ?_|((first|refine sA rfl ?_ ?_|refine s4 rfl ‹_› rfl ?_ ?_);first|exact tI|omega|(simp only[oZ] at *;omega))|(refine s2 rfl ?_;intro _ _hb)|(refine s3 rfl ?_ ?_<;>intro hb<;>subst hb)|refine aS ?_|refine reg (by kernel_rfl) ?_|refine lexE ?_|refine rD (by kernel_rfl) (by kernel_rfl) ?_)
        (refine popO rfl ?_;refine popW ?_ rfl (by rfl);refine n_append rfl rfl rfl (by first|(simp;done)|(simp;(first|omega|(simp only [oZ] at *;omega)))) rfl (by intro r hr;simp at hr;subst hr;rfl) (by rfl) (Nat.le_of_ble_eq_true rfl) (by simp;first|omega|(simp only [oZ] at *;omega)) ?_)
        (repeat first|refine sN rfl ?_|((first|refine sX rfl ?_ ?_|refine s4 rfl ‹_› rfl ?_ ?_);first|exact tI|omega|(simp only[oZ] at *;omega))|(refine s2 rfl ?_;intro _ _hb)|(refine s3 rfl ?_ ?_<;>intro hb<;>subst hb)|refine aS ?_|refine reg (by kernel_rfl) ?_|refine lexE ?_|refine rD (by kernel_rfl) (by kernel_rfl) ?_)
        refine ⟨⟨j+1,by first|omega|(simp only [oZ] at *;omega)⟩,by dsimp only;(first|omega|(simp only [oZ] at *;omega)),[1],?_⟩
        simp [EnvSub,StoreSub,look_cons,nm,E.ren,C.ren,C.renL,O.ren,killc,kill0,Function.comp_def,argsFrom,zC,hΓ,List.take_add_one,hx,Nat.add_assoc]
      · obtain rfl:j=c.length:=by first|omega|(simp only [oZ] at *;omega)
        refine AWp.exit ?_
        (repeat first|refine sN rfl ?_|((first|refine sM rfl ?_ ?_|refine s4 rfl ‹_› rfl ?_ ?_);first|exact tI|omega|(simp only[oZ] at *;omega))|(refine s2 rfl ?_;intro _ _hb)|(refine s3 rfl ?_ ?_<;>intro hb<;>subst hb)|refine aS ?_|refine reg (by kernel_rfl) ?_|refine lexE ?_|refine rD (by kernel_rfl) (by kernel_rfl) ?_)
        refine ⟨⟨m+1,by first|omega|(simp only [oZ] at *;omega)⟩,by dsimp only;(first|omega|(simp only [oZ] at *;omega)),[0],?_⟩
        simp [EnvSub,StoreSub,look_cons,nm,E.ren,C.ren,C.renL,O.ren,killc,kill0,Function.comp_def,argsFrom,zC,hΓ,hfm]
    · obtain rfl:m=out.length:=by first|omega|(simp only [oZ] at *;omega)
      refine AWp.exit ?_
      rw [List.take_length] at *
      refine AWp.freeze [0] [(1,eInts zs),(2,eInts st),(3,eI .i64 l),(4,.o (.ip (nRow n))),(10,eI .i64 k),(12,eInts (out.flatMap fun o=>c.map fun x=>o*z+x))] ⟨⟨_,rfl,.keep⟩,⟨_,rfl,.keep⟩,⟨_,rfl,.keep⟩,⟨_,rfl,.keep⟩,⟨_,rfl,.keep⟩,⟨_,rfl,.o (.full (by simp) rfl (by simp [Function.comp_def]) (by simp))⟩,trivial⟩ ?_
      (repeat first|refine sN rfl ?_|((first|refine sA rfl ?_ ?_|refine s4 rfl ‹_› rfl ?_ ?_);first|exact tI|omega|(simp only[oZ] at *;omega))|(refine s2 rfl ?_;intro _ _hb)|(refine s3 rfl ?_ ?_<;>intro hb<;>subst hb)|refine aS ?_|refine reg (by kernel_rfl) ?_|refine lexE ?_|refine rD (by kernel_rfl) (by kernel_rfl) ?_)
      refine ⟨⟨k+1,by first|omega|(simp only [oZ] at *;omega)⟩,by dsimp only;(first|omega|(simp only [oZ] at *;omega)),[],?_⟩
      simp [EnvSub,StoreSub,look_cons,nm,E.ren,C.ren,C.renL,O.ren,killc,kill0,Function.comp_def,argsFrom,zC,hΓ,hst]
  · obtain rfl:k=zs.length:=by first|omega|(simp only [oZ] at *;omega)
    rw [List.take_of_length_le (by omega),List.take_of_length_le (by omega)]
    (repeat' first|refine sN rfl ?_|((first|refine sA rfl ?_ ?_|refine s4 rfl ‹_› rfl ?_ ?_);first|exact tI|omega|(simp only[oZ] at *;omega))|(refine s2 rfl ?_;intro _ _hb)|(refine s3 rfl ?_ ?_<;>intro hb<;>subst hb)|refine aS ?_|refine reg (by kernel_rfl) ?_|refine lexE ?_|refine rD (by kernel_rfl) (by kernel_rfl) ?_|(refine aC rfl ?_ ?_<;>intro hb<;>cases hb)|refine aK ?_|refine aE ?_|refine aB ?_|refine AWp.ret ⟨_,rfl,?_⟩)
    all_goals rfl
end Go.Am
namespace Go.Am
open Go Go.Proofs
set_option maxHeartbeats 1000000
attribute [local irreducible] QOp AOp Lex LexO AWp Spec
variable {TB:List (Nat×Obj)}
abbrev iiiRowC (l:List (List Int)):List C:=[.d (iiList l)]
abbrev eIntsss (l:List (List (List Int))):E:=.o (.d (iiiList l))
theorem lettersTo_in {s:Int} {k:Nat} {l:Int} (h:l∈lettersTo s k):0≤l∧l < k∧bitB s l.toNat=true:=by
  unfold lettersTo at h
  obtain ⟨i,hi,rfl⟩:=List.mem_map.1 h
  obtain ⟨h1,h2⟩:=List.mem_filter.1 hi
  have:=List.mem_range.1 h1
  exact ⟨Int.natCast_nonneg _,by show ((i:Nat):Int) < k;omega,h2⟩
theorem prodI_pos:∀ {l:List Int},(∀z∈l,0 < z)→0 < prodI l
  | [],_=>by simp [prodI]
  | a::l,h=>Int.mul_pos (h a (by simp)) (prodI_pos fun z hz=>h z (by simp [hz]))
theorem decN_fits:∀ {zs:List Int} (_:∀z∈zs,0 < z) (n:Int),Fits zs (decN zs n)
  | [],_,_=>.nil
  | z::zs,h,n=>by
    have hz:=h z (by simp)
    exact .cons (Int.emod_nonneg _ (by omega)) (Int.emod_lt_of_pos _ hz) (decN_fits (fun x hx=>h x (by simp [hx])) n)
def rowN (n:Net) (x:Nat):List (List Int):=(letters n.ls).map fun l=>nextsN n (sizesN n) (decN (sizesN n) x) l
def movesN (n:Net) (tot:Nat):List (List (List Int)):=(List.range tot).map (rowN n)
theorem movesN_get {n:Net} {tot i:Nat} (h:i < tot):(movesN n tot)[i]? = some (rowN n i):=by simp [movesN,h]
theorem sizesN_len {n:Net} (hn:NetOk n):(sizesN n).length≤5:=by unfold sizesN;have:=hn.np;have:=hn.na;simp;omega
theorem l4Moves_ok {n:Net} (hn:NetOk n) (tot:Nat) (ht:tot≤1048576):Pure Tryz.prog TB 129 [eNet n,eInts (sizesN n),eI .i64 tot] (eIntsss (movesN n tot)):=by
  have hzl:=sizesN_len hn
  have hpos:=sizes_pos hn
  have hdec:∀(x:Nat),x < tot→Pure Tryz.prog TB 131 [eInts (sizesN n),eI .i64 x] (eInts (decN (sizesN n) x)):=fun x hx=>
    l4Decode_ok _ _ (by omega) (by omega) (fun z hz=>by have:=hpos z hz;omega) (by omega)
  have hnx:∀(x:Nat) (l:Int),l∈letters n.ls→Pure Tryz.prog TB 151 [eNet n,eInts (sizesN n),eInts (decN (sizesN n) x),eI .i64 l] (eInts (nextsN n (sizesN n) (decN (sizesN n) x) l)):=fun x l hl=>by
    have h1:=lettersTo_in hl
    exact l4Nexts_ok hn (decN_fits (fun z hz=>by have:=hpos z hz;omega) _) (by omega) (by omega)
  have hll:(letters n.ls).length≤6:=lettersTo_len n.ls 6
  unfold movesN
  refine eN Tryz.func129 rfl (by kernel_rfl) rfl ?_;intro Γ hΓ
  (repeat first|refine sN rfl ?_|((first|refine sM rfl ?_ ?_|refine s4 rfl ‹_› rfl ?_ ?_);first|exact tI|omega|(simp only[oZ] at *;omega))|(refine s2 rfl ?_;intro _ _hb)|(refine s3 rfl ?_ ?_<;>intro hb<;>subst hb)|refine aS ?_|refine reg (by kernel_rfl) ?_|refine lexE ?_|refine rD (by kernel_rfl) (by kernel_rfl) ?_)
  (refine popO rfl ?_;refine popS (fun _ _=>q_boxI rfl rfl rfl) rfl ?_)
  (refine popO rfl ?_;refine popS (fun _ _=>q_assign rfl) rfl ?_)
  (repeat first|refine sN rfl ?_|((first|refine sM rfl ?_ ?_|refine s4 rfl ‹_› rfl ?_ ?_);first|exact tI|omega|(simp only[oZ] at *;omega))|(refine s2 rfl ?_;intro _ _hb)|(refine s3 rfl ?_ ?_<;>intro hb<;>subst hb)|refine aS ?_|refine reg (by kernel_rfl) ?_|refine lexE ?_|refine rD (by kernel_rfl) (by kernel_rfl) ?_)
  (refine popO rfl ?_;refine popW ?_ rfl (by rfl);refine n_sliceB rfl rfl rfl rfl (by simp) (by rfl) (by rfl) (by rfl) (by rfl) ?_)
  (repeat first|refine sN rfl ?_|((first|refine sM rfl ?_ ?_|refine s4 rfl ‹_› rfl ?_ ?_);first|exact tI|omega|(simp only[oZ] at *;omega))|(refine s2 rfl ?_;intro _ _hb) |refine sP rfl (l1Letters_ok n.ls) rfl ?_|(refine s3 rfl ?_ ?_<;>intro hb<;>subst hb)|refine aS ?_|refine reg (by kernel_rfl) ?_|refine lexE ?_|refine rD (by kernel_rfl) (by kernel_rfl) ?_)
  refine AWp.block ?_
  refine AWp.loopL (α:={k:Nat // k≤tot}) (fun ⟨k,hk⟩=>[(1,eInts (sizesN n)),(2,eI .i64 tot),(3,.o (.ip (nRow n))),(7,.o (.arr 0 1 0 k)),(8,eInts (letters n.ls)),(9,eI .i64 k)]) (fun ⟨k,hk⟩=>[(0,.cells 23 1 (((List.range k).map (rowN n)).map iiiRowC))]) 1 (fun ⟨k,hk⟩=>tot - k) (⟨0,by omega⟩) [0] (by first|(simp [hΓ];done)|(rw [hΓ];decide)) (by (repeat' (first|exact trivial|rfl|refine And.intro ?_ ?_))<;>simp [EnvSub,StoreSub,look_cons,nm,E.ren,C.ren,C.renL,O.ren,killc,kill0,Function.comp_def,argsFrom,zC,hΓ]) ?_;rintro ⟨k,hk⟩;(try dsimp only)
  (repeat first|refine sN rfl ?_|((first|refine sM rfl ?_ ?_|refine s4 rfl ‹_› rfl ?_ ?_);first|exact tI|omega|(simp only[oZ] at *;omega))|(refine s2 rfl ?_;intro _ _hb)|(refine s3 rfl ?_ ?_<;>intro hb<;>subst hb)|refine aS ?_|refine reg (by kernel_rfl) ?_|refine lexE ?_|refine rD (by kernel_rfl) (by kernel_rfl) ?_)
  (refine aC rfl ?_ ?_<;>intro hb<;>cases hb)
  · have hk2:k < tot:=by first|omega|(simp only [oZ] at *;omega)
    refine AWp.skip ?_
    refine AWp.seq (AWp.block ?_)
    (repeat first|refine sN rfl ?_|((first|refine sM rfl ?_ ?_|refine s4 rfl ‹_› rfl ?_ ?_);first|exact tI|omega|(simp only[oZ] at *;omega))|(refine s2 rfl ?_;intro _ _hb) |refine sP rfl (hdec k hk2) rfl ?_|(refine s3 rfl ?_ ?_<;>intro hb<;>subst hb)|refine aS ?_|refine reg (by kernel_rfl) ?_|refine lexE ?_|refine rD (by kernel_rfl) (by kernel_rfl) ?_)
    (refine popO rfl ?_;refine popW ?_ rfl (by rfl);refine n_sliceB rfl rfl rfl rfl (by simp) (by rfl) (by rfl) (by rfl) (by rfl) ?_)
    (repeat first|refine sN rfl ?_|((first|refine sM rfl ?_ ?_|refine s4 rfl ‹_› rfl ?_ ?_);first|exact tI|omega|(simp only[oZ] at *;omega))|(refine s2 rfl ?_;intro _ _hb)|(refine s3 rfl ?_ ?_<;>intro hb<;>subst hb)|refine aS ?_|refine reg (by kernel_rfl) ?_|refine lexE ?_|refine rD (by kernel_rfl) (by kernel_rfl) ?_)
    refine AWp.block ?_
    generalize hL:letters n.ls=ls at *
    refine AWp.loopL (α:={m:Nat // m≤ls.length}) (fun ⟨m,hm⟩=>[(1,eInts (sizesN n)),(2,eI .i64 tot),(3,.o (.ip (nRow n))),(7,.o (.arr 0 1 0 k)),(8,eInts ls),(9,eI .i64 k),(10,eInts (decN (sizesN n) k)),(11,.o (.arr 1 1 0 m)),(12,eI .i64 m)]) (fun ⟨m,hm⟩=>[(0,.cells 23 1 (((List.range k).map (rowN n)).map iiiRowC)),(1,.cells 61 1 (((ls.take m).map fun l=>nextsN n (sizesN n) (decN (sizesN n) k) l).map iiRowC))]) 2 (fun ⟨m,hm⟩=>ls.length - m) (⟨0,by omega⟩) [0,1] (by first|(simp [hΓ];done)|(rw [hΓ];decide)) (by (repeat' (first|exact trivial|rfl|refine And.intro ?_ ?_))<;>simp [EnvSub,StoreSub,look_cons,nm,E.ren,C.ren,C.renL,O.ren,killc,kill0,Function.comp_def,argsFrom,zC,hΓ]) ?_;rintro ⟨m,hm⟩;(try dsimp only)
    (repeat first|refine sN rfl ?_|((first|refine sM rfl ?_ ?_|refine s4 rfl ‹_› rfl ?_ ?_);first|exact tI|omega|(simp only[oZ] at *;omega))|(refine s2 rfl ?_;intro _ _hb)|(refine s3 rfl ?_ ?_<;>intro hb<;>subst hb)|refine aS ?_|refine reg (by kernel_rfl) ?_|refine lexE ?_|refine rD (by kernel_rfl) (by kernel_rfl) ?_)
    (refine aC rfl ?_ ?_<;>intro hb<;>cases hb)
    · obtain ⟨x,hx⟩:=get_some (l:=ls) (k:=m) (by first|omega|(simp only [oZ] at *;omega))
      have hx':=get_map (g:=iRow) hx
      have hxm:=hnx k x (List.mem_of_getElem? hx)
      refine AWp.skip ?_
      refine AWp.seq (AWp.block ?_)
      refine regD (flN [10]) mixed (by kernel_rfl) (by kernel_rfl) ?_
      (repeat first|refine sN rfl ?_|((first|refine sA rfl ?_ ?_|refine s4 rfl ‹_› rfl ?_ ?_);first|exact tI|omega|(simp only[oZ] at *;omega))|(refine s2 rfl ?_;intro _ _hb) |refine sP rfl (hxm) rfl ?_|(refine s3 rfl ?_ ?_<;>intro hb<;>subst hb)|refine aS ?_|refine reg (by kernel_rfl) ?_|refine lexE ?_|refine rD (by kernel_rfl) (by kernel_rfl) ?_)
      (refine popO rfl ?_;refine popW ?_ rfl (by rfl);refine n_append rfl rfl rfl (by first|(simp;done)|(simp;(first|omega|(simp only [oZ] at *;omega)))) rfl (by intro r hr;simp at hr;subst hr;rfl) (by rfl) (Nat.le_of_ble_eq_true rfl) (by simp;first|omega|(simp only [oZ] at *;omega)) ?_)
      (repeat first|refine sN rfl ?_|((first|refine sX rfl ?_ ?_|refine s4 rfl ‹_› rfl ?_ ?_);first|exact tI|omega|(simp only[oZ] at *;omega))|(refine s2 rfl ?_;intro _ _hb)|(refine s3 rfl ?_ ?_<;>intro hb<;>subst hb)|refine aS ?_|refine reg (by kernel_rfl) ?_|refine lexE ?_|refine rD (by kernel_rfl) (by kernel_rfl) ?_)
      refine ⟨⟨m+1,by first|omega|(simp only [oZ] at *;omega)⟩,by dsimp only;(first|omega|(simp only [oZ] at *;omega)),[0,2],?_⟩
      simp [EnvSub,StoreSub,look_cons,nm,E.ren,C.ren,C.renL,O.ren,killc,kill0,Function.comp_def,argsFrom,zC,hΓ,List.take_add_one,hx,Nat.add_assoc]
    · obtain rfl:m=ls.length:=by first|omega|(simp only [oZ] at *;omega)
      refine AWp.exit ?_
      rw [List.take_length] at *
      have hrow:ls.map (fun l=>nextsN n (sizesN n) (decN (sizesN n) k) l)=rowN n k:=by rw [←hL];rfl
      rw [hrow]
      have hrl:(rowN n k).length=ls.length:=by rw [←hrow];simp
      refine AWp.freeze [1] [(1,eInts (sizesN n)),(2,eI .i64 tot),(3,.o (.ip (nRow n))),(7,.o (.arr 0 1 0 k)),(8,eInts ls),(9,eI .i64 k),(11,eIntss (rowN n k))] ⟨⟨_,rfl,.keep⟩,⟨_,rfl,.keep⟩,⟨_,rfl,.keep⟩,⟨_,rfl,.keep⟩,⟨_,rfl,.keep⟩,⟨_,rfl,.keep⟩,⟨_,rfl,.o (.full (by simp) rfl (by simp [Function.comp_def]) (by simp [hrl]))⟩,trivial⟩ ?_
      (repeat first|refine sN rfl ?_|((first|refine sA rfl ?_ ?_|refine s4 rfl ‹_› rfl ?_ ?_);first|exact tI|omega|(simp only[oZ] at *;omega))|(refine s2 rfl ?_;intro _ _hb)|(refine s3 rfl ?_ ?_<;>intro hb<;>subst hb)|refine aS ?_|refine reg (by kernel_rfl) ?_|refine lexE ?_|refine rD (by kernel_rfl) (by kernel_rfl) ?_)
      (refine popO rfl ?_;refine popW ?_ rfl (by rfl);refine n_append rfl rfl rfl (by first|(simp;done)|(simp;(first|omega|(simp only [oZ] at *;omega)))) rfl (by intro r hr;simp at hr;subst hr;rfl) (by rfl) (Nat.le_of_ble_eq_true rfl) (by simp;first|omega|(simp only [oZ] at *;omega)) ?_)
      (repeat first|refine sN rfl ?_|((first|refine sX rfl ?_ ?_|refine s4 rfl ‹_› rfl ?_ ?_);first|exact tI|omega|(simp only[oZ] at *;omega))|(refine s2 rfl ?_;intro _ _hb)|(refine s3 rfl ?_ ?_<;>intro hb<;>subst hb)|refine aS ?_|refine reg (by kernel_rfl) ?_|refine lexE ?_|refine rD (by kernel_rfl) (by kernel_rfl) ?_)
      refine ⟨⟨k+1,by first|omega|(simp only [oZ] at *;omega)⟩,by dsimp only;(first|omega|(simp only [oZ] at *;omega)),[2],?_⟩
      simp [EnvSub,StoreSub,look_cons,nm,E.ren,C.ren,C.renL,O.ren,killc,kill0,Function.comp_def,argsFrom,zC,hΓ,List.range_succ]
  · obtain rfl:k=tot:=by first|omega|(simp only [oZ] at *;omega)
    refine AWp.exit ?_
    (repeat first|refine sN rfl ?_|((first|refine sM rfl ?_ ?_|refine s4 rfl ‹_› rfl ?_ ?_);first|exact tI|omega|(simp only[oZ] at *;omega))|(refine s2 rfl ?_;intro _ _hb)|(refine s3 rfl ?_ ?_<;>intro hb<;>subst hb)|refine aS ?_|refine reg (by kernel_rfl) ?_|refine lexE ?_|refine rD (by kernel_rfl) (by kernel_rfl) ?_)
    refine AWp.freeze [0] [(6,eIntsss ((List.range k).map (rowN n)))] ⟨⟨_,rfl,.o (.full (by simp) rfl (by simp [Function.comp_def]) (by simp))⟩,trivial⟩ ?_
    refine AWp.ret ⟨_,rfl,rfl⟩
end Go.Am
namespace Go.Am
open Go Go.Proofs
set_option maxHeartbeats 1000000
attribute [local irreducible] QOp AOp Lex LexO AWp Spec
variable {TB:List (Nat×Obj)}
def okN (n:Net) (st:List Int) (i:Nat):Bool:=((n.au[i]?.map (·.ac)).getD []).getD (st.getD (n.ps.length+i) 0).toNat false
def foundN (n:Net) (st:List Int) (mv:List (List Int)):Bool:=
  if n.kd=0 then okN n st 0 else if n.kd=1 then okN n st 0 != okN n st 1 else if n.kd=2 then okN n st 0 && !okN n st 1 else if n.kd=3 then !okN n st 0 else
  if n.kd=5 then decide (st.getD n.ps.length 0=n.gl) else mv.all (·.isEmpty)
structure KdOk (n:Net):Prop where
  one:n.kd=0∨n.kd=3∨n.kd=5→1≤n.au.length
  two:n.kd=1∨n.kd=2→2≤n.au.length
theorem l4Ok_ok' {n:Net} (hn:NetOk n) {st:List Int} (hf:Fits (sizesN n) st) (i:Nat) (hi:i < n.au.length):Pure Tryz.prog TB 152 [eNet n,eInts st,eI .i64 i] (eB (okN n st i)):=by
  obtain ⟨a,ha⟩:=get_some hi
  have hok:=hn.au a (List.mem_of_getElem? ha)
  have h1:=autOk_head hok
  have hz:(sizesN n)[n.ps.length+i]? = some (a.nx.length:Int):=by unfold sizesN;rw [List.getElem?_append_right (by simp)];simp [ha]
  have hlen:=hf.len
  obtain ⟨q,hq⟩:=get_some (l:=st) (k:=n.ps.length+i) (by have:=(List.getElem?_eq_some_iff.1 hz).1;omega)
  have h2:=hf.get _ _ _ hz hq
  obtain ⟨b,hb⟩:=get_some (l:=a.ac) (k:=q.toNat) (by omega)
  have h3:=l4Ok_ok (TB:=TB) n st i a q b ha hq h2.1 hb
  have h4:okN n st i=b:=by simp [okN,ha,List.getD,hq,hb]
  rw [h4];exact h3
theorem l4Found_ok {n:Net} (hn:NetOk n) (hk:KdOk n) {st:List Int} (hf:Fits (sizesN n) st) (mv:List (List Int)):Pure Tryz.prog TB 130 [eNet n,eInts st,eIntss mv] (eB (foundN n st mv)):=by
  have h0:=l4Ok_ok' (TB:=TB) hn hf 0
  have h1:=l4Ok_ok' (TB:=TB) hn hf 1
  have hk1:=hk.one
  have hk2:=hk.two
  have hnp:=hn.np
  have hna:=hn.na
  have hst:n.ps.length+n.au.length=st.length:=by have:=hf.len;unfold sizesN at this;simpa using this
  have hat:n.kd=5→(st.map iRow)[((n.ps.length:Nat):Int).toNat]? = some (iRow (st.getD n.ps.length 0)):=by
    intro h5
    obtain ⟨x,hx⟩:=get_some (l:=st) (k:=n.ps.length) (by omega)
    rw [get_map (g:=iRow) hx];simp [List.getD,hx]
  refine eN Tryz.func130 rfl (by kernel_rfl) rfl ?_;intro Γ hΓ
  refine AWp.bound 2 rfl fun hB0=>?_
  have hB:=hB0 (mv.map iiRow) .refl
  (repeat' first|refine sN rfl ?_|((first|refine sA rfl ?_ ?_|refine s4 rfl ‹_› rfl ?_ ?_);first|exact tI|omega|(simp only[oZ] at *;omega))|(refine s2 rfl ?_;intro _ _hb) |(refine sC rfl (h0 (by first|omega|(simp only [oZ] at *;omega))) ?_;intro _ _hb)|(refine sC rfl (h1 (by first|omega|(simp only [oZ] at *;omega))) ?_;intro _ _hb)|(refine s3 rfl ?_ ?_<;>intro hb<;>subst hb)|refine aS ?_|refine reg (by kernel_rfl) ?_|refine lexE ?_|refine rD (by kernel_rfl) (by kernel_rfl) ?_|(refine aC rfl ?_ ?_<;>intro hb<;>cases hb)|refine aK ?_|refine aE ?_|refine aB ?_|refine AWp.ret ⟨_,rfl,?_⟩)
  all_goals try (show E.o _=E.o _;congr;unfold foundN;grind)
  · have hat:=hat (by grind)
    (repeat' first|refine sN rfl ?_|((first|refine sA rfl ?_ ?_|refine s4 rfl ‹_› rfl ?_ ?_);first|exact tI|omega|(simp only[oZ] at *;omega))|(refine s2 rfl ?_;intro _ _hb)|(refine s3 rfl ?_ ?_<;>intro hb<;>subst hb)|refine aS ?_|refine reg (by kernel_rfl) ?_|refine lexE ?_|refine rD (by kernel_rfl) (by kernel_rfl) ?_|(refine aC rfl ?_ ?_<;>intro hb<;>cases hb)|refine aK ?_|refine aE ?_|refine aB ?_|refine AWp.ret ⟨_,rfl,?_⟩)
    show E.o _=E.o _;congr;unfold foundN;grind
  refine AWp.loopL (α:={k:Nat // k≤mv.length∧(mv.take k).all (·.isEmpty)=true}) (fun ⟨k,hk,ha⟩=>[(2,eIntss mv),(7,eI .i64 k)]) (fun ⟨k,hk,ha⟩=>[]) 0 (fun ⟨k,hk,ha⟩=>mv.length - k) (⟨0,by omega,rfl⟩) [] (by first|(simp [hΓ];done)|(rw [hΓ];decide)) (by (repeat' (first|exact trivial|rfl|refine And.intro ?_ ?_))<;>simp [EnvSub,StoreSub,look_cons,nm,E.ren,C.ren,C.renL,O.ren,killc,kill0,Function.comp_def,argsFrom,zC,hΓ]) ?_;rintro ⟨k,hk,ha⟩;(try dsimp only)
  (repeat first|refine sN rfl ?_|((first|refine sA rfl ?_ ?_|refine s4 rfl ‹_› rfl ?_ ?_);first|exact tI|omega|(simp only[oZ] at *;omega))|(refine s2 rfl ?_;intro _ _hb)|(refine s3 rfl ?_ ?_<;>intro hb<;>subst hb)|refine aS ?_|refine reg (by kernel_rfl) ?_|refine lexE ?_|refine rD (by kernel_rfl) (by kernel_rfl) ?_)
  (refine aC rfl ?_ ?_<;>intro hb<;>cases hb)
  · obtain ⟨x,hx⟩:=get_some (l:=mv) (k:=k) (by first|omega|(simp only [oZ] at *;omega))
    have hx':=get_map (g:=iiRow) hx
    (repeat' first|refine sN rfl ?_|((first|refine sA rfl ?_ ?_|refine s4 rfl ‹_› rfl ?_ ?_);first|exact tI|omega|(simp only[oZ] at *;omega))|(refine s2 rfl ?_;intro _ _hb)|(refine s3 rfl ?_ ?_<;>intro hb<;>subst hb)|refine aS ?_|refine reg (by kernel_rfl) ?_|refine lexE ?_|refine rD (by kernel_rfl) (by kernel_rfl) ?_|(refine aC rfl ?_ ?_<;>intro hb<;>cases hb)|refine aK ?_|refine aE ?_|refine aB ?_|refine AWp.ret ⟨_,rfl,?_⟩)
    · have h3:=all_bad (f:=fun x:List Int=>x.isEmpty) hx (by cases x<;>grind)
      show E.o _=E.o _;congr;unfold foundN;grind
    · refine ⟨⟨k+1,by first|omega|(simp only [oZ] at *;omega),all_step hx ha (by cases x<;>grind)⟩,by dsimp only;(first|omega|(simp only [oZ] at *;omega)),[],?_⟩
      simp [EnvSub,StoreSub,look_cons,nm,E.ren,C.ren,C.renL,O.ren,killc,kill0,Function.comp_def,argsFrom,zC,hΓ]
  · (repeat' first|refine sN rfl ?_|((first|refine sA rfl ?_ ?_|refine s4 rfl ‹_› rfl ?_ ?_);first|exact tI|omega|(simp only[oZ] at *;omega))|(refine s2 rfl ?_;intro _ _hb)|(refine s3 rfl ?_ ?_<;>intro hb<;>subst hb)|refine aS ?_|refine reg (by kernel_rfl) ?_|refine lexE ?_|refine rD (by kernel_rfl) (by kernel_rfl) ?_|(refine aC rfl ?_ ?_<;>intro hb<;>cases hb)|refine aK ?_|refine aE ?_|refine aB ?_|refine AWp.ret ⟨_,rfl,?_⟩)
    have h3:=all_done ha (by first|omega|(simp only [oZ] at *;omega))
    show E.o _=E.o _;congr;unfold foundN;grind
end Go.Am
