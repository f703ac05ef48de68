/-
  All moves of a product.
-/
import Derived.Test.YtkkihplpglchjaaGreatDoorPart10
import Derived.Test.YtkkihplpglchjaaGreatDoorPart9
import Derived.Lib.TrailingZeros
set_option linter.constructorNameAsVariable false
set_option linter.unusedSimpArgs false
set_option linter.unusedVariables false
namespace Go.Am
open Go Go.Proofs
set_option maxHeartbeats 1000000
attribute [local irreducible] A1 BZ Lex Bj Ai Spec
variable {TB:Bh}
abbrev SQ(l:List (List Int)):List C:=[.d (CX l)]
abbrev Dh(l:List (List (List Int))):E:=.o (.d (XZ l))
theorem A2{s:Int}{k:Nat}{l:Int}(h:l∈AG s k):0≤l∧l < k∧Ei s l.toNat=true:=by
 unfold AG at h
 obtain⟨i,hi,rfl⟩:=List.mem_map.1 h
 obtain⟨h1,h2⟩:=List.mem_filter.1 hi
 have:=List.mem_range.1 h1
 exact⟨Int.natCast_nonneg _,by show ((i:Nat):Int) < k;omega,h2⟩
theorem On:∀ {l:List Int},(∀z∈l,0 < z)→0 < AL l
 | [],_=>by simp [AL]
 | a::l,h=>Int.mul_pos (h a (by simp)) (On fun z hz=>h z (by simp [hz]))
theorem J0:∀ {zs:List Int} (_:∀z∈zs,0 < z) (n:Int),Fits zs (BU zs n)
 | [],_,_=>.nil
 | z::zs,h,n=>by
  have hz:=h z (by simp)
  exact .cons (Int.emod_nonneg _ (by omega)) (Int.emod_lt_of_pos _ hz) (J0 (fun x hx=>h x (by simp [hx])) n)
def EE(n:Net)(x:Nat):List (List Int):=(Ac n.ls).map fun l=>Fc n (Aj n) (BU (Aj n) x) l
def CZ(n:Net)(tot:Nat):List (List (List Int)):=(List.range tot).map (EE n)
theorem IN{n:Net}{tot i:Nat}(h:i < tot):(CZ n tot)[i]? = some (EE n i):=by simp [CZ,h]
theorem MR{n:Net}(hn:Ee n):(Aj n).length≤5:=by unfold Aj;have:=hn.np;have:=hn.na;simp;omega
theorem RE{n:Net}(hn:Ee n)(tot:Nat)(ht:tot≤1048576):Pure Tryz.prog TB 165 [J5 n,Ay (Aj n),eI .i64 tot] (Dh (CZ n tot)):=by
 have hzl:=MR hn
 have hpos:=Gq hn
 have hdec:∀(x:Nat),x < tot→Pure Tryz.prog TB 167 [Ay (Aj n),eI .i64 x] (Ay (BU (Aj n) x)):=fun x hx=>
  KN _ _ (by omega) (by omega) (fun z hz=>by have:=hpos z hz;omega) (by omega)
 have hnx:∀(x:Nat) (l:Int),l∈Ac n.ls→Pure Tryz.prog TB 195 [J5 n,Ay (Aj n),Ay (BU (Aj n) x),eI .i64 l] (Ay (Fc n (Aj n) (BU (Aj n) x) l)):=fun x l hl=>by
  have h1:=A2 hl
  exact RF hn (J0 (fun z hz=>by have:=hpos z hz;omega) _) (by omega) (by omega)
 have hll:(Ac n.ls).length≤6:=AR n.ls 6
 unfold CZ
 refine eN Tryz.func165 rfl (by kernel_rfl) rfl ?_;intro Γ hΓ
 (repeat first|refine aU rfl ?_)
 (refine Af rfl ?_;refine Ci (fun _ _=>C0 rfl rfl rfl) rfl ?_)
 (refine Af rfl ?_;refine Ci (fun _ _=>DA rfl) rfl ?_)
 (repeat first|refine aU rfl ?_ |refine Aa ?_)
 (refine pW rfl ?_ rfl (by rfl);refine Ba rfl rfl rfl rfl (by simp) (by rfl) (by rfl) (by rfl) (by rfl) ?_)
 (repeat first|refine tM rfl ?_ |refine sP rfl (BM n.ls) rfl ?_ |refine aU rfl ?_ |refine Aa ?_)
 refine aB ?_
 refine Ai.Bm (α:={k:Nat // k≤tot}) (fun ⟨k,hk⟩=>[(1,Ay (Aj n)),(2,eI .i64 tot),(3,.o (.ip (K7 n))),(7,.o (.arr 0 1 0 k)),(8,Ay (Ac n.ls)),(9,eI .i64 k)]) (fun ⟨k,hk⟩=>[(0,.cells 23 1 (((List.range k).map (EE n)).map SQ))]) 1 (fun ⟨k,hk⟩=>tot - k) (⟨0,by omega⟩) [0] (Fq hΓ rfl rfl) (by (simp[cX,zC,hΓ])) ?_;rintro⟨k,hk⟩;(try dsimp only)
 (repeat first|refine tM rfl ?_ |refine s2 rfl fun _ _hb=>?_ |refine aU rfl ?_ |refine Aa ?_)
 (refine aC rfl ?_ ?_<;>rintro⟨⟩)
 ·have hk2:k < tot:=by (simp only[oZ] at *;omega)
  refine aK ?_
  refine aS (aB ?_)
  (repeat first|refine tM rfl ?_ |refine sP rfl (hdec k hk2) rfl ?_ |refine aU rfl ?_ |refine Aa ?_)
  (refine pW rfl ?_ rfl (by rfl);refine Ba rfl rfl rfl rfl (by simp) (by rfl) (by rfl) (by rfl) (by rfl) ?_)
  (repeat first|refine tM rfl ?_ |refine aU rfl ?_ |refine Aa ?_)
  refine aB ?_
  generalize hL:Ac n.ls=ls at *
  refine Ai.Bm (α:={m:Nat // m≤ls.length}) (fun ⟨m,hm⟩=>[(1,Ay (Aj n)),(2,eI .i64 tot),(3,.o (.ip (K7 n))),(7,.o (.arr 0 1 0 k)),(8,Ay ls),(9,eI .i64 k),(10,Ay (BU (Aj n) k)),(11,.o (.arr 1 1 0 m)),(12,eI .i64 m)]) (fun ⟨m,hm⟩=>[(0,.cells 23 1 (((List.range k).map (EE n)).map SQ)),(1,.cells 90 1 (((ls.take m).map fun l=>Fc n (Aj n) (BU (Aj n) k) l).map Rq))]) 2 (fun ⟨m,hm⟩=>ls.length - m) (⟨0,by omega⟩) [0,1] (Fq hΓ rfl rfl) (by (simp[cX,zC,hΓ])) ?_;rintro⟨m,hm⟩;(try dsimp only)
  (repeat first|refine sN rfl ?_ |refine tM rfl ?_ |refine s2 rfl fun _ _hb=>?_ |refine aU rfl ?_ |refine Aa ?_)
  (refine aC rfl ?_ ?_<;>rintro⟨⟩)
  ·obtain⟨x,hx⟩:=get_some (l:=ls) (k:=m) (by (simp only[oZ] at *;omega))
   have hx':=get_map (g:=Bv) hx
   have hxm:=hnx k x (List.mem_of_getElem? hx)
   refine aK ?_
   refine aS (aB ?_)
   refine rG (HN [10]) (by kernel_rfl) ?_
   (repeat first|refine tA rfl ?_ |(refine s4 rfl ‹_› rfl ?_ ?_;omega) |refine sP rfl (hxm) rfl ?_)
   (refine pW rfl ?_ rfl (by rfl);refine Ax rfl rfl rfl (by first| (simp;done)|(simp;(omega))) rfl (by intro r hr;simp at hr;subst hr;rfl) (by rfl) (Nat.le_of_ble_eq_true rfl) (by simp;omega) ?_)
   (repeat first|(refine sX rfl ?_ ?_;first|exact tI|omega) |refine aU rfl ?_ |refine Aa ?_)
   refine⟨⟨m+1,by (simp only[oZ] at *;omega)⟩,by dsimp only;((simp only[oZ] at *;omega)),[0,2],?_⟩
   simp[cX,zC,hΓ,List.take_add_one,hx,Nat.add_assoc]
  ·obtain rfl:m=ls.length:=by (simp only[oZ] at *;omega)
   refine aE ?_
   rw [List.take_length] at *
   have hrow:ls.map (fun l=>Fc n (Aj n) (BU (Aj n) k) l)=EE n k:=by rw [←hL];rfl
   rw [hrow]
   have hrl:(EE n k).length=ls.length:=by rw [←hrow];simp
   refine Ai.freeze [1] [(1,Ay (Aj n)),(2,eI .i64 tot),(3,.o (.ip (K7 n))),(7,.o (.arr 0 1 0 k)),(8,Ay ls),(9,eI .i64 k),(11,EJ (EE n k))] ⟨⟨_,rfl,.Bb⟩,⟨_,rfl,.Bb⟩,⟨_,rfl,.Bb⟩,⟨_,rfl,.Bb⟩,⟨_,rfl,.Bb⟩,⟨_,rfl,.Bb⟩,⟨_,rfl,.o (.full (by simp) rfl (by simp [Function.comp_def]) (by simp [hrl]))⟩,trivial⟩ ?_
   (repeat first|refine tA rfl ?_ |refine aU rfl ?_)
   (refine pW rfl ?_ rfl (by rfl);refine Ax rfl rfl rfl (by first| (simp;done)|(simp;(omega))) rfl (by intro r hr;simp at hr;subst hr;rfl) (by rfl) (Nat.le_of_ble_eq_true rfl) (by simp;omega) ?_)
   (repeat first|(refine sX rfl ?_ ?_;first|exact tI|omega) |refine aU rfl ?_ |refine Aa ?_)
   refine⟨⟨k+1,by omega⟩,by dsimp only;(omega),[2],?_⟩
   simp[cX,zC,hΓ,List.range_succ]
 ·obtain rfl:k=tot:=by (simp only[oZ] at *;omega)
  refine aE ?_
  (repeat first|refine tM rfl ?_ |refine aU rfl ?_ |refine Aa ?_)
  refine Ai.freeze [0] [(6,Dh ((List.range k).map (EE n)))] ⟨⟨_,rfl,.o (.full (by simp) rfl (by simp [Function.comp_def]) (by simp))⟩,trivial⟩ ?_
  refine aR ⟨_,rfl,rfl⟩
def XC(n:Net)(st:List Int)(i:Nat):Bool:=((n.au[i]?.map (·.ac)).getD []).getD (st.getD (n.ps.length+i) 0).toNat false
def CA(n:Net)(st:List Int)(mv:List (List Int)):Bool:=
 if n.kd=0 then XC n st 0 else if n.kd=1 then XC n st 0 != XC n st 1 else if n.kd=2 then XC n st 0 && !XC n st 1 else if n.kd=3 then !XC n st 0 else
 if n.kd=5 then decide (st.getD n.ps.length 0=n.gl) else mv.all (·.isEmpty)
structure YY (n:Net):Prop where
 one:n.kd=0∨n.kd=3∨n.kd=5→1≤n.au.length
 two:n.kd=1∨n.kd=2→2≤n.au.length
theorem Qf{n:Net}(hn:Ee n){st:List Int}(hf:Fits (Aj n) st)(i:Nat)(hi:i < n.au.length):Pure Tryz.prog TB 196 [J5 n,Ay st,eI .i64 i] (eB (XC n st i)):=by
 obtain⟨a,ha⟩:=get_some hi
 have hok:=hn.au a (List.mem_of_getElem? ha)
 have h1:=AI hok
 have hz:(Aj n)[n.ps.length+i]? = some (a.nx.length:Int):=by unfold Aj;rw [List.getElem?_append_right (by simp)];simp [ha]
 have hlen:=hf.len
 obtain⟨q,hq⟩:=get_some (l:=st) (k:=n.ps.length+i) (by have:=(List.getElem?_eq_some_iff.1 hz).1;omega)
 have h2:=hf.get _ _ _ hz hq
 obtain⟨b,hb⟩:=get_some (l:=a.ac) (k:=q.toNat) (by omega)
 have h3:=X4 (TB:=TB) n st i a q b ha hq h2.1 hb
 have h4:XC n st i=b:=by simp [XC,ha,List.getD,hq,hb]
 rw [h4];exact h3
theorem RD{n:Net}(hn:Ee n)(hk:YY n){st:List Int}(hf:Fits (Aj n) st)(mv:List (List Int)):Pure Tryz.prog TB 166 [J5 n,Ay st,EJ mv] (eB (CA n st mv)):=by
 have h0:=Qf (TB:=TB) hn hf 0
 have h1:=Qf (TB:=TB) hn hf 1
 have hk1:=hk.one
 have hk2:=hk.two
 have hnp:=hn.np
 have hna:=hn.na
 have hst:n.ps.length+n.au.length=st.length:=by have:=hf.len;unfold Aj at this;simpa using this
 have hat:n.kd=5→(st.map Bv)[((n.ps.length:Nat):Int).toNat]? = some (Bv (st.getD n.ps.length 0)):=by
  intro h5
  obtain⟨x,hx⟩:=get_some (l:=st) (k:=n.ps.length) (by omega)
  rw [get_map (g:=Bv) hx];simp [List.getD,hx]
 refine eN Tryz.func166 rfl (by kernel_rfl) rfl ?_;intro Γ hΓ
 refine Ai.bound 2 rfl fun hB0=>?_
 have hB:=hB0 (mv.map E8) .refl
 (repeat' first|refine sN rfl ?_ |refine tA rfl ?_ |refine s2 rfl fun _ _hb=>?_ |(refine sC rfl (h0 (by (simp only[oZ] at *;omega))) ?_;intro _ _hb)|(refine sC rfl (h1 (by (simp only[oZ] at *;omega))) ?_;intro _ _hb) |refine s3 rfl ?_ ?_<;>rintro rfl |refine aU rfl ?_ |refine Aa ?_ |refine rE (by kernel_rfl) ?_|(refine aC rfl ?_ ?_<;>rintro⟨⟩)|refine aK ?_|refine aE ?_|refine aB ?_|refine aR ⟨_,rfl,?_⟩)
 all_goals try (show E.o _=E.o _;congr;unfold CA;grind)
 ·have hat:=hat (by grind)
  (repeat' first|refine tA rfl ?_ |(refine s4 rfl ‹_› rfl ?_ ?_;omega) |refine s2 rfl fun _ _hb=>?_ |refine Aa ?_|(refine aC rfl ?_ ?_<;>rintro⟨⟩)|refine aK ?_|refine aE ?_|refine aB ?_|refine aR ⟨_,rfl,?_⟩)
  show E.o _=E.o _;congr;unfold CA;grind
 refine Ai.Bm (α:={k:Nat // k≤mv.length∧(mv.take k).all (·.isEmpty)=true}) (fun ⟨k,hk,ha⟩=>[(2,EJ mv),(7,eI .i64 k)]) (fun ⟨k,hk,ha⟩=>[]) 0 (fun ⟨k,hk,ha⟩=>mv.length - k) (⟨0,by omega,rfl⟩) [] (Fq hΓ rfl rfl) (by (simp[cX,zC,hΓ])) ?_;rintro⟨k,hk,ha⟩;(try dsimp only)
 (repeat first|refine sN rfl ?_ |refine tA rfl ?_ |refine s2 rfl fun _ _hb=>?_ |refine aU rfl ?_ |refine Aa ?_)
 (refine aC rfl ?_ ?_<;>rintro⟨⟩)
 ·obtain⟨x,hx⟩:=get_some (l:=mv) (k:=k) (by (simp only[oZ] at *;omega))
  have hx':=get_map (g:=E8) hx
  (repeat' first|refine sN rfl ?_ |(refine sA rfl ?_ ?_;first|exact tI|simp only[oZ] at *;omega) |(refine s4 rfl ‹_› rfl ?_ ?_;omega) |refine s2 rfl fun _ _hb=>?_ |refine aU rfl ?_ |refine Aa ?_|(refine aC rfl ?_ ?_<;>rintro⟨⟩)|refine aK ?_|refine aE ?_|refine aB ?_|refine aR ⟨_,rfl,?_⟩)
  ·have h3:=Gx (f:=fun x:List Int=>x.isEmpty) hx (by cases x<;>grind)
   show E.o _=E.o _;congr;unfold CA;grind
  ·refine⟨⟨k+1,by (simp only[oZ] at *;omega),E4 hx ha (by cases x<;>grind)⟩,by dsimp only;((simp only[oZ] at *;omega)),[],?_⟩
   simp[cX,zC,hΓ]
 ·(repeat' first|refine tA rfl ?_ |refine aU rfl ?_ |refine Aa ?_|(refine aC rfl ?_ ?_<;>rintro⟨⟩)|refine aK ?_|refine aE ?_|refine aB ?_|refine aR ⟨_,rfl,?_⟩)
  have h3:=E3 ha (by (simp only[oZ] at *;omega))
  show E.o _=E.o _;congr;unfold CA;grind
theorem Ma{α β:Type}{l:List α}{g:α→β}{k:Nat}{x:α}(h:l[k]? = some x):(l.map g)[0+((k:Nat):Int).toNat]? = some (g x):=by simp [h]
theorem Hz{l:List Int}{k:Nat}{x y:Int}:(l.map AQ).set (0+((k:Nat):Int).toNat) (Ag (AQ x) 0 (eC (eI .i64 y)))=(l.set k y).map AQ:=by
 simp [Ag,eC,List.map_set]
def Nw(l:List Int):Nat:=l.countP (decide <| · < 0)
theorem Qp:∀ {l:List Int} {k:Nat} {x y:Int},l[k]? = some x→x < 0→0≤y→Nw (l.set k y)+1=Nw l
 | [],k,x,y,h,_,_=>by simp at h
 | a::l,0,x,y,h,hx,hy=>by
  simp at h;subst h
  have:¬y < 0:=by omega
  simp [Nw,hx,this]
 | a::l,k+1,x,y,h,hx,hy=>by
  have:=Qp (l:=l) (k:=k) (by simpa using h) hx hy
  simp only [Nw,List.set_cons_succ,List.countP_cons] at this ⊢
  omega
theorem Oi{mv:List (List Int)}{dist:List Int}{d:Int}:Ju mv dist d=true↔∃r∈mv,∃j∈r,dist.getD j.toNat 0=d:=by
 simp [Ju,Y7]
structure OD (mv:List (List (List Int))) (g:Nat→Bool) (dist:List Int):Prop where
 len:dist.length=mv.length
 zero:∀i,i < mv.length→(dist.getD i 0=0↔g i=true)
 step:∀i,i < mv.length→0 < dist.getD i 0→∃r∈mv.getD i [],∃j∈r,dist.getD j.toNat 0=dist.getD i 0 - 1
 close:∀i,i < mv.length→∀r∈mv.getD i [],∀j∈r,0≤dist.getD j.toNat 0→0≤dist.getD i 0∧dist.getD i 0≤dist.getD j.toNat 0+1
 bound:∀i,i < mv.length→-1≤dist.getD i 0∧dist.getD i 0≤mv.length+1
structure DI (mv:List (List (List Int))) (g:Nat→Bool) (dist:List Int) (d:Int) (more:Bool) (i:Nat):Prop where
 len:dist.length=mv.length
 d1:1≤d
 zero:∀i,i < mv.length→(dist.getD i 0=0↔g i=true)
 step:∀i,i < mv.length→0 < dist.getD i 0→∃r∈mv.getD i [],∃j∈r,dist.getD j.toNat 0=dist.getD i 0 - 1
 lt:∀x,x < mv.length→-1≤dist.getD x 0∧dist.getD x 0≤d
 up:∀x,i≤x→x < mv.length→dist.getD x 0 < d
 last:more=false→∀x,x < mv.length→dist.getD x 0 < d
 close:∀x,x < mv.length→∀r∈mv.getD x [],∀j∈r,0≤dist.getD j.toNat 0→(dist.getD j.toNat 0 < d - 1∨x < i∧dist.getD j.toNat 0=d - 1)→0≤dist.getD x 0∧dist.getD x 0≤dist.getD j.toNat 0+1
def Lx(mv:List (List (List Int))):Prop:=∀x,x < mv.length→∀r∈mv.getD x [],∀j∈r,0≤j∧j < mv.length
theorem PX{l:List Int}{k:Nat}{y:Int}(h:k < l.length):(l.set k y).getD k 0=y:=by simp [List.getD,h]
theorem LZ{l:List Int}{k x:Nat}{y:Int}(h:k≠x):(l.set k y).getD x 0=l.getD x 0:=by simp [List.getD,h]
theorem DI.set{mv:List (List (List Int))}{g:Nat→Bool}{dist:List Int}{d:Int}{more:Bool}{i:Nat}(h:DI mv g dist d more i)(hi:i < mv.length)(hneg:dist.getD i 0 < 0)(hn:Ju (mv.getD i []) dist (d - 1)=true):DI mv g (dist.set i d) d true (i+1):=by
 have hd1:=h.d1
 have hl:i < dist.length:=by rw [h.len];exact hi
 obtain⟨r0,hr0,j0,hj0,hjd⟩:=Oi.1 hn
 have g1:(dist.set i d).getD i 0=d:=PX hl
 have g2:∀x,x≠i→(dist.set i d).getD x 0=dist.getD x 0:=fun x hx=>LZ (Ne.symm hx)
 have g3:∀x,0≤dist.getD x 0→(dist.set i d).getD x 0=dist.getD x 0:=fun x hx=>g2 x fun e=>by subst e;omega
 refine⟨by simp [h.len],hd1,fun x hx=>?_,fun x hx hp=>?_,fun x hx=>?_,fun x hx hx'=>?_,fun hm=>(by cases hm),fun x hx r hr j hj hj0' hj1=>?_⟩
 ·by_cases e:x=i
  ·subst e;rw [g1,←h.zero x hx];constructor<;>intro<;>omega
  ·rw [g2 x e];exact h.zero x hx
 ·by_cases e:x=i
  ·subst e;rw [g1] at hp ⊢
   exact⟨r0,hr0,j0,hj0,by rw [g3 _ (by omega)];exact hjd⟩
  ·rw [g2 x e] at hp ⊢
   obtain⟨r,hr,j,hj,hjx⟩:=h.step x hx hp
   exact⟨r,hr,j,hj,by rw [g3 _ (by omega)];exact hjx⟩
 ·by_cases e:x=i
  ·subst e;rw [g1];omega
  ·rw [g2 x e];exact h.lt x hx
 ·rw [g2 x (by omega)];exact h.up x (by omega) hx'
 ·by_cases ej:j.toNat=i
  ·rw [ej,g1] at hj1;omega
  ·rw [g2 _ ej] at hj0' hj1 ⊢
   by_cases e:x=i
   ·subst e;rw [g1]
    refine⟨by omega,?_⟩
    rcases hj1 with h1|⟨_,h1⟩
    ·have:=(h.close x hx r hr j hj hj0' (.inl h1)).1;omega
    ·omega
   ·rw [g2 x e]
    exact h.close x hx r hr j hj hj0' (by rcases hj1 with h1|⟨h1,h2⟩;exact .inl h1;exact .inr ⟨by omega,h2⟩)
theorem DI.Bb{mv:List (List (List Int))}{g:Nat→Bool}{dist:List Int}{d:Int}{more:Bool}{i:Nat}(h:DI mv g dist d more i)(hi:i < mv.length)(hn:dist.getD i 0 < 0→Ju (mv.getD i []) dist (d - 1)=false):DI mv g dist d more (i+1):=by
 refine⟨h.len,h.d1,h.zero,h.step,h.lt,fun x hx hx'=>h.up x (by omega) hx',h.last,fun x hx r hr j hj hj0 hj1=>?_⟩
 rcases hj1 with h1|⟨h1,h2⟩
 ·exact h.close x hx r hr j hj hj0 (.inl h1)
 ·by_cases e:x=i
  ·subst e
   by_cases hx0:dist.getD x 0 < 0
   ·have h3:=hn hx0
    have h4:=Oi.2 ⟨r,hr,j,hj,h2⟩
    rw [h3] at h4;cases h4
   ·have:=h.up x (Nat.le_refl _) hx
    omega
  ·exact h.close x hx r hr j hj hj0 (.inr ⟨by omega,h2⟩)
theorem DI.next{mv:List (List (List Int))}{g:Nat→Bool}{dist:List Int}{d:Int}{more:Bool}(h:DI mv g dist d more mv.length):DI mv g dist (d+1) true 0:=by
 have hd1:=h.d1
 refine⟨h.len,by omega,h.zero,h.step,fun x hx=>?_,fun x _ hx=>?_,fun hm=>(by cases hm),fun x hx r hr j hj hj0 hj1=>?_⟩
 ·have:=h.lt x hx;omega
 ·have:=h.lt x hx;omega
 ·exact h.close x hx r hr j hj hj0 (by omega)
theorem DI.fin{mv:List (List (List Int))}{g:Nat→Bool}{dist:List Int}{d:Int}(hin:Lx mv)(h:DI mv g dist d false mv.length)(hd:d≤mv.length+1):OD mv g dist:=by
 have hd1:=h.d1
 refine⟨h.len,h.zero,h.step,fun x hx r hr j hj hj0=>?_,fun x hx=>?_⟩
 ·have h1:=hin x hx r hr j hj
  have:=h.last rfl j.toNat (by omega)
  exact h.close x hx r hr j hj hj0 (by omega)
 ·have:=h.lt x hx;have:=h.last rfl x hx;omega
structure Ps (mv:List (List (List Int))) (g:Nat→Bool) (dt:List Int) (d:Int) (more:Bool):Prop where
 len:dt.length=mv.length
 d1:1≤d
 d2:d≤mv.length+2
 yes:more=true→DI mv g dt d true 0∧d+Nw dt≤mv.length+1
 no:more=false→OD mv g dt
theorem Yb(l:List Int):Nw l≤l.length:=List.countP_le_length
theorem Ps.init{mv:List (List (List Int))}{g:Nat→Bool}{dist:List Int}(hlen:dist.length=mv.length)(h0:∀i,i < mv.length→dist.getD i 0=if g i then 0 else -1):Ps mv g dist 1 true:=by
 have hx:∀x,x < mv.length→-1≤dist.getD x 0∧dist.getD x 0 < 1:=fun x hx=>by have:=h0 x hx;split at this<;>omega
 have hn:=Yb dist
 refine⟨hlen,by omega,by omega,fun _=>⟨⟨hlen,by omega,fun x h=>?_,fun x h hp=>?_,fun x h=>?_,fun x _ h=>(hx x h).2,fun h=>(by cases h),fun x h r hr j hj hj0 hj1=>?_⟩,by omega⟩,fun h=>(by cases h)⟩
 ·have:=h0 x h;split at this<;>simp_all
 ·have:=hx x h;omega
 ·have:=hx x h;omega
 ·omega
structure KY (mv:List (List (List Int))) (g:Nat→Bool) (dt:List Int) (d:Int) (du:List Int) (m2:Bool) (i:Nat):Prop where
 le:i≤mv.length
 di:DI mv g du d m2 i
 cnt:Nw du+(if m2 then 1 else 0)≤Nw dt
theorem KY.init{mv:List (List (List Int))}{g:Nat→Bool}{dt:List Int}{d:Int}(h:DI mv g dt d true 0):KY mv g dt d dt false 0:=
 ⟨Nat.zero_le _,⟨h.len,h.d1,h.zero,h.step,h.lt,h.up,fun _ x hx=>h.up x (Nat.zero_le _) hx,h.close⟩,by simp⟩
theorem KY.set{mv:List (List (List Int))}{g:Nat→Bool}{dt:List Int}{d:Int}{du:List Int}{m2:Bool}{i:Nat}(h:KY mv g dt d du m2 i)(hi:i < mv.length)(hneg:du.getD i 0 < 0)(hn:Ju (mv.getD i []) du (d - 1)=true):KY mv g dt d (du.set i d) true (i+1):=by
 have hl:=h.di.len
 have hd1:=h.di.d1
 have h1:du[i]? = some (du.getD i 0):=by
  have:i < du.length:=by omega
  simp [List.getD,this]
 have h2:=Qp h1 hneg (y:=d) (by omega)
 have h3:=h.cnt
 refine⟨hi,h.di.set hi hneg hn,?_⟩
 simp only [if_true]
 split at h3<;>omega
theorem KY.Bb{mv:List (List (List Int))}{g:Nat→Bool}{dt:List Int}{d:Int}{du:List Int}{m2:Bool}{i:Nat}(h:KY mv g dt d du m2 i)(hi:i < mv.length)(hn:du.getD i 0 < 0→Ju (mv.getD i []) du (d - 1)=false):KY mv g dt d du m2 (i+1):=
 ⟨hi,h.di.Bb hi hn,h.cnt⟩
theorem KY.next{mv:List (List (List Int))}{g:Nat→Bool}{dt:List Int}{d:Int}{du:List Int}{m2:Bool}(hin:Lx mv)(h:KY mv g dt d du m2 mv.length)(hd:d+Nw dt≤mv.length+1):Ps mv g du (d+1) m2:=by
 have hd1:=h.di.d1
 have hc:=h.cnt
 refine⟨h.di.len,by omega,by omega,fun hm=>?_,fun hm=>?_⟩
 ·subst hm
  simp only [if_true] at hc
  exact⟨h.di.next,by omega⟩
 ·subst hm
  exact h.di.fin hin (by omega)
theorem Uj(mv:List (List (List Int)))(g:Nat→Bool)(dist:List Int)(hin:Lx mv)(hN:mv.length≤1048576)(hlen:dist.length=mv.length)(h0:∀i,i < mv.length→dist.getD i 0=if g i then 0 else -1) :
    Spec Tryz.prog TB 168 [(0,.cells 3 1 (dist.map AQ))] 1 [Dh mv,.o (.arr 0 1 0 mv.length)] (fun x σ nx=>x=.t []∧nx=1∧∃dist',OD mv g dist'∧σ=[(0,.cells 3 1 (dist'.map AQ))]):=by
  refine eN Tryz.func168 rfl (by kernel_rfl) rfl ?_;intro Γ hΓ
  (repeat first|refine tM rfl ?_ |refine aU rfl ?_ |refine Aa ?_)
  refine aB ?_
  refine Ai.Bm (α:={x:List Int×Int×Bool // Ps mv g x.1 x.2.1 x.2.2}) (fun ⟨⟨dt,d,more⟩,hH⟩=>[(0,Dh mv),(1,.o (.arr 0 1 0 mv.length)),(4,eB more),(5,eI .i64 d)]) (fun ⟨⟨dt,d,more⟩,hH⟩=>[(0,.cells 3 1 (dt.map AQ))]) 1 (fun ⟨⟨dt,d,more⟩,hH⟩=>2*Nw dt+(if more then 1 else 0)) (⟨(dist,1,true),Ps.init hlen h0⟩) [0] (Fq hΓ rfl rfl) (by (simp[cX,zC,hΓ])) ?_;rintro⟨⟨dt,d,more⟩,hH⟩;(try dsimp only)
  simp only at hH
  (repeat first|refine tM rfl ?_ |refine aU rfl ?_ |refine Aa ?_)
  (refine aC rfl ?_ ?_<;>rintro⟨⟩)
  · obtain⟨hD,hc⟩:=hH.yes rfl
    have hd1:=hD.d1
    refine aK ?_
    refine aS (aB ?_)
    (repeat first|refine tM rfl ?_ |refine aU rfl ?_ |refine Aa ?_)
    refine aB ?_
    refine Ai.Bm (α:={x:List Int×Bool×Nat // KY mv g dt d x.1 x.2.1 x.2.2}) (fun ⟨⟨du,m2,i⟩,hM⟩=>[(0,Dh mv),(1,.o (.arr 0 1 0 mv.length)),(4,eB m2),(5,eI .i64 d),(6,eI .i64 i)]) (fun ⟨⟨du,m2,i⟩,hM⟩=>[(0,.cells 3 1 (du.map AQ))]) 1 (fun ⟨⟨du,m2,i⟩,hM⟩=>mv.length - i) (⟨(dt,false,0),KY.init hD⟩) [0] (Fq hΓ rfl rfl) (by (simp[cX,zC,hΓ])) ?_;rintro⟨⟨du,m2,i⟩,hM⟩;(try dsimp only)
    simp only at hM
    have hul:=hM.di.len
    have hile:=hM.le
    (repeat first|refine tM rfl ?_ |refine s2 rfl fun _ _hb=>?_ |refine aU rfl ?_ |refine Aa ?_)
    (refine aC rfl ?_ ?_<;>rintro⟨⟩)
    · obtain⟨y,hy⟩:=get_some (l:=du) (k:=i) (by (simp only[oZ] at *;omega))
      have hy':=Ma (g:=AQ) hy
      obtain⟨mi,hmi⟩:=get_some (l:=mv) (k:=i) (by (simp only[oZ] at *;omega))
      have hmi':=get_map (g:=IF) hmi
      have hilt:i < mv.length:=by (simp only[oZ] at *;omega)
      have hyd:du.getD i 0=y:=by simp [List.getD,hy]
      have hmd:mv.getD i []=mi:=by simp [List.getD,hmi]
      have hset:=hM.set hilt
      have hkeep:=hM.Bb hilt
      rw [hyd,hmd] at hset hkeep
      refine aK ?_
      refine aS (aB ?_)
      (repeat' first|((first|refine sM rfl ?_ ?_|refine s4 rfl ‹_› rfl ?_ ?_);first|exact tI|omega) |refine s2 rfl fun _ _hb=>?_|(refine Af rfl ?_;refine gA rfl ?_;first| (refine dF (HY rfl rfl ((.cons (.o (.pure rfl)) (.cons (.o (.full rfl (by simp [Function.comp_def]) (by simp [hul]))) (.cons (.o (.pure rfl)) .nil)))) (Uk mi du (d - 1) (fun r hr v hv=>by have:=hin i hilt r (by rw [hmd];exact hr) v hv;exact⟨this.1,by omega⟩)) rfl) rfl ?_;intro _ _hb)) |refine s3 rfl ?_ ?_<;>rintro rfl |refine aU rfl ?_ |refine Aa ?_|(refine aC rfl ?_ ?_<;>rintro⟨⟩)|refine aK ?_|refine aE ?_|refine aB ?_|refine aR ⟨_,rfl,?_⟩)
      all_goals first
        | (refine⟨⟨(du,m2,i+1),hkeep (by grind)⟩,by dsimp only;(omega),[0],?_⟩
           simp[cX,zC,hΓ]
           done)
        | (refine⟨⟨(du.set i d,true,i+1),hset (by grind) (by grind)⟩,by dsimp only;(omega),[0],?_⟩
           rw [Hz]
           simp[cX,zC,hΓ]
           done)
    · obtain rfl:i=mv.length:=by (simp only[oZ] at *;omega)
      have hN2:=hM.next hin hc
      have hc2:=hM.cnt
      refine aE ?_
      (repeat first|(refine sM rfl ?_ ?_;first|exact tI|omega) |refine aU rfl ?_ |refine Aa ?_)
      refine⟨⟨(du,d+1,m2),hN2⟩,?_,[0],?_⟩
      · dsimp only
        cases m2<;>simp at hc2 ⊢ <;> omega
      · simp[cX,zC,hΓ]
  · refine aE ?_
    exact⟨_,rfl,rfl,rfl,dt,hH.no rfl,rfl⟩
theorem Uo(l:List Int)(a:Int):l.length=l.count a+(l.filter (· != a)).length:=by
 induction l with
 | nil=>rfl
 | cons b l ih=>
  simp only [List.count_cons,List.filter_cons,List.length_cons]
  by_cases h:b=a
  ·subst h;simp;omega
  ·simp [h];omega
theorem Kn:∀(n:Nat) (l:List Int),l.Nodup→(∀x∈l,0≤x∧x < n)→l.length≤n
 | 0,l,_,h=>by
  cases l with
  | nil=>simp
  | cons a l=>have:=h a (by simp);omega
 | n + 1,l,hn,h=>by
  have h1:=Uo l n
  have h2:=List.nodup_iff_count.1 hn n
  have h3:=Kn n (l.filter (· != (n:Int))) (hn.filter _) fun x hx=>by
   obtain⟨h4,h5⟩:=List.mem_filter.1 hx
   have:=h x h4
   simp at h5
   omega
  omega
def Hd(dist:List Int)(d:Int)(acc:List Int)(j:Int):List Int:=if dist.getD j.toNat 0=d∧j∉acc then acc++[j] else acc
theorem Sw(dist:List Int)(d:Int)(acc:List Int)(j:Int):Hd dist d acc j=if dist.getD j.toNat 0=d∧j∉acc then acc++[j] else acc:=rfl
def Ew(mv:List (List (List Int)))(dist at':List Int)(k:Nat)(d:Int):List Int:=at'.foldl (fun acc x=>((mv.getD x.toNat []).getD k []).foldl (Hd dist d) acc) []
def C9(n:Nat)(acc:List Int):Prop:=acc.Nodup∧∀x∈acc,0≤x∧x < n
theorem C9.add{n:Nat}{acc:List Int}(h:C9 n acc){dist:List Int}{d j:Int}(hj:0≤j∧j < n):C9 n (Hd dist d acc j):=by
 unfold Hd
 split
 ·rename_i h1
  refine⟨List.nodup_append.2 ⟨h.1,by simp,fun a ha b hb=>?_⟩,fun x hx=>?_⟩
  ·simp at hb;subst hb;intro e;subst e;exact h1.2 ha
  ·rcases List.mem_append.1 hx with hx|hx
   ·exact h.2 x hx
   ·simp at hx;subst hx;exact hj
 ·exact h
theorem C9.fold{n:Nat}{dist:List Int}{d:Int}:∀ {l acc:List Int},C9 n acc→(∀j∈l,0≤j∧j < n)→C9 n (l.foldl (Hd dist d) acc)
 | [],_,h,_=>h
 | j::_,_,h,hl=>by rw [List.foldl_cons];exact C9.fold (h.add (hl j (by simp))) fun x hx=>hl x (by simp [hx])
theorem mem_row{mv:List (List (List Int))}(hin:Lx mv){x:Int}(hx:0≤x∧x < mv.length)(k:Nat):∀j∈(mv.getD x.toNat []).getD k [],0≤j∧j < mv.length:=by
 intro j hj
 cases hr:(mv.getD x.toNat [])[k]? with
 | none=>
  have:(mv.getD x.toNat []).getD k []=[]:=by rw [List.getD,hr];rfl
  rw [this] at hj;cases hj
 | some r=>
  have:(mv.getD x.toNat []).getD k []=r:=by rw [List.getD,hr];rfl
  rw [this] at hj
  exact hin x.toNat (by omega) r (List.mem_of_getElem? hr) j hj
theorem C9.Y9{mv:List (List (List Int))}(hin:Lx mv){dist:List Int}{d:Int}{k:Nat}:∀ {l acc:List Int},C9 mv.length acc→(∀x∈l,0≤x∧x < mv.length)→C9 mv.length (l.foldl (fun acc x=>((mv.getD x.toNat []).getD k []).foldl (Hd dist d) acc) acc)
 | [],_,h,_=>h
 | j::_,_,h,hl=>by rw [List.foldl_cons];exact C9.Y9 hin (h.fold (mem_row hin (hl j (by simp)) k)) fun x hx=>hl x (by simp [hx])
theorem C9.nil{n:Nat}:C9 n []:=⟨.nil,fun x hx=>(by cases hx)⟩
theorem LX{α β:Type}{l:List α}{k:Nat}{x:α}(h:l[k]? = some x)(f:β→α→β)(b:β):(l.take (k+1)).foldl f b=f ((l.take k).foldl f b) x:=by
 rw [List.take_add_one,h,List.foldl_append];rfl
theorem Qd(mv:List (List (List Int)))(dist at':List Int)(k:Nat)(d:Int)(hin:Lx mv)(hN:mv.length≤1048576)(hlen:dist.length=mv.length)(ha:∀x∈at',0≤x∧x < mv.length)(hal:at'.length≤1048576)(hk:∀i,i < mv.length→k < (mv.getD i []).length) :
 Pure Tryz.prog TB 170 [Dh mv,Ay dist,Ay at',eI .i64 k,eI .i64 d] (Ay (Ew mv dist at' k d)):=by
 have hacc:∀m,C9 mv.length ((at'.take m).foldl (fun acc x=>((mv.getD x.toNat []).getD k []).foldl (Hd dist d) acc) []):=fun m=>C9.Y9 hin .nil fun x hx=>ha x (List.mem_of_mem_take hx)
 refine eN Tryz.func170 rfl (by kernel_rfl) rfl ?_;intro Γ hΓ
 refine Ai.bound 0 rfl fun hB0=>?_
 (repeat first|refine aU rfl ?_)
 (refine Af rfl ?_;refine Ci (fun _ _=>DA rfl) rfl ?_)
 (repeat first|refine aU rfl ?_ |refine Aa ?_)
 (refine pW rfl ?_ rfl (by rfl);refine Ba rfl rfl rfl rfl (by simp) (by rfl) (by rfl) (by rfl) (by rfl) ?_)
 (repeat first|refine tM rfl ?_ |refine aU rfl ?_ |refine Aa ?_)
 refine aB ?_
 refine Ai.Bm (α:={m:Nat // m≤at'.length}) (fun ⟨m,hm⟩=>[(0,Dh mv),(1,Ay dist),(2,Ay at'),(3,eI .i64 k),(4,eI .i64 d),(11,.o (.arr 0 1 0 ((at'.take m).foldl (fun acc x=>((mv.getD x.toNat []).getD k []).foldl (Hd dist d) acc) []).length)),(12,eI .i64 m)]) (fun ⟨m,hm⟩=>[(0,.cells 3 1 (((at'.take m).foldl (fun acc x=>((mv.getD x.toNat []).getD k []).foldl (Hd dist d) acc) []).map AQ))]) 1 (fun ⟨m,hm⟩=>at'.length - m) (⟨0,by omega⟩) [0] (Fq hΓ rfl rfl) (by (simp[cX,zC,hΓ])) ?_;rintro⟨m,hm⟩;(try dsimp only)
 have hacc1:=hacc m
 have hacc2:=fun x=>LX (l:=at') (k:=m) (x:=x) (f:=fun acc x=>((mv.getD x.toNat []).getD k []).foldl (Hd dist d) acc) (b:=[])
 generalize hA1:(at'.take m).foldl (fun acc x=>((mv.getD x.toNat []).getD k []).foldl (Hd dist d) acc) []=acc at *
 (repeat first|refine sN rfl ?_ |refine tM rfl ?_ |refine s2 rfl fun _ _hb=>?_ |refine aU rfl ?_ |refine Aa ?_)
 (refine aC rfl ?_ ?_<;>rintro⟨⟩)
 ·obtain⟨y,hy⟩:=get_some (l:=at') (k:=m) (by (simp only[oZ] at *;omega))
  have hy':=get_map (g:=Bv) hy
  have hyb:=ha y (List.mem_of_getElem? hy)
  obtain⟨my,hmy⟩:=get_some (l:=mv) (k:=y.toNat) (by omega)
  have hmy':(mv.map IF)[y.toNat]? = some (IF my):=by simp [hmy]
  have hkk:=hk y.toNat (by omega)
  have hgy:mv.getD y.toNat []=my:=by simp [List.getD,hmy]
  rw [hgy] at hkk
  obtain⟨r,hr⟩:=get_some (l:=my) (k:=k) hkk
  have hr':=get_map (g:=E8) hr
  have hgr:my.getD k []=r:=by simp [List.getD,hr]
  have hrin:=mem_row hin hyb k
  rw [hgy,hgr] at hrin
  have hstep:=hacc2 y hy
  rw [hgy,hgr] at hstep
  have hBr:=hB0 (r.map Bv) (.l (i:=y.toNat) (j:=0) (r:=IF my) hmy' rfl (.l (i:=k) (j:=0) (r:=E8 r) (by simp [hr]) rfl .refl))
  have hf2:∀j,C9 mv.length ((r.take j).foldl (Hd dist d) acc):=fun j=>hacc1.fold fun x hx=>hrin x (List.mem_of_mem_take hx)
  refine aK ?_
  refine aS (aB ?_)
  (repeat first|refine tM rfl ?_ |(refine s4 rfl ‹_› rfl ?_ ?_;omega) |refine aU rfl ?_ |refine Aa ?_)
  refine aB ?_
  refine Ai.Bm (α:={j:Nat // j≤r.length}) (fun ⟨j,hj⟩=>[(0,Dh mv),(1,Ay dist),(2,Ay at'),(3,eI .i64 k),(4,eI .i64 d),(11,.o (.arr 0 1 0 ((r.take j).foldl (Hd dist d) acc).length)),(12,eI .i64 m),(13,Ay r),(14,eI .i64 j)]) (fun ⟨j,hj⟩=>[(0,.cells 3 1 (((r.take j).foldl (Hd dist d) acc).map AQ))]) 1 (fun ⟨j,hj⟩=>r.length - j) (⟨0,by omega⟩) [0] (Fq hΓ rfl rfl) (by (simp[cX,zC,hΓ])) ?_;rintro⟨j,hj⟩;(try dsimp only)
  have hac:=hf2 j
  have hst2:=fun x=>LX (l:=r) (k:=j) (x:=x) (f:=Hd dist d) (b:=acc)
  generalize hA2:(r.take j).foldl (Hd dist d) acc=ac2 at *
  (repeat first|refine sN rfl ?_ |refine tM rfl ?_ |refine s2 rfl fun _ _hb=>?_ |refine aU rfl ?_ |refine Aa ?_)
  (refine aC rfl ?_ ?_<;>rintro⟨⟩)
  ·obtain⟨x,hx⟩:=get_some (l:=r) (k:=j) (by (simp only[oZ] at *;omega))
   have hx':=get_map (g:=Bv) hx
   have hxb:=hrin x (List.mem_of_getElem? hx)
   obtain⟨z,hz⟩:=get_some (l:=dist) (k:=x.toNat) (by omega)
   have hz':(dist.map Bv)[x.toNat]? = some (Bv z):=by simp [hz]
   have hdz:dist.getD x.toNat 0=z:=by simp [List.getD,hz]
   have hst2:=hst2 x hx
   have hlac:=Kn _ _ hac.1 hac.2
   rw [Sw,hdz] at hst2
   refine aK ?_
   refine aS (aB ?_)
   (repeat' first|(refine sM rfl ?_ ?_;first|exact tI|simp only[oZ] at *;omega) |(refine s4 rfl ‹_› rfl ?_ ?_;omega) |refine s2 rfl fun _ _hb=>?_|(refine Af rfl ?_;refine gA rfl ?_;first| (refine dF (HY rfl rfl ((.cons (.o (.full rfl (by simp [Function.comp_def]) (by simp))) (.cons (.o (.pure rfl)) .nil))) (X3 ac2 x) rfl) rfl ?_;intro _ _hb)) |refine s3 rfl ?_ ?_<;>rintro rfl |refine aU rfl ?_ |refine Aa ?_|(refine aC rfl ?_ ?_<;>rintro⟨⟩)|refine aK ?_|refine aE ?_|refine aB ?_|refine aR ⟨_,rfl,?_⟩)
   all_goals try (rw [if_neg (by grind)] at hst2;refine⟨⟨j+1,by (simp only[oZ] at *;omega)⟩,by dsimp only;((simp only[oZ] at *;omega)),[0],?_⟩;simp[cX,zC,hΓ,hst2];done)
   all_goals rw [if_pos (by grind)] at hst2
   (repeat first|refine tA rfl ?_)
   (refine pW rfl ?_ rfl (by rfl);refine Ax rfl rfl rfl (by first| (simp;done)|(simp;(omega))) rfl (by intro r hr;simp at hr;subst hr;rfl) (by rfl) (Nat.le_of_ble_eq_true rfl) (by simp;omega) ?_)
   (repeat first|(refine sX rfl ?_ ?_;first|exact tI|simp only[oZ] at *;omega) |refine aU rfl ?_ |refine Aa ?_)
   refine⟨⟨j+1,by (simp only[oZ] at *;omega)⟩,by dsimp only;((simp only[oZ] at *;omega)),[1],?_⟩
   simp[cX,zC,hΓ,hst2]
  ·obtain rfl:j=r.length:=by (simp only[oZ] at *;omega)
   refine aE ?_
   rw [List.take_length] at hA2
   subst hA2
   (repeat first|(refine sM rfl ?_ ?_;first|exact tI|omega) |refine aU rfl ?_ |refine Aa ?_)
   refine⟨⟨m+1,by (simp only[oZ] at *;omega)⟩,by dsimp only;((simp only[oZ] at *;omega)),[0],?_⟩
   simp[cX,zC,hΓ,hstep,-List.getD_eq_getElem?_getD]
 ·obtain rfl:m=at'.length:=by (simp only[oZ] at *;omega)
  refine aE ?_
  (repeat first|refine tM rfl ?_ |refine aU rfl ?_ |refine Aa ?_)
  rw [List.take_length] at hA1
  subst hA1
  refine Ai.freeze [0] [(10,Ay (Ew mv dist at' k d))] ⟨⟨_,rfl,.o (.full (by simp) rfl (by simp [Function.comp_def,Ew]) (by simp))⟩,trivial⟩ ?_
  refine aR ⟨_,rfl,rfl⟩
end Go.Am
namespace Go.Am
open Go
structure Gr where
 N:Nat
 succ:Int→Int→List Int
 goal:Int→Bool
 ls:List Int
 s0:Int
structure Lw (g:Gr):Prop where
 s0:0≤g.s0∧g.s0 < g.N
 inn:∀x:Int,0≤x∧x < g.N→∀l∈g.ls,∀y∈g.succ x l,0≤y∧y < g.N
 srt:g.ls.Pairwise (· < ·)
def reach(g:Gr):List Int→Int→Int→Prop
 | [],a,x=>a=x
 | l::w,a,x=>∃y∈g.succ a l,reach g w y x
def over(g:Gr)(w:List Int):Prop:=∀l∈w,l∈g.ls
def UX(g:Gr)(w:List Int):Prop:=∃x,reach g w g.s0 x∧g.goal x=true
def Wl:List Int→List Int→Prop
 | a::u,b::w=>a < b∨a=b∧Wl u w
 | _,_=>False
def slt(u w:List Int):Prop:=u.length < w.length∨u.length=w.length∧Wl u w
def Ed(g:Gr):Option (List Int)→Prop
 | some w=>over g w∧UX g w∧∀u,over g u→UX g u→¬slt u w
 | none=>∀u,over g u→¬UX g u
theorem IP{g:Gr}:∀ {w:List Int} {l a x:Int},reach g (w++[l]) a x↔∃y,reach g w a y∧x∈g.succ y l
 | [],l,a,x=>by simp [reach]
 | m::w,l,a,x=>by
  simp only [List.cons_append,reach,IP]
  constructor
  ·rintro⟨y,hy,z,hz,hx⟩;exact⟨z,⟨y,hy,hz⟩,hx⟩
  ·rintro⟨z,⟨y,hy,hz⟩,hx⟩;exact⟨y,hy,z,hz,hx⟩
theorem Fg{g:Gr}(hg:Lw g):∀ {w:List Int} {a x:Int},over g w→(0≤a∧a < g.N)→reach g w a x→0≤x∧x < g.N
 | [],a,x,_,ha,h=>by have h:a=x:=h;subst h;exact ha
 | l::w,a,x,ho,ha,h=>by
  obtain⟨y,hy,h⟩:=h
  exact Fg hg (fun m hm=>ho m (by simp [hm])) (hg.inn a ha l (ho l (by simp)) y hy) h
theorem Om{g:Gr}{w:List Int}{l:Int}:over g (w++[l])↔over g w∧l∈g.ls:=by
 unfold over;simp only [List.mem_append,List.mem_singleton]
 constructor
 ·intro h;exact⟨fun m hm=>h m (.inl hm),h l (.inr rfl)⟩
 ·rintro⟨h1,h2⟩ m (hm|rfl);exact h1 m hm;exact h2
theorem Qi:∀ {u w:List Int} {m l:Int},u.length=w.length→(Wl (u++[m]) (w++[l])↔Wl u w∨u=w∧m < l)
 | [],[],m,l,_=>by simp [Wl]
 | [],b::w,m,l,h=>by simp at h
 | a::u,[],m,l,h=>by simp at h
 | a :: u,b::w,m,l,h=>by
  simp only [List.cons_append,Wl,Qi (u:=u) (w:=w) (by simpa using h),List.cons.injEq]
  constructor
  ·rintro(h|⟨h1,h2|⟨h2,h3⟩⟩)
   ·exact .inl (.inl h)
   ·exact .inl (.inr ⟨h1,h2⟩)
   ·exact .inr ⟨⟨h1,h2⟩,h3⟩
  ·rintro((h|⟨h1,h2⟩)|⟨⟨h1,h2⟩,h3⟩)
   ·exact .inl h
   ·exact .inr ⟨h1,.inl h2⟩
   ·exact .inr ⟨h1,.inr ⟨h2,h3⟩⟩
theorem SZ:∀ {u w:List Int},u.length=w.length→Wl u w∨u=w∨Wl w u
 | [],[],_=>.inr (.inl rfl)
 | [],b::w,h=>by simp at h
 | a::u,[],h=>by simp at h
 | a :: u,b::w,h=>by
  simp only [Wl,List.cons.injEq]
  have h1:=SZ (u:=u) (w:=w) (by simpa using h)
  rcases Int.lt_trichotomy a b with h2|h2|h2
  ·exact .inl (.inl h2)
  ·rcases h1 with h1|h1|h1
   ·exact .inl (.inr ⟨h2,h1⟩)
   ·exact .inr (.inl ⟨h2,h1⟩)
   ·exact .inr (.inr (.inr ⟨h2.symm,h1⟩))
  ·exact .inr (.inr (.inl h2))
theorem YD{u w:List Int}(h1:¬slt u w)(h2:¬slt w u):u=w:=by
 unfold slt at h1 h2
 have hl:u.length=w.length:=by omega
 rcases SZ hl with h|h|h
 ·exact absurd (.inr ⟨hl,h⟩) h1
 ·exact h
 ·exact absurd (.inr ⟨hl.symm,h⟩) h2
theorem Ed.unique{g:Gr}{r s:Option (List Int)}(hr:Ed g r)(hs:Ed g s):r=s:=by
 cases r with
 | none=>
  cases s with
  | none=>rfl
  | some w=>exact absurd hs.2.1 (hr w hs.1)
 | some v=>
  cases s with
  | none=>exact absurd hr.2.1 (hs v hr.1)
  | some w=>rw [YD (hs.2.2 v hr.1 hr.2.1) (hr.2.2 w hs.1 hs.2.1)]
theorem Qh:∀(l:List Int) (Q:Int→Prop),(∃x∈l,Q x)→∃x∈l,Q x∧∀y∈l,Q y→¬y < x
 | [],Q,h=>by obtain⟨x,hx,_⟩:=h;cases hx
 | a :: l,Q,h=>by
  by_cases ht:∃x∈l,Q x
  ·obtain⟨x,hx,hq,hm⟩:=Qh l Q ht
   by_cases ha:Q a∧a < x
   ·refine⟨a,by simp,ha.1,fun y hy hqy=>?_⟩
    rcases List.mem_cons.1 hy with rfl|hy
    ·omega
    ·have:=hm y hy hqy;omega
   ·refine⟨x,by simp [hx],hq,fun y hy hqy=>?_⟩
    rcases List.mem_cons.1 hy with rfl|hy
    ·exact fun hlt=>ha ⟨hqy,hlt⟩
    ·exact hm y hy hqy
  ·obtain⟨x,hx,hq⟩:=h
   rcases List.mem_cons.1 hx with rfl|hx
   ·refine⟨x,by simp,hq,fun y hy hqy=>?_⟩
    rcases List.mem_cons.1 hy with rfl|hy
    ·omega
    ·exact absurd ⟨y,hy,hqy⟩ ht
   ·exact absurd ⟨x,hx,hq⟩ ht
theorem Ml(ls:List Int):∀(n:Nat) (Q:List Int→Prop),(∃u:List Int,u.length=n∧(∀l∈u,l∈ls)∧Q u)→∃u:List Int,u.length=n∧(∀l∈u,l∈ls)∧Q u∧∀v:List Int,v.length=n→(∀l∈v,l∈ls)→Q v→¬Wl v u
 | 0,Q,⟨u,h1,h2,h3⟩=>by
  have:u=[]:=List.length_eq_zero_iff.1 h1
  subst this
  exact⟨[],rfl,h2,h3,fun v hv _ _=>by have:v=[]:=List.length_eq_zero_iff.1 hv;subst this;exact fun h=>h⟩
 | n + 1,Q,⟨u,h1,h2,h3⟩=>by
  cases u with
  | nil=>simp at h1
  | cons a u=>
   obtain⟨x,hx,⟨u1,h4,h5,h6⟩,hm⟩:=Qh ls (fun x=>∃u:List Int,u.length=n∧(∀l∈u,l∈ls)∧Q (x::u)) ⟨a,h2 a (by simp),u,by simpa using h1,fun l hl=>h2 l (by simp [hl]),h3⟩
   obtain⟨u2,h7,h8,h9,h10⟩:=Ml ls n (fun u=>Q (x::u)) ⟨u1,h4,h5,h6⟩
   refine⟨x::u2,by simp [h7],fun l hl=>by rcases List.mem_cons.1 hl with rfl|hl;exact hx;exact h8 l hl,h9,fun v hv hvl hq=>?_⟩
   cases v with
   | nil=>simp at hv
   | cons b v=>
    have hb:=hm b (hvl b (by simp)) ⟨v,by simpa using hv,fun l hl=>hvl l (by simp [hl]),hq⟩
    rintro(h|⟨h,h'⟩)
    ·exact hb h
    ·subst h;exact h10 v (by simpa using hv) (fun l hl=>hvl l (by simp [hl])) hq h'
theorem LU(g:Gr):∃r,Ed g r:=by
 by_cases h:∃u,over g u∧UX g u
 ·have key : ∀n,(∃u,u.length≤n∧over g u∧UX g u)→∃m,(∃u,u.length=m∧over g u∧UX g u)∧∀u,over g u→UX g u→m≤u.length:=by
   intro n
   induction n with
   | zero=>
    rintro⟨u,h1,h2,h3⟩
    exact⟨0,⟨u,by omega,h2,h3⟩,fun _ _ _=>Nat.zero_le _⟩
   | succ n ih=>
    rintro⟨u,h1,h2,h3⟩
    by_cases hx:∃u,u.length≤n∧over g u∧UX g u
    ·exact ih hx
    ·refine⟨n+1,⟨u,?_,h2,h3⟩,fun v hv hv'=>?_⟩
     ·have:¬u.length≤n:=fun h=>hx ⟨u,h,h2,h3⟩
      omega
     ·have:¬v.length≤n:=fun h=>hx ⟨v,h,hv,hv'⟩
      omega
  obtain⟨u,hu⟩:=h
  obtain⟨m,⟨v,h1,h2,h3⟩,hm⟩:=key u.length ⟨u,Nat.le_refl _,hu⟩
  obtain⟨w,h4,h5,h6,h7⟩:=Ml g.ls m (UX g) ⟨v,h1,h2,h3⟩
  refine⟨some w,h5,h6,fun u hu hh=>?_⟩
  rintro(h|⟨h,h'⟩)
  ·have:=hm u hu hh;omega
  ·exact h7 u (by omega) hu hh h'
 ·exact⟨none,fun u hu hh=>h ⟨u,hu,hh⟩⟩
structure IY (g:Gr) (dx:Int→Int):Prop where
 zero:∀x:Int,0≤x∧x < g.N→(dx x=0↔g.goal x=true)
 step:∀x:Int,0≤x∧x < g.N→0 < dx x→∃l∈g.ls,∃j∈g.succ x l,dx j=dx x - 1
 close:∀x:Int,0≤x∧x < g.N→∀l∈g.ls,∀j∈g.succ x l,0≤dx j→0≤dx x∧dx x≤dx j+1
theorem IY.XT{g:Gr}(hg:Lw g){dx:Int→Int}(h:IY g dx):∀ {u:List Int} {a x:Int},over g u→(0≤a∧a < g.N)→reach g u a x→0≤dx x→0≤dx a∧dx a≤u.length+dx x
 | [],a,x,_,_,hr,h0=>by have hr:a=x:=hr;subst hr;simp;exact h0
 | l::u,a,x,ho,ha,⟨y,hy,hr⟩,h0=>by
  have hl:=ho l (by simp)
  have hyin:=hg.inn a ha l hl y hy
  have h1:=IY.XT hg h (fun m hm=>ho m (by simp [hm])) hyin hr h0
  have h2:=h.close a ha l hl y hy h1.1
  simp only [List.length_cons];push_cast;omega
structure K1 (g:Gr) (dx:Int→Int) (w:List Int) (at':List Int) (d:Int):Prop where
 ov:over g w
 ne:at'≠[]
 acc:C9 g.N at'
 mem:∀x,x∈at'↔reach g w g.s0 x∧dx x=d
 len:w.length+d=dx g.s0
 d0:0≤d
 min:∀u,over g u→u.length=w.length→Wl u w→∀x,reach g u g.s0 x→dx x≠d
theorem K1.init{g:Gr}(hg:Lw g){dx:Int→Int}(h0:0≤dx g.s0):K1 g dx [] [g.s0] (dx g.s0):=
 ⟨fun l hl=>(by cases hl),by simp,⟨by simp,fun x hx=>by simp at hx;subst hx;exact hg.s0⟩,fun x=>by simp [reach];constructor<;>intro h<;>simp_all,by simp,h0,fun u _ hu hl=>by
  have:u=[]:=List.length_eq_zero_iff.1 hu
  subst this;exact hl.elim⟩
theorem K1.dP{g:Gr}(hg:Lw g){dx:Int→Int}(hd:IY g dx){w at':List Int}(h:K1 g dx w at' 0):Ed g (some w):=by
 refine⟨h.ov,?_,fun u hu hh=>?_⟩
 ·cases at' with
  | nil=>exact absurd rfl h.ne
  | cons x l=>
   have h1:=(h.mem x).1 (by simp)
   exact⟨x,h1.1,(hd.zero x (h.acc.2 x (by simp))).1 h1.2⟩
 ·obtain⟨x,hx,hgx⟩:=hh
  have hz:=(hd.zero x (Fg hg hu hg.s0 hx)).2 hgx
  have h1:=hd.XT hg hu hg.s0 hx (by omega)
  have h2:=h.len
  rintro(h3|⟨h3,h4⟩)
  ·omega
  ·exact h.min u hu h3 h4 x hx hz
theorem Vu{g:Gr}(hg:Lw g){dx:Int→Int}(hd:IY g dx)(h:dx g.s0 < 0):Ed g none:=by
 rintro u hu ⟨x,hx,hgx⟩
 have hz:=(hd.zero x (Fg hg hu hg.s0 hx)).2 hgx
 have h1:=hd.XT hg hu hg.s0 hx (by omega)
 omega
theorem K1.prog{g:Gr}{dx:Int→Int}(hd:IY g dx){w at':List Int}{d:Int}(h:K1 g dx w at' d)(hp:0 < d):∃l∈g.ls,∃x∈at',∃y∈g.succ x l,dx y=d - 1:=by
 cases at' with
 | nil=>exact absurd rfl h.ne
 | cons x l=>
  have h1:=(h.mem x).1 (by simp)
  obtain⟨l,hl,j,hj,hdj⟩:=hd.step x (h.acc.2 x (by simp)) (by omega)
  exact⟨l,hl,x,by simp,j,hj,by omega⟩
theorem K1.next{g:Gr}(hg:Lw g){dx:Int→Int}(hd:IY g dx){w at':List Int}{d:Int}(h:K1 g dx w at' d)(hp:0 < d){l:Int}(hl:l∈g.ls){at2:List Int}(ha:C9 g.N at2)(hne:at2≠[])
 (hm:∀y,y∈at2↔∃x∈at',y∈g.succ x l∧dx y=d - 1) (hless:∀m∈g.ls,m < l→¬∃x∈at',∃y∈g.succ x m,dx y=d - 1):K1 g dx (w++[l]) at2 (d - 1):=by
 have hlen:=h.len
 have key:∀u m x y,over g u→u.length=w.length→m∈g.ls→reach g u g.s0 x→y∈g.succ x m→dx y=d - 1→dx x=d:=by
  intro u m x y hu hul hm hx hy hdy
  have hxin:=Fg hg hu hg.s0 hx
  have h1:=hd.close x hxin m hm y hy (by omega)
  have h2:=hd.XT hg hu hg.s0 hx (by omega)
  omega
 refine⟨Om.2 ⟨h.ov,hl⟩,hne,ha,fun y=>?_,by simp;omega,by omega,fun u hu hul hlt y hy hdy=>?_⟩
 ·rw [hm,IP]
  constructor
  ·rintro⟨x,hx,hy,hdy⟩
   exact⟨⟨x,((h.mem x).1 hx).1,hy⟩,hdy⟩
  ·rintro⟨⟨x,hx,hy⟩,hdy⟩
   exact⟨x,(h.mem x).2 ⟨hx,key w l x y h.ov rfl hl hx hy hdy⟩,hy,hdy⟩
 ·have hu0:u≠[]:=fun e=>by subst e;simp at hul
  obtain⟨v,m,rfl⟩:∃v m,u=v++[m]:=⟨u.dropLast,u.getLast hu0,(List.dropLast_concat_getLast hu0).symm⟩
  have hvl:v.length=w.length:=by simpa using hul
  obtain⟨hv,hmm⟩:=Om.1 hu
  obtain⟨x,hx,hxy⟩:=IP.1 hy
  have hdx:=key v m x y hv hvl hmm hx hxy hdy
  rcases(Qi hvl).1 hlt with h1|⟨rfl,h1⟩
  ·exact h.min v hv hvl h1 x hx hdx
  ·exact hless m hmm h1 ⟨x,(h.mem x).2 ⟨hx,hdx⟩,y,hxy,hdy⟩
def JO(w:List Int):List UInt8:=w.map fun l=>UInt8.ofNat (97+l.toNat)
def ay(r:Option (List Int)):E:=match r with
 | some w=>.t [(false,[.d (tD (JO w))]),(false,[.d (bD true)])]
 | none=>.t [(false,[.d (tD [])]),(false,[.d (bD false)])]
end Go.Am
namespace Go.Am
open Go Go.Proofs
set_option maxHeartbeats 1000000
attribute [local irreducible] A1 BZ Lex Bj Ai Spec
variable {TB:Bh}
def FP(n:Net):Gr:={ N:=(AL (Aj n)).toNat,succ:=fun x l=>Fc n (Aj n) (BU (Aj n) x) l,goal:=fun x=>CA n (BU (Aj n) x) (EE n x.toNat),ls:=Ac n.ls,s0:=GB (Aj n) n.st 0 }
theorem DW(s:Int)(k:Nat):(AG s k).Pairwise (· < ·):=by
 unfold AG
 rw [List.pairwise_map]
 refine(List.pairwise_lt_range.filter _).imp fun {a b} h=>?_
 show ((a:Nat):Int) < ((b:Nat):Int)
 omega
theorem Jh{n:Net}(hn:Ee n)(x:Int):Fits (Aj n) (BU (Aj n) x):=J0 (fun z hz=>by have:=Gq hn z hz;omega) x
theorem Qr{n:Net}(hn:Ee n){x l:Int}(hl:l∈Ac n.ls){y:Int}(hy:y∈Fc n (Aj n) (BU (Aj n) x) l):0≤y∧y < AL (Aj n):=by
 have h1:=A2 hl
 have h2:=Td (Je hn (Jh hn x) (l:=l) (by omega) (by omega)) [0] 1 (by simp) (by omega) (by simp)
 have:=h2.1 y hy
 omega
theorem VU{n:Net}(hn:Ee n)(hst:Fits (Aj n) n.st):Lw (FP n):=by
 have hp:=Lq hn
 have hz:=hst.enc 0 (by omega)
 refine⟨?_,fun x _ l hl y hy=>?_,DW _ _⟩
 ·show 0≤GB _ _ _∧GB _ _ _ < ((AL (Aj n)).toNat:Int)
  omega
 ·show 0≤y∧y < ((AL (Aj n)).toNat:Int)
  have:=Qr hn hl hy
  omega
theorem Jt{n:Net}(hn:Ee n):Lx (CZ n (FP n).N):=by
 intro x hx r hr j hj
 have hx:x < (FP n).N:=by simpa [CZ] using hx
 have h1:(CZ n (FP n).N).getD x []=EE n x:=by rw [List.getD,IN hx];rfl
 rw [h1] at hr
 obtain⟨l,hl,rfl⟩:=List.mem_map.1 hr
 have h2:=Qr hn hl hj
 have h3:(CZ n (FP n).N).length=(AL (Aj n)).toNat:=by simp [CZ,FP]
 rw [h3];omega
theorem Fa{n:Net}{x:Int}(hx:0≤x∧x < (FP n).N):(CZ n (FP n).N).getD x.toNat []=(Ac n.ls).map fun l=>(FP n).succ x l:=by
 rw [List.getD,IN (by omega)]
 have:((x.toNat:Nat):Int)=x:=by omega
 simp [EE,this,FP]
theorem VM{n:Net}{dist:List Int}(h:OD (CZ n (FP n).N) (fun i=>CA n (BU (Aj n) i) (EE n i)) dist):IY (FP n) (fun x=>dist.getD x.toNat 0):=by
 have hN:(CZ n (FP n).N).length=(FP n).N:=by simp [CZ]
 refine⟨fun x hx=>?_,fun x hx hp=>?_,fun x hx l hl j hj hj0=>?_⟩
 ·have h1:=h.zero x.toNat (by omega)
  have e:((x.toNat:Nat):Int)=x:=by omega
  rw [e] at h1
  exact h1
 ·obtain⟨r,hr,j,hj,hd⟩:=h.step x.toNat (by omega) hp
  rw [Fa hx] at hr
  obtain⟨l,hl,rfl⟩:=List.mem_map.1 hr
  exact⟨l,hl,j,hj,hd⟩
 ·exact h.close x.toNat (by omega) _ (by rw [Fa hx];exact List.mem_map.2 ⟨l,hl,rfl⟩) j hj hj0
theorem Ql{dist:List Int}{d y:Int}:∀ {l acc:List Int},y∈l.foldl (Hd dist d) acc↔y∈acc∨y∈l∧dist.getD y.toNat 0=d
 | [],acc=>by simp
 | j::l,acc=>by
  rw [List.foldl_cons,Ql,Sw]
  split<;>grind
theorem Wp{mv:List (List (List Int))}{dist:List Int}{k:Nat}{d y:Int}{l:List Int}:y∈Ew mv dist l k d↔∃x∈l,y∈(mv.getD x.toNat []).getD k []∧dist.getD y.toNat 0=d:=by
 have key:∀(l acc:List Int),y∈l.foldl (fun acc x=>((mv.getD x.toNat []).getD k []).foldl (Hd dist d) acc) acc↔y∈acc∨∃x∈l,y∈(mv.getD x.toNat []).getD k []∧dist.getD y.toNat 0=d:=by
  intro l
  induction l with
  | nil=>intro acc;simp
  | cons a l ih=>
   intro acc
   rw [List.foldl_cons,ih,Ql]
   grind
 unfold Ew
 rw [key];simp
theorem VH{n:Net}{dist l:List Int}{k:Nat}{m:Int}(hm:(Ac n.ls)[k]? = some m)(hl:∀x∈l,0≤x∧x < (FP n).N){d y:Int} :
 y∈Ew (CZ n (FP n).N) dist l k d↔∃x∈l,y∈(FP n).succ x m∧dist.getD y.toNat 0=d:=by
 rw [Wp]
 constructor
 ·rintro⟨x,hx,hy,hd⟩
  rw [Fa (hl x hx)] at hy
  exact⟨x,hx,by simpa [List.getD,hm] using hy,hd⟩
 ·rintro⟨x,hx,hy,hd⟩
  exact⟨x,hx,by rw [Fa (hl x hx)];simpa [List.getD,hm] using hy,hd⟩
theorem MC:∀ {zs:List Int} {k:Nat} {z:Int},zs[k]? = some z→AL (zs.take (k+1))=AL (zs.take k)*z
 | [],k,z,h=>by simp at h
 | a::zs,0,z,h=>by simp at h;subst h;simp [AL]
 | a::zs,k+1,z,h=>by
  simp only [List.take_succ_cons,AL]
  rw [MC (by simpa using h),Int.mul_assoc]
def dl(f:Nat→Int)(N i:Nat):List Int:=(List.range i).map f++List.replicate (N - i) 0
theorem VN{f:Nat→Int}{N i:Nat}(h:i≤N):(dl f N i).length=N:=by simp [dl];omega
theorem Zf{f:Nat→Int}{N i:Nat}(h:i < N):(dl f N i)[i]? = some 0:=by
 unfold dl
 rw [List.getElem?_append_right (by simp)]
 have:0 < N - i:=by omega
 simp [this]
theorem Zg{f:Nat→Int}{N i:Nat}(h:i < N):(dl f N i).set i (f i)=dl f N (i+1):=by
 unfold dl
 rw [List.set_append_right _ _ (by simp)]
 have:N - i=(N - (i+1))+1:=by omega
 rw [this,List.range_succ,List.map_append]
 simp [List.replicate_succ]
theorem Zq{l:List Int}(h:l.Pairwise (· < ·)){i j:Nat}{a b:Int}(hi:l[i]? = some a)(hj:l[j]? = some b)(hab:a < b):i < j:=by
 obtain⟨h1,rfl⟩:=List.getElem?_eq_some_iff.1 hi
 obtain⟨h2,rfl⟩:=List.getElem?_eq_some_iff.1 hj
 rw [List.pairwise_iff_getElem] at h
 rcases Nat.lt_trichotomy i j with h3|h3|h3
 ·exact h3
 ·subst h3;omega
 ·have:=h j i h2 h1 h3;omega
theorem RC{n:Net}(hn:Ee n)(hk:YY n)(hst:Fits (Aj n) n.st){r:Option (List Int)}(hr:Ed (FP n) r):Pure Tryz.prog TB 131 [J5 n] (ay r):=by
 have hpr:=Lq hn
 have hg:=VU hn hst
 have hnp:=hn.np
 have hna:=hn.na
 have hzl:=MR hn
 have hll:(Ac n.ls).length≤6:=AR n.ls 6
 have hpos:=Gq hn
 have hsz:=RG (TB:=TB) n (by omega)
 have hmv:=RE (TB:=TB) hn (FP n).N (by show (AL (Aj n)).toNat≤1048576;omega)
 have hpN:AL (Aj n)=(((FP n).N:Nat):Int):=by show _=(((AL (Aj n)).toNat:Nat):Int);omega
 have hNle:(FP n).N≤1048576:=by omega
 have hml:(CZ n (FP n).N).length=(FP n).N:=by simp [CZ]
 have hdec:∀(x:Nat),x < (FP n).N→Pure Tryz.prog TB 167 [Ay (Aj n),eI .i64 x] (Ay (BU (Aj n) x)):=fun x hx=>
  KN _ _ (by omega) (by omega) (fun z hz=>by have:=hpos z hz;omega) (by omega)
 have hfnd:∀(x:Nat),Pure Tryz.prog TB 166 [J5 n,Ay (BU (Aj n) x),EJ (EE n x)] (eB (CA n (BU (Aj n) x) (EE n x))):=fun x=>RD hn hk (Jh hn _) _
 have hencc:=Qe (TB:=TB) (Aj n) n.st hst (by omega)
 have hlet:=BM (TB:=TB) n.ls
 have hdist:=fun dist h1 h2=>Uj (TB:=TB) (CZ n (FP n).N) (fun i=>CA n (BU (Aj n) i) (EE n i)) dist (Jt hn) (by omega) h1 h2
 refine eN Tryz.func131 rfl (by kernel_rfl) rfl ?_;intro Γ hΓ
 (repeat first|refine tA rfl ?_ |refine sP rfl (hsz) rfl ?_ |refine aU rfl ?_ |refine Aa ?_)
 refine aB ?_
 refine Ai.Bm (α:={k:Nat // k≤(Aj n).length}) (fun ⟨k,hkl⟩=>[(1,.o (.ip (K7 n))),(4,Ay (Aj n)),(5,eI .i64 (AL ((Aj n).take k))),(6,eI .i64 k)]) (fun ⟨k,hkl⟩=>[]) 0 (fun ⟨k,hkl⟩=>(Aj n).length - k) (⟨0,by omega⟩) [] (Fq hΓ rfl rfl) (by (simp[cX,zC,hΓ,AL])) ?_;rintro⟨k,hkl⟩;(try dsimp only)
 (repeat first|refine sN rfl ?_ |refine tA rfl ?_ |refine s2 rfl fun _ _hb=>?_ |refine aU rfl ?_ |refine Aa ?_)
 (refine aC rfl ?_ ?_<;>rintro⟨⟩)
 ·obtain⟨z,hz⟩:=get_some (l:=Aj n) (k:=k) (by (simp only[oZ] at *;omega))
  have hz':=get_map (g:=Bv) hz
  have h1:=MC hz
  have h2:=MB ((Aj n).take (k+1)) fun z hz=>hpos z (List.mem_of_mem_take hz)
  have h3:=(hst.take (k+1)).2
  rw [h1] at h2 h3
  refine aK ?_
  refine aS (aB ?_)
  (repeat first|(refine sA rfl ?_ ?_;first|exact tI|omega) |(refine s4 rfl ‹_› rfl ?_ ?_;omega) |refine aU rfl ?_ |refine Aa ?_)
  refine⟨⟨k+1,by (simp only[oZ] at *;omega)⟩,by dsimp only;((simp only[oZ] at *;omega)),[],?_⟩
  simp[cX,zC,hΓ,h1]
 obtain rfl:k=(Aj n).length:=by (simp only[oZ] at *;omega)
 refine aE ?_
 rw [List.take_length,hpN]
 generalize hNN:(FP n).N=N at *
 generalize hmm:CZ n N=mv at *
 (repeat first|refine tM rfl ?_ |refine sP rfl (hmv) rfl ?_ |refine aU rfl ?_ |refine Aa ?_)
 (refine pW rfl ?_ rfl (by rfl);refine Km rfl rfl (by rfl) (by rfl) (Nat.le_of_ble_eq_true rfl) (by omega) (by omega) (by omega) ?_)
 (repeat first|refine tM rfl ?_ |refine aU rfl ?_ |refine Aa ?_)
 refine aB ?_
 refine Ai.Bm (α:={i:Nat // i≤N}) (fun ⟨i,hi⟩=>[(1,.o (.ip (K7 n))),(4,Ay (Aj n)),(5,eI .i64 N),(7,Dh mv),(8,.o (.arr 0 1 0 N)),(9,eI .i64 i)]) (fun ⟨i,hi⟩=>[(0,.cells 3 1 ((dl (fun j=>if CA n (BU (Aj n) (j:Nat)) (EE n j) then 0 else -1) N i).map AQ))]) 1 (fun ⟨i,hi⟩=>N - i) (⟨0,by omega⟩) [0] (Fq hΓ rfl rfl) (by (simp[cX,zC,hΓ,dl])) ?_;rintro⟨i,hi⟩;(try dsimp only)
 (repeat first|refine tM rfl ?_ |refine s2 rfl fun _ _hb=>?_ |refine aU rfl ?_ |refine Aa ?_)
 (refine aC rfl ?_ ?_<;>rintro⟨⟩)
 ·have hiN:i < N:=by (simp only[oZ] at *;omega)
  have hd0:=Zf (f:=fun j=>if CA n (BU (Aj n) (j:Nat)) (EE n j) then 0 else -1) hiN
  have hds:=Zg (f:=fun j=>if CA n (BU (Aj n) (j:Nat)) (EE n j) then 0 else -1) hiN
  have hdl:=VN (f:=fun j=>if CA n (BU (Aj n) (j:Nat)) (EE n j) then 0 else -1) (Nat.le_of_lt hiN)
  generalize dl (fun j=>if CA n (BU (Aj n) (j:Nat)) (EE n j) then 0 else -1) N i=cur at *
  have hd0':=Ma (g:=AQ) hd0
  have hd1:(cur.set i (-1))[i]? = some (-1):=by simp [hdl,hiN]
  have hd1':=Ma (g:=AQ) hd1
  rw [←Hz (x:=0)] at hd1'
  have hmi:(mv.map IF)[((i:Nat):Int).toNat]? = some (IF (EE n i)):=by rw [←hmm];exact get_map (IN hiN)
  refine aK ?_
  refine aS (aB ?_)
  (repeat' first|((first|refine sM rfl ?_ ?_|refine s4 rfl ‹_› rfl ?_ ?_);first|exact tI|omega) |refine sP rfl (hdec i hiN) rfl ?_|(refine sC rfl (hfnd i) ?_;intro _ _hb) |refine aU rfl ?_ |refine Aa ?_ |refine rE (by kernel_rfl) ?_|(refine aC rfl ?_ ?_<;>rintro⟨⟩)|refine aK ?_|refine aE ?_|refine aB ?_|refine aR ⟨_,rfl,?_⟩)
  ·rw [if_pos (by assumption)] at hds
   refine⟨⟨i+1,by omega⟩,by dsimp only;(omega),[0],?_⟩
   rw [Hz,Hz,List.set_set]
   simp[cX,zC,hΓ,hds]
  ·rw [if_neg (by grind)] at hds
   refine⟨⟨i+1,by omega⟩,by dsimp only;(omega),[0],?_⟩
   rw [Hz]
   simp[cX,zC,hΓ,hds]
 obtain rfl:i=N:=by (simp only[oZ] at *;omega)
 refine aE ?_
 (repeat first|refine tM rfl ?_ |refine aU rfl ?_)
 have hdlg:∀x,x < i→(dl (fun j=>if CA n (BU (Aj n) (j:Nat)) (EE n j) then 0 else -1) i i).getD x 0=if CA n (BU (Aj n) (x:Nat)) (EE n x) then 0 else -1:=by
  intro x hx;simp [dl,List.getD,hx]
 have hdll:(dl (fun j=>if CA n (BU (Aj n) (j:Nat)) (EE n j) then 0 else -1) i i).length=i:=VN (Nat.le_refl _)
 generalize dl (fun j=>if CA n (BU (Aj n) (j:Nat)) (EE n j) then 0 else -1) i i=d0 at *
 have hdist:=hdist d0 (by omega) (by rw [hml];exact hdlg)
 rw [hml] at hdist
 (refine pW rfl ?_ rfl (by rfl);refine Ae [0] rfl rfl hdist ⟨rfl,by simp,by simp⟩ rfl (by simp[cX,zC,hΓ]) ?_;rintro x0 σ1 nx1 ⟨rfl,rfl,dist,hD,rfl⟩ _)
 refine Aa ?_
 refine aS ?_
 refine Ai.freeze [0] [(1,.o (.ip (K7 n))),(4,Ay (Aj n)),(7,Dh mv),(8,Ay dist)] ⟨⟨_,rfl,.Bb⟩,⟨_,rfl,.Bb⟩,⟨_,rfl,.Bb⟩,⟨.o (.arr 0 1 0 i),rfl,.o (.full (T:=3) (rows:=dist.map AQ) (by simp) (by simp[cX,zC,hΓ,Ab.A4,CL,HW]) (by simp [Function.comp_def]) (by simp [hD.len,hml]))⟩,trivial⟩ ?_
 have hG:IY (FP n) (fun x=>dist.getD x.toNat 0):=VM (by rw [hNN,hmm];exact hD)
 have hdl:=hD.len
 have hin:=Jt hn
 rw [hNN,hmm] at hin
 have hrow:∀x:Int,0≤x∧x < i→mv.getD x.toNat []=(Ac n.ls).map fun l=>(FP n).succ x l:=by
  intro x hx;rw [←hmm,←hNN];exact Fa (by rw [hNN];exact hx)
 have hrl:∀x,x < mv.length→(mv.getD x []).length=(Ac n.ls).length:=by
  intro x hx
  have:=hrow (x:Nat) (by omega)
  rw [Int.toNat_natCast] at this
  rw [this];simp
 have hcl:∀(at':List Int) (k:Nat) (d:Int),C9 i at'→k < (Ac n.ls).length→Pure Tryz.prog TB 170 [Dh mv,Ay dist,Ay at',eI .i64 k,eI .i64 d] (Ay (Ew mv dist at' k d)):=fun at' k d ha hk=>
  Qd mv dist at' k d hin (by omega) hdl (by rw [hml];exact ha.2) (by have:=Kn _ _ ha.1 ha.2;omega) (fun x hx=>by rw [hrl x hx];exact hk)
 have hcm:∀(at':List Int) (k:Nat) (d:Int) (m:Int),(Ac n.ls)[k]? = some m→C9 i at'→∀y,y∈Ew mv dist at' k d↔∃x∈at',y∈(FP n).succ x m∧dist.getD y.toNat 0=d:=by
  intro at' k d m hm ha y
  rw [←hmm,←hNN]
  exact VH hm (by rw [hNN];exact ha.2)
 have hac:∀(at':List Int) (k:Nat) (d:Int),C9 i at'→C9 i (Ew mv dist at' k d):=by
  intro at' k d ha
  have:=C9.Y9 hin (dist:=dist) (d:=d) (k:=k) (l:=at') .nil (by rw [hml];exact ha.2)
  rwa [hml] at this
 obtain⟨s,hs⟩:∃s,GB (Aj n) n.st 0=s:=⟨_,rfl⟩
 have hgs:(FP n).s0=s:=hs
 have hsin:=hg.s0
 rw [hgs,hNN] at hsin
 rw [hs] at hencc
 obtain⟨dd,hdd⟩:=get_some (l:=dist) (k:=s.toNat) (by omega)
 have hdd':(dist.map Bv)[s.toNat]? = some (Bv dd):=by simp [hdd]
 have hddg:dist.getD (FP n).s0.toNat 0=dd:=by rw [hgs];simp [List.getD,hdd]
 have hs0':([s].map Bv)[(0:Int).toNat]? = some (Bv s):=rfl
 have hbd:=hD.bound s.toNat (by omega)
 have hddb:dist.getD s.toNat 0=dd:=by simp [List.getD,hdd]
 rw [hddb] at hbd
 (repeat first|refine tA rfl ?_ |(refine s4 rfl ‹_› rfl ?_ ?_;omega) |refine sP rfl (hencc) rfl ?_|refine sP rfl (hlet) rfl ?_ |refine aU rfl ?_ |refine Aa ?_)
 by_cases hneg:dd < 0
 ·have hans:=Vu hg hG (by show dist.getD (FP n).s0.toNat 0 < 0;rw [hddg];exact hneg)
  have hrr:=Ed.unique hr hans
  subst hrr
  refine aB ?_
  refine Ai.Bm (α:=Unit) (fun _=>[(12,eT []),(13,eI .i64 dd)]) (fun _=>[]) 0 (fun _=>0) (()) [] (Fq hΓ rfl rfl) (by (simp[cX,zC,hΓ])) ?_;rintro _;(try dsimp only)
  (repeat first|refine tA rfl ?_ |refine s2 rfl fun _ _hb=>?_ |refine aU rfl ?_ |refine Aa ?_)
  (refine aC rfl ?_ ?_<;>rintro⟨⟩)
  ·exfalso;(simp only[oZ] at *;omega)
  (repeat' first|refine tA rfl ?_ |refine s2 rfl fun _ _hb=>?_ |refine aU rfl ?_ |refine Aa ?_|(refine aC rfl ?_ ?_<;>rintro⟨⟩)|refine aK ?_|refine aE ?_|refine aB ?_|refine aR ⟨_,rfl,?_⟩)
  all_goals first
   | (exfalso;omega;done)
   | (subst _hb;rw [show decide (dd=0)=false from decide_eq_false (by omega)];rfl)
 ·have hW0 := K1.init (dx:=fun x=>dist.getD x.toNat 0) hg (by show 0≤dist.getD (FP n).s0.toNat 0;rw [hddg];omega)
  have hW0:K1 (FP n) (fun x=>dist.getD x.toNat 0) [] [s] dd:=by rw [hgs,hddb] at hW0;exact hW0
  refine aB ?_
  refine Ai.Bm (α:={x:List Int×List Int×Int // K1 (FP n) (fun x=>dist.getD x.toNat 0) x.1 x.2.1 x.2.2}) (fun ⟨⟨w,at',d⟩,hW⟩=>[(7,Dh mv),(8,Ay dist),(10,Ay at'),(11,Ay (Ac n.ls)),(12,eT (JO w)),(13,eI .i64 d)]) (fun ⟨⟨w,at',d⟩,hW⟩=>[]) 0 (fun ⟨⟨w,at',d⟩,hW⟩=>d.toNat) (⟨([],[s],dd),hW0⟩) [] (Fq hΓ rfl rfl) (by (repeat' first|exact tI|rfl|refine And.intro ?_ ?_)) ?_;rintro⟨⟨w,at',d⟩,hW⟩;(try dsimp only)
  simp only at hW
  have hWl:=hW.len
  have hWd:=hW.d0
  have hWa:=hW.acc
  have hWl:(w.length:Int)+d=dd:=by rw [←hddg];exact hWl
  rw [hNN] at hWa
  (repeat first|refine tA rfl ?_ |refine s2 rfl fun _ _hb=>?_ |refine aU rfl ?_ |refine Aa ?_)
  (refine aC rfl ?_ ?_<;>rintro⟨⟩)
  ·have hdp:0 < d:=by (simp only[oZ] at *;omega)
   obtain⟨l0,hl0,hx0⟩:=hW.prog hG hdp
   have hlx:∀l:Int,l∈(FP n).ls→∃k:Nat,(Ac n.ls)[k]? = some l:=fun l hl=>List.getElem?_of_mem hl
   have hkp:∀k:Nat,(∀k',k' < k→Ew mv dist at' k' (d - 1)=[])→k < (Ac n.ls).length:=by
    intro k hk2
    rcases Nat.lt_or_ge k (Ac n.ls).length with h|h
    ·exact h
    ·exfalso
     obtain⟨j,hj⟩:=hlx l0 hl0
     have h1:=hk2 j (by have:=(List.getElem?_eq_some_iff.1 hj).1;omega)
     obtain⟨x,hx,y,hy,hdy⟩:=hx0
     have h2:=(hcm at' j (d - 1) l0 hj hWa y).2 ⟨x,hx,hy,hdy⟩
     rw [h1] at h2;cases h2
   have hk0:=hkp 0 (fun k' h=>by omega)
   refine aK ?_
   refine aS (aB ?_)
   (repeat first|(refine sA rfl ?_ ?_;first|exact tI|omega) |refine sP rfl (hcl at' 0 (d - 1) hWa hk0) rfl ?_ |refine aU rfl ?_ |refine Aa ?_)
   refine aB ?_
   refine Ai.Bm (α:={k:Nat // ∀k',k' < k→Ew mv dist at' k' (d - 1)=[]}) (fun ⟨k,hkk⟩=>[(7,Dh mv),(8,Ay dist),(10,Ay at'),(11,Ay (Ac n.ls)),(12,eT (JO w)),(13,eI .i64 d),(14,eI .i64 k),(15,Ay (Ew mv dist at' k (d - 1)))]) (fun ⟨k,hkk⟩=>[]) 0 (fun ⟨k,hkk⟩=>(Ac n.ls).length - k) (⟨0,fun k' h=>by omega⟩) [] (Fq hΓ rfl rfl) (by (simp[cX,zC,hΓ])) ?_;rintro⟨k,hkk⟩;(try dsimp only)
   have hkl:=hkp k hkk
   have hacK:=hac at' k (d - 1) hWa
   (repeat first|refine sN rfl ?_ |refine tA rfl ?_ |refine s2 rfl fun _ _hb=>?_ |refine aU rfl ?_ |refine Aa ?_)
   (refine aC rfl ?_ ?_<;>rintro⟨⟩)
   ·have hnil:Ew mv dist at' k (d - 1)=[]:=List.length_eq_zero_iff.1 (by (simp only[oZ] at *;omega))
    have hkk2:∀k',k' < k+1→Ew mv dist at' k' (d - 1)=[]:=fun k' h=>by
     rcases Nat.lt_succ_iff_lt_or_eq.1 h with h|h
     ·exact hkk k' h
     ·rw [h];exact hnil
    have hc2:=hcl at' (k+1) (d - 1) hWa (hkp _ hkk2)
    rw [show (((k+1:Nat)):Int)=(k:Int)+1 from rfl] at hc2
    refine aK ?_
    refine aB ?_
    (repeat first|(refine sA rfl ?_ ?_;first|exact tI|omega) |refine sP rfl (hc2) rfl ?_ |refine aU rfl ?_ |refine Aa ?_)
    refine⟨⟨k+1,hkk2⟩,by dsimp only;(omega),[],?_⟩
    simp[cX,zC,hΓ]
   ·obtain⟨m,hm⟩:=get_some (l:=Ac n.ls) (k:=k) hkl
    have hm':=get_map (g:=Bv) hm
    have hmb:=A2 (List.mem_of_getElem? hm)
    have hne:Ew mv dist at' k (d - 1)≠[]:=fun e=>by rw [e] at _hb;simp at _hb
    have hN2:=hW.next hg hG hdp (l:=m) (List.mem_of_getElem? hm) (at2:=Ew mv dist at' k (d - 1)) (by rw [hNN];exact hacK) hne (fun y=>by
     rw [hcm at' k (d - 1) m hm hWa y]) (fun m' hm' hlt=>by
     rintro⟨x,hx,y,hy,hdy⟩
     obtain⟨j,hj⟩:=hlx m' hm'
     have hjk:=Zq (DW n.ls 6) hj hm hlt
     have h2:=(hcm at' j (d - 1) m' hj hWa y).2 ⟨x,hx,hy,hdy⟩
     rw [hkk j hjk] at h2;cases h2)
    have htl:(JO w).length=w.length:=by simp [JO]
    have htx:JO w++[97+UInt8.ofNat m.toNat]=JO (w++[m]):=by simp [JO]
    refine aE ?_
    (repeat first|(refine sA rfl ?_ ?_;first|exact tI|omega|simp only[oZ] at *;omega) |(refine s4 rfl ‹_› rfl ?_ ?_;omega) |refine sP rfl (EU m (by omega) (by omega)) rfl ?_ |refine aU rfl ?_ |refine Aa ?_)
    refine⟨⟨(w++[m],Ew mv dist at' k (d - 1),d - 1),hN2⟩,by dsimp only;omega,[],?_⟩
    simp[cX,zC,hΓ,htx]
  ·obtain rfl:d=0:=by (simp only[oZ] at *;omega)
   have hans:=hW.dP hg hG
   have hrr:=Ed.unique hr hans
   subst hrr
   (repeat' first|refine tA rfl ?_ |refine s2 rfl fun _ _hb=>?_ |refine aU rfl ?_ |refine Aa ?_|(refine aC rfl ?_ ?_<;>rintro⟨⟩)|refine aK ?_|refine aE ?_|refine aB ?_|refine aR ⟨_,rfl,?_⟩)
   all_goals first
    | (subst _hb;rfl)
abbrev az(r:Option (List Int)):List UInt8:=(r.map JO).getD []
abbrev Zh(r:Option (List Int)):E:=.t [(false,[.d (tD (az r))]),(false,[.d (bD r.isSome)])]
theorem XK(r:Option (List Int)):ay r=Zh r:=by cases r<;>rfl
noncomputable def Lz(g:Gr):Option (List Int):=Classical.choose (LU g)
theorem I8(g:Gr):Ed g (Lz g):=Classical.choose_spec (LU g)
theorem Vt{g:Gr}{r:Option (List Int)}(h:Ed g r):Lz g=r:=Ed.unique (I8 g) h
theorem XW{a b:Nat}(ha:a < 64)(hb:b < 64):Ud .i64 a b=((a ||| b:Nat):Int)∧a ||| b < 64:=by
 have h0:a ||| b < 64:=Nat.or_lt_two_pow (n:=6) ha hb
 refine⟨?_,h0⟩
 unfold Ud
 have h1:(BitVec.ofInt IntKind.i64.bits (a:Int) ||| BitVec.ofInt IntKind.i64.bits (b:Int)).toNat=a ||| b:=by
  have e:IntKind.i64.bits=64:=rfl
  rw [e]
  simp only [BitVec.toNat_or,BitVec.ofInt_natCast,BitVec.toNat_ofNat]
  rw [Nat.mod_eq_of_lt (by omega),Nat.mod_eq_of_lt (by omega)]
 rw [h1]
 exact IntWalk.i64_in _ (by omega)
theorem NZ:∀ {zs:List Int},(∀z∈zs,0 < z)→Fits zs (List.replicate zs.length 0)
 | [],_=>.nil
 | z::zs,h=>by
  rw [List.length_cons,List.replicate_succ]
  exact .cons (by omega) (h z (by simp)) (NZ fun x hx=>h x (by simp [hx]))
end Go.Am
namespace Go.Am
open Go
def BG:List Int→Nat
 | []=>0
 | x::l=>2 ^ x.toNat+BG l
theorem MN:∀(l m:List Int),BG (l++m)=BG l+BG m
 | [],m=>by simp [BG]
 | x::l,m=>by simp [BG,MN l m,Nat.add_assoc]
theorem Lt:∀ {l:List Int} {t:Nat},l.Pairwise (· < ·)→(∀x∈l,0≤x∧x < t)→BG l < 2 ^ t
 | [],t,_,_=>Nat.two_pow_pos t
 | x :: l,t,hp,h=>by
  have key:∀(l:List Int) (a t:Nat),(∀x∈l,(a:Int)≤x∧x < t)→l.Pairwise (· < ·)→a≤t→2 ^ a+BG l≤2 ^ t:=by
   intro l
   induction l with
   | nil=>intro a t _ _ hat;simpa [BG] using Nat.pow_le_pow_right (by omega) hat
   | cons y l ih=>
    intro a t h hp hat
    have hy:=h y (by simp)
    have hp2:=List.pairwise_cons.1 hp
    have h1:=ih (y.toNat+1) t (fun x hx=>by have:=hp2.1 x hx;have:=h x (by simp [hx]);omega) hp2.2 (by omega)
    have h2:2 ^ a≤2 ^ y.toNat:=Nat.pow_le_pow_right (by omega) (by omega)
    rw [Nat.pow_succ] at h1
    simp only [BG];omega
  have hx:=h x (by simp)
  have hp2:=List.pairwise_cons.1 hp
  have h1:=key l (x.toNat+1) t (fun y hy=>by have:=hp2.1 y hy;have:=h y (by simp [hy]);omega) hp2.2 (by omega)
  rw [Nat.pow_succ] at h1
  simp only [BG]
  have:=Nat.two_pow_pos x.toNat
  omega
theorem Yy{l:List Int}{t:Nat}(hp:l.Pairwise (· < ·))(h:∀x∈l,0≤x∧x < t):BG l ||| 2 ^ t=BG (l++[(t:Int)]):=by
 have h1:=Lt hp h
 rw [MN]
 have h2:=Nat.two_pow_add_eq_or_of_lt h1 1
 simp only [Nat.mul_one] at h2
 rw [Nat.or_comm,←h2]
 simp [BG];omega
theorem PC:∀(k m:Nat),(2 ^ k*(2*m+1)) &&& (2 ^ k*(2*m+1) - 1)=2 ^ k*(2*m)
 | 0, m=>by
  apply Nat.eq_of_testBit_eq
  intro i
  cases i with
  | zero=>simp
  | succ i=>
   simp only [Nat.pow_zero,Nat.one_mul,Nat.add_sub_cancel]
   have h1:(2*m+1) / 2=m:=by omega
   have h2:2*m / 2=m:=by omega
   rw [Nat.testBit_and,Nat.testBit_succ,Nat.testBit_succ,h1,h2];simp
 | k + 1,m=>by
  have ih:=PC k m
  have hp:0 < 2 ^ k*(2*m+1):=Nat.mul_pos (Nat.two_pow_pos k) (by omega)
  have e1:2 ^ (k+1)*(2*m+1)=2*(2 ^ k*(2*m+1)):=by rw [Nat.pow_succ,Nat.mul_comm (2 ^ k) 2,Nat.mul_assoc]
  have e2:2 ^ (k+1)*(2*m)=2*(2 ^ k*(2*m)):=by rw [Nat.pow_succ,Nat.mul_comm (2 ^ k) 2,Nat.mul_assoc]
  rw [e1,e2,←ih]
  generalize 2 ^ k*(2*m+1)=a at hp
  apply Nat.eq_of_testBit_eq
  intro i
  cases i with
  | zero=>simp
  | succ i=>
   have h1:2*a / 2=a:=by omega
   have h2:(2*a - 1) / 2=a - 1:=by omega
   have h3:2*(a &&& (a - 1)) / 2=a &&& (a - 1):=by omega
   rw [Nat.testBit_and,Nat.testBit_succ,Nat.testBit_succ,Nat.testBit_succ,h1,h2,h3,Nat.testBit_and]
theorem MP:∀ {l:List Int} {k:Nat},l.Pairwise (· < ·)→(∀x∈l,(k:Int) < x)→∃m,BG l=2 ^ k*(2*m)
 | [],k,_,_=>⟨0,by simp [BG]⟩
 | x :: l,k,hp,h=>by
  have hp2:=List.pairwise_cons.1 hp
  have hx:=h x (by simp)
  obtain⟨m,hm⟩:=MP (l:=l) (k:=k) hp2.2 fun y hy=>by have:=hp2.1 y hy;omega
  refine⟨2 ^ (x.toNat - k - 1)+m,?_⟩
  have e:x.toNat=k+(1+(x.toNat - k - 1)):=by omega
  have:2 ^ x.toNat=2 ^ k*(2*2 ^ (x.toNat - k - 1)):=by
   conv=>lhs;rw [e,Nat.pow_add,Nat.pow_add]
  simp only [BG,hm,this,←Nat.mul_add]
theorem Kz{x:Int}{l:List Int}(hp:(x::l).Pairwise (· < ·))(h0:0≤x):∃m,BG (x::l)=2 ^ x.toNat*(2*m+1)∧BG l=2 ^ x.toNat*(2*m):=by
 have hp2:=List.pairwise_cons.1 hp
 obtain⟨m,hm⟩:=MP (l:=l) (k:=x.toNat) hp2.2 fun y hy=>by have:=hp2.1 y hy;omega
 exact⟨m,by simp only [BG,hm];rw [Nat.mul_add];omega,hm⟩
theorem UJ{x:Int}{l:List Int}(hp:(x::l).Pairwise (· < ·))(h0:0≤x):BG (x::l) &&& (BG (x::l) - 1)=BG l:=by
 obtain⟨m,h1,h2⟩:=Kz hp h0
 rw [h1,h2,PC]
theorem MO{x:Int}{l:List Int}:0 < BG (x::l):=by
 simp only [BG];have:=Nat.two_pow_pos x.toNat;omega
theorem Xp{x:Int}{l:List Int}(hp:(x::l).Pairwise (· < ·))(h0:0≤x)(hlt:BG (x::l) < 2 ^ 64):Lib.ctz 64 (BG (x::l))=x.toNat:=by
 obtain⟨m,h1,_⟩:=Kz hp h0
 have h2:=Lib.lowest_bit 64 _ (by have:=MO (x:=x) (l:=l);omega) hlt
 have h3:=Lib.and_neg 64 x.toNat m (by rw [←h1];exact hlt)
 rw [←h1,h2.1] at h3
 exact(Nat.pow_right_inj (by omega)).1 h3
end Go.Am
