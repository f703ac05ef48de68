/-
  Distances.
-/
import Derived.Test.YtainaphkaklkmaaGreatDoorPart11
import Derived.Test.YtainaphkaklkmaaGreatDoorPart8
import Derived.Lib.TrailingZeros
set_option linter.constructorNameAsVariable false
set_option linter.unusedSimpArgs false
set_option linter.unusedVariables false
namespace Go.Am
open Go Go.Proofs
set_option maxHeartbeats 1000000
attribute [local irreducible] QOp AOp Lex LexO AWp Spec
variable {TB:List (Nat×Obj)}
theorem get_mapA {α β:Type} {l:List α} {g:α→β} {k:Nat} {x:α} (h:l[k]? = some x):(l.map g)[0+((k:Nat):Int).toNat]? = some (g x):=by simp [h]
theorem set_mapI {l:List Int} {k:Nat} {x y:Int}:(l.map iRowC).set (0+((k:Nat):Int).toNat) (spliceC (iRowC x) 0 (eC (eI .i64 y)))=(l.set k y).map iRowC:=by
  simp [spliceC,eC,List.map_set]
def negN (l:List Int):Nat:=l.countP (decide <| · < 0)
theorem negN_set:∀ {l:List Int} {k:Nat} {x y:Int},l[k]? = some x→x < 0→0≤y→negN (l.set k y)+1=negN l
  | [],k,x,y,h,_,_=>by simp at h
  | a::l,0,x,y,h,hx,hy=>by
    simp at h;subst h
    have:¬y < 0:=by omega
    simp [negN,hx,this]
  | a::l,k+1,x,y,h,hx,hy=>by
    have:=negN_set (l:=l) (k:=k) (by simpa using h) hx hy
    simp only [negN,List.set_cons_succ,List.countP_cons] at this ⊢
    omega
theorem nearB_iff {mv:List (List Int)} {dist:List Int} {d:Int}:nearB mv dist d=true↔∃r∈mv,∃j∈r,dist.getD j.toNat 0=d:=by
  simp [nearB,atD]
structure DistOk (mv:List (List (List Int))) (g:Nat→Bool) (dist:List Int):Prop where
  len:dist.length=mv.length
  zero:∀i,i < mv.length→(dist.getD i 0=0↔g i=true)
  step:∀i,i < mv.length→0 < dist.getD i 0→∃r∈mv.getD i [],∃j∈r,dist.getD j.toNat 0=dist.getD i 0 - 1
  close:∀i,i < mv.length→∀r∈mv.getD i [],∀j∈r,0≤dist.getD j.toNat 0→0≤dist.getD i 0∧dist.getD i 0≤dist.getD j.toNat 0+1
  bound:∀i,i < mv.length→-1≤dist.getD i 0∧dist.getD i 0≤mv.length+1
structure DI (mv:List (List (List Int))) (g:Nat→Bool) (dist:List Int) (d:Int) (more:Bool) (i:Nat):Prop where
  len:dist.length=mv.length
  d1:1≤d
  zero:∀i,i < mv.length→(dist.getD i 0=0↔g i=true)
  step:∀i,i < mv.length→0 < dist.getD i 0→∃r∈mv.getD i [],∃j∈r,dist.getD j.toNat 0=dist.getD i 0 - 1
  lt:∀x,x < mv.length→-1≤dist.getD x 0∧dist.getD x 0≤d
  up:∀x,i≤x→x < mv.length→dist.getD x 0 < d
  last:more=false→∀x,x < mv.length→dist.getD x 0 < d
  close:∀x,x < mv.length→∀r∈mv.getD x [],∀j∈r,0≤dist.getD j.toNat 0→(dist.getD j.toNat 0 < d - 1∨x < i∧dist.getD j.toNat 0=d - 1)→0≤dist.getD x 0∧dist.getD x 0≤dist.getD j.toNat 0+1
def InAll (mv:List (List (List Int))):Prop:=∀x,x < mv.length→∀r∈mv.getD x [],∀j∈r,0≤j∧j < mv.length
theorem getD_set_eq {l:List Int} {k:Nat} {y:Int} (h:k < l.length):(l.set k y).getD k 0=y:=by simp [List.getD,h]
theorem getD_set_of_ne {l:List Int} {k x:Nat} {y:Int} (h:k≠x):(l.set k y).getD x 0=l.getD x 0:=by simp [List.getD,h]
theorem DI.set {mv:List (List (List Int))} {g:Nat→Bool} {dist:List Int} {d:Int} {more:Bool} {i:Nat} (h:DI mv g dist d more i) (hi:i < mv.length) (hneg:dist.getD i 0 < 0) (hn:nearB (mv.getD i []) dist (d - 1)=true):DI mv g (dist.set i d) d true (i+1):=by
  have hd1:=h.d1
  have hl:i < dist.length:=by rw [h.len];exact hi
  obtain ⟨r0,hr0,j0,hj0,hjd⟩:=nearB_iff.1 hn
  have g1:(dist.set i d).getD i 0=d:=getD_set_eq hl
  have g2:∀x,x≠i→(dist.set i d).getD x 0=dist.getD x 0:=fun x hx=>getD_set_of_ne (Ne.symm hx)
  have g3:∀x,0≤dist.getD x 0→(dist.set i d).getD x 0=dist.getD x 0:=fun x hx=>g2 x fun e=>by subst e;omega
  refine ⟨by simp [h.len],hd1,fun x hx=>?_,fun x hx hp=>?_,fun x hx=>?_,fun x hx hx'=>?_,fun hm=>(by cases hm),fun x hx r hr j hj hj0' hj1=>?_⟩
  · by_cases e:x=i
    · subst e;rw [g1,←h.zero x hx];constructor<;>intro<;>omega
    · rw [g2 x e];exact h.zero x hx
  · by_cases e:x=i
    · subst e;rw [g1] at hp ⊢
      exact ⟨r0,hr0,j0,hj0,by rw [g3 _ (by omega)];exact hjd⟩
    · rw [g2 x e] at hp ⊢
      obtain ⟨r,hr,j,hj,hjx⟩:=h.step x hx hp
      exact ⟨r,hr,j,hj,by rw [g3 _ (by omega)];exact hjx⟩
  · by_cases e:x=i
    · subst e;rw [g1];omega
    · rw [g2 x e];exact h.lt x hx
  · rw [g2 x (by omega)];exact h.up x (by omega) hx'
  · by_cases ej:j.toNat=i
    · rw [ej,g1] at hj1;omega
    · rw [g2 _ ej] at hj0' hj1 ⊢
      by_cases e:x=i
      · subst e;rw [g1]
        refine ⟨by omega,?_⟩
        rcases hj1 with h1|⟨_,h1⟩
        · have:=(h.close x hx r hr j hj hj0' (.inl h1)).1;omega
        · omega
      · rw [g2 x e]
        exact h.close x hx r hr j hj hj0' (by rcases hj1 with h1|⟨h1,h2⟩;exact .inl h1;exact .inr ⟨by omega,h2⟩)
theorem DI.keep {mv:List (List (List Int))} {g:Nat→Bool} {dist:List Int} {d:Int} {more:Bool} {i:Nat} (h:DI mv g dist d more i) (hi:i < mv.length) (hn:dist.getD i 0 < 0→nearB (mv.getD i []) dist (d - 1)=false):DI mv g dist d more (i+1):=by
  refine ⟨h.len,h.d1,h.zero,h.step,h.lt,fun x hx hx'=>h.up x (by omega) hx',h.last,fun x hx r hr j hj hj0 hj1=>?_⟩
  rcases hj1 with h1|⟨h1,h2⟩
  · exact h.close x hx r hr j hj hj0 (.inl h1)
  · by_cases e:x=i
    · subst e
      by_cases hx0:dist.getD x 0 < 0
      · have h3:=hn hx0
        have h4:=nearB_iff.2 ⟨r,hr,j,hj,h2⟩
        rw [h3] at h4;cases h4
      · have:=h.up x (Nat.le_refl _) hx
        omega
    · exact h.close x hx r hr j hj hj0 (.inr ⟨by omega,h2⟩)
theorem DI.next {mv:List (List (List Int))} {g:Nat→Bool} {dist:List Int} {d:Int} {more:Bool} (h:DI mv g dist d more mv.length):DI mv g dist (d+1) true 0:=by
  have hd1:=h.d1
  refine ⟨h.len,by omega,h.zero,h.step,fun x hx=>?_,fun x _ hx=>?_,fun hm=>(by cases hm),fun x hx r hr j hj hj0 hj1=>?_⟩
  · have:=h.lt x hx;omega
  · have:=h.lt x hx;omega
  · exact h.close x hx r hr j hj hj0 (by omega)
theorem DI.fin {mv:List (List (List Int))} {g:Nat→Bool} {dist:List Int} {d:Int} (hin:InAll mv) (h:DI mv g dist d false mv.length) (hd:d≤mv.length+1):DistOk mv g dist:=by
  have hd1:=h.d1
  refine ⟨h.len,h.zero,h.step,fun x hx r hr j hj hj0=>?_,fun x hx=>?_⟩
  · have h1:=hin x hx r hr j hj
    have:=h.last rfl j.toNat (by omega)
    exact h.close x hx r hr j hj hj0 (by omega)
  · have:=h.lt x hx;have:=h.last rfl x hx;omega
structure DHead (mv:List (List (List Int))) (g:Nat→Bool) (dt:List Int) (d:Int) (more:Bool):Prop where
  len:dt.length=mv.length
  d1:1≤d
  d2:d≤mv.length+2
  yes:more=true→DI mv g dt d true 0∧d+negN dt≤mv.length+1
  no:more=false→DistOk mv g dt
theorem negN_le (l:List Int):negN l≤l.length:=List.countP_le_length
theorem DHead.init {mv:List (List (List Int))} {g:Nat→Bool} {dist:List Int} (hlen:dist.length=mv.length) (h0:∀i,i < mv.length→dist.getD i 0=if g i then 0 else -1):DHead mv g dist 1 true:=by
  have hx:∀x,x < mv.length→-1≤dist.getD x 0∧dist.getD x 0 < 1:=fun x hx=>by have:=h0 x hx;split at this<;>omega
  have hn:=negN_le dist
  refine ⟨hlen,by omega,by omega,fun _=>⟨⟨hlen,by omega,fun x h=>?_,fun x h hp=>?_,fun x h=>?_,fun x _ h=>(hx x h).2,fun h=>(by cases h),fun x h r hr j hj hj0 hj1=>?_⟩,by omega⟩,fun h=>(by cases h)⟩
  · have:=h0 x h;split at this<;>simp_all
  · have:=hx x h;omega
  · have:=hx x h;omega
  · omega
structure DMid (mv:List (List (List Int))) (g:Nat→Bool) (dt:List Int) (d:Int) (du:List Int) (m2:Bool) (i:Nat):Prop where
  le:i≤mv.length
  di:DI mv g du d m2 i
  cnt:negN du+(if m2 then 1 else 0)≤negN dt
theorem DMid.init {mv:List (List (List Int))} {g:Nat→Bool} {dt:List Int} {d:Int} (h:DI mv g dt d true 0):DMid mv g dt d dt false 0:=
  ⟨Nat.zero_le _,⟨h.len,h.d1,h.zero,h.step,h.lt,h.up,fun _ x hx=>h.up x (Nat.zero_le _) hx,h.close⟩,by simp⟩
theorem DMid.set {mv:List (List (List Int))} {g:Nat→Bool} {dt:List Int} {d:Int} {du:List Int} {m2:Bool} {i:Nat} (h:DMid mv g dt d du m2 i) (hi:i < mv.length) (hneg:du.getD i 0 < 0) (hn:nearB (mv.getD i []) du (d - 1)=true):DMid mv g dt d (du.set i d) true (i+1):=by
  have hl:=h.di.len
  have hd1:=h.di.d1
  have h1:du[i]? = some (du.getD i 0):=by
    have:i < du.length:=by omega
    simp [List.getD,this]
  have h2:=negN_set h1 hneg (y:=d) (by omega)
  have h3:=h.cnt
  refine ⟨hi,h.di.set hi hneg hn,?_⟩
  simp only [if_true]
  split at h3<;>omega
theorem DMid.keep {mv:List (List (List Int))} {g:Nat→Bool} {dt:List Int} {d:Int} {du:List Int} {m2:Bool} {i:Nat} (h:DMid mv g dt d du m2 i) (hi:i < mv.length) (hn:du.getD i 0 < 0→nearB (mv.getD i []) du (d - 1)=false):DMid mv g dt d du m2 (i+1):=
  ⟨hi,h.di.keep hi hn,h.cnt⟩
theorem DMid.next {mv:List (List (List Int))} {g:Nat→Bool} {dt:List Int} {d:Int} {du:List Int} {m2:Bool} (hin:InAll mv) (h:DMid mv g dt d du m2 mv.length) (hd:d+negN dt≤mv.length+1):DHead mv g du (d+1) m2:=by
  have hd1:=h.di.d1
  have hc:=h.cnt
  refine ⟨h.di.len,by omega,by omega,fun hm=>?_,fun hm=>?_⟩
  · subst hm
    simp only [if_true] at hc
    exact ⟨h.di.next,by omega⟩
  · subst hm
    exact h.di.fin hin (by omega)
end Go.Am
namespace Go.Am
open Go Go.Proofs
set_option maxHeartbeats 1000000
attribute [local irreducible] QOp AOp Lex LexO AWp Spec
variable {TB:List (Nat×Obj)}
theorem l4Dist_ok (mv:List (List (List Int))) (g:Nat→Bool) (dist:List Int) (hin:InAll mv) (hN:mv.length≤1048576) (hlen:dist.length=mv.length) (h0:∀i,i < mv.length→dist.getD i 0=if g i then 0 else -1) :
    Spec Tryz.prog TB 132 [(0,.cells 3 1 (dist.map iRowC))] 1 [eIntsss mv,.o (.arr 0 1 0 mv.length)] (fun x σ nx=>x=.t []∧nx=1∧∃dist',DistOk mv g dist'∧σ=[(0,.cells 3 1 (dist'.map iRowC))]):=by
  refine eN Tryz.func132 rfl (by kernel_rfl) rfl ?_;intro Γ hΓ
  (repeat first|refine sN rfl ?_|((first|refine sM rfl ?_ ?_|refine s4 rfl ‹_› rfl ?_ ?_);first|exact tI|omega|(simp only[oZ] at *;omega))|(refine s2 rfl ?_;intro _ _hb)|(refine s3 rfl ?_ ?_<;>intro hb<;>subst hb)|refine aS ?_|refine reg (by kernel_rfl) ?_|refine lexE ?_|refine rD (by kernel_rfl) (by kernel_rfl) ?_)
  refine AWp.block ?_
  refine AWp.loopL (α:={x:List Int×Int×Bool // DHead mv g x.1 x.2.1 x.2.2}) (fun ⟨⟨dt,d,more⟩,hH⟩=>[(0,eIntsss mv),(1,.o (.arr 0 1 0 mv.length)),(4,eB more),(5,eI .i64 d)]) (fun ⟨⟨dt,d,more⟩,hH⟩=>[(0,.cells 3 1 (dt.map iRowC))]) 1 (fun ⟨⟨dt,d,more⟩,hH⟩=>2*negN dt+(if more then 1 else 0)) (⟨(dist,1,true),DHead.init hlen h0⟩) [0] (by first|(simp [hΓ];done)|(rw [hΓ];decide)) (by (repeat' (first|exact trivial|rfl|refine And.intro ?_ ?_))<;>simp [EnvSub,StoreSub,look_cons,nm,E.ren,C.ren,C.renL,O.ren,killc,kill0,Function.comp_def,argsFrom,zC,hΓ]) ?_;rintro ⟨⟨dt,d,more⟩,hH⟩;(try dsimp only)
  simp only at hH
  (repeat first|refine sN rfl ?_|((first|refine sM rfl ?_ ?_|refine s4 rfl ‹_› rfl ?_ ?_);first|exact tI|omega|(simp only[oZ] at *;omega))|(refine s2 rfl ?_;intro _ _hb)|(refine s3 rfl ?_ ?_<;>intro hb<;>subst hb)|refine aS ?_|refine reg (by kernel_rfl) ?_|refine lexE ?_|refine rD (by kernel_rfl) (by kernel_rfl) ?_)
  (refine aC rfl ?_ ?_<;>intro hb<;>cases hb)
  · obtain ⟨hD,hc⟩:=hH.yes rfl
    have hd1:=hD.d1
    refine AWp.skip ?_
    refine AWp.seq (AWp.block ?_)
    (repeat first|refine sN rfl ?_|((first|refine sM rfl ?_ ?_|refine s4 rfl ‹_› rfl ?_ ?_);first|exact tI|omega|(simp only[oZ] at *;omega))|(refine s2 rfl ?_;intro _ _hb)|(refine s3 rfl ?_ ?_<;>intro hb<;>subst hb)|refine aS ?_|refine reg (by kernel_rfl) ?_|refine lexE ?_|refine rD (by kernel_rfl) (by kernel_rfl) ?_)
    refine AWp.block ?_
    refine AWp.loopL (α:={x:List Int×Bool×Nat // DMid mv g dt d x.1 x.2.1 x.2.2}) (fun ⟨⟨du,m2,i⟩,hM⟩=>[(0,eIntsss mv),(1,.o (.arr 0 1 0 mv.length)),(4,eB m2),(5,eI .i64 d),(6,eI .i64 i)]) (fun ⟨⟨du,m2,i⟩,hM⟩=>[(0,.cells 3 1 (du.map iRowC))]) 1 (fun ⟨⟨du,m2,i⟩,hM⟩=>mv.length - i) (⟨(dt,false,0),DMid.init hD⟩) [0] (by first|(simp [hΓ];done)|(rw [hΓ];decide)) (by (repeat' (first|exact trivial|rfl|refine And.intro ?_ ?_))<;>simp [EnvSub,StoreSub,look_cons,nm,E.ren,C.ren,C.renL,O.ren,killc,kill0,Function.comp_def,argsFrom,zC,hΓ]) ?_;rintro ⟨⟨du,m2,i⟩,hM⟩;(try dsimp only)
    simp only at hM
    have hul:=hM.di.len
    have hile:=hM.le
    (repeat first|refine sN rfl ?_|((first|refine sM rfl ?_ ?_|refine s4 rfl ‹_› rfl ?_ ?_);first|exact tI|omega|(simp only[oZ] at *;omega))|(refine s2 rfl ?_;intro _ _hb)|(refine s3 rfl ?_ ?_<;>intro hb<;>subst hb)|refine aS ?_|refine reg (by kernel_rfl) ?_|refine lexE ?_|refine rD (by kernel_rfl) (by kernel_rfl) ?_)
    (refine aC rfl ?_ ?_<;>intro hb<;>cases hb)
    · obtain ⟨y,hy⟩:=get_some (l:=du) (k:=i) (by first|omega|(simp only [oZ] at *;omega))
      have hy':=get_mapA (g:=iRowC) hy
      obtain ⟨mi,hmi⟩:=get_some (l:=mv) (k:=i) (by first|omega|(simp only [oZ] at *;omega))
      have hmi':=get_map (g:=iiiRow) hmi
      have hilt:i < mv.length:=by first|omega|(simp only [oZ] at *;omega)
      have hyd:du.getD i 0=y:=by simp [List.getD,hy]
      have hmd:mv.getD i []=mi:=by simp [List.getD,hmi]
      have hset:=hM.set hilt
      have hkeep:=hM.keep hilt
      rw [hyd,hmd] at hset hkeep
      refine AWp.skip ?_
      refine AWp.seq (AWp.block ?_)
      (repeat' first|refine sN rfl ?_|((first|refine sM rfl ?_ ?_|refine s4 rfl ‹_› rfl ?_ ?_);first|exact tI|omega|(simp only[oZ] at *;omega))|(refine s2 rfl ?_;intro _ _hb)|(refine popO rfl ?_;refine gA rfl ?_;first|(refine gQB (q_callB rfl rfl ((.cons (.o (.pure rfl)) (.cons (.o (.full rfl (by simp [Function.comp_def]) (by simp [hul]))) (.cons (.o (.pure rfl)) .nil)))) (l4Near_ok mi du (d - 1) (fun r hr v hv=>by have:=hin i hilt r (by rw [hmd];exact hr) v hv;exact ⟨this.1,by omega⟩)) rfl) rfl ?_;intro _ _hb))|(refine s3 rfl ?_ ?_<;>intro hb<;>subst hb)|refine aS ?_|refine reg (by kernel_rfl) ?_|refine lexE ?_|refine rD (by kernel_rfl) (by kernel_rfl) ?_|(refine aC rfl ?_ ?_<;>intro hb<;>cases hb)|refine aK ?_|refine aE ?_|refine aB ?_|refine AWp.ret ⟨_,rfl,?_⟩)
      all_goals first
        | (refine ⟨⟨(du,m2,i+1),hkeep (by grind)⟩,by dsimp only;(first|omega|(simp only [oZ] at *;omega)),[0],?_⟩
           simp [EnvSub,StoreSub,look_cons,nm,E.ren,C.ren,C.renL,O.ren,killc,kill0,Function.comp_def,argsFrom,zC,hΓ]
           done)
        | (refine ⟨⟨(du.set i d,true,i+1),hset (by grind) (by grind)⟩,by dsimp only;(first|omega|(simp only [oZ] at *;omega)),[0],?_⟩
           rw [set_mapI]
           simp [EnvSub,StoreSub,look_cons,nm,E.ren,C.ren,C.renL,O.ren,killc,kill0,Function.comp_def,argsFrom,zC,hΓ]
           done)
    · obtain rfl:i=mv.length:=by first|omega|(simp only [oZ] at *;omega)
      have hN2:=hM.next hin hc
      have hc2:=hM.cnt
      refine AWp.exit ?_
      (repeat first|refine sN rfl ?_|((first|refine sM rfl ?_ ?_|refine s4 rfl ‹_› rfl ?_ ?_);first|exact tI|omega|(simp only[oZ] at *;omega))|(refine s2 rfl ?_;intro _ _hb)|(refine s3 rfl ?_ ?_<;>intro hb<;>subst hb)|refine aS ?_|refine reg (by kernel_rfl) ?_|refine lexE ?_|refine rD (by kernel_rfl) (by kernel_rfl) ?_)
      refine ⟨⟨(du,d+1,m2),hN2⟩,?_,[0],?_⟩
      · dsimp only
        cases m2<;>simp at hc2 ⊢ <;> omega
      · simp [EnvSub,StoreSub,look_cons,nm,E.ren,C.ren,C.renL,O.ren,killc,kill0,Function.comp_def,argsFrom,zC,hΓ]
  · refine AWp.exit ?_
    exact ⟨_,rfl,rfl,rfl,dt,hH.no rfl,rfl⟩
end Go.Am
namespace Go.Am
open Go Go.Proofs
set_option maxHeartbeats 1000000
attribute [local irreducible] QOp AOp Lex LexO AWp Spec
variable {TB:List (Nat×Obj)}
theorem len_split (l:List Int) (a:Int):l.length=l.count a+(l.filter (· != a)).length:=by
  induction l with
  | nil=>rfl
  | cons b l ih=>
    simp only [List.count_cons,List.filter_cons,List.length_cons]
    by_cases h:b=a
    · subst h;simp;omega
    · simp [h];omega
theorem nodup_len:∀(n:Nat) (l:List Int),l.Nodup→(∀x∈l,0≤x∧x < n)→l.length≤n
  | 0,l,_,h=>by
    cases l with
    | nil=>simp
    | cons a l=>have:=h a (by simp);omega
  | n+1,l,hn,h=>by
    have h1:=len_split l n
    have h2:=List.nodup_iff_count.1 hn n
    have h3:=nodup_len n (l.filter (· != (n:Int))) (hn.filter _) fun x hx=>by
      obtain ⟨h4,h5⟩:=List.mem_filter.1 hx
      have:=h x h4
      simp at h5
      omega
    omega
def addN (dist:List Int) (d:Int) (acc:List Int) (j:Int):List Int:=if dist.getD j.toNat 0=d∧j∉acc then acc++[j] else acc
theorem addN_eq (dist:List Int) (d:Int) (acc:List Int) (j:Int):addN dist d acc j=if dist.getD j.toNat 0=d∧j∉acc then acc++[j] else acc:=rfl
def closN (mv:List (List (List Int))) (dist at':List Int) (k:Nat) (d:Int):List Int:=at'.foldl (fun acc x=>((mv.getD x.toNat []).getD k []).foldl (addN dist d) acc) []
def AccOk (n:Nat) (acc:List Int):Prop:=acc.Nodup∧∀x∈acc,0≤x∧x < n
theorem AccOk.add {n:Nat} {acc:List Int} (h:AccOk n acc) {dist:List Int} {d j:Int} (hj:0≤j∧j < n):AccOk n (addN dist d acc j):=by
  unfold addN
  split
  · rename_i h1
    refine ⟨List.nodup_append.2 ⟨h.1,by simp,fun a ha b hb=>?_⟩,fun x hx=>?_⟩
    · simp at hb;subst hb;intro e;subst e;exact h1.2 ha
    · rcases List.mem_append.1 hx with hx|hx
      · exact h.2 x hx
      · simp at hx;subst hx;exact hj
  · exact h
theorem AccOk.fold {n:Nat} {dist:List Int} {d:Int}:∀ {l acc:List Int},AccOk n acc→(∀j∈l,0≤j∧j < n)→AccOk n (l.foldl (addN dist d) acc)
  | [],_,h,_=>h
  | j::_,_,h,hl=>by rw [List.foldl_cons];exact AccOk.fold (h.add (hl j (by simp))) fun x hx=>hl x (by simp [hx])
theorem mem_row {mv:List (List (List Int))} (hin:InAll mv) {x:Int} (hx:0≤x∧x < mv.length) (k:Nat):∀j∈(mv.getD x.toNat []).getD k [],0≤j∧j < mv.length:=by
  intro j hj
  cases hr:(mv.getD x.toNat [])[k]? with
  | none=>
    have:(mv.getD x.toNat []).getD k []=[]:=by rw [List.getD,hr];rfl
    rw [this] at hj;cases hj
  | some r=>
    have:(mv.getD x.toNat []).getD k []=r:=by rw [List.getD,hr];rfl
    rw [this] at hj
    exact hin x.toNat (by omega) r (List.mem_of_getElem? hr) j hj
theorem AccOk.clos {mv:List (List (List Int))} (hin:InAll mv) {dist:List Int} {d:Int} {k:Nat}:∀ {l acc:List Int},AccOk mv.length acc→(∀x∈l,0≤x∧x < mv.length)→AccOk mv.length (l.foldl (fun acc x=>((mv.getD x.toNat []).getD k []).foldl (addN dist d) acc) acc)
  | [],_,h,_=>h
  | j::_,_,h,hl=>by rw [List.foldl_cons];exact AccOk.clos hin (h.fold (mem_row hin (hl j (by simp)) k)) fun x hx=>hl x (by simp [hx])
theorem AccOk.nil {n:Nat}:AccOk n []:=⟨.nil,fun x hx=>(by cases hx)⟩
theorem foldl_step {α β:Type} {l:List α} {k:Nat} {x:α} (h:l[k]? = some x) (f:β→α→β) (b:β):(l.take (k+1)).foldl f b=f ((l.take k).foldl f b) x:=by
  rw [List.take_add_one,h,List.foldl_append];rfl
theorem l4Closer_ok (mv:List (List (List Int))) (dist at':List Int) (k:Nat) (d:Int) (hin:InAll mv) (hN:mv.length≤1048576) (hlen:dist.length=mv.length) (ha:∀x∈at',0≤x∧x < mv.length) (hal:at'.length≤1048576) (hk:∀i,i < mv.length→k < (mv.getD i []).length) :
    Pure Tryz.prog TB 134 [eIntsss mv,eInts dist,eInts at',eI .i64 k,eI .i64 d] (eInts (closN mv dist at' k d)):=by
  have hacc:∀m,AccOk mv.length ((at'.take m).foldl (fun acc x=>((mv.getD x.toNat []).getD k []).foldl (addN dist d) acc) []):=fun m=>AccOk.clos hin .nil fun x hx=>ha x (List.mem_of_mem_take hx)
  refine eN Tryz.func134 rfl (by kernel_rfl) rfl ?_;intro Γ hΓ
  refine AWp.bound 0 rfl fun hB0=>?_
  (repeat first|refine sN rfl ?_|((first|refine sM rfl ?_ ?_|refine s4 rfl ‹_› rfl ?_ ?_);first|exact tI|omega|(simp only[oZ] at *;omega))|(refine s2 rfl ?_;intro _ _hb)|(refine s3 rfl ?_ ?_<;>intro hb<;>subst hb)|refine aS ?_|refine reg (by kernel_rfl) ?_|refine lexE ?_|refine rD (by kernel_rfl) (by kernel_rfl) ?_)
  (refine popO rfl ?_;refine popS (fun _ _=>q_assign rfl) rfl ?_)
  (repeat first|refine sN rfl ?_|((first|refine sM rfl ?_ ?_|refine s4 rfl ‹_› rfl ?_ ?_);first|exact tI|omega|(simp only[oZ] at *;omega))|(refine s2 rfl ?_;intro _ _hb)|(refine s3 rfl ?_ ?_<;>intro hb<;>subst hb)|refine aS ?_|refine reg (by kernel_rfl) ?_|refine lexE ?_|refine rD (by kernel_rfl) (by kernel_rfl) ?_)
  (refine popO rfl ?_;refine popW ?_ rfl (by rfl);refine n_sliceB rfl rfl rfl rfl (by simp) (by rfl) (by rfl) (by rfl) (by rfl) ?_)
  (repeat first|refine sN rfl ?_|((first|refine sM rfl ?_ ?_|refine s4 rfl ‹_› rfl ?_ ?_);first|exact tI|omega|(simp only[oZ] at *;omega))|(refine s2 rfl ?_;intro _ _hb)|(refine s3 rfl ?_ ?_<;>intro hb<;>subst hb)|refine aS ?_|refine reg (by kernel_rfl) ?_|refine lexE ?_|refine rD (by kernel_rfl) (by kernel_rfl) ?_)
  refine AWp.block ?_
  refine AWp.loopL (α:={m:Nat // m≤at'.length}) (fun ⟨m,hm⟩=>[(0,eIntsss mv),(1,eInts dist),(2,eInts at'),(3,eI .i64 k),(4,eI .i64 d),(11,.o (.arr 0 1 0 ((at'.take m).foldl (fun acc x=>((mv.getD x.toNat []).getD k []).foldl (addN dist d) acc) []).length)),(12,eI .i64 m)]) (fun ⟨m,hm⟩=>[(0,.cells 3 1 (((at'.take m).foldl (fun acc x=>((mv.getD x.toNat []).getD k []).foldl (addN dist d) acc) []).map iRowC))]) 1 (fun ⟨m,hm⟩=>at'.length - m) (⟨0,by omega⟩) [0] (by first|(simp [hΓ];done)|(rw [hΓ];decide)) (by (repeat' (first|exact trivial|rfl|refine And.intro ?_ ?_))<;>simp [EnvSub,StoreSub,look_cons,nm,E.ren,C.ren,C.renL,O.ren,killc,kill0,Function.comp_def,argsFrom,zC,hΓ]) ?_;rintro ⟨m,hm⟩;(try dsimp only)
  have hacc1:=hacc m
  have hacc2:=fun x=>foldl_step (l:=at') (k:=m) (x:=x) (f:=fun acc x=>((mv.getD x.toNat []).getD k []).foldl (addN dist d) acc) (b:=[])
  generalize hA1:(at'.take m).foldl (fun acc x=>((mv.getD x.toNat []).getD k []).foldl (addN dist d) acc) []=acc at *
  (repeat first|refine sN rfl ?_|((first|refine sM rfl ?_ ?_|refine s4 rfl ‹_› rfl ?_ ?_);first|exact tI|omega|(simp only[oZ] at *;omega))|(refine s2 rfl ?_;intro _ _hb)|(refine s3 rfl ?_ ?_<;>intro hb<;>subst hb)|refine aS ?_|refine reg (by kernel_rfl) ?_|refine lexE ?_|refine rD (by kernel_rfl) (by kernel_rfl) ?_)
  (refine aC rfl ?_ ?_<;>intro hb<;>cases hb)
  · obtain ⟨y,hy⟩:=get_some (l:=at') (k:=m) (by first|omega|(simp only [oZ] at *;omega))
    have hy':=get_map (g:=iRow) hy
    have hyb:=ha y (List.mem_of_getElem? hy)
    obtain ⟨my,hmy⟩:=get_some (l:=mv) (k:=y.toNat) (by omega)
    have hmy':(mv.map iiiRow)[y.toNat]? = some (iiiRow my):=by simp [hmy]
    have hkk:=hk y.toNat (by omega)
    have hgy:mv.getD y.toNat []=my:=by simp [List.getD,hmy]
    rw [hgy] at hkk
    obtain ⟨r,hr⟩:=get_some (l:=my) (k:=k) hkk
    have hr':=get_map (g:=iiRow) hr
    have hgr:my.getD k []=r:=by simp [List.getD,hr]
    have hrin:=mem_row hin hyb k
    rw [hgy,hgr] at hrin
    have hstep:=hacc2 y hy
    rw [hgy,hgr] at hstep
    have hBr:=hB0 (r.map iRow) (.l (i:=y.toNat) (j:=0) (r:=iiiRow my) hmy' rfl (.l (i:=k) (j:=0) (r:=iiRow r) (by simp [hr]) rfl .refl))
    have hf2:∀j,AccOk mv.length ((r.take j).foldl (addN dist d) acc):=fun j=>hacc1.fold fun x hx=>hrin x (List.mem_of_mem_take hx)
    refine AWp.skip ?_
    refine AWp.seq (AWp.block ?_)
    (repeat first|refine sN rfl ?_|((first|refine sM rfl ?_ ?_|refine s4 rfl ‹_› rfl ?_ ?_);first|exact tI|omega|(simp only[oZ] at *;omega))|(refine s2 rfl ?_;intro _ _hb)|(refine s3 rfl ?_ ?_<;>intro hb<;>subst hb)|refine aS ?_|refine reg (by kernel_rfl) ?_|refine lexE ?_|refine rD (by kernel_rfl) (by kernel_rfl) ?_)
    refine AWp.block ?_
    refine AWp.loopL (α:={j:Nat // j≤r.length}) (fun ⟨j,hj⟩=>[(0,eIntsss mv),(1,eInts dist),(2,eInts at'),(3,eI .i64 k),(4,eI .i64 d),(11,.o (.arr 0 1 0 ((r.take j).foldl (addN dist d) acc).length)),(12,eI .i64 m),(13,eInts r),(14,eI .i64 j)]) (fun ⟨j,hj⟩=>[(0,.cells 3 1 (((r.take j).foldl (addN dist d) acc).map iRowC))]) 1 (fun ⟨j,hj⟩=>r.length - j) (⟨0,by omega⟩) [0] (by first|(simp [hΓ];done)|(rw [hΓ];decide)) (by (repeat' (first|exact trivial|rfl|refine And.intro ?_ ?_))<;>simp [EnvSub,StoreSub,look_cons,nm,E.ren,C.ren,C.renL,O.ren,killc,kill0,Function.comp_def,argsFrom,zC,hΓ]) ?_;rintro ⟨j,hj⟩;(try dsimp only)
    have hac:=hf2 j
    have hst2:=fun x=>foldl_step (l:=r) (k:=j) (x:=x) (f:=addN dist d) (b:=acc)
    generalize hA2:(r.take j).foldl (addN dist d) acc=ac2 at *
    (repeat first|refine sN rfl ?_|((first|refine sM rfl ?_ ?_|refine s4 rfl ‹_› rfl ?_ ?_);first|exact tI|omega|(simp only[oZ] at *;omega))|(refine s2 rfl ?_;intro _ _hb)|(refine s3 rfl ?_ ?_<;>intro hb<;>subst hb)|refine aS ?_|refine reg (by kernel_rfl) ?_|refine lexE ?_|refine rD (by kernel_rfl) (by kernel_rfl) ?_)
    (refine aC rfl ?_ ?_<;>intro hb<;>cases hb)
    · obtain ⟨x,hx⟩:=get_some (l:=r) (k:=j) (by first|omega|(simp only [oZ] at *;omega))
      have hx':=get_map (g:=iRow) hx
      have hxb:=hrin x (List.mem_of_getElem? hx)
      obtain ⟨z,hz⟩:=get_some (l:=dist) (k:=x.toNat) (by omega)
      have hz':(dist.map iRow)[x.toNat]? = some (iRow z):=by simp [hz]
      have hdz:dist.getD x.toNat 0=z:=by simp [List.getD,hz]
      have hst2:=hst2 x hx
      have hlac:=nodup_len _ _ hac.1 hac.2
      rw [addN_eq,hdz] at hst2
      refine AWp.skip ?_
      refine AWp.seq (AWp.block ?_)
      (repeat' first|refine sN rfl ?_|((first|refine sM rfl ?_ ?_|refine s4 rfl ‹_› rfl ?_ ?_);first|exact tI|omega|(simp only[oZ] at *;omega))|(refine s2 rfl ?_;intro _ _hb)|(refine popO rfl ?_;refine gA rfl ?_;first|(refine gQB (q_callB rfl rfl ((.cons (.o (.full rfl (by simp [Function.comp_def]) (by simp))) (.cons (.o (.pure rfl)) .nil))) (l4In_ok ac2 x) rfl) rfl ?_;intro _ _hb))|(refine s3 rfl ?_ ?_<;>intro hb<;>subst hb)|refine aS ?_|refine reg (by kernel_rfl) ?_|refine lexE ?_|refine rD (by kernel_rfl) (by kernel_rfl) ?_|(refine aC rfl ?_ ?_<;>intro hb<;>cases hb)|refine aK ?_|refine aE ?_|refine aB ?_|refine AWp.ret ⟨_,rfl,?_⟩)
      all_goals try (rw [if_neg (by grind)] at hst2;refine ⟨⟨j+1,by first|omega|(simp only [oZ] at *;omega)⟩,by dsimp only;(first|omega|(simp only [oZ] at *;omega)),[0],?_⟩;simp [EnvSub,StoreSub,look_cons,nm,E.ren,C.ren,C.renL,O.ren,killc,kill0,Function.comp_def,argsFrom,zC,hΓ,hst2];done)
      all_goals rw [if_pos (by grind)] at hst2
      (repeat first|refine sN rfl ?_|((first|refine sA rfl ?_ ?_|refine s4 rfl ‹_› rfl ?_ ?_);first|exact tI|omega|(simp only[oZ] at *;omega))|(refine s2 rfl ?_;intro _ _hb)|(refine s3 rfl ?_ ?_<;>intro hb<;>subst hb)|refine aS ?_|refine reg (by kernel_rfl) ?_|refine lexE ?_|refine rD (by kernel_rfl) (by kernel_rfl) ?_)
      (refine popO rfl ?_;refine popW ?_ rfl (by rfl);refine n_append rfl rfl rfl (by first|(simp;done)|(simp;(first|omega|(simp only [oZ] at *;omega)))) rfl (by intro r hr;simp at hr;subst hr;rfl) (by rfl) (Nat.le_of_ble_eq_true rfl) (by simp;first|omega|(simp only [oZ] at *;omega)) ?_)
      (repeat first|refine sN rfl ?_|((first|refine sX rfl ?_ ?_|refine s4 rfl ‹_› rfl ?_ ?_);first|exact tI|omega|(simp only[oZ] at *;omega))|(refine s2 rfl ?_;intro _ _hb)|(refine s3 rfl ?_ ?_<;>intro hb<;>subst hb)|refine aS ?_|refine reg (by kernel_rfl) ?_|refine lexE ?_|refine rD (by kernel_rfl) (by kernel_rfl) ?_)
      refine ⟨⟨j+1,by first|omega|(simp only [oZ] at *;omega)⟩,by dsimp only;(first|omega|(simp only [oZ] at *;omega)),[1],?_⟩
      simp [EnvSub,StoreSub,look_cons,nm,E.ren,C.ren,C.renL,O.ren,killc,kill0,Function.comp_def,argsFrom,zC,hΓ,hst2]
    · obtain rfl:j=r.length:=by first|omega|(simp only [oZ] at *;omega)
      refine AWp.exit ?_
      rw [List.take_length] at hA2
      subst hA2
      (repeat first|refine sN rfl ?_|((first|refine sM rfl ?_ ?_|refine s4 rfl ‹_› rfl ?_ ?_);first|exact tI|omega|(simp only[oZ] at *;omega))|(refine s2 rfl ?_;intro _ _hb)|(refine s3 rfl ?_ ?_<;>intro hb<;>subst hb)|refine aS ?_|refine reg (by kernel_rfl) ?_|refine lexE ?_|refine rD (by kernel_rfl) (by kernel_rfl) ?_)
      refine ⟨⟨m+1,by first|omega|(simp only [oZ] at *;omega)⟩,by dsimp only;(first|omega|(simp only [oZ] at *;omega)),[0],?_⟩
      simp [EnvSub,StoreSub,look_cons,nm,E.ren,C.ren,C.renL,O.ren,killc,kill0,Function.comp_def,argsFrom,zC,hΓ,hstep,-List.getD_eq_getElem?_getD]
  · obtain rfl:m=at'.length:=by first|omega|(simp only [oZ] at *;omega)
    refine AWp.exit ?_
    (repeat first|refine sN rfl ?_|((first|refine sM rfl ?_ ?_|refine s4 rfl ‹_› rfl ?_ ?_);first|exact tI|omega|(simp only[oZ] at *;omega))|(refine s2 rfl ?_;intro _ _hb)|(refine s3 rfl ?_ ?_<;>intro hb<;>subst hb)|refine aS ?_|refine reg (by kernel_rfl) ?_|refine lexE ?_|refine rD (by kernel_rfl) (by kernel_rfl) ?_)
    rw [List.take_length] at hA1
    subst hA1
    refine AWp.freeze [0] [(10,eInts (closN mv dist at' k d))] ⟨⟨_,rfl,.o (.full (by simp) rfl (by simp [Function.comp_def,closN]) (by simp))⟩,trivial⟩ ?_
    refine AWp.ret ⟨_,rfl,rfl⟩
end Go.Am
namespace Go.Am
open Go
structure Gr where
  N:Nat
  succ:Int→Int→List Int
  goal:Int→Bool
  ls:List Int
  s0:Int
structure GrOk (g:Gr):Prop where
  s0:0≤g.s0∧g.s0 < g.N
  inn:∀x:Int,0≤x∧x < g.N→∀l∈g.ls,∀y∈g.succ x l,0≤y∧y < g.N
  srt:g.ls.Pairwise (· < ·)
def reach (g:Gr):List Int→Int→Int→Prop
  | [],a,x=>a=x
  | l::w,a,x=>∃y∈g.succ a l,reach g w y x
def over (g:Gr) (w:List Int):Prop:=∀l∈w,l∈g.ls
def hit (g:Gr) (w:List Int):Prop:=∃x,reach g w g.s0 x∧g.goal x=true
def llt:List Int→List Int→Prop
  | a::u,b::w=>a < b∨a=b∧llt u w
  | _,_=>False
def slt (u w:List Int):Prop:=u.length < w.length∨u.length=w.length∧llt u w
def IsAns (g:Gr):Option (List Int)→Prop
  | some w=>over g w∧hit g w∧∀u,over g u→hit g u→¬slt u w
  | none=>∀u,over g u→¬hit g u
theorem reach_snoc {g:Gr}:∀ {w:List Int} {l a x:Int},reach g (w++[l]) a x↔∃y,reach g w a y∧x∈g.succ y l
  | [],l,a,x=>by simp [reach]
  | m::w,l,a,x=>by
    simp only [List.cons_append,reach,reach_snoc]
    constructor
    · rintro ⟨y,hy,z,hz,hx⟩;exact ⟨z,⟨y,hy,hz⟩,hx⟩
    · rintro ⟨z,⟨y,hy,hz⟩,hx⟩;exact ⟨y,hy,z,hz,hx⟩
theorem reach_in {g:Gr} (hg:GrOk g):∀ {w:List Int} {a x:Int},over g w→(0≤a∧a < g.N)→reach g w a x→0≤x∧x < g.N
  | [],a,x,_,ha,h=>by have h:a=x:=h;subst h;exact ha
  | l::w,a,x,ho,ha,h=>by
    obtain ⟨y,hy,h⟩:=h
    exact reach_in hg (fun m hm=>ho m (by simp [hm])) (hg.inn a ha l (ho l (by simp)) y hy) h
theorem over_snoc {g:Gr} {w:List Int} {l:Int}:over g (w++[l])↔over g w∧l∈g.ls:=by
  unfold over;simp only [List.mem_append,List.mem_singleton]
  constructor
  · intro h;exact ⟨fun m hm=>h m (.inl hm),h l (.inr rfl)⟩
  · rintro ⟨h1,h2⟩ m (hm|rfl);exact h1 m hm;exact h2
theorem llt_snoc:∀ {u w:List Int} {m l:Int},u.length=w.length→(llt (u++[m]) (w++[l])↔llt u w∨u=w∧m < l)
  | [],[],m,l,_=>by simp [llt]
  | [],b::w,m,l,h=>by simp at h
  | a::u,[],m,l,h=>by simp at h
  | a::u,b::w,m,l,h=>by
    simp only [List.cons_append,llt,llt_snoc (u:=u) (w:=w) (by simpa using h),List.cons.injEq]
    constructor
    · rintro (h|⟨h1,h2|⟨h2,h3⟩⟩)
      · exact .inl (.inl h)
      · exact .inl (.inr ⟨h1,h2⟩)
      · exact .inr ⟨⟨h1,h2⟩,h3⟩
    · rintro ((h|⟨h1,h2⟩)|⟨⟨h1,h2⟩,h3⟩)
      · exact .inl h
      · exact .inr ⟨h1,.inl h2⟩
      · exact .inr ⟨h1,.inr ⟨h2,h3⟩⟩
theorem llt_tri:∀ {u w:List Int},u.length=w.length→llt u w∨u=w∨llt w u
  | [],[],_=>.inr (.inl rfl)
  | [],b::w,h=>by simp at h
  | a::u,[],h=>by simp at h
  | a::u,b::w,h=>by
    simp only [llt,List.cons.injEq]
    have h1:=llt_tri (u:=u) (w:=w) (by simpa using h)
    rcases Int.lt_trichotomy a b with h2|h2|h2
    · exact .inl (.inl h2)
    · rcases h1 with h1|h1|h1
      · exact .inl (.inr ⟨h2,h1⟩)
      · exact .inr (.inl ⟨h2,h1⟩)
      · exact .inr (.inr (.inr ⟨h2.symm,h1⟩))
    · exact .inr (.inr (.inl h2))
theorem slt_tri {u w:List Int} (h1:¬slt u w) (h2:¬slt w u):u=w:=by
  unfold slt at h1 h2
  have hl:u.length=w.length:=by omega
  rcases llt_tri hl with h|h|h
  · exact absurd (.inr ⟨hl,h⟩) h1
  · exact h
  · exact absurd (.inr ⟨hl.symm,h⟩) h2
theorem IsAns.unique {g:Gr} {r s:Option (List Int)} (hr:IsAns g r) (hs:IsAns g s):r=s:=by
  cases r with
  | none=>
    cases s with
    | none=>rfl
    | some w=>exact absurd hs.2.1 (hr w hs.1)
  | some v=>
    cases s with
    | none=>exact absurd hr.2.1 (hs v hr.1)
    | some w=>rw [slt_tri (hs.2.2 v hr.1 hr.2.1) (hr.2.2 w hs.1 hs.2.1)]
theorem least_of:∀(l:List Int) (Q:Int→Prop),(∃x∈l,Q x)→∃x∈l,Q x∧∀y∈l,Q y→¬y < x
  | [],Q,h=>by obtain ⟨x,hx,_⟩:=h;cases hx
  | a::l,Q,h=>by
    by_cases ht:∃x∈l,Q x
    · obtain ⟨x,hx,hq,hm⟩:=least_of l Q ht
      by_cases ha:Q a∧a < x
      · refine ⟨a,by simp,ha.1,fun y hy hqy=>?_⟩
        rcases List.mem_cons.1 hy with rfl|hy
        · omega
        · have:=hm y hy hqy;omega
      · refine ⟨x,by simp [hx],hq,fun y hy hqy=>?_⟩
        rcases List.mem_cons.1 hy with rfl|hy
        · exact fun hlt=>ha ⟨hqy,hlt⟩
        · exact hm y hy hqy
    · obtain ⟨x,hx,hq⟩:=h
      rcases List.mem_cons.1 hx with rfl|hx
      · refine ⟨x,by simp,hq,fun y hy hqy=>?_⟩
        rcases List.mem_cons.1 hy with rfl|hy
        · omega
        · exact absurd ⟨y,hy,hqy⟩ ht
      · exact absurd ⟨x,hx,hq⟩ ht
theorem least_word (ls:List Int):∀(n:Nat) (Q:List Int→Prop),(∃u:List Int,u.length=n∧(∀l∈u,l∈ls)∧Q u)→∃u:List Int,u.length=n∧(∀l∈u,l∈ls)∧Q u∧∀v:List Int,v.length=n→(∀l∈v,l∈ls)→Q v→¬llt v u
  | 0,Q,⟨u,h1,h2,h3⟩=>by
    have:u=[]:=List.length_eq_zero_iff.1 h1
    subst this
    exact ⟨[],rfl,h2,h3,fun v hv _ _=>by have:v=[]:=List.length_eq_zero_iff.1 hv;subst this;exact fun h=>h⟩
  | n+1,Q,⟨u,h1,h2,h3⟩=>by
    cases u with
    | nil=>simp at h1
    | cons a u=>
      obtain ⟨x,hx,⟨u1,h4,h5,h6⟩,hm⟩:=least_of ls (fun x=>∃u:List Int,u.length=n∧(∀l∈u,l∈ls)∧Q (x::u)) ⟨a,h2 a (by simp),u,by simpa using h1,fun l hl=>h2 l (by simp [hl]),h3⟩
      obtain ⟨u2,h7,h8,h9,h10⟩:=least_word ls n (fun u=>Q (x::u)) ⟨u1,h4,h5,h6⟩
      refine ⟨x::u2,by simp [h7],fun l hl=>by rcases List.mem_cons.1 hl with rfl|hl;exact hx;exact h8 l hl,h9,fun v hv hvl hq=>?_⟩
      cases v with
      | nil=>simp at hv
      | cons b v=>
        have hb:=hm b (hvl b (by simp)) ⟨v,by simpa using hv,fun l hl=>hvl l (by simp [hl]),hq⟩
        rintro (h|⟨h,h'⟩)
        · exact hb h
        · subst h;exact h10 v (by simpa using hv) (fun l hl=>hvl l (by simp [hl])) hq h'
theorem exists_ans (g:Gr):∃r,IsAns g r:=by
  by_cases h:∃u,over g u∧hit g u
  · have key:∀n,(∃u,u.length≤n∧over g u∧hit g u)→∃m,(∃u,u.length=m∧over g u∧hit g u)∧∀u,over g u→hit g u→m≤u.length:=by
      intro n
      induction n with
      | zero=>
        rintro ⟨u,h1,h2,h3⟩
        exact ⟨0,⟨u,by omega,h2,h3⟩,fun _ _ _=>Nat.zero_le _⟩
      | succ n ih=>
        rintro ⟨u,h1,h2,h3⟩
        by_cases hx:∃u,u.length≤n∧over g u∧hit g u
        · exact ih hx
        · refine ⟨n+1,⟨u,?_,h2,h3⟩,fun v hv hv'=>?_⟩
          · have:¬u.length≤n:=fun h=>hx ⟨u,h,h2,h3⟩
            omega
          · have:¬v.length≤n:=fun h=>hx ⟨v,h,hv,hv'⟩
            omega
    obtain ⟨u,hu⟩:=h
    obtain ⟨m,⟨v,h1,h2,h3⟩,hm⟩:=key u.length ⟨u,Nat.le_refl _,hu⟩
    obtain ⟨w,h4,h5,h6,h7⟩:=least_word g.ls m (hit g) ⟨v,h1,h2,h3⟩
    refine ⟨some w,h5,h6,fun u hu hh=>?_⟩
    rintro (h|⟨h,h'⟩)
    · have:=hm u hu hh;omega
    · exact h7 u (by omega) hu hh h'
  · exact ⟨none,fun u hu hh=>h ⟨u,hu,hh⟩⟩
structure DistG (g:Gr) (dx:Int→Int):Prop where
  zero:∀x:Int,0≤x∧x < g.N→(dx x=0↔g.goal x=true)
  step:∀x:Int,0≤x∧x < g.N→0 < dx x→∃l∈g.ls,∃j∈g.succ x l,dx j=dx x - 1
  close:∀x:Int,0≤x∧x < g.N→∀l∈g.ls,∀j∈g.succ x l,0≤dx j→0≤dx x∧dx x≤dx j+1
theorem DistG.far {g:Gr} (hg:GrOk g) {dx:Int→Int} (h:DistG g dx):∀ {u:List Int} {a x:Int},over g u→(0≤a∧a < g.N)→reach g u a x→0≤dx x→0≤dx a∧dx a≤u.length+dx x
  | [],a,x,_,_,hr,h0=>by have hr:a=x:=hr;subst hr;simp;exact h0
  | l::u,a,x,ho,ha,⟨y,hy,hr⟩,h0=>by
    have hl:=ho l (by simp)
    have hyin:=hg.inn a ha l hl y hy
    have h1:=DistG.far hg h (fun m hm=>ho m (by simp [hm])) hyin hr h0
    have h2:=h.close a ha l hl y hy h1.1
    simp only [List.length_cons];push_cast;omega
structure WInv (g:Gr) (dx:Int→Int) (w:List Int) (at':List Int) (d:Int):Prop where
  ov:over g w
  ne:at'≠[]
  acc:AccOk g.N at'
  mem:∀x,x∈at'↔reach g w g.s0 x∧dx x=d
  len:w.length+d=dx g.s0
  d0:0≤d
  min:∀u,over g u→u.length=w.length→llt u w→∀x,reach g u g.s0 x→dx x≠d
theorem WInv.init {g:Gr} (hg:GrOk g) {dx:Int→Int} (h0:0≤dx g.s0):WInv g dx [] [g.s0] (dx g.s0):=
  ⟨fun l hl=>(by cases hl),by simp,⟨by simp,fun x hx=>by simp at hx;subst hx;exact hg.s0⟩,fun x=>by simp [reach];constructor<;>intro h<;>simp_all,by simp,h0,fun u _ hu hl=>by
    have:u=[]:=List.length_eq_zero_iff.1 hu
    subst this;exact hl.elim⟩
theorem WInv.ans {g:Gr} (hg:GrOk g) {dx:Int→Int} (hd:DistG g dx) {w at':List Int} (h:WInv g dx w at' 0):IsAns g (some w):=by
  refine ⟨h.ov,?_,fun u hu hh=>?_⟩
  · cases at' with
    | nil=>exact absurd rfl h.ne
    | cons x l=>
      have h1:=(h.mem x).1 (by simp)
      exact ⟨x,h1.1,(hd.zero x (h.acc.2 x (by simp))).1 h1.2⟩
  · obtain ⟨x,hx,hgx⟩:=hh
    have hz:=(hd.zero x (reach_in hg hu hg.s0 hx)).2 hgx
    have h1:=hd.far hg hu hg.s0 hx (by omega)
    have h2:=h.len
    rintro (h3|⟨h3,h4⟩)
    · omega
    · exact h.min u hu h3 h4 x hx hz
theorem ans_none {g:Gr} (hg:GrOk g) {dx:Int→Int} (hd:DistG g dx) (h:dx g.s0 < 0):IsAns g none:=by
  rintro u hu ⟨x,hx,hgx⟩
  have hz:=(hd.zero x (reach_in hg hu hg.s0 hx)).2 hgx
  have h1:=hd.far hg hu hg.s0 hx (by omega)
  omega
theorem WInv.prog {g:Gr} {dx:Int→Int} (hd:DistG g dx) {w at':List Int} {d:Int} (h:WInv g dx w at' d) (hp:0 < d):∃l∈g.ls,∃x∈at',∃y∈g.succ x l,dx y=d - 1:=by
  cases at' with
  | nil=>exact absurd rfl h.ne
  | cons x l=>
    have h1:=(h.mem x).1 (by simp)
    obtain ⟨l,hl,j,hj,hdj⟩:=hd.step x (h.acc.2 x (by simp)) (by omega)
    exact ⟨l,hl,x,by simp,j,hj,by omega⟩
theorem WInv.next {g:Gr} (hg:GrOk g) {dx:Int→Int} (hd:DistG g dx) {w at':List Int} {d:Int} (h:WInv g dx w at' d) (hp:0 < d) {l:Int} (hl:l∈g.ls) {at2:List Int} (ha:AccOk g.N at2) (hne:at2≠[])
    (hm:∀y,y∈at2↔∃x∈at',y∈g.succ x l∧dx y=d - 1) (hless:∀m∈g.ls,m < l→¬∃x∈at',∃y∈g.succ x m,dx y=d - 1):WInv g dx (w++[l]) at2 (d - 1):=by
  have hlen:=h.len
  have key:∀u m x y,over g u→u.length=w.length→m∈g.ls→reach g u g.s0 x→y∈g.succ x m→dx y=d - 1→dx x=d:=by
    intro u m x y hu hul hm hx hy hdy
    have hxin:=reach_in hg hu hg.s0 hx
    have h1:=hd.close x hxin m hm y hy (by omega)
    have h2:=hd.far hg hu hg.s0 hx (by omega)
    omega
  refine ⟨over_snoc.2 ⟨h.ov,hl⟩,hne,ha,fun y=>?_,by simp;omega,by omega,fun u hu hul hlt y hy hdy=>?_⟩
  · rw [hm,reach_snoc]
    constructor
    · rintro ⟨x,hx,hy,hdy⟩
      exact ⟨⟨x,((h.mem x).1 hx).1,hy⟩,hdy⟩
    · rintro ⟨⟨x,hx,hy⟩,hdy⟩
      exact ⟨x,(h.mem x).2 ⟨hx,key w l x y h.ov rfl hl hx hy hdy⟩,hy,hdy⟩
  · have hu0:u≠[]:=fun e=>by subst e;simp at hul
    obtain ⟨v,m,rfl⟩:∃v m,u=v++[m]:=⟨u.dropLast,u.getLast hu0,(List.dropLast_concat_getLast hu0).symm⟩
    have hvl:v.length=w.length:=by simpa using hul
    obtain ⟨hv,hmm⟩:=over_snoc.1 hu
    obtain ⟨x,hx,hxy⟩:=reach_snoc.1 hy
    have hdx:=key v m x y hv hvl hmm hx hxy hdy
    rcases (llt_snoc hvl).1 hlt with h1|⟨rfl,h1⟩
    · exact h.min v hv hvl h1 x hx hdx
    · exact hless m hmm h1 ⟨x,(h.mem x).2 ⟨hx,hdx⟩,y,hxy,hdy⟩
def txt (w:List Int):List UInt8:=w.map fun l=>UInt8.ofNat (97+l.toNat)
def ansE (r:Option (List Int)):E:=match r with
  | some w=>.t [(false,[.d (tD (txt w))]),(false,[.d (bD true)])]
  | none=>.t [(false,[.d (tD [])]),(false,[.d (bD false)])]
end Go.Am
namespace Go.Am
open Go Go.Proofs
set_option maxHeartbeats 1000000
attribute [local irreducible] QOp AOp Lex LexO AWp Spec
variable {TB:List (Nat×Obj)}
def gOf (n:Net):Gr:={ N:=(prodI (sizesN n)).toNat,succ:=fun x l=>nextsN n (sizesN n) (decN (sizesN n) x) l,goal:=fun x=>foundN n (decN (sizesN n) x) (rowN n x.toNat),ls:=letters n.ls,s0:=encN (sizesN n) n.st 0 }
theorem letters_sorted (s:Int) (k:Nat):(lettersTo s k).Pairwise (· < ·):=by
  unfold lettersTo
  rw [List.pairwise_map]
  refine (List.pairwise_lt_range.filter _).imp fun {a b} h=>?_
  show ((a:Nat):Int) < ((b:Nat):Int)
  omega
theorem dec_fits {n:Net} (hn:NetOk n) (x:Int):Fits (sizesN n) (decN (sizesN n) x):=decN_fits (fun z hz=>by have:=sizes_pos hn z hz;omega) x
theorem nexts_in {n:Net} (hn:NetOk n) {x l:Int} (hl:l∈letters n.ls) {y:Int} (hy:y∈nextsN n (sizesN n) (decN (sizesN n) x) l):0≤y∧y < prodI (sizesN n):=by
  have h1:=lettersTo_in hl
  have h2:=mixN_in (choL_ok hn (dec_fits hn x) (l:=l) (by omega) (by omega)) [0] 1 (by simp) (by omega) (by simp)
  have:=h2.1 y hy
  omega
theorem gOf_ok {n:Net} (hn:NetOk n) (hst:Fits (sizesN n) n.st):GrOk (gOf n):=by
  have hp:=prod_le hn
  have hz:=hst.enc 0 (by omega)
  refine ⟨?_,fun x _ l hl y hy=>?_,letters_sorted _ _⟩
  · show 0≤encN _ _ _∧encN _ _ _ < ((prodI (sizesN n)).toNat:Int)
    omega
  · show 0≤y∧y < ((prodI (sizesN n)).toNat:Int)
    have:=nexts_in hn hl hy
    omega
theorem movesN_inAll {n:Net} (hn:NetOk n):InAll (movesN n (gOf n).N):=by
  intro x hx r hr j hj
  have hx:x < (gOf n).N:=by simpa [movesN] using hx
  have h1:(movesN n (gOf n).N).getD x []=rowN n x:=by rw [List.getD,movesN_get hx];rfl
  rw [h1] at hr
  obtain ⟨l,hl,rfl⟩:=List.mem_map.1 hr
  have h2:=nexts_in hn hl hj
  have h3:(movesN n (gOf n).N).length=(prodI (sizesN n)).toNat:=by simp [movesN,gOf]
  rw [h3];omega
theorem movesN_row {n:Net} {x:Int} (hx:0≤x∧x < (gOf n).N):(movesN n (gOf n).N).getD x.toNat []=(letters n.ls).map fun l=>(gOf n).succ x l:=by
  rw [List.getD,movesN_get (by omega)]
  have:((x.toNat:Nat):Int)=x:=by omega
  simp [rowN,this,gOf]
theorem distG_of {n:Net} {dist:List Int} (h:DistOk (movesN n (gOf n).N) (fun i=>foundN n (decN (sizesN n) i) (rowN n i)) dist):DistG (gOf n) (fun x=>dist.getD x.toNat 0):=by
  have hN:(movesN n (gOf n).N).length=(gOf n).N:=by simp [movesN]
  refine ⟨fun x hx=>?_,fun x hx hp=>?_,fun x hx l hl j hj hj0=>?_⟩
  · have h1:=h.zero x.toNat (by omega)
    have e:((x.toNat:Nat):Int)=x:=by omega
    rw [e] at h1
    exact h1
  · obtain ⟨r,hr,j,hj,hd⟩:=h.step x.toNat (by omega) hp
    rw [movesN_row hx] at hr
    obtain ⟨l,hl,rfl⟩:=List.mem_map.1 hr
    exact ⟨l,hl,j,hj,hd⟩
  · exact h.close x.toNat (by omega) _ (by rw [movesN_row hx];exact List.mem_map.2 ⟨l,hl,rfl⟩) j hj hj0
theorem mem_fold {dist:List Int} {d y:Int}:∀ {l acc:List Int},y∈l.foldl (addN dist d) acc↔y∈acc∨y∈l∧dist.getD y.toNat 0=d
  | [],acc=>by simp
  | j::l,acc=>by
    rw [List.foldl_cons,mem_fold,addN_eq]
    split<;>grind
theorem mem_clos {mv:List (List (List Int))} {dist:List Int} {k:Nat} {d y:Int} {l:List Int}:y∈closN mv dist l k d↔∃x∈l,y∈(mv.getD x.toNat []).getD k []∧dist.getD y.toNat 0=d:=by
  have key:∀(l acc:List Int),y∈l.foldl (fun acc x=>((mv.getD x.toNat []).getD k []).foldl (addN dist d) acc) acc↔y∈acc∨∃x∈l,y∈(mv.getD x.toNat []).getD k []∧dist.getD y.toNat 0=d:=by
    intro l
    induction l with
    | nil=>intro acc;simp
    | cons a l ih=>
      intro acc
      rw [List.foldl_cons,ih,mem_fold]
      grind
  unfold closN
  rw [key];simp
theorem clos_row {n:Net} {dist l:List Int} {k:Nat} {m:Int} (hm:(letters n.ls)[k]? = some m) (hl:∀x∈l,0≤x∧x < (gOf n).N) {d y:Int} :
    y∈closN (movesN n (gOf n).N) dist l k d↔∃x∈l,y∈(gOf n).succ x m∧dist.getD y.toNat 0=d:=by
  rw [mem_clos]
  constructor
  · rintro ⟨x,hx,hy,hd⟩
    rw [movesN_row (hl x hx)] at hy
    exact ⟨x,hx,by simpa [List.getD,hm] using hy,hd⟩
  · rintro ⟨x,hx,hy,hd⟩
    exact ⟨x,hx,by rw [movesN_row (hl x hx)];simpa [List.getD,hm] using hy,hd⟩
theorem prodI_step:∀ {zs:List Int} {k:Nat} {z:Int},zs[k]? = some z→prodI (zs.take (k+1))=prodI (zs.take k)*z
  | [],k,z,h=>by simp at h
  | a::zs,0,z,h=>by simp at h;subst h;simp [prodI]
  | a::zs,k+1,z,h=>by
    simp only [List.take_succ_cons,prodI]
    rw [prodI_step (by simpa using h),Int.mul_assoc]
def dl (f:Nat→Int) (N i:Nat):List Int:=(List.range i).map f++List.replicate (N - i) 0
theorem dl_len {f:Nat→Int} {N i:Nat} (h:i≤N):(dl f N i).length=N:=by simp [dl];omega
theorem dl_get {f:Nat→Int} {N i:Nat} (h:i < N):(dl f N i)[i]? = some 0:=by
  unfold dl
  rw [List.getElem?_append_right (by simp)]
  have:0 < N - i:=by omega
  simp [this]
theorem dl_set {f:Nat→Int} {N i:Nat} (h:i < N):(dl f N i).set i (f i)=dl f N (i+1):=by
  unfold dl
  rw [List.set_append_right _ _ (by simp)]
  have:N - i=(N - (i+1))+1:=by omega
  rw [this,List.range_succ,List.map_append]
  simp [List.replicate_succ]
end Go.Am
namespace Go.Am
open Go Go.Proofs
set_option maxHeartbeats 1000000
attribute [local irreducible] QOp AOp Lex LexO AWp Spec
variable {TB:List (Nat×Obj)}
theorem idx_lt {l:List Int} (h:l.Pairwise (· < ·)) {i j:Nat} {a b:Int} (hi:l[i]? = some a) (hj:l[j]? = some b) (hab:a < b):i < j:=by
  obtain ⟨h1,rfl⟩:=List.getElem?_eq_some_iff.1 hi
  obtain ⟨h2,rfl⟩:=List.getElem?_eq_some_iff.1 hj
  rw [List.pairwise_iff_getElem] at h
  rcases Nat.lt_trichotomy i j with h3|h3|h3
  · exact h3
  · subst h3;omega
  · have:=h j i h2 h1 h3;omega
theorem l4First_ok {n:Net} (hn:NetOk n) (hk:KdOk n) (hst:Fits (sizesN n) n.st) {r:Option (List Int)} (hr:IsAns (gOf n) r):Pure Tryz.prog TB 103 [eNet n] (ansE r):=by
  have hpr:=prod_le hn
  have hg:=gOf_ok hn hst
  have hnp:=hn.np
  have hna:=hn.na
  have hzl:=sizesN_len hn
  have hll:(letters n.ls).length≤6:=lettersTo_len n.ls 6
  have hpos:=sizes_pos hn
  have hsz:=l4Sizes_ok (TB:=TB) n (by omega)
  have hmv:=l4Moves_ok (TB:=TB) hn (gOf n).N (by show (prodI (sizesN n)).toNat≤1048576;omega)
  have hpN:prodI (sizesN n)=(((gOf n).N:Nat):Int):=by show _=(((prodI (sizesN n)).toNat:Nat):Int);omega
  have hNle:(gOf n).N≤1048576:=by omega
  have hml:(movesN n (gOf n).N).length=(gOf n).N:=by simp [movesN]
  have hdec:∀(x:Nat),x < (gOf n).N→Pure Tryz.prog TB 131 [eInts (sizesN n),eI .i64 x] (eInts (decN (sizesN n) x)):=fun x hx=>
    l4Decode_ok _ _ (by omega) (by omega) (fun z hz=>by have:=hpos z hz;omega) (by omega)
  have hfnd:∀(x:Nat),Pure Tryz.prog TB 130 [eNet n,eInts (decN (sizesN n) x),eIntss (rowN n x)] (eB (foundN n (decN (sizesN n) x) (rowN n x))):=fun x=>l4Found_ok hn hk (dec_fits hn _) _
  have hencc:=l4Encode_ok (TB:=TB) (sizesN n) n.st hst (by omega)
  have hlet:=l1Letters_ok (TB:=TB) n.ls
  have hdist:=fun dist h1 h2=>l4Dist_ok (TB:=TB) (movesN n (gOf n).N) (fun i=>foundN n (decN (sizesN n) i) (rowN n i)) dist (movesN_inAll hn) (by omega) h1 h2
  refine eN Tryz.func103 rfl (by kernel_rfl) rfl ?_;intro Γ hΓ
  (repeat first|refine sN rfl ?_|((first|refine sA rfl ?_ ?_|refine s4 rfl ‹_› rfl ?_ ?_);first|exact tI|omega|(simp only[oZ] at *;omega))|(refine s2 rfl ?_;intro _ _hb) |refine sP rfl (hsz) rfl ?_|(refine s3 rfl ?_ ?_<;>intro hb<;>subst hb)|refine aS ?_|refine reg (by kernel_rfl) ?_|refine lexE ?_|refine rD (by kernel_rfl) (by kernel_rfl) ?_)
  refine AWp.block ?_
  refine AWp.loopL (α:={k:Nat // k≤(sizesN n).length}) (fun ⟨k,hkl⟩=>[(1,.o (.ip (nRow n))),(4,eInts (sizesN n)),(5,eI .i64 (prodI ((sizesN n).take k))),(6,eI .i64 k)]) (fun ⟨k,hkl⟩=>[]) 0 (fun ⟨k,hkl⟩=>(sizesN n).length - k) (⟨0,by omega⟩) [] (by first|(simp [hΓ];done)|(rw [hΓ];decide)) (by (repeat' (first|exact trivial|rfl|refine And.intro ?_ ?_))<;>simp [EnvSub,StoreSub,look_cons,nm,E.ren,C.ren,C.renL,O.ren,killc,kill0,Function.comp_def,argsFrom,zC,hΓ,prodI]) ?_;rintro ⟨k,hkl⟩;(try dsimp only)
  (repeat first|refine sN rfl ?_|((first|refine sA rfl ?_ ?_|refine s4 rfl ‹_› rfl ?_ ?_);first|exact tI|omega|(simp only[oZ] at *;omega))|(refine s2 rfl ?_;intro _ _hb)|(refine s3 rfl ?_ ?_<;>intro hb<;>subst hb)|refine aS ?_|refine reg (by kernel_rfl) ?_|refine lexE ?_|refine rD (by kernel_rfl) (by kernel_rfl) ?_)
  (refine aC rfl ?_ ?_<;>intro hb<;>cases hb)
  · obtain ⟨z,hz⟩:=get_some (l:=sizesN n) (k:=k) (by first|omega|(simp only [oZ] at *;omega))
    have hz':=get_map (g:=iRow) hz
    have h1:=prodI_step hz
    have h2:=prodI_le ((sizesN n).take (k+1)) fun z hz=>hpos z (List.mem_of_mem_take hz)
    have h3:=(hst.take (k+1)).2
    rw [h1] at h2 h3
    refine AWp.skip ?_
    refine AWp.seq (AWp.block ?_)
    (repeat first|refine sN rfl ?_|((first|refine sA rfl ?_ ?_|refine s4 rfl ‹_› rfl ?_ ?_);first|exact tI|omega|(simp only[oZ] at *;omega))|(refine s2 rfl ?_;intro _ _hb)|(refine s3 rfl ?_ ?_<;>intro hb<;>subst hb)|refine aS ?_|refine reg (by kernel_rfl) ?_|refine lexE ?_|refine rD (by kernel_rfl) (by kernel_rfl) ?_)
    refine ⟨⟨k+1,by first|omega|(simp only [oZ] at *;omega)⟩,by dsimp only;(first|omega|(simp only [oZ] at *;omega)),[],?_⟩
    simp [EnvSub,StoreSub,look_cons,nm,E.ren,C.ren,C.renL,O.ren,killc,kill0,Function.comp_def,argsFrom,zC,hΓ,h1]
  obtain rfl:k=(sizesN n).length:=by first|omega|(simp only [oZ] at *;omega)
  refine AWp.exit ?_
  rw [List.take_length,hpN]
  generalize hNN:(gOf n).N=N at *
  generalize hmm:movesN n N=mv at *
  (repeat first|refine sN rfl ?_|((first|refine sM rfl ?_ ?_|refine s4 rfl ‹_› rfl ?_ ?_);first|exact tI|omega|(simp only[oZ] at *;omega))|(refine s2 rfl ?_;intro _ _hb) |refine sP rfl (hmv) rfl ?_|(refine s3 rfl ?_ ?_<;>intro hb<;>subst hb)|refine aS ?_|refine reg (by kernel_rfl) ?_|refine lexE ?_|refine rD (by kernel_rfl) (by kernel_rfl) ?_)
  (refine popO rfl ?_;refine popW ?_ rfl (by rfl);refine n_make rfl rfl (by rfl) (by rfl) (Nat.le_of_ble_eq_true rfl) (by omega) (by omega) (by omega) ?_)
  (repeat first|refine sN rfl ?_|((first|refine sM rfl ?_ ?_|refine s4 rfl ‹_› rfl ?_ ?_);first|exact tI|omega|(simp only[oZ] at *;omega))|(refine s2 rfl ?_;intro _ _hb)|(refine s3 rfl ?_ ?_<;>intro hb<;>subst hb)|refine aS ?_|refine reg (by kernel_rfl) ?_|refine lexE ?_|refine rD (by kernel_rfl) (by kernel_rfl) ?_)
  refine AWp.block ?_
  refine AWp.loopL (α:={i:Nat // i≤N}) (fun ⟨i,hi⟩=>[(1,.o (.ip (nRow n))),(4,eInts (sizesN n)),(5,eI .i64 N),(7,eIntsss mv),(8,.o (.arr 0 1 0 N)),(9,eI .i64 i)]) (fun ⟨i,hi⟩=>[(0,.cells 3 1 ((dl (fun j=>if foundN n (decN (sizesN n) (j:Nat)) (rowN n j) then 0 else -1) N i).map iRowC))]) 1 (fun ⟨i,hi⟩=>N - i) (⟨0,by omega⟩) [0] (by first|(simp [hΓ];done)|(rw [hΓ];decide)) (by (repeat' (first|exact trivial|rfl|refine And.intro ?_ ?_))<;>simp [EnvSub,StoreSub,look_cons,nm,E.ren,C.ren,C.renL,O.ren,killc,kill0,Function.comp_def,argsFrom,zC,hΓ,dl]) ?_;rintro ⟨i,hi⟩;(try dsimp only)
  (repeat first|refine sN rfl ?_|((first|refine sM rfl ?_ ?_|refine s4 rfl ‹_› rfl ?_ ?_);first|exact tI|omega|(simp only[oZ] at *;omega))|(refine s2 rfl ?_;intro _ _hb)|(refine s3 rfl ?_ ?_<;>intro hb<;>subst hb)|refine aS ?_|refine reg (by kernel_rfl) ?_|refine lexE ?_|refine rD (by kernel_rfl) (by kernel_rfl) ?_)
  (refine aC rfl ?_ ?_<;>intro hb<;>cases hb)
  · have hiN:i < N:=by first|omega|(simp only [oZ] at *;omega)
    have hd0:=dl_get (f:=fun j=>if foundN n (decN (sizesN n) (j:Nat)) (rowN n j) then 0 else -1) hiN
    have hds:=dl_set (f:=fun j=>if foundN n (decN (sizesN n) (j:Nat)) (rowN n j) then 0 else -1) hiN
    have hdl:=dl_len (f:=fun j=>if foundN n (decN (sizesN n) (j:Nat)) (rowN n j) then 0 else -1) (Nat.le_of_lt hiN)
    generalize dl (fun j=>if foundN n (decN (sizesN n) (j:Nat)) (rowN n j) then 0 else -1) N i=cur at *
    have hd0':=get_mapA (g:=iRowC) hd0
    have hd1:(cur.set i (-1))[i]? = some (-1):=by simp [hdl,hiN]
    have hd1':=get_mapA (g:=iRowC) hd1
    rw [←set_mapI (x:=0)] at hd1'
    have hmi:(mv.map iiiRow)[((i:Nat):Int).toNat]? = some (iiiRow (rowN n i)):=by rw [←hmm];exact get_map (movesN_get hiN)
    refine AWp.skip ?_
    refine AWp.seq (AWp.block ?_)
    (repeat' first|refine sN rfl ?_|((first|refine sM rfl ?_ ?_|refine s4 rfl ‹_› rfl ?_ ?_);first|exact tI|omega|(simp only[oZ] at *;omega))|(refine s2 rfl ?_;intro _ _hb) |refine sP rfl (hdec i hiN) rfl ?_|(refine sC rfl (hfnd i) ?_;intro _ _hb)|(refine s3 rfl ?_ ?_<;>intro hb<;>subst hb)|refine aS ?_|refine reg (by kernel_rfl) ?_|refine lexE ?_|refine rD (by kernel_rfl) (by kernel_rfl) ?_|(refine aC rfl ?_ ?_<;>intro hb<;>cases hb)|refine aK ?_|refine aE ?_|refine aB ?_|refine AWp.ret ⟨_,rfl,?_⟩)
    · rw [if_pos (by assumption)] at hds
      refine ⟨⟨i+1,by first|omega|(simp only [oZ] at *;omega)⟩,by dsimp only;(first|omega|(simp only [oZ] at *;omega)),[0],?_⟩
      rw [set_mapI,set_mapI,List.set_set]
      simp [EnvSub,StoreSub,look_cons,nm,E.ren,C.ren,C.renL,O.ren,killc,kill0,Function.comp_def,argsFrom,zC,hΓ,hds]
    · rw [if_neg (by grind)] at hds
      refine ⟨⟨i+1,by first|omega|(simp only [oZ] at *;omega)⟩,by dsimp only;(first|omega|(simp only [oZ] at *;omega)),[0],?_⟩
      rw [set_mapI]
      simp [EnvSub,StoreSub,look_cons,nm,E.ren,C.ren,C.renL,O.ren,killc,kill0,Function.comp_def,argsFrom,zC,hΓ,hds]
  obtain rfl:i=N:=by first|omega|(simp only [oZ] at *;omega)
  refine AWp.exit ?_
  (repeat first|refine sN rfl ?_|((first|refine sM rfl ?_ ?_|refine s4 rfl ‹_› rfl ?_ ?_);first|exact tI|omega|(simp only[oZ] at *;omega))|(refine s2 rfl ?_;intro _ _hb)|(refine s3 rfl ?_ ?_<;>intro hb<;>subst hb)|refine aS ?_|refine reg (by kernel_rfl) ?_|refine lexE ?_|refine rD (by kernel_rfl) (by kernel_rfl) ?_)
  have hdlg:∀x,x < i→(dl (fun j=>if foundN n (decN (sizesN n) (j:Nat)) (rowN n j) then 0 else -1) i i).getD x 0=if foundN n (decN (sizesN n) (x:Nat)) (rowN n x) then 0 else -1:=by
    intro x hx;simp [dl,List.getD,hx]
  have hdll:(dl (fun j=>if foundN n (decN (sizesN n) (j:Nat)) (rowN n j) then 0 else -1) i i).length=i:=dl_len (Nat.le_refl _)
  generalize dl (fun j=>if foundN n (decN (sizesN n) (j:Nat)) (rowN n j) then 0 else -1) i i=d0 at *
  have hdist:=hdist d0 (by omega) (by rw [hml];exact hdlg)
  rw [hml] at hdist
  (refine popO rfl ?_;refine popW ?_ rfl (by rfl);refine n_call [0] rfl rfl hdist ⟨rfl,by simp,by simp⟩ rfl (by simp [EnvSub,StoreSub,look_cons,nm,E.ren,C.ren,C.renL,O.ren,killc,kill0,Function.comp_def,argsFrom,zC,hΓ]) ?_;rintro x0 σ1 nx1 ⟨rfl,rfl,dist,hD,rfl⟩ _)
  refine lexE ?_
  refine AWp.seq ?_
  refine AWp.freeze [0] [(1,.o (.ip (nRow n))),(4,eInts (sizesN n)),(7,eIntsss mv),(8,eInts dist)] ⟨⟨_,rfl,.keep⟩,⟨_,rfl,.keep⟩,⟨_,rfl,.keep⟩,⟨.o (.arr 0 1 0 i),rfl,.o (.full (T:=3) (rows:=dist.map iRowC) (by simp) (by simp [EnvSub,StoreSub,look_cons,nm,E.ren,C.ren,C.renL,O.ren,killc,kill0,Function.comp_def,argsFrom,zC,hΓ,Store.ren,killL,nmo]) (by simp [Function.comp_def]) (by simp [hD.len,hml]))⟩,trivial⟩ ?_
  have hG:DistG (gOf n) (fun x=>dist.getD x.toNat 0):=distG_of (by rw [hNN,hmm];exact hD)
  have hdl:=hD.len
  have hin:=movesN_inAll hn
  rw [hNN,hmm] at hin
  have hrow:∀x:Int,0≤x∧x < i→mv.getD x.toNat []=(letters n.ls).map fun l=>(gOf n).succ x l:=by
    intro x hx;rw [←hmm,←hNN];exact movesN_row (by rw [hNN];exact hx)
  have hrl:∀x,x < mv.length→(mv.getD x []).length=(letters n.ls).length:=by
    intro x hx
    have:=hrow (x:Nat) (by omega)
    rw [Int.toNat_natCast] at this
    rw [this];simp
  have hcl:∀(at':List Int) (k:Nat) (d:Int),AccOk i at'→k < (letters n.ls).length→Pure Tryz.prog TB 134 [eIntsss mv,eInts dist,eInts at',eI .i64 k,eI .i64 d] (eInts (closN mv dist at' k d)):=fun at' k d ha hk=>
    l4Closer_ok mv dist at' k d hin (by omega) hdl (by rw [hml];exact ha.2) (by have:=nodup_len _ _ ha.1 ha.2;omega) (fun x hx=>by rw [hrl x hx];exact hk)
  have hcm:∀(at':List Int) (k:Nat) (d:Int) (m:Int),(letters n.ls)[k]? = some m→AccOk i at'→∀y,y∈closN mv dist at' k d↔∃x∈at',y∈(gOf n).succ x m∧dist.getD y.toNat 0=d:=by
    intro at' k d m hm ha y
    rw [←hmm,←hNN]
    exact clos_row hm (by rw [hNN];exact ha.2)
  have hac:∀(at':List Int) (k:Nat) (d:Int),AccOk i at'→AccOk i (closN mv dist at' k d):=by
    intro at' k d ha
    have:=AccOk.clos hin (dist:=dist) (d:=d) (k:=k) (l:=at') .nil (by rw [hml];exact ha.2)
    rwa [hml] at this
  obtain ⟨s,hs⟩:∃s,encN (sizesN n) n.st 0=s:=⟨_,rfl⟩
  have hgs:(gOf n).s0=s:=hs
  have hsin:=hg.s0
  rw [hgs,hNN] at hsin
  rw [hs] at hencc
  obtain ⟨dd,hdd⟩:=get_some (l:=dist) (k:=s.toNat) (by omega)
  have hdd':(dist.map iRow)[s.toNat]? = some (iRow dd):=by simp [hdd]
  have hddg:dist.getD (gOf n).s0.toNat 0=dd:=by rw [hgs];simp [List.getD,hdd]
  have hs0':([s].map iRow)[(0:Int).toNat]? = some (iRow s):=rfl
  have hbd:=hD.bound s.toNat (by omega)
  have hddb:dist.getD s.toNat 0=dd:=by simp [List.getD,hdd]
  rw [hddb] at hbd
  (repeat first|refine sN rfl ?_|((first|refine sA rfl ?_ ?_|refine s4 rfl ‹_› rfl ?_ ?_);first|exact tI|omega|(simp only[oZ] at *;omega))|(refine s2 rfl ?_;intro _ _hb) |refine sP rfl (hencc) rfl ?_|refine sP rfl (hlet) rfl ?_|(refine s3 rfl ?_ ?_<;>intro hb<;>subst hb)|refine aS ?_|refine reg (by kernel_rfl) ?_|refine lexE ?_|refine rD (by kernel_rfl) (by kernel_rfl) ?_)
  by_cases hneg:dd < 0
  · have hans:=ans_none hg hG (by show dist.getD (gOf n).s0.toNat 0 < 0;rw [hddg];exact hneg)
    have hrr:=IsAns.unique hr hans
    subst hrr
    refine AWp.block ?_
    refine AWp.loopL (α:=Unit) (fun _=>[(12,eT []),(13,eI .i64 dd)]) (fun _=>[]) 0 (fun _=>0) (()) [] (by first|(simp [hΓ];done)|(rw [hΓ];decide)) (by (repeat' (first|exact trivial|rfl|refine And.intro ?_ ?_))<;>simp [EnvSub,StoreSub,look_cons,nm,E.ren,C.ren,C.renL,O.ren,killc,kill0,Function.comp_def,argsFrom,zC,hΓ]) ?_;rintro _;(try dsimp only)
    (repeat first|refine sN rfl ?_|((first|refine sA rfl ?_ ?_|refine s4 rfl ‹_› rfl ?_ ?_);first|exact tI|omega|(simp only[oZ] at *;omega))|(refine s2 rfl ?_;intro _ _hb)|(refine s3 rfl ?_ ?_<;>intro hb<;>subst hb)|refine aS ?_|refine reg (by kernel_rfl) ?_|refine lexE ?_|refine rD (by kernel_rfl) (by kernel_rfl) ?_)
    (refine aC rfl ?_ ?_<;>intro hb<;>cases hb)
    · exfalso;first|omega|(simp only [oZ] at *;omega)
    (repeat' first|refine sN rfl ?_|((first|refine sA rfl ?_ ?_|refine s4 rfl ‹_› rfl ?_ ?_);first|exact tI|omega|(simp only[oZ] at *;omega))|(refine s2 rfl ?_;intro _ _hb)|(refine s3 rfl ?_ ?_<;>intro hb<;>subst hb)|refine aS ?_|refine reg (by kernel_rfl) ?_|refine lexE ?_|refine rD (by kernel_rfl) (by kernel_rfl) ?_|(refine aC rfl ?_ ?_<;>intro hb<;>cases hb)|refine aK ?_|refine aE ?_|refine aB ?_|refine AWp.ret ⟨_,rfl,?_⟩)
    all_goals first
      | (exfalso;first|omega|(simp only [oZ] at *;omega);done)
      | (subst _hb;rw [show decide (dd=0)=false from decide_eq_false (by first|omega|(simp only [oZ] at *;omega))];rfl)
  · have hW0:=WInv.init (dx:=fun x=>dist.getD x.toNat 0) hg (by show 0≤dist.getD (gOf n).s0.toNat 0;rw [hddg];omega)
    have hW0:WInv (gOf n) (fun x=>dist.getD x.toNat 0) [] [s] dd:=by rw [hgs,hddb] at hW0;exact hW0
    refine AWp.block ?_
    refine AWp.loopL (α:={x:List Int×List Int×Int // WInv (gOf n) (fun x=>dist.getD x.toNat 0) x.1 x.2.1 x.2.2}) (fun ⟨⟨w,at',d⟩,hW⟩=>[(7,eIntsss mv),(8,eInts dist),(10,eInts at'),(11,eInts (letters n.ls)),(12,eT (txt w)),(13,eI .i64 d)]) (fun ⟨⟨w,at',d⟩,hW⟩=>[]) 0 (fun ⟨⟨w,at',d⟩,hW⟩=>d.toNat) (⟨([],[s],dd),hW0⟩) [] (by first|(simp [hΓ];done)|(rw [hΓ];decide)) (by (repeat' (first|exact trivial|rfl|refine And.intro ?_ ?_))<;>simp [EnvSub,StoreSub,look_cons,nm,E.ren,C.ren,C.renL,O.ren,killc,kill0,Function.comp_def,argsFrom,zC,hΓ]) ?_;rintro ⟨⟨w,at',d⟩,hW⟩;(try dsimp only)
    simp only at hW
    have hWl:=hW.len
    have hWd:=hW.d0
    have hWa:=hW.acc
    have hWl:(w.length:Int)+d=dd:=by rw [←hddg];exact hWl
    rw [hNN] at hWa
    (repeat first|refine sN rfl ?_|((first|refine sA rfl ?_ ?_|refine s4 rfl ‹_› rfl ?_ ?_);first|exact tI|omega|(simp only[oZ] at *;omega))|(refine s2 rfl ?_;intro _ _hb)|(refine s3 rfl ?_ ?_<;>intro hb<;>subst hb)|refine aS ?_|refine reg (by kernel_rfl) ?_|refine lexE ?_|refine rD (by kernel_rfl) (by kernel_rfl) ?_)
    (refine aC rfl ?_ ?_<;>intro hb<;>cases hb)
    · have hdp:0 < d:=by first|omega|(simp only [oZ] at *;omega)
      obtain ⟨l0,hl0,hx0⟩:=hW.prog hG hdp
      have hlx:∀l:Int,l∈(gOf n).ls→∃k:Nat,(letters n.ls)[k]? = some l:=fun l hl=>List.getElem?_of_mem hl
      have hkp:∀k:Nat,(∀k',k' < k→closN mv dist at' k' (d - 1)=[])→k < (letters n.ls).length:=by
        intro k hk2
        rcases Nat.lt_or_ge k (letters n.ls).length with h|h
        · exact h
        · exfalso
          obtain ⟨j,hj⟩:=hlx l0 hl0
          have h1:=hk2 j (by have:=(List.getElem?_eq_some_iff.1 hj).1;omega)
          obtain ⟨x,hx,y,hy,hdy⟩:=hx0
          have h2:=(hcm at' j (d - 1) l0 hj hWa y).2 ⟨x,hx,hy,hdy⟩
          rw [h1] at h2;cases h2
      have hk0:=hkp 0 (fun k' h=>by omega)
      refine AWp.skip ?_
      refine AWp.seq (AWp.block ?_)
      (repeat first|refine sN rfl ?_|((first|refine sA rfl ?_ ?_|refine s4 rfl ‹_› rfl ?_ ?_);first|exact tI|omega|(simp only[oZ] at *;omega))|(refine s2 rfl ?_;intro _ _hb) |refine sP rfl (hcl at' 0 (d - 1) hWa hk0) rfl ?_|(refine s3 rfl ?_ ?_<;>intro hb<;>subst hb)|refine aS ?_|refine reg (by kernel_rfl) ?_|refine lexE ?_|refine rD (by kernel_rfl) (by kernel_rfl) ?_)
      refine AWp.block ?_
      refine AWp.loopL (α:={k:Nat // ∀k',k' < k→closN mv dist at' k' (d - 1)=[]}) (fun ⟨k,hkk⟩=>[(7,eIntsss mv),(8,eInts dist),(10,eInts at'),(11,eInts (letters n.ls)),(12,eT (txt w)),(13,eI .i64 d),(14,eI .i64 k),(15,eInts (closN mv dist at' k (d - 1)))]) (fun ⟨k,hkk⟩=>[]) 0 (fun ⟨k,hkk⟩=>(letters n.ls).length - k) (⟨0,fun k' h=>by omega⟩) [] (by first|(simp [hΓ];done)|(rw [hΓ];decide)) (by (repeat' (first|exact trivial|rfl|refine And.intro ?_ ?_))<;>simp [EnvSub,StoreSub,look_cons,nm,E.ren,C.ren,C.renL,O.ren,killc,kill0,Function.comp_def,argsFrom,zC,hΓ]) ?_;rintro ⟨k,hkk⟩;(try dsimp only)
      have hkl:=hkp k hkk
      have hacK:=hac at' k (d - 1) hWa
      (repeat first|refine sN rfl ?_|((first|refine sA rfl ?_ ?_|refine s4 rfl ‹_› rfl ?_ ?_);first|exact tI|omega|(simp only[oZ] at *;omega))|(refine s2 rfl ?_;intro _ _hb)|(refine s3 rfl ?_ ?_<;>intro hb<;>subst hb)|refine aS ?_|refine reg (by kernel_rfl) ?_|refine lexE ?_|refine rD (by kernel_rfl) (by kernel_rfl) ?_)
      (refine aC rfl ?_ ?_<;>intro hb<;>cases hb)
      · have hnil:closN mv dist at' k (d - 1)=[]:=List.length_eq_zero_iff.1 (by first|omega|(simp only [oZ] at *;omega))
        have hkk2:∀k',k' < k+1→closN mv dist at' k' (d - 1)=[]:=fun k' h=>by
          rcases Nat.lt_succ_iff_lt_or_eq.1 h with h|h
          · exact hkk k' h
          · rw [h];exact hnil
        have hc2:=hcl at' (k+1) (d - 1) hWa (hkp _ hkk2)
        rw [show (((k+1:Nat)):Int)=(k:Int)+1 from rfl] at hc2
        refine AWp.skip ?_
        refine AWp.block ?_
        (repeat first|refine sN rfl ?_|((first|refine sA rfl ?_ ?_|refine s4 rfl ‹_› rfl ?_ ?_);first|exact tI|omega|(simp only[oZ] at *;omega))|(refine s2 rfl ?_;intro _ _hb) |refine sP rfl (hc2) rfl ?_|(refine s3 rfl ?_ ?_<;>intro hb<;>subst hb)|refine aS ?_|refine reg (by kernel_rfl) ?_|refine lexE ?_|refine rD (by kernel_rfl) (by kernel_rfl) ?_)
        refine ⟨⟨k+1,hkk2⟩,by dsimp only;(first|omega|(simp only [oZ] at *;omega)),[],?_⟩
        simp [EnvSub,StoreSub,look_cons,nm,E.ren,C.ren,C.renL,O.ren,killc,kill0,Function.comp_def,argsFrom,zC,hΓ]
      · obtain ⟨m,hm⟩:=get_some (l:=letters n.ls) (k:=k) hkl
        have hm':=get_map (g:=iRow) hm
        have hmb:=lettersTo_in (List.mem_of_getElem? hm)
        have hne:closN mv dist at' k (d - 1)≠[]:=fun e=>by rw [e] at _hb;simp at _hb
        have hN2:=hW.next hg hG hdp (l:=m) (List.mem_of_getElem? hm) (at2:=closN mv dist at' k (d - 1)) (by rw [hNN];exact hacK) hne (fun y=>by
            rw [hcm at' k (d - 1) m hm hWa y]) (fun m' hm' hlt=>by
            rintro ⟨x,hx,y,hy,hdy⟩
            obtain ⟨j,hj⟩:=hlx m' hm'
            have hjk:=idx_lt (letters_sorted n.ls 6) hj hm hlt
            have h2:=(hcm at' j (d - 1) m' hj hWa y).2 ⟨x,hx,hy,hdy⟩
            rw [hkk j hjk] at h2;cases h2)
        have htl:(txt w).length=w.length:=by simp [txt]
        have htx:txt w++[97+UInt8.ofNat m.toNat]=txt (w++[m]):=by simp [txt]
        refine AWp.exit ?_
        (repeat first|refine sN rfl ?_|((first|refine sA rfl ?_ ?_|refine s4 rfl ‹_› rfl ?_ ?_);first|exact tI|omega|(simp only[oZ] at *;omega))|(refine s2 rfl ?_;intro _ _hb) |refine sP rfl (l1Text_ok m (by omega) (by omega)) rfl ?_|(refine s3 rfl ?_ ?_<;>intro hb<;>subst hb)|refine aS ?_|refine reg (by kernel_rfl) ?_|refine lexE ?_|refine rD (by kernel_rfl) (by kernel_rfl) ?_)
        refine ⟨⟨(w++[m],closN mv dist at' k (d - 1),d - 1),hN2⟩,by dsimp only;omega,[],?_⟩
        simp [EnvSub,StoreSub,look_cons,nm,E.ren,C.ren,C.renL,O.ren,killc,kill0,Function.comp_def,argsFrom,zC,hΓ,htx]
    · obtain rfl:d=0:=by first|omega|(simp only [oZ] at *;omega)
      have hans:=hW.ans hg hG
      have hrr:=IsAns.unique hr hans
      subst hrr
      (repeat' first|refine sN rfl ?_|((first|refine sA rfl ?_ ?_|refine s4 rfl ‹_› rfl ?_ ?_);first|exact tI|omega|(simp only[oZ] at *;omega))|(refine s2 rfl ?_;intro _ _hb)|(refine s3 rfl ?_ ?_<;>intro hb<;>subst hb)|refine aS ?_|refine reg (by kernel_rfl) ?_|refine lexE ?_|refine rD (by kernel_rfl) (by kernel_rfl) ?_|(refine aC rfl ?_ ?_<;>intro hb<;>cases hb)|refine aK ?_|refine aE ?_|refine aB ?_|refine AWp.ret ⟨_,rfl,?_⟩)
      all_goals first
        | (subst _hb;rfl)
end Go.Am
namespace Go.Am
open Go Go.Proofs
set_option maxHeartbeats 1000000
attribute [local irreducible] QOp AOp Lex LexO AWp Spec
variable {TB:List (Nat×Obj)}
abbrev ansT (r:Option (List Int)):List UInt8:=(r.map txt).getD []
abbrev eAns (r:Option (List Int)):E:=.t [(false,[.d (tD (ansT r))]),(false,[.d (bD r.isSome)])]
theorem ansE_eq (r:Option (List Int)):ansE r=eAns r:=by cases r<;>rfl
noncomputable def ansOf (g:Gr):Option (List Int):=Classical.choose (exists_ans g)
theorem ansOf_is (g:Gr):IsAns g (ansOf g):=Classical.choose_spec (exists_ans g)
theorem ansOf_eq {g:Gr} {r:Option (List Int)} (h:IsAns g r):ansOf g=r:=IsAns.unique (ansOf_is g) h
theorem iOr_nat {a b:Nat} (ha:a < 64) (hb:b < 64):iOr .i64 a b=((a ||| b:Nat):Int)∧a ||| b < 64:=by
  have h0:a ||| b < 64:=Nat.or_lt_two_pow (n:=6) ha hb
  refine ⟨?_,h0⟩
  unfold iOr
  have h1:(BitVec.ofInt IntKind.i64.bits (a:Int) ||| BitVec.ofInt IntKind.i64.bits (b:Int)).toNat=a ||| b:=by
    have e:IntKind.i64.bits=64:=rfl
    rw [e]
    simp only [BitVec.toNat_or,BitVec.ofInt_natCast,BitVec.toNat_ofNat]
    rw [Nat.mod_eq_of_lt (by omega),Nat.mod_eq_of_lt (by omega)]
  rw [h1]
  exact IntWalk.i64_in _ (by omega)
theorem fits_zero:∀ {zs:List Int},(∀z∈zs,0 < z)→Fits zs (List.replicate zs.length 0)
  | [],_=>.nil
  | z::zs,h=>by
    rw [List.length_cons,List.replicate_succ]
    exact .cons (by omega) (h z (by simp)) (fits_zero fun x hx=>h x (by simp [hx]))
end Go.Am
namespace Go.Am
open Go Go.Proofs
set_option maxHeartbeats 1000000
attribute [local irreducible] QOp AOp Lex LexO AWp Spec
variable {TB:List (Nat×Obj)}
end Go.Am
namespace Go.Am
open Go
end Go.Am
namespace Go.Am
open Go Go.Proofs
set_option maxHeartbeats 1000000
attribute [local irreducible] QOp AOp Lex LexO AWp Spec
variable {TB:List (Nat×Obj)}
end Go.Am
namespace Go.Am
open Go Go.Proofs
set_option maxHeartbeats 1000000
attribute [local irreducible] QOp AOp Lex LexO AWp Spec
variable {TB:List (Nat×Obj)}
theorem renL_d (r:Nat→Nat):∀ds:List D,C.renL r (ds.map .d)=ds.map .d
  | []=>rfl
  | d::l=>by simp [C.renL,C.ren,renL_d r l]
theorem splice_set {r:List C} {j:Nat} {c:C} (h:j < r.length):spliceC r j [c]=r.set j c:=by
  unfold spliceC
  rw [List.set_eq_take_append_cons_drop,if_pos h]
  simp
theorem shl_one {t:Int} (h0:0≤t) (h1:t < 16):IntKind.i64.wrap (1*2 ^ (min t.toNat IntKind.i64.bits))=((2 ^ t.toNat:Nat):Int):=by
  have e:min t.toNat IntKind.i64.bits=t.toNat:=by
    have:IntKind.i64.bits=64:=rfl
    omega
  rw [e,Int.one_mul]
  have h2:2 ^ t.toNat < 2 ^ 16:=Nat.pow_lt_pow_right (by omega) (by omega)
  have h3:(2:Int) ^ t.toNat=((2 ^ t.toNat:Nat):Int):=by push_cast;rfl
  rw [h3]
  generalize 2 ^ t.toNat=p at *
  exact IntWalk.i64_in _ (by omega)
end Go.Am
