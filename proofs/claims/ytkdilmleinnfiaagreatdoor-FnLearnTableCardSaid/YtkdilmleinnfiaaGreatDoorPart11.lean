/-
  Distances.
-/
import Derived.Test.YtkdilmleinnfiaaGreatDoorPart10
import Derived.Test.YtkdilmleinnfiaaGreatDoorPart9
import Derived.Lib.TrailingZeros
set_option linter.constructorNameAsVariable false
set_option linter.unusedSectionVars false
set_option linter.unusedSimpArgs false
set_option linter.unusedVariables false
namespace Go.Am
open Go Go.Proofs
set_option maxHeartbeats 1000000
set_option maxRecDepth 4000
attribute [local irreducible] AY B2 Lex Br Ak Spec
variable {TB:Bw}
theorem GD{α β:Type}{l:List α}{g:α→β}{k:Nat}{x:α}(h:l[k]? = some x):(l.map g)[0+((k:Nat):Int).toNat]? = some (g x):=by simp [h]
theorem GQ{l:List Int}{k:Nat}{x y:Int}:(l.map AB).set (0+((k:Nat):Int).toNat) (Ai (AB x) 0 (eC (eI .i64 y)))=(l.set k y).map AB:=by
 simp [Ai,eC,List.map_set]
def Mb(l:List Int):Nat:=l.countP (decide <| · < 0)
theorem OQ:∀ {l:List Int} {k:Nat} {x y:Int},l[k]? = some x→x < 0→0≤y→Mb (l.set k y)+1=Mb l
 | [],k,x,y,h,_,_=>by simp at h
 | a::l,0,x,y,h,hx,hy=>by
  simp at h;subst h
  have:¬y < 0:=by omega
  simp [Mb,hx,this]
 | a::l,k+1,x,y,h,hx,hy=>by
  have:=OQ (l:=l) (k:=k) (by simpa using h) hx hy
  simp only [Mb,List.set_cons_succ,List.countP_cons] at this ⊢
  omega
theorem MJ{mv:List (List Int)}{dist:List Int}{d:Int}:Iy mv dist d=true↔∃r∈mv,∃j∈r,dist.getD j.toNat 0=d:=by
 simp [Iy,XV]
structure MW (mv:List (List (List Int))) (g:Nat→Bool) (dist:List Int):Prop where
 len:dist.length=mv.length
 zero:∀i,i < mv.length→(dist.getD i 0=0↔g i=true)
 step:∀i,i < mv.length→0 < dist.getD i 0→∃r∈mv.getD i [],∃j∈r,dist.getD j.toNat 0=dist.getD i 0 - 1
 close:∀i,i < mv.length→∀r∈mv.getD i [],∀j∈r,0≤dist.getD j.toNat 0→0≤dist.getD i 0∧dist.getD i 0≤dist.getD j.toNat 0+1
 bound:∀i,i < mv.length→-1≤dist.getD i 0∧dist.getD i 0≤mv.length+1
structure DI (mv:List (List (List Int))) (g:Nat→Bool) (dist:List Int) (d:Int) (more:Bool) (i:Nat):Prop where
 len:dist.length=mv.length
 d1:1≤d
 zero:∀i,i < mv.length→(dist.getD i 0=0↔g i=true)
 step:∀i,i < mv.length→0 < dist.getD i 0→∃r∈mv.getD i [],∃j∈r,dist.getD j.toNat 0=dist.getD i 0 - 1
 lt:∀x,x < mv.length→-1≤dist.getD x 0∧dist.getD x 0≤d
 up:∀x,i≤x→x < mv.length→dist.getD x 0 < d
 last:more=false→∀x,x < mv.length→dist.getD x 0 < d
 close:∀x,x < mv.length→∀r∈mv.getD x [],∀j∈r,0≤dist.getD j.toNat 0→(dist.getD j.toNat 0 < d - 1∨x < i∧dist.getD j.toNat 0=d - 1)→0≤dist.getD x 0∧dist.getD x 0≤dist.getD j.toNat 0+1
def Ky(mv:List (List (List Int))):Prop:=∀x,x < mv.length→∀r∈mv.getD x [],∀j∈r,0≤j∧j < mv.length
theorem On{l:List Int}{k:Nat}{y:Int}(h:k < l.length):(l.set k y).getD k 0=y:=by simp [List.getD,h]
theorem KR{l:List Int}{k x:Nat}{y:Int}(h:k≠x):(l.set k y).getD x 0=l.getD x 0:=by simp [List.getD,h]
theorem DI.set{mv:List (List (List Int))}{g:Nat→Bool}{dist:List Int}{d:Int}{more:Bool}{i:Nat}(h:DI mv g dist d more i)(hi:i < mv.length)(hneg:dist.getD i 0 < 0)(hn:Iy (mv.getD i []) dist (d - 1)=true):DI mv g (dist.set i d) d true (i+1):=by
 have hd1:=h.d1
 have hl:i < dist.length:=by rw [h.len];exact hi
 obtain⟨r0,hr0,j0,hj0,hjd⟩:=MJ.1 hn
 have g1:(dist.set i d).getD i 0=d:=On hl
 have g2:∀x,x≠i→(dist.set i d).getD x 0=dist.getD x 0:=fun x hx=>KR (Ne.symm hx)
 have g3:∀x,0≤dist.getD x 0→(dist.set i d).getD x 0=dist.getD x 0:=fun x hx=>g2 x fun e=>by subst e;omega
 refine⟨by simp [h.len],hd1,fun x hx=>?_,fun x hx hp=>?_,fun x hx=>?_,fun x hx hx'=>?_,fun hm=>(by cases hm),fun x hx r hr j hj hj0' hj1=>?_⟩
 ·by_cases e:x=i
  ·subst e;rw [g1,←h.zero x hx];constructor<;>intro<;>omega
  ·rw [g2 x e];exact h.zero x hx
 ·by_cases e:x=i
  ·subst e;rw [g1] at hp ⊢
   exact⟨r0,hr0,j0,hj0,by rw [g3 _ (by omega)];exact hjd⟩
  ·rw [g2 x e] at hp ⊢
   obtain⟨r,hr,j,hj,hjx⟩:=h.step x hx hp
   exact⟨r,hr,j,hj,by rw [g3 _ (by omega)];exact hjx⟩
 ·by_cases e:x=i
  ·subst e;rw [g1];omega
  ·rw [g2 x e];exact h.lt x hx
 ·rw [g2 x (by omega)];exact h.up x (by omega) hx'
 ·by_cases ej:j.toNat=i
  ·rw [ej,g1] at hj1;omega
  ·rw [g2 _ ej] at hj0' hj1 ⊢
   by_cases e:x=i
   ·subst e;rw [g1]
    refine⟨by omega,?_⟩
    rcases hj1 with h1|⟨_,h1⟩
    ·have:=(h.close x hx r hr j hj hj0' (.inl h1)).1;omega
    ·omega
   ·rw [g2 x e]
    exact h.close x hx r hr j hj hj0' (by rcases hj1 with h1|⟨h1,h2⟩;exact .inl h1;exact .inr ⟨by omega,h2⟩)
theorem DI.Bb{mv:List (List (List Int))}{g:Nat→Bool}{dist:List Int}{d:Int}{more:Bool}{i:Nat}(h:DI mv g dist d more i)(hi:i < mv.length)(hn:dist.getD i 0 < 0→Iy (mv.getD i []) dist (d - 1)=false):DI mv g dist d more (i+1):=by
 refine⟨h.len,h.d1,h.zero,h.step,h.lt,fun x hx hx'=>h.up x (by omega) hx',h.last,fun x hx r hr j hj hj0 hj1=>?_⟩
 rcases hj1 with h1|⟨h1,h2⟩
 ·exact h.close x hx r hr j hj hj0 (.inl h1)
 ·by_cases e:x=i
  ·subst e
   by_cases hx0:dist.getD x 0 < 0
   ·have h3:=hn hx0
    have h4:=MJ.2 ⟨r,hr,j,hj,h2⟩
    rw [h3] at h4;cases h4
   ·have:=h.up x (Nat.le_refl _) hx
    omega
  ·exact h.close x hx r hr j hj hj0 (.inr ⟨by omega,h2⟩)
theorem DI.next{mv:List (List (List Int))}{g:Nat→Bool}{dist:List Int}{d:Int}{more:Bool}(h:DI mv g dist d more mv.length):DI mv g dist (d+1) true 0:=by
 have hd1:=h.d1
 refine⟨h.len,by omega,h.zero,h.step,fun x hx=>?_,fun x _ hx=>?_,fun hm=>(by cases hm),fun x hx r hr j hj hj0 hj1=>?_⟩
 ·have:=h.lt x hx;omega
 ·have:=h.lt x hx;omega
 ·exact h.close x hx r hr j hj hj0 (by omega)
theorem DI.fin{mv:List (List (List Int))}{g:Nat→Bool}{dist:List Int}{d:Int}(hin:Ky mv)(h:DI mv g dist d false mv.length)(hd:d≤mv.length+1):MW mv g dist:=by
 have hd1:=h.d1
 refine⟨h.len,h.zero,h.step,fun x hx r hr j hj hj0=>?_,fun x hx=>?_⟩
 ·have h1:=hin x hx r hr j hj
  have:=h.last rfl j.toNat (by omega)
  exact h.close x hx r hr j hj hj0 (by omega)
 ·have:=h.lt x hx;have:=h.last rfl x hx;omega
structure N0 (mv:List (List (List Int))) (g:Nat→Bool) (dt:List Int) (d:Int) (more:Bool):Prop where
 len:dt.length=mv.length
 d1:1≤d
 d2:d≤mv.length+2
 yes:more=true→DI mv g dt d true 0∧d+Mb dt≤mv.length+1
 no:more=false→MW mv g dt
theorem WQ(l:List Int):Mb l≤l.length:=List.countP_le_length
theorem N0.init{mv:List (List (List Int))}{g:Nat→Bool}{dist:List Int}(hlen:dist.length=mv.length)(h0:∀i,i < mv.length→dist.getD i 0=if g i then 0 else -1):N0 mv g dist 1 true:=by
 have hx:∀x,x < mv.length→-1≤dist.getD x 0∧dist.getD x 0 < 1:=fun x hx=>by have:=h0 x hx;split at this<;>omega
 have hn:=WQ dist
 refine⟨hlen,by omega,by omega,fun _=>⟨⟨hlen,by omega,fun x h=>?_,fun x h hp=>?_,fun x h=>?_,fun x _ h=>(hx x h).2,fun h=>(by cases h),fun x h r hr j hj hj0 hj1=>?_⟩,by omega⟩,fun h=>(by cases h)⟩
 ·have:=h0 x h;split at this<;>simp_all
 ·have:=hx x h;omega
 ·have:=hx x h;omega
 ·omega
structure JW (mv:List (List (List Int))) (g:Nat→Bool) (dt:List Int) (d:Int) (du:List Int) (m2:Bool) (i:Nat):Prop where
 le:i≤mv.length
 di:DI mv g du d m2 i
 cnt:Mb du+(if m2 then 1 else 0)≤Mb dt
theorem JW.init{mv:List (List (List Int))}{g:Nat→Bool}{dt:List Int}{d:Int}(h:DI mv g dt d true 0):JW mv g dt d dt false 0:=
 ⟨Nat.zero_le _,⟨h.len,h.d1,h.zero,h.step,h.lt,h.up,fun _ x hx=>h.up x (Nat.zero_le _) hx,h.close⟩,by simp⟩
theorem JW.set{mv:List (List (List Int))}{g:Nat→Bool}{dt:List Int}{d:Int}{du:List Int}{m2:Bool}{i:Nat}(h:JW mv g dt d du m2 i)(hi:i < mv.length)(hneg:du.getD i 0 < 0)(hn:Iy (mv.getD i []) du (d - 1)=true):JW mv g dt d (du.set i d) true (i+1):=by
 have hl:=h.di.len
 have hd1:=h.di.d1
 have h1:du[i]? = some (du.getD i 0):=by
  have:i < du.length:=by omega
  simp [List.getD,this]
 have h2:=OQ h1 hneg (y:=d) (by omega)
 have h3:=h.cnt
 refine⟨hi,h.di.set hi hneg hn,?_⟩
 simp only [if_true]
 split at h3<;>omega
theorem JW.Bb{mv:List (List (List Int))}{g:Nat→Bool}{dt:List Int}{d:Int}{du:List Int}{m2:Bool}{i:Nat}(h:JW mv g dt d du m2 i)(hi:i < mv.length)(hn:du.getD i 0 < 0→Iy (mv.getD i []) du (d - 1)=false):JW mv g dt d du m2 (i+1):=
 ⟨hi,h.di.Bb hi hn,h.cnt⟩
theorem JW.next{mv:List (List (List Int))}{g:Nat→Bool}{dt:List Int}{d:Int}{du:List Int}{m2:Bool}(hin:Ky mv)(h:JW mv g dt d du m2 mv.length)(hd:d+Mb dt≤mv.length+1):N0 mv g du (d+1) m2:=by
 have hd1:=h.di.d1
 have hc:=h.cnt
 refine⟨h.di.len,by omega,by omega,fun hm=>?_,fun hm=>?_⟩
 ·subst hm
  simp only [if_true] at hc
  exact⟨h.di.next,by omega⟩
 ·subst hm
  exact h.di.fin hin (by omega)
theorem SJ(mv:List (List (List Int)))(g:Nat→Bool)(dist:List Int)(hin:Ky mv)(hN:mv.length≤1048576)(hlen:dist.length=mv.length)(h0:∀i,i < mv.length→dist.getD i 0=if g i then 0 else -1) :
    Spec Tryz.prog TB 283 [(0,.cells 3 1 (dist.map AB))] 1 [CA mv,.o (.arr 0 1 0 mv.length)] (fun x σ nx=>x=.t []∧nx=1∧∃dist',MW mv g dist'∧σ=[(0,.cells 3 1 (dist'.map AB))]):=by
  refine eN Tryz.func283 rfl (by kernel_rfl) rfl ?_;intro Γ hΓ
  (repeat first|refine tM rfl ?_ |refine aU rfl ?_ |refine Aa ?_)
  refine aB ?_
  refine Ak.A4 (α:={x:List Int×Int×Bool // N0 mv g x.1 x.2.1 x.2.2}) (fun ⟨⟨dt,d,more⟩,hH⟩=>[(0,CA mv),(1,.o (.arr 0 1 0 mv.length)),(4,eB more),(5,eI .i64 d)]) (fun ⟨⟨dt,d,more⟩,hH⟩=>[(0,.cells 3 1 (dt.map AB))]) 1 (fun ⟨⟨dt,d,more⟩,hH⟩=>2*Mb dt+(if more then 1 else 0)) (⟨(dist,1,true),N0.init hlen h0⟩) [0] (Eb hΓ rfl rfl) (by (simp[cX,zC,hΓ])) ?_;rintro⟨⟨dt,d,more⟩,hH⟩;(try dsimp only)
  simp only at hH
  (repeat first|refine tM rfl ?_ |refine aU rfl ?_ |refine Aa ?_)
  (refine aC rfl ?_ ?_<;>rintro⟨⟩)
  · obtain⟨hD,hc⟩:=hH.yes rfl
    have hd1:=hD.d1
    refine aK ?_
    refine aS (aB ?_)
    (repeat first|refine tM rfl ?_ |refine aU rfl ?_ |refine Aa ?_)
    refine aB ?_
    refine Ak.A4 (α:={x:List Int×Bool×Nat // JW mv g dt d x.1 x.2.1 x.2.2}) (fun ⟨⟨du,m2,i⟩,hM⟩=>[(0,CA mv),(1,.o (.arr 0 1 0 mv.length)),(4,eB m2),(5,eI .i64 d),(6,eI .i64 i)]) (fun ⟨⟨du,m2,i⟩,hM⟩=>[(0,.cells 3 1 (du.map AB))]) 1 (fun ⟨⟨du,m2,i⟩,hM⟩=>mv.length - i) (⟨(dt,false,0),JW.init hD⟩) [0] (Eb hΓ rfl rfl) (by (simp[cX,zC,hΓ])) ?_;rintro⟨⟨du,m2,i⟩,hM⟩;(try dsimp only)
    simp only at hM
    have hul:=hM.di.len
    have hile:=hM.le
    (repeat first|refine tM rfl ?_ |refine s2 rfl fun _ _hb=>?_ |refine aU rfl ?_ |refine Aa ?_)
    (refine aC rfl ?_ ?_<;>rintro⟨⟩)
    · obtain⟨y,hy⟩:=get_some (l:=du) (k:=i) (by (simp only[oZ] at *;omega))
      have hy':=GD (g:=AB) hy
      obtain⟨mi,hmi⟩:=get_some (l:=mv) (k:=i) (by (simp only[oZ] at *;omega))
      have hmi':=get_map (g:=HB) hmi
      have hilt:i < mv.length:=by (simp only[oZ] at *;omega)
      have hyd:du.getD i 0=y:=by simp [List.getD,hy]
      have hmd:mv.getD i []=mi:=by simp [List.getD,hmi]
      have hset:=hM.set hilt
      have hkeep:=hM.Bb hilt
      rw [hyd,hmd] at hset hkeep
      refine aK ?_
      refine aS (aB ?_)
      (repeat' first|((first|refine sM rfl ?_ ?_|refine s4 rfl ‹_› rfl ?_ ?_);first|exact tI|omega) |refine s2 rfl fun _ _hb=>?_|(refine Ag rfl ?_;refine gA rfl ?_;first| (refine cL (FP rfl rfl ((.cons (.o (.pure rfl)) (.cons (.o (.full rfl (by simp [Function.comp_def]) (by simp [hul]))) (.cons (.o (.pure rfl)) .nil)))) (SL mi du (d - 1) (fun r hr v hv=>by have:=hin i hilt r (by rw [hmd];exact hr) v hv;exact⟨this.1,by omega⟩)) rfl) rfl ?_;intro _ _hb)) |refine s3 rfl ?_ ?_<;>rintro rfl |refine aU rfl ?_ |refine Aa ?_|(refine aC rfl ?_ ?_<;>rintro⟨⟩)|refine aK ?_|refine aE ?_|refine aB ?_|refine aR ⟨_,rfl,?_⟩)
      all_goals first
        | (refine⟨⟨(du,m2,i+1),hkeep (by grind)⟩,by dsimp only;(omega),[0],?_⟩
           simp[cX,zC,hΓ]
           done)
        | (refine⟨⟨(du.set i d,true,i+1),hset (by grind) (by grind)⟩,by dsimp only;(omega),[0],?_⟩
           rw [GQ]
           simp[cX,zC,hΓ]
           done)
    · obtain rfl:i=mv.length:=by (simp only[oZ] at *;omega)
      have hN2:=hM.next hin hc
      have hc2:=hM.cnt
      refine aE ?_
      (repeat first|(refine sM rfl ?_ ?_;first|exact tI|omega) |refine aU rfl ?_ |refine Aa ?_)
      refine⟨⟨(du,d+1,m2),hN2⟩,?_,[0],?_⟩
      · dsimp only
        cases m2<;>simp at hc2 ⊢ <;> omega
      · simp[cX,zC,hΓ]
  · refine aE ?_
    exact⟨_,rfl,rfl,rfl,dt,hH.no rfl,rfl⟩
theorem SP(l:List Int)(a:Int):l.length=l.count a+(l.filter (· != a)).length:=by
 induction l with
 | nil=>rfl
 | cons b l ih=>
  simp only [List.count_cons,List.filter_cons,List.length_cons]
  by_cases h:b=a
  ·subst h;simp;omega
  ·simp [h];omega
theorem DY:∀(n:Nat) (l:List Int),l.Nodup→(∀x∈l,0≤x∧x < n)→l.length≤n
 | 0,l,_,h=>by
  cases l with
  | nil=>simp
  | cons a l=>have:=h a (by simp);omega
 | n + 1,l,hn,h=>by
  have h1:=SP l n
  have h2:=List.nodup_iff_count.1 hn n
  have h3:=DY n (l.filter (· != (n:Int))) (hn.filter _) fun x hx=>by
   obtain⟨h4,h5⟩:=List.mem_filter.1 hx
   have:=h x h4
   simp at h5
   omega
  omega
def Gh(dist:List Int)(d:Int)(acc:List Int)(j:Int):List Int:=if dist.getD j.toNat 0=d∧j∉acc then acc++[j] else acc
theorem QT(dist:List Int)(d:Int)(acc:List Int)(j:Int):Gh dist d acc j=if dist.getD j.toNat 0=d∧j∉acc then acc++[j] else acc:=rfl
def DD(mv:List (List (List Int)))(dist at':List Int)(k:Nat)(d:Int):List Int:=at'.foldl (fun acc x=>((mv.getD x.toNat []).getD k []).foldl (Gh dist d) acc) []
def Cs(n:Nat)(acc:List Int):Prop:=acc.Nodup∧∀x∈acc,0≤x∧x < n
theorem Cs.add{n:Nat}{acc:List Int}(h:Cs n acc){dist:List Int}{d j:Int}(hj:0≤j∧j < n):Cs n (Gh dist d acc j):=by
 unfold Gh
 split
 ·rename_i h1
  refine⟨List.nodup_append.2 ⟨h.1,by simp,fun a ha b hb=>?_⟩,fun x hx=>?_⟩
  ·simp at hb;subst hb;intro e;subst e;exact h1.2 ha
  ·rcases List.mem_append.1 hx with hx|hx
   ·exact h.2 x hx
   ·simp at hx;subst hx;exact hj
 ·exact h
theorem Cs.fold{n:Nat}{dist:List Int}{d:Int}:∀ {l acc:List Int},Cs n acc→(∀j∈l,0≤j∧j < n)→Cs n (l.foldl (Gh dist d) acc)
 | [],_,h,_=>h
 | j::_,_,h,hl=>by rw [List.foldl_cons];exact Cs.fold (h.add (hl j (by simp))) fun x hx=>hl x (by simp [hx])
theorem mem_row{mv:List (List (List Int))}(hin:Ky mv){x:Int}(hx:0≤x∧x < mv.length)(k:Nat):∀j∈(mv.getD x.toNat []).getD k [],0≤j∧j < mv.length:=by
 intro j hj
 cases hr:(mv.getD x.toNat [])[k]? with
 | none=>
  have:(mv.getD x.toNat []).getD k []=[]:=by rw [List.getD,hr];rfl
  rw [this] at hj;cases hj
 | some r=>
  have:(mv.getD x.toNat []).getD k []=r:=by rw [List.getD,hr];rfl
  rw [this] at hj
  exact hin x.toNat (by omega) r (List.mem_of_getElem? hr) j hj
theorem Cs.XX{mv:List (List (List Int))}(hin:Ky mv){dist:List Int}{d:Int}{k:Nat}:∀ {l acc:List Int},Cs mv.length acc→(∀x∈l,0≤x∧x < mv.length)→Cs mv.length (l.foldl (fun acc x=>((mv.getD x.toNat []).getD k []).foldl (Gh dist d) acc) acc)
 | [],_,h,_=>h
 | j::_,_,h,hl=>by rw [List.foldl_cons];exact Cs.XX hin (h.fold (mem_row hin (hl j (by simp)) k)) fun x hx=>hl x (by simp [hx])
theorem Cs.nil{n:Nat}:Cs n []:=⟨.nil,fun x hx=>(by cases hx)⟩
theorem HA{α β:Type}{l:List α}{k:Nat}{x:α}(h:l[k]? = some x)(f:β→α→β)(b:β):(l.take (k+1)).foldl f b=f ((l.take k).foldl f b) x:=by
 rw [List.take_add_one,h,List.foldl_append];rfl
theorem OB(mv:List (List (List Int)))(dist at':List Int)(k:Nat)(d:Int)(hin:Ky mv)(hN:mv.length≤1048576)(hlen:dist.length=mv.length)(ha:∀x∈at',0≤x∧x < mv.length)(hal:at'.length≤1048576)(hk:∀i,i < mv.length→k < (mv.getD i []).length) :
 Pure Tryz.prog TB 285 [CA mv,Aj dist,Aj at',eI .i64 k,eI .i64 d] (Aj (DD mv dist at' k d)):=by
 have hacc:∀m,Cs mv.length ((at'.take m).foldl (fun acc x=>((mv.getD x.toNat []).getD k []).foldl (Gh dist d) acc) []):=fun m=>Cs.XX hin .nil fun x hx=>ha x (List.mem_of_mem_take hx)
 refine eN Tryz.func285 rfl (by kernel_rfl) rfl ?_;intro Γ hΓ
 refine Ak.bound 0 rfl fun hB0=>?_
 (repeat first|refine aU rfl ?_)
 (refine Ag rfl ?_;refine Cq (fun _ _=>CT rfl) rfl ?_)
 (repeat first|refine aU rfl ?_ |refine Aa ?_)
 (refine pW rfl ?_ rfl (by rfl);refine A1 rfl rfl rfl rfl (by simp) (by rfl) (by rfl) (by rfl) (by rfl) ?_)
 (repeat first|refine tM rfl ?_ |refine aU rfl ?_ |refine Aa ?_)
 refine aB ?_
 refine Ak.A4 (α:={m:Nat // m≤at'.length}) (fun ⟨m,hm⟩=>[(0,CA mv),(1,Aj dist),(2,Aj at'),(3,eI .i64 k),(4,eI .i64 d),(11,.o (.arr 0 1 0 ((at'.take m).foldl (fun acc x=>((mv.getD x.toNat []).getD k []).foldl (Gh dist d) acc) []).length)),(12,eI .i64 m)]) (fun ⟨m,hm⟩=>[(0,.cells 3 1 (((at'.take m).foldl (fun acc x=>((mv.getD x.toNat []).getD k []).foldl (Gh dist d) acc) []).map AB))]) 1 (fun ⟨m,hm⟩=>at'.length - m) (⟨0,by omega⟩) [0] (Eb hΓ rfl rfl) (by (simp[cX,zC,hΓ])) ?_;rintro⟨m,hm⟩;(try dsimp only)
 have hacc1:=hacc m
 have hacc2:=fun x=>HA (l:=at') (k:=m) (x:=x) (f:=fun acc x=>((mv.getD x.toNat []).getD k []).foldl (Gh dist d) acc) (b:=[])
 generalize hA1:(at'.take m).foldl (fun acc x=>((mv.getD x.toNat []).getD k []).foldl (Gh dist d) acc) []=acc at *
 (repeat first|refine sN rfl ?_ |refine tM rfl ?_ |refine s2 rfl fun _ _hb=>?_ |refine aU rfl ?_ |refine Aa ?_)
 (refine aC rfl ?_ ?_<;>rintro⟨⟩)
 ·obtain⟨y,hy⟩:=get_some (l:=at') (k:=m) (by (simp only[oZ] at *;omega))
  have hy':=get_map (g:=Bq) hy
  have hyb:=ha y (List.mem_of_getElem? hy)
  obtain⟨my,hmy⟩:=get_some (l:=mv) (k:=y.toNat) (by omega)
  have hmy':(mv.map HB)[y.toNat]? = some (HB my):=by simp [hmy]
  have hkk:=hk y.toNat (by omega)
  have hgy:mv.getD y.toNat []=my:=by simp [List.getD,hmy]
  rw [hgy] at hkk
  obtain⟨r,hr⟩:=get_some (l:=my) (k:=k) hkk
  have hr':=get_map (g:=Dm) hr
  have hgr:my.getD k []=r:=by simp [List.getD,hr]
  have hrin:=mem_row hin hyb k
  rw [hgy,hgr] at hrin
  have hstep:=hacc2 y hy
  rw [hgy,hgr] at hstep
  have hBr:=hB0 (r.map Bq) (.l (i:=y.toNat) (j:=0) (r:=HB my) hmy' rfl (.l (i:=k) (j:=0) (r:=Dm r) (by simp [hr]) rfl .refl))
  have hf2:∀j,Cs mv.length ((r.take j).foldl (Gh dist d) acc):=fun j=>hacc1.fold fun x hx=>hrin x (List.mem_of_mem_take hx)
  refine aK ?_
  refine aS (aB ?_)
  (repeat first|refine tM rfl ?_ |(refine s4 rfl ‹_› rfl ?_ ?_;omega) |refine aU rfl ?_ |refine Aa ?_)
  refine aB ?_
  refine Ak.A4 (α:={j:Nat // j≤r.length}) (fun ⟨j,hj⟩=>[(0,CA mv),(1,Aj dist),(2,Aj at'),(3,eI .i64 k),(4,eI .i64 d),(11,.o (.arr 0 1 0 ((r.take j).foldl (Gh dist d) acc).length)),(12,eI .i64 m),(13,Aj r),(14,eI .i64 j)]) (fun ⟨j,hj⟩=>[(0,.cells 3 1 (((r.take j).foldl (Gh dist d) acc).map AB))]) 1 (fun ⟨j,hj⟩=>r.length - j) (⟨0,by omega⟩) [0] (Eb hΓ rfl rfl) (by (simp[cX,zC,hΓ])) ?_;rintro⟨j,hj⟩;(try dsimp only)
  have hac:=hf2 j
  have hst2:=fun x=>HA (l:=r) (k:=j) (x:=x) (f:=Gh dist d) (b:=acc)
  generalize hA2:(r.take j).foldl (Gh dist d) acc=ac2 at *
  (repeat first|refine sN rfl ?_ |refine tM rfl ?_ |refine s2 rfl fun _ _hb=>?_ |refine aU rfl ?_ |refine Aa ?_)
  (refine aC rfl ?_ ?_<;>rintro⟨⟩)
  ·obtain⟨x,hx⟩:=get_some (l:=r) (k:=j) (by (simp only[oZ] at *;omega))
   have hx':=get_map (g:=Bq) hx
   have hxb:=hrin x (List.mem_of_getElem? hx)
   obtain⟨z,hz⟩:=get_some (l:=dist) (k:=x.toNat) (by omega)
   have hz':(dist.map Bq)[x.toNat]? = some (Bq z):=by simp [hz]
   have hdz:dist.getD x.toNat 0=z:=by simp [List.getD,hz]
   have hst2:=hst2 x hx
   have hlac:=DY _ _ hac.1 hac.2
   rw [QT,hdz] at hst2
   refine aK ?_
   refine aS (aB ?_)
   (repeat' first|(refine sM rfl ?_ ?_;first|exact tI|simp only[oZ] at *;omega) |(refine s4 rfl ‹_› rfl ?_ ?_;omega) |refine s2 rfl fun _ _hb=>?_|(refine Ag rfl ?_;refine gA rfl ?_;first| (refine cL (FP rfl rfl ((.cons (.o (.full rfl (by simp [Function.comp_def]) (by simp))) (.cons (.o (.pure rfl)) .nil))) (WK ac2 x) rfl) rfl ?_;intro _ _hb)) |refine s3 rfl ?_ ?_<;>rintro rfl |refine aU rfl ?_ |refine Aa ?_|(refine aC rfl ?_ ?_<;>rintro⟨⟩)|refine aK ?_|refine aE ?_|refine aB ?_|refine aR ⟨_,rfl,?_⟩)
   all_goals try (rw [if_neg (by grind)] at hst2;refine⟨⟨j+1,by (simp only[oZ] at *;omega)⟩,by dsimp only;((simp only[oZ] at *;omega)),[0],?_⟩;simp[cX,zC,hΓ,hst2];done)
   all_goals rw [if_pos (by grind)] at hst2
   (repeat first|refine tA rfl ?_)
   (refine pW rfl ?_ rfl (by rfl);refine Aw rfl rfl rfl (by first| (simp;done)|(simp;(omega))) rfl (by intro r hr;simp at hr;subst hr;rfl) (by rfl) (Nat.le_of_ble_eq_true rfl) (by simp;omega) ?_)
   (repeat first|(refine sX rfl ?_ ?_;first|exact tI|simp only[oZ] at *;omega) |refine aU rfl ?_ |refine Aa ?_)
   refine⟨⟨j+1,by (simp only[oZ] at *;omega)⟩,by dsimp only;((simp only[oZ] at *;omega)),[1],?_⟩
   simp[cX,zC,hΓ,hst2]
  ·obtain rfl:j=r.length:=by (simp only[oZ] at *;omega)
   refine aE ?_
   rw [List.take_length] at hA2
   subst hA2
   (repeat first|(refine sM rfl ?_ ?_;first|exact tI|omega) |refine aU rfl ?_ |refine Aa ?_)
   refine⟨⟨m+1,by (simp only[oZ] at *;omega)⟩,by dsimp only;((simp only[oZ] at *;omega)),[0],?_⟩
   simp[cX,zC,hΓ,hstep,-List.getD_eq_getElem?_getD]
 ·obtain rfl:m=at'.length:=by (simp only[oZ] at *;omega)
  refine aE ?_
  (repeat first|refine tM rfl ?_ |refine aU rfl ?_ |refine Aa ?_)
  rw [List.take_length] at hA1
  subst hA1
  refine Ak.freeze [0] [(10,Aj (DD mv dist at' k d))] ⟨⟨_,rfl,.o (.full (by simp) rfl (by simp [Function.comp_def,DD]) (by simp))⟩,trivial⟩ ?_
  refine aR ⟨_,rfl,rfl⟩
end Go.Am
namespace Go.Am
open Go
structure Gr where
 N:Nat
 succ:Int→Int→List Int
 goal:Int→Bool
 ls:List Int
 s0:Int
structure Gj (g:Gr):Prop where
 s0:0≤g.s0∧g.s0 < g.N
 inn:∀x:Int,0≤x∧x < g.N→∀l∈g.ls,∀y∈g.succ x l,0≤y∧y < g.N
 srt:g.ls.Pairwise (· < ·)
def reach(g:Gr):List Int→Int→Int→Prop
 | [],a,x=>a=x
 | l::w,a,x=>∃y∈g.succ a l,reach g w y x
def over(g:Gr)(w:List Int):Prop:=∀l∈w,l∈g.ls
def Rq(g:Gr)(w:List Int):Prop:=∃x,reach g w g.s0 x∧g.goal x=true
def Pz:List Int→List Int→Prop
 | a::u,b::w=>a < b∨a=b∧Pz u w
 | _,_=>False
def slt(u w:List Int):Prop:=u.length < w.length∨u.length=w.length∧Pz u w
def BL(g:Gr):Option (List Int)→Prop
 | some w=>over g w∧Rq g w∧∀u,over g u→Rq g u→¬slt u w
 | none=>∀u,over g u→¬Rq g u
theorem C1{g:Gr}:∀ {w:List Int} {l a x:Int},reach g (w++[l]) a x↔∃y,reach g w a y∧x∈g.succ y l
 | [],l,a,x=>by simp [reach]
 | m::w,l,a,x=>by
  simp only [List.cons_append,reach,C1]
  constructor
  ·rintro⟨y,hy,z,hz,hx⟩;exact⟨z,⟨y,hy,hz⟩,hx⟩
  ·rintro⟨z,⟨y,hy,hz⟩,hx⟩;exact⟨y,hy,z,hz,hx⟩
theorem Cx{g:Gr}(hg:Gj g):∀ {w:List Int} {a x:Int},over g w→(0≤a∧a < g.N)→reach g w a x→0≤x∧x < g.N
 | [],a,x,_,ha,h=>by have h:a=x:=h;subst h;exact ha
 | l::w,a,x,ho,ha,h=>by
  obtain⟨y,hy,h⟩:=h
  exact Cx hg (fun m hm=>ho m (by simp [hm])) (hg.inn a ha l (ho l (by simp)) y hy) h
theorem D0{g:Gr}{w:List Int}{l:Int}:over g (w++[l])↔over g w∧l∈g.ls:=by
 unfold over;simp only [List.mem_append,List.mem_singleton]
 constructor
 ·intro h;exact⟨fun m hm=>h m (.inl hm),h l (.inr rfl)⟩
 ·rintro⟨h1,h2⟩ m (hm|rfl);exact h1 m hm;exact h2
theorem GI:∀ {u w:List Int} {m l:Int},u.length=w.length→(Pz (u++[m]) (w++[l])↔Pz u w∨u=w∧m < l)
 | [],[],m,l,_=>by simp [Pz]
 | [],b::w,m,l,h=>by simp at h
 | a::u,[],m,l,h=>by simp at h
 | a :: u,b::w,m,l,h=>by
  simp only [List.cons_append,Pz,GI (u:=u) (w:=w) (by simpa using h),List.cons.injEq]
  constructor
  ·rintro(h|⟨h1,h2|⟨h2,h3⟩⟩)
   ·exact .inl (.inl h)
   ·exact .inl (.inr ⟨h1,h2⟩)
   ·exact .inr ⟨⟨h1,h2⟩,h3⟩
  ·rintro((h|⟨h1,h2⟩)|⟨⟨h1,h2⟩,h3⟩)
   ·exact .inl h
   ·exact .inr ⟨h1,.inl h2⟩
   ·exact .inr ⟨h1,.inr ⟨h2,h3⟩⟩
theorem Nu:∀ {u w:List Int},u.length=w.length→Pz u w∨u=w∨Pz w u
 | [],[],_=>.inr (.inl rfl)
 | [],b::w,h=>by simp at h
 | a::u,[],h=>by simp at h
 | a :: u,b::w,h=>by
  simp only [Pz,List.cons.injEq]
  have h1:=Nu (u:=u) (w:=w) (by simpa using h)
  rcases Int.lt_trichotomy a b with h2|h2|h2
  ·exact .inl (.inl h2)
  ·rcases h1 with h1|h1|h1
   ·exact .inl (.inr ⟨h2,h1⟩)
   ·exact .inr (.inl ⟨h2,h1⟩)
   ·exact .inr (.inr (.inr ⟨h2.symm,h1⟩))
  ·exact .inr (.inr (.inl h2))
theorem Xq{u w:List Int}(h1:¬slt u w)(h2:¬slt w u):u=w:=by
 unfold slt at h1 h2
 have hl:u.length=w.length:=by omega
 rcases Nu hl with h|h|h
 ·exact absurd (.inr ⟨hl,h⟩) h1
 ·exact h
 ·exact absurd (.inr ⟨hl.symm,h⟩) h2
theorem BL.unique{g:Gr}{r s:Option (List Int)}(hr:BL g r)(hs:BL g s):r=s:=by
 cases r with
 | none=>
  cases s with
  | none=>rfl
  | some w=>exact absurd hs.2.1 (hr w hs.1)
 | some v=>
  cases s with
  | none=>exact absurd hr.2.1 (hs v hr.1)
  | some w=>rw [Xq (hs.2.2 v hr.1 hr.2.1) (hr.2.2 w hs.1 hs.2.1)]
theorem OH:∀(l:List Int) (Q:Int→Prop),(∃x∈l,Q x)→∃x∈l,Q x∧∀y∈l,Q y→¬y < x
 | [],Q,h=>by obtain⟨x,hx,_⟩:=h;cases hx
 | a :: l,Q,h=>by
  by_cases ht:∃x∈l,Q x
  ·obtain⟨x,hx,hq,hm⟩:=OH l Q ht
   by_cases ha:Q a∧a < x
   ·refine⟨a,by simp,ha.1,fun y hy hqy=>?_⟩
    rcases List.mem_cons.1 hy with rfl|hy
    ·omega
    ·have:=hm y hy hqy;omega
   ·refine⟨x,by simp [hx],hq,fun y hy hqy=>?_⟩
    rcases List.mem_cons.1 hy with rfl|hy
    ·exact fun hlt=>ha ⟨hqy,hlt⟩
    ·exact hm y hy hqy
  ·obtain⟨x,hx,hq⟩:=h
   rcases List.mem_cons.1 hx with rfl|hx
   ·refine⟨x,by simp,hq,fun y hy hqy=>?_⟩
    rcases List.mem_cons.1 hy with rfl|hy
    ·omega
    ·exact absurd ⟨y,hy,hqy⟩ ht
   ·exact absurd ⟨x,hx,hq⟩ ht
theorem KY(ls:List Int):∀(n:Nat) (Q:List Int→Prop),(∃u:List Int,u.length=n∧(∀l∈u,l∈ls)∧Q u)→∃u:List Int,u.length=n∧(∀l∈u,l∈ls)∧Q u∧∀v:List Int,v.length=n→(∀l∈v,l∈ls)→Q v→¬Pz v u
 | 0,Q,⟨u,h1,h2,h3⟩=>by
  have:u=[]:=List.length_eq_zero_iff.1 h1
  subst this
  exact⟨[],rfl,h2,h3,fun v hv _ _=>by have:v=[]:=List.length_eq_zero_iff.1 hv;subst this;exact fun h=>h⟩
 | n + 1,Q,⟨u,h1,h2,h3⟩=>by
  cases u with
  | nil=>simp at h1
  | cons a u=>
   obtain⟨x,hx,⟨u1,h4,h5,h6⟩,hm⟩:=OH ls (fun x=>∃u:List Int,u.length=n∧(∀l∈u,l∈ls)∧Q (x::u)) ⟨a,h2 a (by simp),u,by simpa using h1,fun l hl=>h2 l (by simp [hl]),h3⟩
   obtain⟨u2,h7,h8,h9,h10⟩:=KY ls n (fun u=>Q (x::u)) ⟨u1,h4,h5,h6⟩
   refine⟨x::u2,by simp [h7],fun l hl=>by rcases List.mem_cons.1 hl with rfl|hl;exact hx;exact h8 l hl,h9,fun v hv hvl hq=>?_⟩
   cases v with
   | nil=>simp at hv
   | cons b v=>
    have hb:=hm b (hvl b (by simp)) ⟨v,by simpa using hv,fun l hl=>hvl l (by simp [hl]),hq⟩
    rintro(h|⟨h,h'⟩)
    ·exact hb h
    ·subst h;exact h10 v (by simpa using hv) (fun l hl=>hvl l (by simp [hl])) hq h'
theorem KM(g:Gr):∃r,BL g r:=by
 by_cases h:∃u,over g u∧Rq g u
 ·have key : ∀n,(∃u,u.length≤n∧over g u∧Rq g u)→∃m,(∃u,u.length=m∧over g u∧Rq g u)∧∀u,over g u→Rq g u→m≤u.length:=by
   intro n
   induction n with
   | zero=>
    rintro⟨u,h1,h2,h3⟩
    exact⟨0,⟨u,by omega,h2,h3⟩,fun _ _ _=>Nat.zero_le _⟩
   | succ n ih=>
    rintro⟨u,h1,h2,h3⟩
    by_cases hx:∃u,u.length≤n∧over g u∧Rq g u
    ·exact ih hx
    ·refine⟨n+1,⟨u,?_,h2,h3⟩,fun v hv hv'=>?_⟩
     ·have:¬u.length≤n:=fun h=>hx ⟨u,h,h2,h3⟩
      omega
     ·have:¬v.length≤n:=fun h=>hx ⟨v,h,hv,hv'⟩
      omega
  obtain⟨u,hu⟩:=h
  obtain⟨m,⟨v,h1,h2,h3⟩,hm⟩:=key u.length ⟨u,Nat.le_refl _,hu⟩
  obtain⟨w,h4,h5,h6,h7⟩:=KY g.ls m (Rq g) ⟨v,h1,h2,h3⟩
  refine⟨some w,h5,h6,fun u hu hh=>?_⟩
  rintro(h|⟨h,h'⟩)
  ·have:=hm u hu hh;omega
  ·exact h7 u (by omega) hu hh h'
 ·exact⟨none,fun u hu hh=>h ⟨u,hu,hh⟩⟩
structure HU (g:Gr) (dx:Int→Int):Prop where
 zero:∀x:Int,0≤x∧x < g.N→(dx x=0↔g.goal x=true)
 step:∀x:Int,0≤x∧x < g.N→0 < dx x→∃l∈g.ls,∃j∈g.succ x l,dx j=dx x - 1
 close:∀x:Int,0≤x∧x < g.N→∀l∈g.ls,∀j∈g.succ x l,0≤dx j→0≤dx x∧dx x≤dx j+1
theorem HU.WA{g:Gr}(hg:Gj g){dx:Int→Int}(h:HU g dx):∀ {u:List Int} {a x:Int},over g u→(0≤a∧a < g.N)→reach g u a x→0≤dx x→0≤dx a∧dx a≤u.length+dx x
 | [],a,x,_,_,hr,h0=>by have hr:a=x:=hr;subst hr;simp;exact h0
 | l::u,a,x,ho,ha,⟨y,hy,hr⟩,h0=>by
  have hl:=ho l (by simp)
  have hyin:=hg.inn a ha l hl y hy
  have h1:=HU.WA hg h (fun m hm=>ho m (by simp [hm])) hyin hr h0
  have h2:=h.close a ha l hl y hy h1.1
  simp only [List.length_cons];push_cast;omega
structure JY (g:Gr) (dx:Int→Int) (w:List Int) (at':List Int) (d:Int):Prop where
 ov:over g w
 ne:at'≠[]
 acc:Cs g.N at'
 mem:∀x,x∈at'↔reach g w g.s0 x∧dx x=d
 len:w.length+d=dx g.s0
 d0:0≤d
 min:∀u,over g u→u.length=w.length→Pz u w→∀x,reach g u g.s0 x→dx x≠d
theorem JY.init{g:Gr}(hg:Gj g){dx:Int→Int}(h0:0≤dx g.s0):JY g dx [] [g.s0] (dx g.s0):=
 ⟨fun l hl=>(by cases hl),by simp,⟨by simp,fun x hx=>by simp at hx;subst hx;exact hg.s0⟩,fun x=>by simp [reach];constructor<;>intro h<;>simp_all,by simp,h0,fun u _ hu hl=>by
  have:u=[]:=List.length_eq_zero_iff.1 hu
  subst this;exact hl.elim⟩
theorem JY.c6{g:Gr}(hg:Gj g){dx:Int→Int}(hd:HU g dx){w at':List Int}(h:JY g dx w at' 0):BL g (some w):=by
 refine⟨h.ov,?_,fun u hu hh=>?_⟩
 ·cases at' with
  | nil=>exact absurd rfl h.ne
  | cons x l=>
   have h1:=(h.mem x).1 (by simp)
   exact⟨x,h1.1,(hd.zero x (h.acc.2 x (by simp))).1 h1.2⟩
 ·obtain⟨x,hx,hgx⟩:=hh
  have hz:=(hd.zero x (Cx hg hu hg.s0 hx)).2 hgx
  have h1:=hd.WA hg hu hg.s0 hx (by omega)
  have h2:=h.len
  rintro(h3|⟨h3,h4⟩)
  ·omega
  ·exact h.min u hu h3 h4 x hx hz
theorem TQ{g:Gr}(hg:Gj g){dx:Int→Int}(hd:HU g dx)(h:dx g.s0 < 0):BL g none:=by
 rintro u hu ⟨x,hx,hgx⟩
 have hz:=(hd.zero x (Cx hg hu hg.s0 hx)).2 hgx
 have h1:=hd.WA hg hu hg.s0 hx (by omega)
 omega
theorem JY.prog{g:Gr}{dx:Int→Int}(hd:HU g dx){w at':List Int}{d:Int}(h:JY g dx w at' d)(hp:0 < d):∃l∈g.ls,∃x∈at',∃y∈g.succ x l,dx y=d - 1:=by
 cases at' with
 | nil=>exact absurd rfl h.ne
 | cons x l=>
  have h1:=(h.mem x).1 (by simp)
  obtain⟨l,hl,j,hj,hdj⟩:=hd.step x (h.acc.2 x (by simp)) (by omega)
  exact⟨l,hl,x,by simp,j,hj,by omega⟩
theorem JY.next{g:Gr}(hg:Gj g){dx:Int→Int}(hd:HU g dx){w at':List Int}{d:Int}(h:JY g dx w at' d)(hp:0 < d){l:Int}(hl:l∈g.ls){at2:List Int}(ha:Cs g.N at2)(hne:at2≠[])
 (hm:∀y,y∈at2↔∃x∈at',y∈g.succ x l∧dx y=d - 1) (hless:∀m∈g.ls,m < l→¬∃x∈at',∃y∈g.succ x m,dx y=d - 1):JY g dx (w++[l]) at2 (d - 1):=by
 have hlen:=h.len
 have key:∀u m x y,over g u→u.length=w.length→m∈g.ls→reach g u g.s0 x→y∈g.succ x m→dx y=d - 1→dx x=d:=by
  intro u m x y hu hul hm hx hy hdy
  have hxin:=Cx hg hu hg.s0 hx
  have h1:=hd.close x hxin m hm y hy (by omega)
  have h2:=hd.WA hg hu hg.s0 hx (by omega)
  omega
 refine⟨D0.2 ⟨h.ov,hl⟩,hne,ha,fun y=>?_,by simp;omega,by omega,fun u hu hul hlt y hy hdy=>?_⟩
 ·rw [hm,C1]
  constructor
  ·rintro⟨x,hx,hy,hdy⟩
   exact⟨⟨x,((h.mem x).1 hx).1,hy⟩,hdy⟩
  ·rintro⟨⟨x,hx,hy⟩,hdy⟩
   exact⟨x,(h.mem x).2 ⟨hx,key w l x y h.ov rfl hl hx hy hdy⟩,hy,hdy⟩
 ·have hu0:u≠[]:=fun e=>by subst e;simp at hul
  obtain⟨v,m,rfl⟩:∃v m,u=v++[m]:=⟨u.dropLast,u.getLast hu0,(List.dropLast_concat_getLast hu0).symm⟩
  have hvl:v.length=w.length:=by simpa using hul
  obtain⟨hv,hmm⟩:=D0.1 hu
  obtain⟨x,hx,hxy⟩:=C1.1 hy
  have hdx:=key v m x y hv hvl hmm hx hxy hdy
  rcases(GI hvl).1 hlt with h1|⟨rfl,h1⟩
  ·exact h.min v hv hvl h1 x hx hdx
  ·exact hless m hmm h1 ⟨x,(h.mem x).2 ⟨hx,hdx⟩,y,hxy,hdy⟩
def CK(w:List Int):List UInt8:=w.map fun l=>UInt8.ofNat (97+l.toNat)
def ZA(r:Option (List Int)):E:=match r with
 | some w=>.t [(false,[.d (tD (CK w))]),(false,[.d (bD true)])]
 | none=>.t [(false,[.d (tD [])]),(false,[.d (bD false)])]
end Go.Am
namespace Go.Am
open Go Go.Proofs
set_option maxHeartbeats 1000000
set_option maxRecDepth 4000
attribute [local irreducible] AY B2 Lex Br Ak Spec
variable {TB:Bw}
def E3(n:Net):Gr:={ N:=(AJ (Ae n)).toNat,succ:=fun x l=>En n (Ae n) (BB (Ae n) x) l,goal:=fun x=>B0 n (BB (Ae n) x) (DG n x.toNat),ls:=Ac n.ls,s0:=Fx (Ae n) n.st 0 }
theorem C9(s:Int)(k:Nat):(Az s k).Pairwise (· < ·):=by
 unfold Az
 rw [List.pairwise_map]
 refine(List.pairwise_lt_range.filter _).imp fun {a b} h=>?_
 show ((a:Nat):Int) < ((b:Nat):Int)
 omega
theorem Ih{n:Net}(hn:Dl n)(x:Int):Fits (Ae n) (BB (Ae n) x):=I9 (fun z hz=>by have:=Fi hn z hz;omega) x
theorem OU{n:Net}(hn:Dl n){x l:Int}(hl:l∈Ac n.ls){y:Int}(hy:y∈En n (Ae n) (BB (Ae n) x) l):0≤y∧y < AJ (Ae n):=by
 have h1:=Av hl
 have h2:=Rw (Ic hn (Ih hn x) (l:=l) (by omega) (by omega)) [0] 1 (by simp) (by omega) (by simp)
 have:=h2.1 y hy
 omega
theorem Um{n:Net}(hn:Dl n)(hst:Fits (Ae n) n.st):Gj (E3 n):=by
 have hp:=Ks hn
 have hz:=hst.enc 0 (by omega)
 refine⟨?_,fun x _ l hl y hy=>?_,C9 _ _⟩
 ·show 0≤Fx _ _ _∧Fx _ _ _ < ((AJ (Ae n)).toNat:Int)
  omega
 ·show 0≤y∧y < ((AJ (Ae n)).toNat:Int)
  have:=OU hn hl hy
  omega
theorem Iv{n:Net}(hn:Dl n):Ky (Cj n (E3 n).N):=by
 intro x hx r hr j hj
 have hx:x < (E3 n).N:=by simpa [Cj] using hx
 have h1:(Cj n (E3 n).N).getD x []=DG n x:=by rw [List.getD,HH hx];rfl
 rw [h1] at hr
 obtain⟨l,hl,rfl⟩:=List.mem_map.1 hr
 have h2:=OU hn hl hj
 have h3:(Cj n (E3 n).N).length=(AJ (Ae n)).toNat:=by simp [Cj,E3]
 rw [h3];omega
theorem Em{n:Net}{x:Int}(hx:0≤x∧x < (E3 n).N):(Cj n (E3 n).N).getD x.toNat []=(Ac n.ls).map fun l=>(E3 n).succ x l:=by
 rw [List.getD,HH (by omega)]
 have:((x.toNat:Nat):Int)=x:=by omega
 simp [DG,this,E3]
theorem Ue{n:Net}{dist:List Int}(h:MW (Cj n (E3 n).N) (fun i=>B0 n (BB (Ae n) i) (DG n i)) dist):HU (E3 n) (fun x=>dist.getD x.toNat 0):=by
 have hN:(Cj n (E3 n).N).length=(E3 n).N:=by simp [Cj]
 refine⟨fun x hx=>?_,fun x hx hp=>?_,fun x hx l hl j hj hj0=>?_⟩
 ·have h1:=h.zero x.toNat (by omega)
  have e:((x.toNat:Nat):Int)=x:=by omega
  rw [e] at h1
  exact h1
 ·obtain⟨r,hr,j,hj,hd⟩:=h.step x.toNat (by omega) hp
  rw [Em hx] at hr
  obtain⟨l,hl,rfl⟩:=List.mem_map.1 hr
  exact⟨l,hl,j,hj,hd⟩
 ·exact h.close x.toNat (by omega) _ (by rw [Em hx];exact List.mem_map.2 ⟨l,hl,rfl⟩) j hj hj0
theorem OJ{dist:List Int}{d y:Int}:∀ {l acc:List Int},y∈l.foldl (Gh dist d) acc↔y∈acc∨y∈l∧dist.getD y.toNat 0=d
 | [],acc=>by simp
 | j::l,acc=>by
  rw [List.foldl_cons,OJ,QT]
  split<;>grind
theorem UJ{mv:List (List (List Int))}{dist:List Int}{k:Nat}{d y:Int}{l:List Int}:y∈DD mv dist l k d↔∃x∈l,y∈(mv.getD x.toNat []).getD k []∧dist.getD y.toNat 0=d:=by
 have key:∀(l acc:List Int),y∈l.foldl (fun acc x=>((mv.getD x.toNat []).getD k []).foldl (Gh dist d) acc) acc↔y∈acc∨∃x∈l,y∈(mv.getD x.toNat []).getD k []∧dist.getD y.toNat 0=d:=by
  intro l
  induction l with
  | nil=>intro acc;simp
  | cons a l ih=>
   intro acc
   rw [List.foldl_cons,ih,OJ]
   grind
 unfold DD
 rw [key];simp
theorem Ua{n:Net}{dist l:List Int}{k:Nat}{m:Int}(hm:(Ac n.ls)[k]? = some m)(hl:∀x∈l,0≤x∧x < (E3 n).N){d y:Int} :
 y∈DD (Cj n (E3 n).N) dist l k d↔∃x∈l,y∈(E3 n).succ x m∧dist.getD y.toNat 0=d:=by
 rw [UJ]
 constructor
 ·rintro⟨x,hx,hy,hd⟩
  rw [Em (hl x hx)] at hy
  exact⟨x,hx,by simpa [List.getD,hm] using hy,hd⟩
 ·rintro⟨x,hx,hy,hd⟩
  exact⟨x,hx,by rw [Em (hl x hx)];simpa [List.getD,hm] using hy,hd⟩
theorem Le:∀ {zs:List Int} {k:Nat} {z:Int},zs[k]? = some z→AJ (zs.take (k+1))=AJ (zs.take k)*z
 | [],k,z,h=>by simp at h
 | a::zs,0,z,h=>by simp at h;subst h;simp [AJ]
 | a::zs,k+1,z,h=>by
  simp only [List.take_succ_cons,AJ]
  rw [Le (by simpa using h),Int.mul_assoc]
def dl(f:Nat→Int)(N i:Nat):List Int:=(List.range i).map f++List.replicate (N - i) 0
theorem Uf{f:Nat→Int}{N i:Nat}(h:i≤N):(dl f N i).length=N:=by simp [dl];omega
theorem Yp{f:Nat→Int}{N i:Nat}(h:i < N):(dl f N i)[i]? = some 0:=by
 unfold dl
 rw [List.getElem?_append_right (by simp)]
 have:0 < N - i:=by omega
 simp [this]
theorem Yq{f:Nat→Int}{N i:Nat}(h:i < N):(dl f N i).set i (f i)=dl f N (i+1):=by
 unfold dl
 rw [List.set_append_right _ _ (by simp)]
 have:N - i=(N - (i+1))+1:=by omega
 rw [this,List.range_succ,List.map_append]
 simp [List.replicate_succ]
theorem Uu{l:List Int}(h:l.Pairwise (· < ·)){i j:Nat}{a b:Int}(hi:l[i]? = some a)(hj:l[j]? = some b)(hab:a < b):i < j:=by
 obtain⟨h1,rfl⟩:=List.getElem?_eq_some_iff.1 hi
 obtain⟨h2,rfl⟩:=List.getElem?_eq_some_iff.1 hj
 rw [List.pairwise_iff_getElem] at h
 rcases Nat.lt_trichotomy i j with h3|h3|h3
 ·exact h3
 ·subst h3;omega
 ·have:=h j i h2 h1 h3;omega
theorem P5{n:Net}(hn:Dl n)(hk:XO n)(hst:Fits (Ae n) n.st){r:Option (List Int)}(hr:BL (E3 n) r):Pure Tryz.prog TB 236 [Ja n] (ZA r):=by
 have hpr:=Ks hn
 have hg:=Um hn hst
 have hnp:=hn.np
 have hna:=hn.na
 have hzl:=Lr hn
 have hll:(Ac n.ls).length≤6:=AL n.ls 6
 have hpos:=Fi hn
 have hsz:=P9 (TB:=TB) n (by omega)
 have hmv:=P7 (TB:=TB) hn (E3 n).N (by show (AJ (Ae n)).toNat≤1048576;omega)
 have hpN:AJ (Ae n)=(((E3 n).N:Nat):Int):=by show _=(((AJ (Ae n)).toNat:Nat):Int);omega
 have hNle:(E3 n).N≤1048576:=by omega
 have hml:(Cj n (E3 n).N).length=(E3 n).N:=by simp [Cj]
 have hdec:∀(x:Nat),x < (E3 n).N→Pure Tryz.prog TB 282 [Aj (Ae n),eI .i64 x] (Aj (BB (Ae n) x)):=fun x hx=>
  JL _ _ (by omega) (by omega) (fun z hz=>by have:=hpos z hz;omega) (by omega)
 have hfnd:∀(x:Nat),Pure Tryz.prog TB 281 [Ja n,Aj (BB (Ae n) x),Dp (DG n x)] (eB (B0 n (BB (Ae n) x) (DG n x))):=fun x=>P6 hn hk (Ih hn _) _
 have hencc:=OC (TB:=TB) (Ae n) n.st hst (by omega)
 have hlet:=Cf (TB:=TB) n.ls
 have hdist:=fun dist h1 h2=>SJ (TB:=TB) (Cj n (E3 n).N) (fun i=>B0 n (BB (Ae n) i) (DG n i)) dist (Iv hn) (by omega) h1 h2
 refine eN Tryz.func236 rfl (by kernel_rfl) rfl ?_;intro Γ hΓ
 (repeat first|refine tA rfl ?_ |refine sP rfl (hsz) rfl ?_ |refine aU rfl ?_ |refine Aa ?_)
 refine aB ?_
 refine Ak.A4 (α:={k:Nat // k≤(Ae n).length}) (fun ⟨k,hkl⟩=>[(1,.o (.ip (J5 n))),(4,Aj (Ae n)),(5,eI .i64 (AJ ((Ae n).take k))),(6,eI .i64 k)]) (fun ⟨k,hkl⟩=>[]) 0 (fun ⟨k,hkl⟩=>(Ae n).length - k) (⟨0,by omega⟩) [] (Eb hΓ rfl rfl) (by (simp[cX,zC,hΓ,AJ])) ?_;rintro⟨k,hkl⟩;(try dsimp only)
 (repeat first|refine sN rfl ?_ |refine tA rfl ?_ |refine s2 rfl fun _ _hb=>?_ |refine aU rfl ?_ |refine Aa ?_)
 (refine aC rfl ?_ ?_<;>rintro⟨⟩)
 ·obtain⟨z,hz⟩:=get_some (l:=Ae n) (k:=k) (by (simp only[oZ] at *;omega))
  have hz':=get_map (g:=Bq) hz
  have h1:=Le hz
  have h2:=Ld ((Ae n).take (k+1)) fun z hz=>hpos z (List.mem_of_mem_take hz)
  have h3:=(hst.take (k+1)).2
  rw [h1] at h2 h3
  refine aK ?_
  refine aS (aB ?_)
  (repeat first|(refine sA rfl ?_ ?_;first|exact tI|omega) |(refine s4 rfl ‹_› rfl ?_ ?_;omega) |refine aU rfl ?_ |refine Aa ?_)
  refine⟨⟨k+1,by (simp only[oZ] at *;omega)⟩,by dsimp only;((simp only[oZ] at *;omega)),[],?_⟩
  simp[cX,zC,hΓ,h1]
 obtain rfl:k=(Ae n).length:=by (simp only[oZ] at *;omega)
 refine aE ?_
 rw [List.take_length,hpN]
 generalize hNN:(E3 n).N=N at *
 generalize hmm:Cj n N=mv at *
 (repeat first|refine tM rfl ?_ |refine sP rfl (hmv) rfl ?_ |refine aU rfl ?_ |refine Aa ?_)
 (refine pW rfl ?_ rfl (by rfl);refine HI rfl rfl (by rfl) (by rfl) (Nat.le_of_ble_eq_true rfl) (by omega) (by omega) (by omega) ?_)
 (repeat first|refine tM rfl ?_ |refine aU rfl ?_ |refine Aa ?_)
 refine aB ?_
 refine Ak.A4 (α:={i:Nat // i≤N}) (fun ⟨i,hi⟩=>[(1,.o (.ip (J5 n))),(4,Aj (Ae n)),(5,eI .i64 N),(7,CA mv),(8,.o (.arr 0 1 0 N)),(9,eI .i64 i)]) (fun ⟨i,hi⟩=>[(0,.cells 3 1 ((dl (fun j=>if B0 n (BB (Ae n) (j:Nat)) (DG n j) then 0 else -1) N i).map AB))]) 1 (fun ⟨i,hi⟩=>N - i) (⟨0,by omega⟩) [0] (Eb hΓ rfl rfl) (by (simp[cX,zC,hΓ,dl])) ?_;rintro⟨i,hi⟩;(try dsimp only)
 (repeat first|refine tM rfl ?_ |refine s2 rfl fun _ _hb=>?_ |refine aU rfl ?_ |refine Aa ?_)
 (refine aC rfl ?_ ?_<;>rintro⟨⟩)
 ·have hiN:i < N:=by (simp only[oZ] at *;omega)
  have hd0:=Yp (f:=fun j=>if B0 n (BB (Ae n) (j:Nat)) (DG n j) then 0 else -1) hiN
  have hds:=Yq (f:=fun j=>if B0 n (BB (Ae n) (j:Nat)) (DG n j) then 0 else -1) hiN
  have hdl:=Uf (f:=fun j=>if B0 n (BB (Ae n) (j:Nat)) (DG n j) then 0 else -1) (Nat.le_of_lt hiN)
  generalize dl (fun j=>if B0 n (BB (Ae n) (j:Nat)) (DG n j) then 0 else -1) N i=cur at *
  have hd0':=GD (g:=AB) hd0
  have hd1:(cur.set i (-1))[i]? = some (-1):=by simp [hdl,hiN]
  have hd1':=GD (g:=AB) hd1
  rw [←GQ (x:=0)] at hd1'
  have hmi:(mv.map HB)[((i:Nat):Int).toNat]? = some (HB (DG n i)):=by rw [←hmm];exact get_map (HH hiN)
  refine aK ?_
  refine aS (aB ?_)
  (repeat' first|((first|refine sM rfl ?_ ?_|refine s4 rfl ‹_› rfl ?_ ?_);first|exact tI|omega) |refine sP rfl (hdec i hiN) rfl ?_|(refine sC rfl (hfnd i) ?_;intro _ _hb) |refine aU rfl ?_ |refine Aa ?_ |refine rE (by kernel_rfl) ?_|(refine aC rfl ?_ ?_<;>rintro⟨⟩)|refine aK ?_|refine aE ?_|refine aB ?_|refine aR ⟨_,rfl,?_⟩)
  ·rw [if_pos (by assumption)] at hds
   refine⟨⟨i+1,by omega⟩,by dsimp only;(omega),[0],?_⟩
   rw [GQ,GQ,List.set_set]
   simp[cX,zC,hΓ,hds]
  ·rw [if_neg (by grind)] at hds
   refine⟨⟨i+1,by omega⟩,by dsimp only;(omega),[0],?_⟩
   rw [GQ]
   simp[cX,zC,hΓ,hds]
 obtain rfl:i=N:=by (simp only[oZ] at *;omega)
 refine aE ?_
 (repeat first|refine tM rfl ?_ |refine aU rfl ?_)
 have hdlg:∀x,x < i→(dl (fun j=>if B0 n (BB (Ae n) (j:Nat)) (DG n j) then 0 else -1) i i).getD x 0=if B0 n (BB (Ae n) (x:Nat)) (DG n x) then 0 else -1:=by
  intro x hx;simp [dl,List.getD,hx]
 have hdll:(dl (fun j=>if B0 n (BB (Ae n) (j:Nat)) (DG n j) then 0 else -1) i i).length=i:=Uf (Nat.le_refl _)
 generalize dl (fun j=>if B0 n (BB (Ae n) (j:Nat)) (DG n j) then 0 else -1) i i=d0 at *
 have hdist:=hdist d0 (by omega) (by rw [hml];exact hdlg)
 rw [hml] at hdist
 (refine pW rfl ?_ rfl (by rfl);refine AD [0] rfl rfl hdist ⟨rfl,by simp,by simp⟩ rfl (by simp[cX,zC,hΓ]) ?_;rintro x0 σ1 nx1 ⟨rfl,rfl,dist,hD,rfl⟩ _)
 refine Aa ?_
 refine aS ?_
 refine Ak.freeze [0] [(1,.o (.ip (J5 n))),(4,Aj (Ae n)),(7,CA mv),(8,Aj dist)] ⟨⟨_,rfl,.Bb⟩,⟨_,rfl,.Bb⟩,⟨_,rfl,.Bb⟩,⟨.o (.arr 0 1 0 i),rfl,.o (.full (T:=3) (rows:=dist.map AB) (by simp) (by simp[cX,zC,hΓ,Ab.AX,BV,Gi]) (by simp [Function.comp_def]) (by simp [hD.len,hml]))⟩,trivial⟩ ?_
 have hG:HU (E3 n) (fun x=>dist.getD x.toNat 0):=Ue (by rw [hNN,hmm];exact hD)
 have hdl:=hD.len
 have hin:=Iv hn
 rw [hNN,hmm] at hin
 have hrow:∀x:Int,0≤x∧x < i→mv.getD x.toNat []=(Ac n.ls).map fun l=>(E3 n).succ x l:=by
  intro x hx;rw [←hmm,←hNN];exact Em (by rw [hNN];exact hx)
 have hrl:∀x,x < mv.length→(mv.getD x []).length=(Ac n.ls).length:=by
  intro x hx
  have:=hrow (x:Nat) (by omega)
  rw [Int.toNat_natCast] at this
  rw [this];simp
 have hcl:∀(at':List Int) (k:Nat) (d:Int),Cs i at'→k < (Ac n.ls).length→Pure Tryz.prog TB 285 [CA mv,Aj dist,Aj at',eI .i64 k,eI .i64 d] (Aj (DD mv dist at' k d)):=fun at' k d ha hk=>
  OB mv dist at' k d hin (by omega) hdl (by rw [hml];exact ha.2) (by have:=DY _ _ ha.1 ha.2;omega) (fun x hx=>by rw [hrl x hx];exact hk)
 have hcm:∀(at':List Int) (k:Nat) (d:Int) (m:Int),(Ac n.ls)[k]? = some m→Cs i at'→∀y,y∈DD mv dist at' k d↔∃x∈at',y∈(E3 n).succ x m∧dist.getD y.toNat 0=d:=by
  intro at' k d m hm ha y
  rw [←hmm,←hNN]
  exact Ua hm (by rw [hNN];exact ha.2)
 have hac:∀(at':List Int) (k:Nat) (d:Int),Cs i at'→Cs i (DD mv dist at' k d):=by
  intro at' k d ha
  have:=Cs.XX hin (dist:=dist) (d:=d) (k:=k) (l:=at') .nil (by rw [hml];exact ha.2)
  rwa [hml] at this
 obtain⟨s,hs⟩:∃s,Fx (Ae n) n.st 0=s:=⟨_,rfl⟩
 have hgs:(E3 n).s0=s:=hs
 have hsin:=hg.s0
 rw [hgs,hNN] at hsin
 rw [hs] at hencc
 obtain⟨dd,hdd⟩:=get_some (l:=dist) (k:=s.toNat) (by omega)
 have hdd':(dist.map Bq)[s.toNat]? = some (Bq dd):=by simp [hdd]
 have hddg:dist.getD (E3 n).s0.toNat 0=dd:=by rw [hgs];simp [List.getD,hdd]
 have hs0':([s].map Bq)[(0:Int).toNat]? = some (Bq s):=rfl
 have hbd:=hD.bound s.toNat (by omega)
 have hddb:dist.getD s.toNat 0=dd:=by simp [List.getD,hdd]
 rw [hddb] at hbd
 (repeat first|refine tA rfl ?_ |(refine s4 rfl ‹_› rfl ?_ ?_;omega) |refine sP rfl (hencc) rfl ?_|refine sP rfl (hlet) rfl ?_ |refine aU rfl ?_ |refine Aa ?_)
 by_cases hneg:dd < 0
 ·have hans:=TQ hg hG (by show dist.getD (E3 n).s0.toNat 0 < 0;rw [hddg];exact hneg)
  have hrr:=BL.unique hr hans
  subst hrr
  refine aB ?_
  refine Ak.A4 (α:=Unit) (fun _=>[(12,eT []),(13,eI .i64 dd)]) (fun _=>[]) 0 (fun _=>0) (()) [] (Eb hΓ rfl rfl) (by (simp[cX,zC,hΓ])) ?_;rintro _;(try dsimp only)
  (repeat first|refine tA rfl ?_ |refine s2 rfl fun _ _hb=>?_ |refine aU rfl ?_ |refine Aa ?_)
  (refine aC rfl ?_ ?_<;>rintro⟨⟩)
  ·exfalso;(simp only[oZ] at *;omega)
  (repeat' first|refine tA rfl ?_ |refine s2 rfl fun _ _hb=>?_ |refine aU rfl ?_ |refine Aa ?_|(refine aC rfl ?_ ?_<;>rintro⟨⟩)|refine aK ?_|refine aE ?_|refine aB ?_|refine aR ⟨_,rfl,?_⟩)
  all_goals first
   | (exfalso;omega;done)
   | (subst _hb;rw [show decide (dd=0)=false from decide_eq_false (by omega)];rfl)
 ·have hW0 := JY.init (dx:=fun x=>dist.getD x.toNat 0) hg (by show 0≤dist.getD (E3 n).s0.toNat 0;rw [hddg];omega)
  have hW0:JY (E3 n) (fun x=>dist.getD x.toNat 0) [] [s] dd:=by rw [hgs,hddb] at hW0;exact hW0
  refine aB ?_
  refine Ak.A4 (α:={x:List Int×List Int×Int // JY (E3 n) (fun x=>dist.getD x.toNat 0) x.1 x.2.1 x.2.2}) (fun ⟨⟨w,at',d⟩,hW⟩=>[(7,CA mv),(8,Aj dist),(10,Aj at'),(11,Aj (Ac n.ls)),(12,eT (CK w)),(13,eI .i64 d)]) (fun ⟨⟨w,at',d⟩,hW⟩=>[]) 0 (fun ⟨⟨w,at',d⟩,hW⟩=>d.toNat) (⟨([],[s],dd),hW0⟩) [] (Eb hΓ rfl rfl) (by (repeat' first|exact tI|rfl|refine And.intro ?_ ?_)) ?_;rintro⟨⟨w,at',d⟩,hW⟩;(try dsimp only)
  simp only at hW
  have hWl:=hW.len
  have hWd:=hW.d0
  have hWa:=hW.acc
  have hWl:(w.length:Int)+d=dd:=by rw [←hddg];exact hWl
  rw [hNN] at hWa
  (repeat first|refine tA rfl ?_ |refine s2 rfl fun _ _hb=>?_ |refine aU rfl ?_ |refine Aa ?_)
  (refine aC rfl ?_ ?_<;>rintro⟨⟩)
  ·have hdp:0 < d:=by (simp only[oZ] at *;omega)
   obtain⟨l0,hl0,hx0⟩:=hW.prog hG hdp
   have hlx:∀l:Int,l∈(E3 n).ls→∃k:Nat,(Ac n.ls)[k]? = some l:=fun l hl=>List.getElem?_of_mem hl
   have hkp:∀k:Nat,(∀k',k' < k→DD mv dist at' k' (d - 1)=[])→k < (Ac n.ls).length:=by
    intro k hk2
    rcases Nat.lt_or_ge k (Ac n.ls).length with h|h
    ·exact h
    ·exfalso
     obtain⟨j,hj⟩:=hlx l0 hl0
     have h1:=hk2 j (by have:=(List.getElem?_eq_some_iff.1 hj).1;omega)
     obtain⟨x,hx,y,hy,hdy⟩:=hx0
     have h2:=(hcm at' j (d - 1) l0 hj hWa y).2 ⟨x,hx,hy,hdy⟩
     rw [h1] at h2;cases h2
   have hk0:=hkp 0 (fun k' h=>by omega)
   refine aK ?_
   refine aS (aB ?_)
   (repeat first|(refine sA rfl ?_ ?_;first|exact tI|omega) |refine sP rfl (hcl at' 0 (d - 1) hWa hk0) rfl ?_ |refine aU rfl ?_ |refine Aa ?_)
   refine aB ?_
   refine Ak.A4 (α:={k:Nat // ∀k',k' < k→DD mv dist at' k' (d - 1)=[]}) (fun ⟨k,hkk⟩=>[(7,CA mv),(8,Aj dist),(10,Aj at'),(11,Aj (Ac n.ls)),(12,eT (CK w)),(13,eI .i64 d),(14,eI .i64 k),(15,Aj (DD mv dist at' k (d - 1)))]) (fun ⟨k,hkk⟩=>[]) 0 (fun ⟨k,hkk⟩=>(Ac n.ls).length - k) (⟨0,fun k' h=>by omega⟩) [] (Eb hΓ rfl rfl) (by (simp[cX,zC,hΓ])) ?_;rintro⟨k,hkk⟩;(try dsimp only)
   have hkl:=hkp k hkk
   have hacK:=hac at' k (d - 1) hWa
   (repeat first|refine sN rfl ?_ |refine tA rfl ?_ |refine s2 rfl fun _ _hb=>?_ |refine aU rfl ?_ |refine Aa ?_)
   (refine aC rfl ?_ ?_<;>rintro⟨⟩)
   ·have hnil:DD mv dist at' k (d - 1)=[]:=List.length_eq_zero_iff.1 (by (simp only[oZ] at *;omega))
    have hkk2:∀k',k' < k+1→DD mv dist at' k' (d - 1)=[]:=fun k' h=>by
     rcases Nat.lt_succ_iff_lt_or_eq.1 h with h|h
     ·exact hkk k' h
     ·rw [h];exact hnil
    have hc2:=hcl at' (k+1) (d - 1) hWa (hkp _ hkk2)
    rw [show (((k+1:Nat)):Int)=(k:Int)+1 from rfl] at hc2
    refine aK ?_
    refine aB ?_
    (repeat first|(refine sA rfl ?_ ?_;first|exact tI|omega) |refine sP rfl (hc2) rfl ?_ |refine aU rfl ?_ |refine Aa ?_)
    refine⟨⟨k+1,hkk2⟩,by dsimp only;(omega),[],?_⟩
    simp[cX,zC,hΓ]
   ·obtain⟨m,hm⟩:=get_some (l:=Ac n.ls) (k:=k) hkl
    have hm':=get_map (g:=Bq) hm
    have hmb:=Av (List.mem_of_getElem? hm)
    have hne:DD mv dist at' k (d - 1)≠[]:=fun e=>by rw [e] at _hb;simp at _hb
    have hN2:=hW.next hg hG hdp (l:=m) (List.mem_of_getElem? hm) (at2:=DD mv dist at' k (d - 1)) (by rw [hNN];exact hacK) hne (fun y=>by
     rw [hcm at' k (d - 1) m hm hWa y]) (fun m' hm' hlt=>by
     rintro⟨x,hx,y,hy,hdy⟩
     obtain⟨j,hj⟩:=hlx m' hm'
     have hjk:=Uu (C9 n.ls 6) hj hm hlt
     have h2:=(hcm at' j (d - 1) m' hj hWa y).2 ⟨x,hx,hy,hdy⟩
     rw [hkk j hjk] at h2;cases h2)
    have htl:(CK w).length=w.length:=by simp [CK]
    have htx:CK w++[97+UInt8.ofNat m.toNat]=CK (w++[m]):=by simp [CK]
    refine aE ?_
    (repeat first|(refine sA rfl ?_ ?_;first|exact tI|omega|simp only[oZ] at *;omega) |(refine s4 rfl ‹_› rfl ?_ ?_;omega) |refine sP rfl (GY m (by omega) (by omega)) rfl ?_ |refine aU rfl ?_ |refine Aa ?_)
    refine⟨⟨(w++[m],DD mv dist at' k (d - 1),d - 1),hN2⟩,by dsimp only;omega,[],?_⟩
    simp[cX,zC,hΓ,htx]
  ·obtain rfl:d=0:=by (simp only[oZ] at *;omega)
   have hans:=hW.c6 hg hG
   have hrr:=BL.unique hr hans
   subst hrr
   (repeat' first|refine tA rfl ?_ |refine s2 rfl fun _ _hb=>?_ |refine aU rfl ?_ |refine Aa ?_|(refine aC rfl ?_ ?_<;>rintro⟨⟩)|refine aK ?_|refine aE ?_|refine aB ?_|refine aR ⟨_,rfl,?_⟩)
   all_goals first
    | (subst _hb;rfl)
abbrev bK(r:Option (List Int)):List UInt8:=(r.map CK).getD []
abbrev Nk(r:Option (List Int)):E:=.t [(false,[.d (tD (bK r))]),(false,[.d (bD r.isSome)])]
theorem Wu(r:Option (List Int)):ZA r=Nk r:=by cases r<;>rfl
noncomputable def Gn(g:Gr):Option (List Int):=Classical.choose (KM g)
theorem E5(g:Gr):BL g (Gn g):=Classical.choose_spec (KM g)
theorem TP{g:Gr}{r:Option (List Int)}(h:BL g r):Gn g=r:=BL.unique (E5 g) h
theorem WG{a b:Nat}(ha:a < 64)(hb:b < 64):ZT .i64 a b=((a ||| b:Nat):Int)∧a ||| b < 64:=by
 have h0:a ||| b < 64:=Nat.or_lt_two_pow (n:=6) ha hb
 refine⟨?_,h0⟩
 unfold ZT
 have h1:(BitVec.ofInt IntKind.i64.bits (a:Int) ||| BitVec.ofInt IntKind.i64.bits (b:Int)).toNat=a ||| b:=by
  have e:IntKind.i64.bits=64:=rfl
  rw [e]
  simp only [BitVec.toNat_or,BitVec.ofInt_natCast,BitVec.toNat_ofNat]
  rw [Nat.mod_eq_of_lt (by omega),Nat.mod_eq_of_lt (by omega)]
 rw [h1]
 exact IntWalk.i64_in _ (by omega)
theorem Mx:∀ {zs:List Int},(∀z∈zs,0 < z)→Fits zs (List.replicate zs.length 0)
 | [],_=>.nil
 | z::zs,h=>by
  rw [List.length_cons,List.replicate_succ]
  exact .cons (by omega) (h z (by simp)) (Mx fun x hx=>h x (by simp [hx]))
end Go.Am
namespace Go.Am
open Go
end Go.Am
namespace Go.Am
open Go Go.Proofs
set_option maxHeartbeats 1000000
set_option maxRecDepth 4000
attribute [local irreducible] AY B2 Lex Br Ak Spec
variable {TB:Bw}
theorem Vy(r:Nat→Nat):∀ds:List D,C.BA r (ds.map .d)=ds.map .d
 | []=>rfl
 | d::l=>by simp [C.BA,C.AX,Vy r l]
theorem Qw{r:List C}{j:Nat}{c:C}(h:j < r.length):Ai r j [c]=r.set j c:=by
 unfold Ai
 rw [List.set_eq_take_append_cons_drop,if_pos h]
 simp
theorem Xo{t:Int}(h0:0≤t)(h1:t < 16):IntKind.i64.wrap (1*2 ^ (min t.toNat IntKind.i64.bits))=((2 ^ t.toNat:Nat):Int):=by
 have e:min t.toNat IntKind.i64.bits=t.toNat:=by
  have:IntKind.i64.bits=64:=rfl
  omega
 rw [e,Int.one_mul]
 have h2:2 ^ t.toNat < 2 ^ 16:=Nat.pow_lt_pow_right (by omega) (by omega)
 have h3:(2:Int) ^ t.toNat=((2 ^ t.toNat:Nat):Int):=by push_cast;rfl
 rw [h3]
 generalize 2 ^ t.toNat=p at *
 exact IntWalk.i64_in _ (by omega)
def Lo(h:Nat→Int):List C:=(List.range 6).map fun l=>.d (iD (h l))
def Qq(h:Nat→Int):List D:=(List.range 6).map fun l=>iD (h l)
theorem VG(h:Nat→Int):Lo h=(Qq h).map .d:=by simp [Lo,Qq]
def Bn{α:Type}(n:Nat)(g:Nat→α):List α:=(List.range n).map g
theorem CE{α:Type}{n q:Nat}{g:Nat→α}(h:q < n):(Bn n g)[q]? = some (g q):=by simp [Bn,h]
theorem Ju{α:Type}{n q:Nat}{g:Nat→α}{x:α}:(Bn n g).set q x=Bn n fun i=>if i=q then x else g i:=by
 apply List.ext_getElem?
 intro i
 by_cases hi:i < n
 ·rw [CE hi]
  by_cases hq:q=i
  ·subst hq;rw [List.getElem?_set_self (by simp [Bn,hi])];simp
  ·rw [List.getElem?_set_ne hq,CE hi,if_neg (Ne.symm hq)]
 ·rw [List.getElem?_eq_none (by simp [Bn];omega),List.getElem?_eq_none (by simp [Bn];omega)]
theorem B4{α:Type}{n:Nat}{g g':Nat→α}(h:∀i,i < n→g i=g' i):Bn n g=Bn n g':=by
 unfold Bn
 exact List.map_congr_left fun i hi=>h i (List.mem_range.1 hi)
theorem VH{h:Nat→Int}{l:Nat}{v:Int}(hl:l < 6):Ai (Lo h) (0+l*1) (eC (eI .i64 v))=Lo fun x=>if x=l then v else h x:=by
 have e:eC (eI .i64 v)=[C.d (iD v)]:=rfl
 rw [e,Qw (by simp [Lo];omega)]
 have:=Ju (n:=6) (q:=l) (g:=fun l=>C.d (iD (h l))) (x:=C.d (iD v))
 have e1:0+l*1=l:=by omega
 rw [e1]
 refine Eq.trans this (B4 fun i _=>?_)
 by_cases e:i=l<;>simp [e]
theorem HL{h h':Nat→Int}(hh:∀l,l < 6→h l=h' l):Lo h=Lo h':=B4 fun i hi=>by rw [hh i hi]
theorem Ho(s:Int):∀(n k:Nat),k≤n→Az s k <+: Az s n
  | 0, k, h => by have:k=0:=by omega
                  subst this;exact List.prefix_refl _
  | n + 1,k,h=>by
    rcases Nat.lt_or_ge k (n+1) with h1|h1
    · rw [B1]
      exact(Ho s n k (by omega)).trans (List.prefix_append _ _)
    · have:k=n+1:=by omega
      subst this;exact List.prefix_refl _
theorem Dy{s:Int}{k n:Nat}{l:Int}(h:(Az s n)[k]? = some l):(Az s l.toNat).length=k:=by
 have h1:=Av (List.mem_of_getElem? h)
 have h2:(Az s (l.toNat+1))[(Az s l.toNat).length]? = some l:=by
  rw [B1,if_pos h1.2.2,List.getElem?_append_right (Nat.le_refl _)]
  simp;omega
 have h3:(Az s n)[(Az s l.toNat).length]? = some l:=by
  obtain⟨t,ht⟩:=Ho s n (l.toNat+1) (by omega)
  rw [←ht,List.getElem?_append_left (List.getElem?_eq_some_iff.1 h2).1];exact h2
 have hp:=C9 s n
 rw [List.pairwise_iff_getElem] at hp
 obtain⟨a1,a2⟩:=List.getElem?_eq_some_iff.1 h
 obtain⟨b1,b2⟩:=List.getElem?_eq_some_iff.1 h3
 rcases Nat.lt_trichotomy (Az s l.toNat).length k with h4|h4|h4
 ·have:=hp _ _ b1 a1 h4;omega
 ·exact h4
 ·have:=hp _ _ a1 b1 h4;omega
theorem EW{s:Int}{n l:Nat}:(l:Int)∈Az s n↔l < n∧EM s l=true:=by
 unfold Az
 simp only [List.mem_map,List.mem_filter,List.mem_range]
 constructor
 ·rintro⟨a,ha,e⟩
  have:a=l:=by have e:((a:Nat):Int)=l:=e;omega
  subst this;exact ha
 ·intro h;exact⟨l,h,rfl⟩
def LI(n:Nat)(H:Nat→Nat→Int):List (List C):=Bn n fun i=>Lo (H i)
theorem Hd(r:Nat→Nat)(n:Nat)(H:Nat→Nat→Int):(LI n H).map (C.BA r)=LI n H:=by
 unfold LI Bn
 rw [List.map_map]
 exact List.map_congr_left fun i _=>by simp only [Function.comp_def,VG,Vy]
theorem VU(n:Nat):LI n (fun _ _=>0)=List.replicate n [C.d (D.v (Value.int IntKind.i64 0)),C.d (D.v (Value.int IntKind.i64 0)),C.d (D.v (Value.int IntKind.i64 0)),C.d (D.v (Value.int IntKind.i64 0)),C.d (D.v (Value.int IntKind.i64 0)),C.d (D.v (Value.int IntKind.i64 0))]:=by
 unfold LI Bn
 rw [List.map_const'];simp;exact .inr rfl
theorem Sc{n q:Nat}{H:Nat→Nat→Int}(h:q < n):(LI n H)[0+((q:Nat):Int).toNat]? = some (Lo (H q)):=by
 rw [Nat.zero_add,Int.toNat_natCast];exact CE (g:=fun i=>Lo (H i)) h
theorem Sd{n q l:Nat}{v:Int}{H:Nat→Nat→Int}(hl:l < 6):(LI n H).set (0+((q:Nat):Int).toNat) (Ai (Lo (H q)) (0+((l:Nat):Int).toNat*1) (eC (eI .i64 v)))=LI n fun i x=>if i=q∧x=l then v else H i x:=by
 rw [Nat.zero_add,Int.toNat_natCast,Int.toNat_natCast,VH hl]
 unfold LI
 rw [Ju]
 refine B4 fun i _=>?_
 by_cases e:i=q
 ·subst e;rw [if_pos rfl];exact HL fun l _=>by simp
 ·rw [if_neg e];exact HL fun l _=>by simp [e]
theorem Fm{n:Nat}{H H':Nat→Nat→Int}(h:∀i,i < n→∀l,l < 6→H i l=H' i l):LI n H=LI n H':=B4 fun i hi=>HL fun l hl=>h i hi l hl
theorem Xt(n:Nat)(H:Nat→Nat→Int):(LI n H).length=n:=by simp [LI,Bn]
def Es(a:AP):List (List D):=Bn a.nx.length fun q=>Qq fun l=>Bo a q l
theorem bf(a:AP):LI a.nx.length (fun i l=>Bo a i l)=(Es a).map fun r=>r.map .d:=by
 unfold LI Es Bn
 rw [List.map_map]
 exact List.map_congr_left fun i _=>by simp only [Function.comp_def,VG]
def HT(a:AP):Prop:=a.nx.length≤64∧∀q,q < a.nx.length→∃row:List Int,a.nx[q]? = some row∧row.length=(Ac a.al).length∧∀(k:Nat) y,row[k]? = some y→0≤y∧y < a.nx.length
theorem QX{a:AP}(h:AF a=true):HT a:=⟨by have:=Al h;omega,fun q hq=>GW h hq⟩
theorem JS(a:AP)(h:HT a):Pure Tryz.prog TB 132 [A2 a] (.o (.d (.l (Es a)))):=by
 have hh:=h.1
 have hll:(Ac a.al).length≤6:=AL a.al 6
 refine eN Tryz.func132 rfl (by kernel_rfl) rfl ?_;intro Γ hΓ
 (repeat first|refine aU rfl ?_)
 (refine Ag rfl ?_;refine Cq (fun _ _=>Cw rfl rfl rfl) rfl ?_)
 (refine Ag rfl ?_;refine Cq (fun _ _=>CT rfl) rfl ?_)
 (repeat first|refine sN rfl ?_ |refine tM rfl ?_ |refine aU rfl ?_ |refine Aa ?_)
 (refine pW rfl ?_ rfl (by rfl);refine HI rfl rfl (by rfl) (by rfl) (Nat.le_of_ble_eq_true rfl) (by omega) (by omega) (by omega) ?_)
 (repeat first|refine sN rfl ?_ |refine tM rfl ?_ |refine sP rfl (CD a.al) rfl ?_ |refine aU rfl ?_ |refine Aa ?_)
 refine aB ?_
 refine Ak.A4 (α:={q:Nat // q≤a.nx.length}) (fun ⟨q,hq⟩=>[(1,.o (.ip (Bm a))),(3,.o (.arr 0 6 0 a.nx.length)),(4,Aj (Ac a.al)),(18,Dp a.nx),(19,eI .i64 a.nx.length),(20,eI .i64 q)]) (fun ⟨q,hq⟩=>[(0,.cells 148 6 (LI a.nx.length fun i l=>if i < q then Bo a i l else 0))]) 1 (fun ⟨q,hq⟩=>a.nx.length - q) (⟨0,by omega⟩) [0] (Eb hΓ rfl rfl) (by (simp[cX,zC,hΓ,Hd,VU])) ?_;rintro⟨q,hq⟩;(try dsimp only)
 (repeat first|refine s2 rfl fun _ _hb=>?_ |refine aU rfl ?_ |refine Aa ?_)
 (refine aC rfl ?_ ?_<;>rintro⟨⟩)
 ·have hqn : q < a.nx.length:=by (simp only[oZ] at *;omega)
  obtain⟨row,hr,hrl,hrx⟩:=h.2 q hqn
  have hr':=get_map (g:=Dm) hr
  refine aK ?_
  refine aS (aB ?_)
  (repeat first|refine tM rfl ?_ |(refine s4 rfl ‹_› rfl ?_ ?_;omega) |refine aU rfl ?_ |refine Aa ?_)
  refine aB ?_
  refine Ak.A4 (α:={m:Nat // m≤6}) (fun ⟨m,hm⟩=>[(1,.o (.ip (Bm a))),(3,.o (.arr 0 6 0 a.nx.length)),(4,Aj (Ac a.al)),(18,Dp a.nx),(19,eI .i64 a.nx.length),(20,eI .i64 q),(5,eI .i64 q),(6,Aj row),(25,eI .i64 m)]) (fun ⟨m,hm⟩=>[(0,.cells 148 6 (LI a.nx.length fun i l=>if i < q then Bo a i l else if i=q∧l < m then q else 0))]) 1 (fun ⟨m,hm⟩=>6 - m) (⟨0,by omega⟩) [0] (Eb hΓ rfl rfl) (by (simp[cX,zC,hΓ,Hd])) ?_;rintro⟨m,hm⟩;(try dsimp only)
  (repeat first|refine s2 rfl fun _ _hb=>?_ |refine aU rfl ?_ |refine Aa ?_)
  (refine aC rfl ?_ ?_<;>rintro⟨⟩)
  ·have hm6:m < 6:=by (simp only[oZ] at *;omega)
   have hmj:0+((m:Nat):Int).toNat*1+1≤6:=by omega
   have hg:=Sc (H:=fun i l=>if i < q then Bo a i l else if i=q∧l < m then q else 0) hqn
   have hs:=Sd (n:=a.nx.length) (q:=q) (v:=q) (H:=fun i l=>if i < q then Bo a i l else if i=q∧l < m then q else 0) hm6
   have hc:(LI a.nx.length fun (i x:Nat)=>if i=q∧x=m then (q:Int) else (fun (i l:Nat)=>if i < q then Bo a i l else if i=q∧l < m then (q:Int) else 0) i x)=LI a.nx.length fun i l=>if i < q then Bo a i l else if i=q∧l < m+1 then (q:Int) else 0:=Fm fun i _ l _=>by dsimp only;grind
   refine aK ?_
   refine aS (aB ?_)
   (repeat first|(refine sM rfl ?_ ?_;first|exact tI|omega) |refine aU rfl ?_ |refine Aa ?_)
   (refine Ag rfl ?_;refine Hq ?_ rfl (by rfl);refine Ix rfl rfl rfl rfl (hg) rfl (hmj) ?_)
   (repeat first|(refine sM rfl ?_ ?_;first|exact tI|omega) |refine aU rfl ?_ |refine Aa ?_)
   refine⟨⟨m+1,by omega⟩,by dsimp only;(omega),[0],?_⟩
   rw [hs,hc]
   simp[cX,zC,hΓ,Hd]
  ·obtain rfl:m=6:=by (simp only[oZ] at *;omega)
   have hc0:=Fm (n:=a.nx.length) (H:=fun i l=>if i < q then Bo a i l else if i=q∧l < 6 then (q:Int) else 0) (H':=fun i l=>if i < q then Bo a i l else if i=q then (if (l:Int)∈(Ac a.al).take 0 then Bo a q l else (q:Int)) else 0) fun i _ l hl=>by simp [hl]
   rw [hc0]
   refine aE ?_
   (repeat first|refine sN rfl ?_ |refine tM rfl ?_ |refine aU rfl ?_ |refine Aa ?_)
   refine aB ?_
   refine Ak.A4 (α:={k:Nat // k≤(Ac a.al).length}) (fun ⟨k,hk⟩=>[(1,.o (.ip (Bm a))),(3,.o (.arr 0 6 0 a.nx.length)),(4,Aj (Ac a.al)),(18,Dp a.nx),(19,eI .i64 a.nx.length),(20,eI .i64 q),(5,eI .i64 q),(6,Aj row),(35,Aj (Ac a.al)),(36,eI .i64 (Ac a.al).length),(37,eI .i64 k)]) (fun ⟨k,hk⟩=>[(0,.cells 148 6 (LI a.nx.length fun i l=>if i < q then Bo a i l else if i=q then (if (l:Int)∈(Ac a.al).take k then Bo a q l else (q:Int)) else 0))]) 1 (fun ⟨k,hk⟩=>(Ac a.al).length - k) (⟨0,by omega⟩) [0] (Eb hΓ rfl rfl) (by (simp[cX,zC,hΓ,Hd])) ?_;rintro⟨k,hk⟩;(try dsimp only)
   (repeat first|refine s2 rfl fun _ _hb=>?_ |refine aU rfl ?_ |refine Aa ?_)
   (refine aC rfl ?_ ?_<;>rintro⟨⟩)
   ·obtain⟨l,hl⟩:=get_some (l:=Ac a.al) (k:=k) (by (simp only[oZ] at *;omega))
    have hl':=get_map (g:=Bq) hl
    have hlb:=Av (List.mem_of_getElem? hl)
    have hpl:=Dy hl
    obtain⟨y,hy⟩:=get_some (l:=row) (k:=k) (by (simp only[oZ] at *;omega))
    have hy':=get_map (g:=Bq) hy
    obtain⟨m,rfl⟩:∃m:Nat,l=m:=⟨l.toNat,by omega⟩
    have hgo:Bo a q m=y:=by
     unfold Bo
     rw [if_pos hlb.2.2,hpl];simp [List.getD,hr,hy]
    have hm6:m < 6:=by omega
    have hmj:0+((m:Nat):Int).toNat*1+1≤6:=by omega
    have hg:=Sc (H:=fun i l=>if i < q then Bo a i l else if i=q then (if (l:Int)∈(Ac a.al).take k then Bo a q l else (q:Int)) else 0) hqn
    have hs:=Sd (n:=a.nx.length) (q:=q) (v:=y) (H:=fun i l=>if i < q then Bo a i l else if i=q then (if (l:Int)∈(Ac a.al).take k then Bo a q l else (q:Int)) else 0) hm6
    have hc:(LI a.nx.length fun (i x:Nat)=>if i=q∧x=m then y else (fun (i l:Nat)=>if i < q then Bo a i l else if i=q then (if (l:Int)∈(Ac a.al).take k then Bo a q l else (q:Int)) else 0) i x)=LI a.nx.length fun i l=>if i < q then Bo a i l else if i=q then (if (l:Int)∈(Ac a.al).take (k+1) then Bo a q l else (q:Int)) else 0:=Fm fun i _ l _=>by
     try dsimp only
     rw [List.take_add_one,hl]
     by_cases e:i=q
     ·subst e
      by_cases e2:l=m
      ·subst e2;simp [hgo]
      ·have e3:¬(l:Int)=(m:Int):=by omega
       simp [e2,e3]
     ·simp [e]
    refine aK ?_
    refine aS (aB ?_)
    (repeat first|refine tM rfl ?_ |(refine s4 rfl ‹_› rfl ?_ ?_;omega) |refine aU rfl ?_ |refine Aa ?_)
    refine rG (IY [9]) (by kernel_rfl) ?_
    (repeat first|(refine sM rfl ?_ ?_;first|exact tI|omega) |(refine s4 rfl ‹_› rfl ?_ ?_;omega))
    (refine Ag rfl ?_;refine Hq ?_ rfl (by rfl);refine Ix rfl rfl rfl rfl (hg) rfl (hmj) ?_)
    (repeat first|(refine sM rfl ?_ ?_;first|exact tI|omega) |refine aU rfl ?_ |refine Aa ?_)
    refine⟨⟨k+1,by (simp only[oZ] at *;omega)⟩,by dsimp only;((simp only[oZ] at *;omega)),[0],?_⟩
    rw [hs,hc]
    simp[cX,zC,hΓ,Hd]
   ·obtain rfl:k=(Ac a.al).length:=by (simp only[oZ] at *;omega)
    have hc0:=Fm (n:=a.nx.length) (H:=fun i l=>if i < q then Bo a i l else if i=q then (if (l:Int)∈(Ac a.al).take (Ac a.al).length then Bo a q l else (q:Int)) else 0) (H':=fun i l=>if i < q+1 then Bo a i l else 0) fun i _ l hl=>by
     try dsimp only
     rw [List.take_length]
     by_cases e:i=q
     ·subst e
      simp only [Nat.lt_irrefl,if_false,if_true,Nat.lt_succ_self]
      by_cases e2:EM a.al l=true
      ·rw [if_pos (EW.2 ⟨hl,e2⟩)]
      ·rw [if_neg (fun h=>e2 (EW.1 h).2)];unfold Bo;rw [if_neg (by simpa using e2)]
     ·by_cases e2:i < q
      ·rw [if_pos e2,if_pos (by omega)]
      ·rw [if_neg e2,if_neg e,if_neg (by omega)]
    rw [hc0]
    refine aE ?_
    (repeat first|(refine sM rfl ?_ ?_;first|exact tI|omega) |refine aU rfl ?_ |refine Aa ?_)
    refine⟨⟨q+1,by omega⟩,by dsimp only;(omega),[0],?_⟩
    simp[cX,zC,hΓ,Hd]
 ·obtain rfl:q=a.nx.length:=by (simp only[oZ] at *;omega)
  have hc:=Fm (n:=a.nx.length) (H:=fun i l=>if i < a.nx.length then Bo a i l else 0) (H':=fun i l=>Bo a i l) fun i hi l _=>by rw [if_pos hi]
  rw [hc]
  refine aE ?_
  (repeat first|refine tM rfl ?_ |refine aU rfl ?_ |refine Aa ?_)
  refine Ak.freeze [0] [(2,.o (.d (.l (Es a))))] ⟨⟨_,rfl,.o (.full (by simp) rfl (bf a) (by simp [Xt]))⟩,trivial⟩ ?_
  refine aR ⟨_,rfl,rfl⟩
theorem FW(a:AP)(h:AF a=true):Pure Tryz.prog TB 132 [A2 a] (.o (.d (.l (Es a)))):=JS a (QX h)
end Go.Am
