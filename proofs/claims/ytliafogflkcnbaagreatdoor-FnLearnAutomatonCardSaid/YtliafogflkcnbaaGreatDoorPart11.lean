/-
  Nodes of the kind that is searched for.
-/
import Derived.Test.YtliafogflkcnbaaGreatDoorPart10
import Derived.Test.YtliafogflkcnbaaGreatDoorPart9
import Derived.Lib.TrailingZeros
set_option linter.constructorNameAsVariable false
set_option linter.unusedSectionVars false
set_option linter.unusedSimpArgs false
set_option linter.unusedVariables false
namespace Go.Am
open Go Go.Proofs
set_option maxHeartbeats 1000000
attribute [local irreducible] AY B2 Lex Bq Ak Spec
variable {TB:Bu}
def Xa(n:Net)(st:List Int)(i:Nat):Bool:=((n.au[i]?.map (·.ac)).getD []).getD (st.getD (n.ps.length+i) 0).toNat false
def BZ(n:Net)(st:List Int)(mv:List (List Int)):Bool:=
 if n.kd=0 then Xa n st 0 else if n.kd=1 then Xa n st 0 != Xa n st 1 else if n.kd=2 then Xa n st 0 && !Xa n st 1 else if n.kd=3 then !Xa n st 0 else
 if n.kd=5 then decide (st.getD n.ps.length 0=n.gl) else mv.all (·.isEmpty)
structure YF (n:Net):Prop where
 one:n.kd=0∨n.kd=3∨n.kd=5→1≤n.au.length
 two:n.kd=1∨n.kd=2→2≤n.au.length
theorem O7{n:Net}(hn:Dq n){st:List Int}(hf:Fits (Ae n) st)(i:Nat)(hi:i < n.au.length):Pure Tryz.prog TB 247 [Jf n,Ai st,eI .i64 i] (eB (Xa n st i)):=by
 obtain⟨a,ha⟩:=get_some hi
 have hok:=hn.au a (List.mem_of_getElem? ha)
 have h1:=Ar hok
 have hz:(Ae n)[n.ps.length+i]? = some (a.nx.length:Int):=by unfold Ae;rw [List.getElem?_append_right (by simp)];simp [ha]
 have hlen:=hf.len
 obtain⟨q,hq⟩:=get_some (l:=st) (k:=n.ps.length+i) (by have:=(List.getElem?_eq_some_iff.1 hz).1;omega)
 have h2:=hf.get _ _ _ hz hq
 obtain⟨b,hb⟩:=get_some (l:=a.ac) (k:=q.toNat) (by omega)
 have h3:=Xy (TB:=TB) n st i a q b ha hq h2.1 hb
 have h4:Xa n st i=b:=by simp [Xa,ha,List.getD,hq,hb]
 rw [h4];exact h3
theorem QB{n:Net}(hn:Dq n)(hk:YF n){st:List Int}(hf:Fits (Ae n) st)(mv:List (List Int)):Pure Tryz.prog TB 222 [Jf n,Ai st,Ds mv] (eB (BZ n st mv)):=by
 have h0:=O7 (TB:=TB) hn hf 0
 have h1:=O7 (TB:=TB) hn hf 1
 have hk1:=hk.one
 have hk2:=hk.two
 have hnp:=hn.np
 have hna:=hn.na
 have hst:n.ps.length+n.au.length=st.length:=by have:=hf.len;unfold Ae at this;simpa using this
 have hat:n.kd=5→(st.map Bk)[((n.ps.length:Nat):Int).toNat]? = some (Bk (st.getD n.ps.length 0)):=by
  intro h5
  obtain⟨x,hx⟩:=get_some (l:=st) (k:=n.ps.length) (by omega)
  rw [get_map (g:=Bk) hx];simp [List.getD,hx]
 refine eN Tryz.func222 rfl (by kernel_rfl) rfl ?_;intro Γ hΓ
 refine Ak.bound 2 rfl fun hB0=>?_
 have hB:=hB0 (mv.map C1) .refl
 (repeat' first|refine sN rfl ?_ |refine tA rfl ?_ |refine s2 rfl fun _ _hb=>?_ |(refine sC rfl (h0 (by (simp only[oZ] at *;omega))) ?_;intro _ _hb)|(refine sC rfl (h1 (by (simp only[oZ] at *;omega))) ?_;intro _ _hb) |refine s3 rfl ?_ ?_<;>rintro rfl |refine aU rfl ?_ |refine Aa ?_ |refine rE (by kernel_rfl) ?_|(refine aC rfl ?_ ?_<;>rintro⟨⟩)|refine aK ?_|refine aE ?_|refine aB ?_|refine aR ⟨_,rfl,?_⟩)
 all_goals try (show E.o _=E.o _;congr;unfold BZ;grind)
 ·have hat:=hat (by grind)
  (repeat' first|refine tA rfl ?_ |(refine s4 rfl ‹_› rfl ?_ ?_;omega) |refine s2 rfl fun _ _hb=>?_ |refine Aa ?_|(refine aC rfl ?_ ?_<;>rintro⟨⟩)|refine aK ?_|refine aE ?_|refine aB ?_|refine aR ⟨_,rfl,?_⟩)
  show E.o _=E.o _;congr;unfold BZ;grind
 refine Ak.AZ (α:={k:Nat // k≤mv.length∧(mv.take k).all (·.isEmpty)=true}) (fun ⟨k,hk,ha⟩=>[(2,Ds mv),(7,eI .i64 k)]) (fun ⟨k,hk,ha⟩=>[]) 0 (fun ⟨k,hk,ha⟩=>mv.length - k) (⟨0,by omega,rfl⟩) [] (DB hΓ rfl rfl) (by (simp[cX,zC,hΓ])) ?_;rintro⟨k,hk,ha⟩;(try dsimp only)
 (repeat first|refine sN rfl ?_ |refine tA rfl ?_ |refine s2 rfl fun _ _hb=>?_ |refine aU rfl ?_ |refine Aa ?_)
 (refine aC rfl ?_ ?_<;>rintro⟨⟩)
 ·obtain⟨x,hx⟩:=get_some (l:=mv) (k:=k) (by (simp only[oZ] at *;omega))
  have hx':=get_map (g:=C1) hx
  (repeat' first|refine sN rfl ?_ |(refine sA rfl ?_ ?_;first|exact tI|simp only[oZ] at *;omega) |(refine s4 rfl ‹_› rfl ?_ ?_;omega) |refine s2 rfl fun _ _hb=>?_ |refine aU rfl ?_ |refine Aa ?_|(refine aC rfl ?_ ?_<;>rintro⟨⟩)|refine aK ?_|refine aE ?_|refine aB ?_|refine aR ⟨_,rfl,?_⟩)
  ·have h3:=GX (f:=fun x:List Int=>x.isEmpty) hx (by cases x<;>grind)
   show E.o _=E.o _;congr;unfold BZ;grind
  ·refine⟨⟨k+1,by (simp only[oZ] at *;omega),E9 hx ha (by cases x<;>grind)⟩,by dsimp only;((simp only[oZ] at *;omega)),[],?_⟩
   simp[cX,zC,hΓ]
 ·(repeat' first|refine tA rfl ?_ |refine aU rfl ?_ |refine Aa ?_|(refine aC rfl ?_ ?_<;>rintro⟨⟩)|refine aK ?_|refine aE ?_|refine aB ?_|refine aR ⟨_,rfl,?_⟩)
  have h3:=E8 ha (by (simp only[oZ] at *;omega))
  show E.o _=E.o _;congr;unfold BZ;grind
theorem GA{α β:Type}{l:List α}{g:α→β}{k:Nat}{x:α}(h:l[k]? = some x):(l.map g)[0+((k:Nat):Int).toNat]? = some (g x):=by simp [h]
theorem GQ{l:List Int}{k:Nat}{x y:Int}:(l.map AB).set (0+((k:Nat):Int).toNat) (Aj (AB x) 0 (eC (eI .i64 y)))=(l.set k y).map AB:=by
 simp [Aj,eC,List.map_set]
def Ms(l:List Int):Nat:=l.countP (decide <| · < 0)
theorem Ph:∀ {l:List Int} {k:Nat} {x y:Int},l[k]? = some x→x < 0→0≤y→Ms (l.set k y)+1=Ms l
 | [],k,x,y,h,_,_=>by simp at h
 | a::l,0,x,y,h,hx,hy=>by
  simp at h;subst h
  have:¬y < 0:=by omega
  simp [Ms,hx,this]
 | a::l,k+1,x,y,h,hx,hy=>by
  have:=Ph (l:=l) (k:=k) (by simpa using h) hx hy
  simp only [Ms,List.set_cons_succ,List.countP_cons] at this ⊢
  omega
theorem Nc{mv:List (List Int)}{dist:List Int}{d:Int}:IC mv dist d=true↔∃r∈mv,∃j∈r,dist.getD j.toNat 0=d:=by
 simp [IC,YM]
structure Nu (mv:List (List (List Int))) (g:Nat→Bool) (dist:List Int):Prop where
 len:dist.length=mv.length
 zero:∀i,i < mv.length→(dist.getD i 0=0↔g i=true)
 step:∀i,i < mv.length→0 < dist.getD i 0→∃r∈mv.getD i [],∃j∈r,dist.getD j.toNat 0=dist.getD i 0 - 1
 close:∀i,i < mv.length→∀r∈mv.getD i [],∀j∈r,0≤dist.getD j.toNat 0→0≤dist.getD i 0∧dist.getD i 0≤dist.getD j.toNat 0+1
 bound:∀i,i < mv.length→-1≤dist.getD i 0∧dist.getD i 0≤mv.length+1
structure DI (mv:List (List (List Int))) (g:Nat→Bool) (dist:List Int) (d:Int) (more:Bool) (i:Nat):Prop where
 len:dist.length=mv.length
 d1:1≤d
 zero:∀i,i < mv.length→(dist.getD i 0=0↔g i=true)
 step:∀i,i < mv.length→0 < dist.getD i 0→∃r∈mv.getD i [],∃j∈r,dist.getD j.toNat 0=dist.getD i 0 - 1
 lt:∀x,x < mv.length→-1≤dist.getD x 0∧dist.getD x 0≤d
 up:∀x,i≤x→x < mv.length→dist.getD x 0 < d
 last:more=false→∀x,x < mv.length→dist.getD x 0 < d
 close:∀x,x < mv.length→∀r∈mv.getD x [],∀j∈r,0≤dist.getD j.toNat 0→(dist.getD j.toNat 0 < d - 1∨x < i∧dist.getD j.toNat 0=d - 1)→0≤dist.getD x 0∧dist.getD x 0≤dist.getD j.toNat 0+1
def KI(mv:List (List (List Int))):Prop:=∀x,x < mv.length→∀r∈mv.getD x [],∀j∈r,0≤j∧j < mv.length
theorem OT{l:List Int}{k:Nat}{y:Int}(h:k < l.length):(l.set k y).getD k 0=y:=by simp [List.getD,h]
theorem K6{l:List Int}{k x:Nat}{y:Int}(h:k≠x):(l.set k y).getD x 0=l.getD x 0:=by simp [List.getD,h]
theorem DI.set{mv:List (List (List Int))}{g:Nat→Bool}{dist:List Int}{d:Int}{more:Bool}{i:Nat}(h:DI mv g dist d more i)(hi:i < mv.length)(hneg:dist.getD i 0 < 0)(hn:IC (mv.getD i []) dist (d - 1)=true):DI mv g (dist.set i d) d true (i+1):=by
 have hd1:=h.d1
 have hl:i < dist.length:=by rw [h.len];exact hi
 obtain⟨r0,hr0,j0,hj0,hjd⟩:=Nc.1 hn
 have g1:(dist.set i d).getD i 0=d:=OT hl
 have g2:∀x,x≠i→(dist.set i d).getD x 0=dist.getD x 0:=fun x hx=>K6 (Ne.symm hx)
 have g3:∀x,0≤dist.getD x 0→(dist.set i d).getD x 0=dist.getD x 0:=fun x hx=>g2 x fun e=>by subst e;omega
 refine⟨by simp [h.len],hd1,fun x hx=>?_,fun x hx hp=>?_,fun x hx=>?_,fun x hx hx'=>?_,fun hm=>(by cases hm),fun x hx r hr j hj hj0' hj1=>?_⟩
 ·by_cases e:x=i
  ·subst e;rw [g1,←h.zero x hx];constructor<;>intro<;>omega
  ·rw [g2 x e];exact h.zero x hx
 ·by_cases e:x=i
  ·subst e;rw [g1] at hp ⊢
   exact⟨r0,hr0,j0,hj0,by rw [g3 _ (by omega)];exact hjd⟩
  ·rw [g2 x e] at hp ⊢
   obtain⟨r,hr,j,hj,hjx⟩:=h.step x hx hp
   exact⟨r,hr,j,hj,by rw [g3 _ (by omega)];exact hjx⟩
 ·by_cases e:x=i
  ·subst e;rw [g1];omega
  ·rw [g2 x e];exact h.lt x hx
 ·rw [g2 x (by omega)];exact h.up x (by omega) hx'
 ·by_cases ej:j.toNat=i
  ·rw [ej,g1] at hj1;omega
  ·rw [g2 _ ej] at hj0' hj1 ⊢
   by_cases e:x=i
   ·subst e;rw [g1]
    refine⟨by omega,?_⟩
    rcases hj1 with h1|⟨_,h1⟩
    ·have:=(h.close x hx r hr j hj hj0' (.inl h1)).1;omega
    ·omega
   ·rw [g2 x e]
    exact h.close x hx r hr j hj hj0' (by rcases hj1 with h1|⟨h1,h2⟩;exact .inl h1;exact .inr ⟨by omega,h2⟩)
theorem DI.Bb{mv:List (List (List Int))}{g:Nat→Bool}{dist:List Int}{d:Int}{more:Bool}{i:Nat}(h:DI mv g dist d more i)(hi:i < mv.length)(hn:dist.getD i 0 < 0→IC (mv.getD i []) dist (d - 1)=false):DI mv g dist d more (i+1):=by
 refine⟨h.len,h.d1,h.zero,h.step,h.lt,fun x hx hx'=>h.up x (by omega) hx',h.last,fun x hx r hr j hj hj0 hj1=>?_⟩
 rcases hj1 with h1|⟨h1,h2⟩
 ·exact h.close x hx r hr j hj hj0 (.inl h1)
 ·by_cases e:x=i
  ·subst e
   by_cases hx0:dist.getD x 0 < 0
   ·have h3:=hn hx0
    have h4:=Nc.2 ⟨r,hr,j,hj,h2⟩
    rw [h3] at h4;cases h4
   ·have:=h.up x (Nat.le_refl _) hx
    omega
  ·exact h.close x hx r hr j hj hj0 (.inr ⟨by omega,h2⟩)
theorem DI.next{mv:List (List (List Int))}{g:Nat→Bool}{dist:List Int}{d:Int}{more:Bool}(h:DI mv g dist d more mv.length):DI mv g dist (d+1) true 0:=by
 have hd1:=h.d1
 refine⟨h.len,by omega,h.zero,h.step,fun x hx=>?_,fun x _ hx=>?_,fun hm=>(by cases hm),fun x hx r hr j hj hj0 hj1=>?_⟩
 ·have:=h.lt x hx;omega
 ·have:=h.lt x hx;omega
 ·exact h.close x hx r hr j hj hj0 (by omega)
theorem DI.fin{mv:List (List (List Int))}{g:Nat→Bool}{dist:List Int}{d:Int}(hin:KI mv)(h:DI mv g dist d false mv.length)(hd:d≤mv.length+1):Nu mv g dist:=by
 have hd1:=h.d1
 refine⟨h.len,h.zero,h.step,fun x hx r hr j hj hj0=>?_,fun x hx=>?_⟩
 ·have h1:=hin x hx r hr j hj
  have:=h.last rfl j.toNat (by omega)
  exact h.close x hx r hr j hj hj0 (by omega)
 ·have:=h.lt x hx;have:=h.last rfl x hx;omega
structure Ox (mv:List (List (List Int))) (g:Nat→Bool) (dt:List Int) (d:Int) (more:Bool):Prop where
 len:dt.length=mv.length
 d1:1≤d
 d2:d≤mv.length+2
 yes:more=true→DI mv g dt d true 0∧d+Ms dt≤mv.length+1
 no:more=false→Nu mv g dt
theorem XF(l:List Int):Ms l≤l.length:=List.countP_le_length
theorem Ox.init{mv:List (List (List Int))}{g:Nat→Bool}{dist:List Int}(hlen:dist.length=mv.length)(h0:∀i,i < mv.length→dist.getD i 0=if g i then 0 else -1):Ox mv g dist 1 true:=by
 have hx:∀x,x < mv.length→-1≤dist.getD x 0∧dist.getD x 0 < 1:=fun x hx=>by have:=h0 x hx;split at this<;>omega
 have hn:=XF dist
 refine⟨hlen,by omega,by omega,fun _=>⟨⟨hlen,by omega,fun x h=>?_,fun x h hp=>?_,fun x h=>?_,fun x _ h=>(hx x h).2,fun h=>(by cases h),fun x h r hr j hj hj0 hj1=>?_⟩,by omega⟩,fun h=>(by cases h)⟩
 ·have:=h0 x h;split at this<;>simp_all
 ·have:=hx x h;omega
 ·have:=hx x h;omega
 ·omega
structure Kd (mv:List (List (List Int))) (g:Nat→Bool) (dt:List Int) (d:Int) (du:List Int) (m2:Bool) (i:Nat):Prop where
 le:i≤mv.length
 di:DI mv g du d m2 i
 cnt:Ms du+(if m2 then 1 else 0)≤Ms dt
theorem Kd.init{mv:List (List (List Int))}{g:Nat→Bool}{dt:List Int}{d:Int}(h:DI mv g dt d true 0):Kd mv g dt d dt false 0:=
 ⟨Nat.zero_le _,⟨h.len,h.d1,h.zero,h.step,h.lt,h.up,fun _ x hx=>h.up x (Nat.zero_le _) hx,h.close⟩,by simp⟩
theorem Kd.set{mv:List (List (List Int))}{g:Nat→Bool}{dt:List Int}{d:Int}{du:List Int}{m2:Bool}{i:Nat}(h:Kd mv g dt d du m2 i)(hi:i < mv.length)(hneg:du.getD i 0 < 0)(hn:IC (mv.getD i []) du (d - 1)=true):Kd mv g dt d (du.set i d) true (i+1):=by
 have hl:=h.di.len
 have hd1:=h.di.d1
 have h1:du[i]? = some (du.getD i 0):=by
  have:i < du.length:=by omega
  simp [List.getD,this]
 have h2:=Ph h1 hneg (y:=d) (by omega)
 have h3:=h.cnt
 refine⟨hi,h.di.set hi hneg hn,?_⟩
 simp only [if_true]
 split at h3<;>omega
theorem Kd.Bb{mv:List (List (List Int))}{g:Nat→Bool}{dt:List Int}{d:Int}{du:List Int}{m2:Bool}{i:Nat}(h:Kd mv g dt d du m2 i)(hi:i < mv.length)(hn:du.getD i 0 < 0→IC (mv.getD i []) du (d - 1)=false):Kd mv g dt d du m2 (i+1):=
 ⟨hi,h.di.Bb hi hn,h.cnt⟩
theorem Kd.next{mv:List (List (List Int))}{g:Nat→Bool}{dt:List Int}{d:Int}{du:List Int}{m2:Bool}(hin:KI mv)(h:Kd mv g dt d du m2 mv.length)(hd:d+Ms dt≤mv.length+1):Ox mv g du (d+1) m2:=by
 have hd1:=h.di.d1
 have hc:=h.cnt
 refine⟨h.di.len,by omega,by omega,fun hm=>?_,fun hm=>?_⟩
 ·subst hm
  simp only [if_true] at hc
  exact⟨h.di.next,by omega⟩
 ·subst hm
  exact h.di.fin hin (by omega)
theorem Tz(mv:List (List (List Int)))(g:Nat→Bool)(dist:List Int)(hin:KI mv)(hN:mv.length≤1048576)(hlen:dist.length=mv.length)(h0:∀i,i < mv.length→dist.getD i 0=if g i then 0 else -1) :
    Spec Tryz.prog TB 224 [(0,.cells 3 1 (dist.map AB))] 1 [CB mv,.o (.arr 0 1 0 mv.length)] (fun x σ nx=>x=.t []∧nx=1∧∃dist',Nu mv g dist'∧σ=[(0,.cells 3 1 (dist'.map AB))]):=by
  refine eN Tryz.func224 rfl (by kernel_rfl) rfl ?_;intro Γ hΓ
  (repeat first|refine tM rfl ?_ |refine aU rfl ?_ |refine Aa ?_)
  refine aB ?_
  refine Ak.AZ (α:={x:List Int×Int×Bool // Ox mv g x.1 x.2.1 x.2.2}) (fun ⟨⟨dt,d,more⟩,hH⟩=>[(0,CB mv),(1,.o (.arr 0 1 0 mv.length)),(4,eB more),(5,eI .i64 d)]) (fun ⟨⟨dt,d,more⟩,hH⟩=>[(0,.cells 3 1 (dt.map AB))]) 1 (fun ⟨⟨dt,d,more⟩,hH⟩=>2*Ms dt+(if more then 1 else 0)) (⟨(dist,1,true),Ox.init hlen h0⟩) [0] (DB hΓ rfl rfl) (by (simp[cX,zC,hΓ])) ?_;rintro⟨⟨dt,d,more⟩,hH⟩;(try dsimp only)
  simp only at hH
  (repeat first|refine tM rfl ?_ |refine aU rfl ?_ |refine Aa ?_)
  (refine aC rfl ?_ ?_<;>rintro⟨⟩)
  · obtain⟨hD,hc⟩:=hH.yes rfl
    have hd1:=hD.d1
    refine aK ?_
    refine aS (aB ?_)
    (repeat first|refine tM rfl ?_ |refine aU rfl ?_ |refine Aa ?_)
    refine aB ?_
    refine Ak.AZ (α:={x:List Int×Bool×Nat // Kd mv g dt d x.1 x.2.1 x.2.2}) (fun ⟨⟨du,m2,i⟩,hM⟩=>[(0,CB mv),(1,.o (.arr 0 1 0 mv.length)),(4,eB m2),(5,eI .i64 d),(6,eI .i64 i)]) (fun ⟨⟨du,m2,i⟩,hM⟩=>[(0,.cells 3 1 (du.map AB))]) 1 (fun ⟨⟨du,m2,i⟩,hM⟩=>mv.length - i) (⟨(dt,false,0),Kd.init hD⟩) [0] (DB hΓ rfl rfl) (by (simp[cX,zC,hΓ])) ?_;rintro⟨⟨du,m2,i⟩,hM⟩;(try dsimp only)
    simp only at hM
    have hul:=hM.di.len
    have hile:=hM.le
    (repeat first|refine tM rfl ?_ |refine s2 rfl fun _ _hb=>?_ |refine aU rfl ?_ |refine Aa ?_)
    (refine aC rfl ?_ ?_<;>rintro⟨⟩)
    · obtain⟨y,hy⟩:=get_some (l:=du) (k:=i) (by (simp only[oZ] at *;omega))
      have hy':=GA (g:=AB) hy
      obtain⟨mi,hmi⟩:=get_some (l:=mv) (k:=i) (by (simp only[oZ] at *;omega))
      have hmi':=get_map (g:=HH) hmi
      have hilt:i < mv.length:=by (simp only[oZ] at *;omega)
      have hyd:du.getD i 0=y:=by simp [List.getD,hy]
      have hmd:mv.getD i []=mi:=by simp [List.getD,hmi]
      have hset:=hM.set hilt
      have hkeep:=hM.Bb hilt
      rw [hyd,hmd] at hset hkeep
      refine aK ?_
      refine aS (aB ?_)
      (repeat' first|((first|refine sM rfl ?_ ?_|refine s4 rfl ‹_› rfl ?_ ?_);first|exact tI|omega) |refine s2 rfl fun _ _hb=>?_|(refine Ag rfl ?_;refine gA rfl ?_;first| (refine dN (FV rfl rfl ((.cons (.o (.pure rfl)) (.cons (.o (.full rfl (by simp [Function.comp_def]) (by simp [hul]))) (.cons (.o (.pure rfl)) .nil)))) (TA mi du (d - 1) (fun r hr v hv=>by have:=hin i hilt r (by rw [hmd];exact hr) v hv;exact⟨this.1,by omega⟩)) rfl) rfl ?_;intro _ _hb)) |refine s3 rfl ?_ ?_<;>rintro rfl |refine aU rfl ?_ |refine Aa ?_|(refine aC rfl ?_ ?_<;>rintro⟨⟩)|refine aK ?_|refine aE ?_|refine aB ?_|refine aR ⟨_,rfl,?_⟩)
      all_goals first
        | (refine⟨⟨(du,m2,i+1),hkeep (by grind)⟩,by dsimp only;(omega),[0],?_⟩
           simp[cX,zC,hΓ]
           done)
        | (refine⟨⟨(du.set i d,true,i+1),hset (by grind) (by grind)⟩,by dsimp only;(omega),[0],?_⟩
           rw [GQ]
           simp[cX,zC,hΓ]
           done)
    · obtain rfl:i=mv.length:=by (simp only[oZ] at *;omega)
      have hN2:=hM.next hin hc
      have hc2:=hM.cnt
      refine aE ?_
      (repeat first|(refine sM rfl ?_ ?_;first|exact tI|omega) |refine aU rfl ?_ |refine Aa ?_)
      refine⟨⟨(du,d+1,m2),hN2⟩,?_,[0],?_⟩
      · dsimp only
        cases m2<;>simp at hc2 ⊢ <;> omega
      · simp[cX,zC,hΓ]
  · refine aE ?_
    exact⟨_,rfl,rfl,rfl,dt,hH.no rfl,rfl⟩
theorem TE(l:List Int)(a:Int):l.length=l.count a+(l.filter (· != a)).length:=by
 induction l with
 | nil=>rfl
 | cons b l ih=>
  simp only [List.count_cons,List.filter_cons,List.length_cons]
  by_cases h:b=a
  ·subst h;simp;omega
  ·simp [h];omega
theorem Eb:∀(n:Nat) (l:List Int),l.Nodup→(∀x∈l,0≤x∧x < n)→l.length≤n
 | 0,l,_,h=>by
  cases l with
  | nil=>simp
  | cons a l=>have:=h a (by simp);omega
 | n + 1,l,hn,h=>by
  have h1:=TE l n
  have h2:=List.nodup_iff_count.1 hn n
  have h3:=Eb n (l.filter (· != (n:Int))) (hn.filter _) fun x hx=>by
   obtain⟨h4,h5⟩:=List.mem_filter.1 hx
   have:=h x h4
   simp at h5
   omega
  omega
def Gk(dist:List Int)(d:Int)(acc:List Int)(j:Int):List Int:=if dist.getD j.toNat 0=d∧j∉acc then acc++[j] else acc
theorem RK(dist:List Int)(d:Int)(acc:List Int)(j:Int):Gk dist d acc j=if dist.getD j.toNat 0=d∧j∉acc then acc++[j] else acc:=rfl
def DG(mv:List (List (List Int)))(dist at':List Int)(k:Nat)(d:Int):List Int:=at'.foldl (fun acc x=>((mv.getD x.toNat []).getD k []).foldl (Gk dist d) acc) []
def Cw(n:Nat)(acc:List Int):Prop:=acc.Nodup∧∀x∈acc,0≤x∧x < n
theorem Cw.add{n:Nat}{acc:List Int}(h:Cw n acc){dist:List Int}{d j:Int}(hj:0≤j∧j < n):Cw n (Gk dist d acc j):=by
 unfold Gk
 split
 ·rename_i h1
  refine⟨List.nodup_append.2 ⟨h.1,by simp,fun a ha b hb=>?_⟩,fun x hx=>?_⟩
  ·simp at hb;subst hb;intro e;subst e;exact h1.2 ha
  ·rcases List.mem_append.1 hx with hx|hx
   ·exact h.2 x hx
   ·simp at hx;subst hx;exact hj
 ·exact h
theorem Cw.fold{n:Nat}{dist:List Int}{d:Int}:∀ {l acc:List Int},Cw n acc→(∀j∈l,0≤j∧j < n)→Cw n (l.foldl (Gk dist d) acc)
 | [],_,h,_=>h
 | j::_,_,h,hl=>by rw [List.foldl_cons];exact Cw.fold (h.add (hl j (by simp))) fun x hx=>hl x (by simp [hx])
theorem mem_row{mv:List (List (List Int))}(hin:KI mv){x:Int}(hx:0≤x∧x < mv.length)(k:Nat):∀j∈(mv.getD x.toNat []).getD k [],0≤j∧j < mv.length:=by
 intro j hj
 cases hr:(mv.getD x.toNat [])[k]? with
 | none=>
  have:(mv.getD x.toNat []).getD k []=[]:=by rw [List.getD,hr];rfl
  rw [this] at hj;cases hj
 | some r=>
  have:(mv.getD x.toNat []).getD k []=r:=by rw [List.getD,hr];rfl
  rw [this] at hj
  exact hin x.toNat (by omega) r (List.mem_of_getElem? hr) j hj
theorem Cw.YO{mv:List (List (List Int))}(hin:KI mv){dist:List Int}{d:Int}{k:Nat}:∀ {l acc:List Int},Cw mv.length acc→(∀x∈l,0≤x∧x < mv.length)→Cw mv.length (l.foldl (fun acc x=>((mv.getD x.toNat []).getD k []).foldl (Gk dist d) acc) acc)
 | [],_,h,_=>h
 | j::_,_,h,hl=>by rw [List.foldl_cons];exact Cw.YO hin (h.fold (mem_row hin (hl j (by simp)) k)) fun x hx=>hl x (by simp [hx])
theorem Cw.nil{n:Nat}:Cw n []:=⟨.nil,fun x hx=>(by cases hx)⟩
theorem HG{α β:Type}{l:List α}{k:Nat}{x:α}(h:l[k]? = some x)(f:β→α→β)(b:β):(l.take (k+1)).foldl f b=f ((l.take k).foldl f b) x:=by
 rw [List.take_add_one,h,List.foldl_append];rfl
theorem O5(mv:List (List (List Int)))(dist at':List Int)(k:Nat)(d:Int)(hin:KI mv)(hN:mv.length≤1048576)(hlen:dist.length=mv.length)(ha:∀x∈at',0≤x∧x < mv.length)(hal:at'.length≤1048576)(hk:∀i,i < mv.length→k < (mv.getD i []).length) :
 Pure Tryz.prog TB 226 [CB mv,Ai dist,Ai at',eI .i64 k,eI .i64 d] (Ai (DG mv dist at' k d)):=by
 have hacc:∀m,Cw mv.length ((at'.take m).foldl (fun acc x=>((mv.getD x.toNat []).getD k []).foldl (Gk dist d) acc) []):=fun m=>Cw.YO hin .nil fun x hx=>ha x (List.mem_of_mem_take hx)
 refine eN Tryz.func226 rfl (by kernel_rfl) rfl ?_;intro Γ hΓ
 refine Ak.bound 0 rfl fun hB0=>?_
 (repeat first|refine aU rfl ?_)
 (refine Ag rfl ?_;refine CK (fun _ _=>CT rfl) rfl ?_)
 (repeat first|refine aU rfl ?_ |refine Aa ?_)
 (refine pW rfl ?_ rfl (by rfl);refine A1 rfl rfl rfl rfl (by simp) (by rfl) (by rfl) (by rfl) (by rfl) ?_)
 (repeat first|refine tM rfl ?_ |refine aU rfl ?_ |refine Aa ?_)
 refine aB ?_
 refine Ak.AZ (α:={m:Nat // m≤at'.length}) (fun ⟨m,hm⟩=>[(0,CB mv),(1,Ai dist),(2,Ai at'),(3,eI .i64 k),(4,eI .i64 d),(11,.o (.arr 0 1 0 ((at'.take m).foldl (fun acc x=>((mv.getD x.toNat []).getD k []).foldl (Gk dist d) acc) []).length)),(12,eI .i64 m)]) (fun ⟨m,hm⟩=>[(0,.cells 3 1 (((at'.take m).foldl (fun acc x=>((mv.getD x.toNat []).getD k []).foldl (Gk dist d) acc) []).map AB))]) 1 (fun ⟨m,hm⟩=>at'.length - m) (⟨0,by omega⟩) [0] (DB hΓ rfl rfl) (by (simp[cX,zC,hΓ])) ?_;rintro⟨m,hm⟩;(try dsimp only)
 have hacc1:=hacc m
 have hacc2:=fun x=>HG (l:=at') (k:=m) (x:=x) (f:=fun acc x=>((mv.getD x.toNat []).getD k []).foldl (Gk dist d) acc) (b:=[])
 generalize hA1:(at'.take m).foldl (fun acc x=>((mv.getD x.toNat []).getD k []).foldl (Gk dist d) acc) []=acc at *
 (repeat first|refine sN rfl ?_ |refine tM rfl ?_ |refine s2 rfl fun _ _hb=>?_ |refine aU rfl ?_ |refine Aa ?_)
 (refine aC rfl ?_ ?_<;>rintro⟨⟩)
 ·obtain⟨y,hy⟩:=get_some (l:=at') (k:=m) (by (simp only[oZ] at *;omega))
  have hy':=get_map (g:=Bk) hy
  have hyb:=ha y (List.mem_of_getElem? hy)
  obtain⟨my,hmy⟩:=get_some (l:=mv) (k:=y.toNat) (by omega)
  have hmy':(mv.map HH)[y.toNat]? = some (HH my):=by simp [hmy]
  have hkk:=hk y.toNat (by omega)
  have hgy:mv.getD y.toNat []=my:=by simp [List.getD,hmy]
  rw [hgy] at hkk
  obtain⟨r,hr⟩:=get_some (l:=my) (k:=k) hkk
  have hr':=get_map (g:=C1) hr
  have hgr:my.getD k []=r:=by simp [List.getD,hr]
  have hrin:=mem_row hin hyb k
  rw [hgy,hgr] at hrin
  have hstep:=hacc2 y hy
  rw [hgy,hgr] at hstep
  have hBr:=hB0 (r.map Bk) (.l (i:=y.toNat) (j:=0) (r:=HH my) hmy' rfl (.l (i:=k) (j:=0) (r:=C1 r) (by simp [hr]) rfl .refl))
  have hf2:∀j,Cw mv.length ((r.take j).foldl (Gk dist d) acc):=fun j=>hacc1.fold fun x hx=>hrin x (List.mem_of_mem_take hx)
  refine aK ?_
  refine aS (aB ?_)
  (repeat first|refine tM rfl ?_ |(refine s4 rfl ‹_› rfl ?_ ?_;omega) |refine aU rfl ?_ |refine Aa ?_)
  refine aB ?_
  refine Ak.AZ (α:={j:Nat // j≤r.length}) (fun ⟨j,hj⟩=>[(0,CB mv),(1,Ai dist),(2,Ai at'),(3,eI .i64 k),(4,eI .i64 d),(11,.o (.arr 0 1 0 ((r.take j).foldl (Gk dist d) acc).length)),(12,eI .i64 m),(13,Ai r),(14,eI .i64 j)]) (fun ⟨j,hj⟩=>[(0,.cells 3 1 (((r.take j).foldl (Gk dist d) acc).map AB))]) 1 (fun ⟨j,hj⟩=>r.length - j) (⟨0,by omega⟩) [0] (DB hΓ rfl rfl) (by (simp[cX,zC,hΓ])) ?_;rintro⟨j,hj⟩;(try dsimp only)
  have hac:=hf2 j
  have hst2:=fun x=>HG (l:=r) (k:=j) (x:=x) (f:=Gk dist d) (b:=acc)
  generalize hA2:(r.take j).foldl (Gk dist d) acc=ac2 at *
  (repeat first|refine sN rfl ?_ |refine tM rfl ?_ |refine s2 rfl fun _ _hb=>?_ |refine aU rfl ?_ |refine Aa ?_)
  (refine aC rfl ?_ ?_<;>rintro⟨⟩)
  ·obtain⟨x,hx⟩:=get_some (l:=r) (k:=j) (by (simp only[oZ] at *;omega))
   have hx':=get_map (g:=Bk) hx
   have hxb:=hrin x (List.mem_of_getElem? hx)
   obtain⟨z,hz⟩:=get_some (l:=dist) (k:=x.toNat) (by omega)
   have hz':(dist.map Bk)[x.toNat]? = some (Bk z):=by simp [hz]
   have hdz:dist.getD x.toNat 0=z:=by simp [List.getD,hz]
   have hst2:=hst2 x hx
   have hlac:=Eb _ _ hac.1 hac.2
   rw [RK,hdz] at hst2
   refine aK ?_
   refine aS (aB ?_)
   (repeat' first|(refine sM rfl ?_ ?_;first|exact tI|simp only[oZ] at *;omega) |(refine s4 rfl ‹_› rfl ?_ ?_;omega) |refine s2 rfl fun _ _hb=>?_|(refine Ag rfl ?_;refine gA rfl ?_;first| (refine dN (FV rfl rfl ((.cons (.o (.full rfl (by simp [Function.comp_def]) (by simp))) (.cons (.o (.pure rfl)) .nil))) (Xx ac2 x) rfl) rfl ?_;intro _ _hb)) |refine s3 rfl ?_ ?_<;>rintro rfl |refine aU rfl ?_ |refine Aa ?_|(refine aC rfl ?_ ?_<;>rintro⟨⟩)|refine aK ?_|refine aE ?_|refine aB ?_|refine aR ⟨_,rfl,?_⟩)
   all_goals try (rw [if_neg (by grind)] at hst2;refine⟨⟨j+1,by (simp only[oZ] at *;omega)⟩,by dsimp only;((simp only[oZ] at *;omega)),[0],?_⟩;simp[cX,zC,hΓ,hst2];done)
   all_goals rw [if_pos (by grind)] at hst2
   (repeat first|refine tA rfl ?_)
   (refine pW rfl ?_ rfl (by rfl);refine Aw rfl rfl rfl (by first| (simp;done)|(simp;(omega))) rfl (by intro r hr;simp at hr;subst hr;rfl) (by rfl) (Nat.le_of_ble_eq_true rfl) (by simp;omega) ?_)
   (repeat first|(refine sX rfl ?_ ?_;first|exact tI|simp only[oZ] at *;omega) |refine aU rfl ?_ |refine Aa ?_)
   refine⟨⟨j+1,by (simp only[oZ] at *;omega)⟩,by dsimp only;((simp only[oZ] at *;omega)),[1],?_⟩
   simp[cX,zC,hΓ,hst2]
  ·obtain rfl:j=r.length:=by (simp only[oZ] at *;omega)
   refine aE ?_
   rw [List.take_length] at hA2
   subst hA2
   (repeat first|(refine sM rfl ?_ ?_;first|exact tI|omega) |refine aU rfl ?_ |refine Aa ?_)
   refine⟨⟨m+1,by (simp only[oZ] at *;omega)⟩,by dsimp only;((simp only[oZ] at *;omega)),[0],?_⟩
   simp[cX,zC,hΓ,hstep,-List.getD_eq_getElem?_getD]
 ·obtain rfl:m=at'.length:=by (simp only[oZ] at *;omega)
  refine aE ?_
  (repeat first|refine tM rfl ?_ |refine aU rfl ?_ |refine Aa ?_)
  rw [List.take_length] at hA1
  subst hA1
  refine Ak.freeze [0] [(10,Ai (DG mv dist at' k d))] ⟨⟨_,rfl,.o (.full (by simp) rfl (by simp [Function.comp_def,DG]) (by simp))⟩,trivial⟩ ?_
  refine aR ⟨_,rfl,rfl⟩
end Go.Am
namespace Go.Am
open Go
structure Gr where
 N:Nat
 succ:Int→Int→List Int
 goal:Int→Bool
 ls:List Int
 s0:Int
structure Gm (g:Gr):Prop where
 s0:0≤g.s0∧g.s0 < g.N
 inn:∀x:Int,0≤x∧x < g.N→∀l∈g.ls,∀y∈g.succ x l,0≤y∧y < g.N
 srt:g.ls.Pairwise (· < ·)
def reach(g:Gr):List Int→Int→Int→Prop
 | [],a,x=>a=x
 | l::w,a,x=>∃y∈g.succ a l,reach g w y x
def over(g:Gr)(w:List Int):Prop:=∀l∈w,l∈g.ls
def RX(g:Gr)(w:List Int):Prop:=∃x,reach g w g.s0 x∧g.goal x=true
def P5:List Int→List Int→Prop
 | a::u,b::w=>a < b∨a=b∧P5 u w
 | _,_=>False
def slt(u w:List Int):Prop:=u.length < w.length∨u.length=w.length∧P5 u w
def BH(g:Gr):Option (List Int)→Prop
 | some w=>over g w∧RX g w∧∀u,over g u→RX g u→¬slt u w
 | none=>∀u,over g u→¬RX g u
theorem C0{g:Gr}:∀ {w:List Int} {l a x:Int},reach g (w++[l]) a x↔∃y,reach g w a y∧x∈g.succ y l
 | [],l,a,x=>by simp [reach]
 | m::w,l,a,x=>by
  simp only [List.cons_append,reach,C0]
  constructor
  ·rintro⟨y,hy,z,hz,hx⟩;exact⟨z,⟨y,hy,hz⟩,hx⟩
  ·rintro⟨z,⟨y,hy,hz⟩,hx⟩;exact⟨y,hy,z,hz,hx⟩
theorem Cy{g:Gr}(hg:Gm g):∀ {w:List Int} {a x:Int},over g w→(0≤a∧a < g.N)→reach g w a x→0≤x∧x < g.N
 | [],a,x,_,ha,h=>by have h:a=x:=h;subst h;exact ha
 | l::w,a,x,ho,ha,h=>by
  obtain⟨y,hy,h⟩:=h
  exact Cy hg (fun m hm=>ho m (by simp [hm])) (hg.inn a ha l (ho l (by simp)) y hy) h
theorem Ec{g:Gr}{w:List Int}{l:Int}:over g (w++[l])↔over g w∧l∈g.ls:=by
 unfold over;simp only [List.mem_append,List.mem_singleton]
 constructor
 ·intro h;exact⟨fun m hm=>h m (.inl hm),h l (.inr rfl)⟩
 ·rintro⟨h1,h2⟩ m (hm|rfl);exact h1 m hm;exact h2
theorem GG:∀ {u w:List Int} {m l:Int},u.length=w.length→(P5 (u++[m]) (w++[l])↔P5 u w∨u=w∧m < l)
 | [],[],m,l,_=>by simp [P5]
 | [],b::w,m,l,h=>by simp at h
 | a::u,[],m,l,h=>by simp at h
 | a :: u,b::w,m,l,h=>by
  simp only [List.cons_append,P5,GG (u:=u) (w:=w) (by simpa using h),List.cons.injEq]
  constructor
  ·rintro(h|⟨h1,h2|⟨h2,h3⟩⟩)
   ·exact .inl (.inl h)
   ·exact .inl (.inr ⟨h1,h2⟩)
   ·exact .inr ⟨⟨h1,h2⟩,h3⟩
  ·rintro((h|⟨h1,h2⟩)|⟨⟨h1,h2⟩,h3⟩)
   ·exact .inl h
   ·exact .inr ⟨h1,.inl h2⟩
   ·exact .inr ⟨h1,.inr ⟨h2,h3⟩⟩
theorem NS:∀ {u w:List Int},u.length=w.length→P5 u w∨u=w∨P5 w u
 | [],[],_=>.inr (.inl rfl)
 | [],b::w,h=>by simp at h
 | a::u,[],h=>by simp at h
 | a :: u,b::w,h=>by
  simp only [P5,List.cons.injEq]
  have h1:=NS (u:=u) (w:=w) (by simpa using h)
  rcases Int.lt_trichotomy a b with h2|h2|h2
  ·exact .inl (.inl h2)
  ·rcases h1 with h1|h1|h1
   ·exact .inl (.inr ⟨h2,h1⟩)
   ·exact .inr (.inl ⟨h2,h1⟩)
   ·exact .inr (.inr (.inr ⟨h2.symm,h1⟩))
  ·exact .inr (.inr (.inl h2))
theorem X8{u w:List Int}(h1:¬slt u w)(h2:¬slt w u):u=w:=by
 unfold slt at h1 h2
 have hl:u.length=w.length:=by omega
 rcases NS hl with h|h|h
 ·exact absurd (.inr ⟨hl,h⟩) h1
 ·exact h
 ·exact absurd (.inr ⟨hl.symm,h⟩) h2
theorem BH.unique{g:Gr}{r s:Option (List Int)}(hr:BH g r)(hs:BH g s):r=s:=by
 cases r with
 | none=>
  cases s with
  | none=>rfl
  | some w=>exact absurd hs.2.1 (hr w hs.1)
 | some v=>
  cases s with
  | none=>exact absurd hr.2.1 (hs v hr.1)
  | some w=>rw [X8 (hs.2.2 v hr.1 hr.2.1) (hr.2.2 w hs.1 hs.2.1)]
theorem Pa:∀(l:List Int) (Q:Int→Prop),(∃x∈l,Q x)→∃x∈l,Q x∧∀y∈l,Q y→¬y < x
 | [],Q,h=>by obtain⟨x,hx,_⟩:=h;cases hx
 | a :: l,Q,h=>by
  by_cases ht:∃x∈l,Q x
  ·obtain⟨x,hx,hq,hm⟩:=Pa l Q ht
   by_cases ha:Q a∧a < x
   ·refine⟨a,by simp,ha.1,fun y hy hqy=>?_⟩
    rcases List.mem_cons.1 hy with rfl|hy
    ·omega
    ·have:=hm y hy hqy;omega
   ·refine⟨x,by simp [hx],hq,fun y hy hqy=>?_⟩
    rcases List.mem_cons.1 hy with rfl|hy
    ·exact fun hlt=>ha ⟨hqy,hlt⟩
    ·exact hm y hy hqy
  ·obtain⟨x,hx,hq⟩:=h
   rcases List.mem_cons.1 hx with rfl|hx
   ·refine⟨x,by simp,hq,fun y hy hqy=>?_⟩
    rcases List.mem_cons.1 hy with rfl|hy
    ·omega
    ·exact absurd ⟨y,hy,hqy⟩ ht
   ·exact absurd ⟨x,hx,hq⟩ ht
theorem Le(ls:List Int):∀(n:Nat) (Q:List Int→Prop),(∃u:List Int,u.length=n∧(∀l∈u,l∈ls)∧Q u)→∃u:List Int,u.length=n∧(∀l∈u,l∈ls)∧Q u∧∀v:List Int,v.length=n→(∀l∈v,l∈ls)→Q v→¬P5 v u
 | 0,Q,⟨u,h1,h2,h3⟩=>by
  have:u=[]:=List.length_eq_zero_iff.1 h1
  subst this
  exact⟨[],rfl,h2,h3,fun v hv _ _=>by have:v=[]:=List.length_eq_zero_iff.1 hv;subst this;exact fun h=>h⟩
 | n + 1,Q,⟨u,h1,h2,h3⟩=>by
  cases u with
  | nil=>simp at h1
  | cons a u=>
   obtain⟨x,hx,⟨u1,h4,h5,h6⟩,hm⟩:=Pa ls (fun x=>∃u:List Int,u.length=n∧(∀l∈u,l∈ls)∧Q (x::u)) ⟨a,h2 a (by simp),u,by simpa using h1,fun l hl=>h2 l (by simp [hl]),h3⟩
   obtain⟨u2,h7,h8,h9,h10⟩:=Le ls n (fun u=>Q (x::u)) ⟨u1,h4,h5,h6⟩
   refine⟨x::u2,by simp [h7],fun l hl=>by rcases List.mem_cons.1 hl with rfl|hl;exact hx;exact h8 l hl,h9,fun v hv hvl hq=>?_⟩
   cases v with
   | nil=>simp at hv
   | cons b v=>
    have hb:=hm b (hvl b (by simp)) ⟨v,by simpa using hv,fun l hl=>hvl l (by simp [hl]),hq⟩
    rintro(h|⟨h,h'⟩)
    ·exact hb h
    ·subst h;exact h10 v (by simpa using hv) (fun l hl=>hvl l (by simp [hl])) hq h'
theorem K0(g:Gr):∃r,BH g r:=by
 by_cases h:∃u,over g u∧RX g u
 ·have key : ∀n,(∃u,u.length≤n∧over g u∧RX g u)→∃m,(∃u,u.length=m∧over g u∧RX g u)∧∀u,over g u→RX g u→m≤u.length:=by
   intro n
   induction n with
   | zero=>
    rintro⟨u,h1,h2,h3⟩
    exact⟨0,⟨u,by omega,h2,h3⟩,fun _ _ _=>Nat.zero_le _⟩
   | succ n ih=>
    rintro⟨u,h1,h2,h3⟩
    by_cases hx:∃u,u.length≤n∧over g u∧RX g u
    ·exact ih hx
    ·refine⟨n+1,⟨u,?_,h2,h3⟩,fun v hv hv'=>?_⟩
     ·have:¬u.length≤n:=fun h=>hx ⟨u,h,h2,h3⟩
      omega
     ·have:¬v.length≤n:=fun h=>hx ⟨v,h,hv,hv'⟩
      omega
  obtain⟨u,hu⟩:=h
  obtain⟨m,⟨v,h1,h2,h3⟩,hm⟩:=key u.length ⟨u,Nat.le_refl _,hu⟩
  obtain⟨w,h4,h5,h6,h7⟩:=Le g.ls m (RX g) ⟨v,h1,h2,h3⟩
  refine⟨some w,h5,h6,fun u hu hh=>?_⟩
  rintro(h|⟨h,h'⟩)
  ·have:=hm u hu hh;omega
  ·exact h7 u (by omega) hu hh h'
 ·exact⟨none,fun u hu hh=>h ⟨u,hu,hh⟩⟩
structure HZ (g:Gr) (dx:Int→Int):Prop where
 zero:∀x:Int,0≤x∧x < g.N→(dx x=0↔g.goal x=true)
 step:∀x:Int,0≤x∧x < g.N→0 < dx x→∃l∈g.ls,∃j∈g.succ x l,dx j=dx x - 1
 close:∀x:Int,0≤x∧x < g.N→∀l∈g.ls,∀j∈g.succ x l,0≤dx j→0≤dx x∧dx x≤dx j+1
theorem HZ.Xn{g:Gr}(hg:Gm g){dx:Int→Int}(h:HZ g dx):∀ {u:List Int} {a x:Int},over g u→(0≤a∧a < g.N)→reach g u a x→0≤dx x→0≤dx a∧dx a≤u.length+dx x
 | [],a,x,_,_,hr,h0=>by have hr:a=x:=hr;subst hr;simp;exact h0
 | l::u,a,x,ho,ha,⟨y,hy,hr⟩,h0=>by
  have hl:=ho l (by simp)
  have hyin:=hg.inn a ha l hl y hy
  have h1:=HZ.Xn hg h (fun m hm=>ho m (by simp [hm])) hyin hr h0
  have h2:=h.close a ha l hl y hy h1.1
  simp only [List.length_cons];push_cast;omega
structure Kf (g:Gr) (dx:Int→Int) (w:List Int) (at':List Int) (d:Int):Prop where
 ov:over g w
 ne:at'≠[]
 acc:Cw g.N at'
 mem:∀x,x∈at'↔reach g w g.s0 x∧dx x=d
 len:w.length+d=dx g.s0
 d0:0≤d
 min:∀u,over g u→u.length=w.length→P5 u w→∀x,reach g u g.s0 x→dx x≠d
theorem Kf.init{g:Gr}(hg:Gm g){dx:Int→Int}(h0:0≤dx g.s0):Kf g dx [] [g.s0] (dx g.s0):=
 ⟨fun l hl=>(by cases hl),by simp,⟨by simp,fun x hx=>by simp at hx;subst hx;exact hg.s0⟩,fun x=>by simp [reach];constructor<;>intro h<;>simp_all,by simp,h0,fun u _ hu hl=>by
  have:u=[]:=List.length_eq_zero_iff.1 hu
  subst this;exact hl.elim⟩
theorem Kf.dZ{g:Gr}(hg:Gm g){dx:Int→Int}(hd:HZ g dx){w at':List Int}(h:Kf g dx w at' 0):BH g (some w):=by
 refine⟨h.ov,?_,fun u hu hh=>?_⟩
 ·cases at' with
  | nil=>exact absurd rfl h.ne
  | cons x l=>
   have h1:=(h.mem x).1 (by simp)
   exact⟨x,h1.1,(hd.zero x (h.acc.2 x (by simp))).1 h1.2⟩
 ·obtain⟨x,hx,hgx⟩:=hh
  have hz:=(hd.zero x (Cy hg hu hg.s0 hx)).2 hgx
  have h1:=hd.Xn hg hu hg.s0 hx (by omega)
  have h2:=h.len
  rintro(h3|⟨h3,h4⟩)
  ·omega
  ·exact h.min u hu h3 h4 x hx hz
theorem Uu{g:Gr}(hg:Gm g){dx:Int→Int}(hd:HZ g dx)(h:dx g.s0 < 0):BH g none:=by
 rintro u hu ⟨x,hx,hgx⟩
 have hz:=(hd.zero x (Cy hg hu hg.s0 hx)).2 hgx
 have h1:=hd.Xn hg hu hg.s0 hx (by omega)
 omega
theorem Kf.prog{g:Gr}{dx:Int→Int}(hd:HZ g dx){w at':List Int}{d:Int}(h:Kf g dx w at' d)(hp:0 < d):∃l∈g.ls,∃x∈at',∃y∈g.succ x l,dx y=d - 1:=by
 cases at' with
 | nil=>exact absurd rfl h.ne
 | cons x l=>
  have h1:=(h.mem x).1 (by simp)
  obtain⟨l,hl,j,hj,hdj⟩:=hd.step x (h.acc.2 x (by simp)) (by omega)
  exact⟨l,hl,x,by simp,j,hj,by omega⟩
theorem Kf.next{g:Gr}(hg:Gm g){dx:Int→Int}(hd:HZ g dx){w at':List Int}{d:Int}(h:Kf g dx w at' d)(hp:0 < d){l:Int}(hl:l∈g.ls){at2:List Int}(ha:Cw g.N at2)(hne:at2≠[])
 (hm:∀y,y∈at2↔∃x∈at',y∈g.succ x l∧dx y=d - 1) (hless:∀m∈g.ls,m < l→¬∃x∈at',∃y∈g.succ x m,dx y=d - 1):Kf g dx (w++[l]) at2 (d - 1):=by
 have hlen:=h.len
 have key:∀u m x y,over g u→u.length=w.length→m∈g.ls→reach g u g.s0 x→y∈g.succ x m→dx y=d - 1→dx x=d:=by
  intro u m x y hu hul hm hx hy hdy
  have hxin:=Cy hg hu hg.s0 hx
  have h1:=hd.close x hxin m hm y hy (by omega)
  have h2:=hd.Xn hg hu hg.s0 hx (by omega)
  omega
 refine⟨Ec.2 ⟨h.ov,hl⟩,hne,ha,fun y=>?_,by simp;omega,by omega,fun u hu hul hlt y hy hdy=>?_⟩
 ·rw [hm,C0]
  constructor
  ·rintro⟨x,hx,hy,hdy⟩
   exact⟨⟨x,((h.mem x).1 hx).1,hy⟩,hdy⟩
  ·rintro⟨⟨x,hx,hy⟩,hdy⟩
   exact⟨x,(h.mem x).2 ⟨hx,key w l x y h.ov rfl hl hx hy hdy⟩,hy,hdy⟩
 ·have hu0:u≠[]:=fun e=>by subst e;simp at hul
  obtain⟨v,m,rfl⟩:∃v m,u=v++[m]:=⟨u.dropLast,u.getLast hu0,(List.dropLast_concat_getLast hu0).symm⟩
  have hvl:v.length=w.length:=by simpa using hul
  obtain⟨hv,hmm⟩:=Ec.1 hu
  obtain⟨x,hx,hxy⟩:=C0.1 hy
  have hdx:=key v m x y hv hvl hmm hx hxy hdy
  rcases(GG hvl).1 hlt with h1|⟨rfl,h1⟩
  ·exact h.min v hv hvl h1 x hx hdx
  ·exact hless m hmm h1 ⟨x,(h.mem x).2 ⟨hx,hdx⟩,y,hxy,hdy⟩
def CM(w:List Int):List UInt8:=w.map fun l=>UInt8.ofNat (97+l.toNat)
def aG(r:Option (List Int)):E:=match r with
 | some w=>.t [(false,[.d (tD (CM w))]),(false,[.d (bD true)])]
 | none=>.t [(false,[.d (tD [])]),(false,[.d (bD false)])]
end Go.Am
namespace Go.Am
open Go Go.Proofs
set_option maxHeartbeats 1000000
attribute [local irreducible] AY B2 Lex Bq Ak Spec
variable {TB:Bu}
def E5(n:Net):Gr:={ N:=(AJ (Ae n)).toNat,succ:=fun x l=>Es n (Ae n) (Bx (Ae n) x) l,goal:=fun x=>BZ n (Bx (Ae n) x) (DL n x.toNat),ls:=Ac n.ls,s0:=FD (Ae n) n.st 0 }
theorem C8(s:Int)(k:Nat):(Az s k).Pairwise (· < ·):=by
 unfold Az
 rw [List.pairwise_map]
 refine(List.pairwise_lt_range.filter _).imp fun {a b} h=>?_
 show ((a:Nat):Int) < ((b:Nat):Int)
 omega
theorem Il{n:Net}(hn:Dq n)(x:Int):Fits (Ae n) (Bx (Ae n) x):=Je (fun z hz=>by have:=Fs hn z hz;omega) x
theorem Pl{n:Net}(hn:Dq n){x l:Int}(hl:l∈Ac n.ls){y:Int}(hy:y∈Es n (Ae n) (Bx (Ae n) x) l):0≤y∧y < AJ (Ae n):=by
 have h1:=Au hl
 have h2:=Sh (Ii hn (Il hn x) (l:=l) (by omega) (by omega)) [0] 1 (by simp) (by omega) (by simp)
 have:=h2.1 y hy
 omega
theorem UP{n:Net}(hn:Dq n)(hst:Fits (Ae n) n.st):Gm (E5 n):=by
 have hp:=KB hn
 have hz:=hst.enc 0 (by omega)
 refine⟨?_,fun x _ l hl y hy=>?_,C8 _ _⟩
 ·show 0≤FD _ _ _∧FD _ _ _ < ((AJ (Ae n)).toNat:Int)
  omega
 ·show 0≤y∧y < ((AJ (Ae n)).toNat:Int)
  have:=Pl hn hl hy
  omega
theorem IA{n:Net}(hn:Dq n):KI (Cn n (E5 n).N):=by
 intro x hx r hr j hj
 have hx:x < (E5 n).N:=by simpa [Cn] using hx
 have h1:(Cn n (E5 n).N).getD x []=DL n x:=by rw [List.getD,HL hx];rfl
 rw [h1] at hr
 obtain⟨l,hl,rfl⟩:=List.mem_map.1 hr
 have h2:=Pl hn hl hj
 have h3:(Cn n (E5 n).N).length=(AJ (Ae n)).toNat:=by simp [Cn,E5]
 rw [h3];omega
theorem Er{n:Net}{x:Int}(hx:0≤x∧x < (E5 n).N):(Cn n (E5 n).N).getD x.toNat []=(Ac n.ls).map fun l=>(E5 n).succ x l:=by
 rw [List.getD,HL (by omega)]
 have:((x.toNat:Nat):Int)=x:=by omega
 simp [DL,this,E5]
theorem UJ{n:Net}{dist:List Int}(h:Nu (Cn n (E5 n).N) (fun i=>BZ n (Bx (Ae n) i) (DL n i)) dist):HZ (E5 n) (fun x=>dist.getD x.toNat 0):=by
 have hN:(Cn n (E5 n).N).length=(E5 n).N:=by simp [Cn]
 refine⟨fun x hx=>?_,fun x hx hp=>?_,fun x hx l hl j hj hj0=>?_⟩
 ·have h1:=h.zero x.toNat (by omega)
  have e:((x.toNat:Nat):Int)=x:=by omega
  rw [e] at h1
  exact h1
 ·obtain⟨r,hr,j,hj,hd⟩:=h.step x.toNat (by omega) hp
  rw [Er hx] at hr
  obtain⟨l,hl,rfl⟩:=List.mem_map.1 hr
  exact⟨l,hl,j,hj,hd⟩
 ·exact h.close x.toNat (by omega) _ (by rw [Er hx];exact List.mem_map.2 ⟨l,hl,rfl⟩) j hj hj0
theorem Pb{dist:List Int}{d y:Int}:∀ {l acc:List Int},y∈l.foldl (Gk dist d) acc↔y∈acc∨y∈l∧dist.getD y.toNat 0=d
 | [],acc=>by simp
 | j::l,acc=>by
  rw [List.foldl_cons,Pb,RK]
  split<;>grind
theorem Vq{mv:List (List (List Int))}{dist:List Int}{k:Nat}{d y:Int}{l:List Int}:y∈DG mv dist l k d↔∃x∈l,y∈(mv.getD x.toNat []).getD k []∧dist.getD y.toNat 0=d:=by
 have key:∀(l acc:List Int),y∈l.foldl (fun acc x=>((mv.getD x.toNat []).getD k []).foldl (Gk dist d) acc) acc↔y∈acc∨∃x∈l,y∈(mv.getD x.toNat []).getD k []∧dist.getD y.toNat 0=d:=by
  intro l
  induction l with
  | nil=>intro acc;simp
  | cons a l ih=>
   intro acc
   rw [List.foldl_cons,ih,Pb]
   grind
 unfold DG
 rw [key];simp
theorem UF{n:Net}{dist l:List Int}{k:Nat}{m:Int}(hm:(Ac n.ls)[k]? = some m)(hl:∀x∈l,0≤x∧x < (E5 n).N){d y:Int} :
 y∈DG (Cn n (E5 n).N) dist l k d↔∃x∈l,y∈(E5 n).succ x m∧dist.getD y.toNat 0=d:=by
 rw [Vq]
 constructor
 ·rintro⟨x,hx,hy,hd⟩
  rw [Er (hl x hx)] at hy
  exact⟨x,hx,by simpa [List.getD,hm] using hy,hd⟩
 ·rintro⟨x,hx,hy,hd⟩
  exact⟨x,hx,by rw [Er (hl x hx)];simpa [List.getD,hm] using hy,hd⟩
theorem Lw:∀ {zs:List Int} {k:Nat} {z:Int},zs[k]? = some z→AJ (zs.take (k+1))=AJ (zs.take k)*z
 | [],k,z,h=>by simp at h
 | a::zs,0,z,h=>by simp at h;subst h;simp [AJ]
 | a::zs,k+1,z,h=>by
  simp only [List.take_succ_cons,AJ]
  rw [Lw (by simpa using h),Int.mul_assoc]
def dl(f:Nat→Int)(N i:Nat):List Int:=(List.range i).map f++List.replicate (N - i) 0
theorem UK{f:Nat→Int}{N i:Nat}(h:i≤N):(dl f N i).length=N:=by simp [dl];omega
theorem YX{f:Nat→Int}{N i:Nat}(h:i < N):(dl f N i)[i]? = some 0:=by
 unfold dl
 rw [List.getElem?_append_right (by simp)]
 have:0 < N - i:=by omega
 simp [this]
theorem YY{f:Nat→Int}{N i:Nat}(h:i < N):(dl f N i).set i (f i)=dl f N (i+1):=by
 unfold dl
 rw [List.set_append_right _ _ (by simp)]
 have:N - i=(N - (i+1))+1:=by omega
 rw [this,List.range_succ,List.map_append]
 simp [List.replicate_succ]
theorem UX{l:List Int}(h:l.Pairwise (· < ·)){i j:Nat}{a b:Int}(hi:l[i]? = some a)(hj:l[j]? = some b)(hab:a < b):i < j:=by
 obtain⟨h1,rfl⟩:=List.getElem?_eq_some_iff.1 hi
 obtain⟨h2,rfl⟩:=List.getElem?_eq_some_iff.1 hj
 rw [List.pairwise_iff_getElem] at h
 rcases Nat.lt_trichotomy i j with h3|h3|h3
 ·exact h3
 ·subst h3;omega
 ·have:=h j i h2 h1 h3;omega
theorem QA{n:Net}(hn:Dq n)(hk:YF n)(hst:Fits (Ae n) n.st){r:Option (List Int)}(hr:BH (E5 n) r):Pure Tryz.prog TB 193 [Jf n] (aG r):=by
 have hpr:=KB hn
 have hg:=UP hn hst
 have hnp:=hn.np
 have hna:=hn.na
 have hzl:=LQ hn
 have hll:(Ac n.ls).length≤6:=AM n.ls 6
 have hpos:=Fs hn
 have hsz:=QF (TB:=TB) n (by omega)
 have hmv:=QD (TB:=TB) hn (E5 n).N (by show (AJ (Ae n)).toNat≤1048576;omega)
 have hpN:AJ (Ae n)=(((E5 n).N:Nat):Int):=by show _=(((AJ (Ae n)).toNat:Nat):Int);omega
 have hNle:(E5 n).N≤1048576:=by omega
 have hml:(Cn n (E5 n).N).length=(E5 n).N:=by simp [Cn]
 have hdec:∀(x:Nat),x < (E5 n).N→Pure Tryz.prog TB 223 [Ai (Ae n),eI .i64 x] (Ai (Bx (Ae n) x)):=fun x hx=>
  JW _ _ (by omega) (by omega) (fun z hz=>by have:=hpos z hz;omega) (by omega)
 have hfnd:∀(x:Nat),Pure Tryz.prog TB 222 [Jf n,Ai (Bx (Ae n) x),Ds (DL n x)] (eB (BZ n (Bx (Ae n) x) (DL n x))):=fun x=>QB hn hk (Il hn _) _
 have hencc:=O6 (TB:=TB) (Ae n) n.st hst (by omega)
 have hlet:=Cg (TB:=TB) n.ls
 have hdist:=fun dist h1 h2=>Tz (TB:=TB) (Cn n (E5 n).N) (fun i=>BZ n (Bx (Ae n) i) (DL n i)) dist (IA hn) (by omega) h1 h2
 refine eN Tryz.func193 rfl (by kernel_rfl) rfl ?_;intro Γ hΓ
 (repeat first|refine tA rfl ?_ |refine sP rfl (hsz) rfl ?_ |refine aU rfl ?_ |refine Aa ?_)
 refine aB ?_
 refine Ak.AZ (α:={k:Nat // k≤(Ae n).length}) (fun ⟨k,hkl⟩=>[(1,.o (.ip (Kj n))),(4,Ai (Ae n)),(5,eI .i64 (AJ ((Ae n).take k))),(6,eI .i64 k)]) (fun ⟨k,hkl⟩=>[]) 0 (fun ⟨k,hkl⟩=>(Ae n).length - k) (⟨0,by omega⟩) [] (DB hΓ rfl rfl) (by (simp[cX,zC,hΓ,AJ])) ?_;rintro⟨k,hkl⟩;(try dsimp only)
 (repeat first|refine sN rfl ?_ |refine tA rfl ?_ |refine s2 rfl fun _ _hb=>?_ |refine aU rfl ?_ |refine Aa ?_)
 (refine aC rfl ?_ ?_<;>rintro⟨⟩)
 ·obtain⟨z,hz⟩:=get_some (l:=Ae n) (k:=k) (by (simp only[oZ] at *;omega))
  have hz':=get_map (g:=Bk) hz
  have h1:=Lw hz
  have h2:=Lv ((Ae n).take (k+1)) fun z hz=>hpos z (List.mem_of_mem_take hz)
  have h3:=(hst.take (k+1)).2
  rw [h1] at h2 h3
  refine aK ?_
  refine aS (aB ?_)
  (repeat first|(refine sA rfl ?_ ?_;first|exact tI|omega) |(refine s4 rfl ‹_› rfl ?_ ?_;omega) |refine aU rfl ?_ |refine Aa ?_)
  refine⟨⟨k+1,by (simp only[oZ] at *;omega)⟩,by dsimp only;((simp only[oZ] at *;omega)),[],?_⟩
  simp[cX,zC,hΓ,h1]
 obtain rfl:k=(Ae n).length:=by (simp only[oZ] at *;omega)
 refine aE ?_
 rw [List.take_length,hpN]
 generalize hNN:(E5 n).N=N at *
 generalize hmm:Cn n N=mv at *
 (repeat first|refine tM rfl ?_ |refine sP rfl (hmv) rfl ?_ |refine aU rfl ?_ |refine Aa ?_)
 (refine pW rfl ?_ rfl (by rfl);refine HM rfl rfl (by rfl) (by rfl) (Nat.le_of_ble_eq_true rfl) (by omega) (by omega) (by omega) ?_)
 (repeat first|refine tM rfl ?_ |refine aU rfl ?_ |refine Aa ?_)
 refine aB ?_
 refine Ak.AZ (α:={i:Nat // i≤N}) (fun ⟨i,hi⟩=>[(1,.o (.ip (Kj n))),(4,Ai (Ae n)),(5,eI .i64 N),(7,CB mv),(8,.o (.arr 0 1 0 N)),(9,eI .i64 i)]) (fun ⟨i,hi⟩=>[(0,.cells 3 1 ((dl (fun j=>if BZ n (Bx (Ae n) (j:Nat)) (DL n j) then 0 else -1) N i).map AB))]) 1 (fun ⟨i,hi⟩=>N - i) (⟨0,by omega⟩) [0] (DB hΓ rfl rfl) (by (simp[cX,zC,hΓ,dl])) ?_;rintro⟨i,hi⟩;(try dsimp only)
 (repeat first|refine tM rfl ?_ |refine s2 rfl fun _ _hb=>?_ |refine aU rfl ?_ |refine Aa ?_)
 (refine aC rfl ?_ ?_<;>rintro⟨⟩)
 ·have hiN:i < N:=by (simp only[oZ] at *;omega)
  have hd0:=YX (f:=fun j=>if BZ n (Bx (Ae n) (j:Nat)) (DL n j) then 0 else -1) hiN
  have hds:=YY (f:=fun j=>if BZ n (Bx (Ae n) (j:Nat)) (DL n j) then 0 else -1) hiN
  have hdl:=UK (f:=fun j=>if BZ n (Bx (Ae n) (j:Nat)) (DL n j) then 0 else -1) (Nat.le_of_lt hiN)
  generalize dl (fun j=>if BZ n (Bx (Ae n) (j:Nat)) (DL n j) then 0 else -1) N i=cur at *
  have hd0':=GA (g:=AB) hd0
  have hd1:(cur.set i (-1))[i]? = some (-1):=by simp [hdl,hiN]
  have hd1':=GA (g:=AB) hd1
  rw [←GQ (x:=0)] at hd1'
  have hmi:(mv.map HH)[((i:Nat):Int).toNat]? = some (HH (DL n i)):=by rw [←hmm];exact get_map (HL hiN)
  refine aK ?_
  refine aS (aB ?_)
  (repeat' first|((first|refine sM rfl ?_ ?_|refine s4 rfl ‹_› rfl ?_ ?_);first|exact tI|omega) |refine sP rfl (hdec i hiN) rfl ?_|(refine sC rfl (hfnd i) ?_;intro _ _hb) |refine aU rfl ?_ |refine Aa ?_ |refine rE (by kernel_rfl) ?_|(refine aC rfl ?_ ?_<;>rintro⟨⟩)|refine aK ?_|refine aE ?_|refine aB ?_|refine aR ⟨_,rfl,?_⟩)
  ·rw [if_pos (by assumption)] at hds
   refine⟨⟨i+1,by omega⟩,by dsimp only;(omega),[0],?_⟩
   rw [GQ,GQ,List.set_set]
   simp[cX,zC,hΓ,hds]
  ·rw [if_neg (by grind)] at hds
   refine⟨⟨i+1,by omega⟩,by dsimp only;(omega),[0],?_⟩
   rw [GQ]
   simp[cX,zC,hΓ,hds]
 obtain rfl:i=N:=by (simp only[oZ] at *;omega)
 refine aE ?_
 (repeat first|refine tM rfl ?_ |refine aU rfl ?_)
 have hdlg:∀x,x < i→(dl (fun j=>if BZ n (Bx (Ae n) (j:Nat)) (DL n j) then 0 else -1) i i).getD x 0=if BZ n (Bx (Ae n) (x:Nat)) (DL n x) then 0 else -1:=by
  intro x hx;simp [dl,List.getD,hx]
 have hdll:(dl (fun j=>if BZ n (Bx (Ae n) (j:Nat)) (DL n j) then 0 else -1) i i).length=i:=UK (Nat.le_refl _)
 generalize dl (fun j=>if BZ n (Bx (Ae n) (j:Nat)) (DL n j) then 0 else -1) i i=d0 at *
 have hdist:=hdist d0 (by omega) (by rw [hml];exact hdlg)
 rw [hml] at hdist
 (refine pW rfl ?_ rfl (by rfl);refine AD [0] rfl rfl hdist ⟨rfl,by simp,by simp⟩ rfl (by simp[cX,zC,hΓ]) ?_;rintro x0 σ1 nx1 ⟨rfl,rfl,dist,hD,rfl⟩ _)
 refine Aa ?_
 refine aS ?_
 refine Ak.freeze [0] [(1,.o (.ip (Kj n))),(4,Ai (Ae n)),(7,CB mv),(8,Ai dist)] ⟨⟨_,rfl,.Bb⟩,⟨_,rfl,.Bb⟩,⟨_,rfl,.Bb⟩,⟨.o (.arr 0 1 0 i),rfl,.o (.full (T:=3) (rows:=dist.map AB) (by simp) (by simp[cX,zC,hΓ,Ab.A0,BR,Gl]) (by simp [Function.comp_def]) (by simp [hD.len,hml]))⟩,trivial⟩ ?_
 have hG:HZ (E5 n) (fun x=>dist.getD x.toNat 0):=UJ (by rw [hNN,hmm];exact hD)
 have hdl:=hD.len
 have hin:=IA hn
 rw [hNN,hmm] at hin
 have hrow:∀x:Int,0≤x∧x < i→mv.getD x.toNat []=(Ac n.ls).map fun l=>(E5 n).succ x l:=by
  intro x hx;rw [←hmm,←hNN];exact Er (by rw [hNN];exact hx)
 have hrl:∀x,x < mv.length→(mv.getD x []).length=(Ac n.ls).length:=by
  intro x hx
  have:=hrow (x:Nat) (by omega)
  rw [Int.toNat_natCast] at this
  rw [this];simp
 have hcl:∀(at':List Int) (k:Nat) (d:Int),Cw i at'→k < (Ac n.ls).length→Pure Tryz.prog TB 226 [CB mv,Ai dist,Ai at',eI .i64 k,eI .i64 d] (Ai (DG mv dist at' k d)):=fun at' k d ha hk=>
  O5 mv dist at' k d hin (by omega) hdl (by rw [hml];exact ha.2) (by have:=Eb _ _ ha.1 ha.2;omega) (fun x hx=>by rw [hrl x hx];exact hk)
 have hcm:∀(at':List Int) (k:Nat) (d:Int) (m:Int),(Ac n.ls)[k]? = some m→Cw i at'→∀y,y∈DG mv dist at' k d↔∃x∈at',y∈(E5 n).succ x m∧dist.getD y.toNat 0=d:=by
  intro at' k d m hm ha y
  rw [←hmm,←hNN]
  exact UF hm (by rw [hNN];exact ha.2)
 have hac:∀(at':List Int) (k:Nat) (d:Int),Cw i at'→Cw i (DG mv dist at' k d):=by
  intro at' k d ha
  have:=Cw.YO hin (dist:=dist) (d:=d) (k:=k) (l:=at') .nil (by rw [hml];exact ha.2)
  rwa [hml] at this
 obtain⟨s,hs⟩:∃s,FD (Ae n) n.st 0=s:=⟨_,rfl⟩
 have hgs:(E5 n).s0=s:=hs
 have hsin:=hg.s0
 rw [hgs,hNN] at hsin
 rw [hs] at hencc
 obtain⟨dd,hdd⟩:=get_some (l:=dist) (k:=s.toNat) (by omega)
 have hdd':(dist.map Bk)[s.toNat]? = some (Bk dd):=by simp [hdd]
 have hddg:dist.getD (E5 n).s0.toNat 0=dd:=by rw [hgs];simp [List.getD,hdd]
 have hs0':([s].map Bk)[(0:Int).toNat]? = some (Bk s):=rfl
 have hbd:=hD.bound s.toNat (by omega)
 have hddb:dist.getD s.toNat 0=dd:=by simp [List.getD,hdd]
 rw [hddb] at hbd
 (repeat first|refine tA rfl ?_ |(refine s4 rfl ‹_› rfl ?_ ?_;omega) |refine sP rfl (hencc) rfl ?_|refine sP rfl (hlet) rfl ?_ |refine aU rfl ?_ |refine Aa ?_)
 by_cases hneg:dd < 0
 ·have hans:=Uu hg hG (by show dist.getD (E5 n).s0.toNat 0 < 0;rw [hddg];exact hneg)
  have hrr:=BH.unique hr hans
  subst hrr
  refine aB ?_
  refine Ak.AZ (α:=Unit) (fun _=>[(12,eT []),(13,eI .i64 dd)]) (fun _=>[]) 0 (fun _=>0) (()) [] (DB hΓ rfl rfl) (by (simp[cX,zC,hΓ])) ?_;rintro _;(try dsimp only)
  (repeat first|refine tA rfl ?_ |refine s2 rfl fun _ _hb=>?_ |refine aU rfl ?_ |refine Aa ?_)
  (refine aC rfl ?_ ?_<;>rintro⟨⟩)
  ·exfalso;(simp only[oZ] at *;omega)
  (repeat' first|refine tA rfl ?_ |refine s2 rfl fun _ _hb=>?_ |refine aU rfl ?_ |refine Aa ?_|(refine aC rfl ?_ ?_<;>rintro⟨⟩)|refine aK ?_|refine aE ?_|refine aB ?_|refine aR ⟨_,rfl,?_⟩)
  all_goals first
   | (exfalso;omega;done)
   | (subst _hb;rw [show decide (dd=0)=false from decide_eq_false (by omega)];rfl)
 ·have hW0 := Kf.init (dx:=fun x=>dist.getD x.toNat 0) hg (by show 0≤dist.getD (E5 n).s0.toNat 0;rw [hddg];omega)
  have hW0:Kf (E5 n) (fun x=>dist.getD x.toNat 0) [] [s] dd:=by rw [hgs,hddb] at hW0;exact hW0
  refine aB ?_
  refine Ak.AZ (α:={x:List Int×List Int×Int // Kf (E5 n) (fun x=>dist.getD x.toNat 0) x.1 x.2.1 x.2.2}) (fun ⟨⟨w,at',d⟩,hW⟩=>[(7,CB mv),(8,Ai dist),(10,Ai at'),(11,Ai (Ac n.ls)),(12,eT (CM w)),(13,eI .i64 d)]) (fun ⟨⟨w,at',d⟩,hW⟩=>[]) 0 (fun ⟨⟨w,at',d⟩,hW⟩=>d.toNat) (⟨([],[s],dd),hW0⟩) [] (DB hΓ rfl rfl) (by (repeat' first|exact tI|rfl|refine And.intro ?_ ?_)) ?_;rintro⟨⟨w,at',d⟩,hW⟩;(try dsimp only)
  simp only at hW
  have hWl:=hW.len
  have hWd:=hW.d0
  have hWa:=hW.acc
  have hWl:(w.length:Int)+d=dd:=by rw [←hddg];exact hWl
  rw [hNN] at hWa
  (repeat first|refine tA rfl ?_ |refine s2 rfl fun _ _hb=>?_ |refine aU rfl ?_ |refine Aa ?_)
  (refine aC rfl ?_ ?_<;>rintro⟨⟩)
  ·have hdp:0 < d:=by (simp only[oZ] at *;omega)
   obtain⟨l0,hl0,hx0⟩:=hW.prog hG hdp
   have hlx:∀l:Int,l∈(E5 n).ls→∃k:Nat,(Ac n.ls)[k]? = some l:=fun l hl=>List.getElem?_of_mem hl
   have hkp:∀k:Nat,(∀k',k' < k→DG mv dist at' k' (d - 1)=[])→k < (Ac n.ls).length:=by
    intro k hk2
    rcases Nat.lt_or_ge k (Ac n.ls).length with h|h
    ·exact h
    ·exfalso
     obtain⟨j,hj⟩:=hlx l0 hl0
     have h1:=hk2 j (by have:=(List.getElem?_eq_some_iff.1 hj).1;omega)
     obtain⟨x,hx,y,hy,hdy⟩:=hx0
     have h2:=(hcm at' j (d - 1) l0 hj hWa y).2 ⟨x,hx,hy,hdy⟩
     rw [h1] at h2;cases h2
   have hk0:=hkp 0 (fun k' h=>by omega)
   refine aK ?_
   refine aS (aB ?_)
   (repeat first|(refine sA rfl ?_ ?_;first|exact tI|omega) |refine sP rfl (hcl at' 0 (d - 1) hWa hk0) rfl ?_ |refine aU rfl ?_ |refine Aa ?_)
   refine aB ?_
   refine Ak.AZ (α:={k:Nat // ∀k',k' < k→DG mv dist at' k' (d - 1)=[]}) (fun ⟨k,hkk⟩=>[(7,CB mv),(8,Ai dist),(10,Ai at'),(11,Ai (Ac n.ls)),(12,eT (CM w)),(13,eI .i64 d),(14,eI .i64 k),(15,Ai (DG mv dist at' k (d - 1)))]) (fun ⟨k,hkk⟩=>[]) 0 (fun ⟨k,hkk⟩=>(Ac n.ls).length - k) (⟨0,fun k' h=>by omega⟩) [] (DB hΓ rfl rfl) (by (simp[cX,zC,hΓ])) ?_;rintro⟨k,hkk⟩;(try dsimp only)
   have hkl:=hkp k hkk
   have hacK:=hac at' k (d - 1) hWa
   (repeat first|refine sN rfl ?_ |refine tA rfl ?_ |refine s2 rfl fun _ _hb=>?_ |refine aU rfl ?_ |refine Aa ?_)
   (refine aC rfl ?_ ?_<;>rintro⟨⟩)
   ·have hnil:DG mv dist at' k (d - 1)=[]:=List.length_eq_zero_iff.1 (by (simp only[oZ] at *;omega))
    have hkk2:∀k',k' < k+1→DG mv dist at' k' (d - 1)=[]:=fun k' h=>by
     rcases Nat.lt_succ_iff_lt_or_eq.1 h with h|h
     ·exact hkk k' h
     ·rw [h];exact hnil
    have hc2:=hcl at' (k+1) (d - 1) hWa (hkp _ hkk2)
    rw [show (((k+1:Nat)):Int)=(k:Int)+1 from rfl] at hc2
    refine aK ?_
    refine aB ?_
    (repeat first|(refine sA rfl ?_ ?_;first|exact tI|omega) |refine sP rfl (hc2) rfl ?_ |refine aU rfl ?_ |refine Aa ?_)
    refine⟨⟨k+1,hkk2⟩,by dsimp only;(omega),[],?_⟩
    simp[cX,zC,hΓ]
   ·obtain⟨m,hm⟩:=get_some (l:=Ac n.ls) (k:=k) hkl
    have hm':=get_map (g:=Bk) hm
    have hmb:=Au (List.mem_of_getElem? hm)
    have hne:DG mv dist at' k (d - 1)≠[]:=fun e=>by rw [e] at _hb;simp at _hb
    have hN2:=hW.next hg hG hdp (l:=m) (List.mem_of_getElem? hm) (at2:=DG mv dist at' k (d - 1)) (by rw [hNN];exact hacK) hne (fun y=>by
     rw [hcm at' k (d - 1) m hm hWa y]) (fun m' hm' hlt=>by
     rintro⟨x,hx,y,hy,hdy⟩
     obtain⟨j,hj⟩:=hlx m' hm'
     have hjk:=UX (C8 n.ls 6) hj hm hlt
     have h2:=(hcm at' j (d - 1) m' hj hWa y).2 ⟨x,hx,hy,hdy⟩
     rw [hkk j hjk] at h2;cases h2)
    have htl:(CM w).length=w.length:=by simp [CM]
    have htx:CM w++[97+UInt8.ofNat m.toNat]=CM (w++[m]):=by simp [CM]
    refine aE ?_
    (repeat first|(refine sA rfl ?_ ?_;first|exact tI|omega|simp only[oZ] at *;omega) |(refine s4 rfl ‹_› rfl ?_ ?_;omega) |refine sP rfl (Ha m (by omega) (by omega)) rfl ?_ |refine aU rfl ?_ |refine Aa ?_)
    refine⟨⟨(w++[m],DG mv dist at' k (d - 1),d - 1),hN2⟩,by dsimp only;omega,[],?_⟩
    simp[cX,zC,hΓ,htx]
  ·obtain rfl:d=0:=by (simp only[oZ] at *;omega)
   have hans:=hW.dZ hg hG
   have hrr:=BH.unique hr hans
   subst hrr
   (repeat' first|refine tA rfl ?_ |refine s2 rfl fun _ _hb=>?_ |refine aU rfl ?_ |refine Aa ?_|(refine aC rfl ?_ ?_<;>rintro⟨⟩)|refine aK ?_|refine aE ?_|refine aB ?_|refine aR ⟨_,rfl,?_⟩)
   all_goals first
    | (subst _hb;rfl)
abbrev cT(r:Option (List Int)):List UInt8:=(r.map CM).getD []
abbrev NJ(r:Option (List Int)):E:=.t [(false,[.d (tD (cT r))]),(false,[.d (bD r.isSome)])]
theorem Xg(r:Option (List Int)):aG r=NJ r:=by cases r<;>rfl
noncomputable def Gp(g:Gr):Option (List Int):=Classical.choose (K0 g)
theorem Fa(g:Gr):BH g (Gp g):=Classical.choose_spec (K0 g)
theorem Ut{g:Gr}{r:Option (List Int)}(h:BH g r):Gp g=r:=BH.unique (Fa g) h
theorem Xs{a b:Nat}(ha:a < 64)(hb:b < 64):Y9 .i64 a b=((a ||| b:Nat):Int)∧a ||| b < 64:=by
 have h0:a ||| b < 64:=Nat.or_lt_two_pow (n:=6) ha hb
 refine⟨?_,h0⟩
 unfold Y9
 have h1:(BitVec.ofInt IntKind.i64.bits (a:Int) ||| BitVec.ofInt IntKind.i64.bits (b:Int)).toNat=a ||| b:=by
  have e:IntKind.i64.bits=64:=rfl
  rw [e]
  simp only [BitVec.toNat_or,BitVec.ofInt_natCast,BitVec.toNat_ofNat]
  rw [Nat.mod_eq_of_lt (by omega),Nat.mod_eq_of_lt (by omega)]
 rw [h1]
 exact IntWalk.i64_in _ (by omega)
theorem MP:∀ {zs:List Int},(∀z∈zs,0 < z)→Fits zs (List.replicate zs.length 0)
 | [],_=>.nil
 | z::zs,h=>by
  rw [List.length_cons,List.replicate_succ]
  exact .cons (by omega) (h z (by simp)) (MP fun x hx=>h x (by simp [hx]))
end Go.Am
namespace Go.Am
open Go
def B3:List Int→Nat
 | []=>0
 | x::l=>2 ^ x.toNat+B3 l
theorem PF:∀(l m:List Int),B3 (l++m)=B3 l+B3 m
 | [],m=>by simp [B3]
 | x::l,m=>by simp [B3,PF l m,Nat.add_assoc]
theorem SF:∀ {l:List Int} {t:Nat},l.Pairwise (· < ·)→(∀x∈l,0≤x∧x < t)→B3 l < 2 ^ t
 | [],t,_,_=>Nat.two_pow_pos t
 | x :: l,t,hp,h=>by
  have key:∀(l:List Int) (a t:Nat),(∀x∈l,(a:Int)≤x∧x < t)→l.Pairwise (· < ·)→a≤t→2 ^ a+B3 l≤2 ^ t:=by
   intro l
   induction l with
   | nil=>intro a t _ _ hat;simpa [B3] using Nat.pow_le_pow_right (by omega) hat
   | cons y l ih=>
    intro a t h hp hat
    have hy:=h y (by simp)
    have hp2:=List.pairwise_cons.1 hp
    have h1:=ih (y.toNat+1) t (fun x hx=>by have:=hp2.1 x hx;have:=h x (by simp [hx]);omega) hp2.2 (by omega)
    have h2:2 ^ a≤2 ^ y.toNat:=Nat.pow_le_pow_right (by omega) (by omega)
    rw [Nat.pow_succ] at h1
    simp only [B3];omega
  have hx:=h x (by simp)
  have hp2:=List.pairwise_cons.1 hp
  have h1:=key l (x.toNat+1) t (fun y hy=>by have:=hp2.1 y hy;have:=h y (by simp [hy]);omega) hp2.2 (by omega)
  rw [Nat.pow_succ] at h1
  simp only [B3]
  have:=Nat.two_pow_pos x.toNat
  omega
theorem XZ{l:List Int}{t:Nat}(hp:l.Pairwise (· < ·))(h:∀x∈l,0≤x∧x < t):B3 l ||| 2 ^ t=B3 (l++[(t:Int)]):=by
 have h1:=SF hp h
 rw [PF]
 have h2:=Nat.two_pow_add_eq_or_of_lt h1 1
 simp only [Nat.mul_one] at h2
 rw [Nat.or_comm,←h2]
 simp [B3];omega
theorem OB:∀(k m:Nat),(2 ^ k*(2*m+1)) &&& (2 ^ k*(2*m+1) - 1)=2 ^ k*(2*m)
 | 0, m=>by
  apply Nat.eq_of_testBit_eq
  intro i
  cases i with
  | zero=>simp
  | succ i=>
   simp only [Nat.pow_zero,Nat.one_mul,Nat.add_sub_cancel]
   have h1:(2*m+1) / 2=m:=by omega
   have h2:2*m / 2=m:=by omega
   rw [Nat.testBit_and,Nat.testBit_succ,Nat.testBit_succ,h1,h2];simp
 | k + 1,m=>by
  have ih:=OB k m
  have hp:0 < 2 ^ k*(2*m+1):=Nat.mul_pos (Nat.two_pow_pos k) (by omega)
  have e1:2 ^ (k+1)*(2*m+1)=2*(2 ^ k*(2*m+1)):=by rw [Nat.pow_succ,Nat.mul_comm (2 ^ k) 2,Nat.mul_assoc]
  have e2:2 ^ (k+1)*(2*m)=2*(2 ^ k*(2*m)):=by rw [Nat.pow_succ,Nat.mul_comm (2 ^ k) 2,Nat.mul_assoc]
  rw [e1,e2,←ih]
  generalize 2 ^ k*(2*m+1)=a at hp
  apply Nat.eq_of_testBit_eq
  intro i
  cases i with
  | zero=>simp
  | succ i=>
   have h1:2*a / 2=a:=by omega
   have h2:(2*a - 1) / 2=a - 1:=by omega
   have h3:2*(a &&& (a - 1)) / 2=a &&& (a - 1):=by omega
   rw [Nat.testBit_and,Nat.testBit_succ,Nat.testBit_succ,Nat.testBit_succ,h1,h2,h3,Nat.testBit_and]
theorem LP:∀ {l:List Int} {k:Nat},l.Pairwise (· < ·)→(∀x∈l,(k:Int) < x)→∃m,B3 l=2 ^ k*(2*m)
 | [],k,_,_=>⟨0,by simp [B3]⟩
 | x :: l,k,hp,h=>by
  have hp2:=List.pairwise_cons.1 hp
  have hx:=h x (by simp)
  obtain⟨m,hm⟩:=LP (l:=l) (k:=k) hp2.2 fun y hy=>by have:=hp2.1 y hy;omega
  refine⟨2 ^ (x.toNat - k - 1)+m,?_⟩
  have e:x.toNat=k+(1+(x.toNat - k - 1)):=by omega
  have:2 ^ x.toNat=2 ^ k*(2*2 ^ (x.toNat - k - 1)):=by
   conv=>lhs;rw [e,Nat.pow_add,Nat.pow_add]
  simp only [B3,hm,this,←Nat.mul_add]
theorem Nm{x:Int}{l:List Int}(hp:(x::l).Pairwise (· < ·))(h0:0≤x):∃m,B3 (x::l)=2 ^ x.toNat*(2*m+1)∧B3 l=2 ^ x.toNat*(2*m):=by
 have hp2:=List.pairwise_cons.1 hp
 obtain⟨m,hm⟩:=LP (l:=l) (k:=x.toNat) hp2.2 fun y hy=>by have:=hp2.1 y hy;omega
 exact⟨m,by simp only [B3,hm];rw [Nat.mul_add];omega,hm⟩
theorem T8{x:Int}{l:List Int}(hp:(x::l).Pairwise (· < ·))(h0:0≤x):B3 (x::l) &&& (B3 (x::l) - 1)=B3 l:=by
 obtain⟨m,h1,h2⟩:=Nm hp h0
 rw [h1,h2,OB]
theorem PG{x:Int}{l:List Int}:0 < B3 (x::l):=by
 simp only [B3];have:=Nat.two_pow_pos x.toNat;omega
theorem cg{x:Int}{l:List Int}(hp:(x::l).Pairwise (· < ·))(h0:0≤x)(hlt:B3 (x::l) < 2 ^ 64):Lib.ctz 64 (B3 (x::l))=x.toNat:=by
 obtain⟨m,h1,_⟩:=Nm hp h0
 have h2:=Lib.lowest_bit 64 _ (by have:=PG (x:=x) (l:=l);omega) hlt
 have h3:=Lib.and_neg 64 x.toNat m (by rw [←h1];exact hlt)
 rw [←h1,h2.1] at h3
 exact(Nat.pow_right_inj (by omega)).1 h3
end Go.Am
namespace Go.Am
open Go Go.Proofs
set_option maxHeartbeats 1000000
attribute [local irreducible] AY B2 Lex Bq Ak Spec
variable {TB:Bu}
theorem Yg(i:Nat)(h:i < 64):B1[i]? = some (.int .u8 (Lib.deBruijn64tab.getD i 0:Nat)):=by
 have e:B1=Lib.deBruijn64tab.map fun n=>Value.int .u8 (n:Nat):=rfl
 have hl:Lib.deBruijn64tab.length=64:=rfl
 rw [e,List.getElem?_map,List.getElem?_eq_getElem (by omega)]
 simp [List.getD,hl,h]
theorem ZU(x a:Nat)(hx:x < 18446744073709551616)(hx0:x≠0)(hlow:x &&& (18446744073709551616 - x)=a) :
 (IntKind.u64.wrap (Ki .u64 (x:Int) (IntKind.u64.wrap (-(x:Int)))*285870213051353865)).fdiv (2 ^ (min (58:Int).toNat IntKind.u64.bits))=((a*285870213051353865 % 18446744073709551616 / 288230376151711744:Nat):Int):=by
 have w64:∀n:Int,IntKind.u64.wrap n=n % 18446744073709551616:=fun n=>by simp [IntKind.wrap,IntKind.signed,IntKind.bits]
 have e1:IntKind.u64.wrap (-(x:Int))=((18446744073709551616 - x:Nat):Int):=by rw [w64];omega
 have e2:Ki .u64 (x:Int) ((18446744073709551616 - x:Nat):Int)=(a:Int):=by
  unfold Ki
  have e:IntKind.u64.bits=64:=rfl
  rw [e]
  have h1:(BitVec.ofInt 64 (x:Int) &&& BitVec.ofInt 64 ((18446744073709551616 - x:Nat):Int)).toNat=a:=by
   simp only [BitVec.toNat_and,BitVec.ofInt_natCast,BitVec.toNat_ofNat]
   rw [Nat.mod_eq_of_lt (by omega),Nat.mod_eq_of_lt (by omega),hlow]
  rw [h1,w64]
  have h2:a≤x:=by rw [←hlow];exact Nat.and_le_left
  omega
 rw [e1,e2,w64]
 have e3:(2:Int) ^ (min (58:Int).toNat IntKind.u64.bits)=288230376151711744:=rfl
 rw [e3,Int.fdiv_eq_ediv_of_nonneg _ (by omega)]
 omega
theorem Yk[YH TB](x:Nat)(hx0:x≠0)(hx:x < 18446744073709551616):Pure Tryz.prog TB 275 [eI .u64 x] (eI .i64 (Lib.ctz 64 x)):=by
 obtain⟨hlow,hk⟩:=Lib.lowest_bit 64 x hx0 hx
 obtain⟨hi,htab⟩:=Lib.deBruijn64_at _ hk
 have hkey:=ZU x _ hx hx0 hlow
 have htv:=Yg _ hi
 rw [htab] at htv
 generalize Lib.ctz 64 x=cz at *
 generalize 2 ^ cz*285870213051353865 % 18446744073709551616 / 288230376151711744=idx at *
 refine eN Tryz.func275 rfl (by kernel_rfl) rfl ?_;intro Γ hΓ
 (repeat' first|(refine sA rfl ?_ ?_;first|exact tI|omega) |refine s2 rfl fun _ _hb=>?_|(refine Ag rfl ?_;refine gA rfl ?_;first| refine gS (fun _ _=>Pw rfl rfl) ?_|refine gS (fun _ _=>Yy rfl rfl rfl) ?_) |refine aU rfl ?_ |refine Aa ?_|(refine aC rfl ?_ ?_<;>rintro⟨⟩)|refine aK ?_|refine aE ?_|refine aB ?_|refine aR ⟨_,rfl,?_⟩)
 ·exfalso;(simp only[oZ] at *;omega)
 rw [hkey]
 clear hkey hlow htab
 (repeat' first|(refine sA rfl ?_ ?_;first|exact tI|omega)|(refine Ag rfl ?_;refine gA rfl ?_;first| refine gS (fun _ _=>VO (v:=.int .u8 ((cz:Nat):Int)) rfl (by omega) (by omega) (by rw [Int.toNat_natCast];exact htv)) ?_) |refine Aa ?_|(refine aC rfl ?_ ?_<;>rintro⟨⟩)|refine aK ?_|refine aE ?_|refine aB ?_|refine aR ⟨_,rfl,?_⟩)
 rfl
theorem dW[YH TB](x:Nat)(hx0:x≠0)(hx:x < 18446744073709551616):Pure Tryz.prog TB 267 [eI .u64 x] (eI .i64 (Lib.ctz 64 x)):=by
 refine eN Tryz.func267 rfl (by kernel_rfl) rfl ?_;intro Γ hΓ
 (repeat' first|refine tA rfl ?_ |refine sP rfl (Yk x hx0 hx) rfl ?_ |refine aU rfl ?_ |refine Aa ?_|(refine aC rfl ?_ ?_<;>rintro⟨⟩)|refine aK ?_|refine aE ?_|refine aB ?_|refine aR ⟨_,rfl,?_⟩)
 all_goals rfl
theorem ae{x:Int}{l:List Int}(hp:(x::l).Pairwise (· < ·))(h0:0≤x)(hlt:B3 (x::l) < 2 ^ 62):Ki .i64 (B3 (x::l):Nat) ((B3 (x::l):Nat) - 1)=(B3 l:Nat):=by
 have h1:=T8 hp h0
 have h2:=PG (x:=x) (l:=l)
 have h3:B3 l≤B3 (x::l):=Nat.le_add_left _ _
 generalize B3 (x::l)=a at *
 have e1:((a:Nat):Int) - 1=((a - 1:Nat):Int):=by omega
 rw [e1]
 unfold Ki
 have e:IntKind.i64.bits=64:=rfl
 rw [e]
 have h4:(BitVec.ofInt 64 (a:Int) &&& BitVec.ofInt 64 ((a - 1:Nat):Int)).toNat=B3 l:=by
  simp only [BitVec.toNat_and,BitVec.ofInt_natCast,BitVec.toNat_ofNat]
  rw [Nat.mod_eq_of_lt (by omega),Nat.mod_eq_of_lt (by omega),h1]
 rw [h4]
 exact IntWalk.i64_in _ (by omega)
end Go.Am
