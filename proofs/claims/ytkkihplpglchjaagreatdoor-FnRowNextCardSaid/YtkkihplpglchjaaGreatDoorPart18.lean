/-
  Few words asked: few sets found, plainly.
-/
import Derived.Test.YtkkihplpglchjaaGreatDoorPart17
import Derived.Test.YtkkihplpglchjaaGreatDoorPart13
import Derived.Test.YtkkihplpglchjaaGreatDoorPart14
import Derived.Test.YtkkihplpglchjaaGreatDoorPart12
set_option linter.constructorNameAsVariable false
set_option linter.unusedSimpArgs false
set_option linter.unusedVariables false
namespace Go.Am
open Go Go.Proofs
set_option linter.unusedVariables false
def Di (n:Nat) (p:W→Prop):Prop:=∃l:List W,l.length≤n∧∀w,p w→w∈l
theorem Di.or {a b:Nat} {p q:W→Prop} (h:Di a p) (h':Di b q):Di (a+b) (fun w=>p w∨q w):=by
  obtain ⟨l,h1,h2⟩:=h
  obtain ⟨l',h3,h4⟩:=h'
  exact ⟨l++l',by simp;omega,fun w hw=>List.mem_append.2 (hw.imp (h2 w) (h4 w))⟩
theorem Di.sub {a b:Nat} {p q:W→Prop} (h:Di a p) (hs:∀w,q w→p w) (hb:a≤b):Di b q:=by
  obtain ⟨l,h1,h2⟩:=h
  exact ⟨l,by omega,fun w hw=>h2 w (hs w hw)⟩
theorem Di.none {n:Nat} {p:W→Prop} (h:∀w,¬p w):Di n p:=⟨[],by simp,fun w hw=>absurd hw (h w)⟩
theorem Di.if {n:Nat} {p:W→Prop} {c:Prop} (h:c→Di n p):Di n (fun w=>c∧p w):=by
  by_cases hc:c
  · exact (h hc).sub (fun w hw=>hw.2) (Nat.le_refl _)
  · exact .none fun w hw=>hc hw.1
theorem KD {α β:Type} (f:α→List β) (b:Nat):∀(l:List α),(∀x∈l,(f x).length≤b)→(l.flatMap f).length≤l.length*b
  | [],_=>by simp
  | x::l,h=>by
    have h1:=KD f b l fun y hy=>h y (by simp [hy])
    have h2:=h x (by simp)
    rw [List.flatMap_cons,List.length_append,List.length_cons,Nat.succ_mul]
    omega
theorem Di.ex {α:Type} {n b:Nat} {p:W→Prop} {q:α→W→Prop} (l:List α) (hl:l.length≤n) (hq:∀x∈l,Di b (q x)) (h:∀w,p w→∃x∈l,q x w):Di (n*b) p:=by
  classical
  have hf:∀x:α,∃k:List W,x∈l→k.length≤b∧∀w,q x w→w∈k:=fun x=>by
    by_cases hx:x∈l
    · obtain ⟨k,h1,h2⟩:=hq x hx;exact ⟨k,fun _=>⟨h1,h2⟩⟩
    · exact ⟨[],fun h=>absurd h hx⟩
  have hg:=fun x=>Classical.choose_spec (hf x)
  refine ⟨l.flatMap fun x=>Classical.choose (hf x),Nat.le_trans (KD _ b l fun x hx=>(hg x hx).1) (Nat.mul_le_mul_right b hl),fun w hw=>?_⟩
  obtain ⟨x,hx,hxw⟩:=h w hw
  exact List.mem_flatMap.2 ⟨x,hx,(hg x hx).2 w hxw⟩
theorem Di.map {α:Type} {n:Nat} {p:W→Prop} (f:α→W) (l:List α) (hl:l.length≤n) (h:∀w,p w→∃x∈l,w=f x):Di n p:=
  ⟨l.map f,by simpa using hl,fun w hw=>by obtain ⟨x,hx,rfl⟩:=h w hw;exact List.mem_map.2 ⟨x,hx,rfl⟩⟩
theorem Vt (al:Int):(A6 al).length≤6:=by
  unfold A6
  rw [List.length_map]
  exact AM al 6
theorem Rq {al:Int} {b:Nat} {t:AZ} (h:Hc al b t):Di 1764 (N5 (A6 al) t):=by
  have hrl:=h.rl
  have hcl:=h.cl
  refine Di.ex (n:=12) (b:=147) (q:=fun r v=>∃m:W,(m=[]∨∃l∈A6 al,m=[l])∧∃x:W,(x=[]∨x∈t.cols)∧v=r++m++x) t.rows hrl (fun r _=>?_) fun w hw=>hw
  refine Di.ex (n:=7) (b:=21) (q:=fun m v=>∃x:W,(x=[]∨x∈t.cols)∧v=r++m++x) ([]::(A6 al).map fun l=>[l]) (by have:=Vt al;simp;omega) (fun m _=>?_) fun w hw=>?_
  · exact Di.map (fun x=>r++m++x) ([]::t.cols) (by simp;omega) fun w ⟨x,hx,hw⟩=>⟨x,by simpa using hx,hw⟩
  · obtain ⟨m,hm,h3⟩:=hw
    refine ⟨m,?_,h3⟩
    rcases hm with rfl|⟨l,hl,rfl⟩
    · simp
    · exact List.mem_cons_of_mem _ (List.mem_map.2 ⟨l,hl,rfl⟩)
theorem Mg {L:W→Bool} {ls:List UInt8}:∀(n:Nat) (t:AZ),(CO L ls n t).length≤n+1
  | 0,t=>by simp [CO]
  | n + 1,t=>by
    unfold CO
    cases AV L ls t with
    | none=>simp
    | some w=>
      dsimp only
      split
      · simp
      · have:=Mg (L:=L) (ls:=ls) n ⟨t.rows++[w],t.cols⟩
        simp;omega
theorem Me {L:W→Bool} {al:Int} {b:Nat} {t:AZ} (h:Hc al b t):Di 24696 (fun v=>∃y∈CO L (A6 al) 13 t,N5 (A6 al) y v):=
  Di.ex (n:=14) (b:=1764) (q:=fun y v=>N5 (A6 al) y v) (CO L (A6 al) 13 t) (Mg 13 t) (fun y hy=>Rq (h.grow hy)) fun w hw=>hw
def okB (al:Int) (w:W):Prop:=AW (A6 al) w∧w.length≤50000
theorem OB (al:Int):O9 (okB al) al:=fun w h1 h2=>⟨h1,h2⟩
theorem QY {α:Type}:∀(l m:List α),l.Nodup→(∀x∈l,x∈m)→l.length≤m.length
  | [],_,_,_=>by simp
  | x :: l,m,hn,hs=>by
    obtain ⟨a,b,rfl⟩:=List.append_of_mem (hs x (by simp))
    rw [List.nodup_cons] at hn
    have h:=QY l (a++b) hn.2 fun y hy=>by
      have h1:=hs y (List.mem_cons_of_mem _ hy)
      simp only [List.mem_append,List.mem_cons] at h1 ⊢
      rcases h1 with h1|rfl|h1
      · exact .inl h1
      · exact absurd hy hn.1
      · exact .inr h1
    simp at h ⊢;omega
theorem Qn {t:B8} {n:Nat} {p:W→Prop} {al:Int} (h:Di n p) (hn:n≤20000000) (hb:∀w,p w→okB al w):Wg t p:=by
  obtain ⟨k,hk,hm⟩:=h
  intro l hnd hl
  have hsub:l ⊆ Cf t::(k.filter fun w=>w.length≤50000).flatMap fun w=>(List.range 50001).map fun i=>K2 t (Cf t) (w.take i):=fun F hF=>by
    rcases hl F hF with rfl|⟨u,v,ho,rfl⟩
    · simp
    · have h1:=(hb _ ho).2
      refine List.mem_cons_of_mem _ (List.mem_flatMap.2 ⟨u++v,List.mem_filter.2 ⟨hm _ ho,by simpa using h1⟩,List.mem_map.2 ⟨u.length,List.mem_range.2 (by simp at h1;omega),by simp⟩⟩)
  have h1:=QY _ _ hnd hsub
  have h2:=KD (fun w:W=>(List.range 50001).map fun i=>K2 t (Cf t) (w.take i)) 50001 (k.filter fun w=>w.length≤50000) (fun x _=>by simp)
  have h3:(k.filter fun w=>w.length≤50000).length≤n:=Nat.le_trans (List.length_filter_le _ _) hk
  rw [List.length_cons] at h1
  have h4:(k.filter fun w=>decide (w.length≤50000)).length*50001≤20000000*50001:=Nat.mul_le_mul_right _ (by omega)
  omega
theorem YC {al:Int} {w:W} (h:okB al w):Xk al w:=⟨h.1,Nat.le_trans h.2 (by omega)⟩
theorem ND {te:Da} {n:Nat} {p:W→Prop} (h:Di n p) (hn:n≤20000000) (hb:∀w,p w→okB (AF te) w):(∀w,p w→Xk (AF te) w)∧Lf te p:=by
  refine ⟨fun w hw=>YC (hb w hw),?_⟩
  obtain ⟨kn,a,s,q,al⟩:=te
  cases kn with
  | true=>intro h;cases h
  | false=>exact fun _=>Qn h hn hb
def SF (te:Da) (x:AZ) (v:W):Prop:=NW (AF te) x∧∃y∈CO (Cn te) (A6 (AF te)) 13 x,N5 (A6 (AF te)) y v
theorem Qg {te:Da} {x:AZ}:∀v,SF te x v→okB (AF te) v:=fun v ⟨h,y,hy,hv⟩=>h.bd.ao (OB _) (by omega) y hy v hv
theorem LW (te:Da) (x:AZ):Di 24696 (SF te x):=Di.if fun h=>Me h.bd
theorem JS (te:Da) (x:AZ):∃ok:W→Prop,(∀w,ok w→Xk (AF te) w)∧Lf te ok∧(NW (AF te) x→∀y∈CO (Cn te) (A6 (AF te)) 13 x,Gd ok (A6 (AF te)) y):=by
  obtain ⟨h1,h2⟩:=ND (te:=te) (LW te x) (by omega) Qg
  exact ⟨_,h1,h2,fun h y hy v hv=>⟨h,y,hy,hv⟩⟩
theorem UY (te:Da) (x:AZ) (w:W):∃ok:W→Prop,(∀w,ok w→Xk (AF te) w)∧Lf te ok∧(NW (AF te) x→∀y∈CO (Cn te) (A6 (AF te)) 13 x,Gd ok (A6 (AF te)) y)∧
    (NW (AF te) x→AW (A6 (AF te)) w∧w.length≤4000→∀c∈x.cols,ok (w++c)):=by
  obtain ⟨h1,h2⟩:=ND (te:=te) (p:=fun v=>SF te x v∨(NW (AF te) x∧AW (A6 (AF te)) w∧w.length≤4000)∧∃c∈x.cols,v=w++c)
    ((LW te x).or (b:=20) (Di.if fun h=>Di.map (fun c=>w++c) x.cols h.1.cl fun v hv=>hv)) (by omega) (fun v hv=>by
      rcases hv with hv|⟨⟨h,hw⟩,c,hc,rfl⟩
      · exact Qg v hv
      · have h3:=h.cw c hc
        refine ⟨fun d hd=>?_,by simp;omega⟩
        rcases List.mem_append.1 hd with hd|hd
        · exact hw.1 d hd
        · exact h3.2 d hd)
  exact ⟨_,h1,h2,fun h y hy v hv=>.inl ⟨h,y,hy,hv⟩,fun h hw c hc=>.inr ⟨⟨h,hw⟩,c,hc,rfl⟩⟩
theorem UX (te:Da):∃ok:W→Prop,(∀w,ok w→Xk (AF te) w)∧Lf te ok∧∀y∈CO (Cn te) (A6 (AF te)) 13 CX,Gd ok (A6 (AF te)) y:=by
  obtain ⟨h1,h2⟩:=ND (te:=te) (Me (L:=Cn te) (Jh (AF te))) (by omega) (fun v ⟨y,hy,hv⟩=>(Jh _).ao (OB _) (by omega) y hy v hv)
  exact ⟨_,h1,h2,fun y hy v hv=>⟨y,hy,hv⟩⟩
end Go.Am
namespace Go.Am
open Go Go.Proofs
set_option maxHeartbeats 1000000
attribute [local irreducible] AU B3 Lex Br Ai Spec
variable {TB:Bc}
theorem N7 {A:W→Bool} {ls:List UInt8} {m:Nat} {u:AZ} {w:W} {R:Option AZ} (he:R=A3 A ls (m+1) u) (ho:AV A ls u=some w) (hl:u.rows.length < 12):R=A3 A ls m ⟨u.rows++[w],u.cols⟩:=by
  rw [he]
  conv=>lhs;unfold A3
  rw [ho]
  dsimp only
  rw [if_neg (by omega)]
theorem Kl {t:Da} {al:Int} {A:W→Bool} (hT:Hn Tryz.prog TB 60 101 t al A) (tab:AZ) (hz:NJ tab) :
    Pure Tryz.prog TB 69 [BR t,BX tab] (Gj (if AG A al tab then A3 A (A6 al) 13 tab else none)):=by
  have h1:=C7 hT tab hz
  by_cases hv:AG A al tab=true
  · rw [if_pos hv]
    rw [hv] at h1
    have hsh:NW al tab:=(Bu hv).1
    have hr1:=hsh.r1
    have hc1:=hsh.c1
    have hrl:=hsh.rl
    have hcl:=hsh.cl
    refine eG Tryz.func69 rfl (by kernel_rfl) rfl ?_;intro Γ hΓ
    (repeat first|refine tA rfl ?_ |refine s2 rfl fun _ _hb=>?_ |refine sP rfl (h1) rfl ?_ |refine aU rfl ?_ |refine Aa ?_)
    ((refine aC rfl ?_ ?_<;>rintro ⟨⟩);all_goals try (simp at _hb;done))
    refine aK ?_
    (repeat first|refine aU rfl ?_)
    refine R.RQ [(0,2),(1,2),(2,2),(4,2),(5,2),(6,2),(9,3),(3,1),(7,1),(8,2),(10,5)] mixed (by kernel_rfl) rfl (by kernel_rfl) ?_
    (repeat ((refine R.Ag rfl ?_;first|(refine R.yQ (md:=false) rfl rfl rfl ?_ ?_;exact tI) |refine R.yP rfl rfl rfl rfl ?_|refine R.CU (fun _ _ _=>DF (by rfl) (by rfl)) rfl rfl ?_ )))
    (refine R.Ag rfl ?_;refine R.He (fun _=>?_) rfl rfl;refine Ce rfl rfl rfl (by intro r hr;simp at hr;obtain ⟨_,_,rfl⟩:=hr;rfl) (by rfl) (Nat.le_of_ble_eq_true rfl) (by simp;omega) (fun h=>?_) (fun _=>?_))
    · exfalso;simp at h;rw [h] at hr1;simp at hr1
    (refine R.Ag rfl ?_;refine R.He (fun _=>?_) rfl rfl;refine Ce rfl rfl rfl (by intro r hr;simp at hr;obtain ⟨_,_,rfl⟩:=hr;rfl) (by rfl) (Nat.le_of_ble_eq_true rfl) (by simp;omega) (fun h=>?_) (fun _=>?_))
    · exfalso;simp at h;rw [h] at hc1;simp at hc1
    (repeat ((refine R.Ag rfl ?_;first|refine R.yA rfl rfl rfl rfl ?_|refine R.CU (fun _ _ _=>Au rfl rfl (by rfl) (by rfl)) rfl rfl ?_ )))
    refine R.LB ?_
    refine aS ?_
    refine Ai.Ak [2] [] rfl rfl [(4,.o (.ptr 0 2 0 0)),(6,.o (.ptr 3 2 0 0))] [(0,.cells 36 2 [[.d (.l []),.d (.l [])]]),(1,.cells 9 1 (tab.rows.map AH)),(2,.cells 9 1 (tab.cols.map AH)),(3,.cells 36 2 [[.arr 1 1 0 tab.rows.length,.arr 2 1 0 tab.cols.length]])] [0,1,2,3] (rl hΓ rfl) (by (simp[cX,zC,hΓ])) ?_;(try dsimp only[cA,cB])
    have hfo0:=Hx hT tab hz
    have htk:∀l:List W,((l.map AH).drop 0).take l.length=(l.map BI).map (fun r=>r.map C.d):=fun l=>by rw [List.drop_zero,List.take_of_length_le (by simp)];simp [Function.comp_def]
    have hev:∀u:AZ,Wu [(0,.cells 36 2 [[.d (.l []),.d (.l [])]]),(1,.cells 9 1 (u.rows.map AH)),(2,.cells 9 1 (u.cols.map AH)),(3,.cells 36 2 [[.arr 1 1 0 u.rows.length,.arr 2 1 0 u.cols.length]])] [BR t,.a [.arr 1 1 0 u.rows.length,.arr 2 1 0 u.cols.length]] [BR t,BX u]:=fun u=>
      .cons (.cons (.pure rfl) (.cons (.pure rfl) (.cons (.pure rfl) (.cons (.pure rfl) (.cons (.pure rfl) (.cons (.pure rfl) (.cons (.pure rfl) (.cons (.pure rfl) (.cons (.pure rfl) (.cons (.pure rfl) (.cons (.pure rfl) .nil))))))))))) (.cons (.cons (.arr rfl (by simp) (htk _)) (.cons (.arr rfl (by simp) (htk _)) .nil)) .nil)
    have hop:∀x:AZ,Rp (AV A (A6 al) x)=.t [(false,[.d (tD ((AV A (A6 al) x).getD []))]),(false,[.d (bD (AV A (A6 al) x).isSome)])]:=fun x=>by cases AV A (A6 al) x<;>rfl
    rw [hop] at hfo0
    (repeat first|refine tA rfl ?_|(refine Ag rfl ?_;refine gA rfl ?_;first| refine gQ (Io rfl rfl ((hev tab)) (hfo0) rfl) rfl ?_) |refine aU rfl ?_ |refine Aa ?_)
    obtain ⟨R,hR⟩:∃R,R=A3 A (A6 al) 13 tab:=⟨_,rfl⟩
    rw [←hR]
    refine aB ?_
    refine aL (α:={p:Nat×AZ // p.1≤13∧13≤p.1+p.2.rows.length∧p.2.rows.length≤12∧p.2.cols.length≤20∧(∀w∈p.2.rows,w.length≤50000+p.2.rows.length)∧(∀w∈p.2.cols,w.length≤4000)∧R=A3 A (A6 al) p.1 p.2}) [2,4,6] [0] rfl rfl (fun ⟨⟨m,u⟩,hm,hmu,hur,huc,hurb,hucb,he⟩=>[(7,eT ((AV A (A6 al) u).getD [])),(8,eB (AV A (A6 al) u).isSome)]) (fun ⟨⟨m,u⟩,hm,hmu,hur,huc,hurb,hucb,he⟩=>[(1,.cells 9 1 (u.rows.map AH)),(2,.cells 9 1 (u.cols.map AH)),(3,.cells 36 2 [[.arr 1 1 0 u.rows.length,.arr 2 1 0 u.cols.length]])]) 4 (fun ⟨⟨m,u⟩,hm,hmu,hur,huc,hurb,hucb,he⟩=>m) (⟨(13,tab),by simp,by simp,hrl,hcl,fun w hw=>by have:=(hsh.rw w hw).1;show w.length≤50000+tab.rows.length;omega,fun w hw=>(hsh.cw w hw).1,hR⟩) hΓ rfl (by (simp[cX,zC,hΓ])) ?_;rintro ⟨⟨m,u⟩,hm,hmu,hur,huc,hurb,hucb,he⟩;(try dsimp only[cA,cB])
    dsimp only at hm hmu hur huc hurb hucb he
    have hz0:AV A (A6 al) u=none∨∃w,AV A (A6 al) u=some w:=by cases AV A (A6 al) u<;>simp
    rcases hz0 with ho|⟨w,ho⟩
    · rw [ho]
      have hn:R=some u:=by
        rw [he]
        obtain ⟨m',rfl⟩:∃m',m=m'+1:=⟨m - 1,by omega⟩
        simp [A3,ho]
      (repeat first|refine tA rfl ?_ |refine aU rfl ?_ |refine Aa ?_)
      ((refine aC rfl ?_ ?_<;>rintro ⟨⟩);all_goals try (simp at _hb;done))
      refine aE ?_
      (repeat first|refine tA rfl ?_ |refine aU rfl ?_ |refine Aa ?_)
      refine Ai.settle [(4,.o (.ip [AQ u.rows,AQ u.cols])),(5,eB true)] ⟨⟨_,rfl,.o (.box rfl (.cons (.full rfl (by simp [Function.comp_def]) (by simp)) (.cons (.full rfl (by simp [Function.comp_def]) (by simp)) .nil)))⟩,⟨_,rfl,.o .d⟩,trivial⟩ ?_
      refine aR ⟨_,rfl,?_⟩
      rw [hn];rfl
    · rw [ho]
      obtain ⟨m',rfl⟩:∃m',m=m'+1:=⟨m - 1,by omega⟩
      obtain ⟨⟨r,hr,l,hl,hw⟩,_⟩:=FG ho
      have hwl:w.length≤50000+(u.rows++[w]).length:=by
        have:=hurb r hr
        rw [hw];simp;omega
      (repeat first|refine tA rfl ?_ |refine aU rfl ?_ |refine Aa ?_)
      ((refine aC rfl ?_ ?_<;>rintro ⟨⟩);all_goals try (simp at _hb;done))
      refine aK ?_
      refine aB ?_
      (repeat first|refine tA rfl ?_ |refine s2 rfl fun _ _hb=>?_ |refine aU rfl ?_ |refine Aa ?_)
      (refine aC rfl ?_ ?_<;>rintro ⟨⟩)
      · have h12:u.rows.length=12:=by (simp only[oZ] at *;omega)
        have hn:R=none:=by
          rw [he]
          simp [A3,ho,h12]
        (repeat first|refine tA rfl ?_|(refine Ag rfl ?_;refine gA rfl ?_;first| refine gS (fun _ _=>Au rfl rfl (by rfl) (by rfl)) ?_) |refine aU rfl ?_ |refine Aa ?_)
        refine Ai.settle [(4,.o (.ip [.l [],.l []])),(5,eB false)] ⟨⟨_,rfl,.o (.box rfl (.cons .d (.cons .d .nil)))⟩,⟨_,rfl,.o .d⟩,trivial⟩ ?_
        refine aR ⟨_,rfl,?_⟩
        rw [hn];rfl
      · have hlt:u.rows.length < 12:=by (simp only[oZ] at *;omega)
        have hst:=N7 he ho hlt
        have hzu:NJ ⟨u.rows++[w],u.cols⟩:=⟨by simp;omega,by dsimp only;omega,fun x hx=>by
          rcases List.mem_append.1 hx with hx|hx
          · have:=hurb x hx;omega
          · simp at hx;subst hx;simp at hwl;omega,fun x hx=>by have:=hucb x hx;omega⟩
        have hfo:=Hx hT ⟨u.rows++[w],u.cols⟩ hzu
        rw [hop] at hfo
        refine aK ?_
        (repeat first|refine tA rfl ?_ |refine aU rfl ?_)
        (refine pW rfl ?_ rfl (by rfl);refine Av rfl rfl rfl (by first| (simp;done)|(simp;(omega))) rfl (by intro r hr;simp at hr;subst hr;rfl) (by rfl) (Nat.le_of_ble_eq_true rfl) (by simp;omega) ?_)
        (repeat first|refine tA rfl ?_)
        refine Aa ?_
        have hn1:∀x∈u.rows++[w],x.length≤50000+(u.rows++[w]).length:=fun x hx=>by
          rcases List.mem_append.1 hx with hx|hx
          · have:=hurb x hx;simp;omega
          · simp at hx;subst hx;exact hwl
        refine Ai.Ak [2,4,6] [] rfl rfl [] [(0,.cells 36 2 [[.d (.l []),.d (.l [])]]),(1,.cells 9 1 ((u.rows++[w]).map AH)),(2,.cells 9 1 (u.cols.map AH)),(3,.cells 36 2 [[.arr 1 1 0 (u.rows++[w]).length,.arr 2 1 0 u.cols.length]])] [0,4,2,3] (rl hΓ rfl) (by (simp[cX,zC,hΓ])) ?_;(try dsimp only[cA,cB])
        (repeat first|refine tA rfl ?_|(refine Ag rfl ?_;refine gA rfl ?_;first| refine gQ (Io rfl rfl ((hev ⟨u.rows++[w],u.cols⟩)) (hfo) rfl) rfl ?_) |refine aU rfl ?_ |refine Aa ?_)
        refine ⟨⟨⟨m',⟨u.rows++[w],u.cols⟩⟩,by dsimp only;omega,by simp;omega,by simp;omega,huc,hn1,hucb,hst⟩,by dsimp only;(omega),[0,1,2,3],?_⟩
        simp[cX,zC,hΓ]
  · have hv:AG A al tab=false:=by simpa using hv
    rw [if_neg (by simp [hv])]
    rw [hv] at h1
    refine eG Tryz.func69 rfl (by kernel_rfl) rfl ?_;intro Γ hΓ
    (repeat first|refine tA rfl ?_ |refine s2 rfl fun _ _hb=>?_ |refine sP rfl (h1) rfl ?_ |refine aU rfl ?_ |refine Aa ?_)
    ((refine aC rfl ?_ ?_<;>rintro ⟨⟩);all_goals try (simp at _hb;done))
    (repeat first|refine tA rfl ?_|(refine Ag rfl ?_;refine gA rfl ?_;first| refine gS (fun _ _=>Au rfl rfl (by rfl) (by rfl)) ?_) |refine aU rfl ?_ |refine Aa ?_)
    refine Ai.settle [(4,.o (.ip [.l [],.l []])),(5,eB false)] ⟨⟨_,rfl,.o (.box rfl (.cons .d (.cons .d .nil)))⟩,⟨_,rfl,.o .d⟩,trivial⟩ ?_
    refine aR ⟨_,rfl,rfl⟩
def Wj (o:Option Ci):E:=match o with
  | some p=>.t [(true,[.d (iD p.al),.d (DA p.nx),.d (FT p.ac)]),(false,[.d (bD true)])]
  | none=>.t [(true,[.d (iD 0),.d (.l []),.d (.l [])]),(false,[.d (bD false)])]
theorem Ra {t:Da} {al:Int} {A:W→Bool} (hT:Hn Tryz.prog TB 60 101 t al A) (tab:AZ) (hz:NJ tab) :
    Pure Tryz.prog TB 40 [BR t,BX tab] (Wj (if Cw A al tab then some (Bd A al tab) else none)):=by
  have h1:=Ld hT tab hz
  by_cases hv:Cw A al tab=true
  · rw [if_pos hv]
    rw [hv] at h1
    obtain ⟨hv1,ho,hcl⟩:=Rn hv
    have hsh:=(Bu hv1).1
    have hr1:=hsh.r1
    have hrl:=hsh.rl
    have hcl:=hsh.cl
    have h2:=hT.alph
    have h3:=BZ (TB:=TB) al
    have h4:Pure Tryz.prog TB 61 [BR t,Bk tab.cols,Bk tab.rows] (Bk (AA A tab)):=Hy hT tab.cols tab.rows hz.cl (fun w hw=>by have:=hz.rb w hw;omega) hz.cb hz.rl
    have hla:(Af al).length≤6:=AM al 6
    have hml:(AA A tab).length=tab.rows.length:=by simp [AA]
    refine eG Tryz.func40 rfl (by kernel_rfl) rfl ?_;intro Γ hΓ
    (repeat first|refine tA rfl ?_ |refine s2 rfl fun _ _hb=>?_ |refine sP rfl (h1) rfl ?_ |refine aU rfl ?_ |refine Aa ?_)
    ((refine aC rfl ?_ ?_<;>rintro ⟨⟩);all_goals try (simp at _hb;done))
    refine aK ?_
    (repeat first|refine tX rfl ?_ |refine sP rfl (h2) rfl ?_ |refine aU rfl ?_)
    (refine pW rfl ?_ rfl (by rfl);refine GR 1 1 90 2 1 4 rfl rfl (by decide) rfl rfl (by rfl) (by rfl) ?_)
    (repeat first|refine tX rfl ?_ |refine sP rfl (h3) rfl ?_|refine sP rfl (h4) rfl ?_ |refine aU rfl ?_ |refine Aa ?_)
    refine aB ?_
    refine aL (α:={k:Nat // k≤tab.rows.length}) [2,3,4,6,7,8] [0] rfl rfl (fun ⟨k,hk⟩=>[(9,eI .i64 k)]) (fun ⟨k,hk⟩=>[(1,.cells 90 1 (((Bd A al tab).nx.take k).map fun r=>[.d (E9 r)])),(2,.cells 4 1 (((Bd A al tab).ac.take k).map fun b=>[.d (bD b)])),(3,.cells 26 3 [[.d (iD al),.arr 1 1 0 k,.arr 2 1 0 k]])]) 4 (fun ⟨k,hk⟩=>tab.rows.length - k) (⟨0,by omega⟩) hΓ rfl (by (simp[cX,zC,hΓ])) ?_;rintro ⟨k,hk⟩;(try dsimp only[cA,cB])
    have hnl:(Bd A al tab).nx.length=tab.rows.length:=by simp [Bd]
    have hac:(Bd A al tab).ac.length=tab.rows.length:=by simp [Bd]
    by_cases hlt:k < tab.rows.length
    · obtain ⟨r,hx⟩:=get_some hlt
      have hx':=get_map (g:=BI) hx
      have hxm:=List.mem_of_getElem? hx
      have hrb:=hz.rb r hxm
      have hm:(AA A tab)[k]? = some (marks A tab.cols r):=by simp [AA,hx]
      have hm':=get_map (g:=BI) hm
      have hm0:(marks A tab.cols r)[(0:Int).toNat]? = some (PB (A r)):=by
        have:=hsh.c0
        simp [marks,this]
      (repeat first|refine sN rfl ?_ |refine tX rfl ?_ |refine s2 rfl fun _ _hb=>?_ |refine aU rfl ?_ |refine Aa ?_)
      refine Ai.cond rfl (fun hb=>?_) (fun hb=>?_)<;>cases hb
      rotate_left
      · exfalso;(simp only[oZ] at *;omega)
      refine aK ?_
      refine aS (aB ?_)
      (repeat first|refine aU rfl ?_)
      (refine pW rfl ?_ rfl (by rfl);refine Bg rfl rfl rfl rfl (by simp) (by rfl) (by rfl) (by rfl) (by rfl) ?_)
      (repeat first|refine tX rfl ?_ |refine aU rfl ?_ |refine Aa ?_)
      refine aB ?_
      refine aL (α:={j:Nat // j≤(Af al).length}) [2,3,4,6,7,8,9] [0,1,2,3] rfl rfl (fun ⟨j,hj⟩=>[(10,.o (.arr 4 1 0 j)),(11,eI .i64 j)]) (fun ⟨j,hj⟩=>[(4,.cells 3 1 (((Af al).take j).map fun l=>[.d (iD ((Em A tab (r++[lb l]):Nat):Int))]))]) 5 (fun ⟨j,hj⟩=>(Af al).length - j) (⟨0,by omega⟩) hΓ rfl (by (simp[cX,zC,hΓ])) ?_;rintro ⟨j,hj⟩;(try dsimp only[cA,cB])
      by_cases hjlt:j < (Af al).length
      · obtain ⟨l,hl⟩:=get_some hjlt
        have hl':=get_map (g:=Db) hl
        have hlm:=List.mem_of_getElem? hl
        have hlb:=Bj hlm
        have htx:Pure Tryz.prog TB 90 [eI .i64 l] (eT [lb l]):=Fe l hlb.1 (by omega)
        have hrow:=IT hT tab.cols (r++[lb l]) hz.cl (by simp;omega) hz.cb
        have hmm:marks A tab.cols (r++[lb l])∈AA A tab:=KO ho r hxm (lb l) (JX hlm)
        have hix:Pure Tryz.prog TB 89 [Bk (AA A tab),eT (marks A tab.cols (r++[lb l]))] (eI .i64 (Em A tab (r++[lb l]):Nat)):=Ok (AA A tab) _ hmm (by omega)
        (repeat first|refine sN rfl ?_ |refine tX rfl ?_ |refine s2 rfl fun _ _hb=>?_ |refine aU rfl ?_ |refine Aa ?_)
        refine Ai.cond rfl (fun hb=>?_) (fun hb=>?_)<;>cases hb
        rotate_left
        · exfalso;(simp only[oZ] at *;omega)
        refine aK ?_
        refine aS (aB ?_)
        refine rG (Jr [19]) (by kernel_rfl) ?_
        (repeat first|(refine sA rfl ?_ ?_;first|exact tI|simp only[oZ] at *;omega) |(refine s4 rfl ‹_› rfl ?_ ?_;omega) |refine sP rfl (htx) rfl ?_|refine sP rfl (hrow) rfl ?_|refine sP rfl (hix) rfl ?_)
        (refine pW rfl ?_ rfl (by rfl);refine Av rfl rfl rfl (by first| (simp;done)|(simp;(omega))) rfl (by intro r hr;simp at hr;subst hr;rfl) (by rfl) (Nat.le_of_ble_eq_true rfl) (by simp;omega) ?_)
        (repeat first|(refine sA rfl ?_ ?_;first|exact tI|omega) |refine aU rfl ?_ |refine Aa ?_)
        refine ⟨⟨j+1,by omega⟩,by dsimp only;(omega),[0,1,2,3,5],?_⟩
        (simp[cX,zC,hΓ,List.take_add_one,hl])
      · obtain rfl:j=(Af al).length:=by omega
        have hnx:(Bd A al tab).nx.take (k+1)=(Bd A al tab).nx.take k++[(Af al).map fun l=>((Em A tab (r++[lb l]):Nat):Int)]:=by
          rw [List.take_add_one];simp [Bd,hx]
        have hacs:(Bd A al tab).ac.take (k+1)=(Bd A al tab).ac.take k++[A r]:=by
          rw [List.take_add_one];simp [Bd,hx]
        rw [List.take_length]
        (repeat first|refine sN rfl ?_ |refine tX rfl ?_ |refine s2 rfl fun _ _hb=>?_ |refine aU rfl ?_ |refine Aa ?_)
        refine Ai.cond rfl (fun hb=>?_) (fun hb=>?_)<;>cases hb
        · exfalso;(simp only[oZ] at *;omega)
        refine aE ?_
        refine Ai.MU [4] [2,3,4,6,7,8,9] rfl [(10,A7 ((Af al).map fun l=>((Em A tab (r++[lb l]):Nat):Int)))] ⟨⟨_,rfl,.o (.full (by simp) rfl (by simp [Function.comp_def]) (by simp))⟩,trivial⟩ ?_;(try dsimp only[cA,cB])
        (repeat first|refine tA rfl ?_ |refine aU rfl ?_)
        (refine pW rfl ?_ rfl (by rfl);refine Av rfl rfl rfl (by first| (simp;done)|(simp;(omega))) rfl (by intro r hr;simp at hr;subst hr;rfl) (by rfl) (Nat.le_of_ble_eq_true rfl) (by simp;omega) ?_)
        (repeat first|refine tA rfl ?_ |refine Aa ?_)
        refine rG (Jr [9,11]) (by kernel_rfl) ?_
        (repeat first|refine tA rfl ?_ |(refine s4 rfl ‹_› rfl ?_ ?_;omega) |refine s2 rfl fun _ _hb=>?_)
        rename_i b
        have hbb:b=A r:=by
          cases hA:A r<;>cases b<;>simp [hA,PB] at _hb<;>rfl
        subst hbb
        (refine pW rfl ?_ rfl (by rfl);refine Av rfl rfl rfl (by first| (simp;done)|(simp;(omega))) rfl (by intro r hr;simp at hr;subst hr;rfl) (by rfl) (Nat.le_of_ble_eq_true rfl) (by simp;omega) ?_)
        (repeat first|(refine sA rfl ?_ ?_;first|exact tI|omega) |refine aU rfl ?_ |refine Aa ?_)
        refine ⟨⟨k+1,by omega⟩,by dsimp only;(omega),[0,5,6,3],?_⟩
        (simp[cX,zC,hΓ,hnx,hacs])
    · obtain rfl:k=tab.rows.length:=by omega
      have ht1:(Bd A al tab).nx.take tab.rows.length=(Bd A al tab).nx:=List.take_of_length_le (by simp [Bd])
      have ht2:(Bd A al tab).ac.take tab.rows.length=(Bd A al tab).ac:=List.take_of_length_le (by simp [Bd])
      rw [ht1,ht2]
      (repeat first|refine sN rfl ?_ |refine tX rfl ?_ |refine s2 rfl fun _ _hb=>?_ |refine aU rfl ?_ |refine Aa ?_)
      refine Ai.cond rfl (fun hb=>?_) (fun hb=>?_)<;>cases hb
      · exfalso;(simp only[oZ] at *;omega)
      refine aE ?_
      (repeat first|refine tX rfl ?_ |refine aU rfl ?_ |refine Aa ?_)
      refine Ai.settle [(4,.o (.ip [iD al,DA (Bd A al tab).nx,FT (Bd A al tab).ac])),(5,eB true)] ⟨⟨_,rfl,.o (.box rfl (.cons .d (.cons (.full rfl (by simp [Function.comp_def]) (by simp [Bd])) (.cons (.full rfl (by simp [Function.comp_def]) (by simp [Bd])) .nil))))⟩,⟨_,rfl,.o .d⟩,trivial⟩ ?_
      refine aR ⟨_,rfl,rfl⟩
  · have hv:Cw A al tab=false:=by simpa using hv
    rw [if_neg (by simp [hv])]
    rw [hv] at h1
    refine eG Tryz.func40 rfl (by kernel_rfl) rfl ?_;intro Γ hΓ
    (repeat first|refine tA rfl ?_ |refine s2 rfl fun _ _hb=>?_ |refine sP rfl (h1) rfl ?_ |refine aU rfl ?_ |refine Aa ?_)
    ((refine aC rfl ?_ ?_<;>rintro ⟨⟩);all_goals try (simp at _hb;done))
    (repeat first|refine tA rfl ?_|(refine Ag rfl ?_;refine gA rfl ?_;first| refine gS (fun _ _=>Au rfl rfl (by rfl) (by rfl)) ?_) |refine aU rfl ?_ |refine Aa ?_)
    refine Ai.settle [(4,.o (.ip [iD 0,.l [],.l []])),(5,eB false)] ⟨⟨_,rfl,.o (.box rfl (.cons .d (.cons .d (.cons .d .nil))))⟩,⟨_,rfl,.o .d⟩,trivial⟩ ?_
    refine aR ⟨_,rfl,rfl⟩
theorem Km {c:C} {L:W→Bool} {ok:W→Prop} (hc:ET Tryz.prog TB c L ok) (al:Int) (t:AZ) (ht:P5 ok t) (hn:∀w∈t.rows,∀l∈A6 al,∀x∈t.cols,ok (w++[l]++x)) :
    Pure Tryz.prog TB 71 [JI al c,BX t] (eB (AV L (A6 al) t).isNone):=by
  have hr:=Cb c hc.A1
  have hfo:=Fy hc al t ht hn
  have hz:AV L (A6 al) t=none∨∃w,AV L (A6 al) t=some w:=by cases AV L (A6 al) t<;>simp
  rcases hz with h|⟨w,h⟩<;>rw [h] at hfo ⊢ <;> (
    refine eG Tryz.func71 rfl (by kernel_rfl) rfl ?_;intro Γ hΓ
    (repeat first|refine aU rfl ?_)
    (refine pW rfl ?_ rfl (by rfl);refine Es rfl rfl ?_)
    (refine Ag rfl ?_;refine CU (fun _ _=>DD rfl rfl rfl) rfl ?_)
    (repeat first|refine tA rfl ?_ |refine s2 rfl fun _ _hb=>?_|(refine Ag rfl ?_;refine gA rfl ?_;first| refine gS (fun _ _=>AT rfl rfl (by simp [E.A1,C.Bw,C.A1,hc.A1,eC]) hfo rfl) ?_) |refine aU rfl ?_ |refine Aa ?_)
    (repeat' first| (refine aC rfl ?_ ?_<;>rintro ⟨⟩));all_goals try contradiction
    (subst_vars;exact aR ⟨_,rfl,rfl⟩))
theorem EN (L:W→Bool) (al:Int) (t:AZ):Cw L al t=(AG L al t && (AV L (A6 al) t).isNone):=rfl
theorem CL {tabs:List (Nat×Obj)} [hT:DZ ⟨tabs,none⟩] {te:Da} {ok:W→Prop} (hok:CP te=true) (hsub:∀w,ok w→Xk (AF te) w) (hf:Lf te ok) :
    (∃c,Pure Tryz.prog ⟨tabs,none⟩ 57 [BR te] (.t [(true,[.d (iD (AF te)),c]),(false,[.d (bD true)])])∧ET Tryz.prog ⟨tabs,none⟩ c (Cn te) ok∧c.A1=true)∨
    (∃ (t:B8) (m:EM),Jm t ok m∧AN Tryz.prog ⟨tabs,none⟩ 57 0 [] 0 [BR te] (fun x σ nx=>x=.t [(true,[.d (iD (AF te)),DN (.ptr 0 14 0 0)]),(false,[.d (bD true)])]∧σ=JL t m∧nx=5)∧
      ∀r,ET Tryz.prog ⟨tabs,some (GB t ok,r)⟩ (DN (Fk r)) (Cn te) ok∧DZ ⟨tabs,some (GB t ok,r)⟩):=by
  obtain ⟨kn,p,s,q,al⟩:=te
  cases kn with
  | true=>
    have hp:Bh p=true:=hok
    exact .inl ⟨_,LG hp s q al,(WH hp s q al true).sub hsub,rfl⟩
  | false=>
    have ht:AR ⟨s,q,al⟩=true:=hok
    have hfew:Wg ⟨s,q,al⟩ ok:=hf rfl
    obtain ⟨m,hm,hno⟩:=LJ (TB:=⟨tabs,none⟩) p ht ok
    exact .inr ⟨⟨s,q,al⟩,m,hm,hno,fun r=>⟨Zz ht hsub hfew,XB hT⟩⟩
theorem Ed {te:Da} (hok:CP te=false):Pure Tryz.prog TB 57 [BR te] (.t [(true,[.d (iD 0),.d (.v .nilFunc)]),(false,[.d (bD false)])]):=by
  obtain ⟨kn,p,s,q,al⟩:=te
  cases kn with
  | true=>exact LF hok s q al
  | false=>exact LI p hok
theorem Fq {te:Da} (hok:CP te=true):Bn (AF te)=true:=by
  obtain ⟨kn,p,s,q,al⟩:=te
  cases kn with
  | true=>exact (AX hok).1
  | false=>
    have ht:AR ⟨s,q,al⟩=true:=hok
    unfold AR at ht;simp only [Bool.and_eq_true] at ht;exact ht.2.2
theorem LY {L:W→Bool} {ok:W→Prop} {X:Bc→Ctx→C→Prop} {Y:Prop} (h:∀(TB1:Bc) (Γ1:Ctx) (c1:C),Γ1.V.nx=0→DZ TB1→ET Tryz.prog TB1 c1 L ok→X TB1 Γ1 c1)
    (hk:(∀(TB1:Bc) (Γ1:Ctx) (c1:C),Γ1.V.nx=0→DZ TB1→ET Tryz.prog TB1 c1 L ok→X TB1 Γ1 c1)→Y):Y:=hk h
theorem Qq {tabs:List (Nat×Obj)} [hTb:DZ ⟨tabs,none⟩] {te:Da} (x:AZ) (hz:NJ x):Pure Tryz.prog ⟨tabs,none⟩ 17 [BR te,BX x] (eB (CP te && AG (Cn te) (AF te) x)):=by
  by_cases hok:CP te=true
  · obtain ⟨ok,hsub,hf,hgr⟩:=JS te x
    rw [hok,Bool.true_and]
    refine eG Tryz.func17 rfl (by kernel_rfl) rfl ?_;intro Γ hΓ
    apply LY (L:=Cn te) (ok:=ok);case hk=>(intro hk;rcases CL (tabs:=tabs) hok hsub hf with ⟨c,hno,hV,hcp⟩|⟨t,m,hm,hno,hV⟩;(focus (have hcr:=Cb c hcp;(repeat first|refine tA rfl ?_ |refine aU rfl ?_ |refine Aa ?_);(repeat first|refine tA rfl ?_|(refine Ag rfl ?_;refine gA rfl ?_;first| refine gS (fun _ _=>AT rfl rfl rfl hno (by simp [E.A1,C.Bw,C.A1,hcp])) ?_));refine Aa ?_;refine Ai.Ak [3,6] [] rfl rfl [(5,.o (.ptr 0 2 0 0))] [(0,.cells 71 2 [[.d (iD (AF te)),c]])] [0] (rl hΓ rfl) (by (simp[cX,zC,hΓ,hcr,hcp])) ?_;(try dsimp only[cA,cB]);obtain ⟨TB0,hTB0⟩:∃T,T=(⟨tabs,none⟩:Bc):=⟨_,rfl⟩;obtain ⟨Γ0,hΓ0⟩:∃T,T=Γ:=⟨_,rfl⟩;rw [←hTB0] at hV hTb ⊢;rw [←hΓ0] at hΓ ⊢;exact hk TB0 Γ0 c hΓ hTb hV));((repeat first|refine tA rfl ?_ |refine aU rfl ?_ |refine Aa ?_);(refine pW rfl ?_ rfl (by rfl);refine A8 [] rfl rfl 0 (hno) (by decide) ⟨rfl,by decide,by decide⟩ rfl (by simp[cX,zC,hΓ,AE]) ?_;rintro x0 σ1 nx1 ⟨rfl,rfl,rfl⟩ _);(repeat first|refine tA rfl ?_);refine Aa ?_;refine Ai.Rw (GB t ok) ⟨m,hm⟩ 0 [1,2,3,4] (fun r=>[(3,.o (.ip [AQ x.rows,AQ x.cols])),(6,eB true),(5,.o (.ptr 5 2 0 0))]) (fun r=>[(5,.cells 71 2 [[.d (iD (AF te)),DN (Fk r)]])]) (by decide) rfl (by ((repeat' first|exact tI|rfl|refine And.intro ?_ ?_)<;>(simp[cX,zC,hΓ,AE]<;>rfl))) ⟨_,_,_,_,rfl⟩ (fun r=>by repeat' first|exact tI|refine And.intro ⟨_,rfl,.A0⟩ ?_) (fun r=>by repeat' first|exact tI|refine And.intro ⟨by decide,.inl rfl⟩ ?_|refine And.intro ⟨by decide,.inr ⟨_,_,_,_,rfl,rfl,.cons .A0 (.cons .mv .nil)⟩⟩ ?_) fun r Γ' hΓ'=>?_;have hΓ:Γ'.V.nx=0:=(by rw [hΓ'];exact hΓ);refine Ai.Ak [3,6] [] rfl rfl [(5,.o (.ptr 0 2 0 0))] [(0,.cells 71 2 [[.d (iD (AF te)),DN (Fk r)]])] [5] (rl hΓ rfl) (by (simp[cX,zC,hΓ])) ?_;(try dsimp only[cA,cB]);exact hk _ Γ' _ hΓ (hV r).2 (hV r).1))
    case h=>
      intro TB1 Γ1 c1 hΓ hTb1 hV
      have htv:=CG hV (AF te) (Fq hok) x (fun h=>hgr h x B6) hz
      (repeat first|refine tA rfl ?_|(refine Ag rfl ?_;refine gA rfl ?_;first| refine gS (fun _ _=>AT rfl rfl (by simp [E.A1,C.A1,C.Bw,hV.A1]) (htv) rfl) ?_) |refine aU rfl ?_ |refine Aa ?_)
      (subst_vars;exact aR ⟨_,rfl,rfl⟩)
  · rw [Bool.not_eq_true] at hok
    have hno:=Ed (TB:=({ tabs:=tabs,hid:=none }:Bc)) hok
    rw [hok,Bool.false_and]
    refine eG Tryz.func17 rfl (by kernel_rfl) rfl ?_;intro Γ hΓ
    (repeat first|refine tA rfl ?_ |refine sP rfl (hno) rfl ?_ |refine aU rfl ?_ |refine Aa ?_)
    (subst_vars;exact aR ⟨_,rfl,rfl⟩)
theorem Pl {tabs:List (Nat×Obj)} [hTb:DZ ⟨tabs,none⟩] {te:Da} (x:AZ) (hz:NJ x):Pure Tryz.prog ⟨tabs,none⟩ 42 [BR te,BX x] (eB (CP te && Cw (Cn te) (AF te) x)):=by
  by_cases hok:CP te=true
  · obtain ⟨ok,hsub,hf,hgr⟩:=JS te x
    rw [hok,Bool.true_and]
    refine eG Tryz.func42 rfl (by kernel_rfl) rfl ?_;intro Γ hΓ
    apply LY (L:=Cn te) (ok:=ok);case hk=>(intro hk;rcases CL (tabs:=tabs) hok hsub hf with ⟨c,hno,hV,hcp⟩|⟨t,m,hm,hno,hV⟩;(focus (have hcr:=Cb c hcp;(repeat first|refine tA rfl ?_ |refine aU rfl ?_ |refine Aa ?_);(repeat first|refine tA rfl ?_|(refine Ag rfl ?_;refine gA rfl ?_;first| refine gS (fun _ _=>AT rfl rfl rfl hno (by simp [E.A1,C.Bw,C.A1,hcp])) ?_));refine Aa ?_;refine Ai.Ak [3,6] [] rfl rfl [(5,.o (.ptr 0 2 0 0))] [(0,.cells 71 2 [[.d (iD (AF te)),c]])] [0] (rl hΓ rfl) (by (simp[cX,zC,hΓ,hcr,hcp])) ?_;(try dsimp only[cA,cB]);obtain ⟨TB0,hTB0⟩:∃T,T=(⟨tabs,none⟩:Bc):=⟨_,rfl⟩;obtain ⟨Γ0,hΓ0⟩:∃T,T=Γ:=⟨_,rfl⟩;rw [←hTB0] at hV hTb ⊢;rw [←hΓ0] at hΓ ⊢;exact hk TB0 Γ0 c hΓ hTb hV));((repeat first|refine tA rfl ?_ |refine aU rfl ?_ |refine Aa ?_);(refine pW rfl ?_ rfl (by rfl);refine A8 [] rfl rfl 0 (hno) (by decide) ⟨rfl,by decide,by decide⟩ rfl (by simp[cX,zC,hΓ,AE]) ?_;rintro x0 σ1 nx1 ⟨rfl,rfl,rfl⟩ _);(repeat first|refine tA rfl ?_);refine Aa ?_;refine Ai.Rw (GB t ok) ⟨m,hm⟩ 0 [1,2,3,4] (fun r=>[(3,.o (.ip [AQ x.rows,AQ x.cols])),(6,eB true),(5,.o (.ptr 5 2 0 0))]) (fun r=>[(5,.cells 71 2 [[.d (iD (AF te)),DN (Fk r)]])]) (by decide) rfl (by ((repeat' first|exact tI|rfl|refine And.intro ?_ ?_)<;>(simp[cX,zC,hΓ,AE]<;>rfl))) ⟨_,_,_,_,rfl⟩ (fun r=>by repeat' first|exact tI|refine And.intro ⟨_,rfl,.A0⟩ ?_) (fun r=>by repeat' first|exact tI|refine And.intro ⟨by decide,.inl rfl⟩ ?_|refine And.intro ⟨by decide,.inr ⟨_,_,_,_,rfl,rfl,.cons .A0 (.cons .mv .nil)⟩⟩ ?_) fun r Γ' hΓ'=>?_;have hΓ:Γ'.V.nx=0:=(by rw [hΓ'];exact hΓ);refine Ai.Ak [3,6] [] rfl rfl [(5,.o (.ptr 0 2 0 0))] [(0,.cells 71 2 [[.d (iD (AF te)),DN (Fk r)]])] [5] (rl hΓ rfl) (by (simp[cX,zC,hΓ])) ?_;(try dsimp only[cA,cB]);exact hk _ Γ' _ hΓ (hV r).2 (hV r).1))
    case h=>
      intro TB1 Γ1 c1 hΓ hTb1 hV
      have htv:=CG hV (AF te) (Fq hok) x (fun h=>hgr h x B6) hz
      rw [EN]
      by_cases hv:AG (Cn te) (AF te) x=true
      · have hb:=(Bu hv).1.bd
        have hask:=hb.Ri (hgr (Bu hv).1 x B6) (by omega)
        have hcl:=Km hV (AF te) x hask.1 hask.2
        rw [hv] at htv ⊢
        (repeat' first|refine tA rfl ?_|(refine Ag rfl ?_;refine gA rfl ?_;first| refine gS (fun _ _=>AT rfl rfl (by simp [E.A1,C.A1,C.Bw,hV.A1]) (htv) rfl) ?_|refine gS (fun _ _=>AT rfl rfl (by simp [E.A1,C.A1,C.Bw,hV.A1]) (hcl) rfl) ?_) |refine aU rfl ?_ |refine Aa ?_|(refine aC rfl ?_ ?_<;>rintro ⟨⟩));all_goals try contradiction
        (subst_vars;exact aR ⟨_,rfl,rfl⟩)
      · rw [Bool.not_eq_true] at hv
        rw [hv] at htv ⊢
        (repeat' first|refine tA rfl ?_|(refine Ag rfl ?_;refine gA rfl ?_;first| refine gS (fun _ _=>AT rfl rfl (by simp [E.A1,C.A1,C.Bw,hV.A1]) (htv) rfl) ?_) |refine aU rfl ?_ |refine Aa ?_|(refine aC rfl ?_ ?_<;>rintro ⟨⟩));all_goals try contradiction
        (subst_vars;exact aR ⟨_,rfl,rfl⟩)
  · rw [Bool.not_eq_true] at hok
    have hno:=Ed (TB:=({ tabs:=tabs,hid:=none }:Bc)) hok
    rw [hok,Bool.false_and]
    refine eG Tryz.func42 rfl (by kernel_rfl) rfl ?_;intro Γ hΓ
    (repeat first|refine tA rfl ?_ |refine sP rfl (hno) rfl ?_ |refine aU rfl ?_ |refine Aa ?_)
    (repeat' first| (refine aC rfl ?_ ?_<;>rintro ⟨⟩));all_goals try contradiction
    (subst_vars;exact aR ⟨_,rfl,rfl⟩)
def HL (A:W→Bool) (al:Int) (t:AZ) (w:W):Option AZ:=if AG A al t && Ga al w then Fu t w else none
theorem UH {t:Da} {al:Int} {A:W→Bool} (hT:Hn Tryz.prog TB 60 101 t al A) (tab:AZ) (hz:NJ tab) (w:W) (hw:w.length≤1048576) :
    Pure Tryz.prog TB 32 [BR t,BX tab,eT w] (Gj (HL A al tab w)):=by
  have h1:=C7 hT tab hz
  have h2:=Ky hT w (by omega)
  have h3:=Fb (TB:=TB) tab.cols w (by have:=hz.cl;omega)
  by_cases hv:(AG A al tab && Ga al w)=true
  · have ha:HL A al tab w=Fu tab w:=by unfold HL;rw [if_pos hv]
    rw [ha]
    rw [Bool.and_eq_true] at hv
    rw [hv.1] at h1
    rw [hv.2] at h2
    have hsh:NW al tab:=(Bu hv.1).1
    have hr1:=hsh.r1
    have hc1:=hsh.c1
    have hrl:=hsh.rl
    have hcl:=hsh.cl
    by_cases hn:tab.cols.length=20∨w∈tab.cols
    · have hx:Fu tab w=none:=by unfold Fu;rw [if_pos hn]
      rw [hx]
      refine eG Tryz.func32 rfl (by kernel_rfl) rfl ?_;intro Γ hΓ
      (repeat' first|refine sN rfl ?_ |refine tA rfl ?_ |(refine s2 rfl fun _ _hb=>?_;try (simp only[Bool.not_true,Bool.not_false] at _hb;subst _hb)) |refine sP rfl (h1) rfl ?_|refine sP rfl (h2) rfl ?_|(refine sC rfl (h3) ?_;intro _ _hb)|(refine Ag rfl ?_;refine gA rfl ?_;first| refine gS (fun _ _=>Au rfl rfl (by rfl) (by rfl)) ?_) |refine s3 rfl ?_ ?_<;>rintro rfl |refine aU rfl ?_ |refine Aa ?_ |refine rE (by kernel_rfl) ?_|(refine aC rfl ?_ ?_<;>rintro ⟨⟩)|refine aK ?_|refine aE ?_|refine aB ?_|refine aR ⟨_,rfl,?_⟩)
      all_goals first
        | rfl
        | (exfalso;clear h1 h2 h3 hT;simp at *;grind;done)
        | skip
    · have hx:Fu tab w=some ⟨tab.rows,tab.cols++[w]⟩:=by unfold Fu;rw [if_neg hn]
      rw [hx]
      have hm:decide (w∈tab.cols)=false:=decide_eq_false fun h=>hn (.inr h)
      have h20:tab.cols.length≠20:=fun h=>hn (.inl h)
      rw [hm] at h3
      refine eG Tryz.func32 rfl (by kernel_rfl) rfl ?_;intro Γ hΓ
      (repeat first|refine sN rfl ?_ |refine tA rfl ?_ |(refine s2 rfl fun _ _hb=>?_;try (simp only[Bool.not_true,Bool.not_false] at _hb;subst _hb)) |refine sP rfl (h1) rfl ?_|refine sP rfl (h2) rfl ?_|refine sP rfl (h3) rfl ?_ |refine aU rfl ?_ |refine Aa ?_)
      refine Ai.cond rfl (fun hb=>?_) (fun hb=>?_)<;>cases hb
      · exfalso;(simp only[oZ] at *;omega)
      refine aK ?_
      (repeat first|refine aU rfl ?_)
      refine rG (ZG [0,1,2,4,5,6,8,9,3,7,10,11,12,13] [3,7,10,12] [0,1,2,4,5,6,8,9]) (by kernel_rfl) ?_
      (repeat first|refine tX rfl ?_|(refine Ag rfl ?_;refine gA rfl ?_;first| refine gS (fun _ _=>DF (by rfl) (by rfl)) ?_|refine gS (fun _ _=>Gy rfl rfl rfl rfl rfl (by rfl) (by rfl) (by rfl) (by rfl) (by rfl)) ?_))
      (refine pW rfl ?_ rfl (by rfl);refine Ce rfl rfl rfl (by intro r hr;simp at hr;obtain ⟨_,_,rfl⟩:=hr;rfl) (by rfl) (Nat.le_of_ble_eq_true rfl) (by simp;omega) (fun h=>?_) (fun _=>?_))
      · exfalso;simp at h;rw [h] at hr1;simp at hr1
      (repeat first| (refine Ag rfl ?_;refine gA rfl ?_;first| refine gS (fun _ _=>DF (by rfl) (by rfl)) ?_|refine gS (fun _ _=>Gy rfl rfl rfl rfl rfl (by rfl) (by rfl) (by rfl) (by rfl) (by rfl)) ?_))
      (refine pW rfl ?_ rfl (by rfl);refine Ce rfl rfl rfl (by intro r hr;simp at hr;obtain ⟨_,_,rfl⟩:=hr;rfl) (by rfl) (Nat.le_of_ble_eq_true rfl) (by simp;omega) (fun h=>?_) (fun _=>?_))
      · exfalso;simp at h;rw [h] at hc1;simp at hc1
      (refine pW rfl ?_ rfl (by rfl);refine Av rfl rfl rfl (by first| (simp;done)|(simp;(omega))) rfl (by intro r hr;simp at hr;subst hr;rfl) (by rfl) (Nat.le_of_ble_eq_true rfl) (by simp;omega) ?_)
      (repeat first|refine tA rfl ?_|(refine Ag rfl ?_;refine gA rfl ?_;first| refine gS (fun _ _=>Au rfl rfl (by rfl) (by rfl)) ?_) |refine Aa ?_)
      refine Ai.settle [(6,.o (.ip [AQ tab.rows,AQ (tab.cols++[w])])),(7,eB true)] ⟨⟨_,rfl,.o (.box rfl (.cons (.full rfl (by simp [Function.comp_def]) (by simp)) (.cons (.full rfl (by simp [Function.comp_def]) (by simp)) .nil)))⟩,⟨_,rfl,.o .d⟩,trivial⟩ ?_
      refine aR ⟨_,rfl,rfl⟩
  · have ha:HL A al tab w=none:=by unfold HL;rw [if_neg hv]
    rw [ha]
    refine eG Tryz.func32 rfl (by kernel_rfl) rfl ?_;intro Γ hΓ
    (repeat' first|refine sN rfl ?_ |refine tA rfl ?_ |(refine s2 rfl fun _ _hb=>?_;try (simp only[Bool.not_true,Bool.not_false] at _hb;subst _hb)) |(refine sC rfl (h1) ?_;intro _ _hb)|(refine sC rfl (h2) ?_;intro _ _hb)|(refine sC rfl (h3) ?_;intro _ _hb)|(refine Ag rfl ?_;refine gA rfl ?_;first| refine gS (fun _ _=>Au rfl rfl (by rfl) (by rfl)) ?_) |refine s3 rfl ?_ ?_<;>rintro rfl |refine aU rfl ?_ |refine Aa ?_ |refine rE (by kernel_rfl) ?_|(refine aC rfl ?_ ?_<;>rintro ⟨⟩)|refine aK ?_|refine aE ?_|refine aB ?_|refine aR ⟨_,rfl,?_⟩)
    all_goals first
      | rfl
      | (exfalso;clear h1 h2 h3 hT;simp at *;grind;done)
      | skip
theorem Ts {al:Int} {w:W} (h:Ga al w=true):AW (A6 al) w∧w.length≤4000∧within w al=true:=by
  unfold Ga at h
  rw [Bool.and_eq_true,decide_eq_true_eq] at h
  exact ⟨Cq h.1,h.2,h.1⟩
theorem X2 {A:W→Bool} {al:Int} {t:AZ} {w:W} (ha:Bn al=true) (hcl:Dz A (A6 al) t) (hr:t.rows.length≤12) (hw:Ga al w=true):Gh (Bd A al t) w=UQ A t w:=by
  obtain ⟨h1,h2,h3⟩:=Ts hw
  unfold Gh
  rw [U7 ha hcl hr,UM hcl h1]
  show (true && (within w al && _))=_
  rw [h3];rfl
noncomputable def Up (te:Da) (x:AZ) (w:W):W:=if (CP te && AG (Cn te) (AF te) x && Ga (AF te) w)=true then marks (Cn te) x.cols w else []
noncomputable def QF (te:Da) (x:AZ):Option W:=if (CP te && AG (Cn te) (AF te) x)=true then AV (Cn te) (A6 (AF te)) x else none
noncomputable def SS (te:Da) (x:AZ):Option AZ:=if (CP te && AG (Cn te) (AF te) x)=true then A3 (Cn te) (A6 (AF te)) 13 x else none
noncomputable def Yz (te:Da):Option AZ:=if CP te=true then A3 (Cn te) (A6 (AF te)) 13 CX else none
noncomputable def Ya (te:Da) (x:AZ):Option Ci:=if (CP te && Cw (Cn te) (AF te) x)=true then some (Bd (Cn te) (AF te) x) else none
section
variable {tabs:List (Nat×Obj)} [hTb:DZ ⟨tabs,none⟩] {te:Da}
include hTb
theorem Rz (x:AZ) (hz:NJ x):Pure Tryz.prog ⟨tabs,none⟩ 20 [BR te,BX x] (Rp (QF te x)):=by
  unfold QF
  by_cases hok:CP te=true
  · obtain ⟨ok,hsub,hf,hgr⟩:=JS te x
    rw [hok,Bool.true_and]
    refine eG Tryz.func20 rfl (by kernel_rfl) rfl ?_;intro Γ hΓ
    apply LY (L:=Cn te) (ok:=ok);case hk=>(intro hk;rcases CL (tabs:=tabs) hok hsub hf with ⟨c,hno,hV,hcp⟩|⟨t,m,hm,hno,hV⟩;(focus (have hcr:=Cb c hcp;(repeat first|refine tA rfl ?_ |refine aU rfl ?_ |refine Aa ?_);(repeat first|refine tA rfl ?_|(refine Ag rfl ?_;refine gA rfl ?_;first| refine gS (fun _ _=>AT rfl rfl rfl hno (by simp [E.A1,C.Bw,C.A1,hcp])) ?_));refine Aa ?_;refine Ai.Ak [3,7] [] rfl rfl [(6,.o (.ptr 0 2 0 0))] [(0,.cells 71 2 [[.d (iD (AF te)),c]])] [0] (rl hΓ rfl) (by (simp[cX,zC,hΓ,hcr,hcp])) ?_;(try dsimp only[cA,cB]);obtain ⟨TB0,hTB0⟩:∃T,T=(⟨tabs,none⟩:Bc):=⟨_,rfl⟩;obtain ⟨Γ0,hΓ0⟩:∃T,T=Γ:=⟨_,rfl⟩;rw [←hTB0] at hV hTb ⊢;rw [←hΓ0] at hΓ ⊢;exact hk TB0 Γ0 c hΓ hTb hV));((repeat first|refine tA rfl ?_ |refine aU rfl ?_ |refine Aa ?_);(refine pW rfl ?_ rfl (by rfl);refine A8 [] rfl rfl 0 (hno) (by decide) ⟨rfl,by decide,by decide⟩ rfl (by simp[cX,zC,hΓ,AE]) ?_;rintro x0 σ1 nx1 ⟨rfl,rfl,rfl⟩ _);(repeat first|refine tA rfl ?_);refine Aa ?_;refine Ai.Rw (GB t ok) ⟨m,hm⟩ 0 [1,2,3,4] (fun r=>[(3,.o (.ip [AQ x.rows,AQ x.cols])),(7,eB true),(6,.o (.ptr 5 2 0 0))]) (fun r=>[(5,.cells 71 2 [[.d (iD (AF te)),DN (Fk r)]])]) (by decide) rfl (by ((repeat' first|exact tI|rfl|refine And.intro ?_ ?_)<;>(simp[cX,zC,hΓ,AE]<;>rfl))) ⟨_,_,_,_,rfl⟩ (fun r=>by repeat' first|exact tI|refine And.intro ⟨_,rfl,.A0⟩ ?_) (fun r=>by repeat' first|exact tI|refine And.intro ⟨by decide,.inl rfl⟩ ?_|refine And.intro ⟨by decide,.inr ⟨_,_,_,_,rfl,rfl,.cons .A0 (.cons .mv .nil)⟩⟩ ?_) fun r Γ' hΓ'=>?_;have hΓ:Γ'.V.nx=0:=(by rw [hΓ'];exact hΓ);refine Ai.Ak [3,7] [] rfl rfl [(6,.o (.ptr 0 2 0 0))] [(0,.cells 71 2 [[.d (iD (AF te)),DN (Fk r)]])] [5] (rl hΓ rfl) (by (simp[cX,zC,hΓ])) ?_;(try dsimp only[cA,cB]);exact hk _ Γ' _ hΓ (hV r).2 (hV r).1))
    case h =>
      intro TB1 Γ1 c1 hΓ hTb1 hV
      have htv:=CG hV (AF te) (Fq hok) x (fun h=>hgr h x B6) hz
      by_cases hv:AG (Cn te) (AF te) x=true
      · have hb:=(Bu hv).1.bd
        have hask:=hb.Ri (hgr (Bu hv).1 x B6) (by omega)
        have hfo:=Fy hV (AF te) x hask.1 hask.2
        rw [hv] at htv ⊢
        rw [if_pos rfl]
        generalize AV (Cn te) (A6 (AF te)) x=o at *
        cases o
        all_goals
          (repeat' first|refine tA rfl ?_ |refine s2 rfl fun _ _hb=>?_|(refine Ag rfl ?_;refine gA rfl ?_;first| refine gS (fun _ _=>AT rfl rfl (by simp [E.A1,C.A1,C.Bw,hV.A1]) (htv) rfl) ?_) |refine s3 rfl ?_ ?_<;>rintro rfl |refine aU rfl ?_ |refine Aa ?_|(refine aC rfl ?_ ?_<;>rintro ⟨⟩));all_goals try contradiction
          refine aK ?_
          (repeat first|refine tA rfl ?_|(refine Ag rfl ?_;refine gA rfl ?_;first| refine gS (fun _ _=>AT rfl rfl (by simp [E.A1,C.A1,C.Bw,hV.A1]) (hfo) rfl) ?_) |refine aU rfl ?_ |refine Aa ?_)
          (subst_vars;exact aR ⟨_,rfl,rfl⟩)
      · rw [Bool.not_eq_true] at hv
        rw [hv] at htv ⊢
        (repeat' first|refine tA rfl ?_ |refine s2 rfl fun _ _hb=>?_|(refine Ag rfl ?_;refine gA rfl ?_;first| refine gS (fun _ _=>AT rfl rfl (by simp [E.A1,C.A1,C.Bw,hV.A1]) (htv) rfl) ?_) |refine s3 rfl ?_ ?_<;>rintro rfl |refine aU rfl ?_ |refine Aa ?_|(refine aC rfl ?_ ?_<;>rintro ⟨⟩));all_goals try contradiction
        (subst_vars;exact aR ⟨_,rfl,rfl⟩)
  · rw [Bool.not_eq_true] at hok
    have hno:=Ed (TB:=({ tabs:=tabs,hid:=none }:Bc)) hok
    rw [hok,Bool.false_and]
    refine eG Tryz.func20 rfl (by kernel_rfl) rfl ?_;intro Γ hΓ
    (repeat first|refine tA rfl ?_ |refine s2 rfl fun _ _hb=>?_ |refine sP rfl (hno) rfl ?_ |refine s3 rfl ?_ ?_<;>rintro rfl |refine aU rfl ?_ |refine Aa ?_)
    (repeat' first|refine tA rfl ?_ |refine aU rfl ?_ |refine Aa ?_|(refine aC rfl ?_ ?_<;>rintro ⟨⟩));all_goals try contradiction
    (subst_vars;exact aR ⟨_,rfl,rfl⟩)
theorem Sj:Pure Tryz.prog ⟨tabs,none⟩ 23 [BR te] (Gj (Yz te)):=by
  unfold Yz
  by_cases hok:CP te=true
  · obtain ⟨ok,hsub,hf,hgr⟩:=UX te
    rw [if_pos hok]
    refine eG Tryz.func23 rfl (by kernel_rfl) rfl ?_;intro Γ hΓ
    apply LY (L:=Cn te) (ok:=ok);case hk=>(intro hk;rcases CL (tabs:=tabs) hok hsub hf with ⟨c,hno,hV,hcp⟩|⟨t,m,hm,hno,hV⟩;(focus (have hcr:=Cb c hcp;(repeat first|refine tA rfl ?_ |refine aU rfl ?_ |refine Aa ?_);(repeat first|refine tA rfl ?_|(refine Ag rfl ?_;refine gA rfl ?_;first| refine gS (fun _ _=>AT rfl rfl rfl hno (by simp [E.A1,C.Bw,C.A1,hcp])) ?_));refine Aa ?_;refine Ai.Ak [5] [] rfl rfl [(2,.o (.ptr 0 2 0 0)),(4,.o (.ptr 1 2 0 0))] [(0,.cells 36 2 [[.d (.l []),.d (.l [])]]),(1,.cells 71 2 [[.d (iD (AF te)),c]])] [0,1] (rl hΓ rfl) (by (simp[cX,zC,hΓ,hcr,hcp])) ?_;(try dsimp only[cA,cB]);obtain ⟨TB0,hTB0⟩:∃T,T=(⟨tabs,none⟩:Bc):=⟨_,rfl⟩;obtain ⟨Γ0,hΓ0⟩:∃T,T=Γ:=⟨_,rfl⟩;rw [←hTB0] at hV hTb ⊢;rw [←hΓ0] at hΓ ⊢;exact hk TB0 Γ0 c hΓ hTb hV));((repeat first|refine tA rfl ?_ |refine aU rfl ?_ |refine Aa ?_);(refine pW rfl ?_ rfl (by rfl);refine A8 [] rfl rfl 0 (hno) (by decide) ⟨rfl,by decide,by decide⟩ rfl (by simp[cX,zC,hΓ,AE]) ?_;rintro x0 σ1 nx1 ⟨rfl,rfl,rfl⟩ _);(repeat first|refine tA rfl ?_);refine Aa ?_;refine Ai.Rw (GB t ok) ⟨m,hm⟩ 1 [2,3,4,5] (fun r=>[(5,eB true),(2,.o (.ptr 0 2 0 0)),(4,.o (.ptr 6 2 0 0))]) (fun r=>[(0,.cells 36 2 [[.d (.l []),.d (.l [])]]),(6,.cells 71 2 [[.d (iD (AF te)),DN (Fk r)]])]) (by decide) rfl (by ((repeat' first|exact tI|rfl|refine And.intro ?_ ?_)<;>(simp[cX,zC,hΓ,AE]<;>rfl))) ⟨_,_,_,_,rfl⟩ (fun r=>by repeat' first|exact tI|refine And.intro ⟨_,rfl,.A0⟩ ?_) (fun r=>by repeat' first|exact tI|refine And.intro ⟨by decide,.inl rfl⟩ ?_|refine And.intro ⟨by decide,.inr ⟨_,_,_,_,rfl,rfl,.cons .A0 (.cons .mv .nil)⟩⟩ ?_) fun r Γ' hΓ'=>?_;have hΓ:Γ'.V.nx=0:=(by rw [hΓ'];exact hΓ);refine Ai.Ak [5] [] rfl rfl [(2,.o (.ptr 0 2 0 0)),(4,.o (.ptr 1 2 0 0))] [(0,.cells 36 2 [[.d (.l []),.d (.l [])]]),(1,.cells 71 2 [[.d (iD (AF te)),DN (Fk r)]])] [0,6] (rl hΓ rfl) (by (simp[cX,zC,hΓ])) ?_;(try dsimp only[cA,cB]);exact hk _ Γ' _ hΓ (hV r).2 (hV r).1))
    case h=>
      intro TB1 Γ1 c1 hΓ hTb1 hV
      have hnt:=Ng hV (AF te) hgr
      generalize A3 (Cn te) (A6 (AF te)) 13 CX=o at *
      cases o
      all_goals
        (repeat' first|refine tA rfl ?_ |refine s2 rfl fun _ _hb=>?_ |refine aU rfl ?_ |refine Aa ?_|(refine aC rfl ?_ ?_<;>rintro ⟨⟩));all_goals try contradiction
        refine aK ?_
        (repeat first|refine tA rfl ?_|(refine Ag rfl ?_;refine gA rfl ?_;first| refine gS (fun _ _=>AT rfl rfl (by simp [E.A1,C.A1,C.Bw,hV.A1]) (hnt) rfl) ?_) |refine aU rfl ?_ |refine Aa ?_)
        (subst_vars;exact aR ⟨_,rfl,rfl⟩)
  · rw [if_neg hok]
    rw [Bool.not_eq_true] at hok
    have hno:=Ed (TB:=({ tabs:=tabs,hid:=none }:Bc)) hok
    refine eG Tryz.func23 rfl (by kernel_rfl) rfl ?_;intro Γ hΓ
    (repeat first|refine tA rfl ?_ |refine s2 rfl fun _ _hb=>?_ |refine sP rfl (hno) rfl ?_|(refine Ag rfl ?_;refine gA rfl ?_;first| refine gS (fun _ _=>Au rfl rfl (by rfl) (by rfl)) ?_) |refine aU rfl ?_ |refine Aa ?_)
    (repeat' first|refine tA rfl ?_|(refine Ag rfl ?_;refine gA rfl ?_;first| refine gS (fun _ _=>Au rfl rfl (by rfl) (by rfl)) ?_) |refine aU rfl ?_ |refine Aa ?_|(refine aC rfl ?_ ?_<;>rintro ⟨⟩));all_goals try contradiction
    (subst_vars;exact aR ⟨_,rfl,rfl⟩)
theorem NL (x:AZ) (hz:NJ x):Pure Tryz.prog ⟨tabs,none⟩ 27 [BR te,BX x] (Wj (Ya te x)):=by
  unfold Ya
  by_cases hok:CP te=true
  · obtain ⟨ok,hsub,hf,hgr⟩:=JS te x
    rw [hok,Bool.true_and,EN]
    refine eG Tryz.func27 rfl (by kernel_rfl) rfl ?_;intro Γ hΓ
    apply LY (L:=Cn te) (ok:=ok);case hk=>(intro hk;rcases CL (tabs:=tabs) hok hsub hf with ⟨c,hno,hV,hcp⟩|⟨t,m,hm,hno,hV⟩;(focus (have hcr:=Cb c hcp;(repeat first|refine tA rfl ?_ |refine aU rfl ?_ |refine Aa ?_);(repeat first|refine tA rfl ?_|(refine Ag rfl ?_;refine gA rfl ?_;first| refine gS (fun _ _=>AT rfl rfl rfl hno (by simp [E.A1,C.Bw,C.A1,hcp])) ?_));refine Aa ?_;refine Ai.Ak [3,7] [] rfl rfl [(4,.o (.ptr 0 3 0 0)),(6,.o (.ptr 1 2 0 0))] [(0,.cells 26 3 [[.d (iD 0),.d (.l []),.d (.l [])]]),(1,.cells 71 2 [[.d (iD (AF te)),c]])] [0,1] (rl hΓ rfl) (by (simp[cX,zC,hΓ,hcr,hcp])) ?_;(try dsimp only[cA,cB]);obtain ⟨TB0,hTB0⟩:∃T,T=(⟨tabs,none⟩:Bc):=⟨_,rfl⟩;obtain ⟨Γ0,hΓ0⟩:∃T,T=Γ:=⟨_,rfl⟩;rw [←hTB0] at hV hTb ⊢;rw [←hΓ0] at hΓ ⊢;exact hk TB0 Γ0 c hΓ hTb hV));((repeat first|refine tA rfl ?_ |refine aU rfl ?_ |refine Aa ?_);(refine pW rfl ?_ rfl (by rfl);refine A8 [] rfl rfl 0 (hno) (by decide) ⟨rfl,by decide,by decide⟩ rfl (by simp[cX,zC,hΓ,AE]) ?_;rintro x0 σ1 nx1 ⟨rfl,rfl,rfl⟩ _);(repeat first|refine tA rfl ?_);refine Aa ?_;refine Ai.Rw (GB t ok) ⟨m,hm⟩ 1 [2,3,4,5] (fun r=>[(3,.o (.ip [AQ x.rows,AQ x.cols])),(7,eB true),(4,.o (.ptr 0 3 0 0)),(6,.o (.ptr 6 2 0 0))]) (fun r=>[(0,.cells 26 3 [[.d (iD 0),.d (.l []),.d (.l [])]]),(6,.cells 71 2 [[.d (iD (AF te)),DN (Fk r)]])]) (by decide) rfl (by ((repeat' first|exact tI|rfl|refine And.intro ?_ ?_)<;>(simp[cX,zC,hΓ,AE]<;>rfl))) ⟨_,_,_,_,rfl⟩ (fun r=>by repeat' first|exact tI|refine And.intro ⟨_,rfl,.A0⟩ ?_) (fun r=>by repeat' first|exact tI|refine And.intro ⟨by decide,.inl rfl⟩ ?_|refine And.intro ⟨by decide,.inr ⟨_,_,_,_,rfl,rfl,.cons .A0 (.cons .mv .nil)⟩⟩ ?_) fun r Γ' hΓ'=>?_;have hΓ:Γ'.V.nx=0:=(by rw [hΓ'];exact hΓ);refine Ai.Ak [3,7] [] rfl rfl [(4,.o (.ptr 0 3 0 0)),(6,.o (.ptr 1 2 0 0))] [(0,.cells 26 3 [[.d (iD 0),.d (.l []),.d (.l [])]]),(1,.cells 71 2 [[.d (iD (AF te)),DN (Fk r)]])] [0,6] (rl hΓ rfl) (by (simp[cX,zC,hΓ])) ?_;(try dsimp only[cA,cB]);exact hk _ Γ' _ hΓ (hV r).2 (hV r).1))
    case h =>
      intro TB1 Γ1 c1 hΓ hTb1 hV
      have htv:=CG hV (AF te) (Fq hok) x (fun h=>hgr h x B6) hz
      by_cases hv:AG (Cn te) (AF te) x=true
      · have hb:=(Bu hv).1.bd
        have hask:=hb.Ri (hgr (Bu hv).1 x B6) (by omega)
        have hcl:=Km hV (AF te) x hask.1 hask.2
        rw [hv] at htv ⊢
        by_cases ho:(AV (Cn te) (A6 (AF te)) x).isNone=true
        · have hau:=Lu hV (AF te) x (hgr (Bu hv).1 x B6) (hb.mono (by omega)) (by simpa using ho)
          rw [ho] at hcl ⊢
          (repeat' first|refine tA rfl ?_ |refine s2 rfl fun _ _hb=>?_|(refine Ag rfl ?_;refine gA rfl ?_;first| refine gS (fun _ _=>AT rfl rfl (by simp [E.A1,C.A1,C.Bw,hV.A1]) (htv) rfl) ?_|refine gS (fun _ _=>AT rfl rfl (by simp [E.A1,C.A1,C.Bw,hV.A1]) (hcl) rfl) ?_) |refine s3 rfl ?_ ?_<;>rintro rfl |refine aU rfl ?_ |refine Aa ?_|(refine aC rfl ?_ ?_<;>rintro ⟨⟩));all_goals try contradiction
          refine aK ?_
          (repeat first|refine tA rfl ?_|(refine Ag rfl ?_;refine gA rfl ?_;first| refine gS (fun _ _=>AT rfl rfl (by simp [E.A1,C.A1,C.Bw,hV.A1]) (hau) rfl) ?_) |refine aU rfl ?_ |refine Aa ?_)
          (subst_vars;exact aR ⟨_,rfl,rfl⟩)
        · rw [Bool.not_eq_true] at ho
          rw [ho] at hcl ⊢
          (repeat' first|refine tA rfl ?_ |refine s2 rfl fun _ _hb=>?_|(refine Ag rfl ?_;refine gA rfl ?_;first| refine gS (fun _ _=>AT rfl rfl (by simp [E.A1,C.A1,C.Bw,hV.A1]) (htv) rfl) ?_|refine gS (fun _ _=>AT rfl rfl (by simp [E.A1,C.A1,C.Bw,hV.A1]) (hcl) rfl) ?_|refine gS (fun _ _=>Au rfl rfl (by rfl) (by rfl)) ?_) |refine s3 rfl ?_ ?_<;>rintro rfl |refine aU rfl ?_ |refine Aa ?_|(refine aC rfl ?_ ?_<;>rintro ⟨⟩));all_goals try contradiction
          (subst_vars;exact aR ⟨_,rfl,rfl⟩)
      · rw [Bool.not_eq_true] at hv
        rw [hv] at htv ⊢
        (repeat' first|refine tA rfl ?_ |refine s2 rfl fun _ _hb=>?_|(refine Ag rfl ?_;refine gA rfl ?_;first| refine gS (fun _ _=>AT rfl rfl (by simp [E.A1,C.A1,C.Bw,hV.A1]) (htv) rfl) ?_|refine gS (fun _ _=>Au rfl rfl (by rfl) (by rfl)) ?_) |refine s3 rfl ?_ ?_<;>rintro rfl |refine aU rfl ?_ |refine Aa ?_|(refine aC rfl ?_ ?_<;>rintro ⟨⟩));all_goals try contradiction
        (subst_vars;exact aR ⟨_,rfl,rfl⟩)
  · rw [Bool.not_eq_true] at hok
    have hno:=Ed (TB:=({ tabs:=tabs,hid:=none }:Bc)) hok
    rw [hok,Bool.false_and]
    refine eG Tryz.func27 rfl (by kernel_rfl) rfl ?_;intro Γ hΓ
    (repeat first|refine tA rfl ?_ |refine s2 rfl fun _ _hb=>?_ |refine sP rfl (hno) rfl ?_|(refine Ag rfl ?_;refine gA rfl ?_;first| refine gS (fun _ _=>Au rfl rfl (by rfl) (by rfl)) ?_) |refine s3 rfl ?_ ?_<;>rintro rfl |refine aU rfl ?_ |refine Aa ?_)
    (repeat' first|refine tA rfl ?_|(refine Ag rfl ?_;refine gA rfl ?_;first| refine gS (fun _ _=>Au rfl rfl (by rfl) (by rfl)) ?_) |refine aU rfl ?_ |refine Aa ?_|(refine aC rfl ?_ ?_<;>rintro ⟨⟩));all_goals try contradiction
    (subst_vars;exact aR ⟨_,rfl,rfl⟩)
theorem Vo (x:AZ) (hz:NJ x) (w:W) (hw:w.length≤1099511627776):Pure Tryz.prog ⟨tabs,none⟩ 33 [BR te,BX x,eT w] (eT (Up te x w)):=by
  unfold Up
  by_cases hok:CP te=true
  · obtain ⟨ok,hsub,hf,hgr,hgw⟩:=UY te x w
    rw [hok,Bool.true_and]
    refine eG Tryz.func33 rfl (by kernel_rfl) rfl ?_;intro Γ hΓ
    apply LY (L:=Cn te) (ok:=ok);case hk=>(intro hk;rcases CL (tabs:=tabs) hok hsub hf with ⟨c,hno,hV,hcp⟩|⟨t,m,hm,hno,hV⟩;(focus (have hcr:=Cb c hcp;(repeat first|refine tA rfl ?_ |refine aU rfl ?_ |refine Aa ?_);(repeat first|refine tA rfl ?_|(refine Ag rfl ?_;refine gA rfl ?_;first| refine gS (fun _ _=>AT rfl rfl rfl hno (by simp [E.A1,C.Bw,C.A1,hcp])) ?_));refine Aa ?_;refine Ai.Ak [2,4,8] [] rfl rfl [(7,.o (.ptr 0 2 0 0))] [(0,.cells 71 2 [[.d (iD (AF te)),c]])] [0] (rl hΓ rfl) (by (simp[cX,zC,hΓ,hcr,hcp])) ?_;(try dsimp only[cA,cB]);obtain ⟨TB0,hTB0⟩:∃T,T=(⟨tabs,none⟩:Bc):=⟨_,rfl⟩;obtain ⟨Γ0,hΓ0⟩:∃T,T=Γ:=⟨_,rfl⟩;rw [←hTB0] at hV hTb ⊢;rw [←hΓ0] at hΓ ⊢;exact hk TB0 Γ0 c hΓ hTb hV));((repeat first|refine tA rfl ?_ |refine aU rfl ?_ |refine Aa ?_);(refine pW rfl ?_ rfl (by rfl);refine A8 [] rfl rfl 0 (hno) (by decide) ⟨rfl,by decide,by decide⟩ rfl (by simp[cX,zC,hΓ,AE]) ?_;rintro x0 σ1 nx1 ⟨rfl,rfl,rfl⟩ _);(repeat first|refine tA rfl ?_);refine Aa ?_;refine Ai.Rw (GB t ok) ⟨m,hm⟩ 0 [1,2,3,4] (fun r=>[(2,eT w),(4,.o (.ip [AQ x.rows,AQ x.cols])),(8,eB true),(7,.o (.ptr 5 2 0 0))]) (fun r=>[(5,.cells 71 2 [[.d (iD (AF te)),DN (Fk r)]])]) (by decide) rfl (by ((repeat' first|exact tI|rfl|refine And.intro ?_ ?_)<;>(simp[cX,zC,hΓ,AE]<;>rfl))) ⟨_,_,_,_,rfl⟩ (fun r=>by repeat' first|exact tI|refine And.intro ⟨_,rfl,.A0⟩ ?_) (fun r=>by repeat' first|exact tI|refine And.intro ⟨by decide,.inl rfl⟩ ?_|refine And.intro ⟨by decide,.inr ⟨_,_,_,_,rfl,rfl,.cons .A0 (.cons .mv .nil)⟩⟩ ?_) fun r Γ' hΓ'=>?_;have hΓ:Γ'.V.nx=0:=(by rw [hΓ'];exact hΓ);refine Ai.Ak [2,4,8] [] rfl rfl [(7,.o (.ptr 0 2 0 0))] [(0,.cells 71 2 [[.d (iD (AF te)),DN (Fk r)]])] [5] (rl hΓ rfl) (by (simp[cX,zC,hΓ])) ?_;(try dsimp only[cA,cB]);exact hk _ Γ' _ hΓ (hV r).2 (hV r).1))
    case h =>
      intro TB1 Γ1 c1 hΓ hTb1 hV
      have htv:=CG hV (AF te) (Fq hok) x (fun h=>hgr h x B6) hz
      have hcw:=Hh hV (AF te) w hw
      by_cases hv:AG (Cn te) (AF te) x=true
      · have hb:=(Bu hv).1.bd
        rw [hv,Bool.true_and]
        rw [hv] at htv
        by_cases hl:Ga (AF te) w=true
        · have hlf:=Ts hl
          have hmk:=Ia hV (AF te) x w (by have:=hb.cl;omega) (hgw (Bu hv).1 ⟨hlf.1,hlf.2.1⟩) (fun y hy=>by have h1:=hb.onC y hy;omega)
          rw [hl] at hcw ⊢
          (repeat' first|refine tA rfl ?_ |refine s2 rfl fun _ _hb=>?_|(refine Ag rfl ?_;refine gA rfl ?_;first| refine gS (fun _ _=>AT rfl rfl (by simp [E.A1,C.A1,C.Bw,hV.A1]) (htv) rfl) ?_|refine gS (fun _ _=>AT rfl rfl (by simp [E.A1,C.A1,C.Bw,hV.A1]) (hcw) rfl) ?_) |refine s3 rfl ?_ ?_<;>rintro rfl |refine aU rfl ?_ |refine Aa ?_|(refine aC rfl ?_ ?_<;>rintro ⟨⟩));all_goals try contradiction
          refine aK ?_
          (repeat first|refine tA rfl ?_|(refine Ag rfl ?_;refine gA rfl ?_;first| refine gS (fun _ _=>AT rfl rfl (by simp [E.A1,C.A1,C.Bw,hV.A1]) (hmk) rfl) ?_) |refine aU rfl ?_ |refine Aa ?_)
          (subst_vars;exact aR ⟨_,rfl,rfl⟩)
        · rw [Bool.not_eq_true] at hl
          rw [hl] at hcw ⊢
          (repeat' first|refine tA rfl ?_ |refine s2 rfl fun _ _hb=>?_|(refine Ag rfl ?_;refine gA rfl ?_;first| refine gS (fun _ _=>AT rfl rfl (by simp [E.A1,C.A1,C.Bw,hV.A1]) (htv) rfl) ?_|refine gS (fun _ _=>AT rfl rfl (by simp [E.A1,C.A1,C.Bw,hV.A1]) (hcw) rfl) ?_) |refine s3 rfl ?_ ?_<;>rintro rfl |refine aU rfl ?_ |refine Aa ?_|(refine aC rfl ?_ ?_<;>rintro ⟨⟩));all_goals try contradiction
          (subst_vars;exact aR ⟨_,rfl,rfl⟩)
      · rw [Bool.not_eq_true] at hv
        rw [hv] at htv ⊢
        (repeat' first|refine tA rfl ?_ |refine s2 rfl fun _ _hb=>?_|(refine Ag rfl ?_;refine gA rfl ?_;first| refine gS (fun _ _=>AT rfl rfl (by simp [E.A1,C.A1,C.Bw,hV.A1]) (htv) rfl) ?_) |refine s3 rfl ?_ ?_<;>rintro rfl |refine aU rfl ?_ |refine Aa ?_|(refine aC rfl ?_ ?_<;>rintro ⟨⟩));all_goals try contradiction
        (subst_vars;exact aR ⟨_,rfl,rfl⟩)
  · rw [Bool.not_eq_true] at hok
    have hno:=Ed (TB:=({ tabs:=tabs,hid:=none }:Bc)) hok
    rw [hok,Bool.false_and]
    refine eG Tryz.func33 rfl (by kernel_rfl) rfl ?_;intro Γ hΓ
    (repeat first|refine tA rfl ?_ |refine s2 rfl fun _ _hb=>?_ |refine sP rfl (hno) rfl ?_ |refine s3 rfl ?_ ?_<;>rintro rfl |refine aU rfl ?_ |refine Aa ?_)
    (repeat' first|refine tA rfl ?_ |refine aU rfl ?_ |refine Aa ?_|(refine aC rfl ?_ ?_<;>rintro ⟨⟩));all_goals try contradiction
    (subst_vars;exact aR ⟨_,rfl,rfl⟩)
end
def ZB (A:W→Bool) (al:Int) (t:AZ):Option AZ:=if AG A al t then A3 A (A6 al) 13 t else none
end Go.Am
namespace Go.Am
open Go
set_option linter.unusedVariables false
theorem Sx {p:Ci} (hp:Bh p=true):Sm (Gh p) (LA p) p.al:=fun w hw hl=>by
  unfold Gh
  rw [hp,Ep hw hl (AX hp).1];rfl
end Go.Am
namespace Go.Am
open Go Go.Proofs
set_option maxHeartbeats 1000000
attribute [local irreducible] AU B3 Lex Br Ai Spec
variable {TB:Bc}
noncomputable def HH (te:Da) (w:W):Bool:=if te.kn then Gh te.p w else Ev ⟨te.s,te.q,te.al⟩ w
def Gb (te:Da):Int:=if CP te then AF te else -1
theorem SE (te:Da):Hn Tryz.prog TB 60 101 te (Gb te) (HH te):=by
  obtain ⟨kn,p,s,q,al⟩:=te
  cases kn with
  | true=>exact Zy (t:=⟨true,p,s,q,al⟩) rfl
  | false=>exact WI (t:=⟨false,p,s,q,al⟩) rfl
theorem RV {t:B8} (ht:AR t=true):Sm (Ev t) (LS t) t.al:=fun w hw hl=>by
  have hta:Bn t.al=true:=by unfold AR at ht;simp only [Bool.and_eq_true] at ht;exact ht.2.2
  unfold Ev
  rw [ht,Ep hw hl hta];rfl
theorem Le {te:Da} (hok:CP te=true):Sm (HH te) (Cn te) (AF te):=by
  obtain ⟨kn,p,s,q,al⟩:=te
  cases kn with
  | true=>exact Sx hok
  | false=>exact RV (t:=⟨s,q,al⟩) hok
theorem Tm (te:Da):Pure Tryz.prog TB 26 [BR te] (eI .i64 (Gb te)):=by
  obtain ⟨kn,p,s,q,al⟩:=te
  cases kn with
  | true=>exact DV p s q al
  | false=>exact Ex p ⟨s,q,al⟩
theorem JJ {tabs:List (Nat×Obj)} [hTb:DZ ⟨tabs,none⟩] {t:B8} (w:W) (hl:w.length≤1099511627776):Pure Tryz.prog ⟨tabs,none⟩ 73 [Gk t,eT w] (eB (Ev t w)):=by
  have hv:=Fa (TB:=({ tabs:=tabs,hid:=none }:Bc)) t
  have hw:=Dv (TB:=({ tabs:=tabs,hid:=none }:Bc)) w t.al hl
  by_cases h:(AR t && within w t.al)=true
  · have ht:AR t=true:=by revert h;cases AR t<;>simp
    have hwi:within w t.al=true:=by revert h;cases within w t.al<;>simp
    have hn:=Lo hwi
    have hA:Ev t w=LS t w:=by unfold Ev;rw [ht,hwi];rfl
    rw [hA]
    rw [ht] at hv
    rw [hwi] at hw
    obtain ⟨m,hm,hns⟩:=Ig (TB:=({ tabs:=tabs,hid:=none }:Bc)) ht fun v=>okB t.al w∧v=w
    have hwB:okB t.al w:=⟨Cq hwi,HI hwi⟩
    have hfew:Wg t (fun v=>okB t.al w∧v=w):=Qn (n:=1) (al:=t.al) (Di.if fun h=>⟨[w],by simp,fun v hv=>by simp [hv]⟩) (by omega) (fun v ⟨h,hv⟩=>by rw [hv];exact h)
    have hsf:=Nw (TB:=({ tabs:=tabs,hid:=none }:Bc)) ht hfew hm ⟨hwB,rfl⟩ hn (by have:=HI hwi;omega)
    refine eG Tryz.func73 rfl (by kernel_rfl) rfl ?_;intro Γ hΓ
    (repeat first|refine tA rfl ?_ |refine sP rfl (hv) rfl ?_|refine sP rfl (hw) rfl ?_ |refine aU rfl ?_ |refine Aa ?_)
    (refine pW rfl ?_ rfl (by rfl);refine A8 [] rfl rfl 0 (hns) (by decide) ⟨rfl,by decide,by decide⟩ rfl (by simp[cX,zC,hΓ,AE]) ?_;rintro x0 σ1 nx1 ⟨rfl,rfl,rfl⟩ _)
    (repeat first|refine tA rfl ?_)
    (refine pW rfl ?_ rfl (by rfl);refine A8 [0,1,2,3,4] rfl rfl 1 (hsf) (by decide) ⟨rfl,by decide,by decide⟩ rfl (by simp[cX,zC,hΓ,AE]) ?_;rintro x0 σ1 nx1 ⟨rfl,rfl,m',hm',rfl⟩ _)
    (repeat first|refine tA rfl ?_)
    refine Aa ?_
    (subst_vars;exact aR ⟨_,rfl,rfl⟩)
  · have hA:Ev t w=false:=by unfold Ev;revert h;cases AR t<;>cases within w t.al<;>simp
    rw [hA]
    refine eG Tryz.func73 rfl (by kernel_rfl) rfl ?_;intro Γ hΓ
    (repeat' first|refine tA rfl ?_ |(refine sC rfl (hv) ?_;intro _ _hb)|(refine sC rfl (hw) ?_;intro _ _hb) |refine s3 rfl ?_ ?_<;>rintro rfl |refine aU rfl ?_ |refine Aa ?_|(refine aC rfl ?_ ?_<;>rintro ⟨⟩));all_goals try contradiction
    all_goals first
      | (subst_vars;exact aR ⟨_,rfl,rfl⟩)
      | (exfalso;simp_all;done)
theorem Qp {tabs:List (Nat×Obj)} [hTb:DZ ⟨tabs,none⟩] {te:Da} (w:W) (hl:w.length≤1099511627776):Pure Tryz.prog ⟨tabs,none⟩ 29 [BR te,eT w] (eB (HH te w)):=by
  obtain ⟨kn,p,s,q,al⟩:=te
  cases kn with
  | true=>
    have h1:=JG (TB:=({ tabs:=tabs,hid:=none }:Bc)) p w hl
    refine eN Tryz.func29 rfl (by kernel_rfl) rfl ?_;intro Γ hΓ
    (repeat' first|refine tA rfl ?_ |refine sP rfl (h1) rfl ?_ |refine aU rfl ?_ |refine Aa ?_|(refine aC rfl ?_ ?_<;>rintro ⟨⟩)|refine aK ?_|refine aE ?_|refine aB ?_|refine aR ⟨_,rfl,?_⟩)
    all_goals rfl
  | false=>
    have h1:=JJ (tabs:=tabs) (t:=⟨s,q,al⟩) w hl
    refine eN Tryz.func29 rfl (by kernel_rfl) rfl ?_;intro Γ hΓ
    (repeat' first|refine tA rfl ?_ |refine sP rfl (h1) rfl ?_ |refine aU rfl ?_ |refine Aa ?_|(refine aC rfl ?_ ?_<;>rintro ⟨⟩)|refine aK ?_|refine aE ?_|refine aB ?_|refine aR ⟨_,rfl,?_⟩)
    all_goals rfl
theorem Se {A:W→Bool} {t:AZ}:AG A (-1) t=false:=by
  cases h:AG A (-1) t
  · rfl
  · have:=(Bu h).1.pos;omega
theorem PX {A L:W→Bool} {al:Int} (h:Sm A L al) (t:AZ):AG A al t=AG L al t:=by
  unfold AG
  cases hs:Dd al t
  · rfl
  · rw [Jd h (K8 hs).bd (by omega)]
theorem Ln (te:Da) (x:AZ):(CP te && AG (Cn te) (AF te) x)=AG (HH te) (Gb te) x:=by
  unfold Gb
  cases hok:CP te
  · simp [Se]
  · rw [if_pos rfl,Bool.true_and,PX (Le hok)]
theorem Ha {te:Da} {x:AZ} (h:AG (HH te) (Gb te) x=true):CP te=true∧Gb te=AF te∧AG (Cn te) (AF te) x=true∧NW (AF te) x∧(AA (Cn te) x).Nodup:=by
  rw [←Ln,Bool.and_eq_true] at h
  exact ⟨h.1,by unfold Gb;rw [if_pos h.1],h.2,(Bu h.2).1,(Bu h.2).2⟩
theorem Vr {al:Int} (ha:Bn al=true) {w:W} (h:AW (A6 al) w) (hl:w.length≤4000):Ga al w=true:=by
  unfold Ga
  rw [Ep h (by omega) ha,decide_eq_true hl];rfl
theorem VP {te:Da} {x:AZ} (h:AG (HH te) (Gb te) x=true) {w:W} (hw:AW (A6 (AF te)) w) (hl:w.length≤4000):Up te x w=marks (Cn te) x.cols w:=by
  obtain ⟨h1,h2,h3,h4,h5⟩:=Ha h
  unfold Up
  rw [h1,h3,Vr (Fq h1) hw hl];rfl
theorem Y5 {te:Da} {x:AZ} (h:AG (HH te) (Gb te) x=true) {w:W} (hw:w∈x.rows):Up te x w=marks (Cn te) x.cols w:=by
  obtain ⟨h1,h2,h3,h4,h5⟩:=Ha h
  have h6:=h4.bd.onR w hw
  obtain ⟨i,hi,he⟩:=List.getElem_of_mem hw
  have h7:=h4.short i w (by rw [List.getElem?_eq_getElem hi,he])
  have h8:=h4.rl
  exact VP h h6.1 (by omega)
theorem Yw {L:W→Bool} {x:AZ} (h:(AA L x).Nodup) {i k:Nat} {u w:W} (hi:x.rows[i]? = some u) (hk:x.rows[k]? = some w) (hne:k < i):marks L x.cols u≠marks L x.cols w:=by
  intro he
  have h1:(AA L x)[i]? = some (marks L x.cols u):=by unfold AA;simp [hi]
  have h2:(AA L x)[k]? = some (marks L x.cols u):=by unfold AA;simp [hk,he]
  obtain ⟨a1,a2⟩:=List.getElem?_eq_some_iff.1 h1
  obtain ⟨b1,b2⟩:=List.getElem?_eq_some_iff.1 h2
  exact List.pairwise_iff_getElem.1 h k i b1 a1 hne (by rw [a2,b2])
theorem SQ {L:W→Bool} {ls:List UInt8}:∀ {n:Nat} {t u:AZ},Su L ls t→A3 L ls n t=some u→Su L ls u∧AV L ls u=none∧t.rows <+: u.rows∧u.cols=t.cols∧(t.rows.length≤12→u.rows.length≤12)∧(AV L ls t≠none→t.rows.length < u.rows.length)∧(AV L ls t=none→u=t)
  | 0,t,u,_,h=>by simp [A3] at h
  | n + 1,t,u,hk,h=>by
    unfold A3 at h
    cases ho:AV L ls t with
    | none=>
      rw [ho] at h
      injection h with h;subst h
      exact ⟨hk,ho,List.prefix_refl _,rfl,id,fun h=>absurd rfl h,fun _=>rfl⟩
    | some w=>
      rw [ho] at h
      dsimp only at h
      split at h
      · cases h
      · rename_i hn
        obtain ⟨h1,h2,h3,h4,h5,h6,h7⟩:=SQ (hk.push ho) h
        have hp:=(List.prefix_append t.rows [w]).trans h3
        refine ⟨h1,h2,hp,h4,fun h=>h5 (by simp;omega),fun _=>?_,fun h=>by cases h⟩
        have:=h3.length_le
        simp at this;omega
theorem Ye (te:Da) (x:AZ):(if AG (HH te) (Gb te) x then A3 (HH te) (A6 (Gb te)) 13 x else none)=SS te x:=by
  unfold SS
  rw [Ln]
  by_cases hv:AG (HH te) (Gb te) x=true
  · obtain ⟨h1,h2,h3,h4,h5⟩:=Ha hv
    rw [hv,h2,if_pos rfl,if_pos rfl]
    exact Kj (Le h1) 13 h4.bd (by omega)
  · rw [Bool.not_eq_true] at hv;rw [hv,if_neg Bool.false_ne_true,if_neg Bool.false_ne_true]
theorem Zn (te:Da) (x:AZ):(if AG (HH te) (Gb te) x then AV (HH te) (A6 (Gb te)) x else none)=QF te x:=by
  unfold QF
  rw [Ln]
  by_cases hv:AG (HH te) (Gb te) x=true
  · obtain ⟨h1,h2,h3,h4,h5⟩:=Ha hv
    rw [hv,h2,if_pos rfl,if_pos rfl]
    exact MA (Le h1) h4.bd (by omega)
  · rw [Bool.not_eq_true] at hv;rw [hv,if_neg Bool.false_ne_true,if_neg Bool.false_ne_true]
theorem XI {te:Da} {x:AZ} (h:AG (HH te) (Gb te) x=true):(CP te && Cw (Cn te) (AF te) x)=(AV (Cn te) (A6 (AF te)) x).isNone:=by
  obtain ⟨h1,h2,h3,h4,h5⟩:=Ha h
  rw [h1,EN,h3];rfl
theorem Zb {te:Da} {x:AZ} (h:AG (HH te) (Gb te) x=true):NJ x:=by
  obtain ⟨_,_,_,h4,_⟩:=Ha h
  exact ⟨by have:=h4.rl;omega,by have:=h4.cl;omega,fun w hw=>by have:=(h4.rw w hw).1;omega,fun w hw=>by have:=(h4.cw w hw).1;omega⟩
end Go.Am
