/-
  Classes of the states of an automaton, plainly.
-/
import Derived.Test.YtliafogflkcnbaaGreatDoorPart14
import Derived.Test.YtliafogflkcnbaaGreatDoorPart5
import Derived.Test.YtliafogflkcnbaaGreatDoorPart8
set_option linter.constructorNameAsVariable false
set_option linter.unusedSectionVars false
set_option linter.unusedSimpArgs false
set_option linter.unusedVariables false
namespace Go.Am
set_option linter.unusedVariables false
def GC(a:AN)(cs:List Int)(q:Nat):List Int:=cs.getD q 0::(a.nx.getD q []).map fun x=>cs.getD x.toNat 0
def BN(a:AN)(cs:List Int):List (List Int):=(List.range a.nx.length).map (GC a cs)
def Th(a:AN):Nat→List Int→Nat→List (List Int)
 | 0,cs,_=>BN a cs
 | k+1,cs,n=>if (uq (BN a cs)).length=n then BN a cs else Th a k (Dp (BN a cs)) (uq (BN a cs)).length
def FA(a:AN):List Int:=a.ac.map fun b=>if b then 1 else 0
def DH(a:AN):List (List Int):=Th a (a.nx.length+1) (FA a) 0
def NG(a:AN):List Int:=Dp (DH a)
def P0(a:AN)(q r:Int):Prop:=∀w,Al (AP a.al) w→EB a (AL a q w)=EB a (AL a r w)
theorem Dt(a:AN)(cs:List Int):(BN a cs).length=a.nx.length:=by simp [BN]
theorem Bh{a:AN}{cs:List Int}{q:Nat}(h:q < a.nx.length):(BN a cs)[q]? = some (GC a cs q):=by simp [BN,h]
theorem QW{a:AN}(h:HY a){q:Nat}(hq:q < a.nx.length):a.nx[q]? = some ((Ac a.al).map (Bm a q)):=by
 obtain⟨row,h1,h2,_⟩:=h.2 q hq
 rw [h1]
 congr 1
 apply List.ext_getElem?
 intro i
 rw [List.getElem?_map]
 cases hl:(Ac a.al)[i]? with
 | none=>
  have:=List.getElem?_eq_none_iff.1 hl
  rw [List.getElem?_eq_none (by omega)];rfl
 | some l=>
  have hb:=Au (List.mem_of_getElem? hl)
  have hlt:=(List.getElem?_eq_some_iff.1 hl).1
  obtain⟨y,hy⟩:=get_some (l:=row) (k:=i) (by omega)
  rw [hy,Option.map_some]
  congr 1
  unfold Bm
  rw [if_pos hb.2.2,DA hl,List.getD_eq_getElem?_getD,List.getD_eq_getElem?_getD,h1,Option.getD_some,hy];rfl
theorem Kt{a:AN}(h:HY a){cs:List Int}{q:Nat}(hq:q < a.nx.length):GC a cs q=cs.getD q 0::(Ac a.al).map fun l=>cs.getD (Bm a q l).toNat 0:=by
 unfold GC
 rw [DY (QW h hq),List.map_map];rfl
theorem P0.step{a:AN}{q r:Int}(h:P0 a q r){l:Int}(hl:l∈Ac a.al):P0 a (Bm a q.toNat l) (Bm a r.toNat l):=fun w hw=>by
 have hb:=Au hl
 have h1:=h (lb l::w) (fun c hc=>by
  rcases List.mem_cons.1 hc with rfl|hc
  ·exact List.mem_map.2 ⟨l,hl,rfl⟩
  ·exact hw c hc)
 have e:∀p:Int,AL a p (lb l::w)=AL a (Bm a p.toNat l) w:=fun p=>by
  show AL a (Bm a p.toNat (((lb l).toNat:Int) - 97)) w=_
  rw [Eo hb.1 (by omega)]
 rw [e,e] at h1
 exact h1
structure YC (a:AN) (ks:List (List Int)):Prop where
 len:ks.length=a.nx.length
 ac:∀q r:Nat,q < a.nx.length→r < a.nx.length→ks[q]? = ks[r]?→EB a q=EB a r
 go:∀q r:Nat,q < a.nx.length→r < a.nx.length→ks[q]? = ks[r]?→∀l∈Ac a.al,ks[(Bm a q l).toNat]? = ks[(Bm a r l).toNat]?
 res:∀q r:Nat,q < a.nx.length→r < a.nx.length→P0 a q r→ks[q]? = ks[r]?
theorem Yr{a:AN}{cs:List Int}(h:cs.length=a.nx.length):(BN a cs).map (fun k=>k.headD 0)=cs:=by
 apply List.ext_getElem?
 intro i
 rw [List.getElem?_map]
 by_cases hi:i < a.nx.length
 ·rw [Bh hi,Option.map_some]
  show some (cs.getD i 0)=_
  obtain⟨y,hy⟩:=get_some (l:=cs) (k:=i) (by omega)
  rw [List.getD_eq_getElem?_getD,hy];rfl
 ·rw [List.getElem?_eq_none (by rw [Dt];omega),List.getElem?_eq_none (by omega)];rfl
theorem GK{α:Type}[DecidableEq α]{l:List α}{q:Nat}{x:α}(h:l[q]? = some x):(Dp l).getD q 0=CJ l x:=by
 unfold Dp
 rw [List.getD_eq_getElem?_getD,List.getElem?_map,h];rfl
theorem RU{a:AN}(h:HY a)(h1:1≤a.nx.length):∀(k:Nat) {cs:List Int} {n:Nat},cs.length=a.nx.length→
 (∀q r:Nat,q < a.nx.length→r < a.nx.length→P0 a q r→cs.getD q 0=cs.getD r 0)→
 (∀q r:Nat,q < a.nx.length→r < a.nx.length→cs.getD q 0=cs.getD r 0→EB a q=EB a r)→
 (n=0∨n=(uq cs).length)→a.nx.length+1≤k+n→YC a (Th a k cs n)
 | 0,cs,n,hl,_,_,hn,hk=>by
  have:=GR cs
  omega
 | k + 1,cs,n,hl,hc,hac,hn,hk=>by
  have hhd:=Yr (a:=a) hl
  have hin:∀q:Nat,q < a.nx.length→∀l∈Ac a.al,(Bm a q l).toNat < a.nx.length:=fun q hq l hm=>by
   have hb:=Au hm
   have:=Cq h hq hb.1 (by omega)
   omega
  have hcomp:∀q r:Nat,q < a.nx.length→r < a.nx.length→P0 a q r→GC a cs q=GC a cs r:=fun q r hq hr hqr=>by
   rw [Kt h hq,Kt h hr,hc q r hq hr hqr]
   congr 1
   refine List.map_congr_left fun l hm=>hc _ _ (hin q hq l hm) (hin r hr l hm) ?_
   have hb:=Au hm
   have e1:=Cq h hq hb.1 (by omega)
   have e2:=Cq h hr hb.1 (by omega)
   have:=hqr.step hm
   rw [Int.toNat_natCast,Int.toNat_natCast] at this
   rw [show (((Bm a q l).toNat:Nat):Int)=Bm a q l by omega,show (((Bm a r l).toNat:Nat):Int)=Bm a r l by omega]
   exact this
  have hcnt:1≤(uq (BN a cs)).length:=by
   have:GC a cs 0∈uq (BN a cs):=Cz.2 (List.mem_of_getElem? (Bh (by omega)))
   exact List.length_pos_of_mem this
  have hmap:=Ry (fun k:List Int=>k.headD 0) (BN a cs)
  rw [hhd] at hmap
  unfold Th
  split
  ·rename_i he
   have hcl:(uq cs).length=(uq (BN a cs)).length:=by omega
   have hcs:∀q r:Nat,q < a.nx.length→r < a.nx.length→cs.getD q 0=cs.getD r 0→GC a cs q=GC a cs r:=fun q r hq hr e=>
    ZV (f:=fun k:List Int=>k.headD 0) (l:=BN a cs) (by rw [hhd];omega) (List.mem_of_getElem? (Bh hq)) (List.mem_of_getElem? (Bh hr)) e
   refine⟨Dt _ _,fun q r hq hr e=>?_,fun q r hq hr e l hm=>?_,fun q r hq hr e=>?_⟩
   ·rw [Bh hq,Bh hr] at e
    injection e with e
    refine hac q r hq hr ?_
    unfold GC at e
    injection e
   ·rw [Bh hq,Bh hr] at e
    injection e with e
    rw [Kt h hq,Kt h hr] at e
    injection e with _ e
    rw [Bh (hin q hq l hm),Bh (hin r hr l hm)]
    congr 1
    exact hcs _ _ (hin q hq l hm) (hin r hr l hm) (List.map_inj_left.1 e l hm)
   ·rw [Bh hq,Bh hr,hcomp q r hq hr e]
  ·rename_i he
   refine RU h h1 k (by simp [Dp,Dt]) (fun q r hq hr e=>?_) (fun q r hq hr e=>?_) (.inr (SZ _).symm) (by omega)
   ·rw [GK (Bh hq),GK (Bh hr),hcomp q r hq hr e]
   ·rw [GK (Bh hq),GK (Bh hr)] at e
    have e:=Lo (List.mem_of_getElem? (Bh hq)) e
    refine hac q r hq hr ?_
    unfold GC at e
    injection e
theorem Jd{a:AN}(h:HY a)(h1:1≤a.nx.length)(hac:a.ac.length=a.nx.length):YC a (DH a):=by
 have hg:∀q:Nat,q < a.nx.length→(FA a).getD q 0=if EB a q then 1 else 0:=fun q hq=>by
  obtain⟨b,hb⟩:=get_some (l:=a.ac) (k:=q) (by omega)
  unfold FA EB
  rw [List.getD_eq_getElem?_getD,List.getElem?_map,hb,Int.toNat_natCast,List.getD_eq_getElem?_getD,hb];rfl
 refine RU h h1 _ (by simp [FA,hac]) (fun q r hq hr e=>?_) (fun q r hq hr e=>?_) (.inl rfl) (by omega)
 ·have e:EB a q=EB a r:=e [] (fun c hc=>by cases hc)
  rw [hg q hq,hg r hr,e]
 ·rw [hg q hq,hg r hr] at e
  cases h1:EB a q<;>cases h2:EB a r<;>rw [h1,h2] at e<;>first|rfl|cases e
theorem YC.run{a:AN}(hB:HY a){ks:List (List Int)}(h:YC a ks):∀(w:W) (q r:Nat),q < a.nx.length→r < a.nx.length→ks[q]? = ks[r]?→Al (AP a.al) w→EB a (AL a q w)=EB a (AL a r w)
 | [],q,r,hq,hr,e,_=>h.ac q r hq hr e
 | c::w,q,r,hq,hr,e,hw=>by
  obtain⟨l,hl,rfl⟩:=List.mem_map.1 (hw c (by simp))
  have hb:=Au hl
  have e1:=Cq hB hq hb.1 (by omega)
  have e2:=Cq hB hr hb.1 (by omega)
  have ih:=YC.run hB h w (Bm a q l).toNat (Bm a r l).toNat (by omega) (by omega) (h.go q r hq hr e l hl) fun d hd=>hw d (by simp [hd])
  rw [show (((Bm a q l).toNat:Nat):Int)=Bm a q l by omega,show (((Bm a r l).toNat:Nat):Int)=Bm a r l by omega] at ih
  show EB a (AL a (Bm a ((q:Int).toNat) (((lb l).toNat:Int) - 97)) w)=EB a (AL a (Bm a ((r:Int).toNat) (((lb l).toNat:Int) - 97)) w)
  rw [Eo hb.1 (by omega),Int.toNat_natCast,Int.toNat_natCast]
  exact ih
theorem YC.iff{a:AN}(hB:HY a){ks:List (List Int)}(h:YC a ks){q r:Nat}(hq:q < a.nx.length)(hr:r < a.nx.length):ks[q]? = ks[r]?↔P0 a q r:=
 ⟨fun e w hw=>h.run hB w q r hq hr e hw,h.res q r hq hr⟩
def C7(n:Nat):W:=if n < 10 then [UInt8.ofNat (48+n)] else [UInt8.ofNat (48+n / 10),UInt8.ofNat (48+n % 10)]
def C3(l:List Int):W:=l.flatMap fun x=>44::C7 x.toNat
def Qu:List Int→W
 | []=>[]
 | c::l=>C7 c.toNat++C3 l
theorem OL:((List.range 100).all fun n=>(List.range 100).all fun m=>decide (C7 n=C7 m→n=m) && !(C7 n).contains 44)=true:=by decide +kernel
theorem OK{n m:Nat}(hn:n < 100)(hm:m < 100)(h:C7 n=C7 m):n=m:=by
 have h1:=List.all_eq_true.1 (List.all_eq_true.1 OL n (List.mem_range.2 hn)) m (List.mem_range.2 hm)
 rw [Bool.and_eq_true] at h1
 exact of_decide_eq_true h1.1 h
theorem Kq{n:Nat}(hn:n < 100):(44:UInt8)∉C7 n:=fun h=>by
 have h1:=List.all_eq_true.1 (List.all_eq_true.1 OL n (List.mem_range.2 hn)) n (List.mem_range.2 hn)
 rw [Bool.and_eq_true] at h1
 have h2:=h1.2
 simp at h2
 exact h2 h
theorem Qj{c:UInt8}:∀ {u v x y:W},c∉u→c∉v→(x=[]∨∃z,x=c::z)→(y=[]∨∃z,y=c::z)→u++x=v++y→u=v∧x=y
 | [],[],x,y,_,_,_,_,h=>⟨rfl,h⟩
 | [],d::v,x,y,_,hv,hx,_,h=>by
  exfalso
  have h:x=d::(v++y):=h
  rcases hx with rfl|⟨z,rfl⟩
  ·cases h
  ·injection h with h _
   exact hv (by rw [h];simp)
 | d :: u,[],x,y,hu,_,_,hy,h=>by
  exfalso
  have h:d::(u++x)=y:=h
  rcases hy with rfl|⟨z,rfl⟩
  ·cases h
  ·injection h with h _
   exact hu (by rw [h];simp)
 | d::u,e::v,x,y,hu,hv,hx,hy,h=>by
  have h:d::(u++x)=e::(v++y):=h
  injection h with h1 h2
  obtain⟨h3,h4⟩:=Qj (fun hm=>hu (by simp [hm])) (fun hm=>hv (by simp [hm])) hx hy h2
  exact⟨by rw [h1,h3],h4⟩
theorem Hh(l:List Int):C3 l=[]∨∃z,C3 l=44::z:=by
 cases l with
 | nil=>exact .inl rfl
 | cons x l=>exact .inr ⟨_,rfl⟩
theorem Ns:∀ {l m:List Int},(∀x∈l,0≤x∧x < 100)→(∀x∈m,0≤x∧x < 100)→C3 l=C3 m→l=m
 | [],[],_,_,_=>rfl
 | [],_::_,_,_,h=>by cases h
 | _::_,[],_,_,h=>by cases h
 | x::l,y::m,hl,hm,h=>by
  have h:44::(C7 x.toNat++C3 l)=44::(C7 y.toNat++C3 m):=h
  injection h with _ h
  have hx:=hl x (by simp)
  have hy:=hm y (by simp)
  obtain⟨h1,h2⟩:=Qj (Kq (by omega)) (Kq (by omega)) (Hh l) (Hh m) h
  have:=OK (by omega) (by omega) h1
  rw [show x=y by omega,Ns (fun z hz=>hl z (by simp [hz])) (fun z hz=>hm z (by simp [hz])) h2]
theorem U8{k k':List Int}(hk:∀x∈k,0≤x∧x < 100)(hk':∀x∈k',0≤x∧x < 100)(h1:k≠[])(h2:k'≠[])(h:Qu k=Qu k'):k=k':=by
 cases k with
 | nil=>exact absurd rfl h1
 | cons x l=>
  cases k' with
  | nil=>exact absurd rfl h2
  | cons y m=>
   have hx:=hk x (by simp)
   have hy:=hk' y (by simp)
   obtain⟨h3,h4⟩:=Qj (Kq (by omega)) (Kq (by omega)) (Hh l) (Hh m) h
   have:=OK (by omega) (by omega) h3
   rw [show x=y by omega,Ns (fun z hz=>hk z (by simp [hz])) (fun z hz=>hk' z (by simp [hz])) h4]
section
variable {α β:Type}[DecidableEq α][DecidableEq β]
theorem Mc{f:α→β}:∀(l u:List α),(∀x y,x∈u++l→y∈u++l→f x=f y→x=y)→uniq (u.map f) (l.map f)=(uniq u l).map f
 | [],u,_=>rfl
 | x :: l,u,h=>by
  have hm:f x∈u.map f↔x∈u:=by
   constructor
   ·intro hx
    obtain⟨y,hy,e⟩:=List.mem_map.1 hx
    rwa [←h y x (by simp [hy]) (by simp) e]
   ·intro hx;exact List.mem_map.2 ⟨x,hx,rfl⟩
  show uniq (if f x∈u.map f then u.map f else u.map f++[f x]) (l.map f)=(uniq (if x∈u then u else u++[x]) l).map f
  by_cases hx:x∈u
  ·rw [if_pos (hm.2 hx),if_pos hx]
   exact Mc l u fun y z hy hz=>h y z (by
    rcases List.mem_append.1 hy with h|h<;>simp [h]) (by
    rcases List.mem_append.1 hz with h|h<;>simp [h])
  ·rw [if_neg (fun e=>hx (hm.1 e)),if_neg hx]
   have e:u.map f++[f x]=(u++[x]).map f:=by simp
   rw [e]
   exact Mc l (u++[x]) fun y z hy hz=>h y z (by simpa [or_assoc] using hy) (by simpa [or_assoc] using hz)
theorem WT{f:α→β}{l:List α}(h:∀x y,x∈l→y∈l→f x=f y→x=y):uq (l.map f)=(uq l).map f:=by
 have:=Mc l [] (f:=f) (by simpa using h)
 exact this
theorem Vz{f:α→β}{l:List α}(h:∀x y,x∈l→y∈l→f x=f y→x=y){x:α}(hx:x∈l):CJ (l.map f) (f x)=CJ l x:=by
 have h1:=Ln hx
 have h2:(uq (l.map f))[(CJ l x).toNat]? = some (f x):=by rw [WT h,List.getElem?_map,h1];rfl
 have:=Sm h2
 have h3:=Ky hx
 omega
theorem VB{f:α→β}{l:List α}(h:∀x y,x∈l→y∈l→f x=f y→x=y):Dp (l.map f)=Dp l:=by
 unfold Dp
 rw [List.map_map]
 exact List.map_congr_left fun x hx=>Vz h hx
end
def E4(a:AN)(q:Int):Int:=(NG a).getD q.toNat 0
def BM(a:AN)(k:Nat):AN:=⟨a.al,(Bd (DH a) k).map fun q=>(a.nx.getD q []).map (E4 a),(Bd (DH a) k).map fun q=>a.ac.getD q false⟩
def CL(a:AN):AN:=BM a a.nx.length
def Dv(a:AN):AN:=Mf (CL a)
structure Fx (a:AN):Prop where
 b:HY a
 n1:1≤a.nx.length
 ac:a.ac.length=a.nx.length
theorem EJ{a:AN}(h:Ay a=true):Fx a:=by
 have:=Ar h
 exact⟨RO h,this.2.1,this.2.2.2⟩
theorem Fx.ah{a:AN}(h:Fx a):∀(w:W) {q:Int},Al (AP a.al) w→0≤q∧q < ((a.nx.length:Nat):Int)→0≤AL a q w∧AL a q w < ((a.nx.length:Nat):Int)
 | [],q,_,hq=>hq
 | c::w,q,hw,hq=>by
  have h1:=FK (hw c (by simp))
  exact Fx.ah h w (fun x hx=>hw x (by simp [hx])) (Cq h.b (q:=q.toNat) (by omega) h1.1 h1.2)
theorem JK(a:AN)(w:W):LA a w=EB a (AL a 0 w):=rfl
section
variable {a:AN}(h:Fx a)
include h
theorem Gu{q:Nat}(hq:q < a.nx.length):∃x,(DH a)[q]? = some x∧E4 a q=CJ (DH a) x∧0≤E4 a q∧E4 a q < ((CL a).nx.length:Nat):=by
 have hc:=Jd h.b h.n1 h.ac
 obtain⟨x,hx⟩:=get_some (l:=DH a) (k:=q) (by have:=hc.len;omega)
 have e:E4 a q=CJ (DH a) x:=by unfold E4 NG;rw [Int.toNat_natCast];exact GK hx
 have hl:=Ky (List.mem_of_getElem? hx)
 have hn:(CL a).nx.length=(uq (DH a)).length:=by
  unfold CL BM
  simp only [List.length_map]
  rw [Ci,List.take_of_length_le (by have:=hc.len;omega)]
 exact⟨x,hx,e,by omega,by omega⟩
theorem Qi{q r:Nat}(hq:q < a.nx.length)(hr:r < a.nx.length):E4 a q=E4 a r↔P0 a q r:=by
 have hc:=Jd h.b h.n1 h.ac
 obtain⟨x,hx,e,_⟩:=Gu h hq
 obtain⟨y,hy,e2,_⟩:=Gu h hr
 rw [←hc.iff h.b hq hr,e,e2,hx,hy]
 exact⟨fun k=>by rw [Lo (List.mem_of_getElem? hx) k],fun k=>by injection k with k;rw [k]⟩
theorem OI:E4 a 0=0:=by
 have hn:=h.n1
 obtain⟨x,hx,e,_⟩:=Gu h (q:=0) (by omega)
 have:=(Kx hx).2 (by simp [uq,uniq])
 have e:E4 a 0=CJ (DH a) x:=e
 rw [e,this];rfl
theorem Wq{q:Nat}(hq:q < a.nx.length):∃r:Nat,r < a.nx.length∧(Bd (DH a) a.nx.length)[(E4 a q).toNat]? = some r∧P0 a q r:=by
 have hc:=Jd h.b h.n1 h.ac
 obtain⟨x,hx,e,h0,h1⟩:=Gu h hq
 have hlen:(CL a).nx.length=(Bd (DH a) a.nx.length).length:=by simp [CL,BM]
 obtain⟨r,hr⟩:=get_some (l:=Bd (DH a) a.nx.length) (k:=(E4 a q).toNat) (by omega)
 obtain⟨h2,y,h3,h4⟩:=Dx _ _ _ _ hr
 rw [List.take_of_length_le (by have:=hc.len;omega)] at h4
 rw [e,Ln (List.mem_of_getElem? hx)] at h4
 injection h4 with h4
 subst h4
 exact⟨r,h2,hr,(hc.iff h.b hq h2).1 (hx.trans h3.symm)⟩
theorem SA{i:Nat}(hi:i < (CL a).nx.length):∃r:Nat,r < a.nx.length∧E4 a r=i:=by
 have hc:=Jd h.b h.n1 h.ac
 have hlen:(CL a).nx.length=(Bd (DH a) a.nx.length).length:=by simp [CL,BM]
 obtain⟨r,hr⟩:=get_some (l:=Bd (DH a) a.nx.length) (k:=i) (by omega)
 obtain⟨h2,y,h3,h4⟩:=Dx _ _ _ _ hr
 rw [List.take_of_length_le (by have:=hc.len;omega)] at h4
 obtain⟨x,hx,e,_⟩:=Gu h h2
 rw [hx] at h3;injection h3 with h3;subst h3
 refine⟨r,h2,?_⟩
 rw [e]
 exact Sm h4
theorem ZH:Fx (CL a)∧(CL a).nx.length≤a.nx.length:=by
 have hc:=Jd h.b h.n1 h.ac
 have hb:=h.b
 have hlen:(CL a).nx.length=(uq (DH a)).length:=by
  unfold CL BM
  simp only [List.length_map]
  rw [Ci,List.take_of_length_le (by have:=hc.len;omega)]
 have h2:=GR (DH a)
 have h3:=hc.len
 have hn:=h.n1
 obtain⟨x,hx,e,h0,h1⟩:=Gu h (q:=0) (by omega)
 refine⟨⟨⟨by have:=hb.1;omega,fun q hq=>?_⟩,by omega,by simp [CL,BM]⟩,by omega⟩
 have hq:q < ((Bd (DH a) a.nx.length).map fun q=>(a.nx.getD q []).map (E4 a)).length:=hq
 rw [List.length_map] at hq
 obtain⟨r,hr⟩:=get_some hq
 obtain⟨h5,_⟩:=Dx _ _ _ _ hr
 have hrow:=QW hb h5
 refine⟨((Ac a.al).map (Bm a r)).map (E4 a),?_,by simp;rfl,fun k y hy=>?_⟩
 ·show ((Bd (DH a) a.nx.length).map _)[q]? = _
  rw [List.getElem?_map,hr,Option.map_some,DY hrow]
 ·rw [List.getElem?_map,List.getElem?_map] at hy
  cases hl:(Ac a.al)[k]? with
  | none=>rw [hl] at hy;cases hy
  | some l=>
   rw [hl] at hy
   injection hy with hy
   have hlb:=Au (List.mem_of_getElem? hl)
   have hgi:=Cq hb h5 hlb.1 (by omega)
   obtain⟨_,_,_,h6,h7⟩:=Gu h (q:=(Bm a r l).toNat) (by omega)
   rw [show (((Bm a r l).toNat:Nat):Int)=Bm a r l by omega] at h6 h7
   subst hy
   exact⟨h6,h7⟩
theorem Wn{q:Nat}(hq:q < a.nx.length){l:Int}(hl:l∈Ac a.al):Bm (CL a) (E4 a q).toNat l=E4 a (Bm a q l):=by
 obtain⟨r,h1,h2,h3⟩:=Wq h hq
 have hlb:=Au hl
 have hrow:=QW h.b h1
 have e:Bm (CL a) (E4 a q).toNat l=E4 a (Bm a r l):=by
  unfold Bm
  rw [show ET (CL a).al l.toNat=true from hlb.2.2,hlb.2.2,if_pos rfl,if_pos rfl]
  show (((Bd (DH a) a.nx.length).map fun q=>(a.nx.getD q []).map (E4 a)).getD _ []).getD _ 0=_
  rw [List.getD_eq_getElem?_getD,List.getD_eq_getElem?_getD,List.getElem?_map,h2,Option.map_some,Option.getD_some,List.getElem?_map,DY hrow]
  show Option.getD (Option.map (E4 a) ((Ac a.al).map (Bm a r))[(Az a.al l.toNat).length]?) 0=E4 a (((Ac a.al).map (Bm a r)).getD (Az a.al l.toNat).length 0)
  rw [List.getD_eq_getElem?_getD,List.getElem?_map,MX hl];rfl
 rw [e]
 have g1:=Cq h.b hq hlb.1 (by omega)
 have g2:=Cq h.b h1 hlb.1 (by omega)
 have h4:=h3.step hl
 rw [Int.toNat_natCast,Int.toNat_natCast] at h4
 have:=(Qi h (q:=(Bm a r l).toNat) (r:=(Bm a q l).toNat) (by omega) (by omega)).2 (by
  rw [show (((Bm a r l).toNat:Nat):Int)=Bm a r l by omega,show (((Bm a q l).toNat:Nat):Int)=Bm a q l by omega]
  exact fun w hw=>(h4 w hw).symm)
 rw [show (((Bm a r l).toNat:Nat):Int)=Bm a r l by omega,show (((Bm a q l).toNat:Nat):Int)=Bm a q l by omega] at this
 exact this
theorem Wk{q:Nat}(hq:q < a.nx.length):EB (CL a) (E4 a q)=EB a q:=by
 obtain⟨r,h1,h2,h3⟩:=Wq h hq
 have h4:EB a q=EB a r:=h3 [] (fun c hc=>by cases hc)
 rw [h4]
 unfold EB
 show ((Bd (DH a) a.nx.length).map fun q=>a.ac.getD q false).getD _ false=_
 rw [List.getD_eq_getElem?_getD,List.getElem?_map,h2,Int.toNat_natCast];rfl
theorem Sx:∀(w:W) {q:Nat},q < a.nx.length→Al (AP a.al) w→AL (CL a) (E4 a q) w=E4 a (AL a q w)
 | [],q,_,_=>rfl
 | c::w,q,hq,hw=>by
  obtain⟨l,hl,rfl⟩:=List.mem_map.1 (hw c (by simp))
  have hlb:=Au hl
  have g1:=Cq h.b hq hlb.1 (by omega)
  have ih:=Sx w (q:=(Bm a q l).toNat) (by omega) fun d hd=>hw d (by simp [hd])
  rw [show (((Bm a q l).toNat:Nat):Int)=Bm a q l by omega] at ih
  show AL (CL a) (Bm (CL a) (E4 a q).toNat (((lb l).toNat:Int) - 97)) w=E4 a (AL a (Bm a ((q:Int).toNat) (((lb l).toNat:Int) - 97)) w)
  rw [Eo hlb.1 (by omega),Int.toNat_natCast,Wn h hq hl]
  exact ih
theorem Ob{q:Nat}(hq:q < a.nx.length){w:W}(hw:Al (AP a.al) w):EB (CL a) (AL (CL a) (E4 a q) w)=EB a (AL a q w):=by
 have:=h.ah w (q:=(q:Int)) hw (by omega)
 rw [Sx h w hq hw]
 have e:=Wk h (q:=(AL a q w).toNat) (by omega)
 rwa [show (((AL a q w).toNat:Nat):Int)=AL a q w by omega] at e
theorem ZI{w:W}(hw:Al (AP a.al) w):LA (CL a) w=LA a w:=by
 have hn:=h.n1
 have:=Ob h (q:=0) (by omega) hw
 rw [show (((0:Nat):Int))=0 from rfl,OI h] at this
 exact this
theorem ZJ{i j:Nat}(hi:i < (CL a).nx.length)(hj:j < (CL a).nx.length)(hr:P0 (CL a) i j):i=j:=by
 obtain⟨q,hq,e1⟩:=SA h hi
 obtain⟨r,hr',e2⟩:=SA h hj
 rw [←e1,←e2] at hr
 have:=(Qi h hq hr').2 fun w hw=>by
  have:=hr w hw
  rwa [Ob h hq hw,Ob h hr' hw] at this
 omega
end
structure ax (a m:AN):Prop where
 al:m.al=a.al
 g:Fx m
 n2:m.nx.length≤a.nx.length
 lang:∀w,Al (AP a.al) w→LA m w=LA a w
 rc:∀i:Nat,i < m.nx.length→∃w,Al (AP a.al) w∧AL m 0 w=i
 ds:∀i j:Nat,i < m.nx.length→j < m.nx.length→P0 m i j→i=j
theorem cx{a:AN}(h:Fx a)(hd:∀i j:Nat,i < a.nx.length→j < a.nx.length→P0 a i j→i=j){i j:Nat}(hi:i < (Mf a).nx.length)(hj:j < (Mf a).nx.length)(hr:P0 (Mf a) i j):i=j:=by
 obtain⟨nd,rows,_,h2,h3,h4,e⟩:=Rv h.b h.n1
 have hl:=h2.len
 rw [e] at hi hj hr
 have hi:i < rows.length:=hi
 have hj:j < rows.length:=hj
 obtain⟨x,hx⟩:=get_some (l:=nd) (k:=i) (by omega)
 obtain⟨y,hy⟩:=get_some (l:=nd) (k:=j) (by omega)
 have key:∀ {k:Nat} {z:Int},nd[k]? = some z→∀ {w:W},Al (AP a.al) w→EB ⟨a.al,rows,nd.map (EB a)⟩ (AL ⟨a.al,rows,nd.map (EB a)⟩ k w)=EB a (AL a z w):=fun {k z} hz {w} hw=>by
  obtain⟨m,h5,h6⟩:=ID h2 (ac:=nd.map (EB a)) w hw hz
  rw [h5]
  show (nd.map (EB a)).getD ((m:Int).toNat) false=_
  rw [Int.toNat_natCast,List.getD_eq_getElem?_getD,List.getElem?_map,h6];rfl
 have hxi:=h4 x (List.mem_of_getElem? hx)
 have hyi:=h4 y (List.mem_of_getElem? hy)
 have hxy:=hd x.toNat y.toNat (by omega) (by omega) fun w hw=>by
  have:=hr w hw
  rw [key hx hw,key hy hw] at this
  rw [show ((x.toNat:Nat):Int)=x by omega,show ((y.toNat:Nat):Int)=y by omega]
  exact this
 obtain rfl:x=y:=by omega
 exact(List.getElem?_inj (by omega) h2.nodup).1 (hx.trans hy.symm)
theorem QJ{a:AN}(h:Fx a):ax a (Dv a):=by
 obtain⟨g1,g2⟩:=ZH h
 obtain⟨h1,h2,h3,h4,h5⟩:=en g1.b g1.n1
 unfold Dv
 exact⟨cv _,⟨h1,h2,h4⟩,by omega,fun w hw=>by rw [aw g1.b g1.n1 hw];exact ZI h hw,h5,fun i j hi hj hr=>cx g1 (fun i j hi hj hr=>ZJ h hi hj hr) hi hj hr⟩
theorem canon{a x:AN}(h:Fx a)(hx:Fx x)(hal:x.al=a.al)(lang:∀w,Al (AP a.al) w→LA x w=LA a w)(rc:∀i:Nat,i < x.nx.length→∃w,Al (AP a.al) w∧AL x 0 w=i)(ds:∀i j:Nat,i < x.nx.length→j < x.nx.length→P0 x i j→i=j):Mf x=Dv a:=by
 obtain⟨g1,g2⟩:=ZH h
 have hn1:=h.n1
 have hx1:=hx.n1
 obtain⟨wd,hwd⟩:∃wd:Int→W,∀i:Int,0≤i∧i < ((x.nx.length:Nat):Int)→Al (AP a.al) (wd i)∧AL x 0 (wd i)=i:=by
  refine⟨fun i=>if hi:0≤i∧i < ((x.nx.length:Nat):Int) then Classical.choose (rc i.toNat (by omega)) else [],fun i hi=>?_⟩
  have:=Classical.choose_spec (rc i.toNat (by omega))
  simp only [hi,and_self,dite_true]
  exact⟨this.1,by rw [this.2];omega⟩
 have hra:∀ {w:W},Al (AP a.al) w→0≤AL a 0 w∧AL a 0 w < ((a.nx.length:Nat):Int):=fun hw=>h.ah _ hw (by omega)
 have happ:∀ {u v:W},Al (AP a.al) u→Al (AP a.al) v→Al (AP a.al) (u++v):=fun hu hv c hc=>by
  rcases List.mem_append.1 hc with hc|hc
  ·exact hu c hc
  ·exact hv c hc
 have heq:∀ {p q:Int},(0≤p∧p < ((a.nx.length:Nat):Int))→(0≤q∧q < ((a.nx.length:Nat):Int))→(E4 a p=E4 a q↔P0 a p q):=fun {p q} hp hq=>by
  have:=Qi h (q:=p.toNat) (r:=q.toNat) (by omega) (by omega)
  rwa [show ((p.toNat:Nat):Int)=p by omega,show ((q.toNat:Nat):Int)=q by omega] at this
 have hag:∀ {i:Int} {w:W},(0≤i∧i < ((x.nx.length:Nat):Int))→Al (AP a.al) w→EB a (AL a (AL a 0 (wd i)) w)=EB x (AL x i w):=fun {i w} hi hw=>by
  obtain⟨h1,h2⟩:=hwd i hi
  have:=lang (wd i++w) (happ h1 hw)
  rw [JK,JK,Ck,Ck,h2] at this
  exact this.symm
 have hls:Ac x.al=Ac a.al:=by rw [hal]
 have hin:∀q l:Int,(0≤q∧q < ((x.nx.length:Nat):Int))→l∈Ac a.al→0≤fA x q l∧fA x q l < ((x.nx.length:Nat):Int):=fun q l hq hl=>by
  have hlb:=Au hl
  exact Cq hx.b (q:=q.toNat) (by omega) hlb.1 (by omega)
 have iso:=VA (lim:=x.nx.length+(CL a).nx.length) (f:=fA x) (g:=fA (CL a)) (ls:=Ac a.al) (R:=fun i=>0≤i∧i < ((x.nx.length:Nat):Int)) (φ:=fun i=>E4 a (AL a 0 (wd i))) (s:=0)
  (fun i j hi hj e=>by
   have e2:=(heq (hra (hwd i hi).1) (hra (hwd j hj).1)).1 e
   have:=ds i.toNat j.toNat (by omega) (by omega) fun w hw=>by
    rw [hal] at hw
    rw [show ((i.toNat:Nat):Int)=i by omega,show ((j.toNat:Nat):Int)=j by omega,←hag hi hw,←hag hj hw]
    exact e2 w hw
   omega)
  (fun q l hq hl=>by
   have hlb:=Au hl
   have h1:=hin q l hq hl
   refine⟨h1,?_⟩
   have h2:=hra (hwd q hq).1
   have h3:=Wn h (q:=(AL a 0 (wd q)).toNat) (by omega) hl
   rw [show (((AL a 0 (wd q)).toNat:Nat):Int)=AL a 0 (wd q) by omega] at h3
   show _=Bm (CL a) (E4 a (AL a 0 (wd q))).toNat l
   rw [h3]
   have h4:=Cq h.b (q:=(AL a 0 (wd q)).toNat) (by omega) hlb.1 (by omega)
   refine(heq (hra (hwd _ h1).1) h4).2 fun w hw=>?_
   rw [hag h1 hw]
   have hcw:Al (AP a.al) (lb l::w):=fun c hc=>by
    rcases List.mem_cons.1 hc with rfl|hc
    ·exact List.mem_map.2 ⟨l,hl,rfl⟩
    ·exact hw c hc
   have h5:=hag hq hcw
   have e:∀(y:AN) (p:Int),AL y p (lb l::w)=AL y (Bm y p.toNat l) w:=fun y p=>by
    show AL y (Bm y p.toNat (((lb l).toNat:Int) - 97)) w=_
    rw [Eo hlb.1 (by omega)]
   rw [e,e] at h5
   exact h5.symm)
  (show (0:Int)≤0∧(0:Int) < ((x.nx.length:Nat):Int) by omega)
 have e0:E4 a (AL a 0 (wd 0))=0:=by
  refine Eq.trans ?_ (OI h)
  have h0:(0:Int)≤0∧(0:Int) < ((x.nx.length:Nat):Int):=by omega
  refine(heq (q:=0) (hra (hwd 0 h0).1) (by omega)).2 fun w hw=>?_
  rw [hag h0 hw]
  exact lang w hw
 simp only [e0] at iso
 obtain⟨nd,rows,n1,n2,n3,n4,n5⟩:=Rv hx.b hx1
 obtain⟨nd',rows',m1,m2,m3,m4,m5⟩:=Rv g1.b g1.n1
 rw [hls] at n1
 have hlq:Ac (CL a).al=Ac a.al:=rfl
 rw [hlq] at m1
 obtain⟨_,_,n6⟩:=N0 hx1 n1
 obtain⟨_,_,m6⟩:=N0 g1.n1 m1
 rw [n6 _ (by omega),m6 _ (by omega)] at iso
 simp only [Option.map_some,Option.some.injEq,Prod.mk.injEq] at iso
 obtain⟨i1,i2⟩:=iso
 unfold Dv
 rw [n5,m5,i1,i2,List.map_map]
 have e:nd.map (EB x)=nd.map (EB (CL a)∘fun i=>E4 a (AL a 0 (wd i))):=List.map_congr_left fun i hi=>by
  have hii:=n4 i hi
  have h1:=hra (hwd i hii).1
  have h2:=Wk h (q:=(AL a 0 (wd i)).toNat) (by omega)
  rw [show (((AL a 0 (wd i)).toNat:Nat):Int)=AL a 0 (wd i) by omega] at h2
  show EB x i=EB (CL a) (E4 a (AL a 0 (wd i)))
  rw [h2]
  exact(hag hii (w:=[]) (fun c hc=>by cases hc)).symm
 rw [e]
 show (⟨x.al,_,_⟩:AN)=⟨a.al,_,_⟩
 rw [hal]
theorem ZT{x:AN}(hx:Fx x)(rc:∀i:Nat,i < x.nx.length→∃w,Al (AP x.al) w∧AL x 0 w=i):(Mf x).nx.length=x.nx.length:=by
 obtain⟨nd,rows,n1,n2,n3,n4,n5⟩:=Rv hx.b hx.n1
 have hl:=n2.len
 have key:∀i:Nat,i < x.nx.length→(i:Int)∈nd:=fun i hi=>by
  obtain⟨w,hw,e⟩:=rc i hi
  obtain⟨j,h1,h2⟩:=ID n2 (ac:=[]) w hw n2.st
  rw [e] at h2
  exact List.mem_of_getElem? h2
 have := Dw (l:=(List.range x.nx.length).map Int.ofNat) (m:=nd) (by
  unfold List.Nodup
  rw [List.pairwise_map]
  exact List.nodup_range.imp fun h e=>h (by injection e)) fun y hy=>by
   obtain⟨i,hi,rfl⟩:=List.mem_map.1 hy
   exact key i (List.mem_range.1 hi)
 rw [n5]
 show rows.length=_
 simp at this
 omega
end Go.Am
namespace Go.Am
open Go
set_option linter.unusedVariables false
variable {P:Program}{TB:Bu}{Γ:Ctx}{d:Option Tmp}{ty:TypeId}{pos:String}{af:Array Edge}{g:Option (Nat×Bool)}{f:Env}{σ:Ab}{nx:Nat}
variable {K:E→Ab→Nat→Prop}
def HK(l:List (Int×Int)):List (Value×Value):=l.map fun p=>(.int .i64 p.1,.int .i64 p.2)
def EM(l:List (Int×Int))(s:Int):Option Int:=(l.find? fun p=>decide (p.1=s)).map (·.2)
theorem Jg{i64:IntKind}(s:Int):∀(l:List (Int×Int)) (es:List MapEntry) (i:Nat),es.map (fun e=>(e.key,e.val))=HK l→∃r,Instr.findNow (.int i64) (.int .i64 s) es i=some r∧r.map (·.2)=(EM l s).map (.int .i64)
 | [],es,i,h=>by
  have:es=[]:=by simpa [HK] using h
  subst this
  exact⟨none,rfl,rfl⟩
 | p :: l,es,i,h=>by
  cases es with
  | nil=>simp [HK] at h
  | cons e es=>
   simp only [HK,List.map_cons,List.cons.injEq,Prod.mk.injEq] at h
   obtain⟨⟨hk,hv⟩,hr⟩:=h
   have hs:Instr.sameNow (.int i64) (.int .i64 s) e.key=some (decide (s=p.1)):=by
    rw [hk]
    show (if IntKind.i64=IntKind.i64 then some (s == p.1) else none)=_
    rw [if_pos rfl]
    exact congrArg some (by rw [Bool.eq_iff_iff];simp)
   unfold Instr.findNow
   rw [hs]
   by_cases h2:s=p.1
   ·refine⟨some (i,e.val),by simp [h2],?_⟩
    simp [EM,h2,hv]
   ·obtain⟨r,h3,h4⟩:=Jg (i64:=i64) s l es (i+1) hr
    have h5:¬p.1=s:=fun e=>h2 e.symm
    refine⟨r,by simp [h2,h3],?_⟩
    rw [h4]
    simp [EM,h5]
theorem MK{k:TypeId}{q:IntKind}(hk:P.underlying k=some (.int q))(b:Bool)(s:Int)(w:World):(Instr.checkKey b 10000 k (.int q s)).run P w=.ok () w:=by
 rw [show 10000=9999+1 from rfl]
 unfold Instr.checkKey
 simp [run_underlying hk,go_sem]
theorem Sr{t k e:TypeId}{x y:Operand}{id:Nat}{l:List (Int×Int)}{s:Int}[hm:EF P t k e][hk:Eh P k .i64][hz:JJ P e (.int .i64 0)](hx:ev f x=some (.o (.mp id)))(hy:ev f y=some (eI .i64 s))(ho:look σ id=some (.mp (HK l))) :
 AY P TB Γ ⟨d,.lookup t x y true,ty,pos,af,g⟩ f σ nx (.t [(false,[.d (.v (.int .i64 ((EM l s).getD 0)))]),(false,[.d (.v (.bool (EM l s).isSome))])]):=
 AG fun V ρ hr hi=>by
  have e1:=hr.get (by simp [Op.operands]) hx
  have e2:ρ y=.int .i64 s:=AE.val (hr.get (by simp [Op.operands]) hy)
  generalize hv:ρ x=v at e1
  cases e1 with
  | mp hid =>
   obtain⟨hn,ents,clock,h1,h2⟩:=hi.st.obj id _ ho
   obtain⟨r,h3,h4⟩:=Jg (i64:=.i64) s l ents.toList 0 h2
   have hzz:=hz.out
   simp only [Option.bind_eq_some_iff] at hzz
   obtain⟨i,hi1,hz1⟩:=hzz
   have hzv:(zeroValue e).run P V.w=.ok (.int .i64 0) V.w:=by simp [zeroValue,typeInfo,hi1,hz1,go_sem]
   have hfk:(Instr.findKey k (.int .i64 s) ents.toList).run P V.w=.ok r V.w:=by simp [Instr.findKey,run_underlying hk.out,h3,go_sem]
   have hck:=MK hk.out ents.isEmpty s V.w
   refine⟨.tuple #[.int .i64 ((EM l s).getD 0),.bool (EM l s).isSome],?_,⟨_,rfl,rfl,fun j x v hj hv=>?_⟩⟩
   ·cases r with
    | none=>
     have h5:EM l s=none:=by simpa using h4.symm
     simp [execOp,hv,e2,Instr.lookup,run_underlying hm.out,MapKept.run_getObj_map h1,hck,hfk,hzv,h5,go_sem]
    | some q=>
     obtain⟨n,h5,h6⟩:∃n,EM l s=some n∧q.2=.int .i64 n:=by
      cases hf:EM l s with
      | none=>rw [hf] at h4;simp at h4
      | some n=>rw [hf] at h4;exact⟨n,rfl,by simpa using h4⟩
     obtain⟨q1,q2⟩:=q
     simp only at h6
     subst h6
     simp [execOp,hv,e2,Instr.lookup,run_underlying hm.out,MapKept.run_getObj_map h1,hck,hfk,h5,go_sem]
   ·match j with
    | 0=>simp at hj hv;subst hj;subst hv;exact⟨_,rfl,.d (.v rfl)⟩
    | 1=>simp at hj hv;subst hj;subst hv;exact⟨_,rfl,.d (.v rfl)⟩
    | j+2=>simp at hj
theorem Vx{t k e:TypeId}{x y z:Operand}{id:Nat}{l:List (Int×Int)}{s:Int}{n:Int}[hm:EF P t k e][hk:Eh P k .i64](hx:ev f x=some (.o (.mp id)))(hy:ev f y=some (eI .i64 s))(hz:ev f z=some (eI .i64 n))(ho:look σ id=some (.mp (HK l)))
 (hn:EM l s=none) (hK:K (.t []) ((id,.mp (HK (l++[(s,n)])))::σ) nx):B2 P TB Γ ⟨d,.mapUpdate t x y z,ty,pos,af,g⟩ f σ nx K:=by
 intro V a h1 h2 h3
 have h1:=h1.Gf
 unfold Oper.wp
 generalize a.eval=ρ at h1 ⊢
 have e1:=h1.get (x:=x) (by simp [Op.operands]) hx
 have e2:ρ y=.int .i64 s:=AE.val (h1.get (by simp [Op.operands]) hy)
 have e3:ρ z=.int .i64 n:=AE.val (h1.get (by simp [Op.operands]) hz)
 generalize hv:ρ x=v at e1
 cases e1 with
 | mp hid=>
  obtain⟨hnl,ents,clock,h4,h5⟩:=h2.st.obj id _ ho
  obtain⟨r,h6,h7⟩:=Jg (i64:=.i64) s l ents.toList 0 h5
  rw [hn] at h7
  have hr:r=none:=by cases r with
   | none=>rfl
   | some q=>simp at h7
  subst hr
  have hfk:(Instr.findKey k (.int .i64 s) ents.toList).run P V.w=.ok none V.w:=by simp [Instr.findKey,run_underlying hk.out,h6,go_sem]
  have hck:=MK hk.out false s V.w
  let ob:Obj:=.map (ents.push { key:=.int .i64 s,val:=.int .i64 n,born:=clock }) (clock+1)
  let w':World:={ V.w with heap:=V.w.heap.setIfInBounds (V.ρ id) ob }
  have hset:=MapKept.run_setObj_map (P:=P) ob h4
  have hlt:=(Array.getElem?_eq_some_iff.1 h4).1
  obtain⟨hi,he⟩:=h2.write ho hnl (w:=w') (ob':=.mp (HK (l++[(s,n)]))) rfl rfl rfl rfl rfl (by simp [w']) (fun b hb=>by simp [w',Array.getElem?_setIfInBounds,Ne.symm hb]) (by
   refine⟨hnl,ents.push { key:=.int .i64 s,val:=.int .i64 n,born:=clock },clock+1,?_,?_⟩
   ·show w'.heap[V.ρ id]? = some ob
    simp [w',Array.getElem?_setIfInBounds,hlt]
   ·simp [HK] at h5 ⊢
    exact h5)
  have hrun:(execOp ρ ⟨d,.mapUpdate t x y z,ty,pos,af,g⟩).run P V.w=.ok .skip w':=by
   simp [execOp,hv,e2,e3,Instr.mapUpdate,run_underlying hm.out,MapKept.run_getObj_map h4,hck,hfk,hset,ob,w',go_sem]
  rw [hrun]
  exact⟨{ V with w:=w' },.tuple #[],.t [],_,rfl,rfl,he,hi,⟨#[],rfl,rfl,fun j x v hj=>by simp at hj⟩,by rw [←h3] at hK;exact hK⟩
theorem Zi{t:TypeId}{x y z:Operand}{K:E→Ab→Nat→Prop}(h:B2 P TB Γ ⟨d,.mapUpdate t x y z,ty,pos,af,g⟩ f σ nx K):B2 P TB Γ ⟨d,.insert t x y z,ty,pos,af,g⟩ f σ nx K:=fun V a h1 h2 h3=>h V a h1 h2 h3
theorem VX{t k e:TypeId}{x y:Operand}{id:Nat}{l:List (Int×Int)}{s v:Int}[hm:EF P t k e][hk:Eh P k .i64][hz:JJ P e (.int .i64 0)](hv:EM l s=some v)(hx:ev f x=some (.o (.mp id)))(hy:ev f y=some (eI .i64 s))(ho:look σ id=some (.mp (HK l))) :
 AY P TB Γ ⟨d,.lookup t x y true,ty,pos,af,g⟩ f σ nx (.t [(false,[.d (.v (.int .i64 v))]),(false,[.d (.v (.bool true))])]):=by
 have:=Sr (P:=P) (TB:=TB) (Γ:=Γ) (d:=d) (ty:=ty) (pos:=pos) (af:=af) (g:=g) (nx:=nx) (t:=t) (k:=k) (e:=e) hx hy ho
 rw [hv] at this;exact this
theorem VW{t k e:TypeId}{x y:Operand}{id:Nat}{l:List (Int×Int)}{s:Int}[hm:EF P t k e][hk:Eh P k .i64][hz:JJ P e (.int .i64 0)](hv:EM l s=none)(hx:ev f x=some (.o (.mp id)))(hy:ev f y=some (eI .i64 s))(ho:look σ id=some (.mp (HK l))) :
 AY P TB Γ ⟨d,.lookup t x y true,ty,pos,af,g⟩ f σ nx (.t [(false,[.d (.v (.int .i64 0))]),(false,[.d (.v (.bool false))])]):=by
 have:=Sr (P:=P) (TB:=TB) (Γ:=Γ) (d:=d) (ty:=ty) (pos:=pos) (af:=af) (g:=g) (nx:=nx) (t:=t) (k:=k) (e:=e) hx hy ho
 rw [hv] at this;exact this
theorem Ix(l:List (Int×Int))(r:Nat→Nat):O.A0 r (.mp (HK l))=.mp (HK l):=rfl
def QK{α:Type}(u:List α):List (α×Int):=u.zipIdx.map fun p=>(p.1,(p.2:Int))
theorem Sj{α:Type}(u:List α)(x:α):QK (u++[x])=QK u++[(x,(u.length:Int))]:=by
 unfold QK
 rw [List.zipIdx_append]
 simp
theorem Li{α:Type}[DecidableEq α](x:α):∀(u:List α) (k:Nat),(((u.zipIdx k).map fun p=>(p.1,(p.2:Int))).find? fun p=>decide (p.1=x)).map (·.2)=if x∈u then some ((k+u.idxOf x:Nat):Int) else none
 | [],k=>by simp
 | y :: u,k=>by
  rw [List.zipIdx_cons,List.map_cons,List.find?_cons]
  by_cases h:y=x
  ·subst h;simp
  ·have ih:=Li x u (k+1)
   have h2:¬x=y:=fun e=>h e.symm
   simp only [h,decide_false]
   rw [ih,List.idxOf_cons]
   simp only [List.mem_cons,h2,false_or,beq_eq_false_iff_ne.2 h,cond_false]
   by_cases h3:x∈u
   ·rw [if_pos h3,if_pos h3];congr 2;omega
   ·rw [if_neg h3,if_neg h3]
theorem Tl(u:List Int)(x:Int):EM (QK u) x=if x∈u then some ((u.idxOf x:Nat):Int) else none:=by
 have:=Li x u 0
 rw [Nat.zero_add] at this
 exact this
def dc{α:Type}[DecidableEq α](u:List α)(x:α):Nat:=u.idxOf x
def bk{α:Type}[DecidableEq α](u:List α)(x:α):Option Int:=if x∈u then some ((dc u x:Nat):Int) else none
theorem Tn(u:List (List UInt8))(x:List UInt8):BA (QK u) x=bk u x:=by
 have:=Li x u 0
 rw [Nat.zero_add] at this
 exact this
end Go.Am
namespace Go.Am
open Go
set_option linter.unusedVariables false
structure Ow (a:AN) (cs:List Int) (n k:Nat):Prop where
 len:cs.length=a.nx.length
 rng:∀x∈cs,0≤x∧x < 100
 cnt:n=0∨n=(uq cs).length
 fuel:a.nx.length≤k+n
 eq:Th a (k+1) cs n=DH a
def JT(a:AN)(cs:List Int):List W:=(BN a cs).map Qu
theorem Tt{a:AN}{cs:List Int}{q:Nat}(h:q < a.nx.length):(JT a cs)[q]? = some (Qu (GC a cs q)):=by
 unfold JT;rw [List.getElem?_map,Bh h];rfl
theorem Tu(a:AN)(cs:List Int):(JT a cs).length=a.nx.length:=by simp [JT,Dt]
theorem OS{cs:List Int}(h:∀x∈cs,0≤x∧x < 100)(i:Nat):0≤cs.getD i 0∧cs.getD i 0 < 100:=by
 rw [List.getD_eq_getElem?_getD]
 cases hx:cs[i]? with
 | none=>exact⟨Int.le_refl _,by show (0:Int) < 100;omega⟩
 | some x=>exact h x (List.mem_of_getElem? hx)
theorem O0{a:AN}{cs:List Int}(h:∀x∈cs,0≤x∧x < 100)(q:Nat):∀x∈GC a cs q,0≤x∧x < 100:=fun x hx=>by
 unfold GC at hx
 rcases List.mem_cons.1 hx with rfl|hx
 ·exact OS h q
 ·obtain⟨y,_,rfl⟩:=List.mem_map.1 hx
  exact OS h _
theorem O1{a:AN}{cs:List Int}(h:∀x∈cs,0≤x∧x < 100):∀x y,x∈BN a cs→y∈BN a cs→Qu x=Qu y→x=y:=fun x y hx hy e=>by
 obtain⟨q,_,rfl⟩:=List.mem_map.1 hx
 obtain⟨r,_,rfl⟩:=List.mem_map.1 hy
 exact U8 (O0 h q) (O0 h r) (by simp [GC]) (by simp [GC]) e
theorem Qv{a:AN}{cs:List Int}(h:∀x∈cs,0≤x∧x < 100):Dp (JT a cs)=Dp (BN a cs):=VB (O1 h)
theorem Vi{a:AN}{cs:List Int}(h:∀x∈cs,0≤x∧x < 100):(uq (JT a cs)).length=(uq (BN a cs)).length:=by
 unfold JT;rw [WT (O1 h),List.length_map]
theorem VC{a:AN}(h:a.nx.length≤64)(cs:List Int):∀x∈Dp (BN a cs),0≤x∧x < 100:=fun x hx=>by
 obtain⟨y,hy,rfl⟩:=List.mem_map.1 hx
 have h1:=Ky hy
 have h2:=GR (BN a cs)
 rw [Dt] at h2
 omega
theorem Ow.zero{a:AN}(h:Fx a):Ow a (FA a) 0 a.nx.length:=
 ⟨by simp [FA,h.ac],fun x hx=>by
  obtain⟨b,_,rfl⟩:=List.mem_map.1 hx
  cases b
  ·exact⟨Int.le_refl _,by show (0:Int) < 100;omega⟩
  ·exact⟨by show (0:Int)≤1;omega,by show (1:Int) < 100;omega⟩,.inl rfl,by omega,rfl⟩
theorem Ow.step{a:AN}(h:Fx a){cs:List Int}{n k:Nat}(hi:Ow a cs n k) :
 ((uq (BN a cs)).length=n∧NG a=Dp (BN a cs))∨((uq (BN a cs)).length≠n∧1≤k∧Ow a (Dp (BN a cs)) (uq (BN a cs)).length (k - 1)):=by
 have hb:=h.b.1
 have hn1:=h.n1
 have h1:=hi.eq
 have hmap:=Ry (fun k:List Int=>k.headD 0) (BN a cs)
 rw [Yr hi.len] at hmap
 have h2:=GR (BN a cs)
 rw [Dt] at h2
 unfold Th at h1
 by_cases he:(uq (BN a cs)).length=n
 ·rw [if_pos he] at h1
  exact .inl ⟨he,by unfold NG;rw [h1]⟩
 ·rw [if_neg he] at h1
  have hf:=hi.fuel
  have hc:=hi.cnt
  have hk:1≤k:=by omega
  refine .inr ⟨he,hk,by simp [Dp,Dt],VC hb cs,.inr (SZ _).symm,?_,?_⟩
  ·rcases hc with hc|hc<;>omega
  ·rw [show k - 1+1=k by omega];exact h1
theorem Tp(u:List W)(x:W):(x∈u→BA (QK u) x=some ((dc u x:Nat):Int))∧(x∉u→BA (QK u) x=none):=by
 rw [Tn]
 unfold bk
 exact⟨fun h=>if_pos h,fun h=>if_neg h⟩
theorem XG{l:List W}{k:Nat}{x:W}(h:l[k]? = some x):(x∈uq (l.take k)→CJ l x=((dc (uq (l.take k)) x:Nat):Int))∧(x∉uq (l.take k)→CJ l x=(uq (l.take k)).length):=
 ⟨fun hm=>((Kx h).1 hm).1,(Kx h).2⟩
theorem Nj{α:Type}[DecidableEq α]{l:List α}{k:Nat}{x:α}(h:l[k]? = some x):(x∈uq (l.take k)→Bd l (k+1)=Bd l k)∧(x∉uq (l.take k)→Bd l (k+1)=Bd l k++[k]):=by
 constructor
 ·intro hm
  simp only [Bd,h,if_pos hm]
 ·intro hm
  simp only [Bd,h,if_neg hm]
theorem Ub(l:List Int)(x:Int):C3 (l++[x])=C3 l++(44::C7 x.toNat):=by simp [C3]
theorem KV(n:Nat):(C7 n).length≤2:=by unfold C7;split<;>simp
theorem Uc(l:List Int):(C3 l).length≤3*l.length:=by
 induction l with
 | nil=>simp [C3]
 | cons x l ih=>
  have:=KV x.toNat
  have e:C3 (x::l)=44::C7 x.toNat++C3 l:=by simp [C3]
  rw [e];simp;omega
theorem U9(a:AN)(cs:List Int)(q:Nat):Qu (GC a cs q)=C7 (cs.getD q 0).toNat++C3 ((a.nx.getD q []).map fun x=>cs.getD x.toNat 0):=rfl
theorem QS{a:AN}(h:Fx a){k:Nat}(hk:k < a.nx.length) :
 (E4 a k < ((BM a k).nx.length:Nat)∧BM a (k+1)=BM a k)∨(¬E4 a k < ((BM a k).nx.length:Nat)∧BM a (k+1)=⟨a.al,(BM a k).nx++[(a.nx.getD k []).map (E4 a)],(BM a k).ac++[a.ac.getD k false]⟩):=by
 obtain⟨x,hx,e,_⟩:=Gu h hk
 have hlen:(BM a k).nx.length=(uq ((DH a).take k)).length:=by simp [BM,Ci]
 obtain⟨h1,h2⟩:=Kx hx
 by_cases hm:x∈uq ((DH a).take k)
 ·refine .inl ⟨by rw [e,hlen];exact(h1 hm).2,?_⟩
  unfold BM
  rw [(Nj hx).1 hm]
 ·refine .inr ⟨by rw [e,hlen,h2 hm];omega,?_⟩
  unfold BM
  rw [(Nj hx).2 hm]
  simp
theorem TW(a:AN):∀k,(BM a k).nx.length≤k:=fun k=>by
 have:(BM a k).nx.length=(uq ((DH a).take k)).length:=by simp [BM,Ci]
 have h2:=GR ((DH a).take k)
 simp at h2
 omega
theorem Px(a:AN)(k:Nat):(BM a k).ac.length=(BM a k).nx.length:=by simp [BM]
theorem UG{a:AN}(h:Fx a):(NG a).length=a.nx.length:=by
 have:=(Jd h.b h.n1 h.ac).len
 simp [NG,Dp,this]
end Go.Am
namespace Go.Am
open Go
set_option linter.unusedVariables false
variable {P:Program}{TB:Bu}{Γ:Ctx}{d:Option Tmp}{ty:TypeId}{pos:String}{af:Array Edge}{g:Option (Nat×Bool)}{f:Env}{σ:Ab}{nx:Nat}
theorem XO{t k e:TypeId}{x:Operand}{id:Nat}{l:List (Value×Value)}[hm:EF P t k e](hx:ev f x=some (.o (.mp id)))(ho:look σ id=some (.mp l)):AY P TB Γ ⟨d,.call ⟨.builtin .len,#[x],#[t]⟩,ty,pos,af,g⟩ f σ nx (eI .i64 l.length):=
 AG fun V ρ hr hi=>by
  have e1:=hr.get (by simp [Op.operands,Call.operands]) hx
  generalize hv:ρ x=v at e1
  cases e1 with
  | mp hid=>
   obtain⟨hn,ents,clock,h1,h2⟩:=hi.st.obj id _ ho
   refine⟨.int .i64 l.length,?_,.d (.v rfl)⟩
   have h3:ents.size=l.length:=by rw [←h2];simp
   simp [execOp,resolve,invoke,builtin,hv,Builtin.len_,run_underlying hm.out,MapKept.run_getObj_map h1,goInt,h3,go_sem]
theorem Vp(u:List (List UInt8)):(DQ (QK u)).length=u.length:=by simp [DQ,QK]
theorem N7{t k e:TypeId}{x:Operand}{id:Nat}{u:List (List UInt8)}[hm:EF P t k e](hx:ev f x=some (.o (.mp id)))(ho:look σ id=some (.mp (DQ (QK u)))):AY P TB Γ ⟨d,.call ⟨.builtin .len,#[x],#[t]⟩,ty,pos,af,g⟩ f σ nx (eI .i64 u.length):=by
 have:=XO (P:=P) (TB:=TB) (Γ:=Γ) (d:=d) (ty:=ty) (pos:=pos) (af:=af) (g:=g) (nx:=nx) (t:=t) (k:=k) (e:=e) hx ho
 rwa [Vp] at this
theorem VZ{t k e:TypeId}{x y:Operand}{id:Nat}{l:List (List UInt8×Int)}{s:List UInt8}{v:Int}[hm:EF P t k e][hk:B6 P k][hz:JJ P e (.int .i64 0)](hv:BA l s=some v)(hx:ev f x=some (.o (.mp id)))(hy:ev f y=some (eT s))(ho:look σ id=some (.mp (DQ l))) :
 AY P TB Γ ⟨d,.lookup t x y true,ty,pos,af,g⟩ f σ nx (.t [(false,[.d (.v (.int .i64 v))]),(false,[.d (.v (.bool true))])]):=by
 have:=N9 (P:=P) (TB:=TB) (Γ:=Γ) (d:=d) (ty:=ty) (pos:=pos) (af:=af) (g:=g) (nx:=nx) (t:=t) (k:=k) (e:=e) hx hy ho
 rw [hv] at this;exact this
theorem VY{t k e:TypeId}{x y:Operand}{id:Nat}{l:List (List UInt8×Int)}{s:List UInt8}[hm:EF P t k e][hk:B6 P k][hz:JJ P e (.int .i64 0)](hv:BA l s=none)(hx:ev f x=some (.o (.mp id)))(hy:ev f y=some (eT s))(ho:look σ id=some (.mp (DQ l))) :
 AY P TB Γ ⟨d,.lookup t x y true,ty,pos,af,g⟩ f σ nx (.t [(false,[.d (.v (.int .i64 0))]),(false,[.d (.v (.bool false))])]):=by
 have:=N9 (P:=P) (TB:=TB) (Γ:=Γ) (d:=d) (ty:=ty) (pos:=pos) (af:=af) (g:=g) (nx:=nx) (t:=t) (k:=k) (e:=e) hx hy ho
 rw [hv] at this;exact this
end Go.Am
namespace Go.Am
open Go
def UZ:Option TypeDesc→Bool
 | some (.func ..)=>true
 | _=>false
class Un (P:Program) (t:TypeId):Prop where
 out:UZ (P.underlying t)=true
theorem SE{P:Program}{t:TypeId}(h:UZ (P.underlying t)=true)(w:World):(Op.equal t .nilFunc .nilFunc).run P w=.ok true w∧∀(g:Fn) (a b:Array Value),(Op.equal t (.func g a b) .nilFunc).run P w=.ok false w:=by
 unfold UZ at h
 split at h
 ·rename_i he
  unfold Op.equal Op.maxDepth
  rw [show 10000=9999+1 from rfl,Op.equalIn]
  refine⟨by simp [run_underlying he,go_sem],fun g a b=>?_⟩
  rw [Op.equalIn]
  simp [run_underlying he,go_sem]
 ·cases h
section
variable {P:Program}{TB:Bu}{Γ:Ctx}{d:Option Tmp}{ty:TypeId}{pos:String}{af:Array Edge}{g:Option (Nat×Bool)}{f:Env}{σ:Ab}{nx:Nat}
theorem Ss{t yt:TypeId}{x y:Operand}[hp:Un P t](hx:ev f x=some (.o (.d (.v .nilFunc))))(hy:ev f y=some (.o (.d (.v .nilFunc)))):AY P TB Γ ⟨d,.binOp .neq t x y yt,ty,pos,af,g⟩ f σ nx (eB false):=
 Bo hx hy rfl fun w=>by
  have h6:binOp .neq t .nilFunc .nilFunc=(do pure (.bool (!(←Op.equal t .nilFunc .nilFunc)))):=rfl
  have h7:eqGuard .neq t x y .nilFunc .nilFunc=pure ():=rfl
  rw [h6,h7]
  simp [(SE hp.out w).1,go_sem]
theorem Wh{t yt:TypeId}{x y:Operand}{gg:FuncId}{cap:List C}[hp:Un P t](hx:ev f x=some (.o (.fn gg cap)))(hy:ev f y=some (.o (.d (.v .nilFunc)))):AY P TB Γ ⟨d,.binOp .neq t x y yt,ty,pos,af,g⟩ f σ nx (eB true):=
 AG fun V ρ h1 _=>by
  obtain⟨vs,hv,_⟩:=HF (h1.get (by simp [Op.operands]) hx)
  have h3:ρ y=.nilFunc:=AE.val (h1.get (by simp [Op.operands]) hy)
  refine⟨.bool true,?_,.d (.v rfl)⟩
  have h6:binOp .neq t (.func (.func gg) #[] vs) .nilFunc=(do pure (.bool (!(←Op.equal t (.func (.func gg) #[] vs) .nilFunc)))):=rfl
  have h7:eqGuard .neq t x y (.func (.func gg) #[] vs) .nilFunc=pure ():=rfl
  have h9:execOp ρ ⟨d,.binOp .neq t x y yt,ty,pos,af,g⟩=(do let v ←(do eqGuard .neq t x y (ρ x) (ρ y);binOp .neq t (ρ x) (ρ y));pure (.value v)):=rfl
  rw [h9,hv,h3,h6,h7]
  simp [(SE hp.out V.w).2,go_sem]
end
def K9(L:List (Nat×E)):List Nat→Option (List (Nat×E))
 | []=>some []
 | k::r=>match look L k,K9 L r with
  | some e,some l=>some ((k,e)::l)
  | _,_=>none
def Sd(σ:Ab):List Nat→Option Ab
 | []=>some []
 | k::r=>match look σ k,Sd σ r with
  | some e,some l=>some ((k,e)::l)
  | _,_=>none
section
variable {P:Program}{TB:Bu}{Γ:Ctx}{N:Nat}
theorem Ak.bu{c:Code}{Q:Exit→Env→Ab→Nat→Prop}{L0 Lk:List (Nat×E)}{σ Sk:Ab}{nx:Nat}{α:Type}(ks is:List Nat)(hk:K9 L0 ks=some Lk)(hi:Sd σ is=some Sk)(v:α→List (Nat×E))(s:α→Ab)(n:Nat)(μ:α→Nat)
 (x:α) (l0:List Nat) (hl0:(∀i,i < Γ.V.nx→l0[i]? = some i)∧l0.Nodup∧l0.length=n) (h0:CI (nm l0 nx) (look L0) (v x++Lk)∧AS (nm l0 nx) σ (s x++Sk))
 (round:∀x,Ak P TB Γ N c (IX (fun f σ nx=>∃y,μ y < μ x∧∃l:List Nat,(∀i,i < Γ.V.nx→l[i]? = some i)∧l.Nodup∧l.length=n∧CI (nm l nx) f (v y++Lk)∧AS (nm l nx) σ (s y++Sk)) Q) (look (v x++Lk)) (s x++Sk) n) :
 Ak P TB Γ N (.loop c) Q (look L0) σ nx:=Ak.AZ (fun x=>v x++Lk) (fun x=>s x++Sk) n μ x l0 hl0 h0 round
theorem aL{c:Code}{Q:Exit→Env→Ab→Nat→Prop}{L0 Lk:List (Nat×E)}{σ Sk:Ab}{nx:Nat}{α:Type}(ks is:List Nat)(hk:K9 L0 ks=some Lk)(hi:Sd σ is=some Sk)(v:α→List (Nat×E))(s:α→Ab)(n:Nat)(μ:α→Nat)
 (x:α) {m:Nat} (hΓ:Γ.V.nx=m) (hn:Nat.ble m n=true) (h0:CI (nm (List.range n) nx) (look L0) (v x++Lk)∧AS (nm (List.range n) nx) σ (s x++Sk))
 (round:∀x,Ak P TB Γ N c (IX (fun f σ nx=>∃y,μ y < μ x∧∃l:List Nat,(∀i,i < Γ.V.nx→l[i]? = some i)∧l.Nodup∧l.length=n∧CI (nm l nx) f (v y++Lk)∧AS (nm l nx) σ (s y++Sk)) Q) (look (v x++Lk)) (s x++Sk) n) :
 Ak P TB Γ N (.loop c) Q (look L0) σ nx:=Ak.bu ks is hk hi v s n μ x (List.range n) (rg hΓ hn) h0 round
theorem Zx{d:Option Tmp}{op:Op}{ty:TypeId}{pos:String}{af:Array Edge}{g:Option (Nat×Bool)}{L:List (Nat×E)}{σ:Ab}{nx:Nat}{e:E}{t:Tmp}{gg:FuncId}(hx:look L t=some (.o (.d (.v (.func (.func gg) #[] #[])))))
 (h:AY P TB Γ ⟨d,op,ty,pos,af,g⟩ (look ((t,.o (.fn gg []))::L)) σ nx e):AY P TB Γ ⟨d,op,ty,pos,af,g⟩ (look L) σ nx e:=by
 intro V a h1 h2 h3
 refine h V a ?_ h2 h3
 intro t' e' ht' he'
 rw [Ax] at he'
 by_cases he:t=t'
 ·subst he
  rw [if_pos rfl] at he'
  injection he' with he'
  subst he'
  have hv:=AE.val (h1 t _ ht' hx)
  show AE V (.fn gg []) _
  rw [hv]
  exact .fn rfl (fun j c v hj=>by simp at hj)
 ·rw [if_neg he] at he'
  exact h1 t' e' ht' he'
theorem Spec.cY{g f0:FuncId}{σ:Ab}{nx:Nat}{l m:List E}{post:E→Ab→Nat→Prop}(h:Spec P TB g σ nx (l++.o (.d (.v (.func (.func f0) #[] #[])))::m) post):Spec P TB g σ nx (l++.o (.fn f0 [])::m) post:=
 ⟨h.1, fun V vs S hg ha=>h.2 V vs S hg ⟨by simpa using ha.1,fun j e v hj hv=>by
  by_cases hlt:j < l.length
  ·exact ha.2 j e v (by rw [List.getElem?_append_left hlt] at hj ⊢;exact hj) hv
  ·by_cases hj0:j=l.length
   ·subst hj0
    have h1:=ha.2 l.length (.o (.fn f0 [])) v (by simp) hv
    rw [List.getElem?_append_right (Nat.le_refl _)] at hj
    simp at hj
    subst hj
    obtain⟨vs',rfl,h2⟩:=HF h1
    have h3:vs' = #[]:=Array.eq_empty_of_size_eq_zero (by simpa using h2.1)
    subst h3
    exact AE.d (.v rfl)
   ·refine ha.2 j e v ?_ hv
    rw [List.getElem?_append_right (by omega)] at hj ⊢
    obtain⟨q,hq⟩:∃q,j - l.length=q+1:=⟨j - l.length - 1,by omega⟩
    rw [hq] at hj ⊢
    simpa using hj⟩⟩
end
inductive FZ (σ:Ab):C→D→Prop
 | d {x:D}:FZ σ (.d x) x
 | fn {g:FuncId}:FZ σ (.fn g []) (.v (.func (.func g) #[] #[]))
 | arr {id k off len:Nat} {T:TypeId} {rows:List (List C)} {ds:List (List D)} {rs:Nat→List C} {cs:Nat→Nat→C}:look σ id=some (.cells T k rows)→off+len≤rows.length→ds.length=len→
  (∀i r',ds[i]? = some r'→rows[off+i]? = some (rs i)∧(rs i).length=r'.length)→(∀i j r' x,ds[i]? = some r'→r'[j]? = some x→(rs i)[j]? = some (cs i j))→
  (∀i j r' x,ds[i]? = some r'→r'[j]? = some x→FZ σ (cs i j) x)→FZ σ (.arr id k off len) (.l ds)
 | ptr {id k i j:Nat} {T:TypeId} {rows:List (List C)} {r:List C} {ds:List D} {cs:Nat→C}:look σ id=some (.cells T k rows)→rows[i]? = some r→(∀q x,ds[q]? = some x→r[j+q]? = some (cs q))→(∀q x,ds[q]? = some x→FZ σ (cs q) x)→FZ σ (.ptr id k i j) (.p ds)
 | sld {id:Nat} {T:TypeId} {l:List (Value×List Value)} {v:Value} {row:List Value}:look σ id=some (.sld T l)→(v,row)∈l→FZ σ (.d (.v v)) (.l (row.map fun x=>[.v x]))
 | nl {b:Option Addr}:FZ σ (.d (.v (.slice b 0 0))) (.l [])
inductive Tc (σ:Ab):List C→List D→Prop
 | nil:Tc σ [] []
 | cons {c:C} {d:D} {cs:List C} {ds:List D}:FZ σ c d→Tc σ cs ds→Tc σ (c::cs) (d::ds)
theorem Tc.get{σ:Ab}{cs:List C}{ds:List D}(h:Tc σ cs ds):cs.length=ds.length∧∀(j:Nat) x,ds[j]? = some x→∃c,cs[j]? = some c∧FZ σ c x:=by
 induction h with
 | nil=>exact⟨rfl,fun j x h=>by simp at h⟩
 | @cons c d cs ds h1 _ ih=>
  refine⟨by simp [ih.1],fun j x hj=>?_⟩
  cases j with
  | zero=>simp at hj;subst hj;exact⟨c,rfl,h1⟩
  | succ j=>exact ih.2 j x (by simpa using hj)
theorem Tc.refl{σ:Ab}:∀(ds:List D),Tc σ (ds.map .d) ds
 | []=>.nil
 | d::ds=>.cons .d (Tc.refl ds)
theorem FZ.rows{σ:Ab}{id k len:Nat}{T:TypeId}{rows:List (List C)}{ds:List (List D)}(hl:look σ id=some (.cells T k rows))(hn:ds.length=len)(hr:rows.length=len)(h:∀(i:Nat) (r':List D),ds[i]? = some r'→∃r,rows[i]? = some r∧Tc σ r r'):FZ σ (.arr id k 0 len) (.l ds):=by
 refine .arr (rs:=fun i=>(rows[i]?).getD []) (cs:=fun i j=>(((rows[i]?).getD [])[j]?).getD (.d (.l []))) hl (by omega) hn (fun i r' hi=>?_) (fun i j r' x hi hj=>?_) (fun i j r' x hi hj=>?_)
 ·obtain⟨r,h1,h2⟩:=h i r' hi
  rw [Nat.zero_add,h1]
  exact⟨rfl,h2.get.1⟩
 ·obtain⟨r,h1,h2⟩:=h i r' hi
  obtain⟨c,h3,h4⟩:=h2.get.2 j x hj
  simp [h1,h3]
 ·obtain⟨r,h1,h2⟩:=h i r' hi
  obtain⟨c,h3,h4⟩:=h2.get.2 j x hj
  simp [h1,h3,h4]
theorem FZ.full{σ:Ab}{id k len:Nat}{T:TypeId}{rows:List (List C)}{ds:List (List D)}(hl:look σ id=some (.cells T k rows))(hr:rows=ds.map (fun r=>r.map .d))(hn:rows.length=len):FZ σ (.arr id k 0 len) (.l ds):=by
 refine .rows hl (by rw [←hn,hr];simp) hn fun i r' hi=>⟨r'.map .d,?_,Tc.refl _⟩
 rw [hr];simp [hi]
theorem FZ.box{σ:Ab}{id k:Nat}{T:TypeId}{r:List C}{ds:List D}(hl:look σ id=some (.cells T k [r]))(h:Tc σ r ds):FZ σ (.ptr id k 0 0) (.p ds):=by
 refine .ptr (cs:=fun q=>(r[q]?).getD (.d (.l []))) hl rfl (fun q x hq=>?_) (fun q x hq=>?_)
 ·obtain⟨c,h3,h4⟩:=h.get.2 q x hq
  rw [Nat.zero_add,h3];rfl
 ·obtain⟨c,h3,h4⟩:=h.get.2 q x hq
  simp [h3,h4]
inductive EZ (σ:Ab):E→E→Prop
 | Bb {e:E}:e.BU=true→EZ σ e e
 | o {c:C} {d:D}:FZ σ c d→EZ σ (.o c) (.o (.d d))
 | a {cs:List C} {ds:List D}:Tc σ cs ds→EZ σ (.a cs) (.a (ds.map .d))
def Um(σ:Ab)(f:Env):List (Nat×E)→Prop
 | []=>True
 | (t,e')::L=>(∃e,f t=some e∧EZ σ e e')∧Um σ f L
theorem Um.get{σ:Ab}{f:Env}:∀ {L:List (Nat×E)},Um σ f L→∀t e',look L t=some e'→∃e,f t=some e∧EZ σ e e'
 | [],_,t,e,h=>by cases h
 | (k,x)::L,hs,t,e,h=>by
  rw [Ax] at h
  by_cases hk:k=t
  ·rw [if_pos hk] at h;injection h with h;subst h;subst hk;exact hs.1
  ·rw [if_neg hk] at h;exact Um.get hs.2 t e h
def KL(V:View)(σ:Ab):View:={ V with I:=fun b=>V.I b∨∃id o,look σ id=some o∧¬V.nl id∧DF V id o b }
theorem Ko{V:View}{σ:Ab}:Ext V (KL V σ):=⟨fun _ h=>.inl h,fun _ _=>rfl,Nat.le_refl _,fun _ _=>rfl,fun _ _=>rfl,fun _ _=>Iff.rfl,Nat.le_refl _⟩
section
variable {P:Program}{TB:Bu}{Γ:Ctx}{N:Nat}{σ:Ab}
theorem Ia.data{I:Nat→Prop}{w:World}{T:TypeId}{v:Value}{row:List Value}(h:Ia w T v row)(hI:∀b,HA v b→I b):Cs I w (.l (row.map fun x=>[.v x])) v:=by
 rcases h with ⟨rfl,rfl⟩|⟨b,cap,cur,rfl,h2,h3,h4,h5,h6⟩
 ·exact .nil
 ·have hn:row.length=(row.map fun x=>[D.v x]).length:=by simp
  have hg:∀(i:Nat) (r:List D) (j:Nat) (d:D),(row.map fun x=>[D.v x])[i]? = some r→r[j]? = some d→j=0∧∃x,row[i]? = some x∧d=.v x:=fun i r j d hi hj=>by
   simp only [List.getElem?_map,Option.map_eq_some_iff] at hi
   obtain⟨x,hx,rfl⟩:=hi
   have hj0:j=0:=by have:=(List.getElem?_eq_some_iff.1 hj).1;simp at this;omega
   subst hj0
   simp at hj
   exact⟨rfl,x,hx,hj.symm⟩
  rw [hn]
  refine .l (k:=1) (vs:=fun i _=>(row[i]?).getD undef) (hI b ⟨_,_,_,rfl⟩) (by simpa using h4) h5 (fun i r hi=>?_) (fun i r j d hi hj=>?_) (fun i r j d hi hj=>?_)
  ·simp only [List.getElem?_map,Option.map_eq_some_iff] at hi
   obtain⟨x,hx,rfl⟩:=hi;rfl
  ·obtain⟨rfl,x,hx,rfl⟩:=hg i r j d hi hj
   simp [World.cell?,h2,hx,(h6 i x hx).1]
  ·obtain⟨rfl,x,hx,rfl⟩:=hg i r j d hi hj
   simp only [hx,Option.getD_some]
   exact .v (h6 i x hx).2
theorem FZ.rel{V:View}(hi:Inv TB Γ V σ){c:C}{d:D}(h:FZ σ c d):∀ {v:Value},AE V c v→Cs (KL V σ).I V.w d v:=by
 induction h with
 | d=>intro v hc;cases hc with|d h=>exact h.ext (V:=V) (V':=KL V σ) Ko
 | @sld id T l v row hl hm=>
  intro v' hc
  have hv:v'=v:=AE.val hc
  subst hv
  have h1:=hi.st.obj id _ hl
  exact(h1.2.2 _ hm).data fun b hb=>.inr ⟨id,_,hl,h1.1,⟨_,hm,hb⟩⟩
 | @nl b=>
  intro v' hc
  have hv:v'=_:=AE.val hc
  subst hv
  cases b
  ·exact .nil
  ·exact .e (Nat.zero_le _)
 | fn =>
  intro v hc
  cases hc with
  | @fn f cap vs h1 _=>
   have:vs = #[]:=Array.eq_empty_of_size_eq_zero (by simpa using h1)
   subst this
   exact .v rfl
 | @arr id k off len T rows ds rs cs hl hle hn h1 h2 _ ih=>
  intro v hc
  cases hc with
  | nil h3 h4=>
   have:ds=[]:=List.length_eq_zero_iff.1 hn
   subst this
   exact .nil
  | arr h3 hnl h4=>
   rcases hi.st.obj id _ hl with ⟨h5,_⟩|⟨_,cur,h5,h6,h7,h8,h9,h10⟩
   ·exact absurd h5 hnl
   ·have hcell:∀(i:Nat) (r:List D) (j:Nat) (x:D),ds[i]? = some r→r[j]? = some x→∃v,cur[(off+i)*k+j]? = some v∧Cs (KL V σ).I V.w x v:=fun i r j x hi' hj=>by
     obtain⟨v,h11,h12⟩:=h10 (off+i) (rs i) j (cs i j) (h1 i r hi').1 (h2 i j r x hi' hj)
     exact⟨v,h11,ih i j r x hi' hj h12⟩
    rw [←hn] at h4 ⊢
    refine .l (b:=V.ρ id) (o:=off*k) (k:=k) (vs:=fun i j=>cur.getD ((off+i)*k+j) undef) (.inr ⟨id,_,hl,hnl,rfl⟩) (by omega) (by omega) (fun i r hi'=>?_) (fun i r j x hi' hj=>?_) (fun i r j x hi' hj=>?_)
    ·have h13:=h1 i r hi'
     rw [←h13.2]
     exact h9 _ (List.mem_of_getElem? h13.1)
    ·obtain⟨v,h11,_⟩:=hcell i r j x hi' hj
     have e:off*k+i*k+j=(off+i)*k+j:=by rw [Nat.add_mul]
     rw [e]
     simp [World.cell?,h5,h11]
    ·obtain⟨v,h11,h12⟩:=hcell i r j x hi' hj
     have:cur.getD ((off+i)*k+j) undef=v:=by simp [h11]
     simp only [this]
     exact h12
 | @ptr id k i j T rows r ds cs hl hri h1 _ ih=>
  intro v hc
  cases hc with
  | ptr h3 hnl=>
   rcases hi.st.obj id _ hl with ⟨h5,_⟩|⟨_,cur,h5,h6,h7,h8,h9,h10⟩
   ·exact absurd h5 hnl
   ·have hcell:∀(q:Nat) (x:D),ds[q]? = some x→∃v,cur[i*k+j+q]? = some v∧Cs (KL V σ).I V.w x v:=fun q x hq=>by
     obtain⟨v,h11,h12⟩:=h10 i r (j+q) (cs q) hri (h1 q x hq)
     exact⟨v,by rw [Nat.add_assoc];exact h11,ih q x hq h12⟩
    refine .p (b:=V.ρ id) (o:=i*k+j) (vs:=fun q=>cur.getD (i*k+j+q) undef) (.inr ⟨id,_,hl,hnl,rfl⟩) (fun q x hq=>?_) (fun q x hq=>?_)
    ·obtain⟨v,h11,_⟩:=hcell q x hq
     simp [World.cell?,h5,h11]
    ·obtain⟨v,h11,h12⟩:=hcell q x hq
     have:cur.getD (i*k+j+q) undef=v:=by simp [h11]
     simp only [this]
     exact h12
theorem EZ.rel{V:View}(hi:Inv TB Γ V σ){e e':E}(h:EZ σ e e'){v:Value}(hv:Bc V e v):Bc (KL V σ) e' v:=by
 cases h with
 | Bb=>exact hv.ext Ko
 | o h=>exact AE.d (V:=KL V σ) (h.rel hi hv)
 | @a cs ds h=>
  obtain⟨vs,rfl,h1,h2⟩:=hv
  refine⟨vs,rfl,by rw [h1,h.get.1];simp,fun j c v hj hv=>?_⟩
  simp only [List.getElem?_map,Option.map_eq_some_iff] at hj
  obtain⟨x,hx,rfl⟩:=hj
  obtain⟨c,h3,h4⟩:=h.get.2 j x hx
  exact AE.d (V:=KL V σ) (h4.rel hi (h2 j c v h3 hv))
theorem Ak.settle{c:Code}{Q:Exit→Env→Ab→Nat→Prop}{f:Env}{nx:Nat}(L:List (Nat×E))(hE:Um σ f L)(h:Ak P TB Γ N c Q (look L) [] nx):Ak P TB Γ N c Q f σ nx:=by
 intro V a hr
 refine h (KL V σ) a ⟨fun t x hx=>?_,fun t x hx=>?_,hr.size,?_,hr.nx,hr.defers⟩
 ·obtain⟨y,h1,h2⟩:=hE.get t x hx
  exact h2.rel hr.inv (hr.env t y h1)
 ·obtain⟨y,h1,_⟩:=hE.get t x hx
  exact hr.lt t y h1
 ·have hi:=hr.inv
  refine⟨hi.os,hi.tape,hi.output,hi.old,?_,?_,hi.ext.trans Ko,Ga,fun id o ho=>(by cases ho),fun x hx=>⟨.inl (hi.tabs x hx).1,(hi.tabs x hx).2⟩,hi.hid.same rfl (fun _ h=>.inl h) (fun b hb=>hb.elim .inl fun ⟨id,o,hl,hn,he⟩=>.inr ⟨id,o,hl,hn,he⟩) fun b ⟨_,_,h,_⟩=>by cases h⟩
  ·rintro b (hb|⟨id,o,hl,hn,hb⟩)
   ·exact hi.iLt b hb
   ·exact(hi.st.obj id o hl).blt hn hb
  ·rintro b (hb|⟨id,o,hl,hn,hb⟩)
   ·exact hi.iNew b hb
   ·exact .inr (hi.live id o hl hn b hb)
theorem MR{ids:List Nat}{L0:List (Nat×E)}:∀ {ks:List Nat} {Lk:List (Nat×E)},K9 L0 ks=some Lk→CX σ ids (look L0) Lk
 | [],Lk,h=>by injection h with h;subst h;trivial
 | k :: ks,Lk,h=>by
  unfold K9 at h
  split at h
  ·rename_i e l h1 h2
   injection h with h
   subst h
   exact⟨⟨e,h1,.Bb⟩,MR h2⟩
  ·cases h
theorem CX.app{ids:List Nat}{f:Env}:∀ {L M:List (Nat×E)},CX σ ids f L→CX σ ids f M→CX σ ids f (L++M)
 | [],_,_,h=>h
 | _::_,_,h,h'=>⟨h.1,CX.app h.2 h'⟩
theorem Ak.DW{c:Code}{Q:Exit→Env→Ab→Nat→Prop}{L0 Lk:List (Nat×E)}{nx:Nat}(ids ks:List Nat)(hk:K9 L0 ks=some Lk)(L:List (Nat×E))(hE:CX σ ids (look L0) L)(h:Ak P TB Γ N c Q (look (L++Lk)) (BR ids σ) nx):Ak P TB Γ N c Q (look L0) σ nx:=
 Ak.freeze ids (L++Lk) (hE.app (MR hk)) h
section
variable {d:Option Tmp}{ty:TypeId}{pos:String}{af:Array Edge}{g:Option (Nat×Bool)}{f:Env}{nx:Nat}
theorem Dd{t:TypeId}{x lo:Operand}{s:List UInt8}{m:Int}{k:IntKind}[ht:B6 P t](hx:ev f x=some (eT s))(hl:ev f lo=some (eI k m))(h0:0≤m)(h1:m≤s.length):AY P TB Γ ⟨d,.slice t x (some lo) none none,ty,pos,af,g⟩ f σ nx (eT (s.drop m.toNat)):=by
 have h:=KD (P:=P) (TB:=TB) (Γ:=Γ) (d:=d) (ty:=ty) (pos:=pos) (af:=af) (g:=g) (σ:=σ) (nx:=nx) (t:=t) (x:=x) (lo:=some lo) (hi:=none) (l:=some (k,m)) (h:=none) hx (by simp [Uf,hl]) rfl h0 h1 (Int.le_refl _)
 simpa [I8,I9] using h
theorem XU{t:TypeId}{x hi:Operand}{s:List UInt8}{m:Int}{k:IntKind}[ht:B6 P t](hx:ev f x=some (eT s))(hl:ev f hi=some (eI k m))(h0:0≤m)(h1:m≤s.length):AY P TB Γ ⟨d,.slice t x none (some hi) none,ty,pos,af,g⟩ f σ nx (eT (s.take m.toNat)):=by
 have h:=KD (P:=P) (TB:=TB) (Γ:=Γ) (d:=d) (ty:=ty) (pos:=pos) (af:=af) (g:=g) (σ:=σ) (nx:=nx) (t:=t) (x:=x) (lo:=none) (hi:=some hi) (l:=none) (h:=some (k,m)) hx rfl (by simp [Uf,hl]) (Int.le_refl _) h0 h1
 simpa [I8,I9] using h
theorem cK{t e:TypeId}{b n:Nat}{x lo:Operand}{rows:List (List D)}{m:Int}{k:IntKind}[hsl:BY P t e n b](hx:ev f x=some (.o (.d (.l rows))))(hl:ev f lo=some (eI k m))(hn:∀r∈rows,r.length=n)(h0:0≤m)(h1:m≤rows.length):AY P TB Γ ⟨d,.slice t x (some lo) none none,ty,pos,af,g⟩ f σ nx (.o (.d (.l (rows.drop m.toNat)))):=by
 have h:=Su (P:=P) (TB:=TB) (Γ:=Γ) (d:=d) (ty:=ty) (pos:=pos) (af:=af) (g:=g) (σ:=σ) (nx:=nx) (t:=t) (x:=x) (lo:=some lo) (hi:=none) (l:=some (k,m)) (h:=none) hx (by simp [Uf,hl]) rfl hn h0 h1 (Int.le_refl _)
 simpa [I8,I9] using h
theorem KE{t e:TypeId}{b n:Nat}{x hi:Operand}{rows:List (List D)}{m:Int}{k:IntKind}[hsl:BY P t e n b](hx:ev f x=some (.o (.d (.l rows))))(hl:ev f hi=some (eI k m))(hn:∀r∈rows,r.length=n)(h0:0≤m)(h1:m≤rows.length):AY P TB Γ ⟨d,.slice t x none (some hi) none,ty,pos,af,g⟩ f σ nx (.o (.d (.l (rows.take m.toNat)))):=by
 have h:=Su (P:=P) (TB:=TB) (Γ:=Γ) (d:=d) (ty:=ty) (pos:=pos) (af:=af) (g:=g) (σ:=σ) (nx:=nx) (t:=t) (x:=x) (lo:=none) (hi:=some hi) (l:=none) (h:=some (k,m)) hx rfl (by simp [Uf,hl]) hn (Int.le_refl _) h0 h1
 simpa [I8,I9] using h
end
end
end Go.Am
namespace Go.Am
open Go Go.Proofs
instance:Un Tryz.prog 119:=⟨by kernel_rfl⟩
end Go.Am
