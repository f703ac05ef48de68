/-
  The program's search, as plain data: visits.
-/
import Derived.Test.YtkdilmleinnfiaaGreatDoorPart12
import Derived.Test.YtkdilmleinnfiaaGreatDoorPart9
set_option linter.constructorNameAsVariable false
set_option linter.unusedSectionVars false
set_option linter.unusedSimpArgs false
set_option linter.unusedVariables false
namespace Go.Am
open Go
def DG(steps:List K6)(p l:Int)(fresh:List Int):List K6:=if fresh=[] then steps else steps++[⟨p,l,fresh⟩]
def fC(ws:List (List Int))(w fresh:List Int):List (List Int):=if fresh=[] then ws else ws++[w]
structure Chain (ls:List Int) (steps:List K6) (ws:List (List Int)):Prop where
 wlen:ws.length=steps.length
 chain:∀(t:Nat) s,steps[t]? = some s→(s.p = -1∧ws[t]? = some [])∨∃(q:Nat) (w:List Int),s.p=(q:Int)∧q < t∧ws[q]? = some w∧ws[t]? = some (w++[s.l])∧s.l∈ls
theorem E8{α:Type}{l:List α}{x y:α}{t:Nat}(h:(l++[x])[t]? = some y):l[t]? = some y∨t=l.length∧y=x:=by
 rcases Nat.lt_or_ge t l.length with h1|h1
 ·rw [List.getElem?_append_left h1] at h;exact .inl h
 ·rw [List.getElem?_append_right h1] at h
  have h2:=(List.getElem?_eq_some_iff.1 h).1
  simp at h2
  have:t=l.length:=by omega
  subst this
  simp at h
  exact .inr ⟨rfl,h.symm⟩
theorem HE{α:Type}{l:List α}{x y:α}{t:Nat}(h:l[t]? = some y):(l++[x])[t]? = some y:=by
 rw [List.getElem?_append_left (List.getElem?_eq_some_iff.1 h).1];exact h
theorem Chain.app{ls:List Int}{steps:List K6}{ws:List (List Int)}(h:Chain ls steps ws){i:Nat}{wi:List Int}{l:Int}{ns:List Int}(hw:ws[i]? = some wi)(hl:l∈ls):Chain ls (steps++[⟨i,l,ns⟩]) (ws++[wi++[l]]):=by
 have hi:=(List.getElem?_eq_some_iff.1 hw).1
 refine⟨by simp [h.wlen],fun t s hs=>?_⟩
 rcases E8 hs with h1|⟨h1,h2⟩
 ·rcases h.chain t s h1 with ⟨h2,h3⟩|⟨q,w,h2,h3,h4,h5,h6⟩
  ·exact .inl ⟨h2,HE h3⟩
  ·exact .inr ⟨q,w,h2,h3,HE h4,HE h5,h6⟩
 ·subst h2
  refine .inr ⟨i,wi,rfl,?_,HE hw,?_,hl⟩
  ·rw [h1,←h.wlen];exact hi
  ·rw [h1,←h.wlen];simp
theorem FI.Uc{g:Gr}{seen:List Bool}{steps:List K6}{ws:List (List Int)}{i j:Nat}(h:FI g seen steps ws i j):Chain g.ls steps ws:=⟨h.wlen,h.chain⟩
theorem FI.visit{g:Gr}(hg:GR g){seen:List Bool}{steps:List K6}{ws:List (List Int)}{i j:Nat}(h:FI g seen steps ws i j){wi:List Int}{lj:Int}(hw:ws[i]? = some wi)(hj:g.ls[j]? = some lj){s:K6}(hs:steps[i]? = some s)
 {R:List Int} (hR:∀y,y∈R↔∃n∈s.ns,y∈g.succ n lj) {st:ZF} (hv:bH g.goal g.N seen R st) (hf:st.found=false):FI g st.seen (DG steps i lj st.fresh) (fC ws (wi++[lj]) st.fresh) i (j+1):=by
 have hl:=List.mem_of_getElem? hj
 have hRin:∀y∈R,0≤y∧y < g.N:=fun y hy=>by
  obtain⟨n,hn,hy⟩:=(hR y).1 hy
  exact hg.inn n (h.inn s (List.mem_of_getElem? hs) n hn) lj hl y hy
 have hmono:∀n:Int,0≤n→sn seen n=true→sn st.seen n=true:=fun n hn hx=>(hv.snI n hn).2 (.inl hx)
 have hnog:∀n∈st.fresh,g.goal n=false:=fun n hn=>by
  have:=hv.fd
  rw [hf] at this
  have h2:=List.any_eq_false.1 this.symm n hn
  simpa using h2
 have hpar:∀w∈ws,w=[]∨∃(p:Nat) (v:List Int) (l:Int),ws[p]? = some v∧w=v++[l]∧l∈g.ls∧(p < i∨p=i∧∃j',j' < j+1∧g.ls[j']? = some l):=fun w hw=>by
  rcases h.par w hw with h1|⟨p,v,l,h1,h2,h3,h4⟩
  ·exact .inl h1
  ·refine .inr ⟨p,v,l,h1,h2,h3,?_⟩
   rcases h4 with h4|⟨h4,j',h5,h6⟩
   ·exact .inl h4
   ·exact .inr ⟨h4,j',by omega,h6⟩
 have hdone:∀(t:Nat) s',steps[t]? = some s'→∀l,(t < i∧l∈g.ls∨t=i∧∃j',j' < j+1∧g.ls[j']? = some l)→∀n∈s'.ns,∀y∈g.succ n l,sn st.seen y=true:=by
  intro t s' hs' l hl' n hn y hy
  have hyin:0≤y∧y < g.N:=by
   refine hg.inn n (h.inn s' (List.mem_of_getElem? hs') n hn) l ?_ y hy
   rcases hl' with ⟨_,h1⟩|⟨_,j',_,h1⟩
   ·exact h1
   ·exact List.mem_of_getElem? h1
  rcases hl' with h1|⟨h1,j',h2,h3⟩
  ·exact hmono y hyin.1 (h.done t s' hs' l (.inl h1) n hn y hy)
  ·subst h1
   rcases Nat.lt_succ_iff_lt_or_eq.1 h2 with h4|h4
   ·exact hmono y hyin.1 (h.done t s' hs' l (.inr ⟨rfl,j',h4,h3⟩) n hn y hy)
   ·subst h4
    rw [hj] at h3
    injection h3 with h3
    subst h3
    rw [hs] at hs'
    injection hs' with hs'
    subst hs'
    exact(hv.snI y hyin.1).2 (.inr ((hR y).2 ⟨n,hn,hy⟩))
 unfold DG fC
 by_cases hfr:st.fresh=[]
 ·rw [if_pos hfr,if_pos hfr]
  have hsame:∀n:Int,0≤n→(sn st.seen n=true↔sn seen n=true):=fun n hn=>by
   rw [hv.snI n hn]
   refine⟨fun h1=>?_,.inl⟩
   rcases h1 with h1|h1
   ·exact h1
   ·rcases Bool.eq_false_or_eq_true (sn seen n) with h2|h2
    ·exact h2
    ·have:=(hv.fr n).2 ⟨h1,h2⟩
     rw [hfr] at this;cases this
  refine⟨hv.len,h.wlen,h.chain,h.rch,h.ov,h.min,h.ord,hpar,fun n hn=>by rw [hsame n hn];exact h.snI n hn,hdone,h.nogoal,h.inn,hmono _ hg.s0.1 h.start,?_,h.le,h.nd⟩
  rw [hv.cnt,hfr];exact h.cnt
 ·rw [if_neg hfr,if_neg hfr]
  have hch:=h.Uc.app (ns:=st.fresh) hw hl
  have hnew:∀n∈st.fresh,n∈R∧sn seen n=false:=fun n hn=>(hv.fr n).1 hn
  have hbig:∀w∈ws,slt w (wi++[lj]):=by
   intro w hww
   rcases h.par w hww with rfl|⟨p,v,l,h1,rfl,h3,h4⟩
   ·exact .inl (by simp)
   ·rcases h4 with h4|⟨h4,j',h5,h6⟩
    ·obtain⟨a1,a2⟩:=List.getElem?_eq_some_iff.1 h1
     obtain⟨b1,b2⟩:=List.getElem?_eq_some_iff.1 hw
     have h7:=(List.pairwise_iff_getElem.1 h.ord) p i a1 b1 h4
     rw [a2,b2] at h7
     exact TW h7
    ·subst h4
     rw [hw] at h1
     injection h1 with h1
     subst h1
     obtain⟨a1,a2⟩:=List.getElem?_eq_some_iff.1 h6
     obtain⟨b1,b2⟩:=List.getElem?_eq_some_iff.1 hj
     have h7:=(List.pairwise_iff_getElem.1 hg.srt) j' j a1 b1 h5
     rw [a2,b2] at h7
     exact XA h7
  have hmemR:∀n∈st.fresh,∃m∈s.ns,n∈g.succ m lj:=fun n hn=>(hR n).1 (hnew n hn).1
  refine⟨hv.len,hch.wlen,hch.chain,fun t s' w hs' hw' n hn=>?_,fun w hww=>?_,fun t s' w hs' hw' n hn u hu hlt hr=>?_,?_,fun w hww=>?_,fun n hn=>?_,fun t s' hs' l hl' n hn y hy=>?_,fun s' hs' n hn=>?_,fun s' hs' n hn=>?_,hmono _ hg.s0.1 h.start,?_,?_,fun s' hs'=>?_⟩
  ·rcases E8 hs' with h1|⟨h1,h2⟩
   ·rcases E8 hw' with h3|⟨h3,h4⟩
    ·exact h.rch t s' w h1 h3 n hn
    ·have:=(List.getElem?_eq_some_iff.1 h1).1
     rw [h.wlen] at h3;omega
   ·subst h2
    rcases E8 hw' with h3|⟨h3,h4⟩
    ·have:=(List.getElem?_eq_some_iff.1 h3).1
     rw [h.wlen] at this;omega
    ·subst h4
     obtain⟨m,hm,hnm⟩:=hmemR n hn
     exact De.2 ⟨m,h.rch i s wi hs hw m hm,hnm⟩
  ·rcases List.mem_append.1 hww with h1|h1
   ·exact h.ov w h1
   ·simp at h1;subst h1
    exact EF.2 ⟨h.ov wi (List.mem_of_getElem? hw),hl⟩
  ·rcases E8 hs' with h1|⟨h1,h2⟩
   ·rcases E8 hw' with h3|⟨h3,h4⟩
    ·exact h.min t s' w h1 h3 n hn u hu hlt hr
    ·have:=(List.getElem?_eq_some_iff.1 h1).1
     rw [h.wlen] at h3;omega
   ·subst h2
    rcases E8 hw' with h3|⟨h3,h4⟩
    ·have:=(List.getElem?_eq_some_iff.1 h3).1
     rw [h.wlen] at this;omega
    ·subst h4
     have:=h.Zq hg hw hj u.length u rfl hu hlt n hr
     rw [(hnew n hn).2] at this;cases this
  ·refine List.pairwise_append.2 ⟨h.ord,by simp,fun a ha b hb=>?_⟩
   simp at hb;subst hb
   exact hbig a ha
  ·rcases List.mem_append.1 hww with h1|h1
   ·rcases hpar w h1 with h2|⟨p,v,l,h2,h3,h4,h5⟩
    ·exact .inl h2
    ·exact .inr ⟨p,v,l,HE h2,h3,h4,h5⟩
   ·simp at h1;subst h1
    exact .inr ⟨i,wi,lj,HE hw,rfl,hl,.inr ⟨rfl,j,by omega,hj⟩⟩
  ·rw [hv.snI n hn,h.snI n hn]
   constructor
   ·rintro(⟨s',hs',hns⟩|hnR)
    ·exact⟨s',List.mem_append_left _ hs',hns⟩
    ·rcases Bool.eq_false_or_eq_true (sn seen n) with h2|h2
     ·obtain⟨s',hs',hns⟩:=(h.snI n hn).1 h2
      exact⟨s',List.mem_append_left _ hs',hns⟩
     ·exact⟨⟨i,lj,st.fresh⟩,List.mem_append_right _ (by simp),(hv.fr n).2 ⟨hnR,h2⟩⟩
   ·rintro⟨s',hs',hns⟩
    rcases List.mem_append.1 hs' with h1|h1
    ·exact .inl ⟨s',h1,hns⟩
    ·simp at h1;subst h1
     exact .inr (hnew n hns).1
  ·rcases E8 hs' with h1|⟨h1,h2⟩
   ·exact hdone t s' h1 l hl' n hn y hy
   ·have:=(List.getElem?_eq_some_iff.1 hs).1
    rcases hl' with ⟨h3,_⟩|⟨h3,_⟩<;>omega
  ·rcases List.mem_append.1 hs' with h1|h1
   ·exact h.nogoal s' h1 n hn
   ·simp at h1;subst h1;exact hnog n hn
  ·rcases List.mem_append.1 hs' with h1|h1
   ·exact h.inn s' h1 n hn
   ·simp at h1;subst h1;exact hRin n (hnew n hn).1
  ·have h1:=hv.cnt
   have h2:=h.cnt
   have h3:0 < st.fresh.length:=List.length_pos_iff.2 hfr
   simp;omega
  ·have:=h.le;simp;omega
  ·rcases List.mem_append.1 hs' with h1|h1
   ·exact h.nd s' h1
   ·simp at h1;subst h1;exact hv.nd
theorem FI.init{g:Gr}(hg:GR g){st:ZF}(hv:bH g.goal g.N (List.replicate g.N false) [g.s0] st)(hf:st.found=false):st.fresh=[g.s0]∧FI g st.seen [⟨-1,0,[g.s0]⟩] [[]] 0 0:=by
 have hno:∀n,sn (List.replicate g.N false) n=false:=fun n=>by
  unfold sn
  by_cases h:n.toNat < g.N<;>simp [List.getD,h]
 have hmem:∀n,n∈st.fresh↔n=g.s0:=fun n=>by rw [hv.fr n];simp [hno]
 have hfr:st.fresh=[g.s0]:=by
  have h1:=hv.nd
  generalize st.fresh=l at hmem h1
  cases l with
  | nil=>have:=(hmem g.s0).2 rfl;cases this
  | cons a l=>
   have ha:=(hmem a).1 (by simp)
   subst ha
   cases l with
   | nil=>rfl
   | cons b l=>
    have hb:=(hmem b).1 (by simp)
    subst hb
    simp at h1
 refine⟨hfr,?_⟩
 have hng:g.goal g.s0=false:=by
  have:=hv.fd
  rw [hf,hfr] at this
  simpa using this.symm
 have one:∀(t:Nat) (s:K6),[(⟨-1,0,[g.s0]⟩:K6)][t]? = some s→t=0∧s=⟨-1,0,[g.s0]⟩:=fun t s h=>by
  cases t with
  | zero=>simp at h;exact⟨rfl,h.symm⟩
  | succ t=>simp at h
 have one':∀(t:Nat) (w:List Int),[([]:List Int)][t]? = some w→w=[]:=fun t w h=>by
  cases t with
  | zero=>exact(Option.some.inj h).symm
  | succ t=>simp at h
 refine⟨hv.len,rfl,fun t s hs=>?_,fun t s w hs hw n hn=>?_,fun w hw=>?_,fun t s w hs hw n hn u _ hlt=>?_,by simp,fun w hw=>by simp at hw;exact .inl hw,fun n hn=>?_,fun t s hs l hl n hn y hy=>?_,fun s hs n hn=>?_,fun s hs n hn=>?_,?_,?_,by simp,fun s hs=>?_⟩
 ·obtain⟨rfl,rfl⟩:=one t s hs;exact .inl ⟨rfl,rfl⟩
 ·obtain⟨rfl,rfl⟩:=one t s hs
  have:=one' 0 w hw
  subst this
  simp at hn;subst hn;exact(rfl:g.s0=g.s0)
 ·simp at hw;subst hw;exact fun l hl=>(by cases hl)
 ·have:=one' t w hw
  subst this
  rcases hlt with h1|⟨_,h1⟩
  ·simp at h1
  ·cases u<;>exact h1.elim
 ·rw [hv.snI n hn];simp [hno]
 ·rcases hl with ⟨h1,_⟩|⟨_,j',h1,_⟩<;>omega
 ·simp at hs;subst hs;simp at hn;subst hn;exact hng
 ·simp at hs;subst hs;simp at hn;subst hn;exact hg.s0
 ·exact(hv.snI _ hg.s0.1).2 (.inr (by simp))
 ·rw [hv.cnt,hfr];simp
 ·simp at hs;subst hs;simp
theorem BM.start{g:Gr}(h:g.goal g.s0=true):BM g (some []):=
 ⟨fun l hl=>(by cases hl),⟨g.s0,rfl,h⟩,fun u _ _ hlt=>by rcases hlt with h1|⟨_,h1⟩;(simp at h1);(cases u<;>exact h1.elim)⟩
end Go.Am
namespace Go.Am
open Go Go.Proofs
set_option maxHeartbeats 1000000
set_option maxRecDepth 4000
attribute [local irreducible] AV BX Lex Bf Av Spec
variable {TB:Be}
def DF(bs:List UInt8)(k i:Nat):UInt8:=if i < k∨bs.length≤i+k then bs.getD (bs.length - 1 - i) 0 else bs.getD i 0
theorem bm(bs:List UInt8):(Bi bs.length fun i=>EN (DF bs 0 i))=bs.map EN:=by
 apply List.ext_getElem?
 intro i
 by_cases hi:i < bs.length
 ·rw [CR (g:=fun i=>EN (DF bs 0 i)) hi]
  unfold DF
  rw [if_neg (by omega)]
  simp [List.getD,hi]
 ·rw [List.getElem?_eq_none (by simp [Bi];omega),List.getElem?_eq_none (by simp;omega)]
theorem Xs(bs:List UInt8){k:Nat}(hk:bs.length≤2*k+1):(Bi bs.length fun i=>EN (DF bs k i))=bs.reverse.map EN:=by
 apply List.ext_getElem?
 intro i
 by_cases hi:i < bs.length
 ·rw [CR (g:=fun i=>EN (DF bs k i)) hi]
  unfold DF
  have h1:bs.reverse[i]? = some (bs.getD (bs.length - 1 - i) 0):=by
   rw [List.getElem?_reverse hi]
   have:bs.length - 1 - i < bs.length:=by omega
   simp [List.getD,this]
  rw [List.getElem?_map,h1]
  by_cases h2:i < k∨bs.length≤i+k
  ·rw [if_pos h2];rfl
  ·rw [if_neg h2]
   have:bs.length - 1 - i=i:=by omega
   rw [this];rfl
 ·rw [List.getElem?_eq_none (by simp [Bi];omega),List.getElem?_eq_none (by simp;omega)]
theorem Y7(r:Nat→Nat)(l:List UInt8):(l.map EN).map (C.Bp r)=l.map EN:=by
 rw [List.map_map];exact List.map_congr_left fun c _=>rfl
theorem Jx(r:Nat→Nat)(c:UInt8):C.Bp r (EN c)=EN c:=rfl
theorem MC(r:Nat→Nat)(n:Nat)(H:Nat→UInt8):(Bi n fun i=>EN (H i)).map (C.Bp r)=Bi n fun i=>EN (H i):=by
 unfold Bi
 rw [List.map_map]
 exact List.map_congr_left fun i _=>rfl
theorem Jc{n q:Nat}{H:Nat→UInt8}(h:q < n):(Bi n fun i=>EN (H i))[0+((q:Nat):Int).toNat]? = some (EN (H q)):=by
 rw [Nat.zero_add,Int.toNat_natCast];exact CR (g:=fun i=>EN (H i)) h
theorem Lo{n q:Nat}{H:Nat→UInt8}{c d:UInt8}:(Bi n fun i=>EN (H i)).set (0+((q:Nat):Int).toNat) (AE (EN d) 0 (eC (eI .u8 (c.toNat:Nat))))=Bi n fun i=>EN (if i=q then c else H i):=by
 rw [Nat.zero_add,Int.toNat_natCast]
 have e:AE (EN d) 0 (eC (eI .u8 (c.toNat:Nat)))=EN c:=rfl
 rw [e,Ko]
 refine Ce fun i _=>?_
 by_cases h:i=q<;>simp [h]
theorem Sc(bs:List UInt8)(hb:bs.length≤1099511627776):Spec Tryz.prog TB 286 [(0,.cells 5 1 (bs.map EN))] 1 [.o (.arr 0 1 0 bs.length)] (fun x σ nx=>x=.t []∧nx=1∧σ=[(0,.cells 5 1 (bs.reverse.map EN))]):=by
 refine eN Tryz.func286 rfl (by kernel_rfl) rfl ?_;intro Γ hΓ
 (repeat first|(refine sM rfl ?_ ?_;first|exact tI|omega) |refine aU rfl ?_ |refine Aa ?_)
 refine aB ?_
 refine Av.AR (α:={k:Nat // k≤bs.length}) (fun ⟨k,hk⟩=>[(0,.o (.arr 0 1 0 bs.length)),(2,eI .i64 k),(3,eI .i64 ((bs.length:Int) - 1 - k))]) (fun ⟨k,hk⟩=>[(0,.cells 5 1 (Bi bs.length fun i=>EN (DF bs k i)))]) 1 (fun ⟨k,hk⟩=>bs.length - k) (⟨0,by omega⟩) [0] (Dq hΓ rfl rfl) (by (simp[cX,zC,hΓ,MC,bm,Jx])) ?_;rintro⟨k,hk⟩;(try dsimp only)
 (repeat first|refine tM rfl ?_ |refine s2 rfl fun _ _hb=>?_ |refine aU rfl ?_ |refine Aa ?_)
 (refine aC rfl ?_ ?_<;>rintro⟨⟩)
 ·have hlt:2*k+1 < bs.length:=by (simp only[oZ] at *;omega)
  obtain⟨m,hm⟩:∃m:Nat,m=bs.length - 1 - k:=⟨_,rfl⟩
  have e3:(bs.length:Int) - 1 - k=((m:Nat):Int):=by omega
  have hk1:DF bs k k=bs.getD k 0:=by unfold DF;rw [if_neg (by omega)]
  have hm1:DF bs k m=bs.getD m 0:=by unfold DF;rw [if_neg (by omega)]
  have hgk:=Jc (H:=DF bs k) (q:=k) (n:=bs.length) (by omega)
  have hgm:=Jc (H:=DF bs k) (q:=m) (n:=bs.length) (by omega)
  have hs1:=Lo (n:=bs.length) (q:=k) (H:=DF bs k) (c:=DF bs k m) (d:=DF bs k k)
  have hgm2:=Jc (H:=fun i=>if i=k then DF bs k m else DF bs k i) (q:=m) (n:=bs.length) (by omega)
  have hs2:=Lo (n:=bs.length) (q:=m) (H:=fun i=>if i=k then DF bs k m else DF bs k i) (c:=DF bs k k) (d:=DF bs k m)
  have hmk:m≠k:=by omega
  rw [if_neg hmk] at hgm2
  have hc:(Bi bs.length fun i=>EN (if i=m then DF bs k k else if i=k then DF bs k m else DF bs k i))=Bi bs.length fun i=>EN (DF bs (k+1) i):=Ce fun i hi=>by
   congr 1
   by_cases h1:i=m
   ·subst h1;rw [if_pos rfl,hk1];unfold DF;rw [if_pos (by omega)];congr 1;omega
   ·rw [if_neg h1]
    by_cases h2:i=k
    ·subst h2;rw [if_pos rfl,hm1];unfold DF;rw [if_pos (by omega)];congr 1
    ·rw [if_neg h2];unfold DF
     by_cases h3:i < k∨bs.length≤i+k
     ·rw [if_pos h3,if_pos (by omega)]
     ·rw [if_neg h3,if_neg (by omega)]
  rw [←hs1] at hgm2
  rw [e3]
  refine aK ?_
  refine aS (aB ?_)
  refine rG (gk [13,15] [2,3]) (by kernel_rfl) ?_
  (repeat first|(refine sM rfl ?_ ?_;first|exact tI|omega) |refine t4 rfl ‹_› rfl ?_ |refine aU rfl ?_ |refine Aa ?_)
  refine⟨⟨k+1,by omega⟩,by dsimp only;(omega),[0],?_⟩
  rw [hs1,hs2,hc]
  have e4:(m:Int) - 1=bs.length - 1 - (k+1):=by omega
  simp[cX,zC,hΓ,MC,e4]
 ·have hle:bs.length≤2*k+1:=by (simp only[oZ] at *;omega)
  rw [Xs bs hle]
  exact aE ⟨_,rfl,rfl,rfl,rfl⟩
abbrev Zz(s:K6):List D:=[iD s.p,iD s.l,Eg s.ns]
abbrev MN(s:K6):List C:=[.d (iD s.p),.d (iD s.l),.d (Eg s.ns)]
abbrev XE(l:List K6):D:=.l (l.map Zz)
theorem UD{l:Int}(h0:0≤l)(h1:l < 6):EN (UInt8.ofNat (97+l.toNat))=[.d (.v (.int .u8 (97+l)))]:=by
 have h2:(97+l.toNat) % 256=97+l.toNat:=Nat.mod_eq_of_lt (by omega)
 have h3:(97+l:Int)=((97+l.toNat:Nat):Int):=by omega
 simp [EN,h2,h3]
theorem Zl(o:List Int):(E7 o).reverse=E7 o.reverse:=by simp [E7]
theorem Qn{ls:List Int}{steps:List K6}{ws:List (List Int)}(h:Chain ls steps ws)(hls:∀l∈ls,0≤l∧l < 6){w:List Int}(hlen:1≤steps.length∧steps.length≤2097152)(hw:ws[steps.length - 1]? = some w):Pure Tryz.prog TB 238 [.o (.d (XE steps))] (eT (E7 w)):=by
 refine eN Tryz.func238 rfl (by kernel_rfl) rfl ?_;intro Γ hΓ
 (repeat first|refine tM rfl ?_ |refine aU rfl ?_ |refine Aa ?_)
 (refine pW rfl ?_ rfl (by rfl);refine N6 1 5 ?_)
 (repeat first|refine sN rfl ?_ |(refine sM rfl ?_ ?_;first|exact tI|omega) |refine aU rfl ?_ |refine Aa ?_)
 refine aB ?_
 refine Av.AR (α:={x:Nat×List Int // x.1+x.2.length < steps.length∧∃v,ws[x.1]? = some v∧w=v++x.2.reverse}) (fun ⟨⟨i,o⟩,hP⟩=>[(0,.o (.d (XE steps))),(3,.o (.arr 0 1 0 o.length)),(4,eI .i64 i)]) (fun ⟨⟨i,o⟩,hP⟩=>[(0,.cells 5 1 ((E7 o).map EN))]) 1 (fun ⟨⟨i,o⟩,hP⟩=>i) (⟨(steps.length - 1,[]),by simp;omega,w,hw,by simp⟩) [0] (Dq hΓ rfl rfl) (by (simp[cX,zC,hΓ,E7,Int.ofNat_sub,hlen.1])) ?_;rintro⟨⟨i,o⟩,hP⟩;(try dsimp only)
 obtain⟨hi,v,hv,hwv⟩:=hP
 simp only at hi hv hwv
 obtain⟨s,hs⟩:=get_some (l:=steps) (k:=i) (by omega)
 have hs':=get_map (g:=Zz) hs
 have hch:=h.chain i s hs
 have htl:(E7 o).length=o.length:=by simp [E7]
 (repeat first|refine tM rfl ?_ |(refine s4 rfl ‹_› rfl ?_ ?_;omega) |refine s2 rfl fun _ _hb=>?_ |refine aU rfl ?_ |refine Aa ?_)
 (refine aC rfl ?_ ?_<;>rintro⟨⟩)
 ·obtain⟨q,u,hq,hqi,hqu,hu,hl⟩:∃(q:Nat) (u:List Int),s.p=(q:Int)∧q < i∧ws[q]? = some u∧ws[i]? = some (u++[s.l])∧s.l∈ls:=by
   rcases hch with ⟨h1,_⟩|h1
   ·exfalso;(simp only[oZ] at *;omega)
   ·exact h1
  have hlb:=hls _ hl
  rw [hv] at hu
  injection hu with hu
  have hby:=UD hlb.1 hlb.2
  have htx:E7 (o++[s.l])=E7 o++[UInt8.ofNat (97+s.l.toNat)]:=by simp [E7]
  have htx2:(E7 (o++[s.l])).map EN=(E7 o).map EN++[[.d (.v (.int .u8 (97+s.l)))]]:=by rw [htx,List.map_append,List.map_cons,hby];rfl
  refine aK ?_
  refine aS (aB ?_)
  (repeat first|refine tA rfl ?_ |(refine s4 rfl ‹_› rfl ?_ ?_;omega) |refine sP rfl (Fq s.l hlb.1 (by omega)) rfl ?_ |refine aU rfl ?_)
  (refine pW rfl ?_ rfl (by rfl);refine AY rfl rfl rfl (by first| (simp;done)|(simp;(omega))) rfl (by intro r hr;simp at hr;subst hr;rfl) (by rfl) (Nat.le_of_ble_eq_true rfl) (by simp;omega) ?_)
  (repeat first|refine tX rfl ?_ |(refine s4 rfl ‹_› rfl ?_ ?_;omega) |refine aU rfl ?_ |refine Aa ?_)
  refine⟨⟨(q,o++[s.l]),by simp;omega,u,hqu,by rw [hwv,hu];simp⟩,by dsimp only;omega,[1],?_⟩
  dsimp only
  rw [htx2]
  simp[cX,zC,hΓ,hq,Jx]
 ·have hv0:v=[]:=by
   rcases hch with ⟨_,h1⟩|⟨q,u,h1,_⟩
   ·rw [hv] at h1;injection h1
   ·exfalso;(simp only[oZ] at *;omega)
  subst hv0
  have hwo:w=o.reverse:=by rw [hwv];rfl
  have hrv:=Sc (TB:=TB) (E7 o) (by omega)
  rw [htl,Zl,←hwo] at hrv
  refine aE ?_
  (repeat first|refine tM rfl ?_ |refine aU rfl ?_)
  (refine pW rfl ?_ rfl (by rfl);refine Cr [0] rfl rfl hrv ⟨rfl,by simp,by simp⟩ rfl (by simp[cX,zC,hΓ,Jx]) ?_;rintro x0 σ1 nx1 ⟨rfl,rfl,rfl⟩ _)
  have htw:(E7 w).length=o.length:=by rw [hwo];simp [E7]
  (repeat first|refine tM rfl ?_|(refine Ai rfl ?_;refine gA rfl ?_;first| refine gQ (TM (E7 w) rfl rfl (by simp;omega) (by rw [List.drop_zero,Y7,List.take_of_length_le (by simp;omega)])) (by rfl) ?_) |refine aU rfl ?_ |refine Aa ?_)
  refine aR ⟨_,rfl,rfl⟩
theorem ZI(p:Nat→Prop):(∀i,i < 5→p i)↔p 0∧p 1∧p 2∧p 3∧p 4:=by
 constructor
 ·intro h;exact⟨h 0 (by omega),h 1 (by omega),h 2 (by omega),h 3 (by omega),h 4 (by omega)⟩
 ·rintro⟨h0,h1,h2,h3,h4⟩ i hi
  have:i=0∨i=1∨i=2∨i=3∨i=4:=by omega
  rcases this with rfl|rfl|rfl|rfl|rfl<;>assumption
theorem XK{goal:Int→Bool}{seen:List Bool}{nodes:List Int}{k:Nat}{x:Int}(h:nodes[k]? = some x):Pg goal seen (nodes.take (k+1))=QV goal (Pg goal seen (nodes.take k)) x:=by
 unfold Pg;rw [Iv h]
theorem QD{l:List Bool}{n:Int}:(l.map BE).set (0+n.toNat) (AE (BE false) 0 (eC (eB true)))=(l.set n.toNat true).map BE:=by
 simp [AE,eC,List.map_set]
abbrev Em(N:Nat)(gG:FuncId)(capsG:List C)(seen:List Bool)(q:Nat)(steps:List K6):Ab:=
 [(0,.cells 23 1 [[.arr 1 1 0 N]]),(1,.cells 4 1 (seen.map BE)),(2,.cells 151 1 [[.fn gG capsG]]),(3,.cells 240 1 [[.arr q 3 0 steps.length]]),(q,.cells 242 3 (steps.map MN))]
theorem QU{goal:Int→Bool}{gG:FuncId}{capsG:List C}{N:Nat}(hG:∀n:Int,0≤n∧n < N→Pure Tryz.prog TB gG ([eI .i64 n]++capsG.map .o) (eB (goal n)))(hcG:C.A5 capsG=true)(hren:∀r,C.Bp r capsG=capsG)
 (seen:List Bool) (steps:List K6) (p l:Int) (nodes:List Int) (hs:seen.length=N) (hN:N≤1048576) (hst:steps.length≤1048576) (hn:∀n∈nodes,0≤n∧n < N) :
 Spec Tryz.prog TB 237 (Em N gG capsG seen 4 steps) 5 [eI .i64 p,eI .i64 l,Ag nodes,.o (.ptr 0 1 0 0),.o (.ptr 2 1 0 0),.o (.ptr 3 1 0 0)]
  (fun x σ nx=>x=eB (Pg goal seen nodes).found∧∃q,(q=4∧nx=5∨q=5∧nx=6)∧σ=Em N gG capsG (Pg goal seen nodes).seen q (DG steps p l (Pg goal seen nodes).fresh)):=by
 have hvk:∀k,bH goal N seen (nodes.take k) (Pg goal seen (nodes.take k)):=fun k=>SB hs fun n hn'=>hn n (List.mem_of_mem_take hn')
 refine eN Tryz.func237 rfl (by kernel_rfl) rfl ?_;intro Γ hΓ
 refine Av.bound 2 rfl fun hB0=>?_
 have hB:=hB0 _ .refl
 rw [List.length_map] at hB
 (repeat first|refine tM rfl ?_ |refine aU rfl ?_ |refine Aa ?_)
 (refine pW rfl ?_ rfl (by rfl);refine N6 1 3 ?_)
 (repeat first|refine sN rfl ?_ |refine tM rfl ?_ |refine aU rfl ?_ |refine Aa ?_)
 refine aB ?_
 refine Av.AR (α:={k:Nat // k≤nodes.length}) (fun ⟨k,hk⟩=>[(0,eI .i64 p),(1,eI .i64 l),(3,.o (.ptr 0 1 0 0)),(4,.o (.ptr 2 1 0 0)),(5,.o (.ptr 3 1 0 0)),(10,.o (.arr 5 1 0 (Pg goal seen (nodes.take k)).fresh.length)),(11,eB (Pg goal seen (nodes.take k)).found),(14,Ag nodes),(15,eI .i64 nodes.length),(16,eI .i64 k)]) (fun ⟨k,hk⟩=>Em N gG capsG (Pg goal seen (nodes.take k)).seen 4 steps++[(5,.cells 3 1 ((Pg goal seen (nodes.take k)).fresh.map AI))]) 6 (fun ⟨k,hk⟩=>nodes.length - k) (⟨0,by omega⟩) [0,1,2,3,4,5] (Dq hΓ rfl rfl) (by (simp[cX,zC,hΓ,Em,Pg,hren])) ?_;rintro⟨k,hk⟩;(try dsimp only)
 have hv:=hvk k
 have hvs:=fun x=>XK (goal:=goal) (seen:=seen) (nodes:=nodes) (k:=k) (x:=x)
 generalize hV:Pg goal seen (nodes.take k)=v at *
 (repeat first|refine s2 rfl fun _ _hb=>?_ |refine aU rfl ?_ |refine Aa ?_)
 (refine aC rfl ?_ ?_<;>rintro⟨⟩)
 ·obtain⟨x,hx⟩:=get_some (l:=nodes) (k:=k) (by (simp only[oZ] at *;omega))
  have hx':=get_map (g:=Bm) hx
  have hxb:=hn x (List.mem_of_getElem? hx)
  have hvs:=hvs x hx
  have hvl:=hv.len
  obtain⟨b,hb⟩:=get_some (l:=v.seen) (k:=x.toNat) (by omega)
  have hb':(v.seen.map BE)[0+x.toNat]? = some (BE b):=by simp [hb]
  have hsb:sn v.seen x=b:=by simp [sn,List.getD,hb]
  have hfl:v.fresh.length≤N:=by
   refine EE _ _ hv.nd fun y hy=>hn y (List.mem_of_mem_take ((hv.fr y).1 hy).1)
  unfold QV at hvs
  rw [hsb] at hvs
  obtain⟨vse,vfr,vfd⟩:=v
  simp only at hvs hvl hb hb' hfl
  refine aK ?_
  refine aS (aB ?_)
  (repeat first|((first|refine sM rfl ?_ ?_|refine s4 rfl ‹_› rfl ?_ ?_);first|exact tI|omega) |refine s2 rfl fun _ _hb=>?_ |refine aU rfl ?_ |refine Aa ?_)
  (refine aC rfl ?_ ?_<;>rintro⟨⟩)
  ·have hbf:b=false:=by simpa using _hb
   subst hbf
   rw [if_neg (by simp)] at hvs
   (repeat first|(refine sA rfl ?_ ?_;first|exact tI|omega) |refine t4 rfl ‹_› rfl ?_ |refine aU rfl ?_ |refine Aa ?_)
   (refine pW rfl ?_ rfl (by rfl);refine AY rfl rfl rfl (by first| (simp;done)|(simp;(omega))) rfl (by intro r hr;simp at hr;subst hr;rfl) (by rfl) (Nat.le_of_ble_eq_true rfl) (by simp;omega) ?_)
   (repeat first|(refine sX rfl ?_ ?_;first|exact tI|simp only[oZ] at *;omega) |refine s3 rfl ?_ ?_<;>rintro rfl |refine aU rfl ?_ |refine Aa ?_)
   (repeat first|(refine sC rfl (hG x hxb) ?_;intro _ _hb)|(refine Ai rfl ?_;refine gA rfl ?_;first| refine gQ (O6 rfl rfl rfl rfl) (by rfl) ?_))
   ·refine⟨⟨k+1,by (simp only[oZ] at *;omega)⟩,by dsimp only;((simp only[oZ] at *;omega)),[0,1,2,3,4,6],?_⟩
    rw [QD]
    simp[cX,zC,hΓ,hvs,Em,hren,ZI]
   ·(repeat first|(refine sA rfl ?_ ?_;first|exact tI|simp only[oZ] at *;omega)|(refine Ai rfl ?_;refine gA rfl ?_;first| (refine gB (fun _ _=>AD rfl rfl (by simp [E.AL,C.AL,hcG]) (hG x hxb) rfl) ?_;intro _ _hb)) |refine aU rfl ?_ |refine Aa ?_)
    refine⟨⟨k+1,by (simp only[oZ] at *;omega)⟩,by dsimp only;((simp only[oZ] at *;omega)),[0,1,2,3,4,6],?_⟩
    rw [QD]
    simp[cX,zC,hΓ,hvs,Em,hren,ZI,_hb]
  ·have hbt:b=true:=by simpa using _hb
   subst hbt
   rw [if_pos rfl] at hvs
   refine aK ?_
   (repeat first|(refine sM rfl ?_ ?_;first|exact tI|simp only[oZ] at *;omega) |refine aU rfl ?_ |refine Aa ?_)
   refine⟨⟨k+1,by (simp only[oZ] at *;omega)⟩,by dsimp only;((simp only[oZ] at *;omega)),[0,1,2,3,4,5],?_⟩
   simp[cX,zC,hΓ,hvs,Em,hren,ZI]
 ·obtain rfl:k=nodes.length:=by (simp only[oZ] at *;omega)
  rw [List.take_length] at hV
  subst hV
  refine aE ?_
  have hfl:(Pg goal seen nodes).fresh.length≤N:=by
   have hv:=hvk nodes.length
   rw [List.take_length] at hv
   refine EE _ _ hv.nd fun y hy=>hn y ((hv.fr y).1 hy).1
  generalize Pg goal seen nodes=vv at *
  obtain⟨vse,vfr,vfd⟩:=vv
  have hfl:vfr.length≤N:=hfl
  (repeat first|refine tM rfl ?_ |refine s2 rfl fun _ _hb=>?_ |refine aU rfl ?_ |refine Aa ?_)
  (refine aC rfl ?_ ?_<;>rintro⟨⟩)
  ·have hne:vfr≠[]:=fun e=>by rw [e] at _hb;simp at _hb
   refine Av.freeze [5] [(0,eI .i64 p),(1,eI .i64 l),(5,.o (.ptr 3 1 0 0)),(10,Ag vfr),(11,eB vfd)] ⟨⟨_,rfl,.AU⟩,⟨_,rfl,.AU⟩,⟨_,rfl,.AU⟩,⟨_,rfl,.o (.full (by simp) rfl (by simp [Function.comp_def]) (by simp))⟩,⟨_,rfl,.AU⟩,trivial⟩ ?_
   (repeat first|refine tA rfl ?_|(refine Ai rfl ?_;refine gA rfl ?_;first| refine gS (fun _ _=>AJ rfl rfl (by rfl) (by rfl)) ?_) |refine aU rfl ?_)
   (refine pW rfl ?_ rfl (by rfl);refine AY rfl rfl rfl (by first| (simp;done)|(simp;(omega))) rfl (by intro r hr;simp at hr;subst hr;rfl) (by rfl) (Nat.le_of_ble_eq_true rfl) (by simp;omega) ?_)
   (repeat first|refine tX rfl ?_ |refine aU rfl ?_ |refine Aa ?_)
   refine Av.names [0,1,2,3,4,6] [(9,eB vfd)] (Em N gG capsG vse 5 (DG steps p l vfr)) (by rw [hΓ];decide) (by decide) (by simp[cX,zC,hΓ]) (by simp[cX,zC,hΓ,Em,hren,DG,hne,BH,AE,eC]) ?_
   refine aR ⟨_,rfl,rfl,5,.inr ⟨rfl,rfl⟩,rfl⟩
  ·have hne:vfr=[]:=List.length_eq_zero_iff.1 (by (simp only[oZ] at *;omega))
   subst hne
   refine aK ?_
   (repeat first|refine tM rfl ?_ |refine aU rfl ?_ |refine Aa ?_)
   refine Av.names [0,1,2,3,4] [(9,eB vfd)] (Em N gG capsG vse 4 steps) (by rw [hΓ];decide) (by decide) (by simp[cX,zC,hΓ]) (by simp[cX,zC,hΓ,Em,hren]) ?_
   refine aR ⟨_,rfl,rfl,4,.inl ⟨rfl,rfl⟩,by simp [DG]⟩
theorem WI{P:Program}{Γ:Ctx}{d:Option Tmp}{ty:TypeId}{pos:String}{af:Array Edge}{g:Option (Nat×Bool)}{f:Env}{σ:Ab}{nx:Nat}{K:E→Ab→Nat→Prop}{T:TypeId}(k e:Nat)[hz:BL P T [.slice none 0 0]]
 (hK:K (.o (.ptr (nx+1) 1 0 0)) ((nx+1,.cells T 1 [[.arr nx k 0 0]])::(nx,.cells e k [])::σ) (nx+2)):BX P TB Γ ⟨d,.alloc T,ty,pos,af,g⟩ f σ nx K:=
 C4 fun V ρ h1 h2 h3=>by
  subst h3
  obtain⟨i,zv,hi,hzv,hzz⟩:=IQ hz.out
  have hzc:zv.cells = #[.slice none 0 0]:=by have:=congrArg List.toArray hzz;simpa using this
  obtain⟨hi2,he2⟩:=h2.alloc (c:=0) (nl:=True) (w:=V.w) (ob:=.cells e k []) rfl rfl rfl rfl (Nat.le_refl _) (fun _ _=>rfl) (.inl ⟨by simp [Ak],rfl⟩)
  have hc:Cy (Ak V V.w.heap.size 0 True V.w) [.arr V.nx k 0 0] zv.cells:=by
   rw [hzc]
   refine⟨rfl,fun j c v hj hv=>?_⟩
   match j with
   | 0=>simp at hj hv;subst hj hv;exact Ax.nil (by simp [Ak]) (by simp [Ak])
   | j+1=>simp at hj
  obtain⟨hi',he⟩:=OG hi2 (T:=T) hc
  refine⟨.pointer (some ⟨V.w.heap.size,0,none⟩),_,_,_,?_,he2.trans he,hi',?_,hK⟩
  ·simp [execOp,Instr.alloc,zeroValue,typeInfo,hi,hzv,newVar,newRow,Ak,go_sem]
  ·exact Ln
theorem Of(r:Nat→Nat):∀(l m:List E),DM r (l++m)=DM r l++DM r m
 | [],m=>rfl
 | e::l,m=>by simp [DM,Of r l m]
theorem MA(r:Nat→Nat):∀(l:List C),DM r (l.map .o)=(C.Bp r l).map .o
 | []=>rfl
 | c::l=>by simp [DM,C.Bp,E.AW,MA r l]
def Vu(P:Program)(TB:Be)(T:TypeId)(g:Gr)(gN:FuncId)(capsN:List C):Prop:=
 ∀(node l:Int) (outs:List Int),0≤node∧node < g.N→l∈g.ls→outs.length≤1099511627776→
  Spec P TB gN [(0,.cells T 1 (outs.map AI))] 1 ([eI .i64 node,eI .i64 l,.o (.arr 0 1 0 outs.length)]++capsN.map .o) (fun x σ nx=>x=.o (.arr 1 1 0 (outs++g.succ node l).length)∧nx=2∧σ=[(1,.cells T 1 ((outs++g.succ node l).map AI))])
theorem OK{g:Gr}(hg:GR g)(hN:g.N≤1048576)(hls:∀l∈g.ls,0≤l∧l < 6)(hll:g.ls.length≤6)(hsl:∀(node l:Int),0≤node∧node < g.N→l∈g.ls→(g.succ node l).length≤g.N)
 {gN gG:FuncId} {capsN capsG:List C} (hNx:Vu Tryz.prog TB 3 g gN capsN) (hG:∀n:Int,0≤n∧n < g.N→Pure Tryz.prog TB gG ([eI .i64 n]++capsG.map .o) (eB (g.goal n)))
 (hcG:C.A5 capsG=true) (hrG:∀r,C.Bp r capsG=capsG) (hrN:∀r,C.Bp r capsN=capsN) {r:Option (List Int)} (hr:BM g r) :
 Pure Tryz.prog TB 182 [eI .i64 g.N,Ag [g.s0],Ag g.ls,.o (.fn gN capsN),.o (.fn gG capsG)] (PI r):=by
 refine eN Tryz.func182 rfl (by kernel_rfl) rfl ?_;intro Γ hΓ
 (repeat first|refine aU rfl ?_)
 (refine pW rfl ?_ rfl (by rfl);refine CT rfl rfl ?_)
 (repeat first|refine tM rfl ?_ |refine aU rfl ?_ |refine Aa ?_)
 (refine pW rfl ?_ rfl (by rfl);refine Ep rfl rfl (by rfl) (by rfl) (Nat.le_of_ble_eq_true rfl) (by omega) (by omega) (by omega) ?_)
 iterate 4 (first|refine tM rfl ?_ |refine aU rfl ?_ |refine Aa ?_)
 (refine pW rfl ?_ rfl (by rfl);refine WI 3 242 ?_)
 (repeat first|refine tM rfl ?_ |refine aU rfl ?_ |refine Aa ?_)
 have hv0:=SB (goal:=g.goal) (N:=g.N) (seen:=List.replicate g.N false) (nodes:=[g.s0]) (by simp) (by intro n hn;simp at hn;subst hn;exact hg.s0)
 have hvis:=QU (TB:=TB) hG hcG hrG (List.replicate g.N false) [] (-1) 0 [g.s0] (by simp) hN (by simp) (by intro n hn;simp at hn;subst hn;exact hg.s0)
 (refine pW rfl ?_ rfl (by rfl);refine Cr [2,1,0,4,3] rfl rfl hvis ⟨rfl,by decide,by decide⟩ rfl (by simp[cX,zC,hΓ,Em,hrG,AE,eC]) ?_;rintro x0 σ1 nx1 ⟨rfl,q,hq,rfl⟩ _)
 generalize hV:Pg g.goal (List.replicate g.N false) [g.s0]=v at *
 obtain⟨vse,vfr,vfd⟩:=v
 simp only
 refine Aa ?_
 refine Av.names [2,1,0,4,if q=4 then 3 else 5] [(2,Ag g.ls),(3,.o (.fn gN capsN)),(12,.o (.ptr 0 1 0 0)),(13,.o (.ptr 3 1 0 0)),(14,.o (.fn 237 [.ptr 0 1 0 0,.ptr 2 1 0 0,.ptr 3 1 0 0])),(26,eB vfd)] (Em g.N gG capsG vse 4 (DG [] (-1) 0 vfr)) (by simp [hΓ]) (by rcases hq with ⟨rfl,rfl⟩|⟨rfl,rfl⟩<;>decide)
  (by rcases hq with ⟨rfl,rfl⟩|⟨rfl,rfl⟩<;>simp[cX,zC,hΓ,hrN,eC]) (by rcases hq with ⟨rfl,rfl⟩|⟨rfl,rfl⟩<;>simp[cX,zC,hΓ,Em,hrG,Ab.AW,BH,GO,eC]) ?_
 (refine aC rfl ?_ ?_<;>rintro⟨⟩)
 ·-- the start is a goal
  have hgs:g.goal g.s0=true:=by
   have h1:vfr.any g.goal=true:=hv0.fd.symm
   obtain⟨x,hx,hgx⟩:=List.any_eq_true.1 h1
   have h2:=((hv0.fr x).1 hx).1
   simp at h2;subst h2;exact hgx
  have hrr:=BM.unique hr (BM.start hgs)
  subst hrr
  (repeat first|refine tM rfl ?_ |refine aU rfl ?_ |refine Aa ?_)
  refine aR ⟨_,rfl,rfl⟩
 refine aK ?_
 obtain⟨hfr,hF0⟩:=FI.init hg hv0 rfl
 simp only at hfr hF0
 rw [hfr]
 (repeat first|refine tM rfl ?_ |refine aU rfl ?_ |refine Aa ?_)
 refine aB ?_
 refine Av.AR (α:={x:Nat×List Bool×List K6×List (List Int) // FI g x.2.1 x.2.2.1 x.2.2.2 x.1 0}) (fun ⟨⟨i,seen,steps,ws⟩,hF⟩=>[(2,Ag g.ls),(3,.o (.fn gN capsN)),(12,.o (.ptr 0 1 0 0)),(13,.o (.ptr 3 1 0 0)),(14,.o (.fn 237 [.ptr 0 1 0 0,.ptr 2 1 0 0,.ptr 3 1 0 0])),(15,eI .i64 i)]) (fun ⟨⟨i,seen,steps,ws⟩,hF⟩=>Em g.N gG capsG seen 4 steps) 5 (fun ⟨⟨i,seen,steps,ws⟩,hF⟩=>g.N - i) (⟨(0,vse,[⟨-1,0,[g.s0]⟩],[[]]),hF0⟩) [0,1,2,3,4] (Dq hΓ rfl rfl) (by (simp[cX,zC,hΓ,Em,hrG,hrN,DG])) ?_;rintro⟨⟨i,seen,steps,ws⟩,hF⟩;(try dsimp only)
 simp only at hF
 have hlN:=hF.cK
 (repeat first|refine tM rfl ?_ |refine s2 rfl fun _ _hb=>?_ |refine aU rfl ?_ |refine Aa ?_)
 (refine aC rfl ?_ ?_<;>rintro⟨⟩)
 ·have hi : i < steps.length:=by (simp only[oZ] at *;omega)
  obtain⟨s,hs⟩:=get_some hi
  have hs':(steps.map MN)[0+((i:Nat):Int).toNat]? = some (MN s):=Hi hs
  obtain⟨wi,hwi⟩:∃wi,ws[i]? = some wi:=get_some (by rw [hF.wlen];exact hi)
  refine aK ?_
  refine aS (aB ?_)
  (repeat first|refine sN rfl ?_ |refine tM rfl ?_ |refine aU rfl ?_ |refine Aa ?_)
  refine aB ?_
  refine Av.AR (α:={x:Nat×List Bool×List K6×List (List Int) // x.1≤g.ls.length∧FI g x.2.1 x.2.2.1 x.2.2.2 i x.1∧i < x.2.2.1.length}) (fun ⟨⟨j,sen2,st2,ws2⟩,hP⟩=>[(2,Ag g.ls),(3,.o (.fn gN capsN)),(12,.o (.ptr 0 1 0 0)),(13,.o (.ptr 3 1 0 0)),(14,.o (.fn 237 [.ptr 0 1 0 0,.ptr 2 1 0 0,.ptr 3 1 0 0])),(15,eI .i64 i),(33,Ag g.ls),(34,eI .i64 g.ls.length),(35,eI .i64 j)]) (fun ⟨⟨j,sen2,st2,ws2⟩,hP⟩=>Em g.N gG capsG sen2 4 st2) 5 (fun ⟨⟨j,sen2,st2,ws2⟩,hP⟩=>g.ls.length - j) (⟨(0,seen,steps,ws),by simp,hF,hi⟩) [0,1,2,3,4] (Dq hΓ rfl rfl) (by (simp[cX,zC,hΓ,Em,hrG,hrN])) ?_;rintro⟨⟨j,sen2,st2,ws2⟩,hP⟩;(try dsimp only)
  clear hs hs' hwi hF hlN hi
  obtain⟨hj,hF,hi⟩:=hP
  simp only at hj hF hi
  have hlN:=hF.cK
  (repeat first|refine s2 rfl fun _ _hb=>?_ |refine aU rfl ?_ |refine Aa ?_)
  (refine aC rfl ?_ ?_<;>rintro⟨⟩)
  ·have hjl:j < g.ls.length:=by (simp only[oZ] at *;omega)
   obtain⟨l,hl⟩:=get_some (l:=g.ls) (k:=j) hjl
   have hl':=get_map (g:=Bm) hl
   have hlm:=List.mem_of_getElem? hl
   have hlb:=hls l hlm
   obtain⟨s,hs⟩:=get_some hi
   have hs':(st2.map MN)[0+((i:Nat):Int).toNat]? = some (MN s):=Hi hs
   obtain⟨wi,hwi⟩:∃wi,ws2[i]? = some wi:=get_some (by rw [hF.wlen];exact hi)
   have hsin:=hF.inn s (List.mem_of_getElem? hs)
   have hsnd:=EE _ _ (hF.nd s (List.mem_of_getElem? hs)) hsin
   refine aK ?_
   refine aS (aB ?_)
   (repeat first|refine tM rfl ?_ |(refine s4 rfl ‹_› rfl ?_ ?_;omega) |refine aU rfl ?_ |refine Aa ?_)
   (refine pW rfl ?_ rfl (by rfl);refine N6 1 3 ?_)
   (repeat first|refine sN rfl ?_ |(refine sM rfl ?_ ?_;first|exact tI|omega) |refine t4 rfl ‹_› rfl ?_ |refine aU rfl ?_ |refine Aa ?_)
   refine aB ?_
   refine Av.AR (α:={m:Nat // m≤s.ns.length}) (fun ⟨m,hm⟩=>[(2,Ag g.ls),(3,.o (.fn gN capsN)),(12,.o (.ptr 0 1 0 0)),(13,.o (.ptr 3 1 0 0)),(14,.o (.fn 237 [.ptr 0 1 0 0,.ptr 2 1 0 0,.ptr 3 1 0 0])),(15,eI .i64 i),(33,Ag g.ls),(34,eI .i64 g.ls.length),(35,eI .i64 j),(17,eI .i64 l),(18,.o (.arr 5 1 0 ((s.ns.take m).flatMap fun n=>g.succ n l).length)),(43,Ag s.ns),(44,eI .i64 s.ns.length),(45,eI .i64 m)]) (fun ⟨m,hm⟩=>Em g.N gG capsG sen2 4 st2++[(5,.cells 3 1 (((s.ns.take m).flatMap fun n=>g.succ n l).map AI))]) 6 (fun ⟨m,hm⟩=>s.ns.length - m) (⟨0,by omega⟩) [0,1,2,3,4,5] (Dq hΓ rfl rfl) (by (simp[cX,zC,hΓ,Em,hrG,hrN])) ?_;rintro⟨m,hm⟩;(try dsimp only)
   (repeat first|refine s2 rfl fun _ _hb=>?_ |refine aU rfl ?_ |refine Aa ?_)
   (refine aC rfl ?_ ?_<;>rintro⟨⟩)
   ·obtain⟨n,hn⟩:=get_some (l:=s.ns) (k:=m) (by (simp only[oZ] at *;omega))
    have hn':=get_map (g:=Bm) hn
    have hnb:=hsin n (List.mem_of_getElem? hn)
    have hfm:(s.ns.take (m+1)).flatMap (fun n=>g.succ n l)=(s.ns.take m).flatMap (fun n=>g.succ n l)++g.succ n l:=by
     rw [List.take_add_one,hn];simp
    have hol:((s.ns.take m).flatMap fun n=>g.succ n l).length≤1099511627776:=by
     have h2:=LR (s.ns.take m) (fun n=>g.succ n l) 1048576 (fun x hx=>by have:=hsl x l (hsin x (List.mem_of_mem_take hx)) hlm;omega)
     have h3:(s.ns.take m).length≤1048576:=by simp;omega
     omega
    have hnx:=hNx n l _ hnb hlm hol
    generalize (s.ns.take m).flatMap (fun n=>g.succ n l)=pre at *
    refine aK ?_
    refine aS (aB ?_)
    (repeat first|refine tM rfl ?_ |(refine s4 rfl ‹_› rfl ?_ ?_;omega) |refine aU rfl ?_ |refine Aa ?_)
    (refine pW rfl ?_ rfl (by rfl);refine Cr [5] rfl rfl hnx ⟨rfl,by decide,by decide⟩ (by rw [Of,MA,hrN];rfl) (by simp[cX,zC,hΓ]) ?_;rintro x0 σ1 nx1 ⟨rfl,rfl,rfl⟩ _)
    (repeat first|(refine sM rfl ?_ ?_;first|exact tI|omega) |refine aU rfl ?_ |refine Aa ?_)
    refine⟨⟨m+1,by (simp only[oZ] at *;omega)⟩,by dsimp only;((simp only[oZ] at *;omega)),[0,1,2,3,4,6],?_⟩
    simp[cX,zC,hΓ,Em,hrG,hrN,Ab.AW,BH,GO,hfm]
   ·obtain rfl:m=s.ns.length:=by (simp only[oZ] at *;omega)
    rw [List.take_length]
    have hR:∀y,y∈s.ns.flatMap (fun n=>g.succ n l)↔∃n∈s.ns,y∈g.succ n l:=fun y=>List.mem_flatMap
    generalize s.ns.flatMap (fun n=>g.succ n l)=R at *
    have hRin:∀y∈R,0≤y∧y < g.N:=fun y hy=>by
     obtain⟨n,hn,hy⟩:=(hR y).1 hy
     exact hg.inn n (hsin n hn) l hlm y hy
    have hv:=SB (goal:=g.goal) hF.slen hRin
    have hvis:=QU (TB:=TB) hG hcG hrG sen2 st2 i l R hF.slen hN (by omega) hRin
    generalize hV2:Pg g.goal sen2 R=v2 at *
    refine aE ?_
    refine Av.freeze [5] [(2,Ag g.ls),(3,.o (.fn gN capsN)),(12,.o (.ptr 0 1 0 0)),(13,.o (.ptr 3 1 0 0)),(14,.o (.fn 237 [.ptr 0 1 0 0,.ptr 2 1 0 0,.ptr 3 1 0 0])),(15,eI .i64 i),(33,Ag g.ls),(34,eI .i64 g.ls.length),(35,eI .i64 j),(17,eI .i64 l),(18,Ag R)] ⟨⟨_,rfl,.AU⟩,⟨_,rfl,.AU⟩,⟨_,rfl,.AU⟩,⟨_,rfl,.AU⟩,⟨_,rfl,.AU⟩,⟨_,rfl,.AU⟩,⟨_,rfl,.AU⟩,⟨_,rfl,.AU⟩,⟨_,rfl,.AU⟩,⟨_,rfl,.AU⟩,⟨_,rfl,.o (.full (by simp) rfl (by simp [Function.comp_def]) (by simp))⟩,trivial⟩ ?_
    (repeat first|refine tM rfl ?_ |refine aU rfl ?_)
    (refine pW rfl ?_ rfl (by rfl);refine Cr [0,1,2,3,4] rfl rfl hvis ⟨rfl,by decide,by decide⟩ rfl (by simp[cX,zC,hΓ,Em,hrG,BH]) ?_;rintro x0 σ1 nx1 ⟨rfl,q,hq,rfl⟩ _)
    obtain⟨vse,vfr,vfd⟩:=v2
    simp only
    refine Aa ?_
    refine Av.names [0,1,2,3,if q=4 then 4 else 6] [(2,Ag g.ls),(3,.o (.fn gN capsN)),(12,.o (.ptr 0 1 0 0)),(13,.o (.ptr 3 1 0 0)),(14,.o (.fn 237 [.ptr 0 1 0 0,.ptr 2 1 0 0,.ptr 3 1 0 0])),(15,eI .i64 i),(33,Ag g.ls),(34,eI .i64 g.ls.length),(35,eI .i64 j),(59,eB vfd)] (Em g.N gG capsG vse 4 (DG st2 i l vfr)) (by simp [hΓ]) (by rcases hq with ⟨rfl,rfl⟩|⟨rfl,rfl⟩<;>decide)
     (by rcases hq with ⟨rfl,rfl⟩|⟨rfl,rfl⟩<;>simp[cX,zC,hΓ,hrN]) (by rcases hq with ⟨rfl,rfl⟩|⟨rfl,rfl⟩<;>simp[cX,zC,hΓ,Em,hrG,Ab.AW,BH,GO]) ?_
    (refine aC rfl ?_ ?_<;>rintro⟨⟩)
    ·obtain⟨x,hx,hgx⟩:∃x∈vfr,g.goal x=true:=by
      have h1:vfr.any g.goal=true:=hv.fd.symm
      exact List.any_eq_true.1 h1
     have hxR:=((hv.fr x).1 hx).1
     obtain⟨n,hn,hxn⟩:=(hR x).1 hxR
     have hans:=BM.found hg hF hwi hl hs hn hxn hgx
     have hrr:=BM.unique hr hans
     subst hrr
     have hne:vfr≠[]:=fun e=>by rw [e] at hx;cases hx
     have hsv:DG st2 i l vfr=st2++[⟨i,l,vfr⟩]:=by unfold DG;rw [if_neg hne]
     rw [hsv]
     have hch:=hF.Uc.app (ns:=vfr) hwi hlm
     have hpw:=Qn (TB:=TB) hch hls (w:=wi++[l]) (by simp;omega) (by simp [hF.wlen])
     generalize hst3:st2++[⟨(i:Int),l,vfr⟩]=st3 at *
     (repeat first|refine tM rfl ?_|(refine Ai rfl ?_;refine gA rfl ?_;first| refine gQ (Gz rfl rfl ((.cons (.o (.full rfl (by simp [Function.comp_def]) (by simp))) .nil)) (hpw) rfl) rfl ?_) |refine aU rfl ?_ |refine Aa ?_)
     refine aR ⟨_,rfl,rfl⟩
    ·have hF2:=hF.visit hg hwi hl hs hR hv rfl
     have hlen2:i < (DG st2 i l vfr).length:=by unfold DG;split<;>(try simp)<;>omega
     refine aK ?_
     (repeat first|(refine sM rfl ?_ ?_;first|exact tI|omega) |refine aU rfl ?_ |refine Aa ?_)
     refine⟨⟨(j+1,vse,DG st2 i l vfr,fC ws2 (wi++[l]) vfr),hjl,hF2,hlen2⟩,by dsimp only;omega,[0,1,2,3,4],?_⟩
     simp[cX,zC,hΓ,Em,hrG,hrN]
  ·obtain rfl:j=g.ls.length:=by (simp only[oZ] at *;omega)
   have hF2:=hF.cR hi
   refine aE ?_
   (repeat first|(refine sM rfl ?_ ?_;first|exact tI|omega) |refine aU rfl ?_ |refine Aa ?_)
   refine⟨⟨(i+1,sen2,st2,ws2),hF2⟩,by dsimp only;omega,[0,1,2,3,4],?_⟩
   simp[cX,zC,hΓ,Em,hrG,hrN]
 ·have hle:=hF.le
  obtain rfl:i=steps.length:=by (simp only[oZ] at *;omega)
  have hans:=BM.gj hg hF
  have hrr:=BM.unique hr hans
  subst hrr
  refine aE ?_
  (repeat first|refine tM rfl ?_ |refine aU rfl ?_ |refine Aa ?_)
  refine aR ⟨_,rfl,rfl⟩
theorem HN{a:Bn}{q:Nat}(h:q < a.nx.length):(Gb a)[q]? = some (Sd fun l=>B9 a q l):=CR (g:=fun q=>Sd fun l=>B9 a q l) h
theorem FU{h:Nat→Int}{l:Int}(h0:0≤l)(h1:l < 6):((Sd h).drop (l.toNat*1))[0]? = some (iD (h l.toNat)):=by
 rw [List.getElem?_drop]
 have h2:l.toNat*1+0=l.toNat:=by omega
 have h3:l.toNat < 6:=by omega
 rw [h2]
 simp [Sd,h3]
end Go.Am
namespace Go.Am
open Go
theorem Fg{g g':Gr}(hg:GR g)(hls:g.ls=g'.ls)(hs:∀x:Int,0≤x∧x < g.N→∀l∈g.ls,g.succ x l=g'.succ x l):∀ {w:List Int} {a x:Int},over g w→(0≤a∧a < g.N)→(reach g w a x↔reach g' w a x)
 | [],a,x,_,_=>Iff.rfl
 | l :: w,a,x,ho,ha=>by
  have hl:=ho l (by simp)
  simp only [reach,←hs a ha l hl]
  constructor
  ·rintro⟨y,hy,h⟩
   exact⟨y,hy,(Fg hg hls hs (fun m hm=>ho m (by simp [hm])) (hg.inn a ha l hl y hy)).1 h⟩
  ·rintro⟨y,hy,h⟩
   exact⟨y,hy,(Fg hg hls hs (fun m hm=>ho m (by simp [hm])) (hg.inn a ha l hl y hy)).2 h⟩
theorem BM.congr{g g':Gr}(hg:GR g)(hls:g.ls=g'.ls)(h0:g.s0=g'.s0)(hs:∀x:Int,0≤x∧x < g.N→∀l∈g.ls,g.succ x l=g'.succ x l)(hgo:∀x:Int,0≤x∧x < g.N→g.goal x=g'.goal x){r:Option (List Int)}(h:BM g r):BM g' r:=by
 have hov:∀w,over g' w↔over g w:=fun w=>by unfold over;rw [hls]
 have hh:∀w,over g w→(Vm g' w↔Vm g w):=fun w hw=>by
  unfold Vm
  rw [←h0]
  constructor
  ·rintro⟨x,hx,hgx⟩
   have hx:=(Fg hg hls hs hw hg.s0).2 hx
   exact⟨x,hx,by rw [hgo x (CG hg hw hg.s0 hx)];exact hgx⟩
  ·rintro⟨x,hx,hgx⟩
   exact⟨x,(Fg hg hls hs hw hg.s0).1 hx,by rw [←hgo x (CG hg hw hg.s0 hx)];exact hgx⟩
 cases r with
 | none=>exact fun u hu hx=>h u ((hov u).1 hu) ((hh u ((hov u).1 hu)).1 hx)
 | some w=>
  obtain⟨h1,h2,h3⟩:=h
  exact⟨(hov w).2 h1,(hh w h1).2 h2,fun u hu hx=>h3 u ((hov u).1 hu) ((hh u ((hov u).1 hu)).1 hx)⟩
theorem WA{zs ws:List Int}{cs ds:List (List Int)}(h:Fj zs cs):Ke (zs++ws) (cs++ds)=(Ke zs cs).flatMap fun o=>(Ke ws ds).map fun r=>o*AG ws+r:=by
 induction h with
 | nil=>simp [Ke]
 | @cons z c zs cs _ _ _ ih=>
  simp only [List.cons_append,Ke,ih]
  rw [List.flatMap_assoc]
  congr 1
  funext q
  rw [List.map_flatMap,List.flatMap_map]
  congr 1
  funext o
  rw [List.map_map]
  congr 1
  funext r
  simp only [Function.comp_def,Kk]
  rw [Int.add_mul,Int.mul_assoc];omega
theorem QE(l:List Sys)(aus:List Bn)(st:List Int)(ls kd gl:Int):Ae ⟨l,aus,st,ls,kd,gl⟩=l.map (·.st)++aus.map (fun a=>(a.nx.length:Int)):=rfl
theorem OX{l:List Sys}{aus:List Bn}{st:List Int}{ls kd gl:Int}(hn:DL ⟨l,aus,st,ls,kd,gl⟩){node letter:Int}(h0:0≤letter)(h1:letter < 6) :
 EW ⟨l,aus,st,ls,kd,gl⟩ (Ae ⟨l,aus,st,ls,kd,gl⟩) (Bz (Ae ⟨l,aus,st,ls,kd,gl⟩) node) letter =
  (Ke (l.map (·.st)) (bI l (node / AG (aus.map fun a=>(a.nx.length:Int))) letter)).flatMap fun o=>(Ke (aus.map fun a=>(a.nx.length:Int)) (aus.zipWith (fun a q=>[B9 a q.toNat letter]) (Bz (aus.map fun a=>(a.nx.length:Int)) node))).map fun r=>o*AG (aus.map fun a=>(a.nx.length:Int))+r:=by
 have hp:∀w∈aus.map (fun a=>(a.nx.length:Int)),0 < w:=fun w hw=>by
  obtain⟨a,ha,rfl⟩:=List.mem_map.1 hw
  have:=Aj (hn.au a ha);omega
 unfold EW
 rw [UG (IZ hn (I7 hn node) h0 h1),QE,PH _ _ _ hp]
 have hch:=ZU hn.ps hn.np h0 h1 (node / AG (aus.map fun a=>(a.nx.length:Int)))
 have e:KU ⟨l,aus,st,ls,kd,gl⟩ (Bz (l.map (·.st)) (node / AG (aus.map fun a=>(a.nx.length:Int)))++Bz (aus.map fun a=>(a.nx.length:Int)) node) letter=bI l (node / AG (aus.map fun a=>(a.nx.length:Int))) letter++aus.zipWith (fun a q=>[B9 a q.toNat letter]) (Bz (aus.map fun a=>(a.nx.length:Int)) node):=by
  unfold KU bI
  have hl:(Bz (l.map (·.st)) (node / AG (aus.map fun a=>(a.nx.length:Int)))).length=l.length:=by rw [LK];simp
  simp only
  rw [List.drop_append_of_le_length (by omega),List.drop_of_length_le (by omega),List.nil_append]
  congr 1
  rw [GH,List.take_append_of_le_length (by omega),List.take_of_length_le (by omega)]
 rw [e,WA hch]
theorem NK:∀(zs:List Int) (k:Nat),Gl zs (List.replicate k 0) 0=0
 | [],k=>by simp [Gl]
 | z::zs,0=>by simp [Gl]
 | z::zs,k+1=>by
  rw [List.replicate_succ]
  simp only [Gl,Int.zero_mul,Int.add_zero]
  exact NK zs k
end Go.Am
namespace Go.Am
open Go Go.Proofs
set_option maxHeartbeats 1000000
set_option maxRecDepth 4000
attribute [local irreducible] AV BX Lex Bf Av Spec
variable {TB:Be}
def Ks(n:Nat)(left:Int):Int:=if left - n < 0 then -1 else left - n
def Et:List (List Int)→Int→Int
 | [],left=>left
 | r::l,left=>if Ks r.length left < 0 then -1 else Et l (Ks r.length left)
def K3(l:List (List Int))(left:Int):Int:=if left - l.length < 0 then -1 else Et l (left - l.length)
def Sp(a:Bn)(left:Int):Int:=if K3 a.nx left < 0 then -1 else if Ks a.ac.length (K3 a.nx left) < 0 then -1 else Ks a.ac.length (K3 a.nx left)
theorem IP{n:Nat}{left:Int}(h:0≤left) : -1≤Ks n left∧Ks n left≤left∧(0≤Ks n left→(n:Int)≤left):=by unfold Ks;split<;>omega
theorem Om:∀(l:List (List Int)) {left:Int},0≤left→-1≤Et l left∧Et l left≤left∧(0≤Et l left→∀r∈l,(r.length:Int)≤left)
 | [],left,h=>⟨by simp [Et];omega,by simp [Et],fun _ r hr=>by cases hr⟩
 | r :: l,left,h=>by
  have h1:=IP (n:=r.length) h
  unfold Et
  split
  ·exact⟨by omega,by omega,fun h2=>by omega⟩
  ·have h2:=Om l (left:=Ks r.length left) (by omega)
   refine⟨h2.1,by omega,fun h3 x hx=>?_⟩
   rcases List.mem_cons.1 hx with rfl|hx
   ·exact h1.2.2 (by omega)
   ·have:=h2.2.2 h3 x hx;omega
theorem TZ{l:List (List Int)}{left:Int}(h:0≤left) : -1≤K3 l left∧K3 l left≤left∧(0≤K3 l left→(l.length:Int)≤left∧∀r∈l,(r.length:Int)≤left):=by
 unfold K3
 split
 ·omega
 ·have h2:=Om l (left:=left - l.length) (by omega)
  exact⟨h2.1,by omega,fun h3=>⟨by omega,fun r hr=>by have:=h2.2.2 h3 r hr;omega⟩⟩
theorem Sq{a:Bn}{left:Int}(h:0≤left) : -1≤Sp a left∧Sp a left≤left∧(0≤Sp a left→(a.nx.length:Int)≤left∧(a.ac.length:Int)≤left∧∀r∈a.nx,(r.length:Int)≤left):=by
 have h1:=TZ (l:=a.nx) h
 unfold Sp
 split
 ·omega
 ·have h2:=IP (n:=a.ac.length) (left:=K3 a.nx left) (by omega)
  split
  ·omega
  ·exact⟨h2.1,by omega,fun h3=>⟨(h1.2.2 (by omega)).1,by have:=h2.2.2 h3;omega,(h1.2.2 (by omega)).2⟩⟩
theorem U7(l:List Int)(left:Int)(h0:0≤left)(h1:left≤1048576):Pure Tryz.prog TB 188 [Ag l,eI .i64 left] (eI .i64 (Ks l.length left)):=by
 refine eN Tryz.func188 rfl (by kernel_rfl) rfl ?_;intro Γ hΓ
 refine Av.bound 0 rfl fun hB0=>?_
 have hB:=hB0 (l.map Bm) .refl
 (repeat' first |refine sN rfl ?_ |((first|refine sA rfl ?_ ?_|refine s4 rfl ‹_› rfl ?_ ?_);first|exact tI|omega|simp only[oZ] at *;omega) |refine s2 rfl fun _ _hb=>?_ |refine s3 rfl ?_ ?_<;>rintro rfl |refine aU rfl ?_ |refine Aa ?_ |refine rE (by kernel_rfl) ?_|(refine aC rfl ?_ ?_<;>rintro⟨⟩)|refine aK ?_|refine aE ?_|refine aB ?_|refine aR ⟨_,rfl,?_⟩)
 all_goals (show E.o _=E.o _;congr;unfold Ks;simp only [List.length_map] at *;grind)
theorem Sr(l:List Bool)(left:Int)(h0:0≤left)(h1:left≤1048576):Pure Tryz.prog TB 119 [Gk l,eI .i64 left] (eI .i64 (Ks l.length left)):=by
 refine eN Tryz.func119 rfl (by kernel_rfl) rfl ?_;intro Γ hΓ
 refine Av.bound 0 rfl fun hB0=>?_
 have hB:=hB0 (l.map Gh) .refl
 (repeat' first |refine sN rfl ?_ |((first|refine sA rfl ?_ ?_|refine s4 rfl ‹_› rfl ?_ ?_);first|exact tI|omega|simp only[oZ] at *;omega) |refine s2 rfl fun _ _hb=>?_ |refine s3 rfl ?_ ?_<;>rintro rfl |refine aU rfl ?_ |refine Aa ?_ |refine rE (by kernel_rfl) ?_|(refine aC rfl ?_ ?_<;>rintro⟨⟩)|refine aK ?_|refine aE ?_|refine aB ?_|refine aR ⟨_,rfl,?_⟩)
 all_goals (show E.o _=E.o _;congr;unfold Ks;simp only [List.length_map] at *;grind)
theorem Ss(l:List Fk)(left:Int)(h0:0≤left)(h1:left≤1048576):Pure Tryz.prog TB 202 [Hb l,eI .i64 left] (eI .i64 (Ks l.length left)):=by
 refine eN Tryz.func202 rfl (by kernel_rfl) rfl ?_;intro Γ hΓ
 refine Av.bound 0 rfl fun hB0=>?_
 have hB:=hB0 (l.map CZ) .refl
 (repeat' first |refine sN rfl ?_ |((first|refine sA rfl ?_ ?_|refine s4 rfl ‹_› rfl ?_ ?_);first|exact tI|omega|simp only[oZ] at *;omega) |refine s2 rfl fun _ _hb=>?_ |refine s3 rfl ?_ ?_<;>rintro rfl |refine aU rfl ?_ |refine Aa ?_ |refine rE (by kernel_rfl) ?_|(refine aC rfl ?_ ?_<;>rintro⟨⟩)|refine aK ?_|refine aE ?_|refine aB ?_|refine aR ⟨_,rfl,?_⟩)
 all_goals (show E.o _=E.o _;congr;unfold Ks;simp only [List.length_map] at *;grind)
theorem QL(s:Sys)(left:Int)(h0:0≤left)(h1:left≤1048576):Pure Tryz.prog TB 141 [Nh s,eI .i64 left] (eI .i64 (Ks s.es.length left)):=by
 have h2:=IP (n:=s.es.length) h0
 refine eN Tryz.func141 rfl (by kernel_rfl) rfl ?_;intro Γ hΓ
 (repeat' first |refine sN rfl ?_ |((first|refine sA rfl ?_ ?_|refine s4 rfl ‹_› rfl ?_ ?_);first|exact tI|omega|simp only[oZ] at *;omega) |refine s2 rfl fun _ _hb=>?_ |refine sP rfl (Ss s.es left h0 h1) rfl ?_ |refine s3 rfl ?_ ?_<;>rintro rfl |refine aU rfl ?_ |refine Aa ?_ |refine rE (by kernel_rfl) ?_|(refine aC rfl ?_ ?_<;>rintro⟨⟩)|refine aK ?_|refine aE ?_|refine aB ?_|refine aR ⟨_,rfl,?_⟩)
 all_goals (show E.o _=E.o _;first|rfl|(congr;omega)|(congr;first|omega|simp only[oZ] at *;omega))
theorem Su(l:List (List Int))(left:Int)(h0:0≤left)(h1:left≤1048576):Pure Tryz.prog TB 118 [BS l,eI .i64 left] (eI .i64 (K3 l left)):=by
 refine eN Tryz.func118 rfl (by kernel_rfl) rfl ?_;intro Γ hΓ
 refine Av.bound 0 rfl fun hB0=>?_
 have hB:=hB0 (l.map Dy) .refl
 (repeat' first |refine sN rfl ?_ |((first|refine sA rfl ?_ ?_|refine s4 rfl ‹_› rfl ?_ ?_);first|exact tI|omega|simp only[oZ] at *;omega) |refine s2 rfl fun _ _hb=>?_ |refine s3 rfl ?_ ?_<;>rintro rfl |refine aU rfl ?_ |refine Aa ?_ |refine rE (by kernel_rfl) ?_|(refine aC rfl ?_ ?_<;>rintro⟨⟩)|refine aK ?_|refine aE ?_|refine aB ?_|refine aR ⟨_,rfl,?_⟩)
 ·show E.o _=E.o _;congr;unfold K3;rw [if_pos (by first|omega|simp only[oZ] at *;omega)]
 have hle:0≤left - l.length:=by first|omega|simp only[oZ] at *;omega
 refine Av.AR (α:={x:Nat×Int // x.1≤l.length∧0≤x.2∧x.2≤1048576∧Et l (left - l.length)=Et (l.drop x.1) x.2}) (fun ⟨⟨k,c⟩,hP⟩=>[(0,BS l),(1,eI .i64 c),(5,eI .i64 k)]) (fun ⟨⟨k,c⟩,hP⟩=>[]) 0 (fun ⟨⟨k,c⟩,hP⟩=>l.length - k) (⟨(0,left - l.length),by simp;omega⟩) [] (Dq hΓ rfl rfl) (by ((repeat' first|exact tI|rfl|refine And.intro ?_ ?_)<;>(simp[cX,zC,hΓ]))) ?_;rintro⟨⟨k,c⟩,hP⟩;(try dsimp only)
 obtain⟨hk,hc0,hc1,ha⟩:=hP
 simp only at hk hc0 hc1 ha
 (repeat first |refine sN rfl ?_ |((first|refine sA rfl ?_ ?_|refine s4 rfl ‹_› rfl ?_ ?_);first|exact tI|omega|simp only[oZ] at *;omega) |refine s2 rfl fun _ _hb=>?_ |refine s3 rfl ?_ ?_<;>rintro rfl |refine aU rfl ?_ |refine Aa ?_ |refine rE (by kernel_rfl) ?_)
 (refine aC rfl ?_ ?_<;>rintro⟨⟩)
 ·obtain⟨x,hx⟩:=get_some (l:=l) (k:=k) (by first|omega|simp only[oZ] at *;omega)
  have hx':=get_map (g:=Dy) hx
  have h3:=IP (n:=x.length) hc0
  rw [BJ hx,Et] at ha
  (repeat' first |refine sN rfl ?_ |((first|refine sA rfl ?_ ?_|refine s4 rfl ‹_› rfl ?_ ?_);first|exact tI|omega|simp only[oZ] at *;omega) |refine s2 rfl fun _ _hb=>?_ |refine sP rfl (U7 x c hc0 hc1) rfl ?_ |refine s3 rfl ?_ ?_<;>rintro rfl |refine aU rfl ?_ |refine Aa ?_ |refine rE (by kernel_rfl) ?_|(refine aC rfl ?_ ?_<;>rintro⟨⟩)|refine aK ?_|refine aE ?_|refine aB ?_|refine aR ⟨_,rfl,?_⟩)
  ·rw [if_pos (by first|omega|simp only[oZ] at *;omega)] at ha
   show E.o _=E.o _;congr;unfold K3;rw [if_neg (by omega),ha]
  ·rw [if_neg (by first|omega|simp only[oZ] at *;omega)] at ha
   refine⟨⟨(k+1,Ks x.length c),by first|omega|simp only[oZ] at *;omega,by first|omega|simp only[oZ] at *;omega,by omega,ha⟩,by dsimp only;first|omega|simp only[oZ] at *;omega,[],?_⟩
   simp[cX,zC,hΓ]
 ·(repeat' first |refine sN rfl ?_ |((first|refine sA rfl ?_ ?_|refine s4 rfl ‹_› rfl ?_ ?_);first|exact tI|omega|simp only[oZ] at *;omega) |refine s2 rfl fun _ _hb=>?_ |refine s3 rfl ?_ ?_<;>rintro rfl |refine aU rfl ?_ |refine Aa ?_ |refine rE (by kernel_rfl) ?_|(refine aC rfl ?_ ?_<;>rintro⟨⟩)|refine aK ?_|refine aE ?_|refine aB ?_|refine aR ⟨_,rfl,?_⟩)
  rw [List.drop_of_length_le (by first|omega|simp only[oZ] at *;omega),Et] at ha
  show E.o _=E.o _;congr;unfold K3;rw [if_neg (by omega),ha]
theorem Hx(a:Bn)(left:Int)(h0:0≤left)(h1:left≤1048576):Pure Tryz.prog TB 45 [Da a,eI .i64 left] (eI .i64 (Sp a left)):=by
 have h2:=TZ (l:=a.nx) h0
 refine eN Tryz.func45 rfl (by kernel_rfl) rfl ?_;intro Γ hΓ
 (repeat' first |refine sN rfl ?_ |((first|refine sA rfl ?_ ?_|refine s4 rfl ‹_› rfl ?_ ?_);first|exact tI|omega|simp only[oZ] at *;omega) |refine s2 rfl fun _ _hb=>?_ |refine sP rfl (Su a.nx left h0 h1) rfl ?_|refine sP rfl (Sr a.ac _ (by first|omega|simp only[oZ] at *;omega) (by first|omega|simp only[oZ] at *;omega)) rfl ?_ |refine s3 rfl ?_ ?_<;>rintro rfl |refine aU rfl ?_ |refine Aa ?_ |refine rE (by kernel_rfl) ?_|(refine aC rfl ?_ ?_<;>rintro⟨⟩)|refine aK ?_|refine aE ?_|refine aB ?_|refine aR ⟨_,rfl,?_⟩)
 all_goals (show E.o _=E.o _;congr;unfold Sp;grind)
end Go.Am
