/-
  Nodes of systems together, from the last member on.
-/
import Derived.Test.YtkkihplpglchjaaGreatDoorPart10
import Derived.Test.YtkkihplpglchjaaGreatDoorPart9
set_option linter.constructorNameAsVariable false
set_option linter.unusedSimpArgs false
set_option linter.unusedVariables false
namespace Go.Am
open Go
end Go.Am
namespace Go.Am
open Go Go.Proofs
set_option maxHeartbeats 1000000
attribute [local irreducible] AR BZ Lex Bm Aj Spec
variable {TB:Ba}
theorem E9 {P:Program} {Γ:Ctx} {d:Option Tmp} {ty:TypeId} {pos:String} {af:Array Edge} {g:Option (Nat×Bool)} {f:Env} {σ:Ab} {nx:Nat} {t:TypeId} {x:Operand} {c:D} {cs:List D} {n:Nat} [hl:Da P t false n] (hx:ev f x=some (.o (.ip cs))) (hc:cs[0]? = some c):AR P TB Γ ⟨d,.load t x,ty,pos,af,g⟩ f σ nx (.o (.d c)):=by
  cases cs with
  | nil=>cases hc
  | cons a l=>injection hc with hc;subst hc;exact Oj hx
theorem WI {es:List Dp} {q l:Int} (h0:0≤q∧q < 16) (h1:0≤l∧l < 6):(((Ei es).drop (q.toNat*6)).drop (l.toNat*1))[0]? = some (iD (Bs (K5 es q.toNat l.toNat):Nat)):=by
  rw [List.getElem?_drop,List.getElem?_drop,GC (by omega)]
  have e1:(q.toNat*6+(l.toNat*1+0)) / 6=q.toNat:=by omega
  have e2:(q.toNat*6+(l.toNat*1+0)) % 6=l.toNat:=by omega
  rw [e1,e2]
end Go.Am
namespace Go.Am
open Go
structure JF where
  p:Int
  l:Int
  ns:List Int
structure We where
  seen:List Bool
  fresh:List Int
  found:Bool
def sn (seen:List Bool) (n:Int):Bool:=seen.getD n.toNat false
def OI (goal:Int→Bool) (st:We) (n:Int):We:=if sn st.seen n then st else ⟨st.seen.set n.toNat true,st.fresh++[n],st.found || goal n⟩
def Nl (goal:Int→Bool) (seen:List Bool) (nodes:List Int):We:=nodes.foldl (OI goal) ⟨seen,[],false⟩
theorem Xc {seen:List Bool} {n m:Int} (hn:0≤n∧n.toNat < seen.length) (hm:0≤m):sn (seen.set n.toNat true) m=(sn seen m || decide (m=n)):=by
  unfold sn
  by_cases h:m=n
  · subst h;simp [List.getD,hn.2]
  · have:n.toNat≠m.toNat:=by omega
    simp [List.getD,List.getElem?_set_ne this,h]
theorem count_set {seen:List Bool} {k:Nat} (h:seen[k]? = some false):(seen.set k true).count true=seen.count true+1:=by
  induction seen generalizing k with
  | nil=>simp at h
  | cons a l ih=>
    cases k with
    | zero=>simp at h;subst h;simp
    | succ k=>
      have:=ih (k:=k) (by simpa using h)
      simp only [List.set_cons_succ,List.count_cons,this];omega
structure Xl (goal:Int→Bool) (N:Nat) (seen:List Bool) (nodes:List Int) (st:We):Prop where
  len:st.seen.length=N
  snI:∀n:Int,0≤n→(sn st.seen n=true↔sn seen n=true∨n∈nodes)
  fr:∀n:Int,n∈st.fresh↔n∈nodes∧sn seen n=false
  nd:st.fresh.Nodup
  fd:st.found=st.fresh.any goal
  cnt:st.seen.count true=seen.count true+st.fresh.length
theorem PL {goal:Int→Bool} {N:Nat} {seen:List Bool} {nodes:List Int} (hs:seen.length=N) (hn:∀n∈nodes,0≤n∧n < N):Xl goal N seen nodes (Nl goal seen nodes):=by
  have key : ∀ (l done:List Int) (st:We),(∀n∈l,0≤n∧n < N)→(∀n∈done,0≤n)→Xl goal N seen done st→Xl goal N seen (done++l) (l.foldl (OI goal) st):=by
    intro l
    induction l with
    | nil=>intro done st _ _ h;simpa using h
    | cons a l ih=>
      intro done st hl hd h
      have ha:=hl a (by simp)
      rw [List.foldl_cons,show done++a::l=(done++[a])++l by simp]
      refine ih (done++[a]) _ (fun n hn=>hl n (by simp [hn])) (fun n hn=>by rcases List.mem_append.1 hn with h1|h1;exact hd n h1;simp at h1;omega) ?_
      have hlen:=h.len
      have hmem:∀n:Int,n∈done++[a]↔n∈done∨n=a:=fun n=>by simp
      unfold OI
      by_cases hsa:sn st.seen a=true
      · rw [if_pos hsa]
        have h1:=(h.snI a ha.1).1 hsa
        refine ⟨h.len,fun n hn0=>?_,fun n=>?_,h.nd,h.fd,h.cnt⟩
        · rw [h.snI n hn0,hmem]
          constructor
          · rintro (h2|h2);exact .inl h2;exact .inr (.inl h2)
          · rintro (h2|h2|rfl);exact .inl h2;exact .inr h2;exact h1
        · rw [h.fr n,hmem]
          constructor
          · rintro ⟨h2,h3⟩;exact ⟨.inl h2,h3⟩
          · rintro ⟨h2|rfl,h3⟩
            · exact ⟨h2,h3⟩
            · rcases h1 with h1|h1
              · rw [h1] at h3;cases h3
              · exact ⟨h1,h3⟩
      · rw [if_neg hsa]
        have h1:sn seen a=false∧a∉done:=by
          have h2:¬(sn seen a=true∨a∈done):=fun h3=>hsa ((h.snI a ha.1).2 h3)
          exact ⟨by simpa using fun h3=>h2 (.inl h3),fun h3=>h2 (.inr h3)⟩
        have hk:st.seen[a.toNat]? = some false:=by
          unfold sn at hsa
          have:a.toNat < st.seen.length:=by omega
          simp [List.getD,this] at hsa
          rw [List.getElem?_eq_getElem this,hsa]
        refine ⟨by simpa using h.len,fun n hn0=>?_,fun n=>?_,?_,?_,?_⟩
        · rw [Xc ⟨ha.1,by omega⟩ hn0,hmem,Bool.or_eq_true,h.snI n hn0];simp;grind
        · simp only [List.mem_append,List.mem_singleton,h.fr n]
          grind
        · refine List.nodup_append.2 ⟨h.nd,by simp,fun x hx y hy=>?_⟩
          simp at hy;subst hy
          intro e;subst e
          exact h1.2 ((h.fr x).1 hx).1
        · simp [List.any_append,h.fd]
        · rw [count_set hk,h.cnt];simp;omega
  have:=key nodes [] ⟨seen,[],false⟩ hn (by simp) ⟨hs,fun n _=>by simp,fun n=>by simp,.nil,rfl,by simp⟩
  simpa [Nl] using this
theorem LY:∀ {a b c:List Int},OM a b→OM b c→OM a c
  | [],_,_,h,_=>h.elim
  | _::_,[],_,h,_=>h.elim
  | _::_,_::_,[],_,h=>h.elim
  | x::a,y::b,z::c,h,k=>by
    simp only [OM] at *
    rcases h with h|⟨h,h'⟩<;>rcases k with k|⟨k,k'⟩
    · exact .inl (by omega)
    · exact .inl (by omega)
    · exact .inl (by omega)
    · exact .inr ⟨by omega,LY h' k'⟩
theorem MH:∀ {a:List Int},¬OM a a
  | [],h=>h
  | x::a,h=>by rcases h with h|⟨_,h⟩;omega;exact MH h
theorem D0 {a b c:List Int} (h:slt a b) (k:slt b c):slt a c:=by
  unfold slt at *
  rcases h with h|⟨h,h'⟩<;>rcases k with k|⟨k,k'⟩
  · exact .inl (by omega)
  · exact .inl (by omega)
  · exact .inl (by omega)
  · exact .inr ⟨by omega,LY h' k'⟩
theorem Ig {a:List Int}:¬slt a a:=by
  rintro (h|⟨_,h⟩);omega;exact MH h
theorem OB (a b:List Int):slt a b∨a=b∨slt b a:=by
  rcases Nat.lt_trichotomy a.length b.length with h|h|h
  · exact .inl (.inl h)
  · rcases MI h with h1|h1|h1
    · exact .inl (.inr ⟨h,h1⟩)
    · exact .inr (.inl h1)
    · exact .inr (.inr (.inr ⟨h.symm,h1⟩))
  · exact .inr (.inr (.inl h))
theorem QH {a b:List Int} {l m:Int} (h:slt a b):slt (a++[l]) (b++[m]):=by
  rcases h with h|⟨h,h'⟩
  · exact .inl (by simp;omega)
  · exact .inr ⟨by simp;omega,(HN h).2 (.inl h')⟩
theorem Uc {a:List Int} {l m:Int} (h:l < m):slt (a++[l]) (a++[m]):=.inr ⟨by simp,(HN rfl).2 (.inr ⟨rfl,h⟩)⟩
theorem Ue {a b:List Int} {l m:Int}:slt (a++[l]) (b++[m])→slt a b∨a=b∧l < m:=by
  intro h
  rcases OB a b with h1|h1|h1
  · exact .inl h1
  · subst h1
    rcases h with h|⟨h,h'⟩
    · simp at h
    · rcases (HN rfl).1 h' with h2|h2
      · exact absurd h2 MH
      · exact .inr h2
  · exact absurd (D0 h (QH h1)) Ig
theorem Ud {a:List Int} {l:Int}:slt a (a++[l]):=.inl (by simp)
structure FI (g:Gr) (seen:List Bool) (steps:List JF) (ws:List (List Int)) (i j:Nat):Prop where
  slen:seen.length=g.N
  wlen:ws.length=steps.length
  chain:∀(t:Nat) s,steps[t]? = some s→(s.p = -1∧ws[t]? = some [])∨∃(q:Nat) (w:List Int),s.p=(q:Int)∧q < t∧ws[q]? = some w∧ws[t]? = some (w++[s.l])∧s.l∈g.ls
  rch:∀(t:Nat) s w,steps[t]? = some s→ws[t]? = some w→∀n∈s.ns,reach g w g.s0 n
  ov:∀w∈ws,over g w
  min:∀(t:Nat) s w,steps[t]? = some s→ws[t]? = some w→∀n∈s.ns,∀u,over g u→slt u w→¬reach g u g.s0 n
  ord:ws.Pairwise slt
  par:∀w∈ws,w=[]∨∃(p:Nat) (v:List Int) (l:Int),ws[p]? = some v∧w=v++[l]∧l∈g.ls∧(p < i∨p=i∧∃j',j' < j∧g.ls[j']? = some l)
  snI:∀n:Int,0≤n→(sn seen n=true↔∃s∈steps,n∈s.ns)
  done:∀(t:Nat) s,steps[t]? = some s→∀l,(t < i∧l∈g.ls∨t=i∧∃j',j' < j∧g.ls[j']? = some l)→∀n∈s.ns,∀y∈g.succ n l,sn seen y=true
  nogoal:∀s∈steps,∀n∈s.ns,g.goal n=false
  inn:∀s∈steps,∀n∈s.ns,0≤n∧n < g.N
  start:sn seen g.s0=true
  cnt:steps.length≤seen.count true
  le:i≤steps.length
  nd:∀s∈steps,s.ns.Nodup
theorem FI.X0 {g:Gr} {seen:List Bool} {steps:List JF} {ws:List (List Int)} {i j:Nat} (h:FI g seen steps ws i j):steps.length≤g.N:=by
  have h1:=h.cnt
  have h2:seen.count true≤seen.length:=List.count_le_length
  rw [h.slen] at h2;omega
theorem FI.VN {g:Gr} (hg:OO g) {seen:List Bool} {steps:List JF} {ws:List (List Int)} {i j:Nat} (h:FI g seen steps ws i j) {wi:List Int} {lj:Int} (hw:ws[i]? = some wi) (hj:g.ls[j]? = some lj) :
    ∀(n:Nat) (u:List Int),u.length=n→over g u→slt u (wi++[lj])→∀x,reach g u g.s0 x→sn seen x=true:=by
  intro n
  induction n with
  | zero=>
    intro u hu _ _ x hx
    have:u=[]:=List.length_eq_zero_iff.1 hu
    subst this
    have hx:g.s0=x:=hx
    rw [←hx];exact h.start
  | succ n ih=>
    intro u hu ho hlt x hx
    have hu0:u≠[]:=fun e=>by subst e;simp at hu
    obtain ⟨v,l,rfl⟩:∃v l,u=v++[l]:=⟨u.dropLast,u.getLast hu0,(List.dropLast_concat_getLast hu0).symm⟩
    obtain ⟨m,hm,hxm⟩:=El.1 hx
    obtain ⟨hov,hl⟩:=GH.1 ho
    have hms:=ih v (by simpa using hu) hov (D0 Ud hlt) m hm
    have hmin:=Gi hg hov hg.s0 hm
    obtain ⟨s,hs,hms2⟩:=(h.snI m hmin.1).1 hms
    obtain ⟨t,ht⟩:=List.getElem?_of_mem hs
    obtain ⟨wt,hwt⟩:∃wt,ws[t]? = some wt:=get_some (by have:=(List.getElem?_eq_some_iff.1 ht).1;rw [h.wlen];exact this)
    have hle:¬slt v wt:=fun h1=>h.min t s wt ht hwt m hms2 v hov h1 hm
    have hvi:=Ue hlt
    have hti:t≤i:=by
      rcases Nat.lt_or_ge i t with h1|h1
      · exfalso
        obtain ⟨a1,a2⟩:=List.getElem?_eq_some_iff.1 hw
        obtain ⟨b1,b2⟩:=List.getElem?_eq_some_iff.1 hwt
        have h2:=(List.pairwise_iff_getElem.1 h.ord) i t a1 b1 h1
        rw [a2,b2] at h2
        rcases OB v wt with h3|h3|h3
        · exact hle h3
        · subst h3
          rcases hvi with h4|⟨h4,_⟩
          · exact Ig (D0 h2 h4)
          · subst h4;exact Ig h2
        · rcases hvi with h4|⟨h4,_⟩
          · exact Ig (D0 (D0 h2 h3) h4)
          · subst h4;exact Ig (D0 h2 h3)
      · exact h1
    refine h.done t s ht l ?_ m hms2 x hxm
    rcases Nat.lt_or_ge t i with h1|h1
    · exact .inl ⟨h1,hl⟩
    · have:t=i:=by omega
      subst this
      rw [hw] at hwt
      injection hwt with hwt
      subst hwt
      rcases hvi with h4|⟨h4,h5⟩
      · exact absurd h4 hle
      · obtain ⟨j',hj'⟩:=List.getElem?_of_mem hl
        exact .inr ⟨rfl,j',WA hg.srt hj' hj h5,hj'⟩
theorem Dr.found {g:Gr} (hg:OO g) {seen:List Bool} {steps:List JF} {ws:List (List Int)} {i j:Nat} (h:FI g seen steps ws i j) {wi:List Int} {lj:Int} (hw:ws[i]? = some wi) (hj:g.ls[j]? = some lj) {n x:Int} {s:JF} (hs:steps[i]? = some s) (hn:n∈s.ns) (hx:x∈g.succ n lj) (hgx:g.goal x=true):Dr g (some (wi++[lj])):=by
  have hl:=List.mem_of_getElem? hj
  refine ⟨GH.2 ⟨h.ov wi (List.mem_of_getElem? hw),hl⟩,⟨x,El.2 ⟨n,h.rch i s wi hs hw n hn,hx⟩,hgx⟩,fun u hu hh hlt=>?_⟩
  obtain ⟨y,hy,hgy⟩:=hh
  have hys:=h.VN hg hw hj u.length u rfl hu hlt y hy
  obtain ⟨s',hs',hy'⟩:=(h.snI y (Gi hg hu hg.s0 hy).1).1 hys
  rw [h.nogoal s' hs' y hy'] at hgy;cases hgy
theorem Dr.ZQ {g:Gr} (hg:OO g) {seen:List Bool} {steps:List JF} {ws:List (List Int)} (h:FI g seen steps ws steps.length 0):Dr g none:=by
  have key:∀(n:Nat) (u:List Int),u.length=n→over g u→∀x,reach g u g.s0 x→sn seen x=true:=by
    intro n
    induction n with
    | zero=>
      intro u hu _ x hx
      have:u=[]:=List.length_eq_zero_iff.1 hu
      subst this
      have hx:g.s0=x:=hx
      rw [←hx];exact h.start
    | succ n ih=>
      intro u hu ho x hx
      have hu0:u≠[]:=fun e=>by subst e;simp at hu
      obtain ⟨v,l,rfl⟩:∃v l,u=v++[l]:=⟨u.dropLast,u.getLast hu0,(List.dropLast_concat_getLast hu0).symm⟩
      obtain ⟨m,hm,hxm⟩:=El.1 hx
      obtain ⟨hov,hl⟩:=GH.1 ho
      have hms:=ih v (by simpa using hu) hov m hm
      obtain ⟨s,hs,hms2⟩:=(h.snI m (Gi hg hov hg.s0 hm).1).1 hms
      obtain ⟨t,ht⟩:=List.getElem?_of_mem hs
      exact h.done t s ht l (.inl ⟨(List.getElem?_eq_some_iff.1 ht).1,hl⟩) m hms2 x hxm
  rintro u hu ⟨x,hx,hgx⟩
  have hxs:=key u.length u rfl hu x hx
  obtain ⟨s,hs,hxs2⟩:=(h.snI x (Gi hg hu hg.s0 hx).1).1 hxs
  rw [h.nogoal s hs x hxs2] at hgx;cases hgx
theorem FI.X7 {g:Gr} {seen:List Bool} {steps:List JF} {ws:List (List Int)} {i:Nat} (h:FI g seen steps ws i g.ls.length) (hi:i < steps.length):FI g seen steps ws (i+1) 0:=by
  refine ⟨h.slen,h.wlen,h.chain,h.rch,h.ov,h.min,h.ord,fun w hw=>?_,h.snI,fun t s hs l hl=>?_,h.nogoal,h.inn,h.start,h.cnt,by omega,h.nd⟩
  · rcases h.par w hw with h1|⟨p,v,l,h1,h2,h3,h4⟩
    · exact .inl h1
    · exact .inr ⟨p,v,l,h1,h2,h3,.inl (by rcases h4 with h4|⟨h4,_⟩<;>omega)⟩
  · refine h.done t s hs l ?_
    rcases hl with ⟨h1,h2⟩|⟨_,j',h1,_⟩
    · rcases Nat.lt_or_ge t i with h3|h3
      · exact .inl ⟨h3,h2⟩
      · obtain ⟨j',hj'⟩:=List.getElem?_of_mem h2
        exact .inr ⟨by omega,j',(List.getElem?_eq_some_iff.1 hj').1,hj'⟩
    · omega
def Dm (steps:List JF) (p l:Int) (fresh:List Int):List JF:=if fresh=[] then steps else steps++[⟨p,l,fresh⟩]
def Zv (ws:List (List Int)) (w fresh:List Int):List (List Int):=if fresh=[] then ws else ws++[w]
structure Nq (ls:List Int) (steps:List JF) (ws:List (List Int)):Prop where
  wlen:ws.length=steps.length
  chain:∀(t:Nat) s,steps[t]? = some s→(s.p = -1∧ws[t]? = some [])∨∃(q:Nat) (w:List Int),s.p=(q:Int)∧q < t∧ws[q]? = some w∧ws[t]? = some (w++[s.l])∧s.l∈ls
theorem Ev {α:Type} {l:List α} {x y:α} {t:Nat} (h:(l++[x])[t]? = some y):l[t]? = some y∨t=l.length∧y=x:=by
  rcases Nat.lt_or_ge t l.length with h1|h1
  · rw [List.getElem?_append_left h1] at h;exact .inl h
  · rw [List.getElem?_append_right h1] at h
    have h2:=(List.getElem?_eq_some_iff.1 h).1
    simp at h2
    have:t=l.length:=by omega
    subst this
    simp at h
    exact .inr ⟨rfl,h.symm⟩
theorem Gy {α:Type} {l:List α} {x y:α} {t:Nat} (h:l[t]? = some y):(l++[x])[t]? = some y:=by
  rw [List.getElem?_append_left (List.getElem?_eq_some_iff.1 h).1];exact h
theorem Nq.app {ls:List Int} {steps:List JF} {ws:List (List Int)} (h:Nq ls steps ws) {i:Nat} {wi:List Int} {l:Int} {ns:List Int} (hw:ws[i]? = some wi) (hl:l∈ls):Nq ls (steps++[⟨i,l,ns⟩]) (ws++[wi++[l]]):=by
  have hi:=(List.getElem?_eq_some_iff.1 hw).1
  refine ⟨by simp [h.wlen],fun t s hs=>?_⟩
  rcases Ev hs with h1|⟨h1,h2⟩
  · rcases h.chain t s h1 with ⟨h2,h3⟩|⟨q,w,h2,h3,h4,h5,h6⟩
    · exact .inl ⟨h2,Gy h3⟩
    · exact .inr ⟨q,w,h2,h3,Gy h4,Gy h5,h6⟩
  · subst h2
    refine .inr ⟨i,wi,rfl,?_,Gy hw,?_,hl⟩
    · rw [h1,←h.wlen];exact hi
    · rw [h1,←h.wlen];simp
theorem FI.QP {g:Gr} {seen:List Bool} {steps:List JF} {ws:List (List Int)} {i j:Nat} (h:FI g seen steps ws i j):Nq g.ls steps ws:=⟨h.wlen,h.chain⟩
theorem FI.visit {g:Gr} (hg:OO g) {seen:List Bool} {steps:List JF} {ws:List (List Int)} {i j:Nat} (h:FI g seen steps ws i j) {wi:List Int} {lj:Int} (hw:ws[i]? = some wi) (hj:g.ls[j]? = some lj) {s:JF} (hs:steps[i]? = some s)
    {R:List Int} (hR:∀y,y∈R↔∃n∈s.ns,y∈g.succ n lj) {st:We} (hv:Xl g.goal g.N seen R st) (hf:st.found=false):FI g st.seen (Dm steps i lj st.fresh) (Zv ws (wi++[lj]) st.fresh) i (j+1):=by
  have hl:=List.mem_of_getElem? hj
  have hRin:∀y∈R,0≤y∧y < g.N:=fun y hy=>by
    obtain ⟨n,hn,hy⟩:=(hR y).1 hy
    exact hg.inn n (h.inn s (List.mem_of_getElem? hs) n hn) lj hl y hy
  have hmono:∀n:Int,0≤n→sn seen n=true→sn st.seen n=true:=fun n hn hx=>(hv.snI n hn).2 (.inl hx)
  have hnog:∀n∈st.fresh,g.goal n=false:=fun n hn=>by
    have:=hv.fd
    rw [hf] at this
    have h2:=List.any_eq_false.1 this.symm n hn
    simpa using h2
  have hpar:∀w∈ws,w=[]∨∃(p:Nat) (v:List Int) (l:Int),ws[p]? = some v∧w=v++[l]∧l∈g.ls∧(p < i∨p=i∧∃j',j' < j+1∧g.ls[j']? = some l):=fun w hw=>by
    rcases h.par w hw with h1|⟨p,v,l,h1,h2,h3,h4⟩
    · exact .inl h1
    · refine .inr ⟨p,v,l,h1,h2,h3,?_⟩
      rcases h4 with h4|⟨h4,j',h5,h6⟩
      · exact .inl h4
      · exact .inr ⟨h4,j',by omega,h6⟩
  have hdone:∀(t:Nat) s',steps[t]? = some s'→∀l,(t < i∧l∈g.ls∨t=i∧∃j',j' < j+1∧g.ls[j']? = some l)→∀n∈s'.ns,∀y∈g.succ n l,sn st.seen y=true:=by
    intro t s' hs' l hl' n hn y hy
    have hyin:0≤y∧y < g.N:=by
      refine hg.inn n (h.inn s' (List.mem_of_getElem? hs') n hn) l ?_ y hy
      rcases hl' with ⟨_,h1⟩|⟨_,j',_,h1⟩
      · exact h1
      · exact List.mem_of_getElem? h1
    rcases hl' with h1|⟨h1,j',h2,h3⟩
    · exact hmono y hyin.1 (h.done t s' hs' l (.inl h1) n hn y hy)
    · subst h1
      rcases Nat.lt_succ_iff_lt_or_eq.1 h2 with h4|h4
      · exact hmono y hyin.1 (h.done t s' hs' l (.inr ⟨rfl,j',h4,h3⟩) n hn y hy)
      · subst h4
        rw [hj] at h3
        injection h3 with h3
        subst h3
        rw [hs] at hs'
        injection hs' with hs'
        subst hs'
        exact (hv.snI y hyin.1).2 (.inr ((hR y).2 ⟨n,hn,hy⟩))
  unfold Dm Zv
  by_cases hfr:st.fresh=[]
  · rw [if_pos hfr,if_pos hfr]
    have hsame:∀n:Int,0≤n→(sn st.seen n=true↔sn seen n=true):=fun n hn=>by
      rw [hv.snI n hn]
      refine ⟨fun h1=>?_,.inl⟩
      rcases h1 with h1|h1
      · exact h1
      · rcases Bool.eq_false_or_eq_true (sn seen n) with h2|h2
        · exact h2
        · have:=(hv.fr n).2 ⟨h1,h2⟩
          rw [hfr] at this;cases this
    refine ⟨hv.len,h.wlen,h.chain,h.rch,h.ov,h.min,h.ord,hpar,fun n hn=>by rw [hsame n hn];exact h.snI n hn,hdone,h.nogoal,h.inn,hmono _ hg.s0.1 h.start,?_,h.le,h.nd⟩
    rw [hv.cnt,hfr];exact h.cnt
  · rw [if_neg hfr,if_neg hfr]
    have hch:=h.QP.app (ns:=st.fresh) hw hl
    have hnew:∀n∈st.fresh,n∈R∧sn seen n=false:=fun n hn=>(hv.fr n).1 hn
    have hbig:∀w∈ws,slt w (wi++[lj]):=by
      intro w hww
      rcases h.par w hww with rfl|⟨p,v,l,h1,rfl,h3,h4⟩
      · exact .inl (by simp)
      · rcases h4 with h4|⟨h4,j',h5,h6⟩
        · obtain ⟨a1,a2⟩:=List.getElem?_eq_some_iff.1 h1
          obtain ⟨b1,b2⟩:=List.getElem?_eq_some_iff.1 hw
          have h7:=(List.pairwise_iff_getElem.1 h.ord) p i a1 b1 h4
          rw [a2,b2] at h7
          exact QH h7
        · subst h4
          rw [hw] at h1
          injection h1 with h1
          subst h1
          obtain ⟨a1,a2⟩:=List.getElem?_eq_some_iff.1 h6
          obtain ⟨b1,b2⟩:=List.getElem?_eq_some_iff.1 hj
          have h7:=(List.pairwise_iff_getElem.1 hg.srt) j' j a1 b1 h5
          rw [a2,b2] at h7
          exact Uc h7
    have hmemR:∀n∈st.fresh,∃m∈s.ns,n∈g.succ m lj:=fun n hn=>(hR n).1 (hnew n hn).1
    refine ⟨hv.len,hch.wlen,hch.chain,fun t s' w hs' hw' n hn=>?_,fun w hww=>?_,fun t s' w hs' hw' n hn u hu hlt hr=>?_,?_,fun w hww=>?_,fun n hn=>?_,fun t s' hs' l hl' n hn y hy=>?_,fun s' hs' n hn=>?_,fun s' hs' n hn=>?_,hmono _ hg.s0.1 h.start,?_,?_,fun s' hs'=>?_⟩
    · rcases Ev hs' with h1|⟨h1,h2⟩
      · rcases Ev hw' with h3|⟨h3,h4⟩
        · exact h.rch t s' w h1 h3 n hn
        · have:=(List.getElem?_eq_some_iff.1 h1).1
          rw [h.wlen] at h3;omega
      · subst h2
        rcases Ev hw' with h3|⟨h3,h4⟩
        · have:=(List.getElem?_eq_some_iff.1 h3).1
          rw [h.wlen] at this;omega
        · subst h4
          obtain ⟨m,hm,hnm⟩:=hmemR n hn
          exact El.2 ⟨m,h.rch i s wi hs hw m hm,hnm⟩
    · rcases List.mem_append.1 hww with h1|h1
      · exact h.ov w h1
      · simp at h1;subst h1
        exact GH.2 ⟨h.ov wi (List.mem_of_getElem? hw),hl⟩
    · rcases Ev hs' with h1|⟨h1,h2⟩
      · rcases Ev hw' with h3|⟨h3,h4⟩
        · exact h.min t s' w h1 h3 n hn u hu hlt hr
        · have:=(List.getElem?_eq_some_iff.1 h1).1
          rw [h.wlen] at h3;omega
      · subst h2
        rcases Ev hw' with h3|⟨h3,h4⟩
        · have:=(List.getElem?_eq_some_iff.1 h3).1
          rw [h.wlen] at this;omega
        · subst h4
          have:=h.VN hg hw hj u.length u rfl hu hlt n hr
          rw [(hnew n hn).2] at this;cases this
    · refine List.pairwise_append.2 ⟨h.ord,by simp,fun a ha b hb=>?_⟩
      simp at hb;subst hb
      exact hbig a ha
    · rcases List.mem_append.1 hww with h1|h1
      · rcases hpar w h1 with h2|⟨p,v,l,h2,h3,h4,h5⟩
        · exact .inl h2
        · exact .inr ⟨p,v,l,Gy h2,h3,h4,h5⟩
      · simp at h1;subst h1
        exact .inr ⟨i,wi,lj,Gy hw,rfl,hl,.inr ⟨rfl,j,by omega,hj⟩⟩
    · rw [hv.snI n hn,h.snI n hn]
      constructor
      · rintro (⟨s',hs',hns⟩|hnR)
        · exact ⟨s',List.mem_append_left _ hs',hns⟩
        · rcases Bool.eq_false_or_eq_true (sn seen n) with h2|h2
          · obtain ⟨s',hs',hns⟩:=(h.snI n hn).1 h2
            exact ⟨s',List.mem_append_left _ hs',hns⟩
          · exact ⟨⟨i,lj,st.fresh⟩,List.mem_append_right _ (by simp),(hv.fr n).2 ⟨hnR,h2⟩⟩
      · rintro ⟨s',hs',hns⟩
        rcases List.mem_append.1 hs' with h1|h1
        · exact .inl ⟨s',h1,hns⟩
        · simp at h1;subst h1
          exact .inr (hnew n hns).1
    · rcases Ev hs' with h1|⟨h1,h2⟩
      · exact hdone t s' h1 l hl' n hn y hy
      · have:=(List.getElem?_eq_some_iff.1 hs).1
        rcases hl' with ⟨h3,_⟩|⟨h3,_⟩<;>omega
    · rcases List.mem_append.1 hs' with h1|h1
      · exact h.nogoal s' h1 n hn
      · simp at h1;subst h1;exact hnog n hn
    · rcases List.mem_append.1 hs' with h1|h1
      · exact h.inn s' h1 n hn
      · simp at h1;subst h1;exact hRin n (hnew n hn).1
    · have h1:=hv.cnt
      have h2:=h.cnt
      have h3:0 < st.fresh.length:=List.length_pos_iff.2 hfr
      simp;omega
    · have:=h.le;simp;omega
    · rcases List.mem_append.1 hs' with h1|h1
      · exact h.nd s' h1
      · simp at h1;subst h1;exact hv.nd
theorem FI.init {g:Gr} (hg:OO g) {st:We} (hv:Xl g.goal g.N (List.replicate g.N false) [g.s0] st) (hf:st.found=false):st.fresh=[g.s0]∧FI g st.seen [⟨-1,0,[g.s0]⟩] [[]] 0 0:=by
  have hno:∀n,sn (List.replicate g.N false) n=false:=fun n=>by
    unfold sn
    by_cases h:n.toNat < g.N<;>simp [List.getD,h]
  have hmem:∀n,n∈st.fresh↔n=g.s0:=fun n=>by rw [hv.fr n];simp [hno]
  have hfr:st.fresh=[g.s0]:=by
    have h1:=hv.nd
    generalize st.fresh=l at hmem h1
    cases l with
    | nil=>have:=(hmem g.s0).2 rfl;cases this
    | cons a l=>
      have ha:=(hmem a).1 (by simp)
      subst ha
      cases l with
      | nil=>rfl
      | cons b l=>
        have hb:=(hmem b).1 (by simp)
        subst hb
        simp at h1
  refine ⟨hfr,?_⟩
  have hng:g.goal g.s0=false:=by
    have:=hv.fd
    rw [hf,hfr] at this
    simpa using this.symm
  have one:∀(t:Nat) (s:JF),[(⟨-1,0,[g.s0]⟩:JF)][t]? = some s→t=0∧s=⟨-1,0,[g.s0]⟩:=fun t s h=>by
    cases t with
    | zero=>simp at h;exact ⟨rfl,h.symm⟩
    | succ t=>simp at h
  have one':∀(t:Nat) (w:List Int),[([]:List Int)][t]? = some w→w=[]:=fun t w h=>by
    cases t with
    | zero=>exact (Option.some.inj h).symm
    | succ t=>simp at h
  refine ⟨hv.len,rfl,fun t s hs=>?_,fun t s w hs hw n hn=>?_,fun w hw=>?_,fun t s w hs hw n hn u _ hlt=>?_,by simp,fun w hw=>by simp at hw;exact .inl hw,fun n hn=>?_,fun t s hs l hl n hn y hy=>?_,fun s hs n hn=>?_,fun s hs n hn=>?_,?_,?_,by simp,fun s hs=>?_⟩
  · obtain ⟨rfl,rfl⟩:=one t s hs;exact .inl ⟨rfl,rfl⟩
  · obtain ⟨rfl,rfl⟩:=one t s hs
    have:=one' 0 w hw
    subst this
    simp at hn;subst hn;exact (rfl:g.s0=g.s0)
  · simp at hw;subst hw;exact fun l hl=>(by cases hl)
  · have:=one' t w hw
    subst this
    rcases hlt with h1|⟨_,h1⟩
    · simp at h1
    · cases u<;>exact h1.elim
  · rw [hv.snI n hn];simp [hno]
  · rcases hl with ⟨h1,_⟩|⟨_,j',h1,_⟩<;>omega
  · simp at hs;subst hs;simp at hn;subst hn;exact hng
  · simp at hs;subst hs;simp at hn;subst hn;exact hg.s0
  · exact (hv.snI _ hg.s0.1).2 (.inr (by simp))
  · rw [hv.cnt,hfr];simp
  · simp at hs;subst hs;simp
theorem Dr.start {g:Gr} (h:g.goal g.s0=true):Dr g (some []):=
  ⟨fun l hl=>(by cases hl),⟨g.s0,rfl,h⟩,fun u _ _ hlt=>by rcases hlt with h1|⟨_,h1⟩;(simp at h1);(cases u<;>exact h1.elim)⟩
end Go.Am
namespace Go.Am
open Go Go.Proofs
set_option maxHeartbeats 1000000
attribute [local irreducible] AR BZ Lex Bm Aj Spec
variable {TB:Ba}
def Dl (bs:List UInt8) (k i:Nat):UInt8:=if i < k∨bs.length≤i+k then bs.getD (bs.length - 1 - i) 0 else bs.getD i 0
theorem Xa (bs:List UInt8):(Bh bs.length fun i=>Ee (Dl bs 0 i))=bs.map Ee:=by
  apply List.ext_getElem?
  intro i
  by_cases hi:i < bs.length
  · rw [CE (g:=fun i=>Ee (Dl bs 0 i)) hi]
    unfold Dl
    rw [if_neg (by omega)]
    simp [List.getD,hi]
  · rw [List.getElem?_eq_none (by simp [Bh];omega),List.getElem?_eq_none (by simp;omega)]
theorem T5 (bs:List UInt8) {k:Nat} (hk:bs.length≤2*k+1):(Bh bs.length fun i=>Ee (Dl bs k i))=bs.reverse.map Ee:=by
  apply List.ext_getElem?
  intro i
  by_cases hi:i < bs.length
  · rw [CE (g:=fun i=>Ee (Dl bs k i)) hi]
    unfold Dl
    have h1:bs.reverse[i]? = some (bs.getD (bs.length - 1 - i) 0):=by
      rw [List.getElem?_reverse hi]
      have:bs.length - 1 - i < bs.length:=by omega
      simp [List.getD,this]
    rw [List.getElem?_map,h1]
    by_cases h2:i < k∨bs.length≤i+k
    · rw [if_pos h2];rfl
    · rw [if_neg h2]
      have:bs.length - 1 - i=i:=by omega
      rw [this];rfl
  · rw [List.getElem?_eq_none (by simp [Bh];omega),List.getElem?_eq_none (by simp;omega)]
theorem Vt (r:Nat→Nat) (l:List UInt8):(l.map Ee).map (C.BE r)=l.map Ee:=by
  rw [List.map_map];exact List.map_congr_left fun c _=>rfl
theorem Ic (r:Nat→Nat) (c:UInt8):C.BE r (Ee c)=Ee c:=rfl
theorem KP (r:Nat→Nat) (n:Nat) (H:Nat→UInt8):(Bh n fun i=>Ee (H i)).map (C.BE r)=Bh n fun i=>Ee (H i):=by
  unfold Bh
  rw [List.map_map]
  exact List.map_congr_left fun i _=>rfl
theorem HI {n q:Nat} {H:Nat→UInt8} (h:q < n):(Bh n fun i=>Ee (H i))[0+((q:Nat):Int).toNat]? = some (Ee (H q)):=by
  rw [Nat.zero_add,Int.toNat_natCast];exact CE (g:=fun i=>Ee (H i)) h
theorem JS {n q:Nat} {H:Nat→UInt8} {c d:UInt8}:(Bh n fun i=>Ee (H i)).set (0+((q:Nat):Int).toNat) (Ae (Ee d) 0 (eC (eI .u8 (c.toNat:Nat))))=Bh n fun i=>Ee (if i=q then c else H i):=by
  rw [Nat.zero_add,Int.toNat_natCast]
  have e:Ae (Ee d) 0 (eC (eI .u8 (c.toNat:Nat)))=Ee c:=rfl
  rw [e,IY]
  refine Ce fun i _=>?_
  by_cases h:i=q<;>simp [h]
theorem Pv (bs:List UInt8) (hb:bs.length≤1099511627776):Spec Tryz.prog TB 194 [(0,.cells 5 1 (bs.map Ee))] 1 [.o (.arr 0 1 0 bs.length)] (fun x σ nx=>x=.t []∧nx=1∧σ=[(0,.cells 5 1 (bs.reverse.map Ee))]):=by
  refine eN Tryz.func194 rfl (by kernel_rfl) rfl ?_;intro Γ hΓ
  (repeat first|(refine sM rfl ?_ ?_;first|exact tI|omega) |refine aU rfl ?_ |refine Aa ?_)
  refine aB ?_
  refine Aj.BO (α:={k:Nat // k≤bs.length}) (fun ⟨k,hk⟩=>[(0,.o (.arr 0 1 0 bs.length)),(2,eI .i64 k),(3,eI .i64 ((bs.length:Int) - 1 - k))]) (fun ⟨k,hk⟩=>[(0,.cells 5 1 (Bh bs.length fun i=>Ee (Dl bs k i)))]) 1 (fun ⟨k,hk⟩=>bs.length - k) (⟨0,by omega⟩) [0] (Hw hΓ rfl rfl) (by (simp[cX,zC,hΓ,KP,Xa,Ic])) ?_;rintro ⟨k,hk⟩;(try dsimp only)
  (repeat first|refine tM rfl ?_ |refine s2 rfl fun _ _hb=>?_ |refine aU rfl ?_ |refine Aa ?_)
  (refine aC rfl ?_ ?_<;>rintro ⟨⟩)
  · have hlt:2*k+1 < bs.length:=by (simp only[oZ] at *;omega)
    obtain ⟨m,hm⟩:∃m:Nat,m=bs.length - 1 - k:=⟨_,rfl⟩
    have e3:(bs.length:Int) - 1 - k=((m:Nat):Int):=by omega
    have hk1:Dl bs k k=bs.getD k 0:=by unfold Dl;rw [if_neg (by omega)]
    have hm1:Dl bs k m=bs.getD m 0:=by unfold Dl;rw [if_neg (by omega)]
    have hgk:=HI (H:=Dl bs k) (q:=k) (n:=bs.length) (by omega)
    have hgm:=HI (H:=Dl bs k) (q:=m) (n:=bs.length) (by omega)
    have hs1:=JS (n:=bs.length) (q:=k) (H:=Dl bs k) (c:=Dl bs k m) (d:=Dl bs k k)
    have hgm2:=HI (H:=fun i=>if i=k then Dl bs k m else Dl bs k i) (q:=m) (n:=bs.length) (by omega)
    have hs2:=JS (n:=bs.length) (q:=m) (H:=fun i=>if i=k then Dl bs k m else Dl bs k i) (c:=Dl bs k k) (d:=Dl bs k m)
    have hmk:m≠k:=by omega
    rw [if_neg hmk] at hgm2
    have hc:(Bh bs.length fun i=>Ee (if i=m then Dl bs k k else if i=k then Dl bs k m else Dl bs k i))=Bh bs.length fun i=>Ee (Dl bs (k+1) i):=Ce fun i hi=>by
      congr 1
      by_cases h1:i=m
      · subst h1;rw [if_pos rfl,hk1];unfold Dl;rw [if_pos (by omega)];congr 1;omega
      · rw [if_neg h1]
        by_cases h2:i=k
        · subst h2;rw [if_pos rfl,hm1];unfold Dl;rw [if_pos (by omega)];congr 1
        · rw [if_neg h2];unfold Dl
          by_cases h3:i < k∨bs.length≤i+k
          · rw [if_pos h3,if_pos (by omega)]
          · rw [if_neg h3,if_neg (by omega)]
    rw [←hs1] at hgm2
    rw [e3]
    refine aK ?_
    refine aS (aB ?_)
    refine rG (ZR [13,15] [2,3]) (by kernel_rfl) ?_
    (repeat first|(refine sM rfl ?_ ?_;first|exact tI|omega) |refine t4 rfl ‹_› rfl ?_ |refine aU rfl ?_ |refine Aa ?_)
    refine ⟨⟨k+1,by omega⟩,by dsimp only;(omega),[0],?_⟩
    rw [hs1,hs2,hc]
    have e4:(m:Int) - 1=bs.length - 1 - (k+1):=by omega
    simp[cX,zC,hΓ,KP,e4]
  · have hle:bs.length≤2*k+1:=by (simp only[oZ] at *;omega)
    rw [T5 bs hle]
    exact aE ⟨_,rfl,rfl,rfl,rfl⟩
abbrev VW (s:JF):List D:=[iD s.p,iD s.l,E0 s.ns]
abbrev K0 (s:JF):List C:=[.d (iD s.p),.d (iD s.l),.d (E0 s.ns)]
abbrev Uf (l:List JF):D:=.l (l.map VW)
theorem Rq {l:Int} (h0:0≤l) (h1:l < 6):Ee (UInt8.ofNat (97+l.toNat))=[.d (.v (.int .u8 (97+l)))]:=by
  have h2:(97+l.toNat) % 256=97+l.toNat:=Nat.mod_eq_of_lt (by omega)
  have h3:(97+l:Int)=((97+l.toNat:Nat):Int):=by omega
  simp [Ee,h2,h3]
theorem VH (o:List Int):(Nk o).reverse=Nk o.reverse:=by simp [Nk]
theorem Oe {ls:List Int} {steps:List JF} {ws:List (List Int)} (h:Nq ls steps ws) (hls:∀l∈ls,0≤l∧l < 6) {w:List Int} (hlen:1≤steps.length∧steps.length≤2097152) (hw:ws[steps.length - 1]? = some w):Pure Tryz.prog TB 163 [.o (.d (Uf steps))] (eT (Nk w)):=by
  refine eN Tryz.func163 rfl (by kernel_rfl) rfl ?_;intro Γ hΓ
  (repeat first|refine tM rfl ?_ |refine aU rfl ?_ |refine Aa ?_)
  (refine pW rfl ?_ rfl (by rfl);refine N9 1 5 ?_)
  (repeat first|refine sN rfl ?_ |(refine sM rfl ?_ ?_;first|exact tI|omega) |refine aU rfl ?_ |refine Aa ?_)
  refine aB ?_
  refine Aj.BO (α:={x:Nat×List Int // x.1+x.2.length < steps.length∧∃v,ws[x.1]? = some v∧w=v++x.2.reverse}) (fun ⟨⟨i,o⟩,hP⟩=>[(0,.o (.d (Uf steps))),(3,.o (.arr 0 1 0 o.length)),(4,eI .i64 i)]) (fun ⟨⟨i,o⟩,hP⟩=>[(0,.cells 5 1 ((Nk o).map Ee))]) 1 (fun ⟨⟨i,o⟩,hP⟩=>i) (⟨(steps.length - 1,[]),by simp;omega,w,hw,by simp⟩) [0] (Hw hΓ rfl rfl) (by (simp[cX,zC,hΓ,Nk,Int.ofNat_sub,hlen.1])) ?_;rintro ⟨⟨i,o⟩,hP⟩;(try dsimp only)
  obtain ⟨hi,v,hv,hwv⟩:=hP
  simp only at hi hv hwv
  obtain ⟨s,hs⟩:=get_some (l:=steps) (k:=i) (by omega)
  have hs':=get_map (g:=VW) hs
  have hch:=h.chain i s hs
  have htl:(Nk o).length=o.length:=by simp [Nk]
  (repeat first|refine tM rfl ?_ |(refine s4 rfl ‹_› rfl ?_ ?_;omega) |refine s2 rfl fun _ _hb=>?_ |refine aU rfl ?_ |refine Aa ?_)
  (refine aC rfl ?_ ?_<;>rintro ⟨⟩)
  · obtain ⟨q,u,hq,hqi,hqu,hu,hl⟩:∃(q:Nat) (u:List Int),s.p=(q:Int)∧q < i∧ws[q]? = some u∧ws[i]? = some (u++[s.l])∧s.l∈ls:=by
      rcases hch with ⟨h1,_⟩|h1
      · exfalso;(simp only[oZ] at *;omega)
      · exact h1
    have hlb:=hls _ hl
    rw [hv] at hu
    injection hu with hu
    have hby:=Rq hlb.1 hlb.2
    have htx:Nk (o++[s.l])=Nk o++[UInt8.ofNat (97+s.l.toNat)]:=by simp [Nk]
    have htx2:(Nk (o++[s.l])).map Ee=(Nk o).map Ee++[[.d (.v (.int .u8 (97+s.l)))]]:=by rw [htx,List.map_append,List.map_cons,hby];rfl
    refine aK ?_
    refine aS (aB ?_)
    (repeat first|refine tA rfl ?_ |(refine s4 rfl ‹_› rfl ?_ ?_;omega) |refine sP rfl (EG s.l hlb.1 (by omega)) rfl ?_ |refine aU rfl ?_)
    (refine pW rfl ?_ rfl (by rfl);refine Ax rfl rfl rfl (by first| (simp;done)|(simp;(omega))) rfl (by intro r hr;simp at hr;subst hr;rfl) (by rfl) (Nat.le_of_ble_eq_true rfl) (by simp;omega) ?_)
    (repeat first|refine tX rfl ?_ |(refine s4 rfl ‹_› rfl ?_ ?_;omega) |refine aU rfl ?_ |refine Aa ?_)
    refine ⟨⟨(q,o++[s.l]),by simp;omega,u,hqu,by rw [hwv,hu];simp⟩,by dsimp only;omega,[1],?_⟩
    dsimp only
    rw [htx2]
    simp[cX,zC,hΓ,hq,Ic]
  · have hv0:v=[]:=by
      rcases hch with ⟨_,h1⟩|⟨q,u,h1,_⟩
      · rw [hv] at h1;injection h1
      · exfalso;(simp only[oZ] at *;omega)
    subst hv0
    have hwo:w=o.reverse:=by rw [hwv];rfl
    have hrv:=Pv (TB:=TB) (Nk o) (by omega)
    rw [htl,VH,←hwo] at hrv
    refine aE ?_
    (repeat first|refine tM rfl ?_ |refine aU rfl ?_)
    (refine pW rfl ?_ rfl (by rfl);refine Ac [0] rfl rfl hrv ⟨rfl,by simp,by simp⟩ rfl (by simp[cX,zC,hΓ,Ic]) ?_;rintro x0 σ1 nx1 ⟨rfl,rfl,rfl⟩ _)
    have htw:(Nk w).length=o.length:=by rw [hwo];simp [Nk]
    (repeat first|refine tM rfl ?_|(refine Ag rfl ?_;refine gA rfl ?_;first| refine gQ (Qz (Nk w) rfl rfl (by simp;omega) (by rw [List.drop_zero,Vt,List.take_of_length_le (by simp;omega)])) (by rfl) ?_) |refine aU rfl ?_ |refine Aa ?_)
    refine aR ⟨_,rfl,rfl⟩
theorem Wh (p:Nat→Prop):(∀i,i < 5→p i)↔p 0∧p 1∧p 2∧p 3∧p 4:=by
  constructor
  · intro h;exact ⟨h 0 (by omega),h 1 (by omega),h 2 (by omega),h 3 (by omega),h 4 (by omega)⟩
  · rintro ⟨h0,h1,h2,h3,h4⟩ i hi
    have:i=0∨i=1∨i=2∨i=3∨i=4:=by omega
    rcases this with rfl|rfl|rfl|rfl|rfl<;>assumption
theorem Ul {goal:Int→Bool} {seen:List Bool} {nodes:List Int} {k:Nat} {x:Int} (h:nodes[k]? = some x):Nl goal seen (nodes.take (k+1))=OI goal (Nl goal seen (nodes.take k)) x:=by
  unfold Nl;rw [O4 h]
theorem OA {l:List Bool} {n:Int}:(l.map AH).set (0+n.toNat) (Ae (AH false) 0 (eC (eB true)))=(l.set n.toNat true).map AH:=by
  simp [Ae,eC,List.map_set]
abbrev DJ (N:Nat) (gG:FuncId) (capsG:List C) (seen:List Bool) (q:Nat) (steps:List JF):Ab:=
  [(0,.cells 24 1 [[.arr 1 1 0 N]]),(1,.cells 4 1 (seen.map AH)),(2,.cells 99 1 [[.fn gG capsG]]),(3,.cells 166 1 [[.arr q 3 0 steps.length]]),(q,.cells 168 3 (steps.map K0))]
theorem OH {goal:Int→Bool} {gG:FuncId} {capsG:List C} {N:Nat} (hG:∀n:Int,0≤n∧n < N→Pure Tryz.prog TB gG ([eI .i64 n]++capsG.map .o) (eB (goal n))) (hcG:C.BR capsG=true) (hren:∀r,C.BE r capsG=capsG)
    (seen:List Bool) (steps:List JF) (p l:Int) (nodes:List Int) (hs:seen.length=N) (hN:N≤1048576) (hst:steps.length≤1048576) (hn:∀n∈nodes,0≤n∧n < N) :
    Spec Tryz.prog TB 162 (DJ N gG capsG seen 4 steps) 5 [eI .i64 p,eI .i64 l,AW nodes,.o (.ptr 0 1 0 0),.o (.ptr 2 1 0 0),.o (.ptr 3 1 0 0)]
      (fun x σ nx=>x=eB (Nl goal seen nodes).found∧∃q,(q=4∧nx=5∨q=5∧nx=6)∧σ=DJ N gG capsG (Nl goal seen nodes).seen q (Dm steps p l (Nl goal seen nodes).fresh)):=by
  have hvk:∀k,Xl goal N seen (nodes.take k) (Nl goal seen (nodes.take k)):=fun k=>PL hs fun n hn'=>hn n (List.mem_of_mem_take hn')
  refine eN Tryz.func162 rfl (by kernel_rfl) rfl ?_;intro Γ hΓ
  refine Aj.bound 2 rfl fun hB0=>?_
  have hB:=hB0 _ .refl
  rw [List.length_map] at hB
  (repeat first|refine tM rfl ?_ |refine aU rfl ?_ |refine Aa ?_)
  (refine pW rfl ?_ rfl (by rfl);refine N9 1 3 ?_)
  (repeat first|refine sN rfl ?_ |refine tM rfl ?_ |refine aU rfl ?_ |refine Aa ?_)
  refine aB ?_
  refine Aj.BO (α:={k:Nat // k≤nodes.length}) (fun ⟨k,hk⟩=>[(0,eI .i64 p),(1,eI .i64 l),(3,.o (.ptr 0 1 0 0)),(4,.o (.ptr 2 1 0 0)),(5,.o (.ptr 3 1 0 0)),(10,.o (.arr 5 1 0 (Nl goal seen (nodes.take k)).fresh.length)),(11,eB (Nl goal seen (nodes.take k)).found),(14,AW nodes),(15,eI .i64 nodes.length),(16,eI .i64 k)]) (fun ⟨k,hk⟩=>DJ N gG capsG (Nl goal seen (nodes.take k)).seen 4 steps++[(5,.cells 3 1 ((Nl goal seen (nodes.take k)).fresh.map AU))]) 6 (fun ⟨k,hk⟩=>nodes.length - k) (⟨0,by omega⟩) [0,1,2,3,4,5] (Hw hΓ rfl rfl) (by (simp[cX,zC,hΓ,DJ,Nl,hren])) ?_;rintro ⟨k,hk⟩;(try dsimp only)
  have hv:=hvk k
  have hvs:=fun x=>Ul (goal:=goal) (seen:=seen) (nodes:=nodes) (k:=k) (x:=x)
  generalize hV:Nl goal seen (nodes.take k)=v at *
  (repeat first|refine s2 rfl fun _ _hb=>?_ |refine aU rfl ?_ |refine Aa ?_)
  (refine aC rfl ?_ ?_<;>rintro ⟨⟩)
  · obtain ⟨x,hx⟩:=get_some (l:=nodes) (k:=k) (by (simp only[oZ] at *;omega))
    have hx':=get_map (g:=CC) hx
    have hxb:=hn x (List.mem_of_getElem? hx)
    have hvs:=hvs x hx
    have hvl:=hv.len
    obtain ⟨b,hb⟩:=get_some (l:=v.seen) (k:=x.toNat) (by omega)
    have hb':(v.seen.map AH)[0+x.toNat]? = some (AH b):=by simp [hb]
    have hsb:sn v.seen x=b:=by simp [sn,List.getD,hb]
    have hfl:v.fresh.length≤N:=by
      refine GG _ _ hv.nd fun y hy=>hn y (List.mem_of_mem_take ((hv.fr y).1 hy).1)
    unfold OI at hvs
    rw [hsb] at hvs
    obtain ⟨vse,vfr,vfd⟩:=v
    simp only at hvs hvl hb hb' hfl
    refine aK ?_
    refine aS (aB ?_)
    (repeat first|((first|refine sM rfl ?_ ?_|refine s4 rfl ‹_› rfl ?_ ?_);first|exact tI|omega) |refine s2 rfl fun _ _hb=>?_ |refine aU rfl ?_ |refine Aa ?_)
    (refine aC rfl ?_ ?_<;>rintro ⟨⟩)
    · have hbf:b=false:=by simpa using _hb
      subst hbf
      rw [if_neg (by simp)] at hvs
      (repeat first|(refine sA rfl ?_ ?_;first|exact tI|omega) |refine t4 rfl ‹_› rfl ?_ |refine aU rfl ?_ |refine Aa ?_)
      (refine pW rfl ?_ rfl (by rfl);refine Ax rfl rfl rfl (by first| (simp;done)|(simp;(omega))) rfl (by intro r hr;simp at hr;subst hr;rfl) (by rfl) (Nat.le_of_ble_eq_true rfl) (by simp;omega) ?_)
      (repeat first|(refine sX rfl ?_ ?_;first|exact tI|simp only[oZ] at *;omega) |refine s3 rfl ?_ ?_<;>rintro rfl |refine aU rfl ?_ |refine Aa ?_)
      (repeat first|(refine sC rfl (hG x hxb) ?_;intro _ _hb)|(refine Ag rfl ?_;refine gA rfl ?_;first| refine gQ (MV rfl rfl rfl rfl) (by rfl) ?_))
      · refine ⟨⟨k+1,by (simp only[oZ] at *;omega)⟩,by dsimp only;((simp only[oZ] at *;omega)),[0,1,2,3,4,6],?_⟩
        rw [OA]
        simp[cX,zC,hΓ,hvs,DJ,hren,Wh]
      · (repeat first|(refine sA rfl ?_ ?_;first|exact tI|simp only[oZ] at *;omega)|(refine Ag rfl ?_;refine gA rfl ?_;first| (refine gB (fun _ _=>Bb rfl rfl (by simp [E.Bc,C.Bc,hcG]) (hG x hxb) rfl) ?_;intro _ _hb)) |refine aU rfl ?_ |refine Aa ?_)
        refine ⟨⟨k+1,by (simp only[oZ] at *;omega)⟩,by dsimp only;((simp only[oZ] at *;omega)),[0,1,2,3,4,6],?_⟩
        rw [OA]
        simp[cX,zC,hΓ,hvs,DJ,hren,Wh,_hb]
    · have hbt:b=true:=by simpa using _hb
      subst hbt
      rw [if_pos rfl] at hvs
      refine aK ?_
      (repeat first|(refine sM rfl ?_ ?_;first|exact tI|simp only[oZ] at *;omega) |refine aU rfl ?_ |refine Aa ?_)
      refine ⟨⟨k+1,by (simp only[oZ] at *;omega)⟩,by dsimp only;((simp only[oZ] at *;omega)),[0,1,2,3,4,5],?_⟩
      simp[cX,zC,hΓ,hvs,DJ,hren,Wh]
  · obtain rfl:k=nodes.length:=by (simp only[oZ] at *;omega)
    rw [List.take_length] at hV
    subst hV
    refine aE ?_
    have hfl:(Nl goal seen nodes).fresh.length≤N:=by
      have hv:=hvk nodes.length
      rw [List.take_length] at hv
      refine GG _ _ hv.nd fun y hy=>hn y ((hv.fr y).1 hy).1
    generalize Nl goal seen nodes=vv at *
    obtain ⟨vse,vfr,vfd⟩:=vv
    have hfl:vfr.length≤N:=hfl
    (repeat first|refine tM rfl ?_ |refine s2 rfl fun _ _hb=>?_ |refine aU rfl ?_ |refine Aa ?_)
    (refine aC rfl ?_ ?_<;>rintro ⟨⟩)
    · have hne:vfr≠[]:=fun e=>by rw [e] at _hb;simp at _hb
      refine Aj.freeze [5] [(0,eI .i64 p),(1,eI .i64 l),(5,.o (.ptr 3 1 0 0)),(10,AW vfr),(11,eB vfd)] ⟨⟨_,rfl,.Bf⟩,⟨_,rfl,.Bf⟩,⟨_,rfl,.Bf⟩,⟨_,rfl,.o (.full (by simp) rfl (by simp [Function.comp_def]) (by simp))⟩,⟨_,rfl,.Bf⟩,trivial⟩ ?_
      (repeat first|refine tA rfl ?_|(refine Ag rfl ?_;refine gA rfl ?_;first| refine gS (fun _ _=>AD rfl rfl (by rfl) (by rfl)) ?_) |refine aU rfl ?_)
      (refine pW rfl ?_ rfl (by rfl);refine Ax rfl rfl rfl (by first| (simp;done)|(simp;(omega))) rfl (by intro r hr;simp at hr;subst hr;rfl) (by rfl) (Nat.le_of_ble_eq_true rfl) (by simp;omega) ?_)
      (repeat first|refine tX rfl ?_ |refine aU rfl ?_ |refine Aa ?_)
      refine Aj.names [0,1,2,3,4,6] [(9,eB vfd)] (DJ N gG capsG vse 5 (Dm steps p l vfr)) (by rw [hΓ];decide) (by decide) (by simp[cX,zC,hΓ]) (by simp[cX,zC,hΓ,DJ,hren,Dm,hne,Cd,Ae,eC]) ?_
      refine aR ⟨_,rfl,rfl,5,.inr ⟨rfl,rfl⟩,rfl⟩
    · have hne:vfr=[]:=List.length_eq_zero_iff.1 (by (simp only[oZ] at *;omega))
      subst hne
      refine aK ?_
      (repeat first|refine tM rfl ?_ |refine aU rfl ?_ |refine Aa ?_)
      refine Aj.names [0,1,2,3,4] [(9,eB vfd)] (DJ N gG capsG vse 4 steps) (by rw [hΓ];decide) (by decide) (by simp[cX,zC,hΓ]) (by simp[cX,zC,hΓ,DJ,hren]) ?_
      refine aR ⟨_,rfl,rfl,4,.inl ⟨rfl,rfl⟩,by simp [Dm]⟩
theorem Ti {P:Program} {Γ:Ctx} {d:Option Tmp} {ty:TypeId} {pos:String} {af:Array Edge} {g:Option (Nat×Bool)} {f:Env} {σ:Ab} {nx:Nat} {K:E→Ab→Nat→Prop} {T:TypeId} (k e:Nat) [hz:Bw P T [.slice none 0 0]]
    (hK:K (.o (.ptr (nx+1) 1 0 0)) ((nx+1,.cells T 1 [[.arr nx k 0 0]])::(nx,.cells e k [])::σ) (nx+2)):BZ P TB Γ ⟨d,.alloc T,ty,pos,af,g⟩ f σ nx K:=
  Cy fun V ρ h1 h2 h3=>by
    subst h3
    obtain ⟨i,zv,hi,hzv,hzz⟩:=Fy hz.out
    have hzc:zv.cells = #[.slice none 0 0]:=by have:=congrArg List.toArray hzz;simpa using this
    obtain ⟨hi2,he2⟩:=h2.alloc (c:=0) (nl:=True) (w:=V.w) (ob:=.cells e k []) rfl rfl rfl rfl (Nat.le_refl _) (fun _ _=>rfl) (.inl ⟨by simp [Al],rfl⟩)
    have hc:Cm (Al V V.w.heap.size 0 True V.w) [.arr V.nx k 0 0] zv.cells:=by
      rw [hzc]
      refine ⟨rfl,fun j c v hj hv=>?_⟩
      match j with
      | 0=>simp at hj hv;subst hj hv;exact Aw.nil (by simp [Al]) (by simp [Al])
      | j+1=>simp at hj
    obtain ⟨hi',he⟩:=Mu hi2 (T:=T) hc
    refine ⟨.pointer (some ⟨V.w.heap.size,0,none⟩),_,_,_,?_,he2.trans he,hi',?_,hK⟩
    · simp [execOp,Instr.alloc,zeroValue,typeInfo,hi,hzv,newVar,newRow,Al,go_sem]
    · exact JR
theorem Mk (r:Nat→Nat):∀(l m:List E),Ds r (l++m)=Ds r l++Ds r m
  | [],m=>rfl
  | e::l,m=>by simp [Ds,Mk r l m]
theorem KN (r:Nat→Nat):∀(l:List C),Ds r (l.map .o)=(C.BE r l).map .o
  | []=>rfl
  | c::l=>by simp [Ds,C.BE,E.AO,KN r l]
def VZ (P:Program) (TB:Ba) (T:TypeId) (g:Gr) (gN:FuncId) (capsN:List C):Prop:=
  ∀(node l:Int) (outs:List Int),0≤node∧node < g.N→l∈g.ls→outs.length≤1099511627776→
    Spec P TB gN [(0,.cells T 1 (outs.map AU))] 1 ([eI .i64 node,eI .i64 l,.o (.arr 0 1 0 outs.length)]++capsN.map .o) (fun x σ nx=>x=.o (.arr 1 1 0 (outs++g.succ node l).length)∧nx=2∧σ=[(1,.cells T 1 ((outs++g.succ node l).map AU))])
theorem UI {g:Gr} (hg:OO g) (hN:g.N≤1048576) (hls:∀l∈g.ls,0≤l∧l < 6) (hll:g.ls.length≤6) (hsl:∀(node l:Int),0≤node∧node < g.N→l∈g.ls→(g.succ node l).length≤g.N)
    {gN gG:FuncId} {capsN capsG:List C} (hNx:VZ Tryz.prog TB 3 g gN capsN) (hG:∀n:Int,0≤n∧n < g.N→Pure Tryz.prog TB gG ([eI .i64 n]++capsG.map .o) (eB (g.goal n)))
    (hcG:C.BR capsG=true) (hrG:∀r,C.BE r capsG=capsG) (hrN:∀r,C.BE r capsN=capsN) {r:Option (List Int)} (hr:Dr g r) :
    Pure Tryz.prog TB 123 [eI .i64 g.N,AW [g.s0],AW g.ls,.o (.fn gN capsN),.o (.fn gG capsG)] (Y7 r):=by
  refine eN Tryz.func123 rfl (by kernel_rfl) rfl ?_;intro Γ hΓ
  (repeat first|refine aU rfl ?_)
  (refine pW rfl ?_ rfl (by rfl);refine E6 rfl rfl ?_)
  (repeat first|refine tM rfl ?_ |refine aU rfl ?_ |refine Aa ?_)
  (refine pW rfl ?_ rfl (by rfl);refine Kv rfl rfl (by rfl) (by rfl) (Nat.le_of_ble_eq_true rfl) (by omega) (by omega) (by omega) ?_)
  iterate 4 (first|refine tM rfl ?_ |refine aU rfl ?_ |refine Aa ?_)
  (refine pW rfl ?_ rfl (by rfl);refine Ti 3 168 ?_)
  (repeat first|refine tM rfl ?_ |refine aU rfl ?_ |refine Aa ?_)
  have hv0:=PL (goal:=g.goal) (N:=g.N) (seen:=List.replicate g.N false) (nodes:=[g.s0]) (by simp) (by intro n hn;simp at hn;subst hn;exact hg.s0)
  have hvis:=OH (TB:=TB) hG hcG hrG (List.replicate g.N false) [] (-1) 0 [g.s0] (by simp) hN (by simp) (by intro n hn;simp at hn;subst hn;exact hg.s0)
  (refine pW rfl ?_ rfl (by rfl);refine Ac [2,1,0,4,3] rfl rfl hvis ⟨rfl,by decide,by decide⟩ rfl (by simp[cX,zC,hΓ,DJ,hrG,Ae,eC]) ?_;rintro x0 σ1 nx1 ⟨rfl,q,hq,rfl⟩ _)
  generalize hV:Nl g.goal (List.replicate g.N false) [g.s0]=v at *
  obtain ⟨vse,vfr,vfd⟩:=v
  simp only
  refine Aa ?_
  refine Aj.names [2,1,0,4,if q=4 then 3 else 5] [(2,AW g.ls),(3,.o (.fn gN capsN)),(12,.o (.ptr 0 1 0 0)),(13,.o (.ptr 3 1 0 0)),(14,.o (.fn 162 [.ptr 0 1 0 0,.ptr 2 1 0 0,.ptr 3 1 0 0])),(26,eB vfd)] (DJ g.N gG capsG vse 4 (Dm [] (-1) 0 vfr)) (by simp [hΓ]) (by rcases hq with ⟨rfl,rfl⟩|⟨rfl,rfl⟩<;>decide)
    (by rcases hq with ⟨rfl,rfl⟩|⟨rfl,rfl⟩<;>simp[cX,zC,hΓ,hrN,eC]) (by rcases hq with ⟨rfl,rfl⟩|⟨rfl,rfl⟩<;>simp[cX,zC,hΓ,DJ,hrG,Ab.AO,Cd,Hv,eC]) ?_
  (refine aC rfl ?_ ?_<;>rintro ⟨⟩)
  · -- the start is a goal
    have hgs:g.goal g.s0=true:=by
      have h1:vfr.any g.goal=true:=hv0.fd.symm
      obtain ⟨x,hx,hgx⟩:=List.any_eq_true.1 h1
      have h2:=((hv0.fr x).1 hx).1
      simp at h2;subst h2;exact hgx
    have hrr:=Dr.unique hr (Dr.start hgs)
    subst hrr
    (repeat first|refine tM rfl ?_ |refine aU rfl ?_ |refine Aa ?_)
    refine aR ⟨_,rfl,rfl⟩
  refine aK ?_
  obtain ⟨hfr,hF0⟩:=FI.init hg hv0 rfl
  simp only at hfr hF0
  rw [hfr]
  (repeat first|refine tM rfl ?_ |refine aU rfl ?_ |refine Aa ?_)
  refine aB ?_
  refine Aj.BO (α:={x:Nat×List Bool×List JF×List (List Int) // FI g x.2.1 x.2.2.1 x.2.2.2 x.1 0}) (fun ⟨⟨i,seen,steps,ws⟩,hF⟩=>[(2,AW g.ls),(3,.o (.fn gN capsN)),(12,.o (.ptr 0 1 0 0)),(13,.o (.ptr 3 1 0 0)),(14,.o (.fn 162 [.ptr 0 1 0 0,.ptr 2 1 0 0,.ptr 3 1 0 0])),(15,eI .i64 i)]) (fun ⟨⟨i,seen,steps,ws⟩,hF⟩=>DJ g.N gG capsG seen 4 steps) 5 (fun ⟨⟨i,seen,steps,ws⟩,hF⟩=>g.N - i) (⟨(0,vse,[⟨-1,0,[g.s0]⟩],[[]]),hF0⟩) [0,1,2,3,4] (Hw hΓ rfl rfl) (by (simp[cX,zC,hΓ,DJ,hrG,hrN,Dm])) ?_;rintro ⟨⟨i,seen,steps,ws⟩,hF⟩;(try dsimp only)
  simp only at hF
  have hlN:=hF.X0
  (repeat first|refine tM rfl ?_ |refine s2 rfl fun _ _hb=>?_ |refine aU rfl ?_ |refine Aa ?_)
  (refine aC rfl ?_ ?_<;>rintro ⟨⟩)
  · have hi : i < steps.length:=by (simp only[oZ] at *;omega)
    obtain ⟨s,hs⟩:=get_some hi
    have hs':(steps.map K0)[0+((i:Nat):Int).toNat]? = some (K0 s):=NO hs
    obtain ⟨wi,hwi⟩:∃wi,ws[i]? = some wi:=get_some (by rw [hF.wlen];exact hi)
    refine aK ?_
    refine aS (aB ?_)
    (repeat first|refine sN rfl ?_ |refine tM rfl ?_ |refine aU rfl ?_ |refine Aa ?_)
    refine aB ?_
    refine Aj.BO (α:={x:Nat×List Bool×List JF×List (List Int) // x.1≤g.ls.length∧FI g x.2.1 x.2.2.1 x.2.2.2 i x.1∧i < x.2.2.1.length}) (fun ⟨⟨j,sen2,st2,ws2⟩,hP⟩=>[(2,AW g.ls),(3,.o (.fn gN capsN)),(12,.o (.ptr 0 1 0 0)),(13,.o (.ptr 3 1 0 0)),(14,.o (.fn 162 [.ptr 0 1 0 0,.ptr 2 1 0 0,.ptr 3 1 0 0])),(15,eI .i64 i),(33,AW g.ls),(34,eI .i64 g.ls.length),(35,eI .i64 j)]) (fun ⟨⟨j,sen2,st2,ws2⟩,hP⟩=>DJ g.N gG capsG sen2 4 st2) 5 (fun ⟨⟨j,sen2,st2,ws2⟩,hP⟩=>g.ls.length - j) (⟨(0,seen,steps,ws),by simp,hF,hi⟩) [0,1,2,3,4] (Hw hΓ rfl rfl) (by (simp[cX,zC,hΓ,DJ,hrG,hrN])) ?_;rintro ⟨⟨j,sen2,st2,ws2⟩,hP⟩;(try dsimp only)
    clear hs hs' hwi hF hlN hi
    obtain ⟨hj,hF,hi⟩:=hP
    simp only at hj hF hi
    have hlN:=hF.X0
    (repeat first|refine s2 rfl fun _ _hb=>?_ |refine aU rfl ?_ |refine Aa ?_)
    (refine aC rfl ?_ ?_<;>rintro ⟨⟩)
    · have hjl:j < g.ls.length:=by (simp only[oZ] at *;omega)
      obtain ⟨l,hl⟩:=get_some (l:=g.ls) (k:=j) hjl
      have hl':=get_map (g:=CC) hl
      have hlm:=List.mem_of_getElem? hl
      have hlb:=hls l hlm
      obtain ⟨s,hs⟩:=get_some hi
      have hs':(st2.map K0)[0+((i:Nat):Int).toNat]? = some (K0 s):=NO hs
      obtain ⟨wi,hwi⟩:∃wi,ws2[i]? = some wi:=get_some (by rw [hF.wlen];exact hi)
      have hsin:=hF.inn s (List.mem_of_getElem? hs)
      have hsnd:=GG _ _ (hF.nd s (List.mem_of_getElem? hs)) hsin
      refine aK ?_
      refine aS (aB ?_)
      (repeat first|refine tM rfl ?_ |(refine s4 rfl ‹_› rfl ?_ ?_;omega) |refine aU rfl ?_ |refine Aa ?_)
      (refine pW rfl ?_ rfl (by rfl);refine N9 1 3 ?_)
      (repeat first|refine sN rfl ?_ |(refine sM rfl ?_ ?_;first|exact tI|omega) |refine t4 rfl ‹_› rfl ?_ |refine aU rfl ?_ |refine Aa ?_)
      refine aB ?_
      refine Aj.BO (α:={m:Nat // m≤s.ns.length}) (fun ⟨m,hm⟩=>[(2,AW g.ls),(3,.o (.fn gN capsN)),(12,.o (.ptr 0 1 0 0)),(13,.o (.ptr 3 1 0 0)),(14,.o (.fn 162 [.ptr 0 1 0 0,.ptr 2 1 0 0,.ptr 3 1 0 0])),(15,eI .i64 i),(33,AW g.ls),(34,eI .i64 g.ls.length),(35,eI .i64 j),(17,eI .i64 l),(18,.o (.arr 5 1 0 ((s.ns.take m).flatMap fun n=>g.succ n l).length)),(43,AW s.ns),(44,eI .i64 s.ns.length),(45,eI .i64 m)]) (fun ⟨m,hm⟩=>DJ g.N gG capsG sen2 4 st2++[(5,.cells 3 1 (((s.ns.take m).flatMap fun n=>g.succ n l).map AU))]) 6 (fun ⟨m,hm⟩=>s.ns.length - m) (⟨0,by omega⟩) [0,1,2,3,4,5] (Hw hΓ rfl rfl) (by (simp[cX,zC,hΓ,DJ,hrG,hrN])) ?_;rintro ⟨m,hm⟩;(try dsimp only)
      (repeat first|refine s2 rfl fun _ _hb=>?_ |refine aU rfl ?_ |refine Aa ?_)
      (refine aC rfl ?_ ?_<;>rintro ⟨⟩)
      · obtain ⟨n,hn⟩:=get_some (l:=s.ns) (k:=m) (by (simp only[oZ] at *;omega))
        have hn':=get_map (g:=CC) hn
        have hnb:=hsin n (List.mem_of_getElem? hn)
        have hfm:(s.ns.take (m+1)).flatMap (fun n=>g.succ n l)=(s.ns.take m).flatMap (fun n=>g.succ n l)++g.succ n l:=by
          rw [List.take_add_one,hn];simp
        have hol:((s.ns.take m).flatMap fun n=>g.succ n l).length≤1099511627776:=by
          have h2:=SD (s.ns.take m) (fun n=>g.succ n l) 1048576 (fun x hx=>by have:=hsl x l (hsin x (List.mem_of_mem_take hx)) hlm;omega)
          have h3:(s.ns.take m).length≤1048576:=by simp;omega
          omega
        have hnx:=hNx n l _ hnb hlm hol
        generalize (s.ns.take m).flatMap (fun n=>g.succ n l)=pre at *
        refine aK ?_
        refine aS (aB ?_)
        (repeat first|refine tM rfl ?_ |(refine s4 rfl ‹_› rfl ?_ ?_;omega) |refine aU rfl ?_ |refine Aa ?_)
        (refine pW rfl ?_ rfl (by rfl);refine Ac [5] rfl rfl hnx ⟨rfl,by decide,by decide⟩ (by rw [Mk,KN,hrN];rfl) (by simp[cX,zC,hΓ]) ?_;rintro x0 σ1 nx1 ⟨rfl,rfl,rfl⟩ _)
        (repeat first|(refine sM rfl ?_ ?_;first|exact tI|omega) |refine aU rfl ?_ |refine Aa ?_)
        refine ⟨⟨m+1,by (simp only[oZ] at *;omega)⟩,by dsimp only;((simp only[oZ] at *;omega)),[0,1,2,3,4,6],?_⟩
        simp[cX,zC,hΓ,DJ,hrG,hrN,Ab.AO,Cd,Hv,hfm]
      · obtain rfl:m=s.ns.length:=by (simp only[oZ] at *;omega)
        rw [List.take_length]
        have hR:∀y,y∈s.ns.flatMap (fun n=>g.succ n l)↔∃n∈s.ns,y∈g.succ n l:=fun y=>List.mem_flatMap
        generalize s.ns.flatMap (fun n=>g.succ n l)=R at *
        have hRin:∀y∈R,0≤y∧y < g.N:=fun y hy=>by
          obtain ⟨n,hn,hy⟩:=(hR y).1 hy
          exact hg.inn n (hsin n hn) l hlm y hy
        have hv:=PL (goal:=g.goal) hF.slen hRin
        have hvis:=OH (TB:=TB) hG hcG hrG sen2 st2 i l R hF.slen hN (by omega) hRin
        generalize hV2:Nl g.goal sen2 R=v2 at *
        refine aE ?_
        refine Aj.freeze [5] [(2,AW g.ls),(3,.o (.fn gN capsN)),(12,.o (.ptr 0 1 0 0)),(13,.o (.ptr 3 1 0 0)),(14,.o (.fn 162 [.ptr 0 1 0 0,.ptr 2 1 0 0,.ptr 3 1 0 0])),(15,eI .i64 i),(33,AW g.ls),(34,eI .i64 g.ls.length),(35,eI .i64 j),(17,eI .i64 l),(18,AW R)] ⟨⟨_,rfl,.Bf⟩,⟨_,rfl,.Bf⟩,⟨_,rfl,.Bf⟩,⟨_,rfl,.Bf⟩,⟨_,rfl,.Bf⟩,⟨_,rfl,.Bf⟩,⟨_,rfl,.Bf⟩,⟨_,rfl,.Bf⟩,⟨_,rfl,.Bf⟩,⟨_,rfl,.Bf⟩,⟨_,rfl,.o (.full (by simp) rfl (by simp [Function.comp_def]) (by simp))⟩,trivial⟩ ?_
        (repeat first|refine tM rfl ?_ |refine aU rfl ?_)
        (refine pW rfl ?_ rfl (by rfl);refine Ac [0,1,2,3,4] rfl rfl hvis ⟨rfl,by decide,by decide⟩ rfl (by simp[cX,zC,hΓ,DJ,hrG,Cd]) ?_;rintro x0 σ1 nx1 ⟨rfl,q,hq,rfl⟩ _)
        obtain ⟨vse,vfr,vfd⟩:=v2
        simp only
        refine Aa ?_
        refine Aj.names [0,1,2,3,if q=4 then 4 else 6] [(2,AW g.ls),(3,.o (.fn gN capsN)),(12,.o (.ptr 0 1 0 0)),(13,.o (.ptr 3 1 0 0)),(14,.o (.fn 162 [.ptr 0 1 0 0,.ptr 2 1 0 0,.ptr 3 1 0 0])),(15,eI .i64 i),(33,AW g.ls),(34,eI .i64 g.ls.length),(35,eI .i64 j),(59,eB vfd)] (DJ g.N gG capsG vse 4 (Dm st2 i l vfr)) (by simp [hΓ]) (by rcases hq with ⟨rfl,rfl⟩|⟨rfl,rfl⟩<;>decide)
          (by rcases hq with ⟨rfl,rfl⟩|⟨rfl,rfl⟩<;>simp[cX,zC,hΓ,hrN]) (by rcases hq with ⟨rfl,rfl⟩|⟨rfl,rfl⟩<;>simp[cX,zC,hΓ,DJ,hrG,Ab.AO,Cd,Hv]) ?_
        (refine aC rfl ?_ ?_<;>rintro ⟨⟩)
        · obtain ⟨x,hx,hgx⟩:∃x∈vfr,g.goal x=true:=by
            have h1:vfr.any g.goal=true:=hv.fd.symm
            exact List.any_eq_true.1 h1
          have hxR:=((hv.fr x).1 hx).1
          obtain ⟨n,hn,hxn⟩:=(hR x).1 hxR
          have hans:=Dr.found hg hF hwi hl hs hn hxn hgx
          have hrr:=Dr.unique hr hans
          subst hrr
          have hne:vfr≠[]:=fun e=>by rw [e] at hx;cases hx
          have hsv:Dm st2 i l vfr=st2++[⟨i,l,vfr⟩]:=by unfold Dm;rw [if_neg hne]
          rw [hsv]
          have hch:=hF.QP.app (ns:=vfr) hwi hlm
          have hpw:=Oe (TB:=TB) hch hls (w:=wi++[l]) (by simp;omega) (by simp [hF.wlen])
          generalize hst3:st2++[⟨(i:Int),l,vfr⟩]=st3 at *
          (repeat first|refine tM rfl ?_|(refine Ag rfl ?_;refine gA rfl ?_;first| refine gQ (MT rfl rfl ((.cons (.o (.full rfl (by simp [Function.comp_def]) (by simp))) .nil)) (hpw) rfl) rfl ?_) |refine aU rfl ?_ |refine Aa ?_)
          refine aR ⟨_,rfl,rfl⟩
        · have hF2:=hF.visit hg hwi hl hs hR hv rfl
          have hlen2:i < (Dm st2 i l vfr).length:=by unfold Dm;split<;>(try simp)<;>omega
          refine aK ?_
          (repeat first|(refine sM rfl ?_ ?_;first|exact tI|omega) |refine aU rfl ?_ |refine Aa ?_)
          refine ⟨⟨(j+1,vse,Dm st2 i l vfr,Zv ws2 (wi++[l]) vfr),hjl,hF2,hlen2⟩,by dsimp only;omega,[0,1,2,3,4],?_⟩
          simp[cX,zC,hΓ,DJ,hrG,hrN]
    · obtain rfl:j=g.ls.length:=by (simp only[oZ] at *;omega)
      have hF2:=hF.X7 hi
      refine aE ?_
      (repeat first|(refine sM rfl ?_ ?_;first|exact tI|omega) |refine aU rfl ?_ |refine Aa ?_)
      refine ⟨⟨(i+1,sen2,st2,ws2),hF2⟩,by dsimp only;omega,[0,1,2,3,4],?_⟩
      simp[cX,zC,hΓ,DJ,hrG,hrN]
  · have hle:=hF.le
    obtain rfl:i=steps.length:=by (simp only[oZ] at *;omega)
    have hans:=Dr.ZQ hg hF
    have hrr:=Dr.unique hr hans
    subst hrr
    refine aE ?_
    (repeat first|refine tM rfl ?_ |refine aU rfl ?_ |refine Aa ?_)
    refine aR ⟨_,rfl,rfl⟩
theorem Ni {a:B6} {q:Nat} (h:q < a.nx.length):(Lu a)[q]? = some (Pw fun l=>C7 a q l):=CE (g:=fun q=>Pw fun l=>C7 a q l) h
theorem KQ {h:Nat→Int} {l:Int} (h0:0≤l) (h1:l < 6):((Pw h).drop (l.toNat*1))[0]? = some (iD (h l.toNat)):=by
  rw [List.getElem?_drop]
  have h2:l.toNat*1+0=l.toNat:=by omega
  have h3:l.toNat < 6:=by omega
  rw [h2]
  simp [Pw,h3]
end Go.Am
namespace Go.Am
open Go
end Go.Am
namespace Go.Am
open Go Go.Proofs
set_option maxHeartbeats 1000000
attribute [local irreducible] AR BZ Lex Bm Aj Spec
variable {TB:Ba}
end Go.Am
namespace Go.Proofs.YtkkihplpglchjaaGreatDoor
open Go Go.Am Go.ChangeShapes Go.WideShapes Go.ChangeAt Go.RowKit
def RQ (l:List Value):List Int:=l.map fun v=>match v with|.int _ n=>n|_=>0
theorem QL {P:Program} {W:World} {name:String} {g:Nat} {t e:TypeId} {n:Nat} {zs:List Int} {fuel:Nat} {cs:Array Value} {p:List MemPlace} (hg:P.globalNamed name=some g) (ht:P.underlying t=some (.array n e)) (he:P.underlying e=some (.int .u8)) (hce:P.cellsOf e=1) (hct:P.cellsOf t=n)
    (hv:W.var? P name=some cs) (hd:DataW.trod (fun _=>()) P W 0 (fun _=>true) false fuel t cs.toList=some (Lib.tabData .u8 zs,p)):∃T fr,W.heap[g]? = some (.cells (zs.map fun z=>Value.int .u8 z).toArray T fr):=by
  have h:=Lib.cells_of_tab ht he hce hct hd
  unfold World.var? at hv
  rw [hg] at hv
  simp only [Option.bind_some] at hv
  split at hv
  · rename_i c T fr hh
    injection hv with hv
    subst hv
    refine ⟨T,fr,?_⟩
    rw [hh,←h]
  · cases hv
theorem tables {W:World} (h:laidMetH Tryz.prog Rows.fnTableRowsRow.laid W):∃tabs:List (Nat×Obj),DT ⟨tabs,none⟩∧∀x∈(⟨tabs,none⟩:Ba),below W x.1∧W.heap[x.1]? = some x.2:=by
  have h:laidMet Tryz.prog Rows.fnTableRowsRow.laid W:=h
  obtain ⟨ps,⟨g0,t0,cs0,f0,p0,q0,hg0,ht0,hv0,hd0,⟨g1,t1,cs1,f1,p1,q1,hg1,ht1,hv1,hd1,_,_⟩,_⟩,_,_⟩:=h
  have k0:Tryz.prog.globalNamed "math/bits.deBruijn32tab" = some 0:=by kernel_rfl
  have k1:Tryz.prog.globalNamed "math/bits.deBruijn64tab" = some 1:=by kernel_rfl
  obtain rfl:=Option.some.inj (k0.symm.trans hg0)
  obtain rfl:=Option.some.inj (k1.symm.trans hg1)
  have l0:(Tryz.prog.globals[0]?).map (·.type)=some 213:=by kernel_rfl
  have l1:(Tryz.prog.globals[1]?).map (·.type)=some 214:=by kernel_rfl
  obtain rfl:=Option.some.inj (l0.symm.trans ht0)
  obtain rfl:=Option.some.inj (l1.symm.trans ht1)
  obtain ⟨T0,fr0,h0⟩:=QL (zs:=RQ BL) k0 Tryz.underlying213 Tryz.underlying5 (by kernel_rfl) (by kernel_rfl) hv0 hd0
  obtain ⟨T1,fr1,h1⟩:=QL (zs:=RQ A7) k1 Tryz.underlying214 Tryz.underlying5 (by kernel_rfl) (by kernel_rfl) hv1 hd1
  refine ⟨[(0,.cells ((RQ BL).map fun z=>Value.int .u8 z).toArray T0 fr0),(1,.cells ((RQ A7).map fun z=>Value.int .u8 z).toArray T1 fr1)],⟨⟨⟨_,_,_,List.mem_cons_self,fun i v hv=>?_⟩,by decide⟩,⟨⟨_,_,_,List.mem_cons_of_mem _ List.mem_cons_self,fun i v hv=>?_⟩,by decide⟩⟩,?_⟩
  · have:BL=(RQ BL).map fun z=>Value.int .u8 z:=rfl
    rw [List.getElem?_toArray,←this];exact hv
  · have:A7=(RQ A7).map fun z=>Value.int .u8 z:=rfl
    rw [List.getElem?_toArray,←this];exact hv
  · intro x hx
    have hx:x∈[_,_]:=hx
    simp only [List.mem_cons,List.not_mem_nil,or_false] at hx
    rcases hx with rfl|rfl
    · exact ⟨(Array.getElem?_eq_some_iff.1 h0).1,h0⟩
    · exact ⟨(Array.getElem?_eq_some_iff.1 h1).1,h1⟩
end Go.Proofs.YtkkihplpglchjaaGreatDoor
namespace Go.Am
open Go
set_option linter.unusedVariables false
theorem NQ {a b:Nat} (ha:a < 2 ^ 62) (hb:b < 2 ^ 62):DC .i64 a b=((a &&& b:Nat):Int):=by
  have h0:a &&& b≤a:=Nat.and_le_left
  unfold DC
  have h1:(BitVec.ofInt IntKind.i64.bits (a:Int) &&& BitVec.ofInt IntKind.i64.bits (b:Int)).toNat=a &&& b:=by
    have e:IntKind.i64.bits=64:=rfl
    rw [e]
    simp only [BitVec.toNat_and,BitVec.ofInt_natCast,BitVec.toNat_ofNat]
    rw [Nat.mod_eq_of_lt (by omega),Nat.mod_eq_of_lt (by omega)]
  rw [h1]
  exact IntWalk.i64_in _ (by omega)
theorem SB (s n:Nat):((s:Nat):Int).fdiv (2 ^ n)=((s / 2 ^ n:Nat):Int):=by
  have h:(0:Int)≤2 ^ n:=Int.le_of_lt (Int.pow_pos (by omega))
  rw [Int.fdiv_eq_ediv_of_nonneg _ h]
  push_cast
  rfl
theorem HD {s n:Nat} (hs:s < 2 ^ 62) (hn:n < 64):DK (s:Nat) n=s.testBit n:=by
  unfold DK
  have e:min n 64=n:=by omega
  rw [e,SB]
  have h1:s / 2 ^ n≤s:=Nat.div_le_self _ _
  have h2:=NQ (a:=s / 2 ^ n) (b:=1) (by omega) (by omega)
  rw [show ((1:Nat):Int)=1 from rfl] at h2
  rw [h2,Nat.testBit_eq_decide_div_mod_eq,Nat.and_one_is_mod]
  congr 1
  rw [eq_iff_iff]
  omega
theorem VE {s a:Nat}:s &&& a=s↔∀n,s.testBit n=true→a.testBit n=true:=by
  constructor
  · intro h n hn
    have:=congrArg (·.testBit n) h
    simp only [Nat.testBit_and,hn,Bool.true_and] at this
    exact this
  · intro h
    apply Nat.eq_of_testBit_eq
    intro n
    rw [Nat.testBit_and]
    cases hs:s.testBit n
    · rfl
    · rw [h n hs];rfl
abbrev Wd:=List UInt8
def Et (c:UInt8):Bool:=decide (97≤c.toNat∧c.toNat < 103)
def Er (w:Wd):Bool:=decide (w.length≤50000) && w.all Et
def Hr (w:Wd):Nat:=w.foldl (fun s c=>s ||| 2 ^ (c.toNat - 97)) 0
def Hi (al:Int) (c:UInt8):Bool:=Et c && DK al (c.toNat - 97)
def within (w:Wd) (al:Int):Bool:=decide (w.length≤50000) && (Bq al && w.all (Hi al))
theorem NL (n:Nat):∀(w:Wd) (s:Nat),(w.foldl (fun s c=>s ||| 2 ^ (c.toNat - 97)) s).testBit n=(s.testBit n || w.any fun c=>decide (c.toNat - 97=n))
  | [],s=>by simp
  | c::w,s=>by
    rw [List.foldl_cons,NL n w,Nat.testBit_or,Nat.testBit_two_pow,List.any_cons,Bool.or_assoc]
theorem Oz (w:Wd) (n:Nat):(Hr w).testBit n=w.any fun c=>decide (c.toNat - 97=n):=by
  unfold Hr;rw [NL];simp
theorem Nc:∀ {w:Wd} {s:Nat},w.all Et=true→s < 64→w.foldl (fun s c=>s ||| 2 ^ (c.toNat - 97)) s < 64
  | [],s,_,hs=>hs
  | c::w,s,h,hs=>by
    simp only [List.all_cons,Bool.and_eq_true] at h
    rw [List.foldl_cons]
    refine Nc h.2 ?_
    have h1:=h.1
    unfold Et at h1
    simp only [decide_eq_true_eq] at h1
    have h2:2 ^ (c.toNat - 97) < 2 ^ 6:=Nat.pow_lt_pow_right (by omega) (by omega)
    exact Nat.or_lt_two_pow (n:=6) hs h2
theorem Vy {w:Wd} {al:Int} (hw:w.all Et=true) (ha:Bq al=true):decide (DC .i64 (Hr w:Nat) al=(Hr w:Nat))=w.all (Hi al):=by
  have hs:Hr w < 64:=Nc hw (by omega)
  unfold Bq at ha
  simp only [decide_eq_true_eq] at ha
  obtain ⟨a,rfl⟩:∃a:Nat,al=a:=⟨al.toNat,by omega⟩
  rw [NQ (by omega) (by omega)]
  rw [Bool.eq_iff_iff,decide_eq_true_eq,List.all_eq_true]
  have h1:((Hr w &&& a:Nat):Int)=(Hr w:Nat)↔Hr w &&& a=Hr w:=by omega
  rw [h1,VE]
  rw [List.all_eq_true] at hw
  constructor
  · intro h c hc
    have h2:=hw c hc
    unfold Hi
    rw [h2,Bool.true_and]
    unfold Et at h2
    simp only [decide_eq_true_eq] at h2
    rw [HD (by omega) (by omega)]
    refine h _ ?_
    rw [Oz,List.any_eq_true]
    exact ⟨c,hc,by simp⟩
  · intro h n hn
    rw [Oz,List.any_eq_true] at hn
    obtain ⟨c,hc,hcn⟩:=hn
    simp only [decide_eq_true_eq] at hcn
    have h2:=hw c hc
    have h3:=h c hc
    unfold Hi at h3
    rw [h2,Bool.true_and] at h3
    unfold Et at h2
    simp only [decide_eq_true_eq] at h2
    rw [HD (by omega) (by omega),hcn] at h3
    exact h3
theorem PM {w:Wd} {al:Int} (h:w.all (Hi al)=true):w.all Et=true:=by
  rw [List.all_eq_true] at *
  intro c hc
  have:=h c hc
  unfold Hi at this
  simp only [Bool.and_eq_true] at this
  exact this.1
end Go.Am
