/-
  Nodes of systems together, from the last member on.
-/
import Derived.Test.YtkdilmleinnfiaaGreatDoorPart11
import Derived.Test.YtkdilmleinnfiaaGreatDoorPart9
set_option linter.constructorNameAsVariable false
set_option linter.unusedSectionVars false
set_option linter.unusedSimpArgs false
set_option linter.unusedVariables false
namespace Go.Am
open Go
def Jj:List Int→List (List Int)→List Int
 | _::zs,c::cs=>c.flatMap fun q=>(Jj zs cs).map fun r=>q*AJ zs+r
 | _,_=>[0]
theorem UM:∀ {zs:List Int} {cs:List (List Int)},EJ zs cs→∀out:List Int,FH zs cs out=out.flatMap fun o=>(Jj zs cs).map fun r=>o*AJ zs+r:=by
 intro zs cs h
 induction h with
 | nil=>intro out;simp [FH,Jj,AJ]
 | @cons z c zs cs _ _ _ ih=>
  intro out
  rw [FH,ih,List.flatMap_assoc]
  congr 1
  funext o
  rw [List.flatMap_map,Jj,List.map_flatMap]
  congr 1
  funext q
  rw [List.map_map]
  congr 1
  funext r
  simp only [Function.comp_def,AJ]
  rw [Int.add_mul,Int.mul_assoc];omega
theorem SW{zs:List Int}{cs:List (List Int)}(h:EJ zs cs):FH zs cs [0]=Jj zs cs:=by
 rw [UM h];simp
theorem Jr:∀(zs ws:List Int),AJ (zs++ws)=AJ zs*AJ ws
 | [],ws=>by simp [AJ]
 | z::zs,ws=>by simp [AJ,Jr zs ws,Int.mul_assoc]
theorem Od:∀(zs ws:List Int) (n:Int),(∀w∈ws,0 < w)→BB (zs++ws) n=BB zs (n / AJ ws)++BB ws n
 | [],ws,n,_=>rfl
 | z::zs,ws,n,h=>by
  have hp:=ML h
  simp only [List.cons_append,BB,Od zs ws n h,Jr]
  rw [Int.mul_comm (AJ zs),Int.ediv_ediv_of_nonneg (by omega)]
def Zm(l:List Sys)(node letter:Int):List (List Int):=l.zipWith (fun s q=>B5 s q letter) (BB (l.map (·.st)) node)
theorem X7{l:List Sys}(h:∀s∈l,Gd s=true)(hl:l.length≤3){letter:Int}(h0:0≤letter)(h1:letter < 6)(node:Int):EJ (l.map (·.st)) (Zm l node letter):=by
 have hn:Dl ⟨l,[],[],0,0,0⟩:=⟨h,fun a ha=>(by cases ha),hl,by simp⟩
 have hz:Ae ⟨l,[],[],0,0,0⟩=l.map (·.st):=by simp [Ae]
 have hf:=Ih hn node
 have:=Ic hn hf h0 h1
 rw [hz] at this
 unfold JZ at this
 simpa [Zm] using this
end Go.Am
namespace Go.Am
open Go Go.Proofs
set_option maxHeartbeats 1000000
set_option maxRecDepth 4000
attribute [local irreducible] AY B2 Lex Br Ak Spec
variable {TB:Bw}
theorem Ea{P:Program}{Γ:Ctx}{d:Option Tmp}{ty:TypeId}{pos:String}{af:Array Edge}{g:Option (Nat×Bool)}{f:Env}{σ:Ab}{nx:Nat}{t:TypeId}{x:Operand}{c:D}{cs:List D}{n:Nat}[hl:DM P t false n](hx:ev f x=some (.o (.ip cs)))(hc:cs[0]? = some c):AY P TB Γ ⟨d,.load t x,ty,pos,af,g⟩ f σ nx (.o (.d c)):=by
 cases cs with
 | nil=>cases hc
 | cons a l=>injection hc with hc;subst hc;exact O4 hx
end Go.Am
namespace Go.Am
open Go
structure Ka where
 p:Int
 l:Int
 ns:List Int
structure XQ where
 seen:List Bool
 fresh:List Int
 found:Bool
def sn(seen:List Bool)(n:Int):Bool:=seen.getD n.toNat false
def Pw(goal:Int→Bool)(st:XQ)(n:Int):XQ:=if sn st.seen n then st else ⟨st.seen.set n.toNat true,st.fresh++[n],st.found || goal n⟩
def NT(goal:Int→Bool)(seen:List Bool)(nodes:List Int):XQ:=nodes.foldl (Pw goal) ⟨seen,[],false⟩
theorem Zc{seen:List Bool}{n m:Int}(hn:0≤n∧n.toNat < seen.length)(hm:0≤m):sn (seen.set n.toNat true) m=(sn seen m || decide (m=n)):=by
 unfold sn
 by_cases h:m=n
 ·subst h;simp [List.getD,hn.2]
 ·have:n.toNat≠m.toNat:=by omega
  simp [List.getD,List.getElem?_set_ne this,h]
theorem count_set{seen:List Bool}{k:Nat}(h:seen[k]? = some false):(seen.set k true).count true=seen.count true+1:=by
 induction seen generalizing k with
 | nil=>simp at h
 | cons a l ih=>
  cases k with
  | zero=>simp at h;subst h;simp
  | succ k=>
   have:=ih (k:=k) (by simpa using h)
   simp only [List.set_cons_succ,List.count_cons,this];omega
structure Zk (goal:Int→Bool) (N:Nat) (seen:List Bool) (nodes:List Int) (st:XQ):Prop where
 len:st.seen.length=N
 snI:∀n:Int,0≤n→(sn st.seen n=true↔sn seen n=true∨n∈nodes)
 fr:∀n:Int,n∈st.fresh↔n∈nodes∧sn seen n=false
 nd:st.fresh.Nodup
 fd:st.found=st.fresh.any goal
 cnt:st.seen.count true=seen.count true+st.fresh.length
theorem QJ{goal:Int→Bool}{N:Nat}{seen:List Bool}{nodes:List Int}(hs:seen.length=N)(hn:∀n∈nodes,0≤n∧n < N):Zk goal N seen nodes (NT goal seen nodes):=by
 have key : ∀ (l done:List Int) (st:XQ),(∀n∈l,0≤n∧n < N)→(∀n∈done,0≤n)→Zk goal N seen done st→Zk goal N seen (done++l) (l.foldl (Pw goal) st):=by
  intro l
  induction l with
  | nil=>intro done st _ _ h;simpa using h
  | cons a l ih=>
   intro done st hl hd h
   have ha:=hl a (by simp)
   rw [List.foldl_cons,show done++a::l=(done++[a])++l by simp]
   refine ih (done++[a]) _ (fun n hn=>hl n (by simp [hn])) (fun n hn=>by rcases List.mem_append.1 hn with h1|h1;exact hd n h1;simp at h1;omega) ?_
   have hlen:=h.len
   have hmem:∀n:Int,n∈done++[a]↔n∈done∨n=a:=fun n=>by simp
   unfold Pw
   by_cases hsa:sn st.seen a=true
   ·rw [if_pos hsa]
    have h1:=(h.snI a ha.1).1 hsa
    refine⟨h.len,fun n hn0=>?_,fun n=>?_,h.nd,h.fd,h.cnt⟩
    ·rw [h.snI n hn0,hmem]
     constructor
     ·rintro(h2|h2);exact .inl h2;exact .inr (.inl h2)
     ·rintro(h2|h2|rfl);exact .inl h2;exact .inr h2;exact h1
    ·rw [h.fr n,hmem]
     constructor
     ·rintro⟨h2,h3⟩;exact⟨.inl h2,h3⟩
     ·rintro⟨h2|rfl,h3⟩
      ·exact⟨h2,h3⟩
      ·rcases h1 with h1|h1
       ·rw [h1] at h3;cases h3
       ·exact⟨h1,h3⟩
   ·rw [if_neg hsa]
    have h1:sn seen a=false∧a∉done:=by
     have h2:¬(sn seen a=true∨a∈done):=fun h3=>hsa ((h.snI a ha.1).2 h3)
     exact⟨by simpa using fun h3=>h2 (.inl h3),fun h3=>h2 (.inr h3)⟩
    have hk:st.seen[a.toNat]? = some false:=by
     unfold sn at hsa
     have:a.toNat < st.seen.length:=by omega
     simp [List.getD,this] at hsa
     rw [List.getElem?_eq_getElem this,hsa]
    refine⟨by simpa using h.len,fun n hn0=>?_,fun n=>?_,?_,?_,?_⟩
    ·rw [Zc ⟨ha.1,by omega⟩ hn0,hmem,Bool.or_eq_true,h.snI n hn0];simp;grind
    ·simp only [List.mem_append,List.mem_singleton,h.fr n]
     grind
    ·refine List.nodup_append.2 ⟨h.nd,by simp,fun x hx y hy=>?_⟩
     simp at hy;subst hy
     intro e;subst e
     exact h1.2 ((h.fr x).1 hx).1
    ·simp [List.any_append,h.fd]
    ·rw [count_set hk,h.cnt];simp;omega
 have:=key nodes [] ⟨seen,[],false⟩ hn (by simp) ⟨hs,fun n _=>by simp,fun n=>by simp,.nil,rfl,by simp⟩
 simpa [NT] using this
theorem MF:∀ {a b c:List Int},Pz a b→Pz b c→Pz a c
 | [],_,_,h,_=>h.elim
 | _::_,[],_,h,_=>h.elim
 | _::_,_::_,[],_,h=>h.elim
 | x::a,y::b,z::c,h,k=>by
  simp only [Pz] at *
  rcases h with h|⟨h,h'⟩<;>rcases k with k|⟨k,k'⟩
  ·exact .inl (by omega)
  ·exact .inl (by omega)
  ·exact .inl (by omega)
  ·exact .inr ⟨by omega,MF h' k'⟩
theorem Nt:∀ {a:List Int},¬Pz a a
 | [],h=>h
 | x::a,h=>by rcases h with h|⟨_,h⟩;omega;exact Nt h
theorem Ec{a b c:List Int}(h:slt a b)(k:slt b c):slt a c:=by
 unfold slt at *
 rcases h with h|⟨h,h'⟩<;>rcases k with k|⟨k,k'⟩
 ·exact .inl (by omega)
 ·exact .inl (by omega)
 ·exact .inl (by omega)
 ·exact .inr ⟨by omega,MF h' k'⟩
theorem II{a:List Int}:¬slt a a:=by
 rintro(h|⟨_,h⟩);omega;exact Nt h
theorem Ph(a b:List Int):slt a b∨a=b∨slt b a:=by
 rcases Nat.lt_trichotomy a.length b.length with h|h|h
 ·exact .inl (.inl h)
 ·rcases Nu h with h1|h1|h1
  ·exact .inl (.inr ⟨h,h1⟩)
  ·exact .inr (.inl h1)
  ·exact .inr (.inr (.inr ⟨h.symm,h1⟩))
 ·exact .inr (.inr (.inl h))
theorem RX{a b:List Int}{l m:Int}(h:slt a b):slt (a++[l]) (b++[m]):=by
 rcases h with h|⟨h,h'⟩
 ·exact .inl (by simp;omega)
 ·exact .inr ⟨by simp;omega,(GI h).2 (.inl h')⟩
theorem VL{a:List Int}{l m:Int}(h:l < m):slt (a++[l]) (a++[m]):=.inr ⟨by simp,(GI rfl).2 (.inr ⟨rfl,h⟩)⟩
theorem VN{a b:List Int}{l m:Int}:slt (a++[l]) (b++[m])→slt a b∨a=b∧l < m:=by
 intro h
 rcases Ph a b with h1|h1|h1
 ·exact .inl h1
 ·subst h1
  rcases h with h|⟨h,h'⟩
  ·simp at h
  ·rcases(GI rfl).1 h' with h2|h2
   ·exact absurd h2 Nt
   ·exact .inr h2
 ·exact absurd (Ec h (RX h1)) II
theorem VM{a:List Int}{l:Int}:slt a (a++[l]):=.inl (by simp)
structure FI (g:Gr) (seen:List Bool) (steps:List Ka) (ws:List (List Int)) (i j:Nat):Prop where
 slen:seen.length=g.N
 wlen:ws.length=steps.length
 chain:∀(t:Nat) s,steps[t]? = some s→(s.p = -1∧ws[t]? = some [])∨∃(q:Nat) (w:List Int),s.p=(q:Int)∧q < t∧ws[q]? = some w∧ws[t]? = some (w++[s.l])∧s.l∈g.ls
 rch:∀(t:Nat) s w,steps[t]? = some s→ws[t]? = some w→∀n∈s.ns,reach g w g.s0 n
 ov:∀w∈ws,over g w
 min:∀(t:Nat) s w,steps[t]? = some s→ws[t]? = some w→∀n∈s.ns,∀u,over g u→slt u w→¬reach g u g.s0 n
 ord:ws.Pairwise slt
 par:∀w∈ws,w=[]∨∃(p:Nat) (v:List Int) (l:Int),ws[p]? = some v∧w=v++[l]∧l∈g.ls∧(p < i∨p=i∧∃j',j' < j∧g.ls[j']? = some l)
 snI:∀n:Int,0≤n→(sn seen n=true↔∃s∈steps,n∈s.ns)
 done:∀(t:Nat) s,steps[t]? = some s→∀l,(t < i∧l∈g.ls∨t=i∧∃j',j' < j∧g.ls[j']? = some l)→∀n∈s.ns,∀y∈g.succ n l,sn seen y=true
 nogoal:∀s∈steps,∀n∈s.ns,g.goal n=false
 inn:∀s∈steps,∀n∈s.ns,0≤n∧n < g.N
 start:sn seen g.s0=true
 cnt:steps.length≤seen.count true
 le:i≤steps.length
 nd:∀s∈steps,s.ns.Nodup
theorem FI.ZX{g:Gr}{seen:List Bool}{steps:List Ka}{ws:List (List Int)}{i j:Nat}(h:FI g seen steps ws i j):steps.length≤g.N:=by
 have h1:=h.cnt
 have h2:seen.count true≤seen.length:=List.count_le_length
 rw [h.slen] at h2;omega
theorem FI.XA{g:Gr}(hg:Gj g){seen:List Bool}{steps:List Ka}{ws:List (List Int)}{i j:Nat}(h:FI g seen steps ws i j){wi:List Int}{lj:Int}(hw:ws[i]? = some wi)(hj:g.ls[j]? = some lj) :
 ∀(n:Nat) (u:List Int),u.length=n→over g u→slt u (wi++[lj])→∀x,reach g u g.s0 x→sn seen x=true:=by
 intro n
 induction n with
 | zero=>
  intro u hu _ _ x hx
  have:u=[]:=List.length_eq_zero_iff.1 hu
  subst this
  have hx:g.s0=x:=hx
  rw [←hx];exact h.start
 | succ n ih=>
  intro u hu ho hlt x hx
  have hu0:u≠[]:=fun e=>by subst e;simp at hu
  obtain⟨v,l,rfl⟩:∃v l,u=v++[l]:=⟨u.dropLast,u.getLast hu0,(List.dropLast_concat_getLast hu0).symm⟩
  obtain⟨m,hm,hxm⟩:=C1.1 hx
  obtain⟨hov,hl⟩:=D0.1 ho
  have hms:=ih v (by simpa using hu) hov (Ec VM hlt) m hm
  have hmin:=Cx hg hov hg.s0 hm
  obtain⟨s,hs,hms2⟩:=(h.snI m hmin.1).1 hms
  obtain⟨t,ht⟩:=List.getElem?_of_mem hs
  obtain⟨wt,hwt⟩:∃wt,ws[t]? = some wt:=get_some (by have:=(List.getElem?_eq_some_iff.1 ht).1;rw [h.wlen];exact this)
  have hle:¬slt v wt:=fun h1=>h.min t s wt ht hwt m hms2 v hov h1 hm
  have hvi:=VN hlt
  have hti:t≤i:=by
   rcases Nat.lt_or_ge i t with h1|h1
   ·exfalso
    obtain⟨a1,a2⟩:=List.getElem?_eq_some_iff.1 hw
    obtain⟨b1,b2⟩:=List.getElem?_eq_some_iff.1 hwt
    have h2:=(List.pairwise_iff_getElem.1 h.ord) i t a1 b1 h1
    rw [a2,b2] at h2
    rcases Ph v wt with h3|h3|h3
    ·exact hle h3
    ·subst h3
     rcases hvi with h4|⟨h4,_⟩
     ·exact II (Ec h2 h4)
     ·subst h4;exact II h2
    ·rcases hvi with h4|⟨h4,_⟩
     ·exact II (Ec (Ec h2 h3) h4)
     ·subst h4;exact II (Ec h2 h3)
   ·exact h1
  refine h.done t s ht l ?_ m hms2 x hxm
  rcases Nat.lt_or_ge t i with h1|h1
  ·exact .inl ⟨h1,hl⟩
  ·have:t=i:=by omega
   subst this
   rw [hw] at hwt
   injection hwt with hwt
   subst hwt
   rcases hvi with h4|⟨h4,h5⟩
   ·exact absurd h4 hle
   ·obtain⟨j',hj'⟩:=List.getElem?_of_mem hl
    exact .inr ⟨rfl,j',Uu hg.srt hj' hj h5,hj'⟩
theorem BL.found{g:Gr}(hg:Gj g){seen:List Bool}{steps:List Ka}{ws:List (List Int)}{i j:Nat}(h:FI g seen steps ws i j){wi:List Int}{lj:Int}(hw:ws[i]? = some wi)(hj:g.ls[j]? = some lj){n x:Int}{s:Ka}(hs:steps[i]? = some s)(hn:n∈s.ns)(hx:x∈g.succ n lj)(hgx:g.goal x=true):BL g (some (wi++[lj])):=by
 have hl:=List.mem_of_getElem? hj
 refine⟨D0.2 ⟨h.ov wi (List.mem_of_getElem? hw),hl⟩,⟨x,C1.2 ⟨n,h.rch i s wi hs hw n hn,hx⟩,hgx⟩,fun u hu hh hlt=>?_⟩
 obtain⟨y,hy,hgy⟩:=hh
 have hys:=h.XA hg hw hj u.length u rfl hu hlt y hy
 obtain⟨s',hs',hy'⟩:=(h.snI y (Cx hg hu hg.s0 hy).1).1 hys
 rw [h.nogoal s' hs' y hy'] at hgy;cases hgy
theorem BL.c7{g:Gr}(hg:Gj g){seen:List Bool}{steps:List Ka}{ws:List (List Int)}(h:FI g seen steps ws steps.length 0):BL g none:=by
 have key:∀(n:Nat) (u:List Int),u.length=n→over g u→∀x,reach g u g.s0 x→sn seen x=true:=by
  intro n
  induction n with
  | zero=>
   intro u hu _ x hx
   have:u=[]:=List.length_eq_zero_iff.1 hu
   subst this
   have hx:g.s0=x:=hx
   rw [←hx];exact h.start
  | succ n ih=>
   intro u hu ho x hx
   have hu0:u≠[]:=fun e=>by subst e;simp at hu
   obtain⟨v,l,rfl⟩:∃v l,u=v++[l]:=⟨u.dropLast,u.getLast hu0,(List.dropLast_concat_getLast hu0).symm⟩
   obtain⟨m,hm,hxm⟩:=C1.1 hx
   obtain⟨hov,hl⟩:=D0.1 ho
   have hms:=ih v (by simpa using hu) hov m hm
   obtain⟨s,hs,hms2⟩:=(h.snI m (Cx hg hov hg.s0 hm).1).1 hms
   obtain⟨t,ht⟩:=List.getElem?_of_mem hs
   exact h.done t s ht l (.inl ⟨(List.getElem?_eq_some_iff.1 ht).1,hl⟩) m hms2 x hxm
 rintro u hu ⟨x,hx,hgx⟩
 have hxs:=key u.length u rfl hu x hx
 obtain⟨s,hs,hxs2⟩:=(h.snI x (Cx hg hu hg.s0 hx).1).1 hxs
 rw [h.nogoal s hs x hxs2] at hgx;cases hgx
theorem FI.ab{g:Gr}{seen:List Bool}{steps:List Ka}{ws:List (List Int)}{i:Nat}(h:FI g seen steps ws i g.ls.length)(hi:i < steps.length):FI g seen steps ws (i+1) 0:=by
 refine⟨h.slen,h.wlen,h.chain,h.rch,h.ov,h.min,h.ord,fun w hw=>?_,h.snI,fun t s hs l hl=>?_,h.nogoal,h.inn,h.start,h.cnt,by omega,h.nd⟩
 ·rcases h.par w hw with h1|⟨p,v,l,h1,h2,h3,h4⟩
  ·exact .inl h1
  ·exact .inr ⟨p,v,l,h1,h2,h3,.inl (by rcases h4 with h4|⟨h4,_⟩<;>omega)⟩
 ·refine h.done t s hs l ?_
  rcases hl with ⟨h1,h2⟩|⟨_,j',h1,_⟩
  ·rcases Nat.lt_or_ge t i with h3|h3
   ·exact .inl ⟨h3,h2⟩
   ·obtain⟨j',hj'⟩:=List.getElem?_of_mem h2
    exact .inr ⟨by omega,j',(List.getElem?_eq_some_iff.1 hj').1,hj'⟩
  ·omega
def Di(steps:List Ka)(p l:Int)(fresh:List Int):List Ka:=if fresh=[] then steps else steps++[⟨p,l,fresh⟩]
def cC(ws:List (List Int))(w fresh:List Int):List (List Int):=if fresh=[] then ws else ws++[w]
structure Chain (ls:List Int) (steps:List Ka) (ws:List (List Int)):Prop where
 wlen:ws.length=steps.length
 chain:∀(t:Nat) s,steps[t]? = some s→(s.p = -1∧ws[t]? = some [])∨∃(q:Nat) (w:List Int),s.p=(q:Int)∧q < t∧ws[q]? = some w∧ws[t]? = some (w++[s.l])∧s.l∈ls
theorem EA{α:Type}{l:List α}{x y:α}{t:Nat}(h:(l++[x])[t]? = some y):l[t]? = some y∨t=l.length∧y=x:=by
 rcases Nat.lt_or_ge t l.length with h1|h1
 ·rw [List.getElem?_append_left h1] at h;exact .inl h
 ·rw [List.getElem?_append_right h1] at h
  have h2:=(List.getElem?_eq_some_iff.1 h).1
  simp at h2
  have:t=l.length:=by omega
  subst this
  simp at h
  exact .inr ⟨rfl,h.symm⟩
theorem GX{α:Type}{l:List α}{x y:α}{t:Nat}(h:l[t]? = some y):(l++[x])[t]? = some y:=by
 rw [List.getElem?_append_left (List.getElem?_eq_some_iff.1 h).1];exact h
theorem Chain.app{ls:List Int}{steps:List Ka}{ws:List (List Int)}(h:Chain ls steps ws){i:Nat}{wi:List Int}{l:Int}{ns:List Int}(hw:ws[i]? = some wi)(hl:l∈ls):Chain ls (steps++[⟨i,l,ns⟩]) (ws++[wi++[l]]):=by
 have hi:=(List.getElem?_eq_some_iff.1 hw).1
 refine⟨by simp [h.wlen],fun t s hs=>?_⟩
 rcases EA hs with h1|⟨h1,h2⟩
 ·rcases h.chain t s h1 with ⟨h2,h3⟩|⟨q,w,h2,h3,h4,h5,h6⟩
  ·exact .inl ⟨h2,GX h3⟩
  ·exact .inr ⟨q,w,h2,h3,GX h4,GX h5,h6⟩
 ·subst h2
  refine .inr ⟨i,wi,rfl,?_,GX hw,?_,hl⟩
  ·rw [h1,←h.wlen];exact hi
  ·rw [h1,←h.wlen];simp
theorem FI.Sf{g:Gr}{seen:List Bool}{steps:List Ka}{ws:List (List Int)}{i j:Nat}(h:FI g seen steps ws i j):Chain g.ls steps ws:=⟨h.wlen,h.chain⟩
theorem FI.visit{g:Gr}(hg:Gj g){seen:List Bool}{steps:List Ka}{ws:List (List Int)}{i j:Nat}(h:FI g seen steps ws i j){wi:List Int}{lj:Int}(hw:ws[i]? = some wi)(hj:g.ls[j]? = some lj){s:Ka}(hs:steps[i]? = some s)
 {R:List Int} (hR:∀y,y∈R↔∃n∈s.ns,y∈g.succ n lj) {st:XQ} (hv:Zk g.goal g.N seen R st) (hf:st.found=false):FI g st.seen (Di steps i lj st.fresh) (cC ws (wi++[lj]) st.fresh) i (j+1):=by
 have hl:=List.mem_of_getElem? hj
 have hRin:∀y∈R,0≤y∧y < g.N:=fun y hy=>by
  obtain⟨n,hn,hy⟩:=(hR y).1 hy
  exact hg.inn n (h.inn s (List.mem_of_getElem? hs) n hn) lj hl y hy
 have hmono:∀n:Int,0≤n→sn seen n=true→sn st.seen n=true:=fun n hn hx=>(hv.snI n hn).2 (.inl hx)
 have hnog:∀n∈st.fresh,g.goal n=false:=fun n hn=>by
  have:=hv.fd
  rw [hf] at this
  have h2:=List.any_eq_false.1 this.symm n hn
  simpa using h2
 have hpar:∀w∈ws,w=[]∨∃(p:Nat) (v:List Int) (l:Int),ws[p]? = some v∧w=v++[l]∧l∈g.ls∧(p < i∨p=i∧∃j',j' < j+1∧g.ls[j']? = some l):=fun w hw=>by
  rcases h.par w hw with h1|⟨p,v,l,h1,h2,h3,h4⟩
  ·exact .inl h1
  ·refine .inr ⟨p,v,l,h1,h2,h3,?_⟩
   rcases h4 with h4|⟨h4,j',h5,h6⟩
   ·exact .inl h4
   ·exact .inr ⟨h4,j',by omega,h6⟩
 have hdone:∀(t:Nat) s',steps[t]? = some s'→∀l,(t < i∧l∈g.ls∨t=i∧∃j',j' < j+1∧g.ls[j']? = some l)→∀n∈s'.ns,∀y∈g.succ n l,sn st.seen y=true:=by
  intro t s' hs' l hl' n hn y hy
  have hyin:0≤y∧y < g.N:=by
   refine hg.inn n (h.inn s' (List.mem_of_getElem? hs') n hn) l ?_ y hy
   rcases hl' with ⟨_,h1⟩|⟨_,j',_,h1⟩
   ·exact h1
   ·exact List.mem_of_getElem? h1
  rcases hl' with h1|⟨h1,j',h2,h3⟩
  ·exact hmono y hyin.1 (h.done t s' hs' l (.inl h1) n hn y hy)
  ·subst h1
   rcases Nat.lt_succ_iff_lt_or_eq.1 h2 with h4|h4
   ·exact hmono y hyin.1 (h.done t s' hs' l (.inr ⟨rfl,j',h4,h3⟩) n hn y hy)
   ·subst h4
    rw [hj] at h3
    injection h3 with h3
    subst h3
    rw [hs] at hs'
    injection hs' with hs'
    subst hs'
    exact(hv.snI y hyin.1).2 (.inr ((hR y).2 ⟨n,hn,hy⟩))
 unfold Di cC
 by_cases hfr:st.fresh=[]
 ·rw [if_pos hfr,if_pos hfr]
  have hsame:∀n:Int,0≤n→(sn st.seen n=true↔sn seen n=true):=fun n hn=>by
   rw [hv.snI n hn]
   refine⟨fun h1=>?_,.inl⟩
   rcases h1 with h1|h1
   ·exact h1
   ·rcases Bool.eq_false_or_eq_true (sn seen n) with h2|h2
    ·exact h2
    ·have:=(hv.fr n).2 ⟨h1,h2⟩
     rw [hfr] at this;cases this
  refine⟨hv.len,h.wlen,h.chain,h.rch,h.ov,h.min,h.ord,hpar,fun n hn=>by rw [hsame n hn];exact h.snI n hn,hdone,h.nogoal,h.inn,hmono _ hg.s0.1 h.start,?_,h.le,h.nd⟩
  rw [hv.cnt,hfr];exact h.cnt
 ·rw [if_neg hfr,if_neg hfr]
  have hch:=h.Sf.app (ns:=st.fresh) hw hl
  have hnew:∀n∈st.fresh,n∈R∧sn seen n=false:=fun n hn=>(hv.fr n).1 hn
  have hbig:∀w∈ws,slt w (wi++[lj]):=by
   intro w hww
   rcases h.par w hww with rfl|⟨p,v,l,h1,rfl,h3,h4⟩
   ·exact .inl (by simp)
   ·rcases h4 with h4|⟨h4,j',h5,h6⟩
    ·obtain⟨a1,a2⟩:=List.getElem?_eq_some_iff.1 h1
     obtain⟨b1,b2⟩:=List.getElem?_eq_some_iff.1 hw
     have h7:=(List.pairwise_iff_getElem.1 h.ord) p i a1 b1 h4
     rw [a2,b2] at h7
     exact RX h7
    ·subst h4
     rw [hw] at h1
     injection h1 with h1
     subst h1
     obtain⟨a1,a2⟩:=List.getElem?_eq_some_iff.1 h6
     obtain⟨b1,b2⟩:=List.getElem?_eq_some_iff.1 hj
     have h7:=(List.pairwise_iff_getElem.1 hg.srt) j' j a1 b1 h5
     rw [a2,b2] at h7
     exact VL h7
  have hmemR:∀n∈st.fresh,∃m∈s.ns,n∈g.succ m lj:=fun n hn=>(hR n).1 (hnew n hn).1
  refine⟨hv.len,hch.wlen,hch.chain,fun t s' w hs' hw' n hn=>?_,fun w hww=>?_,fun t s' w hs' hw' n hn u hu hlt hr=>?_,?_,fun w hww=>?_,fun n hn=>?_,fun t s' hs' l hl' n hn y hy=>?_,fun s' hs' n hn=>?_,fun s' hs' n hn=>?_,hmono _ hg.s0.1 h.start,?_,?_,fun s' hs'=>?_⟩
  ·rcases EA hs' with h1|⟨h1,h2⟩
   ·rcases EA hw' with h3|⟨h3,h4⟩
    ·exact h.rch t s' w h1 h3 n hn
    ·have:=(List.getElem?_eq_some_iff.1 h1).1
     rw [h.wlen] at h3;omega
   ·subst h2
    rcases EA hw' with h3|⟨h3,h4⟩
    ·have:=(List.getElem?_eq_some_iff.1 h3).1
     rw [h.wlen] at this;omega
    ·subst h4
     obtain⟨m,hm,hnm⟩:=hmemR n hn
     exact C1.2 ⟨m,h.rch i s wi hs hw m hm,hnm⟩
  ·rcases List.mem_append.1 hww with h1|h1
   ·exact h.ov w h1
   ·simp at h1;subst h1
    exact D0.2 ⟨h.ov wi (List.mem_of_getElem? hw),hl⟩
  ·rcases EA hs' with h1|⟨h1,h2⟩
   ·rcases EA hw' with h3|⟨h3,h4⟩
    ·exact h.min t s' w h1 h3 n hn u hu hlt hr
    ·have:=(List.getElem?_eq_some_iff.1 h1).1
     rw [h.wlen] at h3;omega
   ·subst h2
    rcases EA hw' with h3|⟨h3,h4⟩
    ·have:=(List.getElem?_eq_some_iff.1 h3).1
     rw [h.wlen] at this;omega
    ·subst h4
     have:=h.XA hg hw hj u.length u rfl hu hlt n hr
     rw [(hnew n hn).2] at this;cases this
  ·refine List.pairwise_append.2 ⟨h.ord,by simp,fun a ha b hb=>?_⟩
   simp at hb;subst hb
   exact hbig a ha
  ·rcases List.mem_append.1 hww with h1|h1
   ·rcases hpar w h1 with h2|⟨p,v,l,h2,h3,h4,h5⟩
    ·exact .inl h2
    ·exact .inr ⟨p,v,l,GX h2,h3,h4,h5⟩
   ·simp at h1;subst h1
    exact .inr ⟨i,wi,lj,GX hw,rfl,hl,.inr ⟨rfl,j,by omega,hj⟩⟩
  ·rw [hv.snI n hn,h.snI n hn]
   constructor
   ·rintro(⟨s',hs',hns⟩|hnR)
    ·exact⟨s',List.mem_append_left _ hs',hns⟩
    ·rcases Bool.eq_false_or_eq_true (sn seen n) with h2|h2
     ·obtain⟨s',hs',hns⟩:=(h.snI n hn).1 h2
      exact⟨s',List.mem_append_left _ hs',hns⟩
     ·exact⟨⟨i,lj,st.fresh⟩,List.mem_append_right _ (by simp),(hv.fr n).2 ⟨hnR,h2⟩⟩
   ·rintro⟨s',hs',hns⟩
    rcases List.mem_append.1 hs' with h1|h1
    ·exact .inl ⟨s',h1,hns⟩
    ·simp at h1;subst h1
     exact .inr (hnew n hns).1
  ·rcases EA hs' with h1|⟨h1,h2⟩
   ·exact hdone t s' h1 l hl' n hn y hy
   ·have:=(List.getElem?_eq_some_iff.1 hs).1
    rcases hl' with ⟨h3,_⟩|⟨h3,_⟩<;>omega
  ·rcases List.mem_append.1 hs' with h1|h1
   ·exact h.nogoal s' h1 n hn
   ·simp at h1;subst h1;exact hnog n hn
  ·rcases List.mem_append.1 hs' with h1|h1
   ·exact h.inn s' h1 n hn
   ·simp at h1;subst h1;exact hRin n (hnew n hn).1
  ·have h1:=hv.cnt
   have h2:=h.cnt
   have h3:0 < st.fresh.length:=List.length_pos_iff.2 hfr
   simp;omega
  ·have:=h.le;simp;omega
  ·rcases List.mem_append.1 hs' with h1|h1
   ·exact h.nd s' h1
   ·simp at h1;subst h1;exact hv.nd
theorem FI.init{g:Gr}(hg:Gj g){st:XQ}(hv:Zk g.goal g.N (List.replicate g.N false) [g.s0] st)(hf:st.found=false):st.fresh=[g.s0]∧FI g st.seen [⟨-1,0,[g.s0]⟩] [[]] 0 0:=by
 have hno:∀n,sn (List.replicate g.N false) n=false:=fun n=>by
  unfold sn
  by_cases h:n.toNat < g.N<;>simp [List.getD,h]
 have hmem:∀n,n∈st.fresh↔n=g.s0:=fun n=>by rw [hv.fr n];simp [hno]
 have hfr:st.fresh=[g.s0]:=by
  have h1:=hv.nd
  generalize st.fresh=l at hmem h1
  cases l with
  | nil=>have:=(hmem g.s0).2 rfl;cases this
  | cons a l=>
   have ha:=(hmem a).1 (by simp)
   subst ha
   cases l with
   | nil=>rfl
   | cons b l=>
    have hb:=(hmem b).1 (by simp)
    subst hb
    simp at h1
 refine⟨hfr,?_⟩
 have hng:g.goal g.s0=false:=by
  have:=hv.fd
  rw [hf,hfr] at this
  simpa using this.symm
 have one:∀(t:Nat) (s:Ka),[(⟨-1,0,[g.s0]⟩:Ka)][t]? = some s→t=0∧s=⟨-1,0,[g.s0]⟩:=fun t s h=>by
  cases t with
  | zero=>simp at h;exact⟨rfl,h.symm⟩
  | succ t=>simp at h
 have one':∀(t:Nat) (w:List Int),[([]:List Int)][t]? = some w→w=[]:=fun t w h=>by
  cases t with
  | zero=>exact(Option.some.inj h).symm
  | succ t=>simp at h
 refine⟨hv.len,rfl,fun t s hs=>?_,fun t s w hs hw n hn=>?_,fun w hw=>?_,fun t s w hs hw n hn u _ hlt=>?_,by simp,fun w hw=>by simp at hw;exact .inl hw,fun n hn=>?_,fun t s hs l hl n hn y hy=>?_,fun s hs n hn=>?_,fun s hs n hn=>?_,?_,?_,by simp,fun s hs=>?_⟩
 ·obtain⟨rfl,rfl⟩:=one t s hs;exact .inl ⟨rfl,rfl⟩
 ·obtain⟨rfl,rfl⟩:=one t s hs
  have:=one' 0 w hw
  subst this
  simp at hn;subst hn;exact(rfl:g.s0=g.s0)
 ·simp at hw;subst hw;exact fun l hl=>(by cases hl)
 ·have:=one' t w hw
  subst this
  rcases hlt with h1|⟨_,h1⟩
  ·simp at h1
  ·cases u<;>exact h1.elim
 ·rw [hv.snI n hn];simp [hno]
 ·rcases hl with ⟨h1,_⟩|⟨_,j',h1,_⟩<;>omega
 ·simp at hs;subst hs;simp at hn;subst hn;exact hng
 ·simp at hs;subst hs;simp at hn;subst hn;exact hg.s0
 ·exact(hv.snI _ hg.s0.1).2 (.inr (by simp))
 ·rw [hv.cnt,hfr];simp
 ·simp at hs;subst hs;simp
theorem BL.start{g:Gr}(h:g.goal g.s0=true):BL g (some []):=
 ⟨fun l hl=>(by cases hl),⟨g.s0,rfl,h⟩,fun u _ _ hlt=>by rcases hlt with h1|⟨_,h1⟩;(simp at h1);(cases u<;>exact h1.elim)⟩
end Go.Am
namespace Go.Am
open Go Go.Proofs
set_option maxHeartbeats 1000000
set_option maxRecDepth 4000
attribute [local irreducible] AY B2 Lex Br Ak Spec
variable {TB:Bw}
def Df(bs:List UInt8)(k i:Nat):UInt8:=if i < k∨bs.length≤i+k then bs.getD (bs.length - 1 - i) 0 else bs.getD i 0
theorem Y9(bs:List UInt8):(Bn bs.length fun i=>Ek (Df bs 0 i))=bs.map Ek:=by
 apply List.ext_getElem?
 intro i
 by_cases hi:i < bs.length
 ·rw [CE (g:=fun i=>Ek (Df bs 0 i)) hi]
  unfold Df
  rw [if_neg (by omega)]
  simp [List.getD,hi]
 ·rw [List.getElem?_eq_none (by simp [Bn];omega),List.getElem?_eq_none (by simp;omega)]
theorem VF(bs:List UInt8){k:Nat}(hk:bs.length≤2*k+1):(Bn bs.length fun i=>Ek (Df bs k i))=bs.reverse.map Ek:=by
 apply List.ext_getElem?
 intro i
 by_cases hi:i < bs.length
 ·rw [CE (g:=fun i=>Ek (Df bs k i)) hi]
  unfold Df
  have h1:bs.reverse[i]? = some (bs.getD (bs.length - 1 - i) 0):=by
   rw [List.getElem?_reverse hi]
   have:bs.length - 1 - i < bs.length:=by omega
   simp [List.getD,this]
  rw [List.getElem?_map,h1]
  by_cases h2:i < k∨bs.length≤i+k
  ·rw [if_pos h2];rfl
  ·rw [if_neg h2]
   have:bs.length - 1 - i=i:=by omega
   rw [this];rfl
 ·rw [List.getElem?_eq_none (by simp [Bn];omega),List.getElem?_eq_none (by simp;omega)]
theorem Xj(r:Nat→Nat)(l:List UInt8):(l.map Ek).map (C.BA r)=l.map Ek:=by
 rw [List.map_map];exact List.map_congr_left fun c _=>rfl
theorem IF(r:Nat→Nat)(c:UInt8):C.BA r (Ek c)=Ek c:=rfl
theorem Ln(r:Nat→Nat)(n:Nat)(H:Nat→UInt8):(Bn n fun i=>Ek (H i)).map (C.BA r)=Bn n fun i=>Ek (H i):=by
 unfold Bn
 rw [List.map_map]
 exact List.map_congr_left fun i _=>rfl
theorem Il{n q:Nat}{H:Nat→UInt8}(h:q < n):(Bn n fun i=>Ek (H i))[0+((q:Nat):Int).toNat]? = some (Ek (H q)):=by
 rw [Nat.zero_add,Int.toNat_natCast];exact CE (g:=fun i=>Ek (H i)) h
theorem Kv{n q:Nat}{H:Nat→UInt8}{c d:UInt8}:(Bn n fun i=>Ek (H i)).set (0+((q:Nat):Int).toNat) (Ai (Ek d) 0 (eC (eI .u8 (c.toNat:Nat))))=Bn n fun i=>Ek (if i=q then c else H i):=by
 rw [Nat.zero_add,Int.toNat_natCast]
 have e:Ai (Ek d) 0 (eC (eI .u8 (c.toNat:Nat)))=Ek c:=rfl
 rw [e,Ju]
 refine B4 fun i _=>?_
 by_cases h:i=q<;>simp [h]
theorem Qp(bs:List UInt8)(hb:bs.length≤1099511627776):Spec Tryz.prog TB 286 [(0,.cells 5 1 (bs.map Ek))] 1 [.o (.arr 0 1 0 bs.length)] (fun x σ nx=>x=.t []∧nx=1∧σ=[(0,.cells 5 1 (bs.reverse.map Ek))]):=by
 refine eN Tryz.func286 rfl (by kernel_rfl) rfl ?_;intro Γ hΓ
 (repeat first|(refine sM rfl ?_ ?_;first|exact tI|omega) |refine aU rfl ?_ |refine Aa ?_)
 refine aB ?_
 refine Ak.A4 (α:={k:Nat // k≤bs.length}) (fun ⟨k,hk⟩=>[(0,.o (.arr 0 1 0 bs.length)),(2,eI .i64 k),(3,eI .i64 ((bs.length:Int) - 1 - k))]) (fun ⟨k,hk⟩=>[(0,.cells 5 1 (Bn bs.length fun i=>Ek (Df bs k i)))]) 1 (fun ⟨k,hk⟩=>bs.length - k) (⟨0,by omega⟩) [0] (Eb hΓ rfl rfl) (by (simp[cX,zC,hΓ,Ln,Y9,IF])) ?_;rintro⟨k,hk⟩;(try dsimp only)
 (repeat first|refine tM rfl ?_ |refine s2 rfl fun _ _hb=>?_ |refine aU rfl ?_ |refine Aa ?_)
 (refine aC rfl ?_ ?_<;>rintro⟨⟩)
 ·have hlt:2*k+1 < bs.length:=by (simp only[oZ] at *;omega)
  obtain⟨m,hm⟩:∃m:Nat,m=bs.length - 1 - k:=⟨_,rfl⟩
  have e3:(bs.length:Int) - 1 - k=((m:Nat):Int):=by omega
  have hk1:Df bs k k=bs.getD k 0:=by unfold Df;rw [if_neg (by omega)]
  have hm1:Df bs k m=bs.getD m 0:=by unfold Df;rw [if_neg (by omega)]
  have hgk:=Il (H:=Df bs k) (q:=k) (n:=bs.length) (by omega)
  have hgm:=Il (H:=Df bs k) (q:=m) (n:=bs.length) (by omega)
  have hs1:=Kv (n:=bs.length) (q:=k) (H:=Df bs k) (c:=Df bs k m) (d:=Df bs k k)
  have hgm2:=Il (H:=fun i=>if i=k then Df bs k m else Df bs k i) (q:=m) (n:=bs.length) (by omega)
  have hs2:=Kv (n:=bs.length) (q:=m) (H:=fun i=>if i=k then Df bs k m else Df bs k i) (c:=Df bs k k) (d:=Df bs k m)
  have hmk:m≠k:=by omega
  rw [if_neg hmk] at hgm2
  have hc:(Bn bs.length fun i=>Ek (if i=m then Df bs k k else if i=k then Df bs k m else Df bs k i))=Bn bs.length fun i=>Ek (Df bs (k+1) i):=B4 fun i hi=>by
   congr 1
   by_cases h1:i=m
   ·subst h1;rw [if_pos rfl,hk1];unfold Df;rw [if_pos (by omega)];congr 1;omega
   ·rw [if_neg h1]
    by_cases h2:i=k
    ·subst h2;rw [if_pos rfl,hm1];unfold Df;rw [if_pos (by omega)];congr 1
    ·rw [if_neg h2];unfold Df
     by_cases h3:i < k∨bs.length≤i+k
     ·rw [if_pos h3,if_pos (by omega)]
     ·rw [if_neg h3,if_neg (by omega)]
  rw [←hs1] at hgm2
  rw [e3]
  refine aK ?_
  refine aS (aB ?_)
  refine rG (c8 [13,15] [2,3]) (by kernel_rfl) ?_
  (repeat first|(refine sM rfl ?_ ?_;first|exact tI|omega) |refine t4 rfl ‹_› rfl ?_ |refine aU rfl ?_ |refine Aa ?_)
  refine⟨⟨k+1,by omega⟩,by dsimp only;(omega),[0],?_⟩
  rw [hs1,hs2,hc]
  have e4:(m:Int) - 1=bs.length - 1 - (k+1):=by omega
  simp[cX,zC,hΓ,Ln,e4]
 ·have hle:bs.length≤2*k+1:=by (simp only[oZ] at *;omega)
  rw [VF bs hle]
  exact aE ⟨_,rfl,rfl,rfl,rfl⟩
abbrev XK(s:Ka):List D:=[iD s.p,iD s.l,CO s.ns]
abbrev Ls(s:Ka):List C:=[.d (iD s.p),.d (iD s.l),.d (CO s.ns)]
abbrev VP(l:List Ka):D:=.l (l.map XK)
theorem SQ{l:Int}(h0:0≤l)(h1:l < 6):Ek (UInt8.ofNat (97+l.toNat))=[.d (.v (.int .u8 (97+l)))]:=by
 have h2:(97+l.toNat) % 256=97+l.toNat:=Nat.mod_eq_of_lt (by omega)
 have h3:(97+l:Int)=((97+l.toNat:Nat):Int):=by omega
 simp [Ek,h2,h3]
theorem Xx(o:List Int):(CK o).reverse=CK o.reverse:=by simp [CK]
theorem O0{ls:List Int}{steps:List Ka}{ws:List (List Int)}(h:Chain ls steps ws)(hls:∀l∈ls,0≤l∧l < 6){w:List Int}(hlen:1≤steps.length∧steps.length≤2097152)(hw:ws[steps.length - 1]? = some w):Pure Tryz.prog TB 238 [.o (.d (VP steps))] (eT (CK w)):=by
 refine eN Tryz.func238 rfl (by kernel_rfl) rfl ?_;intro Γ hΓ
 (repeat first|refine tM rfl ?_ |refine aU rfl ?_ |refine Aa ?_)
 (refine pW rfl ?_ rfl (by rfl);refine Iw 1 5 ?_)
 (repeat first|refine sN rfl ?_ |(refine sM rfl ?_ ?_;first|exact tI|omega) |refine aU rfl ?_ |refine Aa ?_)
 refine aB ?_
 refine Ak.A4 (α:={x:Nat×List Int // x.1+x.2.length < steps.length∧∃v,ws[x.1]? = some v∧w=v++x.2.reverse}) (fun ⟨⟨i,o⟩,hP⟩=>[(0,.o (.d (VP steps))),(3,.o (.arr 0 1 0 o.length)),(4,eI .i64 i)]) (fun ⟨⟨i,o⟩,hP⟩=>[(0,.cells 5 1 ((CK o).map Ek))]) 1 (fun ⟨⟨i,o⟩,hP⟩=>i) (⟨(steps.length - 1,[]),by simp;omega,w,hw,by simp⟩) [0] (Eb hΓ rfl rfl) (by (simp[cX,zC,hΓ,CK,Int.ofNat_sub,hlen.1])) ?_;rintro⟨⟨i,o⟩,hP⟩;(try dsimp only)
 obtain⟨hi,v,hv,hwv⟩:=hP
 simp only at hi hv hwv
 obtain⟨s,hs⟩:=get_some (l:=steps) (k:=i) (by omega)
 have hs':=get_map (g:=XK) hs
 have hch:=h.chain i s hs
 have htl:(CK o).length=o.length:=by simp [CK]
 (repeat first|refine tM rfl ?_ |(refine s4 rfl ‹_› rfl ?_ ?_;omega) |refine s2 rfl fun _ _hb=>?_ |refine aU rfl ?_ |refine Aa ?_)
 (refine aC rfl ?_ ?_<;>rintro⟨⟩)
 ·obtain⟨q,u,hq,hqi,hqu,hu,hl⟩:∃(q:Nat) (u:List Int),s.p=(q:Int)∧q < i∧ws[q]? = some u∧ws[i]? = some (u++[s.l])∧s.l∈ls:=by
   rcases hch with ⟨h1,_⟩|h1
   ·exfalso;(simp only[oZ] at *;omega)
   ·exact h1
  have hlb:=hls _ hl
  rw [hv] at hu
  injection hu with hu
  have hby:=SQ hlb.1 hlb.2
  have htx:CK (o++[s.l])=CK o++[UInt8.ofNat (97+s.l.toNat)]:=by simp [CK]
  have htx2:(CK (o++[s.l])).map Ek=(CK o).map Ek++[[.d (.v (.int .u8 (97+s.l)))]]:=by rw [htx,List.map_append,List.map_cons,hby];rfl
  refine aK ?_
  refine aS (aB ?_)
  (repeat first|refine tA rfl ?_ |(refine s4 rfl ‹_› rfl ?_ ?_;omega) |refine sP rfl (EU s.l hlb.1 (by omega)) rfl ?_ |refine aU rfl ?_)
  (refine pW rfl ?_ rfl (by rfl);refine Aw rfl rfl rfl (by first| (simp;done)|(simp;(omega))) rfl (by intro r hr;simp at hr;subst hr;rfl) (by rfl) (Nat.le_of_ble_eq_true rfl) (by simp;omega) ?_)
  (repeat first|refine tX rfl ?_ |(refine s4 rfl ‹_› rfl ?_ ?_;omega) |refine aU rfl ?_ |refine Aa ?_)
  refine⟨⟨(q,o++[s.l]),by simp;omega,u,hqu,by rw [hwv,hu];simp⟩,by dsimp only;omega,[1],?_⟩
  dsimp only
  rw [htx2]
  simp[cX,zC,hΓ,hq,IF]
 ·have hv0:v=[]:=by
   rcases hch with ⟨_,h1⟩|⟨q,u,h1,_⟩
   ·rw [hv] at h1;injection h1
   ·exfalso;(simp only[oZ] at *;omega)
  subst hv0
  have hwo:w=o.reverse:=by rw [hwv];rfl
  have hrv:=Qp (TB:=TB) (CK o) (by omega)
  rw [htl,Xx,←hwo] at hrv
  refine aE ?_
  (repeat first|refine tM rfl ?_ |refine aU rfl ?_)
  (refine pW rfl ?_ rfl (by rfl);refine AD [0] rfl rfl hrv ⟨rfl,by simp,by simp⟩ rfl (by simp[cX,zC,hΓ,IF]) ?_;rintro x0 σ1 nx1 ⟨rfl,rfl,rfl⟩ _)
  have htw:(CK w).length=o.length:=by rw [hwo];simp [CK]
  (repeat first|refine tM rfl ?_|(refine Ag rfl ?_;refine gA rfl ?_;first| refine gQ (RO (CK w) rfl rfl (by simp;omega) (by rw [List.drop_zero,Xj,List.take_of_length_le (by simp;omega)])) (by rfl) ?_) |refine aU rfl ?_ |refine Aa ?_)
  refine aR ⟨_,rfl,rfl⟩
theorem XS(p:Nat→Prop):(∀i,i < 5→p i)↔p 0∧p 1∧p 2∧p 3∧p 4:=by
 constructor
 ·intro h;exact⟨h 0 (by omega),h 1 (by omega),h 2 (by omega),h 3 (by omega),h 4 (by omega)⟩
 ·rintro⟨h0,h1,h2,h3,h4⟩ i hi
  have:i=0∨i=1∨i=2∨i=3∨i=4:=by omega
  rcases this with rfl|rfl|rfl|rfl|rfl<;>assumption
theorem Wi{goal:Int→Bool}{seen:List Bool}{nodes:List Int}{k:Nat}{x:Int}(h:nodes[k]? = some x):NT goal seen (nodes.take (k+1))=Pw goal (NT goal seen (nodes.take k)) x:=by
 unfold NT;rw [HA h]
theorem Pe{l:List Bool}{n:Int}:(l.map AQ).set (0+n.toNat) (Ai (AQ false) 0 (eC (eB true)))=(l.set n.toNat true).map AQ:=by
 simp [Ai,eC,List.map_set]
abbrev DK(N:Nat)(gG:FuncId)(capsG:List C)(seen:List Bool)(q:Nat)(steps:List Ka):Ab:=
 [(0,.cells 23 1 [[.arr 1 1 0 N]]),(1,.cells 4 1 (seen.map AQ)),(2,.cells 151 1 [[.fn gG capsG]]),(3,.cells 240 1 [[.arr q 3 0 steps.length]]),(q,.cells 242 3 (steps.map Ls))]
theorem Pv{goal:Int→Bool}{gG:FuncId}{capsG:List C}{N:Nat}(hG:∀n:Int,0≤n∧n < N→Pure Tryz.prog TB gG ([eI .i64 n]++capsG.map .o) (eB (goal n)))(hcG:C.Cr capsG=true)(hren:∀r,C.BA r capsG=capsG)
 (seen:List Bool) (steps:List Ka) (p l:Int) (nodes:List Int) (hs:seen.length=N) (hN:N≤1048576) (hst:steps.length≤1048576) (hn:∀n∈nodes,0≤n∧n < N) :
 Spec Tryz.prog TB 237 (DK N gG capsG seen 4 steps) 5 [eI .i64 p,eI .i64 l,Aj nodes,.o (.ptr 0 1 0 0),.o (.ptr 2 1 0 0),.o (.ptr 3 1 0 0)]
  (fun x σ nx=>x=eB (NT goal seen nodes).found∧∃q,(q=4∧nx=5∨q=5∧nx=6)∧σ=DK N gG capsG (NT goal seen nodes).seen q (Di steps p l (NT goal seen nodes).fresh)):=by
 have hvk:∀k,Zk goal N seen (nodes.take k) (NT goal seen (nodes.take k)):=fun k=>QJ hs fun n hn'=>hn n (List.mem_of_mem_take hn')
 refine eN Tryz.func237 rfl (by kernel_rfl) rfl ?_;intro Γ hΓ
 refine Ak.bound 2 rfl fun hB0=>?_
 have hB:=hB0 _ .refl
 rw [List.length_map] at hB
 (repeat first|refine tM rfl ?_ |refine aU rfl ?_ |refine Aa ?_)
 (refine pW rfl ?_ rfl (by rfl);refine Iw 1 3 ?_)
 (repeat first|refine sN rfl ?_ |refine tM rfl ?_ |refine aU rfl ?_ |refine Aa ?_)
 refine aB ?_
 refine Ak.A4 (α:={k:Nat // k≤nodes.length}) (fun ⟨k,hk⟩=>[(0,eI .i64 p),(1,eI .i64 l),(3,.o (.ptr 0 1 0 0)),(4,.o (.ptr 2 1 0 0)),(5,.o (.ptr 3 1 0 0)),(10,.o (.arr 5 1 0 (NT goal seen (nodes.take k)).fresh.length)),(11,eB (NT goal seen (nodes.take k)).found),(14,Aj nodes),(15,eI .i64 nodes.length),(16,eI .i64 k)]) (fun ⟨k,hk⟩=>DK N gG capsG (NT goal seen (nodes.take k)).seen 4 steps++[(5,.cells 3 1 ((NT goal seen (nodes.take k)).fresh.map AB))]) 6 (fun ⟨k,hk⟩=>nodes.length - k) (⟨0,by omega⟩) [0,1,2,3,4,5] (Eb hΓ rfl rfl) (by (simp[cX,zC,hΓ,DK,NT,hren])) ?_;rintro⟨k,hk⟩;(try dsimp only)
 have hv:=hvk k
 have hvs:=fun x=>Wi (goal:=goal) (seen:=seen) (nodes:=nodes) (k:=k) (x:=x)
 generalize hV:NT goal seen (nodes.take k)=v at *
 (repeat first|refine s2 rfl fun _ _hb=>?_ |refine aU rfl ?_ |refine Aa ?_)
 (refine aC rfl ?_ ?_<;>rintro⟨⟩)
 ·obtain⟨x,hx⟩:=get_some (l:=nodes) (k:=k) (by (simp only[oZ] at *;omega))
  have hx':=get_map (g:=Bq) hx
  have hxb:=hn x (List.mem_of_getElem? hx)
  have hvs:=hvs x hx
  have hvl:=hv.len
  obtain⟨b,hb⟩:=get_some (l:=v.seen) (k:=x.toNat) (by omega)
  have hb':(v.seen.map AQ)[0+x.toNat]? = some (AQ b):=by simp [hb]
  have hsb:sn v.seen x=b:=by simp [sn,List.getD,hb]
  have hfl:v.fresh.length≤N:=by
   refine DY _ _ hv.nd fun y hy=>hn y (List.mem_of_mem_take ((hv.fr y).1 hy).1)
  unfold Pw at hvs
  rw [hsb] at hvs
  obtain⟨vse,vfr,vfd⟩:=v
  simp only at hvs hvl hb hb' hfl
  refine aK ?_
  refine aS (aB ?_)
  (repeat first|((first|refine sM rfl ?_ ?_|refine s4 rfl ‹_› rfl ?_ ?_);first|exact tI|omega) |refine s2 rfl fun _ _hb=>?_ |refine aU rfl ?_ |refine Aa ?_)
  (refine aC rfl ?_ ?_<;>rintro⟨⟩)
  ·have hbf:b=false:=by simpa using _hb
   subst hbf
   rw [if_neg (by simp)] at hvs
   (repeat first|(refine sA rfl ?_ ?_;first|exact tI|omega) |refine t4 rfl ‹_› rfl ?_ |refine aU rfl ?_ |refine Aa ?_)
   (refine pW rfl ?_ rfl (by rfl);refine Aw rfl rfl rfl (by first| (simp;done)|(simp;(omega))) rfl (by intro r hr;simp at hr;subst hr;rfl) (by rfl) (Nat.le_of_ble_eq_true rfl) (by simp;omega) ?_)
   (repeat first|(refine sX rfl ?_ ?_;first|exact tI|simp only[oZ] at *;omega) |refine s3 rfl ?_ ?_<;>rintro rfl |refine aU rfl ?_ |refine Aa ?_)
   (repeat first|(refine sC rfl (hG x hxb) ?_;intro _ _hb)|(refine Ag rfl ?_;refine gA rfl ?_;first| refine gQ (RH rfl rfl rfl rfl) (by rfl) ?_))
   ·refine⟨⟨k+1,by (simp only[oZ] at *;omega)⟩,by dsimp only;((simp only[oZ] at *;omega)),[0,1,2,3,4,6],?_⟩
    rw [Pe]
    simp[cX,zC,hΓ,hvs,DK,hren,XS]
   ·(repeat first|(refine sA rfl ?_ ?_;first|exact tI|simp only[oZ] at *;omega)|(refine Ag rfl ?_;refine gA rfl ?_;first| (refine gB (fun _ _=>BE rfl rfl (by simp [E.BK,C.BK,hcG]) (hG x hxb) rfl) ?_;intro _ _hb)) |refine aU rfl ?_ |refine Aa ?_)
    refine⟨⟨k+1,by (simp only[oZ] at *;omega)⟩,by dsimp only;((simp only[oZ] at *;omega)),[0,1,2,3,4,6],?_⟩
    rw [Pe]
    simp[cX,zC,hΓ,hvs,DK,hren,XS,_hb]
  ·have hbt:b=true:=by simpa using _hb
   subst hbt
   rw [if_pos rfl] at hvs
   refine aK ?_
   (repeat first|(refine sM rfl ?_ ?_;first|exact tI|simp only[oZ] at *;omega) |refine aU rfl ?_ |refine Aa ?_)
   refine⟨⟨k+1,by (simp only[oZ] at *;omega)⟩,by dsimp only;((simp only[oZ] at *;omega)),[0,1,2,3,4,5],?_⟩
   simp[cX,zC,hΓ,hvs,DK,hren,XS]
 ·obtain rfl:k=nodes.length:=by (simp only[oZ] at *;omega)
  rw [List.take_length] at hV
  subst hV
  refine aE ?_
  have hfl:(NT goal seen nodes).fresh.length≤N:=by
   have hv:=hvk nodes.length
   rw [List.take_length] at hv
   refine DY _ _ hv.nd fun y hy=>hn y ((hv.fr y).1 hy).1
  generalize NT goal seen nodes=vv at *
  obtain⟨vse,vfr,vfd⟩:=vv
  have hfl:vfr.length≤N:=hfl
  (repeat first|refine tM rfl ?_ |refine s2 rfl fun _ _hb=>?_ |refine aU rfl ?_ |refine Aa ?_)
  (refine aC rfl ?_ ?_<;>rintro⟨⟩)
  ·have hne:vfr≠[]:=fun e=>by rw [e] at _hb;simp at _hb
   refine Ak.freeze [5] [(0,eI .i64 p),(1,eI .i64 l),(5,.o (.ptr 3 1 0 0)),(10,Aj vfr),(11,eB vfd)] ⟨⟨_,rfl,.Bb⟩,⟨_,rfl,.Bb⟩,⟨_,rfl,.Bb⟩,⟨_,rfl,.o (.full (by simp) rfl (by simp [Function.comp_def]) (by simp))⟩,⟨_,rfl,.Bb⟩,trivial⟩ ?_
   (repeat first|refine tA rfl ?_|(refine Ag rfl ?_;refine gA rfl ?_;first| refine gS (fun _ _=>AK rfl rfl (by rfl) (by rfl)) ?_) |refine aU rfl ?_)
   (refine pW rfl ?_ rfl (by rfl);refine Aw rfl rfl rfl (by first| (simp;done)|(simp;(omega))) rfl (by intro r hr;simp at hr;subst hr;rfl) (by rfl) (Nat.le_of_ble_eq_true rfl) (by simp;omega) ?_)
   (repeat first|refine tX rfl ?_ |refine aU rfl ?_ |refine Aa ?_)
   refine Ak.names [0,1,2,3,4,6] [(9,eB vfd)] (DK N gG capsG vse 5 (Di steps p l vfr)) (by rw [hΓ];decide) (by decide) (by simp[cX,zC,hΓ]) (by simp[cX,zC,hΓ,DK,hren,Di,hne,BV,Ai,eC]) ?_
   refine aR ⟨_,rfl,rfl,5,.inr ⟨rfl,rfl⟩,rfl⟩
  ·have hne:vfr=[]:=List.length_eq_zero_iff.1 (by (simp only[oZ] at *;omega))
   subst hne
   refine aK ?_
   (repeat first|refine tM rfl ?_ |refine aU rfl ?_ |refine Aa ?_)
   refine Ak.names [0,1,2,3,4] [(9,eB vfd)] (DK N gG capsG vse 4 steps) (by rw [hΓ];decide) (by decide) (by simp[cX,zC,hΓ]) (by simp[cX,zC,hΓ,DK,hren]) ?_
   refine aR ⟨_,rfl,rfl,4,.inl ⟨rfl,rfl⟩,by simp [Di]⟩
theorem UO{P:Program}{Γ:Ctx}{d:Option Tmp}{ty:TypeId}{pos:String}{af:Array Edge}{g:Option (Nat×Bool)}{f:Env}{σ:Ab}{nx:Nat}{K:E→Ab→Nat→Prop}{T:TypeId}(k e:Nat)[hz:BR P T [.slice none 0 0]]
 (hK:K (.o (.ptr (nx+1) 1 0 0)) ((nx+1,.cells T 1 [[.arr nx k 0 0]])::(nx,.cells e k [])::σ) (nx+2)):B2 P TB Γ ⟨d,.alloc T,ty,pos,af,g⟩ f σ nx K:=
 CQ fun V ρ h1 h2 h3=>by
  subst h3
  obtain⟨i,zv,hi,hzv,hzz⟩:=GU hz.out
  have hzc:zv.cells = #[.slice none 0 0]:=by have:=congrArg List.toArray hzz;simpa using this
  obtain⟨hi2,he2⟩:=h2.alloc (c:=0) (nl:=True) (w:=V.w) (ob:=.cells e k []) rfl rfl rfl rfl (Nat.le_refl _) (fun _ _=>rfl) (.inl ⟨by simp [Au],rfl⟩)
  have hc:Cp (Au V V.w.heap.size 0 True V.w) [.arr V.nx k 0 0] zv.cells:=by
   rw [hzc]
   refine⟨rfl,fun j c v hj hv=>?_⟩
   match j with
   | 0=>simp at hj hv;subst hj hv;exact AI.nil (by simp [Au]) (by simp [Au])
   | j+1=>simp at hj
  obtain⟨hi',he⟩:=Ng hi2 (T:=T) hc
  refine⟨.pointer (some ⟨V.w.heap.size,0,none⟩),_,_,_,?_,he2.trans he,hi',?_,hK⟩
  ·simp [execOp,Instr.alloc,zeroValue,typeInfo,hi,hzv,newVar,newRow,Au,go_sem]
  ·exact Kt
theorem MN(r:Nat→Nat):∀(l m:List E),Dn r (l++m)=Dn r l++Dn r m
 | [],m=>rfl
 | e::l,m=>by simp [Dn,MN r l m]
theorem Ll(r:Nat→Nat):∀(l:List C),Dn r (l.map .o)=(C.BA r l).map .o
 | []=>rfl
 | c::l=>by simp [Dn,C.BA,E.AX,Ll r l]
def TJ(P:Program)(TB:Bw)(T:TypeId)(g:Gr)(gN:FuncId)(capsN:List C):Prop:=
 ∀(node l:Int) (outs:List Int),0≤node∧node < g.N→l∈g.ls→outs.length≤1099511627776→
  Spec P TB gN [(0,.cells T 1 (outs.map AB))] 1 ([eI .i64 node,eI .i64 l,.o (.arr 0 1 0 outs.length)]++capsN.map .o) (fun x σ nx=>x=.o (.arr 1 1 0 (outs++g.succ node l).length)∧nx=2∧σ=[(1,.cells T 1 ((outs++g.succ node l).map AB))])
theorem Nm{g:Gr}(hg:Gj g)(hN:g.N≤1048576)(hls:∀l∈g.ls,0≤l∧l < 6)(hll:g.ls.length≤6)(hsl:∀(node l:Int),0≤node∧node < g.N→l∈g.ls→(g.succ node l).length≤g.N)
 {gN gG:FuncId} {capsN capsG:List C} (hNx:TJ Tryz.prog TB 3 g gN capsN) (hG:∀n:Int,0≤n∧n < g.N→Pure Tryz.prog TB gG ([eI .i64 n]++capsG.map .o) (eB (g.goal n)))
 (hcG:C.Cr capsG=true) (hrG:∀r,C.BA r capsG=capsG) (hrN:∀r,C.BA r capsN=capsN) {r:Option (List Int)} (hr:BL g r) :
 Pure Tryz.prog TB 182 [eI .i64 g.N,Aj [g.s0],Aj g.ls,.o (.fn gN capsN),.o (.fn gG capsG)] (Nk r):=by
 refine eN Tryz.func182 rfl (by kernel_rfl) rfl ?_;intro Γ hΓ
 (repeat first|refine aU rfl ?_)
 (refine pW rfl ?_ rfl (by rfl);refine CG rfl rfl ?_)
 (repeat first|refine tM rfl ?_ |refine aU rfl ?_ |refine Aa ?_)
 (refine pW rfl ?_ rfl (by rfl);refine HI rfl rfl (by rfl) (by rfl) (Nat.le_of_ble_eq_true rfl) (by omega) (by omega) (by omega) ?_)
 iterate 4 (first|refine tM rfl ?_ |refine aU rfl ?_ |refine Aa ?_)
 (refine pW rfl ?_ rfl (by rfl);refine UO 3 242 ?_)
 (repeat first|refine tM rfl ?_ |refine aU rfl ?_ |refine Aa ?_)
 have hv0:=QJ (goal:=g.goal) (N:=g.N) (seen:=List.replicate g.N false) (nodes:=[g.s0]) (by simp) (by intro n hn;simp at hn;subst hn;exact hg.s0)
 have hvis:=Pv (TB:=TB) hG hcG hrG (List.replicate g.N false) [] (-1) 0 [g.s0] (by simp) hN (by simp) (by intro n hn;simp at hn;subst hn;exact hg.s0)
 (refine pW rfl ?_ rfl (by rfl);refine AD [2,1,0,4,3] rfl rfl hvis ⟨rfl,by decide,by decide⟩ rfl (by simp[cX,zC,hΓ,DK,hrG,Ai,eC]) ?_;rintro x0 σ1 nx1 ⟨rfl,q,hq,rfl⟩ _)
 generalize hV:NT g.goal (List.replicate g.N false) [g.s0]=v at *
 obtain⟨vse,vfr,vfd⟩:=v
 simp only
 refine Aa ?_
 refine Ak.names [2,1,0,4,if q=4 then 3 else 5] [(2,Aj g.ls),(3,.o (.fn gN capsN)),(12,.o (.ptr 0 1 0 0)),(13,.o (.ptr 3 1 0 0)),(14,.o (.fn 237 [.ptr 0 1 0 0,.ptr 2 1 0 0,.ptr 3 1 0 0])),(26,eB vfd)] (DK g.N gG capsG vse 4 (Di [] (-1) 0 vfr)) (by simp [hΓ]) (by rcases hq with ⟨rfl,rfl⟩|⟨rfl,rfl⟩<;>decide)
  (by rcases hq with ⟨rfl,rfl⟩|⟨rfl,rfl⟩<;>simp[cX,zC,hΓ,hrN,eC]) (by rcases hq with ⟨rfl,rfl⟩|⟨rfl,rfl⟩<;>simp[cX,zC,hΓ,DK,hrG,Ab.AX,BV,Gi,eC]) ?_
 (refine aC rfl ?_ ?_<;>rintro⟨⟩)
 ·-- the start is a goal
  have hgs:g.goal g.s0=true:=by
   have h1:vfr.any g.goal=true:=hv0.fd.symm
   obtain⟨x,hx,hgx⟩:=List.any_eq_true.1 h1
   have h2:=((hv0.fr x).1 hx).1
   simp at h2;subst h2;exact hgx
  have hrr:=BL.unique hr (BL.start hgs)
  subst hrr
  (repeat first|refine tM rfl ?_ |refine aU rfl ?_ |refine Aa ?_)
  refine aR ⟨_,rfl,rfl⟩
 refine aK ?_
 obtain⟨hfr,hF0⟩:=FI.init hg hv0 rfl
 simp only at hfr hF0
 rw [hfr]
 (repeat first|refine tM rfl ?_ |refine aU rfl ?_ |refine Aa ?_)
 refine aB ?_
 refine Ak.A4 (α:={x:Nat×List Bool×List Ka×List (List Int) // FI g x.2.1 x.2.2.1 x.2.2.2 x.1 0}) (fun ⟨⟨i,seen,steps,ws⟩,hF⟩=>[(2,Aj g.ls),(3,.o (.fn gN capsN)),(12,.o (.ptr 0 1 0 0)),(13,.o (.ptr 3 1 0 0)),(14,.o (.fn 237 [.ptr 0 1 0 0,.ptr 2 1 0 0,.ptr 3 1 0 0])),(15,eI .i64 i)]) (fun ⟨⟨i,seen,steps,ws⟩,hF⟩=>DK g.N gG capsG seen 4 steps) 5 (fun ⟨⟨i,seen,steps,ws⟩,hF⟩=>g.N - i) (⟨(0,vse,[⟨-1,0,[g.s0]⟩],[[]]),hF0⟩) [0,1,2,3,4] (Eb hΓ rfl rfl) (by (simp[cX,zC,hΓ,DK,hrG,hrN,Di])) ?_;rintro⟨⟨i,seen,steps,ws⟩,hF⟩;(try dsimp only)
 simp only at hF
 have hlN:=hF.ZX
 (repeat first|refine tM rfl ?_ |refine s2 rfl fun _ _hb=>?_ |refine aU rfl ?_ |refine Aa ?_)
 (refine aC rfl ?_ ?_<;>rintro⟨⟩)
 ·have hi : i < steps.length:=by (simp only[oZ] at *;omega)
  obtain⟨s,hs⟩:=get_some hi
  have hs':(steps.map Ls)[0+((i:Nat):Int).toNat]? = some (Ls s):=GD hs
  obtain⟨wi,hwi⟩:∃wi,ws[i]? = some wi:=get_some (by rw [hF.wlen];exact hi)
  refine aK ?_
  refine aS (aB ?_)
  (repeat first|refine sN rfl ?_ |refine tM rfl ?_ |refine aU rfl ?_ |refine Aa ?_)
  refine aB ?_
  refine Ak.A4 (α:={x:Nat×List Bool×List Ka×List (List Int) // x.1≤g.ls.length∧FI g x.2.1 x.2.2.1 x.2.2.2 i x.1∧i < x.2.2.1.length}) (fun ⟨⟨j,sen2,st2,ws2⟩,hP⟩=>[(2,Aj g.ls),(3,.o (.fn gN capsN)),(12,.o (.ptr 0 1 0 0)),(13,.o (.ptr 3 1 0 0)),(14,.o (.fn 237 [.ptr 0 1 0 0,.ptr 2 1 0 0,.ptr 3 1 0 0])),(15,eI .i64 i),(33,Aj g.ls),(34,eI .i64 g.ls.length),(35,eI .i64 j)]) (fun ⟨⟨j,sen2,st2,ws2⟩,hP⟩=>DK g.N gG capsG sen2 4 st2) 5 (fun ⟨⟨j,sen2,st2,ws2⟩,hP⟩=>g.ls.length - j) (⟨(0,seen,steps,ws),by simp,hF,hi⟩) [0,1,2,3,4] (Eb hΓ rfl rfl) (by (simp[cX,zC,hΓ,DK,hrG,hrN])) ?_;rintro⟨⟨j,sen2,st2,ws2⟩,hP⟩;(try dsimp only)
  clear hs hs' hwi hF hlN hi
  obtain⟨hj,hF,hi⟩:=hP
  simp only at hj hF hi
  have hlN:=hF.ZX
  (repeat first|refine s2 rfl fun _ _hb=>?_ |refine aU rfl ?_ |refine Aa ?_)
  (refine aC rfl ?_ ?_<;>rintro⟨⟩)
  ·have hjl:j < g.ls.length:=by (simp only[oZ] at *;omega)
   obtain⟨l,hl⟩:=get_some (l:=g.ls) (k:=j) hjl
   have hl':=get_map (g:=Bq) hl
   have hlm:=List.mem_of_getElem? hl
   have hlb:=hls l hlm
   obtain⟨s,hs⟩:=get_some hi
   have hs':(st2.map Ls)[0+((i:Nat):Int).toNat]? = some (Ls s):=GD hs
   obtain⟨wi,hwi⟩:∃wi,ws2[i]? = some wi:=get_some (by rw [hF.wlen];exact hi)
   have hsin:=hF.inn s (List.mem_of_getElem? hs)
   have hsnd:=DY _ _ (hF.nd s (List.mem_of_getElem? hs)) hsin
   refine aK ?_
   refine aS (aB ?_)
   (repeat first|refine tM rfl ?_ |(refine s4 rfl ‹_› rfl ?_ ?_;omega) |refine aU rfl ?_ |refine Aa ?_)
   (refine pW rfl ?_ rfl (by rfl);refine Iw 1 3 ?_)
   (repeat first|refine sN rfl ?_ |(refine sM rfl ?_ ?_;first|exact tI|omega) |refine t4 rfl ‹_› rfl ?_ |refine aU rfl ?_ |refine Aa ?_)
   refine aB ?_
   refine Ak.A4 (α:={m:Nat // m≤s.ns.length}) (fun ⟨m,hm⟩=>[(2,Aj g.ls),(3,.o (.fn gN capsN)),(12,.o (.ptr 0 1 0 0)),(13,.o (.ptr 3 1 0 0)),(14,.o (.fn 237 [.ptr 0 1 0 0,.ptr 2 1 0 0,.ptr 3 1 0 0])),(15,eI .i64 i),(33,Aj g.ls),(34,eI .i64 g.ls.length),(35,eI .i64 j),(17,eI .i64 l),(18,.o (.arr 5 1 0 ((s.ns.take m).flatMap fun n=>g.succ n l).length)),(43,Aj s.ns),(44,eI .i64 s.ns.length),(45,eI .i64 m)]) (fun ⟨m,hm⟩=>DK g.N gG capsG sen2 4 st2++[(5,.cells 3 1 (((s.ns.take m).flatMap fun n=>g.succ n l).map AB))]) 6 (fun ⟨m,hm⟩=>s.ns.length - m) (⟨0,by omega⟩) [0,1,2,3,4,5] (Eb hΓ rfl rfl) (by (simp[cX,zC,hΓ,DK,hrG,hrN])) ?_;rintro⟨m,hm⟩;(try dsimp only)
   (repeat first|refine s2 rfl fun _ _hb=>?_ |refine aU rfl ?_ |refine Aa ?_)
   (refine aC rfl ?_ ?_<;>rintro⟨⟩)
   ·obtain⟨n,hn⟩:=get_some (l:=s.ns) (k:=m) (by (simp only[oZ] at *;omega))
    have hn':=get_map (g:=Bq) hn
    have hnb:=hsin n (List.mem_of_getElem? hn)
    have hfm:(s.ns.take (m+1)).flatMap (fun n=>g.succ n l)=(s.ns.take m).flatMap (fun n=>g.succ n l)++g.succ n l:=by
     rw [List.take_add_one,hn];simp
    have hol:((s.ns.take m).flatMap fun n=>g.succ n l).length≤1099511627776:=by
     have h2:=KQ (s.ns.take m) (fun n=>g.succ n l) 1048576 (fun x hx=>by have:=hsl x l (hsin x (List.mem_of_mem_take hx)) hlm;omega)
     have h3:(s.ns.take m).length≤1048576:=by simp;omega
     omega
    have hnx:=hNx n l _ hnb hlm hol
    generalize (s.ns.take m).flatMap (fun n=>g.succ n l)=pre at *
    refine aK ?_
    refine aS (aB ?_)
    (repeat first|refine tM rfl ?_ |(refine s4 rfl ‹_› rfl ?_ ?_;omega) |refine aU rfl ?_ |refine Aa ?_)
    (refine pW rfl ?_ rfl (by rfl);refine AD [5] rfl rfl hnx ⟨rfl,by decide,by decide⟩ (by rw [MN,Ll,hrN];rfl) (by simp[cX,zC,hΓ]) ?_;rintro x0 σ1 nx1 ⟨rfl,rfl,rfl⟩ _)
    (repeat first|(refine sM rfl ?_ ?_;first|exact tI|omega) |refine aU rfl ?_ |refine Aa ?_)
    refine⟨⟨m+1,by (simp only[oZ] at *;omega)⟩,by dsimp only;((simp only[oZ] at *;omega)),[0,1,2,3,4,6],?_⟩
    simp[cX,zC,hΓ,DK,hrG,hrN,Ab.AX,BV,Gi,hfm]
   ·obtain rfl:m=s.ns.length:=by (simp only[oZ] at *;omega)
    rw [List.take_length]
    have hR:∀y,y∈s.ns.flatMap (fun n=>g.succ n l)↔∃n∈s.ns,y∈g.succ n l:=fun y=>List.mem_flatMap
    generalize s.ns.flatMap (fun n=>g.succ n l)=R at *
    have hRin:∀y∈R,0≤y∧y < g.N:=fun y hy=>by
     obtain⟨n,hn,hy⟩:=(hR y).1 hy
     exact hg.inn n (hsin n hn) l hlm y hy
    have hv:=QJ (goal:=g.goal) hF.slen hRin
    have hvis:=Pv (TB:=TB) hG hcG hrG sen2 st2 i l R hF.slen hN (by omega) hRin
    generalize hV2:NT g.goal sen2 R=v2 at *
    refine aE ?_
    refine Ak.freeze [5] [(2,Aj g.ls),(3,.o (.fn gN capsN)),(12,.o (.ptr 0 1 0 0)),(13,.o (.ptr 3 1 0 0)),(14,.o (.fn 237 [.ptr 0 1 0 0,.ptr 2 1 0 0,.ptr 3 1 0 0])),(15,eI .i64 i),(33,Aj g.ls),(34,eI .i64 g.ls.length),(35,eI .i64 j),(17,eI .i64 l),(18,Aj R)] ⟨⟨_,rfl,.Bb⟩,⟨_,rfl,.Bb⟩,⟨_,rfl,.Bb⟩,⟨_,rfl,.Bb⟩,⟨_,rfl,.Bb⟩,⟨_,rfl,.Bb⟩,⟨_,rfl,.Bb⟩,⟨_,rfl,.Bb⟩,⟨_,rfl,.Bb⟩,⟨_,rfl,.Bb⟩,⟨_,rfl,.o (.full (by simp) rfl (by simp [Function.comp_def]) (by simp))⟩,trivial⟩ ?_
    (repeat first|refine tM rfl ?_ |refine aU rfl ?_)
    (refine pW rfl ?_ rfl (by rfl);refine AD [0,1,2,3,4] rfl rfl hvis ⟨rfl,by decide,by decide⟩ rfl (by simp[cX,zC,hΓ,DK,hrG,BV]) ?_;rintro x0 σ1 nx1 ⟨rfl,q,hq,rfl⟩ _)
    obtain⟨vse,vfr,vfd⟩:=v2
    simp only
    refine Aa ?_
    refine Ak.names [0,1,2,3,if q=4 then 4 else 6] [(2,Aj g.ls),(3,.o (.fn gN capsN)),(12,.o (.ptr 0 1 0 0)),(13,.o (.ptr 3 1 0 0)),(14,.o (.fn 237 [.ptr 0 1 0 0,.ptr 2 1 0 0,.ptr 3 1 0 0])),(15,eI .i64 i),(33,Aj g.ls),(34,eI .i64 g.ls.length),(35,eI .i64 j),(59,eB vfd)] (DK g.N gG capsG vse 4 (Di st2 i l vfr)) (by simp [hΓ]) (by rcases hq with ⟨rfl,rfl⟩|⟨rfl,rfl⟩<;>decide)
     (by rcases hq with ⟨rfl,rfl⟩|⟨rfl,rfl⟩<;>simp[cX,zC,hΓ,hrN]) (by rcases hq with ⟨rfl,rfl⟩|⟨rfl,rfl⟩<;>simp[cX,zC,hΓ,DK,hrG,Ab.AX,BV,Gi]) ?_
    (refine aC rfl ?_ ?_<;>rintro⟨⟩)
    ·obtain⟨x,hx,hgx⟩:∃x∈vfr,g.goal x=true:=by
      have h1:vfr.any g.goal=true:=hv.fd.symm
      exact List.any_eq_true.1 h1
     have hxR:=((hv.fr x).1 hx).1
     obtain⟨n,hn,hxn⟩:=(hR x).1 hxR
     have hans:=BL.found hg hF hwi hl hs hn hxn hgx
     have hrr:=BL.unique hr hans
     subst hrr
     have hne:vfr≠[]:=fun e=>by rw [e] at hx;cases hx
     have hsv:Di st2 i l vfr=st2++[⟨i,l,vfr⟩]:=by unfold Di;rw [if_neg hne]
     rw [hsv]
     have hch:=hF.Sf.app (ns:=vfr) hwi hlm
     have hpw:=O0 (TB:=TB) hch hls (w:=wi++[l]) (by simp;omega) (by simp [hF.wlen])
     generalize hst3:st2++[⟨(i:Int),l,vfr⟩]=st3 at *
     (repeat first|refine tM rfl ?_|(refine Ag rfl ?_;refine gA rfl ?_;first| refine gQ (FP rfl rfl ((.cons (.o (.full rfl (by simp [Function.comp_def]) (by simp))) .nil)) (hpw) rfl) rfl ?_) |refine aU rfl ?_ |refine Aa ?_)
     refine aR ⟨_,rfl,rfl⟩
    ·have hF2:=hF.visit hg hwi hl hs hR hv rfl
     have hlen2:i < (Di st2 i l vfr).length:=by unfold Di;split<;>(try simp)<;>omega
     refine aK ?_
     (repeat first|(refine sM rfl ?_ ?_;first|exact tI|omega) |refine aU rfl ?_ |refine Aa ?_)
     refine⟨⟨(j+1,vse,Di st2 i l vfr,cC ws2 (wi++[l]) vfr),hjl,hF2,hlen2⟩,by dsimp only;omega,[0,1,2,3,4],?_⟩
     simp[cX,zC,hΓ,DK,hrG,hrN]
  ·obtain rfl:j=g.ls.length:=by (simp only[oZ] at *;omega)
   have hF2:=hF.ab hi
   refine aE ?_
   (repeat first|(refine sM rfl ?_ ?_;first|exact tI|omega) |refine aU rfl ?_ |refine Aa ?_)
   refine⟨⟨(i+1,sen2,st2,ws2),hF2⟩,by dsimp only;omega,[0,1,2,3,4],?_⟩
   simp[cX,zC,hΓ,DK,hrG,hrN]
 ·have hle:=hF.le
  obtain rfl:i=steps.length:=by (simp only[oZ] at *;omega)
  have hans:=BL.c7 hg hF
  have hrr:=BL.unique hr hans
  subst hrr
  refine aE ?_
  (repeat first|refine tM rfl ?_ |refine aU rfl ?_ |refine Aa ?_)
  refine aR ⟨_,rfl,rfl⟩
theorem He{a:AP}{q:Nat}(h:q < a.nx.length):(Es a)[q]? = some (Qq fun l=>Bo a q l):=CE (g:=fun q=>Qq fun l=>Bo a q l) h
theorem Fh{h:Nat→Int}{l:Int}(h0:0≤l)(h1:l < 6):((Qq h).drop (l.toNat*1))[0]? = some (iD (h l.toNat)):=by
 rw [List.getElem?_drop]
 have h2:l.toNat*1+0=l.toNat:=by omega
 have h3:l.toNat < 6:=by omega
 rw [h2]
 simp [Qq,h3]
end Go.Am
namespace Go.Am
open Go
theorem EG{g g':Gr}(hg:Gj g)(hls:g.ls=g'.ls)(hs:∀x:Int,0≤x∧x < g.N→∀l∈g.ls,g.succ x l=g'.succ x l):∀ {w:List Int} {a x:Int},over g w→(0≤a∧a < g.N)→(reach g w a x↔reach g' w a x)
 | [],a,x,_,_=>Iff.rfl
 | l :: w,a,x,ho,ha=>by
  have hl:=ho l (by simp)
  simp only [reach,←hs a ha l hl]
  constructor
  ·rintro⟨y,hy,h⟩
   exact⟨y,hy,(EG hg hls hs (fun m hm=>ho m (by simp [hm])) (hg.inn a ha l hl y hy)).1 h⟩
  ·rintro⟨y,hy,h⟩
   exact⟨y,hy,(EG hg hls hs (fun m hm=>ho m (by simp [hm])) (hg.inn a ha l hl y hy)).2 h⟩
theorem BL.congr{g g':Gr}(hg:Gj g)(hls:g.ls=g'.ls)(h0:g.s0=g'.s0)(hs:∀x:Int,0≤x∧x < g.N→∀l∈g.ls,g.succ x l=g'.succ x l)(hgo:∀x:Int,0≤x∧x < g.N→g.goal x=g'.goal x){r:Option (List Int)}(h:BL g r):BL g' r:=by
 have hov:∀w,over g' w↔over g w:=fun w=>by unfold over;rw [hls]
 have hh:∀w,over g w→(Rq g' w↔Rq g w):=fun w hw=>by
  unfold Rq
  rw [←h0]
  constructor
  ·rintro⟨x,hx,hgx⟩
   have hx:=(EG hg hls hs hw hg.s0).2 hx
   exact⟨x,hx,by rw [hgo x (Cx hg hw hg.s0 hx)];exact hgx⟩
  ·rintro⟨x,hx,hgx⟩
   exact⟨x,(EG hg hls hs hw hg.s0).1 hx,by rw [←hgo x (Cx hg hw hg.s0 hx)];exact hgx⟩
 cases r with
 | none=>exact fun u hu hx=>h u ((hov u).1 hu) ((hh u ((hov u).1 hu)).1 hx)
 | some w=>
  obtain⟨h1,h2,h3⟩:=h
  exact⟨(hov w).2 h1,(hh w h1).2 h2,fun u hu hx=>h3 u ((hov u).1 hu) ((hh u ((hov u).1 hu)).1 hx)⟩
theorem UH{zs ws:List Int}{cs ds:List (List Int)}(h:EJ zs cs):Jj (zs++ws) (cs++ds)=(Jj zs cs).flatMap fun o=>(Jj ws ds).map fun r=>o*AJ ws+r:=by
 induction h with
 | nil=>simp [Jj]
 | @cons z c zs cs _ _ _ ih=>
  simp only [List.cons_append,Jj,ih]
  rw [List.flatMap_assoc]
  congr 1
  funext q
  rw [List.map_flatMap,List.flatMap_map]
  congr 1
  funext o
  rw [List.map_map]
  congr 1
  funext r
  simp only [Function.comp_def,Jr]
  rw [Int.add_mul,Int.mul_assoc];omega
theorem Pg(l:List Sys)(aus:List AP)(st:List Int)(ls kd gl:Int):Ae ⟨l,aus,st,ls,kd,gl⟩=l.map (·.st)++aus.map (fun a=>(a.nx.length:Int)):=rfl
theorem NA{l:List Sys}{aus:List AP}{st:List Int}{ls kd gl:Int}(hn:Dl ⟨l,aus,st,ls,kd,gl⟩){node letter:Int}(h0:0≤letter)(h1:letter < 6) :
 En ⟨l,aus,st,ls,kd,gl⟩ (Ae ⟨l,aus,st,ls,kd,gl⟩) (BB (Ae ⟨l,aus,st,ls,kd,gl⟩) node) letter =
  (Jj (l.map (·.st)) (Zm l (node / AJ (aus.map fun a=>(a.nx.length:Int))) letter)).flatMap fun o=>(Jj (aus.map fun a=>(a.nx.length:Int)) (aus.zipWith (fun a q=>[Bo a q.toNat letter]) (BB (aus.map fun a=>(a.nx.length:Int)) node))).map fun r=>o*AJ (aus.map fun a=>(a.nx.length:Int))+r:=by
 have hp:∀w∈aus.map (fun a=>(a.nx.length:Int)),0 < w:=fun w hw=>by
  obtain⟨a,ha,rfl⟩:=List.mem_map.1 hw
  have:=Al (hn.au a ha);omega
 unfold En
 rw [SW (Ic hn (Ih hn node) h0 h1),Pg,Od _ _ _ hp]
 have hch:=X7 hn.ps hn.np h0 h1 (node / AJ (aus.map fun a=>(a.nx.length:Int)))
 have e:JZ ⟨l,aus,st,ls,kd,gl⟩ (BB (l.map (·.st)) (node / AJ (aus.map fun a=>(a.nx.length:Int)))++BB (aus.map fun a=>(a.nx.length:Int)) node) letter=Zm l (node / AJ (aus.map fun a=>(a.nx.length:Int))) letter++aus.zipWith (fun a q=>[Bo a q.toNat letter]) (BB (aus.map fun a=>(a.nx.length:Int)) node):=by
  unfold JZ Zm
  have hl:(BB (l.map (·.st)) (node / AJ (aus.map fun a=>(a.nx.length:Int)))).length=l.length:=by rw [KI];simp
  simp only
  rw [List.drop_append_of_le_length (by omega),List.drop_of_length_le (by omega),List.nil_append]
  congr 1
  rw [FX,List.take_append_of_le_length (by omega),List.take_of_length_le (by omega)]
 rw [e,UH hch]
theorem Mw:∀(zs:List Int) (k:Nat),Fx zs (List.replicate k 0) 0=0
 | [],k=>by simp [Fx]
 | z::zs,0=>by simp [Fx]
 | z::zs,k+1=>by
  rw [List.replicate_succ]
  simp only [Fx,Int.zero_mul,Int.add_zero]
  exact Mw zs k
end Go.Am
namespace Go.Am
open Go Go.Proofs
set_option maxHeartbeats 1000000
set_option maxRecDepth 4000
attribute [local irreducible] AY B2 Lex Br Ak Spec
variable {TB:Bw}
def EX{α:Type}(l:List α)(z:α)(k:Nat):List α:=l.take k++List.replicate (l.length - k) z
theorem UK{α:Type}(l:List α)(z:α):EX l z 0=List.replicate l.length z:=by simp [EX]
theorem OK{α:Type}(l:List α)(z:α):EX l z l.length=l:=by simp [EX]
theorem OL{α:Type}{l:List α}{z:α}{k:Nat}(h:k < l.length):(EX l z k)[0+((k:Nat):Int).toNat]? = some z:=by
 rw [Nat.zero_add,Int.toNat_natCast]
 unfold EX
 rw [List.getElem?_append_right (by simp;omega)]
 have:0 < l.length - k:=by omega
 have e:k - (l.take k).length=0:=by simp;omega
 rw [e,List.getElem?_replicate,if_pos this]
theorem OM{α:Type}{l:List α}{z x:α}{k:Nat}(h:l[k]? = some x):(EX l z k).set (0+((k:Nat):Int).toNat) x=EX l z (k+1):=by
 have hk:=(List.getElem?_eq_some_iff.1 h).1
 rw [Nat.zero_add,Int.toNat_natCast]
 unfold EX
 rw [List.set_append_right _ _ (by simp;omega)]
 have e1:k - (l.take k).length=0:=by simp;omega
 have e2:l.length - k=(l.length - (k+1))+1:=by omega
 rw [e1,e2,List.replicate_succ,List.set_cons_zero,List.take_add_one,h]
 simp
theorem UL{l:List (List C)}{z:List C}{k:Nat}{r:Nat→Nat}(hl:∀x∈l,C.BA r x=x)(hz:C.BA r z=z):(EX l z k).map (C.BA r)=EX l z k:=by
 unfold EX
 rw [List.map_append,List.map_replicate,hz]
 congr 1
 refine(List.map_congr_left fun x hx=>?_).trans (List.map_id _)
 exact hl x (List.mem_of_mem_take hx)
end Go.Am
