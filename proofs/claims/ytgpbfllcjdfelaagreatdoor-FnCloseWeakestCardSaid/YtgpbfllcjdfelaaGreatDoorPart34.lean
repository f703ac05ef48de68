/-
  Tables of an automaton against its least automaton, plainly.
-/
import Derived.Test.YtgpbfllcjdfelaaGreatDoorPart27
import Derived.Test.YtgpbfllcjdfelaaGreatDoorPart31
set_option linter.all false
namespace Go.Am
set_option linter.unusedVariables false
theorem Fk{ls:List UInt8}{u v:W}(d:AD ls u)(b:AD ls v):AD ls (u++v):=λc a=>by
 rcases em.1 a with a|a
 ·exact d c a
 ·exact b c a
def dp{p:AY}(hp:AL p=true):Fin (LA p) (A2 p.al) (CP p).nx.length where
 st w:=(AI (CP p) 0 w).toNat
 lt w hw:=by
  have a:=Kp (FJ hp);have:=a.g.dE w (q:=0) (by rw [a.al];exact hw) (by have:=a.g.n1;omega);omega
 same u w v c hw b h:=by
  have a:=Kp (FJ hp);have e:=a.g.n1;have i:=a.g.dE u (q:=0) (by rw [a.al];exact c) (by omega);have f:=a.g.dE w (q:=0) (by rw [a.al];exact hw) (by omega)
  have d:AI (CP p) 0 u=AI (CP p) 0 w:=by omega
  rw [<-a.lang _ (Fk c b),<-a.lang _ (Fk hw b),FF,FF,Cg,Cg,d]
theorem ZC{p:AY}(hp:AL p=true){t:A9}(h:TOk (LA p) (A2 p.al) t):t.rows.length<=(CP p).nx.length:=h.iO (dp hp)
theorem bO{p:AY}(hp:AL p=true){t:A9}(h:Dk (LA p) (A2 p.al) t){i j:Nat}{r s:W}(hi:t.rows[i]? = some r)(d:t.rows[j]? = some s)(g:AI (CP p) 0 r=AI (CP p) 0 s):i=j:=by
 have b:=Kp (FJ hp);refine h.row hi d (Jo.2 λc k=>?_);have f:=h.onR r (co hi);have e:=h.onR s (co d);have a:=h.onC c k;rw [<-b.lang _ (Fk f a),<-b.lang _ (Fk e a),FF,FF,Cg,Cg,g]
theorem aI{p:AY}(hp:AL p=true){t:A9}(h:Dk (LA p) (A2 p.al) t)(ha:∀w,AD (A2 p.al) w->Qb (LA p) t w=LA p w):t.rows.length=(CP p).nx.length:=by
 have b:=Kp (FJ hp);refine oz (ZC hp h.toTOk) ?_;have key:∀i:Nat,i < (CP p).nx.length->∃w,AD (A2 p.al) w/\AI (CP p) 0 w=i:=b.rc
 let f:Nat->Nat:=λi=>if hi:i < (CP p).nx.length then runM (LA p) t 0 (Classical.choose (key i hi)) else 0
 have d:∀i,i < (CP p).nx.length->∃w,AD (A2 p.al) w/\AI (CP p) 0 w=i/\f i=runM (LA p) t 0 w:=λi hi=>by
  have:=mV (key i hi);exact⟨_,this.1,this.2,by simp only [f,hi,dite_true]⟩
 have m:((List.range (CP p).nx.length).map f).Nodup:=by
  unfold List.Nodup;rw [lF];refine(nM.1 List.nodup_range).imp λ{i j} a e=>?_;obtain⟨u,c,q,g⟩:=d i (kB.1 a.1);obtain⟨v,k,o,n⟩:=d j (kB.1 a.2.1);rw [g,n] at e;refine a.2.2 (b.ds i j (kB.1 a.1) (kB.1 a.2.1) λw hw=>?_);rw [b.al] at hw;rw [<-q,<-o,<-Cg,<-Cg,<-FF,<-FF,b.lang _ (Fk c hw),b.lang _ (Fk k hw),<-ha _ (Fk c hw),<-ha _ (Fk k hw)];unfold Qb;rw [Nk,Nk,e]
 have:=HD t.rows.length _ m λx l=>by
  obtain⟨i,hi,rfl⟩:=d8.1 l;obtain⟨u,c,_,g⟩:=d i (kB.1 hi);rw [g];exact h.run u 0 c (am.1 h.r0).1
 simpa using this
theorem Zy{p:AY}(hp:AL p=true){t:A9}(h:Dk (LA p) (A2 p.al) t)(M:t.rows.length=(CP p).nx.length):∀w,AD (A2 p.al) w->Qb (LA p) t w=LA p w:=by
 have a:=Kp (FJ hp);have Q:=a.g.n1;have m:∀ {w:W},AD (A2 p.al) w->0<=AI (CP p) 0 w/\AI (CP p) 0 w < (((CP p).nx.length:Nat):Int):=λhw=>a.g.dE _ (by rw [a.al];exact hw) (by omega)
 have v:∀x:Int,0<=x/\x < (((CP p).nx.length:Nat):Int)->∃(i:Nat) (r:W),t.rows[i]? = some r/\AI (CP p) 0 r=x:=λx L=>by
  have := Qz (n:=(CP p).nx.length) (l:=t.rows.map (AI (CP p) 0)) (by
   unfold List.Nodup;rw [kO];intro i j hi b N e;simp only [gc] at hi b;simp only [List.getElem_map] at e;have:=bO hp h (d7 hi) (d7 b) e
   omega) (λy K=>by
    obtain⟨r,F,rfl⟩:=d8.1 K
    exact m (h.onR r F)) (by simp [M]) L
  obtain⟨r,F,e⟩:=d8.1 this;obtain⟨i,hi⟩:=lL.1 F;exact⟨i,r,hi,e⟩
 have key:∀(w:W) (i:Nat) (r:W),t.rows[i]? = some r->AD (A2 p.al) w->∃s,t.rows[runM (LA p) t i w]? = some s/\AI (CP p) 0 s=AI (CP p) (AI (CP p) 0 r) w:=λw=>by
  induction w with
  | nil=>exact λi r hi _=>⟨r,hi,rfl⟩
  | cons c w J=>
   intro i r hi hw;have I:=hw c (by simp);have B:=h.onR r (co hi)
   have q:AD (A2 p.al) (r++[c]):=Fk B λd k=>by simp at k;subst k;exact I
   obtain⟨s,f,G⟩:=h.idx hi I;obtain⟨j,s',b,e'⟩:=v _ (m q)
   have o:EF (LA p) t (r++[c])=j:=h.row f b (G.trans (Jo.2 λd k=>by
    have u:=h.onC d k
    rw [<-a.lang _ (Fk q u),<-a.lang _ (Fk (h.onR s' (co b)) u),FF,FF,Cg _ (r++[c]),Cg _ s',e']))
   rw [o] at f
   rw [b] at f;injection f with f;subst f
   obtain⟨s2,z,H⟩:=J j s' b λd k=>hw d (by simp [k])
   have P:runM (LA p) t i (c::w)=runM (LA p) t j w:=by
    show runM (LA p) t (EF (LA p) t (t.rows.getD i []++[c])) w=_
    rw [kC,hi,lN,o]
   refine⟨s2,by rw [P];exact z,?_⟩;rw [H,e',Cg];rfl
 intro w hw;obtain⟨s,z,H⟩:=key w 0 [] h.r0 hw;unfold Qb;rw [kC,z,lN];have A:=h.onR s (co z);rw [<-a.lang _ A,<-a.lang _ hw,FF,FF,H];rfl
section
variable {p:AY}(hp:AL p=true)
include hp
end
theorem fp{p:AY}(hp:AL p=true){t:A9}(h:TOk (LA p) (A2 p.al) t){i k:Nat}{r s:W}(hi:t.rows[i]? = some r)(hk:t.rows[k]? = some s)(d:i≠k):FM p (AI p 0 r)≠FM p (AI p 0 s):=λl=>by
 have n:=Ax hp;have b:=h.onR r (co hi);have a:=h.onR s (co hk);have u:=DW hp r 0 b (by omega);have o:=DW hp s 0 a (by omega)
 have:=(Pb (FJ hp) (q:=(AI p 0 r).toNat) (r:=(AI p 0 s).toNat) (by omega) (by omega)).1 (by
  rw [show (((AI p 0 r).toNat:Nat):Int)=AI p 0 r by omega,show (((AI p 0 s).toNat:Nat):Int)=AI p 0 s by omega];exact l)
 rw [show (((AI p 0 r).toNat:Nat):Int)=AI p 0 r by omega,show (((AI p 0 s).toNat:Nat):Int)=AI p 0 s by omega] at this
 have j:marks (LA p) t.cols r=marks (LA p) t.cols s:=Jo.2 λc m=>by
  have:=this c (h.onC c m);rw [FF,FF,Cg,Cg];exact this
 have e:=h.nd
 have g:(AJ (LA p) t)[i]? = some (marks (LA p) t.cols r):=by unfold AJ;rw [d9,hi];rfl
 have f:(AJ (LA p) t)[k]? = some (marks (LA p) t.cols s):=by unfold AJ;rw [d9,hk];rfl
 rw [<-j] at f;exact d ((mO (am.1 g).1 e).1 (g.trans f.symm))
theorem ga{p:AY}(hp:AL p=true){t:A9}(h:Dk (LA p) (A2 p.al) t):t.rows.length=(CP p).nx.length↔∀w,AD (A2 p.al) w->Qb (LA p) t w=LA p w:=
 ⟨Zy hp h,aI hp h⟩
theorem iR{a:AY}(h:Gg a):(CP (CP a)).nx.length=(CP a).nx.length:=by
 have b:=Kp h
 have c:∀i:Nat,i < (CP a).nx.length->∃w,AD (A2 (CP a).al) w/\AI (CP a) 0 w=i:=λi hi=>by
  obtain⟨w,e,d⟩:=b.rc i hi;exact⟨w,by rw [b.al];exact e,d⟩
 have:=canon b.g b.g rfl (λ_ _=>rfl) c b.ds;rw [<-this];exact eQ b.g c
end Go.Am
