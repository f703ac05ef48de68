/-
  Tables of an automaton against its least automaton, plainly.
-/
import Derived.Test.YtgpbfllcjdfelaaGreatDoorPart27
import Derived.Test.YtgpbfllcjdfelaaGreatDoorPart31
set_option linter.all false
namespace Go.Am
set_option linter.unusedVariables false
theorem Fk{ls:List UInt8}{u v:W}(d:AD ls u)(b:AD ls v):AD ls (u++v):=λc a=>by
 rcases em.1 a with a|a
 ·exact d c a
 ·exact b c a
def dp{p:AY}(hp:AL p=true):Fin (LA p) (A2 p.al) (CP p).nx.length where
 st w:=(AI (CP p) 0 w).toNat
 lt w b:=by
  have a:=Kp (FJ hp);have:=a.g.dE w (q:=0) (by rw [a.al];exact b) (by have:=a.g.n1;omega);omega
 same u w v d b c h:=by
  have a:=Kp (FJ hp);have f:=a.g.n1;have j:=a.g.dE u (q:=0) (by rw [a.al];exact d) (by omega);have i:=a.g.dE w (q:=0) (by rw [a.al];exact b) (by omega)
  have e:AI (CP p) 0 u=AI (CP p) 0 w:=by omega
  rw [<-a.lang _ (Fk d c),<-a.lang _ (Fk b c),FF,FF,Cg,Cg,e]
theorem ZC{p:AY}(hp:AL p=true){t:A9}(h:TOk (LA p) (A2 p.al) t):t.rows.length<=(CP p).nx.length:=h.iO (dp hp)
theorem bO{p:AY}(hp:AL p=true){t:A9}(h:Dk (LA p) (A2 p.al) t){i j:Nat}{r s:W}(hi:t.rows[i]? = some r)(d:t.rows[j]? = some s)(g:AI (CP p) 0 r=AI (CP p) 0 s):i=j:=by
 have b:=Kp (FJ hp);refine h.row hi d (Jo.2 λc k=>?_);have f:=h.onR r (co hi);have e:=h.onR s (co d);have a:=h.onC c k;rw [<-b.lang _ (Fk f a),<-b.lang _ (Fk e a),FF,FF,Cg,Cg,g]
theorem aI{p:AY}(hp:AL p=true){t:A9}(h:Dk (LA p) (A2 p.al) t)(ha:∀w,AD (A2 p.al) w->Qb (LA p) t w=LA p w):t.rows.length=(CP p).nx.length:=by
 have c:=Kp (FJ hp);refine oz (ZC hp h.toTOk) ?_;have key:∀i:Nat,i < (CP p).nx.length->∃w,AD (A2 p.al) w/\AI (CP p) 0 w=i:=c.rc
 let f:Nat->Nat:=λi=>if hi:i < (CP p).nx.length then runM (LA p) t 0 (Classical.choose (key i hi)) else 0
 have g:∀i,i < (CP p).nx.length->∃w,AD (A2 p.al) w/\AI (CP p) 0 w=i/\f i=runM (LA p) t 0 w:=λi hi=>by
  have:=mV (key i hi);exact⟨_,this.1,this.2,by simp only [f,hi,dite_true]⟩
 have n:((List.range (CP p).nx.length).map f).Nodup:=by
  unfold List.Nodup;rw [lF];refine(nM.1 List.nodup_range).imp λ{i j} a e=>?_;obtain⟨u,d,r,k⟩:=g i (kB.1 a.1);obtain⟨v,l,q,o⟩:=g j (kB.1 a.2.1);rw [k,o] at e;refine a.2.2 (c.ds i j (kB.1 a.1) (kB.1 a.2.1) λw b=>?_);rw [c.al] at b;rw [<-r,<-q,<-Cg,<-Cg,<-FF,<-FF,c.lang _ (Fk d b),c.lang _ (Fk l b),<-ha _ (Fk d b),<-ha _ (Fk l b)];unfold Qb;rw [Nk,Nk,e]
 have:=HD t.rows.length _ n λx m=>by
  obtain⟨i,hi,rfl⟩:=d8.1 m;obtain⟨u,d,_,k⟩:=g i (kB.1 hi);rw [k];exact h.run u 0 d (am.1 h.r0).1
 simpa using this
theorem Zy{p:AY}(hp:AL p=true){t:A9}(h:Dk (LA p) (A2 p.al) t)(N:t.rows.length=(CP p).nx.length):∀w,AD (A2 p.al) w->Qb (LA p) t w=LA p w:=by
 have b:=Kp (FJ hp);have R:=b.g.n1;have o:∀ {w:W},AD (A2 p.al) w->0<=AI (CP p) 0 w/\AI (CP p) 0 w < (((CP p).nx.length:Nat):Int):=λa=>b.g.dE _ (by rw [b.al];exact a) (by omega)
 have z:∀x:Int,0<=x/\x < (((CP p).nx.length:Nat):Int)->∃(i:Nat) (r:W),t.rows[i]? = some r/\AI (CP p) 0 r=x:=λx M=>by
  have := Qz (n:=(CP p).nx.length) (l:=t.rows.map (AI (CP p) 0)) (by
   unfold List.Nodup;rw [kO];intro i j hi f P e;simp only [gc] at hi f;simp only [List.getElem_map] at e;have:=bO hp h (d7 hi) (d7 f) e
   omega) (λy L=>by
    obtain⟨r,G,rfl⟩:=d8.1 L
    exact o (h.onR r G)) (by simp [N]) M
  obtain⟨r,G,e⟩:=d8.1 this;obtain⟨i,hi⟩:=lL.1 G;exact⟨i,r,hi,e⟩
 have key:∀(w:W) (i:Nat) (r:W),t.rows[i]? = some r->AD (A2 p.al) w->∃s,t.rows[runM (LA p) t i w]? = some s/\AI (CP p) 0 s=AI (CP p) (AI (CP p) 0 r) w:=λw=>by
  induction w with
  | nil=>exact λi r hi _=>⟨r,hi,rfl⟩
  | cons c w K=>
   intro i r hi a;have J:=a c (by simp);have F:=h.onR r (co hi)
   have u:AD (A2 p.al) (r++[c]):=Fk F λd m=>by simp at m;subst m;exact J
   obtain⟨s,k,H⟩:=h.idx hi J;obtain⟨j,s',f,e'⟩:=z _ (o u)
   have q:EF (LA p) t (r++[c])=j:=h.row k f (H.trans (Jo.2 λd m=>by
    have v:=h.onC d m
    rw [<-b.lang _ (Fk u v),<-b.lang _ (Fk (h.onR s' (co f)) v),FF,FF,Cg _ (r++[c]),Cg _ s',e']))
   rw [q] at k
   rw [f] at k;injection k with k;subst k
   obtain⟨s2,A,I⟩:=K j s' f λd m=>a d (by simp [m])
   have Q:runM (LA p) t i (c::w)=runM (LA p) t j w:=by
    show runM (LA p) t (EF (LA p) t (t.rows.getD i []++[c])) w=_
    rw [kC,hi,lN,q]
   refine⟨s2,by rw [Q];exact A,?_⟩;rw [I,e',Cg];rfl
 intro w a;obtain⟨s,A,I⟩:=key w 0 [] h.r0 a;unfold Qb;rw [kC,A,lN];have B:=h.onR s (co A);rw [<-b.lang _ B,<-b.lang _ a,FF,FF,I];rfl
section
variable {p:AY}(hp:AL p=true)
include hp
end
theorem fp{p:AY}(hp:AL p=true){t:A9}(h:TOk (LA p) (A2 p.al) t){i k:Nat}{r s:W}(hi:t.rows[i]? = some r)(hk:t.rows[k]? = some s)(d:i≠k):FM p (AI p 0 r)≠FM p (AI p 0 s):=λl=>by
 have n:=Ax hp;have b:=h.onR r (co hi);have a:=h.onR s (co hk);have u:=DW hp r 0 b (by omega);have o:=DW hp s 0 a (by omega)
 have:=(Pb (FJ hp) (q:=(AI p 0 r).toNat) (r:=(AI p 0 s).toNat) (by omega) (by omega)).1 (by
  rw [show (((AI p 0 r).toNat:Nat):Int)=AI p 0 r by omega,show (((AI p 0 s).toNat:Nat):Int)=AI p 0 s by omega];exact l)
 rw [show (((AI p 0 r).toNat:Nat):Int)=AI p 0 r by omega,show (((AI p 0 s).toNat:Nat):Int)=AI p 0 s by omega] at this
 have j:marks (LA p) t.cols r=marks (LA p) t.cols s:=Jo.2 λc m=>by
  have:=this c (h.onC c m);rw [FF,FF,Cg,Cg];exact this
 have e:=h.nd
 have g:(AJ (LA p) t)[i]? = some (marks (LA p) t.cols r):=by unfold AJ;rw [d9,hi];rfl
 have f:(AJ (LA p) t)[k]? = some (marks (LA p) t.cols s):=by unfold AJ;rw [d9,hk];rfl
 rw [<-j] at f;exact d ((mO (am.1 g).1 e).1 (g.trans f.symm))
theorem ga{p:AY}(hp:AL p=true){t:A9}(h:Dk (LA p) (A2 p.al) t):t.rows.length=(CP p).nx.length↔∀w,AD (A2 p.al) w->Qb (LA p) t w=LA p w:=
 ⟨Zy hp h,aI hp h⟩
theorem iR{a:AY}(h:Gg a):(CP (CP a)).nx.length=(CP a).nx.length:=by
 have b:=Kp h
 have c:∀i:Nat,i < (CP a).nx.length->∃w,AD (A2 (CP a).al) w/\AI (CP a) 0 w=i:=λi hi=>by
  obtain⟨w,e,d⟩:=b.rc i hi;exact⟨w,by rw [b.al];exact e,d⟩
 have:=canon b.g b.g rfl (λ_ _=>rfl) c b.ds;rw [<-this];exact eQ b.g c
end Go.Am
