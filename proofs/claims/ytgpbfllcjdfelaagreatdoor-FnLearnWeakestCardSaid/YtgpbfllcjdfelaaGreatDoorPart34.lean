/-
  Learning against the least automaton, plainly.
-/
import Derived.Test.YtgpbfllcjdfelaaGreatDoorPart31
set_option linter.all false
namespace Go.Am
set_option linter.unusedVariables false
section
variable {p:AK}(hp:AI p=true)
include hp
theorem Uy:Bu (LA p) (AU p.al) (BT p (Bl p))/\(BT p (Bl p)).rows.length<=12/\∀w,Av (AU p.al) w->Mx (LA p) (BT p (Bl p)) w=LA p w:=by
 obtain⟨d,i,e,h,g⟩:=Gh hp _ (io _);refine⟨d,e,λw hw=>?_⟩;obtain⟨_,a,_⟩:=EJ hp
 have c:Jv (Bp (LA p) p.al (BT p (Bl p))) p=none:=by
  unfold PZ at a
  cases c:Jv (Bp (LA p) p.al (BT p (Bl p))) p with
  | none=>rfl
  | some v=>rw [c] at a;cases a
 have b:=LQ (Al hp).1 d e
 have f:Dk (Bp (LA p) p.al (BT p (Bl p))) p=true:=by
  unfold Dk;rw [b,hp];exact decide_eq_true rfl
 have:=Pa f c w hw;rw [Vu d hw] at this;exact this
theorem XQ:(BT p (Bl p)).rows.length=(Df p).nx.length:=by
 obtain⟨b,c,a⟩:=Uy hp;exact dG hp b a
end
theorem dT{a:AK}(h:Cg a):(Df (Df a)).nx.length=(Df a).nx.length:=by
 have b:=KF h
 have c:∀i:Nat,i < (Df a).nx.length->∃w,Av (AU (Df a).al) w/\AN (Df a) 0 w=i:=λi hi=>by
  obtain⟨w,e,d⟩:=b.rc i hi;exact⟨w,by rw [b.al];exact e,d⟩
 have:=canon b.g b.g rfl (λ_ _=>rfl) c b.ds;rw [<-this];exact iL b.g c
end Go.Am
