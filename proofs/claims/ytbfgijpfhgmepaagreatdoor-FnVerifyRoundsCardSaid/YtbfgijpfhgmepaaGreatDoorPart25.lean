/-
  The reference: the column that a wrong word shows.
-/
import Derived.Test.YtbfgijpfhgmepaaGreatDoorPart24
import Derived.Test.YtbfgijpfhgmepaaGreatDoorPart19
import Derived.Test.YtbfgijpfhgmepaaGreatDoorPart23
import Derived.Test.YtbfgijpfhgmepaaGreatDoorPart17
import Derived.Test.YtbfgijpfhgmepaaGreatDoorPart12
import Derived.Test.YtbfgijpfhgmepaaGreatDoorPart21
set_option linter.constructorNameAsVariable false
set_option linter.unusedSectionVars false
set_option linter.unusedSimpArgs false
set_option linter.unusedVariables false
namespace Go.Am
open Go Go.Proofs
set_option maxHeartbeats 1000000
attribute [local irreducible] AX Cb Lex Bh Aj Spec
variable {TB:Bz}
def Fo(A:W->Bool)(al:Int)(t:A0)(w:W):Option W:=if BD A al t && Gf al w then CJ A t w else none
theorem OR{al:Int}{w:W}(h:Gf al w=true):AT (A6 al) w/\w.length<=4000/\within w al=true:=by
 unfold Gf at h;rw [d4,decide_eq_true_eq] at h;exact⟨Ex h.1,h.2,h.1⟩
theorem aG{A:W->Bool}{al:Int}{t:A0}{w:W}(ha:A7 al=true)(a:BX A (A6 al) t)(c:t.rows.length<=12)(b:Gf al w=true):PQ (AY A al t) w=NG A t w:=by
 obtain⟨e,f,d⟩:=OR b;unfold PQ;rw [NU ha a c,RF a e]
 show (true && (within w al && _))=_
 rw [d];rfl
theorem UP{A:W->Bool}{t:A0}{w:W}{k q:Nat}{c:UInt8}{R:Option W}(d:w[k]? = some c)(a:R=splitAt A t (A w) q (w.drop k)) :
 (A (t.rows.getD (Da A t (t.rows.getD q []++[c])) []++w.drop (k+1))≠A w->R=some (w.drop (k+1)))/\(A (t.rows.getD (Da A t (t.rows.getD q []++[c])) []++w.drop (k+1))=A w->R=splitAt A t (A w) (Da A t (t.rows.getD q []++[c])) (w.drop (k+1))):=by
 have:=Ly (L:=A) (t:=t) (b:=A w) (q:=q) d;rw [this] at a;exact⟨λh=>by rw [a,if_pos h],λh=>by rw [a,if_neg (by simpa using h)]⟩
theorem Qm{t:EF}{al:Int}{A:W->Bool}(G:J6 Tryz.prog TB 120 175 t al A)(hal:0<=al->A7 al=true)(tab:A0)(P:Vm tab)(w:W)(hw:w.length<=1048576) :
 Pure Tryz.prog TB 133 [EE t,DY tab,eT w] (Y7 (Fo A al tab w)):=by
 have n:=Hg G tab P;have q:=OS G w (by omega);have h4:=G.ask w (by omega);by_cases r:BD A al tab=true
 ·rw [if_pos r] at n
  obtain⟨Q,ho,f⟩:=Mi r;have d:=(EW Q).1;have ha:=hal d.pos;have hau:=NU ha f d.rl;have I:=On (TB:=TB) (AY A al tab) w (by omega);by_cases i:Gf al w=true
  ·rw [i] at q
   rw [aG ha f d.rl i] at I
   have u:Fo A al tab w=CJ A tab w:=by unfold Fo;rw [r,i];rfl
   rw [u];by_cases J:NG A tab w=A w
   ·have y:CJ A tab w=none:=by unfold CJ;rw [if_pos J]
    rw [y];rw [J] at I;refine eG Tryz.func133 rfl (by kernel_rfl) rfl ?_;intro Z b;(repeat' first|refine tA rfl ?_ |(refine s2 rfl λ_ a=>?_;try (simp only[n9,og] at a;subst a)) |refine sP rfl (n) rfl ?_|refine sP rfl (q) rfl ?_|refine sP rfl (I) rfl ?_|refine sP rfl (h4) rfl ?_ |refine aU rfl ?_ |refine Aa ?_ |refine rE (by kernel_rfl) ?_|(refine aC rfl ?_ ?_<;>rintro⟨⟩)|refine aK ?_|refine aE ?_|refine aB ?_|refine aR ⟨_,rfl,?_⟩)
    all_goals first
     | rfl
     | (exfalso;grind;done)
   ·obtain⟨R,M⟩:∃R,R=CJ A tab w:=⟨_,rfl⟩
    rw [<-M]
    have M:R=splitAt A tab (A w) 0 (w.drop 0):=by rw [M];unfold CJ;rw [if_neg J];rfl
    obtain⟨m,hw4,_⟩:=OR i;have hrl:=d.rl;have T:=d.r1;refine eG Tryz.func133 rfl (by kernel_rfl) rfl ?_;intro Z b;(repeat first|refine tA rfl ?_ |refine sP rfl (n) rfl ?_|refine sP rfl (q) rfl ?_|refine sP rfl (I) rfl ?_|refine sP rfl (h4) rfl ?_ |refine aU rfl ?_ |refine Aa ?_);refine rG (Gj []) (by kernel_rfl) ?_;(repeat first|refine tA rfl ?_ |(refine s2 rfl λ_ a=>?_;try (simp only[n9,og] at a;subst a)) |refine sP rfl (n) rfl ?_|refine sP rfl (q) rfl ?_|refine sP rfl (I) rfl ?_|refine sP rfl (h4) rfl ?_ |refine Aa ?_);refine Aj.cond rfl (λhb=>?_) (λhb=>?_)<;>cases hb
    ·exfalso;exact J (by simpa using a)
    refine aK ?_;(repeat first|refine tA rfl ?_ |refine aU rfl ?_ |refine Aa ?_);have h0:0 < tab.rows.length:=T;refine aB ?_;refine aL (α:={k:Nat // k<=w.length/\R=splitAt A tab (A w) (runM A tab 0 (w.take k)) (w.drop k)/\A (tab.rows.getD (runM A tab 0 (w.take k)) []++w.drop k)=A w}) [2,3,4,8] [0] rfl rfl (λ⟨k,hk,p,H⟩=>[(10,eI .i64 (runM A tab 0 (w.take k):Nat)),(11,eI .i64 k)]) (λ⟨k,hk,p,H⟩=>[]) 1 (λ⟨k,hk,p,H⟩=>w.length - k) (⟨0,by omega,M,by simp [d.r0,runM]⟩) b rfl (by (simp[cX,zC,b]<;>rfl)) ?_;rintro⟨k,hk,p,H⟩;(try dsimp only[cA,cB]);have x:=f.run (w.take k) 0 (Jy m k) h0;by_cases X:k < w.length
    ·obtain⟨c,K⟩:=get_some X
     have hc':w[((k:Nat):Int).toNat]? = some c:=by simpa using K
     have F:=m c (co K);have B:=Ij F;have Y:=Ih (TB:=TB) w k c hc'
     have hnl:(AY A al tab).nx.length=tab.rows.length:=by simp [AY]
     have z:=Jt (TB:=TB) (AY A al tab) hau (runM A tab 0 (w.take k)) (by omega) ((c.toNat:Int) - 97) B.1 B.2;have s:=MK (L:=A) (t:=tab) K 0;have v:=f.run (w.take (k+1)) 0 (Jy m (k+1)) h0;rw [K3 (L:=A) (al:=al) (t:=tab) x F,<-s] at z;have e:=UP K p;rw [<-s] at e;obtain⟨N,l⟩:=get_some x;have hx1':=get_map (g:=CN) l;obtain⟨o,j⟩:=get_some v;have hx2':=get_map (g:=CN) j
     have e1:tab.rows.getD (runM A tab 0 (w.take k)) []=N:=by simp [l]
     have e2:tab.rows.getD (runM A tab 0 (w.take (k+1))) []=o:=by simp [j]
     have hr1b:=P.rb N (co l);have hr2b:=P.rb o (co j);rw [e1] at H;rw [e2] at e
     have V:Pure Tryz.prog TB 175 [EE t,eT (N++w.drop ((k:Nat):Int).toNat)] (eB (A w)):=by
      rw [i7,<-H];exact G.ask _ (by simp;omega)
     have ek:(((k:Nat):Int)+1).toNat=k+1:=by omega
     have U:Pure Tryz.prog TB 175 [EE t,eT (o++w.drop (((k:Nat):Int)+1).toNat)] (eB (A (o++w.drop (k+1)))):=by
      rw [ek];exact G.ask _ (by simp;omega)
     have hd1:(w.drop ((k:Nat):Int).toNat).length<=1048576:=by simp;omega
     have hd2:(w.drop (((k:Nat):Int)+1).toNat).length<=1048576:=by simp;omega
     (repeat first|refine tA rfl ?_ |refine s2 rfl λ_ a=>?_ |refine aU rfl ?_ |refine Aa ?_);refine Aj.cond rfl (λhb=>?_) (λhb=>?_)<;>cases hb
     rotate_left
     ·exfalso;(simp only[oZ] at *;omega)
     (repeat' first|(refine sA rfl ?_ ?_;first|exact tI|omega) |(refine s4 rfl ‹_› rfl ?_ ?_;omega) |refine s2 rfl λ_ a=>?_ |refine sP rfl (Y) rfl ?_|refine sP rfl (z) rfl ?_|refine sP rfl (V) rfl ?_|refine sP rfl (U) rfl ?_|(refine Ag rfl ?_;refine gA rfl ?_;first| refine gS (λ_ _=>Ej rfl rfl (by omega) (by omega)) ?_) |refine aU rfl ?_ |refine Aa ?_ |refine rE (by kernel_rfl) ?_|(refine aC rfl ?_ ?_<;>rintro⟨⟩)|refine aK ?_|refine aE ?_|refine aB ?_|refine aR ⟨_,rfl,?_⟩)
     ·have y:=e.1 (by intro h;rw [h] at a;simp at a)
      rw [y]
      show E.t _=E.t _
      rw [ek]
     ·have S:=e.2 (by simpa using (by simpa using a:A w=A (o++w.drop (k+1))).symm)
      have hA2:A (tab.rows.getD (runM A tab 0 (w.take (k+1))) []++w.drop (k+1))=A w:=by rw [e2];exact(by simpa using a:A w=A (o++w.drop (k+1))).symm
      refine⟨⟨k+1,by omega,S,hA2⟩,by dsimp only;(omega),[0],?_⟩;simp[cX,zC,b]
    ·obtain rfl:k=w.length:=by omega
     rw [pB] at p;have y:R=none:=p;rw [y];(repeat first|refine tA rfl ?_ |refine s2 rfl λ_ a=>?_ |refine aU rfl ?_ |refine Aa ?_);refine Aj.cond rfl (λhb=>?_) (λhb=>?_)<;>cases hb
     ·exfalso;(simp only[oZ] at *;omega)
     (repeat' first|refine tA rfl ?_ |refine aU rfl ?_ |refine Aa ?_|(refine aC rfl ?_ ?_<;>rintro⟨⟩)|refine aK ?_|refine aE ?_|refine aB ?_|refine aR ⟨_,rfl,?_⟩);rfl
  ·have i:Gf al w=false:=by simpa using i
   rw [i] at q
   have u:Fo A al tab w=none:=by unfold Fo;rw [i];simp
   rw [u];refine eG Tryz.func133 rfl (by kernel_rfl) rfl ?_;intro Z b;(repeat' first|refine tA rfl ?_ |(refine s2 rfl λ_ a=>?_;try (simp only[n9,og] at a;subst a)) |refine sP rfl (n) rfl ?_|refine sP rfl (q) rfl ?_ |refine aU rfl ?_ |refine Aa ?_ |refine rE (by kernel_rfl) ?_|(refine aC rfl ?_ ?_<;>rintro⟨⟩)|refine aK ?_|refine aE ?_|refine aB ?_|refine aR ⟨_,rfl,?_⟩)
   all_goals first
    | rfl
    | (exfalso;grind;done)
 ·have u:Fo A al tab w=none:=by unfold Fo;simp [r]
  rw [if_neg r] at n;rw [u];refine eG Tryz.func133 rfl (by kernel_rfl) rfl ?_;intro Z b;(repeat' first|refine tA rfl ?_ |(refine s2 rfl λ_ a=>?_;try (simp only[n9,og] at a;subst a)) |refine sP rfl (n) rfl ?_ |refine aU rfl ?_ |refine Aa ?_ |refine rE (by kernel_rfl) ?_|(refine aC rfl ?_ ?_<;>rintro⟨⟩)|refine aK ?_|refine aE ?_|refine aB ?_|refine aR ⟨_,rfl,?_⟩)
  all_goals first
   | rfl
   | (exfalso;grind;done)
noncomputable def Hj(te:EF)(x:A0):Option A0:=if (CT te && A5 (CD te) (Bb te) x)=true then Bo (CD te) (A6 (Bb te)) 13 x else none
noncomputable def Sm(te:EF):Option A0:=if CT te=true then Bo (CD te) (A6 (Bb te)) 13 Bu else none
noncomputable def YU(te:EF)(x:A0):Option AZ:=if (CT te && BD (CD te) (Bb te) x)=true then some (AY (CD te) (Bb te) x) else none
section
variable {tabs:List (Nat×Obj)}[hTb:Dt ⟨tabs,none⟩]{te:EF}
include hTb
end
def H0(A:W->Bool)(al:Int)(t:A0):Option A0:=if A5 A al t then Bo A (A6 al) 13 t else none
def LC(A:W->Bool)(al:Int)(t:A0)(w:W):Option A0:=(Fo A al t w).bind λv=>(Oo A al t v).bind λu=>H0 A al u
theorem WT{A:W->Bool}{al:Int}{t:A0}{w v:W}(h:Fo A al t w=some v):v.length<=w.length:=by
 unfold Fo at h;split at h
 ·obtain⟨p,_,rfl⟩:=Iu h
  simp
 ·cases h
theorem dW{A:W->Bool}{al:Int}{t u:A0}{w:W}(h:Oo A al t w=some u):Vm u:=by
 unfold Oo at h;split at h
 ·rename_i d
  rw [d4] at d;have b:=(EW d.1).1;have f:=OR d.2;unfold Fy at h;split at h
  ·cases h
  ·injection h with h
   subst h;have c:=b.sz;have e:=b.cl;refine⟨c.rl,by simp;omega,c.rb,λx a=>?_⟩
   rcases em.1 a with a|a
   ·exact c.cb x a
   ·simp at a;subst a;omega
 ·cases h
theorem Qc{t:EF}{al:Int}{A:W->Bool}(g:J6 Tryz.prog TB 120 175 t al A)(hal:0<=al->A7 al=true)(tab:A0)(h:Vm tab)(w:W)(j:w.length<=1048576) :
 Pure Tryz.prog TB 73 [EE t,DY tab,eT w] (Iz (LC A al tab w)):=by
 have e:=Qm g hal tab h w j
 rcases b:Fo A al tab w with _|v
 ·have d:LC A al tab w=none:=by unfold LC;rw [b];rfl
  rw [d];rw [b] at e;refine eG Tryz.func73 rfl (by kernel_rfl) rfl ?_;intro Z c;(repeat' first|refine tA rfl ?_ |(refine s2 rfl λ_ a=>?_;try (simp only[n9,og] at a;subst a)) |refine sP rfl (e) rfl ?_|(refine Ag rfl ?_;refine gA rfl ?_;first| refine gS (λ_ _=>AF rfl rfl (by rfl) (by rfl)) ?_) |refine aU rfl ?_ |refine Aa ?_|(refine aC rfl ?_ ?_<;>rintro⟨⟩)|refine aK ?_|refine aE ?_|refine aB ?_|refine aR ⟨_,rfl,?_⟩)
  all_goals rfl
 ·rw [b] at e
  have l:=WT b;have f:=PR g tab h v (by omega)
  rcases ha:Oo A al tab v with _|u
  ·have d:LC A al tab w=none:=by unfold LC;rw [b];simp [ha]
   rw [d];rw [ha] at f;refine eG Tryz.func73 rfl (by kernel_rfl) rfl ?_;intro Z c;(repeat' first|refine tA rfl ?_ |(refine s2 rfl λ_ a=>?_;try (simp only[n9,og] at a;subst a)) |refine sP rfl (e) rfl ?_|refine sP rfl (f) rfl ?_|(refine Ag rfl ?_;refine gA rfl ?_;first| refine gS (λ_ _=>AF rfl rfl (by rfl) (by rfl)) ?_) |refine aU rfl ?_ |refine Aa ?_|(refine aC rfl ?_ ?_<;>rintro⟨⟩)|refine aK ?_|refine aE ?_|refine aB ?_|refine aR ⟨_,rfl,?_⟩)
   all_goals rfl
  ·have d:LC A al tab w=H0 A al u:=by unfold LC;rw [b];simp [ha]
   rw [d];rw [ha] at f;have i:Pure Tryz.prog TB 118 [EE t,DY u] (Iz (H0 A al u)):=IT g u (dW ha)
   rcases k:H0 A al u with _|x<;>rw [k] at i<;>(
    refine eG Tryz.func73 rfl (by kernel_rfl) rfl ?_;intro Z c;(repeat' first|refine tA rfl ?_ |(refine s2 rfl λ_ a=>?_;try (simp only[n9,og] at a;subst a)) |refine sP rfl (e) rfl ?_|refine sP rfl (f) rfl ?_|refine sP rfl (i) rfl ?_|(refine Ag rfl ?_;refine gA rfl ?_;first| refine gS (λ_ _=>AF rfl rfl (by rfl) (by rfl)) ?_) |refine aU rfl ?_ |refine Aa ?_|(refine aC rfl ?_ ?_<;>rintro⟨⟩)|refine aK ?_|refine aE ?_|refine aB ?_|refine aR ⟨_,rfl,?_⟩)
    all_goals rfl)
end Go.Am
namespace Go.Am
open Go
set_option linter.unusedVariables false
theorem aF{p:AZ}(a:AP p=true):Td (PQ p) (LA p) p.al:=λw b c=>by
 unfold PQ;rw [a,GI b c (AH a).1];rfl
theorem aH{A L:W->Bool}{al:Int}{b:Nat}{t:A0}(h:Td A L al)(ht:GU al b t)(hb:b<=20100)(hk:BX L (A6 al) t){w:W}(a:AT (A6 al) w):NG A t w=NG L t w:=by
 rw [<-RF (hk.lA h ht hb) a,<-RF hk a,Ts h ht hb]
theorem WS{A L:W->Bool}{al:Int}{b:Nat}{t:A0}(h:Td A L al)(ht:GU al b t)(hb:b<=20100)(hk:BX L (A6 al) t){w:W}(a:AT (A6 al) w)(c:w.length<=20000):CJ A t w=CJ L t w:=by
 have d:0 < t.rows.length:=(ce.1 hk.r0).1;unfold CJ;rw [aH h ht hb hk a,h w a (by omega),Nv h ht hb hk (L w) w 0 d a c]
end Go.Am
namespace Go.Am
open Go Go.Proofs
set_option maxHeartbeats 1000000
attribute [local irreducible] AX Cb Lex Bh Aj Spec
variable {TB:Bz}
noncomputable def Fq(te:EF)(w:W):Bool:=if te.kn then PQ te.p w else J5 ⟨te.s,te.q,te.al⟩ w
def Ee(te:EF):Int:=if CT te then Bb te else -1
theorem Rt{t:CK}(ht:Bc t=true):Td (J5 t) (LS t) t.al:=λw b c=>by
 have a:A7 t.al=true:=by unfold Bc at ht;simp only [d4] at ht;exact ht.2.2
 unfold J5;rw [ht,GI b c a];rfl
theorem HS{te:EF}(a:CT te=true):Td (Fq te) (CD te) (Bb te):=by
 obtain⟨kn,p,s,q,al⟩:=te
 cases kn with
 | true=>exact aF a
 | false=>exact Rt (t:=⟨s,q,al⟩) a
structure m9 (n m:Nat) (t:A0):Prop where
 rl:t.rows.length<=n
 cl:t.cols.length<=n
 rb:∀w∈t.rows,w.length<=m
 cb:∀w∈t.cols,w.length<=m
theorem PW{c:C}{L:W->Bool}{ok:W->Prop}(H:JK Tryz.prog TB c L ok)(al:Int)(t:A0)(V:IL ok (A6 al) t)(ht:GU al 20012 t)(ho:Bg L (A6 al) t=none) :
 AR Tryz.prog TB 61 0 [] 0 [IV al c,DY t] (KD (AY L al t)):=by
 have e:=ES c H.Cj;have hrl:=ht.rl;have hcl:=ht.cl;have hla:(Ac al).length<=6:=AK al 6;have n:=ht.gT V (by omega)
 have K:(AY L al t).nx.length=t.rows.length:=by simp [AY]
 have hal:(AY L al t).ac.length=t.rows.length:=by simp [AY]
 refine AR.Be (AR.QY (m:=0) (am rfl) Tryz.func61 rfl (by kernel_rfl) (am rfl) ?_);intro Z b;(repeat first |refine sN rfl ?_ |((first|refine sM rfl ?_ ?_|refine s4 rfl ‹_› rfl ?_ ?_);first|exact tI|omega|simp only[oZ] at *;omega) |refine s2 rfl λ_ a=>?_ |refine s3 rfl ?_ ?_<;>rintro rfl |refine aU rfl ?_ |refine Aa ?_ |refine rE (by kernel_rfl) ?_);(refine pW rfl ?_ rfl (by rfl);refine C5 rfl rfl ?_);(refine Ag rfl ?_;refine CB (λ_ _=>C4 rfl rfl rfl) rfl ?_);(repeat first |refine sN rfl ?_ |((first|refine sA rfl ?_ ?_|refine s4 rfl ‹_› rfl ?_ ?_);first|exact tI|omega|simp only[oZ] at *;omega) |refine s2 rfl λ_ a=>?_ |refine s3 rfl ?_ ?_<;>rintro rfl |refine aU rfl ?_ |refine Aa ?_);(refine pW rfl ?_ rfl (by rfl);refine Ai [] rfl rfl (Hn H al t n.1) ⟨rfl,by simp,by simp⟩ (by simp [EP,E.Be,C.Cv,C.Be,e,eC]) trivial ?_;rintro x0 X Y ⟨rfl,rfl,rfl⟩ _);(repeat first |refine sN rfl ?_ |((first|refine sA rfl ?_ ?_|refine s4 rfl ‹_› rfl ?_ ?_);first|exact tI|omega|simp only[oZ] at *;omega) |refine s2 rfl λ_ a=>?_ |refine s3 rfl ?_ ?_<;>rintro rfl |refine aU rfl ?_ |refine Aa ?_);(refine pW rfl ?_ rfl (by rfl);refine Jw 1 1 62 2 1 4 rfl rfl (by decide) rfl rfl (by rfl) (by rfl) ?_);(repeat first |refine sN rfl ?_ |((first|refine sA rfl ?_ ?_|refine s4 rfl ‹_› rfl ?_ ?_);first|exact tI|omega|simp only[oZ] at *;omega) |refine s2 rfl λ_ a=>?_ |refine s3 rfl ?_ ?_<;>rintro rfl |refine aU rfl ?_ |refine Aa ?_);refine aB ?_;refine Aj.dr 3 ?_;refine aL (α:={s:Nat×Iy // s.1<=t.rows.length/\s.2.map (·.2)=(AY L al t).nx.take s.1}) [2,3,4,5,6,19,20] [0,1,2] rfl rfl (λs=>[(21,eI .i64 s.1.1)]) (λs=>[(5,.cells 29 3 [[.d (iD al),.arr 3 1 0 s.1.2.length,.arr 4 1 0 s.1.1]]),(3,.cells 62 1 (AA s.1.2)),(4,.cells 4 1 (((AY L al t).ac.take s.1.1).map AS)),(6,.sld 3 (sI s.1.2))]) 7 (λs=>t.rows.length - s.1.1) (⟨⟨0,[]⟩,by simp,by simp⟩) b rfl (by ((repeat' first|exact tI|rfl|refine And.intro ?_ ?_)<;>(simp[cX,zC,b,cN,e,eC,BN,Ae]<;>rfl))) ?_;rintro⟨⟨k,l⟩,B,A⟩;(try dsimp only[cA,cB]);have B:k<=t.rows.length:=B;have A:l.map (·.2)=(AY L al t).nx.take k:=A
 have hll:l.length=k:=by have:=congrArg List.length A;simp at this;omega
 by_cases R:k < t.rows.length
 ·obtain⟨r,u⟩:=get_some (l:=t.rows) (k:=k) R
  have hx':=get_map (g:=CN) u;have f:=co u;(repeat first |refine sN rfl ?_ |((first|refine sA rfl ?_ ?_|refine s4 rfl ‹_› rfl ?_ ?_);first|exact tI|omega|simp only[oZ] at *;omega) |refine s2 rfl λ_ a=>?_ |refine s3 rfl ?_ ?_<;>rintro rfl |refine aU rfl ?_ |refine Aa ?_)
  ((refine aC rfl ?_ ?_<;>rintro⟨⟩);all_goals try(exfalso;first|omega|simp only[oZ] at *;omega))
  refine aK ?_;refine aS (aB ?_);(repeat first |refine sN rfl ?_ |((first|refine sM rfl ?_ ?_|refine s4 rfl ‹_› rfl ?_ ?_);first|exact tI|omega|simp only[oZ] at *;omega) |refine s2 rfl λ_ a=>?_ |refine s3 rfl ?_ ?_<;>rintro rfl |refine aU rfl ?_ |refine Aa ?_ |refine rE (by kernel_rfl) ?_);(refine pW rfl ?_ rfl (by rfl);refine Hc 1 3 ?_);(repeat first |refine sN rfl ?_ |((first|refine sM rfl ?_ ?_|refine s4 rfl ‹_› rfl ?_ ?_);first|exact tI|omega|simp only[oZ] at *;omega) |refine s2 rfl λ_ a=>?_ |refine sP rfl (CR al) rfl ?_ |refine s3 rfl ?_ ?_<;>rintro rfl |refine aU rfl ?_ |refine Aa ?_ |refine rE (by kernel_rfl) ?_);refine aB ?_;refine aL (α:={j:Nat // j<=(Ac al).length}) [2,3,4,5,6,8,19,20,21,27,28] [0,1,2,3,4,5,6] rfl rfl (λs=>[(9,.o (.arr 7 1 0 s.1)),(29,eI .i64 s.1)]) (λs=>[(7,.cells 3 1 (((Ac al).take s.1).map λl=>[.d (iD ((Da L t (r++[lb l]):Nat):Int))]))]) 8 (λs=>(Ac al).length - s.1) (⟨0,by omega⟩) b rfl (by ((repeat' first|exact tI|rfl|refine And.intro ?_ ?_)<;>(simp[cX,zC,b,cN,e,eC]<;>rfl))) ?_;rintro⟨j,G⟩;(try dsimp only[cA,cB]);have G:j<=(Ac al).length:=G;by_cases F:j < (Ac al).length
  ·obtain⟨m,P⟩:=get_some F
   have hm':=get_map (g:=Bq) P;have p:=co P;have z:=Au p;have hrb:=ht.onR r f;have N:=Lb (TB:=TB) H al t (r++[lb m]) (by omega) (λx u=>n.2 r f _ (d9.2 ⟨m,p,rfl⟩) x u) (λy hy=>by have:=(ht.onC y hy).2;simp;omega);have S:=Ud ho f p;(repeat first |refine sN rfl ?_ |((first|refine sA rfl ?_ ?_|refine s4 rfl ‹_› rfl ?_ ?_);first|exact tI|omega|simp only[oZ] at *;omega) |refine s2 rfl λ_ a=>?_ |refine s3 rfl ?_ ?_<;>rintro rfl |refine aU rfl ?_ |refine Aa ?_)
   ((refine aC rfl ?_ ?_<;>rintro⟨⟩);all_goals try(exfalso;first|omega|simp only[oZ] at *;omega))
   refine aK ?_;refine aS (aB ?_);(repeat first |refine sN rfl ?_ |((first|refine sA rfl ?_ ?_|refine s4 rfl ‹_› rfl ?_ ?_);first|exact tI|omega|simp only[oZ] at *;omega) |refine s2 rfl λ_ a=>?_ |refine s3 rfl ?_ ?_<;>rintro rfl |refine aU rfl ?_ |refine Aa ?_);refine rG (Gj [13]) (by kernel_rfl) ?_;(repeat first |refine sN rfl ?_ |((first|refine sA rfl ?_ ?_|refine s4 rfl ‹_› rfl ?_ ?_);first|exact tI|omega|simp only[oZ] at *;omega) |refine s2 rfl λ_ a=>?_ |refine sP rfl (Fv m z.1 (by omega)) rfl ?_|(refine Ag rfl ?_;refine gA rfl ?_;first|refine gS (λ_ _=>WG rfl (by omega) (by omega)) ?_) |refine s3 rfl ?_ ?_<;>rintro rfl |refine aU rfl ?_ |refine Aa ?_);rw [bN z.1];(repeat first |refine sN rfl ?_ |((first|refine sM rfl ?_ ?_|refine s4 rfl ‹_› rfl ?_ ?_);first|exact tI|omega|simp only[oZ] at *;omega) |refine s2 rfl λ_ a=>?_|(refine Ag rfl ?_;refine gA rfl ?_;first|refine gS (λ_ _=>Bt rfl rfl (by simp [E.Cj,C.Dg,C.Cj,H.Cj,eC]) N rfl) ?_|refine gQ (X7 rfl rfl rfl) (by rfl) ?_) |refine s3 rfl ?_ ?_<;>rintro rfl |refine aU rfl ?_ |refine Aa ?_ |refine rE (by kernel_rfl) ?_);(repeat first |refine sN rfl ?_ |((first|refine sA rfl ?_ ?_|refine s4 rfl ‹_› rfl ?_ ?_);first|exact tI|omega|simp only[oZ] at *;omega) |refine s2 rfl λ_ a=>?_ |refine s3 rfl ?_ ?_<;>rintro rfl |refine aU rfl ?_ |refine Aa ?_);(refine pW rfl ?_ rfl (by rfl);refine Al rfl rfl rfl (by first|(simp;done)|(simp;(first|omega|simp only[oZ] at *;omega))) rfl (by intro r e;simp at e;subst e;rfl) (by rfl) (am rfl) (by simp;omega) ?_);(repeat first |refine sN rfl ?_ |((first|refine sA rfl ?_ ?_|refine s4 rfl ‹_› rfl ?_ ?_);first|exact tI|omega|simp only[oZ] at *;omega) |refine s2 rfl λ_ a=>?_ |refine s3 rfl ?_ ?_<;>rintro rfl |refine aU rfl ?_ |refine Aa ?_);rw [S];refine⟨⟨j+1,by first|omega|simp only[oZ] at *;omega⟩,by dsimp only;(first|omega|simp only[oZ] at *;omega),[0,1,2,3,4,5,6,8],?_⟩;simp[cX,zC,b,cN,e,d8,P]
  ·obtain rfl:j=(Ac al).length:=by omega
   have I:=V r ⟨r,f,[],.inl rfl,[],.inl rfl,by simp⟩
   have J:(AY L al t).nx.take (k+1)=(AY L al t).nx.take k++[(Ac al).map λl=>((Da L t (r++[lb l]):Nat):Int)]:=by
    rw [d8];simp [AY,u]
   have q:(AY L al t).ac.take (k+1)=(AY L al t).ac.take k++[L r]:=by
    rw [d8];simp [AY,u]
   rw [io];generalize h:(Ac al).map (λl=>((Da L t (r++[lb l]):Nat):Int))=row at *
   have w:(Ac al).length=row.length:=by rw [<-h];simp
   have M:(Ac al).map (λl=>[C.d (iD ((Da L t (r++[lb l]):Nat):Int))])=row.map AD:=by rw [<-h,n7];rfl
   (repeat first |refine sN rfl ?_ |((first|refine sA rfl ?_ ?_|refine s4 rfl ‹_› rfl ?_ ?_);first|exact tI|omega|simp only[oZ] at *;omega) |refine s2 rfl λ_ a=>?_ |refine s3 rfl ?_ ?_<;>rintro rfl |refine aU rfl ?_ |refine Aa ?_)
   ((refine aC rfl ?_ ?_<;>rintro⟨⟩);all_goals try(exfalso;first|omega|simp only[oZ] at *;omega))
   refine aE ?_;(repeat first |refine sN rfl ?_ |((first|refine sX rfl ?_ ?_|refine s4 rfl ‹_› rfl ?_ ?_);first|exact tI|omega|simp only[oZ] at *;omega) |refine s2 rfl λ_ a=>?_ |refine s3 rfl ?_ ?_<;>rintro rfl |refine aU rfl ?_ |refine Aa ?_);(refine pW rfl ?_ rfl (by rfl);refine Bf rfl rfl rfl rfl (by simp [eC]) (by rfl) (by rfl) (by rfl) (by rfl) ?_);(repeat first |refine sN rfl ?_ |((first|refine sX rfl ?_ ?_|refine s4 rfl ‹_› rfl ?_ ?_);first|exact tI|omega|simp only[oZ] at *;omega) |refine s2 rfl λ_ a=>?_ |refine s3 rfl ?_ ?_<;>rintro rfl |refine aU rfl ?_ |refine Aa ?_);(refine pW rfl ?_ rfl (by rfl);refine Al rfl rfl rfl (CI _) rfl (by intro r e;simp at e;subst e;rfl) (by rfl) (am rfl) (by simp;omega) ?_);(repeat first |refine sN rfl ?_ |((first|refine sX rfl ?_ ?_|refine s4 rfl ‹_› rfl ?_ ?_);first|exact tI|omega|simp only[oZ] at *;omega) |refine s2 rfl λ_ a=>?_ |refine s3 rfl ?_ ?_<;>rintro rfl |refine aU rfl ?_ |refine Aa ?_);refine Aj.Ay [2,3,4,5,6,8,19,20,21] [0,1,2,4] rfl rfl [] [(3,.cells 62 1 (AA l++[[.arr 7 1 0 row.length]])),(5,.cells 29 3 [[.d (iD al),.arr 3 1 0 (l.length+1),.arr 4 1 0 k]]),(6,.sld 3 (sI l)),(7,.cells 3 1 (row.map AD))] [0,1,2,9,4,5,6,7] (rl b rfl) (by ((repeat' first|exact tI|rfl|refine And.intro ?_ ?_)<;>(simp[cX,zC,b,cN,e,BN,Ae,eC,w,M]<;>rfl))) ?_;(try dsimp only[cA,cB]);refine Aj.Sx 3 7 6 l row rfl rfl rfl λv=>?_;(repeat first |refine sN rfl ?_ |((first|refine sA rfl ?_ ?_|refine s4 rfl ‹_› rfl ?_ ?_);first|exact tI|omega|simp only[oZ] at *;omega) |refine s2 rfl λ_ a=>?_ |refine s3 rfl ?_ ?_<;>rintro rfl |refine aU rfl ?_ |refine Aa ?_);refine rG (Gj [7,9]) (by kernel_rfl) ?_;(repeat first |refine sN rfl ?_ |((first|refine sA rfl ?_ ?_|refine s4 rfl ‹_› rfl ?_ ?_);first|exact tI|omega|simp only[oZ] at *;omega) |refine s2 rfl λ_ a=>?_|(refine Ag rfl ?_;refine gA rfl ?_;first|refine gS (λ_ _=>H.ask rfl rfl I) ?_) |refine s3 rfl ?_ ?_<;>rintro rfl |refine aU rfl ?_ |refine Aa ?_);(refine pW rfl ?_ rfl (by rfl);refine Al rfl rfl rfl (by first|(simp;done)|(simp;(first|omega|simp only[oZ] at *;omega))) rfl (by intro r e;simp at e;subst e;rfl) (by rfl) (am rfl) (by simp;omega) ?_);(repeat first |refine sN rfl ?_ |((first|refine sA rfl ?_ ?_|refine s4 rfl ‹_› rfl ?_ ?_);first|exact tI|omega|simp only[oZ] at *;omega) |refine s2 rfl λ_ a=>?_ |refine s3 rfl ?_ ?_<;>rintro rfl |refine aU rfl ?_ |refine Aa ?_);refine⟨⟨⟨k+1,l++[(v,row)]⟩,by dsimp only;omega,by dsimp only;rw [nY,A,J];rfl⟩,by dsimp only;(first|omega|simp only[oZ] at *;omega),[0,1,2,3,8,5,6],?_⟩;simp[cX,zC,b,cN,e,eC,BN,Ae,q]
 ·have T:k=t.rows.length:=by omega
  (repeat first |refine sN rfl ?_ |((first|refine sA rfl ?_ ?_|refine s4 rfl ‹_› rfl ?_ ?_);first|exact tI|omega|simp only[oZ] at *;omega) |refine s2 rfl λ_ a=>?_ |refine s3 rfl ?_ ?_<;>rintro rfl |refine aU rfl ?_ |refine Aa ?_)
  ((refine aC rfl ?_ ?_<;>rintro⟨⟩);all_goals try(exfalso;first|omega|simp only[oZ] at *;omega))
  refine aE ?_;(repeat first |refine sN rfl ?_ |((first|refine sA rfl ?_ ?_|refine s4 rfl ‹_› rfl ?_ ?_);first|exact tI|omega|simp only[oZ] at *;omega) |refine s2 rfl λ_ a=>?_ |refine s3 rfl ?_ ?_<;>rintro rfl |refine aU rfl ?_ |refine Aa ?_)
  have Q:l.map (·.2)=(AY L al t).nx:=by rw [A,T,<-K,io]
  have U:l.length=t.rows.length:=by omega
  have q:(AY L al t).ac.take k=(AY L al t).ac:=ge (by rw [hal];omega);rw [q]
  obtain rfl:k=(AY L al t).ac.length:=by omega
  refine aR ⟨_,rfl,[3,4,6],VH al 0 1 l.length (AY L al t).ac.length,[(0,.cells 62 1 (AA l)),(1,.cells 4 1 ((AY L al t).ac.map AS)),(2,.sld 3 (sI l))],⟨by intro i hi;omega,by decide⟩,rfl,by ((repeat' first|exact tI|rfl|refine And.intro ?_ ?_)<;>(simp[cX,zC,b,cN]<;>rfl)),l,Q,rfl,rfl,rfl⟩
section
variable {tabs:List (Nat×Obj)}[hTb:Dt ⟨tabs,none⟩]{te:EF}
include hTb
end
end Go.Am
namespace Go.Am
open Go
section
variable {P:Program}{TB:Bz}{Z:Ctx}{σ:Ab}
theorem Inv.freeze{V:View}(hi:Inv TB Z V σ)(ids:List Nat):Inv TB Z (FR V (GN σ ids)) (BU ids σ):=by
 have g:∀id o,look (GN σ ids) id=some o->look σ id=some o:=λid o h=>(Es h).2;have e:Ext V (FR V (GN σ ids)):=KN;refine⟨hi.os,hi.tape,hi.output,hi.old,?_,?_,hi.ext.trans e,⟨?_,?_,?_,?_⟩,?_,λx n=>⟨.inl (hi.tabs x n).1,(hi.tabs x n).2⟩,hi.hid.same rfl (λ_ h=>.inl h) (λb hb=>hb.elim .inl λ⟨id,o,a,c,m⟩=>.inr ⟨id,o,g _ _ a,c,m⟩) λb ⟨id,o,a,c,hb⟩=>have f:=(A4 ids σ id o a).2;⟨id,o,f,c,(AB e (hi.st.lt id o f)).1 hb⟩⟩
 ·rintro b (hb|⟨id,o,a,c,hb⟩)
  ·exact hi.iLt b hb
  ·exact(hi.st.obj id o (g _ _ a)).blt c hb
 ·rintro b (hb|⟨id,o,a,c,hb⟩)
  ·exact hi.iNew b hb
  ·exact .inr (hi.live id o (g _ _ a) c b hb)
 ·intro id o a
  have:=(A4 ids σ id o a).2;exact(hi.st.obj id o this).AQ e (hi.st.lt id o this) λ_ _ _=>rfl
 ·intro id o a;exact hi.st.lt id o (A4 ids σ id o a).2
 ·intro id o a c b d hb
  obtain⟨q,f⟩:=A4 ids σ id o a;have d:=(AB e (hi.st.lt id o f)).1 d
  rcases hb with hb|⟨id',o',j,i,m⟩
  ·exact hi.st.free id o f c b d hb
  ·have p:=Es j
   exact hi.st.inj id id' o o' f p.2 (λe=>q (e ▸ p.1)) c i b d m
 ·intro id id' o o' a j l c i b hb d
  have f:=(A4 ids σ id o a).2;have k:=(A4 ids σ id' o' j).2;exact hi.st.inj id id' o o' f k l c i b ((AB e (hi.st.lt id o f)).1 hb) ((AB e (hi.st.lt id' o' k)).1 d)
 ·intro id o a c b hb
  have f:=(A4 ids σ id o a).2;exact hi.live id o f c b ((AB e (hi.st.lt id o f)).1 hb)
theorem cv{V:View}{e:E}{x:Bool×List C}{v:Value}(h:MD e=some x)(ht:Mc V x v):Bl V e v:=by
 cases e with
 | o c=>injection h with h;subst h;obtain⟨c',b,d⟩:=ht;injection b with b;subst b;exact d
 | a cs=>injection h with h;subst h;exact ht
 | t=>cases h
 | e=>cases h
inductive FT (σ:Ab):List (Bool×List C)->List (Bool×List C)->Prop
 | nil:FT σ [] []
 | cons {e e':E} {x x':Bool×List C} {xs xs':List (Bool×List C)}:MD e=some x->MD e'=some x'->EZ σ e e'->FT σ xs xs'->FT σ (x::xs) (x'::xs')
theorem FT.get{xs xs':List (Bool×List C)}(h:FT σ xs xs'):xs'.length=xs.length/\∀(j:Nat) x',xs'[j]? = some x'->∃x e e',xs[j]? = some x/\MD e=some x/\MD e'=some x'/\EZ σ e e':=by
 induction h with
 | nil=>exact⟨rfl,λj x h=>by simp at h⟩
 | @cons e e' x x' xs xs' f d c _ b=>
  refine⟨by simp [b.1],λj y a=>?_⟩
  cases j with
  | zero=>simp at a;subst a;exact⟨x,e,e',rfl,f,d,c⟩
  | succ j=>exact b.2 j y (by simpa using a)
theorem FT.rel{V:View}{xs xs':List (Bool×List C)}(hi:Inv TB Z V σ)(h:FT σ xs xs'){v:Value}(c:Bl V (.t xs) v):Bl (FR V σ) (.t xs') v:=by
 obtain⟨vs,k,i,g⟩:=c;obtain⟨d,f⟩:=h.get;refine⟨vs,k,by rw [i,d],λj x' v' a b=>?_⟩;obtain⟨x,e,e',o,n,m,l⟩:=f j x' a;exact FK m (l.rel hi (cv n (g j x v' o b)))
theorem AR.toPure{g:FuncId}{args:List E}{post:E->Ab->Nat->Prop}{r:E}(h:AR P TB g 0 [] 0 args post)
 (e:∀x σ nx,post x σ nx->∃ids,EZ (GN σ ids) x r\/∃xs xs',x=.t xs/\r=.t xs'/\FT (GN σ ids) xs xs'):Pure P TB g args r:=
 ⟨h.1,λV vs S c ha=>(h.2 V vs S c ha).mono λ_ _ ⟨V',v,x,σ',k,j,b,d,i⟩=>by
  obtain⟨ids,a⟩:=e _ _ _ i
  have f:Ko V 0=V:=by have:=c.nx;unfold Ko;rw [<-this]
  rw [f] at b;have hi:=b.sub λid o h=>(Es (σ:=σ') (ids:=ids) h).2;refine⟨FR V' (GN σ' ids),v,r,BU ids σ',k,j,b.freeze ids,?_,rfl⟩
  rcases a with a|⟨xs,xs',rfl,rfl,a⟩
  ·exact a.rel hi d
  ·exact a.rel hi d⟩
end
section
variable {P:Program}{TB:Bz}
end
end Go.Am
namespace Go.Am
set_option linter.unusedVariables false
section
variable {α:Type}[DecidableEq α]
def Dn{α:Type}(f:α->Int->α):α->List Int->α
 | q,[]=>q
 | q,l::w=>Dn f (f q l) w
theorem Lt{α:Type}(f:α->Int->α):∀(u w:List Int) (q:α),Dn f q (u++w)=Dn f (Dn f q u) w
 | [],_,_=>rfl
 | l::u,w,q=>Lt f u w _
structure Part (f:α->Int->α) (ls:List Int) (s:α) (nd:List α) (rows:List (List Int)) (lim:Nat):Prop where
 st:nd[0]? = some s
 nodup:nd.Nodup
 len:rows.length<=nd.length
 lim:nd.length<=lim
 row:∀(i:Nat) (r:List Int),rows[i]? = some r->∃q,nd[i]? = some q/\r=ls.map (λl=>((nd.idxOf (f q l):Nat):Int))/\∀l∈ls,f q l∈nd
 rc:∀q∈nd,∃w:List Int,(∀l∈w,l∈ls)/\Dn f s w=q
structure mK (f:α->Int->α) (ls:List Int) (s:α) (nd:List α) (rows:List (List Int)):Prop where
 st:nd[0]? = some s
 nodup:nd.Nodup
 len:rows.length=nd.length
 row:∀(i:Nat) (q:α),nd[i]? = some q->rows[i]? = some (ls.map λl=>((nd.idxOf (f q l):Nat):Int))
 cl:∀q∈nd,∀l∈ls,f q l∈nd
 rc:∀q∈nd,∃w:List Int,(∀l∈w,l∈ls)/\Dn f s w=q
end
section
variable {α β:Type}[DecidableEq α][DecidableEq β]
end
theorem ez{α:Type}{l:List α}{k:Nat}{x d:α}(h:l[k]? = some x):l.getD k d=x:=by rw [pT,h];rfl
def fA(a:AZ)(q l:Int):Int:=CA a q.toNat l
def Vt(a:AZ)(q:Int):Bool:=a.ac.getD q.toNat false
theorem Rs{a:AZ}:∀(w:List Int) (q:Int),(∀l∈w,l∈Ac a.al)->Dn (fA a) q w=Fm a q (Dp w)
 | [],q,_=>rfl
 | l::w,q,h=>by
  have c:=Au (h l (by simp));have e:Fm a q (Dp (l::w))=Fm a (CA a q.toNat (((lb l).toNat:Int) - 97)) (Dp w):=rfl;rw [e,MA c.1 (by omega)];exact Rs w _ λm b=>h m (by simp [b])
end Go.Am
namespace Go.Am
open Go
set_option linter.unusedVariables false
abbrev NB:=Int->Int->List Int
def JL(c:NB):List Int->Int->Int->Prop
 | [],q,r=>r=q
 | l::w,q,r=>∃y,y∈c q l/\JL c w y r
def KL:List NB->List Int->List Int->List Int->Prop
 | [],_,[],[]=>True
 | c::cs,w,q::st,r::st'=>JL c w q r/\KL cs w st st'
 | _,_,_,_=>False
def Tk:List NB->Int->List Int->List Int->Prop
 | [],_,[],[]=>True
 | c::cs,l,q::st,r::st'=>r∈c q l/\Tk cs l st st'
 | _,_,_,_=>False
theorem JJ:∀ {cs:List NB} {l:Int} {w st st':List Int},KL cs (l::w) st st'↔∃st1,Tk cs l st st1/\KL cs w st1 st'
 | [],l,w,[],[]=>⟨λ_=>⟨[],trivial,trivial⟩,λ_=>trivial⟩
 | [],l,w,[],_::_=>⟨λh=>h.elim,λ⟨st1,a,b⟩=>by cases st1<;>simp [Tk,KL] at a b⟩
 | [],l,w,_::_,st'=>⟨λh=>by cases st'<;>exact h.elim,λ⟨st1,a,b⟩=>by cases st1<;>exact a.elim⟩
 | c::cs,l,w,[],st'=>⟨λh=>by cases st'<;>exact h.elim,λ⟨st1,a,b⟩=>by cases st1<;>exact a.elim⟩
 | c::cs,l,w,q::st,[]=>⟨λh=>h.elim,λ⟨st1,a,b⟩=>by cases st1<;>first|exact a.elim|exact b.elim⟩
 | c :: cs,l,w,q::st,r::st'=>by
  have d:=JJ (cs:=cs) (l:=l) (w:=w) (st:=st) (st':=st');constructor
  ·rintro⟨⟨y,e,a⟩,b⟩
   obtain⟨st1,g,f⟩:=d.1 b;exact⟨y::st1,⟨e,g⟩,a,f⟩
  ·rintro⟨st1,a,b⟩
   cases st1 with
   | nil=>exact a.elim
   | cons y st1=>exact⟨⟨y,a.1,b.1⟩,d.2 ⟨st1,a.2,b.2⟩⟩
def DS(n:Net):List NB:=n.ps.map (λs q l=>BJ s q l)++n.au.map (λa q l=>[CA a q.toNat l])
def Rz:List Int->List (List Int)->Prop
 | [],[]=>True
 | x::xs,c::cs=>x∈c/\Rz xs cs
 | _,_=>False
theorem XM:∀ {zs:List Int} {cs:List (List Int)} {out:List Int} {v:Int},cs.length=zs.length->(v∈GW zs cs out↔∃o∈out,∃st1,Rz st1 cs/\v=Du zs st1 o)
 | [],[],out,v,_=>by
  constructor
  ·intro h;exact⟨v,h,[],trivial,rfl⟩
  ·rintro⟨o,a,st1,h,rfl⟩
   cases st1 with
   | nil=>exact a
   | cons x st1=>exact h.elim
 | [],_::_,_,_,h=>by simp at h
 | _::_,[],_,_,h=>by simp at h
 | z :: zs,c::cs,out,v,h=>by
  have g:=XM (zs:=zs) (cs:=cs) (out:=out.flatMap λo=>c.map λx=>o*z+x) (v:=v) (by simpa using h)
  show v∈GW zs cs _↔_
  rw [g];constructor
  ·rintro⟨o,a,st1,b,e⟩
   obtain⟨f,d,j⟩:=ow.1 a;obtain⟨x,i,rfl⟩:=d9.1 j;exact⟨f,d,x::st1,⟨i,b⟩,e⟩
  ·rintro⟨o,a,st1,b,e⟩
   cases st1 with
   | nil=>exact b.elim
   | cons x st1=>exact⟨o*z+x,ow.2 ⟨o,a,d9.2 ⟨x,b.1,rfl⟩⟩,st1,b.2,e⟩
theorem HV:∀ {cs:List NB} {l:Int} {st st1:List Int},cs.length=st.length->(Rz st1 (cs.zipWith (λc q=>c q l) st)↔Tk cs l st st1)
 | [],l,[],st1,_=>by
  cases st1 with
  | nil=>exact⟨λ_=>trivial,λ_=>trivial⟩
  | cons x st1=>exact⟨λh=>h.elim,λh=>h.elim⟩
 | [],_,_::_,_,h=>by simp at h
 | _::_,_,[],_,h=>by simp at h
 | c::cs,l,q::st,st1,h=>by
  have a:=λst1=>HV (cs:=cs) (l:=l) (st:=st) (st1:=st1) (by simpa using h)
  cases st1 with
  | nil=>exact⟨λh=>h.elim,λh=>h.elim⟩
  | cons x st1=>exact⟨λh=>⟨h.1,(a st1).1 h.2⟩,λh=>⟨h.1,(a st1).2 h.2⟩⟩
theorem RO{n:Net}{st:List Int}(h:n.ps.length+n.au.length=st.length)(l:Int):Ke n st l=(DS n).zipWith (λc q=>c q l) st:=by
 unfold Ke DS;have e:st=st.take n.ps.length++st.drop n.ps.length:=(nZ _ _).symm
 conv=>rhs;rw [e]
 rw [List.zipWith_append (by simp;omega),List.zipWith_map_left,List.zipWith_map_left];congr 1;exact Gi _ _ _
theorem RU:∀ {zs ss:List Int},Fits zs ss->∀n:Int,Du zs ss n=n*Aw zs+Du zs ss 0
 | _,_,.nil,n=>by simp [Du,Aw]
 | _,_,@Fits.cons z s zs ss c b a,n=>by
  show Du zs ss (n*z+s)=n*(z*Aw zs)+Du zs ss (0*z+s)
  rw [RU a (n*z+s),RU a (0*z+s),pm,pm,o5,Int.zero_mul,Int.zero_mul,Int.zero_add,Int.add_assoc]
theorem NY:∀ {zs ss:List Int},Fits zs ss->∀m:Int,BE zs (Du zs ss m)=ss
 | _,_,.nil,m=>rfl
 | _,_,@Fits.cons z s zs ss d c a,m=>by
  show (Du zs ss (m*z+s) / Aw zs % z)::BE zs (Du zs ss (m*z+s))=s::ss
  rw [NY a];congr 1;have e:=a.pos;have b:=a.enc 0 (by omega);rw [Int.zero_add,qA] at b;rw [RU a,Int.add_comm,Int.add_mul_ediv_right _ _ (by omega),Int.ediv_eq_zero_of_lt b.1 b.2,Int.zero_add,Int.add_comm,Int.add_mul_emod_self_right,Int.emod_eq_of_lt d c]
theorem KO:∀ {zs:List Int} {cs:List (List Int)} {st:List Int},Fx zs cs->Rz st cs->Fits zs st
 | _,_,[],.nil,_=>.nil
 | _,_,_::_,.nil,h=>h.elim
 | _,_,[],.cons _ _ _,h=>h.elim
 | _,_,x::st,.cons a c b,h=>.cons (a x h.1).1 (a x h.1).2 (KO b h.2)
theorem LQ:∀ {cs:List NB} {st st':List Int},cs.length=st.length->(KL cs [] st st'↔st'=st)
 | [],[],[],_=>⟨λ_=>rfl,λ_=>trivial⟩
 | [],[],_::_,_=>⟨λh=>h.elim,λh=>by cases h⟩
 | [],_::_,_,h=>by simp at h
 | _::_,[],_,h=>by simp at h
 | c::cs,q::st,[],h=>⟨λh=>h.elim,λh=>by cases h⟩
 | c :: cs,q::st,r::st',h=>by
  have d:=LQ (cs:=cs) (st:=st) (st':=st') (by simpa using h);constructor
  ·rintro⟨a,b⟩
   have a:r=q:=a;rw [d.1 b,a]
  ·intro h
   injection h with a b
   exact⟨a,d.2 b⟩
theorem HM{n:Net}(q:DM n):∀ {w:List Int} {st:List Int} {x:Int},Fits (Af n) st->(∀l∈w,0<=l/\l < 6)->(reach (Eh n) w (Du (Af n) st 0) x↔∃st',KL (DS n) w st st'/\Fits (Af n) st'/\x=Du (Af n) st' 0)
 | [],st,x,e,_=>by
  have j:=e.len
  have f:(DS n).length=st.length:=by simp [DS,Af] at j |-;omega
  constructor
  ·intro h
   exact⟨st,(LQ f).2 rfl,e,h.symm⟩
  ·rintro⟨st',a,_,b⟩
   rw [(LQ f).1 a] at b;exact b.symm
 | l :: w,st,x,e,k=>by
  have j:=e.len
  have f:(DS n).length=st.length:=by simp [DS,Af] at j |-;omega
  have g:=k l (by simp);have d:=HZ q e g.1 g.2
  have c:n.ps.length+n.au.length=st.length:=by simp [Af] at j;omega
  have v:(Eh n).succ (Du (Af n) st 0) l=GW (Af n) (Ke n st l) [0]:=by
   show Fj n (Af n) (BE (Af n) (Du (Af n) st 0)) l=_
   rw [NY e];rfl
  have key:∀y,y∈(Eh n).succ (Du (Af n) st 0) l↔∃st1,Tk (DS n) l st st1/\Fits (Af n) st1/\y=Du (Af n) st1 0:=λy=>by
   rw [v,XM d.len.symm];constructor
   ·rintro⟨o,p,st1,a,b⟩
    have p:o=0:=by simpa using p
    subst p;exact⟨st1,(HV f).1 (by rw [<-RO c];exact a),KO d a,b⟩
   ·rintro⟨st1,a,_,b⟩
    exact⟨0,by simp,st1,by rw [RO c];exact(HV f).2 a,b⟩
  constructor
  ·rintro⟨y,u,h⟩
   obtain⟨st1,a,b,rfl⟩:=(key y).1 u;obtain⟨st',t,s⟩:=(HM q b λm r=>k m (by simp [r])).1 h;exact⟨st',JJ.2 ⟨st1,a,t⟩,s⟩
  ·rintro⟨st',t,s⟩
   obtain⟨st1,a,z⟩:=JJ.1 t;have i:Fits (Af n) st1:=KO d (by rw [RO c];exact(HV f).2 a);exact⟨_,(key _).2 ⟨st1,a,i,rfl⟩,(HM q i λm r=>k m (by simp [r])).2 ⟨st',z,s⟩⟩
theorem MU{n:Net}(g:DM n):∀ {w:List Int} {st st':List Int},Fits (Af n) st->(∀l∈w,0<=l/\l < 6)->KL (DS n) w st st'->Fits (Af n) st'
 | [],st,st',b,_,h=>by
  have c:=b.len
  have e:(DS n).length=st.length:=by simp [DS,Af] at c |-;omega
  rw [(LQ e).1 h];exact b
 | l::w,st,st',b,f,h=>by
  have c:=b.len
  have e:(DS n).length=st.length:=by simp [DS,Af] at c |-;omega
  have a:=f l (by simp)
  have d:n.ps.length+n.au.length=st.length:=by simp [Af] at c;omega
  obtain⟨st1,k,j⟩:=JJ.1 h;exact MU g (KO (HZ g b a.1 a.2) (by rw [RO d];exact(HV e).2 k)) (λm i=>f m (by simp [i])) j
theorem GB{a:AZ}:∀ {w:List Int} {q r:Int},JL (λq l=>[CA a q.toNat l]) w q r↔r=Dn (fA a) q w
 | [],q,r=>Iff.rfl
 | l::w,q,r=>by
  have b:=GB (a:=a) (w:=w) (q:=fA a q l) (r:=r)
  show (∃y,y∈[CA a q.toNat l]/\JL _ w y r)↔_
  simp only [qB,exists_eq_left];exact b
abbrev MN(s:Sys):NB:=λq l=>BJ s q l
abbrev lF(a:AZ):NB:=λq l=>[CA a q.toNat l]
def Ff(s:Sys)(w:List Int):Prop:=∃q,JL (MN s) w 0 q
def Ek(a:AZ)(w:List Int):Bool:=Vt a (Dn (fA a) 0 w)
theorem iq{s:Sys}{a p:AZ}(h:CY s a p=true){w:List Int}(v:over (Eh (DT s a p)) w):Sa (Eh (DT s a p)) w↔Ff s w/\Ek a w=true/\Ek p w=false:=by
 obtain⟨m,hk,i⟩:=N8 h
 have d:∀l∈w,0<=l/\l < 6:=λl z=>by have:=Au (v l z);omega
 have t:∀ {q k j:Int},Fits (Af (DT s a p)) [q,k,j]->(Eh (DT s a p)).goal (Du (Af (DT s a p)) [q,k,j] 0)=(Vt a k && !Vt p j):=λi=>by
  unfold Eh;dsimp only;rw [NY i];rfl
 unfold Sa;constructor
 ·rintro⟨x,u,b⟩
  obtain⟨st',c,n,rfl⟩:=(HM m i d).1 u
  match st',c,n,b with
  | [q,k,j],c,n,b=>
   rw [t n] at b;obtain⟨o,f,e,_⟩:=c;have f:=GB.1 f;have e:=GB.1 e;subst f e;refine⟨⟨q,o⟩,?_,?_⟩
   ·unfold Ek;revert b;cases Vt a (Dn (fA a) 0 w)<;>simp
   ·unfold Ek;revert b;cases Vt p (Dn (fA p) 0 w)<;>simp
  | [],c,_,_=>exact c.elim
  | [_],c,_,_=>exact c.2.elim
  | [_,_],c,_,_=>exact c.2.2.elim
  | _::_::_::_::_,c,_,_=>exact c.2.2.2.elim
 ·rintro⟨⟨q,o⟩,f,e⟩
  have r:KL (DS (DT s a p)) w [0,0,0] [q,Dn (fA a) 0 w,Dn (fA p) 0 w]:=⟨o,GB.2 rfl,GB.2 rfl,trivial⟩
  have y:=λx=>HM (w:=w) (x:=x) m i d;have g:Fits (Af (DT s a p)) [q,Dn (fA a) 0 w,Dn (fA p) 0 w]:=MU m i d r;refine⟨_,(y _).2 ⟨_,r,g,rfl⟩,?_⟩;rw [t g];unfold Ek at f e;rw [f,e];rfl
theorem Jn{w:List Int}:∀ {cs ds:List NB} {st st2 x:List Int},cs.length=st.length->(KL (cs++ds) w (st++st2) x↔∃y z,x=y++z/\KL cs w st y/\KL ds w st2 z)
 | [],ds,[],st2,x,_=>by
  constructor
  ·intro h;exact⟨[],x,rfl,trivial,h⟩
  ·rintro⟨y,z,rfl,b,d⟩
   cases y with
   | nil=>exact d
   | cons a y=>exact b.elim
 | [],_,_::_,_,_,h=>by simp at h
 | _::_,_,[],_,_,h=>by simp at h
 | c :: cs,ds,q::st,st2,x,h=>by
  have f:=λx=>Jn (w:=w) (cs:=cs) (ds:=ds) (st:=st) (st2:=st2) (x:=x) (by simpa using h);constructor
  ·intro e
   cases x with
   | nil=>exact e.elim
   | cons r x=>
    obtain⟨y,z,b,d,g⟩:=(f x).1 e.2;exact⟨r::y,z,by rw [b];rfl,⟨e.1,d⟩,g⟩
  ·rintro⟨y,z,rfl,b,d⟩
   cases y with
   | nil=>exact b.elim
   | cons r y=>exact⟨b.1,(f _).2 ⟨y,z,rfl,b.2,d⟩⟩
theorem PK{w:List Int}:∀ {l:List Sys},(∃y,KL (l.map MN) w (List.replicate l.length 0) y)↔∀s∈l,Ff s w
 | []=>Iff.intro (λ_ s c=>absurd c qk) (λ_=>⟨[],trivial⟩)
 | s :: l=>by
  have a:=PK (w:=w) (l:=l);constructor
  ·rintro⟨y,h⟩ t ht
   cases y with
   | nil=>exact h.elim
   | cons r y=>
    rcases ng.1 ht with rfl|ht
    ·exact⟨r,h.1⟩
    ·exact a.1 ⟨y,h.2⟩ t ht
  ·intro h
   obtain⟨r,d⟩:=h s (by simp);obtain⟨y,b⟩:=a.2 λt ht=>h t (by simp [ht]);exact⟨r::y,d,b⟩
theorem PJ{w:List Int}:∀ {cs:List NB} {st st':List Int},KL cs w st st'->st'.length=cs.length
 | [],[],[],_=>rfl
 | [],[],_::_,h=>h.elim
 | [],_::_,[],h=>h.elim
 | [],_::_,_::_,h=>h.elim
 | _::_,[],[],h=>h.elim
 | _::_,[],_::_,h=>h.elim
 | _::_,_::_,[],h=>h.elim
 | c::cs,q::st,r::st',h=>by simp [PJ h.2]
theorem im{l:List Sys}{p:AZ}(h:(A1 l && AP p)=true){w:List Int}(G:over (Eh (CX l p)) w):Sa (Eh (CX l p)) w↔(∀s∈l,Ff s w)/\Ek p w=false:=by
 obtain⟨v,hk,n⟩:=N7 h
 have f:∀m∈w,0<=m/\m < 6:=λm H=>by have:=Au (G m H);omega
 have A:∀ {y:List Int} {r:Int},y.length=l.length->Fits (Af (CX l p)) (y++[r])->(Eh (CX l p)).goal (Du (Af (CX l p)) (y++[r]) 0) = !Vt p r:=λ{y r} k n=>by
  unfold Eh;dsimp only;rw [NY n]
  show (!ZB (CX l p) (y++[r]) 0)=_
  unfold ZB Vt
  have e:(y++[r]).getD ((CX l p).ps.length+0) 0=r:=ez (by
   show (y++[r])[l.length+0]? = some r
   rw [pN,<-k];simp)
  rw [e];rfl
 have g:(CX l p).st=List.replicate l.length 0++[0]:=by
  show List.replicate (l.length+1) 0=_
  rw [List.replicate_succ']
 have j:DS (CX l p)=l.map MN++[lF p]:=rfl
 have b:(l.map MN).length=(List.replicate l.length (0:Int)).length:=by simp
 have u:=λx=>HM (w:=w) (x:=x) v n f;unfold Sa;constructor
 ·rintro⟨x,F,a⟩
  obtain⟨st',o,d,rfl⟩:=(u x).1 F;rw [g,j] at o;obtain⟨y,z,rfl,B,c⟩:=(Jn b).1 o
  have q:y.length=l.length:=by rw [PJ B];simp
  match z,c,d,a with
  | [r],c,d,a=>
   rw [A q d] at a;have I:=GB.1 c.1;subst I;exact⟨PK.1 ⟨y,B⟩,by unfold Ek;revert a;cases Vt p (Dn (fA p) 0 w)<;>simp⟩
  | [],c,_,_=>exact c.elim
  | _::_::_,c,_,_=>exact c.2.elim
 ·rintro⟨o,d⟩
  obtain⟨y,k⟩:=PK.2 o
  have t:KL (DS (CX l p)) w (CX l p).st (y++[Dn (fA p) 0 w]):=by
   rw [g,j];exact(Jn b).2 ⟨y,_,rfl,k,GB.2 rfl,trivial⟩
  have i:=MU v n f t;refine⟨_,(u _).2 ⟨_,t,i,rfl⟩,?_⟩;rw [A (by rw [PJ k];simp) i];unfold Ek at d;rw [d];rfl
theorem FD{c:NB}:∀ {u w:List Int} {q r:Int},JL c (u++w) q r↔∃y,JL c u q y/\JL c w y r
 | [],w,q,r=>⟨λh=>⟨q,rfl,h⟩,λ⟨y,a,b⟩=>by have a:y=q:=a;subst a;exact b⟩
 | l :: u,w,q,r=>by
  constructor
  ·rintro⟨y,d,h⟩
   obtain⟨z,a,b⟩:=FD.1 h;exact⟨z,⟨y,d,a⟩,b⟩
  ·rintro⟨z,⟨y,d,a⟩,b⟩
   exact⟨y,d,FD.2 ⟨z,a,b⟩⟩
theorem NX{s:Sys}(b:AU s=true):∀ {w:List Int} {q r:Int},0<=q/\q < s.st->JL (MN s) w q r->0<=r/\r < s.st
 | [],q,r,a,h=>by have h:r=q:=h;subst h;exact a
 | l::w,q,r,a,⟨y,c,h⟩=>NX b (Jl b a.1 a.2 c) h
theorem SI{a:AZ}(ha:AP a=true):∀ {w:List Int} {q:Int},(∀l∈w,0<=l/\l < 6)->0<=q/\q < a.nx.length->0<=Dn (fA a) q w/\Dn (fA a) q w < a.nx.length
 | [],q,_,c=>c
 | l::w,q,b,c=>by
  have d:=b l (by simp);exact SI ha (w:=w) (λm e=>b m (by simp [e])) (Dl ha (q:=q.toNat) (by omega) d.1 d.2)
theorem ZN{t:CK}{F:PS}{u:W}{c:UInt8}:GO t F (u++[c])=Eb t ((c.toNat:Int) - 97) (GO t F u):=by rw [Pp];rfl
theorem JF{s:Sys}{q l r:Int}(h:AV s.al l.toNat=true):r∈BJ s q l↔∃e∈s.es,e.f=q/\e.l=l/\e.t=r:=by
 unfold BJ;rw [if_pos h];simp only [d9,nr,d4,decide_eq_true_eq];constructor
 ·rintro⟨e,⟨d,c,b⟩,a⟩;exact⟨e,d,c,b,a⟩
 ·rintro⟨e,d,c,b,a⟩;exact⟨e,⟨d,c,b⟩,a⟩
section
variable {t:CK}(ht:Bc t=true)
include ht
theorem Yt{F0:PS}(A:CZ t F0){p j:Nat}:PN t F0 p j↔∃(a b:Nat) (u:List Int),(F0 a).testBit b=true/\(∀l∈u,l∈Cs t)/\JL (MN t.s) u b j/\(p:Int)=Dn (fA t.q) a u:=by
 constructor
 ·intro h
  induction h with
  | @base p j hb=>exact⟨p,j,[],hb,by simp,rfl,rfl⟩
  | @step p j e i o n J r=>
   obtain⟨a,b,u,z,k,c,d⟩:=r;have I:=HU ht o;have hL:=DH ht n;have g:=i.lt ht A;have H:=Dl (Cw ht) g.1 hL.1 hL.2.1;refine⟨a,b,u++[e.l],z,λl x=>?_,?_,?_⟩
   ·rcases em.1 x with h|h
    ·exact k l h
    ·simp at h;subst h;exact n
   ·refine FD.2 ⟨j,c,(e.t.toNat:Int),?_,rfl⟩
    exact(JF hL.2.2).2 ⟨e,o,by omega,rfl,by omega⟩
   ·rw [Lt,<-d]
    show ((CA t.q p e.l).toNat:Int)=CA t.q ((p:Int).toNat) e.l
    rw [i7];omega
 ·rintro⟨a,b,u,z,k,c,d⟩
  have key:∀(u:List Int) (a b:Nat),PN t F0 a b->(∀l∈u,l∈Cs t)->∀ {p j:Nat},JL (MN t.s) u b j->(p:Int)=Dn (fA t.q) a u->PN t F0 p j:=λu=>by
   induction u with
   | nil=>
    intro a b i _ p j c d;have c:(j:Int)=b:=c;have d:(p:Int)=a:=d
    obtain rfl:j=b:=by omega
    obtain rfl:p=a:=by omega
    exact i
   | cons l u r=>
    intro a b i k p j c d;have n:=k l (by simp);have hL:=DH ht n;have g:=i.lt ht A;have H:=Dl (Cw ht) g.1 hL.1 hL.2.1;obtain⟨y,F,c⟩:=c;obtain⟨e,o,L,B,K⟩:=(JF hL.2.2).1 F;have I:=HU ht o;have w:=PN.step i o (by rw [B];exact n) (show e.f.toNat=b by omega)
    have v:((e.t.toNat:Nat):Int)=y:=by omega
    refine r _ _ w (λm G=>k m (by simp [G])) (by rw [v];exact c) ?_;rw [d,B]
    show Dn (fA t.q) (CA t.q ((a:Int).toNat) l) u=_
    rw [i7];congr 1;omega
  exact key u a b (.base z) k c d
theorem bY{F:PS}(o:CZ t F){l:Int}(v:0<=l/\l < 6){p' j:Nat}:(Vo t l F p').testBit j=true↔∃p a:Nat,(F p).testBit a=true/\CA t.q p l=(p':Int)/\(j:Int)∈BJ t.s a l:=by
 rw [Lg]
 have g:∀ {p a:Nat},(F p).testBit a=true->p < t.q.nx.length:=λ{p a} h=>by
  rcases nG p t.q.nx.length with b|b
  ·exact b
  ·rw [o.z p b] at h;simp at h
 unfold Dh;by_cases hb:AV t.s.al l.toNat=true
 ·simp only [hb,if_true]
  constructor
  ·rintro⟨p,b,d,c⟩
   obtain⟨e,i,⟨n,k⟩,u⟩:=DJ.1 c;have r:=HU ht i;exact⟨p,e.f.toNat,k,d,(JF hb).2 ⟨e,i,by omega,n,by omega⟩⟩
  ·rintro⟨p,a,b,d,c⟩
   obtain⟨e,i,n,k,u⟩:=(JF hb).1 c;have r:=HU ht i;refine⟨p,g b,d,DJ.2 ⟨e,i,⟨k,?_⟩,by omega⟩⟩;rw [show e.f.toNat=a by omega];exact b
 ·simp only [hb,if_false,pG]
  have m:∀a:Nat,BJ t.s a l=[(a:Int)]:=λa=>by unfold BJ;rw [if_neg hb]
  constructor
  ·rintro⟨p,b,d,c⟩
   exact⟨p,j,c,d,by rw [m];simp⟩
  ·rintro⟨p,a,b,d,c⟩
   rw [m] at c
   obtain rfl:j=a:=by simp at c;omega
   exact⟨p,g b,d,b⟩
end
def BP(al:Int)(u:List Int):List Int:=u.filter λl=>AV al l.toNat
def YK(t:CK)(u:List Int):Prop:=∀l∈u,l∈Cs t\/l∈Ac t.al
theorem eF{t:CK}{l:Int}(h:l∈Cs t):AV t.al l.toNat=false:=by
 unfold Cs at h;have:=(nr.1 h).2
 simpa using this
theorem SZ{t:CK}{u:List Int}(d:YK t u)(h:BP t.al u=[]):∀l∈u,l∈Cs t:=λl b=>by
 rcases d l b with a|a
 ·exact a
 ·exfalso
  have c:l∈BP t.al u:=nr.2 ⟨b,(Au a).2.2⟩;rw [h] at c;cases c
theorem RZ{t:CK}{u:List Int}(h:∀l∈u,l∈Cs t):BP t.al u=[]:=qh.2 λl a=>by rw [eF (h l a)];simp
theorem Xv{t:CK}{F:PS}(g:CZ t F):GV t F=true↔∃p j:Nat,(F p).testBit j=true/\Vt t.q p=false:=by
 unfold GV;rw [o9];constructor
 ·rintro⟨p,c,h⟩
  simp only [d4,decide_eq_true_eq,oX] at h
  have:∃j,(F p).testBit j=true:=Classical.byContradiction λf=>h.1 (Hy λj=>by
   cases hb:(F p).testBit j
   ·rfl
   ·exact absurd ⟨j,hb⟩ f)
  obtain⟨j,d⟩:=this;exact⟨p,j,d,by unfold Vt;rw [i7];exact h.2⟩
 ·rintro⟨p,j,a,b⟩
  have c:p < t.q.nx.length:=by
   rcases nG p t.q.nx.length with h|h
   ·exact h
   ·rw [g.z p h] at a;simp at a
  refine⟨p,nk.2 c,?_⟩;unfold Vt at b;rw [i7] at b;simp only [d4,decide_eq_true_eq,oX];exact⟨λe=>by rw [e] at a;simp at a,b⟩
theorem Ru{t:CK}:∀(w:List Int) {F:PS},HO t F (Dp w)=false↔∃k,k<=w.length/\GV t (GO t F (Dp (w.take k)))=true
 | [],F=>by
  show (!GV t F)=false↔_
  constructor
  ·intro h
   exact⟨0,by simp,by show GV t F=true;simpa using h⟩
  ·rintro⟨k,_,h⟩
   have h:GV t F=true:=by simpa [Dp,GO] using h
   rw [h];rfl
 | l :: w,F=>by
  have c:=λF=>Ru (t:=t) w (F:=F);have e:HO t F (Dp (l::w))=(!GV t F && HO t (Eb t (((lb l).toNat:Int) - 97) F) (Dp w)):=rfl;rw [e];constructor
  ·intro h
   cases hb:GV t F
   ·rw [hb] at h
    obtain⟨k,b,a⟩:=(c _).1 h;exact⟨k+1,by simpa using b,a⟩
   ·exact⟨0,by simp,hb⟩
  ·rintro⟨k,b,a⟩
   cases k with
   | zero=>
    have a:GV t F=true:=a;rw [a];rfl
   | succ k=>
    have:=(c (Eb t (((lb l).toNat:Int) - 97) F)).2 ⟨k,by simpa using b,a⟩;rw [this,Bool.and_false]
theorem fL{α:Type}{P:List α->Prop}(c:P [])(b:∀w l,P w->P (w++[l]))(w:List α):P w:=by
 rw [<-List.reverse_reverse w]
 induction w.reverse with
 | nil=>exact c
 | cons l u a=>rw [List.reverse_cons];exact b _ l a
section
variable {t:CK}(ht:Bc t=true)
include ht
theorem bh{F0:PS}(a:CZ t F0){p j:Nat}:(RP t F0 p).testBit j=true↔∃(b c:Nat) (u:List Int),(F0 b).testBit c=true/\(∀l∈u,l∈Cs t)/\JL (MN t.s) u c j/\(p:Int)=Dn (fA t.q) b u:=by
 rw [NW,Yt ht a];constructor
 ·exact λh=>h.2
 ·intro h
  exact⟨((Yt ht a).2 h).lt ht a |>.2,h⟩
theorem Oh:∀(w:List Int) {F:PS},CZ t F->(∀l∈w,0<=l/\l < 6)->CZ t (GO t F (Dp w))
 | [],F,h,_=>h
 | l :: w,F,h,b=>by
  have a:=b l (by simp)
  have e:GO t F (Dp (l::w))=GO t (Eb t l F) (Dp w):=by
   show GO t (Eb t (((lb l).toNat:Int) - 97) F) (Dp w)=_
   rw [MA a.1 a.2]
  rw [e];exact Oh w (Ll ht a h) λm c=>b m (by simp [c])
theorem Yz:∀(w:List Int),(∀l∈w,l∈Ac t.al)->∀ {p j:Nat},((GO t (Cu t) (Dp w) p).testBit j=true↔∃u,YK t u/\BP t.al u=w/\JL (MN t.s) u 0 j/\(p:Int)=Dn (fA t.q) 0 u):=λw=>by
 refine fL (P:=λw=>(∀l∈w,l∈Ac t.al)->∀ {p j:Nat},((GO t (Cu t) (Dp w) p).testBit j=true↔∃u,YK t u/\BP t.al u=w/\JL (MN t.s) u 0 j/\(p:Int)=Dn (fA t.q) 0 u)) ?_ ?_ w
 ·intro _ p j
  show (RP t IC p).testBit j=true↔_
  rw [bh ht (LX ht)]
  have S:∀ {y z:Nat},(IC y).testBit z=true↔y=0/\z=0:=λ{y z} => by
   unfold IC;split
   ·rename_i h
    subst h;have e:(1:Nat)=2 ^ 0:=rfl;rw [e,oM];simp [eq_comm]
   ·rename_i h;simp [h]
  constructor
  ·rintro⟨y,z,u,b,d,x,v⟩
   obtain⟨rfl,rfl⟩:=S.1 b;exact⟨u,λl hl=>.inl (d l hl),RZ d,x,v⟩
  ·rintro⟨u,b,d,x,v⟩
   exact⟨0,0,u,S.2 ⟨rfl,rfl⟩,SZ b d,x,v⟩
 ·intro w l A H p j
  have o:=H l (by simp);have c:=Au o;have A:=λp j=>A (λm a=>H m (by simp [a])) (p:=p) (j:=j)
  have g:=Oh ht w (F:=Cu t) (Gq ht) λm a=>by have:=Au (H m (by simp [a]));omega
  have e:GO t (Cu t) (Dp (w++[l]))=RP t (Vo t l (GO t (Cu t) (Dp w))):=by
   have N:Dp (w++[l])=Dp w++[lb l]:=by simp [Dp,lb]
   rw [N,ZN,MA c.1 (by omega)];rfl
  rw [e,bh ht (Ks ht ⟨c.1,by omega⟩ g)];constructor
  ·rintro⟨p1,j1,h,b,d,x,v⟩
   obtain⟨Q,R,h5,h6,h7⟩:=(bY ht g ⟨c.1,by omega⟩).1 b;obtain⟨u,i,G,M,L⟩:=(A Q R).1 h5;refine⟨u++l::h,λm a=>?_,?_,FD.2 ⟨R,M,j1,h7,x⟩,?_⟩
   ·rcases em.1 a with a|a
    ·exact i m a
    ·rcases ng.1 a with rfl|a
     ·exact .inr o
     ·exact .inl (d m a)
   ·unfold BP at *
    rw [oq,G,ot (by simpa using c.2.2)];have:=RZ d;unfold BP at this;rw [this]
   ·rw [Lt,<-L,v]
    show _=Dn (fA t.q) (CA t.q ((Q:Int).toNat) l) h
    rw [i7,h6]
  ·rintro⟨u,i,G,M,L⟩
   unfold BP at G;obtain⟨f,u2,rfl,N,e2⟩:=List.filter_eq_append_iff.1 G;obtain⟨b,d,rfl,e3,e4,e5⟩:=List.filter_eq_cons_iff.1 e2;have r:∀m∈b,m∈Cs t:=SZ (λm a=>i m (by simp [a])) (by unfold BP;exact qh.2 e3);have K:∀m∈d,m∈Cs t:=SZ (λm a=>i m (by simp [a])) e5;obtain⟨Y,V,c2⟩:=FD.1 M;obtain⟨n,U,k,T,c5⟩:=FD.1 c2
   have B:AU t.s=true:=by unfold Bc at ht;simp only [d4] at ht;exact ht.1
   have hst:=AN B;have I:=Cw ht;have hqn:=AH I
   have J:∀m∈f++(b++l::d),0<=m/\m < 6:=λm a=>by
    rcases i m a with h|h
    ·have:=DH ht h;omega
    ·have:=Au h;omega
   have b1:=NX B ⟨by omega,by omega⟩ V;have X:=NX B b1 U;have b3:=Jl B X.1 X.2 T;have a2:=SI I (w:=f++b) (q:=0) (λm a=>J m (by rcases em.1 a with h|h<;>simp [h])) ⟨by omega,by omega⟩;have a3:=Dl I (q:=(Dn (fA t.q) 0 (f++b)).toNat) (by omega) c.1 (show l < 6 by omega);refine⟨(CA t.q (Dn (fA t.q) 0 (f++b)).toNat l).toNat,k.toNat,d,(bY ht g ⟨c.1,by omega⟩).2 ⟨(Dn (fA t.q) 0 (f++b)).toNat,n.toNat,(A _ _).2 ⟨f++b,λm a=>?_,?_,?_,by omega⟩,by omega,?_⟩,K,?_,?_⟩
   ·rcases em.1 a with a|a
    ·exact i m (by simp [a])
    ·exact .inl (r m a)
   ·have:=RZ r
    unfold BP at *;rw [oq,N,this,nO]
   ·rw [show ((n.toNat:Nat):Int)=n by omega]
    exact FD.2 ⟨Y,V,U⟩
   ·rw [show ((n.toNat:Nat):Int)=n by omega,show ((k.toNat:Nat):Int)=k by omega];exact T
   ·rw [show ((k.toNat:Nat):Int)=k by omega];exact c5
   ·rw [show (((CA t.q (Dn (fA t.q) 0 (f++b)).toNat l).toNat:Nat):Int)=CA t.q (Dn (fA t.q) 0 (f++b)).toNat l by omega,L,<-qf,Lt];rfl
theorem PH{w:List Int}(v:∀l∈w,l∈Ac t.al):LS t (Dp w)=false↔∃u,YK t u/\BP t.al u <+: w/\Ff t.s u/\Ek t.q u=false:=by
 unfold LS;rw [Ru];constructor
 ·rintro⟨k,I,H⟩
  have d:∀l∈w.take k,l∈Ac t.al:=λl o=>v l (nt o)
  have c:=Oh ht (w.take k) (Gq ht) λm f=>by have:=Au (d m f);omega
  obtain⟨p,j,G,F⟩:=(Xv c).1 H;obtain⟨u,n,g,i,r⟩:=(Yz ht _ d).1 G;exact⟨u,n,by rw [g];exact List.take_prefix _ _,⟨_,i⟩,by unfold Ek;rw [<-r];exact F⟩
 ·rintro⟨u,n,g,⟨q,i⟩,r⟩
  refine⟨(BP t.al u).length,g.length_le,?_⟩;have e:w.take (BP t.al u).length=BP t.al u:=(List.prefix_iff_eq_take.1 g).symm;rw [e];have x:∀l∈BP t.al u,l∈Ac t.al:=λl o=>v l (g.subset o)
  have y:AU t.s=true:=by unfold Bc at ht;simp only [d4] at ht;exact ht.1
  have A:=AN y;have z:=Cw ht;have B:=AH z
  have c:=Oh ht (BP t.al u) (Gq ht) λm f=>by have:=Au (x m f);omega
  have b:=NX y (⟨by omega,by omega⟩:(0:Int)<=0/\(0:Int) < t.s.st) i
  have a:=SI z (w:=u) (q:=0) (λm f=>by
   rcases n m f with h|h
   ·have:=DH ht h;omega
   ·have:=Au h;omega) ⟨by omega,by omega⟩
  refine(Xv c).2 ⟨(Dn (fA t.q) 0 u).toNat,q.toNat,(Yz ht _ x).2 ⟨u,n,rfl,?_,by omega⟩,?_⟩
  ·rw [show ((q.toNat:Nat):Int)=q by omega];exact i
  ·rw [show (((Dn (fA t.q) 0 u).toNat:Nat):Int)=Dn (fA t.q) 0 u by omega];exact r
end
end Go.Am
