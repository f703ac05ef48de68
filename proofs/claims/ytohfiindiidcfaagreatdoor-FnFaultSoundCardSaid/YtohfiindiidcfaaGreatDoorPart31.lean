/-
  The reference's answers for a task: walked.
-/
import Derived.Test.YtohfiindiidcfaaGreatDoorPart29
import Derived.Test.YtohfiindiidcfaaGreatDoorPart28
import Derived.Test.YtohfiindiidcfaaGreatDoorPart30
set_option linter.all false
namespace Go.Am
open Go Go.Proofs
set_option maxHeartbeats 1000000
set_option maxRecDepth 4000
attribute [local irreducible] A8 Cq Lex Br Ai Spec
variable {TB:BA}
theorem Pa{n:Nat}:List.replicate n (AB 0)=(KU n λ_=>0).map AB:=by
 apply kK;intro i;by_cases h:i < n
 ·simp [h]
 ·rw [jt (by simp;omega),jt (by simp;omega)]
theorem TY{n:Nat}:(List.replicate n (AB 0)).set 0 (AB 1)=(KU n IS).map AB:=by
 rw [Pa];have:=PV (n:=n) (x:=0) (v:=1) (G:=λ_=>0)
 have e:Ua (λ_=>0) 0 1=IS:=by funext p;rfl
 rw [e] at this;exact this
theorem Tq{t:Eh}(ht:BB t=true):Pure Tryz.prog TB 174 [QE t] (Aj (KU t.q.nx.length (DH t))):=by
 have g:=AI (Di ht);have c:=Nm (TB:=TB) ht (Ob ht);rw [show Ss t IS=DH t from rfl] at c;have b:=TY (n:=t.q.nx.length)
 have f:(List.replicate t.q.nx.length (AB 0))[0+(0:Int).toNat]? = some (AB 0):=by rw [List.getElem?_replicate,if_pos];simp;omega
 refine eG Tryz.func174 rfl (by kernel_rfl) rfl ?_;intro Z a;(repeat first|refine sN rfl ?_ |refine tA rfl ?_ |refine aU rfl ?_ |apply Aa);(refine pW rfl ?_ rfl (by rfl);refine KP rfl rfl (by rfl) (by rfl) (ce rfl) (by omega) (by omega) (by omega) ?_);(repeat first|(refine sA rfl ?_ ?_;first|exact tI|omega) |refine t4 rfl ‹_› rfl ?_ |refine aU rfl ?_ |apply Aa);(refine pW rfl ?_ rfl (by rfl);refine Af [0] rfl rfl (c) ⟨rfl,by decide,by decide⟩ rfl (by simp[cX,zC,a,b]) ?_;rintro h d e ⟨rfl,rfl,rfl⟩ _);(repeat first|refine tA rfl ?_);apply Aa;refine Ai.Ay [] [] rfl rfl [(2,.o (.arr 0 1 0 t.q.nx.length))] [(0,.cells 3 1 ((KU t.q.nx.length (DH t)).map AB))] [0] (rl a rfl) (by (simp[cX,zC,a,b])) ?_;(try dsimp only[cA,cB]);refine Ai.settle [(2,Aj (KU t.q.nx.length (DH t)))] ⟨⟨_,rfl,.o (.full rfl (by simp [d5]) (by simp))⟩,trivial⟩ ?_;refine aR ⟨_,rfl,rfl⟩
theorem XN{t:Eh}(ht:BB t=true){F:PS}:Pure Tryz.prog TB 175 [QE t,Aj (KU t.q.nx.length F)] (eB (IC t F)):=by
 have p:=AI (Di ht)
 have n:(KU t.q.nx.length F).length=t.q.nx.length:=by simp
 have d:IC t F=Ln t F t.q.nx.length:=rfl;refine eG Tryz.func175 rfl (by kernel_rfl) rfl ?_;intro Z a;(repeat first|refine tA rfl ?_ |refine aU rfl ?_ |apply Aa);apply aB;refine aL (α:={k:Nat // k<=t.q.nx.length/\Ln t F k=false}) [1,2] [] rfl rfl (λ⟨k,hk,hb⟩=>[(5,eI .i64 k)]) (λ⟨k,hk,hb⟩=>[]) 0 (λ⟨k,hk,hb⟩=>t.q.nx.length - k) (⟨0,by omega,rfl⟩) a rfl (by (simp[cX,zC,a])) ?_;rintro⟨k,hk,hb⟩;(try dsimp only[cA,cB]);by_cases h:k < t.q.nx.length
 ·have s:((KU t.q.nx.length F).map Bm)[((k:Nat):Int).toNat]? = some (Bm (F k:Int)):=by rw [io];simp [h]
  obtain⟨b,f⟩:=get_some (l:=t.q.ac) (k:=((k:Nat):Int).toNat) (by omega);have o:=get_map (g:=ML) f
  have i:t.q.ac.getD k false=b:=by rw [io] at f;simp [List.getD,f]
  have j:=SI (t:=t) (F:=F) (k:=k);rw [i,hb] at j;(repeat first|refine sN rfl ?_ |refine tA rfl ?_ |refine s2 rfl λ_ c=>?_ |refine aU rfl ?_ |apply Aa)
  ((refine aC rfl ?_ ?_<;>rintro⟨⟩);all_goals try(exfalso;(simp only[oZ] at *;omega)))
  apply aK;refine aS (aB ?_)
  (repeat' first|refine tA rfl ?_ |(refine s4 rfl ‹_› rfl ?_ ?_;omega) |refine s2 rfl λ_ c=>?_ |refine s3 rfl ?_ ?_<;>rintro rfl |refine aU rfl ?_ |apply Aa|(refine aC rfl ?_ ?_<;>rintro⟨⟩));all_goals try contradiction
  ·have m:IC t F=true:=by
    have u:=of_decide_eq_true ‹decide ((F k:Int)≠0)=true›
    have r:F k≠0:=by omega
    rw [d];unfold Ln;exact kB.2 ⟨k,jj.2 h,by rw [i,c];simp [r]⟩
   rw [m];(subst_vars;exact aR ⟨_,rfl,rfl⟩)
  ·have e:Ln t F (k+1)=false:=by rw [j];simp_all
   apply aK;(repeat first|(refine sA rfl ?_ ?_;first|exact tI|omega) |refine aU rfl ?_ |apply Aa);refine⟨⟨k+1,by omega,e⟩,by dsimp only;(omega),[],?_⟩;simp[cX,zC,a]
  ·have e:Ln t F (k+1)=false:=by rw [j];simp at c;simp;omega
   apply aK;(repeat first|(refine sA rfl ?_ ?_;first|exact tI|omega) |refine aU rfl ?_ |apply Aa);refine⟨⟨k+1,by omega,e⟩,by dsimp only;(omega),[],?_⟩;simp[cX,zC,a]
 ·obtain rfl:k=t.q.nx.length:=by omega
  rw [d,hb];(repeat first|refine sN rfl ?_ |refine tA rfl ?_ |refine s2 rfl λ_ c=>?_ |refine aU rfl ?_ |apply Aa)
  ((refine aC rfl ?_ ?_<;>rintro⟨⟩);all_goals try(exfalso;(simp only[oZ] at *;omega)))
  apply aE;(repeat first|refine tA rfl ?_ |refine aU rfl ?_ |apply Aa);(subst_vars;exact aR ⟨_,rfl,rfl⟩)
def Ew(A:W->Bool)(al:Int)(t:Bb)(w:W):Option W:=if Bp A al t && E5 al w then DG A t w else none
theorem Ni{al:Int}{w:W}(h:E5 al w=true):A0 (BE al) w/\w.length<=4000/\within w al=true:=by
 unfold E5 at h;rw [d4,decide_eq_true_eq] at h;exact⟨DJ h.1,h.2,h.1⟩
theorem Xf{A:W->Bool}{al:Int}{t:Bb}{w:W}(ha:A3 al=true)(a:BQ A (BE al) t)(c:t.rows.length<=12)(b:E5 al w=true):Og (BR A al t) w=Oh A t w:=by
 obtain⟨e,f,d⟩:=Ni b;unfold Og;rw [Pp ha a c,Pk a e]
 show (true && (within w al && _))=_
 rw [d];rfl
theorem RZ{A:W->Bool}{t:Bb}{w:W}{k q:Nat}{c:UInt8}{R:Option W}(d:w[k]? = some c)(a:R=splitAt A t (A w) q (w.drop k)) :
 (A (t.rows.getD (DB A t (t.rows.getD q []++[c])) []++w.drop (k+1))≠A w->R=some (w.drop (k+1)))/\(A (t.rows.getD (DB A t (t.rows.getD q []++[c])) []++w.drop (k+1))=A w->R=splitAt A t (A w) (DB A t (t.rows.getD q []++[c])) (w.drop (k+1))):=by
 have:=Qb (L:=A) (t:=t) (b:=A w) (q:=q) d;rw [this] at a;exact⟨λh=>by rw [a,if_pos h],λh=>by rw [a,if_neg (by simpa using h)]⟩
theorem Oy{t:Ez}{al:Int}{A:W->Bool}(G:IT Tryz.prog TB 123 170 t al A)(hal:0<=al->A3 al=true)(tab:Bb)(P:Sr tab)(w:W)(hw:w.length<=1048576) :
 Pure Tryz.prog TB 133 [DU t,IY tab,eT w] (ZF (Ew A al tab w)):=by
 have n:=Gj G tab P;have q:=Nj G w (by omega);have h4:=G.ask w (by omega);by_cases r:Bp A al tab=true
 ·rw [if_pos r] at n
  obtain⟨Q,ho,f⟩:=KC r;have d:=(Ee Q).1;have ha:=hal d.pos;have hau:=Pp ha f d.rl;have I:=MF (TB:=TB) (BR A al tab) w (by omega);by_cases i:E5 al w=true
  ·rw [i] at q
   rw [Xf ha f d.rl i] at I
   have u:Ew A al tab w=DG A tab w:=by unfold Ew;rw [r,i];rfl
   rw [u];by_cases J:Oh A tab w=A w
   ·have y:DG A tab w=none:=by unfold DG;rw [if_pos J]
    rw [y];rw [J] at I;refine eG Tryz.func133 rfl (by kernel_rfl) rfl ?_;intro Z b;(repeat' first|refine tA rfl ?_ |(refine s2 rfl λ_ a=>?_;try (simp only[jL,jQ] at a;subst a)) |refine sP rfl (n) rfl ?_|refine sP rfl (q) rfl ?_|refine sP rfl (I) rfl ?_|refine sP rfl (h4) rfl ?_ |refine aU rfl ?_ |apply Aa |refine rE (by kernel_rfl) ?_|(refine aC rfl ?_ ?_<;>rintro⟨⟩)|apply aK|apply aE|apply aB|refine aR ⟨_,rfl,?_⟩)
    all_goals first
     | rfl
     | (exfalso;grind;done)
   ·obtain⟨R,M⟩:∃R,R=DG A tab w:=⟨_,rfl⟩
    rw [<-M]
    have M:R=splitAt A tab (A w) 0 (w.drop 0):=by rw [M];unfold DG;rw [if_neg J];rfl
    obtain⟨m,hw4,_⟩:=Ni i;have hrl:=d.rl;have T:=d.r1;refine eG Tryz.func133 rfl (by kernel_rfl) rfl ?_;intro Z b;(repeat first|refine tA rfl ?_ |refine sP rfl (n) rfl ?_|refine sP rfl (q) rfl ?_|refine sP rfl (I) rfl ?_|refine sP rfl (h4) rfl ?_ |refine aU rfl ?_ |apply Aa);refine rG (Ig []) (by kernel_rfl) ?_;(repeat first|refine tA rfl ?_ |(refine s2 rfl λ_ a=>?_;try (simp only[jL,jQ] at a;subst a)) |refine sP rfl (n) rfl ?_|refine sP rfl (q) rfl ?_|refine sP rfl (I) rfl ?_|refine sP rfl (h4) rfl ?_ |apply Aa);refine Ai.cond rfl (λhb=>?_) (λhb=>?_)<;>cases hb
    ·exfalso;exact J (by simpa using a)
    apply aK;(repeat first|refine tA rfl ?_ |refine aU rfl ?_ |apply Aa);have h0:0 < tab.rows.length:=T;apply aB;refine aL (α:={k:Nat // k<=w.length/\R=splitAt A tab (A w) (runM A tab 0 (w.take k)) (w.drop k)/\A (tab.rows.getD (runM A tab 0 (w.take k)) []++w.drop k)=A w}) [2,3,4,8] [0] rfl rfl (λ⟨k,hk,p,H⟩=>[(10,eI .i64 (runM A tab 0 (w.take k):Nat)),(11,eI .i64 k)]) (λ⟨k,hk,p,H⟩=>[]) 1 (λ⟨k,hk,p,H⟩=>w.length - k) (⟨0,by omega,M,by simp [d.r0,runM]⟩) b rfl (by (simp[cX,zC,b]<;>rfl)) ?_;rintro⟨k,hk,p,H⟩;(try dsimp only[cA,cB]);have x:=f.run (w.take k) 0 (PR m k) h0;by_cases Y:k < w.length
    ·obtain⟨c,K⟩:=get_some Y
     have hc':w[((k:Nat):Int).toNat]? = some c:=by simpa using K
     have F:=m c (co K);have B:=Mr F;have hla:=Hh (TB:=TB) w k c hc'
     have hnl:(BR A al tab).nx.length=tab.rows.length:=by simp [BR]
     have z:=Il (TB:=TB) (BR A al tab) hau (runM A tab 0 (w.take k)) (by omega) ((c.toNat:Int) - 97) B.1 B.2;have s:=Wz (L:=A) (t:=tab) K 0;have v:=f.run (w.take (k+1)) 0 (PR m (k+1)) h0;rw [QM (L:=A) (al:=al) (t:=tab) x F,<-s] at z;have e:=RZ K p;rw [<-s] at e;obtain⟨N,l⟩:=get_some x;have hx1':=get_map (g:=C0) l;obtain⟨o,j⟩:=get_some v;have hx2':=get_map (g:=C0) j
     have e1:tab.rows.getD (runM A tab 0 (w.take k)) []=N:=by simp [l]
     have e2:tab.rows.getD (runM A tab 0 (w.take (k+1))) []=o:=by simp [j]
     have hr1b:=P.rb N (co l);have hr2b:=P.rb o (co j);rw [e1] at H;rw [e2] at e
     have X:Pure Tryz.prog TB 170 [DU t,eT (N++w.drop ((k:Nat):Int).toNat)] (eB (A w)):=by
      rw [io,<-H];exact G.ask _ (by simp;omega)
     have ek:(((k:Nat):Int)+1).toNat=k+1:=by omega
     have V:Pure Tryz.prog TB 170 [DU t,eT (o++w.drop (((k:Nat):Int)+1).toNat)] (eB (A (o++w.drop (k+1)))):=by
      rw [ek];exact G.ask _ (by simp;omega)
     have hd1:(w.drop ((k:Nat):Int).toNat).length<=1048576:=by simp;omega
     have hd2:(w.drop (((k:Nat):Int)+1).toNat).length<=1048576:=by simp;omega
     (repeat first|refine tA rfl ?_ |refine s2 rfl λ_ a=>?_ |refine aU rfl ?_ |apply Aa);refine Ai.cond rfl (λhb=>?_) (λhb=>?_)<;>cases hb
     rotate_left
     ·exfalso;(simp only[oZ] at *;omega)
     (repeat' first|(refine sA rfl ?_ ?_;first|exact tI|omega) |(refine s4 rfl ‹_› rfl ?_ ?_;omega) |refine s2 rfl λ_ a=>?_ |refine sP rfl (hla) rfl ?_|refine sP rfl (z) rfl ?_|refine sP rfl (X) rfl ?_|refine sP rfl (V) rfl ?_|(refine Av rfl ?_;refine gA rfl ?_;first| refine gS (λ_ _=>EA rfl rfl (by omega) (by omega)) ?_) |refine aU rfl ?_ |apply Aa |refine rE (by kernel_rfl) ?_|(refine aC rfl ?_ ?_<;>rintro⟨⟩)|apply aK|apply aE|apply aB|refine aR ⟨_,rfl,?_⟩)
     ·have y:=e.1 (by intro h;rw [h] at a;simp at a)
      rw [y]
      show E.t _=E.t _
      rw [ek]
     ·have S:=e.2 (by simpa using (by simpa using a:A w=A (o++w.drop (k+1))).symm)
      have hA2:A (tab.rows.getD (runM A tab 0 (w.take (k+1))) []++w.drop (k+1))=A w:=by rw [e2];exact(by simpa using a:A w=A (o++w.drop (k+1))).symm
      refine⟨⟨k+1,by omega,S,hA2⟩,by dsimp only;(omega),[0],?_⟩;simp[cX,zC,b]
    ·obtain rfl:k=w.length:=by omega
     rw [mz] at p;have y:R=none:=p;rw [y];(repeat first|refine tA rfl ?_ |refine s2 rfl λ_ a=>?_ |refine aU rfl ?_ |apply Aa);refine Ai.cond rfl (λhb=>?_) (λhb=>?_)<;>cases hb
     ·exfalso;(simp only[oZ] at *;omega)
     (repeat' first|refine tA rfl ?_ |refine aU rfl ?_ |apply Aa|(refine aC rfl ?_ ?_<;>rintro⟨⟩)|apply aK|apply aE|apply aB|refine aR ⟨_,rfl,?_⟩);rfl
  ·have i:E5 al w=false:=by simpa using i
   rw [i] at q
   have u:Ew A al tab w=none:=by unfold Ew;rw [i];simp
   rw [u];refine eG Tryz.func133 rfl (by kernel_rfl) rfl ?_;intro Z b;(repeat' first|refine tA rfl ?_ |(refine s2 rfl λ_ a=>?_;try (simp only[jL,jQ] at a;subst a)) |refine sP rfl (n) rfl ?_|refine sP rfl (q) rfl ?_ |refine aU rfl ?_ |apply Aa |refine rE (by kernel_rfl) ?_|(refine aC rfl ?_ ?_<;>rintro⟨⟩)|apply aK|apply aE|apply aB|refine aR ⟨_,rfl,?_⟩)
   all_goals first
    | rfl
    | (exfalso;grind;done)
 ·have u:Ew A al tab w=none:=by unfold Ew;simp [r]
  rw [if_neg r] at n;rw [u];refine eG Tryz.func133 rfl (by kernel_rfl) rfl ?_;intro Z b;(repeat' first|refine tA rfl ?_ |(refine s2 rfl λ_ a=>?_;try (simp only[jL,jQ] at a;subst a)) |refine sP rfl (n) rfl ?_ |refine aU rfl ?_ |apply Aa |refine rE (by kernel_rfl) ?_|(refine aC rfl ?_ ?_<;>rintro⟨⟩)|apply aK|apply aE|apply aB|refine aR ⟨_,rfl,?_⟩)
  all_goals first
   | rfl
   | (exfalso;grind;done)
theorem aa{t:Eh}{l:Int}{F:PS}{k x:Nat}(h:Cb t.q k l=(x:Int)):IE t l F (k+1)=Ua (IE t l F k) x (IE t l F k x ||| FP t.s l (F k)):=by
 rw [OS];funext p;unfold Ua;rw [h];by_cases e:p=x
 ·subst e;simp
 ·rw [if_neg e,if_neg (by omega)]
theorem VO{t:Eh}(ht:BB t=true){F:PS}(w:EE t F){l:Int}(m:0<=l/\l < 6):Pure Tryz.prog TB 176 [QE t,Aj (KU t.q.nx.length F),eI .i64 l] (Aj (KU t.q.nx.length (FF t l F))):=by
 have K:AR t.s=true:=by unfold BB at ht;simp only [d4] at ht;exact ht.1
 have e:=Di ht;have N:=AI e;have u:=Nm (TB:=TB) ht (Tx ht m w);rw [show Ss t (ZZ t l F)=FF t l F from rfl] at u
 have L:(KU t.q.nx.length F).length=t.q.nx.length:=by simp
 have P:List.replicate t.q.nx.length (AB 0)=(KU t.q.nx.length (IE t l F 0)).map AB:=Pa;have y:[zC (Value.int IntKind.i64 0)]=AB 0:=rfl;have r:=Cv (TB:=TB) t.s.al l m.1 (by omega);refine eG Tryz.func176 rfl (by kernel_rfl) rfl ?_;intro Z c;(repeat first|refine sN rfl ?_ |refine tA rfl ?_ |refine aU rfl ?_ |apply Aa);(refine pW rfl ?_ rfl (by rfl);refine KP rfl rfl (by rfl) (by rfl) (ce rfl) (by omega) (by omega) (by omega) ?_);(repeat first|refine tA rfl ?_ |refine aU rfl ?_ |apply Aa);apply aB;refine aL (α:={k:Nat // k<=t.q.nx.length}) [1,2,3] [] rfl rfl (λs=>[(7,.o (.arr 0 1 0 t.q.nx.length)),(8,eI .i64 s.1)]) (λs=>[(0,.cells 3 1 ((KU t.q.nx.length (IE t l F s.1)).map AB))]) 1 (λs=>t.q.nx.length - s.1) (⟨0,by omega⟩) c rfl (by (simp[cX,zC,c,P,y])) ?_;rintro⟨k,hk⟩;(try dsimp only[cA,cB]);by_cases i:k < t.q.nx.length
 ·have S:((KU t.q.nx.length F).map Bm)[((k:Nat):Int).toNat]? = some (Bm (F k:Int)):=by rw [io];simp [i]
  have j:=Il (TB:=TB) t.q e k i l m.1 m.2;have A:=Dp e i m.1 m.2
  obtain⟨x,B⟩:∃x:Nat,Cb t.q k l=x:=⟨(Cb t.q k l).toNat,by omega⟩
  have z:=aa (F:=F) B;rw [B] at j A;have p:=ON (TB:=TB) K l (w.lt k);have R:=PU (n:=t.q.nx.length) (G:=IE t l F k) (x:=x) (by omega);have M:=Z0 ht (l:=l) w k x;have J:=J8 ht (l:=l) (w.lt k);have h:=PC (a:=IE t l F k x) (b:=FP t.s l (F k)) (by omega) (by omega);have d:=PV (n:=t.q.nx.length) (x:=x) (v:=IE t l F k x ||| FP t.s l (F k)) (G:=IE t l F k);rw [<-z] at d;(repeat first|refine sN rfl ?_ |refine tA rfl ?_ |refine s2 rfl λ_ f=>?_ |refine aU rfl ?_ |apply Aa)
  ((refine aC rfl ?_ ?_<;>rintro⟨⟩);all_goals try(exfalso;(simp only[oZ] at *;omega)))
  apply aK;refine aS (aB ?_);(repeat first|refine tA rfl ?_ |(refine s4 rfl ‹_› rfl ?_ ?_;omega) |(refine sC rfl (r) ?_;intro _ f) |refine aU rfl ?_ |apply Aa);(refine aC rfl ?_ ?_<;>rintro⟨⟩)
  ·have g:FP t.s l (F k)=BW t.s.es l (F k):=by unfold FP;rw [if_pos f]
   rw [<-g] at p;(repeat first|(refine sA rfl ?_ ?_;first|exact tI|omega) |refine t4 rfl ‹_› rfl ?_ |refine sP rfl (p) rfl ?_|refine sP rfl (j) rfl ?_ |refine aU rfl ?_ |apply Aa);refine⟨⟨k+1,by omega⟩,by dsimp only;(omega),[0],?_⟩
   simp[cX,zC,c,h];simpa [d5] using d
  ·have g:FP t.s l (F k)=F k:=by unfold FP;rw [if_neg (by simp [f])]
   rw [g] at h d;apply aK;(repeat first|(refine sA rfl ?_ ?_;first|exact tI|omega) |refine t4 rfl ‹_› rfl ?_ |refine sP rfl (j) rfl ?_ |refine aU rfl ?_ |apply Aa);refine⟨⟨k+1,by omega⟩,by dsimp only;(omega),[0],?_⟩
   simp[cX,zC,c,h];simpa [d5] using d
 ·obtain rfl:k=t.q.nx.length:=by omega
  rw [show IE t l F t.q.nx.length=ZZ t l F from rfl];(repeat first|refine sN rfl ?_ |refine tA rfl ?_ |refine s2 rfl λ_ f=>?_ |refine aU rfl ?_ |apply Aa)
  ((refine aC rfl ?_ ?_<;>rintro⟨⟩);all_goals try(exfalso;(simp only[oZ] at *;omega)))
  apply aE;(repeat first|refine tA rfl ?_ |refine aU rfl ?_);(refine pW rfl ?_ rfl (by rfl);refine Af [0] rfl rfl (u) ⟨rfl,by decide,by decide⟩ rfl (by simp[cX,zC,c]) ?_;rintro Q H I ⟨rfl,rfl,rfl⟩ _);(repeat first|refine tA rfl ?_);apply Aa;refine Ai.Ay [] [] rfl rfl [(6,.o (.arr 0 1 0 t.q.nx.length))] [(0,.cells 3 1 ((KU t.q.nx.length (FF t l F)).map AB))] [0] (rl c rfl) (by (simp[cX,zC,c])) ?_;(try dsimp only[cA,cB]);refine Ai.settle [(6,Aj (KU t.q.nx.length (FF t l F)))] ⟨⟨_,rfl,.o (.full rfl (by simp [d5]) (by simp))⟩,trivial⟩ ?_;refine aR ⟨_,rfl,rfl⟩
theorem GS(t:Eh):Pure Tryz.prog TB 169 [QE t] (eB (BB t)):=by
 unfold BB;refine eN Tryz.func169 rfl (by kernel_rfl) rfl ?_;intro Z b;(repeat' first|refine tA rfl ?_ |(refine sC rfl (BI t.s) ?_;intro _ a)|(refine sC rfl (AT t.q) ?_;intro _ a)|(refine sC rfl (CO t.al) ?_;intro _ a) |refine s3 rfl ?_ ?_<;>rintro rfl |refine aU rfl ?_ |apply Aa|(refine aC rfl ?_ ?_<;>rintro⟨⟩)|apply aK|apply aE|apply aB|refine aR ⟨_,rfl,?_⟩)
 all_goals (show E.o _=E.o _;simp_all)
noncomputable def IP(t:Eh)(w:W):Bool:=BB t && (within w t.al && LS t w)
theorem Ui{w:W}{al:Int}(h:within w al=true):∀c∈w,0<=(c.toNat:Int) - 97/\(c.toNat:Int) - 97 < 6:=λc a=>Mr (DJ h c a)
theorem LJ(t:Eh)(w:W)(A:w.length<=1099511627776):Pure Tryz.prog TB 130 [QE t,eT w] (eB (IP t w)):=by
 have n:=GS (TB:=TB) t;have m:=Dw (TB:=TB) w t.al A;by_cases h:(BB t && within w t.al)=true
 ·have ht:BB t=true:=by revert h;cases BB t<;>simp
  have g:within w t.al=true:=by revert h;cases within w t.al<;>simp
  have z:=Ui g
  have y:IP t w=LS t w:=by unfold IP;rw [ht,g];rfl
  rw [y];rw [ht] at n;rw [g] at m;have j:=Tq (TB:=TB) ht;refine eG Tryz.func130 rfl (by kernel_rfl) rfl ?_;intro Z d
  (repeat' first|refine tA rfl ?_ |refine s2 rfl λ_ a=>?_ |refine sP rfl (n) rfl ?_|refine sP rfl (m) rfl ?_|refine sP rfl (j) rfl ?_ |refine s3 rfl ?_ ?_<;>rintro rfl |refine aU rfl ?_ |apply Aa|(refine aC rfl ?_ ?_<;>rintro⟨⟩));all_goals try contradiction
  apply aK;(repeat first|refine tA rfl ?_ |refine sP rfl (j) rfl ?_ |refine aU rfl ?_ |apply Aa);apply aB;refine aL (α:={x:Nat×PS // x.1<=w.length/\EE t x.2/\J9 t x.2 (w.drop x.1)=LS t w}) [1,2] [] rfl rfl (λs=>[(5,Aj (KU t.q.nx.length s.1.2)),(6,eI .i64 s.1.1)]) (λs=>[]) 0 (λs=>w.length - s.1.1) (⟨⟨0,DH t⟩,by simp,It ht,rfl⟩) d rfl (by (simp[cX,zC,d])) ?_;rintro⟨⟨i,F⟩,hi,l,e⟩;(try dsimp only[cA,cB]);have hi:i<=w.length:=hi;have l:EE t F:=l;have e:J9 t F (w.drop i)=LS t w:=e;have f:=XN (TB:=TB) ht (F:=F);by_cases p:i < w.length
  ·obtain⟨c,v⟩:=get_some p
   have u:w[((i:Nat):Int).toNat]? = some c:=by simpa using v
   have k:=z c (co v);have r:=Hh (TB:=TB) w i c u;have o:=VO (TB:=TB) ht l k;have hno:=Ru ht k l;rw [BF v,J9] at e;generalize IC t F=b at *
   (repeat' first|refine tA rfl ?_ |refine s2 rfl λ_ a=>?_ |refine sP rfl (f) rfl ?_ |refine s3 rfl ?_ ?_<;>rintro rfl |refine aU rfl ?_ |apply Aa|(refine aC rfl ?_ ?_<;>rintro⟨⟩));all_goals try contradiction
   all_goals first| (exfalso;(simp only[oZ] at *;omega);done)|skip
   ·have hb:b=false:=by simpa using a
    subst hb;apply aK;refine aS (aB ?_);refine rG (Ig []) (by kernel_rfl) ?_;(repeat first|(refine sA rfl ?_ ?_;first|exact tI|omega) |refine sP rfl (r) rfl ?_|refine sP rfl (o) rfl ?_ |refine aU rfl ?_ |apply Aa);refine⟨⟨⟨i+1,FF t ((c.toNat:Int) - 97) F⟩,by omega,hno,by simpa using e⟩,by dsimp only;(omega),[],?_⟩;simp[cX,zC,d]
   ·have hb:b=true:=by simpa using a
    subst hb
    have e:LS t w=false:=by simpa using e.symm
    rw [e];apply aE;(repeat first|refine tA rfl ?_ |refine s2 rfl λ_ a=>?_ |refine sP rfl (f) rfl ?_ |refine aU rfl ?_ |apply Aa);(subst_vars;exact aR ⟨_,rfl,rfl⟩)
  ·obtain rfl:i=w.length:=by omega
   rw [mz,J9] at e;rw [<-e]
   (repeat' first|refine tA rfl ?_ |refine s2 rfl λ_ a=>?_ |refine sP rfl (f) rfl ?_ |refine s3 rfl ?_ ?_<;>rintro rfl |refine aU rfl ?_ |apply Aa|(refine aC rfl ?_ ?_<;>rintro⟨⟩));all_goals try contradiction
   all_goals first| (exfalso;(simp only[oZ] at *;omega);done)|skip
   apply aE;(repeat first|refine tA rfl ?_ |refine s2 rfl λ_ a=>?_ |refine sP rfl (f) rfl ?_ |refine aU rfl ?_ |apply Aa);(subst_vars;exact aR ⟨_,rfl,rfl⟩)
 ·have y:IP t w=false:=by unfold IP;revert h;cases BB t<;>cases within w t.al<;>simp
  rw [y];refine eG Tryz.func130 rfl (by kernel_rfl) rfl ?_;intro Z d
  (repeat' first|refine tA rfl ?_ |refine s2 rfl λ_ a=>?_ |(refine sC rfl (n) ?_;intro _ a)|(refine sC rfl (m) ?_;intro _ a) |refine s3 rfl ?_ ?_<;>rintro rfl |refine aU rfl ?_ |apply Aa|(refine aC rfl ?_ ?_<;>rintro⟨⟩));all_goals try contradiction
  all_goals first
   | (subst_vars;exact aR ⟨_,rfl,rfl⟩)
   | (exfalso;simp_all;done)
theorem Mg(t:Ez)(hk:t.kn=false):Pure Tryz.prog TB 123 [DU t] (eI .i64 (if BB ⟨t.s,t.q,t.al⟩ then t.al else -1)):=by
 obtain⟨kn,p,s,q,al⟩:=t;dsimp only at hk;subst hk;have c:=GS (TB:=TB) ⟨s,q,al⟩;refine eN Tryz.func123 rfl (by kernel_rfl) rfl ?_;intro Z b;(repeat' first|refine tA rfl ?_ |refine s2 rfl λ_ a=>?_ |(refine sC rfl (c) ?_;intro _ a) |refine s3 rfl ?_ ?_<;>rintro rfl |refine aU rfl ?_ |apply Aa|(refine aC rfl ?_ ?_<;>rintro⟨⟩)|apply aK|apply aE|apply aB|refine aR ⟨_,rfl,?_⟩)
 all_goals first
  | (show E.o _=E.o _;congr;grind)
  | (exfalso;simp at *;done)
theorem MJ(t:Ez)(hk:t.kn=false)(w:W)(b:w.length<=1099511627776):Pure Tryz.prog TB 170 [DU t,eT w] (eB (IP ⟨t.s,t.q,t.al⟩ w)):=by
 obtain⟨kn,p,s,q,al⟩:=t;dsimp only at hk;subst hk;have c:=LJ (TB:=TB) ⟨s,q,al⟩ w b;refine eN Tryz.func170 rfl (by kernel_rfl) rfl ?_;intro Z a;(repeat' first|refine tA rfl ?_ |refine sP rfl (c) rfl ?_ |refine aU rfl ?_ |apply Aa|(refine aC rfl ?_ ?_<;>rintro⟨⟩)|apply aK|apply aE|apply aB|refine aR ⟨_,rfl,?_⟩)
 all_goals rfl
theorem bZ{t:Ez}(hk:t.kn=false):IT Tryz.prog TB 123 170 t (if BB ⟨t.s,t.q,t.al⟩ then t.al else -1) (IP ⟨t.s,t.q,t.al⟩):=⟨Mg t hk,MJ t hk⟩
def TZ:List W:=[[97,98,32,50,32,48,97,49,32,49,98,48],[97,98,99,32,51,32,48,97,49,32,49,98,50,32,50,99,48],[97,98,32,51,32,48,97,48,32,48,97,49,32,48,98,48,32,49,98,50,32,50,97,50],[98,99,32,50,32,48,98,49,32,49,99,48],[98,99,32,51,32,48,98,49,32,48,99,48,32,49,99,50,32,50,98,50,32,50,99,50],[45,32,49],[97,32,49,32,48,97,48],[97,99,32,52,32,48,97,49,32,48,97,50,32,49,99,51,32,50,97,50,32,51,97,48,32,51,99,51],[97,98,99,32,52,32,48,97,48,32,48,98,49,32,49,98,50,32,49,99,48,32,50,99,51,32,51,97,49],[97,98,32,53,32,48,97,48,32,48,97,49,32,48,98,48,32,49,97,50,32,49,98,50,32,50,97,51,32,50,98,51,32,51,97,52,32,51,98,52],[97,98,100,32,51,32,48,97,49,32,48,100,48,32,49,98,48,32,49,100,50]]
theorem WJ:∀w∈TZ,w.length<=60:=by decide
theorem Th:Pure Tryz.prog TB 194 [] (BP TZ):=by
 refine eN Tryz.func194 rfl (by kernel_rfl) rfl ?_;intro Z a;(repeat first|refine tA rfl ?_ |refine aU rfl ?_ |apply Aa);refine aR ⟨_,rfl,rfl⟩
theorem OL(b:List UInt8)(hb:b.length<=2000)(p:Int)(N:0<=p/\p < 700000000):Spec Tryz.prog TB 151 [(0,A5 b p)] 1 [.o (.ptr 0 2 0 0)] (Jq b p 410 (λs=>s.es.length<=400)):=by
 obtain⟨c,Q,P,I⟩:=A1 (TB:=TB) b hb p 3 (by omega);obtain⟨w,H,J⟩:=bI (TB:=TB) b hb (p+1) (by omega) TZ (by decide) (by decide);have G:=WJ w H;have z:=Fm (TB:=TB) w (by omega);have g:∀q:Int,p<=q/\q<=p+2->∃(l j k:Int),(0<=j/\j<=8)/\Spec Tryz.prog TB 37 [(0,A5 b q)] 1 [.o (.ptr 0 2 0 0),Aj [3,6,7,5,1,0,12]] (λx σ nx=>x=eI .i64 l/\σ=[(0,A5 b (q+1))]/\nx=1)/\
  Spec Tryz.prog TB 37 [(0,A5 b (q+1))] 1 [.o (.ptr 0 2 0 0),Aj [3,2,4,1,5]] (λx σ nx=>x=eI .i64 j/\σ=[(0,A5 b (q+1+1))]/\nx=1)/\
  Spec Tryz.prog TB 37 [(0,A5 b (q+1+1))] 1 [.o (.ptr 0 2 0 0),Aj [3,2,4,6]] (λx σ nx=>x=eI .i64 k/\σ=[(0,A5 b (q+1+1+1))]/\nx=1):=λq A=>by
  obtain⟨l,M,u⟩:=Cn (TB:=TB) b hb q (by omega) [3,6,7,5,1,0,12] (by decide) (by decide);obtain⟨j,v,t⟩:=Cn (TB:=TB) b hb (q+1) (by omega) [3,2,4,1,5] (by decide) (by decide);obtain⟨k,L,r⟩:=Cn (TB:=TB) b hb (q+1+1) (by omega) [3,2,4,6] (by decide) (by decide);exact⟨l,j,k,by simp at v;omega,u,t,r⟩
 refine eR Tryz.func151 rfl (by kernel_rfl) rfl ?_;intro Z a;(repeat first|refine tA rfl ?_ |refine aU rfl ?_ |apply Aa);(refine pW rfl ?_ rfl (by rfl);refine Af [0] rfl rfl (I) ⟨rfl,by decide,by decide⟩ rfl (by simp[cX,zC,a,cN]) ?_;rintro h d e ⟨rfl,rfl,rfl⟩ _);(repeat first|refine s2 rfl λ_ K=>?_ |apply Aa);(refine aC rfl ?_ ?_<;>rintro⟨⟩)
 ·(repeat first|refine tA rfl ?_ |refine sP rfl (Th) rfl ?_ |refine aU rfl ?_)
  (refine pW rfl ?_ rfl (by rfl);refine Af [0] rfl rfl (J) ⟨rfl,by decide,by decide⟩ rfl (by simp[cX,zC,a,cN]) ?_;rintro h d e ⟨rfl,rfl,rfl⟩ _);(refine pW rfl ?_ rfl (by rfl);refine Af [] rfl rfl (z) ⟨rfl,by decide,by decide⟩ rfl trivial ?_;rintro h d e ⟨⟨y,ok⟩,F,rfl,rfl,rfl⟩ _);have B:y.es.length<=w.length+1:=F;(repeat first|refine tA rfl ?_ |refine aU rfl ?_ |apply Aa);(refine aC rfl ?_ ?_<;>rintro⟨⟩)
  ·(repeat first|refine tA rfl ?_ |refine aU rfl ?_ |apply Aa)
   exact aR ⟨_,rfl,[0],Bx y,[(0,A5 b (p+1+1))],⟨by intro i hi;match i with|0=>rfl,by decide⟩,rfl,by (simp[cX,zC,a,cN]),p+1+1,y,by omega,by show y.es.length<=400;omega,rfl,rfl,rfl⟩
  apply aK;obtain⟨l,j,k,v,u,t,r⟩:=g (p+1+1) (by omega);have f:=HR (TB:=TB) b hb (p+1+1+1+1+1) (by omega) l j k (by omega);(repeat first|refine tA rfl ?_ |refine aU rfl ?_);(refine pW rfl ?_ rfl (by rfl);refine Af [0] rfl rfl (u) ⟨rfl,by decide,by decide⟩ rfl (by simp[cX,zC,a,cN]) ?_;rintro h d e ⟨rfl,rfl,rfl⟩ _);(repeat first|refine tA rfl ?_);(refine pW rfl ?_ rfl (by rfl);refine Af [0] rfl rfl (t) ⟨rfl,by decide,by decide⟩ rfl (by simp[cX,zC,a,cN]) ?_;rintro h d e ⟨rfl,rfl,rfl⟩ _);(repeat first|refine tA rfl ?_);(refine pW rfl ?_ rfl (by rfl);refine Af [0] rfl rfl (r) ⟨rfl,by decide,by decide⟩ rfl (by simp[cX,zC,a,cN]) ?_;rintro h d e ⟨rfl,rfl,rfl⟩ _);(refine pW rfl ?_ rfl (by rfl);refine Dh [0] rfl rfl 1 (f) (by decide) ⟨rfl,by decide,by decide⟩ rfl (by simp[cX,zC,a,cN]) ?_;rintro h d e ⟨q,n,A,m,rfl,rfl,rfl⟩ _);(repeat first|refine tA rfl ?_ |apply Aa);exact aR ⟨_,rfl,[0],Bx n,[(0,A5 b q)],⟨by intro i hi;match i with|0=>rfl,by decide⟩,rfl,by (simp[cX,zC,a,cN]),q,n,by omega,m.2.2,rfl,rfl,rfl⟩
 apply aK;obtain⟨l,j,k,v,u,t,r⟩:=g (p+1) (by omega);have f:=HR (TB:=TB) b hb (p+1+1+1+1) (by omega) l j k (by omega);(repeat first|refine tA rfl ?_ |refine aU rfl ?_);(refine pW rfl ?_ rfl (by rfl);refine Af [0] rfl rfl (u) ⟨rfl,by decide,by decide⟩ rfl (by simp[cX,zC,a,cN]) ?_;rintro h d e ⟨rfl,rfl,rfl⟩ _);(repeat first|refine tA rfl ?_);(refine pW rfl ?_ rfl (by rfl);refine Af [0] rfl rfl (t) ⟨rfl,by decide,by decide⟩ rfl (by simp[cX,zC,a,cN]) ?_;rintro h d e ⟨rfl,rfl,rfl⟩ _);(repeat first|refine tA rfl ?_);(refine pW rfl ?_ rfl (by rfl);refine Af [0] rfl rfl (r) ⟨rfl,by decide,by decide⟩ rfl (by simp[cX,zC,a,cN]) ?_;rintro h d e ⟨rfl,rfl,rfl⟩ _);(refine pW rfl ?_ rfl (by rfl);refine Dh [0] rfl rfl 1 (f) (by decide) ⟨rfl,by decide,by decide⟩ rfl (by simp[cX,zC,a,cN]) ?_;rintro h d e ⟨q,n,A,m,rfl,rfl,rfl⟩ _);(repeat first|refine tA rfl ?_ |apply Aa);exact aR ⟨_,rfl,[0],Bx n,[(0,A5 b q)],⟨by intro i hi;match i with|0=>rfl,by decide⟩,rfl,by (simp[cX,zC,a,cN]),q,n,by omega,m.2.2,rfl,rfl,rfl⟩
abbrev IZ(r:Sys×AU×Sys):E:=.t [(true,(AD r.1).map .d),(true,(AF r.2.1).map .d),(true,(AD r.2.2).map .d)]
structure dY (r:Sys×AU×Sys):Prop where
 a:r.1.es.length<=400
 b:HG 41 r.2.1
 c:r.2.2.es.length<=400
def Zv(b:List UInt8)(p m:Int)(x:E)(σ:Ab)(nx:Nat):Prop:=∃(p':Int) (r:Sys×AU×Sys),(p<=p'/\p'<=p+m)/\dY r/\x=IZ r/\σ=[(0,A5 b p')]/\nx=1
theorem HG.upto{m n:Nat}{a:AU}(h:HG m a)(c:m<=n):HG n a:=⟨by have:=h.nx;omega,by have:=h.ac;omega,λr b=>by have:=h.row r b;omega⟩
theorem bE{C X:Int->Sys->Prop}{Y:Prop}(h:∀q s,C q s->X q s)(hk:(∀q s,C q s->X q s)->Y):Y:=hk h
theorem Tr(b:List UInt8)(hb:b.length<=2000)(p:Int)(T:0<=p/\p < 600000000):Spec Tryz.prog TB 102 [(0,A5 b p)] 1 [.o (.ptr 0 2 0 0)] (Zv b p 2000):=by
 have S:=Nk (TB:=TB) b hb p (by omega);refine eR Tryz.func102 rfl (by kernel_rfl) rfl ?_;intro Z a;(repeat first|refine tA rfl ?_ |refine aU rfl ?_ |apply Aa);(refine pW rfl ?_ rfl (by rfl);refine Af [0] rfl rfl (S) ⟨rfl,by decide,by decide⟩ rfl (by simp[cX,zC,a,cN]) ?_;rintro t e f ⟨K,H,N,z,rfl,rfl,rfl⟩ _);(repeat first|refine tA rfl ?_ |refine aU rfl ?_ |apply Aa);have R:=Nk (TB:=TB) b hb K (by omega);(refine pW rfl ?_ rfl (by rfl);refine Af [0] rfl rfl (R) ⟨rfl,by decide,by decide⟩ rfl (by simp[cX,zC,a,cN]) ?_;rintro t e f ⟨x,w,M,y,rfl,rfl,rfl⟩ _);(repeat first|refine tA rfl ?_ |refine aU rfl ?_ |apply Aa);obtain⟨c,c1,c2,P⟩:=A1 (TB:=TB) b hb x 4 (by omega);(refine pW rfl ?_ rfl (by rfl);refine Af [0] rfl rfl (P) ⟨rfl,by decide,by decide⟩ rfl (by simp[cX,zC,a,cN]) ?_;rintro t e f ⟨rfl,rfl,rfl⟩ _);apply bE (C:=λq s=>(p<=q/\q<=p+1300)/\s.es.length<=400)
 case hk=>
  intro hk;(repeat first|refine s2 rfl λ_ G=>?_ |apply Aa);(refine aC rfl ?_ ?_<;>rintro⟨⟩)
  ·(repeat first|refine tA rfl ?_ |refine aU rfl ?_)
   have F:=OL (TB:=TB) b hb (x+1) (by omega);(refine pW rfl ?_ rfl (by rfl);refine Af [0] rfl rfl (F) ⟨rfl,by decide,by decide⟩ rfl (by simp[cX,zC,a,cN]) ?_;rintro t e f ⟨g,j,v,n,rfl,rfl,rfl⟩ _);(repeat first|refine tA rfl ?_);apply Aa;refine Ai.Ay [0] [] rfl rfl [(2,.o (.ptr 1 3 0 0)),(3,.o (.ptr 2 3 0 0)),(4,.o (.ptr 3 3 0 0)),(5,.o (.ptr 4 3 0 0)),(6,.o (.ptr 5 3 0 0))] [(0,A5 b g),(1,.cells 25 3 [[.d (iD 0),.d (iD 0),.d (.l [])]]),(2,.cells 29 3 [[.d (iD 0),.d (.l []),.d (.l [])]]),(3,.cells 25 3 [[.d (iD 0),.d (iD 0),.d (.l [])]]),(4,.cells 25 3 [(AD j).map .d]),(5,.cells 25 3 [(AD w).map .d])] [0,1,2,3,4,5] (rl a rfl) (by (simp[cX,zC,a,cN,Ag,eC])) ?_;(try dsimp only[cA,cB]);exact hk g j ⟨by omega,n⟩
  ·apply aK
   generalize v:x+1=g at *;refine Ai.Ay [0] [] rfl rfl [(2,.o (.ptr 1 3 0 0)),(3,.o (.ptr 2 3 0 0)),(4,.o (.ptr 3 3 0 0)),(5,.o (.ptr 4 3 0 0)),(6,.o (.ptr 5 3 0 0))] [(0,A5 b g),(1,.cells 25 3 [[.d (iD 0),.d (iD 0),.d (.l [])]]),(2,.cells 29 3 [[.d (iD 0),.d (.l []),.d (.l [])]]),(3,.cells 25 3 [[.d (iD 0),.d (iD 0),.d (.l [])]]),(4,.cells 25 3 [(AD H).map .d]),(5,.cells 25 3 [(AD w).map .d])] [0,1,2,3,4,5] (rl a rfl) (by (simp[cX,zC,a,cN,Ag,eC])) ?_;(try dsimp only[cA,cB]);exact hk g H ⟨by omega,z.2⟩
 case h =>
  intro g j ⟨v,n⟩;(repeat first|refine tA rfl ?_ |refine aU rfl ?_);obtain⟨Y,X,V,A⟩:=A1 (TB:=TB) b hb g 4 (by omega);(refine pW rfl ?_ rfl (by rfl);refine Af [0] rfl rfl (A) ⟨rfl,by decide,by decide⟩ rfl (by simp[cX,zC,a,cN]) ?_;rintro t e f ⟨rfl,rfl,rfl⟩ _);apply bE (C:=λq s=>(p<=q/\q<=p+1800)/\s.es.length<=400)
  case hk=>
   intro hk;(repeat first|refine s2 rfl λ_ G=>?_ |apply Aa);(refine aC rfl ?_ ?_<;>rintro⟨⟩)
   ·(repeat first|refine tA rfl ?_ |refine aU rfl ?_)
    have F:=OL (TB:=TB) b hb (g+1) (by omega);(refine pW rfl ?_ rfl (by rfl);refine Af [0] rfl rfl (F) ⟨rfl,by decide,by decide⟩ rfl (by simp[cX,zC,a,cN]) ?_;rintro t e f ⟨k,r,u,m,rfl,rfl,rfl⟩ _);(repeat first|refine tA rfl ?_);apply Aa;refine Ai.Ay [0] [] rfl rfl [(2,.o (.ptr 1 3 0 0)),(3,.o (.ptr 2 3 0 0)),(4,.o (.ptr 3 3 0 0)),(5,.o (.ptr 4 3 0 0)),(6,.o (.ptr 5 3 0 0))] [(0,A5 b k),(1,.cells 25 3 [[.d (iD 0),.d (iD 0),.d (.l [])]]),(2,.cells 29 3 [[.d (iD 0),.d (.l []),.d (.l [])]]),(3,.cells 25 3 [[.d (iD 0),.d (iD 0),.d (.l [])]]),(4,.cells 25 3 [(AD j).map .d]),(5,.cells 25 3 [(AD r).map .d])] [0,1,2,3,4,5] (rl a rfl) (by (simp[cX,zC,a,cN,Ag,eC])) ?_;(try dsimp only[cA,cB]);exact hk k r ⟨by omega,m⟩
   ·apply aK
    generalize u:g+1=k at *;refine Ai.Ay [0] [] rfl rfl [(2,.o (.ptr 1 3 0 0)),(3,.o (.ptr 2 3 0 0)),(4,.o (.ptr 3 3 0 0)),(5,.o (.ptr 4 3 0 0)),(6,.o (.ptr 5 3 0 0))] [(0,A5 b k),(1,.cells 25 3 [[.d (iD 0),.d (iD 0),.d (.l [])]]),(2,.cells 29 3 [[.d (iD 0),.d (.l []),.d (.l [])]]),(3,.cells 25 3 [[.d (iD 0),.d (iD 0),.d (.l [])]]),(4,.cells 25 3 [(AD j).map .d]),(5,.cells 25 3 [(AD w).map .d])] [0,1,2,3,4,5] (rl a rfl) (by (simp[cX,zC,a,cN,Ag,eC])) ?_;(try dsimp only[cA,cB]);exact hk k w ⟨by omega,y.2⟩
  case h=>
   intro k r ⟨u,m⟩;have Q:=Ot (TB:=TB) b hb k (by omega) (FU .i64 j.al r.al);(repeat first|refine aU rfl ?_);refine rG ⟨Ft [(0,14),(3,14),(5,15),(7,1048),(8,15),(9,1032),(10,1032),(11,1)],Xl [0,1,2,3,4,5,6,8,7,9,10,11]⟩ (by kernel_rfl) ?_;(repeat first|refine tA rfl ?_);(refine Av rfl ?_;refine CY ?_ rfl ⟨rfl,rfl⟩;refine Af [0] rfl rfl (Q) ⟨rfl,by decide,by decide⟩ rfl (by simp[cX,zC,a,cN]) ?_;rintro t e f ⟨I,J,L,B,rfl,rfl,rfl⟩ _;refine⟨IK 4 5 rfl rfl rfl,?_⟩);(refine Av rfl ?_;refine Yu ?_ rfl ⟨rfl,rfl⟩;refine Gg rfl rfl rfl rfl (by rfl) rfl (ce rfl) ?_;refine⟨Fy 5 rfl rfl,?_⟩);(refine Av rfl ?_;refine Yu ?_ rfl ⟨rfl,rfl⟩;refine Gg rfl rfl rfl rfl (by rfl) rfl (ce rfl) ?_;refine⟨Fy 5 rfl rfl,?_⟩);(repeat first|refine tA rfl ?_ |apply Aa);exact aR ⟨_,rfl,[0],IZ (j,J,r),[(0,A5 b I)],⟨by intro i hi;match i with|0=>rfl,by decide⟩,rfl,by (simp[cX,zC,a,cN]),I,(j,J,r),by omega,⟨n,B.upto (by omega),m⟩,rfl,rfl,rfl⟩
def Hd(A:W->Bool)(al:Int)(t:Bb):Option Bb:=if AW A al t then BO A (BE al) 13 t else none
def Kl(A:W->Bool)(al:Int)(t:Bb)(w:W):Option Bb:=(Ew A al t w).bind λv=>(MG A al t v).bind λu=>Hd A al u
theorem TX{A:W->Bool}{al:Int}{t:Bb}{w v:W}(h:Ew A al t w=some v):v.length<=w.length:=by
 unfold Ew at h;split at h
 ·obtain⟨p,_,rfl⟩:=TW h
  simp
 ·cases h
theorem Zx{A:W->Bool}{al:Int}{t u:Bb}{w:W}(h:MG A al t w=some u):Sr u:=by
 unfold MG at h;split at h
 ·rename_i d
  rw [d4] at d;have b:=(Ee d.1).1;have f:=Ni d.2;unfold Jt at h;split at h
  ·cases h
  ·injection h with h
   subst h;have c:=b.sz;have e:=b.cl;refine⟨c.rl,by simp;omega,c.rb,λx a=>?_⟩
   rcases f6.1 a with a|a
   ·exact c.cb x a
   ·simp at a;subst a;omega
 ·cases h
theorem Ou{t:Ez}{al:Int}{A:W->Bool}(g:IT Tryz.prog TB 123 170 t al A)(hal:0<=al->A3 al=true)(tab:Bb)(h:Sr tab)(w:W)(j:w.length<=1048576) :
 Pure Tryz.prog TB 74 [DU t,IY tab,eT w] (Lp (Kl A al tab w)):=by
 have e:=Oy g hal tab h w j
 rcases b:Ew A al tab w with _|v
 ·have d:Kl A al tab w=none:=by unfold Kl;rw [b];rfl
  rw [d];rw [b] at e;refine eG Tryz.func74 rfl (by kernel_rfl) rfl ?_;intro Z c;(repeat' first|refine tA rfl ?_ |(refine s2 rfl λ_ a=>?_;try (simp only[jL,jQ] at a;subst a)) |refine sP rfl (e) rfl ?_|(refine Av rfl ?_;refine gA rfl ?_;first| refine gS (λ_ _=>AS rfl rfl (by rfl) (by rfl)) ?_) |refine aU rfl ?_ |apply Aa|(refine aC rfl ?_ ?_<;>rintro⟨⟩)|apply aK|apply aE|apply aB|refine aR ⟨_,rfl,?_⟩)
  all_goals rfl
 ·rw [b] at e
  have l:=TX b;have f:=Oi g tab h v (by omega)
  rcases ha:MG A al tab v with _|u
  ·have d:Kl A al tab w=none:=by unfold Kl;rw [b];simp [ha]
   rw [d];rw [ha] at f;refine eG Tryz.func74 rfl (by kernel_rfl) rfl ?_;intro Z c;(repeat' first|refine tA rfl ?_ |(refine s2 rfl λ_ a=>?_;try (simp only[jL,jQ] at a;subst a)) |refine sP rfl (e) rfl ?_|refine sP rfl (f) rfl ?_|(refine Av rfl ?_;refine gA rfl ?_;first| refine gS (λ_ _=>AS rfl rfl (by rfl) (by rfl)) ?_) |refine aU rfl ?_ |apply Aa|(refine aC rfl ?_ ?_<;>rintro⟨⟩)|apply aK|apply aE|apply aB|refine aR ⟨_,rfl,?_⟩)
   all_goals rfl
  ·have d:Kl A al tab w=Hd A al u:=by unfold Kl;rw [b];simp [ha]
   rw [d];rw [ha] at f;have i:Pure Tryz.prog TB 121 [DU t,IY u] (Lp (Hd A al u)):=HL g u (Zx ha)
   rcases k:Hd A al u with _|x<;>rw [k] at i<;>(
    refine eG Tryz.func74 rfl (by kernel_rfl) rfl ?_;intro Z c;(repeat' first|refine tA rfl ?_ |(refine s2 rfl λ_ a=>?_;try (simp only[jL,jQ] at a;subst a)) |refine sP rfl (e) rfl ?_|refine sP rfl (f) rfl ?_|refine sP rfl (i) rfl ?_|(refine Av rfl ?_;refine gA rfl ?_;first| refine gS (λ_ _=>AS rfl rfl (by rfl) (by rfl)) ?_) |refine aU rfl ?_ |apply Aa|(refine aC rfl ?_ ?_<;>rintro⟨⟩)|apply aK|apply aE|apply aB|refine aR ⟨_,rfl,?_⟩)
    all_goals rfl)
def CM(te:Ez):Bool:=if te.kn then AH te.p else BB ⟨te.s,te.q,te.al⟩
def A9(te:Ez):Int:=if te.kn then te.p.al else te.al
noncomputable def BZ(te:Ez)(w:W):Bool:=if te.kn then LA te.p w else LS ⟨te.s,te.q,te.al⟩ w
structure ia (t:Eh):Prop where
 s:t.s.es.length<=401
 q:HG 60 t.q
end Go.Am
namespace Go.Am
open Go
theorem Xe{p:AU}(a:AH p=true):Qk (Og p) (LA p) p.al:=λw b c=>by
 unfold Og;rw [a,FA b c (AI a).1];rfl
theorem Xg{A L:W->Bool}{al:Int}{b:Nat}{t:Bb}(h:Qk A L al)(ht:Sq al b t)(hb:b<=20100)(hk:BQ L (BE al) t){w:W}(a:A0 (BE al) w):Oh A t w=Oh L t w:=by
 rw [<-Pk (hk.gh h ht hb) a,<-Pk hk a,Qv h ht hb]
theorem TV{A L:W->Bool}{al:Int}{b:Nat}{t:Bb}(h:Qk A L al)(ht:Sq al b t)(hb:b<=20100)(hk:BQ L (BE al) t){w:W}(a:A0 (BE al) w)(c:w.length<=20000):DG A t w=DG L t w:=by
 have d:0 < t.rows.length:=(am.1 hk.r0).1;unfold DG;rw [Xg h ht hb hk a,h w a (by omega),LK h ht hb hk (L w) w 0 d a c]
end Go.Am
namespace Go.Am
open Go Go.Proofs
end Go.Am
namespace Go.Am
open Go Go.Proofs
set_option maxHeartbeats 1000000
set_option maxRecDepth 4000
attribute [local irreducible] A8 Cq Lex Br Ai Spec
variable {TB:BA}
theorem GW{te:Ez}(a:CM te=true):A3 (A9 te)=true:=by
 obtain⟨kn,p,s,q,al⟩:=te
 cases kn with
 | true=>exact(AI a).1
 | false=>
  have ht:BB ⟨s,q,al⟩=true:=a;unfold BB at ht;simp only [d4] at ht;exact ht.2.2
noncomputable def Gk(te:Ez)(x:Bb):Option Bb:=if (CM te && AW (BZ te) (A9 te) x)=true then BO (BZ te) (BE (A9 te)) 13 x else none
noncomputable def Rs(te:Ez):Option Bb:=if CM te=true then BO (BZ te) (BE (A9 te)) 13 Bv else none
noncomputable def VA(te:Ez)(x:Bb):Option AU:=if (CM te && Bp (BZ te) (A9 te) x)=true then some (BR (BZ te) (A9 te) x) else none
section
variable {tabs:List (Nat×Obj)}[hTb:FV ⟨tabs,none⟩]{te:Ez}
include hTb
end
noncomputable def Ex(te:Ez)(w:W):Bool:=if te.kn then Og te.p w else IP ⟨te.s,te.q,te.al⟩ w
def Dv(te:Ez):Int:=if CM te then A9 te else -1
theorem O3{t:Eh}(ht:BB t=true):Qk (IP t) (LS t) t.al:=λw b c=>by
 have a:A3 t.al=true:=by unfold BB at ht;simp only [d4] at ht;exact ht.2.2
 unfold IP;rw [ht,FA b c a];rfl
theorem GV{te:Ez}(a:CM te=true):Qk (Ex te) (BZ te) (A9 te):=by
 obtain⟨kn,p,s,q,al⟩:=te
 cases kn with
 | true=>exact Xe a
 | false=>exact O3 (t:=⟨s,q,al⟩) a
theorem WO{A:W->Bool}{t:Bb}:AW A (-1) t=false:=by
 cases h:AW A (-1) t
 ·rfl
 ·have:=(Ee h).1.pos;omega
theorem Uc{A L:W->Bool}{al:Int}(h:Qk A L al)(t:Bb):AW A al t=AW L al t:=by
 unfold AW;cases a:EW al t
 ·rfl
 ·rw [GQ h (RU a).bd (by omega)]
theorem Dd(te:Ez)(x:Bb):(CM te && AW (BZ te) (A9 te) x)=AW (Ex te) (Dv te) x:=by
 unfold Dv;cases a:CM te
 ·simp [WO]
 ·rw [if_pos rfl,ju,Uc (GV a)]
theorem Dj{te:Ez}{x:Bb}(h:AW (Ex te) (Dv te) x=true):CM te=true/\Dv te=A9 te/\AW (BZ te) (A9 te) x=true/\Xc (A9 te) x/\(AY (BZ te) x).Nodup:=by
 rw [<-Dd,d4] at h;exact⟨h.1,by unfold Dv;rw [if_pos h.1],h.2,(Ee h.2).1,(Ee h.2).2⟩
theorem UF{al:Int}(ha:A3 al=true){w:W}(h:A0 (BE al) w)(a:w.length<=4000):E5 al w=true:=by
 unfold E5;rw [FA h (by omega) ha,decide_eq_true a];rfl
theorem XQ{L:W->Bool}{x:Bb}(h:(AY L x).Nodup){i k:Nat}{u w:W}(hi:x.rows[i]? = some u)(hk:x.rows[k]? = some w)(a:k < i):marks L x.cols u≠marks L x.cols w:=by
 intro b
 have d:(AY L x)[i]? = some (marks L x.cols u):=by unfold AY;simp [hi]
 have c:(AY L x)[k]? = some (marks L x.cols u):=by unfold AY;simp [hk,b]
 obtain⟨j,g⟩:=am.1 d;obtain⟨f,e⟩:=am.1 c;exact jn.1 h k i f j a (by rw [g,e])
theorem MQ{L:W->Bool}{ls:List UInt8}:∀ {n:Nat} {t u:Bb},TOk L ls t->BO L ls n t=some u->TOk L ls u/\Bg L ls u=none/\t.rows <+: u.rows/\u.cols=t.cols/\(t.rows.length<=12->u.rows.length<=12)/\(Bg L ls t≠none->t.rows.length < u.rows.length)/\(Bg L ls t=none->u=t)
 | 0,t,u,_,h=>by simp [BO] at h
 | n + 1,t,u,hk,h=>by
  unfold BO at h
  cases a:Bg L ls t with
  | none=>
   rw [a] at h
   injection h with h;subst h
   exact⟨hk,a,lW _,rfl,id,λh=>absurd rfl h,λ_=>rfl⟩
  | some w=>
   rw [a] at h;dsimp only at h;split at h
   ·cases h
   ·rename_i i
    obtain⟨g,f,b,e,d,k,j⟩:=MQ (hk.push a) h;have c:=(mf t.rows [w]).trans b;refine⟨g,f,c,e,λh=>d (by simp;omega),λ_=>?_,λh=>by cases h⟩;have:=b.length_le;simp at this;omega
theorem ZD{te:Ez}{x u:Bb}(h:AW (Ex te) (Dv te) x=true)(d:Gk te x=some u):AW (Ex te) (Dv te) u=true/\Bg (BZ te) (BE (A9 te)) u=none/\x.rows <+: u.rows/\u.cols=x.cols/\(Bg (BZ te) (BE (A9 te)) x≠none->x.rows.length < u.rows.length)/\(Bg (BZ te) (BE (A9 te)) x=none->u=x):=by
 obtain⟨e,r,g,b,q⟩:=Dj h;unfold Gk at d;rw [e,g,ju,if_pos rfl] at d;obtain⟨f,n,m,c,l,k,j⟩:=MQ (Hw g) d;refine⟨?_,n,m,c,k,j⟩;rw [<-Dd,e,ju];have o:=l b.rl;refine Ix (GW e) b.pos f o (by rw [c];exact b.cl) (λw a=>?_) (λw a=>by rw [c] at a;exact(b.cw w a).1);obtain⟨i,hi,p⟩:=jm a;have:=f.short i w (by rw [d6 hi,p]);omega
theorem QA(te:Ez)(x:Bb):(if AW (Ex te) (Dv te) x then BO (Ex te) (BE (Dv te)) 13 x else none)=Gk te x:=by
 unfold Gk;rw [Dd];by_cases a:AW (Ex te) (Dv te) x=true
 ·obtain⟨d,c,f,b,e⟩:=Dj a
  rw [a,c,if_pos rfl,if_pos rfl];exact MP (GV d) 13 b.bd (by omega)
 ·rw [Bool.not_eq_true] at a;rw [a,if_neg jR,if_neg jR]
theorem OF{te:Ez}{x:Bb}(h:AW (Ex te) (Dv te) x=true):(CM te && Bp (BZ te) (A9 te) x)=(Bg (BZ te) (BE (A9 te)) x).isNone:=by
 obtain⟨b,e,a,d,c⟩:=Dj h;rw [b,CN,a];rfl
structure iU (n m:Nat) (t:Bb):Prop where
 rl:t.rows.length<=n
 cl:t.cols.length<=n
 rb:∀w∈t.rows,w.length<=m
 cb:∀w∈t.cols,w.length<=m
section
variable {P:Program}{Z:Ctx}{d:Option Tmp}{ty:TypeId}{pos:String}{af:Array Edge}{g:Option (Nat×Bool)}{L:List (Nat×E)}{σ:Ab}{nx:Nat}
end
noncomputable def Kz(te:Ez)(x:Bb)(w:W):Option Bb:=if (CM te && AW (BZ te) (A9 te) x && E5 (A9 te) w)=true then Jt x w else none
theorem bW(te:Ez)(x:Bb)(w:W):MG (Ex te) (Dv te) x w=Kz te x w:=by
 unfold MG Kz;rw [Dd];cases a:AW (Ex te) (Dv te) x
 ·rw [kR,kR]
 ·rw [(Dj a).2.1]
section
variable {tabs:List (Nat×Obj)}[hTb:FV ⟨tabs,none⟩]{te:Ez}
include hTb
end
noncomputable def FQ(te:Ez)(x:Bb)(w:W):Option W:=if (CM te && Bp (BZ te) (A9 te) x && E5 (A9 te) w)=true then DG (BZ te) x w else none
noncomputable def Kk(te:Ez)(x:Bb)(w:W):Option Bb:=if (CM te && Bp (BZ te) (A9 te) x && E5 (A9 te) w)=true then LN (BZ te) (BE (A9 te)) x w else none
section
variable {tabs:List (Nat×Obj)}[hTb:FV ⟨tabs,none⟩]{te:Ez}
include hTb
end
theorem PO{t:Ez}{al:Int}{A:W->Bool}(f:IT Tryz.prog TB 123 170 t al A):Pure Tryz.prog TB 69 [DU t] (Lp (Hd A al Bv)):=by
 have c:Pure Tryz.prog TB 121 [DU t,IY Bv] (Lp (Hd A al Bv)):=HL f Bv ⟨by decide,by decide,λw a=>by simp [Bv] at a;subst a;simp,λw a=>by simp [Bv] at a;subst a;simp⟩
 rcases e:Hd A al Bv with _|x<;>rw [e] at c<;>(
  refine eG Tryz.func69 rfl (by kernel_rfl) rfl ?_;intro Z d;(repeat' first |refine sN rfl ?_ |((first|refine sA rfl ?_ ?_|refine s4 rfl ‹_› rfl ?_ ?_);first|exact tI|omega|simp only[oZ] at *;omega) |(refine s2 rfl λ_ b=>?_;try (simp only[jL,jQ] at b;subst b)) |refine sP rfl (c) rfl ?_|(refine Av rfl ?_;refine gA rfl ?_;first|refine gS (λ_ _=>AS rfl rfl (by rfl) (by rfl)) ?_) |refine s3 rfl ?_ ?_<;>rintro rfl |refine aU rfl ?_ |apply Aa |refine rE (by kernel_rfl) ?_|(refine aC rfl ?_ ?_<;>rintro⟨⟩)|apply aK|apply aE|apply aB|refine aR ⟨_,rfl,?_⟩)
  all_goals rfl)
end Go.Am
namespace Go.Am
open Go Go.Proofs
set_option maxHeartbeats 1000000
set_option maxRecDepth 4000
attribute [local irreducible] A8 Cq Lex Br Ai Spec
variable {tabs:List (Nat×Obj)}
theorem ZT{al:Int}{w:W}(h:E5 al w=true):A0 (BE al) w/\w.length<=4000:=by
 unfold E5 at h;rw [d4,decide_eq_true_eq] at h;exact⟨DJ h.1,h.2⟩
theorem Tt{L:W->Bool}{cols:List W}{c w:W}:marks L (cols++[c]) w=marks L cols w++[UI (L (w++c))]:=by simp [marks]
theorem SB{te:Ez}{x u:Bb}{w:W}(h:Kz te x w=some u):AW (Ex te) (Dv te) x=true/\A0 (BE (A9 te)) w/\w.length<=4000/\u=⟨x.rows,x.cols++[w]⟩/\AW (Ex te) (Dv te) u=true/\Kz te u w=none:=by
 unfold Kz at h;by_cases d:(CM te && AW (BZ te) (A9 te) x && E5 (A9 te) w)=true
 ·rw [if_pos d] at h
  rw [Dd,d4] at d;obtain⟨g,o⟩:=d;obtain⟨m,l⟩:=ZT o;obtain⟨k,t,s,f,j⟩:=Dj g;unfold Jt at h;split at h
  ·cases h
  rename_i i
  injection h with h
  subst h;rw [not_or] at i;have hk:=Hw s;have p:=f.cl;have q:=f.c1;refine⟨g,m,l,rfl,?_,?_⟩
  ·rw [<-Dd,k,ju]
   refine Ix (GW k) f.pos ⟨hk.r0,by rw [d9 (by omega)];exact hk.c0,hk.pre,hk.onR,λc d=>?_,?_,?_⟩ f.rl (by simp;omega) (λr n=>(f.rw r n).1) (λc d=>?_)
   ·rcases f6.1 d with d|d
    ·exact hk.onC c d
    ·simp at d;subst d;exact m
   ·have e:(AY (BZ te) ⟨x.rows,x.cols++[w]⟩).map List.dropLast=AY (BZ te) x:=by
     unfold AY;rw [ka]
     exact kw λr _=>by simp [d5,Tt]
    rw [<-e] at j;exact(lc.1 j).imp λh e=>h (by rw [e])
   ·exact kI.2 ⟨hk.ndC,by simp,λa ha b hb=>by simp at hb;subst hb;exact λe=>i.2 (e ▸ ha)⟩
   ·rcases f6.1 d with d|d
    ·exact(f.cw c d).1
    ·simp at d;subst d;exact l
  ·unfold Kz Jt
   split
   ·rw [if_pos (.inr (by simp))]
   ·rfl
 ·rw [if_neg d] at h;cases h
end Go.Am
namespace Go.Am
open Go Go.Proofs
set_option maxHeartbeats 1000000
set_option maxRecDepth 4000
attribute [local irreducible] A8 Cq Lex Br Ai Spec
variable {tabs:List (Nat×Obj)}
theorem cd(te:Ez)(x:Bb):(if Bp (Ex te) (Dv te) x then some (BR (Ex te) (Dv te) x) else none)=VA te x:=by
 rw [CN];cases b:AW (Ex te) (Dv te) x
 ·rw [kR,if_neg jR]
  unfold VA;rw [CN,<-Bool.and_assoc,Dd,b];rfl
 ·obtain⟨a,e,d,c,f⟩:=Dj b
  rw [e,KR (GV a) c.bd (by omega),Qv (GV a) c.bd (by omega),ju];unfold VA;rw [CN,a,d,ju,ju]
end Go.Am
namespace Go.Am
open Go Go.Proofs
set_option maxHeartbeats 1000000
set_option maxRecDepth 4000
attribute [local irreducible] A8 Cq Lex Br Ai Spec
variable {tabs:List (Nat×Obj)}
end Go.Am
namespace Go.Am
open Go Go.Proofs
set_option maxHeartbeats 1000000
set_option maxRecDepth 4000
attribute [local irreducible] A8 Cq Lex Br Ai Spec
theorem Xt(te:Ez)(x:Bb):Bp (Ex te) (Dv te) x=(CM te && Bp (BZ te) (A9 te) x):=by
 rw [CN,CN,<-Bool.and_assoc,Dd];cases a:AW (Ex te) (Dv te) x
 ·rw [kR,kR]
 ·obtain⟨d,c,f,b,e⟩:=Dj a
  rw [c,KR (GV d) b.bd (by omega)]
theorem MR{te:Ez}{x:Bb}(h:(CM te && Bp (BZ te) (A9 te) x)=true):AW (Ex te) (Dv te) x=true/\Bg (BZ te) (BE (A9 te)) x=none/\BQ (BZ te) (BE (A9 te)) x:=by
 rw [d4] at h;obtain⟨c,b,a⟩:=KC h.2;exact⟨by rw [<-Dd,h.1,c];rfl,b,a⟩
theorem Zb(te:Ez)(x:Bb)(w:W):Ew (Ex te) (Dv te) x w=FQ te x w:=by
 unfold Ew FQ;rw [Xt];cases d:(CM te && Bp (BZ te) (A9 te) x)
 ·rw [kR,kR,if_neg jR,if_neg jR]
 ·obtain⟨c,i,b⟩:=MR d
  obtain⟨g,f,k,e,j⟩:=Dj c;rw [f,ju];by_cases a:E5 (A9 te) w=true
  ·obtain⟨h,l,_⟩:=Ni a
   rw [if_pos a,if_pos a,TV (GV g) e.bd (by omega) b h (by omega)]
  ·rw [if_neg a,if_neg a]
theorem RY{te:Ez}{x:Bb}{w v:W}(h:FQ te x w=some v):(CM te && Bp (BZ te) (A9 te) x)=true/\A0 (BE (A9 te)) w/\w.length<=4000/\Oh (BZ te) x w≠BZ te w/\splitAt (BZ te) x (BZ te w) 0 w=some v/\Split (BZ te) (BE (A9 te)) x w v:=by
 unfold FQ at h;by_cases a:(CM te && Bp (BZ te) (A9 te) x && E5 (A9 te) w)=true
 ·rw [if_pos a] at h
  rw [d4] at a;obtain⟨a,f⟩:=a;obtain⟨i,j,b⟩:=MR a;obtain⟨c,g,_⟩:=Ni f;unfold DG at h;by_cases ha:Oh (BZ te) x w=BZ te w
  ·rw [if_pos ha] at h;cases h
  ·rw [if_neg ha] at h
   obtain⟨v',e,d⟩:=Sa b (BZ te w) w 0 [] c b.r0 rfl ha;rw [e] at h
   injection h with h;subst h
   exact⟨a,c,g,ha,e,d⟩
 ·rw [if_neg a] at h;cases h
theorem Sc(te:Ez)(x:Bb)(w:W):Kk te x w=(FQ te x w).bind λv=>(Kz te x v).bind λu=>Gk te u:=by
 unfold Kk
 cases a:FQ te x w with
 | none=>
  unfold FQ at a;split
  ·rename_i b
   rw [if_pos b] at a;unfold LN;rw [a];rfl
  ·rfl
 | some v=>
  obtain⟨b,s,l,ha,e,g⟩:=RY a
  have i:(CM te && Bp (BZ te) (A9 te) x && E5 (A9 te) w)=true:=by
   unfold FQ at a;split at a
   ·assumption
   ·cases a
  rw [if_pos i];obtain⟨j,A,q⟩:=MR b;obtain⟨r,H,G,F,B⟩:=Dj j;unfold LN DG;rw [if_neg ha,e]
  show (Jt x v).bind _=(Kz te x v).bind _
  obtain⟨p,_,k⟩:=g.suf;have h:E5 (A9 te) v=true:=UF (GW r) (λc b=>s c (by rw [k];simp [b])) (by rw [k] at l;simp at l;omega)
  have d:Kz te x v=Jt x v:=by unfold Kz;rw [Dd,j,h];rfl
  rw [d]
  cases o:Jt x v with
  | none=>rfl
  | some u=>
   obtain⟨_,_,_,_,f,_⟩:=SB (d.trans o);obtain⟨n,z,m,y,t⟩:=Dj f
   show BO _ _ 13 u=Gk te u
   unfold Gk;rw [n,m];rfl
theorem aW(te:Ez)(x:Bb)(w:W):Kl (Ex te) (Dv te) x w=Kk te x w:=by
 rw [Sc];unfold Kl;rw [Zb];congr 1;funext v;rw [bW];congr 1;funext u;exact QA te u
theorem Sb{te:Ez}{x u:Bb}{w v:W}(h:FQ te x w=some v)(ha:Kz te x v=some u):Bg (BZ te) (BE (A9 te)) u≠none:=by
 obtain⟨i,k,j,g,e,a⟩:=RY h;obtain⟨_,_,_,rfl,_,_⟩:=SB ha;obtain⟨r,d,c,b,f⟩:=a.opens;exact aw (t:=⟨x.rows,x.cols++[v]⟩) d b f
theorem dC{te:Ez}{x y:Bb}{w:W}(h:Kk te x w=some y):(FQ te x w).isSome=true/\AW (Ex te) (Dv te) x=true/\AW (Ex te) (Dv te) y=true/\Bg (BZ te) (BE (A9 te)) y=none/\x.rows <+: y.rows/\x.rows.length < y.rows.length/\∃v,y.cols=x.cols++[v]:=by
 rw [Sc] at h
 cases b:FQ te x w with
 | none=>rw [b] at h;cases h
 | some v=>
  rw [b] at h;have h:(Kz te x v).bind (λu=>Gk te u)=some y:=h
  cases ha:Kz te x v with
  | none=>rw [ha] at h;cases h
  | some u=>
   rw [ha] at h;have h:Gk te u=some y:=h;have c:=Sb b ha;obtain⟨j,_,_,rfl,a,_⟩:=SB ha;obtain⟨i,g,f,e,d,k⟩:=ZD a h;exact⟨rfl,j,i,g,f,d c,v,e⟩
end Go.Am
namespace Go.Am
end Go.Am
