/-
  Marks in tasks and teachers of the caller's own: walked.
-/
import Derived.Test.YtdipaikojjjebaaGreatDoorPart37
import Derived.Test.YtdipaikojjjebaaGreatDoorPart33
set_option linter.all false
namespace Go.Am
open Go Go.Proofs
set_option maxHeartbeats 1000000
set_option maxRecDepth 4000
attribute [local irreducible] A6 CC Lex Bz Ak Spec
variable {TB:BJ}
theorem cG(s:Sys)(p:AY)(al:Int):KJ Tryz.prog TB 140 186 (Db s p al) (Ee (Db s p al)) (Fk (Db s p al)):=jh (t:=Db s p al) rfl
theorem fp{te:EP}:0<=Ee te->Bb (Ee te)=true:=λh=>by
 unfold Ee at *;split at h
 ·rename_i hk;rw[if_pos hk];exact Hk hk
 ·omega
theorem bI(s:Sys)(p:AY)(al:Int):Pure Tryz.prog TB 76 [EW (Db s p al)] (IZ (OL (Db s p al))):=by
 rw[<-jL];exact TE (cG s p al)
theorem bJ(s:Sys)(p:AY)(al:Int)(x:A0)(a:WI x):Pure Tryz.prog TB 77 [EW (Db s p al),Er x] (iH (Pn (Db s p al) x)):=by
 rw[<-jk];exact Hz (cG s p al) x a
theorem XW(s:Sys)(p:AY)(al:Int)(x:A0)(a:WI x)(w:W)(b:w.length<=4000):Pure Tryz.prog TB 81 [EW (Db s p al),Er x,eT w] (IZ (I7 (Db s p al) x w)):=by
 rw[<-ig];exact Rs (cG s p al) (fp (te:=Db s p al)) x a w (by omega)
theorem I6(w:W)(al:Int)(m:EO w=true)(ha:Bb al=true)(x:w.length<=50000):Pure Tryz.prog TB 144 [eT w,eI .i64 al] (eT (Jd al w)):=by
 have u:=MR (TB:=TB) w (by omega);have t:=DE (TB:=TB) al
 have l:∀c∈w,Gz c=true:=by
  unfold EO at m;rw[d4,f7]at m;exact m.2
 rw[m]at u;rw[ha]at t;refine eG Tryz.func144 rfl (by kernel_rfl) rfl ?_;intro Γ d;(repeat first|refine tA rfl ?_|refine s2 rfl λ_ b=>?_|refine sP rfl (u) rfl ?_|refine sP rfl (t) rfl ?_|refine s3 rfl ?_ ?_<;>rintro rfl|refine aU rfl ?_|apply Aa)
 (repeat' first|refine tA rfl ?_|refine s2 rfl λ_ b=>?_|refine sP rfl (u) rfl ?_|refine sP rfl (t) rfl ?_|refine aU rfl ?_|apply Aa|(refine aC rfl ?_ ?_<;>rintro⟨⟩));all_goals try contradiction
 apply aK;(repeat first|refine aU rfl ?_);(refine pW rfl ?_ rfl (by rfl);refine Bj rfl rfl rfl rfl (by simp) (by rfl) (by rfl) (by rfl) (by rfl) ?_);(repeat first|refine tX rfl ?_|refine aU rfl ?_|apply Aa);apply aB;refine aL (α:={k:Nat // k<=w.length}) [0,1] [] rfl rfl (λ⟨k,hk⟩=>[(5,.o (.arr 0 1 0 (Jd al (w.take k)).length)),(6,eI .i64 k)]) (λ⟨k,hk⟩=>[(0,.cells 5 1 ((Jd al (w.take k)).map FR))]) 1 (λ⟨k,hk⟩=>w.length-k) (⟨0,by omega⟩) d rfl (by (simp[cX,zC,d,Jd])) ?_;rintro⟨k,hk⟩;(try dsimp only[cA,cB]);by_cases p:k<w.length
 ·obtain⟨c,s⟩:=get_some p
  have q:w[((k:Nat):Int).toNat]?=some c:=by simpa using s
  have i:=l c (co s);have h:=i;rw[FU,decide_eq_true_eq]at h;have g:=IC (TB:=TB) w k c q;have a:=Dg (TB:=TB) al ((c.toNat:Int)-97) (by omega) (by omega)
  have e:AZ al ((c.toNat:Int)-97).toNat=IB al c:=by
   unfold IB;rw[i,ph];congr 1;omega
  rw[e]at a;have f:=Sy (al:=al) s;have n:=VG al (w.take k);rw[qu]at n;(repeat first|refine tA rfl ?_|refine s2 rfl λ_ b=>?_|refine aU rfl ?_|apply Aa)
  ((refine aC rfl ?_ ?_<;>rintro⟨⟩);all_goals try(exfalso;(simp only[oZ] at *;omega)))
  apply aK;refine aS (aB ?_);cases j:IB al c
  ·rw[j]at a f
   (repeat first|refine tA rfl ?_|refine sP rfl (g) rfl ?_|refine sP rfl (a) rfl ?_|refine aU rfl ?_|apply Aa)
   ((refine aC rfl ?_ ?_<;>rintro⟨⟩);all_goals try (simp at b;done))
   apply aK;(repeat first|(refine sA rfl ?_ ?_;first|exact tI|omega)|refine aU rfl ?_|apply Aa);refine⟨⟨k+1,by omega⟩,by dsimp only;(omega),[0],?_⟩;simp[cX,zC,d,f,FR,Ge]
  ·rw[j]at a f
   (repeat first|refine tA rfl ?_|refine sP rfl (g) rfl ?_|refine sP rfl (a) rfl ?_|refine aU rfl ?_|apply Aa)
   ((refine aC rfl ?_ ?_<;>rintro⟨⟩);all_goals try (simp at b;done))
   (repeat first|refine tA rfl ?_|(refine s4 rfl ‹_› rfl ?_ ?_;omega)|refine aU rfl ?_);(refine pW rfl ?_ rfl (by rfl);refine Au rfl rfl rfl (by first|(simp;done)|(simp;(omega))) rfl (by intro r v;simp at v;subst v;rfl) (by rfl) (am rfl) (by simp;omega) ?_);(repeat first|(refine sX rfl ?_ ?_;first|exact tI|omega)|refine aU rfl ?_|apply Aa);refine⟨⟨k+1,by omega⟩,by dsimp only;(omega),[1],?_⟩;simp[cX,zC,d,f,Ge,FR,pO,NF]
 ·obtain rfl:k=w.length:=by omega
  rw[io] at *;(repeat first|refine tA rfl ?_|refine s2 rfl λ_ b=>?_|refine aU rfl ?_|apply Aa)
  ((refine aC rfl ?_ ?_<;>rintro⟨⟩);all_goals try(exfalso;(simp only[oZ] at *;omega)))
  apply aE;(repeat first|refine tM rfl ?_|(refine Ag rfl ?_;refine gA rfl ?_;first|refine gQ (Pa (Jd al w) rfl rfl (by simp) (by first|rw[pN,ge (by simp)]|rw[pN,TX,ge (by simp)])) (by rfl) ?_)|refine aU rfl ?_|apply Aa);(subst_vars;exact aR ⟨_,rfl,rfl⟩)
abbrev lp(w:W)(c:Int):E:=.t [(false,[.d (tD w)]),(false,[.d (iD c)])]
section
variable [Dl TB]{s t:Sys}{p:AY}{al:Int}(hI:Da s p t al)
include hI
theorem UU{a:AY}(h:EX s t p al a=none):Pure Tryz.prog TB 78 [Br t,QZ ⟨s,p,al⟩,Bk a] (lp [] 0):=by
 obtain⟨f,e⟩:=VF h;have c:=Fw (TB:=TB) s a p;have b:=Fu (TB:=TB) t a;rw[f]at c;rw[e]at b;refine eG Tryz.func78 rfl (by kernel_rfl) rfl ?_;intro Γ d;(repeat first|refine tA rfl ?_|refine sP rfl (c) rfl ?_|refine sP rfl (b) rfl ?_|refine aU rfl ?_|apply Aa)
 (repeat' first|refine sP rfl (c) rfl ?_|refine sP rfl (b) rfl ?_|(refine aC rfl ?_ ?_<;>rintro⟨⟩));all_goals try contradiction
 apply aK;(repeat first|refine tA rfl ?_|refine s2 rfl λ_ g=>?_|refine sP rfl (b) rfl ?_|refine aU rfl ?_|apply Aa)
 (repeat' first|refine tA rfl ?_|refine sP rfl (b) rfl ?_|refine aU rfl ?_|apply Aa|(refine aC rfl ?_ ?_<;>rintro⟨⟩));all_goals try contradiction
 (subst_vars;exact aR ⟨_,rfl,rfl⟩)
theorem UW{a:AY}{w:W}{b:Bool}(h:EX s t p al a=some (w,b))(m:AP (A7 al) w)(r:w.length<=4000):Pure Tryz.prog TB 78 [Br t,QZ ⟨s,p,al⟩,Bk a] (lp w (if (b || LS ⟨s,p,al⟩ w)=true then -1 else 1)):=by
 have hal:=RY hI;have d:=Fw (TB:=TB) s a p;have i:=Fu (TB:=TB) t a
 rcases VE hI h with ⟨u,rfl,l,k,j,n⟩|⟨u,rfl,o,l,k,j,n⟩
 ·rw[l]at d
  have e:=I6 (TB:=TB) (C5 u) al (QO j (by omega)) hal (by omega);rw[k]at e;rw[Bool.true_or,if_pos rfl];refine eG Tryz.func78 rfl (by kernel_rfl) rfl ?_;intro Γ f;(repeat first|refine tA rfl ?_|refine sP rfl (d) rfl ?_|refine aU rfl ?_|apply Aa)
  (repeat' first|refine tA rfl ?_|refine sP rfl (d) rfl ?_|refine sP rfl (e) rfl ?_|refine aU rfl ?_|apply Aa|(refine aC rfl ?_ ?_<;>rintro⟨⟩));all_goals try contradiction
  (subst_vars;exact aR ⟨_,rfl,rfl⟩)
 ·rw [o]at d
  rw[l]at i;have e:=I6 (TB:=TB) (C5 u) al (QO j (by omega)) hal (by omega);rw[k]at e;have g:=Oq (TB:=TB) ⟨s,p,al⟩ w (by omega);rw[SB (Ck hI) w m (by omega)]at g;rw[rI];generalize LS ⟨s,p,al⟩ w=q at *;refine eG Tryz.func78 rfl (by kernel_rfl) rfl ?_;intro Γ f;(repeat first|refine tA rfl ?_|refine sP rfl (d) rfl ?_|refine aU rfl ?_|apply Aa)
  (repeat' first|refine sP rfl (d) rfl ?_|(refine aC rfl ?_ ?_<;>rintro⟨⟩));all_goals try contradiction
  apply aK;(repeat first|refine tA rfl ?_|refine s2 rfl λ_ c=>?_|refine sP rfl (i) rfl ?_|refine aU rfl ?_|apply Aa)
  (repeat' first|refine tA rfl ?_|refine sP rfl (i) rfl ?_|refine aU rfl ?_|apply Aa|(refine aC rfl ?_ ?_<;>rintro⟨⟩));all_goals try contradiction
  apply aK;(repeat first|refine tA rfl ?_|refine sP rfl (e) rfl ?_|refine aU rfl ?_|apply Aa);cases q
  ·(repeat first|refine s2 rfl λ_ c=>?_|refine sP rfl (g) rfl ?_|apply Aa)
   ((refine aC rfl ?_ ?_<;>rintro⟨⟩);all_goals try (simp at c;done))
   (repeat first|refine tA rfl ?_|refine aU rfl ?_|apply Aa);(subst_vars;exact aR ⟨_,rfl,rfl⟩)
  ·(repeat first|refine s2 rfl λ_ c=>?_|refine sP rfl (g) rfl ?_|apply Aa)
   ((refine aC rfl ?_ ?_<;>rintro⟨⟩);all_goals try (simp at c;done))
   apply aK;(repeat first|refine tA rfl ?_|refine aU rfl ?_|apply Aa);(subst_vars;exact aR ⟨_,rfl,rfl⟩)
end
theorem FM(r:Option (List Int)):E.OI (LR r):=by
 show ∀x∈[(false,[C.d (tD (OC r))]),(false,[C.d (bD r.isSome)])],∀c∈x.2,C.OI c=true
 simp[C.OI]
end Go.Am
namespace Go.Am
open Go Go.Proofs
set_option maxHeartbeats 1000000
set_option maxRecDepth 4000
attribute [local irreducible] A6 CC Lex Bz Ak Spec
section
variable {s t:Sys}{p:AY}{al:Int}(hI:Da s p t al)
include hI
theorem kh:(BD s t p).rd=(BX s t p al).length:=by
 obtain⟨x,_,_,a⟩:=Ks hI
 rcases a with ⟨e,_⟩|⟨e,_⟩|⟨e,_⟩<;>rw[e]
end
theorem mU{s t:Sys}{p:AY}(h:¬AT s p t<0):1<=(BD s t p).rd/\(BD s t p).rd<=12/\
    (((BD s t p).code=0/\C8 [s,t] p=true/\(BD s t p).tr=[]/\(BD s t p).rd<=(BD s t p).a.nx.length/\DU s t p (BD s t p).a=0)\/
     ((BD s t p).code=2/\(BD s t p).tr=[]/\(BD s t p).a=Je)\/
     ((BD s t p).code=1/\C8 [s,t] p=false/\(BD s t p).a=Je/\(BD s t p).tr=OC (BE [s,t] p)/\(BE [s,t] p).isSome=true)):=by
  have hI:=Es h;have g:=kh hI;have i:=Km hI;refine⟨by omega,by omega,?_⟩;have hk:=bP h;obtain⟨x,c,_,f⟩:=Ks hI;obtain⟨_,_,j,_⟩:=It hI c;have d:=c.rows
  rcases f with ⟨e,b⟩|⟨e,_⟩|⟨e,b⟩
  · rw [e]at hk |-
    refine .inl ⟨rfl,?_,rfl,?_,b⟩
    · rcases hk with ⟨_,hk,_⟩|⟨hk,_⟩|⟨hk,_⟩
      · exact hk
      · cases hk
      · cases hk
    · show ((BX s t p (AT s p t)).length:Int)<=((Bq s p (AT s p t) x).nx.length:Nat)
      omega
  · rw[e];exact .inr (.inl ⟨rfl,rfl,rfl⟩)
  · rw[e];exact .inr (.inr ⟨rfl,b.1,rfl,rfl,b.2⟩)
theorem cH{s t:Sys}{p:AY}{al:Int}(hI:Da s p t al){x:A0}{r:Nat}(a:EF s p al x r):Pn (Db s p al) x=some (Bq s p al x):=by
 unfold Pn;rw[HS a.v,Gi,CE,a.o,if_pos (by rfl:(none:Option W).isNone=true)];rfl
theorem YM{g g':Gr}(m:g.ls=g'.ls)(t:∀w,over g w->OH g w->OH g' w)(o:∀w,over g w->OH g' w->∃w',w' <+: w/\OH g w'):CY g'=CY g:=by
 have k:∀w,over g w↔over g' w:=λw=>by unfold over;rw[m]
 refine LI ?_;have hi:=De g
 cases n:CY g with
 | none=>
  rw[n]at hi;intro u j h;obtain⟨u',b,i⟩:=o u ((k u).2 j) h;exact hi u' (λl f=>(k u).2 j l (b.subset f)) i
 | some w=>
  rw[n]at hi;obtain⟨q,v,p⟩:=hi;refine⟨(k w).1 q,t w q v,λu j h d=>?_⟩;have c:=(k u).2 j;obtain⟨u',b,i⟩:=o u c h;have a:over g u':=λl f=>c l (b.subset f);have r:=b.length_le
  rcases po u'.length u.length with f|f
  ·refine p u' a i (.inl ?_)
   rcases d with s|⟨s,_⟩<;>omega
  ·have e:u'=u:=b.eq_of_length (by omega)
   subst e;exact p u' a i d
theorem kt{s t:Sys}{p x:AY}(L:AE x=true)(S:AE p=true)(hal:x.al=p.al)(M:∀w,C9 w->(Cq x w=true↔∀w',w' <+: w->Cq p w'=true)):BD s t x=BD s t p:=by
 have J:AT s x t=AT s p t:=by unfold AT;rw[L,S,hal]
 by_cases h:AT s p t<0
 ·rw[GD h,GD (by rw[J];exact h)]
 ·have hI := Es h
  have hI':Da s x t (AT s p t):=⟨hI.hs,L,hI.ht,J.symm⟩
  have g:∀w,C9 w->Cq x w=true->Cq p w=true:=λw f e=>(M w f).1 e w (rH _)
  have m:∀w,C9 w->Cq x w=false->∃w',w' <+: w/\Cq p w'=false:=λw f e=>Classical.byContradiction λU=>by
   have:Cq x w=true:=(M w f).2 λw' P=>by
    cases Q:Cq p w'
    ·exact absurd ⟨w',P,Q⟩ U
    ·rfl
   rw[this]at e;cases e
  have I:∀w,C9 w->Cq p w=false->Cq x w=false:=λw f e=>by
   cases Q:Cq x w
   ·rfl
   ·rw[g w f Q]at e;cases e
  refine NT hI hI' (λw a b=>?_) (λy r K=>?_) (λy r K=>rfl) ?_
  ·obtain⟨v,H,rfl⟩:=XH a
   rw[p9,Ef (Ck hI') H,Ef (Ck hI) H];constructor
   ·intro e u i B A
    have c:C9 u:=λl b=>by
     rcases i l b with h|h
     ·have:=CS (Ck hI) h;omega
     ·have:=Aj h;omega
    exact g u c (e u i B A)
   ·intro e u i B A
    have c:C9 u:=λl b=>by
     rcases i l b with h|h
     ·have:=CS (Ck hI') h;omega
     ·have:=Aj h;omega
    exact(M u c).2 λu' d=>e u' (λl b=>i l (d.subset b)) ((ZR d).trans B) (JG d A)
  ·obtain⟨j,_⟩:=NS hI K
   obtain⟨V,_⟩:=NS hI' ((IS hI hI' (λw a b=>by
    obtain⟨v,H,rfl⟩:=XH a;rw[p9,Ef (Ck hI') H,Ef (Ck hI) H];constructor
    ·intro e u i B A
     have c:C9 u:=λl b=>by
      rcases i l b with h|h
      ·have:=CS (Ck hI) h;omega
      ·have:=Aj h;omega
     exact g u c (e u i B A)
    ·intro e u i B A
     have c:C9 u:=λl b=>by
      rcases i l b with h|h
      ·have:=CS (Ck hI') h;omega
      ·have:=Aj h;omega
     exact(M u c).2 λu' d=>e u' (λl b=>i l (d.subset b)) ((ZR d).trans B) (JG d A)) K).1)
   have n:BI s (Bq s p (AT s p t) y) x=true:=by
    unfold BI at j |-;simp only[d4]at j |-;exact⟨j.1,L⟩
   unfold C4;rw[if_pos j,if_pos n];have o:(DN (Dz s (Bq s p (AT s p t) y) p)).ls=(DN (Dz s (Bq s p (AT s p t) y) x)).ls:=rfl;refine YM o (λw a q=>?_) (λw a q=>?_)
   ·have f:C9 w:=Dt a
    obtain⟨G,R,F⟩:=(Tn j a).1 q;exact(Tn n a).2 ⟨G,R,I w f F⟩
   ·have f:C9 w:=Dt a
    obtain⟨G,R,F⟩:=(Tn n a).1 q;obtain⟨w',k,N⟩:=m w f F;exact⟨w',k,(Tn j λl b=>a l (k.subset b)).2 ⟨JG k G,fM hI K f k R,N⟩⟩
  ·have j:(AV [s,t] && AE p)=true:=by rw[DG,hI.hs,hI.ht,S];rfl
   have n:(AV [s,t] && AE x)=true:=by rw[DG,hI.hs,hI.ht,L];rfl
   unfold BE;rw[if_pos j,if_pos n];have o:(DN (CL [s,t] p)).ls=(DN (CL [s,t] x)).ls:=rfl;refine YM o (λw a q=>?_) (λw a q=>?_)
   ·have f:C9 w:=Dt a
    obtain⟨G,F⟩:=(Tm j a).1 q;exact(Tm n a).2 ⟨G,I w f F⟩
   ·have f:C9 w:=Dt a
    obtain⟨G,F⟩:=(Tm n a).1 q;obtain⟨w',k,N⟩:=m w f F;exact⟨w',k,(Tm j λl b=>a l (k.subset b)).2 ⟨λz T=>JG k (G z T),N⟩⟩
structure iC (s s':Sys):Prop where
 ok:AX s=true
 ok':AX s'=true
 al:s.al=s'.al
 run:∀w,C9 w->(Dw s w↔Dw s' w)
theorem kK{s s' t:Sys}{p:AY}(h:iC s s'):BD s' t p=BD s t p:=by
 have c:AT s' p t=AT s p t:=by unfold AT;rw[h.ok,h.ok',h.al]
 by_cases i:AT s p t<0
 ·rw[GD i,GD (by rw[c];exact i)]
 ·have hI:=Es i
  have hI':Da s' p t (AT s p t):=⟨h.ok',hI.hp,hI.ht,c.symm⟩
  have d:Cu ⟨s',p,AT s p t⟩=Cu ⟨s,p,AT s p t⟩:=by
   show (Ac s'.al).filter _=(Ac s.al).filter _
   rw[h.al]
  refine NT hI hI' (λw z q=>?_) (λy r x=>?_) (λy r x=>rfl) ?_
  ·obtain⟨v,o,rfl⟩:=XH z
   rw[p9,Ef (Ck hI') o,Ef (Ck hI) o]
   have a:∀u,MG ⟨s',p,AT s p t⟩ u↔MG ⟨s,p,AT s p t⟩ u:=λu=>by unfold MG;rw[d]
   have b:∀u,MG ⟨s,p,AT s p t⟩ u->C9 u:=λu g l q=>by
    rcases g l q with h|h
    ·have:=CS (Ck hI) h;omega
    ·have:=Aj h;omega
   constructor
   ·exact λj u e m k=>j u ((a u).2 e) m ((h.run u (b u e)).1 k)
   ·exact λj u e m k=>j u ((a u).1 e) m ((h.run u (b u ((a u).1 e))).2 k)
  ·refine WC (by unfold BI;rw[h.ok,h.ok']) h.al.symm λ_ w f _=>?_
   rw[h.run w f]
  ·refine JM (by rw[DG,DG,h.ok,h.ok']) (λi=>?_) λ_ w f=>?_
   ·exact HE λn f=>by rw[JO h.ok' hI.ht (by omega),JO h.ok hI.ht (by omega),h.al]
   ·rw[Kq,Kq,h.run w f]
theorem ku{s s' t:Sys}{p:AY}(h:iC s s'):BD t s' p=BD t s p:=by
 have b:AT t p s'=AT t p s:=by unfold AT;rw[h.ok,h.ok',h.al]
 by_cases c:AT t p s<0
 ·rw[GD c,GD (by rw[b];exact c)]
 ·have hI:=Es c
  have hI':Da t p s' (AT t p s):=⟨hI.hs,hI.hp,h.ok',b.symm⟩
  refine NT hI hI' (λw e f=>rfl) (λy r d=>rfl) (λy r d=>?_) ?_
  ·refine JM (by rw[Ec,Ec,h.ok,h.ok']) (λc=>?_) λ_ w a=>?_
   ·exact HE λn a=>by rw[OQ h.ok' (by omega),OQ h.ok (by omega),h.al]
   ·rw[J5,J5,h.run w a]
  ·refine JM (by rw[DG,DG,h.ok,h.ok']) (λc=>?_) λ_ w a=>?_
   ·exact HE λn a=>by rw[JO hI.hs h.ok' (by omega),JO hI.hs h.ok (by omega),h.al]
   ·rw[Kq,Kq,h.run w a]
end Go.Am
namespace Go.Am
open Go
section
variable {P:Program}{TB:BJ}{Γ:Ctx}{σ:Ab}
theorem Inv.freeze{V:View}(hi:Inv TB Γ V σ)(ids:List Nat):Inv TB Γ (Gl V (He σ ids)) (Ce ids σ):=by
 have g:∀id o,look (He σ ids) id=some o->look σ id=some o:=λid o h=>(EJ h).2;have e:Ext V (Gl V (He σ ids)):=LF;refine⟨hi.os,hi.tape,hi.output,hi.old,?_,?_,hi.ext.trans e,⟨?_,?_,?_,?_⟩,?_,λx n=>⟨.inl (hi.tabs x n).1,(hi.tabs x n).2⟩,hi.hid.same rfl (λ_ h=>.inl h) (λb hb=>hb.elim .inl λ⟨id,o,a,c,m⟩=>.inr ⟨id,o,g _ _ a,c,m⟩) λb ⟨id,o,a,c,hb⟩=>have f:=(A9 ids σ id o a).2;⟨id,o,f,c,(AB e (hi.st.lt id o f)).1 hb⟩⟩
 ·rintro b (hb|⟨id,o,a,c,hb⟩)
  ·exact hi.iLt b hb
  ·exact(hi.st.obj id o (g _ _ a)).blt c hb
 ·rintro b (hb|⟨id,o,a,c,hb⟩)
  ·exact hi.iNew b hb
  ·exact .inr (hi.live id o (g _ _ a) c b hb)
 ·intro id o a
  have:=(A9 ids σ id o a).2;exact(hi.st.obj id o this).AS e (hi.st.lt id o this) λ_ _ _=>rfl
 ·intro id o a;exact hi.st.lt id o (A9 ids σ id o a).2
 ·intro id o a c b d hb
  obtain⟨q,f⟩:=A9 ids σ id o a;have d:=(AB e (hi.st.lt id o f)).1 d
  rcases hb with hb|⟨id',o',j,i,m⟩
  ·exact hi.st.free id o f c b d hb
  ·have p:=EJ j
   exact hi.st.inj id id' o o' f p.2 (λe=>q (e▸p.1)) c i b d m
 ·intro id id' o o' a j l c i b hb d
  have f:=(A9 ids σ id o a).2;have k:=(A9 ids σ id' o' j).2;exact hi.st.inj id id' o o' f k l c i b ((AB e (hi.st.lt id o f)).1 hb) ((AB e (hi.st.lt id' o' k)).1 d)
 ·intro id o a c b hb
  have f:=(A9 ids σ id o a).2;exact hi.live id o f c b ((AB e (hi.st.lt id o f)).1 hb)
theorem dO{V:View}{e:E}{x:Bool×List C}{v:Value}(h:Nz e=some x)(ht:MZ V x v):Bm V e v:=by
 cases e with
 | o c=>injection h with h;subst h;obtain⟨c',b,d⟩:=ht;injection b with b;subst b;exact d
 | a cs=>injection h with h;subst h;exact ht
 | t=>cases h
 | e=>cases h
inductive FT (σ:Ab):List (Bool×List C)->List (Bool×List C)->Prop
 | nil:FT σ [] []
 | cons {e e':E} {x x':Bool×List C} {xs xs':List (Bool×List C)}:Nz e=some x->Nz e'=some x'->EZ σ e e'->FT σ xs xs'->FT σ (x::xs) (x'::xs')
theorem FT.get{xs xs':List (Bool×List C)}(h:FT σ xs xs'):xs'.length=xs.length/\∀(j:Nat) x',xs'[j]?=some x'->∃x e e',xs[j]?=some x/\Nz e=some x/\Nz e'=some x'/\EZ σ e e':=by
 induction h with
 | nil=>exact⟨rfl,λj x h=>by simp at h⟩
 | @cons e e' x x' xs xs' f d c _ b=>
  refine⟨by simp[b.1],λj y a=>?_⟩
  cases j with
  | zero=>simp at a;subst a;exact⟨x,e,e',rfl,f,d,c⟩
  | succ j=>exact b.2 j y (by simpa using a)
theorem FT.rel{V:View}{xs xs':List (Bool×List C)}(hi:Inv TB Γ V σ)(h:FT σ xs xs'){v:Value}(c:Bm V (.t xs) v):Bm (Gl V σ) (.t xs') v:=by
 obtain⟨vs,k,i,g⟩:=c;obtain⟨d,f⟩:=h.get;refine⟨vs,k,by rw[i,d],λj x' v' a b=>?_⟩;obtain⟨x,e,e',o,n,m,l⟩:=f j x' a;exact Gc m (l.rel hi (dO n (g j x v' o b)))
theorem AR.toPure{g:FuncId}{args:List E}{post:E->Ab->Nat->Prop}{r:E}(h:AR P TB g 0 [] 0 args post)
 (e:∀x σ nx,post x σ nx->∃ids,EZ (He σ ids) x r\/∃xs xs',x=.t xs/\r=.t xs'/\FT (He σ ids) xs xs'):Pure P TB g args r:=
 ⟨h.1,λV vs S c ha=>(h.2 V vs S c ha).mono λ_ _ ⟨V',v,x,σ',k,j,b,d,i⟩=>by
  obtain⟨ids,a⟩:=e _ _ _ i
  have f:Lc V 0=V:=by have:=c.nx;unfold Lc;rw[<-this]
  rw[f]at b;have hi:=b.sub λid o h=>(EJ (σ:=σ') (ids:=ids) h).2;refine⟨Gl V' (He σ' ids),v,r,Ce ids σ',k,j,b.freeze ids,?_,rfl⟩
  rcases a with a|⟨xs,xs',rfl,rfl,a⟩
  ·exact a.rel hi d
  ·exact a.rel hi d⟩
end
section
variable {P:Program}{TB:BJ}
end
end Go.Am
namespace Go.Am
open Go Go.Proofs
set_option maxHeartbeats 1000000
set_option maxRecDepth 4000
attribute [local irreducible] A6 CC Lex Bz Ak Spec
theorem Ku.jf{P:Program}{TB:BJ}{c:C}{L:W->Bool}{ok:W->Prop}(h:Ku P TB c L ok){w:W}{b:Bool}(hb:L w=b)(i:ok w){Γ:Ctx}{d:Option Tmp}{ty:TypeId}{pos:String}{af:Array Edge}{g:Option (Nat×Bool)}{f:Env}{σ:Ab}{nx:Nat}{x a:Operand}{tys:Array TypeId}
 (e:ev f x=some (.o c)) (ha:ev f a=some (eT w)):A6 P TB Γ ⟨d,.call ⟨.value x,#[a],tys⟩,ty,pos,af,g⟩ f σ nx (eB b):=hb▸h.ask e ha i
theorem k9{m:Nat}{L:W->Bool}{ok:W->Prop}{X:BJ->Ctx->C->Prop}{Y:Prop}(h:∀(TB1:BJ) (Γ1:Ctx) (a:C),Γ1.V.nx=m->Dl TB1->Ku Tryz.prog TB1 a L ok->X TB1 Γ1 a)
 (hk:(∀(TB1:BJ) (Γ1:Ctx) (a:C),Γ1.V.nx=m->Dl TB1->Ku Tryz.prog TB1 a L ok->X TB1 Γ1 a)->Y):Y:=hk h
theorem Vu{tabs:List (Nat×Obj)}[g:Dl ⟨tabs,none⟩]{te:EP}{ok:W->Prop}(c:te.kn=false)(b:CK te=true)(a:∀w,ok w->kI (A3 te) w)(f:Ud te ok) :
 ∃(t:CP) (m:GO),NX t ok m/\AR Tryz.prog ⟨tabs,none⟩ 66 0 [] 0 [EW te] (λx σ nx=>x=.t [(true,[.d (iD (A3 te)),Oo (.ptr 0 14 0 0)]),(false,[.d (bD true)])]/\σ=NI t m/\nx=5)/\
  ∀r,Ku Tryz.prog ⟨tabs,some (QE t ok,r)⟩ (Oo (Qd r)) (BY te) ok/\Dl ⟨tabs,some (QE t ok,r)⟩:=by
 obtain⟨kn,p,s,q,al⟩:=te;obtain rfl:kn=false:=c;have ht:Bc ⟨s,q,al⟩=true:=b;obtain⟨m,e,hno⟩:=Rx (TB:=⟨tabs,none⟩) p ht ok;exact⟨⟨s,q,al⟩,m,e,hno,λr=>⟨nf ht a (f rfl),kl g⟩⟩
def Ph(v:Vd)(x:E)(σ:Ab)(nx:Nat):Prop:=
 (v.a=Je/\x=iK v/\σ=[]/\nx=0)\/
 (∃l:IY,l.map (·.2)=v.a.nx/\x=.a [.d (iD v.code),.d (iD v.a.al),.arr 0 1 0 l.length,.arr 1 1 0 v.a.ac.length,.d (tD v.tr),.d (iD v.rd)]/\σ=[(0,.cells 63 1 (AA l)),(1,.cells 4 1 (v.a.ac.map AU)),(2,.sld 3 (sI l))]/\nx=3)
section
variable {tabs:List (Nat×Obj)}[hTb:Dl ⟨tabs,none⟩]
include hTb
theorem Yt{s t:Sys}{p:AY}{al:Int}(hI:Da s p t al)(hes:s.es.length<=1048576):AR Tryz.prog ⟨tabs,none⟩ 29 0 [] 0 [Br s,Br t,Bk p,.o (.d (.v .nilFunc))] (Ph (BD s t p)):=by
 have h1:=KE (TB:=⟨tabs,none⟩) s p t hes;unfold Wx at h1;rw[if_neg (Oc hI),<-hI.hal]at h1;obtain⟨ok,hs0,hf,hgr,hrun⟩:=fK hI (Ck hI)
 let te:EP:=Db s p al
 have H:te.kn=false:=rfl;have hok:CK te=true:=QF hI
 have Z:∀w,ok w->kI (A3 te) w:=λw hw=>by rw[CE];exact hs0 w hw
 have hf:Ud te ok:=hf;obtain⟨hl1,hl2⟩:=Km hI;have h0:=fi (t:=t) hI;unfold OL at h0;rw[if_pos (QF hI),Gi,CE]at h0;refine AR.Bi (AR.Sq (m:=0) (am rfl) Tryz.func29 rfl (by kernel_rfl) (am rfl) ?_);intro Γ f;(repeat first|refine tA rfl ?_|refine s2 rfl λ_ e=>?_|refine sP rfl (h1) rfl ?_|refine aU rfl ?_|apply Aa)
 ((refine aC rfl ?_ ?_<;>rintro⟨⟩);all_goals try (simp at e;done))
 apply aK;refine Ak.AF [1] [(3,.o (.d (.v .nilFunc))),(4,.o (.ip (AL s))),(5,.o (.ip (AL t))),(6,.o (.ip (AQ p))),(8,.o (.ptr 0 6 0 0)),(9,.o (.ip (MK ⟨s,p,al⟩)))] ⟨⟨_,rfl,.inl rfl⟩,⟨_,rfl,.inl rfl⟩,⟨_,rfl,.inl rfl⟩,⟨_,rfl,.inl rfl⟩,⟨_,rfl,.inl rfl⟩,⟨_,rfl,.inr (.o (.box rfl (Gk.refl (MK ⟨s,p,al⟩))))⟩,trivial⟩ ?_;refine Ak.Ay [3,4,5,6,8,9] [0] rfl rfl [] [] [0] (rl f rfl) (by (simp[cX,zC,f,cN])) ?_;(try dsimp only[cA,cB]);(repeat first|refine tA rfl ?_|(refine Ag rfl ?_;refine gA rfl ?_;first|refine gS (λ_ _=>AG rfl rfl (by rfl) (by rfl)) ?_)|refine aU rfl ?_)
 apply k9 (m:=0) (L:=BY te) (ok:=ok);case hk=>(intro hk;obtain⟨tk,mk,hm,hno,q⟩:=Vu (tabs:=tabs) H hok Z hf;((refine pW rfl ?_ rfl (by rfl);refine Cn [] rfl rfl 0 (hno) (by decide) ⟨rfl,by decide,by decide⟩ rfl (by simp[cX,zC,f,A8]) ?_;rintro x0 σ1 nx1 ⟨rfl,rfl,rfl⟩ _);(repeat first|refine tA rfl ?_);apply Aa;refine Ak.nq (QE tk ok) ⟨mk,hm⟩ 1 [2,3,4,5] (λr=>[(3,.o (.d (.v .nilFunc))),(4,.o (.ip (AL s))),(5,.o (.ip (AL t))),(6,.o (.ip (AQ p))),(9,.o (.ip (MK ⟨s,p,al⟩))),(8,.o (.ptr 0 6 0 0)),(11,.o (.ptr 6 2 0 0))]) (λr=>[(0,.cells 33 6 [[.d (iD 0),.d (iD 0),.d (.l []),.d (.l []),.d (tD []),.d (iD 0)]]),(6,.cells 102 2 [[.d (iD (A3 te)),Oo (Qd r)]])]) (by decide) rfl (by ((repeat' first|exact tI|rfl|refine And.intro ?_ ?_)<;>(simp[cX,zC,f,A8]<;>rfl))) ⟨_,_,_,_,rfl⟩ (λr=>by repeat' first|exact tI|refine And.intro ⟨_,rfl,.AS⟩ ?_) (λr=>by repeat' first|exact tI|refine And.intro ⟨by decide,.inl rfl⟩ ?_|refine And.intro ⟨by decide,.inr ⟨_,_,_,_,rfl,rfl,.cons .AS (.cons .mv .nil)⟩⟩ ?_) λr Γ' Y=>?_;have f:Γ'.V.nx=0:=(by rw[Y];exact f);refine Ak.Ay [3,4,5,6,9] [] rfl rfl [(8,.o (.ptr 0 6 0 0)),(11,.o (.ptr 1 2 0 0))] [(0,.cells 33 6 [[.d (iD 0),.d (iD 0),.d (.l []),.d (.l []),.d (tD []),.d (iD 0)]]),(1,.cells 102 2 [[.d (iD (A3 te)),Oo (Qd r)]])] [0,6] (rl f rfl) (by (simp[cX,zC,f])) ?_;(try dsimp only[cA,cB]);have U:=q r;obtain⟨TB0,hTB0⟩:∃T,T=(⟨tabs,some (QE tk ok,r)⟩:BJ):=⟨_,rfl⟩;obtain⟨c0,hc0⟩:∃c,c=Oo (Qd r):=⟨_,rfl⟩;rw[<-hTB0,<-hc0]at U |-;exact hk TB0 Γ' c0 f U.2 U.1))
 case h =>
  intro TB1 Γ1 c1 f hTb1 q
  have q:Ku Tryz.prog TB1 c1 (LS ⟨s,p,al⟩) ok:=by rw[<-Gi];exact q
  have eal:A3 te=al:=CE s p al;rw[eal];clear_value te;have z:=Fh c1 q.Cp;have hnt:=TD q al hgr;rw[h0]at hnt
  have I:∀v:Vd,BD s t p=v->v.a=Je->Ph (BD s t p) (iK v) [] 0:=λv h1 h2=>by rw[h1];exact .inl ⟨h2,rfl,rfl,rfl⟩
  (repeat first|refine tA rfl ?_|(refine Ag rfl ?_;refine gA rfl ?_;first|refine gS (λ_ _=>Bv rfl rfl (by simp[E.Cp,C.Cp,C.DB,q.Cp]) (hnt) rfl) ?_)|refine aU rfl ?_|apply Aa);apply aB;refine aL (α:={k:Nat // k<=(BX s t p al).length/\(k=(BX s t p al).length->BD s t p=⟨2,Je,[],(k:Int)⟩)}) [3,4,5,6,8,9,11,13] [0,1] rfl rfl (λ⟨k,H,M⟩=>[(10,eB (decide (k<(BX s t p al).length))),(14,eI .i64 ((k:Int)+1))]) (λ⟨k,H,M⟩=>[(2,.cells 109 2 [[.d (Cf (BT s t p al k).rows),.d (Cf (BT s t p al k).cols)]])]) 3 (λ⟨k,H,M⟩=>(BX s t p al).length-k) (⟨0,by omega,by omega⟩) f rfl (by ((repeat' first|exact tI|rfl|refine And.intro ?_ ?_)<;>(simp[cX,zC,f,cN,z]<;>rfl))) ?_;rintro⟨k,H,M⟩;(try dsimp only[cA,cB]);refine aS (aB ?_);by_cases K:k<(BX s t p al).length
  ·simp only [decide_eq_true K]
   obtain⟨hx,X⟩:=VI hI K;have hbd:=Uc hx;obtain⟨hao,S⟩:=hrun _ (co (JL K));have R:=QW (TB:=TB1) q al (BT s t p al k) hao (hbd.mono (by omega)) hx.o;obtain⟨_,_,_,hcl⟩:=It hI hx;have g:=Fq (TB:=TB1) s (Bq s p al (BT s t p al k)) p;have A:=Jb (TB:=TB1) t (Bq s p al (BT s t p al k));have R:AR Tryz.prog TB1 68 0 [] 0 [Jn al c1,Er (BT s t p al k)] (Lt (Bq s p al (BT s t p al k))):=R;(repeat first|refine tA rfl ?_|refine s2 rfl λ_ e=>?_|refine aU rfl ?_|apply Aa)
   ((refine aC rfl ?_ ?_<;>rintro⟨⟩);all_goals try (simp at e;done))
   apply aK;(repeat first|refine tA rfl ?_|refine aU rfl ?_);(refine pW rfl ?_ rfl (by rfl);refine Cn [] rfl rfl 0 R (by decide) ⟨rfl,by decide,by decide⟩ (by simp[Ff,E.Bi,C.CB,C.Bi,z,eC,Jn,Er]<;>rfl) (by simp[cX,zC,f,cN]) ?_;rintro x0 σ1 nx1 ⟨l,G,rfl,rfl,rfl⟩ _);(repeat first|refine tA rfl ?_);apply Aa;refine Ak.Ay [3,4,5,6,8,9,11,13,14] [0,1,2] rfl rfl [(15,.o (.ptr 6 3 0 0))] [(3,.cells 63 1 (AA l)),(4,.cells 4 1 ((Bq s p al (BT s t p al k)).ac.map AU)),(5,.sld 3 (sI l)),(6,.cells 29 3 [[.d (iD (Bq s p al (BT s t p al k)).al),.arr 3 1 0 l.length,.arr 4 1 0 (Bq s p al (BT s t p al k)).ac.length]])] [0,1,2,3,4,5,6] (rl f rfl) (by (simp[cX,zC,f,cN,Ae,eC,BU,z])) ?_;(try dsimp only[cA,cB]);(repeat first|refine tA rfl ?_|(refine Ag rfl ?_;refine gA rfl ?_;first|refine gS (λ_ _=>gT rfl rfl) ?_)|refine aU rfl ?_|apply Aa)
   ((refine aC rfl ?_ ?_<;>rintro⟨⟩);all_goals try (simp at e;done))
   apply aK
   rcases X with ⟨hr,J,hk⟩|⟨w,b,hr,hon,hwl,X⟩
   ·obtain⟨g1,g2⟩:=VF hr
    rw[g1]at g;rw[g2]at A
    have hend:∀(x:E) (σ:Ab) (nx:Nat),(∃l:IY,l.map (·.2)=(Bq s p al (BT s t p al k)).nx/\x=.a [.d (iD 0),.d (iD (Bq s p al (BT s t p al k)).al),.arr 0 1 0 l.length,.arr 1 1 0 (Bq s p al (BT s t p al k)).ac.length,.d (tD []),.d (iD ((k:Int)+1))]/\σ=[(0,.cells 63 1 (AA l)),(1,.cells 4 1 ((Bq s p al (BT s t p al k)).ac.map AU)),(2,.sld 3 (sI l))]/\nx=3)->Ph (BD s t p) x σ nx:=λx σ nx h=>by rw[J];exact .inr h
    generalize Ph (BD s t p)=Q at *;generalize Bq s p al (BT s t p al k)=a at *;(repeat first|refine tA rfl ?_|refine s2 rfl λ_ e=>?_|(refine Ag rfl ?_;refine gA rfl ?_;first|refine gQ (A6.Rt [(59,Br s),(60,Bk a),(61,Bk p)] ⟨⟨_,rfl,.AS rfl⟩,⟨_,rfl,KB (k:=5) rfl rfl rfl G rfl rfl⟩,⟨_,rfl,.AS rfl⟩,trivial⟩ (λΓ'=>Bv rfl rfl rfl g rfl) (FM _)) rfl ?_)|refine aU rfl ?_|apply Aa)
    ((refine aC rfl ?_ ?_<;>rintro⟨⟩);all_goals try (simp at e;done))
    (repeat first|refine tA rfl ?_|refine s2 rfl λ_ e=>?_|(refine Ag rfl ?_;refine gA rfl ?_;first|refine gQ (A6.Rt [(68,Br t),(69,Bk a)] ⟨⟨_,rfl,.AS rfl⟩,⟨_,rfl,KB (k:=5) rfl rfl rfl G rfl rfl⟩,trivial⟩ (λΓ'=>Bv rfl rfl rfl A rfl) (FM _)) rfl ?_)|refine aU rfl ?_|apply Aa)
    ((refine aC rfl ?_ ?_<;>rintro⟨⟩);all_goals try (simp at e;done))
    (repeat first|refine tA rfl ?_|(refine Ag rfl ?_;refine gA rfl ?_;first|refine gS (λ_ _=>AG rfl rfl (by rfl) (by rfl)) ?_)|refine aU rfl ?_|apply Aa);exact aR ⟨_,rfl,[3,4,5],.a [.d (iD 0),.d (iD a.al),.arr 0 1 0 l.length,.arr 1 1 0 a.ac.length,.d (tD []),.d (iD ((k:Int)+1))],[(0,.cells 63 1 (AA l)),(1,.cells 4 1 (a.ac.map AU)),(2,.sld 3 (sI l))],⟨λi hi=>absurd hi (lc i),by decide⟩,rfl,by (simp[cX,zC,f,cN,BU,Ae,eC]),hend _ _ _ ⟨l,G,rfl,rfl,rfl⟩⟩
   ·obtain⟨B,hoks⟩:=S w b hr
    have n:=Rr (TB:=TB1) q al (BT s t p al k) hbd (RY hI) hcl hx.o w hoks hon (by omega);have hpv:=DJ (TB:=TB1) [s,t] p
    rcases VE hI hr with ⟨u,rfl,g1,g2,g3,g4⟩|⟨u,rfl,g0,g1,g2,g3,g4⟩
    ·have j:=On (TB:=TB1) (C5 u) al (by omega)
     rw[g2]at j;rw[g1]at g
     rcases X with ⟨hb,_⟩|⟨_,⟨y,F⟩|⟨y,P,hk,J⟩⟩
     ·cases hb
     ·rw[y]at n
      generalize Bq s p al (BT s t p al k)=a at *;(repeat first|refine tA rfl ?_|refine s2 rfl λ_ e=>?_|(refine Ag rfl ?_;refine gA rfl ?_;first|refine gQ (A6.Rt [(59,Br s),(60,Bk a),(61,Bk p)] ⟨⟨_,rfl,.AS rfl⟩,⟨_,rfl,KB (k:=5) rfl rfl rfl G rfl rfl⟩,⟨_,rfl,.AS rfl⟩,trivial⟩ (λΓ'=>Bv rfl rfl rfl g rfl) (FM _)) rfl ?_)|refine aU rfl ?_|apply Aa)
      ((refine aC rfl ?_ ?_<;>rintro⟨⟩);all_goals try (simp at e;done))
      apply aK;(repeat first|refine tA rfl ?_|refine s2 rfl λ_ e=>?_|refine sP rfl (j) rfl ?_|refine s3 rfl ?_ ?_<;>rintro rfl|refine aU rfl ?_|apply Aa)
      (repeat' first|refine tA rfl ?_|apply Aa|(refine aC rfl ?_ ?_<;>rintro⟨⟩));all_goals try contradiction
      apply aK;(repeat first|(refine sA rfl ?_ ?_;first|exact tI|omega)|(refine Ag rfl ?_;refine gA rfl ?_;first|refine gS (λ_ _=>Bv rfl rfl (by simp[E.Cp,C.Cp,C.DB,q.Cp]) (n) rfl) ?_)|refine aU rfl ?_|apply Aa);refine⟨⟨k+1,by omega,by omega⟩,by dsimp only;(omega),[0,1,2],?_⟩;simp[cX,zC,f,cN,z,F]
     ·rw[y]at n
      generalize Bq s p al (BT s t p al k)=a at *;(repeat first|refine tA rfl ?_|refine s2 rfl λ_ e=>?_|(refine Ag rfl ?_;refine gA rfl ?_;first|refine gQ (A6.Rt [(59,Br s),(60,Bk a),(61,Bk p)] ⟨⟨_,rfl,.AS rfl⟩,⟨_,rfl,KB (k:=5) rfl rfl rfl G rfl rfl⟩,⟨_,rfl,.AS rfl⟩,trivial⟩ (λΓ'=>Bv rfl rfl rfl g rfl) (FM _)) rfl ?_)|refine aU rfl ?_|apply Aa)
      ((refine aC rfl ?_ ?_<;>rintro⟨⟩);all_goals try (simp at e;done))
      apply aK;(repeat first|refine tA rfl ?_|refine s2 rfl λ_ e=>?_|refine sP rfl (j) rfl ?_|refine s3 rfl ?_ ?_<;>rintro rfl|refine aU rfl ?_|apply Aa)
      (repeat' first|refine tA rfl ?_|apply Aa|(refine aC rfl ?_ ?_<;>rintro⟨⟩));all_goals try contradiction
      apply aK;(repeat first|(refine sA rfl ?_ ?_;first|exact tI|omega)|(refine Ag rfl ?_;refine gA rfl ?_;first|refine gS (λ_ _=>Bv rfl rfl (by simp[E.Cp,C.Cp,C.DB,q.Cp]) (n) rfl) ?_)|refine aU rfl ?_|apply Aa);refine⟨⟨k+1,by omega,λ_=>J⟩,by dsimp only;(omega),[0,1,2],?_⟩;simp[cX,zC,f,cN,z,P,decide_eq_false (show ¬k+1<(BX s t p al).length by omega)]
    ·have j:=On (TB:=TB1) (C5 u) al (by omega)
     rw[g2]at j;rw[g0]at g;rw[g1]at A
     rcases X with ⟨_,N,J,hk⟩|⟨hb,X⟩
     ·have I:=I _ J rfl
      generalize Bq s p al (BT s t p al k)=a at *;(repeat first|refine tA rfl ?_|refine s2 rfl λ_ e=>?_|(refine Ag rfl ?_;refine gA rfl ?_;first|refine gQ (A6.Rt [(59,Br s),(60,Bk a),(61,Bk p)] ⟨⟨_,rfl,.AS rfl⟩,⟨_,rfl,KB (k:=5) rfl rfl rfl G rfl rfl⟩,⟨_,rfl,.AS rfl⟩,trivial⟩ (λΓ'=>Bv rfl rfl rfl g rfl) (FM _)) rfl ?_)|refine aU rfl ?_|apply Aa)
      ((refine aC rfl ?_ ?_<;>rintro⟨⟩);all_goals try (simp at e;done))
      (repeat first|refine tA rfl ?_|refine s2 rfl λ_ e=>?_|(refine Ag rfl ?_;refine gA rfl ?_;first|refine gQ (A6.Rt [(68,Br t),(69,Bk a)] ⟨⟨_,rfl,.AS rfl⟩,⟨_,rfl,KB (k:=5) rfl rfl rfl G rfl rfl⟩,trivial⟩ (λΓ'=>Bv rfl rfl rfl A rfl) (FM _)) rfl ?_)|refine aU rfl ?_|apply Aa)
      ((refine aC rfl ?_ ?_<;>rintro⟨⟩);all_goals try (simp at e;done))
      apply aK;(repeat first|refine tA rfl ?_|refine s2 rfl λ_ e=>?_|refine sP rfl (j) rfl ?_|refine s3 rfl ?_ ?_<;>rintro rfl|refine aU rfl ?_|apply Aa)
      (repeat' first|refine tA rfl ?_|refine s2 rfl λ_ e=>?_|(refine Ag rfl ?_;refine gA rfl ?_;first|refine gS (λ_ _=>q.jf N B rfl rfl) ?_)|refine aU rfl ?_|apply Aa|(refine aC rfl ?_ ?_<;>rintro⟨⟩));all_goals try contradiction
      (repeat first|refine tA rfl ?_|refine sP rfl (hpv) rfl ?_|(refine Ag rfl ?_;refine gA rfl ?_;first|refine gS (λ_ _=>AG rfl rfl (by rfl) (by rfl)) ?_)|refine aU rfl ?_|apply Aa);exact aR ⟨_,rfl,[],iK ⟨1,Je,OC (BE [s,t] p),(k:Int)+1⟩,[],⟨λi hi=>absurd hi (lc i),lw⟩,rfl,by (simp[cX,zC,f,cN,BU,Ae,eC]),I⟩
     ·have N:LS ⟨s,p,al⟩ w=true:=by rcases hb with hb|hb;cases hb;exact hb
      rcases X with ⟨y,F⟩|⟨y,P,hk,J⟩
      ·rw[y]at n
       generalize Bq s p al (BT s t p al k)=a at *;(repeat first|refine tA rfl ?_|refine s2 rfl λ_ e=>?_|(refine Ag rfl ?_;refine gA rfl ?_;first|refine gQ (A6.Rt [(59,Br s),(60,Bk a),(61,Bk p)] ⟨⟨_,rfl,.AS rfl⟩,⟨_,rfl,KB (k:=5) rfl rfl rfl G rfl rfl⟩,⟨_,rfl,.AS rfl⟩,trivial⟩ (λΓ'=>Bv rfl rfl rfl g rfl) (FM _)) rfl ?_)|refine aU rfl ?_|apply Aa)
       ((refine aC rfl ?_ ?_<;>rintro⟨⟩);all_goals try (simp at e;done))
       (repeat first|refine tA rfl ?_|refine s2 rfl λ_ e=>?_|(refine Ag rfl ?_;refine gA rfl ?_;first|refine gQ (A6.Rt [(68,Br t),(69,Bk a)] ⟨⟨_,rfl,.AS rfl⟩,⟨_,rfl,KB (k:=5) rfl rfl rfl G rfl rfl⟩,trivial⟩ (λΓ'=>Bv rfl rfl rfl A rfl) (FM _)) rfl ?_)|refine aU rfl ?_|apply Aa)
       ((refine aC rfl ?_ ?_<;>rintro⟨⟩);all_goals try (simp at e;done))
       apply aK;(repeat first|refine tA rfl ?_|refine s2 rfl λ_ e=>?_|refine sP rfl (j) rfl ?_|refine s3 rfl ?_ ?_<;>rintro rfl|refine aU rfl ?_|apply Aa)
       (repeat' first|refine tA rfl ?_|refine s2 rfl λ_ e=>?_|(refine Ag rfl ?_;refine gA rfl ?_;first|refine gS (λ_ _=>q.jf N B rfl rfl) ?_)|refine aU rfl ?_|apply Aa|(refine aC rfl ?_ ?_<;>rintro⟨⟩));all_goals try contradiction
       apply aK;(repeat first|(refine sA rfl ?_ ?_;first|exact tI|omega)|(refine Ag rfl ?_;refine gA rfl ?_;first|refine gS (λ_ _=>Bv rfl rfl (by simp[E.Cp,C.Cp,C.DB,q.Cp]) (n) rfl) ?_)|refine aU rfl ?_|apply Aa);refine⟨⟨k+1,by omega,by omega⟩,by dsimp only;(omega),[0,1,2],?_⟩;simp[cX,zC,f,cN,z,F]
      ·rw[y]at n
       generalize Bq s p al (BT s t p al k)=a at *;(repeat first|refine tA rfl ?_|refine s2 rfl λ_ e=>?_|(refine Ag rfl ?_;refine gA rfl ?_;first|refine gQ (A6.Rt [(59,Br s),(60,Bk a),(61,Bk p)] ⟨⟨_,rfl,.AS rfl⟩,⟨_,rfl,KB (k:=5) rfl rfl rfl G rfl rfl⟩,⟨_,rfl,.AS rfl⟩,trivial⟩ (λΓ'=>Bv rfl rfl rfl g rfl) (FM _)) rfl ?_)|refine aU rfl ?_|apply Aa)
       ((refine aC rfl ?_ ?_<;>rintro⟨⟩);all_goals try (simp at e;done))
       (repeat first|refine tA rfl ?_|refine s2 rfl λ_ e=>?_|(refine Ag rfl ?_;refine gA rfl ?_;first|refine gQ (A6.Rt [(68,Br t),(69,Bk a)] ⟨⟨_,rfl,.AS rfl⟩,⟨_,rfl,KB (k:=5) rfl rfl rfl G rfl rfl⟩,trivial⟩ (λΓ'=>Bv rfl rfl rfl A rfl) (FM _)) rfl ?_)|refine aU rfl ?_|apply Aa)
       ((refine aC rfl ?_ ?_<;>rintro⟨⟩);all_goals try (simp at e;done))
       apply aK;(repeat first|refine tA rfl ?_|refine s2 rfl λ_ e=>?_|refine sP rfl (j) rfl ?_|refine s3 rfl ?_ ?_<;>rintro rfl|refine aU rfl ?_|apply Aa)
       (repeat' first|refine tA rfl ?_|refine s2 rfl λ_ e=>?_|(refine Ag rfl ?_;refine gA rfl ?_;first|refine gS (λ_ _=>q.jf N B rfl rfl) ?_)|refine aU rfl ?_|apply Aa|(refine aC rfl ?_ ?_<;>rintro⟨⟩));all_goals try contradiction
       apply aK;(repeat first|(refine sA rfl ?_ ?_;first|exact tI|omega)|(refine Ag rfl ?_;refine gA rfl ?_;first|refine gS (λ_ _=>Bv rfl rfl (by simp[E.Cp,C.Cp,C.DB,q.Cp]) (n) rfl) ?_)|refine aU rfl ?_|apply Aa);refine⟨⟨k+1,by omega,λ_=>J⟩,by dsimp only;(omega),[0,1,2],?_⟩;simp[cX,zC,f,cN,z,P,decide_eq_false (show ¬k+1<(BX s t p al).length by omega)]
  ·obtain rfl:k=(BX s t p al).length:=by omega
   have J:=M rfl;simp only[decide_eq_false K];(repeat first|refine tA rfl ?_|refine s2 rfl λ_ e=>?_|refine aU rfl ?_|apply Aa)
   ((refine aC rfl ?_ ?_<;>rintro⟨⟩);all_goals try (simp at e;done))
   (repeat first|(refine sA rfl ?_ ?_;first|exact tI|omega)|(refine Ag rfl ?_;refine gA rfl ?_;first|refine gS (λ_ _=>AG rfl rfl (by rfl) (by rfl)) ?_)|refine aU rfl ?_|apply Aa);exact aR ⟨_,rfl,[],iK ⟨2,Je,[],((BX s t p al).length:Int)+1-1⟩,[],⟨λi hi=>absurd hi (lc i),lw⟩,rfl,by (simp[cX,zC,f,cN,BU,Ae,eC]),by rw[Int.add_sub_cancel];exact I _ J rfl⟩
theorem WB{s t:Sys}{p:AY}(h:AT s p t<0)(b:s.es.length<=1048576):AR Tryz.prog ⟨tabs,none⟩ 29 0 [] 0 [Br s,Br t,Bk p,.o (.d (.v .nilFunc))] (Ph (BD s t p)):=by
 have c:=KE (TB:=⟨tabs,none⟩) s p t b;unfold Wx at c;rw[if_pos h]at c;rw[GD h];refine AR.Bi (AR.Sq (m:=0) (am rfl) Tryz.func29 rfl (by kernel_rfl) (am rfl) ?_);intro Γ a;(repeat first|refine tA rfl ?_|refine s2 rfl λ_ e=>?_|refine sP rfl (c) rfl ?_|refine aU rfl ?_|apply Aa)
 ((refine aC rfl ?_ ?_<;>rintro⟨⟩);all_goals try (simp at e;done))
 (repeat first|refine tA rfl ?_|(refine Ag rfl ?_;refine gA rfl ?_;first|refine gS (λ_ _=>AG rfl rfl (by rfl) (by rfl)) ?_)|refine aU rfl ?_|apply Aa);exact aR ⟨_,rfl,[],iK ⟨3,Je,[],0⟩,[],⟨λi hi=>absurd hi (lc i),lw⟩,rfl,by (simp[cX,zC,a,cN,BU,Ae,eC]),.inl ⟨rfl,rfl,rfl,rfl⟩⟩
theorem KX(s t:Sys)(p:AY)(c:s.es.length<=1048576):AR Tryz.prog ⟨tabs,none⟩ 10 0 [] 0 [Br s,Br t,Bk p] (Ph (BD s t p)):=by
 have j:AR Tryz.prog ⟨tabs,none⟩ 29 0 [] 0 [Br s,Br t,Bk p,.o (.d (.v .nilFunc))] (Ph (BD s t p)):=by
  by_cases h:AT s p t<0
  ·exact WB h c
  ·exact Yt (Es h) c
 generalize BD s t p=v at *;refine AR.Bi (AR.Sq (m:=0) (am rfl) Tryz.func10 rfl (by kernel_rfl) (am rfl) ?_);intro Γ b;(repeat first|refine tA rfl ?_|refine aU rfl ?_|apply Aa);(refine pW rfl ?_ rfl (by rfl);refine Cn [] rfl rfl 0 j (by decide) ⟨rfl,by decide,by decide⟩ rfl trivial ?_;rintro k e f (⟨ha,rfl,rfl,rfl⟩|⟨l,g,rfl,rfl,rfl⟩) _)
 ·(repeat first|refine tA rfl ?_|apply Aa)
  exact aR ⟨_,rfl,[],iK v,[],⟨λi hi=>absurd hi (lc i),lw⟩,rfl,by (simp[cX,zC,b,cN,BU,Ae,eC]),.inl ⟨ha,rfl,rfl,rfl⟩⟩
 ·(repeat first|refine tA rfl ?_|apply Aa)
  exact aR ⟨_,rfl,[1,2,3],.a [.d (iD v.code),.d (iD v.a.al),.arr 0 1 0 l.length,.arr 1 1 0 v.a.ac.length,.d (tD v.tr),.d (iD v.rd)],[(0,.cells 63 1 (AA l)),(1,.cells 4 1 (v.a.ac.map AU)),(2,.sld 3 (sI l))],⟨λi hi=>absurd hi (lc i),by decide⟩,rfl,by (simp[cX,zC,b,cN,BU,Ae,eC]),.inr ⟨l,g,rfl,rfl,rfl⟩⟩
theorem Y3(s t:Sys)(p:AY)(b:s.es.length<=1048576):Pure Tryz.prog ⟨tabs,none⟩ 10 [Br s,Br t,Bk p] (iK (BD s t p)):=by
 refine(KX s t p b).toPure λx σ nx c=>?_;generalize BD s t p=v at *
 rcases c with ⟨_,rfl,rfl,rfl⟩|⟨l,e,rfl,rfl,rfl⟩
 ·exact⟨[],.inl (.AS rfl)⟩
 ·refine⟨[0,1,2],.inl (.a (ds:=MN v) (.cons .d (.cons .d (.cons ?_ (.cons (.full rfl (by simp[d5]) (by simp)) (.cons .d (.cons .d .nil)))))))⟩
  rw[<-e];exact .Nx (s:=2) rfl rfl
end
end Go.Am
namespace Go.Am
open Go Go.Proofs
set_option maxHeartbeats 1000000
set_option maxRecDepth 4000
attribute [local irreducible] A6 CC Lex Bz Ak Spec
variable {TB:BJ}[Dl TB]
noncomputable def Ld(s t:Sys)(p:AY)(al:Int):Nat->AY
 | 0=>Je
 | k+1=>Bq s p al (BT s t p al k)
abbrev lq(v:Vd)(a:AY):E:=.t [(true,(MN v).map .d),(true,(AQ a).map .d)]
noncomputable def RA(s t:Sys)(p:AY)(al:Int)(R:Int):Vd:=if ((BX s t p al).length:Int)<=R then BD s t p else ⟨2,Je,[],(R.toNat:Int)⟩
theorem aA{s t:Sys}{p:AY}(h:AT s p t<0)(a:s.es.length<=1048576)(R:Int):Pure Tryz.prog TB 31 [Br s,Br t,Bk p,eI .i64 R] (lq ⟨3,Je,[],0⟩ Je):=by
 have b:=JF (TB:=TB) s p t a;unfold Wx at b;rw[if_pos h]at b;refine eG Tryz.func31 rfl (by kernel_rfl) rfl ?_;intro Γ d;(repeat first|refine tA rfl ?_|refine s2 rfl λ_ c=>?_|refine sP rfl (b) rfl ?_|refine aU rfl ?_|apply Aa)
 ((refine aC rfl ?_ ?_<;>rintro⟨⟩);all_goals try (simp at c;done))
 (repeat first|refine tA rfl ?_|(refine Ag rfl ?_;refine gA rfl ?_;first|refine gS (λ_ _=>AG rfl rfl (by rfl) (by rfl)) ?_)|refine aU rfl ?_|apply Aa);(subst_vars;exact aR ⟨_,rfl,rfl⟩)
theorem aD{s t:Sys}{p:AY}{al:Int}(hI:Da s p t al)(Y:s.es.length<=1048576)(R:Int):Pure Tryz.prog TB 31 [Br s,Br t,Bk p,eI .i64 R] (lq (RA s t p al R) (Ld s t p al (min (BX s t p al).length R.toNat))):=by
 have h1:=JF (TB:=TB) s p t Y;unfold Wx at h1;rw[if_neg (Oc hI),<-hI.hal]at h1;have h2:=bI (TB:=TB) s p al;rw[fi (t:=t) hI]at h2;obtain⟨U,T⟩:=Km hI
 obtain⟨n,hn⟩:∃n,n=(BX s t p al).length:=⟨_,rfl⟩
 rw[<-hn]at U T |-
 obtain⟨V,j⟩:∃V,V=RA s t p al R:=⟨_,rfl⟩
 obtain⟨A,m⟩:∃A,A=Ld s t p al (min n R.toNat):=⟨_,rfl⟩
 rw[<-j,<-m];refine eG Tryz.func31 rfl (by kernel_rfl) rfl ?_;intro Γ e;(repeat first|refine tA rfl ?_|refine s2 rfl λ_ c=>?_|refine sP rfl (h1) rfl ?_|refine aU rfl ?_|apply Aa)
 ((refine aC rfl ?_ ?_<;>rintro⟨⟩);all_goals try (simp at c;done))
 apply aK;(repeat first|refine tA rfl ?_|refine sP rfl (h2) rfl ?_|(refine Ag rfl ?_;refine gA rfl ?_;first|refine gS (λ_ _=>AG rfl rfl (by rfl) (by rfl)) ?_)|refine aU rfl ?_|apply Aa);refine Ak.AF [2,3] [(3,eI .i64 R),(4,.o (.ip (AL s))),(5,.o (.ip (AL t))),(6,.o (.ip (AQ p))),(8,.o (.ptr 0 6 0 0)),(9,.o (.ptr 1 3 0 0)),(10,.o (.ip (MK ⟨s,p,al⟩))),(12,.o (.ip (fo false Je s p al))),(13,.o (.ptr 4 2 0 0)),(14,eB true),(15,.o (.ptr 5 6 0 0)),(16,.o (.ptr 6 3 0 0))] ⟨⟨_,rfl,.inl rfl⟩,⟨_,rfl,.inl rfl⟩,⟨_,rfl,.inl rfl⟩,⟨_,rfl,.inl rfl⟩,⟨_,rfl,.inl rfl⟩,⟨_,rfl,.inl rfl⟩,⟨_,rfl,.inr (.o (.box rfl (Gk.refl (MK ⟨s,p,al⟩))))⟩,⟨_,rfl,.inr (.o (.box rfl (Gk.refl (fo false Je s p al))))⟩,⟨_,rfl,.inl rfl⟩,⟨_,rfl,.inl rfl⟩,⟨_,rfl,.inl rfl⟩,⟨_,rfl,.inl rfl⟩,trivial⟩ ?_;refine Ak.Ay [3,4,5,6,10,12] [0,1] rfl rfl [(8,.o (.ptr 0 6 0 0)),(9,.o (.ptr 1 3 0 0)),(13,.o (.ptr 2 2 0 0)),(14,eB true),(15,.o (.ptr 3 6 0 0)),(16,.o (.ptr 4 3 0 0))] [(2,.cells 109 2 [[.d (Cf (BT s t p al 0).rows),.d (Cf (BT s t p al 0).cols)]]),(3,.cells 33 6 [[.d (iD 2),.d (iD 0),.d (.l []),.d (.l []),.d (tD []),.d (iD 0)]]),(4,.cells 29 3 [[.d (iD 0),.d (.l []),.d (.l [])]])] [0,1,4,5,6] (rl e rfl) (by (simp[cX,zC,e,cN,BU,Ae,eC])) ?_;(try dsimp only[cA,cB]);apply aB;refine aL (α:={k:Nat // k<=n/\k<=R.toNat/\(k=n->BD s t p=⟨2,Je,[],(k:Int)⟩)}) [3,4,5,6,8,9,10,12,13,15,16] [0,1] rfl rfl (λ⟨k,u,x,i⟩=>[(14,eB (decide (k<n)))]) (λ⟨k,u,x,i⟩=>[(2,.cells 109 2 [[.d (Cf (BT s t p al k).rows),.d (Cf (BT s t p al k).cols)]]),(3,.cells 33 6 [[.d (iD 2),.d (iD 0),.d (.l []),.d (.l []),.d (tD []),.d (iD k)]]),(4,.cells 29 3 [[.d (iD (Ld s t p al k).al),.d (C7 (Ld s t p al k).nx),.d (Fo (Ld s t p al k).ac)]])]) 5 (λ⟨k,u,x,i⟩=>n-k) (⟨0,by omega,by omega,by omega⟩) e rfl (by (simp[cX,zC,e,cN,Ld,Je,decide_eq_true (show 0<n by omega)])) ?_;rintro⟨k,u,x,i⟩;(try dsimp only[cA,cB]);by_cases H:k<n
 ·simp only [decide_eq_true H]
  by_cases hR:(k:Int)<R
  ·obtain⟨K,J⟩:=VI hI (k:=k) (by omega)
   have B:WI (BT s t p al k):=by obtain⟨_,_,_,P,_⟩:=Dc K.v;exact P.sz
   have f:=bJ (TB:=TB) s p al (BT s t p al k) B;rw[cH hI K]at f;obtain⟨hao,_⟩:=It hI K;have g:Ld s t p al (k+1)=Bq s p al (BT s t p al k):=rfl
   have I:k+1=(BX s t p al).length->RA s t p al R=BD s t p/\min n R.toNat=k+1:=λh=>⟨by unfold RA;rw[if_pos (by omega)],by omega⟩
   rcases J with ⟨Q,z,hk⟩|⟨w,b,Q,G,q,J⟩
   ·have y:=UU (TB:=TB) hI Q
    obtain⟨M,L⟩:=I hk
    have eV:V=⟨0,Bq s p al (BT s t p al k),[],(k:Int)+1⟩:=by rw[j,M,z]
    have eA:A=Bq s p al (BT s t p al k):=by rw[m,L,g]
    clear j m;subst eV eA;have Z:=JU (TB:=TB) (Bq s p al (BT s t p al k)) (Po hao);generalize Bq s p al (BT s t p al k)=a at *;generalize Ld s t p al k=la;generalize BT s t p al k=tb at *;(repeat first|refine tA rfl ?_|refine s2 rfl λ_ c=>?_|refine aU rfl ?_|apply Aa)
    ((refine aC rfl ?_ ?_<;>rintro⟨⟩);(all_goals try (simp at c;done));(all_goals try(exfalso;(simp only[oZ] at *;omega))))
    apply aK;apply aB;(repeat first|(refine sA rfl ?_ ?_;first|exact tI|omega)|refine sP rfl (f) rfl ?_|refine sP rfl (y) rfl ?_|refine aU rfl ?_|apply Aa);apply aB;(repeat first|refine tA rfl ?_|refine s2 rfl λ_ c=>?_|refine aU rfl ?_|apply Aa)
    ((refine aC rfl ?_ ?_<;>rintro⟨⟩);(all_goals try (simp at c;done));(all_goals try(exfalso;omega)))
    (repeat first|refine tX rfl ?_|refine aU rfl ?_|apply Aa);(refine pW rfl ?_ rfl (by rfl);refine Cn [] rfl rfl 0 (Z) (by decide) ⟨rfl,by decide,by decide⟩ rfl (by simp[cX,zC,e,cN]) ?_;rintro x0 σ1 nx1 ⟨l,hl,rfl,rfl,rfl⟩ _);(repeat first|refine tX rfl ?_|refine aU rfl ?_|apply Aa);refine Ak.Ay [3,4,5,6,10,12] [0,1] rfl rfl [(8,.o (.ptr 0 6 0 0)),(9,.o (.ptr 1 3 0 0)),(15,.o (.ptr 2 6 0 0)),(16,.o (.ptr 3 3 0 0))] [(2,.cells 33 6 [[.d (iD 0),.d (iD a.al),.arr 4 1 0 l.length,.arr 5 1 0 a.ac.length,.d (tD []),.d (iD ((k:Int)+1))]]),(3,.cells 29 3 [[.d (iD a.al),.d (C7 a.nx),.d (Fo a.ac)]]),(4,.cells 63 1 (AA l)),(5,.cells 4 1 (a.ac.map AU)),(6,.sld 3 (sI l))] [0,1,3,4,6,7,8] (rl e rfl) (by (simp[cX,zC,e,cN,BU,Ae,eC])) ?_;(try dsimp only[cA,cB]);refine Ak.AF [2,3,4,5,6] [(8,.o (.ptr 0 6 0 0)),(9,.o (.ptr 1 3 0 0)),(15,.o (.ip (MN ⟨0,⟨a.al,l.map (·.2),a.ac⟩,[],(k:Int)+1⟩))),(16,.o (.ip (AQ a)))] ⟨⟨_,rfl,.inl rfl⟩,⟨_,rfl,.inl rfl⟩,⟨_,rfl,.inr (.o (.box rfl (.cons .d (.cons .d (.cons (.Nx (s:=6) rfl rfl) (.cons (.full rfl (by simp[d5]) (by simp)) (.cons .d (.cons .d .nil))))))))⟩,⟨_,rfl,.inr (.o (.box rfl (Gk.refl (AQ a))))⟩,trivial⟩ ?_;rw[hl];refine rG (KC [(2,1),(3,1)]) (by kernel_rfl) ?_;(repeat first|refine tA rfl ?_|apply Aa);(subst_vars;exact aR ⟨_,rfl,rfl⟩)
   ·have y:=UW (TB:=TB) hI Q G q
    have S:=Fv (TB:=TB) [s,t] p;have r:=XW (TB:=TB) s p al (BT s t p al k) B w q;rw[ZK hI K G q]at r
    rcases J with ⟨rfl,hb0,z,hk⟩|⟨hb,J⟩
    ·rw[hb0,rI,if_neg pQ]at y
     obtain⟨M,L⟩:=I hk
     have eV:V=⟨1,Je,OC (BE [s,t] p),(k:Int)+1⟩:=by rw[j,M,z]
     have eA:A=Bq s p al (BT s t p al k):=by rw[m,L,g]
     clear j m;subst eV eA;generalize Bq s p al (BT s t p al k)=a at *;generalize Ld s t p al k=la;generalize BT s t p al k=tb at *;(repeat first|refine tA rfl ?_|refine s2 rfl λ_ c=>?_|refine aU rfl ?_|apply Aa)
     ((refine aC rfl ?_ ?_<;>rintro⟨⟩);(all_goals try (simp at c;done));(all_goals try(exfalso;(simp only[oZ] at *;omega))))
     apply aK;apply aB;(repeat first|(refine sA rfl ?_ ?_;first|exact tI|omega)|refine sP rfl (f) rfl ?_|refine sP rfl (y) rfl ?_|refine aU rfl ?_|apply Aa);apply aB;(repeat first|refine tA rfl ?_|refine s2 rfl λ_ c=>?_|refine aU rfl ?_|apply Aa)
     ((refine aC rfl ?_ ?_<;>rintro⟨⟩);(all_goals try (simp at c;done));(all_goals try(exfalso;omega)))
     (repeat first|refine tA rfl ?_|refine s2 rfl λ_ c=>?_|refine aU rfl ?_|apply Aa)
     ((refine aC rfl ?_ ?_<;>rintro⟨⟩);(all_goals try (simp at c;done));(all_goals try(exfalso;omega)))
     (repeat first|refine tA rfl ?_|refine sP rfl (S) rfl ?_|refine aU rfl ?_|apply Aa);refine Ak.Ay [3,4,5,6,10,12] [0,1] rfl rfl [(8,.o (.ptr 0 6 0 0)),(9,.o (.ptr 1 3 0 0)),(15,.o (.ptr 2 6 0 0)),(16,.o (.ptr 3 3 0 0))] [(2,.cells 33 6 [[.d (iD 1),.d (iD 0),.d (.l []),.d (.l []),.d (tD (OC (BE [s,t] p))),.d (iD ((k:Int)+1))]]),(3,.cells 29 3 [[.d (iD a.al),.d (C7 a.nx),.d (Fo a.ac)]])] [0,1,3,4] (rl e rfl) (by (simp[cX,zC,e,cN,BU,Ae,eC])) ?_;(try dsimp only[cA,cB]);refine Ak.AF [2,3] [(8,.o (.ptr 0 6 0 0)),(9,.o (.ptr 1 3 0 0)),(15,.o (.ip (MN ⟨1,Je,OC (BE [s,t] p),(k:Int)+1⟩))),(16,.o (.ip (AQ a)))] ⟨⟨_,rfl,.inl rfl⟩,⟨_,rfl,.inl rfl⟩,⟨_,rfl,.inr (.o (.box rfl (Gk.refl (MN ⟨1,Je,OC (BE [s,t] p),(k:Int)+1⟩))))⟩,⟨_,rfl,.inr (.o (.box rfl (Gk.refl (AQ a))))⟩,trivial⟩ ?_;refine rG (KC [(2,1),(3,1)]) (by kernel_rfl) ?_;(repeat first|refine tA rfl ?_|apply Aa);(subst_vars;exact aR ⟨_,rfl,rfl⟩)
    ·rw [if_pos (by rcases hb with h|h<;>simp[h])]at y
     rcases J with ⟨F,hlt2⟩|⟨F,N,hk,z⟩
     all_goals
      rw[F]at r
      have X:(k:Int)+1=((k+1:Nat):Int):=by omega
      generalize Bq s p al (BT s t p al k)=a at *;generalize Ld s t p al k=la;generalize BT s t p al k=tb at *;(repeat first|refine tA rfl ?_|refine s2 rfl λ_ c=>?_|refine aU rfl ?_|apply Aa)
      ((refine aC rfl ?_ ?_<;>rintro⟨⟩);(all_goals try (simp at c;done));(all_goals try(exfalso;(simp only[oZ] at *;omega))))
      apply aK;apply aB;(repeat first|(refine sA rfl ?_ ?_;first|exact tI|omega)|refine sP rfl (f) rfl ?_|refine sP rfl (y) rfl ?_|refine aU rfl ?_|apply Aa);apply aB;(repeat first|refine tA rfl ?_|refine s2 rfl λ_ c=>?_|refine aU rfl ?_|apply Aa)
      ((refine aC rfl ?_ ?_<;>rintro⟨⟩);(all_goals try (simp at c;done));(all_goals try(exfalso;omega)))
      (repeat first|refine tA rfl ?_|refine s2 rfl λ_ c=>?_|refine aU rfl ?_|apply Aa)
      ((refine aC rfl ?_ ?_<;>rintro⟨⟩);(all_goals try (simp at c;done));(all_goals try(exfalso;omega)))
      apply aK;(repeat first|refine tA rfl ?_|refine sP rfl (r) rfl ?_|refine aU rfl ?_|apply Aa)
     ·refine⟨⟨k+1,by omega,by omega,by omega⟩,by dsimp only;(omega),[0,1,2,3,4],?_⟩
      simp[cX,zC,e,cN,g,decide_eq_true (show k+1<n by omega)]
     ·refine⟨⟨k+1,by omega,by omega,λ_=>by rw[z,X]⟩,by dsimp only;(omega),[0,1,2,3,4],?_⟩
      simp[cX,zC,e,cN,g,N,decide_eq_false (show ¬k+1<n by omega)]
  ·have hk:k=R.toNat:=by omega
   have e1:RA s t p al R=⟨2,Je,[],(k:Int)⟩:=by unfold RA;rw[if_neg (by omega),hk]
   have e2:min n R.toNat=k:=by omega
   have eV:V=⟨2,Je,[],(k:Int)⟩:=by rw[j,e1]
   have eA:A=Ld s t p al k:=by rw[m,e2]
   clear j m;subst eV eA;generalize Ld s t p al k=la;generalize BT s t p al k=tb;(repeat first|refine tA rfl ?_|refine s2 rfl λ_ c=>?_|refine aU rfl ?_|apply Aa)
   ((refine aC rfl ?_ ?_<;>rintro⟨⟩);(all_goals try (simp at c;done));(all_goals try(exfalso;(simp only[oZ] at *;omega))))
   apply aE;(repeat first|refine aU rfl ?_);refine Ak.AF [3,4] [(8,.o (.ptr 0 6 0 0)),(9,.o (.ptr 1 3 0 0)),(15,.o (.ip (MN ⟨2,Je,[],(k:Int)⟩))),(16,.o (.ip (AQ la)))] ⟨⟨_,rfl,.inl rfl⟩,⟨_,rfl,.inl rfl⟩,⟨_,rfl,.inr (.o (.box rfl (Gk.refl (MN ⟨2,Je,[],(k:Int)⟩))))⟩,⟨_,rfl,.inr (.o (.box rfl (Gk.refl (AQ la))))⟩,trivial⟩ ?_;refine rG (KC [(2,1),(3,1)]) (by kernel_rfl) ?_;(repeat first|refine tA rfl ?_|apply Aa);(subst_vars;exact aR ⟨_,rfl,rfl⟩)
 ·obtain rfl:k=n:=by omega
  have e1:RA s t p al R=⟨2,Je,[],(k:Int)⟩:=by unfold RA;rw[if_pos (by omega)];exact i rfl
  have e2:min k R.toNat=k:=by omega
  simp only[decide_eq_false H]
  have eV:V=⟨2,Je,[],(k:Int)⟩:=by rw[j,e1]
  have eA:A=Ld s t p al k:=by rw[m,e2]
  clear j m;subst eV eA;generalize Ld s t p al k=la;generalize BT s t p al k=tb;(repeat first|refine tA rfl ?_|refine aU rfl ?_|apply Aa)
  ((refine aC rfl ?_ ?_<;>rintro⟨⟩);all_goals try (simp at c;done))
  apply aE;(repeat first|refine aU rfl ?_);refine Ak.AF [3,4] [(8,.o (.ptr 0 6 0 0)),(9,.o (.ptr 1 3 0 0)),(15,.o (.ip (MN ⟨2,Je,[],(k:Int)⟩))),(16,.o (.ip (AQ la)))] ⟨⟨_,rfl,.inl rfl⟩,⟨_,rfl,.inl rfl⟩,⟨_,rfl,.inr (.o (.box rfl (Gk.refl (MN ⟨2,Je,[],(k:Int)⟩))))⟩,⟨_,rfl,.inr (.o (.box rfl (Gk.refl (AQ la))))⟩,trivial⟩ ?_;refine rG (KC [(2,1),(3,1)]) (by kernel_rfl) ?_;(repeat first|refine tA rfl ?_|apply Aa);(subst_vars;exact aR ⟨_,rfl,rfl⟩)
theorem ZH(s t:Sys)(p:AY)(a:s.es.length<=1048576):Pure Tryz.prog TB 12 [Br s,Br t,Bk p] (iK (BD s t p)):=by
 by_cases h:AT s p t<0
 ·have b:=aA (TB:=TB) h a 12
  rw[GD h];refine eG Tryz.func12 rfl (by kernel_rfl) rfl ?_;intro Γ c;(repeat first|refine tA rfl ?_|refine sP rfl (b) rfl ?_|refine aU rfl ?_|apply Aa);(subst_vars;exact aR ⟨_,rfl,rfl⟩)
 ·have hI:=Es h
  have b:=aD (TB:=TB) hI a 12
  have d:RA s t p (AT s p t) 12=BD s t p:=by
   unfold RA;rw[if_pos (by have:=Km hI;omega)]
  rw[d]at b;generalize Ld s t p (AT s p t) _=la at b;generalize BD s t p=v at *;refine eG Tryz.func12 rfl (by kernel_rfl) rfl ?_;intro Γ c;(repeat first|refine tA rfl ?_|refine sP rfl (b) rfl ?_|refine aU rfl ?_|apply Aa);(subst_vars;exact aR ⟨_,rfl,rfl⟩)
end Go.Am
