/-
  The program's search for a trace of one system that another one does not have: walked.
-/
import Derived.Test.YtdipaikojjjebaaGreatDoorPart34
set_option linter.all false
namespace Go.Am
open Go Go.Proofs
set_option maxHeartbeats 1000000
set_option maxRecDepth 4000
attribute [local irreducible] A1 Cr Lex Bs Aj Spec
variable {TB:BA}
section
variable {P:Program}{Γ:Ctx}{N:Nat}
theorem BS.kk{V:View}{f:Env}{σ:Ab}{nx:Nat}{a:Act}(h:BS TB Γ N V f σ nx a)(r:Nat->Nat)(n':Nat)(L:List (Nat×E))(σ':Ab)
 (n:∀id,r id<nx->id<n') (g:∀i,i<Γ.V.nx->r i=i) (s:Γ.V.nx<=n') (z:∀id id' o o',look σ' id=some o->look σ' id'=some o'->r id=r id'->id=id')
 (y:C9 r f L) (j:AM r σ σ'):∃V',V'.w=V.w/\BS TB Γ N V' (look L) σ' n' a:=by
 have p:=h.nx;subst p;have u:∀id o,look σ' id=some o->id<n':=λid o c=>n id (h.inv.st.lt _ _ (AM.get j id o c))
 have e:Ext Γ.V (V.A3 r n'):=by
  refine⟨h.inv.ext.i,h.inv.ext.heap,h.inv.ext.size,λi hi=>?_,λi hi=>?_,λi hi=>?_,s⟩
  ·show V.ρ (r i)=_
   rw[g i hi];exact h.inv.ext.ρ i hi
  ·show V.cap (r i)=_
   rw[g i hi];exact h.inv.ext.cap i hi
  ·show V.nl (r i)↔_
   rw[g i hi];exact h.inv.ext.nl i hi
 refine⟨V.A3 r n',rfl,⟨λt x m=>(h.env t _ (y.get t x m)).A3 n,λt x m=>h.lt t _ (y.get t x m),h.size,?_,rfl,h.defers⟩⟩
 refine⟨h.inv.os,h.inv.tape,h.inv.output,h.inv.old,h.inv.iLt,h.inv.iNew,e,⟨λid o c=>Ci.A3 n (h.inv.st.obj _ _ (AM.get j id o c)),u,λid o c d b hb=>h.inv.st.free _ _ (AM.get j id o c) d b (BB.1 hb),?_⟩,
  λid o c d b hb=>h.inv.live _ _ (AM.get j id o c) d b (BB.1 hb),h.inv.tabs,h.inv.hid.same rfl (λ_ h=>h) (λ_ h=>.inl h) λb ⟨id,o,c,s,hb⟩=>⟨_,_,AM.get j id o c,s,BB.1 hb⟩⟩
 intro id id' o o' c k q d l b hb v;exact h.inv.st.inj _ _ _ _ (AM.get j id o c) (AM.get j id' o' k) (λA=>q (z id id' o o' c k A)) d l b (BB.1 hb) (BB.1 v)
def fV(i:Nat):Nat:=if i=1 then 0 else i
theorem Aj.up{c:Code}{Q:Exit->Env->Ab->Nat->Prop}{f:Env}{σ:Ab}(d:Γ.V.nx=1)(L:List (Nat×E))(o:O)(j:C9 fV f L)(g:AM fV σ [(1,o)])(h:Aj P TB Γ N c Q (look L) [(1,o)] 2):Aj P TB Γ N c Q f σ 1:=by
 unfold Aj at h |-;intro V a e;obtain⟨V',l,k⟩:=e.kk fV 2 L [(1,o)] (λid h=>by unfold fV at h;split at h<;>omega) (λi h=>by unfold fV;split<;>omega) (by omega)
  (λid id' _ _ h b _=>by
   rw[Ax]at h b;split at h
   ·split at b
    ·omega
    ·cases b
   ·cases h) j g
 have:=h V' a k;rw[l]at this;exact this
end
def Ef(t:Sys):Int:=((2 ^ t.st.toNat:Nat):Int)
def OG(s t:Sys)(x l:Int):List Int:=(Hg s.es (x / Ef t).toNat l.toNat).map λq=>q*Ef t+(Bo t.es l (x%Ef t).toNat:Nat)
def YW(s t:Sys):Gr:=⟨s.st.toNat*2 ^ t.st.toNat,OG s t,λx=>decide (x%Ef t=0),Ac s.al,1⟩
theorem OJ{t:Sys}(h:Ay t=true):2<=Ef t/\Ef t<=65536:=by
 have c:=AE h;have b:2 ^ t.st.toNat<=2 ^ 16:=mc (by omega) (by omega);have a:2 ^ 1<=2 ^ t.st.toNat:=mc (by omega) (by omega);unfold Ef;generalize 2 ^ t.st.toNat=n at *;omega
theorem eP(s t:Sys):jw s t (YW s t):=by
 refine⟨rfl,rfl,λx=>rfl,λx l c d y=>?_⟩;have b:=Ai d;have f:0<=x / Ef t:=mS c (Int.natCast_nonneg _)
 have e:BN s (x / Ef t) l=Hg s.es (x / Ef t).toNat l.toNat:=by
  unfold BN Hg;rw[if_pos b.2.2,mB f,mB b.1]
 show y∈OG s t x l↔∃q∈BN s (x / Ef t) l,y=q*Ef t+_
 rw[e];unfold OG;rw[d8];exact⟨λ⟨q,h,a⟩=>⟨q,h,a.symm⟩,λ⟨q,h,a⟩=>⟨q,h,a.symm⟩⟩
theorem RE{s:Sys}(h:Ay s=true){f l:Nat}{x:Int}(a:x∈Hg s.es f l):0<=x/\x<s.st:=by
 unfold Hg at a;obtain⟨e,c,rfl⟩:=d8.1 a;have b:=BT h (lw.1 c).1;unfold CI at b;simp at b;omega
theorem YX{s t:Sys}(hs:Ay s=true)(ht:Ay t=true):((YW s t).N:Int)=s.st*Ef t/\(YW s t).N<=1048576/\s.st<=s.st*Ef t/\2<=s.st*Ef t:=by
 have f:=AE hs;have b:=OJ ht
 have a:((YW s t).N:Int)=s.st*Ef t:=by
  show ((s.st.toNat*2 ^ t.st.toNat:Nat):Int)=s.st*((2 ^ t.st.toNat:Nat):Int)
  rw[Int.natCast_mul,mB (by omega)]
 have e:s.st*Ef t<=16*65536:=l4 (by omega) b.2 (by omega) (by omega);have d:s.st*1<=s.st*Ef t:=mA (by omega) (by omega);have c:1*Ef t<=s.st*Ef t:=mr (by omega) (by omega);refine⟨a,by omega,by omega,by omega⟩
theorem Tk{s t:Sys}(hs:Ay s=true)(ht:Ay t=true)(x l:Int):(∀y∈OG s t x l,0<=y/\y<s.st*Ef t)/\((OG s t x l).length:Int)<=s.st:=by
 have g:=OJ ht;have i:=AE hs;refine⟨λy b=>?_,?_⟩
 ·obtain⟨q,c,rfl⟩:=d8.1 b
  have a:=RE hs c;have e:((Bo t.es l (x%Ef t).toNat:Nat):Int)<Ef t:=Int.ofNat_lt.2 (J9 ht l _);have f:0<=q*Ef t:=mf a.1 (by omega);have d:(q+1)*Ef t<=s.st*Ef t:=mr (by omega) (by omega);rw[nn,o3]at d;omega
 ·have a:=Ds hs s.es.length (x / Ef t).toNat l.toNat
  rw[jp]at a;have e:=EP s.st.toNat (Hg s.es (x / Ef t).toNat l.toNat) (a.imp λh=>by omega) (λy b=>by have:=RE hs b;omega);unfold OG;rw[f7];omega
theorem eO{s t:Sys}(hs:Ay s=true)(ht:Ay t=true):KZ (YW s t):=by
 have d:=YX hs ht;refine⟨?_,λx b l c y a=>?_,Es _ _⟩
 ·show 0<=(1:Int)/\(1:Int)<_
  omega
 ·have:=(Tk hs ht x l).1 y a
  omega
theorem dp{t:Int}(d:0<=t)(c:t<=16):IntKind.i64.wrap (1*2 ^ (min t.toNat IntKind.i64.bits))=((2 ^ t.toNat:Nat):Int):=by
 have e:min t.toNat IntKind.i64.bits=t.toNat:=by
  have:IntKind.i64.bits=64:=rfl;omega
 rw[e,o3];have b:2 ^ t.toNat<=2 ^ 16:=mc (by omega) (by omega)
 have a:(2:Int) ^ t.toNat=((2 ^ t.toNat:Nat):Int):=by push_cast;rfl
 rw[a];generalize 2 ^ t.toNat=p at *;exact IntWalk.i64_in _ (by omega)
theorem cd[CG TB]{s t:Sys}(hs:Ay s=true)(ht:Ay t=true):Yx Tryz.prog TB 3 (YW s t) 92 [.ip [.p (CS t.es)],.ip [iD (Ef t)],.ip [.p (CS s.es)]]:=by
 intro node l outs F J T;have J:=Ai (show l∈AK s.al 6 from J)
 have i:0<=l/\l<6:=⟨J.1,by omega⟩
 have N:=OJ ht;have R:=AE hs;have M:=YX hs ht;have B:0<=node:=F.1
 have f:node<s.st*Ef t:=by rw[<-M.1];exact F.2
 have S:0<=node / Ef t:=mS B (by omega);have A:node / Ef t<s.st:=Int.ediv_lt_of_lt_mul (by omega) f
 have e:0<=node / Ef t/\node / Ef t<16:=by omega
 have Y:0<=node%Ef t/\node%Ef t<Ef t:=⟨ms _ (by omega),mh _ (by omega)⟩
 have d:=WE (TB:=TB) ht (l:=l) i (m:=(node%Ef t).toNat) (by omega)
 have em:(((node%Ef t).toNat:Nat):Int)=node%Ef t:=by omega
 rw[em]at d;have b:=Ds hs s.es.length (node / Ef t).toNat l.toNat;rw[jp]at b
 have c:∀y∈Hg s.es (node / Ef t).toNat l.toNat,0<=y/\y<60:=λy j=>by have:=RE hs j;omega
 have w:∀y∈Hg s.es (node / Ef t).toNat l.toNat,0<=y/\y<16:=λy j=>by have:=RE hs j;omega
 have H:=N5 (TB:=TB) _ b c;have G:=Um (es:=s.es) e i;have X:Bo t.es l (node%Ef t).toNat<65536:=Rw ht l _;have Q:(Hg s.es (node / Ef t).toNat l.toNat).length<=60:=EP 60 _ (b.imp λh=>by omega) c
 show Spec _ _ _ _ _ _ (λx σ nx=>x=.o (.arr 1 1 0 (outs++(Hg s.es (node / Ef t).toNat l.toNat).map λq=>q*Ef t+(Bo t.es l (node%Ef t).toNat:Nat)).length)/\nx=2/\σ=[(1,.cells 3 1 ((outs++(Hg s.es (node / Ef t).toNat l.toNat).map λq=>q*Ef t+(Bo t.es l (node%Ef t).toNat:Nat)).map A8))])
 generalize Bo t.es l (node%Ef t).toNat=v at *;generalize Hg s.es (node / Ef t).toNat l.toNat=to at *
 have U:node<=1048576:=by omega
 clear F M f A;generalize Ef t=z at *;refine eN Tryz.func92 rfl (by kernel_rfl) rfl ?_;intro Γ a;(repeat first|refine tA rfl ?_|refine aU rfl ?_|apply Aa);refine rG (Hf []) (by kernel_rfl) ?_;(repeat first|(refine sA rfl ?_ ?_;first|exact tI|omega)|refine sP rfl (d) rfl ?_|refine aU rfl ?_|apply Aa);refine rG (Hf []) (by kernel_rfl) ?_;(repeat first|refine sN rfl ?_|(refine sA rfl ?_ ?_;first|exact tI|omega)|refine sP rfl (H) rfl ?_|(refine Ag rfl ?_;refine gA rfl ?_;first|refine gS (λ_ _=>Dy rfl G) ?_)|apply Aa);refine Aj.up a [(2,.o (.arr 1 1 0 outs.length)),(4,.o (.ip [iD z])),(10,eI .i64 (v:Nat)),(28,AX to),(29,eI .i64 to.length),(30,eI .i64 0)] (.cells 3 1 (outs.map A8)) (by simp[cX,zC,a,fV]) (by simp[cX,zC,a,fV]) ?_;apply aB;refine aL (α:={k:Nat // k<=to.length}) [4,10,28,29] [] rfl rfl (λ⟨k,hk⟩=>[(2,.o (.arr 1 1 0 (outs.length+k))),(30,eI .i64 k)]) (λ⟨k,hk⟩=>[(1,.cells 3 1 ((outs++(to.take k).map λq=>q*z+(v:Nat)).map A8))]) 2 (λ⟨k,hk⟩=>to.length-k) (⟨0,by omega⟩) a rfl (by (simp[cX,zC,a,eC,Bt,Ae])) ?_;rintro⟨k,hk⟩;(try dsimp only[cA,cB]);by_cases I:k<to.length
 ·obtain⟨x,u⟩:=get_some I
  have P:=get_map (g:=DJ) u;have n:=w x (co u)
  have V:0<=x*z/\x*z<=1048576:=⟨mf n.1 (by omega),by
   have:x*z<=16*65536:=l4 (by omega) N.2 (by omega) (by omega)
   omega⟩
  (repeat first|refine s2 rfl λ_ K=>?_|refine aU rfl ?_|apply Aa)
  ((refine aC rfl ?_ ?_<;>rintro⟨⟩);all_goals try(exfalso;(simp only[oZ] at *;omega)))
  apply aK;refine aS (aB ?_);(repeat first|(refine sA rfl ?_ ?_;first|exact tI|omega)|(refine s4 rfl ‹_› rfl ?_ ?_;omega)|refine aU rfl ?_|apply Aa);(refine pW rfl ?_ rfl (by rfl);refine Al rfl rfl rfl (by first|(simp;done)|(simp;(omega))) rfl (by intro r L;simp at L;subst L;rfl) (by rfl) (ce rfl) (by simp;omega) ?_);(repeat first|(refine sA rfl ?_ ?_;first|exact tI|omega)|refine aU rfl ?_|apply Aa);refine⟨⟨k+1,by omega⟩,by dsimp only;(omega),[0,2],?_⟩;simp[cX,zC,a,eC,Bt,Ae,gt,u,l8]
 ·obtain rfl:k=to.length:=by omega
  rw[jp];(repeat first|refine s2 rfl λ_ K=>?_|refine aU rfl ?_|apply Aa)
  ((refine aC rfl ?_ ?_<;>rintro⟨⟩);all_goals try(exfalso;(simp only[oZ] at *;omega)))
  apply aE;(repeat first|refine tA rfl ?_|refine aU rfl ?_|apply Aa);refine aR ⟨_,rfl,by simp,rfl,by simp[kill]⟩
theorem cf{t:Sys}(ht:Ay t=true){n:Int}(d:0<=n/\n<=1048576):Pure Tryz.prog TB 96 [eI .i64 n,.o (.ip [iD (Ef t)])] (eB (decide (n%Ef t=0))):=by
 have c:=OJ ht;generalize Ef t=z at *;refine eN Tryz.func96 rfl (by kernel_rfl) rfl ?_;intro Γ a;(repeat first|(refine sA rfl ?_ ?_;first|exact tI|omega)|refine s2 rfl λ_ b=>?_|refine aU rfl ?_|apply Aa);(subst_vars;exact aR ⟨_,rfl,rfl⟩)
theorem GZ(s t:Sys):Pure Tryz.prog TB 36 [Bi s,Bi t] (eB (Fs s t)):=by
 have c:=Bh (TB:=TB) s;have b:=Bh (TB:=TB) t;unfold Fs;generalize Ay s=x at *;generalize Ay t=y at *;cases x<;>cases y
 all_goals
  refine eG Tryz.func36 rfl (by kernel_rfl) rfl ?_;intro Γ a
  (repeat' first|refine tA rfl ?_|refine s2 rfl λ_ d=>?_|refine sP rfl (c) rfl ?_|refine sP rfl (b) rfl ?_|refine aU rfl ?_|apply Aa|(refine aC rfl ?_ ?_<;>rintro⟨⟩));all_goals try contradiction
 all_goals first
  | (exfalso;simp at *;done)
  | (subst_vars;refine aR ⟨_,rfl,?_⟩;show E.o _=E.o _;congr;first|done|grind)
theorem T8[CG TB](s t:Sys):Pure Tryz.prog TB 35 [Bi s,Bi t] (Nx (if Fs s t then Cs (YW s t) else none)):=by
 have c:=GZ (TB:=TB) s t;cases k:Fs s t
 ·rw[k]at c
  refine eG Tryz.func35 rfl (by kernel_rfl) rfl ?_;intro Γ d;(repeat first|refine tA rfl ?_|refine s2 rfl λ_ a=>?_|refine sP rfl (c) rfl ?_|refine aU rfl ?_|apply Aa)
  ((refine aC rfl ?_ ?_<;>rintro⟨⟩);all_goals try (simp at a;done))
  (repeat first|refine tA rfl ?_|refine aU rfl ?_|apply Aa);(subst_vars;exact aR ⟨_,rfl,rfl⟩)
 ·rw [k]at c
  obtain⟨hs,ht,_⟩:=Sv k;have m:=YX hs ht;have y:=OJ ht;have w:=AE hs;have v:=AE ht;have h:=Hp (TB:=TB) s hs;have g:=Hp (TB:=TB) t ht;have i:=Cj (TB:=TB) s.al;have b:=dp (t:=t.st) (by omega) (by omega)
  have j:Pure Tryz.prog TB 95 [eI .i64 (s.st*Ef t),AX [1],AX (Ac s.al),.o (.fn 92 [.ip [.p (CS t.es)],.ip [iD (Ef t)],.ip [.p (CS s.es)]]),.o (.fn 96 [.ip [iD (Ef t)]])] (Nx (Cs (YW s t))):=by
   rw[<-m.1];exact Hn (eO hs ht) m.2.1 (λx u=>by have:=Ai u;omega) (AQ _ 6) (λnode l q z=>by have:=(Tk hs ht node l).2;have e:((YW s t).succ node l).length=(OG s t node l).length:=rfl;omega) (cd hs ht) (λn q=>cf ht ⟨q.1,by have:=m.2.1;omega⟩) rfl (λr=>rfl) (λr=>rfl) (C6 _)
  rw[if_pos rfl];generalize Cs (YW s t)=o at *;have f:Ef t=((2 ^ t.st.toNat:Nat):Int):=rfl;refine eG Tryz.func35 rfl (by kernel_rfl) rfl ?_;intro Γ d;(repeat first|refine tA rfl ?_|refine s2 rfl λ_ a=>?_|refine sP rfl (c) rfl ?_|refine aU rfl ?_|apply Aa)
  ((refine aC rfl ?_ ?_<;>rintro⟨⟩);all_goals try (simp at a;done))
  apply aK;(repeat first|refine aU rfl ?_);refine R.Om [(0,2),(1,2),(2,2),(3,2),(4,3),(5,3),(6,5),(7,5)] mixed (by kernel_rfl) rfl (by kernel_rfl) ?_;(repeat ((refine R.Ag rfl ?_;first|(refine R.yQ (md:=false) rfl rfl rfl ?_ ?_;exact tI)|refine R.yP rfl rfl rfl rfl ?_|refine R.yA rfl rfl rfl rfl ?_|refine R.CO (λ_ _ _=>Be rfl rfl rfl (h) rfl) rfl rfl ?_|refine R.CO (λ_ _ _=>Be rfl rfl rfl (g) rfl) rfl rfl ?_ )));refine R.NZ ?_;refine Aj.AD [0,1] [(2,.o (.ip (Av s))),(3,.o (.ip (Av t))),(6,.o (.ip [.p (CS s.es)])),(7,.o (.ip [.p (CS t.es)]))] ⟨⟨_,rfl,.inl rfl⟩,⟨_,rfl,.inl rfl⟩,⟨_,rfl,.inr (.o (.box rfl (EL.refl [.p (CS s.es)])))⟩,⟨_,rfl,.inr (.o (.box rfl (EL.refl [.p (CS t.es)])))⟩,trivial⟩ ?_;apply aS;refine kj (by kernel_rfl) ?_;(repeat first|refine tA rfl ?_|(refine Ag rfl ?_;refine gA rfl ?_;first|refine gS (λ_ _=>ab rfl rfl (by omega) b) ?_));apply Aa;rw[<-f];refine Aj.AD [2] [(2,.o (.ip (Av s))),(3,.o (.ip (Av t))),(6,.o (.ip [.p (CS s.es)])),(7,.o (.ip [.p (CS t.es)])),(8,.o (.ip [iD (Ef t)]))] ⟨⟨_,rfl,.inl rfl⟩,⟨_,rfl,.inl rfl⟩,⟨_,rfl,.inl rfl⟩,⟨_,rfl,.inl rfl⟩,⟨_,rfl,.inr (.o (.box rfl (EL.refl [iD (Ef t)])))⟩,trivial⟩ ?_;(repeat first|refine tA rfl ?_|refine aU rfl ?_|apply Aa);refine rG (Hf []) (by kernel_rfl) ?_;(repeat first|(refine sA rfl ?_ ?_;first|exact tI|omega)|refine sP rfl (i) rfl ?_|refine sP rfl (j) rfl ?_|apply Aa);(subst_vars;exact aR ⟨_,rfl,rfl⟩)
theorem Fq[CG TB](s t:Sys):Pure Tryz.prog TB 15 [Bi s,Bi t] (eB (Di s t)):=by
 have c:=GZ (TB:=TB) s t;have a:=T8 (TB:=TB) s t;cases b:Fs s t
 ·rw[b]at c a
  rw[bx b];refine eG Tryz.func15 rfl (by kernel_rfl) rfl ?_;intro Γ d;(repeat first|refine tA rfl ?_|refine sP rfl (a) rfl ?_|refine aU rfl ?_|apply Aa)
  (repeat' first|refine tA rfl ?_|refine sP rfl (c) rfl ?_|apply Aa|(refine aC rfl ?_ ?_<;>rintro⟨⟩));all_goals try contradiction
  all_goals (subst_vars;exact aR ⟨_,rfl,rfl⟩)
 ·obtain⟨hs,ht,hal⟩:=Sv b
  rw[b]at c a;rw[if_pos rfl]at a;rw[XZ hs ht hal (eP s t)];generalize Cs (YW s t)=o at *;cases o
  all_goals
   refine eG Tryz.func15 rfl (by kernel_rfl) rfl ?_;intro Γ d;(repeat first|refine tA rfl ?_|refine sP rfl (a) rfl ?_|refine aU rfl ?_|apply Aa)
   (repeat' first|refine tA rfl ?_|refine s2 rfl λ_ e=>?_|refine sP rfl (c) rfl ?_|apply Aa|(refine aC rfl ?_ ?_<;>rintro⟨⟩));all_goals try contradiction
  all_goals (subst_vars;exact aR ⟨_,rfl,rfl⟩)
theorem Vz[CG TB](s t:Sys):Pure Tryz.prog TB 20 [Bi s,Bi t] (eB (Di s t && Di t s)):=by
 have c:=Fq (TB:=TB) s t;have b:=Fq (TB:=TB) t s;generalize Di s t=x at *;generalize Di t s=y at *;cases x
 all_goals
  refine eG Tryz.func20 rfl (by kernel_rfl) rfl ?_;intro Γ a
  (repeat' first|refine tA rfl ?_|refine sP rfl (c) rfl ?_|refine sP rfl (b) rfl ?_|refine aU rfl ?_|apply Aa|(refine aC rfl ?_ ?_<;>rintro⟨⟩));all_goals try contradiction
 all_goals (subst_vars;exact aR ⟨_,rfl,rfl⟩)
end Go.Am
