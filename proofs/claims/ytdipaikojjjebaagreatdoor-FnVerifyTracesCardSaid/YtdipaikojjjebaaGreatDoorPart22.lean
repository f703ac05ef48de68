/-
  Parts; the closure of goals.
-/
import Derived.Test.YtdipaikojjjebaaGreatDoorPart20
import Derived.Test.YtdipaikojjjebaaGreatDoorPart11
set_option linter.all false
namespace Go.Am
open Go Go.Proofs
set_option maxHeartbeats 1000000
set_option maxRecDepth 4000
attribute [local irreducible] A1 Cr Lex Bs Aj Spec
variable {TB:BA}
theorem Qo(s:Sys):Pure Tryz.prog TB 105 [Bi s] (eB (!Ay s)):=by
 refine eN Tryz.func105 rfl (by kernel_rfl) rfl ?_;intro Γ b;(repeat' first|refine tA rfl ?_|refine s2 rfl λ_ a=>?_|(refine sC rfl (Bh s) ?_;intro _ a)|refine aU rfl ?_|apply Aa|(refine aC rfl ?_ ?_<;>rintro⟨⟩)|apply aK|apply aE|apply aB|refine aR ⟨_,rfl,?_⟩)
 all_goals (show E.o _=E.o _;congr;grind)
def TN:List Sys->Int->Int
 | [],_=>-1
 | s::l,k=>if Ay s then TN l (k+1) else k
theorem RV:∀(l:List Sys) (k:Int),0<=k->(decide (0<=TN l k) = !l.all Ay)
 | [],_,_=>rfl
 | s::l,k,h=>by
  unfold TN;by_cases hs:Ay s=true
  ·rw[if_pos hs,RV l (k+1) (by omega)];simp[hs]
  ·rw[if_neg hs];simp[hs,h]
theorem QE(l:List Sys):Pure Tryz.prog TB 166 [GM l,.o (.fn 105 [])] (eI .i64 (TN l 0)):=by
 refine eN Tryz.func166 rfl (by kernel_rfl) rfl ?_;intro Γ a;refine Aj.bound 0 rfl λb=>?_;have f:=b (l.map Av) .refl;(repeat' first|refine sN rfl ?_|refine tA rfl ?_|refine aU rfl ?_|apply Aa|(refine aC rfl ?_ ?_<;>rintro⟨⟩)|apply aK|apply aE|apply aB|refine aR ⟨_,rfl,?_⟩);refine Aj.BC (α:={k:Nat // k<=l.length/\TN l 0=TN (l.drop k) k}) (λ⟨k,hk,ha⟩=>[(0,GM l),(1,.o (.fn 105 [])),(7,eI .i64 l.length),(8,eI .i64 k)]) (λ⟨k,hk,ha⟩=>[]) 0 (λ⟨k,hk,ha⟩=>l.length-k) (⟨0,by omega,rfl⟩) [] (GX a rfl rfl) (by (simp[cX,zC,a])) ?_;rintro⟨k,hk,ha⟩;(try dsimp only);(repeat first|refine s2 rfl λ_ c=>?_|refine aU rfl ?_|apply Aa);(refine aC rfl ?_ ?_<;>rintro⟨⟩)
 ·obtain⟨x,d⟩:=get_some (l:=l) (k:=k) (by (simp only[oZ] at *;omega))
  have e:=get_map (g:=Av) d;rw[BE d,TN]at ha;(repeat' first|(refine sA rfl ?_ ?_;first|exact tI|simp only[oZ] at *;omega)|(refine s4 rfl ‹_› rfl ?_ ?_;omega)|(refine sC rfl (Qo x) ?_;intro _ c)|refine aU rfl ?_|apply Aa|(refine aC rfl ?_ ?_<;>rintro⟨⟩)|apply aK|apply aE|apply aB|refine aR ⟨_,rfl,?_⟩)
  ·rw[if_neg (by grind)]at ha
   show E.o _=E.o _;rw[ha]
  ·rw[if_pos (by grind)]at ha
   refine⟨⟨k+1,by (simp only[oZ] at *;omega),by rw[ha];rfl⟩,by dsimp only;((simp only[oZ] at *;omega)),[],?_⟩;simp[cX,zC,a]
 ·(repeat' first|refine tA rfl ?_|refine aU rfl ?_|apply Aa|(refine aC rfl ?_ ?_<;>rintro⟨⟩)|apply aK|apply aE|apply aB|refine aR ⟨_,rfl,?_⟩)
  rw[mN (by (simp only[oZ] at *;omega))]at ha
  show E.o _=E.o _;rw[ha];rfl
theorem MI(l:List Sys):Pure Tryz.prog TB 104 [GM l,.o (.fn 105 [])] (eB (!l.all Ay)):=by
 have hb:=RV l 0 (by omega);refine eN Tryz.func104 rfl (by kernel_rfl) rfl ?_;intro Γ a;(repeat' first|refine tA rfl ?_|refine s2 rfl λ_ b=>?_|refine sP rfl (QE l) rfl ?_|refine aU rfl ?_|apply Aa|(refine aC rfl ?_ ?_<;>rintro⟨⟩)|apply aK|apply aE|apply aB|refine aR ⟨_,rfl,?_⟩)
 all_goals (show E.o _=E.o _;congr;grind)
theorem Gf(l:List Sys):Pure Tryz.prog TB 43 [GM l] (eB (AY l)):=by
 refine eN Tryz.func43 rfl (by kernel_rfl) rfl ?_;intro Γ b;(repeat' first|refine sN rfl ?_|refine tA rfl ?_|refine s2 rfl λ_ a=>?_|(refine sC rfl (MI l) ?_;intro _ a)|refine s3 rfl ?_ ?_<;>rintro rfl|refine aU rfl ?_|apply Aa|(refine aC rfl ?_ ?_<;>rintro⟨⟩)|apply aK|apply aE|apply aB|refine aR ⟨_,rfl,?_⟩)
 all_goals (show E.o _=E.o _;congr;unfold AY;grind)
theorem EY(l:List Sys):Pure Tryz.prog TB 161 [GM l] (eI .i64 (Bz l)):=by
 refine eN Tryz.func161 rfl (by kernel_rfl) rfl ?_;intro Γ a;refine Aj.bound 0 rfl λe=>?_;have i:=e (l.map Av) .refl;(repeat' first|refine sN rfl ?_|refine tA rfl ?_|refine s2 rfl λ_ b=>?_|(refine sC rfl (Gf l) ?_;intro _ b)|refine aU rfl ?_|apply Aa|(refine aC rfl ?_ ?_<;>rintro⟨⟩)|apply aK|apply aE|apply aB|refine aR ⟨_,rfl,?_⟩)
 all_goals try (show E.o _=E.o _;congr;unfold Bz;rw[if_neg (by grind)])
 have d:AY l=true:=by grind
 refine Aj.BC (α:={k:Nat // k<=l.length}) (λ⟨k,hk⟩=>[(3,eI .i64 (LC (l.take k) 0)),(9,GM l),(10,eI .i64 l.length),(11,eI .i64 k)]) (λ⟨k,hk⟩=>[]) 0 (λ⟨k,hk⟩=>l.length-k) (⟨0,by omega⟩) [] (GX a rfl rfl) (by (repeat' first|exact tI|rfl|refine And.intro ?_ ?_)) ?_;rintro⟨k,hk⟩;(try dsimp only);(repeat first|refine s2 rfl λ_ b=>?_|refine aU rfl ?_|apply Aa);(refine aC rfl ?_ ?_<;>rintro⟨⟩)
 ·obtain⟨x,f⟩:=get_some (l:=l) (k:=k) (by (simp only[oZ] at *;omega))
  have h:=get_map (g:=Av) f
  have c:LC (l.take (k+1)) 0=Fp .i64 (LC (l.take k) 0) x.al:=by unfold LC;rw[NH f]
  (repeat' first|(refine sA rfl ?_ ?_;first|exact tI|simp only[oZ] at *;omega)|(refine s4 rfl ‹_› rfl ?_ ?_;omega)|refine aU rfl ?_|apply Aa|(refine aC rfl ?_ ?_<;>rintro⟨⟩)|apply aK|apply aE|apply aB|refine aR ⟨_,rfl,?_⟩);refine⟨⟨k+1,by (simp only[oZ] at *;omega)⟩,by dsimp only;((simp only[oZ] at *;omega)),[],?_⟩;simp[cX,zC,a,c]
 ·(repeat' first|refine tA rfl ?_|refine aU rfl ?_|apply Aa|(refine aC rfl ?_ ?_<;>rintro⟨⟩)|apply aK|apply aE|apply aB|refine aR ⟨_,rfl,?_⟩)
  rw[lF (by (simp only[oZ] at *;omega))]
  show E.o _=E.o _;congr;unfold Bz;rw[if_pos d]
theorem Sj{a p:A5}(ha:AJ a=true)(e:AJ p=true)(node:Int)(d:0<=node)(n:node<=1048576):Pure Tryz.prog TB 164 [eI .i64 node,.o (.ip [.p (AU a)]),.o (.ip [iD p.nx.length]),.o (.ip [iD a.nx.length]),.o (.ip (AU p))] (eB (Mi a p node)):=by
 have s:=Ce ha;have j:=Ce e;have t:=AS ha;have m:=AS e;have i:0<=node / p.nx.length:=mS d (by omega);have h:node / p.nx.length<=node:=nA _ d
 have w:0<=node / p.nx.length%a.nx.length/\node / p.nx.length%a.nx.length<a.nx.length:=⟨ms _ (by omega),mh _ (by omega)⟩
 have v:0<=node%p.nx.length/\node%p.nx.length<p.nx.length:=⟨ms _ (by omega),mh _ (by omega)⟩
 obtain⟨b,hb⟩:=get_some (l:=a.ac) (k:=(node / p.nx.length%a.nx.length).toNat) (by omega);obtain⟨c,f⟩:=get_some (l:=p.ac) (k:=(node%p.nx.length).toNat) (by omega)
 have r:(a.ac.map MF)[(node / p.nx.length%a.nx.length).toNat]?=some (MF b):=by simp[hb]
 have q:(p.ac.map MF)[(node%p.nx.length).toNat]?=some (MF c):=by simp[f]
 have hg:Mi a p node=(b && !c):=by simp[Mi,List.getD,hb,f]
 rw[hg];refine eN Tryz.func164 rfl (by kernel_rfl) rfl ?_;intro Γ g;(repeat' first|(refine sA rfl ?_ ?_;first|exact tI|omega)|(refine s4 rfl ‹_› rfl ?_ ?_;omega)|refine s2 rfl λ_ u=>?_|refine s3 rfl ?_ ?_<;>rintro rfl|refine aU rfl ?_|apply Aa|refine rE (by kernel_rfl) ?_|(refine aC rfl ?_ ?_<;>rintro⟨⟩)|apply aK|apply aE|apply aB|refine aR ⟨_,rfl,?_⟩)
 all_goals (show E.o _=E.o _;first|rfl|(congr;grind))
theorem Tq(a:A5):(FY a).length=a.nx.length:=by simp[FY,BF]
def ME:A5:=⟨0,[[]],[true]⟩
theorem bP:AJ ME=true:=by decide
theorem eM{l:List Sys}{a p:A5}{ls:List Int}(h:∀s∈l,Ay s=true)(d:l.length<=3)(ha:AJ a=true)(c:AJ p=true):((gI l a p ls).N:Int)=Az (l.map (·.st))*a.nx.length*p.nx.length/\1<=(gI l a p ls).N/\(gI l a p ls).N<=1048576:=by
 have b:=Ik h d;have m:=Ce ha;have k:=Ce c;have j:(gI l a p ls).N=(Az (l.map (·.st))*a.nx.length*p.nx.length).toNat:=rfl;have i:Az (l.map (·.st))*a.nx.length<=4096*12:=l4 b.2 (by omega) (by omega) (by omega);have g:1*1<=Az (l.map (·.st))*a.nx.length:=l4 b.1 (by omega) (by omega) (by omega);have f:Az (l.map (·.st))*a.nx.length*p.nx.length<=49152*12:=l4 (by omega) (by omega) (by omega) (by omega);have e:1*1<=Az (l.map (·.st))*a.nx.length*p.nx.length:=l4 (by omega) (by omega) (by omega) (by omega);omega
theorem OF{l:List Sys}{a p:A5}(h:∀s∈l,Ay s=true)(d:l.length<=3)(ha:AJ a=true)(c:AJ p=true){node letter:Int}(m:0<=node)(i:0<=letter)(g:letter<6):(∀y∈Iq l a p node letter,0<=y/\y<Az (l.map (·.st))*a.nx.length*p.nx.length)/\((Iq l a p node letter).length:Int)<=Az (l.map (·.st)):=by
 have r:=QJ (Qu h d i g (node / p.nx.length / a.nx.length));have x:=Ik h d;have w:=Ce ha;have v:=Ce c;have u:=SQ ha c m i g;refine⟨λy j=>?_,by unfold Iq;simp;omega⟩;obtain⟨o,k,rfl⟩:=d8.1 j;have n:=r.1 o k;have e:∀o:Int,o*a.nx.length*p.nx.length=o*(a.nx.length*p.nx.length):=λo=>ng _ _ _;rw[e,e];have f:0<=(a.nx.length:Int)*p.nx.length:=mf (by omega) (by omega);generalize (a.nx.length:Int)*p.nx.length=q at *;have t:0<=o*q:=mf n.1 f;have b:(o+1)*q<=Az (l.map (·.st))*q:=mr (by omega) f;rw[nn]at b;omega
theorem dM{l:List Sys}{a p:A5}{x:Int}(h:∀s∈l,Ay s=true)(c:l.length<=3)(ha:AJ a=true)(b:AJ p=true):KZ (gI l a p (Ac x)):=by
 have i:=eM (ls:=Ac x) h c ha b;refine⟨?_,λy e m f z d=>?_,Es _ _⟩
 ·show 0<=(0:Int)/\(0:Int)<_
  omega
 ·have g:=Ai f
  have j:=(OF h c ha b e.1 g.1 (by omega)).1 z d;omega
theorem ND[CG TB](l:List Sys)(a p:A5)(h:AY l=true)(ha:AJ a=true)(c:AJ p=true) :
 Pure Tryz.prog TB 103 [GM l,.o (.ip (AU a)),Bp p] (Nx (Cs (gI l a p (Ac (Fp .i64 (Bz l) a.al))))):=by
 have b:=h;unfold AY at b;simp only[d4,decide_eq_true_eq,ge]at b;obtain⟨⟨u,d⟩,hs⟩:=b;have k:=eM (ls:=Ac (Fp .i64 (Bz l) a.al)) hs d ha c;have hg:=dM (x:=Fp .i64 (Bz l) a.al) hs d ha c;have g:=Ik hs d;have v:=Ce ha;have q:=Ce c;have i:Pure Tryz.prog TB 95 [eI .i64 (Az (l.map (·.st))*a.nx.length*p.nx.length),AX [0],AX (Ac (Fp .i64 (Bz l) a.al)),.o (.fn 162 [.ip [.l (FY a)],.ip [iD p.nx.length],.ip [iD a.nx.length],.ip [.l (FY p)],.ip (FQ l)]),.o (.fn 164 [.ip [.p (AU a)],.ip [iD p.nx.length],.ip [iD a.nx.length],.ip (AU p)])]
  (Nx (Cs (gI l a p (Ac (Fp .i64 (Bz l) a.al))))):=by
  rw[<-k.1];refine Hn hg k.2.2 (λx e=>by have:=Ai e;omega) (AQ _ 6) (λnode x f e=>?_) (λnode x outs f e s=>?_) (λn f=>?_) rfl (λr=>rfl) (λr=>rfl) (C6 _)
  ·have j:=Ai e
   have w:=(OF hs d ha c f.1 j.1 (by omega)).2;have A:Az (l.map (·.st))*1<=Az (l.map (·.st))*a.nx.length:=mA (by omega) (by omega);have z:Az (l.map (·.st))*a.nx.length*1<=Az (l.map (·.st))*a.nx.length*p.nx.length:=mA (by omega) (by omega);have y:(((gI l a p (Ac (Fp .i64 (Bz l) a.al))).succ node x).length:Int)<=Az (l.map (·.st)):=w;omega
  ·have j:=Ai e
   exact Sz hs d ha c node x f.1 (by omega) j.1 (by omega) outs s
  ·exact Sj ha c n f.1 (by omega)
 have t:0<=Az (l.map (·.st))*a.nx.length/\Az (l.map (·.st))*a.nx.length<=49152:=⟨mf (by omega) (by omega),by
  have:Az (l.map (·.st))*a.nx.length<=4096*12:=l4 g.2 (by omega) (by omega) (by omega)
  omega⟩
 refine eN Tryz.func103 rfl (by kernel_rfl) rfl ?_;intro Γ m;(repeat first|refine aU rfl ?_);(refine Ag rfl ?_;refine CO (λ_ _=>Ec rfl rfl rfl) rfl ?_);(refine Ag rfl ?_;refine CO (λ_ _=>Ec rfl rfl rfl) rfl ?_);(repeat first|refine tM rfl ?_|refine sP rfl (Mp l hs d) rfl ?_|refine sP rfl (EY l) rfl ?_|refine aU rfl ?_|apply Aa);(refine aC rfl ?_ ?_<;>rintro⟨⟩);apply aK;apply aS;refine R.Om [(0,2),(1,2),(2,2),(3,2),(4,2),(5,2),(6,3),(7,3),(8,5),(9,5)] mixed (by kernel_rfl) rfl (by kernel_rfl) ?_;(repeat ((refine R.Ag rfl ?_;first|(refine R.yQ (md:=false) rfl rfl rfl ?_ ?_;exact tI)|refine R.yP rfl rfl rfl rfl ?_|refine R.yA rfl rfl rfl rfl ?_|refine R.CO (λ_ _ _=>Be rfl rfl rfl (ER a ha) rfl) rfl rfl ?_|refine R.CO (λ_ _ _=>Be rfl rfl rfl (ER p c) rfl) rfl rfl ?_ )));refine R.NZ ?_;apply aS;refine Aj.freeze [0,1,2] [(4,.o (.ip [.p (AU a)])),(5,.o (.ip (AU p))),(8,.o (.ip (FQ l))),(9,eI .i64 (Bz l)),(10,.o (.ip [.l (FY a)])),(11,.o (.ip [.l (FY p)]))] ⟨⟨_,rfl,.AR⟩,⟨_,rfl,.AR⟩,⟨_,rfl,.o (.ptr (by simp) rfl rfl rfl)⟩,⟨_,rfl,.AR⟩,⟨_,rfl,.o (.ptr (by simp) rfl rfl rfl)⟩,⟨_,rfl,.o (.ptr (by simp) rfl rfl rfl)⟩,trivial⟩ ?_;refine R.Om [(0,2),(1,2),(2,2),(3,2),(4,3),(5,3),(6,5),(7,5)] mixed (by kernel_rfl) rfl (by kernel_rfl) ?_;(repeat ((refine R.Ag rfl ?_;first|(refine R.yQ (md:=false) rfl rfl rfl ?_ ?_;exact tI)|refine R.yP rfl rfl rfl rfl ?_|refine R.yA rfl rfl rfl rfl ?_ )));refine R.NZ ?_;apply aS;simp only[Tq];refine Aj.freeze [3,4] [(4,.o (.ip [.p (AU a)])),(5,.o (.ip (AU p))),(8,.o (.ip (FQ l))),(9,eI .i64 (Bz l)),(10,.o (.ip [.l (FY a)])),(11,.o (.ip [.l (FY p)])),(12,.o (.ip [iD a.nx.length])),(13,.o (.ip [iD p.nx.length]))] ⟨⟨_,rfl,.AR⟩,⟨_,rfl,.AR⟩,⟨_,rfl,.AR⟩,⟨_,rfl,.AR⟩,⟨_,rfl,.AR⟩,⟨_,rfl,.AR⟩,⟨_,rfl,.o (.ptr (by simp) rfl rfl rfl)⟩,⟨_,rfl,.o (.ptr (by simp) rfl rfl rfl)⟩,trivial⟩ ?_;(repeat first|refine tA rfl ?_|refine aU rfl ?_|apply Aa);refine rG (Hf []) (by kernel_rfl) ?_;(repeat first|(refine sA rfl ?_ ?_;first|exact tI|omega)|refine sP rfl (Wz l hs d) rfl ?_|refine sP rfl (Cj _) rfl ?_|refine sP rfl (i) rfl ?_|apply Aa);refine aR ⟨_,rfl,rfl⟩
theorem MJ[CG TB](l:List Sys)(p:A5)(h:AY l=true)(c:AJ p=true) :
 Pure Tryz.prog TB 103 [GM l,.o (.d (.v (.pointer none))),Bp p] (Nx (Cs (gI l ME p (Ac (Fp .i64 (Bz l) ME.al))))):=by
 obtain⟨a,f⟩:∃a,a=ME:=⟨_,rfl⟩
 have ha:AJ a=true:=by rw[f];exact bP
 rw [<-f];have b:=h;unfold AY at b;simp only[d4,decide_eq_true_eq,ge]at b;obtain⟨⟨y,e⟩,hs⟩:=b;have q:=eM (ls:=Ac (Fp .i64 (Bz l) a.al)) hs e ha c;have hg:=dM (x:=Fp .i64 (Bz l) a.al) hs e ha c;have j:=Ik hs e;have z:=Ce ha;have t:=Ce c;have k:Pure Tryz.prog TB 95 [eI .i64 (Az (l.map (·.st))*a.nx.length*p.nx.length),AX [0],AX (Ac (Fp .i64 (Bz l) a.al)),.o (.fn 162 [.ip [.l (FY a)],.ip [iD p.nx.length],.ip [iD a.nx.length],.ip [.l (FY p)],.ip (FQ l)]),.o (.fn 164 [.ip [.p (AU a)],.ip [iD p.nx.length],.ip [iD a.nx.length],.ip (AU p)])]
  (Nx (Cs (gI l a p (Ac (Fp .i64 (Bz l) a.al))))):=by
  rw[<-q.1];refine Hn hg q.2.2 (λx g=>by have:=Ai g;omega) (AQ _ 6) (λnode x i g=>?_) (λnode x outs i g u=>?_) (λn i=>?_) rfl (λr=>rfl) (λr=>rfl) (C6 _)
  ·have m:=Ai g
   have A:=(OF hs e ha c i.1 m.1 (by omega)).2;have G:Az (l.map (·.st))*1<=Az (l.map (·.st))*a.nx.length:=mA (by omega) (by omega);have F:Az (l.map (·.st))*a.nx.length*1<=Az (l.map (·.st))*a.nx.length*p.nx.length:=mA (by omega) (by omega);have B:(((gI l a p (Ac (Fp .i64 (Bz l) a.al))).succ node x).length:Int)<=Az (l.map (·.st)):=A;omega
  ·have m:=Ai g
   exact Sz hs e ha c node x i.1 (by omega) m.1 (by omega) outs u
  ·exact Sj ha c n i.1 (by omega)
 have w:0<=Az (l.map (·.st))*a.nx.length/\Az (l.map (·.st))*a.nx.length<=49152:=⟨mf (by omega) (by omega),by
  have:Az (l.map (·.st))*a.nx.length<=4096*12:=l4 j.2 (by omega) (by omega) (by omega)
  omega⟩
 refine eN Tryz.func103 rfl (by kernel_rfl) rfl ?_;intro Γ s;(repeat first|refine aU rfl ?_);(refine pW rfl ?_ rfl (by rfl);refine CY rfl rfl ?_);(refine Ag rfl ?_;refine CO (λ_ _=>Ec rfl rfl rfl) rfl ?_);(repeat first|refine tM rfl ?_|refine sP rfl (Mp l hs e) rfl ?_|refine sP rfl (EY l) rfl ?_|refine aU rfl ?_|apply Aa);(refine aC rfl ?_ ?_<;>rintro⟨⟩);(repeat first|refine tA rfl ?_|(refine Ag rfl ?_;refine gA rfl ?_;first|refine gS (λ_ _=>AP rfl rfl (by rfl) (by rfl)) ?_)|refine aU rfl ?_|apply Aa);refine Aj.freeze [0,1] [(4,.o (.ip [.p (AU a)])),(5,.o (.ip (AU p))),(8,.o (.ip (FQ l))),(9,eI .i64 (Bz l))] ⟨⟨_,rfl,.o (.ptr (by simp) rfl rfl (by rw[f];rfl))⟩,⟨_,rfl,.AR⟩,⟨_,rfl,.o (.ptr (by simp) rfl rfl rfl)⟩,⟨_,rfl,.AR⟩,trivial⟩ ?_;refine R.Om [(0,2),(1,2),(2,2),(3,2),(4,2),(5,2),(6,3),(7,3),(8,5),(9,5)] mixed (by kernel_rfl) rfl (by kernel_rfl) ?_;(repeat ((refine R.Ag rfl ?_;first|(refine R.yQ (md:=false) rfl rfl rfl ?_ ?_;exact tI)|refine R.yP rfl rfl rfl rfl ?_|refine R.yA rfl rfl rfl rfl ?_|refine R.CO (λ_ _ _=>Be rfl rfl rfl (ER a ha) rfl) rfl rfl ?_|refine R.CO (λ_ _ _=>Be rfl rfl rfl (ER p c) rfl) rfl rfl ?_ )));refine R.NZ ?_;apply aS;refine Aj.freeze [2,3] [(4,.o (.ip [.p (AU a)])),(5,.o (.ip (AU p))),(8,.o (.ip (FQ l))),(9,eI .i64 (Bz l)),(10,.o (.ip [.l (FY a)])),(11,.o (.ip [.l (FY p)]))] ⟨⟨_,rfl,.AR⟩,⟨_,rfl,.AR⟩,⟨_,rfl,.AR⟩,⟨_,rfl,.AR⟩,⟨_,rfl,.o (.ptr (by simp) rfl rfl rfl)⟩,⟨_,rfl,.o (.ptr (by simp) rfl rfl rfl)⟩,trivial⟩ ?_;refine R.Om [(0,2),(1,2),(2,2),(3,2),(4,3),(5,3),(6,5),(7,5)] mixed (by kernel_rfl) rfl (by kernel_rfl) ?_;(repeat ((refine R.Ag rfl ?_;first|(refine R.yQ (md:=false) rfl rfl rfl ?_ ?_;exact tI)|refine R.yP rfl rfl rfl rfl ?_|refine R.yA rfl rfl rfl rfl ?_ )));refine R.NZ ?_;apply aS;simp only[Tq];refine Aj.freeze [4,5] [(4,.o (.ip [.p (AU a)])),(5,.o (.ip (AU p))),(8,.o (.ip (FQ l))),(9,eI .i64 (Bz l)),(10,.o (.ip [.l (FY a)])),(11,.o (.ip [.l (FY p)])),(12,.o (.ip [iD a.nx.length])),(13,.o (.ip [iD p.nx.length]))] ⟨⟨_,rfl,.AR⟩,⟨_,rfl,.AR⟩,⟨_,rfl,.AR⟩,⟨_,rfl,.AR⟩,⟨_,rfl,.AR⟩,⟨_,rfl,.AR⟩,⟨_,rfl,.o (.ptr (by simp) rfl rfl rfl)⟩,⟨_,rfl,.o (.ptr (by simp) rfl rfl rfl)⟩,trivial⟩ ?_;(repeat first|refine tA rfl ?_|refine aU rfl ?_|apply Aa);refine rG (Hf []) (by kernel_rfl) ?_;(repeat first|(refine sA rfl ?_ ?_;first|exact tI|omega)|refine sP rfl (Wz l hs e) rfl ?_|refine sP rfl (Cj _) rfl ?_|refine sP rfl (k) rfl ?_|apply Aa);refine aR ⟨_,rfl,rfl⟩
end Go.Am
namespace Go.Am
open Go
theorem Gp{g g':Gr}(hg:KZ g)(c:g.ls=g'.ls)(hs:∀x:Int,0<=x/\x<g.N->∀l∈g.ls,g.succ x l=g'.succ x l):∀ {w:List Int} {a x:Int},over g w->(0<=a/\a<g.N)->(reach g w a x↔reach g' w a x)
 | [],a,x,_,_=>Iff.rfl
 | l :: w,a,x,d,ha=>by
  have f:=d l (by simp);simp only[reach,<-hs a ha l f];constructor
  ·rintro⟨y,b,h⟩
   exact⟨y,b,(Gp hg c hs (λm e=>d m (by simp[e])) (hg.inn a ha l f y b)).1 h⟩
  ·rintro⟨y,b,h⟩
   exact⟨y,b,(Gp hg c hs (λm e=>d m (by simp[e])) (hg.inn a ha l f y b)).2 h⟩
theorem CQ.congr{g g':Gr}(hg:KZ g)(c:g.ls=g'.ls)(o:g.s0=g'.s0)(hs:∀x:Int,0<=x/\x<g.N->∀l∈g.ls,g.succ x l=g'.succ x l)(f:∀x:Int,0<=x/\x<g.N->g.goal x=g'.goal x){r:Option (List Int)}(h:CQ g r):CQ g' r:=by
 have b:∀w,over g' w↔over g w:=λw=>by unfold over;rw[c]
 have j:∀w,over g w->(NL g' w↔NL g w):=λw i=>by
  unfold NL;rw[<-o];constructor
  ·rintro⟨x,a,d⟩
   have a:=(Gp hg c hs i hg.s0).2 a;exact⟨x,a,by rw[f x (Fb hg i hg.s0 a)];exact d⟩
  ·rintro⟨x,a,d⟩
   exact⟨x,(Gp hg c hs i hg.s0).1 a,by rw[<-f x (Fb hg i hg.s0 a)];exact d⟩
 cases r with
 | none=>exact λu e a=>h u ((b u).1 e) ((j u ((b u).1 e)).1 a)
 | some w=>
  obtain⟨k,n,m⟩:=h;exact⟨(b w).2 k,(j w k).2 n,λu e a=>m u ((b u).1 e) ((j u ((b u).1 e)).1 a)⟩
theorem Zl{zs ws:List Int}{cs ds:List (List Int)}(h:Gs zs cs):Ea (zs++ws) (cs++ds)=(Ea zs cs).flatMap λo=>(Ea ws ds).map λr=>o*Az ws+r:=by
 induction h with
 | nil=>simp[Ea]
 | @cons z c zs cs _ _ _ a=>
  simp only[mK,Ea,a];rw[List.flatMap_assoc];congr 1;funext q;rw[List.map_flatMap,List.flatMap_map];congr 1;funext o;rw[mu];congr 1;funext r;simp only[d7,LF];rw[nn,ng];omega
theorem Te(l:List Sys)(aus:List A5)(st:List Int)(ls kd gl:Int):AG ⟨l,aus,st,ls,kd,gl⟩=l.map (·.st)++aus.map (λa=>(a.nx.length:Int)):=rfl
theorem Kr{l:List Sys}{aus:List A5}{st:List Int}{ls kd gl:Int}(b:GD ⟨l,aus,st,ls,kd,gl⟩){node letter:Int}(f:0<=letter)(d:letter<6) :
 Ig ⟨l,aus,st,ls,kd,gl⟩ (AG ⟨l,aus,st,ls,kd,gl⟩) (Da (AG ⟨l,aus,st,ls,kd,gl⟩) node) letter =
  (Ea (l.map (·.st)) (Xc l (node / Az (aus.map λa=>(a.nx.length:Int))) letter)).flatMap λo=>(Ea (aus.map λa=>(a.nx.length:Int)) (aus.zipWith (λa q=>[CN a q.toNat letter]) (Da (aus.map λa=>(a.nx.length:Int)) node))).map λr=>o*Az (aus.map λa=>(a.nx.length:Int))+r:=by
 have h:∀w∈aus.map (λa=>(a.nx.length:Int)),0<w:=λw g=>by
  obtain⟨a,ha,rfl⟩:=d8.1 g;have:=AS (b.au a ha);omega
 unfold Ig;rw[PK (JV b (Nw b node) f d),Te,Nu _ _ _ h];have c:=Qu b.ps b.np f d (node / Az (aus.map λa=>(a.nx.length:Int)))
 have e:Qr ⟨l,aus,st,ls,kd,gl⟩ (Da (l.map (·.st)) (node / Az (aus.map λa=>(a.nx.length:Int)))++Da (aus.map λa=>(a.nx.length:Int)) node) letter=Xc l (node / Az (aus.map λa=>(a.nx.length:Int))) letter++aus.zipWith (λa q=>[CN a q.toNat letter]) (Da (aus.map λa=>(a.nx.length:Int)) node):=by
  unfold Qr Xc
  have i:(Da (l.map (·.st)) (node / Az (aus.map λa=>(a.nx.length:Int)))).length=l.length:=by rw[Nv];simp
  simp only;rw[List.drop_append_of_le_length (by omega),mN (by omega),nV];congr 1;rw[Fy,List.take_append_of_le_length (by omega),lF (by omega)]
 rw[e,Zl c]
theorem Lh:∀(zs:List Int) (k:Nat),EG zs (List.replicate k 0) 0=0
 | [],k=>by simp[EG]
 | z::zs,0=>by simp[EG]
 | z::zs,k+1=>by
  rw[oV];simp only[EG,Int.zero_mul,Int.add_zero];exact Lh zs k
theorem Sm{a:Int}(ha:Bn a=true):Fp .i64 0 a=a/\Fp .i64 a 0=a:=by
 unfold Bn at ha;simp only[decide_eq_true_eq]at ha;have d:=MX (a:=0) (b:=a.toNat) (by omega) (by omega);have c:=MX (a:=a.toNat) (b:=0) (by omega) (by omega)
 have e:((a.toNat:Nat):Int)=a:=by omega
 rw[e]at d c;have f:(((0:Nat)):Int)=0:=rfl;rw[f]at d c;rw[Nat.zero_or]at d;rw[Nat.or_zero]at c;exact⟨by rw[d.1];exact e,by rw[c.1];exact e⟩
theorem Ur{l:List Sys}(h:AY l=true):Bn (Bz l)=true:=by
 unfold Bz;rw[if_pos h];unfold AY at h;rw[d4]at h;exact Ms h.2 rfl
theorem Zz{s:Sys}{a p:A5}(h:BQ s a p=true):Cs (gI [s] a p (Ac (Fp .i64 (Bz [s]) a.al)))=Cs (Jc (Dq s a p)):=by
 obtain⟨i,hk,d⟩:=QQ h;have c:=h;unfold BQ at c;simp only[d4]at c;obtain⟨⟨hs,ha⟩,m⟩:=c;have n:=Ce ha;have k:=Ce m
 have b:Bz [s]=s.al:=by
  have:AY [s]=true:=by simp[AY,hs]
  unfold Bz;rw[if_pos this];exact(Sm (AE hs).1).1
 refine Nk (CQ.congr (QA i d) ?_ ?_ (λx j l f=>?_) (λx j=>?_) (C6 _))
 ·show Ac (Fp .i64 s.al a.al)=Ac (Fp .i64 (Bz [s]) a.al)
  rw[b]
 ·exact Lh (AG (Dq s a p)) 3
 ·have f:=Ai (show l∈AK (Fp .i64 s.al a.al) 6 from f)
  show Ig (Dq s a p) (AG (Dq s a p)) (Da (AG (Dq s a p)) x) l=Iq [s] a p x l
  have e:=Kr (l:=[s]) (aus:=[a,p]) (st:=[0,0,0]) (ls:=Fp .i64 s.al a.al) (kd:=2) (gl:=0) i (node:=x) f.1 (by omega);refine Eq.trans e ?_;unfold Iq Fc;simp only[mP,pj,Az,Int.mul_one,Da,List.zipWith_cons_cons,List.zipWith_nil_left,Ea,nK,List.flatMap_nil,mq,Int.ediv_one,Int.add_zero]
  have g:x / p.nx.length / a.nx.length=x / (a.nx.length*p.nx.length):=by rw[og (by omega),n8]
  rw[g,List.map_eq_flatMap];congr 1;funext o;rw[ng]
 ·show NI (Dq s a p) (Da (AG (Dq s a p)) x) (fL (Dq s a p) x.toNat)=Mi a p x
  unfold NI bF Mi;simp[Dq,AG,Da,Az,List.getD]
theorem Zy{l:List Sys}{p:A5}(h:(AY l && AJ p)=true):Cs (gI l ME p (Ac (Fp .i64 (Bz l) ME.al)))=Cs (Jc (CC l p)):=by
 obtain⟨g,hk,c⟩:=QP h;rw[d4]at h;obtain⟨s,r⟩:=h;have n:=Ce r;refine Nk (CQ.congr (QA g c) ?_ ?_ (λx j m d=>?_) (λx j=>?_) (C6 _))
 ·show Ac (Bz l)=Ac (Fp .i64 (Bz l) 0)
  rw[(Sm (Ur s)).2]
 ·exact Lh (AG (CC l p)) (l.length+1)
 ·have d:=Ai (show m∈AK (Bz l) 6 from d)
  show Ig (CC l p) (AG (CC l p)) (Da (AG (CC l p)) x) m=Iq l ME p x m
  have e:=Kr (l:=l) (aus:=[p]) (st:=List.replicate (l.length+1) 0) (ls:=Bz l) (kd:=3) (gl:=0) g (node:=x) d.1 (by omega);refine Eq.trans e ?_
  have f:∀q:Nat,CN ME q m=q:=λq=>by
   have:AT 0 m.toNat=false:=by
    have u:m=0\/m=1\/m=2\/m=3\/m=4\/m=5:=by omega
    rcases u with rfl|rfl|rfl|rfl|rfl|rfl<;>decide
   unfold CN;rw[if_neg]
   show ¬AT 0 m.toNat=true
   rw[this];simp
  have b:((ME.nx.length:Nat):Int)=1:=rfl;unfold Iq Fc;rw[f,b];simp only[mP,pj,Az,Int.mul_one,Da,List.zipWith_cons_cons,List.zipWith_nil_left,Ea,nK,List.flatMap_nil,mq,Int.ediv_one,Int.add_zero,Int.emod_one];generalize Ea (l.map (·.st)) (Xc l (x / p.nx.length) m)=LL;rw[List.map_eq_flatMap];congr 1;funext o;simp
 ·show NI (CC l p) (Da (AG (CC l p)) x) (fL (CC l p) x.toNat)=Mi ME p x
  have b:((ME.nx.length:Nat):Int)=1:=rfl;have t:=Nu (l.map (·.st)) [(p.nx.length:Int)] x (by intro w k;simp at k;omega);have i:AG (CC l p)=l.map (·.st)++[(p.nx.length:Int)]:=rfl
  have a:(Da (l.map (·.st)) (x / Az [(p.nx.length:Int)])).length=l.length:=by rw[Nv];simp
  rw[i,t];generalize Da (l.map (·.st)) (x / Az [(p.nx.length:Int)])=dd at a
  have hg:(dd++Da [(p.nx.length:Int)] x).getD (l.length+0) 0=x%p.nx.length:=by
   rw[List.getD,nO,f9 (by omega),a];simp[Da,Az]
  unfold NI bF Mi;rw[b];have z:(CC l p).kd=3:=rfl;have y:(CC l p).ps=l:=rfl;have v:(CC l p).au=[p]:=rfl;rw[z,y,v,hg];simp[ME,List.getD]
end Go.Am
namespace Go.Am
open Go Go.Proofs
set_option maxHeartbeats 1000000
set_option maxRecDepth 4000
attribute [local irreducible] A1 Cr Lex Bs Aj Spec
variable {TB:BA}
theorem Db[CG TB](l:List Sys)(p:A5):Pure Tryz.prog TB 42 [GM l,Bp p] (Nx (Cn l p)):=by
 by_cases c:(AY l && AJ p)=true
 ·have b:Cn l p=Cs (Jc (CC l p)):=by unfold Cn;rw[if_pos c]
  rw[b,<-Zy c];rw[d4]at c;have e:=MJ (TB:=TB) l p c.1 c.2;refine eN Tryz.func42 rfl (by kernel_rfl) rfl ?_;intro Γ d;(repeat' first|refine tA rfl ?_|refine s2 rfl λ_ a=>?_|(refine sC rfl (Gf l) ?_;intro _ a)|(refine sC rfl (AL p) ?_;intro _ a)|refine sP rfl (e) rfl ?_|refine s3 rfl ?_ ?_<;>rintro rfl|refine aU rfl ?_|apply Aa|(refine aC rfl ?_ ?_<;>rintro⟨⟩)|apply aK|apply aE|apply aB|refine aR ⟨_,rfl,?_⟩)
  all_goals first
   | rfl
   | (exfalso;grind;done)
 ·have b:Cn l p=none:=by unfold Cn;rw[if_neg c]
  rw[b];refine eN Tryz.func42 rfl (by kernel_rfl) rfl ?_;intro Γ d;(repeat' first|refine tA rfl ?_|refine s2 rfl λ_ a=>?_|(refine sC rfl (Gf l) ?_;intro _ a)|(refine sC rfl (AL p) ?_;intro _ a)|refine s3 rfl ?_ ?_<;>rintro rfl|refine aU rfl ?_|apply Aa|(refine aC rfl ?_ ?_<;>rintro⟨⟩)|apply aK|apply aE|apply aB|refine aR ⟨_,rfl,?_⟩)
  all_goals first
   | rfl
   | (exfalso;grind;done)
theorem EJ[CG TB](s:Sys)(a p:A5):Pure Tryz.prog TB 69 [Bi s,Bp a,Bp p] (Nx (Dt s a p)):=by
 by_cases c:BQ s a p=true
 ·have d:Dt s a p=Cs (Jc (Dq s a p)):=by unfold Dt;rw[if_pos c]
  rw[d,<-Zz c];unfold BQ at c;simp only[d4]at c;have f:=ND (TB:=TB) [s] a p (by simp[AY,c.1.1]) c.1.2 c.2;refine eN Tryz.func69 rfl (by kernel_rfl) rfl ?_;intro Γ e;(repeat' first|refine tA rfl ?_|refine s2 rfl λ_ b=>?_|(refine sC rfl (Bh s) ?_;intro _ b)|(refine sC rfl (AL a) ?_;intro _ b)|(refine sC rfl (AL p) ?_;intro _ b)|refine sP rfl (f) rfl ?_|refine s3 rfl ?_ ?_<;>rintro rfl|refine aU rfl ?_|apply Aa|(refine aC rfl ?_ ?_<;>rintro⟨⟩)|apply aK|apply aE|apply aB|refine aR ⟨_,rfl,?_⟩)
  all_goals first
   | rfl
   | (exfalso;grind;done)
 ·have d:Dt s a p=none:=by unfold Dt;rw[if_neg c]
  rw[d];refine eN Tryz.func69 rfl (by kernel_rfl) rfl ?_;intro Γ e;(repeat' first|refine tA rfl ?_|refine s2 rfl λ_ b=>?_|(refine sC rfl (Bh s) ?_;intro _ b)|(refine sC rfl (AL a) ?_;intro _ b)|(refine sC rfl (AL p) ?_;intro _ b)|refine s3 rfl ?_ ?_<;>rintro rfl|refine aU rfl ?_|apply Aa|(refine aC rfl ?_ ?_<;>rintro⟨⟩)|apply aK|apply aE|apply aB|refine aR ⟨_,rfl,?_⟩)
  all_goals first
   | rfl
   | (exfalso;unfold BQ at c;grind;done)
theorem Lp[CG TB](l:List Sys)(p:A5):Pure Tryz.prog TB 18 [GM l,Bp p] (eB (Dm l p)):=by
 refine eN Tryz.func18 rfl (by kernel_rfl) rfl ?_;intro Γ b;(repeat' first|refine tA rfl ?_|refine s2 rfl λ_ a=>?_|refine sP rfl (Db l p) rfl ?_|(refine sC rfl (Gf l) ?_;intro _ a)|(refine sC rfl (AL p) ?_;intro _ a)|refine s3 rfl ?_ ?_<;>rintro rfl|refine aU rfl ?_|apply Aa|(refine aC rfl ?_ ?_<;>rintro⟨⟩)|apply aK|apply aE|apply aB|refine aR ⟨_,rfl,?_⟩)
 all_goals (show E.o _=E.o _;congr;unfold Dm;grind)
theorem J5[CG TB](s:Sys)(a p:A5):Pure Tryz.prog TB 40 [Bi s,Bp a,Bp p] (eB (Gw s a p)):=by
 refine eN Tryz.func40 rfl (by kernel_rfl) rfl ?_;intro Γ c;(repeat' first|refine tA rfl ?_|refine s2 rfl λ_ b=>?_|refine sP rfl (EJ s a p) rfl ?_|(refine sC rfl (Bh s) ?_;intro _ b)|(refine sC rfl (AL a) ?_;intro _ b)|(refine sC rfl (AL p) ?_;intro _ b)|refine s3 rfl ?_ ?_<;>rintro rfl|refine aU rfl ?_|apply Aa|(refine aC rfl ?_ ?_<;>rintro⟨⟩)|apply aK|apply aE|apply aB|refine aR ⟨_,rfl,?_⟩)
 all_goals (show E.o _=E.o _;congr;unfold Gw BQ;grind)
theorem Ic[CG TB](s:Sys)(p:A5):Pure Tryz.prog TB 41 [Bi s,Bp p] (eB (Dm [s] p)):=by
 refine eN Tryz.func41 rfl (by kernel_rfl) rfl ?_;intro Γ a;(repeat' first|refine tA rfl ?_|refine sP rfl (Lp [s] p) rfl ?_|refine aU rfl ?_|apply Aa|(refine aC rfl ?_ ?_<;>rintro⟨⟩)|apply aK|apply aE|apply aB|refine aR ⟨_,rfl,?_⟩)
 all_goals rfl
theorem FM(s:Sys)(p:A5)(t:Sys):Pure Tryz.prog TB 39 [Bi s,Bp p,Bi t] (eI .i64 (A7 s p t)):=by
 refine eN Tryz.func39 rfl (by kernel_rfl) rfl ?_;intro Γ b;(repeat' first|refine tA rfl ?_|refine s2 rfl λ_ a=>?_|(refine sC rfl (Bh s) ?_;intro _ a)|(refine sC rfl (AL p) ?_;intro _ a)|(refine sC rfl (Bh t) ?_;intro _ a)|refine s3 rfl ?_ ?_<;>rintro rfl|refine aU rfl ?_|apply Aa|(refine aC rfl ?_ ?_<;>rintro⟨⟩)|apply aK|apply aE|apply aB|refine aR ⟨_,rfl,?_⟩)
 all_goals (show E.o _=E.o _;congr;unfold A7;grind)
theorem QD[CG TB](s t:Sys)(p a:A5):Pure Tryz.prog TB 17 [Bi s,Bi t,Bp p,Bp a] (eI .i64 (DH s t p a)):=by
 refine eN Tryz.func17 rfl (by kernel_rfl) rfl ?_;intro Γ c;(repeat' first|refine tA rfl ?_|refine s2 rfl λ_ b=>?_|refine sP rfl (FM s p t) rfl ?_|(refine sC rfl (AL a) ?_;intro _ b)|(refine sC rfl (J5 s a p) ?_;intro _ b)|(refine sC rfl (Ic t a) ?_;intro _ b)|refine s3 rfl ?_ ?_<;>rintro rfl|refine aU rfl ?_|apply Aa|(refine aC rfl ?_ ?_<;>rintro⟨⟩)|apply aK|apply aE|apply aB|refine aR ⟨_,rfl,?_⟩)
 all_goals (show E.o _=E.o _;congr;unfold DH;grind)
abbrev Tl(t:A9):List D:=[CE t.rows,CE t.cols]
abbrev HX(t:A9):E:=.a [.d (CE t.rows),.d (CE t.cols)]
abbrev HW(al:Int)(c:C):E:=.a [.d (iD al),c]
mutual
theorem EA:∀(c:C),c.BY=true->∀r,c.A3 r=c
 | .d x,_,r=>rfl
 | .fn g cap,h,r=>by
  simp only[C.BY]at h;simp only[C.A3,Oo cap h r]
 | .arr ..,h,_=>by cases h
 | .ptr ..,h,_=>by cases h
 | .mp ..,h,_=>by cases h
 | .mv g l,h,r=>by
  simp only[C.BY]at h;simp only[C.A3,Oo l h r]
theorem Oo:∀(l:List C),C.C7 l=true->∀r,C.Ch r l=l
 | [],_,r=>rfl
 | c::l,h,r=>by
  simp only[C.C7,d4]at h;simp only[C.Ch,EA c h.1 r,Oo l h.2 r]
end
structure IY (P:Program) (TB:BA) (c:C) (L:W->Bool) (ok:W->Prop):Prop where
 BY:c.BY=true
 ask:∀ {Γ:Ctx} {d:Option Tmp} {ty:TypeId} {pos:String} {af:Array Edge} {g:Option (Nat×Bool)} {f:Env} {σ:Ab} {nx:Nat} {x a:Operand} {tys:Array TypeId} {w:W},
  ev f x=some (.o c)->ev f a=some (eT w)->ok w->A1 P TB Γ ⟨d,.call ⟨.value x,#[a],tys⟩,ty,pos,af,g⟩ f σ nx (eB (L w))
def Sy(L:W->Bool)(cols:List W)(w:W)(k:Nat)(i:Nat):UInt8:=if i<k then Uk (L (w++cols.getD i [])) else 0
theorem Ui(L:W->Bool)(cols:List W)(w:W):(BF cols.length λi=>Fo (Sy L cols w cols.length i))=(marks L cols w).map Fo:=by
 apply nf;intro i;by_cases h:i<cols.length
 ·rw[Dz h]
  simp[marks,Sy,h]
 ·rw[lV (by simp[BF];omega),lV (by simp[marks];omega)]
theorem jR:Fo 0=[C.d (D.v (Value.int IntKind.u8 0))]:=rfl
theorem iu(L:W->Bool)(cols:List W)(w:W)(n:Nat):(BF n λi=>Fo (Sy L cols w 0 i))=List.replicate n (Fo 0):=by
 apply nf;intro i;by_cases h:i<n
 ·rw[Dz h];simp[Sy,h]
 ·rw[lV (by simp[BF];omega),lV (by simp;omega)]
theorem Zq{L:W->Bool}{cols:List W}{w x:W}{k:Nat}(b:cols[k]?=some x):(BF cols.length λi=>Fo (if i=k then Uk (L (w++x)) else Sy L cols w k i))=BF cols.length λi=>Fo (Sy L cols w (k+1) i):=by
 refine CZ λi _=>?_;congr 1;unfold Sy;by_cases h:i=k
 ·subst h
  rw[if_pos rfl,if_pos (by omega)];simp[b]
 ·rw[if_neg h]
  by_cases a:i<k
  ·rw[if_pos a,if_pos (by omega)]
  ·rw[if_neg a,if_neg (by omega)]
theorem Kl{c:C}{L:W->Bool}{ok:W->Prop}(B:IY Tryz.prog TB c L ok)(al:Int)(t:A9)(w:W)(I:t.cols.length<=1048576)(hk:∀x∈t.cols,ok (w++x))(hb:∀x∈t.cols,w.length+x.length<=1048576) :
 Pure Tryz.prog TB 132 [HW al c,HX t,eT w] (eT (marks L t.cols w)):=by
 have y:=EA c B.BY;refine eN Tryz.func132 rfl (by kernel_rfl) rfl ?_;intro Γ b;(repeat first|refine aU rfl ?_);(refine pW rfl ?_ rfl (by rfl);refine CY rfl rfl ?_);(refine Ag rfl ?_;refine CO (λ_ _=>Ec rfl rfl rfl) rfl ?_);(repeat first|refine sN rfl ?_|refine tM rfl ?_|refine aU rfl ?_|apply Aa);(refine pW rfl ?_ rfl (by rfl);refine Un rfl rfl (by rfl) (by rfl) (ce rfl) (by omega) (by omega) (by omega) ?_);(repeat first|refine sN rfl ?_|refine tM rfl ?_|refine aU rfl ?_|apply Aa);apply aB;refine Aj.BC (α:={k:Nat // k<=t.cols.length}) (λ⟨k,j⟩=>[(2,eT w),(3,.o (.ptr 0 2 0 0)),(7,.o (.arr 1 1 0 t.cols.length)),(15,.o (.d (CE t.cols))),(16,eI .i64 t.cols.length),(17,eI .i64 k)]) (λ⟨k,j⟩=>[(1,.cells 5 1 (BF t.cols.length λi=>Fo (Sy L t.cols w k i))),(0,.cells 102 2 [[.d (iD al),c]])]) 2 (λ⟨k,j⟩=>t.cols.length-k) (⟨0,by omega⟩) [0,1] (GX b rfl rfl) (by (simp[cX,zC,b,Oq,y,iu,eC,GW,jR])) ?_;rintro⟨k,j⟩;(try dsimp only);(repeat first|refine s2 rfl λ_ r=>?_|refine aU rfl ?_|apply Aa);(refine aC rfl ?_ ?_<;>rintro⟨⟩)
 ·have f:k<t.cols.length:=by (simp only[oZ] at *;omega)
  obtain⟨x,u⟩:=get_some (l:=t.cols) (k:=k) f;have G:=get_map (g:=FX) u;have s:=co u;have F:=hb x s;have z:=hk x s;have hg:=JZ (H:=Sy L t.cols w k) (q:=k) (n:=t.cols.length) f;have e:(BF t.cols.length λi=>Fo (Sy L t.cols w k i)).set (0+((k:Nat):Int).toNat) (Ae (Fo (Sy L t.cols w k k)) 0 (eC (eI .u8 45)))=BF t.cols.length λi=>Fo (if i=k then 45 else Sy L t.cols w k i):=Nd (c:=45);have A:=JZ (H:=λi=>if i=k then 45 else Sy L t.cols w k i) (q:=k) (n:=t.cols.length) f;rw[<-e]at A
  have v:(BF t.cols.length λi=>Fo (if i=k then 45 else Sy L t.cols w k i)).set (0+((k:Nat):Int).toNat) (Ae (Fo (if k=k then 45 else Sy L t.cols w k k)) 0 (eC (eI .u8 43)))=BF t.cols.length λi=>Fo (if i=k then 43 else Sy L t.cols w k i):=by
   refine(Nd (H:=λi=>if i=k then 45 else Sy L t.cols w k i) (c:=43)).trans ?_;refine CZ λi _=>?_;by_cases h:i=k<;>simp[h]
  have a:=Zq (L:=L) (w:=w) u;apply aK;refine aS (aB ?_);(repeat first|((first|refine sM rfl ?_ ?_|refine s4 rfl ‹_› rfl ?_ ?_);first|exact tI|omega)|(refine Ag rfl ?_;refine gA rfl ?_;first|(refine gB (λ_ _=>B.ask rfl rfl z) ?_;intro _ r))|refine aU rfl ?_|apply Aa);(refine aC rfl ?_ ?_<;>rintro⟨⟩)
  ·(repeat first|(refine sM rfl ?_ ?_;first|exact tI|omega)|refine t4 rfl ‹_› rfl ?_|refine aU rfl ?_|apply Aa)
   refine⟨⟨k+1,by omega⟩,by dsimp only;(omega),[0,1],?_⟩;rw[e,v];rw[r]at a;have p:Uk true=43:=rfl;have m:Uk false=45:=rfl;simp only[p,m]at a;simp[cX,zC,b,Oq,y,a]
  ·apply aK
   (repeat first|(refine sM rfl ?_ ?_;first|exact tI|omega)|refine aU rfl ?_|apply Aa);refine⟨⟨k+1,by omega⟩,by dsimp only;(omega),[0,1],?_⟩;rw[e];rw[r]at a;have p:Uk true=43:=rfl;have m:Uk false=45:=rfl;simp only[p,m]at a;simp[cX,zC,b,Oq,y,a]
 ·obtain rfl:k=t.cols.length:=by (simp only[oZ] at *;omega)
  rw[Ui];apply aE;(repeat first|refine tM rfl ?_|(refine Ag rfl ?_;refine gA rfl ?_;first|refine gQ (Rq (marks L t.cols w) rfl rfl (by simp[marks]) (by rw[mD,lF (by simp[marks])])) (by rfl) ?_)|refine aU rfl ?_|apply Aa);refine aR ⟨_,rfl,rfl⟩
def BP(L:W->Bool)(t:A9):Nat->List (W×Int)
 | 0=>[]
 | k+1=>if (CB (BP L t k) (marks L t.cols (t.rows.getD k []))).isSome then BP L t k else BP L t k++[(marks L t.cols (t.rows.getD k []),(k:Int))]
structure X9 (ok:W->Prop) (t:A9):Prop where
 ok:∀w∈t.rows,∀x∈t.cols,ok (w++x)
 rb:∀w∈t.rows,w.length<=65536
 cb:∀x∈t.cols,x.length<=65536
 rl:t.rows.length<=4096
 cl:t.cols.length<=4096
theorem Gz{c:C}{L:W->Bool}{ok:W->Prop}(r:IY Tryz.prog TB c L ok)(al:Int)(t:A9)(ht:X9 ok t) :
 Spec Tryz.prog TB 131 [] 0 [HW al c,HX t] (λx σ nx=>x=.o (.mp 0)/\nx=1/\σ=[(0,.mp (HN (BP L t t.rows.length)))]):=by
 have n:=EA c r.BY;have w:=ht.rl;refine eN Tryz.func131 rfl (by kernel_rfl) rfl ?_;intro Γ b;(repeat first|refine aU rfl ?_);(refine pW rfl ?_ rfl (by rfl);refine CY rfl rfl ?_);(refine Ag rfl ?_;refine CO (λ_ _=>Ec rfl rfl rfl) rfl ?_);(repeat first|refine tM rfl ?_|refine aU rfl ?_|apply Aa);(refine pW rfl ?_ rfl (by rfl);refine PM ?_);(repeat first|refine sN rfl ?_|refine tM rfl ?_|refine aU rfl ?_|apply Aa);apply aB;refine Aj.BC (α:={k:Nat // k<=t.rows.length}) (λ⟨k,e⟩=>[(2,.o (.ptr 0 2 0 0)),(3,.o (.ip (Tl t))),(5,.o (.mp 1)),(13,.o (.d (CE t.rows))),(14,eI .i64 t.rows.length),(15,eI .i64 k)]) (λ⟨k,e⟩=>[(1,.mp (HN (BP L t k))),(0,.cells 102 2 [[.d (iD al),c]])]) 2 (λ⟨k,e⟩=>t.rows.length-k) (⟨0,by omega⟩) [0,1] (GX b rfl rfl) (by (simp[cX,zC,b,n,eC,BP,HN])) ?_;rintro⟨k,e⟩;(try dsimp only);(repeat first|refine s2 rfl λ_ f=>?_|refine aU rfl ?_|apply Aa);(refine aC rfl ?_ ?_<;>rintro⟨⟩)
 ·have p:k<t.rows.length:=by (simp only[oZ] at *;omega)
  obtain⟨x,m⟩:=get_some (l:=t.rows) (k:=k) p;have v:=get_map (g:=FX) m;have h:=co m;have u:=ht.rb x h;have z:=Kl r al t x (by have:=ht.cl;omega) (ht.ok x h) (λy s=>by have:=ht.cb y s;omega)
  have q:t.rows.getD k []=x:=by simp[m]
  have a:BP L t (k+1)=if (CB (BP L t k) (marks L t.cols x)).isSome then BP L t k else BP L t k++[(marks L t.cols x,(k:Int))]:=by
   rw[BP,q]
  apply aK;refine aS (aB ?_);(repeat first|refine tM rfl ?_|(refine s4 rfl ‹_› rfl ?_ ?_;omega)|refine s2 rfl λ_ f=>?_|(refine Ag rfl ?_;refine gA rfl ?_;first|refine gS (λ_ _=>Be rfl rfl (by simp[E.BY,C.C7,C.BY,r.BY]) z rfl) ?_|refine gQ (ZZ rfl rfl rfl) (by rfl) ?_)|refine aU rfl ?_|apply Aa);(refine aC rfl ?_ ?_<;>rintro⟨⟩)
  ·have j:CB (BP L t k) (marks L t.cols x)=none:=by simpa using f
   rw[j]at a;(repeat first|refine tM rfl ?_|refine aU rfl ?_);(refine Ag rfl ?_;refine HJ ?_ rfl (by rfl);refine iv rfl rfl rfl rfl j ?_);(repeat first|(refine sM rfl ?_ ?_;first|exact tI|omega)|refine aU rfl ?_|apply Aa);refine⟨⟨k+1,by omega⟩,by dsimp only;(omega),[0,1],?_⟩;simp[cX,zC,b,n,a]
  ·have j:(CB (BP L t k) (marks L t.cols x)).isSome=true:=by simpa using f
   rw[if_pos j]at a;apply aK;(repeat first|(refine sM rfl ?_ ?_;first|exact tI|omega)|refine aU rfl ?_|apply Aa);refine⟨⟨k+1,by omega⟩,by dsimp only;(omega),[0,1],?_⟩;simp[cX,zC,b,n,a]
 ·obtain rfl:k=t.rows.length:=by (simp only[oZ] at *;omega)
  apply aE;(repeat first|refine tM rfl ?_|refine aU rfl ?_|apply Aa);refine Aj.names [1] [(4,.o (.mp 0))] [(0,.mp (HN (BP L t t.rows.length)))] (by intro i hi;rw[b]at hi;omega) (by simp) (by simp[cX,zC,b]) (by simp[cX,zC,b]) ?_;refine aR ⟨_,rfl,rfl,rfl,rfl⟩
theorem Xh(l:List (W×Int))(p:W×Int)(s:W):CB (l++[p]) s=(CB l s).or (if p.1=s then some p.2 else none):=by
 unfold CB;rw[pf]
 cases h:l.find? (λp=>decide (p.1=s)) with
 | some q=>simp
 | none=>by_cases a:p.1=s<;>simp[a]
theorem Ov{L:W->Bool}{t:A9}{k:Nat}(h:k<t.rows.length):(AW L t)[k]?=some (marks L t.cols (t.rows.getD k [])):=by
 simp[AW,h]
theorem PO(L:W->Bool)(t:A9):∀k,k<=t.rows.length->∀s,CB (BP L t k) s=if s∈(AW L t).take k then some (((AW L t).idxOf s:Nat):Int) else none
 | 0,_,s=>by simp[BP,CB]
 | k + 1, hk, s=>by
  have c:=PO L t k (by omega);have d:=Ov (L:=L) (t:=t) (k:=k) (by omega);generalize marks L t.cols (t.rows.getD k [])=x at *
  have g:BP L t (k+1)=if (CB (BP L t k) x).isSome then BP L t k else BP L t k++[(x,(k:Int))]:=by
   have b:=Ov (L:=L) (t:=t) (k:=k) (by omega);rw[d]at b
   injection b with b
   rw[BP,<-b]
  have a:∀s,s∈(AW L t).take (k+1)↔s∈(AW L t).take k\/s=x:=λs=>by
   rw[gt,d];simp
  rw[g];by_cases f:x∈(AW L t).take k
  ·rw [if_pos (by rw[c x,if_pos f];rfl),c s]
   by_cases hs:s∈(AW L t).take k
   ·rw[if_pos hs,if_pos ((a s).2 (.inl hs))]
   ·rw[if_neg hs,if_neg]
    intro h
    rcases(a s).1 h with h|h
    ·exact hs h
    ·subst h;exact hs f
  ·rw [if_neg (by rw[c x,if_neg f];simp),Xh,c s]
   by_cases hs:s∈(AW L t).take k
   ·rw[if_pos hs,if_pos ((a s).2 (.inl hs))];rfl
   ·rw [if_neg hs]
    by_cases l:x=s
    ·subst l
     rw[if_pos ((a x).2 (.inr rfl))]
     have j:(AW L t).idxOf x=k:=by
      have m:k<(AW L t).length:=(am.1 d).1
      have e:AW L t=(AW L t).take k++x::(AW L t).drop (k+1):=by
       rw[<-BE d,mx]
      rw[e,pg,if_neg f,oS];simp;omega
     simp[j]
    ·have i:s∉(AW L t).take (k+1):=λh=>by
      rcases(a s).1 h with h|h
      ·exact hs h
      ·exact l h.symm
     rw[if_neg i];simp[l]
theorem SB{L:W->Bool}{t:A9}{s:W}:CB (BP L t t.rows.length) s=if s∈AW L t then some (((AW L t).idxOf s:Nat):Int) else none:=by
 have h:=PO L t t.rows.length (i9 _) s;have e:(AW L t).take t.rows.length=AW L t:=lF (by simp[AW]);rwa[e]at h
theorem cS{L:W->Bool}{ls:List UInt8}{t:A9}{k j:Nat}{r:W}{l:UInt8}(e:t.rows[k]?=some r)(f:ls[j]?=some l)(n:∀w∈C4 ls (t.rows.take k),marks L t.cols w∈AW L t)(m:∀x∈ls.take j,marks L t.cols (r++[x])∈AW L t)
 (i:marks L t.cols (r++[l])∉AW L t):Bx L ls t=some (r++[l]):=by
 have q:t.rows=t.rows.take k++r::t.rows.drop (k+1):=by
  rw[<-BE e,mx]
 have p:ls=ls.take j++l::ls.drop (j+1):=by
  rw[<-BE f,mx]
 have o:C4 ls t.rows=C4 ls (t.rows.take k)++((ls.take j).map (λx=>r++[x])++(r++[l])::((ls.drop (j+1)).map (λx=>r++[x])++C4 ls (t.rows.drop (k+1)))):=by
  have h:C4 ls t.rows=C4 ls (t.rows.take k++r::t.rows.drop (k+1)):=congrArg _ q;rw[h];unfold C4;rw[List.flatMap_append,nK];have g:ls.map (λx=>r++[x])=(ls.take j++l::ls.drop (j+1)).map (λx=>r++[x]):=congrArg _ p;rw[g];simp
 unfold Bx;rw[o,pf,pf]
 have c:(C4 ls (t.rows.take k)).find? (λw=>!(AW L t).contains (marks L t.cols w))=none:=nG.2 λw a=>by simpa using n w a
 have b:((ls.take j).map (λx=>r++[x])).find? (λw=>!(AW L t).contains (marks L t.cols w))=none:=nG.2 λw a=>by
  obtain⟨x,d,rfl⟩:=d8.1 a
  simpa using m x d
 rw[c,b];simp[i]
def lb(l:Int):UInt8:=UInt8.ofNat (97+l.toNat)
def Bg(al:Int):List UInt8:=(Ac al).map lb
def g8(o:Option W):E:=match o with
 | some w=>.t [(false,[.d (tD w)]),(false,[.d (bD true)])]
 | none=>.t [(false,[.d (tD [])]),(false,[.d (bD false)])]
theorem Zk{l:Int}(a:0<=l):UInt8.ofNat (97+l).toNat=lb l:=by
 unfold lb;congr 1;omega
theorem Sg{L:W->Bool}{t:A9}{s:W}:(CB (BP L t t.rows.length) s).isSome=true↔s∈AW L t:=by
 rw[SB];by_cases h:s∈AW L t<;>simp[h]
theorem Uo{ls:List UInt8}{t:A9}{k:Nat}{r:W}(h:t.rows[k]?=some r):C4 ls (t.rows.take (k+1))=C4 ls (t.rows.take k)++ls.map λl=>r++[l]:=by
 unfold C4;rw[gt,h];simp
theorem Qz{c:C}{L:W->Bool}{ok:W->Prop}(G:IY Tryz.prog TB c L ok)(al:Int)(t:A9)(ht:X9 ok t)(T:∀w∈t.rows,∀l∈Bg al,∀x∈t.cols,ok (w++[l]++x)) :
 Pure Tryz.prog TB 179 [HW al c,HX t] (g8 (Bx L (Bg al) t)):=by
 have v:=EA c G.BY;have S:=ht.rl;have V:(Ac al).length<=6:=AQ al 6;refine eN Tryz.func179 rfl (by kernel_rfl) rfl ?_;intro Γ b;(repeat first|refine aU rfl ?_);(refine pW rfl ?_ rfl (by rfl);refine CY rfl rfl ?_);(refine Ag rfl ?_;refine CO (λ_ _=>Ec rfl rfl rfl) rfl ?_);(repeat first|refine tM rfl ?_|refine aU rfl ?_|apply Aa);(refine pW rfl ?_ rfl (by rfl);refine Af [] rfl rfl (Gz G al t ht) ⟨rfl,by simp,by simp⟩ (by simp[Ey,E.A3,C.Ch,C.A3,v,eC]) trivial ?_;rintro Y M N ⟨rfl,rfl,rfl⟩ _);(repeat first|refine sN rfl ?_|refine tM rfl ?_|refine aU rfl ?_|apply Aa);apply aB;refine Aj.BC (α:={k:Nat // k<=t.rows.length/\∀w∈C4 (Bg al) (t.rows.take k),marks L t.cols w∈AW L t}) (λ⟨k,p,e⟩=>[(2,.o (.ptr 0 2 0 0)),(3,.o (.ip (Tl t))),(6,.o (.mp 1)),(18,.o (.d (CE t.rows))),(19,eI .i64 t.rows.length),(20,eI .i64 k)]) (λ⟨k,p,e⟩=>[(1,.mp (HN (BP L t t.rows.length))),(0,.cells 102 2 [[.d (iD al),c]])]) 2 (λ⟨k,p,e⟩=>t.rows.length-k) (⟨0,by omega,by simp[C4]⟩) [0,1] (GX b rfl rfl) (by (simp[cX,zC,b,v,eC,Ab.A3,BW,HO])) ?_;rintro⟨k,p,e⟩;(try dsimp only);(repeat first|refine s2 rfl λ_ i=>?_|refine aU rfl ?_|apply Aa);(refine aC rfl ?_ ?_<;>rintro⟨⟩)
 ·have I:k<t.rows.length:=by (simp only[oZ] at *;omega)
  obtain⟨r,a⟩:=get_some (l:=t.rows) (k:=k) I;have R:=get_map (g:=FX) a;have u:=co a;have Q:=ht.rb r u;apply aK;refine aS (aB ?_);(repeat first|refine sN rfl ?_|refine tM rfl ?_|(refine s4 rfl ‹_› rfl ?_ ?_;omega)|refine sP rfl (Cj al) rfl ?_|refine aU rfl ?_|apply Aa);apply aB;refine Aj.BC (α:={j:Nat // j<=(Ac al).length/\∀x∈(Bg al).take j,marks L t.cols (r++[x])∈AW L t}) (λ⟨j,q,f⟩=>[(2,.o (.ptr 0 2 0 0)),(3,.o (.ip (Tl t))),(6,.o (.mp 1)),(18,.o (.d (CE t.rows))),(19,eI .i64 t.rows.length),(20,eI .i64 k),(8,eT r),(26,AX (Ac al)),(27,eI .i64 (Ac al).length),(28,eI .i64 j)]) (λ⟨j,q,f⟩=>[(1,.mp (HN (BP L t t.rows.length))),(0,.cells 102 2 [[.d (iD al),c]])]) 2 (λ⟨j,q,f⟩=>(Ac al).length-j) (⟨0,by omega,by simp⟩) [0,1] (GX b rfl rfl) (by (simp[cX,zC,b,v])) ?_;rintro⟨j,q,f⟩;(try dsimp only);(repeat first|refine s2 rfl λ_ i=>?_|refine aU rfl ?_|apply Aa);(refine aC rfl ?_ ?_<;>rintro⟨⟩)
  ·have B:j<(Ac al).length:=by (simp only[oZ] at *;omega)
   obtain⟨l,K⟩:=get_some (l:=Ac al) (k:=j) B;have X:=get_map (g:=DJ) K;have z:=Ai (co K)
   have n:(Bg al)[j]?=some (lb l):=by simp[Bg,K]
   have J:=co n;have U:=Kl G al t (r++[lb l]) (by have:=ht.cl;omega) (λx a=>T r u _ J x a) (λy P=>by have:=ht.cb y P;simp;omega);apply aK;refine aS (aB ?_);(repeat first|(refine sM rfl ?_ ?_;first|exact tI|omega|simp only[oZ] at *;omega)|(refine s4 rfl ‹_› rfl ?_ ?_;omega)|refine sP rfl (ET l z.1 (by omega)) rfl ?_|(refine Ag rfl ?_;refine gA rfl ?_;first|refine gS (λ_ _=>Uw rfl (by omega) (by omega)) ?_)|refine aU rfl ?_|apply Aa);rw[Zk z.1];(repeat first|refine tM rfl ?_|refine s2 rfl λ_ i=>?_|(refine Ag rfl ?_;refine gA rfl ?_;first|refine gS (λ_ _=>Be rfl rfl (by simp[E.BY,C.C7,C.BY,G.BY]) U rfl) ?_|refine gQ (ZZ rfl rfl rfl) (by rfl) ?_)|refine aU rfl ?_|apply Aa);(refine aC rfl ?_ ?_<;>rintro⟨⟩)
   ·have hno:marks L t.cols (r++[lb l])∉AW L t:=λh=>by
     rw[Sg.2 h]at i;cases i
    (repeat first|refine tM rfl ?_|refine aU rfl ?_|apply Aa);refine aR ⟨_,rfl,?_⟩;rw[cS a n e f hno];rfl
   ·have s:marks L t.cols (r++[lb l])∈AW L t:=Sg.1 (by simpa using i)
    have F:∀x∈(Bg al).take (j+1),marks L t.cols (r++[x])∈AW L t:=λx a=>by
     rw[gt,n]at a
     rcases f6.1 a with a|a
     ·exact f x a
     ·simp at a;subst a;exact s
    apply aK;(repeat first|(refine sM rfl ?_ ?_;first|exact tI|omega)|refine aU rfl ?_|apply Aa);refine⟨⟨j+1,by omega,F⟩,by dsimp only;(omega),[0,1],?_⟩;simp[cX,zC,b,v]
  ·obtain rfl:j=(Ac al).length:=by (simp only[oZ] at *;omega)
   have A:∀w∈C4 (Bg al) (t.rows.take (k+1)),marks L t.cols w∈AW L t:=λw m=>by
    rw[Uo a]at m
    rcases f6.1 m with m|m
    ·exact e w m
    ·obtain⟨x,H,rfl⟩:=d8.1 m
     exact f x (by rw[lF (by simp[Bg])];exact H)
   apply aE;(repeat first|(refine sM rfl ?_ ?_;first|exact tI|omega)|refine aU rfl ?_|apply Aa);refine⟨⟨k+1,by omega,A⟩,by dsimp only;(omega),[0,1],?_⟩;simp[cX,zC,b,v]
 ·obtain rfl:k=t.rows.length:=by (simp only[oZ] at *;omega)
  have hno:Bx L (Bg al) t=none:=nG.2 λw m=>by
   have:=e w (by rw[jp];exact m)
   simpa using this
  apply aE;(repeat first|refine tM rfl ?_|refine aU rfl ?_|apply Aa);refine aR ⟨_,rfl,?_⟩;rw[hno];rfl
theorem JW(l:List W)(h:l.length<=1048576):Spec Tryz.prog TB 178 [] 0 [Fi l] (λx σ nx=>x=.o (.arr 0 1 0 l.length)/\nx=1/\σ=[(0,.cells 9 1 (l.map ED))]):=by
 refine eN Tryz.func178 rfl (by kernel_rfl) rfl ?_;intro Γ b;(repeat first|refine aU rfl ?_);(refine Ag rfl ?_;refine CO (λ_ _=>Ew rfl) rfl ?_);(repeat first|refine tM rfl ?_|refine aU rfl ?_|apply Aa);(refine pW rfl ?_ rfl (by rfl);refine Kq rfl ?_;intro e c);(repeat first|apply Aa);(refine aC rfl ?_ ?_<;>rintro⟨⟩)
 ·obtain rfl:l=[]:=by simpa using c rfl
  (repeat first|refine aU rfl ?_);(refine pW rfl ?_ rfl (by rfl);refine Gl 1 9 ?_);(repeat first|apply Aa);refine aR ⟨_,rfl,rfl,rfl,rfl⟩
 ·apply aK
  (repeat first|refine aU rfl ?_);(refine pW rfl ?_ rfl (by rfl);refine Br rfl rfl rfl rfl (by simp) (by rfl) (by rfl) (by rfl) (by rfl) ?_);(repeat first|refine tM rfl ?_);(refine pW rfl ?_ rfl (by rfl);refine Al rfl rfl rfl (by first|(simp;done)|(simp;(omega))) rfl (by intro r d;simp at d;obtain⟨a,_,rfl⟩:=d;rfl) (by rfl) (ce rfl) (by simp;omega) ?_);(repeat first|refine tM rfl ?_|apply Aa);refine Aj.names [1] [(2,.o (.arr 0 1 0 l.length))] [(0,.cells 9 1 (l.map ED))] (by intro i hi;rw[b]at hi;omega) (by simp) (by simp[cX,zC,b]) (by simp[cX,zC,b]) ?_;refine aR ⟨_,rfl,rfl,rfl,rfl⟩
theorem Ze(l:List W)(s:W):Pure Tryz.prog TB 213 [Fi l,eT s] (eI .i64 (if s∈l then (l.idxOf s:Int) else -1)):=by
 refine eN Tryz.func213 rfl (by kernel_rfl) rfl ?_;intro Γ a;refine Aj.bound 0 rfl λi=>?_;have n:=i (l.map FX) .refl;(repeat first|refine sN rfl ?_|refine tM rfl ?_|refine aU rfl ?_|apply Aa);apply aB;refine Aj.BC (α:={k:Nat // k<=l.length/\s∉l.take k}) (λ⟨k,hk,hs⟩=>[(0,Fi l),(1,eT s),(7,eI .i64 l.length),(8,eI .i64 k)]) (λ⟨k,hk,hs⟩=>[]) 0 (λ⟨k,hk,hs⟩=>l.length-k) (⟨0,by omega,by simp⟩) [] (GX a rfl rfl) (by (simp[cX,zC,a])) ?_;rintro⟨k,hk,hs⟩;(try dsimp only);(repeat first|refine s2 rfl λ_ b=>?_|refine aU rfl ?_|apply Aa);(refine aC rfl ?_ ?_<;>rintro⟨⟩)
 ·have f:k<l.length:=by (simp only[oZ] at *;omega)
  obtain⟨x,c⟩:=get_some (l:=l) (k:=k) f;have j:=get_map (g:=FX) c;apply aK;refine aS (aB ?_);(repeat first|refine tM rfl ?_|(refine s4 rfl ‹_› rfl ?_ ?_;omega)|refine s2 rfl λ_ b=>?_|refine aU rfl ?_|apply Aa);(refine aC rfl ?_ ?_<;>rintro⟨⟩)
  ·have h:s=x:=by (simp only[oZ] at *;omega)
   subst h;(repeat first|refine tM rfl ?_|refine aU rfl ?_|apply Aa);refine aR ⟨_,rfl,?_⟩;have m:s∈l:=co c
   have hi:l.idxOf s=k:=by
    have e:l=l.take k++s::l.drop (k+1):=by rw[<-BE c,mx]
    rw[e,pg,if_neg hs,oS];simp;omega
   rw[if_pos m,hi]
  ·have h:¬s=x:=by simpa using b
   have d:s∉l.take (k+1):=by
    rw[gt,c];simp[hs,h]
   apply aK;(repeat first|(refine sM rfl ?_ ?_;first|exact tI|simp only[oZ] at *;omega)|refine aU rfl ?_|apply Aa);refine⟨⟨k+1,by omega,d⟩,by dsimp only;(omega),[],?_⟩;simp[cX,zC,a]
 ·obtain rfl:k=l.length:=by (simp only[oZ] at *;omega)
  rw[jp]at hs;apply aE;(repeat first|refine tM rfl ?_|refine aU rfl ?_|apply Aa);refine aR ⟨_,rfl,?_⟩;rw[if_neg hs]
theorem Mg(l:List W)(s:W):Pure Tryz.prog TB 180 [Fi l,eT s] (eB (decide (s∈l))):=by
 refine eN Tryz.func180 rfl (by kernel_rfl) rfl ?_;intro Γ b;(repeat' first|refine tA rfl ?_|refine s2 rfl λ_ a=>?_|refine sP rfl (Ze l s) rfl ?_|refine aU rfl ?_|apply Aa|(refine aC rfl ?_ ?_<;>rintro⟨⟩)|apply aK|apply aE|apply aB|refine aR ⟨_,rfl,?_⟩)
 all_goals (show E.o _=E.o _;congr;subst a;by_cases h:s∈l<;>simp[h])
def GH(t:A9)(col:W):Option A9:=if t.cols.length=20\/col∈t.cols then none else some ⟨t.rows,t.cols++[col]⟩
def Vt(o:Option A9):E:=match o with
 | some t=>.t [(true,[.d (CE t.rows),.d (CE t.cols)]),(false,[.d (bD true)])]
 | none=>.t [(true,[.d (.l []),.d (.l [])]),(false,[.d (bD false)])]
theorem Qn(t:A9)(col:W)(g:t.rows.length<=4096)(p:t.cols.length<=4096):Pure Tryz.prog TB 135 [HX t,eT col] (Vt (GH t col)):=by
 have m:=JW (TB:=TB) t.rows (by omega);have k:=JW (TB:=TB) t.cols (by omega);refine AH.GB (AH.ofM 2 (i9 _) Tryz.func135 rfl rfl (by kernel_rfl) (ce rfl) ?_);intro Γ a;(repeat first|refine aU rfl ?_);(refine Ag rfl ?_;refine CO (λ_ _=>Ec rfl rfl rfl) rfl ?_);(repeat first|refine sN rfl ?_|refine tM rfl ?_|refine s2 rfl λ_ b=>?_|(refine sC rfl (Mg t.cols col) ?_;intro _ b)|refine s3 rfl ?_ ?_<;>rintro rfl|refine aU rfl ?_|apply Aa)
 ·(refine aC rfl ?_ ?_<;>rintro⟨⟩)
  have c:GH t col=none:=by unfold GH;rw[if_pos (.inl (by (simp only[oZ] at *;omega)))]
  (repeat first|refine tM rfl ?_|(refine Ag rfl ?_;refine gA rfl ?_;first|refine gS (λ_ _=>AP rfl rfl (by rfl) (by rfl)) ?_)|refine aU rfl ?_|apply Aa);refine Aj.freeze [0] [(4,.o (.ip [.l [],.l []])),(5,eB false)] ⟨⟨_,rfl,.o (.ptr (by simp) rfl rfl rfl)⟩,⟨_,rfl,.AR⟩,trivial⟩ ?_;refine aR ⟨_,rfl,?_⟩;rw[c];rfl
 (repeat first|refine tM rfl ?_|(refine sC rfl (Mg t.cols col) ?_;intro _ b)|apply Aa);(refine aC rfl ?_ ?_<;>rintro⟨⟩)
 ·have c:GH t col=none:=by unfold GH;rw[if_pos (.inr (by (simp only[oZ] at *;omega)))]
  (repeat first|refine tM rfl ?_|(refine Ag rfl ?_;refine gA rfl ?_;first|refine gS (λ_ _=>AP rfl rfl (by rfl) (by rfl)) ?_)|refine aU rfl ?_|apply Aa);refine Aj.freeze [0] [(4,.o (.ip [.l [],.l []])),(5,eB false)] ⟨⟨_,rfl,.o (.ptr (by simp) rfl rfl rfl)⟩,⟨_,rfl,.AR⟩,trivial⟩ ?_;refine aR ⟨_,rfl,?_⟩;rw[c];rfl
 ·apply aK
  apply aS;refine rG (lk [0,1,3,4,6,7,2,5,8,9,10,11] [2,5,8,10] [0,1,3,4,6,7]) (by kernel_rfl) ?_;(repeat first|refine tA rfl ?_);(refine pW rfl ?_ rfl (by rfl);refine Af [] rfl rfl m ⟨rfl,by simp,by simp⟩ rfl trivial ?_;rintro n e f ⟨rfl,rfl,rfl⟩ _);(refine pW rfl ?_ rfl (by rfl);refine Af [] rfl rfl k ⟨rfl,by simp,by simp⟩ rfl trivial ?_;rintro n e f ⟨rfl,rfl,rfl⟩ _);(refine pW rfl ?_ rfl (by rfl);refine Al rfl rfl rfl (by first|(simp;done)|(simp;(omega))) rfl (by intro r g;simp at g;subst g;rfl) (by rfl) (ce rfl) (by simp;omega) ?_);(repeat first|refine tA rfl ?_|(refine Ag rfl ?_;refine gA rfl ?_;first|refine gS (λ_ _=>AP rfl rfl (by rfl) (by rfl)) ?_)|apply Aa)
  have j:col∉t.cols:=by simpa using b
  have c:GH t col=some ⟨t.rows,t.cols++[col]⟩:=by
   unfold GH;rw[if_neg];rintro(h|h)
   ·(simp only[oZ] at *;omega)
   ·exact j h
  refine Aj.names [0,1,3] [(4,.o (.ptr 0 2 0 0)),(5,eB true)] [(0,.cells 109 2 [[.arr 1 1 0 t.rows.length,.arr 2 1 0 (t.cols.length+1)]]),(1,.cells 9 1 (t.rows.map ED)),(2,.cells 9 1 ((t.cols++[col]).map ED))] (by intro i hi;rw[a]at hi;omega) (by simp) (by simp[cX,zC,a,HO]) (by simp[cX,zC,a,HO,Ab.A3,BW,Bt,eC,Ae]) ?_;refine Aj.MV [1,2] [(4,.o (.ptr 0 2 0 0)),(5,eB true)] [(0,.cells 109 2 [[.d (CE t.rows),.d (CE (t.cols++[col]))]])] ⟨⟨_,rfl,.AR⟩,⟨_,rfl,.AR⟩,trivial⟩ ⟨⟨_,rfl,by simp,.cons (.full (by simp) rfl (by simp[d7]) (by simp)) (.cons (.full (by simp) rfl (by simp[d7]) (by simp)) .nil)⟩,trivial⟩ ?_;refine Aj.freeze [0] [(4,.o (.ip [CE t.rows,CE (t.cols++[col])])),(5,eB true)] ⟨⟨_,rfl,.o (.ptr (by simp) rfl rfl rfl)⟩,⟨_,rfl,.AR⟩,trivial⟩ ?_;refine aR ⟨_,rfl,?_⟩;rw[c];rfl
end Go.Am
namespace Go.Am
def Pj(a:A5):Int->W->Int
 | q,[]=>q
 | q,c::w=>Pj a (CN a q.toNat ((c.toNat:Int)-97)) w
def LA(a:A5)(w:W):Bool:=a.ac.getD (Pj a 0 w).toNat false
theorem Lu{l:Int}(b:0<=l)(a:l<6):((lb l).toNat:Int)-97=l:=by
 unfold lb
 have:(97+l.toNat)%256=97+l.toNat:=by omega
 simp[this];omega
theorem QL{al:Int}{c:UInt8}(h:c∈Bg al):0<=(c.toNat:Int)-97/\(c.toNat:Int)-97<6:=by
 obtain⟨l,a,rfl⟩:=d8.1 h;have b:=Ai a;rw[Lu b.1 (by omega)];omega
section
variable {α β:Type}[DecidableEq α][DecidableEq β]
end
end Go.Am
