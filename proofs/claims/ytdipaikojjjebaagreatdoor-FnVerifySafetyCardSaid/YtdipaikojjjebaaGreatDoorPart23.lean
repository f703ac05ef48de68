/-
  Reversed bytes; the word of a path.
-/
import Derived.Test.YtdipaikojjjebaaGreatDoorPart21
set_option linter.all false
namespace Go.Am
open Go Go.Proofs
set_option maxHeartbeats 1000000
set_option maxRecDepth 4000
attribute [local irreducible] A6 CC Lex Bz Ak Spec
variable {TB:BJ}
def Fi(bs:List UInt8)(k i:Nat):UInt8:=if i<k\/bs.length<=i+k then bs.getD (bs.length-1-i) 0 else bs.getD i 0
theorem ki(bs:List UInt8):(BO bs.length λi=>FR (Fi bs 0 i))=bs.map FR:=by
 apply pY;intro i;by_cases hi:i<bs.length
 ·rw[Ed (g:=λi=>FR (Fi bs 0 i)) hi]
  unfold Fi;rw[if_neg (by omega)];simp[List.getD,hi]
 ·rw[o4 (by simp[BO];omega),o4 (by simp;omega)]
theorem eL(bs:List UInt8){k:Nat}(hk:bs.length<=2*k+1):(BO bs.length λi=>FR (Fi bs k i))=bs.reverse.map FR:=by
 apply pY;intro i;by_cases hi:i<bs.length
 ·rw [Ed (g:=λi=>FR (Fi bs k i)) hi]
  unfold Fi
  have b:bs.reverse[i]?=some (bs.getD (bs.length-1-i) 0):=by
   rw[List.getElem?_reverse hi]
   have:bs.length-1-i<bs.length:=by omega
   simp[List.getD,this]
  rw[i9,b];by_cases a:i<k\/bs.length<=i+k
  ·rw[if_pos a];rfl
  ·rw[if_neg a]
   have:bs.length-1-i=i:=by omega
   rw[this];rfl
 ·rw[o4 (by simp[BO];omega),o4 (by simp;omega)]
theorem TX(r:Nat->Nat)(l:List UInt8):(l.map FR).map (C.CB r)=l.map FR:=by
 rw[pR];exact qH λc _=>rfl
theorem Ge(r:Nat->Nat)(c:UInt8):C.CB r (FR c)=FR c:=rfl
theorem NF(r:Nat->Nat)(n:Nat)(H:Nat->UInt8):(BO n λi=>FR (H i)).map (C.CB r)=BO n λi=>FR (H i):=by
 unfold BO;rw[pR];exact qH λi _=>rfl
theorem LX{n q:Nat}{H:Nat->UInt8}(h:q<n):(BO n λi=>FR (H i))[0+((q:Nat):Int).toNat]?=some (FR (H q)):=by
 rw[oY,i7];exact Ed (g:=λi=>FR (H i)) h
theorem Pc{n q:Nat}{H:Nat->UInt8}{c d:UInt8}:(BO n λi=>FR (H i)).set (0+((q:Nat):Int).toNat) (Ae (FR d) 0 (eC (eI .u8 (c.toNat:Nat))))=BO n λi=>FR (if i=q then c else H i):=by
 rw[oY,i7];have e:Ae (FR d) 0 (eC (eI .u8 (c.toNat:Nat)))=FR c:=rfl;rw[e,NG];refine Dn λi _=>?_;by_cases h:i=q<;>simp[h]
theorem XO(bs:List UInt8)(hb:bs.length<=1099511627776):Spec Tryz.prog TB 206 [(0,.cells 5 1 (bs.map FR))] 1 [.o (.arr 0 1 0 bs.length)] (λx σ nx=>x=.t []/\nx=1/\σ=[(0,.cells 5 1 (bs.reverse.map FR))]):=by
 refine eN Tryz.func206 rfl (by kernel_rfl) rfl ?_;intro Γ b;(repeat first|(refine sM rfl ?_ ?_;first|exact tI|omega)|refine aU rfl ?_|apply Aa);apply aB;refine Ak.A5 (α:={k:Nat // k<=bs.length}) (λ⟨k,hk⟩=>[(0,.o (.arr 0 1 0 bs.length)),(2,eI .i64 k),(3,eI .i64 ((bs.length:Int)-1-k))]) (λ⟨k,hk⟩=>[(0,.cells 5 1 (BO bs.length λi=>FR (Fi bs k i)))]) 1 (λ⟨k,hk⟩=>bs.length-k) (⟨0,by omega⟩) [0] (En b rfl rfl) (by (simp[cX,zC,b,NF,ki,Ge])) ?_;rintro⟨k,hk⟩;(try dsimp only);(repeat first|refine tM rfl ?_|refine s2 rfl λ_ B=>?_|refine aU rfl ?_|apply Aa);(refine aC rfl ?_ ?_<;>rintro⟨⟩)
 ·have u:2*k+1<bs.length:=by (simp only[oZ] at *;omega)
  obtain⟨m,F⟩:∃m:Nat,m=bs.length-1-k:=⟨_,rfl⟩
  have A:(bs.length:Int)-1-k=((m:Nat):Int):=by omega
  have l:Fi bs k k=bs.getD k 0:=by unfold Fi;rw[if_neg (by omega)]
  have h:Fi bs k m=bs.getD m 0:=by unfold Fi;rw[if_neg (by omega)]
  have w:=LX (H:=Fi bs k) (q:=k) (n:=bs.length) (by omega);have v:=LX (H:=Fi bs k) (q:=m) (n:=bs.length) (by omega);have e:=Pc (n:=bs.length) (q:=k) (H:=Fi bs k) (c:=Fi bs k m) (d:=Fi bs k k);have a:=LX (H:=λi=>if i=k then Fi bs k m else Fi bs k i) (q:=m) (n:=bs.length) (by omega);have f:=Pc (n:=bs.length) (q:=m) (H:=λi=>if i=k then Fi bs k m else Fi bs k i) (c:=Fi bs k k) (d:=Fi bs k m)
  have g:m≠k:=by omega
  rw[if_neg g]at a
  have y:(BO bs.length λi=>FR (if i=m then Fi bs k k else if i=k then Fi bs k m else Fi bs k i))=BO bs.length λi=>FR (Fi bs (k+1) i):=Dn λi hi=>by
   congr 1;by_cases s:i=m
   ·subst s;rw[if_pos rfl,l];unfold Fi;rw[if_pos (by omega)];congr 1;omega
   ·rw [if_neg s]
    by_cases r:i=k
    ·subst r;rw[if_pos rfl,h];unfold Fi;rw[if_pos (by omega)];congr 1
    ·rw[if_neg r];unfold Fi
     by_cases p:i<k\/bs.length<=i+k
     ·rw[if_pos p,if_pos (by omega)]
     ·rw[if_neg p,if_neg (by omega)]
  rw[<-e]at a;rw[A];apply aK;refine aS (aB ?_);refine rG (oM [13,15] [2,3]) (by kernel_rfl) ?_;(repeat first|(refine sM rfl ?_ ?_;first|exact tI|omega)|refine t4 rfl ‹_› rfl ?_|refine aU rfl ?_|apply Aa);refine⟨⟨k+1,by omega⟩,by dsimp only;(omega),[0],?_⟩;rw[e,f,y]
  have z:(m:Int)-1=bs.length-1-(k+1):=by omega
  simp[cX,zC,b,NF,z]
 ·have j:bs.length<=2*k+1:=by (simp only[oZ] at *;omega)
  rw[eL bs j];exact aE ⟨_,rfl,rfl,rfl,rfl⟩
abbrev iU(s:OO):List D:=[iD s.p,iD s.l,Fp s.ns]
abbrev Qv(s:OO):List C:=[.d (iD s.p),.d (iD s.l),.d (Fp s.ns)]
abbrev fh(l:List OO):D:=.l (l.map iU)
theorem aO{l:Int}(e:0<=l)(c:l<6):FR (UInt8.ofNat (97+l.toNat))=[.d (.v (.int .u8 (97+l)))]:=by
 have b:(97+l.toNat)%256=97+l.toNat:=pp (by omega)
 have a:(97+l:Int)=((97+l.toNat:Nat):Int):=by omega
 simp[FR,b,a]
theorem iw(o:List Int):(C5 o).reverse=C5 o.reverse:=by simp[C5]
theorem Vv{ls:List Int}{steps:List OO}{ws:List (List Int)}(h:Chain ls steps ws)(I:∀l∈ls,0<=l/\l<6){w:List Int}(n:1<=steps.length/\steps.length<=2097152)(P:ws[steps.length-1]?=some w):Pure Tryz.prog TB 155 [.o (.d (fh steps))] (eT (C5 w)):=by
 refine eN Tryz.func155 rfl (by kernel_rfl) rfl ?_;intro Γ a;(repeat first|refine tM rfl ?_|refine aU rfl ?_|apply Aa);(refine pW rfl ?_ rfl (by rfl);refine Hv 1 5 ?_);(repeat first|refine sN rfl ?_|(refine sM rfl ?_ ?_;first|exact tI|omega)|refine aU rfl ?_|apply Aa);apply aB;refine Ak.A5 (α:={x:Nat×List Int // x.1+x.2.length<steps.length/\∃v,ws[x.1]?=some v/\w=v++x.2.reverse}) (λ⟨⟨i,o⟩,z⟩=>[(0,.o (.d (fh steps))),(3,.o (.arr 0 1 0 o.length)),(4,eI .i64 i)]) (λ⟨⟨i,o⟩,z⟩=>[(0,.cells 5 1 ((C5 o).map FR))]) 1 (λ⟨⟨i,o⟩,z⟩=>i) (⟨(steps.length-1,[]),by simp;omega,w,P,by simp⟩) [0] (En a rfl rfl) (by (simp[cX,zC,a,C5,Int.ofNat_sub,n.1])) ?_;rintro⟨⟨i,o⟩,z⟩;(try dsimp only);obtain⟨hi,v,B,b⟩:=z;simp only at hi B b;obtain⟨s,K⟩:=get_some (l:=steps) (k:=i) (by omega);have R:=get_map (g:=iU) K;have t:=h.chain i s K
 have G:(C5 o).length=o.length:=by simp[C5]
 (repeat first|refine tM rfl ?_|(refine s4 rfl ‹_› rfl ?_ ?_;omega)|refine s2 rfl λ_ V=>?_|refine aU rfl ?_|apply Aa);(refine aC rfl ?_ ?_<;>rintro⟨⟩)
 ·obtain⟨q,u,T,S,H,y,U⟩:∃(q:Nat) (u:List Int),s.p=(q:Int)/\q<i/\ws[q]?=some u/\ws[i]?=some (u++[s.l])/\s.l∈ls:=by
   rcases t with ⟨e,_⟩|e
   ·exfalso;(simp only[oZ] at *;omega)
   ·exact e
  have c:=I _ U;rw[B]at y
  injection y with y
  have J:=aO c.1 c.2
  have F:C5 (o++[s.l])=C5 o++[UInt8.ofNat (97+s.l.toNat)]:=by simp[C5]
  have j:(C5 (o++[s.l])).map FR=(C5 o).map FR++[[.d (.v (.int .u8 (97+s.l)))]]:=by rw[F,pO,qj,J];rfl
  apply aK;refine aS (aB ?_);(repeat first|refine tA rfl ?_|(refine s4 rfl ‹_› rfl ?_ ?_;omega)|refine sP rfl (FN s.l c.1 (by omega)) rfl ?_|refine aU rfl ?_);(refine pW rfl ?_ rfl (by rfl);refine Au rfl rfl rfl (by first|(simp;done)|(simp;(omega))) rfl (by intro r L;simp at L;subst L;rfl) (by rfl) (am rfl) (by simp;omega) ?_);(repeat first|refine tX rfl ?_|(refine s4 rfl ‹_› rfl ?_ ?_;omega)|refine aU rfl ?_|apply Aa);refine⟨⟨(q,o++[s.l]),by simp;omega,u,H,by rw[b,y];simp⟩,by dsimp only;omega,[1],?_⟩;dsimp only;rw[j];simp[cX,zC,a,T,Ge]
 ·have A:v=[]:=by
   rcases t with ⟨_,e⟩|⟨q,u,e,_⟩
   ·rw[B]at e;injection e
   ·exfalso;(simp only[oZ] at *;omega)
  subst A
  have f:w=o.reverse:=by rw[b];rfl
  have m:=XO (TB:=TB) (C5 o) (by omega);rw[G,iw,<-f]at m;apply aE;(repeat first|refine tM rfl ?_|refine aU rfl ?_);(refine pW rfl ?_ rfl (by rfl);refine Ai [0] rfl rfl m ⟨rfl,by simp,by simp⟩ rfl (by simp[cX,zC,a,Ge]) ?_;rintro X M N ⟨rfl,rfl,rfl⟩ _)
  have Q:(C5 w).length=o.length:=by rw[f];simp[C5]
  (repeat first|refine tM rfl ?_|(refine Ag rfl ?_;refine gA rfl ?_;first|refine gQ (Pa (C5 w) rfl rfl (by simp;omega) (by rw[pN,TX,ge (by simp;omega)])) (by rfl) ?_)|refine aU rfl ?_|apply Aa);refine aR ⟨_,rfl,rfl⟩
theorem jd(p:Nat->Prop):(∀i,i<5->p i)↔p 0/\p 1/\p 2/\p 3/\p 4:=by
 constructor
 ·intro h;exact⟨h 0 (by omega),h 1 (by omega),h 2 (by omega),h 3 (by omega),h 4 (by omega)⟩
 ·rintro⟨e,d,c,b,a⟩ i hi
  have:i=0\/i=1\/i=2\/i=3\/i=4:=by omega
  rcases this with rfl|rfl|rfl|rfl|rfl<;>assumption
theorem fv{goal:Int->Bool}{seen:List Bool}{nodes:List Int}{k:Nat}{x:Int}(h:nodes[k]?=some x):Ug goal seen (nodes.take (k+1))=WG goal (Ug goal seen (nodes.take k)) x:=by
 unfold Ug;rw[GW h]
theorem VR{l:List Bool}{n:Int}:(l.map AU).set (0+n.toNat) (Ae (AU false) 0 (eC (eB true)))=(l.set n.toNat true).map AU:=by
 simp[Ae,eC,p6]
abbrev Gj(N:Nat)(gG:FuncId)(capsG:List C)(seen:List Bool)(q:Nat)(steps:List OO):Ab:=
 [(0,.cells 27 1 [[.arr 1 1 0 N]]),(1,.cells 4 1 (seen.map AU)),(2,.cells 124 1 [[.fn gG capsG]]),(3,.cells 191 1 [[.arr q 3 0 steps.length]]),(q,.cells 193 3 (steps.map Qv))]
theorem WE{goal:Int->Bool}{gG:FuncId}{capsG:List C}{N:Nat}(M:∀n:Int,0<=n/\n<N->Pure Tryz.prog TB gG ([eI .i64 n]++capsG.map .o) (eB (goal n)))(G:C.DB capsG=true)(d:∀r,C.CB r capsG=capsG)
 (seen:List Bool) (steps:List OO) (p l:Int) (nodes:List Int) (R:seen.length=N) (T:N<=1048576) (Q:steps.length<=1048576) (u:∀n∈nodes,0<=n/\n<N) :
 Spec Tryz.prog TB 154 (Gj N gG capsG seen 4 steps) 5 [eI .i64 p,eI .i64 l,Al nodes,.o (.ptr 0 1 0 0),.o (.ptr 2 1 0 0),.o (.ptr 3 1 0 0)]
  (λx σ nx=>x=eB (Ug goal seen nodes).found/\∃q,(q=4/\nx=5\/q=5/\nx=6)/\σ=Gj N gG capsG (Ug goal seen nodes).seen q (Fj steps p l (Ug goal seen nodes).fresh)):=by
 have s:∀k,kz goal N seen (nodes.take k) (Ug goal seen (nodes.take k)):=λk=>Yv R λn F=>u n (pb F);refine eN Tryz.func154 rfl (by kernel_rfl) rfl ?_;intro Γ a;refine Ak.bound 2 rfl λK=>?_;have S:=K _ .refl;rw[gt]at S;(repeat first|refine tM rfl ?_|refine aU rfl ?_|apply Aa);(refine pW rfl ?_ rfl (by rfl);refine Hv 1 3 ?_);(repeat first|refine sN rfl ?_|refine tM rfl ?_|refine aU rfl ?_|apply Aa);apply aB;refine Ak.A5 (α:={k:Nat // k<=nodes.length}) (λ⟨k,hk⟩=>[(0,eI .i64 p),(1,eI .i64 l),(3,.o (.ptr 0 1 0 0)),(4,.o (.ptr 2 1 0 0)),(5,.o (.ptr 3 1 0 0)),(10,.o (.arr 5 1 0 (Ug goal seen (nodes.take k)).fresh.length)),(11,eB (Ug goal seen (nodes.take k)).found),(14,Al nodes),(15,eI .i64 nodes.length),(16,eI .i64 k)]) (λ⟨k,hk⟩=>Gj N gG capsG (Ug goal seen (nodes.take k)).seen 4 steps++[(5,.cells 3 1 ((Ug goal seen (nodes.take k)).fresh.map AD))]) 6 (λ⟨k,hk⟩=>nodes.length-k) (⟨0,by omega⟩) [0,1,2,3,4,5] (En a rfl rfl) (by (simp[cX,zC,a,Gj,Ug,d])) ?_;rintro⟨k,hk⟩;(try dsimp only);have i:=s k;have c:=λx=>fv (goal:=goal) (seen:=seen) (nodes:=nodes) (k:=k) (x:=x);generalize L:Ug goal seen (nodes.take k)=v at *;(repeat first|refine s2 rfl λ_ f=>?_|refine aU rfl ?_|apply Aa);(refine aC rfl ?_ ?_<;>rintro⟨⟩)
 ·obtain⟨x,z⟩:=get_some (l:=nodes) (k:=k) (by (simp only[oZ] at *;omega))
  have P:=get_map (g:=Bs) z;have m:=u x (co z);have c:=c x z;have A:=i.len;obtain⟨b,hb⟩:=get_some (l:=v.seen) (k:=x.toNat) (by omega)
  have J:(v.seen.map AU)[0+x.toNat]?=some (AU b):=by simp[hb]
  have B:sn v.seen x=b:=by simp[sn,List.getD,hb]
  have h:v.fresh.length<=N:=by
   refine GG _ _ i.nd λy w=>u y (pb ((i.fr y).1 w).1)
  unfold WG at c;rw[B]at c;obtain⟨vse,vfr,vfd⟩:=v;simp only at c A hb J h;apply aK;refine aS (aB ?_);(repeat first|((first|refine sM rfl ?_ ?_|refine s4 rfl ‹_› rfl ?_ ?_);first|exact tI|omega)|refine s2 rfl λ_ f=>?_|refine aU rfl ?_|apply Aa);(refine aC rfl ?_ ?_<;>rintro⟨⟩)
  ·have I:b=false:=by simpa using f
   subst I;rw[if_neg (by simp)]at c;(repeat first|(refine sA rfl ?_ ?_;first|exact tI|omega)|refine t4 rfl ‹_› rfl ?_|refine aU rfl ?_|apply Aa);(refine pW rfl ?_ rfl (by rfl);refine Au rfl rfl rfl (by first|(simp;done)|(simp;(omega))) rfl (by intro r t;simp at t;subst t;rfl) (by rfl) (am rfl) (by simp;omega) ?_);(repeat first|(refine sX rfl ?_ ?_;first|exact tI|simp only[oZ] at *;omega)|refine s3 rfl ?_ ?_<;>rintro rfl|refine aU rfl ?_|apply Aa);(repeat first|(refine sC rfl (M x m) ?_;intro _ f)|(refine Ag rfl ?_;refine gA rfl ?_;first|refine gQ (TT rfl rfl rfl rfl) (by rfl) ?_))
   ·refine⟨⟨k+1,by (simp only[oZ] at *;omega)⟩,by dsimp only;((simp only[oZ] at *;omega)),[0,1,2,3,4,6],?_⟩
    rw[VR];simp[cX,zC,a,c,Gj,d,jd]
   ·(repeat first|(refine sA rfl ?_ ?_;first|exact tI|simp only[oZ] at *;omega)|(refine Ag rfl ?_;refine gA rfl ?_;first|(refine gB (λ_ _=>Bv rfl rfl (by simp[E.Cp,C.Cp,G]) (M x m) rfl) ?_;intro _ f))|refine aU rfl ?_|apply Aa)
    refine⟨⟨k+1,by (simp only[oZ] at *;omega)⟩,by dsimp only;((simp only[oZ] at *;omega)),[0,1,2,3,4,6],?_⟩;rw[VR];simp[cX,zC,a,c,Gj,d,jd,f]
  ·have H:b=true:=by simpa using f
   subst H;rw[if_pos rfl]at c;apply aK;(repeat first|(refine sM rfl ?_ ?_;first|exact tI|simp only[oZ] at *;omega)|refine aU rfl ?_|apply Aa);refine⟨⟨k+1,by (simp only[oZ] at *;omega)⟩,by dsimp only;((simp only[oZ] at *;omega)),[0,1,2,3,4,5],?_⟩;simp[cX,zC,a,c,Gj,d,jd]
 ·obtain rfl:k=nodes.length:=by (simp only[oZ] at *;omega)
  rw[io]at L;subst L;apply aE
  have h:(Ug goal seen nodes).fresh.length<=N:=by
   have i:=s nodes.length;rw[io]at i;refine GG _ _ i.nd λy w=>u y ((i.fr y).1 w).1
  generalize Ug goal seen nodes=vv at *;obtain⟨vse,vfr,vfd⟩:=vv;have h:vfr.length<=N:=h;(repeat first|refine tM rfl ?_|refine s2 rfl λ_ f=>?_|refine aU rfl ?_|apply Aa);(refine aC rfl ?_ ?_<;>rintro⟨⟩)
  ·have j:vfr≠[]:=λe=>by rw[e]at f;simp at f
   refine Ak.freeze [5] [(0,eI .i64 p),(1,eI .i64 l),(5,.o (.ptr 3 1 0 0)),(10,Al vfr),(11,eB vfd)] ⟨⟨_,rfl,.AS⟩,⟨_,rfl,.AS⟩,⟨_,rfl,.AS⟩,⟨_,rfl,.o (.full (by simp) rfl (by simp[d5]) (by simp))⟩,⟨_,rfl,.AS⟩,trivial⟩ ?_;(repeat first|refine tA rfl ?_|(refine Ag rfl ?_;refine gA rfl ?_;first|refine gS (λ_ _=>AG rfl rfl (by rfl) (by rfl)) ?_)|refine aU rfl ?_);(refine pW rfl ?_ rfl (by rfl);refine Au rfl rfl rfl (by first|(simp;done)|(simp;(omega))) rfl (by intro r t;simp at t;subst t;rfl) (by rfl) (am rfl) (by simp;omega) ?_);(repeat first|refine tX rfl ?_|refine aU rfl ?_|apply Aa);refine Ak.names [0,1,2,3,4,6] [(9,eB vfd)] (Gj N gG capsG vse 5 (Fj steps p l vfr)) (by rw[a];decide) (by decide) (by simp[cX,zC,a]) (by simp[cX,zC,a,Gj,d,Fj,j,Ce,Ae,eC]) ?_;refine aR ⟨_,rfl,rfl,5,.inr ⟨rfl,rfl⟩,rfl⟩
  ·have j:vfr=[]:=mt.1 (by (simp only[oZ] at *;omega))
   subst j;apply aK;(repeat first|refine tM rfl ?_|refine aU rfl ?_|apply Aa);refine Ak.names [0,1,2,3,4] [(9,eB vfd)] (Gj N gG capsG vse 4 steps) (by rw[a];decide) (by decide) (by simp[cX,zC,a]) (by simp[cX,zC,a,Gj,d]) ?_;refine aR ⟨_,rfl,rfl,4,.inl ⟨rfl,rfl⟩,by simp[Fj]⟩
theorem dE{P:Program}{Γ:Ctx}{d:Option Tmp}{ty:TypeId}{pos:String}{af:Array Edge}{g:Option (Nat×Bool)}{f:Env}{σ:Ab}{nx:Nat}{K:E->Ab->Nat->Prop}{T:TypeId}(k e:Nat)[r:BM P T [.slice none 0 0]]
 (u:K (.o (.ptr (nx+1) 1 0 0)) ((nx+1,.cells T 1 [[.arr nx k 0 0]])::(nx,.cells e k [])::σ) (nx+2)):CC P TB Γ ⟨d,.alloc T,ty,pos,af,g⟩ f σ nx K:=
 DW λV ρ z y x=>by
  subst x;obtain⟨i,zv,hi,b,a⟩:=HI r.out
  have h:zv.cells = #[.slice none 0 0]:=by have:=congrArg List.toArray a;simpa using this
  obtain⟨m,p⟩:=y.alloc (c:=0) (nl:=True) (w:=V.w) (ob:=.cells e k []) rfl rfl rfl rfl (jp _) (λ_ _=>rfl) (.inl ⟨by simp[Ax],rfl⟩)
  have t:Dq (Ax V V.w.heap.size 0 True V.w) [.arr V.nx k 0 0] zv.cells:=by
   rw[h];refine⟨rfl,λj c v l q=>?_⟩
   match j with
   | 0=>simp at l q;subst l q;exact AH.nil (by simp[Ax]) (by simp[Ax])
   | j+1=>simp at l
  obtain⟨n,s⟩:=Tb m (T:=T) t;refine⟨.pointer (some ⟨V.w.heap.size,0,none⟩),_,_,_,?_,p.trans s,n,?_,u⟩
  ·simp[execOp,Instr.alloc,zeroValue,typeInfo,hi,b,newVar,newRow,Ax,go_sem]
  ·exact O8
theorem Sx(r:Nat->Nat):∀(l m:List E),Ff r (l++m)=Ff r l++Ff r m
 | [],m=>rfl
 | e::l,m=>by simp[Ff,Sx r l m]
theorem Qh(r:Nat->Nat):∀(l:List C),Ff r (l.map .o)=(C.CB r l).map .o
 | []=>rfl
 | c::l=>by simp[Ff,C.CB,E.Bi,Qh r l]
def iY(P:Program)(TB:BJ)(T:TypeId)(g:Gr)(gN:FuncId)(capsN:List C):Prop:=
 ∀(node l:Int) (outs:List Int),0<=node/\node<g.N->l∈g.ls->outs.length<=1099511627776->
  Spec P TB gN [(0,.cells T 1 (outs.map AD))] 1 ([eI .i64 node,eI .i64 l,.o (.arr 0 1 0 outs.length)]++capsN.map .o) (λx σ nx=>x=.o (.arr 1 1 0 (outs++g.succ node l).length)/\nx=2/\σ=[(1,.cells T 1 ((outs++g.succ node l).map AD))])
theorem LV{g:Gr}(Q:Jg g)(hN:g.N<=1048576)(X:∀l∈g.ls,0<=l/\l<6)(hll:g.ls.length<=6)(hsl:∀(node l:Int),0<=node/\node<g.N->l∈g.ls->(g.succ node l).length<=g.N)
 {gN gG:FuncId} {capsN capsG:List C} (hNx:iY Tryz.prog TB 3 g gN capsN) (hG:∀n:Int,0<=n/\n<g.N->Pure Tryz.prog TB gG ([eI .i64 n]++capsG.map .o) (eB (g.goal n)))
 (hcG:C.DB capsG=true) (d:∀r,C.CB r capsG=capsG) (h:∀r,C.CB r capsN=capsN) {r:Option (List Int)} (hr:CI g r) :
 Pure Tryz.prog TB 95 [eI .i64 g.N,Al [g.s0],Al g.ls,.o (.fn gN capsN),.o (.fn gG capsG)] (LR r):=by
 refine eN Tryz.func95 rfl (by kernel_rfl) rfl ?_;intro Γ b;(repeat first|refine aU rfl ?_);(refine pW rfl ?_ rfl (by rfl);refine Dm rfl rfl ?_);(repeat first|refine tM rfl ?_|refine aU rfl ?_|apply Aa);(refine pW rfl ?_ rfl (by rfl);refine Lh rfl rfl (by rfl) (by rfl) (am rfl) (by omega) (by omega) (by omega) ?_)
 iterate 4 (first|refine tM rfl ?_|refine aU rfl ?_|apply Aa)
 (refine pW rfl ?_ rfl (by rfl);refine dE 3 193 ?_);(repeat first|refine tM rfl ?_|refine aU rfl ?_|apply Aa);have K:=Yv (goal:=g.goal) (N:=g.N) (seen:=List.replicate g.N false) (nodes:=[g.s0]) (by simp) (by intro n u;simp at u;subst u;exact Q.s0);have A:=WE (TB:=TB) hG hcG d (List.replicate g.N false) [] (-1) 0 [g.s0] (by simp) hN (by simp) (by intro n u;simp at u;subst u;exact Q.s0);(refine pW rfl ?_ rfl (by rfl);refine Ai [2,1,0,4,3] rfl rfl A ⟨rfl,by decide,by decide⟩ rfl (by simp[cX,zC,b,Gj,d,Ae,eC]) ?_;rintro x0 T U ⟨rfl,q,L,rfl⟩ _);generalize hV:Ug g.goal (List.replicate g.N false) [g.s0]=v at *;obtain⟨vse,vfr,vfd⟩:=v;simp only;apply Aa;refine Ak.names [2,1,0,4,if q=4 then 3 else 5] [(2,Al g.ls),(3,.o (.fn gN capsN)),(12,.o (.ptr 0 1 0 0)),(13,.o (.ptr 3 1 0 0)),(14,.o (.fn 154 [.ptr 0 1 0 0,.ptr 2 1 0 0,.ptr 3 1 0 0])),(26,eB vfd)] (Gj g.N gG capsG vse 4 (Fj [] (-1) 0 vfr)) (by simp[b]) (by rcases L with ⟨rfl,rfl⟩|⟨rfl,rfl⟩<;>decide)
  (by rcases L with ⟨rfl,rfl⟩|⟨rfl,rfl⟩<;>simp[cX,zC,b,h,eC]) (by rcases L with ⟨rfl,rfl⟩|⟨rfl,rfl⟩<;>simp[cX,zC,b,Gj,d,Ab.Bi,Ce,I0,eC]) ?_
 (refine aC rfl ?_ ?_<;>rintro⟨⟩)
 ·-- the start is a goal
  have hgs:g.goal g.s0=true:=by
   have h1:vfr.any g.goal=true:=K.fd.symm;obtain⟨x,J,P⟩:=qL.1 h1;have h2:=((K.fr x).1 J).1;simp at h2;subst h2;exact P
  have B:=CI.unique hr (CI.start hgs);subst B;(repeat first|refine tM rfl ?_|refine aU rfl ?_|apply Aa);refine aR ⟨_,rfl,rfl⟩
 apply aK;obtain⟨hfr,hF0⟩:=FI.init Q K rfl;simp only at hfr hF0;rw[hfr];(repeat first|refine tM rfl ?_|refine aU rfl ?_|apply Aa);apply aB;refine Ak.A5 (α:={x:Nat×List Bool×List OO×List (List Int) // FI g x.2.1 x.2.2.1 x.2.2.2 x.1 0}) (λ⟨⟨i,seen,steps,ws⟩,f⟩=>[(2,Al g.ls),(3,.o (.fn gN capsN)),(12,.o (.ptr 0 1 0 0)),(13,.o (.ptr 3 1 0 0)),(14,.o (.fn 154 [.ptr 0 1 0 0,.ptr 2 1 0 0,.ptr 3 1 0 0])),(15,eI .i64 i)]) (λ⟨⟨i,seen,steps,ws⟩,f⟩=>Gj g.N gG capsG seen 4 steps) 5 (λ⟨⟨i,seen,steps,ws⟩,f⟩=>g.N-i) (⟨(0,vse,[⟨-1,0,[g.s0]⟩],[[]]),hF0⟩) [0,1,2,3,4] (En b rfl rfl) (by (simp[cX,zC,b,Gj,d,h,Fj])) ?_;rintro⟨⟨i,seen,steps,ws⟩,f⟩;(try dsimp only);simp only at f;have Y:=f.lE;(repeat first|refine tM rfl ?_|refine s2 rfl λ_ _hb=>?_|refine aU rfl ?_|apply Aa);(refine aC rfl ?_ ?_<;>rintro⟨⟩)
 ·have hi : i<steps.length:=by (simp only[oZ] at *;omega)
  obtain⟨s,H⟩:=get_some hi;have V:(steps.map Qv)[0+((i:Nat):Int).toNat]?=some (Qv s):=HU H;obtain⟨wi,z⟩:∃wi,ws[i]?=some wi:=get_some (by rw[f.wlen];exact hi);apply aK;refine aS (aB ?_);(repeat first|refine sN rfl ?_|refine tM rfl ?_|refine aU rfl ?_|apply Aa);apply aB;refine Ak.A5 (α:={x:Nat×List Bool×List OO×List (List Int) // x.1<=g.ls.length/\FI g x.2.1 x.2.2.1 x.2.2.2 i x.1/\i<x.2.2.1.length}) (λ⟨⟨j,c,st2,t⟩,hP⟩=>[(2,Al g.ls),(3,.o (.fn gN capsN)),(12,.o (.ptr 0 1 0 0)),(13,.o (.ptr 3 1 0 0)),(14,.o (.fn 154 [.ptr 0 1 0 0,.ptr 2 1 0 0,.ptr 3 1 0 0])),(15,eI .i64 i),(33,Al g.ls),(34,eI .i64 g.ls.length),(35,eI .i64 j)]) (λ⟨⟨j,c,st2,t⟩,hP⟩=>Gj g.N gG capsG c 4 st2) 5 (λ⟨⟨j,c,st2,t⟩,hP⟩=>g.ls.length-j) (⟨(0,seen,steps,ws),by simp,f,hi⟩) [0,1,2,3,4] (En b rfl rfl) (by (simp[cX,zC,b,Gj,d,h])) ?_;rintro⟨⟨j,c,st2,t⟩,hP⟩;(try dsimp only);clear H V z f Y hi;obtain⟨hj,f,hi⟩:=hP;simp only at hj f hi;have Y:=f.lE;(repeat first|refine s2 rfl λ_ _hb=>?_|refine aU rfl ?_|apply Aa);(refine aC rfl ?_ ?_<;>rintro⟨⟩)
  ·have Z:j<g.ls.length:=by (simp only[oZ] at *;omega)
   obtain⟨l,hl⟩:=get_some (l:=g.ls) (k:=j) Z;have hl':=get_map (g:=Bs) hl;have F:=co hl;have hlb:=X l F;obtain⟨s,H⟩:=get_some hi;have V:(st2.map Qv)[0+((i:Nat):Int).toNat]?=some (Qv s):=HU H;obtain⟨wi,z⟩:∃wi,t[i]?=some wi:=get_some (by rw[f.wlen];exact hi);have p:=f.inn s (co H);have hsnd:=GG _ _ (f.nd s (co H)) p;apply aK;refine aS (aB ?_);(repeat first|refine tM rfl ?_|(refine s4 rfl ‹_› rfl ?_ ?_;omega)|refine aU rfl ?_|apply Aa);(refine pW rfl ?_ rfl (by rfl);refine Hv 1 3 ?_);(repeat first|refine sN rfl ?_|(refine sM rfl ?_ ?_;first|exact tI|omega)|refine t4 rfl ‹_› rfl ?_|refine aU rfl ?_|apply Aa);apply aB;refine Ak.A5 (α:={m:Nat // m<=s.ns.length}) (λ⟨m,hm⟩=>[(2,Al g.ls),(3,.o (.fn gN capsN)),(12,.o (.ptr 0 1 0 0)),(13,.o (.ptr 3 1 0 0)),(14,.o (.fn 154 [.ptr 0 1 0 0,.ptr 2 1 0 0,.ptr 3 1 0 0])),(15,eI .i64 i),(33,Al g.ls),(34,eI .i64 g.ls.length),(35,eI .i64 j),(17,eI .i64 l),(18,.o (.arr 5 1 0 ((s.ns.take m).flatMap λn=>g.succ n l).length)),(43,Al s.ns),(44,eI .i64 s.ns.length),(45,eI .i64 m)]) (λ⟨m,hm⟩=>Gj g.N gG capsG c 4 st2++[(5,.cells 3 1 (((s.ns.take m).flatMap λn=>g.succ n l).map AD))]) 6 (λ⟨m,hm⟩=>s.ns.length-m) (⟨0,by omega⟩) [0,1,2,3,4,5] (En b rfl rfl) (by (simp[cX,zC,b,Gj,d,h])) ?_;rintro⟨m,hm⟩;(try dsimp only);(repeat first|refine s2 rfl λ_ _hb=>?_|refine aU rfl ?_|apply Aa);(refine aC rfl ?_ ?_<;>rintro⟨⟩)
   ·obtain⟨n,u⟩:=get_some (l:=s.ns) (k:=m) (by (simp only[oZ] at *;omega))
    have hn':=get_map (g:=Bs) u;have hnb:=p n (co u)
    have hfm:(s.ns.take (m+1)).flatMap (λn=>g.succ n l)=(s.ns.take m).flatMap (λn=>g.succ n l)++g.succ n l:=by
     rw[d8,u];simp
    have hol:((s.ns.take m).flatMap λn=>g.succ n l).length<=1099511627776:=by
     have h2:=LW (s.ns.take m) (λn=>g.succ n l) 1048576 (λx J=>by have:=hsl x l (p x (pb J)) F;omega)
     have h3:(s.ns.take m).length<=1048576:=by simp;omega
     omega
    have hnx:=hNx n l _ hnb F hol;generalize (s.ns.take m).flatMap (λn=>g.succ n l)=pre at *;apply aK;refine aS (aB ?_);(repeat first|refine tM rfl ?_|(refine s4 rfl ‹_› rfl ?_ ?_;omega)|refine aU rfl ?_|apply Aa);(refine pW rfl ?_ rfl (by rfl);refine Ai [5] rfl rfl hnx ⟨rfl,by decide,by decide⟩ (by rw[Sx,Qh,h];rfl) (by simp[cX,zC,b]) ?_;rintro x0 T U ⟨rfl,rfl,rfl⟩ _);(repeat first|(refine sM rfl ?_ ?_;first|exact tI|omega)|refine aU rfl ?_|apply Aa);refine⟨⟨m+1,by (simp only[oZ] at *;omega)⟩,by dsimp only;((simp only[oZ] at *;omega)),[0,1,2,3,4,6],?_⟩;simp[cX,zC,b,Gj,d,h,Ab.Bi,Ce,I0,hfm]
   ·obtain rfl:m=s.ns.length:=by (simp only[oZ] at *;omega)
    rw[io];have hR:∀y,y∈s.ns.flatMap (λn=>g.succ n l)↔∃n∈s.ns,y∈g.succ n l:=λy=>qg;generalize s.ns.flatMap (λn=>g.succ n l)=R at *
    have I:∀y∈R,0<=y/\y<g.N:=λy hy=>by
     obtain⟨n,u,hy⟩:=(hR y).1 hy;exact Q.inn n (p n u) l F y hy
    have hv:=Yv (goal:=g.goal) f.slen I;have A:=WE (TB:=TB) hG hcG d c st2 i l R f.slen hN (by omega) I;generalize hV2:Ug g.goal c R=v2 at *;apply aE;refine Ak.freeze [5] [(2,Al g.ls),(3,.o (.fn gN capsN)),(12,.o (.ptr 0 1 0 0)),(13,.o (.ptr 3 1 0 0)),(14,.o (.fn 154 [.ptr 0 1 0 0,.ptr 2 1 0 0,.ptr 3 1 0 0])),(15,eI .i64 i),(33,Al g.ls),(34,eI .i64 g.ls.length),(35,eI .i64 j),(17,eI .i64 l),(18,Al R)] ⟨⟨_,rfl,.AS⟩,⟨_,rfl,.AS⟩,⟨_,rfl,.AS⟩,⟨_,rfl,.AS⟩,⟨_,rfl,.AS⟩,⟨_,rfl,.AS⟩,⟨_,rfl,.AS⟩,⟨_,rfl,.AS⟩,⟨_,rfl,.AS⟩,⟨_,rfl,.AS⟩,⟨_,rfl,.o (.full (by simp) rfl (by simp[d5]) (by simp))⟩,trivial⟩ ?_;(repeat first|refine tM rfl ?_|refine aU rfl ?_);(refine pW rfl ?_ rfl (by rfl);refine Ai [0,1,2,3,4] rfl rfl A ⟨rfl,by decide,by decide⟩ rfl (by simp[cX,zC,b,Gj,d,Ce]) ?_;rintro x0 T U ⟨rfl,q,L,rfl⟩ _);obtain⟨vse,vfr,vfd⟩:=v2;simp only;apply Aa;refine Ak.names [0,1,2,3,if q=4 then 4 else 6] [(2,Al g.ls),(3,.o (.fn gN capsN)),(12,.o (.ptr 0 1 0 0)),(13,.o (.ptr 3 1 0 0)),(14,.o (.fn 154 [.ptr 0 1 0 0,.ptr 2 1 0 0,.ptr 3 1 0 0])),(15,eI .i64 i),(33,Al g.ls),(34,eI .i64 g.ls.length),(35,eI .i64 j),(59,eB vfd)] (Gj g.N gG capsG vse 4 (Fj st2 i l vfr)) (by simp[b]) (by rcases L with ⟨rfl,rfl⟩|⟨rfl,rfl⟩<;>decide)
     (by rcases L with ⟨rfl,rfl⟩|⟨rfl,rfl⟩<;>simp[cX,zC,b,h]) (by rcases L with ⟨rfl,rfl⟩|⟨rfl,rfl⟩<;>simp[cX,zC,b,Gj,d,Ab.Bi,Ce,I0]) ?_
    (refine aC rfl ?_ ?_<;>rintro⟨⟩)
    ·obtain⟨x,J,P⟩:∃x∈vfr,g.goal x=true:=by
      have h1:vfr.any g.goal=true:=hv.fd.symm;exact qL.1 h1
     have hxR:=((hv.fr x).1 J).1;obtain⟨n,u,hxn⟩:=(hR x).1 hxR;have G:=CI.found Q f z hl H u hxn P;have B:=CI.unique hr G;subst B
     have hne:vfr≠[]:=λe=>by rw[e]at J;cases J
     have hsv:Fj st2 i l vfr=st2++[⟨i,l,vfr⟩]:=by unfold Fj;rw[if_neg hne]
     rw[hsv];have hch:=f.ZP.app (ns:=vfr) z F;have hpw:=Vv (TB:=TB) hch X (w:=wi++[l]) (by simp;omega) (by simp[f.wlen]);generalize hst3:st2++[⟨(i:Int),l,vfr⟩]=st3 at *;(repeat first|refine tM rfl ?_|(refine Ag rfl ?_;refine gA rfl ?_;first|refine gQ (IK rfl rfl ((.cons (.o (.full rfl (by simp[d5]) (by simp))) .nil)) (hpw) rfl) rfl ?_)|refine aU rfl ?_|apply Aa);refine aR ⟨_,rfl,rfl⟩
    ·have S:=f.visit Q z hl H hR hv rfl
     have M:i<(Fj st2 i l vfr).length:=by unfold Fj;split<;>(try simp)<;>omega
     apply aK;(repeat first|(refine sM rfl ?_ ?_;first|exact tI|omega)|refine aU rfl ?_|apply Aa);refine⟨⟨(j+1,vse,Fj st2 i l vfr,nL t (wi++[l]) vfr),Z,S,M⟩,by dsimp only;omega,[0,1,2,3,4],?_⟩;simp[cX,zC,b,Gj,d,h]
  ·obtain rfl:j=g.ls.length:=by (simp only[oZ] at *;omega)
   have S:=f.lL hi;apply aE;(repeat first|(refine sM rfl ?_ ?_;first|exact tI|omega)|refine aU rfl ?_|apply Aa);refine⟨⟨(i+1,c,st2,t),S⟩,by dsimp only;omega,[0,1,2,3,4],?_⟩;simp[cX,zC,b,Gj,d,h]
 ·have hle:=f.le
  obtain rfl:i=steps.length:=by (simp only[oZ] at *;omega)
  have G:=CI.oL Q f;have B:=CI.unique hr G;subst B;apply aE;(repeat first|refine tM rfl ?_|refine aU rfl ?_|apply Aa);refine aR ⟨_,rfl,rfl⟩
def Gf(a p:AY)(node letter:Int):Int:=Cz a (node / p.nx.length%a.nx.length).toNat letter*p.nx.length+Cz p (node%p.nx.length).toNat letter
def JH(l:List Sys)(a p:AY)(node letter:Int):List Int:=(EK (l.map (·.st)) (ae l (node / p.nx.length / a.nx.length) letter)).map λo=>o*a.nx.length*p.nx.length+Gf a p node letter
def N9(a p:AY)(node:Int):Bool:=a.ac.getD (node / p.nx.length%a.nx.length).toNat false && !p.ac.getD (node%p.nx.length).toNat false
def gI(l:List Sys)(a p:AY)(ls:List Int):Gr:=⟨(Aw (l.map (·.st))*a.nx.length*p.nx.length).toNat,JH l a p,N9 a p,ls,0⟩
theorem MH{a:AY}{q:Nat}(h:q<a.nx.length):(Hj a)[q]?=some (XP λl=>Cz a q l):=Ed (g:=λq=>XP λl=>Cz a q l) h
theorem JC{h:Nat->Int}{l:Int}(d:0<=l)(c:l<6):((XP h).drop (l.toNat*1))[0]?=some (iD (h l.toNat)):=by
 rw[pj]
 have b:l.toNat*1+0=l.toNat:=by omega
 have a:l.toNat<6:=by omega
 rw[b];simp[XP,a]
theorem fa{outs low:List Int}{h:Int->Int}{k:Nat}{x:Int}(a:low[k]?=some x):(outs++((low.take k).map h++low.drop k)).set (outs.length+k) (h x)=outs++((low.take (k+1)).map h++low.drop (k+1)):=by
 have hk:=(ce.1 a).1;rw[rz _ _ (by omega),rz _ _ (by simp;omega)];congr 1
 have e:outs.length+k-outs.length-((low.take k).map h).length=0:=by simp;omega
 rw[e,BF a,d8,a];simp
theorem Cs{a:AY}(h:AE a=true):1<=a.nx.length/\a.nx.length<=12:=by have:=AJ h;omega
theorem JA{l:List Sys}(h:∀s∈l,AX s=true)(d:l.length<=3):1<=Aw (l.map (·.st))/\Aw (l.map (·.st))<=4096:=by
 have a:∀z∈l.map (·.st),1<=z/\z<=16:=by
  intro z b;obtain⟨s,c,rfl⟩:=d9.1 b;have:=AN (h s c);omega
 have f:=Ib _ a
 have e:(16:Int) ^ (l.map (·.st)).length<=4096:=by
  have:(l.map (·.st)).length<=3:=by simp;omega
  generalize (l.map (·.st)).length=n at this
  have:n=0\/n=1\/n=2\/n=3:=by omega
  rcases this with rfl|rfl|rfl|rfl<;>decide
 omega
theorem VH{a p:AY}(ha:AE a=true)(b:AE p=true){node letter:Int}(g:0<=node)(d:0<=letter)(c:letter<6):0<=Gf a p node letter/\Gf a p node letter<a.nx.length*p.nx.length:=by
 have o:=Cs ha;have l:=Cs b
 have k:0<=node / p.nx.length%a.nx.length/\node / p.nx.length%a.nx.length<a.nx.length:=⟨pX _ (by omega),pM _ (by omega)⟩
 have j:0<=node%p.nx.length/\node%p.nx.length<p.nx.length:=⟨pX _ (by omega),pM _ (by omega)⟩
 have f:=DH ha (q:=(node / p.nx.length%a.nx.length).toNat) (by omega) d c;have i:=DH b (q:=(node%p.nx.length).toNat) (by omega) d c;unfold Gf;generalize Cz a _ letter=x at *;generalize Cz p _ letter=y at *;generalize (a.nx.length:Int)=n at *;generalize (p.nx.length:Int)=m at *;have h:0<=x*m:=pG f.1 (by omega);have e:(x+1)*m<=n*m:=qi (by omega) (by omega);rw[qW]at e;omega
theorem Vp[Dl TB]{l:List Sys}{a p:AY}(h:∀s∈l,AX s=true)(L:l.length<=3)(ha:AE a=true)(H:AE p=true)(node letter:Int)(c:0<=node)(Z:node<=1048576)(f:0<=letter)(d:letter<6)(outs:List Int)(I:outs.length<=1099511627776) :
 Spec Tryz.prog TB 162 [(0,.cells 3 1 (outs.map AD))] 1 [eI .i64 node,eI .i64 letter,.o (.arr 0 1 0 outs.length),.o (.ip [.l (Hj a)]),.o (.ip [iD p.nx.length]),.o (.ip [iD a.nx.length]),.o (.ip [.l (Hj p)]),.o (.ip (Hd l))]
  (λx σ nx=>x=.o (.arr 1 1 0 (outs++JH l a p node letter).length)/\nx=2/\σ=[(1,.cells 3 1 ((outs++JH l a p node letter).map AD))]):=by
 have han:=Cs ha;have Y:=Cs H;have B:=VH ha H c f d;have t:0<=node / p.nx.length:=qP c (by omega);have V:node / p.nx.length<=node:=qJ _ c;have G:0<=node / p.nx.length / a.nx.length:=qP t (by omega);have U:node / p.nx.length / a.nx.length<=node / p.nx.length:=qJ _ t
 have h4:0<=node / p.nx.length%a.nx.length/\node / p.nx.length%a.nx.length<a.nx.length:=⟨pX _ (by omega),pM _ (by omega)⟩
 have h5:0<=node%p.nx.length/\node%p.nx.length<p.nx.length:=⟨pX _ (by omega),pM _ (by omega)⟩
 have h6:=DH ha (q:=(node / p.nx.length%a.nx.length).toNat) (by omega) f d;have h7:=DH H (q:=(node%p.nx.length).toNat) (by omega) f d;have T:=MH (a:=a) (q:=(node / p.nx.length%a.nx.length).toNat) (by omega);have S:=MH (a:=p) (q:=(node%p.nx.length).toNat) (by omega);have r:=JC (h:=λl=>Cz a (node / p.nx.length%a.nx.length).toNat l) f d;have n:=JC (h:=λl=>Cz p (node%p.nx.length).toNat l) f d
 have el:((letter.toNat:Nat):Int)=letter:=by omega
 have h8:0<=Cz a (node / p.nx.length%a.nx.length).toNat letter*p.nx.length/\Cz a (node / p.nx.length%a.nx.length).toNat letter*p.nx.length<=144:=⟨pG h6.1 (by omega),by
  have:Cz a (node / p.nx.length%a.nx.length).toNat letter*p.nx.length<=12*12:=pE (by omega) (by omega) (by omega) (by omega)
  omega⟩
 simp only[el]at r n;have J:=gF (TB:=TB) l h L (node / p.nx.length / a.nx.length) letter G (by omega) f d outs I;have v:=Tv (Tf h L f d (node / p.nx.length / a.nx.length));have X:=JA h L;have F:Cz a (node / p.nx.length%a.nx.length).toNat letter*p.nx.length+Cz p (node%p.nx.length).toNat letter=Gf a p node letter:=rfl;unfold JH;generalize EK (l.map (·.st)) (ae l (node / p.nx.length / a.nx.length) letter)=low at *;refine eN Tryz.func162 rfl (by kernel_rfl) rfl ?_;intro Γ b;(repeat first|refine tA rfl ?_|refine aU rfl ?_|apply Aa);refine rG (Hm []) (by kernel_rfl) ?_;(repeat first|(refine sA rfl ?_ ?_;first|exact tI|omega)|(refine s4 rfl ‹_› rfl ?_ ?_;omega)|(refine Ag rfl ?_;refine gA rfl ?_;first|refine gS (λ_ _=>ET rfl r) ?_|refine gS (λ_ _=>ET rfl n) ?_)|refine aU rfl ?_|apply Aa);rw[F];refine rG (Hm [8]) (by kernel_rfl) ?_;(repeat first|(refine sA rfl ?_ ?_;first|exact tI|omega));(refine pW rfl ?_ rfl (by rfl);refine Ai [0] rfl rfl J ⟨rfl,by decide,by decide⟩ rfl (by simp[cX,zC,b]) ?_;rintro x0 Q R ⟨rfl,rfl,rfl⟩ _);(repeat first|refine tA rfl ?_|refine aU rfl ?_|apply Aa);apply aB
 have K:∀k,((outs++((low.take k).map (λo=>o*a.nx.length*p.nx.length+Gf a p node letter)++low.drop k)).length)=outs.length+low.length:=by intro k;simp;omega
 refine Ak.A5 (α:={k:Nat // k<=low.length}) (λ⟨k,hk⟩=>[(2,.o (.arr 1 1 0 (outs.length+low.length))),(4,.o (.ip [iD p.nx.length])),(5,.o (.ip [iD a.nx.length])),(12,eI .i64 (Gf a p node letter)),(14,eI .i64 ((outs.length+k:Nat):Int))]) (λ⟨k,hk⟩=>[(1,.cells 3 1 ((outs++((low.take k).map (λo=>o*a.nx.length*p.nx.length+Gf a p node letter)++low.drop k)).map AD))]) 2 (λ⟨k,hk⟩=>low.length-k) (⟨0,by omega⟩) [0,1] (En b rfl rfl) (by (simp[cX,zC,b,Ab.Bi,Ce,I0])) ?_;rintro⟨k,hk⟩;(try dsimp only);(repeat first|refine tM rfl ?_|refine s2 rfl λ_ _hb=>?_|refine aU rfl ?_|apply Aa);(refine aC rfl ?_ ?_<;>rintro⟨⟩)
 ·have w:k<low.length:=by (simp only[oZ] at *;omega)
  obtain⟨x,A⟩:=get_some (l:=low) (k:=k) w;have z:=v.1 x (co A);have m:=fa (outs:=outs) (h:=λo=>o*a.nx.length*p.nx.length+Gf a p node letter) A
  have N:(outs++((low.take k).map (λo=>o*a.nx.length*p.nx.length+Gf a p node letter)++low.drop k))[outs.length+k]?=some x:=by
   rw[gc (by omega),gc (by simp;omega),BF A]
   have e:outs.length+k-outs.length-((low.take k).map (λo=>o*a.nx.length*p.nx.length+Gf a p node letter)).length=0:=by simp;omega
   rw[e];rfl
  have P:=HU (g:=AD) N
  have u:0<=x*a.nx.length/\x*a.nx.length<=49152:=⟨pG z.1 (by omega),by
   have:x*a.nx.length<=4096*12:=pE (by omega) (by omega) (by omega) (by omega)
   omega⟩
  have hm2:0<=x*a.nx.length*p.nx.length/\x*a.nx.length*p.nx.length<=589824:=⟨pG u.1 (by omega),by
   have:x*a.nx.length*p.nx.length<=49152*12:=pE u.2 (by omega) (by omega) (by omega)
   omega⟩
  have hm3:(a.nx.length:Int)*p.nx.length<=144:=by
   have:(a.nx.length:Int)*p.nx.length<=12*12:=pE (by omega) (by omega) (by omega) (by omega);omega
  have hlk:=K k
  have M:((outs.length+k:Nat):Int)+1=((outs.length+(k+1):Nat):Int):=by omega
  have j:=Ig (l:=outs++((low.take k).map (λo=>o*a.nx.length*p.nx.length+Gf a p node letter)++low.drop k)) (k:=outs.length+k) (x:=x) (y:=x*a.nx.length*p.nx.length+Gf a p node letter);rw[m]at j;generalize outs++((low.take k).map (λo=>o*a.nx.length*p.nx.length+Gf a p node letter)++low.drop k)=cur at *;apply aK;refine aS (aB ?_);refine rG (Hm [13]) (by kernel_rfl) ?_;(repeat first|(refine sM rfl ?_ ?_;first|exact tI|omega)|refine t4 rfl ‹_› rfl ?_|refine aU rfl ?_|apply Aa);refine⟨⟨k+1,w⟩,by dsimp only;omega,[0,1],?_⟩;rw[j,M];simp[cX,zC,b]
 ·obtain rfl:k=low.length:=by (simp only[oZ] at *;omega)
  rw[io,q9,pA];apply aE;(repeat first|refine tM rfl ?_|refine aU rfl ?_|apply Aa);refine Ak.names [0,1] [(11,.o (.arr 1 1 0 (outs.length+low.length)))] [(1,.cells 3 1 ((outs++low.map λo=>o*a.nx.length*p.nx.length+Gf a p node letter).map AD))] (by intro i hi;rw[b]at hi;obtain rfl:i=0:=(by omega);rfl) (by simp) (by simp[cX,zC,b]) (by simp[cX,zC,b]) ?_;refine aR ⟨_,rfl,by simp,rfl,rfl⟩
theorem SW(s:Sys):Pure Tryz.prog TB 105 [Br s] (eB (!AX s)):=by
 refine eN Tryz.func105 rfl (by kernel_rfl) rfl ?_;intro Γ b;(repeat' first|refine tA rfl ?_|refine s2 rfl λ_ a=>?_|(refine sC rfl (BL s) ?_;intro _ a)|refine aU rfl ?_|apply Aa|(refine aC rfl ?_ ?_<;>rintro⟨⟩)|apply aK|apply aE|apply aB|refine aR ⟨_,rfl,?_⟩)
 all_goals (show E.o _=E.o _;congr;grind)
def WX:List Sys->Int->Int
 | [],_=>-1
 | s::l,k=>if AX s then WX l (k+1) else k
theorem Uw:∀(l:List Sys) (k:Int),0<=k->(decide (0<=WX l k) = !l.all AX)
 | [],_,_=>rfl
 | s::l,k,h=>by
  unfold WX;by_cases a:AX s=true
  ·rw[if_pos a,Uw l (k+1) (by omega)];simp[a]
  ·rw[if_neg a];simp[a,h]
theorem Tq(l:List Sys):Pure Tryz.prog TB 166 [Gx l,.o (.fn 105 [])] (eI .i64 (WX l 0)):=by
 refine eN Tryz.func166 rfl (by kernel_rfl) rfl ?_;intro Γ a;refine Ak.bound 0 rfl λb=>?_;have f:=b (l.map AL) .refl;(repeat' first|refine sN rfl ?_|refine tA rfl ?_|refine aU rfl ?_|apply Aa|(refine aC rfl ?_ ?_<;>rintro⟨⟩)|apply aK|apply aE|apply aB|refine aR ⟨_,rfl,?_⟩);refine Ak.A5 (α:={k:Nat // k<=l.length/\WX l 0=WX (l.drop k) k}) (λ⟨k,hk,ha⟩=>[(0,Gx l),(1,.o (.fn 105 [])),(7,eI .i64 l.length),(8,eI .i64 k)]) (λ⟨k,hk,ha⟩=>[]) 0 (λ⟨k,hk,ha⟩=>l.length-k) (⟨0,by omega,rfl⟩) [] (En a rfl rfl) (by (simp[cX,zC,a])) ?_;rintro⟨k,hk,ha⟩;(try dsimp only);(repeat first|refine s2 rfl λ_ c=>?_|refine aU rfl ?_|apply Aa);(refine aC rfl ?_ ?_<;>rintro⟨⟩)
 ·obtain⟨x,d⟩:=get_some (l:=l) (k:=k) (by (simp only[oZ] at *;omega))
  have e:=get_map (g:=AL) d;rw[BF d,WX]at ha;(repeat' first|(refine sA rfl ?_ ?_;first|exact tI|simp only[oZ] at *;omega)|(refine s4 rfl ‹_› rfl ?_ ?_;omega)|(refine sC rfl (SW x) ?_;intro _ c)|refine aU rfl ?_|apply Aa|(refine aC rfl ?_ ?_<;>rintro⟨⟩)|apply aK|apply aE|apply aB|refine aR ⟨_,rfl,?_⟩)
  ·rw[if_neg (by grind)]at ha
   show E.o _=E.o _;rw[ha]
  ·rw[if_pos (by grind)]at ha
   refine⟨⟨k+1,by (simp only[oZ] at *;omega),by rw[ha];rfl⟩,by dsimp only;((simp only[oZ] at *;omega)),[],?_⟩;simp[cX,zC,a]
 ·(repeat' first|refine tA rfl ?_|refine aU rfl ?_|apply Aa|(refine aC rfl ?_ ?_<;>rintro⟨⟩)|apply aK|apply aE|apply aB|refine aR ⟨_,rfl,?_⟩)
  rw[qh (by (simp only[oZ] at *;omega))]at ha
  show E.o _=E.o _;rw[ha];rfl
theorem OF(l:List Sys):Pure Tryz.prog TB 104 [Gx l,.o (.fn 105 [])] (eB (!l.all AX)):=by
 have hb:=Uw l 0 (by omega);refine eN Tryz.func104 rfl (by kernel_rfl) rfl ?_;intro Γ a;(repeat' first|refine tA rfl ?_|refine s2 rfl λ_ b=>?_|refine sP rfl (Tq l) rfl ?_|refine aU rfl ?_|apply Aa|(refine aC rfl ?_ ?_<;>rintro⟨⟩)|apply aK|apply aE|apply aB|refine aR ⟨_,rfl,?_⟩)
 all_goals (show E.o _=E.o _;congr;grind)
theorem Hp(l:List Sys):Pure Tryz.prog TB 43 [Gx l] (eB (AV l)):=by
 refine eN Tryz.func43 rfl (by kernel_rfl) rfl ?_;intro Γ b;(repeat' first|refine sN rfl ?_|refine tA rfl ?_|refine s2 rfl λ_ a=>?_|(refine sC rfl (OF l) ?_;intro _ a)|refine s3 rfl ?_ ?_<;>rintro rfl|refine aU rfl ?_|apply Aa|(refine aC rfl ?_ ?_<;>rintro⟨⟩)|apply aK|apply aE|apply aB|refine aR ⟨_,rfl,?_⟩)
 all_goals (show E.o _=E.o _;congr;unfold AV;grind)
theorem FX(l:List Sys):Pure Tryz.prog TB 161 [Gx l] (eI .i64 (Bw l)):=by
 refine eN Tryz.func161 rfl (by kernel_rfl) rfl ?_;intro Γ a;refine Ak.bound 0 rfl λe=>?_;have i:=e (l.map AL) .refl;(repeat' first|refine sN rfl ?_|refine tA rfl ?_|refine s2 rfl λ_ b=>?_|(refine sC rfl (Hp l) ?_;intro _ b)|refine aU rfl ?_|apply Aa|(refine aC rfl ?_ ?_<;>rintro⟨⟩)|apply aK|apply aE|apply aB|refine aR ⟨_,rfl,?_⟩)
 all_goals try (show E.o _=E.o _;congr;unfold Bw;rw[if_neg (by grind)])
 have d:AV l=true:=by grind
 refine Ak.A5 (α:={k:Nat // k<=l.length}) (λ⟨k,hk⟩=>[(3,eI .i64 (HF (l.take k) 0)),(9,Gx l),(10,eI .i64 l.length),(11,eI .i64 k)]) (λ⟨k,hk⟩=>[]) 0 (λ⟨k,hk⟩=>l.length-k) (⟨0,by omega⟩) [] (En a rfl rfl) (by (repeat' first|exact tI|rfl|refine And.intro ?_ ?_)) ?_;rintro⟨k,hk⟩;(try dsimp only);(repeat first|refine s2 rfl λ_ b=>?_|refine aU rfl ?_|apply Aa);(refine aC rfl ?_ ?_<;>rintro⟨⟩)
 ·obtain⟨x,f⟩:=get_some (l:=l) (k:=k) (by (simp only[oZ] at *;omega))
  have h:=get_map (g:=AL) f
  have c:HF (l.take (k+1)) 0=Gq .i64 (HF (l.take k) 0) x.al:=by unfold HF;rw[GW f]
  (repeat' first|(refine sA rfl ?_ ?_;first|exact tI|simp only[oZ] at *;omega)|(refine s4 rfl ‹_› rfl ?_ ?_;omega)|refine aU rfl ?_|apply Aa|(refine aC rfl ?_ ?_<;>rintro⟨⟩)|apply aK|apply aE|apply aB|refine aR ⟨_,rfl,?_⟩);refine⟨⟨k+1,by (simp only[oZ] at *;omega)⟩,by dsimp only;((simp only[oZ] at *;omega)),[],?_⟩;simp[cX,zC,a,c]
 ·(repeat' first|refine tA rfl ?_|refine aU rfl ?_|apply Aa|(refine aC rfl ?_ ?_<;>rintro⟨⟩)|apply aK|apply aE|apply aB|refine aR ⟨_,rfl,?_⟩)
  rw[ge (by (simp only[oZ] at *;omega))]
  show E.o _=E.o _;congr;unfold Bw;rw[if_pos d]
theorem UM{a p:AY}(ha:AE a=true)(e:AE p=true)(node:Int)(d:0<=node)(n:node<=1048576):Pure Tryz.prog TB 164 [eI .i64 node,.o (.ip [.p (AQ a)]),.o (.ip [iD p.nx.length]),.o (.ip [iD a.nx.length]),.o (.ip (AQ p))] (eB (N9 a p node)):=by
 have t:=Cs ha;have j:=Cs e;have u:=AJ ha;have m:=AJ e;have i:0<=node / p.nx.length:=qP d (by omega);have h:node / p.nx.length<=node:=qJ _ d
 have x:0<=node / p.nx.length%a.nx.length/\node / p.nx.length%a.nx.length<a.nx.length:=⟨pX _ (by omega),pM _ (by omega)⟩
 have w:0<=node%p.nx.length/\node%p.nx.length<p.nx.length:=⟨pX _ (by omega),pM _ (by omega)⟩
 obtain⟨b,hb⟩:=get_some (l:=a.ac) (k:=(node / p.nx.length%a.nx.length).toNat) (by omega);obtain⟨c,f⟩:=get_some (l:=p.ac) (k:=(node%p.nx.length).toNat) (by omega)
 have s:(a.ac.map Jj)[(node / p.nx.length%a.nx.length).toNat]?=some (Jj b):=by simp[hb]
 have r:(p.ac.map Jj)[(node%p.nx.length).toNat]?=some (Jj c):=by simp[f]
 have q:N9 a p node=(b && !c):=by simp[N9,List.getD,hb,f]
 rw[q];refine eN Tryz.func164 rfl (by kernel_rfl) rfl ?_;intro Γ g;(repeat' first|(refine sA rfl ?_ ?_;first|exact tI|omega)|(refine s4 rfl ‹_› rfl ?_ ?_;omega)|refine s2 rfl λ_ v=>?_|refine s3 rfl ?_ ?_<;>rintro rfl|refine aU rfl ?_|apply Aa|refine rE (by kernel_rfl) ?_|(refine aC rfl ?_ ?_<;>rintro⟨⟩)|apply aK|apply aE|apply aB|refine aR ⟨_,rfl,?_⟩)
 all_goals (show E.o _=E.o _;first|rfl|(congr;grind))
theorem Ww(a:AY):(Hj a).length=a.nx.length:=by simp[Hj,BO]
def OD:AY:=⟨0,[[]],[true]⟩
theorem fN:AE OD=true:=by decide
theorem jy{l:List Sys}{a p:AY}{ls:List Int}(h:∀s∈l,AX s=true)(d:l.length<=3)(ha:AE a=true)(c:AE p=true):((gI l a p ls).N:Int)=Aw (l.map (·.st))*a.nx.length*p.nx.length/\1<=(gI l a p ls).N/\(gI l a p ls).N<=1048576:=by
 have b:=JA h d;have m:=Cs ha;have k:=Cs c;have j:(gI l a p ls).N=(Aw (l.map (·.st))*a.nx.length*p.nx.length).toNat:=rfl;have i:Aw (l.map (·.st))*a.nx.length<=4096*12:=pE b.2 (by omega) (by omega) (by omega);have g:1*1<=Aw (l.map (·.st))*a.nx.length:=pE b.1 (by omega) (by omega) (by omega);have f:Aw (l.map (·.st))*a.nx.length*p.nx.length<=49152*12:=pE (by omega) (by omega) (by omega) (by omega);have e:1*1<=Aw (l.map (·.st))*a.nx.length*p.nx.length:=pE (by omega) (by omega) (by omega) (by omega);omega
theorem Qx{l:List Sys}{a p:AY}(h:∀s∈l,AX s=true)(d:l.length<=3)(ha:AE a=true)(c:AE p=true){node letter:Int}(m:0<=node)(i:0<=letter)(g:letter<6):(∀y∈JH l a p node letter,0<=y/\y<Aw (l.map (·.st))*a.nx.length*p.nx.length)/\((JH l a p node letter).length:Int)<=Aw (l.map (·.st)):=by
 have r:=Tv (Tf h d i g (node / p.nx.length / a.nx.length));have x:=JA h d;have w:=Cs ha;have v:=Cs c;have u:=VH ha c m i g;refine⟨λy j=>?_,by unfold JH;simp;omega⟩;obtain⟨o,k,rfl⟩:=d9.1 j;have n:=r.1 o k;have e:∀o:Int,o*a.nx.length*p.nx.length=o*(a.nx.length*p.nx.length):=λo=>qG _ _ _;rw[e,e];have f:0<=(a.nx.length:Int)*p.nx.length:=pG (by omega) (by omega);generalize (a.nx.length:Int)*p.nx.length=q at *;have t:0<=o*q:=pG n.1 f;have b:(o+1)*q<=Aw (l.map (·.st))*q:=qi (by omega) f;rw[qW]at b;omega
theorem iM{l:List Sys}{a p:AY}{x:Int}(h:∀s∈l,AX s=true)(c:l.length<=3)(ha:AE a=true)(b:AE p=true):Jg (gI l a p (Ac x)):=by
 have i:=jy (ls:=Ac x) h c ha b;refine⟨?_,λy e m f z d=>?_,Fb _ _⟩
 ·show 0<=(0:Int)/\(0:Int)<_
  omega
 ·have g:=Aj f
  have j:=(Qx h c ha b e.1 g.1 (by omega)).1 z d;omega
theorem PC[Dl TB](l:List Sys)(a p:AY)(h:AV l=true)(ha:AE a=true)(d:AE p=true) :
 Pure Tryz.prog TB 103 [Gx l,.o (.ip (AQ a)),Bk p] (LR (CY (gI l a p (Ac (Gq .i64 (Bw l) a.al))))):=by
 have c:=h;unfold AV at c;simp only[d4,decide_eq_true_eq,f7]at c;obtain⟨⟨v,e⟩,b⟩:=c;have m:=jy (ls:=Ac (Gq .i64 (Bw l) a.al)) b e ha d;have w:=iM (x:=Gq .i64 (Bw l) a.al) b e ha d;have i:=JA b e;have y:=Cs ha;have s:=Cs d;have j:Pure Tryz.prog TB 95 [eI .i64 (Aw (l.map (·.st))*a.nx.length*p.nx.length),Al [0],Al (Ac (Gq .i64 (Bw l) a.al)),.o (.fn 162 [.ip [.l (Hj a)],.ip [iD p.nx.length],.ip [iD a.nx.length],.ip [.l (Hj p)],.ip (Hd l)]),.o (.fn 164 [.ip [.p (AQ a)],.ip [iD p.nx.length],.ip [iD a.nx.length],.ip (AQ p)])]
  (LR (CY (gI l a p (Ac (Gq .i64 (Bw l) a.al))))):=by
  rw[<-m.1];refine LV w m.2.2 (λx f=>by have:=Aj f;omega) (AM _ 6) (λnode x g f=>?_) (λnode x outs g f t=>?_) (λn g=>?_) rfl (λr=>rfl) (λr=>rfl) (De _)
  ·have k:=Aj f
   have z:=(Qx b e ha d g.1 k.1 (by omega)).2;have F:Aw (l.map (·.st))*1<=Aw (l.map (·.st))*a.nx.length:=pB (by omega) (by omega);have B:Aw (l.map (·.st))*a.nx.length*1<=Aw (l.map (·.st))*a.nx.length*p.nx.length:=pB (by omega) (by omega);have A:(((gI l a p (Ac (Gq .i64 (Bw l) a.al))).succ node x).length:Int)<=Aw (l.map (·.st)):=z;omega
  ·have k:=Aj f
   exact Vp b e ha d node x g.1 (by omega) k.1 (by omega) outs t
  ·exact UM ha d n g.1 (by omega)
 have u:0<=Aw (l.map (·.st))*a.nx.length/\Aw (l.map (·.st))*a.nx.length<=49152:=⟨pG (by omega) (by omega),by
  have:Aw (l.map (·.st))*a.nx.length<=4096*12:=pE i.2 (by omega) (by omega) (by omega)
  omega⟩
 refine eN Tryz.func103 rfl (by kernel_rfl) rfl ?_;intro Γ q;(repeat first|refine aU rfl ?_);(refine Ag rfl ?_;refine CM (λ_ _=>Dj rfl rfl rfl) rfl ?_);(refine Ag rfl ?_;refine CM (λ_ _=>Dj rfl rfl rfl) rfl ?_);(repeat first|refine tM rfl ?_|refine sP rfl (Oj l b e) rfl ?_|refine sP rfl (FX l) rfl ?_|refine aU rfl ?_|apply Aa);(refine aC rfl ?_ ?_<;>rintro⟨⟩);apply aK;apply aS;refine R.Rz [(0,2),(1,2),(2,2),(3,2),(4,2),(5,2),(6,3),(7,3),(8,5),(9,5)] mixed (by kernel_rfl) rfl (by kernel_rfl) ?_;(repeat ((refine R.Ag rfl ?_;first|(refine R.yQ (md:=false) rfl rfl rfl ?_ ?_;exact tI)|refine R.yP rfl rfl rfl rfl ?_|refine R.yA rfl rfl rfl rfl ?_|refine R.CM (λ_ _ _=>Bv rfl rfl rfl (FJ a ha) rfl) rfl rfl ?_|refine R.CM (λ_ _ _=>Bv rfl rfl rfl (FJ p d) rfl) rfl rfl ?_ )));refine R.Ru ?_;apply aS;refine Ak.freeze [0,1,2] [(4,.o (.ip [.p (AQ a)])),(5,.o (.ip (AQ p))),(8,.o (.ip (Hd l))),(9,eI .i64 (Bw l)),(10,.o (.ip [.l (Hj a)])),(11,.o (.ip [.l (Hj p)]))] ⟨⟨_,rfl,.AS⟩,⟨_,rfl,.AS⟩,⟨_,rfl,.o (.ptr (by simp) rfl rfl rfl)⟩,⟨_,rfl,.AS⟩,⟨_,rfl,.o (.ptr (by simp) rfl rfl rfl)⟩,⟨_,rfl,.o (.ptr (by simp) rfl rfl rfl)⟩,trivial⟩ ?_;refine R.Rz [(0,2),(1,2),(2,2),(3,2),(4,3),(5,3),(6,5),(7,5)] mixed (by kernel_rfl) rfl (by kernel_rfl) ?_;(repeat ((refine R.Ag rfl ?_;first|(refine R.yQ (md:=false) rfl rfl rfl ?_ ?_;exact tI)|refine R.yP rfl rfl rfl rfl ?_|refine R.yA rfl rfl rfl rfl ?_ )));refine R.Ru ?_;apply aS;simp only[Ww];refine Ak.freeze [3,4] [(4,.o (.ip [.p (AQ a)])),(5,.o (.ip (AQ p))),(8,.o (.ip (Hd l))),(9,eI .i64 (Bw l)),(10,.o (.ip [.l (Hj a)])),(11,.o (.ip [.l (Hj p)])),(12,.o (.ip [iD a.nx.length])),(13,.o (.ip [iD p.nx.length]))] ⟨⟨_,rfl,.AS⟩,⟨_,rfl,.AS⟩,⟨_,rfl,.AS⟩,⟨_,rfl,.AS⟩,⟨_,rfl,.AS⟩,⟨_,rfl,.AS⟩,⟨_,rfl,.o (.ptr (by simp) rfl rfl rfl)⟩,⟨_,rfl,.o (.ptr (by simp) rfl rfl rfl)⟩,trivial⟩ ?_;(repeat first|refine tA rfl ?_|refine aU rfl ?_|apply Aa);refine rG (Hm []) (by kernel_rfl) ?_;(repeat first|(refine sA rfl ?_ ?_;first|exact tI|omega)|refine sP rfl (ZF l b e) rfl ?_|refine sP rfl (C1 _) rfl ?_|refine sP rfl (j) rfl ?_|apply Aa);refine aR ⟨_,rfl,rfl⟩
theorem OG[Dl TB](l:List Sys)(p:AY)(h:AV l=true)(e:AE p=true) :
 Pure Tryz.prog TB 103 [Gx l,.o (.d (.v (.pointer none))),Bk p] (LR (CY (gI l OD p (Ac (Gq .i64 (Bw l) OD.al))))):=by
 obtain⟨a,g⟩:∃a,a=OD:=⟨_,rfl⟩
 have ha:AE a=true:=by rw[g];exact fN
 rw [<-g];have c:=h;unfold AV at c;simp only[d4,decide_eq_true_eq,f7]at c;obtain⟨⟨z,f⟩,b⟩:=c;have s:=jy (ls:=Ac (Gq .i64 (Bw l) a.al)) b f ha e;have A:=iM (x:=Gq .i64 (Bw l) a.al) b f ha e;have k:=JA b f;have B:=Cs ha;have u:=Cs e;have m:Pure Tryz.prog TB 95 [eI .i64 (Aw (l.map (·.st))*a.nx.length*p.nx.length),Al [0],Al (Ac (Gq .i64 (Bw l) a.al)),.o (.fn 162 [.ip [.l (Hj a)],.ip [iD p.nx.length],.ip [iD a.nx.length],.ip [.l (Hj p)],.ip (Hd l)]),.o (.fn 164 [.ip [.p (AQ a)],.ip [iD p.nx.length],.ip [iD a.nx.length],.ip (AQ p)])]
  (LR (CY (gI l a p (Ac (Gq .i64 (Bw l) a.al))))):=by
  rw[<-s.1];refine LV A s.2.2 (λx i=>by have:=Aj i;omega) (AM _ 6) (λnode x j i=>?_) (λnode x outs j i w=>?_) (λn j=>?_) rfl (λr=>rfl) (λr=>rfl) (De _)
  ·have q:=Aj i
   have F:=(Qx b f ha e j.1 q.1 (by omega)).2;have I:Aw (l.map (·.st))*1<=Aw (l.map (·.st))*a.nx.length:=pB (by omega) (by omega);have H:Aw (l.map (·.st))*a.nx.length*1<=Aw (l.map (·.st))*a.nx.length*p.nx.length:=pB (by omega) (by omega);have G:(((gI l a p (Ac (Gq .i64 (Bw l) a.al))).succ node x).length:Int)<=Aw (l.map (·.st)):=F;omega
  ·have q:=Aj i
   exact Vp b f ha e node x j.1 (by omega) q.1 (by omega) outs w
  ·exact UM ha e n j.1 (by omega)
 have y:0<=Aw (l.map (·.st))*a.nx.length/\Aw (l.map (·.st))*a.nx.length<=49152:=⟨pG (by omega) (by omega),by
  have:Aw (l.map (·.st))*a.nx.length<=4096*12:=pE k.2 (by omega) (by omega) (by omega)
  omega⟩
 refine eN Tryz.func103 rfl (by kernel_rfl) rfl ?_;intro Γ t;(repeat first|refine aU rfl ?_);(refine pW rfl ?_ rfl (by rfl);refine Dm rfl rfl ?_);(refine Ag rfl ?_;refine CM (λ_ _=>Dj rfl rfl rfl) rfl ?_);(repeat first|refine tM rfl ?_|refine sP rfl (Oj l b f) rfl ?_|refine sP rfl (FX l) rfl ?_|refine aU rfl ?_|apply Aa);(refine aC rfl ?_ ?_<;>rintro⟨⟩);(repeat first|refine tA rfl ?_|(refine Ag rfl ?_;refine gA rfl ?_;first|refine gS (λ_ _=>AG rfl rfl (by rfl) (by rfl)) ?_)|refine aU rfl ?_|apply Aa);refine Ak.freeze [0,1] [(4,.o (.ip [.p (AQ a)])),(5,.o (.ip (AQ p))),(8,.o (.ip (Hd l))),(9,eI .i64 (Bw l))] ⟨⟨_,rfl,.o (.ptr (by simp) rfl rfl (by rw[g];rfl))⟩,⟨_,rfl,.AS⟩,⟨_,rfl,.o (.ptr (by simp) rfl rfl rfl)⟩,⟨_,rfl,.AS⟩,trivial⟩ ?_;refine R.Rz [(0,2),(1,2),(2,2),(3,2),(4,2),(5,2),(6,3),(7,3),(8,5),(9,5)] mixed (by kernel_rfl) rfl (by kernel_rfl) ?_;(repeat ((refine R.Ag rfl ?_;first|(refine R.yQ (md:=false) rfl rfl rfl ?_ ?_;exact tI)|refine R.yP rfl rfl rfl rfl ?_|refine R.yA rfl rfl rfl rfl ?_|refine R.CM (λ_ _ _=>Bv rfl rfl rfl (FJ a ha) rfl) rfl rfl ?_|refine R.CM (λ_ _ _=>Bv rfl rfl rfl (FJ p e) rfl) rfl rfl ?_ )));refine R.Ru ?_;apply aS;refine Ak.freeze [2,3] [(4,.o (.ip [.p (AQ a)])),(5,.o (.ip (AQ p))),(8,.o (.ip (Hd l))),(9,eI .i64 (Bw l)),(10,.o (.ip [.l (Hj a)])),(11,.o (.ip [.l (Hj p)]))] ⟨⟨_,rfl,.AS⟩,⟨_,rfl,.AS⟩,⟨_,rfl,.AS⟩,⟨_,rfl,.AS⟩,⟨_,rfl,.o (.ptr (by simp) rfl rfl rfl)⟩,⟨_,rfl,.o (.ptr (by simp) rfl rfl rfl)⟩,trivial⟩ ?_;refine R.Rz [(0,2),(1,2),(2,2),(3,2),(4,3),(5,3),(6,5),(7,5)] mixed (by kernel_rfl) rfl (by kernel_rfl) ?_;(repeat ((refine R.Ag rfl ?_;first|(refine R.yQ (md:=false) rfl rfl rfl ?_ ?_;exact tI)|refine R.yP rfl rfl rfl rfl ?_|refine R.yA rfl rfl rfl rfl ?_ )));refine R.Ru ?_;apply aS;simp only[Ww];refine Ak.freeze [4,5] [(4,.o (.ip [.p (AQ a)])),(5,.o (.ip (AQ p))),(8,.o (.ip (Hd l))),(9,eI .i64 (Bw l)),(10,.o (.ip [.l (Hj a)])),(11,.o (.ip [.l (Hj p)])),(12,.o (.ip [iD a.nx.length])),(13,.o (.ip [iD p.nx.length]))] ⟨⟨_,rfl,.AS⟩,⟨_,rfl,.AS⟩,⟨_,rfl,.AS⟩,⟨_,rfl,.AS⟩,⟨_,rfl,.AS⟩,⟨_,rfl,.AS⟩,⟨_,rfl,.o (.ptr (by simp) rfl rfl rfl)⟩,⟨_,rfl,.o (.ptr (by simp) rfl rfl rfl)⟩,trivial⟩ ?_;(repeat first|refine tA rfl ?_|refine aU rfl ?_|apply Aa);refine rG (Hm []) (by kernel_rfl) ?_;(repeat first|(refine sA rfl ?_ ?_;first|exact tI|omega)|refine sP rfl (ZF l b f) rfl ?_|refine sP rfl (C1 _) rfl ?_|refine sP rfl (m) rfl ?_|apply Aa);refine aR ⟨_,rfl,rfl⟩
end Go.Am
