/-
  Reversed bytes; the word of a path.
-/
import Derived.Test.YtdipaikojjjebaaGreatDoorPart24
set_option linter.all false
namespace Go.Am
open Go Go.Proofs
set_option maxHeartbeats 1000000
set_option maxRecDepth 4000
attribute [local irreducible] A5 Ck Lex Br Aj Spec
variable {TB:BJ}
def EW(bs:List UInt8)(k i:Nat):UInt8:=if i<k\/bs.length<=i+k then bs.getD (bs.length-1-i) 0 else bs.getD i 0
theorem mA(bs:List UInt8):(CC bs.length λi=>Jf (EW bs 0 i))=bs.map Jf:=by
 apply sw;intro i;by_cases hi:i<bs.length
 ·rw[Fy (g:=λi=>Jf (EW bs 0 i)) hi]
  unfold EW;rw[if_neg (by omega)];simp[List.getD,hi]
 ·rw[qT (by simp[CC];omega),qT (by simp;omega)]
theorem gE(bs:List UInt8){k:Nat}(hk:bs.length<=2*k+1):(CC bs.length λi=>Jf (EW bs k i))=bs.reverse.map Jf:=by
 apply sw;intro i;by_cases hi:i<bs.length
 ·rw [Fy (g:=λi=>Jf (EW bs k i)) hi]
  unfold EW
  have b:bs.reverse[i]?=some (bs.getD (bs.length-1-i) 0):=by
   rw[List.getElem?_reverse hi]
   have:bs.length-1-i<bs.length:=by omega
   simp[List.getD,this]
  rw[f6,b];by_cases a:i<k\/bs.length<=i+k
  ·rw[if_pos a];rfl
  ·rw[if_neg a]
   have:bs.length-1-i=i:=by omega
   rw[this];rfl
 ·rw[qT (by simp[CC];omega),qT (by simp;omega)]
theorem ae(r:Nat->Nat)(l:List UInt8):(l.map Jf).map (C.Cp r)=l.map Jf:=by
 rw[rL];exact rB λc _=>rfl
theorem JH(r:Nat->Nat)(c:UInt8):C.Cp r (Jf c)=Jf c:=rfl
theorem Yv(r:Nat->Nat)(n:Nat)(H:Nat->UInt8):(CC n λi=>Jf (H i)).map (C.Cp r)=CC n λi=>Jf (H i):=by
 unfold CC;rw[rL];exact rB λi _=>rfl
theorem Tk{n q:Nat}{H:Nat->UInt8}(h:q<n):(CC n λi=>Jf (H i))[0+((q:Nat):Int).toNat]?=some (Jf (H q)):=by
 rw[ms,d8];exact Fy (g:=λi=>Jf (H i)) h
theorem av{n q:Nat}{H:Nat->UInt8}{c d:UInt8}:(CC n λi=>Jf (H i)).set (0+((q:Nat):Int).toNat) (Ae (Jf d) 0 (eC (eI .u8 (c.toNat:Nat))))=CC n λi=>Jf (if i=q then c else H i):=by
 rw[ms,d8];have e:Ae (Jf d) 0 (eC (eI .u8 (c.toNat:Nat)))=Jf c:=rfl;rw[e,Nw];refine ED λi _=>?_;by_cases h:i=q<;>simp[h]
theorem Yw(bs:List UInt8)(hb:bs.length<=1099511627776):Spec Tryz.prog TB 206 [(0,.cells 5 1 (bs.map Jf))] 1 [.o (.arr 0 1 0 bs.length)] (λx σ nx=>x=.t []/\nx=1/\σ=[(0,.cells 5 1 (bs.reverse.map Jf))]):=by
 refine eN Tryz.func206 rfl (by kernel_rfl) rfl ?_;intro U b;(repeat first|(refine sM rfl ?_ ?_;first|exact tI|omega)|refine aU rfl ?_|apply Aa);apply aB;refine Aj.Be (α:={k:Nat // k<=bs.length}) (λ⟨k,hk⟩=>[(0,.o (.arr 0 1 0 bs.length)),(2,eI .i64 k),(3,eI .i64 ((bs.length:Int)-1-k))]) (λ⟨k,hk⟩=>[(0,.cells 5 1 (CC bs.length λi=>Jf (EW bs k i)))]) 1 (λ⟨k,hk⟩=>bs.length-k) (⟨0,by omega⟩) [0] (Fw b rfl rfl) (by (simp[cX,zC,b,Yv,mA,JH])) ?_;rintro⟨k,hk⟩;(try dsimp only);(repeat first|refine tM rfl ?_|refine s2 rfl λ_ B=>?_|refine aU rfl ?_|apply Aa);(refine aC rfl ?_ ?_<;>rintro⟨⟩)
 ·have u:2*k+1<bs.length:=by (simp only[oZ] at *;omega)
  obtain⟨m,F⟩:∃m:Nat,m=bs.length-1-k:=⟨_,rfl⟩
  have A:(bs.length:Int)-1-k=((m:Nat):Int):=by omega
  have l:EW bs k k=bs.getD k 0:=by unfold EW;rw[if_neg (by omega)]
  have h:EW bs k m=bs.getD m 0:=by unfold EW;rw[if_neg (by omega)]
  have w:=Tk (H:=EW bs k) (q:=k) (n:=bs.length) (by omega);have v:=Tk (H:=EW bs k) (q:=m) (n:=bs.length) (by omega);have e:=av (n:=bs.length) (q:=k) (H:=EW bs k) (c:=EW bs k m) (d:=EW bs k k);have a:=Tk (H:=λi=>if i=k then EW bs k m else EW bs k i) (q:=m) (n:=bs.length) (by omega);have f:=av (n:=bs.length) (q:=m) (H:=λi=>if i=k then EW bs k m else EW bs k i) (c:=EW bs k k) (d:=EW bs k m)
  have g:m≠k:=by omega
  rw[if_neg g]at a
  have y:(CC bs.length λi=>Jf (if i=m then EW bs k k else if i=k then EW bs k m else EW bs k i))=CC bs.length λi=>Jf (EW bs (k+1) i):=ED λi hi=>by
   congr 1;by_cases s:i=m
   ·subst s;rw[if_pos rfl,l];unfold EW;rw[if_pos (by omega)];congr 1;omega
   ·rw [if_neg s]
    by_cases r:i=k
    ·subst r;rw[if_pos rfl,h];unfold EW;rw[if_pos (by omega)];congr 1
    ·rw[if_neg r];unfold EW
     by_cases p:i<k\/bs.length<=i+k
     ·rw[if_pos p,if_pos (by omega)]
     ·rw[if_neg p,if_neg (by omega)]
  rw[<-e]at a;rw[A];apply aK;refine aS (aB ?_);refine rG (qE [13,15] [2,3]) (by kernel_rfl) ?_;(repeat first|(refine sM rfl ?_ ?_;first|exact tI|omega)|refine t4 rfl ‹_› rfl ?_|refine aU rfl ?_|apply Aa);refine⟨⟨k+1,by omega⟩,by dsimp only;(omega),[0],?_⟩;rw[e,f,y]
  have z:(m:Int)-1=bs.length-1-(k+1):=by omega
  simp[cX,zC,b,Yv,z]
 ·have j:bs.length<=2*k+1:=by (simp only[oZ] at *;omega)
  rw[gE bs j];exact aE ⟨_,rfl,rfl,rfl,rfl⟩
abbrev kM(s:OE):List D:=[iD s.p,iD s.l,EA s.ns]
abbrev Qr(s:OE):List C:=[.d (iD s.p),.d (iD s.l),.d (EA s.ns)]
abbrev g9(l:List OE):D:=.l (l.map kM)
theorem bV{l:Int}(e:0<=l)(c:l<6):Jf (UInt8.ofNat (97+l.toNat))=[.d (.v (.int .u8 (97+l)))]:=by
 have b:(97+l.toNat)%256=97+l.toNat:=rt (by omega)
 have a:(97+l:Int)=((97+l.toNat:Nat):Int):=by omega
 simp[Jf,b,a]
theorem kj(o:List Int):(C0 o).reverse=C0 o.reverse:=by simp[C0]
theorem VG{ls:List Int}{steps:List OE}{ws:List (List Int)}(h:Chain ls steps ws)(I:∀l∈ls,0<=l/\l<6){w:List Int}(n:1<=steps.length/\steps.length<=2097152)(P:ws[steps.length-1]?=some w):Pure Tryz.prog TB 155 [.o (.d (g9 steps))] (eT (C0 w)):=by
 refine eN Tryz.func155 rfl (by kernel_rfl) rfl ?_;intro U a;(repeat first|refine tM rfl ?_|refine aU rfl ?_|apply Aa);(refine pW rfl ?_ rfl (by rfl);refine G0 1 5 ?_);(repeat first|refine sN rfl ?_|(refine sM rfl ?_ ?_;first|exact tI|omega)|refine aU rfl ?_|apply Aa);apply aB;refine Aj.Be (α:={x:Nat×List Int // x.1+x.2.length<steps.length/\∃v,ws[x.1]?=some v/\w=v++x.2.reverse}) (λ⟨⟨i,o⟩,z⟩=>[(0,.o (.d (g9 steps))),(3,.o (.arr 0 1 0 o.length)),(4,eI .i64 i)]) (λ⟨⟨i,o⟩,z⟩=>[(0,.cells 5 1 ((C0 o).map Jf))]) 1 (λ⟨⟨i,o⟩,z⟩=>i) (⟨(steps.length-1,[]),by simp;omega,w,P,by simp⟩) [0] (Fw a rfl rfl) (by (simp[cX,zC,a,C0,Int.ofNat_sub,n.1])) ?_;rintro⟨⟨i,o⟩,z⟩;(try dsimp only);obtain⟨hi,v,B,b⟩:=z;simp only at hi B b;obtain⟨s,K⟩:=get_some (l:=steps) (k:=i) (by omega);have R:=get_map (g:=kM) K;have t:=h.chain i s K
 have G:(C0 o).length=o.length:=by simp[C0]
 (repeat first|refine tM rfl ?_|(refine s4 rfl ‹_› rfl ?_ ?_;omega)|refine s2 rfl λ_ X=>?_|refine aU rfl ?_|apply Aa);(refine aC rfl ?_ ?_<;>rintro⟨⟩)
 ·obtain⟨q,u,T,S,H,y,V⟩:∃(q:Nat) (u:List Int),s.p=(q:Int)/\q<i/\ws[q]?=some u/\ws[i]?=some (u++[s.l])/\s.l∈ls:=by
   rcases t with ⟨e,_⟩|e
   ·exfalso;(simp only[oZ] at *;omega)
   ·exact e
  have c:=I _ V;rw[B]at y
  injection y with y
  have J:=bV c.1 c.2
  have F:C0 (o++[s.l])=C0 o++[UInt8.ofNat (97+s.l.toNat)]:=by simp[C0]
  have j:(C0 (o++[s.l])).map Jf=(C0 o).map Jf++[[.d (.v (.int .u8 (97+s.l)))]]:=by rw[F,rI,rX,J];rfl
  apply aK;refine aS (aB ?_);(repeat first|refine tA rfl ?_|(refine s4 rfl ‹_› rfl ?_ ?_;omega)|refine sP rfl (Ry s.l c.1 (by omega)) rfl ?_|refine aU rfl ?_);(refine pW rfl ?_ rfl (by rfl);refine Au rfl rfl rfl (by first|(simp;done)|(simp;(omega))) rfl (by intro r L;simp at L;subst L;rfl) (by rfl) (ce rfl) (by simp;omega) ?_);(repeat first|refine tX rfl ?_|(refine s4 rfl ‹_› rfl ?_ ?_;omega)|refine aU rfl ?_|apply Aa);refine⟨⟨(q,o++[s.l]),by simp;omega,u,H,by rw[b,y];simp⟩,by dsimp only;omega,[1],?_⟩;dsimp only;rw[j];simp[cX,zC,a,T,JH]
 ·have A:v=[]:=by
   rcases t with ⟨_,e⟩|⟨q,u,e,_⟩
   ·rw[B]at e;injection e
   ·exfalso;(simp only[oZ] at *;omega)
  subst A
  have f:w=o.reverse:=by rw[b];rfl
  have m:=Yw (TB:=TB) (C0 o) (by omega);rw[G,kj,<-f]at m;apply aE;(repeat first|refine tM rfl ?_|refine aU rfl ?_);(refine pW rfl ?_ rfl (by rfl);refine Ag [0] rfl rfl m ⟨rfl,by simp,by simp⟩ rfl (by simp[cX,zC,a,JH]) ?_;rintro Y M N ⟨rfl,rfl,rfl⟩ _)
  have Q:(C0 w).length=o.length:=by rw[f];simp[C0]
  (repeat first|refine tM rfl ?_|(refine Al rfl ?_;refine gA rfl ?_;first|refine gQ (ZX (C0 w) rfl rfl (by simp;omega) (by rw[sv,ae,kw (by simp;omega)])) (by rfl) ?_)|refine aU rfl ?_|apply Aa);refine aR ⟨_,rfl,rfl⟩
theorem kV(p:Nat->Prop):(∀i,i<5->p i)↔p 0/\p 1/\p 2/\p 3/\p 4:=by
 constructor
 ·intro h;exact⟨h 0 (by omega),h 1 (by omega),h 2 (by omega),h 3 (by omega),h 4 (by omega)⟩
 ·rintro⟨e,d,c,b,a⟩ i hi
  have:i=0\/i=1\/i=2\/i=3\/i=4:=by omega
  rcases this with rfl|rfl|rfl|rfl|rfl<;>assumption
theorem im{goal:Int->Bool}{seen:List Bool}{nodes:List Int}{k:Nat}{x:Int}(h:nodes[k]?=some x):Uf goal seen (nodes.take (k+1))=WQ goal (Uf goal seen (nodes.take k)) x:=by
 unfold Uf;rw[GS h]
theorem Wt{l:List Bool}{n:Int}:(l.map AO).set (0+n.toNat) (Ae (AO false) 0 (eC (eB true)))=(l.set n.toNat true).map AO:=by
 simp[Ae,eC,sh]
abbrev Gi(N:Nat)(gG:FuncId)(capsG:List C)(seen:List Bool)(q:Nat)(steps:List OE):Ac:=
 [(0,.cells 27 1 [[.arr 1 1 0 N]]),(1,.cells 4 1 (seen.map AO)),(2,.cells 124 1 [[.fn gG capsG]]),(3,.cells 191 1 [[.arr q 3 0 steps.length]]),(q,.cells 193 3 (steps.map Qr))]
theorem WO{goal:Int->Bool}{gG:FuncId}{capsG:List C}{N:Nat}(M:∀n:Int,0<=n/\n<N->Pure Tryz.prog TB gG ([eI .i64 n]++capsG.map .o) (eB (goal n)))(G:C.Ie capsG=true)(d:∀r,C.Cp r capsG=capsG)
 (seen:List Bool) (steps:List OE) (p l:Int) (nodes:List Int) (R:seen.length=N) (T:N<=1048576) (Q:steps.length<=1048576) (u:∀n∈nodes,0<=n/\n<N) :
 Spec Tryz.prog TB 154 (Gi N gG capsG seen 4 steps) 5 [eI .i64 p,eI .i64 l,Ak nodes,.o (.ptr 0 1 0 0),.o (.ptr 2 1 0 0),.o (.ptr 3 1 0 0)]
  (λx σ nx=>x=eB (Uf goal seen nodes).found/\∃q,(q=4/\nx=5\/q=5/\nx=6)/\σ=Gi N gG capsG (Uf goal seen nodes).seen q (EX steps p l (Uf goal seen nodes).fresh)):=by
 have s:∀k,mQ goal N seen (nodes.take k) (Uf goal seen (nodes.take k)):=λk=>YT R λn F=>u n (q7 F);refine eN Tryz.func154 rfl (by kernel_rfl) rfl ?_;intro U a;refine Aj.bound 2 rfl λK=>?_;have S:=K _ .refl;rw[gt]at S;(repeat first|refine tM rfl ?_|refine aU rfl ?_|apply Aa);(refine pW rfl ?_ rfl (by rfl);refine G0 1 3 ?_);(repeat first|refine sN rfl ?_|refine tM rfl ?_|refine aU rfl ?_|apply Aa);apply aB;refine Aj.Be (α:={k:Nat // k<=nodes.length}) (λ⟨k,hk⟩=>[(0,eI .i64 p),(1,eI .i64 l),(3,.o (.ptr 0 1 0 0)),(4,.o (.ptr 2 1 0 0)),(5,.o (.ptr 3 1 0 0)),(10,.o (.arr 5 1 0 (Uf goal seen (nodes.take k)).fresh.length)),(11,eB (Uf goal seen (nodes.take k)).found),(14,Ak nodes),(15,eI .i64 nodes.length),(16,eI .i64 k)]) (λ⟨k,hk⟩=>Gi N gG capsG (Uf goal seen (nodes.take k)).seen 4 steps++[(5,.cells 3 1 ((Uf goal seen (nodes.take k)).fresh.map Av))]) 6 (λ⟨k,hk⟩=>nodes.length-k) (⟨0,by omega⟩) [0,1,2,3,4,5] (Fw a rfl rfl) (by (simp[cX,zC,a,Gi,Uf,d])) ?_;rintro⟨k,hk⟩;(try dsimp only);have i:=s k;have c:=λx=>im (goal:=goal) (seen:=seen) (nodes:=nodes) (k:=k) (x:=x);generalize L:Uf goal seen (nodes.take k)=v at *;(repeat first|refine s2 rfl λ_ f=>?_|refine aU rfl ?_|apply Aa);(refine aC rfl ?_ ?_<;>rintro⟨⟩)
 ·obtain⟨x,z⟩:=get_some (l:=nodes) (k:=k) (by (simp only[oZ] at *;omega))
  have P:=get_map (g:=Bc) z;have m:=u x (co z);have c:=c x z;have A:=i.len;obtain⟨b,hb⟩:=get_some (l:=v.seen) (k:=x.toNat) (by omega)
  have J:(v.seen.map AO)[0+x.toNat]?=some (AO b):=by simp[hb]
  have B:sn v.seen x=b:=by simp[sn,List.getD,hb]
  have h:v.fresh.length<=N:=by
   refine GD _ _ i.nd λy w=>u y (q7 ((i.fr y).1 w).1)
  unfold WQ at c;rw[B]at c;obtain⟨vse,vfr,vfd⟩:=v;simp only at c A hb J h;apply aK;refine aS (aB ?_);(repeat first|((first|refine sM rfl ?_ ?_|refine s4 rfl ‹_› rfl ?_ ?_);first|exact tI|omega)|refine s2 rfl λ_ f=>?_|refine aU rfl ?_|apply Aa);(refine aC rfl ?_ ?_<;>rintro⟨⟩)
  ·have I:b=false:=by simpa using f
   subst I;rw[if_neg (by simp)]at c;(repeat first|(refine sA rfl ?_ ?_;first|exact tI|omega)|refine t4 rfl ‹_› rfl ?_|refine aU rfl ?_|apply Aa);(refine pW rfl ?_ rfl (by rfl);refine Au rfl rfl rfl (by first|(simp;done)|(simp;(omega))) rfl (by intro r t;simp at t;subst t;rfl) (by rfl) (ce rfl) (by simp;omega) ?_);(repeat first|(refine sX rfl ?_ ?_;first|exact tI|simp only[oZ] at *;omega)|refine s3 rfl ?_ ?_<;>rintro rfl|refine aU rfl ?_|apply Aa);(repeat first|(refine sC rfl (M x m) ?_;intro _ f)|(refine Al rfl ?_;refine gA rfl ?_;first|refine gQ (TS rfl rfl rfl rfl) (by rfl) ?_))
   ·refine⟨⟨k+1,by (simp only[oZ] at *;omega)⟩,by dsimp only;((simp only[oZ] at *;omega)),[0,1,2,3,4,6],?_⟩
    rw[Wt];simp[cX,zC,a,c,Gi,d,kV]
   ·(repeat first|(refine sA rfl ?_ ?_;first|exact tI|simp only[oZ] at *;omega)|(refine Al rfl ?_;refine gA rfl ?_;first|(refine gB (λ_ _=>Fu rfl rfl (by simp[E.Gz,C.Gz,G]) (M x m) rfl) ?_;intro _ f))|refine aU rfl ?_|apply Aa)
    refine⟨⟨k+1,by (simp only[oZ] at *;omega)⟩,by dsimp only;((simp only[oZ] at *;omega)),[0,1,2,3,4,6],?_⟩;rw[Wt];simp[cX,zC,a,c,Gi,d,kV,f]
  ·have H:b=true:=by simpa using f
   subst H;rw[if_pos rfl]at c;apply aK;(repeat first|(refine sM rfl ?_ ?_;first|exact tI|simp only[oZ] at *;omega)|refine aU rfl ?_|apply Aa);refine⟨⟨k+1,by (simp only[oZ] at *;omega)⟩,by dsimp only;((simp only[oZ] at *;omega)),[0,1,2,3,4,5],?_⟩;simp[cX,zC,a,c,Gi,d,kV]
 ·obtain rfl:k=nodes.length:=by (simp only[oZ] at *;omega)
  rw[i8]at L;subst L;apply aE
  have h:(Uf goal seen nodes).fresh.length<=N:=by
   have i:=s nodes.length;rw[i8]at i;refine GD _ _ i.nd λy w=>u y ((i.fr y).1 w).1
  generalize Uf goal seen nodes=vv at *;obtain⟨vse,vfr,vfd⟩:=vv;have h:vfr.length<=N:=h;(repeat first|refine tM rfl ?_|refine s2 rfl λ_ f=>?_|refine aU rfl ?_|apply Aa);(refine aC rfl ?_ ?_<;>rintro⟨⟩)
  ·have j:vfr≠[]:=λe=>by rw[e]at f;simp at f
   refine Aj.freeze [5] [(0,eI .i64 p),(1,eI .i64 l),(5,.o (.ptr 3 1 0 0)),(10,Ak vfr),(11,eB vfd)] ⟨⟨_,rfl,.A0⟩,⟨_,rfl,.A0⟩,⟨_,rfl,.A0⟩,⟨_,rfl,.o (.full (by simp) rfl (by simp[d5]) (by simp))⟩,⟨_,rfl,.A0⟩,trivial⟩ ?_;(repeat first|refine tA rfl ?_|(refine Al rfl ?_;refine gA rfl ?_;first|refine gS (λ_ _=>AS rfl rfl (by rfl) (by rfl)) ?_)|refine aU rfl ?_);(refine pW rfl ?_ rfl (by rfl);refine Au rfl rfl rfl (by first|(simp;done)|(simp;(omega))) rfl (by intro r t;simp at t;subst t;rfl) (by rfl) (ce rfl) (by simp;omega) ?_);(repeat first|refine tX rfl ?_|refine aU rfl ?_|apply Aa);refine Aj.names [0,1,2,3,4,6] [(9,eB vfd)] (Gi N gG capsG vse 5 (EX steps p l vfr)) (by rw[a];decide) (by decide) (by simp[cX,zC,a]) (by simp[cX,zC,a,Gi,d,EX,j,CS,Ae,eC]) ?_;refine aR ⟨_,rfl,rfl,5,.inr ⟨rfl,rfl⟩,rfl⟩
  ·have j:vfr=[]:=pp.1 (by (simp only[oZ] at *;omega))
   subst j;apply aK;(repeat first|refine tM rfl ?_|refine aU rfl ?_|apply Aa);refine Aj.names [0,1,2,3,4] [(9,eB vfd)] (Gi N gG capsG vse 4 steps) (by rw[a];decide) (by decide) (by simp[cX,zC,a]) (by simp[cX,zC,a,Gi,d]) ?_;refine aR ⟨_,rfl,rfl,4,.inl ⟨rfl,rfl⟩,by simp[EX]⟩
theorem fp{P:Program}{U:Ctx}{d:Option Tmp}{ty:TypeId}{pos:String}{af:Array Edge}{g:Option (Nat×Bool)}{f:Env}{σ:Ac}{nx:Nat}{K:E->Ac->Nat->Prop}{T:TypeId}(k e:Nat)[r:BN P T [.slice none 0 0]]
 (u:K (.o (.ptr (nx+1) 1 0 0)) ((nx+1,.cells T 1 [[.arr nx k 0 0]])::(nx,.cells e k [])::σ) (nx+2)):Ck P TB U ⟨d,.alloc T,ty,pos,af,g⟩ f σ nx K:=
 DC λV ρ z y x=>by
  subst x;obtain⟨i,zv,hi,b,a⟩:=HF r.out
  have h:zv.cells = #[.slice none 0 0]:=by have:=congrArg List.toArray a;simpa using this
  obtain⟨m,p⟩:=y.alloc (c:=0) (nl:=True) (w:=V.w) (ob:=.cells e k []) rfl rfl rfl rfl (lc _) (λ_ _=>rfl) (.inl ⟨by simp[Az],rfl⟩)
  have t:Da (Az V V.w.heap.size 0 True V.w) [.arr V.nx k 0 0] zv.cells:=by
   rw[h];refine⟨rfl,λj c v l q=>?_⟩
   match j with
   | 0=>simp at l q;subst l q;exact AP.nil (by simp[Az]) (by simp[Az])
   | j+1=>simp at l
  obtain⟨n,s⟩:=SS m (T:=T) t;refine⟨.pointer (some ⟨V.w.heap.size,0,none⟩),_,_,_,?_,p.trans s,n,?_,u⟩
  ·simp[execOp,Instr.alloc,zeroValue,typeInfo,hi,b,newVar,newRow,Az,go_sem]
  ·exact OW
theorem So(r:Nat->Nat):∀(l m:List E),Hd r (l++m)=Hd r l++Hd r m
 | [],m=>rfl
 | e::l,m=>by simp[Hd,So r l m]
theorem Qg(r:Nat->Nat):∀(l:List C),Hd r (l.map .o)=(C.Cp r l).map .o
 | []=>rfl
 | c::l=>by simp[Hd,C.Cp,E.Bj,Qg r l]
def kQ(P:Program)(TB:BJ)(T:TypeId)(g:Gr)(gN:FuncId)(capsN:List C):Prop:=
 ∀(node l:Int) (outs:List Int),0<=node/\node<g.N->l∈g.ls->outs.length<=1099511627776->
  Spec P TB gN [(0,.cells T 1 (outs.map Av))] 1 ([eI .i64 node,eI .i64 l,.o (.arr 0 1 0 outs.length)]++capsN.map .o) (λx σ nx=>x=.o (.arr 1 1 0 (outs++g.succ node l).length)/\nx=2/\σ=[(1,.cells T 1 ((outs++g.succ node l).map Av))])
theorem LB{g:Gr}(Q:Jh g)(hN:g.N<=1048576)(Y:∀l∈g.ls,0<=l/\l<6)(hll:g.ls.length<=6)(hsl:∀(node l:Int),0<=node/\node<g.N->l∈g.ls->(g.succ node l).length<=g.N)
 {gN gG:FuncId} {capsN capsG:List C} (hNx:kQ Tryz.prog TB 3 g gN capsN) (hG:∀n:Int,0<=n/\n<g.N->Pure Tryz.prog TB gG ([eI .i64 n]++capsG.map .o) (eB (g.goal n)))
 (hcG:C.Ie capsG=true) (d:∀r,C.Cp r capsG=capsG) (h:∀r,C.Cp r capsN=capsN) {r:Option (List Int)} (hr:Cs g r) :
 Pure Tryz.prog TB 95 [eI .i64 g.N,Ak [g.s0],Ak g.ls,.o (.fn gN capsN),.o (.fn gG capsG)] (Ov r):=by
 refine eN Tryz.func95 rfl (by kernel_rfl) rfl ?_;intro U b;(repeat first|refine aU rfl ?_);(refine pW rfl ?_ rfl (by rfl);refine KG rfl rfl ?_);(repeat first|refine tM rfl ?_|refine aU rfl ?_|apply Aa);(refine pW rfl ?_ rfl (by rfl);refine JC rfl rfl (by rfl) (by rfl) (ce rfl) (by omega) (by omega) (by omega) ?_)
 iterate 4 (first|refine tM rfl ?_|refine aU rfl ?_|apply Aa)
 (refine pW rfl ?_ rfl (by rfl);refine fp 3 193 ?_);(repeat first|refine tM rfl ?_|refine aU rfl ?_|apply Aa);have K:=YT (goal:=g.goal) (N:=g.N) (seen:=List.replicate g.N false) (nodes:=[g.s0]) (by simp) (by intro n u;simp at u;subst u;exact Q.s0);have A:=WO (TB:=TB) hG hcG d (List.replicate g.N false) [] (-1) 0 [g.s0] (by simp) hN (by simp) (by intro n u;simp at u;subst u;exact Q.s0);(refine pW rfl ?_ rfl (by rfl);refine Ag [2,1,0,4,3] rfl rfl A ⟨rfl,by decide,by decide⟩ rfl (by simp[cX,zC,b,Gi,d,Ae,eC]) ?_;rintro x0 T V ⟨rfl,q,L,rfl⟩ _);generalize hV:Uf g.goal (List.replicate g.N false) [g.s0]=v at *;obtain⟨vse,vfr,vfd⟩:=v;simp only;apply Aa;refine Aj.names [2,1,0,4,if q=4 then 3 else 5] [(2,Ak g.ls),(3,.o (.fn gN capsN)),(12,.o (.ptr 0 1 0 0)),(13,.o (.ptr 3 1 0 0)),(14,.o (.fn 154 [.ptr 0 1 0 0,.ptr 2 1 0 0,.ptr 3 1 0 0])),(26,eB vfd)] (Gi g.N gG capsG vse 4 (EX [] (-1) 0 vfr)) (by simp[b]) (by rcases L with ⟨rfl,rfl⟩|⟨rfl,rfl⟩<;>decide)
  (by rcases L with ⟨rfl,rfl⟩|⟨rfl,rfl⟩<;>simp[cX,zC,b,h,eC]) (by rcases L with ⟨rfl,rfl⟩|⟨rfl,rfl⟩<;>simp[cX,zC,b,Gi,d,Ac.Bj,CS,ML,eC]) ?_
 (refine aC rfl ?_ ?_<;>rintro⟨⟩)
 ·-- the start is a goal
  have hgs:g.goal g.s0=true:=by
   have h1:vfr.any g.goal=true:=K.fd.symm;obtain⟨x,J,P⟩:=s9.1 h1;have h2:=((K.fr x).1 J).1;simp at h2;subst h2;exact P
  have B:=Cs.unique hr (Cs.start hgs);subst B;(repeat first|refine tM rfl ?_|refine aU rfl ?_|apply Aa);refine aR ⟨_,rfl,rfl⟩
 apply aK;obtain⟨hfr,hF0⟩:=FI.init Q K rfl;simp only at hfr hF0;rw[hfr];(repeat first|refine tM rfl ?_|refine aU rfl ?_|apply Aa);apply aB;refine Aj.Be (α:={x:Nat×List Bool×List OE×List (List Int) // FI g x.2.1 x.2.2.1 x.2.2.2 x.1 0}) (λ⟨⟨i,seen,steps,ws⟩,f⟩=>[(2,Ak g.ls),(3,.o (.fn gN capsN)),(12,.o (.ptr 0 1 0 0)),(13,.o (.ptr 3 1 0 0)),(14,.o (.fn 154 [.ptr 0 1 0 0,.ptr 2 1 0 0,.ptr 3 1 0 0])),(15,eI .i64 i)]) (λ⟨⟨i,seen,steps,ws⟩,f⟩=>Gi g.N gG capsG seen 4 steps) 5 (λ⟨⟨i,seen,steps,ws⟩,f⟩=>g.N-i) (⟨(0,vse,[⟨-1,0,[g.s0]⟩],[[]]),hF0⟩) [0,1,2,3,4] (Fw b rfl rfl) (by (simp[cX,zC,b,Gi,d,h,EX])) ?_;rintro⟨⟨i,seen,steps,ws⟩,f⟩;(try dsimp only);simp only at f;have Z:=f.nM;(repeat first|refine tM rfl ?_|refine s2 rfl λ_ _hb=>?_|refine aU rfl ?_|apply Aa);(refine aC rfl ?_ ?_<;>rintro⟨⟩)
 ·have hi : i<steps.length:=by (simp only[oZ] at *;omega)
  obtain⟨s,H⟩:=get_some hi;have X:(steps.map Qr)[0+((i:Nat):Int).toNat]?=some (Qr s):=HS H;obtain⟨wi,z⟩:∃wi,ws[i]?=some wi:=get_some (by rw[f.wlen];exact hi);apply aK;refine aS (aB ?_);(repeat first|refine sN rfl ?_|refine tM rfl ?_|refine aU rfl ?_|apply Aa);apply aB;refine Aj.Be (α:={x:Nat×List Bool×List OE×List (List Int) // x.1<=g.ls.length/\FI g x.2.1 x.2.2.1 x.2.2.2 i x.1/\i<x.2.2.1.length}) (λ⟨⟨j,c,st2,t⟩,hP⟩=>[(2,Ak g.ls),(3,.o (.fn gN capsN)),(12,.o (.ptr 0 1 0 0)),(13,.o (.ptr 3 1 0 0)),(14,.o (.fn 154 [.ptr 0 1 0 0,.ptr 2 1 0 0,.ptr 3 1 0 0])),(15,eI .i64 i),(33,Ak g.ls),(34,eI .i64 g.ls.length),(35,eI .i64 j)]) (λ⟨⟨j,c,st2,t⟩,hP⟩=>Gi g.N gG capsG c 4 st2) 5 (λ⟨⟨j,c,st2,t⟩,hP⟩=>g.ls.length-j) (⟨(0,seen,steps,ws),by simp,f,hi⟩) [0,1,2,3,4] (Fw b rfl rfl) (by (simp[cX,zC,b,Gi,d,h])) ?_;rintro⟨⟨j,c,st2,t⟩,hP⟩;(try dsimp only);clear H X z f Z hi;obtain⟨hj,f,hi⟩:=hP;simp only at hj f hi;have Z:=f.nM;(repeat first|refine s2 rfl λ_ _hb=>?_|refine aU rfl ?_|apply Aa);(refine aC rfl ?_ ?_<;>rintro⟨⟩)
  ·have hjl:j<g.ls.length:=by (simp only[oZ] at *;omega)
   obtain⟨l,hl⟩:=get_some (l:=g.ls) (k:=j) hjl;have hl':=get_map (g:=Bc) hl;have F:=co hl;have hlb:=Y l F;obtain⟨s,H⟩:=get_some hi;have X:(st2.map Qr)[0+((i:Nat):Int).toNat]?=some (Qr s):=HS H;obtain⟨wi,z⟩:∃wi,t[i]?=some wi:=get_some (by rw[f.wlen];exact hi);have p:=f.inn s (co H);have hsnd:=GD _ _ (f.nd s (co H)) p;apply aK;refine aS (aB ?_);(repeat first|refine tM rfl ?_|(refine s4 rfl ‹_› rfl ?_ ?_;omega)|refine aU rfl ?_|apply Aa);(refine pW rfl ?_ rfl (by rfl);refine G0 1 3 ?_);(repeat first|refine sN rfl ?_|(refine sM rfl ?_ ?_;first|exact tI|omega)|refine t4 rfl ‹_› rfl ?_|refine aU rfl ?_|apply Aa);apply aB;refine Aj.Be (α:={m:Nat // m<=s.ns.length}) (λ⟨m,hm⟩=>[(2,Ak g.ls),(3,.o (.fn gN capsN)),(12,.o (.ptr 0 1 0 0)),(13,.o (.ptr 3 1 0 0)),(14,.o (.fn 154 [.ptr 0 1 0 0,.ptr 2 1 0 0,.ptr 3 1 0 0])),(15,eI .i64 i),(33,Ak g.ls),(34,eI .i64 g.ls.length),(35,eI .i64 j),(17,eI .i64 l),(18,.o (.arr 5 1 0 ((s.ns.take m).flatMap λn=>g.succ n l).length)),(43,Ak s.ns),(44,eI .i64 s.ns.length),(45,eI .i64 m)]) (λ⟨m,hm⟩=>Gi g.N gG capsG c 4 st2++[(5,.cells 3 1 (((s.ns.take m).flatMap λn=>g.succ n l).map Av))]) 6 (λ⟨m,hm⟩=>s.ns.length-m) (⟨0,by omega⟩) [0,1,2,3,4,5] (Fw b rfl rfl) (by (simp[cX,zC,b,Gi,d,h])) ?_;rintro⟨m,hm⟩;(try dsimp only);(repeat first|refine s2 rfl λ_ _hb=>?_|refine aU rfl ?_|apply Aa);(refine aC rfl ?_ ?_<;>rintro⟨⟩)
   ·obtain⟨n,u⟩:=get_some (l:=s.ns) (k:=m) (by (simp only[oZ] at *;omega))
    have hn':=get_map (g:=Bc) u;have hnb:=p n (co u)
    have hfm:(s.ns.take (m+1)).flatMap (λn=>g.succ n l)=(s.ns.take m).flatMap (λn=>g.succ n l)++g.succ n l:=by
     rw[i7,u];simp
    have hol:((s.ns.take m).flatMap λn=>g.succ n l).length<=1099511627776:=by
     have h2:=LC (s.ns.take m) (λn=>g.succ n l) 1048576 (λx J=>by have:=hsl x l (p x (q7 J)) F;omega)
     have h3:(s.ns.take m).length<=1048576:=by simp;omega
     omega
    have hnx:=hNx n l _ hnb F hol;generalize (s.ns.take m).flatMap (λn=>g.succ n l)=pre at *;apply aK;refine aS (aB ?_);(repeat first|refine tM rfl ?_|(refine s4 rfl ‹_› rfl ?_ ?_;omega)|refine aU rfl ?_|apply Aa);(refine pW rfl ?_ rfl (by rfl);refine Ag [5] rfl rfl hnx ⟨rfl,by decide,by decide⟩ (by rw[So,Qg,h];rfl) (by simp[cX,zC,b]) ?_;rintro x0 T V ⟨rfl,rfl,rfl⟩ _);(repeat first|(refine sM rfl ?_ ?_;first|exact tI|omega)|refine aU rfl ?_|apply Aa);refine⟨⟨m+1,by (simp only[oZ] at *;omega)⟩,by dsimp only;((simp only[oZ] at *;omega)),[0,1,2,3,4,6],?_⟩;simp[cX,zC,b,Gi,d,h,Ac.Bj,CS,ML,hfm]
   ·obtain rfl:m=s.ns.length:=by (simp only[oZ] at *;omega)
    rw[i8];have hR:∀y,y∈s.ns.flatMap (λn=>g.succ n l)↔∃n∈s.ns,y∈g.succ n l:=λy=>s8;generalize s.ns.flatMap (λn=>g.succ n l)=R at *
    have I:∀y∈R,0<=y/\y<g.N:=λy hy=>by
     obtain⟨n,u,hy⟩:=(hR y).1 hy;exact Q.inn n (p n u) l F y hy
    have hv:=YT (goal:=g.goal) f.slen I;have A:=WO (TB:=TB) hG hcG d c st2 i l R f.slen hN (by omega) I;generalize hV2:Uf g.goal c R=v2 at *;apply aE;refine Aj.freeze [5] [(2,Ak g.ls),(3,.o (.fn gN capsN)),(12,.o (.ptr 0 1 0 0)),(13,.o (.ptr 3 1 0 0)),(14,.o (.fn 154 [.ptr 0 1 0 0,.ptr 2 1 0 0,.ptr 3 1 0 0])),(15,eI .i64 i),(33,Ak g.ls),(34,eI .i64 g.ls.length),(35,eI .i64 j),(17,eI .i64 l),(18,Ak R)] ⟨⟨_,rfl,.A0⟩,⟨_,rfl,.A0⟩,⟨_,rfl,.A0⟩,⟨_,rfl,.A0⟩,⟨_,rfl,.A0⟩,⟨_,rfl,.A0⟩,⟨_,rfl,.A0⟩,⟨_,rfl,.A0⟩,⟨_,rfl,.A0⟩,⟨_,rfl,.A0⟩,⟨_,rfl,.o (.full (by simp) rfl (by simp[d5]) (by simp))⟩,trivial⟩ ?_;(repeat first|refine tM rfl ?_|refine aU rfl ?_);(refine pW rfl ?_ rfl (by rfl);refine Ag [0,1,2,3,4] rfl rfl A ⟨rfl,by decide,by decide⟩ rfl (by simp[cX,zC,b,Gi,d,CS]) ?_;rintro x0 T V ⟨rfl,q,L,rfl⟩ _);obtain⟨vse,vfr,vfd⟩:=v2;simp only;apply Aa;refine Aj.names [0,1,2,3,if q=4 then 4 else 6] [(2,Ak g.ls),(3,.o (.fn gN capsN)),(12,.o (.ptr 0 1 0 0)),(13,.o (.ptr 3 1 0 0)),(14,.o (.fn 154 [.ptr 0 1 0 0,.ptr 2 1 0 0,.ptr 3 1 0 0])),(15,eI .i64 i),(33,Ak g.ls),(34,eI .i64 g.ls.length),(35,eI .i64 j),(59,eB vfd)] (Gi g.N gG capsG vse 4 (EX st2 i l vfr)) (by simp[b]) (by rcases L with ⟨rfl,rfl⟩|⟨rfl,rfl⟩<;>decide)
     (by rcases L with ⟨rfl,rfl⟩|⟨rfl,rfl⟩<;>simp[cX,zC,b,h]) (by rcases L with ⟨rfl,rfl⟩|⟨rfl,rfl⟩<;>simp[cX,zC,b,Gi,d,Ac.Bj,CS,ML]) ?_
    (refine aC rfl ?_ ?_<;>rintro⟨⟩)
    ·obtain⟨x,J,P⟩:∃x∈vfr,g.goal x=true:=by
      have h1:vfr.any g.goal=true:=hv.fd.symm;exact s9.1 h1
     have hxR:=((hv.fr x).1 J).1;obtain⟨n,u,hxn⟩:=(hR x).1 hxR;have G:=Cs.found Q f z hl H u hxn P;have B:=Cs.unique hr G;subst B
     have hne:vfr≠[]:=λe=>by rw[e]at J;cases J
     have hsv:EX st2 i l vfr=st2++[⟨i,l,vfr⟩]:=by unfold EX;rw[if_neg hne]
     rw[hsv];have hch:=f.aJ.app (ns:=vfr) z F;have hpw:=VG (TB:=TB) hch Y (w:=wi++[l]) (by simp;omega) (by simp[f.wlen]);generalize hst3:st2++[⟨(i:Int),l,vfr⟩]=st3 at *;(repeat first|refine tM rfl ?_|(refine Al rfl ?_;refine gA rfl ?_;first|refine gQ (Mk rfl rfl ((.cons (.o (.full rfl (by simp[d5]) (by simp))) .nil)) (hpw) rfl) rfl ?_)|refine aU rfl ?_|apply Aa);refine aR ⟨_,rfl,rfl⟩
    ·have S:=f.visit Q z hl H hR hv rfl
     have M:i<(EX st2 i l vfr).length:=by unfold EX;split<;>(try simp)<;>omega
     apply aK;(repeat first|(refine sM rfl ?_ ?_;first|exact tI|omega)|refine aU rfl ?_|apply Aa);refine⟨⟨(j+1,vse,EX st2 i l vfr,pX t (wi++[l]) vfr),hjl,S,M⟩,by dsimp only;omega,[0,1,2,3,4],?_⟩;simp[cX,zC,b,Gi,d,h]
  ·obtain rfl:j=g.ls.length:=by (simp only[oZ] at *;omega)
   have S:=f.nS hi;apply aE;(repeat first|(refine sM rfl ?_ ?_;first|exact tI|omega)|refine aU rfl ?_|apply Aa);refine⟨⟨(i+1,c,st2,t),S⟩,by dsimp only;omega,[0,1,2,3,4],?_⟩;simp[cX,zC,b,Gi,d,h]
 ·have hle:=f.le
  obtain rfl:i=steps.length:=by (simp only[oZ] at *;omega)
  have G:=Cs.qD Q f;have B:=Cs.unique hr G;subst B;apply aE;(repeat first|refine tM rfl ?_|refine aU rfl ?_|apply Aa);refine aR ⟨_,rfl,rfl⟩
def Gg(a p:AK)(node letter:Int):Int:=Bg a (node / p.nx.length%a.nx.length).toNat letter*p.nx.length+Bg p (node%p.nx.length).toNat letter
def JN(l:List Sys)(a p:AK)(node letter:Int):List Int:=(Ep (l.map (·.st)) (bn l (node / p.nx.length / a.nx.length) letter)).map λo=>o*a.nx.length*p.nx.length+Gg a p node letter
def NS(a p:AK)(node:Int):Bool:=a.ac.getD (node / p.nx.length%a.nx.length).toNat false && !p.ac.getD (node%p.nx.length).toNat false
def gI(l:List Sys)(a p:AK)(ls:List Int):Gr:=⟨(Ax (l.map (·.st))*a.nx.length*p.nx.length).toNat,JN l a p,NS a p,ls,0⟩
theorem Ks{a:AK}{q:Nat}(h:q<a.nx.length):(Dq a)[q]?=some (Yx λl=>Bg a q l):=Fy (g:=λq=>Yx λl=>Bg a q l) h
theorem Ih{h:Nat->Int}{l:Int}(d:0<=l)(c:l<6):((Yx h).drop (l.toNat*1))[0]?=some (iD (h l.toNat)):=by
 rw[rm]
 have b:l.toNat*1+0=l.toNat:=by omega
 have a:l.toNat<6:=by omega
 rw[b];simp[Yx,a]
theorem gT{outs low:List Int}{h:Int->Int}{k:Nat}{x:Int}(a:low[k]?=some x):(outs++((low.take k).map h++low.drop k)).set (outs.length+k) (h x)=outs++((low.take (k+1)).map h++low.drop (k+1)):=by
 have hk:=(am.1 a).1;rw[tm _ _ (by omega),tm _ _ (by simp;omega)];congr 1
 have e:outs.length+k-outs.length-((low.take k).map h).length=0:=by simp;omega
 rw[e,Bv a,i7,a];simp
theorem BE{a:AK}(h:AD a=true):1<=a.nx.length/\a.nx.length<=12:=by have:=AB h;omega
theorem JG{l:List Sys}(h:∀s∈l,AU s=true)(d:l.length<=3):1<=Ax (l.map (·.st))/\Ax (l.map (·.st))<=4096:=by
 have a:∀z∈l.map (·.st),1<=z/\z<=16:=by
  intro z b;obtain⟨s,c,rfl⟩:=d9.1 b;have:=AN (h s c);omega
 have f:=Ic _ a
 have e:(16:Int) ^ (l.map (·.st)).length<=4096:=by
  have:(l.map (·.st)).length<=3:=by simp;omega
  generalize (l.map (·.st)).length=n at this
  have:n=0\/n=1\/n=2\/n=3:=by omega
  rcases this with rfl|rfl|rfl|rfl<;>decide
 omega
theorem VS{a p:AK}(ha:AD a=true)(hp:AD p=true){node letter:Int}(f:0<=node)(c:0<=letter)(b:letter<6):0<=Gg a p node letter/\Gg a p node letter<a.nx.length*p.nx.length:=by
 have l:=BE ha;have k:=BE hp
 have j:0<=node / p.nx.length%a.nx.length/\node / p.nx.length%a.nx.length<a.nx.length:=⟨rN _ (by omega),rA _ (by omega)⟩
 have i:0<=node%p.nx.length/\node%p.nx.length<p.nx.length:=⟨rN _ (by omega),rA _ (by omega)⟩
 have e:=Cn ha (q:=(node / p.nx.length%a.nx.length).toNat) (by omega) c b;have h:=Cn hp (q:=(node%p.nx.length).toNat) (by omega) c b;unfold Gg;generalize Bg a _ letter=x at *;generalize Bg p _ letter=y at *;generalize (a.nx.length:Int)=n at *;generalize (p.nx.length:Int)=m at *;have g:0<=x*m:=rH e.1 (by omega);have d:(x+1)*m<=n*m:=r7 (by omega) (by omega);rw[tg]at d;omega
theorem VB[EK TB]{l:List Sys}{a p:AK}(h:∀s∈l,AU s=true)(K:l.length<=3)(ha:AD a=true)(hp:AD p=true)(node letter:Int)(c:0<=node)(Z:node<=1048576)(f:0<=letter)(d:letter<6)(outs:List Int)(H:outs.length<=1099511627776) :
 Spec Tryz.prog TB 162 [(0,.cells 3 1 (outs.map Av))] 1 [eI .i64 node,eI .i64 letter,.o (.arr 0 1 0 outs.length),.o (.ip [.l (Dq a)]),.o (.ip [iD p.nx.length]),.o (.ip [iD a.nx.length]),.o (.ip [.l (Dq p)]),.o (.ip (Hb l))]
  (λx σ nx=>x=.o (.arr 1 1 0 (outs++JN l a p node letter).length)/\nx=2/\σ=[(1,.cells 3 1 ((outs++JN l a p node letter).map Av))]):=by
 have han:=BE ha;have Y:=BE hp;have B:=VS ha hp c f d;have t:0<=node / p.nx.length:=sx c (by omega);have V:node / p.nx.length<=node:=s7 _ c;have G:0<=node / p.nx.length / a.nx.length:=sx t (by omega);have T:node / p.nx.length / a.nx.length<=node / p.nx.length:=s7 _ t
 have h4:0<=node / p.nx.length%a.nx.length/\node / p.nx.length%a.nx.length<a.nx.length:=⟨rN _ (by omega),rA _ (by omega)⟩
 have h5:0<=node%p.nx.length/\node%p.nx.length<p.nx.length:=⟨rN _ (by omega),rA _ (by omega)⟩
 have h6:=Cn ha (q:=(node / p.nx.length%a.nx.length).toNat) (by omega) f d;have h7:=Cn hp (q:=(node%p.nx.length).toNat) (by omega) f d;have S:=Ks (a:=a) (q:=(node / p.nx.length%a.nx.length).toNat) (by omega);have R:=Ks (a:=p) (q:=(node%p.nx.length).toNat) (by omega);have r:=Ih (h:=λl=>Bg a (node / p.nx.length%a.nx.length).toNat l) f d;have n:=Ih (h:=λl=>Bg p (node%p.nx.length).toNat l) f d
 have el:((letter.toNat:Nat):Int)=letter:=by omega
 have h8:0<=Bg a (node / p.nx.length%a.nx.length).toNat letter*p.nx.length/\Bg a (node / p.nx.length%a.nx.length).toNat letter*p.nx.length<=144:=⟨rH h6.1 (by omega),by
  have:Bg a (node / p.nx.length%a.nx.length).toNat letter*p.nx.length<=12*12:=rf (by omega) (by omega) (by omega) (by omega)
  omega⟩
 simp only[el]at r n;have I:=ju (TB:=TB) l h K (node / p.nx.length / a.nx.length) letter G (by omega) f d outs H;have v:=Ts (Tc h K f d (node / p.nx.length / a.nx.length));have X:=JG h K;have F:Bg a (node / p.nx.length%a.nx.length).toNat letter*p.nx.length+Bg p (node%p.nx.length).toNat letter=Gg a p node letter:=rfl;unfold JN;generalize Ep (l.map (·.st)) (bn l (node / p.nx.length / a.nx.length) letter)=low at *;refine eN Tryz.func162 rfl (by kernel_rfl) rfl ?_;intro U b;(repeat first|refine tA rfl ?_|refine aU rfl ?_|apply Aa);refine rG (Hz []) (by kernel_rfl) ?_;(repeat first|(refine sA rfl ?_ ?_;first|exact tI|omega)|(refine s4 rfl ‹_› rfl ?_ ?_;omega)|(refine Al rfl ?_;refine gA rfl ?_;first|refine gS (λ_ _=>DO rfl r) ?_|refine gS (λ_ _=>DO rfl n) ?_)|refine aU rfl ?_|apply Aa);rw[F];refine rG (Hz [8]) (by kernel_rfl) ?_;(repeat first|(refine sA rfl ?_ ?_;first|exact tI|omega));(refine pW rfl ?_ rfl (by rfl);refine Ag [0] rfl rfl I ⟨rfl,by decide,by decide⟩ rfl (by simp[cX,zC,b]) ?_;rintro x0 P Q ⟨rfl,rfl,rfl⟩ _);(repeat first|refine tA rfl ?_|refine aU rfl ?_|apply Aa);apply aB
 have J:∀k,((outs++((low.take k).map (λo=>o*a.nx.length*p.nx.length+Gg a p node letter)++low.drop k)).length)=outs.length+low.length:=by intro k;simp;omega
 refine Aj.Be (α:={k:Nat // k<=low.length}) (λ⟨k,hk⟩=>[(2,.o (.arr 1 1 0 (outs.length+low.length))),(4,.o (.ip [iD p.nx.length])),(5,.o (.ip [iD a.nx.length])),(12,eI .i64 (Gg a p node letter)),(14,eI .i64 ((outs.length+k:Nat):Int))]) (λ⟨k,hk⟩=>[(1,.cells 3 1 ((outs++((low.take k).map (λo=>o*a.nx.length*p.nx.length+Gg a p node letter)++low.drop k)).map Av))]) 2 (λ⟨k,hk⟩=>low.length-k) (⟨0,by omega⟩) [0,1] (Fw b rfl rfl) (by (simp[cX,zC,b,Ac.Bj,CS,ML])) ?_;rintro⟨k,hk⟩;(try dsimp only);(repeat first|refine tM rfl ?_|refine s2 rfl λ_ _hb=>?_|refine aU rfl ?_|apply Aa);(refine aC rfl ?_ ?_<;>rintro⟨⟩)
 ·have w:k<low.length:=by (simp only[oZ] at *;omega)
  obtain⟨x,A⟩:=get_some (l:=low) (k:=k) w;have z:=v.1 x (co A);have m:=gT (outs:=outs) (h:=λo=>o*a.nx.length*p.nx.length+Gg a p node letter) A
  have M:(outs++((low.take k).map (λo=>o*a.nx.length*p.nx.length+Gg a p node letter)++low.drop k))[outs.length+k]?=some x:=by
   rw[io (by omega),io (by simp;omega),Bv A]
   have e:outs.length+k-outs.length-((low.take k).map (λo=>o*a.nx.length*p.nx.length+Gg a p node letter)).length=0:=by simp;omega
   rw[e];rfl
  have N:=HS (g:=Av) M
  have u:0<=x*a.nx.length/\x*a.nx.length<=49152:=⟨rH z.1 (by omega),by
   have:x*a.nx.length<=4096*12:=rf (by omega) (by omega) (by omega) (by omega)
   omega⟩
  have hm2:0<=x*a.nx.length*p.nx.length/\x*a.nx.length*p.nx.length<=589824:=⟨rH u.1 (by omega),by
   have:x*a.nx.length*p.nx.length<=49152*12:=rf u.2 (by omega) (by omega) (by omega)
   omega⟩
  have hm3:(a.nx.length:Int)*p.nx.length<=144:=by
   have:(a.nx.length:Int)*p.nx.length<=12*12:=rf (by omega) (by omega) (by omega) (by omega);omega
  have hlk:=J k
  have L:((outs.length+k:Nat):Int)+1=((outs.length+(k+1):Nat):Int):=by omega
  have j:=Ik (l:=outs++((low.take k).map (λo=>o*a.nx.length*p.nx.length+Gg a p node letter)++low.drop k)) (k:=outs.length+k) (x:=x) (y:=x*a.nx.length*p.nx.length+Gg a p node letter);rw[m]at j;generalize outs++((low.take k).map (λo=>o*a.nx.length*p.nx.length+Gg a p node letter)++low.drop k)=cur at *;apply aK;refine aS (aB ?_);refine rG (Hz [13]) (by kernel_rfl) ?_;(repeat first|(refine sM rfl ?_ ?_;first|exact tI|omega)|refine t4 rfl ‹_› rfl ?_|refine aU rfl ?_|apply Aa);refine⟨⟨k+1,w⟩,by dsimp only;omega,[0,1],?_⟩;rw[j,L];simp[cX,zC,b]
 ·obtain rfl:k=low.length:=by (simp only[oZ] at *;omega)
  rw[i8,tK,rv];apply aE;(repeat first|refine tM rfl ?_|refine aU rfl ?_|apply Aa);refine Aj.names [0,1] [(11,.o (.arr 1 1 0 (outs.length+low.length)))] [(1,.cells 3 1 ((outs++low.map λo=>o*a.nx.length*p.nx.length+Gg a p node letter).map Av))] (by intro i hi;rw[b]at hi;obtain rfl:i=0:=(by omega);rfl) (by simp) (by simp[cX,zC,b]) (by simp[cX,zC,b]) ?_;refine aR ⟨_,rfl,by simp,rfl,rfl⟩
theorem SL(s:Sys):Pure Tryz.prog TB 105 [BK s] (eB (!AU s)):=by
 refine eN Tryz.func105 rfl (by kernel_rfl) rfl ?_;intro U b;(repeat' first|refine tA rfl ?_|refine s2 rfl λ_ a=>?_|(refine sC rfl (BG s) ?_;intro _ a)|refine aU rfl ?_|apply Aa|(refine aC rfl ?_ ?_<;>rintro⟨⟩)|apply aK|apply aE|apply aB|refine aR ⟨_,rfl,?_⟩)
 all_goals (show E.o _=E.o _;congr;grind)
def Xj:List Sys->Int->Int
 | [],_=>-1
 | s::l,k=>if AU s then Xj l (k+1) else k
theorem Uy:∀(l:List Sys) (k:Int),0<=k->(decide (0<=Xj l k) = !l.all AU)
 | [],_,_=>rfl
 | s::l,k,h=>by
  unfold Xj;by_cases a:AU s=true
  ·rw[if_pos a,Uy l (k+1) (by omega)];simp[a]
  ·rw[if_neg a];simp[a,h]
theorem Tn(l:List Sys):Pure Tryz.prog TB 166 [FX l,.o (.fn 105 [])] (eI .i64 (Xj l 0)):=by
 refine eN Tryz.func166 rfl (by kernel_rfl) rfl ?_;intro U a;refine Aj.bound 0 rfl λb=>?_;have f:=b (l.map AF) .refl;(repeat' first|refine sN rfl ?_|refine tA rfl ?_|refine aU rfl ?_|apply Aa|(refine aC rfl ?_ ?_<;>rintro⟨⟩)|apply aK|apply aE|apply aB|refine aR ⟨_,rfl,?_⟩);refine Aj.Be (α:={k:Nat // k<=l.length/\Xj l 0=Xj (l.drop k) k}) (λ⟨k,hk,ha⟩=>[(0,FX l),(1,.o (.fn 105 [])),(7,eI .i64 l.length),(8,eI .i64 k)]) (λ⟨k,hk,ha⟩=>[]) 0 (λ⟨k,hk,ha⟩=>l.length-k) (⟨0,by omega,rfl⟩) [] (Fw a rfl rfl) (by (simp[cX,zC,a])) ?_;rintro⟨k,hk,ha⟩;(try dsimp only);(repeat first|refine s2 rfl λ_ c=>?_|refine aU rfl ?_|apply Aa);(refine aC rfl ?_ ?_<;>rintro⟨⟩)
 ·obtain⟨x,d⟩:=get_some (l:=l) (k:=k) (by (simp only[oZ] at *;omega))
  have e:=get_map (g:=AF) d;rw[Bv d,Xj]at ha;(repeat' first|(refine sA rfl ?_ ?_;first|exact tI|simp only[oZ] at *;omega)|(refine s4 rfl ‹_› rfl ?_ ?_;omega)|(refine sC rfl (SL x) ?_;intro _ c)|refine aU rfl ?_|apply Aa|(refine aC rfl ?_ ?_<;>rintro⟨⟩)|apply aK|apply aE|apply aB|refine aR ⟨_,rfl,?_⟩)
  ·rw[if_neg (by grind)]at ha
   show E.o _=E.o _;rw[ha]
  ·rw[if_pos (by grind)]at ha
   refine⟨⟨k+1,by (simp only[oZ] at *;omega),by rw[ha];rfl⟩,by dsimp only;((simp only[oZ] at *;omega)),[],?_⟩;simp[cX,zC,a]
 ·(repeat' first|refine tA rfl ?_|refine aU rfl ?_|apply Aa|(refine aC rfl ?_ ?_<;>rintro⟨⟩)|apply aK|apply aE|apply aB|refine aR ⟨_,rfl,?_⟩)
  rw[tf (by (simp only[oZ] at *;omega))]at ha
  show E.o _=E.o _;rw[ha];rfl
theorem Ou(l:List Sys):Pure Tryz.prog TB 104 [FX l,.o (.fn 105 [])] (eB (!l.all AU)):=by
 have hb:=Uy l 0 (by omega);refine eN Tryz.func104 rfl (by kernel_rfl) rfl ?_;intro U a;(repeat' first|refine tA rfl ?_|refine s2 rfl λ_ b=>?_|refine sP rfl (Tn l) rfl ?_|refine aU rfl ?_|apply Aa|(refine aC rfl ?_ ?_<;>rintro⟨⟩)|apply aK|apply aE|apply aB|refine aR ⟨_,rfl,?_⟩)
 all_goals (show E.o _=E.o _;congr;grind)
theorem Hk(l:List Sys):Pure Tryz.prog TB 43 [FX l] (eB (AX l)):=by
 refine eN Tryz.func43 rfl (by kernel_rfl) rfl ?_;intro U b;(repeat' first|refine sN rfl ?_|refine tA rfl ?_|refine s2 rfl λ_ a=>?_|(refine sC rfl (Ou l) ?_;intro _ a)|refine s3 rfl ?_ ?_<;>rintro rfl|refine aU rfl ?_|apply Aa|(refine aC rfl ?_ ?_<;>rintro⟨⟩)|apply aK|apply aE|apply aB|refine aR ⟨_,rfl,?_⟩)
 all_goals (show E.o _=E.o _;congr;unfold AX;grind)
theorem FY(l:List Sys):Pure Tryz.prog TB 161 [FX l] (eI .i64 (Bt l)):=by
 refine eN Tryz.func161 rfl (by kernel_rfl) rfl ?_;intro U a;refine Aj.bound 0 rfl λe=>?_;have i:=e (l.map AF) .refl;(repeat' first|refine sN rfl ?_|refine tA rfl ?_|refine s2 rfl λ_ b=>?_|(refine sC rfl (Hk l) ?_;intro _ b)|refine aU rfl ?_|apply Aa|(refine aC rfl ?_ ?_<;>rintro⟨⟩)|apply aK|apply aE|apply aB|refine aR ⟨_,rfl,?_⟩)
 all_goals try (show E.o _=E.o _;congr;unfold Bt;rw[if_neg (by grind)])
 have d:AX l=true:=by grind
 refine Aj.Be (α:={k:Nat // k<=l.length}) (λ⟨k,hk⟩=>[(3,eI .i64 (HD (l.take k) 0)),(9,FX l),(10,eI .i64 l.length),(11,eI .i64 k)]) (λ⟨k,hk⟩=>[]) 0 (λ⟨k,hk⟩=>l.length-k) (⟨0,by omega⟩) [] (Fw a rfl rfl) (by (repeat' first|exact tI|rfl|refine And.intro ?_ ?_)) ?_;rintro⟨k,hk⟩;(try dsimp only);(repeat first|refine s2 rfl λ_ b=>?_|refine aU rfl ?_|apply Aa);(refine aC rfl ?_ ?_<;>rintro⟨⟩)
 ·obtain⟨x,f⟩:=get_some (l:=l) (k:=k) (by (simp only[oZ] at *;omega))
  have h:=get_map (g:=AF) f
  have c:HD (l.take (k+1)) 0=Gu .i64 (HD (l.take k) 0) x.al:=by unfold HD;rw[GS f]
  (repeat' first|(refine sA rfl ?_ ?_;first|exact tI|simp only[oZ] at *;omega)|(refine s4 rfl ‹_› rfl ?_ ?_;omega)|refine aU rfl ?_|apply Aa|(refine aC rfl ?_ ?_<;>rintro⟨⟩)|apply aK|apply aE|apply aB|refine aR ⟨_,rfl,?_⟩);refine⟨⟨k+1,by (simp only[oZ] at *;omega)⟩,by dsimp only;((simp only[oZ] at *;omega)),[],?_⟩;simp[cX,zC,a,c]
 ·(repeat' first|refine tA rfl ?_|refine aU rfl ?_|apply Aa|(refine aC rfl ?_ ?_<;>rintro⟨⟩)|apply aK|apply aE|apply aB|refine aR ⟨_,rfl,?_⟩)
  rw[kw (by (simp only[oZ] at *;omega))]
  show E.o _=E.o _;congr;unfold Bt;rw[if_pos d]
theorem UU{a p:AK}(ha:AD a=true)(hp:AD p=true)(node:Int)(d:0<=node)(m:node<=1048576):Pure Tryz.prog TB 164 [eI .i64 node,.o (.ip [.p (AE a)]),.o (.ip [iD p.nx.length]),.o (.ip [iD a.nx.length]),.o (.ip (AE p))] (eB (NS a p node)):=by
 have s:=BE ha;have i:=BE hp;have t:=AB ha;have j:=AB hp;have h:0<=node / p.nx.length:=sx d (by omega);have g:node / p.nx.length<=node:=s7 _ d
 have w:0<=node / p.nx.length%a.nx.length/\node / p.nx.length%a.nx.length<a.nx.length:=⟨rN _ (by omega),rA _ (by omega)⟩
 have v:0<=node%p.nx.length/\node%p.nx.length<p.nx.length:=⟨rN _ (by omega),rA _ (by omega)⟩
 obtain⟨b,hb⟩:=get_some (l:=a.ac) (k:=(node / p.nx.length%a.nx.length).toNat) (by omega);obtain⟨c,e⟩:=get_some (l:=p.ac) (k:=(node%p.nx.length).toNat) (by omega)
 have r:(a.ac.map Jk)[(node / p.nx.length%a.nx.length).toNat]?=some (Jk b):=by simp[hb]
 have q:(p.ac.map Jk)[(node%p.nx.length).toNat]?=some (Jk c):=by simp[e]
 have n:NS a p node=(b && !c):=by simp[NS,List.getD,hb,e]
 rw[n];refine eN Tryz.func164 rfl (by kernel_rfl) rfl ?_;intro U f;(repeat' first|(refine sA rfl ?_ ?_;first|exact tI|omega)|(refine s4 rfl ‹_› rfl ?_ ?_;omega)|refine s2 rfl λ_ u=>?_|refine s3 rfl ?_ ?_<;>rintro rfl|refine aU rfl ?_|apply Aa|refine rE (by kernel_rfl) ?_|(refine aC rfl ?_ ?_<;>rintro⟨⟩)|apply aK|apply aE|apply aB|refine aR ⟨_,rfl,?_⟩)
 all_goals (show E.o _=E.o _;first|rfl|(congr;grind))
theorem WG(a:AK):(Dq a).length=a.nx.length:=by simp[Dq,CC]
def Oq:AK:=⟨0,[[]],[true]⟩
theorem iG:AD Oq=true:=by decide
theorem lF{l:List Sys}{a p:AK}{ls:List Int}(h:∀s∈l,AU s=true)(c:l.length<=3)(ha:AD a=true)(hp:AD p=true):((gI l a p ls).N:Int)=Ax (l.map (·.st))*a.nx.length*p.nx.length/\1<=(gI l a p ls).N/\(gI l a p ls).N<=1048576:=by
 have b:=JG h c;have k:=BE ha;have j:=BE hp;have i:(gI l a p ls).N=(Ax (l.map (·.st))*a.nx.length*p.nx.length).toNat:=rfl;have g:Ax (l.map (·.st))*a.nx.length<=4096*12:=rf b.2 (by omega) (by omega) (by omega);have f:1*1<=Ax (l.map (·.st))*a.nx.length:=rf b.1 (by omega) (by omega) (by omega);have e:Ax (l.map (·.st))*a.nx.length*p.nx.length<=49152*12:=rf (by omega) (by omega) (by omega) (by omega);have d:1*1<=Ax (l.map (·.st))*a.nx.length*p.nx.length:=rf (by omega) (by omega) (by omega) (by omega);omega
theorem Qt{l:List Sys}{a p:AK}(h:∀s∈l,AU s=true)(c:l.length<=3)(ha:AD a=true)(hp:AD p=true){node letter:Int}(k:0<=node)(g:0<=letter)(f:letter<6):(∀y∈JN l a p node letter,0<=y/\y<Ax (l.map (·.st))*a.nx.length*p.nx.length)/\((JN l a p node letter).length:Int)<=Ax (l.map (·.st)):=by
 have n:=Ts (Tc h c g f (node / p.nx.length / a.nx.length));have w:=JG h c;have v:=BE ha;have u:=BE hp;have t:=VS ha hp k g f;refine⟨λy i=>?_,by unfold JN;simp;omega⟩;obtain⟨o,j,rfl⟩:=d9.1 i;have m:=n.1 o j;have e:∀o:Int,o*a.nx.length*p.nx.length=o*(a.nx.length*p.nx.length):=λo=>s5 _ _ _;rw[e,e];have d:0<=(a.nx.length:Int)*p.nx.length:=rH (by omega) (by omega);generalize (a.nx.length:Int)*p.nx.length=q at *;have r:0<=o*q:=rH m.1 d;have b:(o+1)*q<=Ax (l.map (·.st))*q:=r7 (by omega) d;rw[tg]at b;omega
theorem kC{l:List Sys}{a p:AK}{x:Int}(h:∀s∈l,AU s=true)(b:l.length<=3)(ha:AD a=true)(hp:AD p=true):Jh (gI l a p (Ab x)):=by
 have g:=lF (ls:=Ab x) h b ha hp;refine⟨?_,λy d m e z c=>?_,ER _ _⟩
 ·show 0<=(0:Int)/\(0:Int)<_
  omega
 ·have f:=Af e
  have i:=(Qt h b ha hp d.1 f.1 (by omega)).1 z c;omega
theorem Pw[EK TB](l:List Sys)(a p:AK)(h:AX l=true)(ha:AD a=true)(hp:AD p=true) :
 Pure Tryz.prog TB 103 [FX l,.o (.ip (AE a)),Bh p] (Ov (Dy (gI l a p (Ab (Gu .i64 (Bt l) a.al))))):=by
 have c:=h;unfold AX at c;simp only[d4,decide_eq_true_eq,ge]at c;obtain⟨⟨u,d⟩,b⟩:=c;have k:=lF (ls:=Ab (Gu .i64 (Bt l) a.al)) b d ha hp;have v:=kC (x:=Gu .i64 (Bt l) a.al) b d ha hp;have g:=JG b d;have w:=BE ha;have q:=BE hp;have i:Pure Tryz.prog TB 95 [eI .i64 (Ax (l.map (·.st))*a.nx.length*p.nx.length),Ak [0],Ak (Ab (Gu .i64 (Bt l) a.al)),.o (.fn 162 [.ip [.l (Dq a)],.ip [iD p.nx.length],.ip [iD a.nx.length],.ip [.l (Dq p)],.ip (Hb l)]),.o (.fn 164 [.ip [.p (AE a)],.ip [iD p.nx.length],.ip [iD a.nx.length],.ip (AE p)])]
  (Ov (Dy (gI l a p (Ab (Gu .i64 (Bt l) a.al))))):=by
  rw[<-k.1];refine LB v k.2.2 (λx e=>by have:=Af e;omega) (AJ _ 6) (λnode x f e=>?_) (λnode x outs f e s=>?_) (λn f=>?_) rfl (λr=>rfl) (λr=>rfl) (Dz _)
  ·have j:=Af e
   have y:=(Qt b d ha hp f.1 j.1 (by omega)).2;have B:Ax (l.map (·.st))*1<=Ax (l.map (·.st))*a.nx.length:=rC (by omega) (by omega);have A:Ax (l.map (·.st))*a.nx.length*1<=Ax (l.map (·.st))*a.nx.length*p.nx.length:=rC (by omega) (by omega);have z:(((gI l a p (Ab (Gu .i64 (Bt l) a.al))).succ node x).length:Int)<=Ax (l.map (·.st)):=y;omega
  ·have j:=Af e
   exact VB b d ha hp node x f.1 (by omega) j.1 (by omega) outs s
  ·exact UU ha hp n f.1 (by omega)
 have t:0<=Ax (l.map (·.st))*a.nx.length/\Ax (l.map (·.st))*a.nx.length<=49152:=⟨rH (by omega) (by omega),by
  have:Ax (l.map (·.st))*a.nx.length<=4096*12:=rf g.2 (by omega) (by omega) (by omega)
  omega⟩
 refine eN Tryz.func103 rfl (by kernel_rfl) rfl ?_;intro U m;(repeat first|refine aU rfl ?_);(refine Al rfl ?_;refine CX (λ_ _=>Gm rfl rfl rfl) rfl ?_);(refine Al rfl ?_;refine CX (λ_ _=>Gm rfl rfl rfl) rfl ?_);(repeat first|refine tM rfl ?_|refine sP rfl (N0 l b d) rfl ?_|refine sP rfl (FY l) rfl ?_|refine aU rfl ?_|apply Aa);(refine aC rfl ?_ ?_<;>rintro⟨⟩);apply aK;apply aS;refine R.RD [(0,2),(1,2),(2,2),(3,2),(4,2),(5,2),(6,3),(7,3),(8,5),(9,5)] mixed (by kernel_rfl) rfl (by kernel_rfl) ?_;(repeat ((refine R.Al rfl ?_;first|(refine R.yQ (md:=false) rfl rfl rfl ?_ ?_;exact tI)|refine R.yP rfl rfl rfl rfl ?_|refine R.yA rfl rfl rfl rfl ?_|refine R.CX (λ_ _ _=>Fu rfl rfl rfl (Ev a ha) rfl) rfl rfl ?_|refine R.CX (λ_ _ _=>Fu rfl rfl rfl (Ev p hp) rfl) rfl rfl ?_ )));refine R.Rz ?_;apply aS;refine Aj.freeze [0,1,2] [(4,.o (.ip [.p (AE a)])),(5,.o (.ip (AE p))),(8,.o (.ip (Hb l))),(9,eI .i64 (Bt l)),(10,.o (.ip [.l (Dq a)])),(11,.o (.ip [.l (Dq p)]))] ⟨⟨_,rfl,.A0⟩,⟨_,rfl,.A0⟩,⟨_,rfl,.o (.ptr (by simp) rfl rfl rfl)⟩,⟨_,rfl,.A0⟩,⟨_,rfl,.o (.ptr (by simp) rfl rfl rfl)⟩,⟨_,rfl,.o (.ptr (by simp) rfl rfl rfl)⟩,trivial⟩ ?_;refine R.RD [(0,2),(1,2),(2,2),(3,2),(4,3),(5,3),(6,5),(7,5)] mixed (by kernel_rfl) rfl (by kernel_rfl) ?_;(repeat ((refine R.Al rfl ?_;first|(refine R.yQ (md:=false) rfl rfl rfl ?_ ?_;exact tI)|refine R.yP rfl rfl rfl rfl ?_|refine R.yA rfl rfl rfl rfl ?_ )));refine R.Rz ?_;apply aS;simp only[WG];refine Aj.freeze [3,4] [(4,.o (.ip [.p (AE a)])),(5,.o (.ip (AE p))),(8,.o (.ip (Hb l))),(9,eI .i64 (Bt l)),(10,.o (.ip [.l (Dq a)])),(11,.o (.ip [.l (Dq p)])),(12,.o (.ip [iD a.nx.length])),(13,.o (.ip [iD p.nx.length]))] ⟨⟨_,rfl,.A0⟩,⟨_,rfl,.A0⟩,⟨_,rfl,.A0⟩,⟨_,rfl,.A0⟩,⟨_,rfl,.A0⟩,⟨_,rfl,.A0⟩,⟨_,rfl,.o (.ptr (by simp) rfl rfl rfl)⟩,⟨_,rfl,.o (.ptr (by simp) rfl rfl rfl)⟩,trivial⟩ ?_;(repeat first|refine tA rfl ?_|refine aU rfl ?_|apply Aa);refine rG (Hz []) (by kernel_rfl) ?_;(repeat first|(refine sA rfl ?_ ?_;first|exact tI|omega)|refine sP rfl (ax l b d) rfl ?_|refine sP rfl (CJ _) rfl ?_|refine sP rfl (i) rfl ?_|apply Aa);refine aR ⟨_,rfl,rfl⟩
theorem Ox[EK TB](l:List Sys)(p:AK)(h:AX l=true)(hp:AD p=true) :
 Pure Tryz.prog TB 103 [FX l,.o (.d (.v (.pointer none))),Bh p] (Ov (Dy (gI l Oq p (Ab (Gu .i64 (Bt l) Oq.al))))):=by
 obtain⟨a,f⟩:∃a,a=Oq:=⟨_,rfl⟩
 have ha:AD a=true:=by rw[f];exact iG
 rw [<-f];have c:=h;unfold AX at c;simp only[d4,decide_eq_true_eq,ge]at c;obtain⟨⟨y,e⟩,b⟩:=c;have q:=lF (ls:=Ab (Gu .i64 (Bt l) a.al)) b e ha hp;have z:=kC (x:=Gu .i64 (Bt l) a.al) b e ha hp;have j:=JG b e;have A:=BE ha;have t:=BE hp;have k:Pure Tryz.prog TB 95 [eI .i64 (Ax (l.map (·.st))*a.nx.length*p.nx.length),Ak [0],Ak (Ab (Gu .i64 (Bt l) a.al)),.o (.fn 162 [.ip [.l (Dq a)],.ip [iD p.nx.length],.ip [iD a.nx.length],.ip [.l (Dq p)],.ip (Hb l)]),.o (.fn 164 [.ip [.p (AE a)],.ip [iD p.nx.length],.ip [iD a.nx.length],.ip (AE p)])]
  (Ov (Dy (gI l a p (Ab (Gu .i64 (Bt l) a.al))))):=by
  rw[<-q.1];refine LB z q.2.2 (λx g=>by have:=Af g;omega) (AJ _ 6) (λnode x i g=>?_) (λnode x outs i g u=>?_) (λn i=>?_) rfl (λr=>rfl) (λr=>rfl) (Dz _)
  ·have m:=Af g
   have B:=(Qt b e ha hp i.1 m.1 (by omega)).2;have H:Ax (l.map (·.st))*1<=Ax (l.map (·.st))*a.nx.length:=rC (by omega) (by omega);have G:Ax (l.map (·.st))*a.nx.length*1<=Ax (l.map (·.st))*a.nx.length*p.nx.length:=rC (by omega) (by omega);have F:(((gI l a p (Ab (Gu .i64 (Bt l) a.al))).succ node x).length:Int)<=Ax (l.map (·.st)):=B;omega
  ·have m:=Af g
   exact VB b e ha hp node x i.1 (by omega) m.1 (by omega) outs u
  ·exact UU ha hp n i.1 (by omega)
 have w:0<=Ax (l.map (·.st))*a.nx.length/\Ax (l.map (·.st))*a.nx.length<=49152:=⟨rH (by omega) (by omega),by
  have:Ax (l.map (·.st))*a.nx.length<=4096*12:=rf j.2 (by omega) (by omega) (by omega)
  omega⟩
 refine eN Tryz.func103 rfl (by kernel_rfl) rfl ?_;intro U s;(repeat first|refine aU rfl ?_);(refine pW rfl ?_ rfl (by rfl);refine KG rfl rfl ?_);(refine Al rfl ?_;refine CX (λ_ _=>Gm rfl rfl rfl) rfl ?_);(repeat first|refine tM rfl ?_|refine sP rfl (N0 l b e) rfl ?_|refine sP rfl (FY l) rfl ?_|refine aU rfl ?_|apply Aa);(refine aC rfl ?_ ?_<;>rintro⟨⟩);(repeat first|refine tA rfl ?_|(refine Al rfl ?_;refine gA rfl ?_;first|refine gS (λ_ _=>AS rfl rfl (by rfl) (by rfl)) ?_)|refine aU rfl ?_|apply Aa);refine Aj.freeze [0,1] [(4,.o (.ip [.p (AE a)])),(5,.o (.ip (AE p))),(8,.o (.ip (Hb l))),(9,eI .i64 (Bt l))] ⟨⟨_,rfl,.o (.ptr (by simp) rfl rfl (by rw[f];rfl))⟩,⟨_,rfl,.A0⟩,⟨_,rfl,.o (.ptr (by simp) rfl rfl rfl)⟩,⟨_,rfl,.A0⟩,trivial⟩ ?_;refine R.RD [(0,2),(1,2),(2,2),(3,2),(4,2),(5,2),(6,3),(7,3),(8,5),(9,5)] mixed (by kernel_rfl) rfl (by kernel_rfl) ?_;(repeat ((refine R.Al rfl ?_;first|(refine R.yQ (md:=false) rfl rfl rfl ?_ ?_;exact tI)|refine R.yP rfl rfl rfl rfl ?_|refine R.yA rfl rfl rfl rfl ?_|refine R.CX (λ_ _ _=>Fu rfl rfl rfl (Ev a ha) rfl) rfl rfl ?_|refine R.CX (λ_ _ _=>Fu rfl rfl rfl (Ev p hp) rfl) rfl rfl ?_ )));refine R.Rz ?_;apply aS;refine Aj.freeze [2,3] [(4,.o (.ip [.p (AE a)])),(5,.o (.ip (AE p))),(8,.o (.ip (Hb l))),(9,eI .i64 (Bt l)),(10,.o (.ip [.l (Dq a)])),(11,.o (.ip [.l (Dq p)]))] ⟨⟨_,rfl,.A0⟩,⟨_,rfl,.A0⟩,⟨_,rfl,.A0⟩,⟨_,rfl,.A0⟩,⟨_,rfl,.o (.ptr (by simp) rfl rfl rfl)⟩,⟨_,rfl,.o (.ptr (by simp) rfl rfl rfl)⟩,trivial⟩ ?_;refine R.RD [(0,2),(1,2),(2,2),(3,2),(4,3),(5,3),(6,5),(7,5)] mixed (by kernel_rfl) rfl (by kernel_rfl) ?_;(repeat ((refine R.Al rfl ?_;first|(refine R.yQ (md:=false) rfl rfl rfl ?_ ?_;exact tI)|refine R.yP rfl rfl rfl rfl ?_|refine R.yA rfl rfl rfl rfl ?_ )));refine R.Rz ?_;apply aS;simp only[WG];refine Aj.freeze [4,5] [(4,.o (.ip [.p (AE a)])),(5,.o (.ip (AE p))),(8,.o (.ip (Hb l))),(9,eI .i64 (Bt l)),(10,.o (.ip [.l (Dq a)])),(11,.o (.ip [.l (Dq p)])),(12,.o (.ip [iD a.nx.length])),(13,.o (.ip [iD p.nx.length]))] ⟨⟨_,rfl,.A0⟩,⟨_,rfl,.A0⟩,⟨_,rfl,.A0⟩,⟨_,rfl,.A0⟩,⟨_,rfl,.A0⟩,⟨_,rfl,.A0⟩,⟨_,rfl,.o (.ptr (by simp) rfl rfl rfl)⟩,⟨_,rfl,.o (.ptr (by simp) rfl rfl rfl)⟩,trivial⟩ ?_;(repeat first|refine tA rfl ?_|refine aU rfl ?_|apply Aa);refine rG (Hz []) (by kernel_rfl) ?_;(repeat first|(refine sA rfl ?_ ?_;first|exact tI|omega)|refine sP rfl (ax l b e) rfl ?_|refine sP rfl (CJ _) rfl ?_|refine sP rfl (k) rfl ?_|apply Aa);refine aR ⟨_,rfl,rfl⟩
end Go.Am
