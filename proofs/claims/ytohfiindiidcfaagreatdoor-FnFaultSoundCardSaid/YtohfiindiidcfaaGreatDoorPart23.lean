/-
  Reversed bytes; the word of a path.
-/
import Derived.Test.YtohfiindiidcfaaGreatDoorPart21
import Derived.Test.YtohfiindiidcfaaGreatDoorPart12
set_option linter.all false
namespace Go.Am
open Go Go.Proofs
set_option maxHeartbeats 1000000
set_option maxRecDepth 4000
attribute [local irreducible] A8 Cq Lex Br Ai Spec
variable {TB:BA}
def Ec(bs:List UInt8)(k i:Nat):UInt8:=if i < k\/bs.length<=i+k then bs.getD (bs.length - 1 - i) 0 else bs.getD i 0
theorem dw(bs:List UInt8):(Ce bs.length λi=>HH (Ec bs 0 i))=bs.map HH:=by
 apply kK;intro i;by_cases hi:i < bs.length
 ·rw [Eu (g:=λi=>HH (Ec bs 0 i)) hi]
  unfold Ec;rw [if_neg (by omega)];simp [List.getD,hi]
 ·rw [jt (by simp [Ce];omega),jt (by simp;omega)]
theorem YU(bs:List UInt8){k:Nat}(hk:bs.length<=2*k+1):(Ce bs.length λi=>HH (Ec bs k i))=bs.reverse.map HH:=by
 apply kK;intro i;by_cases hi:i < bs.length
 ·rw [Eu (g:=λi=>HH (Ec bs k i)) hi]
  unfold Ec
  have b:bs.reverse[i]? = some (bs.getD (bs.length - 1 - i) 0):=by
   rw [List.getElem?_reverse hi]
   have:bs.length - 1 - i < bs.length:=by omega
   simp [List.getD,this]
  rw [ge,b];by_cases a:i < k\/bs.length<=i+k
  ·rw [if_pos a];rfl
  ·rw [if_neg a]
   have:bs.length - 1 - i=i:=by omega
   rw [this];rfl
 ·rw [jt (by simp [Ce];omega),jt (by simp;omega)]
theorem U0(r:Nat->Nat)(l:List UInt8):(l.map HH).map (C.Cp r)=l.map HH:=by
 rw [ka];exact kw λc _=>rfl
theorem HX(r:Nat->Nat)(c:UInt8):C.Cp r (HH c)=HH c:=rfl
theorem TL(r:Nat->Nat)(n:Nat)(H:Nat->UInt8):(Ce n λi=>HH (H i)).map (C.Cp r)=Ce n λi=>HH (H i):=by
 unfold Ce;rw [ka];exact kw λi _=>rfl
theorem Py{n q:Nat}{H:Nat->UInt8}(h:q < n):(Ce n λi=>HH (H i))[0+((q:Nat):Int).toNat]? = some (HH (H q)):=by
 rw [jd,io];exact Eu (g:=λi=>HH (H i)) h
theorem Vj{n q:Nat}{H:Nat->UInt8}{c d:UInt8}:(Ce n λi=>HH (H i)).set (0+((q:Nat):Int).toNat) (Ag (HH d) 0 (eC (eI .u8 (c.toNat:Nat))))=Ce n λi=>HH (if i=q then c else H i):=by
 rw [jd,io];have e:Ag (HH d) 0 (eC (eI .u8 (c.toNat:Nat)))=HH c:=rfl;rw [e,KY];refine DQ λi _=>?_;by_cases h:i=q<;>simp [h]
theorem TM(bs:List UInt8)(hb:bs.length<=1099511627776):Spec Tryz.prog TB 192 [(0,.cells 5 1 (bs.map HH))] 1 [.o (.arr 0 1 0 bs.length)] (λx σ nx=>x=.t []/\nx=1/\σ=[(0,.cells 5 1 (bs.reverse.map HH))]):=by
 refine eN Tryz.func192 rfl (by kernel_rfl) rfl ?_;intro Z b;(repeat first|(refine sM rfl ?_ ?_;first|exact tI|omega) |refine aU rfl ?_ |apply Aa);apply aB;refine Ai.A7 (α:={k:Nat // k<=bs.length}) (λ⟨k,hk⟩=>[(0,.o (.arr 0 1 0 bs.length)),(2,eI .i64 k),(3,eI .i64 ((bs.length:Int) - 1 - k))]) (λ⟨k,hk⟩=>[(0,.cells 5 1 (Ce bs.length λi=>HH (Ec bs k i)))]) 1 (λ⟨k,hk⟩=>bs.length - k) (⟨0,by omega⟩) [0] (Es b rfl rfl) (by (simp[cX,zC,b,TL,dw,HX])) ?_;rintro⟨k,hk⟩;(try dsimp only);(repeat first|refine tM rfl ?_ |refine s2 rfl λ_ B=>?_ |refine aU rfl ?_ |apply Aa);(refine aC rfl ?_ ?_<;>rintro⟨⟩)
 ·have u:2*k+1 < bs.length:=by (simp only[oZ] at *;omega)
  obtain⟨m,F⟩:∃m:Nat,m=bs.length - 1 - k:=⟨_,rfl⟩
  have A:(bs.length:Int) - 1 - k=((m:Nat):Int):=by omega
  have l:Ec bs k k=bs.getD k 0:=by unfold Ec;rw [if_neg (by omega)]
  have h:Ec bs k m=bs.getD m 0:=by unfold Ec;rw [if_neg (by omega)]
  have w:=Py (H:=Ec bs k) (q:=k) (n:=bs.length) (by omega);have v:=Py (H:=Ec bs k) (q:=m) (n:=bs.length) (by omega);have e:=Vj (n:=bs.length) (q:=k) (H:=Ec bs k) (c:=Ec bs k m) (d:=Ec bs k k);have a:=Py (H:=λi=>if i=k then Ec bs k m else Ec bs k i) (q:=m) (n:=bs.length) (by omega);have f:=Vj (n:=bs.length) (q:=m) (H:=λi=>if i=k then Ec bs k m else Ec bs k i) (c:=Ec bs k k) (d:=Ec bs k m)
  have g:m≠k:=by omega
  rw [if_neg g] at a
  have y:(Ce bs.length λi=>HH (if i=m then Ec bs k k else if i=k then Ec bs k m else Ec bs k i))=Ce bs.length λi=>HH (Ec bs (k+1) i):=DQ λi hi=>by
   congr 1;by_cases s:i=m
   ·subst s;rw [if_pos rfl,l];unfold Ec;rw [if_pos (by omega)];congr 1;omega
   ·rw [if_neg s]
    by_cases r:i=k
    ·subst r;rw [if_pos rfl,h];unfold Ec;rw [if_pos (by omega)];congr 1
    ·rw [if_neg r];unfold Ec
     by_cases p:i < k\/bs.length<=i+k
     ·rw [if_pos p,if_pos (by omega)]
     ·rw [if_neg p,if_neg (by omega)]
  rw [<-e] at a;rw [A];apply aK;refine aS (aB ?_);refine rG (iK [13,15] [2,3]) (by kernel_rfl) ?_;(repeat first|(refine sM rfl ?_ ?_;first|exact tI|omega) |refine t4 rfl ‹_› rfl ?_ |refine aU rfl ?_ |apply Aa);refine⟨⟨k+1,by omega⟩,by dsimp only;(omega),[0],?_⟩;rw [e,f,y]
  have z:(m:Int) - 1=bs.length - 1 - (k+1):=by omega
  simp[cX,zC,b,TL,z]
 ·have j:bs.length<=2*k+1:=by (simp only[oZ] at *;omega)
  rw [YU bs j];exact aE ⟨_,rfl,rfl,rfl,rfl⟩
abbrev bP(s:Mi):List D:=[iD s.p,iD s.l,Fw s.ns]
abbrev NT(s:Mi):List C:=[.d (iD s.p),.d (iD s.l),.d (Fw s.ns)]
abbrev Zd(l:List Mi):D:=.l (l.map bP)
theorem VQ{l:Int}(e:0<=l)(c:l < 6):HH (UInt8.ofNat (97+l.toNat))=[.d (.v (.int .u8 (97+l)))]:=by
 have b:(97+l.toNat) % 256=97+l.toNat:=jx (by omega)
 have a:(97+l:Int)=((97+l.toNat:Nat):Int):=by omega
 simp [HH,b,a]
theorem bm(o:List Int):(C1 o).reverse=C1 o.reverse:=by simp [C1]
theorem Rz{ls:List Int}{steps:List Mi}{ws:List (List Int)}(h:Chain ls steps ws)(I:∀l∈ls,0<=l/\l < 6){w:List Int}(n:1<=steps.length/\steps.length<=2097152)(P:ws[steps.length - 1]? = some w):Pure Tryz.prog TB 148 [.o (.d (Zd steps))] (eT (C1 w)):=by
 refine eN Tryz.func148 rfl (by kernel_rfl) rfl ?_;intro Z a;(repeat first|refine tM rfl ?_ |refine aU rfl ?_ |apply Aa);(refine pW rfl ?_ rfl (by rfl);refine Nu 1 5 ?_);(repeat first|refine sN rfl ?_ |(refine sM rfl ?_ ?_;first|exact tI|omega) |refine aU rfl ?_ |apply Aa);apply aB;refine Ai.A7 (α:={x:Nat×List Int // x.1+x.2.length < steps.length/\∃v,ws[x.1]? = some v/\w=v++x.2.reverse}) (λ⟨⟨i,o⟩,z⟩=>[(0,.o (.d (Zd steps))),(3,.o (.arr 0 1 0 o.length)),(4,eI .i64 i)]) (λ⟨⟨i,o⟩,z⟩=>[(0,.cells 5 1 ((C1 o).map HH))]) 1 (λ⟨⟨i,o⟩,z⟩=>i) (⟨(steps.length - 1,[]),by simp;omega,w,P,by simp⟩) [0] (Es a rfl rfl) (by (simp[cX,zC,a,C1,Int.ofNat_sub,n.1])) ?_;rintro⟨⟨i,o⟩,z⟩;(try dsimp only);obtain⟨hi,v,B,b⟩:=z;simp only at hi B b;obtain⟨s,K⟩:=get_some (l:=steps) (k:=i) (by omega);have R:=get_map (g:=bP) K;have t:=h.chain i s K
 have G:(C1 o).length=o.length:=by simp [C1]
 (repeat first|refine tM rfl ?_ |(refine s4 rfl ‹_› rfl ?_ ?_;omega) |refine s2 rfl λ_ X=>?_ |refine aU rfl ?_ |apply Aa);(refine aC rfl ?_ ?_<;>rintro⟨⟩)
 ·obtain⟨q,u,T,S,H,y,V⟩:∃(q:Nat) (u:List Int),s.p=(q:Int)/\q < i/\ws[q]? = some u/\ws[i]? = some (u++[s.l])/\s.l∈ls:=by
   rcases t with ⟨e,_⟩|e
   ·exfalso;(simp only[oZ] at *;omega)
   ·exact e
  have c:=I _ V;rw [B] at y
  injection y with y
  have J:=VQ c.1 c.2
  have F:C1 (o++[s.l])=C1 o++[UInt8.ofNat (97+s.l.toNat)]:=by simp [C1]
  have j:(C1 (o++[s.l])).map HH=(C1 o).map HH++[[.d (.v (.int .u8 (97+s.l)))]]:=by rw [F,jW,kk,J];rfl
  apply aK;refine aS (aB ?_);(repeat first|refine tA rfl ?_ |(refine s4 rfl ‹_› rfl ?_ ?_;omega) |refine sP rfl (Ov s.l c.1 (by omega)) rfl ?_ |refine aU rfl ?_);(refine pW rfl ?_ rfl (by rfl);refine Aw rfl rfl rfl (by first| (simp;done)|(simp;(omega))) rfl (by intro r L;simp at L;subst L;rfl) (by rfl) (ce rfl) (by simp;omega) ?_);(repeat first|refine tX rfl ?_ |(refine s4 rfl ‹_› rfl ?_ ?_;omega) |refine aU rfl ?_ |apply Aa);refine⟨⟨(q,o++[s.l]),by simp;omega,u,H,by rw [b,y];simp⟩,by dsimp only;omega,[1],?_⟩;dsimp only;rw [j];simp[cX,zC,a,T,HX]
 ·have A:v=[]:=by
   rcases t with ⟨_,e⟩|⟨q,u,e,_⟩
   ·rw [B] at e;injection e
   ·exfalso;(simp only[oZ] at *;omega)
  subst A
  have f:w=o.reverse:=by rw [b];rfl
  have m:=TM (TB:=TB) (C1 o) (by omega);rw [G,bm,<-f] at m;apply aE;(repeat first|refine tM rfl ?_ |refine aU rfl ?_);(refine pW rfl ?_ rfl (by rfl);refine Af [0] rfl rfl m ⟨rfl,by simp,by simp⟩ rfl (by simp[cX,zC,a,HX]) ?_;rintro Y M N ⟨rfl,rfl,rfl⟩ _)
  have Q:(C1 w).length=o.length:=by rw [f];simp [C1]
  (repeat first|refine tM rfl ?_|(refine Av rfl ?_;refine gA rfl ?_;first| refine gQ (UU (C1 w) rfl rfl (by simp;omega) (by rw [jV,U0,iY (by simp;omega)])) (by rfl) ?_) |refine aU rfl ?_ |apply Aa);refine aR ⟨_,rfl,rfl⟩
theorem bX(p:Nat->Prop):(∀i,i < 5->p i)↔p 0/\p 1/\p 2/\p 3/\p 4:=by
 constructor
 ·intro h;exact⟨h 0 (by omega),h 1 (by omega),h 2 (by omega),h 3 (by omega),h 4 (by omega)⟩
 ·rintro⟨e,d,c,b,a⟩ i hi
  have:i=0\/i=1\/i=2\/i=3\/i=4:=by omega
  rcases this with rfl|rfl|rfl|rfl|rfl<;>assumption
theorem Zn{goal:Int->Bool}{seen:List Bool}{nodes:List Int}{k:Nat}{x:Int}(h:nodes[k]? = some x):Qg goal seen (nodes.take (k+1))=So goal (Qg goal seen (nodes.take k)) x:=by
 unfold Qg;rw [Fu h]
theorem RT{l:List Bool}{n:Int}:(l.map AZ).set (0+n.toNat) (Ag (AZ false) 0 (eC (eB true)))=(l.set n.toNat true).map AZ:=by
 simp [Ag,eC,jU]
abbrev EO(N:Nat)(gG:FuncId)(capsG:List C)(seen:List Bool)(q:Nat)(steps:List Mi):Ab:=
 [(0,.cells 27 1 [[.arr 1 1 0 N]]),(1,.cells 4 1 (seen.map AZ)),(2,.cells 73 1 [[.fn gG capsG]]),(3,.cells 176 1 [[.arr q 3 0 steps.length]]),(q,.cells 178 3 (steps.map NT))]
theorem Sn{goal:Int->Bool}{gG:FuncId}{capsG:List C}{N:Nat}(M:∀n:Int,0<=n/\n < N->Pure Tryz.prog TB gG ([eI .i64 n]++capsG.map .o) (eB (goal n)))(G:C.HE capsG=true)(d:∀r,C.Cp r capsG=capsG)
 (seen:List Bool) (steps:List Mi) (p l:Int) (nodes:List Int) (R:seen.length=N) (T:N<=1048576) (Q:steps.length<=1048576) (u:∀n∈nodes,0<=n/\n < N) :
 Spec Tryz.prog TB 147 (EO N gG capsG seen 4 steps) 5 [eI .i64 p,eI .i64 l,Aj nodes,.o (.ptr 0 1 0 0),.o (.ptr 2 1 0 0),.o (.ptr 3 1 0 0)]
  (λx σ nx=>x=eB (Qg goal seen nodes).found/\∃q,(q=4/\nx=5\/q=5/\nx=6)/\σ=EO N gG capsG (Qg goal seen nodes).seen q (Ed steps p l (Qg goal seen nodes).fresh)):=by
 have s:∀k,dL goal N seen (nodes.take k) (Qg goal seen (nodes.take k)):=λk=>Ue R λn F=>u n (jg F);refine eN Tryz.func147 rfl (by kernel_rfl) rfl ?_;intro Z a;refine Ai.bound 2 rfl λK=>?_;have S:=K _ .refl;rw [gt] at S;(repeat first|refine tM rfl ?_ |refine aU rfl ?_ |apply Aa);(refine pW rfl ?_ rfl (by rfl);refine Nu 1 3 ?_);(repeat first|refine sN rfl ?_ |refine tM rfl ?_ |refine aU rfl ?_ |apply Aa);apply aB;refine Ai.A7 (α:={k:Nat // k<=nodes.length}) (λ⟨k,hk⟩=>[(0,eI .i64 p),(1,eI .i64 l),(3,.o (.ptr 0 1 0 0)),(4,.o (.ptr 2 1 0 0)),(5,.o (.ptr 3 1 0 0)),(10,.o (.arr 5 1 0 (Qg goal seen (nodes.take k)).fresh.length)),(11,eB (Qg goal seen (nodes.take k)).found),(14,Aj nodes),(15,eI .i64 nodes.length),(16,eI .i64 k)]) (λ⟨k,hk⟩=>EO N gG capsG (Qg goal seen (nodes.take k)).seen 4 steps++[(5,.cells 3 1 ((Qg goal seen (nodes.take k)).fresh.map AB))]) 6 (λ⟨k,hk⟩=>nodes.length - k) (⟨0,by omega⟩) [0,1,2,3,4,5] (Es a rfl rfl) (by (simp[cX,zC,a,EO,Qg,d])) ?_;rintro⟨k,hk⟩;(try dsimp only);have i:=s k;have c:=λx=>Zn (goal:=goal) (seen:=seen) (nodes:=nodes) (k:=k) (x:=x);generalize L:Qg goal seen (nodes.take k)=v at *;(repeat first|refine s2 rfl λ_ f=>?_ |refine aU rfl ?_ |apply Aa);(refine aC rfl ?_ ?_<;>rintro⟨⟩)
 ·obtain⟨x,z⟩:=get_some (l:=nodes) (k:=k) (by (simp only[oZ] at *;omega))
  have P:=get_map (g:=Bm) z;have m:=u x (co z);have c:=c x z;have A:=i.len;obtain⟨b,hb⟩:=get_some (l:=v.seen) (k:=x.toNat) (by omega)
  have J:(v.seen.map AZ)[0+x.toNat]? = some (AZ b):=by simp [hb]
  have B:sn v.seen x=b:=by simp [sn,List.getD,hb]
  have h:v.fresh.length<=N:=by
   refine Fe _ _ i.nd λy w=>u y (jg ((i.fr y).1 w).1)
  unfold So at c;rw [B] at c;obtain⟨vse,vfr,vfd⟩:=v;simp only at c A hb J h;apply aK;refine aS (aB ?_);(repeat first|((first|refine sM rfl ?_ ?_|refine s4 rfl ‹_› rfl ?_ ?_);first|exact tI|omega) |refine s2 rfl λ_ f=>?_ |refine aU rfl ?_ |apply Aa);(refine aC rfl ?_ ?_<;>rintro⟨⟩)
  ·have I:b=false:=by simpa using f
   subst I;rw [if_neg (by simp)] at c;(repeat first|(refine sA rfl ?_ ?_;first|exact tI|omega) |refine t4 rfl ‹_› rfl ?_ |refine aU rfl ?_ |apply Aa);(refine pW rfl ?_ rfl (by rfl);refine Aw rfl rfl rfl (by first| (simp;done)|(simp;(omega))) rfl (by intro r t;simp at t;subst t;rfl) (by rfl) (ce rfl) (by simp;omega) ?_);(repeat first|(refine sX rfl ?_ ?_;first|exact tI|simp only[oZ] at *;omega) |refine s3 rfl ?_ ?_<;>rintro rfl |refine aU rfl ?_ |apply Aa);(repeat first|(refine sC rfl (M x m) ?_;intro _ f)|(refine Av rfl ?_;refine gA rfl ?_;first| refine gQ (PX rfl rfl rfl rfl) (by rfl) ?_))
   ·refine⟨⟨k+1,by (simp only[oZ] at *;omega)⟩,by dsimp only;((simp only[oZ] at *;omega)),[0,1,2,3,4,6],?_⟩
    rw [RT];simp[cX,zC,a,c,EO,d,bX]
   ·(repeat first|(refine sA rfl ?_ ?_;first|exact tI|simp only[oZ] at *;omega)|(refine Av rfl ?_;refine gA rfl ?_;first| (refine gB (λ_ _=>Gp rfl rfl (by simp [E.FM,C.FM,G]) (M x m) rfl) ?_;intro _ f)) |refine aU rfl ?_ |apply Aa)
    refine⟨⟨k+1,by (simp only[oZ] at *;omega)⟩,by dsimp only;((simp only[oZ] at *;omega)),[0,1,2,3,4,6],?_⟩;rw [RT];simp[cX,zC,a,c,EO,d,bX,f]
  ·have H:b=true:=by simpa using f
   subst H;rw [if_pos rfl] at c;apply aK;(repeat first|(refine sM rfl ?_ ?_;first|exact tI|simp only[oZ] at *;omega) |refine aU rfl ?_ |apply Aa);refine⟨⟨k+1,by (simp only[oZ] at *;omega)⟩,by dsimp only;((simp only[oZ] at *;omega)),[0,1,2,3,4,5],?_⟩;simp[cX,zC,a,c,EO,d,bX]
 ·obtain rfl:k=nodes.length:=by (simp only[oZ] at *;omega)
  rw [iV] at L;subst L;apply aE
  have h:(Qg goal seen nodes).fresh.length<=N:=by
   have i:=s nodes.length;rw [iV] at i;refine Fe _ _ i.nd λy w=>u y ((i.fr y).1 w).1
  generalize Qg goal seen nodes=vv at *;obtain⟨vse,vfr,vfd⟩:=vv;have h:vfr.length<=N:=h;(repeat first|refine tM rfl ?_ |refine s2 rfl λ_ f=>?_ |refine aU rfl ?_ |apply Aa);(refine aC rfl ?_ ?_<;>rintro⟨⟩)
  ·have j:vfr≠[]:=λe=>by rw [e] at f;simp at f
   refine Ai.freeze [5] [(0,eI .i64 p),(1,eI .i64 l),(5,.o (.ptr 3 1 0 0)),(10,Aj vfr),(11,eB vfd)] ⟨⟨_,rfl,.AX⟩,⟨_,rfl,.AX⟩,⟨_,rfl,.AX⟩,⟨_,rfl,.o (.full (by simp) rfl (by simp [d5]) (by simp))⟩,⟨_,rfl,.AX⟩,trivial⟩ ?_;(repeat first|refine tA rfl ?_|(refine Av rfl ?_;refine gA rfl ?_;first| refine gS (λ_ _=>AS rfl rfl (by rfl) (by rfl)) ?_) |refine aU rfl ?_);(refine pW rfl ?_ rfl (by rfl);refine Aw rfl rfl rfl (by first| (simp;done)|(simp;(omega))) rfl (by intro r t;simp at t;subst t;rfl) (by rfl) (ce rfl) (by simp;omega) ?_);(repeat first|refine tX rfl ?_ |refine aU rfl ?_ |apply Aa);refine Ai.names [0,1,2,3,4,6] [(9,eB vfd)] (EO N gG capsG vse 5 (Ed steps p l vfr)) (by rw [a];decide) (by decide) (by simp[cX,zC,a]) (by simp[cX,zC,a,EO,d,Ed,j,Cu,Ag,eC]) ?_;refine aR ⟨_,rfl,rfl,5,.inr ⟨rfl,rfl⟩,rfl⟩
  ·have j:vfr=[]:=i8.1 (by (simp only[oZ] at *;omega))
   subst j;apply aK;(repeat first|refine tM rfl ?_ |refine aU rfl ?_ |apply Aa);refine Ai.names [0,1,2,3,4] [(9,eB vfd)] (EO N gG capsG vse 4 steps) (by rw [a];decide) (by decide) (by simp[cX,zC,a]) (by simp[cX,zC,a,EO,d]) ?_;refine aR ⟨_,rfl,rfl,4,.inl ⟨rfl,rfl⟩,by simp [Ed]⟩
theorem XU{P:Program}{Z:Ctx}{d:Option Tmp}{ty:TypeId}{pos:String}{af:Array Edge}{g:Option (Nat×Bool)}{f:Env}{σ:Ab}{nx:Nat}{K:E->Ab->Nat->Prop}{T:TypeId}(k e:Nat)[r:BJ P T [.slice none 0 0]]
 (u:K (.o (.ptr (nx+1) 1 0 0)) ((nx+1,.cells T 1 [[.arr nx k 0 0]])::(nx,.cells e k [])::σ) (nx+2)):Cq P TB Z ⟨d,.alloc T,ty,pos,af,g⟩ f σ nx K:=
 DZ λV U z y x=>by
  subst x;obtain⟨i,zv,hi,b,a⟩:=Hx r.out
  have h:zv.cells = #[.slice none 0 0]:=by have:=congrArg List.toArray a;simpa using this
  obtain⟨m,p⟩:=y.alloc (c:=0) (nl:=True) (w:=V.w) (ob:=.cells e k []) rfl rfl rfl rfl (iX _) (λ_ _=>rfl) (.inl ⟨by simp [Ax],rfl⟩)
  have t:CP (Ax V V.w.heap.size 0 True V.w) [.arr V.nx k 0 0] zv.cells:=by
   rw [h];refine⟨rfl,λj c v l q=>?_⟩
   match j with
   | 0=>simp at l q;subst l q;exact AL.nil (by simp [Ax]) (by simp [Ax])
   | j+1=>simp at l
  obtain⟨n,s⟩:=Pq m (T:=T) t;refine⟨.pointer (some ⟨V.w.heap.size,0,none⟩),_,_,_,?_,p.trans s,n,?_,u⟩
  ·simp [execOp,Instr.alloc,zeroValue,typeInfo,hi,b,newVar,newRow,Ax,go_sem]
  ·exact Mz
theorem OY(r:Nat->Nat):∀(l m:List E),FO r (l++m)=FO r l++FO r m
 | [],m=>rfl
 | e::l,m=>by simp [FO,OY r l m]
theorem NJ(r:Nat->Nat):∀(l:List C),FO r (l.map .o)=(C.Cp r l).map .o
 | []=>rfl
 | c::l=>by simp [FO,C.Cp,E.Be,NJ r l]
def bS(P:Program)(TB:BA)(T:TypeId)(g:Gr)(gN:FuncId)(capsN:List C):Prop:=
 ∀(node l:Int) (outs:List Int),0<=node/\node < g.N->l∈g.ls->outs.length<=1099511627776->
  Spec P TB gN [(0,.cells T 1 (outs.map AB))] 1 ([eI .i64 node,eI .i64 l,.o (.arr 0 1 0 outs.length)]++capsN.map .o) (λx σ nx=>x=.o (.arr 1 1 0 (outs++g.succ node l).length)/\nx=2/\σ=[(1,.cells T 1 ((outs++g.succ node l).map AB))])
theorem JB{g:Gr}(Q:HJ g)(hN:g.N<=1048576)(Y:∀l∈g.ls,0<=l/\l < 6)(hll:g.ls.length<=6)(hsl:∀(node l:Int),0<=node/\node < g.N->l∈g.ls->(g.succ node l).length<=g.N)
 {gN gG:FuncId} {capsN capsG:List C} (hNx:bS Tryz.prog TB 3 g gN capsN) (hG:∀n:Int,0<=n/\n < g.N->Pure Tryz.prog TB gG ([eI .i64 n]++capsG.map .o) (eB (g.goal n)))
 (hcG:C.HE capsG=true) (d:∀r,C.Cp r capsG=capsG) (h:∀r,C.Cp r capsN=capsN) {r:Option (List Int)} (hr:BS g r) :
 Pure Tryz.prog TB 97 [eI .i64 g.N,Aj [g.s0],Aj g.ls,.o (.fn gN capsN),.o (.fn gG capsG)] (Ma r):=by
 refine eN Tryz.func97 rfl (by kernel_rfl) rfl ?_;intro Z b;(repeat first|refine aU rfl ?_);(refine pW rfl ?_ rfl (by rfl);refine Nt rfl rfl ?_);(repeat first|refine tM rfl ?_ |refine aU rfl ?_ |apply Aa);(refine pW rfl ?_ rfl (by rfl);refine KP rfl rfl (by rfl) (by rfl) (ce rfl) (by omega) (by omega) (by omega) ?_)
 iterate 4 (first|refine tM rfl ?_ |refine aU rfl ?_ |apply Aa)
 (refine pW rfl ?_ rfl (by rfl);refine XU 3 178 ?_);(repeat first|refine tM rfl ?_ |refine aU rfl ?_ |apply Aa);have K:=Ue (goal:=g.goal) (N:=g.N) (seen:=List.replicate g.N false) (nodes:=[g.s0]) (by simp) (by intro n u;simp at u;subst u;exact Q.s0);have A:=Sn (TB:=TB) hG hcG d (List.replicate g.N false) [] (-1) 0 [g.s0] (by simp) hN (by simp) (by intro n u;simp at u;subst u;exact Q.s0);(refine pW rfl ?_ rfl (by rfl);refine Af [2,1,0,4,3] rfl rfl A ⟨rfl,by decide,by decide⟩ rfl (by simp[cX,zC,b,EO,d,Ag,eC]) ?_;rintro x0 T V ⟨rfl,q,L,rfl⟩ _);generalize hV:Qg g.goal (List.replicate g.N false) [g.s0]=v at *;obtain⟨vse,vfr,vfd⟩:=v;simp only;apply Aa;refine Ai.names [2,1,0,4,if q=4 then 3 else 5] [(2,Aj g.ls),(3,.o (.fn gN capsN)),(12,.o (.ptr 0 1 0 0)),(13,.o (.ptr 3 1 0 0)),(14,.o (.fn 147 [.ptr 0 1 0 0,.ptr 2 1 0 0,.ptr 3 1 0 0])),(26,eB vfd)] (EO g.N gG capsG vse 4 (Ed [] (-1) 0 vfr)) (by simp [b]) (by rcases L with ⟨rfl,rfl⟩|⟨rfl,rfl⟩<;>decide)
  (by rcases L with ⟨rfl,rfl⟩|⟨rfl,rfl⟩<;>simp[cX,zC,b,h,eC]) (by rcases L with ⟨rfl,rfl⟩|⟨rfl,rfl⟩<;>simp[cX,zC,b,EO,d,Ab.Be,Cu,Ky,eC]) ?_
 (refine aC rfl ?_ ?_<;>rintro⟨⟩)
 ·-- the start is a goal
  have hgs:g.goal g.s0=true:=by
   have h1:vfr.any g.goal=true:=K.fd.symm;obtain⟨x,J,P⟩:=kB.1 h1;have h2:=((K.fr x).1 J).1;simp at h2;subst h2;exact P
  have B:=BS.unique hr (BS.start hgs);subst B;(repeat first|refine tM rfl ?_ |refine aU rfl ?_ |apply Aa);refine aR ⟨_,rfl,rfl⟩
 apply aK;obtain⟨hfr,hF0⟩:=FI.init Q K rfl;simp only at hfr hF0;rw [hfr];(repeat first|refine tM rfl ?_ |refine aU rfl ?_ |apply Aa);apply aB;refine Ai.A7 (α:={x:Nat×List Bool×List Mi×List (List Int) // FI g x.2.1 x.2.2.1 x.2.2.2 x.1 0}) (λ⟨⟨i,seen,steps,ws⟩,f⟩=>[(2,Aj g.ls),(3,.o (.fn gN capsN)),(12,.o (.ptr 0 1 0 0)),(13,.o (.ptr 3 1 0 0)),(14,.o (.fn 147 [.ptr 0 1 0 0,.ptr 2 1 0 0,.ptr 3 1 0 0])),(15,eI .i64 i)]) (λ⟨⟨i,seen,steps,ws⟩,f⟩=>EO g.N gG capsG seen 4 steps) 5 (λ⟨⟨i,seen,steps,ws⟩,f⟩=>g.N - i) (⟨(0,vse,[⟨-1,0,[g.s0]⟩],[[]]),hF0⟩) [0,1,2,3,4] (Es b rfl rfl) (by (simp[cX,zC,b,EO,d,h,Ed])) ?_;rintro⟨⟨i,seen,steps,ws⟩,f⟩;(try dsimp only);simp only at f;have hlN:=f.eM;(repeat first|refine tM rfl ?_ |refine s2 rfl λ_ _hb=>?_ |refine aU rfl ?_ |apply Aa);(refine aC rfl ?_ ?_<;>rintro⟨⟩)
 ·have hi : i < steps.length:=by (simp only[oZ] at *;omega)
  obtain⟨s,H⟩:=get_some hi;have X:(steps.map NT)[0+((i:Nat):Int).toNat]? = some (NT s):=GD H;obtain⟨wi,z⟩:∃wi,ws[i]? = some wi:=get_some (by rw [f.wlen];exact hi);apply aK;refine aS (aB ?_);(repeat first|refine sN rfl ?_ |refine tM rfl ?_ |refine aU rfl ?_ |apply Aa);apply aB;refine Ai.A7 (α:={x:Nat×List Bool×List Mi×List (List Int) // x.1<=g.ls.length/\FI g x.2.1 x.2.2.1 x.2.2.2 i x.1/\i < x.2.2.1.length}) (λ⟨⟨j,c,st2,t⟩,hP⟩=>[(2,Aj g.ls),(3,.o (.fn gN capsN)),(12,.o (.ptr 0 1 0 0)),(13,.o (.ptr 3 1 0 0)),(14,.o (.fn 147 [.ptr 0 1 0 0,.ptr 2 1 0 0,.ptr 3 1 0 0])),(15,eI .i64 i),(33,Aj g.ls),(34,eI .i64 g.ls.length),(35,eI .i64 j)]) (λ⟨⟨j,c,st2,t⟩,hP⟩=>EO g.N gG capsG c 4 st2) 5 (λ⟨⟨j,c,st2,t⟩,hP⟩=>g.ls.length - j) (⟨(0,seen,steps,ws),by simp,f,hi⟩) [0,1,2,3,4] (Es b rfl rfl) (by (simp[cX,zC,b,EO,d,h])) ?_;rintro⟨⟨j,c,st2,t⟩,hP⟩;(try dsimp only);clear H X z f hlN hi;obtain⟨hj,f,hi⟩:=hP;simp only at hj f hi;have hlN:=f.eM;(repeat first|refine s2 rfl λ_ _hb=>?_ |refine aU rfl ?_ |apply Aa);(refine aC rfl ?_ ?_<;>rintro⟨⟩)
  ·have hjl:j < g.ls.length:=by (simp only[oZ] at *;omega)
   obtain⟨l,hl⟩:=get_some (l:=g.ls) (k:=j) hjl;have hl':=get_map (g:=Bm) hl;have F:=co hl;have hlb:=Y l F;obtain⟨s,H⟩:=get_some hi;have X:(st2.map NT)[0+((i:Nat):Int).toNat]? = some (NT s):=GD H;obtain⟨wi,z⟩:∃wi,t[i]? = some wi:=get_some (by rw [f.wlen];exact hi);have p:=f.inn s (co H);have hsnd:=Fe _ _ (f.nd s (co H)) p;apply aK;refine aS (aB ?_);(repeat first|refine tM rfl ?_ |(refine s4 rfl ‹_› rfl ?_ ?_;omega) |refine aU rfl ?_ |apply Aa);(refine pW rfl ?_ rfl (by rfl);refine Nu 1 3 ?_);(repeat first|refine sN rfl ?_ |(refine sM rfl ?_ ?_;first|exact tI|omega) |refine t4 rfl ‹_› rfl ?_ |refine aU rfl ?_ |apply Aa);apply aB;refine Ai.A7 (α:={m:Nat // m<=s.ns.length}) (λ⟨m,hm⟩=>[(2,Aj g.ls),(3,.o (.fn gN capsN)),(12,.o (.ptr 0 1 0 0)),(13,.o (.ptr 3 1 0 0)),(14,.o (.fn 147 [.ptr 0 1 0 0,.ptr 2 1 0 0,.ptr 3 1 0 0])),(15,eI .i64 i),(33,Aj g.ls),(34,eI .i64 g.ls.length),(35,eI .i64 j),(17,eI .i64 l),(18,.o (.arr 5 1 0 ((s.ns.take m).flatMap λn=>g.succ n l).length)),(43,Aj s.ns),(44,eI .i64 s.ns.length),(45,eI .i64 m)]) (λ⟨m,hm⟩=>EO g.N gG capsG c 4 st2++[(5,.cells 3 1 (((s.ns.take m).flatMap λn=>g.succ n l).map AB))]) 6 (λ⟨m,hm⟩=>s.ns.length - m) (⟨0,by omega⟩) [0,1,2,3,4,5] (Es b rfl rfl) (by (simp[cX,zC,b,EO,d,h])) ?_;rintro⟨m,hm⟩;(try dsimp only);(repeat first|refine s2 rfl λ_ _hb=>?_ |refine aU rfl ?_ |apply Aa);(refine aC rfl ?_ ?_<;>rintro⟨⟩)
   ·obtain⟨n,u⟩:=get_some (l:=s.ns) (k:=m) (by (simp only[oZ] at *;omega))
    have hn':=get_map (g:=Bm) u;have hnb:=p n (co u)
    have hfm:(s.ns.take (m+1)).flatMap (λn=>g.succ n l)=(s.ns.take m).flatMap (λn=>g.succ n l)++g.succ n l:=by
     rw [gc,u];simp
    have hol:((s.ns.take m).flatMap λn=>g.succ n l).length<=1099511627776:=by
     have h2:=JC (s.ns.take m) (λn=>g.succ n l) 1048576 (λx J=>by have:=hsl x l (p x (jg J)) F;omega)
     have h3:(s.ns.take m).length<=1048576:=by simp;omega
     omega
    have hnx:=hNx n l _ hnb F hol;generalize (s.ns.take m).flatMap (λn=>g.succ n l)=pre at *;apply aK;refine aS (aB ?_);(repeat first|refine tM rfl ?_ |(refine s4 rfl ‹_› rfl ?_ ?_;omega) |refine aU rfl ?_ |apply Aa);(refine pW rfl ?_ rfl (by rfl);refine Af [5] rfl rfl hnx ⟨rfl,by decide,by decide⟩ (by rw [OY,NJ,h];rfl) (by simp[cX,zC,b]) ?_;rintro x0 T V ⟨rfl,rfl,rfl⟩ _);(repeat first|(refine sM rfl ?_ ?_;first|exact tI|omega) |refine aU rfl ?_ |apply Aa);refine⟨⟨m+1,by (simp only[oZ] at *;omega)⟩,by dsimp only;((simp only[oZ] at *;omega)),[0,1,2,3,4,6],?_⟩;simp[cX,zC,b,EO,d,h,Ab.Be,Cu,Ky,hfm]
   ·obtain rfl:m=s.ns.length:=by (simp only[oZ] at *;omega)
    rw [iV];have hR:∀y,y∈s.ns.flatMap (λn=>g.succ n l)↔∃n∈s.ns,y∈g.succ n l:=λy=>kz;generalize s.ns.flatMap (λn=>g.succ n l)=R at *
    have I:∀y∈R,0<=y/\y < g.N:=λy hy=>by
     obtain⟨n,u,hy⟩:=(hR y).1 hy;exact Q.inn n (p n u) l F y hy
    have hv:=Ue (goal:=g.goal) f.slen I;have A:=Sn (TB:=TB) hG hcG d c st2 i l R f.slen hN (by omega) I;generalize hV2:Qg g.goal c R=v2 at *;apply aE;refine Ai.freeze [5] [(2,Aj g.ls),(3,.o (.fn gN capsN)),(12,.o (.ptr 0 1 0 0)),(13,.o (.ptr 3 1 0 0)),(14,.o (.fn 147 [.ptr 0 1 0 0,.ptr 2 1 0 0,.ptr 3 1 0 0])),(15,eI .i64 i),(33,Aj g.ls),(34,eI .i64 g.ls.length),(35,eI .i64 j),(17,eI .i64 l),(18,Aj R)] ⟨⟨_,rfl,.AX⟩,⟨_,rfl,.AX⟩,⟨_,rfl,.AX⟩,⟨_,rfl,.AX⟩,⟨_,rfl,.AX⟩,⟨_,rfl,.AX⟩,⟨_,rfl,.AX⟩,⟨_,rfl,.AX⟩,⟨_,rfl,.AX⟩,⟨_,rfl,.AX⟩,⟨_,rfl,.o (.full (by simp) rfl (by simp [d5]) (by simp))⟩,trivial⟩ ?_;(repeat first|refine tM rfl ?_ |refine aU rfl ?_);(refine pW rfl ?_ rfl (by rfl);refine Af [0,1,2,3,4] rfl rfl A ⟨rfl,by decide,by decide⟩ rfl (by simp[cX,zC,b,EO,d,Cu]) ?_;rintro x0 T V ⟨rfl,q,L,rfl⟩ _);obtain⟨vse,vfr,vfd⟩:=v2;simp only;apply Aa;refine Ai.names [0,1,2,3,if q=4 then 4 else 6] [(2,Aj g.ls),(3,.o (.fn gN capsN)),(12,.o (.ptr 0 1 0 0)),(13,.o (.ptr 3 1 0 0)),(14,.o (.fn 147 [.ptr 0 1 0 0,.ptr 2 1 0 0,.ptr 3 1 0 0])),(15,eI .i64 i),(33,Aj g.ls),(34,eI .i64 g.ls.length),(35,eI .i64 j),(59,eB vfd)] (EO g.N gG capsG vse 4 (Ed st2 i l vfr)) (by simp [b]) (by rcases L with ⟨rfl,rfl⟩|⟨rfl,rfl⟩<;>decide)
     (by rcases L with ⟨rfl,rfl⟩|⟨rfl,rfl⟩<;>simp[cX,zC,b,h]) (by rcases L with ⟨rfl,rfl⟩|⟨rfl,rfl⟩<;>simp[cX,zC,b,EO,d,Ab.Be,Cu,Ky]) ?_
    (refine aC rfl ?_ ?_<;>rintro⟨⟩)
    ·obtain⟨x,J,P⟩:∃x∈vfr,g.goal x=true:=by
      have h1:vfr.any g.goal=true:=hv.fd.symm;exact kB.1 h1
     have hxR:=((hv.fr x).1 J).1;obtain⟨n,u,hxn⟩:=(hR x).1 hxR;have G:=BS.found Q f z hl H u hxn P;have B:=BS.unique hr G;subst B
     have hne:vfr≠[]:=λe=>by rw [e] at J;cases J
     have hsv:Ed st2 i l vfr=st2++[⟨i,l,vfr⟩]:=by unfold Ed;rw [if_neg hne]
     rw [hsv];have hch:=f.Vw.app (ns:=vfr) z F;have hpw:=Rz (TB:=TB) hch Y (w:=wi++[l]) (by simp;omega) (by simp [f.wlen]);generalize hst3:st2++[⟨(i:Int),l,vfr⟩]=st3 at *;(repeat first|refine tM rfl ?_|(refine Av rfl ?_;refine gA rfl ?_;first| refine gQ (JZ rfl rfl ((.cons (.o (.full rfl (by simp [d5]) (by simp))) .nil)) (hpw) rfl) rfl ?_) |refine aU rfl ?_ |apply Aa);refine aR ⟨_,rfl,rfl⟩
    ·have S:=f.visit Q z hl H hR hv rfl
     have M:i < (Ed st2 i l vfr).length:=by unfold Ed;split<;>(try simp)<;>omega
     apply aK;(repeat first|(refine sM rfl ?_ ?_;first|exact tI|omega) |refine aU rfl ?_ |apply Aa);refine⟨⟨(j+1,vse,Ed st2 i l vfr,gP t (wi++[l]) vfr),hjl,S,M⟩,by dsimp only;omega,[0,1,2,3,4],?_⟩;simp[cX,zC,b,EO,d,h]
  ·obtain rfl:j=g.ls.length:=by (simp only[oZ] at *;omega)
   have S:=f.eW hi;apply aE;(repeat first|(refine sM rfl ?_ ?_;first|exact tI|omega) |refine aU rfl ?_ |apply Aa);refine⟨⟨(i+1,c,st2,t),S⟩,by dsimp only;omega,[0,1,2,3,4],?_⟩;simp[cX,zC,b,EO,d,h]
 ·have hle:=f.le
  obtain rfl:i=steps.length:=by (simp only[oZ] at *;omega)
  have G:=BS.iI Q f;have B:=BS.unique hr G;subst B;apply aE;(repeat first|refine tM rfl ?_ |refine aU rfl ?_ |apply Aa);refine aR ⟨_,rfl,rfl⟩
def EM(a p:AU)(node letter:Int):Int:=Cb a (node / p.nx.length % a.nx.length).toNat letter*p.nx.length+Cb p (node % p.nx.length).toNat letter
def H0(l:List Sys)(a p:AU)(node letter:Int):List Int:=(DD (l.map (·.st)) (VC l (node / p.nx.length / a.nx.length) letter)).map λo=>o*a.nx.length*p.nx.length+EM a p node letter
def Ls(a p:AU)(node:Int):Bool:=a.ac.getD (node / p.nx.length % a.nx.length).toNat false && !p.ac.getD (node % p.nx.length).toNat false
def gI(l:List Sys)(a p:AU)(ls:List Int):Gr:=⟨(Al (l.map (·.st))*a.nx.length*p.nx.length).toNat,H0 l a p,Ls a p,ls,0⟩
theorem Vv{a:AU}{q:Nat}(h:q < a.nx.length):(FX a)[q]? = some (TN λl=>Cb a q l):=Eu (g:=λq=>TN λl=>Cb a q l) h
theorem RK{h:Nat->Int}{l:Int}(d:0<=l)(c:l < 6):((TN h).drop (l.toNat*1))[0]? = some (iD (h l.toNat)):=by
 rw [jl]
 have b:l.toNat*1+0=l.toNat:=by omega
 have a:l.toNat < 6:=by omega
 rw [b];simp [TN,a]
theorem Y7{outs low:List Int}{h:Int->Int}{k:Nat}{x:Int}(a:low[k]? = some x):(outs++((low.take k).map h++low.drop k)).set (outs.length+k) (h x)=outs++((low.take (k+1)).map h++low.drop (k+1)):=by
 have hk:=(am.1 a).1;rw [lp _ _ (by omega),lp _ _ (by simp;omega)];congr 1
 have e:outs.length+k - outs.length - ((low.take k).map h).length=0:=by simp;omega
 rw [e,BF a,gc,a];simp
theorem BN{a:AU}(h:AH a=true):1<=a.nx.length/\a.nx.length<=12:=by have:=AI h;omega
theorem HW{l:List Sys}(h:∀s∈l,AR s=true)(d:l.length<=3):1<=Al (l.map (·.st))/\Al (l.map (·.st))<=4096:=by
 have a:∀z∈l.map (·.st),1<=z/\z<=16:=by
  intro z b;obtain⟨s,c,rfl⟩:=f7.1 b;have:=AJ (h s c);omega
 have f:=GO _ a
 have e:(16:Int) ^ (l.map (·.st)).length<=4096:=by
  have:(l.map (·.st)).length<=3:=by simp;omega
  generalize (l.map (·.st)).length=n at this
  have:n=0\/n=1\/n=2\/n=3:=by omega
  rcases this with rfl|rfl|rfl|rfl<;>decide
 omega
theorem RJ{a p:AU}(ha:AH a=true)(b:AH p=true){node letter:Int}(g:0<=node)(d:0<=letter)(c:letter < 6):0<=EM a p node letter/\EM a p node letter < a.nx.length*p.nx.length:=by
 have o:=BN ha;have l:=BN b
 have k:0<=node / p.nx.length % a.nx.length/\node / p.nx.length % a.nx.length < a.nx.length:=⟨jN _ (by omega),jJ _ (by omega)⟩
 have j:0<=node % p.nx.length/\node % p.nx.length < p.nx.length:=⟨jN _ (by omega),jJ _ (by omega)⟩
 have f:=Dp ha (q:=(node / p.nx.length % a.nx.length).toNat) (by omega) d c;have i:=Dp b (q:=(node % p.nx.length).toNat) (by omega) d c;unfold EM;generalize Cb a _ letter=x at *;generalize Cb p _ letter=y at *;generalize (a.nx.length:Int)=n at *;generalize (p.nx.length:Int)=m at *;have h:0<=x*m:=jD f.1 (by omega);have e:(x+1)*m<=n*m:=jY (by omega) (by omega);rw [kP] at e;omega
theorem Rt[FV TB]{l:List Sys}{a p:AU}(h:∀s∈l,AR s=true)(L:l.length<=3)(ha:AH a=true)(H:AH p=true)(node letter:Int)(c:0<=node)(hn1:node<=1048576)(f:0<=letter)(d:letter < 6)(outs:List Int)(I:outs.length<=1099511627776) :
 Spec Tryz.prog TB 94 [(0,.cells 3 1 (outs.map AB))] 1 [eI .i64 node,eI .i64 letter,.o (.arr 0 1 0 outs.length),.o (.ip [.l (FX a)]),.o (.ip [iD p.nx.length]),.o (.ip [iD a.nx.length]),.o (.ip [.l (FX p)]),.o (.ip (FK l))]
  (λx σ nx=>x=.o (.arr 1 1 0 (outs++H0 l a p node letter).length)/\nx=2/\σ=[(1,.cells 3 1 ((outs++H0 l a p node letter).map AB))]):=by
 have han:=BN ha;have hpn:=BN H;have B:=RJ ha H c f d;have t:0<=node / p.nx.length:=kF c (by omega);have X:node / p.nx.length<=node:=ky _ c;have G:0<=node / p.nx.length / a.nx.length:=kF t (by omega);have V:node / p.nx.length / a.nx.length<=node / p.nx.length:=ky _ t
 have h4:0<=node / p.nx.length % a.nx.length/\node / p.nx.length % a.nx.length < a.nx.length:=⟨jN _ (by omega),jJ _ (by omega)⟩
 have h5:0<=node % p.nx.length/\node % p.nx.length < p.nx.length:=⟨jN _ (by omega),jJ _ (by omega)⟩
 have h6:=Dp ha (q:=(node / p.nx.length % a.nx.length).toNat) (by omega) f d;have h7:=Dp H (q:=(node % p.nx.length).toNat) (by omega) f d;have T:=Vv (a:=a) (q:=(node / p.nx.length % a.nx.length).toNat) (by omega);have S:=Vv (a:=p) (q:=(node % p.nx.length).toNat) (by omega);have r:=RK (h:=λl=>Cb a (node / p.nx.length % a.nx.length).toNat l) f d;have n:=RK (h:=λl=>Cb p (node % p.nx.length).toNat l) f d
 have el:((letter.toNat:Nat):Int)=letter:=by omega
 have h8:0<=Cb a (node / p.nx.length % a.nx.length).toNat letter*p.nx.length/\Cb a (node / p.nx.length % a.nx.length).toNat letter*p.nx.length<=144:=⟨jD h6.1 (by omega),by
  have:Cb a (node / p.nx.length % a.nx.length).toNat letter*p.nx.length<=12*12:=jy (by omega) (by omega) (by omega) (by omega)
  omega⟩
 simp only [el] at r n;have J:=ao (TB:=TB) l h L (node / p.nx.length / a.nx.length) letter G (by omega) f d outs I;have v:=PI (Pt h L f d (node / p.nx.length / a.nx.length));have Y:=HW h L;have F:Cb a (node / p.nx.length % a.nx.length).toNat letter*p.nx.length+Cb p (node % p.nx.length).toNat letter=EM a p node letter:=rfl;unfold H0;generalize DD (l.map (·.st)) (VC l (node / p.nx.length / a.nx.length) letter)=low at *;refine eN Tryz.func94 rfl (by kernel_rfl) rfl ?_;intro Z b;(repeat first|refine tA rfl ?_ |refine aU rfl ?_ |apply Aa);refine rG (Ig []) (by kernel_rfl) ?_;(repeat first|(refine sA rfl ?_ ?_;first|exact tI|omega) |(refine s4 rfl ‹_› rfl ?_ ?_;omega)|(refine Av rfl ?_;refine gA rfl ?_;first| refine gS (λ_ _=>KV rfl r) ?_|refine gS (λ_ _=>KV rfl n) ?_) |refine aU rfl ?_ |apply Aa);rw [F];refine rG (Ig [8]) (by kernel_rfl) ?_;(repeat first|(refine sA rfl ?_ ?_;first|exact tI|omega));(refine pW rfl ?_ rfl (by rfl);refine Af [0] rfl rfl J ⟨rfl,by decide,by decide⟩ rfl (by simp[cX,zC,b]) ?_;rintro x0 Q R ⟨rfl,rfl,rfl⟩ _);(repeat first|refine tA rfl ?_ |refine aU rfl ?_ |apply Aa);apply aB
 have K:∀k,((outs++((low.take k).map (λo=>o*a.nx.length*p.nx.length+EM a p node letter)++low.drop k)).length)=outs.length+low.length:=by intro k;simp;omega
 refine Ai.A7 (α:={k:Nat // k<=low.length}) (λ⟨k,hk⟩=>[(2,.o (.arr 1 1 0 (outs.length+low.length))),(4,.o (.ip [iD p.nx.length])),(5,.o (.ip [iD a.nx.length])),(12,eI .i64 (EM a p node letter)),(14,eI .i64 ((outs.length+k:Nat):Int))]) (λ⟨k,hk⟩=>[(1,.cells 3 1 ((outs++((low.take k).map (λo=>o*a.nx.length*p.nx.length+EM a p node letter)++low.drop k)).map AB))]) 2 (λ⟨k,hk⟩=>low.length - k) (⟨0,by omega⟩) [0,1] (Es b rfl rfl) (by (simp[cX,zC,b,Ab.Be,Cu,Ky])) ?_;rintro⟨k,hk⟩;(try dsimp only);(repeat first|refine tM rfl ?_ |refine s2 rfl λ_ _hb=>?_ |refine aU rfl ?_ |apply Aa);(refine aC rfl ?_ ?_<;>rintro⟨⟩)
 ·have w:k < low.length:=by (simp only[oZ] at *;omega)
  obtain⟨x,A⟩:=get_some (l:=low) (k:=k) w;have z:=v.1 x (co A);have m:=Y7 (outs:=outs) (h:=λo=>o*a.nx.length*p.nx.length+EM a p node letter) A
  have N:(outs++((low.take k).map (λo=>o*a.nx.length*p.nx.length+EM a p node letter)++low.drop k))[outs.length+k]? = some x:=by
   rw [em (by omega),em (by simp;omega),BF A]
   have e:outs.length+k - outs.length - ((low.take k).map (λo=>o*a.nx.length*p.nx.length+EM a p node letter)).length=0:=by simp;omega
   rw [e];rfl
  have P:=GD (g:=AB) N
  have u:0<=x*a.nx.length/\x*a.nx.length<=49152:=⟨jD z.1 (by omega),by
   have:x*a.nx.length<=4096*12:=jy (by omega) (by omega) (by omega) (by omega)
   omega⟩
  have hm2:0<=x*a.nx.length*p.nx.length/\x*a.nx.length*p.nx.length<=589824:=⟨jD u.1 (by omega),by
   have:x*a.nx.length*p.nx.length<=49152*12:=jy u.2 (by omega) (by omega) (by omega)
   omega⟩
  have hm3:(a.nx.length:Int)*p.nx.length<=144:=by
   have:(a.nx.length:Int)*p.nx.length<=12*12:=jy (by omega) (by omega) (by omega) (by omega);omega
  have hlk:=K k
  have M:((outs.length+k:Nat):Int)+1=((outs.length+(k+1):Nat):Int):=by omega
  have j:=GR (l:=outs++((low.take k).map (λo=>o*a.nx.length*p.nx.length+EM a p node letter)++low.drop k)) (k:=outs.length+k) (x:=x) (y:=x*a.nx.length*p.nx.length+EM a p node letter);rw [m] at j;generalize outs++((low.take k).map (λo=>o*a.nx.length*p.nx.length+EM a p node letter)++low.drop k)=cur at *;apply aK;refine aS (aB ?_);refine rG (Ig [13]) (by kernel_rfl) ?_;(repeat first|(refine sM rfl ?_ ?_;first|exact tI|omega) |refine t4 rfl ‹_› rfl ?_ |refine aU rfl ?_ |apply Aa);refine⟨⟨k+1,w⟩,by dsimp only;omega,[0,1],?_⟩;rw [j,M];simp[cX,zC,b]
 ·obtain rfl:k=low.length:=by (simp only[oZ] at *;omega)
  rw [iV,mz,jA];apply aE;(repeat first|refine tM rfl ?_ |refine aU rfl ?_ |apply Aa);refine Ai.names [0,1] [(11,.o (.arr 1 1 0 (outs.length+low.length)))] [(1,.cells 3 1 ((outs++low.map λo=>o*a.nx.length*p.nx.length+EM a p node letter).map AB))] (by intro i hi;rw [b] at hi;obtain rfl:i=0:=(by omega);rfl) (by simp) (by simp[cX,zC,b]) (by simp[cX,zC,b]) ?_;refine aR ⟨_,rfl,by simp,rfl,rfl⟩
theorem Pm(s:Sys):Pure Tryz.prog TB 76 [Bx s] (eB (!AR s)):=by
 refine eN Tryz.func76 rfl (by kernel_rfl) rfl ?_;intro Z b;(repeat' first|refine tA rfl ?_ |refine s2 rfl λ_ a=>?_ |(refine sC rfl (BG s) ?_;intro _ a) |refine aU rfl ?_ |apply Aa|(refine aC rfl ?_ ?_<;>rintro⟨⟩)|apply aK|apply aE|apply aB|refine aR ⟨_,rfl,?_⟩)
 all_goals (show E.o _=E.o _;congr;grind)
def SH:List Sys->Int->Int
 | [],_=>-1
 | s::l,k=>if AR s then SH l (k+1) else k
theorem Qx:∀(l:List Sys) (k:Int),0<=k->(decide (0<=SH l k) = !l.all AR)
 | [],_,_=>rfl
 | s::l,k,h=>by
  unfold SH;by_cases a:AR s=true
  ·rw [if_pos a,Qx l (k+1) (by omega)];simp [a]
  ·rw [if_neg a];simp [a,h]
theorem PE(l:List Sys):Pure Tryz.prog TB 135 [EJ l,.o (.fn 76 [])] (eI .i64 (SH l 0)):=by
 refine eN Tryz.func135 rfl (by kernel_rfl) rfl ?_;intro Z a;refine Ai.bound 0 rfl λb=>?_;have f:=b (l.map AD) .refl;(repeat' first|refine sN rfl ?_ |refine tA rfl ?_ |refine aU rfl ?_ |apply Aa|(refine aC rfl ?_ ?_<;>rintro⟨⟩)|apply aK|apply aE|apply aB|refine aR ⟨_,rfl,?_⟩);refine Ai.A7 (α:={k:Nat // k<=l.length/\SH l 0=SH (l.drop k) k}) (λ⟨k,hk,ha⟩=>[(0,EJ l),(1,.o (.fn 76 [])),(7,eI .i64 l.length),(8,eI .i64 k)]) (λ⟨k,hk,ha⟩=>[]) 0 (λ⟨k,hk,ha⟩=>l.length - k) (⟨0,by omega,rfl⟩) [] (Es a rfl rfl) (by (simp[cX,zC,a])) ?_;rintro⟨k,hk,ha⟩;(try dsimp only);(repeat first|refine s2 rfl λ_ c=>?_ |refine aU rfl ?_ |apply Aa);(refine aC rfl ?_ ?_<;>rintro⟨⟩)
 ·obtain⟨x,d⟩:=get_some (l:=l) (k:=k) (by (simp only[oZ] at *;omega))
  have e:=get_map (g:=AD) d;rw [BF d,SH] at ha;(repeat' first|(refine sA rfl ?_ ?_;first|exact tI|simp only[oZ] at *;omega) |(refine s4 rfl ‹_› rfl ?_ ?_;omega) |(refine sC rfl (Pm x) ?_;intro _ c) |refine aU rfl ?_ |apply Aa|(refine aC rfl ?_ ?_<;>rintro⟨⟩)|apply aK|apply aE|apply aB|refine aR ⟨_,rfl,?_⟩)
  ·rw [if_neg (by grind)] at ha
   show E.o _=E.o _;rw [ha]
  ·rw [if_pos (by grind)] at ha
   refine⟨⟨k+1,by (simp only[oZ] at *;omega),by rw [ha];rfl⟩,by dsimp only;((simp only[oZ] at *;omega)),[],?_⟩;simp[cX,zC,a]
 ·(repeat' first|refine tA rfl ?_ |refine aU rfl ?_ |apply Aa|(refine aC rfl ?_ ?_<;>rintro⟨⟩)|apply aK|apply aE|apply aB|refine aR ⟨_,rfl,?_⟩)
  rw [kC (by (simp only[oZ] at *;omega))] at ha
  show E.o _=E.o _;rw [ha];rfl
theorem LZ(l:List Sys):Pure Tryz.prog TB 75 [EJ l,.o (.fn 76 [])] (eB (!l.all AR)):=by
 have hb:=Qx l 0 (by omega);refine eN Tryz.func75 rfl (by kernel_rfl) rfl ?_;intro Z a;(repeat' first|refine tA rfl ?_ |refine s2 rfl λ_ b=>?_ |refine sP rfl (PE l) rfl ?_ |refine aU rfl ?_ |apply Aa|(refine aC rfl ?_ ?_<;>rintro⟨⟩)|apply aK|apply aE|apply aB|refine aR ⟨_,rfl,?_⟩)
 all_goals (show E.o _=E.o _;congr;grind)
theorem Gb(l:List Sys):Pure Tryz.prog TB 36 [EJ l] (eB (AV l)):=by
 refine eN Tryz.func36 rfl (by kernel_rfl) rfl ?_;intro Z b;(repeat' first|refine sN rfl ?_ |refine tA rfl ?_ |refine s2 rfl λ_ a=>?_ |(refine sC rfl (LZ l) ?_;intro _ a) |refine s3 rfl ?_ ?_<;>rintro rfl |refine aU rfl ?_ |apply Aa|(refine aC rfl ?_ ?_<;>rintro⟨⟩)|apply aK|apply aE|apply aB|refine aR ⟨_,rfl,?_⟩)
 all_goals (show E.o _=E.o _;congr;unfold AV;grind)
theorem EK(l:List Sys):Pure Tryz.prog TB 56 [EJ l] (eI .i64 (Bl l)):=by
 refine eN Tryz.func56 rfl (by kernel_rfl) rfl ?_;intro Z a;refine Ai.bound 0 rfl λe=>?_;have i:=e (l.map AD) .refl;(repeat' first|refine sN rfl ?_ |refine tA rfl ?_ |refine s2 rfl λ_ b=>?_ |(refine sC rfl (Gb l) ?_;intro _ b) |refine aU rfl ?_ |apply Aa|(refine aC rfl ?_ ?_<;>rintro⟨⟩)|apply aK|apply aE|apply aB|refine aR ⟨_,rfl,?_⟩)
 all_goals try (show E.o _=E.o _;congr;unfold Bl;rw [if_neg (by grind)])
 have d:AV l=true:=by grind
 refine Ai.A7 (α:={k:Nat // k<=l.length}) (λ⟨k,hk⟩=>[(3,eI .i64 (Gn (l.take k) 0)),(9,EJ l),(10,eI .i64 l.length),(11,eI .i64 k)]) (λ⟨k,hk⟩=>[]) 0 (λ⟨k,hk⟩=>l.length - k) (⟨0,by omega⟩) [] (Es a rfl rfl) (by (repeat' first|exact tI|rfl|refine And.intro ?_ ?_)) ?_;rintro⟨k,hk⟩;(try dsimp only);(repeat first|refine s2 rfl λ_ b=>?_ |refine aU rfl ?_ |apply Aa);(refine aC rfl ?_ ?_<;>rintro⟨⟩)
 ·obtain⟨x,f⟩:=get_some (l:=l) (k:=k) (by (simp only[oZ] at *;omega))
  have h:=get_map (g:=AD) f
  have c:Gn (l.take (k+1)) 0=FU .i64 (Gn (l.take k) 0) x.al:=by unfold Gn;rw [Fu f]
  (repeat' first|(refine sA rfl ?_ ?_;first|exact tI|simp only[oZ] at *;omega) |(refine s4 rfl ‹_› rfl ?_ ?_;omega) |refine aU rfl ?_ |apply Aa|(refine aC rfl ?_ ?_<;>rintro⟨⟩)|apply aK|apply aE|apply aB|refine aR ⟨_,rfl,?_⟩);refine⟨⟨k+1,by (simp only[oZ] at *;omega)⟩,by dsimp only;((simp only[oZ] at *;omega)),[],?_⟩;simp[cX,zC,a,c]
 ·(repeat' first|refine tA rfl ?_ |refine aU rfl ?_ |apply Aa|(refine aC rfl ?_ ?_<;>rintro⟨⟩)|apply aK|apply aE|apply aB|refine aR ⟨_,rfl,?_⟩)
  rw [iY (by (simp only[oZ] at *;omega))]
  show E.o _=E.o _;congr;unfold Bl;rw [if_pos d]
theorem QN{a p:AU}(ha:AH a=true)(e:AH p=true)(node:Int)(d:0<=node)(n:node<=1048576):Pure Tryz.prog TB 96 [eI .i64 node,.o (.ip [.p (AF a)]),.o (.ip [iD p.nx.length]),.o (.ip [iD a.nx.length]),.o (.ip (AF p))] (eB (Ls a p node)):=by
 have t:=BN ha;have j:=BN e;have u:=AI ha;have m:=AI e;have i:0<=node / p.nx.length:=kF d (by omega);have h:node / p.nx.length<=node:=ky _ d
 have x:0<=node / p.nx.length % a.nx.length/\node / p.nx.length % a.nx.length < a.nx.length:=⟨jN _ (by omega),jJ _ (by omega)⟩
 have w:0<=node % p.nx.length/\node % p.nx.length < p.nx.length:=⟨jN _ (by omega),jJ _ (by omega)⟩
 obtain⟨b,hb⟩:=get_some (l:=a.ac) (k:=(node / p.nx.length % a.nx.length).toNat) (by omega);obtain⟨c,f⟩:=get_some (l:=p.ac) (k:=(node % p.nx.length).toNat) (by omega)
 have s:(a.ac.map ML)[(node / p.nx.length % a.nx.length).toNat]? = some (ML b):=by simp [hb]
 have r:(p.ac.map ML)[(node % p.nx.length).toNat]? = some (ML c):=by simp [f]
 have q:Ls a p node=(b && !c):=by simp [Ls,List.getD,hb,f]
 rw [q];refine eN Tryz.func96 rfl (by kernel_rfl) rfl ?_;intro Z g;(repeat' first|(refine sA rfl ?_ ?_;first|exact tI|omega) |(refine s4 rfl ‹_› rfl ?_ ?_;omega) |refine s2 rfl λ_ v=>?_ |refine s3 rfl ?_ ?_<;>rintro rfl |refine aU rfl ?_ |apply Aa |refine rE (by kernel_rfl) ?_|(refine aC rfl ?_ ?_<;>rintro⟨⟩)|apply aK|apply aE|apply aB|refine aR ⟨_,rfl,?_⟩)
 all_goals (show E.o _=E.o _;first| rfl|(congr;grind))
theorem Sg(a:AU):(FX a).length=a.nx.length:=by simp [FX,Ce]
def LX:AU:=⟨0,[[]],[true]⟩
theorem Zz:AH LX=true:=by decide
theorem cJ{l:List Sys}{a p:AU}{ls:List Int}(h:∀s∈l,AR s=true)(d:l.length<=3)(ha:AH a=true)(c:AH p=true):((gI l a p ls).N:Int)=Al (l.map (·.st))*a.nx.length*p.nx.length/\1<=(gI l a p ls).N/\(gI l a p ls).N<=1048576:=by
 have b:=HW h d;have m:=BN ha;have k:=BN c;have j:(gI l a p ls).N=(Al (l.map (·.st))*a.nx.length*p.nx.length).toNat:=rfl;have i:Al (l.map (·.st))*a.nx.length<=4096*12:=jy b.2 (by omega) (by omega) (by omega);have g:1*1<=Al (l.map (·.st))*a.nx.length:=jy b.1 (by omega) (by omega) (by omega);have f:Al (l.map (·.st))*a.nx.length*p.nx.length<=49152*12:=jy (by omega) (by omega) (by omega) (by omega);have e:1*1<=Al (l.map (·.st))*a.nx.length*p.nx.length:=jy (by omega) (by omega) (by omega) (by omega);omega
theorem NV{l:List Sys}{a p:AU}(h:∀s∈l,AR s=true)(d:l.length<=3)(ha:AH a=true)(c:AH p=true){node letter:Int}(m:0<=node)(i:0<=letter)(g:letter < 6):(∀y∈H0 l a p node letter,0<=y/\y < Al (l.map (·.st))*a.nx.length*p.nx.length)/\((H0 l a p node letter).length:Int)<=Al (l.map (·.st)):=by
 have r:=PI (Pt h d i g (node / p.nx.length / a.nx.length));have x:=HW h d;have w:=BN ha;have v:=BN c;have u:=RJ ha c m i g;refine⟨λy j=>?_,by unfold H0;simp;omega⟩;obtain⟨o,k,rfl⟩:=f7.1 j;have n:=r.1 o k;have e:∀o:Int,o*a.nx.length*p.nx.length=o*(a.nx.length*p.nx.length):=λo=>kv _ _ _;rw [e,e];have f:0<=(a.nx.length:Int)*p.nx.length:=jD (by omega) (by omega);generalize (a.nx.length:Int)*p.nx.length=q at *;have t:0<=o*q:=jD n.1 f;have b:(o+1)*q<=Al (l.map (·.st))*q:=jY (by omega) f;rw [kP] at b;omega
theorem bF{l:List Sys}{a p:AU}{x:Int}(h:∀s∈l,AR s=true)(c:l.length<=3)(ha:AH a=true)(b:AH p=true):HJ (gI l a p (Ac x)):=by
 have i:=cJ (ls:=Ac x) h c ha b;refine⟨?_,λy e m f z d=>?_,DY _ _⟩
 ·show 0<=(0:Int)/\(0:Int) < _
  omega
 ·have g:=Au f
  have j:=(NV h c ha b e.1 g.1 (by omega)).1 z d;omega
theorem MY[FV TB](l:List Sys)(a p:AU)(h:AV l=true)(ha:AH a=true)(d:AH p=true) :
 Pure Tryz.prog TB 54 [EJ l,.o (.ip (AF a)),Bj p] (Ma (C4 (gI l a p (Ac (FU .i64 (Bl l) a.al))))):=by
 have c:=h;unfold AV at c;simp only [d4,decide_eq_true_eq,d8] at c;obtain⟨⟨v,e⟩,b⟩:=c;have m:=cJ (ls:=Ac (FU .i64 (Bl l) a.al)) b e ha d;have w:=bF (x:=FU .i64 (Bl l) a.al) b e ha d;have i:=HW b e;have y:=BN ha;have s:=BN d;have j:Pure Tryz.prog TB 97 [eI .i64 (Al (l.map (·.st))*a.nx.length*p.nx.length),Aj [0],Aj (Ac (FU .i64 (Bl l) a.al)),.o (.fn 94 [.ip [.l (FX a)],.ip [iD p.nx.length],.ip [iD a.nx.length],.ip [.l (FX p)],.ip (FK l)]),.o (.fn 96 [.ip [.p (AF a)],.ip [iD p.nx.length],.ip [iD a.nx.length],.ip (AF p)])]
  (Ma (C4 (gI l a p (Ac (FU .i64 (Bl l) a.al))))):=by
  rw [<-m.1];refine JB w m.2.2 (λx f=>by have:=Au f;omega) (AM _ 6) (λnode x g f=>?_) (λnode x outs g f t=>?_) (λn g=>?_) rfl (λr=>rfl) (λr=>rfl) (C5 _)
  ·have k:=Au f
   have z:=(NV b e ha d g.1 k.1 (by omega)).2;have F:Al (l.map (·.st))*1<=Al (l.map (·.st))*a.nx.length:=jw (by omega) (by omega);have B:Al (l.map (·.st))*a.nx.length*1<=Al (l.map (·.st))*a.nx.length*p.nx.length:=jw (by omega) (by omega);have A:(((gI l a p (Ac (FU .i64 (Bl l) a.al))).succ node x).length:Int)<=Al (l.map (·.st)):=z;omega
  ·have k:=Au f
   exact Rt b e ha d node x g.1 (by omega) k.1 (by omega) outs t
  ·exact QN ha d n g.1 (by omega)
 have u:0<=Al (l.map (·.st))*a.nx.length/\Al (l.map (·.st))*a.nx.length<=49152:=⟨jD (by omega) (by omega),by
  have:Al (l.map (·.st))*a.nx.length<=4096*12:=jy i.2 (by omega) (by omega) (by omega)
  omega⟩
 refine eN Tryz.func54 rfl (by kernel_rfl) rfl ?_;intro Z q;(repeat first|refine aU rfl ?_);(refine Av rfl ?_;refine C8 (λ_ _=>ET rfl rfl rfl) rfl ?_);(refine Av rfl ?_;refine C8 (λ_ _=>ET rfl rfl rfl) rfl ?_);(repeat first|refine tM rfl ?_ |refine sP rfl (LC l b e) rfl ?_|refine sP rfl (EK l) rfl ?_ |refine aU rfl ?_ |apply Aa);(refine aC rfl ?_ ?_<;>rintro⟨⟩);apply aK;apply aS;refine R.RI [(0,2),(1,2),(2,2),(3,2),(4,2),(5,2),(6,3),(7,3),(8,5),(9,5)] mixed (by kernel_rfl) rfl (by kernel_rfl) ?_;(repeat ((refine R.Av rfl ?_;first|(refine R.yQ (md:=false) rfl rfl rfl ?_ ?_;exact tI) |refine R.yP rfl rfl rfl rfl ?_ |refine R.yA rfl rfl rfl rfl ?_|refine R.C8 (λ_ _ _=>Gp rfl rfl rfl (Hu a ha) rfl) rfl rfl ?_|refine R.C8 (λ_ _ _=>Gp rfl rfl rfl (Hu p d) rfl) rfl rfl ?_ )));refine R.Ro ?_;apply aS;refine Ai.freeze [0,1,2] [(4,.o (.ip [.p (AF a)])),(5,.o (.ip (AF p))),(8,.o (.ip (FK l))),(9,eI .i64 (Bl l)),(10,.o (.ip [.l (FX a)])),(11,.o (.ip [.l (FX p)]))] ⟨⟨_,rfl,.AX⟩,⟨_,rfl,.AX⟩,⟨_,rfl,.o (.ptr (by simp) rfl rfl rfl)⟩,⟨_,rfl,.AX⟩,⟨_,rfl,.o (.ptr (by simp) rfl rfl rfl)⟩,⟨_,rfl,.o (.ptr (by simp) rfl rfl rfl)⟩,trivial⟩ ?_;refine R.RI [(0,2),(1,2),(2,2),(3,2),(4,3),(5,3),(6,5),(7,5)] mixed (by kernel_rfl) rfl (by kernel_rfl) ?_;(repeat ((refine R.Av rfl ?_;first|(refine R.yQ (md:=false) rfl rfl rfl ?_ ?_;exact tI) |refine R.yP rfl rfl rfl rfl ?_ |refine R.yA rfl rfl rfl rfl ?_ )));refine R.Ro ?_;apply aS;simp only [Sg];refine Ai.freeze [3,4] [(4,.o (.ip [.p (AF a)])),(5,.o (.ip (AF p))),(8,.o (.ip (FK l))),(9,eI .i64 (Bl l)),(10,.o (.ip [.l (FX a)])),(11,.o (.ip [.l (FX p)])),(12,.o (.ip [iD a.nx.length])),(13,.o (.ip [iD p.nx.length]))] ⟨⟨_,rfl,.AX⟩,⟨_,rfl,.AX⟩,⟨_,rfl,.AX⟩,⟨_,rfl,.AX⟩,⟨_,rfl,.AX⟩,⟨_,rfl,.AX⟩,⟨_,rfl,.o (.ptr (by simp) rfl rfl rfl)⟩,⟨_,rfl,.o (.ptr (by simp) rfl rfl rfl)⟩,trivial⟩ ?_;(repeat first|refine tA rfl ?_ |refine aU rfl ?_ |apply Aa);refine rG (Ig []) (by kernel_rfl) ?_;(repeat first|(refine sA rfl ?_ ?_;first|exact tI|omega) |refine sP rfl (Vl l b e) rfl ?_|refine sP rfl (E8 _) rfl ?_|refine sP rfl (j) rfl ?_ |apply Aa);refine aR ⟨_,rfl,rfl⟩
theorem Mb[FV TB](l:List Sys)(p:AU)(h:AV l=true)(e:AH p=true) :
 Pure Tryz.prog TB 54 [EJ l,.o (.d (.v (.pointer none))),Bj p] (Ma (C4 (gI l LX p (Ac (FU .i64 (Bl l) LX.al))))):=by
 obtain⟨a,g⟩:∃a,a=LX:=⟨_,rfl⟩
 have ha:AH a=true:=by rw [g];exact Zz
 rw [<-g];have c:=h;unfold AV at c;simp only [d4,decide_eq_true_eq,d8] at c;obtain⟨⟨z,f⟩,b⟩:=c;have s:=cJ (ls:=Ac (FU .i64 (Bl l) a.al)) b f ha e;have A:=bF (x:=FU .i64 (Bl l) a.al) b f ha e;have k:=HW b f;have B:=BN ha;have u:=BN e;have m:Pure Tryz.prog TB 97 [eI .i64 (Al (l.map (·.st))*a.nx.length*p.nx.length),Aj [0],Aj (Ac (FU .i64 (Bl l) a.al)),.o (.fn 94 [.ip [.l (FX a)],.ip [iD p.nx.length],.ip [iD a.nx.length],.ip [.l (FX p)],.ip (FK l)]),.o (.fn 96 [.ip [.p (AF a)],.ip [iD p.nx.length],.ip [iD a.nx.length],.ip (AF p)])]
  (Ma (C4 (gI l a p (Ac (FU .i64 (Bl l) a.al))))):=by
  rw [<-s.1];refine JB A s.2.2 (λx i=>by have:=Au i;omega) (AM _ 6) (λnode x j i=>?_) (λnode x outs j i w=>?_) (λn j=>?_) rfl (λr=>rfl) (λr=>rfl) (C5 _)
  ·have q:=Au i
   have F:=(NV b f ha e j.1 q.1 (by omega)).2;have I:Al (l.map (·.st))*1<=Al (l.map (·.st))*a.nx.length:=jw (by omega) (by omega);have H:Al (l.map (·.st))*a.nx.length*1<=Al (l.map (·.st))*a.nx.length*p.nx.length:=jw (by omega) (by omega);have G:(((gI l a p (Ac (FU .i64 (Bl l) a.al))).succ node x).length:Int)<=Al (l.map (·.st)):=F;omega
  ·have q:=Au i
   exact Rt b f ha e node x j.1 (by omega) q.1 (by omega) outs w
  ·exact QN ha e n j.1 (by omega)
 have y:0<=Al (l.map (·.st))*a.nx.length/\Al (l.map (·.st))*a.nx.length<=49152:=⟨jD (by omega) (by omega),by
  have:Al (l.map (·.st))*a.nx.length<=4096*12:=jy k.2 (by omega) (by omega) (by omega)
  omega⟩
 refine eN Tryz.func54 rfl (by kernel_rfl) rfl ?_;intro Z t;(repeat first|refine aU rfl ?_);(refine pW rfl ?_ rfl (by rfl);refine Nt rfl rfl ?_);(refine Av rfl ?_;refine C8 (λ_ _=>ET rfl rfl rfl) rfl ?_);(repeat first|refine tM rfl ?_ |refine sP rfl (LC l b f) rfl ?_|refine sP rfl (EK l) rfl ?_ |refine aU rfl ?_ |apply Aa);(refine aC rfl ?_ ?_<;>rintro⟨⟩);(repeat first|refine tA rfl ?_|(refine Av rfl ?_;refine gA rfl ?_;first| refine gS (λ_ _=>AS rfl rfl (by rfl) (by rfl)) ?_) |refine aU rfl ?_ |apply Aa);refine Ai.freeze [0,1] [(4,.o (.ip [.p (AF a)])),(5,.o (.ip (AF p))),(8,.o (.ip (FK l))),(9,eI .i64 (Bl l))] ⟨⟨_,rfl,.o (.ptr (by simp) rfl rfl (by rw [g];rfl))⟩,⟨_,rfl,.AX⟩,⟨_,rfl,.o (.ptr (by simp) rfl rfl rfl)⟩,⟨_,rfl,.AX⟩,trivial⟩ ?_;refine R.RI [(0,2),(1,2),(2,2),(3,2),(4,2),(5,2),(6,3),(7,3),(8,5),(9,5)] mixed (by kernel_rfl) rfl (by kernel_rfl) ?_;(repeat ((refine R.Av rfl ?_;first|(refine R.yQ (md:=false) rfl rfl rfl ?_ ?_;exact tI) |refine R.yP rfl rfl rfl rfl ?_ |refine R.yA rfl rfl rfl rfl ?_|refine R.C8 (λ_ _ _=>Gp rfl rfl rfl (Hu a ha) rfl) rfl rfl ?_|refine R.C8 (λ_ _ _=>Gp rfl rfl rfl (Hu p e) rfl) rfl rfl ?_ )));refine R.Ro ?_;apply aS;refine Ai.freeze [2,3] [(4,.o (.ip [.p (AF a)])),(5,.o (.ip (AF p))),(8,.o (.ip (FK l))),(9,eI .i64 (Bl l)),(10,.o (.ip [.l (FX a)])),(11,.o (.ip [.l (FX p)]))] ⟨⟨_,rfl,.AX⟩,⟨_,rfl,.AX⟩,⟨_,rfl,.AX⟩,⟨_,rfl,.AX⟩,⟨_,rfl,.o (.ptr (by simp) rfl rfl rfl)⟩,⟨_,rfl,.o (.ptr (by simp) rfl rfl rfl)⟩,trivial⟩ ?_;refine R.RI [(0,2),(1,2),(2,2),(3,2),(4,3),(5,3),(6,5),(7,5)] mixed (by kernel_rfl) rfl (by kernel_rfl) ?_;(repeat ((refine R.Av rfl ?_;first|(refine R.yQ (md:=false) rfl rfl rfl ?_ ?_;exact tI) |refine R.yP rfl rfl rfl rfl ?_ |refine R.yA rfl rfl rfl rfl ?_ )));refine R.Ro ?_;apply aS;simp only [Sg];refine Ai.freeze [4,5] [(4,.o (.ip [.p (AF a)])),(5,.o (.ip (AF p))),(8,.o (.ip (FK l))),(9,eI .i64 (Bl l)),(10,.o (.ip [.l (FX a)])),(11,.o (.ip [.l (FX p)])),(12,.o (.ip [iD a.nx.length])),(13,.o (.ip [iD p.nx.length]))] ⟨⟨_,rfl,.AX⟩,⟨_,rfl,.AX⟩,⟨_,rfl,.AX⟩,⟨_,rfl,.AX⟩,⟨_,rfl,.AX⟩,⟨_,rfl,.AX⟩,⟨_,rfl,.o (.ptr (by simp) rfl rfl rfl)⟩,⟨_,rfl,.o (.ptr (by simp) rfl rfl rfl)⟩,trivial⟩ ?_;(repeat first|refine tA rfl ?_ |refine aU rfl ?_ |apply Aa);refine rG (Ig []) (by kernel_rfl) ?_;(repeat first|(refine sA rfl ?_ ?_;first|exact tI|omega) |refine sP rfl (Vl l b f) rfl ?_|refine sP rfl (E8 _) rfl ?_|refine sP rfl (m) rfl ?_ |apply Aa);refine aR ⟨_,rfl,rfl⟩
end Go.Am
