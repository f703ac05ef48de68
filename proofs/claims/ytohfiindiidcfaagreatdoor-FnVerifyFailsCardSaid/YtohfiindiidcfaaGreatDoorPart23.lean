/-
  Reversed bytes; the word of a path.
-/
import Derived.Test.YtohfiindiidcfaaGreatDoorPart21
set_option linter.all false
namespace Go.Am
open Go Go.Proofs
set_option maxHeartbeats 1000000
set_option maxRecDepth 4000
attribute [local irreducible] A6 Cz Lex Bv Aj Spec
variable {TB:BF}
def E5(bs:List UInt8)(k i:Nat):UInt8:=if i < k\/bs.length<=i+k then bs.getD (bs.length - 1 - i) 0 else bs.getD i 0
theorem jJ(bs:List UInt8):(BK bs.length λi=>FH (E5 bs 0 i))=bs.map FH:=by
 apply px;intro i;by_cases hi:i < bs.length
 ·rw [DS (g:=λi=>FH (E5 bs 0 i)) hi]
  unfold E5;rw [if_neg (by omega)];simp [List.getD,hi]
 ·rw [oa (by simp [BK];omega),oa (by simp;omega)]
theorem dU(bs:List UInt8){k:Nat}(hk:bs.length<=2*k+1):(BK bs.length λi=>FH (E5 bs k i))=bs.reverse.map FH:=by
 apply px;intro i;by_cases hi:i < bs.length
 ·rw [DS (g:=λi=>FH (E5 bs k i)) hi]
  unfold E5
  have b:bs.reverse[i]? = some (bs.getD (bs.length - 1 - i) 0):=by
   rw [List.getElem?_reverse hi]
   have:bs.length - 1 - i < bs.length:=by omega
   simp [List.getD,this]
  rw [i9,b];by_cases a:i < k\/bs.length<=i+k
  ·rw [if_pos a];rfl
  ·rw [if_neg a]
   have:bs.length - 1 - i=i:=by omega
   rw [this];rfl
 ·rw [oa (by simp [BK];omega),oa (by simp;omega)]
theorem Ts(r:Nat->Nat)(l:List UInt8):(l.map FH).map (C.Cy r)=l.map FH:=by
 rw [o9];exact pV λc _=>rfl
theorem FY(r:Nat->Nat)(c:UInt8):C.Cy r (FH c)=FH c:=rfl
theorem Nh(r:Nat->Nat)(n:Nat)(H:Nat->UInt8):(BK n λi=>FH (H i)).map (C.Cy r)=BK n λi=>FH (H i):=by
 unfold BK;rw [o9];exact pV λi _=>rfl
theorem Lq{n q:Nat}{H:Nat->UInt8}(h:q < n):(BK n λi=>FH (H i))[0+((q:Nat):Int).toNat]? = some (FH (H q)):=by
 rw [n7,io];exact DS (g:=λi=>FH (H i)) h
theorem OI{n q:Nat}{H:Nat->UInt8}{c d:UInt8}:(BK n λi=>FH (H i)).set (0+((q:Nat):Int).toNat) (Ae (FH d) 0 (eC (eI .u8 (c.toNat:Nat))))=BK n λi=>FH (if i=q then c else H i):=by
 rw [n7,io];have e:Ae (FH d) 0 (eC (eI .u8 (c.toNat:Nat)))=FH c:=rfl;rw [e,Ni];refine Da λi _=>?_;by_cases h:i=q<;>simp [h]
theorem Xm(bs:List UInt8)(hb:bs.length<=1099511627776):Spec Tryz.prog TB 192 [(0,.cells 5 1 (bs.map FH))] 1 [.o (.arr 0 1 0 bs.length)] (λx σ nx=>x=.t []/\nx=1/\σ=[(0,.cells 5 1 (bs.reverse.map FH))]):=by
 refine eN Tryz.func192 rfl (by kernel_rfl) rfl ?_;intro Γ b;(repeat first|(refine sM rfl ?_ ?_;first|exact tI|omega) |refine aU rfl ?_ |apply Aa);apply aB;refine Aj.A4 (α:={k:Nat // k<=bs.length}) (λ⟨k,hk⟩=>[(0,.o (.arr 0 1 0 bs.length)),(2,eI .i64 k),(3,eI .i64 ((bs.length:Int) - 1 - k))]) (λ⟨k,hk⟩=>[(0,.cells 5 1 (BK bs.length λi=>FH (E5 bs k i)))]) 1 (λ⟨k,hk⟩=>bs.length - k) (⟨0,by omega⟩) [0] (Ed b rfl rfl) (by (simp[cX,zC,b,Nh,jJ,FY])) ?_;rintro⟨k,hk⟩;(try dsimp only);(repeat first|refine tM rfl ?_ |refine s2 rfl λ_ B=>?_ |refine aU rfl ?_ |apply Aa);(refine aC rfl ?_ ?_<;>rintro⟨⟩)
 ·have u:2*k+1 < bs.length:=by (simp only[oZ] at *;omega)
  obtain⟨m,F⟩:∃m:Nat,m=bs.length - 1 - k:=⟨_,rfl⟩
  have A:(bs.length:Int) - 1 - k=((m:Nat):Int):=by omega
  have l:E5 bs k k=bs.getD k 0:=by unfold E5;rw [if_neg (by omega)]
  have h:E5 bs k m=bs.getD m 0:=by unfold E5;rw [if_neg (by omega)]
  have w:=Lq (H:=E5 bs k) (q:=k) (n:=bs.length) (by omega);have v:=Lq (H:=E5 bs k) (q:=m) (n:=bs.length) (by omega);have e:=OI (n:=bs.length) (q:=k) (H:=E5 bs k) (c:=E5 bs k m) (d:=E5 bs k k);have a:=Lq (H:=λi=>if i=k then E5 bs k m else E5 bs k i) (q:=m) (n:=bs.length) (by omega);have f:=OI (n:=bs.length) (q:=m) (H:=λi=>if i=k then E5 bs k m else E5 bs k i) (c:=E5 bs k k) (d:=E5 bs k m)
  have g:m≠k:=by omega
  rw [if_neg g] at a
  have y:(BK bs.length λi=>FH (if i=m then E5 bs k k else if i=k then E5 bs k m else E5 bs k i))=BK bs.length λi=>FH (E5 bs (k+1) i):=Da λi hi=>by
   congr 1;by_cases s:i=m
   ·subst s;rw [if_pos rfl,l];unfold E5;rw [if_pos (by omega)];congr 1;omega
   ·rw [if_neg s]
    by_cases r:i=k
    ·subst r;rw [if_pos rfl,h];unfold E5;rw [if_pos (by omega)];congr 1
    ·rw [if_neg r];unfold E5
     by_cases p:i < k\/bs.length<=i+k
     ·rw [if_pos p,if_pos (by omega)]
     ·rw [if_neg p,if_neg (by omega)]
  rw [<-e] at a;rw [A];apply aK;refine aS (aB ?_);refine rG (nP [13,15] [2,3]) (by kernel_rfl) ?_;(repeat first|(refine sM rfl ?_ ?_;first|exact tI|omega) |refine t4 rfl ‹_› rfl ?_ |refine aU rfl ?_ |apply Aa);refine⟨⟨k+1,by omega⟩,by dsimp only;(omega),[0],?_⟩;rw [e,f,y]
  have z:(m:Int) - 1=bs.length - 1 - (k+1):=by omega
  simp[cX,zC,b,Nh,z]
 ·have j:bs.length<=2*k+1:=by (simp only[oZ] at *;omega)
  rw [dU bs j];exact aE ⟨_,rfl,rfl,rfl,rfl⟩
abbrev ir(s:Ok):List D:=[iD s.p,iD s.l,Fe s.ns]
abbrev PX(s:Ok):List C:=[.d (iD s.p),.d (iD s.l),.d (Fe s.ns)]
abbrev ez(l:List Ok):D:=.l (l.map ir)
theorem ZU{l:Int}(e:0<=l)(c:l < 6):FH (UInt8.ofNat (97+l.toNat))=[.d (.v (.int .u8 (97+l)))]:=by
 have b:(97+l.toNat) % 256=97+l.toNat:=oH (by omega)
 have a:(97+l:Int)=((97+l.toNat:Nat):Int):=by omega
 simp [FH,b,a]
theorem gV(o:List Int):(Dx o).reverse=Dx o.reverse:=by simp [Dx]
theorem UW{ls:List Int}{steps:List Ok}{ws:List (List Int)}(h:Chain ls steps ws)(I:∀l∈ls,0<=l/\l < 6){w:List Int}(n:1<=steps.length/\steps.length<=2097152)(N:ws[steps.length - 1]? = some w):Pure Tryz.prog TB 148 [.o (.d (ez steps))] (eT (Dx w)):=by
 refine eN Tryz.func148 rfl (by kernel_rfl) rfl ?_;intro Γ a;(repeat first|refine tM rfl ?_ |refine aU rfl ?_ |apply Aa);(refine pW rfl ?_ rfl (by rfl);refine Hp 1 5 ?_);(repeat first|refine sN rfl ?_ |(refine sM rfl ?_ ?_;first|exact tI|omega) |refine aU rfl ?_ |apply Aa);apply aB;refine Aj.A4 (α:={x:Nat×List Int // x.1+x.2.length < steps.length/\∃v,ws[x.1]? = some v/\w=v++x.2.reverse}) (λ⟨⟨i,o⟩,z⟩=>[(0,.o (.d (ez steps))),(3,.o (.arr 0 1 0 o.length)),(4,eI .i64 i)]) (λ⟨⟨i,o⟩,z⟩=>[(0,.cells 5 1 ((Dx o).map FH))]) 1 (λ⟨⟨i,o⟩,z⟩=>i) (⟨(steps.length - 1,[]),by simp;omega,w,N,by simp⟩) [0] (Ed a rfl rfl) (by (simp[cX,zC,a,Dx,Int.ofNat_sub,n.1])) ?_;rintro⟨⟨i,o⟩,z⟩;(try dsimp only);obtain⟨hi,v,B,b⟩:=z;simp only at hi B b;obtain⟨s,hs⟩:=get_some (l:=steps) (k:=i) (by omega);have Q:=get_map (g:=ir) hs;have t:=h.chain i s hs
 have G:(Dx o).length=o.length:=by simp [Dx]
 (repeat first|refine tM rfl ?_ |(refine s4 rfl ‹_› rfl ?_ ?_;omega) |refine s2 rfl λ_ U=>?_ |refine aU rfl ?_ |apply Aa);(refine aC rfl ?_ ?_<;>rintro⟨⟩)
 ·obtain⟨q,u,S,R,H,y,T⟩:∃(q:Nat) (u:List Int),s.p=(q:Int)/\q < i/\ws[q]? = some u/\ws[i]? = some (u++[s.l])/\s.l∈ls:=by
   rcases t with ⟨e,_⟩|e
   ·exfalso;(simp only[oZ] at *;omega)
   ·exact e
  have c:=I _ T;rw [B] at y
  injection y with y
  have J:=ZU c.1 c.2
  have F:Dx (o++[s.l])=Dx o++[UInt8.ofNat (97+s.l.toNat)]:=by simp [Dx]
  have j:(Dx (o++[s.l])).map FH=(Dx o).map FH++[[.d (.v (.int .u8 (97+s.l)))]]:=by rw [F,o6,pA,J];rfl
  apply aK;refine aS (aB ?_);(repeat first|refine tA rfl ?_ |(refine s4 rfl ‹_› rfl ?_ ?_;omega) |refine sP rfl (Fz s.l c.1 (by omega)) rfl ?_ |refine aU rfl ?_);(refine pW rfl ?_ rfl (by rfl);refine Al rfl rfl rfl (by first| (simp;done)|(simp;(omega))) rfl (by intro r K;simp at K;subst K;rfl) (by rfl) (am rfl) (by simp;omega) ?_);(repeat first|refine tX rfl ?_ |(refine s4 rfl ‹_› rfl ?_ ?_;omega) |refine aU rfl ?_ |apply Aa);refine⟨⟨(q,o++[s.l]),by simp;omega,u,H,by rw [b,y];simp⟩,by dsimp only;omega,[1],?_⟩;dsimp only;rw [j];simp[cX,zC,a,S,FY]
 ·have A:v=[]:=by
   rcases t with ⟨_,e⟩|⟨q,u,e,_⟩
   ·rw [B] at e;injection e
   ·exfalso;(simp only[oZ] at *;omega)
  subst A
  have f:w=o.reverse:=by rw [b];rfl
  have m:=Xm (TB:=TB) (Dx o) (by omega);rw [G,gV,<-f] at m;apply aE;(repeat first|refine tM rfl ?_ |refine aU rfl ?_);(refine pW rfl ?_ rfl (by rfl);refine Ai [0] rfl rfl m ⟨rfl,by simp,by simp⟩ rfl (by simp[cX,zC,a,FY]) ?_;rintro V L M ⟨rfl,rfl,rfl⟩ _)
  have P:(Dx w).length=o.length:=by rw [f];simp [Dx]
  (repeat first|refine tM rfl ?_|(refine Af rfl ?_;refine gA rfl ?_;first| refine gQ (OF (Dx w) rfl rfl (by simp;omega) (by rw [o5,Ts,gc (by simp;omega)])) (by rfl) ?_) |refine aU rfl ?_ |apply Aa);refine aR ⟨_,rfl,rfl⟩
theorem iE(p:Nat->Prop):(∀i,i < 5->p i)↔p 0/\p 1/\p 2/\p 3/\p 4:=by
 constructor
 ·intro h;exact⟨h 0 (by omega),h 1 (by omega),h 2 (by omega),h 3 (by omega),h 4 (by omega)⟩
 ·rintro⟨e,d,c,b,a⟩ i hi
  have:i=0\/i=1\/i=2\/i=3\/i=4:=by omega
  rcases this with rfl|rfl|rfl|rfl|rfl<;>assumption
theorem eQ{goal:Int->Bool}{seen:List Bool}{nodes:List Int}{k:Nat}{x:Int}(h:nodes[k]? = some x):TG goal seen (nodes.take (k+1))=VP goal (TG goal seen (nodes.take k)) x:=by
 unfold TG;rw [GL h]
theorem Vu{l:List Bool}{n:Int}:(l.map AV).set (0+n.toNat) (Ae (AV false) 0 (eC (eB true)))=(l.set n.toNat true).map AV:=by
 simp [Ae,eC,pg]
abbrev Gd(N:Nat)(gG:FuncId)(capsG:List C)(seen:List Bool)(q:Nat)(steps:List Ok):Ab:=
 [(0,.cells 27 1 [[.arr 1 1 0 N]]),(1,.cells 4 1 (seen.map AV)),(2,.cells 73 1 [[.fn gG capsG]]),(3,.cells 176 1 [[.arr q 3 0 steps.length]]),(q,.cells 178 3 (steps.map PX))]
theorem VO{goal:Int->Bool}{gG:FuncId}{capsG:List C}{N:Nat}(M:∀n:Int,0<=n/\n < N->Pure Tryz.prog TB gG ([eI .i64 n]++capsG.map .o) (eB (goal n)))(G:C.Dl capsG=true)(d:∀r,C.Cy r capsG=capsG)
 (seen:List Bool) (steps:List Ok) (p l:Int) (nodes:List Int) (hs:seen.length=N) (S:N<=1048576) (Q:steps.length<=1048576) (u:∀n∈nodes,0<=n/\n < N) :
 Spec Tryz.prog TB 147 (Gd N gG capsG seen 4 steps) 5 [eI .i64 p,eI .i64 l,Ak nodes,.o (.ptr 0 1 0 0),.o (.ptr 2 1 0 0),.o (.ptr 3 1 0 0)]
  (λx σ nx=>x=eB (TG goal seen nodes).found/\∃q,(q=4/\nx=5\/q=5/\nx=6)/\σ=Gd N gG capsG (TG goal seen nodes).seen q (E8 steps p l (TG goal seen nodes).fresh)):=by
 have s:∀k,jU goal N seen (nodes.take k) (TG goal seen (nodes.take k)):=λk=>XG hs λn F=>u n (ol F);refine eN Tryz.func147 rfl (by kernel_rfl) rfl ?_;intro Γ a;refine Aj.bound 2 rfl λK=>?_;have R:=K _ .refl;rw [gt] at R;(repeat first|refine tM rfl ?_ |refine aU rfl ?_ |apply Aa);(refine pW rfl ?_ rfl (by rfl);refine Hp 1 3 ?_);(repeat first|refine sN rfl ?_ |refine tM rfl ?_ |refine aU rfl ?_ |apply Aa);apply aB;refine Aj.A4 (α:={k:Nat // k<=nodes.length}) (λ⟨k,hk⟩=>[(0,eI .i64 p),(1,eI .i64 l),(3,.o (.ptr 0 1 0 0)),(4,.o (.ptr 2 1 0 0)),(5,.o (.ptr 3 1 0 0)),(10,.o (.arr 5 1 0 (TG goal seen (nodes.take k)).fresh.length)),(11,eB (TG goal seen (nodes.take k)).found),(14,Ak nodes),(15,eI .i64 nodes.length),(16,eI .i64 k)]) (λ⟨k,hk⟩=>Gd N gG capsG (TG goal seen (nodes.take k)).seen 4 steps++[(5,.cells 3 1 ((TG goal seen (nodes.take k)).fresh.map AE))]) 6 (λ⟨k,hk⟩=>nodes.length - k) (⟨0,by omega⟩) [0,1,2,3,4,5] (Ed a rfl rfl) (by (simp[cX,zC,a,Gd,TG,d])) ?_;rintro⟨k,hk⟩;(try dsimp only);have i:=s k;have c:=λx=>eQ (goal:=goal) (seen:=seen) (nodes:=nodes) (k:=k) (x:=x);generalize L:TG goal seen (nodes.take k)=v at *;(repeat first|refine s2 rfl λ_ f=>?_ |refine aU rfl ?_ |apply Aa);(refine aC rfl ?_ ?_<;>rintro⟨⟩)
 ·obtain⟨x,z⟩:=get_some (l:=nodes) (k:=k) (by (simp only[oZ] at *;omega))
  have P:=get_map (g:=Br) z;have m:=u x (co z);have c:=c x z;have A:=i.len;obtain⟨b,hb⟩:=get_some (l:=v.seen) (k:=x.toNat) (by omega)
  have J:(v.seen.map AV)[0+x.toNat]? = some (AV b):=by simp [hb]
  have B:sn v.seen x=b:=by simp [sn,List.getD,hb]
  have h:v.fresh.length<=N:=by
   refine Gx _ _ i.nd λy w=>u y (ol ((i.fr y).1 w).1)
  unfold VP at c;rw [B] at c;obtain⟨vse,vfr,vfd⟩:=v;simp only at c A hb J h;apply aK;refine aS (aB ?_);(repeat first|((first|refine sM rfl ?_ ?_|refine s4 rfl ‹_› rfl ?_ ?_);first|exact tI|omega) |refine s2 rfl λ_ f=>?_ |refine aU rfl ?_ |apply Aa);(refine aC rfl ?_ ?_<;>rintro⟨⟩)
  ·have I:b=false:=by simpa using f
   subst I;rw [if_neg (by simp)] at c;(repeat first|(refine sA rfl ?_ ?_;first|exact tI|omega) |refine t4 rfl ‹_› rfl ?_ |refine aU rfl ?_ |apply Aa);(refine pW rfl ?_ rfl (by rfl);refine Al rfl rfl rfl (by first| (simp;done)|(simp;(omega))) rfl (by intro r t;simp at t;subst t;rfl) (by rfl) (am rfl) (by simp;omega) ?_);(repeat first|(refine sX rfl ?_ ?_;first|exact tI|simp only[oZ] at *;omega) |refine s3 rfl ?_ ?_<;>rintro rfl |refine aU rfl ?_ |apply Aa);(repeat first|(refine sC rfl (M x m) ?_;intro _ f)|(refine Af rfl ?_;refine gA rfl ?_;first| refine gQ (Tl rfl rfl rfl rfl) (by rfl) ?_))
   ·refine⟨⟨k+1,by (simp only[oZ] at *;omega)⟩,by dsimp only;((simp only[oZ] at *;omega)),[0,1,2,3,4,6],?_⟩
    rw [Vu];simp[cX,zC,a,c,Gd,d,iE]
   ·(repeat first|(refine sA rfl ?_ ?_;first|exact tI|simp only[oZ] at *;omega)|(refine Af rfl ?_;refine gA rfl ?_;first| (refine gB (λ_ _=>Bt rfl rfl (by simp [E.Cm,C.Cm,G]) (M x m) rfl) ?_;intro _ f)) |refine aU rfl ?_ |apply Aa)
    refine⟨⟨k+1,by (simp only[oZ] at *;omega)⟩,by dsimp only;((simp only[oZ] at *;omega)),[0,1,2,3,4,6],?_⟩;rw [Vu];simp[cX,zC,a,c,Gd,d,iE,f]
  ·have H:b=true:=by simpa using f
   subst H;rw [if_pos rfl] at c;apply aK;(repeat first|(refine sM rfl ?_ ?_;first|exact tI|simp only[oZ] at *;omega) |refine aU rfl ?_ |apply Aa);refine⟨⟨k+1,by (simp only[oZ] at *;omega)⟩,by dsimp only;((simp only[oZ] at *;omega)),[0,1,2,3,4,5],?_⟩;simp[cX,zC,a,c,Gd,d,iE]
 ·obtain rfl:k=nodes.length:=by (simp only[oZ] at *;omega)
  rw [ge] at L;subst L;apply aE
  have h:(TG goal seen nodes).fresh.length<=N:=by
   have i:=s nodes.length;rw [ge] at i;refine Gx _ _ i.nd λy w=>u y ((i.fr y).1 w).1
  generalize TG goal seen nodes=vv at *;obtain⟨vse,vfr,vfd⟩:=vv;have h:vfr.length<=N:=h;(repeat first|refine tM rfl ?_ |refine s2 rfl λ_ f=>?_ |refine aU rfl ?_ |apply Aa);(refine aC rfl ?_ ?_<;>rintro⟨⟩)
  ·have j:vfr≠[]:=λe=>by rw [e] at f;simp at f
   refine Aj.freeze [5] [(0,eI .i64 p),(1,eI .i64 l),(5,.o (.ptr 3 1 0 0)),(10,Ak vfr),(11,eB vfd)] ⟨⟨_,rfl,.AQ⟩,⟨_,rfl,.AQ⟩,⟨_,rfl,.AQ⟩,⟨_,rfl,.o (.full (by simp) rfl (by simp [d5]) (by simp))⟩,⟨_,rfl,.AQ⟩,trivial⟩ ?_;(repeat first|refine tA rfl ?_|(refine Af rfl ?_;refine gA rfl ?_;first| refine gS (λ_ _=>AB rfl rfl (by rfl) (by rfl)) ?_) |refine aU rfl ?_);(refine pW rfl ?_ rfl (by rfl);refine Al rfl rfl rfl (by first| (simp;done)|(simp;(omega))) rfl (by intro r t;simp at t;subst t;rfl) (by rfl) (am rfl) (by simp;omega) ?_);(repeat first|refine tX rfl ?_ |refine aU rfl ?_ |apply Aa);refine Aj.names [0,1,2,3,4,6] [(9,eB vfd)] (Gd N gG capsG vse 5 (E8 steps p l vfr)) (by rw [a];decide) (by decide) (by simp[cX,zC,a]) (by simp[cX,zC,a,Gd,d,E8,j,BZ,Ae,eC]) ?_;refine aR ⟨_,rfl,rfl,5,.inr ⟨rfl,rfl⟩,rfl⟩
  ·have j:vfr=[]:=ms.1 (by (simp only[oZ] at *;omega))
   subst j;apply aK;(repeat first|refine tM rfl ?_ |refine aU rfl ?_ |apply Aa);refine Aj.names [0,1,2,3,4] [(9,eB vfd)] (Gd N gG capsG vse 4 steps) (by rw [a];decide) (by decide) (by simp[cX,zC,a]) (by simp[cX,zC,a,Gd,d]) ?_;refine aR ⟨_,rfl,rfl,4,.inl ⟨rfl,rfl⟩,by simp [E8]⟩
theorem cY{P:Program}{Γ:Ctx}{d:Option Tmp}{ty:TypeId}{pos:String}{af:Array Edge}{g:Option (Nat×Bool)}{f:Env}{σ:Ab}{nx:Nat}{K:E->Ab->Nat->Prop}{T:TypeId}(k e:Nat)[r:BQ P T [.slice none 0 0]]
 (u:K (.o (.ptr (nx+1) 1 0 0)) ((nx+1,.cells T 1 [[.arr nx k 0 0]])::(nx,.cells e k [])::σ) (nx+2)):Cz P TB Γ ⟨d,.alloc T,ty,pos,af,g⟩ f σ nx K:=
 DH λV ρ z y x=>by
  subst x;obtain⟨i,zv,hi,b,a⟩:=HA r.out
  have h:zv.cells = #[.slice none 0 0]:=by have:=congrArg List.toArray a;simpa using this
  obtain⟨m,p⟩:=y.alloc (c:=0) (nl:=True) (w:=V.w) (ob:=.cells e k []) rfl rfl rfl rfl (i8 _) (λ_ _=>rfl) (.inl ⟨by simp [Ax],rfl⟩)
  have t:Dc (Ax V V.w.heap.size 0 True V.w) [.arr V.nx k 0 0] zv.cells:=by
   rw [h];refine⟨rfl,λj c v l q=>?_⟩
   match j with
   | 0=>simp at l q;subst l q;exact AH.nil (by simp [Ax]) (by simp [Ax])
   | j+1=>simp at l
  obtain⟨n,s⟩:=Su m (T:=T) t;refine⟨.pointer (some ⟨V.w.heap.size,0,none⟩),_,_,_,?_,p.trans s,n,?_,u⟩
  ·simp [execOp,Instr.alloc,zeroValue,typeInfo,hi,b,newVar,newRow,Ax,go_sem]
  ·exact OD
theorem RR(r:Nat->Nat):∀(l m:List E),EX r (l++m)=EX r l++EX r m
 | [],m=>rfl
 | e::l,m=>by simp [EX,RR r l m]
theorem PI(r:Nat->Nat):∀(l:List C),EX r (l.map .o)=(C.Cy r l).map .o
 | []=>rfl
 | c::l=>by simp [EX,C.Cy,E.Bj,PI r l]
def ix(P:Program)(TB:BF)(T:TypeId)(g:Gr)(gN:FuncId)(capsN:List C):Prop:=
 ∀(node l:Int) (outs:List Int),0<=node/\node < g.N->l∈g.ls->outs.length<=1099511627776->
  Spec P TB gN [(0,.cells T 1 (outs.map AE))] 1 ([eI .i64 node,eI .i64 l,.o (.arr 0 1 0 outs.length)]++capsN.map .o) (λx σ nx=>x=.o (.arr 1 1 0 (outs++g.succ node l).length)/\nx=2/\σ=[(1,.cells T 1 ((outs++g.succ node l).map AE))])
theorem Lo{g:Gr}(hg:IX g)(hN:g.N<=1048576)(U:∀l∈g.ls,0<=l/\l < 6)(hll:g.ls.length<=6)(hsl:∀(node l:Int),0<=node/\node < g.N->l∈g.ls->(g.succ node l).length<=g.N)
 {gN gG:FuncId} {capsN capsG:List C} (hNx:ix Tryz.prog TB 3 g gN capsN) (hG:∀n:Int,0<=n/\n < g.N->Pure Tryz.prog TB gG ([eI .i64 n]++capsG.map .o) (eB (g.goal n)))
 (Z:C.Dl capsG=true) (d:∀r,C.Cy r capsG=capsG) (h:∀r,C.Cy r capsN=capsN) {r:Option (List Int)} (hr:CB g r) :
 Pure Tryz.prog TB 97 [eI .i64 g.N,Ak [g.s0],Ak g.ls,.o (.fn gN capsN),.o (.fn gG capsG)] (Lm r):=by
 refine eN Tryz.func97 rfl (by kernel_rfl) rfl ?_;intro Γ b;(repeat first|refine aU rfl ?_);(refine pW rfl ?_ rfl (by rfl);refine C9 rfl rfl ?_);(repeat first|refine tM rfl ?_ |refine aU rfl ?_ |apply Aa);(refine pW rfl ?_ rfl (by rfl);refine KG rfl rfl (by rfl) (by rfl) (am rfl) (by omega) (by omega) (by omega) ?_)
 iterate 4 (first|refine tM rfl ?_ |refine aU rfl ?_ |apply Aa)
 (refine pW rfl ?_ rfl (by rfl);refine cY 3 178 ?_);(repeat first|refine tM rfl ?_ |refine aU rfl ?_ |apply Aa);have J:=XG (goal:=g.goal) (N:=g.N) (seen:=List.replicate g.N false) (nodes:=[g.s0]) (by simp) (by intro n u;simp at u;subst u;exact hg.s0);have A:=VO (TB:=TB) hG Z d (List.replicate g.N false) [] (-1) 0 [g.s0] (by simp) hN (by simp) (by intro n u;simp at u;subst u;exact hg.s0);(refine pW rfl ?_ rfl (by rfl);refine Ai [2,1,0,4,3] rfl rfl A ⟨rfl,by decide,by decide⟩ rfl (by simp[cX,zC,b,Gd,d,Ae,eC]) ?_;rintro x0 Q S ⟨rfl,q,K,rfl⟩ _);generalize hV:TG g.goal (List.replicate g.N false) [g.s0]=v at *;obtain⟨vse,vfr,vfd⟩:=v;simp only;apply Aa;refine Aj.names [2,1,0,4,if q=4 then 3 else 5] [(2,Ak g.ls),(3,.o (.fn gN capsN)),(12,.o (.ptr 0 1 0 0)),(13,.o (.ptr 3 1 0 0)),(14,.o (.fn 147 [.ptr 0 1 0 0,.ptr 2 1 0 0,.ptr 3 1 0 0])),(26,eB vfd)] (Gd g.N gG capsG vse 4 (E8 [] (-1) 0 vfr)) (by simp [b]) (by rcases K with ⟨rfl,rfl⟩|⟨rfl,rfl⟩<;>decide)
  (by rcases K with ⟨rfl,rfl⟩|⟨rfl,rfl⟩<;>simp[cX,zC,b,h,eC]) (by rcases K with ⟨rfl,rfl⟩|⟨rfl,rfl⟩<;>simp[cX,zC,b,Gd,d,Ab.Bj,BZ,IL,eC]) ?_
 (refine aC rfl ?_ ?_<;>rintro⟨⟩)
 ·-- the start is a goal
  have hgs:g.goal g.s0=true:=by
   have h1:vfr.any g.goal=true:=J.fd.symm;obtain⟨x,I,M⟩:=pZ.1 h1;have h2:=((J.fr x).1 I).1;simp at h2;subst h2;exact M
  have B:=CB.unique hr (CB.start hgs);subst B;(repeat first|refine tM rfl ?_ |refine aU rfl ?_ |apply Aa);refine aR ⟨_,rfl,rfl⟩
 apply aK;obtain⟨Y,hF0⟩:=FI.init hg J rfl;simp only at Y hF0;rw [Y];(repeat first|refine tM rfl ?_ |refine aU rfl ?_ |apply Aa);apply aB;refine Aj.A4 (α:={x:Nat×List Bool×List Ok×List (List Int) // FI g x.2.1 x.2.2.1 x.2.2.2 x.1 0}) (λ⟨⟨i,seen,steps,ws⟩,f⟩=>[(2,Ak g.ls),(3,.o (.fn gN capsN)),(12,.o (.ptr 0 1 0 0)),(13,.o (.ptr 3 1 0 0)),(14,.o (.fn 147 [.ptr 0 1 0 0,.ptr 2 1 0 0,.ptr 3 1 0 0])),(15,eI .i64 i)]) (λ⟨⟨i,seen,steps,ws⟩,f⟩=>Gd g.N gG capsG seen 4 steps) 5 (λ⟨⟨i,seen,steps,ws⟩,f⟩=>g.N - i) (⟨(0,vse,[⟨-1,0,[g.s0]⟩],[[]]),hF0⟩) [0,1,2,3,4] (Ed b rfl rfl) (by (simp[cX,zC,b,Gd,d,h,E8])) ?_;rintro⟨⟨i,seen,steps,ws⟩,f⟩;(try dsimp only);simp only at f;have V:=f.kO;(repeat first|refine tM rfl ?_ |refine s2 rfl λ_ _hb=>?_ |refine aU rfl ?_ |apply Aa);(refine aC rfl ?_ ?_<;>rintro⟨⟩)
 ·have hi : i < steps.length:=by (simp only[oZ] at *;omega)
  obtain⟨s,hs⟩:=get_some hi;have T:(steps.map PX)[0+((i:Nat):Int).toNat]? = some (PX s):=HM hs;obtain⟨wi,z⟩:∃wi,ws[i]? = some wi:=get_some (by rw [f.wlen];exact hi);apply aK;refine aS (aB ?_);(repeat first|refine sN rfl ?_ |refine tM rfl ?_ |refine aU rfl ?_ |apply Aa);apply aB;refine Aj.A4 (α:={x:Nat×List Bool×List Ok×List (List Int) // x.1<=g.ls.length/\FI g x.2.1 x.2.2.1 x.2.2.2 i x.1/\i < x.2.2.1.length}) (λ⟨⟨j,c,st2,t⟩,hP⟩=>[(2,Ak g.ls),(3,.o (.fn gN capsN)),(12,.o (.ptr 0 1 0 0)),(13,.o (.ptr 3 1 0 0)),(14,.o (.fn 147 [.ptr 0 1 0 0,.ptr 2 1 0 0,.ptr 3 1 0 0])),(15,eI .i64 i),(33,Ak g.ls),(34,eI .i64 g.ls.length),(35,eI .i64 j)]) (λ⟨⟨j,c,st2,t⟩,hP⟩=>Gd g.N gG capsG c 4 st2) 5 (λ⟨⟨j,c,st2,t⟩,hP⟩=>g.ls.length - j) (⟨(0,seen,steps,ws),by simp,f,hi⟩) [0,1,2,3,4] (Ed b rfl rfl) (by (simp[cX,zC,b,Gd,d,h])) ?_;rintro⟨⟨j,c,st2,t⟩,hP⟩;(try dsimp only);clear hs T z f V hi;obtain⟨hj,f,hi⟩:=hP;simp only at hj f hi;have V:=f.kO;(repeat first|refine s2 rfl λ_ _hb=>?_ |refine aU rfl ?_ |apply Aa);(refine aC rfl ?_ ?_<;>rintro⟨⟩)
  ·have X:j < g.ls.length:=by (simp only[oZ] at *;omega)
   obtain⟨l,hl⟩:=get_some (l:=g.ls) (k:=j) X;have hl':=get_map (g:=Br) hl;have F:=co hl;have hlb:=U l F;obtain⟨s,hs⟩:=get_some hi;have T:(st2.map PX)[0+((i:Nat):Int).toNat]? = some (PX s):=HM hs;obtain⟨wi,z⟩:∃wi,t[i]? = some wi:=get_some (by rw [f.wlen];exact hi);have p:=f.inn s (co hs);have hsnd:=Gx _ _ (f.nd s (co hs)) p;apply aK;refine aS (aB ?_);(repeat first|refine tM rfl ?_ |(refine s4 rfl ‹_› rfl ?_ ?_;omega) |refine aU rfl ?_ |apply Aa);(refine pW rfl ?_ rfl (by rfl);refine Hp 1 3 ?_);(repeat first|refine sN rfl ?_ |(refine sM rfl ?_ ?_;first|exact tI|omega) |refine t4 rfl ‹_› rfl ?_ |refine aU rfl ?_ |apply Aa);apply aB;refine Aj.A4 (α:={m:Nat // m<=s.ns.length}) (λ⟨m,hm⟩=>[(2,Ak g.ls),(3,.o (.fn gN capsN)),(12,.o (.ptr 0 1 0 0)),(13,.o (.ptr 3 1 0 0)),(14,.o (.fn 147 [.ptr 0 1 0 0,.ptr 2 1 0 0,.ptr 3 1 0 0])),(15,eI .i64 i),(33,Ak g.ls),(34,eI .i64 g.ls.length),(35,eI .i64 j),(17,eI .i64 l),(18,.o (.arr 5 1 0 ((s.ns.take m).flatMap λn=>g.succ n l).length)),(43,Ak s.ns),(44,eI .i64 s.ns.length),(45,eI .i64 m)]) (λ⟨m,hm⟩=>Gd g.N gG capsG c 4 st2++[(5,.cells 3 1 (((s.ns.take m).flatMap λn=>g.succ n l).map AE))]) 6 (λ⟨m,hm⟩=>s.ns.length - m) (⟨0,by omega⟩) [0,1,2,3,4,5] (Ed b rfl rfl) (by (simp[cX,zC,b,Gd,d,h])) ?_;rintro⟨m,hm⟩;(try dsimp only);(repeat first|refine s2 rfl λ_ _hb=>?_ |refine aU rfl ?_ |apply Aa);(refine aC rfl ?_ ?_<;>rintro⟨⟩)
   ·obtain⟨n,u⟩:=get_some (l:=s.ns) (k:=m) (by (simp only[oZ] at *;omega))
    have hn':=get_map (g:=Br) u;have hnb:=p n (co u)
    have hfm:(s.ns.take (m+1)).flatMap (λn=>g.succ n l)=(s.ns.take m).flatMap (λn=>g.succ n l)++g.succ n l:=by
     rw [d8,u];simp
    have hol:((s.ns.take m).flatMap λn=>g.succ n l).length<=1099511627776:=by
     have h2:=Lp (s.ns.take m) (λn=>g.succ n l) 1048576 (λx I=>by have:=hsl x l (p x (ol I)) F;omega)
     have h3:(s.ns.take m).length<=1048576:=by simp;omega
     omega
    have hnx:=hNx n l _ hnb F hol;generalize (s.ns.take m).flatMap (λn=>g.succ n l)=pre at *;apply aK;refine aS (aB ?_);(repeat first|refine tM rfl ?_ |(refine s4 rfl ‹_› rfl ?_ ?_;omega) |refine aU rfl ?_ |apply Aa);(refine pW rfl ?_ rfl (by rfl);refine Ai [5] rfl rfl hnx ⟨rfl,by decide,by decide⟩ (by rw [RR,PI,h];rfl) (by simp[cX,zC,b]) ?_;rintro x0 Q S ⟨rfl,rfl,rfl⟩ _);(repeat first|(refine sM rfl ?_ ?_;first|exact tI|omega) |refine aU rfl ?_ |apply Aa);refine⟨⟨m+1,by (simp only[oZ] at *;omega)⟩,by dsimp only;((simp only[oZ] at *;omega)),[0,1,2,3,4,6],?_⟩;simp[cX,zC,b,Gd,d,h,Ab.Bj,BZ,IL,hfm]
   ·obtain rfl:m=s.ns.length:=by (simp only[oZ] at *;omega)
    rw [ge];have hR:∀y,y∈s.ns.flatMap (λn=>g.succ n l)↔∃n∈s.ns,y∈g.succ n l:=λy=>pu;generalize s.ns.flatMap (λn=>g.succ n l)=R at *
    have H:∀y∈R,0<=y/\y < g.N:=λy hy=>by
     obtain⟨n,u,hy⟩:=(hR y).1 hy;exact hg.inn n (p n u) l F y hy
    have hv:=XG (goal:=g.goal) f.slen H;have A:=VO (TB:=TB) hG Z d c st2 i l R f.slen hN (by omega) H;generalize hV2:TG g.goal c R=v2 at *;apply aE;refine Aj.freeze [5] [(2,Ak g.ls),(3,.o (.fn gN capsN)),(12,.o (.ptr 0 1 0 0)),(13,.o (.ptr 3 1 0 0)),(14,.o (.fn 147 [.ptr 0 1 0 0,.ptr 2 1 0 0,.ptr 3 1 0 0])),(15,eI .i64 i),(33,Ak g.ls),(34,eI .i64 g.ls.length),(35,eI .i64 j),(17,eI .i64 l),(18,Ak R)] ⟨⟨_,rfl,.AQ⟩,⟨_,rfl,.AQ⟩,⟨_,rfl,.AQ⟩,⟨_,rfl,.AQ⟩,⟨_,rfl,.AQ⟩,⟨_,rfl,.AQ⟩,⟨_,rfl,.AQ⟩,⟨_,rfl,.AQ⟩,⟨_,rfl,.AQ⟩,⟨_,rfl,.AQ⟩,⟨_,rfl,.o (.full (by simp) rfl (by simp [d5]) (by simp))⟩,trivial⟩ ?_;(repeat first|refine tM rfl ?_ |refine aU rfl ?_);(refine pW rfl ?_ rfl (by rfl);refine Ai [0,1,2,3,4] rfl rfl A ⟨rfl,by decide,by decide⟩ rfl (by simp[cX,zC,b,Gd,d,BZ]) ?_;rintro x0 Q S ⟨rfl,q,K,rfl⟩ _);obtain⟨vse,vfr,vfd⟩:=v2;simp only;apply Aa;refine Aj.names [0,1,2,3,if q=4 then 4 else 6] [(2,Ak g.ls),(3,.o (.fn gN capsN)),(12,.o (.ptr 0 1 0 0)),(13,.o (.ptr 3 1 0 0)),(14,.o (.fn 147 [.ptr 0 1 0 0,.ptr 2 1 0 0,.ptr 3 1 0 0])),(15,eI .i64 i),(33,Ak g.ls),(34,eI .i64 g.ls.length),(35,eI .i64 j),(59,eB vfd)] (Gd g.N gG capsG vse 4 (E8 st2 i l vfr)) (by simp [b]) (by rcases K with ⟨rfl,rfl⟩|⟨rfl,rfl⟩<;>decide)
     (by rcases K with ⟨rfl,rfl⟩|⟨rfl,rfl⟩<;>simp[cX,zC,b,h]) (by rcases K with ⟨rfl,rfl⟩|⟨rfl,rfl⟩<;>simp[cX,zC,b,Gd,d,Ab.Bj,BZ,IL]) ?_
    (refine aC rfl ?_ ?_<;>rintro⟨⟩)
    ·obtain⟨x,I,M⟩:∃x∈vfr,g.goal x=true:=by
      have h1:vfr.any g.goal=true:=hv.fd.symm;exact pZ.1 h1
     have hxR:=((hv.fr x).1 I).1;obtain⟨n,u,hxn⟩:=(hR x).1 hxR;have G:=CB.found hg f z hl hs u hxn M;have B:=CB.unique hr G;subst B
     have hne:vfr≠[]:=λe=>by rw [e] at I;cases I
     have hsv:E8 st2 i l vfr=st2++[⟨i,l,vfr⟩]:=by unfold E8;rw [if_neg hne]
     rw [hsv];have hch:=f.Zq.app (ns:=vfr) z F;have hpw:=UW (TB:=TB) hch U (w:=wi++[l]) (by simp;omega) (by simp [f.wlen]);generalize hst3:st2++[⟨(i:Int),l,vfr⟩]=st3 at *;(repeat first|refine tM rfl ?_|(refine Af rfl ?_;refine gA rfl ?_;first| refine gQ (Iy rfl rfl ((.cons (.o (.full rfl (by simp [d5]) (by simp))) .nil)) (hpw) rfl) rfl ?_) |refine aU rfl ?_ |apply Aa);refine aR ⟨_,rfl,rfl⟩
    ·have P:=f.visit hg z hl hs hR hv rfl
     have L:i < (E8 st2 i l vfr).length:=by unfold E8;split<;>(try simp)<;>omega
     apply aK;(repeat first|(refine sM rfl ?_ ?_;first|exact tI|omega) |refine aU rfl ?_ |apply Aa);refine⟨⟨(j+1,vse,E8 st2 i l vfr,mW t (wi++[l]) vfr),X,P,L⟩,by dsimp only;omega,[0,1,2,3,4],?_⟩;simp[cX,zC,b,Gd,d,h]
  ·obtain rfl:j=g.ls.length:=by (simp only[oZ] at *;omega)
   have P:=f.kV hi;apply aE;(repeat first|(refine sM rfl ?_ ?_;first|exact tI|omega) |refine aU rfl ?_ |apply Aa);refine⟨⟨(i+1,c,st2,t),P⟩,by dsimp only;omega,[0,1,2,3,4],?_⟩;simp[cX,zC,b,Gd,d,h]
 ·have hle:=f.le
  obtain rfl:i=steps.length:=by (simp only[oZ] at *;omega)
  have G:=CB.nO hg f;have B:=CB.unique hr G;subst B;apply aE;(repeat first|refine tM rfl ?_ |refine aU rfl ?_ |apply Aa);refine aR ⟨_,rfl,rfl⟩
def Ga(a p:AX)(node letter:Int):Int:=CC a (node / p.nx.length % a.nx.length).toNat letter*p.nx.length+CC p (node % p.nx.length).toNat letter
def Jr(l:List Sys)(a p:AX)(node letter:Int):List Int:=(Ex (l.map (·.st)) (ZE l (node / p.nx.length / a.nx.length) letter)).map λo=>o*a.nx.length*p.nx.length+Ga a p node letter
def NG(a p:AX)(node:Int):Bool:=a.ac.getD (node / p.nx.length % a.nx.length).toNat false && !p.ac.getD (node % p.nx.length).toNat false
def gI(l:List Sys)(a p:AX)(ls:List Int):Gr:=⟨(Aw (l.map (·.st))*a.nx.length*p.nx.length).toNat,Jr l a p,NG a p,ls,0⟩
theorem JP{a:AX}{q:Nat}(h:q < a.nx.length):(Hb a)[q]? = some (Xn λl=>CC a q l):=DS (g:=λq=>Xn λl=>CC a q l) h
theorem HY{h:Nat->Int}{l:Int}(d:0<=l)(c:l < 6):((Xn h).drop (l.toNat*1))[0]? = some (iD (h l.toNat)):=by
 rw [ox]
 have b:l.toNat*1+0=l.toNat:=by omega
 have a:l.toNat < 6:=by omega
 rw [b];simp [Xn,a]
theorem ei{outs low:List Int}{h:Int->Int}{k:Nat}{x:Int}(a:low[k]? = some x):(outs++((low.take k).map h++low.drop k)).set (outs.length+k) (h x)=outs++((low.take (k+1)).map h++low.drop (k+1)):=by
 have hk:=(ce.1 a).1;rw [qF _ _ (by omega),qF _ _ (by simp;omega)];congr 1
 have e:outs.length+k - outs.length - ((low.take k).map h).length=0:=by simp;omega
 rw [e,BB a,d8,a];simp
theorem Cp{a:AX}(h:AJ a=true):1<=a.nx.length/\a.nx.length<=12:=by have:=AG h;omega
theorem Jn{l:List Sys}(h:∀s∈l,AW s=true)(c:l.length<=3):1<=Aw (l.map (·.st))/\Aw (l.map (·.st))<=4096:=by
 have a:∀z∈l.map (·.st),1<=z/\z<=16:=by
  intro z b;obtain⟨s,hs,rfl⟩:=d9.1 b;have:=AO (h s hs);omega
 have e:=HW _ a
 have d:(16:Int) ^ (l.map (·.st)).length<=4096:=by
  have:(l.map (·.st)).length<=3:=by simp;omega
  generalize (l.map (·.st)).length=n at this
  have:n=0\/n=1\/n=2\/n=3:=by omega
  rcases this with rfl|rfl|rfl|rfl<;>decide
 omega
theorem Vm{a p:AX}(ha:AJ a=true)(b:AJ p=true){node letter:Int}(g:0<=node)(d:0<=letter)(c:letter < 6):0<=Ga a p node letter/\Ga a p node letter < a.nx.length*p.nx.length:=by
 have o:=Cp ha;have l:=Cp b
 have k:0<=node / p.nx.length % a.nx.length/\node / p.nx.length % a.nx.length < a.nx.length:=⟨pe _ (by omega),o4 _ (by omega)⟩
 have j:0<=node % p.nx.length/\node % p.nx.length < p.nx.length:=⟨pe _ (by omega),o4 _ (by omega)⟩
 have f:=Ds ha (q:=(node / p.nx.length % a.nx.length).toNat) (by omega) d c;have i:=Ds b (q:=(node % p.nx.length).toNat) (by omega) d c;unfold Ga;generalize CC a _ letter=x at *;generalize CC p _ letter=y at *;generalize (a.nx.length:Int)=n at *;generalize (p.nx.length:Int)=m at *;have h:0<=x*m:=oU f.1 (by omega);have e:(x+1)*m<=n*m:=pz (by omega) (by omega);rw [qg] at e;omega
theorem UP[C8 TB]{l:List Sys}{a p:AX}(h:∀s∈l,AW s=true)(L:l.length<=3)(ha:AJ a=true)(H:AJ p=true)(node letter:Int)(c:0<=node)(Z:node<=1048576)(f:0<=letter)(d:letter < 6)(outs:List Int)(I:outs.length<=1099511627776) :
 Spec Tryz.prog TB 94 [(0,.cells 3 1 (outs.map AE))] 1 [eI .i64 node,eI .i64 letter,.o (.arr 0 1 0 outs.length),.o (.ip [.l (Hb a)]),.o (.ip [iD p.nx.length]),.o (.ip [iD a.nx.length]),.o (.ip [.l (Hb p)]),.o (.ip (GV l))]
  (λx σ nx=>x=.o (.arr 1 1 0 (outs++Jr l a p node letter).length)/\nx=2/\σ=[(1,.cells 3 1 ((outs++Jr l a p node letter).map AE))]):=by
 have han:=Cp ha;have Y:=Cp H;have B:=Vm ha H c f d;have t:0<=node / p.nx.length:=qb c (by omega);have V:node / p.nx.length<=node:=pX _ c;have G:0<=node / p.nx.length / a.nx.length:=qb t (by omega);have U:node / p.nx.length / a.nx.length<=node / p.nx.length:=pX _ t
 have h4:0<=node / p.nx.length % a.nx.length/\node / p.nx.length % a.nx.length < a.nx.length:=⟨pe _ (by omega),o4 _ (by omega)⟩
 have h5:0<=node % p.nx.length/\node % p.nx.length < p.nx.length:=⟨pe _ (by omega),o4 _ (by omega)⟩
 have h6:=Ds ha (q:=(node / p.nx.length % a.nx.length).toNat) (by omega) f d;have h7:=Ds H (q:=(node % p.nx.length).toNat) (by omega) f d;have T:=JP (a:=a) (q:=(node / p.nx.length % a.nx.length).toNat) (by omega);have S:=JP (a:=p) (q:=(node % p.nx.length).toNat) (by omega);have r:=HY (h:=λl=>CC a (node / p.nx.length % a.nx.length).toNat l) f d;have n:=HY (h:=λl=>CC p (node % p.nx.length).toNat l) f d
 have el:((letter.toNat:Nat):Int)=letter:=by omega
 have h8:0<=CC a (node / p.nx.length % a.nx.length).toNat letter*p.nx.length/\CC a (node / p.nx.length % a.nx.length).toNat letter*p.nx.length<=144:=⟨oU h6.1 (by omega),by
  have:CC a (node / p.nx.length % a.nx.length).toNat letter*p.nx.length<=12*12:=oS (by omega) (by omega) (by omega) (by omega)
  omega⟩
 simp only [el] at r n;have J:=ga (TB:=TB) l h L (node / p.nx.length / a.nx.length) letter G (by omega) f d outs I;have v:=SM (Sy h L f d (node / p.nx.length / a.nx.length));have X:=Jn h L;have F:CC a (node / p.nx.length % a.nx.length).toNat letter*p.nx.length+CC p (node % p.nx.length).toNat letter=Ga a p node letter:=rfl;unfold Jr;generalize Ex (l.map (·.st)) (ZE l (node / p.nx.length / a.nx.length) letter)=low at *;refine eN Tryz.func94 rfl (by kernel_rfl) rfl ?_;intro Γ b;(repeat first|refine tA rfl ?_ |refine aU rfl ?_ |apply Aa);refine rG (He []) (by kernel_rfl) ?_;(repeat first|(refine sA rfl ?_ ?_;first|exact tI|omega) |(refine s4 rfl ‹_› rfl ?_ ?_;omega)|(refine Af rfl ?_;refine gA rfl ?_;first| refine gS (λ_ _=>DQ rfl r) ?_|refine gS (λ_ _=>DQ rfl n) ?_) |refine aU rfl ?_ |apply Aa);rw [F];refine rG (He [8]) (by kernel_rfl) ?_;(repeat first|(refine sA rfl ?_ ?_;first|exact tI|omega));(refine pW rfl ?_ rfl (by rfl);refine Ai [0] rfl rfl J ⟨rfl,by decide,by decide⟩ rfl (by simp[cX,zC,b]) ?_;rintro x0 Q R ⟨rfl,rfl,rfl⟩ _);(repeat first|refine tA rfl ?_ |refine aU rfl ?_ |apply Aa);apply aB
 have K:∀k,((outs++((low.take k).map (λo=>o*a.nx.length*p.nx.length+Ga a p node letter)++low.drop k)).length)=outs.length+low.length:=by intro k;simp;omega
 refine Aj.A4 (α:={k:Nat // k<=low.length}) (λ⟨k,hk⟩=>[(2,.o (.arr 1 1 0 (outs.length+low.length))),(4,.o (.ip [iD p.nx.length])),(5,.o (.ip [iD a.nx.length])),(12,eI .i64 (Ga a p node letter)),(14,eI .i64 ((outs.length+k:Nat):Int))]) (λ⟨k,hk⟩=>[(1,.cells 3 1 ((outs++((low.take k).map (λo=>o*a.nx.length*p.nx.length+Ga a p node letter)++low.drop k)).map AE))]) 2 (λ⟨k,hk⟩=>low.length - k) (⟨0,by omega⟩) [0,1] (Ed b rfl rfl) (by (simp[cX,zC,b,Ab.Bj,BZ,IL])) ?_;rintro⟨k,hk⟩;(try dsimp only);(repeat first|refine tM rfl ?_ |refine s2 rfl λ_ _hb=>?_ |refine aU rfl ?_ |apply Aa);(refine aC rfl ?_ ?_<;>rintro⟨⟩)
 ·have w:k < low.length:=by (simp only[oZ] at *;omega)
  obtain⟨x,A⟩:=get_some (l:=low) (k:=k) w;have z:=v.1 x (co A);have m:=ei (outs:=outs) (h:=λo=>o*a.nx.length*p.nx.length+Ga a p node letter) A
  have N:(outs++((low.take k).map (λo=>o*a.nx.length*p.nx.length+Ga a p node letter)++low.drop k))[outs.length+k]? = some x:=by
   rw [f9 (by omega),f9 (by simp;omega),BB A]
   have e:outs.length+k - outs.length - ((low.take k).map (λo=>o*a.nx.length*p.nx.length+Ga a p node letter)).length=0:=by simp;omega
   rw [e];rfl
  have P:=HM (g:=AE) N
  have u:0<=x*a.nx.length/\x*a.nx.length<=49152:=⟨oU z.1 (by omega),by
   have:x*a.nx.length<=4096*12:=oS (by omega) (by omega) (by omega) (by omega)
   omega⟩
  have hm2:0<=x*a.nx.length*p.nx.length/\x*a.nx.length*p.nx.length<=589824:=⟨oU u.1 (by omega),by
   have:x*a.nx.length*p.nx.length<=49152*12:=oS u.2 (by omega) (by omega) (by omega)
   omega⟩
  have hm3:(a.nx.length:Int)*p.nx.length<=144:=by
   have:(a.nx.length:Int)*p.nx.length<=12*12:=oS (by omega) (by omega) (by omega) (by omega);omega
  have hlk:=K k
  have M:((outs.length+k:Nat):Int)+1=((outs.length+(k+1):Nat):Int):=by omega
  have j:=H0 (l:=outs++((low.take k).map (λo=>o*a.nx.length*p.nx.length+Ga a p node letter)++low.drop k)) (k:=outs.length+k) (x:=x) (y:=x*a.nx.length*p.nx.length+Ga a p node letter);rw [m] at j;generalize outs++((low.take k).map (λo=>o*a.nx.length*p.nx.length+Ga a p node letter)++low.drop k)=cur at *;apply aK;refine aS (aB ?_);refine rG (He [13]) (by kernel_rfl) ?_;(repeat first|(refine sM rfl ?_ ?_;first|exact tI|omega) |refine t4 rfl ‹_› rfl ?_ |refine aU rfl ?_ |apply Aa);refine⟨⟨k+1,w⟩,by dsimp only;omega,[0,1],?_⟩;rw [j,M];simp[cX,zC,b]
 ·obtain rfl:k=low.length:=by (simp only[oZ] at *;omega)
  rw [ge,qp,oO];apply aE;(repeat first|refine tM rfl ?_ |refine aU rfl ?_ |apply Aa);refine Aj.names [0,1] [(11,.o (.arr 1 1 0 (outs.length+low.length)))] [(1,.cells 3 1 ((outs++low.map λo=>o*a.nx.length*p.nx.length+Ga a p node letter).map AE))] (by intro i hi;rw [b] at hi;obtain rfl:i=0:=(by omega);rfl) (by simp) (by simp[cX,zC,b]) (by simp[cX,zC,b]) ?_;refine aR ⟨_,rfl,by simp,rfl,rfl⟩
theorem Sp(s:Sys):Pure Tryz.prog TB 76 [Bp s] (eB (!AW s)):=by
 refine eN Tryz.func76 rfl (by kernel_rfl) rfl ?_;intro Γ b;(repeat' first|refine tA rfl ?_ |refine s2 rfl λ_ a=>?_ |(refine sC rfl (BI s) ?_;intro _ a) |refine aU rfl ?_ |apply Aa|(refine aC rfl ?_ ?_<;>rintro⟨⟩)|apply aK|apply aE|apply aB|refine aR ⟨_,rfl,?_⟩)
 all_goals (show E.o _=E.o _;congr;grind)
def Wv:List Sys->Int->Int
 | [],_=>-1
 | s::l,k=>if AW s then Wv l (k+1) else k
theorem Ua:∀(l:List Sys) (k:Int),0<=k->(decide (0<=Wv l k) = !l.all AW)
 | [],_,_=>rfl
 | s::l,k,h=>by
  unfold Wv;by_cases hs:AW s=true
  ·rw [if_pos hs,Ua l (k+1) (by omega)];simp [hs]
  ·rw [if_neg hs];simp [hs,h]
theorem SH(l:List Sys):Pure Tryz.prog TB 135 [Gm l,.o (.fn 76 [])] (eI .i64 (Wv l 0)):=by
 refine eN Tryz.func135 rfl (by kernel_rfl) rfl ?_;intro Γ a;refine Aj.bound 0 rfl λb=>?_;have f:=b (l.map AL) .refl;(repeat' first|refine sN rfl ?_ |refine tA rfl ?_ |refine aU rfl ?_ |apply Aa|(refine aC rfl ?_ ?_<;>rintro⟨⟩)|apply aK|apply aE|apply aB|refine aR ⟨_,rfl,?_⟩);refine Aj.A4 (α:={k:Nat // k<=l.length/\Wv l 0=Wv (l.drop k) k}) (λ⟨k,hk,ha⟩=>[(0,Gm l),(1,.o (.fn 76 [])),(7,eI .i64 l.length),(8,eI .i64 k)]) (λ⟨k,hk,ha⟩=>[]) 0 (λ⟨k,hk,ha⟩=>l.length - k) (⟨0,by omega,rfl⟩) [] (Ed a rfl rfl) (by (simp[cX,zC,a])) ?_;rintro⟨k,hk,ha⟩;(try dsimp only);(repeat first|refine s2 rfl λ_ c=>?_ |refine aU rfl ?_ |apply Aa);(refine aC rfl ?_ ?_<;>rintro⟨⟩)
 ·obtain⟨x,d⟩:=get_some (l:=l) (k:=k) (by (simp only[oZ] at *;omega))
  have e:=get_map (g:=AL) d;rw [BB d,Wv] at ha;(repeat' first|(refine sA rfl ?_ ?_;first|exact tI|simp only[oZ] at *;omega) |(refine s4 rfl ‹_› rfl ?_ ?_;omega) |(refine sC rfl (Sp x) ?_;intro _ c) |refine aU rfl ?_ |apply Aa|(refine aC rfl ?_ ?_<;>rintro⟨⟩)|apply aK|apply aE|apply aB|refine aR ⟨_,rfl,?_⟩)
  ·rw [if_neg (by grind)] at ha
   show E.o _=E.o _;rw [ha]
  ·rw [if_pos (by grind)] at ha
   refine⟨⟨k+1,by (simp only[oZ] at *;omega),by rw [ha];rfl⟩,by dsimp only;((simp only[oZ] at *;omega)),[],?_⟩;simp[cX,zC,a]
 ·(repeat' first|refine tA rfl ?_ |refine aU rfl ?_ |apply Aa|(refine aC rfl ?_ ?_<;>rintro⟨⟩)|apply aK|apply aE|apply aB|refine aR ⟨_,rfl,?_⟩)
  rw [pv (by (simp only[oZ] at *;omega))] at ha
  show E.o _=E.o _;rw [ha];rfl
theorem Od(l:List Sys):Pure Tryz.prog TB 75 [Gm l,.o (.fn 76 [])] (eB (!l.all AW)):=by
 have hb:=Ua l 0 (by omega);refine eN Tryz.func75 rfl (by kernel_rfl) rfl ?_;intro Γ a;(repeat' first|refine tA rfl ?_ |refine s2 rfl λ_ b=>?_ |refine sP rfl (SH l) rfl ?_ |refine aU rfl ?_ |apply Aa|(refine aC rfl ?_ ?_<;>rintro⟨⟩)|apply aK|apply aE|apply aB|refine aR ⟨_,rfl,?_⟩)
 all_goals (show E.o _=E.o _;congr;grind)
theorem Hi(l:List Sys):Pure Tryz.prog TB 36 [Gm l] (eB (A3 l)):=by
 refine eN Tryz.func36 rfl (by kernel_rfl) rfl ?_;intro Γ b;(repeat' first|refine sN rfl ?_ |refine tA rfl ?_ |refine s2 rfl λ_ a=>?_ |(refine sC rfl (Od l) ?_;intro _ a) |refine s3 rfl ?_ ?_<;>rintro rfl |refine aU rfl ?_ |apply Aa|(refine aC rfl ?_ ?_<;>rintro⟨⟩)|apply aK|apply aE|apply aB|refine aR ⟨_,rfl,?_⟩)
 all_goals (show E.o _=E.o _;congr;unfold A3;grind)
theorem FP(l:List Sys):Pure Tryz.prog TB 56 [Gm l] (eI .i64 (Bz l)):=by
 refine eN Tryz.func56 rfl (by kernel_rfl) rfl ?_;intro Γ a;refine Aj.bound 0 rfl λe=>?_;have i:=e (l.map AL) .refl;(repeat' first|refine sN rfl ?_ |refine tA rfl ?_ |refine s2 rfl λ_ b=>?_ |(refine sC rfl (Hi l) ?_;intro _ b) |refine aU rfl ?_ |apply Aa|(refine aC rfl ?_ ?_<;>rintro⟨⟩)|apply aK|apply aE|apply aB|refine aR ⟨_,rfl,?_⟩)
 all_goals try (show E.o _=E.o _;congr;unfold Bz;rw [if_neg (by grind)])
 have d:A3 l=true:=by grind
 refine Aj.A4 (α:={k:Nat // k<=l.length}) (λ⟨k,hk⟩=>[(3,eI .i64 (Hx (l.take k) 0)),(9,Gm l),(10,eI .i64 l.length),(11,eI .i64 k)]) (λ⟨k,hk⟩=>[]) 0 (λ⟨k,hk⟩=>l.length - k) (⟨0,by omega⟩) [] (Ed a rfl rfl) (by (repeat' first|exact tI|rfl|refine And.intro ?_ ?_)) ?_;rintro⟨k,hk⟩;(try dsimp only);(repeat first|refine s2 rfl λ_ b=>?_ |refine aU rfl ?_ |apply Aa);(refine aC rfl ?_ ?_<;>rintro⟨⟩)
 ·obtain⟨x,f⟩:=get_some (l:=l) (k:=k) (by (simp only[oZ] at *;omega))
  have h:=get_map (g:=AL) f
  have c:Hx (l.take (k+1)) 0=Gw .i64 (Hx (l.take k) 0) x.al:=by unfold Hx;rw [GL f]
  (repeat' first|(refine sA rfl ?_ ?_;first|exact tI|simp only[oZ] at *;omega) |(refine s4 rfl ‹_› rfl ?_ ?_;omega) |refine aU rfl ?_ |apply Aa|(refine aC rfl ?_ ?_<;>rintro⟨⟩)|apply aK|apply aE|apply aB|refine aR ⟨_,rfl,?_⟩);refine⟨⟨k+1,by (simp only[oZ] at *;omega)⟩,by dsimp only;((simp only[oZ] at *;omega)),[],?_⟩;simp[cX,zC,a,c]
 ·(repeat' first|refine tA rfl ?_ |refine aU rfl ?_ |apply Aa|(refine aC rfl ?_ ?_<;>rintro⟨⟩)|apply aK|apply aE|apply aB|refine aR ⟨_,rfl,?_⟩)
  rw [gc (by (simp only[oZ] at *;omega))]
  show E.o _=E.o _;congr;unfold Bz;rw [if_pos d]
theorem Us{a p:AX}(ha:AJ a=true)(e:AJ p=true)(node:Int)(d:0<=node)(n:node<=1048576):Pure Tryz.prog TB 96 [eI .i64 node,.o (.ip [.p (AT a)]),.o (.ip [iD p.nx.length]),.o (.ip [iD a.nx.length]),.o (.ip (AT p))] (eB (NG a p node)):=by
 have s:=Cp ha;have j:=Cp e;have t:=AG ha;have m:=AG e;have i:0<=node / p.nx.length:=qb d (by omega);have h:node / p.nx.length<=node:=pX _ d
 have w:0<=node / p.nx.length % a.nx.length/\node / p.nx.length % a.nx.length < a.nx.length:=⟨pe _ (by omega),o4 _ (by omega)⟩
 have v:0<=node % p.nx.length/\node % p.nx.length < p.nx.length:=⟨pe _ (by omega),o4 _ (by omega)⟩
 obtain⟨b,hb⟩:=get_some (l:=a.ac) (k:=(node / p.nx.length % a.nx.length).toNat) (by omega);obtain⟨c,f⟩:=get_some (l:=p.ac) (k:=(node % p.nx.length).toNat) (by omega)
 have r:(a.ac.map Ik)[(node / p.nx.length % a.nx.length).toNat]? = some (Ik b):=by simp [hb]
 have q:(p.ac.map Ik)[(node % p.nx.length).toNat]? = some (Ik c):=by simp [f]
 have hg:NG a p node=(b && !c):=by simp [NG,List.getD,hb,f]
 rw [hg];refine eN Tryz.func96 rfl (by kernel_rfl) rfl ?_;intro Γ g;(repeat' first|(refine sA rfl ?_ ?_;first|exact tI|omega) |(refine s4 rfl ‹_› rfl ?_ ?_;omega) |refine s2 rfl λ_ u=>?_ |refine s3 rfl ?_ ?_<;>rintro rfl |refine aU rfl ?_ |apply Aa |refine rE (by kernel_rfl) ?_|(refine aC rfl ?_ ?_<;>rintro⟨⟩)|apply aK|apply aE|apply aB|refine aR ⟨_,rfl,?_⟩)
 all_goals (show E.o _=E.o _;first| rfl|(congr;grind))
theorem VH(a:AX):(Hb a).length=a.nx.length:=by simp [Hb,BK]
def Ob:AX:=⟨0,[[]],[true]⟩
theorem fo:AJ Ob=true:=by decide
theorem iY{l:List Sys}{a p:AX}{ls:List Int}(h:∀s∈l,AW s=true)(d:l.length<=3)(ha:AJ a=true)(c:AJ p=true):((gI l a p ls).N:Int)=Aw (l.map (·.st))*a.nx.length*p.nx.length/\1<=(gI l a p ls).N/\(gI l a p ls).N<=1048576:=by
 have b:=Jn h d;have m:=Cp ha;have k:=Cp c;have j:(gI l a p ls).N=(Aw (l.map (·.st))*a.nx.length*p.nx.length).toNat:=rfl;have i:Aw (l.map (·.st))*a.nx.length<=4096*12:=oS b.2 (by omega) (by omega) (by omega);have g:1*1<=Aw (l.map (·.st))*a.nx.length:=oS b.1 (by omega) (by omega) (by omega);have f:Aw (l.map (·.st))*a.nx.length*p.nx.length<=49152*12:=oS (by omega) (by omega) (by omega) (by omega);have e:1*1<=Aw (l.map (·.st))*a.nx.length*p.nx.length:=oS (by omega) (by omega) (by omega) (by omega);omega
theorem P0{l:List Sys}{a p:AX}(h:∀s∈l,AW s=true)(d:l.length<=3)(ha:AJ a=true)(c:AJ p=true){node letter:Int}(m:0<=node)(i:0<=letter)(g:letter < 6):(∀y∈Jr l a p node letter,0<=y/\y < Aw (l.map (·.st))*a.nx.length*p.nx.length)/\((Jr l a p node letter).length:Int)<=Aw (l.map (·.st)):=by
 have r:=SM (Sy h d i g (node / p.nx.length / a.nx.length));have x:=Jn h d;have w:=Cp ha;have v:=Cp c;have u:=Vm ha c m i g;refine⟨λy j=>?_,by unfold Jr;simp;omega⟩;obtain⟨o,k,rfl⟩:=d9.1 j;have n:=r.1 o k;have e:∀o:Int,o*a.nx.length*p.nx.length=o*(a.nx.length*p.nx.length):=λo=>pU _ _ _;rw [e,e];have f:0<=(a.nx.length:Int)*p.nx.length:=oU (by omega) (by omega);generalize (a.nx.length:Int)*p.nx.length=q at *;have t:0<=o*q:=oU n.1 f;have b:(o+1)*q<=Aw (l.map (·.st))*q:=pz (by omega) f;rw [qg] at b;omega
theorem ib{l:List Sys}{a p:AX}{x:Int}(h:∀s∈l,AW s=true)(c:l.length<=3)(ha:AJ a=true)(b:AJ p=true):IX (gI l a p (Ac x)):=by
 have i:=iY (ls:=Ac x) h c ha b;refine⟨?_,λy e m f z d=>?_,ET _ _⟩
 ·show 0<=(0:Int)/\(0:Int) < _
  omega
 ·have g:=Au f
  have j:=(P0 h c ha b e.1 g.1 (by omega)).1 z d;omega
theorem O7[C8 TB](l:List Sys)(a p:AX)(h:A3 l=true)(ha:AJ a=true)(c:AJ p=true) :
 Pure Tryz.prog TB 54 [Gm l,.o (.ip (AT a)),Bc p] (Lm (DD (gI l a p (Ac (Gw .i64 (Bz l) a.al))))):=by
 have b:=h;unfold A3 at b;simp only [d4,decide_eq_true_eq,f7] at b;obtain⟨⟨u,d⟩,hs⟩:=b;have k:=iY (ls:=Ac (Gw .i64 (Bz l) a.al)) hs d ha c;have hg:=ib (x:=Gw .i64 (Bz l) a.al) hs d ha c;have g:=Jn hs d;have v:=Cp ha;have q:=Cp c;have i:Pure Tryz.prog TB 97 [eI .i64 (Aw (l.map (·.st))*a.nx.length*p.nx.length),Ak [0],Ak (Ac (Gw .i64 (Bz l) a.al)),.o (.fn 94 [.ip [.l (Hb a)],.ip [iD p.nx.length],.ip [iD a.nx.length],.ip [.l (Hb p)],.ip (GV l)]),.o (.fn 96 [.ip [.p (AT a)],.ip [iD p.nx.length],.ip [iD a.nx.length],.ip (AT p)])]
  (Lm (DD (gI l a p (Ac (Gw .i64 (Bz l) a.al))))):=by
  rw [<-k.1];refine Lo hg k.2.2 (λx e=>by have:=Au e;omega) (AM _ 6) (λnode x f e=>?_) (λnode x outs f e s=>?_) (λn f=>?_) rfl (λr=>rfl) (λr=>rfl) (DE _)
  ·have j:=Au e
   have w:=(P0 hs d ha c f.1 j.1 (by omega)).2;have A:Aw (l.map (·.st))*1<=Aw (l.map (·.st))*a.nx.length:=oP (by omega) (by omega);have z:Aw (l.map (·.st))*a.nx.length*1<=Aw (l.map (·.st))*a.nx.length*p.nx.length:=oP (by omega) (by omega);have y:(((gI l a p (Ac (Gw .i64 (Bz l) a.al))).succ node x).length:Int)<=Aw (l.map (·.st)):=w;omega
  ·have j:=Au e
   exact UP hs d ha c node x f.1 (by omega) j.1 (by omega) outs s
  ·exact Us ha c n f.1 (by omega)
 have t:0<=Aw (l.map (·.st))*a.nx.length/\Aw (l.map (·.st))*a.nx.length<=49152:=⟨oU (by omega) (by omega),by
  have:Aw (l.map (·.st))*a.nx.length<=4096*12:=oS g.2 (by omega) (by omega) (by omega)
  omega⟩
 refine eN Tryz.func54 rfl (by kernel_rfl) rfl ?_;intro Γ m;(repeat first|refine aU rfl ?_);(refine Af rfl ?_;refine CE (λ_ _=>C7 rfl rfl rfl) rfl ?_);(refine Af rfl ?_;refine CE (λ_ _=>C7 rfl rfl rfl) rfl ?_);(repeat first|refine tM rfl ?_ |refine sP rfl (NP l hs d) rfl ?_|refine sP rfl (FP l) rfl ?_ |refine aU rfl ?_ |apply Aa);(refine aC rfl ?_ ?_<;>rintro⟨⟩);apply aK;apply aS;refine R.QJ [(0,2),(1,2),(2,2),(3,2),(4,2),(5,2),(6,3),(7,3),(8,5),(9,5)] mixed (by kernel_rfl) rfl (by kernel_rfl) ?_;(repeat ((refine R.Af rfl ?_;first|(refine R.yQ (md:=false) rfl rfl rfl ?_ ?_;exact tI) |refine R.yP rfl rfl rfl rfl ?_ |refine R.yA rfl rfl rfl rfl ?_|refine R.CE (λ_ _ _=>Bt rfl rfl rfl (EA a ha) rfl) rfl rfl ?_|refine R.CE (λ_ _ _=>Bt rfl rfl rfl (EA p c) rfl) rfl rfl ?_ )));refine R.QE ?_;apply aS;refine Aj.freeze [0,1,2] [(4,.o (.ip [.p (AT a)])),(5,.o (.ip (AT p))),(8,.o (.ip (GV l))),(9,eI .i64 (Bz l)),(10,.o (.ip [.l (Hb a)])),(11,.o (.ip [.l (Hb p)]))] ⟨⟨_,rfl,.AQ⟩,⟨_,rfl,.AQ⟩,⟨_,rfl,.o (.ptr (by simp) rfl rfl rfl)⟩,⟨_,rfl,.AQ⟩,⟨_,rfl,.o (.ptr (by simp) rfl rfl rfl)⟩,⟨_,rfl,.o (.ptr (by simp) rfl rfl rfl)⟩,trivial⟩ ?_;refine R.QJ [(0,2),(1,2),(2,2),(3,2),(4,3),(5,3),(6,5),(7,5)] mixed (by kernel_rfl) rfl (by kernel_rfl) ?_;(repeat ((refine R.Af rfl ?_;first|(refine R.yQ (md:=false) rfl rfl rfl ?_ ?_;exact tI) |refine R.yP rfl rfl rfl rfl ?_ |refine R.yA rfl rfl rfl rfl ?_ )));refine R.QE ?_;apply aS;simp only [VH];refine Aj.freeze [3,4] [(4,.o (.ip [.p (AT a)])),(5,.o (.ip (AT p))),(8,.o (.ip (GV l))),(9,eI .i64 (Bz l)),(10,.o (.ip [.l (Hb a)])),(11,.o (.ip [.l (Hb p)])),(12,.o (.ip [iD a.nx.length])),(13,.o (.ip [iD p.nx.length]))] ⟨⟨_,rfl,.AQ⟩,⟨_,rfl,.AQ⟩,⟨_,rfl,.AQ⟩,⟨_,rfl,.AQ⟩,⟨_,rfl,.AQ⟩,⟨_,rfl,.AQ⟩,⟨_,rfl,.o (.ptr (by simp) rfl rfl rfl)⟩,⟨_,rfl,.o (.ptr (by simp) rfl rfl rfl)⟩,trivial⟩ ?_;(repeat first|refine tA rfl ?_ |refine aU rfl ?_ |apply Aa);refine rG (He []) (by kernel_rfl) ?_;(repeat first|(refine sA rfl ?_ ?_;first|exact tI|omega) |refine sP rfl (Zf l hs d) rfl ?_|refine sP rfl (CW _) rfl ?_|refine sP rfl (i) rfl ?_ |apply Aa);refine aR ⟨_,rfl,rfl⟩
theorem Oe[C8 TB](l:List Sys)(p:AX)(h:A3 l=true)(c:AJ p=true) :
 Pure Tryz.prog TB 54 [Gm l,.o (.d (.v (.pointer none))),Bc p] (Lm (DD (gI l Ob p (Ac (Gw .i64 (Bz l) Ob.al))))):=by
 obtain⟨a,f⟩:∃a,a=Ob:=⟨_,rfl⟩
 have ha:AJ a=true:=by rw [f];exact fo
 rw [<-f];have b:=h;unfold A3 at b;simp only [d4,decide_eq_true_eq,f7] at b;obtain⟨⟨y,e⟩,hs⟩:=b;have q:=iY (ls:=Ac (Gw .i64 (Bz l) a.al)) hs e ha c;have hg:=ib (x:=Gw .i64 (Bz l) a.al) hs e ha c;have j:=Jn hs e;have z:=Cp ha;have t:=Cp c;have k:Pure Tryz.prog TB 97 [eI .i64 (Aw (l.map (·.st))*a.nx.length*p.nx.length),Ak [0],Ak (Ac (Gw .i64 (Bz l) a.al)),.o (.fn 94 [.ip [.l (Hb a)],.ip [iD p.nx.length],.ip [iD a.nx.length],.ip [.l (Hb p)],.ip (GV l)]),.o (.fn 96 [.ip [.p (AT a)],.ip [iD p.nx.length],.ip [iD a.nx.length],.ip (AT p)])]
  (Lm (DD (gI l a p (Ac (Gw .i64 (Bz l) a.al))))):=by
  rw [<-q.1];refine Lo hg q.2.2 (λx g=>by have:=Au g;omega) (AM _ 6) (λnode x i g=>?_) (λnode x outs i g u=>?_) (λn i=>?_) rfl (λr=>rfl) (λr=>rfl) (DE _)
  ·have m:=Au g
   have A:=(P0 hs e ha c i.1 m.1 (by omega)).2;have G:Aw (l.map (·.st))*1<=Aw (l.map (·.st))*a.nx.length:=oP (by omega) (by omega);have F:Aw (l.map (·.st))*a.nx.length*1<=Aw (l.map (·.st))*a.nx.length*p.nx.length:=oP (by omega) (by omega);have B:(((gI l a p (Ac (Gw .i64 (Bz l) a.al))).succ node x).length:Int)<=Aw (l.map (·.st)):=A;omega
  ·have m:=Au g
   exact UP hs e ha c node x i.1 (by omega) m.1 (by omega) outs u
  ·exact Us ha c n i.1 (by omega)
 have w:0<=Aw (l.map (·.st))*a.nx.length/\Aw (l.map (·.st))*a.nx.length<=49152:=⟨oU (by omega) (by omega),by
  have:Aw (l.map (·.st))*a.nx.length<=4096*12:=oS j.2 (by omega) (by omega) (by omega)
  omega⟩
 refine eN Tryz.func54 rfl (by kernel_rfl) rfl ?_;intro Γ s;(repeat first|refine aU rfl ?_);(refine pW rfl ?_ rfl (by rfl);refine C9 rfl rfl ?_);(refine Af rfl ?_;refine CE (λ_ _=>C7 rfl rfl rfl) rfl ?_);(repeat first|refine tM rfl ?_ |refine sP rfl (NP l hs e) rfl ?_|refine sP rfl (FP l) rfl ?_ |refine aU rfl ?_ |apply Aa);(refine aC rfl ?_ ?_<;>rintro⟨⟩);(repeat first|refine tA rfl ?_|(refine Af rfl ?_;refine gA rfl ?_;first| refine gS (λ_ _=>AB rfl rfl (by rfl) (by rfl)) ?_) |refine aU rfl ?_ |apply Aa);refine Aj.freeze [0,1] [(4,.o (.ip [.p (AT a)])),(5,.o (.ip (AT p))),(8,.o (.ip (GV l))),(9,eI .i64 (Bz l))] ⟨⟨_,rfl,.o (.ptr (by simp) rfl rfl (by rw [f];rfl))⟩,⟨_,rfl,.AQ⟩,⟨_,rfl,.o (.ptr (by simp) rfl rfl rfl)⟩,⟨_,rfl,.AQ⟩,trivial⟩ ?_;refine R.QJ [(0,2),(1,2),(2,2),(3,2),(4,2),(5,2),(6,3),(7,3),(8,5),(9,5)] mixed (by kernel_rfl) rfl (by kernel_rfl) ?_;(repeat ((refine R.Af rfl ?_;first|(refine R.yQ (md:=false) rfl rfl rfl ?_ ?_;exact tI) |refine R.yP rfl rfl rfl rfl ?_ |refine R.yA rfl rfl rfl rfl ?_|refine R.CE (λ_ _ _=>Bt rfl rfl rfl (EA a ha) rfl) rfl rfl ?_|refine R.CE (λ_ _ _=>Bt rfl rfl rfl (EA p c) rfl) rfl rfl ?_ )));refine R.QE ?_;apply aS;refine Aj.freeze [2,3] [(4,.o (.ip [.p (AT a)])),(5,.o (.ip (AT p))),(8,.o (.ip (GV l))),(9,eI .i64 (Bz l)),(10,.o (.ip [.l (Hb a)])),(11,.o (.ip [.l (Hb p)]))] ⟨⟨_,rfl,.AQ⟩,⟨_,rfl,.AQ⟩,⟨_,rfl,.AQ⟩,⟨_,rfl,.AQ⟩,⟨_,rfl,.o (.ptr (by simp) rfl rfl rfl)⟩,⟨_,rfl,.o (.ptr (by simp) rfl rfl rfl)⟩,trivial⟩ ?_;refine R.QJ [(0,2),(1,2),(2,2),(3,2),(4,3),(5,3),(6,5),(7,5)] mixed (by kernel_rfl) rfl (by kernel_rfl) ?_;(repeat ((refine R.Af rfl ?_;first|(refine R.yQ (md:=false) rfl rfl rfl ?_ ?_;exact tI) |refine R.yP rfl rfl rfl rfl ?_ |refine R.yA rfl rfl rfl rfl ?_ )));refine R.QE ?_;apply aS;simp only [VH];refine Aj.freeze [4,5] [(4,.o (.ip [.p (AT a)])),(5,.o (.ip (AT p))),(8,.o (.ip (GV l))),(9,eI .i64 (Bz l)),(10,.o (.ip [.l (Hb a)])),(11,.o (.ip [.l (Hb p)])),(12,.o (.ip [iD a.nx.length])),(13,.o (.ip [iD p.nx.length]))] ⟨⟨_,rfl,.AQ⟩,⟨_,rfl,.AQ⟩,⟨_,rfl,.AQ⟩,⟨_,rfl,.AQ⟩,⟨_,rfl,.AQ⟩,⟨_,rfl,.AQ⟩,⟨_,rfl,.o (.ptr (by simp) rfl rfl rfl)⟩,⟨_,rfl,.o (.ptr (by simp) rfl rfl rfl)⟩,trivial⟩ ?_;(repeat first|refine tA rfl ?_ |refine aU rfl ?_ |apply Aa);refine rG (He []) (by kernel_rfl) ?_;(repeat first|(refine sA rfl ?_ ?_;first|exact tI|omega) |refine sP rfl (Zf l hs e) rfl ?_|refine sP rfl (CW _) rfl ?_|refine sP rfl (k) rfl ?_ |apply Aa);refine aR ⟨_,rfl,rfl⟩
end Go.Am
