/-
  Where letters lead systems that run together.
-/
import Derived.Test.YtgpbfllcjdfelaaGreatDoorPart23
set_option linter.all false
namespace Go.Am
open Go Go.Proofs
set_option maxHeartbeats 1000000
set_option maxRecDepth 4000
attribute [local irreducible] AW BQ Lex A9 Aj Spec
variable {TB:Bp}
theorem Da{P:Program}{Z:Ctx}{d:Option Tmp}{ty:TypeId}{pos:String}{af:Array Edge}{g:Option (Nat×Bool)}{f:Env}{σ:Ab}{nx:Nat}{t:TypeId}{x:Operand}{c:D}{cs:List D}{n:Nat}[h:DC P t false n](e:ev f x=some (.o (.ip cs)))(b:cs[0]? = some c):AW P TB Z ⟨d,.load t x,ty,pos,af,g⟩ f σ nx (.o (.d c)):=by
 cases cs with
 | nil=>cases b
 | cons a l=>injection b with b;subst b;exact SV e
theorem ZM{es:List Ec}{q l:Int}(d:0<=q/\q < 16)(c:0<=l/\l < 6):(((E8 es).drop (q.toNat*6)).drop (l.toNat*1))[0]? = some (iD (BE (Lh es q.toNat l.toNat):Nat)):=by
 rw [lS,lS,IW (by omega)]
 have b:(q.toNat*6+(l.toNat*1+0)) / 6=q.toNat:=by omega
 have a:(q.toNat*6+(l.toNat*1+0)) % 6=l.toNat:=by omega
 rw [b,a]
theorem c6[Dx TB](l:List Sys)(h:∀s∈l,AZ s=true)(hl:l.length<=3)(node letter:Int)(hn0:0<=node)(hn1:node<=1048576)(h0:0<=letter)(h1:letter < 6)(outs:List Int)(hol:outs.length<=1099511627776) :
 Spec Tryz.prog TB 261 [(0,.cells 3 1 (outs.map AP))] 1 [Ub l,eI .i64 node,eI .i64 letter,.o (.arr 0 1 0 outs.length)]
  (λx σ nx=>x=.o (.arr 1 1 0 (outs++DN (l.map (·.st)) (VI l node letter)).length)/\nx=2/\σ=[(1,.cells 3 1 ((outs++DN (l.map (·.st)) (VI l node letter)).map AP))]):=by
 have hch:=Qx h hl h0 h1 node
 have hpos:∀z∈l.map (·.st),1<=z/\z<=16:=by
  intro z hz;obtain⟨s,F,rfl⟩:=d8.1 hz;have:=AQ (h s F);omega
 have w:∀k,1<=Au ((l.map (·.st)).drop k)/\Au ((l.map (·.st)).drop k)<=4096:=by
  intro k;have h2:=Hf ((l.map (·.st)).drop k) λz hz=>hpos z (mK hz)
  have h3:(16:Int) ^ ((l.map (·.st)).drop k).length<=4096:=by
   have:((l.map (·.st)).drop k).length<=3:=by simp;omega
   generalize ((l.map (·.st)).drop k).length=n at this
   have:n=0\/n=1\/n=2\/n=3:=by omega
   rcases this with rfl|rfl|rfl|rfl<;>decide
  omega
 have H:=λk=>QM (hch.drop k);have hget:=λ(k:Nat) (s:Sys) (F:l[k]? = some s)=>cg F node letter;generalize VI l node letter=cs at *
 have hzs:∀(k:Nat) (s:Sys),l[k]? = some s->(l.map (·.st))[k]? = some s.st:=λk s F=>by simp [F]
 have T:(l.map (·.st)).length=l.length:=by simp
 generalize l.map (·.st)=zs at *;have hcl:=hch.len;refine eN Tryz.func261 rfl (by kernel_rfl) rfl ?_;intro Z c;(repeat first |refine sN rfl ?_ |((first|refine sM rfl ?_ ?_|refine s4 rfl ‹_› rfl ?_ ?_);first|exact tI|omega|simp only[oZ] at *;omega) |refine s2 rfl λ_ b=>?_ |refine s3 rfl ?_ ?_<;>rintro rfl |refine aU rfl ?_ |refine Aa ?_ |refine rE (by kernel_rfl) ?_);(refine Ai rfl ?_;refine Cv (λ_ _=>C4 rfl rfl rfl) rfl ?_);(refine Ai rfl ?_;refine Cv (λ_ _=>Cy rfl) rfl ?_);(repeat first |refine sN rfl ?_ |((first|refine sA rfl ?_ ?_|refine s4 rfl ‹_› rfl ?_ ?_);first|exact tI|omega|simp only[oZ] at *;omega) |refine s2 rfl λ_ b=>?_ |refine s3 rfl ?_ ?_<;>rintro rfl |refine aU rfl ?_ |refine Aa ?_ |refine rE (by kernel_rfl) ?_);refine aB ?_;refine Aj.A6 (α:={k:Nat // k<=l.length}) (λ⟨k,hk⟩=>[(1,eI .i64 (node / Au (zs.drop k))),(2,eI .i64 letter),(3,.o (.arr 0 1 0 outs.length)),(4,.o (.ip (Gc l))),(9,Av (DN (zs.drop k) (cs.drop k))),(10,eI .i64 (Au (zs.drop k))),(11,eI .i64 ((k:Int) - 1))]) (λ⟨k,hk⟩=>[(0,.cells 3 1 (outs.map AP))]) 1 (λ⟨k,hk⟩=>k) (⟨l.length,by omega⟩) [0] (Ea c rfl rfl) (by ((repeat' first|exact tI|rfl|refine And.intro ?_ ?_)<;>(simp[cX,zC,c,mH,T,hcl.symm,Au,DN]))) ?_;rintro⟨k,hk⟩;(try dsimp only);(repeat first |refine sN rfl ?_ |((first|refine sM rfl ?_ ?_|refine s4 rfl ‹_› rfl ?_ ?_);first|exact tI|omega|simp only[oZ] at *;omega) |refine s2 rfl λ_ b=>?_ |refine s3 rfl ?_ ?_<;>rintro rfl |refine aU rfl ?_ |refine Aa ?_ |refine rE (by kernel_rfl) ?_);(refine aC rfl ?_ ?_<;>rintro⟨⟩)
 ·obtain⟨k,rfl⟩:∃k',k=k'+1:=⟨k - 1,by first|omega|simp only[oZ] at *;omega⟩
  obtain⟨s,F⟩:=get_some (l:=l) (k:=k) (by first|omega|simp only[oZ] at *;omega)
  have hs':(l.map AJ)[(((k+1:Nat):Int) - 1).toNat]? = some (AJ s):=by simp [F]
  have hm':(l.map QQ)[(((k+1:Nat):Int) - 1).toNat]? = some (QQ s):=by simp [F]
  have B:=h s (co F);have hsh:=AQ B;have hz:=hzs k s F;have hck:=hget k s F;have e:=XK hz hck;have G:=UG hz;have M:=w (k+1);have hpr0:=w k;have hlk:=H (k+1);have P:=(H k).2;rw [e] at P
  have hnd:node / Au (zs.drop k)=node / Au (zs.drop (k+1)) / s.st:=by
   rw [G,nQ,nB (by omega)]
  have hn2:0<=node / Au (zs.drop (k+1)):=mR hn0 (by omega);have hn3:node / Au (zs.drop (k+1))<=node:=nc _ hn0;rw [G] at hpr0;generalize Au (zs.drop (k+1))=W at *;generalize DN (zs.drop (k+1)) (cs.drop (k+1))=low at *;generalize node / W=nd at *
  have I:0<=nd % s.st/\nd % s.st < s.st:=⟨mq _ (by omega),mc _ (by omega)⟩
  refine aK ?_;refine aS (aB ?_);(repeat first |refine sN rfl ?_ |((first|refine sA rfl ?_ ?_|refine s4 rfl ‹_› rfl ?_ ?_);first|exact tI|omega|simp only[oZ] at *;omega) |refine s2 rfl λ_ b=>?_ |refine s3 rfl ?_ ?_<;>rintro rfl |refine aU rfl ?_ |refine Aa ?_)
  have X:∃to,to=BF s (nd % s.st) letter/\(AR s.al letter.toNat=false->to=[nd % s.st])/\(AR s.al letter.toNat=true->to=Lh s.es (nd % s.st).toNat letter.toNat):=by
   refine⟨_,rfl,λhb=>?_,λhb=>?_⟩
   ·unfold BF;rw [if_neg (by simp [hb])]
   ·rw [Yz hb];congr 1<;>omega
  have v:∀x∈BF s (nd % s.st) letter,0<=x/\x < s.st:=λx p=>IL B I.1 I.2 p;have J:=LZ B (l:=letter) I.1 I.2;obtain⟨to,X,hto0,hto1⟩:=X;rw [<-X] at v J e P
  have hmem:AR s.al letter.toNat=true->Pure Tryz.prog TB 286 [eI .i64 (BE (Lh s.es (nd % s.st).toNat letter.toNat):Nat)] (Av (Lh s.es (nd % s.st).toNat letter.toNat)):=λhb=>by
   have h2:=ES B s.es.length (nd % s.st).toNat letter.toNat;have h3:=λx p=>Mc B (k:=s.es.length) (f:=(nd % s.st).toNat) (l:=letter.toNat) (x:=x) p;rw [i7] at h2 h3
   exact Uy _ h2 λx p=>by have:=h3 x p;omega
  have hld:=ZM (es:=s.es) (q:=nd % s.st) (l:=letter) ⟨I.1,by omega⟩ ⟨h0,h1⟩
  have R:hasB s.al letter=AR s.al letter.toNat:=by simp [hasB,h0]
  (repeat first |refine sN rfl ?_ |((first|refine sM rfl ?_ ?_|refine s4 rfl ‹_› rfl ?_ ?_);first|exact tI|omega|simp only[oZ] at *;omega) |refine s2 rfl λ_ b=>?_ |refine s3 rfl ?_ ?_<;>rintro rfl |refine aU rfl ?_ |refine Aa ?_);(repeat first |refine sN rfl ?_ |((first|refine sA rfl ?_ ?_|refine s4 rfl ‹_› rfl ?_ ?_);first|exact tI|omega|simp only[oZ] at *;omega) |refine s2 rfl λ_ b=>?_ |(refine sC rfl (Ly _ _) ?_;intro _ b) |refine s3 rfl ?_ ?_<;>rintro rfl |refine aU rfl ?_ |refine Aa ?_ |refine rE (by kernel_rfl) ?_)
  have N:node / (s.st*W)=nd / s.st:=by rw [<-G];exact hnd
  have S:W*s.st=s.st*W:=nQ _ _
  have Q:∀m,(((to.take m).flatMap λq=>low.map λr=>q*W+r).length:Int)<=1048576:=by
   intro m;have h2:=Kk (to.take m) (λq=>low.map λr=>q*W+r) 4096 (λx _=>by simp;omega)
   have h3:(to.take m).length<=to.length:=by simp;omega
   omega
  (refine aC rfl ?_ ?_<;>rintro⟨⟩)
  ·have hb:AR s.al letter.toNat=true:=by rw [<-R];exact b
   have K:=hmem hb;have t:=hto1 hb;(repeat first |refine sN rfl ?_ |((first|refine sM rfl ?_ ?_|refine s4 rfl ‹_› rfl ?_ ?_);first|exact tI|omega|simp only[oZ] at *;omega) |refine s2 rfl λ_ b=>?_ |refine sP rfl (K) rfl ?_|(refine Ai rfl ?_;refine gA rfl ?_;first|refine gS (λ_ _=>Da rfl hld) ?_) |refine s3 rfl ?_ ?_<;>rintro rfl |refine aU rfl ?_ |refine Aa ?_ |refine rE (by kernel_rfl) ?_);(refine pW rfl ?_ rfl (by rfl);refine Gx 1 3 ?_);(repeat first |refine sN rfl ?_ |((first|refine sM rfl ?_ ?_|refine s4 rfl ‹_› rfl ?_ ?_);first|exact tI|omega|simp only[oZ] at *;omega) |refine s2 rfl λ_ b=>?_ |refine s3 rfl ?_ ?_<;>rintro rfl |refine aU rfl ?_ |refine Aa ?_ |refine rE (by kernel_rfl) ?_);refine aB ?_;refine Aj.A6 (α:={m:Nat // m<=to.length}) (λ⟨m,K⟩=>[(1,eI .i64 nd),(2,eI .i64 letter),(3,.o (.arr 0 1 0 outs.length)),(4,.o (.ip (Gc l))),(9,Av low),(10,eI .i64 W),(11,eI .i64 (((k+1:Nat):Int) - 1)),(12,.o (.ptr 1 3 0 0)),(14,.o (.arr 2 1 0 ((to.take m).flatMap λq=>low.map λr=>q*W+r).length)),(57,Av to),(58,eI .i64 to.length),(59,eI .i64 m)]) (λ⟨m,K⟩=>[(0,.cells 3 1 (outs.map AP)),(1,.cells 25 3 [[.d (iD s.al),.d (iD s.st),.d (Ej s.es)]]),(2,.cells 3 1 (((to.take m).flatMap λq=>low.map λr=>q*W+r).map AP))]) 3 (λ⟨m,K⟩=>to.length - m) (⟨0,by omega⟩) [0,1,2] (Ea c rfl rfl) (by ((repeat' first|exact tI|rfl|refine And.intro ?_ ?_)<;>(simp[cX,zC,c,Af,eC,t]))) ?_;rintro⟨m,K⟩;(try dsimp only);clear t
   have A:∀x,to[m]? = some x->(to.take (m+1)).flatMap (λq=>low.map λr=>q*W+r)=(to.take m).flatMap (λq=>low.map λr=>q*W+r)++low.map λr=>x*W+r:=λx p=>by
    rw [gt,p];simp
   have hlm:=Q m;generalize u:(to.take m).flatMap (λq=>low.map λr=>q*W+r)=pre at *;(repeat first |refine sN rfl ?_ |((first|refine sM rfl ?_ ?_|refine s4 rfl ‹_› rfl ?_ ?_);first|exact tI|omega|simp only[oZ] at *;omega) |refine s2 rfl λ_ b=>?_ |refine s3 rfl ?_ ?_<;>rintro rfl |refine aU rfl ?_ |refine Aa ?_ |refine rE (by kernel_rfl) ?_);(refine aC rfl ?_ ?_<;>rintro⟨⟩)
   ·obtain⟨x,p⟩:=get_some (l:=to) (k:=m) (by first|omega|simp only[oZ] at *;omega)
    have hx':=get_map (g:=BB) p;have V:=v x (co p);have A:=A x p;refine aK ?_;refine aS (aB ?_);(repeat first |refine sN rfl ?_ |((first|refine sM rfl ?_ ?_|refine s4 rfl ‹_› rfl ?_ ?_);first|exact tI|omega|simp only[oZ] at *;omega) |refine s2 rfl λ_ b=>?_ |refine s3 rfl ?_ ?_<;>rintro rfl |refine aU rfl ?_ |refine Aa ?_ |refine rE (by kernel_rfl) ?_);refine aB ?_;refine Aj.A6 (α:={j:Nat // j<=low.length}) (λ⟨j,Y⟩=>[(1,eI .i64 nd),(2,eI .i64 letter),(3,.o (.arr 0 1 0 outs.length)),(4,.o (.ip (Gc l))),(9,Av low),(10,eI .i64 W),(11,eI .i64 (((k+1:Nat):Int) - 1)),(12,.o (.ptr 1 3 0 0)),(14,.o (.arr 2 1 0 (pre.length+j))),(57,Av to),(58,eI .i64 to.length),(59,eI .i64 m),(16,eI .i64 x),(63,Av low),(64,eI .i64 low.length),(65,eI .i64 j)]) (λ⟨j,Y⟩=>[(0,.cells 3 1 (outs.map AP)),(1,.cells 25 3 [[.d (iD s.al),.d (iD s.st),.d (Ej s.es)]]),(2,.cells 3 1 ((pre++(low.take j).map λr=>x*W+r).map AP))]) 3 (λ⟨j,Y⟩=>low.length - j) (⟨0,by omega⟩) [0,1,2] (Ea c rfl rfl) (by ((repeat' first|exact tI|rfl|refine And.intro ?_ ?_)<;>(simp[cX,zC,c]))) ?_;rintro⟨j,Y⟩;(try dsimp only);(repeat first |refine sN rfl ?_ |((first|refine sM rfl ?_ ?_|refine s4 rfl ‹_› rfl ?_ ?_);first|exact tI|omega|simp only[oZ] at *;omega) |refine s2 rfl λ_ b=>?_ |refine s3 rfl ?_ ?_<;>rintro rfl |refine aU rfl ?_ |refine Aa ?_ |refine rE (by kernel_rfl) ?_);(refine aC rfl ?_ ?_<;>rintro⟨⟩)
    ·obtain⟨y,U⟩:=get_some (l:=low) (k:=j) (by first|omega|simp only[oZ] at *;omega)
     have hy':=get_map (g:=BB) U;have hyb:=hlk.1 y (co U)
     have h16:0<=x*W/\x*W<=65536:=⟨l4 V.1 (by omega),by
      have h5:x*W<=16*4096:=l3 (by omega) M.2 (by omega) (by omega)
      omega⟩
     refine aK ?_;refine aS (aB ?_);(repeat first |refine sN rfl ?_ |((first|refine sA rfl ?_ ?_|refine s4 rfl ‹_› rfl ?_ ?_);first|exact tI|omega|simp only[oZ] at *;omega) |refine s2 rfl λ_ b=>?_ |refine s3 rfl ?_ ?_<;>rintro rfl |refine aU rfl ?_ |refine Aa ?_ |refine rE (by kernel_rfl) ?_);(refine pW rfl ?_ rfl (by rfl);refine Aw rfl rfl rfl (by first|(simp;done)|(simp;(first|omega|simp only[oZ] at *;omega))) rfl (by intro r L;simp at L;subst L;rfl) (by rfl) (am rfl) (by simp;first|omega|simp only[oZ] at *;omega) ?_);(repeat first |refine sN rfl ?_ |((first|refine sX rfl ?_ ?_|refine s4 rfl ‹_› rfl ?_ ?_);first|exact tI|omega|simp only[oZ] at *;omega) |refine s2 rfl λ_ b=>?_ |refine s3 rfl ?_ ?_<;>rintro rfl |refine aU rfl ?_ |refine Aa ?_ |refine rE (by kernel_rfl) ?_);refine⟨⟨j+1,by first|omega|simp only[oZ] at *;omega⟩,by dsimp only;(first|omega|simp only[oZ] at *;omega),[0,1,3],?_⟩;simp[cX,zC,c,gt,U,lX]
    ·obtain rfl:j=low.length:=by first|omega|simp only[oZ] at *;omega
     rw [i7];refine aE ?_;(repeat first |refine sN rfl ?_ |((first|refine sM rfl ?_ ?_|refine s4 rfl ‹_› rfl ?_ ?_);first|exact tI|omega|simp only[oZ] at *;omega) |refine s2 rfl λ_ b=>?_ |refine s3 rfl ?_ ?_<;>rintro rfl |refine aU rfl ?_ |refine Aa ?_ |refine rE (by kernel_rfl) ?_);refine⟨⟨m+1,by first|omega|simp only[oZ] at *;omega⟩,by dsimp only;(first|omega|simp only[oZ] at *;omega),[0,1,2],?_⟩;simp[cX,zC,c,A]
   ·obtain rfl:m=to.length:=by first|omega|simp only[oZ] at *;omega
    rw [i7] at u;rw [u] at e;subst e;refine aE ?_;refine Aj.freeze [2] [(1,eI .i64 nd),(2,eI .i64 letter),(3,.o (.arr 0 1 0 outs.length)),(4,.o (.ip (Gc l))),(10,eI .i64 W),(11,eI .i64 (((k+1:Nat):Int) - 1)),(12,.o (.ptr 1 3 0 0)),(14,Av (DN (zs.drop k) (cs.drop k)))] ⟨⟨_,rfl,.AL⟩,⟨_,rfl,.AL⟩,⟨_,rfl,.AL⟩,⟨_,rfl,.AL⟩,⟨_,rfl,.AL⟩,⟨_,rfl,.AL⟩,⟨_,rfl,.AL⟩,⟨_,rfl,.o (.full (by simp) rfl (by simp [d6]) (by simp))⟩,trivial⟩ ?_;(repeat first |refine sN rfl ?_ |((first|refine sM rfl ?_ ?_|refine s4 rfl ‹_› rfl ?_ ?_);first|exact tI|omega|simp only[oZ] at *;omega) |refine s2 rfl λ_ b=>?_ |refine s3 rfl ?_ ?_<;>rintro rfl |refine aU rfl ?_ |refine Aa ?_ |refine rE (by kernel_rfl) ?_);refine⟨⟨k,by first|omega|simp only[oZ] at *;omega⟩,by dsimp only;(first|omega|simp only[oZ] at *;omega),[0],?_⟩;simp[cX,zC,c,N,G,S,BP]
  ·have hb:AR s.al letter.toNat=false:=by rw [<-R];exact b
   have t:=hto0 hb;refine aK ?_;(repeat first |refine sN rfl ?_ |((first|refine sM rfl ?_ ?_|refine s4 rfl ‹_› rfl ?_ ?_);first|exact tI|omega|simp only[oZ] at *;omega) |refine s2 rfl λ_ b=>?_ |refine s3 rfl ?_ ?_<;>rintro rfl |refine aU rfl ?_ |refine Aa ?_ |refine rE (by kernel_rfl) ?_);(refine pW rfl ?_ rfl (by rfl);refine Gx 1 3 ?_);(repeat first |refine sN rfl ?_ |((first|refine sM rfl ?_ ?_|refine s4 rfl ‹_› rfl ?_ ?_);first|exact tI|omega|simp only[oZ] at *;omega) |refine s2 rfl λ_ b=>?_ |refine s3 rfl ?_ ?_<;>rintro rfl |refine aU rfl ?_ |refine Aa ?_ |refine rE (by kernel_rfl) ?_);refine aB ?_;refine Aj.A6 (α:={m:Nat // m<=to.length}) (λ⟨m,K⟩=>[(1,eI .i64 nd),(2,eI .i64 letter),(3,.o (.arr 0 1 0 outs.length)),(4,.o (.ip (Gc l))),(9,Av low),(10,eI .i64 W),(11,eI .i64 (((k+1:Nat):Int) - 1)),(12,.o (.ptr 1 3 0 0)),(14,.o (.arr 2 1 0 ((to.take m).flatMap λq=>low.map λr=>q*W+r).length)),(57,Av to),(58,eI .i64 to.length),(59,eI .i64 m)]) (λ⟨m,K⟩=>[(0,.cells 3 1 (outs.map AP)),(1,.cells 25 3 [[.d (iD s.al),.d (iD s.st),.d (Ej s.es)]]),(2,.cells 3 1 (((to.take m).flatMap λq=>low.map λr=>q*W+r).map AP))]) 3 (λ⟨m,K⟩=>to.length - m) (⟨0,by omega⟩) [0,1,2] (Ea c rfl rfl) (by ((repeat' first|exact tI|rfl|refine And.intro ?_ ?_)<;>(simp[cX,zC,c,Af,eC,t]))) ?_;rintro⟨m,K⟩;(try dsimp only);clear t
   have A:∀x,to[m]? = some x->(to.take (m+1)).flatMap (λq=>low.map λr=>q*W+r)=(to.take m).flatMap (λq=>low.map λr=>q*W+r)++low.map λr=>x*W+r:=λx p=>by
    rw [gt,p];simp
   have hlm:=Q m;generalize u:(to.take m).flatMap (λq=>low.map λr=>q*W+r)=pre at *;(repeat first |refine sN rfl ?_ |((first|refine sM rfl ?_ ?_|refine s4 rfl ‹_› rfl ?_ ?_);first|exact tI|omega|simp only[oZ] at *;omega) |refine s2 rfl λ_ b=>?_ |refine s3 rfl ?_ ?_<;>rintro rfl |refine aU rfl ?_ |refine Aa ?_ |refine rE (by kernel_rfl) ?_);(refine aC rfl ?_ ?_<;>rintro⟨⟩)
   ·obtain⟨x,p⟩:=get_some (l:=to) (k:=m) (by first|omega|simp only[oZ] at *;omega)
    have hx':=get_map (g:=BB) p;have V:=v x (co p);have A:=A x p;refine aK ?_;refine aS (aB ?_);(repeat first |refine sN rfl ?_ |((first|refine sM rfl ?_ ?_|refine s4 rfl ‹_› rfl ?_ ?_);first|exact tI|omega|simp only[oZ] at *;omega) |refine s2 rfl λ_ b=>?_ |refine s3 rfl ?_ ?_<;>rintro rfl |refine aU rfl ?_ |refine Aa ?_ |refine rE (by kernel_rfl) ?_);refine aB ?_;refine Aj.A6 (α:={j:Nat // j<=low.length}) (λ⟨j,Y⟩=>[(1,eI .i64 nd),(2,eI .i64 letter),(3,.o (.arr 0 1 0 outs.length)),(4,.o (.ip (Gc l))),(9,Av low),(10,eI .i64 W),(11,eI .i64 (((k+1:Nat):Int) - 1)),(12,.o (.ptr 1 3 0 0)),(14,.o (.arr 2 1 0 (pre.length+j))),(57,Av to),(58,eI .i64 to.length),(59,eI .i64 m),(16,eI .i64 x),(63,Av low),(64,eI .i64 low.length),(65,eI .i64 j)]) (λ⟨j,Y⟩=>[(0,.cells 3 1 (outs.map AP)),(1,.cells 25 3 [[.d (iD s.al),.d (iD s.st),.d (Ej s.es)]]),(2,.cells 3 1 ((pre++(low.take j).map λr=>x*W+r).map AP))]) 3 (λ⟨j,Y⟩=>low.length - j) (⟨0,by omega⟩) [0,1,2] (Ea c rfl rfl) (by ((repeat' first|exact tI|rfl|refine And.intro ?_ ?_)<;>(simp[cX,zC,c]))) ?_;rintro⟨j,Y⟩;(try dsimp only);(repeat first |refine sN rfl ?_ |((first|refine sM rfl ?_ ?_|refine s4 rfl ‹_› rfl ?_ ?_);first|exact tI|omega|simp only[oZ] at *;omega) |refine s2 rfl λ_ b=>?_ |refine s3 rfl ?_ ?_<;>rintro rfl |refine aU rfl ?_ |refine Aa ?_ |refine rE (by kernel_rfl) ?_);(refine aC rfl ?_ ?_<;>rintro⟨⟩)
    ·obtain⟨y,U⟩:=get_some (l:=low) (k:=j) (by first|omega|simp only[oZ] at *;omega)
     have hy':=get_map (g:=BB) U;have hyb:=hlk.1 y (co U)
     have h16:0<=x*W/\x*W<=65536:=⟨l4 V.1 (by omega),by
      have h5:x*W<=16*4096:=l3 (by omega) M.2 (by omega) (by omega)
      omega⟩
     refine aK ?_;refine aS (aB ?_);(repeat first |refine sN rfl ?_ |((first|refine sA rfl ?_ ?_|refine s4 rfl ‹_› rfl ?_ ?_);first|exact tI|omega|simp only[oZ] at *;omega) |refine s2 rfl λ_ b=>?_ |refine s3 rfl ?_ ?_<;>rintro rfl |refine aU rfl ?_ |refine Aa ?_ |refine rE (by kernel_rfl) ?_);(refine pW rfl ?_ rfl (by rfl);refine Aw rfl rfl rfl (by first|(simp;done)|(simp;(first|omega|simp only[oZ] at *;omega))) rfl (by intro r L;simp at L;subst L;rfl) (by rfl) (am rfl) (by simp;first|omega|simp only[oZ] at *;omega) ?_);(repeat first |refine sN rfl ?_ |((first|refine sX rfl ?_ ?_|refine s4 rfl ‹_› rfl ?_ ?_);first|exact tI|omega|simp only[oZ] at *;omega) |refine s2 rfl λ_ b=>?_ |refine s3 rfl ?_ ?_<;>rintro rfl |refine aU rfl ?_ |refine Aa ?_ |refine rE (by kernel_rfl) ?_);refine⟨⟨j+1,by first|omega|simp only[oZ] at *;omega⟩,by dsimp only;(first|omega|simp only[oZ] at *;omega),[0,1,3],?_⟩;simp[cX,zC,c,gt,U,lX]
    ·obtain rfl:j=low.length:=by first|omega|simp only[oZ] at *;omega
     rw [i7];refine aE ?_;(repeat first |refine sN rfl ?_ |((first|refine sM rfl ?_ ?_|refine s4 rfl ‹_› rfl ?_ ?_);first|exact tI|omega|simp only[oZ] at *;omega) |refine s2 rfl λ_ b=>?_ |refine s3 rfl ?_ ?_<;>rintro rfl |refine aU rfl ?_ |refine Aa ?_ |refine rE (by kernel_rfl) ?_);refine⟨⟨m+1,by first|omega|simp only[oZ] at *;omega⟩,by dsimp only;(first|omega|simp only[oZ] at *;omega),[0,1,2],?_⟩;simp[cX,zC,c,A]
   ·obtain rfl:m=to.length:=by first|omega|simp only[oZ] at *;omega
    rw [i7] at u;rw [u] at e;subst e;refine aE ?_;refine Aj.freeze [2] [(1,eI .i64 nd),(2,eI .i64 letter),(3,.o (.arr 0 1 0 outs.length)),(4,.o (.ip (Gc l))),(10,eI .i64 W),(11,eI .i64 (((k+1:Nat):Int) - 1)),(12,.o (.ptr 1 3 0 0)),(14,Av (DN (zs.drop k) (cs.drop k)))] ⟨⟨_,rfl,.AL⟩,⟨_,rfl,.AL⟩,⟨_,rfl,.AL⟩,⟨_,rfl,.AL⟩,⟨_,rfl,.AL⟩,⟨_,rfl,.AL⟩,⟨_,rfl,.AL⟩,⟨_,rfl,.o (.full (by simp) rfl (by simp [d6]) (by simp))⟩,trivial⟩ ?_;(repeat first |refine sN rfl ?_ |((first|refine sM rfl ?_ ?_|refine s4 rfl ‹_› rfl ?_ ?_);first|exact tI|omega|simp only[oZ] at *;omega) |refine s2 rfl λ_ b=>?_ |refine s3 rfl ?_ ?_<;>rintro rfl |refine aU rfl ?_ |refine Aa ?_ |refine rE (by kernel_rfl) ?_);refine⟨⟨k,by first|omega|simp only[oZ] at *;omega⟩,by dsimp only;(first|omega|simp only[oZ] at *;omega),[0],?_⟩;simp[cX,zC,c,N,G,S,BP]
 ·obtain rfl:k=0:=by first|omega|simp only[oZ] at *;omega
  rw [mw,mw];have hl0:=(H 0).2;have hp0:=w 0;rw [mw,mw] at hl0;rw [mw] at hp0;refine aE ?_;(repeat first |refine sN rfl ?_ |((first|refine sM rfl ?_ ?_|refine s4 rfl ‹_› rfl ?_ ?_);first|exact tI|omega|simp only[oZ] at *;omega) |refine s2 rfl λ_ b=>?_ |refine s3 rfl ?_ ?_<;>rintro rfl |refine aU rfl ?_ |refine Aa ?_ |refine rE (by kernel_rfl) ?_);(refine pW rfl ?_ rfl (by rfl);refine Aw rfl rfl rfl (by first|(simp;done)|(simp;(first|omega|simp only[oZ] at *;omega))) rfl (by intro r L;simp at L;obtain⟨a,_,rfl⟩:=L;rfl) (by rfl) (am rfl) (by simp;first|omega|simp only[oZ] at *;omega) ?_);(repeat first |refine sN rfl ?_ |((first|refine sX rfl ?_ ?_|refine s4 rfl ‹_› rfl ?_ ?_);first|exact tI|omega|simp only[oZ] at *;omega) |refine s2 rfl λ_ b=>?_ |refine s3 rfl ?_ ?_<;>rintro rfl |refine aU rfl ?_ |refine Aa ?_ |refine rE (by kernel_rfl) ?_);refine Aj.names [0,1] [(8,.o (.arr 1 1 0 (outs++DN zs cs).length))] [(1,.cells 3 1 ((outs++DN zs cs).map AP))] (by intro i hi;rw [c] at hi;obtain rfl:i=0:=(by omega);rfl) (by simp) (by simp[cX,zC,c]) (by simp[cX,zC,c]) ?_;refine aR ⟨_,rfl,rfl,rfl,rfl⟩
end Go.Am
namespace Go.Am
open Go
structure MZ where
 p:Int
 l:Int
 ns:List Int
structure eE where
 seen:List Bool
 fresh:List Int
 found:Bool
def sn(seen:List Bool)(n:Int):Bool:=seen.getD n.toNat false
def TG(goal:Int->Bool)(st:eE)(n:Int):eE:=if sn st.seen n then st else ⟨st.seen.set n.toNat true,st.fresh++[n],st.found || goal n⟩
def RF(goal:Int->Bool)(seen:List Bool)(nodes:List Int):eE:=nodes.foldl (TG goal) ⟨seen,[],false⟩
theorem gf{seen:List Bool}{n m:Int}(a:0<=n/\n.toNat < seen.length)(b:0<=m):sn (seen.set n.toNat true) m=(sn seen m || decide (m=n)):=by
 unfold sn;by_cases h:m=n
 ·subst h;simp [List.getD,a.2]
 ·have:n.toNat≠m.toNat:=by omega
  simp [List.getD,mg this,h]
theorem count_set{seen:List Bool}{k:Nat}(h:seen[k]? = some false):(seen.set k true).count true=seen.count true+1:=by
 induction seen generalizing k with
 | nil=>simp at h
 | cons a l b=>
  cases k with
  | zero=>simp at h;subst h;simp
  | succ k=>
   have:=b (k:=k) (by simpa using h);simp only [List.set_cons_succ,List.count_cons,this];omega
structure gy (goal:Int->Bool) (N:Nat) (seen:List Bool) (nodes:List Int) (st:eE):Prop where
 len:st.seen.length=N
 snI:∀n:Int,0<=n->(sn st.seen n=true↔sn seen n=true\/n∈nodes)
 fr:∀n:Int,n∈st.fresh↔n∈nodes/\sn seen n=false
 nd:st.fresh.Nodup
 fd:st.found=st.fresh.any goal
 cnt:st.seen.count true=seen.count true+st.fresh.length
theorem Vi{goal:Int->Bool}{N:Nat}{seen:List Bool}{nodes:List Int}(r:seen.length=N)(j:∀n∈nodes,0<=n/\n < N):gy goal N seen nodes (RF goal seen nodes):=by
 have key : ∀ (l done:List Int) (st:eE),(∀n∈l,0<=n/\n < N)->(∀n∈done,0<=n)->gy goal N seen done st->gy goal N seen (done++l) (l.foldl (TG goal) st):=by
  intro l
  induction l with
  | nil=>intro done st _ _ h;simpa using h
  | cons a l p=>
   intro done st o s h;have ha:=o a (by simp);rw [mM,show done++a::l=(done++[a])++l by simp];refine p (done++[a]) _ (λn j=>o n (by simp [j])) (λn j=>by rcases f6.1 j with f|f;exact s n f;simp at f;omega) ?_;have m:=h.len
   have g:∀n:Int,n∈done++[a]↔n∈done\/n=a:=λn=>by simp
   unfold TG;by_cases b:sn st.seen a=true
   ·rw [if_pos b]
    have f:=(h.snI a ha.1).1 b;refine⟨h.len,λn i=>?_,λn=>?_,h.nd,h.fd,h.cnt⟩
    ·rw [h.snI n i,g]
     constructor
     ·rintro(c|c);exact .inl c;exact .inr (.inl c)
     ·rintro(c|c|rfl);exact .inl c;exact .inr c;exact f
    ·rw [h.fr n,g]
     constructor
     ·rintro⟨c,d⟩;exact⟨.inl c,d⟩
     ·rintro⟨c|rfl,d⟩
      ·exact⟨c,d⟩
      ·rcases f with f|f
       ·rw [f] at d;cases d
       ·exact⟨f,d⟩
   ·rw [if_neg b]
    have f:sn seen a=false/\a∉done:=by
     have c:¬(sn seen a=true\/a∈done):=λd=>b ((h.snI a ha.1).2 d);exact⟨by simpa using λd=>c (.inl d),λd=>c (.inr d)⟩
    have hk:st.seen[a.toNat]? = some false:=by
     unfold sn at b
     have:a.toNat < st.seen.length:=by omega
     simp [List.getD,this] at b;rw [d5 this,b]
    refine⟨by simpa using h.len,λn i=>?_,λn=>?_,?_,?_,?_⟩
    ·rw [gf ⟨ha.1,by omega⟩ i,g,lK,h.snI n i];simp;grind
    ·simp only [f6,oe,h.fr n]
     grind
    ·refine nJ.2 ⟨h.nd,by simp,λx q y k=>?_⟩
     simp at k;subst k;intro e;subst e;exact f.2 ((h.fr x).1 q).1
    ·simp [pB,h.fd]
    ·rw [count_set hk,h.cnt];simp;omega
 have:=key nodes [] ⟨seen,[],false⟩ j (by simp) ⟨r,λn _=>by simp,λn=>by simp,.nil,rfl,by simp⟩
 simpa [RF] using this
theorem PH:∀ {a b c:List Int},TJ a b->TJ b c->TJ a c
 | [],_,_,h,_=>h.elim
 | _::_,[],_,h,_=>h.elim
 | _::_,_::_,[],_,h=>h.elim
 | x::a,y::b,z::c,h,k=>by
  simp only [TJ] at *
  rcases h with h|⟨h,d⟩<;>rcases k with k|⟨k,k'⟩
  ·exact .inl (by omega)
  ·exact .inl (by omega)
  ·exact .inl (by omega)
  ·exact .inr ⟨by omega,PH d k'⟩
theorem QK:∀ {a:List Int},¬TJ a a
 | [],h=>h
 | x::a,h=>by rcases h with h|⟨_,h⟩;omega;exact QK h
theorem FA{a b c:List Int}(h:slt a b)(k:slt b c):slt a c:=by
 unfold slt at *
 rcases h with h|⟨h,d⟩<;>rcases k with k|⟨k,k'⟩
 ·exact .inl (by omega)
 ·exact .inl (by omega)
 ·exact .inl (by omega)
 ·exact .inr ⟨by omega,PH d k'⟩
theorem KO{a:List Int}:¬slt a a:=by
 rintro(h|⟨_,h⟩);omega;exact QK h
theorem Tn(a b:List Int):slt a b\/a=b\/slt b a:=by
 rcases ou a.length b.length with h|h|h
 ·exact .inl (.inl h)
 ·rcases QL h with c|c|c
  ·exact .inl (.inr ⟨h,c⟩)
  ·exact .inr (.inl c)
  ·exact .inr (.inr (.inr ⟨h.symm,c⟩))
 ·exact .inr (.inr (.inl h))
theorem WQ{a b:List Int}{l m:Int}(h:slt a b):slt (a++[l]) (b++[m]):=by
 rcases h with h|⟨h,c⟩
 ·exact .inl (by simp;omega)
 ·exact .inr ⟨by simp;omega,(IA h).2 (.inl c)⟩
theorem bz{a:List Int}{l m:Int}(h:l < m):slt (a++[l]) (a++[m]):=.inr ⟨by simp,(IA rfl).2 (.inr ⟨rfl,h⟩)⟩
theorem bB{a b:List Int}{l m:Int}:slt (a++[l]) (b++[m])->slt a b\/a=b/\l < m:=by
 intro h
 rcases Tn a b with c|c|c
 ·exact .inl c
 ·subst c
  rcases h with h|⟨h,e⟩
  ·simp at h
  ·rcases(IA rfl).1 e with d|d
   ·exact absurd d QK
   ·exact .inr d
 ·exact absurd (FA h (WQ c)) KO
theorem bA{a:List Int}{l:Int}:slt a (a++[l]):=.inl (by simp)
structure FI (g:Gr) (seen:List Bool) (steps:List MZ) (ws:List (List Int)) (i j:Nat):Prop where
 slen:seen.length=g.N
 wlen:ws.length=steps.length
 chain:∀(t:Nat) s,steps[t]? = some s->(s.p = -1/\ws[t]? = some [])\/∃(q:Nat) (w:List Int),s.p=(q:Int)/\q < t/\ws[q]? = some w/\ws[t]? = some (w++[s.l])/\s.l∈g.ls
 rch:∀(t:Nat) s w,steps[t]? = some s->ws[t]? = some w->∀n∈s.ns,reach g w g.s0 n
 ov:∀w∈ws,over g w
 min:∀(t:Nat) s w,steps[t]? = some s->ws[t]? = some w->∀n∈s.ns,∀u,over g u->slt u w->¬reach g u g.s0 n
 ord:ws.Pairwise slt
 par:∀w∈ws,w=[]\/∃(p:Nat) (v:List Int) (l:Int),ws[p]? = some v/\w=v++[l]/\l∈g.ls/\(p < i\/p=i/\∃j',j' < j/\g.ls[j']? = some l)
 snI:∀n:Int,0<=n->(sn seen n=true↔∃s∈steps,n∈s.ns)
 done:∀(t:Nat) s,steps[t]? = some s->∀l,(t < i/\l∈g.ls\/t=i/\∃j',j' < j/\g.ls[j']? = some l)->∀n∈s.ns,∀y∈g.succ n l,sn seen y=true
 nogoal:∀s∈steps,∀n∈s.ns,g.goal n=false
 inn:∀s∈steps,∀n∈s.ns,0<=n/\n < g.N
 start:sn seen g.s0=true
 cnt:steps.length<=seen.count true
 le:i<=steps.length
 nd:∀s∈steps,s.ns.Nodup
theorem FI.iq{g:Gr}{seen:List Bool}{steps:List MZ}{ws:List (List Int)}{i j:Nat}(h:FI g seen steps ws i j):steps.length<=g.N:=by
 have b:=h.cnt;have a:seen.count true<=seen.length:=List.count_le_length;rw [h.slen] at a;omega
theorem FI.dU{g:Gr}(I:HU g){seen:List Bool}{steps:List MZ}{ws:List (List Int)}{i j:Nat}(h:FI g seen steps ws i j){wi:List Int}{lj:Int}(J:ws[i]? = some wi)(Q:g.ls[j]? = some lj) :
 ∀(n:Nat) (u:List Int),u.length=n->over g u->slt u (wi++[lj])->∀x,reach g u g.s0 x->sn seen x=true:=by
 intro n
 induction n with
 | zero=>
  intro u B _ _ x p;have:u=[]:=lw.1 B;subst this;have p:g.s0=x:=p;rw [<-p];exact h.start
 | succ n L=>
  intro u B P w x p
  have q:u≠[]:=λe=>by subst e;simp at B
  obtain⟨v,l,rfl⟩:∃v l,u=v++[l]:=⟨u.dropLast,u.getLast q,(nS q).symm⟩
  obtain⟨m,H,F⟩:=DY.1 p;obtain⟨k,K⟩:=Fx.1 P;have G:=L v (by simpa using B) k (FA bA w) m H;have r:=Dt I k I.s0 H;obtain⟨s,N,c⟩:=(h.snI m r.1).1 G;obtain⟨t,ht⟩:=nt N;obtain⟨wt,a⟩:∃wt,ws[t]? = some wt:=get_some (by have:=(ce.1 ht).1;rw [h.wlen];exact this);have y:¬slt v wt:=λd=>h.min t s wt ht a m c v k d H;have f:=bB w
  have M:t<=i:=by
   rcases l9 i t with d|d
   ·exfalso
    obtain⟨V,U⟩:=ce.1 J;obtain⟨T,S⟩:=ce.1 a;have A:=(lI.1 h.ord) i t V T d;rw [U,S] at A
    rcases Tn v wt with o|o|o
    ·exact y o
    ·subst o
     rcases f with b|⟨b,_⟩
     ·exact KO (FA A b)
     ·subst b;exact KO A
    ·rcases f with b|⟨b,_⟩
     ·exact KO (FA (FA A o) b)
     ·subst b;exact KO (FA A o)
   ·exact d
  refine h.done t s ht l ?_ m c x F
  rcases l9 t i with d|d
  ·exact .inl ⟨d,K⟩
  ·have:t=i:=by omega
   subst this;rw [J] at a
   injection a with a
   subst a
   rcases f with b|⟨b,R⟩
   ·exact absurd b y
   ·obtain⟨j',z⟩:=nt K
    exact .inr ⟨rfl,j',Zv I.srt z Q R,z⟩
theorem Ch.found{g:Gr}(l:HU g){seen:List Bool}{steps:List MZ}{ws:List (List Int)}{i j:Nat}(h:FI g seen steps ws i j){wi:List Int}{lj:Int}(d:ws[i]? = some wi)(p:g.ls[j]? = some lj){n x:Int}{s:MZ}(r:steps[i]? = some s)(t:n∈s.ns)(q:x∈g.succ n lj)(k:g.goal x=true):Ch g (some (wi++[lj])):=by
 have v:=co p;refine⟨Fx.2 ⟨h.ov wi (co d),v⟩,⟨x,DY.2 ⟨n,h.rch i s wi r d n t,q⟩,k⟩,λu o w f=>?_⟩;obtain⟨y,m,a⟩:=w;have b:=h.dU l d p u.length u rfl o f y m;obtain⟨s',e,c⟩:=(h.snI y (Dt l o l.s0 m).1).1 b;rw [h.nogoal s' e y c] at a;cases a
theorem Ch.kV{g:Gr}(k:HU g){seen:List Bool}{steps:List MZ}{ws:List (List Int)}(h:FI g seen steps ws steps.length 0):Ch g none:=by
 have key:∀(n:Nat) (u:List Int),u.length=n->over g u->∀x,reach g u g.s0 x->sn seen x=true:=by
  intro n
  induction n with
  | zero=>
   intro u b _ x a;have:u=[]:=lw.1 b;subst this;have a:g.s0=x:=a;rw [<-a];exact h.start
  | succ n y=>
   intro u b z x a
   have d:u≠[]:=λe=>by subst e;simp at b
   obtain⟨v,l,rfl⟩:∃v l,u=v++[l]:=⟨u.dropLast,u.getLast d,(nS d).symm⟩
   obtain⟨m,w,p⟩:=DY.1 a;obtain⟨f,A⟩:=Fx.1 z;have r:=y v (by simpa using b) f m w;obtain⟨s,q,i⟩:=(h.snI m (Dt k f k.s0 w).1).1 r;obtain⟨t,ht⟩:=nt q;exact h.done t s ht l (.inl ⟨(ce.1 ht).1,A⟩) m i x p
 rintro u b ⟨x,a,j⟩;have o:=key u.length u rfl b x a;obtain⟨s,q,c⟩:=(h.snI x (Dt k b k.s0 a).1).1 o;rw [h.nogoal s q x c] at j;cases j
theorem FI.iz{g:Gr}{seen:List Bool}{steps:List MZ}{ws:List (List Int)}{i:Nat}(h:FI g seen steps ws i g.ls.length)(hi:i < steps.length):FI g seen steps ws (i+1) 0:=by
 refine⟨h.slen,h.wlen,h.chain,h.rch,h.ov,h.min,h.ord,λw f=>?_,h.snI,λt s j l k=>?_,h.nogoal,h.inn,h.start,h.cnt,by omega,h.nd⟩
 ·rcases h.par w f with b|⟨p,v,l,b,d,c,e⟩
  ·exact .inl b
  ·exact .inr ⟨p,v,l,b,d,c,.inl (by rcases e with e|⟨e,_⟩<;>omega)⟩
 ·refine h.done t s j l ?_
  rcases k with ⟨b,d⟩|⟨_,j',b,_⟩
  ·rcases l9 t i with c|c
   ·exact .inl ⟨c,d⟩
   ·obtain⟨j',a⟩:=nt d
    exact .inr ⟨by omega,j',(ce.1 a).1,a⟩
  ·omega
def Ex(steps:List MZ)(p l:Int)(fresh:List Int):List MZ:=if fresh=[] then steps else steps++[⟨p,l,fresh⟩]
def ko(ws:List (List Int))(w fresh:List Int):List (List Int):=if fresh=[] then ws else ws++[w]
structure Chain (ls:List Int) (steps:List MZ) (ws:List (List Int)):Prop where
 wlen:ws.length=steps.length
 chain:∀(t:Nat) s,steps[t]? = some s->(s.p = -1/\ws[t]? = some [])\/∃(q:Nat) (w:List Int),s.p=(q:Int)/\q < t/\ws[q]? = some w/\ws[t]? = some (w++[s.l])/\s.l∈ls
theorem Gp{α:Type}{l:List α}{x y:α}{t:Nat}(h:(l++[x])[t]? = some y):l[t]? = some y\/t=l.length/\y=x:=by
 rcases l9 t l.length with a|a
 ·rw [d9 a] at h;exact .inl h
 ·rw [em a] at h
  have b:=(ce.1 h).1;simp at b
  have:t=l.length:=by omega
  subst this;simp at h;exact .inr ⟨rfl,h.symm⟩
theorem IS{α:Type}{l:List α}{x y:α}{t:Nat}(h:l[t]? = some y):(l++[x])[t]? = some y:=by
 rw [d9 (ce.1 h).1];exact h
theorem Chain.app{ls:List Int}{steps:List MZ}{ws:List (List Int)}(h:Chain ls steps ws){i:Nat}{wi:List Int}{l:Int}{ns:List Int}(d:ws[i]? = some wi)(f:l∈ls):Chain ls (steps++[⟨i,l,ns⟩]) (ws++[wi++[l]]):=by
 have hi:=(ce.1 d).1;refine⟨by simp [h.wlen],λt s e=>?_⟩
 rcases Gp e with b|⟨b,a⟩
 ·rcases h.chain t s b with ⟨a,c⟩|⟨q,w,a,c,k,j,g⟩
  ·exact .inl ⟨a,IS c⟩
  ·exact .inr ⟨q,w,a,c,IS k,IS j,g⟩
 ·subst a
  refine .inr ⟨i,wi,rfl,?_,IS d,?_,f⟩
  ·rw [b,<-h.wlen];exact hi
  ·rw [b,<-h.wlen];simp
theorem FI.WY{g:Gr}{seen:List Bool}{steps:List MZ}{ws:List (List Int)}{i j:Nat}(h:FI g seen steps ws i j):Chain g.ls steps ws:=⟨h.wlen,h.chain⟩
theorem FI.visit{g:Gr}(Q:HU g){seen:List Bool}{steps:List MZ}{ws:List (List Int)}{i j:Nat}(h:FI g seen steps ws i j){wi:List Int}{lj:Int}(K:ws[i]? = some wi)(U:g.ls[j]? = some lj){s:MZ}(hs:steps[i]? = some s)
 {R:List Int} (hR:∀y,y∈R↔∃n∈s.ns,y∈g.succ n lj) {st:eE} (z:gy g.goal g.N seen R st) (hf:st.found=false):FI g st.seen (Ex steps i lj st.fresh) (ko ws (wi++[lj]) st.fresh) i (j+1):=by
 have hl:=co U
 have Y:∀y∈R,0<=y/\y < g.N:=λy J=>by
  obtain⟨n,e,J⟩:=(hR y).1 J;exact Q.inn n (h.inn s (co hs) n e) lj hl y J
 have q:∀n:Int,0<=n->sn seen n=true->sn st.seen n=true:=λn e hx=>(z.snI n e).2 (.inl hx)
 have S:∀n∈st.fresh,g.goal n=false:=λn e=>by
  have:=z.fd;rw [hf] at this;have o:=List.any_eq_false.1 this.symm n e
  simpa using o
 have L:∀w∈ws,w=[]\/∃(p:Nat) (v:List Int) (l:Int),ws[p]? = some v/\w=v++[l]/\l∈g.ls/\(p < i\/p=i/\∃j',j' < j+1/\g.ls[j']? = some l):=λw K=>by
  rcases h.par w K with c|⟨p,v,l,c,o,f,k⟩
  ·exact .inl c
  ·refine .inr ⟨p,v,l,c,o,f,?_⟩
   rcases k with k|⟨k,j',h5,h6⟩
   ·exact .inl k
   ·exact .inr ⟨k,j',by omega,h6⟩
 have I:∀(t:Nat) s',steps[t]? = some s'->∀l,(t < i/\l∈g.ls\/t=i/\∃j',j' < j+1/\g.ls[j']? = some l)->∀n∈s'.ns,∀y∈g.succ n l,sn st.seen y=true:=by
  intro t s' d l H n e y J
  have B:0<=y/\y < g.N:=by
   refine Q.inn n (h.inn s' (co d) n e) l ?_ y J
   rcases H with ⟨_,c⟩|⟨_,j',_,c⟩
   ·exact c
   ·exact co c
  rcases H with c|⟨c,j',o,f⟩
  ·exact q y B.1 (h.done t s' d l (.inl c) n e y J)
  ·subst c
   rcases nz.1 o with k|k
   ·exact q y B.1 (h.done t s' d l (.inr ⟨rfl,j',k,f⟩) n e y J)
   ·subst k
    rw [U] at f
    injection f with f
    subst f;rw [hs] at d
    injection d with d
    subst d;exact(z.snI y B.1).2 (.inr ((hR y).2 ⟨n,e,J⟩))
 unfold Ex ko;by_cases r:st.fresh=[]
 ·rw [if_pos r,if_pos r]
  have M:∀n:Int,0<=n->(sn st.seen n=true↔sn seen n=true):=λn e=>by
   rw [z.snI n e];refine⟨λc=>?_,.inl⟩
   rcases c with c|c
   ·exact c
   ·rcases Bool.eq_false_or_eq_true (sn seen n) with o|o
    ·exact o
    ·have:=(z.fr n).2 ⟨c,o⟩
     rw [r] at this;cases this
  refine⟨z.len,h.wlen,h.chain,h.rch,h.ov,h.min,h.ord,L,λn e=>by rw [M n e];exact h.snI n e,I,h.nogoal,h.inn,q _ Q.s0.1 h.start,?_,h.le,h.nd⟩;rw [z.cnt,r];exact h.cnt
 ·rw [if_neg r,if_neg r]
  have V:=h.WY.app (ns:=st.fresh) K hl;have x:∀n∈st.fresh,n∈R/\sn seen n=false:=λn e=>(z.fr n).1 e
  have X:∀w∈ws,slt w (wi++[lj]):=by
   intro w F
   rcases h.par w F with rfl|⟨p,v,l,c,rfl,f,k⟩
   ·exact .inl (by simp)
   ·rcases k with k|⟨k,j',h5,h6⟩
    ·obtain⟨a1,a2⟩:=ce.1 c
     obtain⟨b1,b2⟩:=ce.1 K;have h7:=(lI.1 h.ord) p i a1 b1 k;rw [a2,b2] at h7;exact WQ h7
    ·subst k
     rw [K] at c
     injection c with c
     subst c;obtain⟨a1,a2⟩:=ce.1 h6;obtain⟨b1,b2⟩:=ce.1 U;have h7:=(lI.1 Q.srt) j' j a1 b1 h5;rw [a2,b2] at h7;exact bz h7
  have P:∀n∈st.fresh,∃m∈s.ns,n∈g.succ m lj:=λn e=>(hR n).1 (x n e).1;refine⟨z.len,V.wlen,V.chain,λt s' w d G n e=>?_,λw F=>?_,λt s' w d G n e u hu T hr=>?_,?_,λw F=>?_,λn e=>?_,λt s' d l H n e y J=>?_,λs' d n e=>?_,λs' d n e=>?_,q _ Q.s0.1 h.start,?_,?_,λs' d=>?_⟩
  ·rcases Gp d with c|⟨c,o⟩
   ·rcases Gp G with f|⟨f,k⟩
    ·exact h.rch t s' w c f n e
    ·have:=(ce.1 c).1
     rw [h.wlen] at f;omega
   ·subst o
    rcases Gp G with f|⟨f,k⟩
    ·have:=(ce.1 f).1
     rw [h.wlen] at this;omega
    ·subst k
     obtain⟨m,hm,hnm⟩:=P n e;exact DY.2 ⟨m,h.rch i s wi hs K m hm,hnm⟩
  ·rcases f6.1 F with c|c
   ·exact h.ov w c
   ·simp at c;subst c
    exact Fx.2 ⟨h.ov wi (co K),hl⟩
  ·rcases Gp d with c|⟨c,o⟩
   ·rcases Gp G with f|⟨f,k⟩
    ·exact h.min t s' w c f n e u hu T hr
    ·have:=(ce.1 c).1
     rw [h.wlen] at f;omega
   ·subst o
    rcases Gp G with f|⟨f,k⟩
    ·have:=(ce.1 f).1
     rw [h.wlen] at this;omega
    ·subst k
     have:=h.dU Q K U u.length u rfl hu T n hr;rw [(x n e).2] at this;cases this
  ·refine mS.2 ⟨h.ord,by simp,λa ha b hb=>?_⟩
   simp at hb;subst hb;exact X a ha
  ·rcases f6.1 F with c|c
   ·rcases L w c with o|⟨p,v,l,o,f,k,h5⟩
    ·exact .inl o
    ·exact .inr ⟨p,v,l,IS o,f,k,h5⟩
   ·simp at c;subst c
    exact .inr ⟨i,wi,lj,IS K,rfl,hl,.inr ⟨rfl,j,by omega,U⟩⟩
  ·rw [z.snI n e,h.snI n e]
   constructor
   ·rintro(⟨s',d,A⟩|hnR)
    ·exact⟨s',lO _ d,A⟩
    ·rcases Bool.eq_false_or_eq_true (sn seen n) with o|o
     ·obtain⟨s',d,A⟩:=(h.snI n e).1 o
      exact⟨s',lO _ d,A⟩
     ·exact⟨⟨i,lj,st.fresh⟩,lV _ (by simp),(z.fr n).2 ⟨hnR,o⟩⟩
   ·rintro⟨s',d,A⟩
    rcases f6.1 d with c|c
    ·exact .inl ⟨s',c,A⟩
    ·simp at c;subst c
     exact .inr (x n A).1
  ·rcases Gp d with c|⟨c,o⟩
   ·exact I t s' c l H n e y J
   ·have:=(ce.1 hs).1
    rcases H with ⟨f,_⟩|⟨f,_⟩<;>omega
  ·rcases f6.1 d with c|c
   ·exact h.nogoal s' c n e
   ·simp at c;subst c;exact S n e
  ·rcases f6.1 d with c|c
   ·exact h.inn s' c n e
   ·simp at c;subst c;exact Y n (x n e).1
  ·have c:=z.cnt
   have o:=h.cnt;have f:0 < st.fresh.length:=o6.2 r;simp;omega
  ·have:=h.le;simp;omega
  ·rcases f6.1 d with c|c
   ·exact h.nd s' c
   ·simp at c;subst c;exact z.nd
theorem FI.init{g:Gr}(q:HU g){st:eE}(j:gy g.goal g.N (List.replicate g.N false) [g.s0] st)(r:st.found=false):st.fresh=[g.s0]/\FI g st.seen [⟨-1,0,[g.s0]⟩] [[]] 0 0:=by
 have hno:∀n,sn (List.replicate g.N false) n=false:=λn=>by
  unfold sn;by_cases h:n.toNat < g.N<;>simp [List.getD,h]
 have d:∀n,n∈st.fresh↔n=g.s0:=λn=>by rw [j.fr n];simp [hno]
 have k:st.fresh=[g.s0]:=by
  have i:=j.nd;generalize st.fresh=l at d i
  cases l with
  | nil=>have:=(d g.s0).2 rfl;cases this
  | cons a l=>
   have ha:=(d a).1 (by simp);subst ha
   cases l with
   | nil=>rfl
   | cons b l=>
    have hb:=(d b).1 (by simp);subst hb;simp at i
 refine⟨k,?_⟩
 have m:g.goal g.s0=false:=by
  have:=j.fd;rw [r,k] at this
  simpa using this.symm
 have one:∀(t:Nat) (s:MZ),[(⟨-1,0,[g.s0]⟩:MZ)][t]? = some s->t=0/\s=⟨-1,0,[g.s0]⟩:=λt s h=>by
  cases t with
  | zero=>simp at h;exact⟨rfl,h.symm⟩
  | succ t=>simp at h
 have one':∀(t:Nat) (w:List Int),[([]:List Int)][t]? = some w->w=[]:=λt w h=>by
  cases t with
  | zero=>exact(Option.some.inj h).symm
  | succ t=>simp at h
 refine⟨j.len,rfl,λt s c=>?_,λt s w c f n e=>?_,λw f=>?_,λt s w c f n e u _ o=>?_,by simp,λw f=>by simp at f;exact .inl f,λn e=>?_,λt s c l p n e y v=>?_,λs c n e=>?_,λs c n e=>?_,?_,?_,by simp,λs c=>?_⟩
 ·obtain⟨rfl,rfl⟩:=one t s c;exact .inl ⟨rfl,rfl⟩
 ·obtain⟨rfl,rfl⟩:=one t s c
  have:=one' 0 w f;subst this;simp at e;subst e;exact(rfl:g.s0=g.s0)
 ·simp at f;subst f;exact λl p=>(by cases p)
 ·have:=one' t w f
  subst this
  rcases o with i|⟨_,i⟩
  ·simp at i
  ·cases u<;>exact i.elim
 ·rw [j.snI n e];simp [hno]
 ·rcases p with ⟨i,_⟩|⟨_,j',i,_⟩<;>omega
 ·simp at c;subst c;simp at e;subst e;exact m
 ·simp at c;subst c;simp at e;subst e;exact q.s0
 ·exact(j.snI _ q.s0.1).2 (.inr (by simp))
 ·rw [j.cnt,k];simp
 ·simp at c;subst c;simp
theorem Ch.start{g:Gr}(h:g.goal g.s0=true):Ch g (some []):=
 ⟨λl c=>(by cases c),⟨g.s0,rfl,h⟩,λu _ _ a=>by rcases a with b|⟨_,b⟩;(simp at b);(cases u<;>exact b.elim)⟩
end Go.Am
namespace Go.Am
open Go Go.Proofs
set_option maxHeartbeats 1000000
set_option maxRecDepth 4000
attribute [local irreducible] AW BQ Lex A9 Aj Spec
variable {TB:Bp}
def Ev(bs:List UInt8)(k i:Nat):UInt8:=if i < k\/bs.length<=i+k then bs.getD (bs.length - 1 - i) 0 else bs.getD i 0
theorem gb(bs:List UInt8):(Bx bs.length λi=>Fq (Ev bs 0 i))=bs.map Fq:=by
 apply mZ;intro i;by_cases hi:i < bs.length
 ·rw [DA (g:=λi=>Fq (Ev bs 0 i)) hi]
  unfold Ev;rw [if_neg (by omega)];simp [List.getD,hi]
 ·rw [lQ (by simp [Bx];omega),lQ (by simp;omega)]
theorem aZ(bs:List UInt8){k:Nat}(hk:bs.length<=2*k+1):(Bx bs.length λi=>Fq (Ev bs k i))=bs.reverse.map Fq:=by
 apply mZ;intro i;by_cases hi:i < bs.length
 ·rw [DA (g:=λi=>Fq (Ev bs k i)) hi]
  unfold Ev
  have b:bs.reverse[i]? = some (bs.getD (bs.length - 1 - i) 0):=by
   rw [List.getElem?_reverse hi]
   have:bs.length - 1 - i < bs.length:=by omega
   simp [List.getD,this]
  rw [ge,b];by_cases a:i < k\/bs.length<=i+k
  ·rw [if_pos a];rfl
  ·rw [if_neg a]
   have:bs.length - 1 - i=i:=by omega
   rw [this];rfl
 ·rw [lQ (by simp [Bx];omega),lQ (by simp;omega)]
theorem WH(r:Nat->Nat)(l:List UInt8):(l.map Fq).map (C.Cj r)=l.map Fq:=by
 rw [mr];exact m9 λc _=>rfl
theorem Hh(r:Nat->Nat)(c:UInt8):C.Cj r (Fq c)=Fq c:=rfl
theorem Oo(r:Nat->Nat)(n:Nat)(H:Nat->UInt8):(Bx n λi=>Fq (H i)).map (C.Cj r)=Bx n λi=>Fq (H i):=by
 unfold Bx;rw [mr];exact m9 λi _=>rfl
theorem Kl{n q:Nat}{H:Nat->UInt8}(h:q < n):(Bx n λi=>Fq (H i))[0+((q:Nat):Int).toNat]? = some (Fq (H q)):=by
 rw [lE,i9];exact DA (g:=λi=>Fq (H i)) h
theorem Nr{n q:Nat}{H:Nat->UInt8}{c d:UInt8}:(Bx n λi=>Fq (H i)).set (0+((q:Nat):Int).toNat) (Af (Fq d) 0 (eC (eI .u8 (c.toNat:Nat))))=Bx n λi=>Fq (if i=q then c else H i):=by
 rw [lE,i9];have e:Af (Fq d) 0 (eC (eI .u8 (c.toNat:Nat)))=Fq c:=rfl;rw [e,LU];refine CU λi _=>?_;by_cases h:i=q<;>simp [h]
theorem UL(bs:List UInt8)(hb:bs.length<=1099511627776):Spec Tryz.prog TB 271 [(0,.cells 5 1 (bs.map Fq))] 1 [.o (.arr 0 1 0 bs.length)] (λx σ nx=>x=.t []/\nx=1/\σ=[(0,.cells 5 1 (bs.reverse.map Fq))]):=by
 refine eN Tryz.func271 rfl (by kernel_rfl) rfl ?_;intro Z b;(repeat first|(refine sM rfl ?_ ?_;first|exact tI|omega) |refine aU rfl ?_ |refine Aa ?_);refine aB ?_;refine Aj.A6 (α:={k:Nat // k<=bs.length}) (λ⟨k,hk⟩=>[(0,.o (.arr 0 1 0 bs.length)),(2,eI .i64 k),(3,eI .i64 ((bs.length:Int) - 1 - k))]) (λ⟨k,hk⟩=>[(0,.cells 5 1 (Bx bs.length λi=>Fq (Ev bs k i)))]) 1 (λ⟨k,hk⟩=>bs.length - k) (⟨0,by omega⟩) [0] (Ea b rfl rfl) (by (simp[cX,zC,b,Oo,gb,Hh])) ?_;rintro⟨k,hk⟩;(try dsimp only);(repeat first|refine tM rfl ?_ |refine s2 rfl λ_ B=>?_ |refine aU rfl ?_ |refine Aa ?_);(refine aC rfl ?_ ?_<;>rintro⟨⟩)
 ·have u:2*k+1 < bs.length:=by (simp only[oZ] at *;omega)
  obtain⟨m,F⟩:∃m:Nat,m=bs.length - 1 - k:=⟨_,rfl⟩
  have A:(bs.length:Int) - 1 - k=((m:Nat):Int):=by omega
  have l:Ev bs k k=bs.getD k 0:=by unfold Ev;rw [if_neg (by omega)]
  have h:Ev bs k m=bs.getD m 0:=by unfold Ev;rw [if_neg (by omega)]
  have w:=Kl (H:=Ev bs k) (q:=k) (n:=bs.length) (by omega);have v:=Kl (H:=Ev bs k) (q:=m) (n:=bs.length) (by omega);have e:=Nr (n:=bs.length) (q:=k) (H:=Ev bs k) (c:=Ev bs k m) (d:=Ev bs k k);have a:=Kl (H:=λi=>if i=k then Ev bs k m else Ev bs k i) (q:=m) (n:=bs.length) (by omega);have f:=Nr (n:=bs.length) (q:=m) (H:=λi=>if i=k then Ev bs k m else Ev bs k i) (c:=Ev bs k k) (d:=Ev bs k m)
  have g:m≠k:=by omega
  rw [if_neg g] at a
  have y:(Bx bs.length λi=>Fq (if i=m then Ev bs k k else if i=k then Ev bs k m else Ev bs k i))=Bx bs.length λi=>Fq (Ev bs (k+1) i):=CU λi hi=>by
   congr 1;by_cases s:i=m
   ·subst s;rw [if_pos rfl,l];unfold Ev;rw [if_pos (by omega)];congr 1;omega
   ·rw [if_neg s]
    by_cases r:i=k
    ·subst r;rw [if_pos rfl,h];unfold Ev;rw [if_pos (by omega)];congr 1
    ·rw [if_neg r];unfold Ev
     by_cases p:i < k\/bs.length<=i+k
     ·rw [if_pos p,if_pos (by omega)]
     ·rw [if_neg p,if_neg (by omega)]
  rw [<-e] at a;rw [A];refine aK ?_;refine aS (aB ?_);refine rG (kX [13,15] [2,3]) (by kernel_rfl) ?_;(repeat first|(refine sM rfl ?_ ?_;first|exact tI|omega) |refine t4 rfl ‹_› rfl ?_ |refine aU rfl ?_ |refine Aa ?_);refine⟨⟨k+1,by omega⟩,by dsimp only;(omega),[0],?_⟩;rw [e,f,y]
  have z:(m:Int) - 1=bs.length - 1 - (k+1):=by omega
  simp[cX,zC,b,Oo,z]
 ·have j:bs.length<=2*k+1:=by (simp only[oZ] at *;omega)
  rw [aZ bs j];exact aE ⟨_,rfl,rfl,rfl,rfl⟩
abbrev ep(s:MZ):List D:=[iD s.p,iD s.l,EB s.ns]
abbrev OD(s:MZ):List C:=[.d (iD s.p),.d (iD s.l),.d (EB s.ns)]
abbrev bE(l:List MZ):D:=.l (l.map ep)
theorem XI{l:Int}(e:0<=l)(c:l < 6):Fq (UInt8.ofNat (97+l.toNat))=[.d (.v (.int .u8 (97+l)))]:=by
 have b:(97+l.toNat) % 256=97+l.toNat:=lW (by omega)
 have a:(97+l:Int)=((97+l.toNat:Nat):Int):=by omega
 simp [Fq,b,a]
theorem dO(o:List Int):(CA o).reverse=CA o.reverse:=by simp [CA]
theorem SO{ls:List Int}{steps:List MZ}{ws:List (List Int)}(h:Chain ls steps ws)(I:∀l∈ls,0<=l/\l < 6){w:List Int}(n:1<=steps.length/\steps.length<=2097152)(P:ws[steps.length - 1]? = some w):Pure Tryz.prog TB 215 [.o (.d (bE steps))] (eT (CA w)):=by
 refine eN Tryz.func215 rfl (by kernel_rfl) rfl ?_;intro Z a;(repeat first|refine tM rfl ?_ |refine aU rfl ?_ |refine Aa ?_);(refine pW rfl ?_ rfl (by rfl);refine Gx 1 5 ?_);(repeat first|refine sN rfl ?_ |(refine sM rfl ?_ ?_;first|exact tI|omega) |refine aU rfl ?_ |refine Aa ?_);refine aB ?_;refine Aj.A6 (α:={x:Nat×List Int // x.1+x.2.length < steps.length/\∃v,ws[x.1]? = some v/\w=v++x.2.reverse}) (λ⟨⟨i,o⟩,z⟩=>[(0,.o (.d (bE steps))),(3,.o (.arr 0 1 0 o.length)),(4,eI .i64 i)]) (λ⟨⟨i,o⟩,z⟩=>[(0,.cells 5 1 ((CA o).map Fq))]) 1 (λ⟨⟨i,o⟩,z⟩=>i) (⟨(steps.length - 1,[]),by simp;omega,w,P,by simp⟩) [0] (Ea a rfl rfl) (by (simp[cX,zC,a,CA,Int.ofNat_sub,n.1])) ?_;rintro⟨⟨i,o⟩,z⟩;(try dsimp only);obtain⟨hi,v,B,b⟩:=z;simp only at hi B b;obtain⟨s,K⟩:=get_some (l:=steps) (k:=i) (by omega);have R:=get_map (g:=ep) K;have t:=h.chain i s K
 have G:(CA o).length=o.length:=by simp [CA]
 (repeat first|refine tM rfl ?_ |(refine s4 rfl ‹_› rfl ?_ ?_;omega) |refine s2 rfl λ_ V=>?_ |refine aU rfl ?_ |refine Aa ?_);(refine aC rfl ?_ ?_<;>rintro⟨⟩)
 ·obtain⟨q,u,T,S,H,y,U⟩:∃(q:Nat) (u:List Int),s.p=(q:Int)/\q < i/\ws[q]? = some u/\ws[i]? = some (u++[s.l])/\s.l∈ls:=by
   rcases t with ⟨e,_⟩|e
   ·exfalso;(simp only[oZ] at *;omega)
   ·exact e
  have c:=I _ U;rw [B] at y
  injection y with y
  have J:=XI c.1 c.2
  have F:CA (o++[s.l])=CA o++[UInt8.ofNat (97+s.l.toNat)]:=by simp [CA]
  have j:(CA (o++[s.l])).map Fq=(CA o).map Fq++[[.d (.v (.int .u8 (97+s.l)))]]:=by rw [F,mn,mt,J];rfl
  refine aK ?_;refine aS (aB ?_);(repeat first|refine tA rfl ?_ |(refine s4 rfl ‹_› rfl ?_ ?_;omega) |refine sP rfl (EU s.l c.1 (by omega)) rfl ?_ |refine aU rfl ?_);(refine pW rfl ?_ rfl (by rfl);refine Aw rfl rfl rfl (by first| (simp;done)|(simp;(omega))) rfl (by intro r L;simp at L;subst L;rfl) (by rfl) (am rfl) (by simp;omega) ?_);(repeat first|refine tX rfl ?_ |(refine s4 rfl ‹_› rfl ?_ ?_;omega) |refine aU rfl ?_ |refine Aa ?_);refine⟨⟨(q,o++[s.l]),by simp;omega,u,H,by rw [b,y];simp⟩,by dsimp only;omega,[1],?_⟩;dsimp only;rw [j];simp[cX,zC,a,T,Hh]
 ·have A:v=[]:=by
   rcases t with ⟨_,e⟩|⟨q,u,e,_⟩
   ·rw [B] at e;injection e
   ·exfalso;(simp only[oZ] at *;omega)
  subst A
  have f:w=o.reverse:=by rw [b];rfl
  have m:=UL (TB:=TB) (CA o) (by omega);rw [G,dO,<-f] at m;refine aE ?_;(repeat first|refine tM rfl ?_ |refine aU rfl ?_);(refine pW rfl ?_ rfl (by rfl);refine Ae [0] rfl rfl m ⟨rfl,by simp,by simp⟩ rfl (by simp[cX,zC,a,Hh]) ?_;rintro X M N ⟨rfl,rfl,rfl⟩ _)
  have Q:(CA w).length=o.length:=by rw [f];simp [CA]
  (repeat first|refine tM rfl ?_|(refine Ai rfl ?_;refine gA rfl ?_;first| refine gQ (Ro (CA w) rfl rfl (by simp;omega) (by rw [mw,WH,lm (by simp;omega)])) (by rfl) ?_) |refine aU rfl ?_ |refine Aa ?_);refine aR ⟨_,rfl,rfl⟩
theorem eJ(p:Nat->Prop):(∀i,i < 5->p i)↔p 0/\p 1/\p 2/\p 3/\p 4:=by
 constructor
 ·intro h;exact⟨h 0 (by omega),h 1 (by omega),h 2 (by omega),h 3 (by omega),h 4 (by omega)⟩
 ·rintro⟨e,d,c,b,a⟩ i hi
  have:i=0\/i=1\/i=2\/i=3\/i=4:=by omega
  rcases this with rfl|rfl|rfl|rfl|rfl<;>assumption
theorem bM{goal:Int->Bool}{seen:List Bool}{nodes:List Int}{k:Nat}{x:Int}(h:nodes[k]? = some x):RF goal seen (nodes.take (k+1))=TG goal (RF goal seen (nodes.take k)) x:=by
 unfold RF;rw [Hx h]
theorem Tk{l:List Bool}{n:Int}:(l.map AO).set (0+n.toNat) (Af (AO false) 0 (eC (eB true)))=(l.set n.toNat true).map AO:=by
 simp [Af,eC,mx]
abbrev Ff(N:Nat)(gG:FuncId)(capsG:List C)(seen:List Bool)(q:Nat)(steps:List MZ):Ab:=
 [(0,.cells 27 1 [[.arr 1 1 0 N]]),(1,.cells 4 1 (seen.map AO)),(2,.cells 154 1 [[.fn gG capsG]]),(3,.cells 216 1 [[.arr q 3 0 steps.length]]),(q,.cells 218 3 (steps.map OD))]
theorem TF{goal:Int->Bool}{gG:FuncId}{capsG:List C}{N:Nat}(M:∀n:Int,0<=n/\n < N->Pure Tryz.prog TB gG ([eI .i64 n]++capsG.map .o) (eB (goal n)))(G:C.C6 capsG=true)(d:∀r,C.Cj r capsG=capsG)
 (seen:List Bool) (steps:List MZ) (p l:Int) (nodes:List Int) (R:seen.length=N) (T:N<=1048576) (Q:steps.length<=1048576) (u:∀n∈nodes,0<=n/\n < N) :
 Spec Tryz.prog TB 214 (Ff N gG capsG seen 4 steps) 5 [eI .i64 p,eI .i64 l,Av nodes,.o (.ptr 0 1 0 0),.o (.ptr 2 1 0 0),.o (.ptr 3 1 0 0)]
  (λx σ nx=>x=eB (RF goal seen nodes).found/\∃q,(q=4/\nx=5\/q=5/\nx=6)/\σ=Ff N gG capsG (RF goal seen nodes).seen q (Ex steps p l (RF goal seen nodes).fresh)):=by
 have s:∀k,gy goal N seen (nodes.take k) (RF goal seen (nodes.take k)):=λk=>Vi R λn F=>u n (lU F);refine eN Tryz.func214 rfl (by kernel_rfl) rfl ?_;intro Z a;refine Aj.bound 2 rfl λK=>?_;have S:=K _ .refl;rw [f9] at S;(repeat first|refine tM rfl ?_ |refine aU rfl ?_ |refine Aa ?_);(refine pW rfl ?_ rfl (by rfl);refine Gx 1 3 ?_);(repeat first|refine sN rfl ?_ |refine tM rfl ?_ |refine aU rfl ?_ |refine Aa ?_);refine aB ?_;refine Aj.A6 (α:={k:Nat // k<=nodes.length}) (λ⟨k,hk⟩=>[(0,eI .i64 p),(1,eI .i64 l),(3,.o (.ptr 0 1 0 0)),(4,.o (.ptr 2 1 0 0)),(5,.o (.ptr 3 1 0 0)),(10,.o (.arr 5 1 0 (RF goal seen (nodes.take k)).fresh.length)),(11,eB (RF goal seen (nodes.take k)).found),(14,Av nodes),(15,eI .i64 nodes.length),(16,eI .i64 k)]) (λ⟨k,hk⟩=>Ff N gG capsG (RF goal seen (nodes.take k)).seen 4 steps++[(5,.cells 3 1 ((RF goal seen (nodes.take k)).fresh.map AP))]) 6 (λ⟨k,hk⟩=>nodes.length - k) (⟨0,by omega⟩) [0,1,2,3,4,5] (Ea a rfl rfl) (by (simp[cX,zC,a,Ff,RF,d])) ?_;rintro⟨k,hk⟩;(try dsimp only);have i:=s k;have c:=λx=>bM (goal:=goal) (seen:=seen) (nodes:=nodes) (k:=k) (x:=x);generalize L:RF goal seen (nodes.take k)=v at *;(repeat first|refine s2 rfl λ_ f=>?_ |refine aU rfl ?_ |refine Aa ?_);(refine aC rfl ?_ ?_<;>rintro⟨⟩)
 ·obtain⟨x,z⟩:=get_some (l:=nodes) (k:=k) (by (simp only[oZ] at *;omega))
  have P:=get_map (g:=BB) z;have m:=u x (co z);have c:=c x z;have A:=i.len;obtain⟨b,hb⟩:=get_some (l:=v.seen) (k:=x.toNat) (by omega)
  have J:(v.seen.map AO)[0+x.toNat]? = some (AO b):=by simp [hb]
  have B:sn v.seen x=b:=by simp [sn,List.getD,hb]
  have h:v.fresh.length<=N:=by
   refine Fw _ _ i.nd λy w=>u y (lU ((i.fr y).1 w).1)
  unfold TG at c;rw [B] at c;obtain⟨vse,vfr,vfd⟩:=v;simp only at c A hb J h;refine aK ?_;refine aS (aB ?_);(repeat first|((first|refine sM rfl ?_ ?_|refine s4 rfl ‹_› rfl ?_ ?_);first|exact tI|omega) |refine s2 rfl λ_ f=>?_ |refine aU rfl ?_ |refine Aa ?_);(refine aC rfl ?_ ?_<;>rintro⟨⟩)
  ·have I:b=false:=by simpa using f
   subst I;rw [if_neg (by simp)] at c;(repeat first|(refine sA rfl ?_ ?_;first|exact tI|omega) |refine t4 rfl ‹_› rfl ?_ |refine aU rfl ?_ |refine Aa ?_);(refine pW rfl ?_ rfl (by rfl);refine Aw rfl rfl rfl (by first| (simp;done)|(simp;(omega))) rfl (by intro r t;simp at t;subst t;rfl) (by rfl) (am rfl) (by simp;omega) ?_);(repeat first|(refine sX rfl ?_ ?_;first|exact tI|simp only[oZ] at *;omega) |refine s3 rfl ?_ ?_<;>rintro rfl |refine aU rfl ?_ |refine Aa ?_);(repeat first|(refine sC rfl (M x m) ?_;intro _ f)|(refine Ai rfl ?_;refine gA rfl ?_;first| refine gQ (Rm rfl rfl rfl rfl) (by rfl) ?_))
   ·refine⟨⟨k+1,by (simp only[oZ] at *;omega)⟩,by dsimp only;((simp only[oZ] at *;omega)),[0,1,2,3,4,6],?_⟩
    rw [Tk];simp[cX,zC,a,c,Ff,d,eJ]
   ·(repeat first|(refine sA rfl ?_ ?_;first|exact tI|simp only[oZ] at *;omega)|(refine Ai rfl ?_;refine gA rfl ?_;first| (refine gB (λ_ _=>Bh rfl rfl (by simp [E.BX,C.BX,G]) (M x m) rfl) ?_;intro _ f)) |refine aU rfl ?_ |refine Aa ?_)
    refine⟨⟨k+1,by (simp only[oZ] at *;omega)⟩,by dsimp only;((simp only[oZ] at *;omega)),[0,1,2,3,4,6],?_⟩;rw [Tk];simp[cX,zC,a,c,Ff,d,eJ,f]
  ·have H:b=true:=by simpa using f
   subst H;rw [if_pos rfl] at c;refine aK ?_;(repeat first|(refine sM rfl ?_ ?_;first|exact tI|simp only[oZ] at *;omega) |refine aU rfl ?_ |refine Aa ?_);refine⟨⟨k+1,by (simp only[oZ] at *;omega)⟩,by dsimp only;((simp only[oZ] at *;omega)),[0,1,2,3,4,5],?_⟩;simp[cX,zC,a,c,Ff,d,eJ]
 ·obtain rfl:k=nodes.length:=by (simp only[oZ] at *;omega)
  rw [i7] at L;subst L;refine aE ?_
  have h:(RF goal seen nodes).fresh.length<=N:=by
   have i:=s nodes.length;rw [i7] at i;refine Fw _ _ i.nd λy w=>u y ((i.fr y).1 w).1
  generalize RF goal seen nodes=vv at *;obtain⟨vse,vfr,vfd⟩:=vv;have h:vfr.length<=N:=h;(repeat first|refine tM rfl ?_ |refine s2 rfl λ_ f=>?_ |refine aU rfl ?_ |refine Aa ?_);(refine aC rfl ?_ ?_<;>rintro⟨⟩)
  ·have j:vfr≠[]:=λe=>by rw [e] at f;simp at f
   refine Aj.freeze [5] [(0,eI .i64 p),(1,eI .i64 l),(5,.o (.ptr 3 1 0 0)),(10,Av vfr),(11,eB vfd)] ⟨⟨_,rfl,.AL⟩,⟨_,rfl,.AL⟩,⟨_,rfl,.AL⟩,⟨_,rfl,.o (.full (by simp) rfl (by simp [d6]) (by simp))⟩,⟨_,rfl,.AL⟩,trivial⟩ ?_;(repeat first|refine tA rfl ?_|(refine Ai rfl ?_;refine gA rfl ?_;first| refine gS (λ_ _=>AV rfl rfl (by rfl) (by rfl)) ?_) |refine aU rfl ?_);(refine pW rfl ?_ rfl (by rfl);refine Aw rfl rfl rfl (by first| (simp;done)|(simp;(omega))) rfl (by intro r t;simp at t;subst t;rfl) (by rfl) (am rfl) (by simp;omega) ?_);(repeat first|refine tX rfl ?_ |refine aU rfl ?_ |refine Aa ?_);refine Aj.names [0,1,2,3,4,6] [(9,eB vfd)] (Ff N gG capsG vse 5 (Ex steps p l vfr)) (by rw [a];decide) (by decide) (by simp[cX,zC,a]) (by simp[cX,zC,a,Ff,d,Ex,j,BP,Af,eC]) ?_;refine aR ⟨_,rfl,rfl,5,.inr ⟨rfl,rfl⟩,rfl⟩
  ·have j:vfr=[]:=lw.1 (by (simp only[oZ] at *;omega))
   subst j;refine aK ?_;(repeat first|refine tM rfl ?_ |refine aU rfl ?_ |refine Aa ?_);refine Aj.names [0,1,2,3,4] [(9,eB vfd)] (Ff N gG capsG vse 4 steps) (by rw [a];decide) (by decide) (by simp[cX,zC,a]) (by simp[cX,zC,a,Ff,d]) ?_;refine aR ⟨_,rfl,rfl,4,.inl ⟨rfl,rfl⟩,by simp [Ex]⟩
end Go.Am
