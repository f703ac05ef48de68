/-
  Nodes are numbered: walked.
-/
import Derived.Test.YtgpbfllcjdfelaaGreatDoorPart28
import Derived.Test.YtgpbfllcjdfelaaGreatDoorPart27
set_option linter.all false
namespace Go.Am
open Go Go.Proofs
set_option maxHeartbeats 1000000
set_option maxRecDepth 4000
attribute [local irreducible] AO BS Lex A4 Au Spec
variable {TB:Bi}
def ZH(o:Option (List Int×List (List Int))):E:=match o with
 | some p=>.t [(false,[.d (Da p.1)]),(false,[.d (CI p.2)]),(false,[.d (bD true)])]
 | none=>.t [(false,[.d (.l [])]),(false,[.d (.l [])]),(false,[.d (bD false)])]
theorem SI{lim:Nat}{f:Int->Int->Int}{ls:List Int}{s0:Int}{g:FuncId}{caps:List C}{R:Int->Prop}(h1:1<=lim/\lim<=64)(hll:ls.length<=6)(hs:R s0)(hR:∀q l,R q->l∈ls->R (f q l))
 (hg:∀q l,R q->l∈ls->Pure Tryz.prog TB g ([eI .i64 q,eI .i64 l]++caps.map .o) (eI .i64 (f q l))) (hc:C.Cv caps=true) (c:∀r,C.BK r caps=caps) :
 Pure Tryz.prog TB 111 [eI .i64 s0,AH ls,eI .i64 lim,.o (.fn g caps)] (ZH (FV lim f ls s0)):=by
 unfold FV;generalize X:C4 lim f ls lim [s0] []=A;refine eG Tryz.func111 rfl (by kernel_rfl) rfl ?_;intro Γ e;(repeat first|refine tX rfl ?_ |refine aU rfl ?_ |refine Aa ?_);(refine pW rfl ?_ rfl (by rfl);refine A9 rfl rfl rfl rfl (by simp [eC]) (by rfl) (by rfl) (by rfl) (by rfl) ?_);(repeat first|refine tX rfl ?_ |refine aU rfl ?_ |refine Aa ?_);(refine pW rfl ?_ rfl (by rfl);refine GM ?_);(repeat first|refine tA rfl ?_);(refine Af rfl ?_;refine EO ?_ rfl (by rfl);refine aW (QF (l:=[]) rfl rfl rfl rfl rfl ?_));(repeat first|refine tM rfl ?_ |refine aU rfl ?_ |refine Aa ?_);(refine pW rfl ?_ rfl (by rfl);refine HU 1 53 ?_);(repeat first|refine tM rfl ?_ |refine aU rfl ?_ |refine Aa ?_);refine aB ?_;refine aL (U:={z:List Int×List (List Int) // C4 lim f ls (lim - z.2.length) z.1 z.2=A/\z.2.length<=z.1.length/\1<=z.1.length/\z.1.length<=lim/\∀q∈z.1,R q}) [1,2,3,12] [] rfl rfl (λs=>[(11,.o (.arr 0 1 0 s.1.1.length)),(13,.o (.arr 2 1 0 s.1.2.length)),(14,eI .i64 s.1.2.length)]) (λs=>[(0,.cells 3 1 (s.1.1.map Az)),(1,.mp (HT (RI s.1.1))),(2,.cells 53 1 (s.1.2.map λr=>[.d (Da r)]))]) 3 (λs=>lim - s.1.2.length) (⟨⟨[s0],[]⟩,by simpa using X,by simp,by simp,by simpa using h1.1,by simpa using hs⟩) e rfl (by (simp[cX,zC,e,c,eC,Bb,Ae,RI])) ?_;rintro⟨⟨nd,rows⟩,u,G,H,F,w⟩;(try dsimp only[cA,cB]);have u:C4 lim f ls (lim - rows.length) nd rows=A:=u;have G:rows.length<=nd.length:=G;have H:1<=nd.length:=H;have F:nd.length<=lim:=F;have w:∀q∈nd,R q:=w;by_cases N:rows.length < nd.length
 ·obtain⟨q,M⟩:=get_some N
  obtain⟨k,hk⟩:∃k,lim - rows.length=k+1:=⟨lim - rows.length - 1,by omega⟩
  rw [hk] at u;simp only [C4,M] at u;generalize T:CG lim f q nd [] ls=B at u;have L:=w q (ce M);(repeat first|refine tA rfl ?_ |refine s2 rfl λ_ b=>?_ |refine aU rfl ?_ |refine Aa ?_)
  ((refine aC rfl ?_ ?_<;>rintro⟨⟩);all_goals try(exfalso;(simp only[oZ] at *;omega)))
  refine aK ?_;refine aS (aB ?_);(repeat first|refine aU rfl ?_);(refine pW rfl ?_ rfl (by rfl);refine HU 1 3 ?_);(repeat first|refine sN rfl ?_ |refine tM rfl ?_ |refine aU rfl ?_ |refine Aa ?_);refine aB ?_;refine aL (U:={z:(List Int×List Int)×Nat // z.2<=ls.length/\CG lim f q z.1.1 z.1.2 (ls.drop z.2)=B/\z.1.2.length=z.2/\nd.length<=z.1.1.length/\z.1.1.length<=lim/\(∀q∈z.1.1,R q)/\z.1.1[rows.length]? = some q}) [1,2,3,12,13,14,32,33] [2] rfl rfl (λs=>[(11,.o (.arr 0 1 0 s.1.1.1.length)),(15,.o (.arr 3 1 0 s.1.2)),(34,eI .i64 s.1.2)]) (λs=>[(0,.cells 3 1 (s.1.1.1.map Az)),(1,.mp (HT (RI s.1.1.1))),(3,.cells 3 1 (s.1.1.2.map Az))]) 4 (λs=>ls.length - s.1.2) (⟨⟨⟨nd,[]⟩,0⟩,by simp,T,rfl,io _,F,w,M⟩) e rfl (by (simp[cX,zC,e,c,eC,Bb,Ae,EM])) ?_;rintro⟨⟨⟨a,row⟩,j⟩,Y,i,m,x,v,t,n⟩;(try dsimp only[cA,cB]);have Y:j<=ls.length:=Y;have i:CG lim f q a row (ls.drop j)=B:=i;have m:row.length=j:=m;have x:nd.length<=a.length:=x;have v:a.length<=lim:=v;have t:∀q∈a,R q:=t;have n:a[rows.length]? = some q:=n;by_cases Q:j < ls.length
  ·obtain⟨l,P⟩:=get_some Q
   have hl':=get_map (g:=Br) P;have I:=ce P;have hf:=hg q l L I;have S:=hR q l L I
   have hq':(a.map Az)[0+((rows.length:Nat):Int).toNat]? = some (Az q):=by rw [ms,f6];simp [n]
   rw [BF P] at i;simp only [CG] at i;have p:=Pf a (f q l);generalize f q l=y at *;(repeat first|refine s2 rfl λ_ b=>?_ |refine aU rfl ?_ |refine Aa ?_)
   ((refine aC rfl ?_ ?_<;>rintro⟨⟩);all_goals try(exfalso;(simp only[oZ] at *;omega)))
   refine aK ?_;refine aS (aB ?_);(repeat first|((first|refine sA rfl ?_ ?_|refine s4 rfl ‹_› rfl ?_ ?_);first|exact tI|omega)|(refine Af rfl ?_;refine gA rfl ?_;first| refine gS (λ_ _=>A6 rfl rfl (by simp [E.Bt,C.Bt,C.Cv,hc]) hf rfl) ?_) |refine aU rfl ?_ |refine Aa ?_);by_cases J:y∈a
   ·rw [if_pos J] at i p
    (repeat first|refine tA rfl ?_ |refine s2 rfl λ_ b=>?_|(refine Af rfl ?_;refine gA rfl ?_;first| refine gQ (SZ p rfl rfl rfl) rfl ?_) |refine aU rfl ?_ |refine Aa ?_)
    ((refine aC rfl ?_ ?_<;>rintro⟨⟩);all_goals try (simp at b;done))
    refine aK ?_;(repeat first|refine tA rfl ?_ |refine aU rfl ?_);(refine pW rfl ?_ rfl (by rfl);refine Aj rfl rfl rfl (by first| (simp;done)|(simp;(omega))) rfl (by intro r c;simp at c;subst c;rfl) (by rfl) (co rfl) (by simp;omega) ?_);(repeat first|(refine sA rfl ?_ ?_;first|exact tI|omega) |refine aU rfl ?_ |refine Aa ?_);refine⟨⟨⟨⟨a,row++[((a.idxOf y:Nat):Int)]⟩,j+1⟩,by dsimp only;omega,i,by simp [m],x,v,t,n⟩,by dsimp only;(omega),[0,1,2,4],?_⟩;simp[cX,zC,e,c,EM]
   ·rw [if_neg J] at i p
    (repeat first|refine tA rfl ?_ |refine s2 rfl λ_ b=>?_|(refine Af rfl ?_;refine gA rfl ?_;first| refine gQ (SY p rfl rfl rfl) rfl ?_) |refine aU rfl ?_ |refine Aa ?_)
    ((refine aC rfl ?_ ?_<;>rintro⟨⟩);all_goals try (simp at b;done))
    by_cases K:a.length=lim
    ·rw [if_pos K] at i
     subst i;(repeat first|refine tA rfl ?_ |refine s2 rfl λ_ b=>?_ |refine aU rfl ?_ |refine Aa ?_)
     ((refine aC rfl ?_ ?_<;>rintro⟨⟩);all_goals try(exfalso;(simp only[oZ] at *;omega)))
     (repeat first|refine tA rfl ?_ |refine aU rfl ?_ |refine Aa ?_);have u:none=A:=u;subst u;exact aR ⟨_,rfl,rfl⟩
    ·rw [if_neg K] at i
     (repeat first|refine tA rfl ?_ |refine s2 rfl λ_ b=>?_ |refine aU rfl ?_ |refine Aa ?_)
     ((refine aC rfl ?_ ?_<;>rintro⟨⟩);all_goals try(exfalso;(simp only[oZ] at *;omega)))
     refine aK ?_;(repeat first|refine tA rfl ?_ |refine aU rfl ?_ |refine Aa ?_);(refine Af rfl ?_;refine EO ?_ rfl (by rfl);refine QF rfl rfl rfl rfl p ?_);rw [<-QE];(repeat first|refine tA rfl ?_ |refine aU rfl ?_ |refine Aa ?_);(refine pW rfl ?_ rfl (by rfl);refine Aj rfl rfl rfl (by first| (simp;done)|(simp;(omega))) rfl (by intro r c;simp at c;subst c;rfl) (by rfl) (co rfl) (by simp;omega) ?_);(repeat first|refine tA rfl ?_ |refine aU rfl ?_ |refine Aa ?_);(refine pW rfl ?_ rfl (by rfl);refine Aj rfl rfl rfl (by first| (simp;done)|(simp;(omega))) rfl (by intro r c;simp at c;subst c;rfl) (by rfl) (co rfl) (by simp;omega) ?_);(repeat first|(refine sA rfl ?_ ?_;first|exact tI|omega) |refine aU rfl ?_ |refine Aa ?_);refine⟨⟨⟨⟨a++[y],row++[(a.length:Int)]⟩,j+1⟩,by dsimp only;omega,i,by simp [m],by simp;omega,by simp;omega,λz Z=>by rcases f9.1 Z with h|h;exact t z h;simp at h;subst h;exact S,by rw [d8 (by omega)];exact n⟩,by dsimp only;(omega),[4,1,2,5],?_⟩;simp[cX,zC,e,c,EM]
  ·obtain rfl:j=ls.length:=by omega
   rw [oR] at i;simp only [CG] at i;subst i;simp only at u;(repeat first|refine s2 rfl λ_ b=>?_ |refine aU rfl ?_ |refine Aa ?_)
   ((refine aC rfl ?_ ?_<;>rintro⟨⟩);all_goals try(exfalso;(simp only[oZ] at *;omega)))
   refine aE ?_;refine Au.C9 [3] [1,2,3,11,12,13,14] rfl [(15,AH row)] ⟨⟨_,rfl,.o (.full (by simp) rfl (by simp [d4]) (by simpa using m))⟩,trivial⟩ ?_;(try dsimp only[cA,cB]);(repeat first|refine tA rfl ?_ |refine aU rfl ?_);(refine pW rfl ?_ rfl (by rfl);refine Aj rfl rfl rfl (by first| (simp;done)|(simp;(omega))) rfl (by intro r c;simp at c;subst c;rfl) (by rfl) (co rfl) (by simp;omega) ?_);(repeat first|(refine sA rfl ?_ ?_;first|exact tI|omega) |refine aU rfl ?_ |refine Aa ?_);refine⟨⟨⟨a,rows++[row]⟩,by show C4 lim f ls (lim - (rows++[row]).length) a _=A;rw [nw,pv,show lim - (rows.length+1)=k by omega];exact u,by simp;omega,by dsimp only;omega,v,t⟩,by dsimp only;((simp only[oZ] at *;omega)),[0,1,4],?_⟩;simp[cX,zC,e,c,EM]
 ·have V:A=some (nd,rows):=by
   rw [<-u]
   cases lim - rows.length with
   | zero=>rfl
   | succ k=>simp only [C4];rw [i8 (by omega)]
  subst V;(repeat first|refine tA rfl ?_ |refine s2 rfl λ_ b=>?_ |refine aU rfl ?_ |refine Aa ?_)
  ((refine aC rfl ?_ ?_<;>rintro⟨⟩);all_goals try(exfalso;(simp only[oZ] at *;omega)))
  refine aE ?_;refine Au.settle [(11,AH nd),(13,Er rows)] ⟨⟨_,rfl,.o (.full rfl (by simp [d4]) (by simp))⟩,⟨_,rfl,.o (.full rfl (by simp [d4]) (by simp))⟩,trivial⟩ ?_;(repeat first|refine tA rfl ?_ |refine aU rfl ?_ |refine Aa ?_);(subst_vars;exact aR ⟨_,rfl,rfl⟩)
end Go.Am
namespace Go.Am
open Go
set_option linter.unusedVariables false
theorem Sn{f:Nat->Bool}{n k:Nat}(h:EG f n=true)(a:0 < k)(hk:k < n):f k=true:=by
 unfold EG at h;have:=(gt.1 h) k (jp.2 hk);simp at this
 rcases this with h|h
 ·omega
 ·exact h
theorem So{f:Nat->Bool}{n:Nat}(h:∀k,0 < k->k < n->f k=true):EG f n=true:=by
 unfold EG;refine gt.2 λk hk=>?_;have hk:=jp.1 hk
 rcases nM k with a|a
 ·subst a;rfl
 ·simp [h k a hk]
structure YX (al:Int) (t:Bh):Prop where
 pos:0<=al
 r1:1<=t.rows.length
 rl:t.rows.length<=12
 c1:1<=t.cols.length
 cl:t.cols.length<=20
 r0:t.rows[0]? = some []
 c0:t.cols[0]? = some []
 rw:∀w∈t.rows,w.length<=50000/\Av (AU al) w
 cw:∀w∈t.cols,w.length<=4000/\Av (AU al) w
 pre:∀(i:Nat) w,t.rows[i]? = some w->0 < i->w≠[]/\∃j,j < i/\t.rows[j]? = some w.dropLast
 ndC:t.cols.Nodup
theorem Lo{U:Type}{l:List U}{k:Nat}{x:U}(h:x∈l.take k):∃j,j < k/\l[j]? = some x:=by
 obtain⟨j,a,b⟩:=nC h
 have c:j < k:=by simp at a;omega
 refine⟨j,c,?_⟩;rw [<-b,List.getElem_take,d5]
theorem Ld{U:Type}{l:List U}{j k:Nat}{x:U}(h:l[j]? = some x)(a:j < k):x∈l.take k:=by
 have:(l.take k)[j]? = some x:=by rw [nk,if_pos a];exact h
 exact ce this
theorem Vq{w:W}{al:Int}(h:within w al=true):w.length<=50000:=by
 unfold within at h;simp only [d6,decide_eq_true_eq] at h;exact h.1
theorem NX{al:Int}{t:Bh}(h:Ho al t=true):YX al t:=by
 unfold Ho KV at h;simp only [d6,decide_eq_true_eq] at h;obtain⟨⟨u,p,o,n,m⟩,s,r⟩:=h
 have d:∀(i:Nat) w,t.rows[i]? = some w->0 < i->w≠[]/\within w al=true/\w.dropLast∈t.rows.take i:=λi w hi b=>by
  have:=Sn s b (am.1 hi).1;unfold rowAt at this;rw [hi] at this;simp only [d6,decide_eq_true_eq,pf,decide_eq_false_iff_not] at this;exact⟨λe=>this.1 (by rw [e];rfl),this.2.1,this.2.2⟩
 have f:∀(i:Nat) w,t.cols[i]? = some w->0 < i->w.length<=4000/\within w al=true/\w∉t.cols.take i:=λi w hi b=>by
  have:=Sn r b (am.1 hi).1;unfold Lf at this;rw [hi] at this;simp only [d6,decide_eq_true_eq,pf,decide_eq_false_iff_not] at this;exact this
 refine⟨u,p.1,p.2,o.1,o.2,n,m,λw hw=>?_,λw hw=>?_,λi w hi b=>?_,?_⟩
 ·obtain⟨i,hi,g⟩:=nC hw
  have a:t.rows[i]? = some w:=by rw [d5 hi,g]
  rcases nM i with b|b
  ·subst b
   rw [n] at a;injection a with a;subst a
   exact⟨by simp,λc l=>by cases l⟩
  ·have:=d i w a b
   exact⟨Vq this.2.1,Oi this.2.1⟩
 ·obtain⟨i,hi,g⟩:=nC hw
  have a:t.cols[i]? = some w:=by rw [d5 hi,g]
  rcases nM i with b|b
  ·subst b
   rw [m] at a;injection a with a;subst a
   exact⟨by simp,λc l=>by cases l⟩
  ·have:=f i w a b
   exact⟨this.1,Oi this.2.1⟩
 ·have:=d i w hi b
  exact⟨this.1,Lo this.2.2⟩
 ·unfold List.Nodup
  rw [nj];intro i j hi q k g;have:=f j t.cols[j] (d5 q) (by omega);exact this.2.2 (Ld (by rw [d5 hi,g]) k)
theorem YL{al:Int}{t:Bh}(ha:Bv al=true)(q:0<=al)(l:1<=t.rows.length/\t.rows.length<=12)(n:1<=t.cols.length/\t.cols.length<=20)(h:t.rows[0]? = some [])(r:t.cols[0]? = some [])
 (rw':∀w∈t.rows,w.length<=50000/\Av (AU al) w) (cw:∀w∈t.cols,w.length<=4000/\Av (AU al) w) (pre:∀(i:Nat) w,t.rows[i]? = some w->0 < i->w≠[]/\∃j,j < i/\t.rows[j]? = some w.dropLast) (ndC:t.cols.Nodup):Ho al t=true:=by
 unfold Ho KV;simp only [d6,decide_eq_true_eq];refine⟨⟨q,l,n,h,r⟩,So λk hk a=>?_,So λk hk a=>?_⟩
 ·have c:=d5 a
  obtain⟨p,j,f,o⟩:=pre k _ c hk;have b:=rw' _ (nA a);unfold rowAt;rw [c];simp only [d6,decide_eq_true_eq,pf,decide_eq_false_iff_not];exact⟨λe=>p (m7.1 e),I7 b.2 b.1 ha,Ld o f⟩
 ·have c:=d5 a
  have b:=cw _ (nA a);unfold Lf;rw [c];simp only [d6,decide_eq_true_eq,pf,decide_eq_false_iff_not];refine⟨b.1,I7 b.2 (by omega) ha,λm=>?_⟩;obtain⟨j,f,g⟩:=Lo m;obtain⟨d,g⟩:=am.1 g;exact(nj.1 ndC) j k d a f g
theorem GU{A:W->Bool}{al:Int}{t:Bh}(h:C6 A al t=true):YX al t/\(AQ A t).Nodup:=by
 unfold C6 at h;rw [d6,decide_eq_true_eq] at h;exact⟨NX h.1,h.2⟩
theorem Vo{A:W->Bool}{al:Int}{t:Bh}(h:C6 A al t=true):TOk A (AU al) t:=by
 obtain⟨a,b⟩:=GU h;exact⟨a.r0,a.c0,a.pre,λw hw=>(a.rw w hw).2,λw hw=>(a.cw w hw).2,b,a.ndC⟩
theorem YU{A:W->Bool}{al:Int}{t:Bh}(ha:Bv al=true)(g:0<=al)(h:TOk A (AU al) t)(c:t.rows.length<=12)(d:t.cols.length<=20)(a:∀w∈t.rows,w.length<=50000)(b:∀w∈t.cols,w.length<=4000):C6 A al t=true:=by
 unfold C6;rw [d6,decide_eq_true_eq];have f:=(am.1 h.r0).1;have e:=(am.1 h.c0).1;exact⟨YL ha g ⟨f,c⟩ ⟨e,d⟩ h.r0 h.c0 (λw hw=>⟨a w hw,h.onR w hw⟩) (λw hw=>⟨b w hw,h.onC w hw⟩) h.pre h.ndC,h.nd⟩
theorem O7{A:W->Bool}{al:Int}{t:Bh}(h:FX A al t=true):C6 A al t=true/\Bw A (AU al) t=none/\Bu A (AU al) t:=by
 unfold FX at h;rw [d6] at h
 have a:Bw A (AU al) t=none:=by simpa using h.2
 exact⟨h.1,a,⟨Vo h.1,Jb a⟩⟩
theorem MH{A:W->Bool}{al:Int}{t:Bh}(h:C6 A al t=true)(a:Bw A (AU al) t=none):FX A al t=true:=by
 unfold FX;rw [h,a];rfl
theorem YX.sz{al:Int}{t:Bh}(h:YX al t):kR t:=⟨by have:=h.rl;omega,by have:=h.cl;omega,λw hw=>by have:=(h.rw w hw).1;omega,λw hw=>by have:=(h.cw w hw).1;omega⟩
def Y8(A L:W->Bool)(al:Int):Prop:=∀w,Av (AU al) w->w.length<=50000->A w=L w
theorem bx{ls:List UInt8}{u w:W}(a:Av ls u)(hw:Av ls w):Av ls (u++w):=λc b=>by
 rcases f9.1 b with h|h
 ·exact a c h
 ·exact hw c h
theorem Pw{A L:W->Bool}{al:Int}(h:Y8 A L al){cols:List W}{w:W}(hw:Av (AU al) w)(b:∀x∈cols,Av (AU al) x/\w.length+x.length<=50000):marks A cols w=marks L cols w:=by
 rw [marks,marks,oO];intro x a;rw [h _ (bx hw (b x a).1) (by simp;exact(b x a).2)]
theorem GQ{A L:W->Bool}{al:Int}{b:Nat}{t:Bh}(h:Y8 A L al)(ht:GA al b t)(hb:b<=20100):AQ A t=AQ L t:=by
 rw [AQ,AQ,oO];intro r c;have:=ht.onR r c
 exact Pw h this.1 λx a=>⟨(ht.onC x a).1,by have:=(ht.onC x a).2;omega⟩
theorem Np{A L:W->Bool}{al:Int}{b:Nat}{t:Bh}(h:Y8 A L al)(ht:GA al b t)(hb:b<=20100){r:W}{l:UInt8}(e:r∈t.rows)(f:l∈AU al):marks A t.cols (r++[l])=marks L t.cols (r++[l]):=by
 have:=ht.onR r e
 refine Pw h (bx this.1 (λc d=>by simp at d;subst d;exact f)) λx a=>⟨(ht.onC x a).1,by have:=(ht.onC x a).2;simp;omega⟩
theorem Sj{U:Type}{p q:U->Bool}:∀ {l:List U},(∀x∈l,p x=q x)->l.find? p=l.find? q
 | [],_=>rfl
 | x::l,h=>by
  rw [qM,qM,h x (by simp),Sj (l:=l) λy a=>h y (by simp [a])]
theorem PC{A L:W->Bool}{al:Int}{b:Nat}{t:Bh}(h:Y8 A L al)(ht:GA al b t)(hb:b<=20100):Bw A (AU al) t=Bw L (AU al) t:=by
 unfold Bw;refine Sj λw hw=>?_;unfold CK at hw;simp only [ot,em] at hw;obtain⟨r,a,l,c,rfl⟩:=hw;rw [GQ h ht hb,Np h ht hb a c]
theorem ZY{A L:W->Bool}{al:Int}{b:Nat}{t:Bh}(h:Y8 A L al)(ht:GA al b t)(hb:b<=20100){r:W}{l:UInt8}(a:r∈t.rows)(c:l∈AU al):EI A t (r++[l])=EI L t (r++[l]):=by
 unfold EI;rw [GQ h ht hb,Np h ht hb a c]
theorem Zs{A L:W->Bool}{al:Int}{b:Nat}{t:Bh}(h:Y8 A L al)(ht:GA al b t)(hb:b<=20100):Bp A al t=Bp L al t:=by
 unfold Bp;congr 1
 ·refine oO.2 λr a=>oO.2 λl c=>?_
  rw [ZY h ht hb a (QA c)]
 ·refine oO.2 λr a=>?_
  have:=ht.onR r a;rw [h r this.1 (by omega)]
theorem TOk.lu{A L:W->Bool}{al:Int}{b:Nat}{t:Bh}(h:Y8 A L al)(ht:GA al b t)(hb:b<=20100)(hk:TOk L (AU al) t):TOk A (AU al) t:=⟨hk.r0,hk.c0,hk.pre,hk.onR,hk.onC,by rw [GQ h ht hb];exact hk.nd,hk.ndC⟩
theorem Bu.lu{A L:W->Bool}{al:Int}{b:Nat}{t:Bh}(h:Y8 A L al)(ht:GA al b t)(hb:b<=20100)(hk:Bu L (AU al) t):Bu A (AU al) t:=⟨hk.toTOk.lu h ht hb,λr a l c=>by
 rw [Np h ht hb a c,GQ h ht hb];exact hk.cl r a l c⟩
section
variable {a b:AK}(ha:AI a=true)(hb:AI b=true)(hal:a.al=b.al)(hL:∀w,Av (AU a.al) w->LA a w=LA b w)
include ha hb hal hL
end
noncomputable def FH(p:AK)(k:Nat):AK:=Bp (LA p) p.al (BT p k)
theorem SS{p:AK}(hp:AI p=true){k:Nat}(hk:k<=Bl p):AI (FH p k)=true:=by
 obtain⟨b,e,a,d,c⟩:=Gh hp k hk;exact LQ (Al hp).1 b a
theorem NA{p:AK}(hp:AI p=true):Jv (FH p (Bl p)) p=none:=by
 have a:=(EJ hp).2.1;unfold PZ at a;exact Option.map_eq_none_iff.1 a
theorem UL{p:AK}(hp:AI p=true){k:Nat}(hk:k<=Bl p):Dk (FH p k) p=true:=by
 unfold Dk;rw [SS hp hk,hp];simp [FH,Bp]
theorem XR{p:AK}(hp:AI p=true):∀w,Av (AU p.al) w->LA p w=LA (FH p (Bl p)) w:=λw hw=>
 (Pa (UL hp (io _)) (NA hp) w hw).symm
end Go.Am
namespace Go.Am
open Go Go.Proofs
set_option maxHeartbeats 1000000
set_option maxRecDepth 4000
attribute [local irreducible] AO BS Lex A4 Au Spec
variable {TB:Bi}
theorem Qx(w:W)(i:Nat)(c:UInt8)(b:w[((i:Nat):Int).toNat]? = some c):Pure Tryz.prog TB 82 [eT w,eI .i64 i] (eI .i64 (if ME c then (c.toNat:Int) - 97 else -1)):=by
 by_cases h:ME c=true
 ·rw [if_pos h]
  rw [MF,decide_eq_true_eq] at h;exact EK w i c b h
 ·rw [if_neg h]
  rw [MF,decide_eq_true_eq] at h;have hb:=c.toNat_lt;refine eN Tryz.func82 rfl (by kernel_rfl) rfl ?_;intro Γ a;(repeat' first|(refine sA rfl ?_ ?_;first|exact tI|omega) |(refine s4 rfl ‹_› rfl ?_ ?_;omega) |refine s2 rfl λ_ d=>?_ |refine s3 rfl ?_ ?_<;>rintro rfl |refine aU rfl ?_ |refine Aa ?_|(refine aC rfl ?_ ?_<;>rintro⟨⟩)|refine aK ?_|refine aE ?_|refine aB ?_|refine aR ⟨_,rfl,?_⟩)
  all_goals first
   | rfl
   | (exfalso;grind)
theorem Z0(al:Int)(c:UInt8):hasB al (if ME c then (c.toNat:Int) - 97 else -1)=Qt al c:=by
 unfold Qt hasB;by_cases h:ME c=true
 ·rw [if_pos h,h]
  rw [MF,decide_eq_true_eq] at h
  have e:((c.toNat:Int) - 97).toNat=c.toNat - 97:=by omega
  rw [e];simp;omega
 ·rw [if_neg h]
  simp [h]
theorem Ih(w:W)(al:Int)(t:w.length<=1099511627776):Pure Tryz.prog TB 80 [eT w,eI .i64 al] (eB (within w al)):=by
 have i:=Ey (TB:=TB) al;by_cases n:Bv al=true/\w.length<=50000
 ·rw [n.1] at i
  have j:within w al=w.all (Qt al):=by unfold within;simp [n.1,n.2]
  rw [j];refine eG Tryz.func80 rfl (by kernel_rfl) rfl ?_;intro Γ d;(repeat first|refine tA rfl ?_ |refine s2 rfl λ_ a=>?_ |refine sP rfl (i) rfl ?_ |refine s3 rfl ?_ ?_<;>rintro rfl |refine aU rfl ?_ |refine Aa ?_)
  (repeat' first|refine tA rfl ?_ |refine s2 rfl λ_ a=>?_ |refine sP rfl (i) rfl ?_ |refine aU rfl ?_ |refine Aa ?_|(refine aC rfl ?_ ?_<;>rintro⟨⟩));all_goals try contradiction
  all_goals first
   | (exfalso;(simp only[oZ] at *;omega);done)
   | skip
  refine aK ?_;(repeat first|refine tA rfl ?_ |refine aU rfl ?_ |refine Aa ?_);refine aB ?_;refine aL (U:={k:Nat // k<=w.length/\(w.take k).all (Qt al)=true}) [0,1,15] [] rfl rfl (λ⟨k,hk,ha⟩=>[(16,eI .i64 k)]) (λ⟨k,hk,ha⟩=>[]) 0 (λ⟨k,hk,ha⟩=>w.length - k) (⟨0,by omega,rfl⟩) d rfl (by (simp[cX,zC,d])) ?_;rintro⟨k,hk,ha⟩;(try dsimp only[cA,cB]);by_cases o:k < w.length
  ·obtain⟨c,q⟩:=get_some o
   have p:w[((k:Nat):Int).toNat]? = some c:=by simpa using q
   have e:=Qx (TB:=TB) w k c p;have b:=MV (TB:=TB) al (if ME c then (c.toNat:Int) - 97 else -1);rw [Z0] at b;generalize (if ME c then (c.toNat:Int) - 97 else -1:Int)=l at e b;cases g:Qt al c
   ·have m:=Jo q (f:=Qt al) g
    rw [g] at b;rw [m];(repeat first|refine s2 rfl λ_ a=>?_ |refine aU rfl ?_ |refine Aa ?_)
    ((refine aC rfl ?_ ?_<;>rintro⟨⟩);all_goals try(exfalso;(simp only[oZ] at *;omega)))
    refine aK ?_;refine aS (aB ?_);(repeat first|refine tA rfl ?_ |refine s2 rfl λ_ a=>?_ |refine sP rfl (e) rfl ?_|refine sP rfl (b) rfl ?_ |refine aU rfl ?_ |refine Aa ?_)
    (repeat' first|refine tA rfl ?_ |refine sP rfl (e) rfl ?_|refine sP rfl (b) rfl ?_ |refine aU rfl ?_ |refine Aa ?_|(refine aC rfl ?_ ?_<;>rintro⟨⟩));all_goals try contradiction
    (subst_vars;exact aR ⟨_,rfl,rfl⟩)
   ·have m:=HJ q ha g
    rw [g] at b;(repeat first|refine s2 rfl λ_ a=>?_ |refine aU rfl ?_ |refine Aa ?_)
    ((refine aC rfl ?_ ?_<;>rintro⟨⟩);all_goals try(exfalso;(simp only[oZ] at *;omega)))
    refine aK ?_;refine aS (aB ?_);(repeat first|refine tA rfl ?_ |refine s2 rfl λ_ a=>?_ |refine sP rfl (e) rfl ?_|refine sP rfl (b) rfl ?_ |refine aU rfl ?_ |refine Aa ?_)
    (repeat' first|refine tA rfl ?_ |refine sP rfl (e) rfl ?_|refine sP rfl (b) rfl ?_ |refine aU rfl ?_ |refine Aa ?_|(refine aC rfl ?_ ?_<;>rintro⟨⟩));all_goals try contradiction
    refine aK ?_;(repeat first|(refine sA rfl ?_ ?_;first|exact tI|omega) |refine aU rfl ?_ |refine Aa ?_);refine⟨⟨k+1,by omega,m⟩,by dsimp only;(omega),[],?_⟩;simp[cX,zC,d]
  ·have r:=HI ha (show w.length<=k by omega)
   rw [r];(repeat first|refine s2 rfl λ_ a=>?_ |refine aU rfl ?_ |refine Aa ?_)
   ((refine aC rfl ?_ ?_<;>rintro⟨⟩);all_goals try(exfalso;(simp only[oZ] at *;omega)))
   refine aE ?_;(repeat first|refine tA rfl ?_ |refine aU rfl ?_ |refine Aa ?_);(subst_vars;exact aR ⟨_,rfl,rfl⟩)
 ·have j:within w al=false:=by unfold within;grind
  rw [j];by_cases ha:Bv al=true
  ·have s:¬w.length<=50000:=λh=>n ⟨ha,h⟩
   rw [ha] at i;refine eG Tryz.func80 rfl (by kernel_rfl) rfl ?_;intro Γ d;(repeat first|refine tA rfl ?_ |refine s2 rfl λ_ a=>?_ |refine sP rfl (i) rfl ?_ |refine s3 rfl ?_ ?_<;>rintro rfl |refine aU rfl ?_ |refine Aa ?_)
   (repeat' first|refine tA rfl ?_ |refine s2 rfl λ_ a=>?_ |refine sP rfl (i) rfl ?_ |refine aU rfl ?_ |refine Aa ?_|(refine aC rfl ?_ ?_<;>rintro⟨⟩));all_goals try contradiction
   all_goals first
    | (exfalso;(simp only[oZ] at *;omega);done)
    | (subst_vars;exact aR ⟨_,rfl,rfl⟩)
  ·rw [qe _ |>.mp ha] at i
   refine eG Tryz.func80 rfl (by kernel_rfl) rfl ?_;intro Γ d;(repeat first|refine tA rfl ?_ |refine s2 rfl λ_ a=>?_ |refine sP rfl (i) rfl ?_ |refine s3 rfl ?_ ?_<;>rintro rfl |refine aU rfl ?_ |refine Aa ?_)
   (repeat' first|refine tA rfl ?_ |refine s2 rfl λ_ a=>?_ |refine sP rfl (i) rfl ?_ |refine aU rfl ?_ |refine Aa ?_|(refine aC rfl ?_ ?_<;>rintro⟨⟩));all_goals try contradiction
   (subst_vars;exact aR ⟨_,rfl,rfl⟩)
def Se(o:Option AK):E:=match o with
 | some p=>.t [(true,[.d (iD p.al),.d (CI p.nx),.d (Fv p.ac)]),(false,[.d (bD true)])]
 | none=>.t [(true,[.d (iD 0),.d (.l []),.d (.l [])]),(false,[.d (bD false)])]
end Go.Am
namespace Go.Am
open Go Go.Proofs
set_option maxHeartbeats 1000000
set_option maxRecDepth 4000
attribute [local irreducible] AO BS Lex A4 Au Spec
section
variable {P:Program}{TB:Bi}{Γ:Ctx}{d:Option Tmp}{ty:TypeId}{pos:String}{af:Array Edge}{g:Option (Nat×Bool)}{f:Env}{σ:Ab}{nx:Nat}
theorem eJ{t k e:TypeId}{x:Operand}{id:Nat}{es:List (Value×Value)}[j:DV P t k e](b:ev f x=some (.o (.mp id)))(i:look σ id=some (.mp es)) :
 AO P TB Γ ⟨d,.call ⟨.builtin .len,#[x],#[t]⟩,ty,pos,af,g⟩ f σ nx (eI .i64 es.length):=
 AG λV ρ h hi=>by
  have a:=h.get (by simp [Op.operands,Call.operands]) b;generalize c:ρ x=v at a
  cases a with
  | mp hid=>
   obtain⟨p,ents,clock,n,m⟩:=hi.st.obj id _ i
   have l:ents.size=es.length:=by have:=congrArg List.length m;simpa using this
   refine⟨.int .i64 es.length,?_,.d (.v rfl)⟩;simp [execOp,resolve,invoke,builtin,c,Builtin.len_,run_underlying j.out,MapKept.run_getObj_map n,goInt,l,go_sem]
end
variable {TB:Bi}
theorem Nt(L:W->Bool)(t:Bh):∀k,k<=t.rows.length->(Bg L t k).length<=k/\((Bg L t k).length=k↔((AQ L t).take k).Nodup)
 | 0,_=>by simp [Bg]
 | k + 1,hk=>by
  obtain⟨e,d⟩:=Nt L t k (by omega);have c:=Jd (L:=L) (t:=t) (k:=k) (by omega);have b:=KM L t k (by omega) (marks L t.cols (t.rows.getD k []));rw [Bg];by_cases a:marks L t.cols (t.rows.getD k [])∈(AQ L t).take k
  ·rw [if_pos a] at b
   rw [b];simp only [Option.isSome_some,if_true];refine⟨by omega,?_⟩;constructor
   ·intro h;omega
   ·intro h
    rw [gc,c] at h;simp only [qv] at h;rw [nR] at h;exact absurd rfl (h.2.2 _ a _ (by simp))
  ·rw [if_neg a] at b
   rw [b];simp only [Option.isSome_none,pb,if_false];refine⟨by simp;omega,?_⟩;simp only [nw,nB,o9];constructor
   ·intro h
    exact dY c (d.1 (by omega)) a
   ·intro h
    rw [gc,c] at h;simp only [qv] at h;rw [nR] at h;have:=d.2 h.1;omega
theorem UJ(L:W->Bool)(t:Bh):(Bg L t t.rows.length).length=t.rows.length↔(AQ L t).Nodup:=by
 have:=(Nt L t t.rows.length (io _)).2;rwa [lm (by simp [AQ])] at this
theorem YX.short{al:Int}{t:Bh}(h:YX al t):∀(i:Nat) w,t.rows[i]? = some w->w.length<=i:=by
 intro i
 induction i using Nat.strongRecOn with
 | ind i b=>
  intro w hi
  rcases nM i with rfl|e
  ·have:=h.r0.symm.trans hi
   injection this with this
   subst this;simp
  ·obtain⟨c,j,d,a⟩:=h.pre i w hi e
   have:=b j d _ a;rw [List.length_dropLast] at this;omega
theorem YX.bd{al:Int}{t:Bh}(h:YX al t):GA al 20000 t:=by
 refine⟨λw hw=>⟨(h.rw w hw).2,?_⟩,λx a=>⟨(h.cw x a).2,by have:=(h.cw x a).1;omega⟩,h.rl,h.cl⟩;obtain⟨i,hi,b⟩:=nC hw;have:=h.short i w (by rw [d5 hi,b]);have:=h.rl;omega
theorem Ow{c:C}{L:W->Bool}{ok:W->Prop}(g:EW Tryz.prog TB c L ok)(al:Int)(w:W)(e:w.length<=1099511627776):Pure Tryz.prog TB 147 [GH al c,eT w] (eB (av al w)):=by
 have b:=Ih (TB:=TB) w al e -- 80;have h:=Dq c g.Bt
 have f:av al w=(decide ((w.length:Int)<=4000) && within w al):=by unfold av;rw [Bool.and_comm];congr 1;rw [decide_eq_decide];omega
 rw [f];refine eG Tryz.func147 rfl (by kernel_rfl) rfl ?_;intro Γ d;(repeat first |refine sN rfl ?_ |((first|refine sM rfl ?_ ?_|refine s4 rfl ‹_› rfl ?_ ?_);first|exact tI|omega|simp only[oZ] at *;omega) |refine s2 rfl λ_ a=>?_ |refine s3 rfl ?_ ?_<;>rintro rfl |refine aU rfl ?_ |refine Aa ?_ |refine rE (by kernel_rfl) ?_);(refine pW rfl ?_ rfl (by rfl);refine Db rfl rfl ?_);(repeat first |refine sN rfl ?_ |((first|refine sA rfl ?_ ?_|refine s4 rfl ‹_› rfl ?_ ?_);first|exact tI|omega|simp only[oZ] at *;omega) |refine s2 rfl λ_ a=>?_ |(refine sC rfl (b) ?_;intro _ a) |refine s3 rfl ?_ ?_<;>rintro rfl |refine aU rfl ?_ |refine Aa ?_)
 (repeat' first |refine sN rfl ?_ |((first|refine sA rfl ?_ ?_|refine s4 rfl ‹_› rfl ?_ ?_);first|exact tI|omega|simp only[oZ] at *;omega) |refine s2 rfl λ_ a=>?_ |(refine sC rfl (b) ?_;intro _ a) |refine s3 rfl ?_ ?_<;>rintro rfl |refine aU rfl ?_ |refine Aa ?_|(refine aC rfl ?_ ?_<;>rintro⟨⟩));all_goals try contradiction
 all_goals (subst_vars;refine aR ⟨_,rfl,?_⟩;show E.o _=E.o _;congr;grind)
end Go.Am
namespace Go.Am
open Go Go.Proofs
set_option maxHeartbeats 1000000
set_option maxRecDepth 4000
attribute [local irreducible] AO BS Lex A4 Au Spec
variable {TB:Bi}
theorem N7{c:C}{L:W->Bool}{ok:W->Prop}(H:EW Tryz.prog TB c L ok)(al:Int)(hal:Bv al=true)(t:Bh)(Z:YX al t->IK ok (AU al) t)(G:kR t) :
    Pure Tryz.prog TB 63 [GH al c,GY t] (eB (C6 L al t)):=by
  have y:=Dq c H.Bt;have X:=G.rl;have hcl:=G.cl
  have B:0<=al:=by unfold Bv at hal;simp at hal;omega
  by_cases r:KV al t=true
  · have u : Ho al t=(EG (rowAt al t.rows) t.rows.length && EG (Lf al t.cols) t.cols.length):=by unfold Ho;rw [r];rfl
    have b:C6 L al t=((EG (rowAt al t.rows) t.rows.length && EG (Lf al t.cols) t.cols.length) && decide (AQ L t).Nodup):=by unfold C6;rw [u]
    unfold KV at r;simp only [d6,decide_eq_true_eq] at r;obtain⟨h1,h2,h3,h4,h5⟩:=r;have R:=get_map (g:=DQ) (k:=0) h4;have Q:=get_map (g:=DQ) (k:=0) h5;have e0:((0:Nat):Int).toNat=(0:Int).toNat:=rfl;rw [e0] at R Q
    have hdr:((t.rows.map DQ).drop (1:Int).toNat).length=t.rows.length - 1:=by simp
    have hdc:((t.cols.map DQ).drop (1:Int).toNat).length=t.cols.length - 1:=by simp
    refine eG Tryz.func63 rfl (by kernel_rfl) rfl ?_;intro Γ e;(repeat first|refine aU rfl ?_);(refine pW rfl ?_ rfl (by rfl);refine Db rfl rfl ?_);(refine Af rfl ?_;refine Ew (λ_ _=>DJ rfl rfl rfl) rfl ?_);(repeat first|refine tA rfl ?_ |refine aU rfl ?_ |refine Aa ?_);refine rG (Ha []) (by kernel_rfl) ?_;(repeat first|refine sN rfl ?_ |refine tA rfl ?_ |refine s2 rfl λ_ a=>?_ |refine s3 rfl ?_ ?_<;>rintro rfl |refine aU rfl ?_ |refine Aa ?_)
    (repeat' first|refine sN rfl ?_ |refine tA rfl ?_ |(refine s4 rfl ‹_› rfl ?_ ?_;omega) |refine s2 rfl λ_ a=>?_ |refine s3 rfl ?_ ?_<;>rintro rfl |refine aU rfl ?_ |refine Aa ?_|(refine aC rfl ?_ ?_<;>rintro⟨⟩));all_goals try contradiction
    all_goals first
      | (exfalso;(simp only[oZ] at *;omega);done)
      | (exfalso;simp at *;done)
      | skip
    refine aK ?_;(repeat first|refine tA rfl ?_|(refine Af rfl ?_;refine gA rfl ?_;first| refine gS (λ_ _=>Wy rfl rfl (by simp) (by omega) (by (simp only[oZ] at *;omega))) ?_) |refine aU rfl ?_ |refine Aa ?_);refine aB ?_;refine aL (U:={k:Nat // k+1<=t.rows.length/\EG (rowAt al t.rows) (k+1)=true}) [2,3,5,6,46,47] [0] rfl rfl (λ⟨k,hk,ha⟩=>[(48,eI .i64 k)]) (λ⟨k,hk,ha⟩=>[]) 1 (λ⟨k,hk,ha⟩=>t.rows.length - k) (⟨0,by omega,rfl⟩) e rfl (by (simp[cX,zC,e,y])) ?_;rintro⟨k,hk,ha⟩;(try dsimp only[cA,cB]);by_cases i:k+1 < t.rows.length
    · obtain⟨x,p⟩:=get_some i
      have K:((t.rows.map DQ).drop (1:Int).toNat)[((k:Nat):Int).toNat]? = some (DQ x):=by rw [nn,po];simp [p]
      have J:=G.rb x (ce p)
      have f:rowAt al t.rows (k+1)=(!decide (x.length=0) && (within x al && decide (x.dropLast∈t.rows.take (k+1)))):=by unfold rowAt;rw [p]
      have s:=Ih (TB:=TB) x al (by omega)
      have m:Pure Tryz.prog TB 146 [.o (.d (.l ((t.rows.map DQ).take ((k:Int)+1).toNat))),eT (x.take ((x.length:Int) - 1).toNat)] (eB (decide (x.dropLast∈t.rows.take (k+1)))):=by
        have e1:(x.take ((x.length:Int) - 1).toNat)=x.dropLast:=by rw [List.dropLast_eq_take];congr 1;omega
        rw [e1,show ((k:Int)+1).toNat=k+1 by omega,<-p9];exact FY _ _
      have I:(x=[])↔x.length=0:=by rw [m7]
      (repeat first|refine s2 rfl λ_ a=>?_ |refine aU rfl ?_ |refine Aa ?_)
      ((refine aC rfl ?_ ?_<;>rintro⟨⟩);all_goals try(exfalso;(simp only[oZ] at *;omega)))
      refine aK ?_;refine aS (aB ?_);(repeat first|refine tA rfl ?_ |(refine s4 rfl ‹_› rfl ?_ ?_;omega) |refine aU rfl ?_ |refine Aa ?_);refine rG (Ha []) (by kernel_rfl) ?_;by_cases n:x=[]
      · rw [decide_eq_true (I.1 n)] at f
        (repeat' first|(refine sA rfl ?_ ?_;first|exact tI|omega) |refine s2 rfl λ_ a=>?_ |(refine sC rfl (s) ?_;intro _ a)|(refine sC rfl (m) ?_;intro _ a) |refine s3 rfl ?_ ?_<;>rintro rfl |refine aU rfl ?_ |refine Aa ?_|(refine aC rfl ?_ ?_<;>rintro⟨⟩));all_goals try contradiction
        all_goals first
          | (exfalso;simp at *;grind;done)
          | (refine aR ⟨_,rfl,?_⟩;show eB false=eB _;rw [b,Kx (by omega) i (by rw [f];rfl)];rfl)
      · have S:0 < x.length:=pE.2 n
        (repeat' first|(refine sA rfl ?_ ?_;first|exact tI|omega) |refine s2 rfl λ_ a=>?_ |(refine sC rfl (s) ?_;intro _ a)|(refine sC rfl (m) ?_;intro _ a)|(refine Af rfl ?_;refine gA rfl ?_;first| refine gS (λ_ _=>Rp rfl rfl (by simp) (by omega) (by (simp only[oZ] at *;omega))) ?_|refine gS (λ_ _=>WG rfl rfl (by omega) (by omega)) ?_) |refine s3 rfl ?_ ?_<;>rintro rfl |refine aU rfl ?_ |refine Aa ?_|(refine aC rfl ?_ ?_<;>rintro⟨⟩));all_goals try contradiction
        all_goals first
          | (exfalso;exact n (of_decide_eq_true ‹decide (x=[])=true›);done)
          | (refine aR ⟨_,rfl,?_⟩;show eB false=eB _;rw [b,Kx (by omega) i (by rw [f];grind)];rfl)
          | (have q:=MS ha (by rw [f];grind)
             refine aK ?_;(repeat first|(refine sA rfl ?_ ?_;first|exact tI|omega) |refine aU rfl ?_ |refine Aa ?_);refine⟨⟨k+1,by omega,q⟩,by dsimp only;(omega),[0],?_⟩
             simp[cX,zC,e,y])
    · obtain j:k+1=t.rows.length:=by omega
      rw [j] at ha;rw [ha,pC] at b;(repeat first|refine s2 rfl λ_ a=>?_ |refine aU rfl ?_ |refine Aa ?_)
      ((refine aC rfl ?_ ?_<;>rintro⟨⟩);all_goals try(exfalso;(simp only[oZ] at *;omega)))
      refine aE ?_;(repeat first|refine tA rfl ?_|(refine Af rfl ?_;refine gA rfl ?_;first| refine gS (λ_ _=>Wy rfl rfl (by simp) (by omega) (by (simp only[oZ] at *;omega))) ?_) |refine aU rfl ?_ |refine Aa ?_);refine aB ?_;have w:=ha;clear j ha hk;refine aL (U:={k:Nat // k+1<=t.cols.length/\EG (Lf al t.cols) (k+1)=true}) [2,3,5,6,77,78] [0] rfl rfl (λ⟨k,hk,ha⟩=>[(79,eI .i64 k)]) (λ⟨k,hk,ha⟩=>[]) 1 (λ⟨k,hk,ha⟩=>t.cols.length - k) (⟨0,by omega,rfl⟩) e rfl (by (simp[cX,zC,e,y])) ?_;rintro⟨k,hk,ha⟩;(try dsimp only[cA,cB]);by_cases i:k+1 < t.cols.length
      · obtain⟨x,p⟩:=get_some i
        have K:((t.cols.map DQ).drop (1:Int).toNat)[((k:Nat):Int).toNat]? = some (DQ x):=by rw [nn,po];simp [p]
        have J:=G.cb x (ce p)
        have f:Lf al t.cols (k+1)=(decide (x.length<=4000) && (within x al && !decide (x∈t.cols.take (k+1)))):=by unfold Lf;rw [p]
        have M:=Ow (TB:=TB) H al x (by omega)
        have m:Pure Tryz.prog TB 146 [.o (.d (.l ((t.cols.map DQ).take ((k:Int)+1).toNat))),eT x] (eB (decide (x∈t.cols.take (k+1)))):=by
          rw [show ((k:Int)+1).toNat=k+1 by omega,<-p9];exact FY _ _
        (repeat first|refine s2 rfl λ_ a=>?_ |refine aU rfl ?_ |refine Aa ?_)
        ((refine aC rfl ?_ ?_<;>rintro⟨⟩);all_goals try(exfalso;(simp only[oZ] at *;omega)))
        refine aK ?_;refine aS (aB ?_);(repeat first|refine tA rfl ?_ |(refine s4 rfl ‹_› rfl ?_ ?_;omega) |refine aU rfl ?_ |refine Aa ?_)
        (repeat' first|(refine sA rfl ?_ ?_;first|exact tI|omega) |refine s2 rfl λ_ a=>?_ |(refine sC rfl (m) ?_;intro _ a)|(refine Af rfl ?_;refine gA rfl ?_;first| (refine gB (λ_ _=>A6 rfl rfl (by simp [E.Bt,C.Cv,C.Bt,H.Bt,eC]) M rfl) ?_;intro _ a)|refine gS (λ_ _=>Rp rfl rfl (by simp) (by omega) (by (simp only[oZ] at *;omega))) ?_) |refine s3 rfl ?_ ?_<;>rintro rfl |refine aU rfl ?_ |refine Aa ?_|(refine aC rfl ?_ ?_<;>rintro⟨⟩));all_goals try contradiction
        all_goals first
          | (refine aR ⟨_,rfl,?_⟩;show eB false=eB _;rw [b,Kx (by omega) i (by rw [f];unfold av at *;grind)];rfl)
          | (have q:=MS ha (by rw [f];unfold av at *;grind)
             refine aK ?_;(repeat first|(refine sA rfl ?_ ?_;first|exact tI|omega) |refine aU rfl ?_ |refine Aa ?_);refine⟨⟨k+1,by omega,q⟩,by dsimp only;(omega),[0],?_⟩
             simp[cX,zC,e,y])
      · obtain j:k+1=t.cols.length:=by omega
        rw [j] at ha;rw [ha,pC] at b;have v:YX al t:=NX (by rw [u,w,ha];rfl);have A:=(v.bd.dn (Z v) (by omega)).1;have z:=UJ L t
        have Y:(Ev (Bg L t t.rows.length)).length=(Bg L t t.rows.length).length:=by simp [Ev]
        (repeat first|refine s2 rfl λ_ a=>?_ |refine aU rfl ?_ |refine Aa ?_)
        ((refine aC rfl ?_ ?_<;>rintro⟨⟩);all_goals try(exfalso;(simp only[oZ] at *;omega)))
        refine aE ?_;(repeat first|refine tA rfl ?_ |refine aU rfl ?_);(refine pW rfl ?_ rfl (by rfl);refine Ag [] rfl rfl (Gt H al t A) ⟨rfl,by simp,by simp⟩ (by simp [Em,E.AX,C.BK,C.AX,y,eC]) trivial ?_;rintro x0 T V ⟨rfl,rfl,rfl⟩ _);(repeat first|refine sN rfl ?_ |refine tA rfl ?_ |refine s2 rfl λ_ a=>?_|(refine Af rfl ?_;refine gA rfl ?_;first| refine gQ (eJ rfl rfl) (by rfl) ?_) |refine Aa ?_);refine aR ⟨_,rfl,?_⟩;rw [b];subst_vars
        show eB _=eB _
        congr 4;rw [eq_iff_iff];exact⟨λh=>z.1 (by omega),λh=>by have:=z.2 h;omega⟩
  · have b:C6 L al t=false:=by unfold C6 Ho;simp [r]
    rw [b]
    have F:¬((1<=t.rows.length/\t.rows.length<=12)/\(1<=t.cols.length/\t.cols.length<=20)/\t.rows[0]? = some []/\t.cols[0]? = some []):=by
      intro h;apply r;unfold KV;simp [h,B]
    have N:(t.rows.map DQ)[(0:Int).toNat]? = (t.rows[0]?).map DQ:=by simp
    have P:(t.cols.map DQ)[(0:Int).toNat]? = (t.cols[0]?).map DQ:=by simp
    have hRn:t.rows[0]? = none->t.rows.length=0:=λh=>by have:=pJ.1 h;omega
    have hCn:t.cols[0]? = none->t.cols.length=0:=λh=>by have:=pJ.1 h;omega
    refine eG Tryz.func63 rfl (by kernel_rfl) rfl ?_;intro Γ e;(repeat first|refine aU rfl ?_);(refine pW rfl ?_ rfl (by rfl);refine Db rfl rfl ?_);(refine Af rfl ?_;refine Ew (λ_ _=>DJ rfl rfl rfl) rfl ?_);(repeat first|refine tA rfl ?_ |refine aU rfl ?_ |refine Aa ?_);refine rG (Ha []) (by kernel_rfl) ?_
    cases hR:t.rows[0]?<;>cases hC:t.cols[0]?<;>rw [hR] at N F<;>rw [hC] at P F<;>(
      (repeat first|refine sN rfl ?_ |refine tA rfl ?_ |refine s2 rfl λ_ a=>?_ |refine s3 rfl ?_ ?_<;>rintro rfl |refine aU rfl ?_ |refine Aa ?_)
      (repeat' first|refine sN rfl ?_ |refine tA rfl ?_ |(refine s4 rfl ‹_› rfl ?_ ?_;omega) |refine s2 rfl λ_ a=>?_ |refine s3 rfl ?_ ?_<;>rintro rfl |refine aU rfl ?_ |refine Aa ?_|(refine aC rfl ?_ ?_<;>rintro⟨⟩));all_goals try contradiction
      all_goals first
        | (subst_vars;exact aR ⟨_,rfl,rfl⟩)
        | (exfalso;grind;done))
theorem T7{c:C}{L:W->Bool}{ok:W->Prop}(b:EW Tryz.prog TB c L ok)(al:Int)(t:Bh)(ht:Vs ok t)(f:∀w∈t.rows,∀l∈AU al,∀x∈t.cols,ok (w++[l]++x)) :
 Pure Tryz.prog TB 64 [GH al c,GY t] (eB (Bw L (AU al) t).isNone):=by
 have i:=Dq c b.Bt;have a:=Jy b al t ht f
 have e:Bw L (AU al) t=none\/∃w,Bw L (AU al) t=some w:=by cases Bw L (AU al) t<;>simp
 rcases e with h|⟨w,h⟩<;>rw [h] at a |- <;> (
  refine eG Tryz.func64 rfl (by kernel_rfl) rfl ?_;intro Γ d;(repeat first|refine aU rfl ?_);(refine pW rfl ?_ rfl (by rfl);refine Db rfl rfl ?_);(refine Af rfl ?_;refine Ew (λ_ _=>DJ rfl rfl rfl) rfl ?_);(repeat first|refine tA rfl ?_ |refine s2 rfl λ_ g=>?_|(refine Af rfl ?_;refine gA rfl ?_;first| refine gS (λ_ _=>A6 rfl rfl (by simp [E.Bt,C.Cv,C.Bt,b.Bt,eC]) a rfl) ?_) |refine aU rfl ?_ |refine Aa ?_)
  (repeat' first| (refine aC rfl ?_ ?_<;>rintro⟨⟩));all_goals try contradiction
  (subst_vars;exact aR ⟨_,rfl,rfl⟩))
theorem Ou(L:W->Bool)(al:Int)(t:Bh):FX L al t=(C6 L al t && (Bw L (AU al) t).isNone):=rfl
theorem JA(p:AK):Pure Tryz.prog TB 48 [Bm p] (.t [(true,[.d (BX (Gn p).rows),.d (BX (Gn p).cols)]),(false,[.d (bD (decide (HR p > 0)))])]):=by
 refine eG Tryz.func48 rfl (by kernel_rfl) rfl ?_;intro Γ b;(repeat first |refine sN rfl ?_ |((first|refine sA rfl ?_ ?_|refine s4 rfl ‹_› rfl ?_ ?_);first|exact tI|omega|simp only[oZ] at *;omega) |refine s2 rfl λ_ a=>?_ |refine sP rfl (XS p) rfl ?_|(refine Af rfl ?_;refine gA rfl ?_;first|refine gS (λ_ _=>q_decide rfl) ?_) |refine s3 rfl ?_ ?_<;>rintro rfl |refine aU rfl ?_ |refine Aa ?_);subst a;exact aR ⟨_,rfl,rfl⟩
theorem Xj(a b:List Int):Pure Tryz.prog TB 56 [AH a,AH b] (eB (decide (a=b))):=by
  refine eN Tryz.func56 rfl (by kernel_rfl) rfl ?_;intro Γ c;refine Au.bound 0 rfl λj=>?_;have j:=j (a.map Br) .refl;rw [f7] at j;(repeat first|refine sN rfl ?_ |refine tA rfl ?_ |refine s2 rfl λ_ d=>?_ |refine aU rfl ?_ |refine Aa ?_);(refine aC rfl ?_ ?_<;>rintro⟨⟩)
  · (repeat first|refine tA rfl ?_ |refine aU rfl ?_ |refine Aa ?_)
    refine aR ⟨_,rfl,?_⟩
    have r:a≠b:=λh=>by subst h;(simp only[oZ] at *;omega)
    show E.o _=E.o _;congr;grind
  refine aK ?_
  have s:a.length=b.length:=by (simp only[oZ] at *;omega)
  (repeat first|refine tA rfl ?_ |refine aU rfl ?_ |refine Aa ?_);refine aB ?_;refine Au.BV (U:={k:Nat // k<=a.length/\a.take k=b.take k}) (λ⟨k,hk,e⟩=>[(0,AH a),(1,AH b),(5,eI .i64 k)]) (λ⟨k,hk,e⟩=>[]) 0 (λ⟨k,hk,e⟩=>a.length - k) (⟨0,by omega,by simp⟩) [] (IS c rfl rfl) (by (simp[cX,zC,c])) ?_;rintro⟨k,hk,e⟩;(try dsimp only);(repeat first|refine sN rfl ?_ |refine tA rfl ?_ |refine s2 rfl λ_ d=>?_ |refine aU rfl ?_ |refine Aa ?_)
  ((refine aC rfl ?_ ?_<;>rintro⟨⟩);all_goals try (simp at d;done))
  · have f:k < a.length:=by (simp only[oZ] at *;omega)
    obtain⟨x,n⟩:=get_some (l:=a) (k:=k) f;obtain⟨y,m⟩:=get_some (l:=b) (k:=k) (by omega);have q:=get_map (g:=Br) n;have p:=get_map (g:=Br) m;refine aK ?_;refine aS (aB ?_);(repeat first|refine aU rfl ?_);refine rG (Ha []) (by kernel_rfl) ?_;(repeat first|refine tA rfl ?_ |(refine s4 rfl ‹_› rfl ?_ ?_;omega) |refine s2 rfl λ_ d=>?_ |refine Aa ?_);(refine aC rfl ?_ ?_<;>rintro⟨⟩)
    all_goals first
      | ((repeat first|refine tA rfl ?_ |refine aU rfl ?_ |refine Aa ?_)
         refine aR ⟨_,rfl,?_⟩
         show E.o _=E.o _;congr;grind
         done)
      | (refine aK ?_
         (repeat first|(refine sA rfl ?_ ?_;first|exact tI|omega) |refine aU rfl ?_ |refine Aa ?_);refine⟨⟨k+1,by omega,by rw [gc,gc,n,m];grind⟩,by dsimp only;(omega),[],?_⟩
         simp[cX,zC,c])
  · refine aE ?_
    (repeat first|refine tA rfl ?_ |refine aU rfl ?_ |refine Aa ?_);refine aR ⟨_,rfl,?_⟩
    have i:a.length<=k:=by (simp only[oZ] at *;omega)
    rw [lm i,lm (by omega)] at e
    show E.o _=E.o _;congr;grind
theorem TU(a b:List Bool):Pure Tryz.prog TB 55 [Qm a,Qm b] (eB (decide (a=b))):=by
  refine eN Tryz.func55 rfl (by kernel_rfl) rfl ?_;intro Γ c;refine Au.bound 0 rfl λj=>?_;have j:=j (a.map Gk) .refl;rw [f7] at j;(repeat first|refine sN rfl ?_ |refine tA rfl ?_ |refine s2 rfl λ_ d=>?_ |refine aU rfl ?_ |refine Aa ?_);(refine aC rfl ?_ ?_<;>rintro⟨⟩)
  · (repeat first|refine tA rfl ?_ |refine aU rfl ?_ |refine Aa ?_)
    refine aR ⟨_,rfl,?_⟩
    have r:a≠b:=λh=>by subst h;(simp only[oZ] at *;omega)
    show E.o _=E.o _;congr;grind
  refine aK ?_
  have s:a.length=b.length:=by (simp only[oZ] at *;omega)
  (repeat first|refine tA rfl ?_ |refine aU rfl ?_ |refine Aa ?_);refine aB ?_;refine Au.BV (U:={k:Nat // k<=a.length/\a.take k=b.take k}) (λ⟨k,hk,e⟩=>[(0,Qm a),(1,Qm b),(5,eI .i64 k)]) (λ⟨k,hk,e⟩=>[]) 0 (λ⟨k,hk,e⟩=>a.length - k) (⟨0,by omega,by simp⟩) [] (IS c rfl rfl) (by (simp[cX,zC,c])) ?_;rintro⟨k,hk,e⟩;(try dsimp only);(repeat first|refine sN rfl ?_ |refine tA rfl ?_ |refine s2 rfl λ_ d=>?_ |refine aU rfl ?_ |refine Aa ?_)
  ((refine aC rfl ?_ ?_<;>rintro⟨⟩);all_goals try (simp at d;done))
  · have f:k < a.length:=by (simp only[oZ] at *;omega)
    obtain⟨x,n⟩:=get_some (l:=a) (k:=k) f;obtain⟨y,m⟩:=get_some (l:=b) (k:=k) (by omega);have q:=get_map (g:=Gk) n;have p:=get_map (g:=Gk) m;refine aK ?_;refine aS (aB ?_);(repeat first|refine aU rfl ?_);refine rG (Ha []) (by kernel_rfl) ?_;(repeat first|refine tA rfl ?_ |(refine s4 rfl ‹_› rfl ?_ ?_;omega) |refine s2 rfl λ_ d=>?_ |refine Aa ?_);(refine aC rfl ?_ ?_<;>rintro⟨⟩)
    all_goals first
      | ((repeat first|refine tA rfl ?_ |refine aU rfl ?_ |refine Aa ?_)
         refine aR ⟨_,rfl,?_⟩
         show E.o _=E.o _;congr;grind
         done)
      | (refine aK ?_
         (repeat first|(refine sA rfl ?_ ?_;first|exact tI|omega) |refine aU rfl ?_ |refine Aa ?_);refine⟨⟨k+1,by omega,by rw [gc,gc,n,m];grind⟩,by dsimp only;(omega),[],?_⟩
         simp[cX,zC,c])
  · refine aE ?_
    (repeat first|refine tA rfl ?_ |refine aU rfl ?_ |refine Aa ?_);refine aR ⟨_,rfl,?_⟩
    have i:a.length<=k:=by (simp only[oZ] at *;omega)
    rw [lm i,lm (by omega)] at e
    show E.o _=E.o _;congr;grind
end Go.Am
namespace Go.Am
open Go
set_option linter.unusedVariables false
theorem Mw{p:AK}(hp:AI p=true):Y8 (ga p) (LA p) p.al:=λw hw a=>by
 unfold ga;rw [hp,I7 hw a (Al hp).1];rfl
theorem JX{p:AK}(hp:AI p=true){k:Nat}(hk:k<=Bl p):FX (ga p) p.al (BT p k)=true:=by
 obtain⟨h,l,f,j,e⟩:=Gh hp k hk;have b:=WU hp hk;have c:=Mw hp;have a:=Al hp;have g:=(EJ hp).1;have d:=h.lu c b (by omega)
 have i:0<=p.al:=by
  have:=a.1;unfold Bv at this;simp at this;omega
 refine MH (YU a.1 i d.toTOk f (by omega) (λw hw=>by have:=(b.onR w hw).2;omega) (λw hw=>by have:=e w hw;omega)) d.QS
theorem fv{p:AK}(hp:AI p=true){k:Nat}(hk:k<=Bl p):kR (BT p k):=(GU (O7 (JX hp hk)).1).1.sz
end Go.Am
namespace Go.Am
open Go Go.Proofs
set_option maxHeartbeats 1000000
set_option maxRecDepth 4000
attribute [local irreducible] AO BS Lex A4 Au Spec
variable {TB:Bi}
theorem Oo(a b:AK):Pure Tryz.prog TB 15 [Bm a,Bm b] (eB (decide (a.al=b.al/\a.nx=b.nx/\a.ac=b.ac))):=by
  have p:=TU (TB:=TB) a.ac b.ac;refine eN Tryz.func15 rfl (by kernel_rfl) rfl ?_;intro Γ d;refine Au.bound 0 rfl λj=>?_;have j:=j (a.nx.map DM) ⟨1,_,rfl,.refl⟩;rw [f7] at j;(repeat first|refine tA rfl ?_ |refine s2 rfl λ_ c=>?_ |(refine sC rfl (p) ?_;intro _ c) |refine s3 rfl ?_ ?_<;>rintro rfl |refine aU rfl ?_ |refine Aa ?_);(repeat' first|refine sN rfl ?_ |refine tA rfl ?_ |refine s2 rfl λ_ c=>?_ |(refine sC rfl (p) ?_;intro _ c) |refine s3 rfl ?_ ?_<;>rintro rfl |refine aU rfl ?_ |refine Aa ?_|(refine aC rfl ?_ ?_<;>rintro⟨⟩))
  all_goals first
    | (refine aR ⟨_,rfl,?_⟩
       show E.o _=E.o _;congr;grind
       done)
    | skip
  · rename_i t bb e
    have u:a.ac=b.ac:=by simp at c;rw [c] at e;exact of_decide_eq_true e
    have hal:a.al=b.al:=by simpa using ‹decide (a.al≠b.al)=false›
    have s:a.nx.length=b.nx.length:=by (simp only[oZ] at *;omega)
    refine aK ?_;(repeat first|refine tA rfl ?_ |refine aU rfl ?_ |refine Aa ?_);refine aB ?_;refine Au.BV (U:={k:Nat // k<=a.nx.length/\a.nx.take k=b.nx.take k}) (λ⟨k,hk,f⟩=>[(2,.o (.ip (BO a))),(3,.o (.ip (BO b))),(5,eI .i64 k)]) (λ⟨k,hk,f⟩=>[]) 0 (λ⟨k,hk,f⟩=>a.nx.length - k) (⟨0,by omega,by simp⟩) [] (IS d rfl rfl) (by (simp[cX,zC,d])) ?_;rintro⟨k,hk,f⟩;(try dsimp only);(repeat first|refine sN rfl ?_ |refine tA rfl ?_ |refine s2 rfl λ_ c=>?_ |refine aU rfl ?_ |refine Aa ?_)
    ((refine aC rfl ?_ ?_<;>rintro⟨⟩);all_goals try (simp at c;done))
    · have h:k < a.nx.length:=by (simp only[oZ] at *;omega)
      obtain⟨x,n⟩:=get_some (l:=a.nx) (k:=k) h;obtain⟨y,m⟩:=get_some (l:=b.nx) (k:=k) (by omega);have r:=get_map (g:=DM) n;have q:=get_map (g:=DM) m;have v:=Xj (TB:=TB) x y;refine aK ?_;refine aS (aB ?_);(repeat first|refine aU rfl ?_);refine rG (Ha []) (by kernel_rfl) ?_;(repeat first|refine tA rfl ?_ |(refine s4 rfl ‹_› rfl ?_ ?_;omega) |refine s2 rfl λ_ c=>?_ |(refine sC rfl (v) ?_;intro _ c) |refine Aa ?_);(refine aC rfl ?_ ?_<;>rintro⟨⟩)
      all_goals first
        | ((repeat first|refine tA rfl ?_ |refine aU rfl ?_ |refine Aa ?_)
           refine aR ⟨_,rfl,?_⟩
           show E.o _=E.o _;congr;grind
           done)
        | (refine aK ?_
           (repeat first|(refine sA rfl ?_ ?_;first|exact tI|omega) |refine aU rfl ?_ |refine Aa ?_);refine⟨⟨k+1,by omega,by rw [gc,gc,n,m];grind⟩,by dsimp only;(omega),[],?_⟩
           simp[cX,zC,d])
    · refine aE ?_
      (repeat first|refine tA rfl ?_ |refine aU rfl ?_ |refine Aa ?_);refine aR ⟨_,rfl,?_⟩
      have i:a.nx.length<=k:=by (simp only[oZ] at *;omega)
      rw [lm i,lm (by omega)] at f
      show E.o _=E.o _;congr;grind
theorem Zm(a:AK):Pure Tryz.prog TB 15 [Bm a,Bm a] (eB true):=by
 have ag:=Oo (TB:=TB) a a;rw [decide_eq_true (⟨rfl,rfl,rfl⟩:a.al=a.al/\a.nx=a.nx/\a.ac=a.ac)] at ag;exact ag
end Go.Am
