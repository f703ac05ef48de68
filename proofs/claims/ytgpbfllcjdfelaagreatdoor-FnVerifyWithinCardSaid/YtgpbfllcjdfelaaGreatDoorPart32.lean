/-
  Two automata side by side: the graph, and that the reference's is the same.
-/
import Derived.Test.YtgpbfllcjdfelaaGreatDoorPart29
import Derived.Test.YtgpbfllcjdfelaaGreatDoorPart27
set_option linter.all false
namespace Go.Am
open Go
set_option linter.unusedVariables false
def Lf(a b:AX)(s0:Int)(op:Bool->Bool->Bool):Gr:=
 ⟨a.nx.length*b.nx.length,λx l=>[Cg a (x / b.nx.length).toNat l*b.nx.length+Cg b (x % b.nx.length).toNat l],λx=>op (a.ac.getD (x / b.nx.length).toNat false) (b.ac.getD (x % b.nx.length).toNat false),Ac a.al,s0⟩
def Ee(a b:AX)(kd:Int):Net:=⟨[],[a,b],[0,0],a.al,kd,0⟩
theorem Ix{a b:AX}(hb:AE b=true){x:Int}(c:0<=x/\x < (Lf a b 0 bne).N):0<=x / b.nx.length/\x / b.nx.length < a.nx.length/\0<=x % b.nx.length/\x % b.nx.length < b.nx.length:=by
 have e:=Ay hb;have d:x < ((a.nx.length*b.nx.length:Nat):Int):=c.2;rw [nq] at d;exact⟨mR c.1 (by omega),Int.ediv_lt_of_lt_mul (by omega) d,mq _ (by omega),mc _ (by omega)⟩
theorem fm{a b:AX}(ha:AE a=true)(hb:AE b=true){s0:Int}{op:Bool->Bool->Bool}(e:0<=s0/\s0 < a.nx.length*b.nx.length):HU (Lf a b s0 op):=by
 refine⟨⟨e.1,by show s0 < ((a.nx.length*b.nx.length:Nat):Int);rw [nq];exact e.2⟩,λx f l c y d=>?_,Dq _ _⟩;have c:=Ak (show l∈AG a.al 6 from c);have k:=Ix hb f;have h:=CK ha (q:=(x / b.nx.length).toNat) (by omega) c.1 (by omega);have j:=CK hb (q:=(x % b.nx.length).toNat) (by omega) c.1 (by omega)
 have d:y=Cg a (x / b.nx.length).toNat l*b.nx.length+Cg b (x % b.nx.length).toNat l:=by simpa [Lf] using d
 subst d;generalize Cg a (x / b.nx.length).toNat l=u at *;generalize Cg b (x % b.nx.length).toNat l=v at *
 show 0<=u*(b.nx.length:Int)+v/\u*(b.nx.length:Int)+v < ((a.nx.length*b.nx.length:Nat):Int)
 rw [nq];have i:0<=u*(b.nx.length:Int):=l4 h.1 (by omega);have g:(u+1)*(b.nx.length:Int)<=a.nx.length*b.nx.length:=mj (by omega) (by omega);rw [mP] at g;omega
theorem VZ{a b:AX}{kd:Int}(ha:AE a=true)(hb:AE b=true):Dm (Ee a b kd)/\YP (Ee a b kd)/\Fits (Ag (Ee a b kd)) (Ee a b kd).st:=by
 have g:=Ay ha;have f:=Ay hb;refine⟨⟨λs e=>(by cases e),λx d=>?_,by simp [Ee],by simp [Ee]⟩,⟨λ_=>by simp [Ee],λ_=>by simp [Ee]⟩,?_⟩
 ·simp [Ee] at d;rcases d with rfl|rfl<;>assumption
 ·refine Ls (zs:=Ag (Ee a b kd)) λz c=>?_
  simp [Ag,Ee] at c
  rcases c with rfl|rfl<;>omega
theorem SE{a b:AX}{kd:Int}{op:Bool->Bool->Bool}(ha:AE a=true)(hb:AE b=true)(j:∀x y,op x y=if kd=1 then x != y else (x && !y))(hk:kd=1\/kd=2):Cu (Lf a b 0 op)=Cu (DJ (Ee a b kd)):=by
 obtain⟨i,_,f⟩:=VZ (kd:=kd) ha hb;have n:=Ay ha;have m:=Ay hb;have k:=Lx i f;refine Nx (Ch.congr k ?_ ?_ (λx d l g=>?_) (λx d=>?_) (CM _))
 ·rfl
 ·exact IP (Ag (Ee a b kd)) 2
 ·have g:=Ak (show l∈AG a.al 6 from g)
  show Eo (Ee a b kd) (Ag (Ee a b kd)) (Bq (Ag (Ee a b kd)) x) l=_
  have e:=Hz (l:=[]) (aus:=[a,b]) (st:=[0,0]) (ls:=a.al) (kd:=kd) (gl:=0) i (node:=x) g.1 (by omega);refine Eq.trans e ?_
  have c:x / b.nx.length % a.nx.length=x / b.nx.length:=by
   have h:(DJ (Ee a b kd)).N=a.nx.length*b.nx.length:=by
    show (Au (Ag (Ee a b kd))).toNat=_
    simp only [Ag,Ee,nP,nj,mt,Au,o9];rw [<-nq,i9]
   rw [h] at d;have:=Ix (a:=a) hb (x:=x) d;exact nL this.1 this.2.1
  simp only [mt,nP,Au,o9,Bq,VI,oR,oz,DN,nr,pz,l8,Int.ediv_one,px,o3,nU,c,Lf]
 ·show Cm (Ee a b kd) (Bq (Ag (Ee a b kd)) x) (Ez (Ee a b kd) x.toNat)=_
  have c:x / b.nx.length % a.nx.length=x / b.nx.length:=by
   have h:(DJ (Ee a b kd)).N=a.nx.length*b.nx.length:=by
    show (Au (Ag (Ee a b kd))).toNat=_
    simp only [Ag,Ee,nP,nj,mt,Au,o9];rw [<-nq,i9]
   rw [h] at d;have:=Ix (a:=a) hb (x:=x) d;exact nL this.1 this.2.1
  show _=op (a.ac.getD (x / b.nx.length).toNat false) (b.ac.getD (x % b.nx.length).toNat false)
  rw [j];unfold Cm Ws
  rcases hk with rfl|rfl
  ·simp [Ee,Ag,Bq,Au,List.getD,c]
  ·simp [Ee,Ag,Bq,Au,List.getD,c]
def Gi(a b:AX):Bool:=AE a && AE b && decide (a.al=b.al)
theorem I0{g:Gr}:∀ {u v:List Int} {a x:Int},reach g (u++v) a x↔∃y,reach g u a y/\reach g v y x
 | [],v,a,x=>⟨λh=>⟨a,rfl,h⟩,λ⟨y,c,b⟩=>by cases c;exact b⟩
 | l :: u,v,a,x=>by
  simp only [mD,reach];constructor
  ·rintro⟨y,d,h⟩
   obtain⟨z,c,b⟩:=I0.1 h;exact⟨z,⟨y,d,c⟩,b⟩
  ·rintro⟨z,⟨y,d,c⟩,b⟩
   exact⟨y,d,I0.2 ⟨z,c,b⟩⟩
theorem fM(n:Nat)(f:Nat->Int)(h:∀i,i<=n->0<=f i/\f i < n):∃i j,i < j/\j<=n/\f i=f j:=by
 apply Classical.byContradiction;intro hno
 have g:((List.range (n+1)).map λi=>(f i).toNat).Nodup:=by
  unfold List.Nodup;rw [mY];refine List.pairwise_lt_range.imp_of_mem λ{a b} ha hb c k=>hno ⟨a,b,c,?_,?_⟩
  ·have:=lN.1 hb;omega
  ·have d:=h a (by have:=lN.1 ha;omega)
   have l:=h b (by have:=lN.1 hb;omega);omega
 have d:=SI n _ g λx e=>by
  obtain⟨i,hi,rfl⟩:=d8.1 e;have:=h i (by have:=lN.1 hi;omega);omega
 simp at d;omega
theorem Ch.short{g:Gr}(n:HU g){w:List Int}(h:Ch g (some w)):w.length < g.N:=by
 obtain⟨e,⟨x,o,c⟩,r⟩:=h;apply Classical.byContradiction;intro m;have b:∀k,∃y,reach g (w.take k) g.s0 y/\reach g (w.drop k) y x:=λk=>I0.1 (by rw [mz];exact o);obtain⟨f,d⟩:=Classical.axiomOfChoice b;obtain⟨i,j,p,s,q⟩:=fM g.N f λi _=>Dt n (λl a=>e l (lU a)) n.s0 (d i).1;refine r (w.take i++w.drop j) (λl a=>?_) ⟨x,I0.2 ⟨f i,(d i).1,q ▸ (d j).2⟩,c⟩ (.inl ?_)
 ·rcases f6.1 a with a|a
  ·exact e l (lU a)
  ·exact e l (mK a)
 ·simp;omega
theorem UX{al:Int}:∀ {w:List Int},(∀l∈w,l∈Ac al)->AU (Bo al) (CA w):=λ{w} h c b=>by
 obtain⟨l,a,rfl⟩:=d8.1 b;exact VU (h l a)
theorem SZ{a b:AX}(ha:AE a=true)(hb:AE b=true){op:Bool->Bool->Bool}{s0:Int}:∀ {w:List Int} {i j x:Int},(∀l∈w,l∈Ac a.al)->(0<=i/\i < a.nx.length)->(0<=j/\j < b.nx.length)->
 (reach (Lf a b s0 op) w (i*b.nx.length+j) x↔x=Fk a i (CA w)*b.nx.length+Fk b j (CA w))
 | [],i,j,x,_,_,_=>⟨λh=>h.symm,λh=>h.symm⟩
 | l :: w,i,j,x,g,hi,d=>by
  have f:=Ak (g l (by simp))
  have s:(i*b.nx.length+j) / b.nx.length=i:=by
   rw [oh,oH _ _ (by omega),oI d.1 d.2,nU]
  have r:(i*b.nx.length+j) % b.nx.length=j:=by
   rw [oh,nV,nL d.1 d.2]
  have p:=CK ha (q:=i.toNat) (by omega) f.1 (by omega);have o:=CK hb (q:=j.toNat) (by omega) f.1 (by omega);have k:=SZ ha hb (op:=op) (s0:=s0) (w:=w) (x:=x) (λm n=>g m (by simp [n])) p o
  have e:∀(c:AX) (q:Int),Fk c q (CA (l::w))=Fk c (Cg c q.toNat l) (CA w):=λc q=>by
   show Fk c (Cg c q.toNat (((lb l).toNat:Int) - 97)) (CA w)=_
   rw [JE f.1 (by omega)]
  rw [e,e,<-k];simp only [reach,Lf,s,r,oe,exists_eq_left]
end Go.Am
namespace Go.Am
open Go Go.Proofs
set_option maxHeartbeats 1000000
set_option maxRecDepth 4000
attribute [local irreducible] AW BQ Lex A9 Aj Spec
variable {TB:Bp}
abbrev jQ(g:FuncId):D:=.v (.func (.func g) #[] #[])
theorem FP(a b:AX):Pure Tryz.prog TB 75 [Bd a,Bd b] (eB (Gi a b)):=by
 refine eN Tryz.func75 rfl (by kernel_rfl) rfl ?_;intro Z d;(repeat' first |refine sN rfl ?_ |((first|refine sA rfl ?_ ?_|refine s4 rfl ‹_› rfl ?_ ?_);first|exact tI|omega|simp only[oZ] at *;omega) |refine s2 rfl λ_ c=>?_ |(refine sC rfl (AY a) ?_;intro _ c)|(refine sC rfl (AY b) ?_;intro _ c) |refine s3 rfl ?_ ?_<;>rintro rfl |refine aU rfl ?_ |refine Aa ?_ |refine rE (by kernel_rfl) ?_|(refine aC rfl ?_ ?_<;>rintro⟨⟩)|refine aK ?_|refine aE ?_|refine aB ?_|refine aR ⟨_,rfl,?_⟩)
 all_goals (show E.o _=E.o _;congr;unfold Gi;grind)
theorem Zb{a b:AX}(ha:AE a=true)(hb:AE b=true){h:FuncId}{op:Bool->Bool->Bool}{s0:Int}(d:∀x y,Pure Tryz.prog TB h [eB x,eB y] (eB (op x y)))(node:Int)(n:0<=node/\node < (Lf a b s0 op).N) :
 Pure Tryz.prog TB 223 [eI .i64 node,.o (.ip [jQ h]),.o (.ip (AM a)),.o (.ip [iD b.nx.length]),.o (.ip (AM b))] (eB ((Lf a b s0 op).goal node)):=by
 have r:=Ay ha;have q:=Ay hb;have w:=Ix (a:=a) hb (x:=node) n
 have s:node < 1048576:=by
  have v:a.nx.length*b.nx.length<=12*12:=Nat.mul_le_mul (by omega) (by omega);have u:(Lf a b s0 op).N=a.nx.length*b.nx.length:=rfl;omega
 obtain⟨x,g⟩:=get_some (l:=a.ac) (k:=(node / b.nx.length).toNat) (by omega);obtain⟨y,f⟩:=get_some (l:=b.ac) (k:=(node % b.nx.length).toNat) (by omega)
 have m:(a.ac.map Js)[(node / b.nx.length).toNat]? = some (Js x):=by simp [g]
 have j:(b.ac.map Js)[(node % b.nx.length).toNat]? = some (Js y):=by simp [f]
 have p:(Lf a b s0 op).goal node=op x y:=by simp [Lf,List.getD,g,f]
 rw [p];have c:=d x y;refine eN Tryz.func223 rfl (by kernel_rfl) rfl ?_;intro Z i;(repeat first |refine sN rfl ?_ |((first|refine sA rfl ?_ ?_|refine s4 rfl ‹_› rfl ?_ ?_);first|exact tI|omega|simp only[oZ] at *;omega) |refine s2 rfl λ_ e=>?_ |refine s3 rfl ?_ ?_<;>rintro rfl |refine aU rfl ?_ |refine Aa ?_);refine rG (HQ []) (by kernel_rfl) ?_;(repeat first |refine sN rfl ?_ |((first|refine sA rfl ?_ ?_|refine s4 rfl ‹_› rfl ?_ ?_);first|exact tI|omega|simp only[oZ] at *;omega) |refine s2 rfl λ_ e=>?_|(refine Ai rfl ?_;refine gA rfl ?_;first|refine gS (λ_ _=>fR (t:=7) rfl (Bh rfl rfl rfl c rfl)) ?_) |refine s3 rfl ?_ ?_<;>rintro rfl |refine aU rfl ?_ |refine Aa ?_);refine aR ⟨_,rfl,rfl⟩
theorem Za{a b:AX}(ha:AE a=true)(hb:AE b=true){op:Bool->Bool->Bool}{s0:Int}:YQ Tryz.prog TB 3 (Lf a b s0 op) 222 [.ip [.l (DK a)],.ip [iD b.nx.length],.ip [.l (DK b)]]:=by
 intro node l outs k c j;have c:=Ak (show l∈AG a.al 6 from c);have o:=Ay ha;have n:=Ay hb;have v:=Ix (a:=a) hb (x:=node) k
 have s:node < 1048576:=by
  have u:a.nx.length*b.nx.length<=12*12:=Nat.mul_le_mul (by omega) (by omega);have t:(Lf a b s0 op).N=a.nx.length*b.nx.length:=rfl;omega
 have e:=CK ha (q:=(node / b.nx.length).toNat) (by omega) c.1 (by omega);have m:=CK hb (q:=(node % b.nx.length).toNat) (by omega) c.1 (by omega);have ta:=HI (a:=a) (q:=(node / b.nx.length).toNat) (by omega);have tb:=HI (a:=b) (q:=(node % b.nx.length).toNat) (by omega)
 have el:((l.toNat:Nat):Int)=l:=by omega
 have ra:=Ge (h:=λl=>Cg a (node / b.nx.length).toNat l) c.1 (by omega);have rb:=Ge (h:=λl=>Cg b (node % b.nx.length).toNat l) c.1 (by omega);simp only [el] at ra rb
 have p:0<=Cg a (node / b.nx.length).toNat l*b.nx.length/\Cg a (node / b.nx.length).toNat l*b.nx.length<=144:=⟨l4 e.1 (by omega),by
  have:Cg a (node / b.nx.length).toNat l*b.nx.length<=12*12:=l3 (by omega) (by omega) (by omega) (by omega)
  omega⟩
 have i:(Lf a b s0 op).succ node l=[Cg a (node / b.nx.length).toNat l*b.nx.length+Cg b (node % b.nx.length).toNat l]:=rfl;rw [i];refine eN Tryz.func222 rfl (by kernel_rfl) rfl ?_;intro Z g;(repeat first |refine sN rfl ?_ |((first|refine sA rfl ?_ ?_|refine s4 rfl ‹_› rfl ?_ ?_);first|exact tI|omega|simp only[oZ] at *;omega) |refine s2 rfl λ_ d=>?_ |refine s3 rfl ?_ ?_<;>rintro rfl |refine aU rfl ?_ |refine Aa ?_);refine rG (HQ [21]) (by kernel_rfl) ?_;(repeat first |refine sN rfl ?_ |((first|refine sA rfl ?_ ?_|refine s4 rfl ‹_› rfl ?_ ?_);first|exact tI|omega|simp only[oZ] at *;omega) |refine s2 rfl λ_ d=>?_|(refine Ai rfl ?_;refine gA rfl ?_;first|refine gS (λ_ _=>Da rfl ra) ?_|refine gS (λ_ _=>Da rfl rb) ?_) |refine s3 rfl ?_ ?_<;>rintro rfl |refine aU rfl ?_ |refine Aa ?_);(refine pW rfl ?_ rfl (by rfl);refine Aw rfl rfl rfl (by first|(simp;done)|(simp;(first|omega|simp only[oZ] at *;omega))) rfl (by intro r f;simp at f;subst f;rfl) (by rfl) (am rfl) (by simp;omega) ?_);(repeat first |refine sN rfl ?_ |((first|refine sA rfl ?_ ?_|refine s4 rfl ‹_› rfl ?_ ?_);first|exact tI|omega|simp only[oZ] at *;omega) |refine s2 rfl λ_ d=>?_ |refine s3 rfl ?_ ?_<;>rintro rfl |refine aU rfl ?_ |refine Aa ?_);refine aR ⟨_,rfl,by simp,rfl,by simp [kill]⟩
theorem NM{a b:AX}(ha:AE a=true)(hb:AE b=true){p:FuncId}{op:Bool->Bool->Bool}(h:∀x y,Pure Tryz.prog TB p [eB x,eB y] (eB (op x y)))(i j:Int)(hi:0<=i/\i < a.nx.length)(J:0<=j/\j < b.nx.length) :
 Pure Tryz.prog TB 155 [Bd a,Bd b,eI .i64 i,eI .i64 j,.o (.d (jQ p))] (Je (Cu (Lf a b (i*b.nx.length+j) op))):=by
 have B:=Ay ha;have A:=Ay hb;have f:=Du (TB:=TB) a ha;have e:=Du (TB:=TB) b hb
 have H:0<=i*(b.nx.length:Int)/\(i+1)*(b.nx.length:Int)<=a.nx.length*b.nx.length:=⟨l4 hi.1 (by omega),mj (by omega) (by omega)⟩
 have u:(i+1)*(b.nx.length:Int)=i*b.nx.length+b.nx.length:=by rw [mP];omega
 have K:a.nx.length*b.nx.length<=144:=Nat.mul_le_mul (show a.nx.length<=12 by omega) (show b.nx.length<=12 by omega)
 have F:((a.nx.length:Int)*b.nx.length)<=144:=by rw [<-nq];omega
 have g:0<=i*(b.nx.length:Int)+j/\i*(b.nx.length:Int)+j < a.nx.length*b.nx.length:=by omega
 have z:=fm (op:=op) (s0:=i*b.nx.length+j) ha hb g
 have w:(DK a).length=a.nx.length:=by simp [DK,Bx]
 have v:(DK b).length=b.nx.length:=by simp [DK,Bx]
 have m:Pure Tryz.prog TB 135 [eI .i64 ((a.nx.length:Int)*b.nx.length),Av [i*b.nx.length+j],Av (Ac a.al),.o (.fn 222 [.ip [.l (DK a)],.ip [iD b.nx.length],.ip [.l (DK b)]]),.o (.fn 223 [.ip [jQ p],.ip (AM a),.ip [iD b.nx.length],.ip (AM b)])]
  (Je (Cu (Lf a b (i*b.nx.length+j) op))):=by
  rw [<-nq]
  exact Hw z (show a.nx.length*b.nx.length<=1048576 by omega) (λx t=>by have:=Ak t;omega) (AN _ 6) (λnode l q I=>by
   have G:1<=a.nx.length*b.nx.length:=Nat.mul_pos (show 0 < a.nx.length by omega) (show 0 < b.nx.length by omega)
   exact G) (Za ha hb) (λn q=>Zb ha hb h n q) rfl (λr=>rfl) (λr=>rfl) (CM _)
 refine eN Tryz.func155 rfl (by kernel_rfl) rfl ?_;intro Z s;(repeat first |refine sN rfl ?_ |((first|refine sA rfl ?_ ?_|refine s4 rfl ‹_› rfl ?_ ?_);first|exact tI|omega|simp only[oZ] at *;omega) |refine s2 rfl λ_ c=>?_ |refine s3 rfl ?_ ?_<;>rintro rfl |refine aU rfl ?_ |refine Aa ?_);refine R.Pj [(0,2),(1,2),(2,2),(3,2),(4,3),(5,3),(6,5),(7,5)] mixed (by kernel_rfl) rfl (by kernel_rfl) ?_;(repeat ((refine R.Ai rfl ?_;first |(refine R.yQ (md:=false) rfl rfl rfl ?_ ?_;first|exact tI|omega|simp only[oZ] at *;omega) |(refine R.yB rfl rfl rfl ?_;intro _ c) |refine R.yS rfl rfl rfl ?_ |refine R.yP rfl rfl rfl rfl ?_ |refine R.yA rfl rfl rfl rfl ?_ |refine R.yW rfl rfl rfl ?_|refine R.Cv (λ_ _ _=>Bh rfl rfl rfl (f) rfl) rfl rfl ?_|refine R.Cv (λ_ _ _=>Bh rfl rfl rfl (e) rfl) rfl rfl ?_ |refine R.ab rfl rfl ?_ |(refine R.yG rfl rfl ?_ ?_<;>intro hb<;>subst hb) )));refine R.Pd ?_;refine aS ?_;refine Aj.QF [0,1] [2,3,5,6,9] rfl [(12,.o (.ip [.l (DK a)])),(13,.o (.ip [.l (DK b)]))] ⟨⟨_,rfl,.o (.ptr (by simp) rfl rfl rfl)⟩,⟨_,rfl,.o (.ptr (by simp) rfl rfl rfl)⟩,trivial⟩ ?_;(try dsimp only[cA,cB]);refine kh (by kernel_rfl) ?_;(repeat first |refine sN rfl ?_ |((first|refine sA rfl ?_ ?_|refine s4 rfl ‹_› rfl ?_ ?_);first|exact tI|omega|simp only[oZ] at *;omega) |refine s2 rfl λ_ c=>?_ |refine s3 rfl ?_ ?_<;>rintro rfl);refine Aa ?_;simp only [pj];refine aS ?_;refine Aj.QF [2] [2,3,5,6,9,12,13] rfl [(14,.o (.ip [iD b.nx.length]))] ⟨⟨_,rfl,.o (.ptr (by simp) rfl rfl rfl)⟩,trivial⟩ ?_;(try dsimp only[cA,cB]);(repeat first |refine sN rfl ?_ |((first|refine sA rfl ?_ ?_|refine s4 rfl ‹_› rfl ?_ ?_);first|exact tI|omega|simp only[oZ] at *;omega) |refine s2 rfl λ_ c=>?_ |refine s3 rfl ?_ ?_<;>rintro rfl |refine aU rfl ?_ |refine Aa ?_);refine rG (HQ []) (by kernel_rfl) ?_;have k:=Cn (TB:=TB) a.al;(repeat first |refine sN rfl ?_ |((first|refine sA rfl ?_ ?_|refine s4 rfl ‹_› rfl ?_ ?_);first|exact tI|omega|simp only[oZ] at *;omega) |refine s2 rfl λ_ c=>?_ |refine s3 rfl ?_ ?_<;>rintro rfl |refine aU rfl ?_ |refine Aa ?_);simp only [pj];(repeat first |refine sN rfl ?_ |((first|refine sA rfl ?_ ?_|refine s4 rfl ‹_› rfl ?_ ?_);first|exact tI|omega|simp only[oZ] at *;omega) |refine s2 rfl λ_ c=>?_ |refine sP rfl (k) rfl ?_|refine sP rfl (m) rfl ?_ |refine s3 rfl ?_ ?_<;>rintro rfl |refine aU rfl ?_ |refine Aa ?_);refine aR ⟨_,rfl,rfl⟩
def Gg(L:W->Bool)(ls:List UInt8)(t:Bl)(w:W):Option Bl:=(Ew L t w).bind λv=>(Hr t v).bind λu=>BR L ls 13 u
theorem MH{L:W->Bool}{t:Bl}{b:Bool}:∀ {w:W} {q:Nat} {v:W},splitAt L t b q w=some v->∃p,p≠[]/\w=p++v
 | [],q,v,h=>by simp [splitAt] at h
 | c::w,q,v,h=>by
  unfold splitAt at h;split at h
  ·injection h with h;subst h;exact⟨[c],by simp,rfl⟩
  ·obtain⟨p,_,a⟩:=MH h;exact⟨c::p,by simp,by rw [a];rfl⟩
theorem JN{L:W->Bool}{t:Bl}{w v:W}(h:Ew L t w=some v):∃p,p≠[]/\w=p++v:=by
 unfold Ew at h;split at h
 ·cases h
 ·exact MH h
theorem Ie.mono{al:Int}{b b':Nat}{t:Bl}(h:Ie al b t)(hb:b<=b'):Ie al b' t:=⟨λw a=>⟨(h.onR w a).1,jp (h.onR w a).2 hb⟩,h.onC,h.rl,h.cl⟩
theorem Qo{al:Int}{b:Nat}{t u:Bl}{v:W}(h:Ie al b t)(c:AU (Bo al) v)(f:v.length<=20000)(ha:Hr t v=some u):Ie al b u:=by
 unfold Hr at ha;split at ha
 ·cases ha
 ·rename_i d
  injection ha with ha
  subst ha;refine⟨h.onR,λx a=>?_,h.rl,?_⟩
  ·rcases f6.1 a with a|a
   ·exact h.onC x a
   ·simp at a;subst a;exact⟨c,f⟩
  ·have:=h.cl
   have g:t.cols.length≠20:=λe=>d (.inl e);simp;omega
def Vx(L:W->Bool)(ls:List UInt8)(t:Bl)(w v:W):Prop:=Mk ls t v\/Vy t w v\/∃x,Ew L t w=some x/\∃u,Hr t x=some u/\∃y∈El L ls 13 u,Mk ls y v
theorem Pb{c:C}{L:W->Bool}{ok:W->Prop}(k:Ja Tryz.prog TB c L ok)(al:Int)(t:Bl)(ht:Ie al 20000 t)(hal:Bm al=true)(B:Dl L (Bo al) t)(K:BC L (Bo al) t=none)(w:W)(A:∀v,Vx L (Bo al) t w v->ok v)(F:AU (Bo al) w)(m:w.length<=20000) :
 Pure Tryz.prog TB 126 [Iq al c,Ir t,eT w] (VJ (Gg L (Bo al) t w)):=by
 have M:=Eu c k.BX
 have b:([Iq al c,Ir t,eT w].all E.BX && C.C6 [])=true:=by simp [E.BX,C.C6,C.BX,k.BX]
 have e:=Pk (TB:=TB) k al t (λv q=>A v (.inl q)) (ht.mono (by omega)) hal B K w (λv q=>A v (.inr (.inl q))) F m;have J:=ht.rl;have G:=ht.cl
 rcases j:Ew L t w with _|v
 ·have s:Gg L (Bo al) t w=none:=by unfold Gg;rw [j];rfl
  rw [s];rw [j] at e;refine AK.GH (AK.ofM 2 (io _) Tryz.func126 rfl rfl (by kernel_rfl) (am rfl) ?_);intro Z i;(repeat first|refine aU rfl ?_);(refine pW rfl ?_ rfl (by rfl);refine CT rfl rfl ?_);(refine pW rfl ?_ rfl (by rfl);refine CT rfl rfl ?_);(repeat first|refine tA rfl ?_ |refine aU rfl ?_ |refine Aa ?_);(repeat first|refine tA rfl ?_ |refine s2 rfl λ_ a=>?_|(refine Ai rfl ?_;refine gA rfl ?_;first| refine gS (λ_ _=>Bh rfl rfl b e rfl) ?_) |refine aU rfl ?_ |refine Aa ?_)
  ((refine aC rfl ?_ ?_<;>rintro⟨⟩);all_goals try (simp at a;done))
  (repeat first|refine tA rfl ?_|(refine Ai rfl ?_;refine gA rfl ?_;first| refine gS (λ_ _=>AV rfl rfl (by rfl) (by rfl)) ?_) |refine aU rfl ?_ |refine Aa ?_);refine Aj.settle [(6,.o (.ip [.l [],.l []])),(7,eB false)] ⟨⟨_,rfl,.o (.box rfl (.cons .d (.cons .d .nil)))⟩,⟨_,rfl,.o .d⟩,trivial⟩ ?_;refine aR ⟨_,rfl,rfl⟩
 ·have r:=JN j
  have n:AU (Bo al) v/\v.length<=20000:=by
   obtain⟨p,_,rfl⟩:=r;exact⟨λc k=>F c (by simp [k]),by simp at m;omega⟩
  have f:=Qp (TB:=TB) t v (by omega) (by omega);rw [j] at e
  rcases ha:Hr t v with _|u
  ·have s:Gg L (Bo al) t w=none:=by unfold Gg;rw [j];simp [ha]
   rw [s];rw [ha] at f;refine AK.GH (AK.ofM 2 (io _) Tryz.func126 rfl rfl (by kernel_rfl) (am rfl) ?_);intro Z i;(repeat first|refine aU rfl ?_);(refine pW rfl ?_ rfl (by rfl);refine CT rfl rfl ?_);(refine pW rfl ?_ rfl (by rfl);refine CT rfl rfl ?_);(repeat first|refine tA rfl ?_ |refine aU rfl ?_ |refine Aa ?_);(repeat first|refine tA rfl ?_ |refine s2 rfl λ_ a=>?_|(refine Ai rfl ?_;refine gA rfl ?_;first| refine gS (λ_ _=>Bh rfl rfl b e rfl) ?_) |refine aU rfl ?_ |refine Aa ?_)
   ((refine aC rfl ?_ ?_<;>rintro⟨⟩);all_goals try (simp at a;done))
   refine aK ?_;(repeat first|refine tA rfl ?_ |refine s2 rfl λ_ a=>?_ |refine sP rfl (f) rfl ?_ |refine aU rfl ?_ |refine Aa ?_)
   ((refine aC rfl ?_ ?_<;>rintro⟨⟩);all_goals try (simp at a;done))
   (repeat first|refine tA rfl ?_|(refine Ai rfl ?_;refine gA rfl ?_;first| refine gS (λ_ _=>AV rfl rfl (by rfl) (by rfl)) ?_) |refine aU rfl ?_ |refine Aa ?_);refine Aj.settle [(6,.o (.ip [.l [],.l []])),(7,eB false)] ⟨⟨_,rfl,.o (.box rfl (.cons .d (.cons .d .nil)))⟩,⟨_,rfl,.o .d⟩,trivial⟩ ?_;refine aR ⟨_,rfl,rfl⟩
  ·have I:=Qo ht n.1 n.2 ha
   have g:=Io (TB:=TB) k al u (λy H v q=>A v (.inr (.inr ⟨_,j,_,ha,y,H,q⟩))) I
   have h:([Iq al c,Ir u].all E.BX && C.C6 [])=true:=by simp [E.BX,C.C6,C.BX,k.BX]
   have s:Gg L (Bo al) t w=BR L (Bo al) 13 u:=by unfold Gg;rw [j];simp [ha]
   rw [s];rw [ha] at f
   rcases z:BR L (Bo al) 13 u with _|x
   ·rw [z] at g
    refine AK.GH (AK.ofM 2 (io _) Tryz.func126 rfl rfl (by kernel_rfl) (am rfl) ?_);intro Z i;(repeat first|refine aU rfl ?_);(refine pW rfl ?_ rfl (by rfl);refine CT rfl rfl ?_);(refine pW rfl ?_ rfl (by rfl);refine CT rfl rfl ?_);(repeat first|refine tA rfl ?_ |refine aU rfl ?_ |refine Aa ?_);(repeat first|refine tA rfl ?_ |refine s2 rfl λ_ a=>?_|(refine Ai rfl ?_;refine gA rfl ?_;first| refine gS (λ_ _=>Bh rfl rfl b e rfl) ?_) |refine aU rfl ?_ |refine Aa ?_)
    ((refine aC rfl ?_ ?_<;>rintro⟨⟩);all_goals try (simp at a;done))
    refine aK ?_;(repeat first|refine tA rfl ?_ |refine s2 rfl λ_ a=>?_ |refine sP rfl (f) rfl ?_ |refine aU rfl ?_ |refine Aa ?_)
    ((refine aC rfl ?_ ?_<;>rintro⟨⟩);all_goals try (simp at a;done))
    refine aK ?_;(repeat first|refine tA rfl ?_|(refine Ai rfl ?_;refine gA rfl ?_;first| refine gS (λ_ _=>Bh rfl rfl h g rfl) ?_) |refine aU rfl ?_ |refine Aa ?_);refine Aj.settle [(6,.o (.ip [.l [],.l []])),(7,eB false)] ⟨⟨_,rfl,.o (.box rfl (.cons .d (.cons .d .nil)))⟩,⟨_,rfl,.o .d⟩,trivial⟩ ?_;refine aR ⟨_,rfl,rfl⟩
   ·rw [z] at g
    refine AK.GH (AK.ofM 2 (io _) Tryz.func126 rfl rfl (by kernel_rfl) (am rfl) ?_);intro Z i;(repeat first|refine aU rfl ?_);(refine pW rfl ?_ rfl (by rfl);refine CT rfl rfl ?_);(refine pW rfl ?_ rfl (by rfl);refine CT rfl rfl ?_);(repeat first|refine tA rfl ?_ |refine aU rfl ?_ |refine Aa ?_);(repeat first|refine tA rfl ?_ |refine s2 rfl λ_ a=>?_|(refine Ai rfl ?_;refine gA rfl ?_;first| refine gS (λ_ _=>Bh rfl rfl b e rfl) ?_) |refine aU rfl ?_ |refine Aa ?_)
    ((refine aC rfl ?_ ?_<;>rintro⟨⟩);all_goals try (simp at a;done))
    refine aK ?_;(repeat first|refine tA rfl ?_ |refine s2 rfl λ_ a=>?_ |refine sP rfl (f) rfl ?_ |refine aU rfl ?_ |refine Aa ?_)
    ((refine aC rfl ?_ ?_<;>rintro⟨⟩);all_goals try (simp at a;done))
    refine aK ?_;(repeat first|refine tA rfl ?_|(refine Ai rfl ?_;refine gA rfl ?_;first| refine gS (λ_ _=>Bh rfl rfl h g rfl) ?_) |refine aU rfl ?_ |refine Aa ?_);refine Aj.settle [(6,.o (.ip [CG x.rows,CG x.cols])),(7,eB true)] ⟨⟨_,rfl,.o (.box rfl (.cons .d (.cons .d .nil)))⟩,⟨_,rfl,.o .d⟩,trivial⟩ ?_;refine aR ⟨_,rfl,rfl⟩
end Go.Am
namespace Go.Am
open Go
set_option linter.unusedVariables false
theorem P7(L:W->Bool)(ls:List UInt8):YS L ls BT:=by
 refine⟨rfl,rfl,λi w hi d=>?_,λw a=>?_,λw a=>?_,by simp [AT,BT],by simp [BT]⟩
 ·have:=(ce.1 hi).1
  simp [BT] at this;omega
 ·simp [BT] at a;subst a;exact λc b=>(by cases b)
 ·simp [BT] at a;subst a;exact λc b=>(by cases b)
theorem YS.short{L:W->Bool}{ls:List UInt8}{t:Bl}(h:YS L ls t):∀(i:Nat) w,t.rows[i]? = some w->w.length<=i:=by
 intro i
 induction i using Nat.strongRecOn with
 | _ i c=>
  intro w a
  rcases mh i with b|b
  ·subst b
   rw [h.r0] at a
   injection a with a
   subst a;simp
  ·obtain⟨f,j,d,e⟩:=h.pre i w a b
   have:=c j d _ e;simp at this;omega
end Go.Am
namespace Go.Am
open Go Go.Proofs
set_option maxHeartbeats 1000000
set_option maxRecDepth 4000
attribute [local irreducible] AW BQ Lex A9 Aj Spec
variable {TB:Bp}
abbrev kJ(kn:Bool)(p:AX)(s:Sys)(q:AX)(al:Int):E:=.a ((jh kn p s q al).map .d)
theorem cL(w:W)(i:Nat)(c:UInt8)(b:w[((i:Nat):Int).toNat]? = some c):Pure Tryz.prog TB 269 [eT w,eI .i64 i] (eI .i64 ((c.toNat:Int) - 97)):=by
 have hb:=c.toNat_lt;refine eN Tryz.func269 rfl (by kernel_rfl) rfl ?_;intro Z a;(repeat' first|(refine sA rfl ?_ ?_;first|exact tI|omega) |(refine s4 rfl ‹_› rfl ?_ ?_;omega) |refine aU rfl ?_ |refine Aa ?_|(refine aC rfl ?_ ?_<;>rintro⟨⟩)|refine aK ?_|refine aE ?_|refine aB ?_|refine aR ⟨_,rfl,?_⟩);rfl
theorem J9{c:UInt8}:MR c=decide (0<=(c.toNat:Int) - 97/\(c.toNat:Int) - 97 < 6):=by
 unfold MR;rw [nk,decide_eq_true_eq,decide_eq_true_eq];omega
theorem HL{w:W}{al:Int}(h:within w al=true):AU (Bo al) w:=by
 unfold within at h;simp only [d4,decide_eq_true_eq] at h;intro c b;have a:=(gc.1 h.2.2) c b;unfold O7 MR at a;simp only [d4,decide_eq_true_eq] at a;refine d8.2 ⟨((c.toNat - 97:Nat):Int),C8.2 ⟨by omega,a.2⟩,?_⟩;unfold lb
 have e:97+((c.toNat - 97:Nat):Int).toNat=c.toNat:=by omega
 rw [e];simp
theorem Ga{w:W}{al:Int}(h:AU (Bo al) w)(d:w.length<=50000)(ha:Bm al=true):within w al=true:=by
 unfold within;simp only [d4,decide_eq_true_eq];refine⟨d,ha,gc.2 λc f=>?_⟩;obtain⟨l,b,rfl⟩:=d8.1 (h c f);have a:=Ak b;have g:=JE a.1 (by omega);unfold O7 MR;simp only [d4,decide_eq_true_eq]
 have e:(lb l).toNat - 97=l.toNat:=by omega
 rw [e];exact⟨by omega,a.2.2⟩
def eF(p:AX)(w:W):Bool:=AE p && (within w p.al && LA p w)
theorem NX(a b:AX):Pure Tryz.prog TB 102 [Bd a,Bd b] (eB (Gi a b)):=by
 refine eN Tryz.func102 rfl (by kernel_rfl) rfl ?_;intro Z d;(repeat' first|refine tA rfl ?_ |refine s2 rfl λ_ c=>?_ |(refine sC rfl (De a) ?_;intro _ c)|(refine sC rfl (De b) ?_;intro _ c) |refine s3 rfl ?_ ?_<;>rintro rfl |refine aU rfl ?_ |refine Aa ?_|(refine aC rfl ?_ ?_<;>rintro⟨⟩)|refine aK ?_|refine aE ?_|refine aB ?_|refine aR ⟨_,rfl,?_⟩)
 all_goals (show E.o _=E.o _;congr;unfold Gi;grind)
structure Ii where
 kn:Bool
 p:AX
 s:Sys
 q:AX
 al:Int
abbrev fe(t:Ii):E:=kJ t.kn t.p t.s t.q t.al
end Go.Am
namespace Go.Am
open Go
set_option linter.unusedVariables false
def Ks(es:List Ec)(l:Int)(m:Nat):Nat:=es.foldl (λa e=>if e.l=l/\m.testBit e.f.toNat=true then a ||| 2 ^ e.t.toNat else a) 0
theorem IQ{α:Type}{p:α->Prop}[DecidablePred p]{g:α->Nat}{j:Nat}:∀(l:List α) (a:Nat),(l.foldl (λa e=>if p e then a ||| g e else a) a).testBit j=true↔a.testBit j=true\/∃e∈l,p e/\(g e).testBit j=true
 | [],a=>by simp
 | x :: l,a=>by
  rw [mM,IQ l];by_cases h:p x
  ·rw [if_pos h,nT,lK]
   constructor
   ·rintro((b|b)|⟨e,b,c⟩)
    ·exact .inl b
    ·exact .inr ⟨x,by simp,h,b⟩
    ·exact .inr ⟨e,by simp [b],c⟩
   ·rintro(b|⟨e,b,c,d⟩)
    ·exact .inl (.inl b)
    ·rcases lF.1 b with rfl|b
     ·exact .inl (.inr d)
     ·exact .inr ⟨e,b,c,d⟩
  ·rw [if_neg h]
   constructor
   ·rintro(b|⟨e,b,c⟩)
    ·exact .inl b
    ·exact .inr ⟨e,by simp [b],c⟩
   ·rintro(b|⟨e,b,c,d⟩)
    ·exact .inl b
    ·rcases lF.1 b with rfl|b
     ·exact absurd c h
     ·exact .inr ⟨e,b,c,d⟩
theorem EN{es:List Ec}{l:Int}{m j:Nat}:(Ks es l m).testBit j=true↔∃e∈es,(e.l=l/\m.testBit e.f.toNat=true)/\e.t.toNat=j:=by
 unfold Ks;rw [IQ];simp [m8]
structure CR where
 s:Sys
 q:AX
 al:Int
def Bv(t:CR):Bool:=AZ t.s && (AE t.q && Bm t.al)
def C0(t:CR):List Int:=(Ac t.s.al).filter λl=>!AR t.al l.toNat
def Fe(s:Sys)(l:Int)(m:Nat):Nat:=if AR s.al l.toNat then Ks s.es l m else m
abbrev PS:=Nat->Nat
def VY(t:CR)(l:Int)(F:PS):PS:=λp'=>(List.range t.q.nx.length).foldl (λa p=>if Cg t.q p l=(p':Int) then a ||| Fe t.s l (F p) else a) 0
theorem Ky{t:CR}{l:Int}{F:PS}{p' j:Nat}:(VY t l F p').testBit j=true↔∃p,p < t.q.nx.length/\Cg t.q p l=(p':Int)/\(Fe t.s l (F p)).testBit j=true:=by
 unfold VY;rw [IQ];simp
inductive Qn (t:CR) (F0:PS):Nat->Nat->Prop
 | base {p j:Nat}:(F0 p).testBit j=true->Qn t F0 p j
 | step {p j:Nat} {e:Ec}:Qn t F0 p j->e∈t.s.es->e.l∈C0 t->e.f.toNat=j->Qn t F0 (Cg t.q p e.l).toNat e.t.toNat
open Classical in
noncomputable def Xi(t:CR)(F0:PS):PS:=λp=>(List.range 16).foldl (λa j=>if Qn t F0 p j then a ||| 2 ^ j else a) 0
open Classical in
theorem Nb{t:CR}{F0:PS}{p j:Nat}:(Xi t F0 p).testBit j=true↔j < 16/\Qn t F0 p j:=by
 unfold Xi;rw [IQ];simp only [pA,nG,false_or,lN,m8,decide_eq_true_eq];constructor
 ·rintro⟨e,b,a,rfl⟩;exact⟨b,a⟩
 ·rintro⟨b,a⟩;exact⟨j,b,a,rfl⟩
structure DG (t:CR) (F:PS):Prop where
 lt:∀p,F p < 65536
 z:∀p,t.q.nx.length<=p->F p=0
theorem J7{m:Nat}(h:∀j,m.testBit j=true->j < 16):m < 65536:=by
 have:m < 2 ^ 16:=Nat.lt_pow_two_of_testBit m λi hi=>by
  cases hb:m.testBit i
  ·rfl
  ·have:=h i hb;omega
 omega
theorem Kr{m j:Nat}(h:m < 65536)(hb:m.testBit j=true):j < 16:=by
 rcases l9 j 16 with a|a
 ·exact a
 ·have:m.testBit j=false:=Nat.testBit_lt_two_pow (lC h (mE (n:=2) (by omega) a))
  rw [this] at hb;cases hb
theorem GU{m:Nat}(h:∀j,m.testBit j=false):m=0:=mU λj=>by rw [h j];simp
section
variable {t:CR}(ht:Bv t=true)
include ht set_option linter.unusedSectionVars false
theorem Hl{e:Ec}(a:e∈t.s.es):0<=e.f/\e.f < 16/\0<=e.t/\e.t < 16/\0<=e.l/\e.l < 6:=by
 unfold Bv at ht;simp only [d4] at ht;have b:=ER ht.1 a;have c:=AQ ht.1;unfold Ek at b;grind
theorem DB:AE t.q=true:=by
 unfold Bv at ht;simp only [d4] at ht;exact ht.2.1
theorem Em{l:Int}(h:l∈C0 t):0<=l/\l < 6/\AR t.s.al l.toNat=true:=by
 unfold C0 at h;have a:=Ak (lJ.1 h).1;exact⟨a.1,by omega,a.2.2⟩
theorem Oy{l:Int}{m:Nat}(a:m < 65536):Fe t.s l m < 65536:=by
 unfold Fe;split
 ·refine J7 λj b=>?_
  obtain⟨e,c,_,rfl⟩:=EN.1 b;have:=Hl ht c;omega
 ·exact a
theorem LI{l:Int}(a:0<=l/\l < 6){F:PS}(h:DG t F):DG t (VY t l F):=by
 refine⟨λp=>J7 λj d=>?_,λp f=>GU λj=>?_⟩
 ·obtain⟨q,c,e,b⟩:=Ky.1 d
  exact Kr (Oy ht (h.lt q)) b
 ·cases hb:(VY t l F p).testBit j
  ·rfl
  ·obtain⟨q,c,e,b⟩:=Ky.1 hb
   have:=CK (DB ht) c a.1 a.2;omega
theorem Qn.lt{F0:PS}(h:DG t F0){p j:Nat}(c:Qn t F0 p j):p < t.q.nx.length/\j < 16:=by
 induction c with
 | @base p j hb=>
  refine⟨?_,Kr (h.lt p) hb⟩
  rcases l9 p t.q.nx.length with a|a
  ·exact a
  ·rw [h.z p a] at hb;simp at hb
 | @step p j e _ d f _ b=>
  have a:=Hl ht d;have g:=CK (DB ht) b.1 a.2.2.2.2.1 a.2.2.2.2.2;omega
theorem Zf{F0:PS}(h:DG t F0):DG t (Xi t F0):=by
 refine⟨λp=>J7 λj a=>(Nb.1 a).1,λp b=>GU λj=>?_⟩;cases hb:(Xi t F0 p).testBit j
 ·rfl
 ·have:=((Nb.1 hb).2.lt ht h).1
  omega
theorem eQ{F0 G:PS}(c:DG t F0)(n:∀p,t.q.nx.length<=p->G p=0)(m:∀p j,(F0 p).testBit j=true->(G p).testBit j=true)(b:∀p j,(G p).testBit j=true->Qn t F0 p j)
 (k:∀p l j,p < t.q.nx.length->l∈C0 t->(Ks t.s.es l (G p)).testBit j=true->(G (Cg t.q p l).toNat).testBit j=true):G=Xi t F0:=by
 have key:∀ {p j:Nat},Qn t F0 p j->(G p).testBit j=true:=λ{p j} a=>by
  induction a with
  | base hb=>exact m _ _ hb
  | @step p j e a i f g d=>exact k p e.l _ (a.lt ht c).1 f (EN.2 ⟨e,i,⟨rfl,by rw [g];exact d⟩,rfl⟩)
 funext p;refine mU λj=>?_;rw [nk,Nb];exact⟨λh=>⟨((b p j h).lt ht c).2,b p j h⟩,λh=>key h.2⟩
end
def Le:PS:=λp=>if p=0 then 1 else 0
noncomputable def CP(t:CR):PS:=Xi t Le
noncomputable def ED(t:CR)(l:Int)(F:PS):PS:=Xi t (VY t l F)
def HX(t:CR)(F:PS):Bool:=(List.range t.q.nx.length).any λp=>decide (F p≠0) && !(t.q.ac.getD p false)
noncomputable def KL(t:CR):PS->W->Bool
 | F,[]=>!HX t F
 | F,c::w=>!HX t F && KL t (ED t ((c.toNat:Int) - 97) F) w
noncomputable def LS(t:CR)(w:W):Bool:=KL t (CP t) w
section
variable {t:CR}(ht:Bv t=true)
include ht
theorem OV:DG t Le:=by
 have h:=Ay (DB ht);refine⟨λp=>by unfold Le;split<;>omega,λp a=>by unfold Le;rw [if_neg (by omega)]⟩
theorem Hj:DG t (CP t):=Zf ht (OV ht)
theorem N9{l:Int}(a:0<=l/\l < 6){F:PS}(h:DG t F):DG t (ED t l F):=Zf ht (LI ht a h)
end
end Go.Am
namespace Go.Am
open Go Go.Proofs
set_option maxHeartbeats 1000000
set_option maxRecDepth 4000
attribute [local irreducible] AW BQ Lex A9 Aj Spec
variable {TB:Bp}
theorem Ti:∀ {l:List Int},l.Pairwise (· < ·)->(∀x∈l,0<=x)->∀j:Nat,(BE l).testBit j=true↔(j:Int)∈l
 | [],_,_,j=>by simp [BE]
 | x :: r,e,f,j=>by
  have h:=f x (by simp);have c:=ma.1 e;have d:=Ti c.2 (λy g=>f y (by simp [g])) j;obtain⟨m,o,n⟩:=LW e h;rw [o,Nat.testBit_two_pow_mul];rw [n,Nat.testBit_two_pow_mul] at d;rw [lF,<-d];by_cases k:j=x.toNat
  ·subst k
   simp;omega
  ·have b:¬(j:Int)=x:=by omega
   have hb:x.toNat<=j->(2*m+1).testBit (j - x.toNat)=(2*m).testBit (j - x.toNat):=λa=>by
    obtain⟨i,hi⟩:∃i,j - x.toNat=i+1:=⟨j - x.toNat - 1,by omega⟩
    rw [hi,ng,ng];congr 1;omega
   by_cases a:x.toNat<=j
   ·rw [hb a];simp [b]
   ·simp [a,b]
def Eg(m k:Nat):List Int:=((List.range k).filter (m.testBit ·)).map Int.ofNat
theorem RY(m k:Nat):Eg m (k+1)=Eg m k++if m.testBit k then [(k:Int)] else []:=by
 unfold Eg;rw [nE,mB,mn];cases h:m.testBit k<;>simp [h]
theorem P6(m:Nat):∀k,BE (Eg m k)=m % 2 ^ k
 | 0=>by simp [Eg,BE,Nat.mod_one]
 | k+1=>by
  rw [RY,OA,P6 m k,og,Nat.mod_mul,oP];by_cases h:m / 2 ^ k % 2=1
  ·rw [h];simp [BE]
  ·rw [show m / 2 ^ k % 2=0 by omega];simp [BE]
theorem OZ(m k:Nat):(Eg m k).Pairwise (· < ·):=by
 unfold Eg;rw [mY]
 exact(List.pairwise_lt_range.filter _).imp λh=>by simpa using h
theorem Lm{m k:Nat}{x:Int}(h:x∈Eg m k):0<=x/\x < k/\m.testBit x.toNat=true:=by
 unfold Eg at h;obtain⟨n,a,rfl⟩:=d8.1 h;obtain⟨c,b⟩:=lJ.1 a;have:=lN.1 c;exact⟨by simp,by simp;omega,by simpa using b⟩
theorem Qt{m:Nat}(h:m < 65536):m=BE (Eg m 16):=by rw [P6];omega
def Ph(es:List Ec)(l:Int)(xs:List Int):Nat:=xs.foldl (λa x=>a ||| BE (Lh es x.toNat l.toNat)) 0
theorem Oe{s:Sys}(b:AZ s=true){l:Int}{j:Nat}:∀ {xs:List Int} {a:Nat},(xs.foldl (λa x=>a ||| BE (Lh s.es x.toNat l.toNat)) a).testBit j=true↔a.testBit j=true\/∃x∈xs,(j:Int)∈Lh s.es x.toNat l.toNat
 | [],a=>by simp
 | x::xs,a=>by
  rw [mM,Oe b,nT,lK];have c:=ES b s.es.length x.toNat l.toNat;rw [i7] at c;have e:=Ti c (λy d=>(Mc b (k:=s.es.length) (by rw [i7];exact d)).1) j;rw [e];simp only [lF,exists_eq_or_imp,or_assoc]
theorem dc{s:Sys}(g:AZ s=true){l:Int}(r:0<=l){m:Nat}(n:m < 65536):Ph s.es l (Eg m 16)=Ks s.es l m:=by
 refine mU λj=>?_;rw [nk];unfold Ph;rw [Oe g,EN];simp only [pA,nG,false_or];constructor
 ·rintro⟨x,k,h⟩
  obtain⟨q,d,i⟩:=Lm k;unfold Lh at h;obtain⟨e,a,p⟩:=d8.1 h;obtain⟨c,b⟩:=lJ.1 a;simp only [d4,decide_eq_true_eq] at b;exact⟨e,c,⟨by omega,by rw [show e.f.toNat=x.toNat by omega];exact i⟩,by omega⟩
 ·rintro⟨e,a,⟨q,d⟩,i⟩
  have hb:=ER g a;unfold Ek at hb;simp only [d4,decide_eq_true_eq] at hb;have o:=Kr n d;refine⟨e.f,?_,?_⟩
  ·unfold Eg
   exact d8.2 ⟨e.f.toNat,lJ.2 ⟨lN.2 o,d⟩,by simp;omega⟩
  ·unfold Lh
   refine d8.2 ⟨e,lJ.2 ⟨a,?_⟩,by omega⟩;simp only [d4,decide_eq_true_eq];omega
theorem de{s:Sys}(b:AZ s=true){l:Int}{xs:List Int}:Ph s.es l xs < 65536:=J7 λj a=>by
 unfold Ph at a;rw [Oe b] at a;simp only [pA,nG,false_or] at a;obtain⟨x,_,c⟩:=a;have:=Mc b (k:=s.es.length) (by rw [i7];exact c);omega
theorem cF{a b:Nat}(ha:a < 2 ^ 62)(hb:b < 2 ^ 62):FV .i64 (a:Nat) (b:Nat)=((a ||| b:Nat):Int):=by
 have d:a ||| b < 2 ^ 62:=nK ha hb;unfold FV
 have c:(BitVec.ofInt IntKind.i64.bits (a:Int) ||| BitVec.ofInt IntKind.i64.bits (b:Int)).toNat=a ||| b:=by
  have e:IntKind.i64.bits=64:=rfl;rw [e];simp only [BitVec.toNat_or,BitVec.ofInt_natCast,BitVec.toNat_ofNat];rw [lW (by omega),lW (by omega)]
 rw [c];exact IntWalk.i64_in _ (by omega)
theorem dI[Dx TB]{s:Sys}(r:AZ s=true){l:Int}(F:0<=l/\l < 6){m:Nat}(u:m < 65536):Pure Tryz.prog TB 236 [.o (.ip (E8 s.es)),eI .i64 (m:Nat),eI .i64 l] (eI .i64 (Ks s.es l m:Nat)):=by
 rw [<-dc r F.1 u];rw [Qt u]
 have hb:∀x∈Eg m 16,0<=x/\x < 16:=λx h=>⟨(Lm h).1,(Lm h).2.1⟩
 have I:=OZ m 16;rw [<-Qt u]
 conv=>arg 4;rw [Qt u]
 generalize Eg m 16=xs at *;refine eG Tryz.func236 rfl (by kernel_rfl) rfl ?_;intro Z c;(repeat first|refine tA rfl ?_ |refine aU rfl ?_ |refine Aa ?_);refine aB ?_;refine aL (α:={k:Nat // k<=xs.length}) [0,2] [] rfl rfl (λ⟨k,hk⟩=>[(1,eI .i64 (BE (xs.drop k):Nat)),(7,eI .i64 (Ph s.es l (xs.take k):Nat))]) (λ⟨k,hk⟩=>[]) 0 (λ⟨k,hk⟩=>xs.length - k) (⟨0,by omega⟩) c rfl (by (simp[cX,zC,c]<;>rfl)) ?_;rintro⟨k,hk⟩;(try dsimp only[cA,cB]);by_cases A:k < xs.length
 ·obtain⟨x,h⟩:=get_some A
  have B:=BA h;have d:=hb x (co h)
  have f:(x::xs.drop (k+1)).Pairwise (· < ·):=by rw [<-B];exact I.sublist (List.drop_sublist _ _)
  have z:BE (x::xs.drop (k+1)) < 2 ^ 16:=by
   refine KN f λy q=>?_;rw [<-B] at q;exact hb y (mK q)
  have w:=IH (x:=x) (l:=xs.drop (k+1));have p:=Tj f d.1 (by omega);have n:=PC f d.1 (by omega);rw [<-B] at z w p n;have e:=er (TB:=TB) (BE (xs.drop k)) (by omega) (by omega);rw [p] at e
  have ex:((x.toNat:Nat):Int)=x:=by omega
  rw [ex] at e;have i:=ES r s.es.length x.toNat l.toNat;rw [i7] at i;have G:BE (Lh s.es x.toNat l.toNat) < 65536:=KN (t:=16) i λy q=>Mc r (k:=s.es.length) (by rw [i7];exact q);have H:Ph s.es l (xs.take k) < 65536:=de r;have j:=cF (a:=Ph s.es l (xs.take k)) (b:=BE (Lh s.es x.toNat l.toNat)) (by omega) (by omega)
  have v:Ph s.es l (xs.take (k+1))=Ph s.es l (xs.take k) ||| BE (Lh s.es x.toNat l.toNat):=by unfold Ph;rw [gt,h,ow];rfl
  rw [<-v] at j;(repeat first|refine tA rfl ?_ |refine s2 rfl λ_ g=>?_ |refine aU rfl ?_ |refine Aa ?_)
  ((refine aC rfl ?_ ?_<;>rintro⟨⟩);all_goals try(exfalso;(simp only[oZ] at *;omega)))
  refine aK ?_;refine aS (aB ?_);refine rG (HQ []) (by kernel_rfl) ?_;(repeat first|(refine sA rfl ?_ ?_;first|exact tI|omega) |refine sP rfl (e) rfl ?_|(refine Ai rfl ?_;refine gA rfl ?_;first| refine gS (λ_ _=>Da rfl (ZM d F)) ?_) |refine aU rfl ?_ |refine Aa ?_);refine⟨⟨k+1,by omega⟩,by dsimp only;(omega),[],?_⟩;simp[cX,zC,c,j,n]
 ·obtain rfl:k=xs.length:=by omega
  rw [i7];(repeat first|refine tA rfl ?_ |refine s2 rfl λ_ g=>?_ |refine aU rfl ?_ |refine Aa ?_);(refine aC rfl ?_ ?_<;>rintro⟨⟩)
  ·exfalso
   rw [oO] at g;simp [BE] at g
  refine aE ?_;(repeat first|refine tA rfl ?_ |refine aU rfl ?_ |refine Aa ?_);(subst_vars;exact aR ⟨_,rfl,rfl⟩)
def Gz(F:PS):List Int:=[(F 0:Nat),(F 1:Nat),(F 2:Nat),(F 3:Nat),(F 4:Nat),(F 5:Nat),(F 6:Nat),(F 7:Nat),(F 8:Nat),(F 9:Nat),(F 10:Nat),(F 11:Nat)]
abbrev PV(F:PS):List C:=kE .u16 (Gz F)
abbrev fQ(F:PS):E:=cJ .u16 (Gz F)
theorem IZ{F:PS}{p:Nat}(h:p < 12):(Gz F)[p]? = some (F p:Int):=by
 obtain rfl|rfl|rfl|rfl|rfl|rfl|rfl|rfl|rfl|rfl|rfl|rfl:p=0\/p=1\/p=2\/p=3\/p=4\/p=5\/p=6\/p=7\/p=8\/p=9\/p=10\/p=11:=by omega
 all_goals rfl
theorem Nm{F:PS}{p:Nat}(h:p < 12):(PV F)[p]? = some (.d (.v (.int .u16 (F p:Int)))):=by simp [IZ h]
theorem PW{F G:PS}(h:∀p,p < 12->F p=G p):Gz F=Gz G:=by
 unfold Gz;rw [h 0 (by omega),h 1 (by omega),h 2 (by omega),h 3 (by omega),h 4 (by omega),h 5 (by omega),h 6 (by omega),h 7 (by omega),h 8 (by omega),h 9 (by omega),h 10 (by omega),h 11 (by omega)]
theorem Wz{F G:PS}(h:Gz F=Gz G):∀p,p < 12->F p=G p:=λp a=>by
 have:=IZ (F:=F) a;rw [h,IZ a] at this
 injection this with this
 omega
theorem Wy{F:PS}{p:Nat}(h:p < 12){v:Nat}:Af (PV F) p [.d (.v (.int .u16 (v:Int)))]=PV λi=>if i=p then v else F i:=by
 have b:(PV F).length=12:=by simp [Gz]
 rw [HF (by omega)];apply mZ;intro i;rw [List.getElem?_set];by_cases hi:i < 12
 ·rw [Nm hi,Nm hi]
  by_cases e:p=i
  ·subst e;rw [if_pos rfl,if_pos (by omega),if_pos rfl]
  ·rw [if_neg e,if_neg (λh=>e h.symm)]
 ·have a:∀G:PS,(PV G)[i]? = none:=λG=>lQ (by simp [Gz];omega)
  rw [a,a];by_cases e:p=i
  ·omega
  ·rw [if_neg e]
theorem u16_in{n:Nat}(h:n < 65536):IntKind.u16.wrap (n:Int)=n:=by
 unfold IntKind.wrap;simp [IntKind.bits,IntKind.signed,IntKind.min,IntKind.max];omega
instance:FF Tryz.prog 189 12 .u16:=⟨⟨187,⟨by kernel_rfl,by kernel_rfl,by kernel_rfl,by kernel_rfl⟩,by kernel_rfl⟩,by kernel_rfl,λh=>by
 have a:Nat.beq Tryz.prog.types.size 0=false:=by kernel_rfl
 rw [h] at a;cases a⟩
def Gl(t:CR)(l:Int)(F:PS)(k:Nat):PS:=λp':Nat=>(List.range k).foldl (λa p=>if Cg t.q p l=(p':Int) then a ||| Fe t.s l (F p) else a) 0
theorem LJ{t:CR}{l:Int}{F:PS}{k:Nat}:Gl t l F (k+1)=λp':Nat=>if Cg t.q k l=(p':Int) then Gl t l F k p' ||| Fe t.s l (F k) else Gl t l F k p':=by
 funext p';unfold Gl;rw [nE,ow];rfl
theorem UO{s:Sys}{l:Int}:Fe s l 0=0:=by
 unfold Fe;split
 ·exact GU λj=>by
   cases h:(Ks s.es l 0).testBit j
   ·rfl
   ·obtain⟨e,_,⟨_,a⟩,_⟩:=EN.1 h
    simp at a
 ·rfl
theorem PK{t:CR}{l:Int}{F:PS}{k:Nat}(h:F k=0):Gl t l F (k+1)=Gl t l F k:=by
 rw [LJ];funext p';rw [h,UO];split<;>simp
theorem ZL{t:CR}{l:Int}{F:PS}(h:DG t F)(b:t.q.nx.length<=12):Gl t l F 12=VY t l F:=by
 have key:∀k,Gl t l F (t.q.nx.length+k)=Gl t l F t.q.nx.length:=λk=>by
  induction k with
  | zero=>rfl
  | succ k a=>rw [<-lX,PK (h.z _ (by omega)),a]
 have:=key (12 - t.q.nx.length);rw [show t.q.nx.length+(12 - t.q.nx.length)=12 by omega] at this;rw [this];rfl
theorem cT{t:CR}(ht:Bv t=true){l:Int}{F:PS}(h:DG t F)(k p:Nat):Gl t l F k p < 65536:=by
 induction k with
 | zero=>simp [Gl]
 | succ k a=>
  rw [LJ];simp only;have b:=Oy ht (l:=l) (h.lt k);split
  ·have:=nK (n:=16) a b;omega
  ·exact a
structure FK where
 F:List PS
 nx:List (List Int)
 un:List Bool
abbrev PQ(r:List Int):List C:=r.map λx=>.d (iD x)
def Pe(F:List PS):List (List Int×Int):=F.zipIdx.map λx=>(Gz x.1,(x.2:Int))
abbrev br(t:CR)(a b c d:C):List C:=[.d (iD t.s.al),.d (iD t.s.st),.d (Ej t.s.es),.d (iD t.q.al),.d (C1 t.q.nx),.d (Fp t.q.ac),.d (iD t.al),.ip (E8 t.s.es),.d (.l (DK t.q)),.d (EB (C0 t)),a,b,c,d]
abbrev LV(t:CR)(m:FK):Ab:=[(0,.cells 131 14 [br t (.arr 1 12 0 m.F.length) (.mp 2) (.arr 3 6 0 m.nx.length) (.arr 4 1 0 m.un.length)]),(1,.cells 189 12 (m.F.map PV)),(2,.mp (mapA .u16 (Pe m.F))),(3,.cells 109 6 (m.nx.map PQ)),(4,.cells 4 1 (m.un.map AO))]
theorem A1(r:Nat->Nat)(q:IntKind)(l:List Int):C.Cj r (l.map λx=>.d (.v (.int q x)))=l.map λx=>.d (.v (.int q x)):=by
 rw [show (l.map λx=>C.d (.v (.int q x)))=(l.map λx=>D.v (.int q x)).map .d by simp,Rr]
theorem Oh{P:Program}{Z:Ctx}{d:Option Tmp}{ty:TypeId}{pos:String}{af:Array Edge}{g:Option (Nat×Bool)}{f:Env}{σ:Ab}{nx:Nat}{t:TypeId}{x:Operand}{id k i j n:Nat}{T:TypeId}{rows:List (List C)}{r:List C}{c:C}[l:DC P t false n](a:ev f x=some (.o (.ptr id k i j)))(e:look σ id=some (.cells T k rows))(b:rows[i]? = some r)(h:r[j]? = some c) :
 AW P TB Z ⟨d,.load t x,ty,pos,af,g⟩ f σ nx (.o c):=WA a e b (show fy false n j r=some (.o c) by unfold fy;rw [h];rfl)
theorem So{r:List Nat}:∀i,i < 5->(0::1::2::3::4::r)[i]? = some i
 | 0,_|1,_|2,_|3,_|4,_=>rfl
 | n+5,h=>by omega
theorem VN{a b:Nat}(ha:a < 65536)(hb:b < 65536):FV .u16 (a:Int) (b:Int)=((a ||| b:Nat):Int):=by
 have d:a ||| b < 2 ^ 16:=nK (by omega) (by omega);unfold FV
 have c:(BitVec.ofInt IntKind.u16.bits (a:Int) ||| BitVec.ofInt IntKind.u16.bits (b:Int)).toNat=a ||| b:=by
  have e:IntKind.u16.bits=16:=rfl;rw [e];simp only [BitVec.toNat_or,BitVec.ofInt_natCast,BitVec.toNat_ofNat];rw [lW (by omega),lW (by omega)]
 rw [c];exact u16_in (by omega)
theorem VX[Dx TB]{t:CR}(ht:Bv t=true)(m:FK){l:Int}(n:0<=l/\l < 6){F:PS}(A:DG t F):Spec Tryz.prog TB 180 (LV t m) 5 [.o (.ptr 0 14 0 0),fQ F,eI .i64 l] (λx σ nx=>x=fQ (VY t l F)/\σ=LV t m/\nx=5):=by
 have Q:AZ t.s=true:=by unfold Bv at ht;simp only [d4] at ht;exact ht.1
 have ha:=DB ht;have R:=Ay ha;rw [<-ZL A (by omega)];refine eR Tryz.func180 rfl (by kernel_rfl) rfl ?_;intro Z c;(repeat first|refine tA rfl ?_ |refine aU rfl ?_ |refine Aa ?_);refine aB ?_;refine aL (α:={k:Nat // k<=12}) [0,2,6,7,11] [0,1,2,3,4,5] rfl rfl (λs=>[(12,eI .i64 s.1)]) (λs=>[(6,.cells 189 12 [PV (Gl t l F s.1)])]) 7 (λs=>12 - s.1) (⟨0,by omega⟩) c rfl (by (simp[cX,zC,c,A1]<;>rfl)) ?_;rintro⟨k,hk⟩;(try dsimp only[cA,cB]);by_cases I:k < 12
 ·have P:(Gz F)[((k:Nat):Int).toNat]? = some (F k:Int):=by rw [i9];exact IZ I
  have u:=A.lt k;(repeat first|refine s2 rfl λ_ i=>?_ |refine aU rfl ?_ |refine Aa ?_)
  ((refine aC rfl ?_ ?_<;>rintro⟨⟩);all_goals try(exfalso;(simp only[oZ] at *;omega)))
  refine aK ?_;refine aS (aB ?_);(repeat first|refine tA rfl ?_ |refine s2 rfl λ_ i=>?_|(refine Ai rfl ?_;refine gA rfl ?_;first| refine gS (λ_ _=>KH (l:=Gz F) rfl rfl rfl (by omega) P) ?_) |refine aU rfl ?_ |refine Aa ?_);(refine aC rfl ?_ ?_<;>rintro⟨⟩)
  ·have N:F k=0:=by (simp only[oZ] at *;omega)
   refine aE ?_;(repeat first|(refine sA rfl ?_ ?_;first|exact tI|omega) |refine aU rfl ?_ |refine Aa ?_);refine⟨⟨k+1,by omega⟩,by dsimp only;(omega),[0,1,2,3,4,5,6],?_⟩;simp[cX,zC,c,A1,PK N];exact So
  ·have H:k < t.q.nx.length:=by
    rcases l9 k t.q.nx.length with K|K
    ·exact K
    ·have:=A.z k K;(simp only[oZ] at *;omega)
   have ta:=HI (a:=t.q) (q:=((k:Nat):Int).toNat) (by omega);have ra:=Ge (h:=λl=>Cg t.q k l) n.1 n.2
   have el:((l.toNat:Nat):Int)=l:=by omega
   simp only [el] at ra;have J:=CK ha H n.1 n.2;have w:=dI (TB:=TB) Q n u;have y:=Oy ht (l:=l) u;have G:=cT ht (l:=l) A k
   obtain⟨g,M⟩:∃g:Nat,Cg t.q k l=g:=⟨(Cg t.q k l).toNat,by omega⟩
   rw [M] at ra J;refine aK ?_;(repeat first|(refine sA rfl ?_ ?_;first|exact tI|omega) |(refine sC rfl (Ly _ _) ?_;intro _ i)|(refine Ai rfl ?_;refine gA rfl ?_;first| refine gS (λ_ _=>QZ rfl (IntWalk.i64_in _ (by omega))) ?_) |refine aU rfl ?_ |refine Aa ?_)
   have ej:0+((g:Nat):Int).toNat*1=g:=by omega
   have L:(PV (Gl t l F k))[0+((g:Nat):Int).toNat*1]? = some (.d (.v (.int .u16 (Gl t l F k g:Int)))):=by rw [ej];exact Nm (by omega)
   have f:=VN (G g) y
   have B:Gl t l F (k+1)=λp':Nat=>if p'=g then Gl t l F k g ||| Fe t.s l (F k) else Gl t l F k p':=by
    rw [LJ,M];funext p';by_cases e:p'=g
    ·subst e;simp
    ·rw [if_neg e,if_neg (by omega)]
   have b:=Wy (F:=Gl t l F k) (p:=g) (by omega) (v:=Gl t l F k g ||| Fe t.s l (F k));rw [<-B] at b;(refine aC rfl ?_ ?_<;>rintro⟨⟩)
   ·have hb:AR t.s.al l.toNat=true:=by simpa [hasB,n.1] using i
    have j:Fe t.s l (F k)=Ks t.s.es l (F k):=by unfold Fe;rw [if_pos hb]
    rw [<-j] at w;(repeat first|(refine sA rfl ?_ ?_;first|exact tI|omega) |(refine s4 rfl ‹_› rfl ?_ ?_;omega) |refine sP rfl (w) rfl ?_ |refine aU rfl ?_ |refine Aa ?_);(repeat first|(refine sA rfl ?_ ?_;first|exact tI|omega)|(refine Ai rfl ?_;refine gA rfl ?_;first| refine gS (λ_ _=>Da rfl ra) ?_|refine gQ (Oh rfl rfl rfl L) rfl ?_|refine gS (λ_ _=>QZ rfl (u16_in y)) ?_|refine gS (λ_ _=>fY rfl rfl f) ?_));(refine Ai rfl ?_;refine He ?_ rfl (by rfl);refine Bs (r:=PV (Gl t l F k)) rfl rfl rfl rfl rfl rfl (by show 0+((g:Nat):Int).toNat*1+1<=12;omega) ?_);refine Aa ?_;(repeat first|(refine sA rfl ?_ ?_;first|exact tI|omega) |refine aU rfl ?_ |refine Aa ?_);refine⟨⟨k+1,by omega⟩,by dsimp only;(omega),[0,1,2,3,4,5,6],?_⟩;simp[cX,zC,c,A1,f];exact⟨So,by simpa [Af] using b⟩
   ·have hb:AR t.s.al l.toNat=false:=by simpa [hasB,n.1] using i
    have j:Fe t.s l (F k)=F k:=by unfold Fe;rw [if_neg (by simp [hb])]
    rw [j] at f b;refine aK ?_;(repeat first|(refine sA rfl ?_ ?_;first|exact tI|omega) |(refine s4 rfl ‹_› rfl ?_ ?_;omega)|(refine Ai rfl ?_;refine gA rfl ?_;first| refine gS (λ_ _=>Da rfl ra) ?_|refine gQ (Oh rfl rfl rfl L) rfl ?_|refine gS (λ_ _=>QZ rfl (u16_in u)) ?_|refine gS (λ_ _=>fY rfl rfl f) ?_) |refine aU rfl ?_);(refine Ai rfl ?_;refine He ?_ rfl (by rfl);refine Bs (r:=PV (Gl t l F k)) rfl rfl rfl rfl rfl rfl (by show 0+((g:Nat):Int).toNat*1+1<=12;omega) ?_);refine Aa ?_;(repeat first|(refine sA rfl ?_ ?_;first|exact tI|omega) |refine aU rfl ?_ |refine Aa ?_);refine⟨⟨k+1,by omega⟩,by dsimp only;(omega),[0,1,2,3,4,5,6],?_⟩;simp[cX,zC,c,A1,f];exact⟨So,by simpa [Af] using b⟩
 ·obtain rfl:k=12:=by omega
  (repeat first|refine s2 rfl λ_ i=>?_ |refine aU rfl ?_ |refine Aa ?_)
  ((refine aC rfl ?_ ?_<;>rintro⟨⟩);all_goals try(exfalso;(simp only[oZ] at *;omega)))
  refine aE ?_;(repeat first|refine tA rfl ?_ |refine aU rfl ?_ |refine Aa ?_);refine aR ⟨_,rfl,[0,1,2,3,4],fQ (Gl t l F 12),LV t m,⟨So,by decide⟩,rfl,by (simp[cX,zC,c,A1]),rfl,rfl,rfl⟩
end Go.Am
namespace Go.Am
set_option linter.unusedVariables false
theorem cx{α:Type}{l:List α}{k:Nat}{x d:α}(h:l[k]? = some x):l.getD k d=x:=by rw [nY,h];rfl
def fA(a:AX)(q l:Int):Int:=Cg a q.toNat l
def TP(a:AX)(q:Int):Bool:=a.ac.getD q.toNat false
theorem P0{a:AX}:∀(w:List Int) (q:Int),(∀l∈w,l∈Ac a.al)->Dd (fA a) q w=Fk a q (CA w)
 | [],q,_=>rfl
 | l::w,q,h=>by
  have c:=Ak (h l (by simp));have e:Fk a q (CA (l::w))=Fk a (Cg a q.toNat (((lb l).toNat:Int) - 97)) (CA w):=rfl;rw [e,JE c.1 (by omega)];exact P0 w _ λm b=>h m (by simp [b])
end Go.Am
namespace Go.Am
open Go Go.Proofs
set_option maxHeartbeats 1000000
set_option maxRecDepth 4000
attribute [local irreducible] AW BQ Lex A9 Aj Spec
variable {TB:Bp}
structure kR (P:Program) (TB:Bp) (gA gQ:FuncId) (t:Ii) (al:Int) (A:W->Bool):Prop where
 alph:Pure P TB gA [fe t] (eI .i64 al)
 ask:∀w:W,w.length<=1099511627776->Pure P TB gQ [fe t,eT w] (eB (A w))
structure lB (t:Bl):Prop where
 rl:t.rows.length<=4194304
 cl:t.cols.length<=4194304
 rb:∀w∈t.rows,w.length<=4194304
 cb:∀w∈t.cols,w.length<=4194304
def rowAt(al:Int)(l:List W)(i:Nat):Bool:=match l[i]? with
 | none=>true
 | some w=>!decide (w.length=0) && (within w al && decide (w.dropLast∈l.take i))
def Zk(al:Int)(l:List W)(i:Nat):Bool:=match l[i]? with
 | none=>true
 | some w=>decide (w.length<=4000) && (within w al && !decide (w∈l.take i))
def Pz(f:Nat->Bool)(n:Nat):Bool:=(List.range n).all λi=>decide (i=0) || f i
def UQ(al:Int)(t:Bl):Bool:=decide (0<=al) && (decide (1<=t.rows.length/\t.rows.length<=12) && (decide (1<=t.cols.length/\t.cols.length<=20) && (decide (t.rows[0]? = some []) && decide (t.cols[0]? = some []))))
def LX(al:Int)(t:Bl):Bool:=UQ al t && (Pz (rowAt al t.rows) t.rows.length && Pz (Zk al t.cols) t.cols.length)
def Kp(al:Int)(w:W):Bool:=within w al && decide (w.length<=4000)
def BH(A:W->Bool)(al:Int)(t:Bl):Bool:=LX al t && decide (AT A t).Nodup
def Ei(A:W->Bool)(al:Int)(t:Bl):Bool:=BH A al t && (BC A (Bo al) t).isNone
theorem QJ(w:W)(i:Nat)(c:UInt8)(b:w[((i:Nat):Int).toNat]? = some c):Pure Tryz.prog TB 82 [eT w,eI .i64 i] (eI .i64 (if MR c then (c.toNat:Int) - 97 else -1)):=by
 by_cases h:MR c=true
 ·rw [if_pos h]
  rw [J9,decide_eq_true_eq] at h;exact Gw w i c b h
 ·rw [if_neg h]
  rw [J9,decide_eq_true_eq] at h;have hb:=c.toNat_lt;refine eN Tryz.func82 rfl (by kernel_rfl) rfl ?_;intro Z a;(repeat' first|(refine sA rfl ?_ ?_;first|exact tI|omega) |(refine s4 rfl ‹_› rfl ?_ ?_;omega) |refine s2 rfl λ_ d=>?_ |refine s3 rfl ?_ ?_<;>rintro rfl |refine aU rfl ?_ |refine Aa ?_|(refine aC rfl ?_ ?_<;>rintro⟨⟩)|refine aK ?_|refine aE ?_|refine aB ?_|refine aR ⟨_,rfl,?_⟩)
  all_goals first
   | rfl
   | (exfalso;grind)
theorem Sr(al:Int)(c:UInt8):hasB al (if MR c then (c.toNat:Int) - 97 else -1)=O7 al c:=by
 unfold O7 hasB;by_cases h:MR c=true
 ·rw [if_pos h,h]
  rw [J9,decide_eq_true_eq] at h
  have e:((c.toNat:Int) - 97).toNat=c.toNat - 97:=by omega
  rw [e];simp;omega
 ·rw [if_neg h]
  simp [h]
end Go.Am
namespace Go.Am
set_option linter.unusedVariables false
set_option linter.unusedSectionVars false
section
variable {α β:Type}[DecidableEq α][DecidableEq β]
end
def ku(a:AX)(q r:Int):Prop:=∀w,AU (Bo a.al) w->TP a (Fk a q w)=TP a (Fk a r w)
structure lv (a:AX) (ks:List (List Int)):Prop where
 len:ks.length=a.nx.length
 ac:∀q r:Nat,q < a.nx.length->r < a.nx.length->ks[q]? = ks[r]?->TP a q=TP a r
 go:∀q r:Nat,q < a.nx.length->r < a.nx.length->ks[q]? = ks[r]?->∀l∈Ac a.al,ks[(Cg a q l).toNat]? = ks[(Cg a r l).toNat]?
 res:∀q r:Nat,q < a.nx.length->r < a.nx.length->ku a q r->ks[q]? = ks[r]?
structure gH (a:AX):Prop where
 b:ew a
 n1:1<=a.nx.length
 ac:a.ac.length=a.nx.length
section
variable {a:AX}(h:gH a)
include h
end
structure kt (a m:AX):Prop where
 al:m.al=a.al
 g:gH m
 n2:m.nx.length<=a.nx.length
 lang:∀w,AU (Bo a.al) w->LA m w=LA a w
 rc:∀i:Nat,i < m.nx.length->∃w,AU (Bo a.al) w/\Fk m 0 w=i
 ds:∀i j:Nat,i < m.nx.length->j < m.nx.length->ku m i j->i=j
end Go.Am
namespace Go.Am
open Go Go.Proofs
set_option maxHeartbeats 1000000
set_option maxRecDepth 4000
attribute [local irreducible] AW BQ Lex A9 Aj Spec
variable {TB:Bp}
end Go.Am
