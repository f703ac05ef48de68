/-
  The table that is closed.
-/
import Derived.Test.YtgpbfllcjdfelaaGreatDoorPart21
import Derived.Test.YtgpbfllcjdfelaaGreatDoorPart17
set_option linter.all false
namespace Go.Am
open Go Go.Proofs
set_option maxHeartbeats 1000000
set_option maxRecDepth 4000
attribute [local irreducible] AU BZ Lex Br Aj Spec
variable {TB:Bp}
structure Iq (al:Int) (b:Nat) (t:A9):Prop where
 onR:∀w∈t.rows,AD (A2 al) w/\w.length<=b
 onC:∀x∈t.cols,AD (A2 al) x/\x.length<=20000
 rl:t.rows.length<=12
 cl:t.cols.length<=20
def Se(ok:W->Prop)(al:Int):Prop:=∀w,AD (A2 al) w->w.length<=50000->ok w
def Qh(ls:List UInt8)(t:A9)(v:W):Prop:=∃r∈t.rows,∃m:W,(m=[]\/∃l∈ls,m=[l])/\∃x:W,(x=[]\/x∈t.cols)/\v=r++m++x
def KK(ok:W->Prop)(ls:List UInt8)(t:A9):Prop:=∀v,Qh ls t v->ok v
def DO(L:W->Bool)(ls:List UInt8):Nat->A9->List A9
 | 0,t=>[t]
 | n+1,t=>t::match Bb L ls t with
  | none=>[]
  | some w=>if t.rows.length=12 then [] else DO L ls n ⟨t.rows++[w],t.cols⟩
theorem Eh{L:W->Bool}{ls:List UInt8}{n:Nat}{t:A9}:t∈DO L ls n t:=by cases n<;>simp [DO]
theorem Iq.aw{ok:W->Prop}{al:Int}{b:Nat}{t:A9}(h:Iq al b t)(c:KK ok (A2 al) t)(hb:b<=20100):TL ok t/\∀w∈t.rows,∀l∈A2 al,∀x∈t.cols,ok (w++[l]++x):=
  ⟨⟨λw hw x a=>c _ ⟨w,hw,[],.inl rfl,x,.inr a,by simp⟩,λw hw=>by have:=(h.onR w hw).2;omega,λx a=>by have:=(h.onC x a).2;omega,by have:=h.rl;omega,by have:=h.cl;omega⟩,
   λw hw l d x a=>c _ ⟨w,hw,[l],.inr ⟨l,d,rfl⟩,x,.inr a,rfl⟩⟩
theorem Iq.on{ok:W->Prop}{al:Int}{b:Nat}{t:A9}(h:Iq al b t)(i:Se ok al)(hb:b<=20100):KK ok (A2 al) t:=by
 rintro v ⟨r,e,m,f,x,d,rfl⟩;have n:=h.onR r e
 have k:AD (A2 al) m/\m.length<=1:=by
  rcases f with rfl|⟨l,g,rfl⟩
  ·exact⟨λc a=>by simp at a,by simp⟩
  ·exact⟨λc a=>by simp at a;subst a;exact g,by simp⟩
 have j:AD (A2 al) x/\x.length<=20000:=by
  rcases d with rfl|d
  ·exact⟨λc a=>by simp at a,by simp⟩
  ·exact h.onC x d
 refine i _ (λc a=>?_) (by simp;omega);simp only [em] at a
 rcases a with (a|a)|a
 ·exact n.1 c a
 ·exact k.1 c a
 ·exact j.1 c a
theorem Iq.push{L:W->Bool}{al:Int}{b:Nat}{t:A9}{w:W}(h:Iq al b t)(g:Bb L (A2 al) t=some w)(i:t.rows.length < 12):Iq al (b+1) ⟨t.rows++[w],t.cols⟩:=by
 obtain⟨⟨r,f,l,e,rfl⟩,_⟩:=IT g;refine⟨λu a=>?_,h.onC,by simp;omega,h.cl⟩
 rcases em.1 a with a|a
 ·have:=h.onR u a;exact⟨this.1,by omega⟩
 ·simp at a
  subst a;have:=h.onR r f;refine⟨λc d=>?_,by simp;omega⟩
  rcases em.1 d with d|d
  ·exact this.1 c d
  ·simp at d;subst d;exact e
theorem Iq.grow{L:W->Bool}{al:Int}:∀ {n b:Nat} {t y:A9},Iq al b t->y∈DO L (A2 al) n t->Iq al (b+n) y
 | 0,b,t,y,h,a=>by simp [DO] at a;subst a;exact h
 | n + 1, b,t,y,h,a=>by
  have e:∀ {b':Nat} {z:A9},b'<=b+(n+1)->Iq al b' z->Iq al (b+(n+1)) z:=λhb c=>⟨λw hw=>⟨(c.onR w hw).1,i9 (c.onR w hw).2 hb⟩,c.onC,c.rl,c.cl⟩
  unfold DO at a
  rcases kw.1 a with rfl|a
  ·exact e (by omega) h
  ·cases d:Bb L (A2 al) t with
   | none=>rw [d] at a;simp at a
   | some w=>
    rw [d] at a;dsimp only at a;split at a
    ·simp at a
    ·have:=h.rl
     exact e (by omega) (Iq.grow (h.push d (by omega)) a)
theorem Iq.kr{L:W->Bool}{ok:W->Prop}{al:Int}{b:Nat}{t:A9}(h:Iq al b t)(c:Se ok al)(hb:b<=20000):∀y∈DO L (A2 al) 13 t,KK ok (A2 al) y:=λy a=>(h.grow a).on c (by omega)
theorem Mi{c:C}{L:W->Bool}{ok:W->Prop}(K:GK Tryz.prog TB c L ok)(al:Int)(t:A9)(X:∀y∈DO L (A2 al) 13 t,KK ok (A2 al) y)(ht:Iq al 20000 t) :
 Pure Tryz.prog TB 103 [Pe al c,CW t] (KR (Bw L (A2 al) 13 t)):=by
 have v:=Dy c K.Bz;have V:=ht.rl;have Y:=ht.cl;have J:=Qk (TB:=TB) t.rows (by omega);have I:=Qk (TB:=TB) t.cols (by omega);refine AS.PQ (AS.ofM 2 (i7 _) Tryz.func103 rfl rfl (by kernel_rfl) (ce rfl) ?_);intro Γ b;(repeat first|refine aU rfl ?_);(refine pW rfl ?_ rfl (by rfl);refine FU rfl rfl ?_);(refine Ag rfl ?_;refine Dg (λ_ _=>EI rfl rfl rfl) rfl ?_);(repeat first|refine tM rfl ?_ |refine aU rfl ?_ |refine Aa ?_);refine R.Th [(7,3),(0,2),(1,2),(3,2),(4,2),(2,1),(5,1),(6,0),(8,5)] mixed (by kernel_rfl) rfl (by kernel_rfl) ?_;(repeat ((refine R.Ag rfl ?_;first|(refine R.yQ (md:=false) rfl rfl rfl ?_ ?_;exact tI) |refine R.yP rfl rfl rfl rfl ?_ )));(refine R.Ag rfl ?_;refine R.Io (λ_=>?_) rfl rfl;refine Ae [] rfl rfl J ⟨rfl,by simp,by simp⟩ rfl trivial ?_;rintro N F G ⟨rfl,rfl,rfl⟩ _);(refine R.Ag rfl ?_;refine R.Io (λ_=>?_) rfl rfl;refine Ae [] rfl rfl I ⟨rfl,by simp,by simp⟩ rfl trivial ?_;rintro N F G ⟨rfl,rfl,rfl⟩ _);(repeat ((refine R.Ag rfl ?_;first|refine R.yA rfl rfl rfl rfl ?_|refine R.Dg (λ_ _ _=>AG rfl rfl (by rfl) (by rfl)) rfl rfl ?_ )));refine R.ME ?_;refine aB ?_
 have P:∀x:A9,Bb L (A2 al) x=none\/∃w,Bb L (A2 al) x=some w:=λx=>by cases Bb L (A2 al) x<;>simp
 refine Aj.Cq (U:={p:Nat×A9 // p.1<=13/\13<=p.1+p.2.rows.length/\Iq al (20000+p.2.rows.length) p.2/\Bw L (A2 al) 13 t=Bw L (A2 al) p.1 p.2/\∀y∈DO L (A2 al) p.1 p.2,KK ok (A2 al) y}) (λ⟨⟨m,u⟩,B,f,j,q,e⟩=>[(2,.o (.ptr 0 2 0 0)),(4,.o (.ptr 1 2 0 0)),(6,.o (.ptr 4 2 0 0))]) (λ⟨⟨m,u⟩,B,f,j,q,e⟩=>[(0,.cells 90 2 [[.d (iD al),c]]),(1,.cells 47 2 [[.d (.l []),.d (.l [])]]),(2,.cells 9 1 (u.rows.map AM)),(3,.cells 9 1 (u.cols.map AM)),(4,.cells 47 2 [[.arr 2 1 0 u.rows.length,.arr 3 1 0 u.cols.length]])]) 5 (λ⟨⟨m,u⟩,B,f,j,q,e⟩=>m) (⟨(13,t),by simp,by simp,⟨λw hw=>⟨(ht.onR w hw).1,by have:=(ht.onR w hw).2;omega⟩,ht.onC,ht.rl,ht.cl⟩,rfl,X⟩) [0,1,2,3,4] (JT b rfl rfl) (by (simp[cX,zC,b,v,eC,Ab.AV,Cn,H0,BC,Af])) ?_;rintro⟨⟨m,u⟩,B,f,j,q,e⟩;(try dsimp only);dsimp only at B f j q e
 have s:∀l:List W,((l.map AM).drop 0).take l.length=(l.map BU).map (λr=>r.map C.d):=λl=>by rw [mR,kD (by simp)];simp [d4]
 have S:=j.rl;have T:=j.cl;have n:=j.aw (e u Eh) (by omega);have g:=Jh (TB:=TB) K al u n.1 n.2
 have A:cQ [(0,.cells 90 2 [[.d (iD al),c]]),(1,.cells 47 2 [[.d (.l []),.d (.l [])]]),(2,.cells 9 1 (u.rows.map AM)),(3,.cells 9 1 (u.cols.map AM)),(4,.cells 47 2 [[.arr 2 1 0 u.rows.length,.arr 3 1 0 u.cols.length]])] [.a [.d (iD al),c],.a [.arr 2 1 0 u.rows.length,.arr 3 1 0 u.cols.length]] [Pe al c,CW u]:=
  .cons (.cons (.pure rfl) (.cons (.pure K.Bz) .nil)) (.cons (.cons (.arr rfl (by simp) (s _)) (.cons (.arr rfl (by simp) (s _)) .nil)) .nil)
 refine aB ?_
 rcases P u with k|⟨w,k⟩
 ·rw [k] at g
  (repeat first|refine tM rfl ?_ |refine s2 rfl λ_ h=>?_|(refine Ag rfl ?_;refine gA rfl ?_;first| refine gQ (JA rfl rfl (A) (g) rfl) rfl ?_) |refine aU rfl ?_ |refine Aa ?_);(refine aC rfl ?_ ?_<;>rintro⟨⟩)
  ·(repeat first|refine tM rfl ?_ |refine aU rfl ?_ |refine Aa ?_)
   have z:Bw L (A2 al) 13 t=some u:=by
    rw [q]
    obtain⟨m',rfl⟩:∃m',m=m'+1:=⟨m - 1,by omega⟩
    simp [Bw,k]
   refine Aj.names [1,2,3] [(4,.o (.ptr 0 2 0 0)),(5,eB true)] [(0,.cells 47 2 [[.arr 1 1 0 u.rows.length,.arr 2 1 0 u.cols.length]]),(1,.cells 9 1 (u.rows.map AM)),(2,.cells 9 1 (u.cols.map AM))] (by intro i hi;rw [b] at hi;omega) (by simp) (by simp[cX,zC,b,H0]) (by simp[cX,zC,b,H0,Ab.AV,Cn,BC,eC,Af]) ?_;refine Aj.LB [1,2] [(4,.o (.ptr 0 2 0 0)),(5,eB true)] [(0,.cells 47 2 [[.d (Bd u.rows),.d (Bd u.cols)]])] ⟨⟨_,rfl,.Bo⟩,⟨_,rfl,.Bo⟩,trivial⟩ ⟨⟨_,rfl,by simp,.cons (.full (by simp) rfl (by simp [d4]) (by simp)) (.cons (.full (by simp) rfl (by simp [d4]) (by simp)) .nil)⟩,trivial⟩ ?_;refine Aj.freeze [0] [(4,.o (.ip [Bd u.rows,Bd u.cols])),(5,eB true)] ⟨⟨_,rfl,.o (.ptr (by simp) rfl rfl rfl)⟩,⟨_,rfl,.Bo⟩,trivial⟩ ?_;refine aR ⟨_,rfl,?_⟩;rw [z];rfl
  ·simp at h
 ·rw [k] at g
  (repeat first|refine tM rfl ?_ |refine s2 rfl λ_ h=>?_|(refine Ag rfl ?_;refine gA rfl ?_;first| refine gQ (JA rfl rfl (A) (g) rfl) rfl ?_) |refine aU rfl ?_ |refine Aa ?_);(refine aC rfl ?_ ?_<;>rintro⟨⟩)
  ·simp at h
  ·refine aK ?_
   (repeat first|refine tM rfl ?_ |refine s2 rfl λ_ h=>?_ |refine aU rfl ?_ |refine Aa ?_);(refine aC rfl ?_ ?_<;>rintro⟨⟩)
   ·(repeat first|refine tM rfl ?_|(refine Ag rfl ?_;refine gA rfl ?_;first| refine gS (λ_ _=>AG rfl rfl (by rfl) (by rfl)) ?_) |refine aU rfl ?_ |refine Aa ?_)
    have z:Bw L (A2 al) 13 t=none:=by
     have M:u.rows.length=12:=by (simp only[oZ] at *;omega)
     rw [q]
     obtain⟨m',rfl⟩:∃m',m=m'+1:=⟨m - 1,by omega⟩
     simp [Bw,k,M]
    refine Aj.freeze [1] [(4,.o (.ip [.l [],.l []])),(5,eB false)] ⟨⟨_,rfl,.o (.ptr (by simp) rfl rfl rfl)⟩,⟨_,rfl,.Bo⟩,trivial⟩ ?_;refine aR ⟨_,rfl,?_⟩;rw [z];rfl
   ·refine aK ?_
    have H:u.rows.length < 12:=by (simp only[oZ] at *;omega)
    obtain⟨m',rfl⟩:∃m',m=m'+1:=⟨m - 1,by omega⟩
    have z:Bw L (A2 al) 13 t=Bw L (A2 al) m' ⟨u.rows++[w],u.cols⟩:=by
     rw [q]
     conv=>lhs;unfold Bw
     rw [k];dsimp only;rw [if_neg (by omega)]
    have hp:=j.push k H;(repeat first|refine tA rfl ?_ |refine aU rfl ?_);(refine pW rfl ?_ rfl (by rfl);refine Aw rfl rfl rfl (by first| (simp;done)|(simp;(omega))) rfl (by intro r v;simp at v;subst v;rfl) (by rfl) (ce rfl) (by simp;omega) ?_);(repeat first|refine tM rfl ?_ |refine Aa ?_);refine⟨⟨⟨m',⟨u.rows++[w],u.cols⟩⟩,by dsimp only;omega,by simp;omega,by simpa [lp] using hp,z,λy Q=>e y (by unfold DO;rw [k];dsimp only;rw [if_neg (by omega)];exact kP _ Q)⟩,by dsimp only;(omega),[0,1,5,3,4],?_⟩;simp[cX,zC,b,v,eC,Ab.AV,Cn,H0,BC,Af]
def Bn(L:W->Bool)(al:Int)(t:A9):AY:=⟨al,t.rows.map λr=>(Ac al).map λl=>((EF L t (r++[lb l]):Nat):Int),t.rows.map L⟩
theorem Yt{L:W->Bool}{al:Int}{t:A9}(b:Bb L (A2 al) t=none){r:W}(a:r∈t.rows){l:Int}(d:l∈Ac al) :
 (BT (Bh L t t.rows.length) (marks L t.cols (r++[lb l]))).getD 0=((EF L t (r++[lb l]):Nat):Int):=by
 have c:marks L t.cols (r++[lb l])∈AJ L t:=by
  have:=mh.1 b (r++[lb l]) (by
   unfold Ck
   exact lY.2 ⟨r,a,d8.2 ⟨lb l,d8.2 ⟨l,d,rfl⟩,rfl⟩⟩)
  simpa using this
 rw [QZ,if_pos c];rfl
end Go.Am
namespace Go.Am
set_option linter.unusedVariables false
theorem LI{al:Int}{l:Int}(h:l∈Ac al):lb l∈A2 al:=d8.2 ⟨l,h,rfl⟩
theorem iH{L:W->Bool}{al:Int}{t:A9}(hal:BO al=true)(h:Dk L (A2 al) t)(b:t.rows.length<=12):AL (Bn L al t)=true:=by
 have j:0 < t.rows.length:=(am.1 h.r0).1;unfold AL;simp only [d5,decide_eq_true_eq,f7];refine⟨⟨⟨hal,by simp [Bn];omega⟩,by simp [Bn]⟩,λrow a=>?_⟩;simp only [Bn,d8] at a;obtain⟨r,b,rfl⟩:=a;unfold Ef;simp only [d5,decide_eq_true_eq,f7];refine⟨by simp [Bn],λy c=>?_⟩;obtain⟨l,d,rfl⟩:=d8.1 c;obtain⟨i,hi,e⟩:=lw b;obtain⟨r',g,_⟩:=h.idx (i:=i) (r:=r) (by rw [d7 hi,e]) (LI d);have f:=(am.1 g).1;unfold Oc;simp [Bn];exact f
theorem XK{L:W->Bool}{al:Int}{t:A9}{q:Nat}{c:UInt8}(e:q < t.rows.length)(g:c∈A2 al):Bj (Bn L al t) q ((c.toNat:Int) - 97)=((EF L t (t.rows.getD q []++[c]):Nat):Int):=by
 obtain⟨l,a,rfl⟩:=d8.1 g;have d:=Au a;rw [Ff d.1 (by omega)];obtain⟨k,hk,f⟩:=lw a
 have b:(Ay al 6)[k]? = some l:=by rw [d7 hk,f]
 have m:=Es b;unfold Bj;have j:Eg (Bn L al t).al l.toNat=true:=d.2.2;rw [if_pos j];have i:(Ay (Bn L al t).al l.toNat).length=k:=m;rw [i]
 have h:(Bn L al t).nx.getD q []=(Ac al).map λl=>((EF L t (t.rows.getD q []++[lb l]):Nat):Int):=by
  simp [Bn,List.getD,e]
 rw [h];simp [List.getD,b]
theorem OS{L:W->Bool}{al:Int}{t:A9}(h:Dk L (A2 al) t):∀(w:W) (q:Nat),AD (A2 al) w->q < t.rows.length->AI (Bn L al t) q w=((runM L t q w:Nat):Int)
 | [],q,_,_=>rfl
 | c::w,q,hw,a=>by
  have e:t.rows[q]? = some t.rows[q]:=d7 a;have b:=hw c (by simp);obtain⟨_,i,_⟩:=h.idx e b
  have g:t.rows.getD q []=t.rows[q]:=by simp [e]
  have d:=(am.1 i).1
  show AI (Bn L al t) (Bj (Bn L al t) ((q:Int)).toNat ((c.toNat:Int) - 97)) w=_
  rw [f6,XK a b];rw [<-g] at d;exact OS h w _ (λx f=>hw x (by simp [f])) d
theorem iE{L:W->Bool}{al:Int}{t:A9}(h:Dk L (A2 al) t){w:W}(hw:AD (A2 al) w):LA (Bn L al t) w=Qb L t w:=by
 have b:0 < t.rows.length:=(am.1 h.r0).1;have c:=h.run w 0 hw b;unfold LA Qb;have a:=OS h w 0 hw b;rw [show ((0:Nat):Int)=0 from rfl] at a;rw [a,f6];simp [Bn,List.getD,c]
end Go.Am
namespace Go.Am
open Go
set_option linter.unusedVariables false
def KU(a b:AY)(s0:Int)(op:Bool->Bool->Bool):Gr:=
 ⟨a.nx.length*b.nx.length,λx l=>[Bj a (x / b.nx.length).toNat l*b.nx.length+Bj b (x % b.nx.length).toNat l],λx=>op (a.ac.getD (x / b.nx.length).toNat false) (b.ac.getD (x % b.nx.length).toNat false),Ac a.al,s0⟩
def Eb(a b:AY)(kd:Int):Net:=⟨[],[a,b],[0,0],a.al,kd,0⟩
theorem Hw{a b:AY}(hb:AL b=true){x:Int}(c:0<=x/\x < (KU a b 0 bne).N):0<=x / b.nx.length/\x / b.nx.length < a.nx.length/\0<=x % b.nx.length/\x % b.nx.length < b.nx.length:=by
 have e:=Ax hb;have d:x < ((a.nx.length*b.nx.length:Nat):Int):=c.2;rw [l8] at d;exact⟨ou c.1 (by omega),Int.ediv_lt_of_lt_mul (by omega) d,mI _ (by omega),mj _ (by omega)⟩
theorem XJ{a b:AY}(ha:AL a=true)(hb:AL b=true){s0:Int}{op:Bool->Bool->Bool}(e:0<=s0/\s0 < a.nx.length*b.nx.length):Ll (KU a b s0 op):=by
 refine⟨⟨e.1,by show s0 < ((a.nx.length*b.nx.length:Nat):Int);rw [l8];exact e.2⟩,λx f l c y d=>?_,Fg _ _⟩;have c:=Au (show l∈Ay a.al 6 from c);have k:=Hw hb f;have h:=DA ha (q:=(x / b.nx.length).toNat) (by omega) c.1 (by omega);have j:=DA hb (q:=(x % b.nx.length).toNat) (by omega) c.1 (by omega)
 have d:y=Bj a (x / b.nx.length).toNat l*b.nx.length+Bj b (x % b.nx.length).toNat l:=by simpa [KU] using d
 subst d;generalize Bj a (x / b.nx.length).toNat l=u at *;generalize Bj b (x % b.nx.length).toNat l=v at *
 show 0<=u*(b.nx.length:Int)+v/\u*(b.nx.length:Int)+v < ((a.nx.length*b.nx.length:Nat):Int)
 rw [l8];have i:0<=u*(b.nx.length:Int):=mU h.1 (by omega);have g:(u+1)*(b.nx.length:Int)<=a.nx.length*b.nx.length:=lS (by omega) (by omega);rw [nc] at g;omega
theorem bm{a b:AY}{kd:Int}(ha:AL a=true)(hb:AL b=true):I7 (Eb a b kd)/\ja (Eb a b kd)/\Fits (A0 (Eb a b kd)) (Eb a b kd).st:=by
 have g:=Ax ha;have f:=Ax hb;refine⟨⟨λs e=>(by cases e),λx d=>?_,by simp [Eb],by simp [Eb]⟩,⟨λ_=>by simp [Eb],λ_=>by simp [Eb]⟩,?_⟩
 ·simp [Eb] at d;rcases d with rfl|rfl<;>assumption
 ·refine Ow (zs:=A0 (Eb a b kd)) λz c=>?_
  simp [A0,Eb] at c
  rcases c with rfl|rfl<;>omega
theorem MK{a b:AY}{kd:Int}{op:Bool->Bool->Bool}(ha:AL a=true)(hb:AL b=true)(j:∀x y,op x y=if kd=1 then x != y else (x && !y))(hk:kd=1\/kd=2):I9 (KU a b 0 op)=I9 (gb (Eb a b kd)):=by
 obtain⟨i,_,f⟩:=bm (kd:=kd) ha hb;have n:=Ax ha;have m:=Ax hb;have k:=dv i f;refine Xk (CI.congr k ?_ ?_ (λx d l g=>?_) (λx d=>?_) (Hp _))
 ·rfl
 ·exact Ou (A0 (Eb a b kd)) 2
 ·have g:=Au (show l∈Ay a.al 6 from g)
  show Ks (Eb a b kd) (A0 (Eb a b kd)) (EE (A0 (Eb a b kd)) x) l=_
  have e:=Ps (l:=[]) (aus:=[a,b]) (st:=[0,0]) (ls:=a.al) (kd:=kd) (gl:=0) i (node:=x) g.1 (by omega);refine Eq.trans e ?_
  have c:x / b.nx.length % a.nx.length=x / b.nx.length:=by
   have h:(gb (Eb a b kd)).N=a.nx.length*b.nx.length:=by
    show (A5 (A0 (Eb a b kd))).toNat=_
    simp only [A0,Eb,nr,mn,lA,A5,Int.mul_one];rw [<-l8,f6]
   rw [h] at d;have:=Hw (a:=a) hb (x:=x) d;exact mN this.1 this.2.1
  simp only [lA,nr,A5,Int.mul_one,EE,fa,List.zipWith_nil_left,List.zipWith_cons_cons,Kn,nD,List.flatMap_nil,lh,Int.ediv_one,Int.add_zero,Int.zero_mul,nS,c,KU]
 ·show Sw (Eb a b kd) (EE (A0 (Eb a b kd)) x) (ic (Eb a b kd) x.toNat)=_
  have c:x / b.nx.length % a.nx.length=x / b.nx.length:=by
   have h:(gb (Eb a b kd)).N=a.nx.length*b.nx.length:=by
    show (A5 (A0 (Eb a b kd))).toNat=_
    simp only [A0,Eb,nr,mn,lA,A5,Int.mul_one];rw [<-l8,f6]
   rw [h] at d;have:=Hw (a:=a) hb (x:=x) d;exact mN this.1 this.2.1
  show _=op (a.ac.getD (x / b.nx.length).toNat false) (b.ac.getD (x % b.nx.length).toNat false)
  rw [j];unfold Sw dW
  rcases hk with rfl|rfl
  ·simp [Eb,A0,EE,A5,List.getD,c]
  ·simp [Eb,A0,EE,A5,List.getD,c]
def Fv(a b:AY):Bool:=AL a && AL b && decide (a.al=b.al)
noncomputable def NV(a b:AY):Option (List Int):=if Fv a b then I9 (gb (Eb a b 1)) else none
theorem Ig{g:Gr}:∀ {u v:List Int} {a x:Int},reach g (u++v) a x↔∃y,reach g u a y/\reach g v y x
 | [],v,a,x=>⟨λh=>⟨a,rfl,h⟩,λ⟨y,c,b⟩=>by cases c;exact b⟩
 | l :: u,v,a,x=>by
  simp only [lO,reach];constructor
  ·rintro⟨y,d,h⟩
   obtain⟨z,c,b⟩:=Ig.1 h;exact⟨z,⟨y,d,c⟩,b⟩
  ·rintro⟨z,⟨y,d,c⟩,b⟩
   exact⟨y,d,Ig.2 ⟨z,c,b⟩⟩
theorem dY(n:Nat)(f:Nat->Int)(h:∀i,i<=n->0<=f i/\f i < n):∃i j,i < j/\j<=n/\f i=f j:=by
 apply Classical.byContradiction;intro hno
 have g:((List.range (n+1)).map λi=>(f i).toNat).Nodup:=by
  unfold List.Nodup;rw [lF];refine List.pairwise_lt_range.imp_of_mem λ{a b} ha hb c k=>hno ⟨a,b,c,?_,?_⟩
  ·have:=kB.1 hb;omega
  ·have d:=h a (by have:=kB.1 ha;omega)
   have l:=h b (by have:=kB.1 hb;omega);omega
 have d:=HD n _ g λx e=>by
  obtain⟨i,hi,rfl⟩:=d8.1 e;have:=h i (by have:=kB.1 hi;omega);omega
 simp at d;omega
theorem CI.short{g:Gr}(n:Ll g){w:List Int}(h:CI g (some w)):w.length < g.N:=by
 obtain⟨e,⟨x,o,c⟩,r⟩:=h;apply Classical.byContradiction;intro m;have b:∀k,∃y,reach g (w.take k) g.s0 y/\reach g (w.drop k) y x:=λk=>Ig.1 (by rw [lv];exact o);obtain⟨f,d⟩:=Classical.axiomOfChoice b;obtain⟨i,j,p,s,q⟩:=dY g.N f λi _=>EB n (λl a=>e l (kZ a)) n.s0 (d i).1;refine r (w.take i++w.drop j) (λl a=>?_) ⟨x,Ig.2 ⟨f i,(d i).1,q ▸ (d j).2⟩,c⟩ (.inl ?_)
 ·rcases em.1 a with a|a
  ·exact e l (kZ a)
  ·exact e l (nQ a)
 ·simp;omega
theorem Tx{al:Int}:∀ {w:List Int},(∀l∈w,l∈Ac al)->AD (A2 al) (DZ w):=λ{w} h c b=>by
 obtain⟨l,a,rfl⟩:=d8.1 b;exact LI (h l a)
theorem dX{al:Int}{w:W}(h:AD (A2 al) w):∃v:List Int,(∀l∈v,l∈Ac al)/\DZ v=w:=by
 induction w with
 | nil=>exact⟨[],by simp,rfl⟩
 | cons c w b=>
  obtain⟨v,e,g⟩:=b λx d=>h x (by simp [d]);obtain⟨l,f,rfl⟩:=d8.1 (h c (by simp))
  exact⟨l::v,λm a=>by
   rcases kw.1 a with rfl|a
   ·exact f
   ·exact e m a,by rw [<-g];rfl⟩
theorem Nb{a b:AY}(ha:AL a=true)(hb:AL b=true){op:Bool->Bool->Bool}{s0:Int}:∀ {w:List Int} {i j x:Int},(∀l∈w,l∈Ac a.al)->(0<=i/\i < a.nx.length)->(0<=j/\j < b.nx.length)->
 (reach (KU a b s0 op) w (i*b.nx.length+j) x↔x=AI a i (DZ w)*b.nx.length+AI b j (DZ w))
 | [],i,j,x,_,_,_=>⟨λh=>h.symm,λh=>h.symm⟩
 | l :: w,i,j,x,hw,hi,d=>by
  have f:=Au (hw l (by simp))
  have r:(i*b.nx.length+j) / b.nx.length=i:=by
   rw [ny,nG _ _ (by omega),nH d.1 d.2,nS]
  have p:(i*b.nx.length+j) % b.nx.length=j:=by
   rw [ny,mW,mN d.1 d.2]
  have o:=DA ha (q:=i.toNat) (by omega) f.1 (by omega);have n:=DA hb (q:=j.toNat) (by omega) f.1 (by omega);have g:=Nb ha hb (op:=op) (s0:=s0) (w:=w) (x:=x) (λm k=>hw m (by simp [k])) o n
  have e:∀(c:AY) (q:Int),AI c q (DZ (l::w))=AI c (Bj c q.toNat l) (DZ w):=λc q=>by
   show AI c (Bj c q.toNat (((lb l).toNat:Int) - 97)) (DZ w)=_
   rw [Ff f.1 (by omega)]
  rw [e,e,<-g];simp only [reach,KU,r,p,nv,exists_eq_left]
theorem fc{a b:AY}{w:List Int}(h:NV a b=some w):Fv a b=true/\AD (A2 a.al) (DZ w)/\LA a (DZ w)≠LA b (DZ w)/\(DZ w).length<=144:=by
 unfold NV at h;by_cases e:Fv a b=true
 ·rw [if_pos e] at h
  refine⟨e,?_⟩;unfold Fv at e;simp only [d5,decide_eq_true_eq] at e;obtain⟨⟨ha,hb⟩,hal⟩:=e;have q:=Ax ha;have p:=Ax hb;rw [<-MK (op:=bne) ha hb (λx y=>by simp) (.inl rfl)] at h;have n:=XJ (op:=bne) (s0:=0) ha hb ⟨by omega,by rw [<-l8];have:=Nat.mul_pos (show 0 < a.nx.length by omega) (show 0 < b.nx.length by omega);omega⟩;have hi:=Hp (KU a b 0 bne);rw [h] at hi;have v:=hi.short n;obtain⟨k,⟨x,l,f⟩,B⟩:=hi;have d:=Tx (al:=a.al) k;refine⟨d,λo=>?_,?_⟩
  ·have g:=(Nb ha hb (op:=bne) (s0:=0) (i:=0) (j:=0) (x:=x) k ⟨by omega,by omega⟩ ⟨by omega,by omega⟩).1 (by simpa [KU] using l)
   have m:=DW ha (DZ w) 0 d (by omega);have c:=DW hb (DZ w) 0 (al:=a.al) d (by omega)
   have t:x / b.nx.length=AI a 0 (DZ w):=by
    rw [g,ny,nG _ _ (by omega),nH c.1 c.2,nS]
   have s:x % b.nx.length=AI b 0 (DZ w):=by
    rw [g,ny,mW,mN c.1 c.2]
   have r:(KU a b 0 bne).goal x=(LA a (DZ w) != LA b (DZ w)):=by simp only [KU,t,s,LA]
   rw [r,o] at f;simp at f
  ·have A:a.nx.length*b.nx.length<=12*12:=nz (by omega) (by omega)
   have z:(KU a b 0 bne).N=a.nx.length*b.nx.length:=rfl
   have u:(DZ w).length=w.length:=by simp [DZ]
   omega
 ·rw [if_neg e] at h;cases h
theorem fb{a b:AY}(d:Fv a b=true)(h:NV a b=none):∀w,AD (A2 a.al) w->LA a w=LA b w:=by
 intro w hw;unfold NV at h;rw [if_pos d] at h;unfold Fv at d;simp only [d5,decide_eq_true_eq] at d;obtain⟨⟨ha,hb⟩,hal⟩:=d;have k:=Ax ha;have g:=Ax hb;rw [<-MK (op:=bne) ha hb (λx y=>by simp) (.inl rfl)] at h;have hi:=Hp (KU a b 0 bne);rw [h] at hi;obtain⟨v,d,rfl⟩:=dX hw;apply Classical.byContradiction;intro e;have f:=DW ha (DZ v) 0 hw (by omega);have c:=DW hb (DZ v) 0 (al:=a.al) hw (by omega);refine hi v d ⟨AI a 0 (DZ v)*b.nx.length+AI b 0 (DZ v),?_,?_⟩
 ·have:=(Nb ha hb (op:=bne) (s0:=0) (i:=0) (j:=0) (x:=AI a 0 (DZ v)*b.nx.length+AI b 0 (DZ v)) d ⟨by omega,by omega⟩ ⟨by omega,by omega⟩).2 rfl
  simpa [KU] using this
 ·have m:(AI a 0 (DZ v)*b.nx.length+AI b 0 (DZ v)) / b.nx.length=AI a 0 (DZ v):=by
   rw [ny,nG _ _ (by omega),nH c.1 c.2,nS]
  have l:(AI a 0 (DZ v)*b.nx.length+AI b 0 (DZ v)) % b.nx.length=AI b 0 (DZ v):=by
   rw [ny,mW,mN c.1 c.2]
  show bne (a.ac.getD ((AI a 0 (DZ v)*b.nx.length+AI b 0 (DZ v)) / b.nx.length).toNat false) (b.ac.getD ((AI a 0 (DZ v)*b.nx.length+AI b 0 (DZ v)) % b.nx.length).toNat false)=true
  rw [m,l];unfold LA at e
  simpa using e
end Go.Am
namespace Go.Am
open Go Go.Proofs
set_option maxHeartbeats 1000000
set_option maxRecDepth 4000
attribute [local irreducible] AU BZ Lex Br Aj Spec
variable {TB:Bp}
abbrev jo(g:FuncId):D:=.v (.func (.func g) #[] #[])
theorem Fb(a b:AY):Pure Tryz.prog TB 75 [Bi a,Bi b] (eB (Fv a b)):=by
 refine eN Tryz.func75 rfl (by kernel_rfl) rfl ?_;intro Γ d;(repeat' first |refine sN rfl ?_ |((first|refine sA rfl ?_ ?_|refine s4 rfl ‹_› rfl ?_ ?_);first|exact tI|omega|simp only[oZ] at *;omega) |refine s2 rfl λ_ c=>?_ |(refine sC rfl (A8 a) ?_;intro _ c)|(refine sC rfl (A8 b) ?_;intro _ c) |refine s3 rfl ?_ ?_<;>rintro rfl |refine aU rfl ?_ |refine Aa ?_ |refine rE (by kernel_rfl) ?_|(refine aC rfl ?_ ?_<;>rintro⟨⟩)|refine aK ?_|refine aE ?_|refine aB ?_|refine aR ⟨_,rfl,?_⟩)
 all_goals (show E.o _=E.o _;congr;unfold Fv;grind)
theorem Sr(x y:Bool):Pure Tryz.prog TB 156 [eB x,eB y] (eB (bne x y)):=by
 refine eN Tryz.func156 rfl (by kernel_rfl) rfl ?_;intro Γ a;(repeat' first |refine sN rfl ?_ |((first|refine sA rfl ?_ ?_|refine s4 rfl ‹_› rfl ?_ ?_);first|exact tI|omega|simp only[oZ] at *;omega) |refine s2 rfl λ_ b=>?_ |refine s3 rfl ?_ ?_<;>rintro rfl |refine aU rfl ?_ |refine Aa ?_ |refine rE (by kernel_rfl) ?_|(refine aC rfl ?_ ?_<;>rintro⟨⟩)|refine aK ?_|refine aE ?_|refine aB ?_|refine aR ⟨_,rfl,?_⟩)
 all_goals (show E.o _=E.o _;congr;grind)
theorem Xq{a b:AY}(ha:AL a=true)(hb:AL b=true){h:FuncId}{op:Bool->Bool->Bool}{s0:Int}(d:∀x y,Pure Tryz.prog TB h [eB x,eB y] (eB (op x y)))(node:Int)(n:0<=node/\node < (KU a b s0 op).N) :
 Pure Tryz.prog TB 223 [eI .i64 node,.o (.ip [jo h]),.o (.ip (BP a)),.o (.ip [iD b.nx.length]),.o (.ip (BP b))] (eB ((KU a b s0 op).goal node)):=by
 have r:=Ax ha;have q:=Ax hb;have w:=Hw (a:=a) hb (x:=node) n
 have s:node < 1048576:=by
  have v:a.nx.length*b.nx.length<=12*12:=nz (by omega) (by omega);have u:(KU a b s0 op).N=a.nx.length*b.nx.length:=rfl;omega
 obtain⟨x,g⟩:=get_some (l:=a.ac) (k:=(node / b.nx.length).toNat) (by omega);obtain⟨y,f⟩:=get_some (l:=b.ac) (k:=(node % b.nx.length).toNat) (by omega)
 have m:(a.ac.map IB)[(node / b.nx.length).toNat]? = some (IB x):=by simp [g]
 have j:(b.ac.map IB)[(node % b.nx.length).toNat]? = some (IB y):=by simp [f]
 have p:(KU a b s0 op).goal node=op x y:=by simp [KU,List.getD,g,f]
 rw [p];have c:=d x y;refine eN Tryz.func223 rfl (by kernel_rfl) rfl ?_;intro Γ i;(repeat first |refine sN rfl ?_ |((first|refine sA rfl ?_ ?_|refine s4 rfl ‹_› rfl ?_ ?_);first|exact tI|omega|simp only[oZ] at *;omega) |refine s2 rfl λ_ e=>?_ |refine s3 rfl ?_ ?_<;>rintro rfl |refine aU rfl ?_ |refine Aa ?_);refine rG (It []) (by kernel_rfl) ?_;(repeat first |refine sN rfl ?_ |((first|refine sA rfl ?_ ?_|refine s4 rfl ‹_› rfl ?_ ?_);first|exact tI|omega|simp only[oZ] at *;omega) |refine s2 rfl λ_ e=>?_|(refine Ag rfl ?_;refine gA rfl ?_;first|refine gS (λ_ _=>ef (t:=7) rfl (Bu rfl rfl rfl c rfl)) ?_) |refine s3 rfl ?_ ?_<;>rintro rfl |refine aU rfl ?_ |refine Aa ?_);refine aR ⟨_,rfl,rfl⟩
theorem Xp{a b:AY}(ha:AL a=true)(hb:AL b=true){op:Bool->Bool->Bool}{s0:Int}:W0 Tryz.prog TB 3 (KU a b s0 op) 222 [.ip [.l (ET a)],.ip [iD b.nx.length],.ip [.l (ET b)]]:=by
 intro node l outs k c j;have c:=Au (show l∈Ay a.al 6 from c);have o:=Ax ha;have n:=Ax hb;have v:=Hw (a:=a) hb (x:=node) k
 have s:node < 1048576:=by
  have u:a.nx.length*b.nx.length<=12*12:=nz (by omega) (by omega);have t:(KU a b s0 op).N=a.nx.length*b.nx.length:=rfl;omega
 have e:=DA ha (q:=(node / b.nx.length).toNat) (by omega) c.1 (by omega);have m:=DA hb (q:=(node % b.nx.length).toNat) (by omega) c.1 (by omega);have ta:=Ik (a:=a) (q:=(node / b.nx.length).toNat) (by omega);have tb:=Ik (a:=b) (q:=(node % b.nx.length).toNat) (by omega)
 have el:((l.toNat:Nat):Int)=l:=by omega
 have ra:=GF (h:=λl=>Bj a (node / b.nx.length).toNat l) c.1 (by omega);have rb:=GF (h:=λl=>Bj b (node % b.nx.length).toNat l) c.1 (by omega);simp only [el] at ra rb
 have p:0<=Bj a (node / b.nx.length).toNat l*b.nx.length/\Bj a (node / b.nx.length).toNat l*b.nx.length<=144:=⟨mU e.1 (by omega),by
  have:Bj a (node / b.nx.length).toNat l*b.nx.length<=12*12:=nV (by omega) (by omega) (by omega) (by omega)
  omega⟩
 have i:(KU a b s0 op).succ node l=[Bj a (node / b.nx.length).toNat l*b.nx.length+Bj b (node % b.nx.length).toNat l]:=rfl;rw [i];refine eN Tryz.func222 rfl (by kernel_rfl) rfl ?_;intro Γ g;(repeat first |refine sN rfl ?_ |((first|refine sA rfl ?_ ?_|refine s4 rfl ‹_› rfl ?_ ?_);first|exact tI|omega|simp only[oZ] at *;omega) |refine s2 rfl λ_ d=>?_ |refine s3 rfl ?_ ?_<;>rintro rfl |refine aU rfl ?_ |refine Aa ?_);refine rG (It [21]) (by kernel_rfl) ?_;(repeat first |refine sN rfl ?_ |((first|refine sA rfl ?_ ?_|refine s4 rfl ‹_› rfl ?_ ?_);first|exact tI|omega|simp only[oZ] at *;omega) |refine s2 rfl λ_ d=>?_|(refine Ag rfl ?_;refine gA rfl ?_;first|refine gS (λ_ _=>DD rfl ra) ?_|refine gS (λ_ _=>DD rfl rb) ?_) |refine s3 rfl ?_ ?_<;>rintro rfl |refine aU rfl ?_ |refine Aa ?_);(refine pW rfl ?_ rfl (by rfl);refine Aw rfl rfl rfl (by first|(simp;done)|(simp;(first|omega|simp only[oZ] at *;omega))) rfl (by intro r f;simp at f;subst f;rfl) (by rfl) (ce rfl) (by simp;omega) ?_);(repeat first |refine sN rfl ?_ |((first|refine sA rfl ?_ ?_|refine s4 rfl ‹_› rfl ?_ ?_);first|exact tI|omega|simp only[oZ] at *;omega) |refine s2 rfl λ_ d=>?_ |refine s3 rfl ?_ ?_<;>rintro rfl |refine aU rfl ?_ |refine Aa ?_);refine aR ⟨_,rfl,by simp,rfl,by simp [kill]⟩
theorem Mr{a b:AY}(ha:AL a=true)(hb:AL b=true){p:FuncId}{op:Bool->Bool->Bool}(h:∀x y,Pure Tryz.prog TB p [eB x,eB y] (eB (op x y)))(i j:Int)(hi:0<=i/\i < a.nx.length)(J:0<=j/\j < b.nx.length) :
 Pure Tryz.prog TB 155 [Bi a,Bi b,eI .i64 i,eI .i64 j,.o (.d (jo p))] (XB (I9 (KU a b (i*b.nx.length+j) op))):=by
 have B:=Ax ha;have A:=Ax hb;have f:=Fs (TB:=TB) a ha;have e:=Fs (TB:=TB) b hb
 have H:0<=i*(b.nx.length:Int)/\(i+1)*(b.nx.length:Int)<=a.nx.length*b.nx.length:=⟨mU hi.1 (by omega),lS (by omega) (by omega)⟩
 have u:(i+1)*(b.nx.length:Int)=i*b.nx.length+b.nx.length:=by rw [nc];omega
 have K:a.nx.length*b.nx.length<=144:=nz (show a.nx.length<=12 by omega) (show b.nx.length<=12 by omega)
 have F:((a.nx.length:Int)*b.nx.length)<=144:=by rw [<-l8];omega
 have g:0<=i*(b.nx.length:Int)+j/\i*(b.nx.length:Int)+j < a.nx.length*b.nx.length:=by omega
 have z:=XJ (op:=op) (s0:=i*b.nx.length+j) ha hb g
 have w:(ET a).length=a.nx.length:=by simp [ET,Bv]
 have v:(ET b).length=b.nx.length:=by simp [ET,Bv]
 have m:Pure Tryz.prog TB 135 [eI .i64 ((a.nx.length:Int)*b.nx.length),AW [i*b.nx.length+j],AW (Ac a.al),.o (.fn 222 [.ip [.l (ET a)],.ip [iD b.nx.length],.ip [.l (ET b)]]),.o (.fn 223 [.ip [jo p],.ip (BP a),.ip [iD b.nx.length],.ip (BP b)])]
  (XB (I9 (KU a b (i*b.nx.length+j) op))):=by
  rw [<-l8]
  exact Pf z (show a.nx.length*b.nx.length<=1048576 by omega) (λx t=>by have:=Au t;omega) (AK _ 6) (λnode l q I=>by
   have G:1<=a.nx.length*b.nx.length:=Nat.mul_pos (show 0 < a.nx.length by omega) (show 0 < b.nx.length by omega)
   exact G) (Xp ha hb) (λn q=>Xq ha hb h n q) rfl (λr=>rfl) (λr=>rfl) (Hp _)
 refine eN Tryz.func155 rfl (by kernel_rfl) rfl ?_;intro Γ s;(repeat first |refine sN rfl ?_ |((first|refine sA rfl ?_ ?_|refine s4 rfl ‹_› rfl ?_ ?_);first|exact tI|omega|simp only[oZ] at *;omega) |refine s2 rfl λ_ c=>?_ |refine s3 rfl ?_ ?_<;>rintro rfl |refine aU rfl ?_ |refine Aa ?_);refine R.Th [(0,2),(1,2),(2,2),(3,2),(4,3),(5,3),(6,5),(7,5)] mixed (by kernel_rfl) rfl (by kernel_rfl) ?_;(repeat ((refine R.Ag rfl ?_;first |(refine R.yQ (md:=false) rfl rfl rfl ?_ ?_;first|exact tI|omega|simp only[oZ] at *;omega) |(refine R.yB rfl rfl rfl ?_;intro _ c) |refine R.yS rfl rfl rfl ?_ |refine R.yP rfl rfl rfl rfl ?_ |refine R.yA rfl rfl rfl rfl ?_ |refine R.yW rfl rfl rfl ?_|refine R.Dg (λ_ _ _=>Bu rfl rfl rfl (f) rfl) rfl rfl ?_|refine R.Dg (λ_ _ _=>Bu rfl rfl rfl (e) rfl) rfl rfl ?_ |refine R.gz rfl rfl ?_ |(refine R.yG rfl rfl ?_ ?_<;>intro hb<;>subst hb) )));refine R.ME ?_;refine aS ?_;refine Aj.EO [0,1] [2,3,5,6,9] rfl [(12,.o (.ip [.l (ET a)])),(13,.o (.ip [.l (ET b)]))] ⟨⟨_,rfl,.o (.ptr (by simp) rfl rfl rfl)⟩,⟨_,rfl,.o (.ptr (by simp) rfl rfl rfl)⟩,trivial⟩ ?_;(try dsimp only[cA,cB]);refine ia (by kernel_rfl) ?_;(repeat first |refine sN rfl ?_ |((first|refine sA rfl ?_ ?_|refine s4 rfl ‹_› rfl ?_ ?_);first|exact tI|omega|simp only[oZ] at *;omega) |refine s2 rfl λ_ c=>?_ |refine s3 rfl ?_ ?_<;>rintro rfl);refine Aa ?_;simp only [mK];refine aS ?_;refine Aj.EO [2] [2,3,5,6,9,12,13] rfl [(14,.o (.ip [iD b.nx.length]))] ⟨⟨_,rfl,.o (.ptr (by simp) rfl rfl rfl)⟩,trivial⟩ ?_;(try dsimp only[cA,cB]);(repeat first |refine sN rfl ?_ |((first|refine sA rfl ?_ ?_|refine s4 rfl ‹_› rfl ?_ ?_);first|exact tI|omega|simp only[oZ] at *;omega) |refine s2 rfl λ_ c=>?_ |refine s3 rfl ?_ ?_<;>rintro rfl |refine aU rfl ?_ |refine Aa ?_);refine rG (It []) (by kernel_rfl) ?_;have k:=CO (TB:=TB) a.al;(repeat first |refine sN rfl ?_ |((first|refine sA rfl ?_ ?_|refine s4 rfl ‹_› rfl ?_ ?_);first|exact tI|omega|simp only[oZ] at *;omega) |refine s2 rfl λ_ c=>?_ |refine s3 rfl ?_ ?_<;>rintro rfl |refine aU rfl ?_ |refine Aa ?_);simp only [mK];(repeat first |refine sN rfl ?_ |((first|refine sA rfl ?_ ?_|refine s4 rfl ‹_› rfl ?_ ?_);first|exact tI|omega|simp only[oZ] at *;omega) |refine s2 rfl λ_ c=>?_ |refine sP rfl (k) rfl ?_|refine sP rfl (m) rfl ?_ |refine s3 rfl ?_ ?_<;>rintro rfl |refine aU rfl ?_ |refine Aa ?_);refine aR ⟨_,rfl,rfl⟩
theorem Lp(a b:AY):Pure Tryz.prog TB 74 [Bi a,Bi b] (XB (NV a b)):=by
 by_cases f:Fv a b=true
 ·have c:=f
  unfold Fv at c;simp only [d5,decide_eq_true_eq] at c;obtain⟨⟨ha,hb⟩,_⟩:=c;have k:=Ax ha;have j:=Ax hb
  have h:NV a b=I9 (KU a b 0 bne):=by unfold NV;rw [if_pos f,MK ha hb (λx y=>by simp) (.inl rfl)]
  have i:=Mr (TB:=TB) ha hb Sr 0 0 ⟨by omega,by omega⟩ ⟨by omega,by omega⟩
  have g:Pure Tryz.prog TB 155 [Bi a,Bi b,eI .i64 0,eI .i64 0,.o (.fn 156 [])] (XB (I9 (KU a b 0 bne))):=by
   have:=Spec.jg (l:=[Bi a,Bi b,eI .i64 0,eI .i64 0]) (m:=[]) i;rw [Int.zero_mul,nS] at this;exact this
  rw [h];refine eN Tryz.func74 rfl (by kernel_rfl) rfl ?_;intro Γ e;(repeat' first |refine sN rfl ?_ |((first|refine sA rfl ?_ ?_|refine s4 rfl ‹_› rfl ?_ ?_);first|exact tI|omega|simp only[oZ] at *;omega) |refine s2 rfl λ_ d=>?_ |(refine sC rfl (Fb a b) ?_;intro _ d)|refine sP rfl (g) rfl ?_ |refine s3 rfl ?_ ?_<;>rintro rfl |refine aU rfl ?_ |refine Aa ?_ |refine rE (by kernel_rfl) ?_|(refine aC rfl ?_ ?_<;>rintro⟨⟩)|refine aK ?_|refine aE ?_|refine aB ?_|refine aR ⟨_,rfl,?_⟩)
  all_goals first
   | rfl
   | (exfalso;grind;done)
 ·have h:NV a b=none:=by unfold NV;rw [if_neg f]
  rw [h];refine eN Tryz.func74 rfl (by kernel_rfl) rfl ?_;intro Γ e;(repeat' first |refine sN rfl ?_ |((first|refine sA rfl ?_ ?_|refine s4 rfl ‹_› rfl ?_ ?_);first|exact tI|omega|simp only[oZ] at *;omega) |refine s2 rfl λ_ d=>?_ |(refine sC rfl (Fb a b) ?_;intro _ d) |refine s3 rfl ?_ ?_<;>rintro rfl |refine aU rfl ?_ |refine Aa ?_ |refine rE (by kernel_rfl) ?_|(refine aC rfl ?_ ?_<;>rintro⟨⟩)|refine aK ?_|refine aE ?_|refine aB ?_|refine aR ⟨_,rfl,?_⟩)
  all_goals first
   | rfl
   | (exfalso;grind;done)
theorem RZ(a b:AY):Pure Tryz.prog TB 22 [Bi a,Bi b] (eB (Fv a b && (NV a b).isNone)):=by
 refine eN Tryz.func22 rfl (by kernel_rfl) rfl ?_;intro Γ d;(repeat' first |refine sN rfl ?_ |((first|refine sA rfl ?_ ?_|refine s4 rfl ‹_› rfl ?_ ?_);first|exact tI|omega|simp only[oZ] at *;omega) |refine s2 rfl λ_ c=>?_ |refine sP rfl (Lp a b) rfl ?_|(refine sC rfl (Fb a b) ?_;intro _ c) |refine s3 rfl ?_ ?_<;>rintro rfl |refine aU rfl ?_ |refine Aa ?_ |refine rE (by kernel_rfl) ?_|(refine aC rfl ?_ ?_<;>rintro⟨⟩)|refine aK ?_|refine aE ?_|refine aB ?_|refine aR ⟨_,rfl,?_⟩)
 all_goals (show E.o _=E.o _;congr;grind)
theorem NP{c:C}{L:W->Bool}{ok:W->Prop}(u:GK Tryz.prog TB c L ok)(al:Int)(t:A9)(J:KK ok (A2 al) t)(ht:Iq al 20012 t)(S:Bb L (A2 al) t=none) :
 Pure Tryz.prog TB 65 [Pe al c,CW t] (Bi (Bn L al t)):=by
 have a:=Dy c u.Bz;have Q:=ht.rl;have Z:=ht.cl;have X:(Ac al).length<=6:=AK al 6;have h:=ht.aw J (by omega)
 have T:(Bn L al t).nx.length=t.rows.length:=by simp [Bn]
 have hal:(Bn L al t).ac.length=t.rows.length:=by simp [Bn]
 refine AS.PQ (AS.ofM 3 (i7 _) Tryz.func65 rfl rfl (by kernel_rfl) (ce rfl) ?_);intro Γ e;(repeat first|refine aU rfl ?_);(refine pW rfl ?_ rfl (by rfl);refine FU rfl rfl ?_);(refine Ag rfl ?_;refine Dg (λ_ _=>EI rfl rfl rfl) rfl ?_);(repeat first|refine tA rfl ?_ |refine aU rfl ?_ |refine Aa ?_);(refine pW rfl ?_ rfl (by rfl);refine Ae [] rfl rfl (Gf u al t h.1) ⟨rfl,by simp,by simp⟩ (by simp [Ee,E.AV,C.BH,C.AV,a,eC]) trivial ?_;rintro x0 K M ⟨rfl,rfl,rfl⟩ _);(repeat first|refine tA rfl ?_ |refine aU rfl ?_ |refine Aa ?_);(refine pW rfl ?_ rfl (by rfl);refine GA 1 1 53 2 1 4 rfl rfl (by decide) rfl rfl (by rfl) (by rfl) ?_);(repeat first|refine sN rfl ?_ |refine tA rfl ?_ |refine aU rfl ?_ |refine Aa ?_);refine aB ?_;refine Aj.Cq (U:={k:Nat // k<=t.rows.length}) (λ⟨k,m⟩=>[(2,.o (.ptr 0 2 0 0)),(3,.o (.ip (RM t))),(4,.o (.ptr 1 3 0 0)),(5,.o (.mp 2)),(6,.o (.ptr 3 3 0 0)),(19,.o (.d (Bd t.rows))),(20,eI .i64 t.rows.length),(21,eI .i64 k)]) (λ⟨k,m⟩=>[(0,.cells 90 2 [[.d (iD al),c]]),(1,.cells 29 3 [[.d (iD 0),.d (.l []),.d (.l [])]]),(2,.mp (El (Bh L t t.rows.length))),(3,.cells 29 3 [[.d (iD al),.arr 4 1 0 k,.arr 5 1 0 k]]),(4,.cells 53 1 (((Bn L al t).nx.take k).map λr=>[.d (EK r)])),(5,.cells 4 1 (((Bn L al t).ac.take k).map λb=>[.d (bD b)]))]) 6 (λ⟨k,m⟩=>t.rows.length - k) (⟨0,by omega⟩) [0,1,2,5,3,4] (JT e rfl rfl) (by (simp[cX,zC,e,a,eC,Ab.AV,Cn,H0,BC,Af])) ?_;rintro⟨k,m⟩;(try dsimp only);(repeat first|refine s2 rfl λ_ I=>?_ |refine aU rfl ?_ |refine Aa ?_);(refine aC rfl ?_ ?_<;>rintro⟨⟩)
 ·have B:k < t.rows.length:=by (simp only[oZ] at *;omega)
  obtain⟨r,p⟩:=get_some (l:=t.rows) (k:=k) B;have P:=get_map (g:=BU) p;have f:=co p;refine aK ?_;refine aS (aB ?_);(repeat first|refine tM rfl ?_ |(refine s4 rfl ‹_› rfl ?_ ?_;omega) |refine aU rfl ?_ |refine Aa ?_);(refine pW rfl ?_ rfl (by rfl);refine Js 1 3 ?_);(repeat first|refine sN rfl ?_ |refine tM rfl ?_ |refine sP rfl (CO al) rfl ?_ |refine aU rfl ?_ |refine Aa ?_);refine aB ?_;refine Aj.Cq (U:={j:Nat // j<=(Ac al).length}) (λ⟨j,n⟩=>[(2,.o (.ptr 0 2 0 0)),(3,.o (.ip (RM t))),(4,.o (.ptr 1 3 0 0)),(5,.o (.mp 2)),(6,.o (.ptr 3 3 0 0)),(19,.o (.d (Bd t.rows))),(20,eI .i64 t.rows.length),(21,eI .i64 k),(8,eT r),(9,.o (.arr 6 1 0 j)),(27,AW (Ac al)),(28,eI .i64 (Ac al).length),(29,eI .i64 j)]) (λ⟨j,n⟩=>[(0,.cells 90 2 [[.d (iD al),c]]),(1,.cells 29 3 [[.d (iD 0),.d (.l []),.d (.l [])]]),(2,.mp (El (Bh L t t.rows.length))),(3,.cells 29 3 [[.d (iD al),.arr 4 1 0 k,.arr 5 1 0 k]]),(4,.cells 53 1 (((Bn L al t).nx.take k).map λr=>[.d (EK r)])),(5,.cells 4 1 (((Bn L al t).ac.take k).map λb=>[.d (bD b)])),(6,.cells 3 1 (((Ac al).take j).map λl=>[.d (iD ((EF L t (r++[lb l]):Nat):Int))]))]) 7 (λ⟨j,n⟩=>(Ac al).length - j) (⟨0,by omega⟩) [0,1,2,3,4,5,6] (JT e rfl rfl) (by (simp[cX,zC,e,a,eC,Ab.AV,Cn,H0])) ?_;rintro⟨j,n⟩;(try dsimp only);(repeat first|refine s2 rfl λ_ I=>?_ |refine aU rfl ?_ |refine Aa ?_);(refine aC rfl ?_ ?_<;>rintro⟨⟩)
  ·have s:j < (Ac al).length:=by (simp only[oZ] at *;omega)
   obtain⟨l,G⟩:=get_some (l:=Ac al) (k:=j) s;have Y:=get_map (g:=CN) G;have i:=co G;have q:=Au i;have R:=ht.onR r f;have V:=MH (TB:=TB) u al t (r++[lb l]) (by omega) (λx p=>h.2 r f _ (d8.2 ⟨l,i,rfl⟩) x p) (λy N=>by have:=(ht.onC y N).2;simp;omega);have F:=Yt S f i;refine aK ?_;refine aS (aB ?_);(repeat first|refine tA rfl ?_ |(refine s4 rfl ‹_› rfl ?_ ?_;omega) |refine aU rfl ?_ |refine Aa ?_);refine rG (It [13]) (by kernel_rfl) ?_;(repeat first|(refine sA rfl ?_ ?_;first|exact tI|omega|simp only[oZ] at *;omega) |refine sP rfl (Gc l q.1 (by omega)) rfl ?_|(refine Ag rfl ?_;refine gA rfl ?_;first| refine gS (λ_ _=>Zk rfl (by omega) (by omega)) ?_));rw [cG q.1];(repeat first| (refine Ag rfl ?_;refine gA rfl ?_;first| refine gS (λ_ _=>Bu rfl rfl (by simp [E.Bz,C.CA,C.Bz,u.Bz]) V rfl) ?_|refine gQ (bG rfl rfl rfl) (by rfl) ?_));(repeat first|refine tA rfl ?_);(refine pW rfl ?_ rfl (by rfl);refine Aw rfl rfl rfl (by first| (simp;done)|(simp;(omega))) rfl (by intro r a;simp at a;subst a;rfl) (by rfl) (ce rfl) (by simp;omega) ?_);(repeat first|(refine sA rfl ?_ ?_;first|exact tI|omega) |refine aU rfl ?_ |refine Aa ?_);rw [F];refine⟨⟨j+1,by omega⟩,by dsimp only;(omega),[0,1,2,3,4,5,7],?_⟩;simp[cX,zC,e,a,io,G]
  ·obtain rfl:j=(Ac al).length:=by (simp only[oZ] at *;omega)
   have z:=J r ⟨r,f,[],.inl rfl,[],.inl rfl,by simp⟩
   have A:(Bn L al t).nx.take (k+1)=(Bn L al t).nx.take k++[(Ac al).map λl=>((EF L t (r++[lb l]):Nat):Int)]:=by
    rw [io];simp [Bn,p]
   have H:(Bn L al t).ac.take (k+1)=(Bn L al t).ac.take k++[L r]:=by
    rw [io];simp [Bn,p]
   refine aE ?_;rw [kz];refine Aj.EO [6] [2,3,4,5,6,8,19,20,21] rfl [(9,AW ((Ac al).map λl=>((EF L t (r++[lb l]):Nat):Int)))] ⟨⟨_,rfl,.o (.full (by simp) rfl (by simp [d4]) (by simp))⟩,trivial⟩ ?_;(try dsimp only[cA,cB]);(repeat first|refine tA rfl ?_ |refine aU rfl ?_);(refine pW rfl ?_ rfl (by rfl);refine Aw rfl rfl rfl (by first| (simp;done)|(simp;(omega))) rfl (by intro r a;simp at a;subst a;rfl) (by rfl) (ce rfl) (by simp;omega) ?_);(repeat first|refine tA rfl ?_ |refine Aa ?_);refine rG (It [7,9]) (by kernel_rfl) ?_;(repeat first|refine tA rfl ?_|(refine Ag rfl ?_;refine gA rfl ?_;first| refine gS (λ_ _=>u.ask rfl rfl z) ?_));(refine pW rfl ?_ rfl (by rfl);refine Aw rfl rfl rfl (by first| (simp;done)|(simp;(omega))) rfl (by intro r a;simp at a;subst a;rfl) (by rfl) (ce rfl) (by simp;omega) ?_);(repeat first|(refine sA rfl ?_ ?_;first|exact tI|omega) |refine aU rfl ?_ |refine Aa ?_);refine⟨⟨k+1,by omega⟩,by dsimp only;(omega),[0,1,2,3,7,8],?_⟩;simp[cX,zC,e,a,eC,Ab.AV,Cn,H0,BC,Af,A,H]
 ·obtain rfl:k=t.rows.length:=by (simp only[oZ] at *;omega)
  have w:(Bn L al t).nx.take t.rows.length=(Bn L al t).nx:=kD (by simp [Bn]);have v:(Bn L al t).ac.take t.rows.length=(Bn L al t).ac:=kD (by simp [Bn]);rw [w,v];refine aE ?_;(repeat first|refine tM rfl ?_ |refine aU rfl ?_ |refine Aa ?_);refine Aj.settle [(4,.o (.ip [iD al,Da (Bn L al t).nx,FK (Bn L al t).ac]))] ⟨⟨_,rfl,.o (.box rfl (.cons .d (.cons (.full rfl (by simp [d4]) (by simp [Bn])) (.cons (.full rfl (by simp [d4]) (by simp [Bn])) .nil))))⟩,trivial⟩ ?_;refine aR ⟨_,rfl,rfl⟩
theorem FR(w:W)(i:Nat)(c:UInt8)(e:w[((i:Nat):Int).toNat]? = some c)(d:0<=(c.toNat:Int) - 97/\(c.toNat:Int) - 97 < 6):Pure Tryz.prog TB 82 [eT w,eI .i64 i] (eI .i64 ((c.toNat:Int) - 97)):=by
 refine eN Tryz.func82 rfl (by kernel_rfl) rfl ?_;intro Γ a;(repeat' first|(refine sA rfl ?_ ?_;first|exact tI|omega) |(refine s4 rfl ‹_› rfl ?_ ?_;omega) |refine s2 rfl λ_ b=>?_ |refine s3 rfl ?_ ?_<;>rintro rfl |refine aU rfl ?_ |refine Aa ?_|(refine aC rfl ?_ ?_<;>rintro⟨⟩)|refine aK ?_|refine aE ?_|refine aB ?_|refine aR ⟨_,rfl,?_⟩)
 all_goals first
  | rfl
  | (exfalso;grind)
abbrev RN(kn:Bool)(p:AY)(s:Sys)(q:AY)(al:Int):List D:=[bD kn,iD p.al,Da p.nx,FK p.ac,iD s.al,iD s.st,Gb s.es,iD q.al,Da q.nx,FK q.ac,iD al]
theorem Pw{ls:List UInt8}{w:W}(h:AD ls w)(k:Nat):AD ls (w.take k):=λc a=>h c (kZ a)
theorem KE{p:AY}{w:W}{k:Nat}{c:UInt8}(a:w[k]? = some c)(q:Int):AI p q (w.take (k+1))=Bj p (AI p q (w.take k)).toNat ((c.toNat:Int) - 97):=by
 rw [io,a,Cg];rfl
theorem av{p:AY}(hp:AL p=true)(s:Sys)(q:AY)(al:Int)(kn:Bool)(w:W)(hw:AD (A2 p.al) w)(x:w.length<=1048576) :
 Pure Tryz.prog TB 144 [eT w,.o (.ip [.l (ET p)]),.o (.ip (RN kn p s q al))] (eB (LA p w)):=by
 have t:=Ax hp;refine eN Tryz.func144 rfl (by kernel_rfl) rfl ?_;intro Γ d;(repeat first|refine tA rfl ?_ |refine aU rfl ?_ |refine Aa ?_);refine aB ?_;refine aL (U:={k:Nat // k<=w.length}) [0,1,2,8] [] rfl rfl (λ⟨k,hk⟩=>[(5,eI .i64 (AI p 0 (w.take k))),(9,eI .i64 k)]) (λ⟨k,hk⟩=>[]) 0 (λ⟨k,hk⟩=>w.length - k) (⟨0,by omega⟩) d rfl (by (simp[cX,zC,d]<;>rfl)) ?_;rintro⟨k,hk⟩;(try dsimp only[cA,cB]);have v:=DW hp (w.take k) 0 (Pw hw k) (by omega);by_cases g:k < w.length
 ·obtain⟨c,m⟩:=get_some g
  have j:w[((k:Nat):Int).toNat]? = some c:=by simpa using m
  have e:=GW (hw c (co m));have i:=FR (TB:=TB) w k c j e;have ta:=Ik (a:=p) (q:=(AI p 0 (w.take k)).toNat) (by omega)
  have el:((((c.toNat:Int) - 97).toNat:Nat):Int)=(c.toNat:Int) - 97:=by omega
  have ra:=GF (h:=λl=>Bj p (AI p 0 (w.take k)).toNat l) e.1 (by omega);simp only [el] at ra;have f:=KE (p:=p) m 0;(repeat first|refine s2 rfl λ_ r=>?_ |refine aU rfl ?_ |refine Aa ?_);(refine aC rfl ?_ ?_<;>rintro⟨⟩)
  ·(repeat' first|(refine sA rfl ?_ ?_;first|exact tI|omega) |(refine s4 rfl ‹_› rfl ?_ ?_;omega) |refine sP rfl (i) rfl ?_|(refine Ag rfl ?_;refine gA rfl ?_;first| refine gS (λ_ _=>DD rfl ra) ?_) |refine aU rfl ?_ |refine Aa ?_ |refine rE (by kernel_rfl) ?_|(refine aC rfl ?_ ?_<;>rintro⟨⟩)|refine aK ?_|refine aE ?_|refine aB ?_|refine aR ⟨_,rfl,?_⟩)
   refine⟨⟨k+1,by omega⟩,by dsimp only;(omega),[],?_⟩;simp[cX,zC,d,f]
  ·exfalso;(simp only[oZ] at *;omega)
 ·obtain rfl:k=w.length:=by omega
  rw [kz] at *;obtain⟨b,hb⟩:=get_some (l:=p.ac) (k:=(AI p 0 w).toNat) (by omega)
  have u:(p.ac.map IB)[(AI p 0 w).toNat]? = some (IB b):=by simp [hb]
  have n:LA p w=b:=by unfold LA;simp [List.getD,hb]
  rw [n];(repeat first|refine s2 rfl λ_ r=>?_ |refine aU rfl ?_ |refine Aa ?_);(refine aC rfl ?_ ?_<;>rintro⟨⟩)
  ·exfalso;(simp only[oZ] at *;omega)
  ·(repeat' first|refine tA rfl ?_ |(refine s4 rfl ‹_› rfl ?_ ?_;omega) |refine aU rfl ?_ |refine Aa ?_|(refine aC rfl ?_ ?_<;>rintro⟨⟩)|refine aK ?_|refine aE ?_|refine aB ?_|refine aR ⟨_,rfl,?_⟩)
   rfl
theorem Iq.mono{al:Int}{b b':Nat}{t:A9}(h:Iq al b t)(hb:b<=b'):Iq al b' t:=⟨λw hw=>⟨(h.onR w hw).1,i9 (h.onR w hw).2 hb⟩,h.onC,h.rl,h.cl⟩
end Go.Am
namespace Go.Am
open Go
set_option linter.unusedVariables false
end Go.Am
namespace Go.Am
open Go Go.Proofs
set_option maxHeartbeats 1000000
set_option maxRecDepth 4000
attribute [local irreducible] AU BZ Lex Br Aj Spec
variable {TB:Bp}
abbrev il(kn:Bool)(p:AY)(s:Sys)(q:AY)(al:Int):E:=.a ((RN kn p s q al).map .d)
theorem Hi(p:AY)(s:Sys)(q:AY)(al:Int):Pure Tryz.prog TB 143 [il true p s q al] (eI .i64 (if AL p then p.al else -1)):=by
 refine eN Tryz.func143 rfl (by kernel_rfl) rfl ?_;intro Γ b;(repeat' first|refine tA rfl ?_ |refine s2 rfl λ_ a=>?_ |(refine sC rfl (A8 p) ?_;intro _ a) |refine s3 rfl ?_ ?_<;>rintro rfl |refine aU rfl ?_ |refine Aa ?_|(refine aC rfl ?_ ?_<;>rintro⟨⟩)|refine aK ?_|refine aE ?_|refine aB ?_|refine aR ⟨_,rfl,?_⟩)
 all_goals first
  | (show E.o _=E.o _;congr;grind)
  | (exfalso;simp at *;done)
abbrev fH(kn:Bool)(p:AY)(s:Sys)(q:AY)(al:Int):C:=.fn 144 [.ip [.l (ET p)],.ip (RN kn p s q al)]
theorem c7{p:AY}(hp:AL p=true)(s:Sys)(q:AY)(al:Int)(kn:Bool):GK Tryz.prog TB (fH kn p s q al) (LA p) (λw=>AD (A2 p.al) w/\w.length<=1048576):=
 .of rfl λw hw=>av hp s q al kn w hw.1 hw.2
theorem N7{p:AY}(hp:AL p=true)(s:Sys)(q:AY)(al:Int):Pure Tryz.prog TB 62 [il true p s q al] (.t [(true,[.d (iD p.al),fH true p s q al]),(false,[.d (bD true)])]):=by
 have c:=Hi (TB:=TB) p s q al;rw [if_pos hp] at c;have f:=Ax hp;have ha:=f.1;unfold BO at ha;simp only [decide_eq_true_eq] at ha;have b:=Fs (TB:=TB) p hp;refine eG Tryz.func62 rfl (by kernel_rfl) rfl ?_;intro Γ e;(repeat first|refine tA rfl ?_ |refine sP rfl (c) rfl ?_ |refine aU rfl ?_ |refine Aa ?_);refine aB ?_;(repeat first|refine tA rfl ?_ |refine s2 rfl λ_ a=>?_ |refine aU rfl ?_ |refine Aa ?_)
 ((refine aC rfl ?_ ?_<;>rintro⟨⟩);all_goals try (simp at a;done))
 ·exfalso;(simp only[oZ] at *;omega)
 ·(repeat first|refine tA rfl ?_ |refine aU rfl ?_ |refine Aa ?_)
  ((refine aC rfl ?_ ?_<;>rintro⟨⟩);all_goals try (simp at a;done))
  refine aS ?_;refine ia (by kernel_rfl) ?_;(repeat first|refine tA rfl ?_ |refine sP rfl (b) rfl ?_);refine Aa ?_;refine aS ?_;refine Aj.EO [1] [1,2,3,4] rfl [(5,.o (.ip [.l (ET p)]))] ⟨⟨_,rfl,.o (.ptr (by simp) rfl rfl rfl)⟩,trivial⟩ ?_;(try dsimp only[cA,cB]);(repeat first|refine tA rfl ?_|(refine Ag rfl ?_;refine gA rfl ?_;first| refine gS (λ_ _=>AG rfl rfl (by rfl) (by rfl)) ?_) |refine aU rfl ?_ |refine Aa ?_);refine aR ⟨_,rfl,rfl⟩
theorem N6{p:AY}(hp:AL p=false)(s:Sys)(q:AY)(al:Int):Pure Tryz.prog TB 62 [il true p s q al] (.t [(true,[.d (iD 0),.d (.v .nilFunc)]),(false,[.d (bD false)])]):=by
 have b:=Hi (TB:=TB) p s q al;rw [if_neg (by simp [hp])] at b;refine eG Tryz.func62 rfl (by kernel_rfl) rfl ?_;intro Γ c;(repeat first|refine tA rfl ?_ |refine sP rfl (b) rfl ?_ |refine aU rfl ?_ |refine Aa ?_);refine aB ?_;(repeat first|refine tA rfl ?_ |refine s2 rfl λ_ a=>?_ |refine aU rfl ?_ |refine Aa ?_)
 ((refine aC rfl ?_ ?_<;>rintro⟨⟩);all_goals try (simp at a;done))
 ·(repeat first|refine tA rfl ?_|(refine Ag rfl ?_;refine gA rfl ?_;first| refine gS (λ_ _=>AG rfl rfl (by rfl) (by rfl)) ?_) |refine aU rfl ?_ |refine Aa ?_)
  refine aR ⟨_,rfl,rfl⟩
abbrev ku:Sys:=⟨0,0,[]⟩
abbrev kk:AY:=⟨0,[],[]⟩
theorem Jk(w:W)(i:Nat)(c:UInt8)(b:w[((i:Nat):Int).toNat]? = some c):Pure Tryz.prog TB 269 [eT w,eI .i64 i] (eI .i64 ((c.toNat:Int) - 97)):=by
 have hb:=c.toNat_lt;refine eN Tryz.func269 rfl (by kernel_rfl) rfl ?_;intro Γ a;(repeat' first|(refine sA rfl ?_ ?_;first|exact tI|omega) |(refine s4 rfl ‹_› rfl ?_ ?_;omega) |refine aU rfl ?_ |refine Aa ?_|(refine aC rfl ?_ ?_<;>rintro⟨⟩)|refine aK ?_|refine aE ?_|refine aB ?_|refine aR ⟨_,rfl,?_⟩);rfl
theorem QM(n:Int)(a:0<=n)(c:n < 16):Pure Tryz.prog TB 206 [eI .i64 n] (eI .i64 ((2 ^ n.toNat:Nat):Int)):=by
 refine eN Tryz.func206 rfl (by kernel_rfl) rfl ?_;intro Γ b;(repeat' first|(refine sA rfl ?_ ?_;first|exact tI|omega)|(refine Ag rfl ?_;refine gA rfl ?_;first| refine gS (λ_ _=>Zl rfl rfl a (UR a c)) ?_) |refine aU rfl ?_ |refine Aa ?_|(refine aC rfl ?_ ?_<;>rintro⟨⟩)|refine aK ?_|refine aE ?_|refine aB ?_|refine aR ⟨_,rfl,?_⟩);rfl
theorem Hq{c:UInt8}:FD c=decide (0<=(c.toNat:Int) - 97/\(c.toNat:Int) - 97 < 6):=by
 unfold FD;rw [lV,decide_eq_true_eq,decide_eq_true_eq];omega
theorem PV(w:W)(p:w.length<=1099511627776):Pure Tryz.prog TB 268 [eT w] (eB (Fw w)):=by
 by_cases n:w.length<=50000
 ·have g : Fw w=w.all FD:=by unfold Fw;simp [n]
  rw [g];refine eN Tryz.func268 rfl (by kernel_rfl) rfl ?_;intro Γ d;(repeat first|refine tA rfl ?_ |refine s2 rfl λ_ b=>?_ |refine aU rfl ?_ |refine Aa ?_);(refine aC rfl ?_ ?_<;>rintro⟨⟩)
  ·exfalso;(simp only[oZ] at *;omega)
  refine aK ?_;(repeat first|refine tA rfl ?_ |refine aU rfl ?_ |refine Aa ?_);refine aB ?_;refine aL (U:={k:Nat // k<=w.length/\(w.take k).all FD=true}) [0] [] rfl rfl (λ⟨k,hk,ha⟩=>[(3,eI .i64 k)]) (λ⟨k,hk,ha⟩=>[]) 0 (λ⟨k,hk,ha⟩=>w.length - k) (⟨0,by omega,rfl⟩) d rfl (by (simp[cX,zC,d])) ?_;rintro⟨k,hk,ha⟩;(try dsimp only[cA,cB]);by_cases j:k < w.length
  ·obtain⟨c,m⟩:=get_some j
   have l:w[((k:Nat):Int).toNat]? = some c:=by simpa using m
   have h:=Jk (TB:=TB) w k c l;have i:=Hq (c:=c);by_cases a:FD c=true
   ·have e:=Gn m ha a
    rw [i] at a;simp only [decide_eq_true_eq] at a;(repeat first|refine tA rfl ?_ |refine s2 rfl λ_ b=>?_ |refine aU rfl ?_ |refine Aa ?_);(refine aC rfl ?_ ?_<;>rintro⟨⟩)
    ·(repeat' first|(refine sA rfl ?_ ?_;first|exact tI|omega) |refine s2 rfl λ_ b=>?_ |refine sP rfl (h) rfl ?_ |refine s3 rfl ?_ ?_<;>rintro rfl |refine aU rfl ?_ |refine Aa ?_|(refine aC rfl ?_ ?_<;>rintro⟨⟩)|refine aK ?_|refine aE ?_|refine aB ?_|refine aR ⟨_,rfl,?_⟩)
     ·exfalso;(simp only[oZ] at *;omega)
     ·exfalso;(simp only[oZ] at *;omega)
     ·refine⟨⟨k+1,by omega,e⟩,by dsimp only;(omega),[],?_⟩
      simp[cX,zC,d]
    ·exfalso;(simp only[oZ] at *;omega)
   ·have e:=HO m (f:=FD) (by simpa using a)
    rw [i] at a;simp only [decide_eq_true_eq] at a;(repeat first|refine tA rfl ?_ |refine s2 rfl λ_ b=>?_ |refine aU rfl ?_ |refine Aa ?_);(refine aC rfl ?_ ?_<;>rintro⟨⟩)
    ·(repeat' first|(refine sA rfl ?_ ?_;first|exact tI|omega) |refine s2 rfl λ_ b=>?_ |refine sP rfl (h) rfl ?_ |refine s3 rfl ?_ ?_<;>rintro rfl |refine aU rfl ?_ |refine Aa ?_|(refine aC rfl ?_ ?_<;>rintro⟨⟩)|refine aK ?_|refine aE ?_|refine aB ?_|refine aR ⟨_,rfl,?_⟩)
     ·rw [e]
     ·rw [e]
     ·exfalso;(simp only[oZ] at *;omega)
    ·exfalso;(simp only[oZ] at *;omega)
  ·have o:=Gm ha (show w.length<=k by omega)
   (repeat first|refine tA rfl ?_ |refine s2 rfl λ_ b=>?_ |refine aU rfl ?_ |refine Aa ?_);(refine aC rfl ?_ ?_<;>rintro⟨⟩)
   ·exfalso;(simp only[oZ] at *;omega)
   ·(repeat' first|refine tA rfl ?_ |refine aU rfl ?_ |refine Aa ?_|(refine aC rfl ?_ ?_<;>rintro⟨⟩)|refine aK ?_|refine aE ?_|refine aB ?_|refine aR ⟨_,rfl,?_⟩)
    rw [o]
 ·have g:Fw w=false:=by unfold Fw;simp [n]
  rw [g];refine eN Tryz.func268 rfl (by kernel_rfl) rfl ?_;intro Γ d;(repeat first|refine tA rfl ?_ |refine s2 rfl λ_ b=>?_ |refine aU rfl ?_ |refine Aa ?_);(refine aC rfl ?_ ?_<;>rintro⟨⟩)
  ·(repeat' first|refine tA rfl ?_ |refine aU rfl ?_ |refine Aa ?_|(refine aC rfl ?_ ?_<;>rintro⟨⟩)|refine aK ?_|refine aE ?_|refine aB ?_|refine aR ⟨_,rfl,?_⟩)
   rfl
  ·exfalso;(simp only[oZ] at *;omega)
abbrev jV(n:Int)(b:Bool):E:=.t [(false,[.d (iD n)]),(false,[.d (bD b)])]
theorem WE{w:W}{k:Nat}{c:UInt8}(a:w[k]? = some c):IY (w.take (k+1))=IY (w.take k) ||| 2 ^ (c.toNat - 97):=by
 unfold IY;rw [io,a];simp
theorem NO(w:W)(s:w.length<=1099511627776):Pure Tryz.prog TB 224 [eT w] (if Fw w then jV (IY w:Nat) true else jV 0 false):=by
 have f:=PV (TB:=TB) w s;by_cases e:Fw w=true
 ·have a:=e
  unfold Fw at a;simp only [d5,decide_eq_true_eq] at a;rw [if_pos e];refine eN Tryz.func224 rfl (by kernel_rfl) rfl ?_;intro Γ d;(repeat first|refine tA rfl ?_ |refine s2 rfl λ_ b=>?_ |(refine sC rfl (f) ?_;intro _ b) |refine aU rfl ?_ |refine Aa ?_);(refine aC rfl ?_ ?_<;>rintro⟨⟩)
  ·exfalso;simp at *;grind
  refine aK ?_;(repeat first|refine tA rfl ?_ |refine aU rfl ?_ |refine Aa ?_);refine aB ?_;refine aL (U:={k:Nat // k<=w.length}) [0] [] rfl rfl (λ⟨k,hk⟩=>[(4,eI .i64 (IY (w.take k):Nat)),(5,eI .i64 k)]) (λ⟨k,hk⟩=>[]) 0 (λ⟨k,hk⟩=>w.length - k) (⟨0,by omega⟩) d rfl (by (simp[cX,zC,d]<;>rfl)) ?_;rintro⟨k,hk⟩;(try dsimp only[cA,cB]);by_cases m:k < w.length
  ·obtain⟨c,p⟩:=get_some m
   have o:w[((k:Nat):Int).toNat]? = some c:=by simpa using p
   have n:=Jk (TB:=TB) w k c o;have h:=(f7.1 a.2) c (co p);rw [Hq,decide_eq_true_eq] at h;have i:=QM (TB:=TB) ((c.toNat:Int) - 97) h.1 (by omega);have j:=WE p;have l:IY (w.take k) < 64:=PL (by rw [f7];exact λx r=>(f7.1 a.2) x (kZ r)) (by omega)
   have ht:((c.toNat:Int) - 97).toNat=c.toNat - 97:=by omega
   have q:2 ^ (c.toNat - 97) < 2 ^ 6:=ms (by omega) (by omega);have g:=(aN l q).1;rw [<-j] at g;rw [ht] at i;(repeat first|refine tA rfl ?_ |refine s2 rfl λ_ b=>?_ |refine aU rfl ?_ |refine Aa ?_);(refine aC rfl ?_ ?_<;>rintro⟨⟩)
   ·(repeat' first|(refine sA rfl ?_ ?_;first|exact tI|omega) |refine sP rfl (n) rfl ?_|refine sP rfl (i) rfl ?_ |refine aU rfl ?_ |refine Aa ?_|(refine aC rfl ?_ ?_<;>rintro⟨⟩)|refine aK ?_|refine aE ?_|refine aB ?_|refine aR ⟨_,rfl,?_⟩)
    rw [g];refine⟨⟨k+1,by omega⟩,by dsimp only;(omega),[],?_⟩;simp[cX,zC,d]
   ·exfalso;(simp only[oZ] at *;omega)
  ·obtain rfl:k=w.length:=by omega
   rw [kz];(repeat first|refine tA rfl ?_ |refine s2 rfl λ_ b=>?_ |refine aU rfl ?_ |refine Aa ?_);(refine aC rfl ?_ ?_<;>rintro⟨⟩)
   ·exfalso;(simp only[oZ] at *;omega)
   ·(repeat' first|refine tA rfl ?_ |refine aU rfl ?_ |refine Aa ?_|(refine aC rfl ?_ ?_<;>rintro⟨⟩)|refine aK ?_|refine aE ?_|refine aB ?_|refine aR ⟨_,rfl,?_⟩)
    rfl
 ·rw [if_neg e]
  refine eN Tryz.func224 rfl (by kernel_rfl) rfl ?_;intro Γ d;(repeat first|refine tA rfl ?_ |refine s2 rfl λ_ b=>?_ |(refine sC rfl (f) ?_;intro _ b) |refine aU rfl ?_ |refine Aa ?_);(refine aC rfl ?_ ?_<;>rintro⟨⟩)
  ·(repeat' first|refine tA rfl ?_ |refine aU rfl ?_ |refine Aa ?_|(refine aC rfl ?_ ?_<;>rintro⟨⟩)|refine aK ?_|refine aE ?_|refine aB ?_|refine aR ⟨_,rfl,?_⟩)
   rfl
  ·exfalso;simp at *;grind
theorem Dw(w:W)(al:Int)(g:w.length<=1099511627776):Pure Tryz.prog TB 159 [eT w,eI .i64 al] (eB (within w al)):=by
 have d:=NO (TB:=TB) w g;have f:=Ds (TB:=TB) al;by_cases a:Fw w=true
 ·rw [if_pos a] at d
  unfold Fw at a;simp only [d5,decide_eq_true_eq] at a
  have hw:within w al=(BO al && w.all (IK al)):=by unfold within;simp [a.1]
  rw [hw];refine eN Tryz.func159 rfl (by kernel_rfl) rfl ?_;intro Γ e;(repeat' first|refine tA rfl ?_ |refine s2 rfl λ_ c=>?_ |refine sP rfl (d) rfl ?_|(refine sC rfl (f) ?_;intro _ c) |refine s3 rfl ?_ ?_<;>rintro rfl |refine aU rfl ?_ |refine Aa ?_|(refine aC rfl ?_ ?_<;>rintro⟨⟩)|refine aK ?_|refine aE ?_|refine aB ?_|refine aR ⟨_,rfl,?_⟩)
  all_goals first
   | (show E.o _=E.o _;congr;grind)
   | (rename_i ha b;rw [bR a.2 ha] at c;show E.o _=E.o _;rw [ha,c];rfl)
 ·rw [if_neg a] at d
  have hw:within w al=false:=by
   rw [Bool.eq_false_iff];intro h;unfold within at h;simp only [d5,decide_eq_true_eq] at h;exact a (by unfold Fw;simp [h.1,TG h.2.2])
  rw [hw];refine eN Tryz.func159 rfl (by kernel_rfl) rfl ?_;intro Γ e;(repeat' first|refine tA rfl ?_ |refine sP rfl (d) rfl ?_|(refine sC rfl (f) ?_;intro _ c) |refine aU rfl ?_ |refine Aa ?_|(refine aC rfl ?_ ?_<;>rintro⟨⟩)|refine aK ?_|refine aE ?_|refine aB ?_|refine aR ⟨_,rfl,?_⟩)
  all_goals rfl
end Go.Am
