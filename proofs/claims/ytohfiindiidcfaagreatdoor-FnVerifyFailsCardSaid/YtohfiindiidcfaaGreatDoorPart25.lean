/-
  Bits of small sets, plainly.
-/
import Derived.Test.YtohfiindiidcfaaGreatDoorPart24
set_option linter.all false
namespace Go.Am
open Go
theorem Ls{a b:Nat}(ha:a < 2 ^ 62)(hb:b < 2 ^ 62):Gi .i64 a b=((a &&& b:Nat):Int):=by
 have d:a &&& b<=a:=ru;unfold Gi
 have c:(BitVec.ofInt IntKind.i64.bits (a:Int) &&& BitVec.ofInt IntKind.i64.bits (b:Int)).toNat=a &&& b:=by
  have e:IntKind.i64.bits=64:=rfl;rw [e];simp only [BitVec.toNat_and,BitVec.ofInt_natCast,BitVec.toNat_ofNat];rw [oH (by omega),oH (by omega)]
 rw [c];exact IntWalk.i64_in _ (by omega)
theorem cf(s n:Nat):((s:Nat):Int).fdiv (2 ^ n)=((s / 2 ^ n:Nat):Int):=by
 have h:(0:Int)<=2 ^ n:=Int.le_of_lt (Int.pow_pos (by omega));rw [Int.fdiv_eq_ediv_of_nonneg _ h]
 push_cast
 rfl
theorem Di{s n:Nat}(hs:s < 2 ^ 62)(d:n < 64):AY (s:Nat) n=s.testBit n:=by
 unfold AY
 have e:min n 64=n:=by omega
 rw [e,cf];have f:s / 2 ^ n<=s:=Nat.div_le_self _ _;have c:=Ls (a:=s / 2 ^ n) (b:=1) (by omega) (by omega);rw [show ((1:Nat):Int)=1 from rfl] at c;rw [c,rf,Nat.and_one_is_mod];congr 1;rw [eq_iff_iff];omega
theorem gM{s a:Nat}:s &&& a=s↔∀n,s.testBit n=true->a.testBit n=true:=by
 constructor
 ·intro h n b
  have:=congrArg (·.testBit n) h;simp only [qy,b,oM] at this;exact this
 ·intro h
  apply pD;intro n;rw [qy];cases hs:s.testBit n
  ·rfl
  ·rw [h n hs];rfl
abbrev Wd:=List UInt8
def FJ(c:UInt8):Bool:=decide (97<=c.toNat/\c.toNat < 103)
def EC(w:Wd):Bool:=decide (w.length<=50000) && w.all FJ
def KM(w:Wd):Nat:=w.foldl (λs c=>s ||| 2 ^ (c.toNat - 97)) 0
def GO(al:Int)(c:UInt8):Bool:=FJ c && AY al (c.toNat - 97)
def within(w:Wd)(al:Int):Bool:=decide (w.length<=50000) && (A8 al && w.all (GO al))
theorem Un(n:Nat):∀(w:Wd) (s:Nat),(w.foldl (λs c=>s ||| 2 ^ (c.toNat - 97)) s).testBit n=(s.testBit n || w.any λc=>decide (c.toNat - 97=n))
 | [],s=>by simp
 | c::w,s=>by
  rw [pi,Un n w,pC,pF,List.any_cons,Bool.or_assoc]
theorem Vt(w:Wd)(n:Nat):(KM w).testBit n=w.any λc=>decide (c.toNat - 97=n):=by
 unfold KM;rw [Un];simp
theorem Tv:∀ {w:Wd} {s:Nat},w.all FJ=true->s < 64->w.foldl (λs c=>s ||| 2 ^ (c.toNat - 97)) s < 64
 | [],s,_,hs=>hs
 | c::w,s,h,hs=>by
  simp only [List.all_cons,d4] at h;rw [pi];refine Tv h.2 ?_;have a:=h.1;unfold FJ at a;simp only [decide_eq_true_eq] at a;have b:2 ^ (c.toNat - 97) < 2 ^ 6:=qf (by omega) (by omega);exact pT (n:=6) hs b
theorem gD{w:Wd}{al:Int}(f:w.all FJ=true)(ha:A8 al=true):decide (Gi .i64 (KM w:Nat) al=(KM w:Nat))=w.all (GO al):=by
 have hs:KM w < 64:=Tv f (by omega);unfold A8 at ha;simp only [decide_eq_true_eq] at ha
 obtain⟨a,rfl⟩:∃a:Nat,al=a:=⟨al.toNat,by omega⟩
 rw [Ls (by omega) (by omega)];rw [pM,decide_eq_true_eq,f7]
 have j:((KM w &&& a:Nat):Int)=(KM w:Nat)↔KM w &&& a=KM w:=by omega
 rw [j,gM];rw [f7] at f;constructor
 ·intro h c e
  have b:=f c e;unfold GO;rw [b,oM];unfold FJ at b;simp only [decide_eq_true_eq] at b;rw [Di (by omega) (by omega)];refine h _ ?_;rw [Vt,pZ];exact⟨c,e,by simp⟩
 ·intro h n i
  rw [Vt,pZ] at i;obtain⟨c,e,d⟩:=i;simp only [decide_eq_true_eq] at d;have b:=f c e;have g:=h c e;unfold GO at g;rw [b,oM] at g;unfold FJ at b;simp only [decide_eq_true_eq] at b;rw [Di (by omega) (by omega),d] at g;exact g
theorem XI{w:Wd}{al:Int}(h:w.all (GO al)=true):w.all FJ=true:=by
 rw [f7] at *;intro c a;have:=h c a;unfold GO at this;simp only [d4] at this;exact this.1
theorem Nq(L:W->Bool)(ls:List UInt8):TOk L ls Bu:=by
 refine⟨rfl,rfl,λi w hi d=>?_,λw a=>?_,λw a=>?_,by simp [AI,Bu],by simp [Bu]⟩
 ·have:=(ce.1 hi).1
  simp [Bu] at this;omega
 ·simp [Bu] at a;subst a;exact λc b=>(by cases b)
 ·simp [Bu] at a;subst a;exact λc b=>(by cases b)
theorem TOk.short{L:W->Bool}{ls:List UInt8}{t:A1}(h:TOk L ls t):∀(i:Nat) w,t.rows[i]? = some w->w.length<=i:=by
 intro i
 induction i using Nat.strongRecOn with
 | _ i c=>
  intro w a
  rcases o3 i with b|b
  ·subst b
   rw [h.r0] at a
   injection a with a
   subst a;simp
  ·obtain⟨f,j,d,e⟩:=h.pre i w a b
   have:=c j d _ e;simp at this;omega
end Go.Am
namespace Go.Am
section
variable {α:Type}[DecidableEq α]
def Dw{α:Type}(f:α->Int->α):α->List Int->α
 | q,[]=>q
 | q,l::w=>Dw f (f q l) w
theorem Mb{α:Type}(f:α->Int->α):∀(u w:List Int) (q:α),Dw f q (u++w)=Dw f (Dw f q u) w
 | [],_,_=>rfl
 | l::u,w,q=>Mb f u w _
structure Part (f:α->Int->α) (ls:List Int) (s:α) (nd:List α) (rows:List (List Int)) (lim:Nat):Prop where
 st:nd[0]? = some s
 nodup:nd.Nodup
 len:rows.length<=nd.length
 lim:nd.length<=lim
 row:∀(i:Nat) (r:List Int),rows[i]? = some r->∃q,nd[i]? = some q/\r=ls.map (λl=>((nd.idxOf (f q l):Nat):Int))/\∀l∈ls,f q l∈nd
 rc:∀q∈nd,∃w:List Int,(∀l∈w,l∈ls)/\Dw f s w=q
structure nL (f:α->Int->α) (ls:List Int) (s:α) (nd:List α) (rows:List (List Int)):Prop where
 st:nd[0]? = some s
 nodup:nd.Nodup
 len:rows.length=nd.length
 row:∀(i:Nat) (q:α),nd[i]? = some q->rows[i]? = some (ls.map λl=>((nd.idxOf (f q l):Nat):Int))
 cl:∀q∈nd,∀l∈ls,f q l∈nd
 rc:∀q∈nd,∃w:List Int,(∀l∈w,l∈ls)/\Dw f s w=q
end
section
variable {α β:Type}[DecidableEq α][DecidableEq β]
end
theorem Ou{α:Type}{l:List α}{k:Nat}{x d:α}(h:l[k]? = some x):l.getD k d=x:=by rw [qK,h];rfl
def fA(a:AX)(q l:Int):Int:=CC a q.toNat l
def VZ(a:AX)(q:Int):Bool:=a.ac.getD q.toNat false
theorem RV{a:AX}:∀(w:List Int) (q:Int),(∀l∈w,l∈Ac a.al)->Dw (fA a) q w=DT a q (Dx w)
 | [],q,_=>rfl
 | l::w,q,h=>by
  have c:=Au (h l (by simp));have e:DT a q (Dx (l::w))=DT a (CC a q.toNat (((lb l).toNat:Int) - 97)) (Dx w):=rfl;rw [e,MZ c.1 (by omega)];exact RV w _ λm b=>h m (by simp [b])
section
variable {α β:Type}[DecidableEq α][DecidableEq β]
end
end Go.Am
namespace Go.Am
open Go Go.Proofs
set_option maxHeartbeats 1000000
set_option maxRecDepth 4000
attribute [local irreducible] A6 Cz Lex Bv Aj Spec
variable {TB:BF}
theorem Qq{c:C}{L:W->Bool}{ok:W->Prop}(u:JS Tryz.prog TB c L ok)(al:Int)(t:A1)(J:IW ok (A7 al) t)(ht:Hd al 20012 t)(S:Bh L (A7 al) t=none) :
 Pure Tryz.prog TB 66 [I9 al c,Ef t] (Bc (AZ L al t)):=by
 have a:=E4 c u.Cm;have Q:=ht.rl;have Y:=ht.cl;have V:(Ac al).length<=6:=AM al 6;have h:=ht.iH J (by omega)
 have T:(AZ L al t).nx.length=t.rows.length:=by simp [AZ]
 have hal:(AZ L al t).ac.length=t.rows.length:=by simp [AZ]
 refine AS.Hz (AS.ofM 3 (i8 _) Tryz.func66 rfl rfl (by kernel_rfl) (am rfl) ?_);intro Γ e;(repeat first|refine aU rfl ?_);(refine pW rfl ?_ rfl (by rfl);refine C9 rfl rfl ?_);(refine Af rfl ?_;refine CE (λ_ _=>C7 rfl rfl rfl) rfl ?_);(repeat first|refine tA rfl ?_ |refine aU rfl ?_ |apply Aa);(refine pW rfl ?_ rfl (by rfl);refine Ai [] rfl rfl (Hy u al t h.1) ⟨rfl,by simp,by simp⟩ (by simp [EX,E.Bj,C.Cy,C.Bj,a,eC]) trivial ?_;rintro Z K M ⟨rfl,rfl,rfl⟩ _);(repeat first|refine tA rfl ?_ |refine aU rfl ?_ |apply Aa);(refine pW rfl ?_ rfl (by rfl);refine JF 1 1 64 2 1 4 rfl rfl (by decide) rfl rfl (by rfl) (by rfl) ?_);(repeat first|refine sN rfl ?_ |refine tA rfl ?_ |refine aU rfl ?_ |apply Aa);apply aB;refine Aj.A4 (α:={k:Nat // k<=t.rows.length}) (λ⟨k,m⟩=>[(2,.o (.ptr 0 2 0 0)),(3,.o (.ip (VD t))),(4,.o (.ptr 1 3 0 0)),(5,.o (.mp 2)),(6,.o (.ptr 3 3 0 0)),(19,.o (.d (Cb t.rows))),(20,eI .i64 t.rows.length),(21,eI .i64 k)]) (λ⟨k,m⟩=>[(0,.cells 91 2 [[.d (iD al),c]]),(1,.cells 29 3 [[.d (iD 0),.d (.l []),.d (.l [])]]),(2,.mp (IT (BX L t t.rows.length))),(3,.cells 29 3 [[.d (iD al),.arr 4 1 0 k,.arr 5 1 0 k]]),(4,.cells 64 1 (((AZ L al t).nx.take k).map λr=>[.d (Fe r)])),(5,.cells 4 1 (((AZ L al t).ac.take k).map λb=>[.d (bD b)]))]) 6 (λ⟨k,m⟩=>t.rows.length - k) (⟨0,by omega⟩) [0,1,2,5,3,4] (Ed e rfl rfl) (by (simp[cX,zC,e,a,eC,Ab.Bj,BZ,IL,BR,Ae])) ?_;rintro⟨k,m⟩;(try dsimp only);(repeat first|refine s2 rfl λ_ I=>?_ |refine aU rfl ?_ |apply Aa);(refine aC rfl ?_ ?_<;>rintro⟨⟩)
 ·have B:k < t.rows.length:=by (simp only[oZ] at *;omega)
  obtain⟨r,p⟩:=get_some (l:=t.rows) (k:=k) B;have P:=get_map (g:=CQ) p;have f:=co p;apply aK;refine aS (aB ?_);(repeat first|refine tM rfl ?_ |(refine s4 rfl ‹_› rfl ?_ ?_;omega) |refine aU rfl ?_ |apply Aa);(refine pW rfl ?_ rfl (by rfl);refine Hp 1 3 ?_);(repeat first|refine sN rfl ?_ |refine tM rfl ?_ |refine sP rfl (CW al) rfl ?_ |refine aU rfl ?_ |apply Aa);apply aB;refine Aj.A4 (α:={j:Nat // j<=(Ac al).length}) (λ⟨j,n⟩=>[(2,.o (.ptr 0 2 0 0)),(3,.o (.ip (VD t))),(4,.o (.ptr 1 3 0 0)),(5,.o (.mp 2)),(6,.o (.ptr 3 3 0 0)),(19,.o (.d (Cb t.rows))),(20,eI .i64 t.rows.length),(21,eI .i64 k),(8,eT r),(9,.o (.arr 6 1 0 j)),(27,Ak (Ac al)),(28,eI .i64 (Ac al).length),(29,eI .i64 j)]) (λ⟨j,n⟩=>[(0,.cells 91 2 [[.d (iD al),c]]),(1,.cells 29 3 [[.d (iD 0),.d (.l []),.d (.l [])]]),(2,.mp (IT (BX L t t.rows.length))),(3,.cells 29 3 [[.d (iD al),.arr 4 1 0 k,.arr 5 1 0 k]]),(4,.cells 64 1 (((AZ L al t).nx.take k).map λr=>[.d (Fe r)])),(5,.cells 4 1 (((AZ L al t).ac.take k).map λb=>[.d (bD b)])),(6,.cells 3 1 (((Ac al).take j).map λl=>[.d (iD ((C3 L t (r++[lb l]):Nat):Int))]))]) 7 (λ⟨j,n⟩=>(Ac al).length - j) (⟨0,by omega⟩) [0,1,2,3,4,5,6] (Ed e rfl rfl) (by (simp[cX,zC,e,a,eC,Ab.Bj,BZ,IL])) ?_;rintro⟨j,n⟩;(try dsimp only);(repeat first|refine s2 rfl λ_ I=>?_ |refine aU rfl ?_ |apply Aa);(refine aC rfl ?_ ?_<;>rintro⟨⟩)
  ·have s:j < (Ac al).length:=by (simp only[oZ] at *;omega)
   obtain⟨l,G⟩:=get_some (l:=Ac al) (k:=j) s;have X:=get_map (g:=Br) G;have i:=co G;have q:=Au i;have R:=ht.onR r f;have U:=LB (TB:=TB) u al t (r++[lb l]) (by omega) (λx p=>h.2 r f _ (d9.2 ⟨l,i,rfl⟩) x p) (λy N=>by have:=(ht.onC y N).2;simp;omega);have F:=UJ S f i;apply aK;refine aS (aB ?_);(repeat first|refine tA rfl ?_ |(refine s4 rfl ‹_› rfl ?_ ?_;omega) |refine aU rfl ?_ |apply Aa);refine rG (He [13]) (by kernel_rfl) ?_;(repeat first|(refine sA rfl ?_ ?_;first|exact tI|omega|simp only[oZ] at *;omega) |refine sP rfl (Fz l q.1 (by omega)) rfl ?_|(refine Af rfl ?_;refine gA rfl ?_;first| refine gS (λ_ _=>Xl rfl (by omega) (by omega)) ?_));rw [cL q.1];(repeat first| (refine Af rfl ?_;refine gA rfl ?_;first| refine gS (λ_ _=>Bt rfl rfl (by simp [E.Cm,C.Dl,C.Cm,u.Cm]) U rfl) ?_|refine gQ (YV rfl rfl rfl) (by rfl) ?_));(repeat first|refine tA rfl ?_);(refine pW rfl ?_ rfl (by rfl);refine Al rfl rfl rfl (by first| (simp;done)|(simp;(omega))) rfl (by intro r a;simp at a;subst a;rfl) (by rfl) (am rfl) (by simp;omega) ?_);(repeat first|(refine sA rfl ?_ ?_;first|exact tI|omega) |refine aU rfl ?_ |apply Aa);rw [F];refine⟨⟨j+1,by omega⟩,by dsimp only;(omega),[0,1,2,3,4,5,7],?_⟩;simp[cX,zC,e,a,d8,G]
  ·obtain rfl:j=(Ac al).length:=by (simp only[oZ] at *;omega)
   have z:=J r ⟨r,f,[],.inl rfl,[],.inl rfl,by simp⟩
   have A:(AZ L al t).nx.take (k+1)=(AZ L al t).nx.take k++[(Ac al).map λl=>((C3 L t (r++[lb l]):Nat):Int)]:=by
    rw [d8];simp [AZ,p]
   have H:(AZ L al t).ac.take (k+1)=(AZ L al t).ac.take k++[L r]:=by
    rw [d8];simp [AZ,p]
   apply aE;rw [ge];refine Aj.Yw [6] [2,3,4,5,6,8,19,20,21] rfl [(9,Ak ((Ac al).map λl=>((C3 L t (r++[lb l]):Nat):Int)))] ⟨⟨_,rfl,.o (.full (by simp) rfl (by simp [d5]) (by simp))⟩,trivial⟩ ?_;(try dsimp only[cA,cB]);(repeat first|refine tA rfl ?_ |refine aU rfl ?_);(refine pW rfl ?_ rfl (by rfl);refine Al rfl rfl rfl (by first| (simp;done)|(simp;(omega))) rfl (by intro r a;simp at a;subst a;rfl) (by rfl) (am rfl) (by simp;omega) ?_);(repeat first|refine tA rfl ?_ |apply Aa);refine rG (He [7,9]) (by kernel_rfl) ?_;(repeat first|refine tA rfl ?_|(refine Af rfl ?_;refine gA rfl ?_;first| refine gS (λ_ _=>u.ask rfl rfl z) ?_));(refine pW rfl ?_ rfl (by rfl);refine Al rfl rfl rfl (by first| (simp;done)|(simp;(omega))) rfl (by intro r a;simp at a;subst a;rfl) (by rfl) (am rfl) (by simp;omega) ?_);(repeat first|(refine sA rfl ?_ ?_;first|exact tI|omega) |refine aU rfl ?_ |apply Aa);refine⟨⟨k+1,by omega⟩,by dsimp only;(omega),[0,1,2,3,7,8],?_⟩;simp[cX,zC,e,a,eC,Ab.Bj,BZ,IL,BR,Ae,A,H]
 ·obtain rfl:k=t.rows.length:=by (simp only[oZ] at *;omega)
  have w:(AZ L al t).nx.take t.rows.length=(AZ L al t).nx:=gc (by simp [AZ]);have v:(AZ L al t).ac.take t.rows.length=(AZ L al t).ac:=gc (by simp [AZ]);rw [w,v];apply aE;(repeat first|refine tM rfl ?_ |refine aU rfl ?_ |apply Aa);refine Aj.settle [(4,.o (.ip [iD al,CZ (AZ L al t).nx,Fc (AZ L al t).ac]))] ⟨⟨_,rfl,.o (.box rfl (.cons .d (.cons (.full rfl (by simp [d5]) (by simp [AZ])) (.cons (.full rfl (by simp [d5]) (by simp [AZ])) .nil))))⟩,trivial⟩ ?_;refine aR ⟨_,rfl,rfl⟩
theorem FQ(w:W)(i:Nat)(c:UInt8)(e:w[((i:Nat):Int).toNat]? = some c)(d:0<=(c.toNat:Int) - 97/\(c.toNat:Int) - 97 < 6):Pure Tryz.prog TB 99 [eT w,eI .i64 i] (eI .i64 ((c.toNat:Int) - 97)):=by
 refine eN Tryz.func99 rfl (by kernel_rfl) rfl ?_;intro Γ a;(repeat' first|(refine sA rfl ?_ ?_;first|exact tI|omega) |(refine s4 rfl ‹_› rfl ?_ ?_;omega) |refine s2 rfl λ_ b=>?_ |refine s3 rfl ?_ ?_<;>rintro rfl |refine aU rfl ?_ |apply Aa|(refine aC rfl ?_ ?_<;>rintro⟨⟩)|apply aK|apply aE|apply aB|refine aR ⟨_,rfl,?_⟩)
 all_goals first
  | rfl
  | (exfalso;grind)
abbrev eJ(kn:Bool)(p:AX)(s:Sys)(q:AX)(al:Int):List D:=[bD kn,iD p.al,CZ p.nx,Fc p.ac,iD s.al,iD s.st,Eu s.es,iD q.al,CZ q.nx,Fc q.ac,iD al]
theorem Iv{ls:List UInt8}{w:W}(h:AR ls w)(k:Nat):AR ls (w.take k):=λc a=>h c (ol a)
theorem gd{ls:List UInt8}{w:W}(h:AR ls w)(k:Nat):AR ls (w.drop k):=λc a=>h c (pB a)
theorem RU{p:AX}{w:W}{k:Nat}{c:UInt8}(a:w[k]? = some c)(q:Int):DT p q (w.take (k+1))=CC p (DT p q (w.take k)).toNat ((c.toNat:Int) - 97):=by
 rw [d8,a,Vp];rfl
theorem Nj{L:W->Bool}{t:A1}{w:W}{k:Nat}{c:UInt8}(a:w[k]? = some c)(q:Nat):runM L t q (w.take (k+1))=C3 L t (t.rows.getD (runM L t q (w.take k)) []++[c]):=by
 rw [d8,a,PO];rfl
def CL(L:W->Bool)(t:A1)(w:W):Option W:=if MF L t w=L w then none else splitAt L t (L w) 0 w
theorem Mg{L:W->Bool}{t:A1}{b:Bool}{w:W}{k q:Nat}{c:UInt8}(a:w[k]? = some c):splitAt L t b q (w.drop k)=if L (t.rows.getD (C3 L t (t.rows.getD q []++[c])) []++w.drop (k+1))≠b then some (w.drop (k+1)) else splitAt L t b (C3 L t (t.rows.getD q []++[c])) (w.drop (k+1)):=by
 rw [BB a,splitAt]
def XZ(t:A1)(w v:W):Prop:=∃r,(r=[]\/r∈t.rows)/\∃k:Nat,v=r++w.drop k
theorem QK{c:C}{L:W->Bool}{ok:W->Prop}(I:JS Tryz.prog TB c L ok)(al:Int)(t:A1)(hf:IW ok (A7 al) t)(ht:Hd al 20012 t)(hal:A8 al=true)(n:BS L (A7 al) t)(ho:Bh L (A7 al) t=none)(w:W)(H:∀v,XZ t w v->ok v)(z:AR (A7 al) w)(hwl:w.length<=20000) :
 Pure Tryz.prog TB 117 [I9 al c,Ef t,eT w] (ZF (CL L t w)):=by
 have M:=E4 c I.Cm;have Q:=ht.rl;have U:=Qq (TB:=TB) I al t hf ht ho;have J:=Lf hal n Q;have N:=EA (TB:=TB) (AZ L al t) J
 have hnl:(AZ L al t).nx.length=t.rows.length:=by simp [AZ]
 have V:0 < t.rows.length:=(ce.1 n.r0).1;have B:=H w ⟨[],.inl rfl,0,rfl⟩
 have S:([I9 al c,Ef t].all E.Cm && C.Dl [])=true:=by simp [E.Cm,C.Dl,C.Cm,I.Cm]
 refine eN Tryz.func117 rfl (by kernel_rfl) rfl ?_;intro Γ e;(repeat first|refine aU rfl ?_);(refine pW rfl ?_ rfl (by rfl);refine C9 rfl rfl ?_);(refine Af rfl ?_;refine CE (λ_ _=>C7 rfl rfl rfl) rfl ?_);(repeat first|refine tA rfl ?_ |refine aU rfl ?_ |apply Aa);(repeat first|refine tA rfl ?_|(refine Af rfl ?_;refine gA rfl ?_;first| refine gS (λ_ _=>Bt rfl rfl S U rfl) ?_) |refine aU rfl ?_ |apply Aa);(repeat first|refine tA rfl ?_ |refine sP rfl (N) rfl ?_ |refine aU rfl ?_ |apply Aa);apply aB;refine aL (α:={k:Nat // k<=w.length}) [2,3,4,8,9,20] [0,1] rfl rfl (λ⟨k,hk⟩=>[(10,eI .i64 (runM L t 0 (w.take k):Nat)),(21,eI .i64 k)]) (λ⟨k,hk⟩=>[]) 2 (λ⟨k,hk⟩=>w.length - k) (⟨0,by omega⟩) e rfl (by (simp[cX,zC,e,M]<;>rfl)) ?_;rintro⟨k,hk⟩;(try dsimp only[cA,cB]);have r:=n.run (w.take k) 0 (Iv z k) V;by_cases u:k < w.length
 ·obtain⟨o,d⟩:=get_some u
  have y:w[((k:Nat):Int).toNat]? = some o:=by simpa using d
  have m:=z o (co d);have j:=Ho m;have x:=FQ (TB:=TB) w k o y j;have ta:=JP (a:=AZ L al t) (q:=(((runM L t 0 (w.take k):Nat):Int)).toNat) (by omega)
  have el:((((o.toNat:Int) - 97).toNat:Nat):Int)=(o.toNat:Int) - 97:=by omega
  have ra:=HY (h:=λl=>CC (AZ L al t) (((runM L t 0 (w.take k):Nat):Int)).toNat l) j.1 (by omega);simp only [el] at ra;have f:=Lr (L:=L) (al:=al) (t:=t) (q:=runM L t 0 (w.take k)) r m;have p:=Nj (L:=L) (t:=t) d 0;rw [<-p] at f;rw [io,f] at ra;(repeat first|refine s2 rfl λ_ b=>?_ |refine aU rfl ?_ |apply Aa);(refine aC rfl ?_ ?_<;>rintro⟨⟩)
  ·(repeat' first|(refine sA rfl ?_ ?_;first|exact tI|omega) |(refine s4 rfl ‹_› rfl ?_ ?_;omega) |refine sP rfl (x) rfl ?_|(refine Af rfl ?_;refine gA rfl ?_;first| refine gS (λ_ _=>DQ rfl ra) ?_) |refine aU rfl ?_ |apply Aa |refine rE (by kernel_rfl) ?_|(refine aC rfl ?_ ?_<;>rintro⟨⟩)|apply aK|apply aE|apply aB|refine aR ⟨_,rfl,?_⟩)
   refine⟨⟨k+1,by omega⟩,by dsimp only;(omega),[0,1],?_⟩;simp[cX,zC,e,M]
  ·exfalso;(simp only[oZ] at *;omega)
 ·obtain rfl : k=w.length:=by omega
  rw [ge] at *;(repeat first|refine s2 rfl λ_ b=>?_ |refine aU rfl ?_ |apply Aa);(refine aC rfl ?_ ?_<;>rintro⟨⟩)
  ·exfalso;(simp only[oZ] at *;omega)
  ·apply aE
   have Z:((AZ L al t).ac.map Ik)[(((runM L t 0 w:Nat):Int)).toNat]? = some (Ik (MF L t w)):=by
    unfold MF;simp [AZ,List.getD,r]
   (repeat first|refine tA rfl ?_ |(refine s4 rfl ‹_› rfl ?_ ?_;omega) |refine s2 rfl λ_ b=>?_|(refine Af rfl ?_;refine gA rfl ?_;first| refine gS (λ_ _=>I.ask rfl rfl B) ?_) |refine aU rfl ?_ |apply Aa);(refine aC rfl ?_ ?_<;>rintro⟨⟩)
   ·have hn:CL L t w=none:=by unfold CL;rw [if_pos (by simpa using b)]
    (repeat first|refine tA rfl ?_ |refine aU rfl ?_ |apply Aa);refine aR ⟨_,rfl,?_⟩;rw [hn];rfl
   ·have P:CL L t w=splitAt L t (L w) 0 w:=by unfold CL;rw [if_neg (by simpa using b)]
    rw [P];apply aK;(repeat first|refine tA rfl ?_ |refine aU rfl ?_ |apply Aa);apply aB;refine aL (α:={k:Nat // k<=w.length/\splitAt L t (L w) 0 w=splitAt L t (L w) (runM L t 0 (w.take k)) (w.drop k)}) [2,3,4,9,12,45] [0] rfl rfl (λ⟨k,hk,i⟩=>[(10,eI .i64 (runM L t 0 (w.take k):Nat)),(46,eI .i64 k)]) (λ⟨k,hk,i⟩=>[]) 1 (λ⟨k,hk,i⟩=>w.length - k) (⟨0,by omega,rfl⟩) e rfl (by (simp[cX,zC,e,M]<;>rfl)) ?_;rintro⟨k,hk,i⟩;(try dsimp only[cA,cB]);have r:=n.run (w.take k) 0 (Iv z k) V;by_cases u:k < w.length
    ·obtain⟨o,d⟩:=get_some u
     have y:w[((k:Nat):Int).toNat]? = some o:=by simpa using d
     have m:=z o (co d);have j:=Ho m;have x:=FQ (TB:=TB) w k o y j;have ta:=JP (a:=AZ L al t) (q:=(((runM L t 0 (w.take k):Nat):Int)).toNat) (by omega)
     have el:((((o.toNat:Int) - 97).toNat:Nat):Int)=(o.toNat:Int) - 97:=by omega
     have ra:=HY (h:=λl=>CC (AZ L al t) (((runM L t 0 (w.take k):Nat):Int)).toNat l) j.1 (by omega);simp only [el] at ra;have f:=Lr (L:=L) (al:=al) (t:=t) (q:=runM L t 0 (w.take k)) r m;have p:=Nj (L:=L) (t:=t) d 0;have A:=n.run (w.take (k+1)) 0 (Iv z (k+1)) V;rw [Mg d,<-p] at i;rw [<-p] at f;rw [io,f] at ra;generalize R:runM L t 0 (w.take (k+1))=X at *;obtain⟨K,s⟩:=get_some (l:=t.rows) (k:=X) A;have Y:=get_map (g:=CQ) s
     have T:t.rows.getD X []=K:=by simp [List.getD,s]
     rw [T] at i;have hrb:=ht.onR K (co s);have hdl:(w.drop (k+1)).length=w.length - (k+1):=rU;have F:=H (K++w.drop (k+1)) ⟨K,.inr (co s),k+1,rfl⟩
     have G:(((k:Nat):Int)+1).toNat=k+1:=by omega
     (repeat first|refine s2 rfl λ_ b=>?_ |refine aU rfl ?_ |apply Aa);(refine aC rfl ?_ ?_<;>rintro⟨⟩)
     ·apply aK
      refine aS (aB ?_);(repeat first|(refine sA rfl ?_ ?_;first|exact tI|omega) |(refine s4 rfl ‹_› rfl ?_ ?_;omega) |refine sP rfl (x) rfl ?_|(refine Af rfl ?_;refine gA rfl ?_;first| refine gS (λ_ _=>DQ rfl ra) ?_) |refine aU rfl ?_ |apply Aa |refine rE (by kernel_rfl) ?_);(repeat first| (refine Af rfl ?_;refine gA rfl ?_;first| refine gS (λ_ _=>Ep rfl rfl (by omega) (by omega)) ?_));rw [G];(repeat first|(refine sA rfl ?_ ?_;first|exact tI|omega) |refine s2 rfl λ_ b=>?_|(refine Af rfl ?_;refine gA rfl ?_;first| refine gS (λ_ _=>I.ask rfl rfl F) ?_) |apply Aa);(refine aC rfl ?_ ?_<;>rintro⟨⟩)
      ·rw [if_pos (by simpa using b)] at i
       (repeat first|(refine sA rfl ?_ ?_;first|exact tI|omega)|(refine Af rfl ?_;refine gA rfl ?_;first| refine gS (λ_ _=>Ep rfl rfl (by omega) (by omega)) ?_) |refine aU rfl ?_ |apply Aa);refine aR ⟨_,rfl,?_⟩;rw [G,i];rfl
      ·rw [if_neg (by simpa using b)] at i
       apply aK;(repeat first|(refine sA rfl ?_ ?_;first|exact tI|omega) |refine aU rfl ?_ |apply Aa);subst R;refine⟨⟨k+1,by omega,i⟩,by dsimp only;(omega),[0],?_⟩;simp[cX,zC,e,M]
     ·exfalso;(simp only[oZ] at *;omega)
    ·obtain rfl:k=w.length:=by omega
     rw [qp] at i;(repeat first|refine s2 rfl λ_ b=>?_ |refine aU rfl ?_ |apply Aa);(refine aC rfl ?_ ?_<;>rintro⟨⟩)
     ·exfalso;(simp only[oZ] at *;omega)
     ·apply aE
      (repeat first|refine tA rfl ?_ |refine aU rfl ?_ |apply Aa);refine aR ⟨_,rfl,?_⟩;rw [i];rfl
theorem Hd.nS{ok:W->Prop}{al:Int}{t:A1}(ht:Hd al 20012 t)(f:Sl ok al){w:W}(e:AR (A7 al) w)(d:w.length<=20000):∀v,XZ t w v->ok v:=by
 rintro v ⟨r,b,k,rfl⟩
 have g:AR (A7 al) r/\r.length<=20012:=by
  rcases b with rfl|b
  ·exact⟨λc a=>by simp at a,by simp⟩
  ·exact ht.onR r b
 refine f _ (λc a=>?_) (by simp;omega)
 rcases em.1 a with a|a
 ·exact g.1 c a
 ·exact gd e _ c a
def G0(L:W->Bool)(ls:List UInt8)(t:A1)(w:W):Option A1:=(CL L t w).bind λv=>(FD t v).bind λu=>Bq L ls 13 u
theorem NX{L:W->Bool}{t:A1}{b:Bool}:∀ {w:W} {q:Nat} {v:W},splitAt L t b q w=some v->∃p,p≠[]/\w=p++v
 | [],q,v,h=>by simp [splitAt] at h
 | c::w,q,v,h=>by
  unfold splitAt at h;split at h
  ·injection h with h;subst h;exact⟨[c],by simp,rfl⟩
  ·obtain⟨p,_,a⟩:=NX h;exact⟨c::p,by simp,by rw [a];rfl⟩
theorem IE{L:W->Bool}{t:A1}{w v:W}(h:CL L t w=some v):∃p,p≠[]/\w=p++v:=by
 unfold CL at h;split at h
 ·cases h
 ·exact NX h
theorem Hd.mono{al:Int}{b b':Nat}{t:A1}(h:Hd al b t)(hb:b<=b'):Hd al b' t:=⟨λw a=>⟨(h.onR w a).1,lc (h.onR w a).2 hb⟩,h.onC,h.rl,h.cl⟩
theorem Sm{al:Int}{b:Nat}{t u:A1}{v:W}(h:Hd al b t)(c:AR (A7 al) v)(f:v.length<=20000)(ha:FD t v=some u):Hd al b u:=by
 unfold FD at ha;split at ha
 ·cases ha
 ·rename_i d
  injection ha with ha
  subst ha;refine⟨h.onR,λx a=>?_,h.rl,?_⟩
  ·rcases em.1 a with a|a
   ·exact h.onC x a
   ·simp at a;subst a;exact⟨c,f⟩
  ·have:=h.cl
   have g:t.cols.length≠20:=λe=>d (.inl e);simp;omega
def XY(L:W->Bool)(ls:List UInt8)(t:A1)(w v:W):Prop:=Nz ls t v\/XZ t w v\/∃x,CL L t w=some x/\∃u,FD t x=some u/\∃y∈ER L ls 13 u,Nz ls y v
theorem QA{c:C}{L:W->Bool}{ok:W->Prop}(j:JS Tryz.prog TB c L ok)(al:Int)(t:A1)(ht:Hd al 20000 t)(hal:A8 al=true)(A:BS L (A7 al) t)(J:Bh L (A7 al) t=none)(w:W)(z:∀v,XY L (A7 al) t w v->ok v)(B:AR (A7 al) w)(k:w.length<=20000) :
 Pure Tryz.prog TB 67 [I9 al c,Ef t,eT w] (IK (G0 L (A7 al) t w)):=by
 have K:=E4 c j.Cm
 have b:([I9 al c,Ef t,eT w].all E.Cm && C.Dl [])=true:=by simp [E.Cm,C.Dl,C.Cm,j.Cm]
 have e:=QK (TB:=TB) j al t (λv n=>z v (.inl n)) (ht.mono (by omega)) hal A J w (λv n=>z v (.inr (.inl n))) B k;have I:=ht.rl;have F:=ht.cl
 rcases hs:CL L t w with _|v
 ·have r:G0 L (A7 al) t w=none:=by unfold G0;rw [hs];rfl
  rw [r];rw [hs] at e;refine AS.Hz (AS.ofM 2 (i8 _) Tryz.func67 rfl rfl (by kernel_rfl) (am rfl) ?_);intro Γ i;(repeat first|refine aU rfl ?_);(refine pW rfl ?_ rfl (by rfl);refine C9 rfl rfl ?_);(refine pW rfl ?_ rfl (by rfl);refine C9 rfl rfl ?_);(repeat first|refine tA rfl ?_ |refine aU rfl ?_ |apply Aa);(repeat first|refine tA rfl ?_ |refine s2 rfl λ_ a=>?_|(refine Af rfl ?_;refine gA rfl ?_;first| refine gS (λ_ _=>Bt rfl rfl b e rfl) ?_) |refine aU rfl ?_ |apply Aa)
  ((refine aC rfl ?_ ?_<;>rintro⟨⟩);all_goals try (simp at a;done))
  (repeat first|refine tA rfl ?_|(refine Af rfl ?_;refine gA rfl ?_;first| refine gS (λ_ _=>AB rfl rfl (by rfl) (by rfl)) ?_) |refine aU rfl ?_ |apply Aa);refine Aj.settle [(6,.o (.ip [.l [],.l []])),(7,eB false)] ⟨⟨_,rfl,.o (.box rfl (.cons .d (.cons .d .nil)))⟩,⟨_,rfl,.o .d⟩,trivial⟩ ?_;refine aR ⟨_,rfl,rfl⟩
 ·have q:=IE hs
  have m:AR (A7 al) v/\v.length<=20000:=by
   obtain⟨p,_,rfl⟩:=q;exact⟨λc j=>B c (by simp [j]),by simp at k;omega⟩
  have f:=Sn (TB:=TB) t v (by omega) (by omega);rw [hs] at e
  rcases ha:FD t v with _|u
  ·have r:G0 L (A7 al) t w=none:=by unfold G0;rw [hs];simp [ha]
   rw [r];rw [ha] at f;refine AS.Hz (AS.ofM 2 (i8 _) Tryz.func67 rfl rfl (by kernel_rfl) (am rfl) ?_);intro Γ i;(repeat first|refine aU rfl ?_);(refine pW rfl ?_ rfl (by rfl);refine C9 rfl rfl ?_);(refine pW rfl ?_ rfl (by rfl);refine C9 rfl rfl ?_);(repeat first|refine tA rfl ?_ |refine aU rfl ?_ |apply Aa);(repeat first|refine tA rfl ?_ |refine s2 rfl λ_ a=>?_|(refine Af rfl ?_;refine gA rfl ?_;first| refine gS (λ_ _=>Bt rfl rfl b e rfl) ?_) |refine aU rfl ?_ |apply Aa)
   ((refine aC rfl ?_ ?_<;>rintro⟨⟩);all_goals try (simp at a;done))
   apply aK;(repeat first|refine tA rfl ?_ |refine s2 rfl λ_ a=>?_ |refine sP rfl (f) rfl ?_ |refine aU rfl ?_ |apply Aa)
   ((refine aC rfl ?_ ?_<;>rintro⟨⟩);all_goals try (simp at a;done))
   (repeat first|refine tA rfl ?_|(refine Af rfl ?_;refine gA rfl ?_;first| refine gS (λ_ _=>AB rfl rfl (by rfl) (by rfl)) ?_) |refine aU rfl ?_ |apply Aa);refine Aj.settle [(6,.o (.ip [.l [],.l []])),(7,eB false)] ⟨⟨_,rfl,.o (.box rfl (.cons .d (.cons .d .nil)))⟩,⟨_,rfl,.o .d⟩,trivial⟩ ?_;refine aR ⟨_,rfl,rfl⟩
  ·have H:=Sm ht m.1 m.2 ha
   have g:=I6 (TB:=TB) j al u (λy G v n=>z v (.inr (.inr ⟨_,hs,_,ha,y,G,n⟩))) H
   have h:([I9 al c,Ef u].all E.Cm && C.Dl [])=true:=by simp [E.Cm,C.Dl,C.Cm,j.Cm]
   have r:G0 L (A7 al) t w=Bq L (A7 al) 13 u:=by unfold G0;rw [hs];simp [ha]
   rw [r];rw [ha] at f
   rcases s:Bq L (A7 al) 13 u with _|x
   ·rw [s] at g
    refine AS.Hz (AS.ofM 2 (i8 _) Tryz.func67 rfl rfl (by kernel_rfl) (am rfl) ?_);intro Γ i;(repeat first|refine aU rfl ?_);(refine pW rfl ?_ rfl (by rfl);refine C9 rfl rfl ?_);(refine pW rfl ?_ rfl (by rfl);refine C9 rfl rfl ?_);(repeat first|refine tA rfl ?_ |refine aU rfl ?_ |apply Aa);(repeat first|refine tA rfl ?_ |refine s2 rfl λ_ a=>?_|(refine Af rfl ?_;refine gA rfl ?_;first| refine gS (λ_ _=>Bt rfl rfl b e rfl) ?_) |refine aU rfl ?_ |apply Aa)
    ((refine aC rfl ?_ ?_<;>rintro⟨⟩);all_goals try (simp at a;done))
    apply aK;(repeat first|refine tA rfl ?_ |refine s2 rfl λ_ a=>?_ |refine sP rfl (f) rfl ?_ |refine aU rfl ?_ |apply Aa)
    ((refine aC rfl ?_ ?_<;>rintro⟨⟩);all_goals try (simp at a;done))
    apply aK;(repeat first|refine tA rfl ?_|(refine Af rfl ?_;refine gA rfl ?_;first| refine gS (λ_ _=>Bt rfl rfl h g rfl) ?_) |refine aU rfl ?_ |apply Aa);refine Aj.settle [(6,.o (.ip [.l [],.l []])),(7,eB false)] ⟨⟨_,rfl,.o (.box rfl (.cons .d (.cons .d .nil)))⟩,⟨_,rfl,.o .d⟩,trivial⟩ ?_;refine aR ⟨_,rfl,rfl⟩
   ·rw [s] at g
    refine AS.Hz (AS.ofM 2 (i8 _) Tryz.func67 rfl rfl (by kernel_rfl) (am rfl) ?_);intro Γ i;(repeat first|refine aU rfl ?_);(refine pW rfl ?_ rfl (by rfl);refine C9 rfl rfl ?_);(refine pW rfl ?_ rfl (by rfl);refine C9 rfl rfl ?_);(repeat first|refine tA rfl ?_ |refine aU rfl ?_ |apply Aa);(repeat first|refine tA rfl ?_ |refine s2 rfl λ_ a=>?_|(refine Af rfl ?_;refine gA rfl ?_;first| refine gS (λ_ _=>Bt rfl rfl b e rfl) ?_) |refine aU rfl ?_ |apply Aa)
    ((refine aC rfl ?_ ?_<;>rintro⟨⟩);all_goals try (simp at a;done))
    apply aK;(repeat first|refine tA rfl ?_ |refine s2 rfl λ_ a=>?_ |refine sP rfl (f) rfl ?_ |refine aU rfl ?_ |apply Aa)
    ((refine aC rfl ?_ ?_<;>rintro⟨⟩);all_goals try (simp at a;done))
    apply aK;(repeat first|refine tA rfl ?_|(refine Af rfl ?_;refine gA rfl ?_;first| refine gS (λ_ _=>Bt rfl rfl h g rfl) ?_) |refine aU rfl ?_ |apply Aa);refine Aj.settle [(6,.o (.ip [Cb x.rows,Cb x.cols])),(7,eB true)] ⟨⟨_,rfl,.o (.box rfl (.cons .d (.cons .d .nil)))⟩,⟨_,rfl,.o .d⟩,trivial⟩ ?_;refine aR ⟨_,rfl,rfl⟩
abbrev nA(kn:Bool)(p:AX)(s:Sys)(q:AX)(al:Int):E:=.a ((eJ kn p s q al).map .d)
abbrev nN:AX:=⟨0,[],[]⟩
theorem Ir(w:W)(i:Nat)(c:UInt8)(b:w[((i:Nat):Int).toNat]? = some c):Pure Tryz.prog TB 172 [eT w,eI .i64 i] (eI .i64 ((c.toNat:Int) - 97)):=by
 have hb:=c.toNat_lt;refine eN Tryz.func172 rfl (by kernel_rfl) rfl ?_;intro Γ a;(repeat' first|(refine sA rfl ?_ ?_;first|exact tI|omega) |(refine s4 rfl ‹_› rfl ?_ ?_;omega) |refine aU rfl ?_ |apply Aa|(refine aC rfl ?_ ?_<;>rintro⟨⟩)|apply aK|apply aE|apply aB|refine aR ⟨_,rfl,?_⟩);rfl
theorem UD(n:Int)(a:0<=n)(c:n < 16):Pure Tryz.prog TB 120 [eI .i64 n] (eI .i64 ((2 ^ n.toNat:Nat):Int)):=by
 refine eN Tryz.func120 rfl (by kernel_rfl) rfl ?_;intro Γ b;(repeat' first|(refine sA rfl ?_ ?_;first|exact tI|omega)|(refine Af rfl ?_;refine gA rfl ?_;first| refine gS (λ_ _=>dK rfl rfl a (Ze a c)) ?_) |refine aU rfl ?_ |apply Aa|(refine aC rfl ?_ ?_<;>rintro⟨⟩)|apply aK|apply aE|apply aB|refine aR ⟨_,rfl,?_⟩);rfl
theorem FK{c:UInt8}:FJ c=decide (0<=(c.toNat:Int) - 97/\(c.toNat:Int) - 97 < 6):=by
 unfold FJ;rw [pM,decide_eq_true_eq,decide_eq_true_eq];omega
theorem Mu(w:W)(p:w.length<=1099511627776):Pure Tryz.prog TB 171 [eT w] (eB (EC w)):=by
 by_cases n:w.length<=50000
 ·have g : EC w=w.all FJ:=by unfold EC;simp [n]
  rw [g];refine eN Tryz.func171 rfl (by kernel_rfl) rfl ?_;intro Γ d;(repeat first|refine tA rfl ?_ |refine s2 rfl λ_ b=>?_ |refine aU rfl ?_ |apply Aa);(refine aC rfl ?_ ?_<;>rintro⟨⟩)
  ·exfalso;(simp only[oZ] at *;omega)
  apply aK;(repeat first|refine tA rfl ?_ |refine aU rfl ?_ |apply Aa);apply aB;refine aL (α:={k:Nat // k<=w.length/\(w.take k).all FJ=true}) [0] [] rfl rfl (λ⟨k,hk,ha⟩=>[(3,eI .i64 k)]) (λ⟨k,hk,ha⟩=>[]) 0 (λ⟨k,hk,ha⟩=>w.length - k) (⟨0,by omega,rfl⟩) d rfl (by (simp[cX,zC,d])) ?_;rintro⟨k,hk,ha⟩;(try dsimp only[cA,cB]);by_cases j:k < w.length
  ·obtain⟨c,m⟩:=get_some j
   have l:w[((k:Nat):Int).toNat]? = some c:=by simpa using m
   have h:=Ir (TB:=TB) w k c l;have i:=FK (c:=c);by_cases a:FJ c=true
   ·have e:=FG m ha a
    rw [i] at a;simp only [decide_eq_true_eq] at a;(repeat first|refine tA rfl ?_ |refine s2 rfl λ_ b=>?_ |refine aU rfl ?_ |apply Aa);(refine aC rfl ?_ ?_<;>rintro⟨⟩)
    ·(repeat' first|(refine sA rfl ?_ ?_;first|exact tI|omega) |refine s2 rfl λ_ b=>?_ |refine sP rfl (h) rfl ?_ |refine s3 rfl ?_ ?_<;>rintro rfl |refine aU rfl ?_ |apply Aa|(refine aC rfl ?_ ?_<;>rintro⟨⟩)|apply aK|apply aE|apply aB|refine aR ⟨_,rfl,?_⟩)
     ·exfalso;(simp only[oZ] at *;omega)
     ·exfalso;(simp only[oZ] at *;omega)
     ·refine⟨⟨k+1,by omega,e⟩,by dsimp only;(omega),[],?_⟩
      simp[cX,zC,d]
    ·exfalso;(simp only[oZ] at *;omega)
   ·have e:=Hg m (f:=FJ) (by simpa using a)
    rw [i] at a;simp only [decide_eq_true_eq] at a;(repeat first|refine tA rfl ?_ |refine s2 rfl λ_ b=>?_ |refine aU rfl ?_ |apply Aa);(refine aC rfl ?_ ?_<;>rintro⟨⟩)
    ·(repeat' first|(refine sA rfl ?_ ?_;first|exact tI|omega) |refine s2 rfl λ_ b=>?_ |refine sP rfl (h) rfl ?_ |refine s3 rfl ?_ ?_<;>rintro rfl |refine aU rfl ?_ |apply Aa|(refine aC rfl ?_ ?_<;>rintro⟨⟩)|apply aK|apply aE|apply aB|refine aR ⟨_,rfl,?_⟩)
     ·rw [e]
     ·rw [e]
     ·exfalso;(simp only[oZ] at *;omega)
    ·exfalso;(simp only[oZ] at *;omega)
  ·have o:=FF ha (show w.length<=k by omega)
   (repeat first|refine tA rfl ?_ |refine s2 rfl λ_ b=>?_ |refine aU rfl ?_ |apply Aa);(refine aC rfl ?_ ?_<;>rintro⟨⟩)
   ·exfalso;(simp only[oZ] at *;omega)
   ·(repeat' first|refine tA rfl ?_ |refine aU rfl ?_ |apply Aa|(refine aC rfl ?_ ?_<;>rintro⟨⟩)|apply aK|apply aE|apply aB|refine aR ⟨_,rfl,?_⟩)
    rw [o]
 ·have g:EC w=false:=by unfold EC;simp [n]
  rw [g];refine eN Tryz.func171 rfl (by kernel_rfl) rfl ?_;intro Γ d;(repeat first|refine tA rfl ?_ |refine s2 rfl λ_ b=>?_ |refine aU rfl ?_ |apply Aa);(refine aC rfl ?_ ?_<;>rintro⟨⟩)
  ·(repeat' first|refine tA rfl ?_ |refine aU rfl ?_ |apply Aa|(refine aC rfl ?_ ?_<;>rintro⟨⟩)|apply aK|apply aE|apply aB|refine aR ⟨_,rfl,?_⟩)
   rfl
  ·exfalso;(simp only[oZ] at *;omega)
abbrev nj(n:Int)(b:Bool):E:=.t [(false,[.d (iD n)]),(false,[.d (bD b)])]
theorem aG{w:W}{k:Nat}{c:UInt8}(a:w[k]? = some c):KM (w.take (k+1))=KM (w.take k) ||| 2 ^ (c.toNat - 97):=by
 unfold KM;rw [d8,a];simp
theorem Qp(w:W)(s:w.length<=1099511627776):Pure Tryz.prog TB 199 [eT w] (if EC w then nj (KM w:Nat) true else nj 0 false):=by
 have f:=Mu (TB:=TB) w s;by_cases e:EC w=true
 ·have a:=e
  unfold EC at a;simp only [d4,decide_eq_true_eq] at a;rw [if_pos e];refine eN Tryz.func199 rfl (by kernel_rfl) rfl ?_;intro Γ d;(repeat first|refine tA rfl ?_ |refine s2 rfl λ_ b=>?_ |(refine sC rfl (f) ?_;intro _ b) |refine aU rfl ?_ |apply Aa);(refine aC rfl ?_ ?_<;>rintro⟨⟩)
  ·exfalso;simp at *;grind
  apply aK;(repeat first|refine tA rfl ?_ |refine aU rfl ?_ |apply Aa);apply aB;refine aL (α:={k:Nat // k<=w.length}) [0] [] rfl rfl (λ⟨k,hk⟩=>[(4,eI .i64 (KM (w.take k):Nat)),(5,eI .i64 k)]) (λ⟨k,hk⟩=>[]) 0 (λ⟨k,hk⟩=>w.length - k) (⟨0,by omega⟩) d rfl (by (simp[cX,zC,d]<;>rfl)) ?_;rintro⟨k,hk⟩;(try dsimp only[cA,cB]);by_cases m:k < w.length
  ·obtain⟨c,p⟩:=get_some m
   have o:w[((k:Nat):Int).toNat]? = some c:=by simpa using p
   have n:=Ir (TB:=TB) w k c o;have h:=(f7.1 a.2) c (co p);rw [FK,decide_eq_true_eq] at h;have i:=UD (TB:=TB) ((c.toNat:Int) - 97) h.1 (by omega);have j:=aG p;have l:KM (w.take k) < 64:=Tv (by rw [f7];exact λx r=>(f7.1 a.2) x (ol r)) (by omega)
   have ht:((c.toNat:Int) - 97).toNat=c.toNat - 97:=by omega
   have q:2 ^ (c.toNat - 97) < 2 ^ 6:=qf (by omega) (by omega);have g:=(Lu l q).1;rw [<-j] at g;rw [ht] at i;(repeat first|refine tA rfl ?_ |refine s2 rfl λ_ b=>?_ |refine aU rfl ?_ |apply Aa);(refine aC rfl ?_ ?_<;>rintro⟨⟩)
   ·(repeat' first|(refine sA rfl ?_ ?_;first|exact tI|omega) |refine sP rfl (n) rfl ?_|refine sP rfl (i) rfl ?_ |refine aU rfl ?_ |apply Aa|(refine aC rfl ?_ ?_<;>rintro⟨⟩)|apply aK|apply aE|apply aB|refine aR ⟨_,rfl,?_⟩)
    rw [g];refine⟨⟨k+1,by omega⟩,by dsimp only;(omega),[],?_⟩;simp[cX,zC,d]
   ·exfalso;(simp only[oZ] at *;omega)
  ·obtain rfl:k=w.length:=by omega
   rw [ge];(repeat first|refine tA rfl ?_ |refine s2 rfl λ_ b=>?_ |refine aU rfl ?_ |apply Aa);(refine aC rfl ?_ ?_<;>rintro⟨⟩)
   ·exfalso;(simp only[oZ] at *;omega)
   ·(repeat' first|refine tA rfl ?_ |refine aU rfl ?_ |apply Aa|(refine aC rfl ?_ ?_<;>rintro⟨⟩)|apply aK|apply aE|apply aB|refine aR ⟨_,rfl,?_⟩)
    rfl
 ·rw [if_neg e]
  refine eN Tryz.func199 rfl (by kernel_rfl) rfl ?_;intro Γ d;(repeat first|refine tA rfl ?_ |refine s2 rfl λ_ b=>?_ |(refine sC rfl (f) ?_;intro _ b) |refine aU rfl ?_ |apply Aa);(refine aC rfl ?_ ?_<;>rintro⟨⟩)
  ·(repeat' first|refine tA rfl ?_ |refine aU rfl ?_ |apply Aa|(refine aC rfl ?_ ?_<;>rintro⟨⟩)|apply aK|apply aE|apply aB|refine aR ⟨_,rfl,?_⟩)
   rfl
  ·exfalso;simp at *;grind
theorem El(w:W)(al:Int)(i:w.length<=1099511627776):Pure Tryz.prog TB 173 [eT w,eI .i64 al] (eB (within w al)):=by
 have d:=Qp (TB:=TB) w i;have g:=Dq (TB:=TB) al;by_cases a:EC w=true
 ·rw [if_pos a] at d
  unfold EC at a;simp only [d4,decide_eq_true_eq] at a
  have f:within w al=(A8 al && w.all (GO al)):=by unfold within;simp [a.1]
  rw [f];refine eN Tryz.func173 rfl (by kernel_rfl) rfl ?_;intro Γ e;(repeat' first|refine tA rfl ?_ |refine s2 rfl λ_ c=>?_ |refine sP rfl (d) rfl ?_|(refine sC rfl (g) ?_;intro _ c) |refine s3 rfl ?_ ?_<;>rintro rfl |refine aU rfl ?_ |apply Aa|(refine aC rfl ?_ ?_<;>rintro⟨⟩)|apply aK|apply aE|apply aB|refine aR ⟨_,rfl,?_⟩)
  all_goals first
   | (show E.o _=E.o _;congr;grind)
   | (rename_i ha b;rw [gD a.2 ha] at c;show E.o _=E.o _;rw [ha,c];rfl)
 ·rw [if_neg a] at d
  have f:within w al=false:=by
   rw [Bool.eq_false_iff];intro h;unfold within at h;simp only [d4,decide_eq_true_eq] at h;exact a (by unfold EC;simp [h.1,XI h.2.2])
  rw [f];refine eN Tryz.func173 rfl (by kernel_rfl) rfl ?_;intro Γ e;(repeat' first|refine tA rfl ?_ |refine sP rfl (d) rfl ?_|(refine sC rfl (g) ?_;intro _ c) |refine aU rfl ?_ |apply Aa|(refine aC rfl ?_ ?_<;>rintro⟨⟩)|apply aK|apply aE|apply aB|refine aR ⟨_,rfl,?_⟩)
  all_goals rfl
theorem Dg{w:W}{al:Int}(h:within w al=true):AR (A7 al) w:=by
 unfold within at h;simp only [d4,decide_eq_true_eq] at h;intro c b;have a:=(f7.1 h.2.2) c b;unfold GO FJ at a;simp only [d4,decide_eq_true_eq] at a;refine d9.2 ⟨((c.toNat - 97:Nat):Int),Eg.2 ⟨by omega,a.2⟩,?_⟩;unfold lb
 have e:97+((c.toNat - 97:Nat):Int).toNat=c.toNat:=by omega
 rw [e];simp
theorem GQ{w:W}{al:Int}(h:AR (A7 al) w)(d:w.length<=50000)(ha:A8 al=true):within w al=true:=by
 unfold within;simp only [d4,decide_eq_true_eq];refine⟨d,ha,f7.2 λc f=>?_⟩;obtain⟨l,b,rfl⟩:=d9.1 (h c f);have a:=Au b;have g:=MZ a.1 (by omega);unfold GO FJ;simp only [d4,decide_eq_true_eq]
 have e:(lb l).toNat - 97=l.toNat:=by omega
 rw [e];exact⟨by omega,a.2.2⟩
theorem cJ{p:AX}(g:AJ p=true)(w:W)(n:AR (A7 p.al) w)(r:w.length<=1099511627776):Pure Tryz.prog TB 211 [Bc p,eI .i64 0,eT w] (eI .i64 (DT p 0 w)):=by
 have o:=AG g;refine eN Tryz.func211 rfl (by kernel_rfl) rfl ?_;intro Γ a;(repeat first|refine tA rfl ?_ |refine aU rfl ?_ |apply Aa);apply aB;refine aL (α:={k:Nat // k<=w.length}) [2,3] [] rfl rfl (λ⟨k,hk⟩=>[(1,eI .i64 (DT p 0 (w.take k))),(7,eI .i64 k)]) (λ⟨k,hk⟩=>[]) 0 (λ⟨k,hk⟩=>w.length - k) (⟨0,by omega⟩) a rfl (by (simp[cX,zC,a]<;>rfl)) ?_;rintro⟨k,hk⟩;(try dsimp only[cA,cB]);have q:=Ma g (w.take k) 0 (Iv n k) (by omega);by_cases h:k < w.length
 ·obtain⟨c,l⟩:=get_some h
  have j:w[((k:Nat):Int).toNat]? = some c:=by simpa using l
  have d:=Ho (n c (co l));have i:=Ir (TB:=TB) w k c j;have b:=JC (TB:=TB) p g (DT p 0 (w.take k)).toNat (by omega) ((c.toNat:Int) - 97) d.1 d.2
  have e:(((DT p 0 (w.take k)).toNat:Nat):Int)=DT p 0 (w.take k):=by omega
  rw [e] at b;have f:=RU (p:=p) l 0;rw [<-f] at b;(repeat first|refine tA rfl ?_ |refine s2 rfl λ_ m=>?_ |refine aU rfl ?_ |apply Aa);(refine aC rfl ?_ ?_<;>rintro⟨⟩)
  ·(repeat' first|(refine sA rfl ?_ ?_;first|exact tI|omega) |refine sP rfl (i) rfl ?_|refine sP rfl (b) rfl ?_ |refine aU rfl ?_ |apply Aa |refine rE (by kernel_rfl) ?_|(refine aC rfl ?_ ?_<;>rintro⟨⟩)|apply aK|apply aE|apply aB|refine aR ⟨_,rfl,?_⟩)
   refine⟨⟨k+1,by omega⟩,by dsimp only;(omega),[],?_⟩;simp[cX,zC,a]
  ·exfalso;(simp only[oZ] at *;omega)
 ·obtain rfl:k=w.length:=by omega
  rw [ge];(repeat first|refine tA rfl ?_ |refine s2 rfl λ_ m=>?_ |refine aU rfl ?_ |apply Aa);(refine aC rfl ?_ ?_<;>rintro⟨⟩)
  ·exfalso;(simp only[oZ] at *;omega)
  ·(repeat' first|refine tA rfl ?_ |refine aU rfl ?_ |apply Aa|(refine aC rfl ?_ ?_<;>rintro⟨⟩)|apply aK|apply aE|apply aB|refine aR ⟨_,rfl,?_⟩)
   rfl
def Cu(p:AX)(w:W):Int:=if AJ p && within w p.al then DT p 0 w else -1
def Kl(p:AX)(w:W):Bool:=AJ p && (within w p.al && LA p w)
theorem QM(p:AX)(w:W)(d:w.length<=1099511627776):Pure Tryz.prog TB 206 [Bc p,eT w] (eI .i64 (Cu p w)):=by
 have f:=Bl (TB:=TB) p;have e:=El (TB:=TB) w p.al d;by_cases b:(AJ p && within w p.al)=true
 ·have hs:Cu p w=DT p 0 w:=by unfold Cu;rw [if_pos b]
  rw [hs];rw [d4] at b;have g:=cJ (TB:=TB) b.1 w (Dg b.2) d;refine eN Tryz.func206 rfl (by kernel_rfl) rfl ?_;intro Γ c;(repeat' first|refine tA rfl ?_ |refine s2 rfl λ_ a=>?_ |(refine sC rfl (f) ?_;intro _ a)|(refine sC rfl (e) ?_;intro _ a)|refine sP rfl (g) rfl ?_ |refine s3 rfl ?_ ?_<;>rintro rfl |refine aU rfl ?_ |apply Aa|(refine aC rfl ?_ ?_<;>rintro⟨⟩)|apply aK|apply aE|apply aB|refine aR ⟨_,rfl,?_⟩)
  all_goals first
   | rfl
   | (exfalso;grind;done)
 ·have hs:Cu p w = -1:=by unfold Cu;rw [if_neg b]
  rw [hs];refine eN Tryz.func206 rfl (by kernel_rfl) rfl ?_;intro Γ c;(repeat' first|refine tA rfl ?_ |refine s2 rfl λ_ a=>?_ |(refine sC rfl (f) ?_;intro _ a)|(refine sC rfl (e) ?_;intro _ a) |refine s3 rfl ?_ ?_<;>rintro rfl |refine aU rfl ?_ |apply Aa|(refine aC rfl ?_ ?_<;>rintro⟨⟩)|apply aK|apply aE|apply aB|refine aR ⟨_,rfl,?_⟩)
  all_goals first
   | rfl
   | (exfalso;grind;done)
theorem ON(p:AX)(w:W)(g:w.length<=1099511627776):Pure Tryz.prog TB 185 [Bc p,eT w] (eB (Kl p w)):=by
 have c:=QM (TB:=TB) p w g;by_cases a:(AJ p && within w p.al)=true
 ·have hs:Cu p w=DT p 0 w:=by unfold Cu;rw [if_pos a]
  rw [hs] at c;rw [d4] at a;have f:=AG a.1;have i:=Ma a.1 w 0 (Dg a.2) (by omega);obtain⟨b,hb⟩:=get_some (l:=p.ac) (k:=(DT p 0 w).toNat) (by omega)
  have h:(p.ac.map Ik)[(DT p 0 w).toNat]? = some (Ik b):=by simp [hb]
  have ha:Kl p w=b:=by unfold Kl LA;simp [a.1,a.2,List.getD,hb]
  rw [ha];refine eN Tryz.func185 rfl (by kernel_rfl) rfl ?_;intro Γ d;(repeat' first|refine tA rfl ?_ |(refine s4 rfl ‹_› rfl ?_ ?_;omega) |refine s2 rfl λ_ e=>?_ |refine sP rfl (c) rfl ?_ |refine s3 rfl ?_ ?_<;>rintro rfl |refine aU rfl ?_ |apply Aa|(refine aC rfl ?_ ?_<;>rintro⟨⟩)|apply aK|apply aE|apply aB|refine aR ⟨_,rfl,?_⟩)
  all_goals first
   | rfl
   | (exfalso;(simp only[oZ] at *;omega))
 ·have hs:Cu p w = -1:=by unfold Cu;rw [if_neg a]
  rw [hs] at c
  have ha:Kl p w=false:=by unfold Kl;grind
  rw [ha];refine eN Tryz.func185 rfl (by kernel_rfl) rfl ?_;intro Γ d;(repeat' first|refine tA rfl ?_ |refine s2 rfl λ_ e=>?_ |refine sP rfl (c) rfl ?_ |refine s3 rfl ?_ ?_<;>rintro rfl |refine aU rfl ?_ |apply Aa|(refine aC rfl ?_ ?_<;>rintro⟨⟩)|apply aK|apply aE|apply aB|refine aR ⟨_,rfl,?_⟩)
  all_goals first
   | rfl
   | (exfalso;(simp only[oZ] at *;omega))
structure EE where
 kn:Bool
 p:AX
 s:Sys
 q:AX
 al:Int
abbrev EL(t:EE):E:=nA t.kn t.p t.s t.q t.al
end Go.Am
namespace Go.Am
open Go
def Cq(es:List Ee)(l:Int)(m:Nat):Nat:=es.foldl (λa e=>if e.l=l/\m.testBit e.f.toNat=true then a ||| 2 ^ e.t.toNat else a) 0
theorem Jy{α:Type}{p:α->Prop}[DecidablePred p]{g:α->Nat}{j:Nat}:∀(l:List α) (a:Nat),(l.foldl (λa e=>if p e then a ||| g e else a) a).testBit j=true↔a.testBit j=true\/∃e∈l,p e/\(g e).testBit j=true
 | [],a=>by simp
 | x :: l,a=>by
  rw [pi,Jy l];by_cases h:p x
  ·rw [if_pos h,pC,og]
   constructor
   ·rintro((b|b)|⟨e,b,c⟩)
    ·exact .inl b
    ·exact .inr ⟨x,by simp,h,b⟩
    ·exact .inr ⟨e,by simp [b],c⟩
   ·rintro(b|⟨e,b,c,d⟩)
    ·exact .inl (.inl b)
    ·rcases n8.1 b with rfl|b
     ·exact .inl (.inr d)
     ·exact .inr ⟨e,b,c,d⟩
  ·rw [if_neg h]
   constructor
   ·rintro(b|⟨e,b,c⟩)
    ·exact .inl b
    ·exact .inr ⟨e,by simp [b],c⟩
   ·rintro(b|⟨e,b,c,d⟩)
    ·exact .inl b
    ·rcases n8.1 b with rfl|b
     ·exact absurd c h
     ·exact .inr ⟨e,b,c,d⟩
theorem DO{es:List Ee}{l:Int}{m j:Nat}:(Cq es l m).testBit j=true↔∃e∈es,(e.l=l/\m.testBit e.f.toNat=true)/\e.t.toNat=j:=by
 unfold Cq;rw [Jy];simp [pF]
structure CM where
 s:Sys
 q:AX
 al:Int
def Bg(t:CM):Bool:=AW t.s && (AJ t.q && A8 t.al)
def Cv(t:CM):List Int:=(Ac t.s.al).filter λl=>!AY t.al l.toNat
def Dm(s:Sys)(l:Int)(m:Nat):Nat:=if AY s.al l.toNat then Cq s.es l m else m
abbrev PS:=Nat->Nat
def VT(t:CM)(l:Int)(F:PS):PS:=λp'=>(List.range t.q.nx.length).foldl (λa p=>if CC t.q p l=(p':Int) then a ||| Dm t.s l (F p) else a) 0
theorem LJ{t:CM}{l:Int}{F:PS}{p' j:Nat}:(VT t l F p').testBit j=true↔∃p,p < t.q.nx.length/\CC t.q p l=(p':Int)/\(Dm t.s l (F p)).testBit j=true:=by
 unfold VT;rw [Jy];simp
inductive Ql (t:CM) (F0:PS):Nat->Nat->Prop
 | base {p j:Nat}:(F0 p).testBit j=true->Ql t F0 p j
 | step {p j:Nat} {e:Ee}:Ql t F0 p j->e∈t.s.es->e.l∈Cv t->e.f.toNat=j->Ql t F0 (CC t.q p e.l).toNat e.t.toNat
open Classical in
noncomputable def Sw(t:CM)(F0:PS):PS:=λp=>(List.range 16).foldl (λa j=>if Ql t F0 p j then a ||| 2 ^ j else a) 0
open Classical in
theorem Om{t:CM}{F0:PS}{p j:Nat}:(Sw t F0 p).testBit j=true↔j < 16/\Ql t F0 p j:=by
 unfold Sw;rw [Jy];simp only [rV,qx,false_or,oc,pF,decide_eq_true_eq];constructor
 ·rintro⟨e,b,a,rfl⟩;exact⟨b,a⟩
 ·rintro⟨b,a⟩;exact⟨j,b,a,rfl⟩
structure C1 (t:CM) (F:PS):Prop where
 lt:∀p,F p < 65536
 z:∀p,t.q.nx.length<=p->F p=0
theorem Jw{m:Nat}(h:∀j,m.testBit j=true->j < 16):m < 65536:=by
 have:m < 2 ^ 16:=Nat.lt_pow_two_of_testBit m λi hi=>by
  cases hb:m.testBit i
  ·rfl
  ·have:=h i hb;omega
 omega
theorem Lz{m j:Nat}(h:m < 65536)(hb:m.testBit j=true):j < 16:=by
 rcases oK j 16 with a|a
 ·exact a
 ·have:m.testBit j=false:=Nat.testBit_lt_two_pow (lw h (oY (n:=2) (by omega) a))
  rw [this] at hb;cases hb
theorem HK{m:Nat}(h:∀j,m.testBit j=false):m=0:=pD λj=>by rw [h j];simp
section
variable {t:CM}(ht:Bg t=true)
include ht set_option linter.unusedSectionVars false
theorem Ie{e:Ee}(a:e∈t.s.es):0<=e.f/\e.f < 16/\0<=e.t/\e.t < 16/\0<=e.l/\e.l < 6:=by
 unfold Bg at ht;simp only [d4] at ht;have b:=Df ht.1 a;have c:=AO ht.1;unfold DF at b;grind
theorem CA:AJ t.q=true:=by
 unfold Bg at ht;simp only [d4] at ht;exact ht.2.1
theorem DN{l:Int}(h:l∈Cv t):0<=l/\l < 6/\AY t.s.al l.toNat=true:=by
 unfold Cv at h;have a:=Au (oh.1 h).1;exact⟨a.1,by omega,a.2.2⟩
theorem Jo{l:Int}{m:Nat}(a:m < 65536):Dm t.s l m < 65536:=by
 unfold Dm;split
 ·refine Jw λj b=>?_
  obtain⟨e,c,_,rfl⟩:=DO.1 b;have:=Ie ht c;omega
 ·exact a
theorem KF{l:Int}(a:0<=l/\l < 6){F:PS}(h:C1 t F):C1 t (VT t l F):=by
 refine⟨λp=>Jw λj d=>?_,λp f=>HK λj=>?_⟩
 ·obtain⟨q,c,e,b⟩:=LJ.1 d
  exact Lz (Jo ht (h.lt q)) b
 ·cases hb:(VT t l F p).testBit j
  ·rfl
  ·obtain⟨q,c,e,b⟩:=LJ.1 hb
   have:=Ds (CA ht) c a.1 a.2;omega
theorem Ql.lt{F0:PS}(h:C1 t F0){p j:Nat}(c:Ql t F0 p j):p < t.q.nx.length/\j < 16:=by
 induction c with
 | @base p j hb=>
  refine⟨?_,Lz (h.lt p) hb⟩
  rcases oK p t.q.nx.length with a|a
  ·exact a
  ·rw [h.z p a] at hb;simp at hb
 | @step p j e _ d f _ b=>
  have a:=Ie ht d;have g:=Ds (CA ht) b.1 a.2.2.2.2.1 a.2.2.2.2.2;omega
theorem bU{F0:PS}(h:C1 t F0):C1 t (Sw t F0):=by
 refine⟨λp=>Jw λj a=>(Om.1 a).1,λp b=>HK λj=>?_⟩;cases hb:(Sw t F0 p).testBit j
 ·rfl
 ·have:=((Om.1 hb).2.lt ht h).1
  omega
theorem bT{F0 G:PS}(c:C1 t F0)(n:∀p,t.q.nx.length<=p->G p=0)(m:∀p j,(F0 p).testBit j=true->(G p).testBit j=true)(b:∀p j,(G p).testBit j=true->Ql t F0 p j)
 (k:∀p l j,p < t.q.nx.length->l∈Cv t->(Cq t.s.es l (G p)).testBit j=true->(G (CC t.q p l).toNat).testBit j=true):G=Sw t F0:=by
 have key:∀ {p j:Nat},Ql t F0 p j->(G p).testBit j=true:=λ{p j} a=>by
  induction a with
  | base hb=>exact m _ _ hb
  | @step p j e a i f g d=>exact k p e.l _ (a.lt ht c).1 f (DO.2 ⟨e,i,⟨rfl,by rw [g];exact d⟩,rfl⟩)
 funext p;refine pD λj=>?_;rw [pM,Om];exact⟨λh=>⟨((b p j h).lt ht c).2,b p j h⟩,λh=>key h.2⟩
end
def IN:PS:=λp=>if p=0 then 1 else 0
noncomputable def Cw(t:CM):PS:=Sw t IN
noncomputable def Dk(t:CM)(l:Int)(F:PS):PS:=Sw t (VT t l F)
def Fm(t:CM)(F:PS):Bool:=(List.range t.q.nx.length).any λp=>decide (F p≠0) && !(t.q.ac.getD p false)
noncomputable def Gb(t:CM):PS->W->Bool
 | F,[]=>!Fm t F
 | F,c::w=>!Fm t F && Gb t (Dk t ((c.toNat:Int) - 97) F) w
noncomputable def LS(t:CM)(w:W):Bool:=Gb t (Cw t) w
section
variable {t:CM}(ht:Bg t=true)
include ht
theorem My:C1 t IN:=by
 have h:=AG (CA ht);refine⟨λp=>by unfold IN;split<;>omega,λp a=>by unfold IN;rw [if_neg (by omega)]⟩
theorem GB:C1 t (Cw t):=bU ht (My ht)
theorem LO{l:Int}(a:0<=l/\l < 6){F:PS}(h:C1 t F):C1 t (Dk t l F):=bU ht (KF ht a h)
end
end Go.Am
namespace Go.Am
open Go Go.Proofs
set_option maxHeartbeats 1000000
set_option maxRecDepth 4000
attribute [local irreducible] A6 Cz Lex Bv Aj Spec
variable {TB:BF}
theorem Vr:∀ {l:List Int},l.Pairwise (· < ·)->(∀x∈l,0<=x)->∀j:Nat,(BN l).testBit j=true↔(j:Int)∈l
 | [],_,_,j=>by simp [BN]
 | x :: r,e,f,j=>by
  have h:=f x (by simp);have c:=oT.1 e;have d:=Vr c.2 (λy g=>f y (by simp [g])) j;obtain⟨m,o,n⟩:=Nl e h;rw [o,Nat.testBit_two_pow_mul];rw [n,Nat.testBit_two_pow_mul] at d;rw [n8,<-d];by_cases k:j=x.toNat
  ·subst k
   simp;omega
  ·have b:¬(j:Int)=x:=by omega
   have hb:x.toNat<=j->(2*m+1).testBit (j - x.toNat)=(2*m).testBit (j - x.toNat):=λa=>by
    obtain⟨i,hi⟩:∃i,j - x.toNat=i+1:=⟨j - x.toNat - 1,by omega⟩
    rw [hi,p6,p6];congr 1;omega
   by_cases a:x.toNat<=j
   ·rw [hb a];simp [b]
   ·simp [a,b]
def EN(m k:Nat):List Int:=((List.range k).filter (m.testBit ·)).map Int.ofNat
theorem Uc(m k:Nat):EN m (k+1)=EN m k++if m.testBit k then [(k:Int)] else []:=by
 unfold EN;rw [pN,pm,o6];cases h:m.testBit k<;>simp [h]
theorem Sa(m:Nat):∀k,BN (EN m k)=m % 2 ^ k
 | 0=>by simp [EN,BN,Nat.mod_one]
 | k+1=>by
  rw [Uc,PU,Sa m k,qU,Nat.mod_mul,rf];by_cases h:m / 2 ^ k % 2=1
  ·rw [h];simp [BN]
  ·rw [show m / 2 ^ k % 2=0 by omega];simp [BN]
theorem Qs(m k:Nat):(EN m k).Pairwise (· < ·):=by
 unfold EN;rw [pS]
 exact(List.pairwise_lt_range.filter _).imp λh=>by simpa using h
theorem MI{m k:Nat}{x:Int}(h:x∈EN m k):0<=x/\x < k/\m.testBit x.toNat=true:=by
 unfold EN at h;obtain⟨n,a,rfl⟩:=d9.1 h;obtain⟨c,b⟩:=oh.1 a;have:=oc.1 c;exact⟨by simp,by simp;omega,by simpa using b⟩
theorem Ss{m:Nat}(h:m < 65536):m=BN (EN m 16):=by rw [Sa];omega
def QI(es:List Ee)(l:Int)(xs:List Int):Nat:=xs.foldl (λa x=>a ||| BN (MC es x.toNat l.toNat)) 0
theorem Py{s:Sys}(hs:AW s=true){l:Int}{j:Nat}:∀ {xs:List Int} {a:Nat},(xs.foldl (λa x=>a ||| BN (MC s.es x.toNat l.toNat)) a).testBit j=true↔a.testBit j=true\/∃x∈xs,(j:Int)∈MC s.es x.toNat l.toNat
 | [],a=>by simp
 | x::xs,a=>by
  rw [pi,Py hs,pC,og];have b:=Fv hs s.es.length x.toNat l.toNat;rw [ge] at b;have d:=Vr b (λy c=>(Nr hs (k:=s.es.length) (by rw [ge];exact c)).1) j;rw [d];simp only [n8,exists_eq_or_imp,or_assoc]
theorem gh{s:Sys}(hs:AW s=true){l:Int}(q:0<=l){m:Nat}(k:m < 65536):QI s.es l (EN m 16)=Cq s.es l m:=by
 refine pD λj=>?_;rw [pM];unfold QI;rw [Py hs,DO];simp only [rV,qx,false_or];constructor
 ·rintro⟨x,i,g⟩
  obtain⟨p,d,h⟩:=MI i;unfold MC at g;obtain⟨e,a,o⟩:=d9.1 g;obtain⟨c,b⟩:=oh.1 a;simp only [d4,decide_eq_true_eq] at b;exact⟨e,c,⟨by omega,by rw [show e.f.toNat=x.toNat by omega];exact h⟩,by omega⟩
 ·rintro⟨e,a,⟨p,d⟩,h⟩
  have hb:=Df hs a;unfold DF at hb;simp only [d4,decide_eq_true_eq] at hb;have n:=Lz k d;refine⟨e.f,?_,?_⟩
  ·unfold EN
   exact d9.2 ⟨e.f.toNat,oh.2 ⟨oc.2 n,d⟩,by simp;omega⟩
  ·unfold MC
   refine d9.2 ⟨e,oh.2 ⟨a,?_⟩,by omega⟩;simp only [d4,decide_eq_true_eq];omega
theorem gi{s:Sys}(hs:AW s=true){l:Int}{xs:List Int}:QI s.es l xs < 65536:=Jw λj a=>by
 unfold QI at a;rw [Py hs] at a;simp only [rV,qx,false_or] at a;obtain⟨x,_,b⟩:=a;have:=Nr hs (k:=s.es.length) (by rw [ge];exact b);omega
theorem Ov{a b:Nat}(ha:a < 2 ^ 62)(hb:b < 2 ^ 62):Gw .i64 (a:Nat) (b:Nat)=((a ||| b:Nat):Int):=by
 have d:a ||| b < 2 ^ 62:=pT ha hb;unfold Gw
 have c:(BitVec.ofInt IntKind.i64.bits (a:Int) ||| BitVec.ofInt IntKind.i64.bits (b:Int)).toNat=a ||| b:=by
  have e:IntKind.i64.bits=64:=rfl;rw [e];simp only [BitVec.toNat_or,BitVec.ofInt_natCast,BitVec.toNat_ofNat];rw [oH (by omega),oH (by omega)]
 rw [c];exact IntWalk.i64_in _ (by omega)
theorem gK[C8 TB]{s:Sys}(hs:AW s=true){l:Int}(B:0<=l/\l < 6){m:Nat}(r:m < 65536):Pure Tryz.prog TB 149 [.o (.ip (FU s.es)),eI .i64 (m:Nat),eI .i64 l] (eI .i64 (Cq s.es l m:Nat)):=by
 rw [<-gh hs B.1 r];rw [Ss r]
 have hb:∀x∈EN m 16,0<=x/\x < 16:=λx h=>⟨(MI h).1,(MI h).2.1⟩
 have H:=Qs m 16;rw [<-Ss r]
 conv=>arg 4;rw [Ss r]
 generalize EN m 16=xs at *;refine eG Tryz.func149 rfl (by kernel_rfl) rfl ?_;intro Γ c;(repeat first|refine tA rfl ?_ |refine aU rfl ?_ |apply Aa);apply aB;refine aL (α:={k:Nat // k<=xs.length}) [0,2] [] rfl rfl (λ⟨k,hk⟩=>[(1,eI .i64 (BN (xs.drop k):Nat)),(7,eI .i64 (QI s.es l (xs.take k):Nat))]) (λ⟨k,hk⟩=>[]) 0 (λ⟨k,hk⟩=>xs.length - k) (⟨0,by omega⟩) c rfl (by (simp[cX,zC,c]<;>rfl)) ?_;rintro⟨k,hk⟩;(try dsimp only[cA,cB]);by_cases z:k < xs.length
 ·obtain⟨x,h⟩:=get_some z
  have A:=BB h;have d:=hb x (co h)
  have f:(x::xs.drop (k+1)).Pairwise (· < ·):=by rw [<-A];exact H.sublist (List.drop_sublist _ _)
  have w:BN (x::xs.drop (k+1)) < 2 ^ 16:=by
   refine Me f λy q=>?_;rw [<-A] at q;exact hb y (pB q)
  have v:=Jp (x:=x) (l:=xs.drop (k+1));have p:=Vs f d.1 (by omega);have n:=Rr f d.1 (by omega);rw [<-A] at w v p n;have e:=iu (TB:=TB) (BN (xs.drop k)) (by omega) (by omega);rw [p] at e
  have ex:((x.toNat:Nat):Int)=x:=by omega
  rw [ex] at e;have i:=Fv hs s.es.length x.toNat l.toNat;rw [ge] at i;have F:BN (MC s.es x.toNat l.toNat) < 65536:=Me (t:=16) i λy q=>Nr hs (k:=s.es.length) (by rw [ge];exact q);have G:QI s.es l (xs.take k) < 65536:=gi hs;have j:=Ov (a:=QI s.es l (xs.take k)) (b:=BN (MC s.es x.toNat l.toNat)) (by omega) (by omega)
  have u:QI s.es l (xs.take (k+1))=QI s.es l (xs.take k) ||| BN (MC s.es x.toNat l.toNat):=by unfold QI;rw [d8,h,qB];rfl
  rw [<-u] at j;(repeat first|refine tA rfl ?_ |refine s2 rfl λ_ g=>?_ |refine aU rfl ?_ |apply Aa)
  ((refine aC rfl ?_ ?_<;>rintro⟨⟩);all_goals try(exfalso;(simp only[oZ] at *;omega)))
  apply aK;refine aS (aB ?_);refine rG (He []) (by kernel_rfl) ?_;(repeat first|(refine sA rfl ?_ ?_;first|exact tI|omega) |refine sP rfl (e) rfl ?_|(refine Af rfl ?_;refine gA rfl ?_;first| refine gS (λ_ _=>DQ rfl (cV d B)) ?_) |refine aU rfl ?_ |apply Aa);refine⟨⟨k+1,by omega⟩,by dsimp only;(omega),[],?_⟩;simp[cX,zC,c,j,n]
 ·obtain rfl:k=xs.length:=by omega
  rw [ge];(repeat first|refine tA rfl ?_ |refine s2 rfl λ_ g=>?_ |refine aU rfl ?_ |apply Aa);(refine aC rfl ?_ ?_<;>rintro⟨⟩)
  ·exfalso
   rw [qp] at g;simp [BN] at g
  apply aE;(repeat first|refine tA rfl ?_ |refine aU rfl ?_ |apply Aa);(subst_vars;exact aR ⟨_,rfl,rfl⟩)
end Go.Am
