/-
  Traces of systems by sets of states, plainly.
-/
import Derived.Test.YtohfiindiidcfaaGreatDoorPart38
import Derived.Test.YtohfiindiidcfaaGreatDoorPart39
set_option linter.all false
namespace Go.Am
def aAb(s:Sys):Nat->List Int->Nat
 | m,[]=>m
 | m,l::w=>aAb s (Cq s.es l m) w
theorem aAl(es:List Ee)(l:Int):Cq es l 0=0:=HK λj=>by
 rw [Bool.eq_false_iff];intro h;obtain⟨e,_,⟨_,a⟩,_⟩:=DO.1 h;simp at a
theorem aAj(s:Sys):∀w,aAb s 0 w=0
 | []=>rfl
 | l::w=>by
  show aAb s (Cq s.es l 0) w=0
  rw [aAl];exact aAj s w
theorem aAf{s:Sys}(k:∀e∈s.es,0<=e.f/\0<=e.t){j:Nat}:∀(w:List Int) {m:Nat},(∀l∈w,AY s.al l.toNat=true)->((aAb s m w).testBit j=true↔∃i:Nat,m.testBit i=true/\JT (Nn s) w i j)
 | [],m,_=>⟨λh=>⟨j,h,rfl⟩,λ⟨i,b,a⟩=>by
  have a:(j:Int)=i:=a
  have:j=i:=by omega
  subst this;exact b⟩
 | l :: w,m,n=>by
  show (aAb s (Cq s.es l m) w).testBit j=true↔_
  rw [aAf k w λx q=>n x (by simp [q])];have o:=n l (by simp);constructor
  ·rintro⟨i,b,a⟩
   obtain⟨e,g,⟨p,d⟩,c⟩:=DO.1 b;have hb:=k e g;refine⟨e.f.toNat,d,(i:Int),?_,a⟩
   show (i:Int)∈BO s _ l
   unfold BO;rw [if_pos o];exact d9.2 ⟨e,oh.2 ⟨g,by simp;omega⟩,by omega⟩
  ·rintro⟨i,b,y,a,g⟩
   have a:y∈BO s i l:=a;unfold BO at a;rw [if_pos o] at a;obtain⟨e,p,rfl⟩:=d9.1 a;obtain⟨d,c⟩:=oh.1 p;have hb:=k e d;simp at c;refine⟨e.t.toNat,DO.2 ⟨e,d,⟨c.2,by rw [c.1];simpa using b⟩,rfl⟩,?_⟩;rw [qN hb.2];exact g
theorem aAq{s:Sys}(k:∀e∈s.es,0<=e.f/\0<=e.t){w:List Int}:aAb s 1 (BU s.al w)≠0↔Fk s w:=by
 have p:BU s.al (BU s.al w)=BU s.al w:=by simp [BU]
 rw [<-Mh p];have c:∀l∈BU s.al w,AY s.al l.toNat=true:=λl c=>(oh.1 c).2;constructor
 ·intro h
  refine Classical.byContradiction λv=>h (HK λj=>?_);rw [Bool.eq_false_iff];intro u;obtain⟨i,d,B⟩:=(aAf k _ c).1 u
  have:i=0:=by
   cases i with
   | zero=>rfl
   | succ i=>simp [p6] at d
  subst this;exact v ⟨_,B⟩
 ·rintro⟨q,d⟩ h
  have r:∀(w:List Int) (x y:Int),0<=x->JT (Nn s) w x y->0<=y:=λw=>by
   induction w with
   | nil=>intro x y o b;have b:y=x:=b;omega
   | cons l w n=>
    rintro x y o ⟨z,a,b⟩;refine n z y ?_ b;have a:z∈BO s x l:=a;unfold BO at a;split at a
    ·obtain⟨e,A,rfl⟩:=d9.1 a
     exact(k e (oh.1 A).1).2
    ·simp at a;omega
  have g:=r _ _ _ (by omega) d;have:=(aAf k (j:=q.toNat) (BU s.al w) (m:=1) c).2 ⟨0,by simp,by rw [qN g];exact d⟩;rw [h] at this;simp at this
section
variable {α:Type}[DecidableEq α]
def aAy(nd:List α):Option α->Int
 | none=>1
 | some x=>if nd.idxOf x=0 then 0 else ((nd.idxOf x+1:Nat):Int)
structure aAA (f:α->Int->Option α) (ls:List Int) (s:α) (nd:List α) (rows:List (List Int)):Prop where
 st:nd[0]? = some s
 nodup:nd.Nodup
 len:rows.length<=nd.length
 row:∀(i:Nat) (r:List Int),rows[i]? = some r->∃q,nd[i]? = some q/\r=ls.map (λl=>aAy nd (f q l))/\∀l∈ls,∀x,f q l=some x->x∈nd
 rc:∀Z:List α,s∈Z->(∀q∈Z,∀l∈ls,∀x,f q l=some x->x∈Z)->∀q∈nd,q∈Z
structure aAz (f:α->Int->Option α) (ls:List Int) (s:α) (nd:List α) (rows:List (List Int)):Prop where
 st:nd[0]? = some s
 nodup:nd.Nodup
 len:rows.length=nd.length
 row:∀(i:Nat) (q:α),nd[i]? = some q->rows[i]? = some (ls.map λl=>aAy nd (f q l))
 cl:∀q∈nd,∀l∈ls,∀x,f q l=some x->x∈nd
end
section
variable {α:Type}[DecidableEq α]
end
section
variable {α:Type}[DecidableEq α]{f:α->Int->Option α}{al:Int}
end
section
variable {a b:AX}(ha:AJ a=true)(hb:AJ b=true)(hal:b.al=a.al)
include ha hb
end
structure TrG (s t:Sys) (g:Gr):Prop where
 s0:g.s0=1
 ls:g.ls=Ac s.al
 goal:∀x,g.goal x=decide (x % ((2 ^ t.st.toNat:Nat):Int)=0)
 succ:∀x l,0<=x->l∈Ac s.al->∀y,y∈g.succ x l↔∃q∈BO s (x / ((2 ^ t.st.toNat:Nat):Int)) l,y=q*((2 ^ t.st.toNat:Nat):Int)+(Cq t.es l (x % ((2 ^ t.st.toNat:Nat):Int)).toNat:Nat)
theorem aAu{s:Sys}(hs:AW s=true)(l:Int)(m:Nat):Cq s.es l m < 2 ^ s.st.toNat:=by
 refine Nat.lt_pow_two_of_testBit _ λj c=>?_;rw [Bool.eq_false_iff];intro h;obtain⟨e,b,_,d⟩:=DO.1 h;have a:=Df hs b;unfold DF at a;simp at a;omega
section
variable {s t:Sys}{g:Gr}(hs:AW s=true)(ht:AW t=true)(hal:s.al=t.al)(hg:TrG s t g)
include hs ht hg
end
end Go.Am
namespace Go.Am
open Go Go.Proofs
set_option maxHeartbeats 1000000
set_option maxRecDepth 4000
attribute [local irreducible] A6 Cz Lex Bv Aj Spec
variable {TB:BF}
theorem aAn{s:Sys}(hs:AW s=true):∀(w:List Int) {m:Nat},m < 65536->aAb s m w < 65536
 | [],m,h=>h
 | l::w,m,h=>aAn hs w (by
  have b:=aAu hs l m;have a:=AO hs;have:2 ^ s.st.toNat<=2 ^ 16:=oY (by omega) (by omega)
  omega)
theorem aAi(s:Sys):∀(w:List Int) (m:Nat) (l:Int),aAb s m (w++[l])=Cq s.es l (aAb s m w)
 | [],m,l=>rfl
 | x::w,m,l=>aAi s w _ l
theorem aAp{s:Sys}{w:List Int}{k:Nat}{l:Int}(h:w[k]? = some l)(m:Nat):aAb s m (w.take (k+1))=Cq s.es l (aAb s m (w.take k)):=by
 rw [d8,h];exact aAi s _ m l
theorem aAv{s:Sys}{w:List Int}{k:Nat}{m:Nat}(h:aAb s m (w.take k)=0):aAb s m w=0:=by
 have:∀(u v:List Int) (m:Nat),aAb s m u=0->aAb s m (u++v)=0:=λu=>by
  induction u with
  | nil=>intro v m h;have h:m=0:=h;subst h;exact aAj s v
  | cons x u a=>intro v m h;exact a v _ h
 have b:=this _ (w.drop k) m h;rwa [o7] at b
theorem aAc{al:Int}{w:List Int}(ha:A8 al=true)(h:∀l∈w,l∈Ac al)(d:w.length<=50000):within (Dx w) al=true:=by
 unfold within;rw [decide_eq_true (show (Dx w).length<=50000 by simpa [Dx] using d),ha,oM,oM,f7];intro c a;unfold Dx at a;obtain⟨l,b,rfl⟩:=d9.1 a;have:=Au (h l b);rw [cD (by omega)];exact this.2.2
theorem aAg[C8 TB]{s:Sys}(hs:AW s=true){u:List Int}(v:∀l∈u,l∈Ac s.al)(B:u.length<=50000):Pure Tryz.prog TB 100 [Bp s,eT (Dx u)] (eI .i64 (aAb s 1 u:Nat)):=by
  have F:=AO hs;have q:=BI (TB:=TB) s;have p:=Qj (TB:=TB) (Dx u) s.al (by simp [Dx];omega);have x:=Pr (TB:=TB) s hs;rw [hs] at q;rw [aAc F.1 v B] at p;have j:=λk=>aAn hs (u.take k) (m:=1) (by omega);refine eG Tryz.func100 rfl (by kernel_rfl) rfl ?_;intro Γ b;(repeat first |refine sN rfl ?_ |((first|refine sA rfl ?_ ?_|refine s4 rfl ‹_› rfl ?_ ?_);first|exact tI|omega|simp only[oZ] at *;omega) |refine s2 rfl λ_ a=>?_ |refine sP rfl (q) rfl ?_|refine sP rfl (p) rfl ?_|refine sP rfl (x) rfl ?_ |refine s3 rfl ?_ ?_<;>rintro rfl |refine aU rfl ?_ |apply Aa)
  (repeat' first |refine sN rfl ?_ |((first|refine sA rfl ?_ ?_|refine s4 rfl ‹_› rfl ?_ ?_);first|exact tI|omega|simp only[oZ] at *;omega) |refine s2 rfl λ_ a=>?_ |refine sP rfl (q) rfl ?_|refine sP rfl (p) rfl ?_ |refine s3 rfl ?_ ?_<;>rintro rfl |refine aU rfl ?_ |apply Aa|(refine aC rfl ?_ ?_<;>rintro⟨⟩));all_goals try contradiction
  apply aK;(repeat first |refine sN rfl ?_ |((first|refine sA rfl ?_ ?_|refine s4 rfl ‹_› rfl ?_ ?_);first|exact tI|omega|simp only[oZ] at *;omega) |refine s2 rfl λ_ a=>?_ |refine sP rfl (x) rfl ?_ |refine s3 rfl ?_ ?_<;>rintro rfl |refine aU rfl ?_ |apply Aa);apply aB;refine aL (α:={k:Nat // k<=u.length}) [1,5] [] rfl rfl (λ⟨k,hk⟩=>[(6,eI .i64 (aAb s 1 (u.take k):Nat)),(7,eI .i64 k)]) (λ⟨k,hk⟩=>[]) 0 (λ⟨k,hk⟩=>u.length - k) (⟨0,by omega⟩) b rfl (by ((repeat' first|exact tI|rfl|refine And.intro ?_ ?_)<;>(simp[cX,zC,b]<;>rfl))) ?_;rintro⟨k,hk⟩;(try dsimp only[cA,cB])
  have z:(Dx u).length=u.length:=by simp [Dx]
  have f:=j k;by_cases n:k < u.length
  · obtain⟨l,d⟩:=get_some n
    have A:=Au (v l (co d))
    have G:(Dx u)[((k:Nat):Int).toNat]? = some (UInt8.ofNat (97+l.toNat)):=by simp [Dx,d]
    have h:((UInt8.ofNat (97+l.toNat)).toNat:Int) - 97=l:=by
      have:(UInt8.ofNat (97+l.toNat)).toNat=97+l.toNat:=by simp;omega
      rw [this];omega
    have g:=FQ (TB:=TB) (Dx u) k _ G (by rw [h];omega);rw [h] at g;have c:=gK (TB:=TB) hs (l:=l) (by omega) f;have i:=aAp d (s:=s) 1;have o:=aAv (s:=s) (w:=u) (k:=k) (m:=1);rw [<-i] at c
    obtain⟨r,e⟩:∃r,r=aAb s 1 (u.take (k+1)):=⟨_,rfl⟩
    rw [<-e] at c;generalize aAb s 1 (u.take k)=t at *;by_cases y:t=0
    · subst y
      rw [o rfl]
      (repeat' first |refine sN rfl ?_ |((first|refine sA rfl ?_ ?_|refine s4 rfl ‹_› rfl ?_ ?_);first|exact tI|omega|simp only[oZ] at *;omega) |refine s2 rfl λ_ a=>?_ |refine s3 rfl ?_ ?_<;>rintro rfl |refine aU rfl ?_ |apply Aa|(refine aC rfl ?_ ?_<;>rintro⟨⟩));all_goals try contradiction
      all_goals first
        | (exfalso;first|omega|simp only[oZ] at *;omega;done)
        | (apply aE
           (repeat first |refine sN rfl ?_ |((first|refine sA rfl ?_ ?_|refine s4 rfl ‹_› rfl ?_ ?_);first|exact tI|omega|simp only[oZ] at *;omega) |refine s2 rfl λ_ a=>?_ |refine s3 rfl ?_ ?_<;>rintro rfl |refine aU rfl ?_ |apply Aa)
           (subst_vars;exact aR ⟨_,rfl,rfl⟩))
    · (repeat' first |refine sN rfl ?_ |((first|refine sA rfl ?_ ?_|refine s4 rfl ‹_› rfl ?_ ?_);first|exact tI|omega|simp only[oZ] at *;omega) |refine s2 rfl λ_ a=>?_ |refine s3 rfl ?_ ?_<;>rintro rfl |refine aU rfl ?_ |apply Aa|(refine aC rfl ?_ ?_<;>rintro⟨⟩));all_goals try contradiction
      all_goals first
        | (exfalso;first|omega|simp only[oZ] at *;omega;done)
        | skip
      apply aK;refine aS (aB ?_);(repeat first |refine sN rfl ?_ |((first|refine sA rfl ?_ ?_|refine s4 rfl ‹_› rfl ?_ ?_);first|exact tI|omega|simp only[oZ] at *;omega) |refine s2 rfl λ_ a=>?_ |refine sP rfl (g) rfl ?_|refine sP rfl (c) rfl ?_ |refine s3 rfl ?_ ?_<;>rintro rfl |refine aU rfl ?_ |apply Aa);refine⟨⟨k+1,by first|omega|simp only[oZ] at *;omega⟩,by dsimp only;(first|omega|simp only[oZ] at *;omega),[],?_⟩;simp[cX,zC,b,e]
  · obtain rfl:k=u.length:=by omega
    rw [ge] at *;generalize aAb s 1 u=t at *
    (repeat' first |refine sN rfl ?_ |((first|refine sA rfl ?_ ?_|refine s4 rfl ‹_› rfl ?_ ?_);first|exact tI|omega|simp only[oZ] at *;omega) |refine s2 rfl λ_ a=>?_ |refine s3 rfl ?_ ?_<;>rintro rfl |refine aU rfl ?_ |apply Aa|(refine aC rfl ?_ ?_<;>rintro⟨⟩));all_goals try contradiction
    all_goals first
      | (exfalso;first|omega|simp only[oZ] at *;omega;done)
      | (apply aE
         (repeat first |refine sN rfl ?_ |((first|refine sA rfl ?_ ?_|refine s4 rfl ‹_› rfl ?_ ?_);first|exact tI|omega|simp only[oZ] at *;omega) |refine s2 rfl λ_ a=>?_ |refine s3 rfl ?_ ?_<;>rintro rfl |refine aU rfl ?_ |apply Aa)
         (subst_vars;exact aR ⟨_,rfl,rfl⟩))
theorem aAk[C8 TB]{s:Sys}(hs:AW s=true){u:List Int}(c:∀l∈u,l∈Ac s.al)(d:u.length<=50000)(f:aAb s 1 u≠0):Pure Tryz.prog TB 57 [Bp s,eT (Dx u)] (eB true):=by
 have e:=aAg (TB:=TB) hs c d;generalize aAb s 1 u=n at *;refine eG Tryz.func57 rfl (by kernel_rfl) rfl ?_;intro Γ b;(repeat first |refine sN rfl ?_ |((first|refine sA rfl ?_ ?_|refine s4 rfl ‹_› rfl ?_ ?_);first|exact tI|omega|simp only[oZ] at *;omega) |refine s2 rfl λ_ a=>?_ |refine sP rfl (e) rfl ?_ |refine s3 rfl ?_ ?_<;>rintro rfl |refine aU rfl ?_ |apply Aa)
 (repeat' first |refine sN rfl ?_ |((first|refine sA rfl ?_ ?_|refine s4 rfl ‹_› rfl ?_ ?_);first|exact tI|omega|simp only[oZ] at *;omega) |refine s2 rfl λ_ a=>?_ |refine s3 rfl ?_ ?_<;>rintro rfl |refine aU rfl ?_ |apply Aa|(refine aC rfl ?_ ?_<;>rintro⟨⟩));all_goals try contradiction
 all_goals first
  | (exfalso;first|omega|simp only[oZ] at *;omega;done)
  | (subst_vars;exact aR ⟨_,rfl,rfl⟩)
  | (refine aR ⟨_,rfl,?_⟩;show E.o _=E.o _;congr;grind)
theorem aAx:∀n,n < 6->AY 63 n=true:=by decide
theorem aAh(w:W)(b:w.length<=1099511627776):Pure Tryz.prog TB 59 [eT w] (eB (within w 63)):=by
 have h:=Qj (TB:=TB) w 63 b;refine eG Tryz.func59 rfl (by kernel_rfl) rfl ?_;intro Γ a;(repeat first |refine sN rfl ?_ |((first|refine sA rfl ?_ ?_|refine s4 rfl ‹_› rfl ?_ ?_);first|exact tI|omega|simp only[oZ] at *;omega) |refine s2 rfl λ_ c=>?_ |refine sP rfl (h) rfl ?_ |refine s3 rfl ?_ ?_<;>rintro rfl |refine aU rfl ?_ |apply Aa);(subst_vars;exact aR ⟨_,rfl,rfl⟩)
theorem aAo{p:AX}{w:List Int}(b:AJ p=true)(a:Hw w)(d:(Dx w).length<=50000)(h:Er p w=false):Pure Tryz.prog TB 31 [Bc p,eT (Dx w)] (eB true):=by
 have k:=AU (TB:=TB) p;have j:=aAh (TB:=TB) (Dx w) (by omega);have i:=NT (TB:=TB) (Dx w) p.al (by omega)
 have c:w.length<=50000:=by simpa [Dx] using d
 rw [PK a] at i;have f:∀l∈BU p.al w,l∈Ac p.al:=TK a;have n:(BU p.al w).length<=w.length:=pI _ _;have g:=bf (TB:=TB) p (Dx (BU p.al w)) (by simp [Dx];omega)
 have o:Kl p (Dx (BU p.al w))=false:=by
  unfold Kl;rw [b,aAc (AG b).1 f (by omega),bz f,oM,oM,<-h];exact Lb b (TJ a) a (by rw [Mr λ_ _ h=>h])
 rw [o] at g;rw [b] at k;rw [aAc (by decide) (JG a λl d=>by have:=a l d;exact aAx _ (by omega)) c] at j;refine eG Tryz.func31 rfl (by kernel_rfl) rfl ?_;intro Γ m;(repeat first |refine sN rfl ?_ |((first|refine sA rfl ?_ ?_|refine s4 rfl ‹_› rfl ?_ ?_);first|exact tI|omega|simp only[oZ] at *;omega) |refine s2 rfl λ_ e=>?_ |refine s3 rfl ?_ ?_<;>rintro rfl |refine aU rfl ?_ |apply Aa);refine rG (He []) (by kernel_rfl) ?_
 (repeat' first |refine sN rfl ?_ |((first|refine sA rfl ?_ ?_|refine s4 rfl ‹_› rfl ?_ ?_);first|exact tI|omega|simp only[oZ] at *;omega) |refine s2 rfl λ_ e=>?_ |refine sP rfl (k) rfl ?_|refine sP rfl (j) rfl ?_|refine sP rfl (i) rfl ?_|refine sP rfl (g) rfl ?_ |refine s3 rfl ?_ ?_<;>rintro rfl |refine aU rfl ?_ |apply Aa|(refine aC rfl ?_ ?_<;>rintro⟨⟩));all_goals try contradiction
 all_goals (subst_vars;exact aR ⟨_,rfl,rfl⟩)
theorem aAr{s t:Sys}{a:AX}{w:List Int}(h:BV [s,t] a=some w):Hw w/\(Dx w).length<=3072:=by
 obtain⟨c,k,_⟩:=XF h;have b:=c;simp only [JH,d4] at b;obtain⟨⟨e,d⟩,l⟩:=b;refine⟨((YN e d).1 k).1,?_⟩;unfold BV at h;rw [if_pos c] at h;obtain⟨f,hk,g⟩:=Ox c;have hi:=DE (En (C0 [s,t] a));rw [h] at hi;have hs:=hi.short (O9 f g);have m:(En (C0 [s,t] a)).N=(s.st*(t.st*((a.nx.length:Int)*1))).toNat:=rfl;have q:=AO e;have p:=AO d;have o:=AG l;have j:t.st*((a.nx.length:Int)*1)<=16*12:=oS (by omega) (by omega) (by omega) (by omega);have i:0<=t.st*((a.nx.length:Int)*1):=oU (by omega) (by omega);have n:s.st*(t.st*((a.nx.length:Int)*1))<=16*192:=oS (by omega) j i (by omega);unfold Dx;rw [gt];omega
theorem aAw{s:Sys}(hs:AW s=true):∀e∈s.es,0<=e.f/\0<=e.t:=λe h=>by
 have a:=Df hs h;unfold DF at a;simp at a;omega
theorem aAe[C8 TB]{s t:Sys}{w:List Int}(hs:AW s=true)(ht:AW t=true)(i:∀l∈w,l∈Ac (Bz [s,t]))(r:(Dx w).length<=50000)(z:Fk s w)(x:Fk t w):Pure Tryz.prog TB 30 [Gm [s,t],eT (Dx w)] (eB true):=by
 have m:Hw w:=((YN hs ht).1 i).1
 have j:A3 [s,t]=true:=by rw [JH,hs,ht];rfl
 have f:=Hi (TB:=TB) [s,t];rw [j] at f;have A:=FP (TB:=TB) [s,t];have n:=Qj (TB:=TB) (Dx w) (Bz [s,t]) (by omega)
 have e:w.length<=50000:=by simpa [Dx] using r
 rw [aAc (Xh j) i e] at n
 have p:∀(k:Nat) (y:Sys),[s,t][k]? = some y->Pure Tryz.prog TB 58 [eT (Dx w),eI .i64 y.al] (eT (Dx (BU y.al w)))/\Pure Tryz.prog TB 57 [Bp y,eT (Dx (BU y.al w))] (eB true):=λk y h=>by
  have d:AW y=true/\Fk y w:=by
   have:=co h;simp only [n8,q9,or_false] at this
   rcases this with rfl|rfl
   ·exact⟨hs,z⟩
   ·exact⟨ht,x⟩
  have c:=NT (TB:=TB) (Dx w) y.al (by omega);rw [PK m] at c;have q:(BU y.al w).length<=w.length:=pI _ _;exact⟨c,aAk d.1 (TK m) (by omega) ((aAq (aAw d.1)).2 d.2)⟩
 generalize hL:[s,t]=L at *
 have v:L.length=2:=by rw [<-hL];rfl
 generalize Bz L=al at *;refine eG Tryz.func30 rfl (by kernel_rfl) rfl ?_;intro Γ b;(repeat first |refine sN rfl ?_ |((first|refine sA rfl ?_ ?_|refine s4 rfl ‹_› rfl ?_ ?_);first|exact tI|omega|simp only[oZ] at *;omega) |refine s2 rfl λ_ a=>?_ |refine sP rfl (f) rfl ?_ |refine s3 rfl ?_ ?_<;>rintro rfl |refine aU rfl ?_ |apply Aa)
 (repeat' first |refine sN rfl ?_ |((first|refine sA rfl ?_ ?_|refine s4 rfl ‹_› rfl ?_ ?_);first|exact tI|omega|simp only[oZ] at *;omega) |refine s2 rfl λ_ a=>?_ |refine sP rfl (f) rfl ?_|refine sP rfl (A) rfl ?_|refine sP rfl (n) rfl ?_ |refine s3 rfl ?_ ?_<;>rintro rfl |refine aU rfl ?_ |apply Aa|(refine aC rfl ?_ ?_<;>rintro⟨⟩));all_goals try contradiction
 apply aK;(repeat first |refine sN rfl ?_ |((first|refine sA rfl ?_ ?_|refine s4 rfl ‹_› rfl ?_ ?_);first|exact tI|omega|simp only[oZ] at *;omega) |refine s2 rfl λ_ a=>?_ |refine s3 rfl ?_ ?_<;>rintro rfl |refine aU rfl ?_ |apply Aa);apply aB;refine aL (α:={k:Nat // k<=L.length}) [1,17,18] [] rfl rfl (λ⟨k,hk⟩=>[(19,eI .i64 k)]) (λ⟨k,hk⟩=>[]) 0 (λ⟨k,hk⟩=>L.length - k) (⟨0,by omega⟩) b rfl (by ((repeat' first|exact tI|rfl|refine And.intro ?_ ?_)<;>(simp[cX,zC,b]<;>rfl))) ?_;rintro⟨k,hk⟩;(try dsimp only[cA,cB]);(repeat first |refine sN rfl ?_ |((first|refine sA rfl ?_ ?_|refine s4 rfl ‹_› rfl ?_ ?_);first|exact tI|omega|simp only[oZ] at *;omega) |refine s2 rfl λ_ a=>?_ |refine s3 rfl ?_ ?_<;>rintro rfl |refine aU rfl ?_ |apply Aa)
 ((refine aC rfl ?_ ?_<;>rintro⟨⟩);all_goals try (simp at a;done))
 ·obtain⟨y,hg⟩:=get_some (l:=L) (k:=k) (by first|omega|simp only[oZ] at *;omega)
  have u:=get_map (g:=AL) hg;obtain⟨c,o⟩:=p k y hg;apply aK;refine aS (aB ?_);(repeat first |refine sN rfl ?_ |((first|refine sA rfl ?_ ?_|refine s4 rfl ‹_› rfl ?_ ?_);first|exact tI|omega|simp only[oZ] at *;omega) |refine s2 rfl λ_ a=>?_ |refine s3 rfl ?_ ?_<;>rintro rfl |refine aU rfl ?_ |apply Aa);refine rG (He []) (by kernel_rfl) ?_
  (repeat' first |refine sN rfl ?_ |((first|refine sA rfl ?_ ?_|refine s4 rfl ‹_› rfl ?_ ?_);first|exact tI|omega|simp only[oZ] at *;omega) |refine s2 rfl λ_ a=>?_ |refine sP rfl (c) rfl ?_|refine sP rfl (o) rfl ?_ |refine s3 rfl ?_ ?_<;>rintro rfl |refine aU rfl ?_ |apply Aa|(refine aC rfl ?_ ?_<;>rintro⟨⟩));all_goals try contradiction
  apply aK;(repeat first |refine sN rfl ?_ |((first|refine sA rfl ?_ ?_|refine s4 rfl ‹_› rfl ?_ ?_);first|exact tI|omega|simp only[oZ] at *;omega) |refine s2 rfl λ_ a=>?_ |refine s3 rfl ?_ ?_<;>rintro rfl |refine aU rfl ?_ |apply Aa);refine⟨⟨k+1,by first|omega|simp only[oZ] at *;omega⟩,by dsimp only;(first|omega|simp only[oZ] at *;omega),[],?_⟩;simp[cX,zC,b]
 ·apply aE
  (repeat first |refine sN rfl ?_ |((first|refine sA rfl ?_ ?_|refine s4 rfl ‹_› rfl ?_ ?_);first|exact tI|omega|simp only[oZ] at *;omega) |refine s2 rfl λ_ a=>?_ |refine s3 rfl ?_ ?_<;>rintro rfl |refine aU rfl ?_ |apply Aa);(subst_vars;exact aR ⟨_,rfl,rfl⟩)
end Go.Am
namespace Go.Am
open Go Go.Proofs
set_option maxHeartbeats 1000000
set_option maxRecDepth 4000
attribute [local irreducible] A6 Cz Lex Bv Aj Spec
theorem aAd{tabs:List (Nat×Obj)}[hTb:C8 ⟨tabs,none⟩](b:List UInt8):Pure Tryz.prog ⟨tabs,none⟩ 11 [.o (.d (eP b))] (eB true):=by
 refine eG Tryz.func11 rfl (by kernel_rfl) rfl ?_;intro Γ H;(repeat first |refine sN rfl ?_ |((first|refine sA rfl ?_ ?_|refine s4 rfl ‹_› rfl ?_ ?_);first|exact tI|omega|simp only[oZ] at *;omega) |refine s2 rfl λ_ c=>?_ |refine s3 rfl ?_ ?_<;>rintro rfl |refine aU rfl ?_ |apply Aa);(refine aC rfl ?_ ?_<;>rintro⟨⟩)
 ·(repeat first |refine sN rfl ?_ |((first|refine sA rfl ?_ ?_|refine s4 rfl ‹_› rfl ?_ ?_);first|exact tI|omega|simp only[oZ] at *;omega) |refine s2 rfl λ_ c=>?_ |refine s3 rfl ?_ ?_<;>rintro rfl |refine aU rfl ?_ |apply Aa)
  (subst_vars;exact aR ⟨_,rfl,rfl⟩)
 have l:b.length<=9223372036854775807:=by first|omega|simp only[oZ] at *;omega
 apply aK;(repeat first |refine sN rfl ?_ |((first|refine sA rfl ?_ ?_|refine s4 rfl ‹_› rfl ?_ ?_);first|exact tI|omega|simp only[oZ] at *;omega) |refine s2 rfl λ_ c=>?_ |refine s3 rfl ?_ ?_<;>rintro rfl |refine aU rfl ?_ |apply Aa);(refine pW rfl ?_ rfl (by rfl);refine Ai [] rfl rfl (XM (TB:=⟨tabs,none⟩) b l) ⟨rfl,by decide,by decide⟩ rfl trivial ?_;rintro N r y ⟨⟨s,t,p⟩,⟨f,J⟩,rfl,rfl,rfl⟩ _);(repeat first |refine sN rfl ?_ |((first|refine sA rfl ?_ ?_|refine s4 rfl ‹_› rfl ?_ ?_);first|exact tI|omega|simp only[oZ] at *;omega) |refine s2 rfl λ_ c=>?_ |refine s3 rfl ?_ ?_<;>rintro rfl);apply Aa;refine Aj.AF [0,1,2] [(3,.o (.ip (AL s))),(4,.o (.ip (AL t))),(5,.o (.ip (AT p)))] ⟨⟨_,rfl,.inr (.o (.box rfl (Ge.refl (AL s))))⟩,⟨_,rfl,.inr (.o (.box rfl (Ge.refl (AL t))))⟩,⟨_,rfl,.inr (.o (.box rfl (Ge.refl (AT p))))⟩,trivial⟩ ?_;have q:=Yz (tabs:=tabs) s t p f;have n:=Zh (TB:=⟨tabs,none⟩) s t p f;have ag:=l4 (TB:=⟨tabs,none⟩) (BY s t p)
 have I:((BY s t p).code≠1/\(BY s t p).tr=[])\/((BY s t p).code=1/\∃w:List Int,(BY s t p).tr=Dx w/\Pure Tryz.prog ⟨tabs,none⟩ 29 [Gm [s,t],Bc p] (Lm (some w))/\Pure Tryz.prog ⟨tabs,none⟩ 30 [Gm [s,t],eT (Dx w)] (eB true)/\Pure Tryz.prog ⟨tabs,none⟩ 31 [Bc p,eT (Dx w)] (eB true)):=by
  by_cases hi:AP s p t < 0
  ·rw [Zt hi];exact .inl ⟨by decide,rfl⟩
  ·obtain⟨_,_,m⟩:=mf hi
   rcases m with ⟨g,_,e,_⟩|⟨g,e,_⟩|⟨g,_,_,e,K⟩
   ·exact .inl ⟨by rw [g];decide,e⟩
   ·exact .inl ⟨by rw [g];decide,e⟩
   ·obtain⟨w,j⟩:=Option.isSome_iff_exists.1 K
    obtain⟨G,F,B,A⟩:=XF j;obtain⟨z,P⟩:=aAr j;have i:=G;simp only [JH,d4] at i;obtain⟨x,u⟩:=Zs.1 B;have h:=Dt (TB:=⟨tabs,none⟩) [s,t] p;rw [j] at h e;exact .inr ⟨g,w,e,h,aAe i.1.1 i.1.2 F (by omega) x u,aAo i.2 z (by omega) A⟩
 obtain⟨⟨code,a,tr,rd⟩,k⟩:∃v,v=BY s t p:=⟨_,rfl⟩
 simp only [<-k] at *
 rcases I with ⟨m,rfl⟩|⟨rfl,w,rfl,h,M,L⟩
 ·(repeat first |refine sN rfl ?_ |((first|refine sA rfl ?_ ?_|refine s4 rfl ‹_› rfl ?_ ?_);first|exact tI|omega|simp only[oZ] at *;omega) |refine s2 rfl λ_ c=>?_ |refine sP rfl (q) rfl ?_ |refine s3 rfl ?_ ?_<;>rintro rfl |refine aU rfl ?_ |apply Aa)
  refine rG (He []) (by kernel_rfl) ?_
  (repeat' first |refine sN rfl ?_ |((first|refine sA rfl ?_ ?_|refine s4 rfl ‹_› rfl ?_ ?_);first|exact tI|omega|simp only[oZ] at *;omega) |refine s2 rfl λ_ c=>?_ |refine sP rfl (n) rfl ?_|refine sP rfl (ag) rfl ?_ |refine s3 rfl ?_ ?_<;>rintro rfl |refine aU rfl ?_ |apply Aa|(refine aC rfl ?_ ?_<;>rintro⟨⟩));all_goals try contradiction
  all_goals first
   | (exfalso;first|omega|simp only[oZ] at *;omega;done)
   | (apply aK)
  (repeat' first |refine sN rfl ?_ |((first|refine sA rfl ?_ ?_|refine s4 rfl ‹_› rfl ?_ ?_);first|exact tI|omega|simp only[oZ] at *;omega) |refine s2 rfl λ_ c=>?_ |refine s3 rfl ?_ ?_<;>rintro rfl |refine aU rfl ?_ |apply Aa|(refine aC rfl ?_ ?_<;>rintro⟨⟩));all_goals try contradiction
  all_goals first
   | (exfalso;first|omega|simp only[oZ] at *;omega;done)
   | (exfalso;grind;done)
   | (subst_vars;exact aR ⟨_,rfl,rfl⟩)
 ·(repeat first |refine sN rfl ?_ |((first|refine sA rfl ?_ ?_|refine s4 rfl ‹_› rfl ?_ ?_);first|exact tI|omega|simp only[oZ] at *;omega) |refine s2 rfl λ_ c=>?_ |refine sP rfl (q) rfl ?_ |refine s3 rfl ?_ ?_<;>rintro rfl |refine aU rfl ?_ |apply Aa)
  refine rG (He []) (by kernel_rfl) ?_
  (repeat' first |refine sN rfl ?_ |((first|refine sA rfl ?_ ?_|refine s4 rfl ‹_› rfl ?_ ?_);first|exact tI|omega|simp only[oZ] at *;omega) |refine s2 rfl λ_ c=>?_ |refine sP rfl (n) rfl ?_|refine sP rfl (ag) rfl ?_ |refine s3 rfl ?_ ?_<;>rintro rfl |refine aU rfl ?_ |apply Aa|(refine aC rfl ?_ ?_<;>rintro⟨⟩));all_goals try contradiction
  all_goals first
   | (exfalso;first|omega|simp only[oZ] at *;omega;done)
   | (apply aK)
  (repeat' first |refine sN rfl ?_ |((first|refine sA rfl ?_ ?_|refine s4 rfl ‹_› rfl ?_ ?_);first|exact tI|omega|simp only[oZ] at *;omega) |refine s2 rfl λ_ c=>?_ |refine s3 rfl ?_ ?_<;>rintro rfl |refine aU rfl ?_ |apply Aa|(refine aC rfl ?_ ?_<;>rintro⟨⟩));all_goals try contradiction
  all_goals first
   | (exfalso;first|omega|simp only[oZ] at *;omega;done)
   | (exfalso;grind;done)
   | (apply aK)
  (repeat first |refine sN rfl ?_ |((first|refine sA rfl ?_ ?_|refine s4 rfl ‹_› rfl ?_ ?_);first|exact tI|omega|simp only[oZ] at *;omega) |refine s2 rfl λ_ c=>?_ |refine sP rfl (h) rfl ?_|(refine Af rfl ?_;refine gA rfl ?_;first|refine gS (λ_ _=>AB rfl rfl (by rfl) (by rfl)) ?_) |refine s3 rfl ?_ ?_<;>rintro rfl |refine aU rfl ?_ |apply Aa)
  (repeat' first |refine sN rfl ?_ |((first|refine sA rfl ?_ ?_|refine s4 rfl ‹_› rfl ?_ ?_);first|exact tI|omega|simp only[oZ] at *;omega) |refine s2 rfl λ_ c=>?_ |refine sP rfl (h) rfl ?_|refine sP rfl (M) rfl ?_|refine sP rfl (L) rfl ?_|(refine Af rfl ?_;refine gA rfl ?_;first|refine gS (λ_ _=>AB rfl rfl (by rfl) (by rfl)) ?_) |refine s3 rfl ?_ ?_<;>rintro rfl |refine aU rfl ?_ |apply Aa|(refine aC rfl ?_ ?_<;>rintro⟨⟩));all_goals try contradiction
  all_goals first
   | (exfalso;first|omega|simp only[oZ] at *;omega;done)
   | (exfalso;grind;done)
   | (subst_vars;exact aR ⟨_,rfl,rfl⟩)
end Go.Am
