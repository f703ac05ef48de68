/-
  Small sets as integers.
-/
import Derived.Test.YtdipaikojjjebaaGreatDoorPart15
import Derived.Lib.TrailingZeros
import Derived.Test.YtdipaikojjjebaaGreatDoorPart13
set_option linter.all false
namespace Go.Am
open Go
def BH:List Int->Nat
 | []=>0
 | x::l=>2 ^ x.toNat+BH l
theorem OC:∀(l m:List Int),BH (l++m)=BH l+BH m
 | [],m=>by simp[BH]
 | x::l,m=>by simp[BH,OC l m,l8]
theorem KD:∀ {l:List Int} {t:Nat},l.Pairwise (· < ·)->(∀x∈l,0<=x/\x<t)->BH l<2 ^ t
 | [],t,_,_=>nt t
 | x :: l,t,f,h=>by
  have key:∀(l:List Int) (a t:Nat),(∀x∈l,(a:Int)<=x/\x<t)->l.Pairwise (· < ·)->a<=t->2 ^ a+BH l<=2 ^ t:=by
   intro l
   induction l with
   | nil=>intro a t _ _ c;simpa[BH]using mc (by omega) c
   | cons y l i=>
    intro a t h f c;have d:=h y (by simp);have b:=mg.1 f;have g:=i (y.toNat+1) t (λx e=>by have:=b.1 x e;have:=h x (by simp[e]);omega) b.2 (by omega);have j:2 ^ a<=2 ^ y.toNat:=mc (by omega) (by omega);rw[nP]at g;simp only[BH];omega
  have e:=h x (by simp);have b:=mg.1 f;have g:=key l (x.toNat+1) t (λy d=>by have:=b.1 y d;have:=h y (by simp[d]);omega) b.2 (by omega);rw[nP]at g;simp only[BH];have:=nt x.toNat;omega
theorem dn{l:List Int}{t:Nat}(b:l.Pairwise (· < ·))(h:∀x∈l,0<=x/\x<t):BH l ||| 2 ^ t=BH (l++[(t:Int)]):=by
 have c:=KD b h;rw[OC];have a:=Nat.two_pow_add_eq_or_of_lt c 1;simp only[pz]at a;rw[Nat.or_comm,<-a];simp[BH];omega
theorem RQ:∀(k m:Nat),(2 ^ k*(2*m+1)) &&& (2 ^ k*(2*m+1)-1)=2 ^ k*(2*m)
 | 0, m=>by
  apply m7;intro i
  cases i with
  | zero=>simp
  | succ i=>
   simp only[Nat.pow_zero,Nat.one_mul,Nat.add_sub_cancel]
   have c:(2*m+1) / 2=m:=by omega
   have b:2*m / 2=m:=by omega
   rw[oQ,mV,mV,c,b];simp
 | k+1,m=>by
  have d:=RQ k m;have e:0<2 ^ k*(2*m+1):=Nat.mul_pos (nt k) (by omega)
  have h:2 ^ (k+1)*(2*m+1)=2*(2 ^ k*(2*m+1)):=by rw[nP,n7 (2 ^ k) 2,Nat.mul_assoc]
  have g:2 ^ (k+1)*(2*m)=2*(2 ^ k*(2*m)):=by rw[nP,n7 (2 ^ k) 2,Nat.mul_assoc]
  rw[h,g,<-d];generalize 2 ^ k*(2*m+1)=a at e;apply m7;intro i
  cases i with
  | zero=>simp
  | succ i=>
   have c:2*a / 2=a:=by omega
   have b:(2*a-1) / 2=a-1:=by omega
   have f:2*(a &&& (a-1)) / 2=a &&& (a-1):=by omega
   rw[oQ,mV,mV,mV,c,b,f,oQ]
theorem OD:∀ {l:List Int} {k:Nat},l.Pairwise (· < ·)->(∀x∈l,(k:Int)<x)->∃m,BH l=2 ^ k*(2*m)
 | [],k,_,_=>⟨0,by simp[BH]⟩
 | x :: l,k,c,h=>by
  have a:=mg.1 c;have f:=h x (by simp)
  obtain⟨m,d⟩:=OD (l:=l) (k:=k) a.2 λy b=>by have:=a.1 y b;omega
  refine⟨2 ^ (x.toNat-k-1)+m,?_⟩
  have e:x.toNat=k+(1+(x.toNat-k-1)):=by omega
  have:2 ^ x.toNat=2 ^ k*(2*2 ^ (x.toNat-k-1)):=by
   conv=>lhs;rw[e,Nat.pow_add,Nat.pow_add]
  simp only[BH,d,this,<-Nat.mul_add]
theorem LO{x:Int}{l:List Int}(d:(x::l).Pairwise (· < ·))(e:0<=x):∃m,BH (x::l)=2 ^ x.toNat*(2*m+1)/\BH l=2 ^ x.toNat*(2*m):=by
 have a:=mg.1 d
 obtain⟨m,b⟩:=OD (l:=l) (k:=x.toNat) a.2 λy c=>by have:=a.1 y c;omega
 exact⟨m,by simp only[BH,b];rw[Nat.mul_add];omega,b⟩
theorem XO{x:Int}{l:List Int}(a:(x::l).Pairwise (· < ·))(d:0<=x):BH (x::l) &&& (BH (x::l)-1)=BH l:=by
 obtain⟨m,c,b⟩:=LO a d;rw[c,b,RQ]
theorem Ip{x:Int}{l:List Int}:0<BH (x::l):=by
 simp only[BH];have:=nt x.toNat;omega
theorem Tb{x:Int}{l:List Int}(d:(x::l).Pairwise (· < ·))(f:0<=x)(a:BH (x::l)<2 ^ 64):Lib.ctz 64 (BH (x::l))=x.toNat:=by
 obtain⟨m,c,_⟩:=LO d f;have e:=Lib.lowest_bit 64 _ (by have:=Ip (x:=x) (l:=l);omega) a;have b:=Lib.and_neg 64 x.toNat m (by rw[<-c];exact a);rw[<-c,e.1]at b;exact(Nat.pow_right_inj (by omega)).1 b
end Go.Am
namespace Go.Am
open Go Go.Proofs
set_option maxHeartbeats 1000000
set_option maxRecDepth 4000
attribute [local irreducible] A1 Cr Lex Bs Aj Spec
variable {TB:BA}
theorem dw(i:Nat)(h:i<64):Bv[i]?=some (.int .u8 (Lib.deBruijn64tab.getD i 0:Nat)):=by
 have e:Bv=Lib.deBruijn64tab.map λn=>Value.int .u8 (n:Nat):=rfl;have a:Lib.deBruijn64tab.length=64:=rfl;rw[e,io,d5 (by omega)];simp[List.getD,a,h]
theorem fU(x a:Nat)(j:x<18446744073709551616)(d:x≠0)(b:x &&& (18446744073709551616-x)=a) :
 (IntKind.u64.wrap (I7 .u64 (x:Int) (IntKind.u64.wrap (-(x:Int)))*285870213051353865)).fdiv (2 ^ (min (58:Int).toNat IntKind.u64.bits))=((a*285870213051353865%18446744073709551616 / 288230376151711744:Nat):Int):=by
 have c:∀n:Int,IntKind.u64.wrap n=n%18446744073709551616:=λn=>by simp[IntKind.wrap,IntKind.signed,IntKind.bits]
 have i:IntKind.u64.wrap (-(x:Int))=((18446744073709551616-x:Nat):Int):=by rw[c];omega
 have h:I7 .u64 (x:Int) ((18446744073709551616-x:Nat):Int)=(a:Int):=by
  unfold I7;have e:IntKind.u64.bits=64:=rfl;rw[e]
  have f:(BitVec.ofInt 64 (x:Int) &&& BitVec.ofInt 64 ((18446744073709551616-x:Nat):Int)).toNat=a:=by
   simp only[BitVec.toNat_and,BitVec.ofInt_natCast,BitVec.toNat_ofNat];rw[lZ (by omega),lZ (by omega),b]
  rw[f,c]
  have k:a<=x:=by rw[<-b];exact oR
  omega
 rw[i,h,c];have g:(2:Int) ^ (min (58:Int).toNat IntKind.u64.bits)=288230376151711744:=rfl;rw[g,Int.fdiv_eq_ediv_of_nonneg _ (by omega)];omega
theorem dE[CG TB](x:Nat)(d:x≠0)(f:x<18446744073709551616):Pure Tryz.prog TB 205 [eI .u64 x] (eI .i64 (Lib.ctz 64 x)):=by
 obtain⟨b,hk⟩:=Lib.lowest_bit 64 x d f;obtain⟨hi,a⟩:=Lib.deBruijn64_at _ hk;have c:=fU x _ f d b;have e:=dw _ hi;rw[a]at e;generalize Lib.ctz 64 x=cz at *;generalize 2 ^ cz*285870213051353865%18446744073709551616 / 288230376151711744=idx at *;refine eN Tryz.func205 rfl (by kernel_rfl) rfl ?_;intro Γ g;(repeat' first|(refine sA rfl ?_ ?_;first|exact tI|omega)|refine s2 rfl λ_ h=>?_|(refine Ag rfl ?_;refine gA rfl ?_;first|refine gS (λ_ _=>SL rfl rfl) ?_|refine gS (λ_ _=>dR rfl rfl rfl) ?_)|refine aU rfl ?_|apply Aa|(refine aC rfl ?_ ?_<;>rintro⟨⟩)|apply aK|apply aE|apply aB|refine aR ⟨_,rfl,?_⟩)
 ·exfalso;(simp only[oZ] at *;omega)
 rw[c];clear c b a;(repeat' first|(refine sA rfl ?_ ?_;first|exact tI|omega)|(refine Ag rfl ?_;refine gA rfl ?_;first|refine gS (λ_ _=>ZT (v:=.int .u8 ((cz:Nat):Int)) rfl (by omega) (by omega) (by rw[i7];exact e)) ?_)|apply Aa|(refine aC rfl ?_ ?_<;>rintro⟨⟩)|apply aK|apply aE|apply aB|refine aR ⟨_,rfl,?_⟩);rfl
theorem dU[CG TB](x:Nat)(a:x≠0)(c:x<18446744073709551616):Pure Tryz.prog TB 153 [eI .u64 x] (eI .i64 (Lib.ctz 64 x)):=by
 refine eN Tryz.func153 rfl (by kernel_rfl) rfl ?_;intro Γ b;(repeat' first|refine tA rfl ?_|refine sP rfl (dE x a c) rfl ?_|refine aU rfl ?_|apply Aa|(refine aC rfl ?_ ?_<;>rintro⟨⟩)|apply aK|apply aE|apply aB|refine aR ⟨_,rfl,?_⟩)
 all_goals rfl
theorem PC{x:Int}{l:List Int}(b:(x::l).Pairwise (· < ·))(g:0<=x)(c:BH (x::l)<2 ^ 62):I7 .i64 (BH (x::l):Nat) ((BH (x::l):Nat)-1)=(BH l:Nat):=by
 have f:=XO b g;have j:=Ip (x:=x) (l:=l);have i:BH l<=BH (x::l):=Nat.le_add_left _ _;generalize BH (x::l)=a at *
 have h:((a:Nat):Int)-1=((a-1:Nat):Int):=by omega
 rw[h];unfold I7;have e:IntKind.i64.bits=64:=rfl;rw[e]
 have d:(BitVec.ofInt 64 (a:Int) &&& BitVec.ofInt 64 ((a-1:Nat):Int)).toNat=BH l:=by
  simp only[BitVec.toNat_and,BitVec.ofInt_natCast,BitVec.toNat_ofNat];rw[lZ (by omega),lZ (by omega),f]
 rw[d];exact IntWalk.i64_in _ (by omega)
theorem N5[CG TB](l:List Int)(v:l.Pairwise (· < ·))(hb:∀x∈l,0<=x/\x<60):Pure Tryz.prog TB 94 [eI .i64 (BH l:Nat)] (AX l):=by
 have w:l.length<=60:=by
  cases l with
  | nil=>simp
  | cons a m=>
   have A:=NP m a 60 v λx c=>(hb x c).2;have z:=hb a (by simp);simp;omega
 refine eN Tryz.func94 rfl (by kernel_rfl) rfl ?_;intro Γ b;(repeat first|refine aU rfl ?_);(refine Ag rfl ?_;refine CO (λ_ _=>Ew rfl) rfl ?_);(repeat first|refine aU rfl ?_|apply Aa);(refine pW rfl ?_ rfl (by rfl);refine Gl 1 3 ?_);(repeat first|refine aU rfl ?_|apply Aa);apply aB;refine Aj.BC (α:={k:Nat // k<=l.length}) (λ⟨k,hk⟩=>[(0,eI .i64 (BH (l.drop k):Nat)),(3,.o (.arr 0 1 0 k))]) (λ⟨k,hk⟩=>[(0,.cells 3 1 ((l.take k).map A8))]) 1 (λ⟨k,hk⟩=>l.length-k) (⟨0,by omega⟩) [0] (GX b rfl rfl) (by (simp[cX,zC,b])) ?_;rintro⟨k,hk⟩;(try dsimp only);(repeat first|refine tM rfl ?_|refine s2 rfl λ_ p=>?_|refine aU rfl ?_|apply Aa);(refine aC rfl ?_ ?_<;>rintro⟨⟩)
 ·have s:k<l.length:=by
   rcases l5 k l.length with h|h
   ·exact h
   ·rw[mN h]at p;simp[BH]at p
  obtain⟨x,c⟩:=get_some s;have j:=BE c;have i:=hb x (co c)
  have f:(x::l.drop (k+1)).Pairwise (· < ·):=by rw[<-j];exact v.sublist (List.drop_sublist _ _)
  have q:BH (x::l.drop (k+1))<2 ^ 60:=by
   refine KD f λy t=>?_;rw[<-j]at t;exact hb y (mY t)
  have e:=Ip (x:=x) (l:=l.drop (k+1));have n:=Tb f i.1 (by omega);have g:=PC f i.1 (by omega);rw[<-j]at q e n g;have d:=dU (TB:=TB) (BH (l.drop k)) (by omega) (by omega);rw[n]at d
  have ex:((x.toNat:Nat):Int)=x:=by omega
  rw[ex]at d;apply aK;refine aS (aB ?_);(repeat first|(refine sA rfl ?_ ?_;first|exact tI|omega)|refine sP rfl (d) rfl ?_|refine aU rfl ?_);(refine pW rfl ?_ rfl (by rfl);refine Al rfl rfl rfl (by first|(simp;done)|(simp;(omega))) rfl (by intro r u;simp at u;subst u;rfl) (by rfl) (ce rfl) (by simp;omega) ?_);(repeat first|(refine sX rfl ?_ ?_;first|exact tI|omega)|(refine Ag rfl ?_;refine gA rfl ?_;first|refine gS (λ_ _=>dQ rfl rfl g) ?_)|refine aU rfl ?_|apply Aa);refine⟨⟨k+1,by omega⟩,by dsimp only;(omega),[1],?_⟩;simp[cX,zC,b,g,gt,c]
 ·obtain rfl:k=l.length:=by
   rcases l5 k l.length with h|h
   ·exfalso
    obtain⟨x,c⟩:=get_some h;have j:=BE c;have e:=Ip (x:=x) (l:=l.drop (k+1));rw[<-j]at e;(simp only[oZ] at *;omega)
   ·omega
  rw[jp];apply aE;(repeat first|refine tX rfl ?_|refine aU rfl ?_|apply Aa);refine Aj.freeze [0] [(2,AX l)] ⟨⟨_,rfl,.o (.full (by simp) rfl (by simp[d7]) (by simp))⟩,trivial⟩ ?_;refine aR ⟨_,rfl,rfl⟩
theorem Rs(r:Nat->Nat):∀ds:List D,C.Ch r (ds.map .d)=ds.map .d
 | []=>rfl
 | d::l=>by simp[C.Ch,C.A3,Rs r l]
def Hg(es:List DM)(f l:Nat):List Int:=(es.filter λe:DM=>decide (e.f=(f:Int)) && decide (e.l=(l:Int))).map (·.t)
def CS(es:List DM):List D:=(List.range 96).map λi=>iD (BH (Hg es (i / 6) (i%6)):Nat)
theorem IG{es:List DM}{i:Nat}(h:i<96):(CS es)[i]?=some (iD (BH (Hg es (i / 6) (i%6)):Nat)):=by simp[CS,h]
theorem WN(es:List DM)(e:DM)(f l:Nat):Hg (es++[e]) f l=Hg es f l++if e.f=(f:Int)/\e.l=(l:Int) then [e.t] else []:=by
 simp only[Hg,mO,mE,oy,List.filter_nil];grind
theorem Hw{r:List C}{j:Nat}{c:C}(h:j<r.length):Ae r j [c]=r.set j c:=by
 unfold Ae;rw[List.set_eq_take_append_cons_drop,if_pos h];simp
theorem Ul{es:List DM}{e:DM}{v:Int}(k:0<=e.f/\e.f<16)(j:0<=e.l/\e.l<6)(b:v=(BH (Hg (es++[e]) e.f.toNat e.l.toNat):Nat)) :
 Ae ((CS es).map .d) (0+e.f.toNat*6+e.l.toNat*1) (eC (eI .i64 v))=(CS (es++[e])).map .d:=by
 have h:0+e.f.toNat*6+e.l.toNat*1<96:=by omega
 have:eC (eI .i64 v)=[C.d (iD v)]:=rfl;rw[this,Hw (by simp[CS];omega),<-mM];congr 1;apply nf;intro i;by_cases hi:i<96
 ·rw [IG hi]
  by_cases a:0+e.f.toNat*6+e.l.toNat*1=i
  ·subst a
   rw[mj (by simp[CS];omega),b]
   have g:(0+e.f.toNat*6+e.l.toNat*1) / 6=e.f.toNat:=by omega
   have c:(0+e.f.toNat*6+e.l.toNat*1)%6=e.l.toNat:=by omega
   rw[g,c]
  ·rw[ml a,IG hi,WN,if_neg (by omega),mq]
 ·rw[lV (by simp[CS];omega),lV (by simp[CS];omega)]
theorem Ds{s:Sys}(h:Ay s=true)(k f l:Nat):(Hg (s.es.take k) f l).Pairwise (· < ·):=by
 unfold Hg;rw[mR];refine List.Pairwise.imp_of_mem (λ{a b} ha hb c=>?_) (((KF h).sublist (List.take_sublist k s.es)).filter _);have e:=(lw.1 ha).2;have d:=(lw.1 hb).2;unfold I0 at c;grind
theorem LU{s:Sys}(h:Ay s=true){k f l:Nat}{x:Int}(a:x∈Hg (s.es.take k) f l):0<=x/\x<16:=by
 unfold Hg at a;obtain⟨e,b,rfl⟩:=d8.1 a;have c:=BT h (ma (lw.1 b).1);have d:=AE h;unfold CI at c;grind
theorem XR{s:Sys}{f l:Nat}(hb:AT s.al l=true):Hg s.es f l=BN s f l:=by
 unfold Hg BN;rw[if_pos (by simpa using hb)]
theorem cu{a t:Nat}(ha:a<2 ^ 16)(ht:t<16):Fp .i64 (a:Nat) ((2 ^ t:Nat):Int)=((a ||| 2 ^ t:Nat):Int):=by
 have b:2 ^ t<2 ^ 16:=Nat.pow_lt_pow_right (by omega) ht;have d:a ||| 2 ^ t<2 ^ 16:=nM ha b;unfold Fp
 have c:(BitVec.ofInt IntKind.i64.bits (a:Int) ||| BitVec.ofInt IntKind.i64.bits ((2 ^ t:Nat):Int)).toNat=a ||| 2 ^ t:=by
  have e:IntKind.i64.bits=64:=rfl;rw[e];simp only[BitVec.toNat_or,BitVec.ofInt_natCast,BitVec.toNat_ofNat];rw[lZ (by omega),lZ (by omega)]
 rw[c];exact IntWalk.i64_in _ (by omega)
theorem Wy{t:Int}(d:0<=t)(c:t<16):IntKind.i64.wrap (1*2 ^ (min t.toNat IntKind.i64.bits))=((2 ^ t.toNat:Nat):Int):=by
 have e:min t.toNat IntKind.i64.bits=t.toNat:=by
  have:IntKind.i64.bits=64:=rfl;omega
 rw[e,o3];have b:2 ^ t.toNat<2 ^ 16:=Nat.pow_lt_pow_right (by omega) (by omega)
 have a:(2:Int) ^ t.toNat=((2 ^ t.toNat:Nat):Int):=by push_cast;rfl
 rw[a];generalize 2 ^ t.toNat=p at *;exact IntWalk.i64_in _ (by omega)
theorem Hp(s:Sys)(h:Ay s=true):Pure Tryz.prog TB 91 [Bi s] (.o (.ip (CS s.es))):=by
 refine eN Tryz.func91 rfl (by kernel_rfl) rfl ?_;intro Γ i;(repeat first|refine sN rfl ?_|refine tA rfl ?_|refine aU rfl ?_|apply Aa);refine Aj.bound 8 rfl λG=>?_;have R:=G (s.es.map Dk) .refl;apply aB;refine Aj.BC (α:={k:Nat // k<=s.es.length}) (λ⟨k,hk⟩=>[(3,.o (.ptr 0 96 0 0)),(8,gZ s.es),(9,eI .i64 s.es.length),(10,eI .i64 k)]) (λ⟨k,hk⟩=>[(0,.cells 188 96 [(CS (s.es.take k)).map .d])]) 1 (λ⟨k,hk⟩=>s.es.length-k) (⟨0,by omega⟩) [0] (GX i rfl rfl) (by (repeat' first|exact tI|rfl|refine And.intro ?_ ?_)) ?_;rintro⟨k,hk⟩;(try dsimp only);(repeat first|refine s2 rfl λ_ P=>?_|refine aU rfl ?_|apply Aa);(refine aC rfl ?_ ?_<;>rintro⟨⟩)
 ·obtain⟨e,F⟩:=get_some (l:=s.es) (k:=k) (by (simp only[oZ] at *;omega))
  have L:=get_map (g:=Dk) F;have c:=BT h (co F);have Q:=AE h;unfold CI at c;simp only[d4,decide_eq_true_eq]at c;obtain⟨⟨B,K,v,J,A,z⟩,H⟩:=c
  have p:0+e.f.toNat*6+e.l.toNat*1+1<=96:=by omega
  have j:=Wy v (by omega)
  have b:s.es.take (k+1)=s.es.take k++[e]:=by rw[gt,F];rfl
  have r:Hg (s.es.take (k+1)) e.f.toNat e.l.toNat=Hg (s.es.take k) e.f.toNat e.l.toNat++[e.t]:=by
   rw[b,WN,if_pos (by omega)]
  have q:∀x∈Hg (s.es.take k) e.f.toNat e.l.toNat,0<=x/\x<e.t.toNat:=by
   intro x u;have I:=Ds h (k+1) e.f.toNat e.l.toNat;rw[r,m8]at I;have T:=I.2.2 x u e.t (by simp);have S:=LU h u;omega
  have m:=dn (Ds h k e.f.toNat e.l.toNat) q;have w:=KD (t:=16) (Ds h k e.f.toNat e.l.toNat) λx u=>LU h u;have n:=cu w (t:=e.t.toNat) (by omega)
  have et:((e.t.toNat:Nat):Int)=e.t:=by omega
  rw[m,et,<-r,b]at n;have a:=Ul (es:=s.es.take k) (e:=e) ⟨B,by omega⟩ ⟨A,z⟩ rfl;rw[<-n]at a
  have y:((CS (s.es.take k)).map C.d)[0+e.f.toNat*6+e.l.toNat*1]?=some (.d (iD (BH (Hg (s.es.take k) e.f.toNat e.l.toNat):Nat))):=by
   have N:(0+e.f.toNat*6+e.l.toNat*1) / 6=e.f.toNat:=by omega
   have M:(0+e.f.toNat*6+e.l.toNat*1)%6=e.l.toNat:=by omega
   rw[io,IG (by omega),N,M];rfl
  apply aK;refine aS (aB ?_);(repeat first|refine tA rfl ?_|(refine s4 rfl ‹_› rfl ?_ ?_;omega)|refine aU rfl ?_|apply Aa);refine rG (Hf [16]) (by kernel_rfl) ?_;(repeat first|(refine sA rfl ?_ ?_;first|exact tI|omega)|(refine Ag rfl ?_;refine gA rfl ?_;first|refine gS (λ_ _=>ab rfl rfl (by omega) j) ?_|refine gQ (Ro rfl rfl rfl y) (by rfl) ?_));(refine Ag rfl ?_;refine HJ ?_ rfl (by rfl);refine Et rfl rfl rfl rfl (rfl) rfl (p) ?_);(repeat first|(refine sA rfl ?_ ?_;first|exact tI|simp only[oZ] at *;omega)|refine aU rfl ?_|apply Aa);refine⟨⟨k+1,by (simp only[oZ] at *;omega)⟩,by dsimp only;((simp only[oZ] at *;omega)),[0],?_⟩;rw[a,<-b];simp[cX,zC,i,List.set_cons_zero,Rs]
 ·obtain rfl:k=s.es.length:=by (simp only[oZ] at *;omega)
  apply aE;rw[jp];(repeat first|refine tM rfl ?_|refine aU rfl ?_|apply Aa);refine Aj.freeze [0] [(2,.o (.ip (CS s.es)))] ⟨⟨_,rfl,.o (.ptr (by simp) rfl rfl rfl)⟩,trivial⟩ ?_;refine aR ⟨_,rfl,rfl⟩
def Ou(h:Nat->Int):List C:=(List.range 6).map λl=>.d (iD (h l))
def Uy(h:Nat->Int):List D:=(List.range 6).map λl=>iD (h l)
theorem aG(h:Nat->Int):Ou h=(Uy h).map .d:=by simp[Ou,Uy]
def BF{α:Type}(n:Nat)(g:Nat->α):List α:=(List.range n).map g
theorem Dz{α:Type}{n q:Nat}{g:Nat->α}(h:q<n):(BF n g)[q]?=some (g q):=by simp[BF,h]
theorem LM{α:Type}{n q:Nat}{g:Nat->α}{x:α}:(BF n g).set q x=BF n λi=>if i=q then x else g i:=by
 apply nf;intro i;by_cases hi:i<n
 ·rw[Dz hi]
  by_cases a:q=i
  ·subst a;rw[mj (by simp[BF,hi])];simp
  ·rw[ml a,Dz hi,if_neg (Ne.symm a)]
 ·rw[lV (by simp[BF];omega),lV (by simp[BF];omega)]
theorem CZ{α:Type}{n:Nat}{g g':Nat->α}(h:∀i,i<n->g i=g' i):BF n g=BF n g':=by
 unfold BF;exact nh λi hi=>h i (lS.1 hi)
theorem aH{h:Nat->Int}{l:Nat}{v:Int}(b:l<6):Ae (Ou h) (0+l*1) (eC (eI .i64 v))=Ou λx=>if x=l then v else h x:=by
 have e:eC (eI .i64 v)=[C.d (iD v)]:=rfl;rw[e,Hw (by simp[Ou];omega)];have:=LM (n:=6) (q:=l) (g:=λl=>C.d (iD (h l))) (x:=C.d (iD v))
 have a:0+l*1=l:=by omega
 rw[a];refine Eq.trans this (CZ λi _=>?_);by_cases e:i=l<;>simp[e]
theorem Jz{h a:Nat->Int}(b:∀l,l<6->h l=a l):Ou h=Ou a:=CZ λi hi=>by rw[b i hi]
theorem Jf(s:Int):∀(n k:Nat),k<=n->AK s k <+: AK s n
  | 0, k, h => by have:k=0:=by omega
                  subst this;exact oz _
  | n + 1,k,h=>by
    rcases l5 k (n+1) with a|a
    · rw[Dn]
      exact(Jf s n k (by omega)).trans (o5 _ _)
    · have:k=n+1:=by omega
      subst this;exact oz _
theorem Jg{s:Int}{k n:Nat}{l:Int}(h:(AK s n)[k]?=some l):(AK s l.toNat).length=k:=by
 have g:=Ai (co h)
 have c:(AK s (l.toNat+1))[(AK s l.toNat).length]?=some l:=by
  rw[Dn,if_pos g.2.2,f9 (i9 _)];simp;omega
 have f:(AK s n)[(AK s l.toNat).length]?=some l:=by
  obtain⟨t,ht⟩:=Jf s n (l.toNat+1) (by omega);rw[<-ht,d9 (am.1 c).1];exact c
 have b:=Es s n;rw[lN]at b;obtain⟨e,j⟩:=am.1 h;obtain⟨d,i⟩:=am.1 f
 rcases ol (AK s l.toNat).length k with a|a|a
 ·have:=b _ _ d e a;omega
 ·exact a
 ·have:=b _ _ e d a;omega
theorem CK{s:Int}{n l:Nat}:(l:Int)∈AK s n↔l<n/\AT s l=true:=by
 unfold AK;simp only[d8,lw,lS];constructor
 ·rintro⟨a,ha,e⟩
  have:a=l:=by have e:((a:Nat):Int)=l:=e;omega
  subst this;exact ha
 ·intro h;exact⟨l,h,rfl⟩
def OZ(n:Nat)(H:Nat->Nat->Int):List (List C):=BF n λi=>Ou (H i)
theorem IU(r:Nat->Nat)(n:Nat)(H:Nat->Nat->Int):(OZ n H).map (C.Ch r)=OZ n H:=by
 unfold OZ BF;rw[mu]
 exact nh λi _=>by simp only[d7,aG,Rs]
theorem bm(n:Nat):OZ n (λ_ _=>0)=List.replicate n [C.d (D.v (Value.int IntKind.i64 0)),C.d (D.v (Value.int IntKind.i64 0)),C.d (D.v (Value.int IntKind.i64 0)),C.d (D.v (Value.int IntKind.i64 0)),C.d (D.v (Value.int IntKind.i64 0)),C.d (D.v (Value.int IntKind.i64 0))]:=by
 unfold OZ BF;rw[List.map_const'];simp;exact .inr rfl
theorem WK{n q:Nat}{H:Nat->Nat->Int}(h:q<n):(OZ n H)[0+((q:Nat):Int).toNat]?=some (Ou (H q)):=by
 rw[lH,i7];exact Dz (g:=λi=>Ou (H i)) h
theorem WL{n q l:Nat}{v:Int}{H:Nat->Nat->Int}(a:l<6):(OZ n H).set (0+((q:Nat):Int).toNat) (Ae (Ou (H q)) (0+((l:Nat):Int).toNat*1) (eC (eI .i64 v)))=OZ n λi x=>if i=q/\x=l then v else H i x:=by
 rw[lH,i7,i7,aH a];unfold OZ;rw[LM];refine CZ λi _=>?_;by_cases e:i=q
 ·subst e;rw[if_pos rfl];exact Jz λl _=>by simp
 ·rw[if_neg e];exact Jz λl _=>by simp[e]
theorem Ha{n:Nat}{H H':Nat->Nat->Int}(h:∀i,i<n->∀l,l<6->H i l=H' i l):OZ n H=OZ n H':=CZ λi hi=>Jz λl a=>h i hi l a
theorem dy(n:Nat)(H:Nat->Nat->Int):(OZ n H).length=n:=by simp[OZ,BF]
def FY(a:A5):List (List D):=BF a.nx.length λq=>Uy λl=>CN a q l
theorem jg(a:A5):OZ a.nx.length (λi l=>CN a i l)=(FY a).map λr=>r.map .d:=by
 unfold OZ FY BF;rw[mu]
 exact nh λi _=>by simp only[d7,aG]
def dW(a:A5):Prop:=a.nx.length<=64/\∀q,q<a.nx.length->∃row:List Int,a.nx[q]?=some row/\row.length=(Ac a.al).length/\∀(k:Nat) y,row[k]?=some y->0<=y/\y<a.nx.length
theorem bQ{a:A5}(h:AJ a=true):dW a:=⟨by have:=AS h;omega,λq b=>Iy h b⟩
theorem Tn(a:A5)(h:dW a):Pure Tryz.prog TB 62 [Bp a] (.o (.d (.l (FY a)))):=by
 have R:=h.1;have N:(Ac a.al).length<=6:=AQ a.al 6;refine eN Tryz.func62 rfl (by kernel_rfl) rfl ?_;intro Γ b;(repeat first|refine aU rfl ?_);(refine Ag rfl ?_;refine CO (λ_ _=>Ec rfl rfl rfl) rfl ?_);(refine Ag rfl ?_;refine CO (λ_ _=>Ew rfl) rfl ?_);(repeat first|refine sN rfl ?_|refine tM rfl ?_|refine aU rfl ?_|apply Aa);(refine pW rfl ?_ rfl (by rfl);refine Un rfl rfl (by rfl) (by rfl) (ce rfl) (by omega) (by omega) (by omega) ?_);(repeat first|refine sN rfl ?_|refine tM rfl ?_|refine sP rfl (Cj a.al) rfl ?_|refine aU rfl ?_|apply Aa);apply aB;refine Aj.BC (α:={q:Nat // q<=a.nx.length}) (λ⟨q,w⟩=>[(1,.o (.ip (AU a))),(3,.o (.arr 0 6 0 a.nx.length)),(4,AX (Ac a.al)),(18,NA a.nx),(19,eI .i64 a.nx.length),(20,eI .i64 q)]) (λ⟨q,w⟩=>[(0,.cells 94 6 (OZ a.nx.length λi l=>if i<q then CN a i l else 0))]) 1 (λ⟨q,w⟩=>a.nx.length-q) (⟨0,by omega⟩) [0] (GX b rfl rfl) (by (simp[cX,zC,b,IU,bm])) ?_;rintro⟨q,w⟩;(try dsimp only);(repeat first|refine s2 rfl λ_ u=>?_|refine aU rfl ?_|apply Aa);(refine aC rfl ?_ ?_<;>rintro⟨⟩)
 ·have j : q<a.nx.length:=by (simp only[oZ] at *;omega)
  obtain⟨row,I,L,K⟩:=h.2 q j;have M:=get_map (g:=Ib) I;apply aK;refine aS (aB ?_);(repeat first|refine tM rfl ?_|(refine s4 rfl ‹_› rfl ?_ ?_;omega)|refine aU rfl ?_|apply Aa);apply aB;refine Aj.BC (α:={m:Nat // m<=6}) (λ⟨m,A⟩=>[(1,.o (.ip (AU a))),(3,.o (.arr 0 6 0 a.nx.length)),(4,AX (Ac a.al)),(18,NA a.nx),(19,eI .i64 a.nx.length),(20,eI .i64 q),(5,eI .i64 q),(6,AX row),(25,eI .i64 m)]) (λ⟨m,A⟩=>[(0,.cells 94 6 (OZ a.nx.length λi l=>if i<q then CN a i l else if i=q/\l<m then q else 0))]) 1 (λ⟨m,A⟩=>6-m) (⟨0,by omega⟩) [0] (GX b rfl rfl) (by (simp[cX,zC,b,IU])) ?_;rintro⟨m,A⟩;(try dsimp only);(repeat first|refine s2 rfl λ_ u=>?_|refine aU rfl ?_|apply Aa);(refine aC rfl ?_ ?_<;>rintro⟨⟩)
  ·have r:m<6:=by (simp only[oZ] at *;omega)
   have p:0+((m:Nat):Int).toNat*1+1<=6:=by omega
   have hg:=WK (H:=λi l=>if i<q then CN a i l else if i=q/\l<m then q else 0) j;have hs:=WL (n:=a.nx.length) (q:=q) (v:=q) (H:=λi l=>if i<q then CN a i l else if i=q/\l<m then q else 0) r
   have t:(OZ a.nx.length λ(i x:Nat)=>if i=q/\x=m then (q:Int) else (λ(i l:Nat)=>if i<q then CN a i l else if i=q/\l<m then (q:Int) else 0) i x)=OZ a.nx.length λi l=>if i<q then CN a i l else if i=q/\l<m+1 then (q:Int) else 0:=Ha λi _ l _=>by dsimp only;grind
   apply aK;refine aS (aB ?_);(repeat first|(refine sM rfl ?_ ?_;first|exact tI|omega)|refine aU rfl ?_|apply Aa);(refine Ag rfl ?_;refine HJ ?_ rfl (by rfl);refine Et rfl rfl rfl rfl (hg) rfl (p) ?_);(repeat first|(refine sM rfl ?_ ?_;first|exact tI|omega)|refine aU rfl ?_|apply Aa);refine⟨⟨m+1,by omega⟩,by dsimp only;(omega),[0],?_⟩;rw[hs,t];simp[cX,zC,b,IU]
  ·obtain rfl:m=6:=by (simp only[oZ] at *;omega)
   have s:=Ha (n:=a.nx.length) (H:=λi l=>if i<q then CN a i l else if i=q/\l<6 then (q:Int) else 0) (H':=λi l=>if i<q then CN a i l else if i=q then (if (l:Int)∈(Ac a.al).take 0 then CN a q l else (q:Int)) else 0) λi _ l f=>by simp[f]
   rw[s];apply aE;(repeat first|refine sN rfl ?_|refine tM rfl ?_|refine aU rfl ?_|apply Aa);apply aB;refine Aj.BC (α:={k:Nat // k<=(Ac a.al).length}) (λ⟨k,hk⟩=>[(1,.o (.ip (AU a))),(3,.o (.arr 0 6 0 a.nx.length)),(4,AX (Ac a.al)),(18,NA a.nx),(19,eI .i64 a.nx.length),(20,eI .i64 q),(5,eI .i64 q),(6,AX row),(35,AX (Ac a.al)),(36,eI .i64 (Ac a.al).length),(37,eI .i64 k)]) (λ⟨k,hk⟩=>[(0,.cells 94 6 (OZ a.nx.length λi l=>if i<q then CN a i l else if i=q then (if (l:Int)∈(Ac a.al).take k then CN a q l else (q:Int)) else 0))]) 1 (λ⟨k,hk⟩=>(Ac a.al).length-k) (⟨0,by omega⟩) [0] (GX b rfl rfl) (by (simp[cX,zC,b,IU])) ?_;rintro⟨k,hk⟩;(try dsimp only);(repeat first|refine s2 rfl λ_ u=>?_|refine aU rfl ?_|apply Aa);(refine aC rfl ?_ ?_<;>rintro⟨⟩)
   ·obtain⟨l,f⟩:=get_some (l:=Ac a.al) (k:=k) (by (simp only[oZ] at *;omega))
    have P:=get_map (g:=DJ) f;have B:=Ai (co f);have z:=Jg f;obtain⟨y,G⟩:=get_some (l:=row) (k:=k) (by (simp only[oZ] at *;omega));have J:=get_map (g:=DJ) G
    obtain⟨m,rfl⟩:∃m:Nat,l=m:=⟨l.toNat,by omega⟩
    have F:CN a q m=y:=by
     unfold CN;rw[if_pos B.2.2,z];simp[List.getD,I,G]
    have r:m<6:=by omega
    have p:0+((m:Nat):Int).toNat*1+1<=6:=by omega
    have hg:=WK (H:=λi l=>if i<q then CN a i l else if i=q then (if (l:Int)∈(Ac a.al).take k then CN a q l else (q:Int)) else 0) j;have hs:=WL (n:=a.nx.length) (q:=q) (v:=y) (H:=λi l=>if i<q then CN a i l else if i=q then (if (l:Int)∈(Ac a.al).take k then CN a q l else (q:Int)) else 0) r
    have t:(OZ a.nx.length λ(i x:Nat)=>if i=q/\x=m then y else (λ(i l:Nat)=>if i<q then CN a i l else if i=q then (if (l:Int)∈(Ac a.al).take k then CN a q l else (q:Int)) else 0) i x)=OZ a.nx.length λi l=>if i<q then CN a i l else if i=q then (if (l:Int)∈(Ac a.al).take (k+1) then CN a q l else (q:Int)) else 0:=Ha λi _ l _=>by
     try dsimp only
     rw[gt,f];by_cases e:i=q
     ·subst e
      by_cases c:l=m
      ·subst c;simp[F]
      ·have Q:¬(l:Int)=(m:Int):=by omega
       simp[c,Q]
     ·simp[e]
    apply aK;refine aS (aB ?_);(repeat first|refine tM rfl ?_|(refine s4 rfl ‹_› rfl ?_ ?_;omega)|refine aU rfl ?_|apply Aa);refine rG (Hf [9]) (by kernel_rfl) ?_;(repeat first|(refine sM rfl ?_ ?_;first|exact tI|omega)|(refine s4 rfl ‹_› rfl ?_ ?_;omega));(refine Ag rfl ?_;refine HJ ?_ rfl (by rfl);refine Et rfl rfl rfl rfl (hg) rfl (p) ?_);(repeat first|(refine sM rfl ?_ ?_;first|exact tI|omega)|refine aU rfl ?_|apply Aa);refine⟨⟨k+1,by (simp only[oZ] at *;omega)⟩,by dsimp only;((simp only[oZ] at *;omega)),[0],?_⟩;rw[hs,t];simp[cX,zC,b,IU]
   ·obtain rfl:k=(Ac a.al).length:=by (simp only[oZ] at *;omega)
    have s:=Ha (n:=a.nx.length) (H:=λi l=>if i<q then CN a i l else if i=q then (if (l:Int)∈(Ac a.al).take (Ac a.al).length then CN a q l else (q:Int)) else 0) (H':=λi l=>if i<q+1 then CN a i l else 0) λi _ l f=>by
     try dsimp only
     rw[jp];by_cases e:i=q
     ·subst e
      simp only[Nat.lt_irrefl,if_false,if_true,ny];by_cases c:AT a.al l=true
      ·rw[if_pos (CK.2 ⟨f,c⟩)]
      ·rw[if_neg (λh=>c (CK.1 h).2)];unfold CN;rw[if_neg (by simpa using c)]
     ·by_cases c:i<q
      ·rw[if_pos c,if_pos (by omega)]
      ·rw[if_neg c,if_neg e,if_neg (by omega)]
    rw[s];apply aE;(repeat first|(refine sM rfl ?_ ?_;first|exact tI|omega)|refine aU rfl ?_|apply Aa);refine⟨⟨q+1,by omega⟩,by dsimp only;(omega),[0],?_⟩;simp[cX,zC,b,IU]
 ·obtain rfl:q=a.nx.length:=by (simp only[oZ] at *;omega)
  have t:=Ha (n:=a.nx.length) (H:=λi l=>if i<a.nx.length then CN a i l else 0) (H':=λi l=>CN a i l) λi hi l _=>by rw[if_pos hi]
  rw[t];apply aE;(repeat first|refine tM rfl ?_|refine aU rfl ?_|apply Aa);refine Aj.freeze [0] [(2,.o (.d (.l (FY a))))] ⟨⟨_,rfl,.o (.full (by simp) rfl (jg a) (by simp[dy]))⟩,trivial⟩ ?_;refine aR ⟨_,rfl,rfl⟩
theorem ER(a:A5)(h:AJ a=true):Pure Tryz.prog TB 62 [Bp a] (.o (.d (.l (FY a)))):=Tn a (bQ h)
abbrev QO(s:Sys):List D:=[.p (CS s.es)]
abbrev cK(s:Sys):List C:=[.d (.p (CS s.es))]
abbrev TX(l:List Sys):E:=.a [.d (OH l),.d (.l (l.map QO))]
abbrev FQ(l:List Sys):List D:=[OH l,.l (l.map QO)]
theorem Mp(l:List Sys)(h:∀s∈l,Ay s=true)(m:l.length<=3):Pure Tryz.prog TB 160 [GM l] (TX l):=by
 refine Spec.lq 2 201 2 [1] Tryz.func160 rfl (by kernel_rfl) rfl (ce rfl) ?_;intro Γ a;(repeat first|refine tM rfl ?_|refine aU rfl ?_|apply Aa);(refine pW rfl ?_ rfl (by rfl);refine GR 1 1 84 rfl rfl rfl (by rfl) (by rfl) ?_);(repeat first|refine sN rfl ?_|refine tM rfl ?_|refine aU rfl ?_|apply Aa);apply aB;refine Aj.BC (α:={k:Nat // k<=l.length}) (λ⟨k,hk⟩=>[(2,.o (.ptr 0 2 0 0)),(3,.o (.ptr 2 2 0 0)),(8,GM l),(9,eI .i64 l.length),(10,eI .i64 k)]) (λ⟨k,hk⟩=>[(0,.cells 201 2 [[.d (.l []),.d (.l [])]]),(1,.cells 84 1 ((l.take k).map cK)),(2,.cells 201 2 [[.d (OH l),.arr 1 1 0 k]])]) 3 (λ⟨k,hk⟩=>l.length-k) (⟨0,by omega⟩) [0,1,2] (GX a rfl rfl) (by (simp[cX,zC,a,List.set_cons_zero,Ae,eC])) ?_;rintro⟨k,hk⟩;(try dsimp only);(repeat first|refine s2 rfl λ_ j=>?_|refine aU rfl ?_|apply Aa);(refine aC rfl ?_ ?_<;>rintro⟨⟩)
 ·obtain⟨x,c⟩:=get_some (l:=l) (k:=k) (by (simp only[oZ] at *;omega))
  have f:=get_map (g:=Av) c;have b:=h x (co c);apply aK;refine aS (aB ?_);(repeat first|refine tA rfl ?_|(refine s4 rfl ‹_› rfl ?_ ?_;omega)|refine aU rfl ?_|apply Aa);refine rG (Hf [5,7]) (by kernel_rfl) ?_;(repeat first|refine tA rfl ?_|refine sP rfl (Hp x b) rfl ?_);(refine pW rfl ?_ rfl (by rfl);refine Al rfl rfl rfl (by first|(simp;done)|(simp;(omega))) rfl (by intro r e;simp at e;subst e;rfl) (by rfl) (ce rfl) (by simp;omega) ?_);(repeat first|(refine sX rfl ?_ ?_;first|exact tI|omega)|refine aU rfl ?_|apply Aa);refine⟨⟨k+1,by (simp only[oZ] at *;omega)⟩,by dsimp only;((simp only[oZ] at *;omega)),[0,4,2],?_⟩;simp[cX,zC,a,gt,c,Ae,eC]
 ·obtain rfl:k=l.length:=by (simp only[oZ] at *;omega)
  apply aE;(repeat first|refine tM rfl ?_|refine aU rfl ?_|apply Aa);rw[jp];refine aR ⟨⟨0,2,0,201,_,[.d (OH l),.arr 1 1 0 l.length],_,rfl,rfl,rfl,.cons .AR (.cons (.full (by simp) rfl (by simp[d7]) (by simp)) .nil),rfl⟩,?_⟩;intro id k i h
  injection h with h;injection h with h;injection h with _ h;exact h.symm
theorem Wz(l:List Sys)(h:∀s∈l,Ay s=true)(o:l.length<=3):Pure Tryz.prog TB 165 [TX l] (eI .i64 (Az (l.map (·.st)))):=by
 have a:∀z∈l.map (·.st),1<=z/\z<=16:=by
  intro z c;obtain⟨s,hs,rfl⟩:=d8.1 c;have:=AE (h s hs);omega
 refine eN Tryz.func165 rfl (by kernel_rfl) rfl ?_;intro Γ b;(repeat first|refine aU rfl ?_);(refine Ag rfl ?_;refine CO (λ_ _=>Ec rfl rfl rfl) rfl ?_);(repeat first|refine sN rfl ?_|refine tM rfl ?_|refine aU rfl ?_|apply Aa);apply aB;refine Aj.BC (α:={k:Nat // k<=l.length}) (λ⟨k,hk⟩=>[(3,eI .i64 (Az ((l.map (·.st)).take k))),(7,GM l),(8,eI .i64 l.length),(9,eI .i64 k)]) (λ⟨k,hk⟩=>[]) 0 (λ⟨k,hk⟩=>l.length-k) (⟨0,by omega⟩) [] (GX b rfl rfl) (by (simp[cX,zC,b,Az])) ?_;rintro⟨k,hk⟩;(try dsimp only);(repeat first|refine s2 rfl λ_ m=>?_|refine aU rfl ?_|apply Aa);(refine aC rfl ?_ ?_<;>rintro⟨⟩)
 ·obtain⟨x,d⟩:=get_some (l:=l) (k:=k) (by (simp only[oZ] at *;omega))
  have i:=get_map (g:=Av) d;have f:=a x.st (d8.2 ⟨x,co d,rfl⟩)
  have c:(l.map (·.st))[k]?=some x.st:=by simp[d]
  have e:=Oe c;have j:=Ij ((l.map (·.st)).take (k+1)) λz c=>a z (ma c)
  have p:(16:Int) ^ ((l.map (·.st)).take (k+1)).length<=4096:=by
   have:((l.map (·.st)).take (k+1)).length<=3:=by simp;omega
   generalize ((l.map (·.st)).take (k+1)).length=n at this
   have:n=0\/n=1\/n=2\/n=3:=by omega
   rcases this with rfl|rfl|rfl|rfl<;>decide
  rw[e]at j;apply aK;refine aS (aB ?_);(repeat first|(refine sA rfl ?_ ?_;first|exact tI|omega)|(refine s4 rfl ‹_› rfl ?_ ?_;omega)|refine aU rfl ?_|apply Aa);refine⟨⟨k+1,by (simp only[oZ] at *;omega)⟩,by dsimp only;((simp only[oZ] at *;omega)),[],?_⟩;simp[cX,zC,b,e]
 ·obtain rfl:k=l.length:=by (simp only[oZ] at *;omega)
  apply aE;(repeat first|refine tM rfl ?_|refine aU rfl ?_|apply Aa);rw[lF (by simp)];refine aR ⟨_,rfl,rfl⟩
end Go.Am
namespace Go.Am
open Go
def Ea:List Int->List (List Int)->List Int
 | _::zs,c::cs=>c.flatMap λq=>(Ea zs cs).map λr=>q*Az zs+r
 | _,_=>[0]
theorem Zp:∀ {zs:List Int} {cs:List (List Int)},Gs zs cs->∀out:List Int,Lv zs cs out=out.flatMap λo=>(Ea zs cs).map λr=>o*Az zs+r:=by
 intro zs cs h
 induction h with
 | nil=>intro out;simp[Lv,Ea,Az]
 | @cons z c zs cs _ _ _ a=>
  intro out;rw[Lv,a,List.flatMap_assoc];congr 1;funext o;rw[List.flatMap_map,Ea,List.map_flatMap];congr 1;funext q;rw[mu];congr 1;funext r;simp only[d7,Az];rw[nn,ng];omega
theorem PK{zs:List Int}{cs:List (List Int)}(h:Gs zs cs):Lv zs cs [0]=Ea zs cs:=by
 rw[Zp h];simp
theorem Gs.drop{zs:List Int}{cs:List (List Int)}(h:Gs zs cs):∀k,Gs (zs.drop k) (cs.drop k):=by
 induction h with
 | nil=>intro k;simp;exact .nil
 | cons d c b a=>
  intro k
  cases k with
  | zero=>exact .cons d c b
  | succ k=>exact a k
theorem QJ{zs:List Int}{cs:List (List Int)}(h:Gs zs cs):(∀v∈Ea zs cs,0<=v/\v<Az zs)/\((Ea zs cs).length:Int)<=Az zs:=by
 have:=VF h [0] 1 (by simp) (by omega) (by simp);rw[PK h,o3]at this;exact this
theorem Xu{zs:List Int}{cs:List (List Int)}{k:Nat}{z:Int}{c:List Int}(a:zs[k]?=some z)(b:cs[k]?=some c):Ea (zs.drop k) (cs.drop k)=c.flatMap λq=>(Ea (zs.drop (k+1)) (cs.drop (k+1))).map λr=>q*Az (zs.drop (k+1))+r:=by
 rw[BE a,BE b,Ea]
theorem Us{zs:List Int}{k:Nat}{z:Int}(a:zs[k]?=some z):Az (zs.drop k)=z*Az (zs.drop (k+1)):=by
 rw[BE a,Az]
theorem Sb:∀ {zs:List Int} {k:Nat} {z:Int} (n:Int),zs[k]?=some z->(Da zs n)[k]?=some (n / Az (zs.drop (k+1))%z)
 | [],k,z,n,h=>by simp at h
 | a::zs,0,z,n,h=>by simp at h;subst h;simp[Da]
 | a::zs,k+1,z,n,h=>by
  rw[Da,oe,List.drop_succ_cons];exact Sb n (by simpa using h)
theorem LF:∀(zs ws:List Int),Az (zs++ws)=Az zs*Az ws
 | [],ws=>by simp[Az]
 | z::zs,ws=>by simp[Az,LF zs ws,ng]
theorem Nu:∀(zs ws:List Int) (n:Int),(∀w∈ws,0<w)->Da (zs++ws) n=Da zs (n / Az ws)++Da ws n
 | [],ws,n,_=>rfl
 | z::zs,ws,n,h=>by
  have a:=PU h;simp only[mK,Da,Nu zs ws n h,LF];rw[n8 (Az zs),og (by omega)]
def Xc(l:List Sys)(node letter:Int):List (List Int):=l.zipWith (λs q=>BN s q letter) (Da (l.map (·.st)) node)
theorem Qu{l:List Sys}(h:∀s∈l,Ay s=true)(d:l.length<=3){letter:Int}(g:0<=letter)(f:letter<6)(node:Int):Gs (l.map (·.st)) (Xc l node letter):=by
 have b:GD ⟨l,[],[],0,0,0⟩:=⟨h,λa ha=>(by cases ha),d,by simp⟩
 have c:AG ⟨l,[],[],0,0,0⟩=l.map (·.st):=by simp[AG]
 have e:=Nw b node;have:=JV b e g f;rw[c]at this;unfold Qr at this
 simpa[Xc]using this
theorem bU{l:List Sys}{k:Nat}{s:Sys}(hs:l[k]?=some s)(node letter:Int):(Xc l node letter)[k]?=some (BN s (node / Az ((l.map (·.st)).drop (k+1))%s.st) letter):=by
 unfold Xc;rw[List.getElem?_zipWith,hs,Sb (z:=s.st) node (by simp[hs])]
end Go.Am
namespace Go.Am
open Go Go.Proofs
set_option maxHeartbeats 1000000
set_option maxRecDepth 4000
attribute [local irreducible] A1 Cr Lex Bs Aj Spec
variable {TB:BA}
theorem Dy{P:Program}{Γ:Ctx}{d:Option Tmp}{ty:TypeId}{pos:String}{af:Array Edge}{g:Option (Nat×Bool)}{f:Env}{σ:Ab}{nx:Nat}{t:TypeId}{x:Operand}{c:D}{cs:List D}{n:Nat}[h:DB P t false n](e:ev f x=some (.o (.ip cs)))(b:cs[0]?=some c):A1 P TB Γ ⟨d,.load t x,ty,pos,af,g⟩ f σ nx (.o (.d c)):=by
 cases cs with
 | nil=>cases b
 | cons a l=>injection b with b;subst b;exact SJ e
theorem Um{es:List DM}{q l:Int}(d:0<=q/\q<16)(c:0<=l/\l<6):(((CS es).drop (q.toNat*6)).drop (l.toNat*1))[0]?=some (iD (BH (Hg es q.toNat l.toNat):Nat)):=by
 rw[lY,lY,IG (by omega)]
 have b:(q.toNat*6+(l.toNat*1+0)) / 6=q.toNat:=by omega
 have a:(q.toNat*6+(l.toNat*1+0))%6=l.toNat:=by omega
 rw[b,a]
theorem cP[CG TB](l:List Sys)(h:∀s∈l,Ay s=true)(hl:l.length<=3)(node letter:Int)(hn0:0<=node)(hn1:node<=1048576)(h0:0<=letter)(h1:letter<6)(outs:List Int)(hol:outs.length<=1099511627776) :
 Spec Tryz.prog TB 163 [(0,.cells 3 1 (outs.map A8))] 1 [TX l,eI .i64 node,eI .i64 letter,.o (.arr 0 1 0 outs.length)]
  (λx σ nx=>x=.o (.arr 1 1 0 (outs++Ea (l.map (·.st)) (Xc l node letter)).length)/\nx=2/\σ=[(1,.cells 3 1 ((outs++Ea (l.map (·.st)) (Xc l node letter)).map A8))]):=by
 have hch:=Qu h hl h0 h1 node
 have hpos:∀z∈l.map (·.st),1<=z/\z<=16:=by
  intro z Y;obtain⟨s,hs,rfl⟩:=d8.1 Y;have:=AE (h s hs);omega
 have v:∀k,1<=Az ((l.map (·.st)).drop k)/\Az ((l.map (·.st)).drop k)<=4096:=by
  intro k;have h2:=Ij ((l.map (·.st)).drop k) λz Y=>hpos z (mY Y)
  have h3:(16:Int) ^ ((l.map (·.st)).drop k).length<=4096:=by
   have:((l.map (·.st)).drop k).length<=3:=by simp;omega
   generalize ((l.map (·.st)).drop k).length=n at this
   have:n=0\/n=1\/n=2\/n=3:=by omega
   rcases this with rfl|rfl|rfl|rfl<;>decide
  omega
 have G:=λk=>QJ (hch.drop k);have hget:=λ(k:Nat) (s:Sys) (hs:l[k]?=some s)=>bU hs node letter;generalize Xc l node letter=cs at *
 have hzs:∀(k:Nat) (s:Sys),l[k]?=some s->(l.map (·.st))[k]?=some s.st:=λk s hs=>by simp[hs]
 have S:(l.map (·.st)).length=l.length:=by simp
 generalize l.map (·.st)=zs at *;have hcl:=hch.len;refine eN Tryz.func163 rfl (by kernel_rfl) rfl ?_;intro Γ b;(repeat first|refine aU rfl ?_);(refine Ag rfl ?_;refine CO (λ_ _=>Ec rfl rfl rfl) rfl ?_);(refine Ag rfl ?_;refine CO (λ_ _=>Ew rfl) rfl ?_);(repeat first|refine sN rfl ?_|(refine sA rfl ?_ ?_;first|exact tI|omega)|refine aU rfl ?_|apply Aa);apply aB;refine Aj.BC (α:={k:Nat // k<=l.length}) (λ⟨k,hk⟩=>[(1,eI .i64 (node / Az (zs.drop k))),(2,eI .i64 letter),(3,.o (.arr 0 1 0 outs.length)),(4,.o (.ip (FQ l))),(9,AX (Ea (zs.drop k) (cs.drop k))),(10,eI .i64 (Az (zs.drop k))),(11,eI .i64 ((k:Int)-1))]) (λ⟨k,hk⟩=>[(0,.cells 3 1 (outs.map A8))]) 1 (λ⟨k,hk⟩=>k) (⟨l.length,by omega⟩) [0] (GX b rfl rfl) (by (simp[cX,zC,b,mN,S,hcl.symm,Az,Ea])) ?_;rintro⟨k,hk⟩;(try dsimp only);(repeat first|refine tM rfl ?_|refine s2 rfl λ_ A=>?_|refine aU rfl ?_|apply Aa);(refine aC rfl ?_ ?_<;>rintro⟨⟩)
 ·obtain⟨k,rfl⟩:∃k',k=k'+1:=⟨k-1,by (simp only[oZ] at *;omega)⟩
  obtain⟨s,hs⟩:=get_some (l:=l) (k:=k) (by omega)
  have hs':(l.map Av)[(((k+1:Nat):Int)-1).toNat]?=some (Av s):=by simp[hs]
  have hm':(l.map QO)[(((k+1:Nat):Int)-1).toNat]?=some (QO s):=by simp[hs]
  have B:=h s (co hs);have hsh:=AE B;have Y:=hzs k s hs;have hck:=hget k s hs;have c:=Xu Y hck;have F:=Us Y;have L:=v (k+1);have hpr0:=v k;have hlk:=G (k+1);have N:=(G k).2;rw[c]at N
  have hnd:node / Az (zs.drop k)=node / Az (zs.drop (k+1)) / s.st:=by
   rw[F,n8,og (by omega)]
  have hn2:0<=node / Az (zs.drop (k+1)):=mS hn0 (by omega);have hn3:node / Az (zs.drop (k+1))<=node:=nA _ hn0;rw[F]at hpr0;generalize Az (zs.drop (k+1))=W at *;generalize Ea (zs.drop (k+1)) (cs.drop (k+1))=low at *;generalize node / W=nd at *
  have H:0<=nd%s.st/\nd%s.st<s.st:=⟨ms _ (by omega),mh _ (by omega)⟩
  apply aK;refine aS (aB ?_);(repeat first|(refine sA rfl ?_ ?_;first|exact tI|omega)|(refine s4 rfl ‹_› rfl ?_ ?_;omega)|refine aU rfl ?_|apply Aa)
  have V:∃to,to=BN s (nd%s.st) letter/\(AT s.al letter.toNat=false->to=[nd%s.st])/\(AT s.al letter.toNat=true->to=Hg s.es (nd%s.st).toNat letter.toNat):=by
   refine⟨_,rfl,λhb=>?_,λhb=>?_⟩
   ·unfold BN;rw[if_neg (by simp[hb])]
   ·rw[XR hb];congr 1<;>omega
  have u:∀x∈BN s (nd%s.st) letter,0<=x/\x<s.st:=λx e=>It B H.1 H.2 e;have I:=P8 B (l:=letter) H.1 H.2;obtain⟨to,V,hto0,Z⟩:=V;rw[<-V]at u I c N
  have hmem:AT s.al letter.toNat=true->Pure Tryz.prog TB 94 [eI .i64 (BH (Hg s.es (nd%s.st).toNat letter.toNat):Nat)] (AX (Hg s.es (nd%s.st).toNat letter.toNat)):=λhb=>by
   have h2:=Ds B s.es.length (nd%s.st).toNat letter.toNat;have h3:=λx e=>LU B (k:=s.es.length) (f:=(nd%s.st).toNat) (l:=letter.toNat) (x:=x) e;rw[jp]at h2 h3
   exact N5 _ h2 λx e=>by have:=h3 x e;omega
  have hld:=Um (es:=s.es) (q:=nd%s.st) (l:=letter) ⟨H.1,by omega⟩ ⟨h0,h1⟩
  have Q:hasB s.al letter=AT s.al letter.toNat:=by simp[hasB,h0]
  (repeat first|(refine sC rfl (Lo _ _) ?_;intro _ A)|apply Aa)
  have M:node / (s.st*W)=nd / s.st:=by rw[<-F];exact hnd
  have R:W*s.st=s.st*W:=n8 _ _
  have P:∀m,(((to.take m).flatMap λq=>low.map λr=>q*W+r).length:Int)<=1048576:=by
   intro m;have h2:=NF (to.take m) (λq=>low.map λr=>q*W+r) 4096 (λx _=>by simp;omega)
   have h3:(to.take m).length<=to.length:=by simp;omega
   omega
  (refine aC rfl ?_ ?_<;>rintro⟨⟩)
  ·have hb:AT s.al letter.toNat=true:=by rw[<-Q];exact A
   have J:=hmem hb;have p:=Z hb;(repeat first|(refine sM rfl ?_ ?_;first|exact tI|omega)|(refine s4 rfl ‹_› rfl ?_ ?_;omega)|refine sP rfl (J) rfl ?_|(refine Ag rfl ?_;refine gA rfl ?_;first|refine gS (λ_ _=>Dy rfl hld) ?_)|refine aU rfl ?_|apply Aa|refine rE (by kernel_rfl) ?_);(refine pW rfl ?_ rfl (by rfl);refine Gl 1 3 ?_);(repeat first|refine sN rfl ?_|refine tM rfl ?_|refine aU rfl ?_|apply Aa);apply aB;refine Aj.BC (α:={m:Nat // m<=to.length}) (λ⟨m,J⟩=>[(1,eI .i64 nd),(2,eI .i64 letter),(3,.o (.arr 0 1 0 outs.length)),(4,.o (.ip (FQ l))),(9,AX low),(10,eI .i64 W),(11,eI .i64 (((k+1:Nat):Int)-1)),(12,.o (.ptr 1 3 0 0)),(14,.o (.arr 2 1 0 ((to.take m).flatMap λq=>low.map λr=>q*W+r).length)),(57,AX to),(58,eI .i64 to.length),(59,eI .i64 m)]) (λ⟨m,J⟩=>[(0,.cells 3 1 (outs.map A8)),(1,.cells 25 3 [[.d (iD s.al),.d (iD s.st),.d (DY s.es)]]),(2,.cells 3 1 (((to.take m).flatMap λq=>low.map λr=>q*W+r).map A8))]) 3 (λ⟨m,J⟩=>to.length-m) (⟨0,by omega⟩) [0,1,2] (GX b rfl rfl) (by (simp[cX,zC,b,Ae,eC,p])) ?_;rintro⟨m,J⟩;(try dsimp only);clear p
   have w:∀x,to[m]?=some x->(to.take (m+1)).flatMap (λq=>low.map λr=>q*W+r)=(to.take m).flatMap (λq=>low.map λr=>q*W+r)++low.map λr=>x*W+r:=λx e=>by
    rw[gt,e];simp
   have hlm:=P m;generalize t:(to.take m).flatMap (λq=>low.map λr=>q*W+r)=pre at *;(repeat first|refine s2 rfl λ_ A=>?_|refine aU rfl ?_|apply Aa);(refine aC rfl ?_ ?_<;>rintro⟨⟩)
   ·obtain⟨x,e⟩:=get_some (l:=to) (k:=m) (by (simp only[oZ] at *;omega))
    have hx':=get_map (g:=DJ) e;have U:=u x (co e);have w:=w x e;apply aK;refine aS (aB ?_);(repeat first|refine sN rfl ?_|refine tM rfl ?_|(refine s4 rfl ‹_› rfl ?_ ?_;omega)|refine aU rfl ?_|apply Aa);apply aB;refine Aj.BC (α:={j:Nat // j<=low.length}) (λ⟨j,X⟩=>[(1,eI .i64 nd),(2,eI .i64 letter),(3,.o (.arr 0 1 0 outs.length)),(4,.o (.ip (FQ l))),(9,AX low),(10,eI .i64 W),(11,eI .i64 (((k+1:Nat):Int)-1)),(12,.o (.ptr 1 3 0 0)),(14,.o (.arr 2 1 0 (pre.length+j))),(57,AX to),(58,eI .i64 to.length),(59,eI .i64 m),(16,eI .i64 x),(63,AX low),(64,eI .i64 low.length),(65,eI .i64 j)]) (λ⟨j,X⟩=>[(0,.cells 3 1 (outs.map A8)),(1,.cells 25 3 [[.d (iD s.al),.d (iD s.st),.d (DY s.es)]]),(2,.cells 3 1 ((pre++(low.take j).map λr=>x*W+r).map A8))]) 3 (λ⟨j,X⟩=>low.length-j) (⟨0,by omega⟩) [0,1,2] (GX b rfl rfl) (by (simp[cX,zC,b])) ?_;rintro⟨j,X⟩;(try dsimp only);(repeat first|refine s2 rfl λ_ A=>?_|refine aU rfl ?_|apply Aa);(refine aC rfl ?_ ?_<;>rintro⟨⟩)
    ·obtain⟨y,T⟩:=get_some (l:=low) (k:=j) (by (simp only[oZ] at *;omega))
     have hy':=get_map (g:=DJ) T;have hyb:=hlk.1 y (co T)
     have h16:0<=x*W/\x*W<=65536:=⟨mf U.1 (by omega),by
      have h5:x*W<=16*4096:=l4 (by omega) L.2 (by omega) (by omega)
      omega⟩
     apply aK;refine aS (aB ?_);(repeat first|(refine sA rfl ?_ ?_;first|exact tI|omega)|(refine s4 rfl ‹_› rfl ?_ ?_;omega)|refine aU rfl ?_|apply Aa);(refine pW rfl ?_ rfl (by rfl);refine Al rfl rfl rfl (by first|(simp;done)|(simp;(omega))) rfl (by intro r K;simp at K;subst K;rfl) (by rfl) (ce rfl) (by simp;omega) ?_);(repeat first|(refine sX rfl ?_ ?_;first|exact tI|omega)|refine aU rfl ?_|apply Aa);refine⟨⟨j+1,by (simp only[oZ] at *;omega)⟩,by dsimp only;((simp only[oZ] at *;omega)),[0,1,3],?_⟩;simp[cX,zC,b,gt,T,l8]
    ·obtain rfl:j=low.length:=by (simp only[oZ] at *;omega)
     rw[jp];apply aE;(repeat first|(refine sM rfl ?_ ?_;first|exact tI|omega)|refine aU rfl ?_|apply Aa);refine⟨⟨m+1,by (simp only[oZ] at *;omega)⟩,by dsimp only;((simp only[oZ] at *;omega)),[0,1,2],?_⟩;simp[cX,zC,b,w]
   ·obtain rfl:m=to.length:=by (simp only[oZ] at *;omega)
    rw[jp]at t;rw[t]at c;subst c;apply aE;refine Aj.freeze [2] [(1,eI .i64 nd),(2,eI .i64 letter),(3,.o (.arr 0 1 0 outs.length)),(4,.o (.ip (FQ l))),(10,eI .i64 W),(11,eI .i64 (((k+1:Nat):Int)-1)),(12,.o (.ptr 1 3 0 0)),(14,AX (Ea (zs.drop k) (cs.drop k)))] ⟨⟨_,rfl,.AR⟩,⟨_,rfl,.AR⟩,⟨_,rfl,.AR⟩,⟨_,rfl,.AR⟩,⟨_,rfl,.AR⟩,⟨_,rfl,.AR⟩,⟨_,rfl,.AR⟩,⟨_,rfl,.o (.full (by simp) rfl (by simp[d7]) (by simp))⟩,trivial⟩ ?_;(repeat first|(refine sM rfl ?_ ?_;first|exact tI|omega)|refine aU rfl ?_|apply Aa);refine⟨⟨k,by omega⟩,by dsimp only;(omega),[0],?_⟩;simp[cX,zC,b,M,F,R,BW]
  ·have hb:AT s.al letter.toNat=false:=by rw[<-Q];exact A
   have p:=hto0 hb;apply aK;(repeat first|refine aU rfl ?_);(refine pW rfl ?_ rfl (by rfl);refine Gl 1 3 ?_);(repeat first|refine tM rfl ?_|refine aU rfl ?_|apply Aa);apply aB;refine Aj.BC (α:={m:Nat // m<=to.length}) (λ⟨m,J⟩=>[(1,eI .i64 nd),(2,eI .i64 letter),(3,.o (.arr 0 1 0 outs.length)),(4,.o (.ip (FQ l))),(9,AX low),(10,eI .i64 W),(11,eI .i64 (((k+1:Nat):Int)-1)),(12,.o (.ptr 1 3 0 0)),(14,.o (.arr 2 1 0 ((to.take m).flatMap λq=>low.map λr=>q*W+r).length)),(57,AX to),(58,eI .i64 to.length),(59,eI .i64 m)]) (λ⟨m,J⟩=>[(0,.cells 3 1 (outs.map A8)),(1,.cells 25 3 [[.d (iD s.al),.d (iD s.st),.d (DY s.es)]]),(2,.cells 3 1 (((to.take m).flatMap λq=>low.map λr=>q*W+r).map A8))]) 3 (λ⟨m,J⟩=>to.length-m) (⟨0,by omega⟩) [0,1,2] (GX b rfl rfl) (by (simp[cX,zC,b,Ae,eC,p])) ?_;rintro⟨m,J⟩;(try dsimp only);clear p
   have w:∀x,to[m]?=some x->(to.take (m+1)).flatMap (λq=>low.map λr=>q*W+r)=(to.take m).flatMap (λq=>low.map λr=>q*W+r)++low.map λr=>x*W+r:=λx e=>by
    rw[gt,e];simp
   have hlm:=P m;generalize t:(to.take m).flatMap (λq=>low.map λr=>q*W+r)=pre at *;(repeat first|refine s2 rfl λ_ A=>?_|refine aU rfl ?_|apply Aa);(refine aC rfl ?_ ?_<;>rintro⟨⟩)
   ·obtain⟨x,e⟩:=get_some (l:=to) (k:=m) (by (simp only[oZ] at *;omega))
    have hx':=get_map (g:=DJ) e;have U:=u x (co e);have w:=w x e;apply aK;refine aS (aB ?_);(repeat first|refine sN rfl ?_|refine tM rfl ?_|(refine s4 rfl ‹_› rfl ?_ ?_;omega)|refine aU rfl ?_|apply Aa);apply aB;refine Aj.BC (α:={j:Nat // j<=low.length}) (λ⟨j,X⟩=>[(1,eI .i64 nd),(2,eI .i64 letter),(3,.o (.arr 0 1 0 outs.length)),(4,.o (.ip (FQ l))),(9,AX low),(10,eI .i64 W),(11,eI .i64 (((k+1:Nat):Int)-1)),(12,.o (.ptr 1 3 0 0)),(14,.o (.arr 2 1 0 (pre.length+j))),(57,AX to),(58,eI .i64 to.length),(59,eI .i64 m),(16,eI .i64 x),(63,AX low),(64,eI .i64 low.length),(65,eI .i64 j)]) (λ⟨j,X⟩=>[(0,.cells 3 1 (outs.map A8)),(1,.cells 25 3 [[.d (iD s.al),.d (iD s.st),.d (DY s.es)]]),(2,.cells 3 1 ((pre++(low.take j).map λr=>x*W+r).map A8))]) 3 (λ⟨j,X⟩=>low.length-j) (⟨0,by omega⟩) [0,1,2] (GX b rfl rfl) (by (simp[cX,zC,b])) ?_;rintro⟨j,X⟩;(try dsimp only);(repeat first|refine s2 rfl λ_ A=>?_|refine aU rfl ?_|apply Aa);(refine aC rfl ?_ ?_<;>rintro⟨⟩)
    ·obtain⟨y,T⟩:=get_some (l:=low) (k:=j) (by (simp only[oZ] at *;omega))
     have hy':=get_map (g:=DJ) T;have hyb:=hlk.1 y (co T)
     have h16:0<=x*W/\x*W<=65536:=⟨mf U.1 (by omega),by
      have h5:x*W<=16*4096:=l4 (by omega) L.2 (by omega) (by omega)
      omega⟩
     apply aK;refine aS (aB ?_);(repeat first|(refine sA rfl ?_ ?_;first|exact tI|omega)|(refine s4 rfl ‹_› rfl ?_ ?_;omega)|refine aU rfl ?_|apply Aa);(refine pW rfl ?_ rfl (by rfl);refine Al rfl rfl rfl (by first|(simp;done)|(simp;(omega))) rfl (by intro r K;simp at K;subst K;rfl) (by rfl) (ce rfl) (by simp;omega) ?_);(repeat first|(refine sX rfl ?_ ?_;first|exact tI|omega)|refine aU rfl ?_|apply Aa);refine⟨⟨j+1,by (simp only[oZ] at *;omega)⟩,by dsimp only;((simp only[oZ] at *;omega)),[0,1,3],?_⟩;simp[cX,zC,b,gt,T,l8]
    ·obtain rfl:j=low.length:=by (simp only[oZ] at *;omega)
     rw[jp];apply aE;(repeat first|(refine sM rfl ?_ ?_;first|exact tI|omega)|refine aU rfl ?_|apply Aa);refine⟨⟨m+1,by (simp only[oZ] at *;omega)⟩,by dsimp only;((simp only[oZ] at *;omega)),[0,1,2],?_⟩;simp[cX,zC,b,w]
   ·obtain rfl:m=to.length:=by (simp only[oZ] at *;omega)
    rw[jp]at t;rw[t]at c;subst c;apply aE;refine Aj.freeze [2] [(1,eI .i64 nd),(2,eI .i64 letter),(3,.o (.arr 0 1 0 outs.length)),(4,.o (.ip (FQ l))),(10,eI .i64 W),(11,eI .i64 (((k+1:Nat):Int)-1)),(12,.o (.ptr 1 3 0 0)),(14,AX (Ea (zs.drop k) (cs.drop k)))] ⟨⟨_,rfl,.AR⟩,⟨_,rfl,.AR⟩,⟨_,rfl,.AR⟩,⟨_,rfl,.AR⟩,⟨_,rfl,.AR⟩,⟨_,rfl,.AR⟩,⟨_,rfl,.AR⟩,⟨_,rfl,.o (.full (by simp) rfl (by simp[d7]) (by simp))⟩,trivial⟩ ?_;(repeat first|(refine sM rfl ?_ ?_;first|exact tI|omega)|refine aU rfl ?_|apply Aa);refine⟨⟨k,by omega⟩,by dsimp only;(omega),[0],?_⟩;simp[cX,zC,b,M,F,R,BW]
 ·obtain rfl:k=0:=by (simp only[oZ] at *;omega)
  rw[mD,mD];have hl0:=(G 0).2;have hp0:=v 0;rw[mD,mD]at hl0;rw[mD]at hp0;apply aE;(repeat first|refine tM rfl ?_|refine aU rfl ?_);(refine pW rfl ?_ rfl (by rfl);refine Al rfl rfl rfl (by first|(simp;done)|(simp;(omega))) rfl (by intro r K;simp at K;obtain⟨a,_,rfl⟩:=K;rfl) (by rfl) (ce rfl) (by simp;omega) ?_);(repeat first|refine tX rfl ?_|apply Aa);refine Aj.names [0,1] [(8,.o (.arr 1 1 0 (outs++Ea zs cs).length))] [(1,.cells 3 1 ((outs++Ea zs cs).map A8))] (by intro i hi;rw[b]at hi;obtain rfl:i=0:=(by omega);rfl) (by simp) (by simp[cX,zC,b]) (by simp[cX,zC,b]) ?_;refine aR ⟨_,rfl,rfl,rfl,rfl⟩
end Go.Am
