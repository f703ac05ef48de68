/-
  The reference's checks, the walks.
-/
import Derived.Test.YtgpbfllcjdfelaaGreatDoorPart16
import Derived.Lib.TrailingZeros
set_option linter.all false
namespace Go.Am
open Go Go.Proofs
set_option maxHeartbeats 1000000
set_option maxRecDepth 4000
attribute [local irreducible] AO BS Lex A4 Au Spec
variable {TB:Bi}
end Go.Am
namespace Go.Am
open Go
def BD:List Int->Nat
 | []=>0
 | x::l=>2 ^ x.toNat+BD l
theorem NU:∀(l m:List Int),BD (l++m)=BD l+BD m
 | [],m=>by simp [BD]
 | x::l,m=>by simp [BD,NU l m,nQ]
theorem Mm:∀ {l:List Int} {t:Nat},l.Pairwise (· < ·)->(∀x∈l,0<=x/\x < t)->BD l < 2 ^ t
 | [],t,_,_=>pI t
 | x :: l,t,hp,h=>by
  have key:∀(l:List Int) (a t:Nat),(∀x∈l,(a:Int)<=x/\x < t)->l.Pairwise (· < ·)->a<=t->2 ^ a+BD l<=2 ^ t:=by
   intro l
   induction l with
   | nil=>intro a t _ _ c;simpa [BD] using nY (by omega) c
   | cons y l g=>
    intro a t h hp c;have d:=h y (by simp);have b:=nN.1 hp;have f:=g (y.toNat+1) t (λx e=>by have:=b.1 x e;have:=h x (by simp [e]);omega) b.2 (by omega);have i:2 ^ a<=2 ^ y.toNat:=nY (by omega) (by omega);rw [pQ] at f;simp only [BD];omega
  have e:=h x (by simp);have b:=nN.1 hp;have f:=key l (x.toNat+1) t (λy d=>by have:=b.1 y d;have:=h y (by simp [d]);omega) b.2 (by omega);rw [pQ] at f;simp only [BD];have:=pI x.toNat;omega
theorem fj{l:List Int}{t:Nat}(hp:l.Pairwise (· < ·))(h:∀x∈l,0<=x/\x < t):BD l ||| 2 ^ t=BD (l++[(t:Int)]):=by
 have b:=Mm hp h;rw [NU];have a:=Nat.two_pow_add_eq_or_of_lt b 1;simp only [qS] at a;rw [Nat.or_comm,<-a];simp [BD];omega
theorem RS:∀(k m:Nat),(2 ^ k*(2*m+1)) &&& (2 ^ k*(2*m+1) - 1)=2 ^ k*(2*m)
 | 0, m=>by
  apply oL;intro i
  cases i with
  | zero=>simp
  | succ i=>
   simp only [Nat.pow_zero,Nat.one_mul,Nat.add_sub_cancel]
   have c:(2*m+1) / 2=m:=by omega
   have b:2*m / 2=m:=by omega
   rw [qP,oQ,oQ,c,b];simp
 | k + 1,m=>by
  have d:=RS k m;have hp:0 < 2 ^ k*(2*m+1):=Nat.mul_pos (pI k) (by omega)
  have g:2 ^ (k+1)*(2*m+1)=2*(2 ^ k*(2*m+1)):=by rw [pQ,pL (2 ^ k) 2,Nat.mul_assoc]
  have f:2 ^ (k+1)*(2*m)=2*(2 ^ k*(2*m)):=by rw [pQ,pL (2 ^ k) 2,Nat.mul_assoc]
  rw [g,f,<-d];generalize 2 ^ k*(2*m+1)=a at hp;apply oL;intro i
  cases i with
  | zero=>simp
  | succ i=>
   have c:2*a / 2=a:=by omega
   have b:(2*a - 1) / 2=a - 1:=by omega
   have e:2*(a &&& (a - 1)) / 2=a &&& (a - 1):=by omega
   rw [qP,oQ,oQ,oQ,c,b,e,qP]
theorem NW:∀ {l:List Int} {k:Nat},l.Pairwise (· < ·)->(∀x∈l,(k:Int) < x)->∃m,BD l=2 ^ k*(2*m)
 | [],k,_,_=>⟨0,by simp [BD]⟩
 | x :: l,k,hp,h=>by
  have a:=nN.1 hp;have d:=h x (by simp)
  obtain⟨m,c⟩:=NW (l:=l) (k:=k) a.2 λy b=>by have:=a.1 y b;omega
  refine⟨2 ^ (x.toNat - k - 1)+m,?_⟩
  have e:x.toNat=k+(1+(x.toNat - k - 1)):=by omega
  have:2 ^ x.toNat=2 ^ k*(2*2 ^ (x.toNat - k - 1)):=by
   conv=>lhs;rw [e,Nat.pow_add,Nat.pow_add]
  simp only [BD,c,this,<-Nat.mul_add]
theorem KU{x:Int}{l:List Int}(hp:(x::l).Pairwise (· < ·))(d:0<=x):∃m,BD (x::l)=2 ^ x.toNat*(2*m+1)/\BD l=2 ^ x.toNat*(2*m):=by
 have a:=nN.1 hp
 obtain⟨m,b⟩:=NW (l:=l) (k:=x.toNat) a.2 λy c=>by have:=a.1 y c;omega
 exact⟨m,by simp only [BD,b];rw [Nat.mul_add];omega,b⟩
theorem YK{x:Int}{l:List Int}(hp:(x::l).Pairwise (· < ·))(c:0<=x):BD (x::l) &&& (BD (x::l) - 1)=BD l:=by
 obtain⟨m,b,a⟩:=KU hp c;rw [b,a,RS]
theorem NV{x:Int}{l:List Int}:0 < BD (x::l):=by
 simp only [BD];have:=pI x.toNat;omega
theorem cO{x:Int}{l:List Int}(hp:(x::l).Pairwise (· < ·))(e:0<=x)(a:BD (x::l) < 2 ^ 64):Lib.ctz 64 (BD (x::l))=x.toNat:=by
 obtain⟨m,c,_⟩:=KU hp e;have d:=Lib.lowest_bit 64 _ (by have:=NV (x:=x) (l:=l);omega) a;have b:=Lib.and_neg 64 x.toNat m (by rw [<-c];exact a);rw [<-c,d.1] at b;exact(Nat.pow_right_inj (by omega)).1 b
end Go.Am
namespace Go.Am
open Go Go.Proofs
set_option maxHeartbeats 1000000
set_option maxRecDepth 4000
attribute [local irreducible] AO BS Lex A4 Au Spec
variable {TB:Bi}
theorem ft(i:Nat)(h:i < 64):Bk[i]? = some (.int .u8 (Lib.deBruijn64tab.getD i 0:Nat)):=by
 have e:Bk=Lib.deBruijn64tab.map λn=>Value.int .u8 (n:Nat):=rfl;have a:Lib.deBruijn64tab.length=64:=rfl;rw [e,d9,d5 (by omega)];simp [List.getD,a,h]
theorem iM(x a:Nat)(j:x < 18446744073709551616)(d:x≠0)(b:x &&& (18446744073709551616 - x)=a) :
 (IntKind.u64.wrap (E4 .u64 (x:Int) (IntKind.u64.wrap (-(x:Int)))*285870213051353865)).fdiv (2 ^ (min (58:Int).toNat IntKind.u64.bits))=((a*285870213051353865 % 18446744073709551616 / 288230376151711744:Nat):Int):=by
 have c:∀n:Int,IntKind.u64.wrap n=n % 18446744073709551616:=λn=>by simp [IntKind.wrap,IntKind.signed,IntKind.bits]
 have i:IntKind.u64.wrap (-(x:Int))=((18446744073709551616 - x:Nat):Int):=by rw [c];omega
 have h:E4 .u64 (x:Int) ((18446744073709551616 - x:Nat):Int)=(a:Int):=by
  unfold E4;have e:IntKind.u64.bits=64:=rfl;rw [e]
  have f:(BitVec.ofInt 64 (x:Int) &&& BitVec.ofInt 64 ((18446744073709551616 - x:Nat):Int)).toNat=a:=by
   simp only [BitVec.toNat_and,BitVec.ofInt_natCast,BitVec.toNat_ofNat];rw [nF (by omega),nF (by omega),b]
  rw [f,c]
  have k:a<=x:=by rw [<-b];exact Nat.and_le_left
  omega
 rw [i,h,c];have g:(2:Int) ^ (min (58:Int).toNat IntKind.u64.bits)=288230376151711744:=rfl;rw [g,Int.fdiv_eq_ediv_of_nonneg _ (by omega)];omega
theorem fB[Fa TB](x:Nat)(d:x≠0)(f:x < 18446744073709551616):Pure Tryz.prog TB 295 [eI .u64 x] (eI .i64 (Lib.ctz 64 x)):=by
 obtain⟨b,hk⟩:=Lib.lowest_bit 64 x d f;obtain⟨hi,a⟩:=Lib.deBruijn64_at _ hk;have c:=iM x _ f d b;have e:=ft _ hi;rw [a] at e;generalize Lib.ctz 64 x=cz at *;generalize 2 ^ cz*285870213051353865 % 18446744073709551616 / 288230376151711744=idx at *;refine eN Tryz.func295 rfl (by kernel_rfl) rfl ?_;intro Γ g;(repeat' first|(refine sA rfl ?_ ?_;first|exact tI|omega) |refine s2 rfl λ_ h=>?_|(refine Af rfl ?_;refine gA rfl ?_;first| refine gS (λ_ _=>Tb rfl rfl) ?_|refine gS (λ_ _=>fS rfl rfl rfl) ?_) |refine aU rfl ?_ |refine Aa ?_|(refine aC rfl ?_ ?_<;>rintro⟨⟩)|refine aK ?_|refine aE ?_|refine aB ?_|refine aR ⟨_,rfl,?_⟩)
 ·exfalso;(simp only[oZ] at *;omega)
 rw [c];clear c b a;(repeat' first|(refine sA rfl ?_ ?_;first|exact tI|omega)|(refine Af rfl ?_;refine gA rfl ?_;first| refine gS (λ_ _=>bK (v:=.int .u8 ((cz:Nat):Int)) rfl (by omega) (by omega) (by rw [f6];exact e)) ?_) |refine Aa ?_|(refine aC rfl ?_ ?_<;>rintro⟨⟩)|refine aK ?_|refine aE ?_|refine aB ?_|refine aR ⟨_,rfl,?_⟩);rfl
theorem kO[Fa TB](x:Nat)(a:x≠0)(c:x < 18446744073709551616):Pure Tryz.prog TB 279 [eI .u64 x] (eI .i64 (Lib.ctz 64 x)):=by
 refine eN Tryz.func279 rfl (by kernel_rfl) rfl ?_;intro Γ b;(repeat' first|refine tA rfl ?_ |refine sP rfl (fB x a c) rfl ?_ |refine aU rfl ?_ |refine Aa ?_|(refine aC rfl ?_ ?_<;>rintro⟨⟩)|refine aK ?_|refine aE ?_|refine aB ?_|refine aR ⟨_,rfl,?_⟩)
 all_goals rfl
theorem XF{x:Int}{l:List Int}(hp:(x::l).Pairwise (· < ·))(f:0<=x)(b:BD (x::l) < 2 ^ 62):E4 .i64 (BD (x::l):Nat) ((BD (x::l):Nat) - 1)=(BD l:Nat):=by
 have d:=YK hp f;have i:=NV (x:=x) (l:=l);have h:BD l<=BD (x::l):=Nat.le_add_left _ _;generalize BD (x::l)=a at *
 have g:((a:Nat):Int) - 1=((a - 1:Nat):Int):=by omega
 rw [g];unfold E4;have e:IntKind.i64.bits=64:=rfl;rw [e]
 have c:(BitVec.ofInt 64 (a:Int) &&& BitVec.ofInt 64 ((a - 1:Nat):Int)).toNat=BD l:=by
  simp only [BitVec.toNat_and,BitVec.ofInt_natCast,BitVec.toNat_ofNat];rw [nF (by omega),nF (by omega),d]
 rw [c];exact IntWalk.i64_in _ (by omega)
theorem Rt(r:Nat->Nat):∀ds:List D,C.BK r (ds.map .d)=ds.map .d
 | []=>rfl
 | d::l=>by simp [C.BK,C.AX,Rt r l]
def Oa(es:List Ej)(f l:Nat):List Int:=(es.filter λe:Ej=>decide (e.f=(f:Int)) && decide (e.l=(l:Int))).map (·.t)
def FF(es:List Ej):List D:=(List.range 96).map λi=>iD (BD (Oa es (i / 6) (i % 6)):Nat)
theorem Ir{es:List Ej}{i:Nat}(h:i < 96):(FF es)[i]? = some (iD (BD (Oa es (i / 6) (i % 6)):Nat)):=by simp [FF,h]
theorem WZ(es:List Ej)(e:Ej)(f l:Nat):Oa (es++[e]) f l=Oa es f l++if e.f=(f:Int)/\e.l=(l:Int) then [e.t] else []:=by
 simp only [Oa,qt,nO,List.filter_cons,List.filter_nil];grind
theorem Hp{r:List C}{j:Nat}{c:C}(h:j < r.length):Ae r j [c]=r.set j c:=by
 unfold Ae;rw [List.set_eq_take_append_cons_drop,if_pos h];simp
theorem UF{es:List Ej}{e:Ej}{v:Int}(k:0<=e.f/\e.f < 16)(j:0<=e.l/\e.l < 6)(b:v=(BD (Oa (es++[e]) e.f.toNat e.l.toNat):Nat)) :
 Ae ((FF es).map .d) (0+e.f.toNat*6+e.l.toNat*1) (eC (eI .i64 v))=(FF (es++[e])).map .d:=by
 have h:0+e.f.toNat*6+e.l.toNat*1 < 96:=by omega
 have:eC (eI .i64 v)=[C.d (iD v)]:=rfl;rw [this,Hp (by simp [FF];omega),<-oU];congr 1;apply nH;intro i;by_cases hi:i < 96
 ·rw [Ir hi]
  by_cases a:0+e.f.toNat*6+e.l.toNat*1=i
  ·subst a
   rw [nT (by simp [FF];omega),b]
   have g:(0+e.f.toNat*6+e.l.toNat*1) / 6=e.f.toNat:=by omega
   have c:(0+e.f.toNat*6+e.l.toNat*1) % 6=e.l.toNat:=by omega
   rw [g,c]
  ·rw [nU a,Ir hi,WZ,if_neg (by omega),nG]
 ·rw [i8 (by simp [FF];omega),i8 (by simp [FF];omega)]
theorem FQ{s:Sys}(h:BA s=true)(k f l:Nat):(Oa (s.es.take k) f l).Pairwise (· < ·):=by
 unfold Oa;rw [nS];refine pN (λ{a b} ha hb c=>?_) (((JW h).sublist (List.take_sublist k s.es)).filter _);have e:=(nP.1 ha).2;have d:=(nP.1 hb).2;unfold IY at c;grind
theorem Ob{s:Sys}(h:BA s=true){k f l:Nat}{x:Int}(a:x∈Oa (s.es.take k) f l):0<=x/\x < 16:=by
 unfold Oa at a;obtain⟨e,b,rfl⟩:=em.1 a;have c:=CX h (nE (nP.1 b).1);have d:=Ck h;unfold Dg at c;grind
theorem dJ{a t:Nat}(ha:a < 2 ^ 16)(ht:t < 16):ZW .i64 (a:Nat) ((2 ^ t:Nat):Int)=((a ||| 2 ^ t:Nat):Int):=by
 have b:2 ^ t < 2 ^ 16:=qj (by omega) ht;have d:a ||| 2 ^ t < 2 ^ 16:=pj ha b;unfold ZW
 have c:(BitVec.ofInt IntKind.i64.bits (a:Int) ||| BitVec.ofInt IntKind.i64.bits ((2 ^ t:Nat):Int)).toNat=a ||| 2 ^ t:=by
  have e:IntKind.i64.bits=64:=rfl;rw [e];simp only [BitVec.toNat_or,BitVec.ofInt_natCast,BitVec.toNat_ofNat];rw [nF (by omega),nF (by omega)]
 rw [c];exact IntWalk.i64_in _ (by omega)
theorem WQ{t:Int}(d:0<=t)(c:t < 16):IntKind.i64.wrap (1*2 ^ (min t.toNat IntKind.i64.bits))=((2 ^ t.toNat:Nat):Int):=by
 have e:min t.toNat IntKind.i64.bits=t.toNat:=by
  have:IntKind.i64.bits=64:=rfl;omega
 rw [e,Int.one_mul];have b:2 ^ t.toNat < 2 ^ 16:=qj (by omega) (by omega)
 have a:(2:Int) ^ t.toNat=((2 ^ t.toNat:Nat):Int):=by push_cast;rfl
 rw [a];generalize 2 ^ t.toNat=p at *;exact IntWalk.i64_in _ (by omega)
theorem UE(s:Sys)(h:BA s=true):Pure Tryz.prog TB 177 [Dv s] (.o (.ip (FF s.es))):=by
 refine eN Tryz.func177 rfl (by kernel_rfl) rfl ?_;intro Γ i;(repeat first|refine sN rfl ?_ |refine tA rfl ?_ |refine aU rfl ?_ |refine Aa ?_);refine Au.bound 8 rfl λG=>?_;have R:=G (s.es.map Dy) .refl;refine aB ?_;refine Au.BV (U:={k:Nat // k<=s.es.length}) (λ⟨k,hk⟩=>[(3,.o (.ptr 0 96 0 0)),(8,jx s.es),(9,eI .i64 s.es.length),(10,eI .i64 k)]) (λ⟨k,hk⟩=>[(0,.cells 237 96 [(FF (s.es.take k)).map .d])]) 1 (λ⟨k,hk⟩=>s.es.length - k) (⟨0,by omega⟩) [0] (IS i rfl rfl) (by (repeat' first|exact tI|rfl|refine And.intro ?_ ?_)) ?_;rintro⟨k,hk⟩;(try dsimp only);(repeat first|refine s2 rfl λ_ P=>?_ |refine aU rfl ?_ |refine Aa ?_);(refine aC rfl ?_ ?_<;>rintro⟨⟩)
 ·obtain⟨e,F⟩:=get_some (l:=s.es) (k:=k) (by (simp only[oZ] at *;omega))
  have L:=get_map (g:=Dy) F;have c:=CX h (ce F);have Q:=Ck h;unfold Dg at c;simp only [d6,decide_eq_true_eq] at c;obtain⟨⟨B,K,v,J,A,z⟩,H⟩:=c
  have p:0+e.f.toNat*6+e.l.toNat*1+1<=96:=by omega
  have j:=WQ v (by omega)
  have b:s.es.take (k+1)=s.es.take k++[e]:=by rw [gc,F];rfl
  have r:Oa (s.es.take (k+1)) e.f.toNat e.l.toNat=Oa (s.es.take k) e.f.toNat e.l.toNat++[e.t]:=by
   rw [b,WZ,if_pos (by omega)]
  have q:∀x∈Oa (s.es.take k) e.f.toNat e.l.toNat,0<=x/\x < e.t.toNat:=by
   intro x u;have I:=FQ h (k+1) e.f.toNat e.l.toNat;rw [r,oK] at I;have T:=I.2.2 x u e.t (by simp);have S:=Ob h u;omega
  have m:=fj (FQ h k e.f.toNat e.l.toNat) q;have w:=Mm (t:=16) (FQ h k e.f.toNat e.l.toNat) λx u=>Ob h u;have n:=dJ w (t:=e.t.toNat) (by omega)
  have et:((e.t.toNat:Nat):Int)=e.t:=by omega
  rw [m,et,<-r,b] at n;have a:=UF (es:=s.es.take k) (e:=e) ⟨B,by omega⟩ ⟨A,z⟩ rfl;rw [<-n] at a
  have y:((FF (s.es.take k)).map C.d)[0+e.f.toNat*6+e.l.toNat*1]? = some (.d (iD (BD (Oa (s.es.take k) e.f.toNat e.l.toNat):Nat))):=by
   have N:(0+e.f.toNat*6+e.l.toNat*1) / 6=e.f.toNat:=by omega
   have M:(0+e.f.toNat*6+e.l.toNat*1) % 6=e.l.toNat:=by omega
   rw [d9,Ir (by omega),N,M];rfl
  refine aK ?_;refine aS (aB ?_);(repeat first|refine tA rfl ?_ |(refine s4 rfl ‹_› rfl ?_ ?_;omega) |refine aU rfl ?_ |refine Aa ?_);refine rG (Ha [16]) (by kernel_rfl) ?_;(repeat first|(refine sA rfl ?_ ?_;first|exact tI|omega)|(refine Af rfl ?_;refine gA rfl ?_;first| refine gS (λ_ _=>bW rfl rfl (by omega) j) ?_|refine gQ (Rn rfl rfl rfl y) (by rfl) ?_));(refine Af rfl ?_;refine EO ?_ rfl (by rfl);refine Eb rfl rfl rfl rfl (rfl) rfl (p) ?_);(repeat first|(refine sA rfl ?_ ?_;first|exact tI|simp only[oZ] at *;omega) |refine aU rfl ?_ |refine Aa ?_);refine⟨⟨k+1,by (simp only[oZ] at *;omega)⟩,by dsimp only;((simp only[oZ] at *;omega)),[0],?_⟩;rw [a,<-b];simp[cX,zC,i,List.set_cons_zero,Rt]
 ·obtain rfl:k=s.es.length:=by (simp only[oZ] at *;omega)
  refine aE ?_;rw [i9];(repeat first|refine tM rfl ?_ |refine aU rfl ?_ |refine Aa ?_);refine Au.freeze [0] [(2,.o (.ip (FF s.es)))] ⟨⟨_,rfl,.o (.ptr (by simp) rfl rfl rfl)⟩,trivial⟩ ?_;refine aR ⟨_,rfl,rfl⟩
def NO(h:Nat->Int):List C:=(List.range 6).map λl=>.d (iD (h l))
def UU(h:Nat->Int):List D:=(List.range 6).map λl=>iD (h l)
theorem cG(h:Nat->Int):NO h=(UU h).map .d:=by simp [NO,UU]
def Bq{U:Type}(n:Nat)(g:Nat->U):List U:=(List.range n).map g
theorem Dr{U:Type}{n q:Nat}{g:Nat->U}(h:q < n):(Bq n g)[q]? = some (g q):=by simp [Bq,h]
theorem KR{U:Type}{n q:Nat}{g:Nat->U}{x:U}:(Bq n g).set q x=Bq n λi=>if i=q then x else g i:=by
 apply nH;intro i;by_cases hi:i < n
 ·rw [Dr hi]
  by_cases a:q=i
  ·subst a;rw [nT (by simp [Bq,hi])];simp
  ·rw [nU a,Dr hi,if_neg (Ne.symm a)]
 ·rw [i8 (by simp [Bq];omega),i8 (by simp [Bq];omega)]
theorem CQ{U:Type}{n:Nat}{g g':Nat->U}(h:∀i,i < n->g i=g' i):Bq n g=Bq n g':=by
 unfold Bq;exact nu λi hi=>h i (jp.1 hi)
theorem cH{h:Nat->Int}{l:Nat}{v:Int}(b:l < 6):Ae (NO h) (0+l*1) (eC (eI .i64 v))=NO λx=>if x=l then v else h x:=by
 have e:eC (eI .i64 v)=[C.d (iD v)]:=rfl;rw [e,Hp (by simp [NO];omega)];have:=KR (n:=6) (q:=l) (g:=λl=>C.d (iD (h l))) (x:=C.d (iD v))
 have a:0+l*1=l:=by omega
 rw [a];refine Eq.trans this (CQ λi _=>?_);by_cases e:i=l<;>simp [e]
theorem Jc{h a:Nat->Int}(b:∀l,l < 6->h l=a l):NO h=NO a:=CQ λi hi=>by rw [b i hi]
theorem IN(s:Int):∀(n k:Nat),k<=n->Ay s k <+: Ay s n
  | 0, k, h => by have:k=0:=by omega
                  subst this;exact pA _
  | n + 1,k,h=>by
    rcases nh k (n+1) with a|a
    · rw [CJ]
      exact(IN s n k (by omega)).trans (qu _ _)
    · have:k=n+1:=by omega
      subst this;exact pA _
theorem EA{s:Int}{k n:Nat}{l:Int}(h:(Ay s n)[k]? = some l):(Ay s l.toNat).length=k:=by
 have f:=Ai (ce h)
 have b:(Ay s (l.toNat+1))[(Ay s l.toNat).length]? = some l:=by
  rw [CJ,if_pos f.2.2,ge (io _)];simp;omega
 have e:(Ay s n)[(Ay s l.toNat).length]? = some l:=by
  obtain⟨t,ht⟩:=IN s n (l.toNat+1) (by omega);rw [<-ht,d8 (am.1 b).1];exact b
 have hp:=FB s n;rw [nj] at hp;obtain⟨d,i⟩:=am.1 h;obtain⟨c,g⟩:=am.1 e
 rcases ph (Ay s l.toNat).length k with a|a|a
 ·have:=hp _ _ c d a;omega
 ·exact a
 ·have:=hp _ _ d c a;omega
theorem Gq{s:Int}{n l:Nat}:(l:Int)∈Ay s n↔l < n/\Ep s l=true:=by
 unfold Ay;simp only [em,nP,jp];constructor
 ·rintro⟨a,ha,e⟩
  have:a=l:=by have e:((a:Nat):Int)=l:=e;omega
  subst this;exact ha
 ·intro h;exact⟨l,h,rfl⟩
def On(n:Nat)(H:Nat->Nat->Int):List (List C):=Bq n λi=>NO (H i)
theorem ID(r:Nat->Nat)(n:Nat)(H:Nat->Nat->Int):(On n H).map (C.BK r)=On n H:=by
 unfold On Bq;rw [nV]
 exact nu λi _=>by simp only [d4,cG,Rt]
theorem cV(n:Nat):On n (λ_ _=>0)=List.replicate n [C.d (D.v (Value.int IntKind.i64 0)),C.d (D.v (Value.int IntKind.i64 0)),C.d (D.v (Value.int IntKind.i64 0)),C.d (D.v (Value.int IntKind.i64 0)),C.d (D.v (Value.int IntKind.i64 0)),C.d (D.v (Value.int IntKind.i64 0))]:=by
 unfold On Bq;rw [List.map_const'];simp;exact .inr rfl
theorem WW{n q:Nat}{H:Nat->Nat->Int}(h:q < n):(On n H)[0+((q:Nat):Int).toNat]? = some (NO (H q)):=by
 rw [ms,f6];exact Dr (g:=λi=>NO (H i)) h
theorem WX{n q l:Nat}{v:Int}{H:Nat->Nat->Int}(a:l < 6):(On n H).set (0+((q:Nat):Int).toNat) (Ae (NO (H q)) (0+((l:Nat):Int).toNat*1) (eC (eI .i64 v)))=On n λi x=>if i=q/\x=l then v else H i x:=by
 rw [ms,f6,f6,cH a];unfold On;rw [KR];refine CQ λi _=>?_;by_cases e:i=q
 ·subst e;rw [if_pos rfl];exact Jc λl _=>by simp
 ·rw [if_neg e];exact Jc λl _=>by simp [e]
theorem GR{n:Nat}{H H':Nat->Nat->Int}(h:∀i,i < n->∀l,l < 6->H i l=H' i l):On n H=On n H':=CQ λi hi=>Jc λl a=>h i hi l a
theorem fw(n:Nat)(H:Nat->Nat->Int):(On n H).length=n:=by simp [On,Bq]
def Fi(a:AK):List (List D):=Bq a.nx.length λq=>UU λl=>AW a q l
theorem kC(a:AK):On a.nx.length (λi l=>AW a i l)=(Fi a).map λr=>r.map .d:=by
 unfold On Fi Bq;rw [nV]
 exact nu λi _=>by simp only [d4,cG]
def Hz(a:AK):Prop:=a.nx.length<=64/\∀q,q < a.nx.length->∃row:List Int,a.nx[q]? = some row/\row.length=(Ac a.al).length/\∀(k:Nat) y,row[k]? = some y->0<=y/\y < a.nx.length
theorem VE{a:AK}(h:AI a=true):Hz a:=⟨by have:=Al h;omega,λq b=>Ii h b⟩
theorem Lv(a:AK)(h:Hz a):Pure Tryz.prog TB 81 [Bm a] (.o (.d (.l (Fi a)))):=by
 have T:=h.1;have Q:(Ac a.al).length<=6:=AD a.al 6;refine eN Tryz.func81 rfl (by kernel_rfl) rfl ?_;intro Γ b;(repeat first|refine aU rfl ?_);(refine Af rfl ?_;refine Ew (λ_ _=>DJ rfl rfl rfl) rfl ?_);(refine Af rfl ?_;refine Ew (λ_ _=>JP rfl) rfl ?_);(repeat first|refine sN rfl ?_ |refine tM rfl ?_ |refine aU rfl ?_ |refine Aa ?_);(refine pW rfl ?_ rfl (by rfl);refine I9 rfl rfl (by rfl) (by rfl) (co rfl) (by omega) (by omega) (by omega) ?_);(repeat first|refine sN rfl ?_ |refine tM rfl ?_ |refine sP rfl (Cu a.al) rfl ?_ |refine aU rfl ?_ |refine Aa ?_);refine aB ?_;refine Au.BV (U:={q:Nat // q<=a.nx.length}) (λ⟨q,z⟩=>[(1,.o (.ip (BO a))),(3,.o (.arr 0 6 0 a.nx.length)),(4,AH (Ac a.al)),(18,Er a.nx),(19,eI .i64 a.nx.length),(20,eI .i64 q)]) (λ⟨q,z⟩=>[(0,.cells 109 6 (On a.nx.length λi l=>if i < q then AW a i l else 0))]) 1 (λ⟨q,z⟩=>a.nx.length - q) (⟨0,by omega⟩) [0] (IS b rfl rfl) (by (simp[cX,zC,b,ID,cV])) ?_;rintro⟨q,z⟩;(try dsimp only);(repeat first|refine s2 rfl λ_ u=>?_ |refine aU rfl ?_ |refine Aa ?_);(refine aC rfl ?_ ?_<;>rintro⟨⟩)
 ·have j : q < a.nx.length:=by (simp only[oZ] at *;omega)
  obtain⟨row,K,N,M⟩:=h.2 q j;have P:=get_map (g:=DM) K;refine aK ?_;refine aS (aB ?_);(repeat first|refine tM rfl ?_ |(refine s4 rfl ‹_› rfl ?_ ?_;omega) |refine aU rfl ?_ |refine Aa ?_);refine aB ?_;refine Au.BV (U:={m:Nat // m<=6}) (λ⟨m,B⟩=>[(1,.o (.ip (BO a))),(3,.o (.arr 0 6 0 a.nx.length)),(4,AH (Ac a.al)),(18,Er a.nx),(19,eI .i64 a.nx.length),(20,eI .i64 q),(5,eI .i64 q),(6,AH row),(25,eI .i64 m)]) (λ⟨m,B⟩=>[(0,.cells 109 6 (On a.nx.length λi l=>if i < q then AW a i l else if i=q/\l < m then q else 0))]) 1 (λ⟨m,B⟩=>6 - m) (⟨0,by omega⟩) [0] (IS b rfl rfl) (by (simp[cX,zC,b,ID])) ?_;rintro⟨m,B⟩;(try dsimp only);(repeat first|refine s2 rfl λ_ u=>?_ |refine aU rfl ?_ |refine Aa ?_);(refine aC rfl ?_ ?_<;>rintro⟨⟩)
  ·have r:m < 6:=by (simp only[oZ] at *;omega)
   have p:0+((m:Nat):Int).toNat*1+1<=6:=by omega
   have I:=WW (H:=λi l=>if i < q then AW a i l else if i=q/\l < m then q else 0) j;have w:=WX (n:=a.nx.length) (q:=q) (v:=q) (H:=λi l=>if i < q then AW a i l else if i=q/\l < m then q else 0) r
   have t:(On a.nx.length λ(i x:Nat)=>if i=q/\x=m then (q:Int) else (λ(i l:Nat)=>if i < q then AW a i l else if i=q/\l < m then (q:Int) else 0) i x)=On a.nx.length λi l=>if i < q then AW a i l else if i=q/\l < m+1 then (q:Int) else 0:=GR λi _ l _=>by dsimp only;grind
   refine aK ?_;refine aS (aB ?_);(repeat first|(refine sM rfl ?_ ?_;first|exact tI|omega) |refine aU rfl ?_ |refine Aa ?_);(refine Af rfl ?_;refine EO ?_ rfl (by rfl);refine Eb rfl rfl rfl rfl (I) rfl (p) ?_);(repeat first|(refine sM rfl ?_ ?_;first|exact tI|omega) |refine aU rfl ?_ |refine Aa ?_);refine⟨⟨m+1,by omega⟩,by dsimp only;(omega),[0],?_⟩;rw [w,t];simp[cX,zC,b,ID]
  ·obtain rfl:m=6:=by (simp only[oZ] at *;omega)
   have s:=GR (n:=a.nx.length) (H:=λi l=>if i < q then AW a i l else if i=q/\l < 6 then (q:Int) else 0) (H':=λi l=>if i < q then AW a i l else if i=q then (if (l:Int)∈(Ac a.al).take 0 then AW a q l else (q:Int)) else 0) λi _ l f=>by simp [f]
   rw [s];refine aE ?_;(repeat first|refine sN rfl ?_ |refine tM rfl ?_ |refine aU rfl ?_ |refine Aa ?_);refine aB ?_;refine Au.BV (U:={k:Nat // k<=(Ac a.al).length}) (λ⟨k,hk⟩=>[(1,.o (.ip (BO a))),(3,.o (.arr 0 6 0 a.nx.length)),(4,AH (Ac a.al)),(18,Er a.nx),(19,eI .i64 a.nx.length),(20,eI .i64 q),(5,eI .i64 q),(6,AH row),(35,AH (Ac a.al)),(36,eI .i64 (Ac a.al).length),(37,eI .i64 k)]) (λ⟨k,hk⟩=>[(0,.cells 109 6 (On a.nx.length λi l=>if i < q then AW a i l else if i=q then (if (l:Int)∈(Ac a.al).take k then AW a q l else (q:Int)) else 0))]) 1 (λ⟨k,hk⟩=>(Ac a.al).length - k) (⟨0,by omega⟩) [0] (IS b rfl rfl) (by (simp[cX,zC,b,ID])) ?_;rintro⟨k,hk⟩;(try dsimp only);(repeat first|refine s2 rfl λ_ u=>?_ |refine aU rfl ?_ |refine Aa ?_);(refine aC rfl ?_ ?_<;>rintro⟨⟩)
   ·obtain⟨l,f⟩:=get_some (l:=Ac a.al) (k:=k) (by (simp only[oZ] at *;omega))
    have R:=get_map (g:=Br) f;have F:=Ai (ce f);have A:=EA f;obtain⟨y,J⟩:=get_some (l:=row) (k:=k) (by (simp only[oZ] at *;omega));have L:=get_map (g:=Br) J
    obtain⟨m,rfl⟩:∃m:Nat,l=m:=⟨l.toNat,by omega⟩
    have G:AW a q m=y:=by
     unfold AW;rw [if_pos F.2.2,A];simp [List.getD,K,J]
    have r:m < 6:=by omega
    have p:0+((m:Nat):Int).toNat*1+1<=6:=by omega
    have I:=WW (H:=λi l=>if i < q then AW a i l else if i=q then (if (l:Int)∈(Ac a.al).take k then AW a q l else (q:Int)) else 0) j;have w:=WX (n:=a.nx.length) (q:=q) (v:=y) (H:=λi l=>if i < q then AW a i l else if i=q then (if (l:Int)∈(Ac a.al).take k then AW a q l else (q:Int)) else 0) r
    have t:(On a.nx.length λ(i x:Nat)=>if i=q/\x=m then y else (λ(i l:Nat)=>if i < q then AW a i l else if i=q then (if (l:Int)∈(Ac a.al).take k then AW a q l else (q:Int)) else 0) i x)=On a.nx.length λi l=>if i < q then AW a i l else if i=q then (if (l:Int)∈(Ac a.al).take (k+1) then AW a q l else (q:Int)) else 0:=GR λi _ l _=>by
     try dsimp only
     rw [gc,f];by_cases e:i=q
     ·subst e
      by_cases c:l=m
      ·subst c;simp [G]
      ·have S:¬(l:Int)=(m:Int):=by omega
       simp [c,S]
     ·simp [e]
    refine aK ?_;refine aS (aB ?_);(repeat first|refine tM rfl ?_ |(refine s4 rfl ‹_› rfl ?_ ?_;omega) |refine aU rfl ?_ |refine Aa ?_);refine rG (Ha [9]) (by kernel_rfl) ?_;(repeat first|(refine sM rfl ?_ ?_;first|exact tI|omega) |(refine s4 rfl ‹_› rfl ?_ ?_;omega));(refine Af rfl ?_;refine EO ?_ rfl (by rfl);refine Eb rfl rfl rfl rfl (I) rfl (p) ?_);(repeat first|(refine sM rfl ?_ ?_;first|exact tI|omega) |refine aU rfl ?_ |refine Aa ?_);refine⟨⟨k+1,by (simp only[oZ] at *;omega)⟩,by dsimp only;((simp only[oZ] at *;omega)),[0],?_⟩;rw [w,t];simp[cX,zC,b,ID]
   ·obtain rfl:k=(Ac a.al).length:=by (simp only[oZ] at *;omega)
    have s:=GR (n:=a.nx.length) (H:=λi l=>if i < q then AW a i l else if i=q then (if (l:Int)∈(Ac a.al).take (Ac a.al).length then AW a q l else (q:Int)) else 0) (H':=λi l=>if i < q+1 then AW a i l else 0) λi _ l f=>by
     try dsimp only
     rw [i9];by_cases e:i=q
     ·subst e
      simp only [Nat.lt_irrefl,if_false,if_true,oY];by_cases c:Ep a.al l=true
      ·rw [if_pos (Gq.2 ⟨f,c⟩)]
      ·rw [if_neg (λh=>c (Gq.1 h).2)];unfold AW;rw [if_neg (by simpa using c)]
     ·by_cases c:i < q
      ·rw [if_pos c,if_pos (by omega)]
      ·rw [if_neg c,if_neg e,if_neg (by omega)]
    rw [s];refine aE ?_;(repeat first|(refine sM rfl ?_ ?_;first|exact tI|omega) |refine aU rfl ?_ |refine Aa ?_);refine⟨⟨q+1,by omega⟩,by dsimp only;(omega),[0],?_⟩;simp[cX,zC,b,ID]
 ·obtain rfl:q=a.nx.length:=by (simp only[oZ] at *;omega)
  have t:=GR (n:=a.nx.length) (H:=λi l=>if i < a.nx.length then AW a i l else 0) (H':=λi l=>AW a i l) λi hi l _=>by rw [if_pos hi]
  rw [t];refine aE ?_;(repeat first|refine tM rfl ?_ |refine aU rfl ?_ |refine Aa ?_);refine Au.freeze [0] [(2,.o (.d (.l (Fi a))))] ⟨⟨_,rfl,.o (.full (by simp) rfl (kC a) (by simp [fw]))⟩,trivial⟩ ?_;refine aR ⟨_,rfl,rfl⟩
theorem FP(a:AK)(h:AI a=true):Pure Tryz.prog TB 81 [Bm a] (.o (.d (.l (Fi a)))):=Lv a (VE h)
end Go.Am
namespace Go.Am
open Go
def KD:List Int->List (List Int)->List Int
 | _::zs,c::cs=>c.flatMap λq=>(KD zs cs).map λr=>q*A3 zs+r
 | _,_=>[0]
theorem aM:∀ {zs:List Int} {cs:List (List Int)},Jh zs cs->∀out:List Int,OC zs cs out=out.flatMap λo=>(KD zs cs).map λr=>o*A3 zs+r:=by
 intro zs cs h
 induction h with
 | nil=>intro out;simp [OC,KD,A3]
 | @cons z c zs cs _ _ _ a=>
  intro out;rw [OC,a,List.flatMap_assoc];congr 1;funext o;rw [List.flatMap_map,KD,List.map_flatMap];congr 1;funext q;rw [nV];congr 1;funext r;simp only [d4,A3];rw [pD,p8];omega
theorem X0{zs:List Int}{cs:List (List Int)}(h:Jh zs cs):OC zs cs [0]=KD zs cs:=by
 rw [aM h];simp
theorem KP:∀(zs ws:List Int),A3 (zs++ws)=A3 zs*A3 ws
 | [],ws=>by simp [A3]
 | z::zs,ws=>by simp [A3,KP zs ws,p8]
theorem Sa:∀(zs ws:List Int) (n:Int),(∀w∈ws,0 < w)->EX (zs++ws) n=EX zs (n / A3 ws)++EX ws n
 | [],ws,n,_=>rfl
 | z::zs,ws,n,h=>by
  have hp:=PD h;simp only [n9,EX,Sa zs ws n h,KP];rw [Int.mul_comm (A3 zs),Int.ediv_ediv_of_nonneg (by omega)]
def iU(l:List Sys)(node letter:Int):List (List Int):=l.zipWith (λs q=>Ic s q letter) (EX (l.map (·.st)) node)
theorem gr{l:List Sys}(h:∀s∈l,BA s=true)(d:l.length<=3){letter:Int}(g:0<=letter)(f:letter < 6)(node:Int):Jh (l.map (·.st)) (iU l node letter):=by
 have b:Jj ⟨l,[],[],0,0,0⟩:=⟨h,λa ha=>(by cases ha),d,by simp⟩
 have c:AY ⟨l,[],[],0,0,0⟩=l.map (·.st):=by simp [AY]
 have e:=ML b node;have:=Qg b e g f;rw [c] at this;unfold Xo at this
 simpa [iU] using this
end Go.Am
namespace Go.Am
open Go Go.Proofs
set_option maxHeartbeats 1000000
set_option maxRecDepth 4000
attribute [local irreducible] AO BS Lex A4 Au Spec
variable {TB:Bi}
theorem Dp{P:Program}{Γ:Ctx}{d:Option Tmp}{ty:TypeId}{pos:String}{af:Array Edge}{g:Option (Nat×Bool)}{f:Env}{σ:Ab}{nx:Nat}{t:TypeId}{x:Operand}{c:D}{cs:List D}{n:Nat}[h:DU P t false n](e:ev f x=some (.o (.ip cs)))(b:cs[0]? = some c):AO P TB Γ ⟨d,.load t x,ty,pos,af,g⟩ f σ nx (.o (.d c)):=by
 cases cs with
 | nil=>cases b
 | cons a l=>injection b with b;subst b;exact SW e
theorem gT{es:List Ej}{q l:Int}(d:0<=q/\q < 16)(c:0<=l/\l < 6):(((FF es).drop (q.toNat*6)).drop (l.toNat*1))[0]? = some (iD (BD (Oa es q.toNat l.toNat):Nat)):=by
 rw [nn,nn,Ir (by omega)]
 have b:(q.toNat*6+(l.toNat*1+0)) / 6=q.toNat:=by omega
 have a:(q.toNat*6+(l.toNat*1+0)) % 6=l.toNat:=by omega
 rw [b,a]
end Go.Am
namespace Go.Am
open Go
structure LN where
 p:Int
 l:Int
 ns:List Int
structure fZ where
 seen:List Bool
 fresh:List Int
 found:Bool
def sn(seen:List Bool)(n:Int):Bool:=seen.getD n.toNat false
def TE(goal:Int->Bool)(st:fZ)(n:Int):fZ:=if sn st.seen n then st else ⟨st.seen.set n.toNat true,st.fresh++[n],st.found || goal n⟩
def RE(goal:Int->Bool)(seen:List Bool)(nodes:List Int):fZ:=nodes.foldl (TE goal) ⟨seen,[],false⟩
theorem iF{seen:List Bool}{n m:Int}(a:0<=n/\n.toNat < seen.length)(b:0<=m):sn (seen.set n.toNat true) m=(sn seen m || decide (m=n)):=by
 unfold sn;by_cases h:m=n
 ·subst h;simp [List.getD,a.2]
 ·have:n.toNat≠m.toNat:=by omega
  simp [List.getD,nU this,h]
theorem count_set{seen:List Bool}{k:Nat}(h:seen[k]? = some false):(seen.set k true).count true=seen.count true+1:=by
 induction seen generalizing k with
 | nil=>simp at h
 | cons a l b=>
  cases k with
  | zero=>simp at h;subst h;simp
  | succ k=>
   have:=b (k:=k) (by simpa using h);simp only [List.set_cons_succ,List.count_cons,this];omega
structure iT (goal:Int->Bool) (N:Nat) (seen:List Bool) (nodes:List Int) (st:fZ):Prop where
 len:st.seen.length=N
 snI:∀n:Int,0<=n->(sn st.seen n=true↔sn seen n=true\/n∈nodes)
 fr:∀n:Int,n∈st.fresh↔n∈nodes/\sn seen n=false
 nd:st.fresh.Nodup
 fd:st.found=st.fresh.any goal
 cnt:st.seen.count true=seen.count true+st.fresh.length
theorem Vp{goal:Int->Bool}{N:Nat}{seen:List Bool}{nodes:List Int}(r:seen.length=N)(j:∀n∈nodes,0<=n/\n < N):iT goal N seen nodes (RE goal seen nodes):=by
 have key : ∀ (l done:List Int) (st:fZ),(∀n∈l,0<=n/\n < N)->(∀n∈done,0<=n)->iT goal N seen done st->iT goal N seen (done++l) (l.foldl (TE goal) st):=by
  intro l
  induction l with
  | nil=>intro done st _ _ h;simpa using h
  | cons a l p=>
   intro done st o s h;have ha:=o a (by simp);rw [pF,show done++a::l=(done++[a])++l by simp];refine p (done++[a]) _ (λn j=>o n (by simp [j])) (λn j=>by rcases f9.1 j with f|f;exact s n f;simp at f;omega) ?_;have m:=h.len
   have g:∀n:Int,n∈done++[a]↔n∈done\/n=a:=λn=>by simp
   unfold TE;by_cases b:sn st.seen a=true
   ·rw [if_pos b]
    have f:=(h.snI a ha.1).1 b;refine⟨h.len,λn i=>?_,λn=>?_,h.nd,h.fd,h.cnt⟩
    ·rw [h.snI n i,g]
     constructor
     ·rintro(c|c);exact .inl c;exact .inr (.inl c)
     ·rintro(c|c|rfl);exact .inl c;exact .inr c;exact f
    ·rw [h.fr n,g]
     constructor
     ·rintro⟨c,d⟩;exact⟨.inl c,d⟩
     ·rintro⟨c|rfl,d⟩
      ·exact⟨c,d⟩
      ·rcases f with f|f
       ·rw [f] at d;cases d
       ·exact⟨f,d⟩
   ·rw [if_neg b]
    have f:sn seen a=false/\a∉done:=by
     have c:¬(sn seen a=true\/a∈done):=λd=>b ((h.snI a ha.1).2 d);exact⟨by simpa using λd=>c (.inl d),λd=>c (.inr d)⟩
    have hk:st.seen[a.toNat]? = some false:=by
     unfold sn at b
     have:a.toNat < st.seen.length:=by omega
     simp [List.getD,this] at b;rw [d5 this,b]
    refine⟨by simpa using h.len,λn i=>?_,λn=>?_,?_,?_,?_⟩
    ·rw [iF ⟨ha.1,by omega⟩ i,g,nr,h.snI n i];simp;grind
    ·simp only [f9,pP,h.fr n]
     grind
    ·refine nR.2 ⟨h.nd,by simp,λx q y k=>?_⟩
     simp at k;subst k;intro e;subst e;exact f.2 ((h.fr x).1 q).1
    ·simp [List.any_append,h.fd]
    ·rw [count_set hk,h.cnt];simp;omega
 have:=key nodes [] ⟨seen,[],false⟩ j (by simp) ⟨r,λn _=>by simp,λn=>by simp,.nil,rfl,by simp⟩
 simpa [RE] using this
theorem Pv:∀ {a b c:List Int},TM a b->TM b c->TM a c
 | [],_,_,h,_=>h.elim
 | _::_,[],_,h,_=>h.elim
 | _::_,_::_,[],_,h=>h.elim
 | x::a,y::b,z::c,h,k=>by
  simp only [TM] at *
  rcases h with h|⟨h,d⟩<;>rcases k with k|⟨k,k'⟩
  ·exact .inl (by omega)
  ·exact .inl (by omega)
  ·exact .inl (by omega)
  ·exact .inr ⟨by omega,Pv d k'⟩
theorem Qy:∀ {a:List Int},¬TM a a
 | [],h=>h
 | x::a,h=>by rcases h with h|⟨_,h⟩;omega;exact Qy h
theorem Fm{a b c:List Int}(h:slt a b)(k:slt b c):slt a c:=by
 unfold slt at *
 rcases h with h|⟨h,d⟩<;>rcases k with k|⟨k,k'⟩
 ·exact .inl (by omega)
 ·exact .inl (by omega)
 ·exact .inl (by omega)
 ·exact .inr ⟨by omega,Pv d k'⟩
theorem JV{a:List Int}:¬slt a a:=by
 rintro(h|⟨_,h⟩);omega;exact Qy h
theorem Tq(a b:List Int):slt a b\/a=b\/slt b a:=by
 rcases ph a.length b.length with h|h|h
 ·exact .inl (.inl h)
 ·rcases Qz h with c|c|c
  ·exact .inl (.inr ⟨h,c⟩)
  ·exact .inr (.inl c)
  ·exact .inr (.inr (.inr ⟨h.symm,c⟩))
 ·exact .inr (.inr (.inl h))
theorem WR{a b:List Int}{l m:Int}(h:slt a b):slt (a++[l]) (b++[m]):=by
 rcases h with h|⟨h,c⟩
 ·exact .inl (by simp;omega)
 ·exact .inr ⟨by simp;omega,(JC h).2 (.inl c)⟩
theorem cP{a:List Int}{l m:Int}(h:l < m):slt (a++[l]) (a++[m]):=.inr ⟨by simp,(JC rfl).2 (.inr ⟨rfl,h⟩)⟩
theorem cR{a b:List Int}{l m:Int}:slt (a++[l]) (b++[m])->slt a b\/a=b/\l < m:=by
 intro h
 rcases Tq a b with c|c|c
 ·exact .inl c
 ·subst c
  rcases h with h|⟨h,e⟩
  ·simp at h
  ·rcases(JC rfl).1 e with d|d
   ·exact absurd d Qy
   ·exact .inr d
 ·exact absurd (Fm h (WR c)) JV
theorem cQ{a:List Int}{l:Int}:slt a (a++[l]):=.inl (by simp)
structure FI (g:Gr) (seen:List Bool) (steps:List LN) (ws:List (List Int)) (i j:Nat):Prop where
 slen:seen.length=g.N
 wlen:ws.length=steps.length
 chain:∀(t:Nat) s,steps[t]? = some s->(s.p = -1/\ws[t]? = some [])\/∃(q:Nat) (w:List Int),s.p=(q:Int)/\q < t/\ws[q]? = some w/\ws[t]? = some (w++[s.l])/\s.l∈g.ls
 rch:∀(t:Nat) s w,steps[t]? = some s->ws[t]? = some w->∀n∈s.ns,reach g w g.s0 n
 ov:∀w∈ws,over g w
 min:∀(t:Nat) s w,steps[t]? = some s->ws[t]? = some w->∀n∈s.ns,∀u,over g u->slt u w->¬reach g u g.s0 n
 ord:ws.Pairwise slt
 par:∀w∈ws,w=[]\/∃(p:Nat) (v:List Int) (l:Int),ws[p]? = some v/\w=v++[l]/\l∈g.ls/\(p < i\/p=i/\∃j',j' < j/\g.ls[j']? = some l)
 snI:∀n:Int,0<=n->(sn seen n=true↔∃s∈steps,n∈s.ns)
 done:∀(t:Nat) s,steps[t]? = some s->∀l,(t < i/\l∈g.ls\/t=i/\∃j',j' < j/\g.ls[j']? = some l)->∀n∈s.ns,∀y∈g.succ n l,sn seen y=true
 nogoal:∀s∈steps,∀n∈s.ns,g.goal n=false
 inn:∀s∈steps,∀n∈s.ns,0<=n/\n < g.N
 start:sn seen g.s0=true
 cnt:steps.length<=seen.count true
 le:i<=steps.length
 nd:∀s∈steps,s.ns.Nodup
theorem FI.jI{g:Gr}{seen:List Bool}{steps:List LN}{ws:List (List Int)}{i j:Nat}(h:FI g seen steps ws i j):steps.length<=g.N:=by
 have b:=h.cnt;have a:seen.count true<=seen.length:=List.count_le_length;rw [h.slen] at a;omega
theorem FI.fI{g:Gr}(I:LB g){seen:List Bool}{steps:List LN}{ws:List (List Int)}{i j:Nat}(h:FI g seen steps ws i j){wi:List Int}{lj:Int}(hw:ws[i]? = some wi)(P:g.ls[j]? = some lj) :
 ∀(n:Nat) (u:List Int),u.length=n->over g u->slt u (wi++[lj])->∀x,reach g u g.s0 x->sn seen x=true:=by
 intro n
 induction n with
 | zero=>
  intro u B _ _ x p;have:u=[]:=m7.1 B;subst this;have p:g.s0=x:=p;rw [<-p];exact h.start
 | succ n K=>
  intro u B N w x p
  have q:u≠[]:=λe=>by subst e;simp at B
  obtain⟨v,l,rfl⟩:∃v l,u=v++[l]:=⟨u.dropLast,u.getLast q,(qp q).symm⟩
  obtain⟨m,H,F⟩:=FK.1 p;obtain⟨k,J⟩:=Iy.1 N;have G:=K v (by simpa using B) k (Fm cQ w) m H;have r:=ES I k I.s0 H;obtain⟨s,M,c⟩:=(h.snI m r.1).1 G;obtain⟨t,ht⟩:=pB M;obtain⟨wt,a⟩:∃wt,ws[t]? = some wt:=get_some (by have:=(am.1 ht).1;rw [h.wlen];exact this);have y:¬slt v wt:=λd=>h.min t s wt ht a m c v k d H;have f:=cR w
  have L:t<=i:=by
   rcases nh i t with d|d
   ·exfalso
    obtain⟨V,T⟩:=am.1 hw;obtain⟨S,R⟩:=am.1 a;have A:=(nj.1 h.ord) i t V S d;rw [T,R] at A
    rcases Tq v wt with o|o|o
    ·exact y o
    ·subst o
     rcases f with b|⟨b,_⟩
     ·exact JV (Fm A b)
     ·subst b;exact JV A
    ·rcases f with b|⟨b,_⟩
     ·exact JV (Fm (Fm A o) b)
     ·subst b;exact JV (Fm A o)
   ·exact d
  refine h.done t s ht l ?_ m c x F
  rcases nh t i with d|d
  ·exact .inl ⟨d,J⟩
  ·have:t=i:=by omega
   subst this;rw [hw] at a
   injection a with a
   subst a
   rcases f with b|⟨b,Q⟩
   ·exact absurd b y
   ·obtain⟨j',z⟩:=pB J
    exact .inr ⟨rfl,j',gJ I.srt z P Q,z⟩
theorem CP.found{g:Gr}(k:LB g){seen:List Bool}{steps:List LN}{ws:List (List Int)}{i j:Nat}(h:FI g seen steps ws i j){wi:List Int}{lj:Int}(hw:ws[i]? = some wi)(o:g.ls[j]? = some lj){n x:Int}{s:LN}(q:steps[i]? = some s)(r:n∈s.ns)(p:x∈g.succ n lj)(f:g.goal x=true):CP g (some (wi++[lj])):=by
 have t:=ce o;refine⟨Iy.2 ⟨h.ov wi (ce hw),t⟩,⟨x,FK.2 ⟨n,h.rch i s wi q hw n r,p⟩,f⟩,λu m v e=>?_⟩;obtain⟨y,l,a⟩:=v;have b:=h.fI k hw o u.length u rfl m e y l;obtain⟨s',d,c⟩:=(h.snI y (ES k m k.s0 l).1).1 b;rw [h.nogoal s' d y c] at a;cases a
theorem CP.mI{g:Gr}(k:LB g){seen:List Bool}{steps:List LN}{ws:List (List Int)}(h:FI g seen steps ws steps.length 0):CP g none:=by
 have key:∀(n:Nat) (u:List Int),u.length=n->over g u->∀x,reach g u g.s0 x->sn seen x=true:=by
  intro n
  induction n with
  | zero=>
   intro u b _ x a;have:u=[]:=m7.1 b;subst this;have a:g.s0=x:=a;rw [<-a];exact h.start
  | succ n y=>
   intro u b z x a
   have d:u≠[]:=λe=>by subst e;simp at b
   obtain⟨v,l,rfl⟩:∃v l,u=v++[l]:=⟨u.dropLast,u.getLast d,(qp d).symm⟩
   obtain⟨m,w,p⟩:=FK.1 a;obtain⟨f,A⟩:=Iy.1 z;have r:=y v (by simpa using b) f m w;obtain⟨s,q,i⟩:=(h.snI m (ES k f k.s0 w).1).1 r;obtain⟨t,ht⟩:=pB q;exact h.done t s ht l (.inl ⟨(am.1 ht).1,A⟩) m i x p
 rintro u b ⟨x,a,j⟩;have o:=key u.length u rfl b x a;obtain⟨s,q,c⟩:=(h.snI x (ES k b k.s0 a).1).1 o;rw [h.nogoal s q x c] at j;cases j
theorem FI.jN{g:Gr}{seen:List Bool}{steps:List LN}{ws:List (List Int)}{i:Nat}(h:FI g seen steps ws i g.ls.length)(hi:i < steps.length):FI g seen steps ws (i+1) 0:=by
 refine⟨h.slen,h.wlen,h.chain,h.rch,h.ov,h.min,h.ord,λw hw=>?_,h.snI,λt s f l j=>?_,h.nogoal,h.inn,h.start,h.cnt,by omega,h.nd⟩
 ·rcases h.par w hw with b|⟨p,v,l,b,d,c,e⟩
  ·exact .inl b
  ·exact .inr ⟨p,v,l,b,d,c,.inl (by rcases e with e|⟨e,_⟩<;>omega)⟩
 ·refine h.done t s f l ?_
  rcases j with ⟨b,d⟩|⟨_,j',b,_⟩
  ·rcases nh t i with c|c
   ·exact .inl ⟨c,d⟩
   ·obtain⟨j',a⟩:=pB d
    exact .inr ⟨by omega,j',(am.1 a).1,a⟩
  ·omega
def Eh(steps:List LN)(p l:Int)(fresh:List Int):List LN:=if fresh=[] then steps else steps++[⟨p,l,fresh⟩]
def l8(ws:List (List Int))(w fresh:List Int):List (List Int):=if fresh=[] then ws else ws++[w]
structure Chain (ls:List Int) (steps:List LN) (ws:List (List Int)):Prop where
 wlen:ws.length=steps.length
 chain:∀(t:Nat) s,steps[t]? = some s->(s.p = -1/\ws[t]? = some [])\/∃(q:Nat) (w:List Int),s.p=(q:Int)/\q < t/\ws[q]? = some w/\ws[t]? = some (w++[s.l])/\s.l∈ls
theorem FW{U:Type}{l:List U}{x y:U}{t:Nat}(h:(l++[x])[t]? = some y):l[t]? = some y\/t=l.length/\y=x:=by
 rcases nh t l.length with a|a
 ·rw [d8 a] at h;exact .inl h
 ·rw [ge a] at h
  have b:=(am.1 h).1;simp at b
  have:t=l.length:=by omega
  subst this;simp at h;exact .inr ⟨rfl,h.symm⟩
theorem Io{U:Type}{l:List U}{x y:U}{t:Nat}(h:l[t]? = some y):(l++[x])[t]? = some y:=by
 rw [d8 (am.1 h).1];exact h
theorem Chain.app{ls:List Int}{steps:List LN}{ws:List (List Int)}(h:Chain ls steps ws){i:Nat}{wi:List Int}{l:Int}{ns:List Int}(hw:ws[i]? = some wi)(e:l∈ls):Chain ls (steps++[⟨i,l,ns⟩]) (ws++[wi++[l]]):=by
 have hi:=(am.1 hw).1;refine⟨by simp [h.wlen],λt s d=>?_⟩
 rcases FW d with b|⟨b,a⟩
 ·rcases h.chain t s b with ⟨a,c⟩|⟨q,w,a,c,j,g,f⟩
  ·exact .inl ⟨a,Io c⟩
  ·exact .inr ⟨q,w,a,c,Io j,Io g,f⟩
 ·subst a
  refine .inr ⟨i,wi,rfl,?_,Io hw,?_,e⟩
  ·rw [b,<-h.wlen];exact hi
  ·rw [b,<-h.wlen];simp
theorem FI.WY{g:Gr}{seen:List Bool}{steps:List LN}{ws:List (List Int)}{i j:Nat}(h:FI g seen steps ws i j):Chain g.ls steps ws:=⟨h.wlen,h.chain⟩
theorem FI.visit{g:Gr}(P:LB g){seen:List Bool}{steps:List LN}{ws:List (List Int)}{i j:Nat}(h:FI g seen steps ws i j){wi:List Int}{lj:Int}(hw:ws[i]? = some wi)(T:g.ls[j]? = some lj){s:LN}(hs:steps[i]? = some s)
 {R:List Int} (hR:∀y,y∈R↔∃n∈s.ns,y∈g.succ n lj) {st:fZ} (z:iT g.goal g.N seen R st) (hf:st.found=false):FI g st.seen (Eh steps i lj st.fresh) (l8 ws (wi++[lj]) st.fresh) i (j+1):=by
 have hl:=ce T
 have Y:∀y∈R,0<=y/\y < g.N:=λy J=>by
  obtain⟨n,e,J⟩:=(hR y).1 J;exact P.inn n (h.inn s (ce hs) n e) lj hl y J
 have q:∀n:Int,0<=n->sn seen n=true->sn st.seen n=true:=λn e hx=>(z.snI n e).2 (.inl hx)
 have Q:∀n∈st.fresh,g.goal n=false:=λn e=>by
  have:=z.fd;rw [hf] at this;have o:=List.any_eq_false.1 this.symm n e
  simpa using o
 have K:∀w∈ws,w=[]\/∃(p:Nat) (v:List Int) (l:Int),ws[p]? = some v/\w=v++[l]/\l∈g.ls/\(p < i\/p=i/\∃j',j' < j+1/\g.ls[j']? = some l):=λw hw=>by
  rcases h.par w hw with c|⟨p,v,l,c,o,f,k⟩
  ·exact .inl c
  ·refine .inr ⟨p,v,l,c,o,f,?_⟩
   rcases k with k|⟨k,j',h5,h6⟩
   ·exact .inl k
   ·exact .inr ⟨k,j',by omega,h6⟩
 have I:∀(t:Nat) s',steps[t]? = some s'->∀l,(t < i/\l∈g.ls\/t=i/\∃j',j' < j+1/\g.ls[j']? = some l)->∀n∈s'.ns,∀y∈g.succ n l,sn st.seen y=true:=by
  intro t s' d l H n e y J
  have B:0<=y/\y < g.N:=by
   refine P.inn n (h.inn s' (ce d) n e) l ?_ y J
   rcases H with ⟨_,c⟩|⟨_,j',_,c⟩
   ·exact c
   ·exact ce c
  rcases H with c|⟨c,j',o,f⟩
  ·exact q y B.1 (h.done t s' d l (.inl c) n e y J)
  ·subst c
   rcases pO.1 o with k|k
   ·exact q y B.1 (h.done t s' d l (.inr ⟨rfl,j',k,f⟩) n e y J)
   ·subst k
    rw [T] at f
    injection f with f
    subst f;rw [hs] at d
    injection d with d
    subst d;exact(z.snI y B.1).2 (.inr ((hR y).2 ⟨n,e,J⟩))
 unfold Eh l8;by_cases r:st.fresh=[]
 ·rw [if_pos r,if_pos r]
  have L:∀n:Int,0<=n->(sn st.seen n=true↔sn seen n=true):=λn e=>by
   rw [z.snI n e];refine⟨λc=>?_,.inl⟩
   rcases c with c|c
   ·exact c
   ·rcases Bool.eq_false_or_eq_true (sn seen n) with o|o
    ·exact o
    ·have:=(z.fr n).2 ⟨c,o⟩
     rw [r] at this;cases this
  refine⟨z.len,h.wlen,h.chain,h.rch,h.ov,h.min,h.ord,K,λn e=>by rw [L n e];exact h.snI n e,I,h.nogoal,h.inn,q _ P.s0.1 h.start,?_,h.le,h.nd⟩;rw [z.cnt,r];exact h.cnt
 ·rw [if_neg r,if_neg r]
  have V:=h.WY.app (ns:=st.fresh) hw hl;have x:∀n∈st.fresh,n∈R/\sn seen n=false:=λn e=>(z.fr n).1 e
  have X:∀w∈ws,slt w (wi++[lj]):=by
   intro w F
   rcases h.par w F with rfl|⟨p,v,l,c,rfl,f,k⟩
   ·exact .inl (by simp)
   ·rcases k with k|⟨k,j',h5,h6⟩
    ·obtain⟨a1,a2⟩:=am.1 c
     obtain⟨b1,b2⟩:=am.1 hw;have Z:=(nj.1 h.ord) p i a1 b1 k;rw [a2,b2] at Z;exact WR Z
    ·subst k
     rw [hw] at c
     injection c with c
     subst c;obtain⟨a1,a2⟩:=am.1 h6;obtain⟨b1,b2⟩:=am.1 T;have Z:=(nj.1 P.srt) j' j a1 b1 h5;rw [a2,b2] at Z;exact cP Z
  have M:∀n∈st.fresh,∃m∈s.ns,n∈g.succ m lj:=λn e=>(hR n).1 (x n e).1;refine⟨z.len,V.wlen,V.chain,λt s' w d G n e=>?_,λw F=>?_,λt s' w d G n e u hu S hr=>?_,?_,λw F=>?_,λn e=>?_,λt s' d l H n e y J=>?_,λs' d n e=>?_,λs' d n e=>?_,q _ P.s0.1 h.start,?_,?_,λs' d=>?_⟩
  ·rcases FW d with c|⟨c,o⟩
   ·rcases FW G with f|⟨f,k⟩
    ·exact h.rch t s' w c f n e
    ·have:=(am.1 c).1
     rw [h.wlen] at f;omega
   ·subst o
    rcases FW G with f|⟨f,k⟩
    ·have:=(am.1 f).1
     rw [h.wlen] at this;omega
    ·subst k
     obtain⟨m,hm,hnm⟩:=M n e;exact FK.2 ⟨m,h.rch i s wi hs hw m hm,hnm⟩
  ·rcases f9.1 F with c|c
   ·exact h.ov w c
   ·simp at c;subst c
    exact Iy.2 ⟨h.ov wi (ce hw),hl⟩
  ·rcases FW d with c|⟨c,o⟩
   ·rcases FW G with f|⟨f,k⟩
    ·exact h.min t s' w c f n e u hu S hr
    ·have:=(am.1 c).1
     rw [h.wlen] at f;omega
   ·subst o
    rcases FW G with f|⟨f,k⟩
    ·have:=(am.1 f).1
     rw [h.wlen] at this;omega
    ·subst k
     have:=h.fI P hw T u.length u rfl hu S n hr;rw [(x n e).2] at this;cases this
  ·refine oK.2 ⟨h.ord,by simp,λa ha b hb=>?_⟩
   simp at hb;subst hb;exact X a ha
  ·rcases f9.1 F with c|c
   ·rcases K w c with o|⟨p,v,l,o,f,k,h5⟩
    ·exact .inl o
    ·exact .inr ⟨p,v,l,Io o,f,k,h5⟩
   ·simp at c;subst c
    exact .inr ⟨i,wi,lj,Io hw,rfl,hl,.inr ⟨rfl,j,by omega,T⟩⟩
  ·rw [z.snI n e,h.snI n e]
   constructor
   ·rintro(⟨s',d,A⟩|hnR)
    ·exact⟨s',m9 _ d,A⟩
    ·rcases Bool.eq_false_or_eq_true (sn seen n) with o|o
     ·obtain⟨s',d,A⟩:=(h.snI n e).1 o
      exact⟨s',m9 _ d,A⟩
     ·exact⟨⟨i,lj,st.fresh⟩,nI _ (by simp),(z.fr n).2 ⟨hnR,o⟩⟩
   ·rintro⟨s',d,A⟩
    rcases f9.1 d with c|c
    ·exact .inl ⟨s',c,A⟩
    ·simp at c;subst c
     exact .inr (x n A).1
  ·rcases FW d with c|⟨c,o⟩
   ·exact I t s' c l H n e y J
   ·have:=(am.1 hs).1
    rcases H with ⟨f,_⟩|⟨f,_⟩<;>omega
  ·rcases f9.1 d with c|c
   ·exact h.nogoal s' c n e
   ·simp at c;subst c;exact Q n e
  ·rcases f9.1 d with c|c
   ·exact h.inn s' c n e
   ·simp at c;subst c;exact Y n (x n e).1
  ·have c:=z.cnt
   have o:=h.cnt;have f:0 < st.fresh.length:=pE.2 r;simp;omega
  ·have:=h.le;simp;omega
  ·rcases f9.1 d with c|c
   ·exact h.nd s' c
   ·simp at c;subst c;exact z.nd
theorem FI.init{g:Gr}(p:LB g){st:fZ}(i:iT g.goal g.N (List.replicate g.N false) [g.s0] st)(q:st.found=false):st.fresh=[g.s0]/\FI g st.seen [⟨-1,0,[g.s0]⟩] [[]] 0 0:=by
 have hno:∀n,sn (List.replicate g.N false) n=false:=λn=>by
  unfold sn;by_cases h:n.toNat < g.N<;>simp [List.getD,h]
 have d:∀n,n∈st.fresh↔n=g.s0:=λn=>by rw [i.fr n];simp [hno]
 have j:st.fresh=[g.s0]:=by
  have f:=i.nd;generalize st.fresh=l at d f
  cases l with
  | nil=>have:=(d g.s0).2 rfl;cases this
  | cons a l=>
   have ha:=(d a).1 (by simp);subst ha
   cases l with
   | nil=>rfl
   | cons b l=>
    have hb:=(d b).1 (by simp);subst hb;simp at f
 refine⟨j,?_⟩
 have k:g.goal g.s0=false:=by
  have:=i.fd;rw [q,j] at this
  simpa using this.symm
 have one:∀(t:Nat) (s:LN),[(⟨-1,0,[g.s0]⟩:LN)][t]? = some s->t=0/\s=⟨-1,0,[g.s0]⟩:=λt s h=>by
  cases t with
  | zero=>simp at h;exact⟨rfl,h.symm⟩
  | succ t=>simp at h
 have one':∀(t:Nat) (w:List Int),[([]:List Int)][t]? = some w->w=[]:=λt w h=>by
  cases t with
  | zero=>exact(Option.some.inj h).symm
  | succ t=>simp at h
 refine⟨i.len,rfl,λt s c=>?_,λt s w c hw n e=>?_,λw hw=>?_,λt s w c hw n e u _ m=>?_,by simp,λw hw=>by simp at hw;exact .inl hw,λn e=>?_,λt s c l o n e y r=>?_,λs c n e=>?_,λs c n e=>?_,?_,?_,by simp,λs c=>?_⟩
 ·obtain⟨rfl,rfl⟩:=one t s c;exact .inl ⟨rfl,rfl⟩
 ·obtain⟨rfl,rfl⟩:=one t s c
  have:=one' 0 w hw;subst this;simp at e;subst e;exact(rfl:g.s0=g.s0)
 ·simp at hw;subst hw;exact λl o=>(by cases o)
 ·have:=one' t w hw
  subst this
  rcases m with f|⟨_,f⟩
  ·simp at f
  ·cases u<;>exact f.elim
 ·rw [i.snI n e];simp [hno]
 ·rcases o with ⟨f,_⟩|⟨_,j',f,_⟩<;>omega
 ·simp at c;subst c;simp at e;subst e;exact k
 ·simp at c;subst c;simp at e;subst e;exact p.s0
 ·exact(i.snI _ p.s0.1).2 (.inr (by simp))
 ·rw [i.cnt,j];simp
 ·simp at c;subst c;simp
theorem CP.start{g:Gr}(h:g.goal g.s0=true):CP g (some []):=
 ⟨λl c=>(by cases c),⟨g.s0,rfl,h⟩,λu _ _ a=>by rcases a with b|⟨_,b⟩;(simp at b);(cases u<;>exact b.elim)⟩
end Go.Am
namespace Go.Am
open Go Go.Proofs
set_option maxHeartbeats 1000000
set_option maxRecDepth 4000
attribute [local irreducible] AO BS Lex A4 Au Spec
variable {TB:Bi}
def Eg(bs:List UInt8)(k i:Nat):UInt8:=if i < k\/bs.length<=i+k then bs.getD (bs.length - 1 - i) 0 else bs.getD i 0
theorem iA(bs:List UInt8):(Bq bs.length λi=>Fw (Eg bs 0 i))=bs.map Fw:=by
 apply nH;intro i;by_cases hi:i < bs.length
 ·rw [Dr (g:=λi=>Fw (Eg bs 0 i)) hi]
  unfold Eg;rw [if_neg (by omega)];simp [List.getD,hi]
 ·rw [i8 (by simp [Bq];omega),i8 (by simp;omega)]
theorem cD(bs:List UInt8){k:Nat}(hk:bs.length<=2*k+1):(Bq bs.length λi=>Fw (Eg bs k i))=bs.reverse.map Fw:=by
 apply nH;intro i;by_cases hi:i < bs.length
 ·rw [Dr (g:=λi=>Fw (Eg bs k i)) hi]
  unfold Eg
  have b:bs.reverse[i]? = some (bs.getD (bs.length - 1 - i) 0):=by
   rw [List.getElem?_reverse hi]
   have:bs.length - 1 - i < bs.length:=by omega
   simp [List.getD,this]
  rw [d9,b];by_cases a:i < k\/bs.length<=i+k
  ·rw [if_pos a];rfl
  ·rw [if_neg a]
   have:bs.length - 1 - i=i:=by omega
   rw [this];rfl
 ·rw [i8 (by simp [Bq];omega),i8 (by simp;omega)]
theorem fe(r:Nat->Nat)(l:List UInt8):(l.map Fw).map (C.BK r)=l.map Fw:=by
 rw [nV];exact nu λc _=>rfl
theorem JR(r:Nat->Nat)(c:UInt8):C.BK r (Fw c)=Fw c:=rfl
theorem NM(r:Nat->Nat)(n:Nat)(H:Nat->UInt8):(Bq n λi=>Fw (H i)).map (C.BK r)=Bq n λi=>Fw (H i):=by
 unfold Bq;rw [nV];exact nu λi _=>rfl
theorem Jz{n q:Nat}{H:Nat->UInt8}(h:q < n):(Bq n λi=>Fw (H i))[0+((q:Nat):Int).toNat]? = some (Fw (H q)):=by
 rw [ms,f6];exact Dr (g:=λi=>Fw (H i)) h
theorem Ml{n q:Nat}{H:Nat->UInt8}{c d:UInt8}:(Bq n λi=>Fw (H i)).set (0+((q:Nat):Int).toNat) (Ae (Fw d) 0 (eC (eI .u8 (c.toNat:Nat))))=Bq n λi=>Fw (if i=q then c else H i):=by
 rw [ms,f6];have e:Ae (Fw d) 0 (eC (eI .u8 (c.toNat:Nat)))=Fw c:=rfl;rw [e,KR];refine CQ λi _=>?_;by_cases h:i=q<;>simp [h]
theorem UT(bs:List UInt8)(hb:bs.length<=1099511627776):Spec Tryz.prog TB 271 [(0,.cells 5 1 (bs.map Fw))] 1 [.o (.arr 0 1 0 bs.length)] (λx σ nx=>x=.t []/\nx=1/\σ=[(0,.cells 5 1 (bs.reverse.map Fw))]):=by
 refine eN Tryz.func271 rfl (by kernel_rfl) rfl ?_;intro Γ b;(repeat first|(refine sM rfl ?_ ?_;first|exact tI|omega) |refine aU rfl ?_ |refine Aa ?_);refine aB ?_;refine Au.BV (U:={k:Nat // k<=bs.length}) (λ⟨k,hk⟩=>[(0,.o (.arr 0 1 0 bs.length)),(2,eI .i64 k),(3,eI .i64 ((bs.length:Int) - 1 - k))]) (λ⟨k,hk⟩=>[(0,.cells 5 1 (Bq bs.length λi=>Fw (Eg bs k i)))]) 1 (λ⟨k,hk⟩=>bs.length - k) (⟨0,by omega⟩) [0] (IS b rfl rfl) (by (simp[cX,zC,b,NM,iA,JR])) ?_;rintro⟨k,hk⟩;(try dsimp only);(repeat first|refine tM rfl ?_ |refine s2 rfl λ_ B=>?_ |refine aU rfl ?_ |refine Aa ?_);(refine aC rfl ?_ ?_<;>rintro⟨⟩)
 ·have u:2*k+1 < bs.length:=by (simp only[oZ] at *;omega)
  obtain⟨m,F⟩:∃m:Nat,m=bs.length - 1 - k:=⟨_,rfl⟩
  have A:(bs.length:Int) - 1 - k=((m:Nat):Int):=by omega
  have l:Eg bs k k=bs.getD k 0:=by unfold Eg;rw [if_neg (by omega)]
  have h:Eg bs k m=bs.getD m 0:=by unfold Eg;rw [if_neg (by omega)]
  have w:=Jz (H:=Eg bs k) (q:=k) (n:=bs.length) (by omega);have v:=Jz (H:=Eg bs k) (q:=m) (n:=bs.length) (by omega);have e:=Ml (n:=bs.length) (q:=k) (H:=Eg bs k) (c:=Eg bs k m) (d:=Eg bs k k);have a:=Jz (H:=λi=>if i=k then Eg bs k m else Eg bs k i) (q:=m) (n:=bs.length) (by omega);have f:=Ml (n:=bs.length) (q:=m) (H:=λi=>if i=k then Eg bs k m else Eg bs k i) (c:=Eg bs k k) (d:=Eg bs k m)
  have g:m≠k:=by omega
  rw [if_neg g] at a
  have y:(Bq bs.length λi=>Fw (if i=m then Eg bs k k else if i=k then Eg bs k m else Eg bs k i))=Bq bs.length λi=>Fw (Eg bs (k+1) i):=CQ λi hi=>by
   congr 1;by_cases s:i=m
   ·subst s;rw [if_pos rfl,l];unfold Eg;rw [if_pos (by omega)];congr 1;omega
   ·rw [if_neg s]
    by_cases r:i=k
    ·subst r;rw [if_pos rfl,h];unfold Eg;rw [if_pos (by omega)];congr 1
    ·rw [if_neg r];unfold Eg
     by_cases p:i < k\/bs.length<=i+k
     ·rw [if_pos p,if_pos (by omega)]
     ·rw [if_neg p,if_neg (by omega)]
  rw [<-e] at a;rw [A];refine aK ?_;refine aS (aB ?_);refine rG (mJ [13,15] [2,3]) (by kernel_rfl) ?_;(repeat first|(refine sM rfl ?_ ?_;first|exact tI|omega) |refine t4 rfl ‹_› rfl ?_ |refine aU rfl ?_ |refine Aa ?_);refine⟨⟨k+1,by omega⟩,by dsimp only;(omega),[0],?_⟩;rw [e,f,y]
  have z:(m:Int) - 1=bs.length - 1 - (k+1):=by omega
  simp[cX,zC,b,NM,z]
 ·have j:bs.length<=2*k+1:=by (simp only[oZ] at *;omega)
  rw [cD bs j];exact aE ⟨_,rfl,rfl,rfl,rfl⟩
abbrev fU(s:LN):List D:=[iD s.p,iD s.l,Da s.ns]
abbrev N0(s:LN):List C:=[.d (iD s.p),.d (iD s.l),.d (Da s.ns)]
abbrev cT(l:List LN):D:=.l (l.map fU)
theorem XX{l:Int}(e:0<=l)(c:l < 6):Fw (UInt8.ofNat (97+l.toNat))=[.d (.v (.int .u8 (97+l)))]:=by
 have b:(97+l.toNat) % 256=97+l.toNat:=nF (by omega)
 have a:(97+l:Int)=((97+l.toNat:Nat):Int):=by omega
 simp [Fw,b,a]
theorem fz(o:List Int):(Ei o).reverse=Ei o.reverse:=by simp [Ei]
theorem SO{ls:List Int}{steps:List LN}{ws:List (List Int)}(h:Chain ls steps ws)(I:∀l∈ls,0<=l/\l < 6){w:List Int}(n:1<=steps.length/\steps.length<=2097152)(hw:ws[steps.length - 1]? = some w):Pure Tryz.prog TB 215 [.o (.d (cT steps))] (eT (Ei w)):=by
 refine eN Tryz.func215 rfl (by kernel_rfl) rfl ?_;intro Γ a;(repeat first|refine tM rfl ?_ |refine aU rfl ?_ |refine Aa ?_);(refine pW rfl ?_ rfl (by rfl);refine HU 1 5 ?_);(repeat first|refine sN rfl ?_ |(refine sM rfl ?_ ?_;first|exact tI|omega) |refine aU rfl ?_ |refine Aa ?_);refine aB ?_;refine Au.BV (U:={x:Nat×List Int // x.1+x.2.length < steps.length/\∃v,ws[x.1]? = some v/\w=v++x.2.reverse}) (λ⟨⟨i,o⟩,z⟩=>[(0,.o (.d (cT steps))),(3,.o (.arr 0 1 0 o.length)),(4,eI .i64 i)]) (λ⟨⟨i,o⟩,z⟩=>[(0,.cells 5 1 ((Ei o).map Fw))]) 1 (λ⟨⟨i,o⟩,z⟩=>i) (⟨(steps.length - 1,[]),by simp;omega,w,hw,by simp⟩) [0] (IS a rfl rfl) (by (simp[cX,zC,a,Ei,Int.ofNat_sub,n.1])) ?_;rintro⟨⟨i,o⟩,z⟩;(try dsimp only);obtain⟨hi,v,B,b⟩:=z;simp only at hi B b;obtain⟨s,K⟩:=get_some (l:=steps) (k:=i) (by omega);have Q:=get_map (g:=fU) K;have t:=h.chain i s K
 have G:(Ei o).length=o.length:=by simp [Ei]
 (repeat first|refine tM rfl ?_ |(refine s4 rfl ‹_› rfl ?_ ?_;omega) |refine s2 rfl λ_ V=>?_ |refine aU rfl ?_ |refine Aa ?_);(refine aC rfl ?_ ?_<;>rintro⟨⟩)
 ·obtain⟨q,u,S,R,H,y,T⟩:∃(q:Nat) (u:List Int),s.p=(q:Int)/\q < i/\ws[q]? = some u/\ws[i]? = some (u++[s.l])/\s.l∈ls:=by
   rcases t with ⟨e,_⟩|e
   ·exfalso;(simp only[oZ] at *;omega)
   ·exact e
  have c:=I _ T;rw [B] at y
  injection y with y
  have J:=XX c.1 c.2
  have F:Ei (o++[s.l])=Ei o++[UInt8.ofNat (97+s.l.toNat)]:=by simp [Ei]
  have j:(Ei (o++[s.l])).map Fw=(Ei o).map Fw++[[.d (.v (.int .u8 (97+s.l)))]]:=by rw [F,nO,nX,J];rfl
  refine aK ?_;refine aS (aB ?_);(repeat first|refine tA rfl ?_ |(refine s4 rfl ‹_› rfl ?_ ?_;omega) |refine sP rfl (Gp s.l c.1 (by omega)) rfl ?_ |refine aU rfl ?_);(refine pW rfl ?_ rfl (by rfl);refine Aj rfl rfl rfl (by first| (simp;done)|(simp;(omega))) rfl (by intro r L;simp at L;subst L;rfl) (by rfl) (co rfl) (by simp;omega) ?_);(repeat first|refine tX rfl ?_ |(refine s4 rfl ‹_› rfl ?_ ?_;omega) |refine aU rfl ?_ |refine Aa ?_);refine⟨⟨(q,o++[s.l]),by simp;omega,u,H,by rw [b,y];simp⟩,by dsimp only;omega,[1],?_⟩;dsimp only;rw [j];simp[cX,zC,a,S,JR]
 ·have A:v=[]:=by
   rcases t with ⟨_,e⟩|⟨q,u,e,_⟩
   ·rw [B] at e;injection e
   ·exfalso;(simp only[oZ] at *;omega)
  subst A
  have f:w=o.reverse:=by rw [b];rfl
  have m:=UT (TB:=TB) (Ei o) (by omega);rw [G,fz,<-f] at m;refine aE ?_;(repeat first|refine tM rfl ?_ |refine aU rfl ?_);(refine pW rfl ?_ rfl (by rfl);refine Ag [0] rfl rfl m ⟨rfl,by simp,by simp⟩ rfl (by simp[cX,zC,a,JR]) ?_;rintro X M N ⟨rfl,rfl,rfl⟩ _)
  have P:(Ei w).length=o.length:=by rw [f];simp [Ei]
  (repeat first|refine tM rfl ?_|(refine Af rfl ?_;refine gA rfl ?_;first| refine gQ (WH (Ei w) rfl rfl (by simp;omega) (by rw [pS,fe,lm (by simp;omega)])) (by rfl) ?_) |refine aU rfl ?_ |refine Aa ?_);refine aR ⟨_,rfl,rfl⟩
end Go.Am
