/-
  A system's step from a set of states: walked.
-/
import Derived.Test.YtdipaikojjjebaaGreatDoorPart26
import Derived.Test.YtdipaikojjjebaaGreatDoorPart23
set_option linter.all false
namespace Go.Am
open Go Go.Proofs
set_option maxHeartbeats 1000000
set_option maxRecDepth 4000
attribute [local irreducible] A5 Ck Lex Br Aj Spec
variable {TB:BJ}
theorem VY:∀ {l:List Int},l.Pairwise (· < ·)->(∀x∈l,0<=x)->∀j:Nat,(BH l).testBit j=true↔(j:Int)∈l
 | [],_,_,j=>by simp[BH]
 | x :: r,hp,e,j=>by
  have g:=e x (by simp);have c:=rK.1 hp;have d:=VY c.2 (λy f=>e y (by simp[f])) j;obtain⟨m,n,k⟩:=Ny hp g;rw[n,Nat.testBit_two_pow_mul];rw[k,Nat.testBit_two_pow_mul]at d;rw[lw,<-d];by_cases h:j=x.toNat
  ·subst h
   simp;omega
  ·have b:¬(j:Int)=x:=by omega
   have hb:x.toNat<=j->(2*m+1).testBit (j-x.toNat)=(2*m).testBit (j-x.toNat):=λa=>by
    obtain⟨i,hi⟩:∃i,j-x.toNat=i+1:=⟨j-x.toNat-1,by omega⟩
    rw[hi,tc,tc];congr 1;omega
   by_cases a:x.toNat<=j
   ·rw[hb a];simp[b]
   ·simp[a,b]
def EL(m k:Nat):List Int:=((List.range k).filter (m.testBit ·)).map Int.ofNat
theorem UA(m k:Nat):EL m (k+1)=EL m k++if m.testBit k then [(k:Int)] else []:=by
 unfold EL;rw[sT,sj,rI];cases h:m.testBit k<;>simp[h]
theorem Su(m:Nat):∀k,BH (EL m k)=m%2 ^ k
 | 0=>by simp[EL,BH,Nat.mod_one]
 | k+1=>by
  rw[UA,Qo,Su m k,ul,Nat.mod_mul,uA];by_cases h:m / 2 ^ k%2=1
  ·rw[h];simp[BH]
  ·rw[show m / 2 ^ k%2=0 by omega];simp[BH]
theorem QZ(m k:Nat):(EL m k).Pairwise (· < ·):=by
 unfold EL;rw[se]
 exact(List.pairwise_lt_range.filter _).imp λh=>by simpa using h
theorem MP{m k:Nat}{x:Int}(h:x∈EL m k):0<=x/\x<k/\m.testBit x.toNat=true:=by
 unfold EL at h;obtain⟨n,a,rfl⟩:=d9.1 h;obtain⟨c,b⟩:=qX.1 a;have:=pi.1 c;exact⟨by simp,by simp;omega,by simpa using b⟩
theorem SQ{m:Nat}(h:m<65536):m=BH (EL m 16):=by rw[Su];omega
def RC(es:List Ea)(l:Int)(xs:List Int):Nat:=xs.foldl (λa x=>a ||| BH (MM es x.toNat l.toNat)) 0
theorem P6{s:Sys}(b:AU s=true){l:Int}{j:Nat}:∀ {xs:List Int} {a:Nat},(xs.foldl (λa x=>a ||| BH (MM s.es x.toNat l.toNat)) a).testBit j=true↔a.testBit j=true\/∃x∈xs,(j:Int)∈MM s.es x.toNat l.toNat
 | [],a=>by simp
 | x::xs,a=>by
  rw[si,P6 b,sD,qW];have c:=FB b s.es.length x.toNat l.toNat;rw[i8]at c;have e:=VY c (λy d=>(NF b (k:=s.es.length) (by rw[i8];exact d)).1) j;rw[e];simp only[lw,exists_eq_or_imp,or_assoc]
theorem jy{s:Sys}(g:AU s=true){l:Int}(r:0<=l){m:Nat}(n:m<65536):RC s.es l (EL m 16)=Cf s.es l m:=by
 refine sE λj=>?_;rw[sH];unfold RC;rw[P6 g,DN];simp only[vd,tP,false_or];constructor
 ·rintro⟨x,k,h⟩
  obtain⟨q,d,i⟩:=MP k;unfold MM at h;obtain⟨e,a,p⟩:=d9.1 h;obtain⟨c,b⟩:=qX.1 a;simp only[d4,decide_eq_true_eq]at b;exact⟨e,c,⟨by omega,by rw[show e.f.toNat=x.toNat by omega];exact i⟩,by omega⟩
 ·rintro⟨e,a,⟨q,d⟩,i⟩
  have hb:=C8 g a;unfold DA at hb;simp only[d4,decide_eq_true_eq]at hb;have o:=LN n d;refine⟨e.f,?_,?_⟩
  ·unfold EL
   exact d9.2 ⟨e.f.toNat,qX.2 ⟨pi.2 o,d⟩,by simp;omega⟩
  ·unfold MM
   refine d9.2 ⟨e,qX.2 ⟨a,?_⟩,by omega⟩;simp only[d4,decide_eq_true_eq];omega
theorem jz{s:Sys}(b:AU s=true){l:Int}{xs:List Int}:RC s.es l xs<65536:=JU λj a=>by
 unfold RC at a;rw[P6 b]at a;simp only[vd,tP,false_or]at a;obtain⟨x,_,c⟩:=a;have:=NF b (k:=s.es.length) (by rw[i8];exact c);omega
theorem OL{a b:Nat}(ha:a<2 ^ 62)(hb:b<2 ^ 62):Gu .i64 (a:Nat) (b:Nat)=((a ||| b:Nat):Int):=by
 have d:a ||| b<2 ^ 62:=sZ ha hb;unfold Gu
 have c:(BitVec.ofInt IntKind.i64.bits (a:Int) ||| BitVec.ofInt IntKind.i64.bits (b:Int)).toNat=a ||| b:=by
  have e:IntKind.i64.bits=64:=rfl;rw[e];simp only[BitVec.toNat_or,BitVec.ofInt_natCast,BitVec.toNat_ofNat];rw[rt (by omega),rt (by omega)]
 rw[c];exact IntWalk.i64_in _ (by omega)
theorem jZ[EK TB]{s:Sys}(r:AU s=true){l:Int}(F:0<=l/\l<6){m:Nat}(u:m<65536):Pure Tryz.prog TB 93 [.o (.ip (Gc s.es)),eI .i64 (m:Nat),eI .i64 l] (eI .i64 (Cf s.es l m:Nat)):=by
 rw[<-jy r F.1 u];rw[SQ u]
 have hb:∀x∈EL m 16,0<=x/\x<16:=λx h=>⟨(MP h).1,(MP h).2.1⟩
 have hp:=QZ m 16;rw[<-SQ u]
 conv=>arg 4;rw[SQ u]
 generalize EL m 16=xs at *;refine eG Tryz.func93 rfl (by kernel_rfl) rfl ?_;intro U c;(repeat first|refine tA rfl ?_|refine aU rfl ?_|apply Aa);apply aB;refine aL (α:={k:Nat // k<=xs.length}) [0,2] [] rfl rfl (λ⟨k,hk⟩=>[(1,eI .i64 (BH (xs.drop k):Nat)),(7,eI .i64 (RC s.es l (xs.take k):Nat))]) (λ⟨k,hk⟩=>[]) 0 (λ⟨k,hk⟩=>xs.length-k) (⟨0,by omega⟩) c rfl (by (simp[cX,zC,c]<;>rfl)) ?_;rintro⟨k,hk⟩;(try dsimp only[cA,cB]);by_cases A:k<xs.length
 ·obtain⟨x,h⟩:=get_some A
  have B:=Bv h;have d:=hb x (co h)
  have f:(x::xs.drop (k+1)).Pairwise (· < ·):=by rw[<-B];exact hp.sublist (List.drop_sublist _ _)
  have z:BH (x::xs.drop (k+1))<2 ^ 16:=by
   refine Mr f λy q=>?_;rw[<-B]at q;exact hb y (sQ q)
  have w:=JK (x:=x) (l:=xs.drop (k+1));have p:=VZ f d.1 (by omega);have n:=RY f d.1 (by omega);rw[<-B]at z w p n;have e:=kN (TB:=TB) (BH (xs.drop k)) (by omega) (by omega);rw[p]at e
  have ex:((x.toNat:Nat):Int)=x:=by omega
  rw[ex]at e;have i:=FB r s.es.length x.toNat l.toNat;rw[i8]at i;have G:BH (MM s.es x.toNat l.toNat)<65536:=Mr (t:=16) i λy q=>NF r (k:=s.es.length) (by rw[i8];exact q);have H:RC s.es l (xs.take k)<65536:=jz r;have j:=OL (a:=RC s.es l (xs.take k)) (b:=BH (MM s.es x.toNat l.toNat)) (by omega) (by omega)
  have v:RC s.es l (xs.take (k+1))=RC s.es l (xs.take k) ||| BH (MM s.es x.toNat l.toNat):=by unfold RC;rw[i7,h,tT];rfl
  rw[<-v]at j;(repeat first|refine tA rfl ?_|refine s2 rfl λ_ g=>?_|refine aU rfl ?_|apply Aa)
  ((refine aC rfl ?_ ?_<;>rintro⟨⟩);all_goals try(exfalso;(simp only[oZ] at *;omega)))
  apply aK;refine aS (aB ?_);refine rG (Hz []) (by kernel_rfl) ?_;(repeat first|(refine sA rfl ?_ ?_;first|exact tI|omega)|refine sP rfl (e) rfl ?_|(refine Al rfl ?_;refine gA rfl ?_;first|refine gS (λ_ _=>DO rfl (fm d F)) ?_)|refine aU rfl ?_|apply Aa);refine⟨⟨k+1,by omega⟩,by dsimp only;(omega),[],?_⟩;simp[cX,zC,c,j,n]
 ·obtain rfl:k=xs.length:=by omega
  rw[i8];(repeat first|refine tA rfl ?_|refine s2 rfl λ_ g=>?_|refine aU rfl ?_|apply Aa);(refine aC rfl ?_ ?_<;>rintro⟨⟩)
  ·exfalso
   rw[tK]at g;simp[BH]at g
  apply aE;(repeat first|refine tA rfl ?_|refine aU rfl ?_|apply Aa);(subst_vars;exact aR ⟨_,rfl,rfl⟩)
def Ht(F:PS):List Int:=[(F 0:Nat),(F 1:Nat),(F 2:Nat),(F 3:Nat),(F 4:Nat),(F 5:Nat),(F 6:Nat),(F 7:Nat),(F 8:Nat),(F 9:Nat),(F 10:Nat),(F 11:Nat)]
abbrev N9(F:PS):List C:=ql .u16 (Ht F)
abbrev mc(F:PS):E:=jb .u16 (Ht F)
theorem Kl{F:PS}{p:Nat}(h:p<12):(Ht F)[p]?=some (F p:Int):=by
 obtain rfl|rfl|rfl|rfl|rfl|rfl|rfl|rfl|rfl|rfl|rfl|rfl:p=0\/p=1\/p=2\/p=3\/p=4\/p=5\/p=6\/p=7\/p=8\/p=9\/p=10\/p=11:=by omega
 all_goals rfl
theorem OV{F:PS}{p:Nat}(h:p<12):(N9 F)[p]?=some (.d (.v (.int .u16 (F p:Int)))):=by simp[Kl h]
theorem Sm{F G:PS}(h:∀p,p<12->F p=G p):Ht F=Ht G:=by
 unfold Ht;rw[h 0 (by omega),h 1 (by omega),h 2 (by omega),h 3 (by omega),h 4 (by omega),h 5 (by omega),h 6 (by omega),h 7 (by omega),h 8 (by omega),h 9 (by omega),h 10 (by omega),h 11 (by omega)]
theorem TN{F G:PS}(h:Ht F=Ht G):∀p,p<12->F p=G p:=λp hp=>by
 have:=Kl (F:=F) hp;rw[h,Kl hp]at this
 injection this with this
 omega
theorem ZQ{F:PS}{p:Nat}(h:p<12){v:Nat}:Ae (N9 F) p [.d (.v (.int .u16 (v:Int)))]=N9 λi=>if i=p then v else F i:=by
 have b:(N9 F).length=12:=by simp[Ht]
 rw[IW (by omega)];apply sw;intro i;rw[uT];by_cases hi:i<12
 ·rw[OV hi,OV hi]
  by_cases e:p=i
  ·subst e;rw[if_pos rfl,if_pos (by omega),if_pos rfl]
  ·rw[if_neg e,if_neg (λh=>e h.symm)]
 ·have a:∀G:PS,(N9 G)[i]?=none:=λG=>qT (by simp[Ht];omega)
  rw[a,a];by_cases e:p=i
  ·omega
  ·rw[if_neg e]
theorem u16_in{n:Nat}(h:n<65536):IntKind.u16.wrap (n:Int)=n:=by
 unfold IntKind.wrap;simp[IntKind.bits,IntKind.signed,IntKind.min,IntKind.max];omega
instance:GK Tryz.prog 150 12 .u16:=⟨⟨148,⟨by kernel_rfl,by kernel_rfl,by kernel_rfl,by kernel_rfl⟩,by kernel_rfl⟩,by kernel_rfl,λh=>by
 have a:Nat.beq Tryz.prog.types.size 0=false:=by kernel_rfl
 rw[h]at a;cases a⟩
def Ed(t:Ch)(l:Int)(F:PS)(k:Nat):PS:=λp':Nat=>(List.range k).foldl (λa p=>if Bg t.q p l=(p':Int) then a ||| Df t.s l (F p) else a) 0
theorem J6{t:Ch}{l:Int}{F:PS}{k:Nat}:Ed t l F (k+1)=λp':Nat=>if Bg t.q k l=(p':Int) then Ed t l F k p' ||| Df t.s l (F k) else Ed t l F k p':=by
 funext p';unfold Ed;rw[sT,tT];rfl
theorem YB{s:Sys}{l:Int}:Df s l 0=0:=by
 unfold Df;split
 ·exact HN λj=>by
   cases h:(Cf s.es l 0).testBit j
   ·rfl
   ·obtain⟨e,_,⟨_,a⟩,_⟩:=DN.1 h
    simp at a
 ·rfl
theorem Sh{t:Ch}{l:Int}{F:PS}{k:Nat}(h:F k=0):Ed t l F (k+1)=Ed t l F k:=by
 rw[J6];funext p';rw[h,YB];split<;>simp
theorem fk{t:Ch}{l:Int}{F:PS}(h:CR t F)(b:t.q.nx.length<=12):Ed t l F 12=WW t l F:=by
 have key:∀k,Ed t l F (t.q.nx.length+k)=Ed t l F t.q.nx.length:=λk=>by
  induction k with
  | zero=>rfl
  | succ k a=>rw[<-rz,Sh (h.z _ (by omega)),a]
 have:=key (12-t.q.nx.length);rw[show t.q.nx.length+(12-t.q.nx.length)=12 by omega]at this;rw[this];rfl
theorem ZD{t:Ch}(ht:A9 t=true){l:Int}{F:PS}(h:CR t F)(k p:Nat):Ed t l F k p<65536:=by
 induction k with
 | zero=>simp[Ed]
 | succ k a=>
  rw[J6];simp only;have b:=JJ ht (l:=l) (h.lt k);split
  ·have:=sZ (n:=16) a b;omega
  ·exact a
structure Db where
 F:List PS
 nx:List (List Int)
 un:List Bool
abbrev N7(r:List Int):List C:=r.map λx=>.d (iD x)
def Nm(F:List PS):List (List Int×Int):=F.zipIdx.map λx=>(Ht x.1,(x.2:Int))
abbrev Qm(t:Ch)(a b c d:C):List C:=[.d (iD t.s.al),.d (iD t.s.st),.d (Em t.s.es),.d (iD t.q.al),.d (Ce t.q.nx),.d (FP t.q.ac),.d (iD t.al),.ip (Gc t.s.es),.d (.l (Dq t.q)),.d (EA (Cg t)),a,b,c,d]
abbrev VX(t:Ch)(m:Db):Ac:=[(0,.cells 89 14 [Qm t (.arr 1 12 0 m.F.length) (.mp 2) (.arr 3 6 0 m.nx.length) (.arr 4 1 0 m.un.length)]),(1,.cells 150 12 (m.F.map N9)),(2,.mp (mapA .u16 (Nm m.F))),(3,.cells 94 6 (m.nx.map N7)),(4,.cells 4 1 (m.un.map AO))]
theorem AT(r:Nat->Nat)(q:IntKind)(l:List Int):C.Cp r (l.map λx=>.d (.v (.int q x)))=l.map λx=>.d (.v (.int q x)):=by
 rw[show (l.map λx=>C.d (.v (.int q x)))=(l.map λx=>D.v (.int q x)).map .d by simp,TV]
theorem P9{P:Program}{U:Ctx}{d:Option Tmp}{ty:TypeId}{pos:String}{af:Array Edge}{g:Option (Nat×Bool)}{f:Env}{σ:Ac}{nx:Nat}{t:TypeId}{x:Operand}{id k i j n:Nat}{T:TypeId}{rows:List (List C)}{r:List C}{c:C}[l:Fa P t false n](a:ev f x=some (.o (.ptr id k i j)))(e:look σ id=some (.cells T k rows))(b:rows[i]?=some r)(h:r[j]?=some c) :
 A5 P TB U ⟨d,.load t x,ty,pos,af,g⟩ f σ nx (.o c):=ZR a e b (show lP false n j r=some (.o c) by unfold lP;rw[h];rfl)
theorem UY{r:List Nat}:∀i,i<5->(0::1::2::3::4::r)[i]?=some i
 | 0,_|1,_|2,_|3,_|4,_=>rfl
 | n+5,h=>by omega
theorem Zs{a b:Nat}(ha:a<65536)(hb:b<65536):Gu .u16 (a:Int) (b:Int)=((a ||| b:Nat):Int):=by
 have d:a ||| b<2 ^ 16:=sZ (by omega) (by omega);unfold Gu
 have c:(BitVec.ofInt IntKind.u16.bits (a:Int) ||| BitVec.ofInt IntKind.u16.bits (b:Int)).toNat=a ||| b:=by
  have e:IntKind.u16.bits=16:=rfl;rw[e];simp only[BitVec.toNat_or,BitVec.ofInt_natCast,BitVec.toNat_ofNat];rw[rt (by omega),rt (by omega)]
 rw[c];exact u16_in (by omega)
theorem ZC[EK TB]{t:Ch}(ht:A9 t=true)(m:Db){l:Int}(n:0<=l/\l<6){F:PS}(A:CR t F):Spec Tryz.prog TB 114 (VX t m) 5 [.o (.ptr 0 14 0 0),mc F,eI .i64 l] (λx σ nx=>x=mc (WW t l F)/\σ=VX t m/\nx=5):=by
 have Q:AU t.s=true:=by unfold A9 at ht;simp only[d4]at ht;exact ht.1
 have ha:=Cr ht;have R:=AB ha;rw[<-fk A (by omega)];refine eR Tryz.func114 rfl (by kernel_rfl) rfl ?_;intro U c;(repeat first|refine tA rfl ?_|refine aU rfl ?_|apply Aa);apply aB;refine aL (α:={k:Nat // k<=12}) [0,2,6,7,11] [0,1,2,3,4,5] rfl rfl (λs=>[(12,eI .i64 s.1)]) (λs=>[(6,.cells 150 12 [N9 (Ed t l F s.1)])]) 7 (λs=>12-s.1) (⟨0,by omega⟩) c rfl (by (simp[cX,zC,c,AT]<;>rfl)) ?_;rintro⟨k,hk⟩;(try dsimp only[cA,cB]);by_cases I:k<12
 ·have P:(Ht F)[((k:Nat):Int).toNat]?=some (F k:Int):=by rw[d8];exact Kl I
  have u:=A.lt k;(repeat first|refine s2 rfl λ_ i=>?_|refine aU rfl ?_|apply Aa)
  ((refine aC rfl ?_ ?_<;>rintro⟨⟩);all_goals try(exfalso;(simp only[oZ] at *;omega)))
  apply aK;refine aS (aB ?_);(repeat first|refine tA rfl ?_|refine s2 rfl λ_ i=>?_|(refine Al rfl ?_;refine gA rfl ?_;first|refine gS (λ_ _=>Ml (l:=Ht F) rfl rfl rfl (by omega) P) ?_)|refine aU rfl ?_|apply Aa);(refine aC rfl ?_ ?_<;>rintro⟨⟩)
  ·have N:F k=0:=by (simp only[oZ] at *;omega)
   apply aE;(repeat first|(refine sA rfl ?_ ?_;first|exact tI|omega)|refine aU rfl ?_|apply Aa);refine⟨⟨k+1,by omega⟩,by dsimp only;(omega),[0,1,2,3,4,5,6],?_⟩;simp[cX,zC,c,AT,Sh N];exact UY
  ·have H:k<t.q.nx.length:=by
    rcases rn k t.q.nx.length with K|K
    ·exact K
    ·have:=A.z k K;(simp only[oZ] at *;omega)
   have ta:=Ks (a:=t.q) (q:=((k:Nat):Int).toNat) (by omega);have ra:=Ih (h:=λl=>Bg t.q k l) n.1 n.2
   have el:((l.toNat:Nat):Int)=l:=by omega
   simp only[el]at ra;have J:=Cn ha H n.1 n.2;have w:=jZ (TB:=TB) Q n u;have y:=JJ ht (l:=l) u;have G:=ZD ht (l:=l) A k
   obtain⟨g,M⟩:∃g:Nat,Bg t.q k l=g:=⟨(Bg t.q k l).toNat,by omega⟩
   rw[M]at ra J;apply aK;(repeat first|(refine sA rfl ?_ ?_;first|exact tI|omega)|(refine sC rfl (PB _ _) ?_;intro _ i)|(refine Al rfl ?_;refine gA rfl ?_;first|refine gS (λ_ _=>TP rfl (IntWalk.i64_in _ (by omega))) ?_)|refine aU rfl ?_|apply Aa)
   have ej:0+((g:Nat):Int).toNat*1=g:=by omega
   have L:(N9 (Ed t l F k))[0+((g:Nat):Int).toNat*1]?=some (.d (.v (.int .u16 (Ed t l F k g:Int)))):=by rw[ej];exact OV (by omega)
   have f:=Zs (G g) y
   have B:Ed t l F (k+1)=λp':Nat=>if p'=g then Ed t l F k g ||| Df t.s l (F k) else Ed t l F k p':=by
    rw[J6,M];funext p';by_cases e:p'=g
    ·subst e;simp
    ·rw[if_neg e,if_neg (by omega)]
   have b:=ZQ (F:=Ed t l F k) (p:=g) (by omega) (v:=Ed t l F k g ||| Df t.s l (F k));rw[<-B]at b;(refine aC rfl ?_ ?_<;>rintro⟨⟩)
   ·have hb:AV t.s.al l.toNat=true:=by simpa[hasB,n.1]using i
    have j:Df t.s l (F k)=Cf t.s.es l (F k):=by unfold Df;rw[if_pos hb]
    rw[<-j]at w;(repeat first|(refine sA rfl ?_ ?_;first|exact tI|omega)|(refine s4 rfl ‹_› rfl ?_ ?_;omega)|refine sP rfl (w) rfl ?_|refine aU rfl ?_|apply Aa);(repeat first|(refine sA rfl ?_ ?_;first|exact tI|omega)|(refine Al rfl ?_;refine gA rfl ?_;first|refine gS (λ_ _=>DO rfl ra) ?_|refine gQ (P9 rfl rfl rfl L) rfl ?_|refine gS (λ_ _=>TP rfl (u16_in y)) ?_|refine gS (λ_ _=>mn rfl rfl f) ?_));(refine Al rfl ?_;refine Gf ?_ rfl (by rfl);refine Ek (r:=N9 (Ed t l F k)) rfl rfl rfl rfl rfl rfl (by show 0+((g:Nat):Int).toNat*1+1<=12;omega) ?_);apply Aa;(repeat first|(refine sA rfl ?_ ?_;first|exact tI|omega)|refine aU rfl ?_|apply Aa);refine⟨⟨k+1,by omega⟩,by dsimp only;(omega),[0,1,2,3,4,5,6],?_⟩;simp[cX,zC,c,AT,f];exact⟨UY,by simpa[Ae]using b⟩
   ·have hb:AV t.s.al l.toNat=false:=by simpa[hasB,n.1]using i
    have j:Df t.s l (F k)=F k:=by unfold Df;rw[if_neg (by simp[hb])]
    rw[j]at f b;apply aK;(repeat first|(refine sA rfl ?_ ?_;first|exact tI|omega)|(refine s4 rfl ‹_› rfl ?_ ?_;omega)|(refine Al rfl ?_;refine gA rfl ?_;first|refine gS (λ_ _=>DO rfl ra) ?_|refine gQ (P9 rfl rfl rfl L) rfl ?_|refine gS (λ_ _=>TP rfl (u16_in u)) ?_|refine gS (λ_ _=>mn rfl rfl f) ?_)|refine aU rfl ?_);(refine Al rfl ?_;refine Gf ?_ rfl (by rfl);refine Ek (r:=N9 (Ed t l F k)) rfl rfl rfl rfl rfl rfl (by show 0+((g:Nat):Int).toNat*1+1<=12;omega) ?_);apply Aa;(repeat first|(refine sA rfl ?_ ?_;first|exact tI|omega)|refine aU rfl ?_|apply Aa);refine⟨⟨k+1,by omega⟩,by dsimp only;(omega),[0,1,2,3,4,5,6],?_⟩;simp[cX,zC,c,AT,f];exact⟨UY,by simpa[Ae]using b⟩
 ·obtain rfl:k=12:=by omega
  (repeat first|refine s2 rfl λ_ i=>?_|refine aU rfl ?_|apply Aa)
  ((refine aC rfl ?_ ?_<;>rintro⟨⟩);all_goals try(exfalso;(simp only[oZ] at *;omega)))
  apply aE;(repeat first|refine tA rfl ?_|refine aU rfl ?_|apply Aa);refine aR ⟨_,rfl,[0,1,2,3,4],mc (Ed t l F 12),VX t m,⟨UY,by decide⟩,rfl,by (simp[cX,zC,c,AT]),rfl,rfl,rfl⟩
def Eh{α:Type}(Q:α->Prop)(g:α->E)(x:E)(σ:Ac)(nx:Nat):Prop:=∃r,Q r/\x=g r/\σ=[]/\nx=0
theorem EI(n:Int):Spec Tryz.prog TB 209 [] 0 [eI .i64 n] (Eh (λr:W=>r.length<=6) eT):=by
 have h:(Ab n).length<=6:=AJ n 6;refine eR Tryz.func209 rfl (by kernel_rfl) rfl ?_;intro U b;(repeat first|refine tA rfl ?_|refine s2 rfl λ_ a=>?_|(refine sC rfl (Di n) ?_;intro _ a)|refine aU rfl ?_|apply Aa);(refine aC rfl ?_ ?_<;>rintro⟨⟩)
 ·(repeat first|refine tA rfl ?_|refine aU rfl ?_|apply Aa)
  refine aR ⟨_,rfl,[],eT [],[],⟨by intro i hi;omega,by decide⟩,rfl,trivial,[],by decide,rfl,rfl,rfl⟩
 apply aK;(repeat first|refine tA rfl ?_|refine s2 rfl λ_ a=>?_|refine aU rfl ?_|apply Aa);(refine aC rfl ?_ ?_<;>rintro⟨⟩)
 ·(repeat first|refine tA rfl ?_|refine aU rfl ?_|apply Aa)
  refine aR ⟨_,rfl,[],eT [45],[],⟨by intro i hi;omega,by decide⟩,rfl,trivial,[45],by decide,rfl,rfl,rfl⟩
 apply aK;(repeat first|refine tA rfl ?_|refine sP rfl (BX n) rfl ?_|refine aU rfl ?_|apply Aa);apply aB;refine aL (α:={s:Nat×W // s.1<=(Ab n).length/\s.2.length=s.1}) [4] [] rfl rfl (λs=>[(3,eT s.1.2),(5,eI .i64 s.1.1)]) (λs=>[]) 0 (λs=>(Ab n).length-s.1.1) (⟨⟨0,[]⟩,by simp⟩) b rfl (by (simp[cX,zC,b])) ?_;rintro⟨⟨k,w⟩,hk,e⟩;(try dsimp only[cA,cB]);have hk:k<=(Ab n).length:=hk;have e:w.length=k:=e;(repeat first|refine sN rfl ?_|refine tA rfl ?_|refine s2 rfl λ_ a=>?_|refine aU rfl ?_|apply Aa)
 ((refine aC rfl ?_ ?_<;>rintro⟨⟩);all_goals try (simp at a;done))
 ·have c:k<(Ab n).length:=by (simp only[oZ] at *;omega)
  obtain⟨l,f⟩:=get_some (l:=Ab n) (k:=k) c;have j:=get_map (g:=Bc) f;have d:=Af (co f);apply aK;refine aS (aB ?_);(repeat first|(refine sA rfl ?_ ?_;first|exact tI|omega|simp only[oZ] at *;omega)|(refine s4 rfl ‹_› rfl ?_ ?_;omega)|refine sP rfl (HW l d.1 (by omega)) rfl ?_|refine aU rfl ?_|apply Aa);refine⟨⟨⟨k+1,w++[UInt8.ofNat (97+l.toNat)]⟩,by dsimp only;omega,by simp;omega⟩,by dsimp only;(omega),[],?_⟩;(simp[cX,zC,b,cN]<;>rfl)
 ·apply aE
  (repeat first|refine tA rfl ?_|refine aU rfl ?_|apply Aa);refine aR ⟨_,rfl,[],eT w,[],⟨by intro i hi;omega,by decide⟩,rfl,trivial,w,by show w.length<=6;omega,rfl,rfl,rfl⟩
theorem HJ(s:W):Spec Tryz.prog TB 168 [] 0 [eT s] (Eh (λ_:Int×Bool=>True) (λr=>.t [(false,[.d (iD r.1)]),(false,[.d (bD r.2)])])):=by
 refine eR Tryz.func168 rfl (by kernel_rfl) rfl ?_;intro U a;(repeat first|refine tA rfl ?_|refine aU rfl ?_|apply Aa);apply aB;refine aL (α:={k:Nat // k<=64}) [0] [] rfl rfl (λs=>[(4,eI .i64 s.1)]) (λs=>[]) 0 (λs=>64-s.1) (⟨0,by omega⟩) a rfl (by (simp[cX,zC,a])) ?_;rintro⟨k,hk⟩;(try dsimp only[cA,cB]);(repeat first|refine tA rfl ?_|refine s2 rfl λ_ b=>?_|refine aU rfl ?_|apply Aa)
 ((refine aC rfl ?_ ?_<;>rintro⟨⟩);all_goals try (simp at b;done))
 ·have f:k<64:=by (simp only[oZ] at *;omega)
  apply aK;refine aS (aB ?_);(repeat first|refine tA rfl ?_|refine aU rfl ?_);(refine pW rfl ?_ rfl (by rfl);refine Ag [] rfl rfl (EI (TB:=TB) (k:Int)) ⟨rfl,by decide,by decide⟩ rfl trivial ?_;rintro g c e ⟨r,h,rfl,rfl,rfl⟩ _);(repeat first|refine tA rfl ?_|refine s2 rfl λ_ b=>?_|apply Aa);(refine aC rfl ?_ ?_<;>rintro⟨⟩)
  ·(repeat first|refine tA rfl ?_|refine aU rfl ?_|apply Aa)
   refine aR ⟨_,rfl,[],.t [(false,[.d (iD k)]),(false,[.d (bD true)])],[],⟨by intro i hi;omega,by decide⟩,rfl,trivial,(k,true),trivial,rfl,rfl,rfl⟩
  ·apply aK
   (repeat first|(refine sA rfl ?_ ?_;first|exact tI|omega)|refine aU rfl ?_|apply Aa);refine⟨⟨k+1,by omega⟩,by dsimp only;(omega),[],?_⟩;(simp[cX,zC,a,cN]<;>rfl)
 ·apply aE
  (repeat first|refine tA rfl ?_|refine aU rfl ?_|apply Aa);refine aR ⟨_,rfl,[],.t [(false,[.d (iD 0)]),(false,[.d (bD false)])],[],⟨by intro i hi;omega,by decide⟩,rfl,trivial,(0,false),trivial,rfl,rfl,rfl⟩
theorem Nh(a:W)(x:a.length<=1000000)(c:UInt8):Spec Tryz.prog TB 167 [] 0 [eT a,eI .u8 c.toNat] (Eh (λr:List W=>1<=r.length/\r.length<=a.length+1/\∀w∈r,w.length<=a.length) Cb):=by
  refine eR Tryz.func167 rfl (by kernel_rfl) rfl ?_;intro U b;(repeat first|refine tX rfl ?_|refine aU rfl ?_|apply Aa);(refine pW rfl ?_ rfl (by rfl);refine A8 rfl rfl rfl rfl (by simp) (by rfl) (by rfl) (by rfl) (by rfl) ?_);(repeat first|refine tX rfl ?_|refine aU rfl ?_|apply Aa);apply aB;refine aL (α:={z:Nat×Nat×List W // z.1<=a.length+1/\z.2.1<=z.1/\z.2.2.length<=z.1/\(z.1=a.length+1->1<=z.2.2.length)/\∀w∈z.2.2,w.length<=a.length}) [0,1] [] rfl rfl (λs=>[(5,.o (.arr 0 1 0 s.1.2.2.length)),(6,eI .i64 s.1.2.1),(7,eI .i64 s.1.1)]) (λs=>[(0,.cells 9 1 (s.1.2.2.map KJ))]) 1 (λs=>a.length+1-s.1.1) (⟨⟨0,0,[]⟩,by simp⟩) b rfl (by (simp[cX,zC,b])) ?_;rintro⟨⟨k,fr,r⟩,hk,t,g,d,n⟩;(try dsimp only[cA,cB]);have hk:k<=a.length+1:=hk;have t:fr<=k:=t;have g:r.length<=k:=g;have d:k=a.length+1->1<=r.length:=d;(repeat first|refine tA rfl ?_|refine s2 rfl λ_ j=>?_|refine aU rfl ?_|apply Aa)
  ((refine aC rfl ?_ ?_<;>rintro⟨⟩);all_goals try (simp at j;done))
  · have v:k<=a.length:=by (simp only[oZ] at *;omega)
    apply aK;refine aS (aB ?_)
    have q:k=a.length\/∃e,a[(k:Int).toNat]?=some e:=by
      rcases rn k a.length with h|h
      · obtain⟨e,u⟩:=get_some (l:=a) (k:=(k:Int).toNat) (by omega)
        exact .inr ⟨e,u⟩
      · exact .inl (by omega)
    rcases q with q|⟨e,u⟩
    all_goals (repeat' first|refine tA rfl ?_|(refine s4 rfl ‹_› rfl ?_ ?_;omega)|refine s2 rfl λ_ j=>?_|(refine Al rfl ?_;refine gA rfl ?_;first|refine gS (λ_ _=>OX rfl rfl rfl (by simp[Nl]) (by simp[Nl,Nc];omega) (by simp[Nc];omega)) ?_)|refine s3 rfl ?_ ?_<;>rintro rfl|refine aU rfl ?_|apply Aa|(refine aC rfl ?_ ?_<;>rintro⟨⟩))
    all_goals first
      | (exfalso;(simp only[oZ] at *;omega);done)
      | (apply aK
         (repeat first|(refine sA rfl ?_ ?_;first|exact tI|omega)|refine aU rfl ?_|apply Aa);refine⟨⟨⟨k+1,fr,r⟩,by dsimp only;omega,by dsimp only;omega,by dsimp only;omega,by dsimp only;intro y;exfalso;(simp only[oZ] at *;omega),n⟩,by dsimp only;(omega),[0],?_⟩;(simp[cX,zC,b,cN]<;>rfl)
         done)
      | ((refine pW rfl ?_ rfl (by rfl);refine Au rfl rfl rfl (by first|(simp;done)|(simp;(omega))) rfl (by intro r g;simp at g;subst g;rfl) (by rfl) (ce rfl) (by simp;omega) ?_)
         (repeat first|(refine sA rfl ?_ ?_;first|exact tI|omega)|refine aU rfl ?_|apply Aa)
         have m:∀w∈r++[(a.take k).drop fr],w.length<=a.length:=λw f=>by
           rcases gc.1 f with f|f
           · exact n w f
           · simp at f;subst f;simp;omega
         refine⟨⟨⟨k+1,k+1,r++[(a.take k).drop fr]⟩,by dsimp only;omega,by dsimp only;omega,by simp;omega,by simp,m⟩,by dsimp only;(omega),[1],?_⟩
         (simp[cX,zC,b,cN,Nl,Nc]<;>rfl))
  · have p:k=a.length+1:=by (simp only[oZ] at *;omega)
    apply aE;(repeat first|refine tA rfl ?_|refine aU rfl ?_|apply Aa);refine Aj.settle [(4,Cb r)] ⟨⟨_,rfl,.o (.full rfl (by simp[d5]) (by simp))⟩,trivial⟩ ?_;refine aR ⟨_,rfl,[],Cb r,[],⟨by intro i hi;omega,by decide⟩,rfl,trivial,r,⟨d p,by omega,n⟩,rfl,rfl,rfl⟩
abbrev dv(r:Int×Bool):E:=.t [(false,[.d (iD r.1)]),(false,[.d (bD r.2)])]
theorem dR{z:Int}(h:0<=z/\z<256):[[D.v (.int .u8 z)]]=[UInt8.ofNat z.toNat].map nr:=by
 have b:z.toNat%256=z.toNat:=rt (by omega)
 have a:((z.toNat:Nat):Int)=z:=by omega
 simp[nr,b,a]
theorem HV(n:Int)(j:0<=n/\n<100):Spec Tryz.prog TB 210 [] 0 [eI .i64 n] (Eh (λr:W=>r.length<=3) eT):=by
 refine eR Tryz.func210 rfl (by kernel_rfl) rfl ?_;intro U b;(repeat first|refine tA rfl ?_|refine s2 rfl λ_ a=>?_|refine aU rfl ?_|apply Aa)
 ((refine aC rfl ?_ ?_<;>rintro⟨⟩);all_goals try (simp at a;done))
 ·exfalso;(simp only[oZ] at *;omega)
 apply aK;(repeat first|refine tA rfl ?_|refine s2 rfl λ_ a=>?_|refine aU rfl ?_|apply Aa)
 ((refine aC rfl ?_ ?_<;>rintro⟨⟩);all_goals try (simp at a;done))
 ·exfalso;(simp only[oZ] at *;omega)
 apply aK;(repeat first|refine tA rfl ?_|refine aU rfl ?_|apply Aa);apply aB;refine aL (α:={s:Int×W // (0<=s.1/\s.1<100)/\s.2.length<=2/\(9<s.1->s.2.length<=1)}) [] [] rfl rfl (λs=>[(0,eI .i64 s.1.1),(3,eT s.1.2)]) (λs=>[]) 0 (λs=>s.1.1.toNat) (⟨⟨n,[]⟩,by simp;omega⟩) b rfl (by (simp[cX,zC,b])) ?_;rintro⟨⟨q,w⟩,f,e,c⟩;(try dsimp only[cA,cB]);have f:0<=q/\q<100:=f;have e:w.length<=2:=e;have c:9<q->w.length<=1:=c;(repeat first|refine tA rfl ?_|refine s2 rfl λ_ a=>?_|refine aU rfl ?_|apply Aa)
 ((refine aC rfl ?_ ?_<;>rintro⟨⟩);all_goals try (simp at a;done))
 ·have d:9<q:=by (simp only[oZ] at *;omega)
  have g:=c d;apply aK;apply aB;(repeat first|(refine sA rfl ?_ ?_;first|exact tI|omega|simp only[oZ] at *;omega)|(refine Al rfl ?_;refine gA rfl ?_;first|refine gS (λ_ _=>TT _ rfl (dR (by omega))) ?_)|refine aU rfl ?_|apply Aa);refine⟨⟨⟨q / 10,[UInt8.ofNat (48+q%10).toNat]++w⟩,⟨by dsimp only;omega,by dsimp only;omega⟩,by simp;omega,λh=>by exfalso;dsimp only at h;omega⟩,by dsimp only;(omega),[],?_⟩;(simp[cX,zC,b,cN]<;>rfl)
 ·apply aE
  (repeat first|(refine sA rfl ?_ ?_;first|exact tI|omega|simp only[oZ] at *;omega)|(refine Al rfl ?_;refine gA rfl ?_;first|refine gS (λ_ _=>TT _ rfl (dR (by omega))) ?_)|refine aU rfl ?_|apply Aa);refine aR ⟨_,rfl,[],eT ([UInt8.ofNat (48+q).toNat]++w),[],⟨by intro i hi;omega,by decide⟩,rfl,trivial,[UInt8.ofNat (48+q).toNat]++w,by simp;omega,rfl,rfl,rfl⟩
theorem MA(k:Nat)(hk:k<17):(10 ^ (k+1):Nat)=10 ^ k*10/\(10 ^ k:Nat)<=100000000000000000:=⟨ul ..,pm (rU (by omega) (uY hk)) (by decide)⟩
theorem JY(s0:W)(z:s0.length<=1000000):Spec Tryz.prog TB 175 [] 0 [eT s0] (Eh (λ_:Int×Bool=>True) dv):=by
  by_cases y:s0.length=0
  · refine eR Tryz.func175 rfl (by kernel_rfl) rfl ?_;intro U a
    (repeat' first|refine tA rfl ?_|refine s2 rfl λ_ b=>?_|(refine Al rfl ?_;refine gA rfl ?_;first|refine gS (λ_ _=>FJ rfl rfl (by omega) (by omega)) ?_)|refine s3 rfl ?_ ?_<;>rintro rfl|refine aU rfl ?_|apply Aa|(refine aC rfl ?_ ?_<;>rintro⟨⟩)|apply aK)
    all_goals first
      | (exfalso;(simp only[oZ] at *;omega);done)
      | refine aR ⟨_,rfl,[],dv (0,false),[],⟨by intro i hi;omega,by decide⟩,rfl,trivial,(0,false),trivial,rfl,rfl,rfl⟩
  obtain⟨c,A⟩:=get_some (l:=s0) (k:=(0:Int).toNat) (by simp;omega);have w:1<s0.length->∃d,(s0.drop (Int.toNat 1))[(0:Int).toNat]?=some d:=λh=>get_some (by simp;omega);have o:∀m:Nat,(s0.drop m).length=s0.length-m:=λm=>List.length_drop;by_cases x:s0.length=1
  · refine eR Tryz.func175 rfl (by kernel_rfl) rfl ?_;intro U a
    (repeat' first|refine tA rfl ?_|(refine s4 rfl ‹_› rfl ?_ ?_;omega)|refine s2 rfl λ_ b=>?_|(refine Al rfl ?_;refine gA rfl ?_;first|refine gS (λ_ _=>FJ rfl rfl (by omega) (by omega)) ?_)|refine s3 rfl ?_ ?_<;>rintro rfl|refine aU rfl ?_|apply Aa|(refine aC rfl ?_ ?_<;>rintro⟨⟩)|apply aK)
    all_goals first
      | (exfalso;(simp only[oZ] at *;omega);done)
      | refine aR ⟨_,rfl,[],dv (0,false),[],⟨by intro i hi;omega,by decide⟩,rfl,trivial,(0,false),trivial,rfl,rfl,rfl⟩
      | (exfalso;simp only[oZ,o] at *;omega)
      | skip
    · have g:(s0).length<=17:=by omega
      apply aB;refine aL (α:={s:Nat×Int // s.1<=(s0).length/\0<=s.2/\s.2<((10 ^ s.1:Nat):Int)}) [0,4] [] rfl rfl (λs=>[(5,eI .i64 s.1.2),(6,eI .i64 s.1.1)]) (λs=>[]) 0 (λs=>(s0).length-s.1.1) (⟨⟨0,0⟩,by simp⟩) a rfl (by (simp[cX,zC,a])) ?_;rintro⟨⟨k,n⟩,hk,f,j⟩;(try dsimp only[cA,cB]);have hk:k<=(s0).length:=hk;have f:0<=n:=f;have j:n<((10 ^ k:Nat):Int):=j;(repeat first|refine tA rfl ?_|refine s2 rfl λ_ b=>?_|refine aU rfl ?_|apply Aa)
      ((refine aC rfl ?_ ?_<;>rintro⟨⟩);all_goals try (simp at b;done))
      · have q:k<(s0).length:=by (simp only[oZ] at *;omega)
        obtain⟨e,u⟩:=get_some (l:=s0) (k:=(k:Int).toNat) (by omega);have r:=e.toNat_lt;obtain⟨p,t⟩:=MA k (by omega);apply aK;refine aS (aB ?_);(repeat' first|(refine sA rfl ?_ ?_;first|exact tI|omega|simp only[oZ] at *;omega)|(refine s4 rfl ‹_› rfl ?_ ?_;omega)|refine s2 rfl λ_ b=>?_|(refine Al rfl ?_;refine gA rfl ?_;first|refine gS (λ_ _=>FJ rfl rfl (by omega) (by omega)) ?_)|refine s3 rfl ?_ ?_<;>rintro rfl|refine aU rfl ?_|apply Aa|(refine aC rfl ?_ ?_<;>rintro⟨⟩)|apply aK)
        all_goals first
          | (exfalso;omega;done)
          | refine aR ⟨_,rfl,[],dv (0,false),[],⟨by intro i hi;omega,by decide⟩,rfl,trivial,(0,false),trivial,rfl,rfl,rfl⟩
          | (refine⟨⟨⟨k+1,n*10+((e.toNat:Int)-48)⟩,by dsimp only;omega,by dsimp only;(simp only[oZ] at *;omega),by dsimp only;rw[p];(simp only[oZ] at *;omega)⟩,by dsimp only;(omega),[],?_⟩
             (simp[cX,zC,a,cN]<;>rfl))
      · apply aE
        have v:(10 ^ k:Nat)<=100000000000000000:=pm (rU (by omega) (pm hk g)) (by decide);(repeat' first|refine tA rfl ?_|(refine Al rfl ?_;refine gA rfl ?_;first|refine gS (λ_ _=>VN rfl (IntWalk.i64_in _ (by omega))) ?_)|refine aU rfl ?_|apply Aa|(refine aC rfl ?_ ?_<;>rintro⟨⟩)|apply aK);exact aR ⟨_,rfl,[],dv (n,true),[],⟨λi hi=>absurd hi (mt i),ol⟩,rfl,trivial,(n,true),trivial,rfl,rfl,rfl⟩
    · have g:(s0).length<=17:=by omega
      apply aB;refine aL (α:={s:Nat×Int // s.1<=(s0).length/\0<=s.2/\s.2<((10 ^ s.1:Nat):Int)}) [0,4] [] rfl rfl (λs=>[(5,eI .i64 s.1.2),(6,eI .i64 s.1.1)]) (λs=>[]) 0 (λs=>(s0).length-s.1.1) (⟨⟨0,0⟩,by simp⟩) a rfl (by (simp[cX,zC,a])) ?_;rintro⟨⟨k,n⟩,hk,f,j⟩;(try dsimp only[cA,cB]);have hk:k<=(s0).length:=hk;have f:0<=n:=f;have j:n<((10 ^ k:Nat):Int):=j;(repeat first|refine tA rfl ?_|refine s2 rfl λ_ b=>?_|refine aU rfl ?_|apply Aa)
      ((refine aC rfl ?_ ?_<;>rintro⟨⟩);all_goals try (simp at b;done))
      · have q:k<(s0).length:=by (simp only[oZ] at *;omega)
        obtain⟨e,u⟩:=get_some (l:=s0) (k:=(k:Int).toNat) (by omega);have r:=e.toNat_lt;obtain⟨p,t⟩:=MA k (by omega);apply aK;refine aS (aB ?_);(repeat' first|(refine sA rfl ?_ ?_;first|exact tI|omega|simp only[oZ] at *;omega)|(refine s4 rfl ‹_› rfl ?_ ?_;omega)|refine s2 rfl λ_ b=>?_|(refine Al rfl ?_;refine gA rfl ?_;first|refine gS (λ_ _=>FJ rfl rfl (by omega) (by omega)) ?_)|refine s3 rfl ?_ ?_<;>rintro rfl|refine aU rfl ?_|apply Aa|(refine aC rfl ?_ ?_<;>rintro⟨⟩)|apply aK)
        all_goals first
          | (exfalso;omega;done)
          | refine aR ⟨_,rfl,[],dv (0,false),[],⟨by intro i hi;omega,by decide⟩,rfl,trivial,(0,false),trivial,rfl,rfl,rfl⟩
          | (refine⟨⟨⟨k+1,n*10+((e.toNat:Int)-48)⟩,by dsimp only;omega,by dsimp only;(simp only[oZ] at *;omega),by dsimp only;rw[p];(simp only[oZ] at *;omega)⟩,by dsimp only;(omega),[],?_⟩
             (simp[cX,zC,a,cN]<;>rfl))
      · apply aE
        have v:(10 ^ k:Nat)<=100000000000000000:=pm (rU (by omega) (pm hk g)) (by decide);(repeat' first|refine tA rfl ?_|(refine Al rfl ?_;refine gA rfl ?_;first|refine gS (λ_ _=>VN rfl (IntWalk.i64_in _ (by omega))) ?_)|refine aU rfl ?_|apply Aa|(refine aC rfl ?_ ?_<;>rintro⟨⟩)|apply aK);exact aR ⟨_,rfl,[],dv (n,true),[],⟨λi hi=>absurd hi (mt i),ol⟩,rfl,trivial,(n,true),trivial,rfl,rfl,rfl⟩
  obtain⟨d,w⟩:=w (by omega);refine eR Tryz.func175 rfl (by kernel_rfl) rfl ?_;intro U a;(repeat' first|refine tA rfl ?_|(refine s4 rfl ‹_› rfl ?_ ?_;omega)|refine s2 rfl λ_ b=>?_|(refine Al rfl ?_;refine gA rfl ?_;first|refine gS (λ_ _=>FJ rfl rfl (by omega) (by omega)) ?_)|refine s3 rfl ?_ ?_<;>rintro rfl|refine aU rfl ?_|apply Aa|(refine aC rfl ?_ ?_<;>rintro⟨⟩)|apply aK)
  all_goals first
    | (exfalso;(simp only[oZ] at *;omega);done)
    | refine aR ⟨_,rfl,[],dv (0,false),[],⟨by intro i hi;omega,by decide⟩,rfl,trivial,(0,false),trivial,rfl,rfl,rfl⟩
    | (exfalso;simp only[oZ,o] at *;omega)
    | skip
  · have g:(List.drop (Int.toNat 1) s0).length<=17:=by (simp only[oZ] at *;omega)
    apply aB;refine aL (α:={s:Nat×Int // s.1<=(List.drop (Int.toNat 1) s0).length/\0<=s.2/\s.2<((10 ^ s.1:Nat):Int)}) [0,4] [] rfl rfl (λs=>[(5,eI .i64 s.1.2),(6,eI .i64 s.1.1)]) (λs=>[]) 0 (λs=>(List.drop (Int.toNat 1) s0).length-s.1.1) (⟨⟨0,0⟩,by simp⟩) a rfl (by (simp[cX,zC,a])) ?_;rintro⟨⟨k,n⟩,hk,f,j⟩;(try dsimp only[cA,cB]);have hk:k<=(List.drop (Int.toNat 1) s0).length:=hk;have f:0<=n:=f;have j:n<((10 ^ k:Nat):Int):=j;(repeat first|refine tA rfl ?_|refine s2 rfl λ_ b=>?_|refine aU rfl ?_|apply Aa)
    ((refine aC rfl ?_ ?_<;>rintro⟨⟩);all_goals try (simp at b;done))
    · have q:k<(List.drop (Int.toNat 1) s0).length:=by (simp only[oZ] at *;omega)
      obtain⟨e,u⟩:=get_some (l:=List.drop (Int.toNat 1) s0) (k:=(k:Int).toNat) (by omega);have r:=e.toNat_lt;obtain⟨p,t⟩:=MA k (by omega);apply aK;refine aS (aB ?_);(repeat' first|(refine sA rfl ?_ ?_;first|exact tI|omega|simp only[oZ] at *;omega)|(refine s4 rfl ‹_› rfl ?_ ?_;omega)|refine s2 rfl λ_ b=>?_|(refine Al rfl ?_;refine gA rfl ?_;first|refine gS (λ_ _=>FJ rfl rfl (by omega) (by omega)) ?_)|refine s3 rfl ?_ ?_<;>rintro rfl|refine aU rfl ?_|apply Aa|(refine aC rfl ?_ ?_<;>rintro⟨⟩)|apply aK)
      all_goals first
        | (exfalso;omega;done)
        | refine aR ⟨_,rfl,[],dv (0,false),[],⟨by intro i hi;omega,by decide⟩,rfl,trivial,(0,false),trivial,rfl,rfl,rfl⟩
        | (refine⟨⟨⟨k+1,n*10+((e.toNat:Int)-48)⟩,by dsimp only;omega,by dsimp only;(simp only[oZ] at *;omega),by dsimp only;rw[p];(simp only[oZ] at *;omega)⟩,by dsimp only;(omega),[],?_⟩
           (simp[cX,zC,a,cN]<;>rfl))
    · apply aE
      have v:(10 ^ k:Nat)<=100000000000000000:=pm (rU (by omega) (pm hk g)) (by decide);(repeat' first|refine tA rfl ?_|(refine Al rfl ?_;refine gA rfl ?_;first|refine gS (λ_ _=>VN rfl (IntWalk.i64_in _ (by omega))) ?_)|refine aU rfl ?_|apply Aa|(refine aC rfl ?_ ?_<;>rintro⟨⟩)|apply aK);exact aR ⟨_,rfl,[],dv (-n,true),[],⟨λi hi=>absurd hi (mt i),ol⟩,rfl,trivial,(-n,true),trivial,rfl,rfl,rfl⟩
  · have g:(s0).length<=17:=by (simp only[oZ] at *;omega)
    apply aB;refine aL (α:={s:Nat×Int // s.1<=(s0).length/\0<=s.2/\s.2<((10 ^ s.1:Nat):Int)}) [0,4] [] rfl rfl (λs=>[(5,eI .i64 s.1.2),(6,eI .i64 s.1.1)]) (λs=>[]) 0 (λs=>(s0).length-s.1.1) (⟨⟨0,0⟩,by simp⟩) a rfl (by (simp[cX,zC,a])) ?_;rintro⟨⟨k,n⟩,hk,f,j⟩;(try dsimp only[cA,cB]);have hk:k<=(s0).length:=hk;have f:0<=n:=f;have j:n<((10 ^ k:Nat):Int):=j;(repeat first|refine tA rfl ?_|refine s2 rfl λ_ b=>?_|refine aU rfl ?_|apply Aa)
    ((refine aC rfl ?_ ?_<;>rintro⟨⟩);all_goals try (simp at b;done))
    · have q:k<(s0).length:=by (simp only[oZ] at *;omega)
      obtain⟨e,u⟩:=get_some (l:=s0) (k:=(k:Int).toNat) (by omega);have r:=e.toNat_lt;obtain⟨p,t⟩:=MA k (by omega);apply aK;refine aS (aB ?_);(repeat' first|(refine sA rfl ?_ ?_;first|exact tI|omega|simp only[oZ] at *;omega)|(refine s4 rfl ‹_› rfl ?_ ?_;omega)|refine s2 rfl λ_ b=>?_|(refine Al rfl ?_;refine gA rfl ?_;first|refine gS (λ_ _=>FJ rfl rfl (by omega) (by omega)) ?_)|refine s3 rfl ?_ ?_<;>rintro rfl|refine aU rfl ?_|apply Aa|(refine aC rfl ?_ ?_<;>rintro⟨⟩)|apply aK)
      all_goals first
        | (exfalso;omega;done)
        | refine aR ⟨_,rfl,[],dv (0,false),[],⟨by intro i hi;omega,by decide⟩,rfl,trivial,(0,false),trivial,rfl,rfl,rfl⟩
        | (refine⟨⟨⟨k+1,n*10+((e.toNat:Int)-48)⟩,by dsimp only;omega,by dsimp only;(simp only[oZ] at *;omega),by dsimp only;rw[p];(simp only[oZ] at *;omega)⟩,by dsimp only;(omega),[],?_⟩
           (simp[cX,zC,a,cN]<;>rfl))
    · apply aE
      have v:(10 ^ k:Nat)<=100000000000000000:=pm (rU (by omega) (pm hk g)) (by decide);(repeat' first|refine tA rfl ?_|(refine Al rfl ?_;refine gA rfl ?_;first|refine gS (λ_ _=>VN rfl (IntWalk.i64_in _ (by omega))) ?_)|refine aU rfl ?_|apply Aa|(refine aC rfl ?_ ?_<;>rintro⟨⟩)|apply aK);exact aR ⟨_,rfl,[],dv (n,true),[],⟨λi hi=>absurd hi (mt i),ol⟩,rfl,trivial,(n,true),trivial,rfl,rfl,rfl⟩
def Jb(t:Ch)(F:PS)(ls:List Int):PS:=λp=>ls.foldl (λa l=>a ||| WW t l F p) (F p)
def LQ(A B:PS)(k:Nat):PS:=λp=>if p<k then A p ||| B p else A p
theorem cd{A B:PS}{k:Nat}:LQ A B (k+1)=λp=>if p=k then LQ A B k k ||| B k else LQ A B k p:=by
 funext p;unfold LQ;by_cases e:p=k
 ·subst e;simp
 ·by_cases h:p<k
  ·rw[if_pos (by omega),if_neg e,if_pos h]
  ·rw[if_neg (by omega),if_neg e,if_neg h]
theorem dI{t:Ch}{F:PS}{ls:List Int}{l:Int}:Jb t F (ls++[l])=λp=>Jb t F ls p ||| WW t l F p:=by
 funext p;unfold Jb;rw[tT];rfl
theorem ZM{α:Type}{g:α->Nat}{j:Nat}:∀ {l:List α} {a:Nat},(l.foldl (λa x=>a ||| g x) a).testBit j=true↔a.testBit j=true\/∃x∈l,(g x).testBit j=true
 | [],a=>by simp
 | x::l,a=>by
  rw[si,ZM,sD,qW];simp[or_assoc]
theorem HK{t:Ch}{F:PS}{ls:List Int}{p j:Nat}:(Jb t F ls p).testBit j=true↔(F p).testBit j=true\/∃l∈ls,(WW t l F p).testBit j=true:=ZM
theorem Za{t:Ch}(ht:A9 t=true){F:PS}(h:CR t F){ls:List Int}(c:∀l∈ls,0<=l/\l<6):CR t (Jb t F ls):=by
 refine⟨λp=>JU λj d=>?_,λp hp=>HN λj=>?_⟩
 ·rcases HK.1 d with a|⟨l,a,b⟩
  ·exact LN (h.lt p) a
  ·exact LN ((Lc ht (c l a) h).lt p) b
 ·cases hb:(Jb t F ls p).testBit j
  ·rfl
  ·rcases HK.1 hb with a|⟨l,a,b⟩
   ·rw[h.z p hp]at a;simp at a
   ·rw[(Lc ht (c l a) h).z p hp]at b;simp at b
theorem sub_le{a b:Nat}(h:∀j,a.testBit j=true->b.testBit j=true):a<=b:=by
 have:a ||| b=b:=sE λj=>by
  rw[sD];cases ha:a.testBit j
  ·simp
  ·simp[h j ha]
 rw[<-this];exact Nat.left_le_or
def Oz(F:PS):Nat:=(65535-F 0)+(65535-F 1)+(65535-F 2)+(65535-F 3)+(65535-F 4)+(65535-F 5)+(65535-F 6)+(65535-F 7)+(65535-F 8)+(65535-F 9)+(65535-F 10)+(65535-F 11)
theorem Zy{F G:PS}(i:∀p,F p<65536)(a:∀p,G p<65536)(h:∀p,F p<=G p)(b:Ht G≠Ht F):Oz G<Oz F:=by
 have j:¬Oz F<=Oz G:=λc=>b (Sm λp hp=>by
  have J:=h 0;have I:=h 1;have H:=h 2;have B:=h 3;have A:=h 4;have z:=h 5;have y:=h 6;have x:=h 7;have w:=h 8;have v:=h 9;have g:=h 10;have f:=h 11;have u:=a 0;have t:=a 1;have s:=a 2;have r:=a 3;have q:=a 4;have o:=a 5;have n:=a 6;have m:=a 7;have l:=a 8;have k:=a 9;have e:=a 10;have d:=a 11;unfold Oz at c
  obtain rfl|rfl|rfl|rfl|rfl|rfl|rfl|rfl|rfl|rfl|rfl|rfl:p=0\/p=1\/p=2\/p=3\/p=4\/p=5\/p=6\/p=7\/p=8\/p=9\/p=10\/p=11:=by omega
  all_goals omega)
 omega
theorem ko{F:PS}(h:∀p,F p<65536):∀x∈Ht F,(Lit.int .u16 x).wf=true:=λx a=>by
 have:∃p,x=(F p:Int):=by
  unfold Ht at a;simp only[lw,t9,or_false]at a
  rcases a with h|h|h|h|h|h|h|h|h|h|h|h<;>exact⟨_,h⟩
 obtain⟨p,rfl⟩:=this;have:=h p;simp[Lit.wf,IntKind.min,IntKind.max,IntKind.signed,IntKind.bits];omega
section
variable {t:Ch}(ht:A9 t=true)
include ht
theorem dJ{F0 F:PS}(c:∀p j,(F p).testBit j=true->QP t F0 p j){p j:Nat}(h:(Jb t F (Cg t) p).testBit j=true):QP t F0 p j:=by
 rcases HK.1 h with a|⟨l,b,a⟩
 ·exact c p j a
 ·obtain⟨q,m,d,hb⟩:=LU.1 a
  unfold Df at hb;rw[if_pos (DM ht b).2.2]at hb;obtain⟨e,f,⟨k,i⟩,g⟩:=DN.1 hb;subst k;have:=QP.step (c q _ i) f b rfl;rw[d,g]at this
  simpa using this
theorem bf{F0 F:PS}(i:CR t F0)(f:CR t F)(h:∀p j,(F0 p).testBit j=true->(F p).testBit j=true)(g:∀p j,(F p).testBit j=true->QP t F0 p j)(e:Jb t F (Cg t)=F):F=SV t F0:=
 dU ht i f.z h g λp l j hp b c=>by
  have a:=DM ht b;have d:=Cn (Cr ht) hp a.1 a.2.1;rw[<-e];refine HK.2 (.inr ⟨l,b,LU.2 ⟨p,hp,by omega,?_⟩⟩);unfold Df;rw[if_pos a.2.2];exact c
end
theorem UD[EK TB]{t:Ch}(ht:A9 t=true)(m:Db){F0:PS}(J:CR t F0):Spec Tryz.prog TB 112 (VX t m) 5 [.o (.ptr 0 14 0 0),mc F0] (λx σ nx=>x=mc (SV t F0)/\σ=VX t m/\nx=5):=by
 have hah:=AB (Cr ht)
 have X:(Cg t).length<=6:=by
  unfold Cg;have K:(Ab t.s.al).length<=6:=AJ _ _;exact pm (tl _ _) K
 refine eR Tryz.func112 rfl (by kernel_rfl) rfl ?_;intro U c;(repeat first|refine aU rfl ?_);(refine pW rfl ?_ rfl (by rfl);refine KG rfl rfl ?_);(repeat first|refine tM rfl ?_|apply Aa);apply aB;refine aL (α:={F:PS // CR t F/\(∀p j,(F0 p).testBit j=true->(F p).testBit j=true)/\∀p j,(F p).testBit j=true->QP t F0 p j}) [0,3,4] [0,1,2,3,4,6] rfl rfl (λs=>[]) (λs=>[(5,.cells 150 12 [N9 s.1])]) 7 (λs=>Oz s.1) (⟨F0,J,λ_ _ h=>h,λ_ _ h=>.base h⟩) c rfl (by (simp[cX,zC,c,AT]<;>rfl)) ?_;rintro⟨F,f,K,S⟩;(try dsimp only[cA,cB]);have f:CR t F:=f;apply aB;(repeat first|refine sN rfl ?_|refine tA rfl ?_|refine aU rfl ?_|apply Aa);apply aB;refine aL (α:={k:Nat // k<=(Cg t).length}) [0,3,4,5,14,15] [0,1,2,3,4,5,6] rfl rfl (λs=>[(16,eI .i64 s.1)]) (λs=>[(7,.cells 150 12 [N9 (Jb t F ((Cg t).take s.1))])]) 8 (λs=>(Cg t).length-s.1) (⟨0,by omega⟩) c rfl (by (simp[cX,zC,c,AT]<;>rfl)) ?_;rintro⟨k,hk⟩;(try dsimp only[cA,cB]);by_cases Q:k<(Cg t).length
 ·obtain⟨l,u⟩:=get_some Q
  have g:=DM ht (co u)
  have Y:((Cg t).map Bc)[((k:Nat):Int).toNat]?=some (Bc l):=by rw[d8];simp[u]
  have I:∀x∈(Cg t).take k,0<=x/\x<6:=λx B=>by
   have:=DM ht (q7 B);omega
  have y:=Za ht f I;have hG:=Lc ht (l:=l) ⟨g.1,g.2.1⟩ f
  have M:Jb t F ((Cg t).take (k+1))=λp=>Jb t F ((Cg t).take k) p ||| WW t l F p:=by rw[i7,u];exact dI
  have P:=ZC (TB:=TB) ht m (l:=l) ⟨g.1,g.2.1⟩ f;generalize Jb t F ((Cg t).take k)=A at *;generalize WW t l F=G at *;(repeat first|refine s2 rfl λ_ e=>?_|refine aU rfl ?_|apply Aa)
  ((refine aC rfl ?_ ?_<;>rintro⟨⟩);all_goals try(exfalso;(simp only[oZ] at *;omega)))
  apply aK;refine aS (aB ?_);(repeat first|refine tA rfl ?_|(refine s4 rfl ‹_› rfl ?_ ?_;omega)|refine aU rfl ?_|apply Aa);(refine pW rfl ?_ rfl (by rfl);refine Ag [0,1,2,3,4] rfl rfl (P) ⟨rfl,by decide,by decide⟩ rfl (by simp[cX,zC,c,AT]) ?_;rintro x0 T V ⟨rfl,rfl,rfl⟩ _);(repeat first|refine tA rfl ?_);apply Aa;apply aB;refine aL (α:={p:Nat // p<=12}) [0,3,4,5,14,15,16,23] [0,1,2,3,4,5,6] rfl rfl (λs=>[(24,eI .i64 s.1)]) (λs=>[(7,.cells 150 12 [N9 (LQ A G s.1)])]) 8 (λs=>12-s.1) (⟨0,by omega⟩) c rfl (by (simp[cX,zC,c,AT]<;>rfl)) ?_;rintro⟨p,hp⟩;(try dsimp only[cA,cB]);by_cases n:p<12
  ·have B:(Ht G)[((p:Nat):Int).toNat]?=some (G p:Int):=by rw[d8];exact Kl n
   have ej:0+((p:Nat):Int).toNat*1=p:=by omega
   have q:LQ A G p p<65536:=by
    unfold LQ;rw[if_neg (by omega)];exact y.lt p
   have w:(N9 (LQ A G p))[0+((p:Nat):Int).toNat*1]?=some (.d (.v (.int .u16 (LQ A G p p:Int)))):=by rw[ej];exact OV n
   have L:=Zs q (hG.lt p);have i:=ZQ (F:=LQ A G p) (p:=p) n (v:=LQ A G p p ||| G p);rw[<-cd]at i;(repeat first|refine s2 rfl λ_ e=>?_|refine aU rfl ?_|apply Aa)
   ((refine aC rfl ?_ ?_<;>rintro⟨⟩);all_goals try(exfalso;(simp only[oZ] at *;omega)))
   apply aK;refine aS (aB ?_);(repeat first|(refine sA rfl ?_ ?_;first|exact tI|omega)|(refine Al rfl ?_;refine gA rfl ?_;first|refine gS (λ_ _=>Ml (l:=Ht G) rfl rfl rfl (by omega) B) ?_|refine gQ (P9 rfl rfl rfl w) rfl ?_)|refine aU rfl ?_|apply Aa);(refine Al rfl ?_;refine Gf ?_ rfl (by rfl);refine Ek (r:=N9 (LQ A G p)) rfl rfl rfl rfl rfl rfl (by show 0+((p:Nat):Int).toNat*1+1<=12;omega) ?_);apply Aa;(repeat first|(refine sA rfl ?_ ?_;first|exact tI|omega)|refine aU rfl ?_|apply Aa);refine⟨⟨p+1,by omega⟩,by dsimp only;(omega),[0,1,2,3,4,5,6,7],?_⟩;simp[cX,zC,c,AT,L];exact⟨UY,by simpa[Ae]using i⟩
  ·obtain rfl:p=12:=by omega
   have q:Ht (LQ A G 12)=Ht λp=>A p ||| G p:=Sm λp hp=>by unfold LQ;rw[if_pos hp]
   (repeat first|refine s2 rfl λ_ e=>?_|refine aU rfl ?_|apply Aa)
   ((refine aC rfl ?_ ?_<;>rintro⟨⟩);all_goals try(exfalso;(simp only[oZ] at *;omega)))
   apply aE;(repeat first|(refine sA rfl ?_ ?_;first|exact tI|omega)|refine aU rfl ?_|apply Aa);refine⟨⟨k+1,by omega⟩,by dsimp only;(omega),[0,1,2,3,4,5,6,7],?_⟩;simp[cX,zC,c,AT,M];exact⟨UY,congrArg (List.map _) q⟩
 ·obtain rfl:k=(Cg t).length:=by omega
  rw[i8]
  have y:=Za ht f λx B=>by
   have:=DM ht B
   show 0<=x/\x<6
   omega
  (repeat first|refine s2 rfl λ_ e=>?_|refine aU rfl ?_|apply Aa)
  ((refine aC rfl ?_ ?_<;>rintro⟨⟩);all_goals try(exfalso;(simp only[oZ] at *;omega)))
  apply aE;(repeat first|refine tA rfl ?_|(refine Al rfl ?_;refine gA rfl ?_;first|(refine gB (λ_ _=>n8 (a:=Ht (Jb t F (Cg t))) (b:=Ht F) rfl rfl rfl rfl (ko y.lt) (ko f.lt)) ?_;intro _ e))|refine aU rfl ?_|apply Aa);(refine aC rfl ?_ ?_<;>rintro⟨⟩)
  ·have Z:Jb t F (Cg t)=F:=by
    have h3:Ht (Jb t F (Cg t))=Ht F:=by simpa using e
    have h4:=TN h3;funext p
    rcases rn p 12 with R|R
    ·exact h4 p R
    ·rw[y.z p (by omega),f.z p (by omega)]
   rw[<-bf ht J f K S Z];(repeat first|refine tA rfl ?_|refine aU rfl ?_|apply Aa);refine aR ⟨_,rfl,[0,1,2,3,4],mc F,VX t m,⟨UY,by decide⟩,rfl,by (simp[cX,zC,c,AT]),rfl,rfl,rfl⟩
  ·have N:Ht (Jb t F (Cg t))≠Ht F:=by simpa using e
   have H:∀p,F p<=Jb t F (Cg t) p:=λp=>sub_le λj w=>HK.2 (.inl w);have hm:=Zy f.lt y.lt H N;apply aK;(repeat first|refine tA rfl ?_|refine aU rfl ?_|apply Aa);refine⟨⟨Jb t F (Cg t),y,λp j w=>HK.2 (.inl (K p j w)),λp j w=>dJ ht S w⟩,by dsimp only;(omega),[0,1,2,3,4,5,6],?_⟩;simp[cX,zC,c,AT];exact⟨UY,rfl,rfl⟩
abbrev o9(r:List Int×Bool):E:=.t [(false,[.d (EA r.1)]),(false,[.d (bD r.2)])]
theorem XH(e:W)(v:e.length<=1000000):Spec Tryz.prog TB 169 [] 0 [eT e] (Eh (λr:List Int×Bool=>r.1.length<=e.length+1) o9):=by
 refine eR Tryz.func169 rfl (by kernel_rfl) rfl ?_;intro U a;(repeat first|refine tX rfl ?_|refine aU rfl ?_|apply Aa);(refine pW rfl ?_ rfl (by rfl);refine A8 rfl rfl rfl rfl (by simp) (by rfl) (by rfl) (by rfl) (by rfl) ?_);(repeat first|refine tX rfl ?_|refine s2 rfl λ_ b=>?_|refine aU rfl ?_|apply Aa);(refine aC rfl ?_ ?_<;>rintro⟨⟩)
 ·(repeat first|refine tX rfl ?_|refine aU rfl ?_|apply Aa)
  refine Aj.settle [(2,Ak []),(3,eB true)] ⟨⟨_,rfl,.o (.full rfl (by simp) (by simp))⟩,⟨_,rfl,.o .d⟩,trivial⟩ ?_;exact aR ⟨_,rfl,[],o9 ([],true),[],⟨λi hi=>absurd hi (mt i),ol⟩,rfl,trivial,([],true),rQ _,rfl,rfl,rfl⟩
 apply aK;(repeat first|refine tA rfl ?_|refine aU rfl ?_);(refine pW rfl ?_ rfl (by rfl);refine Ag [] rfl rfl (Nh (TB:=TB) e v 44) ⟨rfl,by decide,by decide⟩ rfl trivial ?_;rintro q f h ⟨ps,⟨y,x,j⟩,rfl,rfl,rfl⟩ _);(repeat first|refine tA rfl ?_|refine aU rfl ?_|apply Aa);apply aB;refine aL (α:={z:Nat×List Int // z.1<=ps.length/\z.2.length=z.1}) [5] [] rfl rfl (λs=>[(4,.o (.arr 0 1 0 s.1.2.length)),(6,eI .i64 s.1.1)]) (λs=>[(0,.cells 3 1 (s.1.2.map Av))]) 1 (λs=>ps.length-s.1.1) (⟨⟨0,[]⟩,by simp⟩) a rfl (by (simp[cX,zC,a])) ?_;rintro⟨⟨k,r⟩,hk,c⟩;(try dsimp only[cA,cB]);have hk:k<=ps.length:=hk;have c:r.length=k:=c;(repeat first|refine sN rfl ?_|refine tA rfl ?_|refine s2 rfl λ_ b=>?_|refine aU rfl ?_|apply Aa)
 ((refine aC rfl ?_ ?_<;>rintro⟨⟩);all_goals try (simp at b;done))
 ·have m:k<ps.length:=by (simp only[oZ] at *;omega)
  obtain⟨w,p⟩:=get_some (l:=ps) (k:=k) m;have u:=get_map (g:=Dv) p;have t:=j w (co p);apply aK;refine aS (aB ?_);(repeat first|refine tA rfl ?_|(refine s4 rfl ‹_› rfl ?_ ?_;omega)|refine aU rfl ?_);(refine pW rfl ?_ rfl (by rfl);refine Ag [] rfl rfl (JY (TB:=TB) w (by omega)) ⟨rfl,by decide,by decide⟩ rfl trivial ?_;rintro q f h ⟨⟨n,ok⟩,_,rfl,rfl,rfl⟩ _);(repeat first|refine tA rfl ?_|refine s2 rfl λ_ b=>?_|refine aU rfl ?_|apply Aa);(refine aC rfl ?_ ?_<;>rintro⟨⟩)
  ·(repeat first|refine tA rfl ?_|refine aU rfl ?_|apply Aa)
   exact aR ⟨_,rfl,[],o9 ([],false),[],⟨λi hi=>absurd hi (mt i),ol⟩,rfl,trivial,([],false),rQ _,rfl,rfl,rfl⟩
  apply aK;(repeat first|refine tA rfl ?_|refine aU rfl ?_);(refine pW rfl ?_ rfl (by rfl);refine Au rfl rfl rfl (by first|(simp;done)|(simp;(omega))) rfl (by intro r c;simp at c;subst c;rfl) (by rfl) (ce rfl) (by simp;omega) ?_);(repeat first|(refine sA rfl ?_ ?_;first|exact tI|omega)|refine aU rfl ?_|apply Aa);refine⟨⟨⟨k+1,r++[n]⟩,by dsimp only;omega,by simp;omega⟩,by dsimp only;(omega),[1],?_⟩;(simp[cX,zC,a,cN]<;>rfl)
 ·apply aE
  (repeat first|refine tA rfl ?_|refine aU rfl ?_|apply Aa);refine Aj.settle [(2,Ak r),(3,eB true)] ⟨⟨_,rfl,.o (.full rfl (by simp[d5]) (by simp))⟩,⟨_,rfl,.o .d⟩,trivial⟩ ?_;exact aR ⟨_,rfl,[],o9 (r,true),[],⟨λi hi=>absurd hi (mt i),ol⟩,rfl,trivial,(r,true),by show r.length<=_;omega,rfl,rfl,rfl⟩
theorem GJ(a:AK):Spec Tryz.prog TB 170 [] 0 [Bh a] (Eh (λr:W=>r.length<=1000) eT):=by
 refine eR Tryz.func170 rfl (by kernel_rfl) rfl ?_;intro U c;(repeat first|refine tA rfl ?_|refine s2 rfl λ_ e=>?_|(refine sC rfl (AY a) ?_;intro _ e)|refine aU rfl ?_|apply Aa);(refine aC rfl ?_ ?_<;>rintro⟨⟩)
 ·(repeat first|refine tA rfl ?_|refine aU rfl ?_|apply Aa)
  exact aR ⟨_,rfl,[],eT [],[],⟨λi hi=>absurd hi (mt i),ol⟩,rfl,trivial,[],rQ _,rfl,rfl,rfl⟩
 have u:AD a=true:=by (simp at e;subst e;assumption)
 obtain⟨_,P,N,S⟩:=AB u;have Q:(Ab a.al).length<=6:=AJ a.al 6;apply aK;(repeat first|refine tA rfl ?_|refine aU rfl ?_);(refine pW rfl ?_ rfl (by rfl);refine Ag [] rfl rfl (EI (TB:=TB) a.al) ⟨rfl,by decide,by decide⟩ rfl trivial ?_;rintro A h m ⟨K,L,rfl,rfl,rfl⟩ _);(repeat first|refine tA rfl ?_|refine aU rfl ?_|apply Aa);apply aB;refine aL (α:={z:Nat×W // z.1<=a.nx.length/\z.2.length<=6+30*z.1}) [1] [] rfl rfl (λs=>[(3,eT s.1.2),(4,eI .i64 s.1.1)]) (λs=>[]) 0 (λs=>a.nx.length-s.1.1) (⟨⟨0,K⟩,by simp;omega⟩) c rfl (by (simp[cX,zC,c])) ?_;rintro⟨⟨k,w⟩,hk,J⟩;(try dsimp only[cA,cB]);have hk:k<=a.nx.length:=hk;have J:w.length<=6+30*k:=J;(repeat first|refine sN rfl ?_|refine tA rfl ?_|refine s2 rfl λ_ e=>?_|refine aU rfl ?_|apply Aa)
 ((refine aC rfl ?_ ?_<;>rintro⟨⟩);all_goals try (simp at e;done))
 ·have H:k<a.nx.length:=by (simp only[oZ] at *;omega)
  obtain⟨row,t,M,q⟩:=GC u H;have G:=get_map (g:=λr:List Int=>[EA r]) t;obtain⟨b,hb⟩:=get_some (l:=a.ac) (k:=k) (by omega);have R:=get_map (g:=Jk) hb;apply aK;refine aS (aB ?_);(repeat first|refine tA rfl ?_|(refine s4 rfl ‹_› rfl ?_ ?_;omega)|refine aU rfl ?_|apply Aa);(refine aC rfl ?_ ?_<;>rintro⟨⟩)
  ·(repeat first|(refine sA rfl ?_ ?_;first|exact tI|simp only[oZ] at *;omega)|refine aU rfl ?_|apply Aa)
   apply aB;refine aL (α:={z:Nat×W // z.1<=row.length/\z.2.length<=8+30*k+4*z.1}) [1,4] [] rfl rfl (λs=>[(3,eT s.1.2),(6,eI .i64 s.1.1)]) (λs=>[]) 0 (λs=>row.length-s.1.1) (⟨⟨0,w++[32,43]⟩,by dsimp only;omega,by simp;omega⟩) c rfl (by (simp[cX,zC,c])) ?_;rintro⟨⟨j,v⟩,y,p⟩;(try dsimp only[cA,cB]);have y:j<=row.length:=y;have p:v.length<=8+30*k+4*j:=p;(repeat first|refine sN rfl ?_|refine tA rfl ?_|(refine s4 rfl ‹_› rfl ?_ ?_;omega)|refine s2 rfl λ_ e=>?_|refine aU rfl ?_|apply Aa)
   ((refine aC rfl ?_ ?_<;>rintro⟨⟩);all_goals try (simp at e;done))
   ·have n:j<row.length:=by (simp only[oZ] at *;omega)
    obtain⟨x,o⟩:=get_some (l:=row) (k:=j) n;have F:=get_map (g:=Bc) o;have B:=q j x o;have f:=HV (TB:=TB) x (by omega);apply aK;refine aS (aB ?_);(repeat first|refine tA rfl ?_|refine s2 rfl λ_ e=>?_|refine aU rfl ?_|apply Aa);(refine aC rfl ?_ ?_<;>rintro⟨⟩)
    ·(repeat first|(refine sA rfl ?_ ?_;first|exact tI|simp only[oZ] at *;omega)|(refine s4 rfl ‹_› rfl ?_ ?_;omega)|refine aU rfl ?_|apply Aa)
     (refine pW rfl ?_ rfl (by rfl);refine Ag [] rfl rfl (f) ⟨rfl,by decide,by decide⟩ rfl trivial ?_;rintro A h m ⟨d,I,rfl,rfl,rfl⟩ _);(repeat first|(refine sA rfl ?_ ?_;first|exact tI|omega|simp only[oZ] at *;omega)|refine aU rfl ?_|apply Aa);refine⟨⟨⟨j+1,v++[44]++d⟩,by dsimp only;omega,by simp;omega⟩,by dsimp only;(omega),[],?_⟩;(simp[cX,zC,c,cN]<;>rfl)
    ·apply aK
     (repeat first|refine tA rfl ?_|(refine s4 rfl ‹_› rfl ?_ ?_;omega)|refine aU rfl ?_);(refine pW rfl ?_ rfl (by rfl);refine Ag [] rfl rfl (f) ⟨rfl,by decide,by decide⟩ rfl trivial ?_;rintro A h m ⟨d,I,rfl,rfl,rfl⟩ _);(repeat first|(refine sA rfl ?_ ?_;first|exact tI|omega)|refine aU rfl ?_|apply Aa);refine⟨⟨⟨j+1,v++d⟩,by dsimp only;omega,by simp;omega⟩,by dsimp only;(omega),[],?_⟩;(simp[cX,zC,c,cN]<;>rfl)
   ·apply aE
    (repeat first|(refine sA rfl ?_ ?_;first|exact tI|omega)|refine aU rfl ?_|apply Aa);refine⟨⟨⟨k+1,v⟩,by dsimp only;omega,by dsimp only;omega⟩,by dsimp only;(omega),[],?_⟩;(simp[cX,zC,c,cN]<;>rfl)
  ·apply aK
   (repeat first|(refine sA rfl ?_ ?_;first|exact tI|simp only[oZ] at *;omega)|refine aU rfl ?_|apply Aa);apply aB;refine aL (α:={z:Nat×W // z.1<=row.length/\z.2.length<=8+30*k+4*z.1}) [1,4] [] rfl rfl (λs=>[(3,eT s.1.2),(6,eI .i64 s.1.1)]) (λs=>[]) 0 (λs=>row.length-s.1.1) (⟨⟨0,w++[32,45]⟩,by dsimp only;omega,by simp;omega⟩) c rfl (by (simp[cX,zC,c])) ?_;rintro⟨⟨j,v⟩,y,p⟩;(try dsimp only[cA,cB]);have y:j<=row.length:=y;have p:v.length<=8+30*k+4*j:=p;(repeat first|refine sN rfl ?_|refine tA rfl ?_|(refine s4 rfl ‹_› rfl ?_ ?_;omega)|refine s2 rfl λ_ e=>?_|refine aU rfl ?_|apply Aa)
   ((refine aC rfl ?_ ?_<;>rintro⟨⟩);all_goals try (simp at e;done))
   ·have n:j<row.length:=by (simp only[oZ] at *;omega)
    obtain⟨x,o⟩:=get_some (l:=row) (k:=j) n;have F:=get_map (g:=Bc) o;have B:=q j x o;have f:=HV (TB:=TB) x (by omega);apply aK;refine aS (aB ?_);(repeat first|refine tA rfl ?_|refine s2 rfl λ_ e=>?_|refine aU rfl ?_|apply Aa);(refine aC rfl ?_ ?_<;>rintro⟨⟩)
    ·(repeat first|(refine sA rfl ?_ ?_;first|exact tI|simp only[oZ] at *;omega)|(refine s4 rfl ‹_› rfl ?_ ?_;omega)|refine aU rfl ?_|apply Aa)
     (refine pW rfl ?_ rfl (by rfl);refine Ag [] rfl rfl (f) ⟨rfl,by decide,by decide⟩ rfl trivial ?_;rintro A h m ⟨d,I,rfl,rfl,rfl⟩ _);(repeat first|(refine sA rfl ?_ ?_;first|exact tI|omega|simp only[oZ] at *;omega)|refine aU rfl ?_|apply Aa);refine⟨⟨⟨j+1,v++[44]++d⟩,by dsimp only;omega,by simp;omega⟩,by dsimp only;(omega),[],?_⟩;(simp[cX,zC,c,cN]<;>rfl)
    ·apply aK
     (repeat first|refine tA rfl ?_|(refine s4 rfl ‹_› rfl ?_ ?_;omega)|refine aU rfl ?_);(refine pW rfl ?_ rfl (by rfl);refine Ag [] rfl rfl (f) ⟨rfl,by decide,by decide⟩ rfl trivial ?_;rintro A h m ⟨d,I,rfl,rfl,rfl⟩ _);(repeat first|(refine sA rfl ?_ ?_;first|exact tI|omega)|refine aU rfl ?_|apply Aa);refine⟨⟨⟨j+1,v++d⟩,by dsimp only;omega,by simp;omega⟩,by dsimp only;(omega),[],?_⟩;(simp[cX,zC,c,cN]<;>rfl)
   ·apply aE
    (repeat first|(refine sA rfl ?_ ?_;first|exact tI|omega)|refine aU rfl ?_|apply Aa);refine⟨⟨⟨k+1,v⟩,by dsimp only;omega,by dsimp only;omega⟩,by dsimp only;(omega),[],?_⟩;(simp[cX,zC,c,cN]<;>rfl)
 ·apply aE
  (repeat first|refine tA rfl ?_|refine aU rfl ?_|apply Aa);exact aR ⟨_,rfl,[],eT w,[],⟨λi hi=>absurd hi (mt i),ol⟩,rfl,trivial,w,by show w.length<=_;omega,rfl,rfl,rfl⟩
end Go.Am
