/-
  A system's step from a set of states: walked.
-/
import Derived.Test.YtdipaikojjjebaaGreatDoorPart24
import Derived.Test.YtdipaikojjjebaaGreatDoorPart23
set_option linter.all false
namespace Go.Am
open Go Go.Proofs
set_option maxHeartbeats 1000000
set_option maxRecDepth 4000
attribute [local irreducible] A1 Cr Lex Bs Aj Spec
variable {TB:BA}
theorem SZ:∀ {l:List Int},l.Pairwise (· < ·)->(∀x∈l,0<=x)->∀j:Nat,(BH l).testBit j=true↔(j:Int)∈l
 | [],_,_,j=>by simp[BH]
 | x :: r,e,f,j=>by
  have h:=f x (by simp);have c:=mg.1 e;have d:=SZ c.2 (λy g=>f y (by simp[g])) j;obtain⟨m,o,n⟩:=LO e h;rw[o,Nat.testBit_two_pow_mul];rw[n,Nat.testBit_two_pow_mul]at d;rw[lJ,<-d];by_cases k:j=x.toNat
  ·subst k
   simp;omega
  ·have b:¬(j:Int)=x:=by omega
   have hb:x.toNat<=j->(2*m+1).testBit (j-x.toNat)=(2*m).testBit (j-x.toNat):=λa=>by
    obtain⟨i,hi⟩:∃i,j-x.toNat=i+1:=⟨j-x.toNat-1,by omega⟩
    rw[hi,mV,mV];congr 1;omega
   by_cases a:x.toNat<=j
   ·rw[hb a];simp[b]
   ·simp[a,b]
def Em(m k:Nat):List Int:=((List.range k).filter (m.testBit ·)).map Int.ofNat
theorem RY(m k:Nat):Em m (k+1)=Em m k++if m.testBit k then [(k:Int)] else []:=by
 unfold Em;rw[oO,mO,mE];cases h:m.testBit k<;>simp[h]
theorem P7(m:Nat):∀k,BH (Em m k)=m%2 ^ k
 | 0=>by simp[Em,BH,Nat.mod_one]
 | k+1=>by
  rw[RY,OC,P7 m k,nP,Nat.mod_mul,oJ];by_cases h:m / 2 ^ k%2=1
  ·rw[h];simp[BH]
  ·rw[show m / 2 ^ k%2=0 by omega];simp[BH]
theorem O6(m k:Nat):(Em m k).Pairwise (· < ·):=by
 unfold Em;rw[mR]
 exact(List.pairwise_lt_range.filter _).imp λh=>by simpa using h
theorem Le{m k:Nat}{x:Int}(h:x∈Em m k):0<=x/\x<k/\m.testBit x.toNat=true:=by
 unfold Em at h;obtain⟨n,a,rfl⟩:=d8.1 h;obtain⟨c,b⟩:=lw.1 a;have:=lS.1 c;exact⟨by simp,by simp;omega,by simpa using b⟩
theorem Qp{m:Nat}(h:m<65536):m=BH (Em m 16):=by rw[P7];omega
def Ph(es:List DM)(l:Int)(xs:List Int):Nat:=xs.foldl (λa x=>a ||| BH (Hg es x.toNat l.toNat)) 0
theorem Oc{s:Sys}(hs:Ay s=true){l:Int}{j:Nat}:∀ {xs:List Int} {a:Nat},(xs.foldl (λa x=>a ||| BH (Hg s.es x.toNat l.toNat)) a).testBit j=true↔a.testBit j=true\/∃x∈xs,(j:Int)∈Hg s.es x.toNat l.toNat
 | [],a=>by simp
 | x::xs,a=>by
  rw[nW,Oc hs,nQ,lT];have b:=Ds hs s.es.length x.toNat l.toNat;rw[jp]at b;have d:=SZ b (λy c=>(LU hs (k:=s.es.length) (by rw[jp];exact c)).1) j;rw[d];simp only[lJ,exists_eq_or_imp,or_assoc]
theorem cU{s:Sys}(hs:Ay s=true){l:Int}(q:0<=l){m:Nat}(k:m<65536):Ph s.es l (Em m 16)=Bo s.es l m:=by
 refine m7 λj=>?_;rw[mZ];unfold Ph;rw[Oc hs,Cz];simp only[pp,nF,false_or];constructor
 ·rintro⟨x,i,g⟩
  obtain⟨p,d,h⟩:=Le i;unfold Hg at g;obtain⟨e,a,o⟩:=d8.1 g;obtain⟨c,b⟩:=lw.1 a;simp only[d4,decide_eq_true_eq]at b;exact⟨e,c,⟨by omega,by rw[show e.f.toNat=x.toNat by omega];exact h⟩,by omega⟩
 ·rintro⟨e,a,⟨p,d⟩,h⟩
  have hb:=BT hs a;unfold CI at hb;simp only[d4,decide_eq_true_eq]at hb;have n:=J8 k d;refine⟨e.f,?_,?_⟩
  ·unfold Em
   exact d8.2 ⟨e.f.toNat,lw.2 ⟨lS.2 n,d⟩,by simp;omega⟩
  ·unfold Hg
   refine d8.2 ⟨e,lw.2 ⟨a,?_⟩,by omega⟩;simp only[d4,decide_eq_true_eq];omega
theorem cV{s:Sys}(hs:Ay s=true){l:Int}{xs:List Int}:Ph s.es l xs<65536:=IA λj a=>by
 unfold Ph at a;rw[Oc hs]at a;simp only[pp,nF,false_or]at a;obtain⟨x,_,b⟩:=a;have:=LU hs (k:=s.es.length) (by rw[jp];exact b);omega
theorem Vx{a b:Nat}(ha:a<2 ^ 62)(hb:b<2 ^ 62):Fp .i64 (a:Nat) (b:Nat)=((a ||| b:Nat):Int):=by
 have d:a ||| b<2 ^ 62:=nM ha hb;unfold Fp
 have c:(BitVec.ofInt IntKind.i64.bits (a:Int) ||| BitVec.ofInt IntKind.i64.bits (b:Int)).toNat=a ||| b:=by
  have e:IntKind.i64.bits=64:=rfl;rw[e];simp only[BitVec.toNat_or,BitVec.ofInt_natCast,BitVec.toNat_ofNat];rw[lZ (by omega),lZ (by omega)]
 rw[c];exact IntWalk.i64_in _ (by omega)
theorem WE[CG TB]{s:Sys}(hs:Ay s=true){l:Int}(B:0<=l/\l<6){m:Nat}(r:m<65536):Pure Tryz.prog TB 93 [.o (.ip (CS s.es)),eI .i64 (m:Nat),eI .i64 l] (eI .i64 (Bo s.es l m:Nat)):=by
 rw[<-cU hs B.1 r];rw[Qp r]
 have hb:∀x∈Em m 16,0<=x/\x<16:=λx h=>⟨(Le h).1,(Le h).2.1⟩
 have H:=O6 m 16;rw[<-Qp r]
 conv=>arg 4;rw[Qp r]
 generalize Em m 16=xs at *;refine eG Tryz.func93 rfl (by kernel_rfl) rfl ?_;intro Γ c;(repeat first|refine tA rfl ?_|refine aU rfl ?_|apply Aa);apply aB;refine aL (α:={k:Nat // k<=xs.length}) [0,2] [] rfl rfl (λ⟨k,hk⟩=>[(1,eI .i64 (BH (xs.drop k):Nat)),(7,eI .i64 (Ph s.es l (xs.take k):Nat))]) (λ⟨k,hk⟩=>[]) 0 (λ⟨k,hk⟩=>xs.length-k) (⟨0,by omega⟩) c rfl (by (simp[cX,zC,c]<;>rfl)) ?_;rintro⟨k,hk⟩;(try dsimp only[cA,cB]);by_cases z:k<xs.length
 ·obtain⟨x,h⟩:=get_some z
  have A:=BE h;have d:=hb x (co h)
  have f:(x::xs.drop (k+1)).Pairwise (· < ·):=by rw[<-A];exact H.sublist (List.drop_sublist _ _)
  have w:BH (x::xs.drop (k+1))<2 ^ 16:=by
   refine KD f λy q=>?_;rw[<-A]at q;exact hb y (mY q)
  have v:=Ip (x:=x) (l:=xs.drop (k+1));have p:=Tb f d.1 (by omega);have n:=PC f d.1 (by omega);rw[<-A]at w v p n;have e:=dU (TB:=TB) (BH (xs.drop k)) (by omega) (by omega);rw[p]at e
  have ex:((x.toNat:Nat):Int)=x:=by omega
  rw[ex]at e;have i:=Ds hs s.es.length x.toNat l.toNat;rw[jp]at i;have F:BH (Hg s.es x.toNat l.toNat)<65536:=KD (t:=16) i λy q=>LU hs (k:=s.es.length) (by rw[jp];exact q);have G:Ph s.es l (xs.take k)<65536:=cV hs;have j:=Vx (a:=Ph s.es l (xs.take k)) (b:=BH (Hg s.es x.toNat l.toNat)) (by omega) (by omega)
  have u:Ph s.es l (xs.take (k+1))=Ph s.es l (xs.take k) ||| BH (Hg s.es x.toNat l.toNat):=by unfold Ph;rw[gt,h,nL];rfl
  rw[<-u]at j;(repeat first|refine tA rfl ?_|refine s2 rfl λ_ g=>?_|refine aU rfl ?_|apply Aa)
  ((refine aC rfl ?_ ?_<;>rintro⟨⟩);all_goals try(exfalso;(simp only[oZ] at *;omega)))
  apply aK;refine aS (aB ?_);refine rG (Hf []) (by kernel_rfl) ?_;(repeat first|(refine sA rfl ?_ ?_;first|exact tI|omega)|refine sP rfl (e) rfl ?_|(refine Ag rfl ?_;refine gA rfl ?_;first|refine gS (λ_ _=>Dy rfl (Um d B)) ?_)|refine aU rfl ?_|apply Aa);refine⟨⟨k+1,by omega⟩,by dsimp only;(omega),[],?_⟩;simp[cX,zC,c,j,n]
 ·obtain rfl:k=xs.length:=by omega
  rw[jp];(repeat first|refine tA rfl ?_|refine s2 rfl λ_ g=>?_|refine aU rfl ?_|apply Aa);(refine aC rfl ?_ ?_<;>rintro⟨⟩)
  ·exfalso
   rw[oH]at g;simp[BH]at g
  apply aE;(repeat first|refine tA rfl ?_|refine aU rfl ?_|apply Aa);(subst_vars;exact aR ⟨_,rfl,rfl⟩)
def Gn(F:PS):List Int:=[(F 0:Nat),(F 1:Nat),(F 2:Nat),(F 3:Nat),(F 4:Nat),(F 5:Nat),(F 6:Nat),(F 7:Nat),(F 8:Nat),(F 9:Nat),(F 10:Nat),(F 11:Nat)]
abbrev PV(F:PS):List C:=kK .u16 (Gn F)
abbrev fz(F:PS):E:=cy .u16 (Gn F)
theorem IM{F:PS}{p:Nat}(h:p<12):(Gn F)[p]?=some (F p:Int):=by
 obtain rfl|rfl|rfl|rfl|rfl|rfl|rfl|rfl|rfl|rfl|rfl|rfl:p=0\/p=1\/p=2\/p=3\/p=4\/p=5\/p=6\/p=7\/p=8\/p=9\/p=10\/p=11:=by omega
 all_goals rfl
theorem Na{F:PS}{p:Nat}(h:p<12):(PV F)[p]?=some (.d (.v (.int .u16 (F p:Int)))):=by simp[IM h]
theorem PW{F G:PS}(h:∀p,p<12->F p=G p):Gn F=Gn G:=by
 unfold Gn;rw[h 0 (by omega),h 1 (by omega),h 2 (by omega),h 3 (by omega),h 4 (by omega),h 5 (by omega),h 6 (by omega),h 7 (by omega),h 8 (by omega),h 9 (by omega),h 10 (by omega),h 11 (by omega)]
theorem VS{F G:PS}(h:Gn F=Gn G):∀p,p<12->F p=G p:=λp a=>by
 have:=IM (F:=F) a;rw[h,IM a]at this
 injection this with this
 omega
theorem VR{F:PS}{p:Nat}(h:p<12){v:Nat}:Ae (PV F) p [.d (.v (.int .u16 (v:Int)))]=PV λi=>if i=p then v else F i:=by
 have b:(PV F).length=12:=by simp[Gn]
 rw[Hw (by omega)];apply nf;intro i;rw[List.getElem?_set];by_cases hi:i<12
 ·rw[Na hi,Na hi]
  by_cases e:p=i
  ·subst e;rw[if_pos rfl,if_pos (by omega),if_pos rfl]
  ·rw[if_neg e,if_neg (λh=>e h.symm)]
 ·have a:∀G:PS,(PV G)[i]?=none:=λG=>lV (by simp[Gn];omega)
  rw[a,a];by_cases e:p=i
  ·omega
  ·rw[if_neg e]
theorem u16_in{n:Nat}(h:n<65536):IntKind.u16.wrap (n:Int)=n:=by
 unfold IntKind.wrap;simp[IntKind.bits,IntKind.signed,IntKind.min,IntKind.max];omega
instance:FD Tryz.prog 150 12 .u16:=⟨⟨148,⟨by kernel_rfl,by kernel_rfl,by kernel_rfl,by kernel_rfl⟩,by kernel_rfl⟩,by kernel_rfl,λh=>by
 have a:Nat.beq Tryz.prog.types.size 0=false:=by kernel_rfl
 rw[h]at a;cases a⟩
def Gd(t:CW)(l:Int)(F:PS)(k:Nat):PS:=λp':Nat=>(List.range k).foldl (λa p=>if CN t.q p l=(p':Int) then a ||| Fe t.s l (F p) else a) 0
theorem Lx{t:CW}{l:Int}{F:PS}{k:Nat}:Gd t l F (k+1)=λp':Nat=>if CN t.q k l=(p':Int) then Gd t l F k p' ||| Fe t.s l (F k) else Gd t l F k p':=by
 funext p';unfold Gd;rw[oO,nL];rfl
theorem UA{s:Sys}{l:Int}:Fe s l 0=0:=by
 unfold Fe;split
 ·exact EM λj=>by
   cases h:(Bo s.es l 0).testBit j
   ·rfl
   ·obtain⟨e,_,⟨_,a⟩,_⟩:=Cz.1 h
    simp at a
 ·rfl
theorem PL{t:CW}{l:Int}{F:PS}{k:Nat}(h:F k=0):Gd t l F (k+1)=Gd t l F k:=by
 rw[Lx];funext p';rw[h,UA];split<;>simp
theorem Zt{t:CW}{l:Int}{F:PS}(h:DF t F)(b:t.q.nx.length<=12):Gd t l F 12=VJ t l F:=by
 have key:∀k,Gd t l F (t.q.nx.length+k)=Gd t l F t.q.nx.length:=λk=>by
  induction k with
  | zero=>rfl
  | succ k a=>rw[<-l8,PL (h.z _ (by omega)),a]
 have:=key (12-t.q.nx.length);rw[show t.q.nx.length+(12-t.q.nx.length)=12 by omega]at this;rw[this];rfl
theorem cJ{t:CW}(ht:Bu t=true){l:Int}{F:PS}(h:DF t F)(k p:Nat):Gd t l F k p<65536:=by
 induction k with
 | zero=>simp[Gd]
 | succ k a=>
  rw[Lx];simp only;have b:=Oz ht (l:=l) (h.lt k);split
  ·have:=nM (n:=16) a b;omega
  ·exact a
structure FF where
 F:List PS
 nx:List (List Int)
 un:List Bool
abbrev PQ(r:List Int):List C:=r.map λx=>.d (iD x)
def Pe(F:List PS):List (List Int×Int):=F.zipIdx.map λx=>(Gn x.1,(x.2:Int))
abbrev aN(t:CW)(a b c d:C):List C:=[.d (iD t.s.al),.d (iD t.s.st),.d (DY t.s.es),.d (iD t.q.al),.d (Er t.q.nx),.d (GK t.q.ac),.d (iD t.al),.ip (CS t.s.es),.d (.l (FY t.q)),.d (HH (CR t)),a,b,c,d]
abbrev LN(t:CW)(m:FF):Ab:=[(0,.cells 89 14 [aN t (.arr 1 12 0 m.F.length) (.mp 2) (.arr 3 6 0 m.nx.length) (.arr 4 1 0 m.un.length)]),(1,.cells 150 12 (m.F.map PV)),(2,.mp (mapA .u16 (Pe m.F))),(3,.cells 94 6 (m.nx.map PQ)),(4,.cells 4 1 (m.un.map AN))]
theorem AZ(r:Nat->Nat)(q:IntKind)(l:List Int):C.Ch r (l.map λx=>.d (.v (.int q x)))=l.map λx=>.d (.v (.int q x)):=by
 rw[show (l.map λx=>C.d (.v (.int q x)))=(l.map λx=>D.v (.int q x)).map .d by simp,Rs]
theorem Og{P:Program}{Γ:Ctx}{d:Option Tmp}{ty:TypeId}{pos:String}{af:Array Edge}{g:Option (Nat×Bool)}{f:Env}{σ:Ab}{nx:Nat}{t:TypeId}{x:Operand}{id k i j n:Nat}{T:TypeId}{rows:List (List C)}{r:List C}{c:C}[l:DB P t false n](a:ev f x=some (.o (.ptr id k i j)))(e:look σ id=some (.cells T k rows))(b:rows[i]?=some r)(h:r[j]?=some c) :
 A1 P TB Γ ⟨d,.load t x,ty,pos,af,g⟩ f σ nx (.o c):=PX a e b (show fa false n j r=some (.o c) by unfold fa;rw[h];rfl)
theorem Sn{r:List Nat}:∀i,i<5->(0::1::2::3::4::r)[i]?=some i
 | 0,_|1,_|2,_|3,_|4,_=>rfl
 | n+5,h=>by omega
theorem Vy{a b:Nat}(ha:a<65536)(hb:b<65536):Fp .u16 (a:Int) (b:Int)=((a ||| b:Nat):Int):=by
 have d:a ||| b<2 ^ 16:=nM (by omega) (by omega);unfold Fp
 have c:(BitVec.ofInt IntKind.u16.bits (a:Int) ||| BitVec.ofInt IntKind.u16.bits (b:Int)).toNat=a ||| b:=by
  have e:IntKind.u16.bits=16:=rfl;rw[e];simp only[BitVec.toNat_or,BitVec.ofInt_natCast,BitVec.toNat_ofNat];rw[lZ (by omega),lZ (by omega)]
 rw[c];exact u16_in (by omega)
theorem VI[CG TB]{t:CW}(ht:Bu t=true)(m:FF){l:Int}(n:0<=l/\l<6){F:PS}(A:DF t F):Spec Tryz.prog TB 114 (LN t m) 5 [.o (.ptr 0 14 0 0),fz F,eI .i64 l] (λx σ nx=>x=fz (VJ t l F)/\σ=LN t m/\nx=5):=by
 have hs:Ay t.s=true:=by unfold Bu at ht;simp only[d4]at ht;exact ht.1
 have ha:=DA ht;have P:=AS ha;rw[<-Zt A (by omega)];refine eR Tryz.func114 rfl (by kernel_rfl) rfl ?_;intro Γ c;(repeat first|refine tA rfl ?_|refine aU rfl ?_|apply Aa);apply aB;refine aL (α:={k:Nat // k<=12}) [0,2,6,7,11] [0,1,2,3,4,5] rfl rfl (λs=>[(12,eI .i64 s.1)]) (λs=>[(6,.cells 150 12 [PV (Gd t l F s.1)])]) 7 (λs=>12-s.1) (⟨0,by omega⟩) c rfl (by (simp[cX,zC,c,AZ]<;>rfl)) ?_;rintro⟨k,hk⟩;(try dsimp only[cA,cB]);by_cases I:k<12
 ·have N:(Gn F)[((k:Nat):Int).toNat]?=some (F k:Int):=by rw[i7];exact IM I
  have u:=A.lt k;(repeat first|refine s2 rfl λ_ i=>?_|refine aU rfl ?_|apply Aa)
  ((refine aC rfl ?_ ?_<;>rintro⟨⟩);all_goals try(exfalso;(simp only[oZ] at *;omega)))
  apply aK;refine aS (aB ?_);(repeat first|refine tA rfl ?_|refine s2 rfl λ_ i=>?_|(refine Ag rfl ?_;refine gA rfl ?_;first|refine gS (λ_ _=>Ky (l:=Gn F) rfl rfl rfl (by omega) N) ?_)|refine aU rfl ?_|apply Aa);(refine aC rfl ?_ ?_<;>rintro⟨⟩)
  ·have M:F k=0:=by (simp only[oZ] at *;omega)
   apply aE;(repeat first|(refine sA rfl ?_ ?_;first|exact tI|omega)|refine aU rfl ?_|apply Aa);refine⟨⟨k+1,by omega⟩,by dsimp only;(omega),[0,1,2,3,4,5,6],?_⟩;simp[cX,zC,c,AZ,PL M];exact Sn
  ·have H:k<t.q.nx.length:=by
    rcases l5 k t.q.nx.length with K|K
    ·exact K
    ·have:=A.z k K;(simp only[oZ] at *;omega)
   have ta:=KH (a:=t.q) (q:=((k:Nat):Int).toNat) (by omega);have ra:=Im (h:=λl=>CN t.q k l) n.1 n.2
   have el:((l.toNat:Nat):Int)=l:=by omega
   simp only[el]at ra;have J:=Eo ha H n.1 n.2;have w:=WE (TB:=TB) hs n u;have y:=Oz ht (l:=l) u;have G:=cJ ht (l:=l) A k
   obtain⟨g,hg⟩:∃g:Nat,CN t.q k l=g:=⟨(CN t.q k l).toNat,by omega⟩
   rw[hg]at ra J;apply aK;(repeat first|(refine sA rfl ?_ ?_;first|exact tI|omega)|(refine sC rfl (Lo _ _) ?_;intro _ i)|(refine Ag rfl ?_;refine gA rfl ?_;first|refine gS (λ_ _=>Rn rfl (IntWalk.i64_in _ (by omega))) ?_)|refine aU rfl ?_|apply Aa)
   have ej:0+((g:Nat):Int).toNat*1=g:=by omega
   have L:(PV (Gd t l F k))[0+((g:Nat):Int).toNat*1]?=some (.d (.v (.int .u16 (Gd t l F k g:Int)))):=by rw[ej];exact Na (by omega)
   have f:=Vy (G g) y
   have B:Gd t l F (k+1)=λp':Nat=>if p'=g then Gd t l F k g ||| Fe t.s l (F k) else Gd t l F k p':=by
    rw[Lx,hg];funext p';by_cases e:p'=g
    ·subst e;simp
    ·rw[if_neg e,if_neg (by omega)]
   have b:=VR (F:=Gd t l F k) (p:=g) (by omega) (v:=Gd t l F k g ||| Fe t.s l (F k));rw[<-B]at b;(refine aC rfl ?_ ?_<;>rintro⟨⟩)
   ·have hb:AT t.s.al l.toNat=true:=by simpa[hasB,n.1]using i
    have j:Fe t.s l (F k)=Bo t.s.es l (F k):=by unfold Fe;rw[if_pos hb]
    rw[<-j]at w;(repeat first|(refine sA rfl ?_ ?_;first|exact tI|omega)|(refine s4 rfl ‹_› rfl ?_ ?_;omega)|refine sP rfl (w) rfl ?_|refine aU rfl ?_|apply Aa);(repeat first|(refine sA rfl ?_ ?_;first|exact tI|omega)|(refine Ag rfl ?_;refine gA rfl ?_;first|refine gS (λ_ _=>Dy rfl ra) ?_|refine gQ (Og rfl rfl rfl L) rfl ?_|refine gS (λ_ _=>Rn rfl (u16_in y)) ?_|refine gS (λ_ _=>fH rfl rfl f) ?_));(refine Ag rfl ?_;refine HJ ?_ rfl (by rfl);refine Et (r:=PV (Gd t l F k)) rfl rfl rfl rfl rfl rfl (by show 0+((g:Nat):Int).toNat*1+1<=12;omega) ?_);apply Aa;(repeat first|(refine sA rfl ?_ ?_;first|exact tI|omega)|refine aU rfl ?_|apply Aa);refine⟨⟨k+1,by omega⟩,by dsimp only;(omega),[0,1,2,3,4,5,6],?_⟩;simp[cX,zC,c,AZ,f];exact⟨Sn,by simpa[Ae]using b⟩
   ·have hb:AT t.s.al l.toNat=false:=by simpa[hasB,n.1]using i
    have j:Fe t.s l (F k)=F k:=by unfold Fe;rw[if_neg (by simp[hb])]
    rw[j]at f b;apply aK;(repeat first|(refine sA rfl ?_ ?_;first|exact tI|omega)|(refine s4 rfl ‹_› rfl ?_ ?_;omega)|(refine Ag rfl ?_;refine gA rfl ?_;first|refine gS (λ_ _=>Dy rfl ra) ?_|refine gQ (Og rfl rfl rfl L) rfl ?_|refine gS (λ_ _=>Rn rfl (u16_in u)) ?_|refine gS (λ_ _=>fH rfl rfl f) ?_)|refine aU rfl ?_);(refine Ag rfl ?_;refine HJ ?_ rfl (by rfl);refine Et (r:=PV (Gd t l F k)) rfl rfl rfl rfl rfl rfl (by show 0+((g:Nat):Int).toNat*1+1<=12;omega) ?_);apply Aa;(repeat first|(refine sA rfl ?_ ?_;first|exact tI|omega)|refine aU rfl ?_|apply Aa);refine⟨⟨k+1,by omega⟩,by dsimp only;(omega),[0,1,2,3,4,5,6],?_⟩;simp[cX,zC,c,AZ,f];exact⟨Sn,by simpa[Ae]using b⟩
 ·obtain rfl:k=12:=by omega
  (repeat first|refine s2 rfl λ_ i=>?_|refine aU rfl ?_|apply Aa)
  ((refine aC rfl ?_ ?_<;>rintro⟨⟩);all_goals try(exfalso;(simp only[oZ] at *;omega)))
  apply aE;(repeat first|refine tA rfl ?_|refine aU rfl ?_|apply Aa);refine aR ⟨_,rfl,[0,1,2,3,4],fz (Gd t l F 12),LN t m,⟨Sn,by decide⟩,rfl,by (simp[cX,zC,c,AZ]),rfl,rfl,rfl⟩
def HK(t:CW)(F:PS)(ls:List Int):PS:=λp=>ls.foldl (λa l=>a ||| VJ t l F p) (F p)
def Ko(A B:PS)(k:Nat):PS:=λp=>if p<k then A p ||| B p else A p
theorem Xw{A B:PS}{k:Nat}:Ko A B (k+1)=λp=>if p=k then Ko A B k k ||| B k else Ko A B k p:=by
 funext p;unfold Ko;by_cases e:p=k
 ·subst e;simp
 ·by_cases h:p<k
  ·rw[if_pos (by omega),if_neg e,if_pos h]
  ·rw[if_neg (by omega),if_neg e,if_neg h]
theorem YC{t:CW}{F:PS}{ls:List Int}{l:Int}:HK t F (ls++[l])=λp=>HK t F ls p ||| VJ t l F p:=by
 funext p;unfold HK;rw[nL];rfl
theorem VO{α:Type}{g:α->Nat}{j:Nat}:∀ {l:List α} {a:Nat},(l.foldl (λa x=>a ||| g x) a).testBit j=true↔a.testBit j=true\/∃x∈l,(g x).testBit j=true
 | [],a=>by simp
 | x::l,a=>by
  rw[nW,VO,nQ,lT];simp[or_assoc]
theorem GI{t:CW}{F:PS}{ls:List Int}{p j:Nat}:(HK t F ls p).testBit j=true↔(F p).testBit j=true\/∃l∈ls,(VJ t l F p).testBit j=true:=VO
theorem U9{t:CW}(ht:Bu t=true){F:PS}(h:DF t F){ls:List Int}(d:∀l∈ls,0<=l/\l<6):DF t (HK t F ls):=by
 refine⟨λp=>IA λj e=>?_,λp c=>EM λj=>?_⟩
 ·rcases GI.1 e with a|⟨l,a,b⟩
  ·exact J8 (h.lt p) a
  ·exact J8 ((Lw ht (d l a) h).lt p) b
 ·cases hb:(HK t F ls p).testBit j
  ·rfl
  ·rcases GI.1 hb with a|⟨l,a,b⟩
   ·rw[h.z p c]at a;simp at a
   ·rw[(Lw ht (d l a) h).z p c]at b;simp at b
theorem sub_le{a b:Nat}(h:∀j,a.testBit j=true->b.testBit j=true):a<=b:=by
 have:a ||| b=b:=m7 λj=>by
  rw[nQ];cases ha:a.testBit j
  ·simp
  ·simp[h j ha]
 rw[<-this];exact Nat.left_le_or
def Sx(F:PS):Nat:=(65535-F 0)+(65535-F 1)+(65535-F 2)+(65535-F 3)+(65535-F 4)+(65535-F 5)+(65535-F 6)+(65535-F 7)+(65535-F 8)+(65535-F 9)+(65535-F 10)+(65535-F 11)
theorem cH{F G:PS}(j:∀p,F p<65536)(a:∀p,G p<65536)(h:∀p,F p<=G p)(b:Gn G≠Gn F):Sx G<Sx F:=by
 have k:¬Sx F<=Sx G:=λc=>b (PW λp i=>by
  have K:=h 0;have J:=h 1;have I:=h 2;have H:=h 3;have B:=h 4;have A:=h 5;have z:=h 6;have y:=h 7;have x:=h 8;have w:=h 9;have g:=h 10;have f:=h 11;have v:=a 0;have u:=a 1;have t:=a 2;have s:=a 3;have r:=a 4;have q:=a 5;have o:=a 6;have n:=a 7;have m:=a 8;have l:=a 9;have e:=a 10;have d:=a 11;unfold Sx at c
  obtain rfl|rfl|rfl|rfl|rfl|rfl|rfl|rfl|rfl|rfl|rfl|rfl:p=0\/p=1\/p=2\/p=3\/p=4\/p=5\/p=6\/p=7\/p=8\/p=9\/p=10\/p=11:=by omega
  all_goals omega)
 omega
theorem dF{F:PS}(h:∀p,F p<65536):∀x∈Gn F,(Lit.int .u16 x).wf=true:=λx a=>by
 have:∃p,x=(F p:Int):=by
  unfold Gn at a;simp only[lJ,oI,or_false]at a
  rcases a with h|h|h|h|h|h|h|h|h|h|h|h<;>exact⟨_,h⟩
 obtain⟨p,rfl⟩:=this;have:=h p;simp[Lit.wf,IntKind.min,IntKind.max,IntKind.signed,IntKind.bits];omega
section
variable {t:CW}(ht:Bu t=true)
include ht
theorem YD{F0 F:PS}(c:∀p j,(F p).testBit j=true->Qm t F0 p j){p j:Nat}(h:(HK t F (CR t) p).testBit j=true):Qm t F0 p j:=by
 rcases GI.1 h with a|⟨l,b,a⟩
 ·exact c p j a
 ·obtain⟨q,k,hg,hb⟩:=Kp.1 a
  unfold Fe at hb;rw[if_pos (DT ht b).2.2]at hb;obtain⟨e,d,⟨i,g⟩,f⟩:=Cz.1 hb;subst i;have:=Qm.step (c q _ g) d b rfl;rw[hg,f]at this
  simpa using this
theorem WY{F0 F:PS}(k:DF t F0)(g:DF t F)(i:∀p j,(F0 p).testBit j=true->(F p).testBit j=true)(h:∀p j,(F p).testBit j=true->Qm t F0 p j)(f:HK t F (CR t)=F):F=WX t F0:=
 er ht k g.z i h λp l j b c d=>by
  have a:=DT ht c;have e:=Eo (DA ht) b a.1 a.2.1;rw[<-f];refine GI.2 (.inr ⟨l,c,Kp.2 ⟨p,b,by omega,?_⟩⟩);unfold Fe;rw[if_pos a.2.2];exact d
end
theorem RZ[CG TB]{t:CW}(ht:Bu t=true)(m:FF){F0:PS}(J:DF t F0):Spec Tryz.prog TB 112 (LN t m) 5 [.o (.ptr 0 14 0 0),fz F0] (λx σ nx=>x=fz (WX t F0)/\σ=LN t m/\nx=5):=by
 have hah:=AS (DA ht)
 have X:(CR t).length<=6:=by
  unfold CR;have K:(Ac t.s.al).length<=6:=AQ _ _;exact lm (nr _ _) K
 refine eR Tryz.func112 rfl (by kernel_rfl) rfl ?_;intro Γ c;(repeat first|refine aU rfl ?_);(refine pW rfl ?_ rfl (by rfl);refine CY rfl rfl ?_);(repeat first|refine tM rfl ?_|apply Aa);apply aB;refine aL (α:={F:PS // DF t F/\(∀p j,(F0 p).testBit j=true->(F p).testBit j=true)/\∀p j,(F p).testBit j=true->Qm t F0 p j}) [0,3,4] [0,1,2,3,4,6] rfl rfl (λs=>[]) (λs=>[(5,.cells 150 12 [PV s.1])]) 7 (λs=>Sx s.1) (⟨F0,J,λ_ _ h=>h,λ_ _ h=>.base h⟩) c rfl (by (simp[cX,zC,c,AZ]<;>rfl)) ?_;rintro⟨F,f,K,T⟩;(try dsimp only[cA,cB]);have f:DF t F:=f;apply aB;(repeat first|refine sN rfl ?_|refine tA rfl ?_|refine aU rfl ?_|apply Aa);apply aB;refine aL (α:={k:Nat // k<=(CR t).length}) [0,3,4,5,14,15] [0,1,2,3,4,5,6] rfl rfl (λs=>[(16,eI .i64 s.1)]) (λs=>[(7,.cells 150 12 [PV (HK t F ((CR t).take s.1))])]) 8 (λs=>(CR t).length-s.1) (⟨0,by omega⟩) c rfl (by (simp[cX,zC,c,AZ]<;>rfl)) ?_;rintro⟨k,hk⟩;(try dsimp only[cA,cB]);by_cases Q:k<(CR t).length
 ·obtain⟨l,u⟩:=get_some Q
  have g:=DT ht (co u)
  have Y:((CR t).map DJ)[((k:Nat):Int).toNat]?=some (DJ l):=by rw[i7];simp[u]
  have I:∀x∈(CR t).take k,0<=x/\x<6:=λx B=>by
   have:=DT ht (ma B);omega
  have y:=U9 ht f I;have hG:=Lw ht (l:=l) ⟨g.1,g.2.1⟩ f
  have M:HK t F ((CR t).take (k+1))=λp=>HK t F ((CR t).take k) p ||| VJ t l F p:=by rw[gt,u];exact YC
  have P:=VI (TB:=TB) ht m (l:=l) ⟨g.1,g.2.1⟩ f;generalize HK t F ((CR t).take k)=A at *;generalize VJ t l F=G at *;(repeat first|refine s2 rfl λ_ e=>?_|refine aU rfl ?_|apply Aa)
  ((refine aC rfl ?_ ?_<;>rintro⟨⟩);all_goals try(exfalso;(simp only[oZ] at *;omega)))
  apply aK;refine aS (aB ?_);(repeat first|refine tA rfl ?_|(refine s4 rfl ‹_› rfl ?_ ?_;omega)|refine aU rfl ?_|apply Aa);(refine pW rfl ?_ rfl (by rfl);refine Af [0,1,2,3,4] rfl rfl (P) ⟨rfl,by decide,by decide⟩ rfl (by simp[cX,zC,c,AZ]) ?_;rintro x0 U V ⟨rfl,rfl,rfl⟩ _);(repeat first|refine tA rfl ?_);apply Aa;apply aB;refine aL (α:={p:Nat // p<=12}) [0,3,4,5,14,15,16,23] [0,1,2,3,4,5,6] rfl rfl (λs=>[(24,eI .i64 s.1)]) (λs=>[(7,.cells 150 12 [PV (Ko A G s.1)])]) 8 (λs=>12-s.1) (⟨0,by omega⟩) c rfl (by (simp[cX,zC,c,AZ]<;>rfl)) ?_;rintro⟨p,R⟩;(try dsimp only[cA,cB]);by_cases n:p<12
  ·have B:(Gn G)[((p:Nat):Int).toNat]?=some (G p:Int):=by rw[i7];exact IM n
   have ej:0+((p:Nat):Int).toNat*1=p:=by omega
   have q:Ko A G p p<65536:=by
    unfold Ko;rw[if_neg (by omega)];exact y.lt p
   have w:(PV (Ko A G p))[0+((p:Nat):Int).toNat*1]?=some (.d (.v (.int .u16 (Ko A G p p:Int)))):=by rw[ej];exact Na n
   have L:=Vy q (hG.lt p);have i:=VR (F:=Ko A G p) (p:=p) n (v:=Ko A G p p ||| G p);rw[<-Xw]at i;(repeat first|refine s2 rfl λ_ e=>?_|refine aU rfl ?_|apply Aa)
   ((refine aC rfl ?_ ?_<;>rintro⟨⟩);all_goals try(exfalso;(simp only[oZ] at *;omega)))
   apply aK;refine aS (aB ?_);(repeat first|(refine sA rfl ?_ ?_;first|exact tI|omega)|(refine Ag rfl ?_;refine gA rfl ?_;first|refine gS (λ_ _=>Ky (l:=Gn G) rfl rfl rfl (by omega) B) ?_|refine gQ (Og rfl rfl rfl w) rfl ?_)|refine aU rfl ?_|apply Aa);(refine Ag rfl ?_;refine HJ ?_ rfl (by rfl);refine Et (r:=PV (Ko A G p)) rfl rfl rfl rfl rfl rfl (by show 0+((p:Nat):Int).toNat*1+1<=12;omega) ?_);apply Aa;(repeat first|(refine sA rfl ?_ ?_;first|exact tI|omega)|refine aU rfl ?_|apply Aa);refine⟨⟨p+1,by omega⟩,by dsimp only;(omega),[0,1,2,3,4,5,6,7],?_⟩;simp[cX,zC,c,AZ,L];exact⟨Sn,by simpa[Ae]using i⟩
  ·obtain rfl:p=12:=by omega
   have q:Gn (Ko A G 12)=Gn λp=>A p ||| G p:=PW λp R=>by unfold Ko;rw[if_pos R]
   (repeat first|refine s2 rfl λ_ e=>?_|refine aU rfl ?_|apply Aa)
   ((refine aC rfl ?_ ?_<;>rintro⟨⟩);all_goals try(exfalso;(simp only[oZ] at *;omega)))
   apply aE;(repeat first|(refine sA rfl ?_ ?_;first|exact tI|omega)|refine aU rfl ?_|apply Aa);refine⟨⟨k+1,by omega⟩,by dsimp only;(omega),[0,1,2,3,4,5,6,7],?_⟩;simp[cX,zC,c,AZ,M];exact⟨Sn,congrArg (List.map _) q⟩
 ·obtain rfl:k=(CR t).length:=by omega
  rw[jp]
  have y:=U9 ht f λx B=>by
   have:=DT ht B
   show 0<=x/\x<6
   omega
  (repeat first|refine s2 rfl λ_ e=>?_|refine aU rfl ?_|apply Aa)
  ((refine aC rfl ?_ ?_<;>rintro⟨⟩);all_goals try(exfalso;(simp only[oZ] at *;omega)))
  apply aE;(repeat first|refine tA rfl ?_|(refine Ag rfl ?_;refine gA rfl ?_;first|(refine gB (λ_ _=>iM (a:=Gn (HK t F (CR t))) (b:=Gn F) rfl rfl rfl rfl (dF y.lt) (dF f.lt)) ?_;intro _ e))|refine aU rfl ?_|apply Aa);(refine aC rfl ?_ ?_<;>rintro⟨⟩)
  ·have Z:HK t F (CR t)=F:=by
    have h3:Gn (HK t F (CR t))=Gn F:=by simpa using e
    have h4:=VS h3;funext p
    rcases l5 p 12 with S|S
    ·exact h4 p S
    ·rw[y.z p (by omega),f.z p (by omega)]
   rw[<-WY ht J f K T Z];(repeat first|refine tA rfl ?_|refine aU rfl ?_|apply Aa);refine aR ⟨_,rfl,[0,1,2,3,4],fz F,LN t m,⟨Sn,by decide⟩,rfl,by (simp[cX,zC,c,AZ]),rfl,rfl,rfl⟩
  ·have N:Gn (HK t F (CR t))≠Gn F:=by simpa using e
   have H:∀p,F p<=HK t F (CR t) p:=λp=>sub_le λj w=>GI.2 (.inl w);have hm:=cH f.lt y.lt H N;apply aK;(repeat first|refine tA rfl ?_|refine aU rfl ?_|apply Aa);refine⟨⟨HK t F (CR t),y,λp j w=>GI.2 (.inl (K p j w)),λp j w=>YD ht T w⟩,by dsimp only;(omega),[0,1,2,3,4,5,6],?_⟩;simp[cX,zC,c,AZ];exact⟨Sn,rfl,rfl⟩
def De{α:Type}(Q:α->Prop)(g:α->E)(x:E)(σ:Ab)(nx:Nat):Prop:=∃r,Q r/\x=g r/\σ=[]/\nx=0
theorem Ek(n:Int):Spec Tryz.prog TB 209 [] 0 [eI .i64 n] (De (λr:W=>r.length<=6) eT):=by
 have h:(Ac n).length<=6:=AQ n 6;refine eR Tryz.func209 rfl (by kernel_rfl) rfl ?_;intro Γ b;(repeat first|refine tA rfl ?_|refine s2 rfl λ_ a=>?_|(refine sC rfl (Gx n) ?_;intro _ a)|refine aU rfl ?_|apply Aa);(refine aC rfl ?_ ?_<;>rintro⟨⟩)
 ·(repeat first|refine tA rfl ?_|refine aU rfl ?_|apply Aa)
  refine aR ⟨_,rfl,[],eT [],[],⟨by intro i hi;omega,by decide⟩,rfl,trivial,[],by decide,rfl,rfl,rfl⟩
 apply aK;(repeat first|refine tA rfl ?_|refine s2 rfl λ_ a=>?_|refine aU rfl ?_|apply Aa);(refine aC rfl ?_ ?_<;>rintro⟨⟩)
 ·(repeat first|refine tA rfl ?_|refine aU rfl ?_|apply Aa)
  refine aR ⟨_,rfl,[],eT [45],[],⟨by intro i hi;omega,by decide⟩,rfl,trivial,[45],by decide,rfl,rfl,rfl⟩
 apply aK;(repeat first|refine tA rfl ?_|refine sP rfl (Dw n) rfl ?_|refine aU rfl ?_|apply Aa);apply aB;refine aL (α:={s:Nat×W // s.1<=(Ac n).length/\s.2.length=s.1}) [4] [] rfl rfl (λs=>[(3,eT s.1.2),(5,eI .i64 s.1.1)]) (λs=>[]) 0 (λs=>(Ac n).length-s.1.1) (⟨⟨0,[]⟩,by simp⟩) b rfl (by (simp[cX,zC,b])) ?_;rintro⟨⟨k,w⟩,hk,e⟩;(try dsimp only[cA,cB]);have hk:k<=(Ac n).length:=hk;have e:w.length=k:=e;(repeat first|refine sN rfl ?_|refine tA rfl ?_|refine s2 rfl λ_ a=>?_|refine aU rfl ?_|apply Aa)
 ((refine aC rfl ?_ ?_<;>rintro⟨⟩);all_goals try (simp at a;done))
 ·have c:k<(Ac n).length:=by (simp only[oZ] at *;omega)
  obtain⟨l,f⟩:=get_some (l:=Ac n) (k:=k) c;have j:=get_map (g:=DJ) f;have d:=Ai (co f);apply aK;refine aS (aB ?_);(repeat first|(refine sA rfl ?_ ?_;first|exact tI|omega|simp only[oZ] at *;omega)|(refine s4 rfl ‹_› rfl ?_ ?_;omega)|refine sP rfl (Ls l d.1 (by omega)) rfl ?_|refine aU rfl ?_|apply Aa);refine⟨⟨⟨k+1,w++[UInt8.ofNat (97+l.toNat)]⟩,by dsimp only;omega,by simp;omega⟩,by dsimp only;(omega),[],?_⟩;(simp[cX,zC,b,cN]<;>rfl)
 ·apply aE
  (repeat first|refine tA rfl ?_|refine aU rfl ?_|apply Aa);refine aR ⟨_,rfl,[],eT w,[],⟨by intro i hi;omega,by decide⟩,rfl,trivial,w,by show w.length<=6;omega,rfl,rfl,rfl⟩
theorem GF(s:W):Spec Tryz.prog TB 168 [] 0 [eT s] (De (λ_:Int×Bool=>True) (λr=>.t [(false,[.d (iD r.1)]),(false,[.d (bD r.2)])])):=by
 refine eR Tryz.func168 rfl (by kernel_rfl) rfl ?_;intro Γ a;(repeat first|refine tA rfl ?_|refine aU rfl ?_|apply Aa);apply aB;refine aL (α:={k:Nat // k<=64}) [0] [] rfl rfl (λs=>[(4,eI .i64 s.1)]) (λs=>[]) 0 (λs=>64-s.1) (⟨0,by omega⟩) a rfl (by (simp[cX,zC,a])) ?_;rintro⟨k,hk⟩;(try dsimp only[cA,cB]);(repeat first|refine tA rfl ?_|refine s2 rfl λ_ b=>?_|refine aU rfl ?_|apply Aa)
 ((refine aC rfl ?_ ?_<;>rintro⟨⟩);all_goals try (simp at b;done))
 ·have f:k<64:=by (simp only[oZ] at *;omega)
  apply aK;refine aS (aB ?_);(repeat first|refine tA rfl ?_|refine aU rfl ?_);(refine pW rfl ?_ rfl (by rfl);refine Af [] rfl rfl (Ek (TB:=TB) (k:Int)) ⟨rfl,by decide,by decide⟩ rfl trivial ?_;rintro g c e ⟨r,h,rfl,rfl,rfl⟩ _);(repeat first|refine tA rfl ?_|refine s2 rfl λ_ b=>?_|apply Aa);(refine aC rfl ?_ ?_<;>rintro⟨⟩)
  ·(repeat first|refine tA rfl ?_|refine aU rfl ?_|apply Aa)
   refine aR ⟨_,rfl,[],.t [(false,[.d (iD k)]),(false,[.d (bD true)])],[],⟨by intro i hi;omega,by decide⟩,rfl,trivial,(k,true),trivial,rfl,rfl,rfl⟩
  ·apply aK
   (repeat first|(refine sA rfl ?_ ?_;first|exact tI|omega)|refine aU rfl ?_|apply Aa);refine⟨⟨k+1,by omega⟩,by dsimp only;(omega),[],?_⟩;(simp[cX,zC,a,cN]<;>rfl)
 ·apply aE
  (repeat first|refine tA rfl ?_|refine aU rfl ?_|apply Aa);refine aR ⟨_,rfl,[],.t [(false,[.d (iD 0)]),(false,[.d (bD false)])],[],⟨by intro i hi;omega,by decide⟩,rfl,trivial,(0,false),trivial,rfl,rfl,rfl⟩
theorem Lr(a:W)(hs:a.length<=1000000)(c:UInt8):Spec Tryz.prog TB 167 [] 0 [eT a,eI .u8 c.toNat] (De (λr:List W=>1<=r.length/\r.length<=a.length+1/\∀w∈r,w.length<=a.length) Fi):=by
  refine eR Tryz.func167 rfl (by kernel_rfl) rfl ?_;intro Γ b;(repeat first|refine tX rfl ?_|refine aU rfl ?_|apply Aa);(refine pW rfl ?_ rfl (by rfl);refine Br rfl rfl rfl rfl (by simp) (by rfl) (by rfl) (by rfl) (by rfl) ?_);(repeat first|refine tX rfl ?_|refine aU rfl ?_|apply Aa);apply aB;refine aL (α:={z:Nat×Nat×List W // z.1<=a.length+1/\z.2.1<=z.1/\z.2.2.length<=z.1/\(z.1=a.length+1->1<=z.2.2.length)/\∀w∈z.2.2,w.length<=a.length}) [0,1] [] rfl rfl (λs=>[(5,.o (.arr 0 1 0 s.1.2.2.length)),(6,eI .i64 s.1.2.1),(7,eI .i64 s.1.1)]) (λs=>[(0,.cells 9 1 (s.1.2.2.map ED))]) 1 (λs=>a.length+1-s.1.1) (⟨⟨0,0,[]⟩,by simp⟩) b rfl (by (simp[cX,zC,b])) ?_;rintro⟨⟨k,fr,r⟩,hk,t,g,d,n⟩;(try dsimp only[cA,cB]);have hk:k<=a.length+1:=hk;have t:fr<=k:=t;have g:r.length<=k:=g;have d:k=a.length+1->1<=r.length:=d;(repeat first|refine tA rfl ?_|refine s2 rfl λ_ j=>?_|refine aU rfl ?_|apply Aa)
  ((refine aC rfl ?_ ?_<;>rintro⟨⟩);all_goals try (simp at j;done))
  · have v:k<=a.length:=by (simp only[oZ] at *;omega)
    apply aK;refine aS (aB ?_)
    have q:k=a.length\/∃e,a[(k:Int).toNat]?=some e:=by
      rcases l5 k a.length with h|h
      · obtain⟨e,u⟩:=get_some (l:=a) (k:=(k:Int).toNat) (by omega)
        exact .inr ⟨e,u⟩
      · exact .inl (by omega)
    rcases q with q|⟨e,u⟩
    all_goals (repeat' first|refine tA rfl ?_|(refine s4 rfl ‹_› rfl ?_ ?_;omega)|refine s2 rfl λ_ j=>?_|(refine Ag rfl ?_;refine gA rfl ?_;first|refine gS (λ_ _=>Rp rfl rfl rfl (by simp[Mn]) (by simp[Mn,Mk];omega) (by simp[Mk];omega)) ?_)|refine s3 rfl ?_ ?_<;>rintro rfl|refine aU rfl ?_|apply Aa|(refine aC rfl ?_ ?_<;>rintro⟨⟩))
    all_goals first
      | (exfalso;(simp only[oZ] at *;omega);done)
      | (apply aK
         (repeat first|(refine sA rfl ?_ ?_;first|exact tI|omega)|refine aU rfl ?_|apply Aa);refine⟨⟨⟨k+1,fr,r⟩,by dsimp only;omega,by dsimp only;omega,by dsimp only;omega,by dsimp only;intro x;exfalso;(simp only[oZ] at *;omega),n⟩,by dsimp only;(omega),[0],?_⟩;(simp[cX,zC,b,cN]<;>rfl)
         done)
      | ((refine pW rfl ?_ rfl (by rfl);refine Al rfl rfl rfl (by first|(simp;done)|(simp;(omega))) rfl (by intro r g;simp at g;subst g;rfl) (by rfl) (ce rfl) (by simp;omega) ?_)
         (repeat first|(refine sA rfl ?_ ?_;first|exact tI|omega)|refine aU rfl ?_|apply Aa)
         have m:∀w∈r++[(a.take k).drop fr],w.length<=a.length:=λw f=>by
           rcases f6.1 f with f|f
           · exact n w f
           · simp at f;subst f;simp;omega
         refine⟨⟨⟨k+1,k+1,r++[(a.take k).drop fr]⟩,by dsimp only;omega,by dsimp only;omega,by simp;omega,by simp,m⟩,by dsimp only;(omega),[1],?_⟩
         (simp[cX,zC,b,cN,Mn,Mk]<;>rfl))
  · have p:k=a.length+1:=by (simp only[oZ] at *;omega)
    apply aE;(repeat first|refine tA rfl ?_|refine aU rfl ?_|apply Aa);refine Aj.settle [(4,Fi r)] ⟨⟨_,rfl,.o (.full rfl (by simp[d7]) (by simp))⟩,trivial⟩ ?_;refine aR ⟨_,rfl,[],Fi r,[],⟨by intro i hi;omega,by decide⟩,rfl,trivial,r,⟨d p,by omega,n⟩,rfl,rfl,rfl⟩
abbrev X7(r:Int×Bool):E:=.t [(false,[.d (iD r.1)]),(false,[.d (bD r.2)])]
theorem YL{z:Int}(h:0<=z/\z<256):[[D.v (.int .u8 z)]]=[UInt8.ofNat z.toNat].map gU:=by
 have b:z.toNat%256=z.toNat:=lZ (by omega)
 have a:((z.toNat:Nat):Int)=z:=by omega
 simp[gU,b,a]
theorem GP(n:Int)(j:0<=n/\n<100):Spec Tryz.prog TB 210 [] 0 [eI .i64 n] (De (λr:W=>r.length<=3) eT):=by
 refine eR Tryz.func210 rfl (by kernel_rfl) rfl ?_;intro Γ b;(repeat first|refine tA rfl ?_|refine s2 rfl λ_ a=>?_|refine aU rfl ?_|apply Aa)
 ((refine aC rfl ?_ ?_<;>rintro⟨⟩);all_goals try (simp at a;done))
 ·exfalso;(simp only[oZ] at *;omega)
 apply aK;(repeat first|refine tA rfl ?_|refine s2 rfl λ_ a=>?_|refine aU rfl ?_|apply Aa)
 ((refine aC rfl ?_ ?_<;>rintro⟨⟩);all_goals try (simp at a;done))
 ·exfalso;(simp only[oZ] at *;omega)
 apply aK;(repeat first|refine tA rfl ?_|refine aU rfl ?_|apply Aa);apply aB;refine aL (α:={s:Int×W // (0<=s.1/\s.1<100)/\s.2.length<=2/\(9<s.1->s.2.length<=1)}) [] [] rfl rfl (λs=>[(0,eI .i64 s.1.1),(3,eT s.1.2)]) (λs=>[]) 0 (λs=>s.1.1.toNat) (⟨⟨n,[]⟩,by simp;omega⟩) b rfl (by (simp[cX,zC,b])) ?_;rintro⟨⟨q,w⟩,f,e,c⟩;(try dsimp only[cA,cB]);have f:0<=q/\q<100:=f;have e:w.length<=2:=e;have c:9<q->w.length<=1:=c;(repeat first|refine tA rfl ?_|refine s2 rfl λ_ a=>?_|refine aU rfl ?_|apply Aa)
 ((refine aC rfl ?_ ?_<;>rintro⟨⟩);all_goals try (simp at a;done))
 ·have d:9<q:=by (simp only[oZ] at *;omega)
  have g:=c d;apply aK;apply aB;(repeat first|(refine sA rfl ?_ ?_;first|exact tI|omega|simp only[oZ] at *;omega)|(refine Ag rfl ?_;refine gA rfl ?_;first|refine gS (λ_ _=>Rr _ rfl (YL (by omega))) ?_)|refine aU rfl ?_|apply Aa);refine⟨⟨⟨q / 10,[UInt8.ofNat (48+q%10).toNat]++w⟩,⟨by dsimp only;omega,by dsimp only;omega⟩,by simp;omega,λh=>by exfalso;dsimp only at h;omega⟩,by dsimp only;(omega),[],?_⟩;(simp[cX,zC,b,cN]<;>rfl)
 ·apply aE
  (repeat first|(refine sA rfl ?_ ?_;first|exact tI|omega|simp only[oZ] at *;omega)|(refine Ag rfl ?_;refine gA rfl ?_;first|refine gS (λ_ _=>Rr _ rfl (YL (by omega))) ?_)|refine aU rfl ?_|apply Aa);refine aR ⟨_,rfl,[],eT ([UInt8.ofNat (48+q).toNat]++w),[],⟨by intro i hi;omega,by decide⟩,rfl,trivial,[UInt8.ofNat (48+q).toNat]++w,by simp;omega,rfl,rfl,rfl⟩
theorem KJ(k:Nat)(hk:k<17):(10 ^ (k+1):Nat)=10 ^ k*10/\(10 ^ k:Nat)<=100000000000000000:=⟨nP ..,lm (mc (by omega) (Nat.le_of_lt hk)) (by decide)⟩
theorem IE(s0:W)(hs:s0.length<=1000000):Spec Tryz.prog TB 175 [] 0 [eT s0] (De (λ_:Int×Bool=>True) X7):=by
  by_cases y:s0.length=0
  · refine eR Tryz.func175 rfl (by kernel_rfl) rfl ?_;intro Γ a
    (repeat' first|refine tA rfl ?_|refine s2 rfl λ_ b=>?_|(refine Ag rfl ?_;refine gA rfl ?_;first|refine gS (λ_ _=>Ex rfl rfl (by omega) (by omega)) ?_)|refine s3 rfl ?_ ?_<;>rintro rfl|refine aU rfl ?_|apply Aa|(refine aC rfl ?_ ?_<;>rintro⟨⟩)|apply aK)
    all_goals first
      | (exfalso;(simp only[oZ] at *;omega);done)
      | refine aR ⟨_,rfl,[],X7 (0,false),[],⟨by intro i hi;omega,by decide⟩,rfl,trivial,(0,false),trivial,rfl,rfl,rfl⟩
  obtain⟨c,z⟩:=get_some (l:=s0) (k:=(0:Int).toNat) (by simp;omega);have w:1<s0.length->∃d,(s0.drop (Int.toNat 1))[(0:Int).toNat]?=some d:=λh=>get_some (by simp;omega);have o:∀m:Nat,(s0.drop m).length=s0.length-m:=λm=>pm;by_cases x:s0.length=1
  · refine eR Tryz.func175 rfl (by kernel_rfl) rfl ?_;intro Γ a
    (repeat' first|refine tA rfl ?_|(refine s4 rfl ‹_› rfl ?_ ?_;omega)|refine s2 rfl λ_ b=>?_|(refine Ag rfl ?_;refine gA rfl ?_;first|refine gS (λ_ _=>Ex rfl rfl (by omega) (by omega)) ?_)|refine s3 rfl ?_ ?_<;>rintro rfl|refine aU rfl ?_|apply Aa|(refine aC rfl ?_ ?_<;>rintro⟨⟩)|apply aK)
    all_goals first
      | (exfalso;(simp only[oZ] at *;omega);done)
      | refine aR ⟨_,rfl,[],X7 (0,false),[],⟨by intro i hi;omega,by decide⟩,rfl,trivial,(0,false),trivial,rfl,rfl,rfl⟩
      | (exfalso;simp only[oZ,o] at *;omega)
      | skip
    · have g:(s0).length<=17:=by omega
      apply aB;refine aL (α:={s:Nat×Int // s.1<=(s0).length/\0<=s.2/\s.2<((10 ^ s.1:Nat):Int)}) [0,4] [] rfl rfl (λs=>[(5,eI .i64 s.1.2),(6,eI .i64 s.1.1)]) (λs=>[]) 0 (λs=>(s0).length-s.1.1) (⟨⟨0,0⟩,by simp⟩) a rfl (by (simp[cX,zC,a])) ?_;rintro⟨⟨k,n⟩,hk,f,j⟩;(try dsimp only[cA,cB]);have hk:k<=(s0).length:=hk;have f:0<=n:=f;have j:n<((10 ^ k:Nat):Int):=j;(repeat first|refine tA rfl ?_|refine s2 rfl λ_ b=>?_|refine aU rfl ?_|apply Aa)
      ((refine aC rfl ?_ ?_<;>rintro⟨⟩);all_goals try (simp at b;done))
      · have q:k<(s0).length:=by (simp only[oZ] at *;omega)
        obtain⟨e,u⟩:=get_some (l:=s0) (k:=(k:Int).toNat) (by omega);have r:=e.toNat_lt;obtain⟨p,t⟩:=KJ k (by omega);apply aK;refine aS (aB ?_);(repeat' first|(refine sA rfl ?_ ?_;first|exact tI|omega|simp only[oZ] at *;omega)|(refine s4 rfl ‹_› rfl ?_ ?_;omega)|refine s2 rfl λ_ b=>?_|(refine Ag rfl ?_;refine gA rfl ?_;first|refine gS (λ_ _=>Ex rfl rfl (by omega) (by omega)) ?_)|refine s3 rfl ?_ ?_<;>rintro rfl|refine aU rfl ?_|apply Aa|(refine aC rfl ?_ ?_<;>rintro⟨⟩)|apply aK)
        all_goals first
          | (exfalso;omega;done)
          | refine aR ⟨_,rfl,[],X7 (0,false),[],⟨by intro i hi;omega,by decide⟩,rfl,trivial,(0,false),trivial,rfl,rfl,rfl⟩
          | (refine⟨⟨⟨k+1,n*10+((e.toNat:Int)-48)⟩,by dsimp only;omega,by dsimp only;(simp only[oZ] at *;omega),by dsimp only;rw[p];(simp only[oZ] at *;omega)⟩,by dsimp only;(omega),[],?_⟩
             (simp[cX,zC,a,cN]<;>rfl))
      · apply aE
        have v:(10 ^ k:Nat)<=100000000000000000:=lm (mc (by omega) (lm hk g)) (by decide);(repeat' first|refine tA rfl ?_|(refine Ag rfl ?_;refine gA rfl ?_;first|refine gS (λ_ _=>SL rfl (IntWalk.i64_in _ (by omega))) ?_)|refine aU rfl ?_|apply Aa|(refine aC rfl ?_ ?_<;>rintro⟨⟩)|apply aK);exact aR ⟨_,rfl,[],X7 (n,true),[],⟨λi hi=>absurd hi (i8 i),kw⟩,rfl,trivial,(n,true),trivial,rfl,rfl,rfl⟩
    · have g:(s0).length<=17:=by omega
      apply aB;refine aL (α:={s:Nat×Int // s.1<=(s0).length/\0<=s.2/\s.2<((10 ^ s.1:Nat):Int)}) [0,4] [] rfl rfl (λs=>[(5,eI .i64 s.1.2),(6,eI .i64 s.1.1)]) (λs=>[]) 0 (λs=>(s0).length-s.1.1) (⟨⟨0,0⟩,by simp⟩) a rfl (by (simp[cX,zC,a])) ?_;rintro⟨⟨k,n⟩,hk,f,j⟩;(try dsimp only[cA,cB]);have hk:k<=(s0).length:=hk;have f:0<=n:=f;have j:n<((10 ^ k:Nat):Int):=j;(repeat first|refine tA rfl ?_|refine s2 rfl λ_ b=>?_|refine aU rfl ?_|apply Aa)
      ((refine aC rfl ?_ ?_<;>rintro⟨⟩);all_goals try (simp at b;done))
      · have q:k<(s0).length:=by (simp only[oZ] at *;omega)
        obtain⟨e,u⟩:=get_some (l:=s0) (k:=(k:Int).toNat) (by omega);have r:=e.toNat_lt;obtain⟨p,t⟩:=KJ k (by omega);apply aK;refine aS (aB ?_);(repeat' first|(refine sA rfl ?_ ?_;first|exact tI|omega|simp only[oZ] at *;omega)|(refine s4 rfl ‹_› rfl ?_ ?_;omega)|refine s2 rfl λ_ b=>?_|(refine Ag rfl ?_;refine gA rfl ?_;first|refine gS (λ_ _=>Ex rfl rfl (by omega) (by omega)) ?_)|refine s3 rfl ?_ ?_<;>rintro rfl|refine aU rfl ?_|apply Aa|(refine aC rfl ?_ ?_<;>rintro⟨⟩)|apply aK)
        all_goals first
          | (exfalso;omega;done)
          | refine aR ⟨_,rfl,[],X7 (0,false),[],⟨by intro i hi;omega,by decide⟩,rfl,trivial,(0,false),trivial,rfl,rfl,rfl⟩
          | (refine⟨⟨⟨k+1,n*10+((e.toNat:Int)-48)⟩,by dsimp only;omega,by dsimp only;(simp only[oZ] at *;omega),by dsimp only;rw[p];(simp only[oZ] at *;omega)⟩,by dsimp only;(omega),[],?_⟩
             (simp[cX,zC,a,cN]<;>rfl))
      · apply aE
        have v:(10 ^ k:Nat)<=100000000000000000:=lm (mc (by omega) (lm hk g)) (by decide);(repeat' first|refine tA rfl ?_|(refine Ag rfl ?_;refine gA rfl ?_;first|refine gS (λ_ _=>SL rfl (IntWalk.i64_in _ (by omega))) ?_)|refine aU rfl ?_|apply Aa|(refine aC rfl ?_ ?_<;>rintro⟨⟩)|apply aK);exact aR ⟨_,rfl,[],X7 (n,true),[],⟨λi hi=>absurd hi (i8 i),kw⟩,rfl,trivial,(n,true),trivial,rfl,rfl,rfl⟩
  obtain⟨d,w⟩:=w (by omega);refine eR Tryz.func175 rfl (by kernel_rfl) rfl ?_;intro Γ a;(repeat' first|refine tA rfl ?_|(refine s4 rfl ‹_› rfl ?_ ?_;omega)|refine s2 rfl λ_ b=>?_|(refine Ag rfl ?_;refine gA rfl ?_;first|refine gS (λ_ _=>Ex rfl rfl (by omega) (by omega)) ?_)|refine s3 rfl ?_ ?_<;>rintro rfl|refine aU rfl ?_|apply Aa|(refine aC rfl ?_ ?_<;>rintro⟨⟩)|apply aK)
  all_goals first
    | (exfalso;(simp only[oZ] at *;omega);done)
    | refine aR ⟨_,rfl,[],X7 (0,false),[],⟨by intro i hi;omega,by decide⟩,rfl,trivial,(0,false),trivial,rfl,rfl,rfl⟩
    | (exfalso;simp only[oZ,o] at *;omega)
    | skip
  · have g:(List.drop (Int.toNat 1) s0).length<=17:=by (simp only[oZ] at *;omega)
    apply aB;refine aL (α:={s:Nat×Int // s.1<=(List.drop (Int.toNat 1) s0).length/\0<=s.2/\s.2<((10 ^ s.1:Nat):Int)}) [0,4] [] rfl rfl (λs=>[(5,eI .i64 s.1.2),(6,eI .i64 s.1.1)]) (λs=>[]) 0 (λs=>(List.drop (Int.toNat 1) s0).length-s.1.1) (⟨⟨0,0⟩,by simp⟩) a rfl (by (simp[cX,zC,a])) ?_;rintro⟨⟨k,n⟩,hk,f,j⟩;(try dsimp only[cA,cB]);have hk:k<=(List.drop (Int.toNat 1) s0).length:=hk;have f:0<=n:=f;have j:n<((10 ^ k:Nat):Int):=j;(repeat first|refine tA rfl ?_|refine s2 rfl λ_ b=>?_|refine aU rfl ?_|apply Aa)
    ((refine aC rfl ?_ ?_<;>rintro⟨⟩);all_goals try (simp at b;done))
    · have q:k<(List.drop (Int.toNat 1) s0).length:=by (simp only[oZ] at *;omega)
      obtain⟨e,u⟩:=get_some (l:=List.drop (Int.toNat 1) s0) (k:=(k:Int).toNat) (by omega);have r:=e.toNat_lt;obtain⟨p,t⟩:=KJ k (by omega);apply aK;refine aS (aB ?_);(repeat' first|(refine sA rfl ?_ ?_;first|exact tI|omega|simp only[oZ] at *;omega)|(refine s4 rfl ‹_› rfl ?_ ?_;omega)|refine s2 rfl λ_ b=>?_|(refine Ag rfl ?_;refine gA rfl ?_;first|refine gS (λ_ _=>Ex rfl rfl (by omega) (by omega)) ?_)|refine s3 rfl ?_ ?_<;>rintro rfl|refine aU rfl ?_|apply Aa|(refine aC rfl ?_ ?_<;>rintro⟨⟩)|apply aK)
      all_goals first
        | (exfalso;omega;done)
        | refine aR ⟨_,rfl,[],X7 (0,false),[],⟨by intro i hi;omega,by decide⟩,rfl,trivial,(0,false),trivial,rfl,rfl,rfl⟩
        | (refine⟨⟨⟨k+1,n*10+((e.toNat:Int)-48)⟩,by dsimp only;omega,by dsimp only;(simp only[oZ] at *;omega),by dsimp only;rw[p];(simp only[oZ] at *;omega)⟩,by dsimp only;(omega),[],?_⟩
           (simp[cX,zC,a,cN]<;>rfl))
    · apply aE
      have v:(10 ^ k:Nat)<=100000000000000000:=lm (mc (by omega) (lm hk g)) (by decide);(repeat' first|refine tA rfl ?_|(refine Ag rfl ?_;refine gA rfl ?_;first|refine gS (λ_ _=>SL rfl (IntWalk.i64_in _ (by omega))) ?_)|refine aU rfl ?_|apply Aa|(refine aC rfl ?_ ?_<;>rintro⟨⟩)|apply aK);exact aR ⟨_,rfl,[],X7 (-n,true),[],⟨λi hi=>absurd hi (i8 i),kw⟩,rfl,trivial,(-n,true),trivial,rfl,rfl,rfl⟩
  · have g:(s0).length<=17:=by (simp only[oZ] at *;omega)
    apply aB;refine aL (α:={s:Nat×Int // s.1<=(s0).length/\0<=s.2/\s.2<((10 ^ s.1:Nat):Int)}) [0,4] [] rfl rfl (λs=>[(5,eI .i64 s.1.2),(6,eI .i64 s.1.1)]) (λs=>[]) 0 (λs=>(s0).length-s.1.1) (⟨⟨0,0⟩,by simp⟩) a rfl (by (simp[cX,zC,a])) ?_;rintro⟨⟨k,n⟩,hk,f,j⟩;(try dsimp only[cA,cB]);have hk:k<=(s0).length:=hk;have f:0<=n:=f;have j:n<((10 ^ k:Nat):Int):=j;(repeat first|refine tA rfl ?_|refine s2 rfl λ_ b=>?_|refine aU rfl ?_|apply Aa)
    ((refine aC rfl ?_ ?_<;>rintro⟨⟩);all_goals try (simp at b;done))
    · have q:k<(s0).length:=by (simp only[oZ] at *;omega)
      obtain⟨e,u⟩:=get_some (l:=s0) (k:=(k:Int).toNat) (by omega);have r:=e.toNat_lt;obtain⟨p,t⟩:=KJ k (by omega);apply aK;refine aS (aB ?_);(repeat' first|(refine sA rfl ?_ ?_;first|exact tI|omega|simp only[oZ] at *;omega)|(refine s4 rfl ‹_› rfl ?_ ?_;omega)|refine s2 rfl λ_ b=>?_|(refine Ag rfl ?_;refine gA rfl ?_;first|refine gS (λ_ _=>Ex rfl rfl (by omega) (by omega)) ?_)|refine s3 rfl ?_ ?_<;>rintro rfl|refine aU rfl ?_|apply Aa|(refine aC rfl ?_ ?_<;>rintro⟨⟩)|apply aK)
      all_goals first
        | (exfalso;omega;done)
        | refine aR ⟨_,rfl,[],X7 (0,false),[],⟨by intro i hi;omega,by decide⟩,rfl,trivial,(0,false),trivial,rfl,rfl,rfl⟩
        | (refine⟨⟨⟨k+1,n*10+((e.toNat:Int)-48)⟩,by dsimp only;omega,by dsimp only;(simp only[oZ] at *;omega),by dsimp only;rw[p];(simp only[oZ] at *;omega)⟩,by dsimp only;(omega),[],?_⟩
           (simp[cX,zC,a,cN]<;>rfl))
    · apply aE
      have v:(10 ^ k:Nat)<=100000000000000000:=lm (mc (by omega) (lm hk g)) (by decide);(repeat' first|refine tA rfl ?_|(refine Ag rfl ?_;refine gA rfl ?_;first|refine gS (λ_ _=>SL rfl (IntWalk.i64_in _ (by omega))) ?_)|refine aU rfl ?_|apply Aa|(refine aC rfl ?_ ?_<;>rintro⟨⟩)|apply aK);exact aR ⟨_,rfl,[],X7 (n,true),[],⟨λi hi=>absurd hi (i8 i),kw⟩,rfl,trivial,(n,true),trivial,rfl,rfl,rfl⟩
abbrev jA(r:List Int×Bool):E:=.t [(false,[.d (HH r.1)]),(false,[.d (bD r.2)])]
theorem Ud(e:W)(hs:e.length<=1000000):Spec Tryz.prog TB 169 [] 0 [eT e] (De (λr:List Int×Bool=>r.1.length<=e.length+1) jA):=by
 refine eR Tryz.func169 rfl (by kernel_rfl) rfl ?_;intro Γ a;(repeat first|refine tX rfl ?_|refine aU rfl ?_|apply Aa);(refine pW rfl ?_ rfl (by rfl);refine Br rfl rfl rfl rfl (by simp) (by rfl) (by rfl) (by rfl) (by rfl) ?_);(repeat first|refine tX rfl ?_|refine s2 rfl λ_ b=>?_|refine aU rfl ?_|apply Aa);(refine aC rfl ?_ ?_<;>rintro⟨⟩)
 ·(repeat first|refine tX rfl ?_|refine aU rfl ?_|apply Aa)
  refine Aj.settle [(2,AX []),(3,eB true)] ⟨⟨_,rfl,.o (.full rfl (by simp) (by simp))⟩,⟨_,rfl,.o .d⟩,trivial⟩ ?_;exact aR ⟨_,rfl,[],jA ([],true),[],⟨λi hi=>absurd hi (i8 i),kw⟩,rfl,trivial,([],true),mt _,rfl,rfl,rfl⟩
 apply aK;(repeat first|refine tA rfl ?_|refine aU rfl ?_);(refine pW rfl ?_ rfl (by rfl);refine Af [] rfl rfl (Lr (TB:=TB) e hs 44) ⟨rfl,by decide,by decide⟩ rfl trivial ?_;rintro q f h ⟨ps,⟨x,v,j⟩,rfl,rfl,rfl⟩ _);(repeat first|refine tA rfl ?_|refine aU rfl ?_|apply Aa);apply aB;refine aL (α:={z:Nat×List Int // z.1<=ps.length/\z.2.length=z.1}) [5] [] rfl rfl (λs=>[(4,.o (.arr 0 1 0 s.1.2.length)),(6,eI .i64 s.1.1)]) (λs=>[(0,.cells 3 1 (s.1.2.map A8))]) 1 (λs=>ps.length-s.1.1) (⟨⟨0,[]⟩,by simp⟩) a rfl (by (simp[cX,zC,a])) ?_;rintro⟨⟨k,r⟩,hk,c⟩;(try dsimp only[cA,cB]);have hk:k<=ps.length:=hk;have c:r.length=k:=c;(repeat first|refine sN rfl ?_|refine tA rfl ?_|refine s2 rfl λ_ b=>?_|refine aU rfl ?_|apply Aa)
 ((refine aC rfl ?_ ?_<;>rintro⟨⟩);all_goals try (simp at b;done))
 ·have m:k<ps.length:=by (simp only[oZ] at *;omega)
  obtain⟨w,p⟩:=get_some (l:=ps) (k:=k) m;have u:=get_map (g:=FX) p;have t:=j w (co p);apply aK;refine aS (aB ?_);(repeat first|refine tA rfl ?_|(refine s4 rfl ‹_› rfl ?_ ?_;omega)|refine aU rfl ?_);(refine pW rfl ?_ rfl (by rfl);refine Af [] rfl rfl (IE (TB:=TB) w (by omega)) ⟨rfl,by decide,by decide⟩ rfl trivial ?_;rintro q f h ⟨⟨n,ok⟩,_,rfl,rfl,rfl⟩ _);(repeat first|refine tA rfl ?_|refine s2 rfl λ_ b=>?_|refine aU rfl ?_|apply Aa);(refine aC rfl ?_ ?_<;>rintro⟨⟩)
  ·(repeat first|refine tA rfl ?_|refine aU rfl ?_|apply Aa)
   exact aR ⟨_,rfl,[],jA ([],false),[],⟨λi hi=>absurd hi (i8 i),kw⟩,rfl,trivial,([],false),mt _,rfl,rfl,rfl⟩
  apply aK;(repeat first|refine tA rfl ?_|refine aU rfl ?_);(refine pW rfl ?_ rfl (by rfl);refine Al rfl rfl rfl (by first|(simp;done)|(simp;(omega))) rfl (by intro r c;simp at c;subst c;rfl) (by rfl) (ce rfl) (by simp;omega) ?_);(repeat first|(refine sA rfl ?_ ?_;first|exact tI|omega)|refine aU rfl ?_|apply Aa);refine⟨⟨⟨k+1,r++[n]⟩,by dsimp only;omega,by simp;omega⟩,by dsimp only;(omega),[1],?_⟩;(simp[cX,zC,a,cN]<;>rfl)
 ·apply aE
  (repeat first|refine tA rfl ?_|refine aU rfl ?_|apply Aa);refine Aj.settle [(2,AX r),(3,eB true)] ⟨⟨_,rfl,.o (.full rfl (by simp[d7]) (by simp))⟩,⟨_,rfl,.o .d⟩,trivial⟩ ?_;exact aR ⟨_,rfl,[],jA (r,true),[],⟨λi hi=>absurd hi (i8 i),kw⟩,rfl,trivial,(r,true),by show r.length<=_;omega,rfl,rfl,rfl⟩
theorem FB(a:A5):Spec Tryz.prog TB 170 [] 0 [Bp a] (De (λr:W=>r.length<=1000) eT):=by
 refine eR Tryz.func170 rfl (by kernel_rfl) rfl ?_;intro Γ c;(repeat first|refine tA rfl ?_|refine s2 rfl λ_ e=>?_|(refine sC rfl (HP a) ?_;intro _ e)|refine aU rfl ?_|apply Aa);(refine aC rfl ?_ ?_<;>rintro⟨⟩)
 ·(repeat first|refine tA rfl ?_|refine aU rfl ?_|apply Aa)
  exact aR ⟨_,rfl,[],eT [],[],⟨λi hi=>absurd hi (i8 i),kw⟩,rfl,trivial,[],mt _,rfl,rfl,rfl⟩
 have u:AJ a=true:=by (simp at e;subst e;assumption)
 obtain⟨_,P,N,S⟩:=AS u;have Q:(Ac a.al).length<=6:=AQ a.al 6;apply aK;(repeat first|refine tA rfl ?_|refine aU rfl ?_);(refine pW rfl ?_ rfl (by rfl);refine Af [] rfl rfl (Ek (TB:=TB) a.al) ⟨rfl,by decide,by decide⟩ rfl trivial ?_;rintro A h m ⟨K,L,rfl,rfl,rfl⟩ _);(repeat first|refine tA rfl ?_|refine aU rfl ?_|apply Aa);apply aB;refine aL (α:={z:Nat×W // z.1<=a.nx.length/\z.2.length<=6+30*z.1}) [1] [] rfl rfl (λs=>[(3,eT s.1.2),(4,eI .i64 s.1.1)]) (λs=>[]) 0 (λs=>a.nx.length-s.1.1) (⟨⟨0,K⟩,by simp;omega⟩) c rfl (by (simp[cX,zC,c])) ?_;rintro⟨⟨k,w⟩,hk,J⟩;(try dsimp only[cA,cB]);have hk:k<=a.nx.length:=hk;have J:w.length<=6+30*k:=J;(repeat first|refine sN rfl ?_|refine tA rfl ?_|refine s2 rfl λ_ e=>?_|refine aU rfl ?_|apply Aa)
 ((refine aC rfl ?_ ?_<;>rintro⟨⟩);all_goals try (simp at e;done))
 ·have H:k<a.nx.length:=by (simp only[oZ] at *;omega)
  obtain⟨row,t,M,q⟩:=Iy u H;have G:=get_map (g:=λr:List Int=>[HH r]) t;obtain⟨b,hb⟩:=get_some (l:=a.ac) (k:=k) (by omega);have R:=get_map (g:=MF) hb;apply aK;refine aS (aB ?_);(repeat first|refine tA rfl ?_|(refine s4 rfl ‹_› rfl ?_ ?_;omega)|refine aU rfl ?_|apply Aa);(refine aC rfl ?_ ?_<;>rintro⟨⟩)
  ·(repeat first|(refine sA rfl ?_ ?_;first|exact tI|simp only[oZ] at *;omega)|refine aU rfl ?_|apply Aa)
   apply aB;refine aL (α:={z:Nat×W // z.1<=row.length/\z.2.length<=8+30*k+4*z.1}) [1,4] [] rfl rfl (λs=>[(3,eT s.1.2),(6,eI .i64 s.1.1)]) (λs=>[]) 0 (λs=>row.length-s.1.1) (⟨⟨0,w++[32,43]⟩,by dsimp only;omega,by simp;omega⟩) c rfl (by (simp[cX,zC,c])) ?_;rintro⟨⟨j,v⟩,y,p⟩;(try dsimp only[cA,cB]);have y:j<=row.length:=y;have p:v.length<=8+30*k+4*j:=p;(repeat first|refine sN rfl ?_|refine tA rfl ?_|(refine s4 rfl ‹_› rfl ?_ ?_;omega)|refine s2 rfl λ_ e=>?_|refine aU rfl ?_|apply Aa)
   ((refine aC rfl ?_ ?_<;>rintro⟨⟩);all_goals try (simp at e;done))
   ·have n:j<row.length:=by (simp only[oZ] at *;omega)
    obtain⟨x,o⟩:=get_some (l:=row) (k:=j) n;have F:=get_map (g:=DJ) o;have B:=q j x o;have f:=GP (TB:=TB) x (by omega);apply aK;refine aS (aB ?_);(repeat first|refine tA rfl ?_|refine s2 rfl λ_ e=>?_|refine aU rfl ?_|apply Aa);(refine aC rfl ?_ ?_<;>rintro⟨⟩)
    ·(repeat first|(refine sA rfl ?_ ?_;first|exact tI|simp only[oZ] at *;omega)|(refine s4 rfl ‹_› rfl ?_ ?_;omega)|refine aU rfl ?_|apply Aa)
     (refine pW rfl ?_ rfl (by rfl);refine Af [] rfl rfl (f) ⟨rfl,by decide,by decide⟩ rfl trivial ?_;rintro A h m ⟨d,I,rfl,rfl,rfl⟩ _);(repeat first|(refine sA rfl ?_ ?_;first|exact tI|omega|simp only[oZ] at *;omega)|refine aU rfl ?_|apply Aa);refine⟨⟨⟨j+1,v++[44]++d⟩,by dsimp only;omega,by simp;omega⟩,by dsimp only;(omega),[],?_⟩;(simp[cX,zC,c,cN]<;>rfl)
    ·apply aK
     (repeat first|refine tA rfl ?_|(refine s4 rfl ‹_› rfl ?_ ?_;omega)|refine aU rfl ?_);(refine pW rfl ?_ rfl (by rfl);refine Af [] rfl rfl (f) ⟨rfl,by decide,by decide⟩ rfl trivial ?_;rintro A h m ⟨d,I,rfl,rfl,rfl⟩ _);(repeat first|(refine sA rfl ?_ ?_;first|exact tI|omega)|refine aU rfl ?_|apply Aa);refine⟨⟨⟨j+1,v++d⟩,by dsimp only;omega,by simp;omega⟩,by dsimp only;(omega),[],?_⟩;(simp[cX,zC,c,cN]<;>rfl)
   ·apply aE
    (repeat first|(refine sA rfl ?_ ?_;first|exact tI|omega)|refine aU rfl ?_|apply Aa);refine⟨⟨⟨k+1,v⟩,by dsimp only;omega,by dsimp only;omega⟩,by dsimp only;(omega),[],?_⟩;(simp[cX,zC,c,cN]<;>rfl)
  ·apply aK
   (repeat first|(refine sA rfl ?_ ?_;first|exact tI|simp only[oZ] at *;omega)|refine aU rfl ?_|apply Aa);apply aB;refine aL (α:={z:Nat×W // z.1<=row.length/\z.2.length<=8+30*k+4*z.1}) [1,4] [] rfl rfl (λs=>[(3,eT s.1.2),(6,eI .i64 s.1.1)]) (λs=>[]) 0 (λs=>row.length-s.1.1) (⟨⟨0,w++[32,45]⟩,by dsimp only;omega,by simp;omega⟩) c rfl (by (simp[cX,zC,c])) ?_;rintro⟨⟨j,v⟩,y,p⟩;(try dsimp only[cA,cB]);have y:j<=row.length:=y;have p:v.length<=8+30*k+4*j:=p;(repeat first|refine sN rfl ?_|refine tA rfl ?_|(refine s4 rfl ‹_› rfl ?_ ?_;omega)|refine s2 rfl λ_ e=>?_|refine aU rfl ?_|apply Aa)
   ((refine aC rfl ?_ ?_<;>rintro⟨⟩);all_goals try (simp at e;done))
   ·have n:j<row.length:=by (simp only[oZ] at *;omega)
    obtain⟨x,o⟩:=get_some (l:=row) (k:=j) n;have F:=get_map (g:=DJ) o;have B:=q j x o;have f:=GP (TB:=TB) x (by omega);apply aK;refine aS (aB ?_);(repeat first|refine tA rfl ?_|refine s2 rfl λ_ e=>?_|refine aU rfl ?_|apply Aa);(refine aC rfl ?_ ?_<;>rintro⟨⟩)
    ·(repeat first|(refine sA rfl ?_ ?_;first|exact tI|simp only[oZ] at *;omega)|(refine s4 rfl ‹_› rfl ?_ ?_;omega)|refine aU rfl ?_|apply Aa)
     (refine pW rfl ?_ rfl (by rfl);refine Af [] rfl rfl (f) ⟨rfl,by decide,by decide⟩ rfl trivial ?_;rintro A h m ⟨d,I,rfl,rfl,rfl⟩ _);(repeat first|(refine sA rfl ?_ ?_;first|exact tI|omega|simp only[oZ] at *;omega)|refine aU rfl ?_|apply Aa);refine⟨⟨⟨j+1,v++[44]++d⟩,by dsimp only;omega,by simp;omega⟩,by dsimp only;(omega),[],?_⟩;(simp[cX,zC,c,cN]<;>rfl)
    ·apply aK
     (repeat first|refine tA rfl ?_|(refine s4 rfl ‹_› rfl ?_ ?_;omega)|refine aU rfl ?_);(refine pW rfl ?_ rfl (by rfl);refine Af [] rfl rfl (f) ⟨rfl,by decide,by decide⟩ rfl trivial ?_;rintro A h m ⟨d,I,rfl,rfl,rfl⟩ _);(repeat first|(refine sA rfl ?_ ?_;first|exact tI|omega)|refine aU rfl ?_|apply Aa);refine⟨⟨⟨j+1,v++d⟩,by dsimp only;omega,by simp;omega⟩,by dsimp only;(omega),[],?_⟩;(simp[cX,zC,c,cN]<;>rfl)
   ·apply aE
    (repeat first|(refine sA rfl ?_ ?_;first|exact tI|omega)|refine aU rfl ?_|apply Aa);refine⟨⟨⟨k+1,v⟩,by dsimp only;omega,by dsimp only;omega⟩,by dsimp only;(omega),[],?_⟩;(simp[cX,zC,c,cN]<;>rfl)
 ·apply aE
  (repeat first|refine tA rfl ?_|refine aU rfl ?_|apply Aa);exact aR ⟨_,rfl,[],eT w,[],⟨λi hi=>absurd hi (i8 i),kw⟩,rfl,trivial,w,by show w.length<=_;omega,rfl,rfl,rfl⟩
end Go.Am
namespace Go.Am
def kD(a:A5)(q r:Int):Prop:=∀w,AO (Bg a.al) w->TH a (Pj a q w)=TH a (Pj a r w)
structure lB (a:A5) (ks:List (List Int)):Prop where
 len:ks.length=a.nx.length
 ac:∀q r:Nat,q<a.nx.length->r<a.nx.length->ks[q]?=ks[r]?->TH a q=TH a r
 go:∀q r:Nat,q<a.nx.length->r<a.nx.length->ks[q]?=ks[r]?->∀l∈Ac a.al,ks[(CN a q l).toNat]?=ks[(CN a r l).toNat]?
 res:∀q r:Nat,q<a.nx.length->r<a.nx.length->kD a q r->ks[q]?=ks[r]?
structure gy (a:A5):Prop where
 b:dW a
 n1:1<=a.nx.length
 ac:a.ac.length=a.nx.length
section
variable {a:A5}(h:gy a)
include h
end
structure kz (a m:A5):Prop where
 al:m.al=a.al
 g:gy m
 n2:m.nx.length<=a.nx.length
 lang:∀w,AO (Bg a.al) w->LA m w=LA a w
 rc:∀i:Nat,i<m.nx.length->∃w,AO (Bg a.al) w/\Pj m 0 w=i
 ds:∀i j:Nat,i<m.nx.length->j<m.nx.length->kD m i j->i=j
end Go.Am
