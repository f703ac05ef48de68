/-
  The closure under letters that are not seen: walked.
-/
import Derived.Test.YtgpbfllcjdfelaaGreatDoorPart28
set_option linter.all false
namespace Go.Am
open Go Go.Proofs
set_option maxHeartbeats 1000000
set_option maxRecDepth 4000
attribute [local irreducible] AO BS Lex A4 Au Spec
variable {TB:Bi}
def HA(t:BE)(F:PS)(ls:List Int):PS:=λp=>ls.foldl (λa l=>a ||| VW t l F p) (F p)
def JG(A B:PS)(k:Nat):PS:=λp=>if p < k then A p ||| B p else A p
theorem X6{A B:PS}{k:Nat}:JG A B (k+1)=λp=>if p=k then JG A B k k ||| B k else JG A B k p:=by
 funext p;unfold JG;by_cases e:p=k
 ·subst e;simp
 ·by_cases h:p < k
  ·rw [if_pos (by omega),if_neg e,if_pos h]
  ·rw [if_neg (by omega),if_neg e,if_neg h]
theorem Zi{t:BE}{F:PS}{ls:List Int}{l:Int}:HA t F (ls++[l])=λp=>HA t F ls p ||| VW t l F p:=by
 funext p;unfold HA;rw [pi];rfl
theorem Wq{U:Type}{g:U->Nat}{j:Nat}:∀ {l:List U} {a:Nat},(l.foldl (λa x=>a ||| g x) a).testBit j=true↔a.testBit j=true\/∃x∈l,(g x).testBit j=true
 | [],a=>by simp
 | x::l,a=>by
  rw [pF,Wq,oP,nr];simp [or_assoc]
theorem GB{t:BE}{F:PS}{ls:List Int}{p j:Nat}:(HA t F ls p).testBit j=true↔(F p).testBit j=true\/∃l∈ls,(VW t l F p).testBit j=true:=Wq
theorem VA{t:BE}(ht:AZ t=true){F:PS}(h:CE t F){ls:List Int}(c:∀l∈ls,0<=l/\l < 6):CE t (HA t F ls):=by
 refine⟨λp=>Ij λj d=>?_,λp hp=>Ik λj=>?_⟩
 ·rcases GB.1 d with a|⟨l,a,b⟩
  ·exact JD (h.lt p) a
  ·exact JD ((KH ht (c l a) h).lt p) b
 ·cases hb:(HA t F ls p).testBit j
  ·rfl
  ·rcases GB.1 hb with a|⟨l,a,b⟩
   ·rw [h.z p hp] at a;simp at a
   ·rw [(KH ht (c l a) h).z p hp] at b;simp at b
theorem sub_le{a b:Nat}(h:∀j,a.testBit j=true->b.testBit j=true):a<=b:=by
 have:a ||| b=b:=oL λj=>by
  rw [oP];cases ha:a.testBit j
  ·simp
  ·simp [h j ha]
 rw [<-this];exact Nat.left_le_or
def LJ(F:PS):Nat:=(65535 - F 0)+(65535 - F 1)+(65535 - F 2)+(65535 - F 3)+(65535 - F 4)+(65535 - F 5)+(65535 - F 6)+(65535 - F 7)+(65535 - F 8)+(65535 - F 9)+(65535 - F 10)+(65535 - F 11)
theorem VT{F G:PS}(i:∀p,F p < 65536)(a:∀p,G p < 65536)(h:∀p,F p<=G p)(b:Gf G≠Gf F):LJ G < LJ F:=by
 have j:¬LJ F<=LJ G:=λc=>b (PE λp hp=>by
  have J:=h 0;have I:=h 1;have H:=h 2;have B:=h 3;have A:=h 4;have z:=h 5;have y:=h 6;have x:=h 7;have w:=h 8;have v:=h 9;have g:=h 10;have f:=h 11;have u:=a 0;have t:=a 1;have s:=a 2;have r:=a 3;have q:=a 4;have o:=a 5;have n:=a 6;have m:=a 7;have l:=a 8;have k:=a 9;have e:=a 10;have d:=a 11;unfold LJ at c
  obtain rfl|rfl|rfl|rfl|rfl|rfl|rfl|rfl|rfl|rfl|rfl|rfl:p=0\/p=1\/p=2\/p=3\/p=4\/p=5\/p=6\/p=7\/p=8\/p=9\/p=10\/p=11:=by omega
  all_goals omega)
 omega
theorem fD{F:PS}(h:∀p,F p < 65536):∀x∈Gf F,(Lit.int .u16 x).wf=true:=λx a=>by
 have:∃p,x=(F p:Int):=by
  unfold Gf at a;simp only [lc,qc,or_false] at a
  rcases a with h|h|h|h|h|h|h|h|h|h|h|h<;>exact⟨_,h⟩
 obtain⟨p,rfl⟩:=this;have:=h p;simp [Lit.wf,IntKind.min,IntKind.max,IntKind.signed,IntKind.bits];omega
section
variable {t:BE}(ht:AZ t=true)
include ht
theorem Zj{F0 F:PS}(c:∀p j,(F p).testBit j=true->RG t F0 p j){p j:Nat}(h:(HA t F (CM t) p).testBit j=true):RG t F0 p j:=by
 rcases GB.1 h with a|⟨l,b,a⟩
 ·exact c p j a
 ·obtain⟨q,m,d,hb⟩:=LZ.1 a
  unfold Dd at hb;rw [if_pos (Hd ht b).2.2] at hb;obtain⟨e,f,⟨k,i⟩,g⟩:=Eu.1 hb;subst k;have:=RG.step (c q _ i) f b rfl;rw [d,g] at this
  simpa using this
theorem Xp{F0 F:PS}(i:CE t F0)(f:CE t F)(h:∀p j,(F0 p).testBit j=true->(F p).testBit j=true)(g:∀p j,(F p).testBit j=true->RG t F0 p j)(e:HA t F (CM t)=F):F=TL t F0:=
 Zz ht i f.z h g λp l j hp b c=>by
  have a:=Hd ht b;have d:=DG (CZ ht) hp a.1 a.2.1;rw [<-e];refine GB.2 (.inr ⟨l,b,LZ.2 ⟨p,hp,by omega,?_⟩⟩);unfold Dd;rw [if_pos a.2.2];exact c
end
theorem RY[Fa TB]{t:BE}(ht:AZ t=true)(m:Cr){F0:PS}(J:CE t F0):Spec Tryz.prog TB 179 (Kk t m) 5 [.o (.ptr 0 14 0 0),ij F0] (λx σ nx=>x=ij (TL t F0)/\σ=Kk t m/\nx=5):=by
 have hah:=Al (CZ ht)
 have X:(CM t).length<=6:=by
  unfold CM;have K:(Ac t.s.al).length<=6:=AD _ _;exact kw (pp _ _) K
 refine eR Tryz.func179 rfl (by kernel_rfl) rfl ?_;intro Γ c;(repeat first|refine aU rfl ?_);(refine pW rfl ?_ rfl (by rfl);refine Db rfl rfl ?_);(repeat first|refine tM rfl ?_ |refine Aa ?_);refine aB ?_;refine aL (U:={F:PS // CE t F/\(∀p j,(F0 p).testBit j=true->(F p).testBit j=true)/\∀p j,(F p).testBit j=true->RG t F0 p j}) [0,3,4] [0,1,2,3,4,6] rfl rfl (λs=>[]) (λs=>[(5,.cells 189 12 [Ls s.1])]) 7 (λs=>LJ s.1) (⟨F0,J,λ_ _ h=>h,λ_ _ h=>.base h⟩) c rfl (by (simp[cX,zC,c,AB]<;>rfl)) ?_;rintro⟨F,f,K,S⟩;(try dsimp only[cA,cB]);have f:CE t F:=f;refine aB ?_;(repeat first|refine sN rfl ?_ |refine tA rfl ?_ |refine aU rfl ?_ |refine Aa ?_);refine aB ?_;refine aL (U:={k:Nat // k<=(CM t).length}) [0,3,4,5,14,15] [0,1,2,3,4,5,6] rfl rfl (λs=>[(16,eI .i64 s.1)]) (λs=>[(7,.cells 189 12 [Ls (HA t F ((CM t).take s.1))])]) 8 (λs=>(CM t).length - s.1) (⟨0,by omega⟩) c rfl (by (simp[cX,zC,c,AB]<;>rfl)) ?_;rintro⟨k,hk⟩;(try dsimp only[cA,cB]);by_cases Q:k < (CM t).length
 ·obtain⟨l,u⟩:=get_some Q
  have g:=Hd ht (ce u)
  have Y:((CM t).map Br)[((k:Nat):Int).toNat]? = some (Br l):=by rw [f6];simp [u]
  have I:∀x∈(CM t).take k,0<=x/\x < 6:=λx B=>by
   have:=Hd ht (nE B);omega
  have y:=VA ht f I;have hG:=KH ht (l:=l) ⟨g.1,g.2.1⟩ f
  have M:HA t F ((CM t).take (k+1))=λp=>HA t F ((CM t).take k) p ||| VW t l F p:=by rw [gc,u];exact Zi
  have P:=VV (TB:=TB) ht m (l:=l) ⟨g.1,g.2.1⟩ f;generalize HA t F ((CM t).take k)=A at *;generalize VW t l F=G at *;(repeat first|refine s2 rfl λ_ e=>?_ |refine aU rfl ?_ |refine Aa ?_)
  ((refine aC rfl ?_ ?_<;>rintro⟨⟩);all_goals try(exfalso;(simp only[oZ] at *;omega)))
  refine aK ?_;refine aS (aB ?_);(repeat first|refine tA rfl ?_ |(refine s4 rfl ‹_› rfl ?_ ?_;omega) |refine aU rfl ?_ |refine Aa ?_);(refine pW rfl ?_ rfl (by rfl);refine Ag [0,1,2,3,4] rfl rfl (P) ⟨rfl,by decide,by decide⟩ rfl (by simp[cX,zC,c,AB]) ?_;rintro x0 T V ⟨rfl,rfl,rfl⟩ _);(repeat first|refine tA rfl ?_);refine Aa ?_;refine aB ?_;refine aL (U:={p:Nat // p<=12}) [0,3,4,5,14,15,16,23] [0,1,2,3,4,5,6] rfl rfl (λs=>[(24,eI .i64 s.1)]) (λs=>[(7,.cells 189 12 [Ls (JG A G s.1)])]) 8 (λs=>12 - s.1) (⟨0,by omega⟩) c rfl (by (simp[cX,zC,c,AB]<;>rfl)) ?_;rintro⟨p,hp⟩;(try dsimp only[cA,cB]);by_cases n:p < 12
  ·have B:(Gf G)[((p:Nat):Int).toNat]? = some (G p:Int):=by rw [f6];exact Iz n
   have ej:0+((p:Nat):Int).toNat*1=p:=by omega
   have q:JG A G p p < 65536:=by
    unfold JG;rw [if_neg (by omega)];exact y.lt p
   have w:(Ls (JG A G p))[0+((p:Nat):Int).toNat*1]? = some (.d (.v (.int .u16 (JG A G p p:Int)))):=by rw [ej];exact Mf n
   have L:=VN q (hG.lt p);have i:=Ww (F:=JG A G p) (p:=p) n (v:=JG A G p p ||| G p);rw [<-X6] at i;(repeat first|refine s2 rfl λ_ e=>?_ |refine aU rfl ?_ |refine Aa ?_)
   ((refine aC rfl ?_ ?_<;>rintro⟨⟩);all_goals try(exfalso;(simp only[oZ] at *;omega)))
   refine aK ?_;refine aS (aB ?_);(repeat first|(refine sA rfl ?_ ?_;first|exact tI|omega)|(refine Af rfl ?_;refine gA rfl ?_;first| refine gS (λ_ _=>JQ (l:=Gf G) rfl rfl rfl (by omega) B) ?_|refine gQ (NC rfl rfl rfl w) rfl ?_) |refine aU rfl ?_ |refine Aa ?_);(refine Af rfl ?_;refine EO ?_ rfl (by rfl);refine Eb (r:=Ls (JG A G p)) rfl rfl rfl rfl rfl rfl (by show 0+((p:Nat):Int).toNat*1+1<=12;omega) ?_);refine Aa ?_;(repeat first|(refine sA rfl ?_ ?_;first|exact tI|omega) |refine aU rfl ?_ |refine Aa ?_);refine⟨⟨p+1,by omega⟩,by dsimp only;(omega),[0,1,2,3,4,5,6,7],?_⟩;simp[cX,zC,c,AB,L];exact⟨Ss,by simpa [Ae] using i⟩
  ·obtain rfl:p=12:=by omega
   have q:Gf (JG A G 12)=Gf λp=>A p ||| G p:=PE λp hp=>by unfold JG;rw [if_pos hp]
   (repeat first|refine s2 rfl λ_ e=>?_ |refine aU rfl ?_ |refine Aa ?_)
   ((refine aC rfl ?_ ?_<;>rintro⟨⟩);all_goals try(exfalso;(simp only[oZ] at *;omega)))
   refine aE ?_;(repeat first|(refine sA rfl ?_ ?_;first|exact tI|omega) |refine aU rfl ?_ |refine Aa ?_);refine⟨⟨k+1,by omega⟩,by dsimp only;(omega),[0,1,2,3,4,5,6,7],?_⟩;simp[cX,zC,c,AB,M];exact⟨Ss,congrArg (List.map _) q⟩
 ·obtain rfl:k=(CM t).length:=by omega
  rw [i9]
  have y:=VA ht f λx B=>by
   have:=Hd ht B
   show 0<=x/\x < 6
   omega
  (repeat first|refine s2 rfl λ_ e=>?_ |refine aU rfl ?_ |refine Aa ?_)
  ((refine aC rfl ?_ ?_<;>rintro⟨⟩);all_goals try(exfalso;(simp only[oZ] at *;omega)))
  refine aE ?_;(repeat first|refine tA rfl ?_|(refine Af rfl ?_;refine gA rfl ?_;first| (refine gB (λ_ _=>jZ (a:=Gf (HA t F (CM t))) (b:=Gf F) rfl rfl rfl rfl (fD y.lt) (fD f.lt)) ?_;intro _ e)) |refine aU rfl ?_ |refine Aa ?_);(refine aC rfl ?_ ?_<;>rintro⟨⟩)
  ·have Z:HA t F (CM t)=F:=by
    have h3:Gf (HA t F (CM t))=Gf F:=by simpa using e
    have h4:=QX h3;funext p
    rcases nh p 12 with R|R
    ·exact h4 p R
    ·rw [y.z p (by omega),f.z p (by omega)]
   rw [<-Xp ht J f K S Z];(repeat first|refine tA rfl ?_ |refine aU rfl ?_ |refine Aa ?_);refine aR ⟨_,rfl,[0,1,2,3,4],ij F,Kk t m,⟨Ss,by decide⟩,rfl,by (simp[cX,zC,c,AB]),rfl,rfl,rfl⟩
  ·have N:Gf (HA t F (CM t))≠Gf F:=by simpa using e
   have H:∀p,F p<=HA t F (CM t) p:=λp=>sub_le λj w=>GB.2 (.inl w);have hm:=VT f.lt y.lt H N;refine aK ?_;(repeat first|refine tA rfl ?_ |refine aU rfl ?_ |refine Aa ?_);refine⟨⟨HA t F (CM t),y,λp j w=>GB.2 (.inl (K p j w)),λp j w=>Zj ht S w⟩,by dsimp only;(omega),[0,1,2,3,4,5,6],?_⟩;simp[cX,zC,c,AB];exact⟨Ss,rfl,rfl⟩
end Go.Am
namespace Go.Am
set_option linter.unusedVariables false
def Fe(a:AK)(cs:List Int)(q:Nat):List Int:=cs.getD q 0::(a.nx.getD q []).map λx=>cs.getD x.toNat 0
def A8(a:AK)(cs:List Int):List (List Int):=(List.range a.nx.length).map (Fe a cs)
def MI(a:AK):Nat->List Int->Nat->List (List Int)
 | 0,cs,_=>A8 a cs
 | k+1,cs,n=>if (uq (A8 a cs)).length=n then A8 a cs else MI a k (Cn (A8 a cs)) (uq (A8 a cs)).length
def Dx(a:AK):List Int:=a.ac.map λb=>if b then 1 else 0
def BN(a:AK):List (List Int):=MI a (a.nx.length+1) (Dx a) 0
def Dm(a:AK):List Int:=Cn (BN a)
def TT(a:AK)(q r:Int):Prop:=∀w,Av (AU a.al) w->ED a (AN a q w)=ED a (AN a r w)
theorem Cq(a:AK)(cs:List Int):(A8 a cs).length=a.nx.length:=by simp [A8]
theorem Bc{a:AK}{cs:List Int}{q:Nat}(h:q < a.nx.length):(A8 a cs)[q]? = some (Fe a cs q):=by simp [A8,h]
theorem FN{a:AK}(h:Hz a){q:Nat}(e:q < a.nx.length):a.nx[q]? = some ((Ac a.al).map (AW a q)):=by
 obtain⟨row,d,g,_⟩:=h.2 q e;rw [d];congr 1;apply nH;intro i;rw [d9]
 cases b:(Ac a.al)[i]? with
 | none=>
  have:=pJ.1 b;rw [i8 (by omega)];rfl
 | some l=>
  have hb:=Ai (ce b);have f:=(am.1 b).1;obtain⟨y,c⟩:=get_some (l:=row) (k:=i) (by omega);rw [c,nv];congr 1;unfold AW;rw [if_pos hb.2.2,EA b,lw,lw,d,nW,c];rfl
theorem LY{a:AK}(h:Hz a){cs:List Int}{q:Nat}(b:q < a.nx.length):Fe a cs q=cs.getD q 0::(Ac a.al).map λl=>cs.getD (AW a q l).toNat 0:=by
 unfold Fe;rw [Bd (FN h b),nV];rfl
theorem TT.step{a:AK}{q r:Int}(h:TT a q r){l:Int}(d:l∈Ac a.al):TT a (AW a q.toNat l) (AW a r.toNat l):=λw hw=>by
 have hb:=Ai d
 have f:=h (lb l::w) (λc b=>by
  rcases lc.1 b with rfl|b
  ·exact em.2 ⟨l,d,rfl⟩
  ·exact hw c b)
 have e:∀p:Int,AN a p (lb l::w)=AN a (AW a p.toNat l) w:=λp=>by
  show AN a (AW a p.toNat (((lb l).toNat:Int) - 97)) w=_
  rw [Es hb.1 (by omega)]
 rw [e,e] at f;exact f
structure fV (a:AK) (ks:List (List Int)):Prop where
 len:ks.length=a.nx.length
 ac:∀q r:Nat,q < a.nx.length->r < a.nx.length->ks[q]? = ks[r]?->ED a q=ED a r
 go:∀q r:Nat,q < a.nx.length->r < a.nx.length->ks[q]? = ks[r]?->∀l∈Ac a.al,ks[(AW a q l).toNat]? = ks[(AW a r l).toNat]?
 res:∀q r:Nat,q < a.nx.length->r < a.nx.length->TT a q r->ks[q]? = ks[r]?
theorem ZU{a:AK}{cs:List Int}(h:cs.length=a.nx.length):(A8 a cs).map (λk=>k.headD 0)=cs:=by
 apply nH;intro i;rw [d9];by_cases hi:i < a.nx.length
 ·rw [Bc hi,nv]
  show some (cs.getD i 0)=_
  obtain⟨y,b⟩:=get_some (l:=cs) (k:=i) (by omega);rw [lw,b];rfl
 ·rw [i8 (by rw [Cq];omega),i8 (by omega)];rfl
theorem HW{U:Type}[DecidableEq U]{l:List U}{q:Nat}{x:U}(h:l[q]? = some x):(Cn l).getD q 0=CN l x:=by
 unfold Cn;rw [lw,d9,h];rfl
theorem VK{a:AK}(h:Hz a)(z:1<=a.nx.length):∀(k:Nat) {cs:List Int} {n:Nat},cs.length=a.nx.length->
 (∀q r:Nat,q < a.nx.length->r < a.nx.length->TT a q r->cs.getD q 0=cs.getD r 0)->
 (∀q r:Nat,q < a.nx.length->r < a.nx.length->cs.getD q 0=cs.getD r 0->ED a q=ED a r)->
 (n=0\/n=(uq cs).length)->a.nx.length+1<=k+n->fV a (MI a k cs n)
 | 0,cs,n,t,_,_,w,hk=>by
  have:=E9 cs;omega
 | k + 1,cs,n,t,v,p,w,hk=>by
  have o:=ZU (a:=a) t
  have d:∀q:Nat,q < a.nx.length->∀l∈Ac a.al,(AW a q l).toNat < a.nx.length:=λq b l g=>by
   have hb:=Ai g;have:=BI h b hb.1 (by omega);omega
  have i:∀q r:Nat,q < a.nx.length->r < a.nx.length->TT a q r->Fe a cs q=Fe a cs r:=λq r b c j=>by
   rw [LY h b,LY h c,v q r b c j];congr 1;refine nu λl g=>v _ _ (d q b l g) (d r c l g) ?_;have hb:=Ai g;have B:=BI h b hb.1 (by omega);have A:=BI h c hb.1 (by omega);have:=j.step g;rw [f6,f6] at this;rw [show (((AW a q l).toNat:Nat):Int)=AW a q l by omega,show (((AW a r l).toNat:Nat):Int)=AW a r l by omega];exact this
  have u:1<=(uq (A8 a cs)).length:=by
   have:Fe a cs 0∈uq (A8 a cs):=Cp.2 (ce (Bc (by omega)));exact p7 this
  have m:=RC (λk:List Int=>k.headD 0) (A8 a cs);rw [o] at m;unfold MI;split
  ·rename_i x
   have y:(uq cs).length=(uq (A8 a cs)).length:=by omega
   have s:∀q r:Nat,q < a.nx.length->r < a.nx.length->cs.getD q 0=cs.getD r 0->Fe a cs q=Fe a cs r:=λq r b c e=>
    iN (f:=λk:List Int=>k.headD 0) (l:=A8 a cs) (by rw [o];omega) (ce (Bc b)) (ce (Bc c)) e
   refine⟨Cq _ _,λq r b c e=>?_,λq r b c e l g=>?_,λq r b c e=>?_⟩
   ·rw [Bc b,Bc c] at e
    injection e with e
    refine p q r b c ?_;unfold Fe at e;injection e
   ·rw [Bc b,Bc c] at e
    injection e with e
    rw [LY h b,LY h c] at e
    injection e with _ e
    rw [Bc (d q b l g),Bc (d r c l g)];congr 1;exact s _ _ (d q b l g) (d r c l g) (oO.1 e l g)
   ·rw [Bc b,Bc c,i q r b c e]
  ·rename_i x
   refine VK h z k (by simp [Cn,Cq]) (λq r b c e=>?_) (λq r b c e=>?_) (.inr (Mq _).symm) (by omega)
   ·rw [HW (Bc b),HW (Bc c),i q r b c e]
   ·rw [HW (Bc b),HW (Bc c)] at e
    have e:=JJ (ce (Bc b)) e;refine p q r b c ?_;unfold Fe at e;injection e
theorem Gl{a:AK}(h:Hz a)(j:1<=a.nx.length)(i:a.ac.length=a.nx.length):fV a (BN a):=by
 have f:∀q:Nat,q < a.nx.length->(Dx a).getD q 0=if ED a q then 1 else 0:=λq d=>by
  obtain⟨b,hb⟩:=get_some (l:=a.ac) (k:=q) (by omega);unfold Dx ED;rw [lw,d9,hb,f6,lw,hb];rfl
 refine VK h j _ (by simp [Dx,i]) (λq r d g e=>?_) (λq r d g e=>?_) (.inl rfl) (by omega)
 ·have e:ED a q=ED a r:=e [] (λc m=>by cases m)
  rw [f q d,f r g,e]
 ·rw [f q d,f r g] at e
  cases j:ED a q<;>cases n:ED a r<;>rw [j,n] at e<;>first|rfl|cases e
theorem fV.run{a:AK}(g:Hz a){ks:List (List Int)}(h:fV a ks):∀(w:W) (q r:Nat),q < a.nx.length->r < a.nx.length->ks[q]? = ks[r]?->Av (AU a.al) w->ED a (AN a q w)=ED a (AN a r w)
 | [],q,r,f,b,e,_=>h.ac q r f b e
 | c::w,q,r,f,b,e,hw=>by
  obtain⟨l,j,rfl⟩:=em.1 (hw c (by simp));have hb:=Ai j;have n:=BI g f hb.1 (by omega);have m:=BI g b hb.1 (by omega);have i:=fV.run g h w (AW a q l).toNat (AW a r l).toNat (by omega) (by omega) (h.go q r f b e l j) λd k=>hw d (by simp [k]);rw [show (((AW a q l).toNat:Nat):Int)=AW a q l by omega,show (((AW a r l).toNat:Nat):Int)=AW a r l by omega] at i
  show ED a (AN a (AW a ((q:Int).toNat) (((lb l).toNat:Int) - 97)) w)=ED a (AN a (AW a ((r:Int).toNat) (((lb l).toNat:Int) - 97)) w)
  rw [Es hb.1 (by omega),f6,f6];exact i
theorem fV.iff{a:AK}(d:Hz a){ks:List (List Int)}(h:fV a ks){q r:Nat}(c:q < a.nx.length)(b:r < a.nx.length):ks[q]? = ks[r]?↔TT a q r:=
 ⟨λe w hw=>h.run d w q r c b e hw,h.res q r c b⟩
end Go.Am
namespace Go.Am
open Go Go.Proofs
set_option maxHeartbeats 1000000
set_option maxRecDepth 4000
attribute [local irreducible] AO BS Lex A4 Au Spec
variable {TB:Bi}
inductive Reach (t:BE):PS->Prop
 | start:Reach t (A0 t)
 | next {F:PS} {l:Int}:0<=l->l < 6->Reach t F->Reach t (BR t l F)
theorem Reach.ok{t:BE}(ht:AZ t=true){F:PS}(h:Reach t F):CE t F:=by
 induction h with
 | start=>exact KY ht
 | next c b _ a=>exact Nn ht ⟨c,b⟩ a
noncomputable def KS(t:BE):PS->W->PS
 | F,[]=>F
 | F,c::w=>KS t (BR t ((c.toNat:Int) - 97) F) w
theorem NP{t:BE}:∀(u v:W) (F:PS),KS t F (u++v)=KS t (KS t F u) v
 | [],v,F=>rfl
 | c::u,v,F=>by simp only [n9,KS];exact NP u v _
def iS(t:BE)(ok:W->Prop)(F:PS):Prop:=F=A0 t\/∃u v,ok (u++v)/\F=KS t (A0 t) u
def fX(t:BE)(ok:W->Prop):Prop:=∀l:List PS,l.Nodup->(∀F∈l,iS t ok F)->l.length<=1099511627776
structure Ds (t:BE) (ok:W->Prop) (m:Cr):Prop where
 l1:m.nx.length=m.F.length
 l2:m.un.length=m.F.length
 nd:m.F.Nodup
 rc:∀F∈m.F,Reach t F
 rk:∀F∈m.F,iS t ok F
 un:∀(i:Nat) F,m.F[i]? = some F->m.un[i]? = some (Eo t F)
 nx:∀(i:Nat) F,m.F[i]? = some F->∃r:List Int,m.nx[i]? = some r/\r.length=6/\∀l:Nat,l < 6->∃x,r[l]? = some x/\(x < 0\/∃j:Nat,x=j/\m.F[j]? = some (BR t l F))
def HH(t:BE)(m:Cr)(G:PS):Cr:=⟨m.F++[G],m.nx++[[-1,-1,-1,-1,-1,-1]],m.un++[Eo t G]⟩
theorem fQ{t:BE}(ht:AZ t=true){F G:PS}(c:CE t F)(b:CE t G)(h:Gf F=Gf G):F=G:=by
 have d:=QX h;have e:=Al (CZ ht);funext p
 rcases nh p 12 with a|a
 ·exact d p a
 ·rw [c.z p (by omega),b.z p (by omega)]
theorem QD{l:List PS}{p:List Int×Int}:p∈KG l↔∃(i:Nat) (F:PS),l[i]? = some F/\p=(Gf F,(i:Int)):=by
 unfold KG;rw [em];constructor
 ·rintro⟨⟨F,i⟩,h,rfl⟩
  exact⟨i,F,qh.1 h,rfl⟩
 ·rintro⟨i,F,h,rfl⟩
  exact⟨(F,i),qh.2 h,rfl⟩
theorem dV(l:List PS)(G:PS):KG (l++[G])=KG l++[(Gf G,(l.length:Int))]:=by
 unfold KG;rw [List.zipIdx_append];simp
theorem aP{t:BE}(ht:AZ t=true){l:List PS}(g:l.Nodup)(f:∀F∈l,Reach t F):(KG l).Pairwise (λa b=>a.1≠b.1):=by
 unfold KG;rw [nS,nj];intro i j e d c;simp only [List.length_zipIdx] at e d;simp only [List.getElem_zipIdx];intro h;have:=fQ ht ((f _ (nA e)).ok ht) ((f _ (nA d)).ok ht) h;exact nj.1 g i j e d c this
theorem aO{t:BE}(ht:AZ t=true){l:List PS}(a:∀F∈l,Reach t F):OS 12 .u16 (KG l):=λp hp=>by
 obtain⟨i,F,b,rfl⟩:=QD.1 hp;exact⟨rfl,fD ((a F (ce b)).ok ht).lt⟩
theorem XC{t:BE}(ht:AZ t=true){l:List PS}(e:l.Nodup)(b:∀F∈l,Reach t F){G:PS}(g:CE t G){v:Int}(h:Dt (KG l) (Gf G)=some v):∃k:Nat,v=k/\l[k]? = some G:=by
 have:∃p∈KG l,p.1=Gf G:=by
  refine Classical.byContradiction λf=>?_;have j:Dt (KG l) (Gf G)=none:=GZ.2 λp hp a=>f ⟨p,hp,a⟩;rw [j] at h;cases h
 obtain⟨p,hp,a⟩:=this;have d:=Kr (aP ht e b) hp;rw [a,h] at d;obtain⟨i,F,c,rfl⟩:=QD.1 hp;have:=fQ ht ((b F (ce c)).ok ht) g a;subst this;exact⟨i,by injection d,c⟩
theorem XB{l:List PS}{G:PS}(h:Dt (KG l) (Gf G)=none):G∉l:=λb=>by
 obtain⟨i,hi,a⟩:=nC b;exact GZ.1 h (Gf G,(i:Int)) (QD.2 ⟨i,G,by rw [d5 hi,a],rfl⟩) rfl
theorem Jq{U:Type}{l:List U}{a x:U}{i:Nat}(h:l[i]? = some x):(l++[a])[i]? = some x:=by
 rw [d8 (am.1 h).1];exact h
theorem RT{U:Type}{l:List U}{a x:U}{i:Nat}(h:(l++[a])[i]? = some x):l[i]? = some x\/i=l.length/\x=a:=by
 rcases nh i l.length with b|b
 ·rw [d8 b] at h;exact .inl h
 ·rw [ge b] at h
  have d:i - l.length < 1:=(am.1 h).1
  have c:i=l.length:=by simp at d;omega
  subst c;simp at h;exact .inr ⟨rfl,h.symm⟩
theorem Vz{t:BE}{ok:W->Prop}{m:Cr}(d:Ds t ok m){G:PS}(k:Reach t G)(hk:iS t ok G)(h:G∉m.F):Ds t ok (HH t m G):=by
 refine⟨by simp [HH,d.l1],by simp [HH,d.l2],?_,?_,?_,?_,?_⟩
 ·show (m.F++[G]).Nodup
  rw [nR];exact⟨d.nd,by simp,λa ha b hb=>by simp at hb;subst hb;intro e;subst e;exact h ha⟩
 ·intro F c
  rcases f9.1 c with c|c
  ·exact d.rc F c
  ·simp at c;subst c;exact k
 ·intro F c
  rcases f9.1 c with c|c
  ·exact d.rk F c
  ·simp at c;subst c;exact hk
 ·intro i F c
  rcases RT c with f|⟨f,rfl⟩
  ·exact Jq (d.un i F f)
  ·subst f;show (m.un++[Eo t F])[m.F.length]? = _;rw [<-d.l2];simp
 ·intro i F c
  rcases RT c with f|⟨f,rfl⟩
  ·obtain⟨r,v,u,s⟩:=d.nx i F f
   refine⟨r,Jq v,u,λl g=>?_⟩;obtain⟨x,q,p⟩:=s l g;refine⟨x,q,p.imp id ?_⟩;rintro⟨j,o,n⟩;exact⟨j,o,Jq n⟩
  ·refine⟨[-1,-1,-1,-1,-1,-1],by subst f;show (m.nx++_)[m.F.length]? = _;rw [<-d.l1];simp,rfl,λl g=>⟨-1,?_,.inl (by omega)⟩⟩
   obtain rfl|rfl|rfl|rfl|rfl|rfl:l=0\/l=1\/l=2\/l=3\/l=4\/l=5:=by omega
   all_goals rfl
def GG(t:BE)(F:PS)(k:Nat):Bool:=(List.range k).any λp=>decide (F p≠0) && !(t.q.ac.getD p false)
theorem IX{t:BE}{F:PS}{k:Nat}:GG t F (k+1)=(GG t F k || (decide (F k≠0) && !(t.q.ac.getD k false))):=by
 unfold GG;rw [oJ,List.any_append];simp
theorem Xn{t:BE}{F:PS}(h:CE t F)(b:t.q.nx.length<=12):GG t F 12=Eo t F:=by
 have key:∀k,GG t F (t.q.nx.length+k)=GG t F t.q.nx.length:=λk=>by
  induction k with
  | zero=>rfl
  | succ k a=>rw [<-nQ,IX,a,h.z _ (by omega)];simp
 have:=key (12 - t.q.nx.length);rw [show t.q.nx.length+(12 - t.q.nx.length)=12 by omega] at this;rw [this];rfl
section
variable {P:Program}{Γ:Ctx}{d:Option Tmp}{ty:TypeId}{pos:String}{af:Array Edge}{g:Option (Nat×Bool)}{f:Env}{σ:Ab}{nx:Nat}{t:TypeId}{n:Nat}{q:IntKind}{m e:TypeId}{x y:Operand}{id:Nat}{l:List (List Int×Int)}{s:List Int}
theorem bS{v:Int}[z:DV P m t e][h:Fs P t n q][w:HD P e (.int .i64 0)](j:Dt l s=some v)(i:ev f x=some (.o (.mp id)))(c:ev f y=some (dL q s))(p:look σ id=some (.mp (mapA q l)))
 (r:OS n q l) (u:l.Pairwise (λa b=>a.1≠b.1)) (k:s.length=n) (hw:∀x∈s,(Lit.int q x).wf=true) :
 AO P TB Γ ⟨d,.lookup m x y true,ty,pos,af,g⟩ f σ nx (.t [(false,[.d (.v (.int .i64 v))]),(false,[.d (.v (.bool true))])]):=by
 have:=WA (P:=P) (TB:=TB) (Γ:=Γ) (d:=d) (ty:=ty) (pos:=pos) (af:=af) (g:=g) (nx:=nx) (t:=t) (m:=m) (e:=e) i c p r u k hw;rw [j] at this;exact this
theorem bR[z:DV P m t e][h:Fs P t n q][w:HD P e (.int .i64 0)](j:Dt l s=none)(i:ev f x=some (.o (.mp id)))(c:ev f y=some (dL q s))(p:look σ id=some (.mp (mapA q l)))
 (r:OS n q l) (u:l.Pairwise (λa b=>a.1≠b.1)) (k:s.length=n) (hw:∀x∈s,(Lit.int q x).wf=true) :
 AO P TB Γ ⟨d,.lookup m x y true,ty,pos,af,g⟩ f σ nx (.t [(false,[.d (.v (.int .i64 0))]),(false,[.d (.v (.bool false))])]):=by
 have:=WA (P:=P) (TB:=TB) (Γ:=Γ) (d:=d) (ty:=ty) (pos:=pos) (af:=af) (g:=g) (nx:=nx) (t:=t) (m:=m) (e:=e) i c p r u k hw;rw [j] at this;exact this
end
theorem Zk{t:BE}{ok:W->Prop}(ht:AZ t=true){m:Cr}(h:Ds t ok m)(H:m.F.length<=1099511627776){G:PS}(u:CE t G):∃(m':Cr) (k:Nat),((m'=m/\m.F[k]? = some G)\/(m'=HH t m G/\k=m.F.length/\G∉m.F))/\
 AJ Tryz.prog TB 178 1 (Kk t m) 5 [.o (.ptr 0 14 0 0),ij G] (λx σ nx=>x=eI .i64 (k:Int)/\σ=Kk t m'/\nx=5):=by
 have L:=Al (CZ ht);have f:=aP ht h.nd h.rc;have j:=aO ht h.rc;have e:=fD u.lt
 cases n:Dt (KG m.F) (Gf G) with
 | some v=>
  obtain⟨k,rfl,hk⟩:=XC ht h.nd h.rc u n;refine⟨m,k,.inl ⟨rfl,hk⟩,?_⟩;refine AJ.AX (AJ.QP (m:=1) (co rfl) Tryz.func178 rfl (by kernel_rfl) (co rfl) ?_);intro Γ a;(repeat first|refine tA rfl ?_ |refine aU rfl ?_ |refine Aa ?_);refine rG (Ha []) (by kernel_rfl) ?_;(repeat first|refine tA rfl ?_|(refine Af rfl ?_;refine gA rfl ?_;first| refine gQ (bS (s:=Gf G) (l:=KG m.F) n rfl rfl rfl j f rfl e) rfl ?_) |refine aU rfl ?_ |refine Aa ?_);(refine aC rfl ?_ ?_<;>rintro⟨⟩);(repeat first|refine tA rfl ?_ |refine aU rfl ?_ |refine Aa ?_);refine aR ⟨_,rfl,[0,1,2,3,4],eI .i64 (k:Int),Kk t m,⟨by intro i hi;match i with|0=>rfl,by decide⟩,rfl,by (simp[cX,zC,a,AB]),rfl,rfl,rfl⟩
 | none =>
  refine⟨HH t m G,m.F.length,.inr ⟨rfl,rfl,XB n⟩,?_⟩;have N:=h.l1;have M:=h.l2;have A:=dV m.F G;refine AJ.AX (AJ.QP (m:=1) (co rfl) Tryz.func178 rfl (by kernel_rfl) (co rfl) ?_);intro Γ a;(repeat first|refine tA rfl ?_ |refine aU rfl ?_ |refine Aa ?_);refine rG (Ha []) (by kernel_rfl) ?_;(repeat first|refine tA rfl ?_|(refine Af rfl ?_;refine gA rfl ?_;first| refine gQ (bR (s:=Gf G) (l:=KG m.F) n rfl rfl rfl j f rfl e) rfl ?_) |refine aU rfl ?_ |refine Aa ?_);(refine aC rfl ?_ ?_<;>rintro⟨⟩);refine aK ?_;(repeat first|refine tA rfl ?_ |refine aU rfl ?_ |refine Aa ?_);refine rG (Ha [6]) (by kernel_rfl) ?_;(repeat first|refine tA rfl ?_);(refine Af rfl ?_;refine EO ?_ rfl (by rfl);refine gV (s:=Gf G) (l:=KG m.F) rfl rfl rfl rfl j f rfl e n ?_);rw [<-A];refine Aa ?_;(repeat first|refine aU rfl ?_);refine rG (RH [(4,0),(7,1),(10,1)]) (by kernel_rfl) ?_;(repeat first|refine tA rfl ?_);(refine pW rfl ?_ rfl (by rfl);refine Aj rfl rfl rfl (by first| (simp;done)|(simp;(omega))) rfl (by intro r d;simp at d;subst d;rfl) (by rfl) (co rfl) (by simp;omega) ?_);(repeat first|refine tA rfl ?_ |refine aU rfl ?_ |refine Aa ?_);(repeat first|refine tA rfl ?_|(refine Af rfl ?_;refine gA rfl ?_;first| refine gS (λ_ _=>AF rfl rfl (by rfl) (by rfl)) ?_));(refine pW rfl ?_ rfl (by rfl);refine Aj rfl rfl rfl (by first| (simp;done)|(simp;(omega))) rfl (by intro r d;simp at d;subst d;rfl) (by rfl) (co rfl) (by simp;omega) ?_);(repeat first|refine tA rfl ?_ |refine aU rfl ?_ |refine Aa ?_);refine Au.AL [0,7,8,53,54] [] rfl rfl [] [(0,.cells 131 14 [NR t (.arr 1 12 0 (HH t m G).F.length) (.mp 2) (.arr 3 6 0 (HH t m G).nx.length) (.arr 4 1 0 m.un.length)]),(1,.cells 189 12 ((HH t m G).F.map Ls)),(2,.mp (mapA .u16 (KG (HH t m G).F))),(3,.cells 109 6 ((HH t m G).nx.map Lq)),(4,.cells 4 1 (m.un.map AP))] [0,5,2,6,4] (rl a rfl) (by (simp[cX,zC,a,AB,HH]<;>rfl)) ?_;(try dsimp only[cA,cB]);refine aB ?_;refine aL (U:={k:Nat // k<=12}) [0,7,53] [0,1,2,3,4] rfl rfl (λs=>[(8,eB (GG t G s.1)),(54,eI .i64 s.1)]) (λs=>[]) 5 (λs=>12 - s.1) (⟨0,by omega⟩) a rfl (by (simp[cX,zC,a,AB]<;>rfl)) ?_;rintro⟨k,hk⟩;(try dsimp only[cA,cB]);by_cases w:k < 12
  ·have B:(Gf G)[((k:Nat):Int).toNat]? = some (G k:Int):=by rw [f6];exact Iz w
   have p:=IX (t:=t) (F:=G) (k:=k);generalize GG t G k=P at *;by_cases J:k < t.q.nx.length
   ·obtain⟨b,hb⟩:=get_some (l:=t.q.ac) (k:=((k:Nat):Int).toNat) (by omega)
    have K:=get_map (g:=Gk) hb
    have y:t.q.ac.getD k false=b:=by rw [f6] at hb;simp [List.getD,hb]
    rw [y] at p;(repeat first|refine s2 rfl λ_ c=>?_ |refine aU rfl ?_ |refine Aa ?_)
    ((refine aC rfl ?_ ?_<;>rintro⟨⟩);all_goals try(exfalso;(simp only[oZ] at *;omega)))
    refine aK ?_;refine aS (aB ?_)
    (repeat' first|(refine sA rfl ?_ ?_;first|exact tI|omega) |(refine s4 rfl ‹_› rfl ?_ ?_;omega) |refine s2 rfl λ_ c=>?_|(refine Af rfl ?_;refine gA rfl ?_;first| refine gS (λ_ _=>JQ (l:=Gf G) rfl rfl rfl (by omega) B) ?_) |refine s3 rfl ?_ ?_<;>rintro rfl |refine aU rfl ?_ |refine Aa ?_|(refine aC rfl ?_ ?_<;>rintro⟨⟩));all_goals try contradiction
    all_goals ((try refine aK ?_);refine⟨⟨k+1,by omega⟩,by dsimp only;(omega),[0,1,2,3,4],?_⟩;simp only [decide_eq_true_eq,decide_eq_false_iff_not] at *;simp[cX,zC,a,AB,p];try (simp_all;done))
   ·have I:=u.z k (by omega)
    rw [I] at p;(repeat first|refine s2 rfl λ_ c=>?_ |refine aU rfl ?_ |refine Aa ?_)
    ((refine aC rfl ?_ ?_<;>rintro⟨⟩);all_goals try(exfalso;(simp only[oZ] at *;omega)))
    refine aK ?_;refine aS (aB ?_)
    (repeat' first|(refine sA rfl ?_ ?_;first|exact tI|omega) |refine s2 rfl λ_ c=>?_|(refine Af rfl ?_;refine gA rfl ?_;first| refine gS (λ_ _=>JQ (l:=Gf G) rfl rfl rfl (by omega) B) ?_) |refine s3 rfl ?_ ?_<;>rintro rfl |refine aU rfl ?_ |refine Aa ?_|(refine aC rfl ?_ ?_<;>rintro⟨⟩));all_goals try contradiction
    all_goals first| (exfalso;(simp only[oZ] at *;omega);done)|skip
    all_goals ((try refine aK ?_);refine⟨⟨k+1,by omega⟩,by dsimp only;(omega),[0,1,2,3,4],?_⟩;simp[cX,zC,a,AB,p];try (simp_all;done))
  ·obtain rfl:k=12:=by omega
   rw [Xn u (by omega)];(repeat first|refine s2 rfl λ_ c=>?_ |refine aU rfl ?_ |refine Aa ?_)
   ((refine aC rfl ?_ ?_<;>rintro⟨⟩);all_goals try(exfalso;(simp only[oZ] at *;omega)))
   refine aE ?_;(repeat first|refine tA rfl ?_ |refine aU rfl ?_);(refine pW rfl ?_ rfl (by rfl);refine Aj rfl rfl rfl (by first| (simp;done)|(simp;(omega))) rfl (by intro r d;simp at d;subst d;rfl) (by rfl) (co rfl) (by simp;omega) ?_);(repeat first|refine tA rfl ?_ |refine aU rfl ?_ |refine Aa ?_);refine aR ⟨_,rfl,[0,1,2,3,5],eI .i64 (m.F.length:Int),Kk t (HH t m G),⟨by intro i hi;match i with|0=>rfl,by decide⟩,rfl,by (simp[cX,zC,a,AB,HH]),rfl,rfl,rfl⟩
end Go.Am
namespace Go.Am
set_option linter.unusedVariables false
def DZ(a:AK)(q:Int):Int:=(Dm a).getD q.toNat 0
def BM(a:AK)(k:Nat):AK:=⟨a.al,(AT (BN a) k).map λq=>(a.nx.getD q []).map (DZ a),(AT (BN a) k).map λq=>a.ac.getD q false⟩
def BW(a:AK):AK:=BM a a.nx.length
def Df(a:AK):AK:=GS (BW a)
structure Cg (a:AK):Prop where
 b:Hz a
 n1:1<=a.nx.length
 ac:a.ac.length=a.nx.length
theorem Qc{a:AK}(h:AI a=true):Cg a:=by
 have:=Al h;exact⟨VE h,this.2.1,this.2.2.2⟩
theorem Cg.iV{a:AK}(h:Cg a):∀(w:W) {q:Int},Av (AU a.al) w->0<=q/\q < ((a.nx.length:Nat):Int)->0<=AN a q w/\AN a q w < ((a.nx.length:Nat):Int)
 | [],q,_,d=>d
 | c::w,q,hw,d=>by
  have e:=Iq (hw c (by simp));exact Cg.iV h w (λx f=>hw x (by simp [f])) (BI h.b (q:=q.toNat) (by omega) e.1 e.2)
theorem OT(a:AK)(w:W):LA a w=ED a (AN a 0 w):=rfl
section
variable {a:AK}(h:Cg a)
include h
theorem Fx{q:Nat}(f:q < a.nx.length):∃x,(BN a)[q]? = some x/\DZ a q=CN (BN a) x/\0<=DZ a q/\DZ a q < ((BW a).nx.length:Nat):=by
 have d:=Gl h.b h.n1 h.ac;obtain⟨x,c⟩:=get_some (l:=BN a) (k:=q) (by have:=d.len;omega)
 have e:DZ a q=CN (BN a) x:=by unfold DZ Dm;rw [f6];exact HW c
 have i:=Iw (ce c)
 have g:(BW a).nx.length=(uq (BN a)).length:=by
  unfold BW BM;simp only [f7];rw [CB,lm (by have:=d.len;omega)]
 exact⟨x,c,e,by omega,by omega⟩
theorem T8{q r:Nat}(f:q < a.nx.length)(d:r < a.nx.length):DZ a q=DZ a r↔TT a q r:=by
 have i:=Gl h.b h.n1 h.ac;obtain⟨x,c,e,_⟩:=Fx h f;obtain⟨y,g,j,_⟩:=Fx h d;rw [<-i.iff h.b f d,e,j,c,g];exact⟨λk=>by rw [JJ (ce c) k],λk=>by injection k with k;rw [k]⟩
theorem Jt:DZ a 0=0:=by
 have c:=h.n1;obtain⟨x,b,e,_⟩:=Fx h (q:=0) (by omega);have:=(Iv b).2 (by simp [uq,uniq]);have e:DZ a 0=CN (BN a) x:=e;rw [e,this];rfl
theorem cn{q:Nat}(g:q < a.nx.length):∃r:Nat,r < a.nx.length/\(AT (BN a) a.nx.length)[(DZ a q).toNat]? = some r/\TT a q r:=by
 have j:=Gl h.b h.n1 h.ac;obtain⟨x,d,e,p,o⟩:=Fx h g
 have i:(BW a).nx.length=(AT (BN a) a.nx.length).length:=by simp [BW,BM]
 obtain⟨r,f⟩:=get_some (l:=AT (BN a) a.nx.length) (k:=(DZ a q).toNat) (by omega);obtain⟨m,y,n,c⟩:=DK _ _ _ _ f;rw [lm (by have:=j.len;omega)] at c;rw [e,Nq (ce d)] at c
 injection c with c
 subst c;exact⟨r,m,f,(j.iff h.b g m).1 (d.trans n.symm)⟩
theorem Mi{i:Nat}(hi:i < (BW a).nx.length):∃r:Nat,r < a.nx.length/\DZ a r=i:=by
 have n:=Gl h.b h.n1 h.ac
 have d:(BW a).nx.length=(AT (BN a) a.nx.length).length:=by simp [BW,BM]
 obtain⟨r,m⟩:=get_some (l:=AT (BN a) a.nx.length) (k:=i) (by omega);obtain⟨g,y,c,f⟩:=DK _ _ _ _ m;rw [lm (by have:=n.len;omega)] at f;obtain⟨x,j,e,_⟩:=Fx h g
 rw [j] at c;injection c with c;subst c
 refine⟨r,g,?_⟩;rw [e];exact Ma f
theorem bY:Cg (BW a)/\(BW a).nx.length<=a.nx.length:=by
 have n:=Gl h.b h.n1 h.ac;have hb:=h.b
 have m:(BW a).nx.length=(uq (BN a)).length:=by
  unfold BW BM;simp only [f7];rw [CB,lm (by have:=n.len;omega)]
 have z:=E9 (BN a);have w:=n.len;have v:=h.n1;obtain⟨x,u,e,B,A⟩:=Fx h (q:=0) (by omega);refine⟨⟨⟨by have:=hb.1;omega,λq f=>?_⟩,by omega,by simp [BW,BM]⟩,by omega⟩;have f:q < ((AT (BN a) a.nx.length).map λq=>(a.nx.getD q []).map (DZ a)).length:=f;rw [f7] at f;obtain⟨r,j⟩:=get_some f;obtain⟨s,_⟩:=DK _ _ _ _ j;have d:=FN hb s;refine⟨((Ac a.al).map (AW a r)).map (DZ a),?_,by simp;rfl,λk y c=>?_⟩
 ·show ((AT (BN a) a.nx.length).map _)[q]? = _
  rw [d9,j,nv,Bd d]
 ·rw [d9,d9] at c
  cases i:(Ac a.al)[k]? with
  | none=>rw [i] at c;cases c
  | some l=>
   rw [i] at c
   injection c with c
   have g:=Ai (ce i);have t:=BI hb s g.1 (by omega);obtain⟨_,_,_,p,o⟩:=Fx h (q:=(AW a r l).toNat) (by omega);rw [show (((AW a r l).toNat:Nat):Int)=AW a r l by omega] at p o;subst c;exact⟨p,o⟩
theorem UP{q:Nat}(g:q < a.nx.length){l:Int}(f:l∈Ac a.al):AW (BW a) (DZ a q).toNat l=DZ a (AW a q l):=by
 obtain⟨r,j,m,k⟩:=cn h g;have c:=Ai f;have d:=FN h.b j
 have e:AW (BW a) (DZ a q).toNat l=DZ a (AW a r l):=by
  unfold AW;rw [show Ep (BW a).al l.toNat=true from c.2.2,c.2.2,if_pos rfl,if_pos rfl]
  show (((AT (BN a) a.nx.length).map λq=>(a.nx.getD q []).map (DZ a)).getD _ []).getD _ 0=_
  rw [lw,lw,d9,m,nv,nW,d9,Bd d]
  show Option.getD (Option.map (DZ a) ((Ac a.al).map (AW a r))[(Ay a.al l.toNat).length]?) 0=DZ a (((Ac a.al).map (AW a r)).getD (Ay a.al l.toNat).length 0)
  rw [lw,d9,KC f];rfl
 rw [e];have o:=BI h.b g c.1 (by omega);have n:=BI h.b j c.1 (by omega);have i:=k.step f;rw [f6,f6] at i
 have:=(T8 h (q:=(AW a r l).toNat) (r:=(AW a q l).toNat) (by omega) (by omega)).2 (by
  rw [show (((AW a r l).toNat:Nat):Int)=AW a r l by omega,show (((AW a q l).toNat:Nat):Int)=AW a q l by omega]
  exact λw hw=>(i w hw).symm)
 rw [show (((AW a r l).toNat:Nat):Int)=AW a r l by omega,show (((AW a q l).toNat:Nat):Int)=AW a q l by omega] at this;exact this
theorem ca{q:Nat}(b:q < a.nx.length):ED (BW a) (DZ a q)=ED a q:=by
 obtain⟨r,i,g,f⟩:=cn h b;have e:ED a q=ED a r:=f [] (λc d=>by cases d);rw [e];unfold ED
 show ((AT (BN a) a.nx.length).map λq=>a.ac.getD q false).getD _ false=_
 rw [lw,d9,g,f6];rfl
theorem Rs:∀(w:W) {q:Nat},q < a.nx.length->Av (AU a.al) w->AN (BW a) (DZ a q) w=DZ a (AN a q w)
 | [],q,_,_=>rfl
 | c::w,q,g,hw=>by
  obtain⟨l,i,rfl⟩:=em.1 (hw c (by simp));have e:=Ai i;have k:=BI h.b g e.1 (by omega);have f:=Rs w (q:=(AW a q l).toNat) (by omega) λd j=>hw d (by simp [j]);rw [show (((AW a q l).toNat:Nat):Int)=AW a q l by omega] at f
  show AN (BW a) (AW (BW a) (DZ a q).toNat (((lb l).toNat:Int) - 97)) w=DZ a (AN a (AW a ((q:Int).toNat) (((lb l).toNat:Int) - 97)) w)
  rw [Es e.1 (by omega),f6,UP h g i];exact f
theorem Rr{q:Nat}(b:q < a.nx.length){w:W}(hw:Av (AU a.al) w):ED (BW a) (AN (BW a) (DZ a q) w)=ED a (AN a q w):=by
 have:=h.iV w (q:=(q:Int)) hw (by omega);rw [Rs h w b hw];have e:=ca h (q:=(AN a q w).toNat) (by omega);rwa [show (((AN a q w).toNat:Nat):Int)=AN a q w by omega] at e
theorem bZ{w:W}(hw:Av (AU a.al) w):LA (BW a) w=LA a w:=by
 have b:=h.n1;have:=Rr h (q:=0) (by omega) hw;rw [show (((0:Nat):Int))=0 from rfl,Jt h] at this;exact this
theorem cd{i j:Nat}(hi:i < (BW a).nx.length)(e:j < (BW a).nx.length)(c:TT (BW a) i j):i=j:=by
 obtain⟨q,d,g⟩:=Mi h hi;obtain⟨r,b,f⟩:=Mi h e;rw [<-g,<-f] at c
 have:=(T8 h d b).2 λw hw=>by
  have:=c w hw;rwa [Rr h d hw,Rr h b hw] at this
 omega
end
structure jb (a m:AK):Prop where
 al:m.al=a.al
 g:Cg m
 n2:m.nx.length<=a.nx.length
 lang:∀w,Av (AU a.al) w->LA m w=LA a w
 rc:∀i:Nat,i < m.nx.length->∃w,Av (AU a.al) w/\AN m 0 w=i
 ds:∀i j:Nat,i < m.nx.length->j < m.nx.length->TT m i j->i=j
theorem kM{a:AK}(h:Cg a)(t:∀i j:Nat,i < a.nx.length->j < a.nx.length->TT a i j->i=j){i j:Nat}(hi:i < (GS a).nx.length)(f:j < (GS a).nx.length)(n:TT (GS a) i j):i=j:=by
 obtain⟨nd,rows,_,g,B,o,e⟩:=OP h.b h.n1;have A:=g.len;rw [e] at hi f n;have hi:i < rows.length:=hi;have f:j < rows.length:=f;obtain⟨x,d⟩:=get_some (l:=nd) (k:=i) (by omega);obtain⟨y,c⟩:=get_some (l:=nd) (k:=j) (by omega)
 have key:∀ {k:Nat} {z:Int},nd[k]? = some z->∀ {w:W},Av (AU a.al) w->ED ⟨a.al,rows,nd.map (ED a)⟩ (AN ⟨a.al,rows,nd.map (ED a)⟩ k w)=ED a (AN a z w):=λ{k z} p {w} hw=>by
  obtain⟨m,v,u⟩:=Ix g (ac:=nd.map (ED a)) w hw p;rw [v]
  show (nd.map (ED a)).getD ((m:Int).toNat) false=_
  rw [f6,lw,d9,u];rfl
 have s:=o x (ce d);have q:=o y (ce c)
 have r:=t x.toNat y.toNat (by omega) (by omega) λw hw=>by
  have:=n w hw;rw [key d hw,key c hw] at this;rw [show ((x.toNat:Nat):Int)=x by omega,show ((y.toNat:Nat):Int)=y by omega];exact this
 obtain rfl:x=y:=by omega
 exact(ox (by omega) g.nodup).1 (d.trans c.symm)
theorem KF{a:AK}(h:Cg a):jb a (Df a):=by
 obtain⟨c,n⟩:=bY h;obtain⟨l,k,m,g,f⟩:=lg c.b c.n1;unfold Df;exact⟨Oe _,⟨l,k,g⟩,by omega,λw hw=>by rw [fG c.b c.n1 hw];exact bZ h hw,f,λi j hi e d=>kM c (λi j hi e d=>cd h hi e d) hi e d⟩
theorem canon{a x:AK}(h:Cg a)(J:Cg x)(hal:x.al=a.al)(lang:∀w,Av (AU a.al) w->LA x w=LA a w)(rc:∀i:Nat,i < x.nx.length->∃w,Av (AU a.al) w/\AN x 0 w=i)(ds:∀i j:Nat,i < x.nx.length->j < x.nx.length->TT x i j->i=j):GS x=Df a:=by
 obtain⟨P,g2⟩:=bY h;have hn1:=h.n1;have B:=J.n1
 obtain⟨wd,d⟩:∃wd:Int->W,∀i:Int,0<=i/\i < ((x.nx.length:Nat):Int)->Av (AU a.al) (wd i)/\AN x 0 (wd i)=i:=by
  refine⟨λi=>if hi:0<=i/\i < ((x.nx.length:Nat):Int) then Classical.choose (rc i.toNat (by omega)) else [],λi hi=>?_⟩;have:=oW (rc i.toNat (by omega));simp only [hi,and_self,dite_true];exact⟨this.1,by rw [this.2];omega⟩
 have k:∀ {w:W},Av (AU a.al) w->0<=AN a 0 w/\AN a 0 w < ((a.nx.length:Nat):Int):=λhw=>h.iV _ hw (by omega)
 have H:∀ {u v:W},Av (AU a.al) u->Av (AU a.al) v->Av (AU a.al) (u++v):=λhu hv c n=>by
  rcases f9.1 n with n|n
  ·exact hu c n
  ·exact hv c n
 have t:∀ {p q:Int},(0<=p/\p < ((a.nx.length:Nat):Int))->(0<=q/\q < ((a.nx.length:Nat):Int))->(DZ a p=DZ a q↔TT a p q):=λ{p q} hp F=>by
  have:=T8 h (q:=p.toNat) (r:=q.toNat) (by omega) (by omega);rwa [show ((p.toNat:Nat):Int)=p by omega,show ((q.toNat:Nat):Int)=q by omega] at this
 have m:∀ {i:Int} {w:W},(0<=i/\i < ((x.nx.length:Nat):Int))->Av (AU a.al) w->ED a (AN a (AN a 0 (wd i)) w)=ED x (AN x i w):=λ{i w} hi hw=>by
  obtain⟨A,I⟩:=d i hi;have:=lang (wd i++w) (H A hw);rw [OT,OT,DD,DD,I] at this;exact this.symm
 have K:Ac x.al=Ac a.al:=by rw [hal]
 have M:∀q l:Int,(0<=q/\q < ((x.nx.length:Nat):Int))->l∈Ac a.al->0<=fA x q l/\fA x q l < ((x.nx.length:Nat):Int):=λq l F z=>by
  have o:=Ai z;exact BI J.b (q:=q.toNat) (by omega) o.1 (by omega)
 have iso:=bf (lim:=x.nx.length+(BW a).nx.length) (f:=fA x) (g:=fA (BW a)) (ls:=Ac a.al) (R:=λi=>0<=i/\i < ((x.nx.length:Nat):Int)) (φ:=λi=>DZ a (AN a 0 (wd i))) (s:=0)
  (λi j hi T e=>by
   have e2:=(t (k (d i hi).1) (k (d j T).1)).1 e
   have:=ds i.toNat j.toNat (by omega) (by omega) λw hw=>by
    rw [hal] at hw;rw [show ((i.toNat:Nat):Int)=i by omega,show ((j.toNat:Nat):Int)=j by omega,<-m hi hw,<-m T hw];exact e2 w hw
   omega)
  (λq l F z=>by
   have o:=Ai z;have A:=M q l F z;refine⟨A,?_⟩;have I:=k (d q F).1;have X:=UP h (q:=(AN a 0 (wd q)).toNat) (by omega) z;rw [show (((AN a 0 (wd q)).toNat:Nat):Int)=AN a 0 (wd q) by omega] at X
   show _=AW (BW a) (DZ a (AN a 0 (wd q))).toNat l
   rw [X];have h4:=BI h.b (q:=(AN a 0 (wd q)).toNat) (by omega) o.1 (by omega);refine(t (k (d _ A).1) h4).2 λw hw=>?_;rw [m A hw]
   have N:Av (AU a.al) (lb l::w):=λc n=>by
    rcases lc.1 n with rfl|n
    ·exact em.2 ⟨l,z,rfl⟩
    ·exact hw c n
   have V:=m F N
   have e:∀(y:AK) (p:Int),AN y p (lb l::w)=AN y (AW y p.toNat l) w:=λy p=>by
    show AN y (AW y p.toNat (((lb l).toNat:Int) - 97)) w=_
    rw [Es o.1 (by omega)]
   rw [e,e] at V
   exact V.symm)
  (show (0:Int)<=0/\(0:Int) < ((x.nx.length:Nat):Int) by omega)
 have e0:DZ a (AN a 0 (wd 0))=0:=by
  refine Eq.trans ?_ (Jt h)
  have Y:(0:Int)<=0/\(0:Int) < ((x.nx.length:Nat):Int):=by omega
  refine(t (q:=0) (k (d 0 Y).1) (by omega)).2 λw hw=>?_;rw [m Y hw];exact lang w hw
 simp only [e0] at iso;obtain⟨nd,rows,Q,n2,n3,n4,n5⟩:=OP J.b B;obtain⟨nd',rows',S,m2,m3,m4,m5⟩:=OP P.b P.n1;rw [K] at Q;have L:Ac (BW a).al=Ac a.al:=rfl;rw [L] at S;obtain⟨_,_,Z⟩:=Hh B Q;obtain⟨_,_,m6⟩:=Hh P.n1 S;rw [Z _ (by omega),m6 _ (by omega)] at iso;simp only [nv,Option.some.injEq,Prod.mk.injEq] at iso;obtain⟨i1,i2⟩:=iso;unfold Df;rw [n5,m5,i1,i2,nV]
 have e:nd.map (ED x)=nd.map (ED (BW a)∘λi=>DZ a (AN a 0 (wd i))):=nu λi hi=>by
  have G:=n4 i hi;have A:=k (d i G).1;have I:=ca h (q:=(AN a 0 (wd i)).toNat) (by omega);rw [show (((AN a 0 (wd i)).toNat:Nat):Int)=AN a 0 (wd i) by omega] at I
  show ED x i=ED (BW a) (DZ a (AN a 0 (wd i)))
  rw [I];exact(m G (w:=[]) (λc n=>by cases n)).symm
 rw [e]
 show (⟨x.al,_,_⟩:AK)=⟨a.al,_,_⟩
 rw [hal]
theorem iL{x:AK}(c:Cg x)(rc:∀i:Nat,i < x.nx.length->∃w,Av (AU x.al) w/\AN x 0 w=i):(GS x).nx.length=x.nx.length:=by
 obtain⟨nd,rows,o,a,n,k,f⟩:=OP c.b c.n1;have p:=a.len
 have key:∀i:Nat,i < x.nx.length->(i:Int)∈nd:=λi hi=>by
  obtain⟨w,hw,e⟩:=rc i hi;obtain⟨j,q,d⟩:=Ix a (ac:=[]) w hw a.st;rw [e] at d;exact ce d
 have := CL (l:=(List.range x.nx.length).map Int.ofNat) (m:=nd) (by
  unfold List.Nodup;rw [nS]
  exact List.nodup_range.imp λh e=>h (by injection e)) λy g=>by
   obtain⟨i,hi,rfl⟩:=em.1 g;exact key i (jp.1 hi)
 rw [f]
 show rows.length=_
 simp at this;omega
end Go.Am
namespace Go.Am
open Go Go.Proofs
set_option maxHeartbeats 1000000
set_option maxRecDepth 4000
attribute [local irreducible] AO BS Lex A4 Au Spec
variable {TB:Bi}
def Mt(m m':Cr):Prop:=∀(i:Nat) F,m.F[i]? = some F->m'.F[i]? = some F
theorem dj{t:BE}{m:Cr}{G:PS}:Mt m (HH t m G):=λ_ _ h=>Jq h
def YJ(m:Cr)(n:Nat)(r:List Int):Cr:={ m with nx:=m.nx.set n r }
theorem fi{t:BE}{ok:W->Prop}{m:Cr}(a:Ds t ok m){n k l:Nat}{F:PS}{r:List Int}(p:m.F[n]? = some F)(o:m.nx[n]? = some r)(v:l < 6)(hk:m.F[k]? = some (BR t l F)):Ds t ok (YJ m n (r.set l k)):=by
 refine⟨by simp [YJ,a.l1],a.l2,a.nd,a.rc,a.rk,a.un,λi G b=>?_⟩;replace b:m.F[i]? = some G:=b;by_cases e:i=n
 ·subst e
  rw [p] at b;injection b with b;subst b
  obtain⟨r',c,f,j⟩:=a.nx i F p
  rw [o] at c;injection c with c;subst c
  have g:=(am.1 o).1;refine⟨r.set l k,by simp [YJ,g],by simp [f],λl' d=>?_⟩;by_cases q:l'=l
  ·subst q
   exact⟨k,by simp [f,d],.inr ⟨k,rfl,hk⟩⟩
  ·obtain⟨x,u,s⟩:=j l' d
   exact⟨x,by rw [nU (λh=>q h.symm)];exact u,s⟩
 ·obtain⟨r',c,f,j⟩:=a.nx i G b
  exact⟨r',by simp only [YJ];rw [nU (λh=>e h.symm)];exact c,f,j⟩
theorem Wk{r:List Int}{l:Nat}{x:Int}(h:r[l]? = some x):(Lq r)[l]? = some (.d (iD x)):=by simp [h]
theorem ef{r:List Int}{l:Nat}{x:Int}(h:l < r.length):Ae (Lq r) l [.d (iD x)]=Lq (r.set l x):=by
 rw [Hp (by simpa using h)];unfold Lq;rw [oU]
theorem OW[Fa TB]{t:BE}{ok:W->Prop}(ht:AZ t=true){m:Cr}(e:Ds t ok m){n:Nat}{F:PS}(v:m.F[n]? = some F){l:Int}(J:0<=l/\l < 6)(H:m.F.length<=1099511627776)(R:iS t ok (BR t l F)):∃(m':Cr) (j:Nat),Ds t ok m'/\Mt m m'/\m'.F[j]? = some (BR t l F)/\m'.F.length<=m.F.length+1/\
 AJ Tryz.prog TB 110 1 (Kk t m) 5 [.o (.ptr 0 14 0 0),eI .i64 (n:Int),eI .i64 l] (λx σ nx=>x=eI .i64 (j:Int)/\σ=Kk t m'/\nx=5):=by
 obtain⟨r,hr,hrl,Q⟩:=e.nx n F v;have hn:=(am.1 v).1;have h1:=e.l1;obtain⟨x,hx,z⟩:=Q l.toNat (by omega)
 have el:((l.toNat:Nat):Int)=l:=by omega
 rw [el] at z;have s:=(e.rc F (ce v)).ok ht
 have hr':(m.nx.map Lq)[0+((n:Nat):Int).toNat]? = some (Lq r):=by rw [ms,f6];simp [hr]
 have g:(Lq r)[0+l.toNat*1]? = some (.d (iD x)):=by rw [ms,qS];exact Wk hx
 by_cases N:x < 0
 ·have hG:=Nn ht J s
  have Z:Reach t (BR t l F):=.next J.1 J.2 (e.rc F (ce v));obtain⟨a,k,q,K⟩:=Zk (TB:=TB) ht e H hG
  have c:Ds t ok a/\Mt m a/\a.F[k]? = some (BR t l F)/\a.F.length<=m.F.length+1:=by
   rcases q with ⟨rfl,h2⟩|⟨rfl,rfl,h2⟩
   ·exact⟨e,λ_ _ h=>h,h2,qR _⟩
   ·exact⟨Vz e Z R h2,dj,by simp [HH],by simp [HH]⟩
  obtain⟨c,I,hk,X⟩:=c;have L:=I n F v;obtain⟨f,p,hrl1,_⟩:=c.nx n F L;have T:=(am.1 p).1;have S:=fi (l:=l.toNat) c L p (by omega) (k:=k) (by rw [el];exact hk);refine⟨_,k,S,I,hk,X,?_⟩;have V:=VV (TB:=TB) ht m J s;have Y:=RY (TB:=TB) ht m (KH ht J s)
  have hs':(m.F.map Ls)[0+((n:Nat):Int).toNat]? = some (Ls F):=by rw [ms,f6];simp [v]
  refine AJ.AX (AJ.QP (m:=1) (co rfl) Tryz.func110 rfl (by kernel_rfl) (co rfl) ?_);intro Γ b;(repeat first|(refine sA rfl ?_ ?_;first|exact tI|omega) |refine s2 rfl λ_ _hb=>?_|(refine Af rfl ?_;refine gA rfl ?_;first| refine gQ (NC rfl rfl (by assumption) g) rfl ?_) |refine aU rfl ?_ |refine Aa ?_)
  ((refine aC rfl ?_ ?_<;>rintro⟨⟩);all_goals try(exfalso;(simp only[oZ] at *;omega)))
  (repeat first|(refine sA rfl ?_ ?_;first|exact tI|omega) |refine t4 rfl ‹_› rfl ?_ |refine aU rfl ?_);(refine pW rfl ?_ rfl (by rfl);refine Ag [0,1,2,3,4] rfl rfl (V) ⟨rfl,by decide,by decide⟩ rfl (by simp[cX,zC,b,AB]) ?_;rintro x0 w y ⟨rfl,rfl,rfl⟩ _);(refine pW rfl ?_ rfl (by rfl);refine Ag [0,1,2,3,4] rfl rfl (Y) ⟨rfl,by decide,by decide⟩ rfl (by simp[cX,zC,b,AB]) ?_;rintro x0 w y ⟨rfl,rfl,rfl⟩ _);(refine pW rfl ?_ rfl (by rfl);refine BJ [0,1,2,3,4] rfl rfl 1 (K) (by decide) ⟨rfl,by decide,by decide⟩ rfl (by simp[cX,zC,b,AB]) ?_;rintro x0 w y ⟨rfl,rfl,rfl⟩ _);(repeat first|refine tA rfl ?_);refine Aa ?_;refine Au.AL [0,1,2,7] [] rfl rfl [] [(0,.cells 131 14 [NR t (.arr 1 12 0 a.F.length) (.mp 2) (.arr 3 6 0 a.nx.length) (.arr 4 1 0 a.un.length)]),(1,.cells 189 12 (a.F.map Ls)),(2,.mp (mapA .u16 (KG a.F))),(3,.cells 109 6 (a.nx.map Lq)),(4,.cells 4 1 (a.un.map AP))] [0,5,6,7,8] (rl b rfl) (by (simp[cX,zC,b,AB])) ?_;(try dsimp only[cA,cB])
  have G:(a.nx.map Lq)[0+((n:Nat):Int).toNat]? = some (Lq f):=by rw [ms,f6];simp [p]
  have P:=ef (r:=f) (l:=l.toNat) (x:=(k:Int)) (by omega)
  have B:(f.set l.toNat (k:Int))[l.toNat]? = some (k:Int):=by rw [nT (by omega)]
  generalize f.set l.toNat (k:Int)=u at *
  have A:(Lq f).take l.toNat++C.d (iD k)::(Lq f).drop (l.toNat+1)=Lq u:=by rw [<-P];simp [Ae]
  (repeat first|(refine sA rfl ?_ ?_;first|exact tI|omega) |refine aU rfl ?_);(refine Af rfl ?_;refine EO ?_ rfl (by rfl);refine Eb (r:=Lq f) rfl rfl rfl rfl G rfl (by show 0+l.toNat*1+1<=6;omega) ?_);refine Aa ?_;refine Au.AL [0,1,2] [] rfl rfl [] [(0,.cells 131 14 [NR t (.arr 1 12 0 a.F.length) (.mp 2) (.arr 3 6 0 a.nx.length) (.arr 4 1 0 a.un.length)]),(1,.cells 189 12 (a.F.map Ls)),(2,.mp (mapA .u16 (KG a.F))),(3,.cells 109 6 ((a.nx.set n u).map Lq)),(4,.cells 4 1 (a.un.map AP))] [0,1,2,3,4] (rl b rfl) (by (simp[cX,zC,b,AB,A])) ?_;(try dsimp only[cA,cB])
  have hr2:((a.nx.set n u).map Lq)[0+((n:Nat):Int).toNat]? = some (Lq u):=by rw [ms,f6];simp [T]
  have M:(Lq u)[0+l.toNat*1]? = some (.d (iD k)):=by rw [ms,qS];exact Wk B
  (repeat first|(refine sA rfl ?_ ?_;first|exact tI|omega)|(refine Af rfl ?_;refine gA rfl ?_;first| refine gQ (NC rfl rfl (by assumption) M) rfl ?_) |refine aU rfl ?_ |refine Aa ?_);refine aR ⟨_,rfl,[0,1,2,3,4],eI .i64 (k:Int),Kk t (YJ a n u),⟨by intro i hi;match i with|0=>rfl,by decide⟩,rfl,by (simp[cX,zC,b,AB,YJ]),rfl,rfl,rfl⟩
 ·obtain⟨j,rfl,hj⟩:=z.resolve_left N
  refine⟨m,j,e,λ_ _ h=>h,hj,qR _,?_⟩;refine AJ.AX (AJ.QP (m:=1) (co rfl) Tryz.func110 rfl (by kernel_rfl) (co rfl) ?_);intro Γ b;(repeat first|(refine sA rfl ?_ ?_;first|exact tI|omega) |refine s2 rfl λ_ _hb=>?_|(refine Af rfl ?_;refine gA rfl ?_;first| refine gQ (NC rfl rfl (by assumption) g) rfl ?_) |refine aU rfl ?_ |refine Aa ?_)
  ((refine aC rfl ?_ ?_<;>rintro⟨⟩);all_goals try(exfalso;(simp only[oZ] at *;omega)))
  refine aK ?_;(repeat first|(refine sA rfl ?_ ?_;first|exact tI|omega)|(refine Af rfl ?_;refine gA rfl ?_;first| refine gQ (NC rfl rfl (by assumption) g) rfl ?_) |refine aU rfl ?_ |refine Aa ?_);refine aR ⟨_,rfl,[0,1,2,3,4],eI .i64 (j:Int),Kk t m,⟨by intro i hi;match i with|0=>rfl,by decide⟩,rfl,by (simp[cX,zC,b,AB]),rfl,rfl,rfl⟩
theorem Zl[Fa TB]{t:BE}{ok:W->Prop}(ht:AZ t=true)(a:fX t ok){m:Cr}(c:Ds t ok m){n:Nat}{F:PS}(e:m.F[n]? = some F){l:Int}(d:0<=l/\l < 6)(b:iS t ok (BR t l F)):∃(m':Cr) (j:Nat),Ds t ok m'/\Mt m m'/\m'.F[j]? = some (BR t l F)/\
 AJ Tryz.prog TB 110 1 (Kk t m) 5 [.o (.ptr 0 14 0 0),eI .i64 (n:Int),eI .i64 l] (λx σ nx=>x=eI .i64 (j:Int)/\σ=Kk t m'/\nx=5):=by
 obtain⟨m',j,i,h,g,_,f⟩:=OW (TB:=TB) ht c e d (a m.F c.nd c.rk) b;exact⟨m',j,i,h,g,f⟩
end Go.Am
namespace Go.Am
set_option linter.unusedVariables false
def Hv(f:Int->Int->Int)(ls:List Int)(nd:List Int)(n:Nat)(q:Int)(ds:List Int)(x:Int):Prop:=nd[0]? = some x\/(∃j p,j < n/\nd[j]? = some p/\∃m∈ls,f p m=x)\/∃m∈ds,f q m=x
def Mu(f:Int->Int->Int)(ls:List Int)(nd:List Int)(n:Nat)(q:Int)(ds:List Int):Prop:=∀a l b,ds=a++l::b->f q l∈nd/\∀u x,nd[u]? = some x->u < nd.idxOf (f q l)->Hv f ls nd n q a x
theorem MT{U:Type}{l:List U}{y x:U}{i:Nat}(h:l[i]? = some x):(l++[y])[i]? = some x:=by
 rw [d8 (am.1 h).1];exact h
theorem Hv.app{f:Int->Int->Int}{ls nd:List Int}{n:Nat}{q:Int}{ds:List Int}{x y:Int}(h:Hv f ls nd n q ds x):Hv f ls (nd++[y]) n q ds x:=by
 rcases h with h|⟨j,p,c,b,a⟩|h
 ·exact .inl (MT h)
 ·exact .inr (.inl ⟨j,p,c,MT b,a⟩)
 ·exact .inr (.inr h)
theorem Hv.more{f:Int->Int->Int}{ls nd:List Int}{n:Nat}{q:Int}{ds ds':List Int}{x:Int}(h:Hv f ls nd n q ds x)(a:∀m∈ds,m∈ds'):Hv f ls nd n q ds' x:=by
 rcases h with h|h|⟨m,c,b⟩
 ·exact .inl h
 ·exact .inr (.inl h)
 ·exact .inr (.inr ⟨m,a m c,b⟩)
theorem Mu.app{f:Int->Int->Int}{ls nd:List Int}{n:Nat}{q:Int}{ds:List Int}{y:Int}(h:Mu f ls nd n q ds):Mu f ls (nd++[y]) n q ds:=λj l i e=>by
 obtain⟨b,g⟩:=h j l i e;refine⟨m9 _ b,λu x c a=>?_⟩;rw [nL,if_pos b] at a;have d:u < nd.length:=mW a (qE (List.idxOf_lt_length_of_mem b));rw [d8 d] at c;exact(g u x c a).app
theorem Nf{ds c b:List Int}{l m:Int}(h:ds++[m]=c++l::b):(c=ds/\l=m/\b=[])\/∃a,ds=c++l::a:=by
 rcases List.eq_nil_or_concat b with rfl|⟨a,z,rfl⟩
 ·obtain⟨e,d⟩:=qb h rfl
  simp at d;exact .inl ⟨e.symm,d.symm,rfl⟩
 ·refine .inr ⟨a,?_⟩
  rw [List.concat_eq_append,<-n9,<-qC] at h;exact(qb h rfl).1
theorem Ns{lim:Nat}{f:Int->Int->Int}{ls:List Int}{n:Nat}{q:Int}:∀(rs ds:List Int) {nd row nd' row':List Int},ls=ds++rs->nd≠[]->(∀x∈nd,Hv f ls nd n q ds x)->Mu f ls nd n q ds->CG lim f q nd row rs=some (nd',row')->
 (∀x∈nd',Hv f ls nd' n q ls x)/\Mu f ls nd' n q ls/\(∀(j:Nat) p,nd[j]? = some p->nd'[j]? = some p)/\(∀m e,Mu f ls nd m e ls->Mu f ls nd' m e ls)
 | [],ds,nd,row,nd',row',e,B,o,t,g=>by
  simp only [CG,Option.some.injEq,Prod.mk.injEq] at g;obtain⟨rfl,rfl⟩:=g;rw [nG] at e;subst e;exact⟨o,t,λ_ _ h=>h,λ_ _ h=>h⟩
 | l :: rs, ds,nd,row,nd',row',e,B,o,t,g=>by
  simp only [CG] at g;split at g
  ·rename_i k
   refine Ns rs (ds++[l]) (by rw [e];simp) B (λx i=>(o x i).more λm v=>m9 _ v) (λA m I y=>?_) g
   rcases Nf y with ⟨rfl,rfl,rfl⟩|⟨z,rfl⟩
   ·exact⟨k,λu x s _=>o x (ce s)⟩
   ·exact t A m z rfl
  ·rename_i k
   split at g
   ·cases g
   ·have G:∀x∈nd++[f q l],Hv f ls (nd++[f q l]) n q (ds++[l]) x:=λx i=>by
     rcases f9.1 i with i|i
     ·exact((o x i).app).more λm v=>m9 _ v
     ·simp at i;subst i
      exact .inr (.inr ⟨l,by simp,rfl⟩)
    have F:Mu f ls (nd++[f q l]) n q (ds++[l]):=λA m I y=>by
     rcases Nf y with ⟨rfl,rfl,rfl⟩|⟨z,rfl⟩
     ·refine⟨by simp,λu x s r=>?_⟩
      have w:(nd++[f q m]).idxOf (f q m)=nd.length:=by simp [nL,k]
      rw [w] at r;rw [d8 r] at s;exact(o x (ce s)).app
     ·exact t.app A m z rfl
    obtain⟨a,b,c,d⟩:=Ns (ls:=ls) rs (ds++[l]) (by rw [e];simp) (by simp) G F g;exact⟨a,b,λj p H=>c j p (MT H),λm e h=>d m e h.app⟩
theorem RR{lim:Nat}{f:Int->Int->Int}{ls:List Int}:∀(k:Nat) {nd:List Int} {rows:List (List Int)} {p:List Int×List (List Int)},nd≠[]->(∀x∈nd,Hv f ls nd rows.length 0 [] x)->(∀i q,i < rows.length->nd[i]? = some q->Mu f ls nd i q ls)->rows.length<=nd.length->C4 lim f ls k nd rows=some p->∀i q,i < p.2.length->p.1[i]? = some q->Mu f ls p.1 i q ls
 | 0,nd,rows,p,B,A,t,I,n=>by
  simp only [C4,Option.some.injEq] at n;subst n;exact t
 | k + 1, nd,rows,p,B,A,t,I,n=>by
  simp only [C4] at n;split at n
  ·simp only [Option.some.injEq] at n
   subst n;exact t
  ·rename_i q G
   split at n
   ·cases n
   ·rename_i F hp
    obtain⟨nd',row'⟩:=F
    have w:∀x∈nd,Hv f ls nd rows.length q [] x:=λx u=>by
     rcases A x u with h|h|⟨m,h,_⟩
     ·exact .inl h
     ·exact .inr (.inl h)
     ·cases h
    obtain⟨a,b,c,d⟩:=Ns ls [] rfl B w (λK l L e=>by cases K<;>cases e) hp;have g:=c _ _ G;have H:=(am.1 g).1;refine RR k (nd:=nd') (λe=>by rw [e] at g;cases g) (λx u=>?_) (λi r hi o=>?_) (by simp;omega) n
    ·rcases a x u with h|⟨j,p,s,v,J⟩|⟨m,s,v⟩
     ·exact .inl h
     ·exact .inr (.inl ⟨j,p,by simp;omega,v,J⟩)
     ·exact .inr (.inl ⟨rows.length,q,by simp,g,m,s,v⟩)
    ·simp at hi
     rcases nh i rows.length with s|s
     ·obtain⟨z,y⟩:∃z,nd[i]? = some z:=⟨_,d5 (by omega)⟩
      have:=c _ _ y
      rw [o] at this;injection this with this;subst this
      exact d i _ (t i _ s y)
     ·obtain rfl:i=rows.length:=by omega
      rw [g] at o;injection o with o;subst o
      exact b
theorem bg{lim:Nat}{f:Int->Int->Int}{ls:List Int}{s:Int}{nd:List Int}{rows:List (List Int)}(h:FV lim f ls s=some (nd,rows)):∀i q,i < rows.length->nd[i]? = some q->Mu f ls nd i q ls:=
 RR lim (by simp) (λx a=>by simp at a;subst a;exact .inl rfl) (λi q hi=>by cases hi) (by simp) h
end Go.Am
