/-
  Is a word safe: walked; the answers of a task's oracle.
-/
import Derived.Test.YtgpbfllcjdfelaaGreatDoorPart29
import Derived.Test.YtgpbfllcjdfelaaGreatDoorPart23
import Derived.Test.YtgpbfllcjdfelaaGreatDoorPart30
set_option linter.all false
namespace Go.Am
open Go Go.Proofs
set_option maxHeartbeats 1000000
set_option maxRecDepth 4000
attribute [local irreducible] AO BS Lex A4 Au Spec
variable {TB:Bi}
def Ji(t:BE)(ok:W->Prop)(m:Cr):Prop:=Ds t ok m/\m.F[0]? = some (A0 t)
theorem WO[Fa TB]{t:BE}{ok:W->Prop}(ht:AZ t=true)(l:fX t ok){m0:Cr}(k:Ji t ok m0){w:W}(u:ok w)(hw:∀c∈w,0<=(c.toNat:Int) - 97/\(c.toNat:Int) - 97 < 6)(L:w.length<=1048576) :
 AJ Tryz.prog TB 145 1 (Kk t m0) 5 [.o (.ptr 0 14 0 0),eT w] (λx σ nx=>x=eB (LS t w)/\nx=5/\∃m,Ji t ok m/\σ=Kk t m):=by
 have Q:w.drop 0=w:=rfl;refine AJ.AX (AJ.QP (m:=1) (co rfl) Tryz.func145 rfl (by kernel_rfl) (co rfl) ?_);intro Γ a;(repeat first|refine tA rfl ?_ |refine aU rfl ?_ |refine Aa ?_);refine aB ?_;refine aL (U:={x:Nat×Nat×Cr // x.1<=w.length/\Ji t ok x.2.2/\∃F,x.2.2.F[x.2.1]? = some F/\Ia t F (w.drop x.1)=LS t w/\F=KS t (A0 t) (w.take x.1)}) [0,1] [] rfl rfl (λs=>[(5,eI .i64 s.1.2.1),(6,eI .i64 s.1.1)]) (λs=>Kk t s.1.2.2) 5 (λs=>w.length - s.1.1) (⟨⟨0,0,m0⟩,by simp,k,A0 t,k.2,rfl,rfl⟩) a rfl (by (simp[cX,zC,a,AB])) ?_;rintro⟨⟨i,n,m⟩,hi,h,F,r,e,g⟩;(try dsimp only[cA,cB]);have hi:i<=w.length:=hi;have h:Ji t ok m:=h;have g:F=KS t (A0 t) (w.take i):=g;have r:m.F[n]? = some F:=r;have e:Ia t F (w.drop i)=LS t w:=e;have H:=h.1.un n F r;have M:=(am.1 H).1
 have N:(m.un.map AP)[0+((n:Nat):Int).toNat]? = some (AP (Eo t F)):=by rw [ms,f6];simp [H]
 by_cases y:i < w.length
 ·obtain⟨c,q⟩:=get_some y
  have B:w[((i:Nat):Int).toNat]? = some c:=by simpa using q
  have p:=hw c (ce q);have A:=EK (TB:=TB) w i c B p;have R:=BF q
  have f:BR t ((c.toNat:Int) - 97) F=KS t (A0 t) (w.take (i+1)):=by
   rw [gc,q,NP,<-g];rfl
  obtain⟨K,j,v,z,P,G⟩:=Zl (TB:=TB) ht l h.1 r p (.inr ⟨w.take (i+1),w.drop (i+1),by rw [nJ];exact u,f⟩);rw [R,Ia] at e;generalize Eo t F=b at *
  (repeat' first|(refine sA rfl ?_ ?_;first|exact tI|omega) |refine t4 rfl ‹_› rfl ?_ |refine s2 rfl λ_ d=>?_ |refine s3 rfl ?_ ?_<;>rintro rfl |refine aU rfl ?_ |refine Aa ?_|(refine aC rfl ?_ ?_<;>rintro⟨⟩));all_goals try contradiction
  all_goals first| (exfalso;(simp only[oZ] at *;omega);done)|skip
  ·have hb:b=false:=by simpa using d
   subst hb;refine aK ?_;refine aS (aB ?_);(repeat first|refine tA rfl ?_ |refine sP rfl (A) rfl ?_ |refine aU rfl ?_);(refine pW rfl ?_ rfl (by rfl);refine BJ [0,1,2,3,4] rfl rfl 1 (G) (by decide) ⟨rfl,by decide,by decide⟩ rfl (by simp[cX,zC,a,AB]) ?_;rintro S I J ⟨rfl,rfl,rfl⟩ _);(repeat first|refine tA rfl ?_);refine Aa ?_;(repeat first|(refine sA rfl ?_ ?_;first|exact tI|omega) |refine aU rfl ?_ |refine Aa ?_);refine⟨⟨⟨i+1,j,K⟩,by omega,⟨v,z 0 _ h.2⟩,_,P,by simpa using e,f⟩,by dsimp only;(omega),[0,5,6,7,8],?_⟩;simp[cX,zC,a,AB]
  ·have hb:b=true:=by simpa using d
   subst hb
   have e:LS t w=false:=by simpa using e.symm
   rw [e];refine aE ?_;(repeat first|(refine sA rfl ?_ ?_;first|exact tI|omega) |refine t4 rfl ‹_› rfl ?_ |refine s2 rfl λ_ d=>?_ |refine aU rfl ?_ |refine Aa ?_);refine aR ⟨_,rfl,[0,1,2,3,4],eB false,Kk t m,⟨by intro i hi;match i with|0=>rfl,by decide⟩,by subst_vars;rfl,by (simp[cX,zC,a,AB]),rfl,rfl,m,h,rfl⟩
 ·obtain rfl:i=w.length:=by omega
  rw [oR,Ia] at e;rw [<-e]
  (repeat' first|(refine sA rfl ?_ ?_;first|exact tI|omega) |refine t4 rfl ‹_› rfl ?_ |refine s2 rfl λ_ d=>?_ |refine s3 rfl ?_ ?_<;>rintro rfl |refine aU rfl ?_ |refine Aa ?_|(refine aC rfl ?_ ?_<;>rintro⟨⟩));all_goals try contradiction
  all_goals first| (exfalso;(simp only[oZ] at *;omega);done)|skip
  refine aE ?_;(repeat first|(refine sA rfl ?_ ?_;first|exact tI|omega) |refine t4 rfl ‹_› rfl ?_ |refine s2 rfl λ_ d=>?_ |refine aU rfl ?_ |refine Aa ?_);refine aR ⟨_,rfl,[0,1,2,3,4],eB (!Eo t F),Kk t m,⟨by intro i hi;match i with|0=>rfl,by decide⟩,by subst_vars;rfl,by (simp[cX,zC,a,AB]),rfl,rfl,m,h,rfl⟩
def PV(t:BE)(ok:W->Prop):Hid:=⟨{m:Cr // Ji t ok m},λs=>Kk t s.1,5⟩
theorem cM{tabs:List (Nat×Obj)}[Fa ⟨tabs,none⟩]{t:BE}{ok:W->Prop}(ht:AZ t=true)(a:fX t ok){r:Nat}{w:W}(d:ok w)(hw:∀c∈w,0<=(c.toNat:Int) - 97/\(c.toNat:Int) - 97 < 6)(b:w.length<=1048576) :
 Pure Tryz.prog ⟨tabs,some (PV t ok,r)⟩ 145 [.o (OJ r),eT w] (eB (LS t w)):=
 bC (H:=PV t ok) (k:=14) (es:=[eT w]) ⟨_,Tryz.func145,by kernel_rfl,rfl⟩ (by intro e f;simp at f;subst f;rfl) rfl λs=>
  ⟨(WO (TB:=⟨tabs,none⟩) ht a s.2 d hw b).1,λV vs S g ha=>((WO (TB:=⟨tabs,none⟩) ht a s.2 d hw b).2 V vs S g ha).mono λe w' ⟨V',v,x,σ',u,q,p,n,l,j,m,i,h⟩=>⟨V',v,x,σ',u,q,p,n,l,j,⟨m,i⟩,h⟩⟩
end Go.Am
namespace Go.Am
set_option linter.unusedVariables false
def Xg(x:AK):Prop:=∀i:Nat,i < x.nx.length->∀a l b,Ac x.al=a++l::b->∀u:Nat,(u:Int) < AW x i l->u=0\/(∃j:Nat,j < i/\∃m∈Ac x.al,AW x j m=u)\/∃m∈a,AW x i m=u
theorem Ph{a:AK}(h:Cg a){q c:Nat}(n:q < a.nx.length)(p:(c:Int) < DZ a q):∃r:Nat,r < q/\DZ a r=c:=by
 obtain⟨x,m,e,u,s⟩:=Fx h n;have j:=Iv m
 have l:c < (uq ((BN a).take q)).length:=by
  by_cases k:x∈uq ((BN a).take q)
  ·have:=j.1 k;omega
  ·have:=j.2 k;omega
 obtain⟨y,i⟩:=get_some l;obtain⟨t,ht⟩:=Vn (BN a) q
 have f:(uq (BN a))[c]? = some y:=by rw [<-ht,d8 l];exact i
 obtain⟨r,d⟩:=n7.1 (Cp.1 (ce i));rw [nk] at d;split at d
 ·rename_i g
  obtain⟨z,b,o,_⟩:=Fx h (q:=r) (by omega)
  rw [d] at b;injection b with b;subst b
  exact⟨r,g,by rw [o];exact Ma f⟩
 ·cases d
theorem XT{a:AK}(h:Cg a){i:Nat}(hi:i < (BW a).nx.length):∃r:Nat,r < a.nx.length/\DZ a r=i/\∀s:Nat,s < r->DZ a s≠i:=by
 obtain⟨f,b,n⟩:=Mi h hi
 have key:∀(k:Nat) (r:Nat),r<=k->r < a.nx.length->DZ a r=i->∃r:Nat,r < a.nx.length/\DZ a r=i/\∀s:Nat,s < r->DZ a s≠i:=λk=>by
  induction k with
  | zero=>exact λr m c d=>⟨r,c,d,λs o=>by omega⟩
  | succ k l=>
   intro r m c d;by_cases g:∃s:Nat,s < r/\DZ a s=i
   ·obtain⟨s,j,e⟩:=g
    exact l s (by omega) (by omega) e
   ·exact⟨r,c,d,λs j e=>g ⟨s,j,e⟩⟩
 exact key f f (io _) b n
theorem eU{a:AK}(h:Cg a)(G:Xg a):Xg (BW a):=by
 intro i hi F l B n u v;have n:Ac a.al=F++l::B:=n
 have k:l∈Ac a.al:=by rw [n];simp
 have p:=Ai k;obtain⟨r,o,z,y⟩:=XT h hi
 have g:∀(s:Nat) (c:Nat),s < a.nx.length->DZ a s=c->∀m∈Ac a.al,AW (BW a) c m=DZ a (AW a s m):=λs c w A m f=>by
  have:=UP h w f;rw [A,f6] at this;exact this
 rw [g r i o z l k] at v;have hb:=BI h.b o p.1 (by omega);obtain⟨s,w,d⟩:=Ph h (q:=(AW a r l).toNat) (by omega) (c:=u) (by rw [o7 hb.1];exact v)
 rcases G r o F l B n s (by omega) with rfl|⟨j,I,m,f,t⟩|⟨m,f,t⟩
 ·left
  have:=Jt h;have e:((0:Nat):Int)=0:=rfl;rw [e] at d;omega
 ·right;left
  obtain⟨x,_,e,M,L⟩:=Fx h (q:=j) (by omega);refine⟨(DZ a j).toNat,?_,m,f,?_⟩
  ·have H:=y j I
   refine Classical.byContradiction λA=>?_;obtain⟨s2,K,J⟩:=Ph h (q:=j) (by omega) (c:=i) (by omega);exact y s2 (by omega) J
  ·rw [g j _ (by omega) (by omega) m f,t];exact d
 ·right;right
  refine⟨m,f,?_⟩;rw [g r i o z m (by rw [n];simp [f]),t];exact d
theorem W0{a:AK}(h:Cg a):Xg (GS a):=by
 obtain⟨nd,rows,J,n,P,N,e⟩:=OP h.b h.n1;have G:=n.len;have g:=bg J;intro i hi L l K s u v;rw [Oe] at s;rw [e] at hi v |-;have hi:i < rows.length:=hi
 have y:l∈Ac a.al:=by rw [s];simp
 obtain⟨q,w⟩:=get_some (l:=nd) (k:=i) (by omega);obtain⟨I,H⟩:=g i q hi w L l K s;rw [QN n w y] at v;have M:=mZ.2 I
 have t:u < nd.idxOf (fA a q l):=by
  have:((u:Nat):Int) < ((nd.idxOf (fA a q l):Nat):Int):=v;omega
 obtain⟨x,r⟩:=get_some (l:=nd) (k:=u) (by omega)
 have c:∀ {k:Nat} {z:Int},nd[k]? = some z->nd.idxOf z=k:=λ{k z} F=>by
  have d:=Qq (ce F);exact(ox (am.1 d).1 n.nodup).1 (d.trans F.symm)
 rcases H u x r t with d|⟨j,p,d,A,m,o,B⟩|⟨m,d,A⟩
 ·left;rw [<-c r,c d]
 ·right;left
  refine⟨j,d,m,o,?_⟩;rw [QN n A o]
  have:nd.idxOf (fA a p m)=u:=by rw [B];exact c r
  have f:nd.idxOf (AW a p.toNat m)=u:=this;rw [f]
 ·right;right
  refine⟨m,d,?_⟩;rw [QN n w (by rw [s];simp [d])]
  have:nd.idxOf (fA a q m)=u:=by rw [A];exact c r
  have f:nd.idxOf (AW a q.toNat m)=u:=this;rw [f]
end Go.Am
namespace Go.Am
open Go Go.Proofs
set_option maxHeartbeats 1000000
set_option maxRecDepth 4000
attribute [local irreducible] AO BS Lex A4 Au Spec
variable {TB:Bi}
section
variable {P:Program}{Γ:Ctx}{d:Option Tmp}{ty:TypeId}{pos:String}{af:Array Edge}{g:Option (Nat×Bool)}{f:Env}{σ:Ab}{nx:Nat}
variable {K:E->Ab->Nat->Prop}
theorem X9{t:TypeId}{z:List Value}{fl:List (Nat×Nat)}{parts:Array (Nat×Operand)}{es:List E}{qs:List (Nat×List C)}[T:BU P t z][hf:EC P t fl](p k e q k' e' s k'' e'':Nat)(hp:z[p]? = some (.slice none 0 0))(n:z[q]? = some (.slice none 0 0))(l:z[s]? = some (.slice none 0 0))(Z:p≠q/\p≠s/\q≠s)(N:Il f (parts.toList.map (·.2))=some es)(Y:EN fl parts.toList es=some qs)
 (G:z.all OQ=true) (H:(qs.all λx=>Nat.ble (x.1+x.2.length) z.length)=true) (hK:K (.a (Bb qs ((((z.map zC).set p (.arr nx k 0 0)).set q (.arr (nx+1) k' 0 0)).set s (.arr (nx+2) k'' 0 0)))) ((nx+2,.cells e'' k'' [])::(nx+1,.cells e' k' [])::(nx,.cells e k [])::σ) (nx+3)):BS P TB Γ ⟨d,.build t parts,ty,pos,af,g⟩ f σ nx K:=
 Di λV ρ h1 h2 h3=>by
  subst h3;obtain⟨i,zv,hi,A,m⟩:=Hs T.out;obtain⟨L,S⟩:=h2.alloc (c:=0) (nl:=True) (w:=V.w) (ob:=.cells e k []) rfl rfl rfl rfl (io _) (λ_ _=>rfl) (.inl ⟨by simp [Aw],rfl⟩);obtain⟨J,R⟩:=L.alloc (c:=0) (nl:=True) (w:=V.w) (ob:=.cells e' k' []) rfl rfl rfl rfl (io _) (λ_ _=>rfl) (.inl ⟨by simp [Aw],rfl⟩);obtain⟨I,Q⟩:=J.alloc (c:=0) (nl:=True) (w:=V.w) (ob:=.cells e'' k'' []) rfl rfl rfl rfl (io _) (λ_ _=>rfl) (.inl ⟨by simp [Aw],rfl⟩);have y:=(S.trans R).trans Q;have M:=C3 (V:=Aw (Aw (Aw V V.w.heap.size 0 True V.w) V.w.heap.size 0 True V.w) V.w.heap.size 0 True V.w) (ρ:=ρ) parts.toList es qs (λx F e he=>(h1.get (by simp only [Op.operands];simpa using F) he).ext y) N Y
  have B : C0 (Aw (Aw (Aw V V.w.heap.size 0 True V.w) V.w.heap.size 0 True V.w) V.w.heap.size 0 True V.w) ((((z.map zC).set p (.arr V.nx k 0 0)).set q (.arr (V.nx+1) k' 0 0)).set s (.arr (V.nx+2) k'' 0 0)) zv.cells:=by
   refine⟨by rw [ny,ny,ny,f7,<-m];simp,λj c v h X=>?_⟩
   have b:z[j]? = some v:=by rw [<-m,nZ];exact X
   by_cases o:s=j
   ·subst o
    rw [l] at b
    injection b with b
    subst b;rw [nT (by rw [ny,ny,f7];exact(am.1 l).1)] at h
    injection h with h
    subst h;exact AA.nil (by simp [Aw]) (by simp [Aw])
   ·rw [nU o] at h
    by_cases r:q=j
    ·subst r
     rw [n] at b
     injection b with b
     subst b;rw [nT (by rw [ny,f7];exact(am.1 n).1)] at h
     injection h with h
     subst h;exact AA.nil (by simp [Aw]) (by simp [Aw])
    ·rw [nU r] at h
     by_cases u:p=j
     ·subst u
      rw [hp] at b
      injection b with b
      subst b;rw [nT (by rw [f7];exact(am.1 hp).1)] at h
      injection h with h
      subst h;exact AA.nil (by simp [Aw];omega) (by simp [Aw])
     ·rw [nU u,d9,b] at h
      injection h with h
      subst h;exact Jg (gt.1 G v (ce b))
  obtain⟨cells,h4,h5⟩:=Fz _ _ _ _ M B (λx F=>by rw [ny,ny,ny,f7];exact HM _ _ H x F);have hb:=run_build (P:=P) (ρ:=ρ) (parts:=parts) (V:=V) hi A hf.out h4;refine⟨.agg cells,_,_,_,?_,y,I,(show A2 _ (.a _) _ from ⟨cells,rfl,h5⟩),hK⟩
  show ((do let v <-Instr.build t (parts.map λ(i,x)=>(i,ρ x));pure (Go.Next.value v):Sem Go.Next)).run P V.w=_
  simp only [nf,hb,mY];rfl
end
theorem HS{a b:Int}(ha:Bv a=true)(hb:Bv b=true):Ac (Gd .i64 a b)=(Ac a).filter λl=>!Ep b l.toNat:=by
 have key:((List.range 64).all λx=>(List.range 64).all λy=>decide (Ac (Gd .i64 (x:Nat) (y:Nat))=(Ac (x:Nat)).filter λl=>!Ep (y:Nat) l.toNat))=true:=by kernel_rfl
 unfold Bv at ha hb;simp only [decide_eq_true_eq] at ha hb;have d:=gt.1 key a.toNat (jp.2 (by omega));have c:=gt.1 d b.toNat (jp.2 (by omega));rw [o7 ha.1,o7 hb.1] at c;exact of_decide_eq_true c
abbrev Tv(t:BE):List D:=[iD t.s.al,iD t.s.st,Gm t.s.es,iD t.q.al,CI t.q.nx,Fv t.q.ac,iD t.al]
abbrev FU(t:BE):E:=.a ((Tv t).map .d)
theorem Sg(t:BE)(ok:W->Prop):Ds t ok ⟨[],[],[]⟩:=⟨rfl,rfl,mV,by simp,by simp,by simp,by simp⟩
theorem JI[Fa TB]{t:BE}(ht:AZ t=true)(ok:W->Prop):∃m,Ji t ok m/\AJ Tryz.prog TB 107 0 [] 0 [FU t] (λx σ nx=>x=.o (.ptr 0 14 0 0)/\σ=Kk t m/\nx=5):=by
 have y:BA t.s=true:=by unfold AZ at ht;simp only [d6] at ht;exact ht.1
 have n:Bv t.al=true:=by unfold AZ at ht;simp only [d6] at ht;exact ht.2.2
 have p:=Ck y;have A:=Oj ht;obtain⟨j,k,c,f⟩:=Zk (TB:=TB) ht (Sg t ok) (by simp) (KY ht)
 have d:j=HH t ⟨[],[],[]⟩ (A0 t):=by
  rcases c with ⟨_,w⟩|⟨w,_,_⟩
  ·simp at w
  ·exact w
 have e:=RY (TB:=TB) ht ⟨[],[],[]⟩ A;refine⟨j,⟨by rw [d];exact Vz (Sg t ok) .start (.inl rfl) (by simp),by rw [d];rfl⟩,?_⟩;have u:=UE (TB:=TB) t.s y;have l:=FP (TB:=TB) t.q (CZ ht);have b:=Cu (TB:=TB) (Gd .i64 t.s.al t.al);rw [HS p.1 n] at b;have b:Pure Tryz.prog TB 108 [eI .i64 (Gd .i64 t.s.al t.al)] (AH (CM t)):=b;rw [show TL t Kg=A0 t from rfl] at e;have v:mapA .u16 (KG [])=[]:=rfl;have r:Gf Kg=[1,0,0,0,0,0,0,0,0,0,0,0]:=rfl;refine AJ.AX (AJ.QP (m:=0) (co rfl) Tryz.func107 rfl (by kernel_rfl) (co rfl) ?_);intro Γ a;(repeat first|refine tA rfl ?_ |refine aU rfl ?_ |refine Aa ?_);refine rG (RH [(14,1),(15,1),(16,1)]) (by kernel_rfl) ?_;(repeat first|refine tX rfl ?_ |refine sP rfl (u) rfl ?_|refine sP rfl (l) rfl ?_|refine sP rfl (b) rfl ?_|(refine Af rfl ?_;refine gA rfl ?_;first| refine gS (λ_ _=>bF rfl rfl rfl) ?_));(refine pW rfl ?_ rfl (by rfl);refine GM ?_);(refine pW rfl ?_ rfl (by rfl);refine X9 10 12 189 12 6 109 13 1 4 rfl rfl rfl (by decide) rfl rfl (by rfl) (by rfl) ?_);(refine pW rfl ?_ rfl (by rfl);refine Db rfl rfl ?_);(repeat first|refine tA rfl ?_);refine Aa ?_;refine Au.AL [] [] rfl rfl [(3,.o (.ptr 0 14 0 0))] [(0,.cells 131 14 [NR t (.arr 1 12 0 0) (.mp 2) (.arr 3 6 0 0) (.arr 4 1 0 0)]),(1,.cells 189 12 []),(2,.mp []),(3,.cells 109 6 []),(4,.cells 4 1 [])] [4,1,0,2,3] (rl a rfl) (by (simp[cX,zC,a,AB])) ?_;(try dsimp only[cA,cB]);(repeat first|refine tA rfl ?_|(refine Af rfl ?_;refine gA rfl ?_;first| refine gS (λ_ _=>AF rfl rfl (by rfl) (by rfl)) ?_) |refine aU rfl ?_);(refine pW rfl ?_ rfl (by rfl);refine Ag [0,1,2,3,4] rfl rfl (e) ⟨rfl,by decide,by decide⟩ rfl (by simp[cX,zC,a,AB,r,v]) ?_;rintro z g h ⟨rfl,rfl,rfl⟩ _);(refine pW rfl ?_ rfl (by rfl);refine BJ [0,1,2,3,4] rfl rfl 1 (f) (by decide) ⟨rfl,by decide,by decide⟩ rfl (by simp[cX,zC,a,AB]) ?_;rintro z g h ⟨rfl,rfl,rfl⟩ _);refine Aa ?_;(repeat first|refine tA rfl ?_ |refine aU rfl ?_ |refine Aa ?_);refine aR ⟨_,rfl,[0,5,6,7,8],.o (.ptr 0 14 0 0),Kk t j,⟨by intro i hi;omega,by decide⟩,rfl,by (simp[cX,zC,a,AB]),rfl,rfl,rfl⟩
end Go.Am
namespace Go.Am
set_option linter.unusedVariables false
def PK(k:Nat):List Int:=(List.range k).map λ(i:Nat)=>(i:Int)
theorem Mk{k:Nat}{v:Int}:v∈PK k↔0<=v/\v < k:=by
 unfold PK;rw [em];constructor
 ·rintro⟨i,hi,rfl⟩
  rw [jp] at hi;omega
 ·intro h
  exact⟨v.toNat,jp.2 (by omega),by omega⟩
theorem Mj{k i:Nat}(h:i < k):(PK k)[i]? = some (i:Int):=by simp [PK,h]
theorem Rv(k:Nat):(PK k).length=k:=by simp [PK]
theorem cF(k:Nat):PK k++[(k:Int)]=PK (k+1):=by simp [PK,oJ]
theorem iB(k:Nat):(PK k).Nodup:=by
 unfold PK List.Nodup;rw [nS];exact(qI (n:=k)).imp λh e=>h (by omega)
theorem fg{k i:Nat}(h:i < k):(PK k).idxOf (i:Int)=i:=by
 have a:=Qq (show (i:Int)∈PK k from Mk.2 ⟨by omega,by omega⟩);exact(ox (am.1 a).1 (iB k)).1 (a.trans (Mj h).symm)
theorem QK{x:AK}(q:Cg x)(r:Xg x){lim i:Nat}(hi:i < x.nx.length):∀(rs ds:List Int) {k:Nat} {row nd' row':List Int},Ac x.al=ds++rs->i < k->k<=x.nx.length->(∀j:Nat,j < i->∀m∈Ac x.al,AW x j m < k)->(∀m∈ds,AW x i m < k)->CG lim (fA x) i (PK k) row rs=some (nd',row')->
 ∃k',nd'=PK k'/\k<=k'/\k'<=x.nx.length/\∀m∈Ac x.al,AW x i m < k'
 | [],ds,k,row,nd',row',e,v,t,p,o,n=>by
  simp only [CG,Option.some.injEq,Prod.mk.injEq] at n;obtain⟨rfl,rfl⟩:=n;rw [nG] at e;exact⟨k,rfl,io _,t,by rw [e];exact o⟩
 | l :: rs,ds,k,row,nd',row',e,v,t,p,o,n=>by
  have w:=Ai (show l∈Ac x.al by rw [e];simp);have hb:=BI q.b hi w.1 (by omega);have u:fA x i l=AW x i l:=rfl;simp only [CG] at n;split at n
  ·rename_i g
   have g:=Mk.1 g;rw [u] at g;refine QK q r hi rs (ds++[l]) (by rw [e];simp) v t p (λm f=>?_) n
   rcases f9.1 f with f|f
   ·exact o m f
   ·simp at f;subst f;exact g.2
  ·rename_i g
   split at n
   ·cases n
   ·have y:¬AW x i l < k:=λh=>g (Mk.2 ⟨hb.1,h⟩)
    have hk:AW x i l=k:=by
     refine Classical.byContradiction λA=>?_
     rcases r i hi ds l rs e k (by omega) with h|⟨j,s,m,f,z⟩|⟨m,f,z⟩
     ·omega
     ·have:=p j s m f;omega
     ·have:=o m f;omega
    rw [u,hk,cF] at n
    obtain⟨k',a,b,c,d⟩:=QK q r hi rs (ds++[l]) (by rw [e];simp) (by omega) (by omega) (λj s m f=>by have:=p j s m f;omega) (λm f=>by
     rcases f9.1 f with f|f
     ·have:=o m f;omega
     ·simp at f;subst f;omega) n
    exact⟨k',a,by omega,c,d⟩
theorem VC{x:AK}(n:Cg x)(o:Xg x){lim:Nat}:∀(f:Nat) {k:Nat} {rows:List (List Int)} {p:List Int×List (List Int)},k<=x.nx.length->(∀j:Nat,j < rows.length->∀m∈Ac x.al,AW x j m < k)->C4 lim (fA x) (Ac x.al) f (PK k) rows=some p->∃k',p.1=PK k'/\k'<=x.nx.length
 | 0,k,rows,p,i,l,a=>by
  simp only [C4,Option.some.injEq] at a;subst a;exact⟨k,rfl,i⟩
 | f + 1, k,rows,p,i,l,a=>by
  simp only [C4] at a;split at a
  ·simp only [Option.some.injEq] at a
   subst a;exact⟨k,rfl,i⟩
  ·rename_i q e
   have g:rows.length < k:=by have:=(am.1 e).1;rwa [Rv] at this
   rw [Mj g] at e;injection e with e;subst e
   split at a
   ·cases a
   ·rename_i s hp
    obtain⟨nd',row'⟩:=s;obtain⟨k',rfl,b,c,d⟩:=QK n o (by omega) (Ac x.al) [] rfl g i l (by simp) hp;refine VC n o f c (λj t m r=>?_) a;simp at t
    rcases nh j rows.length with h|h
    ·have:=l j h m r;omega
    ·obtain rfl:j=rows.length:=by omega
     exact d m r
theorem bz{x:AK}(a:Cg x)(r:Xg x)(rc:∀i:Nat,i < x.nx.length->∃w,Av (AU x.al) w/\AN x 0 w=i):GS x=x:=by
 obtain⟨nd,rows,F,c,I,H,e⟩:=OP a.b a.n1;have d:=a.n1;have f:=c.len;obtain⟨k,hk,t⟩:=VC a r x.nx.length (k:=1) (rows:=[]) d (by simp) F;have hk:nd=PK k:=hk
 have h:k=x.nx.length:=by
  obtain⟨w,B,A⟩:=rc (x.nx.length - 1) (by omega);obtain⟨j,G,z⟩:=Ix c (ac:=[]) w B c.st;have y:=ce z;rw [A,hk,Mk] at y;omega
 subst h;rw [e]
 have p:rows.length=x.nx.length:=by rw [f,hk,Rv]
 have q:rows=x.nx:=by
  refine nH λi=>?_
  rcases nh i x.nx.length with hi|hi
  ·rw [FN a.b hi,c.row i i (by rw [hk];exact Mj hi)]
   congr 1;refine nu λl s=>?_;have hb:=Ai s;have v:=BI a.b hi hb.1 (by omega);have o:fA x i l=AW x i l:=rfl;rw [o,hk]
   obtain⟨g,u⟩:∃g:Nat,AW x i l=g:=⟨(AW x i l).toNat,by omega⟩
   rw [u,fg (by omega)]
  ·rw [i8 (by omega),i8 hi]
 have m:nd.map (ED x)=x.ac:=by
  refine nH λi=>?_;have n:=a.ac
  rcases nh i x.nx.length with hi|hi
  ·rw [d9,hk,Mj hi]
   obtain⟨b,hb⟩:=get_some (l:=x.ac) (k:=i) (by omega);rw [hb]
   show some (x.ac.getD ((i:Int).toNat) false)=_
   rw [f6,Bd hb]
  ·rw [i8 (by rw [f7,hk,Rv];omega),i8 (by omega)]
 rw [q,m]
theorem Nk{a:AK}(h:Cg a):BW (GS a)=Df a:=by
 obtain⟨s,p,u,o,n⟩:=lg h.b h.n1
 have ht:Cg (GS a):=⟨s,p,o⟩
 obtain⟨f,v⟩:=bY ht;have hal:(BW (GS a)).al=a.al:=Oe a
 have rc:∀i:Nat,i < (BW (GS a)).nx.length->∃w,Av (AU a.al) w/\AN (BW (GS a)) 0 w=i:=λi hi=>by
  obtain⟨r,c,l⟩:=Mi ht hi;obtain⟨w,e,m⟩:=n r c;refine⟨w,e,?_⟩;have d:=Rs ht w (q:=0) (by omega) (by rw [Oe];exact e);have t:((0:Nat):Int)=0:=rfl;rw [t,Jt ht,m,l] at d;exact d
 have g:=canon h f hal (λw hw=>by rw [bZ ht (by rw [Oe];exact hw),fG h.b h.n1 hw]) rc λi j hi k c=>cd ht hi k c;rw [<-g];exact(bz f (eU ht (W0 h)) (by rw [hal];exact rc)).symm
def My(nd:List Int)(x:Int):List Int:=if x∈nd then nd else nd++[x]
def SM(nd:List Int)(r:List Int):List Int:=r.foldl My nd
def Oq(g:Int->List Int):Nat->List Int->Nat->List Int
 | 0,nd,_=>nd
 | k+1,nd,i=>match nd[i]? with
  | none=>nd
  | some q=>Oq g k (SM nd (g q)) (i+1)
theorem KK{lim:Nat}{f:Int->Int->Int}{q:Int}:∀(ls:List Int) {nd row nd' row':List Int},CG lim f q nd row ls=some (nd',row')->nd'=SM nd (ls.map (f q))
 | [],nd,row,nd',row',h=>by
  simp only [CG,Option.some.injEq,Prod.mk.injEq] at h;exact h.1.symm
 | l :: ls,nd,row,nd',row',h=>by
  simp only [CG] at h
  show nd'=SM (My nd (f q l)) (ls.map (f q))
  unfold My;split at h
  ·rename_i a
   rw [if_pos a];exact KK ls h
  ·rename_i a
   split at h
   ·cases h
   ·rw [if_neg a];exact KK ls h
theorem OX{lim:Nat}{f:Int->Int->Int}{ls:List Int}{g:Int->List Int}{P:Int->Prop}(n:∀q,P q->g q=ls.map (f q))(o:∀q l,P q->l∈ls->P (f q l)):∀(k:Nat) {nd:List Int} {rows:List (List Int)} {p:List Int×List (List Int)},(∀q∈nd,P q)->C4 lim f ls k nd rows=some p->Oq g k nd rows.length=p.1
 | 0,nd,rows,p,_,h=>by
  simp only [C4,Option.some.injEq] at h;subst h;rfl
 | k + 1, nd, rows,p,m,h=>by
  simp only [C4] at h;unfold Oq;split at h
  ·rename_i c
   simp only [Option.some.injEq] at h;subst h;rw [c]
  ·rename_i q c
   split at h
   ·cases h
   ·rename_i t hp
    obtain⟨nd',row'⟩:=t;have e:=KK ls hp;have b:=m q (ce c);rw [c];simp only;rw [n q b,<-e]
    have i : ∀x∈nd',P x:=λx j=>by
     rw [e] at j
     have key:∀(r nd:List Int),(∀y∈nd,P y)->(∀y∈r,P y)->∀y∈SM nd r,P y:=λr=>by
      induction r with
      | nil=>exact λnd d _=>d
      | cons z r u=>
       intro nd d s;refine u (My nd z) (λy a=>?_) (λy a=>s y (by simp [a]));unfold My at a;split at a
       ·exact d y a
       ·rcases f9.1 a with a|a
        ·exact d y a
        ·simp at a;subst a;exact s _ (by simp)
     exact key _ _ m (λy a=>by
      obtain⟨l,v,rfl⟩:=em.1 a
      exact o q l b v) x j
    have:=OX n o k i h
    simpa using this
def Hj(a:AK):List Int:=Oq (λq=>a.nx.getD q.toNat []) a.nx.length [0] 0
theorem Ws{a:AK}(h:Cg a):∃rows,FV a.nx.length (fA a) (Ac a.al) 0=some (Hj a,rows)/\LF (fA a) (Ac a.al) 0 (Hj a) rows/\(Hj a).length<=a.nx.length/\(∀q∈Hj a,0<=q/\q < a.nx.length)/\GS a=⟨a.al,rows,(Hj a).map (ED a)⟩:=by
 obtain⟨nd,rows,d,k,j,i,e⟩:=OP h.b h.n1;have m:=h.n1
 have f:Hj a=nd:=by
  refine OX (P:=λq=>0<=q/\q < ((a.nx.length:Nat):Int)) (λq c=>?_) (λq l c g=>?_) a.nx.length (rows:=[]) (λq c=>?_) d
  ·have:=FN h.b (q:=q.toNat) (by omega)
   show a.nx.getD q.toNat []=_
   rw [Bd this];rfl
  ·have hb:=Ai g
   exact BI h.b (q:=q.toNat) (by omega) hb.1 (by omega)
  ·simp at c;subst c;omega
 rw [f];exact⟨rows,d,k,j,i,e⟩
theorem c8{a:AK}(h:Cg a):GS a=⟨a.al,(Hj a).map λq=>(a.nx.getD q.toNat []).map λx=>(((Hj a).idxOf x:Nat):Int),(Hj a).map (ED a)⟩:=by
 obtain⟨rows,k,d,j,f,e⟩:=Ws h;rw [e];congr 1;refine nH λi=>?_;rw [d9];have g:=d.len
 rcases nh i (Hj a).length with hi|hi
 ·obtain⟨q,c⟩:=get_some hi
  have hb:=f q (ce c);rw [d.row i q c,c,nv,Bd (FN h.b (q:=q.toNat) (by omega)),nV];rfl
 ·rw [i8 (by omega),i8 hi];rfl
end Go.Am
namespace Go.Am
open Go Go.Proofs
set_option maxHeartbeats 1000000
set_option maxRecDepth 4000
attribute [local irreducible] AO BS Lex A4 Au Spec
variable {TB:Bi}
def LO(b:List UInt8)(p m:Int)(P:Sys->Prop)(x:E)(σ:Ab)(nx:Nat):Prop:=∃(p':Int) (s:Sys),(p<=p'/\p'<=p+m)/\P s/\x=Dv s/\σ=[(0,Bo b p')]/\nx=1
def lq(n:Int)(s:Sys):Prop:=s.st=n/\(∀e∈s.es,0<=e.t/\e.t < n)/\s.es.length<=400
theorem HQ(b:List UInt8)(hb:b.length<=2000)(p:Int)(h0:0<=p/\p < 900000000)(al n dD:Int)(Z:0<=n/\n<=8):AJ Tryz.prog TB 284 1 [(0,Bo b p)] 1 [.o (.ptr 0 2 0 0),eI .i64 al,eI .i64 n,eI .i64 dD] (LO b p 400 (lq n)):=by
 have V:(Ac al).length<=6:=AD al 6;refine AJ.AX (AJ.QP (m:=1) (co rfl) Tryz.func284 rfl (by kernel_rfl) (co rfl) ?_);intro Γ a;(repeat first|refine tA rfl ?_ |refine aU rfl ?_ |refine Aa ?_);(refine pW rfl ?_ rfl (by rfl);refine JH 2 3 158 rfl rfl rfl (by rfl) (by rfl) ?_);(repeat first|refine tA rfl ?_ |refine sP rfl (CU al) rfl ?_ |refine aU rfl ?_ |refine Aa ?_);refine aB ?_;refine aL (U:={s:Nat×Int×List Ej // (s.1:Int)<=n/\(p<=s.2.1/\s.2.1<=p+48*s.1)/\(s.2.2.length:Int)<=s.2.1 - p/\∀e∈s.2.2,0<=e.t/\e.t < n}) [0,2,3,8,9,10] [1] rfl rfl (λs=>[(11,eI .i64 s.1.1)]) (λs=>[(0,Bo b s.1.2.1),(2,.cells 158 3 (s.1.2.2.map A7)),(3,.cells 25 3 [[.d (iD al),.d (iD n),.arr 2 3 0 s.1.2.2.length]])]) 4 (λs=>n.toNat - s.1.1) (⟨⟨0,p,[]⟩,by simp;omega⟩) a rfl (by (simp[cX,zC,a])) ?_;rintro⟨⟨k,q,es⟩,hk,P,F,K⟩;(try dsimp only[cA,cB]);have hk:(k:Int)<=n:=hk;have P:p<=q/\q<=p+48*k:=P;have F:(es.length:Int)<=q - p:=F;(repeat first|refine tM rfl ?_ |refine s2 rfl λ_ f=>?_ |refine aU rfl ?_ |refine Aa ?_)
 ((refine aC rfl ?_ ?_<;>rintro⟨⟩);all_goals try (simp at f;done))
 ·have T : (k:Int) < n:=by (simp only[oZ] at *;omega)
  refine aK ?_;refine aS (aB ?_);(repeat first|refine tX rfl ?_ |refine aU rfl ?_ |refine Aa ?_);refine aB ?_;refine aL (U:={s:Nat×Int×List Ej // s.1<=(Ac al).length/\(q<=s.2.1/\s.2.1<=q+8*s.1)/\(s.2.2.length:Int)<=s.2.1 - p/\∀e∈s.2.2,0<=e.t/\e.t < n}) [0,2,3,8,9,10,11] [1] rfl rfl (λs=>[(12,eI .i64 s.1.1)]) (λs=>[(0,Bo b s.1.2.1),(2,.cells 158 3 (s.1.2.2.map A7)),(3,.cells 25 3 [[.d (iD al),.d (iD n),.arr 2 3 0 s.1.2.2.length]])]) 4 (λs=>(Ac al).length - s.1.1) (⟨⟨0,q,es⟩,by simp,by simp,F,K⟩) a rfl (by (simp[cX,zC,a])) ?_;rintro⟨⟨i,u,z⟩,hi,M,g,y⟩;(try dsimp only[cA,cB]);have hi:i<=(Ac al).length:=hi;have M:q<=u/\u<=q+8*i:=M;have g:(z.length:Int)<=u - p:=g;clear K F;(repeat first|refine sN rfl ?_ |refine tM rfl ?_ |refine s2 rfl λ_ f=>?_ |refine aU rfl ?_ |refine Aa ?_)
  ((refine aC rfl ?_ ?_<;>rintro⟨⟩);all_goals try (simp at f;done))
  ·have B:i < (Ac al).length:=by (simp only[oZ] at *;omega)
   obtain⟨l,G⟩:=get_some B
   have X:((Ac al).map Br)[((i:Nat):Int).toNat]? = some (Br l):=by rw [f6];simp [G]
   refine aK ?_;refine aS (aB ?_);(repeat first|refine tX rfl ?_ |refine aU rfl ?_ |refine Aa ?_);refine aB ?_;refine aL (U:={s:Nat×Int×List Ej // (s.1:Int)<=n/\(u<=s.2.1/\s.2.1<=u+s.1)/\(s.2.2.length:Int)<=s.2.1 - p/\∀e∈s.2.2,0<=e.t/\e.t < n}) [0,2,3,8,9,10,11,12] [1] rfl rfl (λs=>[(13,eI .i64 s.1.1)]) (λs=>[(0,Bo b s.1.2.1),(2,.cells 158 3 (s.1.2.2.map A7)),(3,.cells 25 3 [[.d (iD al),.d (iD n),.arr 2 3 0 s.1.2.2.length]])]) 4 (λs=>n.toNat - s.1.1) (⟨⟨0,u,z⟩,by simp;omega,by simp,g,y⟩) a rfl (by (simp[cX,zC,a])) ?_;rintro⟨⟨j,v,h⟩,Q,L,w,x⟩;(try dsimp only[cA,cB]);have Q:(j:Int)<=n:=Q;have L:u<=v/\v<=u+j:=L;have w:(h.length:Int)<=v - p:=w;clear y g;(repeat first|refine tM rfl ?_ |refine s2 rfl λ_ f=>?_ |refine aU rfl ?_ |refine Aa ?_)
   ((refine aC rfl ?_ ?_<;>rintro⟨⟩);all_goals try (simp at f;done))
   ·obtain⟨c,c1,c2,hp⟩:=Bz (TB:=TB) b hb v dD (by omega)
    have I:(j:Int) < n:=by (simp only[oZ] at *;omega)
    refine aK ?_;refine aS (aB ?_);(repeat first|refine tA rfl ?_ |refine aU rfl ?_);(refine pW rfl ?_ rfl (by rfl);refine Ag [0] rfl rfl (hp) ⟨rfl,by decide,by decide⟩ rfl (by simp[cX,zC,a]) ?_;rintro Y R S ⟨rfl,rfl,rfl⟩ _);(repeat first|refine s2 rfl λ_ f=>?_ |refine Aa ?_);(refine aC rfl ?_ ?_<;>rintro⟨⟩)
    ·refine rG (RH [(1,13),(10,1),(12,1)]) (by kernel_rfl) ?_
     (repeat first|refine tA rfl ?_ |(refine s4 rfl ‹_› rfl ?_ ?_;omega)|(refine Af rfl ?_;refine gA rfl ?_;first| refine gS (λ_ _=>AF rfl rfl (by rfl) (by rfl)) ?_));(refine pW rfl ?_ rfl (by rfl);refine Aj rfl rfl rfl (by first| (simp;done)|(simp;(omega))) rfl (by intro r N;simp at N;subst N;rfl) (by rfl) (co rfl) (by simp;omega) ?_);(repeat first|(refine sA rfl ?_ ?_;first|exact tI|omega) |refine aU rfl ?_ |refine Aa ?_)
     have J:∀e∈h++[(⟨k,l,j⟩:Ej)],0<=e.t/\e.t < n:=λe A=>by
      rcases f9.1 A with A|A
      ·exact x e A
      ·simp at A;subst A;exact⟨by dsimp only;omega,I⟩
     refine⟨⟨⟨j+1,v+1,h++[⟨k,l,j⟩]⟩,by dsimp only;omega,by dsimp only;omega,by simp;omega,J⟩,by dsimp only;(omega),[0,1,4,3],?_⟩;(simp[cX,zC,a,cN]<;>rfl)
    ·refine aK ?_
     (repeat first|(refine sA rfl ?_ ?_;first|exact tI|omega) |refine aU rfl ?_ |refine Aa ?_);refine⟨⟨⟨j+1,v+1,h⟩,by dsimp only;omega,by dsimp only;omega,by dsimp only;omega,x⟩,by dsimp only;(omega),[0,1,2,3],?_⟩;(simp[cX,zC,a,cN]<;>rfl)
   ·have H:(j:Int)=n:=by (simp only[oZ] at *;omega)
    refine aE ?_;(repeat first|(refine sA rfl ?_ ?_;first|exact tI|omega) |refine aU rfl ?_ |refine Aa ?_);refine⟨⟨⟨i+1,v,h⟩,by dsimp only;omega,by dsimp only;omega,w,x⟩,by dsimp only;(omega),[0,1,2,3],?_⟩;(simp[cX,zC,a,cN]<;>rfl)
  ·refine aE ?_
   have B:i=(Ac al).length:=by (simp only[oZ] at *;omega)
   (repeat first|(refine sA rfl ?_ ?_;first|exact tI|omega) |refine aU rfl ?_ |refine Aa ?_);refine⟨⟨⟨k+1,u,z⟩,by dsimp only;omega,by dsimp only;omega,g,y⟩,by dsimp only;(omega),[0,1,2,3],?_⟩;(simp[cX,zC,a,cN]<;>rfl)
 ·have H:(k:Int)=n:=by (simp only[oZ] at *;omega)
  refine aE ?_;(repeat first|refine tA rfl ?_ |refine aU rfl ?_ |refine Aa ?_);refine Au.AM [1,2] [(8,.o (.ip [iD al,iD n,Gm es]))] ⟨⟨_,rfl,.inr (.o (.box rfl (.cons .d (.cons .d (.cons (.full rfl (by simp [d4]) (by simp)) .nil)))))⟩,trivial⟩ ?_;refine aR ⟨_,rfl,[0],Dv ⟨al,n,es⟩,[(0,Bo b q)],⟨by intro i hi;match i with|0=>rfl,by decide⟩,rfl,by (simp[cX,zC,a,cN]),q,⟨al,n,es⟩,by omega,⟨rfl,K,by dsimp only;omega⟩,rfl,rfl,rfl⟩
end Go.Am
namespace Go.Am
set_option linter.unusedVariables false
def OK(a:AK):Nat->List Int->Nat->Nat->List Int×Nat
 | 0,cs,_,n=>(cs,n)
 | k+1,cs,more,n=>if n < more then OK a k (Cn (A8 a cs)) (uq (A8 a cs)).length more else (cs,n)
theorem XK{a:AK}{cs:List Int}(h:cs.length=a.nx.length):(uq cs).length<=(uq (A8 a cs)).length:=by
 have:=RC (λk:List Int=>k.headD 0) (A8 a cs);rwa [ZU h] at this
theorem PH{a:AK}:∀(j k:Nat) {cs:List Int} {m b:Nat},cs.length=a.nx.length->(uq cs).length=m->b < m->a.nx.length+1<=m+j->j+1<=k->OK a k cs m b=(Cn (MI a j cs m),(uq (MI a j cs m)).length)
 | 0,k,cs,m,b,f,e,d,h,g=>by
  have:=E9 cs;omega
 | j+1,0,cs,m,b,f,e,d,h,g=>by omega
 | j + 1,k+1,cs,m,b,f,e,d,h,g=>by
  unfold OK MI;rw [if_pos d];have i:=XK f;rw [e] at i;by_cases c:(uq (A8 a cs)).length=m
  ·rw [if_pos c,c]
   obtain⟨k',rfl⟩:∃k',k=k'+1:=⟨k - 1,by omega⟩
   unfold OK;rw [if_neg (by omega)]
  ·rw [if_neg c]
   exact PH j k (by simp [Cn,Cq]) (Mq _) (by omega) (by omega) (by omega)
theorem fa{a:AK}(h:Cg a){k:Nat}(hk:a.nx.length+2<=k):OK a k (Cn (A8 a (Dx a))) (uq (A8 a (Dx a))).length 0=(Dm a,(uq (BN a)).length):=by
 have e:=h.n1
 have c:0 < (uq (A8 a (Dx a))).length:=by
  have b:=Bc (a:=a) (cs:=Dx a) (q:=0) (by omega);exact p7 (Cp.2 (ce b))
 rw [PH a.nx.length k (by simp [Cn,Cq]) (Mq _) c (by omega) (by omega)]
 have d:BN a=MI a a.nx.length (Cn (A8 a (Dx a))) (uq (A8 a (Dx a))).length:=by
  unfold BN
  conv=>lhs;unfold MI
  rw [if_neg (by omega)]
 rw [<-d];rfl
theorem WI{a:AK}(h:Cg a):(BW a).nx.length=(uq (BN a)).length:=by
 have c:=Gl h.b h.n1 h.ac;unfold BW BM;simp only [f7];rw [CB,lm (by have:=c.len;omega)]
end Go.Am
namespace Go.Am
open Go Go.Proofs
set_option maxHeartbeats 1000000
set_option maxRecDepth 4000
attribute [local irreducible] AO BS Lex A4 Au Spec
variable {TB:Bi}
theorem XM{a:AK}(h:Hz a){cs:List Int}(P:cs.length=a.nx.length){i j:Nat}(hi:i < a.nx.length)(B:j < a.nx.length):Pure Tryz.prog TB 283 [Bm a,AH cs,eI .i64 i,eI .i64 j] (eB (decide (Fe a cs i=Fe a cs j))):=by
 have ri:=FN h hi;have rj:=FN h B
 have o:∀q,q < a.nx.length->∀x∈(Ac a.al).map (AW a q),0<=x/\x < ((a.nx.length:Nat):Int):=λq m x s=>by
  obtain⟨l,N,rfl⟩:=em.1 s;have:=Ai N;exact BI h m this.1 (by omega)
 have bi:=o i hi;have bj:=o j B
 have li:((Ac a.al).map (AW a i)).length=((Ac a.al).map (AW a j)).length:=by simp
 have M:((Ac a.al).map (AW a i)).length<=6:=by rw [f7];exact AD a.al 6
 obtain⟨x,s⟩:=get_some (l:=cs) (k:=i) (by omega);obtain⟨y,A⟩:=get_some (l:=cs) (k:=j) (by omega);unfold Fe;rw [Bd ri,Bd rj,Bd s,Bd A];generalize (Ac a.al).map (AW a i)=r at *;generalize (Ac a.al).map (AW a j)=u at *;have ri':=get_map (g:=DM) ri;have rj':=get_map (g:=DM) rj;have J:=get_map (g:=Br) s;have I:=get_map (g:=Br) A;refine eG Tryz.func283 rfl (by kernel_rfl) rfl ?_;intro Γ d;(repeat first |refine sN rfl ?_ |((first|refine sA rfl ?_ ?_|refine s4 rfl ‹_› rfl ?_ ?_);first|exact tI|omega|simp only[oZ] at *;omega) |refine s2 rfl λ_ b=>?_ |refine s3 rfl ?_ ?_<;>rintro rfl |refine aU rfl ?_ |refine Aa ?_);refine rG (Ha []) (by kernel_rfl) ?_;by_cases n:x=y
 ·subst n
  (repeat' first |refine sN rfl ?_ |((first|refine sA rfl ?_ ?_|refine s4 rfl ‹_› rfl ?_ ?_);first|exact tI|omega|simp only[oZ] at *;omega) |refine s2 rfl λ_ b=>?_ |refine s3 rfl ?_ ?_<;>rintro rfl |refine aU rfl ?_ |refine Aa ?_|(refine aC rfl ?_ ?_<;>rintro⟨⟩));all_goals try contradiction
  all_goals first
   | (exfalso;first|omega|simp only[oZ] at *;omega;done)
   | skip
  refine aK ?_;(repeat first |refine sN rfl ?_ |((first|refine sA rfl ?_ ?_|refine s4 rfl ‹_› rfl ?_ ?_);first|exact tI|omega|simp only[oZ] at *;omega) |refine s2 rfl λ_ b=>?_ |refine s3 rfl ?_ ?_<;>rintro rfl |refine aU rfl ?_ |refine Aa ?_);refine aB ?_;refine aL (U:={k:Nat // k<=r.length/\(r.take k).map (λx=>cs.getD x.toNat 0)=(u.take k).map λx=>cs.getD x.toNat 0}) [1,2,3,4] [] rfl rfl (λ⟨k,hk,c⟩=>[(9,eI .i64 k)]) (λ⟨k,hk,c⟩=>[]) 0 (λ⟨k,hk,c⟩=>r.length - k) (⟨0,by omega,by simp⟩) d rfl (by ((repeat' first|exact tI|rfl|refine And.intro ?_ ?_)<;>(simp[cX,zC,d]<;>rfl))) ?_;rintro⟨k,hk,c⟩;(try dsimp only[cA,cB]);have hk:k<=r.length:=hk;have c:(r.take k).map (λx=>cs.getD x.toNat 0)=(u.take k).map λx=>cs.getD x.toNat 0:=c;by_cases w:k < r.length
  ·obtain⟨p,hp⟩:=get_some w
   obtain⟨q,m⟩:=get_some (l:=u) (k:=k) (by omega);have L:=get_map (g:=Br) hp;have K:=get_map (g:=Br) m;have bp:=bi p (ce hp);have bq:=bj q (ce m);obtain⟨cp,f⟩:=get_some (l:=cs) (k:=p.toNat) (by omega);obtain⟨cq,e⟩:=get_some (l:=cs) (k:=q.toNat) (by omega);have H:=get_map (g:=Br) f;have G:=get_map (g:=Br) e;(repeat first |refine sN rfl ?_ |((first|refine sA rfl ?_ ?_|refine s4 rfl ‹_› rfl ?_ ?_);first|exact tI|omega|simp only[oZ] at *;omega) |refine s2 rfl λ_ b=>?_ |refine s3 rfl ?_ ?_<;>rintro rfl |refine aU rfl ?_ |refine Aa ?_)
   ((refine aC rfl ?_ ?_<;>rintro⟨⟩);all_goals try(exfalso;first|omega|simp only[oZ] at *;omega))
   refine aK ?_;refine aS (aB ?_);(repeat first |refine sN rfl ?_ |((first|refine sA rfl ?_ ?_|refine s4 rfl ‹_› rfl ?_ ?_);first|exact tI|omega|simp only[oZ] at *;omega) |refine s2 rfl λ_ b=>?_ |refine s3 rfl ?_ ?_<;>rintro rfl |refine aU rfl ?_ |refine Aa ?_);refine rG (Ha []) (by kernel_rfl) ?_;by_cases F:cp=cq
   ·have t:(r.take (k+1)).map (λx=>cs.getD x.toNat 0)=(u.take (k+1)).map λx=>cs.getD x.toNat 0:=by
     rw [gc,gc,hp,m,nO,nO,c];simp only [qv,nX,pM];rw [Bd f,Bd e,F]
    (repeat' first |refine sN rfl ?_ |((first|refine sA rfl ?_ ?_|refine s4 rfl ‹_› rfl ?_ ?_);first|exact tI|omega|simp only[oZ] at *;omega) |refine s2 rfl λ_ b=>?_ |refine s3 rfl ?_ ?_<;>rintro rfl |refine aU rfl ?_ |refine Aa ?_|(refine aC rfl ?_ ?_<;>rintro⟨⟩));all_goals try contradiction
    all_goals first
     | (exfalso;first|omega|simp only[oZ] at *;omega;done)
     | skip
    refine aK ?_;(repeat first |refine sN rfl ?_ |((first|refine sA rfl ?_ ?_|refine s4 rfl ‹_› rfl ?_ ?_);first|exact tI|omega|simp only[oZ] at *;omega) |refine s2 rfl λ_ b=>?_ |refine s3 rfl ?_ ?_<;>rintro rfl |refine aU rfl ?_ |refine Aa ?_);refine⟨⟨k+1,by first|omega|simp only[oZ] at *;omega,t⟩,by dsimp only;(first|omega|simp only[oZ] at *;omega),[],?_⟩;simp[cX,zC,d]
   ·have v:¬(r.map (λx=>cs.getD x.toNat 0)=u.map λx=>cs.getD x.toNat 0):=λh=>F (by
     have z:=congrArg (λl=>l[k]?) h;simp only [d9,hp,m,nv,Option.some.injEq] at z;rw [Bd f,Bd e] at z
     exact z)
    rw [decide_eq_false λh=>v (List.cons.inj h).2]
    (repeat' first |refine sN rfl ?_ |((first|refine sA rfl ?_ ?_|refine s4 rfl ‹_› rfl ?_ ?_);first|exact tI|omega|simp only[oZ] at *;omega) |refine s2 rfl λ_ b=>?_ |refine s3 rfl ?_ ?_<;>rintro rfl |refine aU rfl ?_ |refine Aa ?_|(refine aC rfl ?_ ?_<;>rintro⟨⟩));all_goals try contradiction
    all_goals first
     | (exfalso;first|omega|simp only[oZ] at *;omega;done)
     | (subst_vars;exact aR ⟨_,rfl,rfl⟩)
  ·obtain rfl:k=r.length:=by omega
   rw [i9,li,i9] at c;rw [decide_eq_true (by rw [c])];(repeat first |refine sN rfl ?_ |((first|refine sA rfl ?_ ?_|refine s4 rfl ‹_› rfl ?_ ?_);first|exact tI|omega|simp only[oZ] at *;omega) |refine s2 rfl λ_ b=>?_ |refine s3 rfl ?_ ?_<;>rintro rfl |refine aU rfl ?_ |refine Aa ?_)
   ((refine aC rfl ?_ ?_<;>rintro⟨⟩);all_goals try(exfalso;first|omega|simp only[oZ] at *;omega))
   refine aE ?_;(repeat first |refine sN rfl ?_ |((first|refine sA rfl ?_ ?_|refine s4 rfl ‹_› rfl ?_ ?_);first|exact tI|omega|simp only[oZ] at *;omega) |refine s2 rfl λ_ b=>?_ |refine s3 rfl ?_ ?_<;>rintro rfl |refine aU rfl ?_ |refine Aa ?_);(subst_vars;exact aR ⟨_,rfl,rfl⟩)
 ·rw [decide_eq_false λh=>n (List.cons.inj h).1]
  (repeat' first |refine sN rfl ?_ |((first|refine sA rfl ?_ ?_|refine s4 rfl ‹_› rfl ?_ ?_);first|exact tI|omega|simp only[oZ] at *;omega) |refine s2 rfl λ_ b=>?_ |refine s3 rfl ?_ ?_<;>rintro rfl |refine aU rfl ?_ |refine Aa ?_|(refine aC rfl ?_ ?_<;>rintro⟨⟩));all_goals try contradiction
  all_goals first
   | (exfalso;first|omega|simp only[oZ] at *;omega;done)
   | (subst_vars;exact aR ⟨_,rfl,rfl⟩)
def ml(p:List Int×Nat):E:=.t [(false,[.d (Da p.1)]),(false,[.d (iD (p.2:Nat))])]
theorem Ln{a:AK}(h:Hz a){cs:List Int}(Q:cs.length=a.nx.length):Pure Tryz.prog TB 252 [Bm a,AH cs] (ml (Cn (A8 a cs),(uq (A8 a cs)).length)):=by
 have R:=h.1;have z:=Cq a cs;have H:∀q,q < a.nx.length->(A8 a cs)[q]? = some (Fe a cs q):=λq n=>Bc n;have F:∀i j,i < a.nx.length->j < a.nx.length->Pure Tryz.prog TB 283 [Bm a,AH cs,eI .i64 i,eI .i64 j] (eB (decide (Fe a cs i=Fe a cs j))):=λi j hi A=>XM h Q hi A;generalize A8 a cs=K at *;generalize Fe a cs=key at *;refine eG Tryz.func252 rfl (by kernel_rfl) rfl ?_;intro Γ e;(repeat first |refine sN rfl ?_ |((first|refine sX rfl ?_ ?_|refine s4 rfl ‹_› rfl ?_ ?_);first|exact tI|omega|simp only[oZ] at *;omega) |refine s2 rfl λ_ b=>?_ |refine s3 rfl ?_ ?_<;>rintro rfl |refine aU rfl ?_ |refine Aa ?_);(refine Af rfl ?_;refine Ew (λ_ _=>DJ rfl rfl rfl) rfl ?_);(repeat first |refine sN rfl ?_ |((first|refine sX rfl ?_ ?_|refine s4 rfl ‹_› rfl ?_ ?_);first|exact tI|omega|simp only[oZ] at *;omega) |refine s2 rfl λ_ b=>?_ |refine s3 rfl ?_ ?_<;>rintro rfl |refine aU rfl ?_ |refine Aa ?_);(refine pW rfl ?_ rfl (by rfl);refine A9 rfl rfl rfl rfl (by simp) (by rfl) (by rfl) (by rfl) (by rfl) ?_);(repeat first |refine sN rfl ?_ |((first|refine sA rfl ?_ ?_|refine s4 rfl ‹_› rfl ?_ ?_);first|exact tI|omega|simp only[oZ] at *;omega) |refine s2 rfl λ_ b=>?_ |refine s3 rfl ?_ ?_<;>rintro rfl |refine aU rfl ?_ |refine Aa ?_);refine aB ?_;refine aL (U:={i:Nat // i<=a.nx.length}) [1,2] [] rfl rfl (λ⟨i,hi⟩=>[(6,.o (.arr 0 1 0 i)),(7,eI .i64 (uq (K.take i)).length),(8,eI .i64 i)]) (λ⟨i,hi⟩=>[(0,.cells 3 1 ((K.take i).map λu=>Az (CN K u)))]) 1 (λ⟨i,hi⟩=>a.nx.length - i) (⟨0,by omega⟩) e rfl (by ((repeat' first|exact tI|rfl|refine And.intro ?_ ?_)<;>(simp[cX,zC,e,eC,uq,uniq]<;>rfl))) ?_;rintro⟨i,hi⟩;(try dsimp only[cA,cB]);have I:=E9 (K.take i)
 have J:(K.take i).length<=i:=by rw [ol];omega
 by_cases w:i < a.nx.length
 ·have t:=H i w
  obtain⟨u,p⟩:∃u,u=key i:=⟨_,rfl⟩
  rw [<-p] at t;have g:=J6 t;have hno:=Iv t;have L:=Iw (ce t)
  have m:K.take (i+1)=K.take i++[u]:=by rw [gc,t];rfl
  rw [m] at g;(repeat first |refine sN rfl ?_ |((first|refine sA rfl ?_ ?_|refine s4 rfl ‹_› rfl ?_ ?_);first|exact tI|omega|simp only[oZ] at *;omega) |refine s2 rfl λ_ b=>?_ |refine s3 rfl ?_ ?_<;>rintro rfl |refine aU rfl ?_ |refine Aa ?_)
  ((refine aC rfl ?_ ?_<;>rintro⟨⟩);all_goals try(exfalso;first|omega|simp only[oZ] at *;omega))
  refine aK ?_;refine aS (aB ?_);(repeat first |refine sN rfl ?_ |((first|refine sA rfl ?_ ?_|refine s4 rfl ‹_› rfl ?_ ?_);first|exact tI|omega|simp only[oZ] at *;omega) |refine s2 rfl λ_ b=>?_ |refine s3 rfl ?_ ?_<;>rintro rfl |refine aU rfl ?_ |refine Aa ?_);refine aB ?_;refine aL (U:={s:Nat×Int // s.1<=i/\((s.2 = -1/\u∉K.take s.1)\/(u∈K.take i/\s.2=CN K u))}) [1,2,6,7,8] [0] rfl rfl (λs=>[(9,eI .i64 s.1.2),(10,eI .i64 s.1.1)]) (λs=>[]) 1 (λs=>i - s.1.1) (⟨⟨0,-1⟩,by simp⟩) e rfl (by ((repeat' first|exact tI|rfl|refine And.intro ?_ ?_)<;>(simp[cX,zC,e]<;>rfl))) ?_;rintro⟨⟨j,c⟩,A,d⟩;(try dsimp only[cA,cB]);have A:j<=i:=A
  rcases d with ⟨d,f⟩|⟨f,d⟩
  ·have d:c = -1:=d
   subst d;have f:u∉K.take j:=f;by_cases G:j < i
   ·have l:=H j (by omega)
    have k:=F i j w (by omega);have N:=Iw (ce l)
    have x:(K.take i)[j]? = some (key j):=by rw [List.getElem?_take_of_lt G];exact l
    have P:((K.take i).map λu=>Az (CN K u))[0+((j:Nat):Int).toNat]? = some (Az (CN K (key j))):=by rw [ms,f6,d9,x];rfl
    rw [<-p] at k
    (repeat' first |refine sN rfl ?_ |((first|refine sA rfl ?_ ?_|refine s4 rfl ‹_› rfl ?_ ?_);first|exact tI|omega|simp only[oZ] at *;omega) |refine s2 rfl λ_ b=>?_ |refine s3 rfl ?_ ?_<;>rintro rfl |refine aU rfl ?_ |refine Aa ?_|(refine aC rfl ?_ ?_<;>rintro⟨⟩));all_goals try contradiction
    all_goals first
     | (exfalso;first|omega|simp only[oZ] at *;omega;done)
     | (exfalso;simp at *;done)
     | skip
    refine aK ?_;refine aS (aB ?_);by_cases y:u=key j
    ·rw [decide_eq_true y] at k
     (repeat first |refine sN rfl ?_ |((first|refine sA rfl ?_ ?_|refine s4 rfl ‹_› rfl ?_ ?_);first|exact tI|omega|simp only[oZ] at *;omega) |refine s2 rfl λ_ b=>?_ |refine sP rfl (k) rfl ?_ |refine s3 rfl ?_ ?_<;>rintro rfl |refine aU rfl ?_ |refine Aa ?_)
     ((refine aC rfl ?_ ?_<;>rintro⟨⟩);all_goals try (simp at b;done))
     (repeat first |refine sN rfl ?_ |((first|refine sA rfl ?_ ?_|refine s4 rfl ‹_› rfl ?_ ?_);first|exact tI|omega|simp only[oZ] at *;omega) |refine s2 rfl λ_ b=>?_ |refine s3 rfl ?_ ?_<;>rintro rfl |refine aU rfl ?_ |refine Aa ?_);refine⟨⟨⟨j+1,CN K u⟩,by dsimp only;omega,.inr ⟨by rw [y];exact ce x,rfl⟩⟩,by dsimp only;(first|omega|simp only[oZ] at *;omega),[0],?_⟩;simp[cX,zC,e,y]
    ·rw [decide_eq_false y] at k
     (repeat first |refine sN rfl ?_ |((first|refine sA rfl ?_ ?_|refine s4 rfl ‹_› rfl ?_ ?_);first|exact tI|omega|simp only[oZ] at *;omega) |refine s2 rfl λ_ b=>?_ |refine sP rfl (k) rfl ?_ |refine s3 rfl ?_ ?_<;>rintro rfl |refine aU rfl ?_ |refine Aa ?_)
     ((refine aC rfl ?_ ?_<;>rintro⟨⟩);all_goals try (simp at b;done))
     refine aK ?_;(repeat first |refine sN rfl ?_ |((first|refine sA rfl ?_ ?_|refine s4 rfl ‹_› rfl ?_ ?_);first|exact tI|omega|simp only[oZ] at *;omega) |refine s2 rfl λ_ b=>?_ |refine s3 rfl ?_ ?_<;>rintro rfl |refine aU rfl ?_ |refine Aa ?_);refine⟨⟨⟨j+1,-1⟩,by dsimp only;omega,.inl ⟨rfl,by rw [gc,l];simp [f,y]⟩⟩,by dsimp only;(first|omega|simp only[oZ] at *;omega),[0],?_⟩;simp[cX,zC,e]
   ·obtain rfl:j=i:=by omega
    have n:u∉uq (K.take j):=λM=>f (Cp.1 M);have hno:=hno.2 n;rw [if_neg n] at g
    (repeat' first |refine sN rfl ?_ |((first|refine sA rfl ?_ ?_|refine s4 rfl ‹_› rfl ?_ ?_);first|exact tI|omega|simp only[oZ] at *;omega) |refine s2 rfl λ_ b=>?_ |refine s3 rfl ?_ ?_<;>rintro rfl |refine aU rfl ?_ |refine Aa ?_|(refine aC rfl ?_ ?_<;>rintro⟨⟩));all_goals try contradiction
    all_goals first
     | (exfalso;first|omega|simp only[oZ] at *;omega;done)
     | (exfalso;simp at *;done)
     | skip
    refine aE ?_;(repeat first |refine sN rfl ?_ |((first|refine sA rfl ?_ ?_|refine s4 rfl ‹_› rfl ?_ ?_);first|exact tI|omega|simp only[oZ] at *;omega) |refine s2 rfl λ_ b=>?_ |refine s3 rfl ?_ ?_<;>rintro rfl |refine aU rfl ?_ |refine Aa ?_)
    ((refine aC rfl ?_ ?_<;>rintro⟨⟩);all_goals try (simp at b;done))
    (repeat first |refine sN rfl ?_ |((first|refine sA rfl ?_ ?_|refine s4 rfl ‹_› rfl ?_ ?_);first|exact tI|omega|simp only[oZ] at *;omega) |refine s2 rfl λ_ b=>?_ |refine s3 rfl ?_ ?_<;>rintro rfl |refine aU rfl ?_ |refine Aa ?_);(refine pW rfl ?_ rfl (by rfl);refine Aj rfl rfl rfl (by first|(simp;done)|(simp;(first|omega|simp only[oZ] at *;omega))) rfl (by intro r v;simp at v;subst v;rfl) (by rfl) (co rfl) (by simp;omega) ?_);(repeat first |refine sN rfl ?_ |((first|refine sA rfl ?_ ?_|refine s4 rfl ‹_› rfl ?_ ?_);first|exact tI|omega|simp only[oZ] at *;omega) |refine s2 rfl λ_ b=>?_ |refine s3 rfl ?_ ?_<;>rintro rfl |refine aU rfl ?_ |refine Aa ?_);refine⟨⟨j+1,by first|omega|simp only[oZ] at *;omega⟩,by dsimp only;(first|omega|simp only[oZ] at *;omega),[1],?_⟩;simp[cX,zC,e,m,g,hno]
  ·have d:c=CN K u:=d
   have n:=Cp.2 f;rw [if_pos n] at g
   (repeat' first |refine sN rfl ?_ |((first|refine sA rfl ?_ ?_|refine s4 rfl ‹_› rfl ?_ ?_);first|exact tI|omega|simp only[oZ] at *;omega) |refine s2 rfl λ_ b=>?_ |refine s3 rfl ?_ ?_<;>rintro rfl |refine aU rfl ?_ |refine Aa ?_|(refine aC rfl ?_ ?_<;>rintro⟨⟩));all_goals try contradiction
   all_goals first
    | (exfalso;first|omega|simp only[oZ] at *;omega;done)
    | (exfalso;simp at *;done)
    | skip
   all_goals (refine aE ?_)
   all_goals
    (repeat first |refine sN rfl ?_ |((first|refine sA rfl ?_ ?_|refine s4 rfl ‹_› rfl ?_ ?_);first|exact tI|omega|simp only[oZ] at *;omega) |refine s2 rfl λ_ b=>?_ |refine s3 rfl ?_ ?_<;>rintro rfl |refine aU rfl ?_ |refine Aa ?_)
    ((refine aC rfl ?_ ?_<;>rintro⟨⟩);all_goals try(exfalso;first|omega|simp only[oZ] at *;omega))
    refine aK ?_;(repeat first |refine sN rfl ?_ |((first|refine sA rfl ?_ ?_|refine s4 rfl ‹_› rfl ?_ ?_);first|exact tI|omega|simp only[oZ] at *;omega) |refine s2 rfl λ_ b=>?_ |refine s3 rfl ?_ ?_<;>rintro rfl |refine aU rfl ?_ |refine Aa ?_);(refine pW rfl ?_ rfl (by rfl);refine Aj rfl rfl rfl (by first|(simp;done)|(simp;(first|omega|simp only[oZ] at *;omega))) rfl (by intro r v;simp at v;subst v;rfl) (by rfl) (co rfl) (by simp;omega) ?_);(repeat first |refine sN rfl ?_ |((first|refine sA rfl ?_ ?_|refine s4 rfl ‹_› rfl ?_ ?_);first|exact tI|omega|simp only[oZ] at *;omega) |refine s2 rfl λ_ b=>?_ |refine s3 rfl ?_ ?_<;>rintro rfl |refine aU rfl ?_ |refine Aa ?_);refine⟨⟨i+1,by first|omega|simp only[oZ] at *;omega⟩,by dsimp only;(first|omega|simp only[oZ] at *;omega),[1],?_⟩;simp[cX,zC,e,m,g,d]
 ·obtain rfl:i=a.nx.length:=by omega
  have B:K.take a.nx.length=K:=by rw [<-z,i9]
  rw [B];(repeat first |refine sN rfl ?_ |((first|refine sA rfl ?_ ?_|refine s4 rfl ‹_› rfl ?_ ?_);first|exact tI|omega|simp only[oZ] at *;omega) |refine s2 rfl λ_ b=>?_ |refine s3 rfl ?_ ?_<;>rintro rfl |refine aU rfl ?_ |refine Aa ?_)
  ((refine aC rfl ?_ ?_<;>rintro⟨⟩);all_goals try(exfalso;first|omega|simp only[oZ] at *;omega))
  refine aE ?_;refine Au.settle [(6,AH (Cn K)),(7,eI .i64 (uq K).length)] ⟨⟨_,rfl,.o (.full rfl (by simp [Cn,d4]) (by simp [Cn,z]))⟩,⟨_,rfl,.Bn rfl⟩,trivial⟩ ?_;(repeat first |refine sN rfl ?_ |((first|refine sA rfl ?_ ?_|refine s4 rfl ‹_› rfl ?_ ?_);first|exact tI|omega|simp only[oZ] at *;omega) |refine s2 rfl λ_ b=>?_ |refine s3 rfl ?_ ?_<;>rintro rfl |refine aU rfl ?_ |refine Aa ?_);(subst_vars;exact aR ⟨_,rfl,rfl⟩)
theorem Qu{a:AK}(h:Cg a):Pure Tryz.prog TB 192 [Bm a] (ml (Dm a,(uq (BN a)).length)):=by
 have A:=h.b.1;have u:=h.ac;rw [<-fa h (io _)]
 have w:(Dx a).length=a.nx.length:=by simp [Dx,u]
 have q:=Ln (TB:=TB) h.b w;refine eG Tryz.func192 rfl (by kernel_rfl) rfl ?_;intro Γ d;(repeat first |refine sN rfl ?_ |((first|refine sX rfl ?_ ?_|refine s4 rfl ‹_› rfl ?_ ?_);first|exact tI|omega|simp only[oZ] at *;omega) |refine s2 rfl λ_ c=>?_ |refine s3 rfl ?_ ?_<;>rintro rfl |refine aU rfl ?_ |refine Aa ?_);(refine Af rfl ?_;refine Ew (λ_ _=>DJ rfl rfl rfl) rfl ?_);(repeat first |refine sN rfl ?_ |((first|refine sX rfl ?_ ?_|refine s4 rfl ‹_› rfl ?_ ?_);first|exact tI|omega|simp only[oZ] at *;omega) |refine s2 rfl λ_ c=>?_ |refine s3 rfl ?_ ?_<;>rintro rfl |refine aU rfl ?_ |refine Aa ?_);(refine pW rfl ?_ rfl (by rfl);refine A9 rfl rfl rfl rfl (by simp) (by rfl) (by rfl) (by rfl) (by rfl) ?_);(repeat first |refine sN rfl ?_ |((first|refine sA rfl ?_ ?_|refine s4 rfl ‹_› rfl ?_ ?_);first|exact tI|omega|simp only[oZ] at *;omega) |refine s2 rfl λ_ c=>?_ |refine s3 rfl ?_ ?_<;>rintro rfl |refine aU rfl ?_ |refine Aa ?_);refine aB ?_;refine aL (U:={k:Nat // k<=a.ac.length}) [1] [] rfl rfl (λ⟨k,hk⟩=>[(4,.o (.arr 0 1 0 k)),(5,eI .i64 k)]) (λ⟨k,hk⟩=>[(0,.cells 3 1 ((a.ac.take k).map λb=>Az (if b then 1 else 0)))]) 1 (λ⟨k,hk⟩=>a.ac.length - k) (⟨0,by omega⟩) d rfl (by ((repeat' first|exact tI|rfl|refine And.intro ?_ ?_)<;>(simp[cX,zC,d,eC]<;>rfl))) ?_;rintro⟨k,hk⟩;(try dsimp only[cA,cB]);by_cases t:k < a.ac.length
 ·obtain⟨b,hb⟩:=get_some t
  have y:=get_map (g:=Gk) hb
  have l:a.ac.take (k+1)=a.ac.take k++[b]:=by rw [gc,hb];rfl
  (repeat first |refine sN rfl ?_ |((first|refine sA rfl ?_ ?_|refine s4 rfl ‹_› rfl ?_ ?_);first|exact tI|omega|simp only[oZ] at *;omega) |refine s2 rfl λ_ c=>?_ |refine s3 rfl ?_ ?_<;>rintro rfl |refine aU rfl ?_ |refine Aa ?_)
  ((refine aC rfl ?_ ?_<;>rintro⟨⟩);all_goals try(exfalso;first|omega|simp only[oZ] at *;omega))
  refine aK ?_;refine aS (aB ?_);cases b
  ·(repeat first |refine sN rfl ?_ |((first|refine sA rfl ?_ ?_|refine s4 rfl ‹_› rfl ?_ ?_);first|exact tI|omega|simp only[oZ] at *;omega) |refine s2 rfl λ_ c=>?_ |refine s3 rfl ?_ ?_<;>rintro rfl |refine aU rfl ?_ |refine Aa ?_)
   ((refine aC rfl ?_ ?_<;>rintro⟨⟩);all_goals try (simp at c;done))
   refine aK ?_;(repeat first |refine sN rfl ?_ |((first|refine sA rfl ?_ ?_|refine s4 rfl ‹_› rfl ?_ ?_);first|exact tI|omega|simp only[oZ] at *;omega) |refine s2 rfl λ_ c=>?_ |refine s3 rfl ?_ ?_<;>rintro rfl |refine aU rfl ?_ |refine Aa ?_);(refine pW rfl ?_ rfl (by rfl);refine Aj rfl rfl rfl (by first|(simp;done)|(simp;(first|omega|simp only[oZ] at *;omega))) rfl (by intro r i;simp at i;subst i;rfl) (by rfl) (co rfl) (by simp;omega) ?_);(repeat first |refine sN rfl ?_ |((first|refine sA rfl ?_ ?_|refine s4 rfl ‹_› rfl ?_ ?_);first|exact tI|omega|simp only[oZ] at *;omega) |refine s2 rfl λ_ c=>?_ |refine s3 rfl ?_ ?_<;>rintro rfl |refine aU rfl ?_ |refine Aa ?_);refine⟨⟨k+1,by first|omega|simp only[oZ] at *;omega⟩,by dsimp only;(first|omega|simp only[oZ] at *;omega),[1],?_⟩;simp[cX,zC,d,l]
  ·(repeat first |refine sN rfl ?_ |((first|refine sA rfl ?_ ?_|refine s4 rfl ‹_› rfl ?_ ?_);first|exact tI|omega|simp only[oZ] at *;omega) |refine s2 rfl λ_ c=>?_ |refine s3 rfl ?_ ?_<;>rintro rfl |refine aU rfl ?_ |refine Aa ?_)
   ((refine aC rfl ?_ ?_<;>rintro⟨⟩);all_goals try (simp at c;done))
   (repeat first |refine sN rfl ?_ |((first|refine sA rfl ?_ ?_|refine s4 rfl ‹_› rfl ?_ ?_);first|exact tI|omega|simp only[oZ] at *;omega) |refine s2 rfl λ_ c=>?_ |refine s3 rfl ?_ ?_<;>rintro rfl |refine aU rfl ?_ |refine Aa ?_);(refine pW rfl ?_ rfl (by rfl);refine Aj rfl rfl rfl (by first|(simp;done)|(simp;(first|omega|simp only[oZ] at *;omega))) rfl (by intro r i;simp at i;subst i;rfl) (by rfl) (co rfl) (by simp;omega) ?_);(repeat first |refine sN rfl ?_ |((first|refine sA rfl ?_ ?_|refine s4 rfl ‹_› rfl ?_ ?_);first|exact tI|omega|simp only[oZ] at *;omega) |refine s2 rfl λ_ c=>?_ |refine s3 rfl ?_ ?_<;>rintro rfl |refine aU rfl ?_ |refine Aa ?_);refine⟨⟨k+1,by first|omega|simp only[oZ] at *;omega⟩,by dsimp only;(first|omega|simp only[oZ] at *;omega),[1],?_⟩;simp[cX,zC,d,l]
 ·obtain rfl:k=a.ac.length:=by omega
  rw [i9];(repeat first |refine sN rfl ?_ |((first|refine sA rfl ?_ ?_|refine s4 rfl ‹_› rfl ?_ ?_);first|exact tI|omega|simp only[oZ] at *;omega) |refine s2 rfl λ_ c=>?_ |refine s3 rfl ?_ ?_<;>rintro rfl |refine aU rfl ?_ |refine Aa ?_)
  ((refine aC rfl ?_ ?_<;>rintro⟨⟩);all_goals try(exfalso;first|omega|simp only[oZ] at *;omega))
  refine aE ?_;refine Au.C9 [0] [1] rfl [(4,AH (Dx a))] ⟨⟨_,rfl,.o (.full (by simp) rfl (by simp [Dx,d4]) (by simp [Dx]))⟩,trivial⟩ ?_;(try dsimp only[cA,cB]);(repeat first |refine sN rfl ?_ |((first|refine sA rfl ?_ ?_|refine s4 rfl ‹_› rfl ?_ ?_);first|exact tI|omega|simp only[oZ] at *;omega) |refine s2 rfl λ_ c=>?_ |refine sP rfl (q) rfl ?_ |refine s3 rfl ?_ ?_<;>rintro rfl |refine aU rfl ?_ |refine Aa ?_);refine aB ?_
  have f:∀cs:List Int,(Cn (A8 a cs)).length=a.nx.length/\(uq (A8 a cs)).length<=a.nx.length:=λcs=>⟨by simp [Cn,Cq],by have:=E9 (A8 a cs);rw [Cq] at this;exact this⟩
  generalize z:OK a (a.nx.length+2) (Cn (A8 a (Dx a))) (uq (A8 a (Dx a))).length 0=R;refine aL (U:={s:(List Int×Nat×Nat)×Nat // OK a s.2 s.1.1 s.1.2.1 s.1.2.2=R/\s.1.1.length=a.nx.length/\s.1.2.1<=a.nx.length/\a.nx.length+1<=s.1.2.2+s.2}) [1] [] rfl rfl (λs=>[(4,AH s.1.1.1),(7,eI .i64 s.1.1.2.2),(8,eI .i64 s.1.1.2.1)]) (λs=>[]) 0 (λs=>s.1.2) (⟨⟨⟨_,_,0⟩,a.nx.length+2⟩,z,(f _).1,(f _).2,by dsimp only;omega⟩) d rfl (by ((repeat' first|exact tI|rfl|refine And.intro ?_ ?_)<;>(simp[cX,zC,d]<;>rfl))) ?_;rintro⟨⟨⟨cs,mo,n⟩,k⟩,e,j,m,p⟩;(try dsimp only[cA,cB]);have e:OK a k cs mo n=R:=e;have j:cs.length=a.nx.length:=j;have m:mo<=a.nx.length:=m;have p:a.nx.length+1<=n+k:=p;by_cases x:n < mo
  ·obtain⟨k',rfl⟩:∃k',k=k'+1:=⟨k - 1,by omega⟩
   unfold OK at e;rw [if_pos x] at e;have i:=Ln (TB:=TB) h.b j;(repeat first |refine sN rfl ?_ |((first|refine sA rfl ?_ ?_|refine s4 rfl ‹_› rfl ?_ ?_);first|exact tI|omega|simp only[oZ] at *;omega) |refine s2 rfl λ_ c=>?_ |refine s3 rfl ?_ ?_<;>rintro rfl |refine aU rfl ?_ |refine Aa ?_)
   ((refine aC rfl ?_ ?_<;>rintro⟨⟩);all_goals try(exfalso;first|omega|simp only[oZ] at *;omega))
   refine aK ?_;refine aB ?_;(repeat first |refine sN rfl ?_ |((first|refine sA rfl ?_ ?_|refine s4 rfl ‹_› rfl ?_ ?_);first|exact tI|omega|simp only[oZ] at *;omega) |refine s2 rfl λ_ c=>?_ |refine sP rfl (i) rfl ?_ |refine s3 rfl ?_ ?_<;>rintro rfl |refine aU rfl ?_ |refine Aa ?_);refine⟨⟨⟨⟨_,_,mo⟩,k'⟩,e,(f _).1,(f _).2,by dsimp only;omega⟩,by dsimp only;(first|omega|simp only[oZ] at *;omega),[],?_⟩;simp[cX,zC,d,Cn,d4]
  ·have v:(cs,n)=R:=by
    rw [<-e]
    cases k with
    | zero=>rfl
    | succ k=>unfold OK;rw [if_neg x]
   subst v;(repeat first |refine sN rfl ?_ |((first|refine sA rfl ?_ ?_|refine s4 rfl ‹_› rfl ?_ ?_);first|exact tI|omega|simp only[oZ] at *;omega) |refine s2 rfl λ_ c=>?_ |refine s3 rfl ?_ ?_<;>rintro rfl |refine aU rfl ?_ |refine Aa ?_)
   ((refine aC rfl ?_ ?_<;>rintro⟨⟩);all_goals try(exfalso;first|omega|simp only[oZ] at *;omega))
   refine aE ?_;(repeat first |refine sN rfl ?_ |((first|refine sA rfl ?_ ?_|refine s4 rfl ‹_› rfl ?_ ?_);first|exact tI|omega|simp only[oZ] at *;omega) |refine s2 rfl λ_ c=>?_ |refine s3 rfl ?_ ?_<;>rintro rfl |refine aU rfl ?_ |refine Aa ?_);(subst_vars;exact aR ⟨_,rfl,rfl⟩)
end Go.Am
namespace Go.Am
set_option linter.unusedVariables false
theorem KO{ls:List UInt8}{u v:W}(d:Av ls u)(b:Av ls v):Av ls (u++v):=λc a=>by
 rcases f9.1 a with a|a
 ·exact d c a
 ·exact b c a
def gz{p:AK}(hp:AI p=true):Fin (LA p) (AU p.al) (Df p).nx.length where
 st w:=(AN (Df p) 0 w).toNat
 lt w hw:=by
  have a:=KF (Qc hp);have:=a.g.iV w (q:=0) (by rw [a.al];exact hw) (by have:=a.g.n1;omega);omega
 same u w v c hw b h:=by
  have a:=KF (Qc hp);have e:=a.g.n1;have i:=a.g.iV u (q:=0) (by rw [a.al];exact c) (by omega);have f:=a.g.iV w (q:=0) (by rw [a.al];exact hw) (by omega)
  have d:AN (Df p) 0 u=AN (Df p) 0 w:=by omega
  rw [<-a.lang _ (KO c b),<-a.lang _ (KO hw b),OT,OT,DD,DD,d]
theorem cJ{p:AK}(hp:AI p=true){t:Bh}(h:TOk (LA p) (AU p.al) t):t.rows.length<=(Df p).nx.length:=h.dD (gz hp)
theorem dG{p:AK}(hp:AI p=true){t:Bh}(h:Bu (LA p) (AU p.al) t)(ha:∀w,Av (AU p.al) w->Mx (LA p) t w=LA p w):t.rows.length=(Df p).nx.length:=by
 have b:=KF (Qc hp);refine qQ (cJ hp h.toTOk) ?_;have key:∀i:Nat,i < (Df p).nx.length->∃w,Av (AU p.al) w/\AN (Df p) 0 w=i:=b.rc
 let f:Nat->Nat:=λi=>if hi:i < (Df p).nx.length then runM (LA p) t 0 (Classical.choose (key i hi)) else 0
 have d:∀i,i < (Df p).nx.length->∃w,Av (AU p.al) w/\AN (Df p) 0 w=i/\f i=runM (LA p) t 0 w:=λi hi=>by
  have:=oW (key i hi);exact⟨_,this.1,this.2,by simp only [f,hi,dite_true]⟩
 have m:((List.range (Df p).nx.length).map f).Nodup:=by
  unfold List.Nodup;rw [nS];refine(qf.1 qI).imp λ{i j} a e=>?_;obtain⟨u,c,q,g⟩:=d i (jp.1 a.1);obtain⟨v,k,o,n⟩:=d j (jp.1 a.2.1);rw [g,n] at e;refine a.2.2 (b.ds i j (jp.1 a.1) (jp.1 a.2.1) λw hw=>?_);rw [b.al] at hw;rw [<-q,<-o,<-DD,<-DD,<-OT,<-OT,b.lang _ (KO c hw),b.lang _ (KO k hw),<-ha _ (KO c hw),<-ha _ (KO k hw)];unfold Mx;rw [JS,JS,e]
 have:=HV t.rows.length _ m λx l=>by
  obtain⟨i,hi,rfl⟩:=em.1 l;obtain⟨u,c,_,g⟩:=d i (jp.1 hi);rw [g];exact h.run u 0 c (am.1 h.r0).1
 simpa using this
end Go.Am
