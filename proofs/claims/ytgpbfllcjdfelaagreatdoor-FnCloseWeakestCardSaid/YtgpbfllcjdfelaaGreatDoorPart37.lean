/-
  Nodes of a graph with a sink are numbered in the order of the words that lead to them, plainly: the sink is number 1.
-/
import Derived.Test.YtgpbfllcjdfelaaGreatDoorPart34
import Derived.Test.YtgpbfllcjdfelaaGreatDoorPart36
set_option linter.all false
namespace Go.Am
set_option linter.unusedVariables false
section
variable {U:Type}[DecidableEq U]
def aAZ(nd:List U):Option U->Int
 | none=>1
 | some x=>if nd.idxOf x=0 then 0 else ((nd.idxOf x+1:Nat):Int)
structure aA4 (f:U->Int->Option U) (ls:List Int) (s:U) (nd:List U) (rows:List (List Int)):Prop where
 st:nd[0]? = some s
 nodup:nd.Nodup
 len:rows.length<=nd.length
 row:∀(i:Nat) (r:List Int),rows[i]? = some r->∃q,nd[i]? = some q/\r=ls.map (λl=>aAZ nd (f q l))/\∀l∈ls,∀x,f q l=some x->x∈nd
 rc:∀Z:List U,s∈Z->(∀q∈Z,∀l∈ls,∀x,f q l=some x->x∈Z)->∀q∈nd,q∈Z
structure aA3 (f:U->Int->Option U) (ls:List Int) (s:U) (nd:List U) (rows:List (List Int)):Prop where
 st:nd[0]? = some s
 nodup:nd.Nodup
 len:rows.length=nd.length
 row:∀(i:Nat) (q:U),nd[i]? = some q->rows[i]? = some (ls.map λl=>aAZ nd (f q l))
 cl:∀q∈nd,∀l∈ls,∀x,f q l=some x->x∈nd
end
def rng(k:Nat):List Int:=(List.range k).map λ(i:Nat)=>(i:Int)
section
variable {U:Type}[DecidableEq U]
def stO(f:U->Int->Option U):Option U->Int->Option U
 | none,_=>none
 | some q,l=>f q l
def aAp(f:U->Int->Option U):Option U->W->Option U
 | o,[]=>o
 | o,c::w=>aAp f (stO f o ((c.toNat:Int) - 97)) w
end
theorem aAU{al:Int}{nx:List (List Int)}{ac:List Bool}{i:Nat}{l:Int}{g:Int->Int}(b:nx[i]? = some ((Ac al).map g))(a:l∈Ac al):Bj ⟨al,nx,ac⟩ i l=g l:=by
 have hb:=Au a;unfold Bj;rw [if_pos hb.2.2]
 show (nx.getD i []).getD _ 0=_
 rw [kC,kC,b,lN,d9,OE a,lu,lN]
theorem aAM{β:Type}[DecidableEq β]{g:β->Int->β}{al:Int}{s:β}{nd:List β}{rows:List (List Int)}(h:Vk g (Ac al) s nd rows){ac:List Bool}{i:Nat}{q:β}{l:Int}(hi:nd[i]? = some q)(a:l∈Ac al):∃k:Nat,Bj ⟨al,rows,ac⟩ i l=k/\nd[k]? = some (g q l):=by
 have b:=h.cl q (co hi) l a;exact⟨_,aAU (h.row i q hi) a,by rw [d7 (lD.2 b),mF]⟩
theorem aAW{β:Type}[DecidableEq β]{g:β->Int->β}{al:Int}{s:β}{nd:List β}{rows:List (List Int)}(h:Vk g (Ac al) s nd rows)(f:nd.length<=64){ac:List Bool}:Iz ⟨al,rows,ac⟩:=by
 have e:=h.len;refine⟨by show rows.length<=64;omega,λq c=>?_⟩;have c:q < rows.length:=c;obtain⟨x,b⟩:=get_some (l:=nd) (k:=q) (by omega);refine⟨_,h.row q x b,by simp,λk y a=>?_⟩;rw [d9] at a
 cases hk:(Ac al)[k]? with
 | none=>rw [hk] at a;cases a
 | some l=>
  rw [hk] at a
  injection a with a
  have a:((nd.idxOf (g x l):Nat):Int)=y:=a;have d:=h.cl x (co b) l (co hk);have:=lD.2 d
  show 0<=y/\y < ((rows.length:Nat):Int)
  omega
section
variable {U:Type}[DecidableEq U]{f:U->Int->Option U}{al:Int}
def whG(al:Int)(nd:List (Option U))(rows:List (List Int)):AY:=⟨al,rows,nd.map Option.isSome⟩
theorem aAx{o:Option U}{nd:List (Option U)}{rows:List (List Int)}(h:Vk (stO f) (Ac al) o nd rows):∀(w:W) {i:Nat} {q:Option U},AD (A2 al) w->nd[i]? = some q->∃j:Nat,AI (whG al nd rows) i w=j/\nd[j]? = some (aAp f q w)
 | [],i,q,_,hi=>⟨i,rfl,hi⟩
 | c :: w,i,q,hw,hi=>by
  obtain⟨l,b,rfl⟩:=d8.1 (hw c (by simp));have hb:=Au b;have e:((lb l).toNat:Int) - 97=l:=Ff hb.1 (by omega);obtain⟨k,a,n⟩:=aAM h (ac:=nd.map Option.isSome) hi b;have a:Bj (whG al nd rows) i l=k:=a;obtain⟨j,m,g⟩:=aAx h w (λx d=>hw x (by simp [d])) n;refine⟨j,?_,?_⟩
  ·show AI _ (Bj _ ((i:Int).toNat) (((lb l).toNat:Int) - 97)) w=_
   rw [e,f6,a];exact m
  ·show nd[j]? = some (aAp f (stO f q (((lb l).toNat:Int) - 97)) w)
   rw [e];exact g
theorem aAX{o:Option U}{nd:List (Option U)}{rows:List (List Int)}(h:Vk (stO f) (Ac al) o nd rows){w:W}(hw:AD (A2 al) w):LA (whG al nd rows) w=(aAp f o w).isSome:=by
 obtain⟨j,a,b⟩:=aAx h w hw h.st;have c:((0:Nat):Int)=0:=rfl;rw [c] at a;unfold LA;rw [a,f6]
 show (nd.map Option.isSome).getD j false=_
 rw [kC,d9,b];rfl
theorem aA2{o:Option U}{nd:List (Option U)}{rows:List (List Int)}(h:Vk (stO f) (Ac al) o nd rows)(b:nd.length<=64):Gg (whG al nd rows):=by
 have c:=h.len;have a:=(am.1 h.st).1;exact⟨aAW h b,by show 1<=rows.length;omega,by show (nd.map Option.isSome).length=rows.length;rw [gc];omega⟩
end
noncomputable instance aA5:DecidableEq PS:=λa b=>Classical.propDecidable (a=b)
noncomputable def nxO(t:Cw)(F:PS)(l:Int):Option PS:=if JV t (Ed t l F)=true then none else some (Ed t l F)
noncomputable def stP(t:Cw):Option PS:=if JV t (CD t)=true then none else some (CD t)
theorem aAg{U:Type}{f:U->Int->Option U}:∀w,aAp f none w=none
 | []=>rfl
 | c::w=>aAg (f:=f) w
theorem aAt{t:Cw}:∀(w:W) {F:PS},JV t F=false->(aAp (nxO t) (some F) w).isSome=Iy t F w
 | [],F,h=>by simp [aAp,Iy,h]
 | c :: w,F,h=>by
  simp only [aAp,Iy,h,nW,lX,stO,nxO];split
  ·rename_i hb
   rw [aAg];cases w<;>simp [Iy,hb]
  ·rename_i hb
   exact aAt w (Bool.eq_false_iff.2 hb)
theorem aAT{t:Cw}(w:W):(aAp (nxO t) (stP t) w).isSome=LS t w:=by
 unfold stP LS;split
 ·rename_i hb
  rw [aAg];cases w<;>simp [Iy,hb]
 ·rename_i hb
  exact aAt w (Bool.eq_false_iff.2 hb)
def aAL(m:AY):Option AY:=if 12 < m.nx.length then none else some m
noncomputable def aAi(t:Cw):Option AY:=match Oa 41 (stO (nxO t)) (Ac t.al) (stP t) with
 | none=>none
 | some p=>if 40 < p.1.length/\none∉p.1 then none else aAL (CP (whG t.al p.1 p.2))
theorem aAk{t:Cw}{nd:List (Option PS)}{rows:List (List Int)}(h:Oa 41 (stO (nxO t)) (Ac t.al) (stP t)=some (nd,rows)):Gg (whG t.al nd rows)/\∀w,AD (A2 t.al) w->LA (whG t.al nd rows) w=LS t w:=by
 obtain⟨a,b,_⟩:=Pu (by omega) h;exact⟨aA2 a (by omega),λw hw=>by rw [aAX a hw,aAT]⟩
theorem aAS{t:Cw}(hal:BO t.al=true){m:AY}(h:aAi t=some m):AL m=true/\m.al=t.al/\(∀w,AD (A2 t.al) w->LA m w=LS t w)/\(CP m).nx.length=m.nx.length:=by
 unfold aAi at h
 cases d:Oa 41 (stO (nxO t)) (Ac t.al) (stP t) with
 | none=>rw [d] at h;cases h
 | some p=>
  obtain⟨nd,rows⟩:=p;rw [d] at h;simp only at h;split at h
  ·cases h
  ·unfold aAL at h
   split at h
   ·cases h
   ·rename_i f
    injection h with h
    subst h;obtain⟨g,hw⟩:=aAk d;have c:=Kp g;have e:(CP (whG t.al nd rows)).al=t.al:=c.al;exact⟨iI c.g.b c.g.n1 (by omega) (by rw [e];exact hal) c.g.ac,e,λw a=>by rw [c.lang w a,hw w a],iR g⟩
end Go.Am
namespace Go.Am
open Go Go.Proofs
set_option maxHeartbeats 1000000
set_option maxRecDepth 4000
attribute [local irreducible] AU BZ Lex Br Aj Spec
abbrev okT:W->Prop:=λ_=>True
def phM(m:E8)(i:Int):Option PS:=if i < 0 then none else m.F[i.toNat]?
def okM(t:Cw)(m:E8)(i:Int):Prop:=i = -1\/∃(j:Nat) (F:PS),i=j/\m.F[j]? = some F/\JV t F=false
theorem aAc(m:E8):phM m (-1)=none:=by unfold phM;rw [if_pos (by decide)]
theorem aAb(m:E8)(j:Nat):phM m j=m.F[j]?:=by unfold phM;rw [if_neg (by omega),f6]
theorem iF.refl(m:E8):iF m m:=λ_ _ h=>h
theorem iF.trans{a b c:E8}(h:iF a b)(k:iF b c):iF a c:=λi F e=>k i F (h i F e)
theorem aAr{t:Cw}{m m':E8}{i:Int}(h:iF m m')(b:okM t m i):okM t m' i/\phM m' i=phM m i:=by
 rcases b with rfl|⟨j,F,rfl,a,hb⟩
 ·exact⟨.inl rfl,by rw [aAc,aAc]⟩
 ·exact⟨.inr ⟨j,F,rfl,h j F a,hb⟩,by rw [aAb,aAb,a,h j F a]⟩
theorem aAO{t:Cw}{m m':E8}{nd:List Int}(h:iF m m')(b:∀q∈nd,okM t m q):nd.map (phM m')=nd.map (phM m):=lz λq a=>(aAr h (b q a)).2
theorem aAN{t:Cw}{m:E8}(e:m.F.Nodup)(a b:Int)(ha:okM t m a)(hb:okM t m b)(h:phM m a=phM m b):a=b:=by
 rcases ha with rfl|⟨j,F,rfl,d,_⟩
 ·rcases hb with rfl|⟨k,G,rfl,c,_⟩
  ·rfl
  ·rw [aAc,aAb,c] at h;cases h
 ·rcases hb with rfl|⟨k,G,rfl,c,_⟩
  ·rw [aAc,aAb,d] at h;cases h
  ·rw [aAb,aAb] at h
   rw [(mO (am.1 d).1 e).1 h]
theorem aAP{t:Cw}{m m':E8}{f:Option PS->Int->Option PS}{Q:Option PS}{nd row ls:List Int}{y l:Int}(j:m'.F.Nodup)(b:iF m m')(c:∀q∈nd,okM t m q)(e:okM t m' y)(i:phM m' y=f Q l) :
 Fj 41 f Q (nd.map (phM m)) row (l::ls)=if y∈nd then Fj 41 f Q (nd.map (phM m')) (row++[((nd.idxOf y:Nat):Int)]) ls else if nd.length=41 then none else Fj 41 f Q ((nd++[y]).map (phM m')) (row++[(nd.length:Int)]) ls:=by
 obtain⟨d,k⟩:=Uf (R:=okM t m') (φ:=phM m') (aAN j) (nd:=nd) (x:=y) (λq g=>(aAr b (c q g)).1) e;rw [<-aAO b c];simp only [Fj];rw [<-i,k,gc,lR];by_cases a:y∈nd
 ·rw [if_pos a,if_pos (d.2 a)]
 ·rw [if_neg a,if_neg λh=>a (d.1 h)]
  rfl
theorem aAQ{t:Cw}{F:PS}(h:Reach t F):fw t okT F:=by
 suffices ∃u,F=Nl t (CD t) u by
  obtain⟨u,a⟩:=this;exact .inr ⟨u,[],trivial,a⟩
 induction h with
 | start=>exact⟨[],rfl⟩
 | @next F l e d _ b=>
  obtain⟨u,a⟩:=b;refine⟨u++[UInt8.ofNat (97+l.toNat)],?_⟩;rw [RD,<-a];simp only [Nl]
  have c:(UInt8.ofNat (97+l.toNat)).toNat=97+l.toNat:=by simp;omega
  rw [c,show ((97+l.toNat:Nat):Int) - 97=l by omega]
end Go.Am
namespace Go.Am
open Go Go.Proofs
set_option maxHeartbeats 1000000
set_option maxRecDepth 4000
attribute [local irreducible] AU BZ Lex Br Aj Spec
variable {TB:Bp}[FA TB]
abbrev saT(t:Cw)(m:E8):Ab:=[(0,.cells 124 1 [[.ptr 1 14 0 0]]),(1,.cells 131 14 [ZE t (.arr 2 12 0 (m).F.length) (.mp 3) (.arr 4 6 0 (m).nx.length) (.arr 5 1 0 (m).un.length)]),(2,.cells 189 12 ((m).F.map ON)),(3,.mp (mapA .u16 (N5 (m).F))),(4,.cells 109 6 ((m).nx.map OK)),(5,.cells 4 1 ((m).un.map AP))]
theorem aAV{r:List Nat}:∀i,i < 2->(0::1::r)[i]? = some i
 | 0,_|1,_=>rfl
def aAY(t:Cw)(m0:E8)(f:Option PS->Int->Option PS)(ls:List Int)(s0:Int)(x:E)(σ:Ab)(nx:Nat):Prop:=∃(m:E8) (o:Option (List Int×List (List Int))),Hh t okT m/\iF m0 m/\(∀p,o=some p->∀q∈p.1,okM t m q)/\Oa 41 f ls (phM m0 s0)=(o.map λp=>(p.1.map (phM m),p.2))/\x=fT o/\σ=saT t m/\nx=6
theorem aAq{t:Cw}{m0:E8}{f:Option PS->Int->Option PS}{ls:List Int}{s0:Int}{g:FuncId}(hll:ls.length<=6)(hm0:Hh t okT m0)(hl0:m0.F.length<=100)(hs:okM t m0 s0)
 (hg:∀(m:E8) (q l:Int),Hh t okT m->m.F.length<=1000->okM t m q->l∈ls->∃(m':E8) (y:Int),Hh t okT m'/\iF m m'/\m'.F.length<=m.F.length+1/\okM t m' y/\phM m' y=f (phM m q) l/\AS Tryz.prog TB g 2 (saT t m) 6 [eI .i64 q,eI .i64 l,.o (.ptr 0 1 0 0)] (λx σ nx=>x=eI .i64 y/\σ=saT t m'/\nx=6)) :
 AS Tryz.prog TB 111 2 (saT t m0) 6 [eI .i64 s0,AW ls,eI .i64 41,.o (.fn g [.ptr 0 1 0 0])] (aAY t m0 f ls s0):=by
 unfold aAY Oa;generalize hA0:Gl 41 f ls 41 [phM m0 s0] []=A;refine AS.AV (AS.PZ (m:=2) (ce rfl) Tryz.func111 rfl (by kernel_rfl) (ce rfl) ?_);intro Γ e;(repeat first |refine sN rfl ?_ |((first|refine sX rfl ?_ ?_|refine s4 rfl ‹_› rfl ?_ ?_);first|exact tI|omega|simp only[oZ] at *;omega) |refine s2 rfl λ_ a=>?_ |refine s3 rfl ?_ ?_<;>rintro rfl |refine aU rfl ?_ |refine Aa ?_);(refine pW rfl ?_ rfl (by rfl);refine Bg rfl rfl rfl rfl (by simp [eC]) (by rfl) (by rfl) (by rfl) (by rfl) ?_);(repeat first |refine sN rfl ?_ |((first|refine sX rfl ?_ ?_|refine s4 rfl ‹_› rfl ?_ ?_);first|exact tI|omega|simp only[oZ] at *;omega) |refine s2 rfl λ_ a=>?_ |refine s3 rfl ?_ ?_<;>rintro rfl |refine aU rfl ?_ |refine Aa ?_);(refine pW rfl ?_ rfl (by rfl);refine HZ ?_);(repeat first |refine sN rfl ?_ |((first|refine sA rfl ?_ ?_|refine s4 rfl ‹_› rfl ?_ ?_);first|exact tI|omega|simp only[oZ] at *;omega) |refine s2 rfl λ_ a=>?_ |refine s3 rfl ?_ ?_<;>rintro rfl |refine aU rfl ?_ |refine Aa ?_);(refine Ag rfl ?_;refine Fo ?_ rfl (by rfl);refine dM (YF (l:=[]) rfl rfl rfl rfl rfl ?_));(repeat first |refine sN rfl ?_ |((first|refine sM rfl ?_ ?_|refine s4 rfl ‹_› rfl ?_ ?_);first|exact tI|omega|simp only[oZ] at *;omega) |refine s2 rfl λ_ a=>?_ |refine s3 rfl ?_ ?_<;>rintro rfl |refine aU rfl ?_ |refine Aa ?_ |refine rE (by kernel_rfl) ?_);(refine pW rfl ?_ rfl (by rfl);refine Js 1 53 ?_);(repeat first |refine sN rfl ?_ |((first|refine sM rfl ?_ ?_|refine s4 rfl ‹_› rfl ?_ ?_);first|exact tI|omega|simp only[oZ] at *;omega) |refine s2 rfl λ_ a=>?_ |refine s3 rfl ?_ ?_<;>rintro rfl |refine aU rfl ?_ |refine Aa ?_ |refine rE (by kernel_rfl) ?_);refine aB ?_;refine aL (U:={z:E8×List Int×List (List Int) // Gl 41 f ls (41 - z.2.2.length) (z.2.1.map (phM z.1)) z.2.2=A/\z.2.2.length<=z.2.1.length/\1<=z.2.1.length/\z.2.1.length<=41/\(∀q∈z.2.1,okM t z.1 q)/\Hh t okT z.1/\iF m0 z.1/\z.1.F.length<=100+6*z.2.2.length}) [1,2,12] [] rfl rfl (λs=>[(3,.o (.fn g [.ptr 0 1 0 0])),(11,.o (.arr 6 1 0 s.1.2.1.length)),(13,.o (.arr 8 1 0 s.1.2.2.length)),(14,eI .i64 s.1.2.2.length)]) (λs=>[(0,.cells 124 1 [[.ptr 1 14 0 0]]),(1,.cells 131 14 [ZE t (.arr 2 12 0 (s.1.1).F.length) (.mp 3) (.arr 4 6 0 (s.1.1).nx.length) (.arr 5 1 0 (s.1.1).un.length)]),(2,.cells 189 12 ((s.1.1).F.map ON)),(3,.mp (mapA .u16 (N5 (s.1.1).F))),(4,.cells 109 6 ((s.1.1).nx.map OK)),(5,.cells 4 1 ((s.1.1).un.map AP)),(6,.cells 3 1 (s.1.2.1.map AE)),(7,.mp (IQ (SV s.1.2.1))),(8,.cells 53 1 (s.1.2.2.map λr=>[.d (EK r)]))]) 9 (λs=>41 - s.1.2.2.length) (⟨⟨m0,[s0],[]⟩,by simpa using hA0,by simp,by simp,by simp,by simpa using hs,hm0,iF.refl _,by simpa using hl0⟩) e rfl (by ((repeat' first|exact tI|rfl|refine And.intro ?_ ?_)<;>(simp[cX,zC,e,AO,eC,BC,Af,SV]<;>rfl))) ?_;rintro⟨⟨m,nd,rows⟩,L,X,hn1,T,J,hm,u,hml⟩;(try dsimp only[cA,cB]);have L:Gl 41 f ls (41 - rows.length) (nd.map (phM m)) rows=A:=L;have X:rows.length<=nd.length:=X;have hn1:1<=nd.length:=hn1;have T:nd.length<=41:=T;have J:∀q∈nd,okM t m q:=J;have hm:Hh t okT m:=hm;have u:iF m0 m:=u;have hml:m.F.length<=100+6*rows.length:=hml;by_cases hlt:rows.length < nd.length
 ·obtain⟨q,Z⟩:=get_some hlt
  obtain⟨k,hk⟩:∃k,41 - rows.length=k+1:=⟨41 - rows.length - 1,by omega⟩
  rw [hk] at L
  have hqm:(nd.map (phM m))[rows.length]? = some (phM m q):=by rw [d9,Z];rfl
  simp only [Gl,hqm] at L;generalize hB0:Fj 41 f (phM m q) (nd.map (phM m)) [] ls=B at L;have hRq:=J q (co Z);(repeat first |refine sN rfl ?_ |((first|refine sA rfl ?_ ?_|refine s4 rfl ‹_› rfl ?_ ?_);first|exact tI|omega|simp only[oZ] at *;omega) |refine s2 rfl λ_ a=>?_ |refine s3 rfl ?_ ?_<;>rintro rfl |refine aU rfl ?_ |refine Aa ?_)
  ((refine aC rfl ?_ ?_<;>rintro⟨⟩);all_goals try(exfalso;first|omega|simp only[oZ] at *;omega))
  refine aK ?_;refine aS (aB ?_);(repeat first |refine sN rfl ?_ |((first|refine sM rfl ?_ ?_|refine s4 rfl ‹_› rfl ?_ ?_);first|exact tI|omega|simp only[oZ] at *;omega) |refine s2 rfl λ_ a=>?_ |refine s3 rfl ?_ ?_<;>rintro rfl |refine aU rfl ?_ |refine Aa ?_ |refine rE (by kernel_rfl) ?_);(refine pW rfl ?_ rfl (by rfl);refine Js 1 3 ?_);(repeat first |refine sN rfl ?_ |((first|refine sM rfl ?_ ?_|refine s4 rfl ‹_› rfl ?_ ?_);first|exact tI|omega|simp only[oZ] at *;omega) |refine s2 rfl λ_ a=>?_ |refine s3 rfl ?_ ?_<;>rintro rfl |refine aU rfl ?_ |refine Aa ?_ |refine rE (by kernel_rfl) ?_);refine aB ?_;refine aL (U:={z:(E8×List Int×List Int)×Nat // z.2<=ls.length/\Fj 41 f (phM m q) (z.1.2.1.map (phM z.1.1)) z.1.2.2 (ls.drop z.2)=B/\z.1.2.2.length=z.2/\nd.length<=z.1.2.1.length/\z.1.2.1.length<=41/\(∀q∈z.1.2.1,okM t z.1.1 q)/\z.1.2.1[rows.length]? = some q/\Hh t okT z.1.1/\iF m z.1.1/\z.1.1.F.length<=m.F.length+z.2}) [1,2,12,13,14,32,33] [8] rfl rfl (λs=>[(3,.o (.fn g [.ptr 0 1 0 0])),(11,.o (.arr 6 1 0 s.1.1.2.1.length)),(15,.o (.arr 9 1 0 s.1.2)),(34,eI .i64 s.1.2)]) (λs=>[(0,.cells 124 1 [[.ptr 1 14 0 0]]),(1,.cells 131 14 [ZE t (.arr 2 12 0 (s.1.1.1).F.length) (.mp 3) (.arr 4 6 0 (s.1.1.1).nx.length) (.arr 5 1 0 (s.1.1.1).un.length)]),(2,.cells 189 12 ((s.1.1.1).F.map ON)),(3,.mp (mapA .u16 (N5 (s.1.1.1).F))),(4,.cells 109 6 ((s.1.1.1).nx.map OK)),(5,.cells 4 1 ((s.1.1.1).un.map AP)),(6,.cells 3 1 (s.1.1.2.1.map AE)),(7,.mp (IQ (SV s.1.1.2.1))),(9,.cells 3 1 (s.1.1.2.2.map AE))]) 10 (λs=>ls.length - s.1.2) (⟨⟨⟨m,nd,[]⟩,0⟩,by simp,hB0,rfl,i7 _,T,J,Z,hm,iF.refl _,i7 _⟩) e rfl (by ((repeat' first|exact tI|rfl|refine And.intro ?_ ?_)<;>(simp[cX,zC,e,AO,eC,BC,Af,Jn]<;>rfl))) ?_;rintro⟨⟨⟨Q,b,row⟩,j⟩,hj,v,w,S,M,K,H,P,c,R⟩;(try dsimp only[cA,cB]);have hj:j<=ls.length:=hj;have v:Fj 41 f (phM m q) (b.map (phM Q)) row (ls.drop j)=B:=v;have w:row.length=j:=w;have S:nd.length<=b.length:=S;have M:b.length<=41:=M;have K:∀q∈b,okM t Q q:=K;have H:b[rows.length]? = some q:=H;have P:Hh t okT Q:=P;have c:iF m Q:=c;have R:Q.F.length<=m.F.length+j:=R;by_cases hjl:j < ls.length
  ·obtain⟨l,hl⟩:=get_some hjl
   have hl':=get_map (g:=CN) hl;have hlm:=co hl;obtain⟨Y,hqe⟩:=aAr c hRq;obtain⟨V,y,N,n,hml2,hy,hfy,hcy⟩:=hg Q q l P (by omega) Y hlm;rw [hqe] at hfy
   have hq':(b.map AE)[0+((rows.length:Nat):Int).toNat]? = some (AE q):=by rw [kG,f6];simp [H]
   rw [CX hl,aAP N.nd n K hy hfy] at v;have hR2:∀q∈b,okM t V q:=λq Z=>(aAr n (K q Z)).1;have I:=Vz b y;(repeat first |refine sN rfl ?_ |((first|refine sA rfl ?_ ?_|refine s4 rfl ‹_› rfl ?_ ?_);first|exact tI|omega|simp only[oZ] at *;omega) |refine s2 rfl λ_ a=>?_ |refine s3 rfl ?_ ?_<;>rintro rfl |refine aU rfl ?_ |refine Aa ?_)
   ((refine aC rfl ?_ ?_<;>rintro⟨⟩);all_goals try(exfalso;first|omega|simp only[oZ] at *;omega))
   refine aK ?_;refine aS (aB ?_);(repeat first |refine sN rfl ?_ |((first|refine sA rfl ?_ ?_|refine s4 rfl ‹_› rfl ?_ ?_);first|exact tI|omega|simp only[oZ] at *;omega) |refine s2 rfl λ_ a=>?_ |refine s3 rfl ?_ ?_<;>rintro rfl |refine aU rfl ?_ |refine Aa ?_);(refine pW rfl ?_ rfl (by rfl);refine BG [0,1,2,3,4,5] rfl rfl 2 (hcy) (by decide) ⟨rfl,by decide,by decide⟩ rfl (by simp[cX,zC,e,AO]) ?_;rintro x0 σ1 nx1 ⟨rfl,rfl,rfl⟩ _);by_cases hin:y∈b
   ·rw [if_pos hin] at v I
    (repeat first |refine sN rfl ?_ |((first|refine sA rfl ?_ ?_|refine s4 rfl ‹_› rfl ?_ ?_);first|exact tI|omega|simp only[oZ] at *;omega) |refine s2 rfl λ_ a=>?_|(refine Ag rfl ?_;refine gA rfl ?_;first|refine gQ (Zh I rfl rfl rfl) rfl ?_) |refine s3 rfl ?_ ?_<;>rintro rfl |refine aU rfl ?_ |refine Aa ?_)
    ((refine aC rfl ?_ ?_<;>rintro⟨⟩);all_goals try (simp at a;done))
    refine aK ?_;(repeat first |refine sN rfl ?_ |((first|refine sA rfl ?_ ?_|refine s4 rfl ‹_› rfl ?_ ?_);first|exact tI|omega|simp only[oZ] at *;omega) |refine s2 rfl λ_ a=>?_ |refine s3 rfl ?_ ?_<;>rintro rfl |refine aU rfl ?_ |refine Aa ?_);(refine pW rfl ?_ rfl (by rfl);refine Aw rfl rfl rfl (by first|(simp;done)|(simp;(first|omega|simp only[oZ] at *;omega))) rfl (by intro r G;simp at G;subst G;rfl) (by rfl) (ce rfl) (by simp;omega) ?_);(repeat first |refine sN rfl ?_ |((first|refine sA rfl ?_ ?_|refine s4 rfl ‹_› rfl ?_ ?_);first|exact tI|omega|simp only[oZ] at *;omega) |refine s2 rfl λ_ a=>?_ |refine s3 rfl ?_ ?_<;>rintro rfl |refine aU rfl ?_ |refine Aa ?_);refine⟨⟨⟨⟨V,b,row++[((b.idxOf y:Nat):Int)]⟩,j+1⟩,by dsimp only;omega,v,by simp [w],S,M,hR2,H,N,c.trans n,by dsimp only;omega⟩,by dsimp only;(first|omega|simp only[oZ] at *;omega),[0,1,10,11,12,13,6,7,8,14],?_⟩;simp[cX,zC,e,AO,Jn];exact aAV
   ·rw [if_neg hin] at v I
    (repeat first |refine sN rfl ?_ |((first|refine sA rfl ?_ ?_|refine s4 rfl ‹_› rfl ?_ ?_);first|exact tI|omega|simp only[oZ] at *;omega) |refine s2 rfl λ_ a=>?_|(refine Ag rfl ?_;refine gA rfl ?_;first|refine gQ (Zg I rfl rfl rfl) rfl ?_) |refine s3 rfl ?_ ?_<;>rintro rfl |refine aU rfl ?_ |refine Aa ?_)
    ((refine aC rfl ?_ ?_<;>rintro⟨⟩);all_goals try (simp at a;done))
    by_cases hfu:b.length=41
    ·rw [if_pos hfu] at v
     subst v;(repeat first |refine sN rfl ?_ |((first|refine sA rfl ?_ ?_|refine s4 rfl ‹_› rfl ?_ ?_);first|exact tI|omega|simp only[oZ] at *;omega) |refine s2 rfl λ_ a=>?_ |refine s3 rfl ?_ ?_<;>rintro rfl |refine aU rfl ?_ |refine Aa ?_)
     ((refine aC rfl ?_ ?_<;>rintro⟨⟩);all_goals try(exfalso;first|omega|simp only[oZ] at *;omega))
     (repeat first |refine sN rfl ?_ |((first|refine sA rfl ?_ ?_|refine s4 rfl ‹_› rfl ?_ ?_);first|exact tI|omega|simp only[oZ] at *;omega) |refine s2 rfl λ_ a=>?_ |refine s3 rfl ?_ ?_<;>rintro rfl |refine aU rfl ?_ |refine Aa ?_);have L:none=A:=L;subst L;exact aR ⟨_,rfl,[0,1,10,11,12,13],fT none,saT t V,⟨by intro i hi;match i with|0=>rfl|1=>rfl,by decide⟩,rfl,by ((repeat' first|exact tI|rfl|refine And.intro ?_ ?_)<;>(simp[cX,zC,e,AO]<;>rfl)),V,none,N,u.trans (c.trans n),(λp hp=>by cases hp),rfl,rfl,rfl,rfl⟩
    ·rw [if_neg hfu] at v
     (repeat first |refine sN rfl ?_ |((first|refine sA rfl ?_ ?_|refine s4 rfl ‹_› rfl ?_ ?_);first|exact tI|omega|simp only[oZ] at *;omega) |refine s2 rfl λ_ a=>?_ |refine s3 rfl ?_ ?_<;>rintro rfl |refine aU rfl ?_ |refine Aa ?_)
     ((refine aC rfl ?_ ?_<;>rintro⟨⟩);all_goals try(exfalso;first|omega|simp only[oZ] at *;omega))
     refine aK ?_;(repeat first |refine sN rfl ?_ |((first|refine sA rfl ?_ ?_|refine s4 rfl ‹_› rfl ?_ ?_);first|exact tI|omega|simp only[oZ] at *;omega) |refine s2 rfl λ_ a=>?_ |refine s3 rfl ?_ ?_<;>rintro rfl |refine aU rfl ?_ |refine Aa ?_);(refine Ag rfl ?_;refine Fo ?_ rfl (by rfl);refine YF rfl rfl rfl rfl I ?_);rw [<-Uq];(repeat first |refine sN rfl ?_ |((first|refine sA rfl ?_ ?_|refine s4 rfl ‹_› rfl ?_ ?_);first|exact tI|omega|simp only[oZ] at *;omega) |refine s2 rfl λ_ a=>?_ |refine s3 rfl ?_ ?_<;>rintro rfl |refine aU rfl ?_ |refine Aa ?_);(refine pW rfl ?_ rfl (by rfl);refine Aw rfl rfl rfl (by first|(simp;done)|(simp;(first|omega|simp only[oZ] at *;omega))) rfl (by intro r G;simp at G;subst G;rfl) (by rfl) (ce rfl) (by simp;omega) ?_);(repeat first |refine sN rfl ?_ |((first|refine sA rfl ?_ ?_|refine s4 rfl ‹_› rfl ?_ ?_);first|exact tI|omega|simp only[oZ] at *;omega) |refine s2 rfl λ_ a=>?_ |refine s3 rfl ?_ ?_<;>rintro rfl |refine aU rfl ?_ |refine Aa ?_);(refine pW rfl ?_ rfl (by rfl);refine Aw rfl rfl rfl (by first|(simp;done)|(simp;(first|omega|simp only[oZ] at *;omega))) rfl (by intro r G;simp at G;subst G;rfl) (by rfl) (ce rfl) (by simp;omega) ?_);(repeat first |refine sN rfl ?_ |((first|refine sA rfl ?_ ?_|refine s4 rfl ‹_› rfl ?_ ?_);first|exact tI|omega|simp only[oZ] at *;omega) |refine s2 rfl λ_ a=>?_ |refine s3 rfl ?_ ?_<;>rintro rfl |refine aU rfl ?_ |refine Aa ?_);refine⟨⟨⟨⟨V,b++[y],row++[(b.length:Int)]⟩,j+1⟩,by dsimp only;omega,v,by simp [w],by simp;omega,by simp;omega,(λz hz=>by rcases em.1 hz with h|h;exact hR2 z h;simp at h;subst h;exact hy),by rw [f9 (by omega)];exact H,N,c.trans n,by dsimp only;omega⟩,by dsimp only;(first|omega|simp only[oZ] at *;omega),[0,1,10,11,12,13,14,7,8,15],?_⟩;simp[cX,zC,e,AO,Jn];exact aAV
  ·obtain rfl:j=ls.length:=by omega
   rw [nL] at v;simp only [Fj] at v;subst v;simp only at L;(repeat first |refine sN rfl ?_ |((first|refine sA rfl ?_ ?_|refine s4 rfl ‹_› rfl ?_ ?_);first|exact tI|omega|simp only[oZ] at *;omega) |refine s2 rfl λ_ a=>?_ |refine s3 rfl ?_ ?_<;>rintro rfl |refine aU rfl ?_ |refine Aa ?_)
   ((refine aC rfl ?_ ?_<;>rintro⟨⟩);all_goals try(exfalso;first|omega|simp only[oZ] at *;omega))
   refine aE ?_;refine Aj.EO [9] [1,2,3,11,12,13,14] rfl [(15,AW row)] ⟨⟨_,rfl,.o (.full (by simp) rfl (by simp [d4]) (by simpa using w))⟩,trivial⟩ ?_;(try dsimp only[cA,cB]);(repeat first |refine sN rfl ?_ |((first|refine sA rfl ?_ ?_|refine s4 rfl ‹_› rfl ?_ ?_);first|exact tI|omega|simp only[oZ] at *;omega) |refine s2 rfl λ_ a=>?_ |refine s3 rfl ?_ ?_<;>rintro rfl |refine aU rfl ?_ |refine Aa ?_);(refine pW rfl ?_ rfl (by rfl);refine Aw rfl rfl rfl (by first|(simp;done)|(simp;(first|omega|simp only[oZ] at *;omega))) rfl (by intro r G;simp at G;subst G;rfl) (by rfl) (ce rfl) (by simp;omega) ?_);(repeat first |refine sN rfl ?_ |((first|refine sA rfl ?_ ?_|refine s4 rfl ‹_› rfl ?_ ?_);first|exact tI|omega|simp only[oZ] at *;omega) |refine s2 rfl λ_ a=>?_ |refine s3 rfl ?_ ?_<;>rintro rfl |refine aU rfl ?_ |refine Aa ?_);refine⟨⟨⟨Q,b,rows++[row]⟩,by show Gl 41 f ls (41 - (rows++[row]).length) (b.map (phM Q)) _=A;rw [lf,List.length_singleton,show 41 - (rows.length+1)=k by omega];exact L,by simp;omega,by dsimp only;omega,M,K,P,u.trans c,by dsimp only;rw [lf,List.length_singleton];omega⟩,by dsimp only;(first|omega|simp only[oZ] at *;omega),[0,1,2,3,4,5,6,7,10],?_⟩;simp[cX,zC,e,AO,Jn];exact aAV
 ·have hA2:A=some (nd.map (phM m),rows):=by
   rw [<-L]
   cases 41 - rows.length with
   | zero=>rfl
   | succ k=>simp only [Gl];rw [kE (by rw [gc];omega)]
  subst hA2;(repeat first |refine sN rfl ?_ |((first|refine sA rfl ?_ ?_|refine s4 rfl ‹_› rfl ?_ ?_);first|exact tI|omega|simp only[oZ] at *;omega) |refine s2 rfl λ_ a=>?_ |refine s3 rfl ?_ ?_<;>rintro rfl |refine aU rfl ?_ |refine Aa ?_)
  ((refine aC rfl ?_ ?_<;>rintro⟨⟩);all_goals try(exfalso;first|omega|simp only[oZ] at *;omega))
  refine aE ?_;refine Aj.EO [6,8] [1,2,3,12,14] rfl [(11,AW nd),(13,JZ rows)] ⟨⟨_,rfl,.o (.full (by simp) rfl (by simp [d4]) (by simp))⟩,⟨_,rfl,.o (.full (by simp) rfl (by simp [d4]) (by simp))⟩,trivial⟩ ?_;(try dsimp only[cA,cB]);(repeat first |refine sN rfl ?_ |((first|refine sA rfl ?_ ?_|refine s4 rfl ‹_› rfl ?_ ?_);first|exact tI|omega|simp only[oZ] at *;omega) |refine s2 rfl λ_ a=>?_ |refine s3 rfl ?_ ?_<;>rintro rfl |refine aU rfl ?_ |refine Aa ?_);exact aR ⟨_,rfl,[0,1,2,3,4,5],fT (some (nd,rows)),saT t m,⟨by intro i hi;match i with|0=>rfl|1=>rfl,by decide⟩,rfl,by ((repeat' first|exact tI|rfl|refine And.intro ?_ ?_)<;>(simp[cX,zC,e,AO]<;>rfl)),m,some (nd,rows),hm,u,(λp hp=>by cases hp;exact J),rfl,rfl,rfl,rfl⟩
theorem aAy(l:List Int)(s:Int):Pure Tryz.prog TB 181 [AW l,eI .i64 s] (eI .i64 (if s∈l then (l.idxOf s:Int) else -1)):=by
 refine eG Tryz.func181 rfl (by kernel_rfl) rfl ?_;intro Γ c;refine Aj.bound 0 rfl λi=>?_;have o:=i (l.map CN) .refl;rw [gc] at o;(repeat first |refine sN rfl ?_ |((first|refine sA rfl ?_ ?_|refine s4 rfl ‹_› rfl ?_ ?_);first|exact tI|omega|simp only[oZ] at *;omega) |refine s2 rfl λ_ a=>?_ |refine s3 rfl ?_ ?_<;>rintro rfl |refine aU rfl ?_ |refine Aa ?_);refine aB ?_;refine aL (U:={k:Nat // k<=l.length/\s∉l.take k}) [0,1,7] [] rfl rfl (λ⟨k,hk,b⟩=>[(8,eI .i64 k)]) (λ⟨k,hk,b⟩=>[]) 0 (λ⟨k,hk,b⟩=>l.length - k) (⟨0,by omega,by simp⟩) c rfl (by ((repeat' first|exact tI|rfl|refine And.intro ?_ ?_)<;>(simp[cX,zC,c]<;>rfl))) ?_;rintro⟨k,hk,b⟩;(try dsimp only[cA,cB]);have hk:k<=l.length:=hk;have b:s∉l.take k:=b;by_cases h:k < l.length
 ·obtain⟨x,d⟩:=get_some h
  have m:=get_map (g:=CN) d;(repeat first |refine sN rfl ?_ |((first|refine sA rfl ?_ ?_|refine s4 rfl ‹_› rfl ?_ ?_);first|exact tI|omega|simp only[oZ] at *;omega) |refine s2 rfl λ_ a=>?_ |refine s3 rfl ?_ ?_<;>rintro rfl |refine aU rfl ?_ |refine Aa ?_)
  ((refine aC rfl ?_ ?_<;>rintro⟨⟩);all_goals try(exfalso;first|omega|simp only[oZ] at *;omega))
  refine aK ?_;refine aS (aB ?_);by_cases j:s=x
  ·subst j
   have n:s∈l:=co d
   have hi:l.idxOf s=k:=by
    have e:l=l.take k++s::l.drop (k+1):=by rw [<-CX d,lv]
    rw [e,me,if_neg b,nR];simp;omega
   rw [if_pos n,hi]
   (repeat' first |refine sN rfl ?_ |((first|refine sA rfl ?_ ?_|refine s4 rfl ‹_› rfl ?_ ?_);first|exact tI|omega|simp only[oZ] at *;omega) |refine s2 rfl λ_ a=>?_ |refine s3 rfl ?_ ?_<;>rintro rfl |refine aU rfl ?_ |refine Aa ?_|(refine aC rfl ?_ ?_<;>rintro⟨⟩));all_goals try contradiction
   all_goals first
    | (exfalso;first|omega|simp only[oZ] at *;omega;done)
    | (exfalso;simp at *;done)
    | (subst_vars;exact aR ⟨_,rfl,rfl⟩)
  ·have f:s∉l.take (k+1):=by
    rw [io,d];simp [b,j]
   (repeat' first |refine sN rfl ?_ |((first|refine sA rfl ?_ ?_|refine s4 rfl ‹_› rfl ?_ ?_);first|exact tI|omega|simp only[oZ] at *;omega) |refine s2 rfl λ_ a=>?_ |refine s3 rfl ?_ ?_<;>rintro rfl |refine aU rfl ?_ |refine Aa ?_|(refine aC rfl ?_ ?_<;>rintro⟨⟩));all_goals try contradiction
   all_goals first
    | (exfalso;first|omega|simp only[oZ] at *;omega;done)
    | skip
   refine aK ?_;(repeat first |refine sN rfl ?_ |((first|refine sA rfl ?_ ?_|refine s4 rfl ‹_› rfl ?_ ?_);first|exact tI|omega|simp only[oZ] at *;omega) |refine s2 rfl λ_ a=>?_ |refine s3 rfl ?_ ?_<;>rintro rfl |refine aU rfl ?_ |refine Aa ?_);refine⟨⟨k+1,by first|omega|simp only[oZ] at *;omega,f⟩,by dsimp only;(first|omega|simp only[oZ] at *;omega),[],?_⟩;simp[cX,zC,c]
 ·obtain rfl:k=l.length:=by omega
  rw [kz] at b;rw [if_neg b];(repeat first |refine sN rfl ?_ |((first|refine sA rfl ?_ ?_|refine s4 rfl ‹_› rfl ?_ ?_);first|exact tI|omega|simp only[oZ] at *;omega) |refine s2 rfl λ_ a=>?_ |refine s3 rfl ?_ ?_<;>rintro rfl |refine aU rfl ?_ |refine Aa ?_)
  ((refine aC rfl ?_ ?_<;>rintro⟨⟩);all_goals try(exfalso;first|omega|simp only[oZ] at *;omega))
  refine aE ?_;(repeat first |refine sN rfl ?_ |((first|refine sA rfl ?_ ?_|refine s4 rfl ‹_› rfl ?_ ?_);first|exact tI|omega|simp only[oZ] at *;omega) |refine s2 rfl λ_ a=>?_ |refine s3 rfl ?_ ?_<;>rintro rfl |refine aU rfl ?_ |refine Aa ?_);(subst_vars;exact aR ⟨_,rfl,rfl⟩)
theorem aAo(l:List Int)(s:Int):Pure Tryz.prog TB 112 [AW l,eI .i64 s] (eB (decide (s∈l))):=by
 have h:=aAy (TB:=TB) l s;refine eG Tryz.func112 rfl (by kernel_rfl) rfl ?_;intro Γ c;(repeat first |refine sN rfl ?_ |((first|refine sA rfl ?_ ?_|refine s4 rfl ‹_› rfl ?_ ?_);first|exact tI|omega|simp only[oZ] at *;omega) |refine s2 rfl λ_ a=>?_ |refine sP rfl (h) rfl ?_ |refine s3 rfl ?_ ?_<;>rintro rfl |refine aU rfl ?_ |refine Aa ?_);by_cases b:s∈l
 ·rw [if_pos b] at *
  (repeat first |refine sN rfl ?_ |((first|refine sA rfl ?_ ?_|refine s4 rfl ‹_› rfl ?_ ?_);first|exact tI|omega|simp only[oZ] at *;omega) |refine s2 rfl λ_ a=>?_ |refine sP rfl (h) rfl ?_ |refine s3 rfl ?_ ?_<;>rintro rfl |refine aU rfl ?_ |refine Aa ?_);refine aR ⟨_,rfl,?_⟩
  show E.o _=E.o _
  congr;simp at *;grind
 ·rw [if_neg b] at *
  (repeat first |refine sN rfl ?_ |((first|refine sA rfl ?_ ?_|refine s4 rfl ‹_› rfl ?_ ?_);first|exact tI|omega|simp only[oZ] at *;omega) |refine s2 rfl λ_ a=>?_ |refine sP rfl (h) rfl ?_ |refine s3 rfl ?_ ?_<;>rintro rfl |refine aU rfl ?_ |refine Aa ?_);refine aR ⟨_,rfl,?_⟩
  show E.o _=E.o _
  congr;simp at *;grind
theorem aAu{t:Cw}(ht:A3 t=true)(m:E8)(q l:Int)(p:Hh t okT m)(H:m.F.length<=1000)(G:okM t m q)(I:l∈Ac t.al):∃(m':E8) (y:Int),Hh t okT m'/\iF m m'/\m'.F.length<=m.F.length+1/\okM t m' y/\phM m' y=stO (nxO t) (phM m q) l/\
 AS Tryz.prog TB 109 2 (saT t m) 6 [eI .i64 q,eI .i64 l,.o (.ptr 0 1 0 0)] (λx σ nx=>x=eI .i64 y/\σ=saT t m'/\nx=6):=by
 have f:=Au I
 rcases G with rfl|⟨j,F,rfl,r,hb⟩
 ·refine⟨m,-1,p,iF.refl _,Nat.le_succ _,.inl rfl,by rw [aAc];rfl,?_⟩
  refine AS.AV (AS.PZ (m:=2) (ce rfl) Tryz.func109 rfl (by kernel_rfl) (ce rfl) ?_);intro Γ a
  (repeat' first |refine sN rfl ?_ |((first|refine sA rfl ?_ ?_|refine s4 rfl ‹_› rfl ?_ ?_);first|exact tI|omega|simp only[oZ] at *;omega) |refine s2 rfl λ_ b=>?_ |refine s3 rfl ?_ ?_<;>rintro rfl |refine aU rfl ?_ |refine Aa ?_|(refine aC rfl ?_ ?_<;>rintro⟨⟩));all_goals try contradiction
  all_goals first
   | (exfalso;first|omega|simp only[oZ] at *;omega;done)
   | (exfalso;simp at *;done)
   | (refine aK ?_)
  (repeat' first |refine sN rfl ?_ |((first|refine sA rfl ?_ ?_|refine s4 rfl ‹_› rfl ?_ ?_);first|exact tI|omega|simp only[oZ] at *;omega) |refine s2 rfl λ_ b=>?_ |refine s3 rfl ?_ ?_<;>rintro rfl |refine aU rfl ?_ |refine Aa ?_|(refine aC rfl ?_ ?_<;>rintro⟨⟩));all_goals try contradiction
  all_goals first
   | (exfalso;first|omega|simp only[oZ] at *;omega;done)
   | (exfalso;simp at *;done)
   | (refine aK ?_)
  (repeat first |refine sN rfl ?_ |((first|refine sA rfl ?_ ?_|refine s4 rfl ‹_› rfl ?_ ?_);first|exact tI|omega|simp only[oZ] at *;omega) |refine s2 rfl λ_ b=>?_ |refine s3 rfl ?_ ?_<;>rintro rfl |refine aU rfl ?_ |refine Aa ?_);exact aR ⟨_,rfl,[0,1,2,3,4,5],eI .i64 (-1),saT t m,⟨by intro i hi;match i with|0=>rfl|1=>rfl,by decide⟩,rfl,by ((repeat' first|exact tI|rfl|refine And.intro ?_ ?_)<;>(simp[cX,zC,a,AO]<;>rfl)),rfl,rfl,rfl⟩
 ·obtain⟨m',k,u,z,s,w,v⟩:=Vn (TB:=TB) ht p r ⟨f.1,by omega⟩ (by omega) (aAQ (.next f.1 (by omega) (p.rc F (co r))))
  have e:stO (nxO t) (phM m j) l=nxO t F l:=by rw [aAb,r];rfl
  have d:=u.un k _ s;have B:=(am.1 d).1;cases c:JV t (Ed t l F)
  ·rw [c] at d
   have n:(m'.un.map AP)[0+((k:Nat):Int).toNat]? = some (AP false):=by rw [kG,f6];simp [d]
   refine⟨m',k,u,z,w,.inr ⟨k,_,rfl,s,c⟩,by rw [e,aAb,s];unfold nxO;rw [if_neg (by rw [c];decide)],?_⟩;refine AS.AV (AS.PZ (m:=2) (ce rfl) Tryz.func109 rfl (by kernel_rfl) (ce rfl) ?_);intro Γ a;(repeat first |refine sN rfl ?_ |((first|refine sA rfl ?_ ?_|refine s4 rfl ‹_› rfl ?_ ?_);first|exact tI|omega|simp only[oZ] at *;omega) |refine s2 rfl λ_ b=>?_ |refine s3 rfl ?_ ?_<;>rintro rfl |refine aU rfl ?_ |refine Aa ?_)
   ((refine aC rfl ?_ ?_<;>rintro⟨⟩);all_goals try(exfalso;first|omega|simp only[oZ] at *;omega))
   (repeat first |refine sN rfl ?_ |((first|refine sA rfl ?_ ?_|refine s4 rfl ‹_› rfl ?_ ?_);first|exact tI|omega|simp only[oZ] at *;omega) |refine s2 rfl λ_ b=>?_ |refine s3 rfl ?_ ?_<;>rintro rfl |refine aU rfl ?_ |refine Aa ?_);(refine pW rfl ?_ rfl (by rfl);refine BG [1,2,3,4,5] rfl rfl 1 (v) (by decide) ⟨rfl,by decide,by decide⟩ rfl (by simp[cX,zC,a,AO]) ?_;rintro A g h ⟨rfl,rfl,rfl⟩ _);(repeat first |refine sN rfl ?_ |((first|refine sA rfl ?_ ?_|refine s4 rfl ‹_› rfl ?_ ?_);first|exact tI|omega|simp only[oZ] at *;omega) |refine s2 rfl λ_ b=>?_ |refine s3 rfl ?_ ?_<;>rintro rfl);refine Aa ?_;refine Aj.Ak [] [] rfl rfl [(0,eI .i64 k),(2,.o (.ptr 0 1 0 0))] [(0,.cells 124 1 [[.ptr 1 14 0 0]]),(1,.cells 131 14 [ZE t (.arr 2 12 0 (m').F.length) (.mp 3) (.arr 4 6 0 (m').nx.length) (.arr 5 1 0 (m').un.length)]),(2,.cells 189 12 ((m').F.map ON)),(3,.mp (mapA .u16 (N5 (m').F))),(4,.cells 109 6 ((m').nx.map OK)),(5,.cells 4 1 ((m').un.map AP))] [0,1,6,7,8,9] (rl a rfl) (by ((repeat' first|exact tI|rfl|refine And.intro ?_ ?_)<;>(simp[cX,zC,a,AO]<;>rfl))) ?_;(try dsimp only[cA,cB])
   (repeat' first |refine sN rfl ?_ |((first|refine sA rfl ?_ ?_|refine s4 rfl ‹_› rfl ?_ ?_);first|exact tI|omega|simp only[oZ] at *;omega) |refine s2 rfl λ_ b=>?_ |refine s3 rfl ?_ ?_<;>rintro rfl |refine aU rfl ?_ |refine Aa ?_|(refine aC rfl ?_ ?_<;>rintro⟨⟩));all_goals try contradiction
   all_goals first
    | (exfalso;first|omega|simp only[oZ] at *;omega;done)
    | skip
   refine aK ?_;(repeat first |refine sN rfl ?_ |((first|refine sA rfl ?_ ?_|refine s4 rfl ‹_› rfl ?_ ?_);first|exact tI|omega|simp only[oZ] at *;omega) |refine s2 rfl λ_ b=>?_ |refine s3 rfl ?_ ?_<;>rintro rfl |refine aU rfl ?_ |refine Aa ?_);exact aR ⟨_,rfl,[0,1,2,3,4,5],eI .i64 k,saT t m',⟨by intro i hi;match i with|0=>rfl|1=>rfl,by decide⟩,rfl,by ((repeat' first|exact tI|rfl|refine And.intro ?_ ?_)<;>(simp[cX,zC,a,AO]<;>rfl)),rfl,rfl,rfl⟩
  ·rw [c] at d
   have n:(m'.un.map AP)[0+((k:Nat):Int).toNat]? = some (AP true):=by rw [kG,f6];simp [d]
   refine⟨m',-1,u,z,w,.inl rfl,by rw [e,aAc];unfold nxO;rw [if_pos c],?_⟩;refine AS.AV (AS.PZ (m:=2) (ce rfl) Tryz.func109 rfl (by kernel_rfl) (ce rfl) ?_);intro Γ a;(repeat first |refine sN rfl ?_ |((first|refine sA rfl ?_ ?_|refine s4 rfl ‹_› rfl ?_ ?_);first|exact tI|omega|simp only[oZ] at *;omega) |refine s2 rfl λ_ b=>?_ |refine s3 rfl ?_ ?_<;>rintro rfl |refine aU rfl ?_ |refine Aa ?_)
   ((refine aC rfl ?_ ?_<;>rintro⟨⟩);all_goals try(exfalso;first|omega|simp only[oZ] at *;omega))
   (repeat first |refine sN rfl ?_ |((first|refine sA rfl ?_ ?_|refine s4 rfl ‹_› rfl ?_ ?_);first|exact tI|omega|simp only[oZ] at *;omega) |refine s2 rfl λ_ b=>?_ |refine s3 rfl ?_ ?_<;>rintro rfl |refine aU rfl ?_ |refine Aa ?_);(refine pW rfl ?_ rfl (by rfl);refine BG [1,2,3,4,5] rfl rfl 1 (v) (by decide) ⟨rfl,by decide,by decide⟩ rfl (by simp[cX,zC,a,AO]) ?_;rintro A g h ⟨rfl,rfl,rfl⟩ _);(repeat first |refine sN rfl ?_ |((first|refine sA rfl ?_ ?_|refine s4 rfl ‹_› rfl ?_ ?_);first|exact tI|omega|simp only[oZ] at *;omega) |refine s2 rfl λ_ b=>?_ |refine s3 rfl ?_ ?_<;>rintro rfl);refine Aa ?_;refine Aj.Ak [] [] rfl rfl [(0,eI .i64 k),(2,.o (.ptr 0 1 0 0))] [(0,.cells 124 1 [[.ptr 1 14 0 0]]),(1,.cells 131 14 [ZE t (.arr 2 12 0 (m').F.length) (.mp 3) (.arr 4 6 0 (m').nx.length) (.arr 5 1 0 (m').un.length)]),(2,.cells 189 12 ((m').F.map ON)),(3,.mp (mapA .u16 (N5 (m').F))),(4,.cells 109 6 ((m').nx.map OK)),(5,.cells 4 1 ((m').un.map AP))] [0,1,6,7,8,9] (rl a rfl) (by ((repeat' first|exact tI|rfl|refine And.intro ?_ ?_)<;>(simp[cX,zC,a,AO]<;>rfl))) ?_;(try dsimp only[cA,cB])
   (repeat' first |refine sN rfl ?_ |((first|refine sA rfl ?_ ?_|refine s4 rfl ‹_› rfl ?_ ?_);first|exact tI|omega|simp only[oZ] at *;omega) |refine s2 rfl λ_ b=>?_ |refine s3 rfl ?_ ?_<;>rintro rfl |refine aU rfl ?_ |refine Aa ?_|(refine aC rfl ?_ ?_<;>rintro⟨⟩));all_goals try contradiction
   all_goals first
    | (exfalso;first|omega|simp only[oZ] at *;omega;done)
    | skip
   exact aR ⟨_,rfl,[0,1,2,3,4,5],eI .i64 (-1),saT t m',⟨by intro i hi;match i with|0=>rfl|1=>rfl,by decide⟩,rfl,by ((repeat' first|exact tI|rfl|refine And.intro ?_ ?_)<;>(simp[cX,zC,a,AO]<;>rfl)),rfl,rfl,rfl⟩
theorem aAz{U:Type}{a:U}{l:List U}(b:l.Nodup)(h:∀x∈l,x=a):l.length<=1:=by
 match l,b,h with
 | [],_,_=>simp
 | [x],_,_=>simp
 | x::y::r,b,h=>
  have d:=h x (by simp);have c:=h y (by simp);rw [d,c] at b;simp at b
theorem aAn{t:Cw}(ht:A3 t=true):∃m,(KM t okT m/\m.F.length<=100)/\AS Tryz.prog TB 107 0 [] 0 [Im t] (λx σ nx=>x=.o (.ptr 0 14 0 0)/\σ=KF t m/\nx=5):=by
 obtain⟨m,a,h⟩:=Pr (TB:=TB) ht (λ_=>False)
 have hk:∀F∈m.F,F=CD t:=λF b=>by
  rcases a.1.rk F b with h|⟨_,_,h,_⟩
  ·exact h
  ·exact h.elim
 have c:=aAz a.1.nd hk;exact⟨m,⟨⟨⟨a.1.l1,a.1.l2,a.1.nd,a.1.rc,λF b=>.inl (hk F b),a.1.un,a.1.nx⟩,a.2⟩,by omega⟩,h⟩
noncomputable def aAl(t:Cw):Option AY:=if A3 t then aAi t else none
theorem aA1{X:Nat->Prop}{Y:Prop}(h:∀z,X z)(hk:(∀z,X z)->Y):Y:=hk h
theorem aA0{C X:Int->Prop}{Y:Prop}(h:∀s,C s->X s)(hk:(∀s,C s->X s)->Y):Y:=hk h
theorem aAE{t:Cw}{m:E8}{nd:List Int}(h:∀q∈nd,okM t m q):(nd.map (phM m)).map Option.isSome=nd.map (λq=>decide (q≠-1))/\((none:Option PS)∈nd.map (phM m)↔(-1:Int)∈nd):=by
 have key:∀q,okM t m q->(phM m q).isSome=decide (q≠-1):=by
  rintro q (rfl|⟨j,F,rfl,e,_⟩)
  ·rw [aAc];rfl
  ·rw [aAb,e]
   show true=decide _
   symm;rw [decide_eq_true_eq];omega
 refine⟨by rw [lK];exact lz λq a=>key q (h q a),λb=>?_,λb=>d8.2 ⟨-1,b,aAc m⟩⟩;obtain⟨q,a,d⟩:=d8.1 b;have:=key q (h q a);rw [d] at this;by_cases c:q = -1
 ·exact c ▸ a
 ·rw [decide_eq_true c] at this;cases this
theorem aAj(t:Cw):Pure Tryz.prog TB 45 [Im t] (XC (aAl t)):=by
 have G:=Kg (TB:=TB) t;unfold aAl;by_cases ht:A3 t=true
 ·rw [ht] at G
  rw [if_pos ht];obtain⟨m,⟨y,Q⟩,N⟩:=aAn (TB:=TB) ht;have h2:=CO (TB:=TB) t.al;have R:(Ac t.al).length<=6:=AK t.al 6;have X:=y.1.un 0 _ y.2;have hul:=(am.1 X).1
  have w:(m.un.map AP)[0+(0:Int).toNat]? = some (AP (JV t (CD t))):=by show (m.un.map AP)[0]? = _;simp [X]
  refine eG Tryz.func45 rfl (by kernel_rfl) rfl ?_;intro Γ c;(repeat first |refine sN rfl ?_ |((first|refine sA rfl ?_ ?_|refine s4 rfl ‹_› rfl ?_ ?_);first|exact tI|omega|simp only[oZ] at *;omega) |refine s2 rfl λ_ a=>?_ |refine sP rfl (G) rfl ?_ |refine s3 rfl ?_ ?_<;>rintro rfl |refine aU rfl ?_ |refine Aa ?_)
  ((refine aC rfl ?_ ?_<;>rintro⟨⟩);all_goals try (simp at a;done))
  refine aK ?_;(repeat first |refine sN rfl ?_ |((first|refine sA rfl ?_ ?_|refine s4 rfl ‹_› rfl ?_ ?_);first|exact tI|omega|simp only[oZ] at *;omega) |refine s2 rfl λ_ a=>?_ |refine s3 rfl ?_ ?_<;>rintro rfl |refine aU rfl ?_ |refine Aa ?_);(refine pW rfl ?_ rfl (by rfl);refine BG [] rfl rfl 0 (N) (by decide) ⟨rfl,by decide,by decide⟩ rfl (by simp[cX,zC,c,AO]) ?_;rintro x0 H I ⟨rfl,rfl,rfl⟩ _);(repeat first |refine sN rfl ?_ |((first|refine sA rfl ?_ ?_|refine s4 rfl ‹_› rfl ?_ ?_);first|exact tI|omega|simp only[oZ] at *;omega) |refine s2 rfl λ_ a=>?_ |refine s3 rfl ?_ ?_<;>rintro rfl);refine Aa ?_;refine Aj.Ak [1] [0] rfl rfl [(2,.o (.ptr 0 3 0 0)),(4,.o (.ptr 1 1 0 0))] [(1,.cells 124 1 [[.ptr 2 14 0 0]]),(2,.cells 131 14 [ZE t (.arr 3 12 0 (m).F.length) (.mp 4) (.arr 5 6 0 (m).nx.length) (.arr 6 1 0 (m).un.length)]),(3,.cells 189 12 ((m).F.map ON)),(4,.mp (mapA .u16 (N5 (m).F))),(5,.cells 109 6 ((m).nx.map OK)),(6,.cells 4 1 ((m).un.map AP))] [0,6,1,2,3,4,5] (rl c rfl) (by ((repeat' first|exact tI|rfl|refine And.intro ?_ ?_)<;>(simp[cX,zC,c,AO,eC,Af]<;>rfl))) ?_;(try dsimp only[cA,cB]);apply aA0 (C:=λs=>okM t m s/\phM m s=stP t)
  case hk=>
   intro hk;cases n:JV t (CD t)
   ·rw [n] at w
    (repeat first |refine sN rfl ?_ |((first|refine sA rfl ?_ ?_|refine s4 rfl ‹_› rfl ?_ ?_);first|exact tI|omega|simp only[oZ] at *;omega) |refine s2 rfl λ_ a=>?_ |refine sP rfl (h2) rfl ?_ |refine s3 rfl ?_ ?_<;>rintro rfl |refine aU rfl ?_ |refine Aa ?_)
    ((refine aC rfl ?_ ?_<;>rintro⟨⟩);all_goals try (simp at a;done))
    refine aK ?_
    obtain⟨s,u⟩:∃s:Int,s=0:=⟨_,rfl⟩
    refine Aj.Ak [1,5] [0,1,2,3,4,5,6] rfl rfl [(2,.o (.ptr 0 3 0 0)),(4,.o (.ptr 1 1 0 0)),(6,.o (.fn 109 [.ptr 1 1 0 0])),(7,eI .i64 s)] [] [0,1,2,3,4,5,6] (rl c rfl) (by ((repeat' first|exact tI|rfl|refine And.intro ?_ ?_)<;>(simp[cX,zC,c,AO,u]<;>rfl))) ?_;(try dsimp only[cA,cB]);exact hk s ⟨.inr ⟨0,_,u,y.2,n⟩,by rw [u];show phM m ((0:Nat):Int)=_;rw [aAb,y.2];unfold stP;rw [if_neg (by rw [n];decide)]⟩
   ·rw [n] at w
    (repeat first |refine sN rfl ?_ |((first|refine sA rfl ?_ ?_|refine s4 rfl ‹_› rfl ?_ ?_);first|exact tI|omega|simp only[oZ] at *;omega) |refine s2 rfl λ_ a=>?_ |refine sP rfl (h2) rfl ?_ |refine s3 rfl ?_ ?_<;>rintro rfl |refine aU rfl ?_ |refine Aa ?_)
    ((refine aC rfl ?_ ?_<;>rintro⟨⟩);all_goals try (simp at a;done))
    (repeat first |refine sN rfl ?_ |((first|refine sA rfl ?_ ?_|refine s4 rfl ‹_› rfl ?_ ?_);first|exact tI|omega|simp only[oZ] at *;omega) |refine s2 rfl λ_ a=>?_ |refine s3 rfl ?_ ?_<;>rintro rfl);refine aU rfl ?_;(repeat first |refine sN rfl ?_ |((first|refine sA rfl ?_ ?_|refine s4 rfl ‹_› rfl ?_ ?_);first|exact tI|omega|simp only[oZ] at *;omega) |refine s2 rfl λ_ a=>?_ |refine s3 rfl ?_ ?_<;>rintro rfl);refine Aa ?_
    obtain⟨s,u⟩:∃s:Int,s = -1:=⟨_,rfl⟩
    refine Aj.Ak [1,5] [0,1,2,3,4,5,6] rfl rfl [(2,.o (.ptr 0 3 0 0)),(4,.o (.ptr 1 1 0 0)),(6,.o (.fn 109 [.ptr 1 1 0 0])),(7,eI .i64 s)] [] [0,1,2,3,4,5,6] (rl c rfl) (by ((repeat' first|exact tI|rfl|refine And.intro ?_ ?_)<;>(simp[cX,zC,c,AO,u]<;>rfl))) ?_;(try dsimp only[cA,cB]);exact hk s ⟨.inl u,by rw [u,aAc];unfold stP;rw [if_pos n]⟩
  case h =>
   intro s ⟨K,J⟩;have P:=aAq (TB:=TB) (t:=t) (m0:=m) (f:=stO (nxO t)) (ls:=Ac t.al) (s0:=s) (g:=109) R y.1 Q K (aAu ht);(repeat first |refine sN rfl ?_ |((first|refine sA rfl ?_ ?_|refine s4 rfl ‹_› rfl ?_ ?_);first|exact tI|omega|simp only[oZ] at *;omega) |refine s2 rfl λ_ a=>?_ |refine s3 rfl ?_ ?_<;>rintro rfl |refine aU rfl ?_ |refine Aa ?_);(refine pW rfl ?_ rfl (by rfl);refine BG [1,2,3,4,5,6] rfl rfl 2 (P) (by decide) ⟨rfl,by decide,by decide⟩ rfl (by simp[cX,zC,c,AO]) ?_;rintro x0 H I ⟨m2,o,hm2,Z,L,e,rfl,rfl,rfl⟩ _);rw [J] at e
   cases o with
   | none=>
    have i:aAi t=none:=by unfold aAi;rw [e];rfl
    rw [i];(repeat first |refine sN rfl ?_ |((first|refine sA rfl ?_ ?_|refine s4 rfl ‹_› rfl ?_ ?_);first|exact tI|omega|simp only[oZ] at *;omega) |refine s2 rfl λ_ a=>?_ |refine s3 rfl ?_ ?_<;>rintro rfl |refine aU rfl ?_ |refine Aa ?_)
    (repeat' first |refine sN rfl ?_ |((first|refine sA rfl ?_ ?_|refine s4 rfl ‹_› rfl ?_ ?_);first|exact tI|omega|simp only[oZ] at *;omega) |refine s2 rfl λ_ a=>?_|(refine Ag rfl ?_;refine gA rfl ?_;first|refine gS (λ_ _=>AG rfl rfl (by rfl) (by rfl)) ?_) |refine s3 rfl ?_ ?_<;>rintro rfl |refine aU rfl ?_ |refine Aa ?_|(refine aC rfl ?_ ?_<;>rintro⟨⟩));all_goals try contradiction
    all_goals (subst_vars;exact aR ⟨_,rfl,rfl⟩)
   | some p =>
    obtain⟨nd,rows⟩:=p;have L:=L _ rfl;obtain⟨A,T⟩:=aAE L;have S:=aAo (TB:=TB) nd (-1);have e:Oa 41 (stO (nxO t)) (Ac t.al) (stP t)=some (nd.map (phM m2),rows):=e;have hw:=(aAk e).1;have j:=QU (TB:=TB) hw
    have hnd:nd.length<=64:=by
     have h3:=hw.b.1;have h4:=hw.ac;unfold whG at h3 h4;simp only [gc] at h3 h4;omega
    unfold whG at j;rw [A] at j
    have i:aAi t=if 40 < nd.length/\(-1:Int)∉nd then none else aAL (CP ⟨t.al,rows,nd.map (λq=>decide (q≠-1))⟩):=by
     unfold aAi;rw [e];simp only [gc,T];unfold whG;rw [A]
    rw [i];generalize CP ⟨t.al,rows,nd.map (λq=>decide (q≠-1))⟩=M at *;by_cases v:40 < nd.length/\(-1:Int)∉nd
    ·rw [if_pos v]
     rw [decide_eq_false v.2] at S;(repeat first |refine sN rfl ?_ |((first|refine sA rfl ?_ ?_|refine s4 rfl ‹_› rfl ?_ ?_);first|exact tI|omega|simp only[oZ] at *;omega) |refine s2 rfl λ_ a=>?_ |refine s3 rfl ?_ ?_<;>rintro rfl |refine aU rfl ?_ |refine Aa ?_)
     (repeat' first |refine sN rfl ?_ |((first|refine sA rfl ?_ ?_|refine s4 rfl ‹_› rfl ?_ ?_);first|exact tI|omega|simp only[oZ] at *;omega) |refine s2 rfl λ_ a=>?_ |refine sP rfl (S) rfl ?_|(refine Ag rfl ?_;refine gA rfl ?_;first|refine gS (λ_ _=>AG rfl rfl (by rfl) (by rfl)) ?_) |refine s3 rfl ?_ ?_<;>rintro rfl |refine aU rfl ?_ |refine Aa ?_|(refine aC rfl ?_ ?_<;>rintro⟨⟩));all_goals try contradiction
     all_goals first
      | (exfalso;first|omega|simp only[oZ] at *;omega;done)
      | (exfalso;simp at *;done)
      | (exfalso;grind;done)
      | (subst_vars;exact aR ⟨_,rfl,rfl⟩)
    ·rw [if_neg v]
     apply aA1
     case hk=>
      intro hk;(repeat first |refine sN rfl ?_ |((first|refine sA rfl ?_ ?_|refine s4 rfl ‹_› rfl ?_ ?_);first|exact tI|omega|simp only[oZ] at *;omega) |refine s2 rfl λ_ a=>?_ |refine s3 rfl ?_ ?_<;>rintro rfl |refine aU rfl ?_ |refine Aa ?_)
      (repeat' first |refine sN rfl ?_ |((first|refine sA rfl ?_ ?_|refine s4 rfl ‹_› rfl ?_ ?_);first|exact tI|omega|simp only[oZ] at *;omega) |refine s2 rfl λ_ a=>?_ |refine sP rfl (S) rfl ?_ |refine s3 rfl ?_ ?_<;>rintro rfl |refine aU rfl ?_ |refine Aa ?_|(refine aC rfl ?_ ?_<;>rintro⟨⟩));all_goals try contradiction
      all_goals first
       | (exfalso;first|omega|simp only[oZ] at *;omega;done)
       | (exfalso;simp at *;done)
       | (exfalso;grind;done)
       | skip
      all_goals
       refine aK ?_;refine Aj.Ak [1,8,9] [0] rfl rfl [(2,.o (.ptr 0 3 0 0))] [] [0] (rl c rfl) (by ((repeat' first|exact tI|rfl|refine And.intro ?_ ?_)<;>(simp[cX,zC,c]<;>rfl))) ?_;(try dsimp only[cA,cB])
       obtain⟨z,_⟩:∃z:Nat,z=0:=⟨_,rfl⟩
       exact hk z
     case h=>
     intro _;(repeat first |refine sN rfl ?_ |((first|refine sA rfl ?_ ?_|refine s4 rfl ‹_› rfl ?_ ?_);first|exact tI|omega|simp only[oZ] at *;omega) |refine s2 rfl λ_ a=>?_ |refine s3 rfl ?_ ?_<;>rintro rfl |refine aU rfl ?_ |refine Aa ?_);(refine pW rfl ?_ rfl (by rfl);refine MJ 2 1 4 rfl rfl rfl (by rfl) (by rfl) ?_);(repeat first |refine sN rfl ?_ |((first|refine sA rfl ?_ ?_|refine s4 rfl ‹_› rfl ?_ ?_);first|exact tI|omega|simp only[oZ] at *;omega) |refine s2 rfl λ_ a=>?_ |refine s3 rfl ?_ ?_<;>rintro rfl |refine aU rfl ?_ |refine Aa ?_);refine Aj.Ak [56,57,58] [0] rfl rfl [(2,.o (.ptr 0 3 0 0)),(11,.o (.ptr 1 3 0 0))] [(1,.cells 29 3 [[.d (iD t.al),.d (Da rows),.arr 2 1 0 0]]),(2,.cells 4 1 [])] [0,2,1] (rl c rfl) (by ((repeat' first|exact tI|rfl|refine And.intro ?_ ?_)<;>(simp[cX,zC,c,eC,BC,Af]<;>rfl))) ?_;(try dsimp only[cA,cB]);refine aB ?_;refine aL (U:={k:Nat // k<=nd.length}) [56,57] [] rfl rfl (λ⟨k,hk⟩=>[(2,.o (.ptr 0 3 0 0)),(11,.o (.ptr 1 3 0 0)),(58,eI .i64 k)]) (λ⟨k,hk⟩=>[(0,.cells 29 3 [[.d (iD 0),.d (.l []),.d (.l [])]]),(1,.cells 29 3 [[.d (iD t.al),.d (Da rows),.arr 2 1 0 k]]),(2,.cells 4 1 ((nd.take k).map λq=>AP (decide (q≠-1))))]) 3 (λ⟨k,hk⟩=>nd.length - k) (⟨0,by omega⟩) c rfl (by ((repeat' first|exact tI|rfl|refine And.intro ?_ ?_)<;>(simp[cX,zC,c,cN,Af,eC,BC]<;>rfl))) ?_;rintro⟨k,hk⟩;(try dsimp only[cA,cB]);(repeat first |refine sN rfl ?_ |((first|refine sA rfl ?_ ?_|refine s4 rfl ‹_› rfl ?_ ?_);first|exact tI|omega|simp only[oZ] at *;omega) |refine s2 rfl λ_ a=>?_ |refine s3 rfl ?_ ?_<;>rintro rfl |refine aU rfl ?_ |refine Aa ?_)
     ((refine aC rfl ?_ ?_<;>rintro⟨⟩);all_goals try (simp at a;done))
     ·obtain⟨x,V⟩:=get_some (l:=nd) (k:=k) (by first|omega|simp only[oZ] at *;omega)
      have hx':=get_map (g:=CN) V;refine aK ?_;refine aS (aB ?_);(repeat first |refine sN rfl ?_ |((first|refine sA rfl ?_ ?_|refine s4 rfl ‹_› rfl ?_ ?_);first|exact tI|omega|simp only[oZ] at *;omega) |refine s2 rfl λ_ a=>?_ |refine s3 rfl ?_ ?_<;>rintro rfl |refine aU rfl ?_ |refine Aa ?_);subst a;(refine pW rfl ?_ rfl (by rfl);refine Aw rfl rfl rfl (by first|(simp;done)|(simp;(first|omega|simp only[oZ] at *;omega))) rfl (by intro r Y;simp at Y;subst Y;rfl) (by rfl) (ce rfl) (by simp;omega) ?_);(repeat first |refine sN rfl ?_ |((first|refine sA rfl ?_ ?_|refine s4 rfl ‹_› rfl ?_ ?_);first|exact tI|omega|simp only[oZ] at *;omega) |refine s2 rfl λ_ a=>?_ |refine s3 rfl ?_ ?_<;>rintro rfl |refine aU rfl ?_ |refine Aa ?_);refine⟨⟨k+1,by first|omega|simp only[oZ] at *;omega⟩,by dsimp only;(first|omega|simp only[oZ] at *;omega),[0,1,3],?_⟩;simp[cX,zC,c,cN,Af,eC,BC,io,V]
     ·obtain rfl:k=nd.length:=by first|omega|simp only[oZ] at *;omega
      refine aE ?_;rw [kz];refine Aj.AH [1,2] [(2,.o (.ptr 0 3 0 0)),(11,.o (.ip (BP ⟨t.al,rows,nd.map (λq=>decide (q≠-1))⟩)))] ⟨⟨_,rfl,.inl rfl⟩,⟨_,rfl,.inr (.o (.box rfl (.cons .d (.cons .d (.cons (.full rfl (by simp [d4]) (by simp)) .nil)))))⟩,trivial⟩ ?_;(repeat first |refine sN rfl ?_ |((first|refine sA rfl ?_ ?_|refine s4 rfl ‹_› rfl ?_ ?_);first|exact tI|omega|simp only[oZ] at *;omega) |refine s2 rfl λ_ a=>?_ |refine sP rfl (j) rfl ?_ |refine s3 rfl ?_ ?_<;>rintro rfl |refine aU rfl ?_ |refine Aa ?_);unfold aAL;by_cases B:12 < M.nx.length
      ·rw [if_pos B]
       (repeat first |refine sN rfl ?_ |((first|refine sA rfl ?_ ?_|refine s4 rfl ‹_› rfl ?_ ?_);first|exact tI|omega|simp only[oZ] at *;omega) |refine s2 rfl λ_ a=>?_ |refine s3 rfl ?_ ?_<;>rintro rfl |refine aU rfl ?_ |refine Aa ?_)
       (repeat' first |refine sN rfl ?_ |((first|refine sA rfl ?_ ?_|refine s4 rfl ‹_› rfl ?_ ?_);first|exact tI|omega|simp only[oZ] at *;omega) |refine s2 rfl λ_ a=>?_|(refine Ag rfl ?_;refine gA rfl ?_;first|refine gS (λ_ _=>AG rfl rfl (by rfl) (by rfl)) ?_) |refine s3 rfl ?_ ?_<;>rintro rfl |refine aU rfl ?_ |refine Aa ?_|(refine aC rfl ?_ ?_<;>rintro⟨⟩));all_goals try contradiction
       all_goals first
        | (exfalso;first|omega|simp only[oZ] at *;omega;done)
        | (subst_vars;exact aR ⟨_,rfl,rfl⟩)
      ·rw [if_neg B]
       (repeat first |refine sN rfl ?_ |((first|refine sA rfl ?_ ?_|refine s4 rfl ‹_› rfl ?_ ?_);first|exact tI|omega|simp only[oZ] at *;omega) |refine s2 rfl λ_ a=>?_ |refine s3 rfl ?_ ?_<;>rintro rfl |refine aU rfl ?_ |refine Aa ?_)
       (repeat' first |refine sN rfl ?_ |((first|refine sA rfl ?_ ?_|refine s4 rfl ‹_› rfl ?_ ?_);first|exact tI|omega|simp only[oZ] at *;omega) |refine s2 rfl λ_ a=>?_|(refine Ag rfl ?_;refine gA rfl ?_;first|refine gS (λ_ _=>AG rfl rfl (by rfl) (by rfl)) ?_) |refine s3 rfl ?_ ?_<;>rintro rfl |refine aU rfl ?_ |refine Aa ?_|(refine aC rfl ?_ ?_<;>rintro⟨⟩));all_goals try contradiction
       all_goals first
        | (exfalso;first|omega|simp only[oZ] at *;omega;done)
        | (refine aK ?_)
       (repeat first |refine sN rfl ?_ |((first|refine sA rfl ?_ ?_|refine s4 rfl ‹_› rfl ?_ ?_);first|exact tI|omega|simp only[oZ] at *;omega) |refine s2 rfl λ_ a=>?_ |refine s3 rfl ?_ ?_<;>rintro rfl |refine aU rfl ?_ |refine Aa ?_);(subst_vars;exact aR ⟨_,rfl,rfl⟩)
 ·have ht:A3 t=false:=by simpa using ht
  rw [ht] at G;rw [if_neg (by rw [ht];decide)];refine eG Tryz.func45 rfl (by kernel_rfl) rfl ?_;intro Γ c;(repeat first |refine sN rfl ?_ |((first|refine sA rfl ?_ ?_|refine s4 rfl ‹_› rfl ?_ ?_);first|exact tI|omega|simp only[oZ] at *;omega) |refine s2 rfl λ_ a=>?_ |refine sP rfl (G) rfl ?_ |refine s3 rfl ?_ ?_<;>rintro rfl |refine aU rfl ?_ |refine Aa ?_)
  ((refine aC rfl ?_ ?_<;>rintro⟨⟩);all_goals try (simp at a;done))
  (repeat first |refine sN rfl ?_ |((first|refine sA rfl ?_ ?_|refine s4 rfl ‹_› rfl ?_ ?_);first|exact tI|omega|simp only[oZ] at *;omega) |refine s2 rfl λ_ a=>?_|(refine Ag rfl ?_;refine gA rfl ?_;first|refine gS (λ_ _=>AG rfl rfl (by rfl) (by rfl)) ?_) |refine s3 rfl ?_ ?_<;>rintro rfl |refine aU rfl ?_ |refine Aa ?_);(subst_vars;exact aR ⟨_,rfl,rfl⟩)
end Go.Am
namespace Go.Am
open Go Go.Proofs
set_option maxHeartbeats 1000000
set_option maxRecDepth 4000
attribute [local irreducible] AU BZ Lex Br Aj Spec
variable {TB:Bp}
theorem aAf(a b:List W):Pure Tryz.prog TB 105 [Bx a,Bx b] (eB (decide (a=b))):=by
  refine eN Tryz.func105 rfl (by kernel_rfl) rfl ?_;intro Γ d;refine Aj.bound 0 rfl λj=>?_;have j:=j (a.map BU) .refl;rw [gc] at j;(repeat first |refine sN rfl ?_ |((first|refine sA rfl ?_ ?_|refine s4 rfl ‹_› rfl ?_ ?_);first|exact tI|omega|simp only[oZ] at *;omega) |refine s2 rfl λ_ c=>?_ |refine s3 rfl ?_ ?_<;>rintro rfl |refine aU rfl ?_ |refine Aa ?_);(refine aC rfl ?_ ?_<;>rintro⟨⟩)
  · (repeat first |refine sN rfl ?_ |((first|refine sA rfl ?_ ?_|refine s4 rfl ‹_› rfl ?_ ?_);first|exact tI|omega|simp only[oZ] at *;omega) |refine s2 rfl λ_ c=>?_ |refine s3 rfl ?_ ?_<;>rintro rfl |refine aU rfl ?_ |refine Aa ?_)
    refine aR ⟨_,rfl,?_⟩
    have r:a≠b:=λh=>by subst h;first|omega|simp only[oZ] at *;omega
    show E.o _=E.o _;congr;grind
  refine aK ?_
  have s:a.length=b.length:=by first|omega|simp only[oZ] at *;omega
  (repeat first |refine sN rfl ?_ |((first|refine sA rfl ?_ ?_|refine s4 rfl ‹_› rfl ?_ ?_);first|exact tI|omega|simp only[oZ] at *;omega) |refine s2 rfl λ_ c=>?_ |refine s3 rfl ?_ ?_<;>rintro rfl |refine aU rfl ?_ |refine Aa ?_);refine aB ?_;refine Aj.Cq (U:={k:Nat // k<=a.length/\a.take k=b.take k}) (λ⟨k,hk,e⟩=>[(0,Bx a),(1,Bx b),(5,eI .i64 k)]) (λ⟨k,hk,e⟩=>[]) 0 (λ⟨k,hk,e⟩=>a.length - k) (⟨0,by omega,by simp⟩) [] (JT d rfl rfl) (by ((repeat' first|exact tI|rfl|refine And.intro ?_ ?_)<;>(simp[cX,zC,d]))) ?_;rintro⟨k,hk,e⟩;(try dsimp only);(repeat first |refine sN rfl ?_ |((first|refine sA rfl ?_ ?_|refine s4 rfl ‹_› rfl ?_ ?_);first|exact tI|omega|simp only[oZ] at *;omega) |refine s2 rfl λ_ c=>?_ |refine s3 rfl ?_ ?_<;>rintro rfl |refine aU rfl ?_ |refine Aa ?_)
  ((refine aC rfl ?_ ?_<;>rintro⟨⟩);all_goals try (simp at c;done))
  · have f:k < a.length:=by first|omega|simp only[oZ] at *;omega
    obtain⟨x,n⟩:=get_some (l:=a) (k:=k) f;obtain⟨y,m⟩:=get_some (l:=b) (k:=k) (by omega);have q:=get_map (g:=BU) n;have p:=get_map (g:=BU) m;refine aK ?_;refine aS (aB ?_);(repeat first |refine sN rfl ?_ |((first|refine sA rfl ?_ ?_|refine s4 rfl ‹_› rfl ?_ ?_);first|exact tI|omega|simp only[oZ] at *;omega) |refine s2 rfl λ_ c=>?_ |refine s3 rfl ?_ ?_<;>rintro rfl |refine aU rfl ?_ |refine Aa ?_);refine rG (It []) (by kernel_rfl) ?_;(repeat first |refine sN rfl ?_ |((first|refine sA rfl ?_ ?_|refine s4 rfl ‹_› rfl ?_ ?_);first|exact tI|omega|simp only[oZ] at *;omega) |refine s2 rfl λ_ c=>?_ |refine s3 rfl ?_ ?_<;>rintro rfl |refine aU rfl ?_ |refine Aa ?_);(refine aC rfl ?_ ?_<;>rintro⟨⟩)
    all_goals first
      | ((repeat first |refine sN rfl ?_ |((first|refine sA rfl ?_ ?_|refine s4 rfl ‹_› rfl ?_ ?_);first|exact tI|omega|simp only[oZ] at *;omega) |refine s2 rfl λ_ c=>?_ |refine s3 rfl ?_ ?_<;>rintro rfl |refine aU rfl ?_ |refine Aa ?_)
         refine aR ⟨_,rfl,?_⟩
         show E.o _=E.o _;congr;grind
         done)
      | (refine aK ?_
         (repeat first |refine sN rfl ?_ |((first|refine sA rfl ?_ ?_|refine s4 rfl ‹_› rfl ?_ ?_);first|exact tI|omega|simp only[oZ] at *;omega) |refine s2 rfl λ_ c=>?_ |refine s3 rfl ?_ ?_<;>rintro rfl |refine aU rfl ?_ |refine Aa ?_);refine⟨⟨k+1,by first|omega|simp only[oZ] at *;omega,by rw [io,io,n,m];grind⟩,by dsimp only;(first|omega|simp only[oZ] at *;omega),[],?_⟩
         simp[cX,zC,d])
  · refine aE ?_
    (repeat first |refine sN rfl ?_ |((first|refine sA rfl ?_ ?_|refine s4 rfl ‹_› rfl ?_ ?_);first|exact tI|omega|simp only[oZ] at *;omega) |refine s2 rfl λ_ c=>?_ |refine s3 rfl ?_ ?_<;>rintro rfl |refine aU rfl ?_ |refine Aa ?_);refine aR ⟨_,rfl,?_⟩
    have i:a.length<=k:=by first|omega|simp only[oZ] at *;omega
    rw [kD i,kD (by omega)] at e
    show E.o _=E.o _;congr;grind
theorem aAh(a b c d:List W):Pure Tryz.prog TB 44 [.a [.d (Bd a),.d (Bd b)],.a [.d (Bd c),.d (Bd d)]] (eB (decide (a=c/\b=d))):=by
 refine eN Tryz.func44 rfl (by kernel_rfl) rfl ?_;intro Γ f;(repeat' first |refine sN rfl ?_ |((first|refine sA rfl ?_ ?_|refine s4 rfl ‹_› rfl ?_ ?_);first|exact tI|omega|simp only[oZ] at *;omega) |refine s2 rfl λ_ e=>?_ |(refine sC rfl (aAf a c) ?_;intro _ e)|(refine sC rfl (aAf b d) ?_;intro _ e) |refine s3 rfl ?_ ?_<;>rintro rfl |refine aU rfl ?_ |refine Aa ?_ |refine rE (by kernel_rfl) ?_|(refine aC rfl ?_ ?_<;>rintro⟨⟩)|refine aK ?_|refine aE ?_|refine aB ?_|refine aR ⟨_,rfl,?_⟩)
 all_goals (show E.o _=E.o _;congr;grind)
end Go.Am
namespace Go.Am
set_option linter.unusedVariables false
section
variable {s s':Sys}{q q' p m:AY}{al al':Int}(ht:A3 ⟨s,q,al⟩=true)(hw:aAi ⟨s,q,al⟩=some m)
include ht hw
theorem aAC:BO al=true:=by
 have _:=hw;unfold A3 at ht;simp only [d5] at ht;exact ht.2.2
theorem aAJ:AL m=true/\m.al=al/\WU (LA m) (LS ⟨s,q,al⟩) al:=by
 obtain⟨c,b,a,_⟩:=aAS (t:=⟨s,q,al⟩) (aAC ht hw) hw;exact⟨c,b,λw hw _=>a w hw⟩
theorem aAv(x:A9):Xx ⟨true,m,s',q',al'⟩ x=Xx ⟨false,p,s,q,al⟩ x:=by
 obtain⟨d,c,b⟩:=aAJ ht hw;have j:Ga ⟨true,m,s',q',al'⟩=true:=d;have i:Ga ⟨false,p,s,q,al⟩=true:=ht;have h:Bq ⟨true,m,s',q',al'⟩=al:=c;have g:Bq ⟨false,p,s,q,al⟩=al:=rfl;have f:GI ⟨true,m,s',q',al'⟩=LA m:=rfl;have e:GI ⟨false,p,s,q,al⟩=LS ⟨s,q,al⟩:=rfl;unfold Xx;rw [j,i,h,g,f,e,TD b];by_cases a:A1 (LS ⟨s,q,al⟩) al x=true
 ·rw [a]
  have hb:=(CE a).1.bd;rw [So b 13 hb (by omega)]
 ·rw [lB] at a
  rw [a];rfl
end
end Go.Am
namespace Go.Am
open Go Go.Proofs
set_option maxHeartbeats 1000000
set_option maxRecDepth 4000
attribute [local irreducible] AU BZ Lex Br Aj Spec
variable {TB:Bp}
theorem aAF(te:FB)(x:A9):(if A1 (ca te) (WJ te) x then Bw (ca te) (A2 (WJ te)) 13 x else none)=Xx te x:=by
 unfold Xx;rw [ZW];by_cases a:A1 (ca te) (WJ te) x=true
 ·obtain⟨d,c,f,b,e⟩:=iX a
  rw [a,c,if_pos rfl,if_pos rfl];exact So (ZP d) 13 b.bd (by omega)
 ·rw [lB] at a;rw [a,if_neg Bool.false_ne_true,if_neg Bool.false_ne_true]
end Go.Am
