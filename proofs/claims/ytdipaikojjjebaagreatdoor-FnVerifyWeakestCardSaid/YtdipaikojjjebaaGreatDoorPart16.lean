/-
  Words and runs of the program itself: walked.
-/
import Derived.Test.YtdipaikojjjebaaGreatDoorPart14
import Derived.Test.YtdipaikojjjebaaGreatDoorPart11
set_option linter.all false
namespace Go.Am
open Go Go.Proofs
set_option maxHeartbeats 1000000
set_option maxRecDepth 4000
attribute [local irreducible] A5 CQ Lex BC Al Spec
variable {TB:BB}
theorem UF(w:W)(i:Nat)(c:UInt8)(b:w[((i:Nat):Int).toNat]?=some c):Pure Tryz.prog TB 128 [eT w,eI .i64 i] (eI .i64 (if GR c then (c.toNat:Int)-97 else -1)):=by
 by_cases h:GR c=true
 .rw[if_pos h]
  rw[Gq,decide_eq_true_eq]at h;exact HP w i c b h
 .rw [if_neg h]
  rw[Gq,decide_eq_true_eq]at h;have hb:=c.toNat_lt;refine eN Tryz.func128 rfl (by kernel_rfl) rfl ?_;intro Γ a;(repeat' first|(refine sA rfl ?_ ?_;first|exact tI|omega)|(refine s4 rfl ‹_› rfl ?_ ?_;omega)|refine s2 rfl λ_ d=>?_|refine s3 rfl ?_ ?_<;>rintro rfl|refine aV rfl ?_|apply Aa|(refine aC rfl ?_ ?_<;>rintro⟨⟩)|refine aR ⟨_,rfl,?_⟩)
  all_goals first
   | rfl
   | (exfalso;grind)
theorem WX(al:Int)(c:UInt8):hasB al (if GR c then (c.toNat:Int)-97 else -1)=Jc al c:=by
 unfold Jc hasB;by_cases h:GR c=true
 .rw[if_pos h,h]
  rw[Gq,decide_eq_true_eq]at h
  have e:((c.toNat:Int)-97).toNat=c.toNat-97:=by omega
  rw[e];simp;omega
 .rw[if_neg h]
  simp[h]
structure s5 (te:EO):Prop where
 pn:te.p.nx.length<=1048576
 pa:te.p.ac.length<=1048576
 pr:∀r∈te.p.nx,r.length<=1048576
 es:te.s.es.length<=1048576
 qn:te.q.nx.length<=1048576
 qa:te.q.ac.length<=1048576
 qr:∀r∈te.q.nx,r.length<=1048576
end Go.Am
namespace Go.Am
section
variable {α β:Type}[DecidableEq α][DecidableEq β]
theorem FX:∀ {l m:List α},l.Nodup->(∀x∈l,x∈m)->l.length<=m.length
 | [],m,_,_=>by simp
 | x::l,m,f,b=>by
  have d:=vz.1 f;have c:=b x (by simp);have i:=List.length_erase_of_mem c;have h:=FX (l:=l) (m:=m.erase x) d.2 λy a=>(List.mem_erase_of_ne λe=>d.1 (by rw[<-e];exact a)).2 (b y (by simp[a]));have g:=List.length_pos_of_mem c;simp only[ut];omega
theorem ZF{l m:List α}(e:l.Nodup)(c:∀x∈l,x∈m)(g:m.length<=l.length)(d:m.Nodup):∀x∈m,x∈l:=λx b=>by
 refine Classical.byContradiction λf=>?_
 have:=FX (l:=x::l) (m:=m) (vz.2 ⟨f,e⟩) λy a=>by
  rcases lc.1 a with rfl|h
  .exact b
  .exact c y h
 simp at this;omega
def uniq:List α->List α->List α
 | u,[]=>u
 | u,x::l=>uniq (if x∈u then u else u++[x]) l
theorem RY:∀(l m u:List α),uniq u (l++m)=uniq (uniq u l) m
 | [],m,u=>rfl
 | x::l,m,u=>RY l m _
theorem c7:∀(l:List α) {u:List α},u.Nodup->(uniq u l).Nodup
 | [],u,h=>h
 | x :: l,u,h=>by
  unfold uniq;refine c7 l ?_;split
  .exact h
  .rename_i c
   exact u6.2 ⟨h,by simp,λa ha b hb=>by simp at hb;subst hb;exact λe=>c (e▸ha)⟩
theorem Yx:∀(l u:List α),u <+: uniq u l
 | [],u=>vQ _
 | x::l,u=>by
  unfold uniq;refine List.IsPrefix.trans ?_ (Yx l _);split
  .exact vQ _
  .exact wx _ _
theorem Yw:∀(l:List α) {u:List α} {x:α},x∈uniq u l↔x∈u\/x∈l
 | [],u,x=>by simp[uniq]
 | y :: l,u,x=>by
  unfold uniq;rw[Yw l];split
  .rename_i a
   constructor
   .rintro(h|h)
    .exact .inl h
    .exact .inr (by simp[h])
   .rintro(h|h)
    .exact .inl h
    .rcases lc.1 h with rfl|h
     .exact .inl a
     .exact .inr h
  .simp only[f7,wV,lc,or_assoc,wK,false_or]
def uq(l:List α):List α:=uniq [] l
theorem O6(l:List α):(uq l).Nodup:=c7 l (by simp)
theorem DQ{l:List α}{x:α}:x∈uq l↔x∈l:=by unfold uq;rw[Yw];simp
theorem P0{l:List α}{k:Nat}{x:α}(h:l[k]?=some x):uq (l.take (k+1))=if x∈uq (l.take k) then uq (l.take k) else uq (l.take k)++[x]:=by
 unfold uq;rw[d9,h,RY];rfl
theorem kl(l:List α)(k:Nat):uq (l.take k) <+: uq l:=by
 have h:=Yx (l.drop k) (uq (l.take k));unfold uq at h |-;rw[<-RY,uE]at h;exact h
theorem Ks(l:List α):(uq l).length<=l.length:=FX (O6 l) λx a=>DQ.1 a
def Eg(l:List α)(x:α):Int:=((uq l).idxOf x:Nat)
def Fx(l:List α):List Int:=l.map (Eg l)
theorem QS{l:List α}{x y:α}(c:x∈l)(h:Eg l x=Eg l y):x=y:=by
 have f:=DQ.2 c
 have b:(uq l).idxOf x=(uq l).idxOf y:=by unfold Eg at h;omega
 have a:=uH.2 f;have g:y∈uq l:=uH.1 (b▸a);have e:(uq l)[(uq l).idxOf x]=x:=vV a;have d:(uq l)[(uq l).idxOf y]'(b▸a)=y:=vV _;rw[<-e,<-d];simp only[b]
theorem PJ{l:List α}{x:α}(a:x∈l):0<=Eg l x/\Eg l x<(uq l).length:=by
 have:=uH.2 (DQ.2 a);unfold Eg;omega
theorem QR{l:List α}{x:α}(a:x∈l):(uq l)[(Eg l x).toNat]?=some x:=by
 have h:=uH.2 (DQ.2 a)
 have e:(Eg l x).toNat=(uq l).idxOf x:=by unfold Eg;omega
 rw[e,d5 h,vV]
theorem bP{l:List α}{i:Nat}{x:α}(h:(uq l)[i]?=some x):Eg l x=i:=by
 have a:x∈l:=DQ.1 (ce h);have b:=QR a;have c:=(wC (am.1 b).1 (O6 l)).1 (b.trans h.symm);have:=PJ a;omega
theorem PI{l:List α}{k:Nat}{x:α}(h:l[k]?=some x):(x∈uq (l.take k)->Eg l x=((uq (l.take k)).idxOf x:Nat)/\Eg l x<(uq (l.take k)).length)/\(x∉uq (l.take k)->Eg l x=(uq (l.take k)).length):=by
 constructor
 .intro a
  obtain⟨t,ht⟩:=kl l k
  have c:(uq l).idxOf x=(uq (l.take k)).idxOf x:=by rw[<-ht,vu,if_pos a]
  have b:=uH.2 a;unfold Eg;omega
 .intro a
  obtain⟨t,ht⟩:=kl l (k+1);rw[P0 h,if_neg a]at ht;unfold Eg;rw[<-ht,vY,vu,if_neg a];simp
theorem VE{f:α->β}{l:List α}:∀(v:List β),v.Nodup->(∀y∈v,y∈l.map f)->∃u:List α,u.map f=v/\u.Nodup/\∀x∈u,x∈l
 | [],_,_=>⟨[],rfl,by simp,by simp⟩
 | y::v,c,h=>by
  obtain⟨u,d,i,g⟩:=VE (f:=f) (l:=l) v (vz.1 c).2 λz a=>h z (by simp[a]);obtain⟨x,e,rfl⟩:=d8.1 (h y (by simp));refine⟨x::u,by simp[d],vz.2 ⟨λb=>(vz.1 c).1 (by rw[<-d];exact d8.2 ⟨x,b,rfl⟩),i⟩,λz a=>?_⟩
  rcases lc.1 a with rfl|a
  .exact e
  .exact g z a
theorem av(f:α->β)(l:List α):(uq (l.map f)).length<=(uq l).length:=by
 obtain⟨u,e,d,c⟩:=VE (f:=f) (l:=l) (uq (l.map f)) (O6 _) λy a=>DQ.1 a;rw[<-e,io];exact FX d λx b=>DQ.2 (c x b)
theorem ph{f:α->β}{l:List α}(h:(uq l).length<=(uq (l.map f)).length){x y:α}(e:x∈l)(c:y∈l)(p:f x=f y):x=y:=by
 obtain⟨u,o,t,s⟩:=VE (f:=f) (l:=l) (uq (l.map f)) (O6 _) λy c=>DQ.1 c;have n:=ZF t (m:=uq l) (λx e=>DQ.2 (s x e)) (by rw[<-o,io]at h;exact h) (O6 l);have a:=O6 (l.map f);rw[<-o]at a;have d:=n x (DQ.2 e);have b:=n y (DQ.2 c);obtain⟨i,hi⟩:=ve.1 d;obtain⟨j,g⟩:=ve.1 b
 have k:(u.map f)[i]?=some (f x):=by rw[f9,hi];rfl
 have r:(u.map f)[j]?=some (f x):=by rw[f9,g,p];rfl
 have q:=(wC (am.1 k).1 a).1 (k.trans r.symm);subst q;rw[hi]at g;injection g
theorem c8(l:List α):(uq (Fx l)).length=(uq l).length:=by
 have i:=av (Eg l) l;refine Nat.le_antisymm i ?_
 have g:(uq ((uq l).map (Eg l))).length=(uq l).length:=by
  have d:((uq l).map (Eg l)).Nodup:=by
   unfold List.Nodup;rw[uU];exact(List.Pairwise.and_mem.1 (O6 l)).imp λ{a b} h e=>h.2.2 (QS (DQ.1 h.1) e)
  refine Nat.le_antisymm (l3 (Ks _) (by simp)) ?_;have:=FX (m:=uq ((uq l).map (Eg l))) d λx c=>DQ.2 c
  simpa using this
 rw[<-g];refine FX (O6 _) λx c=>DQ.2 ?_;obtain⟨y,f,rfl⟩:=d8.1 (DQ.1 c);exact d8.2 ⟨y,DQ.1 f,rfl⟩
def Bv(l:List α):Nat->List Nat
 | 0=>[]
 | k+1=>match l[k]? with
  | none=>Bv l k
  | some x=>if x∈uq (l.take k) then Bv l k else Bv l k++[k]
theorem Dj(l:List α):∀k,(Bv l k).length=(uq (l.take k)).length
 | 0=>rfl
 | k+1=>by
  unfold Bv
  cases h:l[k]? with
  | none=>rw[d9,h,Option.toList_none,uv];exact Dj l k
  | some x=>
   rw[P0 h]
   show (if x∈uq (l.take k) then Bv l k else Bv l k++[k]).length=_
   split
   .exact Dj l k
   .simp[Dj l k]
theorem FY(l:List α):∀(k i q:Nat),(Bv l k)[i]?=some q->q<k/\∃x,l[q]?=some x/\(uq (l.take k))[i]?=some x
 | 0,i,q,h=>by simp[Bv]at h
 | k + 1, i,q,h=>by
  unfold Bv at h
  cases hk:l[k]? with
  | none=>
   rw[hk]at h;have h:(Bv l k)[i]?=some q:=h;obtain⟨e,x,b,a⟩:=FY l k i q h;exact⟨by omega,x,b,by rw[d9,hk,Option.toList_none,uv];exact a⟩
  | some y=>
   rw[hk]at h;have h:(if y∈uq (l.take k) then Bv l k else Bv l k++[k])[i]?=some q:=h;rw[P0 hk];split at h
   .rename_i d
    obtain⟨e,x,b,a⟩:=FY l k i q h;exact⟨by omega,x,b,by rw[if_pos d];exact a⟩
   .rename_i d
    rw[if_neg d]
    rcases uo i (Bv l k).length with c|c
    .rw[gc c]at h
     obtain⟨e,x,b,a⟩:=FY l k i q h;exact⟨by omega,x,b,by rw[gc (by rw[<-Dj];exact c)];exact a⟩
    .rw[i7 c]at h
     have g:i-(Bv l k).length<1:=(am.1 h).1
     have f:i=(Bv l k).length:=by omega
     subst f;simp at h;subst h;exact⟨by omega,y,hk,by rw[Dj];simp⟩
end
section
variable {α:Type}[DecidableEq α]
def qc(nd:List α):Option α->Int
 | none=>1
 | some x=>if nd.idxOf x=0 then 0 else ((nd.idxOf x+1:Nat):Int)
structure sY (f:α->Int->Option α) (ls:List Int) (s:α) (nd:List α) (rows:List (List Int)):Prop where
 st:nd[0]?=some s
 nodup:nd.Nodup
 len:rows.length<=nd.length
 row:∀(i:Nat) (r:List Int),rows[i]?=some r->∃q,nd[i]?=some q/\r=ls.map (λl=>qc nd (f q l))/\∀l∈ls,∀x,f q l=some x->x∈nd
 rc:∀Z:List α,s∈Z->(∀q∈Z,∀l∈ls,∀x,f q l=some x->x∈Z)->∀q∈nd,q∈Z
structure sW (f:α->Int->Option α) (ls:List Int) (s:α) (nd:List α) (rows:List (List Int)):Prop where
 st:nd[0]?=some s
 nodup:nd.Nodup
 len:rows.length=nd.length
 row:∀(i:Nat) (q:α),nd[i]?=some q->rows[i]?=some (ls.map λl=>qc nd (f q l))
 cl:∀q∈nd,∀l∈ls,∀x,f q l=some x->x∈nd
end
end Go.Am
namespace Go.Am
open Go
section
variable {α:Type}{f:Nat->α}{l:List α}{i:Nat}
end
end Go.Am
namespace Go.Proofs.YtdipaikojjjebaaGreatDoor
open Go Go.Am Go.ChangeShapes Go.WideShapes Go.ChangeAt Go.RowKit
def fz(l:List Value):List Int:=l.map λv=>match v with|.int _ n=>n|_=>0
theorem cS{P:Program}{W:World}{name:String}{g:Nat}{t e:TypeId}{n:Nat}{zs:List Int}{fuel:Nat}{cs:Array Value}{p:List MemPlace}(i:P.globalNamed name=some g)(ht:P.underlying t=some (.array n e))(j:P.underlying e=some (.int .u8))(d:P.cellsOf e=1)(b:P.cellsOf t=n)
 (a:W.var? P name=some cs) (k:DataW.trod (λ_=>()) P W 0 (λ_=>true) false fuel t cs.toList=some (Lib.tabData .u8 zs,p)):∃T fr,W.heap[g]?=some (.cells (zs.map λz=>Value.int .u8 z).toArray T fr):=by
 have h:=Lib.cells_of_tab ht j d b k;unfold World.var? at a;rw[i]at a;simp only[wg]at a;split at a
 .rename_i c T fr f
  injection a with a
  subst a;refine⟨T,fr,?_⟩;rw[f,<-h]
 .cases a
theorem tables {W:World} {rest:List (String×DataW Unit)} (h:laidMet Tryz.prog (("math/bits.deBruijn32tab",Rows.laid_math_bits_deBruijn32tab)::("math/bits.deBruijn64tab",Rows.laid_math_bits_deBruijn64tab)::rest) W):∃tabs:List (Nat×Obj),Dy ⟨tabs,none⟩/\∀x∈(⟨tabs,none⟩:BB),below W x.1/\W.heap[x.1]?=some x.2:=by
 obtain⟨ps,⟨I,y,u,K,G,B,j,f,c,l,⟨H,w,t,J,F,A,g,e,b,k,_,_⟩,_⟩,_,_⟩:=h
 have p:Tryz.prog.globalNamed "math/bits.deBruijn32tab" = some 0:=by kernel_rfl
 have o:Tryz.prog.globalNamed "math/bits.deBruijn64tab" = some 1:=by kernel_rfl
 obtain rfl:=Option.some.inj (p.symm.trans j);obtain rfl:=Option.some.inj (o.symm.trans g)
 have s:(Tryz.prog.globals[0]?).map (·.type)=some 245:=by kernel_rfl
 have l1:(Tryz.prog.globals[1]?).map (·.type)=some 246:=by kernel_rfl
 obtain rfl:=Option.some.inj (s.symm.trans f);obtain rfl:=Option.some.inj (l1.symm.trans e);obtain⟨T0,n,r⟩:=cS (zs:=fz CK) p Tryz.underlying245 Tryz.underlying5 (by kernel_rfl) (by kernel_rfl) c l;obtain⟨T1,m,q⟩:=cS (zs:=fz Bw) o Tryz.underlying246 Tryz.underlying5 (by kernel_rfl) (by kernel_rfl) b k;refine⟨[(0,.cells ((fz CK).map λz=>Value.int .u8 z).toArray T0 n),(1,.cells ((fz Bw).map λz=>Value.int .u8 z).toArray T1 m)],⟨⟨⟨_,_,_,vT,λi v d=>?_⟩,by decide⟩,⟨⟨_,_,_,ui _ vT,λi v d=>?_⟩,by decide⟩⟩,?_⟩
 .have:CK=(fz CK).map λz=>Value.int .u8 z:=rfl
  rw[u7,<-this];exact d
 .have:Bw=(fz Bw).map λz=>Value.int .u8 z:=rfl
  rw[u7,<-this];exact d
 .intro x a
  have a:x∈[_,_]:=a;simp only[lc,wK,or_false]at a
  rcases a with rfl|rfl
  .exact⟨(rt.1 r).1,r⟩
  .exact⟨(rt.1 q).1,q⟩
end Go.Proofs.YtdipaikojjjebaaGreatDoor
