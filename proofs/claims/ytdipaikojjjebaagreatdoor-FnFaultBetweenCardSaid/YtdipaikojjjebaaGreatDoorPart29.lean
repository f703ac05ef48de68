/-
  Classes of states by refinement, plainly: numbering of the keys of a list in the order in which they come.
-/
import Derived.Test.YtdipaikojjjebaaGreatDoorPart26
set_option linter.all false
namespace Go.Am
section
variable {α β:Type}[DecidableEq α][DecidableEq β]
theorem Fq:∀ {l m:List α},l.Nodup->(∀x∈l,x∈m)->l.length<=m.length
 | [],m,_,_=>by simp
 | x::l,m,f,b=>by
  have d:=tj.1 f;have c:=b x (by simp);have i:=List.length_erase_of_mem c;have h:=Fq (l:=l) (m:=m.erase x) d.2 λy a=>(List.mem_erase_of_ne λe=>d.1 (by rw[<-e];exact a)).2 (b y (by simp[a]));have g:=List.length_pos_of_mem c;simp only[rO];omega
theorem XX{l m:List α}(e:l.Nodup)(c:∀x∈l,x∈m)(g:m.length<=l.length)(d:m.Nodup):∀x∈m,x∈l:=λx b=>by
 refine Classical.byContradiction λf=>?_
 have:=Fq (l:=x::l) (m:=m) (tj.2 ⟨f,e⟩) λy a=>by
  rcases lw.1 a with rfl|h
  ·exact b
  ·exact c y h
 simp at this;omega
def uniq:List α->List α->List α
 | u,[]=>u
 | u,x::l=>uniq (if x∈u then u else u++[x]) l
theorem QD:∀(l m u:List α),uniq u (l++m)=uniq (uniq u l) m
 | [],m,u=>rfl
 | x::l,m,u=>QD l m _
theorem aP:∀(l:List α) {u:List α},u.Nodup->(uniq u l).Nodup
 | [],u,h=>h
 | x :: l,u,h=>by
  unfold uniq;refine aP l ?_;split
  ·exact h
  ·rename_i c
   exact r8.2 ⟨h,by simp,λa ha b hb=>by simp at hb;subst hb;exact λe=>c (e▸ha)⟩
theorem WK:∀(l u:List α),u <+: uniq u l
 | [],u=>td _
 | x::l,u=>by
  unfold uniq;refine List.IsPrefix.trans ?_ (WK l _);split
  ·exact td _
  ·exact um _ _
theorem WJ:∀(l:List α) {u:List α} {x:α},x∈uniq u l↔x∈u\/x∈l
 | [],u,x=>by simp[uniq]
 | y :: l,u,x=>by
  unfold uniq;rw[WJ l];split
  ·rename_i a
   constructor
   ·rintro(h|h)
    ·exact .inl h
    ·exact .inr (by simp[h])
   ·rintro(h|h)
    ·exact .inl h
    ·rcases lw.1 h with rfl|h
     ·exact .inl a
     ·exact .inr h
  ·simp only[gc,uk,lw,or_assoc,t9,false_or]
def uq(l:List α):List α:=uniq [] l
theorem Oh(l:List α):(uq l).Nodup:=aP l (by simp)
theorem DG{l:List α}{x:α}:x∈uq l↔x∈l:=by unfold uq;rw[WJ];simp
theorem O4{l:List α}{k:Nat}{x:α}(h:l[k]?=some x):uq (l.take (k+1))=if x∈uq (l.take k) then uq (l.take k) else uq (l.take k)++[x]:=by
 unfold uq;rw[i7,h,QD];rfl
theorem il(l:List α)(k:Nat):uq (l.take k) <+: uq l:=by
 have h:=WK (l.drop k) (uq (l.take k));unfold uq at h |-;rw[<-QD,rZ]at h;exact h
theorem JR(l:List α):(uq l).length<=l.length:=Fq (Oh l) λx a=>DG.1 a
def DY(l:List α)(x:α):Int:=((uq l).idxOf x:Nat)
def E9(l:List α):List Int:=l.map (DY l)
theorem PW{l:List α}{x y:α}(c:x∈l)(h:DY l x=DY l y):x=y:=by
 have f:=DG.2 c
 have b:(uq l).idxOf x=(uq l).idxOf y:=by unfold DY at h;omega
 have a:=rJ.2 f;have g:y∈uq l:=rJ.1 (b▸a);have e:(uq l)[(uq l).idxOf x]=x:=ti a;have d:(uq l)[(uq l).idxOf y]'(b▸a)=y:=ti _;rw[<-e,<-d];simp only[b]
theorem OR{l:List α}{x:α}(a:x∈l):0<=DY l x/\DY l x<(uq l).length:=by
 have:=rJ.2 (DG.2 a);unfold DY;omega
theorem PV{l:List α}{x:α}(a:x∈l):(uq l)[(DY l x).toNat]?=some x:=by
 have h:=rJ.2 (DG.2 a)
 have e:(DY l x).toNat=(uq l).idxOf x:=by unfold DY;omega
 rw[e,d6 h,ti]
theorem ZF{l:List α}{i:Nat}{x:α}(h:(uq l)[i]?=some x):DY l x=i:=by
 have a:x∈l:=DG.1 (co h);have b:=PV a;have c:=(tU (am.1 b).1 (Oh l)).1 (b.trans h.symm);have:=OR a;omega
theorem OQ{l:List α}{k:Nat}{x:α}(h:l[k]?=some x):(x∈uq (l.take k)->DY l x=((uq (l.take k)).idxOf x:Nat)/\DY l x<(uq (l.take k)).length)/\(x∉uq (l.take k)->DY l x=(uq (l.take k)).length):=by
 constructor
 ·intro a
  obtain⟨t,ht⟩:=il l k
  have c:(uq l).idxOf x=(uq (l.take k)).idxOf x:=by rw[<-ht,tt,if_pos a]
  have b:=rJ.2 a;unfold DY;omega
 ·intro a
  obtain⟨t,ht⟩:=il l (k+1);rw[O4 h,if_neg a]at ht;unfold DY;rw[<-ht,tn,tt,if_neg a];simp
theorem Ue{f:α->β}{l:List α}:∀(v:List β),v.Nodup->(∀y∈v,y∈l.map f)->∃u:List α,u.map f=v/\u.Nodup/\∀x∈u,x∈l
 | [],_,_=>⟨[],rfl,by simp,by simp⟩
 | y::v,c,h=>by
  obtain⟨u,d,i,g⟩:=Ue (f:=f) (l:=l) v (tj.1 c).2 λz a=>h z (by simp[a]);obtain⟨x,e,rfl⟩:=d9.1 (h y (by simp));refine⟨x::u,by simp[d],tj.2 ⟨λb=>(tj.1 c).1 (by rw[<-d];exact d9.2 ⟨x,b,rfl⟩),i⟩,λz a=>?_⟩
  rcases lw.1 a with rfl|a
  ·exact e
  ·exact g z a
theorem YQ(f:α->β)(l:List α):(uq (l.map f)).length<=(uq l).length:=by
 obtain⟨u,e,d,c⟩:=Ue (f:=f) (l:=l) (uq (l.map f)) (Oh _) λy a=>DG.1 a;rw[<-e,gt];exact Fq d λx b=>DG.2 (c x b)
theorem mK{f:α->β}{l:List α}(h:(uq l).length<=(uq (l.map f)).length){x y:α}(e:x∈l)(c:y∈l)(p:f x=f y):x=y:=by
 obtain⟨u,o,t,s⟩:=Ue (f:=f) (l:=l) (uq (l.map f)) (Oh _) λy c=>DG.1 c;have n:=XX t (m:=uq l) (λx e=>DG.2 (s x e)) (by rw[<-o,gt]at h;exact h) (Oh l);have a:=Oh (l.map f);rw[<-o]at a;have d:=n x (DG.2 e);have b:=n y (DG.2 c);obtain⟨i,hi⟩:=sB.1 d;obtain⟨j,g⟩:=sB.1 b
 have k:(u.map f)[i]?=some (f x):=by rw[f6,hi];rfl
 have r:(u.map f)[j]?=some (f x):=by rw[f6,g,p];rfl
 have q:=(tU (am.1 k).1 a).1 (k.trans r.symm);subst q;rw[hi]at g;injection g
theorem aQ(l:List α):(uq (E9 l)).length=(uq l).length:=by
 have i:=YQ (DY l) l;refine Nat.le_antisymm i ?_
 have g:(uq ((uq l).map (DY l))).length=(uq l).length:=by
  have d:((uq l).map (DY l)).Nodup:=by
   unfold List.Nodup;rw[se];exact(List.Pairwise.and_mem.1 (Oh l)).imp λ{a b} h e=>h.2.2 (PW (DG.1 h.1) e)
  refine Nat.le_antisymm (pm (JR _) (by simp)) ?_;have:=Fq (m:=uq ((uq l).map (DY l))) d λx c=>DG.2 c
  simpa using this
 rw[<-g];refine Fq (Oh _) λx c=>DG.2 ?_;obtain⟨y,f,rfl⟩:=d9.1 (DG.1 c);exact d9.2 ⟨y,DG.1 f,rfl⟩
def Bw(l:List α):Nat->List Nat
 | 0=>[]
 | k+1=>match l[k]? with
  | none=>Bw l k
  | some x=>if x∈uq (l.take k) then Bw l k else Bw l k++[k]
theorem C7(l:List α):∀k,(Bw l k).length=(uq (l.take k)).length
 | 0=>rfl
 | k+1=>by
  unfold Bw
  cases h:l[k]? with
  | none=>rw[i7,h,Option.toList_none,rv];exact C7 l k
  | some x=>
   rw[O4 h]
   show (if x∈uq (l.take k) then Bw l k else Bw l k++[k]).length=_
   split
   ·exact C7 l k
   ·simp[C7 l k]
theorem Fv(l:List α):∀(k i q:Nat),(Bw l k)[i]?=some q->q<k/\∃x,l[q]?=some x/\(uq (l.take k))[i]?=some x
 | 0,i,q,h=>by simp[Bw]at h
 | k + 1, i,q,h=>by
  unfold Bw at h
  cases hk:l[k]? with
  | none=>
   rw[hk]at h;have h:(Bw l k)[i]?=some q:=h;obtain⟨e,x,b,a⟩:=Fv l k i q h;exact⟨by omega,x,b,by rw[i7,hk,Option.toList_none,rv];exact a⟩
  | some y=>
   rw[hk]at h;have h:(if y∈uq (l.take k) then Bw l k else Bw l k++[k])[i]?=some q:=h;rw[O4 hk];split at h
   ·rename_i d
    obtain⟨e,x,b,a⟩:=Fv l k i q h;exact⟨by omega,x,b,by rw[if_pos d];exact a⟩
   ·rename_i d
    rw[if_neg d]
    rcases rn i (Bw l k).length with c|c
    ·rw[f9 c]at h
     obtain⟨e,x,b,a⟩:=Fv l k i q h;exact⟨by omega,x,b,by rw[f9 (by rw[<-C7];exact c)];exact a⟩
    ·rw[io c]at h
     have g:i-(Bw l k).length<1:=(am.1 h).1
     have f:i=(Bw l k).length:=by omega
     subst f;simp at h;subst h;exact⟨by omega,y,hk,by rw[C7];simp⟩
end
section
variable {α:Type}[DecidableEq α]
def nv(nd:List α):Option α->Int
 | none=>1
 | some x=>if nd.idxOf x=0 then 0 else ((nd.idxOf x+1:Nat):Int)
structure p9 (f:α->Int->Option α) (ls:List Int) (s:α) (nd:List α) (rows:List (List Int)):Prop where
 st:nd[0]?=some s
 nodup:nd.Nodup
 len:rows.length<=nd.length
 row:∀(i:Nat) (r:List Int),rows[i]?=some r->∃q,nd[i]?=some q/\r=ls.map (λl=>nv nd (f q l))/\∀l∈ls,∀x,f q l=some x->x∈nd
 rc:∀Z:List α,s∈Z->(∀q∈Z,∀l∈ls,∀x,f q l=some x->x∈Z)->∀q∈nd,q∈Z
structure p8 (f:α->Int->Option α) (ls:List Int) (s:α) (nd:List α) (rows:List (List Int)):Prop where
 st:nd[0]?=some s
 nodup:nd.Nodup
 len:rows.length=nd.length
 row:∀(i:Nat) (q:α),nd[i]?=some q->rows[i]?=some (ls.map λl=>nv nd (f q l))
 cl:∀q∈nd,∀l∈ls,∀x,f q l=some x->x∈nd
end
end Go.Am
namespace Go.Proofs.YtdipaikojjjebaaGreatDoor
open Go Go.Am Go.ChangeShapes Go.WideShapes Go.ChangeAt Go.RowKit
def dp(l:List Value):List Int:=l.map λv=>match v with|.int _ n=>n|_=>0
theorem aG{P:Program}{W:World}{name:String}{g:Nat}{t e:TypeId}{n:Nat}{zs:List Int}{fuel:Nat}{cs:Array Value}{p:List MemPlace}(i:P.globalNamed name=some g)(ht:P.underlying t=some (.array n e))(j:P.underlying e=some (.int .u8))(d:P.cellsOf e=1)(b:P.cellsOf t=n)
 (a:W.var? P name=some cs) (k:DataW.trod (λ_=>()) P W 0 (λ_=>true) false fuel t cs.toList=some (Lib.tabData .u8 zs,p)):∃T fr,W.heap[g]?=some (.cells (zs.map λz=>Value.int .u8 z).toArray T fr):=by
 have h:=Lib.cells_of_tab ht j d b k;unfold World.var? at a;rw[i]at a;simp only[tF]at a;split at a
 ·rename_i c T fr f
  injection a with a
  subst a;refine⟨T,fr,?_⟩;rw[f,<-h]
 ·cases a
theorem tables {W:World} {rest:List (String×DataW Unit)} (h:laidMet Tryz.prog (("math/bits.deBruijn32tab",Rows.laid_math_bits_deBruijn32tab)::("math/bits.deBruijn64tab",Rows.laid_math_bits_deBruijn64tab)::rest) W):∃tabs:List (Nat×Obj),EK ⟨tabs,none⟩/\∀x∈(⟨tabs,none⟩:BJ),below W x.1/\W.heap[x.1]?=some x.2:=by
 obtain⟨ps,⟨I,y,u,K,G,B,j,f,c,l,⟨H,w,t,J,F,A,g,e,b,k,_,_⟩,_⟩,_,_⟩:=h
 have p:Tryz.prog.globalNamed "math/bits.deBruijn32tab" = some 0:=by kernel_rfl
 have o:Tryz.prog.globalNamed "math/bits.deBruijn64tab" = some 1:=by kernel_rfl
 obtain rfl:=Option.some.inj (p.symm.trans j);obtain rfl:=Option.some.inj (o.symm.trans g)
 have s:(Tryz.prog.globals[0]?).map (·.type)=some 245:=by kernel_rfl
 have l1:(Tryz.prog.globals[1]?).map (·.type)=some 246:=by kernel_rfl
 obtain rfl:=Option.some.inj (s.symm.trans f);obtain rfl:=Option.some.inj (l1.symm.trans e);obtain⟨T0,n,r⟩:=aG (zs:=dp Cv) p Tryz.underlying245 Tryz.underlying5 (by kernel_rfl) (by kernel_rfl) c l;obtain⟨T1,m,q⟩:=aG (zs:=dp Bx) o Tryz.underlying246 Tryz.underlying5 (by kernel_rfl) (by kernel_rfl) b k;refine⟨[(0,.cells ((dp Cv).map λz=>Value.int .u8 z).toArray T0 n),(1,.cells ((dp Bx).map λz=>Value.int .u8 z).toArray T1 m)],⟨⟨⟨_,_,_,tQ,λi v d=>?_⟩,by decide⟩,⟨⟨_,_,_,rP _ tQ,λi v d=>?_⟩,by decide⟩⟩,?_⟩
 ·have:Cv=(dp Cv).map λz=>Value.int .u8 z:=rfl
  rw[sf,<-this];exact d
 ·have:Bx=(dp Bx).map λz=>Value.int .u8 z:=rfl
  rw[sf,<-this];exact d
 ·intro x a
  have a:x∈[_,_]:=a;simp only[lw,t9,or_false]at a
  rcases a with rfl|rfl
  ·exact⟨(qZ.1 r).1,r⟩
  ·exact⟨(qZ.1 q).1,q⟩
end Go.Proofs.YtdipaikojjjebaaGreatDoor
