/-
  Words that lead to goals: the first one.
-/
import Derived.Test.YtainaphkaklkmaaGreatDoorPart13
import Derived.Test.YtainaphkaklkmaaGreatDoorPart9
import Derived.Lib.TrailingZeros
set_option linter.constructorNameAsVariable false
set_option linter.unusedSimpArgs false
set_option linter.unusedVariables false
namespace Go.Am
open Go
structure Gr where
  N:Nat
  succ:Int→Int→List Int
  goal:Int→Bool
  ls:List Int
  s0:Int
structure GrOk (g:Gr):Prop where
  s0:0≤g.s0∧g.s0 < g.N
  inn:∀x:Int,0≤x∧x < g.N→∀l∈g.ls,∀y∈g.succ x l,0≤y∧y < g.N
  srt:g.ls.Pairwise (· < ·)
def reach (g:Gr):List Int→Int→Int→Prop
  | [],a,x=>a=x
  | l::w,a,x=>∃y∈g.succ a l,reach g w y x
def over (g:Gr) (w:List Int):Prop:=∀l∈w,l∈g.ls
def hit (g:Gr) (w:List Int):Prop:=∃x,reach g w g.s0 x∧g.goal x=true
def llt:List Int→List Int→Prop
  | a::u,b::w=>a < b∨a=b∧llt u w
  | _,_=>False
def slt (u w:List Int):Prop:=u.length < w.length∨u.length=w.length∧llt u w
def IsAns (g:Gr):Option (List Int)→Prop
  | some w=>over g w∧hit g w∧∀u,over g u→hit g u→¬slt u w
  | none=>∀u,over g u→¬hit g u
theorem reach_snoc {g:Gr}:∀ {w:List Int} {l a x:Int},reach g (w++[l]) a x↔∃y,reach g w a y∧x∈g.succ y l
  | [],l,a,x=>by simp [reach]
  | m::w,l,a,x=>by
    simp only [List.cons_append,reach,reach_snoc]
    constructor
    · rintro ⟨y,hy,z,hz,hx⟩;exact ⟨z,⟨y,hy,hz⟩,hx⟩
    · rintro ⟨z,⟨y,hy,hz⟩,hx⟩;exact ⟨y,hy,z,hz,hx⟩
theorem reach_in {g:Gr} (hg:GrOk g):∀ {w:List Int} {a x:Int},over g w→(0≤a∧a < g.N)→reach g w a x→0≤x∧x < g.N
  | [],a,x,_,ha,h=>by have h:a=x:=h;subst h;exact ha
  | l::w,a,x,ho,ha,h=>by
    obtain ⟨y,hy,h⟩:=h
    exact reach_in hg (fun m hm=>ho m (by simp [hm])) (hg.inn a ha l (ho l (by simp)) y hy) h
theorem over_snoc {g:Gr} {w:List Int} {l:Int}:over g (w++[l])↔over g w∧l∈g.ls:=by
  unfold over;simp only [List.mem_append,List.mem_singleton]
  constructor
  · intro h;exact ⟨fun m hm=>h m (.inl hm),h l (.inr rfl)⟩
  · rintro ⟨h1,h2⟩ m (hm|rfl);exact h1 m hm;exact h2
theorem llt_snoc:∀ {u w:List Int} {m l:Int},u.length=w.length→(llt (u++[m]) (w++[l])↔llt u w∨u=w∧m < l)
  | [],[],m,l,_=>by simp [llt]
  | [],b::w,m,l,h=>by simp at h
  | a::u,[],m,l,h=>by simp at h
  | a :: u,b::w,m,l,h=>by
    simp only [List.cons_append,llt,llt_snoc (u:=u) (w:=w) (by simpa using h),List.cons.injEq]
    constructor
    · rintro (h|⟨h1,h2|⟨h2,h3⟩⟩)
      · exact .inl (.inl h)
      · exact .inl (.inr ⟨h1,h2⟩)
      · exact .inr ⟨⟨h1,h2⟩,h3⟩
    · rintro ((h|⟨h1,h2⟩)|⟨⟨h1,h2⟩,h3⟩)
      · exact .inl h
      · exact .inr ⟨h1,.inl h2⟩
      · exact .inr ⟨h1,.inr ⟨h2,h3⟩⟩
theorem llt_tri:∀ {u w:List Int},u.length=w.length→llt u w∨u=w∨llt w u
  | [],[],_=>.inr (.inl rfl)
  | [],b::w,h=>by simp at h
  | a::u,[],h=>by simp at h
  | a :: u,b::w,h=>by
    simp only [llt,List.cons.injEq]
    have h1:=llt_tri (u:=u) (w:=w) (by simpa using h)
    rcases Int.lt_trichotomy a b with h2|h2|h2
    · exact .inl (.inl h2)
    · rcases h1 with h1|h1|h1
      · exact .inl (.inr ⟨h2,h1⟩)
      · exact .inr (.inl ⟨h2,h1⟩)
      · exact .inr (.inr (.inr ⟨h2.symm,h1⟩))
    · exact .inr (.inr (.inl h2))
theorem slt_tri {u w:List Int} (h1:¬slt u w) (h2:¬slt w u):u=w:=by
  unfold slt at h1 h2
  have hl:u.length=w.length:=by omega
  rcases llt_tri hl with h|h|h
  · exact absurd (.inr ⟨hl,h⟩) h1
  · exact h
  · exact absurd (.inr ⟨hl.symm,h⟩) h2
theorem IsAns.unique {g:Gr} {r s:Option (List Int)} (hr:IsAns g r) (hs:IsAns g s):r=s:=by
  cases r with
  | none=>
    cases s with
    | none=>rfl
    | some w=>exact absurd hs.2.1 (hr w hs.1)
  | some v=>
    cases s with
    | none=>exact absurd hr.2.1 (hs v hr.1)
    | some w=>rw [slt_tri (hs.2.2 v hr.1 hr.2.1) (hr.2.2 w hs.1 hs.2.1)]
theorem least_of:∀(l:List Int) (Q:Int→Prop),(∃x∈l,Q x)→∃x∈l,Q x∧∀y∈l,Q y→¬y < x
  | [],Q,h=>by obtain ⟨x,hx,_⟩:=h;cases hx
  | a :: l,Q,h=>by
    by_cases ht:∃x∈l,Q x
    · obtain ⟨x,hx,hq,hm⟩:=least_of l Q ht
      by_cases ha:Q a∧a < x
      · refine ⟨a,by simp,ha.1,fun y hy hqy=>?_⟩
        rcases List.mem_cons.1 hy with rfl|hy
        · omega
        · have:=hm y hy hqy;omega
      · refine ⟨x,by simp [hx],hq,fun y hy hqy=>?_⟩
        rcases List.mem_cons.1 hy with rfl|hy
        · exact fun hlt=>ha ⟨hqy,hlt⟩
        · exact hm y hy hqy
    · obtain ⟨x,hx,hq⟩:=h
      rcases List.mem_cons.1 hx with rfl|hx
      · refine ⟨x,by simp,hq,fun y hy hqy=>?_⟩
        rcases List.mem_cons.1 hy with rfl|hy
        · omega
        · exact absurd ⟨y,hy,hqy⟩ ht
      · exact absurd ⟨x,hx,hq⟩ ht
theorem least_word (ls:List Int):∀(n:Nat) (Q:List Int→Prop),(∃u:List Int,u.length=n∧(∀l∈u,l∈ls)∧Q u)→∃u:List Int,u.length=n∧(∀l∈u,l∈ls)∧Q u∧∀v:List Int,v.length=n→(∀l∈v,l∈ls)→Q v→¬llt v u
  | 0,Q,⟨u,h1,h2,h3⟩=>by
    have:u=[]:=List.length_eq_zero_iff.1 h1
    subst this
    exact ⟨[],rfl,h2,h3,fun v hv _ _=>by have:v=[]:=List.length_eq_zero_iff.1 hv;subst this;exact fun h=>h⟩
  | n + 1,Q,⟨u,h1,h2,h3⟩=>by
    cases u with
    | nil=>simp at h1
    | cons a u=>
      obtain ⟨x,hx,⟨u1,h4,h5,h6⟩,hm⟩:=least_of ls (fun x=>∃u:List Int,u.length=n∧(∀l∈u,l∈ls)∧Q (x::u)) ⟨a,h2 a (by simp),u,by simpa using h1,fun l hl=>h2 l (by simp [hl]),h3⟩
      obtain ⟨u2,h7,h8,h9,h10⟩:=least_word ls n (fun u=>Q (x::u)) ⟨u1,h4,h5,h6⟩
      refine ⟨x::u2,by simp [h7],fun l hl=>by rcases List.mem_cons.1 hl with rfl|hl;exact hx;exact h8 l hl,h9,fun v hv hvl hq=>?_⟩
      cases v with
      | nil=>simp at hv
      | cons b v=>
        have hb:=hm b (hvl b (by simp)) ⟨v,by simpa using hv,fun l hl=>hvl l (by simp [hl]),hq⟩
        rintro (h|⟨h,h'⟩)
        · exact hb h
        · subst h;exact h10 v (by simpa using hv) (fun l hl=>hvl l (by simp [hl])) hq h'
theorem exists_ans (g:Gr):∃r,IsAns g r:=by
  by_cases h:∃u,over g u∧hit g u
  · have key : ∀n,(∃u,u.length≤n∧over g u∧hit g u)→∃m,(∃u,u.length=m∧over g u∧hit g u)∧∀u,over g u→hit g u→m≤u.length:=by
      intro n
      induction n with
      | zero=>
        rintro ⟨u,h1,h2,h3⟩
        exact ⟨0,⟨u,by omega,h2,h3⟩,fun _ _ _=>Nat.zero_le _⟩
      | succ n ih=>
        rintro ⟨u,h1,h2,h3⟩
        by_cases hx:∃u,u.length≤n∧over g u∧hit g u
        · exact ih hx
        · refine ⟨n+1,⟨u,?_,h2,h3⟩,fun v hv hv'=>?_⟩
          · have:¬u.length≤n:=fun h=>hx ⟨u,h,h2,h3⟩
            omega
          · have:¬v.length≤n:=fun h=>hx ⟨v,h,hv,hv'⟩
            omega
    obtain ⟨u,hu⟩:=h
    obtain ⟨m,⟨v,h1,h2,h3⟩,hm⟩:=key u.length ⟨u,Nat.le_refl _,hu⟩
    obtain ⟨w,h4,h5,h6,h7⟩:=least_word g.ls m (hit g) ⟨v,h1,h2,h3⟩
    refine ⟨some w,h5,h6,fun u hu hh=>?_⟩
    rintro (h|⟨h,h'⟩)
    · have:=hm u hu hh;omega
    · exact h7 u (by omega) hu hh h'
  · exact ⟨none,fun u hu hh=>h ⟨u,hu,hh⟩⟩
structure DistG (g:Gr) (dx:Int→Int):Prop where
  zero:∀x:Int,0≤x∧x < g.N→(dx x=0↔g.goal x=true)
  step:∀x:Int,0≤x∧x < g.N→0 < dx x→∃l∈g.ls,∃j∈g.succ x l,dx j=dx x - 1
  close:∀x:Int,0≤x∧x < g.N→∀l∈g.ls,∀j∈g.succ x l,0≤dx j→0≤dx x∧dx x≤dx j+1
theorem DistG.far {g:Gr} (hg:GrOk g) {dx:Int→Int} (h:DistG g dx):∀ {u:List Int} {a x:Int},over g u→(0≤a∧a < g.N)→reach g u a x→0≤dx x→0≤dx a∧dx a≤u.length+dx x
  | [],a,x,_,_,hr,h0=>by have hr:a=x:=hr;subst hr;simp;exact h0
  | l::u,a,x,ho,ha,⟨y,hy,hr⟩,h0=>by
    have hl:=ho l (by simp)
    have hyin:=hg.inn a ha l hl y hy
    have h1:=DistG.far hg h (fun m hm=>ho m (by simp [hm])) hyin hr h0
    have h2:=h.close a ha l hl y hy h1.1
    simp only [List.length_cons];push_cast;omega
structure WInv (g:Gr) (dx:Int→Int) (w:List Int) (at':List Int) (d:Int):Prop where
  ov:over g w
  ne:at'≠[]
  acc:AccOk g.N at'
  mem:∀x,x∈at'↔reach g w g.s0 x∧dx x=d
  len:w.length+d=dx g.s0
  d0:0≤d
  min:∀u,over g u→u.length=w.length→llt u w→∀x,reach g u g.s0 x→dx x≠d
theorem WInv.init {g:Gr} (hg:GrOk g) {dx:Int→Int} (h0:0≤dx g.s0):WInv g dx [] [g.s0] (dx g.s0):=
  ⟨fun l hl=>(by cases hl),by simp,⟨by simp,fun x hx=>by simp at hx;subst hx;exact hg.s0⟩,fun x=>by simp [reach];constructor<;>intro h<;>simp_all,by simp,h0,fun u _ hu hl=>by
    have:u=[]:=List.length_eq_zero_iff.1 hu
    subst this;exact hl.elim⟩
theorem WInv.ans {g:Gr} (hg:GrOk g) {dx:Int→Int} (hd:DistG g dx) {w at':List Int} (h:WInv g dx w at' 0):IsAns g (some w):=by
  refine ⟨h.ov,?_,fun u hu hh=>?_⟩
  · cases at' with
    | nil=>exact absurd rfl h.ne
    | cons x l=>
      have h1:=(h.mem x).1 (by simp)
      exact ⟨x,h1.1,(hd.zero x (h.acc.2 x (by simp))).1 h1.2⟩
  · obtain ⟨x,hx,hgx⟩:=hh
    have hz:=(hd.zero x (reach_in hg hu hg.s0 hx)).2 hgx
    have h1:=hd.far hg hu hg.s0 hx (by omega)
    have h2:=h.len
    rintro (h3|⟨h3,h4⟩)
    · omega
    · exact h.min u hu h3 h4 x hx hz
theorem ans_none {g:Gr} (hg:GrOk g) {dx:Int→Int} (hd:DistG g dx) (h:dx g.s0 < 0):IsAns g none:=by
  rintro u hu ⟨x,hx,hgx⟩
  have hz:=(hd.zero x (reach_in hg hu hg.s0 hx)).2 hgx
  have h1:=hd.far hg hu hg.s0 hx (by omega)
  omega
theorem WInv.prog {g:Gr} {dx:Int→Int} (hd:DistG g dx) {w at':List Int} {d:Int} (h:WInv g dx w at' d) (hp:0 < d):∃l∈g.ls,∃x∈at',∃y∈g.succ x l,dx y=d - 1:=by
  cases at' with
  | nil=>exact absurd rfl h.ne
  | cons x l=>
    have h1:=(h.mem x).1 (by simp)
    obtain ⟨l,hl,j,hj,hdj⟩:=hd.step x (h.acc.2 x (by simp)) (by omega)
    exact ⟨l,hl,x,by simp,j,hj,by omega⟩
theorem WInv.next {g:Gr} (hg:GrOk g) {dx:Int→Int} (hd:DistG g dx) {w at':List Int} {d:Int} (h:WInv g dx w at' d) (hp:0 < d) {l:Int} (hl:l∈g.ls) {at2:List Int} (ha:AccOk g.N at2) (hne:at2≠[])
    (hm:∀y,y∈at2↔∃x∈at',y∈g.succ x l∧dx y=d - 1) (hless:∀m∈g.ls,m < l→¬∃x∈at',∃y∈g.succ x m,dx y=d - 1):WInv g dx (w++[l]) at2 (d - 1):=by
  have hlen:=h.len
  have key:∀u m x y,over g u→u.length=w.length→m∈g.ls→reach g u g.s0 x→y∈g.succ x m→dx y=d - 1→dx x=d:=by
    intro u m x y hu hul hm hx hy hdy
    have hxin:=reach_in hg hu hg.s0 hx
    have h1:=hd.close x hxin m hm y hy (by omega)
    have h2:=hd.far hg hu hg.s0 hx (by omega)
    omega
  refine ⟨over_snoc.2 ⟨h.ov,hl⟩,hne,ha,fun y=>?_,by simp;omega,by omega,fun u hu hul hlt y hy hdy=>?_⟩
  · rw [hm,reach_snoc]
    constructor
    · rintro ⟨x,hx,hy,hdy⟩
      exact ⟨⟨x,((h.mem x).1 hx).1,hy⟩,hdy⟩
    · rintro ⟨⟨x,hx,hy⟩,hdy⟩
      exact ⟨x,(h.mem x).2 ⟨hx,key w l x y h.ov rfl hl hx hy hdy⟩,hy,hdy⟩
  · have hu0:u≠[]:=fun e=>by subst e;simp at hul
    obtain ⟨v,m,rfl⟩:∃v m,u=v++[m]:=⟨u.dropLast,u.getLast hu0,(List.dropLast_concat_getLast hu0).symm⟩
    have hvl:v.length=w.length:=by simpa using hul
    obtain ⟨hv,hmm⟩:=over_snoc.1 hu
    obtain ⟨x,hx,hxy⟩:=reach_snoc.1 hy
    have hdx:=key v m x y hv hvl hmm hx hxy hdy
    rcases (llt_snoc hvl).1 hlt with h1|⟨rfl,h1⟩
    · exact h.min v hv hvl h1 x hx hdx
    · exact hless m hmm h1 ⟨x,(h.mem x).2 ⟨hx,hdx⟩,y,hxy,hdy⟩
def txt (w:List Int):List UInt8:=w.map fun l=>UInt8.ofNat (97+l.toNat)
def ansE (r:Option (List Int)):E:=match r with
  | some w=>.t [(false,[.d (tD (txt w))]),(false,[.d (bD true)])]
  | none=>.t [(false,[.d (tD [])]),(false,[.d (bD false)])]
end Go.Am
namespace Go.Am
open Go Go.Proofs
set_option maxHeartbeats 1000000
attribute [local irreducible] QOp AOp Lex LexO AWp Spec
variable {TB:Amb}
def gOf (n:Net):Gr:={ N:=(prodI (sizesN n)).toNat,succ:=fun x l=>nextsN n (sizesN n) (decN (sizesN n) x) l,goal:=fun x=>foundN n (decN (sizesN n) x) (rowN n x.toNat),ls:=letters n.ls,s0:=encN (sizesN n) n.st 0 }
theorem letters_sorted (s:Int) (k:Nat):(lettersTo s k).Pairwise (· < ·):=by
  unfold lettersTo
  rw [List.pairwise_map]
  refine (List.pairwise_lt_range.filter _).imp fun {a b} h=>?_
  show ((a:Nat):Int) < ((b:Nat):Int)
  omega
theorem dec_fits {n:Net} (hn:NetOk n) (x:Int):Fits (sizesN n) (decN (sizesN n) x):=decN_fits (fun z hz=>by have:=sizes_pos hn z hz;omega) x
theorem nexts_in {n:Net} (hn:NetOk n) {x l:Int} (hl:l∈letters n.ls) {y:Int} (hy:y∈nextsN n (sizesN n) (decN (sizesN n) x) l):0≤y∧y < prodI (sizesN n):=by
  have h1:=lettersTo_in hl
  have h2:=mixN_in (choL_ok hn (dec_fits hn x) (l:=l) (by omega) (by omega)) [0] 1 (by simp) (by omega) (by simp)
  have:=h2.1 y hy
  omega
theorem gOf_ok {n:Net} (hn:NetOk n) (hst:Fits (sizesN n) n.st):GrOk (gOf n):=by
  have hp:=prod_le hn
  have hz:=hst.enc 0 (by omega)
  refine ⟨?_,fun x _ l hl y hy=>?_,letters_sorted _ _⟩
  · show 0≤encN _ _ _∧encN _ _ _ < ((prodI (sizesN n)).toNat:Int)
    omega
  · show 0≤y∧y < ((prodI (sizesN n)).toNat:Int)
    have:=nexts_in hn hl hy
    omega
theorem movesN_inAll {n:Net} (hn:NetOk n):InAll (movesN n (gOf n).N):=by
  intro x hx r hr j hj
  have hx:x < (gOf n).N:=by simpa [movesN] using hx
  have h1:(movesN n (gOf n).N).getD x []=rowN n x:=by rw [List.getD,movesN_get hx];rfl
  rw [h1] at hr
  obtain ⟨l,hl,rfl⟩:=List.mem_map.1 hr
  have h2:=nexts_in hn hl hj
  have h3:(movesN n (gOf n).N).length=(prodI (sizesN n)).toNat:=by simp [movesN,gOf]
  rw [h3];omega
theorem movesN_row {n:Net} {x:Int} (hx:0≤x∧x < (gOf n).N):(movesN n (gOf n).N).getD x.toNat []=(letters n.ls).map fun l=>(gOf n).succ x l:=by
  rw [List.getD,movesN_get (by omega)]
  have:((x.toNat:Nat):Int)=x:=by omega
  simp [rowN,this,gOf]
theorem distG_of {n:Net} {dist:List Int} (h:DistOk (movesN n (gOf n).N) (fun i=>foundN n (decN (sizesN n) i) (rowN n i)) dist):DistG (gOf n) (fun x=>dist.getD x.toNat 0):=by
  have hN:(movesN n (gOf n).N).length=(gOf n).N:=by simp [movesN]
  refine ⟨fun x hx=>?_,fun x hx hp=>?_,fun x hx l hl j hj hj0=>?_⟩
  · have h1:=h.zero x.toNat (by omega)
    have e:((x.toNat:Nat):Int)=x:=by omega
    rw [e] at h1
    exact h1
  · obtain ⟨r,hr,j,hj,hd⟩:=h.step x.toNat (by omega) hp
    rw [movesN_row hx] at hr
    obtain ⟨l,hl,rfl⟩:=List.mem_map.1 hr
    exact ⟨l,hl,j,hj,hd⟩
  · exact h.close x.toNat (by omega) _ (by rw [movesN_row hx];exact List.mem_map.2 ⟨l,hl,rfl⟩) j hj hj0
theorem mem_fold {dist:List Int} {d y:Int}:∀ {l acc:List Int},y∈l.foldl (addN dist d) acc↔y∈acc∨y∈l∧dist.getD y.toNat 0=d
  | [],acc=>by simp
  | j::l,acc=>by
    rw [List.foldl_cons,mem_fold,addN_eq]
    split<;>grind
theorem mem_clos {mv:List (List (List Int))} {dist:List Int} {k:Nat} {d y:Int} {l:List Int}:y∈closN mv dist l k d↔∃x∈l,y∈(mv.getD x.toNat []).getD k []∧dist.getD y.toNat 0=d:=by
  have key:∀(l acc:List Int),y∈l.foldl (fun acc x=>((mv.getD x.toNat []).getD k []).foldl (addN dist d) acc) acc↔y∈acc∨∃x∈l,y∈(mv.getD x.toNat []).getD k []∧dist.getD y.toNat 0=d:=by
    intro l
    induction l with
    | nil=>intro acc;simp
    | cons a l ih=>
      intro acc
      rw [List.foldl_cons,ih,mem_fold]
      grind
  unfold closN
  rw [key];simp
theorem clos_row {n:Net} {dist l:List Int} {k:Nat} {m:Int} (hm:(letters n.ls)[k]? = some m) (hl:∀x∈l,0≤x∧x < (gOf n).N) {d y:Int} :
    y∈closN (movesN n (gOf n).N) dist l k d↔∃x∈l,y∈(gOf n).succ x m∧dist.getD y.toNat 0=d:=by
  rw [mem_clos]
  constructor
  · rintro ⟨x,hx,hy,hd⟩
    rw [movesN_row (hl x hx)] at hy
    exact ⟨x,hx,by simpa [List.getD,hm] using hy,hd⟩
  · rintro ⟨x,hx,hy,hd⟩
    exact ⟨x,hx,by rw [movesN_row (hl x hx)];simpa [List.getD,hm] using hy,hd⟩
theorem prodI_step:∀ {zs:List Int} {k:Nat} {z:Int},zs[k]? = some z→prodI (zs.take (k+1))=prodI (zs.take k)*z
  | [],k,z,h=>by simp at h
  | a::zs,0,z,h=>by simp at h;subst h;simp [prodI]
  | a::zs,k+1,z,h=>by
    simp only [List.take_succ_cons,prodI]
    rw [prodI_step (by simpa using h),Int.mul_assoc]
def dl (f:Nat→Int) (N i:Nat):List Int:=(List.range i).map f++List.replicate (N - i) 0
theorem dl_len {f:Nat→Int} {N i:Nat} (h:i≤N):(dl f N i).length=N:=by simp [dl];omega
theorem dl_get {f:Nat→Int} {N i:Nat} (h:i < N):(dl f N i)[i]? = some 0:=by
  unfold dl
  rw [List.getElem?_append_right (by simp)]
  have:0 < N - i:=by omega
  simp [this]
theorem dl_set {f:Nat→Int} {N i:Nat} (h:i < N):(dl f N i).set i (f i)=dl f N (i+1):=by
  unfold dl
  rw [List.set_append_right _ _ (by simp)]
  have:N - i=(N - (i+1))+1:=by omega
  rw [this,List.range_succ,List.map_append]
  simp [List.replicate_succ]
end Go.Am
namespace Go.Am
open Go Go.Proofs
set_option maxHeartbeats 1000000
attribute [local irreducible] QOp AOp Lex LexO AWp Spec
variable {TB:Amb}
theorem idx_lt {l:List Int} (h:l.Pairwise (· < ·)) {i j:Nat} {a b:Int} (hi:l[i]? = some a) (hj:l[j]? = some b) (hab:a < b):i < j:=by
  obtain ⟨h1,rfl⟩:=List.getElem?_eq_some_iff.1 hi
  obtain ⟨h2,rfl⟩:=List.getElem?_eq_some_iff.1 hj
  rw [List.pairwise_iff_getElem] at h
  rcases Nat.lt_trichotomy i j with h3|h3|h3
  · exact h3
  · subst h3;omega
  · have:=h j i h2 h1 h3;omega
theorem l4First_ok {n:Net} (hn:NetOk n) (hk:KdOk n) (hst:Fits (sizesN n) n.st) {r:Option (List Int)} (hr:IsAns (gOf n) r):Pure Tryz.prog TB 103 [eNet n] (ansE r):=by
  have hpr:=prod_le hn
  have hg:=gOf_ok hn hst
  have hnp:=hn.np
  have hna:=hn.na
  have hzl:=sizesN_len hn
  have hll:(letters n.ls).length≤6:=lettersTo_len n.ls 6
  have hpos:=sizes_pos hn
  have hsz:=l4Sizes_ok (TB:=TB) n (by omega)
  have hmv:=l4Moves_ok (TB:=TB) hn (gOf n).N (by show (prodI (sizesN n)).toNat≤1048576;omega)
  have hpN:prodI (sizesN n)=(((gOf n).N:Nat):Int):=by show _=(((prodI (sizesN n)).toNat:Nat):Int);omega
  have hNle:(gOf n).N≤1048576:=by omega
  have hml:(movesN n (gOf n).N).length=(gOf n).N:=by simp [movesN]
  have hdec:∀(x:Nat),x < (gOf n).N→Pure Tryz.prog TB 131 [eInts (sizesN n),eI .i64 x] (eInts (decN (sizesN n) x)):=fun x hx=>
    l4Decode_ok _ _ (by omega) (by omega) (fun z hz=>by have:=hpos z hz;omega) (by omega)
  have hfnd:∀(x:Nat),Pure Tryz.prog TB 130 [eNet n,eInts (decN (sizesN n) x),eIntss (rowN n x)] (eB (foundN n (decN (sizesN n) x) (rowN n x))):=fun x=>l4Found_ok hn hk (dec_fits hn _) _
  have hencc:=l4Encode_ok (TB:=TB) (sizesN n) n.st hst (by omega)
  have hlet:=l1Letters_ok (TB:=TB) n.ls
  have hdist:=fun dist h1 h2=>l4Dist_ok (TB:=TB) (movesN n (gOf n).N) (fun i=>foundN n (decN (sizesN n) i) (rowN n i)) dist (movesN_inAll hn) (by omega) h1 h2
  refine eN Tryz.func103 rfl (by kernel_rfl) rfl ?_;intro Γ hΓ
  (repeat first|refine sN rfl ?_|((first|refine sA rfl ?_ ?_|refine s4 rfl ‹_› rfl ?_ ?_);first|exact tI|omega|(simp only[oZ] at *;omega))|(refine s2 rfl ?_;intro _ _hb) |refine sP rfl (hsz) rfl ?_|(refine s3 rfl ?_ ?_<;>intro hb<;>subst hb)|refine aS ?_|refine reg (by kernel_rfl) ?_|refine lexE ?_|refine rD (by kernel_rfl) (by kernel_rfl) ?_)
  refine AWp.block ?_
  refine AWp.loopL (α:={k:Nat // k≤(sizesN n).length}) (fun ⟨k,hkl⟩=>[(1,.o (.ip (nRow n))),(4,eInts (sizesN n)),(5,eI .i64 (prodI ((sizesN n).take k))),(6,eI .i64 k)]) (fun ⟨k,hkl⟩=>[]) 0 (fun ⟨k,hkl⟩=>(sizesN n).length - k) (⟨0,by omega⟩) [] (rl3 hΓ rfl rfl) (by (repeat' first|exact tI|rfl|refine And.intro ?_ ?_)<;>simp[cX,zC,hΓ,prodI]) ?_;rintro ⟨k,hkl⟩;(try dsimp only)
  (repeat first|refine sN rfl ?_|((first|refine sA rfl ?_ ?_|refine s4 rfl ‹_› rfl ?_ ?_);first|exact tI|omega|(simp only[oZ] at *;omega))|(refine s2 rfl ?_;intro _ _hb)|(refine s3 rfl ?_ ?_<;>intro hb<;>subst hb)|refine aS ?_|refine reg (by kernel_rfl) ?_|refine lexE ?_|refine rD (by kernel_rfl) (by kernel_rfl) ?_)
  (refine aC rfl ?_ ?_<;>intro hb<;>cases hb)
  · obtain ⟨z,hz⟩:=get_some (l:=sizesN n) (k:=k) (by first|omega|(simp only[oZ] at *;omega))
    have hz':=get_map (g:=iRow) hz
    have h1:=prodI_step hz
    have h2:=prodI_le ((sizesN n).take (k+1)) fun z hz=>hpos z (List.mem_of_mem_take hz)
    have h3:=(hst.take (k+1)).2
    rw [h1] at h2 h3
    refine AWp.skip ?_
    refine AWp.seq (AWp.block ?_)
    (repeat first|refine sN rfl ?_|((first|refine sA rfl ?_ ?_|refine s4 rfl ‹_› rfl ?_ ?_);first|exact tI|omega|(simp only[oZ] at *;omega))|(refine s2 rfl ?_;intro _ _hb)|(refine s3 rfl ?_ ?_<;>intro hb<;>subst hb)|refine aS ?_|refine reg (by kernel_rfl) ?_|refine lexE ?_|refine rD (by kernel_rfl) (by kernel_rfl) ?_)
    refine ⟨⟨k+1,by first|omega|(simp only[oZ] at *;omega)⟩,by dsimp only;(first|omega|(simp only[oZ] at *;omega)),[],?_⟩
    simp[cX,zC,hΓ,h1]
  obtain rfl:k=(sizesN n).length:=by first|omega|(simp only[oZ] at *;omega)
  refine AWp.exit ?_
  rw [List.take_length,hpN]
  generalize hNN:(gOf n).N=N at *
  generalize hmm:movesN n N=mv at *
  (repeat first|refine sN rfl ?_|((first|refine sM rfl ?_ ?_|refine s4 rfl ‹_› rfl ?_ ?_);first|exact tI|omega|(simp only[oZ] at *;omega))|(refine s2 rfl ?_;intro _ _hb) |refine sP rfl (hmv) rfl ?_|(refine s3 rfl ?_ ?_<;>intro hb<;>subst hb)|refine aS ?_|refine reg (by kernel_rfl) ?_|refine lexE ?_|refine rD (by kernel_rfl) (by kernel_rfl) ?_)
  (refine popO rfl ?_;refine popW ?_ rfl (by rfl);refine n_make rfl rfl (by rfl) (by rfl) (Nat.le_of_ble_eq_true rfl) (by omega) (by omega) (by omega) ?_)
  (repeat first|refine sN rfl ?_|((first|refine sM rfl ?_ ?_|refine s4 rfl ‹_› rfl ?_ ?_);first|exact tI|omega|(simp only[oZ] at *;omega))|(refine s2 rfl ?_;intro _ _hb)|(refine s3 rfl ?_ ?_<;>intro hb<;>subst hb)|refine aS ?_|refine reg (by kernel_rfl) ?_|refine lexE ?_|refine rD (by kernel_rfl) (by kernel_rfl) ?_)
  refine AWp.block ?_
  refine AWp.loopL (α:={i:Nat // i≤N}) (fun ⟨i,hi⟩=>[(1,.o (.ip (nRow n))),(4,eInts (sizesN n)),(5,eI .i64 N),(7,eIntsss mv),(8,.o (.arr 0 1 0 N)),(9,eI .i64 i)]) (fun ⟨i,hi⟩=>[(0,.cells 3 1 ((dl (fun j=>if foundN n (decN (sizesN n) (j:Nat)) (rowN n j) then 0 else -1) N i).map iRowC))]) 1 (fun ⟨i,hi⟩=>N - i) (⟨0,by omega⟩) [0] (rl3 hΓ rfl rfl) (by (repeat' first|exact tI|rfl|refine And.intro ?_ ?_)<;>simp[cX,zC,hΓ,dl]) ?_;rintro ⟨i,hi⟩;(try dsimp only)
  (repeat first|refine sN rfl ?_|((first|refine sM rfl ?_ ?_|refine s4 rfl ‹_› rfl ?_ ?_);first|exact tI|omega|(simp only[oZ] at *;omega))|(refine s2 rfl ?_;intro _ _hb)|(refine s3 rfl ?_ ?_<;>intro hb<;>subst hb)|refine aS ?_|refine reg (by kernel_rfl) ?_|refine lexE ?_|refine rD (by kernel_rfl) (by kernel_rfl) ?_)
  (refine aC rfl ?_ ?_<;>intro hb<;>cases hb)
  · have hiN:i < N:=by first|omega|(simp only[oZ] at *;omega)
    have hd0:=dl_get (f:=fun j=>if foundN n (decN (sizesN n) (j:Nat)) (rowN n j) then 0 else -1) hiN
    have hds:=dl_set (f:=fun j=>if foundN n (decN (sizesN n) (j:Nat)) (rowN n j) then 0 else -1) hiN
    have hdl:=dl_len (f:=fun j=>if foundN n (decN (sizesN n) (j:Nat)) (rowN n j) then 0 else -1) (Nat.le_of_lt hiN)
    generalize dl (fun j=>if foundN n (decN (sizesN n) (j:Nat)) (rowN n j) then 0 else -1) N i=cur at *
    have hd0':=get_mapA (g:=iRowC) hd0
    have hd1:(cur.set i (-1))[i]? = some (-1):=by simp [hdl,hiN]
    have hd1':=get_mapA (g:=iRowC) hd1
    rw [←set_mapI (x:=0)] at hd1'
    have hmi:(mv.map iiiRow)[((i:Nat):Int).toNat]? = some (iiiRow (rowN n i)):=by rw [←hmm];exact get_map (movesN_get hiN)
    refine AWp.skip ?_
    refine AWp.seq (AWp.block ?_)
    (repeat' first|refine sN rfl ?_|((first|refine sM rfl ?_ ?_|refine s4 rfl ‹_› rfl ?_ ?_);first|exact tI|omega|(simp only[oZ] at *;omega))|(refine s2 rfl ?_;intro _ _hb) |refine sP rfl (hdec i hiN) rfl ?_|(refine sC rfl (hfnd i) ?_;intro _ _hb)|(refine s3 rfl ?_ ?_<;>intro hb<;>subst hb)|refine aS ?_|refine reg (by kernel_rfl) ?_|refine lexE ?_|refine rD (by kernel_rfl) (by kernel_rfl) ?_|(refine aC rfl ?_ ?_<;>intro hb<;>cases hb)|refine aK ?_|refine aE ?_|refine aB ?_|refine AWp.ret ⟨_,rfl,?_⟩)
    · rw [if_pos (by assumption)] at hds
      refine ⟨⟨i+1,by first|omega|(simp only[oZ] at *;omega)⟩,by dsimp only;(first|omega|(simp only[oZ] at *;omega)),[0],?_⟩
      rw [set_mapI,set_mapI,List.set_set]
      simp[cX,zC,hΓ,hds]
    · rw [if_neg (by grind)] at hds
      refine ⟨⟨i+1,by first|omega|(simp only[oZ] at *;omega)⟩,by dsimp only;(first|omega|(simp only[oZ] at *;omega)),[0],?_⟩
      rw [set_mapI]
      simp[cX,zC,hΓ,hds]
  obtain rfl:i=N:=by first|omega|(simp only[oZ] at *;omega)
  refine AWp.exit ?_
  (repeat first|refine sN rfl ?_|((first|refine sM rfl ?_ ?_|refine s4 rfl ‹_› rfl ?_ ?_);first|exact tI|omega|(simp only[oZ] at *;omega))|(refine s2 rfl ?_;intro _ _hb)|(refine s3 rfl ?_ ?_<;>intro hb<;>subst hb)|refine aS ?_|refine reg (by kernel_rfl) ?_|refine lexE ?_|refine rD (by kernel_rfl) (by kernel_rfl) ?_)
  have hdlg:∀x,x < i→(dl (fun j=>if foundN n (decN (sizesN n) (j:Nat)) (rowN n j) then 0 else -1) i i).getD x 0=if foundN n (decN (sizesN n) (x:Nat)) (rowN n x) then 0 else -1:=by
    intro x hx;simp [dl,List.getD,hx]
  have hdll:(dl (fun j=>if foundN n (decN (sizesN n) (j:Nat)) (rowN n j) then 0 else -1) i i).length=i:=dl_len (Nat.le_refl _)
  generalize dl (fun j=>if foundN n (decN (sizesN n) (j:Nat)) (rowN n j) then 0 else -1) i i=d0 at *
  have hdist:=hdist d0 (by omega) (by rw [hml];exact hdlg)
  rw [hml] at hdist
  (refine popO rfl ?_;refine popW ?_ rfl (by rfl);refine n_call [0] rfl rfl hdist ⟨rfl,by simp,by simp⟩ rfl (by simp[cX,zC,hΓ]) ?_;rintro x0 σ1 nx1 ⟨rfl,rfl,dist,hD,rfl⟩ _)
  refine lexE ?_
  refine AWp.seq ?_
  refine AWp.freeze [0] [(1,.o (.ip (nRow n))),(4,eInts (sizesN n)),(7,eIntsss mv),(8,eInts dist)] ⟨⟨_,rfl,.keep⟩,⟨_,rfl,.keep⟩,⟨_,rfl,.keep⟩,⟨.o (.arr 0 1 0 i),rfl,.o (.full (T:=3) (rows:=dist.map iRowC) (by simp) (by simp[cX,zC,hΓ,Store.ren,killL,nmo]) (by simp [Function.comp_def]) (by simp [hD.len,hml]))⟩,trivial⟩ ?_
  have hG:DistG (gOf n) (fun x=>dist.getD x.toNat 0):=distG_of (by rw [hNN,hmm];exact hD)
  have hdl:=hD.len
  have hin:=movesN_inAll hn
  rw [hNN,hmm] at hin
  have hrow:∀x:Int,0≤x∧x < i→mv.getD x.toNat []=(letters n.ls).map fun l=>(gOf n).succ x l:=by
    intro x hx;rw [←hmm,←hNN];exact movesN_row (by rw [hNN];exact hx)
  have hrl:∀x,x < mv.length→(mv.getD x []).length=(letters n.ls).length:=by
    intro x hx
    have:=hrow (x:Nat) (by omega)
    rw [Int.toNat_natCast] at this
    rw [this];simp
  have hcl:∀(at':List Int) (k:Nat) (d:Int),AccOk i at'→k < (letters n.ls).length→Pure Tryz.prog TB 134 [eIntsss mv,eInts dist,eInts at',eI .i64 k,eI .i64 d] (eInts (closN mv dist at' k d)):=fun at' k d ha hk=>
    l4Closer_ok mv dist at' k d hin (by omega) hdl (by rw [hml];exact ha.2) (by have:=nodup_len _ _ ha.1 ha.2;omega) (fun x hx=>by rw [hrl x hx];exact hk)
  have hcm:∀(at':List Int) (k:Nat) (d:Int) (m:Int),(letters n.ls)[k]? = some m→AccOk i at'→∀y,y∈closN mv dist at' k d↔∃x∈at',y∈(gOf n).succ x m∧dist.getD y.toNat 0=d:=by
    intro at' k d m hm ha y
    rw [←hmm,←hNN]
    exact clos_row hm (by rw [hNN];exact ha.2)
  have hac:∀(at':List Int) (k:Nat) (d:Int),AccOk i at'→AccOk i (closN mv dist at' k d):=by
    intro at' k d ha
    have:=AccOk.clos hin (dist:=dist) (d:=d) (k:=k) (l:=at') .nil (by rw [hml];exact ha.2)
    rwa [hml] at this
  obtain ⟨s,hs⟩:∃s,encN (sizesN n) n.st 0=s:=⟨_,rfl⟩
  have hgs:(gOf n).s0=s:=hs
  have hsin:=hg.s0
  rw [hgs,hNN] at hsin
  rw [hs] at hencc
  obtain ⟨dd,hdd⟩:=get_some (l:=dist) (k:=s.toNat) (by omega)
  have hdd':(dist.map iRow)[s.toNat]? = some (iRow dd):=by simp [hdd]
  have hddg:dist.getD (gOf n).s0.toNat 0=dd:=by rw [hgs];simp [List.getD,hdd]
  have hs0':([s].map iRow)[(0:Int).toNat]? = some (iRow s):=rfl
  have hbd:=hD.bound s.toNat (by omega)
  have hddb:dist.getD s.toNat 0=dd:=by simp [List.getD,hdd]
  rw [hddb] at hbd
  (repeat first|refine sN rfl ?_|((first|refine sA rfl ?_ ?_|refine s4 rfl ‹_› rfl ?_ ?_);first|exact tI|omega|(simp only[oZ] at *;omega))|(refine s2 rfl ?_;intro _ _hb) |refine sP rfl (hencc) rfl ?_|refine sP rfl (hlet) rfl ?_|(refine s3 rfl ?_ ?_<;>intro hb<;>subst hb)|refine aS ?_|refine reg (by kernel_rfl) ?_|refine lexE ?_|refine rD (by kernel_rfl) (by kernel_rfl) ?_)
  by_cases hneg:dd < 0
  · have hans:=ans_none hg hG (by show dist.getD (gOf n).s0.toNat 0 < 0;rw [hddg];exact hneg)
    have hrr:=IsAns.unique hr hans
    subst hrr
    refine AWp.block ?_
    refine AWp.loopL (α:=Unit) (fun _=>[(12,eT []),(13,eI .i64 dd)]) (fun _=>[]) 0 (fun _=>0) (()) [] (rl3 hΓ rfl rfl) (by (repeat' first|exact tI|rfl|refine And.intro ?_ ?_)<;>simp[cX,zC,hΓ]) ?_;rintro _;(try dsimp only)
    (repeat first|refine sN rfl ?_|((first|refine sA rfl ?_ ?_|refine s4 rfl ‹_› rfl ?_ ?_);first|exact tI|omega|(simp only[oZ] at *;omega))|(refine s2 rfl ?_;intro _ _hb)|(refine s3 rfl ?_ ?_<;>intro hb<;>subst hb)|refine aS ?_|refine reg (by kernel_rfl) ?_|refine lexE ?_|refine rD (by kernel_rfl) (by kernel_rfl) ?_)
    (refine aC rfl ?_ ?_<;>intro hb<;>cases hb)
    · exfalso;first|omega|(simp only[oZ] at *;omega)
    (repeat' first|refine sN rfl ?_|((first|refine sA rfl ?_ ?_|refine s4 rfl ‹_› rfl ?_ ?_);first|exact tI|omega|(simp only[oZ] at *;omega))|(refine s2 rfl ?_;intro _ _hb)|(refine s3 rfl ?_ ?_<;>intro hb<;>subst hb)|refine aS ?_|refine reg (by kernel_rfl) ?_|refine lexE ?_|refine rD (by kernel_rfl) (by kernel_rfl) ?_|(refine aC rfl ?_ ?_<;>intro hb<;>cases hb)|refine aK ?_|refine aE ?_|refine aB ?_|refine AWp.ret ⟨_,rfl,?_⟩)
    all_goals first
      | (exfalso;first|omega|(simp only[oZ] at *;omega);done)
      | (subst _hb;rw [show decide (dd=0)=false from decide_eq_false (by first|omega|(simp only[oZ] at *;omega))];rfl)
  · have hW0 := WInv.init (dx:=fun x=>dist.getD x.toNat 0) hg (by show 0≤dist.getD (gOf n).s0.toNat 0;rw [hddg];omega)
    have hW0:WInv (gOf n) (fun x=>dist.getD x.toNat 0) [] [s] dd:=by rw [hgs,hddb] at hW0;exact hW0
    refine AWp.block ?_
    refine AWp.loopL (α:={x:List Int×List Int×Int // WInv (gOf n) (fun x=>dist.getD x.toNat 0) x.1 x.2.1 x.2.2}) (fun ⟨⟨w,at',d⟩,hW⟩=>[(7,eIntsss mv),(8,eInts dist),(10,eInts at'),(11,eInts (letters n.ls)),(12,eT (txt w)),(13,eI .i64 d)]) (fun ⟨⟨w,at',d⟩,hW⟩=>[]) 0 (fun ⟨⟨w,at',d⟩,hW⟩=>d.toNat) (⟨([],[s],dd),hW0⟩) [] (rl3 hΓ rfl rfl) (by (repeat' first|exact tI|rfl|refine And.intro ?_ ?_)<;>simp[cX,zC,hΓ]) ?_;rintro ⟨⟨w,at',d⟩,hW⟩;(try dsimp only)
    simp only at hW
    have hWl:=hW.len
    have hWd:=hW.d0
    have hWa:=hW.acc
    have hWl:(w.length:Int)+d=dd:=by rw [←hddg];exact hWl
    rw [hNN] at hWa
    (repeat first|refine sN rfl ?_|((first|refine sA rfl ?_ ?_|refine s4 rfl ‹_› rfl ?_ ?_);first|exact tI|omega|(simp only[oZ] at *;omega))|(refine s2 rfl ?_;intro _ _hb)|(refine s3 rfl ?_ ?_<;>intro hb<;>subst hb)|refine aS ?_|refine reg (by kernel_rfl) ?_|refine lexE ?_|refine rD (by kernel_rfl) (by kernel_rfl) ?_)
    (refine aC rfl ?_ ?_<;>intro hb<;>cases hb)
    · have hdp:0 < d:=by first|omega|(simp only[oZ] at *;omega)
      obtain ⟨l0,hl0,hx0⟩:=hW.prog hG hdp
      have hlx:∀l:Int,l∈(gOf n).ls→∃k:Nat,(letters n.ls)[k]? = some l:=fun l hl=>List.getElem?_of_mem hl
      have hkp:∀k:Nat,(∀k',k' < k→closN mv dist at' k' (d - 1)=[])→k < (letters n.ls).length:=by
        intro k hk2
        rcases Nat.lt_or_ge k (letters n.ls).length with h|h
        · exact h
        · exfalso
          obtain ⟨j,hj⟩:=hlx l0 hl0
          have h1:=hk2 j (by have:=(List.getElem?_eq_some_iff.1 hj).1;omega)
          obtain ⟨x,hx,y,hy,hdy⟩:=hx0
          have h2:=(hcm at' j (d - 1) l0 hj hWa y).2 ⟨x,hx,hy,hdy⟩
          rw [h1] at h2;cases h2
      have hk0:=hkp 0 (fun k' h=>by omega)
      refine AWp.skip ?_
      refine AWp.seq (AWp.block ?_)
      (repeat first|refine sN rfl ?_|((first|refine sA rfl ?_ ?_|refine s4 rfl ‹_› rfl ?_ ?_);first|exact tI|omega|(simp only[oZ] at *;omega))|(refine s2 rfl ?_;intro _ _hb) |refine sP rfl (hcl at' 0 (d - 1) hWa hk0) rfl ?_|(refine s3 rfl ?_ ?_<;>intro hb<;>subst hb)|refine aS ?_|refine reg (by kernel_rfl) ?_|refine lexE ?_|refine rD (by kernel_rfl) (by kernel_rfl) ?_)
      refine AWp.block ?_
      refine AWp.loopL (α:={k:Nat // ∀k',k' < k→closN mv dist at' k' (d - 1)=[]}) (fun ⟨k,hkk⟩=>[(7,eIntsss mv),(8,eInts dist),(10,eInts at'),(11,eInts (letters n.ls)),(12,eT (txt w)),(13,eI .i64 d),(14,eI .i64 k),(15,eInts (closN mv dist at' k (d - 1)))]) (fun ⟨k,hkk⟩=>[]) 0 (fun ⟨k,hkk⟩=>(letters n.ls).length - k) (⟨0,fun k' h=>by omega⟩) [] (rl3 hΓ rfl rfl) (by (repeat' first|exact tI|rfl|refine And.intro ?_ ?_)<;>simp[cX,zC,hΓ]) ?_;rintro ⟨k,hkk⟩;(try dsimp only)
      have hkl:=hkp k hkk
      have hacK:=hac at' k (d - 1) hWa
      (repeat first|refine sN rfl ?_|((first|refine sA rfl ?_ ?_|refine s4 rfl ‹_› rfl ?_ ?_);first|exact tI|omega|(simp only[oZ] at *;omega))|(refine s2 rfl ?_;intro _ _hb)|(refine s3 rfl ?_ ?_<;>intro hb<;>subst hb)|refine aS ?_|refine reg (by kernel_rfl) ?_|refine lexE ?_|refine rD (by kernel_rfl) (by kernel_rfl) ?_)
      (refine aC rfl ?_ ?_<;>intro hb<;>cases hb)
      · have hnil:closN mv dist at' k (d - 1)=[]:=List.length_eq_zero_iff.1 (by first|omega|(simp only[oZ] at *;omega))
        have hkk2:∀k',k' < k+1→closN mv dist at' k' (d - 1)=[]:=fun k' h=>by
          rcases Nat.lt_succ_iff_lt_or_eq.1 h with h|h
          · exact hkk k' h
          · rw [h];exact hnil
        have hc2:=hcl at' (k+1) (d - 1) hWa (hkp _ hkk2)
        rw [show (((k+1:Nat)):Int)=(k:Int)+1 from rfl] at hc2
        refine AWp.skip ?_
        refine AWp.block ?_
        (repeat first|refine sN rfl ?_|((first|refine sA rfl ?_ ?_|refine s4 rfl ‹_› rfl ?_ ?_);first|exact tI|omega|(simp only[oZ] at *;omega))|(refine s2 rfl ?_;intro _ _hb) |refine sP rfl (hc2) rfl ?_|(refine s3 rfl ?_ ?_<;>intro hb<;>subst hb)|refine aS ?_|refine reg (by kernel_rfl) ?_|refine lexE ?_|refine rD (by kernel_rfl) (by kernel_rfl) ?_)
        refine ⟨⟨k+1,hkk2⟩,by dsimp only;(first|omega|(simp only[oZ] at *;omega)),[],?_⟩
        simp[cX,zC,hΓ]
      · obtain ⟨m,hm⟩:=get_some (l:=letters n.ls) (k:=k) hkl
        have hm':=get_map (g:=iRow) hm
        have hmb:=lettersTo_in (List.mem_of_getElem? hm)
        have hne:closN mv dist at' k (d - 1)≠[]:=fun e=>by rw [e] at _hb;simp at _hb
        have hN2:=hW.next hg hG hdp (l:=m) (List.mem_of_getElem? hm) (at2:=closN mv dist at' k (d - 1)) (by rw [hNN];exact hacK) hne (fun y=>by
            rw [hcm at' k (d - 1) m hm hWa y]) (fun m' hm' hlt=>by
            rintro ⟨x,hx,y,hy,hdy⟩
            obtain ⟨j,hj⟩:=hlx m' hm'
            have hjk:=idx_lt (letters_sorted n.ls 6) hj hm hlt
            have h2:=(hcm at' j (d - 1) m' hj hWa y).2 ⟨x,hx,hy,hdy⟩
            rw [hkk j hjk] at h2;cases h2)
        have htl:(txt w).length=w.length:=by simp [txt]
        have htx:txt w++[97+UInt8.ofNat m.toNat]=txt (w++[m]):=by simp [txt]
        refine AWp.exit ?_
        (repeat first|refine sN rfl ?_|((first|refine sA rfl ?_ ?_|refine s4 rfl ‹_› rfl ?_ ?_);first|exact tI|omega|(simp only[oZ] at *;omega))|(refine s2 rfl ?_;intro _ _hb) |refine sP rfl (l1Text_ok m (by omega) (by omega)) rfl ?_|(refine s3 rfl ?_ ?_<;>intro hb<;>subst hb)|refine aS ?_|refine reg (by kernel_rfl) ?_|refine lexE ?_|refine rD (by kernel_rfl) (by kernel_rfl) ?_)
        refine ⟨⟨(w++[m],closN mv dist at' k (d - 1),d - 1),hN2⟩,by dsimp only;omega,[],?_⟩
        simp[cX,zC,hΓ,htx]
    · obtain rfl:d=0:=by first|omega|(simp only[oZ] at *;omega)
      have hans:=hW.ans hg hG
      have hrr:=IsAns.unique hr hans
      subst hrr
      (repeat' first|refine sN rfl ?_|((first|refine sA rfl ?_ ?_|refine s4 rfl ‹_› rfl ?_ ?_);first|exact tI|omega|(simp only[oZ] at *;omega))|(refine s2 rfl ?_;intro _ _hb)|(refine s3 rfl ?_ ?_<;>intro hb<;>subst hb)|refine aS ?_|refine reg (by kernel_rfl) ?_|refine lexE ?_|refine rD (by kernel_rfl) (by kernel_rfl) ?_|(refine aC rfl ?_ ?_<;>intro hb<;>cases hb)|refine aK ?_|refine aE ?_|refine aB ?_|refine AWp.ret ⟨_,rfl,?_⟩)
      all_goals first
        | (subst _hb;rfl)
end Go.Am
namespace Go.Am
open Go Go.Proofs
set_option maxHeartbeats 1000000
attribute [local irreducible] QOp AOp Lex LexO AWp Spec
variable {TB:Amb}
abbrev ansT (r:Option (List Int)):List UInt8:=(r.map txt).getD []
abbrev eAns (r:Option (List Int)):E:=.t [(false,[.d (tD (ansT r))]),(false,[.d (bD r.isSome)])]
theorem ansE_eq (r:Option (List Int)):ansE r=eAns r:=by cases r<;>rfl
noncomputable def ansOf (g:Gr):Option (List Int):=Classical.choose (exists_ans g)
theorem ansOf_is (g:Gr):IsAns g (ansOf g):=Classical.choose_spec (exists_ans g)
theorem ansOf_eq {g:Gr} {r:Option (List Int)} (h:IsAns g r):ansOf g=r:=IsAns.unique (ansOf_is g) h
theorem iOr_nat {a b:Nat} (ha:a < 64) (hb:b < 64):iOr .i64 a b=((a ||| b:Nat):Int)∧a ||| b < 64:=by
  have h0:a ||| b < 64:=Nat.or_lt_two_pow (n:=6) ha hb
  refine ⟨?_,h0⟩
  unfold iOr
  have h1:(BitVec.ofInt IntKind.i64.bits (a:Int) ||| BitVec.ofInt IntKind.i64.bits (b:Int)).toNat=a ||| b:=by
    have e:IntKind.i64.bits=64:=rfl
    rw [e]
    simp only [BitVec.toNat_or,BitVec.ofInt_natCast,BitVec.toNat_ofNat]
    rw [Nat.mod_eq_of_lt (by omega),Nat.mod_eq_of_lt (by omega)]
  rw [h1]
  exact IntWalk.i64_in _ (by omega)
theorem fits_zero:∀ {zs:List Int},(∀z∈zs,0 < z)→Fits zs (List.replicate zs.length 0)
  | [],_=>.nil
  | z::zs,h=>by
    rw [List.length_cons,List.replicate_succ]
    exact .cons (by omega) (h z (by simp)) (fits_zero fun x hx=>h x (by simp [hx]))
end Go.Am
namespace Go.Am
open Go Go.Proofs
set_option maxHeartbeats 1000000
attribute [local irreducible] QOp AOp Lex LexO AWp Spec
variable {TB:Amb}
end Go.Am
namespace Go.Am
open Go
end Go.Am
namespace Go.Am
open Go Go.Proofs
set_option maxHeartbeats 1000000
attribute [local irreducible] QOp AOp Lex LexO AWp Spec
variable {TB:Amb}
end Go.Am
namespace Go.Am
open Go Go.Proofs
set_option maxHeartbeats 1000000
attribute [local irreducible] QOp AOp Lex LexO AWp Spec
variable {TB:Amb}
theorem renL_d (r:Nat→Nat):∀ds:List D,C.renL r (ds.map .d)=ds.map .d
  | []=>rfl
  | d::l=>by simp [C.renL,C.ren,renL_d r l]
theorem splice_set {r:List C} {j:Nat} {c:C} (h:j < r.length):spliceC r j [c]=r.set j c:=by
  unfold spliceC
  rw [List.set_eq_take_append_cons_drop,if_pos h]
  simp
theorem shl_one {t:Int} (h0:0≤t) (h1:t < 16):IntKind.i64.wrap (1*2 ^ (min t.toNat IntKind.i64.bits))=((2 ^ t.toNat:Nat):Int):=by
  have e:min t.toNat IntKind.i64.bits=t.toNat:=by
    have:IntKind.i64.bits=64:=rfl
    omega
  rw [e,Int.one_mul]
  have h2:2 ^ t.toNat < 2 ^ 16:=Nat.pow_lt_pow_right (by omega) (by omega)
  have h3:(2:Int) ^ t.toNat=((2 ^ t.toNat:Nat):Int):=by push_cast;rfl
  rw [h3]
  generalize 2 ^ t.toNat=p at *
  exact IntWalk.i64_in _ (by omega)
end Go.Am
namespace Go.Am
open Go Go.Proofs
set_option maxHeartbeats 1000000
attribute [local irreducible] QOp AOp Lex LexO AWp Spec
variable {TB:Amb}
def rowF (h:Nat→Int):List C:=(List.range 6).map fun l=>.d (iD (h l))
def rowD (h:Nat→Int):List D:=(List.range 6).map fun l=>iD (h l)
theorem rowF_d (h:Nat→Int):rowF h=(rowD h).map .d:=by simp [rowF,rowD]
def rowsF {α:Type} (n:Nat) (g:Nat→α):List α:=(List.range n).map g
theorem rowsF_get {α:Type} {n q:Nat} {g:Nat→α} (h:q < n):(rowsF n g)[q]? = some (g q):=by simp [rowsF,h]
theorem rowsF_set {α:Type} {n q:Nat} {g:Nat→α} {x:α}:(rowsF n g).set q x=rowsF n fun i=>if i=q then x else g i:=by
  apply List.ext_getElem?
  intro i
  by_cases hi:i < n
  · rw [rowsF_get hi]
    by_cases hq:q=i
    · subst hq;rw [List.getElem?_set_self (by simp [rowsF,hi])];simp
    · rw [List.getElem?_set_ne hq,rowsF_get hi,if_neg (Ne.symm hq)]
  · rw [List.getElem?_eq_none (by simp [rowsF];omega),List.getElem?_eq_none (by simp [rowsF];omega)]
theorem rowsF_congr {α:Type} {n:Nat} {g g':Nat→α} (h:∀i,i < n→g i=g' i):rowsF n g=rowsF n g':=by
  unfold rowsF
  exact List.map_congr_left fun i hi=>h i (List.mem_range.1 hi)
theorem rowF_set {h:Nat→Int} {l:Nat} {v:Int} (hl:l < 6):spliceC (rowF h) (0+l*1) (eC (eI .i64 v))=rowF fun x=>if x=l then v else h x:=by
  have e:eC (eI .i64 v)=[C.d (iD v)]:=rfl
  rw [e,splice_set (by simp [rowF];omega)]
  have:=rowsF_set (n:=6) (q:=l) (g:=fun l=>C.d (iD (h l))) (x:=C.d (iD v))
  have e1:0+l*1=l:=by omega
  rw [e1]
  refine Eq.trans this (rowsF_congr fun i _=>?_)
  by_cases e:i=l<;>simp [e]
theorem rowF_congr {h h':Nat→Int} (hh:∀l,l < 6→h l=h' l):rowF h=rowF h':=rowsF_congr fun i hi=>by rw [hh i hi]
theorem lettersTo_pre (s:Int):∀(n k:Nat),k≤n→lettersTo s k <+: lettersTo s n
  | 0, k, h => by have:k=0:=by omega
                  subst this;exact List.prefix_refl _
  | n + 1,k,h=>by
    rcases Nat.lt_or_ge k (n+1) with h1|h1
    · rw [lettersTo_succ]
      exact (lettersTo_pre s n k (by omega)).trans (List.prefix_append _ _)
    · have:k=n+1:=by omega
      subst this;exact List.prefix_refl _
theorem letters_place {s:Int} {k n:Nat} {l:Int} (h:(lettersTo s n)[k]? = some l):(lettersTo s l.toNat).length=k:=by
  have h1:=lettersTo_in (List.mem_of_getElem? h)
  have h2:(lettersTo s (l.toNat+1))[(lettersTo s l.toNat).length]? = some l:=by
    rw [lettersTo_succ,if_pos h1.2.2,List.getElem?_append_right (Nat.le_refl _)]
    simp;omega
  have h3:(lettersTo s n)[(lettersTo s l.toNat).length]? = some l:=by
    obtain ⟨t,ht⟩:=lettersTo_pre s n (l.toNat+1) (by omega)
    rw [←ht,List.getElem?_append_left (List.getElem?_eq_some_iff.1 h2).1];exact h2
  have hp:=letters_sorted s n
  rw [List.pairwise_iff_getElem] at hp
  obtain ⟨a1,a2⟩:=List.getElem?_eq_some_iff.1 h
  obtain ⟨b1,b2⟩:=List.getElem?_eq_some_iff.1 h3
  rcases Nat.lt_trichotomy (lettersTo s l.toNat).length k with h4|h4|h4
  · have:=hp _ _ b1 a1 h4;omega
  · exact h4
  · have:=hp _ _ a1 b1 h4;omega
theorem mem_lettersTo {s:Int} {n l:Nat}:(l:Int)∈lettersTo s n↔l < n∧bitB s l=true:=by
  unfold lettersTo
  simp only [List.mem_map,List.mem_filter,List.mem_range]
  constructor
  · rintro ⟨a,ha,e⟩
    have:a=l:=by have e:((a:Nat):Int)=l:=e;omega
    subst this;exact ha
  · intro h;exact ⟨l,h,rfl⟩
def tbC (n:Nat) (H:Nat→Nat→Int):List (List C):=rowsF n fun i=>rowF (H i)
theorem tbC_ren (r:Nat→Nat) (n:Nat) (H:Nat→Nat→Int):(tbC n H).map (C.renL r)=tbC n H:=by
  unfold tbC rowsF
  rw [List.map_map]
  exact List.map_congr_left fun i _=>by simp only [Function.comp_def,rowF_d,renL_d]
theorem tbC_zero (n:Nat):tbC n (fun _ _=>0)=List.replicate n [C.d (D.v (Value.int IntKind.i64 0)),C.d (D.v (Value.int IntKind.i64 0)),C.d (D.v (Value.int IntKind.i64 0)),C.d (D.v (Value.int IntKind.i64 0)),C.d (D.v (Value.int IntKind.i64 0)),C.d (D.v (Value.int IntKind.i64 0))]:=by
  unfold tbC rowsF
  rw [List.map_const'];simp;exact .inr rfl
theorem tbC_get {n q:Nat} {H:Nat→Nat→Int} (h:q < n):(tbC n H)[0+((q:Nat):Int).toNat]? = some (rowF (H q)):=by
  rw [Nat.zero_add,Int.toNat_natCast];exact rowsF_get (g:=fun i=>rowF (H i)) h
theorem tbC_set {n q l:Nat} {v:Int} {H:Nat→Nat→Int} (hl:l < 6):(tbC n H).set (0+((q:Nat):Int).toNat) (spliceC (rowF (H q)) (0+((l:Nat):Int).toNat*1) (eC (eI .i64 v)))=tbC n fun i x=>if i=q∧x=l then v else H i x:=by
  rw [Nat.zero_add,Int.toNat_natCast,Int.toNat_natCast,rowF_set hl]
  unfold tbC
  rw [rowsF_set]
  refine rowsF_congr fun i _=>?_
  by_cases e:i=q
  · subst e;rw [if_pos rfl];exact rowF_congr fun l _=>by simp
  · rw [if_neg e];exact rowF_congr fun l _=>by simp [e]
theorem tbC_congr {n:Nat} {H H':Nat→Nat→Int} (h:∀i,i < n→∀l,l < 6→H i l=H' i l):tbC n H=tbC n H':=rowsF_congr fun i hi=>rowF_congr fun l hl=>h i hi l hl
theorem tbC_len (n:Nat) (H:Nat→Nat→Int):(tbC n H).length=n:=by simp [tbC,rowsF]
def tblD (a:Aut):List (List D):=rowsF a.nx.length fun q=>rowD fun l=>goA a q l
theorem tbC_d (a:Aut):tbC a.nx.length (fun i l=>goA a i l)=(tblD a).map fun r=>r.map .d:=by
  unfold tbC tblD rowsF
  rw [List.map_map]
  exact List.map_congr_left fun i _=>by simp only [Function.comp_def,rowF_d]
theorem tableOf_ok (a:Aut) (h:autOk a=true):Pure Tryz.prog TB 39 [eAut a] (.o (.d (.l (tblD a)))):=by
  have hh:=autOk_head h
  have hll:(letters a.al).length≤6:=lettersTo_len a.al 6
  refine eN Tryz.func39 rfl (by kernel_rfl) rfl ?_;intro Γ hΓ
  (repeat first|refine sN rfl ?_|((first|refine sM rfl ?_ ?_|refine s4 rfl ‹_› rfl ?_ ?_);first|exact tI|omega|(simp only[oZ] at *;omega))|(refine s2 rfl ?_;intro _ _hb)|(refine s3 rfl ?_ ?_<;>intro hb<;>subst hb)|refine aS ?_|refine reg (by kernel_rfl) ?_|refine lexE ?_|refine rD (by kernel_rfl) (by kernel_rfl) ?_)
  (refine popO rfl ?_;refine popS (fun _ _=>q_boxI rfl rfl rfl) rfl ?_)
  (refine popO rfl ?_;refine popS (fun _ _=>q_assign rfl) rfl ?_)
  (repeat first|refine sN rfl ?_|((first|refine sM rfl ?_ ?_|refine s4 rfl ‹_› rfl ?_ ?_);first|exact tI|omega|(simp only[oZ] at *;omega))|(refine s2 rfl ?_;intro _ _hb)|(refine s3 rfl ?_ ?_<;>intro hb<;>subst hb)|refine aS ?_|refine reg (by kernel_rfl) ?_|refine lexE ?_|refine rD (by kernel_rfl) (by kernel_rfl) ?_)
  (refine popO rfl ?_;refine popW ?_ rfl (by rfl);refine n_make rfl rfl (by rfl) (by rfl) (Nat.le_of_ble_eq_true rfl) (by omega) (by omega) (by omega) ?_)
  (repeat first|refine sN rfl ?_|((first|refine sM rfl ?_ ?_|refine s4 rfl ‹_› rfl ?_ ?_);first|exact tI|omega|(simp only[oZ] at *;omega))|(refine s2 rfl ?_;intro _ _hb) |refine sP rfl (lettersOf_ok a.al) rfl ?_|(refine s3 rfl ?_ ?_<;>intro hb<;>subst hb)|refine aS ?_|refine reg (by kernel_rfl) ?_|refine lexE ?_|refine rD (by kernel_rfl) (by kernel_rfl) ?_)
  refine AWp.block ?_
  refine AWp.loopL (α:={q:Nat // q≤a.nx.length}) (fun ⟨q,hq⟩=>[(1,.o (.ip (auRow a))),(3,.o (.arr 0 6 0 a.nx.length)),(4,eInts (letters a.al)),(18,eIntss a.nx),(19,eI .i64 a.nx.length),(20,eI .i64 q)]) (fun ⟨q,hq⟩=>[(0,.cells 67 6 (tbC a.nx.length fun i l=>if i < q then goA a i l else 0))]) 1 (fun ⟨q,hq⟩=>a.nx.length - q) (⟨0,by omega⟩) [0] (rl3 hΓ rfl rfl) (by (repeat' first|exact tI|rfl|refine And.intro ?_ ?_)<;>simp[cX,zC,hΓ,tbC_ren,tbC_zero]) ?_;rintro ⟨q,hq⟩;(try dsimp only)
  (repeat first|refine sN rfl ?_|((first|refine sM rfl ?_ ?_|refine s4 rfl ‹_› rfl ?_ ?_);first|exact tI|omega|(simp only[oZ] at *;omega))|(refine s2 rfl ?_;intro _ _hb)|(refine s3 rfl ?_ ?_<;>intro hb<;>subst hb)|refine aS ?_|refine reg (by kernel_rfl) ?_|refine lexE ?_|refine rD (by kernel_rfl) (by kernel_rfl) ?_)
  (refine aC rfl ?_ ?_<;>intro hb<;>cases hb)
  · have hqn : q < a.nx.length:=by first|omega|(simp only[oZ] at *;omega)
    obtain ⟨row,hr,hrl,hrx⟩:=autOk_row h hqn
    have hr':=get_map (g:=iiRow) hr
    refine AWp.skip ?_
    refine AWp.seq (AWp.block ?_)
    (repeat first|refine sN rfl ?_|((first|refine sM rfl ?_ ?_|refine s4 rfl ‹_› rfl ?_ ?_);first|exact tI|omega|(simp only[oZ] at *;omega))|(refine s2 rfl ?_;intro _ _hb)|(refine s3 rfl ?_ ?_<;>intro hb<;>subst hb)|refine aS ?_|refine reg (by kernel_rfl) ?_|refine lexE ?_|refine rD (by kernel_rfl) (by kernel_rfl) ?_)
    refine AWp.block ?_
    refine AWp.loopL (α:={m:Nat // m≤6}) (fun ⟨m,hm⟩=>[(1,.o (.ip (auRow a))),(3,.o (.arr 0 6 0 a.nx.length)),(4,eInts (letters a.al)),(18,eIntss a.nx),(19,eI .i64 a.nx.length),(20,eI .i64 q),(5,eI .i64 q),(6,eInts row),(25,eI .i64 m)]) (fun ⟨m,hm⟩=>[(0,.cells 67 6 (tbC a.nx.length fun i l=>if i < q then goA a i l else if i=q∧l < m then q else 0))]) 1 (fun ⟨m,hm⟩=>6 - m) (⟨0,by omega⟩) [0] (rl3 hΓ rfl rfl) (by (repeat' first|exact tI|rfl|refine And.intro ?_ ?_)<;>simp[cX,zC,hΓ,tbC_ren]) ?_;rintro ⟨m,hm⟩;(try dsimp only)
    (repeat first|refine sN rfl ?_|((first|refine sM rfl ?_ ?_|refine s4 rfl ‹_› rfl ?_ ?_);first|exact tI|omega|(simp only[oZ] at *;omega))|(refine s2 rfl ?_;intro _ _hb)|(refine s3 rfl ?_ ?_<;>intro hb<;>subst hb)|refine aS ?_|refine reg (by kernel_rfl) ?_|refine lexE ?_|refine rD (by kernel_rfl) (by kernel_rfl) ?_)
    (refine aC rfl ?_ ?_<;>intro hb<;>cases hb)
    · have hm6:m < 6:=by first|omega|(simp only[oZ] at *;omega)
      have hmj:0+((m:Nat):Int).toNat*1+1≤6:=by omega
      have hg:=tbC_get (H:=fun i l=>if i < q then goA a i l else if i=q∧l < m then q else 0) hqn
      have hs:=tbC_set (n:=a.nx.length) (q:=q) (v:=q) (H:=fun i l=>if i < q then goA a i l else if i=q∧l < m then q else 0) hm6
      have hc:(tbC a.nx.length fun (i x:Nat)=>if i=q∧x=m then (q:Int) else (fun (i l:Nat)=>if i < q then goA a i l else if i=q∧l < m then (q:Int) else 0) i x)=tbC a.nx.length fun i l=>if i < q then goA a i l else if i=q∧l < m+1 then (q:Int) else 0:=tbC_congr fun i _ l _=>by dsimp only;grind
      refine AWp.skip ?_
      refine AWp.seq (AWp.block ?_)
      (repeat first|refine sN rfl ?_|((first|refine sM rfl ?_ ?_|refine s4 rfl ‹_› rfl ?_ ?_);first|exact tI|omega|(simp only[oZ] at *;omega))|(refine s2 rfl ?_;intro _ _hb)|(refine s3 rfl ?_ ?_<;>intro hb<;>subst hb)|refine aS ?_|refine reg (by kernel_rfl) ?_|refine lexE ?_|refine rD (by kernel_rfl) (by kernel_rfl) ?_)
      (refine popO rfl ?_;refine popW0 ?_ rfl (by rfl);refine n_store rfl rfl rfl rfl (hg) rfl (hmj) ?_)
      (repeat first|refine sN rfl ?_|((first|refine sM rfl ?_ ?_|refine s4 rfl ‹_› rfl ?_ ?_);first|exact tI|omega|(simp only[oZ] at *;omega))|(refine s2 rfl ?_;intro _ _hb)|(refine s3 rfl ?_ ?_<;>intro hb<;>subst hb)|refine aS ?_|refine reg (by kernel_rfl) ?_|refine lexE ?_)
      refine ⟨⟨m+1,by first|omega|(simp only[oZ] at *;omega)⟩,by dsimp only;(first|omega|(simp only[oZ] at *;omega)),[0],?_⟩
      rw [hs,hc]
      simp[cX,zC,hΓ,tbC_ren]
    · obtain rfl:m=6:=by first|omega|(simp only[oZ] at *;omega)
      have hc0:=tbC_congr (n:=a.nx.length) (H:=fun i l=>if i < q then goA a i l else if i=q∧l < 6 then (q:Int) else 0) (H':=fun i l=>if i < q then goA a i l else if i=q then (if (l:Int)∈(letters a.al).take 0 then goA a q l else (q:Int)) else 0) fun i _ l hl=>by simp [hl]
      rw [hc0]
      refine AWp.exit ?_
      (repeat first|refine sN rfl ?_|((first|refine sM rfl ?_ ?_|refine s4 rfl ‹_› rfl ?_ ?_);first|exact tI|omega|(simp only[oZ] at *;omega))|(refine s2 rfl ?_;intro _ _hb)|(refine s3 rfl ?_ ?_<;>intro hb<;>subst hb)|refine aS ?_|refine reg (by kernel_rfl) ?_|refine lexE ?_|refine rD (by kernel_rfl) (by kernel_rfl) ?_)
      refine AWp.block ?_
      refine AWp.loopL (α:={k:Nat // k≤(letters a.al).length}) (fun ⟨k,hk⟩=>[(1,.o (.ip (auRow a))),(3,.o (.arr 0 6 0 a.nx.length)),(4,eInts (letters a.al)),(18,eIntss a.nx),(19,eI .i64 a.nx.length),(20,eI .i64 q),(5,eI .i64 q),(6,eInts row),(35,eInts (letters a.al)),(36,eI .i64 (letters a.al).length),(37,eI .i64 k)]) (fun ⟨k,hk⟩=>[(0,.cells 67 6 (tbC a.nx.length fun i l=>if i < q then goA a i l else if i=q then (if (l:Int)∈(letters a.al).take k then goA a q l else (q:Int)) else 0))]) 1 (fun ⟨k,hk⟩=>(letters a.al).length - k) (⟨0,by omega⟩) [0] (rl3 hΓ rfl rfl) (by (repeat' first|exact tI|rfl|refine And.intro ?_ ?_)<;>simp[cX,zC,hΓ,tbC_ren]) ?_;rintro ⟨k,hk⟩;(try dsimp only)
      (repeat first|refine sN rfl ?_|((first|refine sM rfl ?_ ?_|refine s4 rfl ‹_› rfl ?_ ?_);first|exact tI|omega|(simp only[oZ] at *;omega))|(refine s2 rfl ?_;intro _ _hb)|(refine s3 rfl ?_ ?_<;>intro hb<;>subst hb)|refine aS ?_|refine reg (by kernel_rfl) ?_|refine lexE ?_|refine rD (by kernel_rfl) (by kernel_rfl) ?_)
      (refine aC rfl ?_ ?_<;>intro hb<;>cases hb)
      · obtain ⟨l,hl⟩:=get_some (l:=letters a.al) (k:=k) (by first|omega|(simp only[oZ] at *;omega))
        have hl':=get_map (g:=iRow) hl
        have hlb:=lettersTo_in (List.mem_of_getElem? hl)
        have hpl:=letters_place hl
        obtain ⟨y,hy⟩:=get_some (l:=row) (k:=k) (by first|omega|(simp only[oZ] at *;omega))
        have hy':=get_map (g:=iRow) hy
        obtain ⟨m,rfl⟩:∃m:Nat,l=m:=⟨l.toNat,by omega⟩
        have hgo:goA a q m=y:=by
          unfold goA
          rw [if_pos hlb.2.2,hpl];simp [List.getD,hr,hy]
        have hm6:m < 6:=by omega
        have hmj:0+((m:Nat):Int).toNat*1+1≤6:=by omega
        have hg:=tbC_get (H:=fun i l=>if i < q then goA a i l else if i=q then (if (l:Int)∈(letters a.al).take k then goA a q l else (q:Int)) else 0) hqn
        have hs:=tbC_set (n:=a.nx.length) (q:=q) (v:=y) (H:=fun i l=>if i < q then goA a i l else if i=q then (if (l:Int)∈(letters a.al).take k then goA a q l else (q:Int)) else 0) hm6
        have hc:(tbC a.nx.length fun (i x:Nat)=>if i=q∧x=m then y else (fun (i l:Nat)=>if i < q then goA a i l else if i=q then (if (l:Int)∈(letters a.al).take k then goA a q l else (q:Int)) else 0) i x)=tbC a.nx.length fun i l=>if i < q then goA a i l else if i=q then (if (l:Int)∈(letters a.al).take (k+1) then goA a q l else (q:Int)) else 0:=tbC_congr fun i _ l _=>by
          try dsimp only
          rw [List.take_add_one,hl]
          by_cases e:i=q
          · subst e
            by_cases e2:l=m
            · subst e2;simp [hgo]
            · have e3:¬(l:Int)=(m:Int):=by omega
              simp [e2,e3]
          · simp [e]
        refine AWp.skip ?_
        refine AWp.seq (AWp.block ?_)
        (repeat first|refine sN rfl ?_|((first|refine sM rfl ?_ ?_|refine s4 rfl ‹_› rfl ?_ ?_);first|exact tI|omega|(simp only[oZ] at *;omega))|(refine s2 rfl ?_;intro _ _hb)|(refine s3 rfl ?_ ?_<;>intro hb<;>subst hb)|refine aS ?_|refine reg (by kernel_rfl) ?_|refine lexE ?_)
        refine regD (flN [9]) mixed (by kernel_rfl) (by kernel_rfl) ?_
        (repeat first|refine sN rfl ?_|((first|refine sM rfl ?_ ?_|refine s4 rfl ‹_› rfl ?_ ?_);first|exact tI|omega|(simp only[oZ] at *;omega))|(refine s2 rfl ?_;intro _ _hb)|(refine s3 rfl ?_ ?_<;>intro hb<;>subst hb)|refine aS ?_|refine reg (by kernel_rfl) ?_|refine lexE ?_|refine rD (by kernel_rfl) (by kernel_rfl) ?_)
        (refine popO rfl ?_;refine popW0 ?_ rfl (by rfl);refine n_store rfl rfl rfl rfl (hg) rfl (hmj) ?_)
        (repeat first|refine sN rfl ?_|((first|refine sM rfl ?_ ?_|refine s4 rfl ‹_› rfl ?_ ?_);first|exact tI|omega|(simp only[oZ] at *;omega))|(refine s2 rfl ?_;intro _ _hb)|(refine s3 rfl ?_ ?_<;>intro hb<;>subst hb)|refine aS ?_|refine reg (by kernel_rfl) ?_|refine lexE ?_)
        refine ⟨⟨k+1,by first|omega|(simp only[oZ] at *;omega)⟩,by dsimp only;(first|omega|(simp only[oZ] at *;omega)),[0],?_⟩
        rw [hs,hc]
        simp[cX,zC,hΓ,tbC_ren]
      · obtain rfl:k=(letters a.al).length:=by first|omega|(simp only[oZ] at *;omega)
        have hc0:=tbC_congr (n:=a.nx.length) (H:=fun i l=>if i < q then goA a i l else if i=q then (if (l:Int)∈(letters a.al).take (letters a.al).length then goA a q l else (q:Int)) else 0) (H':=fun i l=>if i < q+1 then goA a i l else 0) fun i _ l hl=>by
          try dsimp only
          rw [List.take_length]
          by_cases e:i=q
          · subst e
            simp only [Nat.lt_irrefl,if_false,if_true,Nat.lt_succ_self]
            by_cases e2:bitB a.al l=true
            · rw [if_pos (mem_lettersTo.2 ⟨hl,e2⟩)]
            · rw [if_neg (fun h=>e2 (mem_lettersTo.1 h).2)];unfold goA;rw [if_neg (by simpa using e2)]
          · by_cases e2:i < q
            · rw [if_pos e2,if_pos (by omega)]
            · rw [if_neg e2,if_neg e,if_neg (by omega)]
        rw [hc0]
        refine AWp.exit ?_
        (repeat first|refine sN rfl ?_|((first|refine sM rfl ?_ ?_|refine s4 rfl ‹_› rfl ?_ ?_);first|exact tI|omega|(simp only[oZ] at *;omega))|(refine s2 rfl ?_;intro _ _hb)|(refine s3 rfl ?_ ?_<;>intro hb<;>subst hb)|refine aS ?_|refine reg (by kernel_rfl) ?_|refine lexE ?_|refine rD (by kernel_rfl) (by kernel_rfl) ?_)
        refine ⟨⟨q+1,by first|omega|(simp only[oZ] at *;omega)⟩,by dsimp only;(first|omega|(simp only[oZ] at *;omega)),[0],?_⟩
        simp[cX,zC,hΓ,tbC_ren]
  · obtain rfl:q=a.nx.length:=by first|omega|(simp only[oZ] at *;omega)
    have hc:=tbC_congr (n:=a.nx.length) (H:=fun i l=>if i < a.nx.length then goA a i l else 0) (H':=fun i l=>goA a i l) fun i hi l _=>by rw [if_pos hi]
    rw [hc]
    refine AWp.exit ?_
    (repeat first|refine sN rfl ?_|((first|refine sM rfl ?_ ?_|refine s4 rfl ‹_› rfl ?_ ?_);first|exact tI|omega|(simp only[oZ] at *;omega))|(refine s2 rfl ?_;intro _ _hb)|(refine s3 rfl ?_ ?_<;>intro hb<;>subst hb)|refine aS ?_|refine reg (by kernel_rfl) ?_|refine lexE ?_|refine rD (by kernel_rfl) (by kernel_rfl) ?_)
    refine AWp.freeze [0] [(2,.o (.d (.l (tblD a))))] ⟨⟨_,rfl,.o (.full (by simp) rfl (tbC_d a) (by simp [tbC_len]))⟩,trivial⟩ ?_
    refine AWp.ret ⟨_,rfl,rfl⟩
end Go.Am
namespace Go.Am
open Go Go.Proofs
set_option maxHeartbeats 1000000
attribute [local irreducible] QOp AOp Lex LexO AWp Spec
variable {TB:Amb}
end Go.Am
namespace Go.Am
open Go
def lowN:List Int→List (List Int)→List Int
  | _::zs,c::cs=>c.flatMap fun q=>(lowN zs cs).map fun r=>q*prodI zs+r
  | _,_=>[0]
theorem mixN_low:∀ {zs:List Int} {cs:List (List Int)},ChOk zs cs→∀out:List Int,mixN zs cs out=out.flatMap fun o=>(lowN zs cs).map fun r=>o*prodI zs+r:=by
  intro zs cs h
  induction h with
  | nil=>intro out;simp [mixN,lowN,prodI]
  | @cons z c zs cs _ _ _ ih=>
    intro out
    rw [mixN,ih,List.flatMap_assoc]
    congr 1
    funext o
    rw [List.flatMap_map,lowN,List.map_flatMap]
    congr 1
    funext q
    rw [List.map_map]
    congr 1
    funext r
    simp only [Function.comp_def,prodI]
    rw [Int.add_mul,Int.mul_assoc];omega
theorem mixN_low0 {zs:List Int} {cs:List (List Int)} (h:ChOk zs cs):mixN zs cs [0]=lowN zs cs:=by
  rw [mixN_low h];simp
theorem prodI_app:∀(zs ws:List Int),prodI (zs++ws)=prodI zs*prodI ws
  | [],ws=>by simp [prodI]
  | z::zs,ws=>by simp [prodI,prodI_app zs ws,Int.mul_assoc]
theorem decN_app:∀(zs ws:List Int) (n:Int),(∀w∈ws,0 < w)→decN (zs++ws) n=decN zs (n / prodI ws)++decN ws n
  | [],ws,n,_=>rfl
  | z::zs,ws,n,h=>by
    have hp:=prodI_pos h
    simp only [List.cons_append,decN,decN_app zs ws n h,prodI_app]
    rw [Int.mul_comm (prodI zs),Int.ediv_ediv_of_nonneg (by omega)]
def csP (l:List Sys) (node letter:Int):List (List Int):=l.zipWith (fun s q=>sysTo s q letter) (decN (l.map (·.st)) node)
theorem csP_ok {l:List Sys} (h:∀s∈l,sysOk s=true) (hl:l.length≤3) {letter:Int} (h0:0≤letter) (h1:letter < 6) (node:Int):ChOk (l.map (·.st)) (csP l node letter):=by
  have hn:NetOk ⟨l,[],[],0,0,0⟩:=⟨h,fun a ha=>(by cases ha),hl,by simp⟩
  have hz:sizesN ⟨l,[],[],0,0,0⟩=l.map (·.st):=by simp [sizesN]
  have hf:=dec_fits hn node
  have:=choL_ok hn hf h0 h1
  rw [hz] at this
  unfold choL at this
  simpa [csP] using this
end Go.Am
namespace Go.Am
open Go Go.Proofs
set_option maxHeartbeats 1000000
attribute [local irreducible] QOp AOp Lex LexO AWp Spec
variable {TB:Amb}
theorem q_loadIp0 {P:Program} {Γ:Ctx} {d:Option Tmp} {ty:TypeId} {pos:String} {af:Array Edge} {g:Option (Nat×Bool)} {f:Env} {σ:Store} {nx:Nat} {t:TypeId} {x:Operand} {c:D} {cs:List D} {n:Nat} [hl:HasLd P t false n] (hx:ev f x=some (.o (.ip cs))) (hc:cs[0]? = some c):QOp P TB Γ ⟨d,.load t x,ty,pos,af,g⟩ f σ nx (.o (.d c)):=by
  cases cs with
  | nil=>cases hc
  | cons a l=>injection hc with hc;subst hc;exact q_loadIp hx
end Go.Am
namespace Go.Am
open Go
structure Stp where
  p:Int
  l:Int
  ns:List Int
structure VSt where
  seen:List Bool
  fresh:List Int
  found:Bool
def sn (seen:List Bool) (n:Int):Bool:=seen.getD n.toNat false
def vstep (goal:Int→Bool) (st:VSt) (n:Int):VSt:=if sn st.seen n then st else ⟨st.seen.set n.toNat true,st.fresh++[n],st.found || goal n⟩
def vis (goal:Int→Bool) (seen:List Bool) (nodes:List Int):VSt:=nodes.foldl (vstep goal) ⟨seen,[],false⟩
theorem sn_set {seen:List Bool} {n m:Int} (hn:0≤n∧n.toNat < seen.length) (hm:0≤m):sn (seen.set n.toNat true) m=(sn seen m || decide (m=n)):=by
  unfold sn
  by_cases h:m=n
  · subst h;simp [List.getD,hn.2]
  · have:n.toNat≠m.toNat:=by omega
    simp [List.getD,List.getElem?_set_ne this,h]
theorem count_set {seen:List Bool} {k:Nat} (h:seen[k]? = some false):(seen.set k true).count true=seen.count true+1:=by
  induction seen generalizing k with
  | nil=>simp at h
  | cons a l ih=>
    cases k with
    | zero=>simp at h;subst h;simp
    | succ k=>
      have:=ih (k:=k) (by simpa using h)
      simp only [List.set_cons_succ,List.count_cons,this];omega
structure VOk (goal:Int→Bool) (N:Nat) (seen:List Bool) (nodes:List Int) (st:VSt):Prop where
  len:st.seen.length=N
  snI:∀n:Int,0≤n→(sn st.seen n=true↔sn seen n=true∨n∈nodes)
  fr:∀n:Int,n∈st.fresh↔n∈nodes∧sn seen n=false
  nd:st.fresh.Nodup
  fd:st.found=st.fresh.any goal
  cnt:st.seen.count true=seen.count true+st.fresh.length
theorem vis_ok {goal:Int→Bool} {N:Nat} {seen:List Bool} {nodes:List Int} (hs:seen.length=N) (hn:∀n∈nodes,0≤n∧n < N):VOk goal N seen nodes (vis goal seen nodes):=by
  have key : ∀ (l done:List Int) (st:VSt),(∀n∈l,0≤n∧n < N)→(∀n∈done,0≤n)→VOk goal N seen done st→VOk goal N seen (done++l) (l.foldl (vstep goal) st):=by
    intro l
    induction l with
    | nil=>intro done st _ _ h;simpa using h
    | cons a l ih=>
      intro done st hl hd h
      have ha:=hl a (by simp)
      rw [List.foldl_cons,show done++a::l=(done++[a])++l by simp]
      refine ih (done++[a]) _ (fun n hn=>hl n (by simp [hn])) (fun n hn=>by rcases List.mem_append.1 hn with h1|h1;exact hd n h1;simp at h1;omega) ?_
      have hlen:=h.len
      have hmem:∀n:Int,n∈done++[a]↔n∈done∨n=a:=fun n=>by simp
      unfold vstep
      by_cases hsa:sn st.seen a=true
      · rw [if_pos hsa]
        have h1:=(h.snI a ha.1).1 hsa
        refine ⟨h.len,fun n hn0=>?_,fun n=>?_,h.nd,h.fd,h.cnt⟩
        · rw [h.snI n hn0,hmem]
          constructor
          · rintro (h2|h2);exact .inl h2;exact .inr (.inl h2)
          · rintro (h2|h2|rfl);exact .inl h2;exact .inr h2;exact h1
        · rw [h.fr n,hmem]
          constructor
          · rintro ⟨h2,h3⟩;exact ⟨.inl h2,h3⟩
          · rintro ⟨h2|rfl,h3⟩
            · exact ⟨h2,h3⟩
            · rcases h1 with h1|h1
              · rw [h1] at h3;cases h3
              · exact ⟨h1,h3⟩
      · rw [if_neg hsa]
        have h1:sn seen a=false∧a∉done:=by
          have h2:¬(sn seen a=true∨a∈done):=fun h3=>hsa ((h.snI a ha.1).2 h3)
          exact ⟨by simpa using fun h3=>h2 (.inl h3),fun h3=>h2 (.inr h3)⟩
        have hk:st.seen[a.toNat]? = some false:=by
          unfold sn at hsa
          have:a.toNat < st.seen.length:=by omega
          simp [List.getD,this] at hsa
          rw [List.getElem?_eq_getElem this,hsa]
        refine ⟨by simpa using h.len,fun n hn0=>?_,fun n=>?_,?_,?_,?_⟩
        · rw [sn_set ⟨ha.1,by omega⟩ hn0,hmem,Bool.or_eq_true,h.snI n hn0];simp;grind
        · simp only [List.mem_append,List.mem_singleton,h.fr n]
          grind
        · refine List.nodup_append.2 ⟨h.nd,by simp,fun x hx y hy=>?_⟩
          simp at hy;subst hy
          intro e;subst e
          exact h1.2 ((h.fr x).1 hx).1
        · simp [List.any_append,h.fd]
        · rw [count_set hk,h.cnt];simp;omega
  have:=key nodes [] ⟨seen,[],false⟩ hn (by simp) ⟨hs,fun n _=>by simp,fun n=>by simp,.nil,rfl,by simp⟩
  simpa [vis] using this
theorem llt_trans:∀ {a b c:List Int},llt a b→llt b c→llt a c
  | [],_,_,h,_=>h.elim
  | _::_,[],_,h,_=>h.elim
  | _::_,_::_,[],_,h=>h.elim
  | x::a,y::b,z::c,h,k=>by
    simp only [llt] at *
    rcases h with h|⟨h,h'⟩<;>rcases k with k|⟨k,k'⟩
    · exact .inl (by omega)
    · exact .inl (by omega)
    · exact .inl (by omega)
    · exact .inr ⟨by omega,llt_trans h' k'⟩
theorem llt_irr:∀ {a:List Int},¬llt a a
  | [],h=>h
  | x::a,h=>by rcases h with h|⟨_,h⟩;omega;exact llt_irr h
theorem slt_trans {a b c:List Int} (h:slt a b) (k:slt b c):slt a c:=by
  unfold slt at *
  rcases h with h|⟨h,h'⟩<;>rcases k with k|⟨k,k'⟩
  · exact .inl (by omega)
  · exact .inl (by omega)
  · exact .inl (by omega)
  · exact .inr ⟨by omega,llt_trans h' k'⟩
theorem slt_irr {a:List Int}:¬slt a a:=by
  rintro (h|⟨_,h⟩);omega;exact llt_irr h
theorem slt_tri' (a b:List Int):slt a b∨a=b∨slt b a:=by
  rcases Nat.lt_trichotomy a.length b.length with h|h|h
  · exact .inl (.inl h)
  · rcases llt_tri h with h1|h1|h1
    · exact .inl (.inr ⟨h,h1⟩)
    · exact .inr (.inl h1)
    · exact .inr (.inr (.inr ⟨h.symm,h1⟩))
  · exact .inr (.inr (.inl h))
theorem slt_app {a b:List Int} {l m:Int} (h:slt a b):slt (a++[l]) (b++[m]):=by
  rcases h with h|⟨h,h'⟩
  · exact .inl (by simp;omega)
  · exact .inr ⟨by simp;omega,(llt_snoc h).2 (.inl h')⟩
theorem slt_last {a:List Int} {l m:Int} (h:l < m):slt (a++[l]) (a++[m]):=.inr ⟨by simp,(llt_snoc rfl).2 (.inr ⟨rfl,h⟩)⟩
theorem slt_snoc {a b:List Int} {l m:Int}:slt (a++[l]) (b++[m])→slt a b∨a=b∧l < m:=by
  intro h
  rcases slt_tri' a b with h1|h1|h1
  · exact .inl h1
  · subst h1
    rcases h with h|⟨h,h'⟩
    · simp at h
    · rcases (llt_snoc rfl).1 h' with h2|h2
      · exact absurd h2 llt_irr
      · exact .inr h2
  · exact absurd (slt_trans h (slt_app h1)) slt_irr
theorem slt_self {a:List Int} {l:Int}:slt a (a++[l]):=.inl (by simp)
structure FI (g:Gr) (seen:List Bool) (steps:List Stp) (ws:List (List Int)) (i j:Nat):Prop where
  slen:seen.length=g.N
  wlen:ws.length=steps.length
  chain:∀(t:Nat) s,steps[t]? = some s→(s.p = -1∧ws[t]? = some [])∨∃(q:Nat) (w:List Int),s.p=(q:Int)∧q < t∧ws[q]? = some w∧ws[t]? = some (w++[s.l])∧s.l∈g.ls
  rch:∀(t:Nat) s w,steps[t]? = some s→ws[t]? = some w→∀n∈s.ns,reach g w g.s0 n
  ov:∀w∈ws,over g w
  min:∀(t:Nat) s w,steps[t]? = some s→ws[t]? = some w→∀n∈s.ns,∀u,over g u→slt u w→¬reach g u g.s0 n
  ord:ws.Pairwise slt
  par:∀w∈ws,w=[]∨∃(p:Nat) (v:List Int) (l:Int),ws[p]? = some v∧w=v++[l]∧l∈g.ls∧(p < i∨p=i∧∃j',j' < j∧g.ls[j']? = some l)
  snI:∀n:Int,0≤n→(sn seen n=true↔∃s∈steps,n∈s.ns)
  done:∀(t:Nat) s,steps[t]? = some s→∀l,(t < i∧l∈g.ls∨t=i∧∃j',j' < j∧g.ls[j']? = some l)→∀n∈s.ns,∀y∈g.succ n l,sn seen y=true
  nogoal:∀s∈steps,∀n∈s.ns,g.goal n=false
  inn:∀s∈steps,∀n∈s.ns,0≤n∧n < g.N
  start:sn seen g.s0=true
  cnt:steps.length≤seen.count true
  le:i≤steps.length
  nd:∀s∈steps,s.ns.Nodup
theorem FI.lenN {g:Gr} {seen:List Bool} {steps:List Stp} {ws:List (List Int)} {i j:Nat} (h:FI g seen steps ws i j):steps.length≤g.N:=by
  have h1:=h.cnt
  have h2:seen.count true≤seen.length:=List.count_le_length
  rw [h.slen] at h2;omega
theorem FI.claim {g:Gr} (hg:GrOk g) {seen:List Bool} {steps:List Stp} {ws:List (List Int)} {i j:Nat} (h:FI g seen steps ws i j) {wi:List Int} {lj:Int} (hw:ws[i]? = some wi) (hj:g.ls[j]? = some lj) :
    ∀(n:Nat) (u:List Int),u.length=n→over g u→slt u (wi++[lj])→∀x,reach g u g.s0 x→sn seen x=true:=by
  intro n
  induction n with
  | zero=>
    intro u hu _ _ x hx
    have:u=[]:=List.length_eq_zero_iff.1 hu
    subst this
    have hx:g.s0=x:=hx
    rw [←hx];exact h.start
  | succ n ih=>
    intro u hu ho hlt x hx
    have hu0:u≠[]:=fun e=>by subst e;simp at hu
    obtain ⟨v,l,rfl⟩:∃v l,u=v++[l]:=⟨u.dropLast,u.getLast hu0,(List.dropLast_concat_getLast hu0).symm⟩
    obtain ⟨m,hm,hxm⟩:=reach_snoc.1 hx
    obtain ⟨hov,hl⟩:=over_snoc.1 ho
    have hms:=ih v (by simpa using hu) hov (slt_trans slt_self hlt) m hm
    have hmin:=reach_in hg hov hg.s0 hm
    obtain ⟨s,hs,hms2⟩:=(h.snI m hmin.1).1 hms
    obtain ⟨t,ht⟩:=List.getElem?_of_mem hs
    obtain ⟨wt,hwt⟩:∃wt,ws[t]? = some wt:=get_some (by have:=(List.getElem?_eq_some_iff.1 ht).1;rw [h.wlen];exact this)
    have hle:¬slt v wt:=fun h1=>h.min t s wt ht hwt m hms2 v hov h1 hm
    have hvi:=slt_snoc hlt
    have hti:t≤i:=by
      rcases Nat.lt_or_ge i t with h1|h1
      · exfalso
        obtain ⟨a1,a2⟩:=List.getElem?_eq_some_iff.1 hw
        obtain ⟨b1,b2⟩:=List.getElem?_eq_some_iff.1 hwt
        have h2:=(List.pairwise_iff_getElem.1 h.ord) i t a1 b1 h1
        rw [a2,b2] at h2
        rcases slt_tri' v wt with h3|h3|h3
        · exact hle h3
        · subst h3
          rcases hvi with h4|⟨h4,_⟩
          · exact slt_irr (slt_trans h2 h4)
          · subst h4;exact slt_irr h2
        · rcases hvi with h4|⟨h4,_⟩
          · exact slt_irr (slt_trans (slt_trans h2 h3) h4)
          · subst h4;exact slt_irr (slt_trans h2 h3)
      · exact h1
    refine h.done t s ht l ?_ m hms2 x hxm
    rcases Nat.lt_or_ge t i with h1|h1
    · exact .inl ⟨h1,hl⟩
    · have:t=i:=by omega
      subst this
      rw [hw] at hwt
      injection hwt with hwt
      subst hwt
      rcases hvi with h4|⟨h4,h5⟩
      · exact absurd h4 hle
      · obtain ⟨j',hj'⟩:=List.getElem?_of_mem hl
        exact .inr ⟨rfl,j',idx_lt hg.srt hj' hj h5,hj'⟩
theorem IsAns.found {g:Gr} (hg:GrOk g) {seen:List Bool} {steps:List Stp} {ws:List (List Int)} {i j:Nat} (h:FI g seen steps ws i j) {wi:List Int} {lj:Int} (hw:ws[i]? = some wi) (hj:g.ls[j]? = some lj) {n x:Int} {s:Stp} (hs:steps[i]? = some s) (hn:n∈s.ns) (hx:x∈g.succ n lj) (hgx:g.goal x=true):IsAns g (some (wi++[lj])):=by
  have hl:=List.mem_of_getElem? hj
  refine ⟨over_snoc.2 ⟨h.ov wi (List.mem_of_getElem? hw),hl⟩,⟨x,reach_snoc.2 ⟨n,h.rch i s wi hs hw n hn,hx⟩,hgx⟩,fun u hu hh hlt=>?_⟩
  obtain ⟨y,hy,hgy⟩:=hh
  have hys:=h.claim hg hw hj u.length u rfl hu hlt y hy
  obtain ⟨s',hs',hy'⟩:=(h.snI y (reach_in hg hu hg.s0 hy).1).1 hys
  rw [h.nogoal s' hs' y hy'] at hgy;cases hgy
theorem IsAns.dry {g:Gr} (hg:GrOk g) {seen:List Bool} {steps:List Stp} {ws:List (List Int)} (h:FI g seen steps ws steps.length 0):IsAns g none:=by
  have key:∀(n:Nat) (u:List Int),u.length=n→over g u→∀x,reach g u g.s0 x→sn seen x=true:=by
    intro n
    induction n with
    | zero=>
      intro u hu _ x hx
      have:u=[]:=List.length_eq_zero_iff.1 hu
      subst this
      have hx:g.s0=x:=hx
      rw [←hx];exact h.start
    | succ n ih=>
      intro u hu ho x hx
      have hu0:u≠[]:=fun e=>by subst e;simp at hu
      obtain ⟨v,l,rfl⟩:∃v l,u=v++[l]:=⟨u.dropLast,u.getLast hu0,(List.dropLast_concat_getLast hu0).symm⟩
      obtain ⟨m,hm,hxm⟩:=reach_snoc.1 hx
      obtain ⟨hov,hl⟩:=over_snoc.1 ho
      have hms:=ih v (by simpa using hu) hov m hm
      obtain ⟨s,hs,hms2⟩:=(h.snI m (reach_in hg hov hg.s0 hm).1).1 hms
      obtain ⟨t,ht⟩:=List.getElem?_of_mem hs
      exact h.done t s ht l (.inl ⟨(List.getElem?_eq_some_iff.1 ht).1,hl⟩) m hms2 x hxm
  rintro u hu ⟨x,hx,hgx⟩
  have hxs:=key u.length u rfl hu x hx
  obtain ⟨s,hs,hxs2⟩:=(h.snI x (reach_in hg hu hg.s0 hx).1).1 hxs
  rw [h.nogoal s hs x hxs2] at hgx;cases hgx
theorem FI.nextI {g:Gr} {seen:List Bool} {steps:List Stp} {ws:List (List Int)} {i:Nat} (h:FI g seen steps ws i g.ls.length) (hi:i < steps.length):FI g seen steps ws (i+1) 0:=by
  refine ⟨h.slen,h.wlen,h.chain,h.rch,h.ov,h.min,h.ord,fun w hw=>?_,h.snI,fun t s hs l hl=>?_,h.nogoal,h.inn,h.start,h.cnt,by omega,h.nd⟩
  · rcases h.par w hw with h1|⟨p,v,l,h1,h2,h3,h4⟩
    · exact .inl h1
    · exact .inr ⟨p,v,l,h1,h2,h3,.inl (by rcases h4 with h4|⟨h4,_⟩<;>omega)⟩
  · refine h.done t s hs l ?_
    rcases hl with ⟨h1,h2⟩|⟨_,j',h1,_⟩
    · rcases Nat.lt_or_ge t i with h3|h3
      · exact .inl ⟨h3,h2⟩
      · obtain ⟨j',hj'⟩:=List.getElem?_of_mem h2
        exact .inr ⟨by omega,j',(List.getElem?_eq_some_iff.1 hj').1,hj'⟩
    · omega
end Go.Am
