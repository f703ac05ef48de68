/-
  Marks of words.
-/
import Derived.Test.YtgpbfllcjdfelaaGreatDoorPart28
import Derived.Test.YtgpbfllcjdfelaaGreatDoorPart20
set_option linter.all false
namespace Go.Am
open Go Go.Proofs
set_option maxHeartbeats 1000000
set_option maxRecDepth 4000
attribute [local irreducible] AW BQ Lex A9 Aj Spec
variable {TB:Bp}
abbrev Tt(t:Bl):List D:=[CG t.rows,CG t.cols]
abbrev Ir(t:Bl):E:=.a [.d (CG t.rows),.d (CG t.cols)]
abbrev Iq(al:Int)(c:C):E:=.a [.d (iD al),c]
mutual
theorem Eu:∀(c:C),c.BX=true->∀r,c.A7 r=c
 | .d x,_,r=>rfl
 | .fn g cap,h,r=>by
  simp only [C.BX] at h;simp only [C.A7,On cap h r]
 | .arr ..,h,_=>by cases h
 | .ptr ..,h,_=>by cases h
 | .mp ..,h,_=>by cases h
 | .mv g l,h,r=>by
  simp only [C.BX] at h;simp only [C.A7,On l h r]
theorem On:∀(l:List C),C.C6 l=true->∀r,C.Cj r l=l
 | [],_,r=>rfl
 | c::l,h,r=>by
  simp only [C.C6,d4] at h;simp only [C.Cj,Eu c h.1 r,On l h.2 r]
end
structure Ja (P:Program) (TB:Bp) (c:C) (L:W->Bool) (ok:W->Prop):Prop where
 BX:c.BX=true
 ask:∀ {Z:Ctx} {d:Option Tmp} {ty:TypeId} {pos:String} {af:Array Edge} {g:Option (Nat×Bool)} {f:Env} {σ:Ab} {nx:Nat} {x a:Operand} {tys:Array TypeId} {w:W},
  ev f x=some (.o c)->ev f a=some (eT w)->ok w->AW P TB Z ⟨d,.call ⟨.value x,#[a],tys⟩,ty,pos,af,g⟩ f σ nx (eB (L w))
def SC(L:W->Bool)(cols:List W)(w:W)(k:Nat)(i:Nat):UInt8:=if i < k then Uz (L (w++cols.getD i [])) else 0
theorem Uw(L:W->Bool)(cols:List W)(w:W):(Bx cols.length λi=>Fq (SC L cols w cols.length i))=(marks L cols w).map Fq:=by
 apply mZ;intro i;by_cases h:i < cols.length
 ·rw [DA h]
  simp [marks,SC,h]
 ·rw [lQ (by simp [Bx];omega),lQ (by simp [marks];omega)]
theorem jO:Fq 0=[C.d (D.v (Value.int IntKind.u8 0))]:=rfl
theorem iw(L:W->Bool)(cols:List W)(w:W)(n:Nat):(Bx n λi=>Fq (SC L cols w 0 i))=List.replicate n (Fq 0):=by
 apply mZ;intro i;by_cases h:i < n
 ·rw [DA h];simp [SC,h]
 ·rw [lQ (by simp [Bx];omega),lQ (by simp;omega)]
theorem ZI{L:W->Bool}{cols:List W}{w x:W}{k:Nat}(b:cols[k]? = some x):(Bx cols.length λi=>Fq (if i=k then Uz (L (w++x)) else SC L cols w k i))=Bx cols.length λi=>Fq (SC L cols w (k+1) i):=by
 refine CU λi _=>?_;congr 1;unfold SC;by_cases h:i=k
 ·subst h
  rw [if_pos rfl,if_pos (by omega)];simp [b]
 ·rw [if_neg h]
  by_cases a:i < k
  ·rw [if_pos a,if_pos (by omega)]
  ·rw [if_neg a,if_neg (by omega)]
theorem Kt{c:C}{L:W->Bool}{ok:W->Prop}(B:Ja Tryz.prog TB c L ok)(al:Int)(t:Bl)(w:W)(I:t.cols.length<=1048576)(hk:∀x∈t.cols,ok (w++x))(hb:∀x∈t.cols,w.length+x.length<=1048576) :
 Pure Tryz.prog TB 150 [Iq al c,Ir t,eT w] (eT (marks L t.cols w)):=by
 have y:=Eu c B.BX;refine eN Tryz.func150 rfl (by kernel_rfl) rfl ?_;intro Z b;(repeat first|refine aU rfl ?_);(refine pW rfl ?_ rfl (by rfl);refine CT rfl rfl ?_);(refine Ai rfl ?_;refine Cv (λ_ _=>C4 rfl rfl rfl) rfl ?_);(repeat first|refine sN rfl ?_ |refine tM rfl ?_ |refine aU rfl ?_ |refine Aa ?_);(refine pW rfl ?_ rfl (by rfl);refine N8 rfl rfl (by rfl) (by rfl) (am rfl) (by omega) (by omega) (by omega) ?_);(repeat first|refine sN rfl ?_ |refine tM rfl ?_ |refine aU rfl ?_ |refine Aa ?_);refine aB ?_;refine Aj.A6 (α:={k:Nat // k<=t.cols.length}) (λ⟨k,j⟩=>[(2,eT w),(3,.o (.ptr 0 2 0 0)),(7,.o (.arr 1 1 0 t.cols.length)),(15,.o (.d (CG t.cols))),(16,eI .i64 t.cols.length),(17,eI .i64 k)]) (λ⟨k,j⟩=>[(1,.cells 5 1 (Bx t.cols.length λi=>Fq (SC L t.cols w k i))),(0,.cells 90 2 [[.d (iD al),c]])]) 2 (λ⟨k,j⟩=>t.cols.length - k) (⟨0,by omega⟩) [0,1] (Ea b rfl rfl) (by (simp[cX,zC,b,Oo,y,iw,eC,Hh,jO])) ?_;rintro⟨k,j⟩;(try dsimp only);(repeat first|refine s2 rfl λ_ r=>?_ |refine aU rfl ?_ |refine Aa ?_);(refine aC rfl ?_ ?_<;>rintro⟨⟩)
 ·have f:k < t.cols.length:=by (simp only[oZ] at *;omega)
  obtain⟨x,u⟩:=get_some (l:=t.cols) (k:=k) f;have G:=get_map (g:=Gh) u;have s:=co u;have F:=hb x s;have z:=hk x s;have J:=Kl (H:=SC L t.cols w k) (q:=k) (n:=t.cols.length) f;have e:(Bx t.cols.length λi=>Fq (SC L t.cols w k i)).set (0+((k:Nat):Int).toNat) (Af (Fq (SC L t.cols w k k)) 0 (eC (eI .u8 45)))=Bx t.cols.length λi=>Fq (if i=k then 45 else SC L t.cols w k i):=Nr (c:=45);have A:=Kl (H:=λi=>if i=k then 45 else SC L t.cols w k i) (q:=k) (n:=t.cols.length) f;rw [<-e] at A
  have v:(Bx t.cols.length λi=>Fq (if i=k then 45 else SC L t.cols w k i)).set (0+((k:Nat):Int).toNat) (Af (Fq (if k=k then 45 else SC L t.cols w k k)) 0 (eC (eI .u8 43)))=Bx t.cols.length λi=>Fq (if i=k then 43 else SC L t.cols w k i):=by
   refine(Nr (H:=λi=>if i=k then 45 else SC L t.cols w k i) (c:=43)).trans ?_;refine CU λi _=>?_;by_cases h:i=k<;>simp [h]
  have a:=ZI (L:=L) (w:=w) u;refine aK ?_;refine aS (aB ?_);(repeat first|((first|refine sM rfl ?_ ?_|refine s4 rfl ‹_› rfl ?_ ?_);first|exact tI|omega)|(refine Ai rfl ?_;refine gA rfl ?_;first| (refine gB (λ_ _=>B.ask rfl rfl z) ?_;intro _ r)) |refine aU rfl ?_ |refine Aa ?_);(refine aC rfl ?_ ?_<;>rintro⟨⟩)
  ·(repeat first|(refine sM rfl ?_ ?_;first|exact tI|omega) |refine t4 rfl ‹_› rfl ?_ |refine aU rfl ?_ |refine Aa ?_)
   refine⟨⟨k+1,by omega⟩,by dsimp only;(omega),[0,1],?_⟩;rw [e,v];rw [r] at a;have p:Uz true=43:=rfl;have m:Uz false=45:=rfl;simp only [p,m] at a;simp[cX,zC,b,Oo,y,a]
  ·refine aK ?_
   (repeat first|(refine sM rfl ?_ ?_;first|exact tI|omega) |refine aU rfl ?_ |refine Aa ?_);refine⟨⟨k+1,by omega⟩,by dsimp only;(omega),[0,1],?_⟩;rw [e];rw [r] at a;have p:Uz true=43:=rfl;have m:Uz false=45:=rfl;simp only [p,m] at a;simp[cX,zC,b,Oo,y,a]
 ·obtain rfl:k=t.cols.length:=by (simp only[oZ] at *;omega)
  rw [Uw];refine aE ?_;(repeat first|refine tM rfl ?_|(refine Ai rfl ?_;refine gA rfl ?_;first| refine gQ (Ro (marks L t.cols w) rfl rfl (by simp [marks]) (by rw [mw,lm (by simp [marks])])) (by rfl) ?_) |refine aU rfl ?_ |refine Aa ?_);refine aR ⟨_,rfl,rfl⟩
def BM(L:W->Bool)(t:Bl):Nat->List (W×Int)
 | 0=>[]
 | k+1=>if (CD (BM L t k) (marks L t.cols (t.rows.getD k []))).isSome then BM L t k else BM L t k++[(marks L t.cols (t.rows.getD k []),(k:Int))]
structure YK (ok:W->Prop) (t:Bl):Prop where
 ok:∀w∈t.rows,∀x∈t.cols,ok (w++x)
 rb:∀w∈t.rows,w.length<=65536
 cb:∀x∈t.cols,x.length<=65536
 rl:t.rows.length<=4096
 cl:t.cols.length<=4096
theorem GF{c:C}{L:W->Bool}{ok:W->Prop}(r:Ja Tryz.prog TB c L ok)(al:Int)(t:Bl)(ht:YK ok t) :
 Spec Tryz.prog TB 148 [] 0 [Iq al c,Ir t] (λx σ nx=>x=.o (.mp 0)/\nx=1/\σ=[(0,.mp (Ia (BM L t t.rows.length)))]):=by
 have n:=Eu c r.BX;have w:=ht.rl;refine eN Tryz.func148 rfl (by kernel_rfl) rfl ?_;intro Z b;(repeat first|refine aU rfl ?_);(refine pW rfl ?_ rfl (by rfl);refine CT rfl rfl ?_);(refine Ai rfl ?_;refine Cv (λ_ _=>C4 rfl rfl rfl) rfl ?_);(repeat first|refine tM rfl ?_ |refine aU rfl ?_ |refine Aa ?_);(refine pW rfl ?_ rfl (by rfl);refine PL ?_);(repeat first|refine sN rfl ?_ |refine tM rfl ?_ |refine aU rfl ?_ |refine Aa ?_);refine aB ?_;refine Aj.A6 (α:={k:Nat // k<=t.rows.length}) (λ⟨k,e⟩=>[(2,.o (.ptr 0 2 0 0)),(3,.o (.ip (Tt t))),(5,.o (.mp 1)),(13,.o (.d (CG t.rows))),(14,eI .i64 t.rows.length),(15,eI .i64 k)]) (λ⟨k,e⟩=>[(1,.mp (Ia (BM L t k))),(0,.cells 90 2 [[.d (iD al),c]])]) 2 (λ⟨k,e⟩=>t.rows.length - k) (⟨0,by omega⟩) [0,1] (Ea b rfl rfl) (by (simp[cX,zC,b,n,eC,BM,Ia])) ?_;rintro⟨k,e⟩;(try dsimp only);(repeat first|refine s2 rfl λ_ f=>?_ |refine aU rfl ?_ |refine Aa ?_);(refine aC rfl ?_ ?_<;>rintro⟨⟩)
 ·have p:k < t.rows.length:=by (simp only[oZ] at *;omega)
  obtain⟨x,m⟩:=get_some (l:=t.rows) (k:=k) p;have v:=get_map (g:=Gh) m;have h:=co m;have u:=ht.rb x h;have z:=Kt r al t x (by have:=ht.cl;omega) (ht.ok x h) (λy s=>by have:=ht.cb y s;omega)
  have q:t.rows.getD k []=x:=by simp [m]
  have a:BM L t (k+1)=if (CD (BM L t k) (marks L t.cols x)).isSome then BM L t k else BM L t k++[(marks L t.cols x,(k:Int))]:=by
   rw [BM,q]
  refine aK ?_;refine aS (aB ?_);(repeat first|refine tM rfl ?_ |(refine s4 rfl ‹_› rfl ?_ ?_;omega) |refine s2 rfl λ_ f=>?_|(refine Ai rfl ?_;refine gA rfl ?_;first| refine gS (λ_ _=>Bh rfl rfl (by simp [E.BX,C.C6,C.BX,r.BX]) z rfl) ?_|refine gQ (aF rfl rfl rfl) (by rfl) ?_) |refine aU rfl ?_ |refine Aa ?_);(refine aC rfl ?_ ?_<;>rintro⟨⟩)
  ·have j:CD (BM L t k) (marks L t.cols x)=none:=by simpa using f
   rw [j] at a;(repeat first|refine tM rfl ?_ |refine aU rfl ?_);(refine Ai rfl ?_;refine He ?_ rfl (by rfl);refine ix rfl rfl rfl rfl j ?_);(repeat first|(refine sM rfl ?_ ?_;first|exact tI|omega) |refine aU rfl ?_ |refine Aa ?_);refine⟨⟨k+1,by omega⟩,by dsimp only;(omega),[0,1],?_⟩;simp[cX,zC,b,n,a]
  ·have j:(CD (BM L t k) (marks L t.cols x)).isSome=true:=by simpa using f
   rw [if_pos j] at a;refine aK ?_;(repeat first|(refine sM rfl ?_ ?_;first|exact tI|omega) |refine aU rfl ?_ |refine Aa ?_);refine⟨⟨k+1,by omega⟩,by dsimp only;(omega),[0,1],?_⟩;simp[cX,zC,b,n,a]
 ·obtain rfl:k=t.rows.length:=by (simp only[oZ] at *;omega)
  refine aE ?_;(repeat first|refine tM rfl ?_ |refine aU rfl ?_ |refine Aa ?_);refine Aj.names [1] [(4,.o (.mp 0))] [(0,.mp (Ia (BM L t t.rows.length)))] (by intro i hi;rw [b] at hi;omega) (by simp) (by simp[cX,zC,b]) (by simp[cX,zC,b]) ?_;refine aR ⟨_,rfl,rfl,rfl,rfl⟩
theorem Xw(l:List (W×Int))(p:W×Int)(s:W):CD (l++[p]) s=(CD l s).or (if p.1=s then some p.2 else none):=by
 unfold CD;rw [pm]
 cases h:l.find? (λp=>decide (p.1=s)) with
 | some q=>simp
 | none=>by_cases a:p.1=s<;>simp [a]
theorem Ou{L:W->Bool}{t:Bl}{k:Nat}(h:k < t.rows.length):(AT L t)[k]? = some (marks L t.cols (t.rows.getD k [])):=by
 simp [AT,h]
theorem PO(L:W->Bool)(t:Bl):∀k,k<=t.rows.length->∀s,CD (BM L t k) s=if s∈(AT L t).take k then some (((AT L t).idxOf s:Nat):Int) else none
 | 0,_,s=>by simp [BM,CD]
 | k + 1, hk, s=>by
  have d:=PO L t k (by omega);have f:=Ou (L:=L) (t:=t) (k:=k) (by omega);generalize marks L t.cols (t.rows.getD k [])=x at *
  have i:BM L t (k+1)=if (CD (BM L t k) x).isSome then BM L t k else BM L t k++[(x,(k:Int))]:=by
   have c:=Ou (L:=L) (t:=t) (k:=k) (by omega);rw [f] at c
   injection c with c
   rw [BM,<-c]
  have a:∀s,s∈(AT L t).take (k+1)↔s∈(AT L t).take k\/s=x:=λs=>by
   rw [gt,f];simp
  rw [i];by_cases g:x∈(AT L t).take k
  ·rw [if_pos (by rw [d x,if_pos g];rfl),d s]
   by_cases b:s∈(AT L t).take k
   ·rw [if_pos b,if_pos ((a s).2 (.inl b))]
   ·rw [if_neg b,if_neg]
    intro h
    rcases(a s).1 h with h|h
    ·exact b h
    ·subst h;exact b g
  ·rw [if_neg (by rw [d x,if_neg g];simp),Xw,d s]
   by_cases b:s∈(AT L t).take k
   ·rw [if_pos b,if_pos ((a s).2 (.inl b))];rfl
   ·rw [if_neg b]
    by_cases m:x=s
    ·subst m
     rw [if_pos ((a x).2 (.inr rfl))]
     have l:(AT L t).idxOf x=k:=by
      have n:k < (AT L t).length:=(ce.1 f).1
      have e:AT L t=(AT L t).take k++x::(AT L t).drop (k+1):=by
       rw [<-BA f,mz]
      rw [e,List.idxOf_append,if_neg g,List.idxOf_cons_self];simp;omega
     simp [l]
    ·have j:s∉(AT L t).take (k+1):=λh=>by
      rcases(a s).1 h with h|h
      ·exact b h
      ·exact m h.symm
     rw [if_neg j];simp [m]
theorem SJ{L:W->Bool}{t:Bl}{s:W}:CD (BM L t t.rows.length) s=if s∈AT L t then some (((AT L t).idxOf s:Nat):Int) else none:=by
 have h:=PO L t t.rows.length (io _) s;have e:(AT L t).take t.rows.length=AT L t:=lm (by simp [AT]);rwa [e] at h
theorem da{L:W->Bool}{ls:List UInt8}{t:Bl}{k j:Nat}{r:W}{l:UInt8}(e:t.rows[k]? = some r)(f:ls[j]? = some l)(n:∀w∈Dc ls (t.rows.take k),marks L t.cols w∈AT L t)(m:∀x∈ls.take j,marks L t.cols (r++[x])∈AT L t)
 (i:marks L t.cols (r++[l])∉AT L t):BC L ls t=some (r++[l]):=by
 have q:t.rows=t.rows.take k++r::t.rows.drop (k+1):=by
  rw [<-BA e,mz]
 have p:ls=ls.take j++l::ls.drop (j+1):=by
  rw [<-BA f,mz]
 have o:Dc ls t.rows=Dc ls (t.rows.take k)++((ls.take j).map (λx=>r++[x])++(r++[l])::((ls.drop (j+1)).map (λx=>r++[x])++Dc ls (t.rows.drop (k+1)))):=by
  have h:Dc ls t.rows=Dc ls (t.rows.take k++r::t.rows.drop (k+1)):=congrArg _ q;rw [h];unfold Dc;rw [List.flatMap_append,nr];have g:ls.map (λx=>r++[x])=(ls.take j++l::ls.drop (j+1)).map (λx=>r++[x]):=congrArg _ p;rw [g];simp
 unfold BC;rw [o,pm,pm]
 have c:(Dc ls (t.rows.take k)).find? (λw=>!(AT L t).contains (marks L t.cols w))=none:=nF.2 λw a=>by simpa using n w a
 have b:((ls.take j).map (λx=>r++[x])).find? (λw=>!(AT L t).contains (marks L t.cols w))=none:=nF.2 λw a=>by
  obtain⟨x,d,rfl⟩:=d8.1 a
  simpa using m x d
 rw [c,b];simp [i]
def lb(l:Int):UInt8:=UInt8.ofNat (97+l.toNat)
def Bo(al:Int):List UInt8:=(Ac al).map lb
def hY(o:Option W):E:=match o with
 | some w=>.t [(false,[.d (tD w)]),(false,[.d (bD true)])]
 | none=>.t [(false,[.d (tD [])]),(false,[.d (bD false)])]
theorem ZC{l:Int}(a:0<=l):UInt8.ofNat (97+l).toNat=lb l:=by
 unfold lb;congr 1;omega
theorem Sf{L:W->Bool}{t:Bl}{s:W}:(CD (BM L t t.rows.length) s).isSome=true↔s∈AT L t:=by
 rw [SJ];by_cases h:s∈AT L t<;>simp [h]
theorem UB{ls:List UInt8}{t:Bl}{k:Nat}{r:W}(h:t.rows[k]? = some r):Dc ls (t.rows.take (k+1))=Dc ls (t.rows.take k)++ls.map λl=>r++[l]:=by
 unfold Dc;rw [gt,h];simp
theorem QE{c:C}{L:W->Bool}{ok:W->Prop}(G:Ja Tryz.prog TB c L ok)(al:Int)(t:Bl)(ht:YK ok t)(T:∀w∈t.rows,∀l∈Bo al,∀x∈t.cols,ok (w++[l]++x)) :
 Pure Tryz.prog TB 149 [Iq al c,Ir t] (hY (BC L (Bo al) t)):=by
 have v:=Eu c G.BX;have S:=ht.rl;have V:(Ac al).length<=6:=AN al 6;refine eN Tryz.func149 rfl (by kernel_rfl) rfl ?_;intro Z b;(repeat first|refine aU rfl ?_);(refine pW rfl ?_ rfl (by rfl);refine CT rfl rfl ?_);(refine Ai rfl ?_;refine Cv (λ_ _=>C4 rfl rfl rfl) rfl ?_);(repeat first|refine tM rfl ?_ |refine aU rfl ?_ |refine Aa ?_);(refine pW rfl ?_ rfl (by rfl);refine Ae [] rfl rfl (GF G al t ht) ⟨rfl,by simp,by simp⟩ (by simp [Es,E.A7,C.Cj,C.A7,v,eC]) trivial ?_;rintro Y M N ⟨rfl,rfl,rfl⟩ _);(repeat first|refine sN rfl ?_ |refine tM rfl ?_ |refine aU rfl ?_ |refine Aa ?_);refine aB ?_;refine Aj.A6 (α:={k:Nat // k<=t.rows.length/\∀w∈Dc (Bo al) (t.rows.take k),marks L t.cols w∈AT L t}) (λ⟨k,p,e⟩=>[(2,.o (.ptr 0 2 0 0)),(3,.o (.ip (Tt t))),(6,.o (.mp 1)),(18,.o (.d (CG t.rows))),(19,eI .i64 t.rows.length),(20,eI .i64 k)]) (λ⟨k,p,e⟩=>[(1,.mp (Ia (BM L t t.rows.length))),(0,.cells 90 2 [[.d (iD al),c]])]) 2 (λ⟨k,p,e⟩=>t.rows.length - k) (⟨0,by omega,by simp [Dc]⟩) [0,1] (Ea b rfl rfl) (by (simp[cX,zC,b,v,eC,Ab.A7,BP,HR])) ?_;rintro⟨k,p,e⟩;(try dsimp only);(repeat first|refine s2 rfl λ_ i=>?_ |refine aU rfl ?_ |refine Aa ?_);(refine aC rfl ?_ ?_<;>rintro⟨⟩)
 ·have I:k < t.rows.length:=by (simp only[oZ] at *;omega)
  obtain⟨r,a⟩:=get_some (l:=t.rows) (k:=k) I;have R:=get_map (g:=Gh) a;have u:=co a;have Q:=ht.rb r u;refine aK ?_;refine aS (aB ?_);(repeat first|refine sN rfl ?_ |refine tM rfl ?_ |(refine s4 rfl ‹_› rfl ?_ ?_;omega) |refine sP rfl (Cn al) rfl ?_ |refine aU rfl ?_ |refine Aa ?_);refine aB ?_;refine Aj.A6 (α:={j:Nat // j<=(Ac al).length/\∀x∈(Bo al).take j,marks L t.cols (r++[x])∈AT L t}) (λ⟨j,q,f⟩=>[(2,.o (.ptr 0 2 0 0)),(3,.o (.ip (Tt t))),(6,.o (.mp 1)),(18,.o (.d (CG t.rows))),(19,eI .i64 t.rows.length),(20,eI .i64 k),(8,eT r),(26,Av (Ac al)),(27,eI .i64 (Ac al).length),(28,eI .i64 j)]) (λ⟨j,q,f⟩=>[(1,.mp (Ia (BM L t t.rows.length))),(0,.cells 90 2 [[.d (iD al),c]])]) 2 (λ⟨j,q,f⟩=>(Ac al).length - j) (⟨0,by omega,by simp⟩) [0,1] (Ea b rfl rfl) (by (simp[cX,zC,b,v])) ?_;rintro⟨j,q,f⟩;(try dsimp only);(repeat first|refine s2 rfl λ_ i=>?_ |refine aU rfl ?_ |refine Aa ?_);(refine aC rfl ?_ ?_<;>rintro⟨⟩)
  ·have B:j < (Ac al).length:=by (simp only[oZ] at *;omega)
   obtain⟨l,K⟩:=get_some (l:=Ac al) (k:=j) B;have X:=get_map (g:=BB) K;have z:=Ak (co K)
   have n:(Bo al)[j]? = some (lb l):=by simp [Bo,K]
   have J:=co n;have U:=Kt G al t (r++[lb l]) (by have:=ht.cl;omega) (λx a=>T r u _ J x a) (λy P=>by have:=ht.cb y P;simp;omega);refine aK ?_;refine aS (aB ?_);(repeat first|(refine sM rfl ?_ ?_;first|exact tI|omega|simp only[oZ] at *;omega) |(refine s4 rfl ‹_› rfl ?_ ?_;omega) |refine sP rfl (EU l z.1 (by omega)) rfl ?_|(refine Ai rfl ?_;refine gA rfl ?_;first| refine gS (λ_ _=>UK rfl (by omega) (by omega)) ?_) |refine aU rfl ?_ |refine Aa ?_);rw [ZC z.1];(repeat first|refine tM rfl ?_ |refine s2 rfl λ_ i=>?_|(refine Ai rfl ?_;refine gA rfl ?_;first| refine gS (λ_ _=>Bh rfl rfl (by simp [E.BX,C.C6,C.BX,G.BX]) U rfl) ?_|refine gQ (aF rfl rfl rfl) (by rfl) ?_) |refine aU rfl ?_ |refine Aa ?_);(refine aC rfl ?_ ?_<;>rintro⟨⟩)
   ·have hno:marks L t.cols (r++[lb l])∉AT L t:=λh=>by
     rw [Sf.2 h] at i;cases i
    (repeat first|refine tM rfl ?_ |refine aU rfl ?_ |refine Aa ?_);refine aR ⟨_,rfl,?_⟩;rw [da a n e f hno];rfl
   ·have s:marks L t.cols (r++[lb l])∈AT L t:=Sf.1 (by simpa using i)
    have F:∀x∈(Bo al).take (j+1),marks L t.cols (r++[x])∈AT L t:=λx a=>by
     rw [gt,n] at a
     rcases f6.1 a with a|a
     ·exact f x a
     ·simp at a;subst a;exact s
    refine aK ?_;(repeat first|(refine sM rfl ?_ ?_;first|exact tI|omega) |refine aU rfl ?_ |refine Aa ?_);refine⟨⟨j+1,by omega,F⟩,by dsimp only;(omega),[0,1],?_⟩;simp[cX,zC,b,v]
  ·obtain rfl:j=(Ac al).length:=by (simp only[oZ] at *;omega)
   have A:∀w∈Dc (Bo al) (t.rows.take (k+1)),marks L t.cols w∈AT L t:=λw m=>by
    rw [UB a] at m
    rcases f6.1 m with m|m
    ·exact e w m
    ·obtain⟨x,H,rfl⟩:=d8.1 m
     exact f x (by rw [lm (by simp [Bo])];exact H)
   refine aE ?_;(repeat first|(refine sM rfl ?_ ?_;first|exact tI|omega) |refine aU rfl ?_ |refine Aa ?_);refine⟨⟨k+1,by omega,A⟩,by dsimp only;(omega),[0,1],?_⟩;simp[cX,zC,b,v]
 ·obtain rfl:k=t.rows.length:=by (simp only[oZ] at *;omega)
  have hno:BC L (Bo al) t=none:=nF.2 λw m=>by
   have:=e w (by rw [i7];exact m)
   simpa using this
  refine aE ?_;(repeat first|refine tM rfl ?_ |refine aU rfl ?_ |refine Aa ?_);refine aR ⟨_,rfl,?_⟩;rw [hno];rfl
theorem Kf(l:List W)(h:l.length<=1048576):Spec Tryz.prog TB 176 [] 0 [EI l] (λx σ nx=>x=.o (.arr 0 1 0 l.length)/\nx=1/\σ=[(0,.cells 9 1 (l.map HS))]):=by
 refine eN Tryz.func176 rfl (by kernel_rfl) rfl ?_;intro Z b;(repeat first|refine aU rfl ?_);(refine Ai rfl ?_;refine Cv (λ_ _=>Cy rfl) rfl ?_);(repeat first|refine tM rfl ?_ |refine aU rfl ?_ |refine Aa ?_);(refine pW rfl ?_ rfl (by rfl);refine Kz rfl ?_;intro e c);(repeat first|refine Aa ?_);(refine aC rfl ?_ ?_<;>rintro⟨⟩)
 ·obtain rfl:l=[]:=by simpa using c rfl
  (repeat first|refine aU rfl ?_);(refine pW rfl ?_ rfl (by rfl);refine Gx 1 9 ?_);(repeat first|refine Aa ?_);refine aR ⟨_,rfl,rfl,rfl,rfl⟩
 ·refine aK ?_
  (repeat first|refine aU rfl ?_);(refine pW rfl ?_ rfl (by rfl);refine Bb rfl rfl rfl rfl (by simp) (by rfl) (by rfl) (by rfl) (by rfl) ?_);(repeat first|refine tM rfl ?_);(refine pW rfl ?_ rfl (by rfl);refine Aw rfl rfl rfl (by first| (simp;done)|(simp;(omega))) rfl (by intro r d;simp at d;obtain⟨a,_,rfl⟩:=d;rfl) (by rfl) (am rfl) (by simp;omega) ?_);(repeat first|refine tM rfl ?_ |refine Aa ?_);refine Aj.names [1] [(2,.o (.arr 0 1 0 l.length))] [(0,.cells 9 1 (l.map HS))] (by intro i hi;rw [b] at hi;omega) (by simp) (by simp[cX,zC,b]) (by simp[cX,zC,b]) ?_;refine aR ⟨_,rfl,rfl,rfl,rfl⟩
theorem Zy(l:List W)(s:W):Pure Tryz.prog TB 220 [EI l,eT s] (eI .i64 (if s∈l then (l.idxOf s:Int) else -1)):=by
 refine eN Tryz.func220 rfl (by kernel_rfl) rfl ?_;intro Z a;refine Aj.bound 0 rfl λj=>?_;have o:=j (l.map Gh) .refl;(repeat first|refine sN rfl ?_ |refine tM rfl ?_ |refine aU rfl ?_ |refine Aa ?_);refine aB ?_;refine Aj.A6 (α:={k:Nat // k<=l.length/\s∉l.take k}) (λ⟨k,hk,b⟩=>[(0,EI l),(1,eT s),(7,eI .i64 l.length),(8,eI .i64 k)]) (λ⟨k,hk,b⟩=>[]) 0 (λ⟨k,hk,b⟩=>l.length - k) (⟨0,by omega,by simp⟩) [] (Ea a rfl rfl) (by (simp[cX,zC,a])) ?_;rintro⟨k,hk,b⟩;(try dsimp only);(repeat first|refine s2 rfl λ_ c=>?_ |refine aU rfl ?_ |refine Aa ?_);(refine aC rfl ?_ ?_<;>rintro⟨⟩)
 ·have h:k < l.length:=by (simp only[oZ] at *;omega)
  obtain⟨x,d⟩:=get_some (l:=l) (k:=k) h;have m:=get_map (g:=Gh) d;refine aK ?_;refine aS (aB ?_);(repeat first|refine tM rfl ?_ |(refine s4 rfl ‹_› rfl ?_ ?_;omega) |refine s2 rfl λ_ c=>?_ |refine aU rfl ?_ |refine Aa ?_);(refine aC rfl ?_ ?_<;>rintro⟨⟩)
  ·have i:s=x:=by (simp only[oZ] at *;omega)
   subst i;(repeat first|refine tM rfl ?_ |refine aU rfl ?_ |refine Aa ?_);refine aR ⟨_,rfl,?_⟩;have n:s∈l:=co d
   have hi:l.idxOf s=k:=by
    have e:l=l.take k++s::l.drop (k+1):=by rw [<-BA d,mz]
    rw [e,List.idxOf_append,if_neg b,List.idxOf_cons_self];simp;omega
   rw [if_pos n,hi]
  ·have i:¬s=x:=by simpa using c
   have f:s∉l.take (k+1):=by
    rw [gt,d];simp [b,i]
   refine aK ?_;(repeat first|(refine sM rfl ?_ ?_;first|exact tI|simp only[oZ] at *;omega) |refine aU rfl ?_ |refine Aa ?_);refine⟨⟨k+1,by omega,f⟩,by dsimp only;(omega),[],?_⟩;simp[cX,zC,a]
 ·obtain rfl:k=l.length:=by (simp only[oZ] at *;omega)
  rw [i7] at b;refine aE ?_;(repeat first|refine tM rfl ?_ |refine aU rfl ?_ |refine Aa ?_);refine aR ⟨_,rfl,?_⟩;rw [if_neg b]
theorem Mo(l:List W)(s:W):Pure Tryz.prog TB 146 [EI l,eT s] (eB (decide (s∈l))):=by
 refine eN Tryz.func146 rfl (by kernel_rfl) rfl ?_;intro Z b;(repeat' first|refine tA rfl ?_ |refine s2 rfl λ_ a=>?_ |refine sP rfl (Zy l s) rfl ?_ |refine aU rfl ?_ |refine Aa ?_|(refine aC rfl ?_ ?_<;>rintro⟨⟩)|refine aK ?_|refine aE ?_|refine aB ?_|refine aR ⟨_,rfl,?_⟩)
 all_goals (show E.o _=E.o _;congr;subst a;by_cases h:s∈l<;>simp [h])
def Hr(t:Bl)(col:W):Option Bl:=if t.cols.length=20\/col∈t.cols then none else some ⟨t.rows,t.cols++[col]⟩
def VJ(o:Option Bl):E:=match o with
 | some t=>.t [(true,[.d (CG t.rows),.d (CG t.cols)]),(false,[.d (bD true)])]
 | none=>.t [(true,[.d (.l []),.d (.l [])]),(false,[.d (bD false)])]
theorem Qp(t:Bl)(col:W)(g:t.rows.length<=4096)(p:t.cols.length<=4096):Pure Tryz.prog TB 203 [Ir t,eT col] (VJ (Hr t col)):=by
 have m:=Kf (TB:=TB) t.rows (by omega);have k:=Kf (TB:=TB) t.cols (by omega);refine AK.GH (AK.ofM 2 (io _) Tryz.func203 rfl rfl (by kernel_rfl) (am rfl) ?_);intro Z a;(repeat first|refine aU rfl ?_);(refine Ai rfl ?_;refine Cv (λ_ _=>C4 rfl rfl rfl) rfl ?_);(repeat first|refine sN rfl ?_ |refine tM rfl ?_ |refine s2 rfl λ_ b=>?_ |(refine sC rfl (Mo t.cols col) ?_;intro _ b) |refine s3 rfl ?_ ?_<;>rintro rfl |refine aU rfl ?_ |refine Aa ?_)
 ·(refine aC rfl ?_ ?_<;>rintro⟨⟩)
  have c:Hr t col=none:=by unfold Hr;rw [if_pos (.inl (by (simp only[oZ] at *;omega)))]
  (repeat first|refine tM rfl ?_|(refine Ai rfl ?_;refine gA rfl ?_;first| refine gS (λ_ _=>AV rfl rfl (by rfl) (by rfl)) ?_) |refine aU rfl ?_ |refine Aa ?_);refine Aj.freeze [0] [(4,.o (.ip [.l [],.l []])),(5,eB false)] ⟨⟨_,rfl,.o (.ptr (by simp) rfl rfl rfl)⟩,⟨_,rfl,.AL⟩,trivial⟩ ?_;refine aR ⟨_,rfl,?_⟩;rw [c];rfl
 (repeat first|refine tM rfl ?_ |(refine sC rfl (Mo t.cols col) ?_;intro _ b) |refine Aa ?_);(refine aC rfl ?_ ?_<;>rintro⟨⟩)
 ·have c:Hr t col=none:=by unfold Hr;rw [if_pos (.inr (by (simp only[oZ] at *;omega)))]
  (repeat first|refine tM rfl ?_|(refine Ai rfl ?_;refine gA rfl ?_;first| refine gS (λ_ _=>AV rfl rfl (by rfl) (by rfl)) ?_) |refine aU rfl ?_ |refine Aa ?_);refine Aj.freeze [0] [(4,.o (.ip [.l [],.l []])),(5,eB false)] ⟨⟨_,rfl,.o (.ptr (by simp) rfl rfl rfl)⟩,⟨_,rfl,.AL⟩,trivial⟩ ?_;refine aR ⟨_,rfl,?_⟩;rw [c];rfl
 ·refine aK ?_
  refine aS ?_;refine rG (kY [0,1,3,4,6,7,2,5,8,9,10,11] [2,5,8,10] [0,1,3,4,6,7]) (by kernel_rfl) ?_;(repeat first|refine tA rfl ?_);(refine pW rfl ?_ rfl (by rfl);refine Ae [] rfl rfl m ⟨rfl,by simp,by simp⟩ rfl trivial ?_;rintro n e f ⟨rfl,rfl,rfl⟩ _);(refine pW rfl ?_ rfl (by rfl);refine Ae [] rfl rfl k ⟨rfl,by simp,by simp⟩ rfl trivial ?_;rintro n e f ⟨rfl,rfl,rfl⟩ _);(refine pW rfl ?_ rfl (by rfl);refine Aw rfl rfl rfl (by first| (simp;done)|(simp;(omega))) rfl (by intro r g;simp at g;subst g;rfl) (by rfl) (am rfl) (by simp;omega) ?_);(repeat first|refine tA rfl ?_|(refine Ai rfl ?_;refine gA rfl ?_;first| refine gS (λ_ _=>AV rfl rfl (by rfl) (by rfl)) ?_) |refine Aa ?_)
  have j:col∉t.cols:=by simpa using b
  have c:Hr t col=some ⟨t.rows,t.cols++[col]⟩:=by
   unfold Hr;rw [if_neg];rintro(h|h)
   ·(simp only[oZ] at *;omega)
   ·exact j h
  refine Aj.names [0,1,3] [(4,.o (.ptr 0 2 0 0)),(5,eB true)] [(0,.cells 47 2 [[.arr 1 1 0 t.rows.length,.arr 2 1 0 (t.cols.length+1)]]),(1,.cells 9 1 (t.rows.map HS)),(2,.cells 9 1 ((t.cols++[col]).map HS))] (by intro i hi;rw [a] at hi;omega) (by simp) (by simp[cX,zC,a,HR]) (by simp[cX,zC,a,HR,Ab.A7,BP,BV,eC,Af]) ?_;refine Aj.Nf [1,2] [(4,.o (.ptr 0 2 0 0)),(5,eB true)] [(0,.cells 47 2 [[.d (CG t.rows),.d (CG (t.cols++[col]))]])] ⟨⟨_,rfl,.AL⟩,⟨_,rfl,.AL⟩,trivial⟩ ⟨⟨_,rfl,by simp,.cons (.full (by simp) rfl (by simp [d6]) (by simp)) (.cons (.full (by simp) rfl (by simp [d6]) (by simp)) .nil)⟩,trivial⟩ ?_;refine Aj.freeze [0] [(4,.o (.ip [CG t.rows,CG (t.cols++[col])])),(5,eB true)] ⟨⟨_,rfl,.o (.ptr (by simp) rfl rfl rfl)⟩,⟨_,rfl,.AL⟩,trivial⟩ ?_;refine aR ⟨_,rfl,?_⟩;rw [c];rfl
structure Ie (al:Int) (b:Nat) (t:Bl):Prop where
 onR:∀w∈t.rows,AU (Bo al) w/\w.length<=b
 onC:∀x∈t.cols,AU (Bo al) x/\x.length<=20000
 rl:t.rows.length<=12
 cl:t.cols.length<=20
def Qm(ok:W->Prop)(al:Int):Prop:=∀w,AU (Bo al) w->w.length<=50000->ok w
def Mk(ls:List UInt8)(t:Bl)(v:W):Prop:=∃r∈t.rows,∃m:W,(m=[]\/∃l∈ls,m=[l])/\∃x:W,(x=[]\/x∈t.cols)/\v=r++m++x
def Ig(ok:W->Prop)(ls:List UInt8)(t:Bl):Prop:=∀v,Mk ls t v->ok v
def El(L:W->Bool)(ls:List UInt8):Nat->Bl->List Bl
 | 0,t=>[t]
 | n+1,t=>t::match BC L ls t with
  | none=>[]
  | some w=>if t.rows.length=12 then [] else El L ls n ⟨t.rows++[w],t.cols⟩
theorem Ud{L:W->Bool}{ls:List UInt8}{n:Nat}{t:Bl}:t∈El L ls n t:=by cases n<;>simp [El]
theorem Ie.eM{ok:W->Prop}{al:Int}{b:Nat}{t:Bl}(h:Ie al b t)(d:Ig ok (Bo al) t)(hb:b<=20100):YK ok t/\∀w∈t.rows,∀l∈Bo al,∀x∈t.cols,ok (w++[l]++x):=
  ⟨⟨λw c x a=>d _ ⟨w,c,[],.inl rfl,x,.inr a,by simp⟩,λw c=>by have:=(h.onR w c).2;omega,λx a=>by have:=(h.onC x a).2;omega,by have:=h.rl;omega,by have:=h.cl;omega⟩,
   λw c l e x a=>d _ ⟨w,c,[l],.inr ⟨l,e,rfl⟩,x,.inr a,rfl⟩⟩
theorem Ie.on{ok:W->Prop}{al:Int}{b:Nat}{t:Bl}(h:Ie al b t)(i:Qm ok al)(hb:b<=20100):Ig ok (Bo al) t:=by
 rintro v ⟨r,e,m,f,x,d,rfl⟩;have n:=h.onR r e
 have k:AU (Bo al) m/\m.length<=1:=by
  rcases f with rfl|⟨l,g,rfl⟩
  ·exact⟨λc a=>by simp at a,by simp⟩
  ·exact⟨λc a=>by simp at a;subst a;exact g,by simp⟩
 have j:AU (Bo al) x/\x.length<=20000:=by
  rcases d with rfl|d
  ·exact⟨λc a=>by simp at a,by simp⟩
  ·exact h.onC x d
 refine i _ (λc a=>?_) (by simp;omega);simp only [f6] at a
 rcases a with (a|a)|a
 ·exact n.1 c a
 ·exact k.1 c a
 ·exact j.1 c a
theorem Ie.push{L:W->Bool}{al:Int}{b:Nat}{t:Bl}{w:W}(h:Ie al b t)(g:BC L (Bo al) t=some w)(i:t.rows.length < 12):Ie al (b+1) ⟨t.rows++[w],t.cols⟩:=by
 obtain⟨⟨r,f,l,e,rfl⟩,_⟩:=JH g;refine⟨λu a=>?_,h.onC,by simp;omega,h.cl⟩
 rcases f6.1 a with a|a
 ·have:=h.onR u a;exact⟨this.1,by omega⟩
 ·simp at a
  subst a;have:=h.onR r f;refine⟨λc d=>?_,by simp;omega⟩
  rcases f6.1 d with d|d
  ·exact this.1 c d
  ·simp at d;subst d;exact e
theorem Ie.grow{L:W->Bool}{al:Int}:∀ {n b:Nat} {t y:Bl},Ie al b t->y∈El L (Bo al) n t->Ie al (b+n) y
 | 0,b,t,y,h,a=>by simp [El] at a;subst a;exact h
 | n + 1, b,t,y,h,a=>by
  have f:∀ {b':Nat} {z:Bl},b'<=b+(n+1)->Ie al b' z->Ie al (b+(n+1)) z:=λhb c=>⟨λw e=>⟨(c.onR w e).1,jp (c.onR w e).2 hb⟩,c.onC,c.rl,c.cl⟩
  unfold El at a
  rcases lF.1 a with rfl|a
  ·exact f (by omega) h
  ·cases d:BC L (Bo al) t with
   | none=>rw [d] at a;simp at a
   | some w=>
    rw [d] at a;dsimp only at a;split at a
    ·simp at a
    ·have:=h.rl
     exact f (by omega) (Ie.grow (h.push d (by omega)) a)
theorem Ie.kG{L:W->Bool}{ok:W->Prop}{al:Int}{b:Nat}{t:Bl}(h:Ie al b t)(c:Qm ok al)(hb:b<=20000):∀y∈El L (Bo al) 13 t,Ig ok (Bo al) y:=λy a=>(h.grow a).on c (by omega)
theorem Io{c:C}{L:W->Bool}{ok:W->Prop}(K:Ja Tryz.prog TB c L ok)(al:Int)(t:Bl)(Y:∀y∈El L (Bo al) 13 t,Ig ok (Bo al) y)(ht:Ie al 20000 t) :
 Pure Tryz.prog TB 103 [Iq al c,Ir t] (VJ (BR L (Bo al) 13 t)):=by
 have v:=Eu c K.BX;have V:=ht.rl;have hcl:=ht.cl;have J:=Kf (TB:=TB) t.rows (by omega);have I:=Kf (TB:=TB) t.cols (by omega);refine AK.GH (AK.ofM 2 (io _) Tryz.func103 rfl rfl (by kernel_rfl) (am rfl) ?_);intro Z b;(repeat first|refine aU rfl ?_);(refine pW rfl ?_ rfl (by rfl);refine CT rfl rfl ?_);(refine Ai rfl ?_;refine Cv (λ_ _=>C4 rfl rfl rfl) rfl ?_);(repeat first|refine tM rfl ?_ |refine aU rfl ?_ |refine Aa ?_);refine R.Pj [(7,3),(0,2),(1,2),(3,2),(4,2),(2,1),(5,1),(6,0),(8,5)] mixed (by kernel_rfl) rfl (by kernel_rfl) ?_;(repeat ((refine R.Ai rfl ?_;first|(refine R.yQ (md:=false) rfl rfl rfl ?_ ?_;exact tI) |refine R.yP rfl rfl rfl rfl ?_ )));(refine R.Ai rfl ?_;refine R.KF (λ_=>?_) rfl rfl;refine Ae [] rfl rfl J ⟨rfl,by simp,by simp⟩ rfl trivial ?_;rintro P F G ⟨rfl,rfl,rfl⟩ _);(refine R.Ai rfl ?_;refine R.KF (λ_=>?_) rfl rfl;refine Ae [] rfl rfl I ⟨rfl,by simp,by simp⟩ rfl trivial ?_;rintro P F G ⟨rfl,rfl,rfl⟩ _);(repeat ((refine R.Ai rfl ?_;first|refine R.yA rfl rfl rfl rfl ?_|refine R.Cv (λ_ _ _=>AV rfl rfl (by rfl) (by rfl)) rfl rfl ?_ )));refine R.Pd ?_;refine aB ?_
 have Q:∀x:Bl,BC L (Bo al) x=none\/∃w,BC L (Bo al) x=some w:=λx=>by cases BC L (Bo al) x<;>simp
 refine Aj.A6 (α:={p:Nat×Bl // p.1<=13/\13<=p.1+p.2.rows.length/\Ie al (20000+p.2.rows.length) p.2/\BR L (Bo al) 13 t=BR L (Bo al) p.1 p.2/\∀y∈El L (Bo al) p.1 p.2,Ig ok (Bo al) y}) (λ⟨⟨m,u⟩,B,f,j,q,e⟩=>[(2,.o (.ptr 0 2 0 0)),(4,.o (.ptr 1 2 0 0)),(6,.o (.ptr 4 2 0 0))]) (λ⟨⟨m,u⟩,B,f,j,q,e⟩=>[(0,.cells 90 2 [[.d (iD al),c]]),(1,.cells 47 2 [[.d (.l []),.d (.l [])]]),(2,.cells 9 1 (u.rows.map HS)),(3,.cells 9 1 (u.cols.map HS)),(4,.cells 47 2 [[.arr 2 1 0 u.rows.length,.arr 3 1 0 u.cols.length]])]) 5 (λ⟨⟨m,u⟩,B,f,j,q,e⟩=>m) (⟨(13,t),by simp,by simp,⟨λw N=>⟨(ht.onR w N).1,by have:=(ht.onR w N).2;omega⟩,ht.onC,ht.rl,ht.cl⟩,rfl,Y⟩) [0,1,2,3,4] (Ea b rfl rfl) (by (simp[cX,zC,b,v,eC,Ab.A7,BP,HR,BV,Af])) ?_;rintro⟨⟨m,u⟩,B,f,j,q,e⟩;(try dsimp only);dsimp only at B f j q e
 have s:∀l:List W,((l.map HS).drop 0).take l.length=(l.map Gh).map (λr=>r.map C.d):=λl=>by rw [mw,lm (by simp)];simp [d6]
 have T:=j.rl;have U:=j.cl;have n:=j.eM (e u Ud) (by omega);have g:=QE (TB:=TB) K al u n.1 n.2
 have A:gv [(0,.cells 90 2 [[.d (iD al),c]]),(1,.cells 47 2 [[.d (.l []),.d (.l [])]]),(2,.cells 9 1 (u.rows.map HS)),(3,.cells 9 1 (u.cols.map HS)),(4,.cells 47 2 [[.arr 2 1 0 u.rows.length,.arr 3 1 0 u.cols.length]])] [.a [.d (iD al),c],.a [.arr 2 1 0 u.rows.length,.arr 3 1 0 u.cols.length]] [Iq al c,Ir u]:=
  .cons (.cons (.pure rfl) (.cons (.pure K.BX) .nil)) (.cons (.cons (.arr rfl (by simp) (s _)) (.cons (.arr rfl (by simp) (s _)) .nil)) .nil)
 refine aB ?_
 rcases Q u with k|⟨w,k⟩
 ·rw [k] at g
  (repeat first|refine tM rfl ?_ |refine s2 rfl λ_ h=>?_|(refine Ai rfl ?_;refine gA rfl ?_;first| refine gQ (KG rfl rfl (A) (g) rfl) rfl ?_) |refine aU rfl ?_ |refine Aa ?_);(refine aC rfl ?_ ?_<;>rintro⟨⟩)
  ·(repeat first|refine tM rfl ?_ |refine aU rfl ?_ |refine Aa ?_)
   have z:BR L (Bo al) 13 t=some u:=by
    rw [q]
    obtain⟨m',rfl⟩:∃m',m=m'+1:=⟨m - 1,by omega⟩
    simp [BR,k]
   refine Aj.names [1,2,3] [(4,.o (.ptr 0 2 0 0)),(5,eB true)] [(0,.cells 47 2 [[.arr 1 1 0 u.rows.length,.arr 2 1 0 u.cols.length]]),(1,.cells 9 1 (u.rows.map HS)),(2,.cells 9 1 (u.cols.map HS))] (by intro i hi;rw [b] at hi;omega) (by simp) (by simp[cX,zC,b,HR]) (by simp[cX,zC,b,HR,Ab.A7,BP,BV,eC,Af]) ?_;refine Aj.Nf [1,2] [(4,.o (.ptr 0 2 0 0)),(5,eB true)] [(0,.cells 47 2 [[.d (CG u.rows),.d (CG u.cols)]])] ⟨⟨_,rfl,.AL⟩,⟨_,rfl,.AL⟩,trivial⟩ ⟨⟨_,rfl,by simp,.cons (.full (by simp) rfl (by simp [d6]) (by simp)) (.cons (.full (by simp) rfl (by simp [d6]) (by simp)) .nil)⟩,trivial⟩ ?_;refine Aj.freeze [0] [(4,.o (.ip [CG u.rows,CG u.cols])),(5,eB true)] ⟨⟨_,rfl,.o (.ptr (by simp) rfl rfl rfl)⟩,⟨_,rfl,.AL⟩,trivial⟩ ?_;refine aR ⟨_,rfl,?_⟩;rw [z];rfl
  ·simp at h
 ·rw [k] at g
  (repeat first|refine tM rfl ?_ |refine s2 rfl λ_ h=>?_|(refine Ai rfl ?_;refine gA rfl ?_;first| refine gQ (KG rfl rfl (A) (g) rfl) rfl ?_) |refine aU rfl ?_ |refine Aa ?_);(refine aC rfl ?_ ?_<;>rintro⟨⟩)
  ·simp at h
  ·refine aK ?_
   (repeat first|refine tM rfl ?_ |refine s2 rfl λ_ h=>?_ |refine aU rfl ?_ |refine Aa ?_);(refine aC rfl ?_ ?_<;>rintro⟨⟩)
   ·(repeat first|refine tM rfl ?_|(refine Ai rfl ?_;refine gA rfl ?_;first| refine gS (λ_ _=>AV rfl rfl (by rfl) (by rfl)) ?_) |refine aU rfl ?_ |refine Aa ?_)
    have z:BR L (Bo al) 13 t=none:=by
     have M:u.rows.length=12:=by (simp only[oZ] at *;omega)
     rw [q]
     obtain⟨m',rfl⟩:∃m',m=m'+1:=⟨m - 1,by omega⟩
     simp [BR,k,M]
    refine Aj.freeze [1] [(4,.o (.ip [.l [],.l []])),(5,eB false)] ⟨⟨_,rfl,.o (.ptr (by simp) rfl rfl rfl)⟩,⟨_,rfl,.AL⟩,trivial⟩ ?_;refine aR ⟨_,rfl,?_⟩;rw [z];rfl
   ·refine aK ?_
    have H:u.rows.length < 12:=by (simp only[oZ] at *;omega)
    obtain⟨m',rfl⟩:∃m',m=m'+1:=⟨m - 1,by omega⟩
    have z:BR L (Bo al) 13 t=BR L (Bo al) m' ⟨u.rows++[w],u.cols⟩:=by
     rw [q]
     conv=>lhs;unfold BR
     rw [k];dsimp only;rw [if_neg (by omega)]
    have X:=j.push k H;(repeat first|refine tA rfl ?_ |refine aU rfl ?_);(refine pW rfl ?_ rfl (by rfl);refine Aw rfl rfl rfl (by first| (simp;done)|(simp;(omega))) rfl (by intro r v;simp at v;subst v;rfl) (by rfl) (am rfl) (by simp;omega) ?_);(repeat first|refine tM rfl ?_ |refine Aa ?_);refine⟨⟨⟨m',⟨u.rows++[w],u.cols⟩⟩,by dsimp only;omega,by simp;omega,by simpa [lX] using X,z,λy S=>e y (by unfold El;rw [k];dsimp only;rw [if_neg (by omega)];exact lP _ S)⟩,by dsimp only;(omega),[0,1,5,3,4],?_⟩;simp[cX,zC,b,v,eC,Ab.A7,BP,HR,BV,Af]
def BT:Bl:=⟨[[]],[[]]⟩
theorem Ma(al:Int):Ie al 20000 BT:=by
 refine⟨λw a=>?_,λw a=>?_,by decide,by decide⟩<;>(simp [BT] at a;subst a;exact⟨λc b=>by simp at b,by simp⟩)
theorem QV{c:C}{L:W->Bool}{ok:W->Prop}(b:Ja Tryz.prog TB c L ok)(al:Int)(e:∀y∈El L (Bo al) 13 BT,Ig ok (Bo al) y) :
 Pure Tryz.prog TB 121 [Iq al c] (VJ (BR L (Bo al) 13 BT)):=by
 have f:=Eu c b.BX;have h:=Io b al BT e (Ma al);refine AK.GH (AK.ofM 2 (io _) Tryz.func121 rfl rfl (by kernel_rfl) (am rfl) ?_);intro Z d;generalize BR L (Bo al) 13 BT=o at h |-;(repeat first|refine aU rfl ?_);(refine pW rfl ?_ rfl (by rfl);refine CT rfl rfl ?_);(repeat first|refine tM rfl ?_ |refine aU rfl ?_ |refine Aa ?_)
 have a:([Iq al c,Ir BT].all E.BX && C.C6 [])=true:=by simp [Iq,Ir,E.BX,C.C6,C.BX,b.BX]
 cases o with
 | none=>
  (repeat first|refine tA rfl ?_|(refine Ai rfl ?_;refine gA rfl ?_;first| refine gS (λ_ _=>Bh rfl rfl a h rfl) ?_|refine gS (λ_ _=>AV rfl rfl (by rfl) (by rfl)) ?_) |refine Aa ?_);refine Aj.freeze [1] [(2,.o (.ip [.l [],.l []])),(3,eB false)] ⟨⟨_,rfl,.o (.ptr (by simp) rfl rfl rfl)⟩,⟨_,rfl,.AL⟩,trivial⟩ ?_;refine aR ⟨_,rfl,?_⟩;rfl
 | some u=>
  (repeat first|refine tA rfl ?_|(refine Ai rfl ?_;refine gA rfl ?_;first| refine gS (λ_ _=>Bh rfl rfl a h rfl) ?_|refine gS (λ_ _=>AV rfl rfl (by rfl) (by rfl)) ?_) |refine Aa ?_);refine Aj.freeze [1] [(2,.o (.ip [CG u.rows,CG u.cols])),(3,eB true)] ⟨⟨_,rfl,.o (.ptr (by simp) rfl rfl rfl)⟩,⟨_,rfl,.AL⟩,trivial⟩ ?_;refine aR ⟨_,rfl,?_⟩;rfl
def Bw(L:W->Bool)(al:Int)(t:Bl):AX:=⟨al,t.rows.map λr=>(Ac al).map λl=>((EJ L t (r++[lb l]):Nat):Int),t.rows.map L⟩
theorem Sz{L:W->Bool}{al:Int}{t:Bl}(b:BC L (Bo al) t=none){r:W}(a:r∈t.rows){l:Int}(d:l∈Ac al) :
 (CD (BM L t t.rows.length) (marks L t.cols (r++[lb l]))).getD 0=((EJ L t (r++[lb l]):Nat):Int):=by
 have c:marks L t.cols (r++[lb l])∈AT L t:=by
  have:=nF.1 b (r++[lb l]) (by
   unfold Dc
   exact mJ.2 ⟨r,a,d8.2 ⟨lb l,d8.2 ⟨l,d,rfl⟩,rfl⟩⟩)
  simpa using this
 rw [SJ,if_pos c];rfl
theorem OX{c:C}{L:W->Bool}{ok:W->Prop}(u:Ja Tryz.prog TB c L ok)(al:Int)(t:Bl)(J:Ig ok (Bo al) t)(ht:Ie al 20012 t)(S:BC L (Bo al) t=none) :
 Pure Tryz.prog TB 65 [Iq al c,Ir t] (Bd (Bw L al t)):=by
 have a:=Eu c u.BX;have Q:=ht.rl;have Y:=ht.cl;have V:(Ac al).length<=6:=AN al 6;have h:=ht.eM J (by omega)
 have T:(Bw L al t).nx.length=t.rows.length:=by simp [Bw]
 have hal:(Bw L al t).ac.length=t.rows.length:=by simp [Bw]
 refine AK.GH (AK.ofM 3 (io _) Tryz.func65 rfl rfl (by kernel_rfl) (am rfl) ?_);intro Z e;(repeat first|refine aU rfl ?_);(refine pW rfl ?_ rfl (by rfl);refine CT rfl rfl ?_);(refine Ai rfl ?_;refine Cv (λ_ _=>C4 rfl rfl rfl) rfl ?_);(repeat first|refine tA rfl ?_ |refine aU rfl ?_ |refine Aa ?_);(refine pW rfl ?_ rfl (by rfl);refine Ae [] rfl rfl (GF u al t h.1) ⟨rfl,by simp,by simp⟩ (by simp [Es,E.A7,C.Cj,C.A7,a,eC]) trivial ?_;rintro x0 K M ⟨rfl,rfl,rfl⟩ _);(repeat first|refine tA rfl ?_ |refine aU rfl ?_ |refine Aa ?_);(refine pW rfl ?_ rfl (by rfl);refine IX 1 1 53 2 1 4 rfl rfl (by decide) rfl rfl (by rfl) (by rfl) ?_);(repeat first|refine sN rfl ?_ |refine tA rfl ?_ |refine aU rfl ?_ |refine Aa ?_);refine aB ?_;refine Aj.A6 (α:={k:Nat // k<=t.rows.length}) (λ⟨k,m⟩=>[(2,.o (.ptr 0 2 0 0)),(3,.o (.ip (Tt t))),(4,.o (.ptr 1 3 0 0)),(5,.o (.mp 2)),(6,.o (.ptr 3 3 0 0)),(19,.o (.d (CG t.rows))),(20,eI .i64 t.rows.length),(21,eI .i64 k)]) (λ⟨k,m⟩=>[(0,.cells 90 2 [[.d (iD al),c]]),(1,.cells 29 3 [[.d (iD 0),.d (.l []),.d (.l [])]]),(2,.mp (Ia (BM L t t.rows.length))),(3,.cells 29 3 [[.d (iD al),.arr 4 1 0 k,.arr 5 1 0 k]]),(4,.cells 53 1 (((Bw L al t).nx.take k).map λr=>[.d (EB r)])),(5,.cells 4 1 (((Bw L al t).ac.take k).map λb=>[.d (bD b)]))]) 6 (λ⟨k,m⟩=>t.rows.length - k) (⟨0,by omega⟩) [0,1,2,5,3,4] (Ea e rfl rfl) (by (simp[cX,zC,e,a,eC,Ab.A7,BP,HR,BV,Af])) ?_;rintro⟨k,m⟩;(try dsimp only);(repeat first|refine s2 rfl λ_ I=>?_ |refine aU rfl ?_ |refine Aa ?_);(refine aC rfl ?_ ?_<;>rintro⟨⟩)
 ·have B:k < t.rows.length:=by (simp only[oZ] at *;omega)
  obtain⟨r,p⟩:=get_some (l:=t.rows) (k:=k) B;have P:=get_map (g:=Gh) p;have f:=co p;refine aK ?_;refine aS (aB ?_);(repeat first|refine tM rfl ?_ |(refine s4 rfl ‹_› rfl ?_ ?_;omega) |refine aU rfl ?_ |refine Aa ?_);(refine pW rfl ?_ rfl (by rfl);refine Gx 1 3 ?_);(repeat first|refine sN rfl ?_ |refine tM rfl ?_ |refine sP rfl (Cn al) rfl ?_ |refine aU rfl ?_ |refine Aa ?_);refine aB ?_;refine Aj.A6 (α:={j:Nat // j<=(Ac al).length}) (λ⟨j,n⟩=>[(2,.o (.ptr 0 2 0 0)),(3,.o (.ip (Tt t))),(4,.o (.ptr 1 3 0 0)),(5,.o (.mp 2)),(6,.o (.ptr 3 3 0 0)),(19,.o (.d (CG t.rows))),(20,eI .i64 t.rows.length),(21,eI .i64 k),(8,eT r),(9,.o (.arr 6 1 0 j)),(27,Av (Ac al)),(28,eI .i64 (Ac al).length),(29,eI .i64 j)]) (λ⟨j,n⟩=>[(0,.cells 90 2 [[.d (iD al),c]]),(1,.cells 29 3 [[.d (iD 0),.d (.l []),.d (.l [])]]),(2,.mp (Ia (BM L t t.rows.length))),(3,.cells 29 3 [[.d (iD al),.arr 4 1 0 k,.arr 5 1 0 k]]),(4,.cells 53 1 (((Bw L al t).nx.take k).map λr=>[.d (EB r)])),(5,.cells 4 1 (((Bw L al t).ac.take k).map λb=>[.d (bD b)])),(6,.cells 3 1 (((Ac al).take j).map λl=>[.d (iD ((EJ L t (r++[lb l]):Nat):Int))]))]) 7 (λ⟨j,n⟩=>(Ac al).length - j) (⟨0,by omega⟩) [0,1,2,3,4,5,6] (Ea e rfl rfl) (by (simp[cX,zC,e,a,eC,Ab.A7,BP,HR])) ?_;rintro⟨j,n⟩;(try dsimp only);(repeat first|refine s2 rfl λ_ I=>?_ |refine aU rfl ?_ |refine Aa ?_);(refine aC rfl ?_ ?_<;>rintro⟨⟩)
  ·have s:j < (Ac al).length:=by (simp only[oZ] at *;omega)
   obtain⟨l,G⟩:=get_some (l:=Ac al) (k:=j) s;have X:=get_map (g:=BB) G;have i:=co G;have q:=Ak i;have R:=ht.onR r f;have U:=Kt (TB:=TB) u al t (r++[lb l]) (by omega) (λx p=>h.2 r f _ (d8.2 ⟨l,i,rfl⟩) x p) (λy N=>by have:=(ht.onC y N).2;simp;omega);have F:=Sz S f i;refine aK ?_;refine aS (aB ?_);(repeat first|refine tA rfl ?_ |(refine s4 rfl ‹_› rfl ?_ ?_;omega) |refine aU rfl ?_ |refine Aa ?_);refine rG (HQ [13]) (by kernel_rfl) ?_;(repeat first|(refine sA rfl ?_ ?_;first|exact tI|omega|simp only[oZ] at *;omega) |refine sP rfl (EU l q.1 (by omega)) rfl ?_|(refine Ai rfl ?_;refine gA rfl ?_;first| refine gS (λ_ _=>UK rfl (by omega) (by omega)) ?_));rw [ZC q.1];(repeat first| (refine Ai rfl ?_;refine gA rfl ?_;first| refine gS (λ_ _=>Bh rfl rfl (by simp [E.BX,C.C6,C.BX,u.BX]) U rfl) ?_|refine gQ (WB rfl rfl rfl) (by rfl) ?_));(repeat first|refine tA rfl ?_);(refine pW rfl ?_ rfl (by rfl);refine Aw rfl rfl rfl (by first| (simp;done)|(simp;(omega))) rfl (by intro r a;simp at a;subst a;rfl) (by rfl) (am rfl) (by simp;omega) ?_);(repeat first|(refine sA rfl ?_ ?_;first|exact tI|omega) |refine aU rfl ?_ |refine Aa ?_);rw [F];refine⟨⟨j+1,by omega⟩,by dsimp only;(omega),[0,1,2,3,4,5,7],?_⟩;simp[cX,zC,e,a,gt,G]
  ·obtain rfl:j=(Ac al).length:=by (simp only[oZ] at *;omega)
   have z:=J r ⟨r,f,[],.inl rfl,[],.inl rfl,by simp⟩
   have A:(Bw L al t).nx.take (k+1)=(Bw L al t).nx.take k++[(Ac al).map λl=>((EJ L t (r++[lb l]):Nat):Int)]:=by
    rw [gt];simp [Bw,p]
   have H:(Bw L al t).ac.take (k+1)=(Bw L al t).ac.take k++[L r]:=by
    rw [gt];simp [Bw,p]
   refine aE ?_;rw [i7];refine Aj.QF [6] [2,3,4,5,6,8,19,20,21] rfl [(9,Av ((Ac al).map λl=>((EJ L t (r++[lb l]):Nat):Int)))] ⟨⟨_,rfl,.o (.full (by simp) rfl (by simp [d6]) (by simp))⟩,trivial⟩ ?_;(try dsimp only[cA,cB]);(repeat first|refine tA rfl ?_ |refine aU rfl ?_);(refine pW rfl ?_ rfl (by rfl);refine Aw rfl rfl rfl (by first| (simp;done)|(simp;(omega))) rfl (by intro r a;simp at a;subst a;rfl) (by rfl) (am rfl) (by simp;omega) ?_);(repeat first|refine tA rfl ?_ |refine Aa ?_);refine rG (HQ [7,9]) (by kernel_rfl) ?_;(repeat first|refine tA rfl ?_|(refine Ai rfl ?_;refine gA rfl ?_;first| refine gS (λ_ _=>u.ask rfl rfl z) ?_));(refine pW rfl ?_ rfl (by rfl);refine Aw rfl rfl rfl (by first| (simp;done)|(simp;(omega))) rfl (by intro r a;simp at a;subst a;rfl) (by rfl) (am rfl) (by simp;omega) ?_);(repeat first|(refine sA rfl ?_ ?_;first|exact tI|omega) |refine aU rfl ?_ |refine Aa ?_);refine⟨⟨k+1,by omega⟩,by dsimp only;(omega),[0,1,2,3,7,8],?_⟩;simp[cX,zC,e,a,eC,Ab.A7,BP,HR,BV,Af,A,H]
 ·obtain rfl:k=t.rows.length:=by (simp only[oZ] at *;omega)
  have w:(Bw L al t).nx.take t.rows.length=(Bw L al t).nx:=lm (by simp [Bw]);have v:(Bw L al t).ac.take t.rows.length=(Bw L al t).ac:=lm (by simp [Bw]);rw [w,v];refine aE ?_;(repeat first|refine tM rfl ?_ |refine aU rfl ?_ |refine Aa ?_);refine Aj.settle [(4,.o (.ip [iD al,C1 (Bw L al t).nx,Fp (Bw L al t).ac]))] ⟨⟨_,rfl,.o (.box rfl (.cons .d (.cons (.full rfl (by simp [d6]) (by simp [Bw])) (.cons (.full rfl (by simp [d6]) (by simp [Bw])) .nil))))⟩,trivial⟩ ?_;refine aR ⟨_,rfl,rfl⟩
end Go.Am
namespace Go.Am
set_option linter.unusedVariables false
def Fk(a:AX):Int->W->Int
 | q,[]=>q
 | q,c::w=>Fk a (Cg a q.toNat ((c.toNat:Int) - 97)) w
def LA(a:AX)(w:W):Bool:=a.ac.getD (Fk a 0 w).toNat false
theorem JE{l:Int}(b:0<=l)(a:l < 6):((lb l).toNat:Int) - 97=l:=by
 unfold lb
 have:(97+l.toNat) % 256=97+l.toNat:=by omega
 simp [this];omega
theorem Ni{al:Int}{c:UInt8}(h:c∈Bo al):0<=(c.toNat:Int) - 97/\(c.toNat:Int) - 97 < 6:=by
 obtain⟨l,a,rfl⟩:=d8.1 h;have b:=Ak a;rw [JE b.1 (by omega)];omega
theorem Rt{a:AX}(ha:AE a=true){al:Int}:∀(w:W) (q:Int),AU (Bo al) w->0<=q/\q < a.nx.length->0<=Fk a q w/\Fk a q w < a.nx.length
 | [],q,_,d=>d
 | c::w,q,b,d=>by
  have e:=Ni (b c (by simp));have g:=CK ha (q:=q.toNat) (by omega) e.1 e.2;exact Rt ha w _ (λx f=>b x (by simp [f])) g
theorem VU{al:Int}{l:Int}(h:l∈Ac al):lb l∈Bo al:=d8.2 ⟨l,h,rfl⟩
theorem Vz{L:W->Bool}{al:Int}{t:Bl}(hal:Bm al=true)(h:Dl L (Bo al) t)(b:t.rows.length<=12):AE (Bw L al t)=true:=by
 have j:0 < t.rows.length:=(ce.1 h.r0).1;unfold AE;simp only [d4,decide_eq_true_eq,gc];refine⟨⟨⟨hal,by simp [Bw];omega⟩,by simp [Bw]⟩,λrow a=>?_⟩;simp only [Bw,d8] at a;obtain⟨r,b,rfl⟩:=a;unfold Ft;simp only [d4,decide_eq_true_eq,gc];refine⟨by simp [Bw],λy c=>?_⟩;obtain⟨l,d,rfl⟩:=d8.1 c;obtain⟨i,hi,e⟩:=lT b;obtain⟨r',g,_⟩:=h.idx (i:=i) (r:=r) (by rw [d5 hi,e]) (VU d);have f:=(ce.1 g).1;unfold Ry;simp [Bw];exact f
theorem Sj{L:W->Bool}{al:Int}{t:Bl}{q:Nat}{c:UInt8}(e:q < t.rows.length)(g:c∈Bo al):Cg (Bw L al t) q ((c.toNat:Int) - 97)=((EJ L t (t.rows.getD q []++[c]):Nat):Int):=by
 obtain⟨l,a,rfl⟩:=d8.1 g;have d:=Ak a;rw [JE d.1 (by omega)];obtain⟨k,hk,f⟩:=lT a
 have b:(AG al 6)[k]? = some l:=by rw [d5 hk,f]
 have m:=Jp b;unfold Cg;have j:AR (Bw L al t).al l.toNat=true:=d.2.2;rw [if_pos j];have i:(AG (Bw L al t).al l.toNat).length=k:=m;rw [i]
 have h:(Bw L al t).nx.getD q []=(Ac al).map λl=>((EJ L t (t.rows.getD q []++[lb l]):Nat):Int):=by
  simp [Bw,List.getD,e]
 rw [h];simp [List.getD,b]
end Go.Am
namespace Go.Am
open Go Go.Proofs
set_option maxHeartbeats 1000000
set_option maxRecDepth 4000
attribute [local irreducible] AW BQ Lex A9 Aj Spec
variable {TB:Bp}
theorem Gw(w:W)(i:Nat)(c:UInt8)(e:w[((i:Nat):Int).toNat]? = some c)(d:0<=(c.toNat:Int) - 97/\(c.toNat:Int) - 97 < 6):Pure Tryz.prog TB 82 [eT w,eI .i64 i] (eI .i64 ((c.toNat:Int) - 97)):=by
 refine eN Tryz.func82 rfl (by kernel_rfl) rfl ?_;intro Z a;(repeat' first|(refine sA rfl ?_ ?_;first|exact tI|omega) |(refine s4 rfl ‹_› rfl ?_ ?_;omega) |refine s2 rfl λ_ b=>?_ |refine s3 rfl ?_ ?_<;>rintro rfl |refine aU rfl ?_ |refine Aa ?_|(refine aC rfl ?_ ?_<;>rintro⟨⟩)|refine aK ?_|refine aE ?_|refine aB ?_|refine aR ⟨_,rfl,?_⟩)
 all_goals first
  | rfl
  | (exfalso;grind)
abbrev jh(kn:Bool)(p:AX)(s:Sys)(q:AX)(al:Int):List D:=[bD kn,iD p.al,C1 p.nx,Fp p.ac,iD s.al,iD s.st,Ej s.es,iD q.al,C1 q.nx,Fp q.ac,iD al]
theorem QX{ls:List UInt8}{w:W}(h:AU ls w)(k:Nat):AU ls (w.take k):=λc a=>h c (lU a)
theorem c8{ls:List UInt8}{w:W}(h:AU ls w)(k:Nat):AU ls (w.drop k):=λc a=>h c (mK a)
theorem P4{L:W->Bool}{t:Bl}{w:W}{k:Nat}{c:UInt8}(a:w[k]? = some c)(q:Nat):runM L t q (w.take (k+1))=EJ L t (t.rows.getD (runM L t q (w.take k)) []++[c]):=by
 rw [gt,a,Tg];rfl
def Ew(L:W->Bool)(t:Bl)(w:W):Option W:=if Xc L t w=L w then none else splitAt L t (L w) 0 w
theorem Rx{L:W->Bool}{t:Bl}{b:Bool}{w:W}{k q:Nat}{c:UInt8}(a:w[k]? = some c):splitAt L t b q (w.drop k)=if L (t.rows.getD (EJ L t (t.rows.getD q []++[c])) []++w.drop (k+1))≠b then some (w.drop (k+1)) else splitAt L t b (EJ L t (t.rows.getD q []++[c])) (w.drop (k+1)):=by
 rw [BA a,splitAt]
def Vy(t:Bl)(w v:W):Prop:=∃r,(r=[]\/r∈t.rows)/\∃k:Nat,v=r++w.drop k
theorem Pk{c:C}{L:W->Bool}{ok:W->Prop}(I:Ja Tryz.prog TB c L ok)(al:Int)(t:Bl)(hf:Ig ok (Bo al) t)(ht:Ie al 20012 t)(hal:Bm al=true)(n:Dl L (Bo al) t)(ho:BC L (Bo al) t=none)(w:W)(H:∀v,Vy t w v->ok v)(z:AU (Bo al) w)(hwl:w.length<=20000) :
 Pure Tryz.prog TB 202 [Iq al c,Ir t,eT w] (hY (Ew L t w)):=by
 have M:=Eu c I.BX;have Q:=ht.rl;have U:=OX (TB:=TB) I al t hf ht ho;have J:=Vz hal n Q;have N:=Du (TB:=TB) (Bw L al t) J
 have hnl:(Bw L al t).nx.length=t.rows.length:=by simp [Bw]
 have V:0 < t.rows.length:=(ce.1 n.r0).1;have B:=H w ⟨[],.inl rfl,0,rfl⟩
 have S:([Iq al c,Ir t].all E.BX && C.C6 [])=true:=by simp [E.BX,C.C6,C.BX,I.BX]
 refine eN Tryz.func202 rfl (by kernel_rfl) rfl ?_;intro Z e;(repeat first|refine aU rfl ?_);(refine pW rfl ?_ rfl (by rfl);refine CT rfl rfl ?_);(refine Ai rfl ?_;refine Cv (λ_ _=>C4 rfl rfl rfl) rfl ?_);(repeat first|refine tA rfl ?_ |refine aU rfl ?_ |refine Aa ?_);(repeat first|refine tA rfl ?_|(refine Ai rfl ?_;refine gA rfl ?_;first| refine gS (λ_ _=>Bh rfl rfl S U rfl) ?_) |refine aU rfl ?_ |refine Aa ?_);(repeat first|refine tA rfl ?_ |refine sP rfl (N) rfl ?_ |refine aU rfl ?_ |refine Aa ?_);refine aB ?_;refine aL (α:={k:Nat // k<=w.length}) [2,3,4,8,9,20] [0,1] rfl rfl (λ⟨k,hk⟩=>[(10,eI .i64 (runM L t 0 (w.take k):Nat)),(21,eI .i64 k)]) (λ⟨k,hk⟩=>[]) 2 (λ⟨k,hk⟩=>w.length - k) (⟨0,by omega⟩) e rfl (by (simp[cX,zC,e,M]<;>rfl)) ?_;rintro⟨k,hk⟩;(try dsimp only[cA,cB]);have r:=n.run (w.take k) 0 (QX z k) V;by_cases u:k < w.length
 ·obtain⟨o,d⟩:=get_some u
  have y:w[((k:Nat):Int).toNat]? = some o:=by simpa using d
  have m:=z o (co d);have j:=Ni m;have x:=Gw (TB:=TB) w k o y j;have ta:=HI (a:=Bw L al t) (q:=(((runM L t 0 (w.take k):Nat):Int)).toNat) (by omega)
  have el:((((o.toNat:Int) - 97).toNat:Nat):Int)=(o.toNat:Int) - 97:=by omega
  have ra:=Ge (h:=λl=>Cg (Bw L al t) (((runM L t 0 (w.take k):Nat):Int)).toNat l) j.1 (by omega);simp only [el] at ra;have f:=Sj (L:=L) (al:=al) (t:=t) (q:=runM L t 0 (w.take k)) r m;have p:=P4 (L:=L) (t:=t) d 0;rw [<-p] at f;rw [i9,f] at ra;(repeat first|refine s2 rfl λ_ b=>?_ |refine aU rfl ?_ |refine Aa ?_);(refine aC rfl ?_ ?_<;>rintro⟨⟩)
  ·(repeat' first|(refine sA rfl ?_ ?_;first|exact tI|omega) |(refine s4 rfl ‹_› rfl ?_ ?_;omega) |refine sP rfl (x) rfl ?_|(refine Ai rfl ?_;refine gA rfl ?_;first| refine gS (λ_ _=>Da rfl ra) ?_) |refine aU rfl ?_ |refine Aa ?_ |refine rE (by kernel_rfl) ?_|(refine aC rfl ?_ ?_<;>rintro⟨⟩)|refine aK ?_|refine aE ?_|refine aB ?_|refine aR ⟨_,rfl,?_⟩)
   refine⟨⟨k+1,by omega⟩,by dsimp only;(omega),[0,1],?_⟩;simp[cX,zC,e,M]
  ·exfalso;(simp only[oZ] at *;omega)
 ·obtain rfl : k=w.length:=by omega
  rw [i7] at *;(repeat first|refine s2 rfl λ_ b=>?_ |refine aU rfl ?_ |refine Aa ?_);(refine aC rfl ?_ ?_<;>rintro⟨⟩)
  ·exfalso;(simp only[oZ] at *;omega)
  ·refine aE ?_
   have hacx:((Bw L al t).ac.map Js)[(((runM L t 0 w:Nat):Int)).toNat]? = some (Js (Xc L t w)):=by
    unfold Xc;simp [Bw,List.getD,r]
   (repeat first|refine tA rfl ?_ |(refine s4 rfl ‹_› rfl ?_ ?_;omega) |refine s2 rfl λ_ b=>?_|(refine Ai rfl ?_;refine gA rfl ?_;first| refine gS (λ_ _=>I.ask rfl rfl B) ?_) |refine aU rfl ?_ |refine Aa ?_);(refine aC rfl ?_ ?_<;>rintro⟨⟩)
   ·have hn:Ew L t w=none:=by unfold Ew;rw [if_pos (by simpa using b)]
    (repeat first|refine tA rfl ?_ |refine aU rfl ?_ |refine Aa ?_);refine aR ⟨_,rfl,?_⟩;rw [hn];rfl
   ·have P:Ew L t w=splitAt L t (L w) 0 w:=by unfold Ew;rw [if_neg (by simpa using b)]
    rw [P];refine aK ?_;(repeat first|refine tA rfl ?_ |refine aU rfl ?_ |refine Aa ?_);refine aB ?_;refine aL (α:={k:Nat // k<=w.length/\splitAt L t (L w) 0 w=splitAt L t (L w) (runM L t 0 (w.take k)) (w.drop k)}) [2,3,4,9,12,45] [0] rfl rfl (λ⟨k,hk,i⟩=>[(10,eI .i64 (runM L t 0 (w.take k):Nat)),(46,eI .i64 k)]) (λ⟨k,hk,i⟩=>[]) 1 (λ⟨k,hk,i⟩=>w.length - k) (⟨0,by omega,rfl⟩) e rfl (by (simp[cX,zC,e,M]<;>rfl)) ?_;rintro⟨k,hk,i⟩;(try dsimp only[cA,cB]);have r:=n.run (w.take k) 0 (QX z k) V;by_cases u:k < w.length
    ·obtain⟨o,d⟩:=get_some u
     have y:w[((k:Nat):Int).toNat]? = some o:=by simpa using d
     have m:=z o (co d);have j:=Ni m;have x:=Gw (TB:=TB) w k o y j;have ta:=HI (a:=Bw L al t) (q:=(((runM L t 0 (w.take k):Nat):Int)).toNat) (by omega)
     have el:((((o.toNat:Int) - 97).toNat:Nat):Int)=(o.toNat:Int) - 97:=by omega
     have ra:=Ge (h:=λl=>Cg (Bw L al t) (((runM L t 0 (w.take k):Nat):Int)).toNat l) j.1 (by omega);simp only [el] at ra;have f:=Sj (L:=L) (al:=al) (t:=t) (q:=runM L t 0 (w.take k)) r m;have p:=P4 (L:=L) (t:=t) d 0;have A:=n.run (w.take (k+1)) 0 (QX z (k+1)) V;rw [Rx d,<-p] at i;rw [<-p] at f;rw [i9,f] at ra;generalize R:runM L t 0 (w.take (k+1))=X at *;obtain⟨K,s⟩:=get_some (l:=t.rows) (k:=X) A;have Y:=get_map (g:=Gh) s
     have T:t.rows.getD X []=K:=by simp [List.getD,s]
     rw [T] at i;have hrb:=ht.onR K (co s);have hdl:(w.drop (k+1)).length=w.length - (k+1):=pv;have F:=H (K++w.drop (k+1)) ⟨K,.inr (co s),k+1,rfl⟩
     have G:(((k:Nat):Int)+1).toNat=k+1:=by omega
     (repeat first|refine s2 rfl λ_ b=>?_ |refine aU rfl ?_ |refine Aa ?_);(refine aC rfl ?_ ?_<;>rintro⟨⟩)
     ·refine aK ?_
      refine aS (aB ?_);(repeat first|(refine sA rfl ?_ ?_;first|exact tI|omega) |(refine s4 rfl ‹_› rfl ?_ ?_;omega) |refine sP rfl (x) rfl ?_|(refine Ai rfl ?_;refine gA rfl ?_;first| refine gS (λ_ _=>Da rfl ra) ?_) |refine aU rfl ?_ |refine Aa ?_ |refine rE (by kernel_rfl) ?_);(repeat first| (refine Ai rfl ?_;refine gA rfl ?_;first| refine gS (λ_ _=>Er rfl rfl (by omega) (by omega)) ?_));rw [G];(repeat first|(refine sA rfl ?_ ?_;first|exact tI|omega) |refine s2 rfl λ_ b=>?_|(refine Ai rfl ?_;refine gA rfl ?_;first| refine gS (λ_ _=>I.ask rfl rfl F) ?_) |refine Aa ?_);(refine aC rfl ?_ ?_<;>rintro⟨⟩)
      ·rw [if_pos (by simpa using b)] at i
       (repeat first|(refine sA rfl ?_ ?_;first|exact tI|omega)|(refine Ai rfl ?_;refine gA rfl ?_;first| refine gS (λ_ _=>Er rfl rfl (by omega) (by omega)) ?_) |refine aU rfl ?_ |refine Aa ?_);refine aR ⟨_,rfl,?_⟩;rw [G,i];rfl
      ·rw [if_neg (by simpa using b)] at i
       refine aK ?_;(repeat first|(refine sA rfl ?_ ?_;first|exact tI|omega) |refine aU rfl ?_ |refine Aa ?_);subst R;refine⟨⟨k+1,by omega,i⟩,by dsimp only;(omega),[0],?_⟩;simp[cX,zC,e,M]
     ·exfalso;(simp only[oZ] at *;omega)
    ·obtain rfl:k=w.length:=by omega
     rw [oO] at i;(repeat first|refine s2 rfl λ_ b=>?_ |refine aU rfl ?_ |refine Aa ?_);(refine aC rfl ?_ ?_<;>rintro⟨⟩)
     ·exfalso;(simp only[oZ] at *;omega)
     ·refine aE ?_
      (repeat first|refine tA rfl ?_ |refine aU rfl ?_ |refine Aa ?_);refine aR ⟨_,rfl,?_⟩;rw [i];rfl
theorem Ie.lk{ok:W->Prop}{al:Int}{t:Bl}(ht:Ie al 20012 t)(f:Qm ok al){w:W}(e:AU (Bo al) w)(d:w.length<=20000):∀v,Vy t w v->ok v:=by
 rintro v ⟨r,b,k,rfl⟩
 have g:AU (Bo al) r/\r.length<=20012:=by
  rcases b with rfl|b
  ·exact⟨λc a=>by simp at a,by simp⟩
  ·exact ht.onR r b
 refine f _ (λc a=>?_) (by simp;omega)
 rcases f6.1 a with a|a
 ·exact g.1 c a
 ·exact c8 e _ c a
end Go.Am
namespace Go.Am
set_option linter.unusedVariables false
section
variable {α:Type}[DecidableEq α]
def Dd{α:Type}(f:α->Int->α):α->List Int->α
 | q,[]=>q
 | q,l::w=>Dd f (f q l) w
theorem KJ{α:Type}(f:α->Int->α):∀(u w:List Int) (q:α),Dd f q (u++w)=Dd f (Dd f q u) w
 | [],_,_=>rfl
 | l::u,w,q=>KJ f u w _
structure Part (f:α->Int->α) (ls:List Int) (s:α) (nd:List α) (rows:List (List Int)) (lim:Nat):Prop where
 st:nd[0]? = some s
 nodup:nd.Nodup
 len:rows.length<=nd.length
 lim:nd.length<=lim
 row:∀(i:Nat) (r:List Int),rows[i]? = some r->∃q,nd[i]? = some q/\r=ls.map (λl=>((nd.idxOf (f q l):Nat):Int))/\∀l∈ls,f q l∈nd
 rc:∀q∈nd,∃w:List Int,(∀l∈w,l∈ls)/\Dd f s w=q
structure kT (f:α->Int->α) (ls:List Int) (s:α) (nd:List α) (rows:List (List Int)):Prop where
 st:nd[0]? = some s
 nodup:nd.Nodup
 len:rows.length=nd.length
 row:∀(i:Nat) (q:α),nd[i]? = some q->rows[i]? = some (ls.map λl=>((nd.idxOf (f q l):Nat):Int))
 cl:∀q∈nd,∀l∈ls,f q l∈nd
 rc:∀q∈nd,∃w:List Int,(∀l∈w,l∈ls)/\Dd f s w=q
end
section
variable {α β:Type}[DecidableEq α][DecidableEq β]
end
end Go.Am
