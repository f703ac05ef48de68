/-
  Marks of words.
-/
import Derived.Test.YtgpbfllcjdfelaaGreatDoorPart20
import Derived.Test.YtgpbfllcjdfelaaGreatDoorPart11
set_option linter.all false
namespace Go.Am
open Go Go.Proofs
set_option maxHeartbeats 1000000
set_option maxRecDepth 4000
attribute [local irreducible] AP BH Lex A4 Al Spec
variable {TB:Bg}
abbrev OM(t:AW):List D:=[A6 t.rows,A6 t.cols]
abbrev Cs(t:AW):E:=.a [.d (A6 t.rows),.d (A6 t.cols)]
abbrev Ey(al:Int)(c:C):E:=.a [.d (iD al),c]
mutual
theorem Db:∀(c:C),c.BI=true->∀r,c.AN r=c
 | .d x,_,r=>rfl
 | .fn g cap,h,r=>by
  simp only [C.BI] at h;simp only [C.AN,KL cap h r]
 | .arr ..,h,_=>by cases h
 | .ptr ..,h,_=>by cases h
 | .mp ..,h,_=>by cases h
 | .mv g l,h,r=>by
  simp only [C.BI] at h;simp only [C.AN,KL l h r]
theorem KL:∀(l:List C),C.CI l=true->∀r,C.Bh r l=l
 | [],_,r=>rfl
 | c::l,h,r=>by
  simp only [C.CI,bu] at h;simp only [C.Bh,Db c h.1 r,KL l h.2 r]
end
structure GW (P:Program) (TB:Bg) (c:C) (L:W->Bool) (ok:W->Prop):Prop where
 BI:c.BI=true
 ask:∀ {Z:Ctx} {d:Option Tmp} {ty:TypeId} {pos:String} {af:Array Edge} {g:Option (Nat×Bool)} {f:Env} {σ:Ab} {nx:Nat} {x a:Operand} {tys:Array TypeId} {w:W},
  ev f x=some (.o c)->ev f a=some (eT w)->ok w->AP P TB Z ⟨d,.call ⟨.value x,#[a],tys⟩,ty,pos,af,g⟩ f σ nx (eB (L w))
theorem GW.of{P:Program}{g:FuncId}{cap:List C}{L:W->Bool}{ok:W->Prop}(a:C.CI cap=true)(h:∀w,ok w->Pure P TB g ([eT w]++cap.map .o) (eB (L w))):GW P TB (.fn g cap) L ok:=
 ⟨a,λb ha c=>Bd (es:=[eT _]) b (by simp [Hz,ha]) (by simp [E.BI,C.BI,a]) (h _ c) rfl⟩
def Oc(L:W->Bool)(cols:List W)(w:W)(k:Nat)(i:Nat):UInt8:=if i < k then Ns (L (w++cols.getD i [])) else 0
theorem Pt(L:W->Bool)(cols:List W)(w:W):(Bc cols.length λi=>DY (Oc L cols w cols.length i))=(marks L cols w).map DY:=by
 apply dG;intro i;by_cases h:i < cols.length
 ·rw [CB h]
  simp [marks,Oc,h]
 ·rw [co (by simp [Bc];omega),co (by simp [marks];omega)]
theorem Zt:DY 0=[C.d (D.v (Value.int IntKind.u8 0))]:=rfl
theorem XV(L:W->Bool)(cols:List W)(w:W)(n:Nat):(Bc n λi=>DY (Oc L cols w 0 i))=List.replicate n (DY 0):=by
 apply dG;intro i;by_cases h:i < n
 ·rw [CB h];simp [Oc,h]
 ·rw [co (by simp [Bc];omega),co (by simp;omega)]
theorem Tc{L:W->Bool}{cols:List W}{w x:W}{k:Nat}(b:cols[k]? = some x):(Bc cols.length λi=>DY (if i=k then Ns (L (w++x)) else Oc L cols w k i))=Bc cols.length λi=>DY (Oc L cols w (k+1) i):=by
 refine BV λi _=>?_;congr 1;unfold Oc;by_cases h:i=k
 ·subst h
  rw [if_pos rfl,if_pos (by omega)];simp [b]
 ·rw [if_neg h]
  by_cases a:i < k
  ·rw [if_pos a,if_pos (by omega)]
  ·rw [if_neg a,if_neg (by omega)]
theorem HK{c:C}{L:W->Bool}{ok:W->Prop}(B:GW Tryz.prog TB c L ok)(al:Int)(t:AW)(w:W)(J:t.cols.length<=1048576)(I:∀x∈t.cols,ok (w++x))(hb:∀x∈t.cols,w.length+x.length<=1048576) :
 Pure Tryz.prog TB 150 [Ey al c,Cs t,eT w] (eT (marks L t.cols w)):=by
 have y:=Db c B.BI;refine eN Tryz.func150 rfl (by kernel_rfl) rfl ?_;intro Z b;(repeat first|refine aU rfl ?_);(refine pW rfl ?_ rfl (by rfl);refine C5 rfl rfl ?_);(refine Av rfl ?_;refine BU (λ_ _=>CS rfl rfl rfl) rfl ?_);(repeat first|refine sN rfl ?_ |refine tM rfl ?_ |refine aU rfl ?_ |refine Aa ?_);(refine pW rfl ?_ rfl (by rfl);refine Ee rfl rfl (by rfl) (by rfl) (bn rfl) (by omega) (by omega) (by omega) ?_);(repeat first|refine sN rfl ?_ |refine tM rfl ?_ |refine aU rfl ?_ |refine Aa ?_);refine aB ?_;refine Al.AS (α:={k:Nat // k<=t.cols.length}) (λ⟨k,j⟩=>[(2,eT w),(3,.o (.ptr 0 2 0 0)),(7,.o (.arr 1 1 0 t.cols.length)),(15,.o (.d (A6 t.cols))),(16,eI .i64 t.cols.length),(17,eI .i64 k)]) (λ⟨k,j⟩=>[(1,.cells 5 1 (Bc t.cols.length λi=>DY (Oc L t.cols w k i))),(0,.cells 90 2 [[.d (iD al),c]])]) 2 (λ⟨k,j⟩=>t.cols.length - k) (⟨0,by omega⟩) [0,1] (Dn b rfl rfl) (by (simp[cX,zC,b,KM,y,XV,eC,HX,Zt])) ?_;rintro⟨k,j⟩;(try dsimp only);(repeat first|refine s2 rfl λ_ r=>?_ |refine aU rfl ?_ |refine Aa ?_);(refine aC rfl ?_ ?_<;>rintro⟨⟩)
 ·have f:k < t.cols.length:=by (simp only[oZ] at *;omega)
  obtain⟨x,u⟩:=get_some (l:=t.cols) (k:=k) f;have G:=get_map (g:=CN) u;have s:=bm u;have F:=hb x s;have z:=I x s;have K:=HD (H:=Oc L t.cols w k) (q:=k) (n:=t.cols.length) f;have e:(Bc t.cols.length λi=>DY (Oc L t.cols w k i)).set (0+((k:Nat):Int).toNat) (Aj (DY (Oc L t.cols w k k)) 0 (eC (eI .u8 45)))=Bc t.cols.length λi=>DY (if i=k then 45 else Oc L t.cols w k i):=JK (c:=45);have A:=HD (H:=λi=>if i=k then 45 else Oc L t.cols w k i) (q:=k) (n:=t.cols.length) f;rw [<-e] at A
  have v:(Bc t.cols.length λi=>DY (if i=k then 45 else Oc L t.cols w k i)).set (0+((k:Nat):Int).toNat) (Aj (DY (if k=k then 45 else Oc L t.cols w k k)) 0 (eC (eI .u8 43)))=Bc t.cols.length λi=>DY (if i=k then 43 else Oc L t.cols w k i):=by
   refine(JK (H:=λi=>if i=k then 45 else Oc L t.cols w k i) (c:=43)).trans ?_;refine BV λi _=>?_;by_cases h:i=k<;>simp [h]
  have a:=Tc (L:=L) (w:=w) u;refine aK ?_;refine aS (aB ?_);(repeat first|((first|refine sM rfl ?_ ?_|refine s4 rfl ‹_› rfl ?_ ?_);first|exact tI|omega)|(refine Av rfl ?_;refine gA rfl ?_;first| (refine gB (λ_ _=>B.ask rfl rfl z) ?_;intro _ r)) |refine aU rfl ?_ |refine Aa ?_);(refine aC rfl ?_ ?_<;>rintro⟨⟩)
  ·(repeat first|(refine sM rfl ?_ ?_;first|exact tI|omega) |refine t4 rfl ‹_› rfl ?_ |refine aU rfl ?_ |refine Aa ?_)
   refine⟨⟨k+1,by omega⟩,by dsimp only;(omega),[0,1],?_⟩;rw [e,v];rw [r] at a;have p:Ns true=43:=rfl;have m:Ns false=45:=rfl;simp only [p,m] at a;simp[cX,zC,b,KM,y,a]
  ·refine aK ?_
   (repeat first|(refine sM rfl ?_ ?_;first|exact tI|omega) |refine aU rfl ?_ |refine Aa ?_);refine⟨⟨k+1,by omega⟩,by dsimp only;(omega),[0,1],?_⟩;rw [e];rw [r] at a;have p:Ns true=43:=rfl;have m:Ns false=45:=rfl;simp only [p,m] at a;simp[cX,zC,b,KM,y,a]
 ·obtain rfl:k=t.cols.length:=by (simp only[oZ] at *;omega)
  rw [Pt];refine aE ?_;(repeat first|refine tM rfl ?_|(refine Av rfl ?_;refine gA rfl ?_;first| refine gQ (QK (marks L t.cols w) rfl rfl (by simp [marks]) (by rw [dw,bI (by simp [marks])])) (by rfl) ?_) |refine aU rfl ?_ |refine Aa ?_);refine aR ⟨_,rfl,rfl⟩
def Bk(L:W->Bool)(t:AW):Nat->List (W×Int)
 | 0=>[]
 | k+1=>if (BL (Bk L t k) (marks L t.cols (t.rows.getD k []))).isSome then Bk L t k else Bk L t k++[(marks L t.cols (t.rows.getD k []),(k:Int))]
structure Sa (ok:W->Prop) (t:AW):Prop where
 ok:∀w∈t.rows,∀x∈t.cols,ok (w++x)
 rb:∀w∈t.rows,w.length<=65536
 cb:∀x∈t.cols,x.length<=65536
 rl:t.rows.length<=4096
 cl:t.cols.length<=4096
theorem EB{c:C}{L:W->Bool}{ok:W->Prop}(r:GW Tryz.prog TB c L ok)(al:Int)(t:AW)(ht:Sa ok t) :
 Spec Tryz.prog TB 148 [] 0 [Ey al c,Cs t] (λx σ nx=>x=.o (.mp 0)/\nx=1/\σ=[(0,.mp (FH (Bk L t t.rows.length)))]):=by
 have n:=Db c r.BI;have w:=ht.rl;refine eN Tryz.func148 rfl (by kernel_rfl) rfl ?_;intro Z b;(repeat first|refine aU rfl ?_);(refine pW rfl ?_ rfl (by rfl);refine C5 rfl rfl ?_);(refine Av rfl ?_;refine BU (λ_ _=>CS rfl rfl rfl) rfl ?_);(repeat first|refine tM rfl ?_ |refine aU rfl ?_ |refine Aa ?_);(refine pW rfl ?_ rfl (by rfl);refine RF ?_);(repeat first|refine sN rfl ?_ |refine tM rfl ?_ |refine aU rfl ?_ |refine Aa ?_);refine aB ?_;refine Al.AS (α:={k:Nat // k<=t.rows.length}) (λ⟨k,e⟩=>[(2,.o (.ptr 0 2 0 0)),(3,.o (.ip (OM t))),(5,.o (.mp 1)),(13,.o (.d (A6 t.rows))),(14,eI .i64 t.rows.length),(15,eI .i64 k)]) (λ⟨k,e⟩=>[(1,.mp (FH (Bk L t k))),(0,.cells 90 2 [[.d (iD al),c]])]) 2 (λ⟨k,e⟩=>t.rows.length - k) (⟨0,by omega⟩) [0,1] (Dn b rfl rfl) (by (simp[cX,zC,b,n,eC,Bk,FH])) ?_;rintro⟨k,e⟩;(try dsimp only);(repeat first|refine s2 rfl λ_ f=>?_ |refine aU rfl ?_ |refine Aa ?_);(refine aC rfl ?_ ?_<;>rintro⟨⟩)
 ·have p:k < t.rows.length:=by (simp only[oZ] at *;omega)
  obtain⟨x,m⟩:=get_some (l:=t.rows) (k:=k) p;have v:=get_map (g:=CN) m;have h:=bm m;have u:=ht.rb x h;have z:=HK r al t x (by have:=ht.cl;omega) (ht.ok x h) (λy s=>by have:=ht.cb y s;omega)
  have q:t.rows.getD k []=x:=by simp [m]
  have a:Bk L t (k+1)=if (BL (Bk L t k) (marks L t.cols x)).isSome then Bk L t k else Bk L t k++[(marks L t.cols x,(k:Int))]:=by
   rw [Bk,q]
  refine aK ?_;refine aS (aB ?_);(repeat first|refine tM rfl ?_ |(refine s4 rfl ‹_› rfl ?_ ?_;omega) |refine s2 rfl λ_ f=>?_|(refine Av rfl ?_;refine gA rfl ?_;first| refine gS (λ_ _=>Bd rfl rfl (by simp [E.BI,C.CI,C.BI,r.BI]) z rfl) ?_|refine gQ (TC rfl rfl rfl) (by rfl) ?_) |refine aU rfl ?_ |refine Aa ?_);(refine aC rfl ?_ ?_<;>rintro⟨⟩)
  ·have j:BL (Bk L t k) (marks L t.cols x)=none:=by simpa using f
   rw [j] at a;(repeat first|refine tM rfl ?_ |refine aU rfl ?_);(refine Av rfl ?_;refine KC ?_ rfl (by rfl);refine XW rfl rfl rfl rfl j ?_);(repeat first|(refine sM rfl ?_ ?_;first|exact tI|omega) |refine aU rfl ?_ |refine Aa ?_);refine⟨⟨k+1,by omega⟩,by dsimp only;(omega),[0,1],?_⟩;simp[cX,zC,b,n,a]
  ·have j:(BL (Bk L t k) (marks L t.cols x)).isSome=true:=by simpa using f
   rw [if_pos j] at a;refine aK ?_;(repeat first|(refine sM rfl ?_ ?_;first|exact tI|omega) |refine aU rfl ?_ |refine Aa ?_);refine⟨⟨k+1,by omega⟩,by dsimp only;(omega),[0,1],?_⟩;simp[cX,zC,b,n,a]
 ·obtain rfl:k=t.rows.length:=by (simp only[oZ] at *;omega)
  refine aE ?_;(repeat first|refine tM rfl ?_ |refine aU rfl ?_ |refine Aa ?_);refine Al.names [1] [(4,.o (.mp 0))] [(0,.mp (FH (Bk L t t.rows.length)))] (by intro i hi;rw [b] at hi;omega) (by simp) (by simp[cX,zC,b]) (by simp[cX,zC,b]) ?_;refine aR ⟨_,rfl,rfl,rfl,rfl⟩
theorem Rr(l:List (W×Int))(p:W×Int)(s:W):BL (l++[p]) s=(BL l s).or (if p.1=s then some p.2 else none):=by
 unfold BL;rw [eQ]
 cases h:l.find? (λp=>decide (p.1=s)) with
 | some q=>simp
 | none=>by_cases a:p.1=s<;>simp [a]
theorem KO{L:W->Bool}{t:AW}{k:Nat}(h:k < t.rows.length):(AD L t)[k]? = some (marks L t.cols (t.rows.getD k [])):=by
 simp [AD,h]
theorem Mf(L:W->Bool)(t:AW):∀k,k<=t.rows.length->∀s,BL (Bk L t k) s=if s∈(AD L t).take k then some (((AD L t).idxOf s:Nat):Int) else none
 | 0,_,s=>by simp [Bk,BL]
 | k + 1, o, s=>by
  have d:=Mf L t k (by omega);have f:=KO (L:=L) (t:=t) (k:=k) (by omega);generalize marks L t.cols (t.rows.getD k [])=x at *
  have i:Bk L t (k+1)=if (BL (Bk L t k) x).isSome then Bk L t k else Bk L t k++[(x,(k:Int))]:=by
   have c:=KO (L:=L) (t:=t) (k:=k) (by omega);rw [f] at c
   injection c with c
   rw [Bk,<-c]
  have a:∀s,s∈(AD L t).take (k+1)↔s∈(AD L t).take k\/s=x:=λs=>by
   rw [bF,f];simp
  rw [i];by_cases g:x∈(AD L t).take k
  ·rw [if_pos (by rw [d x,if_pos g];rfl),d s]
   by_cases b:s∈(AD L t).take k
   ·rw [if_pos b,if_pos ((a s).2 (.inl b))]
   ·rw [if_neg b,if_neg]
    intro h
    rcases(a s).1 h with h|h
    ·exact b h
    ·subst h;exact b g
  ·rw [if_neg (by rw [d x,if_neg g];simp),Rr,d s]
   by_cases b:s∈(AD L t).take k
   ·rw [if_pos b,if_pos ((a s).2 (.inl b))];rfl
   ·rw [if_neg b]
    by_cases m:x=s
    ·subst m
     rw [if_pos ((a x).2 (.inr rfl))]
     have l:(AD L t).idxOf x=k:=by
      have n:k < (AD L t).length:=(am.1 f).1
      have e:AD L t=(AD L t).take k++x::(AD L t).drop (k+1):=by
       rw [<-CU f,cJ]
      rw [e,eU,if_neg g,ep];simp;omega
     simp [l]
    ·have j:s∉(AD L t).take (k+1):=λh=>by
      rcases(a s).1 h with h|h
      ·exact b h
      ·exact m h.symm
     rw [if_neg j];simp [m]
theorem Ok{L:W->Bool}{t:AW}{s:W}:BL (Bk L t t.rows.length) s=if s∈AD L t then some (((AD L t).idxOf s:Nat):Int) else none:=by
 have h:=Mf L t t.rows.length (bJ _) s;have e:(AD L t).take t.rows.length=AD L t:=bI (by simp [AD]);rwa [e] at h
theorem QF{L:W->Bool}{ls:List UInt8}{t:AW}{k j:Nat}{r:W}{l:UInt8}(e:t.rows[k]? = some r)(f:ls[j]? = some l)(n:∀w∈BG ls (t.rows.take k),marks L t.cols w∈AD L t)(m:∀x∈ls.take j,marks L t.cols (r++[x])∈AD L t)
 (i:marks L t.cols (r++[l])∉AD L t):AX L ls t=some (r++[l]):=by
 have q:t.rows=t.rows.take k++r::t.rows.drop (k+1):=by
  rw [<-CU e,cJ]
 have p:ls=ls.take j++l::ls.drop (j+1):=by
  rw [<-CU f,cJ]
 have o:BG ls t.rows=BG ls (t.rows.take k)++((ls.take j).map (λx=>r++[x])++(r++[l])::((ls.drop (j+1)).map (λx=>r++[x])++BG ls (t.rows.drop (k+1)))):=by
  have h:BG ls t.rows=BG ls (t.rows.take k++r::t.rows.drop (k+1)):=congrArg _ q;rw [h];unfold BG;rw [List.flatMap_append,eP];have g:ls.map (λx=>r++[x])=(ls.take j++l::ls.drop (j+1)).map (λx=>r++[x]):=congrArg _ p;rw [g];simp
 unfold AX;rw [o,eQ,eQ]
 have c:(BG ls (t.rows.take k)).find? (λw=>!(AD L t).contains (marks L t.cols w))=none:=cV.2 λw a=>by simpa using n w a
 have b:((ls.take j).map (λx=>r++[x])).find? (λw=>!(AD L t).contains (marks L t.cols w))=none:=cV.2 λw a=>by
  obtain⟨x,d,rfl⟩:=bB.1 a
  simpa using m x d
 rw [c,b];simp [i]
def lb(l:Int):UInt8:=UInt8.ofNat (97+l.toNat)
def AV(al:Int):List UInt8:=(Ac al).map lb
def Ro(o:Option W):E:=match o with
 | some w=>.t [(false,[.d (tD w)]),(false,[.d (bD true)])]
 | none=>.t [(false,[.d (tD [])]),(false,[.d (bD false)])]
theorem SV{l:Int}(a:0<=l):UInt8.ofNat (97+l).toNat=lb l:=by
 unfold lb;congr 1;omega
theorem NK{L:W->Bool}{t:AW}{s:W}:(BL (Bk L t t.rows.length) s).isSome=true↔s∈AD L t:=by
 rw [Ok];by_cases h:s∈AD L t<;>simp [h]
theorem Kw{ls:List UInt8}{t:AW}{k:Nat}{r:W}(h:t.rows[k]? = some r):BG ls (t.rows.take (k+1))=BG ls (t.rows.take k)++ls.map λl=>r++[l]:=by
 unfold BG;rw [bF,h];simp
theorem MG{c:C}{L:W->Bool}{ok:W->Prop}(G:GW Tryz.prog TB c L ok)(al:Int)(t:AW)(ht:Sa ok t)(T:∀w∈t.rows,∀l∈AV al,∀x∈t.cols,ok (w++[l]++x)) :
 Pure Tryz.prog TB 149 [Ey al c,Cs t] (Ro (AX L (AV al) t)):=by
 have v:=Db c G.BI;have S:=ht.rl;have V:(Ac al).length<=6:=AZ al 6;refine eN Tryz.func149 rfl (by kernel_rfl) rfl ?_;intro Z b;(repeat first|refine aU rfl ?_);(refine pW rfl ?_ rfl (by rfl);refine C5 rfl rfl ?_);(refine Av rfl ?_;refine BU (λ_ _=>CS rfl rfl rfl) rfl ?_);(repeat first|refine tM rfl ?_ |refine aU rfl ?_ |refine Aa ?_);(refine pW rfl ?_ rfl (by rfl);refine Bx [] rfl rfl (EB G al t ht) ⟨rfl,by simp,by simp⟩ (by simp [CY,E.AN,C.Bh,C.AN,v,eC]) trivial ?_;rintro x0 M N ⟨rfl,rfl,rfl⟩ _);(repeat first|refine sN rfl ?_ |refine tM rfl ?_ |refine aU rfl ?_ |refine Aa ?_);refine aB ?_;refine Al.AS (α:={k:Nat // k<=t.rows.length/\∀w∈BG (AV al) (t.rows.take k),marks L t.cols w∈AD L t}) (λ⟨k,p,e⟩=>[(2,.o (.ptr 0 2 0 0)),(3,.o (.ip (OM t))),(6,.o (.mp 1)),(18,.o (.d (A6 t.rows))),(19,eI .i64 t.rows.length),(20,eI .i64 k)]) (λ⟨k,p,e⟩=>[(1,.mp (FH (Bk L t t.rows.length))),(0,.cells 90 2 [[.d (iD al),c]])]) 2 (λ⟨k,p,e⟩=>t.rows.length - k) (⟨0,by omega,by simp [BG]⟩) [0,1] (Dn b rfl rfl) (by (simp[cX,zC,b,v,eC,Ab.AN,Bt,FJ])) ?_;rintro⟨k,p,e⟩;(try dsimp only);(repeat first|refine s2 rfl λ_ i=>?_ |refine aU rfl ?_ |refine Aa ?_);(refine aC rfl ?_ ?_<;>rintro⟨⟩)
 ·have I:k < t.rows.length:=by (simp only[oZ] at *;omega)
  obtain⟨r,a⟩:=get_some (l:=t.rows) (k:=k) I;have R:=get_map (g:=CN) a;have u:=bm a;have Q:=ht.rb r u;refine aK ?_;refine aS (aB ?_);(repeat first|refine sN rfl ?_ |refine tM rfl ?_ |(refine s4 rfl ‹_› rfl ?_ ?_;omega) |refine sP rfl (CA al) rfl ?_ |refine aU rfl ?_ |refine Aa ?_);refine aB ?_;refine Al.AS (α:={j:Nat // j<=(Ac al).length/\∀x∈(AV al).take j,marks L t.cols (r++[x])∈AD L t}) (λ⟨j,q,f⟩=>[(2,.o (.ptr 0 2 0 0)),(3,.o (.ip (OM t))),(6,.o (.mp 1)),(18,.o (.d (A6 t.rows))),(19,eI .i64 t.rows.length),(20,eI .i64 k),(8,eT r),(26,Ag (Ac al)),(27,eI .i64 (Ac al).length),(28,eI .i64 j)]) (λ⟨j,q,f⟩=>[(1,.mp (FH (Bk L t t.rows.length))),(0,.cells 90 2 [[.d (iD al),c]])]) 2 (λ⟨j,q,f⟩=>(Ac al).length - j) (⟨0,by omega,by simp⟩) [0,1] (Dn b rfl rfl) (by (simp[cX,zC,b,v])) ?_;rintro⟨j,q,f⟩;(try dsimp only);(repeat first|refine s2 rfl λ_ i=>?_ |refine aU rfl ?_ |refine Aa ?_);(refine aC rfl ?_ ?_<;>rintro⟨⟩)
  ·have B:j < (Ac al).length:=by (simp only[oZ] at *;omega)
   obtain⟨l,K⟩:=get_some (l:=Ac al) (k:=j) B;have hl':=get_map (g:=Bp) K;have z:=AK (bm K)
   have n:(AV al)[j]? = some (lb l):=by simp [AV,K]
   have J:=bm n;have U:=HK G al t (r++[lb l]) (by have:=ht.cl;omega) (λx a=>T r u _ J x a) (λy P=>by have:=ht.cb y P;simp;omega);refine aK ?_;refine aS (aB ?_);(repeat first|(refine sM rfl ?_ ?_;first|exact tI|omega|simp only[oZ] at *;omega) |(refine s4 rfl ‹_› rfl ?_ ?_;omega) |refine sP rfl (Du l z.1 (by omega)) rfl ?_|(refine Av rfl ?_;refine gA rfl ?_;first| refine gS (λ_ _=>PB rfl (by omega) (by omega)) ?_) |refine aU rfl ?_ |refine Aa ?_);rw [SV z.1];(repeat first|refine tM rfl ?_ |refine s2 rfl λ_ i=>?_|(refine Av rfl ?_;refine gA rfl ?_;first| refine gS (λ_ _=>Bd rfl rfl (by simp [E.BI,C.CI,C.BI,G.BI]) U rfl) ?_|refine gQ (TC rfl rfl rfl) (by rfl) ?_) |refine aU rfl ?_ |refine Aa ?_);(refine aC rfl ?_ ?_<;>rintro⟨⟩)
   ·have hno:marks L t.cols (r++[lb l])∉AD L t:=λh=>by
     rw [NK.2 h] at i;cases i
    (repeat first|refine tM rfl ?_ |refine aU rfl ?_ |refine Aa ?_);refine aR ⟨_,rfl,?_⟩;rw [QF a n e f hno];rfl
   ·have s:marks L t.cols (r++[lb l])∈AD L t:=NK.1 (by simpa using i)
    have F:∀x∈(AV al).take (j+1),marks L t.cols (r++[x])∈AD L t:=λx a=>by
     rw [bF,n] at a
     rcases bE.1 a with a|a
     ·exact f x a
     ·simp at a;subst a;exact s
    refine aK ?_;(repeat first|(refine sM rfl ?_ ?_;first|exact tI|omega) |refine aU rfl ?_ |refine Aa ?_);refine⟨⟨j+1,by omega,F⟩,by dsimp only;(omega),[0,1],?_⟩;simp[cX,zC,b,v]
  ·obtain rfl:j=(Ac al).length:=by (simp only[oZ] at *;omega)
   have A:∀w∈BG (AV al) (t.rows.take (k+1)),marks L t.cols w∈AD L t:=λw m=>by
    rw [Kw a] at m
    rcases bE.1 m with m|m
    ·exact e w m
    ·obtain⟨x,H,rfl⟩:=bB.1 m
     exact f x (by rw [bI (by simp [AV])];exact H)
   refine aE ?_;(repeat first|(refine sM rfl ?_ ?_;first|exact tI|omega) |refine aU rfl ?_ |refine Aa ?_);refine⟨⟨k+1,by omega,A⟩,by dsimp only;(omega),[0,1],?_⟩;simp[cX,zC,b,v]
 ·obtain rfl:k=t.rows.length:=by (simp only[oZ] at *;omega)
  have hno:AX L (AV al) t=none:=cV.2 λw m=>by
   have:=e w (by rw [bO];exact m)
   simpa using this
  refine aE ?_;(repeat first|refine tM rfl ?_ |refine aU rfl ?_ |refine Aa ?_);refine aR ⟨_,rfl,?_⟩;rw [hno];rfl
theorem Hw(l:List W)(h:l.length<=1048576):Spec Tryz.prog TB 176 [] 0 [BO l] (λx σ nx=>x=.o (.arr 0 1 0 l.length)/\nx=1/\σ=[(0,.cells 9 1 (l.map CZ))]):=by
 refine eN Tryz.func176 rfl (by kernel_rfl) rfl ?_;intro Z b;(repeat first|refine aU rfl ?_);(refine Av rfl ?_;refine BU (λ_ _=>Bw rfl) rfl ?_);(repeat first|refine tM rfl ?_ |refine aU rfl ?_ |refine Aa ?_);(refine pW rfl ?_ rfl (by rfl);refine Te rfl ?_;intro e c);(repeat first|refine Aa ?_);(refine aC rfl ?_ ?_<;>rintro⟨⟩)
 ·obtain rfl:l=[]:=by simpa using c rfl
  (repeat first|refine aU rfl ?_);(refine pW rfl ?_ rfl (by rfl);refine Ku 1 9 ?_);(repeat first|refine Aa ?_);refine aR ⟨_,rfl,rfl,rfl,rfl⟩
 ·refine aK ?_
  (repeat first|refine aU rfl ?_);(refine pW rfl ?_ rfl (by rfl);refine Cv rfl rfl rfl rfl (by simp) (by rfl) (by rfl) (by rfl) (by rfl) ?_);(repeat first|refine tM rfl ?_);(refine pW rfl ?_ rfl (by rfl);refine AT rfl rfl rfl (by first| (simp;done)|(simp;(omega))) rfl (by intro r d;simp at d;obtain⟨a,_,rfl⟩:=d;rfl) (by rfl) (bn rfl) (by simp;omega) ?_);(repeat first|refine tM rfl ?_ |refine Aa ?_);refine Al.names [1] [(2,.o (.arr 0 1 0 l.length))] [(0,.cells 9 1 (l.map CZ))] (by intro i hi;rw [b] at hi;omega) (by simp) (by simp[cX,zC,b]) (by simp[cX,zC,b]) ?_;refine aR ⟨_,rfl,rfl,rfl,rfl⟩
theorem SM(l:List W)(s:W):Pure Tryz.prog TB 220 [BO l,eT s] (eI .i64 (if s∈l then (l.idxOf s:Int) else -1)):=by
 refine eN Tryz.func220 rfl (by kernel_rfl) rfl ?_;intro Z a;refine Al.bound 0 rfl λm=>?_;have p:=m (l.map CN) .refl;(repeat first|refine sN rfl ?_ |refine tM rfl ?_ |refine aU rfl ?_ |refine Aa ?_);refine aB ?_;refine Al.AS (α:={k:Nat // k<=l.length/\s∉l.take k}) (λ⟨k,i,b⟩=>[(0,BO l),(1,eT s),(7,eI .i64 l.length),(8,eI .i64 k)]) (λ⟨k,i,b⟩=>[]) 0 (λ⟨k,i,b⟩=>l.length - k) (⟨0,by omega,by simp⟩) [] (Dn a rfl rfl) (by (simp[cX,zC,a])) ?_;rintro⟨k,i,b⟩;(try dsimp only);(repeat first|refine s2 rfl λ_ c=>?_ |refine aU rfl ?_ |refine Aa ?_);(refine aC rfl ?_ ?_<;>rintro⟨⟩)
 ·have h:k < l.length:=by (simp only[oZ] at *;omega)
  obtain⟨x,d⟩:=get_some (l:=l) (k:=k) h;have n:=get_map (g:=CN) d;refine aK ?_;refine aS (aB ?_);(repeat first|refine tM rfl ?_ |(refine s4 rfl ‹_› rfl ?_ ?_;omega) |refine s2 rfl λ_ c=>?_ |refine aU rfl ?_ |refine Aa ?_);(refine aC rfl ?_ ?_<;>rintro⟨⟩)
  ·have j:s=x:=by (simp only[oZ] at *;omega)
   subst j;(repeat first|refine tM rfl ?_ |refine aU rfl ?_ |refine Aa ?_);refine aR ⟨_,rfl,?_⟩;have o:s∈l:=bm d
   have hi:l.idxOf s=k:=by
    have e:l=l.take k++s::l.drop (k+1):=by rw [<-CU d,cJ]
    rw [e,eU,if_neg b,ep];simp;omega
   rw [if_pos o,hi]
  ·have j:¬s=x:=by simpa using c
   have f:s∉l.take (k+1):=by
    rw [bF,d];simp [b,j]
   refine aK ?_;(repeat first|(refine sM rfl ?_ ?_;first|exact tI|simp only[oZ] at *;omega) |refine aU rfl ?_ |refine Aa ?_);refine⟨⟨k+1,by omega,f⟩,by dsimp only;(omega),[],?_⟩;simp[cX,zC,a]
 ·obtain rfl:k=l.length:=by (simp only[oZ] at *;omega)
  rw [bO] at b;refine aE ?_;(repeat first|refine tM rfl ?_ |refine aU rfl ?_ |refine Aa ?_);refine aR ⟨_,rfl,?_⟩;rw [if_neg b]
theorem IZ(l:List W)(s:W):Pure Tryz.prog TB 146 [BO l,eT s] (eB (decide (s∈l))):=by
 refine eN Tryz.func146 rfl (by kernel_rfl) rfl ?_;intro Z b;(repeat' first|refine tA rfl ?_ |refine s2 rfl λ_ a=>?_ |refine sP rfl (SM l s) rfl ?_ |refine aU rfl ?_ |refine Aa ?_|(refine aC rfl ?_ ?_<;>rintro⟨⟩)|refine aK ?_|refine aE ?_|refine aB ?_|refine aR ⟨_,rfl,?_⟩)
 all_goals (show E.o _=E.o _;congr;subst a;by_cases h:s∈l<;>simp [h])
def Ew(t:AW)(Nr:W):Option AW:=if t.cols.length=20\/Nr∈t.cols then none else some ⟨t.rows,t.cols++[Nr]⟩
def Fy(o:Option AW):E:=match o with
 | some t=>.t [(true,[.d (A6 t.rows),.d (A6 t.cols)]),(false,[.d (bD true)])]
 | none=>.t [(true,[.d (.l []),.d (.l [])]),(false,[.d (bD false)])]
theorem MB(t:AW)(Nr:W)(g:t.rows.length<=4096)(p:t.cols.length<=4096):Pure Tryz.prog TB 203 [Cs t,eT Nr] (Fy (Ew t Nr)):=by
 have m:=Hw (TB:=TB) t.rows (by omega);have k:=Hw (TB:=TB) t.cols (by omega);refine AR.ED (AR.ofM 2 (bJ _) Tryz.func203 rfl rfl (by kernel_rfl) (bn rfl) ?_);intro Z a;(repeat first|refine aU rfl ?_);(refine Av rfl ?_;refine BU (λ_ _=>CS rfl rfl rfl) rfl ?_);(repeat first|refine sN rfl ?_ |refine tM rfl ?_ |refine s2 rfl λ_ b=>?_ |(refine sC rfl (IZ t.cols Nr) ?_;intro _ b) |refine s3 rfl ?_ ?_<;>rintro rfl |refine aU rfl ?_ |refine Aa ?_)
 ·(refine aC rfl ?_ ?_<;>rintro⟨⟩)
  have c:Ew t Nr=none:=by unfold Ew;rw [if_pos (.inl (by (simp only[oZ] at *;omega)))]
  (repeat first|refine tM rfl ?_|(refine Av rfl ?_;refine gA rfl ?_;first| refine gS (λ_ _=>AI rfl rfl (by rfl) (by rfl)) ?_) |refine aU rfl ?_ |refine Aa ?_);refine Al.freeze [0] [(4,.o (.ip [.l [],.l []])),(5,eB false)] ⟨⟨_,rfl,.o (.ptr (by simp) rfl rfl rfl)⟩,⟨_,rfl,.AU⟩,trivial⟩ ?_;refine aR ⟨_,rfl,?_⟩;rw [c];rfl
 (repeat first|refine tM rfl ?_ |(refine sC rfl (IZ t.cols Nr) ?_;intro _ b) |refine Aa ?_);(refine aC rfl ?_ ?_<;>rintro⟨⟩)
 ·have c:Ew t Nr=none:=by unfold Ew;rw [if_pos (.inr (by (simp only[oZ] at *;omega)))]
  (repeat first|refine tM rfl ?_|(refine Av rfl ?_;refine gA rfl ?_;first| refine gS (λ_ _=>AI rfl rfl (by rfl) (by rfl)) ?_) |refine aU rfl ?_ |refine Aa ?_);refine Al.freeze [0] [(4,.o (.ip [.l [],.l []])),(5,eB false)] ⟨⟨_,rfl,.o (.ptr (by simp) rfl rfl rfl)⟩,⟨_,rfl,.AU⟩,trivial⟩ ?_;refine aR ⟨_,rfl,?_⟩;rw [c];rfl
 ·refine aK ?_
  refine aS ?_;refine rG (ak [0,1,3,4,6,7,2,5,8,9,10,11] [2,5,8,10] [0,1,3,4,6,7]) (by kernel_rfl) ?_;(repeat first|refine tA rfl ?_);(refine pW rfl ?_ rfl (by rfl);refine Bx [] rfl rfl m ⟨rfl,by simp,by simp⟩ rfl trivial ?_;rintro n e f ⟨rfl,rfl,rfl⟩ _);(refine pW rfl ?_ rfl (by rfl);refine Bx [] rfl rfl k ⟨rfl,by simp,by simp⟩ rfl trivial ?_;rintro n e f ⟨rfl,rfl,rfl⟩ _);(refine pW rfl ?_ rfl (by rfl);refine AT rfl rfl rfl (by first| (simp;done)|(simp;(omega))) rfl (by intro r g;simp at g;subst g;rfl) (by rfl) (bn rfl) (by simp;omega) ?_);(repeat first|refine tA rfl ?_|(refine Av rfl ?_;refine gA rfl ?_;first| refine gS (λ_ _=>AI rfl rfl (by rfl) (by rfl)) ?_) |refine Aa ?_)
  have j:Nr∉t.cols:=by simpa using b
  have c:Ew t Nr=some ⟨t.rows,t.cols++[Nr]⟩:=by
   unfold Ew;rw [if_neg];rintro(h|h)
   ·(simp only[oZ] at *;omega)
   ·exact j h
  refine Al.names [0,1,3] [(4,.o (.ptr 0 2 0 0)),(5,eB true)] [(0,.cells 47 2 [[.arr 1 1 0 t.rows.length,.arr 2 1 0 (t.cols.length+1)]]),(1,.cells 9 1 (t.rows.map CZ)),(2,.cells 9 1 ((t.cols++[Nr]).map CZ))] (by intro i hi;rw [a] at hi;omega) (by simp) (by simp[cX,zC,a,FJ]) (by simp[cX,zC,a,FJ,Ab.AN,Bt,BA,eC,Aj]) ?_;refine Al.JA [1,2] [(4,.o (.ptr 0 2 0 0)),(5,eB true)] [(0,.cells 47 2 [[.d (A6 t.rows),.d (A6 (t.cols++[Nr]))]])] ⟨⟨_,rfl,.AU⟩,⟨_,rfl,.AU⟩,trivial⟩ ⟨⟨_,rfl,by simp,.cons (.full (by simp) rfl (by simp [bC]) (by simp)) (.cons (.full (by simp) rfl (by simp [bC]) (by simp)) .nil)⟩,trivial⟩ ?_;refine Al.freeze [0] [(4,.o (.ip [A6 t.rows,A6 (t.cols++[Nr])])),(5,eB true)] ⟨⟨_,rfl,.o (.ptr (by simp) rfl rfl rfl)⟩,⟨_,rfl,.AU⟩,trivial⟩ ?_;refine aR ⟨_,rfl,?_⟩;rw [c];rfl
structure Ep (al:Int) (b:Nat) (t:AW):Prop where
 onR:∀w∈t.rows,AH (AV al) w/\w.length<=b
 onC:∀x∈t.cols,AH (AV al) x/\x.length<=20000
 rl:t.rows.length<=12
 cl:t.cols.length<=20
def GX(ok:W->Prop)(al:Int):Prop:=∀w,AH (AV al) w->w.length<=50000->ok w
def Sq(ls:List UInt8)(t:AW)(v:W):Prop:=∃r∈t.rows,∃m:W,(m=[]\/∃l∈ls,m=[l])/\∃x:W,(x=[]\/x∈t.cols)/\v=r++m++x
def Hp(ok:W->Prop)(ls:List UInt8)(t:AW):Prop:=∀v,Sq ls t v->ok v
def Fz(L:W->Bool)(ls:List UInt8):Nat->AW->List AW
 | 0,t=>[t]
 | n+1,t=>t::match AX L ls t with
  | none=>[]
  | some w=>if t.rows.length=12 then [] else Fz L ls n ⟨t.rows++[w],t.cols⟩
theorem Pe{L:W->Bool}{ls:List UInt8}{n:Nat}{t:AW}:t∈Fz L ls n t:=by cases n<;>simp [Fz]
theorem Ep.VF{ok:W->Prop}{al:Int}{b:Nat}{t:AW}(h:Ep al b t)(d:Hp ok (AV al) t)(hb:b<=20100):Sa ok t/\∀w∈t.rows,∀l∈AV al,∀x∈t.cols,ok (w++[l]++x):=
  ⟨⟨λw c x a=>d _ ⟨w,c,[],.inl rfl,x,.inr a,by simp⟩,λw c=>by have:=(h.onR w c).2;omega,λx a=>by have:=(h.onC x a).2;omega,by have:=h.rl;omega,by have:=h.cl;omega⟩,
   λw c l e x a=>d _ ⟨w,c,[l],.inr ⟨l,e,rfl⟩,x,.inr a,rfl⟩⟩
theorem Ep.on{ok:W->Prop}{al:Int}{b:Nat}{t:AW}(h:Ep al b t)(i:GX ok al)(hb:b<=20100):Hp ok (AV al) t:=by
 rintro v ⟨r,e,m,f,x,d,rfl⟩;have n:=h.onR r e
 have k:AH (AV al) m/\m.length<=1:=by
  rcases f with rfl|⟨l,g,rfl⟩
  ·exact⟨λc a=>by simp at a,by simp⟩
  ·exact⟨λc a=>by simp at a;subst a;exact g,by simp⟩
 have j:AH (AV al) x/\x.length<=20000:=by
  rcases d with rfl|d
  ·exact⟨λc a=>by simp at a,by simp⟩
  ·exact h.onC x d
 refine i _ (λc a=>?_) (by simp;omega);simp only [bE] at a
 rcases a with (a|a)|a
 ·exact n.1 c a
 ·exact k.1 c a
 ·exact j.1 c a
theorem Ep.push{L:W->Bool}{al:Int}{b:Nat}{t:AW}{w:W}(h:Ep al b t)(g:AX L (AV al) t=some w)(i:t.rows.length < 12):Ep al (b+1) ⟨t.rows++[w],t.cols⟩:=by
 obtain⟨⟨r,f,l,e,rfl⟩,_⟩:=Hj g;refine⟨λu a=>?_,h.onC,by simp;omega,h.cl⟩
 rcases bE.1 a with a|a
 ·have:=h.onR u a;exact⟨this.1,by omega⟩
 ·simp at a
  subst a;have:=h.onR r f;refine⟨λc d=>?_,by simp;omega⟩
  rcases bE.1 d with d|d
  ·exact this.1 c d
  ·simp at d;subst d;exact e
theorem Ep.grow{L:W->Bool}{al:Int}:∀ {n b:Nat} {t y:AW},Ep al b t->y∈Fz L (AV al) n t->Ep al (b+n) y
 | 0,b,t,y,h,a=>by simp [Fz] at a;subst a;exact h
 | n + 1, b,t,y,h,a=>by
  have f:∀ {b':Nat} {z:AW},b'<=b+(n+1)->Ep al b' z->Ep al (b+(n+1)) z:=λhb c=>⟨λw e=>⟨(c.onR w e).1,bT (c.onR w e).2 hb⟩,c.onC,c.rl,c.cl⟩
  unfold Fz at a
  rcases cm.1 a with rfl|a
  ·exact f (by omega) h
  ·cases d:AX L (AV al) t with
   | none=>rw [d] at a;simp at a
   | some w=>
    rw [d] at a;dsimp only at a;split at a
    ·simp at a
    ·have:=h.rl
     exact f (by omega) (Ep.grow (h.push d (by omega)) a)
theorem Ep.ax{L:W->Bool}{ok:W->Prop}{al:Int}{b:Nat}{t:AW}(h:Ep al b t)(c:GX ok al)(hb:b<=20000):∀y∈Fz L (AV al) 13 t,Hp ok (AV al) y:=λy a=>(h.grow a).on c (by omega)
theorem FV{c:C}{L:W->Bool}{ok:W->Prop}(K:GW Tryz.prog TB c L ok)(al:Int)(t:AW)(hf:∀y∈Fz L (AV al) 13 t,Hp ok (AV al) y)(ht:Ep al 20000 t) :
 Pure Tryz.prog TB 103 [Ey al c,Cs t] (Fy (A2 L (AV al) 13 t)):=by
 have v:=Db c K.BI;have V:=ht.rl;have hcl:=ht.cl;have J:=Hw (TB:=TB) t.rows (by omega);have I:=Hw (TB:=TB) t.cols (by omega);refine AR.ED (AR.ofM 2 (bJ _) Tryz.func103 rfl rfl (by kernel_rfl) (bn rfl) ?_);intro Z b;(repeat first|refine aU rfl ?_);(refine pW rfl ?_ rfl (by rfl);refine C5 rfl rfl ?_);(refine Av rfl ?_;refine BU (λ_ _=>CS rfl rfl rfl) rfl ?_);(repeat first|refine tM rfl ?_ |refine aU rfl ?_ |refine Aa ?_);refine R.WQ [(7,3),(0,2),(1,2),(3,2),(4,2),(2,1),(5,1),(6,0),(8,5)] mixed (by kernel_rfl) rfl (by kernel_rfl) ?_;(repeat ((refine R.Av rfl ?_;first|(refine R.yQ (md:=false) rfl rfl rfl ?_ ?_;exact tI) |refine R.yP rfl rfl rfl rfl ?_ )));(refine R.Av rfl ?_;refine R.Py (λ_=>?_) rfl rfl;refine Bx [] rfl rfl J ⟨rfl,by simp,by simp⟩ rfl trivial ?_;rintro P F G ⟨rfl,rfl,rfl⟩ _);(refine R.Av rfl ?_;refine R.Py (λ_=>?_) rfl rfl;refine Bx [] rfl rfl I ⟨rfl,by simp,by simp⟩ rfl trivial ?_;rintro P F G ⟨rfl,rfl,rfl⟩ _);(repeat ((refine R.Av rfl ?_;first|refine R.yA rfl rfl rfl rfl ?_|refine R.BU (λ_ _ _=>AI rfl rfl (by rfl) (by rfl)) rfl rfl ?_ )));refine R.Ws ?_;refine aB ?_
 have Q:∀x:AW,AX L (AV al) x=none\/∃w,AX L (AV al) x=some w:=λx=>by cases AX L (AV al) x<;>simp
 refine Al.AS (α:={p:Nat×AW // p.1<=13/\13<=p.1+p.2.rows.length/\Ep al (20000+p.2.rows.length) p.2/\A2 L (AV al) 13 t=A2 L (AV al) p.1 p.2/\∀y∈Fz L (AV al) p.1 p.2,Hp ok (AV al) y}) (λ⟨⟨m,u⟩,B,f,j,q,e⟩=>[(2,.o (.ptr 0 2 0 0)),(4,.o (.ptr 1 2 0 0)),(6,.o (.ptr 4 2 0 0))]) (λ⟨⟨m,u⟩,B,f,j,q,e⟩=>[(0,.cells 90 2 [[.d (iD al),c]]),(1,.cells 47 2 [[.d (.l []),.d (.l [])]]),(2,.cells 9 1 (u.rows.map CZ)),(3,.cells 9 1 (u.cols.map CZ)),(4,.cells 47 2 [[.arr 2 1 0 u.rows.length,.arr 3 1 0 u.cols.length]])]) 5 (λ⟨⟨m,u⟩,B,f,j,q,e⟩=>m) (⟨(13,t),by simp,by simp,⟨λw N=>⟨(ht.onR w N).1,by have:=(ht.onR w N).2;omega⟩,ht.onC,ht.rl,ht.cl⟩,rfl,hf⟩) [0,1,2,3,4] (Dn b rfl rfl) (by (simp[cX,zC,b,v,eC,Ab.AN,Bt,FJ,BA,Aj])) ?_;rintro⟨⟨m,u⟩,B,f,j,q,e⟩;(try dsimp only);dsimp only at B f j q e
 have s:∀l:List W,((l.map CZ).drop 0).take l.length=(l.map CN).map (λr=>r.map C.d):=λl=>by rw [dw,bI (by simp)];simp [bC]
 have T:=j.rl;have U:=j.cl;have n:=j.VF (e u Pe) (by omega);have g:=MG (TB:=TB) K al u n.1 n.2
 have A:Vw [(0,.cells 90 2 [[.d (iD al),c]]),(1,.cells 47 2 [[.d (.l []),.d (.l [])]]),(2,.cells 9 1 (u.rows.map CZ)),(3,.cells 9 1 (u.cols.map CZ)),(4,.cells 47 2 [[.arr 2 1 0 u.rows.length,.arr 3 1 0 u.cols.length]])] [.a [.d (iD al),c],.a [.arr 2 1 0 u.rows.length,.arr 3 1 0 u.cols.length]] [Ey al c,Cs u]:=
  .cons (.cons (.pure rfl) (.cons (.pure K.BI) .nil)) (.cons (.cons (.arr rfl (by simp) (s _)) (.cons (.arr rfl (by simp) (s _)) .nil)) .nil)
 refine aB ?_
 rcases Q u with k|⟨w,k⟩
 ·rw [k] at g
  (repeat first|refine tM rfl ?_ |refine s2 rfl λ_ h=>?_|(refine Av rfl ?_;refine gA rfl ?_;first| refine gQ (Fs rfl rfl (A) (g) rfl) rfl ?_) |refine aU rfl ?_ |refine Aa ?_);(refine aC rfl ?_ ?_<;>rintro⟨⟩)
  ·(repeat first|refine tM rfl ?_ |refine aU rfl ?_ |refine Aa ?_)
   have z:A2 L (AV al) 13 t=some u:=by
    rw [q]
    obtain⟨m',rfl⟩:∃m',m=m'+1:=⟨m - 1,by omega⟩
    simp [A2,k]
   refine Al.names [1,2,3] [(4,.o (.ptr 0 2 0 0)),(5,eB true)] [(0,.cells 47 2 [[.arr 1 1 0 u.rows.length,.arr 2 1 0 u.cols.length]]),(1,.cells 9 1 (u.rows.map CZ)),(2,.cells 9 1 (u.cols.map CZ))] (by intro i hi;rw [b] at hi;omega) (by simp) (by simp[cX,zC,b,FJ]) (by simp[cX,zC,b,FJ,Ab.AN,Bt,BA,eC,Aj]) ?_;refine Al.JA [1,2] [(4,.o (.ptr 0 2 0 0)),(5,eB true)] [(0,.cells 47 2 [[.d (A6 u.rows),.d (A6 u.cols)]])] ⟨⟨_,rfl,.AU⟩,⟨_,rfl,.AU⟩,trivial⟩ ⟨⟨_,rfl,by simp,.cons (.full (by simp) rfl (by simp [bC]) (by simp)) (.cons (.full (by simp) rfl (by simp [bC]) (by simp)) .nil)⟩,trivial⟩ ?_;refine Al.freeze [0] [(4,.o (.ip [A6 u.rows,A6 u.cols])),(5,eB true)] ⟨⟨_,rfl,.o (.ptr (by simp) rfl rfl rfl)⟩,⟨_,rfl,.AU⟩,trivial⟩ ?_;refine aR ⟨_,rfl,?_⟩;rw [z];rfl
  ·simp at h
 ·rw [k] at g
  (repeat first|refine tM rfl ?_ |refine s2 rfl λ_ h=>?_|(refine Av rfl ?_;refine gA rfl ?_;first| refine gQ (Fs rfl rfl (A) (g) rfl) rfl ?_) |refine aU rfl ?_ |refine Aa ?_);(refine aC rfl ?_ ?_<;>rintro⟨⟩)
  ·simp at h
  ·refine aK ?_
   (repeat first|refine tM rfl ?_ |refine s2 rfl λ_ h=>?_ |refine aU rfl ?_ |refine Aa ?_);(refine aC rfl ?_ ?_<;>rintro⟨⟩)
   ·(repeat first|refine tM rfl ?_|(refine Av rfl ?_;refine gA rfl ?_;first| refine gS (λ_ _=>AI rfl rfl (by rfl) (by rfl)) ?_) |refine aU rfl ?_ |refine Aa ?_)
    have z:A2 L (AV al) 13 t=none:=by
     have M:u.rows.length=12:=by (simp only[oZ] at *;omega)
     rw [q]
     obtain⟨m',rfl⟩:∃m',m=m'+1:=⟨m - 1,by omega⟩
     simp [A2,k,M]
    refine Al.freeze [1] [(4,.o (.ip [.l [],.l []])),(5,eB false)] ⟨⟨_,rfl,.o (.ptr (by simp) rfl rfl rfl)⟩,⟨_,rfl,.AU⟩,trivial⟩ ?_;refine aR ⟨_,rfl,?_⟩;rw [z];rfl
   ·refine aK ?_
    have H:u.rows.length < 12:=by (simp only[oZ] at *;omega)
    obtain⟨m',rfl⟩:∃m',m=m'+1:=⟨m - 1,by omega⟩
    have z:A2 L (AV al) 13 t=A2 L (AV al) m' ⟨u.rows++[w],u.cols⟩:=by
     rw [q]
     conv=>lhs;unfold A2
     rw [k];dsimp only;rw [if_neg (by omega)]
    have hp:=j.push k H;(repeat first|refine tA rfl ?_ |refine aU rfl ?_);(refine pW rfl ?_ rfl (by rfl);refine AT rfl rfl rfl (by first| (simp;done)|(simp;(omega))) rfl (by intro r v;simp at v;subst v;rfl) (by rfl) (bn rfl) (by simp;omega) ?_);(repeat first|refine tM rfl ?_ |refine Aa ?_);refine⟨⟨⟨m',⟨u.rows++[w],u.cols⟩⟩,by dsimp only;omega,by simp;omega,by simpa [cy] using hp,z,λy S=>e y (by unfold Fz;rw [k];dsimp only;rw [if_neg (by omega)];exact cC _ S)⟩,by dsimp only;(omega),[0,1,5,3,4],?_⟩;simp[cX,zC,b,v,eC,Ab.AN,Bt,FJ,BA,Aj]
def Bl:AW:=⟨[[]],[[]]⟩
theorem IN(al:Int):Ep al 20000 Bl:=by
 refine⟨λw a=>?_,λw a=>?_,by decide,by decide⟩<;>(simp [Bl] at a;subst a;exact⟨λc b=>by simp at b,by simp⟩)
theorem MV{c:C}{L:W->Bool}{ok:W->Prop}(b:GW Tryz.prog TB c L ok)(al:Int)(e:∀y∈Fz L (AV al) 13 Bl,Hp ok (AV al) y) :
 Pure Tryz.prog TB 121 [Ey al c] (Fy (A2 L (AV al) 13 Bl)):=by
 have f:=Db c b.BI;have h:=FV b al Bl e (IN al);refine AR.ED (AR.ofM 2 (bJ _) Tryz.func121 rfl rfl (by kernel_rfl) (bn rfl) ?_);intro Z d;generalize A2 L (AV al) 13 Bl=o at h |-;(repeat first|refine aU rfl ?_);(refine pW rfl ?_ rfl (by rfl);refine C5 rfl rfl ?_);(repeat first|refine tM rfl ?_ |refine aU rfl ?_ |refine Aa ?_)
 have a:([Ey al c,Cs Bl].all E.BI && C.CI [])=true:=by simp [Ey,Cs,E.BI,C.CI,C.BI,b.BI]
 cases o with
 | none=>
  (repeat first|refine tA rfl ?_|(refine Av rfl ?_;refine gA rfl ?_;first| refine gS (λ_ _=>Bd rfl rfl a h rfl) ?_|refine gS (λ_ _=>AI rfl rfl (by rfl) (by rfl)) ?_) |refine Aa ?_);refine Al.freeze [1] [(2,.o (.ip [.l [],.l []])),(3,eB false)] ⟨⟨_,rfl,.o (.ptr (by simp) rfl rfl rfl)⟩,⟨_,rfl,.AU⟩,trivial⟩ ?_;refine aR ⟨_,rfl,?_⟩;rfl
 | some u=>
  (repeat first|refine tA rfl ?_|(refine Av rfl ?_;refine gA rfl ?_;first| refine gS (λ_ _=>Bd rfl rfl a h rfl) ?_|refine gS (λ_ _=>AI rfl rfl (by rfl) (by rfl)) ?_) |refine Aa ?_);refine Al.freeze [1] [(2,.o (.ip [A6 u.rows,A6 u.cols])),(3,eB true)] ⟨⟨_,rfl,.o (.ptr (by simp) rfl rfl rfl)⟩,⟨_,rfl,.AU⟩,trivial⟩ ?_;refine aR ⟨_,rfl,?_⟩;rfl
theorem I9{c:C}{L:W->Bool}{ok:W->Prop}(b:GW Tryz.prog TB c L ok)(al:Int)(a:GX ok al) :
 Pure Tryz.prog TB 121 [Ey al c] (Fy (A2 L (AV al) 13 Bl)):=MV b al ((IN al).ax a (by omega))
def AG(L:W->Bool)(al:Int)(t:AW):A5:=⟨al,t.rows.map λr=>(Ac al).map λl=>((Cg L t (r++[lb l]):Nat):Int),t.rows.map L⟩
theorem N8{L:W->Bool}{al:Int}{t:AW}(b:AX L (AV al) t=none){r:W}(a:r∈t.rows){l:Int}(d:l∈Ac al) :
 (BL (Bk L t t.rows.length) (marks L t.cols (r++[lb l]))).getD 0=((Cg L t (r++[lb l]):Nat):Int):=by
 have c:marks L t.cols (r++[lb l])∈AD L t:=by
  have:=cV.1 b (r++[lb l]) (by
   unfold BG
   exact df.2 ⟨r,a,bB.2 ⟨lb l,bB.2 ⟨l,d,rfl⟩,rfl⟩⟩)
  simpa using this
 rw [Ok,if_pos c];rfl
theorem GH{c:C}{L:W->Bool}{ok:W->Prop}(u:GW Tryz.prog TB c L ok)(al:Int)(t:AW)(J:Hp ok (AV al) t)(ht:Ep al 20012 t)(S:AX L (AV al) t=none) :
 Pure Tryz.prog TB 65 [Ey al c,Cs t] (A9 (AG L al t)):=by
 have a:=Db c u.BI;have Q:=ht.rl;have hcl:=ht.cl;have V:(Ac al).length<=6:=AZ al 6;have h:=ht.VF J (by omega)
 have T:(AG L al t).nx.length=t.rows.length:=by simp [AG]
 have hal:(AG L al t).ac.length=t.rows.length:=by simp [AG]
 refine AR.ED (AR.ofM 3 (bJ _) Tryz.func65 rfl rfl (by kernel_rfl) (bn rfl) ?_);intro Z e;(repeat first|refine aU rfl ?_);(refine pW rfl ?_ rfl (by rfl);refine C5 rfl rfl ?_);(refine Av rfl ?_;refine BU (λ_ _=>CS rfl rfl rfl) rfl ?_);(repeat first|refine tA rfl ?_ |refine aU rfl ?_ |refine Aa ?_);(refine pW rfl ?_ rfl (by rfl);refine Bx [] rfl rfl (EB u al t h.1) ⟨rfl,by simp,by simp⟩ (by simp [CY,E.AN,C.Bh,C.AN,a,eC]) trivial ?_;rintro x0 K M ⟨rfl,rfl,rfl⟩ _);(repeat first|refine tA rfl ?_ |refine aU rfl ?_ |refine Aa ?_);(refine pW rfl ?_ rfl (by rfl);refine IC 1 1 53 2 1 4 rfl rfl (by decide) rfl rfl (by rfl) (by rfl) ?_);(repeat first|refine sN rfl ?_ |refine tA rfl ?_ |refine aU rfl ?_ |refine Aa ?_);refine aB ?_;refine Al.AS (α:={k:Nat // k<=t.rows.length}) (λ⟨k,m⟩=>[(2,.o (.ptr 0 2 0 0)),(3,.o (.ip (OM t))),(4,.o (.ptr 1 3 0 0)),(5,.o (.mp 2)),(6,.o (.ptr 3 3 0 0)),(19,.o (.d (A6 t.rows))),(20,eI .i64 t.rows.length),(21,eI .i64 k)]) (λ⟨k,m⟩=>[(0,.cells 90 2 [[.d (iD al),c]]),(1,.cells 29 3 [[.d (iD 0),.d (.l []),.d (.l [])]]),(2,.mp (FH (Bk L t t.rows.length))),(3,.cells 29 3 [[.d (iD al),.arr 4 1 0 k,.arr 5 1 0 k]]),(4,.cells 53 1 (((AG L al t).nx.take k).map λr=>[.d (DH r)])),(5,.cells 4 1 (((AG L al t).ac.take k).map λb=>[.d (bD b)]))]) 6 (λ⟨k,m⟩=>t.rows.length - k) (⟨0,by omega⟩) [0,1,2,5,3,4] (Dn e rfl rfl) (by (simp[cX,zC,e,a,eC,Ab.AN,Bt,FJ,BA,Aj])) ?_;rintro⟨k,m⟩;(try dsimp only);(repeat first|refine s2 rfl λ_ I=>?_ |refine aU rfl ?_ |refine Aa ?_);(refine aC rfl ?_ ?_<;>rintro⟨⟩)
 ·have B:k < t.rows.length:=by (simp only[oZ] at *;omega)
  obtain⟨r,p⟩:=get_some (l:=t.rows) (k:=k) B;have P:=get_map (g:=CN) p;have f:=bm p;refine aK ?_;refine aS (aB ?_);(repeat first|refine tM rfl ?_ |(refine s4 rfl ‹_› rfl ?_ ?_;omega) |refine aU rfl ?_ |refine Aa ?_);(refine pW rfl ?_ rfl (by rfl);refine Ku 1 3 ?_);(repeat first|refine sN rfl ?_ |refine tM rfl ?_ |refine sP rfl (CA al) rfl ?_ |refine aU rfl ?_ |refine Aa ?_);refine aB ?_;refine Al.AS (α:={j:Nat // j<=(Ac al).length}) (λ⟨j,n⟩=>[(2,.o (.ptr 0 2 0 0)),(3,.o (.ip (OM t))),(4,.o (.ptr 1 3 0 0)),(5,.o (.mp 2)),(6,.o (.ptr 3 3 0 0)),(19,.o (.d (A6 t.rows))),(20,eI .i64 t.rows.length),(21,eI .i64 k),(8,eT r),(9,.o (.arr 6 1 0 j)),(27,Ag (Ac al)),(28,eI .i64 (Ac al).length),(29,eI .i64 j)]) (λ⟨j,n⟩=>[(0,.cells 90 2 [[.d (iD al),c]]),(1,.cells 29 3 [[.d (iD 0),.d (.l []),.d (.l [])]]),(2,.mp (FH (Bk L t t.rows.length))),(3,.cells 29 3 [[.d (iD al),.arr 4 1 0 k,.arr 5 1 0 k]]),(4,.cells 53 1 (((AG L al t).nx.take k).map λr=>[.d (DH r)])),(5,.cells 4 1 (((AG L al t).ac.take k).map λb=>[.d (bD b)])),(6,.cells 3 1 (((Ac al).take j).map λl=>[.d (iD ((Cg L t (r++[lb l]):Nat):Int))]))]) 7 (λ⟨j,n⟩=>(Ac al).length - j) (⟨0,by omega⟩) [0,1,2,3,4,5,6] (Dn e rfl rfl) (by (simp[cX,zC,e,a,eC,Ab.AN,Bt,FJ])) ?_;rintro⟨j,n⟩;(try dsimp only);(repeat first|refine s2 rfl λ_ I=>?_ |refine aU rfl ?_ |refine Aa ?_);(refine aC rfl ?_ ?_<;>rintro⟨⟩)
  ·have s:j < (Ac al).length:=by (simp only[oZ] at *;omega)
   obtain⟨l,G⟩:=get_some (l:=Ac al) (k:=j) s;have hl':=get_map (g:=Bp) G;have i:=bm G;have q:=AK i;have R:=ht.onR r f;have U:=HK (TB:=TB) u al t (r++[lb l]) (by omega) (λx p=>h.2 r f _ (bB.2 ⟨l,i,rfl⟩) x p) (λy N=>by have:=(ht.onC y N).2;simp;omega);have F:=N8 S f i;refine aK ?_;refine aS (aB ?_);(repeat first|refine tA rfl ?_ |(refine s4 rfl ‹_› rfl ?_ ?_;omega) |refine aU rfl ?_ |refine Aa ?_);refine rG (LU [13]) (by kernel_rfl) ?_;(repeat first|(refine sA rfl ?_ ?_;first|exact tI|omega|simp only[oZ] at *;omega) |refine sP rfl (Du l q.1 (by omega)) rfl ?_|(refine Av rfl ?_;refine gA rfl ?_;first| refine gS (λ_ _=>PB rfl (by omega) (by omega)) ?_));rw [SV q.1];(repeat first| (refine Av rfl ?_;refine gA rfl ?_;first| refine gS (λ_ _=>Bd rfl rfl (by simp [E.BI,C.CI,C.BI,u.BI]) U rfl) ?_|refine gQ (QI rfl rfl rfl) (by rfl) ?_));(repeat first|refine tA rfl ?_);(refine pW rfl ?_ rfl (by rfl);refine AT rfl rfl rfl (by first| (simp;done)|(simp;(omega))) rfl (by intro r a;simp at a;subst a;rfl) (by rfl) (bn rfl) (by simp;omega) ?_);(repeat first|(refine sA rfl ?_ ?_;first|exact tI|omega) |refine aU rfl ?_ |refine Aa ?_);rw [F];refine⟨⟨j+1,by omega⟩,by dsimp only;(omega),[0,1,2,3,4,5,7],?_⟩;simp[cX,zC,e,a,bF,G]
  ·obtain rfl:j=(Ac al).length:=by (simp only[oZ] at *;omega)
   have z:=J r ⟨r,f,[],.inl rfl,[],.inl rfl,by simp⟩
   have A:(AG L al t).nx.take (k+1)=(AG L al t).nx.take k++[(Ac al).map λl=>((Cg L t (r++[lb l]):Nat):Int)]:=by
    rw [bF];simp [AG,p]
   have H:(AG L al t).ac.take (k+1)=(AG L al t).ac.take k++[L r]:=by
    rw [bF];simp [AG,p]
   refine aE ?_;rw [bO];refine Al.HC [6] [2,3,4,5,6,8,19,20,21] rfl [(9,Ag ((Ac al).map λl=>((Cg L t (r++[lb l]):Nat):Int)))] ⟨⟨_,rfl,.o (.full (by simp) rfl (by simp [bC]) (by simp))⟩,trivial⟩ ?_;(try dsimp only[cA,cB]);(repeat first|refine tA rfl ?_ |refine aU rfl ?_);(refine pW rfl ?_ rfl (by rfl);refine AT rfl rfl rfl (by first| (simp;done)|(simp;(omega))) rfl (by intro r a;simp at a;subst a;rfl) (by rfl) (bn rfl) (by simp;omega) ?_);(repeat first|refine tA rfl ?_ |refine Aa ?_);refine rG (LU [7,9]) (by kernel_rfl) ?_;(repeat first|refine tA rfl ?_|(refine Av rfl ?_;refine gA rfl ?_;first| refine gS (λ_ _=>u.ask rfl rfl z) ?_));(refine pW rfl ?_ rfl (by rfl);refine AT rfl rfl rfl (by first| (simp;done)|(simp;(omega))) rfl (by intro r a;simp at a;subst a;rfl) (by rfl) (bn rfl) (by simp;omega) ?_);(repeat first|(refine sA rfl ?_ ?_;first|exact tI|omega) |refine aU rfl ?_ |refine Aa ?_);refine⟨⟨k+1,by omega⟩,by dsimp only;(omega),[0,1,2,3,7,8],?_⟩;simp[cX,zC,e,a,eC,Ab.AN,Bt,FJ,BA,Aj,A,H]
 ·obtain rfl:k=t.rows.length:=by (simp only[oZ] at *;omega)
  have w:(AG L al t).nx.take t.rows.length=(AG L al t).nx:=bI (by simp [AG]);have v:(AG L al t).ac.take t.rows.length=(AG L al t).ac:=bI (by simp [AG]);rw [w,v];refine aE ?_;(repeat first|refine tM rfl ?_ |refine aU rfl ?_ |refine Aa ?_);refine Al.settle [(4,.o (.ip [iD al,CG (AG L al t).nx,EJ (AG L al t).ac]))] ⟨⟨_,rfl,.o (.box rfl (.cons .d (.cons (.full rfl (by simp [bC]) (by simp [AG])) (.cons (.full rfl (by simp [bC]) (by simp [AG])) .nil))))⟩,trivial⟩ ?_;refine aR ⟨_,rfl,rfl⟩
theorem MD{c:C}{L:W->Bool}{ok:W->Prop}(d:GW Tryz.prog TB c L ok)(al:Int)(t:AW)(b:GX ok al)(ht:Ep al 20012 t)(a:AX L (AV al) t=none) :
 Pure Tryz.prog TB 65 [Ey al c,Cs t] (A9 (AG L al t)):=GH d al t (ht.on b (by omega)) ht a
end Go.Am
namespace Go.Am
set_option linter.unusedVariables false
def Cq(a:A5):Int->W->Int
 | q,[]=>q
 | q,c::w=>Cq a (CE a q.toNat ((c.toNat:Int) - 97)) w
def LA(a:A5)(w:W):Bool:=a.ac.getD (Cq a 0 w).toNat false
theorem HY(a:A5):∀(u w:W) (q:Int),Cq a q (u++w)=Cq a (Cq a q u) w
 | [],_,_=>rfl
 | c::u,w,q=>HY a u w _
theorem MO{l:Int}(b:0<=l)(a:l < 6):((lb l).toNat:Int) - 97=l:=by
 unfold lb
 have:(97+l.toNat) % 256=97+l.toNat:=by omega
 simp [this];omega
theorem Gu{al:Int}{c:UInt8}(h:c∈AV al):0<=(c.toNat:Int) - 97/\(c.toNat:Int) - 97 < 6:=by
 obtain⟨l,a,rfl⟩:=bB.1 h;have b:=AK a;rw [MO b.1 (by omega)];omega
theorem DM{a:A5}(ha:Ax a=true){al:Int}:∀(w:W) (q:Int),AH (AV al) w->0<=q/\q < a.nx.length->0<=Cq a q w/\Cq a q w < a.nx.length
 | [],q,_,d=>d
 | c::w,q,b,d=>by
  have e:=Gu (b c (by simp));have g:=Gd ha (q:=q.toNat) (by omega) e.1 e.2;exact DM ha w _ (λx f=>b x (by simp [f])) g
def Rq{a:A5}(ha:Ax a=true)(al:Int):Fin (LA a) (AV al) a.nx.length where
 st w:=(Cq a 0 w).toNat
 lt w b:=by
  have e:=Au ha;have:=DM ha w 0 b (by omega);omega
 same u w v c b f h:=by
  have e:=Au ha;have i:=DM ha u 0 c (by omega);have g:=DM ha w 0 b (by omega)
  have d:Cq a 0 u=Cq a 0 w:=by omega
  unfold LA;rw [HY,HY,d]
theorem JF{al:Int}{l:Int}(h:l∈Ac al):lb l∈AV al:=bB.2 ⟨l,h,rfl⟩
theorem Jy{L:W->Bool}{al:Int}{t:AW}(hal:BP al=true)(h:A7 L (AV al) t)(b:t.rows.length<=12):Ax (AG L al t)=true:=by
 have j:0 < t.rows.length:=(am.1 h.r0).1;unfold Ax;simp only [bu,decide_eq_true_eq,bH];refine⟨⟨⟨hal,by simp [AG];omega⟩,by simp [AG]⟩,λrow a=>?_⟩;simp only [AG,bB] at a;obtain⟨r,b,rfl⟩:=a;unfold DJ;simp only [bu,decide_eq_true_eq,bH];refine⟨by simp [AG],λy c=>?_⟩;obtain⟨l,d,rfl⟩:=bB.1 c;obtain⟨i,hi,e⟩:=cr b;obtain⟨r',g,_⟩:=h.idx (i:=i) (r:=r) (by rw [bt hi,e]) (JF d);have f:=(am.1 g).1;unfold Nj;simp [AG];exact f
theorem HE{L:W->Bool}{al:Int}{t:AW}{q:Nat}{c:UInt8}(e:q < t.rows.length)(h:c∈AV al):CE (AG L al t) q ((c.toNat:Int) - 97)=((Cg L t (t.rows.getD q []++[c]):Nat):Int):=by
 obtain⟨l,a,rfl⟩:=bB.1 h;have d:=AK a;rw [MO d.1 (by omega)];obtain⟨k,f,g⟩:=cr a
 have b:(Ay al 6)[k]? = some l:=by rw [bt f,g]
 have n:=GP b;unfold CE;have m:En (AG L al t).al l.toNat=true:=d.2.2;rw [if_pos m];have j:(Ay (AG L al t).al l.toNat).length=k:=n;rw [j]
 have i:(AG L al t).nx.getD q []=(Ac al).map λl=>((Cg L t (t.rows.getD q []++[lb l]):Nat):Int):=by
  simp [AG,List.getD,e]
 rw [i];simp [List.getD,b]
theorem Mk{L:W->Bool}{al:Int}{t:AW}(h:A7 L (AV al) t):∀(w:W) (q:Nat),AH (AV al) w->q < t.rows.length->Cq (AG L al t) q w=((runM L t q w:Nat):Int)
 | [],q,_,_=>rfl
 | c::w,q,a,b=>by
  have f:t.rows[q]? = some t.rows[q]:=bt b;have d:=a c (by simp);obtain⟨_,j,_⟩:=h.idx f d
  have i:t.rows.getD q []=t.rows[q]:=by simp [f]
  have e:=(am.1 j).1
  show Cq (AG L al t) (CE (AG L al t) ((q:Int)).toNat ((c.toNat:Int) - 97)) w=_
  rw [bL,HE b d];rw [<-i] at e;exact Mk h w _ (λx g=>a x (by simp [g])) e
theorem Ju{L:W->Bool}{al:Int}{t:AW}(h:A7 L (AV al) t){w:W}(a:AH (AV al) w):LA (AG L al t) w=Jl L t w:=by
 have c:0 < t.rows.length:=(am.1 h.r0).1;have d:=h.run w 0 a c;unfold LA Jl;have b:=Mk h w 0 a c;rw [show ((0:Nat):Int)=0 from rfl] at b;rw [b,bL];simp [AG,List.getD,d]
end Go.Am
namespace Go.Am
open Go
set_option linter.unusedVariables false
def JC(a b:A5)(s0:Int)(op:Bool->Bool->Bool):Gr:=
 ⟨a.nx.length*b.nx.length,λx l=>[CE a (x / b.nx.length).toNat l*b.nx.length+CE b (x % b.nx.length).toNat l],λx=>op (a.ac.getD (x / b.nx.length).toNat false) (b.ac.getD (x % b.nx.length).toNat false),Ac a.al,s0⟩
def C1(a b:A5)(kd:Int):Net:=⟨[],[a,b],[0,0],a.al,kd,0⟩
theorem Gb{a b:A5}(hb:Ax b=true){x:Int}(c:0<=x/\x < (JC a b 0 bne).N):0<=x / b.nx.length/\x / b.nx.length < a.nx.length/\0<=x % b.nx.length/\x % b.nx.length < b.nx.length:=by
 have e:=Au hb;have d:x < ((a.nx.length*b.nx.length:Nat):Int):=c.2;rw [c7] at d;exact⟨fe c.1 (by omega),Int.ediv_lt_of_lt_mul (by omega) d,Int.emod_nonneg _ (by omega),Int.emod_lt_of_pos _ (by omega)⟩
theorem SF{a b:A5}(ha:Ax a=true)(hb:Ax b=true){s0:Int}{op:Bool->Bool->Bool}(e:0<=s0/\s0 < a.nx.length*b.nx.length):FM (JC a b s0 op):=by
 refine⟨⟨e.1,by show s0 < ((a.nx.length*b.nx.length:Nat):Int);rw [c7];exact e.2⟩,λx f l c y d=>?_,C4 _ _⟩;have c:=AK (show l∈Ay a.al 6 from c);have k:=Gb hb f;have h:=Gd ha (q:=(x / b.nx.length).toNat) (by omega) c.1 (by omega);have j:=Gd hb (q:=(x % b.nx.length).toNat) (by omega) c.1 (by omega)
 have d:y=CE a (x / b.nx.length).toNat l*b.nx.length+CE b (x % b.nx.length).toNat l:=by simpa [JC] using d
 subst d;generalize CE a (x / b.nx.length).toNat l=u at *;generalize CE b (x % b.nx.length).toNat l=v at *
 show 0<=u*(b.nx.length:Int)+v/\u*(b.nx.length:Int)+v < ((a.nx.length*b.nx.length:Nat):Int)
 rw [c7];have i:0<=u*(b.nx.length:Int):=dg h.1 (by omega);have g:(u+1)*(b.nx.length:Int)<=a.nx.length*b.nx.length:=cP (by omega) (by omega);rw [dQ] at g;omega
theorem QB{a b:A5}{kd:Int}(ha:Ax a=true)(hb:Ax b=true):Dm (C1 a b kd)/\Vy (C1 a b kd)/\Fits (Ae (C1 a b kd)) (C1 a b kd).st:=by
 have g:=Au ha;have f:=Au hb;refine⟨⟨λs e=>(by cases e),λx d=>?_,by simp [C1],by simp [C1]⟩,⟨λ_=>by simp [C1],λ_=>by simp [C1]⟩,?_⟩
 ·simp [C1] at d;rcases d with rfl|rfl<;>assumption
 ·refine LR (zs:=Ae (C1 a b kd)) λz c=>?_
  simp [Ae,C1] at c
  rcases c with rfl|rfl<;>omega
theorem Of{a b:A5}{kd:Int}{op:Bool->Bool->Bool}(ha:Ax a=true)(hb:Ax b=true)(j:∀x y,op x y=if kd=1 then x != y else (x && !y))(k:kd=1\/kd=2):FP (JC a b 0 op)=FP (EE (C1 a b kd)):=by
 obtain⟨i,_,f⟩:=QB (kd:=kd) ha hb;have o:=Au ha;have n:=Au hb;have m:=SE i f;refine Sl (BE.congr m ?_ ?_ (λx d l g=>?_) (λx d=>?_) (FQ _))
 ·rfl
 ·exact LQ (Ae (C1 a b kd)) 2
 ·have g:=AK (show l∈Ay a.al 6 from g)
  show Ef (C1 a b kd) (Ae (C1 a b kd)) (Bs (Ae (C1 a b kd)) x) l=_
  have e:=MY (l:=[]) (aus:=[a,b]) (st:=[0,0]) (ls:=a.al) (kd:=kd) (gl:=0) i (node:=x) g.1 (by omega);refine Eq.trans e ?_
  have c:x / b.nx.length % a.nx.length=x / b.nx.length:=by
   have h:(EE (C1 a b kd)).N=a.nx.length*b.nx.length:=by
    show (AE (Ae (C1 a b kd))).toNat=_
    simp only [Ae,C1,dY,dk,cH,AE,Int.mul_one];rw [<-c7,bL]
   rw [h] at d;have:=Gb (a:=a) hb (x:=x) d;exact d8 this.1 this.2.1
  simp only [cH,dY,AE,Int.mul_one,Bs,Xf,List.zipWith_nil_left,List.zipWith_cons_cons,Iz,eP,List.flatMap_nil,cF,Int.ediv_one,Int.add_zero,Int.zero_mul,fb,c,JC]
 ·show BS (C1 a b kd) (Bs (Ae (C1 a b kd)) x) (DA (C1 a b kd) x.toNat)=_
  have c:x / b.nx.length % a.nx.length=x / b.nx.length:=by
   have h:(EE (C1 a b kd)).N=a.nx.length*b.nx.length:=by
    show (AE (Ae (C1 a b kd))).toNat=_
    simp only [Ae,C1,dY,dk,cH,AE,Int.mul_one];rw [<-c7,bL]
   rw [h] at d;have:=Gb (a:=a) hb (x:=x) d;exact d8 this.1 this.2.1
  show _=op (a.ac.getD (x / b.nx.length).toNat false) (b.ac.getD (x % b.nx.length).toNat false)
  rw [j];unfold BS Uk
  rcases k with rfl|rfl
  ·simp [C1,Ae,Bs,AE,List.getD,c]
  ·simp [C1,Ae,Bs,AE,List.getD,c]
def DG(a b:A5):Bool:=Ax a && Ax b && decide (a.al=b.al)
noncomputable def Hb(a b:A5):Option (List Int):=if DG a b then FP (EE (C1 a b 1)) else none
end Go.Am
namespace Go.Am
open Go Go.Proofs
set_option maxHeartbeats 1000000
set_option maxRecDepth 4000
attribute [local irreducible] AP BH Lex A4 Al Spec
variable {TB:Bg}
end Go.Am
