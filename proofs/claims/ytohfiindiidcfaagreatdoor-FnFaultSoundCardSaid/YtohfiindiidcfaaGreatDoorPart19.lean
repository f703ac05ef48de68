/-
  Empty slices that stay the empty value, till something is appended to them.
-/
import Derived.Test.YtohfiindiidcfaaGreatDoorPart16
import Derived.WideKeyArr
set_option linter.all false
namespace Go.Am
open Go
variable {TB:BA}
section
variable {P:Program}{Z:Ctx}{d:Option Tmp}{ty:TypeId}{pos:String}{af:Array Edge}{g:Option (Nat×Bool)}{f:Env}{σ:Ab}{nx:Nat}
theorem NC{t:TypeId}{z:List Value}{fl:List (Nat×Nat)}{parts:Array (Nat×Operand)}{es:List E}{qs:List (Nat×List C)}[Y:BJ P t z][hf:Fj P t fl](R:Jl f (parts.toList.map (·.2))=some es)(hq:FG fl parts.toList es=some qs)
 (M:z.all NP=true) (N:(qs.all λx=>Nat.ble (x.1+x.2.length) z.length)=true):A8 P TB Z ⟨d,.build t parts,ty,pos,af,g⟩ f σ nx (.a (DL qs (z.map λv=>C.d (.v v)))):=
 AO λV U h1 _=>by
  obtain⟨i,zv,hi,A,s⟩:=Hx Y.out;have Q:=Dt (V:=V) (U:=U) parts.toList es qs (λx J e he=>h1.get (by simp only [Op.operands];simpa using J) he) R hq
  have I:CP V (z.map λv=>C.d (.v v)) zv.cells:=by
   refine⟨by rw [gt,<-s];simp,λj c v T S=>?_⟩;simp only [ge,d7] at T;obtain⟨u,k,rfl⟩:=T
   have:u=v:=by
    rw [<-s] at k;simp only [jO] at k;rw [k] at S;exact Option.some.inj S
   subst this;exact .d (.v (d8.1 M u (co k)))
  obtain⟨cells,G,h4⟩:=GC _ _ _ _ Q I (λx J=>by rw [gt];exact JA _ _ N x J);have r:=hf.out
  have b:(parts.map λ(i,x)=>(i,U x)).toList=parts.toList.map λ(i,x)=>(i,U x):=by simp
  refine⟨.agg cells,?_,cells,rfl,h4⟩
  have hb : (Instr.build t (parts.map λ(i,x)=>(i,U x))).run P V.w=.ok (.agg cells) V.w:=by
   unfold ez at r;split at r
   ·rename_i fs k
    have L:∀(l:List Field) (ll:List (Nat×Nat)),(l.mapM λf=>(P.info? f.type).map λi=>(f.offset,i.size))=some ll->∀w,((l.mapM λf=>do pure (f.offset,<-sizeOf f.type)):Sem (List (Nat×Nat))).run P w=.ok ll w:=by
     intro l
     induction l with
     | nil=>intro ll h w;simp at h;subst h;simp [go_sem]
     | cons y l H=>
      intro ll h w;simp only [lk,l8,jo,d7] at h;obtain⟨p,⟨ii,o,rfl⟩,ll',h5,X⟩:=h;simp at X;subst X
      have K:(sizeOf y.type).run P w=.ok ii.size w:=by simp [sizeOf,typeInfo,o,go_sem]
      have ihh:=H ll' h5 w;simp only [bind_pure_comp] at ihh;simp only [lk,jb,K,iW,bind_pure_comp,k9,ihh]
    have B:=L fs.toList fl r V.w
    have m:(zeroValue t).run P V.w=.ok zv V.w:=by simp [zeroValue,typeInfo,hi,A,go_sem]
    have ha:((fs.mapM λf=>do pure (f.offset,<-sizeOf f.type)):Sem (Array (Nat×Nat))).run P V.w=.ok fl.toArray V.w:=by
     rw [lF,k9,B];rfl
    rw [<-b] at G;simp only [Instr.build,jb,m,iW,run_underlying k,ha];simp only [jP];rw [G];rfl
   ·rename_i n e k
    simp only [d7] at r;obtain⟨ii,o,rfl⟩:=r
    have m:(zeroValue t).run P V.w=.ok zv V.w:=by simp [zeroValue,typeInfo,hi,A,go_sem]
    have K:(sizeOf e).run P V.w=.ok ii.size V.w:=by simp [sizeOf,typeInfo,o,go_sem]
    have q:∀(ps:List (Nat×Value)) (c c':Array Value),Instr.fill (λi=>((List.range n).map λj=>(j*ii.size,ii.size))[i]?) c ps=some c'->Instr.fill (λi=>some (i*ii.size,ii.size)) c ps=some c':=by
     intro ps
     induction ps with
     | nil=>intro c c' h;simpa [Instr.fill] using h
     | cons p ps H=>
      intro c c' h;obtain⟨i',v'⟩:=p;unfold Instr.fill at h |-;by_cases F:i' < n
      ·simp only [ge,kW F,kE] at h
       simp only at h |-;split at h
       ·cases h
       ·rename_i hno
        rw [if_neg hno];exact H _ _ (by simpa only [ge] using h)
      ·simp [F] at h
    rw [<-b] at G;simp only [Instr.build,jb,m,iW,run_underlying k,K];rw [q _ _ _ G];rfl
   ·cases r
  show ((do let v <-Instr.build t (parts.map λ(i,x)=>(i,U x));pure (Go.Next.value v):Sem Go.Next)).run P V.w=_
  simp only [jb,hb,iW];rfl
end
theorem UK{P:Program}{Z:Ctx}{o:Oper}{L:List (Nat×E)}{σ:Ab}{nx:Nat}{K:E->Ab->Nat->Prop}{b:Option Addr}(t:Tmp)(j:look L t=some (.o (.d (.v (.slice b 0 0)))))(h:Cq P TB Z o (look ((t,.e)::L)) σ nx K):Cq P TB Z o (look L) σ nx K:=by
 intro V a i l k;refine h V a ?_ l k;intro t' e' f c;rw [AA] at c;by_cases g:t=t'
 ·subst g
  rw [if_pos rfl] at c
  injection c with c
  subst c;exact⟨b,AL.val (i t _ f j)⟩
 ·rw [if_neg g] at c
  exact i t' e' f c
theorem Yu{P:Program}{Z:Ctx}{ops:Array Oper}{fl:Fl}{i n:Nat}{L:List (Nat×E)}{σ:Ab}{nx:Nat}{K:Env->Ab->Nat->Prop}{op:Op}{ty:TypeId}{pos:String}{af:Array Edge}{g:Option (Nat×Bool)}
 (h:Cq P TB Z ⟨none,op,ty,pos,af,g⟩ (look L) σ nx (λ_ σ' nx'=>Kept (fl i - 1000) σ σ'/\Lex P TB Z ops (Ak fl (i+1) n) K (look L) σ' nx')) (b:Bo ops ⟨none,op,ty,pos,af,g⟩ (look L)=some true) (c:Nat.ble 10 (fl i)=true/\Nat.ble 1000 (fl i)=true):Br P TB Z ops ⟨none,op,ty,pos,af,g⟩ fl i n K L σ nx:=
 λa=>UQ a b c h
end Go.Am
namespace Go.Am
open Go
class gX (P:Program) (t:TypeId) (n:outParam Nat) (q:outParam IntKind):Prop where
 u:∃e,WideMaps.ArrKey P t e n/\P.underlying e=some (.int q)
 eg:P.eqGuardType P.depth t=false
 sz:P.types.size≠0
section
variable {P:Program}{t:TypeId}{n:Nat}{q:IntKind}
end
section
variable {P:Program}{TB:BA}{Z:Ctx}{d:Option Tmp}{ty:TypeId}{pos:String}{af:Array Edge}{g:Option (Nat×Bool)}{f:Env}{σ:Ab}{nx:Nat}
variable {K:E->Ab->Nat->Prop}{t:TypeId}{n:Nat}{q:IntKind}
end
end Go.Am
