/-
  The steps of a walk, in one: what the next operation gives is reckoned.
-/
import Derived.Test.YtgpbfllcjdfelaaGreatDoorPart11
set_option linter.all false
namespace Go.Am
open Go
abbrev Gv:=Prop×List (Nat×E)×Ab×Nat
def fT(T : List (Nat×TI))(md sl:Bool)(ops:Array Oper)(fl:Fl)(i:Nat)(L:List (Nat×E))(σ:Ab)(nx:Nat):Option Gv:=
 match Nv ops.toList (fl.p i) with
 | some ⟨ds,op,ty,pos,af,g⟩=>match Bj ops ⟨ds,op,ty,pos,af,g⟩ (look L) with
  | some true=>match ds with
   | some d=>match cg T md (look L) op with
    | some (q,e)=>some (q,(d,e)::L,σ,nx)
    | none=>match WJ T sl (fl i) nx σ L (some d) op with
     | some (L',σ',nx')=>some (True,L',σ',nx')
     | none=>none
   | none=>match WJ T sl (fl i) nx σ L none op with
    | some (L',σ',nx')=>some (True,L',σ',nx')
    | none=>none
  | some false=>match ds with
   | some d=>some (True,(d,.t [])::L,σ,nx)
   | none=>some (True,L,σ,nx)
  | none=>none
 | none=>none
def hX(ops:Array Oper)(fl:Fl)(i:Nat)(L:List (Nat×E)):Option (Option Tmp×Op):=match Nv ops.toList (fl.p i) with
 | some ⟨ds,op,ty,pos,af,g⟩=>match Bj ops ⟨ds,op,ty,pos,af,g⟩ (look L) with
  | some true=>some (ds,op)
  | _=>none
 | none=>none
def mr(T:List (Nat×TI))(ops:Array Oper)(fl:Fl)(i:Nat)(L:List (Nat×E)):Option (Nat×List (List D)):=match hX ops fl i L with
 | some (some d,.call ⟨.builtin .len,⟨[x]⟩,⟨[t]⟩⟩)=>match (II T t).sl,ev (look L) x with
  | some _,some (.o (.d (.l rows)))=>some (d,rows)
  | _,_=>none
 | _=>none
structure As where
 β:Type
 l:List β
 m:Nat
 k:β->Option Gv
def lB(T : List (Nat×TI))(ops:Array Oper)(fl:Fl)(i:Nat)(L:List (Nat×E))(σ:Ab)(nx:Nat):Option As:=match hX ops fl i L with
 | some (some d,.indexAddr t x y)=>match (II T t).sl,ev (look L) x,ev (look L) y with
  | some (_,k,_),some (.o (.d (.l rows))),some (.o (.d (.v (.int _ m))))=>some ⟨List D,rows,m.toNat,λr=>match Nat.beq r.length k with
   | true=>some (0<=m,(d,.o (.ip r))::L,σ,nx)
   | false=>none⟩
  | _,_,_=>none
 | some (some d,.index t x y)=>match (II T t).st,ev (look L) x,ev (look L) y with
  | true,some (.o (.d (.v (.string ⟨⟨s⟩⟩)))),some (.o (.d (.v (.int _ m))))=>some ⟨UInt8,s,m.toNat,λc=>some (0<=m,(d,eI .u8 (c.toNat:Int))::L,σ,nx)⟩
  | _,_,_=>none
 | some (some d,.load t x)=>match (II T t).ld,ev (look L) x with
  | some (ag,m),some (.o (.ptr id k i' j))=>match look σ id with
   | some (.cells _ k' rows)=>match Nat.beq k k',ei (fl i) (some (.o (.ptr id k i' j))) with
    | true,true=>some ⟨List C,rows,i',λr=>match gM ag m j r with
     | some e=>some (True,(d,e)::L,σ,nx)
     | none=>none⟩
    | _,_=>none
   | _=>none
  | _,_=>none
 | some (none,.store t x y)=>match (II T t).ld,ev (look L) x,ev (look L) y with
  | some (_,m),some (.o (.ptr id k i' j)),some e=>match look σ id with
   | some (.cells ct k' rows)=>match Nat.beq k k',Nat.beq (fl i) 1,Sf e,Nat.beq (eC e).length m,Nat.ble (j+m) k with
    | true,true,true,true,true=>some ⟨List C,rows,i',λr=>some (True,L,(id,.cells ct k (rows.set i' (Ae r j (eC e))))::σ,nx)⟩
    | _,_,_,_,_=>none
   | _=>none
  | _,_,_=>none
 | _=>none
def mD(T:List (Nat×TI))(ops:Array Oper)(fl:Fl)(i:Nat)(L:List (Nat×E)):Option (Nat×Bool):=match hX ops fl i L with
 | some (some d,op)=>match Tg T (look L) op with
  | some c=>some (d,c)
  | none=>none
 | _=>none
def mL(ops:Array Oper)(fl:Fl)(i:Nat)(L:List (Nat×E)):Option Bool:=match Nv ops.toList (fl.p i) with
 | some ⟨_,_,_,_,_,some (j,_)⟩=>match (ops[j]?).bind (·.dst) with
  | some t=>match look L t with
   | some (.o (.d (.v (.bool b))))=>some b
   | _=>none
  | none=>none
 | _=>none
def kS(ops:Array Oper)(fl:Fl)(i:Nat)(L:List (Nat×E)):Option (Nat×FuncId×List E):=match hX ops fl i L with
 | some (some d,.call ⟨.value x,args,_⟩)=>match ev (look L) x,Il (look L) args.toList with
  | some (.o (.fn gg cap)),some es=>match es.all E.Bt && C.Cv cap with
   | true=>some (d,gg,es++cap.map .o)
   | false=>none
  | _,_=>none
 | _=>none
section
variable {P:Program}{TB:Bi}{Γ:Ctx}{ops:Array Oper}{fl:Fl}{i n:Nat}{L L':List (Nat×E)}{σ σ':Ab}{nx nx' d:Nat}{K:Env->Ab->Nat->Prop}
theorem Hi{ds:Option Tmp}{op:Op}(h:hX ops fl i L=some (ds,op))(k:∀ty pos af g,FR P TB Γ ops ⟨ds,op,ty,pos,af,g⟩ fl i n K L σ nx):Lex P TB Γ ops (Ak fl i (n+1)) K (look L) σ nx:=by
 unfold hX at h;split at h
 ·rename_i a
  split at h
  ·rename_i b
   injection h with h;injection h with d c;subst d;subst c
   exact Af a (k _ _ _ _ b)
  ·cases h
 ·cases h
theorem s1{md sl:Bool}[k:CS P]{q:Prop}(h:fT k.T md sl ops fl i L σ nx=some (q,L',σ',nx'))(j:q)(hk:Lex P TB Γ ops (Ak fl (i+1) n) K (look L') σ' nx'):Lex P TB Γ ops (Ak fl i (n+1)) K (look L) σ nx:=by
 unfold fT at h;split at h
 ·rename_i a
  split at h
  ·rename_i f
   split at h
   ·split at h
    ·rename_i g
     injection h with h;injection h with e h;injection h with d h;injection h with c b;subst e;subst d;subst c;subst b
     exact Af a (yQ g j hk f)
    ·split at h
     ·rename_i g
      injection h with h;injection h with e h;injection h with d h;injection h with c b;subst e;subst d;subst c;subst b
      exact Af a (yU g hk f)
     ·cases h
   ·split at h
    ·rename_i g
     injection h with h;injection h with e h;injection h with d h;injection h with c b;subst e;subst d;subst c;subst b
     exact Af a (yU g hk f)
    ·cases h
  ·rename_i f
   split at h
   ·injection h with h;injection h with e h;injection h with d h;injection h with c b;subst e;subst d;subst c;subst b
    exact Af a (λa=>UK a f (by rw [Dn];exact hk))
   ·injection h with h;injection h with e h;injection h with d h;injection h with c b;subst e;subst d;subst c;subst b
    exact Af a (λa=>UK a f hk)
  ·cases h
 ·cases h
theorem sA[b:CS P]{q:Prop}(h:fT b.T false true ops fl i L σ nx=some (q,L',σ',nx'))(a:q)(hk:Lex P TB Γ ops (Ak fl (i+1) n) K (look L') σ' nx'):Lex P TB Γ ops (Ak fl i (n+1)) K (look L) σ nx:=s1 h a hk
theorem sM[b:CS P]{q:Prop}(h:fT b.T true false ops fl i L σ nx=some (q,L',σ',nx'))(a:q)(hk:Lex P TB Γ ops (Ak fl (i+1) n) K (look L') σ' nx'):Lex P TB Γ ops (Ak fl i (n+1)) K (look L) σ nx:=s1 h a hk
theorem sX[b:CS P]{q:Prop}(h:fT b.T false false ops fl i L σ nx=some (q,L',σ',nx'))(a:q)(hk:Lex P TB Γ ops (Ak fl (i+1) n) K (look L') σ' nx'):Lex P TB Γ ops (Ak fl i (n+1)) K (look L) σ nx:=s1 h a hk
theorem sN[e:CS P]{U:Type}{l:List U}{f:U->List D}(h:mr e.T ops fl i L=some (d,l.map f))(hk:Lex P TB Γ ops (Ak fl (i+1) n) K (look ((d,eI .i64 l.length)::L)) σ nx):Lex P TB Γ ops (Ak fl i (n+1)) K (look L) σ nx:=by
 unfold mr at h;split at h
 ·rename_i b
  split at h
  ·rename_i c a
   injection h with h;injection h with j g;subst j;subst g
   exact Hi b λ_ _ _ _=>mU a c hk
  ·cases h
 ·cases h
theorem s4[x : CS P]{β:Type}{l:List β}{m:Nat}{k:β->Option Gv}{r:β}{q:Prop}(h:lB x.T ops fl i L σ nx=some ⟨β,l,m,k⟩)(s:l[m]? = some r)(e:k r=some (q,L',σ',nx'))(v:q)
 (hk:Lex P TB Γ ops (Ak fl (i+1) n) K (look L') σ' nx'):Lex P TB Γ ops (Ak fl i (n+1)) K (look L) σ nx:=by
 unfold lB at h;split at h
 ·rename_i j
  split at h
  ·rename_i o g p
   injection h with h;injection h with d c b a;subst d;subst c;subst b
   have a:=eq_of_heq a;subst a;dsimp only at e;split at e
   ·rename_i hb
    injection e with h;injection h with d h;injection h with c h;injection h with b a;subst d;subst c;subst b;subst a
    exact Hi j λ_ _ _ _=>yL g p s o (i7 hb) v hk
   ·cases e
  ·cases h
 ·rename_i j
  split at h
  ·rename_i o g p
   injection h with h;injection h with d c b a;subst d;subst c;subst b
   have a:=eq_of_heq a;subst a;dsimp only at e
   injection e with h;injection h with d h;injection h with c h;injection h with b a;subst d;subst c;subst b;subst a
   exact Hi j λ_ _ _ _=>yT g p s o v hk
  ·cases h
 ·rename_i j
  split at h
  ·rename_i o g
   split at h
   ·rename_i t
    split at h
    ·rename_i hb f
     injection h with h;injection h with d c b a;subst d;subst c;subst b
     have a:=eq_of_heq a;subst a;dsimp only at e;split at e
     ·rename_i w
      injection e with h;injection h with d h;injection h with c h;injection h with b a;subst d;subst c;subst b;subst a
      have hb:=i7 hb;subst hb;unfold ei at f;rw [nr] at f
      rcases f with f|f
      ·exact Hi j λ_ _ _ _=>yM g t s o w f hk
      ·rw [d6] at f
       have F:=i7 f.1;haveI:=(Dw (P:=P) _ x.ok).Li o;exact Hi j λ_ _ _ _ y=>jR (λσ' nx' u=>Wz g (by rw [F,Nat.add_sub_cancel_left] at u;rw [u];exact t) s w) y ⟨pm (by omega),by simpa using f.2⟩ hk
     ·cases e
    ·cases h
   ·cases h
  ·cases h
 ·rename_i j
  split at h
  ·rename_i o g p
   split at h
   ·rename_i t
    split at h
    ·rename_i hb f B A z
     injection h with h;injection h with d c b a;subst d;subst c;subst b
     have a:=eq_of_heq a;subst a;dsimp only at e
     injection e with h;injection h with d h;injection h with c h;injection h with b a;subst d;subst c;subst b;subst a
     have hb:=i7 hb;subst hb;exact Hi j λ_ _ _ _=>yV g p B t s o (i7 A) z (i7 f) hk
    ·cases h
   ·cases h
  ·cases h
 ·cases h
theorem tA[a:CS P](h:fT a.T false true ops fl i L σ nx=some (True,L',σ',nx'))(hk:Lex P TB Γ ops (Ak fl (i+1) n) K (look L') σ' nx'):Lex P TB Γ ops (Ak fl i (n+1)) K (look L) σ nx:=s1 h True.intro hk
theorem tM[a:CS P](h:fT a.T true false ops fl i L σ nx=some (True,L',σ',nx'))(hk:Lex P TB Γ ops (Ak fl (i+1) n) K (look L') σ' nx'):Lex P TB Γ ops (Ak fl i (n+1)) K (look L) σ nx:=s1 h True.intro hk
theorem tX[a:CS P](h:fT a.T false false ops fl i L σ nx=some (True,L',σ',nx'))(hk:Lex P TB Γ ops (Ak fl (i+1) n) K (look L') σ' nx'):Lex P TB Γ ops (Ak fl i (n+1)) K (look L) σ nx:=s1 h True.intro hk
theorem t4[b:CS P]{β:Type}{l:List β}{m:Nat}{k:β->Option Gv}{r:β}(h:lB b.T ops fl i L σ nx=some ⟨β,l,m,k⟩)(a:l[m]? = some r)(c:k r=some (True,L',σ',nx'))
 (hk:Lex P TB Γ ops (Ak fl (i+1) n) K (look L') σ' nx'):Lex P TB Γ ops (Ak fl i (n+1)) K (look L) σ nx:=s4 h a c True.intro hk
theorem s2[f:CS P]{c:Bool}(h:mD f.T ops fl i L=some (d,c))(hk:∀b,c=b->Lex P TB Γ ops (Ak fl (i+1) n) K (look ((d,eB b)::L)) σ nx):Lex P TB Γ ops (Ak fl i (n+1)) K (look L) σ nx:=by
 unfold mD at h;split at h
 ·rename_i e
  split at h
  ·rename_i a
   injection h with h;injection h with j g;subst j;subst g
   exact Hi e λ_ _ _ _=>yB a hk
  ·cases h
 ·cases h
theorem s3{b:Bool}(_h:mL ops fl i L=some b)(a:b=true->Lex P TB Γ ops (Ak fl i (n+1)) K (look L) σ nx)(c:b=false->Lex P TB Γ ops (Ak fl i (n+1)) K (look L) σ nx):Lex P TB Γ ops (Ak fl i (n+1)) K (look L) σ nx:=by
 cases b
 ·exact c rfl
 ·exact a rfl
theorem VJ{gg:FuncId}{es:List E}(h:kS ops fl i L=some (d,gg,es)):∃x args tys cap a,hX ops fl i L=some (some d,.call ⟨.value x,args,tys⟩)/\ev (look L) x=some (.o (.fn gg cap))/\Il (look L) args.toList=some a/\(a.all E.Bt && C.Cv cap)=true/\es=a++cap.map .o:=by
 unfold kS at h;split at h
 ·rename_i c
  split at h
  ·rename_i b e
   split at h
   ·rename_i hp
    injection h with h;injection h with j h;injection h with g f;subst j;subst g;subst f
    exact⟨_,_,_,_,_,c,b,e,hp,rfl⟩
   ·cases h
  ·cases h
 ·cases h
theorem sP{gg:FuncId}{es:List E}{r:E}(h:kS ops fl i L=some (d,gg,es))(b:Pure P TB gg es r)(c:r.Bt=true)(hk:Lex P TB Γ ops (Ak fl (i+1) n) K (look ((d,r)::L)) σ nx):Lex P TB Γ ops (Ak fl i (n+1)) K (look L) σ nx:=by
 obtain⟨x,args,tys,cap,g,e,a,f,hp,rfl⟩:=VJ h;exact Hi e λ_ _ _ _=>yP a f hp b c hk
theorem sC{gg:FuncId}{es:List E}{c:Bool}(h:kS ops fl i L=some (d,gg,es))(e:Pure P TB gg es (eB c))(hk:∀b,c=b->Lex P TB Γ ops (Ak fl (i+1) n) K (look ((d,eB b)::L)) σ nx):Lex P TB Γ ops (Ak fl i (n+1)) K (look L) σ nx:=by
 obtain⟨x,args,tys,cap,j,f,a,g,hp,rfl⟩:=VJ h;exact Hi f λ_ _ _ _=>yC a g hp e hk
theorem tI:True:=True.intro
end
section
variable {P:Program}{TB:Bi}{Γ:Ctx}{N:Nat}{ops:Array Oper}{fl:Fl}{i:Nat}{K:Env->Ab->Nat->Prop}{Q:Exit->Env->Ab->Nat->Prop}{f:Env}{σ:Ab}{nx:Nat}
theorem aS{x y:Code}(h:Au P TB Γ N x (JZ (Au P TB Γ N y Q) Q) f σ nx):Au P TB Γ N (.seq x y) Q f σ nx:=.seq h
def TZ(N:Nat):List Oper->Bool
 | []=>true
 | o::r=>match o.dst with
  | some d=>bif Nat.ble (d+1) N then TZ N r else false
  | none=>TZ N r
theorem VI{N:Nat}:∀ {l:List Oper},TZ N l=true->∀o∈l,(match o.dst with|some d=>Nat.blt d N|none=>true)=true
 | [],_,o,a=>by cases a
 | x :: l,h,o,a=>by
  unfold TZ at h
  rcases lc.1 a with rfl|a
  ·cases b:o.dst with
   | none=>rfl
   | some d=>
    rw [b] at h;dsimp only at h |-
    cases hb:Nat.ble (d+1) N with
    | false=>rw [hb] at h;cases h
    | true=>exact hb
  ·refine VI ?_ o a
   cases b:x.dst with
   | none=>rw [b] at h;exact h
   | some d=>
    rw [b] at h;dsimp only at h
    cases hb:Nat.ble (d+1) N with
    | false=>rw [hb] at h;cases h
    | true=>rw [hb] at h;exact h
theorem Zy{N:Nat}{ops:Array Oper}(h:TZ N ops.toList=true):Ga N ops=true:=by
 unfold Ga;rw [Array.all_eq_true];intro i hi;exact VI h _ (by simp)
def iY(P:Program)(TB:Bi)(Γ:Ctx)(N:Nat):Code->(Exit->Env->Ab->Nat->Prop)->Option (Env->Ab->Nat->Prop)
 | .region _ ops false,Q=>bif TZ N ops.toList then some (Lex P TB Γ ops (Ak ZN 0 ops.size) (λf σ nx=>Q .normal f σ nx)) else none
 | .seq c d,Q=>match iY P TB Γ N c (JZ (Au P TB Γ N d Q) Q) with
  | some G=>some G
  | none=>some (Au P TB Γ N c (JZ (Au P TB Γ N d Q) Q))
 | _,_=>none
theorem bm:∀ {c:Code} {Q:Exit->Env->Ab->Nat->Prop} {G:Env->Ab->Nat->Prop} {f:Env} {σ:Ab} {nx:Nat},iY P TB Γ N c Q=some G->G f σ nx->Au P TB Γ N c Q f σ nx
 | .region _ ops false,Q,G,f,σ,nx,h,g=>by
  unfold iY at h
  cases b:TZ N ops.toList with
  | false=>rw [b] at h;cases h
  | true=>rw [b] at h;injection h with h;subst h;exact lY (Zy b) g
 | .seq c d,Q,G,f,σ,nx,h,g=>by
  unfold iY at h;refine .seq ?_
  cases a:iY P TB Γ N c (JZ (Au P TB Γ N d Q) Q) with
  | none=>rw [a] at h;injection h with h;subst h;exact g
  | some G=>rw [a] at h;injection h with h;subst h;exact bm a g
 | .region _ ops true,Q,G,f,σ,nx,h,g=>by cases h
 | .skip,Q,G,f,σ,nx,h,g=>by cases h
 | .cond ..,Q,G,f,σ,nx,h,g=>by cases h
 | .block ..,Q,G,f,σ,nx,h,g=>by cases h
 | .ret,Q,G,f,σ,nx,h,g=>by cases h
 | .exit ..,Q,G,f,σ,nx,h,g=>by cases h
theorem aU{c:Code}{G:Env->Ab->Nat->Prop}(h:iY P TB Γ N c Q=some G)(g:G f σ nx):Au P TB Γ N c Q f σ nx:=bm h g
theorem aR(h:Q .ret f σ nx):Au P TB Γ N .ret Q f σ nx:=.ret h
theorem aK(h:Q .normal f σ nx):Au P TB Γ N .skip Q f σ nx:=.skip h
theorem aE{id:Nat}(h:Q (.exit id) f σ nx):Au P TB Γ N (.exit id) Q f σ nx:=.exit h
theorem aB{id:Nat}{c:Code}(h:Au P TB Γ N c (kX id Q) f σ nx):Au P TB Γ N (.block id c) Q f σ nx:=.block h
theorem aC{c:Operand}{x y:Code}{b:Bool}(e:ev f c=some (.o (.d (.v (.bool b)))))(ht:b=true->Au P TB Γ N x Q f σ nx)(a:b=false->Au P TB Γ N y Q f σ nx):Au P TB Γ N (.cond c x y) Q f σ nx:=.cond e ht a
theorem eN {g:FuncId} {fn:Func} {c:Code} {args:List E} {post:E->Ab->Nat->Prop} (b:P.funcs[g]? = some fn) (hb:fn.body=some c) (a:(fn.name == "runtime.NumGoroutine")=false) (ha:Nat.ble args.length fn.ntmps=true)
 (h:∀Γ:Ctx,Γ.V.nx=nx->Au P TB Γ fn.ntmps c (je fn.results post) (look (Ci 0 args)) σ nx):Spec P TB g σ nx args post:=.of b hb a (co ha) h
end
section
variable {P:Program}{TB:Bi}{Γ:Ctx}{d:Option Tmp}{ty:TypeId}{pos:String}{af:Array Edge}{g:Option (Nat×Bool)}{f:Env}{σ:Ab}{nx:Nat}
end
section
variable {P:Program}{TB:Bi}{Γ:Ctx}{d:Option Tmp}{ty:TypeId}{pos:String}{af:Array Edge}{g:Option (Nat×Bool)}{f:Env}{σ:Ab}{nx:Nat}
variable {K:E->Ab->Nat->Prop}
theorem run_build{t:TypeId}{fl:List (Nat×Nat)}{parts:Array (Nat×Operand)}{ρ:Operand->Value}{V:View}{i:TypeInfo}{zv:Value}{cells:Array Value}(hi:P.info? t=some i)(m:i.zero=some zv)(k:jB P t=some fl)
 (r:Instr.fill (fl[·]?) zv.cells (parts.toList.map λ(i,x)=>(i,ρ x))=some cells):(Instr.build t (parts.map λ(i,x)=>(i,ρ x))).run P V.w=.ok (.agg cells) V.w:=by
 have a:(parts.map λ(i,x)=>(i,ρ x)).toList=parts.toList.map λ(i,x)=>(i,ρ x):=by simp
 unfold jB at k;split at k
 ·rename_i fs u
  have z:∀(l:List Field) (ll:List (Nat×Nat)),(l.mapM λf=>(P.info? f.type).map λi=>(f.offset,i.size))=some ll->∀w,((l.mapM λf=>do pure (f.offset,<-sizeOf f.type)):Sem (List (Nat×Nat))).run P w=.ok ll w:=by
   intro l
   induction l with
   | nil=>intro ll h w;simp at h;subst h;simp [go_sem]
   | cons y l s=>
    intro ll h w;simp only [oX,qm,m8,d7] at h;obtain⟨p,⟨ii,d,rfl⟩,ll',B,A⟩:=h;simp at A;subst A
    have v:(sizeOf y.type).run P w=.ok ii.size w:=by simp [sizeOf,typeInfo,d,go_sem]
    have ihh:=s ll' B w;simp only [bind_pure_comp] at ihh;simp only [oX,nf,v,mY,bind_pure_comp,pe,ihh]
  have o:=z fs.toList fl k V.w
  have b:(zeroValue t).run P V.w=.ok zv V.w:=by simp [zeroValue,typeInfo,hi,m,go_sem]
  have ha:((fs.mapM λf=>do pure (f.offset,<-sizeOf f.type)):Sem (Array (Nat×Nat))).run P V.w=.ok fl.toArray V.w:=by
   rw [pG,pe,o];rfl
  rw [<-a] at r;simp only [Instr.build,nf,b,mY,run_underlying u,ha];simp only [oa];rw [r];rfl
 ·rename_i n e u
  simp only [d7] at k;obtain⟨ii,d,rfl⟩:=k
  have b:(zeroValue t).run P V.w=.ok zv V.w:=by simp [zeroValue,typeInfo,hi,m,go_sem]
  have v:(sizeOf e).run P V.w=.ok ii.size V.w:=by simp [sizeOf,typeInfo,d,go_sem]
  have g:∀(ps:List (Nat×Value)) (c c':Array Value),Instr.fill (λi=>((List.range n).map λj=>(j*ii.size,ii.size))[i]?) c ps=some c'->Instr.fill (λi=>some (i*ii.size,ii.size)) c ps=some c':=by
   intro ps
   induction ps with
   | nil=>intro c c' h;simpa [Instr.fill] using h
   | cons p ps s=>
    intro c c' h;obtain⟨i',v'⟩:=p;unfold Instr.fill at h |-;by_cases q:i' < n
    ·simp only [d9,o5 q,nv] at h
     simp only at h |-;split at h
     ·cases h
     ·rename_i hno
      rw [if_neg hno];exact s _ _ (by simpa only [d9] using h)
    ·simp [q] at h
  rw [<-a] at r;simp only [Instr.build,nf,b,mY,run_underlying u,v];rw [g _ _ _ r];rfl
 ·cases k
theorem JH{t:TypeId}{z:List Value}{fl:List (Nat×Nat)}{parts:Array (Nat×Operand)}{es:List E}{qs:List (Nat×List C)}[F:BU P t z][I:EC P t fl](p k e:Nat)(hp:z[p]? = some (.slice none 0 0))(B:Il f (parts.toList.map (·.2))=some es)(H:EN fl parts.toList es=some qs)
 (s:z.all OQ=true) (u:(qs.all λx=>Nat.ble (x.1+x.2.length) z.length)=true) (L:K (.a (Bb qs ((z.map zC).set p (.arr nx k 0 0)))) ((nx,.cells e k [])::σ) (nx+1)):BS P TB Γ ⟨d,.build t parts,ty,pos,af,g⟩ f σ nx K:=
 Di λV ρ S R Q=>by
  subst Q;obtain⟨i,zv,hi,o,l⟩:=Hs F.out;obtain⟨y,n⟩:=R.alloc (c:=0) (nl:=True) (w:=V.w) (ob:=.cells e k []) rfl rfl rfl rfl (io _) (λ_ _=>rfl) (.inl ⟨by simp [Aw],rfl⟩);have A:=C3 (V:=Aw V V.w.heap.size 0 True V.w) (ρ:=ρ) parts.toList es qs (λx r e J=>(S.get (by simp only [Op.operands];simpa using r) J).ext n) B H
  have q:C0 (Aw V V.w.heap.size 0 True V.w) ((z.map zC).set p (.arr V.nx k 0 0)) zv.cells:=by
   refine⟨by rw [ny,f7,<-l];simp,λj c v h G=>?_⟩
   have b:z[j]? = some v:=by rw [<-l,nZ];exact G
   by_cases m:p=j
   ·subst m
    rw [hp] at b
    injection b with b
    subst b;rw [nT (by rw [f7];exact(am.1 hp).1)] at h
    injection h with h
    subst h;exact AA.nil (by simp [Aw]) (by simp [Aw])
   ·rw [nU m,d9,b] at h
    injection h with h
    subst h;exact Jg (gt.1 s v (ce b))
  obtain⟨cells,N,M⟩:=Fz _ _ _ _ A q (λx r=>by rw [ny,f7];exact HM _ _ u x r);have hb:=run_build (P:=P) (ρ:=ρ) (parts:=parts) (V:=V) hi o I.out N;refine⟨.agg cells,_,_,_,?_,n,y,(show A2 _ (.a _) _ from ⟨cells,rfl,M⟩),L⟩
  show ((do let v <-Instr.build t (parts.map λ(i,x)=>(i,ρ x));pure (Go.Next.value v):Sem Go.Next)).run P V.w=_
  simp only [nf,hb,mY];rfl
end
section
variable {P:Program}{TB:Bi}
end
end Go.Am
namespace Go.Am.R
open Go
structure BH where
 f:Env
 σ:Ab
 nx:Nat
 pd:Nat->Option (TypeId×List Value)
def BH.put(S:BH)(d:Option Tmp)(x:E):BH:=⟨BB S.f d x,S.σ,S.nx,λt=>if d=some t then none else S.pd t⟩
def BH.GO(S:BH)(d:Tmp)(q:TypeId×List Value):BH:=⟨S.f,S.σ,S.nx,λt=>if t=d then some q else S.pd t⟩
def BH.ad(S:BH)(d:Tmp)(T:TypeId)(z:List Value):BH:=⟨BB S.f (some d) (.o (.ptr S.nx z.length 0 0)),(S.nx,.cells T z.length [z.map zC])::S.σ,S.nx+1,λt=>if t=d then none else S.pd t⟩
theorem BH.put_comm(S:BH){d d':Option Tmp}{x y:E}(h:∀t,d=some t->d'≠some t):(S.put d x).put d' y=(S.put d' y).put d x:=by
 unfold BH.put;rw [Kw h];congr 1;funext t;simp only;split<;>split<;>rfl
theorem BH.SV(S:BH){d':Option Tmp}{d:Tmp}{q:TypeId×List Value}{y:E}(h:d'≠some d):(S.put d' y).GO d q=(S.GO d q).put d' y:=by
 unfold BH.put BH.GO;simp only [BH.mk.injEq,true_and];funext t;by_cases e:t=d
 ·subst e;simp [h]
 ·simp [e]
theorem BH.Yv(S:BH){d d':Tmp}{q q':TypeId×List Value}(h:d≠d'):(S.GO d q).GO d' q'=(S.GO d' q').GO d q:=by
 unfold BH.GO;simp only [BH.mk.injEq,true_and];funext t;by_cases e:t=d
 ·subst e;simp [h]
 ·simp [e]
theorem BH.gb(S:BH){d':Option Tmp}{d:Tmp}{T:TypeId}{z:List Value}{y:E}(h:d'≠some d):(S.put d' y).ad d T z=(S.ad d T z).put d' y:=by
 unfold BH.put BH.ad;simp only;rw [Kw (d:=d') (d':=some d) (λt ht e=>h (by rw [ht,e]))];congr 1;funext t;by_cases e:t=d
 ·subst e;simp
 ·simp [e]
theorem BH.dh(S:BH){d' d:Tmp}{T:TypeId}{z:List Value}{q:TypeId×List Value}(h:d'≠d):(S.GO d' q).ad d T z=(S.ad d T z).GO d' q:=by
 unfold BH.GO BH.ad;simp only [BH.mk.injEq,true_and];funext t;by_cases e:t=d
 ·subst e;simp [Ne.symm h]
 ·simp [e]
section
variable (P:Program)(TB:Bi)(ops:Array Oper)
def QC(c:Nat)(o:Oper)(S:BH)(x:E):Prop:=
 if c=2 then ∀Γ σ nx,AO P TB Γ o S.f σ nx x else if c=0 then ∀Γ,AO P TB Γ o S.f S.σ S.nx x else 10<=c/\∀Γ σ nx,look σ (c - 10)=look S.σ (c - 10)->AO P TB Γ o S.f σ nx x
def Mv(c:Nat)(o:Oper)(S:BH)(u:BH->BH):Prop:=
 (c≠3/\Bj ops o S.f=some false/\u=λS=>S.put o.dst (.t []))\/
 (c≠3/\Bj ops o S.f=some true/\∃x,QC P TB c o S x/\u=λS=>S.put o.dst x)\/
 (c=3/\o.guard=none/\∃d T z,o.dst=some d/\o.op=.alloc T/\Y7 P T=some z/\z.all OQ=true/\S.f d=none/\u=λS=>S.GO d (T,z))
def de(m:Nat)(o:Oper)(K:BH->Prop)(S:BH):Prop:=
 (Bj ops o S.f=some false/\K (S.put o.dst (.t [])))\/(Bj ops o S.f=some true/\∀Γ,BS P TB Γ o S.f S.σ S.nx (λx σ' nx'=>Kept m S.σ σ'/\K (BH.put ⟨S.f,σ',nx',S.pd⟩ o.dst x)))
def St(c:Nat)(o:Oper)(K:BH->Prop)(S:BH):Prop:=
 if c=1 then de P TB ops 0 o K S else
 if 1000<=c then de P TB ops (c - 1000) o K S else
 if c=5 then ∃d T z,.tmp d∈o.op.operands/\S.pd d=some (T,z)/\de P TB ops 0 o K (S.ad d T z) else
 ∃u,Mv P TB ops c o S u/\K (u S)
def Lex:List (Nat×Nat)->(BH->Prop)->BH->Prop
 | [],K,S=>K S
 | (i,c)::r,K,S=>∃o,ops[i]? = some o/\St P TB ops c o (Lex r K) S
end
section
variable {P:Program}{TB:Bi}{ops:Array Oper}
theorem de.mono{m:Nat}{o:Oper}{K K':BH->Prop}{S:BH}(h:∀S,K S->K' S)(d:de P TB ops m o K S):de P TB ops m o K' S:=by
 rcases d with ⟨b,a⟩|⟨b,a⟩
 ·exact .inl ⟨b,h _ a⟩
 ·exact .inr ⟨b,λΓ=>(a Γ).mono λ_ _ _ c=>⟨c.1,h _ c.2⟩⟩
theorem St.mono{c:Nat}{o:Oper}{K K':BH->Prop}{S:BH}(h:∀S,K S->K' S)(a:St P TB ops c o K S):St P TB ops c o K' S:=by
 unfold St at *;split
 ·rename_i e;rw [if_pos e] at a;exact a.mono h
 ·rename_i e;rw [if_neg e] at a
  split
  ·rename_i e;rw [if_pos e] at a;exact a.mono h
  ·rename_i e;rw [if_neg e] at a
   split
   ·rename_i g;rw [if_pos g] at a
    obtain⟨d,T,z,f,b,i⟩:=a;exact⟨d,T,z,f,b,i.mono h⟩
   ·rename_i g;rw [if_neg g] at a
    obtain⟨u,f,b⟩:=a;exact⟨u,f,h _ b⟩
def kW(x y:Oper):Bool:=(x.looksAt ops).all λt=>!(y.looksAt ops).contains t
def JE(ci cj:Nat):Bool:=
 Nat.beq ci 2 || (Nat.beq ci 3 || ((Nat.beq ci 0 && (!Nat.beq cj 1 && (!Nat.beq cj 5 && Nat.ble cj 999))) || (Nat.ble 10 ci && (Nat.ble ci 999 && (!Nat.beq cj 1 && (!Nat.beq cj 5 && (Nat.ble cj 999 || (cj - 1000).testBit (ci - 10))))))))
theorem JF{ci cj:Nat}(h:JE ci cj=true):ci=2\/ci=3\/(ci=0/\cj≠1/\cj≠5/\cj < 1000)\/(10<=ci/\ci < 1000/\cj≠1/\cj≠5/\(cj < 1000\/(cj - 1000).testBit (ci - 10)=true)):=by
 unfold JE at h
 have nb:∀a b:Nat,(!Nat.beq a b)=true->a≠b:=λa b h e=>by subst e;simp at h
 simp only [nr,d6,Nat.beq_eq,Nat.ble_eq] at h
 rcases h with h|h|⟨d,g,c,f⟩|⟨d,g,c,f,i⟩
 ·exact .inl h
 ·exact .inr (.inl h)
 ·exact .inr (.inr (.inl ⟨d,nb _ _ g,nb _ _ c,by omega⟩))
 ·exact .inr (.inr (.inr ⟨d,by omega,nb _ _ c,nb _ _ f,i.imp (λh=>by omega) id⟩))
def bu(ops:Array Oper)(i ci j cj:Nat):Bool:=
 waits ops i ops.size j || (match ops[i]?,ops[j]? with
  | some x,some y=>x.apart ops y && JE ci cj && (!Nat.beq cj 5 || kW (ops:=ops) x y)
  | _,_=>false)
def QQ(ops:Array Oper)(i c:Nat)(r:List (Nat×Nat)):Bool:=r.all λ(j,cj)=>bu ops i c j cj
def DC(ops:Array Oper):List (Nat×Nat)->Bool
 | []=>true
 | (i,c)::r=>QQ ops i c r && DC ops r
theorem Mv.put{c:Nat}{o:Oper}{S:BH}{u:BH->BH}(h:Mv P TB ops c o S u){d:Option Tmp}{x:E}{σ:Ab}{nx:Nat}{pd:Nat->Option (TypeId×List Value)}(p:∀t,d=some t->t∉o.looksAt ops)(l:∀t,o.dst=some t->d≠some t)(r:c=0->σ=S.σ/\nx=S.nx)(s:10<=c->look σ (c - 10)=look S.σ (c - 10)) :
 Mv P TB ops c o (BH.put ⟨S.f,σ,nx,pd⟩ d x) u:=by
 have n:Bj ops o (BH.put ⟨S.f,σ,nx,pd⟩ d x).f=Bj ops o S.f:=GI p;have ag:∀t,.tmp t∈o.op.operands->S.f t=BB S.f d x t:=λt ht=>(Fu p t ht).symm
 rcases h with ⟨i,g,a⟩|⟨i,g,y,a,m⟩|⟨i,g,dd,T,z,a,m,B,A,w,v⟩
 ·exact .inl ⟨i,by rw [n];exact g,a⟩
 ·refine .inr (.inl ⟨i,by rw [n];exact g,y,?_,m⟩)
  unfold QC at a |-;by_cases e:c=2
  ·rw [if_pos e] at a |-
   exact λΓ σ nx=>(a Γ σ nx).congr ag
  ·rw [if_neg e] at a |-
   by_cases b:c=0
   ·rw [if_pos b] at a |-
    obtain⟨rfl,rfl⟩:=r b;exact λΓ=>(a Γ).congr ag
   ·rw [if_neg b] at a |-
    exact⟨a.1,λΓ j k q=>(a.2 Γ j k (q.trans (s a.1))).congr ag⟩
 ·refine .inr (.inr ⟨i,g,dd,T,z,a,m,B,A,?_,v⟩)
  show BB S.f d x dd=none
  rw [Dh (l dd a)];exact w
theorem Mv.l7{c:Nat}{o:Oper}{S:BH}{u:BH->BH}(h:Mv P TB ops c o S u):(∃x,u=λS=>S.put o.dst x)\/∃d q,o.dst=some d/\u=λS=>S.GO d q:=by
 rcases h with ⟨_,_,a⟩|⟨_,_,y,_,e⟩|⟨_,_,dd,T,z,a,_,_,_,_,b⟩
 ·exact .inl ⟨_,a⟩
 ·exact .inl ⟨_,e⟩
 ·exact .inr ⟨dd,_,a,b⟩
theorem Mv.back{c:Nat}{o oi:Oper}{S:BH}{u v:BH->BH}(r:(∃x,u=λS=>S.put oi.dst x)\/∃d q,oi.dst=some d/\u=λS=>S.GO d q)(h:Mv P TB ops c o (u S) v)(n:∀t,oi.dst=some t->t∉o.looksAt ops)(s:∀t,oi.dst=some t->o.dst≠some t):Mv P TB ops c o S v:=by
 rcases r with ⟨x,rfl⟩|⟨d,q,G,rfl⟩
 ·have m:Bj ops o (S.put oi.dst x).f=Bj ops o S.f:=GI n
  have ag:∀t,.tmp t∈o.op.operands->BB S.f oi.dst x t=S.f t:=Fu n
  rcases h with ⟨i,g,a⟩|⟨i,g,y,a,l⟩|⟨i,g,dd,T,z,a,l,F,B,A,w⟩
  ·exact .inl ⟨i,by rw [<-m];exact g,a⟩
  ·refine .inr (.inl ⟨i,by rw [<-m];exact g,y,?_,l⟩)
   unfold QC at a |-;by_cases e:c=2
   ·rw [if_pos e] at a |-;exact λΓ σ nx=>(a Γ σ nx).congr ag
   ·rw [if_neg e] at a |-
    by_cases b:c=0
    ·rw [if_pos b] at a |-;exact λΓ=>(a Γ).congr ag
    ·rw [if_neg b] at a |-;exact⟨a.1,λΓ j k p=>(a.2 Γ j k p).congr ag⟩
  ·refine .inr (.inr ⟨i,g,dd,T,z,a,l,F,B,?_,w⟩)
   have:BB S.f oi.dst x dd=none:=A;rw [Dh (λe=>s dd e a)] at this;exact this
 ·exact h
theorem TC{oi oj:Oper}{S:BH}{u v:BH->BH}(f:(∃x,u=λS=>S.put oi.dst x)\/∃d q,oi.dst=some d/\u=λS=>S.GO d q)(c:(∃x,v=λS=>S.put oj.dst x)\/∃d q,oj.dst=some d/\v=λS=>S.GO d q)(h:∀t,oi.dst=some t->oj.dst≠some t):v (u S)=u (v S):=by
 rcases f with ⟨x,rfl⟩|⟨d,q,b,rfl⟩<;>rcases c with ⟨y,rfl⟩|⟨d',q',a,rfl⟩
 ·exact S.put_comm h
 ·exact S.SV λe=>h d' e a
 ·exact(S.SV (h d b)).symm
 ·exact S.Yv λe=>h d b (by rw [a,e])
theorem de.swap{ci m:Nat}{oi oj:Oper}{S:BH}{u:BH->BH}{K:BH->Prop}(k:ci=2\/ci=3\/(10<=ci/\m.testBit (ci - 10)=true))(l:oi.apart ops oj=true)(p:Mv P TB ops ci oi S u)(h:de P TB ops m oj K (u S)):de P TB ops m oj (λS'=>∃u,Mv P TB ops ci oi S' u/\K (u S')) S:=by
 obtain⟨v,z,w⟩:=Oper.apart_spec l;have b:=p.l7;have i:∀t,oi.dst=some t->oj.dst≠some t:=z;have g:∀(x:E) (σ:Ab) (nx:Nat),Kept m S.σ σ->Mv P TB ops ci oi (BH.put ⟨S.f,σ,nx,S.pd⟩ oj.dst x) u:=λx σ nx c=>p.put (λt ht=>w t ht) i (λe=>by omega) (λe=>c _ (by rcases k with n|n|n;omega;omega;exact n.2))
 have s:∀(x:E) (σ:Ab) (nx:Nat),BH.put ⟨(u S).f,σ,nx,(u S).pd⟩ oj.dst x=u (BH.put ⟨S.f,σ,nx,S.pd⟩ oj.dst x):=by
  intro x σ nx;have:=TC (S:=⟨S.f,σ,nx,S.pd⟩) b (.inl ⟨x,rfl⟩) i;rw [<-this]
  rcases b with ⟨y,rfl⟩|⟨d,q,_,rfl⟩<;>rfl
 have r:Bj ops oj (u S).f=Bj ops oj S.f:=by
  rcases b with ⟨y,rfl⟩|⟨d,q,_,rfl⟩
  ·exact GI v
  ·rfl
 have ag:∀t,.tmp t∈oj.op.operands->(u S).f t=S.f t:=by
  rcases b with ⟨y,rfl⟩|⟨d,q,_,rfl⟩
  ·exact Fu v
  ·exact λ_ _=>rfl
 have a:(u S).σ=S.σ/\(u S).nx=S.nx:=by rcases b with ⟨y,rfl⟩|⟨d,q,_,rfl⟩<;>exact⟨rfl,rfl⟩
 rcases h with ⟨o,j⟩|⟨o,j⟩
 ·refine .inl ⟨by rw [<-r];exact o,u,g _ S.σ S.nx (λ_ _=>rfl),?_⟩
  have:=s (.t []) S.σ S.nx;rw [<-a.1,<-a.2] at this;have e:BH.put ⟨(u S).f,(u S).σ,(u S).nx,(u S).pd⟩ oj.dst (.t [])=(u S).put oj.dst (.t []):=rfl;rw [e] at this;rw [this,a.1,a.2] at j;exact j
 ·refine .inr ⟨by rw [<-r];exact o,λΓ=>?_⟩
  have:=(j Γ).congr ag;rw [a.1,a.2] at this
  exact this.mono λx σ' nx' hk=>by
   have c:Kept m S.σ σ':=hk.1;exact⟨c,u,g x σ' nx' c,by rw [<-s];exact hk.2⟩
theorem St.swap{ci cj:Nat}{oi oj:Oper}{S:BH}{u:BH->BH}{K:BH->Prop}(f:oi.apart ops oj=true)(I:JE ci cj=true)(b:(!Nat.beq cj 5 || kW (ops:=ops) oi oj)=true)
 (k:Mv P TB ops ci oi S u) (h:St P TB ops cj oj K (u S)):St P TB ops cj oj (λS'=>∃u,Mv P TB ops ci oi S' u/\K (u S')) S:=by
 obtain⟨Q,Y,X⟩:=Oper.apart_spec f;have j:∀t,oi.dst=some t->oj.dst≠some t:=Y;have c:=k.l7;have H:=JF I;unfold St at *;by_cases V:cj=1
 ·rw [if_pos V] at h |-
  exact h.swap (by omega) f k
 ·rw [if_neg V] at h |-
  by_cases ck:1000<=cj
  ·rw [if_pos ck] at h |-
   refine h.swap ?_ f k
   rcases H with e|e|e|⟨Z,e2,e3,e4,R|R⟩
   ·exact .inl e
   ·exact .inr (.inl e)
   ·omega
   ·omega
   ·exact .inr (.inr ⟨Z,R⟩)
  rw [if_neg ck] at h |-;by_cases J:cj=5
  ·rw [if_pos J] at h |-
   obtain⟨d,T,z,r,p,m⟩:=h;have s:d∈oj.looksAt ops:=GN r;have a:oi.dst≠some d:=λe=>Q d e s
   have F:d∉oi.looksAt ops:=by
    subst J;unfold kW at b;simp only [qi,Bool.not_true,Bool.false_or,gt] at b;intro N;have:=b d N;simp [s] at this
   have n:S.pd d=some (T,z):=by
    rcases c with ⟨x,rfl⟩|⟨d',q,g,rfl⟩
    ·have:(if oi.dst=some d then none else S.pd d)=some (T,z):=p
     rwa [if_neg a] at this
    ·have:(if d=d' then some q else S.pd d)=some (T,z):=p
     rwa [if_neg (λe=>a (by rw [g,e]))] at this
   have i:(u S).ad d T z=u (S.ad d T z):=by
    rcases c with ⟨x,rfl⟩|⟨d',q,g,rfl⟩
    ·exact S.gb a
    ·exact S.dh λe=>a (by rw [g,e])
   have G:Mv P TB ops ci oi (S.ad d T z) u:=by
    have:=k.put (d:=some d) (x:=.o (.ptr S.nx z.length 0 0)) (σ:=(S.nx,.cells T z.length [z.map zC])::S.σ) (nx:=S.nx+1) (pd:=S.pd) (λt ht=>by injection ht with ht;subst ht;exact F) (λt ht e=>a (by rw [ht];exact e.symm)) (λe=>by omega) (λe=>by omega)
    rcases this with ⟨B,A,w⟩|⟨B,A,y,w,L⟩|⟨B,A,dd,T',z',w,L,a5,a6,a7,a8⟩
    ·exact .inl ⟨B,A,w⟩
    ·exact .inr (.inl ⟨B,A,y,w,L⟩)
    ·exact .inr (.inr ⟨B,A,dd,T',z',w,L,a5,a6,a7,a8⟩)
   rw [i] at m;exact⟨d,T,z,r,n,m.swap (by omega) f G⟩
  ·rw [if_neg J] at h |-
   obtain⟨v,M,hk⟩:=h;have l:=M.l7;refine⟨v,M.back c Q j,u,?_,by rw [<-TC c l j];exact hk⟩
   rcases l with ⟨x,rfl⟩|⟨d,q,N,rfl⟩
   ·exact k.put (σ:=S.σ) (nx:=S.nx) (pd:=S.pd) (λt ht=>X t ht) j (λ_=>⟨rfl,rfl⟩) (λ_=>rfl)
   ·exact k
end
section
variable {P:Program}{TB:Bi}{ops:Array Oper}
theorem EL(K:BH->Prop):∀(r:List (Nat×Nat)) (listed:Array Bool) (S:BH),Fb ops listed->A5 ops r listed=true->DC ops r=true->
 Lex P TB ops r K S->∀j,j∈Region.ready .any ops listed->∃t c s o,r=t++(j,c)::s/\ops[j]? = some o/\St P TB ops c o (Lex P TB ops (t++s) K) S
 | [],listed,_,_,m,_,_,j,p=>by have:=JM _ _ m j p;simp at this
 | (i, ci) :: r,listed,S,F,m,hk,h,j,p=>by
  obtain⟨oi,g,h⟩:=h;by_cases k:j=i
  ·subst k
   exact⟨[],ci,r,oi,rfl,g,h⟩
  ·simp only [A5,d6] at m
   simp only [DC,d6] at hk
   have hi:i∈Region.ready .any ops listed:=by simpa using m.1
   have y:j∈r.map (·.1):=JM r _ m.2 j (ready_mono p k);obtain⟨⟨j',cj⟩,n,rfl⟩:=em.1 y;have l:=hk.1;unfold QQ at l;rw [gt] at l
   have f:∀c',(j',c')∈r->∃oj,ops[j']? = some oj/\oi.apart ops oj=true/\JE ci c'=true/\(!Nat.beq c' 5 || kW (ops:=ops) oi oj)=true:=by
    intro c' w;have a:=l _ w;simp only [bu] at a;rw [nr] at a
    rcases a with a|a
    ·exact absurd p (Ly F (Tx (NH hi)) a)
    ·rw [g] at a
     cases e:ops[j']? with
     | none=>rw [e] at a;cases a
     | some oj=>
      rw [e] at a;simp only [d6] at a;exact⟨oj,rfl,a.1.1,a.1.2,a.2⟩
   have d:ci≠1/\¬1000<=ci/\ci≠5:=by
    obtain⟨oj,_,_,J,_⟩:=f cj n;have:=JF J;omega
   have L:∃u,Mv P TB ops ci oi S u/\Lex P TB ops r K (u S):=by
    unfold St at h;rwa [if_neg d.1,if_neg d.2.1,if_neg d.2.2] at h
   obtain⟨u,G,H⟩:=L;obtain⟨t,c,s,oj,B,e,I⟩:=EL K r (listed.setIfInBounds i true) _ (GX F hi) m.2 hk.2 H j' (ready_mono p k);obtain⟨oj',b,A,z,q⟩:=f c (by rw [B];simp);rw [e] at b
   injection b with b
   subst b;refine⟨(i,ci)::t,c,s,oj,by rw [B];rfl,e,?_⟩;refine(St.swap A z q G I).mono λS' ⟨u',v,x⟩=>?_;refine⟨oi,g,?_⟩;unfold St;rw [if_neg d.1,if_neg d.2.1,if_neg d.2.2];exact⟨u',v,x⟩
theorem JK:∀(e a:List (Nat×Nat)) (x:Nat×Nat),DC ops (e++x::a)=true->DC ops (e++a)=true
 | [],a,(j,c),h=>by
  simp only [oV,DC,d6] at h;exact h.2
 | (i,d)::e,a,x,h=>by
  simp only [n9,DC,d6] at h |-;refine⟨?_,JK e a x h.2⟩;have f:=h.1;unfold QQ at f |-;rw [gt] at f |-;intro y b;refine f y ?_
  rcases f9.1 b with b|b
  ·exact m9 _ b
  ·exact nI _ (nq _ b)
structure Xh (Γ:Ctx) (V:View) (σ:Ab) (b:Nat) (T:TypeId) (z:List Value):Prop where
 cells:∃cur:Array Value,V.w.heap[b]? = some (.cells cur T (0,0))/\cur.toList=z
 ni:¬V.I b
 ns:∀id o,look σ id=some o->¬V.nl id->¬DY V id o b
 lo:Γ.V.w.heap.size<=b
 zok:z.all OQ=true
theorem Xh.lt{Γ:Ctx}{V:View}{σ:Ab}{b:Nat}{T:TypeId}{z:List Value}(h:Xh Γ V σ b T z):b < V.w.heap.size:=by
 obtain⟨cur,a,_⟩:=h.cells;exact(ng.1 a).1
theorem Inv.comp{Γ:Ctx}{V V':View}{σ σ':Ab}{Q:RP}(h:Inv TB Γ V σ)(n:∀b,Q.J b->Γ.J b\/Γ.V.w.heap.size<=b\/Γ.F b)(m:∀b,Q.B b->Γ.V.w.heap.size<=b\/Γ.F b)(d:Inv TB (Fc V V σ Q) V' σ'):Inv TB Γ V' σ':=by
 have f:∀b,Dl V σ b\/Q.B b->Γ.V.w.heap.size<=b\/Γ.F b:=by
  rintro b (⟨id,o,c,e,a⟩|hb)
  ·exact h.live id o c e b a
  ·exact m b hb
 refine⟨d.os.trans h.os,d.tape.trans h.tape,d.output.trans h.output,λb hb g=>?_,d.iLt,λb hb=>?_,h.ext.trans d.ext,d.st,λid o c e b hb=>?_,d.tabs,?_⟩
 ·have c:¬(Dl V σ b\/Q.B b):=λl=>by rcases f b l with e|e;omega;exact g e
  exact(d.old b (mW hb h.ext.size) c).trans (h.old b hb g)
 ·rcases d.iNew b hb with c|c|c
  ·exact h.iNew b c
  ·exact .inr (.inl (kw h.ext.size c))
  ·exact .inr (f b c)
 ·rcases d.live id o c e b hb with a|a
  ·exact .inl (kw h.ext.size a)
  ·exact f _ a
 ·obtain⟨Q1,k,j,i⟩:=d.hid
  refine⟨Q1,k,λb hb=>?_,λb hb=>?_⟩
  ·rcases j b hb with a|a|a
   ·exact n b a
   ·exact .inr (.inl (kw h.ext.size a))
   ·exact .inr (f b a)
  ·rcases i b hb with a|a
   ·exact .inl (kw h.ext.size a)
   ·exact f b a
theorem Xh.comp{Γ:Ctx}{V V':View}{σ σ':Ab}{b:Nat}{T:TypeId}{z:List Value}{Q:RP}(hp:Xh Γ V σ b T z)(g:¬Q.B b)(i:Inv TB (Fc V V σ Q) V' σ'):Xh Γ V' σ' b T z:=by
 have h:=hp.lt
 have c:¬(Dl V σ b\/Q.B b):=by
  rintro(⟨id,o,a,f,d⟩|hb)
  ·exact hp.ns id o a f d
  ·exact g hb
 refine⟨?_,λj=>?_,λid o a f e=>?_,hp.lo,hp.zok⟩
 ·obtain⟨cur,a,f⟩:=hp.cells
  exact⟨cur,(i.old b h c).trans a,f⟩
 ·rcases i.iNew b j with a|a|a
  ·exact hp.ni a
  ·have a:V.w.heap.size<=b:=a;omega
  ·exact c a
 ·rcases i.live id o a f b e with d|d
  ·have d:V.w.heap.size<=b:=d;omega
  ·exact c d
structure jd (TB:Bi) (Γ:Ctx) (V:View) (S:BH) (a:Act) (Q:RP):Prop where
 s:LC TB V S.σ Q
 j:∀b,Q.J b->Γ.J b\/Γ.V.w.heap.size<=b\/Γ.F b
 b:∀b,Q.B b->Γ.V.w.heap.size<=b\/Γ.F b
 p:∀d q b,S.pd d=some q->a.tmps[d]? = some (.pointer (some ⟨b,0,none⟩))->¬Q.B b
structure IE (TB:Bi) (Γ:Ctx) (N:Nat) (V:View) (S:BH) (a:Act):Prop where
 st:BY TB Γ N V S.f S.σ S.nx a
 pd:∀d T z,S.pd d=some (T,z)->S.f d=none/\∃b,a.tmps[d]? = some (.pointer (some ⟨b,0,none⟩))/\Xh Γ V S.σ b T z
 ne:∀d d' q q' b b',S.pd d=some q->S.pd d'=some q'->d≠d'->a.tmps[d]? = some (.pointer (some ⟨b,0,none⟩))->a.tmps[d']? = some (.pointer (some ⟨b',0,none⟩))->b≠b'
 sc:∃Q,jd TB Γ V S a Q
variable {Γ:Ctx}{N:Nat}{V V':View}{S:BH}{a:Act}
theorem Hk{a:Act}{d:Option Tmp}{v:Value}{t:Nat}(h:d≠some t):(a.put d v).tmps[t]? = a.tmps[t]?:=by
 cases d with
 | none=>rfl
 | some d=>
  have:d≠t:=λe=>h (by rw [e]);simp [Act.put,oz this]
theorem IE.put(h:IE TB Γ N V S a){d:Option Tmp}{x:E}{v:Value}{σ':Ab}{nx':Nat}(M:∀t,d=some t->t < N)(e:Ext V V'){Q:RP}(l:jd TB Γ V S a Q)(hi:Inv TB (Fc V V S.σ Q) V' σ')(L:V'.nx=nx')(K:A2 V' x v):IE TB Γ N V' (BH.put ⟨S.f,σ',nx',S.pd⟩ d x) (a.put d v):=by
 have hp:∀t q,(if d=some t then none else S.pd t)=some q->d≠some t/\S.pd t=some q:=λt q i=>by
  split at i
  ·cases i
  ·rename_i k;exact⟨k,i⟩
 refine⟨h.st.put M e (Inv.comp h.st.inv l.j l.b hi) L K,λt T z i=>?_,λt t' q q' b b' i B k hb r=>?_,?_⟩
 ·obtain⟨n,m⟩:=hp t _ i
  obtain⟨c,b,g,A⟩:=h.pd t T z m;refine⟨?_,b,by rw [Hk n];exact g,A.comp (l.p t _ b m g) hi⟩
  show BB S.f d x t=none
  rw [Dh n];exact c
 ·obtain⟨n,m⟩:=hp t _ i
  obtain⟨G,F⟩:=hp t' _ B;rw [Hk n] at hb;rw [Hk G] at r;exact h.ne t t' q q' b b' m F k hb r
 ·obtain⟨Q1,J,I,H⟩:=hi.hid
  refine⟨Q1,J,λb hb=>?_,λb hb=>?_,λt q b i hb P=>?_⟩
  ·rcases I b hb with c|c|c|c
   ·exact l.j b c
   ·exact .inr (.inl (kw h.st.inv.ext.size c))
   ·obtain⟨id,o,y,u,s⟩:=c;exact .inr (h.st.inv.live id o y u b s)
   ·exact .inr (l.b b c)
  ·rcases H b hb with c|c|c
   ·exact .inl (kw h.st.inv.ext.size c)
   ·obtain⟨id,o,y,u,s⟩:=c;exact h.st.inv.live id o y u b s
   ·exact l.b b c
  ·obtain⟨n,m⟩:=hp t _ i
   rw [Hk n] at hb;obtain⟨_,R,g,A⟩:=h.pd t q.1 q.2 m;rw [hb] at g
   injection g with g;injection g with g;injection g with g;injection g with g
   subst g
   rcases H b P with c|c|c
   ·have c:V.w.heap.size<=b:=c
    have:=A.lt;omega
   ·obtain⟨id,o,y,u,s⟩:=c;exact A.ns id o y u s
   ·exact l.p t _ b m hb c
theorem Inv.grow{σ:Ab}(h:Inv TB Γ V σ){w:World}(c:w.os=V.w.os)(ht:w.tape=V.w.tape)(g:w.output=V.w.output)(a:V.w.heap.size<=w.heap.size)(hw:∀b,b < V.w.heap.size->w.heap[b]? = V.w.heap[b]?):Inv TB Γ { V with w:=w } σ/\Ext V { V with w:=w } := by
 have e:Ext V { V with w:=w } := ⟨λ_ h=>h,λb hb=>hw b (h.iLt b hb),a,λ_ _=>rfl,λ_ _=>rfl,λ_ _=>Iff.rfl,io _⟩
 refine⟨⟨c.trans h.os,ht.trans h.tape,g.trans h.output,λb hb j=>(hw b (mW hb h.ext.size)).trans (h.old b hb j),λb hb=>mW (h.iLt b hb) a,h.iNew,h.ext.trans e,⟨λid o d=>?_,h.st.lt,h.st.free,h.st.inj⟩,h.live,λx f=>?_,h.hid.step (λ_ h=>h) e.heap a (λb hb _ _=>hw b hb) (λ_ h=>.inl h) λb hb=>.inl (HO e h.st.lt hb)⟩,e⟩
 ·exact(h.st.obj id o d).Bn e (h.st.lt id o d) λi b hb=>hw _ ((h.st.obj id o d).blt i hb)
 ·have:=h.tabs x f
  exact⟨this.1,(hw _ (h.iLt _ this.1)).trans this.2⟩
theorem IE.alloc(h:IE TB Γ N V S a){d:Tmp}{T:TypeId}{zv:Value}{z:List Value}(J:d < N)(G:S.f d=none)(I:zv.cells.toList=z)(B:z.all OQ=true):IE TB Γ N { V with w:=V.w.alloc (.cells zv.cells T) } (S.GO d (T,z)) (a.put (some d) (.pointer (some ⟨V.w.heap.size,0,none⟩))):=by
 obtain⟨hi,x⟩:=Inv.grow h.st.inv (w:=V.w.alloc (.cells zv.cells T)) rfl rfl rfl (by simp) (λb hb=>A1 _ _ _ hb)
 have F:d < a.tmps.size:=by rw [h.st.size];exact J
 have k:(a.put (some d) (.pointer (some ⟨V.w.heap.size,0,none⟩))).tmps[d]? = some (.pointer (some ⟨V.w.heap.size,0,none⟩)):=by
  simp [Act.put,F]
 refine⟨⟨λt e ht=>?_,h.st.lt,by simp [Act.put,h.st.size],hi,h.st.nx,h.st.defers⟩,λt T' z' g=>?_,λt t' q q' b b' g i m hb c=>?_,?_⟩
 ·have ht:S.f t=some e:=ht
  have m:d≠t:=λe=>by subst e;rw [G] at ht;cases ht
  have:=(h.st.env t e ht).ext x
  simpa [Act.put,oz m] using this
 ·have g:(if t=d then some (T,z) else S.pd t)=some (T',z'):=g
  by_cases e:t=d
  ·subst e
   rw [if_pos rfl] at g
   injection g with g;injection g with A y
   subst A y;refine⟨G,_,k,⟨⟨zv.cells,BZ _ _,I⟩,λK=>?_,λid o v l e=>?_,?_,B⟩⟩
   ·exact Nat.lt_irrefl _ (h.st.inv.iLt _ K)
   ·have n:=(h.st.inv.st.obj id o v).blt l e
    omega
   ·exact h.st.inv.ext.size
  ·rw [if_neg e] at g
   obtain⟨v,b,l,n⟩:=h.pd t T' z' g;refine⟨v,b,by rw [Hk (λe'=>e (by injection e' with e';exact e'.symm))];exact l,⟨?_,n.ni,n.ns,n.lo,n.zok⟩⟩;obtain⟨cur,M,L⟩:=n.cells;exact⟨cur,(A1 _ _ _ n.lt).trans M,L⟩
 ·have g:(if t=d then some (T,z) else S.pd t)=some q:=g
  have i:(if t'=d then some (T,z) else S.pd t')=some q':=i
  have old:∀t q b,t≠d->S.pd t=some q->(a.put (some d) (.pointer (some ⟨V.w.heap.size,0,none⟩))).tmps[t]? = some (.pointer (some ⟨b,0,none⟩))->a.tmps[t]? = some (.pointer (some ⟨b,0,none⟩))/\b < V.w.heap.size:=λt q b e g hb=>by
   rw [Hk (λe'=>e (by injection e' with e';exact e'.symm))] at hb;obtain⟨_,P,l,n⟩:=h.pd t q.1 q.2 g;rw [hb] at l
   injection l with l;injection l with l;injection l with l;injection l with l
   subst l;exact⟨hb,n.lt⟩
  by_cases e:t=d
  ·subst e
   rw [k] at hb
   injection hb with hb;injection hb with hb;injection hb with hb;injection hb with hb
   rw [if_neg (Ne.symm m)] at i;have:=(old t' q' b' (Ne.symm m) i c).2;omega
  ·rw [if_neg e] at g
   have v:=old t q b e g hb;by_cases e':t'=d
   ·subst e'
    rw [k] at c
    injection c with c;injection c with c;injection c with c;injection c with c
    omega
   ·rw [if_neg e'] at i
    exact h.ne t t' q q' b b' g i m v.1 (old t' q' b' e' i c).1
 ·obtain⟨Q,u⟩:=h.sc
  refine⟨Q,u.s.step (λ_ h=>h) x.heap x.size (λb hb _ _=>A1 _ _ _ hb) (λ_ h=>.inl h) λb hb=>.inl (HO x h.st.inv.st.lt hb),u.j,u.b,λt q b g hb H=>?_⟩;have g:(if t=d then some (T,z) else S.pd t)=some q:=g;by_cases e:t=d
  ·subst e
   rw [k] at hb
   injection hb with hb;injection hb with hb;injection hb with hb;injection hb with hb
   have:=u.s.r.blt H;omega
  ·rw [if_neg e] at g
   rw [Hk (λe'=>e (by injection e' with e';exact e'.symm))] at hb;exact u.p t q b g hb H
theorem IE.jk(h:IE TB Γ N V S a){d:Tmp}{T:TypeId}{z:List Value}(hd:d < N)(hq:S.pd d=some (T,z)):∃V',V'.w=V.w/\IE TB Γ N V' (S.ad d T z) a:=by
 obtain⟨hf,b,hb,hp⟩:=h.pd d T z hq;obtain⟨cur,hcur,Y⟩:=hp.cells;have hi:=h.st.inv;have X:=h.st.nx;have e:Ext V (Aw V b 1 False V.w):=Ec (io _) λ_ _=>rfl
 have G:(Aw V b 1 False V.w).ρ V.nx=b:=by simp [Aw]
 have hrel:C0 (Aw V b 1 False V.w) (z.map zC) cur:=by
  refine⟨by rw [f7,<-Y];simp,λj c v Z hv=>?_⟩
  have hzj:z[j]? = some v:=by rw [<-Y,nZ];exact hv
  rw [d9,hzj] at Z
  injection Z with Z
  subst Z;exact Jg (gt.1 hp.zok v (ce hzj))
 have k:∀id o,look ((S.nx,O.cells T z.length [z.map zC])::S.σ) id=some o->(id=V.nx/\o=O.cells T z.length [z.map zC])\/(id≠V.nx/\look S.σ id=some o):=λid o y=>by
  rw [Ax] at y;rw [<-X] at y;by_cases hid:V.nx=id
  ·rw [if_pos hid] at y;injection y with y;exact .inl ⟨hid.symm,y.symm⟩
  ·rw [if_neg hid] at y;exact .inr ⟨Ne.symm hid,y⟩
 have n:∀id,id < V.nx->((Aw V b 1 False V.w).nl id↔V.nl id):=λid hid=>e.nl id hid;obtain⟨Q,K⟩:=h.sc
 have hsQ:LC TB (Aw V b 1 False V.w) ((S.nx,O.cells T z.length [z.map zC])::S.σ) Q:=by
  refine⟨K.s.r,K.s.ji,K.s.bi,λb' ⟨id,o,y,J,l⟩ hB=>?_⟩
  rcases k id o y with ⟨rfl,rfl⟩|⟨L,B⟩
  ·have l:b'=_:=l
   rw [G] at l;subst l;exact K.p d _ _ hq hb hB
  ·have g:=hi.st.lt id o B
   exact K.s.ap b' ⟨id,o,B,λu=>J ((n id g).2 u),(AE e g).1 l⟩ hB
 have hinv:Inv TB Γ (Aw V b 1 False V.w) ((S.nx,O.cells T z.length [z.map zC])::S.σ):=by
  refine⟨hi.os,hi.tape,hi.output,hi.old,hi.iLt,hi.iNew,hi.ext.trans e,⟨λid o y=>?_,λid o y=>?_,λid o y J b' l hI=>?_,λid id' o o' y hl' M J hn' b' A I=>?_⟩,λid o y J b' l=>?_,hi.tabs,⟨Q,hsQ,K.j,K.b⟩⟩
  ·rcases k id o y with ⟨rfl,rfl⟩|⟨L,B⟩
   ·refine .inr ⟨by simp [Aw],cur,by rw [G];exact hcur,?_,by simp [Aw],by simp [Aw,maxLen],?_,?_⟩
    ·simp [Aw,<-Y]
    ·intro r hr;simp at hr;subst hr;simp
    ·intro i r j c hi Z
     have L:=WM hrel i r j c hi Z;rw [f7] at L;exact L
   ·exact(hi.st.obj id o B).Bn e (hi.st.lt id o B) λ_ _ _=>rfl
  ·rcases k id o y with ⟨rfl,rfl⟩|⟨L,B⟩
   ·exact oY _
   ·exact oN (hi.st.lt id o B)
  ·rcases k id o y with ⟨rfl,rfl⟩|⟨L,B⟩
   ·have l:b'=_:=l
    rw [G] at l;subst l;exact hp.ni hI
   ·have g:=hi.st.lt id o B
    exact hi.st.free id o B (λu=>J ((n id g).2 u)) b' ((AE e g).1 l) hI
  ·rcases k id o y with ⟨rfl,rfl⟩|⟨L,B⟩<;>rcases k id' o' hl' with ⟨rfl,rfl⟩|⟨h1',P⟩
   ·exact absurd rfl M
   ·have g:=hi.st.lt id' o' P
    have A:b'=_:=A;rw [G] at A;subst A;exact hp.ns id' o' P (λu=>hn' ((n id' g).2 u)) ((AE e g).1 I)
   ·have g:=hi.st.lt id o B
    have I:b'=_:=I;rw [G] at I;subst I;exact hp.ns id o B (λu=>J ((n id g).2 u)) ((AE e g).1 A)
   ·have g:=hi.st.lt id o B
    have R:=hi.st.lt id' o' P;exact hi.st.inj id id' o o' B P M (λu=>J ((n id g).2 u)) (λu=>hn' ((n id' R).2 u)) b' ((AE e g).1 A) ((AE e R).1 I)
  ·rcases k id o y with ⟨rfl,rfl⟩|⟨L,B⟩
   ·have l:b'=_:=l
    rw [G] at l;subst l;exact .inl hp.lo
   ·have g:=hi.st.lt id o B
    exact hi.live id o B (λu=>J ((n id g).2 u)) b' ((AE e g).1 l)
 refine⟨Aw V b 1 False V.w,rfl,⟨λt x ht=>?_,λt x ht=>?_,h.st.size,hinv,by show V.nx+1=S.nx+1;rw [X],h.st.defers⟩,λt T' z' H=>?_,λt t' q q' b1 b1' m F M A hb1'=>?_,⟨Q,hsQ,K.j,K.b,λt q b1 m A=>?_⟩⟩
 ·by_cases et:t=d
  ·subst et
   have ht:BB S.f (some t) (.o (.ptr S.nx z.length 0 0)) t=some x:=ht;simp only [BB,if_true] at ht
   injection ht with ht
   subst ht
   have hg:a.tmps.getD t undef=.pointer (some ⟨b,0,none⟩):=by simp [hb]
   rw [hg,<-X];exact Mg
  ·have ht:BB S.f (some d) (.o (.ptr S.nx z.length 0 0)) t=some x:=ht
   rw [Dh (λe'=>et (by injection e' with e';exact e'.symm))] at ht;exact(h.st.env t x ht).ext e
 ·by_cases et:t=d
  ·subst et;exact hd
  ·have ht:BB S.f (some d) (.o (.ptr S.nx z.length 0 0)) t=some x:=ht
   rw [Dh (λe'=>et (by injection e' with e';exact e'.symm))] at ht;exact h.st.lt t x ht
 ·have H:(if t=d then none else S.pd t)=some (T',z'):=H
  by_cases et:t=d
  ·rw [if_pos et] at H;cases H
  ·rw [if_neg et] at H
   obtain⟨L,b2,B,h3⟩:=h.pd t T' z' H;refine⟨?_,b2,B,⟨h3.cells,h3.ni,λid o y J=>?_,h3.lo,h3.zok⟩⟩
   ·show BB S.f (some d) _ t=none
    rw [Dh (λe'=>et (by injection e' with e';exact e'.symm))];exact L
   ·rcases k id o y with ⟨rfl,rfl⟩|⟨h4,h5⟩
    ·intro u
     have u:b2=_:=u;rw [G] at u;exact h.ne d t _ _ b b2 hq H (Ne.symm et) hb B u.symm
    ·have g:=hi.st.lt id o h5
     exact λu=>h3.ns id o h5 (λu=>J ((n id g).2 u)) ((AE e g).1 u)
 ·have m:(if t=d then none else S.pd t)=some q:=m
  have F:(if t'=d then none else S.pd t')=some q':=F;by_cases et:t=d
  ·rw [if_pos et] at m;cases m
  ·by_cases et':t'=d
   ·rw [if_pos et'] at F;cases F
   ·rw [if_neg et] at m;rw [if_neg et'] at F
    exact h.ne t t' q q' b1 b1' m F M A hb1'
 ·have m:(if t=d then none else S.pd t)=some q:=m
  by_cases et:t=d
  ·rw [if_pos et] at m;cases m
  ·rw [if_neg et] at m
   exact K.p t q b1 m A
end
end Go.Am.R
namespace Go.Am
open Go
set_option linter.unusedVariables false
set_option linter.unusedSimpArgs false
inductive FL (σ:Ab) (ids:List Nat):List C->List C->Prop
 | nil:FL σ ids [] []
 | cons {c c':C} {cs cs':List C}:FC σ ids c c'->FL σ ids cs cs'->FL σ ids (c::cs) (c'::cs')
theorem FL.len{σ:Ab}{ids:List Nat}{l l':List C}(h:FL σ ids l l'):l'.length=l.length:=by
 induction h with
 | nil=>rfl
 | cons _ _ a=>simp [a]
theorem FL.get{σ:Ab}{ids:List Nat}{l l':List C}(h:FL σ ids l l'):∀(j:Nat) c',l'[j]? = some c'->∃c,l[j]? = some c/\FC σ ids c c':=by
 induction h with
 | nil=>intro j c' h;simp at h
 | @cons f e cs cs' d _ b=>
  intro j c' a
  cases j with
  | zero=>simp at a;subst a;exact⟨f,rfl,d⟩
  | succ j=>exact b j c' (by simpa using a)
def OU(σ:Ab)(ids:List Nat):Ab->Prop
 | []=>True
 | (id,.cells T k [r'])::S=>(∃r,look σ id=some (.cells T k [r])/\id∉ids/\FL σ ids r r')/\OU σ ids S
 | _=>False
theorem OU.get{σ:Ab}{ids:List Nat}:∀ {S:Ab},OU σ ids S->∀id o',look S id=some o'->∃T k r r',o'=.cells T k [r']/\look σ id=some (.cells T k [r])/\id∉ids/\FL σ ids r r'
 | [],_,id,o',h=>by cases h
 | (i, o)::S,a,id,o',h=>by
  match o,a with
  | .cells T k [r'],a=>
   rw [Ax] at h;by_cases hi:i=id
   ·rw [if_pos hi] at h
    injection h with h
    subst h;subst hi;obtain⟨r,d,c,b⟩:=a.1;exact⟨T,k,r,r',rfl,d,c,b⟩
   ·rw [if_neg hi] at h
    exact OU.get a.2 id o' h
section
variable {P:Program}{TB:Bi}{Γ:Ctx}{N:Nat}{σ:Ab}
theorem BY.LV{V:View}{f:Env}{nx:Nat}{a:Act}(h:BY TB Γ N V f σ nx a)(ids:List Nat)(L:List (Nat×E))(S:Ab)(J:DE σ ids f L)(u:OU σ ids S):BY TB Γ N (Ky V σ ids) (look L) S nx a:=by
 have e:Ext V (Ky V σ ids):=LW;have hi:=h.inv;refine⟨λt x m=>?_,λt x m=>?_,h.size,?_,h.nx,h.defers⟩
 ·obtain⟨y,g,w⟩:=J.get t x m
  exact w.rel h.inv (h.env t y g)
 ·obtain⟨y,g,_⟩:=J.get t x m
  exact h.lt t y g
 ·refine⟨hi.os,hi.tape,hi.output,hi.old,?_,?_,hi.ext.trans e,⟨?_,?_,?_,?_⟩,?_,λx m=>⟨.inl (hi.tabs x m).1,(hi.tabs x m).2⟩,hi.hid.same rfl (λ_ h=>.inl h) (λb hb=>hb.elim .inl λ⟨id,o,_,d,l,B⟩=>.inr ⟨id,o,d,l,B⟩) λb ⟨id,o,d,l,hb⟩=>?_⟩
  ·rintro b (hb|⟨id,o,_,d,l,hb⟩)
   ·exact hi.iLt b hb
   ·exact(hi.st.obj id o d).blt l hb
  ·rintro b (hb|⟨id,o,_,d,l,hb⟩)
   ·exact hi.iNew b hb
   ·exact .inr (hi.live id o d l b hb)
  ·intro id o d
   obtain⟨T,k,r,r',rfl,g,w,M⟩:=u.get id o d
   rcases hi.st.obj id _ g with ⟨K,F⟩|⟨h0,cur,K,F,h6,h7,h8,Z⟩
   ·cases F
   ·refine .inr ⟨h0,cur,K,F,h6,h7,λx m=>?_,λi x j c' s R=>?_⟩
    ·simp at m;subst m;rw [M.len];exact h8 r (by simp)
    ·have A:i=0:=by have:=(am.1 s).1;simp at this;omega
     subst A;simp at s;subst s;obtain⟨c,Y,X⟩:=M.get j c' R;obtain⟨v,I,H⟩:=Z 0 r j c rfl Y;exact⟨v,I,X.rel hi H⟩
  ·intro id o d
   obtain⟨T,k,r,r',_,g,_,_⟩:=u.get id o d;exact hi.st.lt id _ g
  ·intro id o d l b n hb
   obtain⟨T,k,r,r',rfl,g,w,_⟩:=u.get id o d
   rcases hb with hb|⟨id',o',Q,q,p,B⟩
   ·exact hi.st.free id _ g l b n hb
   ·exact hi.st.inj id id' _ o' g q (λe=>w (e ▸ Q)) l p b n B
  ·intro id id' o o' d q z l p b hb n
   obtain⟨T,k,r,r',rfl,g,_,_⟩:=u.get id o d;obtain⟨T2,k2,r2,P,rfl,G,_,_⟩:=u.get id' o' q;exact hi.st.inj id id' _ _ g G z l p b hb n
  ·intro id o d l b hb
   obtain⟨T,k,r,r',rfl,g,_,_⟩:=u.get id o d;exact hi.live id _ g l b hb
  ·obtain⟨T,k,r,r',rfl,g,_,_⟩:=u.get id o d
   exact⟨id,_,g,l,hb⟩
theorem Au.LV{c:Code}{Q:Exit->Env->Ab->Nat->Prop}{f:Env}{nx:Nat}(ids:List Nat)(L:List (Nat×E))(S:Ab)(e:DE σ ids f L)(d:OU σ ids S)(h:Au P TB Γ N c Q (look L) S nx):Au P TB Γ N c Q f σ nx:=
 λV a b=>h (Ky V σ ids) a (b.LV ids L S e d)
theorem eL{d:Option Tmp}{ty:TypeId}{pos:String}{af:Array Edge}{g:Option (Nat×Bool)}{f:Env}{nx:Nat}{t k e:TypeId}{x y:Operand}{id:Nat}{l:List (List UInt8×Int)}{s:List UInt8}[B:DV P t k e][hk:CR P k][K:HD P e (.int .i64 0)](M:ev f x=some (.o (.mp id)))(L:ev f y=some (eT s))(N:look σ id=some (.mp (Ev l))) :
 AO P TB Γ ⟨d,.lookup t x y false,ty,pos,af,g⟩ f σ nx (eI .i64 ((BQ l s).getD 0)):=
 AG λV ρ A hi=>by
  have J:=A.get (by simp [Op.operands]) M;have I:ρ y=.string ⟨s.toArray⟩:=AA.val (A.get (by simp [Op.operands]) L);generalize z:ρ x=v at J
  cases J with
  | mp hid=>
   obtain⟨X,ents,clock,H,R⟩:=hi.st.obj id _ N;obtain⟨r,Q,h⟩:=Jx s l ents.toList 0 R;have a:=K.out;simp only [m8] at a;obtain⟨i,p,m⟩:=a
   have j:(zeroValue e).run P V.w=.ok (.int .i64 0) V.w:=by simp [zeroValue,typeInfo,p,m,go_sem]
   have b:(Instr.findKey k (.string ⟨s.toArray⟩) ents.toList).run P V.w=.ok r V.w:=by simp [Instr.findKey,run_underlying hk.out,Q,go_sem]
   have c:=I0 hk.out ents.isEmpty ⟨s.toArray⟩ V.w;refine⟨.int .i64 ((BQ l s).getD 0),?_,.d (.v rfl)⟩
   cases r with
   | none=>
    have u:BQ l s=none:=by simpa using h.symm
    simp [execOp,z,I,Instr.lookup,run_underlying B.out,MapKept.run_getObj_map H,c,b,j,u,go_sem]
   | some q=>
    obtain⟨n,u,G⟩:∃n,BQ l s=some n/\q.2=.int .i64 n:=by
     cases F:BQ l s with
     | none=>rw [F] at h;simp at h
     | some n=>rw [F] at h;exact⟨n,rfl,by simpa using h⟩
    obtain⟨T,S⟩:=q;simp only at G;subst G;simp [execOp,z,I,Instr.lookup,run_underlying B.out,MapKept.run_getObj_map H,c,b,u,go_sem]
end
end Go.Am
