/-
  The steps of a walk, in one: what the next operation gives is reckoned.
-/
import Derived.Test.YtbfgijpfhgmepaaGreatDoorPart6
set_option linter.constructorNameAsVariable false
set_option linter.unusedSectionVars false
set_option linter.unusedSimpArgs false
set_option linter.unusedVariables false
namespace Go.Am
open Go
abbrev Gv:=Prop×List (Nat×E)×Ab×Nat
def gy(T : List (Nat×TI))(md sl:Bool)(ops:Array Oper)(fl:Fl)(i:Nat)(L:List (Nat×E))(σ:Ab)(nx:Nat):Option Gv:=
 match O6 ops.toList (fl.p i) with
 | some ⟨ds,op,ty,pos,af,g⟩=>match BB ops ⟨ds,op,ty,pos,af,g⟩ (look L) with
  | some true=>match ds with
   | some d=>match cY T md (look L) op with
    | some (q,e)=>some (q,(d,e)::L,σ,nx)
    | none=>match Yu T sl (fl i) nx σ L (some d) op with
     | some (L',σ',nx')=>some (True,L',σ',nx')
     | none=>none
   | none=>match Yu T sl (fl i) nx σ L none op with
    | some (L',σ',nx')=>some (True,L',σ',nx')
    | none=>none
  | some false=>match ds with
   | some d=>some (True,(d,.t [])::L,σ,nx)
   | none=>some (True,L,σ,nx)
  | none=>none
 | none=>none
def iL(ops:Array Oper)(fl:Fl)(i:Nat)(L:List (Nat×E)):Option (Option Tmp×Op):=match O6 ops.toList (fl.p i) with
 | some ⟨ds,op,ty,pos,af,g⟩=>match BB ops ⟨ds,op,ty,pos,af,g⟩ (look L) with
  | some true=>some (ds,op)
  | _=>none
 | none=>none
def mq(T:List (Nat×TI))(ops:Array Oper)(fl:Fl)(i:Nat)(L:List (Nat×E)):Option (Nat×List (List D)):=match iL ops fl i L with
 | some (some d,.call ⟨.builtin .len,⟨[x]⟩,⟨[t]⟩⟩)=>match (JR T t).sl,ev (look L) x with
  | some _,some (.o (.d (.l rows)))=>some (d,rows)
  | _,_=>none
 | _=>none
structure As where
 β:Type
 l:List β
 m:Nat
 k:β->Option Gv
def lD(T : List (Nat×TI))(ops:Array Oper)(fl:Fl)(i:Nat)(L:List (Nat×E))(σ:Ab)(nx:Nat):Option As:=match iL ops fl i L with
 | some (some d,.indexAddr t x y)=>match (JR T t).sl,ev (look L) x,ev (look L) y with
  | some (_,k,_),some (.o (.d (.l rows))),some (.o (.d (.v (.int _ m))))=>some ⟨List D,rows,m.toNat,λr=>match Nat.beq r.length k with
   | true=>some (0<=m,(d,.o (.ip r))::L,σ,nx)
   | false=>none⟩
  | _,_,_=>none
 | some (some d,.index t x y)=>match (JR T t).st,ev (look L) x,ev (look L) y with
  | true,some (.o (.d (.v (.string ⟨⟨s⟩⟩)))),some (.o (.d (.v (.int _ m))))=>some ⟨UInt8,s,m.toNat,λc=>some (0<=m,(d,eI .u8 (c.toNat:Int))::L,σ,nx)⟩
  | _,_,_=>none
 | some (some d,.load t x)=>match (JR T t).ld,ev (look L) x with
  | some (ag,m),some (.o (.ptr id k i' j))=>match look σ id with
   | some (.cells _ k' rows)=>match Nat.beq k k',fi (fl i) (some (.o (.ptr id k i' j))) with
    | true,true=>some ⟨List C,rows,i',λr=>match ix ag m j r with
     | some e=>some (True,(d,e)::L,σ,nx)
     | none=>none⟩
    | _,_=>none
   | _=>none
  | _,_=>none
 | some (none,.store t x y)=>match (JR T t).ld,ev (look L) x,ev (look L) y with
  | some (_,m),some (.o (.ptr id k i' j)),some e=>match look σ id with
   | some (.cells ct k' rows)=>match Nat.beq k k',Nat.beq (fl i) 1,TC e,Nat.beq (eC e).length m,Nat.ble (j+m) k with
    | true,true,true,true,true=>some ⟨List C,rows,i',λr=>some (True,L,(id,.cells ct k (rows.set i' (Ae r j (eC e))))::σ,nx)⟩
    | _,_,_,_,_=>none
   | _=>none
  | _,_,_=>none
 | _=>none
def mH(T:List (Nat×TI))(ops:Array Oper)(fl:Fl)(i:Nat)(L:List (Nat×E)):Option (Nat×Bool):=match iL ops fl i L with
 | some (some d,op)=>match Uv T (look L) op with
  | some c=>some (d,c)
  | none=>none
 | _=>none
def mO(ops:Array Oper)(fl:Fl)(i:Nat)(L:List (Nat×E)):Option Bool:=match O6 ops.toList (fl.p i) with
 | some ⟨_,_,_,_,_,some (j,_)⟩=>match (ops[j]?).bind (·.dst) with
  | some t=>match look L t with
   | some (.o (.d (.v (.bool b))))=>some b
   | _=>none
  | none=>none
 | _=>none
def k8(ops:Array Oper)(fl:Fl)(i:Nat)(L:List (Nat×E)):Option (Nat×FuncId×List E):=match iL ops fl i L with
 | some (some d,.call ⟨.value x,args,_⟩)=>match ev (look L) x,JP (look L) args.toList with
  | some (.o (.fn gg cap)),some es=>match es.all E.Cj && C.Dg cap with
   | true=>some (d,gg,es++cap.map .o)
   | false=>none
  | _,_=>none
 | _=>none
section
variable {P:Program}{TB:Bz}{Z:Ctx}{ops:Array Oper}{fl:Fl}{i n:Nat}{L L':List (Nat×E)}{σ σ':Ab}{nx nx' d:Nat}{K:Env->Ab->Nat->Prop}
theorem Ik{ds:Option Tmp}{op:Op}(h:iL ops fl i L=some (ds,op))(k:∀ty pos af g,Gu P TB Z ops ⟨ds,op,ty,pos,af,g⟩ fl i n K L σ nx):Lex P TB Z ops (Av fl i (n+1)) K (look L) σ nx:=by
 unfold iL at h;split at h
 ·rename_i a
  split at h
  ·rename_i b
   injection h with h;injection h with d c;subst d;subst c
   exact Ag a (k _ _ _ _ b)
  ·cases h
 ·cases h
theorem s1{md sl:Bool}[k:C7 P]{q:Prop}(h:gy k.T md sl ops fl i L σ nx=some (q,L',σ',nx'))(j:q)(hk:Lex P TB Z ops (Av fl (i+1) n) K (look L') σ' nx'):Lex P TB Z ops (Av fl i (n+1)) K (look L) σ nx:=by
 unfold gy at h;split at h
 ·rename_i a
  split at h
  ·rename_i f
   split at h
   ·split at h
    ·rename_i g
     injection h with h;injection h with e h;injection h with d h;injection h with c b;subst e;subst d;subst c;subst b
     exact Ag a (yQ g j hk f)
    ·split at h
     ·rename_i g
      injection h with h;injection h with e h;injection h with d h;injection h with c b;subst e;subst d;subst c;subst b
      exact Ag a (yU g hk f)
     ·cases h
   ·split at h
    ·rename_i g
     injection h with h;injection h with e h;injection h with d h;injection h with c b;subst e;subst d;subst c;subst b
     exact Ag a (yU g hk f)
    ·cases h
  ·rename_i f
   split at h
   ·injection h with h;injection h with e h;injection h with d h;injection h with c b;subst e;subst d;subst c;subst b
    exact Ag a (λa=>WB a f (by rw [DG];exact hk))
   ·injection h with h;injection h with e h;injection h with d h;injection h with c b;subst e;subst d;subst c;subst b
    exact Ag a (λa=>WB a f hk)
  ·cases h
 ·cases h
theorem sA[b:C7 P]{q:Prop}(h:gy b.T false true ops fl i L σ nx=some (q,L',σ',nx'))(a:q)(hk:Lex P TB Z ops (Av fl (i+1) n) K (look L') σ' nx'):Lex P TB Z ops (Av fl i (n+1)) K (look L) σ nx:=s1 h a hk
theorem sM[b:C7 P]{q:Prop}(h:gy b.T true false ops fl i L σ nx=some (q,L',σ',nx'))(a:q)(hk:Lex P TB Z ops (Av fl (i+1) n) K (look L') σ' nx'):Lex P TB Z ops (Av fl i (n+1)) K (look L) σ nx:=s1 h a hk
theorem sX[b:C7 P]{q:Prop}(h:gy b.T false false ops fl i L σ nx=some (q,L',σ',nx'))(a:q)(hk:Lex P TB Z ops (Av fl (i+1) n) K (look L') σ' nx'):Lex P TB Z ops (Av fl i (n+1)) K (look L) σ nx:=s1 h a hk
theorem sN[e:C7 P]{α:Type}{l:List α}{f:α->List D}(h:mq e.T ops fl i L=some (d,l.map f))(hk:Lex P TB Z ops (Av fl (i+1) n) K (look ((d,eI .i64 l.length)::L)) σ nx):Lex P TB Z ops (Av fl i (n+1)) K (look L) σ nx:=by
 unfold mq at h;split at h
 ·rename_i b
  split at h
  ·rename_i c a
   injection h with h;injection h with j g;subst j;subst g
   exact Ik b λ_ _ _ _=>m7 a c hk
  ·cases h
 ·cases h
theorem s4[x : C7 P]{β:Type}{l:List β}{m:Nat}{k:β->Option Gv}{r:β}{q:Prop}(h:lD x.T ops fl i L σ nx=some ⟨β,l,m,k⟩)(s:l[m]? = some r)(e:k r=some (q,L',σ',nx'))(v:q)
 (hk:Lex P TB Z ops (Av fl (i+1) n) K (look L') σ' nx'):Lex P TB Z ops (Av fl i (n+1)) K (look L) σ nx:=by
 unfold lD at h;split at h
 ·rename_i j
  split at h
  ·rename_i o g p
   injection h with h;injection h with d c b a;subst d;subst c;subst b
   have a:=eq_of_heq a;subst a;dsimp only at e;split at e
   ·rename_i hb
    injection e with h;injection h with d h;injection h with c h;injection h with b a;subst d;subst c;subst b;subst a
    exact Ik j λ_ _ _ _=>yL g p s o (i8 hb) v hk
   ·cases e
  ·cases h
 ·rename_i j
  split at h
  ·rename_i o g p
   injection h with h;injection h with d c b a;subst d;subst c;subst b
   have a:=eq_of_heq a;subst a;dsimp only at e
   injection e with h;injection h with d h;injection h with c h;injection h with b a;subst d;subst c;subst b;subst a
   exact Ik j λ_ _ _ _=>yT g p s o v hk
  ·cases h
 ·rename_i j
  split at h
  ·rename_i o g
   split at h
   ·rename_i t
    split at h
    ·rename_i hb f
     injection h with h;injection h with d c b a;subst d;subst c;subst b
     have a:=eq_of_heq a;subst a;dsimp only at e;split at e
     ·rename_i w
      injection e with h;injection h with d h;injection h with c h;injection h with b a;subst d;subst c;subst b;subst a
      have hb:=i8 hb;subst hb;unfold fi at f;rw [nq] at f
      rcases f with f|f
      ·exact Ik j λ_ _ _ _=>yM g t s o w f hk
      ·rw [d4] at f
       have F:=i8 f.1;haveI:=(DU (P:=P) _ x.ok).Ng o;exact Ik j λ_ _ _ _ y=>kk (λσ' nx' u=>X6 g (by rw [F,Nat.add_sub_cancel_left] at u;rw [u];exact t) s w) y ⟨pM (by omega),by simpa using f.2⟩ hk
     ·cases e
    ·cases h
   ·cases h
  ·cases h
 ·rename_i j
  split at h
  ·rename_i o g p
   split at h
   ·rename_i t
    split at h
    ·rename_i hb f B A z
     injection h with h;injection h with d c b a;subst d;subst c;subst b
     have a:=eq_of_heq a;subst a;dsimp only at e
     injection e with h;injection h with d h;injection h with c h;injection h with b a;subst d;subst c;subst b;subst a
     have hb:=i8 hb;subst hb;exact Ik j λ_ _ _ _=>yV g p B t s o (i8 A) z (i8 f) hk
    ·cases h
   ·cases h
  ·cases h
 ·cases h
theorem tA[a:C7 P](h:gy a.T false true ops fl i L σ nx=some (True,L',σ',nx'))(hk:Lex P TB Z ops (Av fl (i+1) n) K (look L') σ' nx'):Lex P TB Z ops (Av fl i (n+1)) K (look L) σ nx:=s1 h True.intro hk
theorem tM[a:C7 P](h:gy a.T true false ops fl i L σ nx=some (True,L',σ',nx'))(hk:Lex P TB Z ops (Av fl (i+1) n) K (look L') σ' nx'):Lex P TB Z ops (Av fl i (n+1)) K (look L) σ nx:=s1 h True.intro hk
theorem tX[a:C7 P](h:gy a.T false false ops fl i L σ nx=some (True,L',σ',nx'))(hk:Lex P TB Z ops (Av fl (i+1) n) K (look L') σ' nx'):Lex P TB Z ops (Av fl i (n+1)) K (look L) σ nx:=s1 h True.intro hk
theorem t4[b:C7 P]{β:Type}{l:List β}{m:Nat}{k:β->Option Gv}{r:β}(h:lD b.T ops fl i L σ nx=some ⟨β,l,m,k⟩)(a:l[m]? = some r)(c:k r=some (True,L',σ',nx'))
 (hk:Lex P TB Z ops (Av fl (i+1) n) K (look L') σ' nx'):Lex P TB Z ops (Av fl i (n+1)) K (look L) σ nx:=s4 h a c True.intro hk
theorem s2[f:C7 P]{c:Bool}(h:mH f.T ops fl i L=some (d,c))(hk:∀b,c=b->Lex P TB Z ops (Av fl (i+1) n) K (look ((d,eB b)::L)) σ nx):Lex P TB Z ops (Av fl i (n+1)) K (look L) σ nx:=by
 unfold mH at h;split at h
 ·rename_i e
  split at h
  ·rename_i a
   injection h with h;injection h with j g;subst j;subst g
   exact Ik e λ_ _ _ _=>yB a hk
  ·cases h
 ·cases h
theorem s3{b:Bool}(_h:mO ops fl i L=some b)(a:b=true->Lex P TB Z ops (Av fl i (n+1)) K (look L) σ nx)(c:b=false->Lex P TB Z ops (Av fl i (n+1)) K (look L) σ nx):Lex P TB Z ops (Av fl i (n+1)) K (look L) σ nx:=by
 cases b
 ·exact c rfl
 ·exact a rfl
theorem XC{gg:FuncId}{es:List E}(h:k8 ops fl i L=some (d,gg,es)):∃x args tys cap a,iL ops fl i L=some (some d,.call ⟨.value x,args,tys⟩)/\ev (look L) x=some (.o (.fn gg cap))/\JP (look L) args.toList=some a/\(a.all E.Cj && C.Dg cap)=true/\es=a++cap.map .o:=by
 unfold k8 at h;split at h
 ·rename_i e
  split at h
  ·rename_i b f
   split at h
   ·rename_i c
    injection h with h;injection h with k h;injection h with j g;subst k;subst j;subst g
    exact⟨_,_,_,_,_,e,b,f,c,rfl⟩
   ·cases h
  ·cases h
 ·cases h
theorem sP{gg:FuncId}{es:List E}{r:E}(h:k8 ops fl i L=some (d,gg,es))(b:Pure P TB gg es r)(c:r.Cj=true)(hk:Lex P TB Z ops (Av fl (i+1) n) K (look ((d,r)::L)) σ nx):Lex P TB Z ops (Av fl i (n+1)) K (look L) σ nx:=by
 obtain⟨x,args,tys,cap,j,f,a,g,e,rfl⟩:=XC h;exact Ik f λ_ _ _ _=>yP a g e b c hk
theorem sC{gg:FuncId}{es:List E}{c:Bool}(h:k8 ops fl i L=some (d,gg,es))(e:Pure P TB gg es (eB c))(hk:∀b,c=b->Lex P TB Z ops (Av fl (i+1) n) K (look ((d,eB b)::L)) σ nx):Lex P TB Z ops (Av fl i (n+1)) K (look L) σ nx:=by
 obtain⟨x,args,tys,cap,k,g,a,j,f,rfl⟩:=XC h;exact Ik g λ_ _ _ _=>yC a j f e hk
theorem tI:True:=True.intro
end
section
variable {P:Program}{TB:Bz}{Z:Ctx}{N:Nat}{ops:Array Oper}{fl:Fl}{i:Nat}{K:Env->Ab->Nat->Prop}{Q:Exit->Env->Ab->Nat->Prop}{f:Env}{σ:Ab}{nx:Nat}
theorem aS{x y:Code}(h:Aj P TB Z N x (LJ (Aj P TB Z N y Q) Q) f σ nx):Aj P TB Z N (.seq x y) Q f σ nx:=.seq h
def VE(N:Nat):List Oper->Bool
 | []=>true
 | o::r=>match o.dst with
  | some d=>bif Nat.ble (d+1) N then VE N r else false
  | none=>VE N r
theorem XB{N:Nat}:∀ {l:List Oper},VE N l=true->∀o∈l,(match o.dst with|some d=>Nat.blt d N|none=>true)=true
 | [],_,o,a=>by cases a
 | x :: l,h,o,a=>by
  unfold VE at h
  rcases ng.1 a with rfl|a
  ·cases b:o.dst with
   | none=>rfl
   | some d=>
    rw [b] at h;dsimp only at h |-
    cases hb:Nat.ble (d+1) N with
    | false=>rw [hb] at h;cases h
    | true=>exact hb
  ·refine XB ?_ o a
   cases b:x.dst with
   | none=>rw [b] at h;exact h
   | some d=>
    rw [b] at h;dsimp only at h
    cases hb:Nat.ble (d+1) N with
    | false=>rw [hb] at h;cases h
    | true=>rw [hb] at h;exact h
theorem aZ{N:Nat}{ops:Array Oper}(h:VE N ops.toList=true):GZ N ops=true:=by
 unfold GZ;rw [Array.all_eq_true];intro i hi;exact XB h _ (by simp)
def js(P:Program)(TB:Bz)(Z:Ctx)(N:Nat):Code->(Exit->Env->Ab->Nat->Prop)->Option (Env->Ab->Nat->Prop)
 | .region _ ops false,Q=>bif VE N ops.toList then some (Lex P TB Z ops (Av bu 0 ops.size) (λf σ nx=>Q .normal f σ nx)) else none
 | .seq c d,Q=>match js P TB Z N c (LJ (Aj P TB Z N d Q) Q) with
  | some G=>some G
  | none=>some (Aj P TB Z N c (LJ (Aj P TB Z N d Q) Q))
 | _,_=>none
theorem cm:∀ {c:Code} {Q:Exit->Env->Ab->Nat->Prop} {G:Env->Ab->Nat->Prop} {f:Env} {σ:Ab} {nx:Nat},js P TB Z N c Q=some G->G f σ nx->Aj P TB Z N c Q f σ nx
 | .region _ ops false,Q,G,f,σ,nx,h,g=>by
  unfold js at h
  cases b:VE N ops.toList with
  | false=>rw [b] at h;cases h
  | true=>rw [b] at h;injection h with h;subst h;exact mw (aZ b) g
 | .seq c d,Q,G,f,σ,nx,h,g=>by
  unfold js at h;refine .seq ?_
  cases a:js P TB Z N c (LJ (Aj P TB Z N d Q) Q) with
  | none=>rw [a] at h;injection h with h;subst h;exact g
  | some G=>rw [a] at h;injection h with h;subst h;exact cm a g
 | .region _ ops true,Q,G,f,σ,nx,h,g=>by cases h
 | .skip,Q,G,f,σ,nx,h,g=>by cases h
 | .cond ..,Q,G,f,σ,nx,h,g=>by cases h
 | .block ..,Q,G,f,σ,nx,h,g=>by cases h
 | .ret,Q,G,f,σ,nx,h,g=>by cases h
 | .exit ..,Q,G,f,σ,nx,h,g=>by cases h
theorem aU{c:Code}{G:Env->Ab->Nat->Prop}(h:js P TB Z N c Q=some G)(g:G f σ nx):Aj P TB Z N c Q f σ nx:=cm h g
theorem aR(h:Q .ret f σ nx):Aj P TB Z N .ret Q f σ nx:=.ret h
theorem aK(h:Q .normal f σ nx):Aj P TB Z N .skip Q f σ nx:=.skip h
theorem aE{id:Nat}(h:Q (.exit id) f σ nx):Aj P TB Z N (.exit id) Q f σ nx:=.exit h
theorem aB{id:Nat}{c:Code}(h:Aj P TB Z N c (lg id Q) f σ nx):Aj P TB Z N (.block id c) Q f σ nx:=.block h
theorem aC{c:Operand}{x y:Code}{b:Bool}(e:ev f c=some (.o (.d (.v (.bool b)))))(ht:b=true->Aj P TB Z N x Q f σ nx)(a:b=false->Aj P TB Z N y Q f σ nx):Aj P TB Z N (.cond c x y) Q f σ nx:=.cond e ht a
theorem eN {g:FuncId} {fn:Func} {c:Code} {args:List E} {post:E->Ab->Nat->Prop} (b:P.funcs[g]? = some fn) (hb:fn.body=some c) (a:(fn.name == "runtime.NumGoroutine")=false) (ha:Nat.ble args.length fn.ntmps=true)
 (h:∀Z:Ctx,Z.V.nx=nx->Aj P TB Z fn.ntmps c (jy fn.results post) (look (Ck 0 args)) σ nx):Spec P TB g σ nx args post:=.of b hb a (am ha) h
end
end Go.Am
