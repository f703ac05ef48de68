/-
  The steps of a walk, in one: what the next operation gives is reckoned.
-/
import Derived.Test.YtkdilmleinnfiaaGreatDoorPart6
set_option linter.constructorNameAsVariable false
set_option linter.unusedSectionVars false
set_option linter.unusedSimpArgs false
set_option linter.unusedVariables false
namespace Go.Am
open Go
abbrev Gv:=Prop×List (Nat×E)×Ab×Nat
def XJ(T : List (Nat×TI))(md sl:Bool)(ops:Array Oper)(fl:Fl)(i:Nat)(L:List (Nat×E))(σ:Ab)(nx:Nat):Option Gv:=
 match La ops.toList (fl.p i) with
 | some ⟨ds,op,ty,pos,af,g⟩=>match Be ops ⟨ds,op,ty,pos,af,g⟩ (look L) with
  | some true=>match ds with
   | some d=>match Vw T md (look L) op with
    | some (q,e)=>some (q,(d,e)::L,σ,nx)
    | none=>match RQ T sl (fl i) nx σ L (some d) op with
     | some (L',σ',nx')=>some (True,L',σ',nx')
     | none=>none
   | none=>match RQ T sl (fl i) nx σ L none op with
    | some (L',σ',nx')=>some (True,L',σ',nx')
    | none=>none
  | some false=>match ds with
   | some d=>some (True,(d,.t [])::L,σ,nx)
   | none=>some (True,L,σ,nx)
  | none=>none
 | none=>none
def YK(ops:Array Oper)(fl:Fl)(i:Nat)(L:List (Nat×E)):Option (Option Tmp×Op):=match La ops.toList (fl.p i) with
 | some ⟨ds,op,ty,pos,af,g⟩=>match Be ops ⟨ds,op,ty,pos,af,g⟩ (look L) with
  | some true=>some (ds,op)
  | _=>none
 | none=>none
def cO(T:List (Nat×TI))(ops:Array Oper)(fl:Fl)(i:Nat)(L:List (Nat×E)):Option (Nat×List (List D)):=match YK ops fl i L with
 | some (some d,.call ⟨.builtin .len,⟨[x]⟩,⟨[t]⟩⟩)=>match (Hj T t).sl,ev (look L) x with
  | some _,some (.o (.d (.l rows)))=>some (d,rows)
  | _,_=>none
 | _=>none
structure As where
 β:Type
 l:List β
 m:Nat
 k:β→Option Gv
def bN(T : List (Nat×TI))(ops:Array Oper)(fl:Fl)(i:Nat)(L:List (Nat×E))(σ:Ab)(nx:Nat):Option As:=match YK ops fl i L with
 | some (some d,.indexAddr t x y)=>match (Hj T t).sl,ev (look L) x,ev (look L) y with
  | some (_,k,_),some (.o (.d (.l rows))),some (.o (.d (.v (.int _ m))))=>some ⟨List D,rows,m.toNat,fun r=>match Nat.beq r.length k with
   | true=>some (0≤m,(d,.o (.ip r))::L,σ,nx)
   | false=>none⟩
  | _,_,_=>none
 | some (some d,.index t x y)=>match (Hj T t).st,ev (look L) x,ev (look L) y with
  | true,some (.o (.d (.v (.string ⟨⟨s⟩⟩)))),some (.o (.d (.v (.int _ m))))=>some ⟨UInt8,s,m.toNat,fun c=>some (0≤m,(d,eI .u8 (c.toNat:Int))::L,σ,nx)⟩
  | _,_,_=>none
 | some (some d,.load t x)=>match (Hj T t).ld,ev (look L) x with
  | some (ag,m),some (.o (.ptr id k i' j))=>match look σ id with
   | some (.cells _ k' rows)=>match Nat.beq k k',WU (fl i) (some (.o (.ptr id k i' j))) with
    | true,true=>some ⟨List C,rows,i',fun r=>match ZW ag m j r with
     | some e=>some (True,(d,e)::L,σ,nx)
     | none=>none⟩
    | _,_=>none
   | _=>none
  | _,_=>none
 | some (none,.store t x y)=>match (Hj T t).ld,ev (look L) x,ev (look L) y with
  | some (_,m),some (.o (.ptr id k i' j)),some e=>match look σ id with
   | some (.cells ct k' rows)=>match Nat.beq k k',Nat.beq (fl i) 1,Og e,Nat.beq (eC e).length m,Nat.ble (j+m) k with
    | true,true,true,true,true=>some ⟨List C,rows,i',fun r=>some (True,L,(id,.cells ct k (rows.set i' (Ai r j (eC e))))::σ,nx)⟩
    | _,_,_,_,_=>none
   | _=>none
  | _,_,_=>none
 | _=>none
def cV(T:List (Nat×TI))(ops:Array Oper)(fl:Fl)(i:Nat)(L:List (Nat×E)):Option (Nat×Bool):=match YK ops fl i L with
 | some (some d,op)=>match O7 T (look L) op with
  | some c=>some (d,c)
  | none=>none
 | _=>none
def da(ops:Array Oper)(fl:Fl)(i:Nat)(L:List (Nat×E)):Option Bool:=match La ops.toList (fl.p i) with
 | some ⟨_,_,_,_,_,some (j,_)⟩=>match (ops[j]?).bind (·.dst) with
  | some t=>match look L t with
   | some (.o (.d (.v (.bool b))))=>some b
   | _=>none
  | none=>none
 | _=>none
def bu(ops:Array Oper)(fl:Fl)(i:Nat)(L:List (Nat×E)):Option (Nat×FuncId×List E):=match YK ops fl i L with
 | some (some d,.call ⟨.value x,args,_⟩)=>match ev (look L) x,Hz (look L) args.toList with
  | some (.o (.fn gg cap)),some es=>match es.all E.BK && C.Cr cap with
   | true=>some (d,gg,es++cap.map .o)
   | false=>none
  | _,_=>none
 | _=>none
section
variable {P:Program}{TB:Bw}{Γ:Ctx}{ops:Array Oper}{fl:Fl}{i n:Nat}{L L':List (Nat×E)}{σ σ':Ab}{nx nx' d:Nat}{K:Env→Ab→Nat→Prop}
theorem FK{ds:Option Tmp}{op:Op}(h:YK ops fl i L=some (ds,op))(k:∀ty pos af g,Ef P TB Γ ops ⟨ds,op,ty,pos,af,g⟩ fl i n K L σ nx):Lex P TB Γ ops (Af fl i (n+1)) K (look L) σ nx:=by
 unfold YK at h
 split at h
 ·rename_i ho
  split at h
  ·rename_i hg
   injection h with h;injection h with h1 h2;subst h1;subst h2
   exact Ag ho (k _ _ _ _ hg)
  ·cases h
 ·cases h
theorem s1{md sl:Bool}[hT:B7 P]{q:Prop}(h:XJ hT.T md sl ops fl i L σ nx=some (q,L',σ',nx'))(hq:q)(hk:Lex P TB Γ ops (Af fl (i+1) n) K (look L') σ' nx'):Lex P TB Γ ops (Af fl i (n+1)) K (look L) σ nx:=by
 unfold XJ at h
 split at h
 ·rename_i ho
  split at h
  ·rename_i hg
   split at h
   ·split at h
    ·rename_i hr
     injection h with h;injection h with e0 h;injection h with e1 h;injection h with e2 e3;subst e0;subst e1;subst e2;subst e3
     exact Ag ho (yQ hr hq hk hg)
    ·split at h
     ·rename_i hr
      injection h with h;injection h with e0 h;injection h with e1 h;injection h with e2 e3;subst e0;subst e1;subst e2;subst e3
      exact Ag ho (yU hr hk hg)
     ·cases h
   ·split at h
    ·rename_i hr
     injection h with h;injection h with e0 h;injection h with e1 h;injection h with e2 e3;subst e0;subst e1;subst e2;subst e3
     exact Ag ho (yU hr hk hg)
    ·cases h
  ·rename_i hg
   split at h
   ·injection h with h;injection h with e0 h;injection h with e1 h;injection h with e2 e3;subst e0;subst e1;subst e2;subst e3
    exact Ag ho (fun ho=>Qk ho hg (by rw [CC];exact hk))
   ·injection h with h;injection h with e0 h;injection h with e1 h;injection h with e2 e3;subst e0;subst e1;subst e2;subst e3
    exact Ag ho (fun ho=>Qk ho hg hk)
  ·cases h
 ·cases h
theorem sA[hT:B7 P]{q:Prop}(h:XJ hT.T false true ops fl i L σ nx=some (q,L',σ',nx'))(hq:q)(hk:Lex P TB Γ ops (Af fl (i+1) n) K (look L') σ' nx'):Lex P TB Γ ops (Af fl i (n+1)) K (look L) σ nx:=s1 h hq hk
theorem sM[hT:B7 P]{q:Prop}(h:XJ hT.T true false ops fl i L σ nx=some (q,L',σ',nx'))(hq:q)(hk:Lex P TB Γ ops (Af fl (i+1) n) K (look L') σ' nx'):Lex P TB Γ ops (Af fl i (n+1)) K (look L) σ nx:=s1 h hq hk
theorem sX[hT:B7 P]{q:Prop}(h:XJ hT.T false false ops fl i L σ nx=some (q,L',σ',nx'))(hq:q)(hk:Lex P TB Γ ops (Af fl (i+1) n) K (look L') σ' nx'):Lex P TB Γ ops (Af fl i (n+1)) K (look L) σ nx:=s1 h hq hk
theorem sN[hT:B7 P]{α:Type}{l:List α}{g1:α→List D}(h:cO hT.T ops fl i L=some (d,l.map g1))(hk:Lex P TB Γ ops (Af fl (i+1) n) K (look ((d,eI .i64 l.length)::L)) σ nx):Lex P TB Γ ops (Af fl i (n+1)) K (look L) σ nx:=by
 unfold cO at h
 split at h
 ·rename_i hn
  split at h
  ·rename_i hl hx
   injection h with h;injection h with e1 e2;subst e1;subst e2
   exact FK hn fun _ _ _ _=>dm hx hl hk
  ·cases h
 ·cases h
theorem s4[hT : B7 P]{β:Type}{l:List β}{m:Nat}{k:β→Option Gv}{r:β}{q:Prop}(h:bN hT.T ops fl i L σ nx=some ⟨β,l,m,k⟩)(hr:l[m]? = some r)(h2:k r=some (q,L',σ',nx'))(hq:q)
 (hk:Lex P TB Γ ops (Af fl (i+1) n) K (look L') σ' nx'):Lex P TB Γ ops (Af fl i (n+1)) K (look L) σ nx:=by
 unfold bN at h
 split at h
 ·rename_i hn
  split at h
  ·rename_i hl hx hy
   injection h with h;injection h with e0 e1 e2 e3;subst e0;subst e1;subst e2
   have e3:=eq_of_heq e3;subst e3
   dsimp only at h2
   split at h2
   ·rename_i hb
    injection h2 with h;injection h with e0 h;injection h with e1 h;injection h with e2 e3;subst e0;subst e1;subst e2;subst e3
    exact FK hn fun _ _ _ _=>yL hx hy hr hl (Nat.eq_of_beq_eq_true hb) hq hk
   ·cases h2
  ·cases h
 ·rename_i hn
  split at h
  ·rename_i hl hx hy
   injection h with h;injection h with e0 e1 e2 e3;subst e0;subst e1;subst e2
   have e3:=eq_of_heq e3;subst e3
   dsimp only at h2
   injection h2 with h;injection h with e0 h;injection h with e1 h;injection h with e2 e3;subst e0;subst e1;subst e2;subst e3
   exact FK hn fun _ _ _ _=>yT hx hy hr hl hq hk
  ·cases h
 ·rename_i hn
  split at h
  ·rename_i hl hx
   split at h
   ·rename_i ho
    split at h
    ·rename_i hb hf
     injection h with h;injection h with e0 e1 e2 e3;subst e0;subst e1;subst e2
     have e3:=eq_of_heq e3;subst e3
     dsimp only at h2
     split at h2
     ·rename_i hd
      injection h2 with h;injection h with e0 h;injection h with e1 h;injection h with e2 e3;subst e0;subst e1;subst e2;subst e3
      have hb:=Nat.eq_of_beq_eq_true hb
      subst hb
      unfold WU at hf
      rw [Bool.or_eq_true] at hf
      rcases hf with hf|hf
      ·exact FK hn fun _ _ _ _=>yM hx ho hr hl hd hf hk
      ·rw [Bool.and_eq_true] at hf
       have h3:=Nat.eq_of_beq_eq_true hf.1
       haveI:=(CL (P:=P) _ hT.ok).JI hl
       exact FK hn fun _ _ _ _ hg=>ah (fun σ' nx' hs=>Vo hx (by rw [h3,Nat.add_sub_cancel_left] at hs;rw [hs];exact ho) hr hd) hg ⟨Nat.ble_eq_true_of_le (by omega),by simpa using hf.2⟩ hk
     ·cases h2
    ·cases h
   ·cases h
  ·cases h
 ·rename_i hn
  split at h
  ·rename_i hl hx hy
   split at h
   ·rename_i ho
    split at h
    ·rename_i hb hf h5 h6 h7
     injection h with h;injection h with e0 e1 e2 e3;subst e0;subst e1;subst e2
     have e3:=eq_of_heq e3;subst e3
     dsimp only at h2
     injection h2 with h;injection h with e0 h;injection h with e1 h;injection h with e2 e3;subst e0;subst e1;subst e2;subst e3
     have hb:=Nat.eq_of_beq_eq_true hb
     subst hb
     exact FK hn fun _ _ _ _=>yV hx hy h5 ho hr hl (Nat.eq_of_beq_eq_true h6) h7 (Nat.eq_of_beq_eq_true hf) hk
    ·cases h
   ·cases h
  ·cases h
 ·cases h
theorem tA[hT:B7 P](h:XJ hT.T false true ops fl i L σ nx=some (True,L',σ',nx'))(hk:Lex P TB Γ ops (Af fl (i+1) n) K (look L') σ' nx'):Lex P TB Γ ops (Af fl i (n+1)) K (look L) σ nx:=s1 h True.intro hk
theorem tM[hT:B7 P](h:XJ hT.T true false ops fl i L σ nx=some (True,L',σ',nx'))(hk:Lex P TB Γ ops (Af fl (i+1) n) K (look L') σ' nx'):Lex P TB Γ ops (Af fl i (n+1)) K (look L) σ nx:=s1 h True.intro hk
theorem tX[hT:B7 P](h:XJ hT.T false false ops fl i L σ nx=some (True,L',σ',nx'))(hk:Lex P TB Γ ops (Af fl (i+1) n) K (look L') σ' nx'):Lex P TB Γ ops (Af fl i (n+1)) K (look L) σ nx:=s1 h True.intro hk
theorem t4[hT:B7 P]{β:Type}{l:List β}{m:Nat}{k:β→Option Gv}{r:β}(h:bN hT.T ops fl i L σ nx=some ⟨β,l,m,k⟩)(hr:l[m]? = some r)(h2:k r=some (True,L',σ',nx'))
 (hk:Lex P TB Γ ops (Af fl (i+1) n) K (look L') σ' nx'):Lex P TB Γ ops (Af fl i (n+1)) K (look L) σ nx:=s4 h hr h2 True.intro hk
theorem s2[hT:B7 P]{c:Bool}(h:cV hT.T ops fl i L=some (d,c))(hk:∀b,c=b→Lex P TB Γ ops (Af fl (i+1) n) K (look ((d,eB b)::L)) σ nx):Lex P TB Γ ops (Af fl i (n+1)) K (look L) σ nx:=by
 unfold cV at h
 split at h
 ·rename_i hn
  split at h
  ·rename_i hr
   injection h with h;injection h with e1 e2;subst e1;subst e2
   exact FK hn fun _ _ _ _=>yB hr hk
  ·cases h
 ·cases h
theorem s3{b:Bool}(_h:da ops fl i L=some b)(hT:b=true→Lex P TB Γ ops (Af fl i (n+1)) K (look L) σ nx)(hF:b=false→Lex P TB Γ ops (Af fl i (n+1)) K (look L) σ nx):Lex P TB Γ ops (Af fl i (n+1)) K (look L) σ nx:=by
 cases b
 ·exact hF rfl
 ·exact hT rfl
theorem Rn{gg:FuncId}{es:List E}(h:bu ops fl i L=some (d,gg,es)):∃x args tys cap es0,YK ops fl i L=some (some d,.call ⟨.value x,args,tys⟩)∧ev (look L) x=some (.o (.fn gg cap))∧Hz (look L) args.toList=some es0∧(es0.all E.BK && C.Cr cap)=true∧es=es0++cap.map .o:=by
 unfold bu at h
 split at h
 ·rename_i hn
  split at h
  ·rename_i hx he
   split at h
   ·rename_i hp
    injection h with h;injection h with e1 h;injection h with e2 e3;subst e1;subst e2;subst e3
    exact⟨_,_,_,_,_,hn,hx,he,hp,rfl⟩
   ·cases h
  ·cases h
 ·cases h
theorem sP{gg:FuncId}{es:List E}{r:E}(h:bu ops fl i L=some (d,gg,es))(hs:Pure P TB gg es r)(hr:r.BK=true)(hk:Lex P TB Γ ops (Af fl (i+1) n) K (look ((d,r)::L)) σ nx):Lex P TB Γ ops (Af fl i (n+1)) K (look L) σ nx:=by
 obtain⟨x,args,tys,cap,es0,hn,hx,he,hp,rfl⟩:=Rn h
 exact FK hn fun _ _ _ _=>yP hx he hp hs hr hk
theorem sC{gg:FuncId}{es:List E}{c:Bool}(h:bu ops fl i L=some (d,gg,es))(hs:Pure P TB gg es (eB c))(hk:∀b,c=b→Lex P TB Γ ops (Af fl (i+1) n) K (look ((d,eB b)::L)) σ nx):Lex P TB Γ ops (Af fl i (n+1)) K (look L) σ nx:=by
 obtain⟨x,args,tys,cap,es0,hn,hx,he,hp,rfl⟩:=Rn h
 exact FK hn fun _ _ _ _=>yC hx he hp hs hk
theorem tI:True:=True.intro
end
section
variable {P:Program}{TB:Bw}{Γ:Ctx}{N:Nat}{ops:Array Oper}{fl:Fl}{i:Nat}{K:Env→Ab→Nat→Prop}{Q:Exit→Env→Ab→Nat→Prop}{f:Env}{σ:Ab}{nx:Nat}
theorem aS{x y:Code}(h:Ak P TB Γ N x (IS (Ak P TB Γ N y Q) Q) f σ nx):Ak P TB Γ N (.seq x y) Q f σ nx:=.seq h
def PH(N:Nat):List Oper→Bool
 | []=>true
 | o::r=>match o.dst with
  | some d=>bif Nat.ble (d+1) N then PH N r else false
  | none=>PH N r
theorem Rm{N:Nat}:∀ {l:List Oper},PH N l=true→∀o∈l,(match o.dst with|some d=>Nat.blt d N|none=>true)=true
 | [],_,o,ho=>by cases ho
 | x :: l,h,o,ho=>by
  unfold PH at h
  rcases List.mem_cons.1 ho with rfl|ho
  ·cases hd:o.dst with
   | none=>rfl
   | some d=>
    rw [hd] at h
    dsimp only at h ⊢
    cases hb:Nat.ble (d+1) N with
    | false=>rw [hb] at h;cases h
    | true=>exact hb
  ·refine Rm ?_ o ho
   cases hd:x.dst with
   | none=>rw [hd] at h;exact h
   | some d=>
    rw [hd] at h
    dsimp only at h
    cases hb:Nat.ble (d+1) N with
    | false=>rw [hb] at h;cases h
    | true=>rw [hb] at h;exact h
theorem T9{N:Nat}{ops:Array Oper}(h:PH N ops.toList=true):EC N ops=true:=by
 unfold EC
 rw [Array.all_eq_true]
 intro i hi
 exact Rm h _ (by simp)
def Zq(P:Program)(TB:Bw)(Γ:Ctx)(N:Nat):Code→(Exit→Env→Ab→Nat→Prop)→Option (Env→Ab→Nat→Prop)
 | .region _ ops false,Q=>bif PH N ops.toList then some (Lex P TB Γ ops (Af Uk 0 ops.size) (fun f σ nx=>Q .normal f σ nx)) else none
 | .seq c d,Q=>match Zq P TB Γ N c (IS (Ak P TB Γ N d Q) Q) with
  | some G=>some G
  | none=>some (Ak P TB Γ N c (IS (Ak P TB Γ N d Q) Q))
 | _,_=>none
theorem UW:∀ {c:Code} {Q:Exit→Env→Ab→Nat→Prop} {G:Env→Ab→Nat→Prop} {f:Env} {σ:Ab} {nx:Nat},Zq P TB Γ N c Q=some G→G f σ nx→Ak P TB Γ N c Q f σ nx
 | .region _ ops false,Q,G,f,σ,nx,h,g=>by
  unfold Zq at h
  cases hd:PH N ops.toList with
  | false=>rw [hd] at h;cases h
  | true=>rw [hd] at h;injection h with h;subst h;exact bF (T9 hd) g
 | .seq c d,Q,G,f,σ,nx,h,g=>by
  unfold Zq at h
  refine .seq ?_
  cases hn:Zq P TB Γ N c (IS (Ak P TB Γ N d Q) Q) with
  | none=>rw [hn] at h;injection h with h;subst h;exact g
  | some G=>rw [hn] at h;injection h with h;subst h;exact UW hn g
 | .region _ ops true,Q,G,f,σ,nx,h,g=>by cases h
 | .skip,Q,G,f,σ,nx,h,g=>by cases h
 | .cond ..,Q,G,f,σ,nx,h,g=>by cases h
 | .block ..,Q,G,f,σ,nx,h,g=>by cases h
 | .ret,Q,G,f,σ,nx,h,g=>by cases h
 | .exit ..,Q,G,f,σ,nx,h,g=>by cases h
theorem aU{c:Code}{G:Env→Ab→Nat→Prop}(h:Zq P TB Γ N c Q=some G)(g:G f σ nx):Ak P TB Γ N c Q f σ nx:=UW h g
theorem aR(h:Q .ret f σ nx):Ak P TB Γ N .ret Q f σ nx:=.ret h
theorem aK(h:Q .normal f σ nx):Ak P TB Γ N .skip Q f σ nx:=.skip h
theorem aE{id:Nat}(h:Q (.exit id) f σ nx):Ak P TB Γ N (.exit id) Q f σ nx:=.exit h
theorem aB{id:Nat}{c:Code}(h:Ak P TB Γ N c (bA id Q) f σ nx):Ak P TB Γ N (.block id c) Q f σ nx:=.block h
theorem aC{c:Operand}{x y:Code}{b:Bool}(hc:ev f c=some (.o (.d (.v (.bool b)))))(ht:b=true→Ak P TB Γ N x Q f σ nx)(hf:b=false→Ak P TB Γ N y Q f σ nx):Ak P TB Γ N (.cond c x y) Q f σ nx:=.cond hc ht hf
theorem eN {g:FuncId} {fn:Func} {c:Code} {args:List E} {post:E→Ab→Nat→Prop} (hf:P.funcs[g]? = some fn) (hb:fn.body=some c) (hn:(fn.name == "runtime.NumGoroutine")=false) (ha:Nat.ble args.length fn.ntmps=true)
 (h:∀Γ:Ctx,Γ.V.nx=nx→Ak P TB Γ fn.ntmps c (Zw fn.results post) (look (BN 0 args)) σ nx):Spec P TB g σ nx args post:=.of hf hb hn (Nat.le_of_ble_eq_true ha) h
end
end Go.Am
