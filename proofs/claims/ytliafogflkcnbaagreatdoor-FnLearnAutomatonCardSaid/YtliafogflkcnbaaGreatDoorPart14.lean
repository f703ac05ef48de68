/-
  What the call made becomes data that nobody writes any more, inside the boxes that hold it too.
-/
import Derived.Test.YtliafogflkcnbaaGreatDoorPart5
import Derived.Test.YtliafogflkcnbaaGreatDoorPart13
import Derived.Test.YtliafogflkcnbaaGreatDoorPart9
set_option linter.constructorNameAsVariable false
set_option linter.unusedSectionVars false
set_option linter.unusedSimpArgs false
set_option linter.unusedVariables false
namespace Go.Am
open Go
set_option linter.unusedVariables false
set_option linter.unusedSimpArgs false
inductive FL (σ:Ab) (ids:List Nat):List C→List C→Prop
 | nil:FL σ ids [] []
 | cons {c c':C} {cs cs':List C}:FC σ ids c c'→FL σ ids cs cs'→FL σ ids (c::cs) (c'::cs')
theorem FL.len{σ:Ab}{ids:List Nat}{l l':List C}(h:FL σ ids l l'):l'.length=l.length:=by
 induction h with
 | nil=>rfl
 | cons _ _ ih=>simp [ih]
theorem FL.get{σ:Ab}{ids:List Nat}{l l':List C}(h:FL σ ids l l'):∀(j:Nat) c',l'[j]? = some c'→∃c,l[j]? = some c∧FC σ ids c c':=by
 induction h with
 | nil=>intro j c' h;simp at h
 | @cons c0 c0' cs cs' h1 _ ih=>
  intro j c' hj
  cases j with
  | zero=>simp at hj;subst hj;exact⟨c0,rfl,h1⟩
  | succ j=>exact ih j c' (by simpa using hj)
def ME(σ:Ab)(ids:List Nat):Ab→Prop
 | []=>True
 | (id,.cells T k [r'])::S=>(∃r,look σ id=some (.cells T k [r])∧id∉ids∧FL σ ids r r')∧ME σ ids S
 | _=>False
theorem ME.get{σ:Ab}{ids:List Nat}:∀ {S:Ab},ME σ ids S→∀id o',look S id=some o'→∃T k r r',o'=.cells T k [r']∧look σ id=some (.cells T k [r])∧id∉ids∧FL σ ids r r'
 | [],_,id,o',h=>by cases h
 | (i, o)::S,hs,id,o',h=>by
  match o,hs with
  | .cells T k [r'],hs=>
   rw [Ax] at h
   by_cases hi:i=id
   ·rw [if_pos hi] at h
    injection h with h
    subst h;subst hi
    obtain⟨r,h1,h2,h3⟩:=hs.1
    exact⟨T,k,r,r',rfl,h1,h2,h3⟩
   ·rw [if_neg hi] at h
    exact ME.get hs.2 id o' h
section
variable {P:Program}{TB:Bu}{Γ:Ctx}{N:Nat}{σ:Ab}
theorem BI.Kr{V:View}{f:Env}{nx:Nat}{a:Act}(h:BI TB Γ N V f σ nx a)(ids:List Nat)(L:List (Nat×E))(S:Ab)(hE:CX σ ids f L)(hS:ME σ ids S):BI TB Γ N (Jl V σ ids) (look L) S nx a:=by
 have e:Ext V (Jl V σ ids):=Ks
 have hi:=h.inv
 refine⟨fun t x hx=>?_,fun t x hx=>?_,h.size,?_,h.nx,h.defers⟩
 ·obtain⟨y,h1,h2⟩:=hE.get t x hx
  exact h2.rel h.inv (h.env t y h1)
 ·obtain⟨y,h1,_⟩:=hE.get t x hx
  exact h.lt t y h1
 ·refine⟨hi.os,hi.tape,hi.output,hi.old,?_,?_,hi.ext.trans e,⟨?_,?_,?_,?_⟩,?_,fun x hx=>⟨.inl (hi.tabs x hx).1,(hi.tabs x hx).2⟩,hi.hid.same rfl (fun _ h=>.inl h) (fun b hb=>hb.elim .inl fun ⟨id,o,_,hl,hn,he⟩=>.inr ⟨id,o,hl,hn,he⟩) fun b ⟨id,o,hl,hn,hb⟩=>?_⟩
  ·rintro b (hb|⟨id,o,_,hl,hn,hb⟩)
   ·exact hi.iLt b hb
   ·exact(hi.st.obj id o hl).blt hn hb
  ·rintro b (hb|⟨id,o,_,hl,hn,hb⟩)
   ·exact hi.iNew b hb
   ·exact .inr (hi.live id o hl hn b hb)
  ·intro id o hl
   obtain⟨T,k,r,r',rfl,h1,h2,h3⟩:=hS.get id o hl
   rcases hi.st.obj id _ h1 with ⟨h4,h5⟩|⟨h0,cur,h4,h5,h6,h7,h8,h9⟩
   ·cases h5
   ·refine .inr ⟨h0,cur,h4,h5,h6,h7,fun x hx=>?_,fun i x j c' hix hj=>?_⟩
    ·simp at hx;subst hx;rw [h3.len];exact h8 r (by simp)
    ·have hi0:i=0:=by have:=(List.getElem?_eq_some_iff.1 hix).1;simp at this;omega
     subst hi0
     simp at hix
     subst hix
     obtain⟨c,hc,hf⟩:=h3.get j c' hj
     obtain⟨v,h10,h11⟩:=h9 0 r j c rfl hc
     exact⟨v,h10,hf.rel hi h11⟩
  ·intro id o hl
   obtain⟨T,k,r,r',_,h1,_,_⟩:=hS.get id o hl
   exact hi.st.lt id _ h1
  ·intro id o hl hn b hb' hb
   obtain⟨T,k,r,r',rfl,h1,h2,_⟩:=hS.get id o hl
   rcases hb with hb|⟨id',o',hm,hl',hn',he⟩
   ·exact hi.st.free id _ h1 hn b hb' hb
   ·exact hi.st.inj id id' _ o' h1 hl' (fun e=>h2 (e ▸ hm)) hn hn' b hb' he
  ·intro id id' o o' hl hl' hne hn hn' b hb hb'
   obtain⟨T,k,r,r',rfl,h1,_,_⟩:=hS.get id o hl
   obtain⟨T2,k2,r2,r2',rfl,h12,_,_⟩:=hS.get id' o' hl'
   exact hi.st.inj id id' _ _ h1 h12 hne hn hn' b hb hb'
  ·intro id o hl hn b hb
   obtain⟨T,k,r,r',rfl,h1,_,_⟩:=hS.get id o hl
   exact hi.live id _ h1 hn b hb
  ·obtain⟨T,k,r,r',rfl,h1,_,_⟩:=hS.get id o hl
   exact⟨id,_,h1,hn,hb⟩
theorem Ak.Kr{c:Code}{Q:Exit→Env→Ab→Nat→Prop}{f:Env}{nx:Nat}(ids:List Nat)(L:List (Nat×E))(S:Ab)(hE:CX σ ids f L)(hS:ME σ ids S)(h:Ak P TB Γ N c Q (look L) S nx):Ak P TB Γ N c Q f σ nx:=
 fun V a hr=>h (Jl V σ ids) a (hr.Kr ids L S hE hS)
theorem XP{d:Option Tmp}{ty:TypeId}{pos:String}{af:Array Edge}{g:Option (Nat×Bool)}{f:Env}{nx:Nat}{t k e:TypeId}{x y:Operand}{id:Nat}{l:List (List UInt8×Int)}{s:List UInt8}[hm:EF P t k e][hk:B6 P k][hz:JJ P e (.int .i64 0)](hx:ev f x=some (.o (.mp id)))(hy:ev f y=some (eT s))(ho:look σ id=some (.mp (DQ l))) :
 AY P TB Γ ⟨d,.lookup t x y false,ty,pos,af,g⟩ f σ nx (eI .i64 ((BA l s).getD 0)):=
 AG fun V ρ hr hi=>by
  have e1:=hr.get (by simp [Op.operands]) hx
  have e2:ρ y=.string ⟨s.toArray⟩:=AE.val (hr.get (by simp [Op.operands]) hy)
  generalize hv:ρ x=v at e1
  cases e1 with
  | mp hid=>
   obtain⟨hn,ents,clock,h1,h2⟩:=hi.st.obj id _ ho
   obtain⟨r,h3,h4⟩:=Io s l ents.toList 0 h2
   have hzz:=hz.out
   simp only [Option.bind_eq_some_iff] at hzz
   obtain⟨i,hi1,hz1⟩:=hzz
   have hzv:(zeroValue e).run P V.w=.ok (.int .i64 0) V.w:=by simp [zeroValue,typeInfo,hi1,hz1,go_sem]
   have hfk:(Instr.findKey k (.string ⟨s.toArray⟩) ents.toList).run P V.w=.ok r V.w:=by simp [Instr.findKey,run_underlying hk.out,h3,go_sem]
   have hck:=HB hk.out ents.isEmpty ⟨s.toArray⟩ V.w
   refine⟨.int .i64 ((BA l s).getD 0),?_,.d (.v rfl)⟩
   cases r with
   | none=>
    have h5:BA l s=none:=by simpa using h4.symm
    simp [execOp,hv,e2,Instr.lookup,run_underlying hm.out,MapKept.run_getObj_map h1,hck,hfk,hzv,h5,go_sem]
   | some q=>
    obtain⟨n,h5,h6⟩:∃n,BA l s=some n∧q.2=.int .i64 n:=by
     cases hf:BA l s with
     | none=>rw [hf] at h4;simp at h4
     | some n=>rw [hf] at h4;exact⟨n,rfl,by simpa using h4⟩
    obtain⟨q1,q2⟩:=q
    simp only at h6
    subst h6
    simp [execOp,hv,e2,Instr.lookup,run_underlying hm.out,MapKept.run_getObj_map h1,hck,hfk,h5,go_sem]
end
end Go.Am
namespace Go.Am
open Go Go.Proofs
set_option maxHeartbeats 1000000
attribute [local irreducible] AY B2 Lex Bq Ak Spec
variable {TB:Bu}
theorem Ys{l:Int}(h0:0≤l):UInt8.ofNat (97+l).toNat=lb l:=by
 unfold lb
 congr 1
 omega
theorem OO{L:W→Bool}{t:A2}{s:W}:(BA (Bs L t t.rows.length) s).isSome=true↔s∈AH L t:=by
 rw [Po]
 by_cases h:s∈AH L t<;>simp [h]
theorem Lm{ls:List UInt8}{t:A2}{k:Nat}{r:W}(h:t.rows[k]? = some r):BK ls (t.rows.take (k+1))=BK ls (t.rows.take k)++ls.map fun l=>r++[l]:=by
 unfold BK
 rw [List.take_add_one,h]
 simp
theorem NL{c:C}{L:W→Bool}{ok:W→Prop}(hc:HX Tryz.prog TB c L ok)(al:Int)(t:A2)(ht:Ui ok t)(hn:∀w∈t.rows,∀l∈AP al,∀x∈t.cols,ok (w++[l]++x)) :
 Pure Tryz.prog TB 147 [Gw al c,CY t] (Tj (A5 L (AP al) t)):=by
 have hr:=DZ c hc.BU
 have hrl:=ht.rl
 have hla:(Ac al).length≤6:=AM al 6
 refine eN Tryz.func147 rfl (by kernel_rfl) rfl ?_;intro Γ hΓ
 (repeat first|refine aU rfl ?_)
 (refine pW rfl ?_ rfl (by rfl);refine Dr rfl rfl ?_)
 (refine Ag rfl ?_;refine CK (fun _ _=>Dc rfl rfl rfl) rfl ?_)
 (repeat first|refine tM rfl ?_ |refine aU rfl ?_ |refine Aa ?_)
 (refine pW rfl ?_ rfl (by rfl);refine AD [] rfl rfl (Hu hc al t ht) ⟨rfl,by simp,by simp⟩ (by simp [DK,E.A0,C.Bz,C.A0,hr,eC]) trivial ?_;rintro x0 σ1 nx1 ⟨rfl,rfl,rfl⟩ _)
 (repeat first|refine sN rfl ?_ |refine tM rfl ?_ |refine aU rfl ?_ |refine Aa ?_)
 refine aB ?_
 refine Ak.AZ (α:={k:Nat // k≤t.rows.length∧∀w∈BK (AP al) (t.rows.take k),marks L t.cols w∈AH L t}) (fun ⟨k,hkl,hkd⟩=>[(2,.o (.ptr 0 2 0 0)),(3,.o (.ip (PQ t))),(6,.o (.mp 1)),(18,.o (.d (A7 t.rows))),(19,eI .i64 t.rows.length),(20,eI .i64 k)]) (fun ⟨k,hkl,hkd⟩=>[(1,.mp (DQ (Bs L t t.rows.length))),(0,.cells 90 2 [[.d (iD al),c]])]) 2 (fun ⟨k,hkl,hkd⟩=>t.rows.length - k) (⟨0,by omega,by simp [BK]⟩) [0,1] (DB hΓ rfl rfl) (by (simp[cX,zC,hΓ,hr,eC,Ab.A0,BR,Gl])) ?_;rintro⟨k,hkl,hkd⟩;(try dsimp only)
 (repeat first|refine s2 rfl fun _ _hb=>?_ |refine aU rfl ?_ |refine Aa ?_)
 (refine aC rfl ?_ ?_<;>rintro⟨⟩)
 ·have hlt:k < t.rows.length:=by (simp only[oZ] at *;omega)
  obtain⟨r,hx⟩:=get_some (l:=t.rows) (k:=k) hlt
  have hx':=get_map (g:=Cm) hx
  have hxm:=List.mem_of_getElem? hx
  have hxb:=ht.rb r hxm
  refine aK ?_
  refine aS (aB ?_)
  (repeat first|refine sN rfl ?_ |refine tM rfl ?_ |(refine s4 rfl ‹_› rfl ?_ ?_;omega) |refine sP rfl (CD al) rfl ?_ |refine aU rfl ?_ |refine Aa ?_)
  refine aB ?_
  refine Ak.AZ (α:={j:Nat // j≤(Ac al).length∧∀x∈(AP al).take j,marks L t.cols (r++[x])∈AH L t}) (fun ⟨j,hjl,hjd⟩=>[(2,.o (.ptr 0 2 0 0)),(3,.o (.ip (PQ t))),(6,.o (.mp 1)),(18,.o (.d (A7 t.rows))),(19,eI .i64 t.rows.length),(20,eI .i64 k),(8,eT r),(26,Ai (Ac al)),(27,eI .i64 (Ac al).length),(28,eI .i64 j)]) (fun ⟨j,hjl,hjd⟩=>[(1,.mp (DQ (Bs L t t.rows.length))),(0,.cells 90 2 [[.d (iD al),c]])]) 2 (fun ⟨j,hjl,hjd⟩=>(Ac al).length - j) (⟨0,by omega,by simp⟩) [0,1] (DB hΓ rfl rfl) (by (simp[cX,zC,hΓ,hr])) ?_;rintro⟨j,hjl,hjd⟩;(try dsimp only)
  (repeat first|refine s2 rfl fun _ _hb=>?_ |refine aU rfl ?_ |refine Aa ?_)
  (refine aC rfl ?_ ?_<;>rintro⟨⟩)
  ·have hjlt:j < (Ac al).length:=by (simp only[oZ] at *;omega)
   obtain⟨l,hl⟩:=get_some (l:=Ac al) (k:=j) hjlt
   have hl':=get_map (g:=Bk) hl
   have hlb:=Au (List.mem_of_getElem? hl)
   have hll:(AP al)[j]? = some (lb l):=by simp [AP,hl]
   have hlm:=List.mem_of_getElem? hll
   have hm:=Lh hc al t (r++[lb l]) (by have:=ht.cl;omega) (fun x hx=>hn r hxm _ hlm x hx) (fun y hy=>by have:=ht.cb y hy;simp;omega)
   refine aK ?_
   refine aS (aB ?_)
   (repeat first|(refine sM rfl ?_ ?_;first|exact tI|omega|simp only[oZ] at *;omega) |(refine s4 rfl ‹_› rfl ?_ ?_;omega) |refine sP rfl (EY l hlb.1 (by omega)) rfl ?_|(refine Ag rfl ?_;refine gA rfl ?_;first| refine gS (fun _ _=>Wi rfl (by omega) (by omega)) ?_) |refine aU rfl ?_ |refine Aa ?_)
   rw [Ys hlb.1]
   (repeat first|refine tM rfl ?_ |refine s2 rfl fun _ _hb=>?_|(refine Ag rfl ?_;refine gA rfl ?_;first| refine gS (fun _ _=>BL rfl rfl (by simp [E.BU,C.CE,C.BU,hc.BU]) hm rfl) ?_|refine gQ (N9 rfl rfl rfl) (by rfl) ?_) |refine aU rfl ?_ |refine Aa ?_)
   (refine aC rfl ?_ ?_<;>rintro⟨⟩)
   ·have hno:marks L t.cols (r++[lb l])∉AH L t:=fun h=>by
     rw [OO.2 h] at _hb
     cases _hb
    (repeat first|refine tM rfl ?_ |refine aU rfl ?_ |refine Aa ?_)
    refine aR ⟨_,rfl,?_⟩
    rw [Sp hx hll hkd hjd hno]
    rfl
   ·have hyes:marks L t.cols (r++[lb l])∈AH L t:=OO.1 (by simpa using _hb)
    have hjd2:∀x∈(AP al).take (j+1),marks L t.cols (r++[x])∈AH L t:=fun x hx=>by
     rw [List.take_add_one,hll] at hx
     rcases List.mem_append.1 hx with hx|hx
     ·exact hjd x hx
     ·simp at hx;subst hx;exact hyes
    refine aK ?_
    (repeat first|(refine sM rfl ?_ ?_;first|exact tI|omega) |refine aU rfl ?_ |refine Aa ?_)
    refine⟨⟨j+1,by omega,hjd2⟩,by dsimp only;(omega),[0,1],?_⟩
    simp[cX,zC,hΓ,hr]
  ·obtain rfl:j=(Ac al).length:=by (simp only[oZ] at *;omega)
   have hkd2:∀w∈BK (AP al) (t.rows.take (k+1)),marks L t.cols w∈AH L t:=fun w hw=>by
    rw [Lm hx] at hw
    rcases List.mem_append.1 hw with hw|hw
    ·exact hkd w hw
    ·obtain⟨x,hx2,rfl⟩:=List.mem_map.1 hw
     exact hjd x (by rw [List.take_of_length_le (by simp [AP])];exact hx2)
   refine aE ?_
   (repeat first|(refine sM rfl ?_ ?_;first|exact tI|omega) |refine aU rfl ?_ |refine Aa ?_)
   refine⟨⟨k+1,by omega,hkd2⟩,by dsimp only;(omega),[0,1],?_⟩
   simp[cX,zC,hΓ,hr]
 ·obtain rfl:k=t.rows.length:=by (simp only[oZ] at *;omega)
  have hno:A5 L (AP al) t=none:=List.find?_eq_none.2 fun w hw=>by
   have:=hkd w (by rw [List.take_length];exact hw)
   simpa using this
  refine aE ?_
  (repeat first|refine tM rfl ?_ |refine aU rfl ?_ |refine Aa ?_)
  refine aR ⟨_,rfl,?_⟩
  rw [hno]
  rfl
theorem Ij(l:List W)(h:l.length≤1048576):Spec Tryz.prog TB 139 [] 0 [Bf l] (fun x σ nx=>x=.o (.arr 0 1 0 l.length)∧nx=1∧σ=[(0,.cells 9 1 (l.map CW))]):=by
 refine eN Tryz.func139 rfl (by kernel_rfl) rfl ?_;intro Γ hΓ
 (repeat first|refine aU rfl ?_)
 (refine Ag rfl ?_;refine CK (fun _ _=>CT rfl) rfl ?_)
 (repeat first|refine tM rfl ?_ |refine aU rfl ?_ |refine Aa ?_)
 (refine pW rfl ?_ rfl (by rfl);refine Vw rfl ?_;intro b0 hb0)
 (repeat first|refine Aa ?_)
 (refine aC rfl ?_ ?_<;>rintro⟨⟩)
 ·obtain rfl:l=[]:=by simpa using hb0 rfl
  (repeat first|refine aU rfl ?_)
  (refine pW rfl ?_ rfl (by rfl);refine IB 1 9 ?_)
  (repeat first|refine Aa ?_)
  refine aR ⟨_,rfl,rfl,rfl,rfl⟩
 ·refine aK ?_
  (repeat first|refine aU rfl ?_)
  (refine pW rfl ?_ rfl (by rfl);refine A1 rfl rfl rfl rfl (by simp) (by rfl) (by rfl) (by rfl) (by rfl) ?_)
  (repeat first|refine tM rfl ?_)
  (refine pW rfl ?_ rfl (by rfl);refine Aw rfl rfl rfl (by first| (simp;done)|(simp;(omega))) rfl (by intro r hr;simp at hr;obtain⟨a,_,rfl⟩:=hr;rfl) (by rfl) (Nat.le_of_ble_eq_true rfl) (by simp;omega) ?_)
  (repeat first|refine tM rfl ?_ |refine Aa ?_)
  refine Ak.names [1] [(2,.o (.arr 0 1 0 l.length))] [(0,.cells 9 1 (l.map CW))] (by intro i hi;rw [hΓ] at hi;omega) (by simp) (by simp[cX,zC,hΓ]) (by simp[cX,zC,hΓ]) ?_
  refine aR ⟨_,rfl,rfl,rfl,rfl⟩
theorem UY(l:List W)(s:W):Pure Tryz.prog TB 184 [Bf l,eT s] (eI .i64 (if s∈l then (l.idxOf s:Int) else -1)):=by
 refine eN Tryz.func184 rfl (by kernel_rfl) rfl ?_;intro Γ hΓ
 refine Ak.bound 0 rfl fun hB0=>?_
 have hB:=hB0 (l.map Cm) .refl
 (repeat first|refine sN rfl ?_ |refine tM rfl ?_ |refine aU rfl ?_ |refine Aa ?_)
 refine aB ?_
 refine Ak.AZ (α:={k:Nat // k≤l.length∧s∉l.take k}) (fun ⟨k,hk,hs⟩=>[(0,Bf l),(1,eT s),(7,eI .i64 l.length),(8,eI .i64 k)]) (fun ⟨k,hk,hs⟩=>[]) 0 (fun ⟨k,hk,hs⟩=>l.length - k) (⟨0,by omega,by simp⟩) [] (DB hΓ rfl rfl) (by (simp[cX,zC,hΓ])) ?_;rintro⟨k,hk,hs⟩;(try dsimp only)
 (repeat first|refine s2 rfl fun _ _hb=>?_ |refine aU rfl ?_ |refine Aa ?_)
 (refine aC rfl ?_ ?_<;>rintro⟨⟩)
 ·have hlt:k < l.length:=by (simp only[oZ] at *;omega)
  obtain⟨x,hx⟩:=get_some (l:=l) (k:=k) hlt
  have hx':=get_map (g:=Cm) hx
  refine aK ?_
  refine aS (aB ?_)
  (repeat first|refine tM rfl ?_ |(refine s4 rfl ‹_› rfl ?_ ?_;omega) |refine s2 rfl fun _ _hb=>?_ |refine aU rfl ?_ |refine Aa ?_)
  (refine aC rfl ?_ ?_<;>rintro⟨⟩)
  ·have he:s=x:=by (simp only[oZ] at *;omega)
   subst he
   (repeat first|refine tM rfl ?_ |refine aU rfl ?_ |refine Aa ?_)
   refine aR ⟨_,rfl,?_⟩
   have hm:s∈l:=List.mem_of_getElem? hx
   have hi:l.idxOf s=k:=by
    have e:l=l.take k++s::l.drop (k+1):=by rw [←CA hx,List.take_append_drop]
    rw [e,List.idxOf_append,if_neg hs,List.idxOf_cons_self]
    simp;omega
   rw [if_pos hm,hi]
  ·have he:¬s=x:=by simpa using _hb
   have hs2:s∉l.take (k+1):=by
    rw [List.take_add_one,hx]
    simp [hs,he]
   refine aK ?_
   (repeat first|(refine sM rfl ?_ ?_;first|exact tI|simp only[oZ] at *;omega) |refine aU rfl ?_ |refine Aa ?_)
   refine⟨⟨k+1,by omega,hs2⟩,by dsimp only;(omega),[],?_⟩
   simp[cX,zC,hΓ]
 ·obtain rfl:k=l.length:=by (simp only[oZ] at *;omega)
  rw [List.take_length] at hs
  refine aE ?_
  (repeat first|refine tM rfl ?_ |refine aU rfl ?_ |refine Aa ?_)
  refine aR ⟨_,rfl,?_⟩
  rw [if_neg hs]
theorem JO(l:List W)(s:W):Pure Tryz.prog TB 137 [Bf l,eT s] (eB (decide (s∈l))):=by
 refine eN Tryz.func137 rfl (by kernel_rfl) rfl ?_;intro Γ hΓ
 (repeat' first|refine tA rfl ?_ |refine s2 rfl fun _ _hb=>?_ |refine sP rfl (UY l s) rfl ?_ |refine aU rfl ?_ |refine Aa ?_|(refine aC rfl ?_ ?_<;>rintro⟨⟩)|refine aK ?_|refine aE ?_|refine aB ?_|refine aR ⟨_,rfl,?_⟩)
 all_goals (show E.o _=E.o _;congr;subst _hb;by_cases h:s∈l<;>simp [h])
def ES(t:A2)(Oq:W):Option A2:=if t.cols.length=20∨Oq∈t.cols then none else some ⟨t.rows,t.cols++[Oq]⟩
def Ge(o:Option A2):E:=match o with
 | some t=>.t [(true,[.d (A7 t.rows),.d (A7 t.cols)]),(false,[.d (bD true)])]
 | none=>.t [(true,[.d (.l []),.d (.l [])]),(false,[.d (bD false)])]
theorem NB(t:A2)(Oq:W)(hr:t.rows.length≤4096)(hcl:t.cols.length≤4096):Pure Tryz.prog TB 74 [CY t,eT Oq] (Ge (ES t Oq)):=by
 have hc1:=Ij (TB:=TB) t.rows (by omega)
 have hc2:=Ij (TB:=TB) t.cols (by omega)
 refine Bi.E3 (Bi.ofM 2 (Nat.le_refl _) Tryz.func74 rfl rfl (by kernel_rfl) (Nat.le_of_ble_eq_true rfl) ?_);intro Γ hΓ
 (repeat first|refine aU rfl ?_)
 (refine Ag rfl ?_;refine CK (fun _ _=>Dc rfl rfl rfl) rfl ?_)
 (repeat first|refine sN rfl ?_ |refine tM rfl ?_ |refine s2 rfl fun _ _hb=>?_ |(refine sC rfl (JO t.cols Oq) ?_;intro _ _hb) |refine s3 rfl ?_ ?_<;>rintro rfl |refine aU rfl ?_ |refine Aa ?_)
 ·(refine aC rfl ?_ ?_<;>rintro⟨⟩)
  have hn:ES t Oq=none:=by unfold ES;rw [if_pos (.inl (by (simp only[oZ] at *;omega)))]
  (repeat first|refine tM rfl ?_|(refine Ag rfl ?_;refine gA rfl ?_;first| refine gS (fun _ _=>AI rfl rfl (by rfl) (by rfl)) ?_) |refine aU rfl ?_ |refine Aa ?_)
  refine Ak.freeze [0] [(4,.o (.ip [.l [],.l []])),(5,eB false)] ⟨⟨_,rfl,.o (.ptr (by simp) rfl rfl rfl)⟩,⟨_,rfl,.Bb⟩,trivial⟩ ?_
  refine aR ⟨_,rfl,?_⟩
  rw [hn];rfl
 (repeat first|refine tM rfl ?_ |(refine sC rfl (JO t.cols Oq) ?_;intro _ _hb) |refine Aa ?_)
 (refine aC rfl ?_ ?_<;>rintro⟨⟩)
 ·have hn:ES t Oq=none:=by unfold ES;rw [if_pos (.inr (by (simp only[oZ] at *;omega)))]
  (repeat first|refine tM rfl ?_|(refine Ag rfl ?_;refine gA rfl ?_;first| refine gS (fun _ _=>AI rfl rfl (by rfl) (by rfl)) ?_) |refine aU rfl ?_ |refine Aa ?_)
  refine Ak.freeze [0] [(4,.o (.ip [.l [],.l []])),(5,eB false)] ⟨⟨_,rfl,.o (.ptr (by simp) rfl rfl rfl)⟩,⟨_,rfl,.Bb⟩,trivial⟩ ?_
  refine aR ⟨_,rfl,?_⟩
  rw [hn];rfl
 ·refine aK ?_
  refine aS ?_
  refine rG (dM [0,1,3,4,6,7,2,5,8,9,10,11] [2,5,8,10] [0,1,3,4,6,7]) (by kernel_rfl) ?_
  (repeat first|refine tA rfl ?_)
  (refine pW rfl ?_ rfl (by rfl);refine AD [] rfl rfl hc1 ⟨rfl,by simp,by simp⟩ rfl trivial ?_;rintro x0 σ1 nx1 ⟨rfl,rfl,rfl⟩ _)
  (refine pW rfl ?_ rfl (by rfl);refine AD [] rfl rfl hc2 ⟨rfl,by simp,by simp⟩ rfl trivial ?_;rintro x0 σ1 nx1 ⟨rfl,rfl,rfl⟩ _)
  (refine pW rfl ?_ rfl (by rfl);refine Aw rfl rfl rfl (by first| (simp;done)|(simp;(omega))) rfl (by intro r hr;simp at hr;subst hr;rfl) (by rfl) (Nat.le_of_ble_eq_true rfl) (by simp;omega) ?_)
  (repeat first|refine tA rfl ?_|(refine Ag rfl ?_;refine gA rfl ?_;first| refine gS (fun _ _=>AI rfl rfl (by rfl) (by rfl)) ?_) |refine Aa ?_)
  have hnm:Oq∉t.cols:=by simpa using _hb
  have hn:ES t Oq=some ⟨t.rows,t.cols++[Oq]⟩:=by
   unfold ES
   rw [if_neg]
   rintro(h|h)
   ·(simp only[oZ] at *;omega)
   ·exact hnm h
  refine Ak.names [0,1,3] [(4,.o (.ptr 0 2 0 0)),(5,eB true)] [(0,.cells 38 2 [[.arr 1 1 0 t.rows.length,.arr 2 1 0 (t.cols.length+1)]]),(1,.cells 9 1 (t.rows.map CW)),(2,.cells 9 1 ((t.cols++[Oq]).map CW))] (by intro i hi;rw [hΓ] at hi;omega) (by simp) (by simp[cX,zC,hΓ,Gl]) (by simp[cX,zC,hΓ,Gl,Ab.A0,BR,BX,eC,Aj]) ?_
  refine Ak.Kr [1,2] [(4,.o (.ptr 0 2 0 0)),(5,eB true)] [(0,.cells 38 2 [[.d (A7 t.rows),.d (A7 (t.cols++[Oq]))]])] ⟨⟨_,rfl,.Bb⟩,⟨_,rfl,.Bb⟩,trivial⟩ ⟨⟨_,rfl,by simp,.cons (.full (by simp) rfl (by simp [Function.comp_def]) (by simp)) (.cons (.full (by simp) rfl (by simp [Function.comp_def]) (by simp)) .nil)⟩,trivial⟩ ?_
  refine Ak.freeze [0] [(4,.o (.ip [A7 t.rows,A7 (t.cols++[Oq])])),(5,eB true)] ⟨⟨_,rfl,.o (.ptr (by simp) rfl rfl rfl)⟩,⟨_,rfl,.Bb⟩,trivial⟩ ?_
  refine aR ⟨_,rfl,?_⟩
  rw [hn];rfl
end Go.Am
namespace Go.Am.R
open Go
section
variable {P:Program}{TB:Bu}{ops:Array Oper}{i c:Nat}{r:List (Nat×Nat)}{L:List (Nat×E)}{σ:Ab}{nx:Nat}{pl:List (Nat×(TypeId×List Value))}{K:Bw→Prop}{d:Tmp}{ty:TypeId}{pos:String}{af:Array Edge}{g:Option (Nat×Bool)}{op:Op}
theorem yQ{md:Bool}[hT:B7 P]{q:Prop}{x:E}(hg:Be ops ⟨some d,op,ty,pos,af,g⟩ (look L)=some true)(hc:(Nat.beq c 0 || Nat.beq c 2)=true)(h:Wo hT.T md (look L) op=some (q,x))(hq:q)(hk:Ej P TB ops r K ((d,x)::L) σ nx (CP d pl)):Bq P TB ops ⟨some d,op,ty,pos,af,g⟩ i c r K L σ nx pl:=
 CK (fun _ _ _=>Sz h hq) hg hc hk
theorem yB[hT:B7 P]{b0:Bool}(hg:Be ops ⟨some d,op,ty,pos,af,g⟩ (look L)=some true)(hc:(Nat.beq c 0 || Nat.beq c 2)=true)(h:Pz hT.T (look L) op=some b0)(hk:∀b,b0=b→Ej P TB ops r K ((d,eB b)::L) σ nx (CP d pl)):Bq P TB ops ⟨some d,op,ty,pos,af,g⟩ i c r K L σ nx pl:=
 TQ (fun _ _ _=>PA h) hg hc hk
theorem yS[hT:B7 P]{x:E}(hg:Be ops ⟨some d,op,ty,pos,af,g⟩ (look L)=some true)(hc:Nat.beq c 0=true)(h:J6 hT.T σ (look L) op=some x)(hk:Ej P TB ops r K ((d,x)::L) σ nx (CP d pl)):Bq P TB ops ⟨some d,op,ty,pos,af,g⟩ i c r K L σ nx pl:=
 XM (fun _=>LC h) hg hc hk
theorem yW[hT:B7 P]{t:TypeId}{x y:Operand}{σ':Ab}(hg:Be ops ⟨none,.store t x y,ty,pos,af,g⟩ (look L)=some true)(hc:c=1)(h:Nh hT.T σ (look L) t x y=some σ')(hk:Ej P TB ops r K L σ' nx pl):Bq P TB ops ⟨none,.store t x y,ty,pos,af,g⟩ i c r K L σ nx pl:=
 GN (fun _=>LF h hk) hg hc
theorem yA[hT:B7 P]{t:Tmp}{ts:TypeId}{y:Operand}{T:TypeId}{z:List Value}{σ':Ab}(hp:look pl t=some (T,z))(hg:Be ops ⟨none,.store ts (.tmp t) y,ty,pos,af,g⟩ (look ((t,.o (.ptr nx z.length 0 0))::L))=some true)(hc:c=5)
 (h:Nh hT.T ((nx,.cells T z.length [z.map zC])::σ) (look ((t,.o (.ptr nx z.length 0 0))::L)) ts (.tmp t) y=some σ') (hk:Ej P TB ops r K ((t,.o (.ptr nx z.length 0 0))::L) σ' (nx+1) (CP t pl)):Bq P TB ops ⟨none,.store ts (.tmp t) y,ty,pos,af,g⟩ i c r K L σ nx pl:=
 bA hp hg hc fun _=>LF h hk
theorem yP[hT:B7 P]{T:TypeId}{z:List Value}(hz:(Hn hT.T T).ze=some z)(hok:z.all MC=true)(hf:look L d=none)(hc:c=3)(h:Ej P TB ops r K L σ nx ((d,(T,z))::pl)):Bq P TB ops ⟨some d,.alloc T,ty,pos,af,none⟩ i c r K L σ nx pl:=
 haveI:=(CN (P:=P) T hT.ok).UU hz
 dm hok hf hc h
theorem yG{dd:Option Tmp}{j t:Nat}{w b:Bool}(_hd:(ops[j]?).bind (·.dst)=some t)(_hv:look L t=some (eB b))
 (hT:b=true→Ej P TB ops ((i,c)::r) K L σ nx pl) (hF:b=false→Ej P TB ops ((i,c)::r) K L σ nx pl):Bq P TB ops ⟨dd,op,ty,pos,af,some (j,w)⟩ i c r K L σ nx pl:=by
 intro _
 cases b
 ·exact hF rfl
 ·exact hT rfl
end
end Go.Am.R
namespace Go.Am
open Go Go.Proofs
set_option maxHeartbeats 1000000
attribute [local irreducible] AY B2 Lex Bq Ak Spec
variable {TB:Bu}
structure ER (al:Int) (b:Nat) (t:A2):Prop where
 onR:∀w∈t.rows,Al (AP al) w∧w.length≤b
 onC:∀x∈t.cols,Al (AP al) x∧x.length≤20000
 rl:t.rows.length≤12
 cl:t.cols.length≤20
def Hy(ok:W→Prop)(al:Int):Prop:=∀w,Al (AP al) w→w.length≤50000→ok w
def Ux(ls:List UInt8)(t:A2)(v:W):Prop:=∃r∈t.rows,∃m:W,(m=[]∨∃l∈ls,m=[l])∧∃x:W,(x=[]∨x∈t.cols)∧v=r++m++x
def JG(ok:W→Prop)(ls:List UInt8)(t:A2):Prop:=∀v,Ux ls t v→ok v
def Gg(L:W→Bool)(ls:List UInt8):Nat→A2→List A2
 | 0,t=>[t]
 | n+1,t=>t::match A5 L ls t with
  | none=>[]
  | some w=>if t.rows.length=12 then [] else Gg L ls n ⟨t.rows++[w],t.cols⟩
theorem Qn{L:W→Bool}{ls:List UInt8}{n:Nat}{t:A2}:t∈Gg L ls n t:=by cases n<;>simp [Gg]
theorem ER.aM{ok:W→Prop}{al:Int}{b:Nat}{t:A2}(h:ER al b t)(hf:JG ok (AP al) t)(hb:b≤20100):Ui ok t∧∀w∈t.rows,∀l∈AP al,∀x∈t.cols,ok (w++[l]++x):=
  ⟨⟨fun w hw x hx=>hf _ ⟨w,hw,[],.inl rfl,x,.inr hx,by simp⟩,fun w hw=>by have:=(h.onR w hw).2;omega,fun x hx=>by have:=(h.onC x hx).2;omega,by have:=h.rl;omega,by have:=h.cl;omega⟩,
   fun w hw l hl x hx=>hf _ ⟨w,hw,[l],.inr ⟨l,hl,rfl⟩,x,.inr hx,rfl⟩⟩
theorem ER.on{ok:W→Prop}{al:Int}{b:Nat}{t:A2}(h:ER al b t)(hf:Hy ok al)(hb:b≤20100):JG ok (AP al) t:=by
 rintro v ⟨r,hr,m,hm,x,hx,rfl⟩
 have h1:=h.onR r hr
 have h2:Al (AP al) m∧m.length≤1:=by
  rcases hm with rfl|⟨l,hl,rfl⟩
  ·exact⟨fun c hc=>by simp at hc,by simp⟩
  ·exact⟨fun c hc=>by simp at hc;subst hc;exact hl,by simp⟩
 have h3:Al (AP al) x∧x.length≤20000:=by
  rcases hx with rfl|hx
  ·exact⟨fun c hc=>by simp at hc,by simp⟩
  ·exact h.onC x hx
 refine hf _ (fun c hc=>?_) (by simp;omega)
 simp only [List.mem_append] at hc
 rcases hc with (hc|hc)|hc
 ·exact h1.1 c hc
 ·exact h2.1 c hc
 ·exact h3.1 c hc
theorem ER.push{L:W→Bool}{al:Int}{b:Nat}{t:A2}{w:W}(h:ER al b t)(ho:A5 L (AP al) t=some w)(hl:t.rows.length < 12):ER al (b+1) ⟨t.rows++[w],t.cols⟩:=by
 obtain⟨⟨r,hr,l,hl2,rfl⟩,_⟩:=HO ho
 refine⟨fun u hu=>?_,h.onC,by simp;omega,h.cl⟩
 rcases List.mem_append.1 hu with hu|hu
 ·have:=h.onR u hu;exact⟨this.1,by omega⟩
 ·simp at hu
  subst hu
  have:=h.onR r hr
  refine⟨fun c hc=>?_,by simp;omega⟩
  rcases List.mem_append.1 hc with hc|hc
  ·exact this.1 c hc
  ·simp at hc;subst hc;exact hl2
theorem ER.grow{L:W→Bool}{al:Int}:∀ {n b:Nat} {t y:A2},ER al b t→y∈Gg L (AP al) n t→ER al (b+n) y
 | 0,b,t,y,h,hy=>by simp [Gg] at hy;subst hy;exact h
 | n + 1, b,t,y,h,hy=>by
  have hm:∀ {b':Nat} {z:A2},b'≤b+(n+1)→ER al b' z→ER al (b+(n+1)) z:=fun hb hz=>⟨fun w hw=>⟨(hz.onR w hw).1,Nat.le_trans (hz.onR w hw).2 hb⟩,hz.onC,hz.rl,hz.cl⟩
  unfold Gg at hy
  rcases List.mem_cons.1 hy with rfl|hy
  ·exact hm (by omega) h
  ·cases ho:A5 L (AP al) t with
   | none=>rw [ho] at hy;simp at hy
   | some w=>
    rw [ho] at hy
    dsimp only at hy
    split at hy
    ·simp at hy
    ·have:=h.rl
     exact hm (by omega) (ER.grow (h.push ho (by omega)) hy)
theorem ER.dQ{L:W→Bool}{ok:W→Prop}{al:Int}{b:Nat}{t:A2}(h:ER al b t)(hf:Hy ok al)(hb:b≤20000):∀y∈Gg L (AP al) 13 t,JG ok (AP al) y:=fun y hy=>(h.grow hy).on hf (by omega)
theorem Gs{c:C}{L:W→Bool}{ok:W→Prop}(hc:HX Tryz.prog TB c L ok)(al:Int)(t:A2)(hf:∀y∈Gg L (AP al) 13 t,JG ok (AP al) y)(ht:ER al 20000 t) :
 Pure Tryz.prog TB 87 [Gw al c,CY t] (Ge (A9 L (AP al) 13 t)):=by
 have hr:=DZ c hc.BU
 have hrl:=ht.rl
 have hcl:=ht.cl
 have hc1:=Ij (TB:=TB) t.rows (by omega)
 have hc2:=Ij (TB:=TB) t.cols (by omega)
 refine Bi.E3 (Bi.ofM 2 (Nat.le_refl _) Tryz.func87 rfl rfl (by kernel_rfl) (Nat.le_of_ble_eq_true rfl) ?_);intro Γ hΓ
 (repeat first|refine aU rfl ?_)
 (refine pW rfl ?_ rfl (by rfl);refine Dr rfl rfl ?_)
 (refine Ag rfl ?_;refine CK (fun _ _=>Dc rfl rfl rfl) rfl ?_)
 (repeat first|refine tM rfl ?_ |refine aU rfl ?_ |refine Aa ?_)
 refine R.XV [(7,3),(0,2),(1,2),(3,2),(4,2),(2,1),(5,1),(6,0),(8,5)] mixed (by kernel_rfl) rfl (by kernel_rfl) ?_
 (repeat ((refine R.Ag rfl ?_;first|(refine R.yQ (md:=false) rfl rfl rfl ?_ ?_;exact tI) |refine R.yP rfl rfl rfl rfl ?_ )))
 (refine R.Ag rfl ?_;refine R.Mw (fun _=>?_) rfl rfl;refine AD [] rfl rfl hc1 ⟨rfl,by simp,by simp⟩ rfl trivial ?_;rintro x0 σ1 nx1 ⟨rfl,rfl,rfl⟩ _)
 (refine R.Ag rfl ?_;refine R.Mw (fun _=>?_) rfl rfl;refine AD [] rfl rfl hc2 ⟨rfl,by simp,by simp⟩ rfl trivial ?_;rintro x0 σ1 nx1 ⟨rfl,rfl,rfl⟩ _)
 (repeat ((refine R.Ag rfl ?_;first|refine R.yA rfl rfl rfl rfl ?_|refine R.CK (fun _ _ _=>AI rfl rfl (by rfl) (by rfl)) rfl rfl ?_ )))
 refine R.XC ?_
 refine aB ?_
 have hz:∀x:A2,A5 L (AP al) x=none∨∃w,A5 L (AP al) x=some w:=fun x=>by cases A5 L (AP al) x<;>simp
 refine Ak.AZ (α:={p:Nat×A2 // p.1≤13∧13≤p.1+p.2.rows.length∧ER al (20000+p.2.rows.length) p.2∧A9 L (AP al) 13 t=A9 L (AP al) p.1 p.2∧∀y∈Gg L (AP al) p.1 p.2,JG ok (AP al) y}) (fun ⟨⟨m,u⟩,hm,hmu,hu,he,hgr⟩=>[(2,.o (.ptr 0 2 0 0)),(4,.o (.ptr 1 2 0 0)),(6,.o (.ptr 4 2 0 0))]) (fun ⟨⟨m,u⟩,hm,hmu,hu,he,hgr⟩=>[(0,.cells 90 2 [[.d (iD al),c]]),(1,.cells 38 2 [[.d (.l []),.d (.l [])]]),(2,.cells 9 1 (u.rows.map CW)),(3,.cells 9 1 (u.cols.map CW)),(4,.cells 38 2 [[.arr 2 1 0 u.rows.length,.arr 3 1 0 u.cols.length]])]) 5 (fun ⟨⟨m,u⟩,hm,hmu,hu,he,hgr⟩=>m) (⟨(13,t),by simp,by simp,⟨fun w hw=>⟨(ht.onR w hw).1,by have:=(ht.onR w hw).2;omega⟩,ht.onC,ht.rl,ht.cl⟩,rfl,hf⟩) [0,1,2,3,4] (DB hΓ rfl rfl) (by (simp[cX,zC,hΓ,hr,eC,Ab.A0,BR,Gl,BX,Aj])) ?_;rintro⟨⟨m,u⟩,hm,hmu,hu,he,hgr⟩;(try dsimp only)
 dsimp only at hm hmu hu he hgr
 have htk:∀l:List W,((l.map CW).drop 0).take l.length=(l.map Cm).map (fun r=>r.map C.d):=fun l=>by rw [List.drop_zero,List.take_of_length_le (by simp)];simp [Function.comp_def]
 have hur:=hu.rl
 have huc:=hu.cl
 have hask:=hu.aM (hgr u Qn) (by omega)
 have hfo:=NL (TB:=TB) hc al u hask.1 hask.2
 have hev:YD [(0,.cells 90 2 [[.d (iD al),c]]),(1,.cells 38 2 [[.d (.l []),.d (.l [])]]),(2,.cells 9 1 (u.rows.map CW)),(3,.cells 9 1 (u.cols.map CW)),(4,.cells 38 2 [[.arr 2 1 0 u.rows.length,.arr 3 1 0 u.cols.length]])] [.a [.d (iD al),c],.a [.arr 2 1 0 u.rows.length,.arr 3 1 0 u.cols.length]] [Gw al c,CY u]:=
  .cons (.cons (.pure rfl) (.cons (.pure hc.BU) .nil)) (.cons (.cons (.arr rfl (by simp) (htk _)) (.cons (.arr rfl (by simp) (htk _)) .nil)) .nil)
 refine aB ?_
 rcases hz u with ho|⟨w,ho⟩
 ·rw [ho] at hfo
  (repeat first|refine tM rfl ?_ |refine s2 rfl fun _ _hb=>?_|(refine Ag rfl ?_;refine gA rfl ?_;first| refine gQ (FV rfl rfl (hev) (hfo) rfl) rfl ?_) |refine aU rfl ?_ |refine Aa ?_)
  (refine aC rfl ?_ ?_<;>rintro⟨⟩)
  ·(repeat first|refine tM rfl ?_ |refine aU rfl ?_ |refine Aa ?_)
   have hn:A9 L (AP al) 13 t=some u:=by
    rw [he]
    obtain⟨m',rfl⟩:∃m',m=m'+1:=⟨m - 1,by omega⟩
    simp [A9,ho]
   refine Ak.names [1,2,3] [(4,.o (.ptr 0 2 0 0)),(5,eB true)] [(0,.cells 38 2 [[.arr 1 1 0 u.rows.length,.arr 2 1 0 u.cols.length]]),(1,.cells 9 1 (u.rows.map CW)),(2,.cells 9 1 (u.cols.map CW))] (by intro i hi;rw [hΓ] at hi;omega) (by simp) (by simp[cX,zC,hΓ,Gl]) (by simp[cX,zC,hΓ,Gl,Ab.A0,BR,BX,eC,Aj]) ?_
   refine Ak.Kr [1,2] [(4,.o (.ptr 0 2 0 0)),(5,eB true)] [(0,.cells 38 2 [[.d (A7 u.rows),.d (A7 u.cols)]])] ⟨⟨_,rfl,.Bb⟩,⟨_,rfl,.Bb⟩,trivial⟩ ⟨⟨_,rfl,by simp,.cons (.full (by simp) rfl (by simp [Function.comp_def]) (by simp)) (.cons (.full (by simp) rfl (by simp [Function.comp_def]) (by simp)) .nil)⟩,trivial⟩ ?_
   refine Ak.freeze [0] [(4,.o (.ip [A7 u.rows,A7 u.cols])),(5,eB true)] ⟨⟨_,rfl,.o (.ptr (by simp) rfl rfl rfl)⟩,⟨_,rfl,.Bb⟩,trivial⟩ ?_
   refine aR ⟨_,rfl,?_⟩
   rw [hn];rfl
  ·simp at _hb
 ·rw [ho] at hfo
  (repeat first|refine tM rfl ?_ |refine s2 rfl fun _ _hb=>?_|(refine Ag rfl ?_;refine gA rfl ?_;first| refine gQ (FV rfl rfl (hev) (hfo) rfl) rfl ?_) |refine aU rfl ?_ |refine Aa ?_)
  (refine aC rfl ?_ ?_<;>rintro⟨⟩)
  ·simp at _hb
  ·refine aK ?_
   (repeat first|refine tM rfl ?_ |refine s2 rfl fun _ _hb=>?_ |refine aU rfl ?_ |refine Aa ?_)
   (refine aC rfl ?_ ?_<;>rintro⟨⟩)
   ·(repeat first|refine tM rfl ?_|(refine Ag rfl ?_;refine gA rfl ?_;first| refine gS (fun _ _=>AI rfl rfl (by rfl) (by rfl)) ?_) |refine aU rfl ?_ |refine Aa ?_)
    have hn:A9 L (AP al) 13 t=none:=by
     have h12:u.rows.length=12:=by (simp only[oZ] at *;omega)
     rw [he]
     obtain⟨m',rfl⟩:∃m',m=m'+1:=⟨m - 1,by omega⟩
     simp [A9,ho,h12]
    refine Ak.freeze [1] [(4,.o (.ip [.l [],.l []])),(5,eB false)] ⟨⟨_,rfl,.o (.ptr (by simp) rfl rfl rfl)⟩,⟨_,rfl,.Bb⟩,trivial⟩ ?_
    refine aR ⟨_,rfl,?_⟩
    rw [hn];rfl
   ·refine aK ?_
    have hlt:u.rows.length < 12:=by (simp only[oZ] at *;omega)
    obtain⟨m',rfl⟩:∃m',m=m'+1:=⟨m - 1,by omega⟩
    have hn:A9 L (AP al) 13 t=A9 L (AP al) m' ⟨u.rows++[w],u.cols⟩:=by
     rw [he]
     conv=>lhs;unfold A9
     rw [ho]
     dsimp only
     rw [if_neg (by omega)]
    have hp:=hu.push ho hlt
    (repeat first|refine tA rfl ?_ |refine aU rfl ?_)
    (refine pW rfl ?_ rfl (by rfl);refine Aw rfl rfl rfl (by first| (simp;done)|(simp;(omega))) rfl (by intro r hr;simp at hr;subst hr;rfl) (by rfl) (Nat.le_of_ble_eq_true rfl) (by simp;omega) ?_)
    (repeat first|refine tM rfl ?_ |refine Aa ?_)
    refine⟨⟨⟨m',⟨u.rows++[w],u.cols⟩⟩,by dsimp only;omega,by simp;omega,by simpa [Nat.add_assoc] using hp,hn,fun y hy=>hgr y (by unfold Gg;rw [ho];dsimp only;rw [if_neg (by omega)];exact List.mem_cons_of_mem _ hy)⟩,by dsimp only;(omega),[0,1,5,3,4],?_⟩
    simp[cX,zC,hΓ,hr,eC,Ab.A0,BR,Gl,BX,Aj]
def Bt:A2:=⟨[[]],[[]]⟩
theorem Jz(al:Int):ER al 20000 Bt:=by
 refine⟨fun w hw=>?_,fun w hw=>?_,by decide,by decide⟩<;>(simp [Bt] at hw;subst hw;exact⟨fun c hc=>by simp at hc,by simp⟩)
theorem NV{c:C}{L:W→Bool}{ok:W→Prop}(hc:HX Tryz.prog TB c L ok)(al:Int)(hf:∀y∈Gg L (AP al) 13 Bt,JG ok (AP al) y) :
 Pure Tryz.prog TB 157 [Gw al c] (Ge (A9 L (AP al) 13 Bt)):=by
 have hr:=DZ c hc.BU
 have h:=Gs hc al Bt hf (Jz al)
 refine Bi.E3 (Bi.ofM 2 (Nat.le_refl _) Tryz.func157 rfl rfl (by kernel_rfl) (Nat.le_of_ble_eq_true rfl) ?_);intro Γ hΓ
 generalize A9 L (AP al) 13 Bt=o at h ⊢
 (repeat first|refine aU rfl ?_)
 (refine pW rfl ?_ rfl (by rfl);refine Dr rfl rfl ?_)
 (repeat first|refine tM rfl ?_ |refine aU rfl ?_ |refine Aa ?_)
 have hpu:([Gw al c,CY Bt].all E.BU && C.CE [])=true:=by simp [Gw,CY,E.BU,C.CE,C.BU,hc.BU]
 cases o with
 | none=>
  (repeat first|refine tA rfl ?_|(refine Ag rfl ?_;refine gA rfl ?_;first| refine gS (fun _ _=>BL rfl rfl hpu h rfl) ?_|refine gS (fun _ _=>AI rfl rfl (by rfl) (by rfl)) ?_) |refine Aa ?_)
  refine Ak.freeze [1] [(2,.o (.ip [.l [],.l []])),(3,eB false)] ⟨⟨_,rfl,.o (.ptr (by simp) rfl rfl rfl)⟩,⟨_,rfl,.Bb⟩,trivial⟩ ?_
  refine aR ⟨_,rfl,?_⟩
  rfl
 | some u=>
  (repeat first|refine tA rfl ?_|(refine Ag rfl ?_;refine gA rfl ?_;first| refine gS (fun _ _=>BL rfl rfl hpu h rfl) ?_|refine gS (fun _ _=>AI rfl rfl (by rfl) (by rfl)) ?_) |refine Aa ?_)
  refine Ak.freeze [1] [(2,.o (.ip [A7 u.rows,A7 u.cols])),(3,eB true)] ⟨⟨_,rfl,.o (.ptr (by simp) rfl rfl rfl)⟩,⟨_,rfl,.Bb⟩,trivial⟩ ?_
  refine aR ⟨_,rfl,?_⟩
  rfl
theorem JZ{c:C}{L:W→Bool}{ok:W→Prop}(hc:HX Tryz.prog TB c L ok)(al:Int)(hf:Hy ok al) :
 Pure Tryz.prog TB 157 [Gw al c] (Ge (A9 L (AP al) 13 Bt)):=NV hc al ((Jz al).dQ hf (by omega))
def AK(L:W→Bool)(al:Int)(t:A2):AN:=⟨al,t.rows.map fun r=>(Ac al).map fun l=>((Cv L t (r++[lb l]):Nat):Int),t.rows.map L⟩
theorem Vn{L:W→Bool}{al:Int}{t:A2}(ho:A5 L (AP al) t=none){r:W}(hr:r∈t.rows){l:Int}(hl:l∈Ac al) :
 (BA (Bs L t t.rows.length) (marks L t.cols (r++[lb l]))).getD 0=((Cv L t (r++[lb l]):Nat):Int):=by
 have hm:marks L t.cols (r++[lb l])∈AH L t:=by
  have:=List.find?_eq_none.1 ho (r++[lb l]) (by
   unfold BK
   exact List.mem_flatMap.2 ⟨r,hr,List.mem_map.2 ⟨lb l,List.mem_map.2 ⟨l,hl,rfl⟩,rfl⟩⟩)
  simpa using this
 rw [Po,if_pos hm]
 rfl
end Go.Am
namespace Go.Am
set_option linter.unusedVariables false
theorem Kw{al:Int}{l:Int}(h:l∈Ac al):lb l∈AP al:=List.mem_map.2 ⟨l,h,rfl⟩
theorem GY{L:W→Bool}{al:Int}{t:A2}(hal:BW al=true)(h:A3 L (AP al) t)(hr:t.rows.length≤12):Ay (AK L al t)=true:=by
 have h0:0 < t.rows.length:=(List.getElem?_eq_some_iff.1 h.r0).1
 unfold Ay
 simp only [Bool.and_eq_true,decide_eq_true_eq,List.all_eq_true]
 refine⟨⟨⟨hal,by simp [AK];omega⟩,by simp [AK]⟩,fun row hrow=>?_⟩
 simp only [AK,List.mem_map] at hrow
 obtain⟨r,hr,rfl⟩:=hrow
 unfold DU
 simp only [Bool.and_eq_true,decide_eq_true_eq,List.all_eq_true]
 refine⟨by simp [AK],fun y hy=>?_⟩
 obtain⟨l,hl,rfl⟩:=List.mem_map.1 hy
 obtain⟨i,hi,he⟩:=List.getElem_of_mem hr
 obtain⟨r',h2,_⟩:=h.idx (i:=i) (r:=r) (by rw [List.getElem?_eq_getElem hi,he]) (Kw hl)
 have h3:=(List.getElem?_eq_some_iff.1 h2).1
 unfold Og
 simp [AK]
 exact h3
theorem Iq{L:W→Bool}{al:Int}{t:A2}{q:Nat}{c:UInt8}(hq:q < t.rows.length)(hc:c∈AP al):Bm (AK L al t) q ((c.toNat:Int) - 97)=((Cv L t (t.rows.getD q []++[c]):Nat):Int):=by
 obtain⟨l,hl,rfl⟩:=List.mem_map.1 hc
 have h1:=Au hl
 rw [Eo h1.1 (by omega)]
 obtain⟨k,hk,he⟩:=List.getElem_of_mem hl
 have h2:(Az al 6)[k]? = some l:=by rw [List.getElem?_eq_getElem hk,he]
 have h3:=DA h2
 unfold Bm
 have h4:ET (AK L al t).al l.toNat=true:=h1.2.2
 rw [if_pos h4]
 have h5:(Az (AK L al t).al l.toNat).length=k:=h3
 rw [h5]
 have h6:(AK L al t).nx.getD q []=(Ac al).map fun l=>((Cv L t (t.rows.getD q []++[lb l]):Nat):Int):=by
  simp [AK,List.getD,hq]
 rw [h6]
 simp [List.getD,h2]
theorem Fq{L:W→Bool}{al:Int}{t:A2}(h:A3 L (AP al) t):∀(w:W) (q:Nat),Al (AP al) w→q < t.rows.length→AL (AK L al t) q w=((runM L t q w:Nat):Int)
 | [],q,_,_=>rfl
 | c::w,q,hw,hq=>by
  have h1:t.rows[q]? = some t.rows[q]:=List.getElem?_eq_getElem hq
  have hc:=hw c (by simp)
  obtain⟨_,h2,_⟩:=h.idx h1 hc
  have h3:t.rows.getD q []=t.rows[q]:=by simp [h1]
  have h4:=(List.getElem?_eq_some_iff.1 h2).1
  show AL (AK L al t) (Bm (AK L al t) ((q:Int)).toNat ((c.toNat:Int) - 97)) w=_
  rw [Int.toNat_natCast,Iq hq hc]
  rw [←h3] at h4
  exact Fq h w _ (fun x hx=>hw x (by simp [hx])) h4
theorem GV{L:W→Bool}{al:Int}{t:A2}(h:A3 L (AP al) t){w:W}(hw:Al (AP al) w):LA (AK L al t) w=Hl L t w:=by
 have h0:0 < t.rows.length:=(List.getElem?_eq_some_iff.1 h.r0).1
 have h1:=h.run w 0 hw h0
 unfold LA Hl
 have h2:=Fq h w 0 hw h0
 rw [show ((0:Nat):Int)=0 from rfl] at h2
 rw [h2,Int.toNat_natCast]
 simp [AK,List.getD,h1]
end Go.Am
namespace Go.Am
open Go
set_option linter.unusedVariables false
def JR(a b:AN)(s0:Int)(op:Bool→Bool→Bool):Gr:=
 ⟨a.nx.length*b.nx.length,fun x l=>[Bm a (x / b.nx.length).toNat l*b.nx.length+Bm b (x % b.nx.length).toNat l],fun x=>op (a.ac.getD (x / b.nx.length).toNat false) (b.ac.getD (x % b.nx.length).toNat false),Ac a.al,s0⟩
def C5(a b:AN)(kd:Int):Net:=⟨[],[a,b],[0,0],a.al,kd,0⟩
theorem Gz{a b:AN}(hb:Ay b=true){x:Int}(hx:0≤x∧x < (JR a b 0 bne).N):0≤x / b.nx.length∧x / b.nx.length < a.nx.length∧0≤x % b.nx.length∧x % b.nx.length < b.nx.length:=by
 have h1:=Ar hb
 have h2:x < ((a.nx.length*b.nx.length:Nat):Int):=hx.2
 rw [Int.natCast_mul] at h2
 exact⟨Int.ediv_nonneg hx.1 (by omega),Int.ediv_lt_of_lt_mul (by omega) h2,Int.emod_nonneg _ (by omega),Int.emod_lt_of_pos _ (by omega)⟩
theorem UQ{a b:AN}(ha:Ay a=true)(hb:Ay b=true){s0:Int}{op:Bool→Bool→Bool}(hs:0≤s0∧s0 < a.nx.length*b.nx.length):Gm (JR a b s0 op):=by
 refine⟨⟨hs.1,by show s0 < ((a.nx.length*b.nx.length:Nat):Int);rw [Int.natCast_mul];exact hs.2⟩,fun x hx l hl y hy=>?_,C8 _ _⟩
 have hl:=Au (show l∈Az a.al 6 from hl)
 have h1:=Gz hb hx
 have h2:=GB ha (q:=(x / b.nx.length).toNat) (by omega) hl.1 (by omega)
 have h3:=GB hb (q:=(x % b.nx.length).toNat) (by omega) hl.1 (by omega)
 have hy:y=Bm a (x / b.nx.length).toNat l*b.nx.length+Bm b (x % b.nx.length).toNat l:=by simpa [JR] using hy
 subst hy
 generalize Bm a (x / b.nx.length).toNat l=u at *
 generalize Bm b (x % b.nx.length).toNat l=v at *
 show 0≤u*(b.nx.length:Int)+v∧u*(b.nx.length:Int)+v < ((a.nx.length*b.nx.length:Nat):Int)
 rw [Int.natCast_mul]
 have h4:0≤u*(b.nx.length:Int):=Int.mul_nonneg h2.1 (by omega)
 have h5:(u+1)*(b.nx.length:Int)≤a.nx.length*b.nx.length:=Int.mul_le_mul_of_nonneg_right (by omega) (by omega)
 rw [Int.add_mul] at h5
 omega
theorem Sl{a b:AN}{kd:Int}(ha:Ay a=true)(hb:Ay b=true):Dq (C5 a b kd)∧YF (C5 a b kd)∧Fits (Ae (C5 a b kd)) (C5 a b kd).st:=by
 have h1:=Ar ha
 have h2:=Ar hb
 refine⟨⟨fun s hs=>(by cases hs),fun x hx=>?_,by simp [C5],by simp [C5]⟩,⟨fun _=>by simp [C5],fun _=>by simp [C5]⟩,?_⟩
 ·simp [C5] at hx;rcases hx with rfl|rfl<;>assumption
 ·refine MP (zs:=Ae (C5 a b kd)) fun z hz=>?_
  simp [Ae,C5] at hz
  rcases hz with rfl|rfl<;>omega
theorem Lj{a b:AN}{kd:Int}{op:Bool→Bool→Bool}(ha:Ay a=true)(hb:Ay b=true)(ho:∀x y,op x y=if kd=1 then x != y else (x && !y))(hk:kd=1∨kd=2):Gp (JR a b 0 op)=Gp (E5 (C5 a b kd)):=by
 obtain⟨hn,_,hst⟩:=Sl (kd:=kd) ha hb
 have han:=Ar ha
 have hbn:=Ar hb
 have hg:=UP hn hst
 refine Ut (BH.congr hg ?_ ?_ (fun x hx l hl=>?_) (fun x hx=>?_) (Fa _))
 ·rfl
 ·exact MO (Ae (C5 a b kd)) 2
 ·have hl:=Au (show l∈Az a.al 6 from hl)
  show Es (C5 a b kd) (Ae (C5 a b kd)) (Bx (Ae (C5 a b kd)) x) l=_
  have e:=NY (l:=[]) (aus:=[a,b]) (st:=[0,0]) (ls:=a.al) (kd:=kd) (gl:=0) hn (node:=x) hl.1 (by omega)
  refine Eq.trans e ?_
  have hxN:x / b.nx.length % a.nx.length=x / b.nx.length:=by
   have h2:(E5 (C5 a b kd)).N=a.nx.length*b.nx.length:=by
    show (AJ (Ae (C5 a b kd))).toNat=_
    simp only [Ae,C5,List.map_nil,List.nil_append,List.map_cons,AJ,Int.mul_one]
    rw [←Int.natCast_mul,Int.toNat_natCast]
   rw [h2] at hx
   have:=Gz (a:=a) hb (x:=x) hx
   exact Int.emod_eq_of_lt this.1 this.2.1
  simp only [List.map_cons,List.map_nil,AJ,Int.mul_one,Bx,Z3,List.zipWith_nil_left,List.zipWith_cons_cons,Jn,List.flatMap_cons,List.flatMap_nil,List.append_nil,Int.ediv_one,Int.add_zero,Int.zero_mul,Int.zero_add,hxN,JR]
 ·show BZ (C5 a b kd) (Bx (Ae (C5 a b kd)) x) (DL (C5 a b kd) x.toNat)=_
  have hxN:x / b.nx.length % a.nx.length=x / b.nx.length:=by
   have h2:(E5 (C5 a b kd)).N=a.nx.length*b.nx.length:=by
    show (AJ (Ae (C5 a b kd))).toNat=_
    simp only [Ae,C5,List.map_nil,List.nil_append,List.map_cons,AJ,Int.mul_one]
    rw [←Int.natCast_mul,Int.toNat_natCast]
   rw [h2] at hx
   have:=Gz (a:=a) hb (x:=x) hx
   exact Int.emod_eq_of_lt this.1 this.2.1
  show _=op (a.ac.getD (x / b.nx.length).toNat false) (b.ac.getD (x % b.nx.length).toNat false)
  rw [ho]
  unfold BZ Xa
  rcases hk with rfl|rfl
  ·simp [C5,Ae,Bx,AJ,List.getD,hxN]
  ·simp [C5,Ae,Bx,AJ,List.getD,hxN]
def Cj(a b:AN):Bool:=Ay a && Ay b && decide (a.al=b.al)
noncomputable def EC(a b:AN):Option (List Int):=if Cj a b then Gp (E5 (C5 a b 1)) else none
theorem Hd{g:Gr}:∀ {u v:List Int} {a x:Int},reach g (u++v) a x↔∃y,reach g u a y∧reach g v y x
 | [],v,a,x=>⟨fun h=>⟨a,rfl,h⟩,fun ⟨y,h1,h2⟩=>by cases h1;exact h2⟩
 | l :: u,v,a,x=>by
  simp only [List.cons_append,reach]
  constructor
  ·rintro⟨y,hy,h⟩
   obtain⟨z,h1,h2⟩:=Hd.1 h
   exact⟨z,⟨y,hy,h1⟩,h2⟩
  ·rintro⟨z,⟨y,hy,h1⟩,h2⟩
   exact⟨y,hy,Hd.2 ⟨z,h1,h2⟩⟩
theorem Zs(n:Nat)(f:Nat→Int)(h:∀i,i≤n→0≤f i∧f i < n):∃i j,i < j∧j≤n∧f i=f j:=by
 apply Classical.byContradiction
 intro hno
 have h1:((List.range (n+1)).map fun i=>(f i).toNat).Nodup:=by
  unfold List.Nodup
  rw [List.pairwise_map]
  refine List.pairwise_lt_range.imp_of_mem fun {a b} ha hb hab he=>hno ⟨a,b,hab,?_,?_⟩
  ·have:=List.mem_range.1 hb;omega
  ·have h2:=h a (by have:=List.mem_range.1 ha;omega)
   have h3:=h b (by have:=List.mem_range.1 hb;omega)
   omega
 have h2:=GJ n _ h1 fun x hx=>by
  obtain⟨i,hi,rfl⟩:=List.mem_map.1 hx
  have:=h i (by have:=List.mem_range.1 hi;omega)
  omega
 simp at h2
 omega
theorem BH.short{g:Gr}(hg:Gm g){w:List Int}(h:BH g (some w)):w.length < g.N:=by
 obtain⟨h1,⟨x,hx,hgx⟩,h3⟩:=h
 apply Classical.byContradiction
 intro hlen
 have hsp:∀k,∃y,reach g (w.take k) g.s0 y∧reach g (w.drop k) y x:=fun k=>Hd.1 (by rw [List.take_append_drop];exact hx)
 obtain⟨f,hf⟩:=Classical.axiomOfChoice hsp
 obtain⟨i,j,hij,hj,he⟩:=Zs g.N f fun i _=>Cy hg (fun l hl=>h1 l (List.mem_of_mem_take hl)) hg.s0 (hf i).1
 refine h3 (w.take i++w.drop j) (fun l hl=>?_) ⟨x,Hd.2 ⟨f i,(hf i).1,he ▸ (hf j).2⟩,hgx⟩ (.inl ?_)
 ·rcases List.mem_append.1 hl with hl|hl
  ·exact h1 l (List.mem_of_mem_take hl)
  ·exact h1 l (List.mem_of_mem_drop hl)
 ·simp;omega
theorem Rw{al:Int}:∀ {w:List Int},(∀l∈w,l∈Ac al)→Al (AP al) (CM w):=fun {w} h c hc=>by
 obtain⟨l,hl,rfl⟩:=List.mem_map.1 hc
 exact Kw (h l hl)
theorem Zr{al:Int}{w:W}(h:Al (AP al) w):∃v:List Int,(∀l∈v,l∈Ac al)∧CM v=w:=by
 induction w with
 | nil=>exact⟨[],by simp,rfl⟩
 | cons c w ih=>
  obtain⟨v,hv,he⟩:=ih fun x hx=>h x (by simp [hx])
  obtain⟨l,hl,rfl⟩:=List.mem_map.1 (h c (by simp))
  exact⟨l::v,fun m hm=>by
   rcases List.mem_cons.1 hm with rfl|hm
   ·exact hl
   ·exact hv m hm,by rw [←he];rfl⟩
theorem Lz{a b:AN}(ha:Ay a=true)(hb:Ay b=true){op:Bool→Bool→Bool}{s0:Int}:∀ {w:List Int} {i j x:Int},(∀l∈w,l∈Ac a.al)→(0≤i∧i < a.nx.length)→(0≤j∧j < b.nx.length)→
 (reach (JR a b s0 op) w (i*b.nx.length+j) x↔x=AL a i (CM w)*b.nx.length+AL b j (CM w))
 | [],i,j,x,_,_,_=>⟨fun h=>h.symm,fun h=>h.symm⟩
 | l :: w,i,j,x,hw,hi,hj=>by
  have hl:=Au (hw l (by simp))
  have h1:(i*b.nx.length+j) / b.nx.length=i:=by
   rw [Int.add_comm,Int.add_mul_ediv_right _ _ (by omega),Int.ediv_eq_zero_of_lt hj.1 hj.2,Int.zero_add]
  have h2:(i*b.nx.length+j) % b.nx.length=j:=by
   rw [Int.add_comm,Int.add_mul_emod_self_right,Int.emod_eq_of_lt hj.1 hj.2]
  have h3:=GB ha (q:=i.toNat) (by omega) hl.1 (by omega)
  have h4:=GB hb (q:=j.toNat) (by omega) hl.1 (by omega)
  have ih:=Lz ha hb (op:=op) (s0:=s0) (w:=w) (x:=x) (fun m hm=>hw m (by simp [hm])) h3 h4
  have e:∀(c:AN) (q:Int),AL c q (CM (l::w))=AL c (Bm c q.toNat l) (CM w):=fun c q=>by
   show AL c (Bm c q.toNat (((lb l).toNat:Int) - 97)) (CM w)=_
   rw [Eo hl.1 (by omega)]
  rw [e,e,←ih]
  simp only [reach,JR,h1,h2,List.mem_singleton,exists_eq_left]
theorem ML{a b:AN}{w:List Int}(h:EC a b=some w):Cj a b=true∧Al (AP a.al) (CM w)∧LA a (CM w)≠LA b (CM w)∧(CM w).length≤144:=by
 unfold EC at h
 by_cases hv:Cj a b=true
 ·rw [if_pos hv] at h
  refine⟨hv,?_⟩
  unfold Cj at hv
  simp only [Bool.and_eq_true,decide_eq_true_eq] at hv
  obtain⟨⟨ha,hb⟩,hal⟩:=hv
  have han:=Ar ha
  have hbn:=Ar hb
  rw [←Lj (op:=bne) ha hb (fun x y=>by simp) (.inl rfl)] at h
  have hg:=UQ (op:=bne) (s0:=0) ha hb ⟨by omega,by rw [←Int.natCast_mul];have:=Nat.mul_pos (show 0 < a.nx.length by omega) (show 0 < b.nx.length by omega);omega⟩
  have hi:=Fa (JR a b 0 bne)
  rw [h] at hi
  have hs:=hi.short hg
  obtain⟨h1,⟨x,hx,hgx⟩,h3⟩:=hi
  have hon:=Rw (al:=a.al) h1
  refine⟨hon,fun he=>?_,?_⟩
  ·have h4:=(Lz ha hb (op:=bne) (s0:=0) (i:=0) (j:=0) (x:=x) h1 ⟨by omega,by omega⟩ ⟨by omega,by omega⟩).1 (by simpa [JR] using hx)
   have hra:=Dg ha (CM w) 0 hon (by omega)
   have hrb:=Dg hb (CM w) 0 (al:=a.al) hon (by omega)
   have h5:x / b.nx.length=AL a 0 (CM w):=by
    rw [h4,Int.add_comm,Int.add_mul_ediv_right _ _ (by omega),Int.ediv_eq_zero_of_lt hrb.1 hrb.2,Int.zero_add]
   have h6:x % b.nx.length=AL b 0 (CM w):=by
    rw [h4,Int.add_comm,Int.add_mul_emod_self_right,Int.emod_eq_of_lt hrb.1 hrb.2]
   have h7:(JR a b 0 bne).goal x=(LA a (CM w) != LA b (CM w)):=by simp only [JR,h5,h6,LA]
   rw [h7,he] at hgx
   simp at hgx
  ·have h8:a.nx.length*b.nx.length≤12*12:=Nat.mul_le_mul (by omega) (by omega)
   have h9:(JR a b 0 bne).N=a.nx.length*b.nx.length:=rfl
   have h10:(CM w).length=w.length:=by simp [CM]
   omega
 ·rw [if_neg hv] at h;cases h
theorem Ti{a b:AN}(hv:Cj a b=true)(h:EC a b=none):∀w,Al (AP a.al) w→LA a w=LA b w:=by
 intro w hw
 unfold EC at h
 rw [if_pos hv] at h
 unfold Cj at hv
 simp only [Bool.and_eq_true,decide_eq_true_eq] at hv
 obtain⟨⟨ha,hb⟩,hal⟩:=hv
 have han:=Ar ha
 have hbn:=Ar hb
 rw [←Lj (op:=bne) ha hb (fun x y=>by simp) (.inl rfl)] at h
 have hi:=Fa (JR a b 0 bne)
 rw [h] at hi
 obtain⟨v,hv,rfl⟩:=Zr hw
 apply Classical.byContradiction
 intro hne
 have hra:=Dg ha (CM v) 0 hw (by omega)
 have hrb:=Dg hb (CM v) 0 (al:=a.al) hw (by omega)
 refine hi v hv ⟨AL a 0 (CM v)*b.nx.length+AL b 0 (CM v),?_,?_⟩
 ·have:=(Lz ha hb (op:=bne) (s0:=0) (i:=0) (j:=0) (x:=AL a 0 (CM v)*b.nx.length+AL b 0 (CM v)) hv ⟨by omega,by omega⟩ ⟨by omega,by omega⟩).2 rfl
  simpa [JR] using this
 ·have h5:(AL a 0 (CM v)*b.nx.length+AL b 0 (CM v)) / b.nx.length=AL a 0 (CM v):=by
   rw [Int.add_comm,Int.add_mul_ediv_right _ _ (by omega),Int.ediv_eq_zero_of_lt hrb.1 hrb.2,Int.zero_add]
  have h6:(AL a 0 (CM v)*b.nx.length+AL b 0 (CM v)) % b.nx.length=AL b 0 (CM v):=by
   rw [Int.add_comm,Int.add_mul_emod_self_right,Int.emod_eq_of_lt hrb.1 hrb.2]
  show bne (a.ac.getD ((AL a 0 (CM v)*b.nx.length+AL b 0 (CM v)) / b.nx.length).toNat false) (b.ac.getD ((AL a 0 (CM v)*b.nx.length+AL b 0 (CM v)) % b.nx.length).toNat false)=true
  rw [h5,h6]
  unfold LA at hne
  simpa using hne
end Go.Am
namespace Go.Am
set_option linter.unusedVariables false
theorem DY{α:Type}{l:List α}{k:Nat}{x d:α}(h:l[k]? = some x):l.getD k d=x:=by rw [List.getD_eq_getElem?_getD,h];rfl
def fA(a:AN)(q l:Int):Int:=Bm a q.toNat l
def EB(a:AN)(q:Int):Bool:=a.ac.getD q.toNat false
def Mf(a:AN):AN:=match Mu a.nx.length (fA a) (Ac a.al) 0 with
 | some p=>⟨a.al,p.2,p.1.map (EB a)⟩
 | none=>⟨a.al,[],[]⟩
theorem Cq{a:AN}(h:HY a){q:Nat}(hq:q < a.nx.length){l:Int}(h0:0≤l)(h1:l < 6):0≤Bm a q l∧Bm a q l < a.nx.length:=by
 obtain⟨row,hr,hl,hx⟩:=h.2 q hq
 unfold Bm
 split
 ·rename_i hb
  have hlt:(Az a.al l.toNat).length < row.length:=by rw [hl];exact FG (by omega) hb
  obtain⟨y,hy⟩:=get_some hlt
  have:=hx _ y hy
  simpa [List.getD,hr,hy] using this
 ·omega
theorem Nl{a:AN}:∀(w:List Int) (q:Int),(∀l∈w,l∈Ac a.al)→Od (fA a) q w=AL a q (CM w)
 | [],q,_=>rfl
 | l::w,q,h=>by
  have hl:=Au (h l (by simp))
  have e:AL a q (CM (l::w))=AL a (Bm a q.toNat (((lb l).toNat:Int) - 97)) (CM w):=rfl
  rw [e,Eo hl.1 (by omega)]
  exact Nl w _ fun m hm=>h m (by simp [hm])
theorem MX{s l:Int}(h:l∈Ac s):(Ac s)[(Az s l.toNat).length]? = some l:=by
 obtain⟨k,hk⟩:=List.mem_iff_getElem?.1 h
 rw [DA hk];exact hk
theorem Rv{a:AN}(h:HY a)(h1:1≤a.nx.length):∃nd rows,Mu a.nx.length (fA a) (Ac a.al) 0=some (nd,rows)∧Td (fA a) (Ac a.al) 0 nd rows∧nd.length≤a.nx.length∧(∀q∈nd,0≤q∧q < a.nx.length)∧Mf a=⟨a.al,rows,nd.map (EB a)⟩:=by
 have hf:∀q l:Int,0≤q∧q < ((a.nx.length:Nat):Int)→l∈Ac a.al→0≤fA a q l∧fA a q l < ((a.nx.length:Nat):Int):=fun q l hq hl=>by
  have hl:=Au hl
  exact Cq h (q:=q.toNat) (by omega) hl.1 (by omega)
 obtain⟨⟨nd,rows⟩,hp⟩:=TM (lim:=a.nx.length) (f:=fA a) (ls:=Ac a.al) (s:=0) hf (by omega)
 obtain⟨h2,h3,_⟩:=N0 h1 hp
 refine⟨nd,rows,hp,h2,h3,fun q hq=>?_,by unfold Mf;rw [hp]⟩
 obtain⟨w,h4,rfl⟩:=h2.rc q hq
 have key:∀(w:List Int) (q:Int),(∀l∈w,l∈Ac a.al)→0≤q∧q < ((a.nx.length:Nat):Int)→0≤Od (fA a) q w∧Od (fA a) q w < ((a.nx.length:Nat):Int):=fun w=>by
  induction w with
  | nil=>exact fun q _ hq=>hq
  | cons l w ih=>exact fun q hw hq=>ih _ (fun m hm=>hw m (by simp [hm])) (hf q l hq (hw l (by simp)))
 exact key w 0 h4 (by omega)
theorem Zo{a:AN}{nd:List Int}{rows:List (List Int)}(h:Td (fA a) (Ac a.al) 0 nd rows){ac:List Bool}{i:Nat}{q l:Int}(hi:nd[i]? = some q)(hl:l∈Ac a.al):Bm ⟨a.al,rows,ac⟩ i l=((nd.idxOf (Bm a q.toNat l):Nat):Int):=by
 have h1:=h.row i q hi
 have hb:=Au hl
 unfold Bm
 rw [if_pos hb.2.2]
 show (rows.getD i []).getD _ 0=_
 rw [List.getD_eq_getElem?_getD,List.getD_eq_getElem?_getD,h1,Option.getD_some,List.getElem?_map,MX hl,Option.map_some,Option.getD_some]
 rfl
theorem Xv{nd:List Int}{x:Int}(h:x∈nd):nd[nd.idxOf x]? = some x:=by
 rw [List.getElem?_eq_getElem (List.idxOf_lt_length_iff.2 h),List.getElem_idxOf]
theorem ID{a:AN}{nd:List Int}{rows:List (List Int)}(h:Td (fA a) (Ac a.al) 0 nd rows){ac:List Bool}:∀(w:W) {i:Nat} {q:Int},Al (AP a.al) w→nd[i]? = some q→∃j:Nat,AL ⟨a.al,rows,ac⟩ i w=j∧nd[j]? = some (AL a q w)
 | [],i,q,_,hi=>⟨i,rfl,hi⟩
 | c :: w,i,q,hw,hi=>by
  obtain⟨l,hl,rfl⟩:=List.mem_map.1 (hw c (by simp))
  have hb:=Au hl
  have e:=Zo h (ac:=ac) hi hl
  have hm:=h.cl q (List.mem_of_getElem? hi) l hl
  obtain⟨j,h1,h2⟩:=ID h (ac:=ac) w (fun d hd=>hw d (by simp [hd])) (Xv hm)
  refine⟨j,?_,?_⟩
  ·show AL _ (Bm _ ((i:Int).toNat) (((lb l).toNat:Int) - 97)) w=_
   rw [Eo hb.1 (by omega),Int.toNat_natCast,e];exact h1
  ·show nd[j]? = some (AL a (Bm a q.toNat (((lb l).toNat:Int) - 97)) w)
   rw [Eo hb.1 (by omega)];exact h2
theorem aw{a:AN}(h:HY a)(h1:1≤a.nx.length){w:W}(hw:Al (AP a.al) w):LA (Mf a) w=LA a w:=by
 obtain⟨nd,rows,_,h2,_,_,e⟩:=Rv h h1
 obtain⟨j,h3,h4⟩:=ID h2 (ac:=nd.map (EB a)) w hw h2.st
 rw [e]
 unfold LA
 have h3:AL ⟨a.al,rows,nd.map (EB a)⟩ 0 w=(j:Int):=h3
 rw [h3]
 show (nd.map (EB a)).getD ((j:Int).toNat) false=_
 rw [Int.toNat_natCast,List.getD_eq_getElem?_getD,List.getElem?_map,h4];rfl
theorem cv(a:AN):(Mf a).al=a.al:=by
 unfold Mf;split<;>rfl
theorem en{a:AN}(h:HY a)(h1:1≤a.nx.length):HY (Mf a)∧1≤(Mf a).nx.length∧(Mf a).nx.length≤a.nx.length∧(Mf a).ac.length=(Mf a).nx.length∧∀i,i < (Mf a).nx.length→∃w,Al (AP a.al) w∧AL (Mf a) 0 w=(i:Nat):=by
 obtain⟨nd,rows,_,h2,h3,h4,e⟩:=Rv h h1
 have hl:=h2.len
 have hst:=(List.getElem?_eq_some_iff.1 h2.st).1
 have hn:=h.1
 rw [e]
 refine⟨⟨?_,fun q hq=>?_⟩,?_,?_,?_,fun i hi=>?_⟩
 ·show rows.length≤64;omega
 ·have hq:q < rows.length:=hq
  obtain⟨x,hx⟩:=get_some (l:=nd) (k:=q) (by omega)
  refine⟨_,h2.row q x hx,by simp,fun k y hy=>?_⟩
  rw [List.getElem?_map] at hy
  cases hk:(Ac a.al)[k]? with
  | none=>rw [hk] at hy;cases hy
  | some l=>
   rw [hk] at hy
   injection hy with hy
   have hy:((nd.idxOf (fA a x l):Nat):Int)=y:=hy
   have hm:=h2.cl x (List.mem_of_getElem? hx) l (List.mem_of_getElem? hk)
   have:=List.idxOf_lt_length_iff.2 hm
   show 0≤y∧y < ((rows.length:Nat):Int)
   omega
 ·show 1≤rows.length;omega
 ·show rows.length≤_;omega
 ·show (nd.map (EB a)).length=rows.length;rw [List.length_map];omega
 ·have hi:i < rows.length:=hi
  obtain⟨x,hx⟩:=get_some (l:=nd) (k:=i) (by omega)
  obtain⟨w,h5,h6⟩:=h2.rc x (List.mem_of_getElem? hx)
  rw [Nl w 0 h5] at h6
  obtain⟨j,h7,h8⟩:=ID h2 (ac:=nd.map (EB a)) (CM w) (Rw h5) h2.st
  rw [h6,←hx] at h8
  refine⟨CM w,Rw h5,h7.trans ?_⟩
  have h9:=(List.getElem?_inj (by omega) h2.nodup).1 (h8.symm)
  omega
section
variable {α β:Type}[DecidableEq α][DecidableEq β]
theorem Dw:∀ {l m:List α},l.Nodup→(∀x∈l,x∈m)→l.length≤m.length
 | [],m,_,_=>by simp
 | x::l,m,hd,hs=>by
  have h1:=List.nodup_cons.1 hd
  have h2:=hs x (by simp)
  have h3:=List.length_erase_of_mem h2
  have h4:=Dw (l:=l) (m:=m.erase x) h1.2 fun y hy=>(List.mem_erase_of_ne fun e=>h1.1 (by rw [←e];exact hy)).2 (hs y (by simp [hy]))
  have h5:=List.length_pos_of_mem h2
  simp only [List.length_cons];omega
theorem QM{l m:List α}(hd:l.Nodup)(hs:∀x∈l,x∈m)(hm:m.length≤l.length)(hmd:m.Nodup):∀x∈m,x∈l:=fun x hx=>by
 refine Classical.byContradiction fun hc=>?_
 have:=Dw (l:=x::l) (m:=m) (List.nodup_cons.2 ⟨hc,hd⟩) fun y hy=>by
  rcases List.mem_cons.1 hy with rfl|h
  ·exact hx
  ·exact hs y h
 simp at this;omega
def uniq:List α→List α→List α
 | u,[]=>u
 | u,x::l=>uniq (if x∈u then u else u++[x]) l
theorem Mb:∀(l m u:List α),uniq u (l++m)=uniq (uniq u l) m
 | [],m,u=>rfl
 | x::l,m,u=>Mb l m _
theorem SY:∀(l:List α) {u:List α},u.Nodup→(uniq u l).Nodup
 | [],u,h=>h
 | x :: l,u,h=>by
  unfold uniq
  refine SY l ?_
  split
  ·exact h
  ·rename_i hx
   exact List.nodup_append.2 ⟨h,by simp,fun a ha b hb=>by simp at hb;subst hb;exact fun e=>hx (e ▸ ha)⟩
theorem PV:∀(l u:List α),u <+: uniq u l
 | [],u=>List.prefix_refl _
 | x::l,u=>by
  unfold uniq
  refine List.IsPrefix.trans ?_ (PV l _)
  split
  ·exact List.prefix_refl _
  ·exact List.prefix_append _ _
theorem PU:∀(l:List α) {u:List α} {x:α},x∈uniq u l↔x∈u∨x∈l
 | [],u,x=>by simp [uniq]
 | y :: l,u,x=>by
  unfold uniq
  rw [PU l]
  split
  ·rename_i hy
   constructor
   ·rintro(h|h)
    ·exact .inl h
    ·exact .inr (by simp [h])
   ·rintro(h|h)
    ·exact .inl h
    ·rcases List.mem_cons.1 h with rfl|h
     ·exact .inl hy
     ·exact .inr h
  ·simp only [List.mem_append,List.mem_singleton,List.mem_cons,or_assoc,List.not_mem_nil,false_or]
def uq(l:List α):List α:=uniq [] l
theorem Kb(l:List α):(uq l).Nodup:=SY l (by simp)
theorem Cz{l:List α}{x:α}:x∈uq l↔x∈l:=by unfold uq;rw [PU];simp
theorem KH{l:List α}{k:Nat}{x:α}(h:l[k]? = some x):uq (l.take (k+1))=if x∈uq (l.take k) then uq (l.take k) else uq (l.take k)++[x]:=by
 unfold uq
 rw [List.take_add_one,h,Mb];rfl
theorem WU(l:List α)(k:Nat):uq (l.take k) <+: uq l:=by
 have h:=PV (l.drop k) (uq (l.take k))
 unfold uq at h ⊢
 rw [←Mb,List.take_append_drop] at h;exact h
theorem GR(l:List α):(uq l).length≤l.length:=Dw (Kb l) fun x hx=>Cz.1 hx
def CJ(l:List α)(x:α):Int:=((uq l).idxOf x:Nat)
def Dp(l:List α):List Int:=l.map (CJ l)
theorem Lo{l:List α}{x y:α}(hx:x∈l)(h:CJ l x=CJ l y):x=y:=by
 have h1:=Cz.2 hx
 have h2:(uq l).idxOf x=(uq l).idxOf y:=by unfold CJ at h;omega
 have h3:=List.idxOf_lt_length_iff.2 h1
 have h4:y∈uq l:=List.idxOf_lt_length_iff.1 (h2 ▸ h3)
 have h5:(uq l)[(uq l).idxOf x]=x:=List.getElem_idxOf h3
 have h6:(uq l)[(uq l).idxOf y]'(h2 ▸ h3)=y:=List.getElem_idxOf _
 rw [←h5,←h6];simp only [h2]
theorem Ky{l:List α}{x:α}(hx:x∈l):0≤CJ l x∧CJ l x < (uq l).length:=by
 have:=List.idxOf_lt_length_iff.2 (Cz.2 hx)
 unfold CJ;omega
theorem Ln{l:List α}{x:α}(hx:x∈l):(uq l)[(CJ l x).toNat]? = some x:=by
 have h:=List.idxOf_lt_length_iff.2 (Cz.2 hx)
 have e:(CJ l x).toNat=(uq l).idxOf x:=by unfold CJ;omega
 rw [e,List.getElem?_eq_getElem h,List.getElem_idxOf]
theorem Sm{l:List α}{i:Nat}{x:α}(h:(uq l)[i]? = some x):CJ l x=i:=by
 have hx:x∈l:=Cz.1 (List.mem_of_getElem? h)
 have h1:=Ln hx
 have h2:=(List.getElem?_inj (List.getElem?_eq_some_iff.1 h1).1 (Kb l)).1 (h1.trans h.symm)
 have:=Ky hx
 omega
theorem Kx{l:List α}{k:Nat}{x:α}(h:l[k]? = some x):(x∈uq (l.take k)→CJ l x=((uq (l.take k)).idxOf x:Nat)∧CJ l x < (uq (l.take k)).length)∧(x∉uq (l.take k)→CJ l x=(uq (l.take k)).length):=by
 constructor
 ·intro hx
  obtain⟨t,ht⟩:=WU l k
  have h1:(uq l).idxOf x=(uq (l.take k)).idxOf x:=by rw [←ht,List.idxOf_append,if_pos hx]
  have h2:=List.idxOf_lt_length_iff.2 hx
  unfold CJ;omega
 ·intro hx
  obtain⟨t,ht⟩:=WU l (k+1)
  rw [KH h,if_neg hx] at ht
  unfold CJ
  rw [←ht,List.append_assoc,List.idxOf_append,if_neg hx]
  simp
theorem Ol{f:α→β}{l:List α}:∀(v:List β),v.Nodup→(∀y∈v,y∈l.map f)→∃u:List α,u.map f=v∧u.Nodup∧∀x∈u,x∈l
 | [],_,_=>⟨[],rfl,by simp,by simp⟩
 | y::v,hd,h=>by
  obtain⟨u,h1,h2,h3⟩:=Ol (f:=f) (l:=l) v (List.nodup_cons.1 hd).2 fun z hz=>h z (by simp [hz])
  obtain⟨x,hx,rfl⟩:=List.mem_map.1 (h y (by simp))
  refine⟨x::u,by simp [h1],List.nodup_cons.2 ⟨fun hxu=>(List.nodup_cons.1 hd).1 (by rw [←h1];exact List.mem_map.2 ⟨x,hxu,rfl⟩),h2⟩,fun z hz=>?_⟩
  rcases List.mem_cons.1 hz with rfl|hz
  ·exact hx
  ·exact h3 z hz
theorem Ry(f:α→β)(l:List α):(uq (l.map f)).length≤(uq l).length:=by
 obtain⟨u,h1,h2,h3⟩:=Ol (f:=f) (l:=l) (uq (l.map f)) (Kb _) fun y hy=>Cz.1 hy
 rw [←h1,List.length_map]
 exact Dw h2 fun x hx=>Cz.2 (h3 x hx)
theorem ZV{f:α→β}{l:List α}(h:(uq l).length≤(uq (l.map f)).length){x y:α}(hx:x∈l)(hy:y∈l)(he:f x=f y):x=y:=by
 obtain⟨u,h1,h2,h3⟩:=Ol (f:=f) (l:=l) (uq (l.map f)) (Kb _) fun y hy=>Cz.1 hy
 have h4:=QM h2 (m:=uq l) (fun x hx=>Cz.2 (h3 x hx)) (by rw [←h1,List.length_map] at h;exact h) (Kb l)
 have hnd:=Kb (l.map f)
 rw [←h1] at hnd
 have hxu:=h4 x (Cz.2 hx)
 have hyu:=h4 y (Cz.2 hy)
 obtain⟨i,hi⟩:=List.mem_iff_getElem?.1 hxu
 obtain⟨j,hj⟩:=List.mem_iff_getElem?.1 hyu
 have h5:(u.map f)[i]? = some (f x):=by rw [List.getElem?_map,hi];rfl
 have h6:(u.map f)[j]? = some (f x):=by rw [List.getElem?_map,hj,he];rfl
 have h7:=(List.getElem?_inj (List.getElem?_eq_some_iff.1 h5).1 hnd).1 (h5.trans h6.symm)
 subst h7
 rw [hi] at hj;injection hj
theorem SZ(l:List α):(uq (Dp l)).length=(uq l).length:=by
 have h1:=Ry (CJ l) l
 refine Nat.le_antisymm h1 ?_
 have h2:(uq ((uq l).map (CJ l))).length=(uq l).length:=by
  have hnd:((uq l).map (CJ l)).Nodup:=by
   unfold List.Nodup
   rw [List.pairwise_map]
   exact(List.Pairwise.and_mem.1 (Kb l)).imp fun {a b} h e=>h.2.2 (Lo (Cz.1 h.1) e)
  refine Nat.le_antisymm (Nat.le_trans (GR _) (by simp)) ?_
  have:=Dw (m:=uq ((uq l).map (CJ l))) hnd fun x hx=>Cz.2 hx
  simpa using this
 rw [←h2]
 refine Dw (Kb _) fun x hx=>Cz.2 ?_
 obtain⟨y,hy,rfl⟩:=List.mem_map.1 (Cz.1 hx)
 exact List.mem_map.2 ⟨y,Cz.1 hy,rfl⟩
def Bd(l:List α):Nat→List Nat
 | 0=>[]
 | k+1=>match l[k]? with
  | none=>Bd l k
  | some x=>if x∈uq (l.take k) then Bd l k else Bd l k++[k]
theorem Ci(l:List α):∀k,(Bd l k).length=(uq (l.take k)).length
 | 0=>rfl
 | k + 1=>by
  unfold Bd
  cases h:l[k]? with
  | none=>rw [List.take_add_one,h,Option.toList_none,List.append_nil];exact Ci l k
  | some x=>
   rw [KH h]
   show (if x∈uq (l.take k) then Bd l k else Bd l k++[k]).length=_
   split
   ·exact Ci l k
   ·simp [Ci l k]
theorem Dx(l:List α):∀(k i q:Nat),(Bd l k)[i]? = some q→q < k∧∃x,l[q]? = some x∧(uq (l.take k))[i]? = some x
 | 0,i,q,h=>by simp [Bd] at h
 | k + 1, i,q,h=>by
  unfold Bd at h
  cases hk:l[k]? with
  | none=>
   rw [hk] at h
   have h:(Bd l k)[i]? = some q:=h
   obtain⟨h1,x,h2,h3⟩:=Dx l k i q h
   exact⟨by omega,x,h2,by rw [List.take_add_one,hk,Option.toList_none,List.append_nil];exact h3⟩
  | some y=>
   rw [hk] at h
   have h:(if y∈uq (l.take k) then Bd l k else Bd l k++[k])[i]? = some q:=h
   rw [KH hk]
   split at h
   ·rename_i hy
    obtain⟨h1,x,h2,h3⟩:=Dx l k i q h
    exact⟨by omega,x,h2,by rw [if_pos hy];exact h3⟩
   ·rename_i hy
    rw [if_neg hy]
    rcases Nat.lt_or_ge i (Bd l k).length with h4|h4
    ·rw [List.getElem?_append_left h4] at h
     obtain⟨h1,x,h2,h3⟩:=Dx l k i q h
     exact⟨by omega,x,h2,by rw [List.getElem?_append_left (by rw [←Ci];exact h4)];exact h3⟩
    ·rw [List.getElem?_append_right h4] at h
     have h5:i - (Bd l k).length < 1:=(List.getElem?_eq_some_iff.1 h).1
     have h6:i=(Bd l k).length:=by omega
     subst h6
     simp at h
     subst h
     exact⟨by omega,y,hk,by rw [Ci];simp⟩
end
end Go.Am
