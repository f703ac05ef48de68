/-
  The reference's automata: runs, answers; what tells two automata apart.
-/
import Derived.Test.YtgpbfllcjdfelaaGreatDoorPart22
set_option linter.all false
namespace Go.Am
open Go Go.Proofs
set_option maxHeartbeats 1000000
set_option maxRecDepth 4000
attribute [local irreducible] AP BH Lex A4 Al Spec
variable {TB:Bg}
theorem Ek{w:W}{al:Int}(h:within w al=true):AH (AV al) w:=by
 unfold within at h;simp only [bu,decide_eq_true_eq] at h;intro c b;have a:=(bH.1 h.2.2) c b;unfold ML GF at a;simp only [bu,decide_eq_true_eq] at a;refine bB.2 ⟨((c.toNat - 97:Nat):Int),Ez.2 ⟨by omega,a.2⟩,?_⟩;unfold lb
 have e:97+((c.toNat - 97:Nat):Int).toNat=c.toNat:=by omega
 rw [e];simp
theorem Fi{w:W}{al:Int}(h:AH (AV al) w)(d:w.length<=50000)(ha:BP al=true):within w al=true:=by
 unfold within;simp only [bu,decide_eq_true_eq];refine⟨d,ha,bH.2 λc f=>?_⟩;obtain⟨l,b,rfl⟩:=bB.1 (h c f);have a:=AK b;have g:=MO a.1 (by omega);unfold ML GF;simp only [bu,decide_eq_true_eq]
 have e:(lb l).toNat - 97=l.toNat:=by omega
 rw [e];exact⟨by omega,a.2.2⟩
theorem SU{p:A5}(g:Ax p=true)(w:W)(o:AH (AV p.al) w)(s:w.length<=1099511627776):Pure Tryz.prog TB 288 [A9 p,eI .i64 0,eT w] (eI .i64 (Cq p 0 w)):=by
 have q:=Au g;refine eN Tryz.func288 rfl (by kernel_rfl) rfl ?_;intro Z a;(repeat first|refine tA rfl ?_ |refine aU rfl ?_ |refine Aa ?_);refine aB ?_;refine aL (α:={k:Nat // k<=w.length}) [2,3] [] rfl rfl (λ⟨k,j⟩=>[(1,eI .i64 (Cq p 0 (w.take k))),(7,eI .i64 k)]) (λ⟨k,j⟩=>[]) 0 (λ⟨k,j⟩=>w.length - k) (⟨0,by omega⟩) a rfl (by (simp[cX,zC,a]<;>rfl)) ?_;rintro⟨k,j⟩;(try dsimp only[cA,cB]);have r:=DM g (w.take k) 0 (Fo o k) (by omega);by_cases h:k < w.length
 ·obtain⟨c,m⟩:=get_some h
  have l:w[((k:Nat):Int).toNat]? = some c:=by simpa using m
  have d:=Gu (o c (bm m));have i:=JD (TB:=TB) w k c l;have b:=JE (TB:=TB) p g (Cq p 0 (w.take k)).toNat (by omega) ((c.toNat:Int) - 97) d.1 d.2
  have e:(((Cq p 0 (w.take k)).toNat:Nat):Int)=Cq p 0 (w.take k):=by omega
  rw [e] at b;have f:=Ml (p:=p) m 0;rw [<-f] at b;(repeat first|refine tA rfl ?_ |refine s2 rfl λ_ n=>?_ |refine aU rfl ?_ |refine Aa ?_);(refine aC rfl ?_ ?_<;>rintro⟨⟩)
  ·(repeat' first|(refine sA rfl ?_ ?_;first|exact tI|omega) |refine sP rfl (i) rfl ?_|refine sP rfl (b) rfl ?_ |refine aU rfl ?_ |refine Aa ?_ |refine rE (by kernel_rfl) ?_|(refine aC rfl ?_ ?_<;>rintro⟨⟩)|refine aK ?_|refine aE ?_|refine aB ?_|refine aR ⟨_,rfl,?_⟩)
   refine⟨⟨k+1,by omega⟩,by dsimp only;(omega),[],?_⟩;simp[cX,zC,a]
  ·exfalso;(simp only[oZ] at *;omega)
 ·obtain rfl:k=w.length:=by omega
  rw [bO];(repeat first|refine tA rfl ?_ |refine s2 rfl λ_ n=>?_ |refine aU rfl ?_ |refine Aa ?_);(refine aC rfl ?_ ?_<;>rintro⟨⟩)
  ·exfalso;(simp only[oZ] at *;omega)
  ·(repeat' first|refine tA rfl ?_ |refine aU rfl ?_ |refine Aa ?_|(refine aC rfl ?_ ?_<;>rintro⟨⟩)|refine aK ?_|refine aE ?_|refine aB ?_|refine aR ⟨_,rfl,?_⟩)
   rfl
def DN(p:A5)(w:W):Int:=if Ax p && within w p.al then Cq p 0 w else -1
def FD(p:A5)(w:W):Bool:=Ax p && (within w p.al && LA p w)
theorem LC(p:A5)(w:W)(e:w.length<=1099511627776):Pure Tryz.prog TB 273 [A9 p,eT w] (eI .i64 (DN p w)):=by
 have g:=Bm (TB:=TB) p;have f:=Dw (TB:=TB) w p.al e;by_cases b:(Ax p && within w p.al)=true
 ·have d:DN p w=Cq p 0 w:=by unfold DN;rw [if_pos b]
  rw [d];rw [bu] at b;have h:=SU (TB:=TB) b.1 w (Ek b.2) e;refine eN Tryz.func273 rfl (by kernel_rfl) rfl ?_;intro Z c;(repeat' first|refine tA rfl ?_ |refine s2 rfl λ_ a=>?_ |(refine sC rfl (g) ?_;intro _ a)|(refine sC rfl (f) ?_;intro _ a)|refine sP rfl (h) rfl ?_ |refine s3 rfl ?_ ?_<;>rintro rfl |refine aU rfl ?_ |refine Aa ?_|(refine aC rfl ?_ ?_<;>rintro⟨⟩)|refine aK ?_|refine aE ?_|refine aB ?_|refine aR ⟨_,rfl,?_⟩)
  all_goals first
   | rfl
   | (exfalso;grind;done)
 ·have d:DN p w = -1:=by unfold DN;rw [if_neg b]
  rw [d];refine eN Tryz.func273 rfl (by kernel_rfl) rfl ?_;intro Z c;(repeat' first|refine tA rfl ?_ |refine s2 rfl λ_ a=>?_ |(refine sC rfl (g) ?_;intro _ a)|(refine sC rfl (f) ?_;intro _ a) |refine s3 rfl ?_ ?_<;>rintro rfl |refine aU rfl ?_ |refine Aa ?_|(refine aC rfl ?_ ?_<;>rintro⟨⟩)|refine aK ?_|refine aE ?_|refine aB ?_|refine aR ⟨_,rfl,?_⟩)
  all_goals first
   | rfl
   | (exfalso;grind;done)
theorem FO(p:A5)(w:W)(h:w.length<=1099511627776):Pure Tryz.prog TB 221 [A9 p,eT w] (eB (FD p w)):=by
 have c:=LC (TB:=TB) p w h;by_cases a:(Ax p && within w p.al)=true
 ·have e:DN p w=Cq p 0 w:=by unfold DN;rw [if_pos a]
  rw [e] at c;rw [bu] at a;have g:=Au a.1;have j:=DM a.1 w 0 (Ek a.2) (by omega);obtain⟨b,hb⟩:=get_some (l:=p.ac) (k:=(Cq p 0 w).toNat) (by omega)
  have i:(p.ac.map Fa)[(Cq p 0 w).toNat]? = some (Fa b):=by simp [hb]
  have ha:FD p w=b:=by unfold FD LA;simp [a.1,a.2,List.getD,hb]
  rw [ha];refine eN Tryz.func221 rfl (by kernel_rfl) rfl ?_;intro Z d;(repeat' first|refine tA rfl ?_ |(refine s4 rfl ‹_› rfl ?_ ?_;omega) |refine s2 rfl λ_ f=>?_ |refine sP rfl (c) rfl ?_ |refine s3 rfl ?_ ?_<;>rintro rfl |refine aU rfl ?_ |refine Aa ?_|(refine aC rfl ?_ ?_<;>rintro⟨⟩)|refine aK ?_|refine aE ?_|refine aB ?_|refine aR ⟨_,rfl,?_⟩)
  all_goals first
   | rfl
   | (exfalso;(simp only[oZ] at *;omega))
 ·have e:DN p w = -1:=by unfold DN;rw [if_neg a]
  rw [e] at c
  have ha:FD p w=false:=by unfold FD;grind
  rw [ha];refine eN Tryz.func221 rfl (by kernel_rfl) rfl ?_;intro Z d;(repeat' first|refine tA rfl ?_ |refine s2 rfl λ_ f=>?_ |refine sP rfl (c) rfl ?_ |refine s3 rfl ?_ ?_<;>rintro rfl |refine aU rfl ?_ |refine Aa ?_|(refine aC rfl ?_ ?_<;>rintro⟨⟩)|refine aK ?_|refine aE ?_|refine aB ?_|refine aR ⟨_,rfl,?_⟩)
  all_goals first
   | rfl
   | (exfalso;(simp only[oZ] at *;omega))
theorem N6(a b:A5):Pure Tryz.prog TB 102 [A9 a,A9 b] (eB (DG a b)):=by
 refine eN Tryz.func102 rfl (by kernel_rfl) rfl ?_;intro Z d;(repeat' first|refine tA rfl ?_ |refine s2 rfl λ_ c=>?_ |(refine sC rfl (Bm a) ?_;intro _ c)|(refine sC rfl (Bm b) ?_;intro _ c) |refine s3 rfl ?_ ?_<;>rintro rfl |refine aU rfl ?_ |refine Aa ?_|(refine aC rfl ?_ ?_<;>rintro⟨⟩)|refine aK ?_|refine aE ?_|refine aB ?_|refine aR ⟨_,rfl,?_⟩)
 all_goals (show E.o _=E.o _;congr;unfold DG;grind)
theorem Jp(a b:A5):Pure Tryz.prog TB 168 [A9 a,A9 b] (Jn (Hb a b)):=by
 by_cases g:DG a b=true
 ·have c:=g
  unfold DG at c;simp only [bu,decide_eq_true_eq] at c;obtain⟨⟨ha,hb⟩,_⟩:=c;obtain⟨m,n,k⟩:=QB (kd:=1) ha hb;have j:=Pl (TB:=TB) m n k (FQ _);rw [Uq] at j
  have i:Hb a b=FP (EE (C1 a b 1)):=by unfold Hb;rw [if_pos g]
  rw [i];have h:Pure Tryz.prog TB 175 [.a [.d (.l []),.d (O3 [a,b]),.d (DH [0,0]),.d (iD a.al),.d (iD 1),.d (iD 0)]] (Jn (FP (EE (C1 a b 1)))):=j;refine eN Tryz.func168 rfl (by kernel_rfl) rfl ?_;intro Z f;(repeat' first|refine tA rfl ?_ |refine s2 rfl λ_ e=>?_ |(refine sC rfl (N6 a b) ?_;intro _ e)|refine sP rfl (h) rfl ?_|(refine Av rfl ?_;refine gA rfl ?_;first| refine gS (λ_ _=>AI rfl rfl (by rfl) (by rfl)) ?_) |refine aU rfl ?_ |refine Aa ?_|(refine aC rfl ?_ ?_<;>rintro⟨⟩)|refine aK ?_|refine aE ?_|refine aB ?_|refine aR ⟨_,rfl,?_⟩)
  all_goals first
   | rfl
   | (exfalso;grind;done)
 ·have i:Hb a b=none:=by unfold Hb;rw [if_neg g]
  rw [i];refine eN Tryz.func168 rfl (by kernel_rfl) rfl ?_;intro Z f;(repeat' first|refine tA rfl ?_ |refine s2 rfl λ_ e=>?_ |(refine sC rfl (N6 a b) ?_;intro _ e) |refine aU rfl ?_ |refine Aa ?_|(refine aC rfl ?_ ?_<;>rintro⟨⟩)|refine aK ?_|refine aE ?_|refine aB ?_|refine aR ⟨_,rfl,?_⟩)
  all_goals first
   | rfl
   | (exfalso;grind;done)
structure Jw where
 kn:Bool
 p:A5
 s:Sys
 q:A5
 al:Int
abbrev Dk(t:Jw):E:=Zg t.kn t.p t.s t.q t.al
theorem Jq(t:Jw)(b:t.kn=true):Pure Tryz.prog TB 67 [Dk t] (eI .i64 (if Ax t.p then t.p.al else -1)):=by
 obtain⟨kn,p,s,q,al⟩:=t;dsimp only at b;subst b;refine eN Tryz.func67 rfl (by kernel_rfl) rfl ?_;intro Z c;(repeat' first|refine tA rfl ?_ |refine s2 rfl λ_ a=>?_ |(refine sC rfl (Bm p) ?_;intro _ a) |refine s3 rfl ?_ ?_<;>rintro rfl |refine aU rfl ?_ |refine Aa ?_|(refine aC rfl ?_ ?_<;>rintro⟨⟩)|refine aK ?_|refine aE ?_|refine aB ?_|refine aR ⟨_,rfl,?_⟩)
 all_goals first
  | (show E.o _=E.o _;congr;grind)
  | (exfalso;simp at *;done)
theorem JR(t:Jw)(a:t.kn=true)(w:W)(c:w.length<=1099511627776):Pure Tryz.prog TB 154 [Dk t,eT w] (eB (FD t.p w)):=by
 obtain⟨kn,p,s,q,al⟩:=t;dsimp only at a;subst a;have d:=FO (TB:=TB) p w c;refine eN Tryz.func154 rfl (by kernel_rfl) rfl ?_;intro Z b;(repeat' first|refine tA rfl ?_ |refine sP rfl (d) rfl ?_ |refine aU rfl ?_ |refine Aa ?_|(refine aC rfl ?_ ?_<;>rintro⟨⟩)|refine aK ?_|refine aE ?_|refine aB ?_|refine aR ⟨_,rfl,?_⟩)
 all_goals rfl
structure GV (P:Program) (TB:Bg) (gA gQ:FuncId) (t:Jw) (al:Int) (A:W->Bool):Prop where
 alph:Pure P TB gA [Dk t] (eI .i64 al)
 ask:∀w:W,w.length<=1099511627776->Pure P TB gQ [Dk t,eT w] (eB (A w))
theorem Zr{t:Jw}(a:t.kn=true):GV Tryz.prog TB 67 154 t (if Ax t.p then t.p.al else -1) (FD t.p):=⟨Jq t a,JR t a⟩
structure Qd (t:AW):Prop where
 rl:t.rows.length<=4194304
 cl:t.cols.length<=4194304
 rb:∀w∈t.rows,w.length<=4194304
 cb:∀w∈t.cols,w.length<=4194304
theorem Ge(l:List W)(s:W)(o:l.length<=1099511627776):Pure Tryz.prog TB 78 [BO l,eT s] (eB (decide (s∈l))):=by
 refine eN Tryz.func78 rfl (by kernel_rfl) rfl ?_;intro Z b;(repeat first|refine tA rfl ?_ |refine aU rfl ?_ |refine Aa ?_);refine aB ?_;refine aL (α:={k:Nat // k<=l.length/\s∉l.take k}) [0,1] [] rfl rfl (λ⟨k,j,c⟩=>[(5,eI .i64 k)]) (λ⟨k,j,c⟩=>[]) 0 (λ⟨k,j,c⟩=>l.length - k) (⟨0,by omega,by simp⟩) b rfl (by (simp[cX,zC,b])) ?_;rintro⟨k,j,c⟩;(try dsimp only[cA,cB]);by_cases i:k < l.length
 ·obtain⟨x,e⟩:=get_some i
  have m:=get_map (g:=CN) e;by_cases d:x=s
  ·have n:s∈l:=d ▸ bm e
   (repeat first|refine sN rfl ?_ |refine tA rfl ?_ |refine s2 rfl λ_ a=>?_ |refine aU rfl ?_ |refine Aa ?_);(refine aC rfl ?_ ?_<;>rintro⟨⟩)
   ·(repeat' first|(refine sA rfl ?_ ?_;first|exact tI|omega) |(refine s4 rfl ‹_› rfl ?_ ?_;omega) |refine s2 rfl λ_ a=>?_ |refine aU rfl ?_ |refine Aa ?_|(refine aC rfl ?_ ?_<;>rintro⟨⟩)|refine aK ?_|refine aE ?_|refine aB ?_|refine aR ⟨_,rfl,?_⟩)
    ·simp [n]
    ·exfalso;simp [d] at a
   ·exfalso;(simp only[oZ] at *;omega)
  ·have f:s∉l.take (k+1):=by
    rw [bF,e];intro h
    rcases bE.1 h with h|h
    ·exact c h
    ·simp at h;exact d h.symm
   (repeat first|refine sN rfl ?_ |refine tA rfl ?_ |refine s2 rfl λ_ a=>?_ |refine aU rfl ?_ |refine Aa ?_);(refine aC rfl ?_ ?_<;>rintro⟨⟩)
   ·(repeat' first|(refine sA rfl ?_ ?_;first|exact tI|omega) |(refine s4 rfl ‹_› rfl ?_ ?_;omega) |refine s2 rfl λ_ a=>?_ |refine aU rfl ?_ |refine Aa ?_|(refine aC rfl ?_ ?_<;>rintro⟨⟩)|refine aK ?_|refine aE ?_|refine aB ?_|refine aR ⟨_,rfl,?_⟩)
    ·exfalso;simp [d] at a
    ·refine⟨⟨k+1,by omega,f⟩,by dsimp only;(omega),[],?_⟩
     simp[cX,zC,b]
   ·exfalso;(simp only[oZ] at *;omega)
 ·rw [bI (by omega)] at c
  (repeat first|refine sN rfl ?_ |refine tA rfl ?_ |refine s2 rfl λ_ a=>?_ |refine aU rfl ?_ |refine Aa ?_);(refine aC rfl ?_ ?_<;>rintro⟨⟩)
  ·exfalso;(simp only[oZ] at *;omega)
  ·(repeat' first|refine tA rfl ?_ |refine aU rfl ?_ |refine Aa ?_|(refine aC rfl ?_ ?_<;>rintro⟨⟩)|refine aK ?_|refine aE ?_|refine aB ?_|refine aR ⟨_,rfl,?_⟩)
   simp [c]
theorem Pu{A:W->Bool}{cols:List W}{w c:W}{k:Nat}(a:cols[k]? = some c):marks A (cols.take (k+1)) w=marks A (cols.take k) w++[Ns (A (w++c))]:=by
 unfold marks;rw [bF,a];simp
theorem RC{A:W->Bool}{cols:List W}{w:W}:(marks A cols w).length=cols.length:=by simp [marks]
theorem Ix{t:Jw}{al:Int}{A:W->Bool}(m:GV Tryz.prog TB 67 154 t al A)(cols:List W)(w:W)(o:cols.length<=4194304)(n:w.length<=4194305)(hb:∀x∈cols,x.length<=4194304) :
 Pure Tryz.prog TB 71 [Dk t,BO cols,eT w] (eT (marks A cols w)):=by
 refine eN Tryz.func71 rfl (by kernel_rfl) rfl ?_;intro Z a;(repeat first|refine tA rfl ?_ |refine aU rfl ?_ |refine Aa ?_);refine aB ?_;refine aL (α:={k:Nat // k<=cols.length}) [1,2,3] [] rfl rfl (λ⟨k,f⟩=>[(7,eT (marks A (cols.take k) w)),(8,eI .i64 k)]) (λ⟨k,f⟩=>[]) 0 (λ⟨k,f⟩=>cols.length - k) (⟨0,by omega⟩) a rfl (by (simp[cX,zC,a]<;>rfl)) ?_;rintro⟨k,f⟩;(try dsimp only[cA,cB])
 have l:(marks A (cols.take k) w).length<=4194304:=by rw [RC,dK];omega
 by_cases e:k < cols.length
 ·obtain⟨x,d⟩:=get_some e
  have i:=get_map (g:=CN) d;have h:=hb x (bm d);have j:=m.ask (w++x) (by simp;omega);have b:=Pu (A:=A) (w:=w) d;(repeat first|refine sN rfl ?_ |refine tA rfl ?_ |refine s2 rfl λ_ c=>?_ |refine aU rfl ?_ |refine Aa ?_);(refine aC rfl ?_ ?_<;>rintro⟨⟩)
  ·refine aK ?_
   refine aS (aB ?_);(repeat first|(refine sA rfl ?_ ?_;first|exact tI|omega) |(refine s4 rfl ‹_› rfl ?_ ?_;omega) |(refine sC rfl (j) ?_;intro _ c) |refine aU rfl ?_ |refine Aa ?_ |refine rE (by kernel_rfl) ?_);(refine aC rfl ?_ ?_<;>rintro⟨⟩)
   ·rw [c] at b
    (repeat first|(refine sA rfl ?_ ?_;first|exact tI|omega|simp only[oZ] at *;omega) |refine aU rfl ?_ |refine Aa ?_);refine⟨⟨k+1,by omega⟩,by dsimp only;(omega),[],?_⟩;simp[cX,zC,a,b,Ns]
   ·rw [c] at b
    (repeat first|(refine sA rfl ?_ ?_;first|exact tI|omega|simp only[oZ] at *;omega) |refine aU rfl ?_ |refine Aa ?_);refine⟨⟨k+1,by omega⟩,by dsimp only;(omega),[],?_⟩;simp[cX,zC,a,b,Ns]
  ·exfalso;(simp only[oZ] at *;omega)
 ·obtain rfl:k=cols.length:=by omega
  rw [bO];(repeat first|refine sN rfl ?_ |refine tA rfl ?_ |refine s2 rfl λ_ c=>?_ |refine aU rfl ?_ |refine Aa ?_);(refine aC rfl ?_ ?_<;>rintro⟨⟩)
  ·exfalso;(simp only[oZ] at *;omega)
  ·(repeat' first|refine tA rfl ?_ |refine aU rfl ?_ |refine Aa ?_|(refine aC rfl ?_ ?_<;>rintro⟨⟩)|refine aK ?_|refine aE ?_|refine aB ?_|refine aR ⟨_,rfl,?_⟩)
   rfl
theorem Hh{t:Jw}{al:Int}{A:W->Bool}(p:GV Tryz.prog TB 67 154 t al A)(cols words:List W)(n:cols.length<=4194304)(m:∀w∈words,w.length<=4194305)(hb:∀x∈cols,x.length<=4194304)(l:words.length<=4194304) :
 Pure Tryz.prog TB 69 [Dk t,BO cols,BO words] (BO (words.map (marks A cols))):=by
 refine eN Tryz.func69 rfl (by kernel_rfl) rfl ?_;intro Z a;(repeat first|refine aU rfl ?_);(refine Av rfl ?_;refine BU (λ_ _=>CS rfl rfl rfl) rfl ?_);(repeat first|refine tX rfl ?_ |refine aU rfl ?_ |refine Aa ?_);(refine pW rfl ?_ rfl (by rfl);refine Cv rfl rfl rfl rfl (by simp) (by rfl) (by rfl) (by rfl) (by rfl) ?_);(repeat first|refine tX rfl ?_ |refine aU rfl ?_ |refine Aa ?_);refine aB ?_;refine aL (α:={k:Nat // k<=words.length}) [1,2,3] [] rfl rfl (λ⟨k,h⟩=>[(7,.o (.arr 0 1 0 k)),(8,eI .i64 k)]) (λ⟨k,h⟩=>[(0,.cells 9 1 ((words.take k).map λw=>[.d (tD (marks A cols w))]))]) 1 (λ⟨k,h⟩=>words.length - k) (⟨0,by omega⟩) a rfl (by (simp[cX,zC,a])) ?_;rintro⟨k,h⟩;(try dsimp only[cA,cB]);by_cases f:k < words.length
 ·obtain⟨x,c⟩:=get_some f
  have j:=get_map (g:=CN) c;have b:=Ix p cols x n (m x (bm c)) hb
  have e:(words.take (k+1)).map (λw=>[C.d (tD (marks A cols w))])=(words.take k).map (λw=>[C.d (tD (marks A cols w))])++[[C.d (tD (marks A cols x))]]:=by rw [bF,c];simp
  (repeat first|refine sN rfl ?_ |refine tX rfl ?_ |refine s2 rfl λ_ i=>?_ |refine aU rfl ?_ |refine Aa ?_);(refine aC rfl ?_ ?_<;>rintro⟨⟩)
  ·refine aK ?_
   refine aS (aB ?_);refine rG (LU [9]) (by kernel_rfl) ?_;(repeat first|refine tA rfl ?_ |(refine s4 rfl ‹_› rfl ?_ ?_;omega) |refine sP rfl (b) rfl ?_);(refine pW rfl ?_ rfl (by rfl);refine AT rfl rfl rfl (by first| (simp;done)|(simp;(omega))) rfl (by intro r b;simp at b;subst b;rfl) (by rfl) (bn rfl) (by simp;omega) ?_);(repeat first|(refine sA rfl ?_ ?_;first|exact tI|omega) |refine aU rfl ?_ |refine Aa ?_);refine⟨⟨k+1,by omega⟩,by dsimp only;(omega),[1],?_⟩;simp[cX,zC,a,e]
  ·exfalso;(simp only[oZ] at *;omega)
 ·obtain rfl:k=words.length:=by omega
  rw [bO];(repeat first|refine sN rfl ?_ |refine tX rfl ?_ |refine s2 rfl λ_ i=>?_ |refine aU rfl ?_ |refine Aa ?_);(refine aC rfl ?_ ?_<;>rintro⟨⟩)
  ·exfalso;(simp only[oZ] at *;omega)
  ·refine aE ?_
   (repeat first|refine tX rfl ?_ |refine aU rfl ?_ |refine Aa ?_);refine Al.settle [(6,BO (words.map (marks A cols)))] ⟨⟨_,rfl,.o (.full rfl (by simp [bC]) (by simp))⟩,trivial⟩ ?_;refine aR ⟨_,rfl,rfl⟩
def rowAt(al:Int)(l:List W)(i:Nat):Bool:=match l[i]? with
 | none=>true
 | some w=>!decide (w.length=0) && (within w al && decide (w.dropLast∈l.take i))
def JV(al:Int)(l:List W)(i:Nat):Bool:=match l[i]? with
 | none=>true
 | some w=>decide (w.length<=4000) && (within w al && !decide (w∈l.take i))
def D0(f:Nat->Bool)(n:Nat):Bool:=(List.range n).all λi=>decide (i=0) || f i
theorem J9{f:Nat->Bool}{k:Nat}(h:D0 f k=true)(a:f k=true):D0 f (k+1)=true:=by
 unfold D0 at *;rw [dU,List.all_append,h];simp [a]
theorem LV{f:Nat->Bool}{k n:Nat}(b:0 < k)(h:k < n)(a:f k=false):D0 f n=false:=by
 unfold D0;rw [List.all_eq_false];exact⟨k,cG.2 h,by simp [a];omega⟩
def IM(al:Int)(t:AW):Bool:=decide (0<=al) && (decide (1<=t.rows.length/\t.rows.length<=12) && (decide (1<=t.cols.length/\t.cols.length<=20) && (decide (t.rows[0]? = some []) && decide (t.cols[0]? = some []))))
def Ei(al:Int)(t:AW):Bool:=IM al t && (D0 (rowAt al t.rows) t.rows.length && D0 (JV al t.cols) t.cols.length)
theorem NX(al:Int)(t:AW)(u:Qd t):Pure Tryz.prog TB 77 [eI .i64 al,Cs t] (eB (Ei al t)):=by
 have F:=u.rl;have G:=u.cl;by_cases r:IM al t=true
 ·have n : Ei al t=(D0 (rowAt al t.rows) t.rows.length && D0 (JV al t.cols) t.cols.length):=by unfold Ei;rw [r];rfl
  rw [n];unfold IM at r;simp only [bu,decide_eq_true_eq] at r;obtain⟨S,R,Q,M,L⟩:=r;have B:=get_map (g:=CN) (k:=0) M;have A:=get_map (g:=CN) (k:=0) L;have P:((0:Nat):Int).toNat=(0:Int).toNat:=rfl;rw [P] at B A;refine eN Tryz.func77 rfl (by kernel_rfl) rfl ?_;intro Z b;(repeat' first|refine sN rfl ?_ |refine tA rfl ?_ |(refine s4 rfl ‹_› rfl ?_ ?_;omega) |refine s2 rfl λ_ a=>?_ |refine s3 rfl ?_ ?_<;>rintro rfl |refine aU rfl ?_ |refine Aa ?_|(refine aC rfl ?_ ?_<;>rintro⟨⟩)|refine aK ?_|refine aE ?_|refine aB ?_|refine aR ⟨_,rfl,?_⟩)
  all_goals first
   | (exfalso;(simp only[oZ] at *;omega);done)
   | (exfalso;simp at *;done)
   | skip
  refine aL (α:={k:Nat // 1<=k/\k<=t.rows.length/\D0 (rowAt al t.rows) k=true}) [0,3,5,6] [] rfl rfl (λ⟨k,c,p,ha⟩=>[(7,eI .i64 k)]) (λ⟨k,c,p,ha⟩=>[]) 0 (λ⟨k,c,p,ha⟩=>t.rows.length - k) (⟨1,by omega,by omega,rfl⟩) b rfl (by (simp[cX,zC,b])) ?_;rintro⟨k,c,p,ha⟩;(try dsimp only[cA,cB]);by_cases f:k < t.rows.length
  ·obtain⟨x,i⟩:=get_some f
   have w:=get_map (g:=CN) i;have v:=u.rb x (bm i)
   have e:rowAt al t.rows k=(!decide (x.length=0) && (within x al && decide (x.dropLast∈t.rows.take k))):=by unfold rowAt;rw [i]
   have j:=Dw (TB:=TB) x al (by omega)
   have q:Pure Tryz.prog TB 78 [.o (.d (.l ((t.rows.map CN).take ((k:Nat):Int).toNat))),eT (x.take ((x.length:Int) - 1).toNat)] (eB (decide (x.dropLast∈t.rows.take k))):=by
    have N:(x.take ((x.length:Int) - 1).toNat)=x.dropLast:=by rw [List.dropLast_eq_take];congr 1;omega
    rw [N,bL,<-List.map_take];exact Ge _ _ (by simp;omega)
   (repeat first|refine tA rfl ?_ |refine s2 rfl λ_ a=>?_ |refine aU rfl ?_ |refine Aa ?_);(refine aC rfl ?_ ?_<;>rintro⟨⟩)
   ·(repeat' first|(refine sA rfl ?_ ?_;first|exact tI|omega) |(refine s4 rfl ‹_› rfl ?_ ?_;omega) |refine s2 rfl λ_ a=>?_ |(refine sC rfl (j) ?_;intro _ a)|(refine sC rfl (q) ?_;intro _ a)|(refine Av rfl ?_;refine gA rfl ?_;first| refine gS (λ_ _=>Nd rfl rfl (by simp) (by omega) (by (simp only[oZ] at *;omega))) ?_|refine gS (λ_ _=>UT rfl rfl (by (simp only[oZ] at *;omega)) (by omega)) ?_) |refine s3 rfl ?_ ?_<;>rintro rfl |refine aU rfl ?_ |refine Aa ?_ |refine rE (by kernel_rfl) ?_|(refine aC rfl ?_ ?_<;>rintro⟨⟩)|refine aK ?_|refine aE ?_|refine aB ?_|refine aR ⟨_,rfl,?_⟩)
    all_goals first
     | (show eB false=eB _;rw [LV (by omega) f (by rw [e];grind)];rfl)
     | (have m:=J9 ha (by rw [e];grind);refine⟨⟨k+1,by omega,by omega,m⟩,by dsimp only;(omega),[],?_⟩;simp[cX,zC,b])
   ·exfalso;(simp only[oZ] at *;omega)
  ·obtain rfl:k=t.rows.length:=by omega
   rw [ha];(repeat first|refine tA rfl ?_ |refine s2 rfl λ_ a=>?_ |refine aU rfl ?_ |refine Aa ?_);(refine aC rfl ?_ ?_<;>rintro⟨⟩)
   ·exfalso;(simp only[oZ] at *;omega)
   ·(repeat' first|refine tA rfl ?_ |refine aU rfl ?_ |refine Aa ?_|(refine aC rfl ?_ ?_<;>rintro⟨⟩)|refine aK ?_|refine aE ?_|refine aB ?_|refine aR ⟨_,rfl,?_⟩)
    refine aL (α:={k:Nat // 1<=k/\k<=t.cols.length/\D0 (JV al t.cols) k=true}) [0,3,6] [] rfl rfl (λ⟨k,c,p,ha⟩=>[(9,eI .i64 k)]) (λ⟨k,c,p,ha⟩=>[]) 0 (λ⟨k,c,p,ha⟩=>t.cols.length - k) (⟨1,by omega,by omega,rfl⟩) b rfl (by (simp[cX,zC,b])) ?_;rintro⟨k,c,p,ha⟩;(try dsimp only[cA,cB]);by_cases f:k < t.cols.length
    ·obtain⟨x,i⟩:=get_some f
     have w:=get_map (g:=CN) i;have v:=u.cb x (bm i)
     have e:JV al t.cols k=(decide (x.length<=4000) && (within x al && !decide (x∈t.cols.take k))):=by unfold JV;rw [i]
     have j:=Dw (TB:=TB) x al (by omega)
     have q:Pure Tryz.prog TB 78 [.o (.d (.l ((t.cols.map CN).take ((k:Nat):Int).toNat))),eT x] (eB (decide (x∈t.cols.take k))):=by
      rw [bL,<-List.map_take];exact Ge _ _ (by simp;omega)
     (repeat first|refine tA rfl ?_ |refine s2 rfl λ_ a=>?_ |refine aU rfl ?_ |refine Aa ?_);(refine aC rfl ?_ ?_<;>rintro⟨⟩)
     ·(repeat' first|(refine sA rfl ?_ ?_;first|exact tI|omega) |(refine s4 rfl ‹_› rfl ?_ ?_;omega) |refine s2 rfl λ_ a=>?_ |(refine sC rfl (j) ?_;intro _ a)|(refine sC rfl (q) ?_;intro _ a)|(refine Av rfl ?_;refine gA rfl ?_;first| refine gS (λ_ _=>Nd rfl rfl (by simp) (by omega) (by (simp only[oZ] at *;omega))) ?_) |refine s3 rfl ?_ ?_<;>rintro rfl |refine aU rfl ?_ |refine Aa ?_|(refine aC rfl ?_ ?_<;>rintro⟨⟩)|refine aK ?_|refine aE ?_|refine aB ?_|refine aR ⟨_,rfl,?_⟩)
      all_goals first
       | (show eB false=eB _;rw [LV (by omega) f (by rw [e];grind)];rfl)
       | (have m:=J9 ha (by rw [e];grind);refine⟨⟨k+1,by omega,by omega,m⟩,by dsimp only;(omega),[],?_⟩;simp[cX,zC,b])
     ·exfalso;(simp only[oZ] at *;omega)
    ·obtain rfl:k=t.cols.length:=by omega
     rw [ha];(repeat first|refine tA rfl ?_ |refine s2 rfl λ_ a=>?_ |refine aU rfl ?_ |refine Aa ?_);(refine aC rfl ?_ ?_<;>rintro⟨⟩)
     ·exfalso;(simp only[oZ] at *;omega)
     ·(repeat' first|refine tA rfl ?_ |refine aU rfl ?_ |refine Aa ?_|(refine aC rfl ?_ ?_<;>rintro⟨⟩)|refine aK ?_|refine aE ?_|refine aB ?_|refine aR ⟨_,rfl,?_⟩)
      rfl
 ·have n:Ei al t=false:=by unfold Ei;simp [r]
  rw [n]
  have s:¬(0<=al/\(1<=t.rows.length/\t.rows.length<=12)/\(1<=t.cols.length/\t.cols.length<=20)/\t.rows[0]? = some []/\t.cols[0]? = some []):=by
   intro h;apply r;unfold IM;simp [h]
  have y:(t.rows.map CN)[(0:Int).toNat]? = (t.rows[0]?).map CN:=by simp
  have z:(t.cols.map CN)[(0:Int).toNat]? = (t.cols[0]?).map CN:=by simp
  have H:t.rows[0]? = none->t.rows.length=0:=λh=>by have:=List.getElem?_eq_none_iff.1 h;omega
  have J:t.cols[0]? = none->t.cols.length=0:=λh=>by have:=List.getElem?_eq_none_iff.1 h;omega
  refine eN Tryz.func77 rfl (by kernel_rfl) rfl ?_;intro Z b
  cases I:t.rows[0]?<;>cases K:t.cols[0]?<;>rw [I] at y s<;>rw [K] at z s<;>(
   (repeat' first|refine sN rfl ?_ |refine tA rfl ?_ |(refine s4 rfl ‹_› rfl ?_ ?_;omega) |refine s2 rfl λ_ a=>?_ |refine s3 rfl ?_ ?_<;>rintro rfl |refine aU rfl ?_ |refine Aa ?_|(refine aC rfl ?_ ?_<;>rintro⟨⟩)|refine aK ?_|refine aE ?_|refine aB ?_|refine aR ⟨_,rfl,?_⟩)
   all_goals first
    | rfl
    | (exfalso;grind;done))
def HG(al:Int)(w:W):Bool:=within w al && decide (w.length<=4000)
theorem Kj{t:Jw}{al:Int}{A:W->Bool}(e:GV Tryz.prog TB 67 154 t al A)(w:W)(c:w.length<=1099511627776):Pure Tryz.prog TB 270 [Dk t,eT w] (eB (HG al w)):=by
 have g:=e.alph;have f:=Dw (TB:=TB) w al c
 have d:HG al w=(within w al && decide ((w.length:Int)<=4000)):=by unfold HG;congr 1;rw [decide_eq_decide];omega
 rw [d];refine eN Tryz.func270 rfl (by kernel_rfl) rfl ?_;intro Z b;(repeat' first|refine tA rfl ?_ |refine s2 rfl λ_ a=>?_ |refine sP rfl (g) rfl ?_|(refine sC rfl (f) ?_;intro _ a) |refine s3 rfl ?_ ?_<;>rintro rfl |refine aU rfl ?_ |refine Aa ?_|(refine aC rfl ?_ ?_<;>rintro⟨⟩)|refine aK ?_|refine aE ?_|refine aB ?_|refine aR ⟨_,rfl,?_⟩)
 all_goals (show E.o _=E.o _;congr;grind)
def Bz(A:W->Bool)(al:Int)(t:AW):Bool:=Ei al t && decide (AD A t).Nodup
theorem UF{l:List W}{k:Nat}{x:W}(c:l[k]? = some x)(h:(l.take k).Nodup)(d:x∉l.take k):(l.take (k+1)).Nodup:=by
 rw [bF,c,dp];refine⟨h,by simp,λa ha b hb e=>?_⟩;simp at hb;subst hb;exact d (e ▸ ha)
theorem Wt{l:List W}{k:Nat}{x:W}(a:l[k]? = some x)(b:x∈l.take k):¬l.Nodup:=by
 intro h;obtain⟨c,rfl⟩:=am.1 a;rw [<-cJ k l,dp] at h;exact h.2.2 _ b _ (by rw [dq c];exact d5) rfl
theorem Dv{t:Jw}{al:Int}{A:W->Bool}(r:GV Tryz.prog TB 67 154 t al A)(tab:AW)(c:Qd tab):Pure Tryz.prog TB 25 [Dk t,Cs tab] (eB (Bz A al tab)):=by
 have u:=r.alph;have s:=NX (TB:=TB) al tab c;have F:=Hh r tab.cols tab.rows c.cl (λw y=>by have:=c.rb w y;omega) c.cb c.rl;by_cases q:Ei al tab=true
 ·have h:Bz A al tab=decide (AD A tab).Nodup:=by unfold Bz;rw [q];rfl
  rw [h];have p:Pure Tryz.prog TB 69 [Dk t,BO tab.cols,BO tab.rows] (BO (AD A tab)):=F
  have B:(AD A tab).length=tab.rows.length:=by simp [AD]
  have z:=c.rl;generalize AD A tab=l at *;refine eN Tryz.func25 rfl (by kernel_rfl) rfl ?_;intro Z b;(repeat' first|refine tA rfl ?_ |refine s2 rfl λ_ a=>?_ |refine sP rfl (u) rfl ?_|(refine sC rfl (s) ?_;intro _ a)|refine sP rfl (p) rfl ?_ |refine aU rfl ?_ |refine Aa ?_ |refine rE (by kernel_rfl) ?_|(refine aC rfl ?_ ?_<;>rintro⟨⟩)|refine aK ?_|refine aE ?_|refine aB ?_|refine aR ⟨_,rfl,?_⟩)
  all_goals first
   | (exfalso;grind;done)
   | skip
  refine aL (α:={k:Nat // k<=l.length/\(l.take k).Nodup}) [5] [] rfl rfl (λ⟨k,m,e⟩=>[(6,eI .i64 k)]) (λ⟨k,m,e⟩=>[]) 0 (λ⟨k,m,e⟩=>l.length - k) (⟨0,by omega,by simp⟩) b rfl (by (simp[cX,zC,b])) ?_;rintro⟨k,m,e⟩;(try dsimp only[cA,cB]);by_cases j:k < l.length
  ·obtain⟨x,f⟩:=get_some j
   have v:=get_map (g:=CN) f
   have n:Pure Tryz.prog TB 78 [.o (.d (.l ((l.map CN).take ((k:Nat):Int).toNat))),eT x] (eB (decide (x∈l.take k))):=by
    rw [bL,<-List.map_take];exact Ge _ _ (by simp;omega)
   (repeat first|refine sN rfl ?_ |refine tA rfl ?_ |refine s2 rfl λ_ a=>?_ |refine aU rfl ?_ |refine Aa ?_);(refine aC rfl ?_ ?_<;>rintro⟨⟩)
   ·(repeat' first|(refine sA rfl ?_ ?_;first|exact tI|omega) |(refine s4 rfl ‹_› rfl ?_ ?_;omega) |(refine sC rfl (n) ?_;intro _ a)|(refine Av rfl ?_;refine gA rfl ?_;first| refine gS (λ_ _=>Nd rfl rfl (by simp) (by omega) (by (simp only[oZ] at *;omega))) ?_) |refine aU rfl ?_ |refine Aa ?_ |refine rE (by kernel_rfl) ?_|(refine aC rfl ?_ ?_<;>rintro⟨⟩)|refine aK ?_|refine aE ?_|refine aB ?_|refine aR ⟨_,rfl,?_⟩)
    ·show eB false=eB _
     rw [decide_eq_false (Wt f (by simpa using a))]
    ·have i:=UF f e (by simpa using a)
     refine⟨⟨k+1,by omega,i⟩,by dsimp only;(omega),[],?_⟩;simp[cX,zC,b]
   ·exfalso;(simp only[oZ] at *;omega)
  ·rw [bI (by omega)] at e
   (repeat first|refine sN rfl ?_ |refine tA rfl ?_ |refine s2 rfl λ_ a=>?_ |refine aU rfl ?_ |refine Aa ?_);(refine aC rfl ?_ ?_<;>rintro⟨⟩)
   ·exfalso;(simp only[oZ] at *;omega)
   ·(repeat' first|refine tA rfl ?_ |refine aU rfl ?_ |refine Aa ?_|(refine aC rfl ?_ ?_<;>rintro⟨⟩)|refine aK ?_|refine aE ?_|refine aB ?_|refine aR ⟨_,rfl,?_⟩)
    rw [decide_eq_true e]
 ·have h:Bz A al tab=false:=by unfold Bz;simp [q]
  rw [h];refine eN Tryz.func25 rfl (by kernel_rfl) rfl ?_;intro Z b;(repeat' first|refine tA rfl ?_ |refine s2 rfl λ_ a=>?_ |refine sP rfl (u) rfl ?_|(refine sC rfl (s) ?_;intro _ a) |refine aU rfl ?_ |refine Aa ?_ |refine rE (by kernel_rfl) ?_|(refine aC rfl ?_ ?_<;>rintro⟨⟩)|refine aK ?_|refine aE ?_|refine aB ?_|refine aR ⟨_,rfl,?_⟩)
  all_goals first
   | rfl
   | (exfalso;grind;done)
theorem Hg{t:Jw}{al:Int}{A:W->Bool}(H:GV Tryz.prog TB 67 154 t al A)(tab:AW)(h:Qd tab):Pure Tryz.prog TB 104 [Dk t,Cs tab] (Ro (AX A (AV al) tab)):=by
 have Q:=H.alph;have P:=C3 (TB:=TB) al;have N:Pure Tryz.prog TB 69 [Dk t,BO tab.cols,BO tab.rows] (BO (AD A tab)):=Hh H tab.cols tab.rows h.cl (λw f=>by have:=h.rb w f;omega) h.cb h.rl;have J:=h.rl;have L:(Ac al).length<=6:=AZ al 6;refine eN Tryz.func104 rfl (by kernel_rfl) rfl ?_;intro Z a;(repeat' first|refine tA rfl ?_ |refine sP rfl (Q) rfl ?_|refine sP rfl (P) rfl ?_|refine sP rfl (N) rfl ?_ |refine aU rfl ?_ |refine Aa ?_|(refine aC rfl ?_ ?_<;>rintro⟨⟩)|refine aK ?_|refine aE ?_|refine aB ?_|refine aR ⟨_,rfl,?_⟩);refine aL (α:={k:Nat // k<=tab.rows.length/\∀w∈BG (AV al) (tab.rows.take k),marks A tab.cols w∈AD A tab}) [2,3,6,7] [] rfl rfl (λ⟨k,B,b⟩=>[(8,eI .i64 k)]) (λ⟨k,B,b⟩=>[]) 0 (λ⟨k,B,b⟩=>tab.rows.length - k) (⟨0,by omega,by simp [BG]⟩) a rfl (by (simp[cX,zC,a])) ?_;rintro⟨k,B,b⟩;(try dsimp only[cA,cB]);by_cases v:k < tab.rows.length
 ·obtain⟨r, d⟩:=get_some v
  have I:=get_map (g:=CN) d;have K:=h.rb r (bm d);(repeat first|refine sN rfl ?_ |refine tA rfl ?_ |refine s2 rfl λ_ e=>?_ |refine aU rfl ?_ |refine Aa ?_);(refine aC rfl ?_ ?_<;>rintro⟨⟩)
  ·refine aK ?_
   refine aS (aB ?_);(repeat first|refine tA rfl ?_ |refine aU rfl ?_ |refine Aa ?_);refine aB ?_;refine aL (α:={j:Nat // j<=(Ac al).length/\∀x∈(AV al).take j,marks A tab.cols (r++[x])∈AD A tab}) [2,3,6,7,8] [] rfl rfl (λ⟨j,F,c⟩=>[(9,eI .i64 j)]) (λ⟨j,F,c⟩=>[]) 0 (λ⟨j,F,c⟩=>(Ac al).length - j) (⟨0,by omega,by simp⟩) a rfl (by (simp[cX,zC,a])) ?_;rintro⟨j,F,c⟩;(try dsimp only[cA,cB]);by_cases p:j < (Ac al).length
   ·obtain⟨l,z⟩:=get_some p
    have M:=get_map (g:=Bp) z;have y:=AK (bm z)
    have n:(AV al)[j]? = some (lb l):=by simp [AV,z]
    have u:Pure Tryz.prog TB 72 [eI .i64 l] (eT [lb l]):=Iy l y.1 (by omega);have m:=Ix H tab.cols (r++[lb l]) h.cl (by simp;omega) h.cb;have G:=Ge (TB:=TB) (AD A tab) (marks A tab.cols (r++[lb l])) (by simp [AD];omega);(repeat first|refine sN rfl ?_ |refine tA rfl ?_ |refine s2 rfl λ_ e=>?_ |refine aU rfl ?_ |refine Aa ?_);(refine aC rfl ?_ ?_<;>rintro⟨⟩)
    ·(repeat' first|(refine sA rfl ?_ ?_;first|exact tI|omega|simp only[oZ] at *;omega) |(refine s4 rfl ‹_› rfl ?_ ?_;omega) |refine s2 rfl λ_ e=>?_ |refine sP rfl (u) rfl ?_|refine sP rfl (m) rfl ?_|(refine sC rfl (G) ?_;intro _ e) |refine aU rfl ?_ |refine Aa ?_ |refine rE (by kernel_rfl) ?_|(refine aC rfl ?_ ?_<;>rintro⟨⟩)|refine aK ?_|refine aE ?_|refine aB ?_|refine aR ⟨_,rfl,?_⟩)
     ·have hno:marks A tab.cols (r++[lb l])∉AD A tab:=by grind
      rw [QF d n b c hno];rfl
     ·have i:marks A tab.cols (r++[lb l])∈AD A tab:=by grind
      have q:∀x∈(AV al).take (j+1),marks A tab.cols (r++[x])∈AD A tab:=λx d=>by
       rw [bF,n] at d
       rcases bE.1 d with d|d
       ·exact c x d
       ·simp at d;subst d;exact i
      refine⟨⟨j+1,by omega,q⟩,by dsimp only;(omega),[],?_⟩;simp[cX,zC,a]
    ·exfalso;(simp only[oZ] at *;omega)
   ·have o:∀w∈BG (AV al) (tab.rows.take (k+1)),marks A tab.cols w∈AD A tab:=λw f=>by
     rw [Kw d] at f
     rcases bE.1 f with f|f
     ·exact b w f
     ·obtain⟨x,s,rfl⟩:=bB.1 f
      exact c x (by rw [bI (by simp [AV];omega)];exact s)
    (repeat first|refine sN rfl ?_ |refine tA rfl ?_ |refine s2 rfl λ_ e=>?_ |refine aU rfl ?_ |refine Aa ?_);(refine aC rfl ?_ ?_<;>rintro⟨⟩)
    ·exfalso;(simp only[oZ] at *;omega)
    ·(repeat' first|(refine sA rfl ?_ ?_;first|exact tI|omega) |refine aU rfl ?_ |refine Aa ?_|(refine aC rfl ?_ ?_<;>rintro⟨⟩)|refine aK ?_|refine aE ?_|refine aB ?_|refine aR ⟨_,rfl,?_⟩)
     refine⟨⟨k+1,by omega,o⟩,by dsimp only;(omega),[],?_⟩;simp[cX,zC,a]
  ·exfalso;(simp only[oZ] at *;omega)
 ·have hno:AX A (AV al) tab=none:=cV.2 λw f=>by
   have:=b w (by rw [bI (by omega)];exact f)
   simpa using this
  rw [hno];(repeat first|refine sN rfl ?_ |refine tA rfl ?_ |refine s2 rfl λ_ e=>?_ |refine aU rfl ?_ |refine Aa ?_);(refine aC rfl ?_ ?_<;>rintro⟨⟩)
  ·exfalso;(simp only[oZ] at *;omega)
  ·(repeat' first|refine tA rfl ?_ |refine aU rfl ?_ |refine Aa ?_|(refine aC rfl ?_ ?_<;>rintro⟨⟩)|refine aK ?_|refine aE ?_|refine aB ?_|refine aR ⟨_,rfl,?_⟩)
   rfl
theorem Lp{t:Jw}{al:Int}{A:W->Bool}(e:GV Tryz.prog TB 67 154 t al A)(tab:AW)(c:Qd tab):Pure Tryz.prog TB 152 [Dk t,Cs tab] (Ro (if Bz A al tab then AX A (AV al) tab else none)):=by
 have g:=Dv e tab c;have f:=Hg e tab c;by_cases d:Bz A al tab=true
 ·rw [if_pos d]
  cases h:AX A (AV al) tab<;>rw [h] at f<;>(
   refine eN Tryz.func152 rfl (by kernel_rfl) rfl ?_;intro Z b;(repeat' first|refine tA rfl ?_ |refine s2 rfl λ_ a=>?_ |(refine sC rfl (g) ?_;intro _ a)|refine sP rfl (f) rfl ?_ |refine aU rfl ?_ |refine Aa ?_|(refine aC rfl ?_ ?_<;>rintro⟨⟩)|refine aK ?_|refine aE ?_|refine aB ?_|refine aR ⟨_,rfl,?_⟩)
   all_goals first
    | rfl
    | (exfalso;grind;done))
 ·rw [if_neg d]
  refine eN Tryz.func152 rfl (by kernel_rfl) rfl ?_;intro Z b;(repeat' first|refine tA rfl ?_ |refine s2 rfl λ_ a=>?_ |(refine sC rfl (g) ?_;intro _ a) |refine aU rfl ?_ |refine Aa ?_|(refine aC rfl ?_ ?_<;>rintro⟨⟩)|refine aK ?_|refine aE ?_|refine aB ?_|refine aR ⟨_,rfl,?_⟩)
  all_goals first
   | rfl
   | (exfalso;grind;done)
def Cb(A:W->Bool)(al:Int)(t:AW):Bool:=Bz A al t && (AX A (AV al) t).isNone
theorem La{t:Jw}{al:Int}{A:W->Bool}(g:GV Tryz.prog TB 67 154 t al A)(tab:AW)(f:Qd tab):Pure Tryz.prog TB 66 [Dk t,Cs tab] (eB (Cb A al tab)):=by
 have h:=Dv g tab f;have b:=Lp g tab f;by_cases c:Bz A al tab=true
 ·rw [if_pos c] at b
  have e:Cb A al tab=(AX A (AV al) tab).isNone:=by unfold Cb;rw [c];rfl
  rw [e]
  cases i:AX A (AV al) tab<;>rw [i] at b<;>(
   refine eN Tryz.func66 rfl (by kernel_rfl) rfl ?_;intro Z d;(repeat' first|refine tA rfl ?_ |refine s2 rfl λ_ a=>?_ |(refine sC rfl (h) ?_;intro _ a)|refine sP rfl (b) rfl ?_ |refine s3 rfl ?_ ?_<;>rintro rfl |refine aU rfl ?_ |refine Aa ?_|(refine aC rfl ?_ ?_<;>rintro⟨⟩)|refine aK ?_|refine aE ?_|refine aB ?_|refine aR ⟨_,rfl,?_⟩)
   all_goals first
    | rfl
    | (exfalso;grind;done)
    | (show E.o _=E.o _;congr;first| grind|(simp at *;assumption)))
 ·rw [if_neg c] at b
  have e:Cb A al tab=false:=by unfold Cb;simp [c]
  rw [e];refine eN Tryz.func66 rfl (by kernel_rfl) rfl ?_;intro Z d;(repeat' first|refine tA rfl ?_ |refine s2 rfl λ_ a=>?_ |(refine sC rfl (h) ?_;intro _ a)|refine sP rfl (b) rfl ?_ |refine s3 rfl ?_ ?_<;>rintro rfl |refine aU rfl ?_ |refine Aa ?_|(refine aC rfl ?_ ?_<;>rintro⟨⟩)|refine aK ?_|refine aE ?_|refine aB ?_|refine aR ⟨_,rfl,?_⟩)
  all_goals first
   | rfl
   | (exfalso;grind;done)
theorem VX{l:List W}{s:W}{k:Nat}(a:l[k]? = some s)(b:s∉l.take k):l.idxOf s=k:=by
 have c:k < l.length:=(am.1 a).1
 have e:l=l.take k++s::l.drop (k+1):=by rw [<-CU a,cJ]
 rw [e,eU,if_neg b,ep];simp;omega
theorem NW(l:List W)(s:W)(n:s∈l)(p:l.length<=1099511627776):Pure Tryz.prog TB 70 [BO l,eT s] (eI .i64 (l.idxOf s:Nat)):=by
 refine eN Tryz.func70 rfl (by kernel_rfl) rfl ?_;intro Z a;(repeat first|refine tA rfl ?_ |refine aU rfl ?_ |refine Aa ?_);refine aB ?_;refine aL (α:={k:Nat // k<=l.length/\s∉l.take k}) [0,1] [] rfl rfl (λ⟨k,j,b⟩=>[(5,eI .i64 k)]) (λ⟨k,j,b⟩=>[]) 0 (λ⟨k,j,b⟩=>l.length - k) (⟨0,by omega,by simp⟩) a rfl (by (simp[cX,zC,a])) ?_;rintro⟨k,j,b⟩;(try dsimp only[cA,cB])
 have i:k < l.length:=by
  rcases cL k l.length with h|h
  ·exact h
  ·rw [bI h] at b;exact absurd n b
 obtain⟨x,d⟩:=get_some (l:=l) (k:=k) i;have m:=get_map (g:=CN) d;by_cases e:x=s
 ·subst e
  have o:=VX d b;rw [o];(repeat first|refine tA rfl ?_ |(refine s4 rfl ‹_› rfl ?_ ?_;omega) |refine s2 rfl λ_ c=>?_ |refine aU rfl ?_ |refine Aa ?_);(refine aC rfl ?_ ?_<;>rintro⟨⟩)
  ·exfalso;simp at c
  ·(repeat' first|refine tA rfl ?_ |refine aU rfl ?_ |refine Aa ?_|(refine aC rfl ?_ ?_<;>rintro⟨⟩)|refine aK ?_|refine aE ?_|refine aB ?_|refine aR ⟨_,rfl,?_⟩)
   rfl
 ·have f:s∉l.take (k+1):=by
   rw [bF,d];intro h
   rcases bE.1 h with h|h
   ·exact b h
   ·simp at h;exact e h.symm
  (repeat first|refine tA rfl ?_ |(refine s4 rfl ‹_› rfl ?_ ?_;omega) |refine s2 rfl λ_ c=>?_ |refine aU rfl ?_ |refine Aa ?_);(refine aC rfl ?_ ?_<;>rintro⟨⟩)
  ·(repeat' first|(refine sA rfl ?_ ?_;first|exact tI|omega) |refine aU rfl ?_ |refine Aa ?_|(refine aC rfl ?_ ?_<;>rintro⟨⟩)|refine aK ?_|refine aE ?_|refine aB ?_|refine aR ⟨_,rfl,?_⟩)
   refine⟨⟨k+1,by omega,f⟩,by dsimp only;(omega),[],?_⟩;simp[cX,zC,a]
  ·exfalso;simp [e] at c
end Go.Am
namespace Go.Am
open Go
set_option linter.unusedVariables false
theorem NM{f:Nat->Bool}{n k:Nat}(h:D0 f n=true)(b:0 < k)(a:k < n):f k=true:=by
 unfold D0 at h;have:=(bH.1 h) k (cG.2 a);simp at this
 rcases this with h|h
 ·omega
 ·exact h
theorem NO{f:Nat->Bool}{n:Nat}(h:∀k,0 < k->k < n->f k=true):D0 f n=true:=by
 unfold D0;refine bH.2 λk a=>?_;have a:=cG.1 a
 rcases cD k with b|b
 ·subst b;rfl
 ·simp [h k b a]
structure Xc (al:Int) (t:AW):Prop where
 pos:0<=al
 r1:1<=t.rows.length
 rl:t.rows.length<=12
 c1:1<=t.cols.length
 cl:t.cols.length<=20
 r0:t.rows[0]? = some []
 c0:t.cols[0]? = some []
 rw:∀w∈t.rows,w.length<=50000/\AH (AV al) w
 cw:∀w∈t.cols,w.length<=4000/\AH (AV al) w
 pre:∀(i:Nat) w,t.rows[i]? = some w->0 < i->w≠[]/\∃j,j < i/\t.rows[j]? = some w.dropLast
 ndC:t.cols.Nodup
theorem I8{α:Type}{l:List α}{k:Nat}{x:α}(h:x∈l.take k):∃j,j < k/\l[j]? = some x:=by
 obtain⟨j,a,b⟩:=cr h
 have c:j < k:=by simp at a;omega
 refine⟨j,c,?_⟩;rw [<-b,List.getElem_take,bt]
theorem IX{α:Type}{l:List α}{j k:Nat}{x:α}(h:l[j]? = some x)(a:j < k):x∈l.take k:=by
 have:(l.take k)[j]? = some x:=by rw [bS,if_pos a];exact h
 exact bm this
theorem P4{w:W}{al:Int}(h:within w al=true):w.length<=50000:=by
 unfold within at h;simp only [bu,decide_eq_true_eq] at h;exact h.1
theorem TV{al:Int}{t:AW}(h:Ei al t=true):Xc al t:=by
 unfold Ei IM at h;simp only [bu,decide_eq_true_eq] at h;obtain⟨⟨v,q,p,o,n⟩,u,s⟩:=h
 have d:∀(i:Nat) w,t.rows[i]? = some w->0 < i->w≠[]/\within w al=true/\w.dropLast∈t.rows.take i:=λi w hi b=>by
  have:=NM u b (am.1 hi).1;unfold rowAt at this;rw [hi] at this;simp only [bu,decide_eq_true_eq,dE,decide_eq_false_iff_not] at this;exact⟨λe=>this.1 (by rw [e];rfl),this.2.1,this.2.2⟩
 have f:∀(i:Nat) w,t.cols[i]? = some w->0 < i->w.length<=4000/\within w al=true/\w∉t.cols.take i:=λi w hi b=>by
  have:=NM s b (am.1 hi).1;unfold JV at this;rw [hi] at this;simp only [bu,decide_eq_true_eq,dE,decide_eq_false_iff_not] at this;exact this
 refine⟨v,q.1,q.2,p.1,p.2,o,n,λw k=>?_,λw k=>?_,λi w hi b=>?_,?_⟩
 ·obtain⟨i,hi,g⟩:=cr k
  have a:t.rows[i]? = some w:=by rw [bt hi,g]
  rcases cD i with b|b
  ·subst b
   rw [o] at a;injection a with a;subst a
   exact⟨by simp,λc m=>by cases m⟩
  ·have:=d i w a b
   exact⟨P4 this.2.1,Ek this.2.1⟩
 ·obtain⟨i,hi,g⟩:=cr k
  have a:t.cols[i]? = some w:=by rw [bt hi,g]
  rcases cD i with b|b
  ·subst b
   rw [n] at a;injection a with a;subst a
   exact⟨by simp,λc m=>by cases m⟩
  ·have:=f i w a b
   exact⟨this.1,Ek this.2.1⟩
 ·have:=d i w hi b
  exact⟨this.1,I8 this.2.2⟩
 ·unfold List.Nodup
  rw [bZ];intro i j hi r l g;have:=f j t.cols[j] (bt r) (by omega);exact this.2.2 (IX (by rw [bt hi,g]) l)
theorem RT{al:Int}{t:AW}(ha:BP al=true)(r:0<=al)(m:1<=t.rows.length/\t.rows.length<=12)(o:1<=t.cols.length/\t.cols.length<=20)(l:t.rows[0]? = some [])(s:t.cols[0]? = some [])
 (rw':∀w∈t.rows,w.length<=50000/\AH (AV al) w) (cw:∀w∈t.cols,w.length<=4000/\AH (AV al) w) (pre:∀(i:Nat) w,t.rows[i]? = some w->0 < i->w≠[]/\∃j,j < i/\t.rows[j]? = some w.dropLast) (ndC:t.cols.Nodup):Ei al t=true:=by
 unfold Ei IM;simp only [bu,decide_eq_true_eq];refine⟨⟨r,m,o,l,s⟩,NO λk h a=>?_,NO λk h a=>?_⟩
 ·have c:=bt a
  obtain⟨q,j,f,p⟩:=pre k _ c h;have b:=rw' _ (cx a);unfold rowAt;rw [c];simp only [bu,decide_eq_true_eq,dE,decide_eq_false_iff_not];exact⟨λe=>q (bM.1 e),Fi b.2 b.1 ha,IX p f⟩
 ·have c:=bt a
  have b:=cw _ (cx a);unfold JV;rw [c];simp only [bu,decide_eq_true_eq,dE,decide_eq_false_iff_not];refine⟨b.1,Fi b.2 (by omega) ha,λn=>?_⟩;obtain⟨j,f,g⟩:=I8 n;obtain⟨d,g⟩:=am.1 g;exact(bZ.1 ndC) j k d a f g
theorem Dg{A:W->Bool}{al:Int}{t:AW}(h:Bz A al t=true):Xc al t/\(AD A t).Nodup:=by
 unfold Bz at h;rw [bu,decide_eq_true_eq] at h;exact⟨TV h.1,h.2⟩
theorem PY{A:W->Bool}{al:Int}{t:AW}(h:Bz A al t=true):TOk A (AV al) t:=by
 obtain⟨a,c⟩:=Dg h;exact⟨a.r0,a.c0,a.pre,λw b=>(a.rw w b).2,λw b=>(a.cw w b).2,c,a.ndC⟩
theorem IS{A:W->Bool}{al:Int}{t:AW}(ha:BP al=true)(i:0<=al)(h:TOk A (AV al) t)(d:t.rows.length<=12)(e:t.cols.length<=20)(b:∀w∈t.rows,w.length<=50000)(c:∀w∈t.cols,w.length<=4000):Bz A al t=true:=by
 unfold Bz;rw [bu,decide_eq_true_eq];have g:=(am.1 h.r0).1;have f:=(am.1 h.c0).1;exact⟨RT ha i ⟨g,d⟩ ⟨f,e⟩ h.r0 h.c0 (λw a=>⟨b w a,h.onR w a⟩) (λw a=>⟨c w a,h.onC w a⟩) h.pre h.ndC,h.nd⟩
theorem EL{A:W->Bool}{al:Int}{t:AW}(h:Cb A al t=true):Bz A al t=true/\AX A (AV al) t=none/\A7 A (AV al) t:=by
 unfold Cb at h;rw [bu] at h
 have a:AX A (AV al) t=none:=by simpa using h.2
 exact⟨h.1,a,⟨PY h.1,Fp a⟩⟩
theorem O7{A:W->Bool}{al:Int}{t:AW}(h:Bz A al t=true)(a:AX A (AV al) t=none):Cb A al t=true:=by
 unfold Cb;rw [h,a];rfl
theorem Xc.sz{al:Int}{t:AW}(h:Xc al t):Qd t:=⟨by have:=h.rl;omega,by have:=h.cl;omega,λw a=>by have:=(h.rw w a).1;omega,λw a=>by have:=(h.cw w a).1;omega⟩
def QY(A L:W->Bool)(al:Int):Prop:=∀w,AH (AV al) w->w.length<=50000->A w=L w
theorem Pw{ls:List UInt8}{u w:W}(b:AH ls u)(a:AH ls w):AH ls (u++w):=λc d=>by
 rcases bE.1 d with h|h
 ·exact b c h
 ·exact a c h
theorem LZ{A L:W->Bool}{al:Int}(h:QY A L al){cols:List W}{w:W}(c:AH (AV al) w)(b:∀x∈cols,AH (AV al) x/\w.length+x.length<=50000):marks A cols w=marks L cols w:=by
 rw [marks,marks,dn];intro x a;rw [h _ (Pw c (b x a).1) (by simp;exact(b x a).2)]
theorem Gy{A L:W->Bool}{al:Int}{b:Nat}{t:AW}(h:QY A L al)(ht:Ep al b t)(hb:b<=20100):AD A t=AD L t:=by
 rw [AD,AD,dn];intro r c;have:=ht.onR r c
 exact LZ h this.1 λx a=>⟨(ht.onC x a).1,by have:=(ht.onC x a).2;omega⟩
theorem Kv{A L:W->Bool}{al:Int}{b:Nat}{t:AW}(h:QY A L al)(ht:Ep al b t)(hb:b<=20100){r:W}{l:UInt8}(e:r∈t.rows)(f:l∈AV al):marks A t.cols (r++[l])=marks L t.cols (r++[l]):=by
 have:=ht.onR r e
 refine LZ h (Pw this.1 (λc d=>by simp at d;subst d;exact f)) λx a=>⟨(ht.onC x a).1,by have:=(ht.onC x a).2;simp;omega⟩
theorem NJ{α:Type}{p q:α->Bool}:∀ {l:List α},(∀x∈l,p x=q x)->l.find? p=l.find? q
 | [],_=>rfl
 | x::l,h=>by
  rw [List.find?_cons,List.find?_cons,h x (by simp),NJ (l:=l) λy a=>h y (by simp [a])]
theorem RG{A L:W->Bool}{al:Int}{b:Nat}{t:AW}(h:QY A L al)(ht:Ep al b t)(hb:b<=20100):AX A (AV al) t=AX L (AV al) t:=by
 unfold AX;refine NJ λw a=>?_;unfold BG at a;simp only [df,bB] at a;obtain⟨r,c,l,d,rfl⟩:=a;rw [Gy h ht hb,Kv h ht hb c d]
theorem Ha{A L:W->Bool}{al:Int}(h:QY A L al):∀(n:Nat) {b:Nat} {t:AW},Ep al b t->b+n<=20100->A2 A (AV al) n t=A2 L (AV al) n t
 | 0,_,_,_,_=>rfl
 | n + 1,b,t,ht,hb=>by
  unfold A2;rw [RG h ht (by omega)]
  cases d:AX L (AV al) t with
  | none=>rfl
  | some w=>
   dsimp only;by_cases a:t.rows.length=12
   ·rw [if_pos a,if_pos a]
   ·rw [if_neg a,if_neg a]
    have c:=ht.rl;exact Ha h n (ht.push d (by omega)) (by omega)
theorem NT{A L:W->Bool}{al:Int}{b:Nat}{t:AW}(h:QY A L al)(ht:Ep al b t)(hb:b<=20100){r:W}{l:UInt8}(a:r∈t.rows)(c:l∈AV al):Cg A t (r++[l])=Cg L t (r++[l]):=by
 unfold Cg;rw [Gy h ht hb,Kv h ht hb a c]
theorem NB{A L:W->Bool}{al:Int}{b:Nat}{t:AW}(h:QY A L al)(ht:Ep al b t)(hb:b<=20100):AG A al t=AG L al t:=by
 unfold AG;congr 1
 ·refine dn.2 λr a=>dn.2 λl c=>?_
  rw [NT h ht hb a (JF c)]
 ·refine dn.2 λr a=>?_
  have:=ht.onR r a;rw [h r this.1 (by omega)]
theorem TOk.Xv{A L:W->Bool}{al:Int}{b:Nat}{t:AW}(h:QY A L al)(ht:Ep al b t)(hb:b<=20100)(a:TOk L (AV al) t):TOk A (AV al) t:=⟨a.r0,a.c0,a.pre,a.onR,a.onC,by rw [Gy h ht hb];exact a.nd,a.ndC⟩
theorem A7.Xv{A L:W->Bool}{al:Int}{b:Nat}{t:AW}(h:QY A L al)(ht:Ep al b t)(hb:b<=20100)(d:A7 L (AV al) t):A7 A (AV al) t:=⟨d.toTOk.Xv h ht hb,λr a l c=>by
 rw [Kv h ht hb a c,Gy h ht hb];exact d.cl r a l c⟩
theorem TT{A:W->Bool}{al:Int}{t:AW}(h:A7 A (AV al) t){q:Nat}(a:q < t.rows.length):t.rows.getD q []∈t.rows:=by
 rw [List.getD,bt a];exact cx a
theorem Jd{A L:W->Bool}{al:Int}{m:Nat}{t:AW}(h:QY A L al)(ht:Ep al m t)(hb:m<=20100)(f:A7 L (AV al) t)(b:Bool):∀(w:W) (q:Nat),q < t.rows.length->AH (AV al) w->w.length<=20000->splitAt A t b q w=splitAt L t b q w
 | [],_,_,_,_=>rfl
 | c :: w,q,g,j,p=>by
  have o:=TT f g;have k:=j c (by simp);have s:=NT h ht hb o k;obtain⟨r',l,_⟩:=f.idx (i:=q) (bt g) k
  have r:t.rows.getD q []=t.rows[q]:=by rw [List.getD,bt g];rfl
  rw [<-r] at l;have e:=(am.1 l).1;have d:=TT f e;have a:AH (AV al) w:=λx n=>j x (by simp [n]);simp at p
  have u:A (t.rows.getD (Cg L t (t.rows.getD q []++[c])) []++w)=L (t.rows.getD (Cg L t (t.rows.getD q []++[c])) []++w):=
   h _ (Pw (ht.onR _ d).1 a) (by have:=(ht.onR _ d).2;simp only [cK];omega)
  unfold splitAt;rw [s,u];split
  ·rfl
  ·exact Jd h ht hb f b w _ e a (by omega)
end Go.Am
namespace Go.Am
open Go Go.Proofs
set_option maxHeartbeats 1000000
set_option maxRecDepth 4000
attribute [local irreducible] AP BH Lex A4 Al Spec
variable {TB:Bg}
theorem NF{A:W->Bool}{ls:List UInt8}{m:Nat}{u:AW}{w:W}{R:Option AW}(b:R=A2 A ls (m+1) u)(a:AX A ls u=some w)(c:u.rows.length < 12):R=A2 A ls m ⟨u.rows++[w],u.cols⟩:=by
 rw [b]
 conv=>lhs;unfold A2
 rw [a];dsimp only;rw [if_neg (by omega)]
theorem FW{t:Jw}{al:Int}{A:W->Bool}(hT:GV Tryz.prog TB 67 154 t al A)(tab:AW)(hz:Qd tab) :
 Pure Tryz.prog TB 43 [Dk t,Cs tab] (Fy (if Bz A al tab then A2 A (AV al) 13 tab else none)):=by
 have N:=Dv hT tab hz;by_cases v:Bz A al tab=true
 ·rw [if_pos v]
  rw [v] at N;have g:Xc al tab:=(Dg v).1;have H:=g.r1;have L:=g.c1;have T:=g.rl;have hcl:=g.cl;refine eG Tryz.func43 rfl (by kernel_rfl) rfl ?_;intro Z e;(repeat first|refine tA rfl ?_ |refine s2 rfl λ_ i=>?_ |refine sP rfl (N) rfl ?_ |refine aU rfl ?_ |refine Aa ?_)
  ((refine aC rfl ?_ ?_<;>rintro⟨⟩);all_goals try (simp at i;done))
  refine aK ?_;(repeat first|refine aU rfl ?_);refine R.WQ [(0,2),(1,2),(2,2),(4,2),(5,2),(6,2),(9,3),(3,1),(7,1),(8,2),(10,5)] mixed (by kernel_rfl) rfl (by kernel_rfl) ?_;(repeat ((refine R.Av rfl ?_;first|(refine R.yQ (md:=false) rfl rfl rfl ?_ ?_;exact tI) |refine R.yP rfl rfl rfl rfl ?_|refine R.BU (λ_ _ _=>Nb (by rfl) (by rfl)) rfl rfl ?_ )));(refine R.Av rfl ?_;refine R.Py (λ_=>?_) rfl rfl;refine Gw rfl rfl rfl (by intro r k;simp at k;obtain⟨_,_,rfl⟩:=k;rfl) (by rfl) (bn rfl) (by simp;omega) (λh=>?_) (λ_=>?_))
  ·exfalso;simp at h;rw [h] at H;simp at H
  (refine R.Av rfl ?_;refine R.Py (λ_=>?_) rfl rfl;refine Gw rfl rfl rfl (by intro r k;simp at k;obtain⟨_,_,rfl⟩:=k;rfl) (by rfl) (bn rfl) (by simp;omega) (λh=>?_) (λ_=>?_))
  ·exfalso;simp at h;rw [h] at L;simp at L
  (repeat ((refine R.Av rfl ?_;first|refine R.yA rfl rfl rfl rfl ?_|refine R.BU (λ_ _ _=>AI rfl rfl (by rfl) (by rfl)) rfl rfl ?_ )));refine R.Ws ?_;refine aS ?_;refine Al.CR [2] [] rfl rfl [(4,.o (.ptr 0 2 0 0)),(6,.o (.ptr 3 2 0 0))] [(0,.cells 47 2 [[.d (.l []),.d (.l [])]]),(1,.cells 9 1 (tab.rows.map CZ)),(2,.cells 9 1 (tab.cols.map CZ)),(3,.cells 47 2 [[.arr 1 1 0 tab.rows.length,.arr 2 1 0 tab.cols.length]])] [0,1,2,3] (rl e rfl) (by (simp[cX,zC,e])) ?_;(try dsimp only[cA,cB]);have s:=Hg hT tab hz
  have G:∀l:List W,((l.map CZ).drop 0).take l.length=(l.map CN).map (λr=>r.map C.d):=λl=>by rw [dw,bI (by simp)];simp [bC]
  have K:∀u:AW,Vw [(0,.cells 47 2 [[.d (.l []),.d (.l [])]]),(1,.cells 9 1 (u.rows.map CZ)),(2,.cells 9 1 (u.cols.map CZ)),(3,.cells 47 2 [[.arr 1 1 0 u.rows.length,.arr 2 1 0 u.cols.length]])] [Dk t,.a [.arr 1 1 0 u.rows.length,.arr 2 1 0 u.cols.length]] [Dk t,Cs u]:=λu=>
   .cons (.cons (.pure rfl) (.cons (.pure rfl) (.cons (.pure rfl) (.cons (.pure rfl) (.cons (.pure rfl) (.cons (.pure rfl) (.cons (.pure rfl) (.cons (.pure rfl) (.cons (.pure rfl) (.cons (.pure rfl) (.cons (.pure rfl) .nil))))))))))) (.cons (.cons (.arr rfl (by simp) (G _)) (.cons (.arr rfl (by simp) (G _)) .nil)) .nil)
  have I:∀x:AW,Ro (AX A (AV al) x)=.t [(false,[.d (tD ((AX A (AV al) x).getD []))]),(false,[.d (bD (AX A (AV al) x).isSome)])]:=λx=>by cases AX A (AV al) x<;>rfl
  rw [I] at s;(repeat first|refine tA rfl ?_|(refine Av rfl ?_;refine gA rfl ?_;first| refine gQ (Fs rfl rfl ((K tab)) (s) rfl) rfl ?_) |refine aU rfl ?_ |refine Aa ?_)
  obtain⟨R,hR⟩:∃R,R=A2 A (AV al) 13 tab:=⟨_,rfl⟩
  rw [<-hR];refine aB ?_;refine aL (α:={p:Nat×AW // p.1<=13/\13<=p.1+p.2.rows.length/\p.2.rows.length<=12/\p.2.cols.length<=20/\(∀w∈p.2.rows,w.length<=50000+p.2.rows.length)/\(∀w∈p.2.cols,w.length<=4000)/\R=A2 A (AV al) p.1 p.2}) [2,4,6] [0] rfl rfl (λ⟨⟨m,u⟩,M,q,n,j,b,c,z⟩=>[(7,eT ((AX A (AV al) u).getD [])),(8,eB (AX A (AV al) u).isSome)]) (λ⟨⟨m,u⟩,M,q,n,j,b,c,z⟩=>[(1,.cells 9 1 (u.rows.map CZ)),(2,.cells 9 1 (u.cols.map CZ)),(3,.cells 47 2 [[.arr 1 1 0 u.rows.length,.arr 2 1 0 u.cols.length]])]) 4 (λ⟨⟨m,u⟩,M,q,n,j,b,c,z⟩=>m) (⟨(13,tab),by simp,by simp,T,hcl,λw F=>by have:=(g.rw w F).1;show w.length<=50000+tab.rows.length;omega,λw F=>(g.cw w F).1,hR⟩) e rfl (by (simp[cX,zC,e])) ?_;rintro⟨⟨m,u⟩,M,q,n,j,b,c,z⟩;(try dsimp only[cA,cB]);dsimp only at M q n j b c z
  have Q:AX A (AV al) u=none\/∃w,AX A (AV al) u=some w:=by cases AX A (AV al) u<;>simp
  rcases Q with y|⟨w,y⟩
  ·rw [y]
   have V:R=some u:=by
    rw [z]
    obtain⟨m',rfl⟩:∃m',m=m'+1:=⟨m - 1,by omega⟩
    simp [A2,y]
   (repeat first|refine tA rfl ?_ |refine aU rfl ?_ |refine Aa ?_)
   ((refine aC rfl ?_ ?_<;>rintro⟨⟩);all_goals try (simp at i;done))
   refine aE ?_;(repeat first|refine tA rfl ?_ |refine aU rfl ?_ |refine Aa ?_);refine Al.settle [(4,.o (.ip [A6 u.rows,A6 u.cols])),(5,eB true)] ⟨⟨_,rfl,.o (.box rfl (.cons (.full rfl (by simp [bC]) (by simp)) (.cons (.full rfl (by simp [bC]) (by simp)) .nil)))⟩,⟨_,rfl,.o .d⟩,trivial⟩ ?_;refine aR ⟨_,rfl,?_⟩;rw [V];rfl
  ·rw [y]
   obtain⟨m',rfl⟩:∃m',m=m'+1:=⟨m - 1,by omega⟩
   obtain⟨⟨r,k,l,hl,F⟩,_⟩:=Hj y
   have B:w.length<=50000+(u.rows++[w]).length:=by
    have:=b r k;rw [F];simp;omega
   (repeat first|refine tA rfl ?_ |refine aU rfl ?_ |refine Aa ?_)
   ((refine aC rfl ?_ ?_<;>rintro⟨⟩);all_goals try (simp at i;done))
   refine aK ?_;refine aB ?_;(repeat first|refine tA rfl ?_ |refine s2 rfl λ_ i=>?_ |refine aU rfl ?_ |refine Aa ?_);(refine aC rfl ?_ ?_<;>rintro⟨⟩)
   ·have h12:u.rows.length=12:=by (simp only[oZ] at *;omega)
    have V:R=none:=by
     rw [z];simp [A2,y,h12]
    (repeat first|refine tA rfl ?_|(refine Av rfl ?_;refine gA rfl ?_;first| refine gS (λ_ _=>AI rfl rfl (by rfl) (by rfl)) ?_) |refine aU rfl ?_ |refine Aa ?_);refine Al.settle [(4,.o (.ip [.l [],.l []])),(5,eB false)] ⟨⟨_,rfl,.o (.box rfl (.cons .d (.cons .d .nil)))⟩,⟨_,rfl,.o .d⟩,trivial⟩ ?_;refine aR ⟨_,rfl,?_⟩;rw [V];rfl
   ·have hlt:u.rows.length < 12:=by (simp only[oZ] at *;omega)
    have S:=NF z y hlt
    have P:Qd ⟨u.rows++[w],u.cols⟩:=⟨by simp;omega,by dsimp only;omega,λx f=>by
     rcases bE.1 f with f|f
     ·have:=b x f;omega
     ·simp at f;subst f;simp at B;omega,λx f=>by have:=c x f;omega⟩
    have J:=Hg hT ⟨u.rows++[w],u.cols⟩ P;rw [I] at J;refine aK ?_;(repeat first|refine tA rfl ?_ |refine aU rfl ?_);(refine pW rfl ?_ rfl (by rfl);refine AT rfl rfl rfl (by first| (simp;done)|(simp;(omega))) rfl (by intro r k;simp at k;subst k;rfl) (by rfl) (bn rfl) (by simp;omega) ?_);(repeat first|refine tA rfl ?_);refine Aa ?_
    have U:∀x∈u.rows++[w],x.length<=50000+(u.rows++[w]).length:=λx f=>by
     rcases bE.1 f with f|f
     ·have:=b x f;simp;omega
     ·simp at f;subst f;exact B
    refine Al.CR [2,4,6] [] rfl rfl [] [(0,.cells 47 2 [[.d (.l []),.d (.l [])]]),(1,.cells 9 1 ((u.rows++[w]).map CZ)),(2,.cells 9 1 (u.cols.map CZ)),(3,.cells 47 2 [[.arr 1 1 0 (u.rows++[w]).length,.arr 2 1 0 u.cols.length]])] [0,4,2,3] (rl e rfl) (by (simp[cX,zC,e])) ?_;(try dsimp only[cA,cB]);(repeat first|refine tA rfl ?_|(refine Av rfl ?_;refine gA rfl ?_;first| refine gQ (Fs rfl rfl ((K ⟨u.rows++[w],u.cols⟩)) (J) rfl) rfl ?_) |refine aU rfl ?_ |refine Aa ?_);refine⟨⟨⟨m',⟨u.rows++[w],u.cols⟩⟩,by dsimp only;omega,by simp;omega,by simp;omega,j,U,c,S⟩,by dsimp only;(omega),[0,1,2,3],?_⟩;simp[cX,zC,e]
 ·have v:Bz A al tab=false:=by simpa using v
  rw [if_neg (by simp [v])];rw [v] at N;refine eG Tryz.func43 rfl (by kernel_rfl) rfl ?_;intro Z e;(repeat first|refine tA rfl ?_ |refine s2 rfl λ_ i=>?_ |refine sP rfl (N) rfl ?_ |refine aU rfl ?_ |refine Aa ?_)
  ((refine aC rfl ?_ ?_<;>rintro⟨⟩);all_goals try (simp at i;done))
  (repeat first|refine tA rfl ?_|(refine Av rfl ?_;refine gA rfl ?_;first| refine gS (λ_ _=>AI rfl rfl (by rfl) (by rfl)) ?_) |refine aU rfl ?_ |refine Aa ?_);refine Al.settle [(4,.o (.ip [.l [],.l []])),(5,eB false)] ⟨⟨_,rfl,.o (.box rfl (.cons .d (.cons .d .nil)))⟩,⟨_,rfl,.o .d⟩,trivial⟩ ?_;refine aR ⟨_,rfl,rfl⟩
end Go.Am
namespace Go.Am
open Go
set_option linter.unusedVariables false
def Vs(es:List P6)(l:Int)(m:Nat):Nat:=es.foldl (λa e=>if e.l=l/\m.testBit e.f.toNat=true then a ||| 2 ^ e.t.toNat else a) 0
structure MA where
 s:Sys
 q:A5
 al:Int
def Ue(t:MA):Bool:=EW t.s && (Ax t.q && BP t.al)
def VV(t:MA):List Int:=(Ac t.s.al).filter λl=>!En t.al l.toNat
def YQ(s:Sys)(l:Int)(m:Nat):Nat:=if En s.al l.toNat then Vs s.es l m else m
abbrev PS:=Nat->Nat
def aT(t:MA)(l:Int)(F:PS):PS:=λp'=>(List.range t.q.nx.length).foldl (λa p=>if CE t.q p l=(p':Int) then a ||| YQ t.s l (F p) else a) 0
inductive Xp (t:MA) (F0:PS):Nat->Nat->Prop
 | base {p j:Nat}:(F0 p).testBit j=true->Xp t F0 p j
 | step {p j:Nat} {e:P6}:Xp t F0 p j->e∈t.s.es->e.l∈VV t->e.f.toNat=j->Xp t F0 (CE t.q p e.l).toNat e.t.toNat
open Classical in
noncomputable def ah(t:MA)(F0:PS):PS:=λp=>(List.range 16).foldl (λa j=>if Xp t F0 p j then a ||| 2 ^ j else a) 0
structure Zm (t:MA) (F:PS):Prop where
 lt:∀p,F p < 65536
 z:∀p,t.q.nx.length<=p->F p=0
section
variable {t:MA}(ht:Ue t=true)
include ht set_option linter.unusedSectionVars false
end
def Y3:PS:=λp=>if p=0 then 1 else 0
noncomputable def PM(t:MA):PS:=ah t Y3
noncomputable def Tg(t:MA)(l:Int)(F:PS):PS:=ah t (aT t l F)
def Zs(t:MA)(F:PS):Bool:=(List.range t.q.nx.length).any λp=>decide (F p≠0) && !(t.q.ac.getD p false)
section
variable {t:MA}(ht:Ue t=true)
include ht
end
end Go.Am
namespace Go.Am
open Go Go.Proofs
set_option maxHeartbeats 1000000
set_option maxRecDepth 4000
attribute [local irreducible] AP BH Lex A4 Al Spec
variable {TB:Bg}
structure Zl where
 F:List PS
 nx:List (List Int)
 un:List Bool
def XU(F:PS):Nat:=(65535 - F 0)+(65535 - F 1)+(65535 - F 2)+(65535 - F 3)+(65535 - F 4)+(65535 - F 5)+(65535 - F 6)+(65535 - F 7)+(65535 - F 8)+(65535 - F 9)+(65535 - F 10)+(65535 - F 11)
section
variable {t:MA}(ht:Ue t=true)
include ht
end
inductive Reach (t:MA):PS->Prop
 | start:Reach t (PM t)
 | next {F:PS} {l:Int}:0<=l->l < 6->Reach t F->Reach t (Tg t l F)
noncomputable def YP(t:MA):PS->W->PS
 | F,[]=>F
 | F,c::w=>YP t (Tg t ((c.toNat:Int) - 97) F) w
def aJ(t:MA)(ok:W->Prop)(F:PS):Prop:=F=PM t\/∃u v,ok (u++v)/\F=YP t (PM t) u
structure ZX (t:MA) (ok:W->Prop) (m:Zl):Prop where
 l1:m.nx.length=m.F.length
 l2:m.un.length=m.F.length
 nd:m.F.Nodup
 rc:∀F∈m.F,Reach t F
 rk:∀F∈m.F,aJ t ok F
 un:∀(i:Nat) F,m.F[i]? = some F->m.un[i]? = some (Zs t F)
 nx:∀(i:Nat) F,m.F[i]? = some F->∃r:List Int,m.nx[i]? = some r/\r.length=6/\∀l:Nat,l < 6->∃x,r[l]? = some x/\(x < 0\/∃j:Nat,x=j/\m.F[j]? = some (Tg t l F))
section
variable {P:Program}{Z:Ctx}{d:Option Tmp}{ty:TypeId}{pos:String}{af:Array Edge}{g:Option (Nat×Bool)}{f:Env}{σ:Ab}{nx:Nat}{t:TypeId}{n:Nat}{q:IntKind}{m e:TypeId}{x y:Operand}{id:Nat}{l:List (List Int×Int)}{s:List Int}
end
end Go.Am
