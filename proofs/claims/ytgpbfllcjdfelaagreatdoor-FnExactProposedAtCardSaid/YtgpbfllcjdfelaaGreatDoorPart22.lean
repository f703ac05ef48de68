/-
  The answers of a known automaton; the column that a wrong word shows.
-/
import Derived.Test.YtgpbfllcjdfelaaGreatDoorPart21
set_option linter.all false
namespace Go.Am
open Go Go.Proofs
set_option maxHeartbeats 1000000
set_option maxRecDepth 4000
attribute [local irreducible] AP BH Lex A4 Al Spec
variable {TB:Bg}
theorem Gf(w:W)(i:Nat)(c:UInt8)(e:w[((i:Nat):Int).toNat]? = some c)(d:0<=(c.toNat:Int) - 97/\(c.toNat:Int) - 97 < 6):Pure Tryz.prog TB 82 [eT w,eI .i64 i] (eI .i64 ((c.toNat:Int) - 97)):=by
 refine eN Tryz.func82 rfl (by kernel_rfl) rfl ?_;intro Z a;(repeat' first|(refine sA rfl ?_ ?_;first|exact tI|omega) |(refine s4 rfl ‹_› rfl ?_ ?_;omega) |refine s2 rfl λ_ b=>?_ |refine s3 rfl ?_ ?_<;>rintro rfl |refine aU rfl ?_ |refine Aa ?_|(refine aC rfl ?_ ?_<;>rintro⟨⟩)|refine aK ?_|refine aE ?_|refine aB ?_|refine aR ⟨_,rfl,?_⟩)
 all_goals first
  | rfl
  | (exfalso;grind)
abbrev Ub(kn:Bool)(p:A5)(s:Sys)(q:A5)(al:Int):List D:=[bD kn,iD p.al,CG p.nx,EJ p.ac,iD s.al,iD s.st,Pa s.es,iD q.al,CG q.nx,EJ q.ac,iD al]
theorem Fo{ls:List UInt8}{w:W}(h:AH ls w)(k:Nat):AH ls (w.take k):=λc a=>h c (ce a)
theorem UJ{ls:List UInt8}{w:W}(h:AH ls w)(k:Nat):AH ls (w.drop k):=λc a=>h c (dJ a)
theorem Ml{p:A5}{w:W}{k:Nat}{c:UInt8}(a:w[k]? = some c)(q:Int):Cq p q (w.take (k+1))=CE p (Cq p q (w.take k)).toNat ((c.toNat:Int) - 97):=by
 rw [bF,a,HY];rfl
theorem IL{L:W->Bool}{t:AW}{w:W}{k:Nat}{c:UInt8}(a:w[k]? = some c)(q:Nat):runM L t q (w.take (k+1))=Cg L t (t.rows.getD (runM L t q (w.take k)) []++[c]):=by
 rw [bF,a,Oz];rfl
theorem Us{p:A5}(v:Ax p=true)(s:Sys)(q:A5)(al:Int)(kn:Bool)(w:W)(u:AH (AV p.al) w)(A:w.length<=1048576) :
 Pure Tryz.prog TB 144 [eT w,.o (.ip [.l (Fw p)]),.o (.ip (Ub kn p s q al))] (eB (LA p w)):=by
 have x:=Au v;refine eN Tryz.func144 rfl (by kernel_rfl) rfl ?_;intro Z d;(repeat first|refine tA rfl ?_ |refine aU rfl ?_ |refine Aa ?_);refine aB ?_;refine aL (α:={k:Nat // k<=w.length}) [0,1,2,8] [] rfl rfl (λ⟨k,j⟩=>[(5,eI .i64 (Cq p 0 (w.take k))),(9,eI .i64 k)]) (λ⟨k,j⟩=>[]) 0 (λ⟨k,j⟩=>w.length - k) (⟨0,by omega⟩) d rfl (by (simp[cX,zC,d]<;>rfl)) ?_;rintro⟨k,j⟩;(try dsimp only[cA,cB]);have z:=DM v (w.take k) 0 (Fo u k) (by omega);by_cases g:k < w.length
 ·obtain⟨c,n⟩:=get_some g
  have m:w[((k:Nat):Int).toNat]? = some c:=by simpa using n
  have e:=Gu (u c (bm n));have i:=Gf (TB:=TB) w k c m e;have ta:=Ih (a:=p) (q:=(Cq p 0 (w.take k)).toNat) (by omega)
  have el:((((c.toNat:Int) - 97).toNat:Nat):Int)=(c.toNat:Int) - 97:=by omega
  have ra:=Gp (h:=λl=>CE p (Cq p 0 (w.take k)).toNat l) e.1 (by omega);simp only [el] at ra;have f:=Ml (p:=p) n 0;(repeat first|refine s2 rfl λ_ t=>?_ |refine aU rfl ?_ |refine Aa ?_);(refine aC rfl ?_ ?_<;>rintro⟨⟩)
  ·(repeat' first|(refine sA rfl ?_ ?_;first|exact tI|omega) |(refine s4 rfl ‹_› rfl ?_ ?_;omega) |refine sP rfl (i) rfl ?_|(refine Av rfl ?_;refine gA rfl ?_;first| refine gS (λ_ _=>ET rfl ra) ?_) |refine aU rfl ?_ |refine Aa ?_ |refine rE (by kernel_rfl) ?_|(refine aC rfl ?_ ?_<;>rintro⟨⟩)|refine aK ?_|refine aE ?_|refine aB ?_|refine aR ⟨_,rfl,?_⟩)
   refine⟨⟨k+1,by omega⟩,by dsimp only;(omega),[],?_⟩;simp[cX,zC,d,f]
  ·exfalso;(simp only[oZ] at *;omega)
 ·obtain rfl:k=w.length:=by omega
  rw [bO] at *;obtain⟨b,hb⟩:=get_some (l:=p.ac) (k:=(Cq p 0 w).toNat) (by omega)
  have y:(p.ac.map Fa)[(Cq p 0 w).toNat]? = some (Fa b):=by simp [hb]
  have r:LA p w=b:=by unfold LA;simp [List.getD,hb]
  rw [r];(repeat first|refine s2 rfl λ_ t=>?_ |refine aU rfl ?_ |refine Aa ?_);(refine aC rfl ?_ ?_<;>rintro⟨⟩)
  ·exfalso;(simp only[oZ] at *;omega)
  ·(repeat' first|refine tA rfl ?_ |(refine s4 rfl ‹_› rfl ?_ ?_;omega) |refine aU rfl ?_ |refine Aa ?_|(refine aC rfl ?_ ?_<;>rintro⟨⟩)|refine aK ?_|refine aE ?_|refine aB ?_|refine aR ⟨_,rfl,?_⟩)
   rfl
def BJ(L:W->Bool)(t:AW)(w:W):Option W:=if Jl L t w=L w then none else splitAt L t (L w) 0 w
theorem Ib{L:W->Bool}{t:AW}{b:Bool}{w:W}{k q:Nat}{c:UInt8}(a:w[k]? = some c):splitAt L t b q (w.drop k)=if L (t.rows.getD (Cg L t (t.rows.getD q []++[c])) []++w.drop (k+1))≠b then some (w.drop (k+1)) else splitAt L t b (Cg L t (t.rows.getD q []++[c])) (w.drop (k+1)):=by
 rw [CU a,splitAt]
def Sp(t:AW)(w v:W):Prop:=∃r,(r=[]\/r∈t.rows)/\∃k:Nat,v=r++w.drop k
theorem Lz{c:C}{L:W->Bool}{ok:W->Prop}(J:GW Tryz.prog TB c L ok)(al:Int)(t:AW)(hf:Hp ok (AV al) t)(ht:Ep al 20012 t)(hal:BP al=true)(n:A7 L (AV al) t)(ho:AX L (AV al) t=none)(w:W)(I:∀v,Sp t w v->ok v)(A:AH (AV al) w)(hwl:w.length<=20000) :
 Pure Tryz.prog TB 202 [Ey al c,Cs t,eT w] (Ro (BJ L t w)):=by
 have N:=Db c J.BI;have R:=ht.rl;have V:=GH (TB:=TB) J al t hf ht ho;have K:=Jy hal n R;have P:=Fv (TB:=TB) (AG L al t) K
 have hnl:(AG L al t).nx.length=t.rows.length:=by simp [AG]
 have h0:0 < t.rows.length:=(am.1 n.r0).1;have F:=I w ⟨[],.inl rfl,0,rfl⟩
 have T:([Ey al c,Cs t].all E.BI && C.CI [])=true:=by simp [E.BI,C.CI,C.BI,J.BI]
 refine eN Tryz.func202 rfl (by kernel_rfl) rfl ?_;intro Z e;(repeat first|refine aU rfl ?_);(refine pW rfl ?_ rfl (by rfl);refine C5 rfl rfl ?_);(refine Av rfl ?_;refine BU (λ_ _=>CS rfl rfl rfl) rfl ?_);(repeat first|refine tA rfl ?_ |refine aU rfl ?_ |refine Aa ?_);(repeat first|refine tA rfl ?_|(refine Av rfl ?_;refine gA rfl ?_;first| refine gS (λ_ _=>Bd rfl rfl T V rfl) ?_) |refine aU rfl ?_ |refine Aa ?_);(repeat first|refine tA rfl ?_ |refine sP rfl (P) rfl ?_ |refine aU rfl ?_ |refine Aa ?_);refine aB ?_;refine aL (α:={k:Nat // k<=w.length}) [2,3,4,8,9,20] [0,1] rfl rfl (λ⟨k,y⟩=>[(10,eI .i64 (runM L t 0 (w.take k):Nat)),(21,eI .i64 k)]) (λ⟨k,y⟩=>[]) 2 (λ⟨k,y⟩=>w.length - k) (⟨0,by omega⟩) e rfl (by (simp[cX,zC,e,N]<;>rfl)) ?_;rintro⟨k,y⟩;(try dsimp only[cA,cB]);have r:=n.run (w.take k) 0 (Fo A k) h0;by_cases u:k < w.length
 ·obtain⟨o,d⟩:=get_some u
  have z:w[((k:Nat):Int).toNat]? = some o:=by simpa using d
  have m:=A o (bm d);have j:=Gu m;have x:=Gf (TB:=TB) w k o z j;have ta:=Ih (a:=AG L al t) (q:=(((runM L t 0 (w.take k):Nat):Int)).toNat) (by omega)
  have el:((((o.toNat:Int) - 97).toNat:Nat):Int)=(o.toNat:Int) - 97:=by omega
  have ra:=Gp (h:=λl=>CE (AG L al t) (((runM L t 0 (w.take k):Nat):Int)).toNat l) j.1 (by omega);simp only [el] at ra;have f:=HE (L:=L) (al:=al) (t:=t) (q:=runM L t 0 (w.take k)) r m;have p:=IL (L:=L) (t:=t) d 0;rw [<-p] at f;rw [bL,f] at ra;(repeat first|refine s2 rfl λ_ b=>?_ |refine aU rfl ?_ |refine Aa ?_);(refine aC rfl ?_ ?_<;>rintro⟨⟩)
  ·(repeat' first|(refine sA rfl ?_ ?_;first|exact tI|omega) |(refine s4 rfl ‹_› rfl ?_ ?_;omega) |refine sP rfl (x) rfl ?_|(refine Av rfl ?_;refine gA rfl ?_;first| refine gS (λ_ _=>ET rfl ra) ?_) |refine aU rfl ?_ |refine Aa ?_ |refine rE (by kernel_rfl) ?_|(refine aC rfl ?_ ?_<;>rintro⟨⟩)|refine aK ?_|refine aE ?_|refine aB ?_|refine aR ⟨_,rfl,?_⟩)
   refine⟨⟨k+1,by omega⟩,by dsimp only;(omega),[0,1],?_⟩;simp[cX,zC,e,N]
  ·exfalso;(simp only[oZ] at *;omega)
 ·obtain rfl : k=w.length:=by omega
  rw [bO] at *;(repeat first|refine s2 rfl λ_ b=>?_ |refine aU rfl ?_ |refine Aa ?_);(refine aC rfl ?_ ?_<;>rintro⟨⟩)
  ·exfalso;(simp only[oZ] at *;omega)
  ·refine aE ?_
   have hacx:((AG L al t).ac.map Fa)[(((runM L t 0 w:Nat):Int)).toNat]? = some (Fa (Jl L t w)):=by
    unfold Jl;simp [AG,List.getD,r]
   (repeat first|refine tA rfl ?_ |(refine s4 rfl ‹_› rfl ?_ ?_;omega) |refine s2 rfl λ_ b=>?_|(refine Av rfl ?_;refine gA rfl ?_;first| refine gS (λ_ _=>J.ask rfl rfl F) ?_) |refine aU rfl ?_ |refine Aa ?_);(refine aC rfl ?_ ?_<;>rintro⟨⟩)
   ·have hn:BJ L t w=none:=by unfold BJ;rw [if_pos (by simpa using b)]
    (repeat first|refine tA rfl ?_ |refine aU rfl ?_ |refine Aa ?_);refine aR ⟨_,rfl,?_⟩;rw [hn];rfl
   ·have Q:BJ L t w=splitAt L t (L w) 0 w:=by unfold BJ;rw [if_neg (by simpa using b)]
    rw [Q];refine aK ?_;(repeat first|refine tA rfl ?_ |refine aU rfl ?_ |refine Aa ?_);refine aB ?_;refine aL (α:={k:Nat // k<=w.length/\splitAt L t (L w) 0 w=splitAt L t (L w) (runM L t 0 (w.take k)) (w.drop k)}) [2,3,4,9,12,45] [0] rfl rfl (λ⟨k,y,i⟩=>[(10,eI .i64 (runM L t 0 (w.take k):Nat)),(46,eI .i64 k)]) (λ⟨k,y,i⟩=>[]) 1 (λ⟨k,y,i⟩=>w.length - k) (⟨0,by omega,rfl⟩) e rfl (by (simp[cX,zC,e,N]<;>rfl)) ?_;rintro⟨k,y,i⟩;(try dsimp only[cA,cB]);have r:=n.run (w.take k) 0 (Fo A k) h0;by_cases u:k < w.length
    ·obtain⟨o,d⟩:=get_some u
     have z:w[((k:Nat):Int).toNat]? = some o:=by simpa using d
     have m:=A o (bm d);have j:=Gu m;have x:=Gf (TB:=TB) w k o z j;have ta:=Ih (a:=AG L al t) (q:=(((runM L t 0 (w.take k):Nat):Int)).toNat) (by omega)
     have el:((((o.toNat:Int) - 97).toNat:Nat):Int)=(o.toNat:Int) - 97:=by omega
     have ra:=Gp (h:=λl=>CE (AG L al t) (((runM L t 0 (w.take k):Nat):Int)).toNat l) j.1 (by omega);simp only [el] at ra;have f:=HE (L:=L) (al:=al) (t:=t) (q:=runM L t 0 (w.take k)) r m;have p:=IL (L:=L) (t:=t) d 0;have B:=n.run (w.take (k+1)) 0 (Fo A (k+1)) h0;rw [Ib d,<-p] at i;rw [<-p] at f;rw [bL,f] at ra;generalize S:runM L t 0 (w.take (k+1))=q2 at *;obtain⟨M,s⟩:=get_some (l:=t.rows) (k:=q2) B;have hr2':=get_map (g:=CN) s
     have U:t.rows.getD q2 []=M:=by simp [List.getD,s]
     rw [U] at i;have hrb:=ht.onR M (bm s);have hdl:(w.drop (k+1)).length=w.length - (k+1):=List.length_drop;have G:=I (M++w.drop (k+1)) ⟨M,.inr (bm s),k+1,rfl⟩
     have H:(((k:Nat):Int)+1).toNat=k+1:=by omega
     (repeat first|refine s2 rfl λ_ b=>?_ |refine aU rfl ?_ |refine Aa ?_);(refine aC rfl ?_ ?_<;>rintro⟨⟩)
     ·refine aK ?_
      refine aS (aB ?_);(repeat first|(refine sA rfl ?_ ?_;first|exact tI|omega) |(refine s4 rfl ‹_› rfl ?_ ?_;omega) |refine sP rfl (x) rfl ?_|(refine Av rfl ?_;refine gA rfl ?_;first| refine gS (λ_ _=>ET rfl ra) ?_) |refine aU rfl ?_ |refine Aa ?_ |refine rE (by kernel_rfl) ?_);(repeat first| (refine Av rfl ?_;refine gA rfl ?_;first| refine gS (λ_ _=>Na rfl rfl (by omega) (by omega)) ?_));rw [H];(repeat first|(refine sA rfl ?_ ?_;first|exact tI|omega) |refine s2 rfl λ_ b=>?_|(refine Av rfl ?_;refine gA rfl ?_;first| refine gS (λ_ _=>J.ask rfl rfl G) ?_) |refine Aa ?_);(refine aC rfl ?_ ?_<;>rintro⟨⟩)
      ·rw [if_pos (by simpa using b)] at i
       (repeat first|(refine sA rfl ?_ ?_;first|exact tI|omega)|(refine Av rfl ?_;refine gA rfl ?_;first| refine gS (λ_ _=>Na rfl rfl (by omega) (by omega)) ?_) |refine aU rfl ?_ |refine Aa ?_);refine aR ⟨_,rfl,?_⟩;rw [H,i];rfl
      ·rw [if_neg (by simpa using b)] at i
       refine aK ?_;(repeat first|(refine sA rfl ?_ ?_;first|exact tI|omega) |refine aU rfl ?_ |refine Aa ?_);subst S;refine⟨⟨k+1,by omega,i⟩,by dsimp only;(omega),[0],?_⟩;simp[cX,zC,e,N]
     ·exfalso;(simp only[oZ] at *;omega)
    ·obtain rfl:k=w.length:=by omega
     rw [List.drop_length] at i;(repeat first|refine s2 rfl λ_ b=>?_ |refine aU rfl ?_ |refine Aa ?_);(refine aC rfl ?_ ?_<;>rintro⟨⟩)
     ·exfalso;(simp only[oZ] at *;omega)
     ·refine aE ?_
      (repeat first|refine tA rfl ?_ |refine aU rfl ?_ |refine Aa ?_);refine aR ⟨_,rfl,?_⟩;rw [i];rfl
theorem Ep.aX{ok:W->Prop}{al:Int}{t:AW}(ht:Ep al 20012 t)(f:GX ok al){w:W}(e:AH (AV al) w)(d:w.length<=20000):∀v,Sp t w v->ok v:=by
 rintro v ⟨r,b,k,rfl⟩
 have g:AH (AV al) r/\r.length<=20012:=by
  rcases b with rfl|b
  ·exact⟨λc a=>by simp at a,by simp⟩
  ·exact ht.onR r b
 refine f _ (λc a=>?_) (by simp;omega)
 rcases bE.1 a with a|a
 ·exact g.1 c a
 ·exact UJ e _ c a
end Go.Am
namespace Go.Am
open Go
set_option linter.unusedVariables false
theorem Gx{g:Gr}:∀ {u v:List Int} {a x:Int},reach g (u++v) a x↔∃y,reach g u a y/\reach g v y x
 | [],v,a,x=>⟨λh=>⟨a,rfl,h⟩,λ⟨y,c,b⟩=>by cases c;exact b⟩
 | l :: u,v,a,x=>by
  simp only [cQ,reach];constructor
  ·rintro⟨y,d,h⟩
   obtain⟨z,c,b⟩:=Gx.1 h;exact⟨z,⟨y,d,c⟩,b⟩
  ·rintro⟨z,⟨y,d,c⟩,b⟩
   exact⟨y,d,Gx.2 ⟨z,c,b⟩⟩
theorem WA(n:Nat)(f:Nat->Int)(h:∀i,i<=n->0<=f i/\f i < n):∃i j,i < j/\j<=n/\f i=f j:=by
 apply Classical.byContradiction;intro hno
 have g:((List.range (n+1)).map λi=>(f i).toNat).Nodup:=by
  unfold List.Nodup;rw [dF];refine List.pairwise_lt_range.imp_of_mem λ{a b} ha hb c k=>hno ⟨a,b,c,?_,?_⟩
  ·have:=cG.1 hb;omega
  ·have d:=h a (by have:=cG.1 ha;omega)
   have l:=h b (by have:=cG.1 hb;omega);omega
 have d:=Kx n _ g λx e=>by
  obtain⟨i,hi,rfl⟩:=bB.1 e;have:=h i (by have:=cG.1 hi;omega);omega
 simp at d;omega
theorem BE.short{g:Gr}(n:FM g){w:List Int}(h:BE g (some w)):w.length < g.N:=by
 obtain⟨e,⟨x,o,c⟩,r⟩:=h;apply Classical.byContradiction;intro m;have b:∀k,∃y,reach g (w.take k) g.s0 y/\reach g (w.drop k) y x:=λk=>Gx.1 (by rw [cJ];exact o);obtain⟨f,d⟩:=Classical.axiomOfChoice b;obtain⟨i,j,p,s,q⟩:=WA g.N f λi _=>Cw n (λl a=>e l (ce a)) n.s0 (d i).1;refine r (w.take i++w.drop j) (λl a=>?_) ⟨x,Gx.2 ⟨f i,(d i).1,q ▸ (d j).2⟩,c⟩ (.inl ?_)
 ·rcases bE.1 a with a|a
  ·exact e l (ce a)
  ·exact e l (dJ a)
 ·simp;omega
theorem W0{al:Int}:∀ {w:List Int},(∀l∈w,l∈Ac al)->AH (AV al) (Eo w):=λ{w} h c b=>by
 obtain⟨l,a,rfl⟩:=bB.1 b;exact JF (h l a)
theorem Ov{a b:A5}(ha:Ax a=true)(hb:Ax b=true){op:Bool->Bool->Bool}{s0:Int}:∀ {w:List Int} {i j x:Int},(∀l∈w,l∈Ac a.al)->(0<=i/\i < a.nx.length)->(0<=j/\j < b.nx.length)->
 (reach (JC a b s0 op) w (i*b.nx.length+j) x↔x=Cq a i (Eo w)*b.nx.length+Cq b j (Eo w))
 | [],i,j,x,_,_,_=>⟨λh=>h.symm,λh=>h.symm⟩
 | l :: w,i,j,x,g,hi,d=>by
  have f:=AK (g l (by simp))
  have s:(i*b.nx.length+j) / b.nx.length=i:=by
   rw [fc,Int.add_mul_ediv_right _ _ (by omega),Int.ediv_eq_zero_of_lt d.1 d.2,fb]
  have r:(i*b.nx.length+j) % b.nx.length=j:=by
   rw [fc,eH,d8 d.1 d.2]
  have p:=Gd ha (q:=i.toNat) (by omega) f.1 (by omega);have o:=Gd hb (q:=j.toNat) (by omega) f.1 (by omega);have k:=Ov ha hb (op:=op) (s0:=s0) (w:=w) (x:=x) (λm n=>g m (by simp [n])) p o
  have e:∀(c:A5) (q:Int),Cq c q (Eo (l::w))=Cq c (CE c q.toNat l) (Eo w):=λc q=>by
   show Cq c (CE c q.toNat (((lb l).toNat:Int) - 97)) (Eo w)=_
   rw [MO f.1 (by omega)]
  rw [e,e,<-k];simp only [reach,JC,s,r,eF,exists_eq_left]
theorem LO{a b:A5}{w:List Int}(h:Hb a b=some w):DG a b=true/\AH (AV a.al) (Eo w)/\LA a (Eo w)≠LA b (Eo w)/\(Eo w).length<=144:=by
 unfold Hb at h;by_cases e:DG a b=true
 ·rw [if_pos e] at h
  refine⟨e,?_⟩;unfold DG at e;simp only [bu,decide_eq_true_eq] at e;obtain⟨⟨ha,hb⟩,hal⟩:=e;have q:=Au ha;have p:=Au hb;rw [<-Of (op:=bne) ha hb (λx y=>by simp) (.inl rfl)] at h;have n:=SF (op:=bne) (s0:=0) ha hb ⟨by omega,by rw [<-c7];have:=Nat.mul_pos (show 0 < a.nx.length by omega) (show 0 < b.nx.length by omega);omega⟩;have hi:=FQ (JC a b 0 bne);rw [h] at hi;have v:=hi.short n;obtain⟨k,⟨x,l,f⟩,B⟩:=hi;have d:=W0 (al:=a.al) k;refine⟨d,λo=>?_,?_⟩
  ·have g:=(Ov ha hb (op:=bne) (s0:=0) (i:=0) (j:=0) (x:=x) k ⟨by omega,by omega⟩ ⟨by omega,by omega⟩).1 (by simpa [JC] using l)
   have m:=DM ha (Eo w) 0 d (by omega);have c:=DM hb (Eo w) 0 (al:=a.al) d (by omega)
   have t:x / b.nx.length=Cq a 0 (Eo w):=by
    rw [g,fc,Int.add_mul_ediv_right _ _ (by omega),Int.ediv_eq_zero_of_lt c.1 c.2,fb]
   have s:x % b.nx.length=Cq b 0 (Eo w):=by
    rw [g,fc,eH,d8 c.1 c.2]
   have r:(JC a b 0 bne).goal x=(LA a (Eo w) != LA b (Eo w)):=by simp only [JC,t,s,LA]
   rw [r,o] at f;simp at f
  ·have A:a.nx.length*b.nx.length<=12*12:=eE (by omega) (by omega)
   have z:(JC a b 0 bne).N=a.nx.length*b.nx.length:=rfl
   have u:(Eo w).length=w.length:=by simp [Eo]
   omega
 ·rw [if_neg e] at h;cases h
end Go.Am
namespace Go.Am
open Go Go.Proofs
set_option maxHeartbeats 1000000
set_option maxRecDepth 4000
attribute [local irreducible] AP BH Lex A4 Al Spec
variable {TB:Bg}
abbrev Zw(g:FuncId):D:=.v (.func (.func g) #[] #[])
theorem FX(a b:A5):Pure Tryz.prog TB 75 [A9 a,A9 b] (eB (DG a b)):=by
 refine eN Tryz.func75 rfl (by kernel_rfl) rfl ?_;intro Z d;(repeat' first |refine sN rfl ?_ |((first|refine sA rfl ?_ ?_|refine s4 rfl ‹_› rfl ?_ ?_);first|exact tI|omega|simp only[oZ] at *;omega) |refine s2 rfl λ_ c=>?_ |(refine sC rfl (Cj a) ?_;intro _ c)|(refine sC rfl (Cj b) ?_;intro _ c) |refine s3 rfl ?_ ?_<;>rintro rfl |refine aU rfl ?_ |refine Aa ?_ |refine rE (by kernel_rfl) ?_|(refine aC rfl ?_ ?_<;>rintro⟨⟩)|refine aK ?_|refine aE ?_|refine aB ?_|refine aR ⟨_,rfl,?_⟩)
 all_goals (show E.o _=E.o _;congr;unfold DG;grind)
theorem O8(x y:Bool):Pure Tryz.prog TB 156 [eB x,eB y] (eB (bne x y)):=by
 refine eN Tryz.func156 rfl (by kernel_rfl) rfl ?_;intro Z a;(repeat' first |refine sN rfl ?_ |((first|refine sA rfl ?_ ?_|refine s4 rfl ‹_› rfl ?_ ?_);first|exact tI|omega|simp only[oZ] at *;omega) |refine s2 rfl λ_ b=>?_ |refine s3 rfl ?_ ?_<;>rintro rfl |refine aU rfl ?_ |refine Aa ?_ |refine rE (by kernel_rfl) ?_|(refine aC rfl ?_ ?_<;>rintro⟨⟩)|refine aK ?_|refine aE ?_|refine aB ?_|refine aR ⟨_,rfl,?_⟩)
 all_goals (show E.o _=E.o _;congr;grind)
theorem Su{a b:A5}(ha:Ax a=true)(hb:Ax b=true){h:FuncId}{op:Bool->Bool->Bool}{s0:Int}(d:∀x y,Pure Tryz.prog TB h [eB x,eB y] (eB (op x y)))(node:Int)(n:0<=node/\node < (JC a b s0 op).N) :
 Pure Tryz.prog TB 223 [eI .i64 node,.o (.ip [Zw h]),.o (.ip (BR a)),.o (.ip [iD b.nx.length]),.o (.ip (BR b))] (eB ((JC a b s0 op).goal node)):=by
 have r:=Au ha;have q:=Au hb;have w:=Gb (a:=a) hb (x:=node) n
 have s:node < 1048576:=by
  have v:a.nx.length*b.nx.length<=12*12:=eE (by omega) (by omega);have u:(JC a b s0 op).N=a.nx.length*b.nx.length:=rfl;omega
 obtain⟨x,g⟩:=get_some (l:=a.ac) (k:=(node / b.nx.length).toNat) (by omega);obtain⟨y,f⟩:=get_some (l:=b.ac) (k:=(node % b.nx.length).toNat) (by omega)
 have m:(a.ac.map Fa)[(node / b.nx.length).toNat]? = some (Fa x):=by simp [g]
 have j:(b.ac.map Fa)[(node % b.nx.length).toNat]? = some (Fa y):=by simp [f]
 have p:(JC a b s0 op).goal node=op x y:=by simp [JC,List.getD,g,f]
 rw [p];have c:=d x y;refine eN Tryz.func223 rfl (by kernel_rfl) rfl ?_;intro Z i;(repeat first |refine sN rfl ?_ |((first|refine sA rfl ?_ ?_|refine s4 rfl ‹_› rfl ?_ ?_);first|exact tI|omega|simp only[oZ] at *;omega) |refine s2 rfl λ_ e=>?_ |refine s3 rfl ?_ ?_<;>rintro rfl |refine aU rfl ?_ |refine Aa ?_);refine rG (LU []) (by kernel_rfl) ?_;(repeat first |refine sN rfl ?_ |((first|refine sA rfl ?_ ?_|refine s4 rfl ‹_› rfl ?_ ?_);first|exact tI|omega|simp only[oZ] at *;omega) |refine s2 rfl λ_ e=>?_|(refine Av rfl ?_;refine gA rfl ?_;first|refine gS (λ_ _=>WE (t:=7) rfl (Bd rfl rfl rfl c rfl)) ?_) |refine s3 rfl ?_ ?_<;>rintro rfl |refine aU rfl ?_ |refine Aa ?_);refine aR ⟨_,rfl,rfl⟩
theorem Ss{a b:A5}(ha:Ax a=true)(hb:Ax b=true){op:Bool->Bool->Bool}{s0:Int}:Sf Tryz.prog TB 3 (JC a b s0 op) 222 [.ip [.l (Fw a)],.ip [iD b.nx.length],.ip [.l (Fw b)]]:=by
 intro node l outs k c j;have c:=AK (show l∈Ay a.al 6 from c);have o:=Au ha;have n:=Au hb;have v:=Gb (a:=a) hb (x:=node) k
 have s:node < 1048576:=by
  have u:a.nx.length*b.nx.length<=12*12:=eE (by omega) (by omega);have t:(JC a b s0 op).N=a.nx.length*b.nx.length:=rfl;omega
 have e:=Gd ha (q:=(node / b.nx.length).toNat) (by omega) c.1 (by omega);have m:=Gd hb (q:=(node % b.nx.length).toNat) (by omega) c.1 (by omega);have ta:=Ih (a:=a) (q:=(node / b.nx.length).toNat) (by omega);have tb:=Ih (a:=b) (q:=(node % b.nx.length).toNat) (by omega)
 have el:((l.toNat:Nat):Int)=l:=by omega
 have ra:=Gp (h:=λl=>CE a (node / b.nx.length).toNat l) c.1 (by omega);have rb:=Gp (h:=λl=>CE b (node % b.nx.length).toNat l) c.1 (by omega);simp only [el] at ra rb
 have p:0<=CE a (node / b.nx.length).toNat l*b.nx.length/\CE a (node / b.nx.length).toNat l*b.nx.length<=144:=⟨dg e.1 (by omega),by
  have:CE a (node / b.nx.length).toNat l*b.nx.length<=12*12:=eD (by omega) (by omega) (by omega) (by omega)
  omega⟩
 have i:(JC a b s0 op).succ node l=[CE a (node / b.nx.length).toNat l*b.nx.length+CE b (node % b.nx.length).toNat l]:=rfl;rw [i];refine eN Tryz.func222 rfl (by kernel_rfl) rfl ?_;intro Z g;(repeat first |refine sN rfl ?_ |((first|refine sA rfl ?_ ?_|refine s4 rfl ‹_› rfl ?_ ?_);first|exact tI|omega|simp only[oZ] at *;omega) |refine s2 rfl λ_ d=>?_ |refine s3 rfl ?_ ?_<;>rintro rfl |refine aU rfl ?_ |refine Aa ?_);refine rG (LU [21]) (by kernel_rfl) ?_;(repeat first |refine sN rfl ?_ |((first|refine sA rfl ?_ ?_|refine s4 rfl ‹_› rfl ?_ ?_);first|exact tI|omega|simp only[oZ] at *;omega) |refine s2 rfl λ_ d=>?_|(refine Av rfl ?_;refine gA rfl ?_;first|refine gS (λ_ _=>ET rfl ra) ?_|refine gS (λ_ _=>ET rfl rb) ?_) |refine s3 rfl ?_ ?_<;>rintro rfl |refine aU rfl ?_ |refine Aa ?_);(refine pW rfl ?_ rfl (by rfl);refine AT rfl rfl rfl (by first|(simp;done)|(simp;(first|omega|simp only[oZ] at *;omega))) rfl (by intro r f;simp at f;subst f;rfl) (by rfl) (bn rfl) (by simp;omega) ?_);(repeat first |refine sN rfl ?_ |((first|refine sA rfl ?_ ?_|refine s4 rfl ‹_› rfl ?_ ?_);first|exact tI|omega|simp only[oZ] at *;omega) |refine s2 rfl λ_ d=>?_ |refine s3 rfl ?_ ?_<;>rintro rfl |refine aU rfl ?_ |refine Aa ?_);refine aR ⟨_,rfl,by simp,rfl,by simp [kill]⟩
theorem J6{a b:A5}(ha:Ax a=true)(hb:Ax b=true){p:FuncId}{op:Bool->Bool->Bool}(h:∀x y,Pure Tryz.prog TB p [eB x,eB y] (eB (op x y)))(i j:Int)(hi:0<=i/\i < a.nx.length)(J:0<=j/\j < b.nx.length) :
 Pure Tryz.prog TB 155 [A9 a,A9 b,eI .i64 i,eI .i64 j,.o (.d (Zw p))] (Jn (FP (JC a b (i*b.nx.length+j) op))):=by
 have B:=Au ha;have A:=Au hb;have f:=Fv (TB:=TB) a ha;have e:=Fv (TB:=TB) b hb
 have H:0<=i*(b.nx.length:Int)/\(i+1)*(b.nx.length:Int)<=a.nx.length*b.nx.length:=⟨dg hi.1 (by omega),cP (by omega) (by omega)⟩
 have u:(i+1)*(b.nx.length:Int)=i*b.nx.length+b.nx.length:=by rw [dQ];omega
 have K:a.nx.length*b.nx.length<=144:=eE (show a.nx.length<=12 by omega) (show b.nx.length<=12 by omega)
 have F:((a.nx.length:Int)*b.nx.length)<=144:=by rw [<-c7];omega
 have g:0<=i*(b.nx.length:Int)+j/\i*(b.nx.length:Int)+j < a.nx.length*b.nx.length:=by omega
 have z:=SF (op:=op) (s0:=i*b.nx.length+j) ha hb g
 have w:(Fw a).length=a.nx.length:=by simp [Fw,Bc]
 have v:(Fw b).length=b.nx.length:=by simp [Fw,Bc]
 have m:Pure Tryz.prog TB 135 [eI .i64 ((a.nx.length:Int)*b.nx.length),Ag [i*b.nx.length+j],Ag (Ac a.al),.o (.fn 222 [.ip [.l (Fw a)],.ip [iD b.nx.length],.ip [.l (Fw b)]]),.o (.fn 223 [.ip [Zw p],.ip (BR a),.ip [iD b.nx.length],.ip (BR b)])]
  (Jn (FP (JC a b (i*b.nx.length+j) op))):=by
  rw [<-c7]
  exact MH z (show a.nx.length*b.nx.length<=1048576 by omega) (λx t=>by have:=AK t;omega) (AZ _ 6) (λnode l q I=>by
   have G:1<=a.nx.length*b.nx.length:=Nat.mul_pos (show 0 < a.nx.length by omega) (show 0 < b.nx.length by omega)
   exact G) (Ss ha hb) (λn q=>Su ha hb h n q) rfl (λr=>rfl) (λr=>rfl) (FQ _)
 refine eN Tryz.func155 rfl (by kernel_rfl) rfl ?_;intro Z s;(repeat first |refine sN rfl ?_ |((first|refine sA rfl ?_ ?_|refine s4 rfl ‹_› rfl ?_ ?_);first|exact tI|omega|simp only[oZ] at *;omega) |refine s2 rfl λ_ c=>?_ |refine s3 rfl ?_ ?_<;>rintro rfl |refine aU rfl ?_ |refine Aa ?_);refine R.WQ [(0,2),(1,2),(2,2),(3,2),(4,3),(5,3),(6,5),(7,5)] mixed (by kernel_rfl) rfl (by kernel_rfl) ?_;(repeat ((refine R.Av rfl ?_;first |(refine R.yQ (md:=false) rfl rfl rfl ?_ ?_;first|exact tI|omega|simp only[oZ] at *;omega) |(refine R.yB rfl rfl rfl ?_;intro _ c) |refine R.yS rfl rfl rfl ?_ |refine R.yP rfl rfl rfl rfl ?_ |refine R.yA rfl rfl rfl rfl ?_ |refine R.yW rfl rfl rfl ?_|refine R.BU (λ_ _ _=>Bd rfl rfl rfl (f) rfl) rfl rfl ?_|refine R.BU (λ_ _ _=>Bd rfl rfl rfl (e) rfl) rfl rfl ?_ |refine R.X6 rfl rfl ?_ |(refine R.yG rfl rfl ?_ ?_<;>intro hb<;>subst hb) )));refine R.Ws ?_;refine aS ?_;refine Al.HC [0,1] [2,3,5,6,9] rfl [(12,.o (.ip [.l (Fw a)])),(13,.o (.ip [.l (Fw b)]))] ⟨⟨_,rfl,.o (.ptr (by simp) rfl rfl rfl)⟩,⟨_,rfl,.o (.ptr (by simp) rfl rfl rfl)⟩,trivial⟩ ?_;(try dsimp only[cA,cB]);refine ZM (by kernel_rfl) ?_;(repeat first |refine sN rfl ?_ |((first|refine sA rfl ?_ ?_|refine s4 rfl ‹_› rfl ?_ ?_);first|exact tI|omega|simp only[oZ] at *;omega) |refine s2 rfl λ_ c=>?_ |refine s3 rfl ?_ ?_<;>rintro rfl);refine Aa ?_;simp only [eO];refine aS ?_;refine Al.HC [2] [2,3,5,6,9,12,13] rfl [(14,.o (.ip [iD b.nx.length]))] ⟨⟨_,rfl,.o (.ptr (by simp) rfl rfl rfl)⟩,trivial⟩ ?_;(try dsimp only[cA,cB]);(repeat first |refine sN rfl ?_ |((first|refine sA rfl ?_ ?_|refine s4 rfl ‹_› rfl ?_ ?_);first|exact tI|omega|simp only[oZ] at *;omega) |refine s2 rfl λ_ c=>?_ |refine s3 rfl ?_ ?_<;>rintro rfl |refine aU rfl ?_ |refine Aa ?_);refine rG (LU []) (by kernel_rfl) ?_;have k:=CA (TB:=TB) a.al;(repeat first |refine sN rfl ?_ |((first|refine sA rfl ?_ ?_|refine s4 rfl ‹_› rfl ?_ ?_);first|exact tI|omega|simp only[oZ] at *;omega) |refine s2 rfl λ_ c=>?_ |refine s3 rfl ?_ ?_<;>rintro rfl |refine aU rfl ?_ |refine Aa ?_);simp only [eO];(repeat first |refine sN rfl ?_ |((first|refine sA rfl ?_ ?_|refine s4 rfl ‹_› rfl ?_ ?_);first|exact tI|omega|simp only[oZ] at *;omega) |refine s2 rfl λ_ c=>?_ |refine sP rfl (k) rfl ?_|refine sP rfl (m) rfl ?_ |refine s3 rfl ?_ ?_<;>rintro rfl |refine aU rfl ?_ |refine Aa ?_);refine aR ⟨_,rfl,rfl⟩
theorem FA(a b:A5):Pure Tryz.prog TB 74 [A9 a,A9 b] (Jn (Hb a b)):=by
 by_cases f:DG a b=true
 ·have c:=f
  unfold DG at c;simp only [bu,decide_eq_true_eq] at c;obtain⟨⟨ha,hb⟩,_⟩:=c;have k:=Au ha;have j:=Au hb
  have h:Hb a b=FP (JC a b 0 bne):=by unfold Hb;rw [if_pos f,Of ha hb (λx y=>by simp) (.inl rfl)]
  have i:=J6 (TB:=TB) ha hb O8 0 0 ⟨by omega,by omega⟩ ⟨by omega,by omega⟩
  have g:Pure Tryz.prog TB 155 [A9 a,A9 b,eI .i64 0,eI .i64 0,.o (.fn 156 [])] (Jn (FP (JC a b 0 bne))):=by
   have:=Spec.Zq (l:=[A9 a,A9 b,eI .i64 0,eI .i64 0]) (m:=[]) i;rw [Int.zero_mul,fb] at this;exact this
  rw [h];refine eN Tryz.func74 rfl (by kernel_rfl) rfl ?_;intro Z e;(repeat' first |refine sN rfl ?_ |((first|refine sA rfl ?_ ?_|refine s4 rfl ‹_› rfl ?_ ?_);first|exact tI|omega|simp only[oZ] at *;omega) |refine s2 rfl λ_ d=>?_ |(refine sC rfl (FX a b) ?_;intro _ d)|refine sP rfl (g) rfl ?_ |refine s3 rfl ?_ ?_<;>rintro rfl |refine aU rfl ?_ |refine Aa ?_ |refine rE (by kernel_rfl) ?_|(refine aC rfl ?_ ?_<;>rintro⟨⟩)|refine aK ?_|refine aE ?_|refine aB ?_|refine aR ⟨_,rfl,?_⟩)
  all_goals first
   | rfl
   | (exfalso;grind;done)
 ·have h:Hb a b=none:=by unfold Hb;rw [if_neg f]
  rw [h];refine eN Tryz.func74 rfl (by kernel_rfl) rfl ?_;intro Z e;(repeat' first |refine sN rfl ?_ |((first|refine sA rfl ?_ ?_|refine s4 rfl ‹_› rfl ?_ ?_);first|exact tI|omega|simp only[oZ] at *;omega) |refine s2 rfl λ_ d=>?_ |(refine sC rfl (FX a b) ?_;intro _ d) |refine s3 rfl ?_ ?_<;>rintro rfl |refine aU rfl ?_ |refine Aa ?_ |refine rE (by kernel_rfl) ?_|(refine aC rfl ?_ ?_<;>rintro⟨⟩)|refine aK ?_|refine aE ?_|refine aB ?_|refine aR ⟨_,rfl,?_⟩)
  all_goals first
   | rfl
   | (exfalso;grind;done)
def GS(L:W->Bool)(ls:List UInt8)(t:AW)(w:W):Option AW:=(BJ L t w).bind λv=>(Ew t v).bind λu=>A2 L ls 13 u
theorem Je{L:W->Bool}{t:AW}{b:Bool}:∀ {w:W} {q:Nat} {v:W},splitAt L t b q w=some v->∃p,p≠[]/\w=p++v
 | [],q,v,h=>by simp [splitAt] at h
 | c::w,q,v,h=>by
  unfold splitAt at h;split at h
  ·injection h with h;subst h;exact⟨[c],by simp,rfl⟩
  ·obtain⟨p,_,a⟩:=Je h;exact⟨c::p,by simp,by rw [a];rfl⟩
theorem Ho{L:W->Bool}{t:AW}{w v:W}(h:BJ L t w=some v):∃p,p≠[]/\w=p++v:=by
 unfold BJ at h;split at h
 ·cases h
 ·exact Je h
theorem Ep.mono{al:Int}{b b':Nat}{t:AW}(h:Ep al b t)(hb:b<=b'):Ep al b' t:=⟨λw a=>⟨(h.onR w a).1,bT (h.onR w a).2 hb⟩,h.onC,h.rl,h.cl⟩
theorem Qe{al:Int}{b:Nat}{t u:AW}{v:W}(h:Ep al b t)(c:AH (AV al) v)(f:v.length<=20000)(ha:Ew t v=some u):Ep al b u:=by
 unfold Ew at ha;split at ha
 ·cases ha
 ·rename_i d
  injection ha with ha
  subst ha;refine⟨h.onR,λx a=>?_,h.rl,?_⟩
  ·rcases bE.1 a with a|a
   ·exact h.onC x a
   ·simp at a;subst a;exact⟨c,f⟩
  ·have:=h.cl
   have g:t.cols.length≠20:=λe=>d (.inl e);simp;omega
def XA(L:W->Bool)(ls:List UInt8)(t:AW)(w v:W):Prop:=Sq ls t v\/Sp t w v\/∃x,BJ L t w=some x/\∃u,Ew t x=some u/\∃y∈Fz L ls 13 u,Sq ls y v
theorem Lu{c:C}{L:W->Bool}{ok:W->Prop}(k:GW Tryz.prog TB c L ok)(al:Int)(t:AW)(ht:Ep al 20000 t)(hal:BP al=true)(B:A7 L (AV al) t)(K:AX L (AV al) t=none)(w:W)(A:∀v,XA L (AV al) t w v->ok v)(F:AH (AV al) w)(m:w.length<=20000) :
 Pure Tryz.prog TB 126 [Ey al c,Cs t,eT w] (Fy (GS L (AV al) t w)):=by
 have M:=Db c k.BI
 have b:([Ey al c,Cs t,eT w].all E.BI && C.CI [])=true:=by simp [E.BI,C.CI,C.BI,k.BI]
 have e:=Lz (TB:=TB) k al t (λv q=>A v (.inl q)) (ht.mono (by omega)) hal B K w (λv q=>A v (.inr (.inl q))) F m;have J:=ht.rl;have G:=ht.cl
 rcases j:BJ L t w with _|v
 ·have s:GS L (AV al) t w=none:=by unfold GS;rw [j];rfl
  rw [s];rw [j] at e;refine AR.ED (AR.ofM 2 (bJ _) Tryz.func126 rfl rfl (by kernel_rfl) (bn rfl) ?_);intro Z i;(repeat first|refine aU rfl ?_);(refine pW rfl ?_ rfl (by rfl);refine C5 rfl rfl ?_);(refine pW rfl ?_ rfl (by rfl);refine C5 rfl rfl ?_);(repeat first|refine tA rfl ?_ |refine aU rfl ?_ |refine Aa ?_);(repeat first|refine tA rfl ?_ |refine s2 rfl λ_ a=>?_|(refine Av rfl ?_;refine gA rfl ?_;first| refine gS (λ_ _=>Bd rfl rfl b e rfl) ?_) |refine aU rfl ?_ |refine Aa ?_)
  ((refine aC rfl ?_ ?_<;>rintro⟨⟩);all_goals try (simp at a;done))
  (repeat first|refine tA rfl ?_|(refine Av rfl ?_;refine gA rfl ?_;first| refine gS (λ_ _=>AI rfl rfl (by rfl) (by rfl)) ?_) |refine aU rfl ?_ |refine Aa ?_);refine Al.settle [(6,.o (.ip [.l [],.l []])),(7,eB false)] ⟨⟨_,rfl,.o (.box rfl (.cons .d (.cons .d .nil)))⟩,⟨_,rfl,.o .d⟩,trivial⟩ ?_;refine aR ⟨_,rfl,rfl⟩
 ·have r:=Ho j
  have n:AH (AV al) v/\v.length<=20000:=by
   obtain⟨p,_,rfl⟩:=r;exact⟨λc k=>F c (by simp [k]),by simp at m;omega⟩
  have f:=MB (TB:=TB) t v (by omega) (by omega);rw [j] at e
  rcases ha:Ew t v with _|u
  ·have s:GS L (AV al) t w=none:=by unfold GS;rw [j];simp [ha]
   rw [s];rw [ha] at f;refine AR.ED (AR.ofM 2 (bJ _) Tryz.func126 rfl rfl (by kernel_rfl) (bn rfl) ?_);intro Z i;(repeat first|refine aU rfl ?_);(refine pW rfl ?_ rfl (by rfl);refine C5 rfl rfl ?_);(refine pW rfl ?_ rfl (by rfl);refine C5 rfl rfl ?_);(repeat first|refine tA rfl ?_ |refine aU rfl ?_ |refine Aa ?_);(repeat first|refine tA rfl ?_ |refine s2 rfl λ_ a=>?_|(refine Av rfl ?_;refine gA rfl ?_;first| refine gS (λ_ _=>Bd rfl rfl b e rfl) ?_) |refine aU rfl ?_ |refine Aa ?_)
   ((refine aC rfl ?_ ?_<;>rintro⟨⟩);all_goals try (simp at a;done))
   refine aK ?_;(repeat first|refine tA rfl ?_ |refine s2 rfl λ_ a=>?_ |refine sP rfl (f) rfl ?_ |refine aU rfl ?_ |refine Aa ?_)
   ((refine aC rfl ?_ ?_<;>rintro⟨⟩);all_goals try (simp at a;done))
   (repeat first|refine tA rfl ?_|(refine Av rfl ?_;refine gA rfl ?_;first| refine gS (λ_ _=>AI rfl rfl (by rfl) (by rfl)) ?_) |refine aU rfl ?_ |refine Aa ?_);refine Al.settle [(6,.o (.ip [.l [],.l []])),(7,eB false)] ⟨⟨_,rfl,.o (.box rfl (.cons .d (.cons .d .nil)))⟩,⟨_,rfl,.o .d⟩,trivial⟩ ?_;refine aR ⟨_,rfl,rfl⟩
  ·have I:=Qe ht n.1 n.2 ha
   have g:=FV (TB:=TB) k al u (λy H v q=>A v (.inr (.inr ⟨_,j,_,ha,y,H,q⟩))) I
   have h:([Ey al c,Cs u].all E.BI && C.CI [])=true:=by simp [E.BI,C.CI,C.BI,k.BI]
   have s:GS L (AV al) t w=A2 L (AV al) 13 u:=by unfold GS;rw [j];simp [ha]
   rw [s];rw [ha] at f
   rcases z:A2 L (AV al) 13 u with _|x
   ·rw [z] at g
    refine AR.ED (AR.ofM 2 (bJ _) Tryz.func126 rfl rfl (by kernel_rfl) (bn rfl) ?_);intro Z i;(repeat first|refine aU rfl ?_);(refine pW rfl ?_ rfl (by rfl);refine C5 rfl rfl ?_);(refine pW rfl ?_ rfl (by rfl);refine C5 rfl rfl ?_);(repeat first|refine tA rfl ?_ |refine aU rfl ?_ |refine Aa ?_);(repeat first|refine tA rfl ?_ |refine s2 rfl λ_ a=>?_|(refine Av rfl ?_;refine gA rfl ?_;first| refine gS (λ_ _=>Bd rfl rfl b e rfl) ?_) |refine aU rfl ?_ |refine Aa ?_)
    ((refine aC rfl ?_ ?_<;>rintro⟨⟩);all_goals try (simp at a;done))
    refine aK ?_;(repeat first|refine tA rfl ?_ |refine s2 rfl λ_ a=>?_ |refine sP rfl (f) rfl ?_ |refine aU rfl ?_ |refine Aa ?_)
    ((refine aC rfl ?_ ?_<;>rintro⟨⟩);all_goals try (simp at a;done))
    refine aK ?_;(repeat first|refine tA rfl ?_|(refine Av rfl ?_;refine gA rfl ?_;first| refine gS (λ_ _=>Bd rfl rfl h g rfl) ?_) |refine aU rfl ?_ |refine Aa ?_);refine Al.settle [(6,.o (.ip [.l [],.l []])),(7,eB false)] ⟨⟨_,rfl,.o (.box rfl (.cons .d (.cons .d .nil)))⟩,⟨_,rfl,.o .d⟩,trivial⟩ ?_;refine aR ⟨_,rfl,rfl⟩
   ·rw [z] at g
    refine AR.ED (AR.ofM 2 (bJ _) Tryz.func126 rfl rfl (by kernel_rfl) (bn rfl) ?_);intro Z i;(repeat first|refine aU rfl ?_);(refine pW rfl ?_ rfl (by rfl);refine C5 rfl rfl ?_);(refine pW rfl ?_ rfl (by rfl);refine C5 rfl rfl ?_);(repeat first|refine tA rfl ?_ |refine aU rfl ?_ |refine Aa ?_);(repeat first|refine tA rfl ?_ |refine s2 rfl λ_ a=>?_|(refine Av rfl ?_;refine gA rfl ?_;first| refine gS (λ_ _=>Bd rfl rfl b e rfl) ?_) |refine aU rfl ?_ |refine Aa ?_)
    ((refine aC rfl ?_ ?_<;>rintro⟨⟩);all_goals try (simp at a;done))
    refine aK ?_;(repeat first|refine tA rfl ?_ |refine s2 rfl λ_ a=>?_ |refine sP rfl (f) rfl ?_ |refine aU rfl ?_ |refine Aa ?_)
    ((refine aC rfl ?_ ?_<;>rintro⟨⟩);all_goals try (simp at a;done))
    refine aK ?_;(repeat first|refine tA rfl ?_|(refine Av rfl ?_;refine gA rfl ?_;first| refine gS (λ_ _=>Bd rfl rfl h g rfl) ?_) |refine aU rfl ?_ |refine Aa ?_);refine Al.settle [(6,.o (.ip [A6 x.rows,A6 x.cols])),(7,eB true)] ⟨⟨_,rfl,.o (.box rfl (.cons .d (.cons .d .nil)))⟩,⟨_,rfl,.o .d⟩,trivial⟩ ?_;refine aR ⟨_,rfl,rfl⟩
theorem HH{c:C}{L:W->Bool}{ok:W->Prop}(g:GW Tryz.prog TB c L ok)(al:Int)(t:AW)(e:GX ok al)(ht:Ep al 20000 t)(hal:BP al=true)(f:A7 L (AV al) t)(k:AX L (AV al) t=none)(w:W)(d:AH (AV al) w)(a:w.length<=20000) :
 Pure Tryz.prog TB 126 [Ey al c,Cs t,eT w] (Fy (GS L (AV al) t w)):=by
 refine Lu g al t ht hal f k w (λv b=>?_) d a
 rcases b with b|b|⟨x,i,u,j,y,h,b⟩
 ·exact ht.on e (by omega) v b
 ·exact(ht.mono (by omega)).aX e d a v b
 ·obtain⟨p,_,rfl⟩:=Ho i
  exact(Qe ht (λc g=>d c (by simp [g])) (by simp at a;omega) j).ax e (by omega) y h v b
end Go.Am
namespace Go.Am
open Go
set_option linter.unusedVariables false
noncomputable def GU(p:A5)(t:AW):Option W:=(Hb (AG (LA p) p.al t) p).map Eo
theorem IT(p:A5):Wr (LA p) (AV p.al) (GU p):=⟨λt w h d=>by
 unfold GU at h;obtain⟨v,b,rfl⟩:=br.1 h;obtain⟨_,a,e,_⟩:=LO b
 exact⟨a,λc=>e (by rw [Ju d a,c])⟩⟩
theorem E8{p:A5}{t:AW}{w:W}(h:GU p t=some w):w.length<=144:=by
 unfold GU at h;obtain⟨v,a,rfl⟩:=br.1 h;exact(LO a).2.2.2
theorem Mq(L:W->Bool)(ls:List UInt8):TOk L ls Bl:=by
 refine⟨rfl,rfl,λi w hi d=>?_,λw a=>?_,λw a=>?_,by simp [AD,Bl],by simp [Bl]⟩
 ·have:=(am.1 hi).1
  simp [Bl] at this;omega
 ·simp [Bl] at a;subst a;exact λc b=>(by cases b)
 ·simp [Bl] at a;subst a;exact λc b=>(by cases b)
noncomputable def Nn(p:A5):AW:=(A2 (LA p) (AV p.al) 13 Bl).getD Bl
theorem GA{p:A5}(a:Ax p=true):A2 (LA p) (AV p.al) 13 Bl=some (Nn p)/\A7 (LA p) (AV p.al) (Nn p)/\(Nn p).cols=[[]]:=by
 have c:=Au a;obtain⟨t',b,f,e,g,d,_⟩:=Iq (Rq a p.al) c.2.2.1 13 Bl (Mq _ _) (by simp [Bl])
 have:Nn p=t':=by unfold Nn;rw [b];rfl
 rw [this];exact⟨b,f.closed e,d⟩
noncomputable def AO(p:A5)(k:Nat):AW:=DB (LA p) (AV p.al) (GU p) (Nn p) k
theorem UD{p:A5}(a:Ax p=true):∃k,k < 12/\GU p (AO p k)=none/\∀j,j < k->GU p (AO p j)≠none:=
 Pq (Rq a p.al) (Au a).2.2.1 (IT p) (GA a).2.1 (by rw [(GA a).2.2];rfl)
open Classical in
noncomputable def AJ(p:A5):Nat:=if h:∃k,k < 12/\GU p (AO p k)=none/\∀j,j < k->GU p (AO p j)≠none then Classical.choose h else 0
theorem Ci{p:A5}(a:Ax p=true):AJ p < 12/\GU p (AO p (AJ p))=none/\∀j,j < AJ p->GU p (AO p j)≠none:=by
 have h:=UD a;unfold AJ;rw [dif_pos h];exact Classical.choose_spec h
theorem TOk.short{L:W->Bool}{ls:List UInt8}{t:AW}(h:TOk L ls t):∀(i:Nat) w,t.rows[i]? = some w->w.length<=i:=by
 intro i
 induction i using Nat.strongRecOn with
 | _ i c=>
  intro w a
  rcases cD i with b|b
  ·subst b
   rw [h.r0] at a
   injection a with a
   subst a;simp
  ·obtain⟨f,j,d,e⟩:=h.pre i w a b
   have:=c j d _ e;simp at this;omega
def VK(n:Nat)(t:AW):Prop:=∀c∈t.cols,c.length<=n
theorem DO{p:A5}(b:Ax p=true):∀k,k<=AJ p->A7 (LA p) (AV p.al) (AO p k)/\k+1<=(AO p k).rows.length/\(AO p k).rows.length<=12/\(AO p k).cols.length=k+1/\VK 144 (AO p k)
 | 0, j=>by
  have d:=GA b;have t:=d.2.1.XK (Rq b p.al);have s:=Au b;have u:=(am.1 d.2.1.r0).1
  exact⟨d.2.1,u,by show (Nn p).rows.length<=12;omega,by show (Nn p).cols.length=1;rw [d.2.2];rfl,λc a=>by
   have a:c∈(Nn p).cols:=a;rw [d.2.2] at a
   simp at a;subst a;simp⟩
 | k + 1,j=>by
  obtain⟨d,t,s,r,o⟩:=DO b k (by omega);have n:=(Ci b).2.2 k (by omega)
  have e:AO p (k+1)=match GU p (AO p k) with
   | none=>AO p k
   | some w=>(Og (LA p) (AV p.al) (AO p k) w).getD (AO p k):=rfl
  cases g:GU p (AO p k) with
  | none=>exact absurd g n
  | some w=>
   obtain⟨m,l⟩:=(IT p).on _ w g d;have h:=Au b;obtain⟨v,t',f⟩:=Am.MX (Rq b p.al) h.2.2.1 d m l;rw [g] at e;simp only [f.next,dc] at e;rw [e];refine⟨f.ok,by have:=f.more;omega,by have:=f.ok.XK (Rq b p.al);omega,by rw [f.cols];simp [r],λc a=>?_⟩;rw [f.cols] at a
   rcases bE.1 a with a|a
   ·exact o c a
   ·simp at a
    subst a;have:=E8 g;obtain⟨q,_,i⟩:=f.suf;rw [i] at this;simp at this;omega
theorem Gz{p:A5}(a:Ax p=true){k:Nat}(f:k < AJ p):∃w v,GU p (AO p k)=some w/\Next (LA p) (AV p.al) (AO p k) w v (AO p (k+1)):=by
 have d:=(DO a k (by omega)).1;have i:=(Ci a).2.2 k f
 have e:AO p (k+1)=match GU p (AO p k) with
  | none=>AO p k
  | some w=>(Og (LA p) (AV p.al) (AO p k) w).getD (AO p k):=rfl
 cases b:GU p (AO p k) with
 | none=>exact absurd b i
 | some w=>
  obtain⟨h,g⟩:=(IT p).on _ w b d;obtain⟨v,t',c⟩:=Am.MX (Rq a p.al) (Au a).2.2.1 d h g;rw [b] at e;simp only [c.next,dc] at e;rw [e];exact⟨w,v,rfl,c⟩
end Go.Am
namespace Go.Am
open Go Go.Proofs
set_option maxHeartbeats 1000000
set_option maxRecDepth 4000
attribute [local irreducible] AP BH Lex A4 Al Spec
variable {TB:Bg}
abbrev Zg(kn:Bool)(p:A5)(s:Sys)(q:A5)(al:Int):E:=.a ((Ub kn p s q al).map .d)
theorem FB(p:A5)(s:Sys)(q:A5)(al:Int):Pure Tryz.prog TB 143 [Zg true p s q al] (eI .i64 (if Ax p then p.al else -1)):=by
 refine eN Tryz.func143 rfl (by kernel_rfl) rfl ?_;intro Z b;(repeat' first|refine tA rfl ?_ |refine s2 rfl λ_ a=>?_ |(refine sC rfl (Cj p) ?_;intro _ a) |refine s3 rfl ?_ ?_<;>rintro rfl |refine aU rfl ?_ |refine Aa ?_|(refine aC rfl ?_ ?_<;>rintro⟨⟩)|refine aK ?_|refine aE ?_|refine aB ?_|refine aR ⟨_,rfl,?_⟩)
 all_goals first
  | (show E.o _=E.o _;congr;grind)
  | (exfalso;simp at *;done)
abbrev VE(kn:Bool)(p:A5)(s:Sys)(q:A5)(al:Int):C:=.fn 144 [.ip [.l (Fw p)],.ip (Ub kn p s q al)]
theorem So{p:A5}(b:Ax p=true)(s:Sys)(q:A5)(al:Int)(kn:Bool):GW Tryz.prog TB (VE kn p s q al) (LA p) (λw=>AH (AV p.al) w/\w.length<=1048576):=
 .of rfl λw a=>Us b s q al kn w a.1 a.2
theorem J7(p:A5):GX (λw=>AH (AV p.al) w/\w.length<=1048576) p.al:=λw a b=>⟨a,by omega⟩
theorem GR{p:A5}(c:Ax p=true)(s:Sys)(q:A5)(al:Int):Pure Tryz.prog TB 62 [Zg true p s q al] (.t [(true,[.d (iD p.al),VE true p s q al]),(false,[.d (bD true)])]):=by
 have e:=FB (TB:=TB) p s q al;rw [if_pos c] at e;have g:=Au c;have ha:=g.1;unfold BP at ha;simp only [decide_eq_true_eq] at ha;have b:=Fv (TB:=TB) p c;refine eG Tryz.func62 rfl (by kernel_rfl) rfl ?_;intro Z f;(repeat first|refine tA rfl ?_ |refine sP rfl (e) rfl ?_ |refine aU rfl ?_ |refine Aa ?_);refine aB ?_;(repeat first|refine tA rfl ?_ |refine s2 rfl λ_ a=>?_ |refine aU rfl ?_ |refine Aa ?_)
 ((refine aC rfl ?_ ?_<;>rintro⟨⟩);all_goals try (simp at a;done))
 ·exfalso;(simp only[oZ] at *;omega)
 ·(repeat first|refine tA rfl ?_ |refine aU rfl ?_ |refine Aa ?_)
  ((refine aC rfl ?_ ?_<;>rintro⟨⟩);all_goals try (simp at a;done))
  refine aS ?_;refine ZM (by kernel_rfl) ?_;(repeat first|refine tA rfl ?_ |refine sP rfl (b) rfl ?_);refine Aa ?_;refine aS ?_;refine Al.HC [1] [1,2,3,4] rfl [(5,.o (.ip [.l (Fw p)]))] ⟨⟨_,rfl,.o (.ptr (by simp) rfl rfl rfl)⟩,trivial⟩ ?_;(try dsimp only[cA,cB]);(repeat first|refine tA rfl ?_|(refine Av rfl ?_;refine gA rfl ?_;first| refine gS (λ_ _=>AI rfl rfl (by rfl) (by rfl)) ?_) |refine aU rfl ?_ |refine Aa ?_);refine aR ⟨_,rfl,rfl⟩
theorem GQ{p:A5}(e:Ax p=false)(s:Sys)(q:A5)(al:Int):Pure Tryz.prog TB 62 [Zg true p s q al] (.t [(true,[.d (iD 0),.d (.v .nilFunc)]),(false,[.d (bD false)])]):=by
 have b:=FB (TB:=TB) p s q al;rw [if_neg (by simp [e])] at b;refine eG Tryz.func62 rfl (by kernel_rfl) rfl ?_;intro Z c;(repeat first|refine tA rfl ?_ |refine sP rfl (b) rfl ?_ |refine aU rfl ?_ |refine Aa ?_);refine aB ?_;(repeat first|refine tA rfl ?_ |refine s2 rfl λ_ a=>?_ |refine aU rfl ?_ |refine Aa ?_)
 ((refine aC rfl ?_ ?_<;>rintro⟨⟩);all_goals try (simp at a;done))
 ·(repeat first|refine tA rfl ?_|(refine Av rfl ?_;refine gA rfl ?_;first| refine gS (λ_ _=>AI rfl rfl (by rfl) (by rfl)) ?_) |refine aU rfl ?_ |refine Aa ?_)
  refine aR ⟨_,rfl,rfl⟩
abbrev OJ:Sys:=⟨0,0,[]⟩
abbrev DW:A5:=⟨0,[],[]⟩
theorem A7.HR{L:W->Bool}{ls:List UInt8}{t:AW}(h:A7 L ls t):AX L ls t=none:=cV.2 λw a=>by
 unfold BG at a;simp only [df,bB] at a;obtain⟨r,b,l,c,rfl⟩:=a
 simpa using h.cl r b l c
theorem Ig{p:A5}(d:Ax p=true){k:Nat}(e:k<=AJ p):Ep p.al 20000 (AO p k):=by
 obtain⟨a,m,h,l,g⟩:=DO d k e;have j:=(Ci d).1;refine⟨λw c=>⟨a.onR w c,?_⟩,λx b=>⟨a.onC x b,by have:=g x b;omega⟩,h,by omega⟩;obtain⟨i,hi,f⟩:=cr c;have:=a.toTOk.short i w (by rw [bt hi,f]);omega
theorem KU{L:W->Bool}{ls:List UInt8}{t t':AW}{w v:W}(h:Next L ls t w v t')(b:Jl L t w≠L w)(c:t.cols.length < 20):GS L ls t w=some t':=by
 unfold GS BJ;rw [if_neg b,h.split];simp only [cT];unfold Ew;rw [if_neg (by intro a;rcases a with a|a;omega;exact h.new a)];exact h.close
noncomputable def Ck(p:A5):AW:=if Ax p then AO p (AJ p) else ⟨[],[]⟩
noncomputable def Ea(p:A5):Int:=if Ax p then (AJ p:Int)+1 else 0
theorem JD(w:W)(i:Nat)(c:UInt8)(b:w[((i:Nat):Int).toNat]? = some c):Pure Tryz.prog TB 269 [eT w,eI .i64 i] (eI .i64 ((c.toNat:Int) - 97)):=by
 have hb:=c.toNat_lt;refine eN Tryz.func269 rfl (by kernel_rfl) rfl ?_;intro Z a;(repeat' first|(refine sA rfl ?_ ?_;first|exact tI|omega) |(refine s4 rfl ‹_› rfl ?_ ?_;omega) |refine aU rfl ?_ |refine Aa ?_|(refine aC rfl ?_ ?_<;>rintro⟨⟩)|refine aK ?_|refine aE ?_|refine aB ?_|refine aR ⟨_,rfl,?_⟩);rfl
theorem SQ(n:Int)(a:0<=n)(c:n < 16):Pure Tryz.prog TB 206 [eI .i64 n] (eI .i64 ((2 ^ n.toNat:Nat):Int)):=by
 refine eN Tryz.func206 rfl (by kernel_rfl) rfl ?_;intro Z b;(repeat' first|(refine sA rfl ?_ ?_;first|exact tI|omega)|(refine Av rfl ?_;refine gA rfl ?_;first| refine gS (λ_ _=>YJ rfl rfl a (U9 a c)) ?_) |refine aU rfl ?_ |refine Aa ?_|(refine aC rfl ?_ ?_<;>rintro⟨⟩)|refine aK ?_|refine aE ?_|refine aB ?_|refine aR ⟨_,rfl,?_⟩);rfl
theorem ND{c:UInt8}:GF c=decide (0<=(c.toNat:Int) - 97/\(c.toNat:Int) - 97 < 6):=by
 unfold GF;rw [dT,decide_eq_true_eq,decide_eq_true_eq];omega
theorem Nq(w:W)(q:w.length<=1099511627776):Pure Tryz.prog TB 268 [eT w] (eB (El w)):=by
 by_cases o:w.length<=50000
 ·have g : El w=w.all GF:=by unfold El;simp [o]
  rw [g];refine eN Tryz.func268 rfl (by kernel_rfl) rfl ?_;intro Z d;(repeat first|refine tA rfl ?_ |refine s2 rfl λ_ b=>?_ |refine aU rfl ?_ |refine Aa ?_);(refine aC rfl ?_ ?_<;>rintro⟨⟩)
  ·exfalso;(simp only[oZ] at *;omega)
  refine aK ?_;(repeat first|refine tA rfl ?_ |refine aU rfl ?_ |refine Aa ?_);refine aB ?_;refine aL (α:={k:Nat // k<=w.length/\(w.take k).all GF=true}) [0] [] rfl rfl (λ⟨k,l,ha⟩=>[(3,eI .i64 k)]) (λ⟨k,l,ha⟩=>[]) 0 (λ⟨k,l,ha⟩=>w.length - k) (⟨0,by omega,rfl⟩) d rfl (by (simp[cX,zC,d])) ?_;rintro⟨k,l,ha⟩;(try dsimp only[cA,cB]);by_cases j:k < w.length
  ·obtain⟨c,n⟩:=get_some j
   have m:w[((k:Nat):Int).toNat]? = some c:=by simpa using n
   have h:=JD (TB:=TB) w k c m;have i:=ND (c:=c);by_cases a:GF c=true
   ·have e:=EI n ha a
    rw [i] at a;simp only [decide_eq_true_eq] at a;(repeat first|refine tA rfl ?_ |refine s2 rfl λ_ b=>?_ |refine aU rfl ?_ |refine Aa ?_);(refine aC rfl ?_ ?_<;>rintro⟨⟩)
    ·(repeat' first|(refine sA rfl ?_ ?_;first|exact tI|omega) |refine s2 rfl λ_ b=>?_ |refine sP rfl (h) rfl ?_ |refine s3 rfl ?_ ?_<;>rintro rfl |refine aU rfl ?_ |refine Aa ?_|(refine aC rfl ?_ ?_<;>rintro⟨⟩)|refine aK ?_|refine aE ?_|refine aB ?_|refine aR ⟨_,rfl,?_⟩)
     ·exfalso;(simp only[oZ] at *;omega)
     ·exfalso;(simp only[oZ] at *;omega)
     ·refine⟨⟨k+1,by omega,e⟩,by dsimp only;(omega),[],?_⟩
      simp[cX,zC,d]
    ·exfalso;(simp only[oZ] at *;omega)
   ·have e:=Gs n (f:=GF) (by simpa using a)
    rw [i] at a;simp only [decide_eq_true_eq] at a;(repeat first|refine tA rfl ?_ |refine s2 rfl λ_ b=>?_ |refine aU rfl ?_ |refine Aa ?_);(refine aC rfl ?_ ?_<;>rintro⟨⟩)
    ·(repeat' first|(refine sA rfl ?_ ?_;first|exact tI|omega) |refine s2 rfl λ_ b=>?_ |refine sP rfl (h) rfl ?_ |refine s3 rfl ?_ ?_<;>rintro rfl |refine aU rfl ?_ |refine Aa ?_|(refine aC rfl ?_ ?_<;>rintro⟨⟩)|refine aK ?_|refine aE ?_|refine aB ?_|refine aR ⟨_,rfl,?_⟩)
     ·rw [e]
     ·rw [e]
     ·exfalso;(simp only[oZ] at *;omega)
    ·exfalso;(simp only[oZ] at *;omega)
  ·have p:=EG ha (show w.length<=k by omega)
   (repeat first|refine tA rfl ?_ |refine s2 rfl λ_ b=>?_ |refine aU rfl ?_ |refine Aa ?_);(refine aC rfl ?_ ?_<;>rintro⟨⟩)
   ·exfalso;(simp only[oZ] at *;omega)
   ·(repeat' first|refine tA rfl ?_ |refine aU rfl ?_ |refine Aa ?_|(refine aC rfl ?_ ?_<;>rintro⟨⟩)|refine aK ?_|refine aE ?_|refine aB ?_|refine aR ⟨_,rfl,?_⟩)
    rw [p]
 ·have g:El w=false:=by unfold El;simp [o]
  rw [g];refine eN Tryz.func268 rfl (by kernel_rfl) rfl ?_;intro Z d;(repeat first|refine tA rfl ?_ |refine s2 rfl λ_ b=>?_ |refine aU rfl ?_ |refine Aa ?_);(refine aC rfl ?_ ?_<;>rintro⟨⟩)
  ·(repeat' first|refine tA rfl ?_ |refine aU rfl ?_ |refine Aa ?_|(refine aC rfl ?_ ?_<;>rintro⟨⟩)|refine aK ?_|refine aE ?_|refine aB ?_|refine aR ⟨_,rfl,?_⟩)
   rfl
  ·exfalso;(simp only[oZ] at *;omega)
abbrev aj(n:Int)(b:Bool):E:=.t [(false,[.d (iD n)]),(false,[.d (bD b)])]
theorem RS{w:W}{k:Nat}{c:UInt8}(a:w[k]? = some c):Hn (w.take (k+1))=Hn (w.take k) ||| 2 ^ (c.toNat - 97):=by
 unfold Hn;rw [bF,a];simp
theorem Lm(w:W)(t:w.length<=1099511627776):Pure Tryz.prog TB 224 [eT w] (if El w then aj (Hn w:Nat) true else aj 0 false):=by
 have f:=Nq (TB:=TB) w t;by_cases e:El w=true
 ·have a:=e
  unfold El at a;simp only [bu,decide_eq_true_eq] at a;rw [if_pos e];refine eN Tryz.func224 rfl (by kernel_rfl) rfl ?_;intro Z d;(repeat first|refine tA rfl ?_ |refine s2 rfl λ_ b=>?_ |(refine sC rfl (f) ?_;intro _ b) |refine aU rfl ?_ |refine Aa ?_);(refine aC rfl ?_ ?_<;>rintro⟨⟩)
  ·exfalso;simp at *;grind
  refine aK ?_;(repeat first|refine tA rfl ?_ |refine aU rfl ?_ |refine Aa ?_);refine aB ?_;refine aL (α:={k:Nat // k<=w.length}) [0] [] rfl rfl (λ⟨k,o⟩=>[(4,eI .i64 (Hn (w.take k):Nat)),(5,eI .i64 k)]) (λ⟨k,o⟩=>[]) 0 (λ⟨k,o⟩=>w.length - k) (⟨0,by omega⟩) d rfl (by (simp[cX,zC,d]<;>rfl)) ?_;rintro⟨k,o⟩;(try dsimp only[cA,cB]);by_cases m:k < w.length
  ·obtain⟨c,q⟩:=get_some m
   have p:w[((k:Nat):Int).toNat]? = some c:=by simpa using q
   have n:=JD (TB:=TB) w k c p;have h:=(bH.1 a.2) c (bm q);rw [ND,decide_eq_true_eq] at h;have i:=SQ (TB:=TB) ((c.toNat:Int) - 97) h.1 (by omega);have j:=RS q;have l:Hn (w.take k) < 64:=Nh (by rw [bH];exact λx s=>(bH.1 a.2) x (ce s)) (by omega)
   have ht:((c.toNat:Int) - 97).toNat=c.toNat - 97:=by omega
   have r:2 ^ (c.toNat - 97) < 2 ^ 6:=eo (by omega) (by omega);have g:=(Uz l r).1;rw [<-j] at g;rw [ht] at i;(repeat first|refine tA rfl ?_ |refine s2 rfl λ_ b=>?_ |refine aU rfl ?_ |refine Aa ?_);(refine aC rfl ?_ ?_<;>rintro⟨⟩)
   ·(repeat' first|(refine sA rfl ?_ ?_;first|exact tI|omega) |refine sP rfl (n) rfl ?_|refine sP rfl (i) rfl ?_ |refine aU rfl ?_ |refine Aa ?_|(refine aC rfl ?_ ?_<;>rintro⟨⟩)|refine aK ?_|refine aE ?_|refine aB ?_|refine aR ⟨_,rfl,?_⟩)
    rw [g];refine⟨⟨k+1,by omega⟩,by dsimp only;(omega),[],?_⟩;simp[cX,zC,d]
   ·exfalso;(simp only[oZ] at *;omega)
  ·obtain rfl:k=w.length:=by omega
   rw [bO];(repeat first|refine tA rfl ?_ |refine s2 rfl λ_ b=>?_ |refine aU rfl ?_ |refine Aa ?_);(refine aC rfl ?_ ?_<;>rintro⟨⟩)
   ·exfalso;(simp only[oZ] at *;omega)
   ·(repeat' first|refine tA rfl ?_ |refine aU rfl ?_ |refine Aa ?_|(refine aC rfl ?_ ?_<;>rintro⟨⟩)|refine aK ?_|refine aE ?_|refine aB ?_|refine aR ⟨_,rfl,?_⟩)
    rfl
 ·rw [if_neg e]
  refine eN Tryz.func224 rfl (by kernel_rfl) rfl ?_;intro Z d;(repeat first|refine tA rfl ?_ |refine s2 rfl λ_ b=>?_ |(refine sC rfl (f) ?_;intro _ b) |refine aU rfl ?_ |refine Aa ?_);(refine aC rfl ?_ ?_<;>rintro⟨⟩)
  ·(repeat' first|refine tA rfl ?_ |refine aU rfl ?_ |refine Aa ?_|(refine aC rfl ?_ ?_<;>rintro⟨⟩)|refine aK ?_|refine aE ?_|refine aB ?_|refine aR ⟨_,rfl,?_⟩)
   rfl
  ·exfalso;simp at *;grind
theorem Dw(w:W)(al:Int)(i:w.length<=1099511627776):Pure Tryz.prog TB 159 [eT w,eI .i64 al] (eB (within w al)):=by
 have d:=Lm (TB:=TB) w i;have g:=GM (TB:=TB) al;by_cases a:El w=true
 ·rw [if_pos a] at d
  unfold El at a;simp only [bu,decide_eq_true_eq] at a
  have f:within w al=(BP al && w.all (ML al)):=by unfold within;simp [a.1]
  rw [f];refine eN Tryz.func159 rfl (by kernel_rfl) rfl ?_;intro Z e;(repeat' first|refine tA rfl ?_ |refine s2 rfl λ_ c=>?_ |refine sP rfl (d) rfl ?_|(refine sC rfl (g) ?_;intro _ c) |refine s3 rfl ?_ ?_<;>rintro rfl |refine aU rfl ?_ |refine Aa ?_|(refine aC rfl ?_ ?_<;>rintro⟨⟩)|refine aK ?_|refine aE ?_|refine aB ?_|refine aR ⟨_,rfl,?_⟩)
  all_goals first
   | (show E.o _=E.o _;congr;grind)
   | (rename_i ha b;rw [U7 a.2 ha] at c;show E.o _=E.o _;rw [ha,c];rfl)
 ·rw [if_neg a] at d
  have f:within w al=false:=by
   rw [Bool.eq_false_iff];intro h;unfold within at h;simp only [bu,decide_eq_true_eq] at h;exact a (by unfold El;simp [h.1,P0 h.2.2])
  rw [f];refine eN Tryz.func159 rfl (by kernel_rfl) rfl ?_;intro Z e;(repeat' first|refine tA rfl ?_ |refine sP rfl (d) rfl ?_|(refine sC rfl (g) ?_;intro _ c) |refine aU rfl ?_ |refine Aa ?_|(refine aC rfl ?_ ?_<;>rintro⟨⟩)|refine aK ?_|refine aE ?_|refine aB ?_|refine aR ⟨_,rfl,?_⟩)
  all_goals rfl
end Go.Am
