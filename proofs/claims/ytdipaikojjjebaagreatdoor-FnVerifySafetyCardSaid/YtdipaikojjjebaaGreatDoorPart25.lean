/-
  The automaton of a closed table, walked.
-/
import Derived.Test.YtdipaikojjjebaaGreatDoorPart24
import Derived.Test.YtdipaikojjjebaaGreatDoorPart18
set_option linter.all false
namespace Go.Am
open Go Go.Proofs
set_option maxHeartbeats 1000000
set_option maxRecDepth 4000
attribute [local irreducible] A6 CC Lex Bz Ak Spec
variable {TB:BJ}
theorem QV{c:C}{L:W->Bool}{ok:W->Prop}(u:Ku Tryz.prog TB c L ok)(al:Int)(t:A0)(J:Jf ok (A7 al) t)(ht:Hl al 20012 t)(S:Bg L (A7 al) t=none) :
 Pure Tryz.prog TB 68 [Jn al c,Er t] (Bk (A1 L al t)):=by
 have a:=Fh c u.Cp;have Q:=ht.rl;have Y:=ht.cl;have V:(Ac al).length<=6:=AM al 6;have h:=ht.jg J (by omega)
 have T:(A1 L al t).nx.length=t.rows.length:=by simp[A1]
 have hal:(A1 L al t).ac.length=t.rows.length:=by simp[A1]
 refine AR.HH (AR.ofM 3 (jp _) Tryz.func68 rfl rfl (by kernel_rfl) (am rfl) ?_);intro Γ e;(repeat first|refine aU rfl ?_);(refine pW rfl ?_ rfl (by rfl);refine Dm rfl rfl ?_);(refine Ag rfl ?_;refine CM (λ_ _=>Dj rfl rfl rfl) rfl ?_);(repeat first|refine tA rfl ?_|refine aU rfl ?_|apply Aa);(refine pW rfl ?_ rfl (by rfl);refine Ai [] rfl rfl (HG u al t h.1) ⟨rfl,by simp,by simp⟩ (by simp[Ff,E.Bi,C.CB,C.Bi,a,eC]) trivial ?_;rintro Z K M ⟨rfl,rfl,rfl⟩ _);(repeat first|refine tA rfl ?_|refine aU rfl ?_|apply Aa);(refine pW rfl ?_ rfl (by rfl);refine JY 1 1 63 2 1 4 rfl rfl (by decide) rfl rfl (by rfl) (by rfl) ?_);(repeat first|refine sN rfl ?_|refine tA rfl ?_|refine aU rfl ?_|apply Aa);apply aB;refine Ak.A5 (α:={k:Nat // k<=t.rows.length}) (λ⟨k,m⟩=>[(2,.o (.ptr 0 2 0 0)),(3,.o (.ip (Ws t))),(4,.o (.ptr 1 3 0 0)),(5,.o (.mp 2)),(6,.o (.ptr 3 3 0 0)),(19,.o (.d (Cf t.rows))),(20,eI .i64 t.rows.length),(21,eI .i64 k)]) (λ⟨k,m⟩=>[(0,.cells 102 2 [[.d (iD al),c]]),(1,.cells 29 3 [[.d (iD 0),.d (.l []),.d (.l [])]]),(2,.mp (Jc (Cb L t t.rows.length))),(3,.cells 29 3 [[.d (iD al),.arr 4 1 0 k,.arr 5 1 0 k]]),(4,.cells 63 1 (((A1 L al t).nx.take k).map λr=>[.d (Fp r)])),(5,.cells 4 1 (((A1 L al t).ac.take k).map λb=>[.d (bD b)]))]) 6 (λ⟨k,m⟩=>t.rows.length-k) (⟨0,by omega⟩) [0,1,2,5,3,4] (En e rfl rfl) (by (simp[cX,zC,e,a,eC,Ab.Bi,Ce,I0,BU,Ae])) ?_;rintro⟨k,m⟩;(try dsimp only);(repeat first|refine s2 rfl λ_ I=>?_|refine aU rfl ?_|apply Aa);(refine aC rfl ?_ ?_<;>rintro⟨⟩)
 ·have B:k<t.rows.length:=by (simp only[oZ] at *;omega)
  obtain⟨r,p⟩:=get_some (l:=t.rows) (k:=k) B;have P:=get_map (g:=CX) p;have f:=co p;apply aK;refine aS (aB ?_);(repeat first|refine tM rfl ?_|(refine s4 rfl ‹_› rfl ?_ ?_;omega)|refine aU rfl ?_|apply Aa);(refine pW rfl ?_ rfl (by rfl);refine Hv 1 3 ?_);(repeat first|refine sN rfl ?_|refine tM rfl ?_|refine sP rfl (C1 al) rfl ?_|refine aU rfl ?_|apply Aa);apply aB;refine Ak.A5 (α:={j:Nat // j<=(Ac al).length}) (λ⟨j,n⟩=>[(2,.o (.ptr 0 2 0 0)),(3,.o (.ip (Ws t))),(4,.o (.ptr 1 3 0 0)),(5,.o (.mp 2)),(6,.o (.ptr 3 3 0 0)),(19,.o (.d (Cf t.rows))),(20,eI .i64 t.rows.length),(21,eI .i64 k),(8,eT r),(9,.o (.arr 6 1 0 j)),(27,Al (Ac al)),(28,eI .i64 (Ac al).length),(29,eI .i64 j)]) (λ⟨j,n⟩=>[(0,.cells 102 2 [[.d (iD al),c]]),(1,.cells 29 3 [[.d (iD 0),.d (.l []),.d (.l [])]]),(2,.mp (Jc (Cb L t t.rows.length))),(3,.cells 29 3 [[.d (iD al),.arr 4 1 0 k,.arr 5 1 0 k]]),(4,.cells 63 1 (((A1 L al t).nx.take k).map λr=>[.d (Fp r)])),(5,.cells 4 1 (((A1 L al t).ac.take k).map λb=>[.d (bD b)])),(6,.cells 3 1 (((Ac al).take j).map λl=>[.d (iD ((Df L t (r++[lb l]):Nat):Int))]))]) 7 (λ⟨j,n⟩=>(Ac al).length-j) (⟨0,by omega⟩) [0,1,2,3,4,5,6] (En e rfl rfl) (by (simp[cX,zC,e,a,eC,Ab.Bi,Ce,I0])) ?_;rintro⟨j,n⟩;(try dsimp only);(repeat first|refine s2 rfl λ_ I=>?_|refine aU rfl ?_|apply Aa);(refine aC rfl ?_ ?_<;>rintro⟨⟩)
  ·have s:j<(Ac al).length:=by (simp only[oZ] at *;omega)
   obtain⟨l,G⟩:=get_some (l:=Ac al) (k:=j) s;have X:=get_map (g:=Bs) G;have i:=co G;have q:=Aj i;have R:=ht.onR r f;have U:=Mg (TB:=TB) u al t (r++[lb l]) (by omega) (λx p=>h.2 r f _ (d9.2 ⟨l,i,rfl⟩) x p) (λy N=>by have:=(ht.onC y N).2;simp;omega);have F:=Vj S f i;apply aK;refine aS (aB ?_);(repeat first|refine tA rfl ?_|(refine s4 rfl ‹_› rfl ?_ ?_;omega)|refine aU rfl ?_|apply Aa);refine rG (Hm [13]) (by kernel_rfl) ?_;(repeat first|(refine sA rfl ?_ ?_;first|exact tI|omega|simp only[oZ] at *;omega)|refine sP rfl (FN l q.1 (by omega)) rfl ?_|(refine Ag rfl ?_;refine gA rfl ?_;first|refine gS (λ_ _=>XN rfl (by omega) (by omega)) ?_));rw[dn q.1];(repeat first|(refine Ag rfl ?_;refine gA rfl ?_;first|refine gS (λ_ _=>Bv rfl rfl (by simp[E.Cp,C.DB,C.Cp,u.Cp]) U rfl) ?_|refine gQ (Zr rfl rfl rfl) (by rfl) ?_));(repeat first|refine tA rfl ?_);(refine pW rfl ?_ rfl (by rfl);refine Au rfl rfl rfl (by first|(simp;done)|(simp;(omega))) rfl (by intro r a;simp at a;subst a;rfl) (by rfl) (am rfl) (by simp;omega) ?_);(repeat first|(refine sA rfl ?_ ?_;first|exact tI|omega)|refine aU rfl ?_|apply Aa);rw[F];refine⟨⟨j+1,by omega⟩,by dsimp only;(omega),[0,1,2,3,4,5,7],?_⟩;simp[cX,zC,e,a,d8,G]
  ·obtain rfl:j=(Ac al).length:=by (simp only[oZ] at *;omega)
   have z:=J r ⟨r,f,[],.inl rfl,[],.inl rfl,by simp⟩
   have A:(A1 L al t).nx.take (k+1)=(A1 L al t).nx.take k++[(Ac al).map λl=>((Df L t (r++[lb l]):Nat):Int)]:=by
    rw[d8];simp[A1,p]
   have H:(A1 L al t).ac.take (k+1)=(A1 L al t).ac.take k++[L r]:=by
    rw[d8];simp[A1,p]
   apply aE;rw[io];refine Ak.YX [6] [2,3,4,5,6,8,19,20,21] rfl [(9,Al ((Ac al).map λl=>((Df L t (r++[lb l]):Nat):Int)))] ⟨⟨_,rfl,.o (.full (by simp) rfl (by simp[d5]) (by simp))⟩,trivial⟩ ?_;(try dsimp only[cA,cB]);(repeat first|refine tA rfl ?_|refine aU rfl ?_);(refine pW rfl ?_ rfl (by rfl);refine Au rfl rfl rfl (by first|(simp;done)|(simp;(omega))) rfl (by intro r a;simp at a;subst a;rfl) (by rfl) (am rfl) (by simp;omega) ?_);(repeat first|refine tA rfl ?_|apply Aa);refine rG (Hm [7,9]) (by kernel_rfl) ?_;(repeat first|refine tA rfl ?_|(refine Ag rfl ?_;refine gA rfl ?_;first|refine gS (λ_ _=>u.ask rfl rfl z) ?_));(refine pW rfl ?_ rfl (by rfl);refine Au rfl rfl rfl (by first|(simp;done)|(simp;(omega))) rfl (by intro r a;simp at a;subst a;rfl) (by rfl) (am rfl) (by simp;omega) ?_);(repeat first|(refine sA rfl ?_ ?_;first|exact tI|omega)|refine aU rfl ?_|apply Aa);refine⟨⟨k+1,by omega⟩,by dsimp only;(omega),[0,1,2,3,7,8],?_⟩;simp[cX,zC,e,a,eC,Ab.Bi,Ce,I0,BU,Ae,A,H]
 ·obtain rfl:k=t.rows.length:=by (simp only[oZ] at *;omega)
  have w:(A1 L al t).nx.take t.rows.length=(A1 L al t).nx:=ge (by simp[A1]);have v:(A1 L al t).ac.take t.rows.length=(A1 L al t).ac:=ge (by simp[A1]);rw[w,v];apply aE;(repeat first|refine tM rfl ?_|refine aU rfl ?_|apply Aa);refine Ak.settle [(4,.o (.ip [iD al,C7 (A1 L al t).nx,Fo (A1 L al t).ac]))] ⟨⟨_,rfl,.o (.box rfl (.cons .d (.cons (.full rfl (by simp[d5]) (by simp[A1])) (.cons (.full rfl (by simp[d5]) (by simp[A1])) .nil))))⟩,trivial⟩ ?_;refine aR ⟨_,rfl,rfl⟩
theorem Hu(w:W)(i:Nat)(c:UInt8)(e:w[((i:Nat):Int).toNat]?=some c)(d:0<=(c.toNat:Int)-97/\(c.toNat:Int)-97<6):Pure Tryz.prog TB 128 [eT w,eI .i64 i] (eI .i64 ((c.toNat:Int)-97)):=by
 refine eN Tryz.func128 rfl (by kernel_rfl) rfl ?_;intro Γ a;(repeat' first|(refine sA rfl ?_ ?_;first|exact tI|omega)|(refine s4 rfl ‹_› rfl ?_ ?_;omega)|refine s2 rfl λ_ b=>?_|refine s3 rfl ?_ ?_<;>rintro rfl|refine aU rfl ?_|apply Aa|(refine aC rfl ?_ ?_<;>rintro⟨⟩)|apply aK|apply aE|apply aB|refine aR ⟨_,rfl,?_⟩)
 all_goals first
  | rfl
  | (exfalso;grind)
abbrev fo(kn:Bool)(p:AY)(s:Sys)(q:AY)(al:Int):List D:=[bD kn,iD p.al,C7 p.nx,Fo p.ac,iD s.al,iD s.st,EG s.es,iD q.al,C7 q.nx,Fo q.ac,iD al]
theorem J0{ls:List UInt8}{w:W}(h:AP ls w)(k:Nat):AP ls (w.take k):=λc a=>h c (pb a)
theorem gJ{ls:List UInt8}{w:W}(h:AP ls w)(k:Nat):AP ls (w.drop k):=λc a=>h c (qk a)
theorem bA{p:AY}{w:W}{k:Nat}{c:UInt8}(a:w[k]?=some c)(q:Int):FG p q (w.take (k+1))=Cz p (FG p q (w.take k)).toNat ((c.toNat:Int)-97):=by
 rw[d8,a,VL];rfl
theorem NH{L:W->Bool}{t:A0}{w:W}{k:Nat}{c:UInt8}(a:w[k]?=some c)(q:Nat):runM L t q (w.take (k+1))=Df L t (t.rows.getD (runM L t q (w.take k)) []++[c]):=by
 rw[d8,a,Qn];rfl
def CD(L:W->Bool)(t:A0)(w:W):Option W:=if Na L t w=L w then none else splitAt L t (L w) 0 w
theorem MC{L:W->Bool}{t:A0}{b:Bool}{w:W}{k q:Nat}{c:UInt8}(a:w[k]?=some c):splitAt L t b q (w.drop k)=if L (t.rows.getD (Df L t (t.rows.getD q []++[c])) []++w.drop (k+1))≠b then some (w.drop (k+1)) else splitAt L t b (Df L t (t.rows.getD q []++[c])) (w.drop (k+1)):=by
 rw[BF a,splitAt]
def YP(t:A0)(w v:W):Prop:=∃r,(r=[]\/r∈t.rows)/\∃k:Nat,v=r++w.drop k
theorem RB{c:C}{L:W->Bool}{ok:W->Prop}(I:Ku Tryz.prog TB c L ok)(al:Int)(t:A0)(hf:Jf ok (A7 al) t)(ht:Hl al 20012 t)(hal:Bb al=true)(n:BV L (A7 al) t)(ho:Bg L (A7 al) t=none)(w:W)(H:∀v,YP t w v->ok v)(z:AP (A7 al) w)(hwl:w.length<=20000) :
 Pure Tryz.prog TB 134 [Jn al c,Er t,eT w] (ah (CD L t w)):=by
 have M:=Fh c I.Cp;have Q:=ht.rl;have U:=QV (TB:=TB) I al t hf ht ho;have J:=LK hal n Q;have N:=FJ (TB:=TB) (A1 L al t) J
 have hnl:(A1 L al t).nx.length=t.rows.length:=by simp[A1]
 have V:0<t.rows.length:=(ce.1 n.r0).1;have B:=H w ⟨[],.inl rfl,0,rfl⟩
 have S:([Jn al c,Er t].all E.Cp && C.DB [])=true:=by simp[E.Cp,C.DB,C.Cp,I.Cp]
 refine eN Tryz.func134 rfl (by kernel_rfl) rfl ?_;intro Γ e;(repeat first|refine aU rfl ?_);(refine pW rfl ?_ rfl (by rfl);refine Dm rfl rfl ?_);(refine Ag rfl ?_;refine CM (λ_ _=>Dj rfl rfl rfl) rfl ?_);(repeat first|refine tA rfl ?_|refine aU rfl ?_|apply Aa);(repeat first|refine tA rfl ?_|(refine Ag rfl ?_;refine gA rfl ?_;first|refine gS (λ_ _=>Bv rfl rfl S U rfl) ?_)|refine aU rfl ?_|apply Aa);(repeat first|refine tA rfl ?_|refine sP rfl (N) rfl ?_|refine aU rfl ?_|apply Aa);apply aB;refine aL (α:={k:Nat // k<=w.length}) [2,3,4,8,9,20] [0,1] rfl rfl (λ⟨k,hk⟩=>[(10,eI .i64 (runM L t 0 (w.take k):Nat)),(21,eI .i64 k)]) (λ⟨k,hk⟩=>[]) 2 (λ⟨k,hk⟩=>w.length-k) (⟨0,by omega⟩) e rfl (by (simp[cX,zC,e,M]<;>rfl)) ?_;rintro⟨k,hk⟩;(try dsimp only[cA,cB]);have r:=n.run (w.take k) 0 (J0 z k) V;by_cases u:k<w.length
 ·obtain⟨o,d⟩:=get_some u
  have y:w[((k:Nat):Int).toNat]?=some o:=by simpa using d
  have m:=z o (co d);have j:=IF m;have x:=Hu (TB:=TB) w k o y j;have ta:=MH (a:=A1 L al t) (q:=(((runM L t 0 (w.take k):Nat):Int)).toNat) (by omega)
  have el:((((o.toNat:Int)-97).toNat:Nat):Int)=(o.toNat:Int)-97:=by omega
  have ra:=JC (h:=λl=>Cz (A1 L al t) (((runM L t 0 (w.take k):Nat):Int)).toNat l) j.1 (by omega);simp only[el]at ra;have f:=LY (L:=L) (al:=al) (t:=t) (q:=runM L t 0 (w.take k)) r m;have p:=NH (L:=L) (t:=t) d 0;rw[<-p]at f;rw[i7,f]at ra;(repeat first|refine s2 rfl λ_ b=>?_|refine aU rfl ?_|apply Aa);(refine aC rfl ?_ ?_<;>rintro⟨⟩)
  ·(repeat' first|(refine sA rfl ?_ ?_;first|exact tI|omega)|(refine s4 rfl ‹_› rfl ?_ ?_;omega)|refine sP rfl (x) rfl ?_|(refine Ag rfl ?_;refine gA rfl ?_;first|refine gS (λ_ _=>ET rfl ra) ?_)|refine aU rfl ?_|apply Aa|refine rE (by kernel_rfl) ?_|(refine aC rfl ?_ ?_<;>rintro⟨⟩)|apply aK|apply aE|apply aB|refine aR ⟨_,rfl,?_⟩)
   refine⟨⟨k+1,by omega⟩,by dsimp only;(omega),[0,1],?_⟩;simp[cX,zC,e,M]
  ·exfalso;(simp only[oZ] at *;omega)
 ·obtain rfl : k=w.length:=by omega
  rw[io] at *;(repeat first|refine s2 rfl λ_ b=>?_|refine aU rfl ?_|apply Aa);(refine aC rfl ?_ ?_<;>rintro⟨⟩)
  ·exfalso;(simp only[oZ] at *;omega)
  ·apply aE
   have Z:((A1 L al t).ac.map Jj)[(((runM L t 0 w:Nat):Int)).toNat]?=some (Jj (Na L t w)):=by
    unfold Na;simp[A1,List.getD,r]
   (repeat first|refine tA rfl ?_|(refine s4 rfl ‹_› rfl ?_ ?_;omega)|refine s2 rfl λ_ b=>?_|(refine Ag rfl ?_;refine gA rfl ?_;first|refine gS (λ_ _=>I.ask rfl rfl B) ?_)|refine aU rfl ?_|apply Aa);(refine aC rfl ?_ ?_<;>rintro⟨⟩)
   ·have hn:CD L t w=none:=by unfold CD;rw[if_pos (by simpa using b)]
    (repeat first|refine tA rfl ?_|refine aU rfl ?_|apply Aa);refine aR ⟨_,rfl,?_⟩;rw[hn];rfl
   ·have P:CD L t w=splitAt L t (L w) 0 w:=by unfold CD;rw[if_neg (by simpa using b)]
    rw[P];apply aK;(repeat first|refine tA rfl ?_|refine aU rfl ?_|apply Aa);apply aB;refine aL (α:={k:Nat // k<=w.length/\splitAt L t (L w) 0 w=splitAt L t (L w) (runM L t 0 (w.take k)) (w.drop k)}) [2,3,4,9,12,45] [0] rfl rfl (λ⟨k,hk,i⟩=>[(10,eI .i64 (runM L t 0 (w.take k):Nat)),(46,eI .i64 k)]) (λ⟨k,hk,i⟩=>[]) 1 (λ⟨k,hk,i⟩=>w.length-k) (⟨0,by omega,rfl⟩) e rfl (by (simp[cX,zC,e,M]<;>rfl)) ?_;rintro⟨k,hk,i⟩;(try dsimp only[cA,cB]);have r:=n.run (w.take k) 0 (J0 z k) V;by_cases u:k<w.length
    ·obtain⟨o,d⟩:=get_some u
     have y:w[((k:Nat):Int).toNat]?=some o:=by simpa using d
     have m:=z o (co d);have j:=IF m;have x:=Hu (TB:=TB) w k o y j;have ta:=MH (a:=A1 L al t) (q:=(((runM L t 0 (w.take k):Nat):Int)).toNat) (by omega)
     have el:((((o.toNat:Int)-97).toNat:Nat):Int)=(o.toNat:Int)-97:=by omega
     have ra:=JC (h:=λl=>Cz (A1 L al t) (((runM L t 0 (w.take k):Nat):Int)).toNat l) j.1 (by omega);simp only[el]at ra;have f:=LY (L:=L) (al:=al) (t:=t) (q:=runM L t 0 (w.take k)) r m;have p:=NH (L:=L) (t:=t) d 0;have A:=n.run (w.take (k+1)) 0 (J0 z (k+1)) V;rw[MC d,<-p]at i;rw[<-p]at f;rw[i7,f]at ra;generalize R:runM L t 0 (w.take (k+1))=X at *;obtain⟨K,s⟩:=get_some (l:=t.rows) (k:=X) A;have Y:=get_map (g:=CX) s
     have T:t.rows.getD X []=K:=by simp[List.getD,s]
     rw[T]at i;have hrb:=ht.onR K (co s);have hdl:(w.drop (k+1)).length=w.length-(k+1):=sS;have F:=H (K++w.drop (k+1)) ⟨K,.inr (co s),k+1,rfl⟩
     have G:(((k:Nat):Int)+1).toNat=k+1:=by omega
     (repeat first|refine s2 rfl λ_ b=>?_|refine aU rfl ?_|apply Aa);(refine aC rfl ?_ ?_<;>rintro⟨⟩)
     ·apply aK
      refine aS (aB ?_);(repeat first|(refine sA rfl ?_ ?_;first|exact tI|omega)|(refine s4 rfl ‹_› rfl ?_ ?_;omega)|refine sP rfl (x) rfl ?_|(refine Ag rfl ?_;refine gA rfl ?_;first|refine gS (λ_ _=>ET rfl ra) ?_)|refine aU rfl ?_|apply Aa|refine rE (by kernel_rfl) ?_);(repeat first|(refine Ag rfl ?_;refine gA rfl ?_;first|refine gS (λ_ _=>EC rfl rfl (by omega) (by omega)) ?_));rw[G];(repeat first|(refine sA rfl ?_ ?_;first|exact tI|omega)|refine s2 rfl λ_ b=>?_|(refine Ag rfl ?_;refine gA rfl ?_;first|refine gS (λ_ _=>I.ask rfl rfl F) ?_)|apply Aa);(refine aC rfl ?_ ?_<;>rintro⟨⟩)
      ·rw[if_pos (by simpa using b)]at i
       (repeat first|(refine sA rfl ?_ ?_;first|exact tI|omega)|(refine Ag rfl ?_;refine gA rfl ?_;first|refine gS (λ_ _=>EC rfl rfl (by omega) (by omega)) ?_)|refine aU rfl ?_|apply Aa);refine aR ⟨_,rfl,?_⟩;rw[G,i];rfl
      ·rw[if_neg (by simpa using b)]at i
       apply aK;(repeat first|(refine sA rfl ?_ ?_;first|exact tI|omega)|refine aU rfl ?_|apply Aa);subst R;refine⟨⟨k+1,by omega,i⟩,by dsimp only;(omega),[0],?_⟩;simp[cX,zC,e,M]
     ·exfalso;(simp only[oZ] at *;omega)
    ·obtain rfl:k=w.length:=by omega
     rw[q9]at i;(repeat first|refine s2 rfl λ_ b=>?_|refine aU rfl ?_|apply Aa);(refine aC rfl ?_ ?_<;>rintro⟨⟩)
     ·exfalso;(simp only[oZ] at *;omega)
     ·apply aE
      (repeat first|refine tA rfl ?_|refine aU rfl ?_|apply Aa);refine aR ⟨_,rfl,?_⟩;rw[i];rfl
theorem Hl.oP{ok:W->Prop}{al:Int}{t:A0}(ht:Hl al 20012 t)(f:SS ok al){w:W}(e:AP (A7 al) w)(d:w.length<=20000):∀v,YP t w v->ok v:=by
 rintro v ⟨r,b,k,rfl⟩
 have g:AP (A7 al) r/\r.length<=20012:=by
  rcases b with rfl|b
  ·exact⟨λc a=>by simp at a,by simp⟩
  ·exact ht.onR r b
 refine f _ (λc a=>?_) (by simp;omega)
 rcases f6.1 a with a|a
 ·exact g.1 c a
 ·exact gJ e _ c a
def Gy(L:W->Bool)(ls:List UInt8)(t:A0)(w:W):Option A0:=(CD L t w).bind λv=>(Fx t v).bind λu=>Bp L ls 13 u
theorem Ou{L:W->Bool}{t:A0}{b:Bool}:∀ {w:W} {q:Nat} {v:W},splitAt L t b q w=some v->∃p,p≠[]/\w=p++v
 | [],q,v,h=>by simp[splitAt]at h
 | c::w,q,v,h=>by
  unfold splitAt at h;split at h
  ·injection h with h;subst h;exact⟨[c],by simp,rfl⟩
  ·obtain⟨p,_,a⟩:=Ou h;exact⟨c::p,by simp,by rw[a];rfl⟩
theorem Hh{L:W->Bool}{t:A0}{w v:W}(h:CD L t w=some v):∃p,p≠[]/\w=p++v:=by
 unfold CD at h;split at h
 ·cases h
 ·exact Ou h
theorem Hl.mono{al:Int}{b b':Nat}{t:A0}(h:Hl al b t)(hb:b<=b'):Hl al b' t:=⟨λw a=>⟨(h.onR w a).1,lm (h.onR w a).2 hb⟩,h.onC,h.rl,h.cl⟩
theorem OP{al:Int}{b:Nat}{t u:A0}{v:W}(h:Hl al b t)(c:AP (A7 al) v)(f:v.length<=20000)(ha:Fx t v=some u):Hl al b u:=by
 unfold Fx at ha;split at ha
 ·cases ha
 ·rename_i d
  injection ha with ha
  subst ha;refine⟨h.onR,λx a=>?_,h.rl,?_⟩
  ·rcases f6.1 a with a|a
   ·exact h.onC x a
   ·simp at a;subst a;exact⟨c,f⟩
  ·have:=h.cl
   have g:t.cols.length≠20:=λe=>d (.inl e);simp;omega
def YO(L:W->Bool)(ls:List UInt8)(t:A0)(w v:W):Prop:=NY ls t v\/YP t w v\/∃x,CD L t w=some x/\∃u,Fx t x=some u/\∃y∈E9 L ls 13 u,NY ls y v
theorem Rr{c:C}{L:W->Bool}{ok:W->Prop}(k:Ku Tryz.prog TB c L ok)(al:Int)(t:A0)(ht:Hl al 20000 t)(hal:Bb al=true)(B:BV L (A7 al) t)(K:Bg L (A7 al) t=none)(w:W)(A:∀v,YO L (A7 al) t w v->ok v)(F:AP (A7 al) w)(m:w.length<=20000) :
 Pure Tryz.prog TB 72 [Jn al c,Er t,eT w] (IZ (Gy L (A7 al) t w)):=by
 have M:=Fh c k.Cp
 have b:([Jn al c,Er t,eT w].all E.Cp && C.DB [])=true:=by simp[E.Cp,C.DB,C.Cp,k.Cp]
 have e:=RB (TB:=TB) k al t (λv q=>A v (.inl q)) (ht.mono (by omega)) hal B K w (λv q=>A v (.inr (.inl q))) F m;have J:=ht.rl;have G:=ht.cl
 rcases j:CD L t w with _|v
 ·have s:Gy L (A7 al) t w=none:=by unfold Gy;rw[j];rfl
  rw[s];rw[j]at e;refine AR.HH (AR.ofM 2 (jp _) Tryz.func72 rfl rfl (by kernel_rfl) (am rfl) ?_);intro Γ i;(repeat first|refine aU rfl ?_);(refine pW rfl ?_ rfl (by rfl);refine Dm rfl rfl ?_);(refine pW rfl ?_ rfl (by rfl);refine Dm rfl rfl ?_);(repeat first|refine tA rfl ?_|refine aU rfl ?_|apply Aa);(repeat first|refine tA rfl ?_|refine s2 rfl λ_ a=>?_|(refine Ag rfl ?_;refine gA rfl ?_;first|refine gS (λ_ _=>Bv rfl rfl b e rfl) ?_)|refine aU rfl ?_|apply Aa)
  ((refine aC rfl ?_ ?_<;>rintro⟨⟩);all_goals try (simp at a;done))
  (repeat first|refine tA rfl ?_|(refine Ag rfl ?_;refine gA rfl ?_;first|refine gS (λ_ _=>AG rfl rfl (by rfl) (by rfl)) ?_)|refine aU rfl ?_|apply Aa);refine Ak.settle [(6,.o (.ip [.l [],.l []])),(7,eB false)] ⟨⟨_,rfl,.o (.box rfl (.cons .d (.cons .d .nil)))⟩,⟨_,rfl,.o .d⟩,trivial⟩ ?_;refine aR ⟨_,rfl,rfl⟩
 ·have r:=Hh j
  have n:AP (A7 al) v/\v.length<=20000:=by
   obtain⟨p,_,rfl⟩:=r;exact⟨λc k=>F c (by simp[k]),by simp at m;omega⟩
  have f:=SU (TB:=TB) t v (by omega) (by omega);rw[j]at e
  rcases ha:Fx t v with _|u
  ·have s:Gy L (A7 al) t w=none:=by unfold Gy;rw[j];simp[ha]
   rw[s];rw[ha]at f;refine AR.HH (AR.ofM 2 (jp _) Tryz.func72 rfl rfl (by kernel_rfl) (am rfl) ?_);intro Γ i;(repeat first|refine aU rfl ?_);(refine pW rfl ?_ rfl (by rfl);refine Dm rfl rfl ?_);(refine pW rfl ?_ rfl (by rfl);refine Dm rfl rfl ?_);(repeat first|refine tA rfl ?_|refine aU rfl ?_|apply Aa);(repeat first|refine tA rfl ?_|refine s2 rfl λ_ a=>?_|(refine Ag rfl ?_;refine gA rfl ?_;first|refine gS (λ_ _=>Bv rfl rfl b e rfl) ?_)|refine aU rfl ?_|apply Aa)
   ((refine aC rfl ?_ ?_<;>rintro⟨⟩);all_goals try (simp at a;done))
   apply aK;(repeat first|refine tA rfl ?_|refine s2 rfl λ_ a=>?_|refine sP rfl (f) rfl ?_|refine aU rfl ?_|apply Aa)
   ((refine aC rfl ?_ ?_<;>rintro⟨⟩);all_goals try (simp at a;done))
   (repeat first|refine tA rfl ?_|(refine Ag rfl ?_;refine gA rfl ?_;first|refine gS (λ_ _=>AG rfl rfl (by rfl) (by rfl)) ?_)|refine aU rfl ?_|apply Aa);refine Ak.settle [(6,.o (.ip [.l [],.l []])),(7,eB false)] ⟨⟨_,rfl,.o (.box rfl (.cons .d (.cons .d .nil)))⟩,⟨_,rfl,.o .d⟩,trivial⟩ ?_;refine aR ⟨_,rfl,rfl⟩
  ·have I:=OP ht n.1 n.2 ha
   have g:=Jk (TB:=TB) k al u (λy H v q=>A v (.inr (.inr ⟨_,j,_,ha,y,H,q⟩))) I
   have h:([Jn al c,Er u].all E.Cp && C.DB [])=true:=by simp[E.Cp,C.DB,C.Cp,k.Cp]
   have s:Gy L (A7 al) t w=Bp L (A7 al) 13 u:=by unfold Gy;rw[j];simp[ha]
   rw[s];rw[ha]at f
   rcases z:Bp L (A7 al) 13 u with _|x
   ·rw[z]at g
    refine AR.HH (AR.ofM 2 (jp _) Tryz.func72 rfl rfl (by kernel_rfl) (am rfl) ?_);intro Γ i;(repeat first|refine aU rfl ?_);(refine pW rfl ?_ rfl (by rfl);refine Dm rfl rfl ?_);(refine pW rfl ?_ rfl (by rfl);refine Dm rfl rfl ?_);(repeat first|refine tA rfl ?_|refine aU rfl ?_|apply Aa);(repeat first|refine tA rfl ?_|refine s2 rfl λ_ a=>?_|(refine Ag rfl ?_;refine gA rfl ?_;first|refine gS (λ_ _=>Bv rfl rfl b e rfl) ?_)|refine aU rfl ?_|apply Aa)
    ((refine aC rfl ?_ ?_<;>rintro⟨⟩);all_goals try (simp at a;done))
    apply aK;(repeat first|refine tA rfl ?_|refine s2 rfl λ_ a=>?_|refine sP rfl (f) rfl ?_|refine aU rfl ?_|apply Aa)
    ((refine aC rfl ?_ ?_<;>rintro⟨⟩);all_goals try (simp at a;done))
    apply aK;(repeat first|refine tA rfl ?_|(refine Ag rfl ?_;refine gA rfl ?_;first|refine gS (λ_ _=>Bv rfl rfl h g rfl) ?_)|refine aU rfl ?_|apply Aa);refine Ak.settle [(6,.o (.ip [.l [],.l []])),(7,eB false)] ⟨⟨_,rfl,.o (.box rfl (.cons .d (.cons .d .nil)))⟩,⟨_,rfl,.o .d⟩,trivial⟩ ?_;refine aR ⟨_,rfl,rfl⟩
   ·rw[z]at g
    refine AR.HH (AR.ofM 2 (jp _) Tryz.func72 rfl rfl (by kernel_rfl) (am rfl) ?_);intro Γ i;(repeat first|refine aU rfl ?_);(refine pW rfl ?_ rfl (by rfl);refine Dm rfl rfl ?_);(refine pW rfl ?_ rfl (by rfl);refine Dm rfl rfl ?_);(repeat first|refine tA rfl ?_|refine aU rfl ?_|apply Aa);(repeat first|refine tA rfl ?_|refine s2 rfl λ_ a=>?_|(refine Ag rfl ?_;refine gA rfl ?_;first|refine gS (λ_ _=>Bv rfl rfl b e rfl) ?_)|refine aU rfl ?_|apply Aa)
    ((refine aC rfl ?_ ?_<;>rintro⟨⟩);all_goals try (simp at a;done))
    apply aK;(repeat first|refine tA rfl ?_|refine s2 rfl λ_ a=>?_|refine sP rfl (f) rfl ?_|refine aU rfl ?_|apply Aa)
    ((refine aC rfl ?_ ?_<;>rintro⟨⟩);all_goals try (simp at a;done))
    apply aK;(repeat first|refine tA rfl ?_|(refine Ag rfl ?_;refine gA rfl ?_;first|refine gS (λ_ _=>Bv rfl rfl h g rfl) ?_)|refine aU rfl ?_|apply Aa);refine Ak.settle [(6,.o (.ip [Cf x.rows,Cf x.cols])),(7,eB true)] ⟨⟨_,rfl,.o (.box rfl (.cons .d (.cons .d .nil)))⟩,⟨_,rfl,.o .d⟩,trivial⟩ ?_;refine aR ⟨_,rfl,rfl⟩
end Go.Am
namespace Go.Am
open Go
theorem LZ{a b:Nat}(ha:a<2 ^ 62)(hb:b<2 ^ 62):Gp .i64 a b=((a &&& b:Nat):Int):=by
 have d:a &&& b<=a:=sh;unfold Gp
 have c:(BitVec.ofInt IntKind.i64.bits (a:Int) &&& BitVec.ofInt IntKind.i64.bits (b:Int)).toNat=a &&& b:=by
  have e:IntKind.i64.bits=64:=rfl;rw[e];simp only[BitVec.toNat_and,BitVec.ofInt_natCast,BitVec.toNat_ofNat];rw[pp (by omega),pp (by omega)]
 rw[c];exact IntWalk.i64_in _ (by omega)
theorem cW(s n:Nat):((s:Nat):Int).fdiv (2 ^ n)=((s / 2 ^ n:Nat):Int):=by
 have h:(0:Int)<=2 ^ n:=Int.le_of_lt (Int.pow_pos (by omega));rw[Int.fdiv_eq_ediv_of_nonneg _ h]
 push_cast
 rfl
theorem Dx{s n:Nat}(d:s<2 ^ 62)(f:n<64):AZ (s:Nat) n=s.testBit n:=by
 unfold AZ
 have e:min n 64=n:=by omega
 rw[e,cW];have g:s / 2 ^ n<=s:=Nat.div_le_self _ _;have c:=LZ (a:=s / 2 ^ n) (b:=1) (by omega) (by omega);rw[show ((1:Nat):Int)=1 from rfl]at c;rw[c,rZ,Nat.and_one_is_mod];congr 1;rw[eq_iff_iff];omega
theorem im{s a:Nat}:s &&& a=s↔∀n,s.testBit n=true->a.testBit n=true:=by
 constructor
 ·intro h n c
  have:=congrArg (·.testBit n) h;simp only[rr,c,ph]at this;exact this
 ·intro h
  apply qm;intro n;rw[rr];cases b:s.testBit n
  ·rfl
  ·rw[h n b];rfl
abbrev Wd:=List UInt8
def Gz(c:UInt8):Bool:=decide (97<=c.toNat/\c.toNat<103)
def EO(w:Wd):Bool:=decide (w.length<=50000) && w.all Gz
def Lo(w:Wd):Nat:=w.foldl (λs c=>s ||| 2 ^ (c.toNat-97)) 0
def IB(al:Int)(c:UInt8):Bool:=Gz c && AZ al (c.toNat-97)
def within(w:Wd)(al:Int):Bool:=decide (w.length<=50000) && (Bb al && w.all (IB al))
theorem UH(n:Nat):∀(w:Wd) (s:Nat),(w.foldl (λs c=>s ||| 2 ^ (c.toNat-97)) s).testBit n=(s.testBit n || w.any λc=>decide (c.toNat-97=n))
 | [],s=>by simp
 | c::w,s=>by
  rw[p8,UH n w,ql,qq,List.any_cons,Bool.or_assoc]
theorem VQ(w:Wd)(n:Nat):(Lo w).testBit n=w.any λc=>decide (c.toNat-97=n):=by
 unfold Lo;rw[UH];simp
theorem T8:∀ {w:Wd} {s:Nat},w.all Gz=true->s<64->w.foldl (λs c=>s ||| 2 ^ (c.toNat-97)) s<64
 | [],s,_,a=>a
 | c::w,s,h,a=>by
  simp only[List.all_cons,d4]at h;rw[p8];refine T8 h.2 ?_;have b:=h.1;unfold Gz at b;simp only[decide_eq_true_eq]at b;have d:2 ^ (c.toNat-97)<2 ^ 6:=qU (by omega) (by omega);exact qF (n:=6) a d
theorem ia{w:Wd}{al:Int}(f:w.all Gz=true)(ha:Bb al=true):decide (Gp .i64 (Lo w:Nat) al=(Lo w:Nat))=w.all (IB al):=by
 have k:Lo w<64:=T8 f (by omega);unfold Bb at ha;simp only[decide_eq_true_eq]at ha
 obtain⟨a,rfl⟩:∃a:Nat,al=a:=⟨al.toNat,by omega⟩
 rw[LZ (by omega) (by omega)];rw[p9,decide_eq_true_eq,f7]
 have j:((Lo w &&& a:Nat):Int)=(Lo w:Nat)↔Lo w &&& a=Lo w:=by omega
 rw[j,im];rw[f7]at f;constructor
 ·intro h c e
  have b:=f c e;unfold IB;rw[b,ph];unfold Gz at b;simp only[decide_eq_true_eq]at b;rw[Dx (by omega) (by omega)];refine h _ ?_;rw[VQ,qL];exact⟨c,e,by simp⟩
 ·intro h n i
  rw[VQ,qL]at i;obtain⟨c,e,d⟩:=i;simp only[decide_eq_true_eq]at d;have b:=f c e;have g:=h c e;unfold IB at g;rw[b,ph]at g;unfold Gz at b;simp only[decide_eq_true_eq]at b;rw[Dx (by omega) (by omega),d]at g;exact g
theorem Yx{w:Wd}{al:Int}(h:w.all (IB al)=true):w.all Gz=true:=by
 rw[f7] at *;intro c a;have:=h c a;unfold IB at this;simp only[d4]at this;exact this.1
theorem NO(L:W->Bool)(ls:List UInt8):TOk L ls Bx:=by
 refine⟨rfl,rfl,λi w hi d=>?_,λw a=>?_,λw a=>?_,by simp[AK,Bx],by simp[Bx]⟩
 ·have:=(ce.1 hi).1
  simp[Bx]at this;omega
 ·simp[Bx]at a;subst a;exact λc b=>(by cases b)
 ·simp[Bx]at a;subst a;exact λc b=>(by cases b)
theorem TOk.short{L:W->Bool}{ls:List UInt8}{t:A0}(h:TOk L ls t):∀(i:Nat) w,t.rows[i]?=some w->w.length<=i:=by
 intro i
 induction i using Nat.strongRecOn with
 | _ i c=>
  intro w a
  rcases pL i with b|b
  ·subst b
   rw[h.r0]at a
   injection a with a
   subst a;simp
  ·obtain⟨f,j,d,e⟩:=h.pre i w a b
   have:=c j d _ e;simp at this;omega
end Go.Am
namespace Go.Am
section
variable {α:Type}[DecidableEq α]
def DL{α:Type}(f:α->Int->α):α->List Int->α
 | q,[]=>q
 | q,l::w=>DL f (f q l) w
theorem My{α:Type}(f:α->Int->α):∀(u w:List Int) (q:α),DL f q (u++w)=DL f (DL f q u) w
 | [],_,_=>rfl
 | l::u,w,q=>My f u w _
structure Part (f:α->Int->α) (ls:List Int) (s:α) (nd:List α) (rows:List (List Int)) (lim:Nat):Prop where
 st:nd[0]?=some s
 nodup:nd.Nodup
 len:rows.length<=nd.length
 lim:nd.length<=lim
 row:∀(i:Nat) (r:List Int),rows[i]?=some r->∃q,nd[i]?=some q/\r=ls.map (λl=>((nd.idxOf (f q l):Nat):Int))/\∀l∈ls,f q l∈nd
 rc:∀q∈nd,∃w:List Int,(∀l∈w,l∈ls)/\DL f s w=q
structure oJ (f:α->Int->α) (ls:List Int) (s:α) (nd:List α) (rows:List (List Int)):Prop where
 st:nd[0]?=some s
 nodup:nd.Nodup
 len:rows.length=nd.length
 row:∀(i:Nat) (q:α),nd[i]?=some q->rows[i]?=some (ls.map λl=>((nd.idxOf (f q l):Nat):Int))
 cl:∀q∈nd,∀l∈ls,f q l∈nd
 rc:∀q∈nd,∃w:List Int,(∀l∈w,l∈ls)/\DL f s w=q
end
section
variable {α β:Type}[DecidableEq α][DecidableEq β]
end
section
variable {α β:Type}[DecidableEq α][DecidableEq β]
end
end Go.Am
namespace Go.Am
open Go Go.Proofs
set_option maxHeartbeats 1000000
set_option maxRecDepth 4000
attribute [local irreducible] A6 CC Lex Bz Ak Spec
variable {TB:BJ}
abbrev oo(kn:Bool)(p:AY)(s:Sys)(q:AY)(al:Int):E:=.a ((fo kn p s q al).map .d)
theorem IC(w:W)(i:Nat)(c:UInt8)(b:w[((i:Nat):Int).toNat]?=some c):Pure Tryz.prog TB 188 [eT w,eI .i64 i] (eI .i64 ((c.toNat:Int)-97)):=by
 have hb:=c.toNat_lt;refine eN Tryz.func188 rfl (by kernel_rfl) rfl ?_;intro Γ a;(repeat' first|(refine sA rfl ?_ ?_;first|exact tI|omega)|(refine s4 rfl ‹_› rfl ?_ ?_;omega)|refine aU rfl ?_|apply Aa|(refine aC rfl ?_ ?_<;>rintro⟨⟩)|apply aK|apply aE|apply aB|refine aR ⟨_,rfl,?_⟩);rfl
theorem UY(n:Int)(a:0<=n)(c:n<16):Pure Tryz.prog TB 137 [eI .i64 n] (eI .i64 ((2 ^ n.toNat:Nat):Int)):=by
 refine eN Tryz.func137 rfl (by kernel_rfl) rfl ?_;intro Γ b;(repeat' first|(refine sA rfl ?_ ?_;first|exact tI|omega)|(refine Ag rfl ?_;refine gA rfl ?_;first|refine gS (λ_ _=>er rfl rfl a (ZE a c)) ?_)|refine aU rfl ?_|apply Aa|(refine aC rfl ?_ ?_<;>rintro⟨⟩)|apply aK|apply aE|apply aB|refine aR ⟨_,rfl,?_⟩);rfl
theorem FU{c:UInt8}:Gz c=decide (0<=(c.toNat:Int)-97/\(c.toNat:Int)-97<6):=by
 unfold Gz;rw[p9,decide_eq_true_eq,decide_eq_true_eq];omega
theorem MR(w:W)(p:w.length<=1099511627776):Pure Tryz.prog TB 187 [eT w] (eB (EO w)):=by
 by_cases n:w.length<=50000
 ·have g : EO w=w.all Gz:=by unfold EO;simp[n]
  rw[g];refine eN Tryz.func187 rfl (by kernel_rfl) rfl ?_;intro Γ d;(repeat first|refine tA rfl ?_|refine s2 rfl λ_ b=>?_|refine aU rfl ?_|apply Aa);(refine aC rfl ?_ ?_<;>rintro⟨⟩)
  ·exfalso;(simp only[oZ] at *;omega)
  apply aK;(repeat first|refine tA rfl ?_|refine aU rfl ?_|apply Aa);apply aB;refine aL (α:={k:Nat // k<=w.length/\(w.take k).all Gz=true}) [0] [] rfl rfl (λ⟨k,hk,ha⟩=>[(3,eI .i64 k)]) (λ⟨k,hk,ha⟩=>[]) 0 (λ⟨k,hk,ha⟩=>w.length-k) (⟨0,by omega,rfl⟩) d rfl (by (simp[cX,zC,d])) ?_;rintro⟨k,hk,ha⟩;(try dsimp only[cA,cB]);by_cases j:k<w.length
  ·obtain⟨c,m⟩:=get_some j
   have l:w[((k:Nat):Int).toNat]?=some c:=by simpa using m
   have h:=IC (TB:=TB) w k c l;have i:=FU (c:=c);by_cases a:Gz c=true
   ·have e:=GS m ha a
    rw[i]at a;simp only[decide_eq_true_eq]at a;(repeat first|refine tA rfl ?_|refine s2 rfl λ_ b=>?_|refine aU rfl ?_|apply Aa);(refine aC rfl ?_ ?_<;>rintro⟨⟩)
    ·(repeat' first|(refine sA rfl ?_ ?_;first|exact tI|omega)|refine s2 rfl λ_ b=>?_|refine sP rfl (h) rfl ?_|refine s3 rfl ?_ ?_<;>rintro rfl|refine aU rfl ?_|apply Aa|(refine aC rfl ?_ ?_<;>rintro⟨⟩)|apply aK|apply aE|apply aB|refine aR ⟨_,rfl,?_⟩)
     ·exfalso;(simp only[oZ] at *;omega)
     ·exfalso;(simp only[oZ] at *;omega)
     ·refine⟨⟨k+1,by omega,e⟩,by dsimp only;(omega),[],?_⟩
      simp[cX,zC,d]
    ·exfalso;(simp only[oZ] at *;omega)
   ·have e:=Ir m (f:=Gz) (by simpa using a)
    rw[i]at a;simp only[decide_eq_true_eq]at a;(repeat first|refine tA rfl ?_|refine s2 rfl λ_ b=>?_|refine aU rfl ?_|apply Aa);(refine aC rfl ?_ ?_<;>rintro⟨⟩)
    ·(repeat' first|(refine sA rfl ?_ ?_;first|exact tI|omega)|refine s2 rfl λ_ b=>?_|refine sP rfl (h) rfl ?_|refine s3 rfl ?_ ?_<;>rintro rfl|refine aU rfl ?_|apply Aa|(refine aC rfl ?_ ?_<;>rintro⟨⟩)|apply aK|apply aE|apply aB|refine aR ⟨_,rfl,?_⟩)
     ·rw[e]
     ·rw[e]
     ·exfalso;(simp only[oZ] at *;omega)
    ·exfalso;(simp only[oZ] at *;omega)
  ·have o:=GR ha (show w.length<=k by omega)
   (repeat first|refine tA rfl ?_|refine s2 rfl λ_ b=>?_|refine aU rfl ?_|apply Aa);(refine aC rfl ?_ ?_<;>rintro⟨⟩)
   ·exfalso;(simp only[oZ] at *;omega)
   ·(repeat' first|refine tA rfl ?_|refine aU rfl ?_|apply Aa|(refine aC rfl ?_ ?_<;>rintro⟨⟩)|apply aK|apply aE|apply aB|refine aR ⟨_,rfl,?_⟩)
    rw[o]
 ·have g:EO w=false:=by unfold EO;simp[n]
  rw[g];refine eN Tryz.func187 rfl (by kernel_rfl) rfl ?_;intro Γ d;(repeat first|refine tA rfl ?_|refine s2 rfl λ_ b=>?_|refine aU rfl ?_|apply Aa);(refine aC rfl ?_ ?_<;>rintro⟨⟩)
  ·(repeat' first|refine tA rfl ?_|refine aU rfl ?_|apply Aa|(refine aC rfl ?_ ?_<;>rintro⟨⟩)|apply aK|apply aE|apply aB|refine aR ⟨_,rfl,?_⟩)
   rfl
  ·exfalso;(simp only[oZ] at *;omega)
abbrev nX(n:Int)(b:Bool):E:=.t [(false,[.d (iD n)]),(false,[.d (bD b)])]
theorem bG{w:W}{k:Nat}{c:UInt8}(a:w[k]?=some c):Lo (w.take (k+1))=Lo (w.take k) ||| 2 ^ (c.toNat-97):=by
 unfold Lo;rw[d8,a];simp
theorem QU(w:W)(s:w.length<=1099511627776):Pure Tryz.prog TB 215 [eT w] (if EO w then nX (Lo w:Nat) true else nX 0 false):=by
 have f:=MR (TB:=TB) w s;by_cases e:EO w=true
 ·have a:=e
  unfold EO at a;simp only[d4,decide_eq_true_eq]at a;rw[if_pos e];refine eN Tryz.func215 rfl (by kernel_rfl) rfl ?_;intro Γ d;(repeat first|refine tA rfl ?_|refine s2 rfl λ_ b=>?_|(refine sC rfl (f) ?_;intro _ b)|refine aU rfl ?_|apply Aa);(refine aC rfl ?_ ?_<;>rintro⟨⟩)
  ·exfalso;simp at *;grind
  apply aK;(repeat first|refine tA rfl ?_|refine aU rfl ?_|apply Aa);apply aB;refine aL (α:={k:Nat // k<=w.length}) [0] [] rfl rfl (λ⟨k,hk⟩=>[(4,eI .i64 (Lo (w.take k):Nat)),(5,eI .i64 k)]) (λ⟨k,hk⟩=>[]) 0 (λ⟨k,hk⟩=>w.length-k) (⟨0,by omega⟩) d rfl (by (simp[cX,zC,d]<;>rfl)) ?_;rintro⟨k,hk⟩;(try dsimp only[cA,cB]);by_cases m:k<w.length
  ·obtain⟨c,p⟩:=get_some m
   have o:w[((k:Nat):Int).toNat]?=some c:=by simpa using p
   have n:=IC (TB:=TB) w k c o;have h:=(f7.1 a.2) c (co p);rw[FU,decide_eq_true_eq]at h;have i:=UY (TB:=TB) ((c.toNat:Int)-97) h.1 (by omega);have j:=bG p;have l:Lo (w.take k)<64:=T8 (by rw[f7];exact λx r=>(f7.1 a.2) x (pb r)) (by omega)
   have ht:((c.toNat:Int)-97).toNat=c.toNat-97:=by omega
   have q:2 ^ (c.toNat-97)<2 ^ 6:=qU (by omega) (by omega);have g:=(Mb l q).1;rw[<-j]at g;rw[ht]at i;(repeat first|refine tA rfl ?_|refine s2 rfl λ_ b=>?_|refine aU rfl ?_|apply Aa);(refine aC rfl ?_ ?_<;>rintro⟨⟩)
   ·(repeat' first|(refine sA rfl ?_ ?_;first|exact tI|omega)|refine sP rfl (n) rfl ?_|refine sP rfl (i) rfl ?_|refine aU rfl ?_|apply Aa|(refine aC rfl ?_ ?_<;>rintro⟨⟩)|apply aK|apply aE|apply aB|refine aR ⟨_,rfl,?_⟩)
    rw[g];refine⟨⟨k+1,by omega⟩,by dsimp only;(omega),[],?_⟩;simp[cX,zC,d]
   ·exfalso;(simp only[oZ] at *;omega)
  ·obtain rfl:k=w.length:=by omega
   rw[io];(repeat first|refine tA rfl ?_|refine s2 rfl λ_ b=>?_|refine aU rfl ?_|apply Aa);(refine aC rfl ?_ ?_<;>rintro⟨⟩)
   ·exfalso;(simp only[oZ] at *;omega)
   ·(repeat' first|refine tA rfl ?_|refine aU rfl ?_|apply Aa|(refine aC rfl ?_ ?_<;>rintro⟨⟩)|apply aK|apply aE|apply aB|refine aR ⟨_,rfl,?_⟩)
    rfl
 ·rw [if_neg e]
  refine eN Tryz.func215 rfl (by kernel_rfl) rfl ?_;intro Γ d;(repeat first|refine tA rfl ?_|refine s2 rfl λ_ b=>?_|(refine sC rfl (f) ?_;intro _ b)|refine aU rfl ?_|apply Aa);(refine aC rfl ?_ ?_<;>rintro⟨⟩)
  ·(repeat' first|refine tA rfl ?_|refine aU rfl ?_|apply Aa|(refine aC rfl ?_ ?_<;>rintro⟨⟩)|apply aK|apply aE|apply aB|refine aR ⟨_,rfl,?_⟩)
   rfl
  ·exfalso;simp at *;grind
theorem Ez(w:W)(al:Int)(i:w.length<=1099511627776):Pure Tryz.prog TB 189 [eT w,eI .i64 al] (eB (within w al)):=by
 have d:=QU (TB:=TB) w i;have g:=DE (TB:=TB) al;by_cases a:EO w=true
 ·rw [if_pos a]at d
  unfold EO at a;simp only[d4,decide_eq_true_eq]at a
  have f:within w al=(Bb al && w.all (IB al)):=by unfold within;simp[a.1]
  rw[f];refine eN Tryz.func189 rfl (by kernel_rfl) rfl ?_;intro Γ e;(repeat' first|refine tA rfl ?_|refine s2 rfl λ_ c=>?_|refine sP rfl (d) rfl ?_|(refine sC rfl (g) ?_;intro _ c)|refine s3 rfl ?_ ?_<;>rintro rfl|refine aU rfl ?_|apply Aa|(refine aC rfl ?_ ?_<;>rintro⟨⟩)|apply aK|apply aE|apply aB|refine aR ⟨_,rfl,?_⟩)
  all_goals first
   | (show E.o _=E.o _;congr;grind)
   | (rename_i ha b;rw[ia a.2 ha]at c;show E.o _=E.o _;rw[ha,c];rfl)
 ·rw [if_neg a]at d
  have f:within w al=false:=by
   rw[Bool.eq_false_iff];intro h;unfold within at h;simp only[d4,decide_eq_true_eq]at h;exact a (by unfold EO;simp[h.1,Yx h.2.2])
  rw[f];refine eN Tryz.func189 rfl (by kernel_rfl) rfl ?_;intro Γ e;(repeat' first|refine tA rfl ?_|refine sP rfl (d) rfl ?_|(refine sC rfl (g) ?_;intro _ c)|refine aU rfl ?_|apply Aa|(refine aC rfl ?_ ?_<;>rintro⟨⟩)|apply aK|apply aE|apply aB|refine aR ⟨_,rfl,?_⟩)
  all_goals rfl
theorem EN{w:W}{al:Int}(h:within w al=true):AP (A7 al) w:=by
 unfold within at h;simp only[d4,decide_eq_true_eq]at h;intro c b;have a:=(f7.1 h.2.2) c b;unfold IB Gz at a;simp only[d4,decide_eq_true_eq]at a;refine d9.2 ⟨((c.toNat-97:Nat):Int),Eu.2 ⟨by omega,a.2⟩,?_⟩;unfold lb
 have e:97+((c.toNat-97:Nat):Int).toNat=c.toNat:=by omega
 rw[e];simp
theorem Ha{w:W}{al:Int}(h:AP (A7 al) w)(d:w.length<=50000)(ha:Bb al=true):within w al=true:=by
 unfold within;simp only[d4,decide_eq_true_eq];refine⟨d,ha,f7.2 λc f=>?_⟩;obtain⟨l,b,rfl⟩:=d9.1 (h c f);have a:=Aj b;have g:=Nw a.1 (by omega);unfold IB Gz;simp only[d4,decide_eq_true_eq]
 have e:(lb l).toNat-97=l.toNat:=by omega
 rw[e];exact⟨by omega,a.2.2⟩
theorem dk{p:AY}(g:AE p=true)(w:W)(n:AP (A7 p.al) w)(r:w.length<=1099511627776):Pure Tryz.prog TB 226 [Bk p,eI .i64 0,eT w] (eI .i64 (FG p 0 w)):=by
 have o:=AJ g;refine eN Tryz.func226 rfl (by kernel_rfl) rfl ?_;intro Γ a;(repeat first|refine tA rfl ?_|refine aU rfl ?_|apply Aa);apply aB;refine aL (α:={k:Nat // k<=w.length}) [2,3] [] rfl rfl (λ⟨k,hk⟩=>[(1,eI .i64 (FG p 0 (w.take k))),(7,eI .i64 k)]) (λ⟨k,hk⟩=>[]) 0 (λ⟨k,hk⟩=>w.length-k) (⟨0,by omega⟩) a rfl (by (simp[cX,zC,a]<;>rfl)) ?_;rintro⟨k,hk⟩;(try dsimp only[cA,cB]);have q:=TZ g (w.take k) 0 (J0 n k) (by omega);by_cases h:k<w.length
 ·obtain⟨c,l⟩:=get_some h
  have j:w[((k:Nat):Int).toNat]?=some c:=by simpa using l
  have d:=IF (n c (co l));have i:=IC (TB:=TB) w k c j;have b:=JV (TB:=TB) p g (FG p 0 (w.take k)).toNat (by omega) ((c.toNat:Int)-97) d.1 d.2
  have e:(((FG p 0 (w.take k)).toNat:Nat):Int)=FG p 0 (w.take k):=by omega
  rw[e]at b;have f:=bA (p:=p) l 0;rw[<-f]at b;(repeat first|refine tA rfl ?_|refine s2 rfl λ_ m=>?_|refine aU rfl ?_|apply Aa);(refine aC rfl ?_ ?_<;>rintro⟨⟩)
  ·(repeat' first|(refine sA rfl ?_ ?_;first|exact tI|omega)|refine sP rfl (i) rfl ?_|refine sP rfl (b) rfl ?_|refine aU rfl ?_|apply Aa|refine rE (by kernel_rfl) ?_|(refine aC rfl ?_ ?_<;>rintro⟨⟩)|apply aK|apply aE|apply aB|refine aR ⟨_,rfl,?_⟩)
   refine⟨⟨k+1,by omega⟩,by dsimp only;(omega),[],?_⟩;simp[cX,zC,a]
  ·exfalso;(simp only[oZ] at *;omega)
 ·obtain rfl:k=w.length:=by omega
  rw[io];(repeat first|refine tA rfl ?_|refine s2 rfl λ_ m=>?_|refine aU rfl ?_|apply Aa);(refine aC rfl ?_ ?_<;>rintro⟨⟩)
  ·exfalso;(simp only[oZ] at *;omega)
  ·(repeat' first|refine tA rfl ?_|refine aU rfl ?_|apply Aa|(refine aC rfl ?_ ?_<;>rintro⟨⟩)|apply aK|apply aE|apply aB|refine aR ⟨_,rfl,?_⟩)
   rfl
def GC(p:AY)(w:W):Int:=if AE p && within w p.al then FG p 0 w else -1
def QS(p:AY)(w:W):Bool:=AE p && (within w p.al && LA p w)
theorem RE(p:AY)(w:W)(e:w.length<=1099511627776):Pure Tryz.prog TB 221 [Bk p,eT w] (eI .i64 (GC p w)):=by
 have g:=Bl (TB:=TB) p;have f:=Ez (TB:=TB) w p.al e;by_cases b:(AE p && within w p.al)=true
 ·have d:GC p w=FG p 0 w:=by unfold GC;rw[if_pos b]
  rw[d];rw[d4]at b;have h:=dk (TB:=TB) b.1 w (EN b.2) e;refine eN Tryz.func221 rfl (by kernel_rfl) rfl ?_;intro Γ c;(repeat' first|refine tA rfl ?_|refine s2 rfl λ_ a=>?_|(refine sC rfl (g) ?_;intro _ a)|(refine sC rfl (f) ?_;intro _ a)|refine sP rfl (h) rfl ?_|refine s3 rfl ?_ ?_<;>rintro rfl|refine aU rfl ?_|apply Aa|(refine aC rfl ?_ ?_<;>rintro⟨⟩)|apply aK|apply aE|apply aB|refine aR ⟨_,rfl,?_⟩)
  all_goals first
   | rfl
   | (exfalso;grind;done)
 ·have d:GC p w = -1:=by unfold GC;rw[if_neg b]
  rw[d];refine eN Tryz.func221 rfl (by kernel_rfl) rfl ?_;intro Γ c;(repeat' first|refine tA rfl ?_|refine s2 rfl λ_ a=>?_|(refine sC rfl (g) ?_;intro _ a)|(refine sC rfl (f) ?_;intro _ a)|refine s3 rfl ?_ ?_<;>rintro rfl|refine aU rfl ?_|apply Aa|(refine aC rfl ?_ ?_<;>rintro⟨⟩)|apply aK|apply aE|apply aB|refine aR ⟨_,rfl,?_⟩)
  all_goals first
   | rfl
   | (exfalso;grind;done)
theorem Pj(p:AY)(w:W)(h:w.length<=1099511627776):Pure Tryz.prog TB 201 [Bk p,eT w] (eB (QS p w)):=by
 have c:=RE (TB:=TB) p w h;by_cases a:(AE p && within w p.al)=true
 ·have e:GC p w=FG p 0 w:=by unfold GC;rw[if_pos a]
  rw[e]at c;rw[d4]at a;have g:=AJ a.1;have j:=TZ a.1 w 0 (EN a.2) (by omega);obtain⟨b,hb⟩:=get_some (l:=p.ac) (k:=(FG p 0 w).toNat) (by omega)
  have i:(p.ac.map Jj)[(FG p 0 w).toNat]?=some (Jj b):=by simp[hb]
  have ha:QS p w=b:=by unfold QS LA;simp[a.1,a.2,List.getD,hb]
  rw[ha];refine eN Tryz.func201 rfl (by kernel_rfl) rfl ?_;intro Γ d;(repeat' first|refine tA rfl ?_|(refine s4 rfl ‹_› rfl ?_ ?_;omega)|refine s2 rfl λ_ f=>?_|refine sP rfl (c) rfl ?_|refine s3 rfl ?_ ?_<;>rintro rfl|refine aU rfl ?_|apply Aa|(refine aC rfl ?_ ?_<;>rintro⟨⟩)|apply aK|apply aE|apply aB|refine aR ⟨_,rfl,?_⟩)
  all_goals first
   | rfl
   | (exfalso;(simp only[oZ] at *;omega))
 ·have e:GC p w = -1:=by unfold GC;rw[if_neg a]
  rw[e]at c
  have ha:QS p w=false:=by unfold QS;grind
  rw[ha];refine eN Tryz.func201 rfl (by kernel_rfl) rfl ?_;intro Γ d;(repeat' first|refine tA rfl ?_|refine s2 rfl λ_ f=>?_|refine sP rfl (c) rfl ?_|refine s3 rfl ?_ ?_<;>rintro rfl|refine aU rfl ?_|apply Aa|(refine aC rfl ?_ ?_<;>rintro⟨⟩)|apply aK|apply aE|apply aB|refine aR ⟨_,rfl,?_⟩)
  all_goals first
   | rfl
   | (exfalso;(simp only[oZ] at *;omega))
structure EP where
 kn:Bool
 p:AY
 s:Sys
 q:AY
 al:Int
abbrev EW(t:EP):E:=oo t.kn t.p t.s t.q t.al
end Go.Am
namespace Go.Am
open Go
def Cv(es:List Eo)(l:Int)(m:Nat):Nat:=es.foldl (λa e=>if e.l=l/\m.testBit e.f.toNat=true then a ||| 2 ^ e.t.toNat else a) 0
theorem JR{α:Type}{p:α->Prop}[DecidablePred p]{g:α->Nat}{j:Nat}:∀(l:List α) (a:Nat),(l.foldl (λa e=>if p e then a ||| g e else a) a).testBit j=true↔a.testBit j=true\/∃e∈l,p e/\(g e).testBit j=true
 | [],a=>by simp
 | x :: l,a=>by
  rw[p8,JR l];by_cases h:p x
  ·rw [if_pos h,ql,o8]
   constructor
   ·rintro((b|b)|⟨e,b,c⟩)
    ·exact .inl b
    ·exact .inr ⟨x,by simp,h,b⟩
    ·exact .inr ⟨e,by simp[b],c⟩
   ·rintro(b|⟨e,b,c,d⟩)
    ·exact .inl (.inl b)
    ·rcases o3.1 b with rfl|b
     ·exact .inl (.inr d)
     ·exact .inr ⟨e,b,c,d⟩
  ·rw [if_neg h]
   constructor
   ·rintro(b|⟨e,b,c⟩)
    ·exact .inl b
    ·exact .inr ⟨e,by simp[b],c⟩
   ·rintro(b|⟨e,b,c,d⟩)
    ·exact .inl b
    ·rcases o3.1 b with rfl|b
     ·exact absurd c h
     ·exact .inr ⟨e,b,c,d⟩
theorem Eb{es:List Eo}{l:Int}{m j:Nat}:(Cv es l m).testBit j=true↔∃e∈es,(e.l=l/\m.testBit e.f.toNat=true)/\e.t.toNat=j:=by
 unfold Cv;rw[JR];simp[qq]
structure CP where
 s:Sys
 q:AY
 al:Int
def Bc(t:CP):Bool:=AX t.s && (AE t.q && Bb t.al)
def Cu(t:CP):List Int:=(Ac t.s.al).filter λl=>!AZ t.al l.toNat
def DC(s:Sys)(l:Int)(m:Nat):Nat:=if AZ s.al l.toNat then Cv s.es l m else m
abbrev PS:=Nat->Nat
def WK(t:CP)(l:Int)(F:PS):PS:=λp'=>(List.range t.q.nx.length).foldl (λa p=>if Cz t.q p l=(p':Int) then a ||| DC t.s l (F p) else a) 0
theorem Ml{t:CP}{l:Int}{F:PS}{p' j:Nat}:(WK t l F p').testBit j=true↔∃p,p<t.q.nx.length/\Cz t.q p l=(p':Int)/\(DC t.s l (F p)).testBit j=true:=by
 unfold WK;rw[JR];simp
inductive QQ (t:CP) (F0:PS):Nat->Nat->Prop
 | base {p j:Nat}:(F0 p).testBit j=true->QQ t F0 p j
 | step {p j:Nat} {e:Eo}:QQ t F0 p j->e∈t.s.es->e.l∈Cu t->e.f.toNat=j->QQ t F0 (Cz t.q p e.l).toNat e.t.toNat
open Classical in
noncomputable def Td(t:CP)(F0:PS):PS:=λp=>(List.range 16).foldl (λa j=>if QQ t F0 p j then a ||| 2 ^ j else a) 0
open Classical in
theorem OS{t:CP}{F0:PS}{p j:Nat}:(Td t F0 p).testBit j=true↔j<16/\QQ t F0 p j:=by
 unfold Td;rw[JR];simp only[sT,ro,false_or,o5,qq,decide_eq_true_eq];constructor
 ·rintro⟨e,b,a,rfl⟩;exact⟨b,a⟩
 ·rintro⟨b,a⟩;exact⟨j,b,a,rfl⟩
structure Dd (t:CP) (F:PS):Prop where
 lt:∀p,F p<65536
 z:∀p,t.q.nx.length<=p->F p=0
theorem JP{m:Nat}(h:∀j,m.testBit j=true->j<16):m<65536:=by
 have:m<2 ^ 16:=Nat.lt_pow_two_of_testBit m λi hi=>by
  cases hb:m.testBit i
  ·rfl
  ·have:=h i hb;omega
 omega
theorem Mf{m j:Nat}(h:m<65536)(hb:m.testBit j=true):j<16:=by
 rcases po j 16 with a|a
 ·exact a
 ·have:m.testBit j=false:=Nat.testBit_lt_two_pow (ms h (pK (n:=2) (by omega) a))
  rw[this]at hb;cases hb
theorem HR{m:Nat}(h:∀j,m.testBit j=false):m=0:=qm λj=>by rw[h j];simp
section
variable {t:CP}(ht:Bc t=true)
include ht set_option linter.unusedSectionVars false
theorem Il{e:Eo}(a:e∈t.s.es):0<=e.f/\e.f<16/\0<=e.t/\e.t<16/\0<=e.l/\e.l<6:=by
 unfold Bc at ht;simp only[d4]at ht;have b:=Du ht.1 a;have c:=AN ht.1;unfold DT at b;grind
theorem CG:AE t.q=true:=by
 unfold Bc at ht;simp only[d4]at ht;exact ht.2.1
theorem CS{l:Int}(h:l∈Cu t):0<=l/\l<6/\AZ t.s.al l.toNat=true:=by
 unfold Cu at h;have a:=Aj (o9.1 h).1;exact⟨a.1,by omega,a.2.2⟩
theorem JD{l:Int}{m:Nat}(a:m<65536):DC t.s l m<65536:=by
 unfold DC;split
 ·refine JP λj b=>?_
  obtain⟨e,c,_,rfl⟩:=Eb.1 b;have:=Il ht c;omega
 ·exact a
theorem Lg{l:Int}(a:0<=l/\l<6){F:PS}(h:Dd t F):Dd t (WK t l F):=by
 refine⟨λp=>JP λj d=>?_,λp f=>HR λj=>?_⟩
 ·obtain⟨q,c,e,b⟩:=Ml.1 d
  exact Mf (JD ht (h.lt q)) b
 ·cases hb:(WK t l F p).testBit j
  ·rfl
  ·obtain⟨q,c,e,b⟩:=Ml.1 hb
   have:=DH (CG ht) c a.1 a.2;omega
theorem QQ.lt{F0:PS}(h:Dd t F0){p j:Nat}(c:QQ t F0 p j):p<t.q.nx.length/\j<16:=by
 induction c with
 | @base p j hb=>
  refine⟨?_,Mf (h.lt p) hb⟩
  rcases po p t.q.nx.length with a|a
  ·exact a
  ·rw[h.z p a]at hb;simp at hb
 | @step p j e _ d f _ b=>
  have a:=Il ht d;have g:=DH (CG ht) b.1 a.2.2.2.2.1 a.2.2.2.2.2;omega
theorem cO{F0:PS}(h:Dd t F0):Dd t (Td t F0):=by
 refine⟨λp=>JP λj a=>(OS.1 a).1,λp b=>HR λj=>?_⟩;cases hb:(Td t F0 p).testBit j
 ·rfl
 ·have:=((OS.1 hb).2.lt ht h).1
  omega
theorem cM{F0 G:PS}(c:Dd t F0)(n:∀p,t.q.nx.length<=p->G p=0)(m:∀p j,(F0 p).testBit j=true->(G p).testBit j=true)(b:∀p j,(G p).testBit j=true->QQ t F0 p j)
 (k:∀p l j,p<t.q.nx.length->l∈Cu t->(Cv t.s.es l (G p)).testBit j=true->(G (Cz t.q p l).toNat).testBit j=true):G=Td t F0:=by
 have key:∀ {p j:Nat},QQ t F0 p j->(G p).testBit j=true:=λ{p j} a=>by
  induction a with
  | base hb=>exact m _ _ hb
  | @step p j e a i f g d=>exact k p e.l _ (a.lt ht c).1 f (Eb.2 ⟨e,i,⟨rfl,by rw[g];exact d⟩,rfl⟩)
 funext p;refine qm λj=>?_;rw[p9,OS];exact⟨λh=>⟨((b p j h).lt ht c).2,b p j h⟩,λh=>key h.2⟩
end
def I8:PS:=λp=>if p=0 then 1 else 0
noncomputable def CA(t:CP):PS:=Td t I8
noncomputable def DA(t:CP)(l:Int)(F:PS):PS:=Td t (WK t l F)
def Fy(t:CP)(F:PS):Bool:=(List.range t.q.nx.length).any λp=>decide (F p≠0) && !(t.q.ac.getD p false)
noncomputable def Gg(t:CP):PS->W->Bool
 | F,[]=>!Fy t F
 | F,c::w=>!Fy t F && Gg t (DA t ((c.toNat:Int)-97) F) w
noncomputable def LS(t:CP)(w:W):Bool:=Gg t (CA t) w
section
variable {t:CP}(ht:Bc t=true)
include ht
theorem MU:Dd t I8:=by
 have h:=AJ (CG ht);refine⟨λp=>by unfold I8;split<;>omega,λp a=>by unfold I8;rw[if_neg (by omega)]⟩
theorem GK:Dd t (CA t):=cO ht (MU ht)
theorem Mp{l:Int}(a:0<=l/\l<6){F:PS}(h:Dd t F):Dd t (DA t l F):=cO ht (Lg ht a h)
end
end Go.Am
namespace Go.Am
open Go Go.Proofs
set_option maxHeartbeats 1000000
set_option maxRecDepth 4000
attribute [local irreducible] A6 CC Lex Bz Ak Spec
variable {TB:BJ}
theorem VO:∀ {l:List Int},l.Pairwise (· < ·)->(∀x∈l,0<=x)->∀j:Nat,(BQ l).testBit j=true↔(j:Int)∈l
 | [],_,_,j=>by simp[BQ]
 | x :: r,e,f,j=>by
  have h:=f x (by simp);have c:=pF.1 e;have d:=VO c.2 (λy g=>f y (by simp[g])) j;obtain⟨m,o,n⟩:=NJ e h;rw[o,Nat.testBit_two_pow_mul];rw[n,Nat.testBit_two_pow_mul]at d;rw[o3,<-d];by_cases k:j=x.toNat
  ·subst k
   simp;omega
  ·have b:¬(j:Int)=x:=by omega
   have hb:x.toNat<=j->(2*m+1).testBit (j-x.toNat)=(2*m).testBit (j-x.toNat):=λa=>by
    obtain⟨i,hi⟩:∃i,j-x.toNat=i+1:=⟨j-x.toNat-1,by omega⟩
    rw[hi,qM,qM];congr 1;omega
   by_cases a:x.toNat<=j
   ·rw[hb a];simp[b]
   ·simp[a,b]
def E4(m k:Nat):List Int:=((List.range k).filter (m.testBit ·)).map Int.ofNat
theorem Uy(m k:Nat):E4 m (k+1)=E4 m k++if m.testBit k then [(k:Int)] else []:=by
 unfold E4;rw[qz,pV,pO];cases h:m.testBit k<;>simp[h]
theorem SE(m:Nat):∀k,BQ (E4 m k)=m%2 ^ k
 | 0=>by simp[E4,BQ,Nat.mod_one]
 | k+1=>by
  rw[Uy,Qr,SE m k,rR,Nat.mod_mul,rZ];by_cases h:m / 2 ^ k%2=1
  ·rw[h];simp[BQ]
  ·rw[show m / 2 ^ k%2=0 by omega];simp[BQ]
theorem QX(m k:Nat):(E4 m k).Pairwise (· < ·):=by
 unfold E4;rw[qE]
 exact(List.pairwise_lt_range.filter _).imp λh=>by simpa using h
theorem Nd{m k:Nat}{x:Int}(h:x∈E4 m k):0<=x/\x<k/\m.testBit x.toNat=true:=by
 unfold E4 at h;obtain⟨n,a,rfl⟩:=d9.1 h;obtain⟨c,b⟩:=o9.1 a;have:=o5.1 c;exact⟨by simp,by simp;omega,by simpa using b⟩
theorem SZ{m:Nat}(h:m<65536):m=BQ (E4 m 16):=by rw[SE];omega
def Ry(es:List Eo)(l:Int)(xs:List Int):Nat:=xs.foldl (λa x=>a ||| BQ (MX es x.toNat l.toNat)) 0
theorem P6{s:Sys}(b:AX s=true){l:Int}{j:Nat}:∀ {xs:List Int} {a:Nat},(xs.foldl (λa x=>a ||| BQ (MX s.es x.toNat l.toNat)) a).testBit j=true↔a.testBit j=true\/∃x∈xs,(j:Int)∈MX s.es x.toNat l.toNat
 | [],a=>by simp
 | x::xs,a=>by
  rw[p8,P6 b,ql,o8];have c:=FK b s.es.length x.toNat l.toNat;rw[io]at c;have e:=VO c (λy d=>(NP b (k:=s.es.length) (by rw[io];exact d)).1) j;rw[e];simp only[o3,exists_eq_or_imp,or_assoc]
theorem gL{s:Sys}(g:AX s=true){l:Int}(r:0<=l){m:Nat}(n:m<65536):Ry s.es l (E4 m 16)=Cv s.es l m:=by
 refine qm λj=>?_;rw[p9];unfold Ry;rw[P6 g,Eb];simp only[sT,ro,false_or];constructor
 ·rintro⟨x,k,h⟩
  obtain⟨q,d,i⟩:=Nd k;unfold MX at h;obtain⟨e,a,p⟩:=d9.1 h;obtain⟨c,b⟩:=o9.1 a;simp only[d4,decide_eq_true_eq]at b;exact⟨e,c,⟨by omega,by rw[show e.f.toNat=x.toNat by omega];exact i⟩,by omega⟩
 ·rintro⟨e,a,⟨q,d⟩,i⟩
  have hb:=Du g a;unfold DT at hb;simp only[d4,decide_eq_true_eq]at hb;have o:=Mf n d;refine⟨e.f,?_,?_⟩
  ·unfold E4
   exact d9.2 ⟨e.f.toNat,o9.2 ⟨o5.2 o,d⟩,by simp;omega⟩
  ·unfold MX
   refine d9.2 ⟨e,o9.2 ⟨a,?_⟩,by omega⟩;simp only[d4,decide_eq_true_eq];omega
theorem gM{s:Sys}(b:AX s=true){l:Int}{xs:List Int}:Ry s.es l xs<65536:=JP λj a=>by
 unfold Ry at a;rw[P6 b]at a;simp only[sT,ro,false_or]at a;obtain⟨x,_,c⟩:=a;have:=NP b (k:=s.es.length) (by rw[io];exact c);omega
theorem OY{a b:Nat}(ha:a<2 ^ 62)(hb:b<2 ^ 62):Gq .i64 (a:Nat) (b:Nat)=((a ||| b:Nat):Int):=by
 have d:a ||| b<2 ^ 62:=qF ha hb;unfold Gq
 have c:(BitVec.ofInt IntKind.i64.bits (a:Int) ||| BitVec.ofInt IntKind.i64.bits (b:Int)).toNat=a ||| b:=by
  have e:IntKind.i64.bits=64:=rfl;rw[e];simp only[BitVec.toNat_or,BitVec.ofInt_natCast,BitVec.toNat_ofNat];rw[pp (by omega),pp (by omega)]
 rw[c];exact IntWalk.i64_in _ (by omega)
theorem ij[Dl TB]{s:Sys}(r:AX s=true){l:Int}(F:0<=l/\l<6){m:Nat}(u:m<65536):Pure Tryz.prog TB 93 [.o (.ip (Ga s.es)),eI .i64 (m:Nat),eI .i64 l] (eI .i64 (Cv s.es l m:Nat)):=by
 rw[<-gL r F.1 u];rw[SZ u]
 have hb:∀x∈E4 m 16,0<=x/\x<16:=λx h=>⟨(Nd h).1,(Nd h).2.1⟩
 have I:=QX m 16;rw[<-SZ u]
 conv=>arg 4;rw[SZ u]
 generalize E4 m 16=xs at *;refine eG Tryz.func93 rfl (by kernel_rfl) rfl ?_;intro Γ c;(repeat first|refine tA rfl ?_|refine aU rfl ?_|apply Aa);apply aB;refine aL (α:={k:Nat // k<=xs.length}) [0,2] [] rfl rfl (λ⟨k,hk⟩=>[(1,eI .i64 (BQ (xs.drop k):Nat)),(7,eI .i64 (Ry s.es l (xs.take k):Nat))]) (λ⟨k,hk⟩=>[]) 0 (λ⟨k,hk⟩=>xs.length-k) (⟨0,by omega⟩) c rfl (by (simp[cX,zC,c]<;>rfl)) ?_;rintro⟨k,hk⟩;(try dsimp only[cA,cB]);by_cases A:k<xs.length
 ·obtain⟨x,h⟩:=get_some A
  have B:=BF h;have d:=hb x (co h)
  have f:(x::xs.drop (k+1)).Pairwise (· < ·):=by rw[<-B];exact I.sublist (List.drop_sublist _ _)
  have z:BQ (x::xs.drop (k+1))<2 ^ 16:=by
   refine MA f λy q=>?_;rw[<-B]at q;exact hb y (qk q)
  have w:=JE (x:=x) (l:=xs.drop (k+1));have p:=VP f d.1 (by omega);have n:=RX f d.1 (by omega);rw[<-B]at z w p n;have e:=iV (TB:=TB) (BQ (xs.drop k)) (by omega) (by omega);rw[p]at e
  have ex:((x.toNat:Nat):Int)=x:=by omega
  rw[ex]at e;have i:=FK r s.es.length x.toNat l.toNat;rw[io]at i;have G:BQ (MX s.es x.toNat l.toNat)<65536:=MA (t:=16) i λy q=>NP r (k:=s.es.length) (by rw[io];exact q);have H:Ry s.es l (xs.take k)<65536:=gM r;have j:=OY (a:=Ry s.es l (xs.take k)) (b:=BQ (MX s.es x.toNat l.toNat)) (by omega) (by omega)
  have v:Ry s.es l (xs.take (k+1))=Ry s.es l (xs.take k) ||| BQ (MX s.es x.toNat l.toNat):=by unfold Ry;rw[d8,h,rv];rfl
  rw[<-v]at j;(repeat first|refine tA rfl ?_|refine s2 rfl λ_ g=>?_|refine aU rfl ?_|apply Aa)
  ((refine aC rfl ?_ ?_<;>rintro⟨⟩);all_goals try(exfalso;(simp only[oZ] at *;omega)))
  apply aK;refine aS (aB ?_);refine rG (Hm []) (by kernel_rfl) ?_;(repeat first|(refine sA rfl ?_ ?_;first|exact tI|omega)|refine sP rfl (e) rfl ?_|(refine Ag rfl ?_;refine gA rfl ?_;first|refine gS (λ_ _=>ET rfl (dC d F)) ?_)|refine aU rfl ?_|apply Aa);refine⟨⟨k+1,by omega⟩,by dsimp only;(omega),[],?_⟩;simp[cX,zC,c,j,n]
 ·obtain rfl:k=xs.length:=by omega
  rw[io];(repeat first|refine tA rfl ?_|refine s2 rfl λ_ g=>?_|refine aU rfl ?_|apply Aa);(refine aC rfl ?_ ?_<;>rintro⟨⟩)
  ·exfalso
   rw[q9]at g;simp[BQ]at g
  apply aE;(repeat first|refine tA rfl ?_|refine aU rfl ?_|apply Aa);(subst_vars;exact aR ⟨_,rfl,rfl⟩)
end Go.Am
