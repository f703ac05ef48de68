/-
  Automata without useless states, and prefix-closed ones: walked.
-/
import Derived.Test.YtgpbfllcjdfelaaGreatDoorPart17
import Derived.Laws.StructEq
set_option linter.all false
namespace Go.Am
open Go Go.Proofs
set_option maxHeartbeats 1000000
set_option maxRecDepth 4000
attribute [local irreducible] A9 CY Lex BV Ak Spec
variable {TB:BR}
theorem gd{a:AV}{q l:Int}(d:0<=q/\q<a.nx.length)(b:l∈Ac a.al):Pure Tryz.prog TB 134 [eI .i64 q,eI .i64 l,.o (.ip [.l (EG a)])] (eI .i64 (fA a q l)):=by
 have b:=Ai b;have ta:=IY (a:=a) (q:=q.toNat) (by omega)
 have el:((l.toNat:Nat):Int)=l:=by omega
 have ra:=Hi (h:=λl=>BS a q.toNat l) b.1 (by omega);simp only[el]at ra;refine eN Tryz.func134 rfl (by kernel_rfl) rfl ?_;intro Z c;(repeat first|(refine sA rfl ?_ ?_;first|exact tI|omega)|(refine s4 rfl ‹_› rfl ?_ ?_;omega)|(refine Af rfl ?_;refine gA rfl ?_;first|refine gS (λ_ _=>Dy rfl ra) ?_)|refine aU rfl ?_|apply Aa);refine aR ⟨_,rfl,rfl⟩
theorem je{a:AV}(h:cK a):Pure Tryz.prog TB 58 [AX a] (AX (KI a)):=by
 have A:=h.b.1;have m:=h.n1;have B:=h.ac;have j:=JS (TB:=TB) a h.b;have s:=Cn (TB:=TB) a.al;obtain⟨nd,rows,I,H,J,G,F⟩:=lr h.b h.n1
 have e:Pure Tryz.prog TB 111 [eI .i64 0,Al (Ac a.al),eI .i64 a.nx.length,.o (.fn 134 [.ip [.l (EG a)]])] (lZ (VD a.nx.length (fA a) (Ac a.al) 0)):=by
  refine VE (lim:=a.nx.length) (R:=λq=>0<=q/\q<((a.nx.length:Nat):Int)) ⟨m,A⟩ (AH _ 6) (by omega) (λq l f i=>?_) (λq l f i=>gd f i) rfl (λr=>rfl);have i:=Ai i;exact OO h.b (q:=q.toNat) (by omega) i.1 (by omega)
 rw[I]at e;rw[F];have z:=H.len;refine eG Tryz.func58 rfl (by kernel_rfl) rfl ?_;intro Z c;(repeat first|refine tA rfl ?_|refine sP rfl (j) rfl ?_|refine aU rfl ?_|apply Aa);refine Ak.AB [1] [(1,.o (.ip (AL a))),(2,.o (.ptr 0 3 0 0)),(3,.o (.ip [.l (EG a)]))] ⟨⟨_,rfl,.inl rfl⟩,⟨_,rfl,.inl rfl⟩,⟨_,rfl,.inr (.o (.box rfl (EK.refl [.l (EG a)])))⟩,trivial⟩ ?_;have p:(List.range a.nx.length).length=a.nx.length:=sE;rw[<-p]at e;refine rG (Gk []) (by kernel_rfl) ?_;(repeat first|refine sN rfl ?_|refine tA rfl ?_|refine sP rfl (s) rfl ?_|refine sP rfl (e) rfl ?_|refine aU rfl ?_|apply Aa);(refine pW rfl ?_ rfl (by rfl);refine Ic 2 1 4 rfl rfl rfl (by rfl) (by rfl) ?_);(repeat first|refine sN rfl ?_|refine tA rfl ?_|refine aU rfl ?_|apply Aa);apply aB;refine aL (α:={k:Nat // k<=nd.length}) [1,2,7,27,28] [0] rfl rfl (λ⟨k,hk⟩=>[(29,eI .i64 k)]) (λ⟨k,hk⟩=>[(3,.cells 29 3 [[.d (iD a.al),.d (CA rows),.arr 2 1 0 k]]),(2,.cells 4 1 (((nd.take k).map (KA a)).map AF))]) 4 (λ⟨k,hk⟩=>nd.length-k) (⟨0,by omega⟩) c rfl (by (simp[cX,zC,c,eC,Bp,Ae])) ?_;rintro⟨k,hk⟩;(try dsimp only[cA,cB]);by_cases n:k<nd.length
 ·obtain⟨q,f⟩:=get_some n
  have y:=get_map (g:=Bw) f;have x:=G q (co f);obtain⟨bb,hb⟩:=get_some (l:=a.ac) (k:=q.toNat) (by omega);have u:=get_map (g:=HU) hb;have t:KA a q=bb:=IE hb
  have ht:nd.take (k+1)=nd.take k++[q]:=by rw[f6,f];rfl
  rw[f9]at u;(repeat first|refine s2 rfl λ_ v=>?_|refine aU rfl ?_|apply Aa)
  ((refine aC rfl ?_ ?_<;>rintro⟨⟩);all_goals try(exfalso;(simp only[oZ] at *;omega)))
  apply aK;refine aS (aB ?_);(repeat first|refine tA rfl ?_|(refine s4 rfl ‹_› rfl ?_ ?_;omega)|refine aU rfl ?_|apply Aa);refine rG (Gk [8,10]) (by kernel_rfl) ?_;(repeat first|refine tA rfl ?_|(refine s4 rfl ‹_› rfl ?_ ?_;omega));(refine pW rfl ?_ rfl (by rfl);refine Au rfl rfl rfl (by first|(simp;done)|(simp;(omega))) rfl (by intro r w;simp at w;subst w;rfl) (by rfl) (am rfl) (by simp;omega) ?_);(repeat first|(refine sA rfl ?_ ?_;first|exact tI|omega)|refine aU rfl ?_|apply Aa);refine⟨⟨k+1,by omega⟩,by dsimp only;(omega),[0,1,4,3],?_⟩;simp[cX,zC,c,eC,Bp,Ae,ht,t]
 ·obtain rfl:k=nd.length:=by omega
  rw[io];(repeat first|refine s2 rfl λ_ v=>?_|refine aU rfl ?_|apply Aa)
  ((refine aC rfl ?_ ?_<;>rintro⟨⟩);all_goals try(exfalso;(simp only[oZ] at *;omega)))
  apply aE;refine Ak.AB [2,3] [(2,.o (.ptr 0 3 0 0)),(7,.o (.ip [iD a.al,CA rows,E5 (nd.map (KA a))]))] ⟨⟨_,rfl,.inl rfl⟩,⟨_,rfl,.inr (.o (.box rfl (.cons .d (.cons .d (.cons (.full rfl (by simp[d5]) (by simp)) .nil)))))⟩,trivial⟩ ?_;(repeat first|refine tA rfl ?_|refine aU rfl ?_|apply Aa);(subst_vars;exact aR ⟨_,rfl,rfl⟩)
def aW(a:AV)(s:Int):Gr:=⟨a.nx.length,λx l=>[fA a x l],KA a,Ac a.al,s⟩
theorem kc{a:AV}(ha:O9 a){s:Int}(e:0<=s/\s<((a.nx.length:Nat):Int)):Jc (aW a s):=by
 refine⟨e,λx d l c y b=>?_,DN _ _⟩;have c:=Ai (show l∈AM a.al 6 from c);have d:0<=x/\x<((a.nx.length:Nat):Int):=d
 have b:y=fA a x l:=by simpa[aW]using b
 subst b;exact OO ha (by omega) c.1 (by omega)
theorem Su{a:AV}{s:Int}:∀ {w:List Int} {i x:Int},reach (aW a s) w i x↔x=C3 (fA a) i w
 | [],i,x=>⟨λh=>h.symm,λh=>h.symm⟩
 | l::w,i,x=>by
  have b:=Su (a:=a) (s:=s) (w:=w) (i:=fA a i l) (x:=x)
  show _↔x=C3 (fA a) (fA a i l) w
  rw[<-b];simp only[reach,aW,sw,exists_eq_left]
theorem hY{a:AV}(ha:O9 a){s:Int}:cS Tryz.prog TB 3 (aW a s) 136 [.ip [.l (EG a)]]:=by
 intro node l outs d b g;have b:=Ai (show l∈AM a.al 6 from b);have d:0<=node/\node<((a.nx.length:Nat):Int):=d;have hb:=ha.1;have ta:=IY (a:=a) (q:=node.toNat) (by omega)
 have el:((l.toNat:Nat):Int)=l:=by omega
 have ra:=Hi (h:=λl=>BS a node.toNat l) b.1 (by omega);simp only[el]at ra;have f:(aW a s).succ node l=[BS a node.toNat l]:=rfl;rw[f];refine eN Tryz.func136 rfl (by kernel_rfl) rfl ?_;intro Z e;(repeat first|(refine sA rfl ?_ ?_;first|exact tI|omega)|(refine s4 rfl ‹_› rfl ?_ ?_;omega)|(refine Af rfl ?_;refine gA rfl ?_;first|refine gS (λ_ _=>Dy rfl ra) ?_)|refine aU rfl ?_|apply Aa);(refine pW rfl ?_ rfl (by rfl);refine Au rfl rfl rfl (by first|(simp;done)|(simp;(omega))) rfl (by intro r c;simp at c;subst c;rfl) (by rfl) (am rfl) (by simp;omega) ?_);(repeat first|refine tA rfl ?_|apply Aa);refine aR ⟨_,rfl,by simp,rfl,by simp[kill]⟩
theorem ia{a:AV}(f:a.ac.length=a.nx.length){n:Int}(e:0<=n/\n<((a.nx.length:Nat):Int)):Pure Tryz.prog TB 137 [eI .i64 n,.o (.ip (AL a))] (eB (KA a n)):=by
 obtain⟨bb,hb⟩:=get_some (l:=a.ac) (k:=n.toNat) (by omega);have c:=get_map (g:=HU) hb;have b:KA a n=bb:=IE hb;rw[f9]at c;rw[b];refine eN Tryz.func137 rfl (by kernel_rfl) rfl ?_;intro Z d;(repeat first|refine tA rfl ?_|(refine s4 rfl ‹_› rfl ?_ ?_;omega)|refine aU rfl ?_|apply Aa);refine aR ⟨_,rfl,rfl⟩
theorem dX{a:AV}(h:cK a){s:Int}(k:0<=s/\s<((a.nx.length:Nat):Int)):Pure Tryz.prog TB 59 [AX a,eI .i64 s] (eB (Dh (aW a s)).isSome):=by
 have e:=h.b.1;have d:=JS (TB:=TB) a h.b;have g:=Cn (TB:=TB) a.al
 have c:Pure Tryz.prog TB 135 [eI .i64 a.nx.length,Al [s],Al (Ac a.al),.o (.fn 136 [.ip [.l (EG a)]]),.o (.fn 137 [.ip (AL a)])] (KS (Dh (aW a s))):=
  ID (kc h.b k) (show a.nx.length<=1048576 by omega) (λx j=>by have:=Ai j;omega) (AH _ 6) (λnode l e m=>by show 1<=a.nx.length;have:=h.n1;omega) (hY h.b) (λn e=>ia h.ac e) rfl (λr=>rfl) (λr=>rfl) (C8 _)
 generalize Dh (aW a s)=o at *;refine eG Tryz.func59 rfl (by kernel_rfl) rfl ?_;intro Z i;(repeat first|refine tA rfl ?_|refine sP rfl (d) rfl ?_|refine aU rfl ?_|apply Aa);have f:(List.range a.nx.length).length=a.nx.length:=sE;rw[<-f]at c;refine Ak.AB [0] [(1,eI .i64 s),(2,.o (.ip (AL a))),(5,.o (.ip [.l (EG a)]))] ⟨⟨_,rfl,.inl rfl⟩,⟨_,rfl,.inl rfl⟩,⟨_,rfl,.inr (.o (.box rfl (EK.refl [.l (EG a)])))⟩,trivial⟩ ?_;refine rG (Gk []) (by kernel_rfl) ?_;(repeat first|refine sN rfl ?_|refine tA rfl ?_|refine sP rfl (g) rfl ?_|refine sP rfl (c) rfl ?_|refine aU rfl ?_|apply Aa);refine aR ⟨_,rfl,rfl⟩
theorem bJ{a:AV}(ha:AT a=true)(s:∀u v,AN (A2 a.al) u->AN (A2 a.al) v->LA a u=false->LA a (u++v)=false){i:Nat}(hi:i<(KI a).nx.length)(hb:KA (KI a) i=false){l:Int}(y:l∈Ac a.al):Dh (aW (KI a) (BS (KI a) i l))=none:=by
 have e:=YX ha;obtain⟨J,I,H,t4,z⟩:=o8 e.b e.n1;have r:=Ai y;have j:=C8 (aW (KI a) (BS (KI a) i l))
 cases A:Dh (aW (KI a) (BS (KI a) i l)) with
 | none=>rfl
 | some w=>
  exfalso;rw[A]at j;obtain⟨B,⟨x,o,d⟩,_⟩:=j;have o:x=C3 (fA (KI a)) (BS (KI a) i l) w:=Su.1 o
  have t:∀m∈w,m∈Ac a.al:=λm q=>by have:=B m q;rw[show (aW (KI a) (BS (KI a) i l)).ls=Ac (KI a).al from rfl,gb]at this;exact this
  obtain⟨u,p,f⟩:=z i hi
  have g:AN (A2 a.al) (lb l::Dg w):=λc k=>by
   rcases mt.1 k with rfl|k
   ·exact d8.2 ⟨l,y,rfl⟩
   ·exact QI t c k
  have G:LA a u=false:=by rw[<-jm e.b e.n1 p,jl,f];exact hb
  have n:=s u (lb l::Dg w) p g G;rw[<-jm e.b e.n1 (λc k=>by rcases d9.1 k with h|h;exact p c h;exact g c h),jl,Ql,f]at n
  have F:DJ (KI a) (i:Nat) (lb l::Dg w)=C3 (fA (KI a)) (BS (KI a) i l) w:=by
   rw[Kj w _ (λm q=>by rw[gb];exact t m q)]
   show DJ _ (BS _ ((i:Int).toNat) (((lb l).toNat:Int)-97)) (Dg w)=_
   rw[IH r.1 (by omega),f9]
  rw[F,<-o]at n;have d:KA (KI a) x=true:=d;rw[d]at n;cases n
theorem OE{a:AV}(ha:AT a=true)(F:∀u v,AN (A2 a.al) u->AN (A2 a.al) v->LA a u=false->LA a (u++v)=false):Pure Tryz.prog TB 16 [AX a] (eB true):=by
 have B:=YX ha;obtain⟨r,L,T,t4,S⟩:=o8 B.b B.n1;have K:=Bj (TB:=TB) a;rw[ha]at K;have J:=je (TB:=TB) B;have N:=λi hi hb l p=>bJ ha F (i:=i) hi hb (l:=l) p;have Q:(Ac a.al).length<=6:=AH _ 6;have w:=gb a;have x:=λs M=>dX (TB:=TB) (a:=KI a) ⟨r,L,t4⟩ (s:=s) M;generalize KI a=m at *;have U:=r.1;refine eG Tryz.func16 rfl (by kernel_rfl) rfl ?_;intro Z d;(repeat first|refine tA rfl ?_|refine s2 rfl λ_ c=>?_|refine sP rfl (K) rfl ?_|refine sP rfl (J) rfl ?_|refine aU rfl ?_|apply Aa)
 ((refine aC rfl ?_ ?_<;>rintro⟨⟩);all_goals try (simp at c;done))
 apply aK;(repeat first|refine sN rfl ?_|refine tA rfl ?_|refine sP rfl (J) rfl ?_|refine aU rfl ?_|apply Aa);refine Ak.AB [0] [(3,.o (.ip (AL m))),(14,Fa m.nx),(15,eI .i64 m.nx.length),(16,eI .i64 0)] ⟨⟨_,rfl,.inr (.o (.box rfl (EK.refl (AL m))))⟩,⟨_,rfl,.inl rfl⟩,⟨_,rfl,.inl rfl⟩,⟨_,rfl,.inl rfl⟩,trivial⟩ ?_;apply aB;refine aL (α:={i:Nat // i<=m.nx.length}) [3,14,15] [] rfl rfl (λ⟨i,hi⟩=>[(16,eI .i64 i)]) (λ⟨i,hi⟩=>[]) 0 (λ⟨i,hi⟩=>m.nx.length-i) (⟨0,by omega⟩) d rfl (by (simp[cX,zC,d])) ?_;rintro⟨i,hi⟩;(try dsimp only[cA,cB]);by_cases e:i<m.nx.length
 ·have n:=k9 r e
  have P:((Ac m.al).map (BS m i)).length<=6:=by rw[gt];exact AH _ 6
  have t:=get_map (g:=EP) n;obtain⟨bb,hb⟩:=get_some (l:=m.ac) (k:=i) (by omega);have R:=get_map (g:=HU) hb;have G:KA m i=bb:=IE (by rw[f9];exact hb);(repeat first|refine s2 rfl λ_ c=>?_|refine aU rfl ?_|apply Aa)
  ((refine aC rfl ?_ ?_<;>rintro⟨⟩);all_goals try(exfalso;(simp only[oZ] at *;omega)))
  apply aK;refine aS (aB ?_);(repeat first|refine sN rfl ?_|refine tA rfl ?_|(refine s4 rfl ‹_› rfl ?_ ?_;omega)|refine aU rfl ?_|apply Aa);apply aB;refine aL (α:={j:Nat // j<=((Ac m.al).map (BS m i)).length}) [3,4,14,15,16,21,22] [] rfl rfl (λ⟨j,A⟩=>[(23,eI .i64 j)]) (λ⟨j,A⟩=>[]) 0 (λ⟨j,A⟩=>((Ac m.al).map (BS m i)).length-j) (⟨0,by omega⟩) d rfl (by (simp[cX,zC,d])) ?_;rintro⟨j,A⟩;(try dsimp only[cA,cB]);by_cases z:j<((Ac m.al).map (BS m i)).length
  ·obtain⟨to,h⟩:=get_some z
   have I:=get_map (g:=Bw) h;obtain⟨l,p,f⟩:=d8.1 (co h);rw[w]at p;have y:=Ai p;have q:=OO r e y.1 (by omega);rw[f]at q;have H:=x to q;cases bb
   ·rw [<-f,N i e G l p,f]at H
    (repeat first|refine s2 rfl λ_ c=>?_|refine aU rfl ?_|apply Aa)
    ((refine aC rfl ?_ ?_<;>rintro⟨⟩);all_goals try(exfalso;(simp only[oZ] at *;omega)))
    apply aK;refine aS (aB ?_)
    (repeat' first|refine tA rfl ?_|(refine s4 rfl ‹_› rfl ?_ ?_;omega)|refine s2 rfl λ_ c=>?_|refine sP rfl (H) rfl ?_|refine s3 rfl ?_ ?_<;>rintro rfl|refine aU rfl ?_|apply Aa|(refine aC rfl ?_ ?_<;>rintro⟨⟩));all_goals try contradiction
    all_goals
     apply aK;(repeat first|(refine sA rfl ?_ ?_;first|exact tI|omega)|refine aU rfl ?_|apply Aa);refine⟨⟨j+1,by omega⟩,by dsimp only;(omega),[],?_⟩;simp[cX,zC,d]
   ·(repeat first|refine s2 rfl λ_ c=>?_|refine aU rfl ?_|apply Aa)
    ((refine aC rfl ?_ ?_<;>rintro⟨⟩);all_goals try(exfalso;(simp only[oZ] at *;omega)))
    apply aK;refine aS (aB ?_)
    (repeat' first|refine tA rfl ?_|(refine s4 rfl ‹_› rfl ?_ ?_;omega)|refine s2 rfl λ_ c=>?_|refine sP rfl (H) rfl ?_|refine s3 rfl ?_ ?_<;>rintro rfl|refine aU rfl ?_|apply Aa|(refine aC rfl ?_ ?_<;>rintro⟨⟩));all_goals try contradiction
    all_goals
     apply aK;(repeat first|(refine sA rfl ?_ ?_;first|exact tI|omega)|refine aU rfl ?_|apply Aa);refine⟨⟨j+1,by omega⟩,by dsimp only;(omega),[],?_⟩;simp[cX,zC,d]
  ·(repeat first|refine s2 rfl λ_ c=>?_|refine aU rfl ?_|apply Aa)
   ((refine aC rfl ?_ ?_<;>rintro⟨⟩);all_goals try(exfalso;(simp only[oZ] at *;omega)))
   apply aE;(repeat first|(refine sA rfl ?_ ?_;first|exact tI|omega)|refine aU rfl ?_|apply Aa);refine⟨⟨i+1,by omega⟩,by dsimp only;(omega),[],?_⟩;simp[cX,zC,d]
 ·(repeat first|refine s2 rfl λ_ c=>?_|refine aU rfl ?_|apply Aa)
  ((refine aC rfl ?_ ?_<;>rintro⟨⟩);all_goals try(exfalso;(simp only[oZ] at *;omega)))
  apply aE;(repeat first|refine tA rfl ?_|refine aU rfl ?_|apply Aa);(subst_vars;exact aR ⟨_,rfl,rfl⟩)
theorem az(l:List Int)(h:l.length<=1048576):Spec Tryz.prog TB 257 [] 0 [Al l] (λx σ nx=>x=.o (.arr 0 1 0 l.length)/\nx=1/\σ=[(0,.cells 3 1 (l.map AE))]):=by
 refine eN Tryz.func257 rfl (by kernel_rfl) rfl ?_;intro Z a;(repeat first|refine aU rfl ?_);(refine Af rfl ?_;refine CG (λ_ _=>CK rfl) rfl ?_);(repeat first|refine tM rfl ?_|refine aU rfl ?_|apply Aa);(refine pW rfl ?_ rfl (by rfl);refine Mj rfl ?_;intro d b);(repeat first|apply Aa);(refine aC rfl ?_ ?_<;>rintro⟨⟩)
 ·obtain rfl:l=[]:=by simpa using b rfl
  (repeat first|refine aU rfl ?_);(refine pW rfl ?_ rfl (by rfl);refine Gu 1 3 ?_);(repeat first|apply Aa);refine aR ⟨_,rfl,rfl,rfl,rfl⟩
 ·apply aK
  (repeat first|refine aU rfl ?_);(refine pW rfl ?_ rfl (by rfl);refine Bh rfl rfl rfl rfl (by simp) (by rfl) (by rfl) (by rfl) (by rfl) ?_);(repeat first|refine tM rfl ?_);(refine pW rfl ?_ rfl (by rfl);refine Au rfl rfl rfl (by first|(simp;done)|(simp;(omega))) rfl (by intro r c;simp only[qt,d8]at c;obtain⟨_,_,rfl⟩:=c;rfl) (by rfl) (am rfl) (by simp;omega) ?_);(repeat first|refine tM rfl ?_|apply Aa);refine Ak.names [1] [(2,.o (.arr 0 1 0 l.length))] [(0,.cells 3 1 (l.map AE))] (by intro i hi;rw[a]at hi;omega) (by simp) (by simp[cX,zC,a]) (by simp[cX,zC,a]) ?_;refine aR ⟨_,rfl,rfl,rfl,rfl⟩
theorem ax(l:List Bool)(h:l.length<=1048576):Spec Tryz.prog TB 256 [] 0 [Pu l] (λx σ nx=>x=.o (.arr 0 1 0 l.length)/\nx=1/\σ=[(0,.cells 4 1 (l.map AF))]):=by
 refine eN Tryz.func256 rfl (by kernel_rfl) rfl ?_;intro Z a;(repeat first|refine aU rfl ?_);(refine Af rfl ?_;refine CG (λ_ _=>CK rfl) rfl ?_);(repeat first|refine tM rfl ?_|refine aU rfl ?_|apply Aa);(refine pW rfl ?_ rfl (by rfl);refine Mj rfl ?_;intro d b);(repeat first|apply Aa);(refine aC rfl ?_ ?_<;>rintro⟨⟩)
 ·obtain rfl:l=[]:=by simpa using b rfl
  (repeat first|refine aU rfl ?_);(refine pW rfl ?_ rfl (by rfl);refine Gu 1 4 ?_);(repeat first|apply Aa);refine aR ⟨_,rfl,rfl,rfl,rfl⟩
 ·apply aK
  (repeat first|refine aU rfl ?_);(refine pW rfl ?_ rfl (by rfl);refine Bh rfl rfl rfl rfl (by simp) (by rfl) (by rfl) (by rfl) (by rfl) ?_);(repeat first|refine tM rfl ?_);(refine pW rfl ?_ rfl (by rfl);refine Au rfl rfl rfl (by first|(simp;done)|(simp;(omega))) rfl (by intro r c;simp only[qt,d8]at c;obtain⟨_,_,rfl⟩:=c;rfl) (by rfl) (am rfl) (by simp;omega) ?_);(repeat first|refine tM rfl ?_|apply Aa);refine Ak.names [1] [(2,.o (.arr 0 1 0 l.length))] [(0,.cells 4 1 (l.map AF))] (by intro i hi;rw[a]at hi;omega) (by simp) (by simp[cX,zC,a]) (by simp[cX,zC,a]) ?_;refine aR ⟨_,rfl,rfl,rfl,rfl⟩
theorem Nc(a:AV)(ha:MS 1000000 a):AK Tryz.prog TB 199 0 [] 0 [AX a] (Jk a):=by
 have y:=ha.nx;have x:=ha.ac;have t:=ax (TB:=TB) a.ac (by omega);refine AK.Bd (AK.OU (m:=0) (am rfl) Tryz.func199 rfl (by kernel_rfl) (am rfl) ?_);intro Z b;(repeat first|refine tA rfl ?_|refine aU rfl ?_|apply Aa);refine R.Rz [(6,3),(0,2),(1,2),(2,2),(3,2),(4,1),(5,1),(7,5)] mixed (by kernel_rfl) rfl (by kernel_rfl) ?_;(repeat ((refine R.Af rfl ?_;first|(refine R.yQ (md:=false) rfl rfl rfl ?_ ?_;exact tI)|refine R.yP rfl rfl rfl rfl ?_ )));(refine R.Af rfl ?_;refine R.Kx (λ_=>?_) rfl rfl;refine Aj [] rfl rfl t ⟨rfl,by simp,by simp⟩ rfl trivial ?_;rintro u f h ⟨rfl,rfl,rfl⟩ _);(refine R.Af rfl ?_;refine R.Kx (λ_=>?_) rfl rfl;refine Ic 1 1 53 rfl rfl rfl (by rfl) (by rfl) ?_);(repeat ((refine R.Af rfl ?_;first|refine R.yA rfl rfl rfl rfl ?_ )));refine R.Rt ?_;apply aS;(repeat first|refine sN rfl ?_|refine tA rfl ?_|refine aU rfl ?_|apply Aa);apply aB;refine Ak.ca 3 ?_;refine aL (α:={s:Nat×Fm // s.1<=a.nx.length/\s.2.map (·.2)=a.nx.take s.1}) [2,3,13,14] [] rfl rfl (λs=>[(15,eI .i64 s.1.1)]) (λs=>[(0,.cells 29 3 [[.d (iD 0),.d (.l []),.d (.l [])]]),(1,.cells 4 1 (a.ac.map AF)),(2,.cells 53 1 (Ay s.1.2)),(3,.cells 29 3 [[.d (iD a.al),.arr 2 1 0 s.1.2.length,.arr 1 1 0 a.ac.length]]),(4,.sld 3 (sI s.1.2))]) 5 (λs=>a.nx.length-s.1.1) (⟨⟨0,[]⟩,by simp⟩) b rfl (by (simp[cX,zC,b,cN,Bp,Ae,eC]<;>rfl)) ?_;rintro⟨⟨k,l⟩,hk,e⟩;(try dsimp only[cA,cB]);have hk:k<=a.nx.length:=hk;have e:l.map (·.2)=a.nx.take k:=e
 have c:l.length=k:=by have:=congrArg List.length e;simp at this;omega
 (repeat first|refine s2 rfl λ_ z=>?_|refine aU rfl ?_|apply Aa)
 ((refine aC rfl ?_ ?_<;>rintro⟨⟩);all_goals try(exfalso;omega))
 ·have o:k<a.nx.length:=by (simp only[oZ] at *;omega)
  obtain⟨r,j⟩:=get_some (l:=a.nx) (k:=k) o;have w:=get_map (g:=EP) j;have n:=ha.row r (co j);have q:=az (TB:=TB) r (by omega);apply aK;refine aS (aB ?_);(repeat first|refine tA rfl ?_|(refine s4 rfl ‹_› rfl ?_ ?_;omega)|refine aU rfl ?_|apply Aa);refine rG (Ju [(1,13),(3,1008),(4,1008),(5,1),(7,1)]) (by kernel_rfl) ?_;(repeat first|refine tX rfl ?_);(refine Af rfl ?_;refine Dd ?_ rfl ⟨rfl,rfl⟩;refine Aj [] rfl rfl (q) ⟨rfl,by decide,by decide⟩ rfl (by simp[cX,zC,b,cN]) ?_;rintro u f h ⟨rfl,rfl,rfl⟩ _;refine⟨ER 3 rfl rfl,?_⟩);(refine Af rfl ?_;refine Dd ?_ rfl ⟨rfl,rfl⟩;refine Bh rfl rfl rfl rfl (by simp[eC,E.Bd,C.Bd]) (by rfl) (by rfl) (by rfl) (by rfl) ?_;refine⟨ER 3 rfl rfl,?_⟩);(refine pW rfl ?_ rfl (by rfl);refine Au rfl rfl rfl (CL _) rfl (by intro r n;simp at n;subst n;rfl) (by rfl) (am rfl) (by simp;omega) ?_);(repeat first|refine tA rfl ?_);apply Aa;refine Ak.Az [2,3,13,14,15] [] rfl rfl [] [(0,.cells 29 3 [[.d (iD 0),.d (.l []),.d (.l [])]]),(1,.cells 4 1 (a.ac.map AF)),(2,.cells 53 1 (Ay l++[[.arr 5 1 0 r.length]])),(3,.cells 29 3 [[.d (iD a.al),.arr 2 1 0 (l.length+1),.arr 1 1 0 a.ac.length]]),(4,.sld 3 (sI l)),(5,.cells 3 1 (r.map AE))] [0,1,7,3,4,5] (rl b rfl) (by (simp[cX,zC,b,cN,Bp,Ae,eC])) ?_;(try dsimp only[cA,cB]);refine Ak.TS 2 5 4 l r rfl rfl rfl λv=>?_;(repeat first|(refine sA rfl ?_ ?_;first|exact tI|omega)|refine aU rfl ?_|apply Aa);refine⟨⟨⟨k+1,l++[(v,r)]⟩,by dsimp only;omega,by dsimp only;rw[qe,e,f6,j];rfl⟩,by dsimp only;(omega),[0,1,2,3,4],?_⟩;(simp[cX,zC,b,cN]<;>rfl)
 have p:k=a.nx.length:=by (simp only[oZ] at *;omega)
 apply aE;(repeat first|refine tA rfl ?_|refine aU rfl ?_|apply Aa)
 have c:l.map (·.2)=a.nx:=by rw[e,p,io]
 refine aR ⟨_,rfl,[2,1,4],UN a.al 0 1 l.length a.ac.length,[(0,.cells 53 1 (Ay l)),(1,.cells 4 1 (a.ac.map AF)),(2,.sld 3 (sI l))],⟨by intro i hi;omega,by decide⟩,rfl,by (simp[cX,zC,b,cN]),l,c,rfl,rfl,rfl⟩
theorem Ph{a:AV}(ha:AT a=true):MS 1000000 a:=by
 have f:=AP ha;refine⟨by omega,by omega,λr c=>?_⟩;obtain⟨i,hi,e⟩:=pR c;obtain⟨row,b,h,g⟩:=HT ha hi;rw[d6 hi,e]at b
 injection b with b
 subst b;have d:(Ac a.al).length<=6:=AH a.al 6;omega
theorem KB{c:C}{L:W->Bool}{ok:W->Prop}(H:Jj Tryz.prog TB c L ok)(al:Int)(t:A3)(V:Ji ok (A2 al) t)(ht:Ho al 20012 t)(ho:Bk L (A2 al) t=none) :
 AK Tryz.prog TB 65 0 [] 0 [Iz al c,DU t] (Jk (AY L al t)):=by
 have b:=Eu c H.BT;have hrl:=ht.rl;have hcl:=ht.cl;have hla:(Ac al).length<=6:=AH al 6;have h:=ht.jM V (by omega)
 have K:(AY L al t).nx.length=t.rows.length:=by simp[AY]
 have hal:(AY L al t).ac.length=t.rows.length:=by simp[AY]
 refine AK.Bd (AK.OU (m:=0) (am rfl) Tryz.func65 rfl (by kernel_rfl) (am rfl) ?_);intro Z a;(repeat first|refine aU rfl ?_);(refine pW rfl ?_ rfl (by rfl);refine C4 rfl rfl ?_);(refine Af rfl ?_;refine CG (λ_ _=>De rfl rfl rfl) rfl ?_);(repeat first|refine tA rfl ?_|refine aU rfl ?_|apply Aa);(refine pW rfl ?_ rfl (by rfl);refine Aj [] rfl rfl (HK H al t h.1) ⟨rfl,by simp,by simp⟩ (by simp[EU,E.Bd,C.Cp,C.Bd,b,eC]) trivial ?_;rintro x0 X Y ⟨rfl,rfl,rfl⟩ _);(repeat first|refine tA rfl ?_|refine aU rfl ?_|apply Aa);(refine pW rfl ?_ rfl (by rfl);refine J7 1 1 53 2 1 4 rfl rfl (by decide) rfl rfl (by rfl) (by rfl) ?_);(repeat first|refine sN rfl ?_|refine tA rfl ?_|refine aU rfl ?_|apply Aa);apply aB;refine Ak.ca 3 ?_;refine aL (α:={s:Nat×Fm // s.1<=t.rows.length/\s.2.map (·.2)=(AY L al t).nx.take s.1}) [2,3,4,5,6,19,20] [0,1,2] rfl rfl (λs=>[(21,eI .i64 s.1.1)]) (λs=>[(5,.cells 29 3 [[.d (iD al),.arr 3 1 0 s.1.2.length,.arr 4 1 0 s.1.1]]),(3,.cells 53 1 (Ay s.1.2)),(4,.cells 4 1 (((AY L al t).ac.take s.1.1).map AF)),(6,.sld 3 (sI s.1.2))]) 7 (λs=>t.rows.length-s.1.1) (⟨⟨0,[]⟩,by simp,by simp⟩) a rfl (by (simp[cX,zC,a,cN,b,eC,Bp,Ae]<;>rfl)) ?_;rintro⟨⟨k,l⟩,B,A⟩;(try dsimp only[cA,cB]);have B:k<=t.rows.length:=B;have A:l.map (·.2)=(AY L al t).nx.take k:=A
 have hll:l.length=k:=by have:=congrArg List.length A;simp at this;omega
 by_cases R:k<t.rows.length
 ·obtain⟨r,u⟩:=get_some (l:=t.rows) (k:=k) R
  have hx':=get_map (g:=CR) u;have e:=co u;(repeat first|refine s2 rfl λ_ q=>?_|refine aU rfl ?_|apply Aa)
  ((refine aC rfl ?_ ?_<;>rintro⟨⟩);all_goals try(exfalso;(simp only[oZ] at *;omega)))
  apply aK;refine aS (aB ?_);(repeat first|refine tM rfl ?_|(refine s4 rfl ‹_› rfl ?_ ?_;omega)|refine aU rfl ?_|apply Aa);(refine pW rfl ?_ rfl (by rfl);refine Gu 1 3 ?_);(repeat first|refine sN rfl ?_|refine tM rfl ?_|refine sP rfl (Cn al) rfl ?_|refine aU rfl ?_|apply Aa);apply aB;refine aL (α:={j:Nat // j<=(Ac al).length}) [2,3,4,5,6,8,19,20,21,27,28] [0,1,2,3,4,5,6] rfl rfl (λs=>[(9,.o (.arr 7 1 0 s.1)),(29,eI .i64 s.1)]) (λs=>[(7,.cells 3 1 (((Ac al).take s.1).map λl=>[.d (iD ((C9 L t (r++[lb l]):Nat):Int))]))]) 8 (λs=>(Ac al).length-s.1) (⟨0,by omega⟩) a rfl (by (simp[cX,zC,a,cN,b,eC])) ?_;rintro⟨j,G⟩;(try dsimp only[cA,cB]);have G:j<=(Ac al).length:=G;by_cases F:j<(Ac al).length
  ·obtain⟨m,P⟩:=get_some F
   have hm':=get_map (g:=Bw) P;have n:=co P;have z:=Ai n;have hrb:=ht.onR r e;have N:=Mc (TB:=TB) H al t (r++[lb m]) (by omega) (λx u=>h.2 r e _ (d8.2 ⟨m,n,rfl⟩) x u) (λy hy=>by have:=(ht.onC y hy).2;simp;omega);have S:=Vt ho e n;(repeat first|refine s2 rfl λ_ q=>?_|refine aU rfl ?_|apply Aa)
   ((refine aC rfl ?_ ?_<;>rintro⟨⟩);all_goals try(exfalso;(simp only[oZ] at *;omega)))
   apply aK;refine aS (aB ?_);(repeat first|refine tA rfl ?_|(refine s4 rfl ‹_› rfl ?_ ?_;omega)|refine aU rfl ?_|apply Aa);refine rG (Gk [13]) (by kernel_rfl) ?_;(repeat first|(refine sA rfl ?_ ?_;first|exact tI|omega|simp only[oZ] at *;omega)|refine sP rfl (FH m z.1 (by omega)) rfl ?_|(refine Af rfl ?_;refine gA rfl ?_;first|refine gS (λ_ _=>XR rfl (by omega) (by omega)) ?_));rw[dW z.1];(repeat first|(refine Af rfl ?_;refine gA rfl ?_;first|refine gS (λ_ _=>A8 rfl rfl (by simp[E.BT,C.C1,C.BT,H.BT,eC]) N rfl) ?_|refine gQ (Zx rfl rfl rfl) (by rfl) ?_));(repeat first|refine tA rfl ?_);(refine pW rfl ?_ rfl (by rfl);refine Au rfl rfl rfl (by first|(simp;done)|(simp;(omega))) rfl (by intro r b;simp at b;subst b;rfl) (by rfl) (am rfl) (by simp;omega) ?_);(repeat first|(refine sA rfl ?_ ?_;first|exact tI|omega)|refine aU rfl ?_|apply Aa);rw[S];refine⟨⟨j+1,by omega⟩,by dsimp only;(omega),[0,1,2,3,4,5,6,8],?_⟩;simp[cX,zC,a,cN,b,f6,P]
  ·obtain rfl:j=(Ac al).length:=by omega
   have I:=V r ⟨r,e,[],.inl rfl,[],.inl rfl,by simp⟩
   have J:(AY L al t).nx.take (k+1)=(AY L al t).nx.take k++[(Ac al).map λl=>((C9 L t (r++[lb l]):Nat):Int)]:=by
    rw[f6];simp[AY,u]
   have p:(AY L al t).ac.take (k+1)=(AY L al t).ac.take k++[L r]:=by
    rw[f6];simp[AY,u]
   rw[io];generalize f:(Ac al).map (λl=>((C9 L t (r++[lb l]):Nat):Int))=row at *
   have w:(Ac al).length=row.length:=by rw[<-f];simp
   have M:(Ac al).map (λl=>[C.d (iD ((C9 L t (r++[lb l]):Nat):Int))])=row.map AE:=by rw[<-f,qt];rfl
   (repeat first|refine s2 rfl λ_ q=>?_|refine aU rfl ?_|apply Aa)
   ((refine aC rfl ?_ ?_<;>rintro⟨⟩);all_goals try(exfalso;(simp only[oZ] at *;omega)))
   apply aE;(repeat first|refine tX rfl ?_|refine aU rfl ?_);(refine pW rfl ?_ rfl (by rfl);refine Bh rfl rfl rfl rfl (by simp[eC]) (by rfl) (by rfl) (by rfl) (by rfl) ?_);(refine pW rfl ?_ rfl (by rfl);refine Au rfl rfl rfl (CL _) rfl (by intro r b;simp at b;subst b;rfl) (by rfl) (am rfl) (by simp;omega) ?_);(repeat first|refine tX rfl ?_|apply Aa);refine Ak.Az [2,3,4,5,6,8,19,20,21] [0,1,2,4] rfl rfl [] [(3,.cells 53 1 (Ay l++[[.arr 7 1 0 row.length]])),(5,.cells 29 3 [[.d (iD al),.arr 3 1 0 (l.length+1),.arr 4 1 0 k]]),(6,.sld 3 (sI l)),(7,.cells 3 1 (row.map AE))] [0,1,2,9,4,5,6,7] (rl a rfl) (by (simp[cX,zC,a,cN,b,Bp,Ae,eC,w,M])) ?_;(try dsimp only[cA,cB]);refine Ak.TS 3 7 6 l row rfl rfl rfl λv=>?_;refine rG (Gk [7,9]) (by kernel_rfl) ?_;(repeat first|refine tA rfl ?_|(refine Af rfl ?_;refine gA rfl ?_;first|refine gS (λ_ _=>H.ask rfl rfl I) ?_));(refine pW rfl ?_ rfl (by rfl);refine Au rfl rfl rfl (by first|(simp;done)|(simp;(omega))) rfl (by intro r b;simp at b;subst b;rfl) (by rfl) (am rfl) (by simp;omega) ?_);(repeat first|(refine sA rfl ?_ ?_;first|exact tI|omega)|refine aU rfl ?_|apply Aa);refine⟨⟨⟨k+1,l++[(v,row)]⟩,by dsimp only;omega,by dsimp only;rw[qe,A,J];rfl⟩,by dsimp only;(omega),[0,1,2,3,8,5,6],?_⟩;simp[cX,zC,a,cN,b,eC,Bp,Ae,p]
 ·have T:k=t.rows.length:=by omega
  (repeat first|refine s2 rfl λ_ q=>?_|refine aU rfl ?_|apply Aa)
  ((refine aC rfl ?_ ?_<;>rintro⟨⟩);all_goals try(exfalso;(simp only[oZ] at *;omega)))
  apply aE;(repeat first|refine tA rfl ?_|refine aU rfl ?_|apply Aa)
  have Q:l.map (·.2)=(AY L al t).nx:=by rw[A,T,<-K,io]
  have U:l.length=t.rows.length:=by omega
  have p:(AY L al t).ac.take k=(AY L al t).ac:=ge (by rw[hal];omega);rw[p]
  obtain rfl:k=(AY L al t).ac.length:=by omega
  refine aR ⟨_,rfl,[3,4,6],UN al 0 1 l.length (AY L al t).ac.length,[(0,.cells 53 1 (Ay l)),(1,.cells 4 1 ((AY L al t).ac.map AF)),(2,.sld 3 (sI l))],⟨by intro i hi;omega,by decide⟩,rfl,by (simp[cX,zC,a,cN]),l,Q,rfl,rfl,rfl⟩
def SI(o:Option AV)(x:E)(σ:Ab)(nx:Nat):Prop:=
 match o with
 | none=>x=Pt none/\σ=[]/\nx=0
 | some a=>∃l:Fm,l.map (·.2)=a.nx/\x=.t [(true,[.d (iD a.al),.arr 0 1 0 l.length,.arr 1 1 0 a.ac.length]),(false,[.d (bD true)])]/\σ=[(0,.cells 53 1 (Ay l)),(1,.cells 4 1 (a.ac.map AF)),(2,.sld 3 (sI l))]/\nx=3
section
variable {tabs:List (Nat×Obj)}[hTb:Dp ⟨tabs,none⟩]{te:Ex}
include hTb
end
theorem db(a:AV):Pure Tryz.prog TB 15 [AX a,AX a] (eB true):=by
 have ag:=QT (TB:=TB) a a;rw[decide_eq_true (⟨rfl,rfl,rfl⟩:a.al=a.al/\a.nx=a.nx/\a.ac=a.ac)]at ag;exact ag
end Go.Am
namespace Go.Am
open Go Go.Proofs
set_option maxHeartbeats 1000000
set_option maxRecDepth 4000
attribute [local irreducible] A9 CY Lex BV Ak Spec
abbrev Ga:AV:=⟨0,[],[]⟩
abbrev Eo(s:Sys)(p:AV)(al:Int):Ex:=⟨false,Ga,s,p,al⟩
noncomputable def GA(s t:Sys)(p:AV)(al:Int)(a:AV):Option (W×Bool):=match Ec s a p with
 | some u=>some (Dg (Cf al u),true)
 | none=>match BO [t] a with
  | some v=>some (Dg (Cf al v),false)
  | none=>none
noncomputable def Bz(s:Sys)(p:AV)(al:Int)(x:A3):AV:=AY (LS ⟨s,p,al⟩) al x
noncomputable def Ie(s t:Sys)(p:AV)(al:Int)(x:A3):Option A3:=match GA s t p al (Bz s p al x) with
 | some (w,b)=>if (b || LS ⟨s,p,al⟩ w)=true then MD (Eo s p al) x w else none
 | none=>none
noncomputable def EW(s t:Sys)(p:AV)(al:Int):Nat->A3->List A3
 | 0,x=>[x]
 | k+1,x=>x::match Ie s t p al x with
  | some y=>EW s t p al k y
  | none=>[]
structure Vd where
 code:Int
 a:AV
 tr:W
 rd:Int
noncomputable def PN(s t:Sys)(p:AV)(al:Int)(x:A3)(r:Nat):Vd:=match GA s t p al (Bz s p al x) with
 | none=>⟨0,Bz s p al x,[],r⟩
 | some (w,b)=>if (b || LS ⟨s,p,al⟩ w)=true then ⟨2,Ga,[],r⟩ else ⟨1,Ga,Ku (BO [s,t] p),r⟩
noncomputable def ja(s:Sys)(p:AV)(al:Int):A3:=(Rw (Eo s p al)).getD BA
noncomputable def Bu(s t:Sys)(p:AV)(al:Int):List A3:=EW s t p al 11 (ja s p al)
noncomputable def C6(s t:Sys)(p:AV):Vd:=if AQ s p t<0 then ⟨3,Ga,[],0⟩ else
 PN s t p (AQ s p t) ((Bu s t p (AQ s p t)).getLastD BA) (Bu s t p (AQ s p t)).length
structure HG (s:Sys) (p:AV) (al:Int) (x:A3) (r:Nat):Prop where
 v:A4 (Fi (Eo s p al)) (DZ (Eo s p al)) x=true
 o:Bk (LS ⟨s,p,al⟩) (A2 al) x=none
 rows:r<=x.rows.length
 cols:x.cols.length=r
theorem KJ(s:Sys)(p:AV)(al:Int):Cb (Eo s p al)=LS ⟨s,p,al⟩:=by
 funext w;unfold Cb;rw[if_neg qq]
theorem Eg(s:Sys)(p:AV)(al:Int):A0 (Eo s p al)=al:=by
 unfold A0;rw[if_neg qq]
theorem Uh{s:Sys}{p:AV}{al:Int}(h:Bi ⟨s,p,al⟩=true):Rw (Eo s p al)=some (ja s p al)/\HG s p al (ja s p al) 1:=by
 have hk:CN (Eo s p al)=true:=by unfold CN;rw[if_neg qq];exact h
 obtain⟨u,e,d,a,c,g,b,f⟩:=kD hk;unfold ja;rw[e];refine⟨rfl,d,?_,?_,by show u.cols.length=1;rw[c];rfl⟩
 ·rw[KJ,Eg]at a;exact a
 ·show 1<=u.rows.length
  have:=(ce.1 b.r0).1;omega
theorem TH{s t:Sys}{p:AV}{al:Int}{x y:A3}{r:Nat}(a:HG s p al x r)(h:Ie s t p al x=some y):HG s p al y (r+1)/\x.rows.length<y.rows.length:=by
 unfold Ie at h;split at h
 ·split at h
  ·obtain⟨_,_,e,b,_,d,v,c⟩:=lg h
   have f:=a.rows;have g:=a.cols;rw[KJ,Eg]at b;exact⟨⟨e,b,by omega,by rw[c];simp;omega⟩,d⟩
  ·cases h
 ·cases h
theorem Wx{s:Sys}{p:AV}{al:Int}{x:A3}{r:Nat}(b:HG s p al x r):x.rows.length<=12/\r<=12:=by
 obtain⟨_,_,_,a,_⟩:=DG b.v;have:=a.rl;have:=b.rows;omega
theorem QA{s t:Sys}{p:AV}{al:Int}:∀(k:Nat) {x:A3} {r:Nat},HG s p al x r->∀(i:Nat) (y:A3),(EW s t p al k x)[i]?=some y->HG s p al y (r+i)
 | 0,x,r,a,i,y,h=>by
  cases i with
  | zero=>simp[EW]at h;subst h;exact a
  | succ i=>simp[EW]at h
 | k + 1,x,r,a,i,y,h=>by
  cases i with
  | zero=>simp[EW]at h;subst h;exact a
  | succ i=>
   simp only[EW,sB]at h
   cases b:Ie s t p al x with
   | none=>rw[b]at h;simp at h
   | some z=>
    rw[b]at h;have:=QA k (TH a b).1 i y h;rwa[show r+1+i=r+(i+1) by omega]at this
theorem fV{s t:Sys}{p:AV}{al:Int}(k:Nat)(x:A3):EW s t p al k x≠[]:=by cases k<;>simp[EW]
theorem Qz{s t:Sys}{p:AV}{al:Int}:∀(k:Nat) {x:A3} {r:Nat},HG s p al x r->12<=k+r->∀(i:Nat) (y:A3),(EW s t p al k x)[i]?=some y->(EW s t p al k x)[i+1]?=Ie s t p al y
 | 0, x,r,b,hk,i,y,h=>by
  cases i with
  | zero=>
   simp[EW]at h;subst h
   cases a:Ie s t p al x with
   | none=>simp[EW]
   | some z=>
    have:=Wx (TH b a).1;omega
  | succ i=>simp[EW]at h
 | k + 1,x,r,b,hk,i,y,h=>by
  simp only[EW]at h |-
  cases a:Ie s t p al x with
  | none=>
   rw[a]at h
   cases i with
   | zero=>simp at h;subst h;simp[a]
   | succ i=>simp at h
  | some z=>
   rw[a]at h
   cases i with
   | zero=>
    simp at h;subst h;rw[a];cases k<;>simp[EW]
   | succ i=>
    simp only[sB]at h |-;exact Qz k (TH b a).1 (by omega) i y h
section
variable {s t:Sys}{p:AV}{al:Int}(hI:FN s p t al)
include hI
theorem run_get{i:Nat}{x:A3}(h:(Bu s t p al)[i]?=some x):HG s p al x (i+1)/\(Bu s t p al)[i+1]?=Ie s t p al x:=by
 obtain⟨_,b⟩:=Uh (FF hI);have a:=QA 11 b i x h;rw[sr]at a;exact⟨a,Qz 11 b (by omega) i x h⟩
theorem Kk:1<=(Bu s t p al).length/\(Bu s t p al).length<=12:=by
 have a:Bu s t p al≠[]:=fV 11 _;have c:1<=(Bu s t p al).length:=s9.2 a;obtain⟨x,b⟩:=get_some (l:=Bu s t p al) (k:=(Bu s t p al).length-1) (by omega);have:=(Wx (run_get hI b).1).2;omega
theorem fJ:∃x,(Bu s t p al).getLastD BA=x/\HG s p al x (Bu s t p al).length/\Ie s t p al x=none:=by
 have d:=Kk hI;obtain⟨x,a⟩:=get_some (l:=Bu s t p al) (k:=(Bu s t p al).length-1) (by omega);obtain⟨c,b⟩:=run_get hI a;rw[show (Bu s t p al).length-1+1=(Bu s t p al).length by omega]at c b;refine⟨x,?_,c,?_⟩
 ·rw[List.getLastD_eq_getLast?,List.getLast?_eq_getElem?,a];rfl
 ·rw[<-b];simp
theorem U8:¬AQ s p t<0:=by
 have:=PC hI;rw[hI.hal]at this;unfold Bb at this;simp only[decide_eq_true_eq]at this;omega
theorem Jp{x:A3}{r:Nat}(c:HG s p al x r):AT (Bz s p al x)=true/\(Bz s p al x).al=al/\(Bz s p al x).nx.length=x.rows.length/\BU (LS ⟨s,p,al⟩) (A2 al) x:=by
 obtain⟨_,_,d,b,_⟩:=DG c.v;have hk:=IZ d;rw[KJ,Eg]at hk
 have a:BU (LS ⟨s,p,al⟩) (A2 al) x:=⟨hk,He c.o⟩
 exact⟨LI (PC hI) a b.rl,rfl,by simp[Bz,AY],a⟩
theorem cx{x:A3}{r:Nat}(b:HG s p al x r):DC s (Bz s p al x) p=true/\(Bc [t] && AT (Bz s p al x))=true:=by
 obtain⟨a,_⟩:=Jp hI b;exact⟨by unfold DC;rw[hI.hs,a,hI.hp];rfl,by rw[Kf,hI.ht,a];rfl⟩
theorem RR{x:A3}{r:Nat}(a:HG s p al x r):(GA s t p al (Bz s p al x)=none↔IA s t p (Bz s p al x)=0)/\(IA s t p (Bz s p al x)=0\/IA s t p (Bz s p al x)=3\/IA s t p (Bz s p al x)=4):=by
 obtain⟨f,e,_⟩:=Jp hI a;obtain⟨c,b⟩:=cx hI a;have d:=U8 hI
 have hal:(Bz s p al x).al=AQ s p t:=by rw[e,hI.hal]
 unfold IA;rw[if_neg (not_or.2 ⟨d,by rw[f];simp⟩),if_neg (λh=>h hal)];unfold GA dS Jw;rw[c,b,qc,qc]
 cases Ec s (Bz s p al x) p with
 | some u=>simp
 | none=>
  cases BO [t] (Bz s p al x) with
  | some v=>simp
  | none=>simp
theorem lv:∃x,HG s p al x (Bu s t p al).length/\Ie s t p al x=none/\C6 s t p=PN s t p al x (Bu s t p al).length:=by
 obtain⟨x,c,b,a⟩:=fJ hI;refine⟨x,b,a,?_⟩;unfold C6;rw[if_neg (U8 hI),<-hI.hal,c]
theorem cy:∃x,HG s p al x (Bu s t p al).length/\Ie s t p al x=none/\
    ((C6 s t p=⟨0,Bz s p al x,[],(Bu s t p al).length⟩/\IA s t p (Bz s p al x)=0)\/
     (C6 s t p=⟨2,Ga,[],(Bu s t p al).length⟩/\∃w b,GA s t p al (Bz s p al x)=some (w,b)/\(b || LS ⟨s,p,al⟩ w)=true/\MD (Eo s p al) x w=none)\/
     (C6 s t p=⟨1,Ga,Ku (BO [s,t] p),(Bu s t p al).length⟩/\Jw [s,t] p=false/\(BO [s,t] p).isSome=true)):=by
  obtain⟨x,e,c,i⟩:=lv hI;refine⟨x,e,c,?_⟩;rw[i];unfold PN;have h:=RR hI e;unfold Ie at c
  cases a:GA s t p al (Bz s p al x) with
  | none=>exact .inl ⟨rfl,h.1.1 a⟩
  | some wb=>
    obtain⟨w,b⟩:=wb;rw[a]at c;simp only at c |-;by_cases hb:(b || LS ⟨s,p,al⟩ w)=true
    · rw[if_pos hb]at c |-
      exact .inr (.inl ⟨rfl,w,b,rfl,hb,c⟩)
    · rw [if_neg hb]
      refine .inr (.inr ⟨rfl,?_⟩)
      have hb:b=false/\LS ⟨s,p,al⟩ w=false:=by simpa using hb
      unfold GA at a;split at a
      · injection a with a;injection a with _ a;rw[hb.1]at a;cases a
      · split at a
        · rename_i v f
          injection a with a;injection a with a _
          subst a;obtain⟨n,m,k,j,l⟩:=Hu f;have hk:=Uj hI k j hb.2;refine⟨hk,?_⟩;unfold Jw at hk
          have d:(Bc [s,t] && AT p)=true:=by rw[NB,hI.hs,hI.ht,hI.hp];rfl
          rw[d,qc]at hk
          cases g:BO [s,t] p with
          | none=>rw[g]at hk;cases hk
          | some _=>rfl
        · cases a
end
theorem SF{s:Sys}{a p:AV}{w:List Int}(h:Ec s a p=some w):w.length<=2304:=by
 obtain⟨b,_⟩:=Lr h;unfold Ec at h;rw[if_pos b]at h;obtain⟨c,hk,d⟩:=OS b;have hi:=C8 (EN (ED s a p));rw[h]at hi;have e:=hi.short (PA c d);have f:(EN (ED s a p)).N=(s.st*((a.nx.length:Int)*((p.nx.length:Int)*1))).toNat:=rfl;unfold DC at b;simp only[d4]at b;have l:=AU b.1.1;have k:=AP b.1.2;have j:=AP b.2;have i:(a.nx.length:Int)*((p.nx.length:Int)*1)<=12*12:=qb (by omega) (by omega) (by omega) (by omega)
 have g:s.st*((a.nx.length:Int)*((p.nx.length:Int)*1))<=16*144:=qb (by omega) (by omega) (by
  have:0<=(a.nx.length:Int)*((p.nx.length:Int)*1):=qf (by omega) (by omega)
  exact this) (by omega)
 omega
theorem SE{t:Sys}{a:AV}{w:List Int}(h:BO [t] a=some w):w.length<=192:=by
 obtain⟨d,c,_⟩:=Hu h
 have b:(Bc [t] && AT a)=true:=by rw[Kf,d,c];rfl
 unfold BO at h;rw[if_pos b]at h;obtain⟨e,hk,f⟩:=OR b;have hi:=C8 (EN (C0 [t] a));rw[h]at hi;have g:=hi.short (PA e f);have i:(EN (C0 [t] a)).N=(t.st*((a.nx.length:Int)*1)).toNat:=rfl;have l:=AU d;have k:=AP c;have j:t.st*((a.nx.length:Int)*1)<=16*12:=qb (by omega) (by omega) (by omega) (by omega);omega
theorem WE(al:Int)(u:List Int):(Dg (Cf al u)).length<=u.length:=by
 unfold Dg Cf;rw[gt];exact qY _ _
theorem O3{s t:Sys}{p a:AV}{al:Int}{w:W}{b:Bool}(h:GA s t p al a=some (w,b)):w.length<=4000:=by
 unfold GA at h;split at h
 ·rename_i u d
  injection h with h;injection h with h e
  have:=SF d;have:=WE al u;rw[<-h];omega
 ·split at h
  ·rename_i v c
   injection h with h;injection h with h e
   have:=SE c;have:=WE al v;rw[<-h];omega
  ·cases h
section
variable {s t:Sys}{p:AV}{al:Int}(hI:FN s p t al)
include hI
theorem Ui:CN (Eo s p al)=true:=by unfold CN;rw[if_neg qq];exact FF hI
end
theorem GZ{s t:Sys}{p:AV}(h:¬AQ s p t<0):FN s p t (AQ s p t):=by
 have a:(AW s && AT p && AW t)=true:=by
  unfold AQ at h;split at h
  ·assumption
  ·omega
 simp only[d4]at a;exact⟨a.1.1,a.1.2,a.2,rfl⟩
theorem Z0{s t:Sys}{p:AV}(h:AQ s p t<0):C6 s t p=⟨3,Ga,[],0⟩:=by unfold C6;rw[if_pos h]
abbrev pB:Sys:=⟨0,1,[]⟩
section
variable {t:Sys}{p:AV}{al:Int}(hI:FN pB p t al)
include hI
end
def Jh(al:Int)(w:W):W:=w.filter (IF al)
theorem dN{al l:Int}(h:0<=l/\l<6):IF al (UInt8.ofNat (97+l.toNat))=A6 al l.toNat:=by
 have a:(UInt8.ofNat (97+l.toNat)).toNat=97+l.toNat:=by simp;omega
 have c:=U9 al (UInt8.ofNat (97+l.toNat))
 have b:Gx (UInt8.ofNat (97+l.toNat))=true:=by rw[FQ,a,decide_eq_true_eq];omega
 rw[<-c,if_pos b,a];unfold hasB;rw[show ((97+l.toNat:Nat):Int)-97=l by omega,decide_eq_true h.1];rfl
theorem Qi{al:Int}:∀ {u:List Int},Jg u->Jh al (Dg u)=Dg (Cf al u)
 | [],_=>rfl
 | l::u,b=>by
  have a:=Qi (al:=al) (u:=u) (λx c=>b x (by simp[c]));have d:=dN (al:=al) (b l (by simp));unfold Jh Dg Cf at *;rw[qz,se,se,d];cases A6 al l.toNat
  ·simpa using a
  ·simpa using a
theorem VP(al:Int)(w:W):(Jh al w).length<=w.length:=qY _ _
theorem Sx{al:Int}{w:W}{k:Nat}{c:UInt8}(a:w[k]?=some c):Jh al (w.take (k+1))=if IF al c then Jh al (w.take k)++[c] else Jh al (w.take k):=by
 unfold Jh;rw[f6,a,Option.toList_some,qG];cases h:IF al c<;>simp[h]
theorem cD{s:Sys}{a p:AV}{u:List Int}(h:Ec s a p=some u):Jg u/\(Dg u).length<=2304:=by
 obtain⟨_,b,_⟩:=Lr h;exact⟨Hd b,by unfold Dg;rw[gt];exact SF h⟩
theorem cC{t:Sys}{a:AV}{u:List Int}(h:BO [t] a=some u):Jg u/\(Dg u).length<=192:=by
 obtain⟨_,_,b,_⟩:=Hu h;exact⟨Hd b,by unfold Dg;rw[gt];exact SE h⟩
theorem QN{u:List Int}(d:Jg u)(a:(Dg u).length<=50000):EJ (Dg u)=true:=by
 unfold EJ;rw[decide_eq_true a,qc,gc];intro c b;unfold Dg at b;obtain⟨l,a,rfl⟩:=d8.1 b;have:=d l a;rw[FQ,decide_eq_true_eq]
 have e:(UInt8.ofNat (97+l.toNat)).toNat=97+l.toNat:=by simp;omega
 rw[e];omega
def l9(P:Program)(t it:TypeId):Bool:=match (P.fieldsOf t).toList with
 | [c,b,a]=>decide (c.name≠ "_") && c.type == it && c.offset == 0 && (decide (b.name≠ "_") && b.type == it && b.offset == 1) && (decide (a.name≠ "_") && a.type == it && a.offset == 2)
 | _=>false
theorem Tk {P:Program} {it:TypeId} (c:P.underlying it=some (.int .i64)) {xs ys:Array Value} {a b:Int} {fl:Field} {fs:List Field} {o:Nat} (h:(decide (fl.name≠ "_") && fl.type == it && fl.offset == o)=true) (i:xs[o]?=some (.int .i64 a)) (g:ys[o]?=some (.int .i64 b)) (w:World) :
 (Op.eqFields 9999 xs ys (fl::fs)).run P w=if a=b then (Op.eqFields 9999 xs ys fs).run P w else .ok false w:=by
 simp only[d4,decide_eq_true_eq,beq_iff_eq]at h;obtain⟨⟨l,k⟩,j⟩:=h
 have f:(part it xs o).run P w=.ok (.int .i64 a) w:=by simp[part,isAgg,run_underlying c,i]
 have e:(part it ys o).run P w=.ok (.int .i64 b) w:=by simp[part,isAgg,run_underlying c,g]
 have d:(Op.equalIn 9999 it (.int .i64 a) (.int .i64 b)).run P w=.ok (a == b) w:=run_equalIn_int w 9998 it .i64 .i64 a b c;rw[Op.eqFields,if_pos l,k,j];simp only[pp,f,e,d,kw];by_cases h:a=b
 ·simp[h]
 ·simp[h]
section
variable {TB:BR}{Z:Ctx}{d:Option Tmp}{ty:TypeId}{pos:String}{af:Array Edge}{g:Option (Nat×Bool)}{f:Env}{σ:Ab}{nx:Nat}
theorem gF:l9 Tryz.prog 158 3=true:=by kernel_rfl
theorem fH(a b:Ej)(w:World):(Op.equalIn 10000 158 (.agg #[.int .i64 a.f,.int .i64 a.l,.int .i64 a.t]) (.agg #[.int .i64 b.f,.int .i64 b.l,.int .i64 b.t])).run Tryz.prog w=.ok (decide (a.f=b.f/\a.l=b.l/\a.t=b.t)) w:=by
 have d:Tryz.prog.underlying 3=some (.int .i64):=by kernel_rfl
 have c:=gF;rw[show (10000:Nat)=9999+1 from rfl,run_equalIn_struct w 9999 158 _ _ (by kernel_rfl) (by kernel_rfl)];unfold l9 at c;split at c
 ·rename_i x v u i
  rw[i];simp only[d4 (b:=(_ && _)),d4]at c;obtain⟨⟨⟨⟨s,r⟩,q⟩,⟨p,o⟩,n⟩,⟨m,k⟩,j⟩:=c;rw[Tk d (by rw[s,r,q];rfl) rfl rfl,Tk d (by rw[p,o,n];rfl) rfl rfl,Tk d (by rw[m,k,j];rfl) rfl rfl,Op.eqFields];by_cases h:a.f=b.f<;>by_cases g:a.l=b.l<;>by_cases e:a.t=b.t<;>simp[h,g,e]
 ·cases c
theorem jx{V:View}{a b c:Int}{vs:Array Value}(h:Dk V [.d (iD a),.d (iD b),.d (iD c)] vs):vs = #[.int .i64 a,.int .i64 b,.int .i64 c]:=by
 obtain⟨k,g⟩:=h;have j:vs.size=3:=k;apply Array.ext
 ·simpa using j
 ·intro i hi f
  have e:vs[i]?=some vs[i]:=pm hi
  match i,f with
  | 0,_=>exact AJ.val (g 0 _ _ rfl e)
  | 1,_=>exact AJ.val (g 1 _ _ rfl e)
  | 2,_=>exact AJ.val (g 2 _ _ rfl e)
def jZ(a b:Ej):Bool:=decide (a.f=b.f/\a.l=b.l/\a.t=b.t)
theorem XP{x y:Operand}{yt:TypeId}{a b:Ej}(j:ev f x=some (Xf a))(i:ev f y=some (Xf b)):A9 Tryz.prog TB Z ⟨d,.binOp .eql 158 x y yt,ty,pos,af,g⟩ f σ nx (eB (jZ a b)):=
 AR λV ρ h _=>by
  obtain⟨xs,l,e⟩:=h.get (by simp[Op.operands]) j;obtain⟨ys,k,c⟩:=h.get (by simp[Op.operands]) i;have p:=jx e;have o:=jx c;refine⟨.bool (jZ a b),?_,.d (.v rfl)⟩;have n:execOp ρ ⟨d,.binOp .eql 158 x y yt,ty,pos,af,g⟩=(do let v <-(do eqGuard .eql 158 x y (ρ x) (ρ y);binOp .eql 158 (ρ x) (ρ y));pure (.value v)):=rfl
  have m:Tryz.prog.eqGuardType Tryz.prog.depth 158=false:=by kernel_rfl
  rw[n,l,k,p,o];simp only[pp,run_eqGuard_agg V.w .eql 158 x y _ _ m,run_eql_struct,fH,kw,Sem.run_pure];rfl
end
end Go.Am
namespace Go.Am
open Go Go.Proofs
set_option maxHeartbeats 1000000
set_option maxRecDepth 4000
attribute [local irreducible] A9 CY Lex BV Ak Spec
variable {TB:BR}
theorem HE(w:W)(al:Int)(p:w.length<=1048576):Pure Tryz.prog TB 124 [eT w,eI .i64 al] (eT (Jh al w)):=by
 refine eG Tryz.func124 rfl (by kernel_rfl) rfl ?_;intro Z d;(repeat first|refine tM rfl ?_|refine aU rfl ?_|apply Aa);(refine pW rfl ?_ rfl (by rfl);refine Gu 1 5 ?_);(repeat first|refine tM rfl ?_|refine aU rfl ?_|apply Aa);apply aB;refine aL (α:={k:Nat // k<=w.length}) [0,1,8] [] rfl rfl (λ⟨k,hk⟩=>[(5,.o (.arr 0 1 0 (Jh al (w.take k)).length)),(9,eI .i64 k)]) (λ⟨k,hk⟩=>[(0,.cells 5 1 ((Jh al (w.take k)).map FP))]) 1 (λ⟨k,hk⟩=>w.length-k) (⟨0,by omega⟩) d rfl (by (repeat' first|exact tI|rfl|refine And.intro ?_ ?_)) ?_;rintro⟨k,hk⟩;(try dsimp only[cA,cB]);by_cases i:k<w.length
 ·obtain⟨c,n⟩:=get_some i
  have j:w[((k:Nat):Int).toNat]?=some c:=by simpa using n
  have e:=Tt (TB:=TB) w k c j;have a:=Np (TB:=TB) al (if Gx c then (c.toNat:Int)-97 else -1);rw[U9]at a;generalize (if Gx c then (c.toNat:Int)-97 else -1:Int)=l at e a;have b:=Sx (al:=al) n;have h:=VP al (w.take k);rw[qX]at h;(repeat first|refine s2 rfl λ_ f=>?_|refine aU rfl ?_|apply Aa)
  ((refine aC rfl ?_ ?_<;>rintro⟨⟩);all_goals try(exfalso;(simp only[oZ] at *;omega)))
  apply aK;refine aS (aB ?_);cases g:IF al c
  ·rw[g]at a b
   (repeat first|refine tA rfl ?_|refine sP rfl (e) rfl ?_|refine sP rfl (a) rfl ?_|refine aU rfl ?_|apply Aa)
   ((refine aC rfl ?_ ?_<;>rintro⟨⟩);all_goals try (simp at f;done))
   apply aK;(repeat first|(refine sA rfl ?_ ?_;first|exact tI|omega)|refine aU rfl ?_|apply Aa);refine⟨⟨k+1,by omega⟩,by dsimp only;(omega),[0],?_⟩;simp[cX,zC,d,b,FP,Ge]
  ·rw[g]at a b
   (repeat first|refine tA rfl ?_|refine sP rfl (e) rfl ?_|refine sP rfl (a) rfl ?_|refine aU rfl ?_|apply Aa)
   ((refine aC rfl ?_ ?_<;>rintro⟨⟩);all_goals try (simp at f;done))
   (repeat first|refine tA rfl ?_|(refine s4 rfl ‹_› rfl ?_ ?_;omega)|refine aU rfl ?_);(refine pW rfl ?_ rfl (by rfl);refine Au rfl rfl rfl (by first|(simp;done)|(simp;(omega))) rfl (by intro r m;simp at m;subst m;rfl) (by rfl) (am rfl) (by simp;omega) ?_);(repeat first|(refine sX rfl ?_ ?_;first|exact tI|omega)|refine aU rfl ?_|apply Aa);refine⟨⟨k+1,by omega⟩,by dsimp only;(omega),[1],?_⟩;simp[cX,zC,d,b,Ge,FP,qe]
 ·obtain rfl:k=w.length:=by omega
  rw[io] at *;(repeat first|refine s2 rfl λ_ f=>?_|refine aU rfl ?_|apply Aa)
  ((refine aC rfl ?_ ?_<;>rintro⟨⟩);all_goals try(exfalso;(simp only[oZ] at *;omega)))
  apply aE;(repeat first|refine tM rfl ?_|(refine Af rfl ?_;refine gA rfl ?_;first|refine gQ (O2 (Jh al w) rfl rfl (by simp) (by first|rw[qm,ge (by simp)]|rw[qm,T8,ge (by simp)])) (by rfl) ?_)|refine aU rfl ?_|apply Aa);(subst_vars;exact aR ⟨_,rfl,rfl⟩)
theorem Fo[Dp TB](s:Sys)(p:AV):Pure Tryz.prog TB 123 [Bl s,AX p] (KS (BO [s] p)):=by
 refine eN Tryz.func123 rfl (by kernel_rfl) rfl ?_;intro Z a;(repeat' first|refine tA rfl ?_|refine sP rfl (DA [s] p) rfl ?_|refine aU rfl ?_|apply Aa|(refine aC rfl ?_ ?_<;>rintro⟨⟩)|apply aK|apply aE|apply aB|refine aR ⟨_,rfl,?_⟩)
 all_goals rfl
theorem Fq[Dp TB](s:Sys)(p:AV):Pure Tryz.prog TB 209 [Bl s,AX p] (KS (BO [s] p)):=by
 refine eN Tryz.func209 rfl (by kernel_rfl) rfl ?_;intro Z a;(repeat' first|refine tA rfl ?_|refine sP rfl (Fs [s] p) rfl ?_|refine aU rfl ?_|apply Aa|(refine aC rfl ?_ ?_<;>rintro⟨⟩)|apply aK|apply aE|apply aB|refine aR ⟨_,rfl,?_⟩)
 all_goals rfl
theorem l6{C X:Int->Bool->Ej->Prop}{Y:Prop}(h:∀q m l,C q m l->X q m l)(hk:(∀q m l,C q m l->X q m l)->Y):Y:=hk h
theorem Oc(b:List UInt8)(hb:b.length<=2000)(p:Int)(h0:0<=p/\p<800000000)(y:Sys)(hy:y.es.length<=100000):Spec Tryz.prog TB 196 [(0,Bt b p)] 1 [.o (.ptr 0 2 0 0),Bl y] (Lz b p 5 (λs=>s.es.length<=y.es.length+1)):=by
 obtain⟨g,g0,g1,U⟩:=Bs (TB:=TB) b hb p (y.es.length+2) (by omega);obtain⟨f,f0,f1,V⟩:=Bs (TB:=TB) b hb (p+1) y.st (by omega);obtain⟨t,t0,t1,ht⟩:=Bs (TB:=TB) b hb (p+1+1) y.st (by omega);obtain⟨c,c0,c1,hc⟩:=Bs (TB:=TB) b hb (p+1+1+1) 2 (by omega);have H:=Cm (TB:=TB) y.al;have T:(Ac y.al).length<=6:=AH y.al 6;generalize Ac y.al=ls at *;refine eR Tryz.func196 rfl (by kernel_rfl) rfl ?_;intro Z a;(repeat first|refine tA rfl ?_|refine aU rfl ?_|apply Aa);(refine pW rfl ?_ rfl (by rfl);refine Ic 2 3 158 rfl rfl rfl (by rfl) (by rfl) ?_);(repeat first|refine sN rfl ?_|(refine sA rfl ?_ ?_;first|exact tI|omega)|refine aU rfl ?_|apply Aa);(refine pW rfl ?_ rfl (by rfl);refine Aj [0] rfl rfl (U) ⟨rfl,by decide,by decide⟩ rfl (by simp[cX,zC,a,cN]) ?_;rintro K w z ⟨rfl,rfl,rfl⟩ _);(repeat first|refine tA rfl ?_|refine aU rfl ?_|apply Aa);refine R.Rz [(0,2),(1,2),(2,2),(4,2),(5,2),(6,2),(9,3),(3,1),(7,1),(8,0),(10,5)] mixed (by kernel_rfl) rfl (by kernel_rfl) ?_;(repeat ((refine R.Af rfl ?_;first|(refine R.yQ (md:=false) rfl rfl rfl ?_ ?_;exact tI)|refine R.yP rfl rfl rfl rfl ?_ )));(refine R.Af rfl ?_;refine R.Kx (λ_=>?_) rfl rfl;refine Aj [0] rfl rfl V ⟨rfl,by decide,by decide⟩ rfl (by simp[cX,zC,a,cN]) ?_;rintro K w z ⟨rfl,rfl,rfl⟩ _);(refine R.Af rfl ?_;refine R.Kx (λ_=>?_) rfl rfl;refine Aj [0] rfl rfl ht ⟨rfl,by decide,by decide⟩ rfl (by simp[cX,zC,a,cN]) ?_;rintro K w z ⟨rfl,rfl,rfl⟩ _);(repeat ((refine R.Af rfl ?_;first|refine R.yA rfl rfl rfl rfl ?_|refine R.CG (λ_ _ _=>AA rfl rfl (by rfl) (by rfl)) rfl rfl ?_ )));refine R.Rt ?_;refine Ak.Az [0,3,6] [] rfl rfl [(4,.o (.ptr 1 3 0 0)),(5,.o (.ptr 2 3 0 0)),(7,.o (.ptr 4 3 0 0))] [(0,Bt b (p+1+1+1)),(1,.cells 25 3 [[.d (iD 0),.d (iD 0),.d (.l [])]]),(2,.cells 25 3 [[.d (iD y.al),.d (iD y.st),.arr 3 3 0 0]]),(3,.cells 158 3 []),(4,.cells 158 3 [Bg ⟨f,0,t⟩])] [0,1,3,2,4] (rl a rfl) (by (simp[cX,zC,a,cN,Ae,eC,Bp])) ?_;(try dsimp only[cA,cB]);apply l6 (C:=λq m e=>p<=q/\q<=p+5)
 case hk =>
  intro hk;by_cases hz:0<ls.length
  ·(repeat' first|refine sN rfl ?_|refine tA rfl ?_|refine s2 rfl λ_ j=>?_|refine sP rfl (H) rfl ?_|refine s3 rfl ?_ ?_<;>rintro rfl|refine aU rfl ?_|apply Aa|(refine aC rfl ?_ ?_<;>rintro⟨⟩));all_goals try contradiction
   all_goals first
    | (exfalso;(simp only[oZ] at *;omega);done)
    | skip
   (refine pW rfl ?_ rfl (by rfl);refine Aj [0] rfl rfl (hc) ⟨rfl,by decide,by decide⟩ rfl (by simp[cX,zC,a,cN]) ?_;rintro K w z ⟨rfl,rfl,rfl⟩ _);by_cases hc0:c=0
   ·obtain⟨k,k0,k1,L⟩:=Bs (TB:=TB) b hb (p+1+1+1+1) ls.length (by omega)
    obtain⟨x,S⟩:=get_some (l:=ls) (k:=k.toNat) (by omega)
    have Q:(ls.map Bw)[k.toNat]?=some (Bw x):=by simp[S]
    (repeat' first|refine sN rfl ?_|refine tA rfl ?_|refine s2 rfl λ_ j=>?_|refine aU rfl ?_|apply Aa|(refine aC rfl ?_ ?_<;>rintro⟨⟩));all_goals try contradiction
    all_goals first
     | (exfalso;(simp only[oZ] at *;omega);done)
     | skip
    (refine pW rfl ?_ rfl (by rfl);refine Aj [0] rfl rfl (L) ⟨rfl,by decide,by decide⟩ rfl (by simp[cX,zC,a,cN]) ?_;rintro K w z ⟨rfl,rfl,rfl⟩ _);(repeat first|refine tA rfl ?_|(refine s4 rfl ‹_› rfl ?_ ?_;omega)|refine aU rfl ?_|apply Aa)
    obtain⟨q,F⟩:∃q,q=p+1+1+1+1+1:=⟨_,rfl⟩
    obtain⟨m,G⟩:∃m,m=true:=⟨_,rfl⟩
    obtain⟨e,I⟩:∃e:Ej,e=⟨f,x,t⟩:=⟨_,rfl⟩
    refine Ak.Az [0,3,6] [1,2,3] rfl rfl [(4,.o (.ptr 1 3 0 0)),(5,.o (.ptr 2 3 0 0)),(7,.o (.ptr 4 3 0 0)),(9,eB m),(10,eI .i64 0)] [(0,Bt b q),(4,.cells 158 3 [Bg e])] [0,1,2,3,4] (rl a rfl) (by (simp[cX,zC,a,cN,F,G,I,Ae,eC])) ?_;(try dsimp only[cA,cB]);exact hk q m e ⟨by omega,by omega⟩
   ·(repeat' first|refine sN rfl ?_|refine tA rfl ?_|refine s2 rfl λ_ j=>?_|refine aU rfl ?_|apply Aa|(refine aC rfl ?_ ?_<;>rintro⟨⟩));all_goals try contradiction
    all_goals first
     | (exfalso;(simp only[oZ] at *;omega);done)
     | skip
    apply aK;(repeat first|refine tA rfl ?_|refine aU rfl ?_|apply Aa)
    obtain⟨q,F⟩:∃q,q=p+1+1+1+1:=⟨_,rfl⟩
    obtain⟨m,G⟩:∃m,m=false:=⟨_,rfl⟩
    obtain⟨e,I⟩:∃e:Ej,e=⟨f,0,t⟩:=⟨_,rfl⟩
    refine Ak.Az [0,3,6] [1,2,3] rfl rfl [(4,.o (.ptr 1 3 0 0)),(5,.o (.ptr 2 3 0 0)),(7,.o (.ptr 4 3 0 0)),(9,eB m),(10,eI .i64 0)] [(0,Bt b q),(4,.cells 158 3 [Bg e])] [0,1,2,3,4] (rl a rfl) (by (simp[cX,zC,a,cN,F,G,I,Ae,eC])) ?_;(try dsimp only[cA,cB]);exact hk q m e ⟨by omega,by omega⟩
  ·(repeat' first|refine sN rfl ?_|refine tA rfl ?_|refine s2 rfl λ_ j=>?_|refine sP rfl (H) rfl ?_|refine s3 rfl ?_ ?_<;>rintro rfl|refine aU rfl ?_|apply Aa|(refine aC rfl ?_ ?_<;>rintro⟨⟩));all_goals try contradiction
   all_goals first
    | (exfalso;(simp only[oZ] at *;omega);done)
    | skip
   apply aK;(repeat first|refine tA rfl ?_|refine aU rfl ?_|apply Aa)
   obtain⟨q,F⟩:∃q,q=p+1+1+1:=⟨_,rfl⟩
   obtain⟨m,G⟩:∃m,m=false:=⟨_,rfl⟩
   obtain⟨e,I⟩:∃e:Ej,e=⟨f,0,t⟩:=⟨_,rfl⟩
   refine Ak.Az [0,3,6] [1,2,3] rfl rfl [(4,.o (.ptr 1 3 0 0)),(5,.o (.ptr 2 3 0 0)),(7,.o (.ptr 4 3 0 0)),(9,eB m),(10,eI .i64 0)] [(0,Bt b q),(4,.cells 158 3 [Bg e])] [0,1,2,3,4] (rl a rfl) (by (simp[cX,zC,a,cN,F,G,I,Ae,eC])) ?_;(try dsimp only[cA,cB]);exact hk q m e ⟨by omega,by omega⟩
 case h =>
  intro q P e F;apply aB;refine aL (α:={s:Nat×Bool×List Ej // s.1<=y.es.length/\s.2.2.length+(bif s.2.1 then 1 else 0)<=s.1+1}) [0,3,4,5,6,7] [0,1,4] rfl rfl (λs=>[(9,eB s.1.2.1),(10,eI .i64 s.1.1)]) (λs=>[(2,.cells 25 3 [[.d (iD y.al),.d (iD y.st),.arr 3 3 0 s.1.2.2.length]]),(3,.cells 158 3 (s.1.2.2.map Bg))]) 5 (λs=>y.es.length-s.1.1) (⟨⟨0,P,[]⟩,by simp,by cases P<;>simp⟩) a rfl (by (simp[cX,zC,a,cN])) ?_;rintro⟨⟨k,m,l⟩,hk,v⟩;(try dsimp only[cA,cB]);have hk:k<=y.es.length:=hk;have v:l.length+(bif m then 1 else 0)<=k+1:=v;by_cases M:k<y.es.length
  ·obtain⟨d, Y⟩:=get_some M
   have N:=get_map (g:=Dr) Y
   have X:(y.es.map Dr)[((k:Nat):Int).toNat]?=some (Dr d):=by rw[f9];exact N
   have u:=Jy (TB:=TB) e d;(repeat first|refine sN rfl ?_|refine tA rfl ?_|refine s2 rfl λ_ j=>?_|refine aU rfl ?_|apply Aa)
   ((refine aC rfl ?_ ?_<;>rintro⟨⟩);all_goals try(exfalso;(simp only[oZ] at *;omega)))
   apply aK;refine aS (aB ?_);cases m
   ·have v:l.length<=k+1:=by simpa using v
    (repeat first|refine aU rfl ?_);refine rG (Gk []) (by kernel_rfl) ?_
    (repeat' first|refine tA rfl ?_|apply Aa|(refine aC rfl ?_ ?_<;>rintro⟨⟩));all_goals try contradiction
    apply aK;(repeat first|refine aU rfl ?_);refine rG (Gk []) (by kernel_rfl) ?_
    (repeat' first|refine tA rfl ?_|apply Aa|(refine aC rfl ?_ ?_<;>rintro⟨⟩));all_goals try contradiction
    apply aK;by_cases A:(k:Int)=g
    ·(repeat first|refine tA rfl ?_|refine s2 rfl λ_ j=>?_|refine aU rfl ?_|apply Aa)
     ((refine aC rfl ?_ ?_<;>rintro⟨⟩);all_goals try(exfalso;(simp only[oZ] at *;omega)))
     apply aK;(repeat first|(refine sA rfl ?_ ?_;first|exact tI|omega)|refine aU rfl ?_|apply Aa);refine⟨⟨⟨k+1,false,l⟩,by dsimp only;omega,by (simp;omega)⟩,by dsimp only;(omega),[0,1,2,3,4],?_⟩;simp[cX,zC,a,cN,Ae,eC]
    ·(repeat first|refine tA rfl ?_|refine s2 rfl λ_ j=>?_|refine aU rfl ?_|apply Aa)
     ((refine aC rfl ?_ ?_<;>rintro⟨⟩);all_goals try(exfalso;(simp only[oZ] at *;omega)))
     refine rG (Ju [(1,12),(8,1),(10,1)]) (by kernel_rfl) ?_;(repeat first|refine tA rfl ?_|(refine s4 rfl ‹_› rfl ?_ ?_;omega));(refine pW rfl ?_ rfl (by rfl);refine Au rfl rfl rfl (by first|(simp;done)|(simp;(omega))) rfl (by intro r n;simp at n;subst n;rfl) (by rfl) (am rfl) (by simp;omega) ?_);(repeat first|(refine sA rfl ?_ ?_;first|exact tI|omega)|refine aU rfl ?_|apply Aa);refine⟨⟨⟨k+1,false,l++[d]⟩,by dsimp only;omega,by (simp;omega)⟩,by dsimp only;(omega),[0,1,2,5,4],?_⟩;simp[cX,zC,a,cN,Ae,eC]
   ·have v : l.length<=k:=by simpa using v
    cases J:Kv e d
    ·rw [J]at u
     cases B:jZ e d
     ·(repeat first|refine aU rfl ?_)
      refine rG (Gk []) (by kernel_rfl) ?_
      (repeat' first|refine tA rfl ?_|(refine s4 rfl ‹_› rfl ?_ ?_;omega)|refine sP rfl (u) rfl ?_|apply Aa|(refine aC rfl ?_ ?_<;>rintro⟨⟩));all_goals try contradiction
      apply aK;(repeat first|refine aU rfl ?_);refine rG (Gk []) (by kernel_rfl) ?_
      (repeat' first|refine tA rfl ?_|(refine s4 rfl ‹_› rfl ?_ ?_;omega)|(refine Af rfl ?_;refine gA rfl ?_;first|refine gS (λ_ _=>B▸XP rfl rfl) ?_)|apply Aa|(refine aC rfl ?_ ?_<;>rintro⟨⟩));all_goals try contradiction
      apply aK;by_cases A:(k:Int)=g
      ·(repeat first|refine tA rfl ?_|refine s2 rfl λ_ j=>?_|refine aU rfl ?_|apply Aa)
       ((refine aC rfl ?_ ?_<;>rintro⟨⟩);all_goals try(exfalso;(simp only[oZ] at *;omega)))
       apply aK;(repeat first|(refine sA rfl ?_ ?_;first|exact tI|omega)|refine aU rfl ?_|apply Aa);refine⟨⟨⟨k+1,true,l⟩,by dsimp only;omega,by (simp;omega)⟩,by dsimp only;(omega),[0,1,2,3,4],?_⟩;simp[cX,zC,a,cN,Ae,eC]
      ·(repeat first|refine tA rfl ?_|refine s2 rfl λ_ j=>?_|refine aU rfl ?_|apply Aa)
       ((refine aC rfl ?_ ?_<;>rintro⟨⟩);all_goals try(exfalso;(simp only[oZ] at *;omega)))
       refine rG (Ju [(1,12),(8,1),(10,1)]) (by kernel_rfl) ?_;(repeat first|refine tA rfl ?_|(refine s4 rfl ‹_› rfl ?_ ?_;omega));(refine pW rfl ?_ rfl (by rfl);refine Au rfl rfl rfl (by first|(simp;done)|(simp;(omega))) rfl (by intro r n;simp at n;subst n;rfl) (by rfl) (am rfl) (by simp;omega) ?_);(repeat first|(refine sA rfl ?_ ?_;first|exact tI|omega)|refine aU rfl ?_|apply Aa);refine⟨⟨⟨k+1,true,l++[d]⟩,by dsimp only;omega,by (simp;omega)⟩,by dsimp only;(omega),[0,1,2,5,4],?_⟩;simp[cX,zC,a,cN,Ae,eC]
     ·(repeat first|refine aU rfl ?_)
      refine rG (Gk []) (by kernel_rfl) ?_
      (repeat' first|refine tA rfl ?_|(refine s4 rfl ‹_› rfl ?_ ?_;omega)|refine sP rfl (u) rfl ?_|apply Aa|(refine aC rfl ?_ ?_<;>rintro⟨⟩));all_goals try contradiction
      apply aK;by_cases A:(k:Int)=g
      ·(repeat first|refine aU rfl ?_)
       refine rG (Gk []) (by kernel_rfl) ?_
       (repeat' first|refine tA rfl ?_|(refine s4 rfl ‹_› rfl ?_ ?_;omega)|refine s2 rfl λ_ j=>?_|(refine Af rfl ?_;refine gA rfl ?_;first|refine gS (λ_ _=>B▸XP rfl rfl) ?_)|refine aU rfl ?_|apply Aa|(refine aC rfl ?_ ?_<;>rintro⟨⟩));all_goals try contradiction
       all_goals first
        | (exfalso;(simp only[oZ] at *;omega);done)
        | skip
       apply aK;(repeat first|(refine sA rfl ?_ ?_;first|exact tI|omega)|refine aU rfl ?_|apply Aa);refine⟨⟨⟨k+1,false,l⟩,by dsimp only;omega,by (simp;omega)⟩,by dsimp only;(omega),[0,1,2,3,4],?_⟩;simp[cX,zC,a,cN,Ae,eC]
      ·(repeat first|refine aU rfl ?_)
       refine rG (Gk []) (by kernel_rfl) ?_
       (repeat' first|refine tA rfl ?_|(refine s4 rfl ‹_› rfl ?_ ?_;omega)|refine s2 rfl λ_ j=>?_|(refine Af rfl ?_;refine gA rfl ?_;first|refine gS (λ_ _=>B▸XP rfl rfl) ?_)|refine aU rfl ?_|apply Aa|(refine aC rfl ?_ ?_<;>rintro⟨⟩));all_goals try contradiction
       all_goals first
        | (exfalso;(simp only[oZ] at *;omega);done)
        | skip
       refine rG (Ju [(1,12),(8,1),(10,1)]) (by kernel_rfl) ?_;(repeat first|refine tA rfl ?_|(refine s4 rfl ‹_› rfl ?_ ?_;omega));(refine pW rfl ?_ rfl (by rfl);refine Au rfl rfl rfl (by first|(simp;done)|(simp;(omega))) rfl (by intro r n;simp at n;subst n;rfl) (by rfl) (am rfl) (by simp;omega) ?_);(repeat first|(refine sA rfl ?_ ?_;first|exact tI|omega)|refine aU rfl ?_|apply Aa);refine⟨⟨⟨k+1,false,l++[d]⟩,by dsimp only;omega,by (simp;omega)⟩,by dsimp only;(omega),[0,1,2,5,4],?_⟩;simp[cX,zC,a,cN,Ae,eC]
    ·rw [J]at u
     (repeat first|refine aU rfl ?_);refine rG (Gk []) (by kernel_rfl) ?_
     (repeat' first|refine tA rfl ?_|(refine s4 rfl ‹_› rfl ?_ ?_;omega)|refine sP rfl (u) rfl ?_|refine aU rfl ?_|apply Aa|(refine aC rfl ?_ ?_<;>rintro⟨⟩));all_goals try contradiction
     (refine pW rfl ?_ rfl (by rfl);refine Au rfl rfl rfl (by first|(simp;done)|(simp;(omega))) rfl (by intro r n;simp at n;subst n;rfl) (by rfl) (am rfl) (by simp;omega) ?_);(repeat first|refine tA rfl ?_|refine aU rfl ?_|apply Aa);refine rG (Gk []) (by kernel_rfl) ?_
     (repeat' first|refine tA rfl ?_|apply Aa|(refine aC rfl ?_ ?_<;>rintro⟨⟩));all_goals try contradiction
     apply aK;by_cases A:(k:Int)=g
     ·(repeat first|refine tA rfl ?_|refine s2 rfl λ_ j=>?_|refine aU rfl ?_|apply Aa)
      ((refine aC rfl ?_ ?_<;>rintro⟨⟩);all_goals try(exfalso;(simp only[oZ] at *;omega)))
      apply aK;(repeat first|(refine sA rfl ?_ ?_;first|exact tI|omega)|refine aU rfl ?_|apply Aa);refine⟨⟨⟨k+1,false,(l++[e])⟩,by dsimp only;omega,by (simp;omega)⟩,by dsimp only;(omega),[0,1,2,5,4],?_⟩;simp[cX,zC,a,cN,Ae,eC]
     ·(repeat first|refine tA rfl ?_|refine s2 rfl λ_ j=>?_|refine aU rfl ?_|apply Aa)
      ((refine aC rfl ?_ ?_<;>rintro⟨⟩);all_goals try(exfalso;(simp only[oZ] at *;omega)))
      refine rG (Ju [(1,12),(8,1),(10,1)]) (by kernel_rfl) ?_;(repeat first|refine tA rfl ?_|(refine s4 rfl ‹_› rfl ?_ ?_;omega));(refine pW rfl ?_ rfl (by rfl);refine Au rfl rfl rfl (by first|(simp;done)|(simp;(omega))) rfl (by intro r n;simp at n;subst n;rfl) (by rfl) (am rfl) (by simp;omega) ?_);(repeat first|(refine sA rfl ?_ ?_;first|exact tI|omega)|refine aU rfl ?_|apply Aa);refine⟨⟨⟨k+1,false,(l++[e])++[d]⟩,by dsimp only;omega,by (simp;omega)⟩,by dsimp only;(omega),[0,1,2,6,4],?_⟩;simp[cX,zC,a,cN,Ae,eC]
  ·obtain rfl:k=y.es.length:=by omega
   (repeat first|refine sN rfl ?_|refine tA rfl ?_|refine s2 rfl λ_ j=>?_|refine aU rfl ?_|apply Aa)
   ((refine aC rfl ?_ ?_<;>rintro⟨⟩);all_goals try(exfalso;(simp only[oZ] at *;omega)))
   apply aE;cases m
   ·have v:l.length<=y.es.length+1:=by simpa using v
    (repeat first|refine tA rfl ?_|refine aU rfl ?_|apply Aa)
    ((refine aC rfl ?_ ?_<;>rintro⟨⟩);all_goals try (simp at j;done))
    apply aK;(repeat first|refine tA rfl ?_|refine aU rfl ?_|apply Aa);refine Ak.Az [] [] rfl rfl [(4,.o (.ptr 1 3 0 0))] [(0,Bt b (q)),(1,.cells 25 3 [[.d (iD (y.al)),.d (iD (y.st)),.arr 2 3 0 (l).length]]),(2,.cells 158 3 ((l).map Bg))] [0,1,3] (rl a rfl) (by (simp[cX,zC,a,cN,Ae,eC])) ?_;(try dsimp only[cA,cB]);refine Ak.AB [1,2] [(4,.o (.ip (AI ⟨y.al,y.st,l⟩)))] ⟨⟨_,rfl,.inr (.o (.box rfl (.cons .d (.cons .d (.cons (.full rfl (by simp[d5]) (by simp)) .nil)))))⟩,trivial⟩ ?_;refine aR ⟨_,rfl,[0],Bl ⟨y.al,y.st,l⟩,[(0,Bt b (q))],⟨by intro i hi;match i with|0=>rfl,by decide⟩,rfl,by (simp[cX,zC,a,cN]),q,⟨y.al,y.st,l⟩,by omega,by first|(simp;done)|(simp;omega),rfl,rfl,rfl⟩
   ·have v:l.length<=y.es.length:=by simpa using v
    (repeat first|refine tA rfl ?_|refine aU rfl ?_|apply Aa)
    ((refine aC rfl ?_ ?_<;>rintro⟨⟩);all_goals try (simp at j;done))
    (repeat first|refine tA rfl ?_|refine aU rfl ?_);(refine pW rfl ?_ rfl (by rfl);refine Au rfl rfl rfl (by first|(simp;done)|(simp;(omega))) rfl (by intro r n;simp at n;subst n;rfl) (by rfl) (am rfl) (by simp;omega) ?_);(repeat first|refine tA rfl ?_|refine aU rfl ?_|apply Aa);refine Ak.Az [] [] rfl rfl [(4,.o (.ptr 1 3 0 0))] [(0,Bt b (q)),(1,.cells 25 3 [[.d (iD (y.al)),.d (iD (y.st)),.arr 2 3 0 (l++[e]).length]]),(2,.cells 158 3 ((l++[e]).map Bg))] [0,1,5] (rl a rfl) (by (simp[cX,zC,a,cN,Ae,eC])) ?_;(try dsimp only[cA,cB]);refine Ak.AB [1,2] [(4,.o (.ip (AI ⟨y.al,y.st,l++[e]⟩)))] ⟨⟨_,rfl,.inr (.o (.box rfl (.cons .d (.cons .d (.cons (.full rfl (by simp[d5]) (by simp)) .nil)))))⟩,trivial⟩ ?_;refine aR ⟨_,rfl,[0],Bl ⟨y.al,y.st,l++[e]⟩,[(0,Bt b (q))],⟨by intro i hi;match i with|0=>rfl,by decide⟩,rfl,by (simp[cX,zC,a,cN]),q,⟨y.al,y.st,l++[e]⟩,by omega,by first|(simp;done)|(simp;omega),rfl,rfl,rfl⟩
abbrev Xh(r:Sys×Sys×AV):E:=.t [(true,(AI r.1).map .d),(true,(AI r.2.1).map .d),(true,(AL r.2.2).map .d)]
structure jn (r:Sys×Sys×AV) (n m:Nat):Prop where
 a:r.1.es.length<=n
 b:r.2.1.es.length<=n
 c:MS m r.2.2
def YK(b:List UInt8)(p d:Int)(n m:Nat)(x:E)(σ:Ab)(nx:Nat):Prop:=∃(p':Int) (r:Sys×Sys×AV),(p<=p'/\p'<=p+d)/\jn r n m/\x=Xh r/\σ=[(0,Bt b p')]/\nx=1
def gm(b:List UInt8)(p d:Int)(n m:Nat)(x:E)(σ:Ab)(nx:Nat):Prop:=∃(p':Int) (r:Sys×AV×Sys),(p<=p'/\p'<=p+d)/\jn (r.1,r.2.2,r.2.1) n m/\x=KU r/\σ=[(0,Bt b p')]/\nx=1
theorem XC(b:List UInt8)(hb:b.length<=2000)(p:Int)(G:0<=p/\p<700000000)(s:Sys)(q:AV)(t:Sys)(F:s.es.length<=2000)(ht:t.es.length<=2000)(A:MS 1000 q):Spec Tryz.prog TB 118 [(0,Bt b p)] 1 [.o (.ptr 0 2 0 0),Bl s,AX q,Bl t] (gm b p 20 2003 1042):=by
 obtain⟨c,I,H,B⟩:=Bs (TB:=TB) b hb p 30 (by omega);refine eR Tryz.func118 rfl (by kernel_rfl) rfl ?_;intro Z a;(repeat first|refine aU rfl ?_);(refine pW rfl ?_ rfl (by rfl);refine C4 rfl rfl ?_);(refine pW rfl ?_ rfl (by rfl);refine C4 rfl rfl ?_);(refine pW rfl ?_ rfl (by rfl);refine C4 rfl rfl ?_);(repeat first|refine tA rfl ?_|refine aU rfl ?_|apply Aa);(refine pW rfl ?_ rfl (by rfl);refine Aj [0] rfl rfl (B) ⟨rfl,by decide,by decide⟩ rfl (by simp[cX,zC,a,cN]) ?_;rintro g d e ⟨rfl,rfl,rfl⟩ _);apply Aa;apply aB;(repeat first|refine tA rfl ?_|refine s2 rfl λ_ z=>?_|refine aU rfl ?_|apply Aa);(refine aC rfl ?_ ?_<;>rintro⟨⟩)
 ·have y:=Fw (TB:=TB) b hb (p+1) (by omega) s (by omega)
  (repeat first|refine tA rfl ?_|refine aU rfl ?_);(refine pW rfl ?_ rfl (by rfl);refine Aj [0] rfl rfl (y) ⟨rfl,by decide,by decide⟩ rfl (by simp[cX,zC,a,cN]) ?_;rintro g d e ⟨n,s1,v,l,rfl,rfl,rfl⟩ _);have x:=Fw (TB:=TB) b hb n (by omega) s1 (by omega);(refine pW rfl ?_ rfl (by rfl);refine Aj [0] rfl rfl (x) ⟨rfl,by decide,by decide⟩ rfl (by simp[cX,zC,a,cN]) ?_;rintro g d e ⟨m,s2,u,k,rfl,rfl,rfl⟩ _);have w:=Fw (TB:=TB) b hb m (by omega) s2 (by omega);(refine pW rfl ?_ rfl (by rfl);refine Aj [0] rfl rfl (w) ⟨rfl,by decide,by decide⟩ rfl (by simp[cX,zC,a,cN]) ?_;rintro g d e ⟨h,f,r,j,rfl,rfl,rfl⟩ _);(repeat first|refine tA rfl ?_|refine aU rfl ?_|apply Aa);refine Ak.AB [1,2,3] [(5,.o (.ip (AI f))),(6,.o (.ip (AL q))),(7,.o (.ip (AI t))),(8,.o (.ptr 4 3 0 0)),(9,.o (.ptr 5 3 0 0)),(10,.o (.ptr 6 3 0 0))] ⟨⟨_,rfl,.inr (.o (.box rfl (EK.refl (AI f))))⟩,⟨_,rfl,.inr (.o (.box rfl (EK.refl (AL q))))⟩,⟨_,rfl,.inr (.o (.box rfl (EK.refl (AI t))))⟩,⟨_,rfl,.inl rfl⟩,⟨_,rfl,.inl rfl⟩,⟨_,rfl,.inl rfl⟩,trivial⟩ ?_;refine rG (Ju [(3,1),(4,1),(5,1)]) (by kernel_rfl) ?_;(repeat first|refine tA rfl ?_|apply Aa);exact aR ⟨_,rfl,[0],KU (f,q,t),[(0,Bt b (h))],⟨by intro i hi;match i with|0=>rfl,by decide⟩,rfl,by (simp[cX,zC,a,cN]),h,(f,q,t),by omega,⟨by show f.es.length<=_;omega,by show t.es.length<=_;omega,A.upto (by omega)⟩,rfl,rfl,rfl⟩
 ·(repeat first|refine tA rfl ?_|refine s2 rfl λ_ z=>?_|refine aU rfl ?_|apply Aa)
  (refine aC rfl ?_ ?_<;>rintro⟨⟩)
  ·have y:=Lb (TB:=TB) b hb (p+1) (by omega) q 1000 A (by omega)
   (repeat first|refine tA rfl ?_|refine aU rfl ?_);(refine pW rfl ?_ rfl (by rfl);refine Aj [0] rfl rfl (y) ⟨rfl,by decide,by decide⟩ rfl (by simp[cX,zC,a,cN]) ?_;rintro g d e ⟨n,s1,v,l,rfl,rfl,rfl⟩ _);have x:=Lb (TB:=TB) b hb n (by omega) s1 _ l (by omega);(refine pW rfl ?_ rfl (by rfl);refine Aj [0] rfl rfl (x) ⟨rfl,by decide,by decide⟩ rfl (by simp[cX,zC,a,cN]) ?_;rintro g d e ⟨m,s2,u,k,rfl,rfl,rfl⟩ _);have w:=Lb (TB:=TB) b hb m (by omega) s2 _ k (by omega);(refine pW rfl ?_ rfl (by rfl);refine Aj [0] rfl rfl (w) ⟨rfl,by decide,by decide⟩ rfl (by simp[cX,zC,a,cN]) ?_;rintro g d e ⟨h,f,r,j,rfl,rfl,rfl⟩ _);(repeat first|refine tA rfl ?_|refine aU rfl ?_|apply Aa);refine Ak.AB [1,2,3] [(5,.o (.ip (AI s))),(6,.o (.ip (AL f))),(7,.o (.ip (AI t))),(8,.o (.ptr 4 3 0 0)),(9,.o (.ptr 5 3 0 0)),(10,.o (.ptr 6 3 0 0))] ⟨⟨_,rfl,.inr (.o (.box rfl (EK.refl (AI s))))⟩,⟨_,rfl,.inr (.o (.box rfl (EK.refl (AL f))))⟩,⟨_,rfl,.inr (.o (.box rfl (EK.refl (AI t))))⟩,⟨_,rfl,.inl rfl⟩,⟨_,rfl,.inl rfl⟩,⟨_,rfl,.inl rfl⟩,trivial⟩ ?_;refine rG (Ju [(3,1),(4,1),(5,1)]) (by kernel_rfl) ?_;(repeat first|refine tA rfl ?_|apply Aa);exact aR ⟨_,rfl,[0],KU (s,f,t),[(0,Bt b (h))],⟨by intro i hi;match i with|0=>rfl,by decide⟩,rfl,by (simp[cX,zC,a,cN]),h,(s,f,t),by omega,⟨by show s.es.length<=_;omega,by show t.es.length<=_;omega,MS.upto j (by omega)⟩,rfl,rfl,rfl⟩
  ·(repeat first|refine tA rfl ?_|refine s2 rfl λ_ z=>?_|refine aU rfl ?_|apply Aa)
   (refine aC rfl ?_ ?_<;>rintro⟨⟩)
   ·have y:=Fw (TB:=TB) b hb (p+1) (by omega) t (by omega)
    (repeat first|refine tA rfl ?_|refine aU rfl ?_);(refine pW rfl ?_ rfl (by rfl);refine Aj [0] rfl rfl (y) ⟨rfl,by decide,by decide⟩ rfl (by simp[cX,zC,a,cN]) ?_;rintro g d e ⟨n,s1,v,l,rfl,rfl,rfl⟩ _);have x:=Fw (TB:=TB) b hb n (by omega) s1 (by omega);(refine pW rfl ?_ rfl (by rfl);refine Aj [0] rfl rfl (x) ⟨rfl,by decide,by decide⟩ rfl (by simp[cX,zC,a,cN]) ?_;rintro g d e ⟨m,s2,u,k,rfl,rfl,rfl⟩ _);have w:=Fw (TB:=TB) b hb m (by omega) s2 (by omega);(refine pW rfl ?_ rfl (by rfl);refine Aj [0] rfl rfl (w) ⟨rfl,by decide,by decide⟩ rfl (by simp[cX,zC,a,cN]) ?_;rintro g d e ⟨h,f,r,j,rfl,rfl,rfl⟩ _);(repeat first|refine tA rfl ?_|refine aU rfl ?_|apply Aa);refine Ak.AB [1,2,3] [(5,.o (.ip (AI s))),(6,.o (.ip (AL q))),(7,.o (.ip (AI f))),(8,.o (.ptr 4 3 0 0)),(9,.o (.ptr 5 3 0 0)),(10,.o (.ptr 6 3 0 0))] ⟨⟨_,rfl,.inr (.o (.box rfl (EK.refl (AI s))))⟩,⟨_,rfl,.inr (.o (.box rfl (EK.refl (AL q))))⟩,⟨_,rfl,.inr (.o (.box rfl (EK.refl (AI f))))⟩,⟨_,rfl,.inl rfl⟩,⟨_,rfl,.inl rfl⟩,⟨_,rfl,.inl rfl⟩,trivial⟩ ?_;refine rG (Ju [(3,1),(4,1),(5,1)]) (by kernel_rfl) ?_;(repeat first|refine tA rfl ?_|apply Aa);exact aR ⟨_,rfl,[0],KU (s,q,f),[(0,Bt b (h))],⟨by intro i hi;match i with|0=>rfl,by decide⟩,rfl,by (simp[cX,zC,a,cN]),h,(s,q,f),by omega,⟨by show s.es.length<=_;omega,by show f.es.length<=_;omega,A.upto (by omega)⟩,rfl,rfl,rfl⟩
   ·apply aK
    (repeat first|refine aU rfl ?_);refine Ak.AB [1,2,3] [(5,.o (.ip (AI s))),(6,.o (.ip (AL q))),(7,.o (.ip (AI t))),(8,.o (.ptr 4 3 0 0)),(9,.o (.ptr 5 3 0 0)),(10,.o (.ptr 6 3 0 0))] ⟨⟨_,rfl,.inr (.o (.box rfl (EK.refl (AI s))))⟩,⟨_,rfl,.inr (.o (.box rfl (EK.refl (AL q))))⟩,⟨_,rfl,.inr (.o (.box rfl (EK.refl (AI t))))⟩,⟨_,rfl,.inl rfl⟩,⟨_,rfl,.inl rfl⟩,⟨_,rfl,.inl rfl⟩,trivial⟩ ?_;refine rG (Ju [(3,1),(4,1),(5,1)]) (by kernel_rfl) ?_;(repeat first|refine tA rfl ?_|apply Aa);exact aR ⟨_,rfl,[0],KU (s,q,t),[(0,Bt b (p+1))],⟨by intro i hi;match i with|0=>rfl,by decide⟩,rfl,by (simp[cX,zC,a,cN]),p+1,(s,q,t),by omega,⟨by show s.es.length<=_;omega,by show t.es.length<=_;omega,A.upto (by omega)⟩,rfl,rfl,rfl⟩
def Yu:List (List W):=[[[97,98,32,50,32,48,97,49,32,49,98,48],[98,99,32,50,32,48,98,49,32,49,99,48],[97,99,32,43,49,44,50,32,43,50,44,48,32,45,50,44,50]],[[97,98,32,51,32,48,97,49,32,49,97,50,32,49,98,48],[97,98,32,50,32,48,97,49,32,49,98,48],[97,98,32,43,49,44,48,32,43,50,44,48,32,45,50,44,50]],[[97,98,99,32,56,32,48,97,48,32,48,97,49,32,48,98,48,32,49,97,50,32,49,98,50,32,50,97,51,32,50,98,51,32,51,97,52,32,51,98,52,32,52,97,53,32,52,98,53,32,53,97,54,32,53,98,54,32,54,99,55],[97,98,99,32,49,32,48,97,48,32,48,98,48],[99,32,43,49,32,45,49]],[[97,98,99,32,51,32,48,97,49,32,49,98,50,32,50,99,48],[98,99,32,50,32,48,98,49,32,49,99,48],[97,99,32,43,49,44,50,32,43,50,44,48,32,45,50,44,50]],[[97,98,32,51,32,48,97,49,32,48,98,48,32,49,98,50,32,50,97,50,32,50,98,50],[97,98,99,32,50,32,48,97,49,32,49,98,48,32,49,99,49],[98,32,43,49,32,43,50,32,45,50]],[[97,98,100,32,51,32,48,97,49,32,48,100,48,32,49,98,48,32,49,100,50,32,50,97,50],[97,98,32,50,32,48,97,49,32,49,98,48],[100,32,43,49,32,43,50,32,45,50]],[[97,98,99,32,56,32,48,97,48,32,48,97,49,32,48,98,48,32,49,97,50,32,49,98,50,32,50,97,51,32,50,98,51,32,51,97,52,32,51,98,52,32,52,97,53,32,52,98,53,32,53,97,54,32,53,98,54,32,54,99,55],[97,98,99,32,50,32,48,97,48,32,48,98,48,32,48,99,49],[99,32,43,49,32,45,49]],[[97,98,32,52,32,48,97,49,32,49,97,50,32,49,98,48,32,50,97,51,32,50,98,49,32,51,98,50],[97,98,32,53,32,48,97,49,32,49,97,50,32,49,98,48,32,50,97,51,32,50,98,49,32,51,97,52,32,51,98,50,32,52,98,51],[97,98,32,43,49,44,48,32,43,50,44,48,32,43,51,44,49,32,45,51,44,51]],[[97,99,32,51,32,48,97,49,32,49,97,50,32,50,99,48],[97,99,32,52,32,48,97,49,32,49,97,50,32,50,99,51,32,51,97,48],[99,32,43,49,32,43,50,32,45,50]]]
abbrev pb(l:List (List W)):D:=.l (l.map λx=>[BX x])
theorem Vm:Pure Tryz.prog TB 195 [] (.o (.d (pb Yu))):=by
 refine eG Tryz.func195 rfl (by kernel_rfl) rfl ?_;intro Z a;(repeat first|refine tA rfl ?_|(refine Af rfl ?_;refine gA rfl ?_;first|refine gS (λ_ _=>AA rfl rfl (by rfl) (by rfl)) ?_)|refine aU rfl ?_|apply Aa);(subst_vars;exact aR ⟨_,rfl,rfl⟩)
theorem cn:∀x∈Yu,x.length=3/\∀w∈x,w.length<=80:=by decide
theorem Xq(b:List UInt8)(hb:b.length<=2000)(p:Int)(h0:0<=p/\p<500000000):Spec Tryz.prog TB 117 [(0,Bt b p)] 1 [.o (.ptr 0 2 0 0)] (YK b p 3000 2000 1000):=by
 obtain⟨L,P,Q,hL0⟩:∃L,Pure Tryz.prog TB 195 [] (.o (.d (pb L)))/\(∀x∈L,x.length=3/\∀w∈x,w.length<=80)/\0<L.length:=⟨Yu,Vm,cn,by decide⟩
 have f0:=XE (TB:=TB) b hb p (by omega);refine eR Tryz.func117 rfl (by kernel_rfl) rfl ?_;intro Z e;(repeat first|refine tA rfl ?_|refine aU rfl ?_|apply Aa);(refine pW rfl ?_ rfl (by rfl);refine Aj [0] rfl rfl (f0) ⟨rfl,by decide,by decide⟩ rfl (by simp[cX,zC,e,cN]) ?_;rintro v f h ⟨u,⟨s,q,t⟩,X,⟨ba,bb,bc⟩,rfl,rfl,rfl⟩ _);have ba:s.es.length<=400:=ba;have bb:MS 41 q:=bb;have bc:t.es.length<=400:=bc;obtain⟨c,c0,c1,hc⟩:=Bs (TB:=TB) b hb u 3 (by omega);(repeat first|refine tA rfl ?_|refine aU rfl ?_|apply Aa);(refine pW rfl ?_ rfl (by rfl);refine Aj [0] rfl rfl (hc) ⟨rfl,by decide,by decide⟩ rfl (by simp[cX,zC,e,cN]) ?_;rintro v f h ⟨rfl,rfl,rfl⟩ _);(repeat first|refine s2 rfl λ_ H=>?_|apply Aa);(refine aC rfl ?_ ?_<;>rintro⟨⟩)
 ·obtain⟨k,k0,k1,hk⟩:=Bs (TB:=TB) b hb (u+1) L.length (by omega)
  obtain⟨tx,R⟩:=get_some (l:=L) (k:=k.toNat) (by omega);have V:=get_map (g:=λx=>[BX x]) R;obtain⟨N,F⟩:=Q tx (co R)
  obtain⟨A,z,y,rfl⟩:∃A z y,tx=[A,z,y]:=by
   match tx,N with
   | [a,b,c],_=>exact⟨a,b,c,rfl⟩
  have l0:=F A (by simp);have l1:=F z (by simp);have l2:=F y (by simp);have i0:([A,z,y].map CR)[(0:Int).toNat]?=some (CR A):=rfl;have i1:([A,z,y].map CR)[(1:Int).toNat]?=some (CR z):=rfl;have i2:([A,z,y].map CR)[(2:Int).toNat]?=some (CR y):=rfl;have g0:=GO (TB:=TB) A (by omega);have g1:=GO (TB:=TB) z (by omega);have g2:=Lx (TB:=TB) y (by omega);(repeat first|refine sN rfl ?_|refine tA rfl ?_|refine sP rfl (P) rfl ?_|refine aU rfl ?_|apply Aa);(refine pW rfl ?_ rfl (by rfl);refine Aj [0] rfl rfl (hk) ⟨rfl,by decide,by decide⟩ rfl (by simp[cX,zC,e,cN]) ?_;rintro v f h ⟨rfl,rfl,rfl⟩ _);(repeat first|refine tA rfl ?_|(refine s4 rfl ‹_› rfl ?_ ?_;omega)|refine aU rfl ?_|apply Aa);(refine pW rfl ?_ rfl (by rfl);refine Aj [] rfl rfl (g0) ⟨rfl,by decide,by decide⟩ rfl trivial ?_;rintro v f h ⟨⟨s1,U⟩,J,rfl,rfl,rfl⟩ _);(repeat first|refine tA rfl ?_|(refine s4 rfl ‹_› rfl ?_ ?_;omega)|refine aU rfl ?_|apply Aa);(refine pW rfl ?_ rfl (by rfl);refine Aj [] rfl rfl (g1) ⟨rfl,by decide,by decide⟩ rfl trivial ?_;rintro v f h ⟨⟨j,T⟩,I,rfl,rfl,rfl⟩ _);(repeat first|refine tA rfl ?_|(refine s4 rfl ‹_› rfl ?_ ?_;omega)|refine aU rfl ?_|apply Aa);(refine pW rfl ?_ rfl (by rfl);refine Aj [] rfl rfl (g2) ⟨rfl,by decide,by decide⟩ rfl trivial ?_;rintro v f h ⟨⟨n,S⟩,r,rfl,rfl,rfl⟩ _);have J:s1.es.length<=A.length+1:=J;have I:j.es.length<=z.length+1:=I;have r:MS (y.length+1) n:=r;obtain⟨d,d0,d1,Y⟩:=Bs (TB:=TB) b hb (u+1+1) 4 (by omega);(repeat first|refine tA rfl ?_|refine aU rfl ?_|apply Aa);(refine pW rfl ?_ rfl (by rfl);refine Aj [0] rfl rfl (Y) ⟨rfl,by decide,by decide⟩ rfl (by simp[cX,zC,e,cN]) ?_;rintro v f h ⟨rfl,rfl,rfl⟩ _);apply Aa;apply aB;(repeat first|refine tA rfl ?_|refine s2 rfl λ_ H=>?_|refine aU rfl ?_|apply Aa);(refine aC rfl ?_ ?_<;>rintro⟨⟩)
  ·have M:=Oc (TB:=TB) b hb (u+1+1+1) (by omega) s1 (by omega)
   (repeat first|refine tA rfl ?_|refine aU rfl ?_);(refine pW rfl ?_ rfl (by rfl);refine Aj [0] rfl rfl (M) ⟨rfl,by decide,by decide⟩ rfl (by simp[cX,zC,e,cN]) ?_;rintro v f h ⟨B,m,K,G,rfl,rfl,rfl⟩ _);(repeat first|refine tA rfl ?_|refine aU rfl ?_|apply Aa);refine Ak.AB [4,5,6] [(5,.o (.ip (AI m))),(6,.o (.ip (AL n))),(7,.o (.ip (AI j))),(2,.o (.ptr 1 3 0 0)),(3,.o (.ptr 2 3 0 0)),(4,.o (.ptr 3 3 0 0))] ⟨⟨_,rfl,.inr (.o (.box rfl (EK.refl (AI m))))⟩,⟨_,rfl,.inr (.o (.box rfl (EK.refl (AL n))))⟩,⟨_,rfl,.inr (.o (.box rfl (EK.refl (AI j))))⟩,⟨_,rfl,.inl rfl⟩,⟨_,rfl,.inl rfl⟩,⟨_,rfl,.inl rfl⟩,trivial⟩ ?_;refine rG (Ju [(3,1),(4,1),(5,1)]) (by kernel_rfl) ?_;(repeat first|refine tA rfl ?_|apply Aa);exact aR ⟨_,rfl,[0],Xh (m,j,n),[(0,Bt b (B))],⟨by intro i hi;match i with|0=>rfl,by decide⟩,rfl,by (simp[cX,zC,e,cN]),B,(m,j,n),by omega,⟨by show m.es.length<=_;omega,by show j.es.length<=_;omega,r.upto (by omega)⟩,rfl,rfl,rfl⟩
  ·(repeat first|refine tA rfl ?_|refine s2 rfl λ_ H=>?_|refine aU rfl ?_|apply Aa)
   (refine aC rfl ?_ ?_<;>rintro⟨⟩)
   ·have M:=Oc (TB:=TB) b hb (u+1+1+1) (by omega) j (by omega)
    (repeat first|refine tA rfl ?_|refine aU rfl ?_);(refine pW rfl ?_ rfl (by rfl);refine Aj [0] rfl rfl (M) ⟨rfl,by decide,by decide⟩ rfl (by simp[cX,zC,e,cN]) ?_;rintro v f h ⟨B,m,K,G,rfl,rfl,rfl⟩ _);(repeat first|refine tA rfl ?_|refine aU rfl ?_|apply Aa);refine Ak.AB [4,5,6] [(5,.o (.ip (AI s1))),(6,.o (.ip (AL n))),(7,.o (.ip (AI m))),(2,.o (.ptr 1 3 0 0)),(3,.o (.ptr 2 3 0 0)),(4,.o (.ptr 3 3 0 0))] ⟨⟨_,rfl,.inr (.o (.box rfl (EK.refl (AI s1))))⟩,⟨_,rfl,.inr (.o (.box rfl (EK.refl (AL n))))⟩,⟨_,rfl,.inr (.o (.box rfl (EK.refl (AI m))))⟩,⟨_,rfl,.inl rfl⟩,⟨_,rfl,.inl rfl⟩,⟨_,rfl,.inl rfl⟩,trivial⟩ ?_;refine rG (Ju [(3,1),(4,1),(5,1)]) (by kernel_rfl) ?_;(repeat first|refine tA rfl ?_|apply Aa);exact aR ⟨_,rfl,[0],Xh (s1,m,n),[(0,Bt b (B))],⟨by intro i hi;match i with|0=>rfl,by decide⟩,rfl,by (simp[cX,zC,e,cN]),B,(s1,m,n),by omega,⟨by show s1.es.length<=_;omega,by show m.es.length<=_;omega,r.upto (by omega)⟩,rfl,rfl,rfl⟩
   ·(repeat first|refine tA rfl ?_|refine s2 rfl λ_ H=>?_|refine aU rfl ?_|apply Aa)
    (refine aC rfl ?_ ?_<;>rintro⟨⟩)
    ·have M:=Vo (TB:=TB) b hb (u+1+1+1) (by omega) n _ r (by omega)
     (repeat first|refine tA rfl ?_|refine aU rfl ?_);(refine pW rfl ?_ rfl (by rfl);refine Aj [0] rfl rfl (M) ⟨rfl,by decide,by decide⟩ rfl (by simp[cX,zC,e,cN]) ?_;rintro v f h ⟨B,m,K,G,rfl,rfl,rfl⟩ _);(repeat first|refine tA rfl ?_|refine aU rfl ?_|apply Aa);refine Ak.AB [4,5,6] [(5,.o (.ip (AI s1))),(6,.o (.ip (AL m))),(7,.o (.ip (AI j))),(2,.o (.ptr 1 3 0 0)),(3,.o (.ptr 2 3 0 0)),(4,.o (.ptr 3 3 0 0))] ⟨⟨_,rfl,.inr (.o (.box rfl (EK.refl (AI s1))))⟩,⟨_,rfl,.inr (.o (.box rfl (EK.refl (AL m))))⟩,⟨_,rfl,.inr (.o (.box rfl (EK.refl (AI j))))⟩,⟨_,rfl,.inl rfl⟩,⟨_,rfl,.inl rfl⟩,⟨_,rfl,.inl rfl⟩,trivial⟩ ?_;refine rG (Ju [(3,1),(4,1),(5,1)]) (by kernel_rfl) ?_;(repeat first|refine tA rfl ?_|apply Aa);exact aR ⟨_,rfl,[0],Xh (s1,j,m),[(0,Bt b (B))],⟨by intro i hi;match i with|0=>rfl,by decide⟩,rfl,by (simp[cX,zC,e,cN]),B,(s1,j,m),by omega,⟨by show s1.es.length<=_;omega,by show j.es.length<=_;omega,MS.upto G.2 (by omega)⟩,rfl,rfl,rfl⟩
    ·apply aK
     (repeat first|refine aU rfl ?_);refine Ak.AB [4,5,6] [(5,.o (.ip (AI s1))),(6,.o (.ip (AL n))),(7,.o (.ip (AI j))),(2,.o (.ptr 1 3 0 0)),(3,.o (.ptr 2 3 0 0)),(4,.o (.ptr 3 3 0 0))] ⟨⟨_,rfl,.inr (.o (.box rfl (EK.refl (AI s1))))⟩,⟨_,rfl,.inr (.o (.box rfl (EK.refl (AL n))))⟩,⟨_,rfl,.inr (.o (.box rfl (EK.refl (AI j))))⟩,⟨_,rfl,.inl rfl⟩,⟨_,rfl,.inl rfl⟩,⟨_,rfl,.inl rfl⟩,trivial⟩ ?_;refine rG (Ju [(3,1),(4,1),(5,1)]) (by kernel_rfl) ?_;(repeat first|refine tA rfl ?_|apply Aa);exact aR ⟨_,rfl,[0],Xh (s1,j,n),[(0,Bt b (u+1+1+1))],⟨by intro i hi;match i with|0=>rfl,by decide⟩,rfl,by (simp[cX,zC,e,cN]),u+1+1+1,(s1,j,n),by omega,⟨by show s1.es.length<=_;omega,by show j.es.length<=_;omega,r.upto (by omega)⟩,rfl,rfl,rfl⟩
 ·apply aK
  (repeat first|refine aU rfl ?_);refine Ak.AB [4,5,6] [(5,.o (.ip (AI s))),(6,.o (.ip (AL q))),(7,.o (.ip (AI t))),(2,.o (.ptr 1 3 0 0)),(3,.o (.ptr 2 3 0 0)),(4,.o (.ptr 3 3 0 0))] ⟨⟨_,rfl,.inr (.o (.box rfl (EK.refl (AI s))))⟩,⟨_,rfl,.inr (.o (.box rfl (EK.refl (AL q))))⟩,⟨_,rfl,.inr (.o (.box rfl (EK.refl (AI t))))⟩,⟨_,rfl,.inl rfl⟩,⟨_,rfl,.inl rfl⟩,⟨_,rfl,.inl rfl⟩,trivial⟩ ?_;refine rG (Ju [(3,1),(4,1),(5,1)]) (by kernel_rfl) ?_;(repeat first|refine tA rfl ?_|apply Aa);exact aR ⟨_,rfl,[0],Xh (s,t,q),[(0,Bt b (u+1))],⟨by intro i hi;match i with|0=>rfl,by decide⟩,rfl,by (simp[cX,zC,e,cN]),u+1,(s,t,q),by omega,⟨by show s.es.length<=_;omega,by show t.es.length<=_;omega,bb.upto (by omega)⟩,rfl,rfl,rfl⟩
theorem aX(b:List UInt8)(hb:b.length<=2000)(p:Int)(u:0<=p/\p<500000000):Spec Tryz.prog TB 50 [(0,Bt b p)] 1 [.o (.ptr 0 2 0 0)] (YK b p 3100 2003 1042):=by
 have r:=Xq (TB:=TB) b hb p (by omega);refine eR Tryz.func50 rfl (by kernel_rfl) rfl ?_;intro Z a;(repeat first|refine tA rfl ?_|refine aU rfl ?_|apply Aa);(refine pW rfl ?_ rfl (by rfl);refine Aj [0] rfl rfl (r) ⟨rfl,by decide,by decide⟩ rfl (by simp[cX,zC,a,cN]) ?_;rintro j e f ⟨k,⟨s,t,q⟩,m,⟨ba,bb,bc⟩,rfl,rfl,rfl⟩ _);have ba:s.es.length<=2000:=ba;have bb:t.es.length<=2000:=bb;have bc:MS 1000 q:=bc;have n:=XC (TB:=TB) b hb k (by omega) s q t ba bb bc;(repeat first|refine tA rfl ?_|refine aU rfl ?_|apply Aa);(refine pW rfl ?_ rfl (by rfl);refine Aj [0] rfl rfl (n) ⟨rfl,by decide,by decide⟩ rfl (by simp[cX,zC,a,cN]) ?_;rintro j e f ⟨h,⟨s2,d,c⟩,l,g,rfl,rfl,rfl⟩ _);(repeat first|refine tA rfl ?_|refine aU rfl ?_|apply Aa);refine Ak.AB [4,5,6] [(5,.o (.ip (AI s2))),(6,.o (.ip (AI c))),(7,.o (.ip (AL d))),(2,.o (.ptr 1 3 0 0)),(3,.o (.ptr 2 3 0 0)),(4,.o (.ptr 3 3 0 0))] ⟨⟨_,rfl,.inr (.o (.box rfl (EK.refl (AI s2))))⟩,⟨_,rfl,.inr (.o (.box rfl (EK.refl (AI c))))⟩,⟨_,rfl,.inr (.o (.box rfl (EK.refl (AL d))))⟩,⟨_,rfl,.inl rfl⟩,⟨_,rfl,.inl rfl⟩,⟨_,rfl,.inl rfl⟩,trivial⟩ ?_;refine rG (Ju [(3,1),(4,1),(5,1)]) (by kernel_rfl) ?_;(repeat first|refine tA rfl ?_|apply Aa);exact aR ⟨_,rfl,[0],Xh (s2,c,d),[(0,Bt b (h))],⟨by intro i hi;match i with|0=>rfl,by decide⟩,rfl,by (simp[cX,zC,a,cN]),h,(s2,c,d),by omega,g,rfl,rfl,rfl⟩
abbrev ju(r:Sys×Sys×AV×Int):E:=.t [(true,(AI r.1).map .d),(true,(AI r.2.1).map .d),(true,(AL r.2.2.1).map .d),(false,[.d (iD r.2.2.2)])]
theorem Ks(b:List UInt8)(hb:b.length<=9223372036854775807):Spec Tryz.prog TB 11 [] 0 [.o (.d (ZZ b))] (Es (λr:Sys×Sys×AV×Int=>(-1<=r.2.2.2/\r.2.2.2<=13)/\r.1.es.length<=1048576/\r.2.1.es.length<=1048576) ju):=by
 obtain⟨b',g,l⟩:=Xr (TB:=TB) b hb;have k:=aX (TB:=TB) b' g 0 (by omega);refine eR Tryz.func11 rfl (by kernel_rfl) rfl ?_;intro Z c;(repeat first|refine tA rfl ?_|refine aU rfl ?_|apply Aa);(refine pW rfl ?_ rfl (by rfl);refine BI [] rfl rfl 0 (l) (by decide) ⟨rfl,by decide,by decide⟩ rfl (by simp[cX,zC,c,cN]) ?_;rintro h e f ⟨rfl,rfl,rfl⟩ _);(repeat first|refine tA rfl ?_|refine aU rfl ?_|apply Aa);(refine pW rfl ?_ rfl (by rfl);refine Aj [3] rfl rfl (k) ⟨rfl,by decide,by decide⟩ rfl (by simp[cX,zC,c,cN]) ?_;rintro h e f ⟨q,⟨s,t,a⟩,p,j,rfl,rfl,rfl⟩ _);obtain⟨n,m,hk⟩:=Dc (TB:=TB) b' g q (by omega) [1,2,3,1,4,0,-1,13] (by decide) (by decide);(repeat first|refine tA rfl ?_);apply Aa;refine Ak.AB [4,5,6] [(2,.o (.ptr 0 3 0 0)),(3,.o (.ptr 1 3 0 0)),(4,.o (.ptr 2 3 0 0)),(6,.o (.ptr 3 2 0 0)),(7,.o (.ip (AI s))),(8,.o (.ip (AI t))),(9,.o (.ip (AL a)))] ⟨⟨_,rfl,.inl rfl⟩,⟨_,rfl,.inl rfl⟩,⟨_,rfl,.inl rfl⟩,⟨_,rfl,.inl rfl⟩,⟨_,rfl,.inr (.o (.box rfl (EK.refl (AI s))))⟩,⟨_,rfl,.inr (.o (.box rfl (EK.refl (AI t))))⟩,⟨_,rfl,.inr (.o (.box rfl (EK.refl (AL a))))⟩,trivial⟩ ?_;(repeat first|refine aU rfl ?_);refine rG (Ju [(5,1),(6,1),(7,1),(8,1)]) (by kernel_rfl) ?_;(repeat first|refine tA rfl ?_);(refine pW rfl ?_ rfl (by rfl);refine Aj [3] rfl rfl (hk) ⟨rfl,by decide,by decide⟩ rfl (by simp[cX,zC,c,cN]) ?_;rintro h e f ⟨rfl,rfl,rfl⟩ _);(repeat first|refine tA rfl ?_|apply Aa);exact aR ⟨_,rfl,[],ju (s,t,a,n),[],⟨λi hi=>absurd hi (jp i),lm⟩,rfl,trivial,(s,t,a,n),⟨by (simp at m;dsimp only;omega),by have:s.es.length<=2003:=j.a;show s.es.length<=_;omega,by have:t.es.length<=2003:=j.b;show t.es.length<=_;omega⟩,rfl,rfl,rfl⟩
end Go.Am
namespace Go.Am
open Go Go.Proofs
set_option maxHeartbeats 1000000
set_option maxRecDepth 4000
attribute [local irreducible] A9 CY Lex BV Ak Spec
variable {tabs:List (Nat×Obj)}
theorem SC{t:CO}:∀(u v:W) (F:PS),Gg t F u=false->Gg t F (u++v)=false
 | [],v,F,h=>by
  have h:(!Fu t F)=false:=h
  cases v with
  | nil=>exact h
  | cons c v=>show (!Fu t F && _)=false;rw[h];rfl
 | c :: u,v,F,h=>by
  have h:(!Fu t F && Gg t (Ds t ((c.toNat:Int)-97) F) u)=false:=h
  show (!Fu t F && Gg t (Ds t ((c.toNat:Int)-97) F) (u++v))=false
  cases hb:(!Fu t F)
  ·rfl
  ·rw[hb]at h
   exact SC u v _ h
theorem Uw{L:W->Bool}{ls:List UInt8}{t:A3}(h:BU L ls t)(g:∀u v,L u=false->L (u++v)=false):∀(w:W) (i:Nat) (r:W),t.rows[i]?=some r->AN ls w->L r=false->L (t.rows.getD (runM L t i w) [])=false
 | [],i,r,hi,_,a=>by show L (t.rows.getD i [])=false;rw[IE hi];exact a
 | c :: w,i,r,hi,f,a=>by
  obtain⟨s,k,b⟩:=h.idx hi (f c (by simp));have j:=Vv.1 b [] (co h.c0);rw[pX,pX]at j
  have e:runM L t i (c::w)=runM L t (C9 L t (r++[c])) w:=by
   show runM L t (C9 L t (t.rows.getD i []++[c])) w=_
   rw[IE hi]
  rw[e];exact Uw h g w _ s k (λd l=>f d (by simp[l])) (by rw[j];exact g r [c] a)
theorem fM{te:Ex}{x:A3}{a:AV}(ha:Tb te x=some a)(hk:te.kn=false):∀u v,AN (A2 a.al) u->AN (A2 a.al) v->LA a u=false->LA a (u++v)=false:=by
 obtain⟨c,i,b,rfl,f,l,k,j⟩:=lS ha
 have hL:∀u v,Cb te u=false->Cb te (u++v)=false:=λu v h=>by
  unfold Cb at *;rw[if_neg (by rw[hk];exact qq)] at *;exact SC u v _ h
 intro u v d c h;have g:=(ce.1 b.r0).1;rw[Lw b d]at h;rw[Lw b (TK d c)];unfold MY at *;rw[Qn];obtain⟨r,e⟩:=get_some (b.run u 0 d g);rw[IE e]at h;exact Uw b hL v _ r e c h
end Go.Am
namespace Go.Am
open Go Go.Proofs
set_option maxHeartbeats 1000000
set_option maxRecDepth 4000
attribute [local irreducible] A9 CY Lex BV Ak Spec
section
variable {s t s' t':Sys}{p p':AV}{al:Int}(hI:FN s p t al)(hI':FN s' p' t' al)(hL:Uo (LS ⟨s',p',al⟩) (LS ⟨s,p,al⟩) al)
include hI hI' hL
end
theorem TZ{s t:Sys}{p:AV}{al:Int}(hI:FN s p t al){x:A3}{r:Nat}(c:HG s p al x r){w:W}{b:Bool}(h:GA s t p al (Bz s p al x)=some (w,b)):AN (A2 al) w:=by
 obtain⟨g,a,_⟩:=Jp hI c;unfold GA at h;split at h
 ·rename_i u e
  injection h with h;injection h with h f
  subst h;exact QI (YD hI g a e).1
 ·split at h
  ·rename_i v d
   injection h with h;injection h with h f
   subst h;have:=(Xa d).1;rw[a]at this;exact QI this
  ·cases h
end Go.Am
namespace Go.Am
open Go Go.Proofs
theorem Wy{s t:Sys}{p:AV}{al:Int}:∀(k:Nat) (x:A3),(EW s t p al k x).length<=k+1
 | 0,x=>by simp[EW]
 | k+1,x=>by
  simp only[EW]
  cases Ie s t p al x with
  | none=>simp
  | some y=>have:=Wy (s:=s) (t:=t) (p:=p) (al:=al) k y;simp only[p9];omega
def UC(s t:Sys)(p:AV)(al:Int)(x:A3)(v:W):Prop:=NX (A2 al) x v\/∃w b,GA s t p al (Bz s p al x)=some (w,b)/\(v=w\/YU (LS ⟨s,p,al⟩) (A2 al) x w v)
theorem ZK{s t:Sys}{p:AV}{al:Int}(h:Bi ⟨s,p,al⟩=true){x:A3}(a:x∈Bu s t p al):∃r,HG s p al x r:=by
 obtain⟨i,hi⟩:=sT.1 a;exact⟨_,QA 11 (Uh h).2 i x hi⟩
theorem O8{s:Sys}{p:AV}{al:Int}{x:A3}{r:Nat}(b:HG s p al x r):Ho al 20000 x:=by
 obtain⟨_,_,_,a,_⟩:=DG b.v;have:=a.bd;rwa[Eg]at this
section
variable {s t:Sys}{p:AV}{al:Int}(hI:FN s p t al)(h:Bi ⟨s,p,al⟩=true)
include hI h
theorem ak{x:A3}(g:x∈Bu s t p al):EX 288238 (UC s t p al x):=by
 obtain⟨r,e⟩:=ZK h g;have hb:=O8 e;refine((Nh hb).or (b:=286474) ?_).sub (b:=288238) (λv c=>c) (by omega)
 cases f:GA s t p al (Bz s p al x) with
 | none=>exact .none λv ⟨w,b,a,_⟩=>by cases a
 | some wb=>
  obtain⟨w,b⟩:=wb;have d:=TZ hI e f;have i:=O3 f;refine((EX.map (n:=1) (p:=λv=>v=w) (λ_:Unit=>w) [()] (by simp) λv c=>⟨(),by simp,c⟩).or (aJ (L:=LS ⟨s,p,al⟩) hb d (by omega))).sub (b:=286474) (λv ⟨w',b',a,c⟩=>?_) (by omega)
  injection a with a
  injection a with a _
  subst a;exact c
theorem gx{x:A3}(k:x∈Bu s t p al)(v:W)(a:UC s t p al x v):okB al v:=by
 obtain⟨r,f⟩:=ZK h k;have hb:=O8 f
 rcases a with a|⟨w,b,g,a⟩
 ·exact hb.on (JE al) (by omega) v a
 ·have d:=TZ hI f g
  have e:=O3 g
  rcases a with rfl|a
  ·exact⟨d,by omega⟩
  ·rcases a with a|a|⟨z,i,u,l,y,j,a⟩
   ·exact hb.on (JE al) (by omega) v a
   ·exact(hb.mono (by omega)).pz (JE al) d (by omega) v a
   ·obtain⟨q,_,rfl⟩:=IW i
    exact(SU hb (λc m=>d c (by simp[m])) (by simp at e;omega) l).oU (JE al) (by omega) y j v a
theorem YT:∃ok:W->Prop,(∀w,ok w->kK al w)/\QD (Eo s p al) ok/\(∀y∈Fb (LS ⟨s,p,al⟩) (A2 al) 13 BA,Ji ok (A2 al) y)/\
 ∀x∈Bu s t p al,Ji ok (A2 al) x/\∀w b,GA s t p al (Bz s p al x)=some (w,b)->ok w/\∀v,YU (LS ⟨s,p,al⟩) (A2 al) x w v->ok v:=by
 have i:=RS (L:=LS ⟨s,p,al⟩) (Kn al);have g:EX (12*288238) (λv=>∃x∈Bu s t p al,UC s t p al x v):=EX.ex (n:=12) (b:=288238) (q:=λx v=>UC s t p al x v) (Bu s t p al) (Wy 11 _) (λx c=>ak hI h c) λw d=>d;have l:=i.or g
 have e:∀w,((∃y∈Fb (LS ⟨s,p,al⟩) (A2 al) 13 BA,NX (A2 al) y w)\/∃x∈Bu s t p al,UC s t p al x w)->okB al w:=λw d=>by
  rcases d with ⟨y,f,a⟩|⟨x,c,a⟩
  ·exact(Kn al).oU (JE al) (by omega) y f w a
  ·exact gx hI h c w a
 obtain⟨k,m⟩:=jd (te:=Eo s p al) l (by omega) (λw d=>by rw[Eg];exact e w d);rw[Eg]at k;exact⟨_,k,m,λy f v a=>.inl ⟨y,f,a⟩,λx c=>⟨λv a=>.inr ⟨x,c,.inl a⟩,λw b j=>⟨.inr ⟨x,c,.inr ⟨w,b,j,.inl rfl⟩⟩,λv a=>.inr ⟨x,c,.inr ⟨w,b,j,.inr a⟩⟩⟩⟩⟩
end
theorem FV{σ:Ab}{T U S:TypeId}{i j k n m:Nat}{al:Int}{l:Fm}{nx:List (List Int)}{ac:List Bool}(h:look σ i=some (.cells T 1 (Ay l)))(g:look σ j=some (.cells U 1 (ac.map AF)))(f:look σ k=some (.sld S (sI l)))(e:l.map (·.2)=nx)(b:l.length=n)(c:ac.length=m):EZ σ (.a [.d (iD al),.arr i 1 0 n,.arr j 1 0 m]) (.a [.d (iD al),.d (CA nx),.d (E5 ac)]):=by
 subst b c e;exact .a (ds:=[iD al,CA (l.map (·.2)),E5 ac]) (.cons .d (.cons (.MU h f) (.cons (.full g (by simp[d5]) (gt _)) .nil)))
end Go.Am
namespace Go.Am
open Go Go.Proofs
set_option maxHeartbeats 1000000
set_option maxRecDepth 4000
attribute [local irreducible] A9 CY Lex BV Ak Spec
noncomputable def Bo(s t:Sys)(p:AV)(al:Int)(k:Nat):A3:=(Bu s t p al).getD k ⟨[],[]⟩
abbrev ML(v:Vd):List D:=[iD v.code,iD v.a.al,CA v.a.nx,E5 v.a.ac,tD v.tr,iD v.rd]
abbrev Xi(v:Vd):E:=.a [.d (iD v.code),.d (iD v.a.al),.d (CA v.a.nx),.d (E5 v.a.ac),.d (tD v.tr),.d (iD v.rd)]
section
variable {s t:Sys}{p:AV}{al:Int}(hI:FN s p t al)
include hI
theorem ZR{x:A3}{r:Nat}(b:HG s p al x r){w:W}(c:AN (A2 al) w)(d:w.length<=4000):MD (Eo s p al) x w=Hm (LS ⟨s,p,al⟩) (A2 al) x w:=by
 have e:(CN (Eo s p al) && BE (Cb (Eo s p al)) (A0 (Eo s p al)) x)=true:=by
  rw[RO b.v,KJ,Eg,b.o];rfl
 have a:Gz (A0 (Eo s p al)) w=true:=by rw[Eg];exact Zg (PC hI) c d
 unfold MD;rw[e,a,tg,if_pos rfl,KJ,Eg]
theorem eH{x:A3}{r:Nat}(a:HG s p al x r){w:W}{b:Bool}(h:GA s t p al (Bz s p al x)=some (w,b))(hb:(b || LS ⟨s,p,al⟩ w)=true):Ie s t p al x=Hm (LS ⟨s,p,al⟩) (A2 al) x w:=by
 unfold Ie;rw[h];simp only[hb,if_true];exact ZR hI a (TZ hI a h) (O3 h)
omit hI in
theorem Gi{k:Nat}(h:k<(Bu s t p al).length):(Bu s t p al)[k]?=some (Bo s t p al k):=by
 unfold Bo;rw[qp,d6 h];rfl
theorem QK{k:Nat}(h:k+1=(Bu s t p al).length):C6 s t p=PN s t p al (Bo s t p al k) (k+1):=by
 unfold C6;rw[if_neg (U8 hI),<-hI.hal,<-h]
 have e:(Bu s t p al).getLastD BA=Bo s t p al k:=by
  rw[List.getLastD_eq_getLast?,List.getLast?_eq_getElem?,<-h,Nat.add_sub_cancel,Gi (by omega)];rfl
 rw[e]
theorem JI{k:Nat}(h:k<(Bu s t p al).length):HG s p al (Bo s t p al k) (k+1)/\
    ((GA s t p al (Bz s p al (Bo s t p al k))=none/\C6 s t p=⟨0,Bz s p al (Bo s t p al k),[],(k:Int)+1⟩/\k+1=(Bu s t p al).length)\/
      ∃ w b,GA s t p al (Bz s p al (Bo s t p al k))=some (w,b)/\AN (A2 al) w/\w.length<=4000/\
        ((b = false/\LS ⟨s,p,al⟩ w=false/\C6 s t p=⟨1,Ga,Ku (BO [s,t] p),(k:Int)+1⟩/\k+1=(Bu s t p al).length)\/
         ((b=true\/LS ⟨s,p,al⟩ w=true)/\((Hm (LS ⟨s,p,al⟩) (A2 al) (Bo s t p al k) w=some (Bo s t p al (k+1))/\k+1<(Bu s t p al).length)\/
           (Hm (LS ⟨s,p,al⟩) (A2 al) (Bo s t p al k) w=none/\Bo s t p al (k+1)=⟨[],[]⟩/\k+1=(Bu s t p al).length/\C6 s t p=⟨2,Ga,[],(k:Int)+1⟩))))):=by
  obtain⟨l,g⟩:=run_get hI (Gi h);refine⟨l,?_⟩
  have f:((k+1:Nat):Int)=(k:Int)+1:=by omega
  have a:Ie s t p al (Bo s t p al k)=none->k+1=(Bu s t p al).length:=λe=>by
    rw[e]at g;have:=rH.1 g;omega
  cases d:GA s t p al (Bz s p al (Bo s t p al k)) with
  | none=>
    have e:Ie s t p al (Bo s t p al k)=none:=by unfold Ie;rw[d]
    have c:=QK hI (a e);unfold PN at c;rw[d,f]at c;exact .inl ⟨rfl,c,a e⟩
  | some wb=>
    obtain⟨w,b⟩:=wb;refine .inr ⟨w,b,rfl,TZ hI l d,O3 d,?_⟩;by_cases hb:(b || LS ⟨s,p,al⟩ w)=true
    · refine .inr ⟨by simpa using hb,?_⟩
      have e:=eH hI l d hb
      cases i:Hm (LS ⟨s,p,al⟩) (A2 al) (Bo s t p al k) w with
      | some y=>
        rw[i]at e;rw[e]at g;have j:=(ce.1 g).1;refine .inl ⟨?_,j⟩;rw[Gi j]at g;exact g.symm
      | none=>
        rw[i]at e;have hk:=a e;have c:=QK hI hk;unfold PN at c;rw[d]at c;simp only[hb,if_true,f]at c;refine .inr ⟨rfl,?_,hk,c⟩;unfold Bo;rw[qp,ol (by omega)];rfl
    · have e:Ie s t p al (Bo s t p al k)=none:=by unfold Ie;rw[d];simp only[hb];rfl
      have hk:=a e;have c:=QK hI hk;unfold PN at c;rw[d]at c;simp only[hb,f]at c
      have hb:b=false/\LS ⟨s,p,al⟩ w=false:=by simpa using hb
      exact .inl ⟨hb.1,hb.2,c,hk⟩
theorem Qe{a:AV}{w:W}{b:Bool}(h:GA s t p al a=some (w,b)):(∃u,b=true/\Ec s a p=some u/\Jh al (Dg u)=w/\Jg u/\(Dg u).length<=2304)\/(∃u,b=false/\Ec s a p=none/\BO [t] a=some u/\Jh al (Dg u)=w/\Jg u/\(Dg u).length<=192):=by
 unfold GA at h;split at h
 ·rename_i u d
  injection h with h;injection h with h e
  obtain⟨c,f⟩:=cD d;exact .inl ⟨u,e.symm,d,(Qi c).trans h,c,f⟩
 ·rename_i d
  split at h
  ·rename_i v g
   injection h with h;injection h with h e
   obtain⟨c,f⟩:=cC g;exact .inr ⟨v,e.symm,d,g,(Qi c).trans h,c,f⟩
  ·cases h
omit hI in
theorem Qf{a:AV}(h:GA s t p al a=none):Ec s a p=none/\BO [t] a=none:=by
 unfold GA at h;split at h
 ·cases h
 ·rename_i c
  split at h
  ·cases h
  ·rename_i b
   exact⟨c,b⟩
theorem Ys:Rw (Eo s p al)=some (Bo s t p al 0):=by
 obtain⟨b,_⟩:=Uh (s:=s) (p:=p) (al:=al) (FF hI);have a:=Gi (s:=s) (t:=t) (p:=p) (al:=al) (k:=0) (by have:=Kk hI;omega);rw[b];unfold Bu at a;simp only[EW]at a
 simpa using a
end
section
variable {s t:Sys}{p:AV}{al:Int}(hI:FN s p t al)
include hI
theorem TY:(C6 s t p).rd=(Bu s t p al).length:=by
 obtain⟨x,_,_,a⟩:=cy hI
 rcases a with ⟨e,_⟩|⟨e,_⟩|⟨e,_⟩<;>rw[e]
end
noncomputable def Cr(s t:Sys)(p:AV)(n:Int):Option AV:=if ¬AQ s p t<0/\1<=n/\n<=((Bu s t p (AQ s p t)).length:Int) then some (Bz s p (AQ s p t) (Bo s t p (AQ s p t) (n.toNat-1))) else none
theorem dh{s t:Sys}{p a:AV}{n:Int}(h:Cr s t p n=some a):∃k:Nat,n=((k+1:Nat):Int)/\¬AQ s p t<0/\k<(Bu s t p (AQ s p t)).length/\a=Bz s p (AQ s p t) (Bo s t p (AQ s p t) k):=by
 unfold Cr at h;split at h
 ·rename_i b
  injection h with h
  exact⟨n.toNat-1,by omega,b.1,by omega,h.symm⟩
 ·cases h
theorem Pg{s t:Sys}{p:AV}{n:Int}(hi:¬AQ s p t<0):(Cr s t p n).isSome=decide (1<=n/\n<=(C6 s t p).rd):=by
 rw[TY (GZ hi)];unfold Cr;by_cases h:1<=n/\n<=((Bu s t p (AQ s p t)).length:Int)
 ·rw[if_pos ⟨hi,h⟩,decide_eq_true h];rfl
 ·rw[if_neg λa=>h a.2,decide_eq_false h];rfl
theorem SZ{s t:Sys}{p:AV}{n:Int}(hi:AQ s p t<0):Cr s t p n=none:=by
 unfold Cr;rw[if_neg λh=>h.1 hi]
theorem UD{s t:Sys}{p:AV}{al:Int}(hI:FN s p t al){x:A3}{r:Nat}(a:HG s p al x r):Tb (Eo s p al) x=some (Bz s p al x):=by
 unfold Tb;rw[RO a.v,KJ,Eg,a.o,if_pos (by rfl:(none:Option W).isNone=true)];rfl
theorem ao{s t:Sys}{p a:AV}{n:Int}(h:Cr s t p n=some a):AT a=true/\a.al=AQ s p t/\(∀u v,AN (A2 a.al) u->AN (A2 a.al) v->LA a u=false->LA a (u++v)=false)/\
 (1<n->∃b,Cr s t p (n-1)=some b/\b.nx.length<a.nx.length)/\((IA s t p a=0/\n=(C6 s t p).rd/\(C6 s t p).code=0)\/IA s t p a=3\/IA s t p a=4)/\
 (n=(C6 s t p).rd->(C6 s t p).code=0->a=(C6 s t p).a):=by
 obtain⟨k,rfl,hi,hk,rfl⟩:=dh h;have hI:=GZ hi;obtain⟨l,i⟩:=JI hI hk;obtain⟨G,F,J,I⟩:=Jp hI l;have m:=TY hI;refine⟨G,F,λu v y x A=>fM (UD hI l) rfl u v y x A,λz=>?_,?_,λz c=>?_⟩
 ·obtain⟨j,rfl⟩:∃j,k=j+1:=⟨k-1,by omega⟩
  obtain⟨o,_⟩:=JI hI (k:=j) (by omega);obtain⟨_,_,H,_⟩:=Jp hI o;refine⟨Bz s p (AQ s p t) (Bo s t p (AQ s p t) j),?_,?_⟩
  ·unfold Cr
   rw[if_pos ⟨hi,by omega,by omega⟩];congr 3;omega
  ·have q:=run_get hI (Gi (s:=s) (t:=t) (p:=p) (al:=AQ s p t) (k:=j) (by omega))
   rw[Gi hk]at q;have:=(TH o q.2.symm).2;omega
 ·obtain⟨g,d⟩:=RR hI l
  rcases i with ⟨f,e,r⟩|⟨w,b,f,_⟩
  ·exact .inl ⟨g.1 f,by rw[m];omega,by rw[e]⟩
  ·rcases d with d|d
   ·rw[g.2 d]at f;cases f
   ·exact .inr d
 ·have B:k+1=(Bu s t p (AQ s p t)).length:=by omega
  rcases i with ⟨f,e,r⟩|⟨w,b,f,_,_,i⟩
  ·rw[e]
  ·rcases i with ⟨_,_,e,_⟩|⟨_,⟨_,r⟩|⟨_,_,_,e⟩⟩
   ·rw[e]at c;cases c
   ·omega
   ·rw[e]at c;cases c
end Go.Am
namespace Go.Am
open Go Go.Proofs
set_option maxHeartbeats 1000000
set_option maxRecDepth 4000
attribute [local irreducible] A9 CY Lex BV Ak Spec
variable {TB:BR}
theorem UU{n k:Nat}(h:k<n):(2 ^ n-1).testBit k=true:=by rw[Nat.testBit_two_pow_sub_one,decide_eq_true h]
theorem Ll{n:Nat}:∀ {k:Nat},k<=n->KG (2 ^ n-1) k=k
 | 0,_=>rfl
 | k+1,h=>by rw[P9,UU (by omega),if_pos rfl,Ll (by omega)]
theorem Xu{y:Sys}(U:AW y=true)(Y:y.es.length<=1048576):Pure Tryz.prog TB 205 [Bl y,eI .i64 ((2 ^ y.st.toNat-1:Nat):Int)] (Bl y):=by
 have hh:=AU U
 obtain⟨a,J,I⟩:∃a:Nat,y.st=a/\a<=16:=⟨y.st.toNat,by omega,by omega⟩
 have X:2 ^ a<=2 ^ 16:=qj (by omega) I
 have B:2 ^ a-1<2 ^ 62:=by omega
 rw[show y.st.toNat=a by omega];have j:=Nt (TB:=TB) (2 ^ a-1) B a (by omega);rw[Ll (i9 _)]at j
 obtain⟨m,q⟩:∃m,m=2 ^ a-1:=⟨_,rfl⟩
 have A:∀k,k<a->A6 (m:Nat) k=true:=λk hk=>by rw[Dq (by omega) (by omega),q];exact UU hk
 have b:∀k,k<=a->KG m k=k:=λk hk=>by rw[q];exact Ll hk
 rw[<-q]at j B |-;rw[<-J]at j;refine eG Tryz.func205 rfl (by kernel_rfl) rfl ?_;intro Z i;(repeat first|refine tA rfl ?_|refine aU rfl ?_|apply Aa);refine rG (Ju [(7,1),(8,1)]) (by kernel_rfl) ?_;(repeat first|refine tX rfl ?_|refine sP rfl (j) rfl ?_|(refine Af rfl ?_;refine gA rfl ?_;first|refine gS (λ_ _=>P6 rfl rfl (by rfl) (by rfl)) ?_)|refine aU rfl ?_|apply Aa);apply aB;refine aL (α:={z:Nat×List Ej // z.1<=y.es.length/\z.2=y.es.take z.1}) [1,2] [] rfl rfl (λs=>[(4,.o (.ptr 0 3 0 0)),(5,.o (.ptr 1 3 0 0)),(6,eI .i64 s.1.1)]) (λs=>gY y.al y.st s.1.2) 3 (λs=>y.es.length-s.1.1) (⟨⟨0,[]⟩,by simp⟩) i rfl (by (simp[cX,zC,i,gY,N5,cN])) ?_;rintro⟨⟨k,l⟩,hk,c⟩;(try dsimp only[cA,cB]);have hk:k<=y.es.length:=hk;have c:l=y.es.take k:=c
 have M:l.length=k:=by rw[c,qX];omega
 by_cases L:k<y.es.length
 ·obtain⟨e,R⟩:=get_some L
  have v:y.es.take (k+1)=l++[e]:=by rw[f6,R,c];rfl
  have Q:=get_map (g:=Dr) R
  have hee:(y.es.map Dr)[((k:Nat):Int).toNat]?=some (Dr e):=by rw[f9];exact Q
  have hb:=Dm U (co R);unfold DL at hb;simp only[d4,decide_eq_true_eq]at hb
  obtain⟨S,P⟩:∃S:Nat,e.f=S:=⟨e.f.toNat,by omega⟩
  obtain⟨F,H⟩:∃F:Nat,e.t=F:=⟨e.t.toNat,by omega⟩
  have x:=Da (TB:=TB) (m:Nat) e.f (by omega) (by omega);have w:=Da (TB:=TB) (m:Nat) e.t (by omega) (by omega);rw[A _ (by omega)]at x w;have p:=Nt (TB:=TB) m B S (by omega);have n:=Nt (TB:=TB) m B F (by omega);rw[b _ (by omega),<-P]at p;rw[b _ (by omega),<-H]at n;(repeat first|refine sN rfl ?_|refine tA rfl ?_|refine s2 rfl λ_ T=>?_|refine aU rfl ?_|apply Aa)
  ((refine aC rfl ?_ ?_<;>rintro⟨⟩);all_goals try(exfalso;(simp only[oZ] at *;omega)))
  apply aK;refine aS (aB ?_)
  (repeat' first|refine tA rfl ?_|(refine s4 rfl ‹_› rfl ?_ ?_;omega)|refine sP rfl (x) rfl ?_|refine sP rfl (w) rfl ?_|refine aU rfl ?_|apply Aa|(refine aC rfl ?_ ?_<;>rintro⟨⟩));all_goals try contradiction
  cases l with
  | nil=>
   refine rG (Ju [(1,11),(4,13),(7,13),(10,13),(14,1),(16,1)]) (by kernel_rfl) ?_;(repeat first|refine tA rfl ?_|refine sP rfl (p) rfl ?_|refine sP rfl (n) rfl ?_|(refine Af rfl ?_;refine gA rfl ?_;first|refine gS (λ_ _=>AA rfl rfl (by rfl) (by rfl)) ?_));(refine pW rfl ?_ rfl (by rfl);refine Zn 38 rfl ?_;refine ET rfl rfl rfl (by intro r u;simp at u;subst u;rfl) (by rfl) (am rfl) (by simp) (λh=>?_) (λ_=>?_))
   ·exact absurd h (by simp)
   (repeat first|(refine sX rfl ?_ ?_;first|exact tI|omega)|refine aU rfl ?_|apply Aa);refine⟨⟨⟨k+1,[e]⟩,by dsimp only;omega,by dsimp only;rw[v];rfl⟩,by dsimp only;(omega),[0,1,4],?_⟩;(simp[cX,zC,i,cN,gY,N5,Ae,eC]<;>rfl)
  | cons G l=>
   refine rG (Ju [(1,11),(4,13),(7,13),(10,13),(14,1),(16,1)]) (by kernel_rfl) ?_;(repeat first|refine tA rfl ?_|refine sP rfl (p) rfl ?_|refine sP rfl (n) rfl ?_|(refine Af rfl ?_;refine gA rfl ?_;first|refine gS (λ_ _=>AA rfl rfl (by rfl) (by rfl)) ?_));(refine pW rfl ?_ rfl (by rfl);refine Au rfl rfl rfl (by first|(simp;done)|(simp;(omega))) rfl (by intro r u;simp at u;subst u;rfl) (by rfl) (am rfl) (by simp at M |-;omega) ?_);(repeat first|(refine sX rfl ?_ ?_;first|exact tI|omega)|refine aU rfl ?_|apply Aa);refine⟨⟨⟨k+1,G::(l++[e])⟩,by dsimp only;omega,by dsimp only;rw[v];rfl⟩,by dsimp only;(omega),[0,1,4],?_⟩;(simp[cX,zC,i,cN,gY,N5,Ae,eC]<;>rfl)
 ·have N:k=y.es.length:=by omega
  have K:l=y.es:=by rw[c,N,io]
  have V:y=⟨y.al,y.st,l⟩:=by rw[K]
  (repeat first|refine sN rfl ?_|refine tA rfl ?_|refine s2 rfl λ_ T=>?_|refine aU rfl ?_|apply Aa)
  ((refine aC rfl ?_ ?_<;>rintro⟨⟩);all_goals try(exfalso;(simp only[oZ] at *;omega)))
  apply aE;rw[V]
  cases l with
  | nil=>
   refine Ak.AB [1] [(4,.o (.ptr 0 3 0 0)),(5,.o (.ip (AI ⟨y.al,y.st,[]⟩)))] ⟨⟨_,rfl,.inl rfl⟩,⟨_,rfl,.inr (.o (.box rfl (.cons .d (.cons .d (.cons .nl .nil)))))⟩,trivial⟩ ?_;(repeat first|refine tA rfl ?_|refine aU rfl ?_|apply Aa);(subst_vars;exact aR ⟨_,rfl,rfl⟩)
  | cons G l=>
   refine Ak.AB [1,2] [(4,.o (.ptr 0 3 0 0)),(5,.o (.ip (AI ⟨y.al,y.st,G::l⟩)))] ⟨⟨_,rfl,.inl rfl⟩,⟨_,rfl,.inr (.o (.box rfl (.cons .d (.cons .d (.cons (.full rfl (by simp[d5]) (by simp)) .nil)))))⟩,trivial⟩ ?_;(repeat first|refine tA rfl ?_|refine aU rfl ?_|apply Aa);(subst_vars;exact aR ⟨_,rfl,rfl⟩)
abbrev RE(s:Sys)(p:AV)(t:Sys):CO×Bool:=if AQ s p t<0 then (⟨⟨0,0,[]⟩,⟨0,[],[]⟩,0⟩,false) else (⟨s,p,AQ s p t⟩,true)
theorem JN(s:Sys)(p:AV)(t:Sys)(f:s.es.length<=1048576):Pure Tryz.prog TB 127 [Bl s,AX p,Bl t] (oO (RE s p t)):=by
 have c:=Lq (TB:=TB) s p t;unfold RE;by_cases h:AQ s p t<0
 ·rw[if_pos h]
  refine eG Tryz.func127 rfl (by kernel_rfl) rfl ?_;intro Z a;(repeat first|refine tA rfl ?_|refine s2 rfl λ_ i=>?_|refine sP rfl (c) rfl ?_|refine aU rfl ?_|apply Aa)
  ((refine aC rfl ?_ ?_<;>rintro⟨⟩);all_goals try(exfalso;(simp only[oZ] at *;omega)))
  (repeat first|refine tA rfl ?_|(refine Af rfl ?_;refine gA rfl ?_;first|refine gS (λ_ _=>AA rfl rfl (by rfl) (by rfl)) ?_)|refine aU rfl ?_|apply Aa);(subst_vars;exact aR ⟨_,rfl,rfl⟩)
 ·rw[if_neg h]
  have hI:=GZ h;have u:=AU hI.hs;have g:=Xs (TB:=TB) s.st (by omega) (by omega);have b:=Xu (TB:=TB) hI.hs f;have m:2 ^ s.st.toNat<=2 ^ 16:=qj (by omega) (by omega);have n:0<2 ^ s.st.toNat:=sq _
  have e:((2 ^ s.st.toNat:Nat):Int)-1=((2 ^ s.st.toNat-1:Nat):Int):=by omega
  rw[<-e]at b;generalize 2 ^ s.st.toNat=pw at *;generalize AQ s p t=ai at *;refine eG Tryz.func127 rfl (by kernel_rfl) rfl ?_;intro Z a;(repeat first|refine tA rfl ?_|refine s2 rfl λ_ i=>?_|refine sP rfl (c) rfl ?_|refine aU rfl ?_|apply Aa)
  ((refine aC rfl ?_ ?_<;>rintro⟨⟩);all_goals try(exfalso;(simp only[oZ] at *;omega)))
  apply aK;(repeat first|refine aU rfl ?_);refine rG ⟨Gm [(7,1),(10,1)],cH [0,1,2,3,4,6,8,5,7,9,10,11]⟩ (by kernel_rfl) ?_;(repeat first|(refine sX rfl ?_ ?_;first|exact tI|omega)|refine sP rfl (g) rfl ?_|refine sP rfl (b) rfl ?_);(refine pW rfl ?_ rfl (by rfl);refine BI [] rfl rfl 0 (JZ p (Ph hI.hp)) (by decide) ⟨rfl,by decide,by decide⟩ rfl (by simp[cX,zC,a,cN]) ?_;rintro r j k ⟨l,q,rfl,rfl,rfl⟩ _);(repeat first|refine tX rfl ?_|(refine Af rfl ?_;refine gA rfl ?_;first|refine gS (λ_ _=>AA rfl rfl (by rfl) (by rfl)) ?_)|apply Aa);refine Ak.Az [] [] rfl rfl [(6,.o (.ptr 0 7 0 0)),(7,eB true)] [(0,.cells 42 7 [[.d (iD s.al),.d (iD s.st),.d (Ez s.es),.d (iD p.al),.arr 1 1 0 l.length,.arr 2 1 0 p.ac.length,.d (iD ai)]]),(1,.cells 53 1 (Ay l)),(2,.cells 4 1 (p.ac.map AF)),(3,.sld 3 (sI l))] [0,1,2,3] (rl a rfl) (by (simp[cX,zC,a,cN,Bp,Ae,eC])) ?_;(try dsimp only[cA,cB]);refine Ak.AB [0,1,2,3] [(6,.o (.ip (Ja ⟨s,⟨p.al,l.map (·.2),p.ac⟩,ai⟩))),(7,eB true)] ⟨⟨_,rfl,.inr (.o (.box rfl (.cons .d (.cons .d (.cons .d (.cons .d (.cons (.MU (s:=3) rfl rfl) (.cons (.full rfl (by simp[d5]) (by simp)) (.cons .d .nil)))))))))⟩,⟨_,rfl,.inl rfl⟩,trivial⟩ ?_;rw[q];(subst_vars;exact aR ⟨_,rfl,rfl⟩)
theorem ay(l:List Ej)(h:l.length<=1048576):Spec Tryz.prog TB 198 [] 0 [.o (.d (Ez l))] (λx σ nx=>x=.o (.arr 0 3 0 l.length)/\nx=1/\σ=[(0,.cells 158 3 (l.map Bg))]):=by
 refine eN Tryz.func198 rfl (by kernel_rfl) rfl ?_;intro Z a;(repeat first|refine aU rfl ?_);(refine Af rfl ?_;refine CG (λ_ _=>CK rfl) rfl ?_);(repeat first|refine tM rfl ?_|refine aU rfl ?_|apply Aa);(refine pW rfl ?_ rfl (by rfl);refine Mj rfl ?_;intro e b);(repeat first|apply Aa);(refine aC rfl ?_ ?_<;>rintro⟨⟩)
 ·obtain rfl:l=[]:=by simpa using b rfl
  (repeat first|refine aU rfl ?_);(refine pW rfl ?_ rfl (by rfl);refine Gu 3 158 ?_);(repeat first|apply Aa);refine aR ⟨_,rfl,rfl,rfl,rfl⟩
 ·apply aK
  (repeat first|refine aU rfl ?_);(refine pW rfl ?_ rfl (by rfl);refine Bh rfl rfl rfl rfl (by simp) (by rfl) (by rfl) (by rfl) (by rfl) ?_);(repeat first|refine tM rfl ?_);(refine pW rfl ?_ rfl (by rfl);refine Au rfl rfl rfl (by first|(simp;done)|(simp;(omega))) rfl (by intro r c;simp only[qt,d8]at c;obtain⟨_,_,rfl⟩:=c;rfl) (by rfl) (am rfl) (by simp;omega) ?_);(repeat first|refine tM rfl ?_|apply Aa);refine Ak.names [1] [(2,.o (.arr 0 3 0 l.length))] [(0,.cells 158 3 (l.map Bg))] (by intro i hi;rw[a]at hi;omega) (by simp) (by simp[cX,zC,a]) (by simp[cX,zC,a]) ?_;refine aR ⟨_,rfl,rfl,rfl,rfl⟩
theorem FG(s:Sys)(p:AV)(t:Sys)(f:s.es.length<=1048576):Pure Tryz.prog TB 120 [Bl s,AX p,Bl t] (oO (RE s p t)):=by
 have b:=G0 (TB:=TB) s p t;unfold RE;by_cases i:AQ s p t<0
 ·rw[if_pos i]
  refine eG Tryz.func120 rfl (by kernel_rfl) rfl ?_;intro Z a;(repeat first|refine tA rfl ?_|refine s2 rfl λ_ j=>?_|refine sP rfl (b) rfl ?_|refine aU rfl ?_|apply Aa)
  ((refine aC rfl ?_ ?_<;>rintro⟨⟩);all_goals try(exfalso;(simp only[oZ] at *;omega)))
  (repeat first|refine tA rfl ?_|(refine Af rfl ?_;refine gA rfl ?_;first|refine gS (λ_ _=>AA rfl rfl (by rfl) (by rfl)) ?_)|refine aU rfl ?_|apply Aa);(subst_vars;exact aR ⟨_,rfl,rfl⟩)
 ·rw[if_neg i]
  have hI:=GZ i;have h:=ay (TB:=TB) s.es f;have g:=Nc (TB:=TB) p ((Ph hI.hp).upto (by omega));generalize AQ s p t=ai at *;refine eG Tryz.func120 rfl (by kernel_rfl) rfl ?_;intro Z a;(repeat first|refine aU rfl ?_);(refine pW rfl ?_ rfl (by rfl);refine C4 rfl rfl ?_);(repeat first|refine tA rfl ?_|refine s2 rfl λ_ j=>?_|refine sP rfl (b) rfl ?_|refine aU rfl ?_|apply Aa)
  ((refine aC rfl ?_ ?_<;>rintro⟨⟩);all_goals try(exfalso;(simp only[oZ] at *;omega)))
  apply aK;(repeat first|refine tA rfl ?_|refine aU rfl ?_);(refine pW rfl ?_ rfl (by rfl);refine Aj [] rfl rfl (h) ⟨rfl,by decide,by decide⟩ rfl (by simp[cX,zC,a,cN]) ?_;rintro k c e ⟨rfl,rfl,rfl⟩ _);(repeat first|refine tA rfl ?_|refine aU rfl ?_|apply Aa);refine rG ⟨Gm [(0,10),(2,1001),(5,1)],cH [0,1,3,2,4,5,6]⟩ (by kernel_rfl) ?_;(repeat first|refine tA rfl ?_);(refine Af rfl ?_;refine Dd ?_ rfl ⟨rfl,rfl⟩;refine BI [] rfl rfl 0 g (by decide) ⟨rfl,by decide,by decide⟩ rfl (by simp[cX,zC,a,cN]) ?_;rintro k c e ⟨l,m,rfl,rfl,rfl⟩ _;refine⟨ER 0 rfl rfl,?_⟩);(repeat first|refine tA rfl ?_|(refine Af rfl ?_;refine gA rfl ?_;first|refine gS (λ_ _=>AA rfl rfl (by rfl) (by rfl)) ?_)|apply Aa);refine Ak.Az [] [] rfl rfl [(6,.o (.ptr 0 7 0 0)),(7,eB true)] [(0,.cells 42 7 [[.d (iD s.al),.d (iD s.st),.arr 1 3 0 s.es.length,.d (iD p.al),.arr 2 1 0 l.length,.arr 3 1 0 p.ac.length,.d (iD ai)]]),(1,.cells 158 3 (s.es.map Bg)),(2,.cells 53 1 (Ay l)),(3,.cells 4 1 (p.ac.map AF)),(4,.sld 3 (sI l))] [1,2,3,4,5] (rl a rfl) (by (simp[cX,zC,a,cN,Bp,Ae,eC])) ?_;(try dsimp only[cA,cB]);refine Ak.AB [0,1,2,3,4] [(6,.o (.ip (Ja ⟨s,⟨p.al,l.map (·.2),p.ac⟩,ai⟩))),(7,eB true)] ⟨⟨_,rfl,.inr (.o (.box rfl (.cons .d (.cons .d (.cons (.full rfl (by simp[d5]) (by simp)) (.cons .d (.cons (.MU (s:=4) rfl rfl) (.cons (.full rfl (by simp[d5]) (by simp)) (.cons .d .nil)))))))))⟩,⟨_,rfl,.inl rfl⟩,trivial⟩ ?_;rw[m];(subst_vars;exact aR ⟨_,rfl,rfl⟩)
theorem CW(r:Option (List Int)):E.OB (KS r):=by
 show ∀x∈[(false,[C.d (tD (Ku r))]),(false,[C.d (bD r.isSome)])],∀c∈x.2,C.OB c=true
 simp[C.OB]
theorem dg(s:Sys)(p:AV)(al:Int):KK Tryz.prog TB 67 154 (Eo s p al) (DZ (Eo s p al)) (Fi (Eo s p al)):=jN (t:=Eo s p al) rfl
theorem fZ{te:Ex}:0<=DZ te->Bb (DZ te)=true:=λh=>by
 unfold DZ at *;split at h
 ·rename_i hk;rw[if_pos hk];exact Hn hk
 ·omega
theorem cd(s:Sys)(p:AV)(al:Int):Pure Tryz.prog TB 128 [EY (Eo s p al)] (I7 (Rw (Eo s p al))):=by
 rw[<-kC];exact TE (dg s p al)
theorem cf(s:Sys)(p:AV)(al:Int)(x:A3)(a:WJ x):Pure Tryz.prog TB 20 [EY (Eo s p al),DU x] (Pt (Tb (Eo s p al) x)):=by
 rw[<-jP];exact HF (dg s p al) x a
theorem X0(s:Sys)(p:AV)(al:Int)(x:A3)(a:WJ x)(w:W)(b:w.length<=4000):Pure Tryz.prog TB 132 [EY (Eo s p al),DU x,eT w] (I7 (MD (Eo s p al) x w)):=by
 rw[<-iW];exact Rs (dg s p al) (fZ (te:=Eo s p al)) x a w (by omega)
theorem I9(w:W)(al:Int)(m:EJ w=true)(ha:Bb al=true)(x:w.length<=50000):Pure Tryz.prog TB 208 [eT w,eI .i64 al] (eT (Jh al w)):=by
 have u:=MO (TB:=TB) w (by omega);have t:=Dw (TB:=TB) al
 have l:∀c∈w,Gx c=true:=by
  unfold EJ at m;rw[d4,gc]at m;exact m.2
 rw[m]at u;rw[ha]at t;refine eG Tryz.func208 rfl (by kernel_rfl) rfl ?_;intro Z d;(repeat first|refine tA rfl ?_|refine s2 rfl λ_ b=>?_|refine sP rfl (u) rfl ?_|refine sP rfl (t) rfl ?_|refine s3 rfl ?_ ?_<;>rintro rfl|refine aU rfl ?_|apply Aa)
 (repeat' first|refine tA rfl ?_|refine s2 rfl λ_ b=>?_|refine sP rfl (u) rfl ?_|refine sP rfl (t) rfl ?_|refine aU rfl ?_|apply Aa|(refine aC rfl ?_ ?_<;>rintro⟨⟩));all_goals try contradiction
 apply aK;(repeat first|refine aU rfl ?_);(refine pW rfl ?_ rfl (by rfl);refine Bh rfl rfl rfl rfl (by simp) (by rfl) (by rfl) (by rfl) (by rfl) ?_);(repeat first|refine tX rfl ?_|refine aU rfl ?_|apply Aa);apply aB;refine aL (α:={k:Nat // k<=w.length}) [0,1] [] rfl rfl (λ⟨k,hk⟩=>[(5,.o (.arr 0 1 0 (Jh al (w.take k)).length)),(6,eI .i64 k)]) (λ⟨k,hk⟩=>[(0,.cells 5 1 ((Jh al (w.take k)).map FP))]) 1 (λ⟨k,hk⟩=>w.length-k) (⟨0,by omega⟩) d rfl (by (simp[cX,zC,d,Jh])) ?_;rintro⟨k,hk⟩;(try dsimp only[cA,cB]);by_cases p:k<w.length
 ·obtain⟨c,s⟩:=get_some p
  have q:w[((k:Nat):Int).toNat]?=some c:=by simpa using s
  have i:=l c (co s);have h:=i;rw[FQ,decide_eq_true_eq]at h;have g:=IG (TB:=TB) w k c q;have a:=Da (TB:=TB) al ((c.toNat:Int)-97) (by omega) (by omega)
  have e:A6 al ((c.toNat:Int)-97).toNat=IF al c:=by
   unfold IF;rw[i,qc];congr 1;omega
  rw[e]at a;have f:=Sx (al:=al) s;have n:=VP al (w.take k);rw[qX]at n;(repeat first|refine tA rfl ?_|refine s2 rfl λ_ b=>?_|refine aU rfl ?_|apply Aa)
  ((refine aC rfl ?_ ?_<;>rintro⟨⟩);all_goals try(exfalso;(simp only[oZ] at *;omega)))
  apply aK;refine aS (aB ?_);cases j:IF al c
  ·rw[j]at a f
   (repeat first|refine tA rfl ?_|refine sP rfl (g) rfl ?_|refine sP rfl (a) rfl ?_|refine aU rfl ?_|apply Aa)
   ((refine aC rfl ?_ ?_<;>rintro⟨⟩);all_goals try (simp at b;done))
   apply aK;(repeat first|(refine sA rfl ?_ ?_;first|exact tI|omega)|refine aU rfl ?_|apply Aa);refine⟨⟨k+1,by omega⟩,by dsimp only;(omega),[0],?_⟩;simp[cX,zC,d,f,FP,Ge]
  ·rw[j]at a f
   (repeat first|refine tA rfl ?_|refine sP rfl (g) rfl ?_|refine sP rfl (a) rfl ?_|refine aU rfl ?_|apply Aa)
   ((refine aC rfl ?_ ?_<;>rintro⟨⟩);all_goals try (simp at b;done))
   (repeat first|refine tA rfl ?_|(refine s4 rfl ‹_› rfl ?_ ?_;omega)|refine aU rfl ?_);(refine pW rfl ?_ rfl (by rfl);refine Au rfl rfl rfl (by first|(simp;done)|(simp;(omega))) rfl (by intro r v;simp at v;subst v;rfl) (by rfl) (am rfl) (by simp;omega) ?_);(repeat first|(refine sX rfl ?_ ?_;first|exact tI|omega)|refine aU rfl ?_|apply Aa);refine⟨⟨k+1,by omega⟩,by dsimp only;(omega),[1],?_⟩;simp[cX,zC,d,f,Ge,FP,qe,NG]
 ·obtain rfl:k=w.length:=by omega
  rw[io] at *;(repeat first|refine tA rfl ?_|refine s2 rfl λ_ b=>?_|refine aU rfl ?_|apply Aa)
  ((refine aC rfl ?_ ?_<;>rintro⟨⟩);all_goals try(exfalso;(simp only[oZ] at *;omega)))
  apply aE;(repeat first|refine tM rfl ?_|(refine Af rfl ?_;refine gA rfl ?_;first|refine gQ (O2 (Jh al w) rfl rfl (by simp) (by first|rw[qm,ge (by simp)]|rw[qm,T8,ge (by simp)])) (by rfl) ?_)|refine aU rfl ?_|apply Aa);(subst_vars;exact aR ⟨_,rfl,rfl⟩)
abbrev lY(w:W)(c:Int):E:=.t [(false,[.d (tD w)]),(false,[.d (iD c)])]
section
variable [Dp TB]{s t:Sys}{p:AV}{al:Int}(hI:FN s p t al)
include hI
theorem Vk{a:AV}(h:GA s t p al a=none):Pure Tryz.prog TB 129 [Bl t,QY ⟨s,p,al⟩,AX a] (lY [] 0):=by
 obtain⟨f,e⟩:=Qf h;have c:=Ft (TB:=TB) s a p;have b:=Fq (TB:=TB) t a;rw[f]at c;rw[e]at b;refine eG Tryz.func129 rfl (by kernel_rfl) rfl ?_;intro Z d;(repeat first|refine tA rfl ?_|refine sP rfl (c) rfl ?_|refine sP rfl (b) rfl ?_|refine aU rfl ?_|apply Aa)
 (repeat' first|refine sP rfl (c) rfl ?_|refine sP rfl (b) rfl ?_|(refine aC rfl ?_ ?_<;>rintro⟨⟩));all_goals try contradiction
 apply aK;(repeat first|refine tA rfl ?_|refine s2 rfl λ_ g=>?_|refine sP rfl (b) rfl ?_|refine aU rfl ?_|apply Aa)
 (repeat' first|refine tA rfl ?_|refine sP rfl (b) rfl ?_|refine aU rfl ?_|apply Aa|(refine aC rfl ?_ ?_<;>rintro⟨⟩));all_goals try contradiction
 (subst_vars;exact aR ⟨_,rfl,rfl⟩)
theorem Vl{a:AV}{w:W}{b:Bool}(h:GA s t p al a=some (w,b))(m:AN (A2 al) w)(r:w.length<=4000):Pure Tryz.prog TB 129 [Bl t,QY ⟨s,p,al⟩,AX a] (lY w (if (b || LS ⟨s,p,al⟩ w)=true then -1 else 1)):=by
 have hal:=PC hI;have d:=Ft (TB:=TB) s a p;have i:=Fq (TB:=TB) t a
 rcases Qe hI h with ⟨u,rfl,l,k,j,n⟩|⟨u,rfl,o,l,k,j,n⟩
 ·rw[l]at d
  have e:=I9 (TB:=TB) (Dg u) al (QN j (by omega)) hal (by omega);rw[k]at e;rw[Bool.true_or,if_pos rfl];refine eG Tryz.func129 rfl (by kernel_rfl) rfl ?_;intro Z f;(repeat first|refine tA rfl ?_|refine sP rfl (d) rfl ?_|refine aU rfl ?_|apply Aa)
  (repeat' first|refine tA rfl ?_|refine sP rfl (d) rfl ?_|refine sP rfl (e) rfl ?_|refine aU rfl ?_|apply Aa|(refine aC rfl ?_ ?_<;>rintro⟨⟩));all_goals try contradiction
  (subst_vars;exact aR ⟨_,rfl,rfl⟩)
 ·rw [o]at d
  rw[l]at i;have e:=I9 (TB:=TB) (Dg u) al (QN j (by omega)) hal (by omega);rw[k]at e;have g:=Ok (TB:=TB) ⟨s,p,al⟩ w (by omega);rw[SA (FF hI) w m (by omega)]at g;rw[sf];generalize LS ⟨s,p,al⟩ w=q at *;refine eG Tryz.func129 rfl (by kernel_rfl) rfl ?_;intro Z f;(repeat first|refine tA rfl ?_|refine sP rfl (d) rfl ?_|refine aU rfl ?_|apply Aa)
  (repeat' first|refine sP rfl (d) rfl ?_|(refine aC rfl ?_ ?_<;>rintro⟨⟩));all_goals try contradiction
  apply aK;(repeat first|refine tA rfl ?_|refine s2 rfl λ_ c=>?_|refine sP rfl (i) rfl ?_|refine aU rfl ?_|apply Aa)
  (repeat' first|refine tA rfl ?_|refine sP rfl (i) rfl ?_|refine aU rfl ?_|apply Aa|(refine aC rfl ?_ ?_<;>rintro⟨⟩));all_goals try contradiction
  apply aK;(repeat first|refine tA rfl ?_|refine sP rfl (e) rfl ?_|refine aU rfl ?_|apply Aa);cases q
  ·(repeat first|refine s2 rfl λ_ c=>?_|refine sP rfl (g) rfl ?_|apply Aa)
   ((refine aC rfl ?_ ?_<;>rintro⟨⟩);all_goals try (simp at c;done))
   (repeat first|refine tA rfl ?_|refine aU rfl ?_|apply Aa);(subst_vars;exact aR ⟨_,rfl,rfl⟩)
  ·(repeat first|refine s2 rfl λ_ c=>?_|refine sP rfl (g) rfl ?_|apply Aa)
   ((refine aC rfl ?_ ?_<;>rintro⟨⟩);all_goals try (simp at c;done))
   apply aK;(repeat first|refine tA rfl ?_|refine aU rfl ?_|apply Aa);(subst_vars;exact aR ⟨_,rfl,rfl⟩)
end
end Go.Am
namespace Go.Am
open Go
section
variable {P:Program}{TB:BR}{Z:Ctx}{σ:Ab}
theorem Inv.freeze{V:View}(hi:Inv TB Z V σ)(ids:List Nat):Inv TB Z (Gl V (Hg σ ids)) (Ce ids σ):=by
 have g:∀id o,look (Hg σ ids) id=some o->look σ id=some o:=λid o h=>(EB h).2;have e:Ext V (Gl V (Hg σ ids)):=LC;refine⟨hi.os,hi.tape,hi.output,hi.old,?_,?_,hi.ext.trans e,⟨?_,?_,?_,?_⟩,?_,λx n=>⟨.inl (hi.tabs x n).1,(hi.tabs x n).2⟩,hi.hid.same rfl (λ_ h=>.inl h) (λb hb=>hb.elim .inl λ⟨id,o,a,c,m⟩=>.inr ⟨id,o,g _ _ a,c,m⟩) λb ⟨id,o,a,c,hb⟩=>have f:=(A7 ids σ id o a).2;⟨id,o,f,c,(AG e (hi.st.lt id o f)).1 hb⟩⟩
 ·rintro b (hb|⟨id,o,a,c,hb⟩)
  ·exact hi.iLt b hb
  ·exact(hi.st.obj id o (g _ _ a)).blt c hb
 ·rintro b (hb|⟨id,o,a,c,hb⟩)
  ·exact hi.iNew b hb
  ·exact .inr (hi.live id o (g _ _ a) c b hb)
 ·intro id o a
  have:=(A7 ids σ id o a).2;exact(hi.st.obj id o this).AO e (hi.st.lt id o this) λ_ _ _=>rfl
 ·intro id o a;exact hi.st.lt id o (A7 ids σ id o a).2
 ·intro id o a c b d hb
  obtain⟨q,f⟩:=A7 ids σ id o a;have d:=(AG e (hi.st.lt id o f)).1 d
  rcases hb with hb|⟨id',o',j,i,m⟩
  ·exact hi.st.free id o f c b d hb
  ·have p:=EB j
   exact hi.st.inj id id' o o' f p.2 (λe=>q (e▸p.1)) c i b d m
 ·intro id id' o o' a j l c i b hb d
  have f:=(A7 ids σ id o a).2;have k:=(A7 ids σ id' o' j).2;exact hi.st.inj id id' o o' f k l c i b ((AG e (hi.st.lt id o f)).1 hb) ((AG e (hi.st.lt id' o' k)).1 d)
 ·intro id o a c b hb
  have f:=(A7 ids σ id o a).2;exact hi.live id o f c b ((AG e (hi.st.lt id o f)).1 hb)
theorem eM{V:View}{e:E}{x:Bool×List C}{v:Value}(h:Nz e=some x)(ht:MX V x v):Br V e v:=by
 cases e with
 | o c=>injection h with h;subst h;obtain⟨c',b,d⟩:=ht;injection b with b;subst b;exact d
 | a cs=>injection h with h;subst h;exact ht
 | t=>cases h
 | e=>cases h
inductive FT (σ:Ab):List (Bool×List C)->List (Bool×List C)->Prop
 | nil:FT σ [] []
 | cons {e e':E} {x x':Bool×List C} {xs xs':List (Bool×List C)}:Nz e=some x->Nz e'=some x'->EZ σ e e'->FT σ xs xs'->FT σ (x::xs) (x'::xs')
theorem FT.get{xs xs':List (Bool×List C)}(h:FT σ xs xs'):xs'.length=xs.length/\∀(j:Nat) x',xs'[j]?=some x'->∃x e e',xs[j]?=some x/\Nz e=some x/\Nz e'=some x'/\EZ σ e e':=by
 induction h with
 | nil=>exact⟨rfl,λj x h=>by simp at h⟩
 | @cons e e' x x' xs xs' f d c _ b=>
  refine⟨by simp[b.1],λj y a=>?_⟩
  cases j with
  | zero=>simp at a;subst a;exact⟨x,e,e',rfl,f,d,c⟩
  | succ j=>exact b.2 j y (by simpa using a)
theorem FT.rel{V:View}{xs xs':List (Bool×List C)}(hi:Inv TB Z V σ)(h:FT σ xs xs'){v:Value}(c:Br V (.t xs) v):Br (Gl V σ) (.t xs') v:=by
 obtain⟨vs,k,i,g⟩:=c;obtain⟨d,f⟩:=h.get;refine⟨vs,k,by rw[i,d],λj x' v' a b=>?_⟩;obtain⟨x,e,e',o,n,m,l⟩:=f j x' a;exact Gc m (l.rel hi (eM n (g j x v' o b)))
theorem AK.toPure{g:FuncId}{args:List E}{post:E->Ab->Nat->Prop}{r:E}(h:AK P TB g 0 [] 0 args post)
 (e:∀x σ nx,post x σ nx->∃ids,EZ (Hg σ ids) x r\/∃xs xs',x=.t xs/\r=.t xs'/\FT (Hg σ ids) xs xs'):Pure P TB g args r:=
 ⟨h.1,λV vs S c ha=>(h.2 V vs S c ha).mono λ_ _ ⟨V',v,x,σ',k,j,b,d,i⟩=>by
  obtain⟨ids,a⟩:=e _ _ _ i
  have f:Lc V 0=V:=by have:=c.nx;unfold Lc;rw[<-this]
  rw[f]at b;have hi:=b.sub λid o h=>(EB (σ:=σ') (ids:=ids) h).2;refine⟨Gl V' (Hg σ' ids),v,r,Ce ids σ',k,j,b.freeze ids,?_,rfl⟩
  rcases a with a|⟨xs,xs',rfl,rfl,a⟩
  ·exact a.rel hi d
  ·exact a.rel hi d⟩
end
section
variable {P:Program}{TB:BR}
theorem SI.pure{g:FuncId}{args:List E}{o:Option AV}(h:AK P TB g 0 [] 0 args (SI o)):Pure P TB g args (Pt o):=by
 refine h.toPure λx σ nx c=>?_
 cases o with
 | none=>
  obtain⟨rfl,rfl,rfl⟩:=c;exact⟨[],.inl (.AO rfl)⟩
 | some a=>
  obtain⟨al,anx,aac⟩:=a;obtain⟨l,b,rfl,rfl,rfl⟩:=c;have b:l.map (·.2)=anx:=b;subst b;exact⟨[0,1,2],.inr ⟨_,_,rfl,rfl,.cons (e:=.a _) (e':=AX ⟨al,l.map (·.2),aac⟩) rfl rfl (.a (.cons .d (.cons (.MU (s:=2) rfl rfl) (.cons (.full rfl (by simp[d5]) (by simp)) .nil)))) (.cons (e:=.o _) rfl rfl (.AO rfl) .nil)⟩⟩
end
end Go.Am
namespace Go.Am
open Go Go.Proofs
set_option maxHeartbeats 1000000
set_option maxRecDepth 4000
attribute [local irreducible] A9 CY Lex BV Ak Spec
theorem Jj.df{P:Program}{TB:BR}{c:C}{L:W->Bool}{ok:W->Prop}(h:Jj P TB c L ok){w:W}{b:Bool}(hb:L w=b)(i:ok w){Z:Ctx}{d:Option Tmp}{ty:TypeId}{pos:String}{af:Array Edge}{g:Option (Nat×Bool)}{f:Env}{σ:Ab}{nx:Nat}{x a:Operand}{tys:Array TypeId}
 (e:ev f x=some (.o c)) (ha:ev f a=some (eT w)):A9 P TB Z ⟨d,.call ⟨.value x,#[a],tys⟩,ty,pos,af,g⟩ f σ nx (eB b):=hb▸h.ask e ha i
theorem jo{m:Nat}{L:W->Bool}{ok:W->Prop}{X:BR->Ctx->C->Prop}{Y:Prop}(h:∀(TB1:BR) (Z1:Ctx) (a:C),Z1.V.nx=m->Dp TB1->Jj Tryz.prog TB1 a L ok->X TB1 Z1 a)
 (hk:(∀(TB1:BR) (Z1:Ctx) (a:C),Z1.V.nx=m->Dp TB1->Jj Tryz.prog TB1 a L ok->X TB1 Z1 a)->Y):Y:=hk h
theorem Oh{tabs:List (Nat×Obj)}[g:Dp ⟨tabs,none⟩]{te:Ex}{ok:W->Prop}(c:te.kn=false)(b:CN te=true)(a:∀w,ok w->kK (A0 te) w)(f:QD te ok) :
 ∃(t:CO) (m:GN),NW t ok m/\AK Tryz.prog ⟨tabs,none⟩ 62 0 [] 0 [EY te] (λx σ nx=>x=.t [(true,[.d (iD (A0 te)),JL (.ptr 0 14 0 0)]),(false,[.d (bD true)])]/\σ=NJ t m/\nx=5)/\
  ∀r,Jj Tryz.prog ⟨tabs,some (MG t ok,r)⟩ (JL (Mw r)) (Cb te) ok/\Dp ⟨tabs,some (MG t ok,r)⟩:=by
 obtain⟨kn,p,s,q,al⟩:=te;obtain rfl:kn=false:=c;have ht:Bi ⟨s,q,al⟩=true:=b;obtain⟨m,e,hno⟩:=Rx (TB:=⟨tabs,none⟩) p ht ok;exact⟨⟨s,q,al⟩,m,e,hno,λr=>⟨nO ht a (f rfl),lh g⟩⟩
def Pb(v:Vd)(x:E)(σ:Ab)(nx:Nat):Prop:=
 (v.a=Ga/\x=Xi v/\σ=[]/\nx=0)\/
 (∃l:Fm,l.map (·.2)=v.a.nx/\x=.a [.d (iD v.code),.d (iD v.a.al),.arr 0 1 0 l.length,.arr 1 1 0 v.a.ac.length,.d (tD v.tr),.d (iD v.rd)]/\σ=[(0,.cells 53 1 (Ay l)),(1,.cells 4 1 (v.a.ac.map AF)),(2,.sld 3 (sI l))]/\nx=3)
section
variable {tabs:List (Nat×Obj)}[hTb:Dp ⟨tabs,none⟩]
include hTb
theorem Yy{s t:Sys}{p:AV}{al:Int}(hI:FN s p t al)(hes:s.es.length<=1048576):AK Tryz.prog ⟨tabs,none⟩ 52 0 [] 0 [Bl s,Bl t,AX p,.o (.d (.v .nilFunc))] (Pb (C6 s t p)):=by
 have h1:=FG (TB:=⟨tabs,none⟩) s p t hes;unfold RE at h1;rw[if_neg (U8 hI),<-hI.hal]at h1;obtain⟨ok,hs0,hf,hgr,hrun⟩:=YT hI (FF hI)
 let te:Ex:=Eo s p al
 have H:te.kn=false:=rfl;have hok:CN te=true:=Ui hI
 have hsub:∀w,ok w->kK (A0 te) w:=λw hw=>by rw[Eg];exact hs0 w hw
 have hf:QD te ok:=hf;obtain⟨hl1,hl2⟩:=Kk hI;have h0:=Ys (t:=t) hI;unfold Rw at h0;rw[if_pos (Ui hI),KJ,Eg]at h0;refine AK.Bd (AK.OU (m:=0) (am rfl) Tryz.func52 rfl (by kernel_rfl) (am rfl) ?_);intro Z f;(repeat first|refine tA rfl ?_|refine s2 rfl λ_ e=>?_|refine sP rfl (h1) rfl ?_|refine aU rfl ?_|apply Aa)
 ((refine aC rfl ?_ ?_<;>rintro⟨⟩);all_goals try (simp at e;done))
 apply aK;refine Ak.AB [1] [(3,.o (.d (.v .nilFunc))),(4,.o (.ip (AI s))),(5,.o (.ip (AI t))),(6,.o (.ip (AL p))),(8,.o (.ptr 0 6 0 0)),(9,.o (.ip (Ja ⟨s,p,al⟩)))] ⟨⟨_,rfl,.inl rfl⟩,⟨_,rfl,.inl rfl⟩,⟨_,rfl,.inl rfl⟩,⟨_,rfl,.inl rfl⟩,⟨_,rfl,.inl rfl⟩,⟨_,rfl,.inr (.o (.box rfl (EK.refl (Ja ⟨s,p,al⟩))))⟩,trivial⟩ ?_;refine Ak.Az [3,4,5,6,8,9] [0] rfl rfl [] [] [0] (rl f rfl) (by (simp[cX,zC,f,cN])) ?_;(try dsimp only[cA,cB]);(repeat first|refine tA rfl ?_|(refine Af rfl ?_;refine gA rfl ?_;first|refine gS (λ_ _=>AA rfl rfl (by rfl) (by rfl)) ?_)|refine aU rfl ?_)
 apply jo (m:=0) (L:=Cb te) (ok:=ok);case hk=>(intro hk;obtain⟨tk,mk,hm,hno,q⟩:=Oh (tabs:=tabs) H hok hsub hf;((refine pW rfl ?_ rfl (by rfl);refine BI [] rfl rfl 0 (hno) (by decide) ⟨rfl,by decide,by decide⟩ rfl (by simp[cX,zC,f,A1]) ?_;rintro x0 σ1 nx1 ⟨rfl,rfl,rfl⟩ _);(repeat first|refine tA rfl ?_);apply Aa;refine Ak.l8 (MG tk ok) ⟨mk,hm⟩ 1 [2,3,4,5] (λr=>[(3,.o (.d (.v .nilFunc))),(4,.o (.ip (AI s))),(5,.o (.ip (AI t))),(6,.o (.ip (AL p))),(9,.o (.ip (Ja ⟨s,p,al⟩))),(8,.o (.ptr 0 6 0 0)),(11,.o (.ptr 6 2 0 0))]) (λr=>[(0,.cells 35 6 [[.d (iD 0),.d (iD 0),.d (.l []),.d (.l []),.d (tD []),.d (iD 0)]]),(6,.cells 90 2 [[.d (iD (A0 te)),JL (Mw r)]])]) (by decide) rfl (by ((repeat' first|exact tI|rfl|refine And.intro ?_ ?_)<;>(simp[cX,zC,f,A1]<;>rfl))) ⟨_,_,_,_,rfl⟩ (λr=>by repeat' first|exact tI|refine And.intro ⟨_,rfl,.AO⟩ ?_) (λr=>by repeat' first|exact tI|refine And.intro ⟨by decide,.inl rfl⟩ ?_|refine And.intro ⟨by decide,.inr ⟨_,_,_,_,rfl,rfl,.cons .AO (.cons .mv .nil)⟩⟩ ?_) λr Z' Y=>?_;have f:Z'.V.nx=0:=(by rw[Y];exact f);refine Ak.Az [3,4,5,6,9] [] rfl rfl [(8,.o (.ptr 0 6 0 0)),(11,.o (.ptr 1 2 0 0))] [(0,.cells 35 6 [[.d (iD 0),.d (iD 0),.d (.l []),.d (.l []),.d (tD []),.d (iD 0)]]),(1,.cells 90 2 [[.d (iD (A0 te)),JL (Mw r)]])] [0,6] (rl f rfl) (by (simp[cX,zC,f])) ?_;(try dsimp only[cA,cB]);have U:=q r;obtain⟨TB0,hTB0⟩:∃T,T=(⟨tabs,some (MG tk ok,r)⟩:BR):=⟨_,rfl⟩;obtain⟨c0,hc0⟩:∃c,c=JL (Mw r):=⟨_,rfl⟩;rw[<-hTB0,<-hc0]at U |-;exact hk TB0 Z' c0 f U.2 U.1))
 case h =>
  intro TB1 Z1 c1 f hTb1 q
  have q:Jj Tryz.prog TB1 c1 (LS ⟨s,p,al⟩) ok:=by rw[<-KJ];exact q
  have eal:A0 te=al:=Eg s p al;rw[eal];clear_value te;have z:=Eu c1 q.BT;have hnt:=Mm q al hgr;rw[h0]at hnt
  have I:∀v:Vd,C6 s t p=v->v.a=Ga->Pb (C6 s t p) (Xi v) [] 0:=λv h1 h2=>by rw[h1];exact .inl ⟨h2,rfl,rfl,rfl⟩
  (repeat first|refine tA rfl ?_|(refine Af rfl ?_;refine gA rfl ?_;first|refine gS (λ_ _=>A8 rfl rfl (by simp[E.BT,C.BT,C.C1,q.BT]) (hnt) rfl) ?_)|refine aU rfl ?_|apply Aa);apply aB;refine aL (α:={k:Nat // k<=(Bu s t p al).length/\(k=(Bu s t p al).length->C6 s t p=⟨2,Ga,[],(k:Int)⟩)}) [3,4,5,6,8,9,11,13] [0,1] rfl rfl (λ⟨k,H,M⟩=>[(10,eB (decide (k<(Bu s t p al).length))),(14,eI .i64 ((k:Int)+1))]) (λ⟨k,H,M⟩=>[(2,.cells 47 2 [[.d (BX (Bo s t p al k).rows),.d (BX (Bo s t p al k).cols)]])]) 3 (λ⟨k,H,M⟩=>(Bu s t p al).length-k) (⟨0,by omega,by omega⟩) f rfl (by ((repeat' first|exact tI|rfl|refine And.intro ?_ ?_)<;>(simp[cX,zC,f,cN,z]<;>rfl))) ?_;rintro⟨k,H,M⟩;(try dsimp only[cA,cB]);refine aS (aB ?_);by_cases K:k<(Bu s t p al).length
  ·simp only [decide_eq_true K]
   obtain⟨hx,X⟩:=JI hI K;have hbd:=O8 hx;obtain⟨hao,S⟩:=hrun _ (co (Gi K));have R:=KB (TB:=TB1) q al (Bo s t p al k) hao (hbd.mono (by omega)) hx.o;obtain⟨_,_,_,hcl⟩:=Jp hI hx;have g:=Fp (TB:=TB1) s (Bz s p al (Bo s t p al k)) p;have A:=Fo (TB:=TB1) t (Bz s p al (Bo s t p al k));have R:AK Tryz.prog TB1 65 0 [] 0 [Iz al c1,DU (Bo s t p al k)] (Jk (Bz s p al (Bo s t p al k))):=R;(repeat first|refine tA rfl ?_|refine s2 rfl λ_ e=>?_|refine aU rfl ?_|apply Aa)
   ((refine aC rfl ?_ ?_<;>rintro⟨⟩);all_goals try (simp at e;done))
   apply aK;(repeat first|refine tA rfl ?_|refine aU rfl ?_);(refine pW rfl ?_ rfl (by rfl);refine BI [] rfl rfl 0 R (by decide) ⟨rfl,by decide,by decide⟩ (by simp[EU,E.Bd,C.Cp,C.Bd,z,eC,Iz,DU]<;>rfl) (by simp[cX,zC,f,cN]) ?_;rintro x0 σ1 nx1 ⟨l,G,rfl,rfl,rfl⟩ _);(repeat first|refine tA rfl ?_);apply Aa;refine Ak.Az [3,4,5,6,8,9,11,13,14] [0,1,2] rfl rfl [(15,.o (.ptr 6 3 0 0))] [(3,.cells 53 1 (Ay l)),(4,.cells 4 1 ((Bz s p al (Bo s t p al k)).ac.map AF)),(5,.sld 3 (sI l)),(6,.cells 29 3 [[.d (iD (Bz s p al (Bo s t p al k)).al),.arr 3 1 0 l.length,.arr 4 1 0 (Bz s p al (Bo s t p al k)).ac.length]])] [0,1,2,3,4,5,6] (rl f rfl) (by (simp[cX,zC,f,cN,Ae,eC,Bp,z])) ?_;(try dsimp only[cA,cB]);(repeat first|refine tA rfl ?_|(refine Af rfl ?_;refine gA rfl ?_;first|refine gS (λ_ _=>iI rfl rfl) ?_)|refine aU rfl ?_|apply Aa)
   ((refine aC rfl ?_ ?_<;>rintro⟨⟩);all_goals try (simp at e;done))
   apply aK
   rcases X with ⟨hr,J,hk⟩|⟨w,b,hr,hon,hwl,X⟩
   ·obtain⟨g1,g2⟩:=Qf hr
    rw[g1]at g;rw[g2]at A
    have hend:∀(x:E) (σ:Ab) (nx:Nat),(∃l:Fm,l.map (·.2)=(Bz s p al (Bo s t p al k)).nx/\x=.a [.d (iD 0),.d (iD (Bz s p al (Bo s t p al k)).al),.arr 0 1 0 l.length,.arr 1 1 0 (Bz s p al (Bo s t p al k)).ac.length,.d (tD []),.d (iD ((k:Int)+1))]/\σ=[(0,.cells 53 1 (Ay l)),(1,.cells 4 1 ((Bz s p al (Bo s t p al k)).ac.map AF)),(2,.sld 3 (sI l))]/\nx=3)->Pb (C6 s t p) x σ nx:=λx σ nx h=>by rw[J];exact .inr h
    generalize Pb (C6 s t p)=Q at *;generalize Bz s p al (Bo s t p al k)=a at *;(repeat first|refine tA rfl ?_|refine s2 rfl λ_ e=>?_|(refine Af rfl ?_;refine gA rfl ?_;first|refine gQ (A9.JA [(59,Bl s),(60,AX a),(61,AX p)] ⟨⟨_,rfl,.AO rfl⟩,⟨_,rfl,FV (k:=5) rfl rfl rfl G rfl rfl⟩,⟨_,rfl,.AO rfl⟩,trivial⟩ (λZ'=>A8 rfl rfl rfl g rfl) (CW _)) rfl ?_)|refine aU rfl ?_|apply Aa)
    ((refine aC rfl ?_ ?_<;>rintro⟨⟩);all_goals try (simp at e;done))
    (repeat first|refine tA rfl ?_|refine s2 rfl λ_ e=>?_|(refine Af rfl ?_;refine gA rfl ?_;first|refine gQ (A9.JA [(68,Bl t),(69,AX a)] ⟨⟨_,rfl,.AO rfl⟩,⟨_,rfl,FV (k:=5) rfl rfl rfl G rfl rfl⟩,trivial⟩ (λZ'=>A8 rfl rfl rfl A rfl) (CW _)) rfl ?_)|refine aU rfl ?_|apply Aa)
    ((refine aC rfl ?_ ?_<;>rintro⟨⟩);all_goals try (simp at e;done))
    (repeat first|refine tA rfl ?_|(refine Af rfl ?_;refine gA rfl ?_;first|refine gS (λ_ _=>AA rfl rfl (by rfl) (by rfl)) ?_)|refine aU rfl ?_|apply Aa);exact aR ⟨_,rfl,[3,4,5],.a [.d (iD 0),.d (iD a.al),.arr 0 1 0 l.length,.arr 1 1 0 a.ac.length,.d (tD []),.d (iD ((k:Int)+1))],[(0,.cells 53 1 (Ay l)),(1,.cells 4 1 (a.ac.map AF)),(2,.sld 3 (sI l))],⟨λi hi=>absurd hi (jp i),by decide⟩,rfl,by (simp[cX,zC,f,cN,Bp,Ae,eC]),hend _ _ _ ⟨l,G,rfl,rfl,rfl⟩⟩
   ·obtain⟨B,hoks⟩:=S w b hr
    have n:=KE (TB:=TB1) q al (Bo s t p al k) hbd (PC hI) hcl hx.o w hoks hon (by omega);have hpv:=DA (TB:=TB1) [s,t] p
    rcases Qe hI hr with ⟨u,rfl,g1,g2,g3,g4⟩|⟨u,rfl,g0,g1,g2,g3,g4⟩
    ·have j:=HE (TB:=TB1) (Dg u) al (by omega)
     rw[g2]at j;rw[g1]at g
     rcases X with ⟨hb,_⟩|⟨_,⟨y,F⟩|⟨y,P,hk,J⟩⟩
     ·cases hb
     ·rw[y]at n
      generalize Bz s p al (Bo s t p al k)=a at *;(repeat first|refine tA rfl ?_|refine s2 rfl λ_ e=>?_|(refine Af rfl ?_;refine gA rfl ?_;first|refine gQ (A9.JA [(59,Bl s),(60,AX a),(61,AX p)] ⟨⟨_,rfl,.AO rfl⟩,⟨_,rfl,FV (k:=5) rfl rfl rfl G rfl rfl⟩,⟨_,rfl,.AO rfl⟩,trivial⟩ (λZ'=>A8 rfl rfl rfl g rfl) (CW _)) rfl ?_)|refine aU rfl ?_|apply Aa)
      ((refine aC rfl ?_ ?_<;>rintro⟨⟩);all_goals try (simp at e;done))
      apply aK;(repeat first|refine tA rfl ?_|refine s2 rfl λ_ e=>?_|refine sP rfl (j) rfl ?_|refine s3 rfl ?_ ?_<;>rintro rfl|refine aU rfl ?_|apply Aa)
      (repeat' first|refine tA rfl ?_|apply Aa|(refine aC rfl ?_ ?_<;>rintro⟨⟩));all_goals try contradiction
      apply aK;(repeat first|(refine sA rfl ?_ ?_;first|exact tI|omega)|(refine Af rfl ?_;refine gA rfl ?_;first|refine gS (λ_ _=>A8 rfl rfl (by simp[E.BT,C.BT,C.C1,q.BT]) (n) rfl) ?_)|refine aU rfl ?_|apply Aa);refine⟨⟨k+1,by omega,by omega⟩,by dsimp only;(omega),[0,1,2],?_⟩;simp[cX,zC,f,cN,z,F]
     ·rw[y]at n
      generalize Bz s p al (Bo s t p al k)=a at *;(repeat first|refine tA rfl ?_|refine s2 rfl λ_ e=>?_|(refine Af rfl ?_;refine gA rfl ?_;first|refine gQ (A9.JA [(59,Bl s),(60,AX a),(61,AX p)] ⟨⟨_,rfl,.AO rfl⟩,⟨_,rfl,FV (k:=5) rfl rfl rfl G rfl rfl⟩,⟨_,rfl,.AO rfl⟩,trivial⟩ (λZ'=>A8 rfl rfl rfl g rfl) (CW _)) rfl ?_)|refine aU rfl ?_|apply Aa)
      ((refine aC rfl ?_ ?_<;>rintro⟨⟩);all_goals try (simp at e;done))
      apply aK;(repeat first|refine tA rfl ?_|refine s2 rfl λ_ e=>?_|refine sP rfl (j) rfl ?_|refine s3 rfl ?_ ?_<;>rintro rfl|refine aU rfl ?_|apply Aa)
      (repeat' first|refine tA rfl ?_|apply Aa|(refine aC rfl ?_ ?_<;>rintro⟨⟩));all_goals try contradiction
      apply aK;(repeat first|(refine sA rfl ?_ ?_;first|exact tI|omega)|(refine Af rfl ?_;refine gA rfl ?_;first|refine gS (λ_ _=>A8 rfl rfl (by simp[E.BT,C.BT,C.C1,q.BT]) (n) rfl) ?_)|refine aU rfl ?_|apply Aa);refine⟨⟨k+1,by omega,λ_=>J⟩,by dsimp only;(omega),[0,1,2],?_⟩;simp[cX,zC,f,cN,z,P,decide_eq_false (show ¬k+1<(Bu s t p al).length by omega)]
    ·have j:=HE (TB:=TB1) (Dg u) al (by omega)
     rw[g2]at j;rw[g0]at g;rw[g1]at A
     rcases X with ⟨_,N,J,hk⟩|⟨hb,X⟩
     ·have I:=I _ J rfl
      generalize Bz s p al (Bo s t p al k)=a at *;(repeat first|refine tA rfl ?_|refine s2 rfl λ_ e=>?_|(refine Af rfl ?_;refine gA rfl ?_;first|refine gQ (A9.JA [(59,Bl s),(60,AX a),(61,AX p)] ⟨⟨_,rfl,.AO rfl⟩,⟨_,rfl,FV (k:=5) rfl rfl rfl G rfl rfl⟩,⟨_,rfl,.AO rfl⟩,trivial⟩ (λZ'=>A8 rfl rfl rfl g rfl) (CW _)) rfl ?_)|refine aU rfl ?_|apply Aa)
      ((refine aC rfl ?_ ?_<;>rintro⟨⟩);all_goals try (simp at e;done))
      (repeat first|refine tA rfl ?_|refine s2 rfl λ_ e=>?_|(refine Af rfl ?_;refine gA rfl ?_;first|refine gQ (A9.JA [(68,Bl t),(69,AX a)] ⟨⟨_,rfl,.AO rfl⟩,⟨_,rfl,FV (k:=5) rfl rfl rfl G rfl rfl⟩,trivial⟩ (λZ'=>A8 rfl rfl rfl A rfl) (CW _)) rfl ?_)|refine aU rfl ?_|apply Aa)
      ((refine aC rfl ?_ ?_<;>rintro⟨⟩);all_goals try (simp at e;done))
      apply aK;(repeat first|refine tA rfl ?_|refine s2 rfl λ_ e=>?_|refine sP rfl (j) rfl ?_|refine s3 rfl ?_ ?_<;>rintro rfl|refine aU rfl ?_|apply Aa)
      (repeat' first|refine tA rfl ?_|refine s2 rfl λ_ e=>?_|(refine Af rfl ?_;refine gA rfl ?_;first|refine gS (λ_ _=>q.df N B rfl rfl) ?_)|refine aU rfl ?_|apply Aa|(refine aC rfl ?_ ?_<;>rintro⟨⟩));all_goals try contradiction
      (repeat first|refine tA rfl ?_|refine sP rfl (hpv) rfl ?_|(refine Af rfl ?_;refine gA rfl ?_;first|refine gS (λ_ _=>AA rfl rfl (by rfl) (by rfl)) ?_)|refine aU rfl ?_|apply Aa);exact aR ⟨_,rfl,[],Xi ⟨1,Ga,Ku (BO [s,t] p),(k:Int)+1⟩,[],⟨λi hi=>absurd hi (jp i),lm⟩,rfl,by (simp[cX,zC,f,cN,Bp,Ae,eC]),I⟩
     ·have N:LS ⟨s,p,al⟩ w=true:=by rcases hb with hb|hb;cases hb;exact hb
      rcases X with ⟨y,F⟩|⟨y,P,hk,J⟩
      ·rw[y]at n
       generalize Bz s p al (Bo s t p al k)=a at *;(repeat first|refine tA rfl ?_|refine s2 rfl λ_ e=>?_|(refine Af rfl ?_;refine gA rfl ?_;first|refine gQ (A9.JA [(59,Bl s),(60,AX a),(61,AX p)] ⟨⟨_,rfl,.AO rfl⟩,⟨_,rfl,FV (k:=5) rfl rfl rfl G rfl rfl⟩,⟨_,rfl,.AO rfl⟩,trivial⟩ (λZ'=>A8 rfl rfl rfl g rfl) (CW _)) rfl ?_)|refine aU rfl ?_|apply Aa)
       ((refine aC rfl ?_ ?_<;>rintro⟨⟩);all_goals try (simp at e;done))
       (repeat first|refine tA rfl ?_|refine s2 rfl λ_ e=>?_|(refine Af rfl ?_;refine gA rfl ?_;first|refine gQ (A9.JA [(68,Bl t),(69,AX a)] ⟨⟨_,rfl,.AO rfl⟩,⟨_,rfl,FV (k:=5) rfl rfl rfl G rfl rfl⟩,trivial⟩ (λZ'=>A8 rfl rfl rfl A rfl) (CW _)) rfl ?_)|refine aU rfl ?_|apply Aa)
       ((refine aC rfl ?_ ?_<;>rintro⟨⟩);all_goals try (simp at e;done))
       apply aK;(repeat first|refine tA rfl ?_|refine s2 rfl λ_ e=>?_|refine sP rfl (j) rfl ?_|refine s3 rfl ?_ ?_<;>rintro rfl|refine aU rfl ?_|apply Aa)
       (repeat' first|refine tA rfl ?_|refine s2 rfl λ_ e=>?_|(refine Af rfl ?_;refine gA rfl ?_;first|refine gS (λ_ _=>q.df N B rfl rfl) ?_)|refine aU rfl ?_|apply Aa|(refine aC rfl ?_ ?_<;>rintro⟨⟩));all_goals try contradiction
       apply aK;(repeat first|(refine sA rfl ?_ ?_;first|exact tI|omega)|(refine Af rfl ?_;refine gA rfl ?_;first|refine gS (λ_ _=>A8 rfl rfl (by simp[E.BT,C.BT,C.C1,q.BT]) (n) rfl) ?_)|refine aU rfl ?_|apply Aa);refine⟨⟨k+1,by omega,by omega⟩,by dsimp only;(omega),[0,1,2],?_⟩;simp[cX,zC,f,cN,z,F]
      ·rw[y]at n
       generalize Bz s p al (Bo s t p al k)=a at *;(repeat first|refine tA rfl ?_|refine s2 rfl λ_ e=>?_|(refine Af rfl ?_;refine gA rfl ?_;first|refine gQ (A9.JA [(59,Bl s),(60,AX a),(61,AX p)] ⟨⟨_,rfl,.AO rfl⟩,⟨_,rfl,FV (k:=5) rfl rfl rfl G rfl rfl⟩,⟨_,rfl,.AO rfl⟩,trivial⟩ (λZ'=>A8 rfl rfl rfl g rfl) (CW _)) rfl ?_)|refine aU rfl ?_|apply Aa)
       ((refine aC rfl ?_ ?_<;>rintro⟨⟩);all_goals try (simp at e;done))
       (repeat first|refine tA rfl ?_|refine s2 rfl λ_ e=>?_|(refine Af rfl ?_;refine gA rfl ?_;first|refine gQ (A9.JA [(68,Bl t),(69,AX a)] ⟨⟨_,rfl,.AO rfl⟩,⟨_,rfl,FV (k:=5) rfl rfl rfl G rfl rfl⟩,trivial⟩ (λZ'=>A8 rfl rfl rfl A rfl) (CW _)) rfl ?_)|refine aU rfl ?_|apply Aa)
       ((refine aC rfl ?_ ?_<;>rintro⟨⟩);all_goals try (simp at e;done))
       apply aK;(repeat first|refine tA rfl ?_|refine s2 rfl λ_ e=>?_|refine sP rfl (j) rfl ?_|refine s3 rfl ?_ ?_<;>rintro rfl|refine aU rfl ?_|apply Aa)
       (repeat' first|refine tA rfl ?_|refine s2 rfl λ_ e=>?_|(refine Af rfl ?_;refine gA rfl ?_;first|refine gS (λ_ _=>q.df N B rfl rfl) ?_)|refine aU rfl ?_|apply Aa|(refine aC rfl ?_ ?_<;>rintro⟨⟩));all_goals try contradiction
       apply aK;(repeat first|(refine sA rfl ?_ ?_;first|exact tI|omega)|(refine Af rfl ?_;refine gA rfl ?_;first|refine gS (λ_ _=>A8 rfl rfl (by simp[E.BT,C.BT,C.C1,q.BT]) (n) rfl) ?_)|refine aU rfl ?_|apply Aa);refine⟨⟨k+1,by omega,λ_=>J⟩,by dsimp only;(omega),[0,1,2],?_⟩;simp[cX,zC,f,cN,z,P,decide_eq_false (show ¬k+1<(Bu s t p al).length by omega)]
  ·obtain rfl:k=(Bu s t p al).length:=by omega
   have J:=M rfl;simp only[decide_eq_false K];(repeat first|refine tA rfl ?_|refine s2 rfl λ_ e=>?_|refine aU rfl ?_|apply Aa)
   ((refine aC rfl ?_ ?_<;>rintro⟨⟩);all_goals try (simp at e;done))
   (repeat first|(refine sA rfl ?_ ?_;first|exact tI|omega)|(refine Af rfl ?_;refine gA rfl ?_;first|refine gS (λ_ _=>AA rfl rfl (by rfl) (by rfl)) ?_)|refine aU rfl ?_|apply Aa);exact aR ⟨_,rfl,[],Xi ⟨2,Ga,[],((Bu s t p al).length:Int)+1-1⟩,[],⟨λi hi=>absurd hi (jp i),lm⟩,rfl,by (simp[cX,zC,f,cN,Bp,Ae,eC]),by rw[Int.add_sub_cancel];exact I _ J rfl⟩
theorem WD{s t:Sys}{p:AV}(h:AQ s p t<0)(b:s.es.length<=1048576):AK Tryz.prog ⟨tabs,none⟩ 52 0 [] 0 [Bl s,Bl t,AX p,.o (.d (.v .nilFunc))] (Pb (C6 s t p)):=by
 have c:=FG (TB:=⟨tabs,none⟩) s p t b;unfold RE at c;rw[if_pos h]at c;rw[Z0 h];refine AK.Bd (AK.OU (m:=0) (am rfl) Tryz.func52 rfl (by kernel_rfl) (am rfl) ?_);intro Z a;(repeat first|refine tA rfl ?_|refine s2 rfl λ_ e=>?_|refine sP rfl (c) rfl ?_|refine aU rfl ?_|apply Aa)
 ((refine aC rfl ?_ ?_<;>rintro⟨⟩);all_goals try (simp at e;done))
 (repeat first|refine tA rfl ?_|(refine Af rfl ?_;refine gA rfl ?_;first|refine gS (λ_ _=>AA rfl rfl (by rfl) (by rfl)) ?_)|refine aU rfl ?_|apply Aa);exact aR ⟨_,rfl,[],Xi ⟨3,Ga,[],0⟩,[],⟨λi hi=>absurd hi (jp i),lm⟩,rfl,by (simp[cX,zC,a,cN,Bp,Ae,eC]),.inl ⟨rfl,rfl,rfl,rfl⟩⟩
theorem KY(s t:Sys)(p:AV)(c:s.es.length<=1048576):AK Tryz.prog ⟨tabs,none⟩ 14 0 [] 0 [Bl s,Bl t,AX p] (Pb (C6 s t p)):=by
 have j:AK Tryz.prog ⟨tabs,none⟩ 52 0 [] 0 [Bl s,Bl t,AX p,.o (.d (.v .nilFunc))] (Pb (C6 s t p)):=by
  by_cases h:AQ s p t<0
  ·exact WD h c
  ·exact Yy (GZ h) c
 generalize C6 s t p=v at *;refine AK.Bd (AK.OU (m:=0) (am rfl) Tryz.func14 rfl (by kernel_rfl) (am rfl) ?_);intro Z b;(repeat first|refine tA rfl ?_|refine aU rfl ?_|apply Aa);(refine pW rfl ?_ rfl (by rfl);refine BI [] rfl rfl 0 j (by decide) ⟨rfl,by decide,by decide⟩ rfl trivial ?_;rintro k e f (⟨ha,rfl,rfl,rfl⟩|⟨l,g,rfl,rfl,rfl⟩) _)
 ·(repeat first|refine tA rfl ?_|apply Aa)
  exact aR ⟨_,rfl,[],Xi v,[],⟨λi hi=>absurd hi (jp i),lm⟩,rfl,by (simp[cX,zC,b,cN,Bp,Ae,eC]),.inl ⟨ha,rfl,rfl,rfl⟩⟩
 ·(repeat first|refine tA rfl ?_|apply Aa)
  exact aR ⟨_,rfl,[1,2,3],.a [.d (iD v.code),.d (iD v.a.al),.arr 0 1 0 l.length,.arr 1 1 0 v.a.ac.length,.d (tD v.tr),.d (iD v.rd)],[(0,.cells 53 1 (Ay l)),(1,.cells 4 1 (v.a.ac.map AF)),(2,.sld 3 (sI l))],⟨λi hi=>absurd hi (jp i),by decide⟩,rfl,by (simp[cX,zC,b,cN,Bp,Ae,eC]),.inr ⟨l,g,rfl,rfl,rfl⟩⟩
theorem LY(s t:Sys)(p:AV)(b:s.es.length<=1048576):Pure Tryz.prog ⟨tabs,none⟩ 14 [Bl s,Bl t,AX p] (Xi (C6 s t p)):=by
 refine(KY s t p b).toPure λx σ nx c=>?_;generalize C6 s t p=v at *
 rcases c with ⟨_,rfl,rfl,rfl⟩|⟨l,e,rfl,rfl,rfl⟩
 ·exact⟨[],.inl (.AO rfl)⟩
 ·refine⟨[0,1,2],.inl (.a (ds:=ML v) (.cons .d (.cons .d (.cons ?_ (.cons (.full rfl (by simp[d5]) (by simp)) (.cons .d (.cons .d .nil)))))))⟩
  rw[<-e];exact .MU (s:=2) rfl rfl
end
def Df(h:Bool)(an:AV)(fd:Option Fm)(m i j p q:Nat):List C:=match h,fd with
 | true,_=>[.d (iD an.al),.arr p 1 0 m,.arr q 1 0 an.ac.length]
 | false,none=>[.d (iD 0),.d (.l []),.d (.l [])]
 | false,some z=>[.d (iD an.al),.arr i 1 0 z.length,.arr j 1 0 an.ac.length]
theorem bS{h:Bool}{an:AV}{fd:Option Fm}{m i j p q:Nat}{r:Nat->Nat}:C.Cp r (Df h an fd m i j p q)=Df h an fd m (r i) (r j) (r p) (r q):=by
 cases h<;>cases fd<;>rfl
def C5(an:AV)(fd:Option Fm)(i j:Nat):List C:=match fd with
 | none=>[.d (iD 0),.d (.l []),.d (.l [])]
 | some z=>[.d (iD an.al),.arr i 1 0 z.length,.arr j 1 0 an.ac.length]
theorem Sy{an:AV}{fd:Option Fm}{i j:Nat}{r:Nat->Nat}:C.Cp r (C5 an fd i j)=C5 an fd (r i) (r j):=by
 cases fd<;>rfl
def Fk(an:AV):Option Fm->List Bool
 | none=>[]
 | some _=>an.ac
def CE:Option Fm->Fm
 | none=>[]
 | some z=>z
theorem dR{TB:BR}(k n:Int)(an:AV)(fd:Option Fm)(l:Fm)(a:AV)(h:Bool)(e:h=decide (k=n))(ha:h=true->an=a):Spec Tryz.prog TB 53 [(0,.cells 29 3 [C5 an fd 2 3]),(1,.cells 4 1 [[.d (bD fd.isSome)]]),(2,.cells 53 1 (Ay (CE fd))),(3,.cells 4 1 ((Fk an fd).map AF)),(4,.sld 3 (sI (CE fd))),(5,.cells 53 1 (Ay l)),(6,.cells 4 1 (a.ac.map AF)),(7,.sld 3 (sI l))] 8 [eI .i64 k,UN a.al 5 6 l.length a.ac.length,.o (.ip [iD n]),.o (.ptr 0 3 0 0),.o (.ptr 1 1 0 0)]
 (λx σ nx=>x=.t []/\σ=[(0,.cells 29 3 [Df h an fd l.length 2 3 5 6]),(1,.cells 4 1 [[.d (bD (fd.isSome || h))]]),(2,.cells 53 1 (Ay (CE fd))),(3,.cells 4 1 ((Fk an fd).map AF)),(4,.sld 3 (sI (CE fd))),(5,.cells 53 1 (Ay l)),(6,.cells 4 1 (a.ac.map AF)),(7,.sld 3 (sI l))]/\nx=8):=by
 subst e;by_cases h:k=n
 ·obtain rfl:=ha (decide_eq_true h)
  rw[decide_eq_true h];cases fd
  all_goals
   dsimp only[Df,C5,Fk,CE,Option.isSome,s6];refine eR Tryz.func53 rfl (by kernel_rfl) rfl ?_;intro Z b;(repeat first|refine aU rfl ?_);(refine pW rfl ?_ rfl (by rfl);refine C4 rfl rfl ?_);(repeat first|refine tA rfl ?_|refine s2 rfl λ_ c=>?_|refine aU rfl ?_|apply Aa)
   ((refine aC rfl ?_ ?_<;>rintro⟨⟩);all_goals try(exfalso;(simp only[oZ] at *;omega)))
   (repeat first|refine tA rfl ?_|refine aU rfl ?_|apply Aa);exact⟨_,rfl,[0,1,2,3,4,5,6,7],.t [],_,⟨by intro i hi;match i with|0=>rfl|1=>rfl|2=>rfl|3=>rfl|4=>rfl|5=>rfl|6=>rfl|7=>rfl,by decide⟩,rfl,by (simp[cX,zC,b,cN,Ae,eC]),rfl,rfl,rfl⟩
 ·rw [decide_eq_false h]
  cases fd
  all_goals
   dsimp only[Df,C5,Fk,CE,Option.isSome,Bool.or_false];refine eR Tryz.func53 rfl (by kernel_rfl) rfl ?_;intro Z b;(repeat first|refine aU rfl ?_);(refine pW rfl ?_ rfl (by rfl);refine C4 rfl rfl ?_);(repeat first|refine tA rfl ?_|refine s2 rfl λ_ c=>?_|refine aU rfl ?_|apply Aa)
   ((refine aC rfl ?_ ?_<;>rintro⟨⟩);all_goals try(exfalso;(simp only[oZ] at *;omega)))
   apply aK;exact⟨_,rfl,[0,1,2,3,4,5,6,7],.t [],_,⟨by intro i hi;match i with|0=>rfl|1=>rfl|2=>rfl|3=>rfl|4=>rfl|5=>rfl|6=>rfl|7=>rfl,by decide⟩,rfl,by (simp[cX,zC,b,cN,Ae,eC]),rfl,rfl,rfl⟩
def WR(x:E)(σ:Ab)(nx:Nat):Prop:=
 (∃v:Vd,x=Xi v/\σ=[(0,.cells 29 3 [[.d (iD 0),.d (.l []),.d (.l [])]]),(1,.cells 4 1 [[.d (bD false)]])]/\nx=2)\/
 (∃(v:Vd) (l:Fm),x=.a [.d (iD v.code),.d (iD v.a.al),.arr 2 1 0 l.length,.arr 3 1 0 v.a.ac.length,.d (tD v.tr),.d (iD v.rd)]/\σ=[(0,.cells 29 3 [[.d (iD 0),.d (.l []),.d (.l [])]]),(1,.cells 4 1 [[.d (bD false)]]),(2,.cells 53 1 (Ay l)),(3,.cells 4 1 (v.a.ac.map AF)),(4,.sld 3 (sI l))]/\nx=5)
def cV(an:AV)(z:Fm)(x:E)(σ:Ab)(nx:Nat):Prop:=
 (∃v:Vd,x=Xi v/\σ=[(0,.cells 29 3 [[.d (iD an.al),.arr 2 1 0 z.length,.arr 3 1 0 an.ac.length]]),(1,.cells 4 1 [[.d (bD true)]]),(2,.cells 53 1 (Ay z)),(3,.cells 4 1 (an.ac.map AF)),(4,.sld 3 (sI z))]/\nx=5)\/
 (∃v:Vd,x=.a [.d (iD v.code),.d (iD v.a.al),.arr 2 1 0 z.length,.arr 3 1 0 an.ac.length,.d (tD v.tr),.d (iD v.rd)]/\σ=[(0,.cells 29 3 [[.d (iD an.al),.arr 2 1 0 z.length,.arr 3 1 0 an.ac.length]]),(1,.cells 4 1 [[.d (bD true)]]),(2,.cells 53 1 (Ay z)),(3,.cells 4 1 (an.ac.map AF)),(4,.sld 3 (sI z))]/\nx=5)\/
 (∃(v:Vd) (l:Fm),x=.a [.d (iD v.code),.d (iD v.a.al),.arr 5 1 0 l.length,.arr 6 1 0 v.a.ac.length,.d (tD v.tr),.d (iD v.rd)]/\σ=[(0,.cells 29 3 [[.d (iD an.al),.arr 2 1 0 z.length,.arr 3 1 0 an.ac.length]]),(1,.cells 4 1 [[.d (bD true)]]),(2,.cells 53 1 (Ay z)),(3,.cells 4 1 (an.ac.map AF)),(4,.sld 3 (sI z)),(5,.cells 53 1 (Ay l)),(6,.cells 4 1 (v.a.ac.map AF)),(7,.sld 3 (sI l))]/\nx=8)
def Pc(o:Option AV)(x:E)(σ:Ab)(nx:Nat):Prop:=match o with
 | none=>WR x σ nx
 | some an=>∃z:Fm,z.map (·.2)=an.nx/\cV an z x σ nx
section
variable {tabs:List (Nat×Obj)}[hTb:Dp ⟨tabs,none⟩]
include hTb
theorem Yz{s t:Sys}{p:AV}(hi:¬AQ s p t<0)(hes:s.es.length<=1048576)(n:Int):AK Tryz.prog ⟨tabs,none⟩ 52 2 [(0,.cells 29 3 [[.d (iD 0),.d (.l []),.d (.l [])]]),(1,.cells 4 1 [[.d (bD false)]])] 2 [Bl s,Bl t,AX p,.o (.fn 53 [.ip [iD n],.ptr 0 3 0 0,.ptr 1 1 0 0])] (Pc (Cr s t p n)):=by
 have hI:=GZ hi;have h1:=FG (TB:=⟨tabs,none⟩) s p t hes;unfold RE at h1;rw[if_neg hi]at h1
 have v:1<=n->n<=((Bu s t p (AQ s p t)).length:Int)->∀z:Fm,z.map (·.2)=((Cr s t p n).getD Ga).nx->∀x σ nx,cV ((Cr s t p n).getD Ga) z x σ nx->Pc (Cr s t p n) x σ nx:=λg1 g2 z J x σ nx hx=>by
  have e:Cr s t p n=some ((Cr s t p n).getD Ga):=by unfold Cr;rw[if_pos ⟨hi,g1,g2⟩];rfl
  rw[e];exact⟨z,J,hx⟩
 have I:¬(1<=n/\n<=((Bu s t p (AQ s p t)).length:Int))->∀x σ nx,WR x σ nx->Pc (Cr s t p n) x σ nx:=λg x σ nx hx=>by
  have e:Cr s t p n=none:=by unfold Cr;rw[if_neg λh=>g h.2]
  rw[e];exact hx
 have han:∀k:Nat,(k:Int)+1=n->k<(Bu s t p (AQ s p t)).length->(Cr s t p n).getD Ga=Bz s p (AQ s p t) (Bo s t p (AQ s p t) k):=λk hk N=>by
  unfold Cr;rw[if_pos ⟨hi,by omega,by omega⟩,show n.toNat-1=k by omega];rfl
 obtain⟨al,hal⟩:∃al,al=AQ s p t:=⟨_,rfl⟩
 obtain⟨an,hane⟩:∃an,an=(Cr s t p n).getD Ga:=⟨_,rfl⟩
 obtain⟨Q,hQ⟩:∃Q,Q=Pc (Cr s t p n):=⟨_,rfl⟩
 rw[<-hal]at hI h1 v I han;rw[<-hane,<-hQ]at v;rw[<-hQ]at I |-;rw[<-hane]at han;clear hQ hane hal hi;obtain⟨ok,hs0,hf,hgr,hrun⟩:=YT hI (FF hI)
 let te:Ex:=Eo s p al
 have G:te.kn=false:=rfl;have hok:CN te=true:=Ui hI
 have hsub:∀w,ok w->kK (A0 te) w:=λw hw=>by rw[Eg];exact hs0 w hw
 have hf:QD te ok:=hf;obtain⟨hl1,hl2⟩:=Kk hI;have h0:=Ys (t:=t) hI;unfold Rw at h0;rw[if_pos (Ui hI),KJ,Eg]at h0;refine AK.Bd (AK.OU (m:=2) (am rfl) Tryz.func52 rfl (by kernel_rfl) (am rfl) ?_);intro Z f;(repeat first|refine tA rfl ?_|refine s2 rfl λ_ j=>?_|refine sP rfl (h1) rfl ?_|refine aU rfl ?_|apply Aa)
 ((refine aC rfl ?_ ?_<;>rintro⟨⟩);all_goals try (simp at j;done))
 apply aK;refine Ak.AB [3] [(3,.o (.fn 53 [.ip [iD n],.ptr 0 3 0 0,.ptr 1 1 0 0])),(4,.o (.ip (AI s))),(5,.o (.ip (AI t))),(6,.o (.ip (AL p))),(8,.o (.ptr 2 6 0 0)),(9,.o (.ip (Ja ⟨s,p,al⟩)))] ⟨⟨_,rfl,.inl rfl⟩,⟨_,rfl,.inl rfl⟩,⟨_,rfl,.inl rfl⟩,⟨_,rfl,.inl rfl⟩,⟨_,rfl,.inl rfl⟩,⟨_,rfl,.inr (.o (.box rfl (EK.refl (Ja ⟨s,p,al⟩))))⟩,trivial⟩ ?_;refine Ak.Az [3,4,5,6,8,9] [0,1,2] rfl rfl [] [] [0,1,2] (rl f rfl) (by (simp[cX,zC,f,cN])) ?_;(try dsimp only[cA,cB]);(repeat first|refine tA rfl ?_|(refine Af rfl ?_;refine gA rfl ?_;first|refine gS (λ_ _=>AA rfl rfl (by rfl) (by rfl)) ?_)|refine aU rfl ?_)
 apply jo (m:=2) (L:=Cb te) (ok:=ok);case hk=>(intro hk;obtain⟨tk,mk,hm,hno,S⟩:=Oh (tabs:=tabs) G hok hsub hf;((refine pW rfl ?_ rfl (by rfl);refine BI [] rfl rfl 0 (hno) (by decide) ⟨rfl,by decide,by decide⟩ rfl (by simp[cX,zC,f,A1]) ?_;rintro x0 σ1 nx1 ⟨rfl,rfl,rfl⟩ _);(repeat first|refine tA rfl ?_);apply Aa;refine Ak.l8 (MG tk ok) ⟨mk,hm⟩ 3 [4,5,6,7] (λr=>[(3,.o (.fn 53 [.ip [iD n],.ptr 0 3 0 0,.ptr 1 1 0 0])),(4,.o (.ip (AI s))),(5,.o (.ip (AI t))),(6,.o (.ip (AL p))),(9,.o (.ip (Ja ⟨s,p,al⟩))),(8,.o (.ptr 2 6 0 0)),(11,.o (.ptr 8 2 0 0))]) (λr=>[(0,.cells 29 3 [[.d (iD 0),.d (.l []),.d (.l [])]]),(1,.cells 4 1 [[.d (bD false)]]),(2,.cells 35 6 [[.d (iD 0),.d (iD 0),.d (.l []),.d (.l []),.d (tD []),.d (iD 0)]]),(8,.cells 90 2 [[.d (iD (A0 te)),JL (Mw r)]])]) (by decide) rfl (by ((repeat' first|exact tI|rfl|refine And.intro ?_ ?_)<;>(simp[cX,zC,f,A1]<;>rfl))) ⟨_,_,_,_,rfl⟩ (λr=>by repeat' first|exact tI|refine And.intro ⟨_,rfl,.AO⟩ ?_) (λr=>by repeat' first|exact tI|refine And.intro ⟨by decide,.inl rfl⟩ ?_|refine And.intro ⟨by decide,.inr ⟨_,_,_,_,rfl,rfl,.cons .AO (.cons .mv .nil)⟩⟩ ?_) λr Z' hZ'=>?_;have f:Z'.V.nx=2:=(by rw[hZ'];exact f);refine Ak.Az [3,4,5,6,9] [] rfl rfl [(8,.o (.ptr 2 6 0 0)),(11,.o (.ptr 3 2 0 0))] [(0,.cells 29 3 [[.d (iD 0),.d (.l []),.d (.l [])]]),(1,.cells 4 1 [[.d (bD false)]]),(2,.cells 35 6 [[.d (iD 0),.d (iD 0),.d (.l []),.d (.l []),.d (tD []),.d (iD 0)]]),(3,.cells 90 2 [[.d (iD (A0 te)),JL (Mw r)]])] [0,1,2,8] (rl f rfl) (by (simp[cX,zC,f])) ?_;(try dsimp only[cA,cB]);have hVr:=S r;obtain⟨TB0,hTB0⟩:∃T,T=(⟨tabs,some (MG tk ok,r)⟩:BR):=⟨_,rfl⟩;obtain⟨c0,hc0⟩:∃c,c=JL (Mw r):=⟨_,rfl⟩;rw[<-hTB0,<-hc0]at hVr |-;exact hk TB0 Z' c0 f hVr.2 hVr.1))
 case h =>
  intro TB1 Z1 c1 f hTb1 S
  have S:Jj Tryz.prog TB1 c1 (LS ⟨s,p,al⟩) ok:=by rw[<-KJ];exact S
  have eal:A0 te=al:=Eg s p al;rw[eal];clear_value te;have q:=Eu c1 S.BT;have hnt:=Mm S al hgr;rw[h0]at hnt;(repeat first|refine tA rfl ?_|(refine Af rfl ?_;refine gA rfl ?_;first|refine gS (λ_ _=>A8 rfl rfl (by simp[E.BT,C.BT,C.C1,S.BT]) (hnt) rfl) ?_)|refine aU rfl ?_|apply Aa)
  obtain⟨ln,hln⟩:∃ln,ln=(Bu s t p al).length:=⟨_,rfl⟩
  obtain⟨tv,htv⟩:∃tv,tv=Bo s t p al:=⟨_,rfl⟩
  refine Ak.ghost 1 53 ?_;refine Ak.ghost 1 4 ?_;refine Ak.ca 3 ?_;apply aB;refine aL (α:={s1:Nat×Option Fm // s1.1<=(Bu s t p al).length/\(s1.1=(Bu s t p al).length->C6 s t p=⟨2,Ga,[],(s1.1:Int)⟩)/\((s1.2=none/\¬(1<=n/\n<=(s1.1:Int)))\/(∃z:Fm,s1.2=some z/\z.map (·.2)=an.nx/\1<=n/\n<=(s1.1:Int)))}) [3,4,5,6,8,9,11,13] [2,3] rfl rfl (λs=>[(10,eB (decide (s.1.1<ln))),(14,eI .i64 ((s.1.1:Int)+1))]) (λs=>[(0,.cells 29 3 [C5 an s.1.2 5 6]),(1,.cells 4 1 [[.d (bD s.1.2.isSome)]]),(4,.cells 47 2 [[.d (BX (tv s.1.1).rows),.d (BX (tv s.1.1).cols)]]),(5,.cells 53 1 (Ay (CE s.1.2))),(6,.cells 4 1 ((Fk an s.1.2).map AF)),(7,.sld 3 (sI (CE s.1.2)))]) 8 (λs=>ln-s.1.1) (⟨⟨0,none⟩,by dsimp only;omega,by dsimp only;omega,.inl ⟨rfl,by dsimp only;omega⟩⟩) f rfl (by (simp[cX,zC,f,cN,q,C5,CE,Fk,Ay,sI,htv,hln,decide_eq_true (show 0<(Bu s t p al).length by omega)])) ?_;rintro⟨⟨k,fd⟩,G,hk2,H⟩;(try dsimp only[cA,cB]);subst htv hln;have G:k<=(Bu s t p al).length:=G;have hk2:k=(Bu s t p al).length->C6 s t p=⟨2,Ga,[],(k:Int)⟩:=hk2;have H:(fd=none/\¬(1<=n/\n<=(k:Int)))\/(∃z:Fm,fd=some z/\z.map (·.2)=an.nx/\1<=n/\n<=(k:Int)):=H;refine aS (aB ?_);by_cases Y:k<(Bu s t p al).length
  ·simp only [decide_eq_true Y]
   obtain⟨hx,hc⟩:=JI hI Y;have hbd:=O8 hx;obtain⟨hao,hasks⟩:=hrun _ (co (Gi Y));have hau:=KB (TB:=TB1) S al (Bo s t p al k) hao (hbd.mono (by omega)) hx.o;obtain⟨_,_,_,hcl0⟩:=Jp hI hx;have K:=Fp (TB:=TB1) s (Bz s p al (Bo s t p al k)) p;have hfv:=Fo (TB:=TB1) t (Bz s p al (Bo s t p al k));have hau:AK Tryz.prog TB1 65 0 [] 0 [Iz al c1,DU (Bo s t p al k)] (Jk (Bz s p al (Bo s t p al k))):=hau
   obtain⟨h,P⟩:∃h,h=decide ((k:Int)+1=n):=⟨_,rfl⟩
   have ha:h=true->an=Bz s p al (Bo s t p al k):=λe=>han k (of_decide_eq_true (P.symm.trans e)) Y;have hclo:=λl=>dR (TB:=TB1) ((k:Int)+1) n an fd l (Bz s p al (Bo s t p al k)) h P ha;(repeat first|refine tA rfl ?_|refine s2 rfl λ_ j=>?_|refine aU rfl ?_|apply Aa)
   ((refine aC rfl ?_ ?_<;>rintro⟨⟩);all_goals try (simp at j;done))
   apply aK;(repeat first|refine tA rfl ?_|refine aU rfl ?_);(refine pW rfl ?_ rfl (by rfl);refine BI [] rfl rfl 0 hau (by decide) ⟨rfl,by decide,by decide⟩ (by simp[EU,E.Bd,C.Cp,C.Bd,q,eC,Iz,DU]<;>rfl) (by simp[cX,zC,f,cN]) ?_;rintro x0 σ1 nx1 ⟨l,N,rfl,rfl,rfl⟩ _);(repeat first|refine tA rfl ?_);apply Aa;refine Ak.Az [3,4,5,6,8,9,11,13,14] [0,1,2,3,4,5,6,7] rfl rfl [(15,.o (.ptr 11 3 0 0))] [(8,.cells 53 1 (Ay l)),(9,.cells 4 1 ((Bz s p al (Bo s t p al k)).ac.map AF)),(10,.sld 3 (sI l)),(11,.cells 29 3 [[.d (iD (Bz s p al (Bo s t p al k)).al),.arr 8 1 0 l.length,.arr 9 1 0 (Bz s p al (Bo s t p al k)).ac.length]])] [0,1,2,3,4,5,6,7,8,9,10,11] (rl f rfl) (by (simp[cX,zC,f,cN,Ae,eC,Bp,q,Sy])) ?_;(try dsimp only[cA,cB]);(repeat first|refine tA rfl ?_|(refine Af rfl ?_;refine gA rfl ?_;first|refine gS (λ_ _=>kV rfl rfl) ?_)|refine aU rfl ?_|apply Aa)
   ((refine aC rfl ?_ ?_<;>rintro⟨⟩);all_goals try (simp at j;done))
   (repeat first|refine tA rfl ?_|refine aU rfl ?_);(refine pW rfl ?_ rfl (by rfl);refine Aj [0,1,5,6,7,8,9,10] rfl rfl (hclo l) ⟨rfl,by decide,by decide⟩ rfl (by simp[cX,zC,f,cN,Sy]) ?_;rintro x0 σ1 nx1 ⟨rfl,rfl,rfl⟩ _);apply Aa;refine Ak.Az [3,4,5,6,8,9,11,13,14,15] [2,3,4,11] rfl rfl [] [(0,.cells 29 3 [Df h an fd l.length 5 6 8 9]),(1,.cells 4 1 [[.d (bD (fd.isSome || h))]]),(5,.cells 53 1 (Ay (CE fd))),(6,.cells 4 1 ((Fk an fd).map AF)),(7,.sld 3 (sI (CE fd))),(8,.cells 53 1 (Ay l)),(9,.cells 4 1 ((Bz s p al (Bo s t p al k)).ac.map AF)),(10,.sld 3 (sI l))] [0,1,2,3,4,5,6,7,8,9,10,11] (rl f rfl) (by (simp[cX,zC,f,cN,Ae,eC,Bp,q,bS])) ?_;(try dsimp only[cA,cB])
   rcases hc with ⟨hr,hv,hk⟩|⟨w,b,hr,hon,hwl,hc⟩
   ·obtain⟨g1,g2⟩:=Qf hr
    rw[g1]at K;rw[g2]at hfv;have y:=v;have hno:=I;rw[<-hk]at y hno;generalize Bz s p al (Bo s t p al k)=a at *;(repeat first|refine tA rfl ?_|refine s2 rfl λ_ j=>?_|(refine Af rfl ?_;refine gA rfl ?_;first|refine gQ (A9.JA [(59,Bl s),(60,AX a),(61,AX p)] ⟨⟨_,rfl,.AO rfl⟩,⟨_,rfl,FV (k:=10) rfl rfl rfl N rfl rfl⟩,⟨_,rfl,.AO rfl⟩,trivial⟩ (λZ'=>A8 rfl rfl rfl K rfl) (CW _)) rfl ?_)|refine aU rfl ?_|apply Aa)
    ((refine aC rfl ?_ ?_<;>rintro⟨⟩);all_goals try (simp at j;done))
    (repeat first|refine tA rfl ?_|refine s2 rfl λ_ j=>?_|(refine Af rfl ?_;refine gA rfl ?_;first|refine gQ (A9.JA [(68,Bl t),(69,AX a)] ⟨⟨_,rfl,.AO rfl⟩,⟨_,rfl,FV (k:=10) rfl rfl rfl N rfl rfl⟩,trivial⟩ (λZ'=>A8 rfl rfl rfl hfv rfl) (CW _)) rfl ?_)|refine aU rfl ?_|apply Aa)
    ((refine aC rfl ?_ ?_<;>rintro⟨⟩);all_goals try (simp at j;done))
    (repeat first|refine tA rfl ?_|(refine Af rfl ?_;refine gA rfl ?_;first|refine gS (λ_ _=>AA rfl rfl (by rfl) (by rfl)) ?_)|refine aU rfl ?_|apply Aa);cases h
    ·have X:¬(k:Int)+1=n:=of_decide_eq_false P.symm
     rcases H with ⟨rfl,G⟩|⟨z,rfl,J,F,B⟩
     ·exact aR ⟨_,rfl,[0,1,8,9,10],.a [.d (iD 0),.d (iD a.al),.arr 2 1 0 l.length,.arr 3 1 0 a.ac.length,.d (tD []),.d (iD ((k:Int)+1))],[(0,.cells 29 3 [[.d (iD 0),.d (.l []),.d (.l [])]]),(1,.cells 4 1 [[.d (bD false)]]),(2,.cells 53 1 (Ay l)),(3,.cells 4 1 (a.ac.map AF)),(4,.sld 3 (sI l))],⟨by intro i hi;match i with|0=>rfl|1=>rfl,by decide⟩,rfl,by (simp[cX,zC,f,cN,Ae,eC,Bp,Df,C5,CE,Fk]),hno (by omega) _ _ _ (.inr ⟨⟨0,a,[],(k:Int)+1⟩,l,rfl,rfl,rfl⟩)⟩
     ·exact aR ⟨_,rfl,[0,1,5,6,7,8,9,10],.a [.d (iD 0),.d (iD a.al),.arr 5 1 0 l.length,.arr 6 1 0 a.ac.length,.d (tD []),.d (iD ((k:Int)+1))],[(0,.cells 29 3 [[.d (iD an.al),.arr 2 1 0 z.length,.arr 3 1 0 an.ac.length]]),(1,.cells 4 1 [[.d (bD true)]]),(2,.cells 53 1 (Ay z)),(3,.cells 4 1 (an.ac.map AF)),(4,.sld 3 (sI z)),(5,.cells 53 1 (Ay l)),(6,.cells 4 1 (a.ac.map AF)),(7,.sld 3 (sI l))],⟨by intro i hi;match i with|0=>rfl|1=>rfl,by decide⟩,rfl,by (simp[cX,zC,f,cN,Ae,eC,Bp,Df,C5,CE,Fk]),y (by omega) (by omega) z J _ _ _ (.inr (.inr ⟨⟨0,a,[],(k:Int)+1⟩,l,rfl,rfl,rfl⟩))⟩
    ·have X:(k:Int)+1=n:=of_decide_eq_true P.symm
     obtain rfl:=ha rfl;exact aR ⟨_,rfl,[0,1,8,9,10],.a [.d (iD 0),.d (iD an.al),.arr 2 1 0 l.length,.arr 3 1 0 an.ac.length,.d (tD []),.d (iD ((k:Int)+1))],[(0,.cells 29 3 [[.d (iD an.al),.arr 2 1 0 l.length,.arr 3 1 0 an.ac.length]]),(1,.cells 4 1 [[.d (bD true)]]),(2,.cells 53 1 (Ay l)),(3,.cells 4 1 (an.ac.map AF)),(4,.sld 3 (sI l))],⟨by intro i hi;match i with|0=>rfl|1=>rfl,by decide⟩,rfl,by (simp[cX,zC,f,cN,Ae,eC,Bp,Df,C5,CE,Fk]),y (by omega) (by omega) l N _ _ _ (.inr (.inl ⟨⟨0,an,[],(k:Int)+1⟩,rfl,rfl,rfl⟩))⟩
   ·obtain⟨hokw,hoks⟩:=hasks w b hr
    have hls:=KE (TB:=TB1) S al (Bo s t p al k) hbd (PC hI) hcl0 hx.o w hoks hon (by omega);have hpv:=DA (TB:=TB1) [s,t] p
    rcases Qe hI hr with ⟨u,rfl,g1,g2,g3,g4⟩|⟨u,rfl,g0,g1,g2,g3,g4⟩
    ·have R := HE (TB:=TB1) (Dg u) al (by omega)
     rw[g2]at R;rw[g1]at K
     rcases hc with ⟨hb,_⟩|⟨_,hc⟩
     ·cases hb
     ·rcases hc with ⟨U,A⟩|⟨U,M,hk,hv⟩
      all_goals
       rw[U]at hls;generalize Bz s p al (Bo s t p al k)=a at *;(repeat first|refine tA rfl ?_|refine s2 rfl λ_ j=>?_|(refine Af rfl ?_;refine gA rfl ?_;first|refine gQ (A9.JA [(59,Bl s),(60,AX a),(61,AX p)] ⟨⟨_,rfl,.AO rfl⟩,⟨_,rfl,FV (k:=10) rfl rfl rfl N rfl rfl⟩,⟨_,rfl,.AO rfl⟩,trivial⟩ (λZ'=>A8 rfl rfl rfl K rfl) (CW _)) rfl ?_)|refine aU rfl ?_|apply Aa)
       ((refine aC rfl ?_ ?_<;>rintro⟨⟩);all_goals try (simp at j;done))
       apply aK;(repeat first|refine tA rfl ?_|refine s2 rfl λ_ j=>?_|refine sP rfl (R) rfl ?_|refine s3 rfl ?_ ?_<;>rintro rfl|refine aU rfl ?_|apply Aa)
       (repeat' first|refine tA rfl ?_|apply Aa|(refine aC rfl ?_ ?_<;>rintro⟨⟩));all_goals try contradiction
       apply aK;(repeat first|(refine sA rfl ?_ ?_;first|exact tI|omega)|(refine Af rfl ?_;refine gA rfl ?_;first|refine gS (λ_ _=>A8 rfl rfl (by simp[E.BT,C.BT,C.C1,S.BT]) (hls) rfl) ?_)|refine aU rfl ?_|apply Aa)
      ·cases h
       ·have X:¬(k:Int)+1=n:=of_decide_eq_false P.symm
        rcases H with ⟨rfl,G⟩|⟨z,rfl,J,F,B⟩
        ·refine⟨⟨⟨k+1,none⟩,by (try dsimp only);omega,by (try dsimp only);omega,.inl ⟨rfl,by (try dsimp only);omega⟩⟩,by dsimp only;(omega),[0,1,2,3,4,5,6,7],?_⟩
         simp[cX,zC,f,cN,q,Df,C5,CE,Fk,A]
         all_goals (intro i hi;match i,hi with|0,_=>rfl|1,_=>rfl)
        ·refine⟨⟨⟨k+1,some z⟩,by (try dsimp only);omega,by (try dsimp only);omega,.inr ⟨z,rfl,J,by (try dsimp only);omega,by (try dsimp only);omega⟩⟩,by dsimp only;(omega),[0,1,2,3,4,5,6,7],?_⟩
         simp[cX,zC,f,cN,q,Df,C5,CE,Fk,A]
         all_goals (intro i hi;match i,hi with|0,_=>rfl|1,_=>rfl)
       ·have X:(k:Int)+1=n:=of_decide_eq_true P.symm
        obtain rfl:=ha rfl;refine⟨⟨⟨k+1,some l⟩,by (try dsimp only);omega,by (try dsimp only);omega,.inr ⟨l,rfl,N,by (try dsimp only);omega,by (try dsimp only);omega⟩⟩,by dsimp only;(omega),[0,1,2,3,4,8,9,10],?_⟩;simp[cX,zC,f,cN,q,Df,C5,CE,Fk,A]
        all_goals (intro i hi;match i,hi with|0,_=>rfl|1,_=>rfl)
      ·cases h
       ·have X:¬(k:Int)+1=n:=of_decide_eq_false P.symm
        rcases H with ⟨rfl,G⟩|⟨z,rfl,J,F,B⟩
        ·refine⟨⟨⟨k+1,none⟩,by (try dsimp only);omega,λ_=>hv,.inl ⟨rfl,by (try dsimp only);omega⟩⟩,by dsimp only;(omega),[0,1,2,3,4,5,6,7],?_⟩
         simp[cX,zC,f,cN,q,Df,C5,CE,Fk,M,decide_eq_false (show ¬k+1<(Bu s t p al).length by omega)]
         all_goals (intro i hi;match i,hi with|0,_=>rfl|1,_=>rfl)
        ·refine⟨⟨⟨k+1,some z⟩,by (try dsimp only);omega,λ_=>hv,.inr ⟨z,rfl,J,by (try dsimp only);omega,by (try dsimp only);omega⟩⟩,by dsimp only;(omega),[0,1,2,3,4,5,6,7],?_⟩
         simp[cX,zC,f,cN,q,Df,C5,CE,Fk,M,decide_eq_false (show ¬k+1<(Bu s t p al).length by omega)]
         all_goals (intro i hi;match i,hi with|0,_=>rfl|1,_=>rfl)
       ·have X:(k:Int)+1=n:=of_decide_eq_true P.symm
        obtain rfl:=ha rfl;refine⟨⟨⟨k+1,some l⟩,by (try dsimp only);omega,λ_=>hv,.inr ⟨l,rfl,N,by (try dsimp only);omega,by (try dsimp only);omega⟩⟩,by dsimp only;(omega),[0,1,2,3,4,8,9,10],?_⟩;simp[cX,zC,f,cN,q,Df,C5,CE,Fk,M,decide_eq_false (show ¬k+1<(Bu s t p al).length by omega)]
        all_goals (intro i hi;match i,hi with|0,_=>rfl|1,_=>rfl)
    ·have R := HE (TB:=TB1) (Dg u) al (by omega)
     rw[g2]at R;rw[g0]at K;rw[g1]at hfv
     rcases hc with ⟨_,hb0,hv,hk⟩|⟨hb,hc⟩
     ·have y:=v
      have hno:=I;rw[<-hk]at y hno;generalize Bz s p al (Bo s t p al k)=a at *;(repeat first|refine tA rfl ?_|refine s2 rfl λ_ j=>?_|(refine Af rfl ?_;refine gA rfl ?_;first|refine gQ (A9.JA [(59,Bl s),(60,AX a),(61,AX p)] ⟨⟨_,rfl,.AO rfl⟩,⟨_,rfl,FV (k:=10) rfl rfl rfl N rfl rfl⟩,⟨_,rfl,.AO rfl⟩,trivial⟩ (λZ'=>A8 rfl rfl rfl K rfl) (CW _)) rfl ?_)|refine aU rfl ?_|apply Aa)
      ((refine aC rfl ?_ ?_<;>rintro⟨⟩);all_goals try (simp at j;done))
      (repeat first|refine tA rfl ?_|refine s2 rfl λ_ j=>?_|(refine Af rfl ?_;refine gA rfl ?_;first|refine gQ (A9.JA [(68,Bl t),(69,AX a)] ⟨⟨_,rfl,.AO rfl⟩,⟨_,rfl,FV (k:=10) rfl rfl rfl N rfl rfl⟩,trivial⟩ (λZ'=>A8 rfl rfl rfl hfv rfl) (CW _)) rfl ?_)|refine aU rfl ?_|apply Aa)
      ((refine aC rfl ?_ ?_<;>rintro⟨⟩);all_goals try (simp at j;done))
      apply aK;(repeat first|refine tA rfl ?_|refine s2 rfl λ_ j=>?_|refine sP rfl (R) rfl ?_|refine s3 rfl ?_ ?_<;>rintro rfl|refine aU rfl ?_|apply Aa)
      (repeat' first|refine tA rfl ?_|refine s2 rfl λ_ j=>?_|(refine Af rfl ?_;refine gA rfl ?_;first|refine gS (λ_ _=>S.df hb0 hokw rfl rfl) ?_)|refine aU rfl ?_|apply Aa|(refine aC rfl ?_ ?_<;>rintro⟨⟩));all_goals try contradiction
      (repeat first|refine tA rfl ?_|refine sP rfl (hpv) rfl ?_|(refine Af rfl ?_;refine gA rfl ?_;first|refine gS (λ_ _=>AA rfl rfl (by rfl) (by rfl)) ?_)|refine aU rfl ?_|apply Aa);cases h
      ·have X:¬(k:Int)+1=n:=of_decide_eq_false P.symm
       rcases H with ⟨rfl,G⟩|⟨z,rfl,J,F,B⟩
       ·exact aR ⟨_,rfl,[0,1],Xi ⟨1,Ga,Ku (BO [s,t] p),(k:Int)+1⟩,[(0,.cells 29 3 [[.d (iD 0),.d (.l []),.d (.l [])]]),(1,.cells 4 1 [[.d (bD false)]])],⟨by intro i hi;match i with|0=>rfl|1=>rfl,by decide⟩,rfl,by (simp[cX,zC,f,cN,Ae,eC,Bp,Df,C5,CE,Fk]),hno (by omega) _ _ _ (.inl ⟨⟨1,Ga,Ku (BO [s,t] p),(k:Int)+1⟩,rfl,rfl,rfl⟩)⟩
       ·exact aR ⟨_,rfl,[0,1,5,6,7],Xi ⟨1,Ga,Ku (BO [s,t] p),(k:Int)+1⟩,[(0,.cells 29 3 [[.d (iD an.al),.arr 2 1 0 z.length,.arr 3 1 0 an.ac.length]]),(1,.cells 4 1 [[.d (bD true)]]),(2,.cells 53 1 (Ay z)),(3,.cells 4 1 (an.ac.map AF)),(4,.sld 3 (sI z))],⟨by intro i hi;match i with|0=>rfl|1=>rfl,by decide⟩,rfl,by (simp[cX,zC,f,cN,Ae,eC,Bp,Df,C5,CE,Fk]),y (by omega) (by omega) z J _ _ _ (.inl ⟨⟨1,Ga,Ku (BO [s,t] p),(k:Int)+1⟩,rfl,rfl,rfl⟩)⟩
      ·have X:(k:Int)+1=n:=of_decide_eq_true P.symm
       obtain rfl:=ha rfl;exact aR ⟨_,rfl,[0,1,8,9,10],Xi ⟨1,Ga,Ku (BO [s,t] p),(k:Int)+1⟩,[(0,.cells 29 3 [[.d (iD an.al),.arr 2 1 0 l.length,.arr 3 1 0 an.ac.length]]),(1,.cells 4 1 [[.d (bD true)]]),(2,.cells 53 1 (Ay l)),(3,.cells 4 1 (an.ac.map AF)),(4,.sld 3 (sI l))],⟨by intro i hi;match i with|0=>rfl|1=>rfl,by decide⟩,rfl,by (simp[cX,zC,f,cN,Ae,eC,Bp,Df,C5,CE,Fk]),y (by omega) (by omega) l N _ _ _ (.inl ⟨⟨1,Ga,Ku (BO [s,t] p),(k:Int)+1⟩,rfl,rfl,rfl⟩)⟩
     ·have hb0:LS ⟨s,p,al⟩ w=true:=by rcases hb with hb|hb;cases hb;exact hb
      rcases hc with ⟨U,A⟩|⟨U,M,hk,hv⟩
      all_goals
       rw[U]at hls;generalize Bz s p al (Bo s t p al k)=a at *;(repeat first|refine tA rfl ?_|refine s2 rfl λ_ j=>?_|(refine Af rfl ?_;refine gA rfl ?_;first|refine gQ (A9.JA [(59,Bl s),(60,AX a),(61,AX p)] ⟨⟨_,rfl,.AO rfl⟩,⟨_,rfl,FV (k:=10) rfl rfl rfl N rfl rfl⟩,⟨_,rfl,.AO rfl⟩,trivial⟩ (λZ'=>A8 rfl rfl rfl K rfl) (CW _)) rfl ?_)|refine aU rfl ?_|apply Aa)
       ((refine aC rfl ?_ ?_<;>rintro⟨⟩);all_goals try (simp at j;done))
       (repeat first|refine tA rfl ?_|refine s2 rfl λ_ j=>?_|(refine Af rfl ?_;refine gA rfl ?_;first|refine gQ (A9.JA [(68,Bl t),(69,AX a)] ⟨⟨_,rfl,.AO rfl⟩,⟨_,rfl,FV (k:=10) rfl rfl rfl N rfl rfl⟩,trivial⟩ (λZ'=>A8 rfl rfl rfl hfv rfl) (CW _)) rfl ?_)|refine aU rfl ?_|apply Aa)
       ((refine aC rfl ?_ ?_<;>rintro⟨⟩);all_goals try (simp at j;done))
       apply aK;(repeat first|refine tA rfl ?_|refine s2 rfl λ_ j=>?_|refine sP rfl (R) rfl ?_|refine s3 rfl ?_ ?_<;>rintro rfl|refine aU rfl ?_|apply Aa)
       (repeat' first|refine tA rfl ?_|refine s2 rfl λ_ j=>?_|(refine Af rfl ?_;refine gA rfl ?_;first|refine gS (λ_ _=>S.df hb0 hokw rfl rfl) ?_)|refine aU rfl ?_|apply Aa|(refine aC rfl ?_ ?_<;>rintro⟨⟩));all_goals try contradiction
       apply aK;(repeat first|(refine sA rfl ?_ ?_;first|exact tI|omega)|(refine Af rfl ?_;refine gA rfl ?_;first|refine gS (λ_ _=>A8 rfl rfl (by simp[E.BT,C.BT,C.C1,S.BT]) (hls) rfl) ?_)|refine aU rfl ?_|apply Aa)
      ·cases h
       ·have X:¬(k:Int)+1=n:=of_decide_eq_false P.symm
        rcases H with ⟨rfl,G⟩|⟨z,rfl,J,F,B⟩
        ·refine⟨⟨⟨k+1,none⟩,by (try dsimp only);omega,by (try dsimp only);omega,.inl ⟨rfl,by (try dsimp only);omega⟩⟩,by dsimp only;(omega),[0,1,2,3,4,5,6,7],?_⟩
         simp[cX,zC,f,cN,q,Df,C5,CE,Fk,A]
         all_goals (intro i hi;match i,hi with|0,_=>rfl|1,_=>rfl)
        ·refine⟨⟨⟨k+1,some z⟩,by (try dsimp only);omega,by (try dsimp only);omega,.inr ⟨z,rfl,J,by (try dsimp only);omega,by (try dsimp only);omega⟩⟩,by dsimp only;(omega),[0,1,2,3,4,5,6,7],?_⟩
         simp[cX,zC,f,cN,q,Df,C5,CE,Fk,A]
         all_goals (intro i hi;match i,hi with|0,_=>rfl|1,_=>rfl)
       ·have X:(k:Int)+1=n:=of_decide_eq_true P.symm
        obtain rfl:=ha rfl;refine⟨⟨⟨k+1,some l⟩,by (try dsimp only);omega,by (try dsimp only);omega,.inr ⟨l,rfl,N,by (try dsimp only);omega,by (try dsimp only);omega⟩⟩,by dsimp only;(omega),[0,1,2,3,4,8,9,10],?_⟩;simp[cX,zC,f,cN,q,Df,C5,CE,Fk,A]
        all_goals (intro i hi;match i,hi with|0,_=>rfl|1,_=>rfl)
      ·cases h
       ·have X:¬(k:Int)+1=n:=of_decide_eq_false P.symm
        rcases H with ⟨rfl,G⟩|⟨z,rfl,J,F,B⟩
        ·refine⟨⟨⟨k+1,none⟩,by (try dsimp only);omega,λ_=>hv,.inl ⟨rfl,by (try dsimp only);omega⟩⟩,by dsimp only;(omega),[0,1,2,3,4,5,6,7],?_⟩
         simp[cX,zC,f,cN,q,Df,C5,CE,Fk,M,decide_eq_false (show ¬k+1<(Bu s t p al).length by omega)]
         all_goals (intro i hi;match i,hi with|0,_=>rfl|1,_=>rfl)
        ·refine⟨⟨⟨k+1,some z⟩,by (try dsimp only);omega,λ_=>hv,.inr ⟨z,rfl,J,by (try dsimp only);omega,by (try dsimp only);omega⟩⟩,by dsimp only;(omega),[0,1,2,3,4,5,6,7],?_⟩
         simp[cX,zC,f,cN,q,Df,C5,CE,Fk,M,decide_eq_false (show ¬k+1<(Bu s t p al).length by omega)]
         all_goals (intro i hi;match i,hi with|0,_=>rfl|1,_=>rfl)
       ·have X:(k:Int)+1=n:=of_decide_eq_true P.symm
        obtain rfl:=ha rfl;refine⟨⟨⟨k+1,some l⟩,by (try dsimp only);omega,λ_=>hv,.inr ⟨l,rfl,N,by (try dsimp only);omega,by (try dsimp only);omega⟩⟩,by dsimp only;(omega),[0,1,2,3,4,8,9,10],?_⟩;simp[cX,zC,f,cN,q,Df,C5,CE,Fk,M,decide_eq_false (show ¬k+1<(Bu s t p al).length by omega)]
        all_goals (intro i hi;match i,hi with|0,_=>rfl|1,_=>rfl)
  ·obtain rfl:k=(Bu s t p al).length:=by omega
   simp only[decide_eq_false Y];(repeat first|refine tA rfl ?_|refine s2 rfl λ_ j=>?_|refine aU rfl ?_|apply Aa)
   ((refine aC rfl ?_ ?_<;>rintro⟨⟩);all_goals try (simp at j;done))
   (repeat first|(refine sA rfl ?_ ?_;first|exact tI|omega)|(refine Af rfl ?_;refine gA rfl ?_;first|refine gS (λ_ _=>AA rfl rfl (by rfl) (by rfl)) ?_)|refine aU rfl ?_|apply Aa)
   rcases H with ⟨rfl,hq⟩|⟨z,rfl,J,F,B⟩
   ·exact aR ⟨_,rfl,[0,1],Xi ⟨2,Ga,[],((Bu s t p al).length:Int)+1-1⟩,[(0,.cells 29 3 [[.d (iD 0),.d (.l []),.d (.l [])]]),(1,.cells 4 1 [[.d (bD false)]])],⟨by intro i hi;match i with|0=>rfl|1=>rfl,by decide⟩,rfl,by (simp[cX,zC,f,cN,Ae,eC,Bp,Df,C5,CE,Fk]),I hq _ _ _ (.inl ⟨⟨2,Ga,[],((Bu s t p al).length:Int)+1-1⟩,rfl,rfl,rfl⟩)⟩
   ·exact aR ⟨_,rfl,[0,1,5,6,7],Xi ⟨2,Ga,[],((Bu s t p al).length:Int)+1-1⟩,[(0,.cells 29 3 [[.d (iD an.al),.arr 2 1 0 z.length,.arr 3 1 0 an.ac.length]]),(1,.cells 4 1 [[.d (bD true)]]),(2,.cells 53 1 (Ay z)),(3,.cells 4 1 (an.ac.map AF)),(4,.sld 3 (sI z))],⟨by intro i hi;match i with|0=>rfl|1=>rfl,by decide⟩,rfl,by (simp[cX,zC,f,cN,Ae,eC,Bp,Df,C5,CE,Fk]),v F B z J _ _ _ (.inl ⟨⟨2,Ga,[],((Bu s t p al).length:Int)+1-1⟩,rfl,rfl,rfl⟩)⟩
theorem Uk{s t:Sys}{p:AV}(h:AQ s p t<0)(b:s.es.length<=1048576)(n:Int):AK Tryz.prog ⟨tabs,none⟩ 52 2 [(0,.cells 29 3 [[.d (iD 0),.d (.l []),.d (.l [])]]),(1,.cells 4 1 [[.d (bD false)]])] 2 [Bl s,Bl t,AX p,.o (.fn 53 [.ip [iD n],.ptr 0 3 0 0,.ptr 1 1 0 0])] WR:=by
 have c:=FG (TB:=⟨tabs,none⟩) s p t b;unfold RE at c;rw[if_pos h]at c;refine AK.Bd (AK.OU (m:=2) (am rfl) Tryz.func52 rfl (by kernel_rfl) (am rfl) ?_);intro Z a;(repeat first|refine tA rfl ?_|refine s2 rfl λ_ e=>?_|refine sP rfl (c) rfl ?_|refine aU rfl ?_|apply Aa)
 ((refine aC rfl ?_ ?_<;>rintro⟨⟩);all_goals try (simp at e;done))
 (repeat first|refine tA rfl ?_|(refine Af rfl ?_;refine gA rfl ?_;first|refine gS (λ_ _=>AA rfl rfl (by rfl) (by rfl)) ?_)|refine aU rfl ?_|apply Aa);exact aR ⟨_,rfl,[0,1],Xi ⟨3,Ga,[],0⟩,[(0,.cells 29 3 [[.d (iD 0),.d (.l []),.d (.l [])]]),(1,.cells 4 1 [[.d (bD false)]])],⟨by intro i hi;match i with|0=>rfl|1=>rfl,by decide⟩,rfl,by (simp[cX,zC,a,cN,Ae,eC,Bp,Df,C5,CE,Fk]),.inl ⟨⟨3,Ga,[],0⟩,rfl,rfl,rfl⟩⟩
theorem Xn(s t:Sys)(p:AV)(c:s.es.length<=1048576)(n:Int):AK Tryz.prog ⟨tabs,none⟩ 12 0 [] 0 [Bl s,Bl t,AX p,eI .i64 n] (SI (Cr s t p n)):=by
 have g:AK Tryz.prog ⟨tabs,none⟩ 52 2 [(0,.cells 29 3 [[.d (iD 0),.d (.l []),.d (.l [])]]),(1,.cells 4 1 [[.d (bD false)]])] 2 [Bl s,Bl t,AX p,.o (.fn 53 [.ip [iD n],.ptr 0 3 0 0,.ptr 1 1 0 0])] (Pc (Cr s t p n)):=by
  by_cases h:AQ s p t<0
  ·rw[SZ h];exact Uk h c n
  ·exact Yz h c n
 generalize Cr s t p n=o at *
 cases o with
 | none=>
  refine AK.Bd (AK.OU (m:=0) (am rfl) Tryz.func12 rfl (by kernel_rfl) (am rfl) ?_);intro Z b;(repeat first|refine tA rfl ?_|refine aU rfl ?_|apply Aa);(refine pW rfl ?_ rfl (by rfl);refine BI [1,2] rfl rfl 2 g (by decide) ⟨rfl,by decide,by decide⟩ rfl (by simp[cX,zC,b,cN]) ?_;rintro j e f (⟨v,rfl,rfl,rfl⟩|⟨v,l,rfl,rfl,rfl⟩) _)
  all_goals
   (repeat first|refine aU rfl ?_|apply Aa);refine rG (Ju [(0,11),(1,12),(2,1004)]) (by kernel_rfl) ?_;(repeat first|refine tA rfl ?_);(refine Af rfl ?_;refine TN ?_ rfl ⟨rfl,rfl⟩;refine DE rfl rfl rfl rfl (by rfl) rfl (am rfl) ?_;refine⟨ER 2 rfl rfl,?_⟩);(repeat first|refine tA rfl ?_|apply Aa);exact aR ⟨_,rfl,[],Pt none,[],⟨λi hi=>absurd hi (jp i),lm⟩,rfl,trivial,rfl,rfl,rfl⟩
 | some a=>
  refine AK.Bd (AK.OU (m:=0) (am rfl) Tryz.func12 rfl (by kernel_rfl) (am rfl) ?_);intro Z b;(repeat first|refine tA rfl ?_|refine aU rfl ?_|apply Aa);(refine pW rfl ?_ rfl (by rfl);refine BI [1,2] rfl rfl 2 g (by decide) ⟨rfl,by decide,by decide⟩ rfl (by simp[cX,zC,b,cN]) ?_;rintro j e f ⟨z,k,(⟨v,rfl,rfl,rfl⟩|⟨v,rfl,rfl,rfl⟩|⟨v,l,rfl,rfl,rfl⟩)⟩ _)
  all_goals
   (repeat first|refine aU rfl ?_|apply Aa);refine rG (Ju [(0,11),(1,12),(2,1004)]) (by kernel_rfl) ?_;(repeat first|refine tA rfl ?_);(refine Af rfl ?_;refine TN ?_ rfl ⟨rfl,rfl⟩;refine DE rfl rfl rfl rfl (by rfl) rfl (am rfl) ?_;refine⟨ER 2 rfl rfl,?_⟩);(repeat first|refine tA rfl ?_|apply Aa);exact aR ⟨_,rfl,[3,4,5],.t [(true,[.d (iD a.al),.arr 0 1 0 z.length,.arr 1 1 0 a.ac.length]),(false,[.d (bD true)])],[(0,.cells 53 1 (Ay z)),(1,.cells 4 1 (a.ac.map AF)),(2,.sld 3 (sI z))],⟨λi hi=>absurd hi (jp i),by decide⟩,rfl,by (simp[cX,zC,b,cN,Bp,Ae,eC]),z,k,rfl,rfl,rfl⟩
theorem Gt(s t:Sys)(p:AV)(a:s.es.length<=1048576)(n:Int):Pure Tryz.prog ⟨tabs,none⟩ 12 [Bl s,Bl t,AX p,eI .i64 n] (Pt (Cr s t p n)):=SI.pure (Xn s t p a n)
end
end Go.Am
namespace Go.Am
open Go Go.Proofs
set_option maxHeartbeats 1000000
set_option maxRecDepth 4000
attribute [local irreducible] A9 CY Lex BV Ak Spec
variable {TB:BR}[Dp TB]
noncomputable def Ld(s t:Sys)(p:AV)(al:Int):Nat->AV
 | 0=>Ga
 | k+1=>Bz s p al (Bo s t p al k)
abbrev jY(v:Vd)(a:AV):E:=.t [(true,(ML v).map .d),(true,(AL a).map .d)]
noncomputable def My(s t:Sys)(p:AV)(al:Int)(R:Int):Vd:=if ((Bu s t p al).length:Int)<=R then C6 s t p else ⟨2,Ga,[],(R.toNat:Int)⟩
theorem aY{s t:Sys}{p:AV}(h:AQ s p t<0)(a:s.es.length<=1048576)(R:Int):Pure Tryz.prog TB 54 [Bl s,Bl t,AX p,eI .i64 R] (jY ⟨3,Ga,[],0⟩ Ga):=by
 have b:=JN (TB:=TB) s p t a;unfold RE at b;rw[if_pos h]at b;refine eG Tryz.func54 rfl (by kernel_rfl) rfl ?_;intro Z d;(repeat first|refine tA rfl ?_|refine s2 rfl λ_ c=>?_|refine sP rfl (b) rfl ?_|refine aU rfl ?_|apply Aa)
 ((refine aC rfl ?_ ?_<;>rintro⟨⟩);all_goals try (simp at c;done))
 (repeat first|refine tA rfl ?_|(refine Af rfl ?_;refine gA rfl ?_;first|refine gS (λ_ _=>AA rfl rfl (by rfl) (by rfl)) ?_)|refine aU rfl ?_|apply Aa);(subst_vars;exact aR ⟨_,rfl,rfl⟩)
theorem aZ{s t:Sys}{p:AV}{al:Int}(hI:FN s p t al)(Y:s.es.length<=1048576)(R:Int):Pure Tryz.prog TB 54 [Bl s,Bl t,AX p,eI .i64 R] (jY (My s t p al R) (Ld s t p al (min (Bu s t p al).length R.toNat))):=by
 have h1:=JN (TB:=TB) s p t Y;unfold RE at h1;rw[if_neg (U8 hI),<-hI.hal]at h1;have h2:=cd (TB:=TB) s p al;rw[Ys (t:=t) hI]at h2;obtain⟨U,T⟩:=Kk hI
 obtain⟨n,hn⟩:∃n,n=(Bu s t p al).length:=⟨_,rfl⟩
 rw[<-hn]at U T |-
 obtain⟨V,j⟩:∃V,V=My s t p al R:=⟨_,rfl⟩
 obtain⟨A,m⟩:∃A,A=Ld s t p al (min n R.toNat):=⟨_,rfl⟩
 rw[<-j,<-m];refine eG Tryz.func54 rfl (by kernel_rfl) rfl ?_;intro Z e;(repeat first|refine tA rfl ?_|refine s2 rfl λ_ c=>?_|refine sP rfl (h1) rfl ?_|refine aU rfl ?_|apply Aa)
 ((refine aC rfl ?_ ?_<;>rintro⟨⟩);all_goals try (simp at c;done))
 apply aK;(repeat first|refine tA rfl ?_|refine sP rfl (h2) rfl ?_|(refine Af rfl ?_;refine gA rfl ?_;first|refine gS (λ_ _=>AA rfl rfl (by rfl) (by rfl)) ?_)|refine aU rfl ?_|apply Aa);refine Ak.AB [2,3] [(3,eI .i64 R),(4,.o (.ip (AI s))),(5,.o (.ip (AI t))),(6,.o (.ip (AL p))),(8,.o (.ptr 0 6 0 0)),(9,.o (.ptr 1 3 0 0)),(10,.o (.ip (Ja ⟨s,p,al⟩))),(12,.o (.ip (fY false Ga s p al))),(13,.o (.ptr 4 2 0 0)),(14,eB true),(15,.o (.ptr 5 6 0 0)),(16,.o (.ptr 6 3 0 0))] ⟨⟨_,rfl,.inl rfl⟩,⟨_,rfl,.inl rfl⟩,⟨_,rfl,.inl rfl⟩,⟨_,rfl,.inl rfl⟩,⟨_,rfl,.inl rfl⟩,⟨_,rfl,.inl rfl⟩,⟨_,rfl,.inr (.o (.box rfl (EK.refl (Ja ⟨s,p,al⟩))))⟩,⟨_,rfl,.inr (.o (.box rfl (EK.refl (fY false Ga s p al))))⟩,⟨_,rfl,.inl rfl⟩,⟨_,rfl,.inl rfl⟩,⟨_,rfl,.inl rfl⟩,⟨_,rfl,.inl rfl⟩,trivial⟩ ?_;refine Ak.Az [3,4,5,6,10,12] [0,1] rfl rfl [(8,.o (.ptr 0 6 0 0)),(9,.o (.ptr 1 3 0 0)),(13,.o (.ptr 2 2 0 0)),(14,eB true),(15,.o (.ptr 3 6 0 0)),(16,.o (.ptr 4 3 0 0))] [(2,.cells 47 2 [[.d (BX (Bo s t p al 0).rows),.d (BX (Bo s t p al 0).cols)]]),(3,.cells 35 6 [[.d (iD 2),.d (iD 0),.d (.l []),.d (.l []),.d (tD []),.d (iD 0)]]),(4,.cells 29 3 [[.d (iD 0),.d (.l []),.d (.l [])]])] [0,1,4,5,6] (rl e rfl) (by (simp[cX,zC,e,cN,Bp,Ae,eC])) ?_;(try dsimp only[cA,cB]);apply aB;refine aL (α:={k:Nat // k<=n/\k<=R.toNat/\(k=n->C6 s t p=⟨2,Ga,[],(k:Int)⟩)}) [3,4,5,6,8,9,10,12,13,15,16] [0,1] rfl rfl (λ⟨k,u,x,i⟩=>[(14,eB (decide (k<n)))]) (λ⟨k,u,x,i⟩=>[(2,.cells 47 2 [[.d (BX (Bo s t p al k).rows),.d (BX (Bo s t p al k).cols)]]),(3,.cells 35 6 [[.d (iD 2),.d (iD 0),.d (.l []),.d (.l []),.d (tD []),.d (iD k)]]),(4,.cells 29 3 [[.d (iD (Ld s t p al k).al),.d (CA (Ld s t p al k).nx),.d (E5 (Ld s t p al k).ac)]])]) 5 (λ⟨k,u,x,i⟩=>n-k) (⟨0,by omega,by omega,by omega⟩) e rfl (by (simp[cX,zC,e,cN,Ld,Ga,decide_eq_true (show 0<n by omega)])) ?_;rintro⟨k,u,x,i⟩;(try dsimp only[cA,cB]);by_cases H:k<n
 ·simp only [decide_eq_true H]
  by_cases hR:(k:Int)<R
  ·obtain⟨K,J⟩:=JI hI (k:=k) (by omega)
   have B:WJ (Bo s t p al k):=by obtain⟨_,_,_,P,_⟩:=DG K.v;exact P.sz
   have f:=cf (TB:=TB) s p al (Bo s t p al k) B;rw[UD hI K]at f;obtain⟨hao,_⟩:=Jp hI K;have g:Ld s t p al (k+1)=Bz s p al (Bo s t p al k):=rfl
   have I:k+1=(Bu s t p al).length->My s t p al R=C6 s t p/\min n R.toNat=k+1:=λh=>⟨by unfold My;rw[if_pos (by omega)],by omega⟩
   rcases J with ⟨Q,z,hk⟩|⟨w,b,Q,G,q,J⟩
   ·have y:=Vk (TB:=TB) hI Q
    obtain⟨M,L⟩:=I hk
    have eV:V=⟨0,Bz s p al (Bo s t p al k),[],(k:Int)+1⟩:=by rw[j,M,z]
    have eA:A=Bz s p al (Bo s t p al k):=by rw[m,L,g]
    clear j m;subst eV eA;have hcp:=JZ (TB:=TB) (Bz s p al (Bo s t p al k)) (Ph hao);generalize Bz s p al (Bo s t p al k)=a at *;generalize Ld s t p al k=la;generalize Bo s t p al k=tb at *;(repeat first|refine tA rfl ?_|refine s2 rfl λ_ c=>?_|refine aU rfl ?_|apply Aa)
    ((refine aC rfl ?_ ?_<;>rintro⟨⟩);(all_goals try (simp at c;done));(all_goals try(exfalso;(simp only[oZ] at *;omega))))
    apply aK;apply aB;(repeat first|(refine sA rfl ?_ ?_;first|exact tI|omega)|refine sP rfl (f) rfl ?_|refine sP rfl (y) rfl ?_|refine aU rfl ?_|apply Aa);apply aB;(repeat first|refine tA rfl ?_|refine s2 rfl λ_ c=>?_|refine aU rfl ?_|apply Aa)
    ((refine aC rfl ?_ ?_<;>rintro⟨⟩);(all_goals try (simp at c;done));(all_goals try(exfalso;omega)))
    (repeat first|refine tX rfl ?_|refine aU rfl ?_|apply Aa);(refine pW rfl ?_ rfl (by rfl);refine BI [] rfl rfl 0 (hcp) (by decide) ⟨rfl,by decide,by decide⟩ rfl (by simp[cX,zC,e,cN]) ?_;rintro x0 σ1 nx1 ⟨l,hl,rfl,rfl,rfl⟩ _);(repeat first|refine tX rfl ?_|refine aU rfl ?_|apply Aa);refine Ak.Az [3,4,5,6,10,12] [0,1] rfl rfl [(8,.o (.ptr 0 6 0 0)),(9,.o (.ptr 1 3 0 0)),(15,.o (.ptr 2 6 0 0)),(16,.o (.ptr 3 3 0 0))] [(2,.cells 35 6 [[.d (iD 0),.d (iD a.al),.arr 4 1 0 l.length,.arr 5 1 0 a.ac.length,.d (tD []),.d (iD ((k:Int)+1))]]),(3,.cells 29 3 [[.d (iD a.al),.d (CA a.nx),.d (E5 a.ac)]]),(4,.cells 53 1 (Ay l)),(5,.cells 4 1 (a.ac.map AF)),(6,.sld 3 (sI l))] [0,1,3,4,6,7,8] (rl e rfl) (by (simp[cX,zC,e,cN,Bp,Ae,eC])) ?_;(try dsimp only[cA,cB]);refine Ak.AB [2,3,4,5,6] [(8,.o (.ptr 0 6 0 0)),(9,.o (.ptr 1 3 0 0)),(15,.o (.ip (ML ⟨0,⟨a.al,l.map (·.2),a.ac⟩,[],(k:Int)+1⟩))),(16,.o (.ip (AL a)))] ⟨⟨_,rfl,.inl rfl⟩,⟨_,rfl,.inl rfl⟩,⟨_,rfl,.inr (.o (.box rfl (.cons .d (.cons .d (.cons (.MU (s:=6) rfl rfl) (.cons (.full rfl (by simp[d5]) (by simp)) (.cons .d (.cons .d .nil))))))))⟩,⟨_,rfl,.inr (.o (.box rfl (EK.refl (AL a))))⟩,trivial⟩ ?_;rw[hl];refine rG (Ju [(2,1),(3,1)]) (by kernel_rfl) ?_;(repeat first|refine tA rfl ?_|apply Aa);(subst_vars;exact aR ⟨_,rfl,rfl⟩)
   ·have y:=Vl (TB:=TB) hI Q G q
    have S:=Fs (TB:=TB) [s,t] p;have r:=X0 (TB:=TB) s p al (Bo s t p al k) B w q;rw[ZR hI K G q]at r
    rcases J with ⟨rfl,hb0,z,hk⟩|⟨hb,J⟩
    ·rw[hb0,sf,if_neg qq]at y
     obtain⟨M,L⟩:=I hk
     have eV:V=⟨1,Ga,Ku (BO [s,t] p),(k:Int)+1⟩:=by rw[j,M,z]
     have eA:A=Bz s p al (Bo s t p al k):=by rw[m,L,g]
     clear j m;subst eV eA;generalize Bz s p al (Bo s t p al k)=a at *;generalize Ld s t p al k=la;generalize Bo s t p al k=tb at *;(repeat first|refine tA rfl ?_|refine s2 rfl λ_ c=>?_|refine aU rfl ?_|apply Aa)
     ((refine aC rfl ?_ ?_<;>rintro⟨⟩);(all_goals try (simp at c;done));(all_goals try(exfalso;(simp only[oZ] at *;omega))))
     apply aK;apply aB;(repeat first|(refine sA rfl ?_ ?_;first|exact tI|omega)|refine sP rfl (f) rfl ?_|refine sP rfl (y) rfl ?_|refine aU rfl ?_|apply Aa);apply aB;(repeat first|refine tA rfl ?_|refine s2 rfl λ_ c=>?_|refine aU rfl ?_|apply Aa)
     ((refine aC rfl ?_ ?_<;>rintro⟨⟩);(all_goals try (simp at c;done));(all_goals try(exfalso;omega)))
     (repeat first|refine tA rfl ?_|refine s2 rfl λ_ c=>?_|refine aU rfl ?_|apply Aa)
     ((refine aC rfl ?_ ?_<;>rintro⟨⟩);(all_goals try (simp at c;done));(all_goals try(exfalso;omega)))
     (repeat first|refine tA rfl ?_|refine sP rfl (S) rfl ?_|refine aU rfl ?_|apply Aa);refine Ak.Az [3,4,5,6,10,12] [0,1] rfl rfl [(8,.o (.ptr 0 6 0 0)),(9,.o (.ptr 1 3 0 0)),(15,.o (.ptr 2 6 0 0)),(16,.o (.ptr 3 3 0 0))] [(2,.cells 35 6 [[.d (iD 1),.d (iD 0),.d (.l []),.d (.l []),.d (tD (Ku (BO [s,t] p))),.d (iD ((k:Int)+1))]]),(3,.cells 29 3 [[.d (iD a.al),.d (CA a.nx),.d (E5 a.ac)]])] [0,1,3,4] (rl e rfl) (by (simp[cX,zC,e,cN,Bp,Ae,eC])) ?_;(try dsimp only[cA,cB]);refine Ak.AB [2,3] [(8,.o (.ptr 0 6 0 0)),(9,.o (.ptr 1 3 0 0)),(15,.o (.ip (ML ⟨1,Ga,Ku (BO [s,t] p),(k:Int)+1⟩))),(16,.o (.ip (AL a)))] ⟨⟨_,rfl,.inl rfl⟩,⟨_,rfl,.inl rfl⟩,⟨_,rfl,.inr (.o (.box rfl (EK.refl (ML ⟨1,Ga,Ku (BO [s,t] p),(k:Int)+1⟩))))⟩,⟨_,rfl,.inr (.o (.box rfl (EK.refl (AL a))))⟩,trivial⟩ ?_;refine rG (Ju [(2,1),(3,1)]) (by kernel_rfl) ?_;(repeat first|refine tA rfl ?_|apply Aa);(subst_vars;exact aR ⟨_,rfl,rfl⟩)
    ·rw [if_pos (by rcases hb with h|h<;>simp[h])]at y
     rcases J with ⟨F,hlt2⟩|⟨F,N,hk,z⟩
     all_goals
      rw[F]at r
      have X:(k:Int)+1=((k+1:Nat):Int):=by omega
      generalize Bz s p al (Bo s t p al k)=a at *;generalize Ld s t p al k=la;generalize Bo s t p al k=tb at *;(repeat first|refine tA rfl ?_|refine s2 rfl λ_ c=>?_|refine aU rfl ?_|apply Aa)
      ((refine aC rfl ?_ ?_<;>rintro⟨⟩);(all_goals try (simp at c;done));(all_goals try(exfalso;(simp only[oZ] at *;omega))))
      apply aK;apply aB;(repeat first|(refine sA rfl ?_ ?_;first|exact tI|omega)|refine sP rfl (f) rfl ?_|refine sP rfl (y) rfl ?_|refine aU rfl ?_|apply Aa);apply aB;(repeat first|refine tA rfl ?_|refine s2 rfl λ_ c=>?_|refine aU rfl ?_|apply Aa)
      ((refine aC rfl ?_ ?_<;>rintro⟨⟩);(all_goals try (simp at c;done));(all_goals try(exfalso;omega)))
      (repeat first|refine tA rfl ?_|refine s2 rfl λ_ c=>?_|refine aU rfl ?_|apply Aa)
      ((refine aC rfl ?_ ?_<;>rintro⟨⟩);(all_goals try (simp at c;done));(all_goals try(exfalso;omega)))
      apply aK;(repeat first|refine tA rfl ?_|refine sP rfl (r) rfl ?_|refine aU rfl ?_|apply Aa)
     ·refine⟨⟨k+1,by omega,by omega,by omega⟩,by dsimp only;(omega),[0,1,2,3,4],?_⟩
      simp[cX,zC,e,cN,g,decide_eq_true (show k+1<n by omega)]
     ·refine⟨⟨k+1,by omega,by omega,λ_=>by rw[z,X]⟩,by dsimp only;(omega),[0,1,2,3,4],?_⟩
      simp[cX,zC,e,cN,g,N,decide_eq_false (show ¬k+1<n by omega)]
  ·have hk:k=R.toNat:=by omega
   have e1:My s t p al R=⟨2,Ga,[],(k:Int)⟩:=by unfold My;rw[if_neg (by omega),hk]
   have e2:min n R.toNat=k:=by omega
   have eV:V=⟨2,Ga,[],(k:Int)⟩:=by rw[j,e1]
   have eA:A=Ld s t p al k:=by rw[m,e2]
   clear j m;subst eV eA;generalize Ld s t p al k=la;generalize Bo s t p al k=tb;(repeat first|refine tA rfl ?_|refine s2 rfl λ_ c=>?_|refine aU rfl ?_|apply Aa)
   ((refine aC rfl ?_ ?_<;>rintro⟨⟩);(all_goals try (simp at c;done));(all_goals try(exfalso;(simp only[oZ] at *;omega))))
   apply aE;(repeat first|refine aU rfl ?_);refine Ak.AB [3,4] [(8,.o (.ptr 0 6 0 0)),(9,.o (.ptr 1 3 0 0)),(15,.o (.ip (ML ⟨2,Ga,[],(k:Int)⟩))),(16,.o (.ip (AL la)))] ⟨⟨_,rfl,.inl rfl⟩,⟨_,rfl,.inl rfl⟩,⟨_,rfl,.inr (.o (.box rfl (EK.refl (ML ⟨2,Ga,[],(k:Int)⟩))))⟩,⟨_,rfl,.inr (.o (.box rfl (EK.refl (AL la))))⟩,trivial⟩ ?_;refine rG (Ju [(2,1),(3,1)]) (by kernel_rfl) ?_;(repeat first|refine tA rfl ?_|apply Aa);(subst_vars;exact aR ⟨_,rfl,rfl⟩)
 ·obtain rfl:k=n:=by omega
  have e1:My s t p al R=⟨2,Ga,[],(k:Int)⟩:=by unfold My;rw[if_pos (by omega)];exact i rfl
  have e2:min k R.toNat=k:=by omega
  simp only[decide_eq_false H]
  have eV:V=⟨2,Ga,[],(k:Int)⟩:=by rw[j,e1]
  have eA:A=Ld s t p al k:=by rw[m,e2]
  clear j m;subst eV eA;generalize Ld s t p al k=la;generalize Bo s t p al k=tb;(repeat first|refine tA rfl ?_|refine aU rfl ?_|apply Aa)
  ((refine aC rfl ?_ ?_<;>rintro⟨⟩);all_goals try (simp at c;done))
  apply aE;(repeat first|refine aU rfl ?_);refine Ak.AB [3,4] [(8,.o (.ptr 0 6 0 0)),(9,.o (.ptr 1 3 0 0)),(15,.o (.ip (ML ⟨2,Ga,[],(k:Int)⟩))),(16,.o (.ip (AL la)))] ⟨⟨_,rfl,.inl rfl⟩,⟨_,rfl,.inl rfl⟩,⟨_,rfl,.inr (.o (.box rfl (EK.refl (ML ⟨2,Ga,[],(k:Int)⟩))))⟩,⟨_,rfl,.inr (.o (.box rfl (EK.refl (AL la))))⟩,trivial⟩ ?_;refine rG (Ju [(2,1),(3,1)]) (by kernel_rfl) ?_;(repeat first|refine tA rfl ?_|apply Aa);(subst_vars;exact aR ⟨_,rfl,rfl⟩)
theorem Ky(s t:Sys)(p:AV)(f:s.es.length<=1048576)(n:Int):Pure Tryz.prog TB 13 [Bl s,Bl t,AX p,eI .i64 n] (Pt (Cr s t p n)):=by
 by_cases m:n<1
 ·have e:Cr s t p n=none:=by unfold Cr;rw[if_neg (by omega)]
  rw[e];refine eG Tryz.func13 rfl (by kernel_rfl) rfl ?_;intro Z b;(repeat first|refine tA rfl ?_|refine s2 rfl λ_ a=>?_|refine aU rfl ?_|apply Aa)
  ((refine aC rfl ?_ ?_<;>rintro⟨⟩);all_goals try(exfalso;(simp only[oZ] at *;omega)))
  (repeat first|refine tA rfl ?_|(refine Af rfl ?_;refine gA rfl ?_;first|refine gS (λ_ _=>AA rfl rfl (by rfl) (by rfl)) ?_)|refine aU rfl ?_|apply Aa);(subst_vars;exact aR ⟨_,rfl,rfl⟩)
 ·by_cases h:AQ s p t<0
  ·have e:=aY (TB:=TB) h f n
   rw[SZ h];refine eG Tryz.func13 rfl (by kernel_rfl) rfl ?_;intro Z b;(repeat first|refine tA rfl ?_|refine s2 rfl λ_ a=>?_|refine aU rfl ?_|apply Aa)
   ((refine aC rfl ?_ ?_<;>rintro⟨⟩);all_goals try(exfalso;(simp only[oZ] at *;omega)))
   apply aK;(repeat first|refine tA rfl ?_|refine s2 rfl λ_ a=>?_|refine sP rfl (e) rfl ?_|refine aU rfl ?_|apply Aa)
   ((refine aC rfl ?_ ?_<;>rintro⟨⟩);all_goals try(exfalso;(simp only[oZ] at *;omega)))
   (repeat first|refine tA rfl ?_|(refine Af rfl ?_;refine gA rfl ?_;first|refine gS (λ_ _=>AA rfl rfl (by rfl) (by rfl)) ?_)|refine aU rfl ?_|apply Aa);(subst_vars;exact aR ⟨_,rfl,rfl⟩)
  ·have hI:=GZ h
   have e:=aZ (TB:=TB) hI f n;have o:=Kk hI;by_cases l:((Bu s t p (AQ s p t)).length:Int)<n
   ·have j:Cr s t p n=none:=by unfold Cr;rw[if_neg (by omega)]
    have i:My s t p (AQ s p t) n=C6 s t p:=by unfold My;rw[if_pos (by omega)]
    have c:=TY hI;rw[j];rw[i]at e
    obtain⟨⟨code,va,tr,rd⟩,g⟩:∃v,v=C6 s t p:=⟨_,rfl⟩
    rw[<-g]at e c
    have c:rd<n:=by have:rd=_:=c;omega
    generalize Ld s t p (AQ s p t) _=la at e;refine eG Tryz.func13 rfl (by kernel_rfl) rfl ?_;intro Z b;(repeat first|refine tA rfl ?_|refine s2 rfl λ_ a=>?_|refine aU rfl ?_|apply Aa)
    ((refine aC rfl ?_ ?_<;>rintro⟨⟩);all_goals try(exfalso;(simp only[oZ] at *;omega)))
    apply aK;(repeat first|refine tA rfl ?_|refine s2 rfl λ_ a=>?_|refine sP rfl (e) rfl ?_|refine aU rfl ?_|apply Aa)
    ((refine aC rfl ?_ ?_<;>rintro⟨⟩);all_goals try(exfalso;(simp only[oZ] at *;omega)))
    (repeat first|refine tA rfl ?_|(refine Af rfl ?_;refine gA rfl ?_;first|refine gS (λ_ _=>AA rfl rfl (by rfl) (by rfl)) ?_)|refine aU rfl ?_|apply Aa);(subst_vars;exact aR ⟨_,rfl,rfl⟩)
   ·obtain⟨k,rfl⟩:∃k:Nat,n=(k:Int)+1:=⟨n.toNat-1,by omega⟩
    have j:Cr s t p ((k:Int)+1)=some (Bz s p (AQ s p t) (Bo s t p (AQ s p t) k)):=by
     unfold Cr;rw[if_pos ⟨h,by omega,by omega⟩];congr 3
    have i:min (Bu s t p (AQ s p t)).length ((k:Int)+1).toNat=k+1:=by omega
    have c:(My s t p (AQ s p t) ((k:Int)+1)).rd=(k:Int)+1:=by
     unfold My;by_cases d:((Bu s t p (AQ s p t)).length:Int)<=(k:Int)+1
     ·rw[if_pos d,TY hI];omega
     ·rw[if_neg d];show (((k:Int)+1).toNat:Int)=_;omega
    rw[j];rw[i]at e;have e:Pure Tryz.prog TB 54 [Bl s,Bl t,AX p,eI .i64 ((k:Int)+1)] (jY (My s t p (AQ s p t) ((k:Int)+1)) (Bz s p (AQ s p t) (Bo s t p (AQ s p t) k))):=e;generalize Bz s p (AQ s p t) (Bo s t p (AQ s p t) k)=la at *
    obtain⟨⟨code,va,tr,rd⟩,g⟩:∃v,v=My s t p (AQ s p t) ((k:Int)+1):=⟨_,rfl⟩
    rw[<-g]at e c;have c:rd=(k:Int)+1:=c;refine eG Tryz.func13 rfl (by kernel_rfl) rfl ?_;intro Z b;(repeat first|refine tA rfl ?_|refine s2 rfl λ_ a=>?_|refine aU rfl ?_|apply Aa)
    ((refine aC rfl ?_ ?_<;>rintro⟨⟩);all_goals try(exfalso;(simp only[oZ] at *;omega)))
    apply aK;(repeat first|refine tA rfl ?_|refine s2 rfl λ_ a=>?_|refine sP rfl (e) rfl ?_|refine aU rfl ?_|apply Aa)
    ((refine aC rfl ?_ ?_<;>rintro⟨⟩);all_goals try(exfalso;(simp only[oZ] at *;omega)))
    apply aK;(repeat first|refine tA rfl ?_|(refine Af rfl ?_;refine gA rfl ?_;first|refine gS (λ_ _=>AA rfl rfl (by rfl) (by rfl)) ?_)|refine aU rfl ?_|apply Aa);(subst_vars;exact aR ⟨_,rfl,rfl⟩)
end Go.Am
