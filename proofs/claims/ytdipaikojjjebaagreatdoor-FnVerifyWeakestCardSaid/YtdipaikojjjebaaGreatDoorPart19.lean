/-
  Automata without useless states, and prefix-closed ones: walked.
-/
import Derived.Test.YtdipaikojjjebaaGreatDoorPart17
import Derived.Laws.StructEq
import Derived.Test.YtdipaikojjjebaaGreatDoorPart18
set_option linter.all false
namespace Go.Am
open Go Go.Proofs
set_option maxHeartbeats 1000000
set_option maxRecDepth 4000
attribute [local irreducible] A5 CQ Lex BC Al Spec
variable {TB:BB}
theorem kj{a:AI}{q l:Int}(d:0<=q/\q<a.nx.length)(b:l∈Ab a.al):Pure Tryz.prog TB 172 [eI .i64 q,eI .i64 l,.o (.ip [.l (Gd a)])] (eI .i64 (fA a q l)):=by
 have b:=Af b;have ta:=KP (a:=a) (q:=q.toNat) (by omega)
 have el:((l.toNat:Nat):Int)=l:=by omega
 have ra:=IL (h:=λl=>Bn a q.toNat l) b.1 (by omega);simp only[el]at ra;refine eN Tryz.func172 rfl (by kernel_rfl) rfl ?_;intro Γ c;(repeat first|(refine sA rfl ?_ ?_;first|exact tI|omega)|(refine s4 rfl ‹_› rfl ?_ ?_;omega)|(refine Ai rfl ?_;refine gA rfl ?_;first|refine gS (λ_ _=>DY rfl ra) ?_)|refine aU rfl ?_|apply Aa);refine aR ⟨_,rfl,rfl⟩
theorem mC{a:AI}(h:HW a):Pure Tryz.prog TB 117 [Bp a] (Bp (VC a)):=by
 have z:=h.b.1;have m:=h.n1;have A:=h.ac;have j:=O4 (TB:=TB) a h.b;have s:=Cq (TB:=TB) a.al;obtain⟨nd,rows,H,G,I,F,B⟩:=aj h.b h.n1
 have e:Pure Tryz.prog TB 56 [eI .i64 0,Aj (Ab a.al),eI .i64 a.nx.length,.o (.fn 172 [.ip [.l (Gd a)]])] (gD (Lb a.nx.length (fA a) (Ab a.al) 0)):=by
  refine Xy (lim:=a.nx.length) (R:=λq=>0<=q/\q<((a.nx.length:Nat):Int)) ⟨m,z⟩ (AA _ 6) (by omega) (λq l f i=>?_) (λq l f i=>kj f i) rfl (λr=>rfl);have i:=Af i;exact DC h.b (q:=q.toNat) (by omega) i.1 (by omega)
 rw[H]at e;rw[B];have y:=G.len;refine eG Tryz.func117 rfl (by kernel_rfl) rfl ?_;intro Γ c;(repeat first|refine tA rfl ?_|refine sP rfl (j) rfl ?_|refine aU rfl ?_|apply Aa);refine Al.Bb [1] [(1,.o (.ip (AT a))),(2,.o (.ptr 0 3 0 0)),(3,.o (.ip [.l (Gd a)]))] ⟨⟨_,rfl,.inl rfl⟩,⟨_,rfl,.inl rfl⟩,⟨_,rfl,.inr (.o (.box rfl (HG.refl [.l (Gd a)])))⟩,trivial⟩ ?_;have p:(List.range a.nx.length).length=a.nx.length:=xA;rw[<-p]at e;refine rG (GI []) (by kernel_rfl) ?_;(repeat first|refine sN rfl ?_|refine tA rfl ?_|refine sP rfl (s) rfl ?_|refine sP rfl (e) rfl ?_|refine aU rfl ?_|apply Aa);(refine pW rfl ?_ rfl (by rfl);refine Hv 2 1 4 rfl rfl rfl (by rfl) (by rfl) ?_);(repeat first|refine sN rfl ?_|refine tA rfl ?_|refine aU rfl ?_|apply Aa);apply aB;refine aL (α:={k:Nat // k<=nd.length}) [1,2,7,27,28] [0] rfl rfl (λ⟨k,hk⟩=>[(29,eI .i64 k)]) (λ⟨k,hk⟩=>[(3,.cells 29 3 [[.d (iD a.al),.d (Ce rows),.arr 2 1 0 k]]),(2,.cells 4 1 (((nd.take k).map (Fw a)).map AO))]) 4 (λ⟨k,hk⟩=>nd.length-k) (⟨0,by omega⟩) c rfl (by (simp[cX,zC,c,eC,Bl,Ae])) ?_;rintro⟨k,hk⟩;(try dsimp only[cA,cB]);by_cases n:k<nd.length
 .obtain⟨q,f⟩:=get_some n
  have x:=get_map (g:=A9) f;have w:=F q (ce f);obtain⟨bb,hb⟩:=get_some (l:=a.ac) (k:=q.toNat) (by omega);have u:=get_map (g:=Iq) hb;have t:Fw a q=bb:=Gg hb
  have ht:nd.take (k+1)=nd.take k++[q]:=by rw[d9,f];rfl
  rw[f6]at u;(repeat first|refine s2 rfl λ_ v=>?_|refine aU rfl ?_|apply Aa)
  ((refine aC rfl ?_ ?_<;>rintro⟨⟩);all_goals try(exfalso;(simp only[oZ] at *;omega)))
  apply aK;refine aS (aB ?_);(repeat first|refine tA rfl ?_|(refine s4 rfl ‹_› rfl ?_ ?_;omega)|refine aU rfl ?_|apply Aa);refine rG (GI [8,10]) (by kernel_rfl) ?_;(repeat first|refine tA rfl ?_|(refine s4 rfl ‹_› rfl ?_ ?_;omega));(refine pA rfl (by first|(simp;done)|(simp;(first|omega|simp only[oZ] at *;omega))) (by simp;omega) ?_);(repeat first|(refine sA rfl ?_ ?_;first|exact tI|omega)|refine aU rfl ?_|apply Aa);refine⟨⟨k+1,by omega⟩,by dsimp only;(omega),[0,1,4,3],?_⟩;simp[cX,zC,c,eC,Bl,Ae,ht,t]
 .obtain rfl:k=nd.length:=by omega
  rw[i9];(repeat first|refine s2 rfl λ_ v=>?_|refine aU rfl ?_|apply Aa)
  ((refine aC rfl ?_ ?_<;>rintro⟨⟩);all_goals try(exfalso;(simp only[oZ] at *;omega)))
  apply aE;refine Al.Bb [2,3] [(2,.o (.ptr 0 3 0 0)),(7,.o (.ip [iD a.al,Ce rows,EP (nd.map (Fw a))]))] ⟨⟨_,rfl,.inl rfl⟩,⟨_,rfl,.inr (.o (.box rfl (.cons .d (.cons .d (.cons (.full rfl (by simp[d6]) (by simp)) .nil)))))⟩,trivial⟩ ?_;(repeat first|refine tA rfl ?_|refine aU rfl ?_|apply Aa);(subst_vars;exact aR ⟨_,rfl,rfl⟩)
theorem dn(l:List Int)(h:l.length<=1048576):Spec Tryz.prog TB 84 [] 0 [Aj l] (λx σ nx=>x=.o (.arr 0 1 0 l.length)/\nx=1/\σ=[(0,.cells 3 1 (l.map Au))]):=by
 refine eN Tryz.func84 rfl (by kernel_rfl) rfl ?_;intro Γ a;(repeat first|refine aU rfl ?_);(refine Ai rfl ?_;refine CJ (λ_ _=>CM rfl) rfl ?_);(repeat first|refine tM rfl ?_|refine aU rfl ?_|apply Aa);(refine pW rfl ?_ rfl (by rfl);refine MK rfl ?_;intro d b);(repeat first|apply Aa);(refine aC rfl ?_ ?_<;>rintro⟨⟩)
 .obtain rfl:l=[]:=by simpa using b rfl
  (repeat first|refine aU rfl ?_);(refine pW rfl ?_ rfl (by rfl);refine Fh 1 3 ?_);(repeat first|apply Aa);refine aR ⟨_,rfl,rfl,rfl,rfl⟩
 .apply aK
  (repeat first|refine aU rfl ?_);(refine pB rfl ?_);(repeat first|refine tM rfl ?_);(refine pW rfl ?_ rfl (by rfl);refine BY rfl rfl rfl (by first|(simp;done)|(simp;(omega))) rfl (by intro r c;simp only[uG,d8]at c;obtain⟨_,_,rfl⟩:=c;rfl) (by rfl) (co rfl) (by simp;omega) ?_);(repeat first|refine tM rfl ?_|apply Aa);refine Al.names [1] [(2,.o (.arr 0 1 0 l.length))] [(0,.cells 3 1 (l.map Au))] (by intro i hi;rw[a]at hi;omega) (by simp) (by simp[cX,zC,a]) (by simp[cX,zC,a]) ?_;refine aR ⟨_,rfl,rfl,rfl,rfl⟩
theorem dk(l:List Bool)(h:l.length<=1048576):Spec Tryz.prog TB 83 [] 0 [Qo l] (λx σ nx=>x=.o (.arr 0 1 0 l.length)/\nx=1/\σ=[(0,.cells 4 1 (l.map AO))]):=by
 refine eN Tryz.func83 rfl (by kernel_rfl) rfl ?_;intro Γ a;(repeat first|refine aU rfl ?_);(refine Ai rfl ?_;refine CJ (λ_ _=>CM rfl) rfl ?_);(repeat first|refine tM rfl ?_|refine aU rfl ?_|apply Aa);(refine pW rfl ?_ rfl (by rfl);refine MK rfl ?_;intro d b);(repeat first|apply Aa);(refine aC rfl ?_ ?_<;>rintro⟨⟩)
 .obtain rfl:l=[]:=by simpa using b rfl
  (repeat first|refine aU rfl ?_);(refine pW rfl ?_ rfl (by rfl);refine Fh 1 4 ?_);(repeat first|apply Aa);refine aR ⟨_,rfl,rfl,rfl,rfl⟩
 .apply aK
  (repeat first|refine aU rfl ?_);(refine pB rfl ?_);(repeat first|refine tM rfl ?_);(refine pW rfl ?_ rfl (by rfl);refine BY rfl rfl rfl (by first|(simp;done)|(simp;(omega))) rfl (by intro r c;simp only[uG,d8]at c;obtain⟨_,_,rfl⟩:=c;rfl) (by rfl) (co rfl) (by simp;omega) ?_);(repeat first|refine tM rfl ?_|apply Aa);refine Al.names [1] [(2,.o (.arr 0 1 0 l.length))] [(0,.cells 4 1 (l.map AO))] (by intro i hi;rw[a]at hi;omega) (by simp) (by simp[cX,zC,a]) (by simp[cX,zC,a]) ?_;refine aR ⟨_,rfl,rfl,rfl,rfl⟩
theorem NL(a:AI)(ha:LX 1000000 a):AE Tryz.prog TB 33 0 [] 0 [Bp a] (LY a):=by
 have x:=ha.nx;have w:=ha.ac;have q:=dk (TB:=TB) a.ac (by omega);refine AE.A6 (AE.PM (m:=0) (co rfl) Tryz.func33 rfl (by kernel_rfl) (co rfl) ?_);intro Γ b;(repeat first|refine tA rfl ?_|refine aU rfl ?_|apply Aa);refine R.SL [(6,3),(0,2),(1,2),(2,2),(3,2),(4,1),(5,1),(7,5)] mixed (by kernel_rfl) rfl (by kernel_rfl) ?_;(repeat ((refine R.Ai rfl ?_;first|(refine R.yQ (md:=false) rfl rfl rfl ?_ ?_;exact tI)|refine R.yP rfl rfl rfl rfl ?_ )));(refine R.Ai rfl ?_;refine R.Lc (λ_=>?_) rfl rfl;refine BE [] rfl rfl q ⟨rfl,by simp,by simp⟩ rfl trivial ?_;rintro t f h ⟨rfl,rfl,rfl⟩ _);(refine R.Ai rfl ?_;refine R.Lc (λ_=>?_) rfl rfl;refine Hv 1 1 63 rfl rfl rfl (by rfl) (by rfl) ?_);(repeat ((refine R.Ai rfl ?_;first|refine R.yA rfl rfl rfl rfl ?_ )));refine R.SF ?_;apply aS;(repeat first|refine sN rfl ?_|refine tA rfl ?_|refine aU rfl ?_|apply Aa);apply aB;refine Al.jR 3 ?_;refine aL (α:={s:Nat×JF // s.1<=a.nx.length/\s.2.map (·.2)=a.nx.take s.1}) [2,3,13,14] [] rfl rfl (λs=>[(15,eI .i64 s.1.1)]) (λs=>[(0,.cells 29 3 [[.d (iD 0),.d (.l []),.d (.l [])]]),(1,.cells 4 1 (a.ac.map AO)),(2,.cells 63 1 (AN s.1.2)),(3,.cells 29 3 [[.d (iD a.al),.arr 2 1 0 s.1.2.length,.arr 1 1 0 a.ac.length]]),(4,.sld 3 (sI s.1.2))]) 5 (λs=>a.nx.length-s.1.1) (⟨⟨0,[]⟩,by simp⟩) b rfl (by (simp[cX,zC,b,cN,Bl,Ae,eC]<;>rfl)) ?_;rintro⟨⟨k,l⟩,hk,e⟩;(try dsimp only[cA,cB]);have hk:k<=a.nx.length:=hk;have e:l.map (·.2)=a.nx.take k:=e
 have c:l.length=k:=by have:=congrArg List.length e;simp at this;omega
 (repeat first|refine s2 rfl λ_ y=>?_|refine aU rfl ?_|apply Aa)
 ((refine aC rfl ?_ ?_<;>rintro⟨⟩);all_goals try(exfalso;omega))
 .have n:k<a.nx.length:=by (simp only[oZ] at *;omega)
  obtain⟨r,i⟩:=get_some (l:=a.nx) (k:=k) n;have u:=get_map (g:=Ek) i;have j:=ha.row r (ce i);have p:=dn (TB:=TB) r (by omega);apply aK;refine aS (aB ?_);(repeat first|refine tA rfl ?_|(refine s4 rfl ‹_› rfl ?_ ?_;omega)|refine aU rfl ?_|apply Aa);refine rG (Nz [(1,13),(3,1008),(4,1008),(5,1),(7,1)]) (by kernel_rfl) ?_;(repeat first|refine tX rfl ?_);(refine Ai rfl ?_;refine C8 ?_ rfl ⟨rfl,rfl⟩;refine BE [] rfl rfl (p) ⟨rfl,by decide,by decide⟩ rfl (by simp[cX,zC,b,cN]) ?_;rintro t f h ⟨rfl,rfl,rfl⟩ _;refine⟨FA 3 rfl rfl,?_⟩);(refine Ai rfl ?_;refine C8 ?_ rfl ⟨rfl,rfl⟩;refine En rfl rfl rfl rfl (by simp[eC,E.A6,C.A6]) (by rfl) (by rfl) (by rfl) (by rfl) ?_;refine⟨FA 3 rfl rfl,?_⟩);(refine pW rfl ?_ rfl (by rfl);refine BY rfl rfl rfl (CO _) rfl (by intro r j;simp at j;subst j;rfl) (by rfl) (co rfl) (by simp;omega) ?_);(repeat first|refine tA rfl ?_);apply Aa;refine Al.AQ [2,3,13,14,15] [] rfl rfl [] [(0,.cells 29 3 [[.d (iD 0),.d (.l []),.d (.l [])]]),(1,.cells 4 1 (a.ac.map AO)),(2,.cells 63 1 (AN l++[[.arr 5 1 0 r.length]])),(3,.cells 29 3 [[.d (iD a.al),.arr 2 1 0 (l.length+1),.arr 1 1 0 a.ac.length]]),(4,.sld 3 (sI l)),(5,.cells 3 1 (r.map Au))] [0,1,7,3,4,5] (rl b rfl) (by (simp[cX,zC,b,cN,Bl,Ae,eC])) ?_;(try dsimp only[cA,cB]);refine Al.Vi 2 5 4 l r rfl rfl rfl λv=>?_;(repeat first|(refine sA rfl ?_ ?_;first|exact tI|omega)|refine aU rfl ?_|apply Aa);refine⟨⟨⟨k+1,l++[(v,r)]⟩,by dsimp only;omega,by dsimp only;rw[uz,e,d9,i];rfl⟩,by dsimp only;(omega),[0,1,2,3,4],?_⟩;(simp[cX,zC,b,cN]<;>rfl)
 have o:k=a.nx.length:=by (simp only[oZ] at *;omega)
 apply aE;(repeat first|refine tA rfl ?_|refine aU rfl ?_|apply Aa)
 have c:l.map (·.2)=a.nx:=by rw[e,o,i9]
 refine aR ⟨_,rfl,[2,1,4],Y8 a.al 0 1 l.length a.ac.length,[(0,.cells 63 1 (AN l)),(1,.cells 4 1 (a.ac.map AO)),(2,.sld 3 (sI l))],iB rfl,rfl,by (simp[cX,zC,b,cN]),l,c,rfl,rfl,rfl⟩
theorem Qc{a:AI}(ha:AJ a=true):LX 1000000 a:=by
 have f:=AB ha;refine⟨by omega,by omega,λr c=>?_⟩;obtain⟨i,hi,e⟩:=um c;obtain⟨row,b,h,g⟩:=Ip ha hi;rw[d5 hi,e]at b
 injection b with b
 subst b;have d:(Ab a.al).length<=6:=AA a.al 6;omega
theorem Sq{c:C}{L:W->Bool}{ok:W->Prop}(G:KU Tryz.prog TB c L ok)(al:Int)(t:AW)(U:JC ok (AR al) t)(ht:HE al 20012 t)(ho:A7 L (AR al) t=none) :
 AE Tryz.prog TB 68 0 [] 0 [JO al c,Ej t] (LY (AV L al t)):=by
 have e:=Fo c G.Cg;have hrl:=ht.rl;have hcl:=ht.cl;have hla:(Ab al).length<=6:=AA al 6;have h:=ht.nA U (by omega)
 have J:(AV L al t).nx.length=t.rows.length:=by simp[AV]
 have hal:(AV L al t).ac.length=t.rows.length:=by simp[AV]
 refine AE.A6 (AE.PM (m:=0) (co rfl) Tryz.func68 rfl (by kernel_rfl) (co rfl) ?_);intro Γ a;(repeat first|refine aU rfl ?_);(refine pB rfl ?_);(refine Ai rfl ?_;refine CJ (λ_ _=>C9 rfl rfl rfl) rfl ?_);(repeat first|refine tA rfl ?_|refine aU rfl ?_|apply Aa);(refine pW rfl ?_ rfl (by rfl);refine BE [] rfl rfl (Ib G al t h.1) ⟨rfl,by simp,by simp⟩ (by simp[Ep,E.A6,C.Ch,C.A6,e,eC]) trivial ?_;rintro x0 V X ⟨rfl,rfl,rfl⟩ _);(repeat first|refine tA rfl ?_|refine aU rfl ?_|apply Aa);(refine pW rfl ?_ rfl (by rfl);refine IB 1 1 63 2 1 4 rfl rfl (by decide) rfl rfl (by rfl) (by rfl) ?_);(repeat first|refine sN rfl ?_|refine tA rfl ?_|refine aU rfl ?_|apply Aa);apply aB;refine Al.jR 3 ?_;refine aL (α:={s:Nat×JF // s.1<=t.rows.length/\s.2.map (·.2)=(AV L al t).nx.take s.1}) [2,3,4,5,6,19,20] [0,1,2] rfl rfl (λs=>[(21,eI .i64 s.1.1)]) (λs=>[(5,.cells 29 3 [[.d (iD al),.arr 3 1 0 s.1.2.length,.arr 4 1 0 s.1.1]]),(3,.cells 63 1 (AN s.1.2)),(4,.cells 4 1 (((AV L al t).ac.take s.1.1).map AO)),(6,.sld 3 (sI s.1.2))]) 7 (λs=>t.rows.length-s.1.1) (⟨⟨0,[]⟩,by simp,by simp⟩) a rfl (by (simp[cX,zC,a,cN,e,eC,Bl,Ae]<;>rfl)) ?_;rintro⟨⟨k,l⟩,A,z⟩;(try dsimp only[cA,cB]);have A:k<=t.rows.length:=A;have z:l.map (·.2)=(AV L al t).nx.take k:=z
 have hll:l.length=k:=by have:=congrArg List.length z;simp at this;omega
 by_cases Q:k<t.rows.length
 .obtain⟨r,q⟩:=get_some (l:=t.rows) (k:=k) Q
  have Z:=get_map (g:=CU) q;have b:=ce q;(repeat first|refine s2 rfl λ_ p=>?_|refine aU rfl ?_|apply Aa)
  ((refine aC rfl ?_ ?_<;>rintro⟨⟩);all_goals try(exfalso;(simp only[oZ] at *;omega)))
  apply aK;refine aS (aB ?_);(repeat first|refine tM rfl ?_|(refine s4 rfl ‹_› rfl ?_ ?_;omega)|refine aU rfl ?_|apply Aa);(refine pW rfl ?_ rfl (by rfl);refine Fh 1 3 ?_);(repeat first|refine sN rfl ?_|refine tM rfl ?_|refine sP rfl (Cq al) rfl ?_|refine aU rfl ?_|apply Aa);apply aB;refine aL (α:={j:Nat // j<=(Ab al).length}) [2,3,4,5,6,8,19,20,21,27,28] [0,1,2,3,4,5,6] rfl rfl (λs=>[(9,.o (.arr 7 1 0 s.1)),(29,eI .i64 s.1)]) (λs=>[(7,.cells 3 1 (((Ab al).take s.1).map λl=>[.d (iD ((Dh L t (r++[lb l]):Nat):Int))]))]) 8 (λs=>(Ab al).length-s.1) (⟨0,by omega⟩) a rfl (by (simp[cX,zC,a,cN,e,eC])) ?_;rintro⟨j,F⟩;(try dsimp only[cA,cB]);have F:j<=(Ab al).length:=F;by_cases B:j<(Ab al).length
  .obtain⟨m,N⟩:=get_some B
   have hm':=get_map (g:=A9) N;have i:=ce N;have w:=Af i;have hrb:=ht.onR r b;have M:=ME (TB:=TB) G al t (r++[lb m]) (by omega) (λx q=>h.2 r b _ (d8.2 ⟨m,i,rfl⟩) x q) (λy Y=>by have:=(ht.onC y Y).2;simp;omega);have R:=Xl ho b i;(repeat first|refine s2 rfl λ_ p=>?_|refine aU rfl ?_|apply Aa)
   ((refine aC rfl ?_ ?_<;>rintro⟨⟩);all_goals try(exfalso;(simp only[oZ] at *;omega)))
   apply aK;refine aS (aB ?_);(repeat first|refine tA rfl ?_|(refine s4 rfl ‹_› rfl ?_ ?_;omega)|refine aU rfl ?_|apply Aa);refine rG (GI [13]) (by kernel_rfl) ?_;(repeat first|(refine sA rfl ?_ ?_;first|exact tI|omega|simp only[oZ] at *;omega)|refine sP rfl (Gi m w.1 (by omega)) rfl ?_|(refine Ai rfl ?_;refine gA rfl ?_;first|refine gS (λ_ _=>ZN rfl (by omega) (by omega)) ?_));rw[ic w.1];(repeat first|(refine Ai rfl ?_;refine gA rfl ?_;first|refine gS (λ_ _=>Bo rfl rfl (by simp[E.Cg,C.Db,C.Cg,G.Cg,eC]) M rfl) ?_|refine gQ (ca rfl rfl rfl) (by rfl) ?_));(repeat first|refine tA rfl ?_);(refine pA rfl (by first|(simp;done)|(simp;(first|omega|simp only[oZ] at *;omega))) (by simp;omega) ?_);(repeat first|(refine sA rfl ?_ ?_;first|exact tI|omega)|refine aU rfl ?_|apply Aa);rw[R];refine⟨⟨j+1,by omega⟩,by dsimp only;(omega),[0,1,2,3,4,5,6,8],?_⟩;simp[cX,zC,a,cN,e,d9,N]
  .obtain rfl:j=(Ab al).length:=by omega
   have H:=U r ⟨r,b,[],.inl rfl,[],.inl rfl,by simp⟩
   have I:(AV L al t).nx.take (k+1)=(AV L al t).nx.take k++[(Ab al).map λl=>((Dh L t (r++[lb l]):Nat):Int)]:=by
    rw[d9];simp[AV,q]
   have n:(AV L al t).ac.take (k+1)=(AV L al t).ac.take k++[L r]:=by
    rw[d9];simp[AV,q]
   rw[i9];generalize f:(Ab al).map (λl=>((Dh L t (r++[lb l]):Nat):Int))=row at *
   have u:(Ab al).length=row.length:=by rw[<-f];simp
   have K:(Ab al).map (λl=>[C.d (iD ((Dh L t (r++[lb l]):Nat):Int))])=row.map Au:=by rw[<-f,uG];rfl
   (repeat first|refine s2 rfl λ_ p=>?_|refine aU rfl ?_|apply Aa)
   ((refine aC rfl ?_ ?_<;>rintro⟨⟩);all_goals try(exfalso;(simp only[oZ] at *;omega)))
   apply aE;(repeat first|refine tX rfl ?_|refine aU rfl ?_);(refine pB rfl ?_);(refine pW rfl ?_ rfl (by rfl);refine BY rfl rfl rfl (CO _) rfl (by intro r e;simp at e;subst e;rfl) (by rfl) (co rfl) (by simp;omega) ?_);(repeat first|refine tX rfl ?_|apply Aa);refine Al.AQ [2,3,4,5,6,8,19,20,21] [0,1,2,4] rfl rfl [] [(3,.cells 63 1 (AN l++[[.arr 7 1 0 row.length]])),(5,.cells 29 3 [[.d (iD al),.arr 3 1 0 (l.length+1),.arr 4 1 0 k]]),(6,.sld 3 (sI l)),(7,.cells 3 1 (row.map Au))] [0,1,2,9,4,5,6,7] (rl a rfl) (by (simp[cX,zC,a,cN,e,Bl,Ae,eC,u,K])) ?_;(try dsimp only[cA,cB]);refine Al.Vi 3 7 6 l row rfl rfl rfl λv=>?_;refine rG (GI [7,9]) (by kernel_rfl) ?_;(repeat first|refine tA rfl ?_|(refine Ai rfl ?_;refine gA rfl ?_;first|refine gS (λ_ _=>G.ask rfl rfl H) ?_));(refine pA rfl (by first|(simp;done)|(simp;(first|omega|simp only[oZ] at *;omega))) (by simp;omega) ?_);(repeat first|(refine sA rfl ?_ ?_;first|exact tI|omega)|refine aU rfl ?_|apply Aa);refine⟨⟨⟨k+1,l++[(v,row)]⟩,by dsimp only;omega,by dsimp only;rw[uz,z,I];rfl⟩,by dsimp only;(omega),[0,1,2,3,8,5,6],?_⟩;simp[cX,zC,a,cN,e,eC,Bl,Ae,n]
 .have S:k=t.rows.length:=by omega
  (repeat first|refine s2 rfl λ_ p=>?_|refine aU rfl ?_|apply Aa)
  ((refine aC rfl ?_ ?_<;>rintro⟨⟩);all_goals try(exfalso;(simp only[oZ] at *;omega)))
  apply aE;(repeat first|refine tA rfl ?_|refine aU rfl ?_|apply Aa)
  have P:l.map (·.2)=(AV L al t).nx:=by rw[z,S,<-J,i9]
  have T:l.length=t.rows.length:=by omega
  have n:(AV L al t).ac.take k=(AV L al t).ac:=i8 (by rw[hal];omega);rw[n]
  obtain rfl:k=(AV L al t).ac.length:=by omega
  refine aR ⟨_,rfl,[3,4,6],Y8 al 0 1 l.length (AV L al t).ac.length,[(0,.cells 63 1 (AN l)),(1,.cells 4 1 ((AV L al t).ac.map AO)),(2,.sld 3 (sI l))],iB rfl,rfl,by (simp[cX,zC,a,cN]),l,P,rfl,rfl,rfl⟩
section
variable {tabs:List (Nat×Obj)}[hTb:Dy ⟨tabs,none⟩]{te:EO}
include hTb
end
theorem nv(a:AI):Pure Tryz.prog TB 30 [Bp a,Bp a] (eB true):=by
 have ag:=Sn (TB:=TB) a a;rw[decide_eq_true (⟨rfl,rfl,rfl⟩:a.al=a.al/\a.nx=a.nx/\a.ac=a.ac)]at ag;exact ag
end Go.Am
namespace Go.Am
def Fc(n:Nat):W:=if n<10 then [UInt8.ofNat (48+n)] else [UInt8.ofNat (48+n / 10),UInt8.ofNat (48+n%10)]
def EW(l:List Int):W:=l.flatMap λx=>44::Fc x.toNat
def Zg:List Int->W
 | []=>[]
 | c::l=>Fc c.toNat++EW l
theorem WD:((List.range 100).all λn=>(List.range 100).all λm=>decide (Fc n=Fc m->n=m) && !(Fc n).contains 44)=true:=by decide +kernel
theorem WC{n m:Nat}(b:n<100)(c:m<100)(h:Fc n=Fc m):n=m:=by
 have a:=ge.1 (ge.1 WD n (mt.2 b)) m (mt.2 c);rw[d4]at a;exact of_decide_eq_true a.1 h
theorem Px{n:Nat}(a:n<100):(44:UInt8)∉Fc n:=λh=>by
 have c:=ge.1 (ge.1 WD n (mt.2 a)) n (mt.2 a);rw[d4]at c;have b:=c.2;simp at b;exact b h
theorem Y0{c:UInt8}:∀ {u v x y:W},c∉u->c∉v->(x=[]\/∃z,x=c::z)->(y=[]\/∃z,y=c::z)->u++x=v++y->u=v/\x=y
 | [],[],x,y,_,_,_,_,h=>⟨rfl,h⟩
 | [],d::v,x,y,_,f,b,_,h=>by
  exfalso;have h:x=d::(v++y):=h
  rcases b with rfl|⟨z,rfl⟩
  .cases h
  .injection h with h _
   exact f (by rw[h];simp)
 | d :: u,[],x,y,g,_,_,a,h=>by
  exfalso;have h:d::(u++x)=y:=h
  rcases a with rfl|⟨z,rfl⟩
  .cases h
  .injection h with h _
   exact g (by rw[h];simp)
 | d::u,e::v,x,y,g,f,b,a,h=>by
  have h:d::(u++x)=e::(v++y):=h
  injection h with m l
  obtain⟨k,j⟩:=Y0 (λi=>g (by simp[i])) (λi=>f (by simp[i])) b a l;exact⟨by rw[m,k],j⟩
theorem KN(l:List Int):EW l=[]\/∃z,EW l=44::z:=by
 cases l with
 | nil=>exact .inl rfl
 | cons x l=>exact .inr ⟨_,rfl⟩
theorem TW:∀ {l m:List Int},(∀x∈l,0<=x/\x<100)->(∀x∈m,0<=x/\x<100)->EW l=EW m->l=m
 | [],[],_,_,_=>rfl
 | [],_::_,_,_,h=>by cases h
 | _::_,[],_,_,h=>by cases h
 | x::l,y::m,c,b,h=>by
  have h:44::(Fc x.toNat++EW l)=44::(Fc y.toNat++EW m):=h
  injection h with _ h
  have g:=c x (by simp);have f:=b y (by simp);obtain⟨e,d⟩:=Y0 (Px (by omega)) (Px (by omega)) (KN l) (KN m) h;have:=WC (by omega) (by omega) e;rw[show x=y by omega,TW (λz a=>c z (by simp[a])) (λz a=>b z (by simp[a])) d]
theorem g9{k k':List Int}(hk:∀x∈k,0<=x/\x<100)(a:∀x∈k',0<=x/\x<100)(f:k≠[])(e:k'≠[])(h:Zg k=Zg k'):k=k':=by
 cases k with
 | nil=>exact absurd rfl f
 | cons x l=>
  cases k' with
  | nil=>exact absurd rfl e
  | cons y m=>
   have i:=hk x (by simp);have g:=a y (by simp);obtain⟨d,c⟩:=Y0 (Px (by omega)) (Px (by omega)) (KN l) (KN m) h;have:=WC (by omega) (by omega) d;rw[show x=y by omega,TW (λz b=>hk z (by simp[b])) (λz b=>a z (by simp[b])) c]
section
variable {α β:Type}[DecidableEq α][DecidableEq β]
theorem RZ{f:α->β}:∀(l u:List α),(∀x y,x∈u++l->y∈u++l->f x=f y->x=y)->uniq (u.map f) (l.map f)=(uniq u l).map f
 | [],u,_=>rfl
 | x :: l,u,h=>by
  have d:f x∈u.map f↔x∈u:=by
   constructor
   .intro a
    obtain⟨y,b,e⟩:=d8.1 a;rwa[<-h y x (by simp[b]) (by simp) e]
   .intro a;exact d8.2 ⟨x,a,rfl⟩
  show uniq (if f x∈u.map f then u.map f else u.map f++[f x]) (l.map f)=(uniq (if x∈u then u else u++[x]) l).map f
  by_cases a:x∈u
  .rw [if_pos (d.2 a),if_pos a]
   exact RZ l u λy z b c=>h y z (by
    rcases f7.1 b with h|h<;>simp[h]) (by
    rcases f7.1 c with h|h<;>simp[h])
  .rw[if_neg (λe=>a (d.1 e)),if_neg a]
   have e:u.map f++[f x]=(u++[x]).map f:=by simp
   rw[e];exact RZ l (u++[x]) λy z b c=>h y z (by simpa[or_assoc]using b) (by simpa[or_assoc]using c)
theorem kk{f:α->β}{l:List α}(h:∀x y,x∈l->y∈l->f x=f y->x=y):uq (l.map f)=(uq l).map f:=by
 have:=RZ l [] (f:=f) (by simpa using h);exact this
theorem iK{f:α->β}{l:List α}(h:∀x y,x∈l->y∈l->f x=f y->x=y){x:α}(a:x∈l):Eg (l.map f) (f x)=Eg l x:=by
 have c:=QR a
 have b:(uq (l.map f))[(Eg l x).toNat]?=some (f x):=by rw[kk h,f9,c];rfl
 have:=bP b;have d:=PJ a;omega
theorem iN{f:α->β}{l:List α}(h:∀x y,x∈l->y∈l->f x=f y->x=y):Fx (l.map f)=Fx l:=by
 unfold Fx;rw[uG];exact uA λx a=>iK h a
end
section
variable {α:Type}[DecidableEq α]
def fg(f:α->Int->Option α):Option α->Int->Option α
 | none,_=>none
 | some q,l=>f q l
def Uw(f:α->Int->Option α):Option α->W->Option α
 | o,[]=>o
 | o,c::w=>Uw f (fg f o ((c.toNat:Int)-97)) w
end
theorem nW{al:Int}{nx:List (List Int)}{ac:List Bool}{i:Nat}{l:Int}{g:Int->Int}(b:nx[i]?=some ((Ab al).map g))(a:l∈Ab al):Bn ⟨al,nx,ac⟩ i l=g l:=by
 have hb:=Af a;unfold Bn;rw[if_pos hb.2.2]
 show (nx.getD i []).getD _ 0=_
 rw[kw,kw,b,vj,f9,N9 a,uJ,vj]
theorem lI{β:Type}[DecidableEq β]{g:β->Int->β}{al:Int}{s:β}{nd:List β}{rows:List (List Int)}(h:P6 g (Ab al) s nd rows){ac:List Bool}{i:Nat}{q:β}{l:Int}(hi:nd[i]?=some q)(a:l∈Ab al):∃k:Nat,Bn ⟨al,rows,ac⟩ i l=k/\nd[k]?=some (g q l):=by
 have b:=h.cl q (ce hi) l a;exact⟨_,nW (h.row i q hi) a,by rw[d5 (uH.2 b),vV]⟩
theorem oK{β:Type}[DecidableEq β]{g:β->Int->β}{al:Int}{s:β}{nd:List β}{rows:List (List Int)}(h:P6 g (Ab al) s nd rows)(f:nd.length<=64){ac:List Bool}:KV ⟨al,rows,ac⟩:=by
 have e:=h.len;refine⟨by show rows.length<=64;omega,λq c=>?_⟩;have c:q<rows.length:=c;obtain⟨x,b⟩:=get_some (l:=nd) (k:=q) (by omega);refine⟨_,h.row q x b,by simp,λk y a=>?_⟩;rw[f9]at a
 cases hk:(Ab al)[k]? with
 | none=>rw[hk]at a;cases a
 | some l=>
  rw[hk]at a
  injection a with a
  have a:((nd.idxOf (g x l):Nat):Int)=y:=a;have d:=h.cl x (ce b) l (ce hk);have:=uH.2 d
  show 0<=y/\y<((rows.length:Nat):Int)
  omega
section
variable {α:Type}[DecidableEq α]{f:α->Int->Option α}{al:Int}
def kq(al:Int)(nd:List (Option α))(rows:List (List Int)):AI:=⟨al,rows,nd.map Option.isSome⟩
theorem da{o:Option α}{nd:List (Option α)}{rows:List (List Int)}(h:P6 (fg f) (Ab al) o nd rows):∀(w:W) {i:Nat} {q:Option α},Ax (AR al) w->nd[i]?=some q->∃j:Nat,Bk (kq al nd rows) i w=j/\nd[j]?=some (Uw f q w)
 | [],i,q,_,hi=>⟨i,rfl,hi⟩
 | c :: w,i,q,b,hi=>by
  obtain⟨l,d,rfl⟩:=d8.1 (b c (by simp));have hb:=Af d;have e:((lb l).toNat:Int)-97=l:=FU hb.1 (by omega);obtain⟨k,a,p⟩:=lI h (ac:=nd.map Option.isSome) hi d;have a:Bn (kq al nd rows) i l=k:=a;obtain⟨j,n,m⟩:=da h w (λx g=>b x (by simp[g])) p;refine⟨j,?_,?_⟩
  .show Bk _ (Bn _ ((i:Int).toNat) (((lb l).toNat:Int)-97)) w=_
   rw[e,f6,a];exact n
  .show nd[j]?=some (Uw f (fg f q (((lb l).toNat:Int)-97)) w)
   rw[e];exact m
theorem pk{o:Option α}{nd:List (Option α)}{rows:List (List Int)}(h:P6 (fg f) (Ab al) o nd rows){w:W}(b:Ax (AR al) w):LA (kq al nd rows) w=(Uw f o w).isSome:=by
 obtain⟨j,a,c⟩:=da h w b h.st;have d:((0:Nat):Int)=0:=rfl;rw[d]at a;unfold LA;rw[a,f6]
 show (nd.map Option.isSome).getD j false=_
 rw[kw,f9,c];rfl
theorem rH{o:Option α}{nd:List (Option α)}{rows:List (List Int)}(h:P6 (fg f) (Ab al) o nd rows)(b:nd.length<=64):HW (kq al nd rows):=by
 have c:=h.len;have a:=(am.1 h.st).1;exact⟨oK h b,by show 1<=rows.length;omega,by show (nd.map Option.isSome).length=rows.length;rw[io];omega⟩
end
theorem iV{ls:List UInt8}{u v:W}(d:Ax ls u)(b:Ax ls v):Ax ls (u++v):=λc a=>by
 rcases f7.1 a with a|a
 .exact d c a
 .exact b c a
section
variable {p:AI}(hp:AJ p=true)
include hp
end
theorem lA{a:AI}(h:HW a):(JY (JY a)).nx.length=(JY a).nx.length:=by
 have b:=ir h
 have c:∀i:Nat,i<(JY a).nx.length->∃w,Ax (AR (JY a).al) w/\Bk (JY a) 0 w=i:=λi hi=>by
  obtain⟨w,e,d⟩:=b.rc i hi;exact⟨w,by rw[b.al];exact e,d⟩
 have:=canon b.g b.g rfl (λ_ _=>rfl) c b.ds;rw[<-this];exact pf b.g c
noncomputable instance tc:DecidableEq PS:=λa b=>Classical.propDecidable (a=b)
noncomputable def er(t:BX)(F:PS)(l:Int):Option PS:=if E9 t (Dc t l F)=true then none else some (Dc t l F)
noncomputable def ml(t:BX):Option PS:=if E9 t (BF t)=true then none else some (BF t)
theorem NQ{α:Type}{f:α->Int->Option α}:∀w,Uw f none w=none
 | []=>rfl
 | c::w=>NQ (f:=f) w
theorem WG{t:BX}:∀(w:W) {F:PS},E9 t F=false->(Uw (er t) (some F) w).isSome=FF t F w
 | [],F,h=>by simp[Uw,FF,h]
 | c :: w,F,h=>by
  simp only[Uw,FF,h,uX,uj,fg,er];split
  .rename_i hb
   rw[NQ];cases w<;>simp[FF,hb]
  .rename_i hb
   exact WG w (xD.2 hb)
theorem nP{t:BX}(w:W):(Uw (er t) (ml t) w).isSome=LS t w:=by
 unfold ml LS;split
 .rename_i hb
  rw[NQ];cases w<;>simp[FF,hb]
 .rename_i hb
  exact WG w (xD.2 hb)
def kT(m:AI):Option AI:=if 12<m.nx.length then none else some m
noncomputable def O8(t:BX):Option AI:=match Lb 41 (fg (er t)) (Ab t.al) (ml t) with
 | none=>none
 | some p=>if 40<p.1.length/\none∉p.1 then none else kT (JY (kq t.al p.1 p.2))
theorem Se{t:BX}{nd:List (Option PS)}{rows:List (List Int)}(h:Lb 41 (fg (er t)) (Ab t.al) (ml t)=some (nd,rows)):HW (kq t.al nd rows)/\∀w,Ax (AR t.al) w->LA (kq t.al nd rows) w=LS t w:=by
 obtain⟨a,c,_⟩:=PL (by omega) h;exact⟨rH a (by omega),λw b=>by rw[pk a b,nP]⟩
theorem mI{t:BX}(hal:A2 t.al=true){m:AI}(h:O8 t=some m):AJ m=true/\m.al=t.al/\(∀w,Ax (AR t.al) w->LA m w=LS t w)/\(JY m).nx.length=m.nx.length:=by
 unfold O8 at h
 cases d:Lb 41 (fg (er t)) (Ab t.al) (ml t) with
 | none=>rw[d]at h;cases h
 | some p=>
  obtain⟨nd,rows⟩:=p;rw[d]at h;simp only at h;split at h
  .cases h
  .unfold kT at h
   split at h
   .cases h
   .rename_i i
    injection h with h
    subst h;obtain⟨g,f⟩:=Se d;have c:=ir g;have e:(JY (kq t.al nd rows)).al=t.al:=c.al;exact⟨kK c.g.b c.g.n1 (by omega) (by rw[e];exact hal) c.g.ac,e,λw a=>by rw[c.lang w a,f w a],lA g⟩
end Go.Am
namespace Go.Am
open Go Go.Proofs
set_option maxHeartbeats 1000000
set_option maxRecDepth 4000
attribute [local irreducible] A5 CQ Lex BC Al Spec
theorem TY{s:Sys}{a p:AI}{w:List Int}(h:DS s a p=some w):w.length<=2304:=by
 obtain⟨b,_⟩:=LV h;unfold DS at h;rw[if_pos b]at h;obtain⟨c,hk,d⟩:=PH b;have hi:=DJ (Ev (Ef s a p));rw[h]at hi;have e:=hi.short (Qv c d);have f:(Ev (Ef s a p)).N=(s.st*((a.nx.length:Int)*((p.nx.length:Int)*1))).toNat:=rfl;unfold C1 at b;simp only[d4]at b;have l:=AL b.1.1;have k:=AB b.1.2;have j:=AB b.2;have i:(a.nx.length:Int)*((p.nx.length:Int)*1)<=12*12:=uF (by omega) (by omega) (by omega) (by omega)
 have g:s.st*((a.nx.length:Int)*((p.nx.length:Int)*1))<=16*144:=uF (by omega) (by omega) (by
  have:0<=(a.nx.length:Int)*((p.nx.length:Int)*1):=uK (by omega) (by omega)
  exact this) (by omega)
 omega
theorem TX{t:Sys}{a:AI}{w:List Int}(h:BU [t] a=some w):w.length<=192:=by
 obtain⟨d,c,_⟩:=HI h
 have b:(AZ [t] && AJ a)=true:=by rw[IF,d,c];rfl
 unfold BU at h;rw[if_pos b]at h;obtain⟨e,hk,f⟩:=PG b;have hi:=DJ (Ev (C0 [t] a));rw[h]at hi;have g:=hi.short (Qv e f);have i:(Ev (C0 [t] a)).N=(t.st*((a.nx.length:Int)*1)).toNat:=rfl;have l:=AL d;have k:=AB c;have j:t.st*((a.nx.length:Int)*1)<=16*12:=uF (by omega) (by omega) (by omega) (by omega);omega
theorem YB(al:Int)(u:List Int):(Dt (BS al u)).length<=u.length:=by
 unfold Dt BS;rw[io];exact vD _ _
theorem Na{s t:Sys}{p a:AI}{al:Int}{w:W}{b:Bool}(h:GC s t p al a=some (w,b)):w.length<=4000:=by
 unfold GC at h;split at h
 .rename_i u d
  injection h with h;injection h with h e
  have:=TY d;have:=YB al u;rw[<-h];omega
 .split at h
  .rename_i v c
   injection h with h;injection h with h e
   have:=TX c;have:=YB al v;rw[<-h];omega
  .cases h
section
variable {s t:Sys}{p:AI}{al:Int}(hI:E5 s p t al)
include hI
theorem ae:CP (Dm s p al)=true:=by unfold CP;rw[if_neg uZ];exact GU hI
theorem jZ{n:Nat}(f:Fin (LS ⟨s,p,al⟩) (AR al) n)(A:n<=12){x:AW}{r:Nat}(a:Hi s p al x r){w:W}(i:Ax (AR al) w)(B:w.length<=4000)(F:LA (BN s p al x) w≠LS ⟨s,p,al⟩ w):Lj (Dm s p al) x w≠none:=by
 have q:=ae hI;obtain⟨_,_,_,g⟩:=IZ hI a
 have G:(CP (Dm s p al) && Bt (Cj (Dm s p al)) (A1 (Dm s p al)) x)=true:=by
  rw[NJ a.v,Js,DO,a.o];rfl
 have e:FQ (A1 (Dm s p al)) w=true:=by rw[DO];exact PD (OL hI) i B
 have d:Lm (LS ⟨s,p,al⟩) x w≠LS ⟨s,p,al⟩ w:=by rw[<-Pr g i];exact F
 have b:=fe G e;rw[Js,decide_eq_true d]at b;obtain⟨v,j⟩:=Option.isSome_iff_exists.1 b;have z:=RN a;obtain⟨u,k⟩:=ff j (by have:=a.cols;omega);obtain⟨_,_,_,_,c,_⟩:=Ug k;obtain⟨l,H,h,t,_⟩:=C3 c;have hk:=HD h;rw[Js,DO]at hk;obtain⟨y,m,_⟩:=Ti f A 13 u hk (by omega);rw[RK,j]
 show ((KZ (Dm s p al) x v).bind λu=>FN (Dm s p al) u)≠none
 rw[k]
 show FN (Dm s p al) u≠none
 unfold FN;rw[l,h,xd,if_pos rfl,Js,DO,m];simp
theorem mH{n:Nat}(f:Fin (LS ⟨s,p,al⟩) (AR al) n)(k:n<=12):(BL s t p).code≠2/\(BL s t p).rd<=n/\(BL s t p).a.nx.length<=n:=by
 obtain⟨x,c,j,l⟩:=KR hI;obtain⟨_,_,h,d⟩:=IZ hI c;have g:=d.toTOk.pE f;have u:=c.rows
 rcases l with ⟨e,_⟩|⟨e,w,b,i,o,m⟩|⟨e,_⟩
 .rw[e];exact⟨show (0:Int)≠2 by decide,show ((BT s t p al).length:Int)<=n by omega,by show (BN s p al x).nx.length<=n;omega⟩
 .obtain⟨r,q⟩:=eL hI c i o
  exact absurd m (jZ hI f k c r (Na i) q)
 .rw[e];exact⟨show (1:Int)≠2 by decide,show ((BT s t p al).length:Int)<=n by omega,by show 0<=n;omega⟩
end
theorem Hr{s t:Sys}{p:AI}(h:¬Bj s p t<0):E5 s p t (Bj s p t):=by
 have a:(AP s && AJ p && AP t)=true:=by
  unfold Bj at h;split at h
  .assumption
  .omega
 simp only[d4]at a;exact⟨a.1.1,a.1.2,a.2,rfl⟩
theorem fv{s t:Sys}{p:AI}(h:¬Bj s p t<0):((BL s t p).code=0/\ED [s,t] p=true/\(BL s t p).tr=[])\/((BL s t p).code=2/\(BL s t p).tr=[])\/((BL s t p).code=1/\ED [s,t] p=false/\(BL s t p).tr=Pe (BU [s,t] p)):=by
 obtain⟨x,c,_,b⟩:=KR (Hr h)
 rcases b with ⟨e,a⟩|⟨e,_⟩|⟨e,hk,_⟩
 .rw[e];exact .inl ⟨rfl,(WH a).1,rfl⟩
 .rw[e];exact .inr (.inl ⟨rfl,rfl⟩)
 .rw[e];exact .inr (.inr ⟨rfl,hk,rfl⟩)
theorem VF{s t:Sys}{p:AI}(h:Bj s p t<0):BL s t p=⟨3,JB,[],0⟩:=by unfold BL;rw[if_pos h]
abbrev ud:Sys:=⟨0,1,[]⟩
section
variable {t:Sys}{p:AI}{al:Int}(hI:E5 ud p t al)
include hI
end
def Jz(al:Int)(w:W):W:=w.filter (Jc al)
theorem gV{al l:Int}(h:0<=l/\l<6):Jc al (UInt8.ofNat (97+l.toNat))=AS al l.toNat:=by
 have a:(UInt8.ofNat (97+l.toNat)).toNat=97+l.toNat:=by simp;omega
 have c:=WX al (UInt8.ofNat (97+l.toNat))
 have b:GR (UInt8.ofNat (97+l.toNat))=true:=by rw[Gq,a,decide_eq_true_eq];omega
 rw[<-c,if_pos b,a];unfold hasB;rw[show ((97+l.toNat:Nat):Int)-97=l by omega,decide_eq_true h.1];rfl
theorem Rw{al:Int}:∀ {u:List Int},H0 u->Jz al (Dt u)=Dt (BS al u)
 | [],_=>rfl
 | l::u,b=>by
  have a:=Rw (al:=al) (u:=u) (λx c=>b x (by simp[c]));have d:=gV (al:=al) (b l (by simp));unfold Jz Dt BS at *;rw[uS,wI,wI,d];cases AS al l.toNat
  .simpa using a
  .simpa using a
theorem XP(al:Int)(w:W):(Jz al w).length<=w.length:=vD _ _
theorem TR{al:Int}{w:W}{k:Nat}{c:UInt8}(a:w[k]?=some c):Jz al (w.take (k+1))=if Jc al c then Jz al (w.take k)++[c] else Jz al (w.take k):=by
 unfold Jz;rw[d9,a,Option.toList_some,vh];cases h:Jc al c<;>simp[h]
theorem fx{s:Sys}{a p:AI}{u:List Int}(h:DS s a p=some u):H0 u/\(Dt u).length<=2304:=by
 obtain⟨_,b,_⟩:=LV h;exact⟨Hw b,by unfold Dt;rw[io];exact TY h⟩
theorem fw{t:Sys}{a:AI}{u:List Int}(h:BU [t] a=some u):H0 u/\(Dt u).length<=192:=by
 obtain⟨_,_,b,_⟩:=HI h;exact⟨Hw b,by unfold Dt;rw[io];exact TX h⟩
theorem Sg{u:List Int}(d:H0 u)(a:(Dt u).length<=50000):EN (Dt u)=true:=by
 unfold EN;rw[decide_eq_true a,uj,ge];intro c b;unfold Dt at b;obtain⟨l,a,rfl⟩:=d8.1 b;have:=d l a;rw[Gq,decide_eq_true_eq]
 have e:(UInt8.ofNat (97+l.toNat)).toNat=97+l.toNat:=by simp;omega
 rw[e];omega
def qq(P:Program)(t it:TypeId):Bool:=match (P.fieldsOf t).toList with
 | [c,b,a]=>decide (c.name≠ "_") && c.type == it && c.offset == 0 && (decide (b.name≠ "_") && b.type == it && b.offset == 1) && (decide (a.name≠ "_") && a.type == it && a.offset == 2)
 | _=>false
theorem Ux {P:Program} {it:TypeId} (c:P.underlying it=some (.int .i64)) {xs ys:Array Value} {a b:Int} {fl:Field} {fs:List Field} {o:Nat} (h:(decide (fl.name≠ "_") && fl.type == it && fl.offset == o)=true) (i:xs[o]?=some (.int .i64 a)) (g:ys[o]?=some (.int .i64 b)) (w:World) :
 (Op.eqFields 9999 xs ys (fl::fs)).run P w=if a=b then (Op.eqFields 9999 xs ys fs).run P w else .ok false w:=by
 simp only[d4,decide_eq_true_eq,beq_iff_eq]at h;obtain⟨⟨l,k⟩,j⟩:=h
 have f:(part it xs o).run P w=.ok (.int .i64 a) w:=by simp[part,isAgg,run_underlying c,i]
 have e:(part it ys o).run P w=.ok (.int .i64 b) w:=by simp[part,isAgg,run_underlying c,g]
 have d:(Op.equalIn 9999 it (.int .i64 a) (.int .i64 b)).run P w=.ok (a == b) w:=run_equalIn_int w 9998 it .i64 .i64 a b c;rw[Op.eqFields,if_pos l,k,j];simp only[pp,f,e,d,lw];by_cases h:a=b
 .simp[h]
 .simp[h]
section
variable {TB:BB}{Γ:Ctx}{d:Option Tmp}{ty:TypeId}{pos:String}{af:Array Edge}{g:Option (Nat×Bool)}{f:Env}{σ:Ac}{nx:Nat}
theorem kR:qq Tryz.prog 78 3=true:=by kernel_rfl
theorem jL(a b:Fu)(w:World):(Op.equalIn 10000 78 (.agg #[.int .i64 a.f,.int .i64 a.l,.int .i64 a.t]) (.agg #[.int .i64 b.f,.int .i64 b.l,.int .i64 b.t])).run Tryz.prog w=.ok (decide (a.f=b.f/\a.l=b.l/\a.t=b.t)) w:=by
 have d:Tryz.prog.underlying 3=some (.int .i64):=by kernel_rfl
 have c:=kR;rw[show (10000:Nat)=9999+1 from rfl,run_equalIn_struct w 9999 78 _ _ (by kernel_rfl) (by kernel_rfl)];unfold qq at c;split at c
 .rename_i x v u i
  rw[i];simp only[d4 (b:=(_ && _)),d4]at c;obtain⟨⟨⟨⟨s,r⟩,q⟩,⟨p,o⟩,n⟩,⟨m,k⟩,j⟩:=c;rw[Ux d (by rw[s,r,q];rfl) rfl rfl,Ux d (by rw[p,o,n];rfl) rfl rfl,Ux d (by rw[m,k,j];rfl) rfl rfl,Op.eqFields];by_cases h:a.f=b.f<;>by_cases g:a.l=b.l<;>by_cases e:a.t=b.t<;>simp[h,g,e]
 .cases c
theorem mV{V:View}{a b c:Int}{vs:Array Value}(h:Df V [.d (iD a),.d (iD b),.d (iD c)] vs):vs = #[.int .i64 a,.int .i64 b,.int .i64 c]:=by
 obtain⟨k,g⟩:=h;have j:vs.size=3:=k;apply Array.ext
 .simpa using j
 .intro i hi f
  have e:vs[i]?=some vs[i]:=pm hi
  match i,f with
  | 0,_=>exact AD.val (g 0 _ _ rfl e)
  | 1,_=>exact AD.val (g 1 _ _ rfl e)
  | 2,_=>exact AD.val (g 2 _ _ rfl e)
def nQ(a b:Fu):Bool:=decide (a.f=b.f/\a.l=b.l/\a.t=b.t)
theorem ZL{x y:Operand}{yt:TypeId}{a b:Fu}(j:ev f x=some (Y7 a))(i:ev f y=some (Y7 b)):A5 Tryz.prog TB Γ ⟨d,.binOp .eql 78 x y yt,ty,pos,af,g⟩ f σ nx (eB (nQ a b)):=
 AK λV ρ h _=>by
  obtain⟨xs,l,e⟩:=h.get (by simp[Op.operands]) j;obtain⟨ys,k,c⟩:=h.get (by simp[Op.operands]) i;have p:=mV e;have o:=mV c;refine⟨.bool (nQ a b),?_,.d (.v rfl)⟩;have n:execOp ρ ⟨d,.binOp .eql 78 x y yt,ty,pos,af,g⟩=(do let v <-(do eqGuard .eql 78 x y (ρ x) (ρ y);binOp .eql 78 (ρ x) (ρ y));pure (.value v)):=rfl
  have m:Tryz.prog.eqGuardType Tryz.prog.depth 78=false:=by kernel_rfl
  rw[n,l,k,p,o];simp only[pp,run_eqGuard_agg V.w .eql 78 x y _ _ m,run_eql_struct,jL,lw,Sem.run_pure];rfl
end
abbrev fF:W->Prop:=λ_=>True
def IH(m:CW)(i:Int):Option PS:=if i<0 then none else m.F[i.toNat]?
def Si(t:BX)(m:CW)(i:Int):Prop:=i = -1\/∃(j:Nat) (F:PS),i=j/\m.F[j]?=some F/\E9 t F=false
theorem GV(m:CW):IH m (-1)=none:=by unfold IH;rw[if_pos (by decide)]
theorem Gk(m:CW)(j:Nat):IH m j=m.F[j]?:=by unfold IH;rw[if_neg (by omega),f6]
theorem P5.refl(m:CW):P5 m m:=λ_ _ h=>h
theorem P5.trans{a b c:CW}(h:P5 a b)(k:P5 b c):P5 a c:=λi F e=>k i F (h i F e)
theorem UX{t:BX}{m m':CW}{i:Int}(h:P5 m m')(b:Si t m i):Si t m' i/\IH m' i=IH m i:=by
 rcases b with rfl|⟨j,F,rfl,a,hb⟩
 .exact⟨.inl rfl,by rw[GV,GV]⟩
 .exact⟨.inr ⟨j,F,rfl,h j F a,hb⟩,by rw[Gk,Gk,a,h j F a]⟩
theorem lR{t:BX}{m m':CW}{nd:List Int}(h:P5 m m')(b:∀q∈nd,Si t m q):nd.map (IH m')=nd.map (IH m):=uA λq a=>(UX h (b q a)).2
theorem lQ{t:BX}{m:CW}(e:m.F.Nodup)(a b:Int)(ha:Si t m a)(hb:Si t m b)(h:IH m a=IH m b):a=b:=by
 rcases ha with rfl|⟨j,F,rfl,d,_⟩
 .rcases hb with rfl|⟨k,G,rfl,c,_⟩
  .rfl
  .rw[GV,Gk,c]at h;cases h
 .rcases hb with rfl|⟨k,G,rfl,c,_⟩
  .rw[GV,Gk,d]at h;cases h
  .rw[Gk,Gk]at h
   rw[(wC (am.1 d).1 e).1 h]
theorem lS{t:BX}{m m':CW}{f:Option PS->Int->Option PS}{Q:Option PS}{nd row ls:List Int}{y l:Int}(j:m'.F.Nodup)(b:P5 m m')(c:∀q∈nd,Si t m q)(e:Si t m' y)(i:IH m' y=f Q l) :
 EI 41 f Q (nd.map (IH m)) row (l::ls)=if y∈nd then EI 41 f Q (nd.map (IH m')) (row++[((nd.idxOf y:Nat):Int)]) ls else if nd.length=41 then none else EI 41 f Q ((nd++[y]).map (IH m')) (row++[(nd.length:Int)]) ls:=by
 obtain⟨d,k⟩:=UC (R:=Si t m') (φ:=IH m') (lQ j) (nd:=nd) (x:=y) (λq g=>(UX b (c q g)).1) e;rw[<-lR b c];simp only[EI];rw[<-i,k,io,uz];by_cases a:y∈nd
 .rw[if_pos a,if_pos (d.2 a)]
 .rw[if_neg a,if_neg λh=>a (d.1 h)]
  rfl
theorem l7{t:BX}{F:PS}(h:Reach t F):pz t fF F:=by
 suffices ∃u,F=GO t (BF t) u by
  obtain⟨u,a⟩:=this;exact .inr ⟨u,[],trivial,a⟩
 induction h with
 | start=>exact⟨[],rfl⟩
 | @next F l e d _ b=>
  obtain⟨u,a⟩:=b;refine⟨u++[UInt8.ofNat (97+l.toNat)],?_⟩;rw[Nb,<-a];simp only[GO]
  have c:(UInt8.ofNat (97+l.toNat)).toNat=97+l.toNat:=by simp;omega
  rw[c,show ((97+l.toNat:Nat):Int)-97=l by omega]
end Go.Am
namespace Go.Am
open Go Go.Proofs
set_option maxHeartbeats 1000000
set_option maxRecDepth 4000
attribute [local irreducible] A5 CQ Lex BC Al Spec
variable {TB:BB}
theorem qm{C X:Int->Bool->Fu->Prop}{Y:Prop}(h:∀q m l,C q m l->X q m l)(hk:(∀q m l,C q m l->X q m l)->Y):Y:=hk h
theorem OP(b:List UInt8)(hb:b.length<=2000)(p:Int)(h0:0<=p/\p<800000000)(y:Sys)(hy:y.es.length<=100000):Spec Tryz.prog TB 86 [(0,Cr b p)] 1 [.o (.ptr 0 2 0 0),BD y] (Mg b p 5 (λs=>s.es.length<=y.es.length+1)):=by
 obtain⟨g,g0,g1,P⟩:=Bi (TB:=TB) b hb p (y.es.length+2) (by omega);obtain⟨f,f0,f1,Q⟩:=Bi (TB:=TB) b hb (p+1) y.st (by omega);obtain⟨t,Y,X,ht⟩:=Bi (TB:=TB) b hb (p+1+1) y.st (by omega);obtain⟨c,c0,c1,V⟩:=Bi (TB:=TB) b hb (p+1+1+1) 2 (by omega);have B:=Cp (TB:=TB) y.al;have N:(Ab y.al).length<=6:=AA y.al 6;generalize Ab y.al=ls at *;refine eR Tryz.func86 rfl (by kernel_rfl) rfl ?_;intro Γ a;(repeat first|refine tA rfl ?_|refine aU rfl ?_|apply Aa);(refine pW rfl ?_ rfl (by rfl);refine Hv 2 3 78 rfl rfl rfl (by rfl) (by rfl) ?_);(repeat first|refine sN rfl ?_|(refine sA rfl ?_ ?_;first|exact tI|omega)|refine aU rfl ?_|apply Aa);(refine pC [0] rfl (P) rfl rfl (by simp[cX,zC,a,cN]) ?_;rintro H r u ⟨rfl,rfl,rfl⟩ _);(repeat first|refine tA rfl ?_|refine aU rfl ?_|apply Aa);refine R.SL [(0,2),(1,2),(2,2),(4,2),(5,2),(6,2),(9,3),(3,1),(7,1),(8,0),(10,5)] mixed (by kernel_rfl) rfl (by kernel_rfl) ?_;(repeat ((refine R.Ai rfl ?_;first|(refine R.yQ (md:=false) rfl rfl rfl ?_ ?_;exact tI)|refine R.yP rfl rfl rfl rfl ?_ )));(refine R.Ai rfl ?_;refine R.Lc (λ_=>?_) rfl rfl;refine BE [0] rfl rfl Q ⟨rfl,by decide,by decide⟩ rfl (by simp[cX,zC,a,cN]) ?_;rintro H r u ⟨rfl,rfl,rfl⟩ _);(refine R.Ai rfl ?_;refine R.Lc (λ_=>?_) rfl rfl;refine BE [0] rfl rfl ht ⟨rfl,by decide,by decide⟩ rfl (by simp[cX,zC,a,cN]) ?_;rintro H r u ⟨rfl,rfl,rfl⟩ _);(repeat ((refine R.Ai rfl ?_;first|refine R.yA rfl rfl rfl rfl ?_|refine R.CJ (λ_ _ _=>MX rfl rfl (by rfl) (by rfl)) rfl rfl ?_ )));refine R.SF ?_;refine Al.AQ [0,3,6] [] rfl rfl [(4,.o (.ptr 1 3 0 0)),(5,.o (.ptr 2 3 0 0)),(7,.o (.ptr 4 3 0 0))] [(0,Cr b (p+1+1+1)),(1,.cells 25 3 [[.d (iD 0),.d (iD 0),.d (.l [])]]),(2,.cells 25 3 [[.d (iD y.al),.d (iD y.st),.arr 3 3 0 0]]),(3,.cells 78 3 []),(4,.cells 78 3 [Bs ⟨f,0,t⟩])] [0,1,3,2,4] (rl a rfl) (by (simp[cX,zC,a,cN,Ae,eC,Bl])) ?_;(try dsimp only[cA,cB]);apply qm (C:=λq m e=>p<=q/\q<=p+5)
 case hk =>
  intro hk;by_cases hz:0<ls.length
  ·(repeat' first|refine sN rfl ?_|refine tA rfl ?_|refine s2 rfl λ_ i=>?_|refine sP rfl (B) rfl ?_|refine s3 rfl ?_ ?_<;>rintro rfl|refine aU rfl ?_|apply Aa|(refine aC rfl ?_ ?_<;>rintro⟨⟩));all_goals try contradiction
   all_goals first
    | (exfalso;(simp only[oZ] at *;omega);done)
    | skip
   (refine pC [0] rfl (V) rfl rfl (by simp[cX,zC,a,cN]) ?_;rintro H r u ⟨rfl,rfl,rfl⟩ _);by_cases U:c=0
   .obtain⟨k,k0,Z,I⟩:=Bi (TB:=TB) b hb (p+1+1+1+1) ls.length (by omega)
    obtain⟨x,M⟩:=get_some (l:=ls) (k:=k.toNat) (by omega)
    have L:(ls.map A9)[k.toNat]?=some (A9 x):=by simp[M]
    (repeat' first|refine sN rfl ?_|refine tA rfl ?_|refine s2 rfl λ_ i=>?_|refine aU rfl ?_|apply Aa|(refine aC rfl ?_ ?_<;>rintro⟨⟩));all_goals try contradiction
    all_goals first
     | (exfalso;(simp only[oZ] at *;omega);done)
     | skip
    (refine pC [0] rfl (I) rfl rfl (by simp[cX,zC,a,cN]) ?_;rintro H r u ⟨rfl,rfl,rfl⟩ _);(repeat first|refine tA rfl ?_|(refine s4 rfl ‹_› rfl ?_ ?_;omega)|refine aU rfl ?_|apply Aa)
    obtain⟨q,z⟩:∃q,q=p+1+1+1+1+1:=⟨_,rfl⟩
    obtain⟨m,A⟩:∃m,m=true:=⟨_,rfl⟩
    obtain⟨e,F⟩:∃e:Fu,e=⟨f,x,t⟩:=⟨_,rfl⟩
    refine Al.AQ [0,3,6] [1,2,3] rfl rfl [(4,.o (.ptr 1 3 0 0)),(5,.o (.ptr 2 3 0 0)),(7,.o (.ptr 4 3 0 0)),(9,eB m),(10,eI .i64 0)] [(0,Cr b q),(4,.cells 78 3 [Bs e])] [0,1,2,3,4] (rl a rfl) (by (simp[cX,zC,a,cN,z,A,F,Ae,eC])) ?_;(try dsimp only[cA,cB]);exact hk q m e ⟨by omega,by omega⟩
   ·(repeat' first|refine sN rfl ?_|refine tA rfl ?_|refine s2 rfl λ_ i=>?_|refine aU rfl ?_|apply Aa|(refine aC rfl ?_ ?_<;>rintro⟨⟩));all_goals try contradiction
    all_goals first
     | (exfalso;(simp only[oZ] at *;omega);done)
     | skip
    apply aK;(repeat first|refine tA rfl ?_|refine aU rfl ?_|apply Aa)
    obtain⟨q,z⟩:∃q,q=p+1+1+1+1:=⟨_,rfl⟩
    obtain⟨m,A⟩:∃m,m=false:=⟨_,rfl⟩
    obtain⟨e,F⟩:∃e:Fu,e=⟨f,0,t⟩:=⟨_,rfl⟩
    refine Al.AQ [0,3,6] [1,2,3] rfl rfl [(4,.o (.ptr 1 3 0 0)),(5,.o (.ptr 2 3 0 0)),(7,.o (.ptr 4 3 0 0)),(9,eB m),(10,eI .i64 0)] [(0,Cr b q),(4,.cells 78 3 [Bs e])] [0,1,2,3,4] (rl a rfl) (by (simp[cX,zC,a,cN,z,A,F,Ae,eC])) ?_;(try dsimp only[cA,cB]);exact hk q m e ⟨by omega,by omega⟩
  ·(repeat' first|refine sN rfl ?_|refine tA rfl ?_|refine s2 rfl λ_ i=>?_|refine sP rfl (B) rfl ?_|refine s3 rfl ?_ ?_<;>rintro rfl|refine aU rfl ?_|apply Aa|(refine aC rfl ?_ ?_<;>rintro⟨⟩));all_goals try contradiction
   all_goals first
    | (exfalso;(simp only[oZ] at *;omega);done)
    | skip
   apply aK;(repeat first|refine tA rfl ?_|refine aU rfl ?_|apply Aa)
   obtain⟨q,z⟩:∃q,q=p+1+1+1:=⟨_,rfl⟩
   obtain⟨m,A⟩:∃m,m=false:=⟨_,rfl⟩
   obtain⟨e,F⟩:∃e:Fu,e=⟨f,0,t⟩:=⟨_,rfl⟩
   refine Al.AQ [0,3,6] [1,2,3] rfl rfl [(4,.o (.ptr 1 3 0 0)),(5,.o (.ptr 2 3 0 0)),(7,.o (.ptr 4 3 0 0)),(9,eB m),(10,eI .i64 0)] [(0,Cr b q),(4,.cells 78 3 [Bs e])] [0,1,2,3,4] (rl a rfl) (by (simp[cX,zC,a,cN,z,A,F,Ae,eC])) ?_;(try dsimp only[cA,cB]);exact hk q m e ⟨by omega,by omega⟩
 case h =>
  intro q m0 e z;apply aB;refine aL (α:={s:Nat×Bool×List Fu // s.1<=y.es.length/\s.2.2.length+(bif s.2.1 then 1 else 0)<=s.1+1}) [0,3,4,5,6,7] [0,1,4] rfl rfl (λs=>[(9,eB s.1.2.1),(10,eI .i64 s.1.1)]) (λs=>[(2,.cells 25 3 [[.d (iD y.al),.d (iD y.st),.arr 3 3 0 s.1.2.2.length]]),(3,.cells 78 3 (s.1.2.2.map Bs))]) 5 (λs=>y.es.length-s.1.1) (⟨⟨0,m0,[]⟩,by simp,by cases m0<;>simp⟩) a rfl (by (simp[cX,zC,a,cN])) ?_;rintro⟨⟨k,m,l⟩,hk,n⟩;(try dsimp only[cA,cB]);have hk:k<=y.es.length:=hk;have n:l.length+(bif m then 1 else 0)<=k+1:=n;by_cases J:k<y.es.length
  .obtain⟨d, T⟩:=get_some J
   have K:=get_map (g:=Dr) T
   have S:(y.es.map Dr)[((k:Nat):Int).toNat]?=some (Dr d):=by rw[f6];exact K
   have j:=JT (TB:=TB) e d;(repeat first|refine sN rfl ?_|refine tA rfl ?_|refine s2 rfl λ_ i=>?_|refine aU rfl ?_|apply Aa)
   ((refine aC rfl ?_ ?_<;>rintro⟨⟩);all_goals try(exfalso;(simp only[oZ] at *;omega)))
   apply aK;refine aS (aB ?_);cases m
   .have n:l.length<=k+1:=by simpa using n
    (repeat first|refine aU rfl ?_);refine rG (GI []) (by kernel_rfl) ?_
    (repeat' first|refine tA rfl ?_|apply Aa|(refine aC rfl ?_ ?_<;>rintro⟨⟩));all_goals try contradiction
    apply aK;(repeat first|refine aU rfl ?_);refine rG (GI []) (by kernel_rfl) ?_
    (repeat' first|refine tA rfl ?_|apply Aa|(refine aC rfl ?_ ?_<;>rintro⟨⟩));all_goals try contradiction
    apply aK;by_cases v:(k:Int)=g
    ·(repeat first|refine tA rfl ?_|refine s2 rfl λ_ i=>?_|refine aU rfl ?_|apply Aa)
     ((refine aC rfl ?_ ?_<;>rintro⟨⟩);all_goals try(exfalso;(simp only[oZ] at *;omega)))
     apply aK;(repeat first|(refine sA rfl ?_ ?_;first|exact tI|omega)|refine aU rfl ?_|apply Aa);refine⟨⟨⟨k+1,false,l⟩,by dsimp only;omega,by (simp;omega)⟩,by dsimp only;(omega),[0,1,2,3,4],?_⟩;simp[cX,zC,a,cN,Ae,eC]
    ·(repeat first|refine tA rfl ?_|refine s2 rfl λ_ i=>?_|refine aU rfl ?_|apply Aa)
     ((refine aC rfl ?_ ?_<;>rintro⟨⟩);all_goals try(exfalso;(simp only[oZ] at *;omega)))
     refine rG (Nz [(1,12),(8,1),(10,1)]) (by kernel_rfl) ?_;(repeat first|refine tA rfl ?_|(refine s4 rfl ‹_› rfl ?_ ?_;omega));(refine pA rfl (by simp) (by simp;omega) ?_);(repeat first|(refine sA rfl ?_ ?_;first|exact tI|omega)|refine aU rfl ?_|apply Aa);refine⟨⟨⟨k+1,false,l++[d]⟩,by dsimp only;omega,by (simp;omega)⟩,by dsimp only;(omega),[0,1,2,5,4],?_⟩;simp[cX,zC,a,cN,Ae,eC]
   .have n : l.length<=k:=by simpa using n
    cases G:La e d
    .rw [G]at j
     cases w:nQ e d
     ·(repeat first|refine aU rfl ?_)
      refine rG (GI []) (by kernel_rfl) ?_
      (repeat' first|refine tA rfl ?_|(refine s4 rfl ‹_› rfl ?_ ?_;omega)|refine sP rfl (j) rfl ?_|apply Aa|(refine aC rfl ?_ ?_<;>rintro⟨⟩));all_goals try contradiction
      apply aK;(repeat first|refine aU rfl ?_);refine rG (GI []) (by kernel_rfl) ?_
      (repeat' first|refine tA rfl ?_|(refine s4 rfl ‹_› rfl ?_ ?_;omega)|(refine Ai rfl ?_;refine gA rfl ?_;first|refine gS (λ_ _=>w▸ZL rfl rfl) ?_)|apply Aa|(refine aC rfl ?_ ?_<;>rintro⟨⟩));all_goals try contradiction
      apply aK;by_cases v:(k:Int)=g
      ·(repeat first|refine tA rfl ?_|refine s2 rfl λ_ i=>?_|refine aU rfl ?_|apply Aa)
       ((refine aC rfl ?_ ?_<;>rintro⟨⟩);all_goals try(exfalso;(simp only[oZ] at *;omega)))
       apply aK;(repeat first|(refine sA rfl ?_ ?_;first|exact tI|omega)|refine aU rfl ?_|apply Aa);refine⟨⟨⟨k+1,true,l⟩,by dsimp only;omega,by (simp;omega)⟩,by dsimp only;(omega),[0,1,2,3,4],?_⟩;simp[cX,zC,a,cN,Ae,eC]
      ·(repeat first|refine tA rfl ?_|refine s2 rfl λ_ i=>?_|refine aU rfl ?_|apply Aa)
       ((refine aC rfl ?_ ?_<;>rintro⟨⟩);all_goals try(exfalso;(simp only[oZ] at *;omega)))
       refine rG (Nz [(1,12),(8,1),(10,1)]) (by kernel_rfl) ?_;(repeat first|refine tA rfl ?_|(refine s4 rfl ‹_› rfl ?_ ?_;omega));(refine pA rfl (by simp) (by simp;omega) ?_);(repeat first|(refine sA rfl ?_ ?_;first|exact tI|omega)|refine aU rfl ?_|apply Aa);refine⟨⟨⟨k+1,true,l++[d]⟩,by dsimp only;omega,by (simp;omega)⟩,by dsimp only;(omega),[0,1,2,5,4],?_⟩;simp[cX,zC,a,cN,Ae,eC]
     ·(repeat first|refine aU rfl ?_)
      refine rG (GI []) (by kernel_rfl) ?_
      (repeat' first|refine tA rfl ?_|(refine s4 rfl ‹_› rfl ?_ ?_;omega)|refine sP rfl (j) rfl ?_|apply Aa|(refine aC rfl ?_ ?_<;>rintro⟨⟩));all_goals try contradiction
      apply aK;by_cases v:(k:Int)=g
      ·(repeat first|refine aU rfl ?_)
       refine rG (GI []) (by kernel_rfl) ?_
       (repeat' first|refine tA rfl ?_|(refine s4 rfl ‹_› rfl ?_ ?_;omega)|refine s2 rfl λ_ i=>?_|(refine Ai rfl ?_;refine gA rfl ?_;first|refine gS (λ_ _=>w▸ZL rfl rfl) ?_)|refine aU rfl ?_|apply Aa|(refine aC rfl ?_ ?_<;>rintro⟨⟩));all_goals try contradiction
       all_goals first
        | (exfalso;(simp only[oZ] at *;omega);done)
        | skip
       apply aK;(repeat first|(refine sA rfl ?_ ?_;first|exact tI|omega)|refine aU rfl ?_|apply Aa);refine⟨⟨⟨k+1,false,l⟩,by dsimp only;omega,by (simp;omega)⟩,by dsimp only;(omega),[0,1,2,3,4],?_⟩;simp[cX,zC,a,cN,Ae,eC]
      ·(repeat first|refine aU rfl ?_)
       refine rG (GI []) (by kernel_rfl) ?_
       (repeat' first|refine tA rfl ?_|(refine s4 rfl ‹_› rfl ?_ ?_;omega)|refine s2 rfl λ_ i=>?_|(refine Ai rfl ?_;refine gA rfl ?_;first|refine gS (λ_ _=>w▸ZL rfl rfl) ?_)|refine aU rfl ?_|apply Aa|(refine aC rfl ?_ ?_<;>rintro⟨⟩));all_goals try contradiction
       all_goals first
        | (exfalso;(simp only[oZ] at *;omega);done)
        | skip
       refine rG (Nz [(1,12),(8,1),(10,1)]) (by kernel_rfl) ?_;(repeat first|refine tA rfl ?_|(refine s4 rfl ‹_› rfl ?_ ?_;omega));(refine pA rfl (by simp) (by simp;omega) ?_);(repeat first|(refine sA rfl ?_ ?_;first|exact tI|omega)|refine aU rfl ?_|apply Aa);refine⟨⟨⟨k+1,false,l++[d]⟩,by dsimp only;omega,by (simp;omega)⟩,by dsimp only;(omega),[0,1,2,5,4],?_⟩;simp[cX,zC,a,cN,Ae,eC]
    .rw [G]at j
     (repeat first|refine aU rfl ?_);refine rG (GI []) (by kernel_rfl) ?_
     (repeat' first|refine tA rfl ?_|(refine s4 rfl ‹_› rfl ?_ ?_;omega)|refine sP rfl (j) rfl ?_|refine aU rfl ?_|apply Aa|(refine aC rfl ?_ ?_<;>rintro⟨⟩));all_goals try contradiction
     (refine pA rfl (by simp) (by simp;omega) ?_);(repeat first|refine tA rfl ?_|refine aU rfl ?_|apply Aa);refine rG (GI []) (by kernel_rfl) ?_
     (repeat' first|refine tA rfl ?_|apply Aa|(refine aC rfl ?_ ?_<;>rintro⟨⟩));all_goals try contradiction
     apply aK;by_cases v:(k:Int)=g
     ·(repeat first|refine tA rfl ?_|refine s2 rfl λ_ i=>?_|refine aU rfl ?_|apply Aa)
      ((refine aC rfl ?_ ?_<;>rintro⟨⟩);all_goals try(exfalso;(simp only[oZ] at *;omega)))
      apply aK;(repeat first|(refine sA rfl ?_ ?_;first|exact tI|omega)|refine aU rfl ?_|apply Aa);refine⟨⟨⟨k+1,false,(l++[e])⟩,by dsimp only;omega,by (simp;omega)⟩,by dsimp only;(omega),[0,1,2,5,4],?_⟩;simp[cX,zC,a,cN,Ae,eC]
     ·(repeat first|refine tA rfl ?_|refine s2 rfl λ_ i=>?_|refine aU rfl ?_|apply Aa)
      ((refine aC rfl ?_ ?_<;>rintro⟨⟩);all_goals try(exfalso;(simp only[oZ] at *;omega)))
      refine rG (Nz [(1,12),(8,1),(10,1)]) (by kernel_rfl) ?_;(repeat first|refine tA rfl ?_|(refine s4 rfl ‹_› rfl ?_ ?_;omega));(refine pA rfl (by simp) (by simp;omega) ?_);(repeat first|(refine sA rfl ?_ ?_;first|exact tI|omega)|refine aU rfl ?_|apply Aa);refine⟨⟨⟨k+1,false,(l++[e])++[d]⟩,by dsimp only;omega,by (simp;omega)⟩,by dsimp only;(omega),[0,1,2,6,4],?_⟩;simp[cX,zC,a,cN,Ae,eC]
  .obtain rfl:k=y.es.length:=by omega
   (repeat first|refine sN rfl ?_|refine tA rfl ?_|refine s2 rfl λ_ i=>?_|refine aU rfl ?_|apply Aa)
   ((refine aC rfl ?_ ?_<;>rintro⟨⟩);all_goals try(exfalso;(simp only[oZ] at *;omega)))
   apply aE;cases m
   .have n:l.length<=y.es.length+1:=by simpa using n
    (repeat first|refine tA rfl ?_|refine aU rfl ?_|apply Aa)
    ((refine aC rfl ?_ ?_<;>rintro⟨⟩);all_goals try (simp at i;done))
    apply aK;(repeat first|refine tA rfl ?_|refine aU rfl ?_|apply Aa);refine Al.AQ [] [] rfl rfl [(4,.o (.ptr 1 3 0 0))] [(0,Cr b (q)),(1,.cells 25 3 [[.d (iD (y.al)),.d (iD (y.st)),.arr 2 3 0 (l).length]]),(2,.cells 78 3 ((l).map Bs))] [0,1,3] (rl a rfl) (by (simp[cX,zC,a,cN,Ae,eC])) ?_;(try dsimp only[cA,cB]);refine Al.Bb [1,2] [(4,.o (.ip (AU ⟨y.al,y.st,l⟩)))] ⟨⟨_,rfl,.inr (.o (.box rfl (.cons .d (.cons .d (.cons (.full rfl (by simp[d6]) (by simp)) .nil)))))⟩,trivial⟩ ?_;refine aR ⟨_,rfl,[0],BD ⟨y.al,y.st,l⟩,[(0,Cr b (q))],iB rfl,rfl,by (simp[cX,zC,a,cN]),q,⟨y.al,y.st,l⟩,by omega,by first|(simp;done)|(simp;omega),rfl,rfl,rfl⟩
   .have n:l.length<=y.es.length:=by simpa using n
    (repeat first|refine tA rfl ?_|refine aU rfl ?_|apply Aa)
    ((refine aC rfl ?_ ?_<;>rintro⟨⟩);all_goals try (simp at i;done))
    (repeat first|refine tA rfl ?_|refine aU rfl ?_);(refine pA rfl (by simp) (by simp;omega) ?_);(repeat first|refine tA rfl ?_|refine aU rfl ?_|apply Aa);refine Al.AQ [] [] rfl rfl [(4,.o (.ptr 1 3 0 0))] [(0,Cr b (q)),(1,.cells 25 3 [[.d (iD (y.al)),.d (iD (y.st)),.arr 2 3 0 (l++[e]).length]]),(2,.cells 78 3 ((l++[e]).map Bs))] [0,1,5] (rl a rfl) (by (simp[cX,zC,a,cN,Ae,eC])) ?_;(try dsimp only[cA,cB]);refine Al.Bb [1,2] [(4,.o (.ip (AU ⟨y.al,y.st,l++[e]⟩)))] ⟨⟨_,rfl,.inr (.o (.box rfl (.cons .d (.cons .d (.cons (.full rfl (by simp[d6]) (by simp)) .nil)))))⟩,trivial⟩ ?_;refine aR ⟨_,rfl,[0],BD ⟨y.al,y.st,l++[e]⟩,[(0,Cr b (q))],iB rfl,rfl,by (simp[cX,zC,a,cN]),q,⟨y.al,y.st,l++[e]⟩,by omega,by first|(simp;done)|(simp;omega),rfl,rfl,rfl⟩
theorem OX(w:W)(al:Int)(n:w.length<=1048576):Pure Tryz.prog TB 71 [eT w,eI .i64 al] (eT (Jz al w)):=by
 refine eG Tryz.func71 rfl (by kernel_rfl) rfl ?_;intro Γ d;(repeat first|refine tM rfl ?_|refine aU rfl ?_|apply Aa);(refine pW rfl ?_ rfl (by rfl);refine Fh 1 5 ?_);(repeat first|refine tM rfl ?_|refine aU rfl ?_|apply Aa);apply aB;refine aL (α:={k:Nat // k<=w.length}) [0,1,8] [] rfl rfl (λ⟨k,hk⟩=>[(5,.o (.arr 0 1 0 (Jz al (w.take k)).length)),(9,eI .i64 k)]) (λ⟨k,hk⟩=>[(0,.cells 5 1 ((Jz al (w.take k)).map Gp))]) 1 (λ⟨k,hk⟩=>w.length-k) (⟨0,by omega⟩) d rfl (by (repeat' first|exact tI|rfl|refine And.intro ?_ ?_)) ?_;rintro⟨k,hk⟩;(try dsimp only[cA,cB]);by_cases i:k<w.length
 .obtain⟨c,m⟩:=get_some i
  have j:w[((k:Nat):Int).toNat]?=some c:=by simpa using m
  have e:=UF (TB:=TB) w k c j;have a:=NX (TB:=TB) al (if GR c then (c.toNat:Int)-97 else -1);rw[WX]at a;generalize (if GR c then (c.toNat:Int)-97 else -1:Int)=l at e a;have b:=TR (al:=al) m;have h:=XP al (w.take k);rw[vo]at h;(repeat first|refine s2 rfl λ_ f=>?_|refine aU rfl ?_|apply Aa)
  ((refine aC rfl ?_ ?_<;>rintro⟨⟩);all_goals try(exfalso;(simp only[oZ] at *;omega)))
  apply aK;refine aS (aB ?_);cases g:Jc al c
  .rw[g]at a b
   (repeat first|refine tA rfl ?_|refine sP rfl (e) rfl ?_|refine sP rfl (a) rfl ?_|refine aU rfl ?_|apply Aa)
   ((refine aC rfl ?_ ?_<;>rintro⟨⟩);all_goals try (simp at f;done))
   apply aK;(repeat first|(refine sA rfl ?_ ?_;first|exact tI|omega)|refine aU rfl ?_|apply Aa);refine⟨⟨k+1,by omega⟩,by dsimp only;(omega),[0],?_⟩;simp[cX,zC,d,b,Gp,GD]
  .rw[g]at a b
   (repeat first|refine tA rfl ?_|refine sP rfl (e) rfl ?_|refine sP rfl (a) rfl ?_|refine aU rfl ?_|apply Aa)
   ((refine aC rfl ?_ ?_<;>rintro⟨⟩);all_goals try (simp at f;done))
   (repeat first|refine tA rfl ?_|(refine s4 rfl ‹_› rfl ?_ ?_;omega)|refine aU rfl ?_);(refine pA rfl (by simp) (by simp;omega) ?_);(repeat first|(refine sX rfl ?_ ?_;first|exact tI|omega)|refine aU rfl ?_|apply Aa);refine⟨⟨k+1,by omega⟩,by dsimp only;(omega),[1],?_⟩;simp[cX,zC,d,b,GD,Gp,uz]
 .obtain rfl:k=w.length:=by omega
  rw[i9] at *;(repeat first|refine s2 rfl λ_ f=>?_|refine aU rfl ?_|apply Aa)
  ((refine aC rfl ?_ ?_<;>rintro⟨⟩);all_goals try(exfalso;(simp only[oZ] at *;omega)))
  apply aE;(repeat first|refine tM rfl ?_|(refine Ai rfl ?_;refine gA rfl ?_;first|refine gQ (PV (Jz al w) rfl rfl (by simp) (by first|rw[uR,i8 (by simp)]|rw[uR,Vs,i8 (by simp)])) (by rfl) ?_)|refine aU rfl ?_|apply Aa);(subst_vars;exact aR ⟨_,rfl,rfl⟩)
theorem Jx[Dy TB](s:Sys)(p:AI):Pure Tryz.prog TB 70 [BD s,Bp p] (Mr (BU [s] p)):=by
 refine eN Tryz.func70 rfl (by kernel_rfl) rfl ?_;intro Γ a;(repeat' first|refine tA rfl ?_|refine sP rfl (Fz [s] p) rfl ?_|refine aV rfl ?_|apply Aa|(refine aC rfl ?_ ?_<;>rintro⟨⟩)|refine aR ⟨_,rfl,?_⟩)
 all_goals rfl
theorem FG[Dy TB](s:Sys)(p:AI):Pure Tryz.prog TB 145 [BD s,Bp p] (Mr (BU [s] p)):=by
 refine eN Tryz.func145 rfl (by kernel_rfl) rfl ?_;intro Γ a;(repeat' first|refine tA rfl ?_|refine sP rfl (FH [s] p) rfl ?_|refine aV rfl ?_|apply Aa|(refine aC rfl ?_ ?_<;>rintro⟨⟩)|refine aR ⟨_,rfl,?_⟩)
 all_goals rfl
abbrev gE(r:Sys×Sys×AI):E:=.t [(true,(AU r.1).map .d),(true,(AU r.2.1).map .d),(true,(AT r.2.2).map .d)]
structure fO (r:Sys×Sys×AI) (n m:Nat):Prop where
 a:r.1.es.length<=n
 b:r.2.1.es.length<=n
 c:LX m r.2.2
def aJ(b:List UInt8)(p d:Int)(n m:Nat)(x:E)(σ:Ac)(nx:Nat):Prop:=∃(p':Int) (r:Sys×Sys×AI),(p<=p'/\p'<=p+d)/\fO r n m/\x=gE r/\σ=[(0,Cr b p')]/\nx=1
def ky(b:List UInt8)(p d:Int)(n m:Nat)(x:E)(σ:Ac)(nx:Nat):Prop:=∃(p':Int) (r:Sys×AI×Sys),(p<=p'/\p'<=p+d)/\fO (r.1,r.2.2,r.2.1) n m/\x=Lt r/\σ=[(0,Cr b p')]/\nx=1
theorem Zu(b:List UInt8)(hb:b.length<=2000)(p:Int)(F:0<=p/\p<700000000)(s:Sys)(q:AI)(t:Sys)(B:s.es.length<=2000)(ht:t.es.length<=2000)(z:LX 1000 q):Spec Tryz.prog TB 65 [(0,Cr b p)] 1 [.o (.ptr 0 2 0 0),BD s,Bp q,BD t] (ky b p 20 2003 1042):=by
 obtain⟨c,H,G,A⟩:=Bi (TB:=TB) b hb p 30 (by omega);refine eR Tryz.func65 rfl (by kernel_rfl) rfl ?_;intro Γ a;(repeat first|refine aU rfl ?_);(refine pB rfl ?_);(refine pB rfl ?_);(refine pB rfl ?_);(repeat first|refine tA rfl ?_|refine aU rfl ?_|apply Aa);(refine pC [0] rfl (A) rfl rfl (by simp[cX,zC,a,cN]) ?_;rintro g d e ⟨rfl,rfl,rfl⟩ _);apply Aa;apply aB;(repeat first|refine tA rfl ?_|refine s2 rfl λ_ y=>?_|refine aU rfl ?_|apply Aa);(refine aC rfl ?_ ?_<;>rintro⟨⟩)
 .have x:=FR (TB:=TB) b hb (p+1) (by omega) s (by omega)
  (repeat first|refine tA rfl ?_|refine aU rfl ?_);(refine pC [0] rfl (x) rfl rfl (by simp[cX,zC,a,cN]) ?_;rintro g d e ⟨m,s1,u,k,rfl,rfl,rfl⟩ _);have w:=FR (TB:=TB) b hb m (by omega) s1 (by omega);(refine pC [0] rfl (w) rfl rfl (by simp[cX,zC,a,cN]) ?_;rintro g d e ⟨l,s2,r,j,rfl,rfl,rfl⟩ _);have v:=FR (TB:=TB) b hb l (by omega) s2 (by omega);(refine pC [0] rfl (v) rfl rfl (by simp[cX,zC,a,cN]) ?_;rintro g d e ⟨h,f,n,i,rfl,rfl,rfl⟩ _);(repeat first|refine tA rfl ?_|refine aU rfl ?_|apply Aa);refine Al.Bb [1,2,3] [(5,.o (.ip (AU f))),(6,.o (.ip (AT q))),(7,.o (.ip (AU t))),(8,.o (.ptr 4 3 0 0)),(9,.o (.ptr 5 3 0 0)),(10,.o (.ptr 6 3 0 0))] ⟨⟨_,rfl,.inr (.o (.box rfl (HG.refl (AU f))))⟩,⟨_,rfl,.inr (.o (.box rfl (HG.refl (AT q))))⟩,⟨_,rfl,.inr (.o (.box rfl (HG.refl (AU t))))⟩,⟨_,rfl,.inl rfl⟩,⟨_,rfl,.inl rfl⟩,⟨_,rfl,.inl rfl⟩,trivial⟩ ?_;refine rG (Nz [(3,1),(4,1),(5,1)]) (by kernel_rfl) ?_;(repeat first|refine tA rfl ?_|apply Aa);exact aR ⟨_,rfl,[0],Lt (f,q,t),[(0,Cr b (h))],iB rfl,rfl,by (simp[cX,zC,a,cN]),h,(f,q,t),by omega,⟨by show f.es.length<=_;omega,by show t.es.length<=_;omega,z.upto (by omega)⟩,rfl,rfl,rfl⟩
 ·(repeat first|refine tA rfl ?_|refine s2 rfl λ_ y=>?_|refine aU rfl ?_|apply Aa)
  (refine aC rfl ?_ ?_<;>rintro⟨⟩)
  .have x:=LC (TB:=TB) b hb (p+1) (by omega) q 1000 z (by omega)
   (repeat first|refine tA rfl ?_|refine aU rfl ?_);(refine pC [0] rfl (x) rfl rfl (by simp[cX,zC,a,cN]) ?_;rintro g d e ⟨m,s1,u,k,rfl,rfl,rfl⟩ _);have w:=LC (TB:=TB) b hb m (by omega) s1 _ k (by omega);(refine pC [0] rfl (w) rfl rfl (by simp[cX,zC,a,cN]) ?_;rintro g d e ⟨l,s2,r,j,rfl,rfl,rfl⟩ _);have v:=LC (TB:=TB) b hb l (by omega) s2 _ j (by omega);(refine pC [0] rfl (v) rfl rfl (by simp[cX,zC,a,cN]) ?_;rintro g d e ⟨h,f,n,i,rfl,rfl,rfl⟩ _);(repeat first|refine tA rfl ?_|refine aU rfl ?_|apply Aa);refine Al.Bb [1,2,3] [(5,.o (.ip (AU s))),(6,.o (.ip (AT f))),(7,.o (.ip (AU t))),(8,.o (.ptr 4 3 0 0)),(9,.o (.ptr 5 3 0 0)),(10,.o (.ptr 6 3 0 0))] ⟨⟨_,rfl,.inr (.o (.box rfl (HG.refl (AU s))))⟩,⟨_,rfl,.inr (.o (.box rfl (HG.refl (AT f))))⟩,⟨_,rfl,.inr (.o (.box rfl (HG.refl (AU t))))⟩,⟨_,rfl,.inl rfl⟩,⟨_,rfl,.inl rfl⟩,⟨_,rfl,.inl rfl⟩,trivial⟩ ?_;refine rG (Nz [(3,1),(4,1),(5,1)]) (by kernel_rfl) ?_;(repeat first|refine tA rfl ?_|apply Aa);exact aR ⟨_,rfl,[0],Lt (s,f,t),[(0,Cr b (h))],iB rfl,rfl,by (simp[cX,zC,a,cN]),h,(s,f,t),by omega,⟨by show s.es.length<=_;omega,by show t.es.length<=_;omega,LX.upto i (by omega)⟩,rfl,rfl,rfl⟩
  ·(repeat first|refine tA rfl ?_|refine s2 rfl λ_ y=>?_|refine aU rfl ?_|apply Aa)
   (refine aC rfl ?_ ?_<;>rintro⟨⟩)
   .have x:=FR (TB:=TB) b hb (p+1) (by omega) t (by omega)
    (repeat first|refine tA rfl ?_|refine aU rfl ?_);(refine pC [0] rfl (x) rfl rfl (by simp[cX,zC,a,cN]) ?_;rintro g d e ⟨m,s1,u,k,rfl,rfl,rfl⟩ _);have w:=FR (TB:=TB) b hb m (by omega) s1 (by omega);(refine pC [0] rfl (w) rfl rfl (by simp[cX,zC,a,cN]) ?_;rintro g d e ⟨l,s2,r,j,rfl,rfl,rfl⟩ _);have v:=FR (TB:=TB) b hb l (by omega) s2 (by omega);(refine pC [0] rfl (v) rfl rfl (by simp[cX,zC,a,cN]) ?_;rintro g d e ⟨h,f,n,i,rfl,rfl,rfl⟩ _);(repeat first|refine tA rfl ?_|refine aU rfl ?_|apply Aa);refine Al.Bb [1,2,3] [(5,.o (.ip (AU s))),(6,.o (.ip (AT q))),(7,.o (.ip (AU f))),(8,.o (.ptr 4 3 0 0)),(9,.o (.ptr 5 3 0 0)),(10,.o (.ptr 6 3 0 0))] ⟨⟨_,rfl,.inr (.o (.box rfl (HG.refl (AU s))))⟩,⟨_,rfl,.inr (.o (.box rfl (HG.refl (AT q))))⟩,⟨_,rfl,.inr (.o (.box rfl (HG.refl (AU f))))⟩,⟨_,rfl,.inl rfl⟩,⟨_,rfl,.inl rfl⟩,⟨_,rfl,.inl rfl⟩,trivial⟩ ?_;refine rG (Nz [(3,1),(4,1),(5,1)]) (by kernel_rfl) ?_;(repeat first|refine tA rfl ?_|apply Aa);exact aR ⟨_,rfl,[0],Lt (s,q,f),[(0,Cr b (h))],iB rfl,rfl,by (simp[cX,zC,a,cN]),h,(s,q,f),by omega,⟨by show s.es.length<=_;omega,by show f.es.length<=_;omega,z.upto (by omega)⟩,rfl,rfl,rfl⟩
   .apply aK
    (repeat first|refine aU rfl ?_);refine Al.Bb [1,2,3] [(5,.o (.ip (AU s))),(6,.o (.ip (AT q))),(7,.o (.ip (AU t))),(8,.o (.ptr 4 3 0 0)),(9,.o (.ptr 5 3 0 0)),(10,.o (.ptr 6 3 0 0))] ⟨⟨_,rfl,.inr (.o (.box rfl (HG.refl (AU s))))⟩,⟨_,rfl,.inr (.o (.box rfl (HG.refl (AT q))))⟩,⟨_,rfl,.inr (.o (.box rfl (HG.refl (AU t))))⟩,⟨_,rfl,.inl rfl⟩,⟨_,rfl,.inl rfl⟩,⟨_,rfl,.inl rfl⟩,trivial⟩ ?_;refine rG (Nz [(3,1),(4,1),(5,1)]) (by kernel_rfl) ?_;(repeat first|refine tA rfl ?_|apply Aa);exact aR ⟨_,rfl,[0],Lt (s,q,t),[(0,Cr b (p+1))],iB rfl,rfl,by (simp[cX,zC,a,cN]),p+1,(s,q,t),by omega,⟨by show s.es.length<=_;omega,by show t.es.length<=_;omega,z.upto (by omega)⟩,rfl,rfl,rfl⟩
end Go.Am
namespace Go.Am
open Go
structure VM (a:AI) (cs:List Int) (n k:Nat):Prop where
 len:cs.length=a.nx.length
 tw:∀x∈cs,0<=x/\x<100
 cnt:n=0\/n=(uq cs).length
 fuel:a.nx.length<=k+n
 eq:dp a (k+1) cs n=Gt a
def OM(a:AI)(cs:List Int):List W:=(CR a cs).map Zg
theorem dM{a:AI}{cs:List Int}{q:Nat}(h:q<a.nx.length):(OM a cs)[q]?=some (Zg (JR a cs q)):=by
 unfold OM;rw[f9,Bz h];rfl
theorem dN(a:AI)(cs:List Int):(OM a cs).length=a.nx.length:=by simp[OM,FP]
theorem WO{cs:List Int}(h:∀x∈cs,0<=x/\x<100)(i:Nat):0<=cs.getD i 0/\cs.getD i 0<100:=by
 rw[kw]
 cases a:cs[i]? with
 | none=>exact⟨w8 _,by show (0:Int)<100;omega⟩
 | some x=>exact h x (ce a)
theorem WY{a:AI}{cs:List Int}(h:∀x∈cs,0<=x/\x<100)(q:Nat):∀x∈JR a cs q,0<=x/\x<100:=λx b=>by
 unfold JR at b
 rcases lc.1 b with rfl|b
 .exact WO h q
 .obtain⟨y,_,rfl⟩:=d8.1 b
  exact WO h _
theorem WZ{a:AI}{cs:List Int}(h:∀x∈cs,0<=x/\x<100):∀x y,x∈CR a cs->y∈CR a cs->Zg x=Zg y->x=y:=λx y c b e=>by
 obtain⟨q,_,rfl⟩:=d8.1 c;obtain⟨r,_,rfl⟩:=d8.1 b;exact g9 (WY h q) (WY h r) (by simp[JR]) (by simp[JR]) e
theorem Zh{a:AI}{cs:List Int}(h:∀x∈cs,0<=x/\x<100):Fx (OM a cs)=Fx (CR a cs):=iN (WZ h)
theorem hX{a:AI}{cs:List Int}(h:∀x∈cs,0<=x/\x<100):(uq (OM a cs)).length=(uq (CR a cs)).length:=by
 unfold OM;rw[kk (WZ h),io]
theorem iO{a:AI}(h:a.nx.length<=64)(cs:List Int):∀x∈Fx (CR a cs),0<=x/\x<100:=λx c=>by
 obtain⟨y,b,rfl⟩:=d8.1 c;have e:=PJ b;have d:=Ks (CR a cs);rw[FP]at d;omega
theorem VM.zero{a:AI}(h:HW a):VM a (I8 a) 0 a.nx.length:=
 ⟨by simp[I8,h.ac],λx c=>by
  obtain⟨b,_,rfl⟩:=d8.1 c;cases b
  .exact⟨w8 _,by show (0:Int)<100;omega⟩
  .exact⟨by show (0:Int)<=1;omega,by show (1:Int)<100;omega⟩,.inl rfl,by omega,rfl⟩
theorem VM.step{a:AI}(h:HW a){cs:List Int}{n k:Nat}(hi:VM a cs n k) :
 ((uq (CR a cs)).length=n/\Up a=Fx (CR a cs))\/((uq (CR a cs)).length≠n/\1<=k/\VM a (Fx (CR a cs)) (uq (CR a cs)).length (k-1)):=by
 have hb:=h.b.1;have g:=h.n1;have d:=hi.eq;have c:=av (λk:List Int=>k.headD 0) (CR a cs);rw[mU hi.len]at c;have i:=Ks (CR a cs);rw[FP]at i;unfold dp at d;by_cases e:(uq (CR a cs)).length=n
 .rw[if_pos e]at d
  exact .inl ⟨e,by unfold Up;rw[d]⟩
 .rw[if_neg e]at d
  have j:=hi.fuel;have f:=hi.cnt
  have hk:1<=k:=by omega
  refine .inr ⟨e,hk,by simp[Fx,FP],iO hb cs,.inr (c8 _).symm,?_,?_⟩
  .rcases f with f|f<;>omega
  .rw[show k-1+1=k by omega];exact d
theorem dG(u:List W)(x:W):(x∈u->Cz (VK u) x=some ((sr u x:Nat):Int))/\(x∉u->Cz (VK u) x=none):=by
 rw[dF];unfold qj;exact⟨λh=>if_pos h,λh=>if_neg h⟩
theorem lH{l:List W}{k:Nat}{x:W}(h:l[k]?=some x):(x∈uq (l.take k)->Eg l x=((sr (uq (l.take k)) x:Nat):Int))/\(x∉uq (l.take k)->Eg l x=(uq (l.take k)).length):=
 ⟨λa=>((PI h).1 a).1,(PI h).2⟩
theorem TQ{α:Type}[DecidableEq α]{l:List α}{k:Nat}{x:α}(h:l[k]?=some x):(x∈uq (l.take k)->Bv l (k+1)=Bv l k)/\(x∉uq (l.take k)->Bv l (k+1)=Bv l k++[k]):=by
 constructor
 .intro a
  simp only[Bv,h,if_pos a]
 .intro a
  simp only[Bv,h,if_neg a]
theorem fh(l:List Int)(x:Int):EW (l++[x])=EW l++(44::Fc x.toNat):=by simp[EW]
theorem Qn(n:Nat):(Fc n).length<=2:=by unfold Fc;split<;>simp
theorem fi(l:List Int):(EW l).length<=3*l.length:=by
 induction l with
 | nil=>simp[EW]
 | cons x l a=>
  have:=Qn x.toNat
  have e:EW (x::l)=44::Fc x.toNat++EW l:=by simp[EW]
  rw[e];simp;omega
theorem hO(a:AI)(cs:List Int)(q:Nat):Zg (JR a cs q)=Fc (cs.getD q 0).toNat++EW ((a.nx.getD q []).map λx=>cs.getD x.toNat 0):=rfl
theorem ZO{a:AI}(h:HW a){k:Nat}(hk:k<a.nx.length) :
 (Ig a k<((CN a k).nx.length:Nat)/\CN a (k+1)=CN a k)\/(¬Ig a k<((CN a k).nx.length:Nat)/\CN a (k+1)=⟨a.al,(CN a k).nx++[(a.nx.getD k []).map (Ig a)],(CN a k).ac++[a.ac.getD k false]⟩):=by
 obtain⟨x,d,e,_⟩:=JM h hk
 have b:(CN a k).nx.length=(uq ((Gt a).take k)).length:=by simp[CN,Dj]
 obtain⟨g,f⟩:=PI d;by_cases c:x∈uq ((Gt a).take k)
 .refine .inl ⟨by rw[e,b];exact(g c).2,?_⟩
  unfold CN;rw[(TQ d).1 c]
 .refine .inr ⟨by rw[e,b,f c];omega,?_⟩
  unfold CN;rw[(TQ d).2 c];simp
theorem eK(a:AI):∀k,(CN a k).nx.length<=k:=λk=>by
 have:(CN a k).nx.length=(uq ((Gt a).take k)).length:=by simp[CN,Dj]
 have b:=Ks ((Gt a).take k);simp at b;omega
theorem XJ(a:AI)(k:Nat):(CN a k).ac.length=(CN a k).nx.length:=by simp[CN]
theorem gu{a:AI}(h:HW a):(Up a).length=a.nx.length:=by
 have:=(NK h.b h.n1 h.ac).len;simp[Up,Fx,this]
section
variable {P:Program}{TB:BB}{Γ:Ctx}{σ:Ac}
theorem Inv.freeze{V:View}(hi:Inv TB Γ V σ)(ids:List Nat):Inv TB Γ (GJ V (Hz σ ids)) (BR ids σ):=by
 have g:∀id o,look (Hz σ ids) id=some o->look σ id=some o:=λid o h=>(EF h).2;have e:Ext V (GJ V (Hz σ ids)):=Mj;refine⟨hi.os,hi.tape,hi.output,hi.old,?_,?_,hi.ext.trans e,⟨?_,?_,?_,?_⟩,?_,λx n=>⟨.inl (hi.tabs x n).1,(hi.tabs x n).2⟩,hi.hid.same rfl (λ_ h=>.inl h) (λb hb=>hb.elim .inl λ⟨id,o,a,c,m⟩=>.inr ⟨id,o,g _ _ a,c,m⟩) λb ⟨id,o,a,c,hb⟩=>have f:=(A3 ids σ id o a).2;⟨id,o,f,c,(Az e (hi.st.lt id o f)).1 hb⟩⟩
 .rintro b (hb|⟨id,o,a,c,hb⟩)
  .exact hi.iLt b hb
  .exact(hi.st.obj id o (g _ _ a)).blt c hb
 .rintro b (hb|⟨id,o,a,c,hb⟩)
  .exact hi.iNew b hb
  .exact .inr (hi.live id o (g _ _ a) c b hb)
 .intro id o a
  have:=(A3 ids σ id o a).2;exact(hi.st.obj id o this).AM e (hi.st.lt id o this) λ_ _ _=>rfl
 .intro id o a;exact hi.st.lt id o (A3 ids σ id o a).2
 .intro id o a c b d hb
  obtain⟨q,f⟩:=A3 ids σ id o a;have d:=(Az e (hi.st.lt id o f)).1 d
  rcases hb with hb|⟨id',o',j,i,m⟩
  .exact hi.st.free id o f c b d hb
  .have p:=EF j
   exact hi.st.inj id id' o o' f p.2 (λe=>q (e▸p.1)) c i b d m
 .intro id id' o o' a j l c i b hb d
  have f:=(A3 ids σ id o a).2;have k:=(A3 ids σ id' o' j).2;exact hi.st.inj id id' o o' f k l c i b ((Az e (hi.st.lt id o f)).1 hb) ((Az e (hi.st.lt id' o' k)).1 d)
 .intro id o a c b hb
  have f:=(A3 ids σ id o a).2;exact hi.live id o f c b ((Az e (hi.st.lt id o f)).1 hb)
theorem iW{V:View}{e:E}{x:Bool×List C}{v:Value}(h:Of e=some x)(ht:NF V x v):Bh V e v:=by
 cases e with
 | o c=>injection h with h;subst h;obtain⟨c',b,d⟩:=ht;injection b with b;subst b;exact d
 | a cs=>injection h with h;subst h;exact ht
 | t=>cases h
 | e=>cases h
inductive FT (σ:Ac):List (Bool×List C)->List (Bool×List C)->Prop
 | nil:FT σ [] []
 | cons {e e':E} {x x':Bool×List C} {xs xs':List (Bool×List C)}:Of e=some x->Of e'=some x'->EZ σ e e'->FT σ xs xs'->FT σ (x::xs) (x'::xs')
theorem FT.get{xs xs':List (Bool×List C)}(h:FT σ xs xs'):xs'.length=xs.length/\∀(j:Nat) x',xs'[j]?=some x'->∃x e e',xs[j]?=some x/\Of e=some x/\Of e'=some x'/\EZ σ e e':=by
 induction h with
 | nil=>exact⟨rfl,λj x h=>by simp at h⟩
 | @cons e e' x x' xs xs' f d c _ b=>
  refine⟨by simp[b.1],λj y a=>?_⟩
  cases j with
  | zero=>simp at a;subst a;exact⟨x,e,e',rfl,f,d,c⟩
  | succ j=>exact b.2 j y (by simpa using a)
theorem FT.rel{V:View}{xs xs':List (Bool×List C)}(hi:Inv TB Γ V σ)(h:FT σ xs xs'){v:Value}(c:Bh V (.t xs) v):Bh (GJ V σ) (.t xs') v:=by
 obtain⟨vs,k,i,g⟩:=c;obtain⟨d,f⟩:=h.get;refine⟨vs,k,by rw[i,d],λj x' v' a b=>?_⟩;obtain⟨x,e,e',o,n,m,l⟩:=f j x' a;exact GA m (l.rel hi (iW n (g j x v' o b)))
theorem AE.toPure{g:FuncId}{args:List E}{post:E->Ac->Nat->Prop}{r:E}(h:AE P TB g 0 [] 0 args post)
 (hp:∀x σ nx,post x σ nx->∃ids,EZ (Hz σ ids) x r\/∃xs xs',x=.t xs/\r=.t xs'/\FT (Hz σ ids) xs xs'):Pure P TB g args r:=
 ⟨h.1,λV vs S c ha=>(h.2 V vs S c ha).mono λ_ _ ⟨V',v,x,σ',j,i,b,d,f⟩=>by
  obtain⟨ids,a⟩:=hp _ _ _ f
  have e:LF V 0=V:=by have:=c.nx;unfold LF;rw[<-this]
  rw[e]at b;have hi:=b.sub λid o h=>(EF (σ:=σ') (ids:=ids) h).2;refine⟨GJ V' (Hz σ' ids),v,r,BR ids σ',j,i,b.freeze ids,?_,rfl⟩
  rcases a with a|⟨xs,xs',rfl,rfl,a⟩
  .exact a.rel hi d
  .exact a.rel hi d⟩
end
section
variable {P:Program}{TB:BB}
end
end Go.Am
namespace Go.Am
open Go Go.Proofs
set_option maxHeartbeats 1000000
set_option maxRecDepth 4000
attribute [local irreducible] A5 CQ Lex BC Al Spec
variable {tabs:List (Nat×Obj)}
end Go.Am
namespace Go.Am
open Go Go.Proofs
set_option maxHeartbeats 1000000
set_option maxRecDepth 4000
attribute [local irreducible] A5 CQ Lex BC Al Spec
section
variable {s t s' t':Sys}{p p':AI}{al:Int}(hI:E5 s p t al)(hI':E5 s' p' t' al)(hL:VL (LS ⟨s',p',al⟩) (LS ⟨s,p,al⟩) al)
include hI hI' hL
end
theorem Vq{s t:Sys}{p:AI}{al:Int}(hI:E5 s p t al){x:AW}{r:Nat}(c:Hi s p al x r){w:W}{b:Bool}(h:GC s t p al (BN s p al x)=some (w,b)):Ax (AR al) w:=by
 obtain⟨g,a,_⟩:=IZ hI c;unfold GC at h;split at h
 .rename_i u e
  injection h with h;injection h with h f
  subst h;exact Oy (Sf hI g a e).1
 .split at h
  .rename_i v d
   injection h with h;injection h with h f
   subst h;have:=(Qe d).1;rw[a]at this;exact Oy this
  .cases h
end Go.Am
namespace Go.Am
open Go Go.Proofs
theorem Yt{s t:Sys}{p:AI}{al:Int}:∀(k:Nat) (x:AW),(EU s t p al k x).length<=k+1
 | 0,x=>by simp[EU]
 | k+1,x=>by
  simp only[EU]
  cases ID s t p al x with
  | none=>simp
  | some y=>have:=Yt (s:=s) (t:=t) (p:=p) (al:=al) k y;simp only[ut];omega
def Ws(s t:Sys)(p:AI)(al:Int)(x:AW)(v:W):Prop:=OD (AR al) x v\/∃w b,GC s t p al (BN s p al x)=some (w,b)/\(v=w\/aZ (LS ⟨s,p,al⟩) (AR al) x w v)
theorem cI{s t:Sys}{p:AI}{al:Int}(h:AY ⟨s,p,al⟩=true){x:AW}(a:x∈BT s t p al):∃r,Hi s p al x r:=by
 obtain⟨i,hi⟩:=ve.1 a;exact⟨_,RQ 11 (Vz h).2 i x hi⟩
theorem VA{s:Sys}{p:AI}{al:Int}{x:AW}{r:Nat}(b:Hi s p al x r):HE al 20000 x:=by
 obtain⟨_,_,_,a,_⟩:=C3 b.v;have:=a.bd;rwa[DO]at this
section
variable {s t:Sys}{p:AI}{al:Int}(hI:E5 s p t al)(h:AY ⟨s,p,al⟩=true)
include hI h
theorem de{x:AW}(g:x∈BT s t p al):EX 288238 (Ws s t p al x):=by
 obtain⟨r,e⟩:=cI h g;have hb:=VA e;refine((NR hb).or (b:=286474) ?_).sub (b:=288238) (λv c=>c) (by omega)
 cases f:GC s t p al (BN s p al x) with
 | none=>exact .none λv ⟨w,b,a,_⟩=>by cases a
 | some wb=>
  obtain⟨w,b⟩:=wb;have d:=Vq hI e f;have i:=Na f;refine((EX.map (n:=1) (p:=λv=>v=w) (λ_:Unit=>w) [()] (by simp) λv c=>⟨(),by simp,c⟩).or (dC (L:=LS ⟨s,p,al⟩) hb d (by omega))).sub (b:=286474) (λv ⟨w',b',a,c⟩=>?_) (by omega)
  injection a with a
  injection a with a _
  subst a;exact c
theorem kH{x:AW}(k:x∈BT s t p al)(v:W)(a:Ws s t p al x v):okB al v:=by
 obtain⟨r,f⟩:=cI h k;have hb:=VA f
 rcases a with a|⟨w,b,g,a⟩
 .exact hb.on (J0 al) (by omega) v a
 .have d:=Vq hI f g
  have e:=Na g
  rcases a with rfl|a
  .exact⟨d,by omega⟩
  .rcases a with a|a|⟨z,i,u,l,y,j,a⟩
   .exact hb.on (J0 al) (by omega) v a
   .exact(hb.mono (by omega)).ua (J0 al) d (by omega) v a
   .obtain⟨q,_,rfl⟩:=Jo i
    exact(Ue hb (λc m=>d c (by simp[m])) (by simp at e;omega) l).tn (J0 al) (by omega) y j v a
theorem kG:∃ok:W->Prop,(∀w,ok w->pH al w)/\VB (Dm s p al) ok/\(∀y∈Ff (LS ⟨s,p,al⟩) (AR al) 13 Br,JC ok (AR al) y)/\
 ∀x∈BT s t p al,JC ok (AR al) x/\∀w b,GC s t p al (BN s p al x)=some (w,b)->ok w/\∀v,aZ (LS ⟨s,p,al⟩) (AR al) x w v->ok v:=by
 have i:=Tl (L:=LS ⟨s,p,al⟩) (KM al);have g:EX (12*288238) (λv=>∃x∈BT s t p al,Ws s t p al x v):=EX.ex (n:=12) (b:=288238) (q:=λx v=>Ws s t p al x v) (BT s t p al) (Yt 11 _) (λx c=>de hI h c) λw d=>d;have l:=i.or g
 have e:∀w,((∃y∈Ff (LS ⟨s,p,al⟩) (AR al) 13 Br,OD (AR al) y w)\/∃x∈BT s t p al,Ws s t p al x w)->okB al w:=λw d=>by
  rcases d with ⟨y,f,a⟩|⟨x,c,a⟩
  .exact(KM al).tn (J0 al) (by omega) y f w a
  .exact kH hI h c w a
 obtain⟨k,m⟩:=mA (te:=Dm s p al) l (by omega) (λw d=>by rw[DO];exact e w d);rw[DO]at k;exact⟨_,k,m,λy f v a=>.inl ⟨y,f,a⟩,λx c=>⟨λv a=>.inr ⟨x,c,.inl a⟩,λw b j=>⟨.inr ⟨x,c,.inr ⟨w,b,j,.inl rfl⟩⟩,λv a=>.inr ⟨x,c,.inr ⟨w,b,j,.inr a⟩⟩⟩⟩⟩
end
theorem Ld{σ:Ac}{T U S:TypeId}{i j k n m:Nat}{al:Int}{l:JF}{nx:List (List Int)}{ac:List Bool}(h:look σ i=some (.cells T 1 (AN l)))(g:look σ j=some (.cells U 1 (ac.map AO)))(f:look σ k=some (.sld S (sI l)))(e:l.map (·.2)=nx)(b:l.length=n)(c:ac.length=m):EZ σ (.a [.d (iD al),.arr i 1 0 n,.arr j 1 0 m]) (.a [.d (iD al),.d (Ce nx),.d (EP ac)]):=by
 subst b c e;exact .a (ds:=[iD al,Ce (l.map (·.2)),EP ac]) (.cons .d (.cons (.fD h f) (.cons (.full g (by simp[d6]) (io _)) .nil)))
end Go.Am
namespace Go.Am
open Go Go.Proofs
set_option maxHeartbeats 1000000
set_option maxRecDepth 4000
attribute [local irreducible] A5 CQ Lex BC Al Spec
variable {TB:BB}
theorem cm{P:Program}{Γ:Ctx}{d:Option Tmp}{ty:TypeId}{pos:String}{af:Array Edge}{g:Option (Nat×Bool)}{f:Env}{σ:Ac}{nx:Nat}{t:TypeId}{x lo hi:Operand}{s z out:W}{a b:Int}{k k':IntKind}[ht:De P t](i:ev f x=some (eT s))(j:ev f lo=some (eI k a))(m:ev f hi=some (eI k' b))(c:s=z)(h:(0<=a/\a<=b/\b<=z.length)/\(z.take b.toNat).drop a.toNat=out) :
 A5 P TB Γ ⟨d,.slice t x (some lo) (some hi) none,ty,pos,af,g⟩ f σ nx (eT out):=by
 subst c;have n:=PT (P:=P) (TB:=TB) (Γ:=Γ) (d:=d) (ty:=ty) (pos:=pos) (af:=af) (g:=g) (σ:=σ) (nx:=nx) (t:=t) (x:=x) (lo:=some lo) (hi:=some hi) (l:=some (k,a)) (h:=some (k',b)) i (by simp[gh,j]) (by simp[gh,m]) h.1.1 h.1.2.1 h.1.2.2;have e:(s.take (NY s.length (some (k',b))).toNat).drop (Oa (some (k,a))).toNat=out:=h.2;rwa[e]at n
def rL:W:=[48,49,50,51,52,53,54,55,56,57,97,98,99,100,101,102,103,104,105,106,107,108,109,110,111,112,113,114,115,116,117,118,119,120,121,122]
def qd:W:=(List.range 100).flatMap λn=>[UInt8.ofNat (48+n / 10),UInt8.ofNat (48+n%10)]
theorem kO:((List.range 10).all λn=>decide ((rL.take (n+1)).drop n=Fc n))=true:=by decide +kernel
theorem kQ:((List.range 100).all λn=>decide (n<10) || decide ((qd.take (n*2+2)).drop (n*2)=Fc n))=true:=by decide +kernel
theorem kP:qd.length=200:=by decide +kernel
theorem nL{n:Int}(h:0<=n/\n<10):(0<=n/\n<=n+1/\n+1<=rL.length)/\(rL.take (n+1).toNat).drop n.toNat=Fc n.toNat:=by
 refine⟨⟨h.1,by omega,by show n+1<=36;omega⟩,?_⟩;have:=ge.1 kO n.toNat (mt.2 (by omega));rw[show (n+1).toNat=n.toNat+1 by omega];exact of_decide_eq_true this
theorem nM{n:Int}(h:10<=n/\n<100):(0<=n*2/\n*2<=n*2+2/\n*2+2<=qd.length)/\(qd.take (n*2+2).toNat).drop (n*2).toNat=Fc n.toNat:=by
 refine⟨⟨by omega,by omega,by rw[kP];omega⟩,?_⟩;have:=ge.1 kQ n.toNat (mt.2 (by omega));rw[t6,decide_eq_true_eq,decide_eq_true_eq]at this;rw[show (n*2+2).toNat=n.toNat*2+2 by omega,show (n*2).toNat=n.toNat*2 by omega]
 rcases this with a|a
 .omega
 .exact a
theorem jV(n:Int)(h:0<=n/\n<100):Pure Tryz.prog TB 227 [eI .i64 n] (eT (Fc n.toNat)):=by
 refine eG Tryz.func227 rfl (by kernel_rfl) rfl ?_;intro Γ a;(repeat first|refine tA rfl ?_|refine s2 rfl λ_ d=>?_|refine aU rfl ?_|apply Aa);(refine aC rfl ?_ ?_<;>rintro⟨⟩)
 .have c:=nL (n:=n) (by (simp only[oZ] at *;omega))
  (repeat first|(refine sA rfl ?_ ?_;first|exact tI|omega)|(refine Ai rfl ?_;refine gA rfl ?_;first|refine gS (λ_ _=>cm (z:=rL) rfl rfl rfl (by decide +kernel) c) ?_)|refine aU rfl ?_|apply Aa);(subst_vars;exact aR ⟨_,rfl,rfl⟩)
 apply aK;have b:=nM (n:=n) (by (simp only[oZ] at *;omega));(repeat first|(refine sA rfl ?_ ?_;first|exact tI|omega)|(refine Ai rfl ?_;refine gA rfl ?_;first|refine gS (λ_ _=>cm (z:=qd) rfl rfl rfl (by decide +kernel) b) ?_)|refine aU rfl ?_|apply Aa);(subst_vars;exact aR ⟨_,rfl,rfl⟩)
theorem UA(n:Int)(h:0<=n/\n<100):Pure Tryz.prog TB 224 [eI .i64 n,eI .i64 10] (eT (Fc n.toNat)):=by
 refine eG Tryz.func224 rfl (by kernel_rfl) rfl ?_;intro Γ b;have e:=jV (TB:=TB) n h;(repeat first|refine tA rfl ?_|refine s2 rfl λ_ a=>?_|refine aU rfl ?_|apply Aa)
 ((refine aC rfl ?_ ?_<;>rintro⟨⟩);all_goals try (simp at a;done))
 (repeat' first|refine tA rfl ?_|refine s2 rfl λ_ a=>?_|refine sP rfl (e) rfl ?_|refine s3 rfl ?_ ?_<;>rintro rfl|refine aU rfl ?_|apply Aa|(refine aC rfl ?_ ?_<;>rintro⟨⟩))
 all_goals first|(exfalso;(simp only[oZ] at *;omega);done)|skip
 all_goals (repeat first|refine sP rfl (e) rfl ?_)
 all_goals (subst_vars;exact aR ⟨_,rfl,rfl⟩)
theorem g8(n:Int)(h:0<=n/\n<100):Pure Tryz.prog TB 211 [eI .i64 n] (eT (Fc n.toNat)):=by
 refine eG Tryz.func211 rfl (by kernel_rfl) rfl ?_;intro Γ a;(repeat first|refine tA rfl ?_|refine sP rfl (UA n h) rfl ?_|refine aU rfl ?_|apply Aa);(subst_vars;exact aR ⟨_,rfl,rfl⟩)
theorem bE(n:Int)(h:0<=n/\n<100):Pure Tryz.prog TB 171 [eI .i64 n] (eT (Fc n.toNat)):=by
 refine eG Tryz.func171 rfl (by kernel_rfl) rfl ?_;intro Γ a;(repeat first|refine tA rfl ?_|refine sP rfl (g8 n h) rfl ?_|refine aU rfl ?_|apply Aa);(subst_vars;exact aR ⟨_,rfl,rfl⟩)
theorem ed{α:Type}{l:List α}{z:α}{k:Nat}(h:l[k]?=some z):HZ l z (k+1)=HZ l z k:=by
 have hk:=(am.1 h).1
 have e:k-(l.take k).length=0:=by simp;omega
 unfold HZ;rw[d9,h,show l.length-k=(l.length-(k+1))+1 by omega,vO];simp
theorem Uo{a:AI}(h:HW a):Pure Tryz.prog TB 116 [Bp a] (Aj (Up a)):=by
 have hb:=h.b.1;have hn1:=h.n1;have hac:=h.ac
 have B:(I8 a).length=a.nx.length:=by simp[I8,hac]
 have m:∀(l:List Int) (r:Nat->Nat) k,(HZ (l.map Au) (Au 0) k).map (C.Ch r)=HZ (l.map Au) (Au 0) k:=λl r k=>iq (λx N=>by obtain⟨y,_,rfl⟩:=d8.1 N;rfl) rfl;refine eG Tryz.func116 rfl (by kernel_rfl) rfl ?_;intro Γ d;(repeat first|refine sN rfl ?_|refine tA rfl ?_|refine aU rfl ?_|apply Aa);(refine pW rfl ?_ rfl (by rfl);refine Jg rfl rfl (by rfl) (by rfl) (co rfl) (by omega) (by omega) (by omega) ?_);(repeat first|refine tA rfl ?_|refine aU rfl ?_|apply Aa);apply aB;refine aL (α:={i:Nat // i<=a.nx.length}) [1,20] [] rfl rfl (λs=>[(3,.o (.arr 0 1 0 a.nx.length)),(21,eI .i64 s.1)]) (λs=>[(0,.cells 3 1 (HZ ((I8 a).map Au) (Au 0) s.1))]) 1 (λs=>a.nx.length-s.1) (⟨0,by omega⟩) d rfl (by (simp[cX,zC,d,im,m,B])) ?_;rintro⟨i,hi⟩;(try dsimp only[cA,cB]);by_cases hlt:i<a.nx.length
 .obtain⟨bb,T⟩:=get_some (l:=a.ac) (k:=i) (by omega)
  have hbb':=get_map (g:=Iq) T
  have M:(I8 a)[i]?=some (if bb then 1 else 0):=by unfold I8;rw[f9,T];rfl
  have hg:=Xq (l:=(I8 a).map Au) (z:=Au 0) (k:=i) (by simp[B,hlt]);(repeat first|refine s2 rfl λ_ f=>?_|refine aU rfl ?_|apply Aa)
  ((refine aC rfl ?_ ?_<;>rintro⟨⟩);all_goals try(exfalso;(simp only[oZ] at *;omega)))
  apply aK;refine aS (aB ?_);cases bb
  .have Z:=ed (l:=(I8 a).map Au) (z:=Au 0) (k:=i) (by simp[M])
   (repeat first|refine tA rfl ?_|(refine s4 rfl ‹_› rfl ?_ ?_;omega)|refine aU rfl ?_|apply Aa)
   ((refine aC rfl ?_ ?_<;>rintro⟨⟩);all_goals try (simp at f;done))
   apply aK;(repeat first|(refine sA rfl ?_ ?_;first|exact tI|omega)|refine aU rfl ?_|apply Aa);refine⟨⟨i+1,by omega⟩,by dsimp only;(omega),[0],?_⟩;simp[cX,zC,d,m,Z]
  .have Z:=Xr (l:=(I8 a).map Au) (z:=Au 0) (k:=i) (x:=Au 1) (by simp[M])
   (repeat first|refine tA rfl ?_|(refine s4 rfl ‹_› rfl ?_ ?_;omega)|refine aU rfl ?_|apply Aa)
   ((refine aC rfl ?_ ?_<;>rintro⟨⟩);all_goals try (simp at f;done))
   (repeat first|(refine sA rfl ?_ ?_;first|exact tI|omega)|refine t4 rfl ‹_› rfl ?_|refine aU rfl ?_|apply Aa);refine⟨⟨i+1,by omega⟩,by dsimp only;(omega),[0],?_⟩;have w:Ae (Au 0) 0 (eC (eI .i64 1))=Au 1:=rfl;rw[w,Z];simp[cX,zC,d,m]
 obtain rfl:i=a.nx.length:=by omega
 have R:HZ ((I8 a).map Au) (Au 0) a.nx.length=(I8 a).map Au:=by
  have:=Xp ((I8 a).map Au) (Au 0);rwa[io,B]at this
 rw[R];(repeat first|refine s2 rfl λ_ f=>?_|refine aU rfl ?_|apply Aa)
 ((refine aC rfl ?_ ?_<;>rintro⟨⟩);all_goals try(exfalso;(simp only[oZ] at *;omega)))
 apply aE;refine Al.HN [0] [1,20] rfl [(3,Aj (I8 a))] ⟨⟨_,rfl,.o (.full (by simp) rfl (by simp[d6]) (by simp[B]))⟩,trivial⟩ ?_;(try dsimp only[cA,cB]);(repeat first|refine tA rfl ?_|refine aU rfl ?_|apply Aa);apply aB;refine aL (α:={s:(List Int×Nat)×Nat // VM a s.1.1 s.1.2 s.2}) [1] [] rfl rfl (λs=>[(3,Aj s.1.1.1),(5,eI .i64 s.1.1.2)]) (λs=>[]) 0 (λs=>s.1.2) (⟨⟨⟨I8 a,0⟩,a.nx.length⟩,VM.zero h⟩) d rfl (by (simp[cX,zC,d])) ?_;rintro⟨⟨⟨cs,n⟩,fu⟩,hI⟩;(try dsimp only[cA,cB]);have hI:VM a cs n fu:=hI;have S:=hI.len;have F:=hI.tw;have Y:=hI.step h;have K:=λq hq=>dM (a:=a) (cs:=cs) (q:=q) hq;have t:=dN a cs;have U:=Zh (a:=a) F;have hKu:=hX (a:=a) F;generalize OM a cs=KT at *
 have A:(Fx KT).length=a.nx.length:=by simp[Fx,t]
 have hnr:n<=64:=by have:=hI.cnt;have h9:=Ks cs;omega
 apply aB;(repeat first|refine aU rfl ?_);(refine pW rfl ?_ rfl (by rfl);refine IC ?_);(repeat first|refine sN rfl ?_|refine tA rfl ?_|refine aU rfl ?_|apply Aa);(refine pW rfl ?_ rfl (by rfl);refine Jg rfl rfl (by rfl) (by rfl) (co rfl) (by omega) (by omega) (by omega) ?_);(repeat first|refine sN rfl ?_|refine tA rfl ?_|refine aU rfl ?_|apply Aa);apply aB;refine aL (α:={q:Nat // q<=a.nx.length}) [1,3,5,6,7,38,39] [] rfl rfl (λs=>[(40,eI .i64 s.1)]) (λs=>[(0,.mp (GM (VK (uq (KT.take s.1))))),(1,.cells 3 1 (HZ ((Fx KT).map Au) (Au 0) s.1))]) 2 (λs=>a.nx.length-s.1) (⟨0,by omega⟩) d rfl (by (simp[cX,zC,d,cN,im,m,A,S,uq,uniq,VK,GM])) ?_;rintro⟨q,hq⟩;(try dsimp only[cA,cB]);by_cases J:q<a.nx.length
 .obtain⟨row,H,hrl,hri⟩:=h.b.2 q J
  have hrow':=get_map (g:=Ek) H;have hrD:a.nx.getD q []=row:=Gg H;obtain⟨c,M⟩:=get_some (l:=cs) (k:=q) (by omega);have hc':=get_map (g:=A9) M;have hcD:cs.getD q 0=c:=Gg M;have V:=K q J;rw[hO,hrD,hcD]at V;have hcb:=F c (ce M);have Sy:=bE (TB:=TB) c hcb;have hdl:=Qn c.toNat;have hll:(Ab a.al).length<=6:=AA _ 6;(repeat first|refine s2 rfl λ_ f=>?_|refine aU rfl ?_|apply Aa)
  ((refine aC rfl ?_ ?_<;>rintro⟨⟩);all_goals try(exfalso;(simp only[oZ] at *;omega)))
  apply aK;refine aS (aB ?_);(repeat first|refine sN rfl ?_|refine tA rfl ?_|(refine s4 rfl ‹_› rfl ?_ ?_;omega)|refine sP rfl (Sy) rfl ?_|refine aU rfl ?_|apply Aa);apply aB;refine aL (α:={s:Nat×W // s.1<=row.length/\s.2=Fc c.toNat++EW ((row.take s.1).map λx=>cs.getD x.toNat 0)}) [1,3,5,6,7,8,38,39,40,50,51] [0,1] rfl rfl (λs=>[(10,eT s.1.2),(52,eI .i64 s.1.1)]) (λs=>[]) 2 (λs=>row.length-s.1.1) (⟨⟨0,Fc c.toNat⟩,by simp,by simp[EW]⟩) d rfl (by (simp[cX,zC,d,cN,m])) ?_;rintro⟨⟨j,u⟩,hj,L⟩;(try dsimp only[cA,cB]);have hj:j<=row.length:=hj;have L:u=Fc c.toNat++EW ((row.take j).map λx=>cs.getD x.toNat 0):=L
  have hul:u.length<=2+3*j:=by
   have:=fi ((row.take j).map λx=>cs.getD x.toNat 0);rw[io,vo]at this;rw[L,uD];omega
  by_cases hjl:j<row.length
  .obtain⟨x,N⟩:=get_some hjl
   have hx':=get_map (g:=A9) N;have hxi:=hri j x N;obtain⟨e,R⟩:=get_some (l:=cs) (k:=x.toNat) (by omega);have he':=get_map (g:=A9) R;have heD:cs.getD x.toNat 0=e:=Gg R;have heb:=F e (ce R);have hie:=bE (TB:=TB) e heb;have hdl2:=Qn e.toNat
   have X:u++([44]++Fc e.toNat)=Fc c.toNat++EW ((row.take (j+1)).map λx=>cs.getD x.toNat 0):=by
    have e1:(row.take (j+1)).map (λx=>cs.getD x.toNat 0)=(row.take j).map (λx=>cs.getD x.toNat 0)++[e]:=by
     rw[d9,N,uz,<-heD];rfl
    rw[e1,fh,L,vY];rfl
   (repeat first|refine s2 rfl λ_ f=>?_|refine aU rfl ?_|apply Aa)
   ((refine aC rfl ?_ ?_<;>rintro⟨⟩);all_goals try(exfalso;(simp only[oZ] at *;omega)))
   apply aK;refine aS (aB ?_);(repeat first|(refine sA rfl ?_ ?_;first|exact tI|omega|simp only[oZ] at *;omega)|(refine s4 rfl ‹_› rfl ?_ ?_;omega)|refine sP rfl (hie) rfl ?_|(refine Ai rfl ?_;refine gA rfl ?_;first|refine gS (λ_ _=>m8 rfl rfl (by simp;omega)) ?_)|refine aU rfl ?_|apply Aa);refine⟨⟨⟨j+1,u++([44]++Fc e.toNat)⟩,by dsimp only;omega,X⟩,by dsimp only;(omega),[0,1],?_⟩;simp[cX,zC,d,cN,m]
  .obtain rfl:j=row.length:=by omega
   rw[i9]at L;rw[<-L]at V;have hno:=lH V;have P:=dG (uq (KT.take q)) u;have v:=P0 V
   have hnq:(Fx KT)[q]?=some (Eg KT u):=by unfold Fx;rw[f9,V];rfl
   have hg:=Xq (l:=(Fx KT).map Au) (z:=Au 0) (k:=q) (by simp[A,J]);have G:=Xr (l:=(Fx KT).map Au) (z:=Au 0) (k:=q) (x:=Au (Eg KT u)) (by simp[hnq]);have w:Ae (Au 0) 0 (eC (eI .i64 (Eg KT u)))=Au (Eg KT u):=rfl;(repeat first|refine s2 rfl λ_ f=>?_|refine aU rfl ?_|apply Aa)
   ((refine aC rfl ?_ ?_<;>rintro⟨⟩);all_goals try(exfalso;(simp only[oZ] at *;omega)))
   apply aE;by_cases p:u∈uq (KT.take q)
   .rw[if_pos p]at v
    have Q:=P.1 p;rw[<-hno.1 p]at Q;(repeat first|refine tA rfl ?_|refine s2 rfl λ_ f=>?_|(refine Ai rfl ?_;refine gA rfl ?_;first|refine gQ (js Q rfl rfl rfl) rfl ?_)|refine aU rfl ?_|apply Aa)
    ((refine aC rfl ?_ ?_<;>rintro⟨⟩);all_goals try (simp at f;done))
    apply aK;(repeat first|(refine sA rfl ?_ ?_;first|exact tI|omega)|refine t4 rfl ‹_› rfl ?_|refine aU rfl ?_|apply Aa);refine⟨⟨q+1,by omega⟩,by dsimp only;(omega),[0,1],?_⟩;rw[w,G];simp[cX,zC,d,cN,m,v]
   .rw[if_neg p]at v
    have Q:=P.2 p;have I:=hno.2 p;(repeat first|refine tA rfl ?_|refine s2 rfl λ_ f=>?_|(refine Ai rfl ?_;refine gA rfl ?_;first|refine gQ (jr Q rfl rfl rfl) rfl ?_)|refine aU rfl ?_|apply Aa)
    ((refine aC rfl ?_ ?_<;>rintro⟨⟩);all_goals try (simp at f;done))
    (repeat first|refine tA rfl ?_|(refine Ai rfl ?_;refine gA rfl ?_;first|refine gQ (Vl rfl rfl) rfl ?_)|refine aU rfl ?_|apply Aa);rw[<-I];(refine Ai rfl ?_;refine FB ?_ rfl (by rfl);refine mW rfl rfl rfl rfl Q ?_);rw[I,<-UM,<-v,<-I];(repeat first|(refine sA rfl ?_ ?_;first|exact tI|omega)|refine t4 rfl ‹_› rfl ?_|refine aU rfl ?_|apply Aa);refine⟨⟨q+1,by omega⟩,by dsimp only;(omega),[0,1],?_⟩;rw[w,G];simp[cX,zC,d,cN,m]
 .obtain rfl:q=a.nx.length:=by omega
  have hT:KT.take a.nx.length=KT:=by rw[<-t,i9]
  have he2:HZ ((Fx KT).map Au) (Au 0) a.nx.length=(Fx KT).map Au:=by
   have:=Xp ((Fx KT).map Au) (Au 0);rwa[io,A]at this
  have hun:=Ks KT;rw[hT,he2];(repeat first|refine s2 rfl λ_ f=>?_|refine aU rfl ?_|apply Aa)
  ((refine aC rfl ?_ ?_<;>rintro⟨⟩);all_goals try(exfalso;(simp only[oZ] at *;omega)))
  apply aE;refine Al.HN [1] [1,5,6] rfl [(7,Aj (Fx KT))] ⟨⟨_,rfl,.o (.full (by simp) rfl (by simp[d6]) (by simp[A,S]))⟩,trivial⟩ ?_;(try dsimp only[cA,cB])
  rcases Y with ⟨g1,g2⟩|⟨g1,g2,g3⟩
  .rw[g2,<-U]
   (repeat first|refine tA rfl ?_|refine s2 rfl λ_ f=>?_|(refine Ai rfl ?_;refine gA rfl ?_;first|refine gQ (Vl rfl rfl) rfl ?_)|refine aU rfl ?_|apply Aa)
   ((refine aC rfl ?_ ?_<;>rintro⟨⟩);all_goals try(exfalso;(simp only[oZ] at *;omega)))
   (repeat first|refine tA rfl ?_|refine aU rfl ?_|apply Aa);(subst_vars;exact aR ⟨_,rfl,rfl⟩)
  .rw[<-U,<-hKu]at g3
   (repeat first|refine tA rfl ?_|refine s2 rfl λ_ f=>?_|(refine Ai rfl ?_;refine gA rfl ?_;first|refine gQ (Vl rfl rfl) rfl ?_)|refine aU rfl ?_|apply Aa)
   ((refine aC rfl ?_ ?_<;>rintro⟨⟩);all_goals try(exfalso;(simp only[oZ] at *;omega)))
   apply aK;(repeat first|refine tA rfl ?_|(refine Ai rfl ?_;refine gA rfl ?_;first|refine gQ (Vl rfl rfl) rfl ?_)|refine aU rfl ?_|apply Aa);refine⟨⟨⟨⟨Fx KT,(uq KT).length⟩,fu-1⟩,g3⟩,by dsimp only;(omega),[],?_⟩;simp[cX,zC,d]
theorem Xs{a:AI}(h:HW a):Pure Tryz.prog TB 58 [Bp a] (Bp (JY a)):=by
 have hb:=h.b.1;have N:=h.n1;have T:=h.ac;have Y:=Uo (TB:=TB) h;have P:=gu h
 have p:∀q:Nat,q<a.nx.length->(Up a)[q]?=some (Ig a q):=λq Z=>by
  obtain⟨x,n⟩:=get_some (l:=Up a) (k:=q) (by omega);rw[n];unfold Ig;rw[f6,kw,n];rfl
 have X:Pure Tryz.prog TB 117 [Bp (CN a a.nx.length)] (Bp (JY a)):=mC (o3 h).1;refine eG Tryz.func58 rfl (by kernel_rfl) rfl ?_;intro Γ c;(repeat first|refine tA rfl ?_|refine sP rfl (Y) rfl ?_|refine aU rfl ?_|apply Aa);(refine pW rfl ?_ rfl (by rfl);refine IB 1 1 63 2 1 4 rfl rfl (by decide) rfl rfl (by rfl) (by rfl) ?_);(repeat first|refine sN rfl ?_|refine tA rfl ?_|refine aU rfl ?_|apply Aa);apply aB;refine aL (α:={k:Nat // k<=a.nx.length}) [1,2,3,4,15,16] [0] rfl rfl (λs=>[(17,eI .i64 s.1)]) (λs=>[(1,.cells 63 1 ((CN a s.1).nx.map λr=>[.d (Ed r)])),(2,.cells 4 1 ((CN a s.1).ac.map AO)),(3,.cells 29 3 [[.d (iD a.al),.arr 1 1 0 (CN a s.1).nx.length,.arr 2 1 0 (CN a s.1).nx.length]])]) 4 (λs=>a.nx.length-s.1) (⟨0,by omega⟩) c rfl (by (simp[cX,zC,c,eC,Bl,Ae,CN,Bv])) ?_;rintro⟨k,hk⟩;(try dsimp only[cA,cB]);by_cases f:k<a.nx.length
 .have S:=p k f
  have R:=get_map (g:=A9) S;have L:=eK a k;obtain⟨r,v⟩:=get_some f;have K:=get_map (g:=Ek) v;have y:a.nx.getD k []=r:=Gg v;obtain⟨bb,u⟩:=get_some (l:=a.ac) (k:=k) (by omega);have G:=get_map (g:=Iq) u;have A:a.ac.getD k false=bb:=Gg u
  have J:r.length<=6:=by
   obtain⟨row,m,V,_⟩:=h.b.2 k f
   rw[v]at m;injection m with m;subst m
   have:(Ab a.al).length<=6:=AA _ 6;omega
  have w:∀x∈r,0<=x/\x<(a.nx.length:Int):=λx n=>by
   obtain⟨row,m,V,U⟩:=h.b.2 k f
   rw[v]at m;injection m with m;subst m
   obtain⟨j,F⟩:=ve.1 n;exact U j x F
  have M:=XJ a k;(repeat first|refine s2 rfl λ_ i=>?_|refine aU rfl ?_|apply Aa)
  ((refine aC rfl ?_ ?_<;>rintro⟨⟩);all_goals try(exfalso;(simp only[oZ] at *;omega)))
  apply aK;refine aS (aB ?_)
  rcases ZO h f with ⟨Q,e⟩|⟨Q,e⟩
  ·(repeat first|refine tA rfl ?_|(refine s4 rfl ‹_› rfl ?_ ?_;omega)|refine s2 rfl λ_ i=>?_|refine aU rfl ?_|apply Aa)
   ((refine aC rfl ?_ ?_<;>rintro⟨⟩);all_goals try(exfalso;(simp only[oZ] at *;omega)))
   apply aE;(repeat first|(refine sA rfl ?_ ?_;first|exact tI|omega)|refine aU rfl ?_|apply Aa);refine⟨⟨k+1,by omega⟩,by dsimp only;(omega),[0,1,2,3],?_⟩;simp[cX,zC,c,e]
  .rw [y,A]at e
   (repeat first|refine tA rfl ?_|(refine s4 rfl ‹_› rfl ?_ ?_;omega)|refine s2 rfl λ_ i=>?_|refine aU rfl ?_|apply Aa)
   ((refine aC rfl ?_ ?_<;>rintro⟨⟩);all_goals try(exfalso;(simp only[oZ] at *;omega)))
   apply aK;(repeat first|refine aU rfl ?_);(refine pW rfl ?_ rfl (by rfl);refine Fh 1 3 ?_);(repeat first|refine sN rfl ?_|refine tM rfl ?_|(refine s4 rfl ‹_› rfl ?_ ?_;omega)|refine aU rfl ?_|apply Aa);apply aB;refine aL (α:={j:Nat // j<=r.length}) [1,2,3,4,5,15,16,17,31,32] [0,1,2,3] rfl rfl (λs=>[(7,.o (.arr 4 1 0 s.1)),(33,eI .i64 s.1)]) (λs=>[(4,.cells 3 1 (((r.take s.1).map (Ig a)).map Au))]) 5 (λs=>r.length-s.1) (⟨0,by omega⟩) c rfl (by (simp[cX,zC,c,eC,Bl,Ae])) ?_;rintro⟨j,F⟩;(try dsimp only[cA,cB]);by_cases z:j<r.length
   .obtain⟨x,n⟩:=get_some z
    have I:=get_map (g:=A9) n;have H:=w x (ce n);have t:=p x.toNat (by omega);rw[show ((x.toNat:Nat):Int)=x by omega]at t;have B:=get_map (g:=A9) t
    have ht:r.take (j+1)=r.take j++[x]:=by rw[d9,n];rfl
    (repeat first|refine s2 rfl λ_ i=>?_|refine aU rfl ?_|apply Aa)
    ((refine aC rfl ?_ ?_<;>rintro⟨⟩);all_goals try(exfalso;(simp only[oZ] at *;omega)))
    apply aK;refine aS (aB ?_);(repeat first|refine tA rfl ?_|(refine s4 rfl ‹_› rfl ?_ ?_;omega)|refine aU rfl ?_|apply Aa);(refine pA rfl (by first|(simp;done)|(simp;(first|omega|simp only[oZ] at *;omega))) (by simp;omega) ?_);(repeat first|(refine sA rfl ?_ ?_;first|exact tI|omega)|refine aU rfl ?_|apply Aa);refine⟨⟨j+1,by omega⟩,by dsimp only;(omega),[0,1,2,3,5],?_⟩;simp[cX,zC,c,eC,Bl,Ae,ht]
   .obtain rfl:j=r.length:=by omega
    rw[i9];(repeat first|refine s2 rfl λ_ i=>?_|refine aU rfl ?_|apply Aa)
    ((refine aC rfl ?_ ?_<;>rintro⟨⟩);all_goals try(exfalso;(simp only[oZ] at *;omega)))
    apply aE;refine Al.HN [4] [1,2,3,4,5,15,16,17] rfl [(7,Aj (r.map (Ig a)))] ⟨⟨_,rfl,.o (.full (by simp) rfl (by simp[d6]) (by simp))⟩,trivial⟩ ?_;(try dsimp only[cA,cB]);(repeat first|refine tA rfl ?_|refine aU rfl ?_);(refine pA rfl (by simp) (by simp;omega) ?_);(repeat first|refine tA rfl ?_|apply Aa);refine rG (GI [8,10]) (by kernel_rfl) ?_;(repeat first|refine tA rfl ?_|(refine s4 rfl ‹_› rfl ?_ ?_;omega));(refine pA rfl (by first|(simp;done)|(simp;(first|omega|simp only[oZ] at *;omega))) (by simp;omega) ?_);(repeat first|(refine sA rfl ?_ ?_;first|exact tI|omega)|refine aU rfl ?_|apply Aa);refine⟨⟨k+1,by omega⟩,by dsimp only;(omega),[0,5,6,3],?_⟩;simp[cX,zC,c,eC,Bl,Ae,e]
 .obtain rfl:k=a.nx.length:=by omega
  (repeat first|refine s2 rfl λ_ i=>?_|refine aU rfl ?_|apply Aa)
  ((refine aC rfl ?_ ?_<;>rintro⟨⟩);all_goals try(exfalso;(simp only[oZ] at *;omega)))
  apply aE;refine Al.Bb [1,2,3] [(2,.o (.ptr 0 3 0 0)),(4,.o (.ip [iD a.al,Ce (CN a a.nx.length).nx,EP (CN a a.nx.length).ac]))] ⟨⟨_,rfl,.inl rfl⟩,⟨_,rfl,.inr (.o (.box rfl (.cons .d (.cons (.full rfl (by simp[d6]) (by simp)) (.cons (.full rfl (by simp[d6]) (by simp[XJ])) .nil)))))⟩,trivial⟩ ?_;(repeat first|refine tA rfl ?_|refine sP rfl (X) rfl ?_|refine aU rfl ?_|apply Aa);(subst_vars;exact aR ⟨_,rfl,rfl⟩)
theorem Gh(r:Option (List Int)):E.Pl (Mr r):=by
 show ∀x∈[(false,[C.d (tD (Pe r))]),(false,[C.d (bD r.isSome)])],∀c∈x.2,C.Pl c=true
 simp[C.Pl]
end Go.Am
namespace Go.Am
open Go Go.Proofs
set_option maxHeartbeats 1000000
set_option maxRecDepth 4000
attribute [local irreducible] A5 CQ Lex BC Al Spec
noncomputable def BO(s t:Sys)(p:AI)(al:Int)(k:Nat):AW:=(BT s t p al).getD k ⟨[],[]⟩
abbrev Nr(v:Vd):List D:=[iD v.code,iD v.a.al,Ce v.a.nx,EP v.a.ac,tD v.tr,iD v.rd]
abbrev ku(v:Vd):E:=.a [.d (iD v.code),.d (iD v.a.al),.d (Ce v.a.nx),.d (EP v.a.ac),.d (tD v.tr),.d (iD v.rd)]
section
variable {s t:Sys}{p:AI}{al:Int}(hI:E5 s p t al)
include hI
theorem cQ{x:AW}{r:Nat}(b:Hi s p al x r){w:W}(c:Ax (AR al) w)(d:w.length<=4000):Lj (Dm s p al) x w=HB (LS ⟨s,p,al⟩) (AR al) x w:=by
 have e:(CP (Dm s p al) && Bt (Cj (Dm s p al)) (A1 (Dm s p al)) x)=true:=by
  rw[NJ b.v,Js,DO,b.o];rfl
 have a:FQ (A1 (Dm s p al)) w=true:=by rw[DO];exact PD (OL hI) c d
 unfold Lj;rw[e,a,xd,if_pos rfl,Js,DO]
theorem iQ{x:AW}{r:Nat}(a:Hi s p al x r){w:W}{b:Bool}(h:GC s t p al (BN s p al x)=some (w,b))(hb:(b || LS ⟨s,p,al⟩ w)=true):ID s t p al x=HB (LS ⟨s,p,al⟩) (AR al) x w:=by
 unfold ID;rw[h];simp only[hb,if_true];exact cQ hI a (Vq hI a h) (Na h)
omit hI in
theorem Kr{k:Nat}(h:k<(BT s t p al).length):(BT s t p al)[k]?=some (BO s t p al k):=by
 unfold BO;rw[kw,d5 h];rfl
theorem Sb{k:Nat}(h:k+1=(BT s t p al).length):BL s t p=QJ s t p al (BO s t p al k) (k+1):=by
 unfold BL;rw[if_neg (WW hI),<-hI.hal,<-h]
 have e:(BT s t p al).getLastD Br=BO s t p al k:=by
  rw[List.getLastD_eq_getLast?,List.getLast?_eq_getElem?,<-h,Nat.add_sub_cancel,Kr (by omega)];rfl
 rw[e]
theorem XR{k:Nat}(h:k<(BT s t p al).length):Hi s p al (BO s t p al k) (k+1)/\
    ((GC s t p al (BN s p al (BO s t p al k))=none/\BL s t p=⟨0,BN s p al (BO s t p al k),[],(k:Int)+1⟩/\k+1=(BT s t p al).length)\/
      ∃ w b,GC s t p al (BN s p al (BO s t p al k))=some (w,b)/\Ax (AR al) w/\w.length<=4000/\
        ((b = false/\LS ⟨s,p,al⟩ w=false/\BL s t p=⟨1,JB,Pe (BU [s,t] p),(k:Int)+1⟩/\k+1=(BT s t p al).length)\/
         ((b=true\/LS ⟨s,p,al⟩ w=true)/\((HB (LS ⟨s,p,al⟩) (AR al) (BO s t p al k) w=some (BO s t p al (k+1))/\k+1<(BT s t p al).length)\/
           (HB (LS ⟨s,p,al⟩) (AR al) (BO s t p al k) w=none/\BO s t p al (k+1)=⟨[],[]⟩/\k+1=(BT s t p al).length/\BL s t p=⟨2,JB,[],(k:Int)+1⟩))))):=by
  obtain⟨l,g⟩:=run_get hI (Kr h);refine⟨l,?_⟩
  have f:((k+1:Nat):Int)=(k:Int)+1:=by omega
  have a:ID s t p al (BO s t p al k)=none->k+1=(BT s t p al).length:=λe=>by
    rw[e]at g;have:=v8.1 g;omega
  cases d:GC s t p al (BN s p al (BO s t p al k)) with
  | none=>
    have e:ID s t p al (BO s t p al k)=none:=by unfold ID;rw[d]
    have c:=Sb hI (a e);unfold QJ at c;rw[d,f]at c;exact .inl ⟨rfl,c,a e⟩
  | some wb=>
    obtain⟨w,b⟩:=wb;refine .inr ⟨w,b,rfl,Vq hI l d,Na d,?_⟩;by_cases hb:(b || LS ⟨s,p,al⟩ w)=true
    · refine .inr ⟨by simpa using hb,?_⟩
      have e:=iQ hI l d hb
      cases i:HB (LS ⟨s,p,al⟩) (AR al) (BO s t p al k) w with
      | some y=>
        rw[i]at e;rw[e]at g;have j:=(am.1 g).1;refine .inl ⟨?_,j⟩;rw[Kr j]at g;exact g.symm
      | none=>
        rw[i]at e;have hk:=a e;have c:=Sb hI hk;unfold QJ at c;rw[d]at c;simp only[hb,if_true,f]at c;refine .inr ⟨rfl,?_,hk,c⟩;unfold BO;rw[kw,ms (by omega)];rfl
    · have e:ID s t p al (BO s t p al k)=none:=by unfold ID;rw[d];simp only[hb];rfl
      have hk:=a e;have c:=Sb hI hk;unfold QJ at c;rw[d]at c;simp only[hb,f]at c
      have hb:b=false/\LS ⟨s,p,al⟩ w=false:=by simpa using hb
      exact .inl ⟨hb.1,hb.2,c,hk⟩
theorem XN{a:AI}{w:W}{b:Bool}(h:GC s t p al a=some (w,b)):(∃u,b=true/\DS s a p=some u/\Jz al (Dt u)=w/\H0 u/\(Dt u).length<=2304)\/(∃u,b=false/\DS s a p=none/\BU [t] a=some u/\Jz al (Dt u)=w/\H0 u/\(Dt u).length<=192):=by
 unfold GC at h;split at h
 .rename_i u d
  injection h with h;injection h with h e
  obtain⟨c,f⟩:=fx d;exact .inl ⟨u,e.symm,d,(Rw c).trans h,c,f⟩
 .rename_i d
  split at h
  .rename_i v g
   injection h with h;injection h with h e
   obtain⟨c,f⟩:=fw g;exact .inr ⟨v,e.symm,d,g,(Rw c).trans h,c,f⟩
  .cases h
omit hI in
theorem XO{a:AI}(h:GC s t p al a=none):DS s a p=none/\BU [t] a=none:=by
 unfold GC at h;split at h
 .cases h
 .rename_i c
  split at h
  .cases h
  .rename_i b
   exact⟨c,b⟩
theorem j8:UP (Dm s p al)=some (BO s t p al 0):=by
 obtain⟨b,_⟩:=Vz (s:=s) (p:=p) (al:=al) (GU hI);have a:=Kr (s:=s) (t:=t) (p:=p) (al:=al) (k:=0) (by have:=KJ hI;omega);rw[b];unfold BT at a;simp only[EU]at a
 simpa using a
end
section
variable {s t:Sys}{p:AI}{al:Int}(hI:E5 s p t al)
include hI
theorem o6:(BL s t p).rd=(BT s t p al).length:=by
 obtain⟨x,_,_,a⟩:=KR hI
 rcases a with ⟨e,_⟩|⟨e,_⟩|⟨e,_⟩<;>rw[e]
end
theorem mF{s t:Sys}{p:AI}(h:¬Bj s p t<0):1<=(BL s t p).rd/\(BL s t p).rd<=12/\
    (((BL s t p).code=0/\ED [s,t] p=true/\(BL s t p).tr=[]/\(BL s t p).rd<=(BL s t p).a.nx.length/\I9 s t p (BL s t p).a=0)\/
     ((BL s t p).code=2/\(BL s t p).tr=[]/\(BL s t p).a=JB)\/
     ((BL s t p).code=1/\ED [s,t] p=false/\(BL s t p).a=JB/\(BL s t p).tr=Pe (BU [s,t] p)/\(BU [s,t] p).isSome=true)):=by
  have hI:=Hr h;have g:=o6 hI;have i:=KJ hI;refine⟨by omega,by omega,?_⟩;have hk:=fv h;obtain⟨x,c,_,f⟩:=KR hI;obtain⟨_,_,j,_⟩:=IZ hI c;have d:=c.rows
  rcases f with ⟨e,b⟩|⟨e,_⟩|⟨e,b⟩
  · rw [e]at hk |-
    refine .inl ⟨rfl,?_,rfl,?_,b⟩
    · rcases hk with ⟨_,hk,_⟩|⟨hk,_⟩|⟨hk,_⟩
      · exact hk
      · cases hk
      · cases hk
    · show ((BT s t p (Bj s p t)).length:Int)<=((BN s p (Bj s p t) x).nx.length:Nat)
      omega
  · rw[e];exact .inr (.inl ⟨rfl,rfl,rfl⟩)
  · rw[e];exact .inr (.inr ⟨rfl,b.1,rfl,rfl,b.2⟩)
theorem gd{s t:Sys}{p:AI}{al:Int}(hI:E5 s p t al){x:AW}{r:Nat}(a:Hi s p al x r):df (Dm s p al) x=some (BN s p al x):=by
 unfold df;rw[NJ a.v,Js,DO,a.o,if_pos (by rfl:(none:Option W).isNone=true)];rfl
end Go.Am
namespace Go.Am
open Go Go.Proofs
set_option maxHeartbeats 1000000
set_option maxRecDepth 4000
attribute [local irreducible] A5 CQ Lex BC Al Spec
variable {TB:BB}
theorem WN{n k:Nat}(h:k<n):(2 ^ n-1).testBit k=true:=by rw[Nat.testBit_two_pow_sub_one,decide_eq_true h]
theorem LN{n:Nat}:∀ {k:Nat},k<=n->Lh (2 ^ n-1) k=k
 | 0,_=>rfl
 | k+1,h=>by rw[Rp,WN (by omega),if_pos rfl,LN (by omega)]
theorem Zm{y:Sys}(T:AP y=true)(Y:y.es.length<=1048576):Pure Tryz.prog TB 136 [BD y,eI .i64 ((2 ^ y.st.toNat-1:Nat):Int)] (BD y):=by
 have hh:=AL T
 obtain⟨a,I,H⟩:∃a:Nat,y.st=a/\a<=16:=⟨y.st.toNat,by omega,by omega⟩
 have X:2 ^ a<=2 ^ 16:=uO (by omega) H
 have A:2 ^ a-1<2 ^ 62:=by omega
 rw[show y.st.toNat=a by omega];have j:=N7 (TB:=TB) (2 ^ a-1) A a (by omega);rw[LN (jp _)]at j
 obtain⟨m,q⟩:∃m,m=2 ^ a-1:=⟨_,rfl⟩
 have x:∀k,k<a->AS (m:Nat) k=true:=λk hk=>by rw[Dq (by omega) (by omega),q];exact WN hk
 have b:∀k,k<=a->Lh m k=k:=λk hk=>by rw[q];exact LN hk
 rw[<-q]at j A |-;rw[<-I]at j;refine eG Tryz.func136 rfl (by kernel_rfl) rfl ?_;intro Γ i;(repeat first|refine tA rfl ?_|refine aU rfl ?_|apply Aa);refine rG (Nz [(7,1),(8,1)]) (by kernel_rfl) ?_;(repeat first|refine tX rfl ?_|refine sP rfl (j) rfl ?_|(refine Ai rfl ?_;refine gA rfl ?_;first|refine gS (λ_ _=>Rm rfl rfl (by rfl) (by rfl)) ?_)|refine aU rfl ?_|apply Aa);apply aB;refine aL (α:={z:Nat×List Fu // z.1<=y.es.length/\z.2=y.es.take z.1}) [1,2] [] rfl rfl (λs=>[(4,.o (.ptr 0 3 0 0)),(5,.o (.ptr 1 3 0 0)),(6,eI .i64 s.1.1)]) (λs=>lk y.al y.st s.1.2) 3 (λs=>y.es.length-s.1.1) (⟨⟨0,[]⟩,by simp⟩) i rfl (by (simp[cX,zC,i,lk,OH,cN])) ?_;rintro⟨⟨k,l⟩,hk,c⟩;(try dsimp only[cA,cB]);have hk:k<=y.es.length:=hk;have c:l=y.es.take k:=c
 have L:l.length=k:=by rw[c,vo];omega
 by_cases K:k<y.es.length
 .obtain⟨e,Q⟩:=get_some K
  have u:y.es.take (k+1)=l++[e]:=by rw[d9,Q,c];rfl
  have P:=get_map (g:=Dr) Q
  have Z:(y.es.map Dr)[((k:Nat):Int).toNat]?=some (Dr e):=by rw[f6];exact P
  have hb:=Dl T (ce Q);unfold DK at hb;simp only[d4,decide_eq_true_eq]at hb
  obtain⟨R,N⟩:∃R:Nat,e.f=R:=⟨e.f.toNat,by omega⟩
  obtain⟨B,G⟩:∃B:Nat,e.t=B:=⟨e.t.toNat,by omega⟩
  have w:=C6 (TB:=TB) (m:Nat) e.f (by omega) (by omega);have v:=C6 (TB:=TB) (m:Nat) e.t (by omega) (by omega);rw[x _ (by omega)]at w v;have p:=N7 (TB:=TB) m A R (by omega);have n:=N7 (TB:=TB) m A B (by omega);rw[b _ (by omega),<-N]at p;rw[b _ (by omega),<-G]at n;(repeat first|refine sN rfl ?_|refine tA rfl ?_|refine s2 rfl λ_ S=>?_|refine aU rfl ?_|apply Aa)
  ((refine aC rfl ?_ ?_<;>rintro⟨⟩);all_goals try(exfalso;(simp only[oZ] at *;omega)))
  apply aK;refine aS (aB ?_)
  (repeat' first|refine tA rfl ?_|(refine s4 rfl ‹_› rfl ?_ ?_;omega)|refine sP rfl (w) rfl ?_|refine sP rfl (v) rfl ?_|refine aU rfl ?_|apply Aa|(refine aC rfl ?_ ?_<;>rintro⟨⟩));all_goals try contradiction
  cases l with
  | nil=>
   refine rG (Nz [(1,11),(4,13),(7,13),(10,13),(14,1),(16,1)]) (by kernel_rfl) ?_;(repeat first|refine tA rfl ?_|refine sP rfl (p) rfl ?_|refine sP rfl (n) rfl ?_|refine sV rfl rfl (by rfl) (by rfl) ?_);(refine pW rfl ?_ rfl (by rfl);refine bN 38 rfl ?_;refine ET rfl rfl rfl (by intro r U;simp at U;subst U;rfl) (by rfl) (co rfl) (by simp) (λh=>?_) (λ_=>?_))
   .exact absurd h (by simp)
   (repeat first|(refine sX rfl ?_ ?_;first|exact tI|omega)|refine aU rfl ?_|apply Aa);refine⟨⟨⟨k+1,[e]⟩,by dsimp only;omega,by dsimp only;rw[u];rfl⟩,by dsimp only;(omega),[0,1,4],?_⟩;(simp[cX,zC,i,cN,lk,OH,Ae,eC]<;>rfl)
  | cons F l=>
   refine rG (Nz [(1,11),(4,13),(7,13),(10,13),(14,1),(16,1)]) (by kernel_rfl) ?_;(repeat first|refine tA rfl ?_|refine sP rfl (p) rfl ?_|refine sP rfl (n) rfl ?_|refine sV rfl rfl (by rfl) (by rfl) ?_);(refine pA rfl (by simp) (by simp at L |-;omega) ?_);(repeat first|(refine sX rfl ?_ ?_;first|exact tI|omega)|refine aU rfl ?_|apply Aa);refine⟨⟨⟨k+1,F::(l++[e])⟩,by dsimp only;omega,by dsimp only;rw[u];rfl⟩,by dsimp only;(omega),[0,1,4],?_⟩;(simp[cX,zC,i,cN,lk,OH,Ae,eC]<;>rfl)
 .have M:k=y.es.length:=by omega
  have J:l=y.es:=by rw[c,M,i9]
  have V:y=⟨y.al,y.st,l⟩:=by rw[J]
  (repeat first|refine sN rfl ?_|refine tA rfl ?_|refine s2 rfl λ_ S=>?_|refine aU rfl ?_|apply Aa)
  ((refine aC rfl ?_ ?_<;>rintro⟨⟩);all_goals try(exfalso;(simp only[oZ] at *;omega)))
  apply aE;rw[V]
  cases l with
  | nil=>
   refine Al.Bb [1] [(4,.o (.ptr 0 3 0 0)),(5,.o (.ip (AU ⟨y.al,y.st,[]⟩)))] ⟨⟨_,rfl,.inl rfl⟩,⟨_,rfl,.inr (.o (.box rfl (.cons .d (.cons .d (.cons .nl .nil)))))⟩,trivial⟩ ?_;(repeat first|refine tA rfl ?_|refine aU rfl ?_|apply Aa);(subst_vars;exact aR ⟨_,rfl,rfl⟩)
  | cons F l=>
   refine Al.Bb [1,2] [(4,.o (.ptr 0 3 0 0)),(5,.o (.ip (AU ⟨y.al,y.st,F::l⟩)))] ⟨⟨_,rfl,.inl rfl⟩,⟨_,rfl,.inr (.o (.box rfl (.cons .d (.cons .d (.cons (.full rfl (by simp[d6]) (by simp)) .nil)))))⟩,trivial⟩ ?_;(repeat first|refine tA rfl ?_|refine aU rfl ?_|apply Aa);(subst_vars;exact aR ⟨_,rfl,rfl⟩)
abbrev SV(s:Sys)(p:AI)(t:Sys):BX×Bool:=if Bj s p t<0 then (⟨⟨0,0,[]⟩,⟨0,[],[]⟩,0⟩,false) else (⟨s,p,Bj s p t⟩,true)
theorem Km(s:Sys)(p:AI)(t:Sys)(f:s.es.length<=1048576):Pure Tryz.prog TB 75 [BD s,Bp p,BD t] (tf (SV s p t)):=by
 have c:=LU (TB:=TB) s p t;unfold SV;by_cases h:Bj s p t<0
 .rw[if_pos h]
  refine eG Tryz.func75 rfl (by kernel_rfl) rfl ?_;intro Γ a;(repeat first|refine tA rfl ?_|refine s2 rfl λ_ i=>?_|refine sP rfl (c) rfl ?_|refine aU rfl ?_|apply Aa)
  ((refine aC rfl ?_ ?_<;>rintro⟨⟩);all_goals try(exfalso;(simp only[oZ] at *;omega)))
  (repeat first|refine tA rfl ?_|refine sV rfl rfl (by rfl) (by rfl) ?_|refine aU rfl ?_|apply Aa);(subst_vars;exact aR ⟨_,rfl,rfl⟩)
 .rw[if_neg h]
  have hI:=Hr h;have u:=AL hI.hs;have g:=Zk (TB:=TB) s.st (by omega) (by omega);have b:=Zm (TB:=TB) hI.hs f;have m:2 ^ s.st.toNat<=2 ^ 16:=uO (by omega) (by omega);have n:0<2 ^ s.st.toNat:=wQ _
  have e:((2 ^ s.st.toNat:Nat):Int)-1=((2 ^ s.st.toNat-1:Nat):Int):=by omega
  rw[<-e]at b;generalize 2 ^ s.st.toNat=pw at *;generalize Bj s p t=ai at *;refine eG Tryz.func75 rfl (by kernel_rfl) rfl ?_;intro Γ a;(repeat first|refine tA rfl ?_|refine s2 rfl λ_ i=>?_|refine sP rfl (c) rfl ?_|refine aU rfl ?_|apply Aa)
  ((refine aC rfl ?_ ?_<;>rintro⟨⟩);all_goals try(exfalso;(simp only[oZ] at *;omega)))
  apply aK;(repeat first|refine aU rfl ?_);refine rG ⟨GK [(7,1),(10,1)],fB [0,1,2,3,4,6,8,5,7,9,10,11]⟩ (by kernel_rfl) ?_;(repeat first|(refine sX rfl ?_ ?_;first|exact tI|omega)|refine sP rfl (g) rfl ?_|refine sP rfl (b) rfl ?_);(refine pK [] 0 rfl (Ky p (Qc hI.hp)) rfl rfl (by simp[cX,zC,a,cN]) ?_;rintro r j k ⟨l,q,rfl,rfl,rfl⟩ _);(repeat first|refine tX rfl ?_|refine sV rfl rfl (by rfl) (by rfl) ?_|apply Aa);refine Al.AQ [] [] rfl rfl [(6,.o (.ptr 0 7 0 0)),(7,eB true)] [(0,.cells 49 7 [[.d (iD s.al),.d (iD s.st),.d (EC s.es),.d (iD p.al),.arr 1 1 0 l.length,.arr 2 1 0 p.ac.length,.d (iD ai)]]),(1,.cells 63 1 (AN l)),(2,.cells 4 1 (p.ac.map AO)),(3,.sld 3 (sI l))] [0,1,2,3] (rl a rfl) (by (simp[cX,zC,a,cN,Bl,Ae,eC])) ?_;(try dsimp only[cA,cB]);refine Al.Bb [0,1,2,3] [(6,.o (.ip (Nn ⟨s,⟨p.al,l.map (·.2),p.ac⟩,ai⟩))),(7,eB true)] ⟨⟨_,rfl,.inr (.o (.box rfl (.cons .d (.cons .d (.cons .d (.cons .d (.cons (.fD (s:=3) rfl rfl) (.cons (.full rfl (by simp[d6]) (by simp)) (.cons .d .nil)))))))))⟩,⟨_,rfl,.inl rfl⟩,trivial⟩ ?_;rw[q];(subst_vars;exact aR ⟨_,rfl,rfl⟩)
theorem dm(l:List Fu)(h:l.length<=1048576):Spec Tryz.prog TB 50 [] 0 [.o (.d (EC l))] (λx σ nx=>x=.o (.arr 0 3 0 l.length)/\nx=1/\σ=[(0,.cells 78 3 (l.map Bs))]):=by
 refine eN Tryz.func50 rfl (by kernel_rfl) rfl ?_;intro Γ a;(repeat first|refine aU rfl ?_);(refine Ai rfl ?_;refine CJ (λ_ _=>CM rfl) rfl ?_);(repeat first|refine tM rfl ?_|refine aU rfl ?_|apply Aa);(refine pW rfl ?_ rfl (by rfl);refine MK rfl ?_;intro e b);(repeat first|apply Aa);(refine aC rfl ?_ ?_<;>rintro⟨⟩)
 .obtain rfl:l=[]:=by simpa using b rfl
  (repeat first|refine aU rfl ?_);(refine pW rfl ?_ rfl (by rfl);refine Fh 3 78 ?_);(repeat first|apply Aa);refine aR ⟨_,rfl,rfl,rfl,rfl⟩
 .apply aK
  (repeat first|refine aU rfl ?_);(refine pB rfl ?_);(repeat first|refine tM rfl ?_);(refine pW rfl ?_ rfl (by rfl);refine BY rfl rfl rfl (by first|(simp;done)|(simp;(omega))) rfl (by intro r c;simp only[uG,d8]at c;obtain⟨_,_,rfl⟩:=c;rfl) (by rfl) (co rfl) (by simp;omega) ?_);(repeat first|refine tM rfl ?_|apply Aa);refine Al.names [1] [(2,.o (.arr 0 3 0 l.length))] [(0,.cells 78 3 (l.map Bs))] (by intro i hi;rw[a]at hi;omega) (by simp) (by simp[cX,zC,a]) (by simp[cX,zC,a]) ?_;refine aR ⟨_,rfl,rfl,rfl,rfl⟩
theorem HX(s:Sys)(p:AI)(t:Sys)(f:s.es.length<=1048576):Pure Tryz.prog TB 23 [BD s,Bp p,BD t] (tf (SV s p t)):=by
 have b:=Lw (TB:=TB) s p t;unfold SV;by_cases i:Bj s p t<0
 .rw[if_pos i]
  refine eG Tryz.func23 rfl (by kernel_rfl) rfl ?_;intro Γ a;(repeat first|refine tA rfl ?_|refine s2 rfl λ_ j=>?_|refine sP rfl (b) rfl ?_|refine aU rfl ?_|apply Aa)
  ((refine aC rfl ?_ ?_<;>rintro⟨⟩);all_goals try(exfalso;(simp only[oZ] at *;omega)))
  (repeat first|refine tA rfl ?_|refine sV rfl rfl (by rfl) (by rfl) ?_|refine aU rfl ?_|apply Aa);(subst_vars;exact aR ⟨_,rfl,rfl⟩)
 .rw[if_neg i]
  have hI:=Hr i;have h:=dm (TB:=TB) s.es f;have g:=NL (TB:=TB) p ((Qc hI.hp).upto (by omega));generalize Bj s p t=ai at *;refine eG Tryz.func23 rfl (by kernel_rfl) rfl ?_;intro Γ a;(repeat first|refine aU rfl ?_);(refine pB rfl ?_);(repeat first|refine tA rfl ?_|refine s2 rfl λ_ j=>?_|refine sP rfl (b) rfl ?_|refine aU rfl ?_|apply Aa)
  ((refine aC rfl ?_ ?_<;>rintro⟨⟩);all_goals try(exfalso;(simp only[oZ] at *;omega)))
  apply aK;(repeat first|refine tA rfl ?_|refine aU rfl ?_);(refine pC [] rfl (h) rfl rfl (by simp[cX,zC,a,cN]) ?_;rintro k c e ⟨rfl,rfl,rfl⟩ _);(repeat first|refine tA rfl ?_|refine aU rfl ?_|apply Aa);refine rG ⟨GK [(0,10),(2,1001),(5,1)],fB [0,1,3,2,4,5,6]⟩ (by kernel_rfl) ?_;(repeat first|refine tA rfl ?_);(refine Ai rfl ?_;refine C8 ?_ rfl ⟨rfl,rfl⟩;refine PF [] rfl rfl 0 g (by decide) ⟨rfl,by decide,by decide⟩ rfl (by simp[cX,zC,a,cN]) ?_;rintro k c e ⟨l,m,rfl,rfl,rfl⟩ _;refine⟨FA 0 rfl rfl,?_⟩);(repeat first|refine tA rfl ?_|refine sV rfl rfl (by rfl) (by rfl) ?_|apply Aa);refine Al.AQ [] [] rfl rfl [(6,.o (.ptr 0 7 0 0)),(7,eB true)] [(0,.cells 49 7 [[.d (iD s.al),.d (iD s.st),.arr 1 3 0 s.es.length,.d (iD p.al),.arr 2 1 0 l.length,.arr 3 1 0 p.ac.length,.d (iD ai)]]),(1,.cells 78 3 (s.es.map Bs)),(2,.cells 63 1 (AN l)),(3,.cells 4 1 (p.ac.map AO)),(4,.sld 3 (sI l))] [1,2,3,4,5] (rl a rfl) (by (simp[cX,zC,a,cN,Bl,Ae,eC])) ?_;(try dsimp only[cA,cB]);refine Al.Bb [0,1,2,3,4] [(6,.o (.ip (Nn ⟨s,⟨p.al,l.map (·.2),p.ac⟩,ai⟩))),(7,eB true)] ⟨⟨_,rfl,.inr (.o (.box rfl (.cons .d (.cons .d (.cons (.full rfl (by simp[d6]) (by simp)) (.cons .d (.cons (.fD (s:=4) rfl rfl) (.cons (.full rfl (by simp[d6]) (by simp)) (.cons .d .nil)))))))))⟩,⟨_,rfl,.inl rfl⟩,trivial⟩ ?_;rw[m];(subst_vars;exact aR ⟨_,rfl,rfl⟩)
theorem gb(s:Sys)(p:AI)(al:Int):Ll Tryz.prog TB 140 186 (Dm s p al) (Es (Dm s p al)) (Ge (Dm s p al)):=nB (t:=Dm s p al) rfl
theorem kh{te:EO}:0<=Es te->A2 (Es te)=true:=λh=>by
 unfold Es at *;split at h
 .rename_i hk;rw[if_pos hk];exact HC hk
 .omega
theorem fb(s:Sys)(p:AI)(al:Int):Pure Tryz.prog TB 76 [EY (Dm s p al)] (Jq (UP (Dm s p al))):=by
 rw[<-ow];exact UR (gb s p al)
theorem fc(s:Sys)(p:AI)(al:Int)(x:AW)(a:YH x):Pure Tryz.prog TB 77 [EY (Dm s p al),Ej x] (gC (df (Dm s p al) x)):=by
 rw[<-nD];exact HV (gb s p al) x a
theorem ZY(s:Sys)(p:AI)(al:Int)(x:AW)(a:YH x)(w:W)(b:w.length<=4000):Pure Tryz.prog TB 81 [EY (Dm s p al),Ej x,eT w] (Jq (Lj (Dm s p al) x w)):=by
 rw[<-mn];exact SD (gb s p al) (kh (te:=Dm s p al)) x a w (by omega)
theorem Jr(w:W)(al:Int)(m:EN w=true)(ha:A2 al=true)(u:w.length<=50000):Pure Tryz.prog TB 144 [eT w,eI .i64 al] (eT (Jz al w)):=by
 have t:=Nv (TB:=TB) w (by omega);have s:=Dw (TB:=TB) al
 have l:∀c∈w,GR c=true:=by
  unfold EN at m;rw[d4,ge]at m;exact m.2
 rw[m]at t;rw[ha]at s;refine eG Tryz.func144 rfl (by kernel_rfl) rfl ?_;intro Γ d;(repeat first|refine tA rfl ?_|refine s2 rfl λ_ b=>?_|refine sP rfl (t) rfl ?_|refine sP rfl (s) rfl ?_|refine s3 rfl ?_ ?_<;>rintro rfl|refine aU rfl ?_|apply Aa)
 (repeat' first|refine tA rfl ?_|refine s2 rfl λ_ b=>?_|refine sP rfl (t) rfl ?_|refine sP rfl (s) rfl ?_|refine aU rfl ?_|apply Aa|(refine aC rfl ?_ ?_<;>rintro⟨⟩));all_goals try contradiction
 apply aK;(repeat first|refine aU rfl ?_);(refine pB rfl ?_);(repeat first|refine tX rfl ?_|refine aU rfl ?_|apply Aa);apply aB;refine aL (α:={k:Nat // k<=w.length}) [0,1] [] rfl rfl (λ⟨k,hk⟩=>[(5,.o (.arr 0 1 0 (Jz al (w.take k)).length)),(6,eI .i64 k)]) (λ⟨k,hk⟩=>[(0,.cells 5 1 ((Jz al (w.take k)).map Gp))]) 1 (λ⟨k,hk⟩=>w.length-k) (⟨0,by omega⟩) d rfl (by (simp[cX,zC,d,Jz])) ?_;rintro⟨k,hk⟩;(try dsimp only[cA,cB]);by_cases p:k<w.length
 .obtain⟨c,r⟩:=get_some p
  have q:w[((k:Nat):Int).toNat]?=some c:=by simpa using r
  have i:=l c (ce r);have h:=i;rw[Gq,decide_eq_true_eq]at h;have g:=Jd (TB:=TB) w k c q;have a:=C6 (TB:=TB) al ((c.toNat:Int)-97) (by omega) (by omega)
  have e:AS al ((c.toNat:Int)-97).toNat=Jc al c:=by
   unfold Jc;rw[i,uj];congr 1;omega
  rw[e]at a;have f:=TR (al:=al) r;have n:=XP al (w.take k);rw[vo]at n;(repeat first|refine tA rfl ?_|refine s2 rfl λ_ b=>?_|refine aU rfl ?_|apply Aa)
  ((refine aC rfl ?_ ?_<;>rintro⟨⟩);all_goals try(exfalso;(simp only[oZ] at *;omega)))
  apply aK;refine aS (aB ?_);cases j:Jc al c
  .rw[j]at a f
   (repeat first|refine tA rfl ?_|refine sP rfl (g) rfl ?_|refine sP rfl (a) rfl ?_|refine aU rfl ?_|apply Aa)
   ((refine aC rfl ?_ ?_<;>rintro⟨⟩);all_goals try (simp at b;done))
   apply aK;(repeat first|(refine sA rfl ?_ ?_;first|exact tI|omega)|refine aU rfl ?_|apply Aa);refine⟨⟨k+1,by omega⟩,by dsimp only;(omega),[0],?_⟩;simp[cX,zC,d,f,Gp,GD]
  .rw[j]at a f
   (repeat first|refine tA rfl ?_|refine sP rfl (g) rfl ?_|refine sP rfl (a) rfl ?_|refine aU rfl ?_|apply Aa)
   ((refine aC rfl ?_ ?_<;>rintro⟨⟩);all_goals try (simp at b;done))
   (repeat first|refine tA rfl ?_|(refine s4 rfl ‹_› rfl ?_ ?_;omega)|refine aU rfl ?_);(refine pA rfl (by simp) (by simp;omega) ?_);(repeat first|(refine sX rfl ?_ ?_;first|exact tI|omega)|refine aU rfl ?_|apply Aa);refine⟨⟨k+1,by omega⟩,by dsimp only;(omega),[1],?_⟩;simp[cX,zC,d,f,GD,Gp,uz,Ok]
 .obtain rfl:k=w.length:=by omega
  rw[i9] at *;(repeat first|refine tA rfl ?_|refine s2 rfl λ_ b=>?_|refine aU rfl ?_|apply Aa)
  ((refine aC rfl ?_ ?_<;>rintro⟨⟩);all_goals try(exfalso;(simp only[oZ] at *;omega)))
  apply aE;(repeat first|refine tM rfl ?_|(refine Ai rfl ?_;refine gA rfl ?_;first|refine gQ (PV (Jz al w) rfl rfl (by simp) (by first|rw[uR,i8 (by simp)]|rw[uR,Vs,i8 (by simp)])) (by rfl) ?_)|refine aU rfl ?_|apply Aa);(subst_vars;exact aR ⟨_,rfl,rfl⟩)
abbrev qe(w:W)(c:Int):E:=.t [(false,[.d (tD w)]),(false,[.d (iD c)])]
section
variable [Dy TB]{s t:Sys}{p:AI}{al:Int}(hI:E5 s p t al)
include hI
theorem Xb{a:AI}(h:GC s t p al a=none):Pure Tryz.prog TB 78 [BD t,Pj ⟨s,p,al⟩,Bp a] (qe [] 0):=by
 obtain⟨f,e⟩:=XO h;have c:=FJ (TB:=TB) s a p;have b:=FG (TB:=TB) t a;rw[f]at c;rw[e]at b;refine eG Tryz.func78 rfl (by kernel_rfl) rfl ?_;intro Γ d;(repeat first|refine tA rfl ?_|refine sP rfl (c) rfl ?_|refine sP rfl (b) rfl ?_|refine aU rfl ?_|apply Aa)
 (repeat' first|refine sP rfl (c) rfl ?_|refine sP rfl (b) rfl ?_|(refine aC rfl ?_ ?_<;>rintro⟨⟩));all_goals try contradiction
 apply aK;(repeat first|refine tA rfl ?_|refine s2 rfl λ_ g=>?_|refine sP rfl (b) rfl ?_|refine aU rfl ?_|apply Aa)
 (repeat' first|refine tA rfl ?_|refine sP rfl (b) rfl ?_|refine aU rfl ?_|apply Aa|(refine aC rfl ?_ ?_<;>rintro⟨⟩));all_goals try contradiction
 (subst_vars;exact aR ⟨_,rfl,rfl⟩)
theorem Xc{a:AI}{w:W}{b:Bool}(h:GC s t p al a=some (w,b))(m:Ax (AR al) w)(r:w.length<=4000):Pure Tryz.prog TB 78 [BD t,Pj ⟨s,p,al⟩,Bp a] (qe w (if (b || LS ⟨s,p,al⟩ w)=true then -1 else 1)):=by
 have hal:=OL hI;have d:=FJ (TB:=TB) s a p;have i:=FG (TB:=TB) t a
 rcases XN hI h with ⟨u,rfl,l,k,j,n⟩|⟨u,rfl,o,l,k,j,n⟩
 .rw[l]at d
  have e:=Jr (TB:=TB) (Dt u) al (Sg j (by omega)) hal (by omega);rw[k]at e;rw[Bool.true_or,if_pos rfl];refine eG Tryz.func78 rfl (by kernel_rfl) rfl ?_;intro Γ f;(repeat first|refine tA rfl ?_|refine sP rfl (d) rfl ?_|refine aU rfl ?_|apply Aa)
  (repeat' first|refine tA rfl ?_|refine sP rfl (d) rfl ?_|refine sP rfl (e) rfl ?_|refine aU rfl ?_|apply Aa|(refine aC rfl ?_ ?_<;>rintro⟨⟩));all_goals try contradiction
  (subst_vars;exact aR ⟨_,rfl,rfl⟩)
 .rw [o]at d
  rw[l]at i;have e:=Jr (TB:=TB) (Dt u) al (Sg j (by omega)) hal (by omega);rw[k]at e;have g:=OZ (TB:=TB) ⟨s,p,al⟩ w (by omega);rw[TT (GU hI) w m (by omega)]at g;rw[wu];generalize LS ⟨s,p,al⟩ w=q at *;refine eG Tryz.func78 rfl (by kernel_rfl) rfl ?_;intro Γ f;(repeat first|refine tA rfl ?_|refine sP rfl (d) rfl ?_|refine aU rfl ?_|apply Aa)
  (repeat' first|refine sP rfl (d) rfl ?_|(refine aC rfl ?_ ?_<;>rintro⟨⟩));all_goals try contradiction
  apply aK;(repeat first|refine tA rfl ?_|refine s2 rfl λ_ c=>?_|refine sP rfl (i) rfl ?_|refine aU rfl ?_|apply Aa)
  (repeat' first|refine tA rfl ?_|refine sP rfl (i) rfl ?_|refine aU rfl ?_|apply Aa|(refine aC rfl ?_ ?_<;>rintro⟨⟩));all_goals try contradiction
  apply aK;(repeat first|refine tA rfl ?_|refine sP rfl (e) rfl ?_|refine aU rfl ?_|apply Aa);cases q
  ·(repeat first|refine s2 rfl λ_ c=>?_|refine sP rfl (g) rfl ?_|apply Aa)
   ((refine aC rfl ?_ ?_<;>rintro⟨⟩);all_goals try (simp at c;done))
   (repeat first|refine tA rfl ?_|refine aU rfl ?_|apply Aa);(subst_vars;exact aR ⟨_,rfl,rfl⟩)
  ·(repeat first|refine s2 rfl λ_ c=>?_|refine sP rfl (g) rfl ?_|apply Aa)
   ((refine aC rfl ?_ ?_<;>rintro⟨⟩);all_goals try (simp at c;done))
   apply aK;(repeat first|refine tA rfl ?_|refine aU rfl ?_|apply Aa);(subst_vars;exact aR ⟨_,rfl,rfl⟩)
end
theorem kE(v:Vd):Pure Tryz.prog TB 11 [ku v,ku v] (eB true):=by
 have c:=nv (TB:=TB) v.a;refine eG Tryz.func11 rfl (by kernel_rfl) rfl ?_;intro Γ b
 (repeat' first|refine tA rfl ?_|refine s2 rfl λ_ d=>?_|refine sP rfl (c) rfl ?_|refine s3 rfl ?_ ?_<;>rintro rfl|refine aU rfl ?_|apply Aa|(refine aC rfl ?_ ?_<;>rintro⟨⟩));all_goals try contradiction
 all_goals first
  | (exfalso;simp at *;done)
  | (refine aR ⟨_,rfl,?_⟩;show E.o _=E.o _;congr;first|done|grind)
end Go.Am
namespace Go.Am
open Go Go.Proofs
set_option maxHeartbeats 1000000
set_option maxRecDepth 4000
attribute [local irreducible] A5 CQ Lex BC Al Spec
variable {TB:BB}[Dy TB]
abbrev jO(t:BX)(m:CW):Ac:=[(0,.cells 80 1 [[.ptr 1 14 0 0]]),(1,.cells 89 14 [RB t (.arr 2 12 0 (m).F.length) (.mp 3) (.arr 4 6 0 (m).nx.length) (.arr 5 1 0 (m).un.length)]),(2,.cells 150 12 ((m).F.map OV)),(3,.mp (mapA .u16 (Ob (m).F))),(4,.cells 94 6 ((m).nx.map OT)),(5,.cells 4 1 ((m).un.map AO))]
theorem n7{r:List Nat}:∀i,i<2->(0::1::r)[i]?=some i
 | 0,_|1,_=>rfl
def pN(t:BX)(m0:CW)(f:Option PS->Int->Option PS)(ls:List Int)(s0:Int)(x:E)(σ:Ac)(nx:Nat):Prop:=∃(m:CW) (o:Option (List Int×List (List Int))),Ea t fF m/\P5 m0 m/\(∀p,o=some p->∀q∈p.1,Si t m q)/\Lb 41 f ls (IH m0 s0)=(o.map λp=>(p.1.map (IH m),p.2))/\x=gD o/\σ=jO t m/\nx=6
theorem UU{t:BX}{m0:CW}{f:Option PS->Int->Option PS}{ls:List Int}{s0:Int}{g:FuncId}(hll:ls.length<=6)(hm0:Ea t fF m0)(hl0:m0.F.length<=100)(hs:Si t m0 s0)
 (hg:∀(m:CW) (q l:Int),Ea t fF m->m.F.length<=1000->Si t m q->l∈ls->∃(m':CW) (y:Int),Ea t fF m'/\P5 m m'/\m'.F.length<=m.F.length+1/\Si t m' y/\IH m' y=f (IH m q) l/\AE Tryz.prog TB g 2 (jO t m) 6 [eI .i64 q,eI .i64 l,.o (.ptr 0 1 0 0)] (λx σ nx=>x=eI .i64 y/\σ=jO t m'/\nx=6)) :
 AE Tryz.prog TB 56 2 (jO t m0) 6 [eI .i64 s0,Aj ls,eI .i64 41,.o (.fn g [.ptr 0 1 0 0])] (pN t m0 f ls s0):=by
 unfold pN Lb;generalize hA0:Gn 41 f ls 41 [IH m0 s0] []=A;refine AE.A6 (AE.PM (m:=2) (co rfl) Tryz.func56 rfl (by kernel_rfl) (co rfl) ?_);intro Γ c;(repeat first|refine tX rfl ?_|refine aU rfl ?_|apply Aa);(refine pB rfl ?_);(repeat first|refine tX rfl ?_|refine aU rfl ?_|apply Aa);(refine pW rfl ?_ rfl (by rfl);refine IC ?_);(repeat first|refine tA rfl ?_);(refine Ai rfl ?_;refine FB ?_ rfl (by rfl);refine iF (UO (l:=[]) rfl rfl rfl rfl rfl ?_));(repeat first|refine tM rfl ?_|refine aU rfl ?_|apply Aa);(refine pW rfl ?_ rfl (by rfl);refine Fh 1 63 ?_);(repeat first|refine tM rfl ?_|refine aU rfl ?_|apply Aa);apply aB;refine aL (α:={z:CW×List Int×List (List Int) // Gn 41 f ls (41-z.2.2.length) (z.2.1.map (IH z.1)) z.2.2=A/\z.2.2.length<=z.2.1.length/\1<=z.2.1.length/\z.2.1.length<=41/\(∀q∈z.2.1,Si t z.1 q)/\Ea t fF z.1/\P5 m0 z.1/\z.1.F.length<=100+6*z.2.2.length}) [1,2,12] [] rfl rfl (λs=>[(3,.o (.fn g [.ptr 0 1 0 0])),(11,.o (.arr 6 1 0 s.1.2.1.length)),(13,.o (.arr 8 1 0 s.1.2.2.length)),(14,eI .i64 s.1.2.2.length)]) (λs=>[(0,.cells 80 1 [[.ptr 1 14 0 0]]),(1,.cells 89 14 [RB t (.arr 2 12 0 (s.1.1).F.length) (.mp 3) (.arr 4 6 0 (s.1.1).nx.length) (.arr 5 1 0 (s.1.1).un.length)]),(2,.cells 150 12 ((s.1.1).F.map OV)),(3,.mp (mapA .u16 (Ob (s.1.1).F))),(4,.cells 94 6 ((s.1.1).nx.map OT)),(5,.cells 4 1 ((s.1.1).un.map AO)),(6,.cells 3 1 (s.1.2.1.map Au)),(7,.mp (JX (VK s.1.2.1))),(8,.cells 63 1 (s.1.2.2.map λr=>[.d (Ed r)]))]) 9 (λs=>41-s.1.2.2.length) (⟨⟨m0,[s0],[]⟩,by simpa using hA0,by simp,by simp,by simp,by simpa using hs,hm0,P5.refl _,by simpa using hl0⟩) c rfl (by (simp[cX,zC,c,AG,eC,Bl,Ae,VK])) ?_;rintro⟨⟨m,nd,rows⟩,J,T,X,R,H,hm,n,Y⟩;(try dsimp only[cA,cB]);have J:Gn 41 f ls (41-rows.length) (nd.map (IH m)) rows=A:=J;have T:rows.length<=nd.length:=T;have X:1<=nd.length:=X;have R:nd.length<=41:=R;have H:∀q∈nd,Si t m q:=H;have hm:Ea t fF m:=hm;have n:P5 m0 m:=n;have Y:m.F.length<=100+6*rows.length:=Y;by_cases hlt:rows.length<nd.length
 .obtain⟨q,V⟩:=get_some hlt
  obtain⟨k,hk⟩:∃k,41-rows.length=k+1:=⟨41-rows.length-1,by omega⟩
  rw[hk]at J
  have hqm:(nd.map (IH m))[rows.length]?=some (IH m q):=by rw[f9,V];rfl
  simp only[Gn,hqm]at J;generalize hB0:EI 41 f (IH m q) (nd.map (IH m)) [] ls=B at J;have hRq:=H q (ce V);(repeat first|refine tA rfl ?_|refine s2 rfl λ_ e=>?_|refine aU rfl ?_|apply Aa)
  ((refine aC rfl ?_ ?_<;>rintro⟨⟩);all_goals try(exfalso;(simp only[oZ] at *;omega)))
  apply aK;refine aS (aB ?_);(repeat first|refine aU rfl ?_);(refine pW rfl ?_ rfl (by rfl);refine Fh 1 3 ?_);(repeat first|refine sN rfl ?_|refine tM rfl ?_|refine aU rfl ?_|apply Aa);apply aB;refine aL (α:={z:(CW×List Int×List Int)×Nat // z.2<=ls.length/\EI 41 f (IH m q) (z.1.2.1.map (IH z.1.1)) z.1.2.2 (ls.drop z.2)=B/\z.1.2.2.length=z.2/\nd.length<=z.1.2.1.length/\z.1.2.1.length<=41/\(∀q∈z.1.2.1,Si t z.1.1 q)/\z.1.2.1[rows.length]?=some q/\Ea t fF z.1.1/\P5 m z.1.1/\z.1.1.F.length<=m.F.length+z.2}) [1,2,12,13,14,32,33] [8] rfl rfl (λs=>[(3,.o (.fn g [.ptr 0 1 0 0])),(11,.o (.arr 6 1 0 s.1.1.2.1.length)),(15,.o (.arr 9 1 0 s.1.2)),(34,eI .i64 s.1.2)]) (λs=>[(0,.cells 80 1 [[.ptr 1 14 0 0]]),(1,.cells 89 14 [RB t (.arr 2 12 0 (s.1.1.1).F.length) (.mp 3) (.arr 4 6 0 (s.1.1.1).nx.length) (.arr 5 1 0 (s.1.1.1).un.length)]),(2,.cells 150 12 ((s.1.1.1).F.map OV)),(3,.mp (mapA .u16 (Ob (s.1.1.1).F))),(4,.cells 94 6 ((s.1.1.1).nx.map OT)),(5,.cells 4 1 ((s.1.1.1).un.map AO)),(6,.cells 3 1 (s.1.1.2.1.map Au)),(7,.mp (JX (VK s.1.1.2.1))),(9,.cells 3 1 (s.1.1.2.2.map Au))]) 10 (λs=>ls.length-s.1.2) (⟨⟨⟨m,nd,[]⟩,0⟩,by simp,hB0,rfl,jp _,R,H,V,hm,P5.refl _,jp _⟩) c rfl (by (simp[cX,zC,c,AG,eC,Bl,Ae,Gy])) ?_;rintro⟨⟨⟨N,a,row⟩,j⟩,hj,u,v,Q,K,I,w,M,b,P⟩;(try dsimp only[cA,cB]);have hj:j<=ls.length:=hj;have u:EI 41 f (IH m q) (a.map (IH N)) row (ls.drop j)=B:=u;have v:row.length=j:=v;have Q:nd.length<=a.length:=Q;have K:a.length<=41:=K;have I:∀q∈a,Si t N q:=I;have w:a[rows.length]?=some q:=w;have M:Ea t fF N:=M;have b:P5 m N:=b;have P:N.F.length<=m.F.length+j:=P;by_cases hjl:j<ls.length
  .obtain⟨l,hl⟩:=get_some hjl
   have hl':=get_map (g:=A9) hl;have hlm:=ce hl;obtain⟨U,hqe⟩:=UX b hRq;obtain⟨S,y,L,i,hml2,hy,hfy,hcy⟩:=hg N q l M (by omega) U hlm;rw[hqe]at hfy
   have hq':(a.map Au)[0+((rows.length:Nat):Int).toNat]?=some (Au q):=by rw[lm,f6];simp[w]
   rw[Bm hl,lS L.nd i I hy hfy]at u;have hR2:∀q∈a,Si t S q:=λq V=>(UX i (I q V)).1;have G:=Tm a y;(repeat first|refine s2 rfl λ_ e=>?_|refine aU rfl ?_|apply Aa)
   ((refine aC rfl ?_ ?_<;>rintro⟨⟩);all_goals try(exfalso;(simp only[oZ] at *;omega)))
   apply aK;refine aS (aB ?_);(repeat first|((first|refine sA rfl ?_ ?_|refine s4 rfl ‹_› rfl ?_ ?_);first|exact tI|omega)|refine aU rfl ?_|apply Aa);(refine pK [0,1,2,3,4,5] 2 rfl (hcy) rfl rfl (by simp[cX,zC,c,AG]) ?_;rintro x0 σ1 nx1 ⟨rfl,rfl,rfl⟩ _);by_cases Z:y∈a
   .rw[if_pos Z]at u G
    (repeat first|refine tA rfl ?_|refine s2 rfl λ_ e=>?_|(refine Ai rfl ?_;refine gA rfl ?_;first|refine gQ (XH G rfl rfl rfl) rfl ?_)|refine aU rfl ?_|apply Aa)
    ((refine aC rfl ?_ ?_<;>rintro⟨⟩);all_goals try (simp at e;done))
    apply aK;(repeat first|refine tA rfl ?_|refine aU rfl ?_);(refine pA rfl (by first|(simp;done)|(simp;(first|omega|simp only[oZ] at *;omega))) (by simp;omega) ?_);(repeat first|(refine sA rfl ?_ ?_;first|exact tI|omega)|refine aU rfl ?_|apply Aa);refine⟨⟨⟨⟨S,a,row++[((a.idxOf y:Nat):Int)]⟩,j+1⟩,by dsimp only;omega,u,by simp[v],Q,K,hR2,w,L,b.trans i,by dsimp only;omega⟩,by dsimp only;(omega),[0,1,10,11,12,13,6,7,8,14],?_⟩;simp[cX,zC,c,AG,Gy];exact n7
   .rw [if_neg Z]at u G
    (repeat first|refine tA rfl ?_|refine s2 rfl λ_ e=>?_|(refine Ai rfl ?_;refine gA rfl ?_;first|refine gQ (XG G rfl rfl rfl) rfl ?_)|refine aU rfl ?_|apply Aa)
    ((refine aC rfl ?_ ?_<;>rintro⟨⟩);all_goals try (simp at e;done))
    by_cases hfu:a.length=41
    .rw[if_pos hfu]at u
     subst u;(repeat first|refine tA rfl ?_|refine s2 rfl λ_ e=>?_|refine aU rfl ?_|apply Aa)
     ((refine aC rfl ?_ ?_<;>rintro⟨⟩);all_goals try(exfalso;(simp only[oZ] at *;omega)))
     (repeat first|refine tA rfl ?_|refine aU rfl ?_|apply Aa);have J:none=A:=J;subst J;exact aR ⟨_,rfl,[0,1,10,11,12,13],gD none,jO t S,iB rfl,rfl,by (simp[cX,zC,c,AG]),S,none,L,n.trans (b.trans i),(λp hp=>by cases hp),rfl,rfl,rfl,rfl⟩
    .rw[if_neg hfu]at u
     (repeat first|refine tA rfl ?_|refine s2 rfl λ_ e=>?_|refine aU rfl ?_|apply Aa)
     ((refine aC rfl ?_ ?_<;>rintro⟨⟩);all_goals try(exfalso;(simp only[oZ] at *;omega)))
     apply aK;(repeat first|refine tA rfl ?_|refine aU rfl ?_|apply Aa);(refine Ai rfl ?_;refine FB ?_ rfl (by rfl);refine UO rfl rfl rfl rfl G ?_);rw[<-UM];(repeat first|refine tA rfl ?_|refine aU rfl ?_|apply Aa);(refine pA rfl (by simp) (by simp;omega) ?_);(repeat first|refine tA rfl ?_|refine aU rfl ?_|apply Aa);(refine pA rfl (by first|(simp;done)|(simp;(first|omega|simp only[oZ] at *;omega))) (by simp;omega) ?_);(repeat first|(refine sA rfl ?_ ?_;first|exact tI|omega)|refine aU rfl ?_|apply Aa);refine⟨⟨⟨⟨S,a++[y],row++[(a.length:Int)]⟩,j+1⟩,by dsimp only;omega,u,by simp[v],by simp;omega,by simp;omega,(λz hz=>by rcases f7.1 hz with h|h;exact hR2 z h;simp at h;subst h;exact hy),by rw[gc (by omega)];exact w,L,b.trans i,by dsimp only;omega⟩,by dsimp only;(omega),[0,1,10,11,12,13,14,7,8,15],?_⟩;simp[cX,zC,c,AG,Gy];exact n7
  .obtain rfl:j=ls.length:=by omega
   rw[vC]at u;simp only[EI]at u;subst u;simp only at J;(repeat first|refine s2 rfl λ_ e=>?_|refine aU rfl ?_|apply Aa)
   ((refine aC rfl ?_ ?_<;>rintro⟨⟩);all_goals try(exfalso;(simp only[oZ] at *;omega)))
   apply aE;refine Al.HN [9] [1,2,3,11,12,13,14] rfl [(15,Aj row)] ⟨⟨_,rfl,.o (.full (by simp) rfl (by simp[d6]) (by simpa using v))⟩,trivial⟩ ?_;(try dsimp only[cA,cB]);(repeat first|refine tA rfl ?_|refine aU rfl ?_);(refine pA rfl (by simp) (by simp;omega) ?_);(repeat first|(refine sA rfl ?_ ?_;first|exact tI|omega)|refine aU rfl ?_|apply Aa);refine⟨⟨⟨N,a,rows++[row]⟩,by show Gn 41 f ls (41-(rows++[row]).length) (a.map (IH N)) _=A;rw[uD,xi,show 41-(rows.length+1)=k by omega];exact J,by simp;omega,by dsimp only;omega,K,I,M,n.trans b,by dsimp only;rw[uD,xi];omega⟩,by dsimp only;((simp only[oZ] at *;omega)),[0,1,2,3,4,5,6,7,10],?_⟩;simp[cX,zC,c,AG,Gy];exact n7
 .have hA2:A=some (nd.map (IH m),rows):=by
   rw[<-J]
   cases 41-rows.length with
   | zero=>rfl
   | succ k=>simp only[Gn];rw[ms (by rw[io];omega)]
  subst hA2;(repeat first|refine tA rfl ?_|refine s2 rfl λ_ e=>?_|refine aU rfl ?_|apply Aa)
  ((refine aC rfl ?_ ?_<;>rintro⟨⟩);all_goals try(exfalso;(simp only[oZ] at *;omega)))
  apply aE;refine Al.HN [6,8] [1,2,3,12,14] rfl [(11,Aj nd),(13,Fe rows)] ⟨⟨_,rfl,.o (.full (by simp) rfl (by simp[d6]) (by simp))⟩,⟨_,rfl,.o (.full (by simp) rfl (by simp[d6]) (by simp))⟩,trivial⟩ ?_;(try dsimp only[cA,cB]);(repeat first|refine tA rfl ?_|refine aU rfl ?_|apply Aa);exact aR ⟨_,rfl,[0,1,2,3,4,5],gD (some (nd,rows)),jO t m,iB rfl,rfl,by (simp[cX,zC,c,AG]),m,some (nd,rows),hm,n,(λp hp=>by cases hp;exact H),rfl,rfl,rfl,rfl⟩
theorem dL(l:List Int)(s:Int):Pure Tryz.prog TB 115 [Aj l,eI .i64 s] (eI .i64 (if s∈l then (l.idxOf s:Int) else -1)):=by
 refine eG Tryz.func115 rfl (by kernel_rfl) rfl ?_;intro Γ b;refine Al.bound 0 rfl λi=>?_;have o:=i (l.map A9) .refl;rw[io]at o;(repeat first|refine sN rfl ?_|refine tA rfl ?_|refine aU rfl ?_|apply Aa);apply aB;refine aL (α:={k:Nat // k<=l.length/\s∉l.take k}) [0,1,7] [] rfl rfl (λ⟨k,hk,a⟩=>[(8,eI .i64 k)]) (λ⟨k,hk,a⟩=>[]) 0 (λ⟨k,hk,a⟩=>l.length-k) (⟨0,by omega,by simp⟩) b rfl (by (simp[cX,zC,b])) ?_;rintro⟨k,hk,a⟩;(try dsimp only[cA,cB]);have hk:k<=l.length:=hk;have a:s∉l.take k:=a;by_cases h:k<l.length
 .obtain⟨x,d⟩:=get_some h
  have m:=get_map (g:=A9) d;(repeat first|refine s2 rfl λ_ c=>?_|refine aU rfl ?_|apply Aa)
  ((refine aC rfl ?_ ?_<;>rintro⟨⟩);all_goals try(exfalso;(simp only[oZ] at *;omega)))
  apply aK;refine aS (aB ?_);by_cases j:s=x
  .subst j
   have n:s∈l:=ce d
   have hi:l.idxOf s=k:=by
    have e:l=l.take k++s::l.drop (k+1):=by rw[<-Bm d,uE]
    rw[e,vu,if_neg a,wJ];simp;omega
   rw[if_pos n,hi]
   (repeat' first|refine tA rfl ?_|(refine s4 rfl ‹_› rfl ?_ ?_;omega)|refine s2 rfl λ_ c=>?_|refine aU rfl ?_|apply Aa|(refine aC rfl ?_ ?_<;>rintro⟨⟩));all_goals try contradiction
   all_goals first
    | (exfalso;omega;done)
    | (exfalso;simp at *;done)
    | (subst_vars;exact aR ⟨_,rfl,rfl⟩)
  .have f:s∉l.take (k+1):=by
    rw[d9,d];simp[a,j]
   (repeat' first|refine tA rfl ?_|(refine s4 rfl ‹_› rfl ?_ ?_;omega)|refine s2 rfl λ_ c=>?_|refine aU rfl ?_|apply Aa|(refine aC rfl ?_ ?_<;>rintro⟨⟩));all_goals try contradiction
   all_goals first
    | (exfalso;(simp only[oZ] at *;omega);done)
    | skip
   apply aK;(repeat first|(refine sA rfl ?_ ?_;first|exact tI|omega)|refine aU rfl ?_|apply Aa);refine⟨⟨k+1,by omega,f⟩,by dsimp only;(omega),[],?_⟩;simp[cX,zC,b]
 .obtain rfl:k=l.length:=by omega
  rw[i9]at a;rw[if_neg a];(repeat first|refine s2 rfl λ_ c=>?_|refine aU rfl ?_|apply Aa)
  ((refine aC rfl ?_ ?_<;>rintro⟨⟩);all_goals try(exfalso;(simp only[oZ] at *;omega)))
  apply aE;(repeat first|refine tA rfl ?_|refine aU rfl ?_|apply Aa);(subst_vars;exact aR ⟨_,rfl,rfl⟩)
theorem Ur(l:List Int)(s:Int):Pure Tryz.prog TB 57 [Aj l,eI .i64 s] (eB (decide (s∈l))):=by
 have h:=dL (TB:=TB) l s;refine eG Tryz.func57 rfl (by kernel_rfl) rfl ?_;intro Γ b;(repeat first|refine tA rfl ?_|refine s2 rfl λ_ c=>?_|refine sP rfl (h) rfl ?_|refine aU rfl ?_|apply Aa);by_cases a:s∈l
 .rw[if_pos a] at *
  (repeat first|refine sP rfl (h) rfl ?_);refine aR ⟨_,rfl,?_⟩
  show E.o _=E.o _
  congr;simp at *;grind
 .rw[if_neg a] at *
  (repeat first|refine sP rfl (h) rfl ?_);refine aR ⟨_,rfl,?_⟩
  show E.o _=E.o _
  congr;simp at *;grind
theorem YF{t:BX}(ht:AY t=true)(m:CW)(q l:Int)(n:Ea t fF m)(G:m.F.length<=1000)(B:Si t m q)(H:l∈Ab t.al):∃(m':CW) (y:Int),Ea t fF m'/\P5 m m'/\m'.F.length<=m.F.length+1/\Si t m' y/\IH m' y=fg (er t) (IH m q) l/\
 AE Tryz.prog TB 54 2 (jO t m) 6 [eI .i64 q,eI .i64 l,.o (.ptr 0 1 0 0)] (λx σ nx=>x=eI .i64 y/\σ=jO t m'/\nx=6):=by
 have f:=Af H
 rcases B with rfl|⟨j,F,rfl,p,hb⟩
 .refine⟨m,-1,n,P5.refl _,xP _,.inl rfl,by rw[GV];rfl,?_⟩
  refine AE.A6 (AE.PM (m:=2) (co rfl) Tryz.func54 rfl (by kernel_rfl) (co rfl) ?_);intro Γ a
  (repeat' first|refine tA rfl ?_|refine s2 rfl λ_ c=>?_|refine aU rfl ?_|apply Aa|(refine aC rfl ?_ ?_<;>rintro⟨⟩));all_goals try contradiction
  all_goals first
   | (exfalso;omega;done)
   | (exfalso;simp at *;done)
   | (apply aK)
  (repeat' first|(refine sA rfl ?_ ?_;first|exact tI|simp only[oZ] at *;omega)|refine s2 rfl λ_ c=>?_|refine s3 rfl ?_ ?_<;>rintro rfl|refine aU rfl ?_|apply Aa|(refine aC rfl ?_ ?_<;>rintro⟨⟩));all_goals try contradiction
  all_goals first
   | (exfalso;omega;done)
   | (exfalso;simp at *;done)
   | (apply aK)
  (repeat first|refine tA rfl ?_|refine aU rfl ?_|apply Aa);exact aR ⟨_,rfl,[0,1,2,3,4,5],eI .i64 (-1),jO t m,iB rfl,rfl,by (simp[cX,zC,a,AG]),rfl,rfl,rfl⟩
 .obtain⟨m',k,s,w,r,v,u⟩:=Tb (TB:=TB) ht n p ⟨f.1,by omega⟩ (by omega) (l7 (.next f.1 (by omega) (n.rc F (ce p))))
  have e:fg (er t) (IH m j) l=er t F l:=by rw[Gk,p];rfl
  have d:=s.un k _ r;have A:=(am.1 d).1;cases b:E9 t (Dc t l F)
  .rw [b]at d
   have i:(m'.un.map AO)[0+((k:Nat):Int).toNat]?=some (AO false):=by rw[lm,f6];simp[d]
   refine⟨m',k,s,w,v,.inr ⟨k,_,rfl,r,b⟩,by rw[e,Gk,r];unfold er;rw[if_neg (by rw[b];decide)],?_⟩;refine AE.A6 (AE.PM (m:=2) (co rfl) Tryz.func54 rfl (by kernel_rfl) (co rfl) ?_);intro Γ a;(repeat first|refine tA rfl ?_|refine s2 rfl λ_ c=>?_|refine aU rfl ?_|apply Aa)
   ((refine aC rfl ?_ ?_<;>rintro⟨⟩);all_goals try(exfalso;(simp only[oZ] at *;omega)))
   (repeat first|refine tA rfl ?_|refine aU rfl ?_);(refine pK [1,2,3,4,5] 1 rfl (u) rfl rfl (by simp[cX,zC,a,AG]) ?_;rintro z g h ⟨rfl,rfl,rfl⟩ _);(repeat first|refine tA rfl ?_);apply Aa;refine Al.AQ [] [] rfl rfl [(0,eI .i64 k),(2,.o (.ptr 0 1 0 0))] [(0,.cells 80 1 [[.ptr 1 14 0 0]]),(1,.cells 89 14 [RB t (.arr 2 12 0 (m').F.length) (.mp 3) (.arr 4 6 0 (m').nx.length) (.arr 5 1 0 (m').un.length)]),(2,.cells 150 12 ((m').F.map OV)),(3,.mp (mapA .u16 (Ob (m').F))),(4,.cells 94 6 ((m').nx.map OT)),(5,.cells 4 1 ((m').un.map AO))] [0,1,6,7,8,9] (rl a rfl) (by (simp[cX,zC,a,AG])) ?_;(try dsimp only[cA,cB])
   (repeat' first|(refine sA rfl ?_ ?_;first|exact tI|omega)|refine t4 rfl ‹_› rfl ?_|refine s2 rfl λ_ c=>?_|refine s3 rfl ?_ ?_<;>rintro rfl|refine aU rfl ?_|apply Aa|(refine aC rfl ?_ ?_<;>rintro⟨⟩));all_goals try contradiction
   all_goals first
    | (exfalso;omega;done)
    | skip
   apply aK;(repeat first|refine tA rfl ?_|refine aU rfl ?_|apply Aa);exact aR ⟨_,rfl,[0,1,2,3,4,5],eI .i64 k,jO t m',iB rfl,rfl,by (simp[cX,zC,a,AG]),rfl,rfl,rfl⟩
  .rw [b]at d
   have i:(m'.un.map AO)[0+((k:Nat):Int).toNat]?=some (AO true):=by rw[lm,f6];simp[d]
   refine⟨m',-1,s,w,v,.inl rfl,by rw[e,GV];unfold er;rw[if_pos b],?_⟩;refine AE.A6 (AE.PM (m:=2) (co rfl) Tryz.func54 rfl (by kernel_rfl) (co rfl) ?_);intro Γ a;(repeat first|refine tA rfl ?_|refine s2 rfl λ_ c=>?_|refine aU rfl ?_|apply Aa)
   ((refine aC rfl ?_ ?_<;>rintro⟨⟩);all_goals try(exfalso;(simp only[oZ] at *;omega)))
   (repeat first|refine tA rfl ?_|refine aU rfl ?_);(refine pK [1,2,3,4,5] 1 rfl (u) rfl rfl (by simp[cX,zC,a,AG]) ?_;rintro z g h ⟨rfl,rfl,rfl⟩ _);(repeat first|refine tA rfl ?_);apply Aa;refine Al.AQ [] [] rfl rfl [(0,eI .i64 k),(2,.o (.ptr 0 1 0 0))] [(0,.cells 80 1 [[.ptr 1 14 0 0]]),(1,.cells 89 14 [RB t (.arr 2 12 0 (m').F.length) (.mp 3) (.arr 4 6 0 (m').nx.length) (.arr 5 1 0 (m').un.length)]),(2,.cells 150 12 ((m').F.map OV)),(3,.mp (mapA .u16 (Ob (m').F))),(4,.cells 94 6 ((m').nx.map OT)),(5,.cells 4 1 ((m').un.map AO))] [0,1,6,7,8,9] (rl a rfl) (by (simp[cX,zC,a,AG])) ?_;(try dsimp only[cA,cB])
   (repeat' first|(refine sA rfl ?_ ?_;first|exact tI|omega)|refine t4 rfl ‹_› rfl ?_|refine s2 rfl λ_ c=>?_|refine s3 rfl ?_ ?_<;>rintro rfl|refine aU rfl ?_|apply Aa|(refine aC rfl ?_ ?_<;>rintro⟨⟩));all_goals try contradiction
   all_goals first
    | (exfalso;omega;done)
    | skip
   exact aR ⟨_,rfl,[0,1,2,3,4,5],eI .i64 (-1),jO t m',iB rfl,rfl,by (simp[cX,zC,a,AG]),rfl,rfl,rfl⟩
theorem eo{α:Type}{a:α}{l:List α}(b:l.Nodup)(h:∀x∈l,x=a):l.length<=1:=by
 match l,b,h with
 | [],_,_=>simp
 | [x],_,_=>simp
 | x::y::r,b,h=>
  have d:=h x (by simp);have c:=h y (by simp);rw[d,c]at b;simp at b
theorem SI{t:BX}(ht:AY t=true):∃m,(Mc t fF m/\m.F.length<=100)/\AE Tryz.prog TB 52 0 [] 0 [Pj t] (λx σ nx=>x=.o (.ptr 0 14 0 0)/\σ=NB t m/\nx=5):=by
 obtain⟨m,a,h⟩:=MN (TB:=TB) ht (λ_=>False)
 have hk:∀F∈m.F,F=BF t:=λF b=>by
  rcases a.1.rk F b with h|⟨_,_,h,_⟩
  .exact h
  .exact h.elim
 have c:=eo a.1.nd hk;exact⟨m,⟨⟨⟨a.1.l1,a.1.l2,a.1.nd,a.1.rc,λF b=>.inl (hk F b),a.1.un,a.1.nx⟩,a.2⟩,by omega⟩,h⟩
noncomputable def YE(t:BX):Option AI:=if AY t then O8 t else none
theorem ql{X:Nat->Prop}{Y:Prop}(h:∀z,X z)(hk:(∀z,X z)->Y):Y:=hk h
theorem qk{C X:Int->Prop}{Y:Prop}(h:∀s,C s->X s)(hk:(∀s,C s->X s)->Y):Y:=hk h
theorem fT{t:BX}{m:CW}{nd:List Int}(h:∀q∈nd,Si t m q):(nd.map (IH m)).map Option.isSome=nd.map (λq=>decide (q≠-1))/\((none:Option PS)∈nd.map (IH m)↔(-1:Int)∈nd):=by
 have key:∀q,Si t m q->(IH m q).isSome=decide (q≠-1):=by
  rintro q (rfl|⟨j,F,rfl,e,_⟩)
  .rw[GV];rfl
  .rw[Gk,e]
   show true=decide _
   symm;rw[decide_eq_true_eq];omega
 refine⟨by rw[uG];exact uA λq a=>key q (h q a),λb=>?_,λb=>d8.2 ⟨-1,b,GV m⟩⟩;obtain⟨q,a,d⟩:=d8.1 b;have:=key q (h q a);rw[d]at this;by_cases c:q = -1
 .exact c▸a
 .rw[decide_eq_true c]at this;cases this
theorem Qy(t:BX):Pure Tryz.prog TB 24 [Pj t] (gC (YE t)):=by
 have B:=Ix (TB:=TB) t;unfold YE;by_cases ht:AY t=true
 .rw [ht]at B
  rw[if_pos ht];obtain⟨m,⟨w,Q⟩,N⟩:=SI (TB:=TB) ht;have h2:=Cq (TB:=TB) t.al;have R:(Ab t.al).length<=6:=AA t.al 6;have V:=w.1.un 0 _ w.2;have hul:=(am.1 V).1
  have v:(m.un.map AO)[0+(0:Int).toNat]?=some (AO (E9 t (BF t))):=by show (m.un.map AO)[0]?=_;simp[V]
  refine eG Tryz.func24 rfl (by kernel_rfl) rfl ?_;intro Γ a;(repeat first|refine tA rfl ?_|refine s2 rfl λ_ c=>?_|refine sP rfl (B) rfl ?_|refine aU rfl ?_|apply Aa)
  ((refine aC rfl ?_ ?_<;>rintro⟨⟩);all_goals try (simp at c;done))
  apply aK;(repeat first|refine tA rfl ?_|refine aU rfl ?_);(refine pK [] 0 rfl (N) rfl rfl (by simp[cX,zC,a,AG]) ?_;rintro x0 G H ⟨rfl,rfl,rfl⟩ _);(repeat first|refine tA rfl ?_);apply Aa;refine Al.AQ [1] [0] rfl rfl [(2,.o (.ptr 0 3 0 0)),(4,.o (.ptr 1 1 0 0))] [(1,.cells 80 1 [[.ptr 2 14 0 0]]),(2,.cells 89 14 [RB t (.arr 3 12 0 (m).F.length) (.mp 4) (.arr 5 6 0 (m).nx.length) (.arr 6 1 0 (m).un.length)]),(3,.cells 150 12 ((m).F.map OV)),(4,.mp (mapA .u16 (Ob (m).F))),(5,.cells 94 6 ((m).nx.map OT)),(6,.cells 4 1 ((m).un.map AO))] [0,6,1,2,3,4,5] (rl a rfl) (by (simp[cX,zC,a,AG,eC,Ae])) ?_;(try dsimp only[cA,cB]);apply qk (C:=λs=>Si t m s/\IH m s=ml t)
  case hk=>
   intro hk;cases n:E9 t (BF t)
   .rw[n]at v
    (repeat first|(refine sA rfl ?_ ?_;first|exact tI|omega)|refine t4 rfl ‹_› rfl ?_|refine sP rfl (h2) rfl ?_|refine aU rfl ?_|apply Aa)
    ((refine aC rfl ?_ ?_<;>rintro⟨⟩);all_goals try (simp at c;done))
    apply aK
    obtain⟨s,r⟩:∃s:Int,s=0:=⟨_,rfl⟩
    refine Al.AQ [1,5] [0,1,2,3,4,5,6] rfl rfl [(2,.o (.ptr 0 3 0 0)),(4,.o (.ptr 1 1 0 0)),(6,.o (.fn 54 [.ptr 1 1 0 0])),(7,eI .i64 s)] [] [0,1,2,3,4,5,6] (rl a rfl) (by (simp[cX,zC,a,AG,r])) ?_;(try dsimp only[cA,cB]);exact hk s ⟨.inr ⟨0,_,r,w.2,n⟩,by rw[r];show IH m ((0:Nat):Int)=_;rw[Gk,w.2];unfold ml;rw[if_neg (by rw[n];decide)]⟩
   .rw[n]at v
    (repeat first|(refine sA rfl ?_ ?_;first|exact tI|omega)|refine t4 rfl ‹_› rfl ?_|refine sP rfl (h2) rfl ?_|refine aU rfl ?_|apply Aa)
    ((refine aC rfl ?_ ?_<;>rintro⟨⟩);all_goals try (simp at c;done))
    refine aU rfl ?_;(repeat first|refine tA rfl ?_);apply Aa
    obtain⟨s,r⟩:∃s:Int,s = -1:=⟨_,rfl⟩
    refine Al.AQ [1,5] [0,1,2,3,4,5,6] rfl rfl [(2,.o (.ptr 0 3 0 0)),(4,.o (.ptr 1 1 0 0)),(6,.o (.fn 54 [.ptr 1 1 0 0])),(7,eI .i64 s)] [] [0,1,2,3,4,5,6] (rl a rfl) (by (simp[cX,zC,a,AG,r])) ?_;(try dsimp only[cA,cB]);exact hk s ⟨.inl r,by rw[r,GV];unfold ml;rw[if_pos n]⟩
  case h =>
   intro s ⟨K,J⟩;have P:=UU (TB:=TB) (t:=t) (m0:=m) (f:=fg (er t)) (ls:=Ab t.al) (s0:=s) (g:=54) R w.1 Q K (YF ht);(repeat first|refine tA rfl ?_|refine aU rfl ?_);(refine pK [1,2,3,4,5,6] 2 rfl (P) rfl rfl (by simp[cX,zC,a,AG]) ?_;rintro x0 G H ⟨m2,o,hm2,X,L,e,rfl,rfl,rfl⟩ _);rw[J]at e
   cases o with
   | none=>
    have i:O8 t=none:=by unfold O8;rw[e];rfl
    rw[i];(repeat first|refine tA rfl ?_|refine s2 rfl λ_ c=>?_|refine s3 rfl ?_ ?_<;>rintro rfl|refine aU rfl ?_|apply Aa)
    (repeat' first|refine tA rfl ?_|refine s2 rfl λ_ c=>?_|refine sV rfl rfl (by rfl) (by rfl) ?_|refine s3 rfl ?_ ?_<;>rintro rfl|refine aU rfl ?_|apply Aa|(refine aC rfl ?_ ?_<;>rintro⟨⟩));all_goals try contradiction
    all_goals (subst_vars;exact aR ⟨_,rfl,rfl⟩)
   | some p =>
    obtain⟨nd,rows⟩:=p;have L:=L _ rfl;obtain⟨y,T⟩:=fT L;have S:=Ur (TB:=TB) nd (-1);have e:Lb 41 (fg (er t)) (Ab t.al) (ml t)=some (nd.map (IH m2),rows):=e;have I:=(Se e).1;have j:=Xs (TB:=TB) I
    have hnd:nd.length<=64:=by
     have Z:=I.b.1;have Y:=I.ac;unfold kq at Z Y;simp only[io]at Z Y;omega
    unfold kq at j;rw[y]at j
    have i:O8 t=if 40<nd.length/\(-1:Int)∉nd then none else kT (JY ⟨t.al,rows,nd.map (λq=>decide (q≠-1))⟩):=by
     unfold O8;rw[e];simp only[io,T];unfold kq;rw[y]
    rw[i];generalize JY ⟨t.al,rows,nd.map (λq=>decide (q≠-1))⟩=M at *;by_cases u:40<nd.length/\(-1:Int)∉nd
    .rw [if_pos u]
     rw[decide_eq_false u.2]at S;(repeat first|refine tA rfl ?_|refine s2 rfl λ_ c=>?_|refine s3 rfl ?_ ?_<;>rintro rfl|refine aU rfl ?_|apply Aa)
     (repeat' first|refine sN rfl ?_|refine tA rfl ?_|refine s2 rfl λ_ c=>?_|refine sP rfl (S) rfl ?_|refine sV rfl rfl (by rfl) (by rfl) ?_|refine s3 rfl ?_ ?_<;>rintro rfl|refine aU rfl ?_|apply Aa|(refine aC rfl ?_ ?_<;>rintro⟨⟩));all_goals try contradiction
     all_goals first
      | (exfalso;(simp only[oZ] at *;omega);done)
      | (exfalso;simp at *;done)
      | (exfalso;grind;done)
      | (subst_vars;exact aR ⟨_,rfl,rfl⟩)
    .rw [if_neg u]
     apply ql
     case hk=>
      intro hk;(repeat first|refine tA rfl ?_|refine s2 rfl λ_ c=>?_|refine s3 rfl ?_ ?_<;>rintro rfl|refine aU rfl ?_|apply Aa)
      (repeat' first|refine sN rfl ?_|refine tA rfl ?_|refine s2 rfl λ_ c=>?_|refine sP rfl (S) rfl ?_|refine s3 rfl ?_ ?_<;>rintro rfl|refine aU rfl ?_|apply Aa|(refine aC rfl ?_ ?_<;>rintro⟨⟩));all_goals try contradiction
      all_goals first
       | (exfalso;omega;done)
       | (exfalso;simp at *;done)
       | (exfalso;grind;done)
       | skip
      all_goals
       apply aK;refine Al.AQ [1,8,9] [0] rfl rfl [(2,.o (.ptr 0 3 0 0))] [] [0] (rl a rfl) (by (simp[cX,zC,a])) ?_;(try dsimp only[cA,cB])
       obtain⟨z,_⟩:∃z:Nat,z=0:=⟨_,rfl⟩
       exact hk z
     case h=>
     intro _;(repeat first|refine tA rfl ?_|refine aU rfl ?_);(refine pW rfl ?_ rfl (by rfl);refine Hv 2 1 4 rfl rfl rfl (by rfl) (by rfl) ?_);(repeat first|refine sN rfl ?_|refine tA rfl ?_|refine aU rfl ?_|apply Aa);refine Al.AQ [56,57,58] [0] rfl rfl [(2,.o (.ptr 0 3 0 0)),(11,.o (.ptr 1 3 0 0))] [(1,.cells 29 3 [[.d (iD t.al),.d (Ce rows),.arr 2 1 0 0]]),(2,.cells 4 1 [])] [0,2,1] (rl a rfl) (by (simp[cX,zC,a,eC,Bl,Ae])) ?_;(try dsimp only[cA,cB]);apply aB;refine aL (α:={k:Nat // k<=nd.length}) [56,57] [] rfl rfl (λ⟨k,hk⟩=>[(2,.o (.ptr 0 3 0 0)),(11,.o (.ptr 1 3 0 0)),(58,eI .i64 k)]) (λ⟨k,hk⟩=>[(0,.cells 29 3 [[.d (iD 0),.d (.l []),.d (.l [])]]),(1,.cells 29 3 [[.d (iD t.al),.d (Ce rows),.arr 2 1 0 k]]),(2,.cells 4 1 ((nd.take k).map λq=>AO (decide (q≠-1))))]) 3 (λ⟨k,hk⟩=>nd.length-k) (⟨0,by omega⟩) a rfl (by (simp[cX,zC,a,cN,Ae,eC,Bl])) ?_;rintro⟨k,hk⟩;(try dsimp only[cA,cB]);(repeat first|refine s2 rfl λ_ c=>?_|refine aU rfl ?_|apply Aa)
     ((refine aC rfl ?_ ?_<;>rintro⟨⟩);all_goals try (simp at c;done))
     .obtain⟨x,U⟩:=get_some (l:=nd) (k:=k) (by (simp only[oZ] at *;omega))
      have hx':=get_map (g:=A9) U;apply aK;refine aS (aB ?_);(repeat first|refine tA rfl ?_|(refine s4 rfl ‹_› rfl ?_ ?_;omega)|refine s2 rfl λ_ c=>?_|refine aU rfl ?_|apply Aa);subst c;(refine pA rfl (by first|(simp;done)|(simp;(first|omega|simp only[oZ] at *;omega))) (by simp;omega) ?_);(repeat first|(refine sA rfl ?_ ?_;first|exact tI|omega)|refine aU rfl ?_|apply Aa);refine⟨⟨k+1,by (simp only[oZ] at *;omega)⟩,by dsimp only;((simp only[oZ] at *;omega)),[0,1,3],?_⟩;simp[cX,zC,a,cN,Ae,eC,Bl,d9,U]
     .obtain rfl:k=nd.length:=by (simp only[oZ] at *;omega)
      apply aE;rw[i9];refine Al.Bb [1,2] [(2,.o (.ptr 0 3 0 0)),(11,.o (.ip (AT ⟨t.al,rows,nd.map (λq=>decide (q≠-1))⟩)))] ⟨⟨_,rfl,.inl rfl⟩,⟨_,rfl,.inr (.o (.box rfl (.cons .d (.cons .d (.cons (.full rfl (by simp[d6]) (by simp)) .nil)))))⟩,trivial⟩ ?_;(repeat first|refine sN rfl ?_|refine tA rfl ?_|refine s2 rfl λ_ c=>?_|refine sP rfl (j) rfl ?_|refine aU rfl ?_|apply Aa);unfold kT;by_cases A:12<M.nx.length
      .rw [if_pos A]
       (repeat' first|refine tA rfl ?_|refine sV rfl rfl (by rfl) (by rfl) ?_|refine aU rfl ?_|apply Aa|(refine aC rfl ?_ ?_<;>rintro⟨⟩));all_goals try contradiction
       all_goals first
        | (exfalso;(simp only[oZ] at *;omega);done)
        | (subst_vars;exact aR ⟨_,rfl,rfl⟩)
      .rw [if_neg A]
       (repeat' first|refine tA rfl ?_|refine sV rfl rfl (by rfl) (by rfl) ?_|refine aU rfl ?_|apply Aa|(refine aC rfl ?_ ?_<;>rintro⟨⟩));all_goals try contradiction
       all_goals first
        | (exfalso;(simp only[oZ] at *;omega);done)
        | (apply aK)
       (repeat first|refine tA rfl ?_|refine aU rfl ?_|apply Aa);(subst_vars;exact aR ⟨_,rfl,rfl⟩)
 .have ht:AY t=false:=by simpa using ht
  rw[ht]at B;rw[if_neg (by rw[ht];decide)];refine eG Tryz.func24 rfl (by kernel_rfl) rfl ?_;intro Γ a;(repeat first|refine tA rfl ?_|refine s2 rfl λ_ c=>?_|refine sP rfl (B) rfl ?_|refine aU rfl ?_|apply Aa)
  ((refine aC rfl ?_ ?_<;>rintro⟨⟩);all_goals try (simp at c;done))
  (repeat first|refine tA rfl ?_|refine sV rfl rfl (by rfl) (by rfl) ?_|refine aU rfl ?_|apply Aa);(subst_vars;exact aR ⟨_,rfl,rfl⟩)
noncomputable def LG(s t:Sys)(p:AI)(al:Int):Nat->AI
 | 0=>JB
 | k+1=>BN s p al (BO s t p al k)
abbrev qf(v:Vd)(a:AI):E:=.t [(true,(Nr v).map .d),(true,(AT a).map .d)]
noncomputable def SM(s t:Sys)(p:AI)(al:Int)(R:Int):Vd:=if ((BT s t p al).length:Int)<=R then BL s t p else ⟨2,JB,[],(R.toNat:Int)⟩
theorem dP{s t:Sys}{p:AI}(h:Bj s p t<0)(a:s.es.length<=1048576)(R:Int):Pure Tryz.prog TB 31 [BD s,BD t,Bp p,eI .i64 R] (qf ⟨3,JB,[],0⟩ JB):=by
 have b:=Km (TB:=TB) s p t a;unfold SV at b;rw[if_pos h]at b;refine eG Tryz.func31 rfl (by kernel_rfl) rfl ?_;intro Γ d;(repeat first|refine tA rfl ?_|refine s2 rfl λ_ c=>?_|refine sP rfl (b) rfl ?_|refine aU rfl ?_|apply Aa)
 ((refine aC rfl ?_ ?_<;>rintro⟨⟩);all_goals try (simp at c;done))
 (repeat first|refine tA rfl ?_|refine sV rfl rfl (by rfl) (by rfl) ?_|refine aU rfl ?_|apply Aa);(subst_vars;exact aR ⟨_,rfl,rfl⟩)
theorem dQ{s t:Sys}{p:AI}{al:Int}(hI:E5 s p t al)(Y:s.es.length<=1048576)(R:Int):Pure Tryz.prog TB 31 [BD s,BD t,Bp p,eI .i64 R] (qf (SM s t p al R) (LG s t p al (min (BT s t p al).length R.toNat))):=by
 have h1:=Km (TB:=TB) s p t Y;unfold SV at h1;rw[if_neg (WW hI),<-hI.hal]at h1;have h2:=fb (TB:=TB) s p al;rw[j8 (t:=t) hI]at h2;obtain⟨U,T⟩:=KJ hI
 obtain⟨n,hn⟩:∃n,n=(BT s t p al).length:=⟨_,rfl⟩
 rw[<-hn]at U T |-
 obtain⟨V,j⟩:∃V,V=SM s t p al R:=⟨_,rfl⟩
 obtain⟨A,m⟩:∃A,A=LG s t p al (min n R.toNat):=⟨_,rfl⟩
 rw[<-j,<-m];refine eG Tryz.func31 rfl (by kernel_rfl) rfl ?_;intro Γ e;(repeat first|refine tA rfl ?_|refine s2 rfl λ_ c=>?_|refine sP rfl (h1) rfl ?_|refine aU rfl ?_|apply Aa)
 ((refine aC rfl ?_ ?_<;>rintro⟨⟩);all_goals try (simp at c;done))
 apply aK;(repeat first|refine tA rfl ?_|refine sP rfl (h2) rfl ?_|refine sV rfl rfl (by rfl) (by rfl) ?_|refine aU rfl ?_|apply Aa);refine Al.Bb [2,3] [(3,eI .i64 R),(4,.o (.ip (AU s))),(5,.o (.ip (AU t))),(6,.o (.ip (AT p))),(8,.o (.ptr 0 6 0 0)),(9,.o (.ptr 1 3 0 0)),(10,.o (.ip (Nn ⟨s,p,al⟩))),(12,.o (.ip (kg false JB s p al))),(13,.o (.ptr 4 2 0 0)),(14,eB true),(15,.o (.ptr 5 6 0 0)),(16,.o (.ptr 6 3 0 0))] ⟨⟨_,rfl,.inl rfl⟩,⟨_,rfl,.inl rfl⟩,⟨_,rfl,.inl rfl⟩,⟨_,rfl,.inl rfl⟩,⟨_,rfl,.inl rfl⟩,⟨_,rfl,.inl rfl⟩,⟨_,rfl,.inr (.o (.box rfl (HG.refl (Nn ⟨s,p,al⟩))))⟩,⟨_,rfl,.inr (.o (.box rfl (HG.refl (kg false JB s p al))))⟩,⟨_,rfl,.inl rfl⟩,⟨_,rfl,.inl rfl⟩,⟨_,rfl,.inl rfl⟩,⟨_,rfl,.inl rfl⟩,trivial⟩ ?_;refine Al.AQ [3,4,5,6,10,12] [0,1] rfl rfl [(8,.o (.ptr 0 6 0 0)),(9,.o (.ptr 1 3 0 0)),(13,.o (.ptr 2 2 0 0)),(14,eB true),(15,.o (.ptr 3 6 0 0)),(16,.o (.ptr 4 3 0 0))] [(2,.cells 109 2 [[.d (BZ (BO s t p al 0).rows),.d (BZ (BO s t p al 0).cols)]]),(3,.cells 33 6 [[.d (iD 2),.d (iD 0),.d (.l []),.d (.l []),.d (tD []),.d (iD 0)]]),(4,.cells 29 3 [[.d (iD 0),.d (.l []),.d (.l [])]])] [0,1,4,5,6] (rl e rfl) (by (simp[cX,zC,e,cN,Bl,Ae,eC])) ?_;(try dsimp only[cA,cB]);apply aB;refine aL (α:={k:Nat // k<=n/\k<=R.toNat/\(k=n->BL s t p=⟨2,JB,[],(k:Int)⟩)}) [3,4,5,6,8,9,10,12,13,15,16] [0,1] rfl rfl (λ⟨k,u,x,i⟩=>[(14,eB (decide (k<n)))]) (λ⟨k,u,x,i⟩=>[(2,.cells 109 2 [[.d (BZ (BO s t p al k).rows),.d (BZ (BO s t p al k).cols)]]),(3,.cells 33 6 [[.d (iD 2),.d (iD 0),.d (.l []),.d (.l []),.d (tD []),.d (iD k)]]),(4,.cells 29 3 [[.d (iD (LG s t p al k).al),.d (Ce (LG s t p al k).nx),.d (EP (LG s t p al k).ac)]])]) 5 (λ⟨k,u,x,i⟩=>n-k) (⟨0,by omega,by omega,by omega⟩) e rfl (by (simp[cX,zC,e,cN,LG,JB,decide_eq_true (show 0<n by omega)])) ?_;rintro⟨k,u,x,i⟩;(try dsimp only[cA,cB]);by_cases H:k<n
 .simp only [decide_eq_true H]
  by_cases hR:(k:Int)<R
  .obtain⟨K,J⟩:=XR hI (k:=k) (by omega)
   have B:YH (BO s t p al k):=by obtain⟨_,_,_,P,_⟩:=C3 K.v;exact P.sz
   have f:=fc (TB:=TB) s p al (BO s t p al k) B;rw[gd hI K]at f;obtain⟨hao,_⟩:=IZ hI K;have g:LG s t p al (k+1)=BN s p al (BO s t p al k):=rfl
   have I:k+1=(BT s t p al).length->SM s t p al R=BL s t p/\min n R.toNat=k+1:=λh=>⟨by unfold SM;rw[if_pos (by omega)],by omega⟩
   rcases J with ⟨Q,z,hk⟩|⟨w,b,Q,G,q,J⟩
   .have y:=Xb (TB:=TB) hI Q
    obtain⟨M,L⟩:=I hk
    have eV:V=⟨0,BN s p al (BO s t p al k),[],(k:Int)+1⟩:=by rw[j,M,z]
    have eA:A=BN s p al (BO s t p al k):=by rw[m,L,g]
    clear j m;subst eV eA;have Z:=Ky (TB:=TB) (BN s p al (BO s t p al k)) (Qc hao);generalize BN s p al (BO s t p al k)=a at *;generalize LG s t p al k=la;generalize BO s t p al k=tb at *;(repeat first|refine tA rfl ?_|refine s2 rfl λ_ c=>?_|refine aU rfl ?_|apply Aa)
    ((refine aC rfl ?_ ?_<;>rintro⟨⟩);(all_goals try (simp at c;done));(all_goals try(exfalso;(simp only[oZ] at *;omega))))
    apply aK;apply aB;(repeat first|(refine sA rfl ?_ ?_;first|exact tI|omega)|refine sP rfl (f) rfl ?_|refine sP rfl (y) rfl ?_|refine aU rfl ?_|apply Aa);apply aB;(repeat first|refine tA rfl ?_|refine s2 rfl λ_ c=>?_|refine aU rfl ?_|apply Aa)
    ((refine aC rfl ?_ ?_<;>rintro⟨⟩);(all_goals try (simp at c;done));(all_goals try(exfalso;omega)))
    (repeat first|refine tX rfl ?_|refine aU rfl ?_|apply Aa);(refine pK [] 0 rfl (Z) rfl rfl (by simp[cX,zC,e,cN]) ?_;rintro x0 σ1 nx1 ⟨l,hl,rfl,rfl,rfl⟩ _);(repeat first|refine tX rfl ?_|refine aU rfl ?_|apply Aa);refine Al.AQ [3,4,5,6,10,12] [0,1] rfl rfl [(8,.o (.ptr 0 6 0 0)),(9,.o (.ptr 1 3 0 0)),(15,.o (.ptr 2 6 0 0)),(16,.o (.ptr 3 3 0 0))] [(2,.cells 33 6 [[.d (iD 0),.d (iD a.al),.arr 4 1 0 l.length,.arr 5 1 0 a.ac.length,.d (tD []),.d (iD ((k:Int)+1))]]),(3,.cells 29 3 [[.d (iD a.al),.d (Ce a.nx),.d (EP a.ac)]]),(4,.cells 63 1 (AN l)),(5,.cells 4 1 (a.ac.map AO)),(6,.sld 3 (sI l))] [0,1,3,4,6,7,8] (rl e rfl) (by (simp[cX,zC,e,cN,Bl,Ae,eC])) ?_;(try dsimp only[cA,cB]);refine Al.Bb [2,3,4,5,6] [(8,.o (.ptr 0 6 0 0)),(9,.o (.ptr 1 3 0 0)),(15,.o (.ip (Nr ⟨0,⟨a.al,l.map (·.2),a.ac⟩,[],(k:Int)+1⟩))),(16,.o (.ip (AT a)))] ⟨⟨_,rfl,.inl rfl⟩,⟨_,rfl,.inl rfl⟩,⟨_,rfl,.inr (.o (.box rfl (.cons .d (.cons .d (.cons (.fD (s:=6) rfl rfl) (.cons (.full rfl (by simp[d6]) (by simp)) (.cons .d (.cons .d .nil))))))))⟩,⟨_,rfl,.inr (.o (.box rfl (HG.refl (AT a))))⟩,trivial⟩ ?_;rw[hl];refine rG (Nz [(2,1),(3,1)]) (by kernel_rfl) ?_;(repeat first|refine tA rfl ?_|apply Aa);(subst_vars;exact aR ⟨_,rfl,rfl⟩)
   .have y:=Xc (TB:=TB) hI Q G q
    have S:=FH (TB:=TB) [s,t] p;have r:=ZY (TB:=TB) s p al (BO s t p al k) B w q;rw[cQ hI K G q]at r
    rcases J with ⟨rfl,hb0,z,hk⟩|⟨hb,J⟩
    .rw[hb0,wu,if_neg uZ]at y
     obtain⟨M,L⟩:=I hk
     have eV:V=⟨1,JB,Pe (BU [s,t] p),(k:Int)+1⟩:=by rw[j,M,z]
     have eA:A=BN s p al (BO s t p al k):=by rw[m,L,g]
     clear j m;subst eV eA;generalize BN s p al (BO s t p al k)=a at *;generalize LG s t p al k=la;generalize BO s t p al k=tb at *;(repeat first|refine tA rfl ?_|refine s2 rfl λ_ c=>?_|refine aU rfl ?_|apply Aa)
     ((refine aC rfl ?_ ?_<;>rintro⟨⟩);(all_goals try (simp at c;done));(all_goals try(exfalso;(simp only[oZ] at *;omega))))
     apply aK;apply aB;(repeat first|(refine sA rfl ?_ ?_;first|exact tI|omega)|refine sP rfl (f) rfl ?_|refine sP rfl (y) rfl ?_|refine aU rfl ?_|apply Aa);apply aB;(repeat first|refine tA rfl ?_|refine s2 rfl λ_ c=>?_|refine aU rfl ?_|apply Aa)
     ((refine aC rfl ?_ ?_<;>rintro⟨⟩);(all_goals try (simp at c;done));(all_goals try(exfalso;omega)))
     (repeat first|refine tA rfl ?_|refine s2 rfl λ_ c=>?_|refine aU rfl ?_|apply Aa)
     ((refine aC rfl ?_ ?_<;>rintro⟨⟩);(all_goals try (simp at c;done));(all_goals try(exfalso;omega)))
     (repeat first|refine tA rfl ?_|refine sP rfl (S) rfl ?_|refine aU rfl ?_|apply Aa);refine Al.AQ [3,4,5,6,10,12] [0,1] rfl rfl [(8,.o (.ptr 0 6 0 0)),(9,.o (.ptr 1 3 0 0)),(15,.o (.ptr 2 6 0 0)),(16,.o (.ptr 3 3 0 0))] [(2,.cells 33 6 [[.d (iD 1),.d (iD 0),.d (.l []),.d (.l []),.d (tD (Pe (BU [s,t] p))),.d (iD ((k:Int)+1))]]),(3,.cells 29 3 [[.d (iD a.al),.d (Ce a.nx),.d (EP a.ac)]])] [0,1,3,4] (rl e rfl) (by (simp[cX,zC,e,cN,Bl,Ae,eC])) ?_;(try dsimp only[cA,cB]);refine Al.Bb [2,3] [(8,.o (.ptr 0 6 0 0)),(9,.o (.ptr 1 3 0 0)),(15,.o (.ip (Nr ⟨1,JB,Pe (BU [s,t] p),(k:Int)+1⟩))),(16,.o (.ip (AT a)))] ⟨⟨_,rfl,.inl rfl⟩,⟨_,rfl,.inl rfl⟩,⟨_,rfl,.inr (.o (.box rfl (HG.refl (Nr ⟨1,JB,Pe (BU [s,t] p),(k:Int)+1⟩))))⟩,⟨_,rfl,.inr (.o (.box rfl (HG.refl (AT a))))⟩,trivial⟩ ?_;refine rG (Nz [(2,1),(3,1)]) (by kernel_rfl) ?_;(repeat first|refine tA rfl ?_|apply Aa);(subst_vars;exact aR ⟨_,rfl,rfl⟩)
    .rw [if_pos (by rcases hb with h|h<;>simp[h])]at y
     rcases J with ⟨F,hlt2⟩|⟨F,N,hk,z⟩
     all_goals
      rw[F]at r
      have X:(k:Int)+1=((k+1:Nat):Int):=by omega
      generalize BN s p al (BO s t p al k)=a at *;generalize LG s t p al k=la;generalize BO s t p al k=tb at *;(repeat first|refine tA rfl ?_|refine s2 rfl λ_ c=>?_|refine aU rfl ?_|apply Aa)
      ((refine aC rfl ?_ ?_<;>rintro⟨⟩);(all_goals try (simp at c;done));(all_goals try(exfalso;(simp only[oZ] at *;omega))))
      apply aK;apply aB;(repeat first|(refine sA rfl ?_ ?_;first|exact tI|omega)|refine sP rfl (f) rfl ?_|refine sP rfl (y) rfl ?_|refine aU rfl ?_|apply Aa);apply aB;(repeat first|refine tA rfl ?_|refine s2 rfl λ_ c=>?_|refine aU rfl ?_|apply Aa)
      ((refine aC rfl ?_ ?_<;>rintro⟨⟩);(all_goals try (simp at c;done));(all_goals try(exfalso;omega)))
      (repeat first|refine tA rfl ?_|refine s2 rfl λ_ c=>?_|refine aU rfl ?_|apply Aa)
      ((refine aC rfl ?_ ?_<;>rintro⟨⟩);(all_goals try (simp at c;done));(all_goals try(exfalso;omega)))
      apply aK;(repeat first|refine tA rfl ?_|refine sP rfl (r) rfl ?_|refine aU rfl ?_|apply Aa)
     .refine⟨⟨k+1,by omega,by omega,by omega⟩,by dsimp only;(omega),[0,1,2,3,4],?_⟩
      simp[cX,zC,e,cN,g,decide_eq_true (show k+1<n by omega)]
     .refine⟨⟨k+1,by omega,by omega,λ_=>by rw[z,X]⟩,by dsimp only;(omega),[0,1,2,3,4],?_⟩
      simp[cX,zC,e,cN,g,N,decide_eq_false (show ¬k+1<n by omega)]
  .have hk:k=R.toNat:=by omega
   have e1:SM s t p al R=⟨2,JB,[],(k:Int)⟩:=by unfold SM;rw[if_neg (by omega),hk]
   have e2:min n R.toNat=k:=by omega
   have eV:V=⟨2,JB,[],(k:Int)⟩:=by rw[j,e1]
   have eA:A=LG s t p al k:=by rw[m,e2]
   clear j m;subst eV eA;generalize LG s t p al k=la;generalize BO s t p al k=tb;(repeat first|refine tA rfl ?_|refine s2 rfl λ_ c=>?_|refine aU rfl ?_|apply Aa)
   ((refine aC rfl ?_ ?_<;>rintro⟨⟩);(all_goals try (simp at c;done));(all_goals try(exfalso;(simp only[oZ] at *;omega))))
   apply aE;(repeat first|refine aU rfl ?_);refine Al.Bb [3,4] [(8,.o (.ptr 0 6 0 0)),(9,.o (.ptr 1 3 0 0)),(15,.o (.ip (Nr ⟨2,JB,[],(k:Int)⟩))),(16,.o (.ip (AT la)))] ⟨⟨_,rfl,.inl rfl⟩,⟨_,rfl,.inl rfl⟩,⟨_,rfl,.inr (.o (.box rfl (HG.refl (Nr ⟨2,JB,[],(k:Int)⟩))))⟩,⟨_,rfl,.inr (.o (.box rfl (HG.refl (AT la))))⟩,trivial⟩ ?_;refine rG (Nz [(2,1),(3,1)]) (by kernel_rfl) ?_;(repeat first|refine tA rfl ?_|apply Aa);(subst_vars;exact aR ⟨_,rfl,rfl⟩)
 .obtain rfl:k=n:=by omega
  have e1:SM s t p al R=⟨2,JB,[],(k:Int)⟩:=by unfold SM;rw[if_pos (by omega)];exact i rfl
  have e2:min k R.toNat=k:=by omega
  simp only[decide_eq_false H]
  have eV:V=⟨2,JB,[],(k:Int)⟩:=by rw[j,e1]
  have eA:A=LG s t p al k:=by rw[m,e2]
  clear j m;subst eV eA;generalize LG s t p al k=la;generalize BO s t p al k=tb;(repeat first|refine tA rfl ?_|refine aU rfl ?_|apply Aa)
  ((refine aC rfl ?_ ?_<;>rintro⟨⟩);all_goals try (simp at c;done))
  apply aE;(repeat first|refine aU rfl ?_);refine Al.Bb [3,4] [(8,.o (.ptr 0 6 0 0)),(9,.o (.ptr 1 3 0 0)),(15,.o (.ip (Nr ⟨2,JB,[],(k:Int)⟩))),(16,.o (.ip (AT la)))] ⟨⟨_,rfl,.inl rfl⟩,⟨_,rfl,.inl rfl⟩,⟨_,rfl,.inr (.o (.box rfl (HG.refl (Nr ⟨2,JB,[],(k:Int)⟩))))⟩,⟨_,rfl,.inr (.o (.box rfl (HG.refl (AT la))))⟩,trivial⟩ ?_;refine rG (Nz [(2,1),(3,1)]) (by kernel_rfl) ?_;(repeat first|refine tA rfl ?_|apply Aa);(subst_vars;exact aR ⟨_,rfl,rfl⟩)
theorem Ng(s t:Sys)(p:AI)(a:s.es.length<=1048576):Pure Tryz.prog TB 12 [BD s,BD t,Bp p] (ku (BL s t p)):=by
 by_cases h:Bj s p t<0
 .have b:=dP (TB:=TB) h a 12
  rw[VF h];refine eG Tryz.func12 rfl (by kernel_rfl) rfl ?_;intro Γ c;(repeat first|refine tA rfl ?_|refine sP rfl (b) rfl ?_|refine aU rfl ?_|apply Aa);(subst_vars;exact aR ⟨_,rfl,rfl⟩)
 .have hI:=Hr h
  have b:=dQ (TB:=TB) hI a 12
  have d:SM s t p (Bj s p t) 12=BL s t p:=by
   unfold SM;rw[if_pos (by have:=KJ hI;omega)]
  rw[d]at b;generalize LG s t p (Bj s p t) _=la at b;generalize BL s t p=v at *;refine eG Tryz.func12 rfl (by kernel_rfl) rfl ?_;intro Γ c;(repeat first|refine tA rfl ?_|refine sP rfl (b) rfl ?_|refine aU rfl ?_|apply Aa);(subst_vars;exact aR ⟨_,rfl,rfl⟩)
end Go.Am
namespace Go.Am
open Go Go.Proofs
set_option maxHeartbeats 1000000
set_option maxRecDepth 4000
attribute [local irreducible] A5 CQ Lex BC Al Spec
theorem KU.nz{P:Program}{TB:BB}{c:C}{L:W->Bool}{ok:W->Prop}(h:KU P TB c L ok){w:W}{b:Bool}(hb:L w=b)(i:ok w){Γ:Ctx}{d:Option Tmp}{ty:TypeId}{pos:String}{af:Array Edge}{g:Option (Nat×Bool)}{f:Env}{σ:Ac}{nx:Nat}{x a:Operand}{tys:Array TypeId}
 (e:ev f x=some (.o c)) (ha:ev f a=some (eT w)):A5 P TB Γ ⟨d,.call ⟨.value x,#[a],tys⟩,ty,pos,af,g⟩ f σ nx (eB b):=hb▸h.ask e ha i
theorem p7{m:Nat}{L:W->Bool}{ok:W->Prop}{X:BB->Ctx->C->Prop}{Y:Prop}(h:∀(TB1:BB) (Γ1:Ctx) (a:C),Γ1.V.nx=m->Dy TB1->KU Tryz.prog TB1 a L ok->X TB1 Γ1 a)
 (hk:(∀(TB1:BB) (Γ1:Ctx) (a:C),Γ1.V.nx=m->Dy TB1->KU Tryz.prog TB1 a L ok->X TB1 Γ1 a)->Y):Y:=hk h
theorem XA{tabs:List (Nat×Obj)}[g:Dy ⟨tabs,none⟩]{te:EO}{ok:W->Prop}(c:te.kn=false)(b:CP te=true)(a:∀w,ok w->pH (A1 te) w)(f:VB te ok) :
 ∃(t:BX) (m:CW),Mc t ok m/\AE Tryz.prog ⟨tabs,none⟩ 66 0 [] 0 [EY te] (λx σ nx=>x=.t [(true,[.d (iD (A1 te)),OY (.ptr 0 14 0 0)]),(false,[.d (bD true)])]/\σ=NB t m/\nx=5)/\
  ∀r,KU Tryz.prog ⟨tabs,some (RS t ok,r)⟩ (OY (Rq r)) (Cj te) ok/\Dy ⟨tabs,some (RS t ok,r)⟩:=by
 obtain⟨kn,p,s,q,al⟩:=te;obtain rfl:kn=false:=c;have ht:AY ⟨s,q,al⟩=true:=b;obtain⟨m,e,hno⟩:=SH (TB:=⟨tabs,none⟩) p ht ok;exact⟨⟨s,q,al⟩,m,e,hno,λr=>⟨se ht a (f rfl),pb g⟩⟩
def P7(v:Vd)(x:E)(σ:Ac)(nx:Nat):Prop:=
 (v.a=JB/\x=ku v/\σ=[]/\nx=0)\/
 (∃l:JF,l.map (·.2)=v.a.nx/\x=.a [.d (iD v.code),.d (iD v.a.al),.arr 0 1 0 l.length,.arr 1 1 0 v.a.ac.length,.d (tD v.tr),.d (iD v.rd)]/\σ=[(0,.cells 63 1 (AN l)),(1,.cells 4 1 (v.a.ac.map AO)),(2,.sld 3 (sI l))]/\nx=3)
section
variable {tabs:List (Nat×Obj)}[hTb:Dy ⟨tabs,none⟩]
include hTb
theorem ax{s t:Sys}{p:AI}{al:Int}(hI:E5 s p t al)(hes:s.es.length<=1048576):AE Tryz.prog ⟨tabs,none⟩ 29 0 [] 0 [BD s,BD t,Bp p,.o (.d (.v .nilFunc))] (P7 (BL s t p)):=by
 have h1:=HX (TB:=⟨tabs,none⟩) s p t hes;unfold SV at h1;rw[if_neg (WW hI),<-hI.hal]at h1;obtain⟨ok,hs0,hf,hgr,Z⟩:=kG hI (GU hI)
 let te:EO:=Dm s p al
 have G:te.kn=false:=rfl;have hok:CP te=true:=ae hI
 have Y:∀w,ok w->pH (A1 te) w:=λw hw=>by rw[DO];exact hs0 w hw
 have hf:VB te ok:=hf;obtain⟨hl1,hl2⟩:=KJ hI;have h0:=j8 (t:=t) hI;unfold UP at h0;rw[if_pos (ae hI),Js,DO]at h0;refine AE.A6 (AE.PM (m:=0) (co rfl) Tryz.func29 rfl (by kernel_rfl) (co rfl) ?_);intro Γ f;(repeat first|refine tA rfl ?_|refine s2 rfl λ_ e=>?_|refine sP rfl (h1) rfl ?_|refine aU rfl ?_|apply Aa)
 ((refine aC rfl ?_ ?_<;>rintro⟨⟩);all_goals try (simp at e;done))
 apply aK;refine Al.Bb [1] [(3,.o (.d (.v .nilFunc))),(4,.o (.ip (AU s))),(5,.o (.ip (AU t))),(6,.o (.ip (AT p))),(8,.o (.ptr 0 6 0 0)),(9,.o (.ip (Nn ⟨s,p,al⟩)))] ⟨⟨_,rfl,.inl rfl⟩,⟨_,rfl,.inl rfl⟩,⟨_,rfl,.inl rfl⟩,⟨_,rfl,.inl rfl⟩,⟨_,rfl,.inl rfl⟩,⟨_,rfl,.inr (.o (.box rfl (HG.refl (Nn ⟨s,p,al⟩))))⟩,trivial⟩ ?_;refine Al.AQ [3,4,5,6,8,9] [0] rfl rfl [] [] [0] (rl f rfl) (by (simp[cX,zC,f,cN])) ?_;(try dsimp only[cA,cB]);(repeat first|refine tA rfl ?_|refine sV rfl rfl (by rfl) (by rfl) ?_|refine aU rfl ?_)
 apply p7 (m:=0) (L:=Cj te) (ok:=ok);case hk=>(intro hk;obtain⟨tk,mk,hm,hno,n⟩:=XA (tabs:=tabs) G hok Y hf;((refine pK [] 0 rfl (hno) rfl rfl (by simp[cX,zC,f,AG]) ?_;rintro x0 σ1 nx1 ⟨rfl,rfl,rfl⟩ _);(repeat first|refine tA rfl ?_);apply Aa;refine Al.sk (RS tk ok) ⟨mk,hm⟩ 1 [2,3,4,5] (λr=>[(3,.o (.d (.v .nilFunc))),(4,.o (.ip (AU s))),(5,.o (.ip (AU t))),(6,.o (.ip (AT p))),(9,.o (.ip (Nn ⟨s,p,al⟩))),(8,.o (.ptr 0 6 0 0)),(11,.o (.ptr 6 2 0 0))]) (λr=>[(0,.cells 33 6 [[.d (iD 0),.d (iD 0),.d (.l []),.d (.l []),.d (tD []),.d (iD 0)]]),(6,.cells 102 2 [[.d (iD (A1 te)),OY (Rq r)]])]) (by decide) rfl (by ((repeat' first|exact tI|rfl|refine And.intro ?_ ?_)<;>(simp[cX,zC,f,AG]<;>rfl))) ⟨_,_,_,_,rfl⟩ (λr=>by repeat' first|exact tI|refine And.intro ⟨_,rfl,.AM⟩ ?_) (λr=>by repeat' first|exact tI|refine And.intro ⟨by decide,.inl rfl⟩ ?_|refine And.intro ⟨by decide,.inr ⟨_,_,_,_,rfl,rfl,.cons .AM (.cons .mv .nil)⟩⟩ ?_) λr Γ' X=>?_;have f:Γ'.V.nx=0:=(by rw[X];exact f);refine Al.AQ [3,4,5,6,9] [] rfl rfl [(8,.o (.ptr 0 6 0 0)),(11,.o (.ptr 1 2 0 0))] [(0,.cells 33 6 [[.d (iD 0),.d (iD 0),.d (.l []),.d (.l []),.d (tD []),.d (iD 0)]]),(1,.cells 102 2 [[.d (iD (A1 te)),OY (Rq r)]])] [0,6] (rl f rfl) (by (simp[cX,zC,f])) ?_;(try dsimp only[cA,cB]);have S:=n r;obtain⟨TB0,hTB0⟩:∃T,T=(⟨tabs,some (RS tk ok,r)⟩:BB):=⟨_,rfl⟩;obtain⟨c0,hc0⟩:∃c,c=OY (Rq r):=⟨_,rfl⟩;rw[<-hTB0,<-hc0]at S |-;exact hk TB0 Γ' c0 f S.2 S.1))
 case h =>
  intro TB1 Γ1 c1 f hTb1 n
  have n:KU Tryz.prog TB1 c1 (LS ⟨s,p,al⟩) ok:=by rw[<-Js];exact n
  have eal:A1 te=al:=DO s p al;rw[eal];clear_value te;have y:=Fo c1 n.Cg;have hnt:=UQ n al hgr;rw[h0]at hnt
  have H:∀v:Vd,BL s t p=v->v.a=JB->P7 (BL s t p) (ku v) [] 0:=λv h1 h2=>by rw[h1];exact .inl ⟨h2,rfl,rfl,rfl⟩
  (repeat first|refine tA rfl ?_|(refine Ai rfl ?_;refine gA rfl ?_;first|refine gS (λ_ _=>Bo rfl rfl (by simp[E.Cg,C.Cg,C.Db,n.Cg]) (hnt) rfl) ?_)|refine aU rfl ?_|apply Aa);apply aB;refine aL (α:={k:Nat // k<=(BT s t p al).length/\(k=(BT s t p al).length->BL s t p=⟨2,JB,[],(k:Int)⟩)}) [3,4,5,6,8,9,11,13] [0,1] rfl rfl (λ⟨k,G,K⟩=>[(10,eB (decide (k<(BT s t p al).length))),(14,eI .i64 ((k:Int)+1))]) (λ⟨k,G,K⟩=>[(2,.cells 109 2 [[.d (BZ (BO s t p al k).rows),.d (BZ (BO s t p al k).cols)]])]) 3 (λ⟨k,G,K⟩=>(BT s t p al).length-k) (⟨0,by omega,by omega⟩) f rfl (by ((repeat' first|exact tI|rfl|refine And.intro ?_ ?_)<;>(simp[cX,zC,f,cN,y]<;>rfl))) ?_;rintro⟨k,G,K⟩;(try dsimp only[cA,cB]);refine aS (aB ?_);by_cases J:k<(BT s t p al).length
  .simp only [decide_eq_true J]
   obtain⟨hx,U⟩:=XR hI J;have hbd:=VA hx;obtain⟨hao,R⟩:=Z _ (ce (Kr J));have P:=Sq (TB:=TB1) n al (BO s t p al k) hao (hbd.mono (by omega)) hx.o;obtain⟨_,_,_,hcl⟩:=IZ hI hx;have g:=Jy (TB:=TB1) s (BN s p al (BO s t p al k)) p;have z:=Jx (TB:=TB1) t (BN s p al (BO s t p al k));have P:AE Tryz.prog TB1 68 0 [] 0 [JO al c1,Ej (BO s t p al k)] (LY (BN s p al (BO s t p al k))):=P;(repeat first|refine tA rfl ?_|refine s2 rfl λ_ e=>?_|refine aU rfl ?_|apply Aa)
   ((refine aC rfl ?_ ?_<;>rintro⟨⟩);all_goals try (simp at e;done))
   apply aK;(repeat first|refine tA rfl ?_|refine aU rfl ?_);(refine pW rfl ?_ rfl (by rfl);refine PF [] rfl rfl 0 P (by decide) ⟨rfl,by decide,by decide⟩ (by simp[Ep,E.A6,C.Ch,C.A6,y,eC,JO,Ej]<;>rfl) (by simp[cX,zC,f,cN]) ?_;rintro x0 σ1 nx1 ⟨l,F,rfl,rfl,rfl⟩ _);(repeat first|refine tA rfl ?_);apply Aa;refine Al.AQ [3,4,5,6,8,9,11,13,14] [0,1,2] rfl rfl [(15,.o (.ptr 6 3 0 0))] [(3,.cells 63 1 (AN l)),(4,.cells 4 1 ((BN s p al (BO s t p al k)).ac.map AO)),(5,.sld 3 (sI l)),(6,.cells 29 3 [[.d (iD (BN s p al (BO s t p al k)).al),.arr 3 1 0 l.length,.arr 4 1 0 (BN s p al (BO s t p al k)).ac.length]])] [0,1,2,3,4,5,6] (rl f rfl) (by (simp[cX,zC,f,cN,Ae,eC,Bl,y])) ?_;(try dsimp only[cA,cB]);(repeat first|refine tA rfl ?_|(refine Ai rfl ?_;refine gA rfl ?_;first|refine gS (λ_ _=>lX rfl rfl) ?_)|refine aU rfl ?_|apply Aa)
   ((refine aC rfl ?_ ?_<;>rintro⟨⟩);all_goals try (simp at e;done))
   apply aK
   rcases U with ⟨hr,I,hk⟩|⟨w,b,hr,hon,hwl,U⟩
   .obtain⟨g1,g2⟩:=XO hr
    rw[g1]at g;rw[g2]at z
    have hend:∀(x:E) (σ:Ac) (nx:Nat),(∃l:JF,l.map (·.2)=(BN s p al (BO s t p al k)).nx/\x=.a [.d (iD 0),.d (iD (BN s p al (BO s t p al k)).al),.arr 0 1 0 l.length,.arr 1 1 0 (BN s p al (BO s t p al k)).ac.length,.d (tD []),.d (iD ((k:Int)+1))]/\σ=[(0,.cells 63 1 (AN l)),(1,.cells 4 1 ((BN s p al (BO s t p al k)).ac.map AO)),(2,.sld 3 (sI l))]/\nx=3)->P7 (BL s t p) x σ nx:=λx σ nx h=>by rw[I];exact .inr h
    generalize P7 (BL s t p)=Q at *;generalize BN s p al (BO s t p al k)=a at *;(repeat first|refine tA rfl ?_|refine s2 rfl λ_ e=>?_|(refine Ai rfl ?_;refine gA rfl ?_;first|refine gQ (A5.SE [(59,BD s),(60,Bp a),(61,Bp p)] ⟨⟨_,rfl,.AM rfl⟩,⟨_,rfl,Ld (k:=5) rfl rfl rfl F rfl rfl⟩,⟨_,rfl,.AM rfl⟩,trivial⟩ (λΓ'=>Bo rfl rfl rfl g rfl) (Gh _)) rfl ?_)|refine aU rfl ?_|apply Aa)
    ((refine aC rfl ?_ ?_<;>rintro⟨⟩);all_goals try (simp at e;done))
    (repeat first|refine tA rfl ?_|refine s2 rfl λ_ e=>?_|(refine Ai rfl ?_;refine gA rfl ?_;first|refine gQ (A5.SE [(68,BD t),(69,Bp a)] ⟨⟨_,rfl,.AM rfl⟩,⟨_,rfl,Ld (k:=5) rfl rfl rfl F rfl rfl⟩,trivial⟩ (λΓ'=>Bo rfl rfl rfl z rfl) (Gh _)) rfl ?_)|refine aU rfl ?_|apply Aa)
    ((refine aC rfl ?_ ?_<;>rintro⟨⟩);all_goals try (simp at e;done))
    (repeat first|refine tA rfl ?_|refine sV rfl rfl (by rfl) (by rfl) ?_|refine aU rfl ?_|apply Aa);exact aR ⟨_,rfl,[3,4,5],.a [.d (iD 0),.d (iD a.al),.arr 0 1 0 l.length,.arr 1 1 0 a.ac.length,.d (tD []),.d (iD ((k:Int)+1))],[(0,.cells 63 1 (AN l)),(1,.cells 4 1 (a.ac.map AO)),(2,.sld 3 (sI l))],iB rfl,rfl,by (simp[cX,zC,f,cN,Bl,Ae,eC]),hend _ _ _ ⟨l,F,rfl,rfl,rfl⟩⟩
   .obtain⟨A,hoks⟩:=R w b hr
    have j:=SC (TB:=TB1) n al (BO s t p al k) hbd (OL hI) hcl hx.o w hoks hon (by omega);have hpv:=Fz (TB:=TB1) [s,t] p
    rcases XN hI hr with ⟨u,rfl,g1,g2,g3,g4⟩|⟨u,rfl,g0,g1,g2,g3,g4⟩
    .have i:=OX (TB:=TB1) (Dt u) al (by omega)
     rw[g2]at i;rw[g1]at g
     rcases U with ⟨hb,_⟩|⟨_,⟨q,B⟩|⟨q,N,hk,I⟩⟩
     .cases hb
     .rw[q]at j
      generalize BN s p al (BO s t p al k)=a at *;(repeat first|refine tA rfl ?_|refine s2 rfl λ_ e=>?_|(refine Ai rfl ?_;refine gA rfl ?_;first|refine gQ (A5.SE [(59,BD s),(60,Bp a),(61,Bp p)] ⟨⟨_,rfl,.AM rfl⟩,⟨_,rfl,Ld (k:=5) rfl rfl rfl F rfl rfl⟩,⟨_,rfl,.AM rfl⟩,trivial⟩ (λΓ'=>Bo rfl rfl rfl g rfl) (Gh _)) rfl ?_)|refine aU rfl ?_|apply Aa)
      ((refine aC rfl ?_ ?_<;>rintro⟨⟩);all_goals try (simp at e;done))
      apply aK;(repeat first|refine tA rfl ?_|refine s2 rfl λ_ e=>?_|refine sP rfl (i) rfl ?_|refine s3 rfl ?_ ?_<;>rintro rfl|refine aU rfl ?_|apply Aa)
      (repeat' first|refine tA rfl ?_|apply Aa|(refine aC rfl ?_ ?_<;>rintro⟨⟩));all_goals try contradiction
      apply aK;(repeat first|(refine sA rfl ?_ ?_;first|exact tI|omega)|(refine Ai rfl ?_;refine gA rfl ?_;first|refine gS (λ_ _=>Bo rfl rfl (by simp[E.Cg,C.Cg,C.Db,n.Cg]) (j) rfl) ?_)|refine aU rfl ?_|apply Aa);refine⟨⟨k+1,by omega,by omega⟩,by dsimp only;(omega),[0,1,2],?_⟩;simp[cX,zC,f,cN,y,B]
     .rw[q]at j
      generalize BN s p al (BO s t p al k)=a at *;(repeat first|refine tA rfl ?_|refine s2 rfl λ_ e=>?_|(refine Ai rfl ?_;refine gA rfl ?_;first|refine gQ (A5.SE [(59,BD s),(60,Bp a),(61,Bp p)] ⟨⟨_,rfl,.AM rfl⟩,⟨_,rfl,Ld (k:=5) rfl rfl rfl F rfl rfl⟩,⟨_,rfl,.AM rfl⟩,trivial⟩ (λΓ'=>Bo rfl rfl rfl g rfl) (Gh _)) rfl ?_)|refine aU rfl ?_|apply Aa)
      ((refine aC rfl ?_ ?_<;>rintro⟨⟩);all_goals try (simp at e;done))
      apply aK;(repeat first|refine tA rfl ?_|refine s2 rfl λ_ e=>?_|refine sP rfl (i) rfl ?_|refine s3 rfl ?_ ?_<;>rintro rfl|refine aU rfl ?_|apply Aa)
      (repeat' first|refine tA rfl ?_|apply Aa|(refine aC rfl ?_ ?_<;>rintro⟨⟩));all_goals try contradiction
      apply aK;(repeat first|(refine sA rfl ?_ ?_;first|exact tI|omega)|(refine Ai rfl ?_;refine gA rfl ?_;first|refine gS (λ_ _=>Bo rfl rfl (by simp[E.Cg,C.Cg,C.Db,n.Cg]) (j) rfl) ?_)|refine aU rfl ?_|apply Aa);refine⟨⟨k+1,by omega,λ_=>I⟩,by dsimp only;(omega),[0,1,2],?_⟩;simp[cX,zC,f,cN,y,N,decide_eq_false (show ¬k+1<(BT s t p al).length by omega)]
    .have i:=OX (TB:=TB1) (Dt u) al (by omega)
     rw[g2]at i;rw[g0]at g;rw[g1]at z
     rcases U with ⟨_,M,I,hk⟩|⟨hb,U⟩
     .have H:=H _ I rfl
      generalize BN s p al (BO s t p al k)=a at *;(repeat first|refine tA rfl ?_|refine s2 rfl λ_ e=>?_|(refine Ai rfl ?_;refine gA rfl ?_;first|refine gQ (A5.SE [(59,BD s),(60,Bp a),(61,Bp p)] ⟨⟨_,rfl,.AM rfl⟩,⟨_,rfl,Ld (k:=5) rfl rfl rfl F rfl rfl⟩,⟨_,rfl,.AM rfl⟩,trivial⟩ (λΓ'=>Bo rfl rfl rfl g rfl) (Gh _)) rfl ?_)|refine aU rfl ?_|apply Aa)
      ((refine aC rfl ?_ ?_<;>rintro⟨⟩);all_goals try (simp at e;done))
      (repeat first|refine tA rfl ?_|refine s2 rfl λ_ e=>?_|(refine Ai rfl ?_;refine gA rfl ?_;first|refine gQ (A5.SE [(68,BD t),(69,Bp a)] ⟨⟨_,rfl,.AM rfl⟩,⟨_,rfl,Ld (k:=5) rfl rfl rfl F rfl rfl⟩,trivial⟩ (λΓ'=>Bo rfl rfl rfl z rfl) (Gh _)) rfl ?_)|refine aU rfl ?_|apply Aa)
      ((refine aC rfl ?_ ?_<;>rintro⟨⟩);all_goals try (simp at e;done))
      apply aK;(repeat first|refine tA rfl ?_|refine s2 rfl λ_ e=>?_|refine sP rfl (i) rfl ?_|refine s3 rfl ?_ ?_<;>rintro rfl|refine aU rfl ?_|apply Aa)
      (repeat' first|refine tA rfl ?_|refine s2 rfl λ_ e=>?_|(refine Ai rfl ?_;refine gA rfl ?_;first|refine gS (λ_ _=>n.nz M A rfl rfl) ?_)|refine aU rfl ?_|apply Aa|(refine aC rfl ?_ ?_<;>rintro⟨⟩));all_goals try contradiction
      (repeat first|refine tA rfl ?_|refine sP rfl (hpv) rfl ?_|refine sV rfl rfl (by rfl) (by rfl) ?_|refine aU rfl ?_|apply Aa);exact aR ⟨_,rfl,[],ku ⟨1,JB,Pe (BU [s,t] p),(k:Int)+1⟩,[],iB rfl,rfl,by (simp[cX,zC,f,cN,Bl,Ae,eC]),H⟩
     .have M:LS ⟨s,p,al⟩ w=true:=by rcases hb with hb|hb;cases hb;exact hb
      rcases U with ⟨q,B⟩|⟨q,N,hk,I⟩
      .rw[q]at j
       generalize BN s p al (BO s t p al k)=a at *;(repeat first|refine tA rfl ?_|refine s2 rfl λ_ e=>?_|(refine Ai rfl ?_;refine gA rfl ?_;first|refine gQ (A5.SE [(59,BD s),(60,Bp a),(61,Bp p)] ⟨⟨_,rfl,.AM rfl⟩,⟨_,rfl,Ld (k:=5) rfl rfl rfl F rfl rfl⟩,⟨_,rfl,.AM rfl⟩,trivial⟩ (λΓ'=>Bo rfl rfl rfl g rfl) (Gh _)) rfl ?_)|refine aU rfl ?_|apply Aa)
       ((refine aC rfl ?_ ?_<;>rintro⟨⟩);all_goals try (simp at e;done))
       (repeat first|refine tA rfl ?_|refine s2 rfl λ_ e=>?_|(refine Ai rfl ?_;refine gA rfl ?_;first|refine gQ (A5.SE [(68,BD t),(69,Bp a)] ⟨⟨_,rfl,.AM rfl⟩,⟨_,rfl,Ld (k:=5) rfl rfl rfl F rfl rfl⟩,trivial⟩ (λΓ'=>Bo rfl rfl rfl z rfl) (Gh _)) rfl ?_)|refine aU rfl ?_|apply Aa)
       ((refine aC rfl ?_ ?_<;>rintro⟨⟩);all_goals try (simp at e;done))
       apply aK;(repeat first|refine tA rfl ?_|refine s2 rfl λ_ e=>?_|refine sP rfl (i) rfl ?_|refine s3 rfl ?_ ?_<;>rintro rfl|refine aU rfl ?_|apply Aa)
       (repeat' first|refine tA rfl ?_|refine s2 rfl λ_ e=>?_|(refine Ai rfl ?_;refine gA rfl ?_;first|refine gS (λ_ _=>n.nz M A rfl rfl) ?_)|refine aU rfl ?_|apply Aa|(refine aC rfl ?_ ?_<;>rintro⟨⟩));all_goals try contradiction
       apply aK;(repeat first|(refine sA rfl ?_ ?_;first|exact tI|omega)|(refine Ai rfl ?_;refine gA rfl ?_;first|refine gS (λ_ _=>Bo rfl rfl (by simp[E.Cg,C.Cg,C.Db,n.Cg]) (j) rfl) ?_)|refine aU rfl ?_|apply Aa);refine⟨⟨k+1,by omega,by omega⟩,by dsimp only;(omega),[0,1,2],?_⟩;simp[cX,zC,f,cN,y,B]
      .rw[q]at j
       generalize BN s p al (BO s t p al k)=a at *;(repeat first|refine tA rfl ?_|refine s2 rfl λ_ e=>?_|(refine Ai rfl ?_;refine gA rfl ?_;first|refine gQ (A5.SE [(59,BD s),(60,Bp a),(61,Bp p)] ⟨⟨_,rfl,.AM rfl⟩,⟨_,rfl,Ld (k:=5) rfl rfl rfl F rfl rfl⟩,⟨_,rfl,.AM rfl⟩,trivial⟩ (λΓ'=>Bo rfl rfl rfl g rfl) (Gh _)) rfl ?_)|refine aU rfl ?_|apply Aa)
       ((refine aC rfl ?_ ?_<;>rintro⟨⟩);all_goals try (simp at e;done))
       (repeat first|refine tA rfl ?_|refine s2 rfl λ_ e=>?_|(refine Ai rfl ?_;refine gA rfl ?_;first|refine gQ (A5.SE [(68,BD t),(69,Bp a)] ⟨⟨_,rfl,.AM rfl⟩,⟨_,rfl,Ld (k:=5) rfl rfl rfl F rfl rfl⟩,trivial⟩ (λΓ'=>Bo rfl rfl rfl z rfl) (Gh _)) rfl ?_)|refine aU rfl ?_|apply Aa)
       ((refine aC rfl ?_ ?_<;>rintro⟨⟩);all_goals try (simp at e;done))
       apply aK;(repeat first|refine tA rfl ?_|refine s2 rfl λ_ e=>?_|refine sP rfl (i) rfl ?_|refine s3 rfl ?_ ?_<;>rintro rfl|refine aU rfl ?_|apply Aa)
       (repeat' first|refine tA rfl ?_|refine s2 rfl λ_ e=>?_|(refine Ai rfl ?_;refine gA rfl ?_;first|refine gS (λ_ _=>n.nz M A rfl rfl) ?_)|refine aU rfl ?_|apply Aa|(refine aC rfl ?_ ?_<;>rintro⟨⟩));all_goals try contradiction
       apply aK;(repeat first|(refine sA rfl ?_ ?_;first|exact tI|omega)|(refine Ai rfl ?_;refine gA rfl ?_;first|refine gS (λ_ _=>Bo rfl rfl (by simp[E.Cg,C.Cg,C.Db,n.Cg]) (j) rfl) ?_)|refine aU rfl ?_|apply Aa);refine⟨⟨k+1,by omega,λ_=>I⟩,by dsimp only;(omega),[0,1,2],?_⟩;simp[cX,zC,f,cN,y,N,decide_eq_false (show ¬k+1<(BT s t p al).length by omega)]
  .obtain rfl:k=(BT s t p al).length:=by omega
   have I:=K rfl;simp only[decide_eq_false J];(repeat first|refine tA rfl ?_|refine s2 rfl λ_ e=>?_|refine aU rfl ?_|apply Aa)
   ((refine aC rfl ?_ ?_<;>rintro⟨⟩);all_goals try (simp at e;done))
   (repeat first|(refine sA rfl ?_ ?_;first|exact tI|omega)|refine sV rfl rfl (by rfl) (by rfl) ?_|refine aU rfl ?_|apply Aa);exact aR ⟨_,rfl,[],ku ⟨2,JB,[],((BT s t p al).length:Int)+1-1⟩,[],iB rfl,rfl,by (simp[cX,zC,f,cN,Bl,Ae,eC]),by rw[Int.add_sub_cancel];exact H _ I rfl⟩
theorem YA{s t:Sys}{p:AI}(h:Bj s p t<0)(b:s.es.length<=1048576):AE Tryz.prog ⟨tabs,none⟩ 29 0 [] 0 [BD s,BD t,Bp p,.o (.d (.v .nilFunc))] (P7 (BL s t p)):=by
 have c:=HX (TB:=⟨tabs,none⟩) s p t b;unfold SV at c;rw[if_pos h]at c;rw[VF h];refine AE.A6 (AE.PM (m:=0) (co rfl) Tryz.func29 rfl (by kernel_rfl) (co rfl) ?_);intro Γ a;(repeat first|refine tA rfl ?_|refine s2 rfl λ_ e=>?_|refine sP rfl (c) rfl ?_|refine aU rfl ?_|apply Aa)
 ((refine aC rfl ?_ ?_<;>rintro⟨⟩);all_goals try (simp at e;done))
 (repeat first|refine tA rfl ?_|refine sV rfl rfl (by rfl) (by rfl) ?_|refine aU rfl ?_|apply Aa);exact aR ⟨_,rfl,[],ku ⟨3,JB,[],0⟩,[],iB rfl,rfl,by (simp[cX,zC,a,cN,Bl,Ae,eC]),.inl ⟨rfl,rfl,rfl,rfl⟩⟩
theorem Lx(s t:Sys)(p:AI)(c:s.es.length<=1048576):AE Tryz.prog ⟨tabs,none⟩ 10 0 [] 0 [BD s,BD t,Bp p] (P7 (BL s t p)):=by
 have i:AE Tryz.prog ⟨tabs,none⟩ 29 0 [] 0 [BD s,BD t,Bp p,.o (.d (.v .nilFunc))] (P7 (BL s t p)):=by
  by_cases h:Bj s p t<0
  .exact YA h c
  .exact ax (Hr h) c
 generalize BL s t p=v at *;refine AE.A6 (AE.PM (m:=0) (co rfl) Tryz.func10 rfl (by kernel_rfl) (co rfl) ?_);intro Γ b;(repeat first|refine tA rfl ?_|refine aU rfl ?_|apply Aa);(refine pW rfl ?_ rfl (by rfl);refine PF [] rfl rfl 0 i (by decide) ⟨rfl,by decide,by decide⟩ rfl trivial ?_;rintro j e f (⟨ha,rfl,rfl,rfl⟩|⟨l,g,rfl,rfl,rfl⟩) _)
 ·(repeat first|refine tA rfl ?_|apply Aa)
  exact aR ⟨_,rfl,[],ku v,[],iB rfl,rfl,by (simp[cX,zC,b,cN,Bl,Ae,eC]),.inl ⟨ha,rfl,rfl,rfl⟩⟩
 ·(repeat first|refine tA rfl ?_|apply Aa)
  exact aR ⟨_,rfl,[1,2,3],.a [.d (iD v.code),.d (iD v.a.al),.arr 0 1 0 l.length,.arr 1 1 0 v.a.ac.length,.d (tD v.tr),.d (iD v.rd)],[(0,.cells 63 1 (AN l)),(1,.cells 4 1 (v.a.ac.map AO)),(2,.sld 3 (sI l))],iB rfl,rfl,by (simp[cX,zC,b,cN,Bl,Ae,eC]),.inr ⟨l,g,rfl,rfl,rfl⟩⟩
theorem MB(s t:Sys)(p:AI)(b:s.es.length<=1048576):Pure Tryz.prog ⟨tabs,none⟩ 10 [BD s,BD t,Bp p] (ku (BL s t p)):=by
 refine(Lx s t p b).toPure λx σ nx c=>?_;generalize BL s t p=v at *
 rcases c with ⟨_,rfl,rfl,rfl⟩|⟨l,e,rfl,rfl,rfl⟩
 .exact⟨[],.inl (.AM rfl)⟩
 .refine⟨[0,1,2],.inl (.a (ds:=Nr v) (.cons .d (.cons .d (.cons ?_ (.cons (.full rfl (by simp[d6]) (by simp)) (.cons .d (.cons .d .nil)))))))⟩
  rw[<-e];exact .fD (s:=2) rfl rfl
end
end Go.Am
namespace Go.Am
def si{L:W->Bool}{m:AI}(b:AJ m=true){al:Int}(hL:∀w,Ax (AR al) w->LA m w=L w):Fin L (AR al) m.nx.length where
 st:=(nT b al).st
 lt:=(nT b al).lt
 same u w v d c a h:=by
  rw[<-hL _ (iV d a),<-hL _ (iV c a)];exact(nT b al).same u w v d c a h
theorem km{s t:Sys}{p m:AI}{al:Int}(hI:E5 s p t al)(c:O8 ⟨s,p,al⟩=some m):(BL s t p).code≠2/\(BL s t p).rd<=m.nx.length/\(BL s t p).a.nx.length<=m.nx.length:=by
 obtain⟨b,f,d,_⟩:=mI (t:=⟨s,p,al⟩) (OL hI) c;have e:=AB b;exact mH hI (si b d) (by omega)
end Go.Am
