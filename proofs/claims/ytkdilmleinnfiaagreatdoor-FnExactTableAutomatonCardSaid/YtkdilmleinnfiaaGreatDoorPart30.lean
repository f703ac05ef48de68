/-
  The law of TableAutomaton, with results of its own: walked.
-/
import Derived.Test.YtkdilmleinnfiaaGreatDoorPart29
import Derived.Test.YtkdilmleinnfiaaGreatDoorPart23
set_option linter.constructorNameAsVariable false
set_option linter.unusedSectionVars false
set_option linter.unusedSimpArgs false
set_option linter.unusedVariables false
namespace Go.Am
open Go Go.Proofs
set_option maxHeartbeats 1000000
set_option maxRecDepth 4000
attribute [local irreducible] AV BX Lex Bf Av Spec
variable {tabs:List (Nat×Obj)}
theorem jc{a:Bn}(h:AK a=true):a.nx.length≤1048576∧(∀r∈a.nx,r.length≤1048576)∧a.ac.length≤1048576:=by
 obtain⟨_,h1,h2,h3⟩:=Aj h
 refine⟨by omega,fun r hr=>?_,by omega⟩
 obtain⟨i,hi⟩:=List.mem_iff_getElem?.1 hr
 obtain⟨row,g1,g2,_⟩:=(X6 h).2 i (List.getElem?_eq_some_iff.1 hi).1
 rw [hi] at g1
 injection g1 with g1
 subst g1
 have:(Ac a.al).length≤6:=A0 _ 6
 omega
theorem jq{te:CL}{x:AN}{a:Bn}(h:Rr te x=some a):a.nx.length≤1048576∧(∀r∈a.nx,r.length≤1048576)∧a.ac.length≤1048576:=by
 obtain⟨_,_,_,_,h1,_⟩:=fK h
 exact jc h1
theorem gF[Fo ⟨tabs,none⟩](te:CL)(x : {x:AN // cf x}):Pure Tryz.prog ⟨tabs,none⟩ 6 [Cj te,B8 x.1] (eB true):=by
 obtain⟨x,hln⟩:=x
 dsimp only
 have h1:=dF (te:=te) (left:=1048576) (by omega) (by omega)
 have h2:=fun h=>dE (x:=x) (left:=Oo te 1048576) h (by omega)
 refine eG Tryz.func6 rfl (by kernel_rfl) rfl ?_;intro Γ hΓ
 (repeat first |refine sN rfl ?_ |((first|refine sA rfl ?_ ?_|refine s4 rfl ‹_› rfl ?_ ?_);first|exact tI|omega|simp only[oZ] at *;omega) |refine s2 rfl fun _ _hb=>?_ |refine sP rfl (Zh te 1048576 (by omega) (by omega)) rfl ?_ |refine s3 rfl ?_ ?_<;>rintro rfl |refine aU rfl ?_ |refine Aa ?_)
 (refine aC rfl ?_ ?_<;>rintro⟨⟩)
 ·(repeat first |refine sN rfl ?_ |((first|refine sA rfl ?_ ?_|refine s4 rfl ‹_› rfl ?_ ?_);first|exact tI|omega|simp only[oZ] at *;omega) |refine s2 rfl fun _ _hb=>?_ |refine s3 rfl ?_ ?_<;>rintro rfl |refine aU rfl ?_ |refine Aa ?_)
  (subst_vars;exact aR ⟨_,rfl,rfl⟩)
 have k1:0≤Oo te 1048576:=by first|omega|simp only[oZ] at *;omega
 have h2:=h2 k1
 refine aK ?_
 (repeat first |refine sN rfl ?_ |((first|refine sA rfl ?_ ?_|refine s4 rfl ‹_› rfl ?_ ?_);first|exact tI|omega|simp only[oZ] at *;omega) |refine s2 rfl fun _ _hb=>?_ |refine sP rfl (br x hln (Oo te 1048576) (by omega) (by omega)) rfl ?_ |refine s3 rfl ?_ ?_<;>rintro rfl |refine aU rfl ?_ |refine Aa ?_)
 (refine aC rfl ?_ ?_<;>rintro⟨⟩)
 ·(repeat first |refine sN rfl ?_ |((first|refine sA rfl ?_ ?_|refine s4 rfl ‹_› rfl ?_ ?_);first|exact tI|omega|simp only[oZ] at *;omega) |refine s2 rfl fun _ _hb=>?_ |refine s3 rfl ?_ ?_<;>rintro rfl |refine aU rfl ?_ |refine Aa ?_)
  (subst_vars;exact aR ⟨_,rfl,rfl⟩)
 have k2:0≤On x (Oo te 1048576):=by first|omega|simp only[oZ] at *;omega
 refine aK ?_
 obtain⟨hz,hr,hc⟩:=h2.2.2 k2
 have ht:=h1.2.2 k1
 have c1:=Zk (TB:=⟨tabs,none⟩) te ht
 have c2:=bz (TB:=⟨tabs,none⟩) x hr hc
 have d1:=im (TB:=⟨tabs,none⟩) te ht
 have d2:=iR (TB:=⟨tabs,none⟩) x hr hc
 have e1:=JH (eH (TB:=⟨tabs,none⟩) te) x hz
 rw [eL] at e1
 have e2:=Pn (tabs:=tabs) (te:=te) x hz
 have e3:=gJ (tabs:=tabs) (te:=te) x hz
 have q1:=X8 (TB:=⟨tabs,none⟩) te
 have q2:=ZX (TB:=⟨tabs,none⟩) x
 have hbd:=fun u h=>jq (te:=te) (x:=x) (a:=u) h
 have hml:=fun (l:Pr) (hl:l.map (·.2)=te.p.nx)=>iy hl ht.pn ht.pr
 have hmm:=fun (l:Pr) (hl:l.map (·.2)=te.q.nx)=>iy hl ht.qn ht.qr
 have hm1:=ht.pa
 have hm2:=ht.es
 have hm3:=ht.qa
 generalize Rr te x=o at *
 rcases o with _|v
 ·have q3:=Hd (TB:=⟨tabs,none⟩) ZM
  (repeat first |refine sN rfl ?_ |((first|refine sA rfl ?_ ?_|refine s4 rfl ‹_› rfl ?_ ?_);first|exact tI|omega|simp only[oZ] at *;omega) |refine s2 rfl fun _ _hb=>?_ |refine s3 rfl ?_ ?_<;>rintro rfl |refine aU rfl ?_ |refine Aa ?_)
  refine R.bk [(0,2),(1,2),(2,2),(3,2),(4,2),(5,2),(6,2),(7,2),(8,3),(9,5),(10,2)] mixed (by kernel_rfl) rfl (by kernel_rfl) ?_
  (repeat ((refine R.Ai rfl ?_;first |(refine R.yQ (md:=false) rfl rfl rfl ?_ ?_;first|exact tI|omega|simp only[oZ] at *;omega) |(refine R.yB rfl rfl rfl ?_;intro _ _hb) |refine R.yS rfl rfl rfl ?_ |refine R.yP rfl rfl rfl rfl ?_ |refine R.yA rfl rfl rfl rfl ?_ |refine R.yW rfl rfl rfl ?_|refine R.B5 (fun _ _ _=>AD rfl rfl rfl (c1) rfl) rfl rfl ?_|refine R.B5 (fun _ _ _=>AD rfl rfl rfl (c2) rfl) rfl rfl ?_|refine R.B5 (fun _ _ _=>AD rfl rfl rfl (e1) rfl) rfl rfl ?_ |refine R.cW rfl rfl ?_ |(refine R.yG rfl rfl ?_ ?_<;>intro hb<;>subst hb) )))
  refine R.aw ?_
  refine Av.dW [0] [(2,.o (.ip (Ua te.kn te.p te.s te.q te.al))),(3,.o (.ip [Ba x.rows,Ba x.cols])),(6,.o (.ip (Ed ZM))),(7,.o (.d (bD false)))] ⟨⟨_,rfl,.inl rfl⟩,⟨_,rfl,.inl rfl⟩,⟨_,rfl,.inr (.o (.box rfl (Vl.refl (Ed ZM))))⟩,⟨_,rfl,.inl rfl⟩,trivial⟩ ?_
  (repeat first |refine sN rfl ?_ |((first|refine sA rfl ?_ ?_|refine s4 rfl ‹_› rfl ?_ ?_);first|exact tI|omega|simp only[oZ] at *;omega) |refine s2 rfl fun _ _hb=>?_ |refine s3 rfl ?_ ?_<;>rintro rfl |refine aU rfl ?_ |refine Aa ?_)
  (refine pW rfl ?_ rfl (by rfl);refine Ez [] rfl rfl 0 (d1) (by decide) ⟨rfl,by decide,by decide⟩ rfl (by simp[cX,zC,hΓ,cN]) ?_;rintro x0 σ1 nx1 ⟨l,m,hl,hm,rfl,rfl,rfl⟩ _)
  (repeat first |refine sN rfl ?_ |((first|refine sA rfl ?_ ?_|refine s4 rfl ‹_› rfl ?_ ?_);first|exact tI|omega|simp only[oZ] at *;omega) |refine s2 rfl fun _ _hb=>?_ |refine s3 rfl ?_ ?_<;>rintro rfl |refine aU rfl ?_ |refine Aa ?_)
  (refine pW rfl ?_ rfl (by rfl);refine Ez [] rfl rfl 0 (d2) (by decide) ⟨rfl,by decide,by decide⟩ rfl (by simp[cX,zC,hΓ,cN]) ?_;rintro x0 σ1 nx1 ⟨rfl,rfl,rfl⟩ _)
  (repeat first |refine sN rfl ?_ |((first|refine sA rfl ?_ ?_|refine s4 rfl ‹_› rfl ?_ ?_);first|exact tI|omega|simp only[oZ] at *;omega) |refine s2 rfl fun _ _hb=>?_ |refine s3 rfl ?_ ?_<;>rintro rfl)
  refine Aa ?_
  refine Av.Cs [2,3,6,7] [] rfl rfl [(8,.o (.ptr 9 11 0 0)),(9,.o (.ptr 10 2 0 0))] [(0,.cells 84 1 (CQ l)),(1,.cells 4 1 (te.p.ac.map BE)),(2,.sld 3 (sI l)),(3,.cells 189 3 (te.s.es.map B2)),(4,.cells 84 1 (CQ m)),(5,.cells 4 1 (te.q.ac.map BE)),(6,.sld 3 (sI m)),(7,.cells 9 1 (x.rows.map Bg)),(8,.cells 9 1 (x.cols.map Bg)),(9,.cells 48 11 [iF te l.length m.length]),(10,.cells 38 2 [[.arr 7 1 0 x.rows.length,.arr 8 1 0 x.cols.length]])] [1,2,3,4,5,6,7,9,10,8,11] (rl hΓ rfl) (by ((repeat' first|exact tI|rfl|refine And.intro ?_ ?_)<;>(simp[cX,zC,hΓ,cN,AE,eC,Ef]<;>rfl))) ?_;(try dsimp only[cA,cB])
  (repeat first |refine sN rfl ?_ |((first|refine sA rfl ?_ ?_|refine s4 rfl ‹_› rfl ?_ ?_);first|exact tI|omega|simp only[oZ] at *;omega) |refine s2 rfl fun _ _hb=>?_ |refine s3 rfl ?_ ?_<;>rintro rfl |refine aU rfl ?_ |refine Aa ?_)
  (refine pW rfl ?_ rfl (by rfl);refine BX.eY [(40,Cj te),(41,B8 x)] ⟨⟨_,rfl,iY (i2:=2) (i6:=6) hl hm rfl rfl rfl rfl rfl rfl rfl⟩,⟨_,rfl,iX rfl rfl rfl rfl⟩,trivial⟩ (fun Γ'=>?_);refine Ez [] rfl rfl 0 e3 (by decide) ⟨rfl,by decide,by decide⟩ rfl trivial ?_;rintro x0 σ1 nx1 ⟨rfl,rfl,rfl⟩ _)
  refine⟨⟨jd _,fun x hx=>by simp [Ab.AW,BH] at hx⟩,?_⟩
  (repeat first |refine sN rfl ?_ |((first|refine sA rfl ?_ ?_|refine s4 rfl ‹_› rfl ?_ ?_);first|exact tI|omega|simp only[oZ] at *;omega) |refine s2 rfl fun _ _hb=>?_ |refine s3 rfl ?_ ?_<;>rintro rfl)
  refine Aa ?_
  refine Av.dW [11] [(2,.o (.ip (Ua te.kn te.p te.s te.q te.al))),(3,.o (.ip [Ba x.rows,Ba x.cols])),(6,.o (.ip (Ed ZM))),(7,.o (.d (bD false))),(8,.o (.ptr 9 11 0 0)),(9,.o (.ptr 10 2 0 0)),(10,.o (.ip (Ed ZM))),(11,.o (.d (bD false)))] ⟨⟨_,rfl,.inl rfl⟩,⟨_,rfl,.inl rfl⟩,⟨_,rfl,.inl rfl⟩,⟨_,rfl,.inl rfl⟩,⟨_,rfl,.inl rfl⟩,⟨_,rfl,.inl rfl⟩,⟨_,rfl,.inr (.o (.box rfl (Vl.refl (Ed ZM))))⟩,⟨_,rfl,.inl rfl⟩,trivial⟩ ?_
  (repeat' first |refine sN rfl ?_ |((first|refine sA rfl ?_ ?_|refine s4 rfl ‹_› rfl ?_ ?_);first|exact tI|omega|simp only[oZ] at *;omega) |refine s2 rfl fun _ _hb=>?_ |refine sP rfl (q3) rfl ?_ |refine s3 rfl ?_ ?_<;>rintro rfl |refine aU rfl ?_ |refine Aa ?_|(refine aC rfl ?_ ?_<;>rintro⟨⟩));all_goals try contradiction
  refine aK ?_
  (repeat first |refine sN rfl ?_ |((first|refine sA rfl ?_ ?_|refine s4 rfl ‹_› rfl ?_ ?_);first|exact tI|omega|simp only[oZ] at *;omega) |refine s2 rfl fun _ _hb=>?_ |refine s3 rfl ?_ ?_<;>rintro rfl |refine aU rfl ?_ |refine Aa ?_)
  refine rG (J6 []) (by kernel_rfl) ?_
  (repeat' first |refine sN rfl ?_ |((first|refine sA rfl ?_ ?_|refine s4 rfl ‹_› rfl ?_ ?_);first|exact tI|omega|simp only[oZ] at *;omega) |refine s2 rfl fun _ _hb=>?_ |refine sP rfl (c1) rfl ?_|(refine Ai rfl ?_;refine gA rfl ?_;first|refine gQ (AV.eY [(54,Cj te),(56,Cj te)] ⟨⟨_,rfl,iY (i2:=2) (i6:=6) hl hm rfl rfl rfl rfl rfl rfl rfl⟩,⟨_,rfl,.AU rfl⟩,trivial⟩ (fun Γ'=>AD rfl rfl rfl q1 rfl) (iq _)) rfl ?_) |refine s3 rfl ?_ ?_<;>rintro rfl |refine aU rfl ?_ |refine Aa ?_|(refine aC rfl ?_ ?_<;>rintro⟨⟩));all_goals try contradiction
  refine aK ?_
  (repeat first |refine sN rfl ?_ |((first|refine sA rfl ?_ ?_|refine s4 rfl ‹_› rfl ?_ ?_);first|exact tI|omega|simp only[oZ] at *;omega) |refine s2 rfl fun _ _hb=>?_ |refine s3 rfl ?_ ?_<;>rintro rfl |refine aU rfl ?_ |refine Aa ?_)
  refine rG (J6 []) (by kernel_rfl) ?_
  (repeat' first |refine sN rfl ?_ |((first|refine sA rfl ?_ ?_|refine s4 rfl ‹_› rfl ?_ ?_);first|exact tI|omega|simp only[oZ] at *;omega) |refine s2 rfl fun _ _hb=>?_ |refine sP rfl (c2) rfl ?_|(refine Ai rfl ?_;refine gA rfl ?_;first|refine gQ (AV.eY [(59,B8 x),(61,B8 x)] ⟨⟨_,rfl,iX rfl rfl rfl rfl⟩,⟨_,rfl,.AU rfl⟩,trivial⟩ (fun Γ'=>AD rfl rfl rfl q2 rfl) (iq _)) rfl ?_) |refine s3 rfl ?_ ?_<;>rintro rfl |refine aU rfl ?_ |refine Aa ?_|(refine aC rfl ?_ ?_<;>rintro⟨⟩));all_goals try contradiction
  refine aK ?_
  have lb:=hml l hl
  have mb:=hmm m hm
  have mT:=gO (TB:=⟨tabs,none⟩) te l m 1 (by omega) (by omega) (by omega) (by omega) (by omega) (by omega) (by omega) (by omega) (by omega)
  generalize hk1:(1:Int)+(gy l).sum+te.p.ac.length+3*te.s.es.length+(gy m).sum+te.q.ac.length=k1 at mT
  have kb:0≤k1∧k1≤4611686018427387:=by omega
  have mX:=g8 (TB:=⟨tabs,none⟩) x.rows x.cols k1 (by omega) (by omega) (by omega) (by omega)
  (repeat first |refine sN rfl ?_ |((first|refine sA rfl ?_ ?_|refine s4 rfl ‹_› rfl ?_ ?_);first|exact tI|omega|simp only[oZ] at *;omega) |refine s2 rfl fun _ _hb=>?_ |refine s3 rfl ?_ ?_<;>rintro rfl |refine aU rfl ?_ |refine Aa ?_)
  (refine pW rfl ?_ rfl (by rfl);refine Cr [0,1,2,3,4,5,6] rfl rfl (mT) ⟨rfl,by decide,by decide⟩ rfl (by simp[cX,zC,hΓ,cN]) ?_;rintro x0 σ1 nx1 ⟨te',l',m',rfl,rfl,rfl⟩ _)
  (repeat first |refine sN rfl ?_ |((first|refine sA rfl ?_ ?_|refine s4 rfl ‹_› rfl ?_ ?_);first|exact tI|omega|simp only[oZ] at *;omega) |refine s2 rfl fun _ _hb=>?_ |refine s3 rfl ?_ ?_<;>rintro rfl |refine aU rfl ?_ |refine Aa ?_)
  (refine pW rfl ?_ rfl (by rfl);refine Cr [7,8] rfl rfl (mX) ⟨rfl,by decide,by decide⟩ rfl (by simp[cX,zC,hΓ,cN]) ?_;rintro x0 σ1 nx1 ⟨rfl,rfl,rfl⟩ _)
  (repeat first |refine sN rfl ?_ |((first|refine sA rfl ?_ ?_|refine s4 rfl ‹_› rfl ?_ ?_);first|exact tI|omega|simp only[oZ] at *;omega) |refine s2 rfl fun _ _hb=>?_ |refine s3 rfl ?_ ?_<;>rintro rfl)
  refine Aa ?_
  refine Av.Cs [2,3,6,7,10,11,12] [] rfl rfl [] [] [] (rl hΓ rfl) (by ((repeat' first|exact tI|rfl|refine And.intro ?_ ?_)<;>(simp[cX,zC,hΓ,cN,AE,eC,Ef]<;>rfl))) ?_;(try dsimp only[cA,cB])
  (repeat' first |refine sN rfl ?_ |((first|refine sA rfl ?_ ?_|refine s4 rfl ‹_› rfl ?_ ?_);first|exact tI|omega|simp only[oZ] at *;omega) |refine s2 rfl fun _ _hb=>?_ |refine sP rfl (q3) rfl ?_ |refine s3 rfl ?_ ?_<;>rintro rfl |refine aU rfl ?_ |refine Aa ?_|(refine aC rfl ?_ ?_<;>rintro⟨⟩));all_goals try contradiction
  all_goals first|(exfalso;first|omega|simp only[oZ] at *;omega;done)|skip
  refine aK ?_
  have q4:=gY (TB:=⟨tabs,none⟩)
  have q5:=gZ (TB:=⟨tabs,none⟩)
  (repeat first |refine sN rfl ?_ |((first|refine sA rfl ?_ ?_|refine s4 rfl ‹_› rfl ?_ ?_);first|exact tI|omega|simp only[oZ] at *;omega) |refine s2 rfl fun _ _hb=>?_ |refine sP rfl (q4) rfl ?_|refine sP rfl (q5) rfl ?_ |refine s3 rfl ?_ ?_<;>rintro rfl |refine aU rfl ?_ |refine Aa ?_)
  ((refine aC rfl ?_ ?_<;>rintro⟨⟩);all_goals try(exfalso;first|omega|simp only[oZ] at *;omega))
  refine aK ?_
  (repeat first |refine sN rfl ?_ |((first|refine sA rfl ?_ ?_|refine s4 rfl ‹_› rfl ?_ ?_);first|exact tI|omega|simp only[oZ] at *;omega) |refine s2 rfl fun _ _hb=>?_ |refine s3 rfl ?_ ?_<;>rintro rfl |refine aU rfl ?_ |refine Aa ?_)
  ((refine aC rfl ?_ ?_<;>rintro⟨⟩);all_goals try(exfalso;first|omega|simp only[oZ] at *;omega))
  refine aK ?_
  (repeat first |refine sN rfl ?_ |((first|refine sA rfl ?_ ?_|refine s4 rfl ‹_› rfl ?_ ?_);first|exact tI|omega|simp only[oZ] at *;omega) |refine s2 rfl fun _ _hb=>?_ |refine s3 rfl ?_ ?_<;>rintro rfl |refine aU rfl ?_ |refine Aa ?_)
  refine R.bk [(0,2),(1,2),(2,2),(3,2),(4,2),(5,2),(6,2),(7,2),(8,3),(9,5),(10,2)] mixed (by kernel_rfl) rfl (by kernel_rfl) ?_
  (repeat ((refine R.Ai rfl ?_;first |(refine R.yQ (md:=false) rfl rfl rfl ?_ ?_;first|exact tI|omega|simp only[oZ] at *;omega) |(refine R.yB rfl rfl rfl ?_;intro _ _hb) |refine R.yS rfl rfl rfl ?_ |refine R.yP rfl rfl rfl rfl ?_ |refine R.yA rfl rfl rfl rfl ?_ |refine R.yW rfl rfl rfl ?_|refine R.B5 (fun _ _ _=>AD rfl rfl rfl (c1) rfl) rfl rfl ?_|refine R.B5 (fun _ _ _=>AD rfl rfl rfl (c2) rfl) rfl rfl ?_|refine R.B5 (fun _ _ _=>AD rfl rfl rfl (e2) rfl) rfl rfl ?_ |refine R.cW rfl rfl ?_ |(refine R.yG rfl rfl ?_ ?_<;>intro hb<;>subst hb) )))
  refine R.aw ?_
  (repeat' first |refine sN rfl ?_ |((first|refine sA rfl ?_ ?_|refine s4 rfl ‹_› rfl ?_ ?_);first|exact tI|omega|simp only[oZ] at *;omega) |refine s2 rfl fun _ _hb=>?_ |refine sP rfl (q3) rfl ?_ |refine s3 rfl ?_ ?_<;>rintro rfl |refine aU rfl ?_ |refine Aa ?_|(refine aC rfl ?_ ?_<;>rintro⟨⟩));all_goals try contradiction
  refine aK ?_
  (repeat first |refine sN rfl ?_ |((first|refine sA rfl ?_ ?_|refine s4 rfl ‹_› rfl ?_ ?_);first|exact tI|omega|simp only[oZ] at *;omega) |refine s2 rfl fun _ _hb=>?_ |refine sP rfl (q4) rfl ?_ |refine s3 rfl ?_ ?_<;>rintro rfl |refine aU rfl ?_ |refine Aa ?_)
  ((refine aC rfl ?_ ?_<;>rintro⟨⟩);all_goals try(exfalso;first|omega|simp only[oZ] at *;omega))
  refine aK ?_
  (repeat first |refine sN rfl ?_ |((first|refine sA rfl ?_ ?_|refine s4 rfl ‹_› rfl ?_ ?_);first|exact tI|omega|simp only[oZ] at *;omega) |refine s2 rfl fun _ _hb=>?_ |refine s3 rfl ?_ ?_<;>rintro rfl |refine aU rfl ?_ |refine Aa ?_)
  ((refine aC rfl ?_ ?_<;>rintro⟨⟩);all_goals try(exfalso;first|omega|simp only[oZ] at *;omega))
  refine aK ?_
  (repeat first |refine sN rfl ?_ |((first|refine sA rfl ?_ ?_|refine s4 rfl ‹_› rfl ?_ ?_);first|exact tI|omega|simp only[oZ] at *;omega) |refine s2 rfl fun _ _hb=>?_ |refine s3 rfl ?_ ?_<;>rintro rfl |refine aU rfl ?_ |refine Aa ?_)
  (subst_vars;exact aR ⟨_,rfl,rfl⟩)
 ·obtain⟨b1,b2,b3⟩:=hbd v rfl
  have q3:=Hd (TB:=⟨tabs,none⟩) v
  (repeat first |refine sN rfl ?_ |((first|refine sA rfl ?_ ?_|refine s4 rfl ‹_› rfl ?_ ?_);first|exact tI|omega|simp only[oZ] at *;omega) |refine s2 rfl fun _ _hb=>?_ |refine s3 rfl ?_ ?_<;>rintro rfl |refine aU rfl ?_ |refine Aa ?_)
  refine R.bk [(0,2),(1,2),(2,2),(3,2),(4,2),(5,2),(6,2),(7,2),(8,3),(9,5),(10,2)] mixed (by kernel_rfl) rfl (by kernel_rfl) ?_
  (repeat ((refine R.Ai rfl ?_;first |(refine R.yQ (md:=false) rfl rfl rfl ?_ ?_;first|exact tI|omega|simp only[oZ] at *;omega) |(refine R.yB rfl rfl rfl ?_;intro _ _hb) |refine R.yS rfl rfl rfl ?_ |refine R.yP rfl rfl rfl rfl ?_ |refine R.yA rfl rfl rfl rfl ?_ |refine R.yW rfl rfl rfl ?_|refine R.B5 (fun _ _ _=>AD rfl rfl rfl (c1) rfl) rfl rfl ?_|refine R.B5 (fun _ _ _=>AD rfl rfl rfl (c2) rfl) rfl rfl ?_|refine R.B5 (fun _ _ _=>AD rfl rfl rfl (e1) rfl) rfl rfl ?_ |refine R.cW rfl rfl ?_ |(refine R.yG rfl rfl ?_ ?_<;>intro hb<;>subst hb) )))
  refine R.aw ?_
  refine Av.dW [0] [(2,.o (.ip (Ua te.kn te.p te.s te.q te.al))),(3,.o (.ip [Ba x.rows,Ba x.cols])),(6,.o (.ip (Ed v))),(7,.o (.d (bD true)))] ⟨⟨_,rfl,.inl rfl⟩,⟨_,rfl,.inl rfl⟩,⟨_,rfl,.inr (.o (.box rfl (Vl.refl (Ed v))))⟩,⟨_,rfl,.inl rfl⟩,trivial⟩ ?_
  (repeat first |refine sN rfl ?_ |((first|refine sA rfl ?_ ?_|refine s4 rfl ‹_› rfl ?_ ?_);first|exact tI|omega|simp only[oZ] at *;omega) |refine s2 rfl fun _ _hb=>?_ |refine s3 rfl ?_ ?_<;>rintro rfl |refine aU rfl ?_ |refine Aa ?_)
  (refine pW rfl ?_ rfl (by rfl);refine Ez [] rfl rfl 0 (d1) (by decide) ⟨rfl,by decide,by decide⟩ rfl (by simp[cX,zC,hΓ,cN]) ?_;rintro x0 σ1 nx1 ⟨l,m,hl,hm,rfl,rfl,rfl⟩ _)
  (repeat first |refine sN rfl ?_ |((first|refine sA rfl ?_ ?_|refine s4 rfl ‹_› rfl ?_ ?_);first|exact tI|omega|simp only[oZ] at *;omega) |refine s2 rfl fun _ _hb=>?_ |refine s3 rfl ?_ ?_<;>rintro rfl |refine aU rfl ?_ |refine Aa ?_)
  (refine pW rfl ?_ rfl (by rfl);refine Ez [] rfl rfl 0 (d2) (by decide) ⟨rfl,by decide,by decide⟩ rfl (by simp[cX,zC,hΓ,cN]) ?_;rintro x0 σ1 nx1 ⟨rfl,rfl,rfl⟩ _)
  (repeat first |refine sN rfl ?_ |((first|refine sA rfl ?_ ?_|refine s4 rfl ‹_› rfl ?_ ?_);first|exact tI|omega|simp only[oZ] at *;omega) |refine s2 rfl fun _ _hb=>?_ |refine s3 rfl ?_ ?_<;>rintro rfl)
  refine Aa ?_
  refine Av.Cs [2,3,6,7] [] rfl rfl [(8,.o (.ptr 9 11 0 0)),(9,.o (.ptr 10 2 0 0))] [(0,.cells 84 1 (CQ l)),(1,.cells 4 1 (te.p.ac.map BE)),(2,.sld 3 (sI l)),(3,.cells 189 3 (te.s.es.map B2)),(4,.cells 84 1 (CQ m)),(5,.cells 4 1 (te.q.ac.map BE)),(6,.sld 3 (sI m)),(7,.cells 9 1 (x.rows.map Bg)),(8,.cells 9 1 (x.cols.map Bg)),(9,.cells 48 11 [iF te l.length m.length]),(10,.cells 38 2 [[.arr 7 1 0 x.rows.length,.arr 8 1 0 x.cols.length]])] [1,2,3,4,5,6,7,9,10,8,11] (rl hΓ rfl) (by ((repeat' first|exact tI|rfl|refine And.intro ?_ ?_)<;>(simp[cX,zC,hΓ,cN,AE,eC,Ef]<;>rfl))) ?_;(try dsimp only[cA,cB])
  (repeat first |refine sN rfl ?_ |((first|refine sA rfl ?_ ?_|refine s4 rfl ‹_› rfl ?_ ?_);first|exact tI|omega|simp only[oZ] at *;omega) |refine s2 rfl fun _ _hb=>?_ |refine s3 rfl ?_ ?_<;>rintro rfl |refine aU rfl ?_ |refine Aa ?_)
  (refine pW rfl ?_ rfl (by rfl);refine BX.eY [(40,Cj te),(41,B8 x)] ⟨⟨_,rfl,iY (i2:=2) (i6:=6) hl hm rfl rfl rfl rfl rfl rfl rfl⟩,⟨_,rfl,iX rfl rfl rfl rfl⟩,trivial⟩ (fun Γ'=>?_);refine Ez [] rfl rfl 0 e3 (by decide) ⟨rfl,by decide,by decide⟩ rfl trivial ?_;rintro x0 σ1 nx1 ⟨u,hu,rfl,rfl,rfl⟩ _)
  refine⟨⟨jk _ _ _ _,fun x hx=>?_⟩,?_⟩
  ·simp only [Ab.AW,List.map_cons,List.map_nil,BH,List.append_nil,List.mem_cons,List.not_mem_nil,or_false] at hx
   rcases hx with rfl|rfl|rfl
   ·exact jE
   ·exact jz
   ·exact trivial
  (repeat first |refine sN rfl ?_ |((first|refine sA rfl ?_ ?_|refine s4 rfl ‹_› rfl ?_ ?_);first|exact tI|omega|simp only[oZ] at *;omega) |refine s2 rfl fun _ _hb=>?_ |refine s3 rfl ?_ ?_<;>rintro rfl)
  refine Aa ?_
  refine Av.Cs [2,3,6,7,8,9,11] [0,1,2,3,4,5,6,7,8,9,10] rfl rfl [(10,.o (.ptr 14 3 0 0))] [(11,.cells 84 1 (CQ u)),(12,.cells 4 1 (v.ac.map BE)),(13,.sld 3 (sI u)),(14,.cells 41 3 [[.d (iD v.al),.arr 11 1 0 u.length,.arr 12 1 0 v.ac.length]])] [0,1,2,3,4,5,6,7,8,9,10,11,12,13,14] (rl hΓ rfl) (by ((repeat' first|exact tI|rfl|refine And.intro ?_ ?_)<;>(simp[cX,zC,hΓ,cN,AE,eC,Ef]<;>rfl))) ?_;(try dsimp only[cA,cB])
  (repeat' first |refine sN rfl ?_ |((first|refine sA rfl ?_ ?_|refine s4 rfl ‹_› rfl ?_ ?_);first|exact tI|omega|simp only[oZ] at *;omega) |refine s2 rfl fun _ _hb=>?_|(refine Ai rfl ?_;refine gA rfl ?_;first|refine gQ (AV.eY [(45,Da v),(46,Da v)] ⟨⟨_,rfl,iW (k:=13) rfl rfl rfl hu rfl rfl⟩,⟨_,rfl,.AU rfl⟩,trivial⟩ (fun Γ'=>AD rfl rfl rfl q3 rfl) (iq _)) rfl ?_) |refine s3 rfl ?_ ?_<;>rintro rfl |refine aU rfl ?_ |refine Aa ?_|(refine aC rfl ?_ ?_<;>rintro⟨⟩));all_goals try contradiction
  refine aK ?_
  (repeat first |refine sN rfl ?_ |((first|refine sA rfl ?_ ?_|refine s4 rfl ‹_› rfl ?_ ?_);first|exact tI|omega|simp only[oZ] at *;omega) |refine s2 rfl fun _ _hb=>?_ |refine s3 rfl ?_ ?_<;>rintro rfl |refine aU rfl ?_ |refine Aa ?_)
  refine rG (J6 []) (by kernel_rfl) ?_
  (repeat' first |refine sN rfl ?_ |((first|refine sA rfl ?_ ?_|refine s4 rfl ‹_› rfl ?_ ?_);first|exact tI|omega|simp only[oZ] at *;omega) |refine s2 rfl fun _ _hb=>?_ |refine sP rfl (c1) rfl ?_|(refine Ai rfl ?_;refine gA rfl ?_;first|refine gQ (AV.eY [(54,Cj te),(56,Cj te)] ⟨⟨_,rfl,iY (i2:=2) (i6:=6) hl hm rfl rfl rfl rfl rfl rfl rfl⟩,⟨_,rfl,.AU rfl⟩,trivial⟩ (fun Γ'=>AD rfl rfl rfl q1 rfl) (iq _)) rfl ?_) |refine s3 rfl ?_ ?_<;>rintro rfl |refine aU rfl ?_ |refine Aa ?_|(refine aC rfl ?_ ?_<;>rintro⟨⟩));all_goals try contradiction
  refine aK ?_
  (repeat first |refine sN rfl ?_ |((first|refine sA rfl ?_ ?_|refine s4 rfl ‹_› rfl ?_ ?_);first|exact tI|omega|simp only[oZ] at *;omega) |refine s2 rfl fun _ _hb=>?_ |refine s3 rfl ?_ ?_<;>rintro rfl |refine aU rfl ?_ |refine Aa ?_)
  refine rG (J6 []) (by kernel_rfl) ?_
  (repeat' first |refine sN rfl ?_ |((first|refine sA rfl ?_ ?_|refine s4 rfl ‹_› rfl ?_ ?_);first|exact tI|omega|simp only[oZ] at *;omega) |refine s2 rfl fun _ _hb=>?_ |refine sP rfl (c2) rfl ?_|(refine Ai rfl ?_;refine gA rfl ?_;first|refine gQ (AV.eY [(59,B8 x),(61,B8 x)] ⟨⟨_,rfl,iX rfl rfl rfl rfl⟩,⟨_,rfl,.AU rfl⟩,trivial⟩ (fun Γ'=>AD rfl rfl rfl q2 rfl) (iq _)) rfl ?_) |refine s3 rfl ?_ ?_<;>rintro rfl |refine aU rfl ?_ |refine Aa ?_|(refine aC rfl ?_ ?_<;>rintro⟨⟩));all_goals try contradiction
  refine aK ?_
  have lb:=hml l hl
  have mb:=hmm m hm
  have mT:=gO (TB:=⟨tabs,none⟩) te l m 1 (by omega) (by omega) (by omega) (by omega) (by omega) (by omega) (by omega) (by omega) (by omega)
  generalize hk1:(1:Int)+(gy l).sum+te.p.ac.length+3*te.s.es.length+(gy m).sum+te.q.ac.length=k1 at mT
  have kb:0≤k1∧k1≤4611686018427387:=by omega
  have mX:=g8 (TB:=⟨tabs,none⟩) x.rows x.cols k1 (by omega) (by omega) (by omega) (by omega)
  (repeat first |refine sN rfl ?_ |((first|refine sA rfl ?_ ?_|refine s4 rfl ‹_› rfl ?_ ?_);first|exact tI|omega|simp only[oZ] at *;omega) |refine s2 rfl fun _ _hb=>?_ |refine s3 rfl ?_ ?_<;>rintro rfl |refine aU rfl ?_ |refine Aa ?_)
  (refine pW rfl ?_ rfl (by rfl);refine Cr [0,1,2,3,4,5,6] rfl rfl (mT) ⟨rfl,by decide,by decide⟩ rfl (by simp[cX,zC,hΓ,cN]) ?_;rintro x0 σ1 nx1 ⟨te',l',m',rfl,rfl,rfl⟩ _)
  (repeat first |refine sN rfl ?_ |((first|refine sA rfl ?_ ?_|refine s4 rfl ‹_› rfl ?_ ?_);first|exact tI|omega|simp only[oZ] at *;omega) |refine s2 rfl fun _ _hb=>?_ |refine s3 rfl ?_ ?_<;>rintro rfl |refine aU rfl ?_ |refine Aa ?_)
  (refine pW rfl ?_ rfl (by rfl);refine Cr [7,8] rfl rfl (mX) ⟨rfl,by decide,by decide⟩ rfl (by simp[cX,zC,hΓ,cN]) ?_;rintro x0 σ1 nx1 ⟨rfl,rfl,rfl⟩ _)
  (repeat first |refine sN rfl ?_ |((first|refine sA rfl ?_ ?_|refine s4 rfl ‹_› rfl ?_ ?_);first|exact tI|omega|simp only[oZ] at *;omega) |refine s2 rfl fun _ _hb=>?_ |refine s3 rfl ?_ ?_<;>rintro rfl)
  refine Aa ?_
  refine Av.Cs [2,3,6,7,11,12] [] rfl rfl [(10,.o (.ptr 3 3 0 0))] [(0,.cells 84 1 (CQ u)),(1,.cells 4 1 (v.ac.map BE)),(2,.sld 3 (sI u)),(3,.cells 41 3 [[.d (iD v.al),.arr 0 1 0 u.length,.arr 1 1 0 v.ac.length]])] [11,12,13,14] (rl hΓ rfl) (by ((repeat' first|exact tI|rfl|refine And.intro ?_ ?_)<;>(simp[cX,zC,hΓ,cN,AE,eC,Ef]<;>rfl))) ?_;(try dsimp only[cA,cB])
  (repeat' first |refine sN rfl ?_ |((first|refine sA rfl ?_ ?_|refine s4 rfl ‹_› rfl ?_ ?_);first|exact tI|omega|simp only[oZ] at *;omega) |refine s2 rfl fun _ _hb=>?_|(refine Ai rfl ?_;refine gA rfl ?_;first|refine gQ (AV.eY [(73,Da v),(74,Da v)] ⟨⟨_,rfl,iW (k:=2) rfl rfl rfl hu rfl rfl⟩,⟨_,rfl,.AU rfl⟩,trivial⟩ (fun Γ'=>AD rfl rfl rfl q3 rfl) (iq _)) rfl ?_) |refine s3 rfl ?_ ?_<;>rintro rfl |refine aU rfl ?_ |refine Aa ?_|(refine aC rfl ?_ ?_<;>rintro⟨⟩));all_goals try contradiction
  all_goals first|(exfalso;first|omega|simp only[oZ] at *;omega;done)|skip
  refine aK ?_
  have ub:=iy hu b1 b2
  have mG:=gE (TB:=⟨tabs,none⟩) v.al u v.ac 1 (by omega) (by omega) (by omega) (by omega)
  have q4:=gH (TB:=⟨tabs,none⟩) v.al (gy u) v.ac.length 1 (by omega) (by omega) (by simp;omega)
  (repeat first |refine sN rfl ?_ |((first|refine sA rfl ?_ ?_|refine s4 rfl ‹_› rfl ?_ ?_);first|exact tI|omega|simp only[oZ] at *;omega) |refine s2 rfl fun _ _hb=>?_ |refine s3 rfl ?_ ?_<;>rintro rfl |refine aU rfl ?_ |refine Aa ?_)
  (refine pW rfl ?_ rfl (by rfl);refine Cr [0,1,2] rfl rfl (mG) ⟨rfl,by decide,by decide⟩ rfl (by simp[cX,zC,hΓ,cN]) ?_;rintro x0 σ1 nx1 ⟨z,hz2,rfl,rfl,rfl⟩ _)
  (repeat first |refine sN rfl ?_ |((first|refine sA rfl ?_ ?_|refine s4 rfl ‹_› rfl ?_ ?_);first|exact tI|omega|simp only[oZ] at *;omega) |refine s2 rfl fun _ _hb=>?_ |refine s3 rfl ?_ ?_<;>rintro rfl)
  refine Aa ?_
  have hzl:z.length=u.length:=by have:=congrArg List.length hz2;simpa [iK] using this
  refine Av.Cs [2,3,6,7,11,13] [3] rfl rfl [(10,.o (.ptr 3 3 0 0))] [(0,.cells 84 1 (CQ z)),(1,.cells 4 1 ((gX (1+(gy u).sum) v.ac.length).map BE)),(2,.sld 3 (sI z))] [0,1,2,3] (rl hΓ rfl) (by ((repeat' first|exact tI|rfl|refine And.intro ?_ ?_)<;>(simp[cX,zC,hΓ,cN,AE,eC,Ef]<;>rfl))) ?_;(try dsimp only[cA,cB])
  (repeat first |refine sN rfl ?_ |((first|refine sA rfl ?_ ?_|refine s4 rfl ‹_› rfl ?_ ?_);first|exact tI|omega|simp only[oZ] at *;omega) |refine s2 rfl fun _ _hb=>?_|(refine Ai rfl ?_;refine gA rfl ?_;first|refine gQ (AV.eY [(86,Da ⟨v.al,ia 1 (gy u),gX (1+(gy u).sum) v.ac.length⟩),(87,eI .i64 1)] ⟨⟨_,rfl,iW (k:=2) rfl rfl rfl hz2 hzl (hY _ _)⟩,⟨_,rfl,.AU rfl⟩,trivial⟩ (fun Γ'=>AD rfl rfl rfl q4 rfl) (js _ _)) rfl ?_) |refine s3 rfl ?_ ?_<;>rintro rfl |refine aU rfl ?_ |refine Aa ?_)
  ((refine aC rfl ?_ ?_<;>rintro⟨⟩);all_goals try(exfalso;first|omega|simp only[oZ] at *;omega))
  refine aK ?_
  (repeat first |refine sN rfl ?_ |((first|refine sA rfl ?_ ?_|refine s4 rfl ‹_› rfl ?_ ?_);first|exact tI|omega|simp only[oZ] at *;omega) |refine s2 rfl fun _ _hb=>?_ |refine s3 rfl ?_ ?_<;>rintro rfl |refine aU rfl ?_ |refine Aa ?_)
  ((refine aC rfl ?_ ?_<;>rintro⟨⟩);all_goals try(exfalso;first|omega|simp only[oZ] at *;omega))
  refine aK ?_
  (repeat first |refine sN rfl ?_ |((first|refine sA rfl ?_ ?_|refine s4 rfl ‹_› rfl ?_ ?_);first|exact tI|omega|simp only[oZ] at *;omega) |refine s2 rfl fun _ _hb=>?_ |refine s3 rfl ?_ ?_<;>rintro rfl |refine aU rfl ?_ |refine Aa ?_)
  refine R.bk [(0,2),(1,2),(2,2),(3,2),(4,2),(5,2),(6,2),(7,2),(8,3),(9,5),(10,2)] mixed (by kernel_rfl) rfl (by kernel_rfl) ?_
  (repeat ((refine R.Ai rfl ?_;first |(refine R.yQ (md:=false) rfl rfl rfl ?_ ?_;first|exact tI|omega|simp only[oZ] at *;omega) |(refine R.yB rfl rfl rfl ?_;intro _ _hb) |refine R.yS rfl rfl rfl ?_ |refine R.yP rfl rfl rfl rfl ?_ |refine R.yA rfl rfl rfl rfl ?_ |refine R.yW rfl rfl rfl ?_|refine R.B5 (fun _ _ _=>AD rfl rfl rfl (c1) rfl) rfl rfl ?_|refine R.B5 (fun _ _ _=>AD rfl rfl rfl (c2) rfl) rfl rfl ?_|refine R.B5 (fun _ _ _=>AD rfl rfl rfl (e2) rfl) rfl rfl ?_ |refine R.cW rfl rfl ?_ |(refine R.yG rfl rfl ?_ ?_<;>intro hb<;>subst hb) )))
  refine R.aw ?_
  (repeat' first |refine sN rfl ?_ |((first|refine sA rfl ?_ ?_|refine s4 rfl ‹_› rfl ?_ ?_);first|exact tI|omega|simp only[oZ] at *;omega) |refine s2 rfl fun _ _hb=>?_ |refine sP rfl (q3) rfl ?_ |refine s3 rfl ?_ ?_<;>rintro rfl |refine aU rfl ?_ |refine Aa ?_|(refine aC rfl ?_ ?_<;>rintro⟨⟩));all_goals try contradiction
  refine aK ?_
  (repeat first |refine sN rfl ?_ |((first|refine sA rfl ?_ ?_|refine s4 rfl ‹_› rfl ?_ ?_);first|exact tI|omega|simp only[oZ] at *;omega) |refine s2 rfl fun _ _hb=>?_|(refine Ai rfl ?_;refine gA rfl ?_;first|refine gQ (AV.eY [(111,Da ⟨v.al,ia 1 (gy u),gX (1+(gy u).sum) v.ac.length⟩),(112,eI .i64 1)] ⟨⟨_,rfl,iW (k:=2) rfl rfl rfl hz2 hzl (hY _ _)⟩,⟨_,rfl,.AU rfl⟩,trivial⟩ (fun Γ'=>AD rfl rfl rfl q4 rfl) (js _ _)) rfl ?_) |refine s3 rfl ?_ ?_<;>rintro rfl |refine aU rfl ?_ |refine Aa ?_)
  ((refine aC rfl ?_ ?_<;>rintro⟨⟩);all_goals try(exfalso;first|omega|simp only[oZ] at *;omega))
  refine aK ?_
  (repeat first |refine sN rfl ?_ |((first|refine sA rfl ?_ ?_|refine s4 rfl ‹_› rfl ?_ ?_);first|exact tI|omega|simp only[oZ] at *;omega) |refine s2 rfl fun _ _hb=>?_ |refine s3 rfl ?_ ?_<;>rintro rfl |refine aU rfl ?_ |refine Aa ?_)
  ((refine aC rfl ?_ ?_<;>rintro⟨⟩);all_goals try(exfalso;first|omega|simp only[oZ] at *;omega))
  refine aK ?_
  (repeat first |refine sN rfl ?_ |((first|refine sA rfl ?_ ?_|refine s4 rfl ‹_› rfl ?_ ?_);first|exact tI|omega|simp only[oZ] at *;omega) |refine s2 rfl fun _ _hb=>?_ |refine s3 rfl ?_ ?_<;>rintro rfl |refine aU rfl ?_ |refine Aa ?_)
  (subst_vars;exact aR ⟨_,rfl,rfl⟩)
end Go.Am
