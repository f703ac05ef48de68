/-
  The law of AssumptionAt, with results of its own: walked.
-/
import Derived.Test.YtbfgijpfhgmepaaGreatDoorPart25
import Derived.Test.YtbfgijpfhgmepaaGreatDoorPart26
import Derived.Test.YtbfgijpfhgmepaaGreatDoorRows
import Derived.JoinedCond
import Derived.KernelRfl
set_option linter.constructorNameAsVariable false
set_option linter.unusedSectionVars false
set_option linter.unusedSimpArgs false
set_option linter.unusedVariables false
namespace Go.Am
open Go Go.Proofs
set_option maxHeartbeats 1000000
attribute [local irreducible] AS BT Lex Bc Au Spec
theorem bC{s t:Sys}{p u:AU}{n:Int}(h:Cj s t p n=some u):u.nx.length≤1048576∧(∀r∈u.nx,r.length≤1048576)∧u.ac.length≤1048576:=Zn (Zm h).1
theorem QY{tabs:List (Nat×Obj)}[hTb:Df ⟨tabs,none⟩](s t:Sys)(p:AU)(n : { n:Int // n < 9223372036854775808 }):Pure Tryz.prog ⟨tabs,none⟩ 4 [Bv s,Bv t,Bp p,eI .i64 n.1] (eB true):=by
 obtain⟨n,hnb⟩:=n
 dsimp only
 have z1:=MM (n:=s.es.length) (left:=1048576) (by omega)
 refine eG Tryz.func4 rfl (by kernel_rfl) rfl ?_;intro Γ hΓ
 (repeat first|refine tA rfl ?_ |refine s2 rfl fun _ _hb=>?_ |refine sP rfl (Nv s 1048576 (by omega) (by omega)) rfl ?_ |refine aU rfl ?_ |refine Aa ?_)
 (refine aC rfl ?_ ?_<;>rintro⟨⟩)
 ·(repeat first|refine tA rfl ?_ |refine aU rfl ?_ |refine Aa ?_)
  (subst_vars;exact aR ⟨_,rfl,rfl⟩)
 have k1:0≤P7 s.es.length 1048576:=by (simp only[oZ] at *;omega)
 have hes:s.es.length≤1048576:=by have:=z1.2.2 k1;omega
 have k2:=z1.2.1
 refine aK ?_
 generalize P7 s.es.length 1048576=l1 at *
 have z2:=MM (n:=t.es.length) (left:=l1) k1
 (repeat first|refine tA rfl ?_ |refine s2 rfl fun _ _hb=>?_ |refine sP rfl (Nv t l1 k1 k2) rfl ?_ |refine aU rfl ?_ |refine Aa ?_)
 (refine aC rfl ?_ ?_<;>rintro⟨⟩)
 ·(repeat first|refine tA rfl ?_ |refine aU rfl ?_ |refine Aa ?_)
  (subst_vars;exact aR ⟨_,rfl,rfl⟩)
 have k3:0≤P7 t.es.length l1:=by (simp only[oZ] at *;omega)
 have het:t.es.length≤1048576:=by have:=z2.2.2 k3;omega
 have k4:P7 t.es.length l1≤1048576:=by have:=z2.2.1;omega
 refine aK ?_
 generalize P7 t.es.length l1=l2 at *
 have z3:=jv (a:=p) (left:=l2) k3
 (repeat first|refine tA rfl ?_ |refine s2 rfl fun _ _hb=>?_ |refine sP rfl (PK p l2 k3 k4) rfl ?_ |refine aU rfl ?_ |refine Aa ?_)
 (refine aC rfl ?_ ?_<;>rintro⟨⟩)
 ·(repeat first|refine tA rfl ?_ |refine aU rfl ?_ |refine Aa ?_)
  (subst_vars;exact aR ⟨_,rfl,rfl⟩)
 have k5:0≤ju p l2:=by (simp only[oZ] at *;omega)
 refine aK ?_
 obtain⟨hp1,hp2,hp3⟩:=z3.2.2 k5
 have h3:p.nx.length≤1048576∧p.ac.length≤1048576∧∀r∈p.nx,r.length≤1048576:=⟨by omega,by omega,fun r hr=>by have:=hp3 r hr;omega⟩
 have hm1:=h3.2.1
 have c0:=Nx (TB:=⟨tabs,none⟩) s hes
 have c1:=Nx (TB:=⟨tabs,none⟩) t het
 have c2:=PR (TB:=⟨tabs,none⟩) p h3.1 h3.2.1 h3.2.2
 have d0:=LK (TB:=⟨tabs,none⟩) s hes
 have d1:=LK (TB:=⟨tabs,none⟩) t het
 have d2:=NV (TB:=⟨tabs,none⟩) p h3.1 h3.2.1 h3.2.2
 have q0:=Na (TB:=⟨tabs,none⟩) s
 have q1:=Na (TB:=⟨tabs,none⟩) t
 have q2:=Gy (TB:=⟨tabs,none⟩) p
 have e2:=JQ (tabs:=tabs) s t p hes n
 have e3:=OS (tabs:=tabs) s t p hes n
 have e1:=JR (TB:=⟨tabs,none⟩) s t p hes n
 have hbd:=fun u h=>bC (s:=s) (t:=t) (p:=p) (n:=n) (u:=u) h
 generalize Cj s t p n=o at *
 rcases o with _|v
 ·have q3:=Gy (TB:=⟨tabs,none⟩) TV
  (repeat first|refine aU rfl ?_)
  refine R.NR [(0,2),(1,2),(2,2),(3,2),(4,2),(5,2),(6,2),(7,2),(8,2),(9,2),(10,2),(11,3),(12,5),(13,2)] mixed (by kernel_rfl) rfl (by kernel_rfl) ?_
  (repeat ((refine R.Ai rfl ?_;first|(refine R.yQ (md:=false) rfl rfl rfl ?_ ?_;exact tI) |refine R.yP rfl rfl rfl rfl ?_ |refine R.yA rfl rfl rfl rfl ?_|refine R.Bs (fun _ _ _=>AO rfl rfl rfl (c0) rfl) rfl rfl ?_|refine R.Bs (fun _ _ _=>AO rfl rfl rfl (c1) rfl) rfl rfl ?_|refine R.Bs (fun _ _ _=>AO rfl rfl rfl (c2) rfl) rfl rfl ?_|refine R.Bs (fun _ _ _=>AO rfl rfl rfl (e1) rfl) rfl rfl ?_ )))
  refine R.NM ?_
  refine Au.DE [0] [(3,eI .i64 n),(4,.o (.ip (CE s))),(5,.o (.ip (CE t))),(6,.o (.ip (Bh p))),(10,.o (.ip (Bh TV))),(11,.o (.d (bD false)))] ⟨⟨_,rfl,.inl rfl⟩,⟨_,rfl,.inl rfl⟩,⟨_,rfl,.inl rfl⟩,⟨_,rfl,.inl rfl⟩,⟨_,rfl,.inr (.o (.box rfl (NF.refl (Bh TV))))⟩,⟨_,rfl,.inl rfl⟩,trivial⟩ ?_
  (repeat first|refine tA rfl ?_ |refine aU rfl ?_)
  (refine pW rfl ?_ rfl (by rfl);refine BO [] rfl rfl 0 (d0) (by decide) ⟨rfl,by decide,by decide⟩ rfl (by simp[cX,zC,hΓ,cN]) ?_;rintro x0 σ1 nx1 ⟨rfl,rfl,rfl⟩ _)
  (repeat first|refine tA rfl ?_ |refine aU rfl ?_ |refine Aa ?_)
  (refine pW rfl ?_ rfl (by rfl);refine BO [] rfl rfl 0 (d1) (by decide) ⟨rfl,by decide,by decide⟩ rfl (by simp[cX,zC,hΓ,cN]) ?_;rintro x0 σ1 nx1 ⟨rfl,rfl,rfl⟩ _)
  (repeat first|refine tA rfl ?_ |refine aU rfl ?_ |refine Aa ?_)
  (refine pW rfl ?_ rfl (by rfl);refine BO [] rfl rfl 0 (d2) (by decide) ⟨rfl,by decide,by decide⟩ rfl (by simp[cX,zC,hΓ,cN]) ?_;rintro x0 σ1 nx1 ⟨l,hl,rfl,rfl,rfl⟩ _)
  (repeat first|refine tA rfl ?_)
  refine Aa ?_
  refine Au.BR [3,4,5,6,10,11] [] rfl rfl [(12,.o (.ptr 1 3 0 0)),(13,.o (.ptr 3 3 0 0)),(14,.o (.ptr 7 3 0 0))] [(0,.cells 126 3 (s.es.map AA)),(1,.cells 25 3 [OJ s 0]),(2,.cells 126 3 (t.es.map AA)),(3,.cells 25 3 [OJ t 2]),(4,.cells 62 1 (A6 l)),(5,.cells 4 1 (p.ac.map Ax)),(6,.sld 3 (sI l)),(7,.cells 29 3 [[.d (iD p.al),.arr 4 1 0 l.length,.arr 5 1 0 p.ac.length]])] [1,2,3,4,5,6,7,8] (rl hΓ rfl) (by (simp[cX,zC,hΓ,cN,Af,eC,Bi])) ?_;(try dsimp only[cA,cB])
  (repeat first|refine tA rfl ?_ |refine aU rfl ?_)
  (refine pW rfl ?_ rfl (by rfl);refine BT.HJ [(55,Bv s),(56,Bv t),(57,Bp p),(58,eI .i64 n)] ⟨⟨_,rfl,Nb (s:=s) rfl rfl⟩,⟨_,rfl,Nb (s:=t) rfl rfl⟩,⟨_,rfl,Gz (k:=6) rfl rfl rfl hl rfl rfl⟩,⟨_,rfl,.AE rfl⟩,trivial⟩ (fun Γ'=>?_);refine BO [] rfl rfl 0 e3 (by decide) ⟨rfl,by decide,by decide⟩ rfl trivial ?_;rintro x0 σ1 nx1 ⟨rfl,rfl,rfl⟩ _)
  refine⟨⟨ZJ _,fun x hx=>by simp [Ab.A3,BN] at hx⟩,?_⟩
  (repeat first|refine tA rfl ?_)
  refine Aa ?_
  refine Au.DE [8] [(3,eI .i64 n),(4,.o (.ip (CE s))),(5,.o (.ip (CE t))),(6,.o (.ip (Bh p))),(10,.o (.ip (Bh TV))),(11,.o (.d (bD false))),(12,.o (.ptr 1 3 0 0)),(13,.o (.ptr 3 3 0 0)),(14,.o (.ptr 7 3 0 0)),(15,.o (.ip (Bh TV))),(16,.o (.d (bD false)))] ⟨⟨_,rfl,.inl rfl⟩,⟨_,rfl,.inl rfl⟩,⟨_,rfl,.inl rfl⟩,⟨_,rfl,.inl rfl⟩,⟨_,rfl,.inl rfl⟩,⟨_,rfl,.inl rfl⟩,⟨_,rfl,.inl rfl⟩,⟨_,rfl,.inl rfl⟩,⟨_,rfl,.inl rfl⟩,⟨_,rfl,.inr (.o (.box rfl (NF.refl (Bh TV))))⟩,⟨_,rfl,.inl rfl⟩,trivial⟩ ?_
  (repeat' first|refine tA rfl ?_ |refine s2 rfl fun _ _hb=>?_ |refine sP rfl (q3) rfl ?_ |refine s3 rfl ?_ ?_<;>rintro rfl |refine aU rfl ?_ |refine Aa ?_|(refine aC rfl ?_ ?_<;>rintro⟨⟩));all_goals try contradiction
  refine aK ?_
  (repeat first|refine aU rfl ?_)
  refine rG (IZ []) (by kernel_rfl) ?_
  (repeat' first|refine tA rfl ?_ |refine s2 rfl fun _ _hb=>?_ |refine sP rfl (c0) rfl ?_|(refine Ai rfl ?_;refine gA rfl ?_;first| refine gQ (AS.HJ [(71,Bv s),(73,Bv s)] ⟨⟨_,rfl,Nb (s:=s) rfl rfl⟩,⟨_,rfl,.AE rfl⟩,trivial⟩ (fun Γ'=>AO rfl rfl rfl q0 rfl) (Ng _)) rfl ?_) |refine aU rfl ?_ |refine Aa ?_|(refine aC rfl ?_ ?_<;>rintro⟨⟩));all_goals try contradiction
  refine aK ?_
  (repeat first|refine aU rfl ?_)
  refine rG (IZ []) (by kernel_rfl) ?_
  (repeat' first|refine tA rfl ?_ |refine s2 rfl fun _ _hb=>?_ |refine sP rfl (c1) rfl ?_|(refine Ai rfl ?_;refine gA rfl ?_;first| refine gQ (AS.HJ [(76,Bv t),(78,Bv t)] ⟨⟨_,rfl,Nb (s:=t) rfl rfl⟩,⟨_,rfl,.AE rfl⟩,trivial⟩ (fun Γ'=>AO rfl rfl rfl q1 rfl) (Ng _)) rfl ?_) |refine aU rfl ?_ |refine Aa ?_|(refine aC rfl ?_ ?_<;>rintro⟨⟩));all_goals try contradiction
  refine aK ?_
  (repeat first|refine aU rfl ?_)
  refine rG (IZ []) (by kernel_rfl) ?_
  (repeat' first|refine tA rfl ?_ |refine s2 rfl fun _ _hb=>?_ |refine sP rfl (c2) rfl ?_|(refine Ai rfl ?_;refine gA rfl ?_;first| refine gQ (AS.HJ [(81,Bp p),(83,Bp p)] ⟨⟨_,rfl,Gz (k:=6) rfl rfl rfl hl rfl rfl⟩,⟨_,rfl,.AE rfl⟩,trivial⟩ (fun Γ'=>AO rfl rfl rfl q2 rfl) (Ng _)) rfl ?_) |refine aU rfl ?_ |refine Aa ?_|(refine aC rfl ?_ ?_<;>rintro⟨⟩));all_goals try contradiction
  refine aK ?_
  have lb:=Sy hl h3.1 h3.2.2
  have m0:=Fq (TB:=⟨tabs,none⟩) s 1 (by omega) (by omega) (by omega)
  have m1:=Fq (TB:=⟨tabs,none⟩) t (1+3*s.es.length) (by omega) (by omega) (by omega)
  have m2:=Fe (TB:=⟨tabs,none⟩) p.al l p.ac (1+3*s.es.length+3*t.es.length) (by omega) (by omega) (by omega) (by omega)
  (repeat first|refine tA rfl ?_ |refine aU rfl ?_ |refine Aa ?_)
  (refine pW rfl ?_ rfl (by rfl);refine Bx [0] rfl rfl (m0) ⟨rfl,by decide,by decide⟩ rfl (by simp[cX,zC,hΓ,cN]) ?_;rintro x0 σ1 nx1 ⟨rfl,rfl,rfl⟩ _)
  (repeat first|refine tA rfl ?_ |refine aU rfl ?_ |refine Aa ?_)
  (refine pW rfl ?_ rfl (by rfl);refine Bx [2] rfl rfl (m1) ⟨rfl,by decide,by decide⟩ rfl (by simp[cX,zC,hΓ,cN]) ?_;rintro x0 σ1 nx1 ⟨rfl,rfl,rfl⟩ _)
  (repeat first|refine tA rfl ?_ |refine aU rfl ?_ |refine Aa ?_)
  (refine pW rfl ?_ rfl (by rfl);refine Bx [4,5,6] rfl rfl (m2) ⟨rfl,by decide,by decide⟩ rfl (by simp[cX,zC,hΓ,cN]) ?_;rintro x0 σ1 nx1 ⟨l',hl',rfl,rfl,rfl⟩ _)
  (repeat first|refine tA rfl ?_)
  refine Aa ?_
  refine Au.BR [3,4,5,6,10,11,15,16,17] [] rfl rfl [] [] [] (rl hΓ rfl) (by (simp[cX,zC,hΓ,cN,Af,eC,Bi])) ?_;(try dsimp only[cA,cB])
  (repeat' first|refine tA rfl ?_ |refine s2 rfl fun _ _hb=>?_ |refine sP rfl (q3) rfl ?_ |refine s3 rfl ?_ ?_<;>rintro rfl |refine aU rfl ?_ |refine Aa ?_|(refine aC rfl ?_ ?_<;>rintro⟨⟩));all_goals try contradiction
  all_goals first| (exfalso;omega;done)|skip
  refine aK ?_
  have q4:=KV (TB:=⟨tabs,none⟩)
  have q5:=K4 (TB:=⟨tabs,none⟩)
  (repeat first|refine tA rfl ?_ |refine s2 rfl fun _ _hb=>?_ |refine sP rfl (q4) rfl ?_|refine sP rfl (q5) rfl ?_ |refine aU rfl ?_ |refine Aa ?_)
  ((refine aC rfl ?_ ?_<;>rintro⟨⟩);all_goals try(exfalso;(simp only[oZ] at *;omega)))
  refine aK ?_
  (repeat first|refine tA rfl ?_ |refine s2 rfl fun _ _hb=>?_ |refine aU rfl ?_ |refine Aa ?_)
  ((refine aC rfl ?_ ?_<;>rintro⟨⟩);all_goals try(exfalso;(simp only[oZ] at *;omega)))
  refine aK ?_
  (repeat first|refine aU rfl ?_)
  refine R.NR [(0,2),(1,2),(2,2),(3,2),(4,2),(5,2),(6,2),(7,2),(8,2),(9,2),(10,2),(11,3),(12,5),(13,2)] mixed (by kernel_rfl) rfl (by kernel_rfl) ?_
  (repeat ((refine R.Ai rfl ?_;first|(refine R.yQ (md:=false) rfl rfl rfl ?_ ?_;exact tI) |refine R.yP rfl rfl rfl rfl ?_ |refine R.yA rfl rfl rfl rfl ?_|refine R.Bs (fun _ _ _=>AO rfl rfl rfl (c0) rfl) rfl rfl ?_|refine R.Bs (fun _ _ _=>AO rfl rfl rfl (c1) rfl) rfl rfl ?_|refine R.Bs (fun _ _ _=>AO rfl rfl rfl (c2) rfl) rfl rfl ?_|refine R.Bs (fun _ _ _=>AO rfl rfl rfl (e2) rfl) rfl rfl ?_ )))
  refine R.NM ?_
  (repeat' first|refine tA rfl ?_ |refine s2 rfl fun _ _hb=>?_ |refine sP rfl (q3) rfl ?_ |refine s3 rfl ?_ ?_<;>rintro rfl |refine aU rfl ?_ |refine Aa ?_|(refine aC rfl ?_ ?_<;>rintro⟨⟩));all_goals try contradiction
  refine aK ?_
  (repeat first|refine tA rfl ?_ |refine s2 rfl fun _ _hb=>?_ |refine sP rfl (q4) rfl ?_ |refine aU rfl ?_ |refine Aa ?_)
  ((refine aC rfl ?_ ?_<;>rintro⟨⟩);all_goals try(exfalso;(simp only[oZ] at *;omega)))
  refine aK ?_
  (repeat first|refine tA rfl ?_ |refine s2 rfl fun _ _hb=>?_ |refine aU rfl ?_ |refine Aa ?_)
  ((refine aC rfl ?_ ?_<;>rintro⟨⟩);all_goals try(exfalso;(simp only[oZ] at *;omega)))
  refine aK ?_
  (repeat first|refine tA rfl ?_ |refine aU rfl ?_ |refine Aa ?_)
  (subst_vars;exact aR ⟨_,rfl,rfl⟩)
 ·obtain⟨b1,b2,b3⟩:=hbd v rfl
  have q3:=Gy (TB:=⟨tabs,none⟩) v
  (repeat first|refine aU rfl ?_)
  refine R.NR [(0,2),(1,2),(2,2),(3,2),(4,2),(5,2),(6,2),(7,2),(8,2),(9,2),(10,2),(11,3),(12,5),(13,2)] mixed (by kernel_rfl) rfl (by kernel_rfl) ?_
  (repeat ((refine R.Ai rfl ?_;first|(refine R.yQ (md:=false) rfl rfl rfl ?_ ?_;exact tI) |refine R.yP rfl rfl rfl rfl ?_ |refine R.yA rfl rfl rfl rfl ?_|refine R.Bs (fun _ _ _=>AO rfl rfl rfl (c0) rfl) rfl rfl ?_|refine R.Bs (fun _ _ _=>AO rfl rfl rfl (c1) rfl) rfl rfl ?_|refine R.Bs (fun _ _ _=>AO rfl rfl rfl (c2) rfl) rfl rfl ?_|refine R.Bs (fun _ _ _=>AO rfl rfl rfl (e1) rfl) rfl rfl ?_ )))
  refine R.NM ?_
  refine Au.DE [0] [(3,eI .i64 n),(4,.o (.ip (CE s))),(5,.o (.ip (CE t))),(6,.o (.ip (Bh p))),(10,.o (.ip (Bh v))),(11,.o (.d (bD true)))] ⟨⟨_,rfl,.inl rfl⟩,⟨_,rfl,.inl rfl⟩,⟨_,rfl,.inl rfl⟩,⟨_,rfl,.inl rfl⟩,⟨_,rfl,.inr (.o (.box rfl (NF.refl (Bh v))))⟩,⟨_,rfl,.inl rfl⟩,trivial⟩ ?_
  (repeat first|refine tA rfl ?_ |refine aU rfl ?_)
  (refine pW rfl ?_ rfl (by rfl);refine BO [] rfl rfl 0 (d0) (by decide) ⟨rfl,by decide,by decide⟩ rfl (by simp[cX,zC,hΓ,cN]) ?_;rintro x0 σ1 nx1 ⟨rfl,rfl,rfl⟩ _)
  (repeat first|refine tA rfl ?_ |refine aU rfl ?_ |refine Aa ?_)
  (refine pW rfl ?_ rfl (by rfl);refine BO [] rfl rfl 0 (d1) (by decide) ⟨rfl,by decide,by decide⟩ rfl (by simp[cX,zC,hΓ,cN]) ?_;rintro x0 σ1 nx1 ⟨rfl,rfl,rfl⟩ _)
  (repeat first|refine tA rfl ?_ |refine aU rfl ?_ |refine Aa ?_)
  (refine pW rfl ?_ rfl (by rfl);refine BO [] rfl rfl 0 (d2) (by decide) ⟨rfl,by decide,by decide⟩ rfl (by simp[cX,zC,hΓ,cN]) ?_;rintro x0 σ1 nx1 ⟨l,hl,rfl,rfl,rfl⟩ _)
  (repeat first|refine tA rfl ?_)
  refine Aa ?_
  refine Au.BR [3,4,5,6,10,11] [] rfl rfl [(12,.o (.ptr 1 3 0 0)),(13,.o (.ptr 3 3 0 0)),(14,.o (.ptr 7 3 0 0))] [(0,.cells 126 3 (s.es.map AA)),(1,.cells 25 3 [OJ s 0]),(2,.cells 126 3 (t.es.map AA)),(3,.cells 25 3 [OJ t 2]),(4,.cells 62 1 (A6 l)),(5,.cells 4 1 (p.ac.map Ax)),(6,.sld 3 (sI l)),(7,.cells 29 3 [[.d (iD p.al),.arr 4 1 0 l.length,.arr 5 1 0 p.ac.length]])] [1,2,3,4,5,6,7,8] (rl hΓ rfl) (by (simp[cX,zC,hΓ,cN,Af,eC,Bi])) ?_;(try dsimp only[cA,cB])
  (repeat first|refine tA rfl ?_ |refine aU rfl ?_)
  (refine pW rfl ?_ rfl (by rfl);refine BT.HJ [(55,Bv s),(56,Bv t),(57,Bp p),(58,eI .i64 n)] ⟨⟨_,rfl,Nb (s:=s) rfl rfl⟩,⟨_,rfl,Nb (s:=t) rfl rfl⟩,⟨_,rfl,Gz (k:=6) rfl rfl rfl hl rfl rfl⟩,⟨_,rfl,.AE rfl⟩,trivial⟩ (fun Γ'=>?_);refine BO [] rfl rfl 0 e3 (by decide) ⟨rfl,by decide,by decide⟩ rfl trivial ?_;rintro x0 σ1 nx1 ⟨u,hu,rfl,rfl,rfl⟩ _)
  refine⟨⟨cg _ _ _ _,fun x hx=>?_⟩,?_⟩
  ·simp only [Ab.A3,List.map_cons,List.map_nil,BN,List.append_nil,List.mem_cons,List.not_mem_nil,or_false] at hx
   rcases hx with rfl|rfl|rfl
   ·exact mn
   ·exact ka
   ·exact trivial
  (repeat first|refine tA rfl ?_)
  refine Aa ?_
  refine Au.BR [3,4,5,6,10,11,12,13,14,16] [0,1,2,3,4,5,6,7] rfl rfl [(15,.o (.ptr 11 3 0 0))] [(8,.cells 62 1 (A6 u)),(9,.cells 4 1 (v.ac.map Ax)),(10,.sld 3 (sI u)),(11,.cells 29 3 [[.d (iD v.al),.arr 8 1 0 u.length,.arr 9 1 0 v.ac.length]])] [0,1,2,3,4,5,6,7,8,9,10,11] (rl hΓ rfl) (by (simp[cX,zC,hΓ,cN,Af,eC,Bi])) ?_;(try dsimp only[cA,cB])
  (repeat' first|refine tA rfl ?_ |refine s2 rfl fun _ _hb=>?_|(refine Ai rfl ?_;refine gA rfl ?_;first| refine gQ (AS.HJ [(62,Bp v),(63,Bp v)] ⟨⟨_,rfl,Gz (k:=10) rfl rfl rfl hu rfl rfl⟩,⟨_,rfl,.AE rfl⟩,trivial⟩ (fun Γ'=>AO rfl rfl rfl q3 rfl) (Ng _)) rfl ?_) |refine s3 rfl ?_ ?_<;>rintro rfl |refine aU rfl ?_ |refine Aa ?_|(refine aC rfl ?_ ?_<;>rintro⟨⟩));all_goals try contradiction
  refine aK ?_
  (repeat first|refine aU rfl ?_)
  refine rG (IZ []) (by kernel_rfl) ?_
  (repeat' first|refine tA rfl ?_ |refine s2 rfl fun _ _hb=>?_ |refine sP rfl (c0) rfl ?_|(refine Ai rfl ?_;refine gA rfl ?_;first| refine gQ (AS.HJ [(71,Bv s),(73,Bv s)] ⟨⟨_,rfl,Nb (s:=s) rfl rfl⟩,⟨_,rfl,.AE rfl⟩,trivial⟩ (fun Γ'=>AO rfl rfl rfl q0 rfl) (Ng _)) rfl ?_) |refine aU rfl ?_ |refine Aa ?_|(refine aC rfl ?_ ?_<;>rintro⟨⟩));all_goals try contradiction
  refine aK ?_
  (repeat first|refine aU rfl ?_)
  refine rG (IZ []) (by kernel_rfl) ?_
  (repeat' first|refine tA rfl ?_ |refine s2 rfl fun _ _hb=>?_ |refine sP rfl (c1) rfl ?_|(refine Ai rfl ?_;refine gA rfl ?_;first| refine gQ (AS.HJ [(76,Bv t),(78,Bv t)] ⟨⟨_,rfl,Nb (s:=t) rfl rfl⟩,⟨_,rfl,.AE rfl⟩,trivial⟩ (fun Γ'=>AO rfl rfl rfl q1 rfl) (Ng _)) rfl ?_) |refine aU rfl ?_ |refine Aa ?_|(refine aC rfl ?_ ?_<;>rintro⟨⟩));all_goals try contradiction
  refine aK ?_
  (repeat first|refine aU rfl ?_)
  refine rG (IZ []) (by kernel_rfl) ?_
  (repeat' first|refine tA rfl ?_ |refine s2 rfl fun _ _hb=>?_ |refine sP rfl (c2) rfl ?_|(refine Ai rfl ?_;refine gA rfl ?_;first| refine gQ (AS.HJ [(81,Bp p),(83,Bp p)] ⟨⟨_,rfl,Gz (k:=6) rfl rfl rfl hl rfl rfl⟩,⟨_,rfl,.AE rfl⟩,trivial⟩ (fun Γ'=>AO rfl rfl rfl q2 rfl) (Ng _)) rfl ?_) |refine aU rfl ?_ |refine Aa ?_|(refine aC rfl ?_ ?_<;>rintro⟨⟩));all_goals try contradiction
  refine aK ?_
  have lb:=Sy hl h3.1 h3.2.2
  have m0:=Fq (TB:=⟨tabs,none⟩) s 1 (by omega) (by omega) (by omega)
  have m1:=Fq (TB:=⟨tabs,none⟩) t (1+3*s.es.length) (by omega) (by omega) (by omega)
  have m2:=Fe (TB:=⟨tabs,none⟩) p.al l p.ac (1+3*s.es.length+3*t.es.length) (by omega) (by omega) (by omega) (by omega)
  (repeat first|refine tA rfl ?_ |refine aU rfl ?_ |refine Aa ?_)
  (refine pW rfl ?_ rfl (by rfl);refine Bx [0] rfl rfl (m0) ⟨rfl,by decide,by decide⟩ rfl (by simp[cX,zC,hΓ,cN]) ?_;rintro x0 σ1 nx1 ⟨rfl,rfl,rfl⟩ _)
  (repeat first|refine tA rfl ?_ |refine aU rfl ?_ |refine Aa ?_)
  (refine pW rfl ?_ rfl (by rfl);refine Bx [2] rfl rfl (m1) ⟨rfl,by decide,by decide⟩ rfl (by simp[cX,zC,hΓ,cN]) ?_;rintro x0 σ1 nx1 ⟨rfl,rfl,rfl⟩ _)
  (repeat first|refine tA rfl ?_ |refine aU rfl ?_ |refine Aa ?_)
  (refine pW rfl ?_ rfl (by rfl);refine Bx [4,5,6] rfl rfl (m2) ⟨rfl,by decide,by decide⟩ rfl (by simp[cX,zC,hΓ,cN]) ?_;rintro x0 σ1 nx1 ⟨l',hl',rfl,rfl,rfl⟩ _)
  (repeat first|refine tA rfl ?_)
  refine Aa ?_
  refine Au.BR [3,4,5,6,10,11,16,17] [] rfl rfl [(15,.o (.ptr 3 3 0 0))] [(0,.cells 62 1 (A6 u)),(1,.cells 4 1 (v.ac.map Ax)),(2,.sld 3 (sI u)),(3,.cells 29 3 [[.d (iD v.al),.arr 0 1 0 u.length,.arr 1 1 0 v.ac.length]])] [8,9,10,11] (rl hΓ rfl) (by (simp[cX,zC,hΓ,cN,Af,eC,Bi])) ?_;(try dsimp only[cA,cB])
  (repeat' first|refine tA rfl ?_ |refine s2 rfl fun _ _hb=>?_|(refine Ai rfl ?_;refine gA rfl ?_;first| refine gQ (AS.HJ [(98,Bp v),(99,Bp v)] ⟨⟨_,rfl,Gz (k:=2) rfl rfl rfl hu rfl rfl⟩,⟨_,rfl,.AE rfl⟩,trivial⟩ (fun Γ'=>AO rfl rfl rfl q3 rfl) (Ng _)) rfl ?_) |refine s3 rfl ?_ ?_<;>rintro rfl |refine aU rfl ?_ |refine Aa ?_|(refine aC rfl ?_ ?_<;>rintro⟨⟩));all_goals try contradiction
  all_goals first| (exfalso;omega;done)|skip
  refine aK ?_
  have ub:=Sy hu b1 b2
  have mG:=Fe (TB:=⟨tabs,none⟩) v.al u v.ac 1 (by omega) (by omega) (by omega) (by omega)
  have q4:=HI (TB:=⟨tabs,none⟩) v.al (BD u) v.ac.length 1 (by omega) (by omega) (by simp;omega)
  (repeat first|refine tA rfl ?_ |refine aU rfl ?_ |refine Aa ?_)
  (refine pW rfl ?_ rfl (by rfl);refine Bx [0,1,2] rfl rfl (mG) ⟨rfl,by decide,by decide⟩ rfl (by simp[cX,zC,hΓ,cN]) ?_;rintro x0 σ1 nx1 ⟨z,hz2,rfl,rfl,rfl⟩ _)
  (repeat first|refine tA rfl ?_)
  refine Aa ?_
  have hzl:z.length=u.length:=by have:=congrArg List.length hz2;simpa [UI] using this
  refine Au.BR [3,4,5,6,10,11,16,18] [3] rfl rfl [(15,.o (.ptr 3 3 0 0))] [(0,.cells 62 1 (A6 z)),(1,.cells 4 1 ((Mu (1+(BD u).sum) v.ac.length).map Ax)),(2,.sld 3 (sI z))] [0,1,2,3] (rl hΓ rfl) (by (simp[cX,zC,hΓ,cN,Af,eC,Bi])) ?_;(try dsimp only[cA,cB])
  (repeat first|refine tA rfl ?_ |refine s2 rfl fun _ _hb=>?_|(refine Ai rfl ?_;refine gA rfl ?_;first| refine gQ (AS.HJ [(111,Bp ⟨v.al,O8 1 (BD u),Mu (1+(BD u).sum) v.ac.length⟩),(112,eI .i64 1)] ⟨⟨_,rfl,Gz (k:=2) rfl rfl rfl hz2 hzl (O7 _ _)⟩,⟨_,rfl,.AE rfl⟩,trivial⟩ (fun Γ'=>AO rfl rfl rfl q4 rfl) (gL _ _)) rfl ?_) |refine aU rfl ?_ |refine Aa ?_)
  ((refine aC rfl ?_ ?_<;>rintro⟨⟩);all_goals try(exfalso;(simp only[oZ] at *;omega)))
  refine aK ?_
  (repeat first|refine tA rfl ?_ |refine s2 rfl fun _ _hb=>?_ |refine aU rfl ?_ |refine Aa ?_)
  ((refine aC rfl ?_ ?_<;>rintro⟨⟩);all_goals try(exfalso;(simp only[oZ] at *;omega)))
  refine aK ?_
  (repeat first|refine aU rfl ?_)
  refine R.NR [(0,2),(1,2),(2,2),(3,2),(4,2),(5,2),(6,2),(7,2),(8,2),(9,2),(10,2),(11,3),(12,5),(13,2)] mixed (by kernel_rfl) rfl (by kernel_rfl) ?_
  (repeat ((refine R.Ai rfl ?_;first|(refine R.yQ (md:=false) rfl rfl rfl ?_ ?_;exact tI) |refine R.yP rfl rfl rfl rfl ?_ |refine R.yA rfl rfl rfl rfl ?_|refine R.Bs (fun _ _ _=>AO rfl rfl rfl (c0) rfl) rfl rfl ?_|refine R.Bs (fun _ _ _=>AO rfl rfl rfl (c1) rfl) rfl rfl ?_|refine R.Bs (fun _ _ _=>AO rfl rfl rfl (c2) rfl) rfl rfl ?_|refine R.Bs (fun _ _ _=>AO rfl rfl rfl (e2) rfl) rfl rfl ?_ )))
  refine R.NM ?_
  (repeat' first|refine tA rfl ?_ |refine s2 rfl fun _ _hb=>?_ |refine sP rfl (q3) rfl ?_ |refine s3 rfl ?_ ?_<;>rintro rfl |refine aU rfl ?_ |refine Aa ?_|(refine aC rfl ?_ ?_<;>rintro⟨⟩));all_goals try contradiction
  refine aK ?_
  (repeat first|refine tA rfl ?_ |refine s2 rfl fun _ _hb=>?_|(refine Ai rfl ?_;refine gA rfl ?_;first| refine gQ (AS.HJ [(139,Bp ⟨v.al,O8 1 (BD u),Mu (1+(BD u).sum) v.ac.length⟩),(140,eI .i64 1)] ⟨⟨_,rfl,Gz (k:=2) rfl rfl rfl hz2 hzl (O7 _ _)⟩,⟨_,rfl,.AE rfl⟩,trivial⟩ (fun Γ'=>AO rfl rfl rfl q4 rfl) (gL _ _)) rfl ?_) |refine aU rfl ?_ |refine Aa ?_)
  ((refine aC rfl ?_ ?_<;>rintro⟨⟩);all_goals try(exfalso;(simp only[oZ] at *;omega)))
  refine aK ?_
  (repeat first|refine tA rfl ?_ |refine s2 rfl fun _ _hb=>?_ |refine aU rfl ?_ |refine Aa ?_)
  ((refine aC rfl ?_ ?_<;>rintro⟨⟩);all_goals try(exfalso;(simp only[oZ] at *;omega)))
  refine aK ?_
  (repeat first|refine tA rfl ?_ |refine aU rfl ?_ |refine Aa ?_)
  (subst_vars;exact aR ⟨_,rfl,rfl⟩)
end Go.Am
namespace Go.Proofs.YtbfgijpfhgmepaaGreatDoor
open Go
theorem Qi:mapsRowed Tryz.prog=true:=by kernel_rfl
theorem ZB:(Tryz.prog.stops == [])=true:=by kernel_rfl
theorem Zz:(Tryz.prog.stopKnobs == [])=true:=by kernel_rfl
theorem Zy:Tryz.prog.stopsHeard=true:=by kernel_rfl
theorem Qj:(false == Tryz.prog.plainKeys)=true:=by kernel_rfl
end Go.Proofs.YtbfgijpfhgmepaaGreatDoor
