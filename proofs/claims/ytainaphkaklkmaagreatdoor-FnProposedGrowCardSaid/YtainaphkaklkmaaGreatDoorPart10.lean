/-
  A copy of an automaton that may be wrong, walked.
-/
import Derived.Test.YtainaphkaklkmaaGreatDoorPart9
set_option linter.constructorNameAsVariable false
set_option linter.unusedSimpArgs false
set_option linter.unusedVariables false
namespace Go.Am
open Go Go.Proofs
set_option maxHeartbeats 1000000
attribute [local irreducible] QOp AOp Lex LexO AWp Spec
variable {TB:List (Nat×Obj)}
theorem lst_bd {m:Nat} {al:Int} {l:Nst} {ac:List Bool} (h1:l.length≤m) (h2:ac.length≤m) (h3:∀x∈l,x.2.length≤m):ABd m ⟨al,l.map (·.2),ac⟩:=by
  refine ⟨by simpa using h1,h2,fun r hr=>?_⟩
  obtain ⟨x,hx,rfl⟩:=List.mem_map.1 hr
  exact h3 x hx
theorem mid_all {Q:Value×List Int→Prop} {l1 l2:Nst} {y z:Value×List Int} (h:∀x∈l1++y::l2,Q x) (hz:Q z):∀x∈l1++z::l2,Q x:=fun x hx=>by
  rcases List.mem_append.1 hx with hx|hx
  · exact h x (List.mem_append_left _ hx)
  · rcases List.mem_cons.1 hx with rfl|hx
    · exact hz
    · exact h x (List.mem_append_right _ (List.mem_cons_of_mem _ hx))
theorem l3Wrong_ok (b:List UInt8) (hb:b.length≤2000) (p:Int) (h0:0≤p∧p < 900000000) (a:Aut) (m:Nat) (ha:ABd m a) (hm:m≤100000):Spec Tryz.prog TB 92 [(0,rdO b p)] 1 [.o (.ptr 0 2 0 0),eAut a] (DrawPost b p 5 (fun a'=>ABd (m+14) a')):=by
  have ha1:=ha.nx
  have ha2:=ha.ac
  have ha3:=ha.row
  refine SpecK.toSpec (SpecK.ren (SpecK.ofG (Nat.le_refl _) Tryz.func92 rfl (by kernel_rfl) (Nat.le_of_ble_eq_true rfl) ?_));intro Γ hΓ
  (repeat first|refine sN rfl ?_|((first|refine sA rfl ?_ ?_|refine s4 rfl ‹_› rfl ?_ ?_);first|exact tI|omega|(simp only[oZ] at *;omega))|(refine s2 rfl ?_;intro _ _hb)|(refine s3 rfl ?_ ?_<;>intro hb<;>subst hb)|refine aS ?_|refine reg (by kernel_rfl) ?_|refine lexE ?_)
  (refine popO rfl ?_;refine popW ?_ rfl (by rfl);refine n_callK [] rfl rfl 0 (l3Copy_ok a ⟨by omega,by omega,fun r hr=>by have:=ha3 r hr;omega⟩) (by decide) ⟨rfl,by decide,by decide⟩ rfl (by simp [EnvSub,StoreSub,look_cons,nm,nmo,E.ren,C.ren,C.renL,O.ren,Store.ren,killc,kill0,killL,kill,fillC,spliceC,eC,Function.comp_def,argsFrom,zC,hΓ,rawR_ren,cond_eq_ite,Nat.beq_eq]) ?_;rintro x0 σ1 nx1 ⟨l,hl,rfl,rfl,rfl⟩ _)
  (repeat first|refine sN rfl ?_|((first|refine sA rfl ?_ ?_|refine s4 rfl ‹_› rfl ?_ ?_);first|exact tI|omega|(simp only[oZ] at *;omega))|(refine s2 rfl ?_;intro _ _hb)|(refine s3 rfl ?_ ?_<;>intro hb<;>subst hb))
  refine lexE ?_
  have hll:l.length=a.nx.length:=by rw [←hl];simp
  have hin:∀x∈l,x.2.length≤m+14:=fun x hx=>by have:=ha3 x.2 (by rw [←hl];exact List.mem_map.2 ⟨x,hx,rfl⟩);omega
  have hb0:∀al,ABd (m+14) ⟨al,l.map (·.2),a.ac⟩:=fun al=>lst_bd (by omega) (by omega) hin
  obtain ⟨k,k0,k1,hk⟩:=pick_ok (TB:=TB) b hb p l.length (by omega)
  obtain ⟨c,c0,c1,hc⟩:=pick_ok (TB:=TB) b hb (p+1) 30 (by omega)
  refine AWp.namesV [0,4,5] [] rfl rfl [] [(0,rdO b p),(1,.cells 26 3 [[.d (iD 0),.d (.l []),.d (.l [])]]),(2,.cells 61 1 (rawR l)),(3,.cells 4 1 (a.ac.map bRowC)),(4,.sld 3 (sI l)),(5,.cells 26 3 [[.d (iD a.al),.arr 2 1 0 l.length,.arr 3 1 0 a.ac.length]])] [0,1,2,3,4,5] (by first|(simp [hΓ];done)|(rw [hΓ];decide)) (by (repeat' (first|exact trivial|rfl|refine And.intro ?_ ?_))<;>(simp [EnvSub,StoreSub,look_cons,nm,nmo,E.ren,C.ren,C.renL,O.ren,Store.ren,killc,kill0,killL,kill,fillC,spliceC,eC,Function.comp_def,argsFrom,zC,hΓ,rawR_ren,cond_eq_ite,Nat.beq_eq]<;>rfl)) ?_;(try dsimp only [List.cons_append,List.nil_append])
  (repeat first|refine sN rfl ?_|((first|refine sA rfl ?_ ?_|refine s4 rfl ‹_› rfl ?_ ?_);first|exact tI|omega|(simp only[oZ] at *;omega))|(refine s2 rfl ?_;intro _ _hb)|(refine s3 rfl ?_ ?_<;>intro hb<;>subst hb)|refine aS ?_|refine reg (by kernel_rfl) ?_|refine lexE ?_)
  (refine popO rfl ?_;refine popW ?_ rfl (by rfl);refine n_call [0] rfl rfl (hk) ⟨rfl,by decide,by decide⟩ rfl (by simp [EnvSub,StoreSub,look_cons,nm,nmo,E.ren,C.ren,C.renL,O.ren,Store.ren,killc,kill0,killL,kill,fillC,spliceC,eC,Function.comp_def,argsFrom,zC,hΓ,rawR_ren,cond_eq_ite,Nat.beq_eq]) ?_;rintro x0 σ1 nx1 ⟨rfl,rfl,rfl⟩ _)
  (repeat first|refine sN rfl ?_|((first|refine sA rfl ?_ ?_|refine s4 rfl ‹_› rfl ?_ ?_);first|exact tI|omega|(simp only[oZ] at *;omega))|(refine s2 rfl ?_;intro _ _hb)|(refine s3 rfl ?_ ?_<;>intro hb<;>subst hb)|refine aS ?_|refine reg (by kernel_rfl) ?_|refine lexE ?_)
  (refine popO rfl ?_;refine popW ?_ rfl (by rfl);refine n_call [0] rfl rfl (hc) ⟨rfl,by decide,by decide⟩ rfl (by simp [EnvSub,StoreSub,look_cons,nm,nmo,E.ren,C.ren,C.renL,O.ren,Store.ren,killc,kill0,killL,kill,fillC,spliceC,eC,Function.comp_def,argsFrom,zC,hΓ,rawR_ren,cond_eq_ite,Nat.beq_eq]) ?_;rintro x0 σ1 nx1 ⟨rfl,rfl,rfl⟩ _)
  (repeat first|refine sN rfl ?_|((first|refine sA rfl ?_ ?_|refine s4 rfl ‹_› rfl ?_ ?_);first|exact tI|omega|(simp only[oZ] at *;omega))|(refine s2 rfl ?_;intro _ _hb)|(refine s3 rfl ?_ ?_<;>intro hb<;>subst hb))
  refine lexE ?_
  refine AWp.namesV [0,4,5,6,7,18] [] rfl rfl [] [(0,rdO b (p+1+1)),(1,.cells 26 3 [[.d (iD 0),.d (.l []),.d (.l [])]]),(2,.cells 61 1 (rawR l)),(3,.cells 4 1 (a.ac.map bRowC)),(4,.sld 3 (sI l)),(5,.cells 26 3 [[.d (iD a.al),.arr 2 1 0 l.length,.arr 3 1 0 a.ac.length]])] [0,1,2,3,4,5] (by first|(simp [hΓ];done)|(rw [hΓ];decide)) (by (repeat' (first|exact trivial|rfl|refine And.intro ?_ ?_))<;>(simp [EnvSub,StoreSub,look_cons,nm,nmo,E.ren,C.ren,C.renL,O.ren,Store.ren,killc,kill0,killL,kill,fillC,spliceC,eC,Function.comp_def,argsFrom,zC,hΓ,rawR_ren,cond_eq_ite,Nat.beq_eq]<;>rfl)) ?_;(try dsimp only [List.cons_append,List.nil_append])
  refine AWp.block ?_
  (repeat first|refine sN rfl ?_|((first|refine sA rfl ?_ ?_|refine s4 rfl ‹_› rfl ?_ ?_);first|exact tI|omega|(simp only[oZ] at *;omega))|(refine s2 rfl ?_;intro _ _hb)|(refine s3 rfl ?_ ?_<;>intro hb<;>subst hb)|refine aS ?_|refine reg (by kernel_rfl) ?_|refine lexE ?_)
  (refine aC rfl ?_ ?_<;>intro hb<;>cases hb)
  · obtain ⟨z,z1,hz⟩:=num_ok (TB:=TB) b hb (p+1+1) (by omega) [64,-1,1,63,0] (by decide) (by decide)
    (repeat first|refine sN rfl ?_|((first|refine sA rfl ?_ ?_|refine s4 rfl ‹_› rfl ?_ ?_);first|exact tI|omega|(simp only[oZ] at *;omega))|(refine s2 rfl ?_;intro _ _hb)|(refine s3 rfl ?_ ?_<;>intro hb<;>subst hb)|refine aS ?_|refine reg (by kernel_rfl) ?_|refine lexE ?_)
    (refine popO rfl ?_;refine popW ?_ rfl (by rfl);refine n_call [0] rfl rfl (hz) ⟨rfl,by decide,by decide⟩ rfl (by simp [EnvSub,StoreSub,look_cons,nm,nmo,E.ren,C.ren,C.renL,O.ren,Store.ren,killc,kill0,killL,kill,fillC,spliceC,eC,Function.comp_def,argsFrom,zC,hΓ,rawR_ren,cond_eq_ite,Nat.beq_eq]) ?_;rintro x0 σ1 nx1 ⟨rfl,rfl,rfl⟩ _)
    (repeat first|refine sN rfl ?_|((first|refine sA rfl ?_ ?_|refine s4 rfl ‹_› rfl ?_ ?_);first|exact tI|omega|(simp only[oZ] at *;omega))|(refine s2 rfl ?_;intro _ _hb)|(refine s3 rfl ?_ ?_<;>intro hb<;>subst hb)|refine aS ?_|refine reg (by kernel_rfl) ?_|refine lexE ?_)
    refine AWp.namesV [4] [] rfl rfl [] [(0,rdO b (p+1+1+1)),(1,.cells 26 3 [[.d (iD (z)),.arr 2 1 0 (l).length,.arr 3 1 0 (a.ac).length]]),(2,.cells 61 1 (rawR (l))),(3,.cells 4 1 ((a.ac).map bRowC)),(4,.sld 3 (sI (l)))] [0,1,2,3,4] (by first|(simp [hΓ];done)|(rw [hΓ];decide)) (by (repeat' (first|exact trivial|rfl|refine And.intro ?_ ?_))<;>(simp [EnvSub,StoreSub,look_cons,nm,nmo,E.ren,C.ren,C.renL,O.ren,Store.ren,killc,kill0,killL,kill,fillC,spliceC,eC,Function.comp_def,argsFrom,zC,hΓ,rawR_ren,cond_eq_ite,Nat.beq_eq,rawR_app,rawR_cons,spliceC,eC]<;>rfl)) ?_;(try dsimp only [List.cons_append,List.nil_append]);refine AWp.freezeZ [1,2,3,4] [(4,.o (.ip (auRow ⟨z,(l).map (·.2),a.ac⟩)))] ⟨⟨_,rfl,.inr (.o (.box rfl (.cons .d (.cons (.nst (s:=4) rfl rfl) (.cons (.full rfl (by simp [Function.comp_def]) (by simp)) .nil)))))⟩,trivial⟩ ?_;refine AWp.ret ⟨_,rfl,[0],eAut ⟨z,(l).map (·.2),a.ac⟩,[(0,rdO b (p+1+1+1))],⟨by intro i hi;match i with|0=>rfl,by decide⟩,rfl,by (repeat' (first|exact trivial|rfl|refine And.intro ?_ ?_))<;>(simp [EnvSub,StoreSub,look_cons,nm,nmo,E.ren,C.ren,C.renL,O.ren,Store.ren,killc,kill0,killL,kill,fillC,spliceC,eC,Function.comp_def,argsFrom,zC,hΓ,rawR_ren,cond_eq_ite,Nat.beq_eq]<;>rfl),_,⟨z,(l).map (·.2),a.ac⟩,by omega,hb0 _,rfl,rfl,rfl⟩
  (repeat first|refine sN rfl ?_|((first|refine sA rfl ?_ ?_|refine s4 rfl ‹_› rfl ?_ ?_);first|exact tI|omega|(simp only[oZ] at *;omega))|(refine s2 rfl ?_;intro _ _hb)|(refine s3 rfl ?_ ?_<;>intro hb<;>subst hb)|refine aS ?_|refine reg (by kernel_rfl) ?_|refine lexE ?_)
  (refine aC rfl ?_ ?_<;>intro hb<;>cases hb)
  · (repeat first|refine sN rfl ?_|((first|refine sA rfl ?_ ?_|refine s4 rfl ‹_› rfl ?_ ?_);first|exact tI|omega|(simp only[oZ] at *;omega))|(refine s2 rfl ?_;intro _ _hb)|(refine s3 rfl ?_ ?_<;>intro hb<;>subst hb)|refine aS ?_|refine reg (by kernel_rfl) ?_|refine lexE ?_)
    (refine popO rfl ?_;refine popW ?_ rfl (by rfl);refine n_append rfl rfl rfl (by first|(simp;done)|(simp;(first|omega|(simp only [oZ] at *;omega)))) rfl (by intro r hr;simp at hr;subst hr;rfl) (by rfl) (Nat.le_of_ble_eq_true rfl) (by simp;omega) ?_)
    (repeat first|refine sN rfl ?_|((first|refine sA rfl ?_ ?_|refine s4 rfl ‹_› rfl ?_ ?_);first|exact tI|omega|(simp only[oZ] at *;omega))|(refine s2 rfl ?_;intro _ _hb)|(refine s3 rfl ?_ ?_<;>intro hb<;>subst hb)|refine aS ?_|refine reg (by kernel_rfl) ?_|refine lexE ?_)
    refine AWp.namesV [4] [] rfl rfl [] [(0,rdO b (p+1+1)),(1,.cells 26 3 [[.d (iD (a.al)),.arr 2 1 0 (l).length,.arr 3 1 0 (a.ac++[true]).length]]),(2,.cells 61 1 (rawR (l))),(3,.cells 4 1 ((a.ac++[true]).map bRowC)),(4,.sld 3 (sI (l)))] [0,1,2,6,4] (by first|(simp [hΓ];done)|(rw [hΓ];decide)) (by (repeat' (first|exact trivial|rfl|refine And.intro ?_ ?_))<;>(simp [EnvSub,StoreSub,look_cons,nm,nmo,E.ren,C.ren,C.renL,O.ren,Store.ren,killc,kill0,killL,kill,fillC,spliceC,eC,Function.comp_def,argsFrom,zC,hΓ,rawR_ren,cond_eq_ite,Nat.beq_eq,rawR_app,rawR_cons,spliceC,eC]<;>rfl)) ?_;(try dsimp only [List.cons_append,List.nil_append]);refine AWp.freezeZ [1,2,3,4] [(4,.o (.ip (auRow ⟨a.al,(l).map (·.2),a.ac++[true]⟩)))] ⟨⟨_,rfl,.inr (.o (.box rfl (.cons .d (.cons (.nst (s:=4) rfl rfl) (.cons (.full rfl (by simp [Function.comp_def]) (by simp)) .nil)))))⟩,trivial⟩ ?_;refine AWp.ret ⟨_,rfl,[0],eAut ⟨a.al,(l).map (·.2),a.ac++[true]⟩,[(0,rdO b (p+1+1))],⟨by intro i hi;match i with|0=>rfl,by decide⟩,rfl,by (repeat' (first|exact trivial|rfl|refine And.intro ?_ ?_))<;>(simp [EnvSub,StoreSub,look_cons,nm,nmo,E.ren,C.ren,C.renL,O.ren,Store.ren,killc,kill0,killL,kill,fillC,spliceC,eC,Function.comp_def,argsFrom,zC,hΓ,rawR_ren,cond_eq_ite,Nat.beq_eq]<;>rfl),_,⟨a.al,(l).map (·.2),a.ac++[true]⟩,by omega,lst_bd (by omega) (by simp;omega) hin,rfl,rfl,rfl⟩
  (repeat first|refine sN rfl ?_|((first|refine sA rfl ?_ ?_|refine s4 rfl ‹_› rfl ?_ ?_);first|exact tI|omega|(simp only[oZ] at *;omega))|(refine s2 rfl ?_;intro _ _hb)|(refine s3 rfl ?_ ?_<;>intro hb<;>subst hb)|refine aS ?_|refine reg (by kernel_rfl) ?_|refine lexE ?_)
  (refine aC rfl ?_ ?_<;>intro hb<;>cases hb)
  · (repeat first|refine sN rfl ?_|((first|refine sA rfl ?_ ?_|refine s4 rfl ‹_› rfl ?_ ?_);first|exact tI|omega|(simp only[oZ] at *;omega))|(refine s2 rfl ?_;intro _ _hb)|(refine s3 rfl ?_ ?_<;>intro hb<;>subst hb)|refine aS ?_|refine reg (by kernel_rfl) ?_|refine lexE ?_)
    (refine aC rfl ?_ ?_<;>intro hb<;>cases hb)
    · obtain ⟨y,hy⟩:=get_some (l:=l) (k:=k.toNat) (by first|omega|(simp only [oZ] at *;omega));obtain ⟨hy1,hy2⟩:=nst_at hy;generalize l.take k.toNat=l1 at hy1 hy2;generalize l.drop (k.toNat+1)=l2 at hy1;subst hy1;obtain ⟨v0,xs⟩:=y;have hxm:xs.length≤m+14:=hin (v0,xs) (by simp);refine AWp.namesV [0,4,5,6,7,18] [] rfl rfl [] [(0,rdO b (p+1+1)),(1,.cells 26 3 [[.d (iD 0),.d (.l []),.d (.l [])]]),(2,.cells 61 1 (rawR l1++[.d (.v v0)]::rawR l2)),(3,.cells 4 1 (a.ac.map bRowC)),(4,.sld 3 (sI (l1++(v0,xs)::l2))),(5,.cells 26 3 [[.d (iD a.al),.arr 2 1 0 (l1++(v0,xs)::l2).length,.arr 3 1 0 a.ac.length]])] [0,1,2,3,4,5] (by first|(simp [hΓ];done)|(rw [hΓ];decide)) (by (repeat' (first|exact trivial|rfl|refine And.intro ?_ ?_))<;>(simp [EnvSub,StoreSub,look_cons,nm,nmo,E.ren,C.ren,C.renL,O.ren,Store.ren,killc,kill0,killL,kill,fillC,spliceC,eC,Function.comp_def,argsFrom,zC,hΓ,rawR_ren,cond_eq_ite,Nat.beq_eq,rawR_app,rawR_cons]<;>rfl)) ?_;(try dsimp only [List.cons_append,List.nil_append]);refine AWp.take 2 4 (rawR l1) (rawR l2) v0 xs l1 l2 rfl rfl ?_;have hrow:(rawR l1++[.arr 6 1 0 xs.length]::rawR l2)[0+k.toNat]? = some [.arr 6 1 0 xs.length]:=by (rw [Nat.zero_add];exact rawR_mid hy2)
      have hset:∀z,(rawR l1++[.arr 6 1 0 xs.length]::rawR l2).set k.toNat z=rawR l1++z::rawR l2:=fun z=>set_at (by rw [rawR_len,hy2])
      refine regD (flX [(1,15),(4,0),(7,0),(9,1032),(11,1)]) mixed (by kernel_rfl) (by kernel_rfl) ?_
      (repeat first|refine sN rfl ?_|((first|refine sA rfl ?_ ?_|refine s4 rfl ‹_› rfl ?_ ?_);first|exact tI|omega|(simp only[oZ] at *;omega))|(refine s2 rfl ?_;intro _ _hb)|(refine s3 rfl ?_ ?_<;>intro hb<;>subst hb))
      (refine popO rfl ?_;refine popWK ?_ rfl ⟨rfl,rfl⟩;refine n_append rfl rfl rfl (by simp) rfl (by intro r hr;simp at hr;subst hr;rfl) (by rfl) (Nat.le_of_ble_eq_true rfl) (by simp;omega) ?_;refine ⟨kept1 5 rfl rfl,?_⟩)
      (repeat first|refine sN rfl ?_|((first|refine sA rfl ?_ ?_|refine s4 rfl ‹_› rfl ?_ ?_);first|exact tI|omega|(simp only[oZ] at *;omega))|(refine s2 rfl ?_;intro _ _hb)|(refine s3 rfl ?_ ?_<;>intro hb<;>subst hb))
      refine lexE ?_
      refine AWp.namesV [4,5] [] rfl rfl [] [(0,rdO b (p+1+1)),(1,.cells 26 3 [[.d (iD 0),.d (.l []),.d (.l [])]]),(2,.cells 61 1 (rawR l1++[.arr 6 1 0 (xs++[0]).length]::rawR l2)),(3,.cells 4 1 (a.ac.map bRowC)),(4,.sld 3 (sI (l1++l2))),(5,.cells 26 3 [[.d (iD a.al),.arr 2 1 0 (l1++(v0,xs)::l2).length,.arr 3 1 0 a.ac.length]]),(6,.cells 3 1 ((xs++[0]).map iRowC))] [0,1,2,3,4,5,7] (by first|(simp [hΓ];done)|(rw [hΓ];decide)) (by (repeat' (first|exact trivial|rfl|refine And.intro ?_ ?_))<;>(simp [EnvSub,StoreSub,look_cons,nm,nmo,E.ren,C.ren,C.renL,O.ren,Store.ren,killc,kill0,killL,kill,fillC,spliceC,eC,Function.comp_def,argsFrom,zC,hΓ,rawR_ren,cond_eq_ite,Nat.beq_eq,spliceC,eC,hset]<;>rfl)) ?_;(try dsimp only [List.cons_append,List.nil_append])
      refine AWp.put 2 6 4 (rawR l1) (rawR l2) (xs++[0]) l1 l2 rfl rfl rfl fun v=>?_
      (repeat first|refine sN rfl ?_|((first|refine sA rfl ?_ ?_|refine s4 rfl ‹_› rfl ?_ ?_);first|exact tI|omega|(simp only[oZ] at *;omega))|(refine s2 rfl ?_;intro _ _hb)|(refine s3 rfl ?_ ?_<;>intro hb<;>subst hb)|refine aS ?_|refine reg (by kernel_rfl) ?_|refine lexE ?_)
      refine AWp.namesV [4] [] rfl rfl [] [(0,rdO b (p+1+1)),(1,.cells 26 3 [[.d (iD (a.al)),.arr 2 1 0 ((l1++(v,xs++[0])::l2)).length,.arr 3 1 0 (a.ac).length]]),(2,.cells 61 1 (rawR ((l1++(v,xs++[0])::l2)))),(3,.cells 4 1 ((a.ac).map bRowC)),(4,.sld 3 (sI ((l1++(v,xs++[0])::l2))))] [0,1,2,3,4] (by first|(simp [hΓ];done)|(rw [hΓ];decide)) (by (repeat' (first|exact trivial|rfl|refine And.intro ?_ ?_))<;>(simp [EnvSub,StoreSub,look_cons,nm,nmo,E.ren,C.ren,C.renL,O.ren,Store.ren,killc,kill0,killL,kill,fillC,spliceC,eC,Function.comp_def,argsFrom,zC,hΓ,rawR_ren,cond_eq_ite,Nat.beq_eq,rawR_app,rawR_cons]<;>rfl)) ?_;(try dsimp only [List.cons_append,List.nil_append]);refine AWp.freezeZ [1,2,3,4] [(4,.o (.ip (auRow ⟨a.al,((l1++(v,xs++[0])::l2)).map (·.2),a.ac⟩)))] ⟨⟨_,rfl,.inr (.o (.box rfl (.cons .d (.cons (.nst (s:=4) rfl rfl) (.cons (.full rfl (by simp [Function.comp_def]) (by simp)) .nil)))))⟩,trivial⟩ ?_;refine AWp.ret ⟨_,rfl,[0],eAut ⟨a.al,((l1++(v,xs++[0])::l2)).map (·.2),a.ac⟩,[(0,rdO b (p+1+1))],⟨by intro i hi;match i with|0=>rfl,by decide⟩,rfl,by (repeat' (first|exact trivial|rfl|refine And.intro ?_ ?_))<;>(simp [EnvSub,StoreSub,look_cons,nm,nmo,E.ren,C.ren,C.renL,O.ren,Store.ren,killc,kill0,killL,kill,fillC,spliceC,eC,Function.comp_def,argsFrom,zC,hΓ,rawR_ren,cond_eq_ite,Nat.beq_eq]<;>rfl),_,⟨a.al,((l1++(v,xs++[0])::l2)).map (·.2),a.ac⟩,by omega,lst_bd (by simp at hll ⊢;omega) (by omega) (mid_all hin (by have h9:xs.length≤m:=ha3 xs (by rw [←hl];simp);simp;omega)),rfl,rfl,rfl⟩
    · refine AWp.skip ?_
      (repeat first|refine sN rfl ?_|((first|refine sA rfl ?_ ?_|refine s4 rfl ‹_› rfl ?_ ?_);first|exact tI|omega|(simp only[oZ] at *;omega))|(refine s2 rfl ?_;intro _ _hb)|(refine s3 rfl ?_ ?_<;>intro hb<;>subst hb)|refine aS ?_|refine reg (by kernel_rfl) ?_|refine lexE ?_)
      refine AWp.namesV [4] [] rfl rfl [] [(0,rdO b (p+1+1)),(1,.cells 26 3 [[.d (iD (a.al)),.arr 2 1 0 (l).length,.arr 3 1 0 (a.ac).length]]),(2,.cells 61 1 (rawR (l))),(3,.cells 4 1 ((a.ac).map bRowC)),(4,.sld 3 (sI (l)))] [0,1,2,3,4] (by first|(simp [hΓ];done)|(rw [hΓ];decide)) (by (repeat' (first|exact trivial|rfl|refine And.intro ?_ ?_))<;>(simp [EnvSub,StoreSub,look_cons,nm,nmo,E.ren,C.ren,C.renL,O.ren,Store.ren,killc,kill0,killL,kill,fillC,spliceC,eC,Function.comp_def,argsFrom,zC,hΓ,rawR_ren,cond_eq_ite,Nat.beq_eq,rawR_app,rawR_cons]<;>rfl)) ?_;(try dsimp only [List.cons_append,List.nil_append]);refine AWp.freezeZ [1,2,3,4] [(4,.o (.ip (auRow ⟨a.al,(l).map (·.2),a.ac⟩)))] ⟨⟨_,rfl,.inr (.o (.box rfl (.cons .d (.cons (.nst (s:=4) rfl rfl) (.cons (.full rfl (by simp [Function.comp_def]) (by simp)) .nil)))))⟩,trivial⟩ ?_;refine AWp.ret ⟨_,rfl,[0],eAut ⟨a.al,(l).map (·.2),a.ac⟩,[(0,rdO b (p+1+1))],⟨by intro i hi;match i with|0=>rfl,by decide⟩,rfl,by (repeat' (first|exact trivial|rfl|refine And.intro ?_ ?_))<;>(simp [EnvSub,StoreSub,look_cons,nm,nmo,E.ren,C.ren,C.renL,O.ren,Store.ren,killc,kill0,killL,kill,fillC,spliceC,eC,Function.comp_def,argsFrom,zC,hΓ,rawR_ren,cond_eq_ite,Nat.beq_eq]<;>rfl),_,⟨a.al,(l).map (·.2),a.ac⟩,by omega,hb0 _,rfl,rfl,rfl⟩
  (repeat first|refine sN rfl ?_|((first|refine sA rfl ?_ ?_|refine s4 rfl ‹_› rfl ?_ ?_);first|exact tI|omega|(simp only[oZ] at *;omega))|(refine s2 rfl ?_;intro _ _hb)|(refine s3 rfl ?_ ?_<;>intro hb<;>subst hb)|refine aS ?_|refine reg (by kernel_rfl) ?_|refine lexE ?_)
  (refine aC rfl ?_ ?_<;>intro hb<;>cases hb)
  · by_cases hz:l.length=0
    · (repeat' first|refine sN rfl ?_|((first|refine sA rfl ?_ ?_|refine s4 rfl ‹_› rfl ?_ ?_);first|exact tI|omega|(simp only[oZ] at *;omega))|(refine s2 rfl ?_;intro _ _hb)|(refine s3 rfl ?_ ?_<;>intro hb<;>subst hb)|refine aS ?_|refine reg (by kernel_rfl) ?_|refine lexE ?_|(refine aC rfl ?_ ?_<;>intro hb<;>cases hb))
      all_goals first
        | (exfalso;first|omega|(simp only [oZ] at *;omega);done)
        | (refine AWp.skip ?_;(repeat first|refine sN rfl ?_|((first|refine sA rfl ?_ ?_|refine s4 rfl ‹_› rfl ?_ ?_);first|exact tI|omega|(simp only[oZ] at *;omega))|(refine s2 rfl ?_;intro _ _hb)|(refine s3 rfl ?_ ?_<;>intro hb<;>subst hb)|refine aS ?_|refine reg (by kernel_rfl) ?_|refine lexE ?_);refine AWp.namesV [4] [] rfl rfl [] [(0,rdO b (p+1+1)),(1,.cells 26 3 [[.d (iD (a.al)),.arr 2 1 0 (l).length,.arr 3 1 0 (a.ac).length]]),(2,.cells 61 1 (rawR (l))),(3,.cells 4 1 ((a.ac).map bRowC)),(4,.sld 3 (sI (l)))] [0,1,2,3,4] (by first|(simp [hΓ];done)|(rw [hΓ];decide)) (by (repeat' (first|exact trivial|rfl|refine And.intro ?_ ?_))<;>(simp [EnvSub,StoreSub,look_cons,nm,nmo,E.ren,C.ren,C.renL,O.ren,Store.ren,killc,kill0,killL,kill,fillC,spliceC,eC,Function.comp_def,argsFrom,zC,hΓ,rawR_ren,cond_eq_ite,Nat.beq_eq,rawR_app,rawR_cons]<;>rfl)) ?_;(try dsimp only [List.cons_append,List.nil_append]);refine AWp.freezeZ [1,2,3,4] [(4,.o (.ip (auRow ⟨a.al,(l).map (·.2),a.ac⟩)))] ⟨⟨_,rfl,.inr (.o (.box rfl (.cons .d (.cons (.nst (s:=4) rfl rfl) (.cons (.full rfl (by simp [Function.comp_def]) (by simp)) .nil)))))⟩,trivial⟩ ?_;refine AWp.ret ⟨_,rfl,[0],eAut ⟨a.al,(l).map (·.2),a.ac⟩,[(0,rdO b (p+1+1))],⟨by intro i hi;match i with|0=>rfl,by decide⟩,rfl,by (repeat' (first|exact trivial|rfl|refine And.intro ?_ ?_))<;>(simp [EnvSub,StoreSub,look_cons,nm,nmo,E.ren,C.ren,C.renL,O.ren,Store.ren,killc,kill0,killL,kill,fillC,spliceC,eC,Function.comp_def,argsFrom,zC,hΓ,rawR_ren,cond_eq_ite,Nat.beq_eq]<;>rfl),_,⟨a.al,(l).map (·.2),a.ac⟩,by omega,hb0 _,rfl,rfl,rfl⟩)
    · obtain ⟨y,hy⟩:=get_some (l:=l) (k:=k.toNat) (by first|omega|(simp only [oZ] at *;omega));obtain ⟨hy1,hy2⟩:=nst_at hy;generalize l.take k.toNat=l1 at hy1 hy2;generalize l.drop (k.toNat+1)=l2 at hy1;subst hy1;obtain ⟨v0,xs⟩:=y;have hxm:xs.length≤m+14:=hin (v0,xs) (by simp);refine AWp.namesV [0,4,5,6,7,18] [] rfl rfl [] [(0,rdO b (p+1+1)),(1,.cells 26 3 [[.d (iD 0),.d (.l []),.d (.l [])]]),(2,.cells 61 1 (rawR l1++[.d (.v v0)]::rawR l2)),(3,.cells 4 1 (a.ac.map bRowC)),(4,.sld 3 (sI (l1++(v0,xs)::l2))),(5,.cells 26 3 [[.d (iD a.al),.arr 2 1 0 (l1++(v0,xs)::l2).length,.arr 3 1 0 a.ac.length]])] [0,1,2,3,4,5] (by first|(simp [hΓ];done)|(rw [hΓ];decide)) (by (repeat' (first|exact trivial|rfl|refine And.intro ?_ ?_))<;>(simp [EnvSub,StoreSub,look_cons,nm,nmo,E.ren,C.ren,C.renL,O.ren,Store.ren,killc,kill0,killL,kill,fillC,spliceC,eC,Function.comp_def,argsFrom,zC,hΓ,rawR_ren,cond_eq_ite,Nat.beq_eq,rawR_app,rawR_cons]<;>rfl)) ?_;(try dsimp only [List.cons_append,List.nil_append]);refine AWp.take 2 4 (rawR l1) (rawR l2) v0 xs l1 l2 rfl rfl ?_;have hrow:(rawR l1++[.arr 6 1 0 xs.length]::rawR l2)[0+k.toNat]? = some [.arr 6 1 0 xs.length]:=by (rw [Nat.zero_add];exact rawR_mid hy2)
      (repeat' first|refine sN rfl ?_|((first|refine sA rfl ?_ ?_|refine s4 rfl ‹_› rfl ?_ ?_);first|exact tI|omega|(simp only[oZ] at *;omega))|(refine s2 rfl ?_;intro _ _hb)|(refine s3 rfl ?_ ?_<;>intro hb<;>subst hb)|refine aS ?_|refine reg (by kernel_rfl) ?_|refine lexE ?_|(refine aC rfl ?_ ?_<;>intro hb<;>cases hb))
      any_goals (refine AWp.skip ?_;refine AWp.put 2 6 4 (rawR l1) (rawR l2) xs l1 l2 rfl rfl rfl fun v=>?_;(repeat first|refine sN rfl ?_|((first|refine sA rfl ?_ ?_|refine s4 rfl ‹_› rfl ?_ ?_);first|exact tI|omega|(simp only[oZ] at *;omega))|(refine s2 rfl ?_;intro _ _hb)|(refine s3 rfl ?_ ?_<;>intro hb<;>subst hb)|refine aS ?_|refine reg (by kernel_rfl) ?_|refine lexE ?_);refine AWp.namesV [4] [] rfl rfl [] [(0,rdO b (p+1+1)),(1,.cells 26 3 [[.d (iD (a.al)),.arr 2 1 0 ((l1++(v,xs)::l2)).length,.arr 3 1 0 (a.ac).length]]),(2,.cells 61 1 (rawR ((l1++(v,xs)::l2)))),(3,.cells 4 1 ((a.ac).map bRowC)),(4,.sld 3 (sI ((l1++(v,xs)::l2))))] [0,1,2,3,4] (by first|(simp [hΓ];done)|(rw [hΓ];decide)) (by (repeat' (first|exact trivial|rfl|refine And.intro ?_ ?_))<;>(simp [EnvSub,StoreSub,look_cons,nm,nmo,E.ren,C.ren,C.renL,O.ren,Store.ren,killc,kill0,killL,kill,fillC,spliceC,eC,Function.comp_def,argsFrom,zC,hΓ,rawR_ren,cond_eq_ite,Nat.beq_eq,rawR_app,rawR_cons]<;>rfl)) ?_;(try dsimp only [List.cons_append,List.nil_append]);refine AWp.freezeZ [1,2,3,4] [(4,.o (.ip (auRow ⟨a.al,((l1++(v,xs)::l2)).map (·.2),a.ac⟩)))] ⟨⟨_,rfl,.inr (.o (.box rfl (.cons .d (.cons (.nst (s:=4) rfl rfl) (.cons (.full rfl (by simp [Function.comp_def]) (by simp)) .nil)))))⟩,trivial⟩ ?_;refine AWp.ret ⟨_,rfl,[0],eAut ⟨a.al,((l1++(v,xs)::l2)).map (·.2),a.ac⟩,[(0,rdO b (p+1+1))],⟨by intro i hi;match i with|0=>rfl,by decide⟩,rfl,by (repeat' (first|exact trivial|rfl|refine And.intro ?_ ?_))<;>(simp [EnvSub,StoreSub,look_cons,nm,nmo,E.ren,C.ren,C.renL,O.ren,Store.ren,killc,kill0,killL,kill,fillC,spliceC,eC,Function.comp_def,argsFrom,zC,hΓ,rawR_ren,cond_eq_ite,Nat.beq_eq]<;>rfl),_,⟨a.al,((l1++(v,xs)::l2)).map (·.2),a.ac⟩,by omega,lst_bd (by simp at hll ⊢;omega) (by omega) (mid_all hin hxm),rfl,rfl,rfl⟩)
      have hpos:0 < xs.length:=by first|omega|(simp only [oZ] at *;omega)
      obtain ⟨j,j0,j1,hj⟩:=pick_ok (TB:=TB) b hb (p+1+1) xs.length (by omega)
      obtain ⟨w,w1,hw⟩:=num_ok (TB:=TB) b hb (p+1+1+1) (by omega) [-1,((l1++(v0,xs)::l2).length:Int),((l1++(v0,xs)::l2).length:Int) - 1,0] (by simp) (by simp)
      obtain ⟨e,he⟩:=get_some (l:=xs) (k:=0+j.toNat) (by omega)
      have he':=get_map (g:=iRowC) he
      (refine popO rfl ?_;refine popW ?_ rfl (by rfl);refine n_call [0] rfl rfl (hj) ⟨rfl,by decide,by decide⟩ rfl (by simp [EnvSub,StoreSub,look_cons,nm,nmo,E.ren,C.ren,C.renL,O.ren,Store.ren,killc,kill0,killL,kill,fillC,spliceC,eC,Function.comp_def,argsFrom,zC,hΓ,rawR_ren,cond_eq_ite,Nat.beq_eq]) ?_;rintro x0 σ1 nx1 ⟨rfl,rfl,rfl⟩ _)
      (repeat first|refine sN rfl ?_|((first|refine sA rfl ?_ ?_|refine s4 rfl ‹_› rfl ?_ ?_);first|exact tI|omega|(simp only[oZ] at *;omega))|(refine s2 rfl ?_;intro _ _hb)|(refine s3 rfl ?_ ?_<;>intro hb<;>subst hb)|refine aS ?_|refine reg (by kernel_rfl) ?_|refine lexE ?_)
      refine regD (flX [(1,15),(4,12),(11,1036),(13,1)]) mixed (by kernel_rfl) (by kernel_rfl) ?_
      (repeat first|refine sN rfl ?_|((first|refine sA rfl ?_ ?_|refine s4 rfl ‹_› rfl ?_ ?_);first|exact tI|omega|(simp only[oZ] at *;omega))|(refine s2 rfl ?_;intro _ _hb)|(refine s3 rfl ?_ ?_<;>intro hb<;>subst hb))
      (refine popO rfl ?_;refine popWK ?_ rfl ⟨rfl,rfl⟩;refine n_call [0] rfl rfl (hw) ⟨rfl,by decide,by decide⟩ rfl (by simp [EnvSub,StoreSub,look_cons,nm,nmo,E.ren,C.ren,C.renL,O.ren,Store.ren,killc,kill0,killL,kill,fillC,spliceC,eC,Function.comp_def,argsFrom,zC,hΓ,rawR_ren,cond_eq_ite,Nat.beq_eq]) ?_;rintro x0 σ1 nx1 ⟨rfl,rfl,rfl⟩ _;refine ⟨kept2 5 2 rfl rfl rfl,?_⟩)
      (repeat first|refine sN rfl ?_|((first|refine sA rfl ?_ ?_|refine s4 rfl ‹_› rfl ?_ ?_);first|exact tI|omega|(simp only[oZ] at *;omega))|(refine s2 rfl ?_;intro _ _hb)|(refine s3 rfl ?_ ?_<;>intro hb<;>subst hb))
      refine lexE ?_
      refine AWp.namesV [4,5] [] rfl rfl [] [(0,rdO b (p+1+1+1+1)),(1,.cells 26 3 [[.d (iD 0),.d (.l []),.d (.l [])]]),(2,.cells 61 1 (rawR l1++[.arr 6 1 0 (xs.set j.toNat w).length]::rawR l2)),(3,.cells 4 1 (a.ac.map bRowC)),(4,.sld 3 (sI (l1++l2))),(5,.cells 26 3 [[.d (iD a.al),.arr 2 1 0 (l1++(v0,xs)::l2).length,.arr 3 1 0 a.ac.length]]),(6,.cells 3 1 ((xs.set j.toNat w).map iRowC))] [0,1,2,3,4,5,6] (by first|(simp [hΓ];done)|(rw [hΓ];decide)) (by (repeat' (first|exact trivial|rfl|refine And.intro ?_ ?_))<;>(simp [EnvSub,StoreSub,look_cons,nm,nmo,E.ren,C.ren,C.renL,O.ren,Store.ren,killc,kill0,killL,kill,fillC,spliceC,eC,Function.comp_def,argsFrom,zC,hΓ,rawR_ren,cond_eq_ite,Nat.beq_eq,spliceC,eC,List.map_set]<;>rfl)) ?_;(try dsimp only [List.cons_append,List.nil_append])
      refine AWp.put 2 6 4 (rawR l1) (rawR l2) (xs.set j.toNat w) l1 l2 rfl rfl rfl fun v=>?_
      (repeat first|refine sN rfl ?_|((first|refine sA rfl ?_ ?_|refine s4 rfl ‹_› rfl ?_ ?_);first|exact tI|omega|(simp only[oZ] at *;omega))|(refine s2 rfl ?_;intro _ _hb)|(refine s3 rfl ?_ ?_<;>intro hb<;>subst hb)|refine aS ?_|refine reg (by kernel_rfl) ?_|refine lexE ?_)
      refine AWp.namesV [4] [] rfl rfl [] [(0,rdO b (p+1+1+1+1)),(1,.cells 26 3 [[.d (iD (a.al)),.arr 2 1 0 ((l1++(v,xs.set j.toNat w)::l2)).length,.arr 3 1 0 (a.ac).length]]),(2,.cells 61 1 (rawR ((l1++(v,xs.set j.toNat w)::l2)))),(3,.cells 4 1 ((a.ac).map bRowC)),(4,.sld 3 (sI ((l1++(v,xs.set j.toNat w)::l2))))] [0,1,2,3,4] (by first|(simp [hΓ];done)|(rw [hΓ];decide)) (by (repeat' (first|exact trivial|rfl|refine And.intro ?_ ?_))<;>(simp [EnvSub,StoreSub,look_cons,nm,nmo,E.ren,C.ren,C.renL,O.ren,Store.ren,killc,kill0,killL,kill,fillC,spliceC,eC,Function.comp_def,argsFrom,zC,hΓ,rawR_ren,cond_eq_ite,Nat.beq_eq,rawR_app,rawR_cons]<;>rfl)) ?_;(try dsimp only [List.cons_append,List.nil_append]);refine AWp.freezeZ [1,2,3,4] [(4,.o (.ip (auRow ⟨a.al,((l1++(v,xs.set j.toNat w)::l2)).map (·.2),a.ac⟩)))] ⟨⟨_,rfl,.inr (.o (.box rfl (.cons .d (.cons (.nst (s:=4) rfl rfl) (.cons (.full rfl (by simp [Function.comp_def]) (by simp)) .nil)))))⟩,trivial⟩ ?_;refine AWp.ret ⟨_,rfl,[0],eAut ⟨a.al,((l1++(v,xs.set j.toNat w)::l2)).map (·.2),a.ac⟩,[(0,rdO b (p+1+1+1+1))],⟨by intro i hi;match i with|0=>rfl,by decide⟩,rfl,by (repeat' (first|exact trivial|rfl|refine And.intro ?_ ?_))<;>(simp [EnvSub,StoreSub,look_cons,nm,nmo,E.ren,C.ren,C.renL,O.ren,Store.ren,killc,kill0,killL,kill,fillC,spliceC,eC,Function.comp_def,argsFrom,zC,hΓ,rawR_ren,cond_eq_ite,Nat.beq_eq]<;>rfl),_,⟨a.al,((l1++(v,xs.set j.toNat w)::l2)).map (·.2),a.ac⟩,by omega,lst_bd (by simp at hll ⊢;omega) (by omega) (mid_all hin (by simp;omega)),rfl,rfl,rfl⟩
  (repeat first|refine sN rfl ?_|((first|refine sA rfl ?_ ?_|refine s4 rfl ‹_› rfl ?_ ?_);first|exact tI|omega|(simp only[oZ] at *;omega))|(refine s2 rfl ?_;intro _ _hb)|(refine s3 rfl ?_ ?_<;>intro hb<;>subst hb)|refine aS ?_|refine reg (by kernel_rfl) ?_|refine lexE ?_)
  (refine aC rfl ?_ ?_<;>intro hb<;>cases hb)
  · (repeat first|refine sN rfl ?_|((first|refine sX rfl ?_ ?_|refine s4 rfl ‹_› rfl ?_ ?_);first|exact tI|omega|(simp only[oZ] at *;omega))|(refine s2 rfl ?_;intro _ _hb)|(refine s3 rfl ?_ ?_<;>intro hb<;>subst hb)|refine aS ?_|refine reg (by kernel_rfl) ?_|refine lexE ?_)
    (refine popO rfl ?_;refine popW ?_ rfl (by rfl);refine n_sliceB rfl rfl rfl rfl (by simp) (by rfl) (by rfl) (by rfl) (by rfl) ?_)
    (repeat first|refine sN rfl ?_|((first|refine sX rfl ?_ ?_|refine s4 rfl ‹_› rfl ?_ ?_);first|exact tI|omega|(simp only[oZ] at *;omega))|(refine s2 rfl ?_;intro _ _hb)|(refine s3 rfl ?_ ?_<;>intro hb<;>subst hb)|refine aS ?_|refine reg (by kernel_rfl) ?_|refine lexE ?_)
    (refine popO rfl ?_;refine popW ?_ rfl (by rfl);refine n_sliceB rfl rfl rfl rfl (by simp) (by rfl) (by rfl) (by rfl) (by rfl) ?_)
    (repeat first|refine sN rfl ?_|((first|refine sA rfl ?_ ?_|refine s4 rfl ‹_› rfl ?_ ?_);first|exact tI|omega|(simp only[oZ] at *;omega))|(refine s2 rfl ?_;intro _ _hb)|(refine s3 rfl ?_ ?_<;>intro hb<;>subst hb))
    refine lexE ?_
    refine AWp.sld0 3 ?_
    (repeat first|refine sN rfl ?_|((first|refine sA rfl ?_ ?_|refine s4 rfl ‹_› rfl ?_ ?_);first|exact tI|omega|(simp only[oZ] at *;omega))|(refine s2 rfl ?_;intro _ _hb)|(refine s3 rfl ?_ ?_<;>intro hb<;>subst hb)|refine aS ?_|refine reg (by kernel_rfl) ?_|refine lexE ?_)
    refine AWp.namesV [4] [] rfl rfl [] [(0,rdO b (p+1+1)),(1,.cells 26 3 [[.d (iD (a.al)),.arr 2 1 0 (([]:Nst)).length,.arr 3 1 0 (([]:List Bool)).length]]),(2,.cells 61 1 (rawR (([]:Nst)))),(3,.cells 4 1 ((([]:List Bool)).map bRowC)),(4,.sld 3 (sI (([]:Nst))))] [0,1,6,7,8] (by first|(simp [hΓ];done)|(rw [hΓ];decide)) (by (repeat' (first|exact trivial|rfl|refine And.intro ?_ ?_))<;>(simp [EnvSub,StoreSub,look_cons,nm,nmo,E.ren,C.ren,C.renL,O.ren,Store.ren,killc,kill0,killL,kill,fillC,spliceC,eC,Function.comp_def,argsFrom,zC,hΓ,rawR_ren,cond_eq_ite,Nat.beq_eq,rawR_app,rawR_cons,spliceC,eC]<;>rfl)) ?_;(try dsimp only [List.cons_append,List.nil_append]);refine AWp.freezeZ [1,2,3,4] [(4,.o (.ip (auRow ⟨a.al,(([]:Nst)).map (·.2),([]:List Bool)⟩)))] ⟨⟨_,rfl,.inr (.o (.box rfl (.cons .d (.cons (.nst (s:=4) rfl rfl) (.cons (.full rfl (by simp [Function.comp_def]) (by simp)) .nil)))))⟩,trivial⟩ ?_;refine AWp.ret ⟨_,rfl,[0],eAut ⟨a.al,(([]:Nst)).map (·.2),([]:List Bool)⟩,[(0,rdO b (p+1+1))],⟨by intro i hi;match i with|0=>rfl,by decide⟩,rfl,by (repeat' (first|exact trivial|rfl|refine And.intro ?_ ?_))<;>(simp [EnvSub,StoreSub,look_cons,nm,nmo,E.ren,C.ren,C.renL,O.ren,Store.ren,killc,kill0,killL,kill,fillC,spliceC,eC,Function.comp_def,argsFrom,zC,hΓ,rawR_ren,cond_eq_ite,Nat.beq_eq]<;>rfl),_,⟨a.al,(([]:Nst)).map (·.2),([]:List Bool)⟩,by omega,lst_bd (by simp) (by simp) (by simp),rfl,rfl,rfl⟩
  (repeat first|refine sN rfl ?_|((first|refine sA rfl ?_ ?_|refine s4 rfl ‹_› rfl ?_ ?_);first|exact tI|omega|(simp only[oZ] at *;omega))|(refine s2 rfl ?_;intro _ _hb)|(refine s3 rfl ?_ ?_<;>intro hb<;>subst hb)|refine aS ?_|refine reg (by kernel_rfl) ?_|refine lexE ?_)
  (refine aC rfl ?_ ?_<;>intro hb<;>cases hb)
  · (repeat first|refine sN rfl ?_|((first|refine sA rfl ?_ ?_|refine s4 rfl ‹_› rfl ?_ ?_);first|exact tI|omega|(simp only[oZ] at *;omega))|(refine s2 rfl ?_;intro _ _hb)|(refine s3 rfl ?_ ?_<;>intro hb<;>subst hb)|refine aS ?_|refine reg (by kernel_rfl) ?_|refine lexE ?_)
    refine aB ?_
    refine AWp.loopV (α:={s:Nst×List Bool // (l.length≤s.1.length∧(l.length=0→s.1.length=0))∧(s.1.length≤l.length∨s.1.length≤13)∧s.2.length+l.length=a.ac.length+s.1.length∧∀x∈s.1,x.2.length≤m+14}) [4,5,6] [] rfl rfl (fun s=>[]) (fun s=>[(0,rdO b (p+1+1)),(1,.cells 26 3 [[.d (iD 0),.d (.l []),.d (.l [])]]),(2,.cells 61 1 (rawR s.1.1)),(3,.cells 4 1 (s.1.2.map bRowC)),(4,.sld 3 (sI s.1.1)),(5,.cells 26 3 [[.d (iD a.al),.arr 2 1 0 s.1.1.length,.arr 3 1 0 s.1.2.length]])]) 6 (fun s=>13 - s.1.1.length) (⟨⟨l,a.ac⟩,⟨⟨Nat.le_refl _,id⟩,.inl (Nat.le_refl _),rfl,hin⟩⟩) (List.range 6) (by first|(simp [hΓ];done)|(rw [hΓ];decide)) (by (repeat' (first|exact trivial|rfl|refine And.intro ?_ ?_))<;>(simp [EnvSub,StoreSub,look_cons,nm,nmo,E.ren,C.ren,C.renL,O.ren,Store.ren,killc,kill0,killL,kill,fillC,spliceC,eC,Function.comp_def,argsFrom,zC,hΓ,rawR_ren,cond_eq_ite,Nat.beq_eq]<;>rfl)) ?_;rintro ⟨⟨u,ac⟩,hu0,hu,hac,hux⟩;(try dsimp only [List.cons_append,List.nil_append])
    have hu0:l.length≤u.length∧(l.length=0→u.length=0):=hu0
    have hu:u.length≤l.length∨u.length≤13:=hu
    have hac:ac.length+l.length=a.ac.length+u.length:=hac
    (repeat' first|refine sN rfl ?_|((first|refine sA rfl ?_ ?_|refine s4 rfl ‹_› rfl ?_ ?_);first|exact tI|omega|(simp only[oZ] at *;omega))|(refine s2 rfl ?_;intro _ _hb)|(refine s3 rfl ?_ ?_<;>intro hb<;>subst hb)|refine aS ?_|refine reg (by kernel_rfl) ?_|refine lexE ?_|(refine aC rfl ?_ ?_<;>intro hb<;>cases hb))
    any_goals (refine AWp.exit ?_;(repeat first|refine sN rfl ?_|((first|refine sA rfl ?_ ?_|refine s4 rfl ‹_› rfl ?_ ?_);first|exact tI|omega|(simp only[oZ] at *;omega))|(refine s2 rfl ?_;intro _ _hb)|(refine s3 rfl ?_ ?_<;>intro hb<;>subst hb)|refine aS ?_|refine reg (by kernel_rfl) ?_|refine lexE ?_);refine AWp.namesV [4] [] rfl rfl [] [(0,rdO b (p+1+1)),(1,.cells 26 3 [[.d (iD (a.al)),.arr 2 1 0 (u).length,.arr 3 1 0 (ac).length]]),(2,.cells 61 1 (rawR (u))),(3,.cells 4 1 ((ac).map bRowC)),(4,.sld 3 (sI (u)))] [0,1,2,3,4] (by first|(simp [hΓ];done)|(rw [hΓ];decide)) (by (repeat' (first|exact trivial|rfl|refine And.intro ?_ ?_))<;>(simp [EnvSub,StoreSub,look_cons,nm,nmo,E.ren,C.ren,C.renL,O.ren,Store.ren,killc,kill0,killL,kill,fillC,spliceC,eC,Function.comp_def,argsFrom,zC,hΓ,rawR_ren,cond_eq_ite,Nat.beq_eq,rawR_app,rawR_cons]<;>rfl)) ?_;(try dsimp only [List.cons_append,List.nil_append]);refine AWp.freezeZ [1,2,3,4] [(4,.o (.ip (auRow ⟨a.al,(u).map (·.2),ac⟩)))] ⟨⟨_,rfl,.inr (.o (.box rfl (.cons .d (.cons (.nst (s:=4) rfl rfl) (.cons (.full rfl (by simp [Function.comp_def]) (by simp)) .nil)))))⟩,trivial⟩ ?_;refine AWp.ret ⟨_,rfl,[0],eAut ⟨a.al,(u).map (·.2),ac⟩,[(0,rdO b (p+1+1))],⟨by intro i hi;match i with|0=>rfl,by decide⟩,rfl,by (repeat' (first|exact trivial|rfl|refine And.intro ?_ ?_))<;>(simp [EnvSub,StoreSub,look_cons,nm,nmo,E.ren,C.ren,C.renL,O.ren,Store.ren,killc,kill0,killL,kill,fillC,spliceC,eC,Function.comp_def,argsFrom,zC,hΓ,rawR_ren,cond_eq_ite,Nat.beq_eq]<;>rfl),_,⟨a.al,(u).map (·.2),ac⟩,by omega,lst_bd (by omega) (by omega) hux,rfl,rfl,rfl⟩)
    have hl0:0 < l.length:=by first|omega|(simp only [oZ] at *;omega)
    have hpos:0 < u.length:=by omega
    obtain ⟨⟨v0,xs⟩,l2,rfl⟩:∃y l2,u=y::l2:=by
      cases u with
      | nil=>simp at hpos
      | cons y l2=>exact ⟨y,l2,rfl⟩
    have hxm:xs.length≤m+14:=hux (v0,xs) (by simp)
    have hu12:l2.length+1≤12:=by (simp at _hb;omega)
    refine AWp.skip ?_
    refine AWp.block ?_
    refine AWp.take 2 4 [] (rawR l2) v0 xs [] l2 rfl rfl ?_
    have hrow0:(([]:List (List C))++[.arr 6 1 0 xs.length]::rawR l2)[0+(0:Int).toNat]? = some [.arr 6 1 0 xs.length]:=rfl
    refine aS ?_
    refine regD ⟨flagOf [(1,15),(4,15),(6,12),(2,1036),(7,1036),(8,1036),(9,1),(11,1)],at0 [0,1,3,4,5,6,2,7,8,9,10,11]⟩ mixed (by kernel_rfl) (by kernel_rfl) ?_
    (repeat first|refine sN rfl ?_|((first|refine sX rfl ?_ ?_|refine s4 rfl ‹_› rfl ?_ ?_);first|exact tI|omega|(simp only[oZ] at *;omega))|(refine s2 rfl ?_;intro _ _hb)|(refine s3 rfl ?_ ?_<;>intro hb<;>subst hb)|refine aS ?_|refine reg (by kernel_rfl) ?_|refine lexE ?_)
    (refine popO rfl ?_;refine popWK ?_ rfl ⟨rfl,rfl⟩;refine n_sliceB rfl rfl rfl rfl (by simp) (by rfl) (by rfl) (by rfl) (by rfl) ?_;refine ⟨kept2 5 2 rfl rfl rfl,?_⟩)
    (refine popO rfl ?_;refine popWK ?_ rfl ⟨rfl,rfl⟩;refine n_append rfl rfl rfl (by simp) (srcFull rfl (by simp)) (by intro r hr;simp at hr;obtain ⟨_,_,rfl⟩:=hr;rfl) (by rfl) (Nat.le_of_ble_eq_true rfl) (by simp;omega) ?_;refine ⟨kept2 5 2 rfl rfl rfl,?_⟩)
    (refine popO rfl ?_;refine popWK ?_ rfl ⟨rfl,rfl⟩;refine n_sliceB rfl rfl rfl rfl (by simp [eC]) (by rfl) (by rfl) (by rfl) (by rfl) ?_;refine ⟨kept2 5 2 rfl rfl rfl,?_⟩)
    (refine popO rfl ?_;refine popW ?_ rfl (by rfl);refine n_append rfl rfl rfl (by simp [rawR_len]) rfl (by intro r hr;simp at hr;subst hr;rfl) (by rfl) (Nat.le_of_ble_eq_true rfl) (by simp;omega) ?_)
    (repeat first|refine sN rfl ?_|((first|refine sA rfl ?_ ?_|refine s4 rfl ‹_› rfl ?_ ?_);first|exact tI|omega|(simp only[oZ] at *;omega))|(refine s2 rfl ?_;intro _ _hb)|(refine s3 rfl ?_ ?_<;>intro hb<;>subst hb))
    refine lexE ?_
    refine AWp.namesV [4,5,6] [] rfl rfl [] [(0,rdO b (p+1+1)),(1,.cells 26 3 [[.d (iD 0),.d (.l []),.d (.l [])]]),(2,.cells 61 1 (([.arr 6 1 0 xs.length]::rawR l2)++[[.arr 7 1 0 xs.length]])),(3,.cells 4 1 (ac.map bRowC)),(4,.sld 3 (sI l2)),(5,.cells 26 3 [[.d (iD a.al),.arr 2 1 0 (l2.length+1+1),.arr 3 1 0 ac.length]]),(6,.cells 3 1 (xs.map iRowC)),(7,.cells 3 1 (xs.map iRowC))] [0,1,10,3,4,5,6,8] (by first|(simp [hΓ];done)|(rw [hΓ];decide)) (by (repeat' (first|exact trivial|rfl|refine And.intro ?_ ?_))<;>(simp [EnvSub,StoreSub,look_cons,nm,nmo,E.ren,C.ren,C.renL,O.ren,Store.ren,killc,kill0,killL,kill,fillC,spliceC,eC,Function.comp_def,argsFrom,zC,hΓ,rawR_ren,cond_eq_ite,Nat.beq_eq,rawR_app,spliceC,eC,rawR_len]<;>rfl)) ?_;(try dsimp only [List.cons_append,List.nil_append])
    refine AWp.put 2 7 4 ([.arr 6 1 0 xs.length]::rawR l2) [] xs l2 [] rfl rfl (by rw [List.append_nil];rfl) fun v1=>?_
    refine AWp.put 2 6 4 [] (rawR l2++[[.d (.v v1)]]) xs [] (l2++[(v1,xs)]) rfl rfl rfl fun v2=>?_
    (repeat first|refine sN rfl ?_|((first|refine sA rfl ?_ ?_|refine s4 rfl ‹_› rfl ?_ ?_);first|exact tI|omega|(simp only[oZ] at *;omega))|(refine s2 rfl ?_;intro _ _hb)|(refine s3 rfl ?_ ?_<;>intro hb<;>subst hb)|refine aS ?_|refine reg (by kernel_rfl) ?_|refine lexE ?_)
    (refine popO rfl ?_;refine popW ?_ rfl (by rfl);refine n_append rfl rfl rfl (by first|(simp;done)|(simp;(first|omega|(simp only [oZ] at *;omega)))) rfl (by intro r hr;simp at hr;subst hr;rfl) (by rfl) (Nat.le_of_ble_eq_true rfl) (by simp at hac ⊢;omega) ?_)
    (repeat first|refine sN rfl ?_|((first|refine sA rfl ?_ ?_|refine s4 rfl ‹_› rfl ?_ ?_);first|exact tI|omega|(simp only[oZ] at *;omega))|(refine s2 rfl ?_;intro _ _hb)|(refine s3 rfl ?_ ?_<;>intro hb<;>subst hb)|refine aS ?_|refine reg (by kernel_rfl) ?_|refine lexE ?_)
    have hux2:∀x∈(v2,xs)::(l2++[(v1,xs)]),x.2.length≤m+14:=fun x hx=>by
      simp only [List.mem_cons,List.mem_append,List.not_mem_nil,or_false] at hx
      rcases hx with rfl|hx|rfl
      · exact hxm
      · exact hux x (by simp [hx])
      · exact hxm
    have g1:l.length≤l2.length+1:=by simpa using hu0.1
    have g3:ac.length+l.length=a.ac.length+(l2.length+1):=by simpa using hac
    refine ⟨⟨⟨(v2,xs)::(l2++[(v1,xs)]),ac++[false]⟩,⟨by simp;omega,fun h9=>by omega⟩,.inr (by simp;omega),by simp;omega,hux2⟩,by dsimp only;(first|omega|(simp only [oZ] at *;omega)),[0,1,2,8,4,5],?_⟩
    (simp [EnvSub,StoreSub,look_cons,nm,nmo,E.ren,C.ren,C.renL,O.ren,Store.ren,killc,kill0,killL,kill,fillC,spliceC,eC,Function.comp_def,argsFrom,zC,hΓ,rawR_ren,cond_eq_ite,Nat.beq_eq,rawR_app,rawR_cons,spliceC,eC]<;>rfl)
  refine AWp.skip ?_
  (repeat first|refine sN rfl ?_|((first|refine sA rfl ?_ ?_|refine s4 rfl ‹_› rfl ?_ ?_);first|exact tI|omega|(simp only[oZ] at *;omega))|(refine s2 rfl ?_;intro _ _hb)|(refine s3 rfl ?_ ?_<;>intro hb<;>subst hb)|refine aS ?_|refine reg (by kernel_rfl) ?_|refine lexE ?_)
  refine AWp.namesV [4] [] rfl rfl [] [(0,rdO b (p+1+1)),(1,.cells 26 3 [[.d (iD (a.al)),.arr 2 1 0 (l).length,.arr 3 1 0 (a.ac).length]]),(2,.cells 61 1 (rawR (l))),(3,.cells 4 1 ((a.ac).map bRowC)),(4,.sld 3 (sI (l)))] [0,1,2,3,4] (by first|(simp [hΓ];done)|(rw [hΓ];decide)) (by (repeat' (first|exact trivial|rfl|refine And.intro ?_ ?_))<;>(simp [EnvSub,StoreSub,look_cons,nm,nmo,E.ren,C.ren,C.renL,O.ren,Store.ren,killc,kill0,killL,kill,fillC,spliceC,eC,Function.comp_def,argsFrom,zC,hΓ,rawR_ren,cond_eq_ite,Nat.beq_eq,rawR_app,rawR_cons]<;>rfl)) ?_;(try dsimp only [List.cons_append,List.nil_append]);refine AWp.freezeZ [1,2,3,4] [(4,.o (.ip (auRow ⟨a.al,(l).map (·.2),a.ac⟩)))] ⟨⟨_,rfl,.inr (.o (.box rfl (.cons .d (.cons (.nst (s:=4) rfl rfl) (.cons (.full rfl (by simp [Function.comp_def]) (by simp)) .nil)))))⟩,trivial⟩ ?_;refine AWp.ret ⟨_,rfl,[0],eAut ⟨a.al,(l).map (·.2),a.ac⟩,[(0,rdO b (p+1+1))],⟨by intro i hi;match i with|0=>rfl,by decide⟩,rfl,by (repeat' (first|exact trivial|rfl|refine And.intro ?_ ?_))<;>(simp [EnvSub,StoreSub,look_cons,nm,nmo,E.ren,C.ren,C.renL,O.ren,Store.ren,killc,kill0,killL,kill,fillC,spliceC,eC,Function.comp_def,argsFrom,zC,hΓ,rawR_ren,cond_eq_ite,Nat.beq_eq]<;>rfl),_,⟨a.al,(l).map (·.2),a.ac⟩,by omega,hb0 _,rfl,rfl,rfl⟩
end Go.Am
namespace Go.Am
open Go Go.Proofs
set_option maxHeartbeats 1000000
attribute [local irreducible] QOp AOp Lex LexO AWp Spec
variable {TB:List (Nat×Obj)}
theorem l3Big_ok (b:List UInt8) (hb:b.length≤2000) (p:Int) (h0:0≤p∧p < 900000000):Spec Tryz.prog TB 91 [(0,rdO b p)] 1 [.o (.ptr 0 2 0 0)] (DrawPost b p 30 (fun a'=>ABd 12 a')):=by
  refine SpecK.toSpec (SpecK.ren (SpecK.ofG (Nat.le_refl _) Tryz.func91 rfl (by kernel_rfl) (Nat.le_of_ble_eq_true rfl) ?_));intro Γ hΓ
  (repeat first|refine sN rfl ?_|((first|refine sA rfl ?_ ?_|refine s4 rfl ‹_› rfl ?_ ?_);first|exact tI|omega|(simp only[oZ] at *;omega))|(refine s2 rfl ?_;intro _ _hb)|(refine s3 rfl ?_ ?_<;>intro hb<;>subst hb)|refine aS ?_|refine reg (by kernel_rfl) ?_|refine lexE ?_)
  (refine popO rfl ?_;refine popW ?_ rfl (by rfl);refine n_buildN2 1 1 61 2 1 4 rfl rfl (by decide) rfl rfl (by rfl) (by rfl) ?_)
  (repeat first|refine sN rfl ?_|((first|refine sA rfl ?_ ?_|refine s4 rfl ‹_› rfl ?_ ?_);first|exact tI|omega|(simp only[oZ] at *;omega))|(refine s2 rfl ?_;intro _ _hb)|(refine s3 rfl ?_ ?_<;>intro hb<;>subst hb)|refine aS ?_|refine reg (by kernel_rfl) ?_|refine lexE ?_)
  refine aB ?_
  refine AWp.sld0 3 ?_
  refine AWp.loopV (α:={s:Nat×Int×Nst×List Bool // s.1≤12∧(p≤s.2.1∧s.2.1≤p+2*s.1)∧s.2.2.1.length=s.1∧s.2.2.2.length=s.1∧∀x∈s.2.2.1,x.2.length≤12}) [0,2,3] [1] rfl rfl (fun s=>[(4,eI .i64 s.1.1)]) (fun s=>[(0,rdO b s.1.2.1),(2,.cells 61 1 (rawR s.1.2.2.1)),(3,.cells 4 1 (s.1.2.2.2.map bRowC)),(4,.cells 26 3 [[.d (iD 3),.arr 2 1 0 s.1.2.2.1.length,.arr 3 1 0 s.1.2.2.2.length]]),(5,.sld 3 (sI s.1.2.2.1))]) 6 (fun s=>12 - s.1.1) (⟨⟨0,p,[],[]⟩,by simp⟩) (List.range 6) (by first|(simp [hΓ];done)|(rw [hΓ];decide)) (by (repeat' (first|exact trivial|rfl|refine And.intro ?_ ?_))<;>(simp [EnvSub,StoreSub,look_cons,nm,nmo,E.ren,C.ren,C.renL,O.ren,Store.ren,killc,kill0,killL,kill,fillC,spliceC,eC,Function.comp_def,argsFrom,zC,hΓ]<;>rfl)) ?_;rintro ⟨⟨k,q,l,ac⟩,hk,hq,hl,hac,hx⟩;(try dsimp only [List.cons_append,List.nil_append])
  have hk:k≤12:=hk
  have hq:p≤q∧q≤p+2*k:=hq
  have hl:l.length=k:=hl
  have hac:ac.length=k:=hac
  (repeat first|refine sN rfl ?_|((first|refine sA rfl ?_ ?_|refine s4 rfl ‹_› rfl ?_ ?_);first|exact tI|omega|(simp only[oZ] at *;omega))|(refine s2 rfl ?_;intro _ _hb)|(refine s3 rfl ?_ ?_<;>intro hb<;>subst hb)|refine aS ?_|refine reg (by kernel_rfl) ?_|refine lexE ?_)
  ((refine aC rfl ?_ ?_<;>intro hb<;>cases hb);all_goals try (simp at _hb;done))
  · have hlt:k < 12:=by first|omega|(simp only [oZ] at *;omega)
    obtain ⟨w,w1,hw⟩:=num_ok (TB:=TB) b hb q (by omega) [(k:Int),0,11] (by simp) (by simp)
    obtain ⟨c,c0,c1,hc⟩:=pick_ok (TB:=TB) b hb (q+1) 5 (by omega)
    refine AWp.skip ?_
    refine AWp.seq (AWp.block ?_)
    refine aS ?_
    refine regD (flX [(1,14),(8,1016),(9,1016),(10,1016),(11,1),(13,1)]) mixed (by kernel_rfl) (by kernel_rfl) ?_
    (repeat first|refine sN rfl ?_|((first|refine sA rfl ?_ ?_|refine s4 rfl ‹_› rfl ?_ ?_);first|exact tI|omega|(simp only[oZ] at *;omega))|(refine s2 rfl ?_;intro _ _hb)|(refine s3 rfl ?_ ?_<;>intro hb<;>subst hb))
    (refine popO rfl ?_;refine popWK ?_ rfl ⟨rfl,rfl⟩;refine n_call [0] rfl rfl (hw) ⟨rfl,by decide,by decide⟩ rfl (by simp [EnvSub,StoreSub,look_cons,nm,nmo,E.ren,C.ren,C.renL,O.ren,Store.ren,killc,kill0,killL,kill,fillC,spliceC,eC,Function.comp_def,argsFrom,zC,hΓ,rawR_ren,cond_eq_ite,Nat.beq_eq]) ?_;rintro x0 σ1 nx1 ⟨rfl,rfl,rfl⟩ _;refine ⟨kept1 4 rfl rfl,?_⟩)
    (refine popO rfl ?_;refine popWK ?_ rfl ⟨rfl,rfl⟩;refine n_sliceB rfl rfl rfl rfl (by simp [eC,E.ren,C.ren]) (by rfl) (by rfl) (by rfl) (by rfl) ?_;refine ⟨kept1 4 rfl rfl,?_⟩)
    (refine popO rfl ?_;refine popWK ?_ rfl ⟨rfl,rfl⟩;refine n_sliceB rfl rfl rfl rfl (by simp [eC,E.ren,C.ren]) (by rfl) (by rfl) (by rfl) (by rfl) ?_;refine ⟨kept1 4 rfl rfl,?_⟩)
    (refine popO rfl ?_;refine popW ?_ rfl (by rfl);refine n_append rfl rfl rfl (rawR_len _) rfl (by intro r hr;simp at hr;subst hr;rfl) (by rfl) (Nat.le_of_ble_eq_true rfl) (by simp;omega) ?_)
    (repeat first|refine sN rfl ?_|((first|refine sA rfl ?_ ?_|refine s4 rfl ‹_› rfl ?_ ?_);first|exact tI|omega|(simp only[oZ] at *;omega))|(refine s2 rfl ?_;intro _ _hb)|(refine s3 rfl ?_ ?_<;>intro hb<;>subst hb))
    refine lexE ?_
    refine AWp.putEnd 8 6 5 l [((k:Int)+1) % 12,w] rfl rfl rfl fun v=>?_
    have hx2:∀x∈l++[(v,[((k:Int)+1) % 12,w])],x.2.length≤12:=fun x hm=>by
      rcases List.mem_append.1 hm with hm|hm
      · exact hx x hm
      · simp at hm;subst hm;simp
    refine regD (flX [(1,14),(6,1016),(10,1),(12,1)]) mixed (by kernel_rfl) (by kernel_rfl) ?_
    (repeat' first|refine sN rfl ?_|((first|refine sA rfl ?_ ?_|refine s4 rfl ‹_› rfl ?_ ?_);first|exact tI|omega|(simp only[oZ] at *;omega))|(refine s2 rfl ?_;intro _ _hb)|(refine s3 rfl ?_ ?_<;>intro hb<;>subst hb))
    · (refine popO rfl ?_;refine popW ?_ rfl (by rfl);refine n_append rfl rfl rfl (by first|(simp;done)|(simp;(first|omega|(simp only [oZ] at *;omega)))) rfl (by intro r hr;simp at hr;subst hr;rfl) (by rfl) (Nat.le_of_ble_eq_true rfl) (by simp;omega) ?_)
      (repeat first|refine sN rfl ?_|((first|refine sA rfl ?_ ?_|refine s4 rfl ‹_› rfl ?_ ?_);first|exact tI|omega|(simp only[oZ] at *;omega))|(refine s2 rfl ?_;intro _ _hb)|(refine s3 rfl ?_ ?_<;>intro hb<;>subst hb)|refine aS ?_|refine reg (by kernel_rfl) ?_|refine lexE ?_)
      refine ⟨⟨⟨k+1,q+1,l++[(v,[((k:Int)+1) % 12,w])],ac++[true]⟩,by dsimp only;omega,by dsimp only;omega,by simp;omega,by simp;omega,hx2⟩,by dsimp only;(first|omega|(simp only [oZ] at *;omega)),[0,1,8,9,4,5],?_⟩
      (simp [EnvSub,StoreSub,look_cons,nm,nmo,E.ren,C.ren,C.renL,O.ren,Store.ren,killc,kill0,killL,kill,fillC,spliceC,eC,Function.comp_def,argsFrom,zC,hΓ,rawR_ren,cond_eq_ite,Nat.beq_eq]<;>rfl)
    · (refine popO rfl ?_;refine popWK ?_ rfl ⟨rfl,rfl⟩;refine n_call [0] rfl rfl (hc) ⟨rfl,by decide,by decide⟩ rfl (by simp [EnvSub,StoreSub,look_cons,nm,nmo,E.ren,C.ren,C.renL,O.ren,Store.ren,killc,kill0,killL,kill,fillC,spliceC,eC,Function.comp_def,argsFrom,zC,hΓ,rawR_ren,cond_eq_ite,Nat.beq_eq]) ?_;rintro x0 σ1 nx1 ⟨rfl,rfl,rfl⟩ _;refine ⟨kept1 4 rfl rfl,?_⟩)
      (repeat first|refine sN rfl ?_|((first|refine sA rfl ?_ ?_|refine s4 rfl ‹_› rfl ?_ ?_);first|exact tI|omega|(simp only[oZ] at *;omega))|(refine s2 rfl ?_;intro _ _hb)|(refine s3 rfl ?_ ?_<;>intro hb<;>subst hb))
      (refine popO rfl ?_;refine popW ?_ rfl (by rfl);refine n_append rfl rfl rfl (by first|(simp;done)|(simp;(first|omega|(simp only [oZ] at *;omega)))) rfl (by intro r hr;simp at hr;subst hr;rfl) (by rfl) (Nat.le_of_ble_eq_true rfl) (by simp;omega) ?_)
      (repeat first|refine sN rfl ?_|((first|refine sA rfl ?_ ?_|refine s4 rfl ‹_› rfl ?_ ?_);first|exact tI|omega|(simp only[oZ] at *;omega))|(refine s2 rfl ?_;intro _ _hb)|(refine s3 rfl ?_ ?_<;>intro hb<;>subst hb)|refine aS ?_|refine reg (by kernel_rfl) ?_|refine lexE ?_)
      subst _hb
      refine ⟨⟨⟨k+1,q+1+1,l++[(v,[((k:Int)+1) % 12,w])],ac++[decide (c=0)]⟩,by dsimp only;omega,by dsimp only;omega,by simp;omega,by simp;omega,hx2⟩,by dsimp only;(first|omega|(simp only [oZ] at *;omega)),[0,1,8,9,4,5],?_⟩
      (simp [EnvSub,StoreSub,look_cons,nm,nmo,E.ren,C.ren,C.renL,O.ren,Store.ren,killc,kill0,killL,kill,fillC,spliceC,eC,Function.comp_def,argsFrom,zC,hΓ,rawR_ren,cond_eq_ite,Nat.beq_eq]<;>rfl)
  · refine AWp.exit ?_
    (repeat first|refine sN rfl ?_|((first|refine sA rfl ?_ ?_|refine s4 rfl ‹_› rfl ?_ ?_);first|exact tI|omega|(simp only[oZ] at *;omega))|(refine s2 rfl ?_;intro _ _hb)|(refine s3 rfl ?_ ?_<;>intro hb<;>subst hb)|refine aS ?_|refine reg (by kernel_rfl) ?_|refine lexE ?_)
    refine AWp.namesV [2] [] rfl rfl [] [(0,rdO b q),(1,.cells 26 3 [[.d (iD 3),.arr 2 1 0 l.length,.arr 3 1 0 ac.length]]),(2,.cells 61 1 (rawR l)),(3,.cells 4 1 (ac.map bRowC)),(4,.sld 3 (sI l))] [0,1,2,3,5] (by first|(simp [hΓ];done)|(rw [hΓ];decide)) (by (repeat' (first|exact trivial|rfl|refine And.intro ?_ ?_))<;>(simp [EnvSub,StoreSub,look_cons,nm,nmo,E.ren,C.ren,C.renL,O.ren,Store.ren,killc,kill0,killL,kill,fillC,spliceC,eC,Function.comp_def,argsFrom,zC,hΓ,rawR_ren,cond_eq_ite,Nat.beq_eq,spliceC,eC]<;>rfl)) ?_;(try dsimp only [List.cons_append,List.nil_append])
    refine AWp.freezeZ [1,2,3,4] [(2,.o (.ip (auRow ⟨3,l.map (·.2),ac⟩)))] ⟨⟨_,rfl,.inr (.o (.box rfl (.cons .d (.cons (.nst (s:=4) rfl rfl) (.cons (.full rfl (by simp [Function.comp_def]) (by simp)) .nil)))))⟩,trivial⟩ ?_
    refine AWp.ret ⟨_,rfl,[0],eAut ⟨3,l.map (·.2),ac⟩,[(0,rdO b q)],⟨by intro i hi;match i with|0=>rfl,by decide⟩,rfl,by (repeat' (first|exact trivial|rfl|refine And.intro ?_ ?_))<;>(simp [EnvSub,StoreSub,look_cons,nm,nmo,E.ren,C.ren,C.renL,O.ren,Store.ren,killc,kill0,killL,kill,fillC,spliceC,eC,Function.comp_def,argsFrom,zC,hΓ,rawR_ren,cond_eq_ite,Nat.beq_eq]<;>rfl),_,⟨3,l.map (·.2),ac⟩,by omega,lst_bd (by omega) (by omega) hx,rfl,rfl,rfl⟩
end Go.Am
namespace Go.Am
open Go Go.Proofs
set_option maxHeartbeats 1000000
attribute [local irreducible] QOp AOp Lex LexO AWp Spec
variable {TB:List (Nat×Obj)}
theorem letterByte_ok (n:Int) (h0:0≤n) (h1:n < 128):Pure Tryz.prog TB 84 [eI .i64 n] (eI .u8 (97+n)):=by
  refine eN Tryz.func84 rfl (by kernel_rfl) rfl ?_;intro Γ hΓ
  (repeat' first|refine sN rfl ?_|((first|refine sA rfl ?_ ?_|refine s4 rfl ‹_› rfl ?_ ?_);first|exact tI|omega|(simp only[oZ] at *;omega))|(refine s2 rfl ?_;intro _ _hb)|(refine s3 rfl ?_ ?_<;>intro hb<;>subst hb)|refine aS ?_|refine reg (by kernel_rfl) ?_|refine lexE ?_|refine rD (by kernel_rfl) (by kernel_rfl) ?_|(refine aC rfl ?_ ?_<;>intro hb<;>cases hb)|refine aK ?_|refine aE ?_|refine aB ?_|refine AWp.ret ⟨_,rfl,?_⟩)
  rfl
theorem l1Text_ok (n:Int) (h0:0≤n) (h1:n < 128):Pure Tryz.prog TB 64 [eI .i64 n] (eT [UInt8.ofNat (97+n.toNat)]):=by
  refine eN Tryz.func64 rfl (by kernel_rfl) rfl ?_;intro Γ hΓ
  (repeat first|refine sN rfl ?_|((first|refine sA rfl ?_ ?_|refine s4 rfl ‹_› rfl ?_ ?_);first|exact tI|omega|(simp only[oZ] at *;omega))|(refine s2 rfl ?_;intro _ _hb)|(refine s3 rfl ?_ ?_<;>intro hb<;>subst hb)|refine aS ?_|refine reg (by kernel_rfl) ?_|refine lexE ?_|refine rD (by kernel_rfl) (by kernel_rfl) ?_)
  (refine popO rfl ?_;refine popS (fun _ _=>q_textL [UInt8.ofNat (97+n.toNat)] rfl (by
    have h2:(97+n.toNat) % 256=97+n.toNat:=Nat.mod_eq_of_lt (by omega)
    have h3:(97+n:Int)=((97+n.toNat:Nat):Int):=by omega
    simp [byD,h2,h3])) rfl ?_)
  (repeat first|refine sN rfl ?_|((first|refine sA rfl ?_ ?_|refine s4 rfl ‹_› rfl ?_ ?_);first|exact tI|omega|(simp only[oZ] at *;omega))|(refine s2 rfl ?_;intro _ _hb)|(refine s3 rfl ?_ ?_<;>intro hb<;>subst hb)|refine aS ?_|refine reg (by kernel_rfl) ?_|refine lexE ?_|refine rD (by kernel_rfl) (by kernel_rfl) ?_)
  refine AWp.ret ⟨_,rfl,?_⟩
  rfl
theorem l1Place_ok (s n:Int) (h0:0≤n) (h1:n < 64):Pure Tryz.prog TB 155 [eI .i64 s,eI .i64 n] (eI .i64 (lettersTo s n.toNat).length):=by
  refine eN Tryz.func155 rfl (by kernel_rfl) rfl ?_;intro Γ hΓ
  (repeat first|refine sN rfl ?_|((first|refine sM rfl ?_ ?_|refine s4 rfl ‹_› rfl ?_ ?_);first|exact tI|omega|(simp only[oZ] at *;omega))|(refine s2 rfl ?_;intro _ _hb)|(refine s3 rfl ?_ ?_<;>intro hb<;>subst hb)|refine aS ?_|refine reg (by kernel_rfl) ?_|refine lexE ?_|refine rD (by kernel_rfl) (by kernel_rfl) ?_)
  refine AWp.block ?_
  refine AWp.loopL (α:={k:Nat // k≤n.toNat}) (fun ⟨k,hk⟩=>[(0,eI .i64 s),(1,eI .i64 n),(5,eI .i64 (lettersTo s k).length),(6,eI .i64 k)]) (fun ⟨k,hk⟩=>[]) 0 (fun ⟨k,hk⟩=>n.toNat - k) (⟨0,by omega⟩) [] (by first|(simp [hΓ];done)|(rw [hΓ];decide)) (by (repeat' (first|exact trivial|rfl|refine And.intro ?_ ?_))<;>simp [EnvSub,StoreSub,look_cons,nm,E.ren,C.ren,C.renL,O.ren,killc,kill0,Function.comp_def,argsFrom,zC,hΓ]) ?_;rintro ⟨k,hk⟩;(try dsimp only)
  (repeat first|refine sN rfl ?_|((first|refine sM rfl ?_ ?_|refine s4 rfl ‹_› rfl ?_ ?_);first|exact tI|omega|(simp only[oZ] at *;omega))|(refine s2 rfl ?_;intro _ _hb)|(refine s3 rfl ?_ ?_<;>intro hb<;>subst hb)|refine aS ?_|refine reg (by kernel_rfl) ?_|refine lexE ?_|refine rD (by kernel_rfl) (by kernel_rfl) ?_)
  (refine aC rfl ?_ ?_<;>intro hb<;>cases hb)
  · have hlt:k < n.toNat:=by have:=of_decide_eq_true _hb;omega
    refine AWp.skip ?_
    refine AWp.seq (AWp.block ?_)
    (repeat first|refine sN rfl ?_|((first|refine sM rfl ?_ ?_|refine s4 rfl ‹_› rfl ?_ ?_);first|exact tI|omega|(simp only[oZ] at *;omega))|(refine s2 rfl ?_;intro _ _hb)|(refine s3 rfl ?_ ?_<;>intro hb<;>subst hb)|refine aS ?_|refine reg (by kernel_rfl) ?_|refine lexE ?_|refine rD (by kernel_rfl) (by kernel_rfl) ?_)
    (refine popO rfl ?_;refine popB (fun _ _=>q_call rfl rfl rfl (l1Has_ok _ _ (by omega) (by omega)) rfl) rfl ?_;intro _ _hb)
    (repeat first|refine sN rfl ?_|((first|refine sM rfl ?_ ?_|refine s4 rfl ‹_› rfl ?_ ?_);first|exact tI|omega|(simp only[oZ] at *;omega))|(refine s2 rfl ?_;intro _ _hb)|(refine s3 rfl ?_ ?_<;>intro hb<;>subst hb)|refine aS ?_|refine reg (by kernel_rfl) ?_|refine lexE ?_|refine rD (by kernel_rfl) (by kernel_rfl) ?_)
    have hs:=lettersTo_succ s k
    have hl:=lettersTo_len s k
    (refine aC rfl ?_ ?_<;>intro hb<;>cases hb)
    · (repeat first|refine sN rfl ?_|((first|refine sM rfl ?_ ?_|refine s4 rfl ‹_› rfl ?_ ?_);first|exact tI|omega|(simp only[oZ] at *;omega))|(refine s2 rfl ?_;intro _ _hb)|(refine s3 rfl ?_ ?_<;>intro hb<;>subst hb)|refine aS ?_|refine reg (by kernel_rfl) ?_|refine lexE ?_|refine rD (by kernel_rfl) (by kernel_rfl) ?_)
      refine ⟨⟨k+1,by omega⟩,by dsimp only;(first|omega|(simp only [oZ] at *;omega)),[],?_⟩
      rw [if_pos (by simpa using _hb)] at hs
      simp [EnvSub,StoreSub,look_cons,nm,E.ren,C.ren,C.renL,O.ren,killc,kill0,Function.comp_def,argsFrom,zC,hΓ,hs]
    · refine AWp.skip ?_
      (repeat first|refine sN rfl ?_|((first|refine sM rfl ?_ ?_|refine s4 rfl ‹_› rfl ?_ ?_);first|exact tI|omega|(simp only[oZ] at *;omega))|(refine s2 rfl ?_;intro _ _hb)|(refine s3 rfl ?_ ?_<;>intro hb<;>subst hb)|refine aS ?_|refine reg (by kernel_rfl) ?_|refine lexE ?_|refine rD (by kernel_rfl) (by kernel_rfl) ?_)
      refine ⟨⟨k+1,by omega⟩,by dsimp only;(first|omega|(simp only [oZ] at *;omega)),[],?_⟩
      rw [if_neg (by simpa using _hb),List.append_nil] at hs
      simp [EnvSub,StoreSub,look_cons,nm,E.ren,C.ren,C.renL,O.ren,killc,kill0,Function.comp_def,argsFrom,zC,hΓ,hs]
  · have hk6:k=n.toNat:=by have:=of_decide_eq_false _hb;omega
    subst hk6
    refine AWp.exit ?_
    (repeat first|refine sN rfl ?_|((first|refine sM rfl ?_ ?_|refine s4 rfl ‹_› rfl ?_ ?_);first|exact tI|omega|(simp only[oZ] at *;omega))|(refine s2 rfl ?_;intro _ _hb)|(refine s3 rfl ?_ ?_<;>intro hb<;>subst hb)|refine aS ?_|refine reg (by kernel_rfl) ?_|refine lexE ?_|refine rD (by kernel_rfl) (by kernel_rfl) ?_)
    refine AWp.ret ⟨_,rfl,rfl⟩
theorem lettersOf_ok (s:Int):Pure Tryz.prog TB 46 [eI .i64 s] (eInts (letters s)):=by
  refine eN Tryz.func46 rfl (by kernel_rfl) rfl ?_;intro Γ hΓ
  (repeat first|refine sN rfl ?_|((first|refine sM rfl ?_ ?_|refine s4 rfl ‹_› rfl ?_ ?_);first|exact tI|omega|(simp only[oZ] at *;omega))|(refine s2 rfl ?_;intro _ _hb)|(refine s3 rfl ?_ ?_<;>intro hb<;>subst hb)|refine aS ?_|refine reg (by kernel_rfl) ?_|refine lexE ?_|refine rD (by kernel_rfl) (by kernel_rfl) ?_)
  (refine popO rfl ?_;refine popS (fun _ _=>q_assign rfl) rfl ?_)
  (repeat first|refine sN rfl ?_|((first|refine sM rfl ?_ ?_|refine s4 rfl ‹_› rfl ?_ ?_);first|exact tI|omega|(simp only[oZ] at *;omega))|(refine s2 rfl ?_;intro _ _hb)|(refine s3 rfl ?_ ?_<;>intro hb<;>subst hb)|refine aS ?_|refine reg (by kernel_rfl) ?_|refine lexE ?_|refine rD (by kernel_rfl) (by kernel_rfl) ?_)
  (refine popO rfl ?_;refine popW ?_ rfl (by rfl);refine n_nil 1 3 ?_)
  (repeat first|refine sN rfl ?_|((first|refine sM rfl ?_ ?_|refine s4 rfl ‹_› rfl ?_ ?_);first|exact tI|omega|(simp only[oZ] at *;omega))|(refine s2 rfl ?_;intro _ _hb)|(refine s3 rfl ?_ ?_<;>intro hb<;>subst hb)|refine aS ?_|refine reg (by kernel_rfl) ?_|refine lexE ?_|refine rD (by kernel_rfl) (by kernel_rfl) ?_)
  refine AWp.block ?_
  refine AWp.loopL (α:={k:Nat // k≤6}) (fun ⟨k,hk⟩=>[(0,eI .i64 s),(3,.o (.arr 0 1 0 (lettersTo s k).length)),(5,eI .i64 k)]) (fun ⟨k,hk⟩=>[(0,.cells 3 1 ((lettersTo s k).map iRowC))]) 1 (fun ⟨k,hk⟩=>6 - k) (⟨0,by omega⟩) [0] (by first|(simp [hΓ];done)|(rw [hΓ];decide)) (by (repeat' (first|exact trivial|rfl|refine And.intro ?_ ?_))<;>simp [EnvSub,StoreSub,look_cons,nm,E.ren,C.ren,C.renL,O.ren,killc,kill0,Function.comp_def,argsFrom,zC,hΓ]) ?_;rintro ⟨k,hk⟩;(try dsimp only)
  (repeat first|refine sN rfl ?_|((first|refine sM rfl ?_ ?_|refine s4 rfl ‹_› rfl ?_ ?_);first|exact tI|omega|(simp only[oZ] at *;omega))|(refine s2 rfl ?_;intro _ _hb)|(refine s3 rfl ?_ ?_<;>intro hb<;>subst hb)|refine aS ?_|refine reg (by kernel_rfl) ?_|refine lexE ?_|refine rD (by kernel_rfl) (by kernel_rfl) ?_)
  (refine aC rfl ?_ ?_<;>intro hb<;>cases hb)
  · have hlt:k < 6:=by have:=of_decide_eq_true _hb;omega
    refine AWp.skip ?_
    refine AWp.seq (AWp.block ?_)
    (repeat first|refine sN rfl ?_|((first|refine sM rfl ?_ ?_|refine s4 rfl ‹_› rfl ?_ ?_);first|exact tI|omega|(simp only[oZ] at *;omega))|(refine s2 rfl ?_;intro _ _hb)|(refine s3 rfl ?_ ?_<;>intro hb<;>subst hb)|refine aS ?_|refine reg (by kernel_rfl) ?_|refine lexE ?_|refine rD (by kernel_rfl) (by kernel_rfl) ?_)
    (refine popO rfl ?_;refine popB (fun _ _=>q_call rfl rfl rfl (has_ok _ _) rfl) rfl ?_;intro _ _hb)
    (repeat first|refine sN rfl ?_|((first|refine sM rfl ?_ ?_|refine s4 rfl ‹_› rfl ?_ ?_);first|exact tI|omega|(simp only[oZ] at *;omega))|(refine s2 rfl ?_;intro _ _hb)|(refine s3 rfl ?_ ?_<;>intro hb<;>subst hb)|refine aS ?_|refine reg (by kernel_rfl) ?_|refine lexE ?_|refine rD (by kernel_rfl) (by kernel_rfl) ?_)
    have hs:=lettersTo_succ s k
    have hbb:hasB s k=bitB s k:=by simp [hasB]
    rw [hbb] at _hb
    (refine aC rfl ?_ ?_<;>intro hb<;>cases hb)
    · (repeat first|refine sN rfl ?_|((first|refine sA rfl ?_ ?_|refine s4 rfl ‹_› rfl ?_ ?_);first|exact tI|omega|(simp only[oZ] at *;omega))|(refine s2 rfl ?_;intro _ _hb)|(refine s3 rfl ?_ ?_<;>intro hb<;>subst hb)|refine aS ?_|refine reg (by kernel_rfl) ?_|refine lexE ?_|refine rD (by kernel_rfl) (by kernel_rfl) ?_)
      (refine popO rfl ?_;refine popW ?_ rfl (by rfl);refine n_append rfl rfl rfl (by first|(simp;done)|(simp;(first|omega|(simp only [oZ] at *;omega)))) rfl (by intro r hr;simp at hr;subst hr;rfl) (by rfl) (Nat.le_of_ble_eq_true rfl) (by have:=lettersTo_len s k;simp;omega) ?_)
      (repeat first|refine sN rfl ?_|((first|refine sX rfl ?_ ?_|refine s4 rfl ‹_› rfl ?_ ?_);first|exact tI|omega|(simp only[oZ] at *;omega))|(refine s2 rfl ?_;intro _ _hb)|(refine s3 rfl ?_ ?_<;>intro hb<;>subst hb)|refine aS ?_|refine reg (by kernel_rfl) ?_|refine lexE ?_|refine rD (by kernel_rfl) (by kernel_rfl) ?_)
      refine ⟨⟨k+1,by omega⟩,by dsimp only;(first|omega|(simp only [oZ] at *;omega)),[1],?_⟩
      rw [if_pos (by simpa using _hb)] at hs
      simp [EnvSub,StoreSub,look_cons,nm,E.ren,C.ren,C.renL,O.ren,killc,kill0,Function.comp_def,argsFrom,zC,hΓ,hs]
    · refine AWp.skip ?_
      (repeat first|refine sN rfl ?_|((first|refine sX rfl ?_ ?_|refine s4 rfl ‹_› rfl ?_ ?_);first|exact tI|omega|(simp only[oZ] at *;omega))|(refine s2 rfl ?_;intro _ _hb)|(refine s3 rfl ?_ ?_<;>intro hb<;>subst hb)|refine aS ?_|refine reg (by kernel_rfl) ?_|refine lexE ?_|refine rD (by kernel_rfl) (by kernel_rfl) ?_)
      refine ⟨⟨k+1,by omega⟩,by dsimp only;(first|omega|(simp only [oZ] at *;omega)),[0],?_⟩
      rw [if_neg (by simpa using _hb),List.append_nil] at hs
      simp [EnvSub,StoreSub,look_cons,nm,E.ren,C.ren,C.renL,O.ren,killc,kill0,Function.comp_def,argsFrom,zC,hΓ,hs]
  · have hk6:k=6:=by have:=of_decide_eq_false _hb;omega
    subst hk6
    refine AWp.exit ?_
    (repeat first|refine sN rfl ?_|((first|refine sX rfl ?_ ?_|refine s4 rfl ‹_› rfl ?_ ?_);first|exact tI|omega|(simp only[oZ] at *;omega))|(refine s2 rfl ?_;intro _ _hb)|(refine s3 rfl ?_ ?_<;>intro hb<;>subst hb)|refine aS ?_|refine reg (by kernel_rfl) ?_|refine lexE ?_|refine rD (by kernel_rfl) (by kernel_rfl) ?_)
    refine AWp.freeze [0] [(2,.o (.d (iList (lettersTo s 6))))] ⟨⟨_,rfl,.o (.full (by simp) rfl (by simp [Function.comp_def]) (by simp))⟩,trivial⟩ ?_
    refine AWp.ret ⟨_,rfl,rfl⟩
end Go.Am
namespace Go.Am
open Go Go.Proofs
set_option maxHeartbeats 1000000
attribute [local irreducible] QOp AOp Lex LexO AWp Spec
variable {TB:List (Nat×Obj)}
end Go.Am
namespace Go.Am
open Go Go.Proofs
set_option maxHeartbeats 1000000
attribute [local irreducible] QOp AOp Lex LexO AWp Spec
variable {TB:List (Nat×Obj)}
theorem l3Row_ok (row:List Int) (ls n:Int):Pure Tryz.prog TB 66 [eInts row,eI .i64 ls,eI .i64 n] (eB (rowOk ls n row)):=by
  refine eN Tryz.func66 rfl (by kernel_rfl) rfl ?_;intro Γ hΓ
  (repeat' first|refine sN rfl ?_|((first|refine sA rfl ?_ ?_|refine s4 rfl ‹_› rfl ?_ ?_);first|exact tI|omega|(simp only[oZ] at *;omega))|(refine s2 rfl ?_;intro _ _hb)|(refine s3 rfl ?_ ?_<;>intro hb<;>subst hb)|refine aS ?_|refine reg (by kernel_rfl) ?_|refine lexE ?_|refine rD (by kernel_rfl) (by kernel_rfl) ?_|(refine aC rfl ?_ ?_<;>intro hb<;>cases hb)|refine aK ?_|refine aE ?_|refine aB ?_|refine AWp.ret ⟨_,rfl,?_⟩)
  · show E.o _=E.o _;congr;unfold rowOk;grind
  refine AWp.bound 0 rfl fun hB=>?_
  have hB:=hB _ .refl
  rw [List.length_map] at hB
  refine AWp.loopL (α:={k:Nat // k≤row.length∧(row.take k).all (stOk n)=true}) (fun ⟨k,hk,ha⟩=>[(0,eInts row),(2,eI .i64 n),(7,eI .i64 k)]) (fun ⟨k,hk,ha⟩=>[]) 0 (fun ⟨k,hk,ha⟩=>row.length - k) (⟨0,by omega,rfl⟩) [] (by first|(simp [hΓ];done)|(rw [hΓ];decide)) (by (repeat' (first|exact trivial|rfl|refine And.intro ?_ ?_))<;>simp [EnvSub,StoreSub,look_cons,nm,E.ren,C.ren,C.renL,O.ren,killc,kill0,Function.comp_def,argsFrom,zC,hΓ]) ?_;rintro ⟨k,hk,ha⟩;(try dsimp only)
  (repeat first|refine sN rfl ?_|((first|refine sA rfl ?_ ?_|refine s4 rfl ‹_› rfl ?_ ?_);first|exact tI|omega|(simp only[oZ] at *;omega))|(refine s2 rfl ?_;intro _ _hb)|(refine s3 rfl ?_ ?_<;>intro hb<;>subst hb)|refine aS ?_|refine reg (by kernel_rfl) ?_|refine lexE ?_|refine rD (by kernel_rfl) (by kernel_rfl) ?_)
  (refine aC rfl ?_ ?_<;>intro hb<;>cases hb)
  · obtain ⟨x,hx⟩:=get_some (l:=row) (k:=k) (by first|omega|(simp only [oZ] at *;omega))
    have hx':=get_map (g:=iRow) hx
    (repeat' first|refine sN rfl ?_|((first|refine sA rfl ?_ ?_|refine s4 rfl ‹_› rfl ?_ ?_);first|exact tI|omega|(simp only[oZ] at *;omega))|(refine s2 rfl ?_;intro _ _hb)|(refine s3 rfl ?_ ?_<;>intro hb<;>subst hb)|refine aS ?_|refine reg (by kernel_rfl) ?_|refine lexE ?_|refine rD (by kernel_rfl) (by kernel_rfl) ?_|(refine aC rfl ?_ ?_<;>intro hb<;>cases hb)|refine aK ?_|refine aE ?_|refine aB ?_|refine AWp.ret ⟨_,rfl,?_⟩)
    all_goals first
      | (show E.o _=E.o _;congr;rw [rowOk,all_bad hx (by unfold stOk;grind)];simp;done)
      | (refine ⟨⟨k+1,by first|omega|(simp only [oZ] at *;omega),all_step hx ha (by unfold stOk;grind)⟩,by dsimp only;(first|omega|(simp only [oZ] at *;omega)),[],?_⟩;simp [EnvSub,StoreSub,look_cons,nm,E.ren,C.ren,C.renL,O.ren,killc,kill0,Function.comp_def,argsFrom,zC,hΓ];done)
  · (repeat' first|refine sN rfl ?_|((first|refine sA rfl ?_ ?_|refine s4 rfl ‹_› rfl ?_ ?_);first|exact tI|omega|(simp only[oZ] at *;omega))|(refine s2 rfl ?_;intro _ _hb)|(refine s3 rfl ?_ ?_<;>intro hb<;>subst hb)|refine aS ?_|refine reg (by kernel_rfl) ?_|refine lexE ?_|refine rD (by kernel_rfl) (by kernel_rfl) ?_|(refine aC rfl ?_ ?_<;>intro hb<;>cases hb)|refine aK ?_|refine aE ?_|refine aB ?_|refine AWp.ret ⟨_,rfl,?_⟩)
    show E.o _=E.o _;congr;rw [rowOk,all_done ha (by first|omega|(simp only [oZ] at *;omega))];grind
end Go.Am
namespace Go.Am
open Go Go.Proofs
set_option maxHeartbeats 1000000
attribute [local irreducible] QOp AOp Lex LexO AWp Spec
variable {TB:List (Nat×Obj)}
theorem autOk_head {a:Aut} (h:autOk a=true):alphB a.al=true∧1≤a.nx.length∧a.nx.length≤12∧a.ac.length=a.nx.length:=by
  unfold autOk at h;grind
theorem specAutomatonValid_ok (a:Aut):Pure Tryz.prog TB 35 [eAut a] (eB (autOk a)):=by
  refine eN Tryz.func35 rfl (by kernel_rfl) rfl ?_;intro Γ hΓ
  (repeat' first|refine sN rfl ?_|((first|refine sA rfl ?_ ?_|refine s4 rfl ‹_› rfl ?_ ?_);first|exact tI|omega|(simp only[oZ] at *;omega))|(refine s2 rfl ?_;intro _ _hb) |(refine sC rfl (l1Alphabet_ok _) ?_;intro _ _hb)|(refine s3 rfl ?_ ?_<;>intro hb<;>subst hb)|refine aS ?_|refine reg (by kernel_rfl) ?_|refine lexE ?_|refine rD (by kernel_rfl) (by kernel_rfl) ?_|(refine aC rfl ?_ ?_<;>intro hb<;>cases hb)|refine aK ?_|refine aE ?_|refine aB ?_|refine AWp.ret ⟨_,rfl,?_⟩)
  all_goals try (show E.o _=E.o _;congr;unfold autOk;(try simp only [List.length_map] at *);grind)
  refine AWp.bound 1 rfl fun hB=>?_
  have hB:=hB (a.nx.map iiRow) (.p (j:=1) rfl .refl)
  refine AWp.loopL (α:={k:Nat // k≤a.nx.length∧(a.nx.take k).all (rowOk (letters a.al).length a.nx.length)=true}) (fun ⟨k,hk,ha⟩=>[(1,.o (.ip (auRow a))),(3,eI .i64 a.nx.length),(4,eI .i64 k)]) (fun ⟨k,hk,ha⟩=>[]) 0 (fun ⟨k,hk,ha⟩=>a.nx.length - k) (⟨0,by omega,rfl⟩) [] (by first|(simp [hΓ];done)|(rw [hΓ];decide)) (by (repeat' (first|exact trivial|rfl|refine And.intro ?_ ?_))<;>simp [EnvSub,StoreSub,look_cons,nm,E.ren,C.ren,C.renL,O.ren,killc,kill0,Function.comp_def,argsFrom,zC,hΓ]) ?_;rintro ⟨k,hk,ha⟩;(try dsimp only)
  (repeat first|refine sN rfl ?_|((first|refine sA rfl ?_ ?_|refine s4 rfl ‹_› rfl ?_ ?_);first|exact tI|omega|(simp only[oZ] at *;omega))|(refine s2 rfl ?_;intro _ _hb)|(refine s3 rfl ?_ ?_<;>intro hb<;>subst hb)|refine aS ?_|refine reg (by kernel_rfl) ?_|refine lexE ?_|refine rD (by kernel_rfl) (by kernel_rfl) ?_)
  (refine aC rfl ?_ ?_<;>intro hb<;>cases hb)
  · obtain ⟨x,hx⟩:=get_some (l:=a.nx) (k:=k) (by first|omega|(simp only [oZ] at *;omega))
    have hx':=get_map (g:=iiRow) hx
    (repeat' first|refine sN rfl ?_|((first|refine sA rfl ?_ ?_|refine s4 rfl ‹_› rfl ?_ ?_);first|exact tI|omega|(simp only[oZ] at *;omega))|(refine s2 rfl ?_;intro _ _hb) |refine sP rfl (l1Letters_ok _) rfl ?_|(refine sC rfl (l3Row_ok _ _ _) ?_;intro _ _hb)|(refine s3 rfl ?_ ?_<;>intro hb<;>subst hb)|refine aS ?_|refine reg (by kernel_rfl) ?_|refine lexE ?_|refine rD (by kernel_rfl) (by kernel_rfl) ?_|(refine aC rfl ?_ ?_<;>intro hb<;>cases hb)|refine aK ?_|refine aE ?_|refine aB ?_|refine AWp.ret ⟨_,rfl,?_⟩)
    all_goals first
      | (have h1:=all_bad (f:=rowOk (letters a.al).length a.nx.length) hx (by grind);(show E.o _=E.o _;congr;unfold autOk;(try simp only [List.length_map] at *);grind);done)
      | (refine ⟨⟨k+1,by first|omega|(simp only [oZ] at *;omega),all_step hx ha (by grind)⟩,by dsimp only;(first|omega|(simp only [oZ] at *;omega)),[],?_⟩;simp [EnvSub,StoreSub,look_cons,nm,E.ren,C.ren,C.renL,O.ren,killc,kill0,Function.comp_def,argsFrom,zC,hΓ];done)
  · (repeat' first|refine sN rfl ?_|((first|refine sA rfl ?_ ?_|refine s4 rfl ‹_› rfl ?_ ?_);first|exact tI|omega|(simp only[oZ] at *;omega))|(refine s2 rfl ?_;intro _ _hb)|(refine s3 rfl ?_ ?_<;>intro hb<;>subst hb)|refine aS ?_|refine reg (by kernel_rfl) ?_|refine lexE ?_|refine rD (by kernel_rfl) (by kernel_rfl) ?_|(refine aC rfl ?_ ?_<;>intro hb<;>cases hb)|refine aK ?_|refine aE ?_|refine aB ?_|refine AWp.ret ⟨_,rfl,?_⟩)
    show E.o _=E.o _;congr
    have h1:=all_done ha (by first|omega|(simp only [oZ] at *;omega))
    unfold autOk;simp only [List.length_map] at *;grind
end Go.Am
namespace Go.Am
open Go Go.Proofs
set_option maxHeartbeats 1000000
attribute [local irreducible] QOp AOp Lex LexO AWp Spec
variable {TB:List (Nat×Obj)}
theorem drop_some {α:Type} {l:List α} {k:Nat} {x:α} (h:l[k]? = some x):l.drop k=x::l.drop (k+1):=by
  obtain ⟨h1,rfl⟩:=List.getElem?_eq_some_iff.1 h
  exact List.drop_eq_getElem_cons h1
theorem sysAt_0 {s:Sys} {e:Edg} (h:s.es[0]? = some e):sysAt s 0=edgeOk s.al s.st e:=by
  unfold sysAt;rw [h];simp
theorem sysAt_s {s:Sys} {k:Nat} {e p:Edg} (h:s.es[k+1]? = some e) (hp:s.es[k]? = some p):sysAt s (k+1)=(edgeOk s.al s.st e && befB p e):=by
  unfold sysAt;rw [h];simp [hp]
end Go.Am
namespace Go.Am
open Go Go.Proofs
set_option maxHeartbeats 1000000
attribute [local irreducible] QOp AOp Lex LexO AWp Spec
variable {TB:List (Nat×Obj)}
end Go.Am
namespace Go.Am
open Go Go.Proofs
set_option maxHeartbeats 1000000
attribute [local irreducible] QOp AOp Lex LexO AWp Spec
variable {TB:List (Nat×Obj)}
theorem autOk_bad {a:Aut} {k:Nat} {x:List Int} (hx:a.nx[k]? = some x) (h:rowOk (letters a.al).length a.nx.length x=false):autOk a=false:=by
  have h1:=all_bad (f:=rowOk (letters a.al).length a.nx.length) hx h
  unfold autOk;rw [h1];simp
theorem autOk_good {a:Aut} {k:Nat} (h0:alphB a.al=true) (h1:1≤a.nx.length∧a.nx.length≤12) (h2:a.ac.length=a.nx.length) (hk:a.nx.length≤k) (h:(a.nx.take k).all (rowOk (letters a.al).length a.nx.length)=true):autOk a=true:=by
  have h3:=all_done h hk
  unfold autOk;rw [h3];grind
theorem implAutomatonValid_ok (a:Aut):Pure Tryz.prog TB 24 [eAut a] (eB (autOk a)):=by
  refine eN Tryz.func24 rfl (by kernel_rfl) rfl ?_;intro Γ hΓ
  (repeat' first|refine sN rfl ?_|((first|refine sA rfl ?_ ?_|refine s4 rfl ‹_› rfl ?_ ?_);first|exact tI|omega|(simp only[oZ] at *;omega))|(refine s2 rfl ?_;intro _ _hb) |(refine sC rfl (isAlphabet_ok _) ?_;intro _ _hb)|refine sP rfl (lettersOf_ok _) rfl ?_|(refine s3 rfl ?_ ?_<;>intro hb<;>subst hb)|refine aS ?_|refine reg (by kernel_rfl) ?_|refine lexE ?_|refine rD (by kernel_rfl) (by kernel_rfl) ?_|(refine aC rfl ?_ ?_<;>intro hb<;>cases hb)|refine aK ?_|refine aE ?_|refine aB ?_|refine AWp.ret ⟨_,rfl,?_⟩)
  all_goals try (show E.o _=E.o _;congr;unfold autOk;(try simp only [List.length_map] at *);grind)
  refine AWp.bound 1 rfl fun hB=>?_
  have hB:=hB (a.nx.map iiRow) (.p (j:=1) rfl .refl)
  refine AWp.loopL (α:={k:Nat // k≤a.nx.length∧(a.nx.take k).all (rowOk (letters a.al).length a.nx.length)=true}) (fun ⟨k,hk,ha⟩=>[(1,.o (.ip (auRow a))),(3,eI .i64 (letters a.al).length),(38,eIntss a.nx),(39,eI .i64 a.nx.length),(40,eI .i64 k)]) (fun ⟨k,hk,ha⟩=>[]) 0 (fun ⟨k,hk,ha⟩=>a.nx.length - k) (⟨0,by omega,rfl⟩) [] (by first|(simp [hΓ];done)|(rw [hΓ];decide)) (by (repeat' (first|exact trivial|rfl|refine And.intro ?_ ?_))<;>simp [EnvSub,StoreSub,look_cons,nm,E.ren,C.ren,C.renL,O.ren,killc,kill0,Function.comp_def,argsFrom,zC,hΓ]) ?_;rintro ⟨k,hk,ha⟩;(try dsimp only)
  (repeat first|refine sN rfl ?_|((first|refine sA rfl ?_ ?_|refine s4 rfl ‹_› rfl ?_ ?_);first|exact tI|omega|(simp only[oZ] at *;omega))|(refine s2 rfl ?_;intro _ _hb)|(refine s3 rfl ?_ ?_<;>intro hb<;>subst hb)|refine aS ?_|refine reg (by kernel_rfl) ?_|refine lexE ?_|refine rD (by kernel_rfl) (by kernel_rfl) ?_)
  (refine aC rfl ?_ ?_<;>intro hb<;>cases hb)
  · obtain ⟨x,hx⟩:=get_some (l:=a.nx) (k:=k) (by first|omega|(simp only [oZ] at *;omega))
    have hx':=get_map (g:=iiRow) hx
    (repeat' first|refine sN rfl ?_|((first|refine sA rfl ?_ ?_|refine s4 rfl ‹_› rfl ?_ ?_);first|exact tI|omega|(simp only[oZ] at *;omega))|(refine s2 rfl ?_;intro _ _hb)|(refine s3 rfl ?_ ?_<;>intro hb<;>subst hb)|refine aS ?_|refine reg (by kernel_rfl) ?_|refine lexE ?_|refine rD (by kernel_rfl) (by kernel_rfl) ?_|(refine aC rfl ?_ ?_<;>intro hb<;>cases hb)|refine aK ?_|refine aE ?_|refine aB ?_|refine AWp.ret ⟨_,rfl,?_⟩)
    · have h2:=autOk_bad hx (by unfold rowOk;grind)
      show E.o _=E.o _;congr;exact h2.symm
    refine AWp.bound 5 rfl fun hB2=>?_
    have hB2:=hB2 (x.map iRow) .refl
    refine AWp.loopL (α:={j:Nat // j≤x.length∧(x.take j).all (stOk a.nx.length)=true}) (fun ⟨j,hj,hc⟩=>[(1,.o (.ip (auRow a))),(3,eI .i64 (letters a.al).length),(38,eIntss a.nx),(39,eI .i64 a.nx.length),(40,eI .i64 k),(48,eInts x),(49,eI .i64 x.length),(50,eI .i64 j)]) (fun ⟨j,hj,hc⟩=>[]) 0 (fun ⟨j,hj,hc⟩=>x.length - j) (⟨0,by omega,rfl⟩) [] (by first|(simp [hΓ];done)|(rw [hΓ];decide)) (by (repeat' (first|exact trivial|rfl|refine And.intro ?_ ?_))<;>simp [EnvSub,StoreSub,look_cons,nm,E.ren,C.ren,C.renL,O.ren,killc,kill0,Function.comp_def,argsFrom,zC,hΓ]) ?_;rintro ⟨j,hj,hc⟩;(try dsimp only)
    (repeat first|refine sN rfl ?_|((first|refine sA rfl ?_ ?_|refine s4 rfl ‹_› rfl ?_ ?_);first|exact tI|omega|(simp only[oZ] at *;omega))|(refine s2 rfl ?_;intro _ _hb)|(refine s3 rfl ?_ ?_<;>intro hb<;>subst hb)|refine aS ?_|refine reg (by kernel_rfl) ?_|refine lexE ?_|refine rD (by kernel_rfl) (by kernel_rfl) ?_)
    (refine aC rfl ?_ ?_<;>intro hb<;>cases hb)
    · obtain ⟨y,hy⟩:=get_some (l:=x) (k:=j) (by first|omega|(simp only [oZ] at *;omega))
      have hy':=get_map (g:=iRow) hy
      (repeat' first|refine sN rfl ?_|((first|refine sA rfl ?_ ?_|refine s4 rfl ‹_› rfl ?_ ?_);first|exact tI|omega|(simp only[oZ] at *;omega))|(refine s2 rfl ?_;intro _ _hb)|(refine s3 rfl ?_ ?_<;>intro hb<;>subst hb)|refine aS ?_|refine reg (by kernel_rfl) ?_|refine lexE ?_|refine rD (by kernel_rfl) (by kernel_rfl) ?_|(refine aC rfl ?_ ?_<;>intro hb<;>cases hb)|refine aK ?_|refine aE ?_|refine aB ?_|refine AWp.ret ⟨_,rfl,?_⟩)
      all_goals first
        | (have h2:=autOk_bad hx (by rw [rowOk,all_bad hy (by unfold stOk;grind)];simp);show E.o _=E.o _;congr;exact h2.symm;done)
        | (refine ⟨⟨j+1,by first|omega|(simp only [oZ] at *;omega),all_step hy hc (by unfold stOk;grind)⟩,by dsimp only;(first|omega|(simp only [oZ] at *;omega)),[],?_⟩;simp [EnvSub,StoreSub,look_cons,nm,E.ren,C.ren,C.renL,O.ren,killc,kill0,Function.comp_def,argsFrom,zC,hΓ];done)
    · (repeat' first|refine sN rfl ?_|((first|refine sA rfl ?_ ?_|refine s4 rfl ‹_› rfl ?_ ?_);first|exact tI|omega|(simp only[oZ] at *;omega))|(refine s2 rfl ?_;intro _ _hb)|(refine s3 rfl ?_ ?_<;>intro hb<;>subst hb)|refine aS ?_|refine reg (by kernel_rfl) ?_|refine lexE ?_|refine rD (by kernel_rfl) (by kernel_rfl) ?_|(refine aC rfl ?_ ?_<;>intro hb<;>cases hb)|refine aK ?_|refine aE ?_|refine aB ?_|refine AWp.ret ⟨_,rfl,?_⟩)
      have h3:=all_done hc (by first|omega|(simp only [oZ] at *;omega))
      refine ⟨⟨k+1,by first|omega|(simp only [oZ] at *;omega),all_step hx ha (by rw [rowOk,h3];grind)⟩,by dsimp only;(first|omega|(simp only [oZ] at *;omega)),[],?_⟩
      simp [EnvSub,StoreSub,look_cons,nm,E.ren,C.ren,C.renL,O.ren,killc,kill0,Function.comp_def,argsFrom,zC,hΓ]
  · (repeat' first|refine sN rfl ?_|((first|refine sA rfl ?_ ?_|refine s4 rfl ‹_› rfl ?_ ?_);first|exact tI|omega|(simp only[oZ] at *;omega))|(refine s2 rfl ?_;intro _ _hb)|(refine s3 rfl ?_ ?_<;>intro hb<;>subst hb)|refine aS ?_|refine reg (by kernel_rfl) ?_|refine lexE ?_|refine rD (by kernel_rfl) (by kernel_rfl) ?_|(refine aC rfl ?_ ?_<;>intro hb<;>cases hb)|refine aK ?_|refine aE ?_|refine aB ?_|refine AWp.ret ⟨_,rfl,?_⟩)
    have h2:=autOk_good (a:=a) (by grind) (by grind) (by grind) (by first|omega|(simp only [oZ] at *;omega)) ha
    show E.o _=E.o _;congr;exact h2.symm
def goA (a:Aut) (q:Nat) (l:Int):Int:=if bitB a.al l.toNat then ((a.nx.getD q []).getD (lettersTo a.al l.toNat).length 0) else q
theorem lettersTo_lt {s:Int} {l k:Nat} (hl:l < k) (hb:bitB s l=true):(lettersTo s l).length < (lettersTo s k).length:=by
  induction k with
  | zero=>omega
  | succ k ih=>
    rw [lettersTo_succ,List.length_append]
    rcases Nat.lt_succ_iff_lt_or_eq.1 hl with h|h
    · have:=ih h;omega
    · subst h;rw [if_pos hb];simp
theorem autOk_row {a:Aut} (h:autOk a=true) {q:Nat} (hq:q < a.nx.length):∃row,a.nx[q]? = some row∧row.length=(letters a.al).length∧∀(i:Nat) (x:Int),row[i]? = some x→0≤x∧x < a.nx.length:=by
  obtain ⟨row,hr⟩:=get_some hq
  refine ⟨row,hr,?_⟩
  unfold autOk at h
  rw [Bool.and_eq_true,List.all_eq_true] at h
  have h1:=h.2 row (List.mem_of_getElem? hr)
  unfold rowOk at h1
  rw [Bool.and_eq_true,List.all_eq_true] at h1
  refine ⟨by grind,fun i x hx=>?_⟩
  have:=h1.2 x (List.mem_of_getElem? hx)
  unfold stOk at this;grind
theorem l3Go_ok (a:Aut) (h:autOk a=true) (q:Nat) (hq:q < a.nx.length) (l:Int) (h0:0≤l) (h1:l < 6):Pure Tryz.prog TB 136 [eAut a,eI .i64 q,eI .i64 l] (eI .i64 (goA a q l)):=by
  refine eN Tryz.func136 rfl (by kernel_rfl) rfl ?_;intro Γ hΓ
  obtain ⟨row,hr,hl,hx⟩:=autOk_row h hq
  have hr':=get_map (g:=iiRow) hr
  by_cases hb:bitB a.al l.toNat=true
  · have hlt:(lettersTo a.al l.toNat).length < row.length:=by rw [hl];exact lettersTo_lt (by omega) hb
    obtain ⟨y,hy⟩:=get_some hlt
    have hy':=get_map (g:=iRow) hy
    (repeat' first|refine sN rfl ?_|((first|refine sA rfl ?_ ?_|refine s4 rfl ‹_› rfl ?_ ?_);first|exact tI|omega|(simp only[oZ] at *;omega))|(refine s2 rfl ?_;intro _ _hb) |(refine sC rfl (l1Has_ok _ _ (by first|omega|(simp only [oZ] at *;omega)) (by first|omega|(simp only [oZ] at *;omega))) ?_;intro _ _hb)|refine sP rfl (l1Place_ok _ _ (by first|omega|(simp only [oZ] at *;omega)) (by first|omega|(simp only [oZ] at *;omega))) rfl ?_|(refine s3 rfl ?_ ?_<;>intro hb<;>subst hb)|refine aS ?_|refine reg (by kernel_rfl) ?_|refine lexE ?_|refine rD (by kernel_rfl) (by kernel_rfl) ?_|(refine aC rfl ?_ ?_<;>intro hb<;>cases hb)|refine aK ?_|refine aE ?_|refine aB ?_|refine AWp.ret ⟨_,rfl,?_⟩)
    all_goals first
      | (exfalso;grind;done)
      | (show E.o _=E.o _;congr;unfold goA;rw [if_pos hb];simp [List.getD,hr,hy];done)
  · (repeat' first|refine sN rfl ?_|((first|refine sA rfl ?_ ?_|refine s4 rfl ‹_› rfl ?_ ?_);first|exact tI|omega|(simp only[oZ] at *;omega))|(refine s2 rfl ?_;intro _ _hb) |(refine sC rfl (l1Has_ok _ _ (by first|omega|(simp only [oZ] at *;omega)) (by first|omega|(simp only [oZ] at *;omega))) ?_;intro _ _hb)|(refine s3 rfl ?_ ?_<;>intro hb<;>subst hb)|refine aS ?_|refine reg (by kernel_rfl) ?_|refine lexE ?_|refine rD (by kernel_rfl) (by kernel_rfl) ?_|(refine aC rfl ?_ ?_<;>intro hb<;>cases hb)|refine aK ?_|refine aE ?_|refine aB ?_|refine AWp.ret ⟨_,rfl,?_⟩)
    all_goals first
      | (show E.o _=E.o _;congr;unfold goA;rw [if_neg hb];done)
      | (exfalso;grind;done)
end Go.Am
