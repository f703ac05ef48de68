/-
  Choices.
-/
import Derived.Test.YtainaphkaklkmaaGreatDoorPart12
set_option linter.constructorNameAsVariable false
set_option linter.unusedSimpArgs false
set_option linter.unusedVariables false
namespace Go.Am
open Go Go.Proofs
set_option maxHeartbeats 1000000
attribute [local irreducible] QOp AOp Lex LexO AWp Spec
variable {TB:Amb}
theorem l4ChoicesA_ok (n:Net) (i:Nat) (a:Aut) (q:Nat) (l:Int) (ha:n.au[i]? = some a) (hok:autOk a=true) (hq:q < a.nx.length) (h0:0≤l) (h1:l < 6) (hnp:n.ps.length≤3) (hna:n.au.length≤2) :
    Pure Tryz.prog TB 164 [eNet n,eI .i64 (n.ps.length+i),eI .i64 q,eI .i64 l] (eInts [goA a q l]):=by
  have hi:=(List.getElem?_eq_some_iff.1 ha).1
  have ha':=get_map (g:=auRow) ha
  have he:((n.ps.length:Int)+i - n.ps.length).toNat=((i:Nat):Int).toNat:=by omega
  have ha2:(n.au.map auRow)[((n.ps.length:Int)+i - n.ps.length).toNat]? = some (auRow a):=by rw [he];exact ha'
  refine eN Tryz.func164 rfl (by kernel_rfl) rfl ?_;intro Γ hΓ
  (repeat' first|refine sN rfl ?_|((first|refine sA rfl ?_ ?_|refine s4 rfl ‹_› rfl ?_ ?_);first|exact tI|omega|(simp only[oZ] at *;omega))|(refine s2 rfl ?_;intro _ _hb) |(refine sC rfl (l3Go_ok a hok q hq l h0 h1) ?_;intro _ _hb)|refine sP rfl (l3Go_ok a hok q hq l h0 h1) rfl ?_|(refine s3 rfl ?_ ?_<;>intro hb<;>subst hb)|refine aS ?_|refine reg (by kernel_rfl) ?_|refine lexE ?_|refine rD (by kernel_rfl) (by kernel_rfl) ?_|(refine aC rfl ?_ ?_<;>intro hb<;>cases hb)|refine aK ?_|refine aE ?_|refine aB ?_|refine AWp.ret ⟨_,rfl,?_⟩)
  all_goals first|rfl|(exfalso;first|omega|(simp only[oZ] at *;omega))
theorem l4ChoicesS_ok (n:Net) (i:Nat) (s:Sys) (q l:Int) (hs:n.ps[i]? = some s) (hok:sysOk s=true) (hq0:0≤q) (hq1:q < s.st) (h0:0≤l) (h1:l < 6) (hnp:n.ps.length≤3) :
    Pure Tryz.prog TB 164 [eNet n,eI .i64 i,eI .i64 q,eI .i64 l] (eInts (sysTo s q l)):=by
  have hi:=(List.getElem?_eq_some_iff.1 hs).1
  have hs':=get_map (g:=syRow) hs
  refine eN Tryz.func164 rfl (by kernel_rfl) rfl ?_;intro Γ hΓ
  (repeat first|refine sN rfl ?_|((first|refine sM rfl ?_ ?_|refine s4 rfl ‹_› rfl ?_ ?_);first|exact tI|omega|(simp only[oZ] at *;omega))|(refine s2 rfl ?_;intro _ _hb)|(refine s3 rfl ?_ ?_<;>intro hb<;>subst hb)|refine aS ?_|refine reg (by kernel_rfl) ?_|refine lexE ?_|refine rD (by kernel_rfl) (by kernel_rfl) ?_)
  (refine popO rfl ?_;refine popS (fun _ _=>q_boxI rfl rfl rfl) rfl ?_)
  (refine popO rfl ?_;refine popS (fun _ _=>q_assign rfl) rfl ?_)
  (repeat first|refine sN rfl ?_|((first|refine sM rfl ?_ ?_|refine s4 rfl ‹_› rfl ?_ ?_);first|exact tI|omega|(simp only[oZ] at *;omega))|(refine s2 rfl ?_;intro _ _hb) |(refine sC rfl (l1Has_ok _ _ (by first|omega|(simp only[oZ] at *;omega)) (by first|omega|(simp only[oZ] at *;omega))) ?_;intro _ _hb)|(refine s3 rfl ?_ ?_<;>intro hb<;>subst hb)|refine aS ?_|refine reg (by kernel_rfl) ?_|refine lexE ?_|refine rD (by kernel_rfl) (by kernel_rfl) ?_)
  (refine aC rfl ?_ ?_<;>intro hb<;>cases hb)
  · exfalso;first|omega|(simp only[oZ] at *;omega)
  refine AWp.skip ?_
  (repeat first|refine sN rfl ?_|((first|refine sM rfl ?_ ?_|refine s4 rfl ‹_› rfl ?_ ?_);first|exact tI|omega|(simp only[oZ] at *;omega))|(refine s2 rfl ?_;intro _ _hb) |(refine sC rfl (l1Has_ok _ _ (by first|omega|(simp only[oZ] at *;omega)) (by first|omega|(simp only[oZ] at *;omega))) ?_;intro _ _hb)|(refine s3 rfl ?_ ?_<;>intro hb<;>subst hb)|refine aS ?_|refine reg (by kernel_rfl) ?_|refine lexE ?_|refine rD (by kernel_rfl) (by kernel_rfl) ?_)
  (refine aC rfl ?_ ?_<;>intro hb<;>cases hb)
  · (repeat' first|refine sN rfl ?_|((first|refine sA rfl ?_ ?_|refine s4 rfl ‹_› rfl ?_ ?_);first|exact tI|omega|(simp only[oZ] at *;omega))|(refine s2 rfl ?_;intro _ _hb)|(refine s3 rfl ?_ ?_<;>intro hb<;>subst hb)|refine aS ?_|refine reg (by kernel_rfl) ?_|refine lexE ?_|refine rD (by kernel_rfl) (by kernel_rfl) ?_|(refine aC rfl ?_ ?_<;>intro hb<;>cases hb)|refine aK ?_|refine aE ?_|refine aB ?_|refine AWp.ret ⟨_,rfl,?_⟩)
    rw [show sysTo s q l=[q] by unfold sysTo;rw [if_neg (by grind)]];rfl
  refine AWp.skip ?_
  (repeat first|refine sN rfl ?_|((first|refine sM rfl ?_ ?_|refine s4 rfl ‹_› rfl ?_ ?_);first|exact tI|omega|(simp only[oZ] at *;omega))|(refine s2 rfl ?_;intro _ _hb)|(refine s3 rfl ?_ ?_<;>intro hb<;>subst hb)|refine aS ?_|refine reg (by kernel_rfl) ?_|refine lexE ?_|refine rD (by kernel_rfl) (by kernel_rfl) ?_)
  (refine popO rfl ?_;refine popW ?_ rfl (by rfl);refine n_sliceB rfl rfl rfl rfl (by simp) (by rfl) (by rfl) (by rfl) (by rfl) ?_)
  (repeat first|refine sN rfl ?_|((first|refine sM rfl ?_ ?_|refine s4 rfl ‹_› rfl ?_ ?_);first|exact tI|omega|(simp only[oZ] at *;omega))|(refine s2 rfl ?_;intro _ _hb)|(refine s3 rfl ?_ ?_<;>intro hb<;>subst hb)|refine aS ?_|refine reg (by kernel_rfl) ?_|refine lexE ?_|refine rD (by kernel_rfl) (by kernel_rfl) ?_)
  refine AWp.bound 10 rfl fun hB=>?_
  have hB:=hB _ .refl
  rw [List.length_map] at hB
  refine AWp.block ?_
  have hb2:bitB s.al l.toNat=true:=by grind
  refine AWp.loopL (α:={k:Nat // k≤s.es.length}) (fun ⟨k,hk⟩=>[(2,eI .i64 q),(3,eI .i64 l),(9,.o (.arr 0 1 0 (sysTo { s with es:=s.es.take k } q l).length)),(10,eEdgs s.es),(11,eI .i64 k)]) (fun ⟨k,hk⟩=>[(0,.cells 3 1 ((sysTo { s with es:=s.es.take k } q l).map iRowC))]) 1 (fun ⟨k,hk⟩=>s.es.length - k) (⟨0,by omega⟩) [0] (rl3 hΓ rfl rfl) (by (repeat' first|exact tI|rfl|refine And.intro ?_ ?_)<;>simp[cX,zC,hΓ,sysTo,hb2]) ?_;rintro ⟨k,hk⟩;(try dsimp only)
  (repeat first|refine sN rfl ?_|((first|refine sM rfl ?_ ?_|refine s4 rfl ‹_› rfl ?_ ?_);first|exact tI|omega|(simp only[oZ] at *;omega))|(refine s2 rfl ?_;intro _ _hb)|(refine s3 rfl ?_ ?_<;>intro hb<;>subst hb)|refine aS ?_|refine reg (by kernel_rfl) ?_|refine lexE ?_|refine rD (by kernel_rfl) (by kernel_rfl) ?_)
  have hlen:∀k,(sysTo { s with es:=s.es.take k } q l).length≤16:=by
    intro k
    have h1:=sysTo_len hok (l:=l) hq0 hq1
    have h2:=sysOk_head hok
    have h3:(sysTo { s with es:=s.es.take k } q l).length≤(sysTo s q l).length:=by
      simp only [sysTo,hb2,if_true,List.length_map]
      exact ((List.take_sublist k s.es).filter _).length_le
    omega
  have hst:∀e,s.es[k]? = some e→sysTo { s with es:=s.es.take (k+1) } q l=sysTo { s with es:=s.es.take k } q l++if e.f=q∧e.l=l then [e.t] else []:=by
    intro e he
    simp only [sysTo,hb2,if_true,List.take_add_one,he,Option.toList_some,List.filter_append,List.map_append,List.filter_cons,List.filter_nil]
    grind
  (refine aC rfl ?_ ?_<;>intro hb<;>cases hb)
  · obtain ⟨e,he⟩:=get_some (l:=s.es) (k:=k) (by first|omega|(simp only[oZ] at *;omega))
    have he':=get_map (g:=edRow) he
    have hst:=hst e he
    refine AWp.skip ?_
    refine AWp.seq (AWp.block ?_)
    (repeat' first|refine sN rfl ?_|((first|refine sM rfl ?_ ?_|refine s4 rfl ‹_› rfl ?_ ?_);first|exact tI|omega|(simp only[oZ] at *;omega))|(refine s2 rfl ?_;intro _ _hb)|(refine s3 rfl ?_ ?_<;>intro hb<;>subst hb)|refine aS ?_|refine reg (by kernel_rfl) ?_|refine lexE ?_|refine rD (by kernel_rfl) (by kernel_rfl) ?_|(refine aC rfl ?_ ?_<;>intro hb<;>cases hb)|refine aK ?_|refine aE ?_|refine aB ?_|refine AWp.ret ⟨_,rfl,?_⟩)
    all_goals first
      | (rw [if_pos (by grind)] at hst
         (repeat first|refine sN rfl ?_|((first|refine sA rfl ?_ ?_|refine s4 rfl ‹_› rfl ?_ ?_);first|exact tI|omega|(simp only[oZ] at *;omega))|(refine s2 rfl ?_;intro _ _hb)|(refine s3 rfl ?_ ?_<;>intro hb<;>subst hb)|refine aS ?_|refine reg (by kernel_rfl) ?_|refine lexE ?_|refine rD (by kernel_rfl) (by kernel_rfl) ?_)
         (refine popO rfl ?_;refine popW ?_ rfl (by rfl);refine n_append rfl rfl rfl (by first|(simp;done)|(simp;(first|omega|(simp only[oZ] at *;omega)))) rfl (by intro r hr;simp at hr;subst hr;rfl) (by rfl) (Nat.le_of_ble_eq_true rfl) (by have:=hlen k;simp;omega) ?_)
         (repeat first|refine sN rfl ?_|((first|refine sX rfl ?_ ?_|refine s4 rfl ‹_› rfl ?_ ?_);first|exact tI|omega|(simp only[oZ] at *;omega))|(refine s2 rfl ?_;intro _ _hb)|(refine s3 rfl ?_ ?_<;>intro hb<;>subst hb)|refine aS ?_|refine reg (by kernel_rfl) ?_|refine lexE ?_|refine rD (by kernel_rfl) (by kernel_rfl) ?_)
         refine ⟨⟨k+1,by first|omega|(simp only[oZ] at *;omega)⟩,by dsimp only;(first|omega|(simp only[oZ] at *;omega)),[1],?_⟩
         simp[cX,zC,hΓ,hst]
         done)
      | (rw [if_neg (by grind),List.append_nil] at hst
         refine ⟨⟨k+1,by first|omega|(simp only[oZ] at *;omega)⟩,by dsimp only;(first|omega|(simp only[oZ] at *;omega)),[0],?_⟩
         simp[cX,zC,hΓ,hst]
         done)
  · obtain rfl:k=s.es.length:=by first|omega|(simp only[oZ] at *;omega)
    refine AWp.exit ?_
    (repeat first|refine sN rfl ?_|((first|refine sM rfl ?_ ?_|refine s4 rfl ‹_› rfl ?_ ?_);first|exact tI|omega|(simp only[oZ] at *;omega))|(refine s2 rfl ?_;intro _ _hb)|(refine s3 rfl ?_ ?_<;>intro hb<;>subst hb)|refine aS ?_|refine reg (by kernel_rfl) ?_|refine lexE ?_|refine rD (by kernel_rfl) (by kernel_rfl) ?_)
    refine AWp.freeze [0] [(8,.o (.d (iList (sysTo s q l))))] ⟨⟨_,rfl,.o (.full (by simp) rfl (by simp [Function.comp_def]) (by simp))⟩,trivial⟩ ?_
    refine AWp.ret ⟨_,rfl,rfl⟩
end Go.Am
namespace Go.Am
open Go Go.Proofs
set_option maxHeartbeats 1000000
attribute [local irreducible] QOp AOp Lex LexO AWp Spec
variable {TB:Amb}
theorem l4Choices_ok {n:Net} (hn:NetOk n) {st:List Int} (hf:Fits (sizesN n) st) {l:Int} (h0:0≤l) (h1:l < 6) {i:Nat} {c:List Int} {q:Int} (hc:(choL n st l)[i]? = some c) (hq:st[i]? = some q) :
    Pure Tryz.prog TB 164 [eNet n,eI .i64 i,eI .i64 q,eI .i64 l] (eInts c):=by
  have hlen:=hf.len
  unfold sizesN at hlen
  simp only [List.length_append,List.length_map] at hlen
  have hsq:=(hf.get i)
  have hlz:(n.ps.zipWith (fun s q=>sysTo s q l) st).length=n.ps.length:=by rw [List.length_zipWith];omega
  have hiq:=(List.getElem?_eq_some_iff.1 hq).1
  unfold choL at hc
  by_cases hi:i < n.ps.length
  · rw [List.getElem?_append_left (by omega)] at hc
    obtain ⟨s,hs⟩:=get_some hi
    rw [List.getElem?_zipWith,hs,hq] at hc
    simp only [Option.some.injEq] at hc
    subst hc
    have h2:=hsq s.st q (by unfold sizesN;rw [List.getElem?_append_left (by simpa using hi)];simp [hs]) hq
    exact l4ChoicesS_ok n i s q l hs (hn.ps s (List.mem_of_getElem? hs)) h2.1 h2.2 h0 h1 hn.np
  · obtain ⟨j,rfl⟩:∃j,i=n.ps.length+j:=⟨i - n.ps.length,by omega⟩
    rw [List.getElem?_append_right (by omega),hlz] at hc
    have e:n.ps.length+j - n.ps.length=j:=by omega
    rw [e] at hc
    have hj:j < n.au.length:=by omega
    obtain ⟨a,ha⟩:=get_some hj
    rw [List.getElem?_zipWith,ha,List.getElem?_drop,hq] at hc
    simp only [Option.some.injEq] at hc
    subst hc
    have h2:=hsq a.nx.length q (by unfold sizesN;rw [List.getElem?_append_right (by simp)];simp [ha]) hq
    have h3:=l4ChoicesA_ok (TB:=TB) n j a q.toNat l ha (hn.au a (List.mem_of_getElem? ha)) (by omega) h0 h1 hn.np hn.na
    have e2:((q.toNat:Nat):Int)=q:=by omega
    rw [e2] at h3
    push_cast
    exact h3
theorem nexts_bound {n:Net} (hn:NetOk n) {st:List Int} (hf:Fits (sizesN n) st) {l:Int} (h0:0≤l) (h1:l < 6) (k:Nat) :
    (∀v∈mixN ((sizesN n).take k) ((choL n st l).take k) [0],0≤v∧v < 1048576)∧(mixN ((sizesN n).take k) ((choL n st l).take k) [0]).length≤1048576:=by
  have h2:=mixN_in ((choL_ok hn hf h0 h1).take k) [0] 1 (by simp) (by omega) (by simp)
  have h3:=(hf.take k).2
  have h4:=prod_le hn
  rw [Int.one_mul] at h2
  exact ⟨fun v hv=>by have:=h2.1 v hv;omega,by omega⟩
theorem l4Nexts_ok {n:Net} (hn:NetOk n) {st:List Int} (hf:Fits (sizesN n) st) {l:Int} (h0:0≤l) (h1:l < 6) :
    Pure Tryz.prog TB 151 [eNet n,eInts (sizesN n),eInts st,eI .i64 l] (eInts (nextsN n (sizesN n) st l)):=by
  have hch:=choL_ok hn hf h0 h1
  have hbd:=nexts_bound hn hf h0 h1
  have hpr:=prod_le hn
  have hfl:=hf.len
  have hcl:=hch.len
  unfold nextsN
  have hcall:∀(i:Nat) (c:List Int) (q:Int),(choL n st l)[i]? = some c→st[i]? = some q→Pure Tryz.prog TB 164 [eNet n,eI .i64 i,eI .i64 q,eI .i64 l] (eInts c):=fun i c q=>l4Choices_ok hn hf h0 h1
  have hzl:(sizesN n).length≤5:=by unfold sizesN;have:=hn.np;have:=hn.na;simp;omega
  have hpos:=sizes_pos hn
  generalize choL n st l=cs at *
  generalize sizesN n=zs at *
  refine eN Tryz.func151 rfl (by kernel_rfl) rfl ?_;intro Γ hΓ
  (repeat first|refine sN rfl ?_|((first|refine sM rfl ?_ ?_|refine s4 rfl ‹_› rfl ?_ ?_);first|exact tI|omega|(simp only[oZ] at *;omega))|(refine s2 rfl ?_;intro _ _hb)|(refine s3 rfl ?_ ?_<;>intro hb<;>subst hb)|refine aS ?_|refine reg (by kernel_rfl) ?_|refine lexE ?_|refine rD (by kernel_rfl) (by kernel_rfl) ?_)
  (refine popO rfl ?_;refine popS (fun _ _=>q_boxI rfl rfl rfl) rfl ?_)
  (refine popO rfl ?_;refine popS (fun _ _=>q_assign rfl) rfl ?_)
  (repeat first|refine sN rfl ?_|((first|refine sA rfl ?_ ?_|refine s4 rfl ‹_› rfl ?_ ?_);first|exact tI|omega|(simp only[oZ] at *;omega))|(refine s2 rfl ?_;intro _ _hb)|(refine s3 rfl ?_ ?_<;>intro hb<;>subst hb)|refine aS ?_|refine reg (by kernel_rfl) ?_|refine lexE ?_|refine rD (by kernel_rfl) (by kernel_rfl) ?_)
  refine AWp.block ?_
  refine AWp.loopL (α:={k:Nat // k≤zs.length}) (fun ⟨k,hk⟩=>[(1,eInts zs),(2,eInts st),(3,eI .i64 l),(4,.o (.ip (nRow n))),(9,eInts (mixN (zs.take k) (cs.take k) [0])),(10,eI .i64 k)]) (fun ⟨k,hk⟩=>[]) 0 (fun ⟨k,hk⟩=>zs.length - k) (⟨0,by omega⟩) [] (rl3 hΓ rfl rfl) (by (repeat' first|exact tI|rfl|refine And.intro ?_ ?_)<;>simp[cX,zC,hΓ,mixN]) ?_;rintro ⟨k,hk⟩;(try dsimp only)
  (repeat first|refine sN rfl ?_|((first|refine sA rfl ?_ ?_|refine s4 rfl ‹_› rfl ?_ ?_);first|exact tI|omega|(simp only[oZ] at *;omega))|(refine s2 rfl ?_;intro _ _hb)|(refine s3 rfl ?_ ?_<;>intro hb<;>subst hb)|refine aS ?_|refine reg (by kernel_rfl) ?_|refine lexE ?_|refine rD (by kernel_rfl) (by kernel_rfl) ?_)
  (refine aC rfl ?_ ?_<;>intro hb<;>cases hb)
  · obtain ⟨z,hz⟩:=get_some (l:=zs) (k:=k) (by first|omega|(simp only[oZ] at *;omega))
    have hz':=get_map (g:=iRow) hz
    obtain ⟨c,hc⟩:=get_some (l:=cs) (k:=k) (by first|omega|(simp only[oZ] at *;omega))
    obtain ⟨q,hq⟩:=get_some (l:=st) (k:=k) (by first|omega|(simp only[oZ] at *;omega))
    have hq':=get_map (g:=iRow) hq
    have hst:=mixN_step [0] hz hc
    have hb0:=hbd k
    have hb1:=(hbd (k+1)).2
    have hzz:=hpos z (List.mem_of_getElem? hz)
    obtain ⟨hcx,hcn⟩:=hch.get k z c hz hc
    rw [hst] at hb1
    generalize mixN (zs.take k) (cs.take k) [0]=out at *
    refine AWp.skip ?_
    refine AWp.seq (AWp.block ?_)
    (repeat first|refine sN rfl ?_|((first|refine sM rfl ?_ ?_|refine s4 rfl ‹_› rfl ?_ ?_);first|exact tI|omega|(simp only[oZ] at *;omega))|(refine s2 rfl ?_;intro _ _hb) |refine sP rfl (hcall k c q hc hq) rfl ?_|(refine s3 rfl ?_ ?_<;>intro hb<;>subst hb)|refine aS ?_|refine reg (by kernel_rfl) ?_|refine lexE ?_|refine rD (by kernel_rfl) (by kernel_rfl) ?_)
    (refine popO rfl ?_;refine popW ?_ rfl (by rfl);refine n_sliceB rfl rfl rfl rfl (by simp) (by rfl) (by rfl) (by rfl) (by rfl) ?_)
    (repeat first|refine sN rfl ?_|((first|refine sM rfl ?_ ?_|refine s4 rfl ‹_› rfl ?_ ?_);first|exact tI|omega|(simp only[oZ] at *;omega))|(refine s2 rfl ?_;intro _ _hb)|(refine s3 rfl ?_ ?_<;>intro hb<;>subst hb)|refine aS ?_|refine reg (by kernel_rfl) ?_|refine lexE ?_|refine rD (by kernel_rfl) (by kernel_rfl) ?_)
    refine AWp.block ?_
    have hlen:∀m,(((out.take m).flatMap fun o=>c.map fun x=>o*z+x).length:Int)≤16777216:=by
      intro m
      have h2:=flat_len (out.take m) (fun o=>c.map fun x=>o*z+x) 16 (fun x _=>by simp;omega)
      have h3:(out.take m).length≤out.length:=by simp;omega
      omega
    refine AWp.loopL (α:={m:Nat // m≤out.length}) (fun ⟨m,hm⟩=>[(1,eInts zs),(2,eInts st),(3,eI .i64 l),(4,.o (.ip (nRow n))),(9,eInts out),(10,eI .i64 k),(11,eInts c),(12,.o (.arr 0 1 0 ((out.take m).flatMap fun o=>c.map fun x=>o*z+x).length)),(13,eI .i64 m)]) (fun ⟨m,hm⟩=>[(0,.cells 3 1 (((out.take m).flatMap fun o=>c.map fun x=>o*z+x).map iRowC))]) 1 (fun ⟨m,hm⟩=>out.length - m) (⟨0,by omega⟩) [0] (rl3 hΓ rfl rfl) (by (repeat' first|exact tI|rfl|refine And.intro ?_ ?_)<;>simp[cX,zC,hΓ]) ?_;rintro ⟨m,hm⟩;(try dsimp only)
    (repeat first|refine sN rfl ?_|((first|refine sM rfl ?_ ?_|refine s4 rfl ‹_› rfl ?_ ?_);first|exact tI|omega|(simp only[oZ] at *;omega))|(refine s2 rfl ?_;intro _ _hb)|(refine s3 rfl ?_ ?_<;>intro hb<;>subst hb)|refine aS ?_|refine reg (by kernel_rfl) ?_|refine lexE ?_|refine rD (by kernel_rfl) (by kernel_rfl) ?_)
    (refine aC rfl ?_ ?_<;>intro hb<;>cases hb)
    · obtain ⟨o,ho⟩:=get_some (l:=out) (k:=m) (by first|omega|(simp only[oZ] at *;omega))
      have ho':=get_map (g:=iRow) ho
      have hob:=hb0.1 o (List.mem_of_getElem? ho)
      have hlm:=hlen m
      have h16:0≤o*z∧o*z≤16777216:=⟨Int.mul_nonneg hob.1 (by omega),by
        have h5:o*z≤o*16:=Int.mul_le_mul_of_nonneg_left hzz.2 hob.1
        omega⟩
      have hfm:(out.take (m+1)).flatMap (fun o=>c.map fun x=>o*z+x)=(out.take m).flatMap (fun o=>c.map fun x=>o*z+x)++c.map fun x=>o*z+x:=by
        rw [List.take_add_one,ho];simp
      refine AWp.skip ?_
      refine AWp.seq (AWp.block ?_)
      (repeat first|refine sN rfl ?_|((first|refine sM rfl ?_ ?_|refine s4 rfl ‹_› rfl ?_ ?_);first|exact tI|omega|(simp only[oZ] at *;omega))|(refine s2 rfl ?_;intro _ _hb)|(refine s3 rfl ?_ ?_<;>intro hb<;>subst hb)|refine aS ?_|refine reg (by kernel_rfl) ?_|refine lexE ?_|refine rD (by kernel_rfl) (by kernel_rfl) ?_)
      refine AWp.block ?_
      generalize (out.take m).flatMap (fun o=>c.map fun x=>o*z+x)=pre at *
      refine AWp.loopL (α:={j:Nat // j≤c.length}) (fun ⟨j,hj⟩=>[(1,eInts zs),(2,eInts st),(3,eI .i64 l),(4,.o (.ip (nRow n))),(9,eInts out),(10,eI .i64 k),(11,eInts c),(12,.o (.arr 0 1 0 (pre.length+j))),(13,eI .i64 m),(14,eI .i64 j)]) (fun ⟨j,hj⟩=>[(0,.cells 3 1 ((pre++(c.take j).map fun x=>o*z+x).map iRowC))]) 1 (fun ⟨j,hj⟩=>c.length - j) (⟨0,by omega⟩) [0] (rl3 hΓ rfl rfl) (by (repeat' first|exact tI|rfl|refine And.intro ?_ ?_)<;>simp[cX,zC,hΓ]) ?_;rintro ⟨j,hj⟩;(try dsimp only)
      (repeat first|refine sN rfl ?_|((first|refine sM rfl ?_ ?_|refine s4 rfl ‹_› rfl ?_ ?_);first|exact tI|omega|(simp only[oZ] at *;omega))|(refine s2 rfl ?_;intro _ _hb)|(refine s3 rfl ?_ ?_<;>intro hb<;>subst hb)|refine aS ?_|refine reg (by kernel_rfl) ?_|refine lexE ?_|refine rD (by kernel_rfl) (by kernel_rfl) ?_)
      (refine aC rfl ?_ ?_<;>intro hb<;>cases hb)
      · obtain ⟨x,hx⟩:=get_some (l:=c) (k:=j) (by first|omega|(simp only[oZ] at *;omega))
        have hx':=get_map (g:=iRow) hx
        have hxb:=hcx x (List.mem_of_getElem? hx)
        refine AWp.skip ?_
        refine AWp.seq (AWp.block ?_)
        refine regD (flN [16]) mixed (by kernel_rfl) (by kernel_rfl) ?_
        (repeat first|refine sN rfl ?_|((first|refine sA rfl ?_ ?_|refine s4 rfl ‹_› rfl ?_ ?_);first|exact tI|omega|(simp only[oZ] at *;omega))|(refine s2 rfl ?_;intro _ _hb)|(refine s3 rfl ?_ ?_<;>intro hb<;>subst hb)|refine aS ?_|refine reg (by kernel_rfl) ?_|refine lexE ?_|refine rD (by kernel_rfl) (by kernel_rfl) ?_)
        (refine popO rfl ?_;refine popW ?_ rfl (by rfl);refine n_append rfl rfl rfl (by first|(simp;done)|(simp;(first|omega|(simp only[oZ] at *;omega)))) rfl (by intro r hr;simp at hr;subst hr;rfl) (by rfl) (Nat.le_of_ble_eq_true rfl) (by simp;first|omega|(simp only[oZ] at *;omega)) ?_)
        (repeat first|refine sN rfl ?_|((first|refine sX rfl ?_ ?_|refine s4 rfl ‹_› rfl ?_ ?_);first|exact tI|omega|(simp only[oZ] at *;omega))|(refine s2 rfl ?_;intro _ _hb)|(refine s3 rfl ?_ ?_<;>intro hb<;>subst hb)|refine aS ?_|refine reg (by kernel_rfl) ?_|refine lexE ?_|refine rD (by kernel_rfl) (by kernel_rfl) ?_)
        refine ⟨⟨j+1,by first|omega|(simp only[oZ] at *;omega)⟩,by dsimp only;(first|omega|(simp only[oZ] at *;omega)),[1],?_⟩
        simp[cX,zC,hΓ,List.take_add_one,hx,Nat.add_assoc]
      · obtain rfl:j=c.length:=by first|omega|(simp only[oZ] at *;omega)
        refine AWp.exit ?_
        (repeat first|refine sN rfl ?_|((first|refine sM rfl ?_ ?_|refine s4 rfl ‹_› rfl ?_ ?_);first|exact tI|omega|(simp only[oZ] at *;omega))|(refine s2 rfl ?_;intro _ _hb)|(refine s3 rfl ?_ ?_<;>intro hb<;>subst hb)|refine aS ?_|refine reg (by kernel_rfl) ?_|refine lexE ?_|refine rD (by kernel_rfl) (by kernel_rfl) ?_)
        refine ⟨⟨m+1,by first|omega|(simp only[oZ] at *;omega)⟩,by dsimp only;(first|omega|(simp only[oZ] at *;omega)),[0],?_⟩
        simp[cX,zC,hΓ,hfm]
    · obtain rfl:m=out.length:=by first|omega|(simp only[oZ] at *;omega)
      refine AWp.exit ?_
      rw [List.take_length] at *
      refine AWp.freeze [0] [(1,eInts zs),(2,eInts st),(3,eI .i64 l),(4,.o (.ip (nRow n))),(10,eI .i64 k),(12,eInts (out.flatMap fun o=>c.map fun x=>o*z+x))] ⟨⟨_,rfl,.keep⟩,⟨_,rfl,.keep⟩,⟨_,rfl,.keep⟩,⟨_,rfl,.keep⟩,⟨_,rfl,.keep⟩,⟨_,rfl,.o (.full (by simp) rfl (by simp [Function.comp_def]) (by simp))⟩,trivial⟩ ?_
      (repeat first|refine sN rfl ?_|((first|refine sA rfl ?_ ?_|refine s4 rfl ‹_› rfl ?_ ?_);first|exact tI|omega|(simp only[oZ] at *;omega))|(refine s2 rfl ?_;intro _ _hb)|(refine s3 rfl ?_ ?_<;>intro hb<;>subst hb)|refine aS ?_|refine reg (by kernel_rfl) ?_|refine lexE ?_|refine rD (by kernel_rfl) (by kernel_rfl) ?_)
      refine ⟨⟨k+1,by first|omega|(simp only[oZ] at *;omega)⟩,by dsimp only;(first|omega|(simp only[oZ] at *;omega)),[],?_⟩
      simp[cX,zC,hΓ,hst]
  · obtain rfl:k=zs.length:=by first|omega|(simp only[oZ] at *;omega)
    rw [List.take_of_length_le (by omega),List.take_of_length_le (by omega)]
    (repeat' first|refine sN rfl ?_|((first|refine sA rfl ?_ ?_|refine s4 rfl ‹_› rfl ?_ ?_);first|exact tI|omega|(simp only[oZ] at *;omega))|(refine s2 rfl ?_;intro _ _hb)|(refine s3 rfl ?_ ?_<;>intro hb<;>subst hb)|refine aS ?_|refine reg (by kernel_rfl) ?_|refine lexE ?_|refine rD (by kernel_rfl) (by kernel_rfl) ?_|(refine aC rfl ?_ ?_<;>intro hb<;>cases hb)|refine aK ?_|refine aE ?_|refine aB ?_|refine AWp.ret ⟨_,rfl,?_⟩)
    all_goals rfl
end Go.Am
namespace Go.Am
open Go Go.Proofs
set_option maxHeartbeats 1000000
attribute [local irreducible] QOp AOp Lex LexO AWp Spec
variable {TB:Amb}
abbrev iiiRowC (l:List (List Int)):List C:=[.d (iiList l)]
abbrev eIntsss (l:List (List (List Int))):E:=.o (.d (iiiList l))
theorem lettersTo_in {s:Int} {k:Nat} {l:Int} (h:l∈lettersTo s k):0≤l∧l < k∧bitB s l.toNat=true:=by
  unfold lettersTo at h
  obtain ⟨i,hi,rfl⟩:=List.mem_map.1 h
  obtain ⟨h1,h2⟩:=List.mem_filter.1 hi
  have:=List.mem_range.1 h1
  exact ⟨Int.natCast_nonneg _,by show ((i:Nat):Int) < k;omega,h2⟩
theorem prodI_pos:∀ {l:List Int},(∀z∈l,0 < z)→0 < prodI l
  | [],_=>by simp [prodI]
  | a::l,h=>Int.mul_pos (h a (by simp)) (prodI_pos fun z hz=>h z (by simp [hz]))
theorem decN_fits:∀ {zs:List Int} (_:∀z∈zs,0 < z) (n:Int),Fits zs (decN zs n)
  | [],_,_=>.nil
  | z::zs,h,n=>by
    have hz:=h z (by simp)
    exact .cons (Int.emod_nonneg _ (by omega)) (Int.emod_lt_of_pos _ hz) (decN_fits (fun x hx=>h x (by simp [hx])) n)
def rowN (n:Net) (x:Nat):List (List Int):=(letters n.ls).map fun l=>nextsN n (sizesN n) (decN (sizesN n) x) l
def movesN (n:Net) (tot:Nat):List (List (List Int)):=(List.range tot).map (rowN n)
theorem movesN_get {n:Net} {tot i:Nat} (h:i < tot):(movesN n tot)[i]? = some (rowN n i):=by simp [movesN,h]
theorem sizesN_len {n:Net} (hn:NetOk n):(sizesN n).length≤5:=by unfold sizesN;have:=hn.np;have:=hn.na;simp;omega
theorem l4Moves_ok {n:Net} (hn:NetOk n) (tot:Nat) (ht:tot≤1048576):Pure Tryz.prog TB 129 [eNet n,eInts (sizesN n),eI .i64 tot] (eIntsss (movesN n tot)):=by
  have hzl:=sizesN_len hn
  have hpos:=sizes_pos hn
  have hdec:∀(x:Nat),x < tot→Pure Tryz.prog TB 131 [eInts (sizesN n),eI .i64 x] (eInts (decN (sizesN n) x)):=fun x hx=>
    l4Decode_ok _ _ (by omega) (by omega) (fun z hz=>by have:=hpos z hz;omega) (by omega)
  have hnx:∀(x:Nat) (l:Int),l∈letters n.ls→Pure Tryz.prog TB 151 [eNet n,eInts (sizesN n),eInts (decN (sizesN n) x),eI .i64 l] (eInts (nextsN n (sizesN n) (decN (sizesN n) x) l)):=fun x l hl=>by
    have h1:=lettersTo_in hl
    exact l4Nexts_ok hn (decN_fits (fun z hz=>by have:=hpos z hz;omega) _) (by omega) (by omega)
  have hll:(letters n.ls).length≤6:=lettersTo_len n.ls 6
  unfold movesN
  refine eN Tryz.func129 rfl (by kernel_rfl) rfl ?_;intro Γ hΓ
  (repeat first|refine sN rfl ?_|((first|refine sM rfl ?_ ?_|refine s4 rfl ‹_› rfl ?_ ?_);first|exact tI|omega|(simp only[oZ] at *;omega))|(refine s2 rfl ?_;intro _ _hb)|(refine s3 rfl ?_ ?_<;>intro hb<;>subst hb)|refine aS ?_|refine reg (by kernel_rfl) ?_|refine lexE ?_|refine rD (by kernel_rfl) (by kernel_rfl) ?_)
  (refine popO rfl ?_;refine popS (fun _ _=>q_boxI rfl rfl rfl) rfl ?_)
  (refine popO rfl ?_;refine popS (fun _ _=>q_assign rfl) rfl ?_)
  (repeat first|refine sN rfl ?_|((first|refine sM rfl ?_ ?_|refine s4 rfl ‹_› rfl ?_ ?_);first|exact tI|omega|(simp only[oZ] at *;omega))|(refine s2 rfl ?_;intro _ _hb)|(refine s3 rfl ?_ ?_<;>intro hb<;>subst hb)|refine aS ?_|refine reg (by kernel_rfl) ?_|refine lexE ?_|refine rD (by kernel_rfl) (by kernel_rfl) ?_)
  (refine popO rfl ?_;refine popW ?_ rfl (by rfl);refine n_sliceB rfl rfl rfl rfl (by simp) (by rfl) (by rfl) (by rfl) (by rfl) ?_)
  (repeat first|refine sN rfl ?_|((first|refine sM rfl ?_ ?_|refine s4 rfl ‹_› rfl ?_ ?_);first|exact tI|omega|(simp only[oZ] at *;omega))|(refine s2 rfl ?_;intro _ _hb) |refine sP rfl (l1Letters_ok n.ls) rfl ?_|(refine s3 rfl ?_ ?_<;>intro hb<;>subst hb)|refine aS ?_|refine reg (by kernel_rfl) ?_|refine lexE ?_|refine rD (by kernel_rfl) (by kernel_rfl) ?_)
  refine AWp.block ?_
  refine AWp.loopL (α:={k:Nat // k≤tot}) (fun ⟨k,hk⟩=>[(1,eInts (sizesN n)),(2,eI .i64 tot),(3,.o (.ip (nRow n))),(7,.o (.arr 0 1 0 k)),(8,eInts (letters n.ls)),(9,eI .i64 k)]) (fun ⟨k,hk⟩=>[(0,.cells 23 1 (((List.range k).map (rowN n)).map iiiRowC))]) 1 (fun ⟨k,hk⟩=>tot - k) (⟨0,by omega⟩) [0] (rl3 hΓ rfl rfl) (by (repeat' first|exact tI|rfl|refine And.intro ?_ ?_)<;>simp[cX,zC,hΓ]) ?_;rintro ⟨k,hk⟩;(try dsimp only)
  (repeat first|refine sN rfl ?_|((first|refine sM rfl ?_ ?_|refine s4 rfl ‹_› rfl ?_ ?_);first|exact tI|omega|(simp only[oZ] at *;omega))|(refine s2 rfl ?_;intro _ _hb)|(refine s3 rfl ?_ ?_<;>intro hb<;>subst hb)|refine aS ?_|refine reg (by kernel_rfl) ?_|refine lexE ?_|refine rD (by kernel_rfl) (by kernel_rfl) ?_)
  (refine aC rfl ?_ ?_<;>intro hb<;>cases hb)
  · have hk2:k < tot:=by first|omega|(simp only[oZ] at *;omega)
    refine AWp.skip ?_
    refine AWp.seq (AWp.block ?_)
    (repeat first|refine sN rfl ?_|((first|refine sM rfl ?_ ?_|refine s4 rfl ‹_› rfl ?_ ?_);first|exact tI|omega|(simp only[oZ] at *;omega))|(refine s2 rfl ?_;intro _ _hb) |refine sP rfl (hdec k hk2) rfl ?_|(refine s3 rfl ?_ ?_<;>intro hb<;>subst hb)|refine aS ?_|refine reg (by kernel_rfl) ?_|refine lexE ?_|refine rD (by kernel_rfl) (by kernel_rfl) ?_)
    (refine popO rfl ?_;refine popW ?_ rfl (by rfl);refine n_sliceB rfl rfl rfl rfl (by simp) (by rfl) (by rfl) (by rfl) (by rfl) ?_)
    (repeat first|refine sN rfl ?_|((first|refine sM rfl ?_ ?_|refine s4 rfl ‹_› rfl ?_ ?_);first|exact tI|omega|(simp only[oZ] at *;omega))|(refine s2 rfl ?_;intro _ _hb)|(refine s3 rfl ?_ ?_<;>intro hb<;>subst hb)|refine aS ?_|refine reg (by kernel_rfl) ?_|refine lexE ?_|refine rD (by kernel_rfl) (by kernel_rfl) ?_)
    refine AWp.block ?_
    generalize hL:letters n.ls=ls at *
    refine AWp.loopL (α:={m:Nat // m≤ls.length}) (fun ⟨m,hm⟩=>[(1,eInts (sizesN n)),(2,eI .i64 tot),(3,.o (.ip (nRow n))),(7,.o (.arr 0 1 0 k)),(8,eInts ls),(9,eI .i64 k),(10,eInts (decN (sizesN n) k)),(11,.o (.arr 1 1 0 m)),(12,eI .i64 m)]) (fun ⟨m,hm⟩=>[(0,.cells 23 1 (((List.range k).map (rowN n)).map iiiRowC)),(1,.cells 61 1 (((ls.take m).map fun l=>nextsN n (sizesN n) (decN (sizesN n) k) l).map iiRowC))]) 2 (fun ⟨m,hm⟩=>ls.length - m) (⟨0,by omega⟩) [0,1] (rl3 hΓ rfl rfl) (by (repeat' first|exact tI|rfl|refine And.intro ?_ ?_)<;>simp[cX,zC,hΓ]) ?_;rintro ⟨m,hm⟩;(try dsimp only)
    (repeat first|refine sN rfl ?_|((first|refine sM rfl ?_ ?_|refine s4 rfl ‹_› rfl ?_ ?_);first|exact tI|omega|(simp only[oZ] at *;omega))|(refine s2 rfl ?_;intro _ _hb)|(refine s3 rfl ?_ ?_<;>intro hb<;>subst hb)|refine aS ?_|refine reg (by kernel_rfl) ?_|refine lexE ?_|refine rD (by kernel_rfl) (by kernel_rfl) ?_)
    (refine aC rfl ?_ ?_<;>intro hb<;>cases hb)
    · obtain ⟨x,hx⟩:=get_some (l:=ls) (k:=m) (by first|omega|(simp only[oZ] at *;omega))
      have hx':=get_map (g:=iRow) hx
      have hxm:=hnx k x (List.mem_of_getElem? hx)
      refine AWp.skip ?_
      refine AWp.seq (AWp.block ?_)
      refine regD (flN [10]) mixed (by kernel_rfl) (by kernel_rfl) ?_
      (repeat first|refine sN rfl ?_|((first|refine sA rfl ?_ ?_|refine s4 rfl ‹_› rfl ?_ ?_);first|exact tI|omega|(simp only[oZ] at *;omega))|(refine s2 rfl ?_;intro _ _hb) |refine sP rfl (hxm) rfl ?_|(refine s3 rfl ?_ ?_<;>intro hb<;>subst hb)|refine aS ?_|refine reg (by kernel_rfl) ?_|refine lexE ?_|refine rD (by kernel_rfl) (by kernel_rfl) ?_)
      (refine popO rfl ?_;refine popW ?_ rfl (by rfl);refine n_append rfl rfl rfl (by first|(simp;done)|(simp;(first|omega|(simp only[oZ] at *;omega)))) rfl (by intro r hr;simp at hr;subst hr;rfl) (by rfl) (Nat.le_of_ble_eq_true rfl) (by simp;first|omega|(simp only[oZ] at *;omega)) ?_)
      (repeat first|refine sN rfl ?_|((first|refine sX rfl ?_ ?_|refine s4 rfl ‹_› rfl ?_ ?_);first|exact tI|omega|(simp only[oZ] at *;omega))|(refine s2 rfl ?_;intro _ _hb)|(refine s3 rfl ?_ ?_<;>intro hb<;>subst hb)|refine aS ?_|refine reg (by kernel_rfl) ?_|refine lexE ?_|refine rD (by kernel_rfl) (by kernel_rfl) ?_)
      refine ⟨⟨m+1,by first|omega|(simp only[oZ] at *;omega)⟩,by dsimp only;(first|omega|(simp only[oZ] at *;omega)),[0,2],?_⟩
      simp[cX,zC,hΓ,List.take_add_one,hx,Nat.add_assoc]
    · obtain rfl:m=ls.length:=by first|omega|(simp only[oZ] at *;omega)
      refine AWp.exit ?_
      rw [List.take_length] at *
      have hrow:ls.map (fun l=>nextsN n (sizesN n) (decN (sizesN n) k) l)=rowN n k:=by rw [←hL];rfl
      rw [hrow]
      have hrl:(rowN n k).length=ls.length:=by rw [←hrow];simp
      refine AWp.freeze [1] [(1,eInts (sizesN n)),(2,eI .i64 tot),(3,.o (.ip (nRow n))),(7,.o (.arr 0 1 0 k)),(8,eInts ls),(9,eI .i64 k),(11,eIntss (rowN n k))] ⟨⟨_,rfl,.keep⟩,⟨_,rfl,.keep⟩,⟨_,rfl,.keep⟩,⟨_,rfl,.keep⟩,⟨_,rfl,.keep⟩,⟨_,rfl,.keep⟩,⟨_,rfl,.o (.full (by simp) rfl (by simp [Function.comp_def]) (by simp [hrl]))⟩,trivial⟩ ?_
      (repeat first|refine sN rfl ?_|((first|refine sA rfl ?_ ?_|refine s4 rfl ‹_› rfl ?_ ?_);first|exact tI|omega|(simp only[oZ] at *;omega))|(refine s2 rfl ?_;intro _ _hb)|(refine s3 rfl ?_ ?_<;>intro hb<;>subst hb)|refine aS ?_|refine reg (by kernel_rfl) ?_|refine lexE ?_|refine rD (by kernel_rfl) (by kernel_rfl) ?_)
      (refine popO rfl ?_;refine popW ?_ rfl (by rfl);refine n_append rfl rfl rfl (by first|(simp;done)|(simp;(first|omega|(simp only[oZ] at *;omega)))) rfl (by intro r hr;simp at hr;subst hr;rfl) (by rfl) (Nat.le_of_ble_eq_true rfl) (by simp;first|omega|(simp only[oZ] at *;omega)) ?_)
      (repeat first|refine sN rfl ?_|((first|refine sX rfl ?_ ?_|refine s4 rfl ‹_› rfl ?_ ?_);first|exact tI|omega|(simp only[oZ] at *;omega))|(refine s2 rfl ?_;intro _ _hb)|(refine s3 rfl ?_ ?_<;>intro hb<;>subst hb)|refine aS ?_|refine reg (by kernel_rfl) ?_|refine lexE ?_|refine rD (by kernel_rfl) (by kernel_rfl) ?_)
      refine ⟨⟨k+1,by first|omega|(simp only[oZ] at *;omega)⟩,by dsimp only;(first|omega|(simp only[oZ] at *;omega)),[2],?_⟩
      simp[cX,zC,hΓ,List.range_succ]
  · obtain rfl:k=tot:=by first|omega|(simp only[oZ] at *;omega)
    refine AWp.exit ?_
    (repeat first|refine sN rfl ?_|((first|refine sM rfl ?_ ?_|refine s4 rfl ‹_› rfl ?_ ?_);first|exact tI|omega|(simp only[oZ] at *;omega))|(refine s2 rfl ?_;intro _ _hb)|(refine s3 rfl ?_ ?_<;>intro hb<;>subst hb)|refine aS ?_|refine reg (by kernel_rfl) ?_|refine lexE ?_|refine rD (by kernel_rfl) (by kernel_rfl) ?_)
    refine AWp.freeze [0] [(6,eIntsss ((List.range k).map (rowN n)))] ⟨⟨_,rfl,.o (.full (by simp) rfl (by simp [Function.comp_def]) (by simp))⟩,trivial⟩ ?_
    refine AWp.ret ⟨_,rfl,rfl⟩
end Go.Am
namespace Go.Am
open Go Go.Proofs
set_option maxHeartbeats 1000000
attribute [local irreducible] QOp AOp Lex LexO AWp Spec
variable {TB:Amb}
def okN (n:Net) (st:List Int) (i:Nat):Bool:=((n.au[i]?.map (·.ac)).getD []).getD (st.getD (n.ps.length+i) 0).toNat false
def foundN (n:Net) (st:List Int) (mv:List (List Int)):Bool:=
  if n.kd=0 then okN n st 0 else if n.kd=1 then okN n st 0 != okN n st 1 else if n.kd=2 then okN n st 0 && !okN n st 1 else if n.kd=3 then !okN n st 0 else
  if n.kd=5 then decide (st.getD n.ps.length 0=n.gl) else mv.all (·.isEmpty)
structure KdOk (n:Net):Prop where
  one:n.kd=0∨n.kd=3∨n.kd=5→1≤n.au.length
  two:n.kd=1∨n.kd=2→2≤n.au.length
theorem l4Ok_ok' {n:Net} (hn:NetOk n) {st:List Int} (hf:Fits (sizesN n) st) (i:Nat) (hi:i < n.au.length):Pure Tryz.prog TB 152 [eNet n,eInts st,eI .i64 i] (eB (okN n st i)):=by
  obtain ⟨a,ha⟩:=get_some hi
  have hok:=hn.au a (List.mem_of_getElem? ha)
  have h1:=autOk_head hok
  have hz:(sizesN n)[n.ps.length+i]? = some (a.nx.length:Int):=by unfold sizesN;rw [List.getElem?_append_right (by simp)];simp [ha]
  have hlen:=hf.len
  obtain ⟨q,hq⟩:=get_some (l:=st) (k:=n.ps.length+i) (by have:=(List.getElem?_eq_some_iff.1 hz).1;omega)
  have h2:=hf.get _ _ _ hz hq
  obtain ⟨b,hb⟩:=get_some (l:=a.ac) (k:=q.toNat) (by omega)
  have h3:=l4Ok_ok (TB:=TB) n st i a q b ha hq h2.1 hb
  have h4:okN n st i=b:=by simp [okN,ha,List.getD,hq,hb]
  rw [h4];exact h3
theorem l4Found_ok {n:Net} (hn:NetOk n) (hk:KdOk n) {st:List Int} (hf:Fits (sizesN n) st) (mv:List (List Int)):Pure Tryz.prog TB 130 [eNet n,eInts st,eIntss mv] (eB (foundN n st mv)):=by
  have h0:=l4Ok_ok' (TB:=TB) hn hf 0
  have h1:=l4Ok_ok' (TB:=TB) hn hf 1
  have hk1:=hk.one
  have hk2:=hk.two
  have hnp:=hn.np
  have hna:=hn.na
  have hst:n.ps.length+n.au.length=st.length:=by have:=hf.len;unfold sizesN at this;simpa using this
  have hat:n.kd=5→(st.map iRow)[((n.ps.length:Nat):Int).toNat]? = some (iRow (st.getD n.ps.length 0)):=by
    intro h5
    obtain ⟨x,hx⟩:=get_some (l:=st) (k:=n.ps.length) (by omega)
    rw [get_map (g:=iRow) hx];simp [List.getD,hx]
  refine eN Tryz.func130 rfl (by kernel_rfl) rfl ?_;intro Γ hΓ
  refine AWp.bound 2 rfl fun hB0=>?_
  have hB:=hB0 (mv.map iiRow) .refl
  (repeat' first|refine sN rfl ?_|((first|refine sA rfl ?_ ?_|refine s4 rfl ‹_› rfl ?_ ?_);first|exact tI|omega|(simp only[oZ] at *;omega))|(refine s2 rfl ?_;intro _ _hb) |(refine sC rfl (h0 (by first|omega|(simp only[oZ] at *;omega))) ?_;intro _ _hb)|(refine sC rfl (h1 (by first|omega|(simp only[oZ] at *;omega))) ?_;intro _ _hb)|(refine s3 rfl ?_ ?_<;>intro hb<;>subst hb)|refine aS ?_|refine reg (by kernel_rfl) ?_|refine lexE ?_|refine rD (by kernel_rfl) (by kernel_rfl) ?_|(refine aC rfl ?_ ?_<;>intro hb<;>cases hb)|refine aK ?_|refine aE ?_|refine aB ?_|refine AWp.ret ⟨_,rfl,?_⟩)
  all_goals try (show E.o _=E.o _;congr;unfold foundN;grind)
  · have hat:=hat (by grind)
    (repeat' first|refine sN rfl ?_|((first|refine sA rfl ?_ ?_|refine s4 rfl ‹_› rfl ?_ ?_);first|exact tI|omega|(simp only[oZ] at *;omega))|(refine s2 rfl ?_;intro _ _hb)|(refine s3 rfl ?_ ?_<;>intro hb<;>subst hb)|refine aS ?_|refine reg (by kernel_rfl) ?_|refine lexE ?_|refine rD (by kernel_rfl) (by kernel_rfl) ?_|(refine aC rfl ?_ ?_<;>intro hb<;>cases hb)|refine aK ?_|refine aE ?_|refine aB ?_|refine AWp.ret ⟨_,rfl,?_⟩)
    show E.o _=E.o _;congr;unfold foundN;grind
  refine AWp.loopL (α:={k:Nat // k≤mv.length∧(mv.take k).all (·.isEmpty)=true}) (fun ⟨k,hk,ha⟩=>[(2,eIntss mv),(7,eI .i64 k)]) (fun ⟨k,hk,ha⟩=>[]) 0 (fun ⟨k,hk,ha⟩=>mv.length - k) (⟨0,by omega,rfl⟩) [] (rl3 hΓ rfl rfl) (by (repeat' first|exact tI|rfl|refine And.intro ?_ ?_)<;>simp[cX,zC,hΓ]) ?_;rintro ⟨k,hk,ha⟩;(try dsimp only)
  (repeat first|refine sN rfl ?_|((first|refine sA rfl ?_ ?_|refine s4 rfl ‹_› rfl ?_ ?_);first|exact tI|omega|(simp only[oZ] at *;omega))|(refine s2 rfl ?_;intro _ _hb)|(refine s3 rfl ?_ ?_<;>intro hb<;>subst hb)|refine aS ?_|refine reg (by kernel_rfl) ?_|refine lexE ?_|refine rD (by kernel_rfl) (by kernel_rfl) ?_)
  (refine aC rfl ?_ ?_<;>intro hb<;>cases hb)
  · obtain ⟨x,hx⟩:=get_some (l:=mv) (k:=k) (by first|omega|(simp only[oZ] at *;omega))
    have hx':=get_map (g:=iiRow) hx
    (repeat' first|refine sN rfl ?_|((first|refine sA rfl ?_ ?_|refine s4 rfl ‹_› rfl ?_ ?_);first|exact tI|omega|(simp only[oZ] at *;omega))|(refine s2 rfl ?_;intro _ _hb)|(refine s3 rfl ?_ ?_<;>intro hb<;>subst hb)|refine aS ?_|refine reg (by kernel_rfl) ?_|refine lexE ?_|refine rD (by kernel_rfl) (by kernel_rfl) ?_|(refine aC rfl ?_ ?_<;>intro hb<;>cases hb)|refine aK ?_|refine aE ?_|refine aB ?_|refine AWp.ret ⟨_,rfl,?_⟩)
    · have h3:=all_bad (f:=fun x:List Int=>x.isEmpty) hx (by cases x<;>grind)
      show E.o _=E.o _;congr;unfold foundN;grind
    · refine ⟨⟨k+1,by first|omega|(simp only[oZ] at *;omega),all_step hx ha (by cases x<;>grind)⟩,by dsimp only;(first|omega|(simp only[oZ] at *;omega)),[],?_⟩
      simp[cX,zC,hΓ]
  · (repeat' first|refine sN rfl ?_|((first|refine sA rfl ?_ ?_|refine s4 rfl ‹_› rfl ?_ ?_);first|exact tI|omega|(simp only[oZ] at *;omega))|(refine s2 rfl ?_;intro _ _hb)|(refine s3 rfl ?_ ?_<;>intro hb<;>subst hb)|refine aS ?_|refine reg (by kernel_rfl) ?_|refine lexE ?_|refine rD (by kernel_rfl) (by kernel_rfl) ?_|(refine aC rfl ?_ ?_<;>intro hb<;>cases hb)|refine aK ?_|refine aE ?_|refine aB ?_|refine AWp.ret ⟨_,rfl,?_⟩)
    have h3:=all_done ha (by first|omega|(simp only[oZ] at *;omega))
    show E.o _=E.o _;congr;unfold foundN;grind
end Go.Am
namespace Go.Am
open Go Go.Proofs
set_option maxHeartbeats 1000000
attribute [local irreducible] QOp AOp Lex LexO AWp Spec
variable {TB:Amb}
theorem get_mapA {α β:Type} {l:List α} {g:α→β} {k:Nat} {x:α} (h:l[k]? = some x):(l.map g)[0+((k:Nat):Int).toNat]? = some (g x):=by simp [h]
theorem set_mapI {l:List Int} {k:Nat} {x y:Int}:(l.map iRowC).set (0+((k:Nat):Int).toNat) (spliceC (iRowC x) 0 (eC (eI .i64 y)))=(l.set k y).map iRowC:=by
  simp [spliceC,eC,List.map_set]
def negN (l:List Int):Nat:=l.countP (decide <| · < 0)
theorem negN_set:∀ {l:List Int} {k:Nat} {x y:Int},l[k]? = some x→x < 0→0≤y→negN (l.set k y)+1=negN l
  | [],k,x,y,h,_,_=>by simp at h
  | a::l,0,x,y,h,hx,hy=>by
    simp at h;subst h
    have:¬y < 0:=by omega
    simp [negN,hx,this]
  | a::l,k+1,x,y,h,hx,hy=>by
    have:=negN_set (l:=l) (k:=k) (by simpa using h) hx hy
    simp only [negN,List.set_cons_succ,List.countP_cons] at this ⊢
    omega
theorem nearB_iff {mv:List (List Int)} {dist:List Int} {d:Int}:nearB mv dist d=true↔∃r∈mv,∃j∈r,dist.getD j.toNat 0=d:=by
  simp [nearB,atD]
structure DistOk (mv:List (List (List Int))) (g:Nat→Bool) (dist:List Int):Prop where
  len:dist.length=mv.length
  zero:∀i,i < mv.length→(dist.getD i 0=0↔g i=true)
  step:∀i,i < mv.length→0 < dist.getD i 0→∃r∈mv.getD i [],∃j∈r,dist.getD j.toNat 0=dist.getD i 0 - 1
  close:∀i,i < mv.length→∀r∈mv.getD i [],∀j∈r,0≤dist.getD j.toNat 0→0≤dist.getD i 0∧dist.getD i 0≤dist.getD j.toNat 0+1
  bound:∀i,i < mv.length→-1≤dist.getD i 0∧dist.getD i 0≤mv.length+1
structure DI (mv:List (List (List Int))) (g:Nat→Bool) (dist:List Int) (d:Int) (more:Bool) (i:Nat):Prop where
  len:dist.length=mv.length
  d1:1≤d
  zero:∀i,i < mv.length→(dist.getD i 0=0↔g i=true)
  step:∀i,i < mv.length→0 < dist.getD i 0→∃r∈mv.getD i [],∃j∈r,dist.getD j.toNat 0=dist.getD i 0 - 1
  lt:∀x,x < mv.length→-1≤dist.getD x 0∧dist.getD x 0≤d
  up:∀x,i≤x→x < mv.length→dist.getD x 0 < d
  last:more=false→∀x,x < mv.length→dist.getD x 0 < d
  close:∀x,x < mv.length→∀r∈mv.getD x [],∀j∈r,0≤dist.getD j.toNat 0→(dist.getD j.toNat 0 < d - 1∨x < i∧dist.getD j.toNat 0=d - 1)→0≤dist.getD x 0∧dist.getD x 0≤dist.getD j.toNat 0+1
def InAll (mv:List (List (List Int))):Prop:=∀x,x < mv.length→∀r∈mv.getD x [],∀j∈r,0≤j∧j < mv.length
theorem getD_set_eq {l:List Int} {k:Nat} {y:Int} (h:k < l.length):(l.set k y).getD k 0=y:=by simp [List.getD,h]
theorem getD_set_of_ne {l:List Int} {k x:Nat} {y:Int} (h:k≠x):(l.set k y).getD x 0=l.getD x 0:=by simp [List.getD,h]
theorem DI.set {mv:List (List (List Int))} {g:Nat→Bool} {dist:List Int} {d:Int} {more:Bool} {i:Nat} (h:DI mv g dist d more i) (hi:i < mv.length) (hneg:dist.getD i 0 < 0) (hn:nearB (mv.getD i []) dist (d - 1)=true):DI mv g (dist.set i d) d true (i+1):=by
  have hd1:=h.d1
  have hl:i < dist.length:=by rw [h.len];exact hi
  obtain ⟨r0,hr0,j0,hj0,hjd⟩:=nearB_iff.1 hn
  have g1:(dist.set i d).getD i 0=d:=getD_set_eq hl
  have g2:∀x,x≠i→(dist.set i d).getD x 0=dist.getD x 0:=fun x hx=>getD_set_of_ne (Ne.symm hx)
  have g3:∀x,0≤dist.getD x 0→(dist.set i d).getD x 0=dist.getD x 0:=fun x hx=>g2 x fun e=>by subst e;omega
  refine ⟨by simp [h.len],hd1,fun x hx=>?_,fun x hx hp=>?_,fun x hx=>?_,fun x hx hx'=>?_,fun hm=>(by cases hm),fun x hx r hr j hj hj0' hj1=>?_⟩
  · by_cases e:x=i
    · subst e;rw [g1,←h.zero x hx];constructor<;>intro<;>omega
    · rw [g2 x e];exact h.zero x hx
  · by_cases e:x=i
    · subst e;rw [g1] at hp ⊢
      exact ⟨r0,hr0,j0,hj0,by rw [g3 _ (by omega)];exact hjd⟩
    · rw [g2 x e] at hp ⊢
      obtain ⟨r,hr,j,hj,hjx⟩:=h.step x hx hp
      exact ⟨r,hr,j,hj,by rw [g3 _ (by omega)];exact hjx⟩
  · by_cases e:x=i
    · subst e;rw [g1];omega
    · rw [g2 x e];exact h.lt x hx
  · rw [g2 x (by omega)];exact h.up x (by omega) hx'
  · by_cases ej:j.toNat=i
    · rw [ej,g1] at hj1;omega
    · rw [g2 _ ej] at hj0' hj1 ⊢
      by_cases e:x=i
      · subst e;rw [g1]
        refine ⟨by omega,?_⟩
        rcases hj1 with h1|⟨_,h1⟩
        · have:=(h.close x hx r hr j hj hj0' (.inl h1)).1;omega
        · omega
      · rw [g2 x e]
        exact h.close x hx r hr j hj hj0' (by rcases hj1 with h1|⟨h1,h2⟩;exact .inl h1;exact .inr ⟨by omega,h2⟩)
theorem DI.keep {mv:List (List (List Int))} {g:Nat→Bool} {dist:List Int} {d:Int} {more:Bool} {i:Nat} (h:DI mv g dist d more i) (hi:i < mv.length) (hn:dist.getD i 0 < 0→nearB (mv.getD i []) dist (d - 1)=false):DI mv g dist d more (i+1):=by
  refine ⟨h.len,h.d1,h.zero,h.step,h.lt,fun x hx hx'=>h.up x (by omega) hx',h.last,fun x hx r hr j hj hj0 hj1=>?_⟩
  rcases hj1 with h1|⟨h1,h2⟩
  · exact h.close x hx r hr j hj hj0 (.inl h1)
  · by_cases e:x=i
    · subst e
      by_cases hx0:dist.getD x 0 < 0
      · have h3:=hn hx0
        have h4:=nearB_iff.2 ⟨r,hr,j,hj,h2⟩
        rw [h3] at h4;cases h4
      · have:=h.up x (Nat.le_refl _) hx
        omega
    · exact h.close x hx r hr j hj hj0 (.inr ⟨by omega,h2⟩)
theorem DI.next {mv:List (List (List Int))} {g:Nat→Bool} {dist:List Int} {d:Int} {more:Bool} (h:DI mv g dist d more mv.length):DI mv g dist (d+1) true 0:=by
  have hd1:=h.d1
  refine ⟨h.len,by omega,h.zero,h.step,fun x hx=>?_,fun x _ hx=>?_,fun hm=>(by cases hm),fun x hx r hr j hj hj0 hj1=>?_⟩
  · have:=h.lt x hx;omega
  · have:=h.lt x hx;omega
  · exact h.close x hx r hr j hj hj0 (by omega)
theorem DI.fin {mv:List (List (List Int))} {g:Nat→Bool} {dist:List Int} {d:Int} (hin:InAll mv) (h:DI mv g dist d false mv.length) (hd:d≤mv.length+1):DistOk mv g dist:=by
  have hd1:=h.d1
  refine ⟨h.len,h.zero,h.step,fun x hx r hr j hj hj0=>?_,fun x hx=>?_⟩
  · have h1:=hin x hx r hr j hj
    have:=h.last rfl j.toNat (by omega)
    exact h.close x hx r hr j hj hj0 (by omega)
  · have:=h.lt x hx;have:=h.last rfl x hx;omega
structure DHead (mv:List (List (List Int))) (g:Nat→Bool) (dt:List Int) (d:Int) (more:Bool):Prop where
  len:dt.length=mv.length
  d1:1≤d
  d2:d≤mv.length+2
  yes:more=true→DI mv g dt d true 0∧d+negN dt≤mv.length+1
  no:more=false→DistOk mv g dt
theorem negN_le (l:List Int):negN l≤l.length:=List.countP_le_length
theorem DHead.init {mv:List (List (List Int))} {g:Nat→Bool} {dist:List Int} (hlen:dist.length=mv.length) (h0:∀i,i < mv.length→dist.getD i 0=if g i then 0 else -1):DHead mv g dist 1 true:=by
  have hx:∀x,x < mv.length→-1≤dist.getD x 0∧dist.getD x 0 < 1:=fun x hx=>by have:=h0 x hx;split at this<;>omega
  have hn:=negN_le dist
  refine ⟨hlen,by omega,by omega,fun _=>⟨⟨hlen,by omega,fun x h=>?_,fun x h hp=>?_,fun x h=>?_,fun x _ h=>(hx x h).2,fun h=>(by cases h),fun x h r hr j hj hj0 hj1=>?_⟩,by omega⟩,fun h=>(by cases h)⟩
  · have:=h0 x h;split at this<;>simp_all
  · have:=hx x h;omega
  · have:=hx x h;omega
  · omega
structure DMid (mv:List (List (List Int))) (g:Nat→Bool) (dt:List Int) (d:Int) (du:List Int) (m2:Bool) (i:Nat):Prop where
  le:i≤mv.length
  di:DI mv g du d m2 i
  cnt:negN du+(if m2 then 1 else 0)≤negN dt
theorem DMid.init {mv:List (List (List Int))} {g:Nat→Bool} {dt:List Int} {d:Int} (h:DI mv g dt d true 0):DMid mv g dt d dt false 0:=
  ⟨Nat.zero_le _,⟨h.len,h.d1,h.zero,h.step,h.lt,h.up,fun _ x hx=>h.up x (Nat.zero_le _) hx,h.close⟩,by simp⟩
theorem DMid.set {mv:List (List (List Int))} {g:Nat→Bool} {dt:List Int} {d:Int} {du:List Int} {m2:Bool} {i:Nat} (h:DMid mv g dt d du m2 i) (hi:i < mv.length) (hneg:du.getD i 0 < 0) (hn:nearB (mv.getD i []) du (d - 1)=true):DMid mv g dt d (du.set i d) true (i+1):=by
  have hl:=h.di.len
  have hd1:=h.di.d1
  have h1:du[i]? = some (du.getD i 0):=by
    have:i < du.length:=by omega
    simp [List.getD,this]
  have h2:=negN_set h1 hneg (y:=d) (by omega)
  have h3:=h.cnt
  refine ⟨hi,h.di.set hi hneg hn,?_⟩
  simp only [if_true]
  split at h3<;>omega
theorem DMid.keep {mv:List (List (List Int))} {g:Nat→Bool} {dt:List Int} {d:Int} {du:List Int} {m2:Bool} {i:Nat} (h:DMid mv g dt d du m2 i) (hi:i < mv.length) (hn:du.getD i 0 < 0→nearB (mv.getD i []) du (d - 1)=false):DMid mv g dt d du m2 (i+1):=
  ⟨hi,h.di.keep hi hn,h.cnt⟩
theorem DMid.next {mv:List (List (List Int))} {g:Nat→Bool} {dt:List Int} {d:Int} {du:List Int} {m2:Bool} (hin:InAll mv) (h:DMid mv g dt d du m2 mv.length) (hd:d+negN dt≤mv.length+1):DHead mv g du (d+1) m2:=by
  have hd1:=h.di.d1
  have hc:=h.cnt
  refine ⟨h.di.len,by omega,by omega,fun hm=>?_,fun hm=>?_⟩
  · subst hm
    simp only [if_true] at hc
    exact ⟨h.di.next,by omega⟩
  · subst hm
    exact h.di.fin hin (by omega)
end Go.Am
namespace Go.Am
open Go Go.Proofs
set_option maxHeartbeats 1000000
attribute [local irreducible] QOp AOp Lex LexO AWp Spec
variable {TB:Amb}
theorem l4Dist_ok (mv:List (List (List Int))) (g:Nat→Bool) (dist:List Int) (hin:InAll mv) (hN:mv.length≤1048576) (hlen:dist.length=mv.length) (h0:∀i,i < mv.length→dist.getD i 0=if g i then 0 else -1) :
    Spec Tryz.prog TB 132 [(0,.cells 3 1 (dist.map iRowC))] 1 [eIntsss mv,.o (.arr 0 1 0 mv.length)] (fun x σ nx=>x=.t []∧nx=1∧∃dist',DistOk mv g dist'∧σ=[(0,.cells 3 1 (dist'.map iRowC))]):=by
  refine eN Tryz.func132 rfl (by kernel_rfl) rfl ?_;intro Γ hΓ
  (repeat first|refine sN rfl ?_|((first|refine sM rfl ?_ ?_|refine s4 rfl ‹_› rfl ?_ ?_);first|exact tI|omega|(simp only[oZ] at *;omega))|(refine s2 rfl ?_;intro _ _hb)|(refine s3 rfl ?_ ?_<;>intro hb<;>subst hb)|refine aS ?_|refine reg (by kernel_rfl) ?_|refine lexE ?_|refine rD (by kernel_rfl) (by kernel_rfl) ?_)
  refine AWp.block ?_
  refine AWp.loopL (α:={x:List Int×Int×Bool // DHead mv g x.1 x.2.1 x.2.2}) (fun ⟨⟨dt,d,more⟩,hH⟩=>[(0,eIntsss mv),(1,.o (.arr 0 1 0 mv.length)),(4,eB more),(5,eI .i64 d)]) (fun ⟨⟨dt,d,more⟩,hH⟩=>[(0,.cells 3 1 (dt.map iRowC))]) 1 (fun ⟨⟨dt,d,more⟩,hH⟩=>2*negN dt+(if more then 1 else 0)) (⟨(dist,1,true),DHead.init hlen h0⟩) [0] (rl3 hΓ rfl rfl) (by (repeat' first|exact tI|rfl|refine And.intro ?_ ?_)<;>simp[cX,zC,hΓ]) ?_;rintro ⟨⟨dt,d,more⟩,hH⟩;(try dsimp only)
  simp only at hH
  (repeat first|refine sN rfl ?_|((first|refine sM rfl ?_ ?_|refine s4 rfl ‹_› rfl ?_ ?_);first|exact tI|omega|(simp only[oZ] at *;omega))|(refine s2 rfl ?_;intro _ _hb)|(refine s3 rfl ?_ ?_<;>intro hb<;>subst hb)|refine aS ?_|refine reg (by kernel_rfl) ?_|refine lexE ?_|refine rD (by kernel_rfl) (by kernel_rfl) ?_)
  (refine aC rfl ?_ ?_<;>intro hb<;>cases hb)
  · obtain ⟨hD,hc⟩:=hH.yes rfl
    have hd1:=hD.d1
    refine AWp.skip ?_
    refine AWp.seq (AWp.block ?_)
    (repeat first|refine sN rfl ?_|((first|refine sM rfl ?_ ?_|refine s4 rfl ‹_› rfl ?_ ?_);first|exact tI|omega|(simp only[oZ] at *;omega))|(refine s2 rfl ?_;intro _ _hb)|(refine s3 rfl ?_ ?_<;>intro hb<;>subst hb)|refine aS ?_|refine reg (by kernel_rfl) ?_|refine lexE ?_|refine rD (by kernel_rfl) (by kernel_rfl) ?_)
    refine AWp.block ?_
    refine AWp.loopL (α:={x:List Int×Bool×Nat // DMid mv g dt d x.1 x.2.1 x.2.2}) (fun ⟨⟨du,m2,i⟩,hM⟩=>[(0,eIntsss mv),(1,.o (.arr 0 1 0 mv.length)),(4,eB m2),(5,eI .i64 d),(6,eI .i64 i)]) (fun ⟨⟨du,m2,i⟩,hM⟩=>[(0,.cells 3 1 (du.map iRowC))]) 1 (fun ⟨⟨du,m2,i⟩,hM⟩=>mv.length - i) (⟨(dt,false,0),DMid.init hD⟩) [0] (rl3 hΓ rfl rfl) (by (repeat' first|exact tI|rfl|refine And.intro ?_ ?_)<;>simp[cX,zC,hΓ]) ?_;rintro ⟨⟨du,m2,i⟩,hM⟩;(try dsimp only)
    simp only at hM
    have hul:=hM.di.len
    have hile:=hM.le
    (repeat first|refine sN rfl ?_|((first|refine sM rfl ?_ ?_|refine s4 rfl ‹_› rfl ?_ ?_);first|exact tI|omega|(simp only[oZ] at *;omega))|(refine s2 rfl ?_;intro _ _hb)|(refine s3 rfl ?_ ?_<;>intro hb<;>subst hb)|refine aS ?_|refine reg (by kernel_rfl) ?_|refine lexE ?_|refine rD (by kernel_rfl) (by kernel_rfl) ?_)
    (refine aC rfl ?_ ?_<;>intro hb<;>cases hb)
    · obtain ⟨y,hy⟩:=get_some (l:=du) (k:=i) (by first|omega|(simp only[oZ] at *;omega))
      have hy':=get_mapA (g:=iRowC) hy
      obtain ⟨mi,hmi⟩:=get_some (l:=mv) (k:=i) (by first|omega|(simp only[oZ] at *;omega))
      have hmi':=get_map (g:=iiiRow) hmi
      have hilt:i < mv.length:=by first|omega|(simp only[oZ] at *;omega)
      have hyd:du.getD i 0=y:=by simp [List.getD,hy]
      have hmd:mv.getD i []=mi:=by simp [List.getD,hmi]
      have hset:=hM.set hilt
      have hkeep:=hM.keep hilt
      rw [hyd,hmd] at hset hkeep
      refine AWp.skip ?_
      refine AWp.seq (AWp.block ?_)
      (repeat' first|refine sN rfl ?_|((first|refine sM rfl ?_ ?_|refine s4 rfl ‹_› rfl ?_ ?_);first|exact tI|omega|(simp only[oZ] at *;omega))|(refine s2 rfl ?_;intro _ _hb)|(refine popO rfl ?_;refine gA rfl ?_;first|(refine gQB (q_callB rfl rfl ((.cons (.o (.pure rfl)) (.cons (.o (.full rfl (by simp [Function.comp_def]) (by simp [hul]))) (.cons (.o (.pure rfl)) .nil)))) (l4Near_ok mi du (d - 1) (fun r hr v hv=>by have:=hin i hilt r (by rw [hmd];exact hr) v hv;exact ⟨this.1,by omega⟩)) rfl) rfl ?_;intro _ _hb))|(refine s3 rfl ?_ ?_<;>intro hb<;>subst hb)|refine aS ?_|refine reg (by kernel_rfl) ?_|refine lexE ?_|refine rD (by kernel_rfl) (by kernel_rfl) ?_|(refine aC rfl ?_ ?_<;>intro hb<;>cases hb)|refine aK ?_|refine aE ?_|refine aB ?_|refine AWp.ret ⟨_,rfl,?_⟩)
      all_goals first
        | (refine ⟨⟨(du,m2,i+1),hkeep (by grind)⟩,by dsimp only;(first|omega|(simp only[oZ] at *;omega)),[0],?_⟩
           simp[cX,zC,hΓ]
           done)
        | (refine ⟨⟨(du.set i d,true,i+1),hset (by grind) (by grind)⟩,by dsimp only;(first|omega|(simp only[oZ] at *;omega)),[0],?_⟩
           rw [set_mapI]
           simp[cX,zC,hΓ]
           done)
    · obtain rfl:i=mv.length:=by first|omega|(simp only[oZ] at *;omega)
      have hN2:=hM.next hin hc
      have hc2:=hM.cnt
      refine AWp.exit ?_
      (repeat first|refine sN rfl ?_|((first|refine sM rfl ?_ ?_|refine s4 rfl ‹_› rfl ?_ ?_);first|exact tI|omega|(simp only[oZ] at *;omega))|(refine s2 rfl ?_;intro _ _hb)|(refine s3 rfl ?_ ?_<;>intro hb<;>subst hb)|refine aS ?_|refine reg (by kernel_rfl) ?_|refine lexE ?_|refine rD (by kernel_rfl) (by kernel_rfl) ?_)
      refine ⟨⟨(du,d+1,m2),hN2⟩,?_,[0],?_⟩
      · dsimp only
        cases m2<;>simp at hc2 ⊢ <;> omega
      · simp[cX,zC,hΓ]
  · refine AWp.exit ?_
    exact ⟨_,rfl,rfl,rfl,dt,hH.no rfl,rfl⟩
end Go.Am
namespace Go.Am
open Go Go.Proofs
set_option maxHeartbeats 1000000
attribute [local irreducible] QOp AOp Lex LexO AWp Spec
variable {TB:Amb}
theorem len_split (l:List Int) (a:Int):l.length=l.count a+(l.filter (· != a)).length:=by
  induction l with
  | nil=>rfl
  | cons b l ih=>
    simp only [List.count_cons,List.filter_cons,List.length_cons]
    by_cases h:b=a
    · subst h;simp;omega
    · simp [h];omega
theorem nodup_len:∀(n:Nat) (l:List Int),l.Nodup→(∀x∈l,0≤x∧x < n)→l.length≤n
  | 0,l,_,h=>by
    cases l with
    | nil=>simp
    | cons a l=>have:=h a (by simp);omega
  | n + 1,l,hn,h=>by
    have h1:=len_split l n
    have h2:=List.nodup_iff_count.1 hn n
    have h3:=nodup_len n (l.filter (· != (n:Int))) (hn.filter _) fun x hx=>by
      obtain ⟨h4,h5⟩:=List.mem_filter.1 hx
      have:=h x h4
      simp at h5
      omega
    omega
def addN (dist:List Int) (d:Int) (acc:List Int) (j:Int):List Int:=if dist.getD j.toNat 0=d∧j∉acc then acc++[j] else acc
theorem addN_eq (dist:List Int) (d:Int) (acc:List Int) (j:Int):addN dist d acc j=if dist.getD j.toNat 0=d∧j∉acc then acc++[j] else acc:=rfl
def closN (mv:List (List (List Int))) (dist at':List Int) (k:Nat) (d:Int):List Int:=at'.foldl (fun acc x=>((mv.getD x.toNat []).getD k []).foldl (addN dist d) acc) []
def AccOk (n:Nat) (acc:List Int):Prop:=acc.Nodup∧∀x∈acc,0≤x∧x < n
theorem AccOk.add {n:Nat} {acc:List Int} (h:AccOk n acc) {dist:List Int} {d j:Int} (hj:0≤j∧j < n):AccOk n (addN dist d acc j):=by
  unfold addN
  split
  · rename_i h1
    refine ⟨List.nodup_append.2 ⟨h.1,by simp,fun a ha b hb=>?_⟩,fun x hx=>?_⟩
    · simp at hb;subst hb;intro e;subst e;exact h1.2 ha
    · rcases List.mem_append.1 hx with hx|hx
      · exact h.2 x hx
      · simp at hx;subst hx;exact hj
  · exact h
theorem AccOk.fold {n:Nat} {dist:List Int} {d:Int}:∀ {l acc:List Int},AccOk n acc→(∀j∈l,0≤j∧j < n)→AccOk n (l.foldl (addN dist d) acc)
  | [],_,h,_=>h
  | j::_,_,h,hl=>by rw [List.foldl_cons];exact AccOk.fold (h.add (hl j (by simp))) fun x hx=>hl x (by simp [hx])
theorem mem_row {mv:List (List (List Int))} (hin:InAll mv) {x:Int} (hx:0≤x∧x < mv.length) (k:Nat):∀j∈(mv.getD x.toNat []).getD k [],0≤j∧j < mv.length:=by
  intro j hj
  cases hr:(mv.getD x.toNat [])[k]? with
  | none=>
    have:(mv.getD x.toNat []).getD k []=[]:=by rw [List.getD,hr];rfl
    rw [this] at hj;cases hj
  | some r=>
    have:(mv.getD x.toNat []).getD k []=r:=by rw [List.getD,hr];rfl
    rw [this] at hj
    exact hin x.toNat (by omega) r (List.mem_of_getElem? hr) j hj
theorem AccOk.clos {mv:List (List (List Int))} (hin:InAll mv) {dist:List Int} {d:Int} {k:Nat}:∀ {l acc:List Int},AccOk mv.length acc→(∀x∈l,0≤x∧x < mv.length)→AccOk mv.length (l.foldl (fun acc x=>((mv.getD x.toNat []).getD k []).foldl (addN dist d) acc) acc)
  | [],_,h,_=>h
  | j::_,_,h,hl=>by rw [List.foldl_cons];exact AccOk.clos hin (h.fold (mem_row hin (hl j (by simp)) k)) fun x hx=>hl x (by simp [hx])
theorem AccOk.nil {n:Nat}:AccOk n []:=⟨.nil,fun x hx=>(by cases hx)⟩
theorem foldl_step {α β:Type} {l:List α} {k:Nat} {x:α} (h:l[k]? = some x) (f:β→α→β) (b:β):(l.take (k+1)).foldl f b=f ((l.take k).foldl f b) x:=by
  rw [List.take_add_one,h,List.foldl_append];rfl
theorem l4Closer_ok (mv:List (List (List Int))) (dist at':List Int) (k:Nat) (d:Int) (hin:InAll mv) (hN:mv.length≤1048576) (hlen:dist.length=mv.length) (ha:∀x∈at',0≤x∧x < mv.length) (hal:at'.length≤1048576) (hk:∀i,i < mv.length→k < (mv.getD i []).length) :
    Pure Tryz.prog TB 134 [eIntsss mv,eInts dist,eInts at',eI .i64 k,eI .i64 d] (eInts (closN mv dist at' k d)):=by
  have hacc:∀m,AccOk mv.length ((at'.take m).foldl (fun acc x=>((mv.getD x.toNat []).getD k []).foldl (addN dist d) acc) []):=fun m=>AccOk.clos hin .nil fun x hx=>ha x (List.mem_of_mem_take hx)
  refine eN Tryz.func134 rfl (by kernel_rfl) rfl ?_;intro Γ hΓ
  refine AWp.bound 0 rfl fun hB0=>?_
  (repeat first|refine sN rfl ?_|((first|refine sM rfl ?_ ?_|refine s4 rfl ‹_› rfl ?_ ?_);first|exact tI|omega|(simp only[oZ] at *;omega))|(refine s2 rfl ?_;intro _ _hb)|(refine s3 rfl ?_ ?_<;>intro hb<;>subst hb)|refine aS ?_|refine reg (by kernel_rfl) ?_|refine lexE ?_|refine rD (by kernel_rfl) (by kernel_rfl) ?_)
  (refine popO rfl ?_;refine popS (fun _ _=>q_assign rfl) rfl ?_)
  (repeat first|refine sN rfl ?_|((first|refine sM rfl ?_ ?_|refine s4 rfl ‹_› rfl ?_ ?_);first|exact tI|omega|(simp only[oZ] at *;omega))|(refine s2 rfl ?_;intro _ _hb)|(refine s3 rfl ?_ ?_<;>intro hb<;>subst hb)|refine aS ?_|refine reg (by kernel_rfl) ?_|refine lexE ?_|refine rD (by kernel_rfl) (by kernel_rfl) ?_)
  (refine popO rfl ?_;refine popW ?_ rfl (by rfl);refine n_sliceB rfl rfl rfl rfl (by simp) (by rfl) (by rfl) (by rfl) (by rfl) ?_)
  (repeat first|refine sN rfl ?_|((first|refine sM rfl ?_ ?_|refine s4 rfl ‹_› rfl ?_ ?_);first|exact tI|omega|(simp only[oZ] at *;omega))|(refine s2 rfl ?_;intro _ _hb)|(refine s3 rfl ?_ ?_<;>intro hb<;>subst hb)|refine aS ?_|refine reg (by kernel_rfl) ?_|refine lexE ?_|refine rD (by kernel_rfl) (by kernel_rfl) ?_)
  refine AWp.block ?_
  refine AWp.loopL (α:={m:Nat // m≤at'.length}) (fun ⟨m,hm⟩=>[(0,eIntsss mv),(1,eInts dist),(2,eInts at'),(3,eI .i64 k),(4,eI .i64 d),(11,.o (.arr 0 1 0 ((at'.take m).foldl (fun acc x=>((mv.getD x.toNat []).getD k []).foldl (addN dist d) acc) []).length)),(12,eI .i64 m)]) (fun ⟨m,hm⟩=>[(0,.cells 3 1 (((at'.take m).foldl (fun acc x=>((mv.getD x.toNat []).getD k []).foldl (addN dist d) acc) []).map iRowC))]) 1 (fun ⟨m,hm⟩=>at'.length - m) (⟨0,by omega⟩) [0] (rl3 hΓ rfl rfl) (by (repeat' first|exact tI|rfl|refine And.intro ?_ ?_)<;>simp[cX,zC,hΓ]) ?_;rintro ⟨m,hm⟩;(try dsimp only)
  have hacc1:=hacc m
  have hacc2:=fun x=>foldl_step (l:=at') (k:=m) (x:=x) (f:=fun acc x=>((mv.getD x.toNat []).getD k []).foldl (addN dist d) acc) (b:=[])
  generalize hA1:(at'.take m).foldl (fun acc x=>((mv.getD x.toNat []).getD k []).foldl (addN dist d) acc) []=acc at *
  (repeat first|refine sN rfl ?_|((first|refine sM rfl ?_ ?_|refine s4 rfl ‹_› rfl ?_ ?_);first|exact tI|omega|(simp only[oZ] at *;omega))|(refine s2 rfl ?_;intro _ _hb)|(refine s3 rfl ?_ ?_<;>intro hb<;>subst hb)|refine aS ?_|refine reg (by kernel_rfl) ?_|refine lexE ?_|refine rD (by kernel_rfl) (by kernel_rfl) ?_)
  (refine aC rfl ?_ ?_<;>intro hb<;>cases hb)
  · obtain ⟨y,hy⟩:=get_some (l:=at') (k:=m) (by first|omega|(simp only[oZ] at *;omega))
    have hy':=get_map (g:=iRow) hy
    have hyb:=ha y (List.mem_of_getElem? hy)
    obtain ⟨my,hmy⟩:=get_some (l:=mv) (k:=y.toNat) (by omega)
    have hmy':(mv.map iiiRow)[y.toNat]? = some (iiiRow my):=by simp [hmy]
    have hkk:=hk y.toNat (by omega)
    have hgy:mv.getD y.toNat []=my:=by simp [List.getD,hmy]
    rw [hgy] at hkk
    obtain ⟨r,hr⟩:=get_some (l:=my) (k:=k) hkk
    have hr':=get_map (g:=iiRow) hr
    have hgr:my.getD k []=r:=by simp [List.getD,hr]
    have hrin:=mem_row hin hyb k
    rw [hgy,hgr] at hrin
    have hstep:=hacc2 y hy
    rw [hgy,hgr] at hstep
    have hBr:=hB0 (r.map iRow) (.l (i:=y.toNat) (j:=0) (r:=iiiRow my) hmy' rfl (.l (i:=k) (j:=0) (r:=iiRow r) (by simp [hr]) rfl .refl))
    have hf2:∀j,AccOk mv.length ((r.take j).foldl (addN dist d) acc):=fun j=>hacc1.fold fun x hx=>hrin x (List.mem_of_mem_take hx)
    refine AWp.skip ?_
    refine AWp.seq (AWp.block ?_)
    (repeat first|refine sN rfl ?_|((first|refine sM rfl ?_ ?_|refine s4 rfl ‹_› rfl ?_ ?_);first|exact tI|omega|(simp only[oZ] at *;omega))|(refine s2 rfl ?_;intro _ _hb)|(refine s3 rfl ?_ ?_<;>intro hb<;>subst hb)|refine aS ?_|refine reg (by kernel_rfl) ?_|refine lexE ?_|refine rD (by kernel_rfl) (by kernel_rfl) ?_)
    refine AWp.block ?_
    refine AWp.loopL (α:={j:Nat // j≤r.length}) (fun ⟨j,hj⟩=>[(0,eIntsss mv),(1,eInts dist),(2,eInts at'),(3,eI .i64 k),(4,eI .i64 d),(11,.o (.arr 0 1 0 ((r.take j).foldl (addN dist d) acc).length)),(12,eI .i64 m),(13,eInts r),(14,eI .i64 j)]) (fun ⟨j,hj⟩=>[(0,.cells 3 1 (((r.take j).foldl (addN dist d) acc).map iRowC))]) 1 (fun ⟨j,hj⟩=>r.length - j) (⟨0,by omega⟩) [0] (rl3 hΓ rfl rfl) (by (repeat' first|exact tI|rfl|refine And.intro ?_ ?_)<;>simp[cX,zC,hΓ]) ?_;rintro ⟨j,hj⟩;(try dsimp only)
    have hac:=hf2 j
    have hst2:=fun x=>foldl_step (l:=r) (k:=j) (x:=x) (f:=addN dist d) (b:=acc)
    generalize hA2:(r.take j).foldl (addN dist d) acc=ac2 at *
    (repeat first|refine sN rfl ?_|((first|refine sM rfl ?_ ?_|refine s4 rfl ‹_› rfl ?_ ?_);first|exact tI|omega|(simp only[oZ] at *;omega))|(refine s2 rfl ?_;intro _ _hb)|(refine s3 rfl ?_ ?_<;>intro hb<;>subst hb)|refine aS ?_|refine reg (by kernel_rfl) ?_|refine lexE ?_|refine rD (by kernel_rfl) (by kernel_rfl) ?_)
    (refine aC rfl ?_ ?_<;>intro hb<;>cases hb)
    · obtain ⟨x,hx⟩:=get_some (l:=r) (k:=j) (by first|omega|(simp only[oZ] at *;omega))
      have hx':=get_map (g:=iRow) hx
      have hxb:=hrin x (List.mem_of_getElem? hx)
      obtain ⟨z,hz⟩:=get_some (l:=dist) (k:=x.toNat) (by omega)
      have hz':(dist.map iRow)[x.toNat]? = some (iRow z):=by simp [hz]
      have hdz:dist.getD x.toNat 0=z:=by simp [List.getD,hz]
      have hst2:=hst2 x hx
      have hlac:=nodup_len _ _ hac.1 hac.2
      rw [addN_eq,hdz] at hst2
      refine AWp.skip ?_
      refine AWp.seq (AWp.block ?_)
      (repeat' first|refine sN rfl ?_|((first|refine sM rfl ?_ ?_|refine s4 rfl ‹_› rfl ?_ ?_);first|exact tI|omega|(simp only[oZ] at *;omega))|(refine s2 rfl ?_;intro _ _hb)|(refine popO rfl ?_;refine gA rfl ?_;first|(refine gQB (q_callB rfl rfl ((.cons (.o (.full rfl (by simp [Function.comp_def]) (by simp))) (.cons (.o (.pure rfl)) .nil))) (l4In_ok ac2 x) rfl) rfl ?_;intro _ _hb))|(refine s3 rfl ?_ ?_<;>intro hb<;>subst hb)|refine aS ?_|refine reg (by kernel_rfl) ?_|refine lexE ?_|refine rD (by kernel_rfl) (by kernel_rfl) ?_|(refine aC rfl ?_ ?_<;>intro hb<;>cases hb)|refine aK ?_|refine aE ?_|refine aB ?_|refine AWp.ret ⟨_,rfl,?_⟩)
      all_goals try (rw [if_neg (by grind)] at hst2;refine ⟨⟨j+1,by first|omega|(simp only[oZ] at *;omega)⟩,by dsimp only;(first|omega|(simp only[oZ] at *;omega)),[0],?_⟩;simp[cX,zC,hΓ,hst2];done)
      all_goals rw [if_pos (by grind)] at hst2
      (repeat first|refine sN rfl ?_|((first|refine sA rfl ?_ ?_|refine s4 rfl ‹_› rfl ?_ ?_);first|exact tI|omega|(simp only[oZ] at *;omega))|(refine s2 rfl ?_;intro _ _hb)|(refine s3 rfl ?_ ?_<;>intro hb<;>subst hb)|refine aS ?_|refine reg (by kernel_rfl) ?_|refine lexE ?_|refine rD (by kernel_rfl) (by kernel_rfl) ?_)
      (refine popO rfl ?_;refine popW ?_ rfl (by rfl);refine n_append rfl rfl rfl (by first|(simp;done)|(simp;(first|omega|(simp only[oZ] at *;omega)))) rfl (by intro r hr;simp at hr;subst hr;rfl) (by rfl) (Nat.le_of_ble_eq_true rfl) (by simp;first|omega|(simp only[oZ] at *;omega)) ?_)
      (repeat first|refine sN rfl ?_|((first|refine sX rfl ?_ ?_|refine s4 rfl ‹_› rfl ?_ ?_);first|exact tI|omega|(simp only[oZ] at *;omega))|(refine s2 rfl ?_;intro _ _hb)|(refine s3 rfl ?_ ?_<;>intro hb<;>subst hb)|refine aS ?_|refine reg (by kernel_rfl) ?_|refine lexE ?_|refine rD (by kernel_rfl) (by kernel_rfl) ?_)
      refine ⟨⟨j+1,by first|omega|(simp only[oZ] at *;omega)⟩,by dsimp only;(first|omega|(simp only[oZ] at *;omega)),[1],?_⟩
      simp[cX,zC,hΓ,hst2]
    · obtain rfl:j=r.length:=by first|omega|(simp only[oZ] at *;omega)
      refine AWp.exit ?_
      rw [List.take_length] at hA2
      subst hA2
      (repeat first|refine sN rfl ?_|((first|refine sM rfl ?_ ?_|refine s4 rfl ‹_› rfl ?_ ?_);first|exact tI|omega|(simp only[oZ] at *;omega))|(refine s2 rfl ?_;intro _ _hb)|(refine s3 rfl ?_ ?_<;>intro hb<;>subst hb)|refine aS ?_|refine reg (by kernel_rfl) ?_|refine lexE ?_|refine rD (by kernel_rfl) (by kernel_rfl) ?_)
      refine ⟨⟨m+1,by first|omega|(simp only[oZ] at *;omega)⟩,by dsimp only;(first|omega|(simp only[oZ] at *;omega)),[0],?_⟩
      simp[cX,zC,hΓ,hstep,-List.getD_eq_getElem?_getD]
  · obtain rfl:m=at'.length:=by first|omega|(simp only[oZ] at *;omega)
    refine AWp.exit ?_
    (repeat first|refine sN rfl ?_|((first|refine sM rfl ?_ ?_|refine s4 rfl ‹_› rfl ?_ ?_);first|exact tI|omega|(simp only[oZ] at *;omega))|(refine s2 rfl ?_;intro _ _hb)|(refine s3 rfl ?_ ?_<;>intro hb<;>subst hb)|refine aS ?_|refine reg (by kernel_rfl) ?_|refine lexE ?_|refine rD (by kernel_rfl) (by kernel_rfl) ?_)
    rw [List.take_length] at hA1
    subst hA1
    refine AWp.freeze [0] [(10,eInts (closN mv dist at' k d))] ⟨⟨_,rfl,.o (.full (by simp) rfl (by simp [Function.comp_def,closN]) (by simp))⟩,trivial⟩ ?_
    refine AWp.ret ⟨_,rfl,rfl⟩
end Go.Am
