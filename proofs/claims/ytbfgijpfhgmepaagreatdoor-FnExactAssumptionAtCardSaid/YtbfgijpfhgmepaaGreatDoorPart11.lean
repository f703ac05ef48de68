/-
  Choices.
-/
import Derived.Test.YtbfgijpfhgmepaaGreatDoorPart10
set_option linter.constructorNameAsVariable false
set_option linter.unusedSectionVars false
set_option linter.unusedSimpArgs false
set_option linter.unusedVariables false
namespace Go.Am
open Go Go.Proofs
set_option maxHeartbeats 1000000
attribute [local irreducible] AS BT Lex Bc Au Spec
variable {TB:Bt}
theorem Qm(n:Net)(i:Nat)(a:AU)(q:Nat)(l:Int)(ha:n.au[i]? = some a)(hok:AN a=true)(hq:q < a.nx.length)(h0:0≤l)(h1:l < 6)(hnp:n.ps.length≤3)(hna:n.au.length≤2) :
 Pure Tryz.prog TB 224 [Mg n,eI .i64 (n.ps.length+i),eI .i64 q,eI .i64 l] (Ag [Cy a q l]):=by
 have hi:=(List.getElem?_eq_some_iff.1 ha).1
 have ha':=get_map (g:=Bh) ha
 have he:((n.ps.length:Int)+i - n.ps.length).toNat=((i:Nat):Int).toNat:=by omega
 have ha2:(n.au.map Bh)[((n.ps.length:Int)+i - n.ps.length).toNat]? = some (Bh a):=by rw [he];exact ha'
 refine eN Tryz.func224 rfl (by kernel_rfl) rfl ?_;intro Γ hΓ
 (repeat' first|refine sN rfl ?_ |(refine sA rfl ?_ ?_;first|exact tI|omega) |(refine s4 rfl ‹_› rfl ?_ ?_;omega) |refine s2 rfl fun _ _hb=>?_ |(refine sC rfl (Jw a hok q hq l h0 h1) ?_;intro _ _hb)|refine sP rfl (Jw a hok q hq l h0 h1) rfl ?_ |refine aU rfl ?_ |refine Aa ?_|(refine aC rfl ?_ ?_<;>rintro⟨⟩)|refine aK ?_|refine aE ?_|refine aB ?_|refine aR ⟨_,rfl,?_⟩)
 all_goals first| rfl|(exfalso;(simp only[oZ] at *;omega))
theorem Qn(n:Net)(i:Nat)(s:Sys)(q l:Int)(hs:n.ps[i]? = some s)(hok:AR s=true)(hq0:0≤q)(hq1:q < s.st)(h0:0≤l)(h1:l < 6)(hnp:n.ps.length≤3) :
    Pure Tryz.prog TB 224 [Mg n,eI .i64 i,eI .i64 q,eI .i64 l] (Ag (BI s q l)):=by
  have hi:=(List.getElem?_eq_some_iff.1 hs).1
  have hs':=get_map (g:=CE) hs
  refine eN Tryz.func224 rfl (by kernel_rfl) rfl ?_;intro Γ hΓ
  (repeat first|refine aU rfl ?_)
  (refine Ai rfl ?_;refine Bs (fun _ _=>C0 rfl rfl rfl) rfl ?_)
  (refine Ai rfl ?_;refine Bs (fun _ _=>Br rfl) rfl ?_)
  (repeat first|refine sN rfl ?_ |refine tM rfl ?_ |refine s2 rfl fun _ _hb=>?_ |(refine sC rfl (CY _ _ (by omega) (by omega)) ?_;intro _ _hb) |refine aU rfl ?_ |refine Aa ?_)
  (refine aC rfl ?_ ?_<;>rintro⟨⟩)
  · exfalso;(simp only[oZ] at *;omega)
  refine aK ?_
  (repeat first|refine tM rfl ?_ |(refine s4 rfl ‹_› rfl ?_ ?_;omega) |refine s2 rfl fun _ _hb=>?_ |(refine sC rfl (CY _ _ (by omega) (by omega)) ?_;intro _ _hb) |refine aU rfl ?_ |refine Aa ?_)
  (refine aC rfl ?_ ?_<;>rintro⟨⟩)
  · (repeat' first|refine tA rfl ?_ |refine aU rfl ?_ |refine Aa ?_|(refine aC rfl ?_ ?_<;>rintro⟨⟩)|refine aK ?_|refine aE ?_|refine aB ?_|refine aR ⟨_,rfl,?_⟩)
    rw [show BI s q l=[q] by unfold BI;rw [if_neg (by grind)]];rfl
  refine aK ?_
  (repeat first|refine aU rfl ?_)
  (refine pW rfl ?_ rfl (by rfl);refine BP rfl rfl rfl rfl (by simp) (by rfl) (by rfl) (by rfl) (by rfl) ?_)
  (repeat first|refine tM rfl ?_ |(refine s4 rfl ‹_› rfl ?_ ?_;omega) |refine aU rfl ?_ |refine Aa ?_)
  refine Au.bound 10 rfl fun hB=>?_
  have hB:=hB _ .refl
  rw [List.length_map] at hB
  refine aB ?_
  have hb2:A0 s.al l.toNat=true:=by grind
  refine Au.AP (α:={k:Nat // k≤s.es.length}) (fun ⟨k,hk⟩=>[(2,eI .i64 q),(3,eI .i64 l),(9,.o (.arr 0 1 0 (BI { s with es:=s.es.take k } q l).length)),(10,HE s.es),(11,eI .i64 k)]) (fun ⟨k,hk⟩=>[(0,.cells 3 1 ((BI { s with es:=s.es.take k } q l).map Al))]) 1 (fun ⟨k,hk⟩=>s.es.length - k) (⟨0,by omega⟩) [0] (Di hΓ rfl rfl) (by (simp[cX,zC,hΓ,BI,hb2])) ?_;rintro⟨k,hk⟩;(try dsimp only)
  (repeat first|refine sN rfl ?_ |refine tM rfl ?_ |refine s2 rfl fun _ _hb=>?_ |refine aU rfl ?_ |refine Aa ?_)
  have hlen:∀k,(BI { s with es:=s.es.take k } q l).length≤16:=by
    intro k
    have h1:=ML hok (l:=l) hq0 hq1
    have h2:=AM hok
    have h3:(BI { s with es:=s.es.take k } q l).length≤(BI s q l).length:=by
      simp only [BI,hb2,if_true,List.length_map]
      exact((List.take_sublist k s.es).filter _).length_le
    omega
  have hst:∀e,s.es[k]? = some e→BI { s with es:=s.es.take (k+1) } q l=BI { s with es:=s.es.take k } q l++if e.f=q∧e.l=l then [e.t] else []:=by
    intro e he
    simp only [BI,hb2,if_true,List.take_add_one,he,Option.toList_some,List.filter_append,List.map_append,List.filter_cons,List.filter_nil]
    grind
  (refine aC rfl ?_ ?_<;>rintro⟨⟩)
  · obtain⟨e,he⟩:=get_some (l:=s.es) (k:=k) (by (simp only[oZ] at *;omega))
    have he':=get_map (g:=C9) he
    have hst:=hst e he
    refine aK ?_
    refine aS (aB ?_)
    (repeat' first|(refine sM rfl ?_ ?_;first|exact tI|simp only[oZ] at *;omega) |(refine s4 rfl ‹_› rfl ?_ ?_;omega) |refine s2 rfl fun _ _hb=>?_ |refine s3 rfl ?_ ?_<;>rintro rfl |refine aU rfl ?_ |refine Aa ?_|(refine aC rfl ?_ ?_<;>rintro⟨⟩)|refine aK ?_|refine aE ?_|refine aB ?_|refine aR ⟨_,rfl,?_⟩)
    all_goals first
      | (rw [if_pos (by grind)] at hst
         (repeat first|refine tA rfl ?_)
         (refine pW rfl ?_ rfl (by rfl);refine AH rfl rfl rfl (by first| (simp;done)|(simp;(omega))) rfl (by intro r hr;simp at hr;subst hr;rfl) (by rfl) (Nat.le_of_ble_eq_true rfl) (by have:=hlen k;simp;omega) ?_)
         (repeat first|(refine sX rfl ?_ ?_;first|exact tI|simp only[oZ] at *;omega) |refine aU rfl ?_ |refine Aa ?_)
         refine⟨⟨k+1,by (simp only[oZ] at *;omega)⟩,by dsimp only;((simp only[oZ] at *;omega)),[1],?_⟩
         simp[cX,zC,hΓ,hst]
         done)
      | (rw [if_neg (by grind),List.append_nil] at hst
         refine⟨⟨k+1,by (simp only[oZ] at *;omega)⟩,by dsimp only;((simp only[oZ] at *;omega)),[0],?_⟩
         simp[cX,zC,hΓ,hst]
         done)
  · obtain rfl:k=s.es.length:=by (simp only[oZ] at *;omega)
    refine aE ?_
    (repeat first|refine tM rfl ?_ |refine aU rfl ?_ |refine Aa ?_)
    refine Au.freeze [0] [(8,.o (.d (FX (BI s q l))))] ⟨⟨_,rfl,.o (.full (by simp) rfl (by simp [Function.comp_def]) (by simp))⟩,trivial⟩ ?_
    refine aR ⟨_,rfl,rfl⟩
theorem Sx{n:Net}(hn:DL n){st:List Int}(hf:Fits (Ae n) st){l:Int}(h0:0≤l)(h1:l < 6){i:Nat}{c:List Int}{q:Int}(hc:(Ke n st l)[i]? = some c)(hq:st[i]? = some q) :
 Pure Tryz.prog TB 224 [Mg n,eI .i64 i,eI .i64 q,eI .i64 l] (Ag c):=by
 have hlen:=hf.len
 unfold Ae at hlen
 simp only [List.length_append,List.length_map] at hlen
 have hsq:=(hf.get i)
 have hlz:(n.ps.zipWith (fun s q=>BI s q l) st).length=n.ps.length:=by rw [List.length_zipWith];omega
 have hiq:=(List.getElem?_eq_some_iff.1 hq).1
 unfold Ke at hc
 by_cases hi:i < n.ps.length
 ·rw [List.getElem?_append_left (by omega)] at hc
  obtain⟨s,hs⟩:=get_some hi
  rw [List.getElem?_zipWith,hs,hq] at hc
  simp only [Option.some.injEq] at hc
  subst hc
  have h2:=hsq s.st q (by unfold Ae;rw [List.getElem?_append_left (by simpa using hi)];simp [hs]) hq
  exact Qn n i s q l hs (hn.ps s (List.mem_of_getElem? hs)) h2.1 h2.2 h0 h1 hn.np
 ·obtain⟨j,rfl⟩:∃j,i=n.ps.length+j:=⟨i - n.ps.length,by omega⟩
  rw [List.getElem?_append_right (by omega),hlz] at hc
  have e:n.ps.length+j - n.ps.length=j:=by omega
  rw [e] at hc
  have hj:j < n.au.length:=by omega
  obtain⟨a,ha⟩:=get_some hj
  rw [List.getElem?_zipWith,ha,List.getElem?_drop,hq] at hc
  simp only [Option.some.injEq] at hc
  subst hc
  have h2:=hsq a.nx.length q (by unfold Ae;rw [List.getElem?_append_right (by simp)];simp [ha]) hq
  have h3:=Qm (TB:=TB) n j a q.toNat l ha (hn.au a (List.mem_of_getElem? ha)) (by omega) h0 h1 hn.np hn.na
  have e2:((q.toNat:Nat):Int)=q:=by omega
  rw [e2] at h3
  push_cast
  exact h3
theorem UL{n:Net}(hn:DL n){st:List Int}(hf:Fits (Ae n) st){l:Int}(h0:0≤l)(h1:l < 6)(k:Nat) :
 (∀v∈Hd ((Ae n).take k) ((Ke n st l).take k) [0],0≤v∧v < 1048576)∧(Hd ((Ae n).take k) ((Ke n st l).take k) [0]).length≤1048576:=by
 have h2:=SH ((Ic hn hf h0 h1).take k) [0] 1 (by simp) (by omega) (by simp)
 have h3:=(hf.take k).2
 have h4:=Of hn
 rw [Int.one_mul] at h2
 exact⟨fun v hv=>by have:=h2.1 v hv;omega,by omega⟩
theorem WJ{n:Net}(hn:DL n){st:List Int}(hf:Fits (Ae n) st){l:Int}(h0:0≤l)(h1:l < 6) :
 Pure Tryz.prog TB 215 [Mg n,Ag (Ae n),Ag st,eI .i64 l] (Ag (Ff n (Ae n) st l)):=by
 have hch:=Ic hn hf h0 h1
 have hbd:=UL hn hf h0 h1
 have hpr:=Of hn
 have hfl:=hf.len
 have hcl:=hch.len
 unfold Ff
 have hcall:∀(i:Nat) (c:List Int) (q:Int),(Ke n st l)[i]? = some c→st[i]? = some q→Pure Tryz.prog TB 224 [Mg n,eI .i64 i,eI .i64 q,eI .i64 l] (Ag c):=fun i c q=>Sx hn hf h0 h1
 have hzl:(Ae n).length≤5:=by unfold Ae;have:=hn.np;have:=hn.na;simp;omega
 have hpos:=Gk hn
 generalize Ke n st l=cs at *
 generalize Ae n=zs at *
 refine eN Tryz.func215 rfl (by kernel_rfl) rfl ?_;intro Γ hΓ
 (repeat first|refine aU rfl ?_)
 (refine Ai rfl ?_;refine Bs (fun _ _=>C0 rfl rfl rfl) rfl ?_)
 (refine Ai rfl ?_;refine Bs (fun _ _=>Br rfl) rfl ?_)
 (repeat first|refine tA rfl ?_ |refine aU rfl ?_ |refine Aa ?_)
 refine aB ?_
 refine Au.AP (α:={k:Nat // k≤zs.length}) (fun ⟨k,hk⟩=>[(1,Ag zs),(2,Ag st),(3,eI .i64 l),(4,.o (.ip (NP n))),(9,Ag (Hd (zs.take k) (cs.take k) [0])),(10,eI .i64 k)]) (fun ⟨k,hk⟩=>[]) 0 (fun ⟨k,hk⟩=>zs.length - k) (⟨0,by omega⟩) [] (Di hΓ rfl rfl) (by (simp[cX,zC,hΓ,Hd])) ?_;rintro⟨k,hk⟩;(try dsimp only)
 (repeat first|refine sN rfl ?_ |refine tA rfl ?_ |refine s2 rfl fun _ _hb=>?_ |refine aU rfl ?_ |refine Aa ?_)
 (refine aC rfl ?_ ?_<;>rintro⟨⟩)
 ·obtain⟨z,hz⟩:=get_some (l:=zs) (k:=k) (by (simp only[oZ] at *;omega))
  have hz':=get_map (g:=Bm) hz
  obtain⟨c,hc⟩:=get_some (l:=cs) (k:=k) (by (simp only[oZ] at *;omega))
  obtain⟨q,hq⟩:=get_some (l:=st) (k:=k) (by (simp only[oZ] at *;omega))
  have hq':=get_map (g:=Bm) hq
  have hst:=Ro [0] hz hc
  have hb0:=hbd k
  have hb1:=(hbd (k+1)).2
  have hzz:=hpos z (List.mem_of_getElem? hz)
  obtain⟨hcx,hcn⟩:=hch.get k z c hz hc
  rw [hst] at hb1
  generalize Hd (zs.take k) (cs.take k) [0]=out at *
  refine aK ?_
  refine aS (aB ?_)
  (repeat first|refine tM rfl ?_ |(refine s4 rfl ‹_› rfl ?_ ?_;omega) |refine sP rfl (hcall k c q hc hq) rfl ?_ |refine aU rfl ?_ |refine Aa ?_ |refine rE (by kernel_rfl) ?_)
  (refine pW rfl ?_ rfl (by rfl);refine BP rfl rfl rfl rfl (by simp) (by rfl) (by rfl) (by rfl) (by rfl) ?_)
  (repeat first|refine tM rfl ?_ |refine aU rfl ?_ |refine Aa ?_)
  refine aB ?_
  have hlen:∀m,(((out.take m).flatMap fun o=>c.map fun x=>o*z+x).length:Int)≤16777216:=by
   intro m
   have h2:=KR (out.take m) (fun o=>c.map fun x=>o*z+x) 16 (fun x _=>by simp;omega)
   have h3:(out.take m).length≤out.length:=by simp;omega
   omega
  refine Au.AP (α:={m:Nat // m≤out.length}) (fun ⟨m,hm⟩=>[(1,Ag zs),(2,Ag st),(3,eI .i64 l),(4,.o (.ip (NP n))),(9,Ag out),(10,eI .i64 k),(11,Ag c),(12,.o (.arr 0 1 0 ((out.take m).flatMap fun o=>c.map fun x=>o*z+x).length)),(13,eI .i64 m)]) (fun ⟨m,hm⟩=>[(0,.cells 3 1 (((out.take m).flatMap fun o=>c.map fun x=>o*z+x).map Al))]) 1 (fun ⟨m,hm⟩=>out.length - m) (⟨0,by omega⟩) [0] (Di hΓ rfl rfl) (by (simp[cX,zC,hΓ])) ?_;rintro⟨m,hm⟩;(try dsimp only)
  (repeat first|refine sN rfl ?_ |refine tM rfl ?_ |refine s2 rfl fun _ _hb=>?_ |refine aU rfl ?_ |refine Aa ?_)
  (refine aC rfl ?_ ?_<;>rintro⟨⟩)
  ·obtain⟨o,ho⟩:=get_some (l:=out) (k:=m) (by (simp only[oZ] at *;omega))
   have ho':=get_map (g:=Bm) ho
   have hob:=hb0.1 o (List.mem_of_getElem? ho)
   have hlm:=hlen m
   have h16:0≤o*z∧o*z≤16777216:=⟨Int.mul_nonneg hob.1 (by omega),by
    have h5:o*z≤o*16:=Int.mul_le_mul_of_nonneg_left hzz.2 hob.1
    omega⟩
   have hfm:(out.take (m+1)).flatMap (fun o=>c.map fun x=>o*z+x)=(out.take m).flatMap (fun o=>c.map fun x=>o*z+x)++c.map fun x=>o*z+x:=by
    rw [List.take_add_one,ho];simp
   refine aK ?_
   refine aS (aB ?_)
   (repeat first|refine tM rfl ?_ |refine aU rfl ?_ |refine Aa ?_)
   refine aB ?_
   generalize (out.take m).flatMap (fun o=>c.map fun x=>o*z+x)=pre at *
   refine Au.AP (α:={j:Nat // j≤c.length}) (fun ⟨j,hj⟩=>[(1,Ag zs),(2,Ag st),(3,eI .i64 l),(4,.o (.ip (NP n))),(9,Ag out),(10,eI .i64 k),(11,Ag c),(12,.o (.arr 0 1 0 (pre.length+j))),(13,eI .i64 m),(14,eI .i64 j)]) (fun ⟨j,hj⟩=>[(0,.cells 3 1 ((pre++(c.take j).map fun x=>o*z+x).map Al))]) 1 (fun ⟨j,hj⟩=>c.length - j) (⟨0,by omega⟩) [0] (Di hΓ rfl rfl) (by (simp[cX,zC,hΓ])) ?_;rintro⟨j,hj⟩;(try dsimp only)
   (repeat first|refine sN rfl ?_ |refine tM rfl ?_ |refine s2 rfl fun _ _hb=>?_ |refine aU rfl ?_ |refine Aa ?_)
   (refine aC rfl ?_ ?_<;>rintro⟨⟩)
   ·obtain⟨x,hx⟩:=get_some (l:=c) (k:=j) (by (simp only[oZ] at *;omega))
    have hx':=get_map (g:=Bm) hx
    have hxb:=hcx x (List.mem_of_getElem? hx)
    refine aK ?_
    refine aS (aB ?_)
    refine rG (IZ [16]) (by kernel_rfl) ?_
    (repeat first|(refine sA rfl ?_ ?_;first|exact tI|omega) |(refine s4 rfl ‹_› rfl ?_ ?_;omega))
    (refine pW rfl ?_ rfl (by rfl);refine AH rfl rfl rfl (by first| (simp;done)|(simp;(omega))) rfl (by intro r hr;simp at hr;subst hr;rfl) (by rfl) (Nat.le_of_ble_eq_true rfl) (by simp;omega) ?_)
    (repeat first|(refine sX rfl ?_ ?_;first|exact tI|omega) |refine aU rfl ?_ |refine Aa ?_)
    refine⟨⟨j+1,by (simp only[oZ] at *;omega)⟩,by dsimp only;((simp only[oZ] at *;omega)),[1],?_⟩
    simp[cX,zC,hΓ,List.take_add_one,hx,Nat.add_assoc]
   ·obtain rfl:j=c.length:=by (simp only[oZ] at *;omega)
    refine aE ?_
    (repeat first|(refine sM rfl ?_ ?_;first|exact tI|omega) |refine aU rfl ?_ |refine Aa ?_)
    refine⟨⟨m+1,by (simp only[oZ] at *;omega)⟩,by dsimp only;((simp only[oZ] at *;omega)),[0],?_⟩
    simp[cX,zC,hΓ,hfm]
  ·obtain rfl:m=out.length:=by (simp only[oZ] at *;omega)
   refine aE ?_
   rw [List.take_length] at *
   refine Au.freeze [0] [(1,Ag zs),(2,Ag st),(3,eI .i64 l),(4,.o (.ip (NP n))),(10,eI .i64 k),(12,Ag (out.flatMap fun o=>c.map fun x=>o*z+x))] ⟨⟨_,rfl,.AE⟩,⟨_,rfl,.AE⟩,⟨_,rfl,.AE⟩,⟨_,rfl,.AE⟩,⟨_,rfl,.AE⟩,⟨_,rfl,.o (.full (by simp) rfl (by simp [Function.comp_def]) (by simp))⟩,trivial⟩ ?_
   (repeat first|(refine sA rfl ?_ ?_;first|exact tI|omega) |refine aU rfl ?_ |refine Aa ?_)
   refine⟨⟨k+1,by (simp only[oZ] at *;omega)⟩,by dsimp only;((simp only[oZ] at *;omega)),[],?_⟩
   simp[cX,zC,hΓ,hst]
 ·obtain rfl:k=zs.length:=by (simp only[oZ] at *;omega)
  rw [List.take_of_length_le (by omega),List.take_of_length_le (by omega)]
  (repeat' first|refine tA rfl ?_ |refine aU rfl ?_ |refine Aa ?_|(refine aC rfl ?_ ?_<;>rintro⟨⟩)|refine aK ?_|refine aE ?_|refine aB ?_|refine aR ⟨_,rfl,?_⟩)
  all_goals rfl
abbrev Fo(l:List (List Int)):List C:=[.d (CR l)]
abbrev DC(l:List (List (List Int))):E:=.o (.d (fg l))
theorem Ak{s:Int}{k:Nat}{l:Int}(h:l∈AI s k):0≤l∧l < k∧A0 s l.toNat=true:=by
 unfold AI at h
 obtain⟨i,hi,rfl⟩:=List.mem_map.1 h
 obtain⟨h1,h2⟩:=List.mem_filter.1 hi
 have:=List.mem_range.1 h1
 exact⟨Int.natCast_nonneg _,by show ((i:Nat):Int) < k;omega,h2⟩
theorem Ry:∀ {l:List Int},(∀z∈l,0 < z)→0 < Av l
 | [],_=>by simp [Av]
 | a::l,h=>Int.mul_pos (h a (by simp)) (Ry fun z hz=>h z (by simp [hz]))
theorem Mf:∀ {zs:List Int} (_:∀z∈zs,0 < z) (n:Int),Fits zs (BA zs n)
 | [],_,_=>.nil
 | z::zs,h,n=>by
  have hz:=h z (by simp)
  exact .cons (Int.emod_nonneg _ (by omega)) (Int.emod_lt_of_pos _ hz) (Mf (fun x hx=>h x (by simp [hx])) n)
def Fg(n:Net)(x:Nat):List (List Int):=(Ac n.ls).map fun l=>Ff n (Ae n) (BA (Ae n) x) l
def Dh(n:Net)(tot:Nat):List (List (List Int)):=(List.range tot).map (Fg n)
theorem Kn{n:Net}{tot i:Nat}(h:i < tot):(Dh n tot)[i]? = some (Fg n i):=by simp [Dh,h]
theorem PD{n:Net}(hn:DL n):(Ae n).length≤5:=by unfold Ae;have:=hn.np;have:=hn.na;simp;omega
theorem WI{n:Net}(hn:DL n)(tot:Nat)(ht:tot≤1048576):Pure Tryz.prog TB 186 [Mg n,Ag (Ae n),eI .i64 tot] (DC (Dh n tot)):=by
 have hzl:=PD hn
 have hpos:=Gk hn
 have hdec:∀(x:Nat),x < tot→Pure Tryz.prog TB 188 [Ag (Ae n),eI .i64 x] (Ag (BA (Ae n) x)):=fun x hx=>
  Nj _ _ (by omega) (by omega) (fun z hz=>by have:=hpos z hz;omega) (by omega)
 have hnx:∀(x:Nat) (l:Int),l∈Ac n.ls→Pure Tryz.prog TB 215 [Mg n,Ag (Ae n),Ag (BA (Ae n) x),eI .i64 l] (Ag (Ff n (Ae n) (BA (Ae n) x) l)):=fun x l hl=>by
  have h1:=Ak hl
  exact WJ hn (Mf (fun z hz=>by have:=hpos z hz;omega) _) (by omega) (by omega)
 have hll:(Ac n.ls).length≤6:=AV n.ls 6
 unfold Dh
 refine eN Tryz.func186 rfl (by kernel_rfl) rfl ?_;intro Γ hΓ
 (repeat first|refine aU rfl ?_)
 (refine Ai rfl ?_;refine Bs (fun _ _=>C0 rfl rfl rfl) rfl ?_)
 (refine Ai rfl ?_;refine Bs (fun _ _=>Br rfl) rfl ?_)
 (repeat first|refine aU rfl ?_ |refine Aa ?_)
 (refine pW rfl ?_ rfl (by rfl);refine BP rfl rfl rfl rfl (by simp) (by rfl) (by rfl) (by rfl) (by rfl) ?_)
 (repeat first|refine tM rfl ?_ |refine sP rfl (DG n.ls) rfl ?_ |refine aU rfl ?_ |refine Aa ?_)
 refine aB ?_
 refine Au.AP (α:={k:Nat // k≤tot}) (fun ⟨k,hk⟩=>[(1,Ag (Ae n)),(2,eI .i64 tot),(3,.o (.ip (NP n))),(7,.o (.arr 0 1 0 k)),(8,Ag (Ac n.ls)),(9,eI .i64 k)]) (fun ⟨k,hk⟩=>[(0,.cells 26 1 (((List.range k).map (Fg n)).map Fo))]) 1 (fun ⟨k,hk⟩=>tot - k) (⟨0,by omega⟩) [0] (Di hΓ rfl rfl) (by (simp[cX,zC,hΓ])) ?_;rintro⟨k,hk⟩;(try dsimp only)
 (repeat first|refine tM rfl ?_ |refine s2 rfl fun _ _hb=>?_ |refine aU rfl ?_ |refine Aa ?_)
 (refine aC rfl ?_ ?_<;>rintro⟨⟩)
 ·have hk2:k < tot:=by (simp only[oZ] at *;omega)
  refine aK ?_
  refine aS (aB ?_)
  (repeat first|refine tM rfl ?_ |refine sP rfl (hdec k hk2) rfl ?_ |refine aU rfl ?_ |refine Aa ?_)
  (refine pW rfl ?_ rfl (by rfl);refine BP rfl rfl rfl rfl (by simp) (by rfl) (by rfl) (by rfl) (by rfl) ?_)
  (repeat first|refine tM rfl ?_ |refine aU rfl ?_ |refine Aa ?_)
  refine aB ?_
  generalize hL:Ac n.ls=ls at *
  refine Au.AP (α:={m:Nat // m≤ls.length}) (fun ⟨m,hm⟩=>[(1,Ag (Ae n)),(2,eI .i64 tot),(3,.o (.ip (NP n))),(7,.o (.arr 0 1 0 k)),(8,Ag ls),(9,eI .i64 k),(10,Ag (BA (Ae n) k)),(11,.o (.arr 1 1 0 m)),(12,eI .i64 m)]) (fun ⟨m,hm⟩=>[(0,.cells 26 1 (((List.range k).map (Fg n)).map Fo)),(1,.cells 62 1 (((ls.take m).map fun l=>Ff n (Ae n) (BA (Ae n) k) l).map FO))]) 2 (fun ⟨m,hm⟩=>ls.length - m) (⟨0,by omega⟩) [0,1] (Di hΓ rfl rfl) (by (simp[cX,zC,hΓ])) ?_;rintro⟨m,hm⟩;(try dsimp only)
  (repeat first|refine sN rfl ?_ |refine tM rfl ?_ |refine s2 rfl fun _ _hb=>?_ |refine aU rfl ?_ |refine Aa ?_)
  (refine aC rfl ?_ ?_<;>rintro⟨⟩)
  ·obtain⟨x,hx⟩:=get_some (l:=ls) (k:=m) (by (simp only[oZ] at *;omega))
   have hx':=get_map (g:=Bm) hx
   have hxm:=hnx k x (List.mem_of_getElem? hx)
   refine aK ?_
   refine aS (aB ?_)
   refine rG (IZ [10]) (by kernel_rfl) ?_
   (repeat first|refine tA rfl ?_ |(refine s4 rfl ‹_› rfl ?_ ?_;omega) |refine sP rfl (hxm) rfl ?_)
   (refine pW rfl ?_ rfl (by rfl);refine AH rfl rfl rfl (by first| (simp;done)|(simp;(omega))) rfl (by intro r hr;simp at hr;subst hr;rfl) (by rfl) (Nat.le_of_ble_eq_true rfl) (by simp;omega) ?_)
   (repeat first|(refine sX rfl ?_ ?_;first|exact tI|omega) |refine aU rfl ?_ |refine Aa ?_)
   refine⟨⟨m+1,by (simp only[oZ] at *;omega)⟩,by dsimp only;((simp only[oZ] at *;omega)),[0,2],?_⟩
   simp[cX,zC,hΓ,List.take_add_one,hx,Nat.add_assoc]
  ·obtain rfl:m=ls.length:=by (simp only[oZ] at *;omega)
   refine aE ?_
   rw [List.take_length] at *
   have hrow:ls.map (fun l=>Ff n (Ae n) (BA (Ae n) k) l)=Fg n k:=by rw [←hL];rfl
   rw [hrow]
   have hrl:(Fg n k).length=ls.length:=by rw [←hrow];simp
   refine Au.freeze [1] [(1,Ag (Ae n)),(2,eI .i64 tot),(3,.o (.ip (NP n))),(7,.o (.arr 0 1 0 k)),(8,Ag ls),(9,eI .i64 k),(11,Cm (Fg n k))] ⟨⟨_,rfl,.AE⟩,⟨_,rfl,.AE⟩,⟨_,rfl,.AE⟩,⟨_,rfl,.AE⟩,⟨_,rfl,.AE⟩,⟨_,rfl,.AE⟩,⟨_,rfl,.o (.full (by simp) rfl (by simp [Function.comp_def]) (by simp [hrl]))⟩,trivial⟩ ?_
   (repeat first|refine tA rfl ?_ |refine aU rfl ?_)
   (refine pW rfl ?_ rfl (by rfl);refine AH rfl rfl rfl (by first| (simp;done)|(simp;(omega))) rfl (by intro r hr;simp at hr;subst hr;rfl) (by rfl) (Nat.le_of_ble_eq_true rfl) (by simp;omega) ?_)
   (repeat first|(refine sX rfl ?_ ?_;first|exact tI|omega) |refine aU rfl ?_ |refine Aa ?_)
   refine⟨⟨k+1,by omega⟩,by dsimp only;(omega),[2],?_⟩
   simp[cX,zC,hΓ,List.range_succ]
 ·obtain rfl:k=tot:=by (simp only[oZ] at *;omega)
  refine aE ?_
  (repeat first|refine tM rfl ?_ |refine aU rfl ?_ |refine Aa ?_)
  refine Au.freeze [0] [(6,DC ((List.range k).map (Fg n)))] ⟨⟨_,rfl,.o (.full (by simp) rfl (by simp [Function.comp_def]) (by simp))⟩,trivial⟩ ?_
  refine aR ⟨_,rfl,rfl⟩
def ZY(n:Net)(st:List Int)(i:Nat):Bool:=((n.au[i]?.map (·.ac)).getD []).getD (st.getD (n.ps.length+i) 0).toNat false
def CI(n:Net)(st:List Int)(mv:List (List Int)):Bool:=
 if n.kd=0 then ZY n st 0 else if n.kd=1 then ZY n st 0 != ZY n st 1 else if n.kd=2 then ZY n st 0 && !ZY n st 1 else if n.kd=3 then !ZY n st 0 else
 if n.kd=5 then decide (st.getD n.ps.length 0=n.gl) else mv.all (·.isEmpty)
structure eD (n:Net):Prop where
 one:n.kd=0∨n.kd=3∨n.kd=5→1≤n.au.length
 two:n.kd=1∨n.kd=2→2≤n.au.length
theorem Uz{n:Net}(hn:DL n){st:List Int}(hf:Fits (Ae n) st)(i:Nat)(hi:i < n.au.length):Pure Tryz.prog TB 216 [Mg n,Ag st,eI .i64 i] (eB (ZY n st i)):=by
 obtain⟨a,ha⟩:=get_some hi
 have hok:=hn.au a (List.mem_of_getElem? ha)
 have h1:=AG hok
 have hz:(Ae n)[n.ps.length+i]? = some (a.nx.length:Int):=by unfold Ae;rw [List.getElem?_append_right (by simp)];simp [ha]
 have hlen:=hf.len
 obtain⟨q,hq⟩:=get_some (l:=st) (k:=n.ps.length+i) (by have:=(List.getElem?_eq_some_iff.1 hz).1;omega)
 have h2:=hf.get _ _ _ hz hq
 obtain⟨b,hb⟩:=get_some (l:=a.ac) (k:=q.toNat) (by omega)
 have h3:=fm (TB:=TB) n st i a q b ha hq h2.1 hb
 have h4:ZY n st i=b:=by simp [ZY,ha,List.getD,hq,hb]
 rw [h4];exact h3
theorem WH{n:Net}(hn:DL n)(hk:eD n){st:List Int}(hf:Fits (Ae n) st)(mv:List (List Int)):Pure Tryz.prog TB 187 [Mg n,Ag st,Cm mv] (eB (CI n st mv)):=by
 have h0:=Uz (TB:=TB) hn hf 0
 have h1:=Uz (TB:=TB) hn hf 1
 have hk1:=hk.one
 have hk2:=hk.two
 have hnp:=hn.np
 have hna:=hn.na
 have hst:n.ps.length+n.au.length=st.length:=by have:=hf.len;unfold Ae at this;simpa using this
 have hat:n.kd=5→(st.map Bm)[((n.ps.length:Nat):Int).toNat]? = some (Bm (st.getD n.ps.length 0)):=by
  intro h5
  obtain⟨x,hx⟩:=get_some (l:=st) (k:=n.ps.length) (by omega)
  rw [get_map (g:=Bm) hx];simp [List.getD,hx]
 refine eN Tryz.func187 rfl (by kernel_rfl) rfl ?_;intro Γ hΓ
 refine Au.bound 2 rfl fun hB0=>?_
 have hB:=hB0 (mv.map Dw) .refl
 (repeat' first|refine sN rfl ?_ |refine tA rfl ?_ |refine s2 rfl fun _ _hb=>?_ |(refine sC rfl (h0 (by (simp only[oZ] at *;omega))) ?_;intro _ _hb)|(refine sC rfl (h1 (by (simp only[oZ] at *;omega))) ?_;intro _ _hb) |refine s3 rfl ?_ ?_<;>rintro rfl |refine aU rfl ?_ |refine Aa ?_ |refine rE (by kernel_rfl) ?_|(refine aC rfl ?_ ?_<;>rintro⟨⟩)|refine aK ?_|refine aE ?_|refine aB ?_|refine aR ⟨_,rfl,?_⟩)
 all_goals try (show E.o _=E.o _;congr;unfold CI;grind)
 ·have hat:=hat (by grind)
  (repeat' first|refine tA rfl ?_ |(refine s4 rfl ‹_› rfl ?_ ?_;omega) |refine s2 rfl fun _ _hb=>?_ |refine Aa ?_|(refine aC rfl ?_ ?_<;>rintro⟨⟩)|refine aK ?_|refine aE ?_|refine aB ?_|refine aR ⟨_,rfl,?_⟩)
  show E.o _=E.o _;congr;unfold CI;grind
 refine Au.AP (α:={k:Nat // k≤mv.length∧(mv.take k).all (·.isEmpty)=true}) (fun ⟨k,hk,ha⟩=>[(2,Cm mv),(7,eI .i64 k)]) (fun ⟨k,hk,ha⟩=>[]) 0 (fun ⟨k,hk,ha⟩=>mv.length - k) (⟨0,by omega,rfl⟩) [] (Di hΓ rfl rfl) (by (simp[cX,zC,hΓ])) ?_;rintro⟨k,hk,ha⟩;(try dsimp only)
 (repeat first|refine sN rfl ?_ |refine tA rfl ?_ |refine s2 rfl fun _ _hb=>?_ |refine aU rfl ?_ |refine Aa ?_)
 (refine aC rfl ?_ ?_<;>rintro⟨⟩)
 ·obtain⟨x,hx⟩:=get_some (l:=mv) (k:=k) (by (simp only[oZ] at *;omega))
  have hx':=get_map (g:=Dw) hx
  (repeat' first|refine sN rfl ?_ |(refine sA rfl ?_ ?_;first|exact tI|simp only[oZ] at *;omega) |(refine s4 rfl ‹_› rfl ?_ ?_;omega) |refine s2 rfl fun _ _hb=>?_ |refine aU rfl ?_ |refine Aa ?_|(refine aC rfl ?_ ?_<;>rintro⟨⟩)|refine aK ?_|refine aE ?_|refine aB ?_|refine aR ⟨_,rfl,?_⟩)
  ·have h3:=Ia (f:=fun x:List Int=>x.isEmpty) hx (by cases x<;>grind)
   show E.o _=E.o _;congr;unfold CI;grind
  ·refine⟨⟨k+1,by (simp only[oZ] at *;omega),Gu hx ha (by cases x<;>grind)⟩,by dsimp only;((simp only[oZ] at *;omega)),[],?_⟩
   simp[cX,zC,hΓ]
 ·(repeat' first|refine tA rfl ?_ |refine aU rfl ?_ |refine Aa ?_|(refine aC rfl ?_ ?_<;>rintro⟨⟩)|refine aK ?_|refine aE ?_|refine aB ?_|refine aR ⟨_,rfl,?_⟩)
  have h3:=Gt ha (by (simp only[oZ] at *;omega))
  show E.o _=E.o _;congr;unfold CI;grind
theorem HG{α β:Type}{l:List α}{g:α→β}{k:Nat}{x:α}(h:l[k]? = some x):(l.map g)[0+((k:Nat):Int).toNat]? = some (g x):=by simp [h]
theorem HT{l:List Int}{k:Nat}{x y:Int}:(l.map Al).set (0+((k:Nat):Int).toNat) (Af (Al x) 0 (eC (eI .i64 y)))=(l.set k y).map Al:=by
 simp [Af,eC,List.map_set]
def Qt(l:List Int):Nat:=l.countP (decide <| · < 0)
theorem UJ:∀ {l:List Int} {k:Nat} {x y:Int},l[k]? = some x→x < 0→0≤y→Qt (l.set k y)+1=Qt l
 | [],k,x,y,h,_,_=>by simp at h
 | a::l,0,x,y,h,hx,hy=>by
  simp at h;subst h
  have:¬y < 0:=by omega
  simp [Qt,hx,this]
 | a::l,k+1,x,y,h,hx,hy=>by
  have:=UJ (l:=l) (k:=k) (by simpa using h) hx hy
  simp only [Qt,List.set_cons_succ,List.countP_cons] at this ⊢
  omega
theorem Rt{mv:List (List Int)}{dist:List Int}{d:Int}:Lf mv dist d=true↔∃r∈mv,∃j∈r,dist.getD j.toNat 0=d:=by
 simp [Lf,ie]
structure RT (mv:List (List (List Int))) (g:Nat→Bool) (dist:List Int):Prop where
 len:dist.length=mv.length
 zero:∀i,i < mv.length→(dist.getD i 0=0↔g i=true)
 step:∀i,i < mv.length→0 < dist.getD i 0→∃r∈mv.getD i [],∃j∈r,dist.getD j.toNat 0=dist.getD i 0 - 1
 close:∀i,i < mv.length→∀r∈mv.getD i [],∀j∈r,0≤dist.getD j.toNat 0→0≤dist.getD i 0∧dist.getD i 0≤dist.getD j.toNat 0+1
 bound:∀i,i < mv.length→-1≤dist.getD i 0∧dist.getD i 0≤mv.length+1
structure DI (mv:List (List (List Int))) (g:Nat→Bool) (dist:List Int) (d:Int) (more:Bool) (i:Nat):Prop where
 len:dist.length=mv.length
 d1:1≤d
 zero:∀i,i < mv.length→(dist.getD i 0=0↔g i=true)
 step:∀i,i < mv.length→0 < dist.getD i 0→∃r∈mv.getD i [],∃j∈r,dist.getD j.toNat 0=dist.getD i 0 - 1
 lt:∀x,x < mv.length→-1≤dist.getD x 0∧dist.getD x 0≤d
 up:∀x,i≤x→x < mv.length→dist.getD x 0 < d
 last:more=false→∀x,x < mv.length→dist.getD x 0 < d
 close:∀x,x < mv.length→∀r∈mv.getD x [],∀j∈r,0≤dist.getD j.toNat 0→(dist.getD j.toNat 0 < d - 1∨x < i∧dist.getD j.toNat 0=d - 1)→0≤dist.getD x 0∧dist.getD x 0≤dist.getD j.toNat 0+1
def Oo(mv:List (List (List Int))):Prop:=∀x,x < mv.length→∀r∈mv.getD x [],∀j∈r,0≤j∧j < mv.length
theorem Uk{l:List Int}{k:Nat}{y:Int}(h:k < l.length):(l.set k y).getD k 0=y:=by simp [List.getD,h]
theorem OQ{l:List Int}{k x:Nat}{y:Int}(h:k≠x):(l.set k y).getD x 0=l.getD x 0:=by simp [List.getD,h]
theorem DI.set{mv:List (List (List Int))}{g:Nat→Bool}{dist:List Int}{d:Int}{more:Bool}{i:Nat}(h:DI mv g dist d more i)(hi:i < mv.length)(hneg:dist.getD i 0 < 0)(hn:Lf (mv.getD i []) dist (d - 1)=true):DI mv g (dist.set i d) d true (i+1):=by
 have hd1:=h.d1
 have hl:i < dist.length:=by rw [h.len];exact hi
 obtain⟨r0,hr0,j0,hj0,hjd⟩:=Rt.1 hn
 have g1:(dist.set i d).getD i 0=d:=Uk hl
 have g2:∀x,x≠i→(dist.set i d).getD x 0=dist.getD x 0:=fun x hx=>OQ (Ne.symm hx)
 have g3:∀x,0≤dist.getD x 0→(dist.set i d).getD x 0=dist.getD x 0:=fun x hx=>g2 x fun e=>by subst e;omega
 refine⟨by simp [h.len],hd1,fun x hx=>?_,fun x hx hp=>?_,fun x hx=>?_,fun x hx hx'=>?_,fun hm=>(by cases hm),fun x hx r hr j hj hj0' hj1=>?_⟩
 ·by_cases e:x=i
  ·subst e;rw [g1,←h.zero x hx];constructor<;>intro<;>omega
  ·rw [g2 x e];exact h.zero x hx
 ·by_cases e:x=i
  ·subst e;rw [g1] at hp ⊢
   exact⟨r0,hr0,j0,hj0,by rw [g3 _ (by omega)];exact hjd⟩
  ·rw [g2 x e] at hp ⊢
   obtain⟨r,hr,j,hj,hjx⟩:=h.step x hx hp
   exact⟨r,hr,j,hj,by rw [g3 _ (by omega)];exact hjx⟩
 ·by_cases e:x=i
  ·subst e;rw [g1];omega
  ·rw [g2 x e];exact h.lt x hx
 ·rw [g2 x (by omega)];exact h.up x (by omega) hx'
 ·by_cases ej:j.toNat=i
  ·rw [ej,g1] at hj1;omega
  ·rw [g2 _ ej] at hj0' hj1 ⊢
   by_cases e:x=i
   ·subst e;rw [g1]
    refine⟨by omega,?_⟩
    rcases hj1 with h1|⟨_,h1⟩
    ·have:=(h.close x hx r hr j hj hj0' (.inl h1)).1;omega
    ·omega
   ·rw [g2 x e]
    exact h.close x hx r hr j hj hj0' (by rcases hj1 with h1|⟨h1,h2⟩;exact .inl h1;exact .inr ⟨by omega,h2⟩)
theorem DI.AE{mv:List (List (List Int))}{g:Nat→Bool}{dist:List Int}{d:Int}{more:Bool}{i:Nat}(h:DI mv g dist d more i)(hi:i < mv.length)(hn:dist.getD i 0 < 0→Lf (mv.getD i []) dist (d - 1)=false):DI mv g dist d more (i+1):=by
 refine⟨h.len,h.d1,h.zero,h.step,h.lt,fun x hx hx'=>h.up x (by omega) hx',h.last,fun x hx r hr j hj hj0 hj1=>?_⟩
 rcases hj1 with h1|⟨h1,h2⟩
 ·exact h.close x hx r hr j hj hj0 (.inl h1)
 ·by_cases e:x=i
  ·subst e
   by_cases hx0:dist.getD x 0 < 0
   ·have h3:=hn hx0
    have h4:=Rt.2 ⟨r,hr,j,hj,h2⟩
    rw [h3] at h4;cases h4
   ·have:=h.up x (Nat.le_refl _) hx
    omega
  ·exact h.close x hx r hr j hj hj0 (.inr ⟨by omega,h2⟩)
theorem DI.next{mv:List (List (List Int))}{g:Nat→Bool}{dist:List Int}{d:Int}{more:Bool}(h:DI mv g dist d more mv.length):DI mv g dist (d+1) true 0:=by
 have hd1:=h.d1
 refine⟨h.len,by omega,h.zero,h.step,fun x hx=>?_,fun x _ hx=>?_,fun hm=>(by cases hm),fun x hx r hr j hj hj0 hj1=>?_⟩
 ·have:=h.lt x hx;omega
 ·have:=h.lt x hx;omega
 ·exact h.close x hx r hr j hj hj0 (by omega)
theorem DI.fin{mv:List (List (List Int))}{g:Nat→Bool}{dist:List Int}{d:Int}(hin:Oo mv)(h:DI mv g dist d false mv.length)(hd:d≤mv.length+1):RT mv g dist:=by
 have hd1:=h.d1
 refine⟨h.len,h.zero,h.step,fun x hx r hr j hj hj0=>?_,fun x hx=>?_⟩
 ·have h1:=hin x hx r hr j hj
  have:=h.last rfl j.toNat (by omega)
  exact h.close x hx r hr j hj hj0 (by omega)
 ·have:=h.lt x hx;have:=h.last rfl x hx;omega
structure TD (mv:List (List (List Int))) (g:Nat→Bool) (dt:List Int) (d:Int) (more:Bool):Prop where
 len:dt.length=mv.length
 d1:1≤d
 d2:d≤mv.length+2
 yes:more=true→DI mv g dt d true 0∧d+Qt dt≤mv.length+1
 no:more=false→RT mv g dt
theorem fy(l:List Int):Qt l≤l.length:=List.countP_le_length
theorem TD.init{mv:List (List (List Int))}{g:Nat→Bool}{dist:List Int}(hlen:dist.length=mv.length)(h0:∀i,i < mv.length→dist.getD i 0=if g i then 0 else -1):TD mv g dist 1 true:=by
 have hx:∀x,x < mv.length→-1≤dist.getD x 0∧dist.getD x 0 < 1:=fun x hx=>by have:=h0 x hx;split at this<;>omega
 have hn:=fy dist
 refine⟨hlen,by omega,by omega,fun _=>⟨⟨hlen,by omega,fun x h=>?_,fun x h hp=>?_,fun x h=>?_,fun x _ h=>(hx x h).2,fun h=>(by cases h),fun x h r hr j hj hj0 hj1=>?_⟩,by omega⟩,fun h=>(by cases h)⟩
 ·have:=h0 x h;split at this<;>simp_all
 ·have:=hx x h;omega
 ·have:=hx x h;omega
 ·omega
structure ND (mv:List (List (List Int))) (g:Nat→Bool) (dt:List Int) (d:Int) (du:List Int) (m2:Bool) (i:Nat):Prop where
 le:i≤mv.length
 di:DI mv g du d m2 i
 cnt:Qt du+(if m2 then 1 else 0)≤Qt dt
theorem ND.init{mv:List (List (List Int))}{g:Nat→Bool}{dt:List Int}{d:Int}(h:DI mv g dt d true 0):ND mv g dt d dt false 0:=
 ⟨Nat.zero_le _,⟨h.len,h.d1,h.zero,h.step,h.lt,h.up,fun _ x hx=>h.up x (Nat.zero_le _) hx,h.close⟩,by simp⟩
theorem ND.set{mv:List (List (List Int))}{g:Nat→Bool}{dt:List Int}{d:Int}{du:List Int}{m2:Bool}{i:Nat}(h:ND mv g dt d du m2 i)(hi:i < mv.length)(hneg:du.getD i 0 < 0)(hn:Lf (mv.getD i []) du (d - 1)=true):ND mv g dt d (du.set i d) true (i+1):=by
 have hl:=h.di.len
 have hd1:=h.di.d1
 have h1:du[i]? = some (du.getD i 0):=by
  have:i < du.length:=by omega
  simp [List.getD,this]
 have h2:=UJ h1 hneg (y:=d) (by omega)
 have h3:=h.cnt
 refine⟨hi,h.di.set hi hneg hn,?_⟩
 simp only [if_true]
 split at h3<;>omega
theorem ND.AE{mv:List (List (List Int))}{g:Nat→Bool}{dt:List Int}{d:Int}{du:List Int}{m2:Bool}{i:Nat}(h:ND mv g dt d du m2 i)(hi:i < mv.length)(hn:du.getD i 0 < 0→Lf (mv.getD i []) du (d - 1)=false):ND mv g dt d du m2 (i+1):=
 ⟨hi,h.di.AE hi hn,h.cnt⟩
theorem ND.next{mv:List (List (List Int))}{g:Nat→Bool}{dt:List Int}{d:Int}{du:List Int}{m2:Bool}(hin:Oo mv)(h:ND mv g dt d du m2 mv.length)(hd:d+Qt dt≤mv.length+1):TD mv g du (d+1) m2:=by
 have hd1:=h.di.d1
 have hc:=h.cnt
 refine⟨h.di.len,by omega,by omega,fun hm=>?_,fun hm=>?_⟩
 ·subst hm
  simp only [if_true] at hc
  exact⟨h.di.next,by omega⟩
 ·subst hm
  exact h.di.fin hin (by omega)
theorem ZM(mv:List (List (List Int)))(g:Nat→Bool)(dist:List Int)(hin:Oo mv)(hN:mv.length≤1048576)(hlen:dist.length=mv.length)(h0:∀i,i < mv.length→dist.getD i 0=if g i then 0 else -1) :
    Spec Tryz.prog TB 189 [(0,.cells 3 1 (dist.map Al))] 1 [DC mv,.o (.arr 0 1 0 mv.length)] (fun x σ nx=>x=.t []∧nx=1∧∃dist',RT mv g dist'∧σ=[(0,.cells 3 1 (dist'.map Al))]):=by
  refine eN Tryz.func189 rfl (by kernel_rfl) rfl ?_;intro Γ hΓ
  (repeat first|refine tM rfl ?_ |refine aU rfl ?_ |refine Aa ?_)
  refine aB ?_
  refine Au.AP (α:={x:List Int×Int×Bool // TD mv g x.1 x.2.1 x.2.2}) (fun ⟨⟨dt,d,more⟩,hH⟩=>[(0,DC mv),(1,.o (.arr 0 1 0 mv.length)),(4,eB more),(5,eI .i64 d)]) (fun ⟨⟨dt,d,more⟩,hH⟩=>[(0,.cells 3 1 (dt.map Al))]) 1 (fun ⟨⟨dt,d,more⟩,hH⟩=>2*Qt dt+(if more then 1 else 0)) (⟨(dist,1,true),TD.init hlen h0⟩) [0] (Di hΓ rfl rfl) (by (simp[cX,zC,hΓ])) ?_;rintro⟨⟨dt,d,more⟩,hH⟩;(try dsimp only)
  simp only at hH
  (repeat first|refine tM rfl ?_ |refine aU rfl ?_ |refine Aa ?_)
  (refine aC rfl ?_ ?_<;>rintro⟨⟩)
  · obtain⟨hD,hc⟩:=hH.yes rfl
    have hd1:=hD.d1
    refine aK ?_
    refine aS (aB ?_)
    (repeat first|refine tM rfl ?_ |refine aU rfl ?_ |refine Aa ?_)
    refine aB ?_
    refine Au.AP (α:={x:List Int×Bool×Nat // ND mv g dt d x.1 x.2.1 x.2.2}) (fun ⟨⟨du,m2,i⟩,hM⟩=>[(0,DC mv),(1,.o (.arr 0 1 0 mv.length)),(4,eB m2),(5,eI .i64 d),(6,eI .i64 i)]) (fun ⟨⟨du,m2,i⟩,hM⟩=>[(0,.cells 3 1 (du.map Al))]) 1 (fun ⟨⟨du,m2,i⟩,hM⟩=>mv.length - i) (⟨(dt,false,0),ND.init hD⟩) [0] (Di hΓ rfl rfl) (by (simp[cX,zC,hΓ])) ?_;rintro⟨⟨du,m2,i⟩,hM⟩;(try dsimp only)
    simp only at hM
    have hul:=hM.di.len
    have hile:=hM.le
    (repeat first|refine tM rfl ?_ |refine s2 rfl fun _ _hb=>?_ |refine aU rfl ?_ |refine Aa ?_)
    (refine aC rfl ?_ ?_<;>rintro⟨⟩)
    · obtain⟨y,hy⟩:=get_some (l:=du) (k:=i) (by (simp only[oZ] at *;omega))
      have hy':=HG (g:=Al) hy
      obtain⟨mi,hmi⟩:=get_some (l:=mv) (k:=i) (by (simp only[oZ] at *;omega))
      have hmi':=get_map (g:=Kg) hmi
      have hilt:i < mv.length:=by (simp only[oZ] at *;omega)
      have hyd:du.getD i 0=y:=by simp [List.getD,hy]
      have hmd:mv.getD i []=mi:=by simp [List.getD,hmi]
      have hset:=hM.set hilt
      have hkeep:=hM.AE hilt
      rw [hyd,hmd] at hset hkeep
      refine aK ?_
      refine aS (aB ?_)
      (repeat' first|((first|refine sM rfl ?_ ?_|refine s4 rfl ‹_› rfl ?_ ?_);first|exact tI|omega) |refine s2 rfl fun _ _hb=>?_|(refine Ai rfl ?_;refine gA rfl ?_;first| (refine mM (Iu rfl rfl ((.cons (.o (.pure rfl)) (.cons (.o (.full rfl (by simp [Function.comp_def]) (by simp [hul]))) (.cons (.o (.pure rfl)) .nil)))) (ZN mi du (d - 1) (fun r hr v hv=>by have:=hin i hilt r (by rw [hmd];exact hr) v hv;exact⟨this.1,by omega⟩)) rfl) rfl ?_;intro _ _hb)) |refine s3 rfl ?_ ?_<;>rintro rfl |refine aU rfl ?_ |refine Aa ?_|(refine aC rfl ?_ ?_<;>rintro⟨⟩)|refine aK ?_|refine aE ?_|refine aB ?_|refine aR ⟨_,rfl,?_⟩)
      all_goals first
        | (refine⟨⟨(du,m2,i+1),hkeep (by grind)⟩,by dsimp only;(omega),[0],?_⟩
           simp[cX,zC,hΓ]
           done)
        | (refine⟨⟨(du.set i d,true,i+1),hset (by grind) (by grind)⟩,by dsimp only;(omega),[0],?_⟩
           rw [HT]
           simp[cX,zC,hΓ]
           done)
    · obtain rfl:i=mv.length:=by (simp only[oZ] at *;omega)
      have hN2:=hM.next hin hc
      have hc2:=hM.cnt
      refine aE ?_
      (repeat first|(refine sM rfl ?_ ?_;first|exact tI|omega) |refine aU rfl ?_ |refine Aa ?_)
      refine⟨⟨(du,d+1,m2),hN2⟩,?_,[0],?_⟩
      · dsimp only
        cases m2<;>simp at hc2 ⊢ <;> omega
      · simp[cX,zC,hΓ]
  · refine aE ?_
    exact⟨_,rfl,rfl,rfl,dt,hH.no rfl,rfl⟩
theorem ZP(l:List Int)(a:Int):l.length=l.count a+(l.filter (· != a)).length:=by
 induction l with
 | nil=>rfl
 | cons b l ih=>
  simp only [List.count_cons,List.filter_cons,List.length_cons]
  by_cases h:b=a
  ·subst h;simp;omega
  ·simp [h];omega
theorem Gi:∀(n:Nat) (l:List Int),l.Nodup→(∀x∈l,0≤x∧x < n)→l.length≤n
 | 0,l,_,h=>by
  cases l with
  | nil=>simp
  | cons a l=>have:=h a (by simp);omega
 | n + 1,l,hn,h=>by
  have h1:=ZP l n
  have h2:=List.nodup_iff_count.1 hn n
  have h3:=Gi n (l.filter (· != (n:Int))) (hn.filter _) fun x hx=>by
   obtain⟨h4,h5⟩:=List.mem_filter.1 hx
   have:=h x h4
   simp at h5
   omega
  omega
def IF(dist:List Int)(d:Int)(acc:List Int)(j:Int):List Int:=if dist.getD j.toNat 0=d∧j∉acc then acc++[j] else acc
theorem XK(dist:List Int)(d:Int)(acc:List Int)(j:Int):IF dist d acc j=if dist.getD j.toNat 0=d∧j∉acc then acc++[j] else acc:=rfl
def Fx(mv:List (List (List Int)))(dist at':List Int)(k:Nat)(d:Int):List Int:=at'.foldl (fun acc x=>((mv.getD x.toNat []).getD k []).foldl (IF dist d) acc) []
def Ds(n:Nat)(acc:List Int):Prop:=acc.Nodup∧∀x∈acc,0≤x∧x < n
theorem Ds.add{n:Nat}{acc:List Int}(h:Ds n acc){dist:List Int}{d j:Int}(hj:0≤j∧j < n):Ds n (IF dist d acc j):=by
 unfold IF
 split
 ·rename_i h1
  refine⟨List.nodup_append.2 ⟨h.1,by simp,fun a ha b hb=>?_⟩,fun x hx=>?_⟩
  ·simp at hb;subst hb;intro e;subst e;exact h1.2 ha
  ·rcases List.mem_append.1 hx with hx|hx
   ·exact h.2 x hx
   ·simp at hx;subst hx;exact hj
 ·exact h
theorem Ds.fold{n:Nat}{dist:List Int}{d:Int}:∀ {l acc:List Int},Ds n acc→(∀j∈l,0≤j∧j < n)→Ds n (l.foldl (IF dist d) acc)
 | [],_,h,_=>h
 | j::_,_,h,hl=>by rw [List.foldl_cons];exact Ds.fold (h.add (hl j (by simp))) fun x hx=>hl x (by simp [hx])
theorem mem_row{mv:List (List (List Int))}(hin:Oo mv){x:Int}(hx:0≤x∧x < mv.length)(k:Nat):∀j∈(mv.getD x.toNat []).getD k [],0≤j∧j < mv.length:=by
 intro j hj
 cases hr:(mv.getD x.toNat [])[k]? with
 | none=>
  have:(mv.getD x.toNat []).getD k []=[]:=by rw [List.getD,hr];rfl
  rw [this] at hj;cases hj
 | some r=>
  have:(mv.getD x.toNat []).getD k []=r:=by rw [List.getD,hr];rfl
  rw [this] at hj
  exact hin x.toNat (by omega) r (List.mem_of_getElem? hr) j hj
theorem Ds.il{mv:List (List (List Int))}(hin:Oo mv){dist:List Int}{d:Int}{k:Nat}:∀ {l acc:List Int},Ds mv.length acc→(∀x∈l,0≤x∧x < mv.length)→Ds mv.length (l.foldl (fun acc x=>((mv.getD x.toNat []).getD k []).foldl (IF dist d) acc) acc)
 | [],_,h,_=>h
 | j::_,_,h,hl=>by rw [List.foldl_cons];exact Ds.il hin (h.fold (mem_row hin (hl j (by simp)) k)) fun x hx=>hl x (by simp [hx])
theorem Ds.nil{n:Nat}:Ds n []:=⟨.nil,fun x hx=>(by cases hx)⟩
theorem GB{α β:Type}{l:List α}{k:Nat}{x:α}(h:l[k]? = some x)(f:β→α→β)(b:β):(l.take (k+1)).foldl f b=f ((l.take k).foldl f b) x:=by
 rw [List.take_add_one,h,List.foldl_append];rfl
theorem Ux(mv:List (List (List Int)))(dist at':List Int)(k:Nat)(d:Int)(hin:Oo mv)(hN:mv.length≤1048576)(hlen:dist.length=mv.length)(ha:∀x∈at',0≤x∧x < mv.length)(hal:at'.length≤1048576)(hk:∀i,i < mv.length→k < (mv.getD i []).length) :
 Pure Tryz.prog TB 191 [DC mv,Ag dist,Ag at',eI .i64 k,eI .i64 d] (Ag (Fx mv dist at' k d)):=by
 have hacc:∀m,Ds mv.length ((at'.take m).foldl (fun acc x=>((mv.getD x.toNat []).getD k []).foldl (IF dist d) acc) []):=fun m=>Ds.il hin .nil fun x hx=>ha x (List.mem_of_mem_take hx)
 refine eN Tryz.func191 rfl (by kernel_rfl) rfl ?_;intro Γ hΓ
 refine Au.bound 0 rfl fun hB0=>?_
 (repeat first|refine aU rfl ?_)
 (refine Ai rfl ?_;refine Bs (fun _ _=>Br rfl) rfl ?_)
 (repeat first|refine aU rfl ?_ |refine Aa ?_)
 (refine pW rfl ?_ rfl (by rfl);refine BP rfl rfl rfl rfl (by simp) (by rfl) (by rfl) (by rfl) (by rfl) ?_)
 (repeat first|refine tM rfl ?_ |refine aU rfl ?_ |refine Aa ?_)
 refine aB ?_
 refine Au.AP (α:={m:Nat // m≤at'.length}) (fun ⟨m,hm⟩=>[(0,DC mv),(1,Ag dist),(2,Ag at'),(3,eI .i64 k),(4,eI .i64 d),(11,.o (.arr 0 1 0 ((at'.take m).foldl (fun acc x=>((mv.getD x.toNat []).getD k []).foldl (IF dist d) acc) []).length)),(12,eI .i64 m)]) (fun ⟨m,hm⟩=>[(0,.cells 3 1 (((at'.take m).foldl (fun acc x=>((mv.getD x.toNat []).getD k []).foldl (IF dist d) acc) []).map Al))]) 1 (fun ⟨m,hm⟩=>at'.length - m) (⟨0,by omega⟩) [0] (Di hΓ rfl rfl) (by (simp[cX,zC,hΓ])) ?_;rintro⟨m,hm⟩;(try dsimp only)
 have hacc1:=hacc m
 have hacc2:=fun x=>GB (l:=at') (k:=m) (x:=x) (f:=fun acc x=>((mv.getD x.toNat []).getD k []).foldl (IF dist d) acc) (b:=[])
 generalize hA1:(at'.take m).foldl (fun acc x=>((mv.getD x.toNat []).getD k []).foldl (IF dist d) acc) []=acc at *
 (repeat first|refine sN rfl ?_ |refine tM rfl ?_ |refine s2 rfl fun _ _hb=>?_ |refine aU rfl ?_ |refine Aa ?_)
 (refine aC rfl ?_ ?_<;>rintro⟨⟩)
 ·obtain⟨y,hy⟩:=get_some (l:=at') (k:=m) (by (simp only[oZ] at *;omega))
  have hy':=get_map (g:=Bm) hy
  have hyb:=ha y (List.mem_of_getElem? hy)
  obtain⟨my,hmy⟩:=get_some (l:=mv) (k:=y.toNat) (by omega)
  have hmy':(mv.map Kg)[y.toNat]? = some (Kg my):=by simp [hmy]
  have hkk:=hk y.toNat (by omega)
  have hgy:mv.getD y.toNat []=my:=by simp [List.getD,hmy]
  rw [hgy] at hkk
  obtain⟨r,hr⟩:=get_some (l:=my) (k:=k) hkk
  have hr':=get_map (g:=Dw) hr
  have hgr:my.getD k []=r:=by simp [List.getD,hr]
  have hrin:=mem_row hin hyb k
  rw [hgy,hgr] at hrin
  have hstep:=hacc2 y hy
  rw [hgy,hgr] at hstep
  have hBr:=hB0 (r.map Bm) (.l (i:=y.toNat) (j:=0) (r:=Kg my) hmy' rfl (.l (i:=k) (j:=0) (r:=Dw r) (by simp [hr]) rfl .refl))
  have hf2:∀j,Ds mv.length ((r.take j).foldl (IF dist d) acc):=fun j=>hacc1.fold fun x hx=>hrin x (List.mem_of_mem_take hx)
  refine aK ?_
  refine aS (aB ?_)
  (repeat first|refine tM rfl ?_ |(refine s4 rfl ‹_› rfl ?_ ?_;omega) |refine aU rfl ?_ |refine Aa ?_)
  refine aB ?_
  refine Au.AP (α:={j:Nat // j≤r.length}) (fun ⟨j,hj⟩=>[(0,DC mv),(1,Ag dist),(2,Ag at'),(3,eI .i64 k),(4,eI .i64 d),(11,.o (.arr 0 1 0 ((r.take j).foldl (IF dist d) acc).length)),(12,eI .i64 m),(13,Ag r),(14,eI .i64 j)]) (fun ⟨j,hj⟩=>[(0,.cells 3 1 (((r.take j).foldl (IF dist d) acc).map Al))]) 1 (fun ⟨j,hj⟩=>r.length - j) (⟨0,by omega⟩) [0] (Di hΓ rfl rfl) (by (simp[cX,zC,hΓ])) ?_;rintro⟨j,hj⟩;(try dsimp only)
  have hac:=hf2 j
  have hst2:=fun x=>GB (l:=r) (k:=j) (x:=x) (f:=IF dist d) (b:=acc)
  generalize hA2:(r.take j).foldl (IF dist d) acc=ac2 at *
  (repeat first|refine sN rfl ?_ |refine tM rfl ?_ |refine s2 rfl fun _ _hb=>?_ |refine aU rfl ?_ |refine Aa ?_)
  (refine aC rfl ?_ ?_<;>rintro⟨⟩)
  ·obtain⟨x,hx⟩:=get_some (l:=r) (k:=j) (by (simp only[oZ] at *;omega))
   have hx':=get_map (g:=Bm) hx
   have hxb:=hrin x (List.mem_of_getElem? hx)
   obtain⟨z,hz⟩:=get_some (l:=dist) (k:=x.toNat) (by omega)
   have hz':(dist.map Bm)[x.toNat]? = some (Bm z):=by simp [hz]
   have hdz:dist.getD x.toNat 0=z:=by simp [List.getD,hz]
   have hst2:=hst2 x hx
   have hlac:=Gi _ _ hac.1 hac.2
   rw [XK,hdz] at hst2
   refine aK ?_
   refine aS (aB ?_)
   (repeat' first|(refine sM rfl ?_ ?_;first|exact tI|simp only[oZ] at *;omega) |(refine s4 rfl ‹_› rfl ?_ ?_;omega) |refine s2 rfl fun _ _hb=>?_|(refine Ai rfl ?_;refine gA rfl ?_;first| (refine mM (Iu rfl rfl ((.cons (.o (.full rfl (by simp [Function.comp_def]) (by simp))) (.cons (.o (.pure rfl)) .nil))) (fk ac2 x) rfl) rfl ?_;intro _ _hb)) |refine s3 rfl ?_ ?_<;>rintro rfl |refine aU rfl ?_ |refine Aa ?_|(refine aC rfl ?_ ?_<;>rintro⟨⟩)|refine aK ?_|refine aE ?_|refine aB ?_|refine aR ⟨_,rfl,?_⟩)
   all_goals try (rw [if_neg (by grind)] at hst2;refine⟨⟨j+1,by (simp only[oZ] at *;omega)⟩,by dsimp only;((simp only[oZ] at *;omega)),[0],?_⟩;simp[cX,zC,hΓ,hst2];done)
   all_goals rw [if_pos (by grind)] at hst2
   (repeat first|refine tA rfl ?_)
   (refine pW rfl ?_ rfl (by rfl);refine AH rfl rfl rfl (by first| (simp;done)|(simp;(omega))) rfl (by intro r hr;simp at hr;subst hr;rfl) (by rfl) (Nat.le_of_ble_eq_true rfl) (by simp;omega) ?_)
   (repeat first|(refine sX rfl ?_ ?_;first|exact tI|simp only[oZ] at *;omega) |refine aU rfl ?_ |refine Aa ?_)
   refine⟨⟨j+1,by (simp only[oZ] at *;omega)⟩,by dsimp only;((simp only[oZ] at *;omega)),[1],?_⟩
   simp[cX,zC,hΓ,hst2]
  ·obtain rfl:j=r.length:=by (simp only[oZ] at *;omega)
   refine aE ?_
   rw [List.take_length] at hA2
   subst hA2
   (repeat first|(refine sM rfl ?_ ?_;first|exact tI|omega) |refine aU rfl ?_ |refine Aa ?_)
   refine⟨⟨m+1,by (simp only[oZ] at *;omega)⟩,by dsimp only;((simp only[oZ] at *;omega)),[0],?_⟩
   simp[cX,zC,hΓ,hstep,-List.getD_eq_getElem?_getD]
 ·obtain rfl:m=at'.length:=by (simp only[oZ] at *;omega)
  refine aE ?_
  (repeat first|refine tM rfl ?_ |refine aU rfl ?_ |refine Aa ?_)
  rw [List.take_length] at hA1
  subst hA1
  refine Au.freeze [0] [(10,Ag (Fx mv dist at' k d))] ⟨⟨_,rfl,.o (.full (by simp) rfl (by simp [Function.comp_def,Fx]) (by simp))⟩,trivial⟩ ?_
  refine aR ⟨_,rfl,rfl⟩
end Go.Am
namespace Go.Am
open Go
structure Gr where
 N:Nat
 succ:Int→Int→List Int
 goal:Int→Bool
 ls:List Int
 s0:Int
structure IQ (g:Gr):Prop where
 s0:0≤g.s0∧g.s0 < g.N
 inn:∀x:Int,0≤x∧x < g.N→∀l∈g.ls,∀y∈g.succ x l,0≤y∧y < g.N
 srt:g.ls.Pairwise (· < ·)
def reach(g:Gr):List Int→Int→Int→Prop
 | [],a,x=>a=x
 | l::w,a,x=>∃y∈g.succ a l,reach g w y x
def over(g:Gr)(w:List Int):Prop:=∀l∈w,l∈g.ls
def Sv(g:Gr)(w:List Int):Prop:=∃x,reach g w g.s0 x∧g.goal x=true
def VO:List Int→List Int→Prop
 | a::u,b::w=>a < b∨a=b∧VO u w
 | _,_=>False
def slt(u w:List Int):Prop:=u.length < w.length∨u.length=w.length∧VO u w
def Cs(g:Gr):Option (List Int)→Prop
 | some w=>over g w∧Sv g w∧∀u,over g u→Sv g u→¬slt u w
 | none=>∀u,over g u→¬Sv g u
theorem Er{g:Gr}:∀ {w:List Int} {l a x:Int},reach g (w++[l]) a x↔∃y,reach g w a y∧x∈g.succ y l
 | [],l,a,x=>by simp [reach]
 | m::w,l,a,x=>by
  simp only [List.cons_append,reach,Er]
  constructor
  ·rintro⟨y,hy,z,hz,hx⟩;exact⟨z,⟨y,hy,hz⟩,hx⟩
  ·rintro⟨z,⟨y,hy,hz⟩,hx⟩;exact⟨y,hy,z,hz,hx⟩
theorem Dz{g:Gr}(hg:IQ g):∀ {w:List Int} {a x:Int},over g w→(0≤a∧a < g.N)→reach g w a x→0≤x∧x < g.N
 | [],a,x,_,ha,h=>by have h:a=x:=h;subst h;exact ha
 | l::w,a,x,ho,ha,h=>by
  obtain⟨y,hy,h⟩:=h
  exact Dz hg (fun m hm=>ho m (by simp [hm])) (hg.inn a ha l (ho l (by simp)) y hy) h
theorem Gj{g:Gr}{w:List Int}{l:Int}:over g (w++[l])↔over g w∧l∈g.ls:=by
 unfold over;simp only [List.mem_append,List.mem_singleton]
 constructor
 ·intro h;exact⟨fun m hm=>h m (.inl hm),h l (.inr rfl)⟩
 ·rintro⟨h1,h2⟩ m (hm|rfl);exact h1 m hm;exact h2
theorem Ja:∀ {u w:List Int} {m l:Int},u.length=w.length→(VO (u++[m]) (w++[l])↔VO u w∨u=w∧m < l)
 | [],[],m,l,_=>by simp [VO]
 | [],b::w,m,l,h=>by simp at h
 | a::u,[],m,l,h=>by simp at h
 | a :: u,b::w,m,l,h=>by
  simp only [List.cons_append,VO,Ja (u:=u) (w:=w) (by simpa using h),List.cons.injEq]
  constructor
  ·rintro(h|⟨h1,h2|⟨h2,h3⟩⟩)
   ·exact .inl (.inl h)
   ·exact .inl (.inr ⟨h1,h2⟩)
   ·exact .inr ⟨⟨h1,h2⟩,h3⟩
  ·rintro((h|⟨h1,h2⟩)|⟨⟨h1,h2⟩,h3⟩)
   ·exact .inl h
   ·exact .inr ⟨h1,.inl h2⟩
   ·exact .inr ⟨h1,.inr ⟨h2,h3⟩⟩
theorem SB:∀ {u w:List Int},u.length=w.length→VO u w∨u=w∨VO w u
 | [],[],_=>.inr (.inl rfl)
 | [],b::w,h=>by simp at h
 | a::u,[],h=>by simp at h
 | a :: u,b::w,h=>by
  simp only [VO,List.cons.injEq]
  have h1:=SB (u:=u) (w:=w) (by simpa using h)
  rcases Int.lt_trichotomy a b with h2|h2|h2
  ·exact .inl (.inl h2)
  ·rcases h1 with h1|h1|h1
   ·exact .inl (.inr ⟨h2,h1⟩)
   ·exact .inr (.inl ⟨h2,h1⟩)
   ·exact .inr (.inr (.inr ⟨h2.symm,h1⟩))
  ·exact .inr (.inr (.inl h2))
theorem gh{u w:List Int}(h1:¬slt u w)(h2:¬slt w u):u=w:=by
 unfold slt at h1 h2
 have hl:u.length=w.length:=by omega
 rcases SB hl with h|h|h
 ·exact absurd (.inr ⟨hl,h⟩) h1
 ·exact h
 ·exact absurd (.inr ⟨hl.symm,h⟩) h2
theorem Cs.unique{g:Gr}{r s:Option (List Int)}(hr:Cs g r)(hs:Cs g s):r=s:=by
 cases r with
 | none=>
  cases s with
  | none=>rfl
  | some w=>exact absurd hs.2.1 (hr w hs.1)
 | some v=>
  cases s with
  | none=>exact absurd hr.2.1 (hs v hr.1)
  | some w=>rw [gh (hs.2.2 v hr.1 hr.2.1) (hr.2.2 w hs.1 hs.2.1)]
theorem UA:∀(l:List Int) (Q:Int→Prop),(∃x∈l,Q x)→∃x∈l,Q x∧∀y∈l,Q y→¬y < x
 | [],Q,h=>by obtain⟨x,hx,_⟩:=h;cases hx
 | a :: l,Q,h=>by
  by_cases ht:∃x∈l,Q x
  ·obtain⟨x,hx,hq,hm⟩:=UA l Q ht
   by_cases ha:Q a∧a < x
   ·refine⟨a,by simp,ha.1,fun y hy hqy=>?_⟩
    rcases List.mem_cons.1 hy with rfl|hy
    ·omega
    ·have:=hm y hy hqy;omega
   ·refine⟨x,by simp [hx],hq,fun y hy hqy=>?_⟩
    rcases List.mem_cons.1 hy with rfl|hy
    ·exact fun hlt=>ha ⟨hqy,hlt⟩
    ·exact hm y hy hqy
  ·obtain⟨x,hx,hq⟩:=h
   rcases List.mem_cons.1 hx with rfl|hx
   ·refine⟨x,by simp,hq,fun y hy hqy=>?_⟩
    rcases List.mem_cons.1 hy with rfl|hy
    ·omega
    ·exact absurd ⟨y,hy,hqy⟩ ht
   ·exact absurd ⟨x,hx,hq⟩ ht
theorem O3(ls:List Int):∀(n:Nat) (Q:List Int→Prop),(∃u:List Int,u.length=n∧(∀l∈u,l∈ls)∧Q u)→∃u:List Int,u.length=n∧(∀l∈u,l∈ls)∧Q u∧∀v:List Int,v.length=n→(∀l∈v,l∈ls)→Q v→¬VO v u
 | 0,Q,⟨u,h1,h2,h3⟩=>by
  have:u=[]:=List.length_eq_zero_iff.1 h1
  subst this
  exact⟨[],rfl,h2,h3,fun v hv _ _=>by have:v=[]:=List.length_eq_zero_iff.1 hv;subst this;exact fun h=>h⟩
 | n + 1,Q,⟨u,h1,h2,h3⟩=>by
  cases u with
  | nil=>simp at h1
  | cons a u=>
   obtain⟨x,hx,⟨u1,h4,h5,h6⟩,hm⟩:=UA ls (fun x=>∃u:List Int,u.length=n∧(∀l∈u,l∈ls)∧Q (x::u)) ⟨a,h2 a (by simp),u,by simpa using h1,fun l hl=>h2 l (by simp [hl]),h3⟩
   obtain⟨u2,h7,h8,h9,h10⟩:=O3 ls n (fun u=>Q (x::u)) ⟨u1,h4,h5,h6⟩
   refine⟨x::u2,by simp [h7],fun l hl=>by rcases List.mem_cons.1 hl with rfl|hl;exact hx;exact h8 l hl,h9,fun v hv hvl hq=>?_⟩
   cases v with
   | nil=>simp at hv
   | cons b v=>
    have hb:=hm b (hvl b (by simp)) ⟨v,by simpa using hv,fun l hl=>hvl l (by simp [hl]),hq⟩
    rintro(h|⟨h,h'⟩)
    ·exact hb h
    ·subst h;exact h10 v (by simpa using hv) (fun l hl=>hvl l (by simp [hl])) hq h'
theorem OK(g:Gr):∃r,Cs g r:=by
 by_cases h:∃u,over g u∧Sv g u
 ·have key : ∀n,(∃u,u.length≤n∧over g u∧Sv g u)→∃m,(∃u,u.length=m∧over g u∧Sv g u)∧∀u,over g u→Sv g u→m≤u.length:=by
   intro n
   induction n with
   | zero=>
    rintro⟨u,h1,h2,h3⟩
    exact⟨0,⟨u,by omega,h2,h3⟩,fun _ _ _=>Nat.zero_le _⟩
   | succ n ih=>
    rintro⟨u,h1,h2,h3⟩
    by_cases hx:∃u,u.length≤n∧over g u∧Sv g u
    ·exact ih hx
    ·refine⟨n+1,⟨u,?_,h2,h3⟩,fun v hv hv'=>?_⟩
     ·have:¬u.length≤n:=fun h=>hx ⟨u,h,h2,h3⟩
      omega
     ·have:¬v.length≤n:=fun h=>hx ⟨v,h,hv,hv'⟩
      omega
  obtain⟨u,hu⟩:=h
  obtain⟨m,⟨v,h1,h2,h3⟩,hm⟩:=key u.length ⟨u,Nat.le_refl _,hu⟩
  obtain⟨w,h4,h5,h6,h7⟩:=O3 g.ls m (Sv g) ⟨v,h1,h2,h3⟩
  refine⟨some w,h5,h6,fun u hu hh=>?_⟩
  rintro(h|⟨h,h'⟩)
  ·have:=hm u hu hh;omega
  ·exact h7 u (by omega) hu hh h'
 ·exact⟨none,fun u hu hh=>h ⟨u,hu,hh⟩⟩
structure KA (g:Gr) (dx:Int→Int):Prop where
 zero:∀x:Int,0≤x∧x < g.N→(dx x=0↔g.goal x=true)
 step:∀x:Int,0≤x∧x < g.N→0 < dx x→∃l∈g.ls,∃j∈g.succ x l,dx j=dx x - 1
 close:∀x:Int,0≤x∧x < g.N→∀l∈g.ls,∀j∈g.succ x l,0≤dx j→0≤dx x∧dx x≤dx j+1
theorem KA.eY{g:Gr}(hg:IQ g){dx:Int→Int}(h:KA g dx):∀ {u:List Int} {a x:Int},over g u→(0≤a∧a < g.N)→reach g u a x→0≤dx x→0≤dx a∧dx a≤u.length+dx x
 | [],a,x,_,_,hr,h0=>by have hr:a=x:=hr;subst hr;simp;exact h0
 | l::u,a,x,ho,ha,⟨y,hy,hr⟩,h0=>by
  have hl:=ho l (by simp)
  have hyin:=hg.inn a ha l hl y hy
  have h1:=KA.eY hg h (fun m hm=>ho m (by simp [hm])) hyin hr h0
  have h2:=h.close a ha l hl y hy h1.1
  simp only [List.length_cons];push_cast;omega
structure NH (g:Gr) (dx:Int→Int) (w:List Int) (at':List Int) (d:Int):Prop where
 ov:over g w
 ne:at'≠[]
 acc:Ds g.N at'
 mem:∀x,x∈at'↔reach g w g.s0 x∧dx x=d
 len:w.length+d=dx g.s0
 d0:0≤d
 min:∀u,over g u→u.length=w.length→VO u w→∀x,reach g u g.s0 x→dx x≠d
theorem NH.init{g:Gr}(hg:IQ g){dx:Int→Int}(h0:0≤dx g.s0):NH g dx [] [g.s0] (dx g.s0):=
 ⟨fun l hl=>(by cases hl),by simp,⟨by simp,fun x hx=>by simp at hx;subst hx;exact hg.s0⟩,fun x=>by simp [reach];constructor<;>intro h<;>simp_all,by simp,h0,fun u _ hu hl=>by
  have:u=[]:=List.length_eq_zero_iff.1 hu
  subst this;exact hl.elim⟩
theorem NH.nh{g:Gr}(hg:IQ g){dx:Int→Int}(hd:KA g dx){w at':List Int}(h:NH g dx w at' 0):Cs g (some w):=by
 refine⟨h.ov,?_,fun u hu hh=>?_⟩
 ·cases at' with
  | nil=>exact absurd rfl h.ne
  | cons x l=>
   have h1:=(h.mem x).1 (by simp)
   exact⟨x,h1.1,(hd.zero x (h.acc.2 x (by simp))).1 h1.2⟩
 ·obtain⟨x,hx,hgx⟩:=hh
  have hz:=(hd.zero x (Dz hg hu hg.s0 hx)).2 hgx
  have h1:=hd.eY hg hu hg.s0 hx (by omega)
  have h2:=h.len
  rintro(h3|⟨h3,h4⟩)
  ·omega
  ·exact h.min u hu h3 h4 x hx hz
theorem bA{g:Gr}(hg:IQ g){dx:Int→Int}(hd:KA g dx)(h:dx g.s0 < 0):Cs g none:=by
 rintro u hu ⟨x,hx,hgx⟩
 have hz:=(hd.zero x (Dz hg hu hg.s0 hx)).2 hgx
 have h1:=hd.eY hg hu hg.s0 hx (by omega)
 omega
theorem NH.prog{g:Gr}{dx:Int→Int}(hd:KA g dx){w at':List Int}{d:Int}(h:NH g dx w at' d)(hp:0 < d):∃l∈g.ls,∃x∈at',∃y∈g.succ x l,dx y=d - 1:=by
 cases at' with
 | nil=>exact absurd rfl h.ne
 | cons x l=>
  have h1:=(h.mem x).1 (by simp)
  obtain⟨l,hl,j,hj,hdj⟩:=hd.step x (h.acc.2 x (by simp)) (by omega)
  exact⟨l,hl,x,by simp,j,hj,by omega⟩
theorem NH.next{g:Gr}(hg:IQ g){dx:Int→Int}(hd:KA g dx){w at':List Int}{d:Int}(h:NH g dx w at' d)(hp:0 < d){l:Int}(hl:l∈g.ls){at2:List Int}(ha:Ds g.N at2)(hne:at2≠[])
 (hm:∀y,y∈at2↔∃x∈at',y∈g.succ x l∧dx y=d - 1) (hless:∀m∈g.ls,m < l→¬∃x∈at',∃y∈g.succ x m,dx y=d - 1):NH g dx (w++[l]) at2 (d - 1):=by
 have hlen:=h.len
 have key:∀u m x y,over g u→u.length=w.length→m∈g.ls→reach g u g.s0 x→y∈g.succ x m→dx y=d - 1→dx x=d:=by
  intro u m x y hu hul hm hx hy hdy
  have hxin:=Dz hg hu hg.s0 hx
  have h1:=hd.close x hxin m hm y hy (by omega)
  have h2:=hd.eY hg hu hg.s0 hx (by omega)
  omega
 refine⟨Gj.2 ⟨h.ov,hl⟩,hne,ha,fun y=>?_,by simp;omega,by omega,fun u hu hul hlt y hy hdy=>?_⟩
 ·rw [hm,Er]
  constructor
  ·rintro⟨x,hx,hy,hdy⟩
   exact⟨⟨x,((h.mem x).1 hx).1,hy⟩,hdy⟩
  ·rintro⟨⟨x,hx,hy⟩,hdy⟩
   exact⟨x,(h.mem x).2 ⟨hx,key w l x y h.ov rfl hl hx hy hdy⟩,hy,hdy⟩
 ·have hu0:u≠[]:=fun e=>by subst e;simp at hul
  obtain⟨v,m,rfl⟩:∃v m,u=v++[m]:=⟨u.dropLast,u.getLast hu0,(List.dropLast_concat_getLast hu0).symm⟩
  have hvl:v.length=w.length:=by simpa using hul
  obtain⟨hv,hmm⟩:=Gj.1 hu
  obtain⟨x,hx,hxy⟩:=Er.1 hy
  have hdx:=key v m x y hv hvl hmm hx hxy hdy
  rcases(Ja hvl).1 hlt with h1|⟨rfl,h1⟩
  ·exact h.min v hv hvl h1 x hx hdx
  ·exact hless m hmm h1 ⟨x,(h.mem x).2 ⟨hx,hdx⟩,y,hxy,hdy⟩
def Dk(w:List Int):List UInt8:=w.map fun l=>UInt8.ofNat (97+l.toNat)
def jU(r:Option (List Int)):E:=match r with
 | some w=>.t [(false,[.d (tD (Dk w))]),(false,[.d (bD true)])]
 | none=>.t [(false,[.d (tD [])]),(false,[.d (bD false)])]
end Go.Am
namespace Go.Am
open Go Go.Proofs
set_option maxHeartbeats 1000000
attribute [local irreducible] AS BT Lex Bc Au Spec
variable {TB:Bt}
def Ex(n:Net):Gr:={ N:=(Av (Ae n)).toNat,succ:=fun x l=>Ff n (Ae n) (BA (Ae n) x) l,goal:=fun x=>CI n (BA (Ae n) x) (Fg n x.toNat),ls:=Ac n.ls,s0:=Dq (Ae n) n.st 0 }
theorem EJ(s:Int)(k:Nat):(AI s k).Pairwise (· < ·):=by
 unfold AI
 rw [List.pairwise_map]
 refine(List.pairwise_lt_range.filter _).imp fun {a b} h=>?_
 show ((a:Nat):Int) < ((b:Nat):Int)
 omega
theorem KN{n:Net}(hn:DL n)(x:Int):Fits (Ae n) (BA (Ae n) x):=Mf (fun z hz=>by have:=Gk hn z hz;omega) x
theorem UM{n:Net}(hn:DL n){x l:Int}(hl:l∈Ac n.ls){y:Int}(hy:y∈Ff n (Ae n) (BA (Ae n) x) l):0≤y∧y < Av (Ae n):=by
 have h1:=Ak hl
 have h2:=SH (Ic hn (KN hn x) (l:=l) (by omega) (by omega)) [0] 1 (by simp) (by omega) (by simp)
 have:=h2.1 y hy
 omega
theorem OP{n:Net}(hn:DL n)(hst:Fits (Ae n) n.st):IQ (Ex n):=by
 have hp:=Of hn
 have hz:=hst.enc 0 (by omega)
 refine⟨?_,fun x _ l hl y hy=>?_,EJ _ _⟩
 ·show 0≤Dq _ _ _∧Dq _ _ _ < ((Av (Ae n)).toNat:Int)
  omega
 ·show 0≤y∧y < ((Av (Ae n)).toNat:Int)
  have:=UM hn hl hy
  omega
theorem Lc{n:Net}(hn:DL n):Oo (Dh n (Ex n).N):=by
 intro x hx r hr j hj
 have hx:x < (Ex n).N:=by simpa [Dh] using hx
 have h1:(Dh n (Ex n).N).getD x []=Fg n x:=by rw [List.getD,Kn hx];rfl
 rw [h1] at hr
 obtain⟨l,hl,rfl⟩:=List.mem_map.1 hr
 have h2:=UM hn hl hj
 have h3:(Dh n (Ex n).N).length=(Av (Ae n)).toNat:=by simp [Dh,Ex]
 rw [h3];omega
theorem GK{n:Net}{x:Int}(hx:0≤x∧x < (Ex n).N):(Dh n (Ex n).N).getD x.toNat []=(Ac n.ls).map fun l=>(Ex n).succ x l:=by
 rw [List.getD,Kn (by omega)]
 have:((x.toNat:Nat):Int)=x:=by omega
 simp [Fg,this,Ex]
theorem bP{n:Net}{dist:List Int}(h:RT (Dh n (Ex n).N) (fun i=>CI n (BA (Ae n) i) (Fg n i)) dist):KA (Ex n) (fun x=>dist.getD x.toNat 0):=by
 have hN:(Dh n (Ex n).N).length=(Ex n).N:=by simp [Dh]
 refine⟨fun x hx=>?_,fun x hx hp=>?_,fun x hx l hl j hj hj0=>?_⟩
 ·have h1:=h.zero x.toNat (by omega)
  have e:((x.toNat:Nat):Int)=x:=by omega
  rw [e] at h1
  exact h1
 ·obtain⟨r,hr,j,hj,hd⟩:=h.step x.toNat (by omega) hp
  rw [GK hx] at hr
  obtain⟨l,hl,rfl⟩:=List.mem_map.1 hr
  exact⟨l,hl,j,hj,hd⟩
 ·exact h.close x.toNat (by omega) _ (by rw [GK hx];exact List.mem_map.2 ⟨l,hl,rfl⟩) j hj hj0
theorem UF{dist:List Int}{d y:Int}:∀ {l acc:List Int},y∈l.foldl (IF dist d) acc↔y∈acc∨y∈l∧dist.getD y.toNat 0=d
 | [],acc=>by simp
 | j::l,acc=>by
  rw [List.foldl_cons,UF,XK]
  split<;>grind
theorem cy{mv:List (List (List Int))}{dist:List Int}{k:Nat}{d y:Int}{l:List Int}:y∈Fx mv dist l k d↔∃x∈l,y∈(mv.getD x.toNat []).getD k []∧dist.getD y.toNat 0=d:=by
 have key:∀(l acc:List Int),y∈l.foldl (fun acc x=>((mv.getD x.toNat []).getD k []).foldl (IF dist d) acc) acc↔y∈acc∨∃x∈l,y∈(mv.getD x.toNat []).getD k []∧dist.getD y.toNat 0=d:=by
  intro l
  induction l with
  | nil=>intro acc;simp
  | cons a l ih=>
   intro acc
   rw [List.foldl_cons,ih,UF]
   grind
 unfold Fx
 rw [key];simp
theorem bL{n:Net}{dist l:List Int}{k:Nat}{m:Int}(hm:(Ac n.ls)[k]? = some m)(hl:∀x∈l,0≤x∧x < (Ex n).N){d y:Int} :
 y∈Fx (Dh n (Ex n).N) dist l k d↔∃x∈l,y∈(Ex n).succ x m∧dist.getD y.toNat 0=d:=by
 rw [cy]
 constructor
 ·rintro⟨x,hx,hy,hd⟩
  rw [GK (hl x hx)] at hy
  exact⟨x,hx,by simpa [List.getD,hm] using hy,hd⟩
 ·rintro⟨x,hx,hy,hd⟩
  exact⟨x,hx,by rw [GK (hl x hx)];simpa [List.getD,hm] using hy,hd⟩
theorem Kp:∀ {zs:List Int} {k:Nat} {z:Int},zs[k]? = some z→Av (zs.take (k+1))=Av (zs.take k)*z
 | [],k,z,h=>by simp at h
 | a::zs,0,z,h=>by simp at h;subst h;simp [Av]
 | a::zs,k+1,z,h=>by
  simp only [List.take_succ_cons,Av]
  rw [Kp (by simpa using h),Int.mul_assoc]
def dl(f:Nat→Int)(N i:Nat):List Int:=(List.range i).map f++List.replicate (N - i) 0
theorem bQ{f:Nat→Int}{N i:Nat}(h:i≤N):(dl f N i).length=N:=by simp [dl];omega
theorem iv{f:Nat→Int}{N i:Nat}(h:i < N):(dl f N i)[i]? = some 0:=by
 unfold dl
 rw [List.getElem?_append_right (by simp)]
 have:0 < N - i:=by omega
 simp [this]
theorem iw{f:Nat→Int}{N i:Nat}(h:i < N):(dl f N i).set i (f i)=dl f N (i+1):=by
 unfold dl
 rw [List.set_append_right _ _ (by simp)]
 have:N - i=(N - (i+1))+1:=by omega
 rw [this,List.range_succ,List.map_append]
 simp [List.replicate_succ]
end Go.Am
