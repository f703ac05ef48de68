/-
  The nodes to which a letter leads.
-/
import Derived.Test.YtkdilmleinnfiaaGreatDoorPart10
set_option linter.constructorNameAsVariable false
set_option linter.unusedSectionVars false
set_option linter.unusedSimpArgs false
set_option linter.unusedVariables false
namespace Go.Am
open Go Go.Proofs
set_option maxHeartbeats 1000000
set_option maxRecDepth 4000
attribute [local irreducible] AV BX Lex Bf Av Spec
variable {TB:Be}
theorem OL{n:Net}(hn:DL n){st:List Int}(hf:Fits (Ae n) st){l:Int}(h0:0≤l)(h1:l < 6){i:Nat}{c:List Int}{q:Int}(hc:(KU n st l)[i]? = some c)(hq:st[i]? = some q) :
 Pure Tryz.prog TB 312 [JZ n,eI .i64 i,eI .i64 q,eI .i64 l] (Ag c):=by
 have hlen:=hf.len
 unfold Ae at hlen
 simp only [List.length_append,List.length_map] at hlen
 have hsq:=(hf.get i)
 have hlz:(n.ps.zipWith (fun s q=>Cf s q l) st).length=n.ps.length:=by rw [List.length_zipWith];omega
 have hiq:=(List.getElem?_eq_some_iff.1 hq).1
 unfold KU at hc
 by_cases hi:i < n.ps.length
 ·rw [List.getElem?_append_left (by omega)] at hc
  obtain⟨s,hs⟩:=get_some hi
  rw [List.getElem?_zipWith,hs,hq] at hc
  simp only [Option.some.injEq] at hc
  subst hc
  have h2:=hsq s.st q (by unfold Ae;rw [List.getElem?_append_left (by simpa using hi)];simp [hs]) hq
  exact Nl n i s q l hs (hn.ps s (List.mem_of_getElem? hs)) h2.1 h2.2 h0 h1 hn.np
 ·obtain⟨j,rfl⟩:∃j,i=n.ps.length+j:=⟨i - n.ps.length,by omega⟩
  rw [List.getElem?_append_right (by omega),hlz] at hc
  have e:n.ps.length+j - n.ps.length=j:=by omega
  rw [e] at hc
  have hj:j < n.au.length:=by omega
  obtain⟨a,ha⟩:=get_some hj
  rw [List.getElem?_zipWith,ha,List.getElem?_drop,hq] at hc
  simp only [Option.some.injEq] at hc
  subst hc
  have h2:=hsq a.nx.length q (by unfold Ae;rw [List.getElem?_append_right (by simp)];simp [ha]) hq
  have h3:=Nk (TB:=TB) n j a q.toNat l ha (hn.au a (List.mem_of_getElem? ha)) (by omega) h0 h1 hn.np hn.na
  have e2:((q.toNat:Nat):Int)=q:=by omega
  rw [e2] at h3
  push_cast
  exact h3
theorem Qj{n:Net}(hn:DL n){st:List Int}(hf:Fits (Ae n) st){l:Int}(h0:0≤l)(h1:l < 6)(k:Nat) :
 (∀v∈Gu ((Ae n).take k) ((KU n st l).take k) [0],0≤v∧v < 1048576)∧(Gu ((Ae n).take k) ((KU n st l).take k) [0]).length≤1048576:=by
 have h2:=Tm ((IZ hn hf h0 h1).take k) [0] 1 (by simp) (by omega) (by simp)
 have h3:=(hf.take k).2
 have h4:=Ll hn
 rw [Int.one_mul] at h2
 exact⟨fun v hv=>by have:=h2.1 v hv;omega,by omega⟩
theorem RL{n:Net}(hn:DL n){st:List Int}(hf:Fits (Ae n) st){l:Int}(h0:0≤l)(h1:l < 6) :
 Pure Tryz.prog TB 301 [JZ n,Ag (Ae n),Ag st,eI .i64 l] (Ag (EW n (Ae n) st l)):=by
 have hch:=IZ hn hf h0 h1
 have hbd:=Qj hn hf h0 h1
 have hpr:=Ll hn
 have hfl:=hf.len
 have hcl:=hch.len
 unfold EW
 have hcall:∀(i:Nat) (c:List Int) (q:Int),(KU n st l)[i]? = some c→st[i]? = some q→Pure Tryz.prog TB 312 [JZ n,eI .i64 i,eI .i64 q,eI .i64 l] (Ag c):=fun i c q=>OL hn hf h0 h1
 have hzl:(Ae n).length≤5:=by unfold Ae;have:=hn.np;have:=hn.na;simp;omega
 have hpos:=FW hn
 generalize KU n st l=cs at *
 generalize Ae n=zs at *
 refine eN Tryz.func301 rfl (by kernel_rfl) rfl ?_;intro Γ hΓ
 (repeat first|refine aU rfl ?_)
 (refine Ai rfl ?_;refine B5 (fun _ _=>CE rfl rfl rfl) rfl ?_)
 (refine Ai rfl ?_;refine B5 (fun _ _=>BQ rfl) rfl ?_)
 (repeat first|refine tA rfl ?_ |refine aU rfl ?_ |refine Aa ?_)
 refine aB ?_
 refine Av.AR (α:={k:Nat // k≤zs.length}) (fun ⟨k,hk⟩=>[(1,Ag zs),(2,Ag st),(3,eI .i64 l),(4,.o (.ip (KZ n))),(9,Ag (Gu (zs.take k) (cs.take k) [0])),(10,eI .i64 k)]) (fun ⟨k,hk⟩=>[]) 0 (fun ⟨k,hk⟩=>zs.length - k) (⟨0,by omega⟩) [] (Dq hΓ rfl rfl) (by (simp[cX,zC,hΓ,Gu])) ?_;rintro⟨k,hk⟩;(try dsimp only)
 (repeat first|refine sN rfl ?_ |refine tA rfl ?_ |refine s2 rfl fun _ _hb=>?_ |refine aU rfl ?_ |refine Aa ?_)
 (refine aC rfl ?_ ?_<;>rintro⟨⟩)
 ·obtain⟨z,hz⟩:=get_some (l:=zs) (k:=k) (by (simp only[oZ] at *;omega))
  have hz':=get_map (g:=Bm) hz
  obtain⟨c,hc⟩:=get_some (l:=cs) (k:=k) (by (simp only[oZ] at *;omega))
  obtain⟨q,hq⟩:=get_some (l:=st) (k:=k) (by (simp only[oZ] at *;omega))
  have hq':=get_map (g:=Bm) hq
  have hst:=NY [0] hz hc
  have hb0:=hbd k
  have hb1:=(hbd (k+1)).2
  have hzz:=hpos z (List.mem_of_getElem? hz)
  obtain⟨hcx,hcn⟩:=hch.get k z c hz hc
  rw [hst] at hb1
  generalize Gu (zs.take k) (cs.take k) [0]=out at *
  refine aK ?_
  refine aS (aB ?_)
  (repeat first|refine tM rfl ?_ |(refine s4 rfl ‹_› rfl ?_ ?_;omega) |refine sP rfl (hcall k c q hc hq) rfl ?_ |refine aU rfl ?_ |refine Aa ?_ |refine rE (by kernel_rfl) ?_)
  (refine pW rfl ?_ rfl (by rfl);refine C5 rfl rfl rfl rfl (by simp) (by rfl) (by rfl) (by rfl) (by rfl) ?_)
  (repeat first|refine tM rfl ?_ |refine aU rfl ?_ |refine Aa ?_)
  refine aB ?_
  have hlen:∀m,(((out.take m).flatMap fun o=>c.map fun x=>o*z+x).length:Int)≤16777216:=by
   intro m
   have h2:=LR (out.take m) (fun o=>c.map fun x=>o*z+x) 16 (fun x _=>by simp;omega)
   have h3:(out.take m).length≤out.length:=by simp;omega
   omega
  refine Av.AR (α:={m:Nat // m≤out.length}) (fun ⟨m,hm⟩=>[(1,Ag zs),(2,Ag st),(3,eI .i64 l),(4,.o (.ip (KZ n))),(9,Ag out),(10,eI .i64 k),(11,Ag c),(12,.o (.arr 0 1 0 ((out.take m).flatMap fun o=>c.map fun x=>o*z+x).length)),(13,eI .i64 m)]) (fun ⟨m,hm⟩=>[(0,.cells 3 1 (((out.take m).flatMap fun o=>c.map fun x=>o*z+x).map AI))]) 1 (fun ⟨m,hm⟩=>out.length - m) (⟨0,by omega⟩) [0] (Dq hΓ rfl rfl) (by (simp[cX,zC,hΓ])) ?_;rintro⟨m,hm⟩;(try dsimp only)
  (repeat first|refine sN rfl ?_ |refine tM rfl ?_ |refine s2 rfl fun _ _hb=>?_ |refine aU rfl ?_ |refine Aa ?_)
  (refine aC rfl ?_ ?_<;>rintro⟨⟩)
  ·obtain⟨o,ho⟩:=get_some (l:=out) (k:=m) (by (simp only[oZ] at *;omega))
   have ho':=get_map (g:=Bm) ho
   have hob:=hb0.1 o (List.mem_of_getElem? ho)
   have hlm:=hlen m
   have h16:0≤o*z∧o*z≤16777216:=⟨Int.mul_nonneg hob.1 (by omega),by
    have h5:o*z≤o*16:=Int.mul_le_mul_of_nonneg_left hzz.2 hob.1
    omega⟩
   have hfm:(out.take (m+1)).flatMap (fun o=>c.map fun x=>o*z+x)=(out.take m).flatMap (fun o=>c.map fun x=>o*z+x)++c.map fun x=>o*z+x:=by
    rw [List.take_add_one,ho];simp
   refine aK ?_
   refine aS (aB ?_)
   (repeat first|refine tM rfl ?_ |refine aU rfl ?_ |refine Aa ?_)
   refine aB ?_
   generalize (out.take m).flatMap (fun o=>c.map fun x=>o*z+x)=pre at *
   refine Av.AR (α:={j:Nat // j≤c.length}) (fun ⟨j,hj⟩=>[(1,Ag zs),(2,Ag st),(3,eI .i64 l),(4,.o (.ip (KZ n))),(9,Ag out),(10,eI .i64 k),(11,Ag c),(12,.o (.arr 0 1 0 (pre.length+j))),(13,eI .i64 m),(14,eI .i64 j)]) (fun ⟨j,hj⟩=>[(0,.cells 3 1 ((pre++(c.take j).map fun x=>o*z+x).map AI))]) 1 (fun ⟨j,hj⟩=>c.length - j) (⟨0,by omega⟩) [0] (Dq hΓ rfl rfl) (by (simp[cX,zC,hΓ])) ?_;rintro⟨j,hj⟩;(try dsimp only)
   (repeat first|refine sN rfl ?_ |refine tM rfl ?_ |refine s2 rfl fun _ _hb=>?_ |refine aU rfl ?_ |refine Aa ?_)
   (refine aC rfl ?_ ?_<;>rintro⟨⟩)
   ·obtain⟨x,hx⟩:=get_some (l:=c) (k:=j) (by (simp only[oZ] at *;omega))
    have hx':=get_map (g:=Bm) hx
    have hxb:=hcx x (List.mem_of_getElem? hx)
    refine aK ?_
    refine aS (aB ?_)
    refine rG (J6 [16]) (by kernel_rfl) ?_
    (repeat first|(refine sA rfl ?_ ?_;first|exact tI|omega) |(refine s4 rfl ‹_› rfl ?_ ?_;omega))
    (refine pW rfl ?_ rfl (by rfl);refine AY rfl rfl rfl (by first| (simp;done)|(simp;(omega))) rfl (by intro r hr;simp at hr;subst hr;rfl) (by rfl) (Nat.le_of_ble_eq_true rfl) (by simp;omega) ?_)
    (repeat first|(refine sX rfl ?_ ?_;first|exact tI|omega) |refine aU rfl ?_ |refine Aa ?_)
    refine⟨⟨j+1,by (simp only[oZ] at *;omega)⟩,by dsimp only;((simp only[oZ] at *;omega)),[1],?_⟩
    simp[cX,zC,hΓ,List.take_add_one,hx,Nat.add_assoc]
   ·obtain rfl:j=c.length:=by (simp only[oZ] at *;omega)
    refine aE ?_
    (repeat first|(refine sM rfl ?_ ?_;first|exact tI|omega) |refine aU rfl ?_ |refine Aa ?_)
    refine⟨⟨m+1,by (simp only[oZ] at *;omega)⟩,by dsimp only;((simp only[oZ] at *;omega)),[0],?_⟩
    simp[cX,zC,hΓ,hfm]
  ·obtain rfl:m=out.length:=by (simp only[oZ] at *;omega)
   refine aE ?_
   rw [List.take_length] at *
   refine Av.freeze [0] [(1,Ag zs),(2,Ag st),(3,eI .i64 l),(4,.o (.ip (KZ n))),(10,eI .i64 k),(12,Ag (out.flatMap fun o=>c.map fun x=>o*z+x))] ⟨⟨_,rfl,.AU⟩,⟨_,rfl,.AU⟩,⟨_,rfl,.AU⟩,⟨_,rfl,.AU⟩,⟨_,rfl,.AU⟩,⟨_,rfl,.o (.full (by simp) rfl (by simp [Function.comp_def]) (by simp))⟩,trivial⟩ ?_
   (repeat first|(refine sA rfl ?_ ?_;first|exact tI|omega) |refine aU rfl ?_ |refine Aa ?_)
   refine⟨⟨k+1,by (simp only[oZ] at *;omega)⟩,by dsimp only;((simp only[oZ] at *;omega)),[],?_⟩
   simp[cX,zC,hΓ,hst]
 ·obtain rfl:k=zs.length:=by (simp only[oZ] at *;omega)
  rw [List.take_of_length_le (by omega),List.take_of_length_le (by omega)]
  (repeat' first|refine tA rfl ?_ |refine aU rfl ?_ |refine Aa ?_|(refine aC rfl ?_ ?_<;>rintro⟨⟩)|refine aK ?_|refine aE ?_|refine aB ?_|refine aR ⟨_,rfl,?_⟩)
  all_goals rfl
abbrev DY(l:List (List Int)):List C:=[.d (Dx l)]
abbrev CM(l:List (List (List Int))):E:=.o (.d (Yw l))
theorem AS{s:Int}{k:Nat}{l:Int}(h:l∈Ay s k):0≤l∧l < k∧DN s l.toNat=true:=by
 unfold Ay at h
 obtain⟨i,hi,rfl⟩:=List.mem_map.1 h
 obtain⟨h1,h2⟩:=List.mem_filter.1 hi
 have:=List.mem_range.1 h1
 exact⟨Int.natCast_nonneg _,by show ((i:Nat):Int) < k;omega,h2⟩
theorem Ob:∀ {l:List Int},(∀z∈l,0 < z)→0 < AG l
 | [],_=>by simp [AG]
 | a::l,h=>Int.mul_pos (h a (by simp)) (Ob fun z hz=>h z (by simp [hz]))
theorem JX:∀ {zs:List Int} (_:∀z∈zs,0 < z) (n:Int),Fits zs (Bz zs n)
 | [],_,_=>.nil
 | z::zs,h,n=>by
  have hz:=h z (by simp)
  exact .cons (Int.emod_nonneg _ (by omega)) (Int.emod_lt_of_pos _ hz) (JX (fun x hx=>h x (by simp [hx])) n)
def Ek(n:Net)(x:Nat):List (List Int):=(Ac n.ls).map fun l=>EW n (Ae n) (Bz (Ae n) x) l
def Cq(n:Net)(tot:Nat):List (List (List Int)):=(List.range tot).map (Ek n)
theorem ID{n:Net}{tot i:Nat}(h:i < tot):(Cq n tot)[i]? = some (Ek n i):=by simp [Cq,h]
theorem MK{n:Net}(hn:DL n):(Ae n).length≤5:=by unfold Ae;have:=hn.np;have:=hn.na;simp;omega
theorem RK{n:Net}(hn:DL n)(tot:Nat)(ht:tot≤1048576):Pure Tryz.prog TB 280 [JZ n,Ag (Ae n),eI .i64 tot] (CM (Cq n tot)):=by
 have hzl:=MK hn
 have hpos:=FW hn
 have hdec:∀(x:Nat),x < tot→Pure Tryz.prog TB 282 [Ag (Ae n),eI .i64 x] (Ag (Bz (Ae n) x)):=fun x hx=>
  KF _ _ (by omega) (by omega) (fun z hz=>by have:=hpos z hz;omega) (by omega)
 have hnx:∀(x:Nat) (l:Int),l∈Ac n.ls→Pure Tryz.prog TB 301 [JZ n,Ag (Ae n),Ag (Bz (Ae n) x),eI .i64 l] (Ag (EW n (Ae n) (Bz (Ae n) x) l)):=fun x l hl=>by
  have h1:=AS hl
  exact RL hn (JX (fun z hz=>by have:=hpos z hz;omega) _) (by omega) (by omega)
 have hll:(Ac n.ls).length≤6:=A0 n.ls 6
 unfold Cq
 refine eN Tryz.func280 rfl (by kernel_rfl) rfl ?_;intro Γ hΓ
 (repeat first|refine aU rfl ?_)
 (refine Ai rfl ?_;refine B5 (fun _ _=>CE rfl rfl rfl) rfl ?_)
 (refine Ai rfl ?_;refine B5 (fun _ _=>BQ rfl) rfl ?_)
 (repeat first|refine aU rfl ?_ |refine Aa ?_)
 (refine pW rfl ?_ rfl (by rfl);refine C5 rfl rfl rfl rfl (by simp) (by rfl) (by rfl) (by rfl) (by rfl) ?_)
 (repeat first|refine tM rfl ?_ |refine sP rfl (CO n.ls) rfl ?_ |refine aU rfl ?_ |refine Aa ?_)
 refine aB ?_
 refine Av.AR (α:={k:Nat // k≤tot}) (fun ⟨k,hk⟩=>[(1,Ag (Ae n)),(2,eI .i64 tot),(3,.o (.ip (KZ n))),(7,.o (.arr 0 1 0 k)),(8,Ag (Ac n.ls)),(9,eI .i64 k)]) (fun ⟨k,hk⟩=>[(0,.cells 22 1 (((List.range k).map (Ek n)).map DY))]) 1 (fun ⟨k,hk⟩=>tot - k) (⟨0,by omega⟩) [0] (Dq hΓ rfl rfl) (by (simp[cX,zC,hΓ])) ?_;rintro⟨k,hk⟩;(try dsimp only)
 (repeat first|refine tM rfl ?_ |refine s2 rfl fun _ _hb=>?_ |refine aU rfl ?_ |refine Aa ?_)
 (refine aC rfl ?_ ?_<;>rintro⟨⟩)
 ·have hk2:k < tot:=by (simp only[oZ] at *;omega)
  refine aK ?_
  refine aS (aB ?_)
  (repeat first|refine tM rfl ?_ |refine sP rfl (hdec k hk2) rfl ?_ |refine aU rfl ?_ |refine Aa ?_)
  (refine pW rfl ?_ rfl (by rfl);refine C5 rfl rfl rfl rfl (by simp) (by rfl) (by rfl) (by rfl) (by rfl) ?_)
  (repeat first|refine tM rfl ?_ |refine aU rfl ?_ |refine Aa ?_)
  refine aB ?_
  generalize hL:Ac n.ls=ls at *
  refine Av.AR (α:={m:Nat // m≤ls.length}) (fun ⟨m,hm⟩=>[(1,Ag (Ae n)),(2,eI .i64 tot),(3,.o (.ip (KZ n))),(7,.o (.arr 0 1 0 k)),(8,Ag ls),(9,eI .i64 k),(10,Ag (Bz (Ae n) k)),(11,.o (.arr 1 1 0 m)),(12,eI .i64 m)]) (fun ⟨m,hm⟩=>[(0,.cells 22 1 (((List.range k).map (Ek n)).map DY)),(1,.cells 84 1 (((ls.take m).map fun l=>EW n (Ae n) (Bz (Ae n) k) l).map Eo))]) 2 (fun ⟨m,hm⟩=>ls.length - m) (⟨0,by omega⟩) [0,1] (Dq hΓ rfl rfl) (by (simp[cX,zC,hΓ])) ?_;rintro⟨m,hm⟩;(try dsimp only)
  (repeat first|refine sN rfl ?_ |refine tM rfl ?_ |refine s2 rfl fun _ _hb=>?_ |refine aU rfl ?_ |refine Aa ?_)
  (refine aC rfl ?_ ?_<;>rintro⟨⟩)
  ·obtain⟨x,hx⟩:=get_some (l:=ls) (k:=m) (by (simp only[oZ] at *;omega))
   have hx':=get_map (g:=Bm) hx
   have hxm:=hnx k x (List.mem_of_getElem? hx)
   refine aK ?_
   refine aS (aB ?_)
   refine rG (J6 [10]) (by kernel_rfl) ?_
   (repeat first|refine tA rfl ?_ |(refine s4 rfl ‹_› rfl ?_ ?_;omega) |refine sP rfl (hxm) rfl ?_)
   (refine pW rfl ?_ rfl (by rfl);refine AY rfl rfl rfl (by first| (simp;done)|(simp;(omega))) rfl (by intro r hr;simp at hr;subst hr;rfl) (by rfl) (Nat.le_of_ble_eq_true rfl) (by simp;omega) ?_)
   (repeat first|(refine sX rfl ?_ ?_;first|exact tI|omega) |refine aU rfl ?_ |refine Aa ?_)
   refine⟨⟨m+1,by (simp only[oZ] at *;omega)⟩,by dsimp only;((simp only[oZ] at *;omega)),[0,2],?_⟩
   simp[cX,zC,hΓ,List.take_add_one,hx,Nat.add_assoc]
  ·obtain rfl:m=ls.length:=by (simp only[oZ] at *;omega)
   refine aE ?_
   rw [List.take_length] at *
   have hrow:ls.map (fun l=>EW n (Ae n) (Bz (Ae n) k) l)=Ek n k:=by rw [←hL];rfl
   rw [hrow]
   have hrl:(Ek n k).length=ls.length:=by rw [←hrow];simp
   refine Av.freeze [1] [(1,Ag (Ae n)),(2,eI .i64 tot),(3,.o (.ip (KZ n))),(7,.o (.arr 0 1 0 k)),(8,Ag ls),(9,eI .i64 k),(11,BS (Ek n k))] ⟨⟨_,rfl,.AU⟩,⟨_,rfl,.AU⟩,⟨_,rfl,.AU⟩,⟨_,rfl,.AU⟩,⟨_,rfl,.AU⟩,⟨_,rfl,.AU⟩,⟨_,rfl,.o (.full (by simp) rfl (by simp [Function.comp_def]) (by simp [hrl]))⟩,trivial⟩ ?_
   (repeat first|refine tA rfl ?_ |refine aU rfl ?_)
   (refine pW rfl ?_ rfl (by rfl);refine AY rfl rfl rfl (by first| (simp;done)|(simp;(omega))) rfl (by intro r hr;simp at hr;subst hr;rfl) (by rfl) (Nat.le_of_ble_eq_true rfl) (by simp;omega) ?_)
   (repeat first|(refine sX rfl ?_ ?_;first|exact tI|omega) |refine aU rfl ?_ |refine Aa ?_)
   refine⟨⟨k+1,by omega⟩,by dsimp only;(omega),[2],?_⟩
   simp[cX,zC,hΓ,List.range_succ]
 ·obtain rfl:k=tot:=by (simp only[oZ] at *;omega)
  refine aE ?_
  (repeat first|refine tM rfl ?_ |refine aU rfl ?_ |refine Aa ?_)
  refine Av.freeze [0] [(6,CM ((List.range k).map (Ek n)))] ⟨⟨_,rfl,.o (.full (by simp) rfl (by simp [Function.comp_def]) (by simp))⟩,trivial⟩ ?_
  refine aR ⟨_,rfl,rfl⟩
def XR(n:Net)(st:List Int)(i:Nat):Bool:=((n.au[i]?.map (·.ac)).getD []).getD (st.getD (n.ps.length+i) 0).toNat false
def B3(n:Net)(st:List Int)(mv:List (List Int)):Bool:=
 if n.kd=0 then XR n st 0 else if n.kd=1 then XR n st 0 != XR n st 1 else if n.kd=2 then XR n st 0 && !XR n st 1 else if n.kd=3 then !XR n st 0 else
 if n.kd=5 then decide (st.getD n.ps.length 0=n.gl) else mv.all (·.isEmpty)
structure ZD (n:Net):Prop where
 one:n.kd=0∨n.kd=3∨n.kd=5→1≤n.au.length
 two:n.kd=1∨n.kd=2→2≤n.au.length
theorem P7{n:Net}(hn:DL n){st:List Int}(hf:Fits (Ae n) st)(i:Nat)(hi:i < n.au.length):Pure Tryz.prog TB 302 [JZ n,Ag st,eI .i64 i] (eB (XR n st i)):=by
 obtain⟨a,ha⟩:=get_some hi
 have hok:=hn.au a (List.mem_of_getElem? ha)
 have h1:=Aj hok
 have hz:(Ae n)[n.ps.length+i]? = some (a.nx.length:Int):=by unfold Ae;rw [List.getElem?_append_right (by simp)];simp [ha]
 have hlen:=hf.len
 obtain⟨q,hq⟩:=get_some (l:=st) (k:=n.ps.length+i) (by have:=(List.getElem?_eq_some_iff.1 hz).1;omega)
 have h2:=hf.get _ _ _ hz hq
 obtain⟨b,hb⟩:=get_some (l:=a.ac) (k:=q.toNat) (by omega)
 have h3:=YB (TB:=TB) n st i a q b ha hq h2.1 hb
 have h4:XR n st i=b:=by simp [XR,ha,List.getD,hq,hb]
 rw [h4];exact h3
theorem RJ{n:Net}(hn:DL n)(hk:ZD n){st:List Int}(hf:Fits (Ae n) st)(mv:List (List Int)):Pure Tryz.prog TB 281 [JZ n,Ag st,BS mv] (eB (B3 n st mv)):=by
 have h0:=P7 (TB:=TB) hn hf 0
 have h1:=P7 (TB:=TB) hn hf 1
 have hk1:=hk.one
 have hk2:=hk.two
 have hnp:=hn.np
 have hna:=hn.na
 have hst:n.ps.length+n.au.length=st.length:=by have:=hf.len;unfold Ae at this;simpa using this
 have hat:n.kd=5→(st.map Bm)[((n.ps.length:Nat):Int).toNat]? = some (Bm (st.getD n.ps.length 0)):=by
  intro h5
  obtain⟨x,hx⟩:=get_some (l:=st) (k:=n.ps.length) (by omega)
  rw [get_map (g:=Bm) hx];simp [List.getD,hx]
 refine eN Tryz.func281 rfl (by kernel_rfl) rfl ?_;intro Γ hΓ
 refine Av.bound 2 rfl fun hB0=>?_
 have hB:=hB0 (mv.map Dy) .refl
 (repeat' first|refine sN rfl ?_ |refine tA rfl ?_ |refine s2 rfl fun _ _hb=>?_ |(refine sC rfl (h0 (by (simp only[oZ] at *;omega))) ?_;intro _ _hb)|(refine sC rfl (h1 (by (simp only[oZ] at *;omega))) ?_;intro _ _hb) |refine s3 rfl ?_ ?_<;>rintro rfl |refine aU rfl ?_ |refine Aa ?_ |refine rE (by kernel_rfl) ?_|(refine aC rfl ?_ ?_<;>rintro⟨⟩)|refine aK ?_|refine aE ?_|refine aB ?_|refine aR ⟨_,rfl,?_⟩)
 all_goals try (show E.o _=E.o _;congr;unfold B3;grind)
 ·have hat:=hat (by grind)
  (repeat' first|refine tA rfl ?_ |(refine s4 rfl ‹_› rfl ?_ ?_;omega) |refine s2 rfl fun _ _hb=>?_ |refine Aa ?_|(refine aC rfl ?_ ?_<;>rintro⟨⟩)|refine aK ?_|refine aE ?_|refine aB ?_|refine aR ⟨_,rfl,?_⟩)
  show E.o _=E.o _;congr;unfold B3;grind
 refine Av.AR (α:={k:Nat // k≤mv.length∧(mv.take k).all (·.isEmpty)=true}) (fun ⟨k,hk,ha⟩=>[(2,BS mv),(7,eI .i64 k)]) (fun ⟨k,hk,ha⟩=>[]) 0 (fun ⟨k,hk,ha⟩=>mv.length - k) (⟨0,by omega,rfl⟩) [] (Dq hΓ rfl rfl) (by (simp[cX,zC,hΓ])) ?_;rintro⟨k,hk,ha⟩;(try dsimp only)
 (repeat first|refine sN rfl ?_ |refine tA rfl ?_ |refine s2 rfl fun _ _hb=>?_ |refine aU rfl ?_ |refine Aa ?_)
 (refine aC rfl ?_ ?_<;>rintro⟨⟩)
 ·obtain⟨x,hx⟩:=get_some (l:=mv) (k:=k) (by (simp only[oZ] at *;omega))
  have hx':=get_map (g:=Dy) hx
  (repeat' first|refine sN rfl ?_ |(refine sA rfl ?_ ?_;first|exact tI|simp only[oZ] at *;omega) |(refine s4 rfl ‹_› rfl ?_ ?_;omega) |refine s2 rfl fun _ _hb=>?_ |refine aU rfl ?_ |refine Aa ?_|(refine aC rfl ?_ ?_<;>rintro⟨⟩)|refine aK ?_|refine aE ?_|refine aB ?_|refine aR ⟨_,rfl,?_⟩)
  ·have h3:=Gg (f:=fun x:List Int=>x.isEmpty) hx (by cases x<;>grind)
   show E.o _=E.o _;congr;unfold B3;grind
  ·refine⟨⟨k+1,by (simp only[oZ] at *;omega),EM hx ha (by cases x<;>grind)⟩,by dsimp only;((simp only[oZ] at *;omega)),[],?_⟩
   simp[cX,zC,hΓ]
 ·(repeat' first|refine tA rfl ?_ |refine aU rfl ?_ |refine Aa ?_|(refine aC rfl ?_ ?_<;>rintro⟨⟩)|refine aK ?_|refine aE ?_|refine aB ?_|refine aR ⟨_,rfl,?_⟩)
  have h3:=EL ha (by (simp only[oZ] at *;omega))
  show E.o _=E.o _;congr;unfold B3;grind
theorem Hi{α β:Type}{l:List α}{g:α→β}{k:Nat}{x:α}(h:l[k]? = some x):(l.map g)[0+((k:Nat):Int).toNat]? = some (g x):=by simp [h]
theorem Hu{l:List Int}{k:Nat}{x y:Int}:(l.map AI).set (0+((k:Nat):Int).toNat) (AE (AI x) 0 (eC (eI .i64 y)))=(l.set k y).map AI:=by
 simp [AE,eC,List.map_set]
def Nn(l:List Int):Nat:=l.countP (decide <| · < 0)
theorem Qf:∀ {l:List Int} {k:Nat} {x y:Int},l[k]? = some x→x < 0→0≤y→Nn (l.set k y)+1=Nn l
 | [],k,x,y,h,_,_=>by simp at h
 | a::l,0,x,y,h,hx,hy=>by
  simp at h;subst h
  have:¬y < 0:=by omega
  simp [Nn,hx,this]
 | a::l,k+1,x,y,h,hx,hy=>by
  have:=Qf (l:=l) (k:=k) (by simpa using h) hx hy
  simp only [Nn,List.set_cons_succ,List.countP_cons] at this ⊢
  omega
theorem N7{mv:List (List Int)}{dist:List Int}{d:Int}:Jm mv dist d=true↔∃r∈mv,∃j∈r,dist.getD j.toNat 0=d:=by
 simp [Jm,ZL]
structure Ow (mv:List (List (List Int))) (g:Nat→Bool) (dist:List Int):Prop where
 len:dist.length=mv.length
 zero:∀i,i < mv.length→(dist.getD i 0=0↔g i=true)
 step:∀i,i < mv.length→0 < dist.getD i 0→∃r∈mv.getD i [],∃j∈r,dist.getD j.toNat 0=dist.getD i 0 - 1
 close:∀i,i < mv.length→∀r∈mv.getD i [],∀j∈r,0≤dist.getD j.toNat 0→0≤dist.getD i 0∧dist.getD i 0≤dist.getD j.toNat 0+1
 bound:∀i,i < mv.length→-1≤dist.getD i 0∧dist.getD i 0≤mv.length+1
structure DI (mv:List (List (List Int))) (g:Nat→Bool) (dist:List Int) (d:Int) (more:Bool) (i:Nat):Prop where
 len:dist.length=mv.length
 d1:1≤d
 zero:∀i,i < mv.length→(dist.getD i 0=0↔g i=true)
 step:∀i,i < mv.length→0 < dist.getD i 0→∃r∈mv.getD i [],∃j∈r,dist.getD j.toNat 0=dist.getD i 0 - 1
 lt:∀x,x < mv.length→-1≤dist.getD x 0∧dist.getD x 0≤d
 up:∀x,i≤x→x < mv.length→dist.getD x 0 < d
 last:more=false→∀x,x < mv.length→dist.getD x 0 < d
 close:∀x,x < mv.length→∀r∈mv.getD x [],∀j∈r,0≤dist.getD j.toNat 0→(dist.getD j.toNat 0 < d - 1∨x < i∧dist.getD j.toNat 0=d - 1)→0≤dist.getD x 0∧dist.getD x 0≤dist.getD j.toNat 0+1
def Lt(mv:List (List (List Int))):Prop:=∀x,x < mv.length→∀r∈mv.getD x [],∀j∈r,0≤j∧j < mv.length
theorem PT{l:List Int}{k:Nat}{y:Int}(h:k < l.length):(l.set k y).getD k 0=y:=by simp [List.getD,h]
theorem LU{l:List Int}{k x:Nat}{y:Int}(h:k≠x):(l.set k y).getD x 0=l.getD x 0:=by simp [List.getD,h]
theorem DI.set{mv:List (List (List Int))}{g:Nat→Bool}{dist:List Int}{d:Int}{more:Bool}{i:Nat}(h:DI mv g dist d more i)(hi:i < mv.length)(hneg:dist.getD i 0 < 0)(hn:Jm (mv.getD i []) dist (d - 1)=true):DI mv g (dist.set i d) d true (i+1):=by
 have hd1:=h.d1
 have hl:i < dist.length:=by rw [h.len];exact hi
 obtain⟨r0,hr0,j0,hj0,hjd⟩:=N7.1 hn
 have g1:(dist.set i d).getD i 0=d:=PT hl
 have g2:∀x,x≠i→(dist.set i d).getD x 0=dist.getD x 0:=fun x hx=>LU (Ne.symm hx)
 have g3:∀x,0≤dist.getD x 0→(dist.set i d).getD x 0=dist.getD x 0:=fun x hx=>g2 x fun e=>by subst e;omega
 refine⟨by simp [h.len],hd1,fun x hx=>?_,fun x hx hp=>?_,fun x hx=>?_,fun x hx hx'=>?_,fun hm=>(by cases hm),fun x hx r hr j hj hj0' hj1=>?_⟩
 ·by_cases e:x=i
  ·subst e;rw [g1,←h.zero x hx];constructor<;>intro<;>omega
  ·rw [g2 x e];exact h.zero x hx
 ·by_cases e:x=i
  ·subst e;rw [g1] at hp ⊢
   exact⟨r0,hr0,j0,hj0,by rw [g3 _ (by omega)];exact hjd⟩
  ·rw [g2 x e] at hp ⊢
   obtain⟨r,hr,j,hj,hjx⟩:=h.step x hx hp
   exact⟨r,hr,j,hj,by rw [g3 _ (by omega)];exact hjx⟩
 ·by_cases e:x=i
  ·subst e;rw [g1];omega
  ·rw [g2 x e];exact h.lt x hx
 ·rw [g2 x (by omega)];exact h.up x (by omega) hx'
 ·by_cases ej:j.toNat=i
  ·rw [ej,g1] at hj1;omega
  ·rw [g2 _ ej] at hj0' hj1 ⊢
   by_cases e:x=i
   ·subst e;rw [g1]
    refine⟨by omega,?_⟩
    rcases hj1 with h1|⟨_,h1⟩
    ·have:=(h.close x hx r hr j hj hj0' (.inl h1)).1;omega
    ·omega
   ·rw [g2 x e]
    exact h.close x hx r hr j hj hj0' (by rcases hj1 with h1|⟨h1,h2⟩;exact .inl h1;exact .inr ⟨by omega,h2⟩)
theorem DI.AU{mv:List (List (List Int))}{g:Nat→Bool}{dist:List Int}{d:Int}{more:Bool}{i:Nat}(h:DI mv g dist d more i)(hi:i < mv.length)(hn:dist.getD i 0 < 0→Jm (mv.getD i []) dist (d - 1)=false):DI mv g dist d more (i+1):=by
 refine⟨h.len,h.d1,h.zero,h.step,h.lt,fun x hx hx'=>h.up x (by omega) hx',h.last,fun x hx r hr j hj hj0 hj1=>?_⟩
 rcases hj1 with h1|⟨h1,h2⟩
 ·exact h.close x hx r hr j hj hj0 (.inl h1)
 ·by_cases e:x=i
  ·subst e
   by_cases hx0:dist.getD x 0 < 0
   ·have h3:=hn hx0
    have h4:=N7.2 ⟨r,hr,j,hj,h2⟩
    rw [h3] at h4;cases h4
   ·have:=h.up x (Nat.le_refl _) hx
    omega
  ·exact h.close x hx r hr j hj hj0 (.inr ⟨by omega,h2⟩)
theorem DI.next{mv:List (List (List Int))}{g:Nat→Bool}{dist:List Int}{d:Int}{more:Bool}(h:DI mv g dist d more mv.length):DI mv g dist (d+1) true 0:=by
 have hd1:=h.d1
 refine⟨h.len,by omega,h.zero,h.step,fun x hx=>?_,fun x _ hx=>?_,fun hm=>(by cases hm),fun x hx r hr j hj hj0 hj1=>?_⟩
 ·have:=h.lt x hx;omega
 ·have:=h.lt x hx;omega
 ·exact h.close x hx r hr j hj hj0 (by omega)
theorem DI.fin{mv:List (List (List Int))}{g:Nat→Bool}{dist:List Int}{d:Int}(hin:Lt mv)(h:DI mv g dist d false mv.length)(hd:d≤mv.length+1):Ow mv g dist:=by
 have hd1:=h.d1
 refine⟨h.len,h.zero,h.step,fun x hx r hr j hj hj0=>?_,fun x hx=>?_⟩
 ·have h1:=hin x hx r hr j hj
  have:=h.last rfl j.toNat (by omega)
  exact h.close x hx r hr j hj hj0 (by omega)
 ·have:=h.lt x hx;have:=h.last rfl x hx;omega
structure Po (mv:List (List (List Int))) (g:Nat→Bool) (dt:List Int) (d:Int) (more:Bool):Prop where
 len:dt.length=mv.length
 d1:1≤d
 d2:d≤mv.length+2
 yes:more=true→DI mv g dt d true 0∧d+Nn dt≤mv.length+1
 no:more=false→Ow mv g dt
theorem YI(l:List Int):Nn l≤l.length:=List.countP_le_length
theorem Po.init{mv:List (List (List Int))}{g:Nat→Bool}{dist:List Int}(hlen:dist.length=mv.length)(h0:∀i,i < mv.length→dist.getD i 0=if g i then 0 else -1):Po mv g dist 1 true:=by
 have hx:∀x,x < mv.length→-1≤dist.getD x 0∧dist.getD x 0 < 1:=fun x hx=>by have:=h0 x hx;split at this<;>omega
 have hn:=YI dist
 refine⟨hlen,by omega,by omega,fun _=>⟨⟨hlen,by omega,fun x h=>?_,fun x h hp=>?_,fun x h=>?_,fun x _ h=>(hx x h).2,fun h=>(by cases h),fun x h r hr j hj hj0 hj1=>?_⟩,by omega⟩,fun h=>(by cases h)⟩
 ·have:=h0 x h;split at this<;>simp_all
 ·have:=hx x h;omega
 ·have:=hx x h;omega
 ·omega
structure KP (mv:List (List (List Int))) (g:Nat→Bool) (dt:List Int) (d:Int) (du:List Int) (m2:Bool) (i:Nat):Prop where
 le:i≤mv.length
 di:DI mv g du d m2 i
 cnt:Nn du+(if m2 then 1 else 0)≤Nn dt
theorem KP.init{mv:List (List (List Int))}{g:Nat→Bool}{dt:List Int}{d:Int}(h:DI mv g dt d true 0):KP mv g dt d dt false 0:=
 ⟨Nat.zero_le _,⟨h.len,h.d1,h.zero,h.step,h.lt,h.up,fun _ x hx=>h.up x (Nat.zero_le _) hx,h.close⟩,by simp⟩
theorem KP.set{mv:List (List (List Int))}{g:Nat→Bool}{dt:List Int}{d:Int}{du:List Int}{m2:Bool}{i:Nat}(h:KP mv g dt d du m2 i)(hi:i < mv.length)(hneg:du.getD i 0 < 0)(hn:Jm (mv.getD i []) du (d - 1)=true):KP mv g dt d (du.set i d) true (i+1):=by
 have hl:=h.di.len
 have hd1:=h.di.d1
 have h1:du[i]? = some (du.getD i 0):=by
  have:i < du.length:=by omega
  simp [List.getD,this]
 have h2:=Qf h1 hneg (y:=d) (by omega)
 have h3:=h.cnt
 refine⟨hi,h.di.set hi hneg hn,?_⟩
 simp only [if_true]
 split at h3<;>omega
theorem KP.AU{mv:List (List (List Int))}{g:Nat→Bool}{dt:List Int}{d:Int}{du:List Int}{m2:Bool}{i:Nat}(h:KP mv g dt d du m2 i)(hi:i < mv.length)(hn:du.getD i 0 < 0→Jm (mv.getD i []) du (d - 1)=false):KP mv g dt d du m2 (i+1):=
 ⟨hi,h.di.AU hi hn,h.cnt⟩
theorem KP.next{mv:List (List (List Int))}{g:Nat→Bool}{dt:List Int}{d:Int}{du:List Int}{m2:Bool}(hin:Lt mv)(h:KP mv g dt d du m2 mv.length)(hd:d+Nn dt≤mv.length+1):Po mv g du (d+1) m2:=by
 have hd1:=h.di.d1
 have hc:=h.cnt
 refine⟨h.di.len,by omega,by omega,fun hm=>?_,fun hm=>?_⟩
 ·subst hm
  simp only [if_true] at hc
  exact⟨h.di.next,by omega⟩
 ·subst hm
  exact h.di.fin hin (by omega)
theorem Uy(mv:List (List (List Int)))(g:Nat→Bool)(dist:List Int)(hin:Lt mv)(hN:mv.length≤1048576)(hlen:dist.length=mv.length)(h0:∀i,i < mv.length→dist.getD i 0=if g i then 0 else -1) :
    Spec Tryz.prog TB 283 [(0,.cells 3 1 (dist.map AI))] 1 [CM mv,.o (.arr 0 1 0 mv.length)] (fun x σ nx=>x=.t []∧nx=1∧∃dist',Ow mv g dist'∧σ=[(0,.cells 3 1 (dist'.map AI))]):=by
  refine eN Tryz.func283 rfl (by kernel_rfl) rfl ?_;intro Γ hΓ
  (repeat first|refine tM rfl ?_ |refine aU rfl ?_ |refine Aa ?_)
  refine aB ?_
  refine Av.AR (α:={x:List Int×Int×Bool // Po mv g x.1 x.2.1 x.2.2}) (fun ⟨⟨dt,d,more⟩,hH⟩=>[(0,CM mv),(1,.o (.arr 0 1 0 mv.length)),(4,eB more),(5,eI .i64 d)]) (fun ⟨⟨dt,d,more⟩,hH⟩=>[(0,.cells 3 1 (dt.map AI))]) 1 (fun ⟨⟨dt,d,more⟩,hH⟩=>2*Nn dt+(if more then 1 else 0)) (⟨(dist,1,true),Po.init hlen h0⟩) [0] (Dq hΓ rfl rfl) (by (simp[cX,zC,hΓ])) ?_;rintro⟨⟨dt,d,more⟩,hH⟩;(try dsimp only)
  simp only at hH
  (repeat first|refine tM rfl ?_ |refine aU rfl ?_ |refine Aa ?_)
  (refine aC rfl ?_ ?_<;>rintro⟨⟩)
  · obtain⟨hD,hc⟩:=hH.yes rfl
    have hd1:=hD.d1
    refine aK ?_
    refine aS (aB ?_)
    (repeat first|refine tM rfl ?_ |refine aU rfl ?_ |refine Aa ?_)
    refine aB ?_
    refine Av.AR (α:={x:List Int×Bool×Nat // KP mv g dt d x.1 x.2.1 x.2.2}) (fun ⟨⟨du,m2,i⟩,hM⟩=>[(0,CM mv),(1,.o (.arr 0 1 0 mv.length)),(4,eB m2),(5,eI .i64 d),(6,eI .i64 i)]) (fun ⟨⟨du,m2,i⟩,hM⟩=>[(0,.cells 3 1 (du.map AI))]) 1 (fun ⟨⟨du,m2,i⟩,hM⟩=>mv.length - i) (⟨(dt,false,0),KP.init hD⟩) [0] (Dq hΓ rfl rfl) (by (simp[cX,zC,hΓ])) ?_;rintro⟨⟨du,m2,i⟩,hM⟩;(try dsimp only)
    simp only at hM
    have hul:=hM.di.len
    have hile:=hM.le
    (repeat first|refine tM rfl ?_ |refine s2 rfl fun _ _hb=>?_ |refine aU rfl ?_ |refine Aa ?_)
    (refine aC rfl ?_ ?_<;>rintro⟨⟩)
    · obtain⟨y,hy⟩:=get_some (l:=du) (k:=i) (by (simp only[oZ] at *;omega))
      have hy':=Hi (g:=AI) hy
      obtain⟨mi,hmi⟩:=get_some (l:=mv) (k:=i) (by (simp only[oZ] at *;omega))
      have hmi':=get_map (g:=Ix) hmi
      have hilt:i < mv.length:=by (simp only[oZ] at *;omega)
      have hyd:du.getD i 0=y:=by simp [List.getD,hy]
      have hmd:mv.getD i []=mi:=by simp [List.getD,hmi]
      have hset:=hM.set hilt
      have hkeep:=hM.AU hilt
      rw [hyd,hmd] at hset hkeep
      refine aK ?_
      refine aS (aB ?_)
      (repeat' first|((first|refine sM rfl ?_ ?_|refine s4 rfl ‹_› rfl ?_ ?_);first|exact tI|omega) |refine s2 rfl fun _ _hb=>?_|(refine Ai rfl ?_;refine gA rfl ?_;first| (refine fQ (Gz rfl rfl ((.cons (.o (.pure rfl)) (.cons (.o (.full rfl (by simp [Function.comp_def]) (by simp [hul]))) (.cons (.o (.pure rfl)) .nil)))) (Uz mi du (d - 1) (fun r hr v hv=>by have:=hin i hilt r (by rw [hmd];exact hr) v hv;exact⟨this.1,by omega⟩)) rfl) rfl ?_;intro _ _hb)) |refine s3 rfl ?_ ?_<;>rintro rfl |refine aU rfl ?_ |refine Aa ?_|(refine aC rfl ?_ ?_<;>rintro⟨⟩)|refine aK ?_|refine aE ?_|refine aB ?_|refine aR ⟨_,rfl,?_⟩)
      all_goals first
        | (refine⟨⟨(du,m2,i+1),hkeep (by grind)⟩,by dsimp only;(omega),[0],?_⟩
           simp[cX,zC,hΓ]
           done)
        | (refine⟨⟨(du.set i d,true,i+1),hset (by grind) (by grind)⟩,by dsimp only;(omega),[0],?_⟩
           rw [Hu]
           simp[cX,zC,hΓ]
           done)
    · obtain rfl:i=mv.length:=by (simp only[oZ] at *;omega)
      have hN2:=hM.next hin hc
      have hc2:=hM.cnt
      refine aE ?_
      (repeat first|(refine sM rfl ?_ ?_;first|exact tI|omega) |refine aU rfl ?_ |refine Aa ?_)
      refine⟨⟨(du,d+1,m2),hN2⟩,?_,[0],?_⟩
      · dsimp only
        cases m2<;>simp at hc2 ⊢ <;> omega
      · simp[cX,zC,hΓ]
  · refine aE ?_
    exact⟨_,rfl,rfl,rfl,dt,hH.no rfl,rfl⟩
theorem UC(l:List Int)(a:Int):l.length=l.count a+(l.filter (· != a)).length:=by
 induction l with
 | nil=>rfl
 | cons b l ih=>
  simp only [List.count_cons,List.filter_cons,List.length_cons]
  by_cases h:b=a
  ·subst h;simp;omega
  ·simp [h];omega
theorem EE:∀(n:Nat) (l:List Int),l.Nodup→(∀x∈l,0≤x∧x < n)→l.length≤n
 | 0,l,_,h=>by
  cases l with
  | nil=>simp
  | cons a l=>have:=h a (by simp);omega
 | n + 1,l,hn,h=>by
  have h1:=UC l n
  have h2:=List.nodup_iff_count.1 hn n
  have h3:=EE n (l.filter (· != (n:Int))) (hn.filter _) fun x hx=>by
   obtain⟨h4,h5⟩:=List.mem_filter.1 hx
   have:=h x h4
   simp at h5
   omega
  omega
def GM(dist:List Int)(d:Int)(acc:List Int)(j:Int):List Int:=if dist.getD j.toNat 0=d∧j∉acc then acc++[j] else acc
theorem SM(dist:List Int)(d:Int)(acc:List Int)(j:Int):GM dist d acc j=if dist.getD j.toNat 0=d∧j∉acc then acc++[j] else acc:=rfl
def Ee(mv:List (List (List Int)))(dist at':List Int)(k:Nat)(d:Int):List Int:=at'.foldl (fun acc x=>((mv.getD x.toNat []).getD k []).foldl (GM dist d) acc) []
def CA(n:Nat)(acc:List Int):Prop:=acc.Nodup∧∀x∈acc,0≤x∧x < n
theorem CA.add{n:Nat}{acc:List Int}(h:CA n acc){dist:List Int}{d j:Int}(hj:0≤j∧j < n):CA n (GM dist d acc j):=by
 unfold GM
 split
 ·rename_i h1
  refine⟨List.nodup_append.2 ⟨h.1,by simp,fun a ha b hb=>?_⟩,fun x hx=>?_⟩
  ·simp at hb;subst hb;intro e;subst e;exact h1.2 ha
  ·rcases List.mem_append.1 hx with hx|hx
   ·exact h.2 x hx
   ·simp at hx;subst hx;exact hj
 ·exact h
theorem CA.fold{n:Nat}{dist:List Int}{d:Int}:∀ {l acc:List Int},CA n acc→(∀j∈l,0≤j∧j < n)→CA n (l.foldl (GM dist d) acc)
 | [],_,h,_=>h
 | j::_,_,h,hl=>by rw [List.foldl_cons];exact CA.fold (h.add (hl j (by simp))) fun x hx=>hl x (by simp [hx])
theorem mem_row{mv:List (List (List Int))}(hin:Lt mv){x:Int}(hx:0≤x∧x < mv.length)(k:Nat):∀j∈(mv.getD x.toNat []).getD k [],0≤j∧j < mv.length:=by
 intro j hj
 cases hr:(mv.getD x.toNat [])[k]? with
 | none=>
  have:(mv.getD x.toNat []).getD k []=[]:=by rw [List.getD,hr];rfl
  rw [this] at hj;cases hj
 | some r=>
  have:(mv.getD x.toNat []).getD k []=r:=by rw [List.getD,hr];rfl
  rw [this] at hj
  exact hin x.toNat (by omega) r (List.mem_of_getElem? hr) j hj
theorem CA.ZO{mv:List (List (List Int))}(hin:Lt mv){dist:List Int}{d:Int}{k:Nat}:∀ {l acc:List Int},CA mv.length acc→(∀x∈l,0≤x∧x < mv.length)→CA mv.length (l.foldl (fun acc x=>((mv.getD x.toNat []).getD k []).foldl (GM dist d) acc) acc)
 | [],_,h,_=>h
 | j::_,_,h,hl=>by rw [List.foldl_cons];exact CA.ZO hin (h.fold (mem_row hin (hl j (by simp)) k)) fun x hx=>hl x (by simp [hx])
theorem CA.nil{n:Nat}:CA n []:=⟨.nil,fun x hx=>(by cases hx)⟩
theorem Iv{α β:Type}{l:List α}{k:Nat}{x:α}(h:l[k]? = some x)(f:β→α→β)(b:β):(l.take (k+1)).foldl f b=f ((l.take k).foldl f b) x:=by
 rw [List.take_add_one,h,List.foldl_append];rfl
theorem P5(mv:List (List (List Int)))(dist at':List Int)(k:Nat)(d:Int)(hin:Lt mv)(hN:mv.length≤1048576)(hlen:dist.length=mv.length)(ha:∀x∈at',0≤x∧x < mv.length)(hal:at'.length≤1048576)(hk:∀i,i < mv.length→k < (mv.getD i []).length) :
 Pure Tryz.prog TB 285 [CM mv,Ag dist,Ag at',eI .i64 k,eI .i64 d] (Ag (Ee mv dist at' k d)):=by
 have hacc:∀m,CA mv.length ((at'.take m).foldl (fun acc x=>((mv.getD x.toNat []).getD k []).foldl (GM dist d) acc) []):=fun m=>CA.ZO hin .nil fun x hx=>ha x (List.mem_of_mem_take hx)
 refine eN Tryz.func285 rfl (by kernel_rfl) rfl ?_;intro Γ hΓ
 refine Av.bound 0 rfl fun hB0=>?_
 (repeat first|refine aU rfl ?_)
 (refine Ai rfl ?_;refine B5 (fun _ _=>BQ rfl) rfl ?_)
 (repeat first|refine aU rfl ?_ |refine Aa ?_)
 (refine pW rfl ?_ rfl (by rfl);refine C5 rfl rfl rfl rfl (by simp) (by rfl) (by rfl) (by rfl) (by rfl) ?_)
 (repeat first|refine tM rfl ?_ |refine aU rfl ?_ |refine Aa ?_)
 refine aB ?_
 refine Av.AR (α:={m:Nat // m≤at'.length}) (fun ⟨m,hm⟩=>[(0,CM mv),(1,Ag dist),(2,Ag at'),(3,eI .i64 k),(4,eI .i64 d),(11,.o (.arr 0 1 0 ((at'.take m).foldl (fun acc x=>((mv.getD x.toNat []).getD k []).foldl (GM dist d) acc) []).length)),(12,eI .i64 m)]) (fun ⟨m,hm⟩=>[(0,.cells 3 1 (((at'.take m).foldl (fun acc x=>((mv.getD x.toNat []).getD k []).foldl (GM dist d) acc) []).map AI))]) 1 (fun ⟨m,hm⟩=>at'.length - m) (⟨0,by omega⟩) [0] (Dq hΓ rfl rfl) (by (simp[cX,zC,hΓ])) ?_;rintro⟨m,hm⟩;(try dsimp only)
 have hacc1:=hacc m
 have hacc2:=fun x=>Iv (l:=at') (k:=m) (x:=x) (f:=fun acc x=>((mv.getD x.toNat []).getD k []).foldl (GM dist d) acc) (b:=[])
 generalize hA1:(at'.take m).foldl (fun acc x=>((mv.getD x.toNat []).getD k []).foldl (GM dist d) acc) []=acc at *
 (repeat first|refine sN rfl ?_ |refine tM rfl ?_ |refine s2 rfl fun _ _hb=>?_ |refine aU rfl ?_ |refine Aa ?_)
 (refine aC rfl ?_ ?_<;>rintro⟨⟩)
 ·obtain⟨y,hy⟩:=get_some (l:=at') (k:=m) (by (simp only[oZ] at *;omega))
  have hy':=get_map (g:=Bm) hy
  have hyb:=ha y (List.mem_of_getElem? hy)
  obtain⟨my,hmy⟩:=get_some (l:=mv) (k:=y.toNat) (by omega)
  have hmy':(mv.map Ix)[y.toNat]? = some (Ix my):=by simp [hmy]
  have hkk:=hk y.toNat (by omega)
  have hgy:mv.getD y.toNat []=my:=by simp [List.getD,hmy]
  rw [hgy] at hkk
  obtain⟨r,hr⟩:=get_some (l:=my) (k:=k) hkk
  have hr':=get_map (g:=Dy) hr
  have hgr:my.getD k []=r:=by simp [List.getD,hr]
  have hrin:=mem_row hin hyb k
  rw [hgy,hgr] at hrin
  have hstep:=hacc2 y hy
  rw [hgy,hgr] at hstep
  have hBr:=hB0 (r.map Bm) (.l (i:=y.toNat) (j:=0) (r:=Ix my) hmy' rfl (.l (i:=k) (j:=0) (r:=Dy r) (by simp [hr]) rfl .refl))
  have hf2:∀j,CA mv.length ((r.take j).foldl (GM dist d) acc):=fun j=>hacc1.fold fun x hx=>hrin x (List.mem_of_mem_take hx)
  refine aK ?_
  refine aS (aB ?_)
  (repeat first|refine tM rfl ?_ |(refine s4 rfl ‹_› rfl ?_ ?_;omega) |refine aU rfl ?_ |refine Aa ?_)
  refine aB ?_
  refine Av.AR (α:={j:Nat // j≤r.length}) (fun ⟨j,hj⟩=>[(0,CM mv),(1,Ag dist),(2,Ag at'),(3,eI .i64 k),(4,eI .i64 d),(11,.o (.arr 0 1 0 ((r.take j).foldl (GM dist d) acc).length)),(12,eI .i64 m),(13,Ag r),(14,eI .i64 j)]) (fun ⟨j,hj⟩=>[(0,.cells 3 1 (((r.take j).foldl (GM dist d) acc).map AI))]) 1 (fun ⟨j,hj⟩=>r.length - j) (⟨0,by omega⟩) [0] (Dq hΓ rfl rfl) (by (simp[cX,zC,hΓ])) ?_;rintro⟨j,hj⟩;(try dsimp only)
  have hac:=hf2 j
  have hst2:=fun x=>Iv (l:=r) (k:=j) (x:=x) (f:=GM dist d) (b:=acc)
  generalize hA2:(r.take j).foldl (GM dist d) acc=ac2 at *
  (repeat first|refine sN rfl ?_ |refine tM rfl ?_ |refine s2 rfl fun _ _hb=>?_ |refine aU rfl ?_ |refine Aa ?_)
  (refine aC rfl ?_ ?_<;>rintro⟨⟩)
  ·obtain⟨x,hx⟩:=get_some (l:=r) (k:=j) (by (simp only[oZ] at *;omega))
   have hx':=get_map (g:=Bm) hx
   have hxb:=hrin x (List.mem_of_getElem? hx)
   obtain⟨z,hz⟩:=get_some (l:=dist) (k:=x.toNat) (by omega)
   have hz':(dist.map Bm)[x.toNat]? = some (Bm z):=by simp [hz]
   have hdz:dist.getD x.toNat 0=z:=by simp [List.getD,hz]
   have hst2:=hst2 x hx
   have hlac:=EE _ _ hac.1 hac.2
   rw [SM,hdz] at hst2
   refine aK ?_
   refine aS (aB ?_)
   (repeat' first|(refine sM rfl ?_ ?_;first|exact tI|simp only[oZ] at *;omega) |(refine s4 rfl ‹_› rfl ?_ ?_;omega) |refine s2 rfl fun _ _hb=>?_|(refine Ai rfl ?_;refine gA rfl ?_;first| (refine fQ (Gz rfl rfl ((.cons (.o (.full rfl (by simp [Function.comp_def]) (by simp))) (.cons (.o (.pure rfl)) .nil))) (YA ac2 x) rfl) rfl ?_;intro _ _hb)) |refine s3 rfl ?_ ?_<;>rintro rfl |refine aU rfl ?_ |refine Aa ?_|(refine aC rfl ?_ ?_<;>rintro⟨⟩)|refine aK ?_|refine aE ?_|refine aB ?_|refine aR ⟨_,rfl,?_⟩)
   all_goals try (rw [if_neg (by grind)] at hst2;refine⟨⟨j+1,by (simp only[oZ] at *;omega)⟩,by dsimp only;((simp only[oZ] at *;omega)),[0],?_⟩;simp[cX,zC,hΓ,hst2];done)
   all_goals rw [if_pos (by grind)] at hst2
   (repeat first|refine tA rfl ?_)
   (refine pW rfl ?_ rfl (by rfl);refine AY rfl rfl rfl (by first| (simp;done)|(simp;(omega))) rfl (by intro r hr;simp at hr;subst hr;rfl) (by rfl) (Nat.le_of_ble_eq_true rfl) (by simp;omega) ?_)
   (repeat first|(refine sX rfl ?_ ?_;first|exact tI|simp only[oZ] at *;omega) |refine aU rfl ?_ |refine Aa ?_)
   refine⟨⟨j+1,by (simp only[oZ] at *;omega)⟩,by dsimp only;((simp only[oZ] at *;omega)),[1],?_⟩
   simp[cX,zC,hΓ,hst2]
  ·obtain rfl:j=r.length:=by (simp only[oZ] at *;omega)
   refine aE ?_
   rw [List.take_length] at hA2
   subst hA2
   (repeat first|(refine sM rfl ?_ ?_;first|exact tI|omega) |refine aU rfl ?_ |refine Aa ?_)
   refine⟨⟨m+1,by (simp only[oZ] at *;omega)⟩,by dsimp only;((simp only[oZ] at *;omega)),[0],?_⟩
   simp[cX,zC,hΓ,hstep,-List.getD_eq_getElem?_getD]
 ·obtain rfl:m=at'.length:=by (simp only[oZ] at *;omega)
  refine aE ?_
  (repeat first|refine tM rfl ?_ |refine aU rfl ?_ |refine Aa ?_)
  rw [List.take_length] at hA1
  subst hA1
  refine Av.freeze [0] [(10,Ag (Ee mv dist at' k d))] ⟨⟨_,rfl,.o (.full (by simp) rfl (by simp [Function.comp_def,Ee]) (by simp))⟩,trivial⟩ ?_
  refine aR ⟨_,rfl,rfl⟩
end Go.Am
namespace Go.Am
open Go
structure Gr where
 N:Nat
 succ:Int→Int→List Int
 goal:Int→Bool
 ls:List Int
 s0:Int
structure GR (g:Gr):Prop where
 s0:0≤g.s0∧g.s0 < g.N
 inn:∀x:Int,0≤x∧x < g.N→∀l∈g.ls,∀y∈g.succ x l,0≤y∧y < g.N
 srt:g.ls.Pairwise (· < ·)
def reach(g:Gr):List Int→Int→Int→Prop
 | [],a,x=>a=x
 | l::w,a,x=>∃y∈g.succ a l,reach g w y x
def over(g:Gr)(w:List Int):Prop:=∀l∈w,l∈g.ls
def Vm(g:Gr)(w:List Int):Prop:=∃x,reach g w g.s0 x∧g.goal x=true
def QZ:List Int→List Int→Prop
 | a::u,b::w=>a < b∨a=b∧QZ u w
 | _,_=>False
def slt(u w:List Int):Prop:=u.length < w.length∨u.length=w.length∧QZ u w
def BM(g:Gr):Option (List Int)→Prop
 | some w=>over g w∧Vm g w∧∀u,over g u→Vm g u→¬slt u w
 | none=>∀u,over g u→¬Vm g u
theorem De{g:Gr}:∀ {w:List Int} {l a x:Int},reach g (w++[l]) a x↔∃y,reach g w a y∧x∈g.succ y l
 | [],l,a,x=>by simp [reach]
 | m::w,l,a,x=>by
  simp only [List.cons_append,reach,De]
  constructor
  ·rintro⟨y,hy,z,hz,hx⟩;exact⟨z,⟨y,hy,hz⟩,hx⟩
  ·rintro⟨z,⟨y,hy,hz⟩,hx⟩;exact⟨y,hy,z,hz,hx⟩
theorem CG{g:Gr}(hg:GR g):∀ {w:List Int} {a x:Int},over g w→(0≤a∧a < g.N)→reach g w a x→0≤x∧x < g.N
 | [],a,x,_,ha,h=>by have h:a=x:=h;subst h;exact ha
 | l::w,a,x,ho,ha,h=>by
  obtain⟨y,hy,h⟩:=h
  exact CG hg (fun m hm=>ho m (by simp [hm])) (hg.inn a ha l (ho l (by simp)) y hy) h
theorem EF{g:Gr}{w:List Int}{l:Int}:over g (w++[l])↔over g w∧l∈g.ls:=by
 unfold over;simp only [List.mem_append,List.mem_singleton]
 constructor
 ·intro h;exact⟨fun m hm=>h m (.inl hm),h l (.inr rfl)⟩
 ·rintro⟨h1,h2⟩ m (hm|rfl);exact h1 m hm;exact h2
theorem Hm:∀ {u w:List Int} {m l:Int},u.length=w.length→(QZ (u++[m]) (w++[l])↔QZ u w∨u=w∧m < l)
 | [],[],m,l,_=>by simp [QZ]
 | [],b::w,m,l,h=>by simp at h
 | a::u,[],m,l,h=>by simp at h
 | a :: u,b::w,m,l,h=>by
  simp only [List.cons_append,QZ,Hm (u:=u) (w:=w) (by simpa using h),List.cons.injEq]
  constructor
  ·rintro(h|⟨h1,h2|⟨h2,h3⟩⟩)
   ·exact .inl (.inl h)
   ·exact .inl (.inr ⟨h1,h2⟩)
   ·exact .inr ⟨⟨h1,h2⟩,h3⟩
  ·rintro((h|⟨h1,h2⟩)|⟨⟨h1,h2⟩,h3⟩)
   ·exact .inl h
   ·exact .inr ⟨h1,.inl h2⟩
   ·exact .inr ⟨h1,.inr ⟨h2,h3⟩⟩
theorem OQ:∀ {u w:List Int},u.length=w.length→QZ u w∨u=w∨QZ w u
 | [],[],_=>.inr (.inl rfl)
 | [],b::w,h=>by simp at h
 | a::u,[],h=>by simp at h
 | a :: u,b::w,h=>by
  simp only [QZ,List.cons.injEq]
  have h1:=OQ (u:=u) (w:=w) (by simpa using h)
  rcases Int.lt_trichotomy a b with h2|h2|h2
  ·exact .inl (.inl h2)
  ·rcases h1 with h1|h1|h1
   ·exact .inl (.inr ⟨h2,h1⟩)
   ·exact .inr (.inl ⟨h2,h1⟩)
   ·exact .inr (.inr (.inr ⟨h2.symm,h1⟩))
  ·exact .inr (.inr (.inl h2))
theorem Zd{u w:List Int}(h1:¬slt u w)(h2:¬slt w u):u=w:=by
 unfold slt at h1 h2
 have hl:u.length=w.length:=by omega
 rcases OQ hl with h|h|h
 ·exact absurd (.inr ⟨hl,h⟩) h1
 ·exact h
 ·exact absurd (.inr ⟨hl.symm,h⟩) h2
theorem BM.unique{g:Gr}{r s:Option (List Int)}(hr:BM g r)(hs:BM g s):r=s:=by
 cases r with
 | none=>
  cases s with
  | none=>rfl
  | some w=>exact absurd hs.2.1 (hr w hs.1)
 | some v=>
  cases s with
  | none=>exact absurd hr.2.1 (hs v hr.1)
  | some w=>rw [Zd (hs.2.2 v hr.1 hr.2.1) (hr.2.2 w hs.1 hs.2.1)]
theorem P9:∀(l:List Int) (Q:Int→Prop),(∃x∈l,Q x)→∃x∈l,Q x∧∀y∈l,Q y→¬y < x
 | [],Q,h=>by obtain⟨x,hx,_⟩:=h;cases hx
 | a :: l,Q,h=>by
  by_cases ht:∃x∈l,Q x
  ·obtain⟨x,hx,hq,hm⟩:=P9 l Q ht
   by_cases ha:Q a∧a < x
   ·refine⟨a,by simp,ha.1,fun y hy hqy=>?_⟩
    rcases List.mem_cons.1 hy with rfl|hy
    ·omega
    ·have:=hm y hy hqy;omega
   ·refine⟨x,by simp [hx],hq,fun y hy hqy=>?_⟩
    rcases List.mem_cons.1 hy with rfl|hy
    ·exact fun hlt=>ha ⟨hqy,hlt⟩
    ·exact hm y hy hqy
  ·obtain⟨x,hx,hq⟩:=h
   rcases List.mem_cons.1 hx with rfl|hx
   ·refine⟨x,by simp,hq,fun y hy hqy=>?_⟩
    rcases List.mem_cons.1 hy with rfl|hy
    ·omega
    ·exact absurd ⟨y,hy,hqy⟩ ht
   ·exact absurd ⟨x,hx,hq⟩ ht
theorem Mb(ls:List Int):∀(n:Nat) (Q:List Int→Prop),(∃u:List Int,u.length=n∧(∀l∈u,l∈ls)∧Q u)→∃u:List Int,u.length=n∧(∀l∈u,l∈ls)∧Q u∧∀v:List Int,v.length=n→(∀l∈v,l∈ls)→Q v→¬QZ v u
 | 0,Q,⟨u,h1,h2,h3⟩=>by
  have:u=[]:=List.length_eq_zero_iff.1 h1
  subst this
  exact⟨[],rfl,h2,h3,fun v hv _ _=>by have:v=[]:=List.length_eq_zero_iff.1 hv;subst this;exact fun h=>h⟩
 | n + 1,Q,⟨u,h1,h2,h3⟩=>by
  cases u with
  | nil=>simp at h1
  | cons a u=>
   obtain⟨x,hx,⟨u1,h4,h5,h6⟩,hm⟩:=P9 ls (fun x=>∃u:List Int,u.length=n∧(∀l∈u,l∈ls)∧Q (x::u)) ⟨a,h2 a (by simp),u,by simpa using h1,fun l hl=>h2 l (by simp [hl]),h3⟩
   obtain⟨u2,h7,h8,h9,h10⟩:=Mb ls n (fun u=>Q (x::u)) ⟨u1,h4,h5,h6⟩
   refine⟨x::u2,by simp [h7],fun l hl=>by rcases List.mem_cons.1 hl with rfl|hl;exact hx;exact h8 l hl,h9,fun v hv hvl hq=>?_⟩
   cases v with
   | nil=>simp at hv
   | cons b v=>
    have hb:=hm b (hvl b (by simp)) ⟨v,by simpa using hv,fun l hl=>hvl l (by simp [hl]),hq⟩
    rintro(h|⟨h,h'⟩)
    ·exact hb h
    ·subst h;exact h10 v (by simpa using hv) (fun l hl=>hvl l (by simp [hl])) hq h'
theorem LN(g:Gr):∃r,BM g r:=by
 by_cases h:∃u,over g u∧Vm g u
 ·have key : ∀n,(∃u,u.length≤n∧over g u∧Vm g u)→∃m,(∃u,u.length=m∧over g u∧Vm g u)∧∀u,over g u→Vm g u→m≤u.length:=by
   intro n
   induction n with
   | zero=>
    rintro⟨u,h1,h2,h3⟩
    exact⟨0,⟨u,by omega,h2,h3⟩,fun _ _ _=>Nat.zero_le _⟩
   | succ n ih=>
    rintro⟨u,h1,h2,h3⟩
    by_cases hx:∃u,u.length≤n∧over g u∧Vm g u
    ·exact ih hx
    ·refine⟨n+1,⟨u,?_,h2,h3⟩,fun v hv hv'=>?_⟩
     ·have:¬u.length≤n:=fun h=>hx ⟨u,h,h2,h3⟩
      omega
     ·have:¬v.length≤n:=fun h=>hx ⟨v,h,hv,hv'⟩
      omega
  obtain⟨u,hu⟩:=h
  obtain⟨m,⟨v,h1,h2,h3⟩,hm⟩:=key u.length ⟨u,Nat.le_refl _,hu⟩
  obtain⟨w,h4,h5,h6,h7⟩:=Mb g.ls m (Vm g) ⟨v,h1,h2,h3⟩
  refine⟨some w,h5,h6,fun u hu hh=>?_⟩
  rintro(h|⟨h,h'⟩)
  ·have:=hm u hu hh;omega
  ·exact h7 u (by omega) hu hh h'
 ·exact⟨none,fun u hu hh=>h ⟨u,hu,hh⟩⟩
structure IS (g:Gr) (dx:Int→Int):Prop where
 zero:∀x:Int,0≤x∧x < g.N→(dx x=0↔g.goal x=true)
 step:∀x:Int,0≤x∧x < g.N→0 < dx x→∃l∈g.ls,∃j∈g.succ x l,dx j=dx x - 1
 close:∀x:Int,0≤x∧x < g.N→∀l∈g.ls,∀j∈g.succ x l,0≤dx j→0≤dx x∧dx x≤dx j+1
theorem IS.Yp{g:Gr}(hg:GR g){dx:Int→Int}(h:IS g dx):∀ {u:List Int} {a x:Int},over g u→(0≤a∧a < g.N)→reach g u a x→0≤dx x→0≤dx a∧dx a≤u.length+dx x
 | [],a,x,_,_,hr,h0=>by have hr:a=x:=hr;subst hr;simp;exact h0
 | l::u,a,x,ho,ha,⟨y,hy,hr⟩,h0=>by
  have hl:=ho l (by simp)
  have hyin:=hg.inn a ha l hl y hy
  have h1:=IS.Yp hg h (fun m hm=>ho m (by simp [hm])) hyin hr h0
  have h2:=h.close a ha l hl y hy h1.1
  simp only [List.length_cons];push_cast;omega
structure KS (g:Gr) (dx:Int→Int) (w:List Int) (at':List Int) (d:Int):Prop where
 ov:over g w
 ne:at'≠[]
 acc:CA g.N at'
 mem:∀x,x∈at'↔reach g w g.s0 x∧dx x=d
 len:w.length+d=dx g.s0
 d0:0≤d
 min:∀u,over g u→u.length=w.length→QZ u w→∀x,reach g u g.s0 x→dx x≠d
theorem KS.init{g:Gr}(hg:GR g){dx:Int→Int}(h0:0≤dx g.s0):KS g dx [] [g.s0] (dx g.s0):=
 ⟨fun l hl=>(by cases hl),by simp,⟨by simp,fun x hx=>by simp at hx;subst hx;exact hg.s0⟩,fun x=>by simp [reach];constructor<;>intro h<;>simp_all,by simp,h0,fun u _ hu hl=>by
  have:u=[]:=List.length_eq_zero_iff.1 hu
  subst this;exact hl.elim⟩
theorem KS.gi{g:Gr}(hg:GR g){dx:Int→Int}(hd:IS g dx){w at':List Int}(h:KS g dx w at' 0):BM g (some w):=by
 refine⟨h.ov,?_,fun u hu hh=>?_⟩
 ·cases at' with
  | nil=>exact absurd rfl h.ne
  | cons x l=>
   have h1:=(h.mem x).1 (by simp)
   exact⟨x,h1.1,(hd.zero x (h.acc.2 x (by simp))).1 h1.2⟩
 ·obtain⟨x,hx,hgx⟩:=hh
  have hz:=(hd.zero x (CG hg hu hg.s0 hx)).2 hgx
  have h1:=hd.Yp hg hu hg.s0 hx (by omega)
  have h2:=h.len
  rintro(h3|⟨h3,h4⟩)
  ·omega
  ·exact h.min u hu h3 h4 x hx hz
theorem VE{g:Gr}(hg:GR g){dx:Int→Int}(hd:IS g dx)(h:dx g.s0 < 0):BM g none:=by
 rintro u hu ⟨x,hx,hgx⟩
 have hz:=(hd.zero x (CG hg hu hg.s0 hx)).2 hgx
 have h1:=hd.Yp hg hu hg.s0 hx (by omega)
 omega
theorem KS.prog{g:Gr}{dx:Int→Int}(hd:IS g dx){w at':List Int}{d:Int}(h:KS g dx w at' d)(hp:0 < d):∃l∈g.ls,∃x∈at',∃y∈g.succ x l,dx y=d - 1:=by
 cases at' with
 | nil=>exact absurd rfl h.ne
 | cons x l=>
  have h1:=(h.mem x).1 (by simp)
  obtain⟨l,hl,j,hj,hdj⟩:=hd.step x (h.acc.2 x (by simp)) (by omega)
  exact⟨l,hl,x,by simp,j,hj,by omega⟩
theorem KS.next{g:Gr}(hg:GR g){dx:Int→Int}(hd:IS g dx){w at':List Int}{d:Int}(h:KS g dx w at' d)(hp:0 < d){l:Int}(hl:l∈g.ls){at2:List Int}(ha:CA g.N at2)(hne:at2≠[])
 (hm:∀y,y∈at2↔∃x∈at',y∈g.succ x l∧dx y=d - 1) (hless:∀m∈g.ls,m < l→¬∃x∈at',∃y∈g.succ x m,dx y=d - 1):KS g dx (w++[l]) at2 (d - 1):=by
 have hlen:=h.len
 have key:∀u m x y,over g u→u.length=w.length→m∈g.ls→reach g u g.s0 x→y∈g.succ x m→dx y=d - 1→dx x=d:=by
  intro u m x y hu hul hm hx hy hdy
  have hxin:=CG hg hu hg.s0 hx
  have h1:=hd.close x hxin m hm y hy (by omega)
  have h2:=hd.Yp hg hu hg.s0 hx (by omega)
  omega
 refine⟨EF.2 ⟨h.ov,hl⟩,hne,ha,fun y=>?_,by simp;omega,by omega,fun u hu hul hlt y hy hdy=>?_⟩
 ·rw [hm,De]
  constructor
  ·rintro⟨x,hx,hy,hdy⟩
   exact⟨⟨x,((h.mem x).1 hx).1,hy⟩,hdy⟩
  ·rintro⟨⟨x,hx,hy⟩,hdy⟩
   exact⟨x,(h.mem x).2 ⟨hx,key w l x y h.ov rfl hl hx hy hdy⟩,hy,hdy⟩
 ·have hu0:u≠[]:=fun e=>by subst e;simp at hul
  obtain⟨v,m,rfl⟩:∃v m,u=v++[m]:=⟨u.dropLast,u.getLast hu0,(List.dropLast_concat_getLast hu0).symm⟩
  have hvl:v.length=w.length:=by simpa using hul
  obtain⟨hv,hmm⟩:=EF.1 hu
  obtain⟨x,hx,hxy⟩:=De.1 hy
  have hdx:=key v m x y hv hvl hmm hx hxy hdy
  rcases(Hm hvl).1 hlt with h1|⟨rfl,h1⟩
  ·exact h.min v hv hvl h1 x hx hdx
  ·exact hless m hmm h1 ⟨x,(h.mem x).2 ⟨hx,hdx⟩,y,hxy,hdy⟩
def E7(w:List Int):List UInt8:=w.map fun l=>UInt8.ofNat (97+l.toNat)
def cn(r:Option (List Int)):E:=match r with
 | some w=>.t [(false,[.d (tD (E7 w))]),(false,[.d (bD true)])]
 | none=>.t [(false,[.d (tD [])]),(false,[.d (bD false)])]
end Go.Am
namespace Go.Am
open Go Go.Proofs
set_option maxHeartbeats 1000000
set_option maxRecDepth 4000
attribute [local irreducible] AV BX Lex Bf Av Spec
variable {TB:Be}
def Fw(n:Net):Gr:={ N:=(AG (Ae n)).toNat,succ:=fun x l=>EW n (Ae n) (Bz (Ae n) x) l,goal:=fun x=>B3 n (Bz (Ae n) x) (Ek n x.toNat),ls:=Ac n.ls,s0:=Gl (Ae n) n.st 0 }
theorem DA(s:Int)(k:Nat):(Ay s k).Pairwise (· < ·):=by
 unfold Ay
 rw [List.pairwise_map]
 refine(List.pairwise_lt_range.filter _).imp fun {a b} h=>?_
 show ((a:Nat):Int) < ((b:Nat):Int)
 omega
theorem I7{n:Net}(hn:DL n)(x:Int):Fits (Ae n) (Bz (Ae n) x):=JX (fun z hz=>by have:=FW hn z hz;omega) x
theorem Qk{n:Net}(hn:DL n){x l:Int}(hl:l∈Ac n.ls){y:Int}(hy:y∈EW n (Ae n) (Bz (Ae n) x) l):0≤y∧y < AG (Ae n):=by
 have h1:=AS hl
 have h2:=Tm (IZ hn (I7 hn x) (l:=l) (by omega) (by omega)) [0] 1 (by simp) (by omega) (by simp)
 have:=h2.1 y hy
 omega
theorem VY{n:Net}(hn:DL n)(hst:Fits (Ae n) n.st):GR (Fw n):=by
 have hp:=Ll hn
 have hz:=hst.enc 0 (by omega)
 refine⟨?_,fun x _ l hl y hy=>?_,DA _ _⟩
 ·show 0≤Gl _ _ _∧Gl _ _ _ < ((AG (Ae n)).toNat:Int)
  omega
 ·show 0≤y∧y < ((AG (Ae n)).toNat:Int)
  have:=Qk hn hl hy
  omega
theorem Jl{n:Net}(hn:DL n):Lt (Cq n (Fw n).N):=by
 intro x hx r hr j hj
 have hx:x < (Fw n).N:=by simpa [Cq] using hx
 have h1:(Cq n (Fw n).N).getD x []=Ek n x:=by rw [List.getD,ID hx];rfl
 rw [h1] at hr
 obtain⟨l,hl,rfl⟩:=List.mem_map.1 hr
 have h2:=Qk hn hl hj
 have h3:(Cq n (Fw n).N).length=(AG (Ae n)).toNat:=by simp [Cq,Fw]
 rw [h3];omega
theorem ET{n:Net}{x:Int}(hx:0≤x∧x < (Fw n).N):(Cq n (Fw n).N).getD x.toNat []=(Ac n.ls).map fun l=>(Fw n).succ x l:=by
 rw [List.getD,ID (by omega)]
 have:((x.toNat:Nat):Int)=x:=by omega
 simp [Ek,this,Fw]
theorem VT{n:Net}{dist:List Int}(h:Ow (Cq n (Fw n).N) (fun i=>B3 n (Bz (Ae n) i) (Ek n i)) dist):IS (Fw n) (fun x=>dist.getD x.toNat 0):=by
 have hN:(Cq n (Fw n).N).length=(Fw n).N:=by simp [Cq]
 refine⟨fun x hx=>?_,fun x hx hp=>?_,fun x hx l hl j hj hj0=>?_⟩
 ·have h1:=h.zero x.toNat (by omega)
  have e:((x.toNat:Nat):Int)=x:=by omega
  rw [e] at h1
  exact h1
 ·obtain⟨r,hr,j,hj,hd⟩:=h.step x.toNat (by omega) hp
  rw [ET hx] at hr
  obtain⟨l,hl,rfl⟩:=List.mem_map.1 hr
  exact⟨l,hl,j,hj,hd⟩
 ·exact h.close x.toNat (by omega) _ (by rw [ET hx];exact List.mem_map.2 ⟨l,hl,rfl⟩) j hj hj0
theorem Qd{dist:List Int}{d y:Int}:∀ {l acc:List Int},y∈l.foldl (GM dist d) acc↔y∈acc∨y∈l∧dist.getD y.toNat 0=d
 | [],acc=>by simp
 | j::l,acc=>by
  rw [List.foldl_cons,Qd,SM]
  split<;>grind
theorem WB{mv:List (List (List Int))}{dist:List Int}{k:Nat}{d y:Int}{l:List Int}:y∈Ee mv dist l k d↔∃x∈l,y∈(mv.getD x.toNat []).getD k []∧dist.getD y.toNat 0=d:=by
 have key:∀(l acc:List Int),y∈l.foldl (fun acc x=>((mv.getD x.toNat []).getD k []).foldl (GM dist d) acc) acc↔y∈acc∨∃x∈l,y∈(mv.getD x.toNat []).getD k []∧dist.getD y.toNat 0=d:=by
  intro l
  induction l with
  | nil=>intro acc;simp
  | cons a l ih=>
   intro acc
   rw [List.foldl_cons,ih,Qd]
   grind
 unfold Ee
 rw [key];simp
theorem VO{n:Net}{dist l:List Int}{k:Nat}{m:Int}(hm:(Ac n.ls)[k]? = some m)(hl:∀x∈l,0≤x∧x < (Fw n).N){d y:Int} :
 y∈Ee (Cq n (Fw n).N) dist l k d↔∃x∈l,y∈(Fw n).succ x m∧dist.getD y.toNat 0=d:=by
 rw [WB]
 constructor
 ·rintro⟨x,hx,hy,hd⟩
  rw [ET (hl x hx)] at hy
  exact⟨x,hx,by simpa [List.getD,hm] using hy,hd⟩
 ·rintro⟨x,hx,hy,hd⟩
  exact⟨x,hx,by rw [ET (hl x hx)];simpa [List.getD,hm] using hy,hd⟩
theorem Ms:∀ {zs:List Int} {k:Nat} {z:Int},zs[k]? = some z→AG (zs.take (k+1))=AG (zs.take k)*z
 | [],k,z,h=>by simp at h
 | a::zs,0,z,h=>by simp at h;subst h;simp [AG]
 | a::zs,k+1,z,h=>by
  simp only [List.take_succ_cons,AG]
  rw [Ms (by simpa using h),Int.mul_assoc]
def dl(f:Nat→Int)(N i:Nat):List Int:=(List.range i).map f++List.replicate (N - i) 0
theorem VU{f:Nat→Int}{N i:Nat}(h:i≤N):(dl f N i).length=N:=by simp [dl];omega
theorem ZV{f:Nat→Int}{N i:Nat}(h:i < N):(dl f N i)[i]? = some 0:=by
 unfold dl
 rw [List.getElem?_append_right (by simp)]
 have:0 < N - i:=by omega
 simp [this]
theorem ZW{f:Nat→Int}{N i:Nat}(h:i < N):(dl f N i).set i (f i)=dl f N (i+1):=by
 unfold dl
 rw [List.set_append_right _ _ (by simp)]
 have:N - i=(N - (i+1))+1:=by omega
 rw [this,List.range_succ,List.map_append]
 simp [List.replicate_succ]
end Go.Am
