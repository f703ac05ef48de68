/-
  Nodes are numbered in the order of the words that lead to them, plainly.
-/
import Derived.Test.YtkkihplpglchjaaGreatDoorPart27
import Derived.Test.YtkkihplpglchjaaGreatDoorPart12
import Derived.Test.YtkkihplpglchjaaGreatDoorPart5
import Derived.Test.YtkkihplpglchjaaGreatDoorPart14
import Derived.Test.YtkkihplpglchjaaGreatDoorPart11
import Derived.Test.YtkkihplpglchjaaGreatDoorPart13
import Derived.Test.YtkkihplpglchjaaGreatDoorPart23
set_option linter.constructorNameAsVariable false
set_option linter.unusedSimpArgs false
set_option linter.unusedVariables false
namespace Go.Am
set_option linter.unusedVariables false
def Z9 (f:Int→Int→Int):Int→List Int→Int
  | q,[]=>q
  | q,l::w=>Z9 f (f q l) w
theorem aF (f:Int→Int→Int):∀(u w:List Int) (q:Int),Z9 f q (u++w)=Z9 f (Z9 f q u) w
  | [],_,_=>rfl
  | l::u,w,q=>aF f u w _
def Z1 (lim:Nat) (f:Int→Int→Int) (q:Int):List Int→List Int→List Int→Option (List Int×List Int)
  | nd,row,[]=>some (nd,row)
  | nd,row,l::ls=>if f q l∈nd then Z1 lim f q nd (row++[((nd.idxOf (f q l):Nat):Int)]) ls
      else if nd.length=lim then none else Z1 lim f q (nd++[f q l]) (row++[(nd.length:Int)]) ls
def Z0 (lim:Nat) (f:Int→Int→Int) (ls:List Int):Nat→List Int→List (List Int)→Option (List Int×List (List Int))
  | 0,nd,rows=>some (nd,rows)
  | k + 1,nd,rows=>match nd[rows.length]? with
    | none=>some (nd,rows)
    | some q=>match Z1 lim f q nd [] ls with
      | none=>none
      | some p=>Z0 lim f ls k p.1 (rows++[p.2])
def aA (lim:Nat) (f:Int→Int→Int) (ls:List Int) (s:Int):Option (List Int×List (List Int)):=Z0 lim f ls lim [s] []
structure Part (f:Int→Int→Int) (ls:List Int) (s:Int) (nd:List Int) (rows:List (List Int)) (lim:Nat):Prop where
  st:nd[0]? = some s
  nodup:nd.Nodup
  len:rows.length≤nd.length
  lim:nd.length≤lim
  row:∀(i:Nat) (r:List Int),rows[i]? = some r→∃q,nd[i]? = some q∧r=ls.map (fun l=>((nd.idxOf (f q l):Nat):Int))∧∀l∈ls,f q l∈nd
  rc:∀q∈nd,∃w:List Int,(∀l∈w,l∈ls)∧Z9 f s w=q
theorem aw {lim:Nat} {f:Int→Int→Int} {ls:List Int} {s q:Int} {rows:List (List Int)} {i:Nat}:∀(rs ds:List Int) {nd row:List Int} {nd' row':List Int},ls=ds++rs→Part f ls s nd rows lim→nd[i]? = some q→row=ds.map (fun l=>((nd.idxOf (f q l):Nat):Int))→(∀l∈ds,f q l∈nd)→
    Z1 lim f q nd row rs=some (nd',row')→Part f ls s nd' rows lim∧nd'[i]? = some q∧row'=ls.map (fun l=>((nd'.idxOf (f q l):Nat):Int))∧∀l∈ls,f q l∈nd'
  | [],ds,nd,row,nd',row',e,h,hi,hr,hm,hh=>by
    simp only [Z1,Option.some.injEq,Prod.mk.injEq] at hh
    obtain ⟨rfl,rfl⟩:=hh
    rw [List.append_nil] at e
    subst e
    exact ⟨h,hi,hr,hm⟩
  | l :: rs, ds,nd,row,nd',row',e,h,hi,hr,hm,hh=>by
    simp only [Z1] at hh
    split at hh
    · rename_i hin
      exact aw rs (ds++[l]) (by rw [e];simp) h hi (by rw [hr];simp) (fun m hml=>by
        rcases List.mem_append.1 hml with h1|h1
        · exact hm m h1
        · simp at h1;subst h1;exact hin) hh
    · rename_i hin
      split at hh
      · cases hh
      · rename_i hl
        have hix:∀x∈nd,(nd++[f q l]).idxOf x=nd.idxOf x:=fun x hx=>by rw [List.idxOf_append,if_pos hx]
        have hlim:=h.lim
        refine aw rs (ds++[l]) (by rw [e];simp) ⟨?_,?_,?_,by simp;omega,?_,?_⟩ ?_ ?_ ?_ hh
        · rw [List.getElem?_append_left (List.getElem?_eq_some_iff.1 h.st).1];exact h.st
        · exact List.nodup_append.2 ⟨h.nodup,by simp,fun a ha b hb=>by simp at hb;subst hb;exact fun e=>hin (e ▸ ha)⟩
        · have:=h.len;simp;omega
        · intro j r hj
          obtain ⟨p,h1,h2,h3⟩:=h.row j r hj
          refine ⟨p,by rw [List.getElem?_append_left (List.getElem?_eq_some_iff.1 h1).1];exact h1,?_,fun m hml=>List.mem_append_left _ (h3 m hml)⟩
          rw [h2]
          exact List.map_congr_left fun m hml=>by rw [hix _ (h3 m hml)]
        · intro x hx
          rcases List.mem_append.1 hx with h1|h1
          · exact h.rc x h1
          · simp at h1;subst h1
            obtain ⟨w,h1,h2⟩:=h.rc q (List.mem_of_getElem? hi)
            refine ⟨w++[l],fun m hml=>?_,by rw [aF,h2];rfl⟩
            rcases List.mem_append.1 hml with h3|h3
            · exact h1 m h3
            · simp at h3;subst h3;rw [e];simp
        · rw [List.getElem?_append_left (List.getElem?_eq_some_iff.1 hi).1];exact hi
        · rw [hr,List.map_append]
          congr 1
          · exact List.map_congr_left fun m hml=>by rw [hix _ (hm m hml)]
          · simp [List.idxOf_append,hin]
        · intro m hml
          rcases List.mem_append.1 hml with h1|h1
          · exact List.mem_append_left _ (hm m h1)
          · simp at h1;subst h1;simp
structure aM (f:Int→Int→Int) (ls:List Int) (s:Int) (nd:List Int) (rows:List (List Int)):Prop where
  st:nd[0]? = some s
  nodup:nd.Nodup
  len:rows.length=nd.length
  row:∀(i:Nat) (q:Int),nd[i]? = some q→rows[i]? = some (ls.map fun l=>((nd.idxOf (f q l):Nat):Int))
  cl:∀q∈nd,∀l∈ls,f q l∈nd
  rc:∀q∈nd,∃w:List Int,(∀l∈w,l∈ls)∧Z9 f s w=q
theorem Part.done {f:Int→Int→Int} {ls:List Int} {s:Int} {nd:List Int} {rows:List (List Int)} {lim:Nat} (h:Part f ls s nd rows lim) (hl:nd.length≤rows.length):aM f ls s nd rows:=by
  have hln:=h.len
  have key:∀(i:Nat) (q:Int),nd[i]? = some q→rows[i]? = some (ls.map fun l=>((nd.idxOf (f q l):Nat):Int))∧∀l∈ls,f q l∈nd:=fun i q hi=>by
    have hlt:=(List.getElem?_eq_some_iff.1 hi).1
    obtain ⟨r,hr⟩:∃r,rows[i]? = some r:=⟨_,List.getElem?_eq_getElem (by omega)⟩
    obtain ⟨p,h1,h2,h3⟩:=h.row i r hr
    rw [hi] at h1;injection h1 with h1;subst h1
    exact ⟨by rw [hr,h2],h3⟩
  refine ⟨h.st,h.nodup,by omega,fun i q hi=>(key i q hi).1,fun q hq=>?_,h.rc⟩
  obtain ⟨i,hi⟩:=List.mem_iff_getElem?.1 hq
  exact (key i q hi).2
theorem Z7 {lim lim':Nat} (hl:lim≤lim') {f:Int→Int→Int} {q:Int}:∀(ls:List Int) {nd row:List Int} {p:List Int×List Int},nd.length≤lim→Z1 lim f q nd row ls=some p→Z1 lim' f q nd row ls=some p
  | [],nd,row,p,_,h=>h
  | l :: ls,nd,row,p,hn,h=>by
    simp only [Z1] at h ⊢
    split at h
    · rename_i hin
      rw [if_pos hin];exact Z7 hl ls hn h
    · rename_i hin
      rw [if_neg hin]
      split at h
      · cases h
      · rename_i hne
        rw [if_neg (by omega)]
        exact Z7 hl ls (by simp;omega) h
theorem Part.push {f:Int→Int→Int} {ls:List Int} {s q:Int} {nd:List Int} {rows:List (List Int)} {lim:Nat} {p:List Int×List Int} (h:Part f ls s nd rows lim) (hq:nd[rows.length]? = some q) (hp:Z1 lim f q nd [] ls=some p):Part f ls s p.1 (rows++[p.2]) lim:=by
  obtain ⟨h1,h2,h3,h4⟩:=aw ls [] (row:=[]) (nd':=p.1) (row':=p.2) rfl h hq rfl (by simp) hp
  have hlt:=(List.getElem?_eq_some_iff.1 h2).1
  refine ⟨h1.st,h1.nodup,by simp;omega,h1.lim,fun j r hj=>?_,h1.rc⟩
  rcases Nat.lt_or_ge j rows.length with h5|h5
  · rw [List.getElem?_append_left h5] at hj;exact h1.row j r hj
  · rw [List.getElem?_append_right h5] at hj
    have h6:j - rows.length < 1:=(List.getElem?_eq_some_iff.1 hj).1
    obtain rfl:j=rows.length:=by omega
    simp at hj;subst hj
    exact ⟨q,h2,h3,h4⟩
theorem aG {lim:Nat} {f:Int→Int→Int} {ls:List Int} {s:Int}:∀(k:Nat) {nd:List Int} {rows:List (List Int)} {p:List Int×List (List Int)},lim≤k+rows.length→Part f ls s nd rows lim→Z0 lim f ls k nd rows=some p→aM f ls s p.1 p.2∧p.1.length≤lim∧∀lim' k',lim≤lim'→k≤k'→Z0 lim' f ls k' nd rows=some p
  | 0,nd,rows,p,hk,h,hh=>by
    simp only [Z0,Option.some.injEq] at hh
    subst hh
    have hlim:=h.lim
    refine ⟨h.done (by omega),h.lim,fun lim' k' hl hk'=>?_⟩
    cases k' with
    | zero=>rfl
    | succ k'=>simp only [Z0];rw [List.getElem?_eq_none (by omega)]
  | k + 1, nd,rows,p,hk,h,hh=>by
    simp only [Z0] at hh
    split at hh
    · rename_i hn
      simp only [Option.some.injEq] at hh
      subst hh
      refine ⟨h.done (by simpa using hn),h.lim,fun lim' k' hl hk'=>?_⟩
      cases k' with
      | zero=>omega
      | succ k'=>simp only [Z0];rw [hn]
    · rename_i q hq
      split at hh
      · cases hh
      · rename_i p1 hp
        obtain ⟨h1,h2,h3⟩:=aG k (by simp;omega) (h.push hq hp) hh
        refine ⟨h1,h2,fun lim' k' hl hk'=>?_⟩
        cases k' with
        | zero=>omega
        | succ k'=>
          simp only [Z0]
          rw [hq]
          simp only
          rw [Z7 hl ls h.lim hp]
          exact h3 lim' k' hl (by omega)
theorem bt {lim:Nat} {f:Int→Int→Int} {ls:List Int} {s:Int} {nd:List Int} {rows:List (List Int)} (h1:1≤lim) (h:aA lim f ls s=some (nd,rows)):aM f ls s nd rows∧nd.length≤lim∧∀lim',lim≤lim'→aA lim' f ls s=some (nd,rows):=by
  obtain ⟨a,b,c⟩:=aG lim (by simp) ⟨rfl,by simp,by simp,by simpa using h1,by simp,fun q hq=>⟨[],by simp,by simp at hq;subst hq;rfl⟩⟩ h
  exact ⟨a,b,fun lim' hl=>c lim' lim' hl hl⟩
theorem bm:∀(n:Nat) (l:List Nat),l.Nodup→(∀x∈l,x < n)→n≤l.length→∀x,x < n→x∈l:=fun n l hd hl hn x hx=>by
  refine Classical.byContradiction fun hc=>?_
  have:=Tk n (x::l) (List.nodup_cons.2 ⟨hc,hd⟩) (fun y hy=>by
    rcases List.mem_cons.1 hy with rfl|h
    · exact hx
    · exact hl y h)
  simp at this;omega
theorem aX {n:Nat} {l:List Int} (hd:l.Nodup) (hl:∀x∈l,0≤x∧x < n) (hn:n≤l.length) {x:Int} (hx:0≤x∧x < n):x∈l:=by
  have h1:(l.map Int.toNat).Nodup:=by
    unfold List.Nodup at *
    rw [List.pairwise_map]
    refine (List.Pairwise.and_mem.1 hd).imp fun {a b} h e=>?_
    have ha:=hl a h.1
    have hb:=hl b h.2.1
    exact h.2.2 (by omega)
  have h2:=bm n (l.map Int.toNat) h1 (fun y hy=>by
    obtain ⟨z,hz,rfl⟩:=List.mem_map.1 hy
    have:=hl z hz;omega) (by simpa using hn) x.toNat (by omega)
  obtain ⟨z,hz,he⟩:=List.mem_map.1 h2
  have:=hl z hz
  obtain rfl:z=x:=by omega
  exact hz
theorem Z8 {lim:Nat} {f:Int→Int→Int} {q:Int} (hn:∀nd:List Int,nd.Nodup→(∀x∈nd,0≤x∧x < lim)→nd.length=lim→∀x:Int,0≤x∧x < lim→x∈nd):∀(ls:List Int) {nd row:List Int},nd.Nodup→(∀x∈nd,0≤x∧x < (lim:Int))→(∀l∈ls,0≤f q l∧f q l < lim)→∃p,Z1 lim f q nd row ls=some p∧p.1.Nodup∧∀x∈p.1,0≤x∧x < (lim:Int)
  | [],nd,row,hd,hb,_=>⟨(nd,row),rfl,hd,hb⟩
  | l :: ls,nd,row,hd,hb,hf=>by
    simp only [Z1]
    have hfl:=hf l (by simp)
    by_cases hin:f q l∈nd
    · rw [if_pos hin];exact Z8 hn ls hd hb fun m hm=>hf m (by simp [hm])
    · rw [if_neg hin,if_neg fun e=>hin (hn nd hd hb e _ hfl)]
      exact Z8 hn ls (List.nodup_append.2 ⟨hd,by simp,fun a ha b hb=>by simp at hb;subst hb;exact fun e=>hin (e ▸ ha)⟩) (fun x hx=>by
        rcases List.mem_append.1 hx with h|h
        · exact hb x h
        · simp at h;subst h;exact hfl) fun m hm=>hf m (by simp [hm])
theorem ak {lim:Nat} {f:Int→Int→Int} {ls:List Int} (hf:∀q l:Int,0≤q∧q < lim→l∈ls→0≤f q l∧f q l < lim):∀(k:Nat) {nd:List Int} {rows:List (List Int)},nd.Nodup→(∀x∈nd,0≤x∧x < (lim:Int))→∃p,Z0 lim f ls k nd rows=some p
  | 0,nd,rows,_,_=>⟨_,rfl⟩
  | k + 1,nd,rows,hd,hb=>by
    simp only [Z0]
    split
    · exact ⟨_,rfl⟩
    · rename_i q hq
      obtain ⟨p,h1,h2,h3⟩:=Z8 (q:=q) (f:=f) (fun nd hd hb hl x hx=>aX hd hb (by omega) hx) ls (row:=[]) hd hb (fun l hl=>hf q l (hb q (List.mem_of_getElem? hq)) hl)
      rw [h1]
      exact ak hf k h2 h3
theorem aQ {lim:Nat} {f:Int→Int→Int} {ls:List Int} {s:Int} (hf:∀q l:Int,0≤q∧q < lim→l∈ls→0≤f q l∧f q l < lim) (hs:0≤s∧s < (lim:Int)):∃p,aA lim f ls s=some p:=
  ak hf lim (by simp) (fun x hx=>by simp at hx;subst hx;exact hs)
theorem Z2 {α:Type} {l:List α} {k:Nat} {x d:α} (h:l[k]? = some x):l.getD k d=x:=by rw [List.getD_eq_getElem?_getD,h];rfl
def fA (a:B6) (q l:Int):Int:=C7 a q.toNat l
def aj (a:B6) (q:Int):Bool:=a.ac.getD q.toNat false
def Z3 (a:B6):B6:=match aA a.nx.length (fA a) (Af a.al) 0 with
  | some p=>⟨a.al,p.2,p.1.map (aj a)⟩
  | none=>⟨a.al,[],[]⟩
theorem ah {a:B6} (h:Xw a) {q:Nat} (hq:q < a.nx.length) {l:Int} (h0:0≤l) (h1:l < 6):0≤C7 a q l∧C7 a q l < a.nx.length:=by
  obtain ⟨row,hr,hl,hx⟩:=h.2 q hq
  unfold C7
  split
  · rename_i hb
    have hlt:(AA a.al l.toNat).length < row.length:=by rw [hl];exact HM (by omega) hb
    obtain ⟨y,hy⟩:=get_some hlt
    have:=hx _ y hy
    simpa [List.getD,hr,hy] using this
  · omega
theorem aa {a:B6}:∀(w:List Int) (q:Int),(∀l∈w,l∈Af a.al)→Z9 (fA a) q w=CP a q (Nk w)
  | [],q,_=>rfl
  | l::w,q,h=>by
    have hl:=Bg (h l (by simp))
    have e:CP a q (Nk (l::w))=CP a (C7 a q.toNat (((lb l).toNat:Int) - 97)) (Nk w):=rfl
    rw [e,Pk hl.1 (by omega)]
    exact aa w _ fun m hm=>h m (by simp [hm])
theorem aP {s l:Int} (h:l∈Af s):(Af s)[(AA s l.toNat).length]? = some l:=by
  obtain ⟨k,hk⟩:=List.mem_iff_getElem?.1 h
  rw [GX hk];exact hk
theorem bG {a:B6} (h:Xw a) (h1:1≤a.nx.length):∃nd rows,aA a.nx.length (fA a) (Af a.al) 0=some (nd,rows)∧aM (fA a) (Af a.al) 0 nd rows∧nd.length≤a.nx.length∧(∀q∈nd,0≤q∧q < a.nx.length)∧Z3 a=⟨a.al,rows,nd.map (aj a)⟩:=by
  have hf:∀q l:Int,0≤q∧q < ((a.nx.length:Nat):Int)→l∈Af a.al→0≤fA a q l∧fA a q l < ((a.nx.length:Nat):Int):=fun q l hq hl=>by
    have hl:=Bg hl
    exact ah h (q:=q.toNat) (by omega) hl.1 (by omega)
  obtain ⟨⟨nd,rows⟩,hp⟩:=aQ (lim:=a.nx.length) (f:=fA a) (ls:=Af a.al) (s:=0) hf (by omega)
  obtain ⟨h2,h3,_⟩:=bt h1 hp
  refine ⟨nd,rows,hp,h2,h3,fun q hq=>?_,by unfold Z3;rw [hp]⟩
  obtain ⟨w,h4,rfl⟩:=h2.rc q hq
  have key:∀(w:List Int) (q:Int),(∀l∈w,l∈Af a.al)→0≤q∧q < ((a.nx.length:Nat):Int)→0≤Z9 (fA a) q w∧Z9 (fA a) q w < ((a.nx.length:Nat):Int):=fun w=>by
    induction w with
    | nil=>exact fun q _ hq=>hq
    | cons l w ih=>exact fun q hw hq=>ih _ (fun m hm=>hw m (by simp [hm])) (hf q l hq (hw l (by simp)))
  exact key w 0 h4 (by omega)
theorem bE {a:B6} {nd:List Int} {rows:List (List Int)} (h:aM (fA a) (Af a.al) 0 nd rows) {ac:List Bool} {i:Nat} {q l:Int} (hi:nd[i]? = some q) (hl:l∈Af a.al):C7 ⟨a.al,rows,ac⟩ i l=((nd.idxOf (C7 a q.toNat l):Nat):Int):=by
  have h1:=h.row i q hi
  have hb:=Bg hl
  unfold C7
  rw [if_pos hb.2.2]
  show (rows.getD i []).getD _ 0=_
  rw [List.getD_eq_getElem?_getD,List.getD_eq_getElem?_getD,h1,Option.getD_some,List.getElem?_map,aP hl,Option.map_some,Option.getD_some]
  rfl
theorem bn {nd:List Int} {x:Int} (h:x∈nd):nd[nd.idxOf x]? = some x:=by
  rw [List.getElem?_eq_getElem (List.idxOf_lt_length_iff.2 h),List.getElem_idxOf]
theorem ax {a:B6} {nd:List Int} {rows:List (List Int)} (h:aM (fA a) (Af a.al) 0 nd rows) {ac:List Bool}:∀(w:W) {i:Nat} {q:Int},AV (Bl a.al) w→nd[i]? = some q→∃j:Nat,CP ⟨a.al,rows,ac⟩ i w=j∧nd[j]? = some (CP a q w)
  | [],i,q,_,hi=>⟨i,rfl,hi⟩
  | c :: w,i,q,hw,hi=>by
    obtain ⟨l,hl,rfl⟩:=List.mem_map.1 (hw c (by simp))
    have hb:=Bg hl
    have e:=bE h (ac:=ac) hi hl
    have hm:=h.cl q (List.mem_of_getElem? hi) l hl
    obtain ⟨j,h1,h2⟩:=ax h (ac:=ac) w (fun d hd=>hw d (by simp [hd])) (bn hm)
    refine ⟨j,?_,?_⟩
    · show CP _ (C7 _ ((i:Int).toNat) (((lb l).toNat:Int) - 97)) w=_
      rw [Pk hb.1 (by omega),Int.toNat_natCast,e];exact h1
    · show nd[j]? = some (CP a (C7 a q.toNat (((lb l).toNat:Int) - 97)) w)
      rw [Pk hb.1 (by omega)];exact h2
theorem bz {a:B6} (h:Xw a) (h1:1≤a.nx.length) {w:W} (hw:AV (Bl a.al) w):LA (Z3 a) w=LA a w:=by
  obtain ⟨nd,rows,_,h2,_,_,e⟩:=bG h h1
  obtain ⟨j,h3,h4⟩:=ax h2 (ac:=nd.map (aj a)) w hw h2.st
  rw [e]
  unfold LA
  have h3:CP ⟨a.al,rows,nd.map (aj a)⟩ 0 w=(j:Int):=h3
  rw [h3]
  show (nd.map (aj a)).getD ((j:Int).toNat) false=_
  rw [Int.toNat_natCast,List.getD_eq_getElem?_getD,List.getElem?_map,h4];rfl
theorem bj (a:B6):(Z3 a).al=a.al:=by
  unfold Z3;split<;>rfl
theorem bK {a:B6} (h:Xw a) (h1:1≤a.nx.length):Xw (Z3 a)∧1≤(Z3 a).nx.length∧(Z3 a).nx.length≤a.nx.length∧(Z3 a).ac.length=(Z3 a).nx.length∧∀i,i < (Z3 a).nx.length→∃w,AV (Bl a.al) w∧CP (Z3 a) 0 w=(i:Nat):=by
  obtain ⟨nd,rows,_,h2,h3,h4,e⟩:=bG h h1
  have hl:=h2.len
  have hst:=(List.getElem?_eq_some_iff.1 h2.st).1
  have hn:=h.1
  rw [e]
  refine ⟨⟨?_,fun q hq=>?_⟩,?_,?_,?_,fun i hi=>?_⟩
  · show rows.length≤64;omega
  · have hq:q < rows.length:=hq
    obtain ⟨x,hx⟩:=get_some (l:=nd) (k:=q) (by omega)
    refine ⟨_,h2.row q x hx,by simp,fun k y hy=>?_⟩
    rw [List.getElem?_map] at hy
    cases hk:(Af a.al)[k]? with
    | none=>rw [hk] at hy;cases hy
    | some l=>
      rw [hk] at hy
      injection hy with hy
      have hy:((nd.idxOf (fA a x l):Nat):Int)=y:=hy
      have hm:=h2.cl x (List.mem_of_getElem? hx) l (List.mem_of_getElem? hk)
      have:=List.idxOf_lt_length_iff.2 hm
      show 0≤y∧y < ((rows.length:Nat):Int)
      omega
  · show 1≤rows.length;omega
  · show rows.length≤_;omega
  · show (nd.map (aj a)).length=rows.length;rw [List.length_map];omega
  · have hi:i < rows.length:=hi
    obtain ⟨x,hx⟩:=get_some (l:=nd) (k:=i) (by omega)
    obtain ⟨w,h5,h6⟩:=h2.rc x (List.mem_of_getElem? hx)
    rw [aa w 0 h5] at h6
    obtain ⟨j,h7,h8⟩:=ax h2 (ac:=nd.map (aj a)) (Nk w) (Zt h5) h2.st
    rw [h6,←hx] at h8
    refine ⟨Nk w,Zt h5,h7.trans ?_⟩
    have h9:=(List.getElem?_inj (by omega) h2.nodup).1 (h8.symm)
    omega
end Go.Am
namespace Go.Am
open Go
set_option linter.unusedVariables false
variable {P:Program} {TB:Ba} {Γ:Ctx} {d:Option Tmp} {ty:TypeId} {pos:String} {af:Array Edge} {g:Option (Nat×Bool)} {f:Env} {σ:Ab} {nx:Nat}
variable {K:E→Ab→Nat→Prop}
def Z4 (l:List (Int×Int)):List (Value×Value):=l.map fun p=>(.int .i64 p.1,.int .i64 p.2)
def ZZ (l:List (Int×Int)) (s:Int):Option Int:=(l.find? fun p=>decide (p.1=s)).map (·.2)
theorem Z6 {i64:IntKind} (s:Int):∀(l:List (Int×Int)) (es:List MapEntry) (i:Nat),es.map (fun e=>(e.key,e.val))=Z4 l→∃r,Instr.findNow (.int i64) (.int .i64 s) es i=some r∧r.map (·.2)=(ZZ l s).map (.int .i64)
  | [],es,i,h=>by
    have:es=[]:=by simpa [Z4] using h
    subst this
    exact ⟨none,rfl,rfl⟩
  | p :: l,es,i,h=>by
    cases es with
    | nil=>simp [Z4] at h
    | cons e es=>
      simp only [Z4,List.map_cons,List.cons.injEq,Prod.mk.injEq] at h
      obtain ⟨⟨hk,hv⟩,hr⟩:=h
      have hs:Instr.sameNow (.int i64) (.int .i64 s) e.key=some (decide (s=p.1)):=by
        rw [hk]
        show (if IntKind.i64=IntKind.i64 then some (s == p.1) else none)=_
        rw [if_pos rfl]
        exact congrArg some (by rw [Bool.eq_iff_iff];simp)
      unfold Instr.findNow
      rw [hs]
      by_cases h2:s=p.1
      · refine ⟨some (i,e.val),by simp [h2],?_⟩
        simp [ZZ,h2,hv]
      · obtain ⟨r,h3,h4⟩:=Z6 (i64:=i64) s l es (i+1) hr
        have h5:¬p.1=s:=fun e=>h2 e.symm
        refine ⟨r,by simp [h2,h3],?_⟩
        rw [h4]
        simp [ZZ,h5]
theorem ao {k:TypeId} {q:IntKind} (hk:P.underlying k=some (.int q)) (b:Bool) (s:Int) (w:World):(Instr.checkKey b 10000 k (.int q s)).run P w=.ok () w:=by
  rw [show 10000=9999+1 from rfl]
  unfold Instr.checkKey
  simp [run_underlying hk,go_sem]
theorem aJ {t k e:TypeId} {x y:Operand} {id:Nat} {l:List (Int×Int)} {s:Int} [hm:FM P t k e] [hk:GZ P k .i64] [hz:Lx P e (.int .i64 0)] (hx:ev f x=some (.o (.mp id))) (hy:ev f y=some (eI .i64 s)) (ho:look σ id=some (.mp (Z4 l))) :
    AR P TB Γ ⟨d,.lookup t x y true,ty,pos,af,g⟩ f σ nx (.t [(false,[.d (.v (.int .i64 ((ZZ l s).getD 0)))]),(false,[.d (.v (.bool (ZZ l s).isSome))])]):=
  Ay fun V ρ hr hi=>by
    have e1:=hr.get (by simp [Op.operands]) hx
    have e2:ρ y=.int .i64 s:=Aw.val (hr.get (by simp [Op.operands]) hy)
    generalize hv:ρ x=v at e1
    cases e1 with
    | mp hid =>
      obtain ⟨hn,ents,clock,h1,h2⟩:=hi.st.obj id _ ho
      obtain ⟨r,h3,h4⟩:=Z6 (i64:=.i64) s l ents.toList 0 h2
      have hzz:=hz.out
      simp only [Option.bind_eq_some_iff] at hzz
      obtain ⟨i,hi1,hz1⟩:=hzz
      have hzv:(zeroValue e).run P V.w=.ok (.int .i64 0) V.w:=by simp [zeroValue,typeInfo,hi1,hz1,go_sem]
      have hfk:(Instr.findKey k (.int .i64 s) ents.toList).run P V.w=.ok r V.w:=by simp [Instr.findKey,run_underlying hk.out,h3,go_sem]
      have hck:=ao hk.out ents.isEmpty s V.w
      refine ⟨.tuple #[.int .i64 ((ZZ l s).getD 0),.bool (ZZ l s).isSome],?_,⟨_,rfl,rfl,fun j x v hj hv=>?_⟩⟩
      · cases r with
        | none=>
          have h5:ZZ l s=none:=by simpa using h4.symm
          simp [execOp,hv,e2,Instr.lookup,run_underlying hm.out,MapKept.run_getObj_map h1,hck,hfk,hzv,h5,go_sem]
        | some q=>
          obtain ⟨n,h5,h6⟩:∃n,ZZ l s=some n∧q.2=.int .i64 n:=by
            cases hf:ZZ l s with
            | none=>rw [hf] at h4;simp at h4
            | some n=>rw [hf] at h4;exact ⟨n,rfl,by simpa using h4⟩
          obtain ⟨q1,q2⟩:=q
          simp only at h6
          subst h6
          simp [execOp,hv,e2,Instr.lookup,run_underlying hm.out,MapKept.run_getObj_map h1,hck,hfk,h5,go_sem]
      · match j with
        | 0=>simp at hj hv;subst hj;subst hv;exact ⟨_,rfl,.d (.v rfl)⟩
        | 1=>simp at hj hv;subst hj;subst hv;exact ⟨_,rfl,.d (.v rfl)⟩
        | j+2=>simp at hj
theorem ba {t k e:TypeId} {x y z:Operand} {id:Nat} {l:List (Int×Int)} {s:Int} {n:Int} [hm:FM P t k e] [hk:GZ P k .i64] (hx:ev f x=some (.o (.mp id))) (hy:ev f y=some (eI .i64 s)) (hz:ev f z=some (eI .i64 n)) (ho:look σ id=some (.mp (Z4 l)))
    (hn:ZZ l s=none) (hK:K (.t []) ((id,.mp (Z4 (l++[(s,n)])))::σ) nx):BZ P TB Γ ⟨d,.mapUpdate t x y z,ty,pos,af,g⟩ f σ nx K:=by
  intro V a h1 h2 h3
  have h1:=h1.FB
  unfold Oper.wp
  generalize a.eval=ρ at h1 ⊢
  have e1:=h1.get (x:=x) (by simp [Op.operands]) hx
  have e2:ρ y=.int .i64 s:=Aw.val (h1.get (by simp [Op.operands]) hy)
  have e3:ρ z=.int .i64 n:=Aw.val (h1.get (by simp [Op.operands]) hz)
  generalize hv:ρ x=v at e1
  cases e1 with
  | mp hid=>
    obtain ⟨hnl,ents,clock,h4,h5⟩:=h2.st.obj id _ ho
    obtain ⟨r,h6,h7⟩:=Z6 (i64:=.i64) s l ents.toList 0 h5
    rw [hn] at h7
    have hr:r=none:=by cases r with
      | none=>rfl
      | some q=>simp at h7
    subst hr
    have hfk:(Instr.findKey k (.int .i64 s) ents.toList).run P V.w=.ok none V.w:=by simp [Instr.findKey,run_underlying hk.out,h6,go_sem]
    have hck:=ao hk.out false s V.w
    let ob:Obj:=.map (ents.push { key:=.int .i64 s,val:=.int .i64 n,born:=clock }) (clock+1)
    let w':World:={ V.w with heap:=V.w.heap.setIfInBounds (V.ρ id) ob }
    have hset:=MapKept.run_setObj_map (P:=P) ob h4
    have hlt:=(Array.getElem?_eq_some_iff.1 h4).1
    obtain ⟨hi,he⟩:=h2.write ho hnl (w:=w') (ob':=.mp (Z4 (l++[(s,n)]))) rfl rfl rfl rfl rfl (by simp [w']) (fun b hb=>by simp [w',Array.getElem?_setIfInBounds,Ne.symm hb]) (by
      refine ⟨hnl,ents.push { key:=.int .i64 s,val:=.int .i64 n,born:=clock },clock+1,?_,?_⟩
      · show w'.heap[V.ρ id]? = some ob
        simp [w',Array.getElem?_setIfInBounds,hlt]
      · simp [Z4] at h5 ⊢
        exact h5)
    have hrun:(execOp ρ ⟨d,.mapUpdate t x y z,ty,pos,af,g⟩).run P V.w=.ok .skip w':=by
      simp [execOp,hv,e2,e3,Instr.mapUpdate,run_underlying hm.out,MapKept.run_getObj_map h4,hck,hfk,hset,ob,w',go_sem]
    rw [hrun]
    exact ⟨{ V with w:=w' },.tuple #[],.t [],_,rfl,rfl,he,hi,⟨#[],rfl,rfl,fun j x v hj=>by simp at hj⟩,by rw [←h3] at hK;exact hK⟩
theorem bC {t:TypeId} {x y z:Operand} {K:E→Ab→Nat→Prop} (h:BZ P TB Γ ⟨d,.mapUpdate t x y z,ty,pos,af,g⟩ f σ nx K):BZ P TB Γ ⟨d,.insert t x y z,ty,pos,af,g⟩ f σ nx K:=fun V a h1 h2 h3=>h V a h1 h2 h3
theorem bg {t k e:TypeId} {x y:Operand} {id:Nat} {l:List (Int×Int)} {s v:Int} [hm:FM P t k e] [hk:GZ P k .i64] [hz:Lx P e (.int .i64 0)] (hv:ZZ l s=some v) (hx:ev f x=some (.o (.mp id))) (hy:ev f y=some (eI .i64 s)) (ho:look σ id=some (.mp (Z4 l))) :
    AR P TB Γ ⟨d,.lookup t x y true,ty,pos,af,g⟩ f σ nx (.t [(false,[.d (.v (.int .i64 v))]),(false,[.d (.v (.bool true))])]):=by
  have:=aJ (P:=P) (TB:=TB) (Γ:=Γ) (d:=d) (ty:=ty) (pos:=pos) (af:=af) (g:=g) (nx:=nx) (t:=t) (k:=k) (e:=e) hx hy ho
  rw [hv] at this;exact this
theorem bf {t k e:TypeId} {x y:Operand} {id:Nat} {l:List (Int×Int)} {s:Int} [hm:FM P t k e] [hk:GZ P k .i64] [hz:Lx P e (.int .i64 0)] (hv:ZZ l s=none) (hx:ev f x=some (.o (.mp id))) (hy:ev f y=some (eI .i64 s)) (ho:look σ id=some (.mp (Z4 l))) :
    AR P TB Γ ⟨d,.lookup t x y true,ty,pos,af,g⟩ f σ nx (.t [(false,[.d (.v (.int .i64 0))]),(false,[.d (.v (.bool false))])]):=by
  have:=aJ (P:=P) (TB:=TB) (Γ:=Γ) (d:=d) (ty:=ty) (pos:=pos) (af:=af) (g:=g) (nx:=nx) (t:=t) (k:=k) (e:=e) hx hy ho
  rw [hv] at this;exact this
theorem Z5 (l:List (Int×Int)) (r:Nat→Nat):O.AO r (.mp (Z4 l))=.mp (Z4 l):=rfl
def bB {α:Type} (u:List α):List (α×Int):=u.zipIdx.map fun p=>(p.1,(p.2:Int))
theorem br {α:Type} (u:List α) (x:α):bB (u++[x])=bB u++[(x,(u.length:Int))]:=by
  unfold bB
  rw [List.zipIdx_append]
  simp
theorem az {α:Type} [DecidableEq α] (x:α):∀(u:List α) (k:Nat),(((u.zipIdx k).map fun p=>(p.1,(p.2:Int))).find? fun p=>decide (p.1=x)).map (·.2)=if x∈u then some ((k+u.idxOf x:Nat):Int) else none
  | [],k=>by simp
  | y :: u,k=>by
    rw [List.zipIdx_cons,List.map_cons,List.find?_cons]
    by_cases h:y=x
    · subst h;simp
    · have ih:=az x u (k+1)
      have h2:¬x=y:=fun e=>h e.symm
      simp only [h,decide_false]
      rw [ih,List.idxOf_cons]
      simp only [List.mem_cons,h2,false_or,beq_eq_false_iff_ne.2 h,cond_false]
      by_cases h3:x∈u
      · rw [if_pos h3,if_pos h3];congr 2;omega
      · rw [if_neg h3,if_neg h3]
theorem aN (u:List Int) (x:Int):ZZ (bB u) x=if x∈u then some ((u.idxOf x:Nat):Int) else none:=by
  have:=az x u 0
  rw [Nat.zero_add] at this
  exact this
end Go.Am
namespace Go.Am
open Go Go.Proofs
set_option maxHeartbeats 1000000
attribute [local irreducible] AR BZ Lex Bm Aj Spec
variable {TB:Ba}
def bH (o:Option (List Int×List (List Int))):E:=match o with
  | some p=>.t [(false,[.d (E0 p.1)]),(false,[.d (C1 p.2)]),(false,[.d (bD true)])]
  | none=>.t [(false,[.d (.l [])]),(false,[.d (.l [])]),(false,[.d (bD false)])]
theorem aD {lim:Nat} {f:Int→Int→Int} {ls:List Int} {s0:Int} {g:FuncId} {caps:List C} {R:Int→Prop} (h1:1≤lim∧lim≤64) (hll:ls.length≤6) (hs:R s0) (hR:∀q l,R q→l∈ls→R (f q l))
    (hg:∀q l,R q→l∈ls→Pure Tryz.prog TB g ([eI .i64 q,eI .i64 l]++caps.map .o) (eI .i64 (f q l))) (hc:C.BR caps=true) (hr:∀r,C.BE r caps=caps) :
    Pure Tryz.prog TB 126 [eI .i64 s0,AW ls,eI .i64 lim,.o (.fn g caps)] (bH (aA lim f ls s0)):=by
  unfold aA
  generalize hA0:Z0 lim f ls lim [s0] []=A
  refine eG Tryz.func126 rfl (by kernel_rfl) rfl ?_;intro Γ hΓ
  (repeat first|refine tX rfl ?_ |refine aU rfl ?_ |refine Aa ?_)
  (refine pW rfl ?_ rfl (by rfl);refine Be rfl rfl rfl rfl (by simp [eC]) (by rfl) (by rfl) (by rfl) (by rfl) ?_)
  (repeat first|refine tX rfl ?_ |refine aU rfl ?_ |refine Aa ?_)
  (refine pW rfl ?_ rfl (by rfl);refine Mc ?_)
  (repeat first|refine tA rfl ?_)
  (refine Ag rfl ?_;refine FD ?_ rfl (by rfl);refine bC (ba (l:=[]) rfl rfl rfl rfl rfl ?_))
  (repeat first|refine tM rfl ?_ |refine aU rfl ?_ |refine Aa ?_)
  (refine pW rfl ?_ rfl (by rfl);refine N9 1 90 ?_)
  (repeat first|refine tM rfl ?_ |refine aU rfl ?_ |refine Aa ?_)
  refine aB ?_
  refine aL (α:={z:List Int×List (List Int) // Z0 lim f ls (lim - z.2.length) z.1 z.2=A∧z.2.length≤z.1.length∧1≤z.1.length∧z.1.length≤lim∧∀q∈z.1,R q}) [1,2,3,12] [] rfl rfl (fun s=>[(11,.o (.arr 0 1 0 s.1.1.length)),(13,.o (.arr 2 1 0 s.1.2.length)),(14,eI .i64 s.1.2.length)]) (fun s=>[(0,.cells 3 1 (s.1.1.map AU)),(1,.mp (Z4 (bB s.1.1))),(2,.cells 90 1 (s.1.2.map fun r=>[.d (E0 r)]))]) 3 (fun s=>lim - s.1.2.length) (⟨⟨[s0],[]⟩,by simpa using hA0,by simp,by simp,by simpa using h1.1,by simpa using hs⟩) hΓ rfl (by (simp[cX,zC,hΓ,hr,eC,B4,Ae,bB])) ?_;rintro ⟨⟨nd,rows⟩,hA,hrl,hn1,hnl,hRn⟩;(try dsimp only[cA,cB])
  have hA:Z0 lim f ls (lim - rows.length) nd rows=A:=hA
  have hrl:rows.length≤nd.length:=hrl
  have hn1:1≤nd.length:=hn1
  have hnl:nd.length≤lim:=hnl
  have hRn:∀q∈nd,R q:=hRn
  by_cases hlt:rows.length < nd.length
  · obtain ⟨q,hq⟩:=get_some hlt
    obtain ⟨k,hk⟩:∃k,lim - rows.length=k+1:=⟨lim - rows.length - 1,by omega⟩
    rw [hk] at hA
    simp only [Z0,hq] at hA
    generalize hB0:Z1 lim f q nd [] ls=B at hA
    have hRq:=hRn q (List.mem_of_getElem? hq)
    (repeat first|refine tA rfl ?_ |refine s2 rfl fun _ _hb=>?_ |refine aU rfl ?_ |refine Aa ?_)
    ((refine aC rfl ?_ ?_<;>rintro ⟨⟩);all_goals try(exfalso;(simp only[oZ] at *;omega)))
    refine aK ?_
    refine aS (aB ?_)
    (repeat first|refine aU rfl ?_)
    (refine pW rfl ?_ rfl (by rfl);refine N9 1 3 ?_)
    (repeat first|refine sN rfl ?_ |refine tM rfl ?_ |refine aU rfl ?_ |refine Aa ?_)
    refine aB ?_
    refine aL (α:={z:(List Int×List Int)×Nat // z.2≤ls.length∧Z1 lim f q z.1.1 z.1.2 (ls.drop z.2)=B∧z.1.2.length=z.2∧nd.length≤z.1.1.length∧z.1.1.length≤lim∧(∀q∈z.1.1,R q)∧z.1.1[rows.length]? = some q}) [1,2,3,12,13,14,32,33] [2] rfl rfl (fun s=>[(11,.o (.arr 0 1 0 s.1.1.1.length)),(15,.o (.arr 3 1 0 s.1.2)),(34,eI .i64 s.1.2)]) (fun s=>[(0,.cells 3 1 (s.1.1.1.map AU)),(1,.mp (Z4 (bB s.1.1.1))),(3,.cells 3 1 (s.1.1.2.map AU))]) 4 (fun s=>ls.length - s.1.2) (⟨⟨⟨nd,[]⟩,0⟩,by simp,hB0,rfl,Nat.le_refl _,hnl,hRn,hq⟩) hΓ rfl (by (simp[cX,zC,hΓ,hr,eC,B4,Ae,Z5])) ?_;rintro ⟨⟨⟨nd1,row⟩,j⟩,hj,hB,hrw,hnn,hn2,hR1,hq1⟩;(try dsimp only[cA,cB])
    have hj:j≤ls.length:=hj
    have hB:Z1 lim f q nd1 row (ls.drop j)=B:=hB
    have hrw:row.length=j:=hrw
    have hnn:nd.length≤nd1.length:=hnn
    have hn2:nd1.length≤lim:=hn2
    have hR1:∀q∈nd1,R q:=hR1
    have hq1:nd1[rows.length]? = some q:=hq1
    by_cases hjl:j < ls.length
    · obtain ⟨l,hl⟩:=get_some hjl
      have hl':=get_map (g:=CC) hl
      have hlm:=List.mem_of_getElem? hl
      have hf:=hg q l hRq hlm
      have hRf:=hR q l hRq hlm
      have hq':(nd1.map AU)[0+((rows.length:Nat):Int).toNat]? = some (AU q):=by rw [Nat.zero_add,Int.toNat_natCast];simp [hq1]
      rw [CB hl] at hB
      simp only [Z1] at hB
      have hfd:=aN nd1 (f q l)
      generalize f q l=y at *
      (repeat first|refine s2 rfl fun _ _hb=>?_ |refine aU rfl ?_ |refine Aa ?_)
      ((refine aC rfl ?_ ?_<;>rintro ⟨⟩);all_goals try(exfalso;(simp only[oZ] at *;omega)))
      refine aK ?_
      refine aS (aB ?_)
      (repeat first|((first|refine sA rfl ?_ ?_|refine s4 rfl ‹_› rfl ?_ ?_);first|exact tI|omega)|(refine Ag rfl ?_;refine gA rfl ?_;first| refine gS (fun _ _=>Bb rfl rfl (by simp [E.Bc,C.Bc,C.BR,hc]) hf rfl) ?_) |refine aU rfl ?_ |refine Aa ?_)
      by_cases hin:y∈nd1
      · rw [if_pos hin] at hB hfd
        (repeat first|refine tA rfl ?_ |refine s2 rfl fun _ _hb=>?_|(refine Ag rfl ?_;refine gA rfl ?_;first| refine gQ (bg hfd rfl rfl rfl) rfl ?_) |refine aU rfl ?_ |refine Aa ?_)
        ((refine aC rfl ?_ ?_<;>rintro ⟨⟩);all_goals try (simp at _hb;done))
        refine aK ?_
        (repeat first|refine tA rfl ?_ |refine aU rfl ?_)
        (refine pW rfl ?_ rfl (by rfl);refine Ax rfl rfl rfl (by first| (simp;done)|(simp;(omega))) rfl (by intro r hr;simp at hr;subst hr;rfl) (by rfl) (Nat.le_of_ble_eq_true rfl) (by simp;omega) ?_)
        (repeat first|(refine sA rfl ?_ ?_;first|exact tI|omega) |refine aU rfl ?_ |refine Aa ?_)
        refine ⟨⟨⟨⟨nd1,row++[((nd1.idxOf y:Nat):Int)]⟩,j+1⟩,by dsimp only;omega,hB,by simp [hrw],hnn,hn2,hR1,hq1⟩,by dsimp only;(omega),[0,1,2,4],?_⟩
        simp[cX,zC,hΓ,hr,Z5]
      · rw [if_neg hin] at hB hfd
        (repeat first|refine tA rfl ?_ |refine s2 rfl fun _ _hb=>?_|(refine Ag rfl ?_;refine gA rfl ?_;first| refine gQ (bf hfd rfl rfl rfl) rfl ?_) |refine aU rfl ?_ |refine Aa ?_)
        ((refine aC rfl ?_ ?_<;>rintro ⟨⟩);all_goals try (simp at _hb;done))
        by_cases hfu:nd1.length=lim
        · rw [if_pos hfu] at hB
          subst hB
          (repeat first|refine tA rfl ?_ |refine s2 rfl fun _ _hb=>?_ |refine aU rfl ?_ |refine Aa ?_)
          ((refine aC rfl ?_ ?_<;>rintro ⟨⟩);all_goals try(exfalso;(simp only[oZ] at *;omega)))
          (repeat first|refine tA rfl ?_ |refine aU rfl ?_ |refine Aa ?_)
          have hA:none=A:=hA
          subst hA
          exact aR ⟨_,rfl,rfl⟩
        · rw [if_neg hfu] at hB
          (repeat first|refine tA rfl ?_ |refine s2 rfl fun _ _hb=>?_ |refine aU rfl ?_ |refine Aa ?_)
          ((refine aC rfl ?_ ?_<;>rintro ⟨⟩);all_goals try(exfalso;(simp only[oZ] at *;omega)))
          refine aK ?_
          (repeat first|refine tA rfl ?_ |refine aU rfl ?_ |refine Aa ?_)
          (refine Ag rfl ?_;refine FD ?_ rfl (by rfl);refine ba rfl rfl rfl rfl hfd ?_)
          rw [←br]
          (repeat first|refine tA rfl ?_ |refine aU rfl ?_ |refine Aa ?_)
          (refine pW rfl ?_ rfl (by rfl);refine Ax rfl rfl rfl (by first| (simp;done)|(simp;(omega))) rfl (by intro r hr;simp at hr;subst hr;rfl) (by rfl) (Nat.le_of_ble_eq_true rfl) (by simp;omega) ?_)
          (repeat first|refine tA rfl ?_ |refine aU rfl ?_ |refine Aa ?_)
          (refine pW rfl ?_ rfl (by rfl);refine Ax rfl rfl rfl (by first| (simp;done)|(simp;(omega))) rfl (by intro r hr;simp at hr;subst hr;rfl) (by rfl) (Nat.le_of_ble_eq_true rfl) (by simp;omega) ?_)
          (repeat first|(refine sA rfl ?_ ?_;first|exact tI|omega) |refine aU rfl ?_ |refine Aa ?_)
          refine ⟨⟨⟨⟨nd1++[y],row++[(nd1.length:Int)]⟩,j+1⟩,by dsimp only;omega,hB,by simp [hrw],by simp;omega,by simp;omega,fun z hz=>by rcases List.mem_append.1 hz with h|h;exact hR1 z h;simp at h;subst h;exact hRf,by rw [List.getElem?_append_left (by omega)];exact hq1⟩,by dsimp only;(omega),[4,1,2,5],?_⟩
          simp[cX,zC,hΓ,hr,Z5]
    · obtain rfl:j=ls.length:=by omega
      rw [List.drop_length] at hB
      simp only [Z1] at hB
      subst hB
      simp only at hA
      (repeat first|refine s2 rfl fun _ _hb=>?_ |refine aU rfl ?_ |refine Aa ?_)
      ((refine aC rfl ?_ ?_<;>rintro ⟨⟩);all_goals try(exfalso;(simp only[oZ] at *;omega)))
      refine aE ?_
      refine Aj.MC [3] [1,2,3,11,12,13,14] rfl [(15,AW row)] ⟨⟨_,rfl,.o (.full (by simp) rfl (by simp [Function.comp_def]) (by simpa using hrw))⟩,trivial⟩ ?_;(try dsimp only[cA,cB])
      (repeat first|refine tA rfl ?_ |refine aU rfl ?_)
      (refine pW rfl ?_ rfl (by rfl);refine Ax rfl rfl rfl (by first| (simp;done)|(simp;(omega))) rfl (by intro r hr;simp at hr;subst hr;rfl) (by rfl) (Nat.le_of_ble_eq_true rfl) (by simp;omega) ?_)
      (repeat first|(refine sA rfl ?_ ?_;first|exact tI|omega) |refine aU rfl ?_ |refine Aa ?_)
      refine ⟨⟨⟨nd1,rows++[row]⟩,by show Z0 lim f ls (lim - (rows++[row]).length) nd1 _=A;rw [List.length_append,List.length_singleton,show lim - (rows.length+1)=k by omega];exact hA,by simp;omega,by dsimp only;omega,hn2,hR1⟩,by dsimp only;((simp only[oZ] at *;omega)),[0,1,4],?_⟩
      simp[cX,zC,hΓ,hr,Z5]
  · have hA2:A=some (nd,rows):=by
      rw [←hA]
      cases lim - rows.length with
      | zero=>rfl
      | succ k=>simp only [Z0];rw [List.getElem?_eq_none (by omega)]
    subst hA2
    (repeat first|refine tA rfl ?_ |refine s2 rfl fun _ _hb=>?_ |refine aU rfl ?_ |refine Aa ?_)
    ((refine aC rfl ?_ ?_<;>rintro ⟨⟩);all_goals try(exfalso;(simp only[oZ] at *;omega)))
    refine aE ?_
    refine Aj.settle [(11,AW nd),(13,Kd rows)] ⟨⟨_,rfl,.o (.full rfl (by simp [Function.comp_def]) (by simp))⟩,⟨_,rfl,.o (.full rfl (by simp [Function.comp_def]) (by simp))⟩,trivial⟩ ?_
    (repeat first|refine tA rfl ?_ |refine aU rfl ?_ |refine Aa ?_)
    (subst_vars;exact aR ⟨_,rfl,rfl⟩)
end Go.Am
namespace Go.Am
set_option linter.unusedVariables false
set_option linter.unusedSectionVars false
section
variable {α β:Type} [DecidableEq α] [DecidableEq β]
end
def bJ (a:B6) (q r:Int):Prop:=∀w,AV (Bl a.al) w→aj a (CP a q w)=aj a (CP a r w)
theorem bF {a:B6} (h:Xw a) {q:Nat} (hq:q < a.nx.length):a.nx[q]? = some ((Af a.al).map (C7 a q)):=by
  obtain ⟨row,h1,h2,_⟩:=h.2 q hq
  rw [h1]
  congr 1
  apply List.ext_getElem?
  intro i
  rw [List.getElem?_map]
  cases hl:(Af a.al)[i]? with
  | none=>
    have:=List.getElem?_eq_none_iff.1 hl
    rw [List.getElem?_eq_none (by omega)];rfl
  | some l=>
    have hb:=Bg (List.mem_of_getElem? hl)
    have hlt:=(List.getElem?_eq_some_iff.1 hl).1
    obtain ⟨y,hy⟩:=get_some (l:=row) (k:=i) (by omega)
    rw [hy,Option.map_some]
    congr 1
    unfold C7
    rw [if_pos hb.2.2,GX hl,List.getD_eq_getElem?_getD,List.getD_eq_getElem?_getD,h1,Option.getD_some,hy];rfl
structure bP (a:B6) (ks:List (List Int)):Prop where
  len:ks.length=a.nx.length
  ac:∀q r:Nat,q < a.nx.length→r < a.nx.length→ks[q]? = ks[r]?→aj a q=aj a r
  go:∀q r:Nat,q < a.nx.length→r < a.nx.length→ks[q]? = ks[r]?→∀l∈Af a.al,ks[(C7 a q l).toNat]? = ks[(C7 a r l).toNat]?
  res:∀q r:Nat,q < a.nx.length→r < a.nx.length→bJ a q r→ks[q]? = ks[r]?
structure aV (a:B6):Prop where
  b:Xw a
  n1:1≤a.nx.length
  ac:a.ac.length=a.nx.length
theorem aI {a:B6} (h:A6 a=true):aV a:=by
  have:=AT h
  exact ⟨UF h,this.2.1,this.2.2.2⟩
theorem bx (a:B6) (w:W):LA a w=aj a (CP a 0 w):=rfl
section
variable {a:B6} (h:aV a)
include h
end
structure bI (a m:B6):Prop where
  al:m.al=a.al
  g:aV m
  n2:m.nx.length≤a.nx.length
  lang:∀w,AV (Bl a.al) w→LA m w=LA a w
  rc:∀i:Nat,i < m.nx.length→∃w,AV (Bl a.al) w∧CP m 0 w=i
  ds:∀i j:Nat,i < m.nx.length→j < m.nx.length→bJ m i j→i=j
end Go.Am
namespace Go.Am
open Go Go.Proofs
set_option maxHeartbeats 1000000
attribute [local irreducible] AR BZ Lex Bm Aj Spec
variable {TB:Ba}
theorem bk {a:B6} {q l:Int} (hq:0≤q∧q < a.nx.length) (hl:l∈Af a.al):Pure Tryz.prog TB 127 [eI .i64 q,eI .i64 l,.o (.ip [.l (Lu a)])] (eI .i64 (fA a q l)):=by
  have hl:=Bg hl
  have ta:=Ni (a:=a) (q:=q.toNat) (by omega)
  have el:((l.toNat:Nat):Int)=l:=by omega
  have ra:=KQ (h:=fun l=>C7 a q.toNat l) hl.1 (by omega)
  simp only [el] at ra
  refine eN Tryz.func127 rfl (by kernel_rfl) rfl ?_;intro Γ hΓ
  (repeat first|(refine sA rfl ?_ ?_;first|exact tI|omega) |(refine s4 rfl ‹_› rfl ?_ ?_;omega)|(refine Ag rfl ?_;refine gA rfl ?_;first| refine gS (fun _ _=>E9 rfl ra) ?_) |refine aU rfl ?_ |refine Aa ?_)
  refine aR ⟨_,rfl,rfl⟩
theorem bu {a:B6} (h:aV a):Pure Tryz.prog TB 95 [BC a] (BC (Z3 a)):=by
  have hn:=h.b.1
  have hn1:=h.n1
  have hac:=h.ac
  have hta:=OD (TB:=TB) a h.b
  have hlo:=De (TB:=TB) a.al
  obtain ⟨nd,rows,e1,e2,e3,e4,e5⟩:=bG h.b h.n1
  have hnu:Pure Tryz.prog TB 126 [eI .i64 0,AW (Af a.al),eI .i64 a.nx.length,.o (.fn 127 [.ip [.l (Lu a)]])] (bH (aA a.nx.length (fA a) (Af a.al) 0)):=by
    refine aD (lim:=a.nx.length) (R:=fun q=>0≤q∧q < ((a.nx.length:Nat):Int)) ⟨hn1,hn⟩ (AI _ 6) (by omega) (fun q l hq hl=>?_) (fun q l hq hl=>bk hq hl) rfl (fun r=>rfl)
    have hl:=Bg hl
    exact ah h.b (q:=q.toNat) (by omega) hl.1 (by omega)
  rw [e1] at hnu
  rw [e5]
  have hnl:=e2.len
  refine eG Tryz.func95 rfl (by kernel_rfl) rfl ?_;intro Γ hΓ
  (repeat first|refine tA rfl ?_ |refine sP rfl (hta) rfl ?_ |refine aU rfl ?_ |refine Aa ?_)
  refine Aj.Az [1] [(1,.o (.ip (BF a))),(2,.o (.ptr 0 3 0 0)),(3,.o (.ip [.l (Lu a)]))] ⟨⟨_,rfl,.inl rfl⟩,⟨_,rfl,.inl rfl⟩,⟨_,rfl,.inr (.o (.box rfl (ON.refl [.l (Lu a)])))⟩,trivial⟩ ?_
  have hlr:(List.range a.nx.length).length=a.nx.length:=List.length_range
  rw [←hlr] at hnu
  refine rG (Hf []) (by kernel_rfl) ?_
  (repeat first|refine sN rfl ?_ |refine tA rfl ?_ |refine sP rfl (hlo) rfl ?_|refine sP rfl (hnu) rfl ?_ |refine aU rfl ?_ |refine Aa ?_)
  (refine pW rfl ?_ rfl (by rfl);refine N8 2 1 4 rfl rfl rfl (by rfl) (by rfl) ?_)
  (repeat first|refine sN rfl ?_ |refine tA rfl ?_ |refine aU rfl ?_ |refine Aa ?_)
  refine aB ?_
  refine aL (α:={k:Nat // k≤nd.length}) [1,2,7,27,28] [0] rfl rfl (fun ⟨k,hk⟩=>[(29,eI .i64 k)]) (fun ⟨k,hk⟩=>[(3,.cells 26 3 [[.d (iD a.al),.d (C1 rows),.arr 2 1 0 k]]),(2,.cells 4 1 (((nd.take k).map (aj a)).map AH))]) 4 (fun ⟨k,hk⟩=>nd.length - k) (⟨0,by omega⟩) hΓ rfl (by (simp[cX,zC,hΓ,eC,B4,Ae])) ?_;rintro ⟨k,hk⟩;(try dsimp only[cA,cB])
  by_cases hlt:k < nd.length
  · obtain ⟨q,hq⟩:=get_some hlt
    have hq':=get_map (g:=CC) hq
    have hqi:=e4 q (List.mem_of_getElem? hq)
    obtain ⟨bb,hb⟩:=get_some (l:=a.ac) (k:=q.toNat) (by omega)
    have hb':=get_map (g:=HB) hb
    have hba:aj a q=bb:=Z2 hb
    have ht:nd.take (k+1)=nd.take k++[q]:=by rw [List.take_add_one,hq];rfl
    rw [Int.toNat_natCast] at hb'
    (repeat first|refine s2 rfl fun _ _hb=>?_ |refine aU rfl ?_ |refine Aa ?_)
    ((refine aC rfl ?_ ?_<;>rintro ⟨⟩);all_goals try(exfalso;(simp only[oZ] at *;omega)))
    refine aK ?_
    refine aS (aB ?_)
    (repeat first|refine tA rfl ?_ |(refine s4 rfl ‹_› rfl ?_ ?_;omega) |refine aU rfl ?_ |refine Aa ?_)
    refine rG (Hf [8,10]) (by kernel_rfl) ?_
    (repeat first|refine tA rfl ?_ |(refine s4 rfl ‹_› rfl ?_ ?_;omega))
    (refine pW rfl ?_ rfl (by rfl);refine Ax rfl rfl rfl (by first| (simp;done)|(simp;(omega))) rfl (by intro r hr;simp at hr;subst hr;rfl) (by rfl) (Nat.le_of_ble_eq_true rfl) (by simp;omega) ?_)
    (repeat first|(refine sA rfl ?_ ?_;first|exact tI|omega) |refine aU rfl ?_ |refine Aa ?_)
    refine ⟨⟨k+1,by omega⟩,by dsimp only;(omega),[0,1,4,3],?_⟩
    simp[cX,zC,hΓ,eC,B4,Ae,ht,hba]
  · obtain rfl:k=nd.length:=by omega
    rw [List.take_length]
    (repeat first|refine s2 rfl fun _ _hb=>?_ |refine aU rfl ?_ |refine Aa ?_)
    ((refine aC rfl ?_ ?_<;>rintro ⟨⟩);all_goals try(exfalso;(simp only[oZ] at *;omega)))
    refine aE ?_
    refine Aj.Az [2,3] [(2,.o (.ptr 0 3 0 0)),(7,.o (.ip [iD a.al,C1 rows,Ew (nd.map (aj a))]))] ⟨⟨_,rfl,.inl rfl⟩,⟨_,rfl,.inr (.o (.box rfl (.cons .d (.cons .d (.cons (.full rfl (by simp [Function.comp_def]) (by simp)) .nil)))))⟩,trivial⟩ ?_
    (repeat first|refine tA rfl ?_ |refine aU rfl ?_ |refine Aa ?_)
    (subst_vars;exact aR ⟨_,rfl,rfl⟩)
def aO (a:B6) (s:Int):Gr:=⟨a.nx.length,fun x l=>[fA a x l],aj a,Af a.al,s⟩
theorem bA {a:B6} (ha:Xw a) {s:Int} (hs:0≤s∧s < ((a.nx.length:Nat):Int)):OO (aO a s):=by
  refine ⟨hs,fun x hx l hl y hy=>?_,Kt _ _⟩
  have hl:=Bg (show l∈AA a.al 6 from hl)
  have hx:0≤x∧x < ((a.nx.length:Nat):Int):=hx
  have hy:y=fA a x l:=by simpa [aO] using hy
  subst hy
  exact ah ha (by omega) hl.1 (by omega)
theorem aq {a:B6} {s:Int}:∀ {w:List Int} {i x:Int},reach (aO a s) w i x↔x=Z9 (fA a) i w
  | [],i,x=>⟨fun h=>h.symm,fun h=>h.symm⟩
  | l::w,i,x=>by
    have ih:=aq (a:=a) (s:=s) (w:=w) (i:=fA a i l) (x:=x)
    show _↔x=Z9 (fA a) (fA a i l) w
    rw [←ih]
    simp only [reach,aO,List.mem_singleton,exists_eq_left]
theorem bp {a:B6} (ha:Xw a) {s:Int}:VZ Tryz.prog TB 3 (aO a s) 128 [.ip [.l (Lu a)]]:=by
  intro node l outs hn hl hol
  have hl:=Bg (show l∈AA a.al 6 from hl)
  have hn:0≤node∧node < ((a.nx.length:Nat):Int):=hn
  have hb:=ha.1
  have ta:=Ni (a:=a) (q:=node.toNat) (by omega)
  have el:((l.toNat:Nat):Int)=l:=by omega
  have ra:=KQ (h:=fun l=>C7 a node.toNat l) hl.1 (by omega)
  simp only [el] at ra
  have hs:(aO a s).succ node l=[C7 a node.toNat l]:=rfl
  rw [hs]
  refine eN Tryz.func128 rfl (by kernel_rfl) rfl ?_;intro Γ hΓ
  (repeat first|(refine sA rfl ?_ ?_;first|exact tI|omega) |(refine s4 rfl ‹_› rfl ?_ ?_;omega)|(refine Ag rfl ?_;refine gA rfl ?_;first| refine gS (fun _ _=>E9 rfl ra) ?_) |refine aU rfl ?_ |refine Aa ?_)
  (refine pW rfl ?_ rfl (by rfl);refine Ax rfl rfl rfl (by first| (simp;done)|(simp;(omega))) rfl (by intro r hr;simp at hr;subst hr;rfl) (by rfl) (Nat.le_of_ble_eq_true rfl) (by simp;omega) ?_)
  (repeat first|refine tA rfl ?_ |refine Aa ?_)
  refine aR ⟨_,rfl,by simp,rfl,by simp [kill]⟩
theorem bq {a:B6} (hc:a.ac.length=a.nx.length) {n:Int} (hn:0≤n∧n < ((a.nx.length:Nat):Int)):Pure Tryz.prog TB 129 [eI .i64 n,.o (.ip (BF a))] (eB (aj a n)):=by
  obtain ⟨bb,hb⟩:=get_some (l:=a.ac) (k:=n.toNat) (by omega)
  have hb':=get_map (g:=HB) hb
  have hba:aj a n=bb:=Z2 hb
  rw [Int.toNat_natCast] at hb'
  rw [hba]
  refine eN Tryz.func129 rfl (by kernel_rfl) rfl ?_;intro Γ hΓ
  (repeat first|refine tA rfl ?_ |(refine s4 rfl ‹_› rfl ?_ ?_;omega) |refine aU rfl ?_ |refine Aa ?_)
  refine aR ⟨_,rfl,rfl⟩
theorem aZ {a:B6} (h:aV a) {s:Int} (hs:0≤s∧s < ((a.nx.length:Nat):Int)):Pure Tryz.prog TB 96 [BC a,eI .i64 s] (eB (XG (aO a s)).isSome):=by
  have hn:=h.b.1
  have hta:=OD (TB:=TB) a h.b
  have hlo:=De (TB:=TB) a.al
  have hfp:Pure Tryz.prog TB 123 [eI .i64 a.nx.length,AW [s],AW (Af a.al),.o (.fn 128 [.ip [.l (Lu a)]]),.o (.fn 129 [.ip (BF a)])] (Y7 (XG (aO a s))):=
    UI (bA h.b hs) (show a.nx.length≤1048576 by omega) (fun x hx=>by have:=Bg hx;omega) (AI _ 6) (fun node l hn hl=>by show 1≤a.nx.length;have:=h.n1;omega) (bp h.b) (fun n hn=>bq h.ac hn) rfl (fun r=>rfl) (fun r=>rfl) (XH _)
  generalize XG (aO a s)=o at *
  refine eG Tryz.func96 rfl (by kernel_rfl) rfl ?_;intro Γ hΓ
  (repeat first|refine tA rfl ?_ |refine sP rfl (hta) rfl ?_ |refine aU rfl ?_ |refine Aa ?_)
  have hlr:(List.range a.nx.length).length=a.nx.length:=List.length_range
  rw [←hlr] at hfp
  refine Aj.Az [0] [(1,eI .i64 s),(2,.o (.ip (BF a))),(5,.o (.ip [.l (Lu a)]))] ⟨⟨_,rfl,.inl rfl⟩,⟨_,rfl,.inl rfl⟩,⟨_,rfl,.inr (.o (.box rfl (ON.refl [.l (Lu a)])))⟩,trivial⟩ ?_
  refine rG (Hf []) (by kernel_rfl) ?_
  (repeat first|refine sN rfl ?_ |refine tA rfl ?_ |refine sP rfl (hlo) rfl ?_|refine sP rfl (hfp) rfl ?_ |refine aU rfl ?_ |refine Aa ?_)
  refine aR ⟨_,rfl,rfl⟩
theorem aT {a:B6} (ha:A6 a=true) (hcl:∀u v,AV (Bl a.al) u→AV (Bl a.al) v→LA a u=false→LA a (u++v)=false) {i:Nat} (hi:i < (Z3 a).nx.length) (hb:aj (Z3 a) i=false) {l:Int} (hl:l∈Af a.al):XG (aO (Z3 a) (C7 (Z3 a) i l))=none:=by
  have hg:=aI ha
  obtain ⟨t1,t2,t3,t4,t5⟩:=bK hg.b hg.n1
  have hlb:=Bg hl
  have hia:=XH (aO (Z3 a) (C7 (Z3 a) i l))
  cases hr:XG (aO (Z3 a) (C7 (Z3 a) i l)) with
  | none=>rfl
  | some w=>
    exfalso
    rw [hr] at hia
    obtain ⟨h1,⟨x,hx,hgx⟩,_⟩:=hia
    have hx:x=Z9 (fA (Z3 a)) (C7 (Z3 a) i l) w:=aq.1 hx
    have hw:∀m∈w,m∈Af a.al:=fun m hm=>by have:=h1 m hm;rw [show (aO (Z3 a) (C7 (Z3 a) i l)).ls=Af (Z3 a).al from rfl,bj] at this;exact this
    obtain ⟨u,hu,hui⟩:=t5 i hi
    have hlw:AV (Bl a.al) (lb l::Nk w):=fun c hc=>by
      rcases List.mem_cons.1 hc with rfl|hc
      · exact List.mem_map.2 ⟨l,hl,rfl⟩
      · exact Zt hw c hc
    have e1:LA a u=false:=by rw [←bz hg.b hg.n1 hu,bx,hui];exact hb
    have e2:=hcl u (lb l::Nk w) hu hlw e1
    rw [←bz hg.b hg.n1 (fun c hc=>by rcases List.mem_append.1 hc with h|h;exact hu c h;exact hlw c h),bx,Ot,hui] at e2
    have e3:CP (Z3 a) (i:Nat) (lb l::Nk w)=Z9 (fA (Z3 a)) (C7 (Z3 a) i l) w:=by
      rw [aa w _ (fun m hm=>by rw [bj];exact hw m hm)]
      show CP _ (C7 _ ((i:Int).toNat) (((lb l).toNat:Int) - 97)) (Nk w)=_
      rw [Pk hlb.1 (by omega),Int.toNat_natCast]
    rw [e3,←hx] at e2
    have hgx:aj (Z3 a) x=true:=hgx
    rw [hgx] at e2
    cases e2
theorem ae {a:B6} (ha:A6 a=true) (hcl:∀u v,AV (Bl a.al) u→AV (Bl a.al) v→LA a u=false→LA a (u++v)=false):Pure Tryz.prog TB 46 [BC a] (eB true):=by
  have hg:=aI ha
  obtain ⟨t1,t2,t3,t4,t5⟩:=bK hg.b hg.n1
  have e1:=BP (TB:=TB) a
  rw [ha] at e1
  have e2:=bu (TB:=TB) hg
  have hp:=fun i hi hb l hl=>aT ha hcl (i:=i) hi hb (l:=l) hl
  have hll:(Af a.al).length≤6:=AI _ 6
  have hma:=bj a
  have hle:=fun s hs=>aZ (TB:=TB) (a:=Z3 a) ⟨t1,t2,t4⟩ (s:=s) hs
  generalize Z3 a=m at *
  have hm:=t1.1
  refine eG Tryz.func46 rfl (by kernel_rfl) rfl ?_;intro Γ hΓ
  (repeat first|refine tA rfl ?_ |refine s2 rfl fun _ _hb=>?_ |refine sP rfl (e1) rfl ?_|refine sP rfl (e2) rfl ?_ |refine aU rfl ?_ |refine Aa ?_)
  ((refine aC rfl ?_ ?_<;>rintro ⟨⟩);all_goals try (simp at _hb;done))
  refine aK ?_
  (repeat first|refine sN rfl ?_ |refine tA rfl ?_ |refine sP rfl (e2) rfl ?_ |refine aU rfl ?_ |refine Aa ?_)
  refine Aj.Az [0] [(3,.o (.ip (BF m))),(14,Kd m.nx),(15,eI .i64 m.nx.length),(16,eI .i64 0)] ⟨⟨_,rfl,.inr (.o (.box rfl (ON.refl (BF m))))⟩,⟨_,rfl,.inl rfl⟩,⟨_,rfl,.inl rfl⟩,⟨_,rfl,.inl rfl⟩,trivial⟩ ?_
  refine aB ?_
  refine aL (α:={i:Nat // i≤m.nx.length}) [3,14,15] [] rfl rfl (fun ⟨i,hi⟩=>[(16,eI .i64 i)]) (fun ⟨i,hi⟩=>[]) 0 (fun ⟨i,hi⟩=>m.nx.length - i) (⟨0,by omega⟩) hΓ rfl (by (simp[cX,zC,hΓ])) ?_;rintro ⟨i,hi⟩;(try dsimp only[cA,cB])
  by_cases hlt:i < m.nx.length
  · have hrow:=bF t1 hlt
    have hlm:((Af m.al).map (C7 m i)).length≤6:=by rw [List.length_map];exact AI _ 6
    have hrow':=get_map (g:=FY) hrow
    obtain ⟨bb,hb⟩:=get_some (l:=m.ac) (k:=i) (by omega)
    have hb':=get_map (g:=HB) hb
    have hba:aj m i=bb:=Z2 (by rw [Int.toNat_natCast];exact hb)
    (repeat first|refine s2 rfl fun _ _hb=>?_ |refine aU rfl ?_ |refine Aa ?_)
    ((refine aC rfl ?_ ?_<;>rintro ⟨⟩);all_goals try(exfalso;(simp only[oZ] at *;omega)))
    refine aK ?_
    refine aS (aB ?_)
    (repeat first|refine sN rfl ?_ |refine tA rfl ?_ |(refine s4 rfl ‹_› rfl ?_ ?_;omega) |refine aU rfl ?_ |refine Aa ?_)
    refine aB ?_
    refine aL (α:={j:Nat // j≤((Af m.al).map (C7 m i)).length}) [3,4,14,15,16,21,22] [] rfl rfl (fun ⟨j,hj⟩=>[(23,eI .i64 j)]) (fun ⟨j,hj⟩=>[]) 0 (fun ⟨j,hj⟩=>((Af m.al).map (C7 m i)).length - j) (⟨0,by omega⟩) hΓ rfl (by (simp[cX,zC,hΓ])) ?_;rintro ⟨j,hj⟩;(try dsimp only[cA,cB])
    by_cases hjl:j < ((Af m.al).map (C7 m i)).length
    · obtain ⟨to,hto⟩:=get_some hjl
      have hto':=get_map (g:=CC) hto
      obtain ⟨l,hl,hgo⟩:=List.mem_map.1 (List.mem_of_getElem? hto)
      rw [hma] at hl
      have hlb:=Bg hl
      have hin:=ah t1 hlt hlb.1 (by omega)
      rw [hgo] at hin
      have h5:=hle to hin
      cases bb
      · rw [←hgo,hp i hlt hba l hl,hgo] at h5
        (repeat first|refine s2 rfl fun _ _hb=>?_ |refine aU rfl ?_ |refine Aa ?_)
        ((refine aC rfl ?_ ?_<;>rintro ⟨⟩);all_goals try(exfalso;(simp only[oZ] at *;omega)))
        refine aK ?_
        refine aS (aB ?_)
        (repeat' first|refine tA rfl ?_ |(refine s4 rfl ‹_› rfl ?_ ?_;omega) |refine s2 rfl fun _ _hb=>?_ |refine sP rfl (h5) rfl ?_ |refine s3 rfl ?_ ?_<;>rintro rfl |refine aU rfl ?_ |refine Aa ?_|(refine aC rfl ?_ ?_<;>rintro ⟨⟩));all_goals try contradiction
        all_goals
          refine aK ?_
          (repeat first|(refine sA rfl ?_ ?_;first|exact tI|omega) |refine aU rfl ?_ |refine Aa ?_)
          refine ⟨⟨j+1,by omega⟩,by dsimp only;(omega),[],?_⟩
          simp[cX,zC,hΓ]
      · (repeat first|refine s2 rfl fun _ _hb=>?_ |refine aU rfl ?_ |refine Aa ?_)
        ((refine aC rfl ?_ ?_<;>rintro ⟨⟩);all_goals try(exfalso;(simp only[oZ] at *;omega)))
        refine aK ?_
        refine aS (aB ?_)
        (repeat' first|refine tA rfl ?_ |(refine s4 rfl ‹_› rfl ?_ ?_;omega) |refine s2 rfl fun _ _hb=>?_ |refine sP rfl (h5) rfl ?_ |refine s3 rfl ?_ ?_<;>rintro rfl |refine aU rfl ?_ |refine Aa ?_|(refine aC rfl ?_ ?_<;>rintro ⟨⟩));all_goals try contradiction
        all_goals
          refine aK ?_
          (repeat first|(refine sA rfl ?_ ?_;first|exact tI|omega) |refine aU rfl ?_ |refine Aa ?_)
          refine ⟨⟨j+1,by omega⟩,by dsimp only;(omega),[],?_⟩
          simp[cX,zC,hΓ]
    · (repeat first|refine s2 rfl fun _ _hb=>?_ |refine aU rfl ?_ |refine Aa ?_)
      ((refine aC rfl ?_ ?_<;>rintro ⟨⟩);all_goals try(exfalso;(simp only[oZ] at *;omega)))
      refine aE ?_
      (repeat first|(refine sA rfl ?_ ?_;first|exact tI|omega) |refine aU rfl ?_ |refine Aa ?_)
      refine ⟨⟨i+1,by omega⟩,by dsimp only;(omega),[],?_⟩
      simp[cX,zC,hΓ]
  · (repeat first|refine s2 rfl fun _ _hb=>?_ |refine aU rfl ?_ |refine Aa ?_)
    ((refine aC rfl ?_ ?_<;>rintro ⟨⟩);all_goals try(exfalso;(simp only[oZ] at *;omega)))
    refine aE ?_
    (repeat first|refine tA rfl ?_ |refine aU rfl ?_ |refine Aa ?_)
    (subst_vars;exact aR ⟨_,rfl,rfl⟩)
end Go.Am
namespace Go.Am
open Go Go.Proofs
set_option maxHeartbeats 1000000
attribute [local irreducible] AR BZ Lex Bm Aj Spec
variable {tabs:List (Nat×Obj)}
theorem av {t:B3}:∀(u v:W) (F:PS),GY t F u=false→GY t F (u++v)=false
  | [],v,F,h=>by
    have h:(!Ix t F)=false:=h
    cases v with
    | nil=>exact h
    | cons c v=>show (!Ix t F && _)=false;rw [h];rfl
  | c :: u,v,F,h=>by
    have h:(!Ix t F && GY t (DQ t ((c.toNat:Int) - 97) F) u)=false:=h
    show (!Ix t F && GY t (DQ t ((c.toNat:Int) - 97) F) (u++v))=false
    cases hb:(!Ix t F)
    · rfl
    · rw [hb] at h
      exact av u v _ h
theorem ay {L:W→Bool} {ls:List UInt8} {t:A3} (h:CJ L ls t) (hp:∀u v,L u=false→L (u++v)=false):∀(w:W) (i:Nat) (r:W),t.rows[i]? = some r→AV ls w→L r=false→L (t.rows.getD (runM L t i w) [])=false
  | [],i,r,hi,_,hr=>by show L (t.rows.getD i [])=false;rw [Z2 hi];exact hr
  | c :: w,i,r,hi,hw,hr=>by
    obtain ⟨s,hs,hms⟩:=h.idx hi (hw c (by simp))
    have h9:=X4.1 hms [] (List.mem_of_getElem? h.c0)
    rw [List.append_nil,List.append_nil] at h9
    have e:runM L t i (c::w)=runM L t (DW L t (r++[c])) w:=by
      show runM L t (DW L t (t.rows.getD i []++[c])) w=_
      rw [Z2 hi]
    rw [e]
    exact ay h hp w _ s hs (fun d hd=>hw d (by simp [hd])) (by rw [h9];exact hp r [c] hr)
theorem bh {te:Dx} {x:A3} {a:B6} (ha:J0 te x=some a) (hk:te.kn=false):∀u v,AV (Bl a.al) u→AV (Bl a.al) v→LA a u=false→LA a (u++v)=false:=by
  obtain ⟨hv,ho,hcl,rfl,hok,h1,h2,h3⟩:=VM ha
  have hL:∀u v,CG te u=false→CG te (u++v)=false:=fun u v h=>by
    unfold CG at *
    rw [if_neg (by rw [hk];exact Bool.false_ne_true)] at *
    exact av u v _ h
  intro u v hu hv h
  have h0:=(List.getElem?_eq_some_iff.1 hcl.r0).1
  rw [Us hcl hu] at h
  rw [Us hcl (Tq hu hv)]
  unfold Ux at *
  rw [Ou]
  obtain ⟨r,hr⟩:=get_some (hcl.run u 0 hu h0)
  rw [Z2 hr] at h
  exact ay hcl hL v _ r hr hv h
theorem ab [DT ⟨tabs,none⟩] (b:List UInt8):Pure Tryz.prog ⟨tabs,none⟩ 10 [.o (.d (QR b))] (eB true):=by
  refine eG Tryz.func10 rfl (by kernel_rfl) rfl ?_;intro Γ hΓ
  (repeat first|refine sN rfl ?_ |refine tA rfl ?_ |refine s2 rfl fun _ _hb=>?_ |refine aU rfl ?_ |refine Aa ?_)
  (refine aC rfl ?_ ?_<;>rintro ⟨⟩)
  · (repeat first|refine tA rfl ?_ |refine aU rfl ?_ |refine Aa ?_)
    (subst_vars;exact aR ⟨_,rfl,rfl⟩)
  have hbl:b.length≤9223372036854775807:=by (simp only[oZ] at *;omega)
  refine aK ?_
  (repeat first|refine tA rfl ?_ |refine aU rfl ?_)
  (refine pW rfl ?_ rfl (by rfl);refine Ac [] rfl rfl (FG (TB:=⟨tabs,none⟩) b hbl) ⟨rfl,by decide,by decide⟩ rfl trivial ?_;rintro x0 σ1 nx1 ⟨te,x,hx,rfl,rfl,rfl⟩ _)
  have hz:=hx.sz (by omega) (by omega)
  have e1:=FJ (tabs:=tabs) (te:=te) x hz
  have e2:=Ih (Sh (TB:=⟨tabs,none⟩) te) x hz
  rw [Wl] at e2
  (repeat first|refine tA rfl ?_);refine Aa ?_;refine Aj.Az [0,1] [(3,.o (.ip (Jq te.kn te.p te.s te.q te.al))),(4,.o (.ip [AZ x.rows,AZ x.cols]))] ⟨⟨_,rfl,.inr (.o (.box rfl (ON.refl (Jq te.kn te.p te.s te.q te.al))))⟩,⟨_,rfl,.inr (.o (.box rfl (ON.refl [AZ x.rows,AZ x.cols])))⟩,trivial⟩ ?_
  cases hc:J0 te x with
  | none=>
    rw [hc] at e1 e2
    have ag:=GR (TB:=⟨tabs,none⟩) ⟨0,[],[]⟩ ⟨0,[],[]⟩
    rw [decide_eq_true ⟨rfl,rfl,rfl⟩] at ag
    (repeat first|refine tA rfl ?_ |refine sP rfl (e1) rfl ?_|refine sP rfl (e2) rfl ?_ |refine aU rfl ?_ |refine Aa ?_)
    (repeat' first|refine tA rfl ?_ |refine s2 rfl fun _ _hb=>?_ |refine sP rfl (ag) rfl ?_ |refine s3 rfl ?_ ?_<;>rintro rfl |refine aU rfl ?_ |refine Aa ?_|(refine aC rfl ?_ ?_<;>rintro ⟨⟩));all_goals try contradiction
    (subst_vars;exact aR ⟨_,rfl,rfl⟩)
  | some a=>
    obtain ⟨_,_,_,_,hok,_⟩:=VM hc
    have hpc:=fun hk=>ae (TB:=⟨tabs,none⟩) hok (bh hc hk)
    rw [hc] at e1 e2
    have ag:=GR (TB:=⟨tabs,none⟩) a a
    rw [decide_eq_true ⟨rfl,rfl,rfl⟩] at ag
    obtain ⟨kn,p,sy,pq,al⟩:=te
    cases kn
    · have hpc:=hpc rfl
      (repeat first|refine tA rfl ?_ |refine sP rfl (e1) rfl ?_|refine sP rfl (e2) rfl ?_ |refine aU rfl ?_ |refine Aa ?_)
      (repeat' first|refine tA rfl ?_ |refine s2 rfl fun _ _hb=>?_ |refine sP rfl (ag) rfl ?_ |refine s3 rfl ?_ ?_<;>rintro rfl |refine aU rfl ?_ |refine Aa ?_|(refine aC rfl ?_ ?_<;>rintro ⟨⟩));all_goals try contradiction
      refine aK ?_
      (repeat first|refine tA rfl ?_ |refine sP rfl (hpc) rfl ?_ |refine aU rfl ?_ |refine Aa ?_)
      (subst_vars;exact aR ⟨_,rfl,rfl⟩)
    · (repeat first|refine tA rfl ?_ |refine sP rfl (e1) rfl ?_|refine sP rfl (e2) rfl ?_ |refine aU rfl ?_ |refine Aa ?_)
      (repeat' first|refine tA rfl ?_ |refine s2 rfl fun _ _hb=>?_ |refine sP rfl (ag) rfl ?_ |refine s3 rfl ?_ ?_<;>rintro rfl |refine aU rfl ?_ |refine Aa ?_|(refine aC rfl ?_ ?_<;>rintro ⟨⟩));all_goals try contradiction
      (subst_vars;exact aR ⟨_,rfl,rfl⟩)
end Go.Am
