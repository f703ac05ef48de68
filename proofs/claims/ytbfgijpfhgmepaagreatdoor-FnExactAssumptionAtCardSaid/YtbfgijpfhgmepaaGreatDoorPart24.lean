/-
  What the searches through systems and automata side by side say, plainly.
-/
import Derived.Test.YtbfgijpfhgmepaaGreatDoorPart12
import Derived.Test.YtbfgijpfhgmepaaGreatDoorPart16
import Derived.Test.YtbfgijpfhgmepaaGreatDoorPart23
import Derived.Test.YtbfgijpfhgmepaaGreatDoorPart19
import Derived.Test.YtbfgijpfhgmepaaGreatDoorPart22
import Derived.Test.YtbfgijpfhgmepaaGreatDoorPart20
import Derived.Test.YtbfgijpfhgmepaaGreatDoorPart13
import Derived.Test.YtbfgijpfhgmepaaGreatDoorPart14
set_option linter.constructorNameAsVariable false
set_option linter.unusedSectionVars false
set_option linter.unusedSimpArgs false
set_option linter.unusedVariables false
namespace Go.Am
open Go
set_option linter.unusedVariables false
abbrev NC:=Int→Int→List Int
def JM(c:NC):List Int→Int→Int→Prop
 | [],q,r=>r=q
 | l::w,q,r=>∃y,y∈c q l∧JM c w y r
def KE:List NC→List Int→List Int→List Int→Prop
 | [],_,[],[]=>True
 | c::cs,w,q::st,r::st'=>JM c w q r∧KE cs w st st'
 | _,_,_,_=>False
def TK:List NC→Int→List Int→List Int→Prop
 | [],_,[],[]=>True
 | c::cs,l,q::st,r::st'=>r∈c q l∧TK cs l st st'
 | _,_,_,_=>False
theorem JK:∀ {cs:List NC} {l:Int} {w st st':List Int},KE cs (l::w) st st'↔∃st1,TK cs l st st1∧KE cs w st1 st'
 | [],l,w,[],[]=>⟨fun _=>⟨[],trivial,trivial⟩,fun _=>trivial⟩
 | [],l,w,[],_::_=>⟨fun h=>h.elim,fun ⟨st1,h1,h2⟩=>by cases st1<;>simp [TK,KE] at h1 h2⟩
 | [],l,w,_::_,st'=>⟨fun h=>by cases st'<;>exact h.elim,fun ⟨st1,h1,h2⟩=>by cases st1<;>exact h1.elim⟩
 | c::cs,l,w,[],st'=>⟨fun h=>by cases st'<;>exact h.elim,fun ⟨st1,h1,h2⟩=>by cases st1<;>exact h1.elim⟩
 | c::cs,l,w,q::st,[]=>⟨fun h=>h.elim,fun ⟨st1,h1,h2⟩=>by cases st1<;>first|exact h1.elim|exact h2.elim⟩
 | c :: cs,l,w,q::st,r::st'=>by
  have ih:=JK (cs:=cs) (l:=l) (w:=w) (st:=st) (st':=st')
  constructor
  ·rintro⟨⟨y,hy,h1⟩,h2⟩
   obtain⟨st1,h3,h4⟩:=ih.1 h2
   exact⟨y::st1,⟨hy,h3⟩,h1,h4⟩
  ·rintro⟨st1,h1,h2⟩
   cases st1 with
   | nil=>exact h1.elim
   | cons y st1=>exact⟨⟨y,h1.1,h2.1⟩,ih.2 ⟨st1,h1.2,h2.2⟩⟩
def DS(n:Net):List NC:=n.ps.map (fun s q l=>BI s q l)++n.au.map (fun a q l=>[Cy a q.toNat l])
def RR:List Int→List (List Int)→Prop
 | [],[]=>True
 | x::xs,c::cs=>x∈c∧RR xs cs
 | _,_=>False
theorem YA:∀ {zs:List Int} {cs:List (List Int)} {out:List Int} {v:Int},cs.length=zs.length→(v∈Hd zs cs out↔∃o∈out,∃st1,RR st1 cs∧v=Dq zs st1 o)
 | [],[],out,v,_=>by
  constructor
  ·intro h;exact⟨v,h,[],trivial,rfl⟩
  ·rintro⟨o,ho,st1,h,rfl⟩
   cases st1 with
   | nil=>exact ho
   | cons x st1=>exact h.elim
 | [],_::_,_,_,h=>by simp at h
 | _::_,[],_,_,h=>by simp at h
 | z :: zs,c::cs,out,v,h=>by
  have ih:=YA (zs:=zs) (cs:=cs) (out:=out.flatMap fun o=>c.map fun x=>o*z+x) (v:=v) (by simpa using h)
  show v∈Hd zs cs _↔_
  rw [ih]
  constructor
  ·rintro⟨o,ho,st1,h1,h2⟩
   obtain⟨o1,ho1,h3⟩:=List.mem_flatMap.1 ho
   obtain⟨x,hx,rfl⟩:=List.mem_map.1 h3
   exact⟨o1,ho1,x::st1,⟨hx,h1⟩,h2⟩
  ·rintro⟨o,ho,st1,h1,h2⟩
   cases st1 with
   | nil=>exact h1.elim
   | cons x st1=>exact⟨o*z+x,List.mem_flatMap.2 ⟨o,ho,List.mem_map.2 ⟨x,h1.1,rfl⟩⟩,st1,h1.2,h2⟩
theorem HY:∀ {cs:List NC} {l:Int} {st st1:List Int},cs.length=st.length→(RR st1 (cs.zipWith (fun c q=>c q l) st)↔TK cs l st st1)
 | [],l,[],st1,_=>by
  cases st1 with
  | nil=>exact⟨fun _=>trivial,fun _=>trivial⟩
  | cons x st1=>exact⟨fun h=>h.elim,fun h=>h.elim⟩
 | [],_,_::_,_,h=>by simp at h
 | _::_,_,[],_,h=>by simp at h
 | c::cs,l,q::st,st1,h=>by
  have ih:=fun st1=>HY (cs:=cs) (l:=l) (st:=st) (st1:=st1) (by simpa using h)
  cases st1 with
  | nil=>exact⟨fun h=>h.elim,fun h=>h.elim⟩
  | cons x st1=>exact⟨fun h=>⟨h.1,(ih st1).1 h.2⟩,fun h=>⟨h.1,(ih st1).2 h.2⟩⟩
theorem Si{n:Net}{st:List Int}(h:n.ps.length+n.au.length=st.length)(l:Int):Ke n st l=(DS n).zipWith (fun c q=>c q l) st:=by
 unfold Ke DS
 have e:st=st.take n.ps.length++st.drop n.ps.length:=(List.take_append_drop _ _).symm
 conv=>rhs;rw [e]
 rw [List.zipWith_append (by simp;omega),List.zipWith_map_left,List.zipWith_map_left]
 congr 1
 exact Gh _ _ _
theorem So:∀ {zs ss:List Int},Fits zs ss→∀n:Int,Dq zs ss n=n*Av zs+Dq zs ss 0
 | _,_,.nil,n=>by simp [Dq,Av]
 | _,_,@Fits.cons z s zs ss h0 h1 h2,n=>by
  show Dq zs ss (n*z+s)=n*(z*Av zs)+Dq zs ss (0*z+s)
  rw [So h2 (n*z+s),So h2 (0*z+s),Int.add_mul,Int.add_mul,Int.mul_assoc,Int.zero_mul,Int.zero_mul,Int.zero_add,Int.add_assoc]
theorem N5:∀ {zs ss:List Int},Fits zs ss→∀m:Int,BA zs (Dq zs ss m)=ss
 | _,_,.nil,m=>rfl
 | _,_,@Fits.cons z s zs ss h0 h1 h2,m=>by
  show (Dq zs ss (m*z+s) / Av zs % z)::BA zs (Dq zs ss (m*z+s))=s::ss
  rw [N5 h2]
  congr 1
  have hp:=h2.pos
  have he:=h2.enc 0 (by omega)
  rw [Int.zero_add,Int.one_mul] at he
  rw [So h2,Int.add_comm,Int.add_mul_ediv_right _ _ (by omega),Int.ediv_eq_zero_of_lt he.1 he.2,Int.zero_add,Int.add_comm,Int.add_mul_emod_self_right,Int.emod_eq_of_lt h0 h1]
theorem KG:∀ {zs:List Int} {cs:List (List Int)} {st:List Int},Ft zs cs→RR st cs→Fits zs st
 | _,_,[],.nil,_=>.nil
 | _,_,_::_,.nil,h=>h.elim
 | _,_,[],.cons _ _ _,h=>h.elim
 | _,_,x::st,.cons h1 h2 h3,h=>.cons (h1 x h.1).1 (h1 x h.1).2 (KG h3 h.2)
theorem LN:∀ {cs:List NC} {st st':List Int},cs.length=st.length→(KE cs [] st st'↔st'=st)
 | [],[],[],_=>⟨fun _=>rfl,fun _=>trivial⟩
 | [],[],_::_,_=>⟨fun h=>h.elim,fun h=>by cases h⟩
 | [],_::_,_,h=>by simp at h
 | _::_,[],_,h=>by simp at h
 | c::cs,q::st,[],h=>⟨fun h=>h.elim,fun h=>by cases h⟩
 | c :: cs,q::st,r::st',h=>by
  have ih:=LN (cs:=cs) (st:=st) (st':=st') (by simpa using h)
  constructor
  ·rintro⟨h1,h2⟩
   have h1:r=q:=h1
   rw [ih.1 h2,h1]
  ·intro h
   injection h with h1 h2
   exact⟨h1,ih.2 h2⟩
theorem HR{n:Net}(hn:DL n):∀ {w:List Int} {st:List Int} {x:Int},Fits (Ae n) st→(∀l∈w,0≤l∧l < 6)→(reach (Ex n) w (Dq (Ae n) st 0) x↔∃st',KE (DS n) w st st'∧Fits (Ae n) st'∧x=Dq (Ae n) st' 0)
 | [],st,x,hf,_=>by
  have hl:=hf.len
  have hc:(DS n).length=st.length:=by simp [DS,Ae] at hl ⊢;omega
  constructor
  ·intro h
   exact⟨st,(LN hc).2 rfl,hf,h.symm⟩
  ·rintro⟨st',h1,_,h2⟩
   rw [(LN hc).1 h1] at h2
   exact h2.symm
 | l :: w,st,x,hf,hw=>by
  have hl:=hf.len
  have hc:(DS n).length=st.length:=by simp [DS,Ae] at hl ⊢;omega
  have hlb:=hw l (by simp)
  have hck:=Ic hn hf hlb.1 hlb.2
  have hsz:n.ps.length+n.au.length=st.length:=by simp [Ae] at hl;omega
  have hs:(Ex n).succ (Dq (Ae n) st 0) l=Hd (Ae n) (Ke n st l) [0]:=by
   show Ff n (Ae n) (BA (Ae n) (Dq (Ae n) st 0)) l=_
   rw [N5 hf];rfl
  have key:∀y,y∈(Ex n).succ (Dq (Ae n) st 0) l↔∃st1,TK (DS n) l st st1∧Fits (Ae n) st1∧y=Dq (Ae n) st1 0:=fun y=>by
   rw [hs,YA hck.len.symm]
   constructor
   ·rintro⟨o,ho,st1,h1,h2⟩
    have ho:o=0:=by simpa using ho
    subst ho
    exact⟨st1,(HY hc).1 (by rw [←Si hsz];exact h1),KG hck h1,h2⟩
   ·rintro⟨st1,h1,_,h2⟩
    exact⟨0,by simp,st1,by rw [Si hsz];exact(HY hc).2 h1,h2⟩
  constructor
  ·rintro⟨y,hy,h⟩
   obtain⟨st1,h1,h2,rfl⟩:=(key y).1 hy
   obtain⟨st',h3,h4⟩:=(HR hn h2 fun m hm=>hw m (by simp [hm])).1 h
   exact⟨st',JK.2 ⟨st1,h1,h3⟩,h4⟩
  ·rintro⟨st',h3,h4⟩
   obtain⟨st1,h1,h5⟩:=JK.1 h3
   have hf1:Fits (Ae n) st1:=KG hck (by rw [Si hsz];exact(HY hc).2 h1)
   exact⟨_,(key _).2 ⟨st1,h1,hf1,rfl⟩,(HR hn hf1 fun m hm=>hw m (by simp [hm])).2 ⟨st',h5,h4⟩⟩
theorem MR{n:Net}(hn:DL n):∀ {w:List Int} {st st':List Int},Fits (Ae n) st→(∀l∈w,0≤l∧l < 6)→KE (DS n) w st st'→Fits (Ae n) st'
 | [],st,st',hf,_,h=>by
  have hl:=hf.len
  have hc:(DS n).length=st.length:=by simp [DS,Ae] at hl ⊢;omega
  rw [(LN hc).1 h];exact hf
 | l::w,st,st',hf,hw,h=>by
  have hl:=hf.len
  have hc:(DS n).length=st.length:=by simp [DS,Ae] at hl ⊢;omega
  have hlb:=hw l (by simp)
  have hsz:n.ps.length+n.au.length=st.length:=by simp [Ae] at hl;omega
  obtain⟨st1,h1,h5⟩:=JK.1 h
  exact MR hn (KG (Ic hn hf hlb.1 hlb.2) (by rw [Si hsz];exact(HY hc).2 h1)) (fun m hm=>hw m (by simp [hm])) h5
theorem Gw{a:AU}:∀ {w:List Int} {q r:Int},JM (fun q l=>[Cy a q.toNat l]) w q r↔r=Dj (fA a) q w
 | [],q,r=>Iff.rfl
 | l::w,q,r=>by
  have ih:=Gw (a:=a) (w:=w) (q:=fA a q l) (r:=r)
  show (∃y,y∈[Cy a q.toNat l]∧JM _ w y r)↔_
  simp only [List.mem_singleton,exists_eq_left]
  exact ih
abbrev MK(s:Sys):NC:=fun q l=>BI s q l
abbrev lW(a:AU):NC:=fun q l=>[Cy a q.toNat l]
def Hb(s:Sys)(w:List Int):Prop:=∃q,JM (MK s) w 0 q
def Ha(a:AU)(w:List Int):Bool:=VU a (Dj (fA a) 0 w)
theorem l5{s:Sys}{a p:AU}(h:Dl s a p=true){w:List Int}(hw:over (Ex (Ep s a p)) w):Sv (Ex (Ep s a p)) w↔Hb s w∧Ha a w=true∧Ha p w=false:=by
 obtain⟨hn,hk,hf⟩:=Oc h
 have hwl:∀l∈w,0≤l∧l < 6:=fun l hl=>by have:=Ak (hw l hl);omega
 have hg:∀ {q r1 r2:Int},Fits (Ae (Ep s a p)) [q,r1,r2]→(Ex (Ep s a p)).goal (Dq (Ae (Ep s a p)) [q,r1,r2] 0)=(VU a r1 && !VU p r2):=fun hf=>by
  unfold Ex
  dsimp only
  rw [N5 hf];rfl
 unfold Sv
 constructor
 ·rintro⟨x,hx,hgx⟩
  obtain⟨st',h1,h2,rfl⟩:=(HR hn hf hwl).1 hx
  match st',h1,h2,hgx with
  | [q,r1,r2],h1,h2,hgx=>
   rw [hg h2] at hgx
   obtain⟨e1,e2,e3,_⟩:=h1
   have e2:=Gw.1 e2
   have e3:=Gw.1 e3
   subst e2 e3
   refine⟨⟨q,e1⟩,?_,?_⟩
   ·unfold Ha;revert hgx;cases VU a (Dj (fA a) 0 w)<;>simp
   ·unfold Ha;revert hgx;cases VU p (Dj (fA p) 0 w)<;>simp
  | [],h1,_,_=>exact h1.elim
  | [_],h1,_,_=>exact h1.2.elim
  | [_,_],h1,_,_=>exact h1.2.2.elim
  | _::_::_::_::_,h1,_,_=>exact h1.2.2.2.elim
 ·rintro⟨⟨q,e1⟩,e2,e3⟩
  have hv:KE (DS (Ep s a p)) w [0,0,0] [q,Dj (fA a) 0 w,Dj (fA p) 0 w]:=⟨e1,Gw.2 rfl,Gw.2 rfl,trivial⟩
  have hr:=fun x=>HR (w:=w) (x:=x) hn hf hwl
  have hft:Fits (Ae (Ep s a p)) [q,Dj (fA a) 0 w,Dj (fA p) 0 w]:=MR hn hf hwl hv
  refine⟨_,(hr _).2 ⟨_,hv,hft,rfl⟩,?_⟩
  rw [hg hft]
  unfold Ha at e2 e3
  rw [e2,e3];rfl
theorem Jp{w:List Int}:∀ {cs ds:List NC} {st st2 x:List Int},cs.length=st.length→(KE (cs++ds) w (st++st2) x↔∃y z,x=y++z∧KE cs w st y∧KE ds w st2 z)
 | [],ds,[],st2,x,_=>by
  constructor
  ·intro h;exact⟨[],x,rfl,trivial,h⟩
  ·rintro⟨y,z,rfl,h1,h2⟩
   cases y with
   | nil=>exact h2
   | cons a y=>exact h1.elim
 | [],_,_::_,_,_,h=>by simp at h
 | _::_,_,[],_,_,h=>by simp at h
 | c :: cs,ds,q::st,st2,x,h=>by
  have ih:=fun x=>Jp (w:=w) (cs:=cs) (ds:=ds) (st:=st) (st2:=st2) (x:=x) (by simpa using h)
  constructor
  ·intro hx
   cases x with
   | nil=>exact hx.elim
   | cons r x=>
    obtain⟨y,z,h1,h2,h3⟩:=(ih x).1 hx.2
    exact⟨r::y,z,by rw [h1];rfl,⟨hx.1,h2⟩,h3⟩
  ·rintro⟨y,z,rfl,h1,h2⟩
   cases y with
   | nil=>exact h1.elim
   | cons r y=>exact⟨h1.1,(ih _).2 ⟨y,z,rfl,h1.2,h2⟩⟩
theorem PZ{w:List Int}:∀ {l:List Sys},(∃y,KE (l.map MK) w (List.replicate l.length 0) y)↔∀s∈l,Hb s w
 | []=>Iff.intro (fun _ s hs=>absurd hs List.not_mem_nil) (fun _=>⟨[],trivial⟩)
 | s :: l=>by
  have ih:=PZ (w:=w) (l:=l)
  constructor
  ·rintro⟨y,h⟩ t ht
   cases y with
   | nil=>exact h.elim
   | cons r y=>
    rcases List.mem_cons.1 ht with rfl|ht
    ·exact⟨r,h.1⟩
    ·exact ih.1 ⟨y,h.2⟩ t ht
  ·intro h
   obtain⟨r,hr⟩:=h s (by simp)
   obtain⟨y,hy⟩:=ih.2 fun t ht=>h t (by simp [ht])
   exact⟨r::y,hr,hy⟩
theorem PY{w:List Int}:∀ {cs:List NC} {st st':List Int},KE cs w st st'→st'.length=cs.length
 | [],[],[],_=>rfl
 | [],[],_::_,h=>h.elim
 | [],_::_,[],h=>h.elim
 | [],_::_,_::_,h=>h.elim
 | _::_,[],[],h=>h.elim
 | _::_,[],_::_,h=>h.elim
 | _::_,_::_,[],h=>h.elim
 | c::cs,q::st,r::st',h=>by simp [PY h.2]
theorem iE{l:List Sys}{p:AU}(h:(A5 l && AN p)=true){w:List Int}(hw:over (Ex (CS l p)) w):Sv (Ex (CS l p)) w↔(∀s∈l,Hb s w)∧Ha p w=false:=by
 obtain⟨hn,hk,hf⟩:=Ob h
 have hwl:∀m∈w,0≤m∧m < 6:=fun m hm=>by have:=Ak (hw m hm);omega
 have hg:∀ {y:List Int} {r:Int},y.length=l.length→Fits (Ae (CS l p)) (y++[r])→(Ex (CS l p)).goal (Dq (Ae (CS l p)) (y++[r]) 0) = !VU p r:=fun {y r} hy hf=>by
  unfold Ex
  dsimp only
  rw [N5 hf]
  show (!ZY (CS l p) (y++[r]) 0)=_
  unfold ZY VU
  have e:(y++[r]).getD ((CS l p).ps.length+0) 0=r:=N8 (by
   show (y++[r])[l.length+0]? = some r
   rw [Nat.add_zero,←hy];simp)
  rw [e];rfl
 have hst:(CS l p).st=List.replicate l.length 0++[0]:=by
  show List.replicate (l.length+1) 0=_
  rw [List.replicate_succ']
 have hcs:DS (CS l p)=l.map MK++[lW p]:=rfl
 have hlen:(l.map MK).length=(List.replicate l.length (0:Int)).length:=by simp
 have hr:=fun x=>HR (w:=w) (x:=x) hn hf hwl
 unfold Sv
 constructor
 ·rintro⟨x,hx,hgx⟩
  obtain⟨st',h1,h2,rfl⟩:=(hr x).1 hx
  rw [hst,hcs] at h1
  obtain⟨y,z,rfl,h3,h4⟩:=(Jp hlen).1 h1
  have hyl:y.length=l.length:=by rw [PY h3];simp
  match z,h4,h2,hgx with
  | [r],h4,h2,hgx=>
   rw [hg hyl h2] at hgx
   have e2:=Gw.1 h4.1
   subst e2
   exact⟨PZ.1 ⟨y,h3⟩,by unfold Ha;revert hgx;cases VU p (Dj (fA p) 0 w)<;>simp⟩
  | [],h4,_,_=>exact h4.elim
  | _::_::_,h4,_,_=>exact h4.2.elim
 ·rintro⟨h1,h2⟩
  obtain⟨y,hy⟩:=PZ.2 h1
  have hv:KE (DS (CS l p)) w (CS l p).st (y++[Dj (fA p) 0 w]):=by
   rw [hst,hcs]
   exact(Jp hlen).2 ⟨y,_,rfl,hy,Gw.2 rfl,trivial⟩
  have hft:=MR hn hf hwl hv
  refine⟨_,(hr _).2 ⟨_,hv,hft,rfl⟩,?_⟩
  rw [hg (by rw [PY hy];simp) hft]
  unfold Ha at h2
  rw [h2];rfl
theorem Fy{c:NC}:∀ {u w:List Int} {q r:Int},JM c (u++w) q r↔∃y,JM c u q y∧JM c w y r
 | [],w,q,r=>⟨fun h=>⟨q,rfl,h⟩,fun ⟨y,h1,h2⟩=>by have h1:y=q:=h1;subst h1;exact h2⟩
 | l :: u,w,q,r=>by
  constructor
  ·rintro⟨y,hy,h⟩
   obtain⟨z,h1,h2⟩:=Fy.1 h
   exact⟨z,⟨y,hy,h1⟩,h2⟩
  ·rintro⟨z,⟨y,hy,h1⟩,h2⟩
   exact⟨y,hy,Fy.2 ⟨z,h1,h2⟩⟩
theorem N0{s:Sys}(hs:AR s=true):∀ {w:List Int} {q r:Int},0≤q∧q < s.st→JM (MK s) w q r→0≤r∧r < s.st
 | [],q,r,hq,h=>by have h:r=q:=h;subst h;exact hq
 | l::w,q,r,hq,⟨y,hy,h⟩=>N0 hs (Jo hs hq.1 hq.2 hy) h
theorem Tl{a:AU}(ha:AN a=true):∀ {w:List Int} {q:Int},(∀l∈w,0≤l∧l < 6)→0≤q∧q < a.nx.length→0≤Dj (fA a) q w∧Dj (fA a) q w < a.nx.length
 | [],q,_,hq=>hq
 | l::w,q,hw,hq=>by
  have hl:=hw l (by simp)
  exact Tl ha (w:=w) (fun m hm=>hw m (by simp [hm])) (Dg ha (q:=q.toNat) (by omega) hl.1 hl.2)
theorem ax{t:CD}{F:PS}{u:W}{c:UInt8}:GP t F (u++[c])=Dy t ((c.toNat:Int) - 97) (GP t F u):=by rw [Py];rfl
theorem JG{s:Sys}{q l r:Int}(h:A0 s.al l.toNat=true):r∈BI s q l↔∃e∈s.es,e.f=q∧e.l=l∧e.t=r:=by
 unfold BI
 rw [if_pos h]
 simp only [List.mem_map,List.mem_filter,Bool.and_eq_true,decide_eq_true_eq]
 constructor
 ·rintro⟨e,⟨h1,h2,h3⟩,h4⟩;exact⟨e,h1,h2,h3,h4⟩
 ·rintro⟨e,h1,h2,h3,h4⟩;exact⟨e,⟨h1,h2,h3⟩,h4⟩
section
variable {t:CD}(ht:A9 t=true)
include ht
theorem YS{F0:PS}(h0:CW t F0){p j:Nat}:P5 t F0 p j↔∃(p0 j0:Nat) (u:List Int),(F0 p0).testBit j0=true∧(∀l∈u,l∈Cn t)∧JM (MK t.s) u j0 j∧(p:Int)=Dj (fA t.q) p0 u:=by
 constructor
 ·intro h
  induction h with
  | @base p j hb=>exact⟨p,j,[],hb,by simp,rfl,rfl⟩
  | @step p j e hr he hl hf ih=>
   obtain⟨p0,j0,u,h1,h2,h3,h4⟩:=ih
   have hE:=HX ht he
   have hL:=DF ht hl
   have hlt:=hr.lt ht h0
   have hg:=Dg (Cr ht) hlt.1 hL.1 hL.2.1
   refine⟨p0,j0,u++[e.l],h1,fun l hl2=>?_,?_,?_⟩
   ·rcases List.mem_append.1 hl2 with h|h
    ·exact h2 l h
    ·simp at h;subst h;exact hl
   ·refine Fy.2 ⟨j,h3,(e.t.toNat:Int),?_,rfl⟩
    exact(JG hL.2.2).2 ⟨e,he,by omega,rfl,by omega⟩
   ·rw [Lr,←h4]
    show ((Cy t.q p e.l).toNat:Int)=Cy t.q ((p:Int).toNat) e.l
    rw [Int.toNat_natCast];omega
 ·rintro⟨p0,j0,u,h1,h2,h3,h4⟩
  have key:∀(u:List Int) (p0 j0:Nat),P5 t F0 p0 j0→(∀l∈u,l∈Cn t)→∀ {p j:Nat},JM (MK t.s) u j0 j→(p:Int)=Dj (fA t.q) p0 u→P5 t F0 p j:=fun u=>by
   induction u with
   | nil=>
    intro p0 j0 hr _ p j h3 h4
    have h3:(j:Int)=j0:=h3
    have h4:(p:Int)=p0:=h4
    obtain rfl:j=j0:=by omega
    obtain rfl:p=p0:=by omega
    exact hr
   | cons l u ih=>
    intro p0 j0 hr h2 p j h3 h4
    have hl:=h2 l (by simp)
    have hL:=DF ht hl
    have hlt:=hr.lt ht h0
    have hg:=Dg (Cr ht) hlt.1 hL.1 hL.2.1
    obtain⟨y,hy,h3⟩:=h3
    obtain⟨e,he,e1,e2,e3⟩:=(JG hL.2.2).1 hy
    have hE:=HX ht he
    have hr1:=P5.step hr he (by rw [e2];exact hl) (show e.f.toNat=j0 by omega)
    have hy2:((e.t.toNat:Nat):Int)=y:=by omega
    refine ih _ _ hr1 (fun m hm=>h2 m (by simp [hm])) (by rw [hy2];exact h3) ?_
    rw [h4,e2]
    show Dj (fA t.q) (Cy t.q ((p0:Int).toNat) l) u=_
    rw [Int.toNat_natCast]
    congr 1;omega
  exact key u p0 j0 (.base h1) h2 h3 h4
theorem cJ{F:PS}(hF:CW t F){l:Int}(hl:0≤l∧l < 6){p' j:Nat}:(VP t l F p').testBit j=true↔∃p j0:Nat,(F p).testBit j0=true∧Cy t.q p l=(p':Int)∧(j:Int)∈BI t.s j0 l:=by
 rw [Ld]
 have hin:∀ {p j0:Nat},(F p).testBit j0=true→p < t.q.nx.length:=fun {p j0} h=>by
  rcases Nat.lt_or_ge p t.q.nx.length with h1|h1
  ·exact h1
  ·rw [hF.z p h1] at h;simp at h
 unfold Db
 by_cases hb:A0 t.s.al l.toNat=true
 ·simp only [hb,if_true]
  constructor
  ·rintro⟨p,h1,h2,h3⟩
   obtain⟨e,he,⟨e1,e2⟩,e3⟩:=DH.1 h3
   have hE:=HX ht he
   exact⟨p,e.f.toNat,e2,h2,(JG hb).2 ⟨e,he,by omega,e1,by omega⟩⟩
  ·rintro⟨p,j0,h1,h2,h3⟩
   obtain⟨e,he,e1,e2,e3⟩:=(JG hb).1 h3
   have hE:=HX ht he
   refine⟨p,hin h1,h2,DH.2 ⟨e,he,⟨e2,?_⟩,by omega⟩⟩
   rw [show e.f.toNat=j0 by omega];exact h1
 ·simp only [hb,if_false,Bool.false_eq_true]
  have hs:∀j0:Nat,BI t.s j0 l=[(j0:Int)]:=fun j0=>by unfold BI;rw [if_neg hb]
  constructor
  ·rintro⟨p,h1,h2,h3⟩
   exact⟨p,j,h3,h2,by rw [hs];simp⟩
  ·rintro⟨p,j0,h1,h2,h3⟩
   rw [hs] at h3
   obtain rfl:j=j0:=by simp at h3;omega
   exact⟨p,hin h1,h2,h1⟩
end
def BW(al:Int)(u:List Int):List Int:=u.filter fun l=>A0 al l.toNat
def Ze(t:CD)(u:List Int):Prop:=∀l∈u,l∈Cn t∨l∈Ac t.al
theorem fe{t:CD}{l:Int}(h:l∈Cn t):A0 t.al l.toNat=false:=by
 unfold Cn at h
 have:=(List.mem_filter.1 h).2
 simpa using this
theorem Tz{t:CD}{u:List Int}(hu:Ze t u)(h:BW t.al u=[]):∀l∈u,l∈Cn t:=fun l hl=>by
 rcases hu l hl with h1|h1
 ·exact h1
 ·exfalso
  have h2:l∈BW t.al u:=List.mem_filter.2 ⟨hl,(Ak h1).2.2⟩
  rw [h] at h2;cases h2
theorem Su{t:CD}{u:List Int}(h:∀l∈u,l∈Cn t):BW t.al u=[]:=List.filter_eq_nil_iff.2 fun l hl=>by rw [fe (h l hl)];simp
theorem XU{t:CD}{F:PS}(hF:CW t F):Fb t F=true↔∃p j:Nat,(F p).testBit j=true∧VU t.q p=false:=by
 unfold Fb
 rw [List.any_eq_true]
 constructor
 ·rintro⟨p,hp,h⟩
  simp only [Bool.and_eq_true,decide_eq_true_eq,Bool.not_eq_true'] at h
  have:∃j,(F p).testBit j=true:=Classical.byContradiction fun hc=>h.1 (HD fun j=>by
   cases hb:(F p).testBit j
   ·rfl
   ·exact absurd ⟨j,hb⟩ hc)
  obtain⟨j,hj⟩:=this
  exact⟨p,j,hj,by unfold VU;rw [Int.toNat_natCast];exact h.2⟩
 ·rintro⟨p,j,h1,h2⟩
  have hp:p < t.q.nx.length:=by
   rcases Nat.lt_or_ge p t.q.nx.length with h|h
   ·exact h
   ·rw [hF.z p h] at h1;simp at h1
  refine⟨p,List.mem_range.2 hp,?_⟩
  unfold VU at h2
  rw [Int.toNat_natCast] at h2
  simp only [Bool.and_eq_true,decide_eq_true_eq,Bool.not_eq_true']
  exact⟨fun e=>by rw [e] at h1;simp at h1,h2⟩
theorem RI{t:CD}:∀(w:List Int) {F:PS},FK t F (Dk w)=false↔∃k,k≤w.length∧Fb t (GP t F (Dk (w.take k)))=true
 | [],F=>by
  show (!Fb t F)=false↔_
  constructor
  ·intro h
   exact⟨0,by simp,by show Fb t F=true;simpa using h⟩
  ·rintro⟨k,_,h⟩
   have h:Fb t F=true:=by simpa [Dk,GP] using h
   rw [h];rfl
 | l :: w,F=>by
  have ih:=fun F=>RI (t:=t) w (F:=F)
  have e:FK t F (Dk (l::w))=(!Fb t F && FK t (Dy t (((lb l).toNat:Int) - 97) F) (Dk w)):=rfl
  rw [e]
  constructor
  ·intro h
   cases hb:Fb t F
   ·rw [hb] at h
    obtain⟨k,h1,h2⟩:=(ih _).1 h
    exact⟨k+1,by simpa using h1,h2⟩
   ·exact⟨0,by simp,hb⟩
  ·rintro⟨k,h1,h2⟩
   cases k with
   | zero=>
    have h2:Fb t F=true:=h2
    rw [h2];rfl
   | succ k=>
    have:=(ih (Dy t (((lb l).toNat:Int) - 97) F)).2 ⟨k,by simpa using h1,h2⟩
    rw [this,Bool.and_false]
theorem gi{α:Type}{P:List α→Prop}(h0:P [])(h1:∀w l,P w→P (w++[l]))(w:List α):P w:=by
 rw [←List.reverse_reverse w]
 induction w.reverse with
 | nil=>exact h0
 | cons l u ih=>rw [List.reverse_cons];exact h1 _ l ih
section
variable {t:CD}(ht:A9 t=true)
include ht
theorem bK{F0:PS}(h0:CW t F0){p j:Nat}:(Sj t F0 p).testBit j=true↔∃(p0 j0:Nat) (u:List Int),(F0 p0).testBit j0=true∧(∀l∈u,l∈Cn t)∧JM (MK t.s) u j0 j∧(p:Int)=Dj (fA t.q) p0 u:=by
 rw [NZ,YS ht h0]
 constructor
 ·exact fun h=>h.2
 ·intro h
  exact⟨((YS ht h0).2 h).lt ht h0 |>.2,h⟩
theorem Ok:∀(w:List Int) {F:PS},CW t F→(∀l∈w,0≤l∧l < 6)→CW t (GP t F (Dk w))
 | [],F,h,_=>h
 | l :: w,F,h,hw=>by
  have hl:=hw l (by simp)
  have e:GP t F (Dk (l::w))=GP t (Dy t l F) (Dk w):=by
   show GP t (Dy t (((lb l).toNat:Int) - 97) F) (Dk w)=_
   rw [Mt hl.1 hl.2]
  rw [e]
  exact Ok w (Lh ht hl h) fun m hm=>hw m (by simp [hm])
theorem YY:∀(w:List Int),(∀l∈w,l∈Ac t.al)→∀ {p j:Nat},((GP t (Cq t) (Dk w) p).testBit j=true↔∃u,Ze t u∧BW t.al u=w∧JM (MK t.s) u 0 j∧(p:Int)=Dj (fA t.q) 0 u):=fun w=>by
 refine gi (P:=fun w=>(∀l∈w,l∈Ac t.al)→∀ {p j:Nat},((GP t (Cq t) (Dk w) p).testBit j=true↔∃u,Ze t u∧BW t.al u=w∧JM (MK t.s) u 0 j∧(p:Int)=Dj (fA t.q) 0 u)) ?_ ?_ w
 ·intro _ p j
  show (Sj t IE p).testBit j=true↔_
  rw [bK ht (LU ht)]
  have hz:∀ {p0 j0:Nat},(IE p0).testBit j0=true↔p0=0∧j0=0:=fun {p0 j0} => by
   unfold IE
   split
   ·rename_i h
    subst h
    have e:(1:Nat)=2 ^ 0:=rfl
    rw [e,Nat.testBit_two_pow]
    simp [eq_comm]
   ·rename_i h;simp [h]
  constructor
  ·rintro⟨p0,j0,u,h1,h2,h3,h4⟩
   obtain⟨rfl,rfl⟩:=hz.1 h1
   exact⟨u,fun l hl=>.inl (h2 l hl),Su h2,h3,h4⟩
  ·rintro⟨u,h1,h2,h3,h4⟩
   exact⟨0,0,u,hz.2 ⟨rfl,rfl⟩,Tz h1 h2,h3,h4⟩
 ·intro w l ih hw p j
  have hwl:=hw l (by simp)
  have hlb:=Ak hwl
  have ih:=fun p j=>ih (fun m hm=>hw m (by simp [hm])) (p:=p) (j:=j)
  have hok:=Ok ht w (F:=Cq t) (Gm ht) fun m hm=>by have:=Ak (hw m (by simp [hm]));omega
  have e:GP t (Cq t) (Dk (w++[l]))=Sj t (VP t l (GP t (Cq t) (Dk w))):=by
   have e1:Dk (w++[l])=Dk w++[lb l]:=by simp [Dk,lb]
   rw [e1,ax,Mt hlb.1 (by omega)];rfl
  rw [e,bK ht (Ko ht ⟨hlb.1,by omega⟩ hok)]
  constructor
  ·rintro⟨p1,j1,h,h1,h2,h3,h4⟩
   obtain⟨p2,j2,h5,h6,h7⟩:=(cJ ht hok ⟨hlb.1,by omega⟩).1 h1
   obtain⟨u,g1,g2,g3,g4⟩:=(ih p2 j2).1 h5
   refine⟨u++l::h,fun m hm=>?_,?_,Fy.2 ⟨j2,g3,j1,h7,h3⟩,?_⟩
   ·rcases List.mem_append.1 hm with hm|hm
    ·exact g1 m hm
    ·rcases List.mem_cons.1 hm with rfl|hm
     ·exact .inr hwl
     ·exact .inl (h2 m hm)
   ·unfold BW at *
    rw [List.filter_append,g2,List.filter_cons_of_pos (by simpa using hlb.2.2)]
    have:=Su h2
    unfold BW at this
    rw [this]
   ·rw [Lr,←g4,h4]
    show _=Dj (fA t.q) (Cy t.q ((p2:Int).toNat) l) h
    rw [Int.toNat_natCast,h6]
  ·rintro⟨u,g1,g2,g3,g4⟩
   unfold BW at g2
   obtain⟨u1,u2,rfl,e1,e2⟩:=List.filter_eq_append_iff.1 g2
   obtain⟨h1,h2,rfl,e3,e4,e5⟩:=List.filter_eq_cons_iff.1 e2
   have hh1:∀m∈h1,m∈Cn t:=Tz (fun m hm=>g1 m (by simp [hm])) (by unfold BW;exact List.filter_eq_nil_iff.2 e3)
   have hh2:∀m∈h2,m∈Cn t:=Tz (fun m hm=>g1 m (by simp [hm])) e5
   obtain⟨y1,c1,c2⟩:=Fy.1 g3
   obtain⟨y2,c3,y3,c4,c5⟩:=Fy.1 c2
   have hs:AR t.s=true:=by unfold A9 at ht;simp only [Bool.and_eq_true] at ht;exact ht.1
   have hst:=AM hs
   have hq:=Cr ht
   have hqn:=AG hq
   have hin:∀m∈u1++(h1++l::h2),0≤m∧m < 6:=fun m hm=>by
    rcases g1 m hm with h|h
    ·have:=DF ht h;omega
    ·have:=Ak h;omega
   have b1:=N0 hs ⟨by omega,by omega⟩ c1
   have b2:=N0 hs b1 c3
   have b3:=Jo hs b2.1 b2.2 c4
   have a2:=Tl hq (w:=u1++h1) (q:=0) (fun m hm=>hin m (by rcases List.mem_append.1 hm with h|h<;>simp [h])) ⟨by omega,by omega⟩
   have a3:=Dg hq (q:=(Dj (fA t.q) 0 (u1++h1)).toNat) (by omega) hlb.1 (show l < 6 by omega)
   refine⟨(Cy t.q (Dj (fA t.q) 0 (u1++h1)).toNat l).toNat,y3.toNat,h2,(cJ ht hok ⟨hlb.1,by omega⟩).2 ⟨(Dj (fA t.q) 0 (u1++h1)).toNat,y2.toNat,(ih _ _).2 ⟨u1++h1,fun m hm=>?_,?_,?_,by omega⟩,by omega,?_⟩,hh2,?_,?_⟩
   ·rcases List.mem_append.1 hm with hm|hm
    ·exact g1 m (by simp [hm])
    ·exact .inl (hh1 m hm)
   ·have:=Su hh1
    unfold BW at *
    rw [List.filter_append,e1,this,List.append_nil]
   ·rw [show ((y2.toNat:Nat):Int)=y2 by omega]
    exact Fy.2 ⟨y1,c1,c3⟩
   ·rw [show ((y2.toNat:Nat):Int)=y2 by omega,show ((y3.toNat:Nat):Int)=y3 by omega];exact c4
   ·rw [show ((y3.toNat:Nat):Int)=y3 by omega];exact c5
   ·rw [show (((Cy t.q (Dj (fA t.q) 0 (u1++h1)).toNat l).toNat:Nat):Int)=Cy t.q (Dj (fA t.q) 0 (u1++h1)).toNat l by omega,g4,←List.append_assoc,Lr];rfl
theorem PW{w:List Int}(hw:∀l∈w,l∈Ac t.al):LS t (Dk w)=false↔∃u,Ze t u∧BW t.al u <+: w∧Hb t.s u∧Ha t.q u=false:=by
 unfold LS
 rw [RI]
 constructor
 ·rintro⟨k,h1,h2⟩
  have hwk:∀l∈w.take k,l∈Ac t.al:=fun l hl=>hw l (List.mem_of_mem_take hl)
  have hok:=Ok ht (w.take k) (Gm ht) fun m hm=>by have:=Ak (hwk m hm);omega
  obtain⟨p,j,h3,h4⟩:=(XU hok).1 h2
  obtain⟨u,g1,g2,g3,g4⟩:=(YY ht _ hwk).1 h3
  exact⟨u,g1,by rw [g2];exact List.take_prefix _ _,⟨_,g3⟩,by unfold Ha;rw [←g4];exact h4⟩
 ·rintro⟨u,g1,g2,⟨q,g3⟩,g4⟩
  refine⟨(BW t.al u).length,g2.length_le,?_⟩
  have e:w.take (BW t.al u).length=BW t.al u:=(List.prefix_iff_eq_take.1 g2).symm
  rw [e]
  have hv:∀l∈BW t.al u,l∈Ac t.al:=fun l hl=>hw l (g2.subset hl)
  have hs:AR t.s=true:=by unfold A9 at ht;simp only [Bool.and_eq_true] at ht;exact ht.1
  have hst:=AM hs
  have hq:=Cr ht
  have hqn:=AG hq
  have hok:=Ok ht (BW t.al u) (Gm ht) fun m hm=>by have:=Ak (hv m hm);omega
  have b:=N0 hs (⟨by omega,by omega⟩:(0:Int)≤0∧(0:Int) < t.s.st) g3
  have a:=Tl hq (w:=u) (q:=0) (fun m hm=>by
   rcases g1 m hm with h|h
   ·have:=DF ht h;omega
   ·have:=Ak h;omega) ⟨by omega,by omega⟩
  refine(XU hok).2 ⟨(Dj (fA t.q) 0 u).toNat,q.toNat,(YY ht _ hv).2 ⟨u,g1,rfl,?_,by omega⟩,?_⟩
  ·rw [show ((q.toNat:Nat):Int)=q by omega];exact g3
  ·rw [show (((Dj (fA t.q) 0 u).toNat:Nat):Int)=Dj (fA t.q) 0 u by omega];exact g4
end
theorem IW{s:Sys}:∀ {u:List Int} {q r:Int},JM (MK s) u q r↔JM (MK s) (BW s.al u) q r
 | [],q,r=>Iff.rfl
 | l :: u,q,r=>by
  have ih:=fun q=>IW (s:=s) (u:=u) (q:=q) (r:=r)
  by_cases hb:A0 s.al l.toNat=true
  ·have e:BW s.al (l::u)=l::BW s.al u:=List.filter_cons_of_pos hb
   rw [e]
   exact⟨fun ⟨y,h1,h2⟩=>⟨y,h1,(ih y).1 h2⟩,fun ⟨y,h1,h2⟩=>⟨y,h1,(ih y).2 h2⟩⟩
  ·have e:BW s.al (l::u)=BW s.al u:=List.filter_cons_of_neg hb
   have e2:MK s q l=[q]:=by show BI s q l=_;unfold BI;rw [if_neg hb]
   rw [e,←ih q]
   constructor
   ·rintro⟨y,h1,h2⟩
    rw [e2] at h1
    obtain rfl:y=q:=by simpa using h1
    exact h2
   ·intro h
    exact⟨q,by rw [e2];simp,h⟩
theorem Vu{s:Sys}{u v:List Int}(h:BW s.al u=BW s.al v):Hb s u↔Hb s v:=by
 unfold Hb
 constructor
 ·rintro⟨q,hq⟩;exact⟨q,IW.2 (h ▸ IW.1 hq)⟩
 ·rintro⟨q,hq⟩;exact⟨q,IW.2 (h.symm ▸ IW.1 hq)⟩
theorem Pw{a:AU}(ha:AN a=true):∀ {u:List Int} {q:Int},(∀l∈u,0≤l∧l < 6)→0≤q∧q < a.nx.length→Dj (fA a) q u=Dj (fA a) q (BW a.al u)
 | [],q,_,_=>rfl
 | l :: u,q,hu,hq=>by
  have hl:=hu l (by simp)
  have hg:=Dg ha (q:=q.toNat) (by omega) hl.1 hl.2
  have ih:=fun q=>Pw ha (u:=u) (q:=q) fun m hm=>hu m (by simp [hm])
  by_cases hb:A0 a.al l.toNat=true
  ·have e:BW a.al (l::u)=l::BW a.al u:=List.filter_cons_of_pos hb
   rw [e]
   exact ih _ hg
  ·have e:BW a.al (l::u)=BW a.al u:=List.filter_cons_of_neg hb
   have e2:Cy a q.toNat l=q:=by unfold Cy;rw [if_neg hb];omega
   rw [e]
   show Dj (fA a) (Cy a q.toNat l) u=_
   rw [e2]
   exact ih _ hq
def IL(u:List Int):Prop:=∀l∈u,0≤l∧l < 6
theorem Sa{a:AU}(ha:AN a=true){u v:List Int}(hu:IL u)(hv:IL v)(h:BW a.al u=BW a.al v):Ha a u=Ha a v:=by
 have hn:=AG ha
 unfold Ha
 rw [Pw ha hu ⟨by omega,by omega⟩,Pw ha hv ⟨by omega,by omega⟩,h]
theorem Zj{al:Int}{u:List Int}(hu:IL u):IL (BW al u):=fun l hl=>hu l (List.mem_filter.1 hl).1
theorem Xz{al:Int}{u:List Int}(hu:IL u):∀l∈BW al u,l∈Ac al:=fun l hl=>by
 obtain⟨h1,h2⟩:=List.mem_filter.1 hl
 have:=hu l h1
 obtain⟨n,rfl⟩:∃n:Nat,l=n:=⟨l.toNat,by omega⟩
 exact D0.2 ⟨by omega,h2⟩
theorem GL{al:Int}{u:List Int}(hu:∀l∈u,l∈Ac al):IL u:=fun l hl=>by have:=Ak (hu l hl);omega
theorem TA{al bl:Int}{u:List Int}(h:∀l∈u,A0 al l.toNat=true→A0 bl l.toNat=true):BW al (BW bl u)=BW al u:=by
 unfold BW
 rw [List.filter_filter]
 refine List.filter_congr fun l hl=>?_
 cases ha:A0 al l.toNat
 ·rfl
 ·rw [h l hl ha];rfl
theorem fM{al:Int}:∀ {v w:List Int},w <+: BW al v→∃v',v' <+: v∧BW al v'=w:=fun {v w} ⟨z,h⟩=>by
 obtain⟨v1,v2,rfl,h1,_⟩:=List.filter_eq_append_iff.1 h.symm
 exact⟨v1,List.prefix_append _ _,h1⟩
theorem dY{s:Sys}{u v:List Int}(h:u <+: v)(hv:Hb s v):Hb s u:=by
 obtain⟨z,rfl⟩:=h
 obtain⟨q,hq⟩:=hv
 obtain⟨y,h1,_⟩:=Fy.1 hq
 exact⟨y,h1⟩
theorem merge{A B:Int→Bool}:∀(u:List Int) {v:List Int},(∀l∈u,A l=true)→(∀l∈v,B l=true)→u.filter B=v.filter A→∃x:List Int,x.filter A=u∧x.filter B=v∧∀l∈x,l∈u∨l∈v
 | [],v,_,hv,h=>⟨v,h.symm,List.filter_eq_self.2 hv,fun l hl=>.inr hl⟩
 | l :: u, v,hu,hv,h=>by
  have hA:=hu l (by simp)
  by_cases hB:B l=true
  ·rw [List.filter_cons_of_pos hB] at h
   obtain⟨v1,v2,rfl,h1,h2,h3⟩:=List.filter_eq_cons_iff.1 h.symm
   obtain⟨x,x1,x2,x3⟩:=merge u (v:=v2) (fun m hm=>hu m (by simp [hm])) (fun m hm=>hv m (by simp [hm])) h3.symm
   refine⟨v1++l::x,?_,?_,fun m hm=>?_⟩
   ·rw [List.filter_append,List.filter_eq_nil_iff.2 h1,List.filter_cons_of_pos hA,x1];rfl
   ·rw [List.filter_append,List.filter_eq_self.2 fun m hm=>hv m (by simp [hm]),List.filter_cons_of_pos hB,x2]
   ·rcases List.mem_append.1 hm with hm|hm
    ·exact .inr (by simp [hm])
    ·rcases List.mem_cons.1 hm with rfl|hm
     ·exact .inl (by simp)
     ·rcases x3 m hm with h|h
      ·exact .inl (by simp [h])
      ·exact .inr (by simp [h])
  ·rw [List.filter_cons_of_neg hB] at h
   obtain⟨x,x1,x2,x3⟩:=merge u (v:=v) (fun m hm=>hu m (by simp [hm])) hv h
   refine⟨l::x,?_,?_,fun m hm=>?_⟩
   ·rw [List.filter_cons_of_pos hA,x1]
   ·rw [List.filter_cons_of_neg hB,x2]
   ·rcases List.mem_cons.1 hm with rfl|hm
    ·exact .inl (by simp)
    ·rcases x3 m hm with h|h
     ·exact .inl (by simp [h])
     ·exact .inr h
theorem Mb{a b:Int}(ha:A4 a=true)(hb:A4 b=true){n:Nat}(hn:n < 64):A0 (GZ .i64 a b) n=(A0 a n || A0 b n):=by
 unfold A4 at ha hb
 simp only [decide_eq_true_eq] at ha hb
 obtain⟨x,rfl⟩:∃x:Nat,a=x:=⟨a.toNat,by omega⟩
 obtain⟨y,rfl⟩:∃y:Nat,b=y:=⟨b.toNat,by omega⟩
 have h:=KZ (a:=x) (b:=y) (by omega) (by omega)
 rw [h.1,C8 (by omega) hn,C8 (by omega) hn,C8 (by omega) hn,Nat.testBit_or]
theorem eQ{a b:Int}(ha:A4 a=true)(hb:A4 b=true){n:Nat}(hn:n < 64):A0 (Hc .i64 a b) n=(A0 a n && A0 b n):=by
 unfold A4 at ha hb
 simp only [decide_eq_true_eq] at ha hb
 obtain⟨x,rfl⟩:∃x:Nat,a=x:=⟨a.toNat,by omega⟩
 obtain⟨y,rfl⟩:∃y:Nat,b=y:=⟨b.toNat,by omega⟩
 have h:=KX (a:=x) (b:=y) (by omega) (by omega)
 have h64:x &&& y < 64:=Nat.lt_of_le_of_lt Nat.and_le_left (by omega)
 rw [h,C8 (by omega) hn,C8 (by omega) hn,C8 (by omega) hn,Nat.testBit_and]
structure FW (s:Sys) (p:AU) (t:Sys) (al:Int):Prop where
 hs:AR s=true
 hp:AN p=true
 ht:AR t=true
 hal:al=AL s p t
section
variable {s t:Sys}{p:AU}{al:Int}(hI:FW s p t al)
include hI
theorem iI{n:Nat}(hn:n < 64):A0 al n=((A0 s.al n || A0 p.al n) && A0 t.al n):=by
 have h1:=(AM hI.hs).1
 have h2:=(AG hI.hp).1
 have h3:=(AM hI.ht).1
 rw [hI.hal]
 unfold AL
 rw [hI.hs,hI.hp,hI.ht]
 simp only [Bool.and_self,if_true]
 rw [eQ (KY h1 h2) h3 hn,Mb h1 h2 hn]
theorem QT:A4 al=true:=by
 have h1:=(AM hI.hs).1
 have h2:=(AG hI.hp).1
 have h3:=(AM hI.ht).1
 have h4:=KY h1 h2
 rw [hI.hal]
 unfold AL
 rw [hI.hs,hI.hp,hI.ht]
 simp only [Bool.and_self,if_true]
 unfold A4 at *
 simp only [decide_eq_true_eq] at *
 obtain⟨x,hx⟩:∃x:Nat,GZ .i64 s.al p.al=x:=⟨(GZ .i64 s.al p.al).toNat,by omega⟩
 obtain⟨y,hy⟩:∃y:Nat,t.al=y:=⟨t.al.toNat,by omega⟩
 have:=KX (a:=x) (b:=y) (by omega) (by omega)
 have h64:x &&& y < 64:=Nat.lt_of_le_of_lt Nat.and_le_left (by omega)
 rw [hx,hy,this]
 omega
theorem Gd:A9 ⟨s,p,al⟩=true:=by
 unfold A9
 rw [hI.hs,hI.hp,QT hI];rfl
theorem VH{v:List Int}(hv:∀l∈v,l∈Ac t.al)(ht:Hb t v)(hu:LS ⟨s,p,al⟩ (Dk (BW al v))=false):∃x,IL x∧(∀l∈x,A0 s.al l.toNat=true∨A0 t.al l.toNat=true)∧Hb s x∧Hb t x∧Ha p x=false:=by
 have hvn:=GL hv
 obtain⟨u,g1,g2,g3,g4⟩:=(PW (Gd hI) (Xz hvn)).1 hu
 have hun:IL u:=fun l hl=>by
  rcases g1 l hl with h|h
  ·have:=DF (Gd hI) h;omega
  ·have:=Ak h;omega
 obtain⟨v',p1,p2⟩:=fM g2
 have hv':∀l∈v',l∈Ac t.al:=fun l hl=>hv l (p1.subset hl)
 have hbit:=fun (l:Int) (h:0≤l∧l < 6)=>iI hI (n:=l.toNat) (by omega)
 have hA:∀l∈u,(A0 s.al l.toNat || A0 al l.toNat)=true:=fun l hl=>by
  rcases g1 l hl with h|h
  ·rw [(DF (Gd hI) h).2.2];rfl
  ·rw [(Ak h).2.2,Bool.or_true]
 have hB:∀l∈v',A0 t.al l.toNat=true:=fun l hl=>(Ak (hv' l hl)).2.2
 have e:u.filter (fun l=>A0 t.al l.toNat)=v'.filter fun l=>A0 s.al l.toNat || A0 al l.toNat:=by
  have e1:u.filter (fun l=>A0 t.al l.toNat)=BW al u:=List.filter_congr fun l hl=>by
   have h5:=hA l hl
   rw [hbit l (hun l hl)] at h5 ⊢
   revert h5
   cases A0 s.al l.toNat<;>cases A0 p.al l.toNat<;>cases A0 t.al l.toNat<;>simp
  have e2:v'.filter (fun l=>A0 s.al l.toNat || A0 al l.toNat)=BW al v':=List.filter_congr fun l hl=>by
   have h5:=hB l hl
   rw [hbit l (GL hv' l hl),h5]
   cases A0 s.al l.toNat<;>cases A0 p.al l.toNat<;>simp
  rw [e1,e2,p2]
 obtain⟨x,x1,x2,x3⟩:=merge u hA hB e
 have hxn:IL x:=fun l hl=>by
  rcases x3 l hl with h|h
  ·exact hun l h
  ·exact GL hv' l h
 have hxl:∀l∈x,A0 s.al l.toNat=true∨A0 t.al l.toNat=true:=fun l hl=>by
  rcases x3 l hl with h|h
  ·have h5:=hA l h
   rw [hbit l (hun l h)] at h5
   revert h5
   cases A0 s.al l.toNat<;>cases A0 p.al l.toNat<;>cases A0 t.al l.toNat<;>simp
  ·exact .inr (hB l h)
 have hvx:∀ {bl:Int},(∀l∈x,A0 bl l.toNat=true→(A0 s.al l.toNat || A0 al l.toNat)=true)→BW bl u=BW bl x:=fun {bl} h=>by
  rw [←x1]
  show List.filter _ (List.filter _ x)=List.filter _ x
  rw [List.filter_filter]
  refine List.filter_congr fun l hl=>?_
  cases hb:A0 bl l.toNat
  ·rfl
  ·rw [h l hl hb];rfl
 refine⟨x,hxn,hxl,(Vu (hvx fun l _ h=>by rw [h];rfl)).1 g3,?_,?_⟩
 ·have:=dY p1 ht
  refine(Vu ?_).1 this
  have x2:BW t.al x=v':=x2
  rw [←x2,TA fun _ _ h=>h]
 ·rw [←g4]
  refine Sa hI.hp hxn hun (hvx fun l hm h=>?_).symm
  have:=hbit l (hxn l hm)
  rw [h,Bool.or_true,Bool.true_and] at this
  rcases hxl l hm with h5|h5
  ·rw [h5];rfl
  ·rw [this,h5,Bool.or_true]
end
theorem Jz{al:Int}{u:List Int}(hu:IL u)(h:∀l∈u,A0 al l.toNat=true):∀l∈u,l∈Ac al:=fun l hl=>by
 have:=hu l hl
 obtain⟨n,rfl⟩:∃n:Nat,l=n:=⟨l.toNat,by omega⟩
 have h2:=h _ hl
 rw [Int.toNat_natCast] at h2
 exact D0.2 ⟨by omega,h2⟩
theorem VX{g:Gr}{w:List Int}(h:DV g=some w):over g w∧Sv g w∧∀u,over g u→Sv g u→¬slt u w:=by
 have:=Du g
 rw [h] at this;exact this
theorem eK{g:Gr}(h:DV g=none):∀u,over g u→¬Sv g u:=by
 have:=Du g
 rw [h] at this;exact this
theorem Ky{s:Sys}{a p:AU}{w:List Int}(h:DN s a p=some w):Dl s a p=true∧(∀l∈w,l∈Ac (GZ .i64 s.al a.al))∧Hb s w∧Ha a w=true∧Ha p w=false:=by
 unfold DN at h
 by_cases hv:Dl s a p=true
 ·rw [if_pos hv] at h
  obtain⟨h1,h2,_⟩:=VX h
  exact⟨hv,h1,(l5 hv h1).1 h2⟩
 ·rw [if_neg hv] at h;cases h
theorem Xy{l:List Sys}{p:AU}{w:List Int}(h:BJ l p=some w):(A5 l && AN p)=true∧(∀m∈w,m∈Ac (Bq l))∧(∀s∈l,Hb s w)∧Ha p w=false:=by
 unfold BJ at h
 by_cases hv:(A5 l && AN p)=true
 ·rw [if_pos hv] at h
  obtain⟨h1,h2,_⟩:=VX h
  exact⟨hv,h1,(iE hv h1).1 h2⟩
 ·rw [if_neg hv] at h;cases h
theorem WC{l:List Sys}{p:AU}(hv:(A5 l && AN p)=true):I7 l p=true↔∀w,(∀m∈w,m∈Ac (Bq l))→(∀s∈l,Hb s w)→Ha p w=true:=by
 unfold I7 BJ
 rw [hv,Bool.true_and,if_pos rfl]
 constructor
 ·intro h w hw h1
  cases ho:DV (Ex (CS l p)) with
  | some x=>rw [ho] at h;cases h
  | none=>
   have:=eK ho w hw
   rw [iE hv hw] at this
   cases h3:Ha p w
   ·exact absurd ⟨h1,h3⟩ this
   ·rfl
 ·intro h
  cases ho:DV (Ex (CS l p)) with
  | none=>rfl
  | some x=>
   obtain⟨h1,h2,_⟩:=VX ho
   obtain⟨h3,h5⟩:=(iE hv h1).1 h2
   rw [h x h1 h3] at h5;cases h5
theorem TZ(n:Nat)(hn:n < 64):A0 0 n=false:=by
 have:=C8 (s:=0) (n:=n) (by omega) hn
 rw [show ((0:Nat):Int)=0 from rfl] at this
 rw [this];simp
theorem JB{t:Sys}:A5 [t]=AR t:=by simp [A5]
theorem MA{s t:Sys}:A5 [s,t]=(AR s && AR t):=by simp [A5]
theorem XV{t:Sys}(ht:AR t=true){n:Nat}(hn:n < 64):A0 (Bq [t]) n=A0 t.al n:=by
 unfold Bq
 rw [JB,ht,if_pos rfl]
 show A0 (GZ .i64 0 t.al) n=_
 rw [Mb (by decide) (AM ht).1 hn,TZ n hn,Bool.false_or]
theorem XW{s t:Sys}(hs:AR s=true)(ht:AR t=true){n:Nat}(hn:n < 64):A0 (Bq [s,t]) n=(A0 s.al n || A0 t.al n):=by
 unfold Bq
 rw [MA,hs,ht,Bool.and_self,if_pos rfl]
 show A0 (GZ .i64 (GZ .i64 0 s.al) t.al) n=_
 have h0:A4 0=true:=by decide
 rw [Mb (KY h0 (AM hs).1) (AM ht).1 hn,Mb h0 (AM hs).1 hn,TZ n hn,Bool.false_or]
theorem iZ{t:Sys}(ht:AR t=true){u:List Int}:(∀l∈u,l∈Ac (Bq [t]))↔∀l∈u,l∈Ac t.al:=by
 constructor
 ·intro h
  have hn:=GL h
  exact Jz hn fun l hl=>by rw [←XV ht (by have:=hn l hl;omega)];exact(Ak (h l hl)).2.2
 ·intro h
  have hn:=GL h
  exact Jz hn fun l hl=>by rw [XV ht (by have:=hn l hl;omega)];exact(Ak (h l hl)).2.2
theorem fF{s t:Sys}(hs:AR s=true)(ht:AR t=true){u:List Int}:(∀l∈u,l∈Ac (Bq [s,t]))↔IL u∧∀l∈u,A0 s.al l.toNat=true∨A0 t.al l.toNat=true:=by
 constructor
 ·intro h
  have hn:=GL h
  refine⟨hn,fun l hl=>?_⟩
  have:=(Ak (h l hl)).2.2
  rw [XW hs ht (by have:=hn l hl;omega),Bool.or_eq_true] at this
  exact this
 ·rintro⟨hn,h⟩
  exact Jz hn fun l hl=>by rw [XW hs ht (by have:=hn l hl;omega),Bool.or_eq_true];exact h l hl
theorem kG{a b:Int}(ha:A4 a=true)(hb:A4 b=true){u:List Int}:(∀l∈u,l∈Ac (GZ .i64 a b))↔IL u∧∀l∈u,A0 a l.toNat=true∨A0 b l.toNat=true:=by
 constructor
 ·intro h
  have hn:=GL h
  refine⟨hn,fun l hl=>?_⟩
  have:=(Ak (h l hl)).2.2
  rw [Mb ha hb (by have:=hn l hl;omega),Bool.or_eq_true] at this
  exact this
 ·rintro⟨hn,h⟩
  exact Jz hn fun l hl=>by rw [Mb ha hb (by have:=hn l hl;omega),Bool.or_eq_true];exact h l hl
theorem gx{s t:Sys}{w:List Int}:(∀x∈[s,t],Hb x w)↔Hb s w∧Hb t w:=by simp
theorem fG{t:Sys}{w:List Int}:(∀x∈[t],Hb x w)↔Hb t w:=by simp
theorem Tv{s t:Sys}{p:AU}{al:Int}(hI:FW s p t al){v:List Int}(hv:∀l∈v,l∈Ac t.al)(ht:Hb t v)(hu:LS ⟨s,p,al⟩ (Dk (BW al v))=false):I7 [s,t] p=false:=by
 have hp2:(A5 [s,t] && AN p)=true:=by rw [MA,hI.hs,hI.ht,hI.hp];rfl
 obtain⟨x,x1,x2,x3,x4,x5⟩:=VH hI hv ht hu
 cases hk:I7 [s,t] p
 ·rfl
 ·rw [WC hp2] at hk
  rw [hk x ((fF hI.hs hI.ht).2 ⟨x1,x2⟩) (gx.2 ⟨x3,x4⟩)] at x5
  cases x5
theorem bj{a:AU}{w:List Int}(hw:∀l∈w,l∈Ac a.al):LA a (Dk w)=Ha a w:=by
 unfold Ha
 rw [RG w 0 hw];rfl
theorem XB{s t:Sys}{p a:AU}{al:Int}(hI:FW s p t al)(ha:AN a=true)(hal:a.al=al){u:List Int}(h:DN s a p=some u):(∀l∈BW al u,l∈Ac al)∧LA a (Dk (BW al u))=true∧LS ⟨s,p,al⟩ (Dk (BW al u))=false:=by
 obtain⟨hv,hl,hs,h1,h2⟩:=Ky h
 have hn:=GL hl
 have hvo:=Xz (al:=al) hn
 have hls:=((kG (AM hI.hs).1 (AG ha).1).1 hl).2
 refine⟨hvo,?_,(PW (Gd hI) hvo).2 ⟨u,fun l hm=>?_,List.prefix_refl _,hs,h2⟩⟩
 ·rw [bj (by rw [hal];exact hvo),←h1]
  exact Sa ha (Zj hn) hn (by rw [hal,TA fun _ _ h=>h])
 ·have hb:=hn l hm
  rw [hal] at hls
  by_cases hx:A0 al l.toNat=true
  ·exact .inr (Jz (u:=[l]) (by intro m hm;simp at hm;subst hm;exact hb) (by intro m hm;simp at hm;subst hm;exact hx) l (by simp))
  ·refine .inl ?_
   unfold Cn
   refine List.mem_filter.2 ⟨?_,by simpa using hx⟩
   have hsb:A0 s.al l.toNat=true:=(hls l hm).resolve_right hx
   exact Jz (u:=[l]) (by intro m hm;simp at hm;subst hm;exact hb) (by intro m hm;simp at hm;subst hm;exact hsb) l (by simp)
theorem Hf{t:Sys}{a:AU}{v:List Int}(h:BJ [t] a=some v):AR t=true∧AN a=true∧(∀l∈v,l∈Ac t.al)∧Hb t v∧Ha a v=false:=by
 obtain⟨hv,hl,hs,h2⟩:=Xy h
 rw [Bool.and_eq_true,JB] at hv
 exact⟨hv.1,hv.2,(iZ hv.1).1 hl,fG.1 hs,h2⟩
theorem Wn{t:Sys}{a:AU}{v:List Int}(h:BJ [t] a=some v):(∀l∈BW a.al v,l∈Ac a.al)∧LA a (Dk (BW a.al v))=false:=by
 obtain⟨h1,h2,h3,h4,h5⟩:=Hf h
 have hn:=GL h3
 have hvo:=Xz (al:=a.al) hn
 refine⟨hvo,?_⟩
 rw [bj hvo,←h5]
 exact Sa h2 (Zj hn) hn (by rw [TA fun _ _ h=>h])
end Go.Am
namespace Go.Am
open Go Go.Proofs
set_option maxHeartbeats 1000000
attribute [local irreducible] AS BT Lex Bc Au Spec
variable {TB:Bt}
theorem SP{t:Ew}{al:Int}{A:W→Bool}(hT:J0 Tryz.prog TB 120 175 t al A):Pure Tryz.prog TB 68 [EC t] (IB (Ie A al Bl)):=by
 have h1:Pure Tryz.prog TB 118 [EC t,DW Bl] (IB (Ie A al Bl)):=IV hT Bl ⟨by decide,by decide,fun w hw=>by simp [Bl] at hw;subst hw;simp,fun w hw=>by simp [Bl] at hw;subst hw;simp⟩
 rcases hc:Ie A al Bl with _|x<;>rw [hc] at h1<;>(
  refine eG Tryz.func68 rfl (by kernel_rfl) rfl ?_;intro Γ hΓ
  (repeat' first |refine sN rfl ?_ |((first|refine sA rfl ?_ ?_|refine s4 rfl ‹_› rfl ?_ ?_);first|exact tI|omega|simp only[oZ] at *;omega) |(refine s2 rfl fun _ _hb=>?_;try (simp only[Bool.not_true,Bool.not_false] at _hb;subst _hb)) |refine sP rfl (h1) rfl ?_|(refine Ai rfl ?_;refine gA rfl ?_;first|refine gS (fun _ _=>AQ rfl rfl (by rfl) (by rfl)) ?_) |refine s3 rfl ?_ ?_<;>rintro rfl |refine aU rfl ?_ |refine Aa ?_ |refine rE (by kernel_rfl) ?_|(refine aC rfl ?_ ?_<;>rintro⟨⟩)|refine aK ?_|refine aE ?_|refine aB ?_|refine aR ⟨_,rfl,?_⟩)
  all_goals rfl)
end Go.Am
namespace Go.Am
open Go Go.Proofs
set_option maxHeartbeats 1000000
attribute [local irreducible] AS BT Lex Bc Au Spec
variable {tabs:List (Nat×Obj)}
theorem cP{L:W→Bool}{ls:List UInt8}{t:AW}(hc:t.cols=[[]])(h2:2≤t.rows.length)(hn:(AF L t).Nodup):A8 L ls t=none:=by
 cases ho:A8 L ls t with
 | none=>rfl
 | some w=>
  exfalso
  have hm:=(Ir ho).2
  obtain⟨a,ha⟩:=get_some (l:=t.rows) (k:=0) (by omega)
  obtain⟨b,hb⟩:=get_some (l:=t.rows) (k:=1) (by omega)
  have ne:=cx hn hb ha (by omega)
  have h1:marks L t.cols a∈AF L t:=List.mem_map_of_mem (List.mem_of_getElem? ha)
  have h2:marks L t.cols b∈AF L t:=List.mem_map_of_mem (List.mem_of_getElem? hb)
  have hk:∀v:W,marks L t.cols v=[Rp (L v)]:=fun v=>by rw [hc];simp [marks]
  rw [hk] at hm h1 h2 ne
  rw [hk] at ne
  cases hx:L a<;>cases hy:L b<;>cases hz:L w<;>simp_all
theorem kB(L:W→Bool)(ls:List UInt8):∃u,Bf L ls 13 Bl=some u∧u.cols=[[]]∧u.rows.length≤2:=by
 unfold Bf
 cases h:A8 L ls Bl with
 | none=>exact⟨Bl,rfl,rfl,by decide⟩
 | some w=>
  dsimp only
  rw [if_neg (by decide)]
  unfold Bf
  have hk:=(MN L ls).push h
  have hf:=cP (ls:=ls) (t:=⟨Bl.rows++[w],Bl.cols⟩) rfl (by simp [Bl]) hk.nd
  rw [hf]
  exact⟨_,rfl,rfl,by simp [Bl]⟩
theorem iS{te:Ew}(h:CG te=true):∃u,SL te=some u∧AX (ES te) (DK te) u=true∧A8 (BV te) (AZ (AY te)) u=none∧u.cols=[[]]∧u.rows.length≤2∧BL (BV te) (AZ (AY te)) u∧0≤AY te:=by
 obtain⟨u,hu,hc,hr⟩:=kB (BV te) (AZ (AY te))
 obtain⟨k1,k2,k3,k4,k5,k6,k7⟩:=OC (MN _ _) hu
 have ha:=GW h
 have h0:0≤AY te:=by unfold A4 at ha;simp only [Bool.and_eq_true,decide_eq_true_eq] at ha;omega
 refine⟨u,by unfold SL;rw [if_pos h,hu],?_,k2,hc,hr,⟨k1,GM k2⟩,h0⟩
 rw [←Dc,h,Bool.true_and]
 refine JJ ha h0 k1 (by omega) (by rw [hc];decide) (fun w hw=>?_) (fun w hw=>by rw [hc] at hw;simp at hw;subst hw;simp)
 obtain⟨i,hi,he⟩:=List.getElem_of_mem hw
 have:=k1.short i w (by rw [List.getElem?_eq_getElem hi,he])
 omega
theorem iR(te:Ew):Ie (ES te) (DK te) Bl=SL te:=by
 have h:=T9 te Bl
 unfold Ie
 refine h.trans ?_
 unfold Hr SL
 cases hk:CG te
 ·rfl
 ·have ha:=GW hk
  have h0:0≤AY te:=by unfold A4 at ha;simp only [Bool.and_eq_true,decide_eq_true_eq] at ha;omega
  have hbd:=JH (AY te)
  rw [JJ ha h0 (MN _ _) (by decide) (by decide) (fun w hw=>by have:=(hbd.onR w hw).2;omega) (fun w hw=>by simp [Bl] at hw;subst hw;simp)]
  rfl
end Go.Am
namespace Go.Am
open Go Go.Proofs
set_option maxHeartbeats 1000000
attribute [local irreducible] AS BT Lex Bc Au Spec
abbrev G0:AU:=⟨0,[],[]⟩
abbrev Et(s:Sys)(p:AU)(al:Int):Ew:=⟨false,G0,s,p,al⟩
noncomputable def Gf(s t:Sys)(p:AU)(al:Int)(a:AU):Option (W×Bool):=match DN s a p with
 | some u=>some (Dk (BW al u),true)
 | none=>match BJ [t] a with
  | some v=>some (Dk (BW al v),false)
  | none=>none
noncomputable def BK(s:Sys)(p:AU)(al:Int)(x:AW):AU:=AT (LS ⟨s,p,al⟩) al x
noncomputable def HM(s t:Sys)(p:AU)(al:Int)(x:AW):Option AW:=match Gf s t p al (BK s p al x) with
 | some (w,b)=>if (b || LS ⟨s,p,al⟩ w)=true then Lz (Et s p al) x w else none
 | none=>none
noncomputable def EA(s t:Sys)(p:AU)(al:Int):Nat→AW→List AW
 | 0,x=>[x]
 | k+1,x=>x::match HM s t p al x with
  | some y=>EA s t p al k y
  | none=>[]
structure Vd where
 code:Int
 a:AU
 tr:W
 rd:Int
noncomputable def O2(s t:Sys)(p:AU)(al:Int)(x:AW)(r:Nat):Vd:=match Gf s t p al (BK s p al x) with
 | none=>⟨0,BK s p al x,[],r⟩
 | some (w,b)=>if (b || LS ⟨s,p,al⟩ w)=true then ⟨2,G0,[],r⟩ else ⟨1,G0,J7 (BJ [s,t] p),r⟩
noncomputable def gp(s:Sys)(p:AU)(al:Int):AW:=(SL (Et s p al)).getD Bl
noncomputable def Bn(s t:Sys)(p:AU)(al:Int):List AW:=EA s t p al 11 (gp s p al)
noncomputable def GX(s t:Sys)(p:AU):Vd:=if AL s p t < 0 then ⟨3,G0,[],0⟩ else
 O2 s t p (AL s p t) ((Bn s t p (AL s p t)).getLastD Bl) (Bn s t p (AL s p t)).length
structure Hq (s:Sys) (p:AU) (al:Int) (x:AW) (r:Nat):Prop where
 v:AX (ES (Et s p al)) (DK (Et s p al)) x=true
 o:A8 (LS ⟨s,p,al⟩) (AZ al) x=none
 rows:r≤x.rows.length
 cols:x.cols.length=r
theorem Ny(s:Sys)(p:AU)(al:Int):BV (Et s p al)=LS ⟨s,p,al⟩:=by
 funext w
 unfold BV
 rw [if_neg Bool.false_ne_true]
theorem Fm(s:Sys)(p:AU)(al:Int):AY (Et s p al)=al:=by
 unfold AY
 rw [if_neg Bool.false_ne_true]
theorem Ts{s:Sys}{p:AU}{al:Int}(h:A9 ⟨s,p,al⟩=true):SL (Et s p al)=some (gp s p al)∧Hq s p al (gp s p al) 1:=by
 have hk:CG (Et s p al)=true:=by unfold CG;rw [if_neg Bool.false_ne_true];exact h
 obtain⟨u,h1,h2,h3,h4,h5,h6,h7⟩:=iS hk
 unfold gp
 rw [h1]
 refine⟨rfl,h2,?_,?_,by show u.cols.length=1;rw [h4];rfl⟩
 ·rw [Ny,Fm] at h3;exact h3
 ·show 1≤u.rows.length
  have:=(List.getElem?_eq_some_iff.1 h6.r0).1
  omega
theorem SQ{s t:Sys}{p:AU}{al:Int}{x y:AW}{r:Nat}(hx:Hq s p al x r)(h:HM s t p al x=some y):Hq s p al y (r+1)∧x.rows.length < y.rows.length:=by
 unfold HM at h
 split at h
 ·split at h
  ·obtain⟨_,_,h2,h3,_,h5,v,h6⟩:=jt h
   have hr:=hx.rows
   have hc:=hx.cols
   rw [Ny,Fm] at h3
   exact⟨⟨h2,h3,by omega,by rw [h6];simp;omega⟩,h5⟩
  ·cases h
 ·cases h
theorem Vy{s:Sys}{p:AU}{al:Int}{x:AW}{r:Nat}(hx:Hq s p al x r):x.rows.length≤12∧r≤12:=by
 obtain⟨_,_,_,hsh,_⟩:=Dp hx.v
 have:=hsh.rl
 have:=hx.rows
 omega
theorem PN{s t:Sys}{p:AU}{al:Int}:∀(k:Nat) {x:AW} {r:Nat},Hq s p al x r→∀(i:Nat) (y:AW),(EA s t p al k x)[i]? = some y→Hq s p al y (r+i)
 | 0,x,r,hx,i,y,h=>by
  cases i with
  | zero=>simp [EA] at h;subst h;exact hx
  | succ i=>simp [EA] at h
 | k + 1,x,r,hx,i,y,h=>by
  cases i with
  | zero=>simp [EA] at h;subst h;exact hx
  | succ i=>
   simp only [EA,List.getElem?_cons_succ] at h
   cases hn:HM s t p al x with
   | none=>rw [hn] at h;simp at h
   | some z=>
    rw [hn] at h
    have:=PN k (SQ hx hn).1 i y h
    rwa [show r+1+i=r+(i+1) by omega] at this
theorem eb{s t:Sys}{p:AU}{al:Int}(k:Nat)(x:AW):EA s t p al k x≠[]:=by cases k<;>simp [EA]
theorem PM{s t:Sys}{p:AU}{al:Int}:∀(k:Nat) {x:AW} {r:Nat},Hq s p al x r→12≤k+r→∀(i:Nat) (y:AW),(EA s t p al k x)[i]? = some y→(EA s t p al k x)[i+1]? = HM s t p al y
 | 0, x,r,hx,hk,i,y,h=>by
  cases i with
  | zero=>
   simp [EA] at h
   subst h
   cases hn:HM s t p al x with
   | none=>simp [EA]
   | some z=>
    have:=Vy (SQ hx hn).1
    omega
  | succ i=>simp [EA] at h
 | k + 1,x,r,hx,hk,i,y,h=>by
  simp only [EA] at h ⊢
  cases hn:HM s t p al x with
  | none=>
   rw [hn] at h
   cases i with
   | zero=>simp at h;subst h;simp [hn]
   | succ i=>simp at h
  | some z=>
   rw [hn] at h
   cases i with
   | zero=>
    simp at h;subst h
    rw [hn]
    cases k<;>simp [EA]
   | succ i=>
    simp only [List.getElem?_cons_succ] at h ⊢
    exact PM k (SQ hx hn).1 (by omega) i y h
section
variable {s t:Sys}{p:AU}{al:Int}(hI:FW s p t al)
include hI
theorem run_get{i:Nat}{x:AW}(h:(Bn s t p al)[i]? = some x):Hq s p al x (i+1)∧(Bn s t p al)[i+1]? = HM s t p al x:=by
 obtain⟨_,h1⟩:=Ts (Gd hI)
 have h2:=PN 11 h1 i x h
 rw [Nat.add_comm] at h2
 exact⟨h2,PM 11 h1 (by omega) i x h⟩
theorem Lt:1≤(Bn s t p al).length∧(Bn s t p al).length≤12:=by
 have hne:Bn s t p al≠[]:=eb 11 _
 have h1:1≤(Bn s t p al).length:=List.length_pos_iff.2 hne
 obtain⟨x,hx⟩:=get_some (l:=Bn s t p al) (k:=(Bn s t p al).length - 1) (by omega)
 have:=(Vy (run_get hI hx).1).2
 omega
theorem dO:∃x,(Bn s t p al).getLastD Bl=x∧Hq s p al x (Bn s t p al).length∧HM s t p al x=none:=by
 have hl:=Lt hI
 obtain⟨x,hx⟩:=get_some (l:=Bn s t p al) (k:=(Bn s t p al).length - 1) (by omega)
 obtain⟨h1,h2⟩:=run_get hI hx
 rw [show (Bn s t p al).length - 1+1=(Bn s t p al).length by omega] at h1 h2
 refine⟨x,?_,h1,?_⟩
 ·rw [List.getLastD_eq_getLast?,List.getLast?_eq_getElem?,hx];rfl
 ·rw [←h2];simp
theorem Yt:¬AL s p t < 0:=by
 have:=QT hI
 rw [hI.hal] at this
 unfold A4 at this
 simp only [decide_eq_true_eq] at this
 omega
theorem J8{x:AW}{r:Nat}(hx:Hq s p al x r):AN (BK s p al x)=true∧(BK s p al x).al=al∧(BK s p al x).nx.length=x.rows.length∧BL (LS ⟨s,p,al⟩) (AZ al) x:=by
 obtain⟨_,_,hv,hsh,_⟩:=Dp hx.v
 have hk:=IA hv
 rw [Ny,Fm] at hk
 have hcl:BL (LS ⟨s,p,al⟩) (AZ al) x:=⟨hk,GM hx.o⟩
 exact⟨KI (QT hI) hcl hsh.rl,rfl,by simp [BK,AT],hcl⟩
theorem aO{x:AW}{r:Nat}(hx:Hq s p al x r):Dl s (BK s p al x) p=true∧(A5 [t] && AN (BK s p al x))=true:=by
 obtain⟨h1,_⟩:=J8 hI hx
 exact⟨by unfold Dl;rw [hI.hs,h1,hI.hp];rfl,by rw [JB,hI.ht,h1];rfl⟩
theorem QM{x:AW}{r:Nat}(hx:Hq s p al x r):(Gf s t p al (BK s p al x)=none↔Ih s t p (BK s p al x)=0)∧(Ih s t p (BK s p al x)=0∨Ih s t p (BK s p al x)=3∨Ih s t p (BK s p al x)=4):=by
 obtain⟨h1,h2,_⟩:=J8 hI hx
 obtain⟨v1,v2⟩:=aO hI hx
 have hn:=Yt hI
 have hal:(BK s p al x).al=AL s p t:=by rw [h2,hI.hal]
 unfold Ih
 rw [if_neg (not_or.2 ⟨hn,by rw [h1];simp⟩),if_neg (fun h=>h hal)]
 unfold Gf cn I7
 rw [v1,v2,Bool.true_and,Bool.true_and]
 cases DN s (BK s p al x) p with
 | some u=>simp
 | none=>
  cases BJ [t] (BK s p al x) with
  | some v=>simp
  | none=>simp
theorem jC:∃x,Hq s p al x (Bn s t p al).length∧HM s t p al x=none∧GX s t p=O2 s t p al x (Bn s t p al).length:=by
 obtain⟨x,h1,h2,h3⟩:=dO hI
 refine⟨x,h2,h3,?_⟩
 unfold GX
 rw [if_neg (Yt hI),←hI.hal,h1]
theorem aP:∃x,Hq s p al x (Bn s t p al).length∧HM s t p al x=none∧
    ((GX s t p=⟨0,BK s p al x,[],(Bn s t p al).length⟩∧Ih s t p (BK s p al x)=0)∨
     (GX s t p=⟨2,G0,[],(Bn s t p al).length⟩∧∃w b,Gf s t p al (BK s p al x)=some (w,b)∧(b || LS ⟨s,p,al⟩ w)=true∧Lz (Et s p al) x w=none)∨
     (GX s t p=⟨1,G0,J7 (BJ [s,t] p),(Bn s t p al).length⟩∧I7 [s,t] p=false∧(BJ [s,t] p).isSome=true)):=by
  obtain⟨x,h1,h2,h3⟩:=jC hI
  refine⟨x,h1,h2,?_⟩
  rw [h3]
  unfold O2
  have hf:=QM hI h1
  unfold HM at h2
  cases hr:Gf s t p al (BK s p al x) with
  | none=>exact .inl ⟨rfl,hf.1.1 hr⟩
  | some wb=>
    obtain⟨w,b⟩:=wb
    rw [hr] at h2
    simp only at h2 ⊢
    by_cases hb:(b || LS ⟨s,p,al⟩ w)=true
    · rw [if_pos hb] at h2 ⊢
      exact .inr (.inl ⟨rfl,w,b,rfl,hb,h2⟩)
    · rw [if_neg hb]
      refine .inr (.inr ⟨rfl,?_⟩)
      have hb:b=false∧LS ⟨s,p,al⟩ w=false:=by simpa using hb
      unfold Gf at hr
      split at hr
      · injection hr with hr;injection hr with _ hr;rw [hb.1] at hr;cases hr
      · split at hr
        · rename_i v hv
          injection hr with hr;injection hr with hr _
          subst hr
          obtain⟨b1,b2,b3,b4,b5⟩:=Hf hv
          have hk:=Tv hI b3 b4 hb.2
          refine⟨hk,?_⟩
          unfold I7 at hk
          have hp2:(A5 [s,t] && AN p)=true:=by rw [MA,hI.hs,hI.ht,hI.hp];rfl
          rw [hp2,Bool.true_and] at hk
          cases ho:BJ [s,t] p with
          | none=>rw [ho] at hk;cases hk
          | some _=>rfl
        · cases hr
end
theorem RP{s:Sys}{a p:AU}{w:List Int}(h:DN s a p=some w):w.length≤2304:=by
 obtain⟨hv,_⟩:=Ky h
 unfold DN at h
 rw [if_pos hv] at h
 obtain⟨hn,hk,hf⟩:=Oc hv
 have hi:=Du (Ex (Ep s a p))
 rw [h] at hi
 have hs:=hi.short (OP hn hf)
 have hN:(Ex (Ep s a p)).N=(s.st*((a.nx.length:Int)*((p.nx.length:Int)*1))).toNat:=rfl
 unfold Dl at hv
 simp only [Bool.and_eq_true] at hv
 have h1:=AM hv.1.1
 have h2:=AG hv.1.2
 have h3:=AG hv.2
 have h4:(a.nx.length:Int)*((p.nx.length:Int)*1)≤12*12:=Int.mul_le_mul (by omega) (by omega) (by omega) (by omega)
 have h5:s.st*((a.nx.length:Int)*((p.nx.length:Int)*1))≤16*144:=Int.mul_le_mul (by omega) (by omega) (by
  have:0≤(a.nx.length:Int)*((p.nx.length:Int)*1):=Int.mul_nonneg (by omega) (by omega)
  exact this) (by omega)
 omega
theorem RO{t:Sys}{a:AU}{w:List Int}(h:BJ [t] a=some w):w.length≤192:=by
 obtain⟨b1,b2,_⟩:=Hf h
 have hv:(A5 [t] && AN a)=true:=by rw [JB,b1,b2];rfl
 unfold BJ at h
 rw [if_pos hv] at h
 obtain⟨hn,hk,hf⟩:=Ob hv
 have hi:=Du (Ex (CS [t] a))
 rw [h] at hi
 have hs:=hi.short (OP hn hf)
 have hN:(Ex (CS [t] a)).N=(t.st*((a.nx.length:Int)*1)).toNat:=rfl
 have h1:=AM b1
 have h2:=AG b2
 have h5:t.st*((a.nx.length:Int)*1)≤16*12:=Int.mul_le_mul (by omega) (by omega) (by omega) (by omega)
 omega
theorem VJ(al:Int)(u:List Int):(Dk (BW al u)).length≤u.length:=by
 unfold Dk BW
 rw [List.length_map]
 exact List.length_filter_le _ _
theorem Oj{s t:Sys}{p a:AU}{al:Int}{w:W}{b:Bool}(h:Gf s t p al a=some (w,b)):w.length≤4000:=by
 unfold Gf at h
 split at h
 ·rename_i u hu
  injection h with h;injection h with h h5
  have:=RP hu
  have:=VJ al u
  rw [←h];omega
 ·split at h
  ·rename_i v hv
   injection h with h;injection h with h h5
   have:=RO hv
   have:=VJ al v
   rw [←h];omega
  ·cases h
section
variable {s t:Sys}{p:AU}{al:Int}(hI:FW s p t al)
include hI
theorem eo:CG (Et s p al)=true:=by unfold CG;rw [if_neg Bool.false_ne_true];exact Gd hI
end
def IM(al:Int)(w:W):W:=w.filter (Ik al)
theorem bZ{al l:Int}(h:0≤l∧l < 6):Ik al (UInt8.ofNat (97+l.toNat))=A0 al l.toNat:=by
 have h2:(UInt8.ofNat (97+l.toNat)).toNat=97+l.toNat:=by simp;omega
 have h3:=Ur al (UInt8.ofNat (97+l.toNat))
 have h4:Gb (UInt8.ofNat (97+l.toNat))=true:=by rw [Fw,h2,decide_eq_true_eq];omega
 rw [←h3,if_pos h4,h2]
 unfold hasB
 rw [show ((97+l.toNat:Nat):Int) - 97=l by omega,decide_eq_true h.1];rfl
theorem Pt{al:Int}:∀ {u:List Int},IL u→IM al (Dk u)=Dk (BW al u)
 | [],_=>rfl
 | l::u,hu=>by
  have ih:=Pt (al:=al) (u:=u) (fun x hx=>hu x (by simp [hx]))
  have h1:=bZ (al:=al) (hu l (by simp))
  unfold IM Dk BW at *
  rw [List.map_cons,List.filter_cons,List.filter_cons,h1]
  cases A0 al l.toNat
  ·simpa using ih
  ·simpa using ih
theorem U0(al:Int)(w:W):(IM al w).length≤w.length:=List.length_filter_le _ _
theorem RD{al:Int}{w:W}{k:Nat}{c:UInt8}(hc:w[k]? = some c):IM al (w.take (k+1))=if Ik al c then IM al (w.take k)++[c] else IM al (w.take k):=by
 unfold IM
 rw [List.take_add_one,hc,Option.toList_some,List.filter_append]
 cases h:Ik al c<;>simp [h]
theorem aT{s:Sys}{a p:AU}{u:List Int}(h:DN s a p=some u):IL u∧(Dk u).length≤2304:=by
 obtain⟨_,h2,_⟩:=Ky h
 exact⟨GL h2,by unfold Dk;rw [List.length_map];exact RP h⟩
theorem aQ{t:Sys}{a:AU}{u:List Int}(h:BJ [t] a=some u):IL u∧(Dk u).length≤192:=by
 obtain⟨_,_,h3,_⟩:=Hf h
 exact⟨GL h3,by unfold Dk;rw [List.length_map];exact RO h⟩
theorem P0{u:List Int}(hu:IL u)(hl:(Dk u).length≤50000):Ev (Dk u)=true:=by
 unfold Ev
 rw [decide_eq_true hl,Bool.true_and,List.all_eq_true]
 intro c hc
 unfold Dk at hc
 obtain⟨l,hl,rfl⟩:=List.mem_map.1 hc
 have:=hu l hl
 rw [Fw,decide_eq_true_eq]
 have h2:(UInt8.ofNat (97+l.toNat)).toNat=97+l.toNat:=by simp;omega
 rw [h2];omega
end Go.Am
namespace Go.Am
open Go Go.Proofs
set_option maxHeartbeats 1000000
attribute [local irreducible] AS BT Lex Bc Au Spec
variable {TB:Bt}
theorem Nq(w:W)(al:Int)(hl:w.length≤1048576):Pure Tryz.prog TB 64 [eT w,eI .i64 al] (eT (IM al w)):=by
 refine eG Tryz.func64 rfl (by kernel_rfl) rfl ?_;intro Γ hΓ
 (repeat first|refine tM rfl ?_ |refine aU rfl ?_ |refine Aa ?_)
 (refine pW rfl ?_ rfl (by rfl);refine Hk 1 5 ?_)
 (repeat first|refine tM rfl ?_ |refine aU rfl ?_ |refine Aa ?_)
 refine aB ?_
 refine aL (α:={k:Nat // k≤w.length}) [0,1,8] [] rfl rfl (fun ⟨k,hk⟩=>[(5,.o (.arr 0 1 0 (IM al (w.take k)).length)),(9,eI .i64 k)]) (fun ⟨k,hk⟩=>[(0,.cells 5 1 ((IM al (w.take k)).map Fv))]) 1 (fun ⟨k,hk⟩=>w.length - k) (⟨0,by omega⟩) hΓ rfl (by (repeat' first|exact tI|rfl|refine And.intro ?_ ?_)) ?_;rintro⟨k,hk⟩;(try dsimp only[cA,cB])
 by_cases hlt:k < w.length
 ·obtain⟨c,hc⟩:=get_some hlt
  have hc':w[((k:Nat):Int).toNat]? = some c:=by simpa using hc
  have hla:=Sz (TB:=TB) w k c hc'
  have hha:=Mo (TB:=TB) al (if Gb c then (c.toNat:Int) - 97 else -1)
  rw [Ur] at hha
  generalize (if Gb c then (c.toNat:Int) - 97 else -1:Int)=l at hla hha
  have hst:=RD (al:=al) hc
  have hrl:=U0 al (w.take k)
  rw [List.length_take] at hrl
  (repeat first|refine s2 rfl fun _ _hb=>?_ |refine aU rfl ?_ |refine Aa ?_)
  ((refine aC rfl ?_ ?_<;>rintro⟨⟩);all_goals try(exfalso;(simp only[oZ] at *;omega)))
  refine aK ?_
  refine aS (aB ?_)
  cases hcc:Ik al c
  ·rw [hcc] at hha hst
   (repeat first|refine tA rfl ?_ |refine sP rfl (hla) rfl ?_|refine sP rfl (hha) rfl ?_ |refine aU rfl ?_ |refine Aa ?_)
   ((refine aC rfl ?_ ?_<;>rintro⟨⟩);all_goals try (simp at _hb;done))
   refine aK ?_
   (repeat first|(refine sA rfl ?_ ?_;first|exact tI|omega) |refine aU rfl ?_ |refine Aa ?_)
   refine⟨⟨k+1,by omega⟩,by dsimp only;(omega),[0],?_⟩
   simp[cX,zC,hΓ,hst,Fv,FH]
  ·rw [hcc] at hha hst
   (repeat first|refine tA rfl ?_ |refine sP rfl (hla) rfl ?_|refine sP rfl (hha) rfl ?_ |refine aU rfl ?_ |refine Aa ?_)
   ((refine aC rfl ?_ ?_<;>rintro⟨⟩);all_goals try (simp at _hb;done))
   (repeat first|refine tA rfl ?_ |(refine s4 rfl ‹_› rfl ?_ ?_;omega) |refine aU rfl ?_)
   (refine pW rfl ?_ rfl (by rfl);refine AH rfl rfl rfl (by first| (simp;done)|(simp;(omega))) rfl (by intro r hr;simp at hr;subst hr;rfl) (by rfl) (Nat.le_of_ble_eq_true rfl) (by simp;omega) ?_)
   (repeat first|(refine sX rfl ?_ ?_;first|exact tI|omega) |refine aU rfl ?_ |refine Aa ?_)
   refine⟨⟨k+1,by omega⟩,by dsimp only;(omega),[1],?_⟩
   simp[cX,zC,hΓ,hst,FH,Fv,List.map_append]
 ·obtain rfl:k=w.length:=by omega
  rw [List.take_length] at *
  (repeat first|refine s2 rfl fun _ _hb=>?_ |refine aU rfl ?_ |refine Aa ?_)
  ((refine aC rfl ?_ ?_<;>rintro⟨⟩);all_goals try(exfalso;(simp only[oZ] at *;omega)))
  refine aE ?_
  (repeat first|refine tM rfl ?_|(refine Ai rfl ?_;refine gA rfl ?_;first| refine gQ (Oi (IM al w) rfl rfl (by simp) (by first| rw [List.drop_zero,List.take_of_length_le (by simp)]|rw [List.drop_zero,Ti,List.take_of_length_le (by simp)])) (by rfl) ?_) |refine aU rfl ?_ |refine Aa ?_)
  (subst_vars;exact aR ⟨_,rfl,rfl⟩)
theorem IH[Df TB](s:Sys)(p:AU):Pure Tryz.prog TB 63 [Bv s,Bp p] (KO (BJ [s] p)):=by
 refine eN Tryz.func63 rfl (by kernel_rfl) rfl ?_;intro Γ hΓ
 (repeat' first|refine tA rfl ?_ |refine sP rfl (E5 [s] p) rfl ?_ |refine aU rfl ?_ |refine Aa ?_|(refine aC rfl ?_ ?_<;>rintro⟨⟩)|refine aK ?_|refine aE ?_|refine aB ?_|refine aR ⟨_,rfl,?_⟩)
 all_goals rfl
theorem E8[Df TB](s:Sys)(p:AU):Pure Tryz.prog TB 128 [Bv s,Bp p] (KO (BJ [s] p)):=by
 refine eN Tryz.func128 rfl (by kernel_rfl) rfl ?_;intro Γ hΓ
 (repeat' first|refine tA rfl ?_ |refine sP rfl (E9 [s] p) rfl ?_ |refine aU rfl ?_ |refine Aa ?_|(refine aC rfl ?_ ?_<;>rintro⟨⟩)|refine aK ?_|refine aE ?_|refine aB ?_|refine aR ⟨_,rfl,?_⟩)
 all_goals rfl
end Go.Am
