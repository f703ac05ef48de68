/-
  What the searches through systems and automata side by side say, plainly.
-/
import Derived.Test.YtbfgijpfhgmepaaGreatDoorPart12
import Derived.Test.YtbfgijpfhgmepaaGreatDoorPart16
import Derived.Test.YtbfgijpfhgmepaaGreatDoorPart23
import Derived.Test.YtbfgijpfhgmepaaGreatDoorPart19
import Derived.Test.YtbfgijpfhgmepaaGreatDoorPart22
import Derived.Test.YtbfgijpfhgmepaaGreatDoorPart20
import Derived.Test.YtbfgijpfhgmepaaGreatDoorPart13
import Derived.Test.YtbfgijpfhgmepaaGreatDoorPart14
set_option linter.constructorNameAsVariable false
set_option linter.unusedSectionVars false
set_option linter.unusedSimpArgs false
set_option linter.unusedVariables false
namespace Go.Am
open Go
set_option linter.unusedVariables false
abbrev Np:=Int→Int→List Int
def JI(c:Np):List Int→Int→Int→Prop
 | [],q,r=>r=q
 | l::w,q,r=>∃y,y∈c q l∧JI c w y r
def Kw:List Np→List Int→List Int→List Int→Prop
 | [],_,[],[]=>True
 | c::cs,w,q::st,r::st'=>JI c w q r∧Kw cs w st st'
 | _,_,_,_=>False
def Tw:List Np→Int→List Int→List Int→Prop
 | [],_,[],[]=>True
 | c::cs,l,q::st,r::st'=>r∈c q l∧Tw cs l st st'
 | _,_,_,_=>False
theorem JG:∀ {cs:List Np} {l:Int} {w st st':List Int},Kw cs (l::w) st st'↔∃st1,Tw cs l st st1∧Kw cs w st1 st'
 | [],l,w,[],[]=>⟨fun _=>⟨[],trivial,trivial⟩,fun _=>trivial⟩
 | [],l,w,[],_::_=>⟨fun h=>h.elim,fun ⟨st1,h1,h2⟩=>by cases st1<;>simp [Tw,Kw] at h1 h2⟩
 | [],l,w,_::_,st'=>⟨fun h=>by cases st'<;>exact h.elim,fun ⟨st1,h1,h2⟩=>by cases st1<;>exact h1.elim⟩
 | c::cs,l,w,[],st'=>⟨fun h=>by cases st'<;>exact h.elim,fun ⟨st1,h1,h2⟩=>by cases st1<;>exact h1.elim⟩
 | c::cs,l,w,q::st,[]=>⟨fun h=>h.elim,fun ⟨st1,h1,h2⟩=>by cases st1<;>first|exact h1.elim|exact h2.elim⟩
 | c :: cs,l,w,q::st,r::st'=>by
  have ih:=JG (cs:=cs) (l:=l) (w:=w) (st:=st) (st':=st')
  constructor
  ·rintro⟨⟨y,hy,h1⟩,h2⟩
   obtain⟨st1,h3,h4⟩:=ih.1 h2
   exact⟨y::st1,⟨hy,h3⟩,h1,h4⟩
  ·rintro⟨st1,h1,h2⟩
   cases st1 with
   | nil=>exact h1.elim
   | cons y st1=>exact⟨⟨y,h1.1,h2.1⟩,ih.2 ⟨st1,h1.2,h2.2⟩⟩
def DK(n:Net):List Np:=n.ps.map (fun s q l=>BG s q l)++n.au.map (fun a q l=>[Cs a q.toNat l])
def RH:List Int→List (List Int)→Prop
 | [],[]=>True
 | x::xs,c::cs=>x∈c∧RH xs cs
 | _,_=>False
theorem X0:∀ {zs:List Int} {cs:List (List Int)} {out:List Int} {v:Int},cs.length=zs.length→(v∈GV zs cs out↔∃o∈out,∃st1,RH st1 cs∧v=Dm zs st1 o)
 | [],[],out,v,_=>by
  constructor
  ·intro h;exact⟨v,h,[],trivial,rfl⟩
  ·rintro⟨o,ho,st1,h,rfl⟩
   cases st1 with
   | nil=>exact ho
   | cons x st1=>exact h.elim
 | [],_::_,_,_,h=>by simp at h
 | _::_,[],_,_,h=>by simp at h
 | z :: zs,c::cs,out,v,h=>by
  have ih:=X0 (zs:=zs) (cs:=cs) (out:=out.flatMap fun o=>c.map fun x=>o*z+x) (v:=v) (by simpa using h)
  show v∈GV zs cs _↔_
  rw [ih]
  constructor
  ·rintro⟨o,ho,st1,h1,h2⟩
   obtain⟨o1,ho1,h3⟩:=List.mem_flatMap.1 ho
   obtain⟨x,hx,rfl⟩:=List.mem_map.1 h3
   exact⟨o1,ho1,x::st1,⟨hx,h1⟩,h2⟩
  ·rintro⟨o,ho,st1,h1,h2⟩
   cases st1 with
   | nil=>exact h1.elim
   | cons x st1=>exact⟨o*z+x,List.mem_flatMap.2 ⟨o,ho,List.mem_map.2 ⟨x,h1.1,rfl⟩⟩,st1,h1.2,h2⟩
theorem HU:∀ {cs:List Np} {l:Int} {st st1:List Int},cs.length=st.length→(RH st1 (cs.zipWith (fun c q=>c q l) st)↔Tw cs l st st1)
 | [],l,[],st1,_=>by
  cases st1 with
  | nil=>exact⟨fun _=>trivial,fun _=>trivial⟩
  | cons x st1=>exact⟨fun h=>h.elim,fun h=>h.elim⟩
 | [],_,_::_,_,h=>by simp at h
 | _::_,_,[],_,h=>by simp at h
 | c::cs,l,q::st,st1,h=>by
  have ih:=fun st1=>HU (cs:=cs) (l:=l) (st:=st) (st1:=st1) (by simpa using h)
  cases st1 with
  | nil=>exact⟨fun h=>h.elim,fun h=>h.elim⟩
  | cons x st1=>exact⟨fun h=>⟨h.1,(ih st1).1 h.2⟩,fun h=>⟨h.1,(ih st1).2 h.2⟩⟩
theorem RX{n:Net}{st:List Int}(h:n.ps.length+n.au.length=st.length)(l:Int):J6 n st l=(DK n).zipWith (fun c q=>c q l) st:=by
 unfold J6 DK
 have e:st=st.take n.ps.length++st.drop n.ps.length:=(List.take_append_drop _ _).symm
 conv=>rhs;rw [e]
 rw [List.zipWith_append (by simp;omega),List.zipWith_map_left,List.zipWith_map_left]
 congr 1
 exact Gb _ _ _
theorem Sc:∀ {zs ss:List Int},Fits zs ss→∀n:Int,Dm zs ss n=n*Au zs+Dm zs ss 0
 | _,_,.nil,n=>by simp [Dm,Au]
 | _,_,@Fits.cons z s zs ss h0 h1 h2,n=>by
  show Dm zs ss (n*z+s)=n*(z*Au zs)+Dm zs ss (0*z+s)
  rw [Sc h2 (n*z+s),Sc h2 (0*z+s),Int.add_mul,Int.add_mul,Int.mul_assoc,Int.zero_mul,Int.zero_mul,Int.zero_add,Int.add_assoc]
theorem NQ:∀ {zs ss:List Int},Fits zs ss→∀m:Int,BA zs (Dm zs ss m)=ss
 | _,_,.nil,m=>rfl
 | _,_,@Fits.cons z s zs ss h0 h1 h2,m=>by
  show (Dm zs ss (m*z+s) / Au zs % z)::BA zs (Dm zs ss (m*z+s))=s::ss
  rw [NQ h2]
  congr 1
  have hp:=h2.pos
  have he:=h2.enc 0 (by omega)
  rw [Int.zero_add,Int.one_mul] at he
  rw [Sc h2,Int.add_comm,Int.add_mul_ediv_right _ _ (by omega),Int.ediv_eq_zero_of_lt he.1 he.2,Int.zero_add,Int.add_comm,Int.add_mul_emod_self_right,Int.emod_eq_of_lt h0 h1]
theorem Ky:∀ {zs:List Int} {cs:List (List Int)} {st:List Int},Fo zs cs→RH st cs→Fits zs st
 | _,_,[],.nil,_=>.nil
 | _,_,_::_,.nil,h=>h.elim
 | _,_,[],.cons _ _ _,h=>h.elim
 | _,_,x::st,.cons h1 h2 h3,h=>.cons (h1 x h.1).1 (h1 x h.1).2 (Ky h3 h.2)
theorem Lz:∀ {cs:List Np} {st st':List Int},cs.length=st.length→(Kw cs [] st st'↔st'=st)
 | [],[],[],_=>⟨fun _=>rfl,fun _=>trivial⟩
 | [],[],_::_,_=>⟨fun h=>h.elim,fun h=>by cases h⟩
 | [],_::_,_,h=>by simp at h
 | _::_,[],_,h=>by simp at h
 | c::cs,q::st,[],h=>⟨fun h=>h.elim,fun h=>by cases h⟩
 | c :: cs,q::st,r::st',h=>by
  have ih:=Lz (cs:=cs) (st:=st) (st':=st') (by simpa using h)
  constructor
  ·rintro⟨h1,h2⟩
   have h1:r=q:=h1
   rw [ih.1 h2,h1]
  ·intro h
   injection h with h1 h2
   exact⟨h1,ih.2 h2⟩
theorem HL{n:Net}(hn:DE n):∀ {w:List Int} {st:List Int} {x:Int},Fits (Ae n) st→(∀l∈w,0≤l∧l < 6)→(reach (Er n) w (Dm (Ae n) st 0) x↔∃st',Kw (DK n) w st st'∧Fits (Ae n) st'∧x=Dm (Ae n) st' 0)
 | [],st,x,hf,_=>by
  have hl:=hf.len
  have hc:(DK n).length=st.length:=by simp [DK,Ae] at hl ⊢;omega
  constructor
  ·intro h
   exact⟨st,(Lz hc).2 rfl,hf,h.symm⟩
  ·rintro⟨st',h1,_,h2⟩
   rw [(Lz hc).1 h1] at h2
   exact h2.symm
 | l :: w,st,x,hf,hw=>by
  have hl:=hf.len
  have hc:(DK n).length=st.length:=by simp [DK,Ae] at hl ⊢;omega
  have hlb:=hw l (by simp)
  have hck:=HZ hn hf hlb.1 hlb.2
  have hsz:n.ps.length+n.au.length=st.length:=by simp [Ae] at hl;omega
  have hs:(Er n).succ (Dm (Ae n) st 0) l=GV (Ae n) (J6 n st l) [0]:=by
   show E5 n (Ae n) (BA (Ae n) (Dm (Ae n) st 0)) l=_
   rw [NQ hf];rfl
  have key:∀y,y∈(Er n).succ (Dm (Ae n) st 0) l↔∃st1,Tw (DK n) l st st1∧Fits (Ae n) st1∧y=Dm (Ae n) st1 0:=fun y=>by
   rw [hs,X0 hck.len.symm]
   constructor
   ·rintro⟨o,ho,st1,h1,h2⟩
    have ho:o=0:=by simpa using ho
    subst ho
    exact⟨st1,(HU hc).1 (by rw [←RX hsz];exact h1),Ky hck h1,h2⟩
   ·rintro⟨st1,h1,_,h2⟩
    exact⟨0,by simp,st1,by rw [RX hsz];exact(HU hc).2 h1,h2⟩
  constructor
  ·rintro⟨y,hy,h⟩
   obtain⟨st1,h1,h2,rfl⟩:=(key y).1 hy
   obtain⟨st',h3,h4⟩:=(HL hn h2 fun m hm=>hw m (by simp [hm])).1 h
   exact⟨st',JG.2 ⟨st1,h1,h3⟩,h4⟩
  ·rintro⟨st',h3,h4⟩
   obtain⟨st1,h1,h5⟩:=JG.1 h3
   have hf1:Fits (Ae n) st1:=Ky hck (by rw [RX hsz];exact(HU hc).2 h1)
   exact⟨_,(key _).2 ⟨st1,h1,hf1,rfl⟩,(HL hn hf1 fun m hm=>hw m (by simp [hm])).2 ⟨st',h5,h4⟩⟩
theorem MI{n:Net}(hn:DE n):∀ {w:List Int} {st st':List Int},Fits (Ae n) st→(∀l∈w,0≤l∧l < 6)→Kw (DK n) w st st'→Fits (Ae n) st'
 | [],st,st',hf,_,h=>by
  have hl:=hf.len
  have hc:(DK n).length=st.length:=by simp [DK,Ae] at hl ⊢;omega
  rw [(Lz hc).1 h];exact hf
 | l::w,st,st',hf,hw,h=>by
  have hl:=hf.len
  have hc:(DK n).length=st.length:=by simp [DK,Ae] at hl ⊢;omega
  have hlb:=hw l (by simp)
  have hsz:n.ps.length+n.au.length=st.length:=by simp [Ae] at hl;omega
  obtain⟨st1,h1,h5⟩:=JG.1 h
  exact MI hn (Ky (HZ hn hf hlb.1 hlb.2) (by rw [RX hsz];exact(HU hc).2 h1)) (fun m hm=>hw m (by simp [hm])) h5
theorem Gn{a:AZ}:∀ {w:List Int} {q r:Int},JI (fun q l=>[Cs a q.toNat l]) w q r↔r=De (fA a) q w
 | [],q,r=>Iff.rfl
 | l::w,q,r=>by
  have ih:=Gn (a:=a) (w:=w) (q:=fA a q l) (r:=r)
  show (∃y,y∈[Cs a q.toNat l]∧JI _ w y r)↔_
  simp only [List.mem_singleton,exists_eq_left]
  exact ih
abbrev MB(s:Sys):Np:=fun q l=>BG s q l
abbrev lI(a:AZ):Np:=fun q l=>[Cs a q.toNat l]
def GQ(s:Sys)(w:List Int):Prop:=∃q,JI (MB s) w 0 q
def GP(a:AZ)(w:List Int):Bool:=VI a (De (fA a) 0 w)
theorem lO{s:Sys}{a p:AZ}(h:Dg s a p=true){w:List Int}(hw:over (Er (Ek s a p)) w):Sj (Er (Ek s a p)) w↔GQ s w∧GP a w=true∧GP p w=false:=by
 obtain⟨hn,hk,hf⟩:=NW h
 have hwl:∀l∈w,0≤l∧l < 6:=fun l hl=>by have:=Ak (hw l hl);omega
 have hg:∀ {q r1 r2:Int},Fits (Ae (Ek s a p)) [q,r1,r2]→(Er (Ek s a p)).goal (Dm (Ae (Ek s a p)) [q,r1,r2] 0)=(VI a r1 && !VI p r2):=fun hf=>by
  unfold Er
  dsimp only
  rw [NQ hf];rfl
 unfold Sj
 constructor
 ·rintro⟨x,hx,hgx⟩
  obtain⟨st',h1,h2,rfl⟩:=(HL hn hf hwl).1 hx
  match st',h1,h2,hgx with
  | [q,r1,r2],h1,h2,hgx=>
   rw [hg h2] at hgx
   obtain⟨e1,e2,e3,_⟩:=h1
   have e2:=Gn.1 e2
   have e3:=Gn.1 e3
   subst e2 e3
   refine⟨⟨q,e1⟩,?_,?_⟩
   ·unfold GP;revert hgx;cases VI a (De (fA a) 0 w)<;>simp
   ·unfold GP;revert hgx;cases VI p (De (fA p) 0 w)<;>simp
  | [],h1,_,_=>exact h1.elim
  | [_],h1,_,_=>exact h1.2.elim
  | [_,_],h1,_,_=>exact h1.2.2.elim
  | _::_::_::_::_,h1,_,_=>exact h1.2.2.2.elim
 ·rintro⟨⟨q,e1⟩,e2,e3⟩
  have hv:Kw (DK (Ek s a p)) w [0,0,0] [q,De (fA a) 0 w,De (fA p) 0 w]:=⟨e1,Gn.2 rfl,Gn.2 rfl,trivial⟩
  have hr:=fun x=>HL (w:=w) (x:=x) hn hf hwl
  have hft:Fits (Ae (Ek s a p)) [q,De (fA a) 0 w,De (fA p) 0 w]:=MI hn hf hwl hv
  refine⟨_,(hr _).2 ⟨_,hv,hft,rfl⟩,?_⟩
  rw [hg hft]
  unfold GP at e2 e3
  rw [e2,e3];rfl
theorem Jm{w:List Int}:∀ {cs ds:List Np} {st st2 x:List Int},cs.length=st.length→(Kw (cs++ds) w (st++st2) x↔∃y z,x=y++z∧Kw cs w st y∧Kw ds w st2 z)
 | [],ds,[],st2,x,_=>by
  constructor
  ·intro h;exact⟨[],x,rfl,trivial,h⟩
  ·rintro⟨y,z,rfl,h1,h2⟩
   cases y with
   | nil=>exact h2
   | cons a y=>exact h1.elim
 | [],_,_::_,_,_,h=>by simp at h
 | _::_,_,[],_,_,h=>by simp at h
 | c :: cs,ds,q::st,st2,x,h=>by
  have ih:=fun x=>Jm (w:=w) (cs:=cs) (ds:=ds) (st:=st) (st2:=st2) (x:=x) (by simpa using h)
  constructor
  ·intro hx
   cases x with
   | nil=>exact hx.elim
   | cons r x=>
    obtain⟨y,z,h1,h2,h3⟩:=(ih x).1 hx.2
    exact⟨r::y,z,by rw [h1];rfl,⟨hx.1,h2⟩,h3⟩
  ·rintro⟨y,z,rfl,h1,h2⟩
   cases y with
   | nil=>exact h1.elim
   | cons r y=>exact⟨h1.1,(ih _).2 ⟨y,z,rfl,h1.2,h2⟩⟩
theorem PM{w:List Int}:∀ {l:List Sys},(∃y,Kw (l.map MB) w (List.replicate l.length 0) y)↔∀s∈l,GQ s w
 | []=>Iff.intro (fun _ s hs=>absurd hs List.not_mem_nil) (fun _=>⟨[],trivial⟩)
 | s :: l=>by
  have ih:=PM (w:=w) (l:=l)
  constructor
  ·rintro⟨y,h⟩ t ht
   cases y with
   | nil=>exact h.elim
   | cons r y=>
    rcases List.mem_cons.1 ht with rfl|ht
    ·exact⟨r,h.1⟩
    ·exact ih.1 ⟨y,h.2⟩ t ht
  ·intro h
   obtain⟨r,hr⟩:=h s (by simp)
   obtain⟨y,hy⟩:=ih.2 fun t ht=>h t (by simp [ht])
   exact⟨r::y,hr,hy⟩
theorem PL{w:List Int}:∀ {cs:List Np} {st st':List Int},Kw cs w st st'→st'.length=cs.length
 | [],[],[],_=>rfl
 | [],[],_::_,h=>h.elim
 | [],_::_,[],h=>h.elim
 | [],_::_,_::_,h=>h.elim
 | _::_,[],[],h=>h.elim
 | _::_,[],_::_,h=>h.elim
 | _::_,_::_,[],h=>h.elim
 | c::cs,q::st,r::st',h=>by simp [PL h.2]
theorem il{l:List Sys}{p:AZ}(h:(A3 l && AL p)=true){w:List Int}(hw:over (Er (CP l p)) w):Sj (Er (CP l p)) w↔(∀s∈l,GQ s w)∧GP p w=false:=by
 obtain⟨hn,hk,hf⟩:=NV h
 have hwl:∀m∈w,0≤m∧m < 6:=fun m hm=>by have:=Ak (hw m hm);omega
 have hg:∀ {y:List Int} {r:Int},y.length=l.length→Fits (Ae (CP l p)) (y++[r])→(Er (CP l p)).goal (Dm (Ae (CP l p)) (y++[r]) 0) = !VI p r:=fun {y r} hy hf=>by
  unfold Er
  dsimp only
  rw [NQ hf]
  show (!ZL (CP l p) (y++[r]) 0)=_
  unfold ZL VI
  have e:(y++[r]).getD ((CP l p).ps.length+0) 0=r:=ez (by
   show (y++[r])[l.length+0]? = some r
   rw [Nat.add_zero,←hy];simp)
  rw [e];rfl
 have hst:(CP l p).st=List.replicate l.length 0++[0]:=by
  show List.replicate (l.length+1) 0=_
  rw [List.replicate_succ']
 have hcs:DK (CP l p)=l.map MB++[lI p]:=rfl
 have hlen:(l.map MB).length=(List.replicate l.length (0:Int)).length:=by simp
 have hr:=fun x=>HL (w:=w) (x:=x) hn hf hwl
 unfold Sj
 constructor
 ·rintro⟨x,hx,hgx⟩
  obtain⟨st',h1,h2,rfl⟩:=(hr x).1 hx
  rw [hst,hcs] at h1
  obtain⟨y,z,rfl,h3,h4⟩:=(Jm hlen).1 h1
  have hyl:y.length=l.length:=by rw [PL h3];simp
  match z,h4,h2,hgx with
  | [r],h4,h2,hgx=>
   rw [hg hyl h2] at hgx
   have e2:=Gn.1 h4.1
   subst e2
   exact⟨PM.1 ⟨y,h3⟩,by unfold GP;revert hgx;cases VI p (De (fA p) 0 w)<;>simp⟩
  | [],h4,_,_=>exact h4.elim
  | _::_::_,h4,_,_=>exact h4.2.elim
 ·rintro⟨h1,h2⟩
  obtain⟨y,hy⟩:=PM.2 h1
  have hv:Kw (DK (CP l p)) w (CP l p).st (y++[De (fA p) 0 w]):=by
   rw [hst,hcs]
   exact(Jm hlen).2 ⟨y,_,rfl,hy,Gn.2 rfl,trivial⟩
  have hft:=MI hn hf hwl hv
  refine⟨_,(hr _).2 ⟨_,hv,hft,rfl⟩,?_⟩
  rw [hg (by rw [PL hy];simp) hft]
  unfold GP at h2
  rw [h2];rfl
theorem Fv{c:Np}:∀ {u w:List Int} {q r:Int},JI c (u++w) q r↔∃y,JI c u q y∧JI c w y r
 | [],w,q,r=>⟨fun h=>⟨q,rfl,h⟩,fun ⟨y,h1,h2⟩=>by have h1:y=q:=h1;subst h1;exact h2⟩
 | l :: u,w,q,r=>by
  constructor
  ·rintro⟨y,hy,h⟩
   obtain⟨z,h1,h2⟩:=Fv.1 h
   exact⟨z,⟨y,hy,h1⟩,h2⟩
  ·rintro⟨z,⟨y,hy,h1⟩,h2⟩
   exact⟨y,hy,Fv.2 ⟨z,h1,h2⟩⟩
theorem NP{s:Sys}(hs:AP s=true):∀ {w:List Int} {q r:Int},0≤q∧q < s.st→JI (MB s) w q r→0≤r∧r < s.st
 | [],q,r,hq,h=>by have h:r=q:=h;subst h;exact hq
 | l::w,q,r,hq,⟨y,hy,h⟩=>NP hs (Jk hs hq.1 hq.2 hy) h
theorem SY{a:AZ}(ha:AL a=true):∀ {w:List Int} {q:Int},(∀l∈w,0≤l∧l < 6)→0≤q∧q < a.nx.length→0≤De (fA a) q w∧De (fA a) q w < a.nx.length
 | [],q,_,hq=>hq
 | l::w,q,hw,hq=>by
  have hl:=hw l (by simp)
  exact SY ha (w:=w) (fun m hm=>hw m (by simp [hm])) (Db ha (q:=q.toNat) (by omega) hl.1 hl.2)
theorem ZX{t:CB}{F:PS}{u:W}{c:UInt8}:GI t F (u++[c])=DV t ((c.toNat:Int) - 97) (GI t F u):=by rw [Pn];rfl
theorem JC{s:Sys}{q l r:Int}(h:AV s.al l.toNat=true):r∈BG s q l↔∃e∈s.es,e.f=q∧e.l=l∧e.t=r:=by
 unfold BG
 rw [if_pos h]
 simp only [List.mem_map,List.mem_filter,Bool.and_eq_true,decide_eq_true_eq]
 constructor
 ·rintro⟨e,⟨h1,h2,h3⟩,h4⟩;exact⟨e,h1,h2,h3,h4⟩
 ·rintro⟨e,h1,h2,h3,h4⟩;exact⟨e,⟨h1,h2,h3⟩,h4⟩
section
variable {t:CB}(ht:A6 t=true)
include ht
theorem YE{F0:PS}(h0:CS t F0){p j:Nat}:PQ t F0 p j↔∃(p0 j0:Nat) (u:List Int),(F0 p0).testBit j0=true∧(∀l∈u,l∈Ck t)∧JI (MB t.s) u j0 j∧(p:Int)=De (fA t.q) p0 u:=by
 constructor
 ·intro h
  induction h with
  | @base p j hb=>exact⟨p,j,[],hb,by simp,rfl,rfl⟩
  | @step p j e hr he hl hf ih=>
   obtain⟨p0,j0,u,h1,h2,h3,h4⟩:=ih
   have hE:=HT ht he
   have hL:=DA ht hl
   have hlt:=hr.lt ht h0
   have hg:=Db (Cn ht) hlt.1 hL.1 hL.2.1
   refine⟨p0,j0,u++[e.l],h1,fun l hl2=>?_,?_,?_⟩
   ·rcases List.mem_append.1 hl2 with h|h
    ·exact h2 l h
    ·simp at h;subst h;exact hl
   ·refine Fv.2 ⟨j,h3,(e.t.toNat:Int),?_,rfl⟩
    exact(JC hL.2.2).2 ⟨e,he,by omega,rfl,by omega⟩
   ·rw [Lh,←h4]
    show ((Cs t.q p e.l).toNat:Int)=Cs t.q ((p:Int).toNat) e.l
    rw [Int.toNat_natCast];omega
 ·rintro⟨p0,j0,u,h1,h2,h3,h4⟩
  have key:∀(u:List Int) (p0 j0:Nat),PQ t F0 p0 j0→(∀l∈u,l∈Ck t)→∀ {p j:Nat},JI (MB t.s) u j0 j→(p:Int)=De (fA t.q) p0 u→PQ t F0 p j:=fun u=>by
   induction u with
   | nil=>
    intro p0 j0 hr _ p j h3 h4
    have h3:(j:Int)=j0:=h3
    have h4:(p:Int)=p0:=h4
    obtain rfl:j=j0:=by omega
    obtain rfl:p=p0:=by omega
    exact hr
   | cons l u ih=>
    intro p0 j0 hr h2 p j h3 h4
    have hl:=h2 l (by simp)
    have hL:=DA ht hl
    have hlt:=hr.lt ht h0
    have hg:=Db (Cn ht) hlt.1 hL.1 hL.2.1
    obtain⟨y,hy,h3⟩:=h3
    obtain⟨e,he,e1,e2,e3⟩:=(JC hL.2.2).1 hy
    have hE:=HT ht he
    have hr1:=PQ.step hr he (by rw [e2];exact hl) (show e.f.toNat=j0 by omega)
    have hy2:((e.t.toNat:Nat):Int)=y:=by omega
    refine ih _ _ hr1 (fun m hm=>h2 m (by simp [hm])) (by rw [hy2];exact h3) ?_
    rw [h4,e2]
    show De (fA t.q) (Cs t.q ((p0:Int).toNat) l) u=_
    rw [Int.toNat_natCast]
    congr 1;omega
  exact key u p0 j0 (.base h1) h2 h3 h4
theorem cf{F:PS}(hF:CS t F){l:Int}(hl:0≤l∧l < 6){p' j:Nat}:(VE t l F p').testBit j=true↔∃p j0:Nat,(F p).testBit j0=true∧Cs t.q p l=(p':Int)∧(j:Int)∈BG t.s j0 l:=by
 rw [K5]
 have hin:∀ {p j0:Nat},(F p).testBit j0=true→p < t.q.nx.length:=fun {p j0} h=>by
  rcases Nat.lt_or_ge p t.q.nx.length with h1|h1
  ·exact h1
  ·rw [hF.z p h1] at h;simp at h
 unfold C7
 by_cases hb:AV t.s.al l.toNat=true
 ·simp only [hb,if_true]
  constructor
  ·rintro⟨p,h1,h2,h3⟩
   obtain⟨e,he,⟨e1,e2⟩,e3⟩:=DC.1 h3
   have hE:=HT ht he
   exact⟨p,e.f.toNat,e2,h2,(JC hb).2 ⟨e,he,by omega,e1,by omega⟩⟩
  ·rintro⟨p,j0,h1,h2,h3⟩
   obtain⟨e,he,e1,e2,e3⟩:=(JC hb).1 h3
   have hE:=HT ht he
   refine⟨p,hin h1,h2,DC.2 ⟨e,he,⟨e2,?_⟩,by omega⟩⟩
   rw [show e.f.toNat=j0 by omega];exact h1
 ·simp only [hb,if_false,Bool.false_eq_true]
  have hs:∀j0:Nat,BG t.s j0 l=[(j0:Int)]:=fun j0=>by unfold BG;rw [if_neg hb]
  constructor
  ·rintro⟨p,h1,h2,h3⟩
   exact⟨p,j,h3,h2,by rw [hs];simp⟩
  ·rintro⟨p,j0,h1,h2,h3⟩
   rw [hs] at h3
   obtain rfl:j=j0:=by simp at h3;omega
   exact⟨p,hin h1,h2,h1⟩
end
def BP(al:Int)(u:List Int):List Int:=u.filter fun l=>AV al l.toNat
def YV(t:CB)(u:List Int):Prop:=∀l∈u,l∈Ck t∨l∈Ac t.al
theorem eF{t:CB}{l:Int}(h:l∈Ck t):AV t.al l.toNat=false:=by
 unfold Ck at h
 have:=(List.mem_filter.1 h).2
 simpa using this
theorem Tl{t:CB}{u:List Int}(hu:YV t u)(h:BP t.al u=[]):∀l∈u,l∈Ck t:=fun l hl=>by
 rcases hu l hl with h1|h1
 ·exact h1
 ·exfalso
  have h2:l∈BP t.al u:=List.mem_filter.2 ⟨hl,(Ak h1).2.2⟩
  rw [h] at h2;cases h2
theorem Si{t:CB}{u:List Int}(h:∀l∈u,l∈Ck t):BP t.al u=[]:=List.filter_eq_nil_iff.2 fun l hl=>by rw [eF (h l hl)];simp
theorem XH{t:CB}{F:PS}(hF:CS t F):GR t F=true↔∃p j:Nat,(F p).testBit j=true∧VI t.q p=false:=by
 unfold GR
 rw [List.any_eq_true]
 constructor
 ·rintro⟨p,hp,h⟩
  simp only [Bool.and_eq_true,decide_eq_true_eq,Bool.not_eq_true'] at h
  have:∃j,(F p).testBit j=true:=Classical.byContradiction fun hc=>h.1 (Hw fun j=>by
   cases hb:(F p).testBit j
   ·rfl
   ·exact absurd ⟨j,hb⟩ hc)
  obtain⟨j,hj⟩:=this
  exact⟨p,j,hj,by unfold VI;rw [Int.toNat_natCast];exact h.2⟩
 ·rintro⟨p,j,h1,h2⟩
  have hp:p < t.q.nx.length:=by
   rcases Nat.lt_or_ge p t.q.nx.length with h|h
   ·exact h
   ·rw [hF.z p h] at h1;simp at h1
  refine⟨p,List.mem_range.2 hp,?_⟩
  unfold VI at h2
  rw [Int.toNat_natCast] at h2
  simp only [Bool.and_eq_true,decide_eq_true_eq,Bool.not_eq_true']
  exact⟨fun e=>by rw [e] at h1;simp at h1,h2⟩
theorem Rz{t:CB}:∀(w:List Int) {F:PS},HN t F (Df w)=false↔∃k,k≤w.length∧GR t (GI t F (Df (w.take k)))=true
 | [],F=>by
  show (!GR t F)=false↔_
  constructor
  ·intro h
   exact⟨0,by simp,by show GR t F=true;simpa using h⟩
  ·rintro⟨k,_,h⟩
   have h:GR t F=true:=by simpa [Df,GI] using h
   rw [h];rfl
 | l :: w,F=>by
  have ih:=fun F=>Rz (t:=t) w (F:=F)
  have e:HN t F (Df (l::w))=(!GR t F && HN t (DV t (((lb l).toNat:Int) - 97) F) (Df w)):=rfl
  rw [e]
  constructor
  ·intro h
   cases hb:GR t F
   ·rw [hb] at h
    obtain⟨k,h1,h2⟩:=(ih _).1 h
    exact⟨k+1,by simpa using h1,h2⟩
   ·exact⟨0,by simp,hb⟩
  ·rintro⟨k,h1,h2⟩
   cases k with
   | zero=>
    have h2:GR t F=true:=h2
    rw [h2];rfl
   | succ k=>
    have:=(ih (DV t (((lb l).toNat:Int) - 97) F)).2 ⟨k,by simpa using h1,h2⟩
    rw [this,Bool.and_false]
theorem fR{α:Type}{P:List α→Prop}(h0:P [])(h1:∀w l,P w→P (w++[l]))(w:List α):P w:=by
 rw [←List.reverse_reverse w]
 induction w.reverse with
 | nil=>exact h0
 | cons l u ih=>rw [List.reverse_cons];exact h1 _ l ih
section
variable {t:CB}(ht:A6 t=true)
include ht
theorem bn{F0:PS}(h0:CS t F0){p j:Nat}:(RY t F0 p).testBit j=true↔∃(p0 j0:Nat) (u:List Int),(F0 p0).testBit j0=true∧(∀l∈u,l∈Ck t)∧JI (MB t.s) u j0 j∧(p:Int)=De (fA t.q) p0 u:=by
 rw [NO,YE ht h0]
 constructor
 ·exact fun h=>h.2
 ·intro h
  exact⟨((YE ht h0).2 h).lt ht h0 |>.2,h⟩
theorem N8:∀(w:List Int) {F:PS},CS t F→(∀l∈w,0≤l∧l < 6)→CS t (GI t F (Df w))
 | [],F,h,_=>h
 | l :: w,F,h,hw=>by
  have hl:=hw l (by simp)
  have e:GI t F (Df (l::w))=GI t (DV t l F) (Df w):=by
   show GI t (DV t (((lb l).toNat:Int) - 97) F) (Df w)=_
   rw [Ml hl.1 hl.2]
  rw [e]
  exact N8 w (K9 ht hl h) fun m hm=>hw m (by simp [hm])
theorem YK:∀(w:List Int),(∀l∈w,l∈Ac t.al)→∀ {p j:Nat},((GI t (Cm t) (Df w) p).testBit j=true↔∃u,YV t u∧BP t.al u=w∧JI (MB t.s) u 0 j∧(p:Int)=De (fA t.q) 0 u):=fun w=>by
 refine fR (P:=fun w=>(∀l∈w,l∈Ac t.al)→∀ {p j:Nat},((GI t (Cm t) (Df w) p).testBit j=true↔∃u,YV t u∧BP t.al u=w∧JI (MB t.s) u 0 j∧(p:Int)=De (fA t.q) 0 u)) ?_ ?_ w
 ·intro _ p j
  show (RY t Iy p).testBit j=true↔_
  rw [bn ht (LI ht)]
  have hz:∀ {p0 j0:Nat},(Iy p0).testBit j0=true↔p0=0∧j0=0:=fun {p0 j0} => by
   unfold Iy
   split
   ·rename_i h
    subst h
    have e:(1:Nat)=2 ^ 0:=rfl
    rw [e,Nat.testBit_two_pow]
    simp [eq_comm]
   ·rename_i h;simp [h]
  constructor
  ·rintro⟨p0,j0,u,h1,h2,h3,h4⟩
   obtain⟨rfl,rfl⟩:=hz.1 h1
   exact⟨u,fun l hl=>.inl (h2 l hl),Si h2,h3,h4⟩
  ·rintro⟨u,h1,h2,h3,h4⟩
   exact⟨0,0,u,hz.2 ⟨rfl,rfl⟩,Tl h1 h2,h3,h4⟩
 ·intro w l ih hw p j
  have hwl:=hw l (by simp)
  have hlb:=Ak hwl
  have ih:=fun p j=>ih (fun m hm=>hw m (by simp [hm])) (p:=p) (j:=j)
  have hok:=N8 ht w (F:=Cm t) (Gg ht) fun m hm=>by have:=Ak (hw m (by simp [hm]));omega
  have e:GI t (Cm t) (Df (w++[l]))=RY t (VE t l (GI t (Cm t) (Df w))):=by
   have e1:Df (w++[l])=Df w++[lb l]:=by simp [Df,lb]
   rw [e1,ZX,Ml hlb.1 (by omega)];rfl
  rw [e,bn ht (Kh ht ⟨hlb.1,by omega⟩ hok)]
  constructor
  ·rintro⟨p1,j1,h,h1,h2,h3,h4⟩
   obtain⟨p2,j2,h5,h6,h7⟩:=(cf ht hok ⟨hlb.1,by omega⟩).1 h1
   obtain⟨u,g1,g2,g3,g4⟩:=(ih p2 j2).1 h5
   refine⟨u++l::h,fun m hm=>?_,?_,Fv.2 ⟨j2,g3,j1,h7,h3⟩,?_⟩
   ·rcases List.mem_append.1 hm with hm|hm
    ·exact g1 m hm
    ·rcases List.mem_cons.1 hm with rfl|hm
     ·exact .inr hwl
     ·exact .inl (h2 m hm)
   ·unfold BP at *
    rw [List.filter_append,g2,List.filter_cons_of_pos (by simpa using hlb.2.2)]
    have:=Si h2
    unfold BP at this
    rw [this]
   ·rw [Lh,←g4,h4]
    show _=De (fA t.q) (Cs t.q ((p2:Int).toNat) l) h
    rw [Int.toNat_natCast,h6]
  ·rintro⟨u,g1,g2,g3,g4⟩
   unfold BP at g2
   obtain⟨u1,u2,rfl,e1,e2⟩:=List.filter_eq_append_iff.1 g2
   obtain⟨h1,h2,rfl,e3,e4,e5⟩:=List.filter_eq_cons_iff.1 e2
   have hh1:∀m∈h1,m∈Ck t:=Tl (fun m hm=>g1 m (by simp [hm])) (by unfold BP;exact List.filter_eq_nil_iff.2 e3)
   have hh2:∀m∈h2,m∈Ck t:=Tl (fun m hm=>g1 m (by simp [hm])) e5
   obtain⟨y1,c1,c2⟩:=Fv.1 g3
   obtain⟨y2,c3,y3,c4,c5⟩:=Fv.1 c2
   have hs:AP t.s=true:=by unfold A6 at ht;simp only [Bool.and_eq_true] at ht;exact ht.1
   have hst:=AK hs
   have hq:=Cn ht
   have hqn:=AF hq
   have hin:∀m∈u1++(h1++l::h2),0≤m∧m < 6:=fun m hm=>by
    rcases g1 m hm with h|h
    ·have:=DA ht h;omega
    ·have:=Ak h;omega
   have b1:=NP hs ⟨by omega,by omega⟩ c1
   have b2:=NP hs b1 c3
   have b3:=Jk hs b2.1 b2.2 c4
   have a2:=SY hq (w:=u1++h1) (q:=0) (fun m hm=>hin m (by rcases List.mem_append.1 hm with h|h<;>simp [h])) ⟨by omega,by omega⟩
   have a3:=Db hq (q:=(De (fA t.q) 0 (u1++h1)).toNat) (by omega) hlb.1 (show l < 6 by omega)
   refine⟨(Cs t.q (De (fA t.q) 0 (u1++h1)).toNat l).toNat,y3.toNat,h2,(cf ht hok ⟨hlb.1,by omega⟩).2 ⟨(De (fA t.q) 0 (u1++h1)).toNat,y2.toNat,(ih _ _).2 ⟨u1++h1,fun m hm=>?_,?_,?_,by omega⟩,by omega,?_⟩,hh2,?_,?_⟩
   ·rcases List.mem_append.1 hm with hm|hm
    ·exact g1 m (by simp [hm])
    ·exact .inl (hh1 m hm)
   ·have:=Si hh1
    unfold BP at *
    rw [List.filter_append,e1,this,List.append_nil]
   ·rw [show ((y2.toNat:Nat):Int)=y2 by omega]
    exact Fv.2 ⟨y1,c1,c3⟩
   ·rw [show ((y2.toNat:Nat):Int)=y2 by omega,show ((y3.toNat:Nat):Int)=y3 by omega];exact c4
   ·rw [show ((y3.toNat:Nat):Int)=y3 by omega];exact c5
   ·rw [show (((Cs t.q (De (fA t.q) 0 (u1++h1)).toNat l).toNat:Nat):Int)=Cs t.q (De (fA t.q) 0 (u1++h1)).toNat l by omega,g4,←List.append_assoc,Lh];rfl
theorem PJ{w:List Int}(hw:∀l∈w,l∈Ac t.al):LS t (Df w)=false↔∃u,YV t u∧BP t.al u <+: w∧GQ t.s u∧GP t.q u=false:=by
 unfold LS
 rw [Rz]
 constructor
 ·rintro⟨k,h1,h2⟩
  have hwk:∀l∈w.take k,l∈Ac t.al:=fun l hl=>hw l (List.mem_of_mem_take hl)
  have hok:=N8 ht (w.take k) (Gg ht) fun m hm=>by have:=Ak (hwk m hm);omega
  obtain⟨p,j,h3,h4⟩:=(XH hok).1 h2
  obtain⟨u,g1,g2,g3,g4⟩:=(YK ht _ hwk).1 h3
  exact⟨u,g1,by rw [g2];exact List.take_prefix _ _,⟨_,g3⟩,by unfold GP;rw [←g4];exact h4⟩
 ·rintro⟨u,g1,g2,⟨q,g3⟩,g4⟩
  refine⟨(BP t.al u).length,g2.length_le,?_⟩
  have e:w.take (BP t.al u).length=BP t.al u:=(List.prefix_iff_eq_take.1 g2).symm
  rw [e]
  have hv:∀l∈BP t.al u,l∈Ac t.al:=fun l hl=>hw l (g2.subset hl)
  have hs:AP t.s=true:=by unfold A6 at ht;simp only [Bool.and_eq_true] at ht;exact ht.1
  have hst:=AK hs
  have hq:=Cn ht
  have hqn:=AF hq
  have hok:=N8 ht (BP t.al u) (Gg ht) fun m hm=>by have:=Ak (hv m hm);omega
  have b:=NP hs (⟨by omega,by omega⟩:(0:Int)≤0∧(0:Int) < t.s.st) g3
  have a:=SY hq (w:=u) (q:=0) (fun m hm=>by
   rcases g1 m hm with h|h
   ·have:=DA ht h;omega
   ·have:=Ak h;omega) ⟨by omega,by omega⟩
  refine(XH hok).2 ⟨(De (fA t.q) 0 u).toNat,q.toNat,(YK ht _ hv).2 ⟨u,g1,rfl,?_,by omega⟩,?_⟩
  ·rw [show ((q.toNat:Nat):Int)=q by omega];exact g3
  ·rw [show (((De (fA t.q) 0 u).toNat:Nat):Int)=De (fA t.q) 0 u by omega];exact g4
end
theorem IS{s:Sys}:∀ {u:List Int} {q r:Int},JI (MB s) u q r↔JI (MB s) (BP s.al u) q r
 | [],q,r=>Iff.rfl
 | l :: u,q,r=>by
  have ih:=fun q=>IS (s:=s) (u:=u) (q:=q) (r:=r)
  by_cases hb:AV s.al l.toNat=true
  ·have e:BP s.al (l::u)=l::BP s.al u:=List.filter_cons_of_pos hb
   rw [e]
   exact⟨fun ⟨y,h1,h2⟩=>⟨y,h1,(ih y).1 h2⟩,fun ⟨y,h1,h2⟩=>⟨y,h1,(ih y).2 h2⟩⟩
  ·have e:BP s.al (l::u)=BP s.al u:=List.filter_cons_of_neg hb
   have e2:MB s q l=[q]:=by show BG s q l=_;unfold BG;rw [if_neg hb]
   rw [e,←ih q]
   constructor
   ·rintro⟨y,h1,h2⟩
    rw [e2] at h1
    obtain rfl:y=q:=by simpa using h1
    exact h2
   ·intro h
    exact⟨q,by rw [e2];simp,h⟩
theorem Vi{s:Sys}{u v:List Int}(h:BP s.al u=BP s.al v):GQ s u↔GQ s v:=by
 unfold GQ
 constructor
 ·rintro⟨q,hq⟩;exact⟨q,IS.2 (h ▸ IS.1 hq)⟩
 ·rintro⟨q,hq⟩;exact⟨q,IS.2 (h.symm ▸ IS.1 hq)⟩
theorem Pm{a:AZ}(ha:AL a=true):∀ {u:List Int} {q:Int},(∀l∈u,0≤l∧l < 6)→0≤q∧q < a.nx.length→De (fA a) q u=De (fA a) q (BP a.al u)
 | [],q,_,_=>rfl
 | l :: u,q,hu,hq=>by
  have hl:=hu l (by simp)
  have hg:=Db ha (q:=q.toNat) (by omega) hl.1 hl.2
  have ih:=fun q=>Pm ha (u:=u) (q:=q) fun m hm=>hu m (by simp [hm])
  by_cases hb:AV a.al l.toNat=true
  ·have e:BP a.al (l::u)=l::BP a.al u:=List.filter_cons_of_pos hb
   rw [e]
   exact ih _ hg
  ·have e:BP a.al (l::u)=BP a.al u:=List.filter_cons_of_neg hb
   have e2:Cs a q.toNat l=q:=by unfold Cs;rw [if_neg hb];omega
   rw [e]
   show De (fA a) (Cs a q.toNat l) u=_
   rw [e2]
   exact ih _ hq
def IF(u:List Int):Prop:=∀l∈u,0≤l∧l < 6
theorem RP{a:AZ}(ha:AL a=true){u v:List Int}(hu:IF u)(hv:IF v)(h:BP a.al u=BP a.al v):GP a u=GP a v:=by
 have hn:=AF ha
 unfold GP
 rw [Pm ha hu ⟨by omega,by omega⟩,Pm ha hv ⟨by omega,by omega⟩,h]
theorem Y0{al:Int}{u:List Int}(hu:IF u):IF (BP al u):=fun l hl=>hu l (List.mem_filter.1 hl).1
theorem Xn{al:Int}{u:List Int}(hu:IF u):∀l∈BP al u,l∈Ac al:=fun l hl=>by
 obtain⟨h1,h2⟩:=List.mem_filter.1 hl
 have:=hu l h1
 obtain⟨n,rfl⟩:∃n:Nat,l=n:=⟨l.toNat,by omega⟩
 exact DT.2 ⟨by omega,h2⟩
theorem GD{al:Int}{u:List Int}(hu:∀l∈u,l∈Ac al):IF u:=fun l hl=>by have:=Ak (hu l hl);omega
theorem Tm{al bl:Int}{u:List Int}(h:∀l∈u,AV al l.toNat=true→AV bl l.toNat=true):BP al (BP bl u)=BP al u:=by
 unfold BP
 rw [List.filter_filter]
 refine List.filter_congr fun l hl=>?_
 cases ha:AV al l.toNat
 ·rfl
 ·rw [h l hl ha];rfl
theorem fv{al:Int}:∀ {v w:List Int},w <+: BP al v→∃v',v' <+: v∧BP al v'=w:=fun {v w} ⟨z,h⟩=>by
 obtain⟨v1,v2,rfl,h1,_⟩:=List.filter_eq_append_iff.1 h.symm
 exact⟨v1,List.prefix_append _ _,h1⟩
theorem dE{s:Sys}{u v:List Int}(h:u <+: v)(hv:GQ s v):GQ s u:=by
 obtain⟨z,rfl⟩:=h
 obtain⟨q,hq⟩:=hv
 obtain⟨y,h1,_⟩:=Fv.1 hq
 exact⟨y,h1⟩
theorem merge{A B:Int→Bool}:∀(u:List Int) {v:List Int},(∀l∈u,A l=true)→(∀l∈v,B l=true)→u.filter B=v.filter A→∃x:List Int,x.filter A=u∧x.filter B=v∧∀l∈x,l∈u∨l∈v
 | [],v,_,hv,h=>⟨v,h.symm,List.filter_eq_self.2 hv,fun l hl=>.inr hl⟩
 | l :: u, v,hu,hv,h=>by
  have hA:=hu l (by simp)
  by_cases hB:B l=true
  ·rw [List.filter_cons_of_pos hB] at h
   obtain⟨v1,v2,rfl,h1,h2,h3⟩:=List.filter_eq_cons_iff.1 h.symm
   obtain⟨x,x1,x2,x3⟩:=merge u (v:=v2) (fun m hm=>hu m (by simp [hm])) (fun m hm=>hv m (by simp [hm])) h3.symm
   refine⟨v1++l::x,?_,?_,fun m hm=>?_⟩
   ·rw [List.filter_append,List.filter_eq_nil_iff.2 h1,List.filter_cons_of_pos hA,x1];rfl
   ·rw [List.filter_append,List.filter_eq_self.2 fun m hm=>hv m (by simp [hm]),List.filter_cons_of_pos hB,x2]
   ·rcases List.mem_append.1 hm with hm|hm
    ·exact .inr (by simp [hm])
    ·rcases List.mem_cons.1 hm with rfl|hm
     ·exact .inl (by simp)
     ·rcases x3 m hm with h|h
      ·exact .inl (by simp [h])
      ·exact .inr (by simp [h])
  ·rw [List.filter_cons_of_neg hB] at h
   obtain⟨x,x1,x2,x3⟩:=merge u (v:=v) (fun m hm=>hu m (by simp [hm])) hv h
   refine⟨l::x,?_,?_,fun m hm=>?_⟩
   ·rw [List.filter_cons_of_pos hA,x1]
   ·rw [List.filter_cons_of_neg hB,x2]
   ·rcases List.mem_cons.1 hm with rfl|hm
    ·exact .inl (by simp)
    ·rcases x3 m hm with h|h
     ·exact .inl (by simp [h])
     ·exact .inr h
theorem LQ{a b:Int}(ha:A2 a=true)(hb:A2 b=true){n:Nat}(hn:n < 64):AV (GO .i64 a b) n=(AV a n || AV b n):=by
 unfold A2 at ha hb
 simp only [decide_eq_true_eq] at ha hb
 obtain⟨x,rfl⟩:∃x:Nat,a=x:=⟨a.toNat,by omega⟩
 obtain⟨y,rfl⟩:∃y:Nat,b=y:=⟨b.toNat,by omega⟩
 have h:=KO (a:=x) (b:=y) (by omega) (by omega)
 rw [h.1,C4 (by omega) hn,C4 (by omega) hn,C4 (by omega) hn,Nat.testBit_or]
theorem ef{a b:Int}(ha:A2 a=true)(hb:A2 b=true){n:Nat}(hn:n < 64):AV (GS .i64 a b) n=(AV a n && AV b n):=by
 unfold A2 at ha hb
 simp only [decide_eq_true_eq] at ha hb
 obtain⟨x,rfl⟩:∃x:Nat,a=x:=⟨a.toNat,by omega⟩
 obtain⟨y,rfl⟩:∃y:Nat,b=y:=⟨b.toNat,by omega⟩
 have h:=KM (a:=x) (b:=y) (by omega) (by omega)
 have h64:x &&& y < 64:=Nat.lt_of_le_of_lt Nat.and_le_left (by omega)
 rw [h,C4 (by omega) hn,C4 (by omega) hn,C4 (by omega) hn,Nat.testBit_and]
structure Fp (s:Sys) (p:AZ) (t:Sys) (al:Int):Prop where
 hs:AP s=true
 hp:AL p=true
 ht:AP t=true
 hal:al=Bz s p t
section
variable {s t:Sys}{p:AZ}{al:Int}(hI:Fp s p t al)
include hI
theorem iu{n:Nat}(hn:n < 64):AV al n=((AV s.al n || AV p.al n) && AV t.al n):=by
 have h1:=(AK hI.hs).1
 have h2:=(AF hI.hp).1
 have h3:=(AK hI.ht).1
 rw [hI.hal]
 unfold Bz
 rw [hI.hs,hI.hp,hI.ht]
 simp only [Bool.and_self,if_true]
 rw [ef (KN h1 h2) h3 hn,LQ h1 h2 hn]
theorem QL:A2 al=true:=by
 have h1:=(AK hI.hs).1
 have h2:=(AF hI.hp).1
 have h3:=(AK hI.ht).1
 have h4:=KN h1 h2
 rw [hI.hal]
 unfold Bz
 rw [hI.hs,hI.hp,hI.ht]
 simp only [Bool.and_self,if_true]
 unfold A2 at *
 simp only [decide_eq_true_eq] at *
 obtain⟨x,hx⟩:∃x:Nat,GO .i64 s.al p.al=x:=⟨(GO .i64 s.al p.al).toNat,by omega⟩
 obtain⟨y,hy⟩:∃y:Nat,t.al=y:=⟨t.al.toNat,by omega⟩
 have:=KM (a:=x) (b:=y) (by omega) (by omega)
 have h64:x &&& y < 64:=Nat.lt_of_le_of_lt Nat.and_le_left (by omega)
 rw [hx,hy,this]
 omega
theorem FW:A6 ⟨s,p,al⟩=true:=by
 unfold A6
 rw [hI.hs,hI.hp,QL hI];rfl
theorem Vv{v:List Int}(hv:∀l∈v,l∈Ac t.al)(ht:GQ t v)(hu:LS ⟨s,p,al⟩ (Df (BP al v))=false):∃x,IF x∧(∀l∈x,AV s.al l.toNat=true∨AV t.al l.toNat=true)∧GQ s x∧GQ t x∧GP p x=false:=by
 have hvn:=GD hv
 obtain⟨u,g1,g2,g3,g4⟩:=(PJ (FW hI) (Xn hvn)).1 hu
 have hun:IF u:=fun l hl=>by
  rcases g1 l hl with h|h
  ·have:=DA (FW hI) h;omega
  ·have:=Ak h;omega
 obtain⟨v',p1,p2⟩:=fv g2
 have hv':∀l∈v',l∈Ac t.al:=fun l hl=>hv l (p1.subset hl)
 have hbit:=fun (l:Int) (h:0≤l∧l < 6)=>iu hI (n:=l.toNat) (by omega)
 have hA:∀l∈u,(AV s.al l.toNat || AV al l.toNat)=true:=fun l hl=>by
  rcases g1 l hl with h|h
  ·rw [(DA (FW hI) h).2.2];rfl
  ·rw [(Ak h).2.2,Bool.or_true]
 have hB:∀l∈v',AV t.al l.toNat=true:=fun l hl=>(Ak (hv' l hl)).2.2
 have e:u.filter (fun l=>AV t.al l.toNat)=v'.filter fun l=>AV s.al l.toNat || AV al l.toNat:=by
  have e1:u.filter (fun l=>AV t.al l.toNat)=BP al u:=List.filter_congr fun l hl=>by
   have h5:=hA l hl
   rw [hbit l (hun l hl)] at h5 ⊢
   revert h5
   cases AV s.al l.toNat<;>cases AV p.al l.toNat<;>cases AV t.al l.toNat<;>simp
  have e2:v'.filter (fun l=>AV s.al l.toNat || AV al l.toNat)=BP al v':=List.filter_congr fun l hl=>by
   have h5:=hB l hl
   rw [hbit l (GD hv' l hl),h5]
   cases AV s.al l.toNat<;>cases AV p.al l.toNat<;>simp
  rw [e1,e2,p2]
 obtain⟨x,x1,x2,x3⟩:=merge u hA hB e
 have hxn:IF x:=fun l hl=>by
  rcases x3 l hl with h|h
  ·exact hun l h
  ·exact GD hv' l h
 have hxl:∀l∈x,AV s.al l.toNat=true∨AV t.al l.toNat=true:=fun l hl=>by
  rcases x3 l hl with h|h
  ·have h5:=hA l h
   rw [hbit l (hun l h)] at h5
   revert h5
   cases AV s.al l.toNat<;>cases AV p.al l.toNat<;>cases AV t.al l.toNat<;>simp
  ·exact .inr (hB l h)
 have hvx:∀ {bl:Int},(∀l∈x,AV bl l.toNat=true→(AV s.al l.toNat || AV al l.toNat)=true)→BP bl u=BP bl x:=fun {bl} h=>by
  rw [←x1]
  show List.filter _ (List.filter _ x)=List.filter _ x
  rw [List.filter_filter]
  refine List.filter_congr fun l hl=>?_
  cases hb:AV bl l.toNat
  ·rfl
  ·rw [h l hl hb];rfl
 refine⟨x,hxn,hxl,(Vi (hvx fun l _ h=>by rw [h];rfl)).1 g3,?_,?_⟩
 ·have:=dE p1 ht
  refine(Vi ?_).1 this
  have x2:BP t.al x=v':=x2
  rw [←x2,Tm fun _ _ h=>h]
 ·rw [←g4]
  refine RP hI.hp hxn hun (hvx fun l hm h=>?_).symm
  have:=hbit l (hxn l hm)
  rw [h,Bool.or_true,Bool.true_and] at this
  rcases hxl l hm with h5|h5
  ·rw [h5];rfl
  ·rw [this,h5,Bool.or_true]
end
theorem Jv{al:Int}{u:List Int}(hu:IF u)(h:∀l∈u,AV al l.toNat=true):∀l∈u,l∈Ac al:=fun l hl=>by
 have:=hu l hl
 obtain⟨n,rfl⟩:∃n:Nat,l=n:=⟨l.toNat,by omega⟩
 have h2:=h _ hl
 rw [Int.toNat_natCast] at h2
 exact DT.2 ⟨by omega,h2⟩
theorem VL{g:Gr}{w:List Int}(h:DN g=some w):over g w∧Sj g w∧∀u,over g u→Sj g u→¬slt u w:=by
 have:=Dq g
 rw [h] at this;exact this
theorem dY{g:Gr}(h:DN g=none):∀u,over g u→¬Sj g u:=by
 have:=Dq g
 rw [h] at this;exact this
theorem Kr{s:Sys}{a p:AZ}{w:List Int}(h:DG s a p=some w):Dg s a p=true∧(∀l∈w,l∈Ac (GO .i64 s.al a.al))∧GQ s w∧GP a w=true∧GP p w=false:=by
 unfold DG at h
 by_cases hv:Dg s a p=true
 ·rw [if_pos hv] at h
  obtain⟨h1,h2,_⟩:=VL h
  exact⟨hv,h1,(lO hv h1).1 h2⟩
 ·rw [if_neg hv] at h;cases h
theorem Xm{l:List Sys}{p:AZ}{w:List Int}(h:Cg l p=some w):(A3 l && AL p)=true∧(∀m∈w,m∈Ac (Bm l))∧(∀s∈l,GQ s w)∧GP p w=false:=by
 unfold Cg at h
 by_cases hv:(A3 l && AL p)=true
 ·rw [if_pos hv] at h
  obtain⟨h1,h2,_⟩:=VL h
  exact⟨hv,h1,(il hv h1).1 h2⟩
 ·rw [if_neg hv] at h;cases h
theorem Wk{l:List Sys}{p:AZ}(hv:(A3 l && AL p)=true):IY l p=true↔∀w,(∀m∈w,m∈Ac (Bm l))→(∀s∈l,GQ s w)→GP p w=true:=by
 unfold IY Cg
 rw [hv,Bool.true_and,if_pos rfl]
 constructor
 ·intro h w hw h1
  cases ho:DN (Er (CP l p)) with
  | some x=>rw [ho] at h;cases h
  | none=>
   have:=dY ho w hw
   rw [il hv hw] at this
   cases h3:GP p w
   ·exact absurd ⟨h1,h3⟩ this
   ·rfl
 ·intro h
  cases ho:DN (Er (CP l p)) with
  | none=>rfl
  | some x=>
   obtain⟨h1,h2,_⟩:=VL ho
   obtain⟨h3,h5⟩:=(il hv h1).1 h2
   rw [h x h1 h3] at h5;cases h5
theorem TJ(n:Nat)(hn:n < 64):AV 0 n=false:=by
 have:=C4 (s:=0) (n:=n) (by omega) hn
 rw [show ((0:Nat):Int)=0 from rfl] at this
 rw [this];simp
theorem Jx{t:Sys}:A3 [t]=AP t:=by simp [A3]
theorem Mq{s t:Sys}:A3 [s,t]=(AP s && AP t):=by simp [A3]
theorem XJ{t:Sys}(ht:AP t=true){n:Nat}(hn:n < 64):AV (Bm [t]) n=AV t.al n:=by
 unfold Bm
 rw [Jx,ht,if_pos rfl]
 show AV (GO .i64 0 t.al) n=_
 rw [LQ (by decide) (AK ht).1 hn,TJ n hn,Bool.false_or]
theorem XK{s t:Sys}(hs:AP s=true)(ht:AP t=true){n:Nat}(hn:n < 64):AV (Bm [s,t]) n=(AV s.al n || AV t.al n):=by
 unfold Bm
 rw [Mq,hs,ht,Bool.and_self,if_pos rfl]
 show AV (GO .i64 (GO .i64 0 s.al) t.al) n=_
 have h0:A2 0=true:=by decide
 rw [LQ (KN h0 (AK hs).1) (AK ht).1 hn,LQ h0 (AK hs).1 hn,TJ n hn,Bool.false_or]
theorem iN{t:Sys}(ht:AP t=true){u:List Int}:(∀l∈u,l∈Ac (Bm [t]))↔∀l∈u,l∈Ac t.al:=by
 constructor
 ·intro h
  have hn:=GD h
  exact Jv hn fun l hl=>by rw [←XJ ht (by have:=hn l hl;omega)];exact(Ak (h l hl)).2.2
 ·intro h
  have hn:=GD h
  exact Jv hn fun l hl=>by rw [XJ ht (by have:=hn l hl;omega)];exact(Ak (h l hl)).2.2
theorem fi{s t:Sys}(hs:AP s=true)(ht:AP t=true){u:List Int}:(∀l∈u,l∈Ac (Bm [s,t]))↔IF u∧∀l∈u,AV s.al l.toNat=true∨AV t.al l.toNat=true:=by
 constructor
 ·intro h
  have hn:=GD h
  refine⟨hn,fun l hl=>?_⟩
  have:=(Ak (h l hl)).2.2
  rw [XK hs ht (by have:=hn l hl;omega),Bool.or_eq_true] at this
  exact this
 ·rintro⟨hn,h⟩
  exact Jv hn fun l hl=>by rw [XK hs ht (by have:=hn l hl;omega),Bool.or_eq_true];exact h l hl
theorem ko{a b:Int}(ha:A2 a=true)(hb:A2 b=true){u:List Int}:(∀l∈u,l∈Ac (GO .i64 a b))↔IF u∧∀l∈u,AV a l.toNat=true∨AV b l.toNat=true:=by
 constructor
 ·intro h
  have hn:=GD h
  refine⟨hn,fun l hl=>?_⟩
  have:=(Ak (h l hl)).2.2
  rw [LQ ha hb (by have:=hn l hl;omega),Bool.or_eq_true] at this
  exact this
 ·rintro⟨hn,h⟩
  exact Jv hn fun l hl=>by rw [LQ ha hb (by have:=hn l hl;omega),Bool.or_eq_true];exact h l hl
theorem gb{s t:Sys}{w:List Int}:(∀x∈[s,t],GQ x w)↔GQ s w∧GQ t w:=by simp
theorem fj{t:Sys}{w:List Int}:(∀x∈[t],GQ x w)↔GQ t w:=by simp
theorem Ti{s t:Sys}{p:AZ}{al:Int}(hI:Fp s p t al){v:List Int}(hv:∀l∈v,l∈Ac t.al)(ht:GQ t v)(hu:LS ⟨s,p,al⟩ (Df (BP al v))=false):IY [s,t] p=false:=by
 have hp2:(A3 [s,t] && AL p)=true:=by rw [Mq,hI.hs,hI.ht,hI.hp];rfl
 obtain⟨x,x1,x2,x3,x4,x5⟩:=Vv hI hv ht hu
 cases hk:IY [s,t] p
 ·rfl
 ·rw [Wk hp2] at hk
  rw [hk x ((fi hI.hs hI.ht).2 ⟨x1,x2⟩) (gb.2 ⟨x3,x4⟩)] at x5
  cases x5
theorem aJ{a:AZ}{w:List Int}(hw:∀l∈w,l∈Ac a.al):LA a (Df w)=GP a w:=by
 unfold GP
 rw [Rx w 0 hw];rfl
theorem Xp{s t:Sys}{p a:AZ}{al:Int}(hI:Fp s p t al)(ha:AL a=true)(hal:a.al=al){u:List Int}(h:DG s a p=some u):(∀l∈BP al u,l∈Ac al)∧LA a (Df (BP al u))=true∧LS ⟨s,p,al⟩ (Df (BP al u))=false:=by
 obtain⟨hv,hl,hs,h1,h2⟩:=Kr h
 have hn:=GD hl
 have hvo:=Xn (al:=al) hn
 have hls:=((ko (AK hI.hs).1 (AF ha).1).1 hl).2
 refine⟨hvo,?_,(PJ (FW hI) hvo).2 ⟨u,fun l hm=>?_,List.prefix_refl _,hs,h2⟩⟩
 ·rw [aJ (by rw [hal];exact hvo),←h1]
  exact RP ha (Y0 hn) hn (by rw [hal,Tm fun _ _ h=>h])
 ·have hb:=hn l hm
  rw [hal] at hls
  by_cases hx:AV al l.toNat=true
  ·exact .inr (Jv (u:=[l]) (by intro m hm;simp at hm;subst hm;exact hb) (by intro m hm;simp at hm;subst hm;exact hx) l (by simp))
  ·refine .inl ?_
   unfold Ck
   refine List.mem_filter.2 ⟨?_,by simpa using hx⟩
   have hsb:AV s.al l.toNat=true:=(hls l hm).resolve_right hx
   exact Jv (u:=[l]) (by intro m hm;simp at hm;subst hm;exact hb) (by intro m hm;simp at hm;subst hm;exact hsb) l (by simp)
theorem GX{t:Sys}{a:AZ}{v:List Int}(h:Cg [t] a=some v):AP t=true∧AL a=true∧(∀l∈v,l∈Ac t.al)∧GQ t v∧GP a v=false:=by
 obtain⟨hv,hl,hs,h2⟩:=Xm h
 rw [Bool.and_eq_true,Jx] at hv
 exact⟨hv.1,hv.2,(iN hv.1).1 hl,fj.1 hs,h2⟩
theorem VR{t:Sys}{a:AZ}{v:List Int}(h:Cg [t] a=some v):(∀l∈BP a.al v,l∈Ac a.al)∧LA a (Df (BP a.al v))=false:=by
 obtain⟨h1,h2,h3,h4,h5⟩:=GX h
 have hn:=GD h3
 have hvo:=Xn (al:=a.al) hn
 refine⟨hvo,?_⟩
 rw [aJ hvo,←h5]
 exact RP h2 (Y0 hn) hn (by rw [Tm fun _ _ h=>h])
end Go.Am
namespace Go.Am
open Go Go.Proofs
set_option maxHeartbeats 1000000
attribute [local irreducible] AQ BS Lex Bc Av Spec
variable {TB:Bs}
theorem SD{t:Ex}{al:Int}{A:W→Bool}(hT:JU Tryz.prog TB 120 175 t al A):Pure Tryz.prog TB 68 [Ew t] (Iv (H0 A al Bj)):=by
 have h1:Pure Tryz.prog TB 118 [Ew t,DO Bj] (Iv (H0 A al Bj)):=IQ hT Bj ⟨by decide,by decide,fun w hw=>by simp [Bj] at hw;subst hw;simp,fun w hw=>by simp [Bj] at hw;subst hw;simp⟩
 rcases hc:H0 A al Bj with _|x<;>rw [hc] at h1<;>(
  refine eG Tryz.func68 rfl (by kernel_rfl) rfl ?_;intro Γ hΓ
  (repeat' first |refine sN rfl ?_ |((first|refine sA rfl ?_ ?_|refine s4 rfl ‹_› rfl ?_ ?_);first|exact tI|omega|simp only[oZ] at *;omega) |(refine s2 rfl fun _ _hb=>?_;try (simp only[Bool.not_true,Bool.not_false] at _hb;subst _hb)) |refine sP rfl (h1) rfl ?_|(refine Ai rfl ?_;refine gA rfl ?_;first|refine gS (fun _ _=>AU rfl rfl (by rfl) (by rfl)) ?_) |refine s3 rfl ?_ ?_<;>rintro rfl |refine aU rfl ?_ |refine Aa ?_ |refine rE (by kernel_rfl) ?_|(refine aC rfl ?_ ?_<;>rintro⟨⟩)|refine aK ?_|refine aE ?_|refine aB ?_|refine aR ⟨_,rfl,?_⟩)
  all_goals rfl)
end Go.Am
namespace Go.Am
open Go Go.Proofs
set_option maxHeartbeats 1000000
attribute [local irreducible] AQ BS Lex Bc Av Spec
variable {tabs:List (Nat×Obj)}
theorem cq{L:W→Bool}{ls:List UInt8}{t:AT}(hc:t.cols=[[]])(h2:2≤t.rows.length)(hn:(AE L t).Nodup):A8 L ls t=none:=by
 cases ho:A8 L ls t with
 | none=>rfl
 | some w=>
  exfalso
  have hm:=(Ik ho).2
  obtain⟨a,ha⟩:=get_some (l:=t.rows) (k:=0) (by omega)
  obtain⟨b,hb⟩:=get_some (l:=t.rows) (k:=1) (by omega)
  have ne:=bU hn hb ha (by omega)
  have h1:marks L t.cols a∈AE L t:=List.mem_map_of_mem (List.mem_of_getElem? ha)
  have h2:marks L t.cols b∈AE L t:=List.mem_map_of_mem (List.mem_of_getElem? hb)
  have hk:∀v:W,marks L t.cols v=[QW (L v)]:=fun v=>by rw [hc];simp [marks]
  rw [hk] at hm h1 h2 ne
  rw [hk] at ne
  cases hx:L a<;>cases hy:L b<;>cases hz:L w<;>simp_all
theorem kj(L:W→Bool)(ls:List UInt8):∃u,Bd L ls 13 Bj=some u∧u.cols=[[]]∧u.rows.length≤2:=by
 unfold Bd
 cases h:A8 L ls Bj with
 | none=>exact⟨Bj,rfl,rfl,by decide⟩
 | some w=>
  dsimp only
  rw [if_neg (by decide)]
  unfold Bd
  have hk:=(ME L ls).push h
  have hf:=cq (ls:=ls) (t:=⟨Bj.rows++[w],Bj.cols⟩) rfl (by simp [Bj]) hk.nd
  rw [hf]
  exact⟨_,rfl,rfl,by simp [Bj]⟩
theorem iG{te:Ex}(h:CM te=true):∃u,SA te=some u∧AY (Fc te) (D0 te) u=true∧A8 (Cv te) (A0 (A5 te)) u=none∧u.cols=[[]]∧u.rows.length≤2∧BQ (Cv te) (A0 (A5 te)) u∧0≤A5 te:=by
 obtain⟨u,hu,hc,hr⟩:=kj (Cv te) (A0 (A5 te))
 obtain⟨k1,k2,k3,k4,k5,k6,k7⟩:=On (ME _ _) hu
 have ha:=HS h
 have h0:0≤A5 te:=by unfold A2 at ha;simp only [Bool.and_eq_true,decide_eq_true_eq] at ha;omega
 refine⟨u,by unfold SA;rw [if_pos h,hu],?_,k2,hc,hr,⟨k1,GF k2⟩,h0⟩
 rw [←Dw,h,Bool.true_and]
 refine JF ha h0 k1 (by omega) (by rw [hc];decide) (fun w hw=>?_) (fun w hw=>by rw [hc] at hw;simp at hw;subst hw;simp)
 obtain⟨i,hi,he⟩:=List.getElem_of_mem hw
 have:=k1.short i w (by rw [List.getElem?_eq_getElem hi,he])
 omega
theorem iF(te:Ex):H0 (Fc te) (D0 te) Bj=SA te:=by
 have h:=TM te Bj
 unfold H0
 refine h.trans ?_
 unfold Hj SA
 cases hk:CM te
 ·rfl
 ·have ha:=HS hk
  have h0:0≤A5 te:=by unfold A2 at ha;simp only [Bool.and_eq_true,decide_eq_true_eq] at ha;omega
  have hbd:=JD (A5 te)
  rw [JF ha h0 (ME _ _) (by decide) (by decide) (fun w hw=>by have:=(hbd.onR w hw).2;omega) (fun w hw=>by simp [Bj] at hw;subst hw;simp)]
  rfl
end Go.Am
namespace Go.Am
open Go Go.Proofs
set_option maxHeartbeats 1000000
attribute [local irreducible] AQ BS Lex Bc Av Spec
abbrev Hl:AZ:=⟨0,[],[]⟩
abbrev En(s:Sys)(p:AZ)(al:Int):Ex:=⟨false,Hl,s,p,al⟩
noncomputable def FY(s t:Sys)(p:AZ)(al:Int)(a:AZ):Option (W×Bool):=match DG s a p with
 | some u=>some (Df (BP al u),true)
 | none=>match Cg [t] a with
  | some v=>some (Df (BP al v),false)
  | none=>none
noncomputable def BO(s:Sys)(p:AZ)(al:Int)(x:AT):AZ:=AR (LS ⟨s,p,al⟩) al x
noncomputable def HG(s t:Sys)(p:AZ)(al:Int)(x:AT):Option AT:=match FY s t p al (BO s p al x) with
 | some (w,b)=>if (b || LS ⟨s,p,al⟩ w)=true then Lq (En s p al) x w else none
 | none=>none
noncomputable def Eu(s t:Sys)(p:AZ)(al:Int):Nat→AT→List AT
 | 0,x=>[x]
 | k+1,x=>x::match HG s t p al x with
  | some y=>Eu s t p al k y
  | none=>[]
structure Vd where
 code:Int
 a:AZ
 tr:W
 rd:Int
noncomputable def OQ(s t:Sys)(p:AZ)(al:Int)(x:AT)(r:Nat):Vd:=match FY s t p al (BO s p al x) with
 | none=>⟨0,BO s p al x,[],r⟩
 | some (w,b)=>if (b || LS ⟨s,p,al⟩ w)=true then ⟨2,Hl,[],r⟩ else ⟨1,Hl,PX (Cg [s,t] p),r⟩
noncomputable def fW(s:Sys)(p:AZ)(al:Int):AT:=(SA (En s p al)).getD Bj
noncomputable def BX(s t:Sys)(p:AZ)(al:Int):List AT:=Eu s t p al 11 (fW s p al)
noncomputable def C8(s t:Sys)(p:AZ):Vd:=if Bz s p t < 0 then ⟨3,Hl,[],0⟩ else
 OQ s t p (Bz s p t) ((BX s t p (Bz s p t)).getLastD Bj) (BX s t p (Bz s p t)).length
structure Hi (s:Sys) (p:AZ) (al:Int) (x:AT) (r:Nat):Prop where
 v:AY (Fc (En s p al)) (D0 (En s p al)) x=true
 o:A8 (LS ⟨s,p,al⟩) (A0 al) x=none
 rows:r≤x.rows.length
 cols:x.cols.length=r
theorem Nl(s:Sys)(p:AZ)(al:Int):Cv (En s p al)=LS ⟨s,p,al⟩:=by
 funext w
 unfold Cv
 rw [if_neg Bool.false_ne_true]
theorem Ff(s:Sys)(p:AZ)(al:Int):A5 (En s p al)=al:=by
 unfold A5
 rw [if_neg Bool.false_ne_true]
theorem Tf{s:Sys}{p:AZ}{al:Int}(h:A6 ⟨s,p,al⟩=true):SA (En s p al)=some (fW s p al)∧Hi s p al (fW s p al) 1:=by
 have hk:CM (En s p al)=true:=by unfold CM;rw [if_neg Bool.false_ne_true];exact h
 obtain⟨u,h1,h2,h3,h4,h5,h6,h7⟩:=iG hk
 unfold fW
 rw [h1]
 refine⟨rfl,h2,?_,?_,by show u.cols.length=1;rw [h4];rfl⟩
 ·rw [Nl,Ff] at h3;exact h3
 ·show 1≤u.rows.length
  have:=(List.getElem?_eq_some_iff.1 h6.r0).1
  omega
theorem WE{s t:Sys}{p:AZ}{al:Int}{x y:AT}{r:Nat}(hx:Hi s p al x r)(h:HG s t p al x=some y):Hi s p al y (r+1)∧x.rows.length < y.rows.length:=by
 unfold HG at h
 split at h
 ·split at h
  ·obtain⟨_,_,h2,h3,_,h5,v,h6⟩:=je h
   have hr:=hx.rows
   have hc:=hx.cols
   rw [Nl,Ff] at h3
   exact⟨⟨h2,h3,by omega,by rw [h6];simp;omega⟩,h5⟩
  ·cases h
 ·cases h
theorem Vm{s:Sys}{p:AZ}{al:Int}{x:AT}{r:Nat}(hx:Hi s p al x r):x.rows.length≤12∧r≤12:=by
 obtain⟨_,_,_,hsh,_⟩:=Dk hx.v
 have:=hsh.rl
 have:=hx.rows
 omega
theorem PC{s t:Sys}{p:AZ}{al:Int}:∀(k:Nat) {x:AT} {r:Nat},Hi s p al x r→∀(i:Nat) (y:AT),(Eu s t p al k x)[i]? = some y→Hi s p al y (r+i)
 | 0,x,r,hx,i,y,h=>by
  cases i with
  | zero=>simp [Eu] at h;subst h;exact hx
  | succ i=>simp [Eu] at h
 | k + 1,x,r,hx,i,y,h=>by
  cases i with
  | zero=>simp [Eu] at h;subst h;exact hx
  | succ i=>
   simp only [Eu,List.getElem?_cons_succ] at h
   cases hn:HG s t p al x with
   | none=>rw [hn] at h;simp at h
   | some z=>
    rw [hn] at h
    have:=PC k (WE hx hn).1 i y h
    rwa [show r+1+i=r+(i+1) by omega] at this
theorem dH{s t:Sys}{p:AZ}{al:Int}(k:Nat)(x:AT):Eu s t p al k x≠[]:=by cases k<;>simp [Eu]
theorem PB{s t:Sys}{p:AZ}{al:Int}:∀(k:Nat) {x:AT} {r:Nat},Hi s p al x r→12≤k+r→∀(i:Nat) (y:AT),(Eu s t p al k x)[i]? = some y→(Eu s t p al k x)[i+1]? = HG s t p al y
 | 0, x,r,hx,hk,i,y,h=>by
  cases i with
  | zero=>
   simp [Eu] at h
   subst h
   cases hn:HG s t p al x with
   | none=>simp [Eu]
   | some z=>
    have:=Vm (WE hx hn).1
    omega
  | succ i=>simp [Eu] at h
 | k + 1,x,r,hx,hk,i,y,h=>by
  simp only [Eu] at h ⊢
  cases hn:HG s t p al x with
  | none=>
   rw [hn] at h
   cases i with
   | zero=>simp at h;subst h;simp [hn]
   | succ i=>simp at h
  | some z=>
   rw [hn] at h
   cases i with
   | zero=>
    simp at h;subst h
    rw [hn]
    cases k<;>simp [Eu]
   | succ i=>
    simp only [List.getElem?_cons_succ] at h ⊢
    exact PB k (WE hx hn).1 (by omega) i y h
section
variable {s t:Sys}{p:AZ}{al:Int}(hI:Fp s p t al)
include hI
theorem run_get{i:Nat}{x:AT}(h:(BX s t p al)[i]? = some x):Hi s p al x (i+1)∧(BX s t p al)[i+1]? = HG s t p al x:=by
 obtain⟨_,h1⟩:=Tf (FW hI)
 have h2:=PC 11 h1 i x h
 rw [Nat.add_comm] at h2
 exact⟨h2,PB 11 h1 (by omega) i x h⟩
theorem Li:1≤(BX s t p al).length∧(BX s t p al).length≤12:=by
 have hne:BX s t p al≠[]:=dH 11 _
 have h1:1≤(BX s t p al).length:=List.length_pos_iff.2 hne
 obtain⟨x,hx⟩:=get_some (l:=BX s t p al) (k:=(BX s t p al).length - 1) (by omega)
 have:=(Vm (run_get hI hx).1).2
 omega
theorem dr:∃x,(BX s t p al).getLastD Bj=x∧Hi s p al x (BX s t p al).length∧HG s t p al x=none:=by
 have hl:=Li hI
 obtain⟨x,hx⟩:=get_some (l:=BX s t p al) (k:=(BX s t p al).length - 1) (by omega)
 obtain⟨h1,h2⟩:=run_get hI hx
 rw [show (BX s t p al).length - 1+1=(BX s t p al).length by omega] at h1 h2
 refine⟨x,?_,h1,?_⟩
 ·rw [List.getLastD_eq_getLast?,List.getLast?_eq_getElem?,hx];rfl
 ·rw [←h2];simp
theorem Ud:¬Bz s p t < 0:=by
 have:=QL hI
 rw [hI.hal] at this
 unfold A2 at this
 simp only [decide_eq_true_eq] at this
 omega
theorem LP{x:AT}{r:Nat}(hx:Hi s p al x r):AL (BO s p al x)=true∧(BO s p al x).al=al∧(BO s p al x).nx.length=x.rows.length∧BQ (LS ⟨s,p,al⟩) (A0 al) x:=by
 obtain⟨_,_,hv,hsh,_⟩:=Dk hx.v
 have hk:=Iu hv
 rw [Nl,Ff] at hk
 have hcl:BQ (LS ⟨s,p,al⟩) (A0 al) x:=⟨hk,GF hx.o⟩
 exact⟨NL (QL hI) hcl hsh.rl,rfl,by simp [BO,AR],hcl⟩
theorem av{x:AT}{r:Nat}(hx:Hi s p al x r):Dg s (BO s p al x) p=true∧(A3 [t] && AL (BO s p al x))=true:=by
 obtain⟨h1,_⟩:=LP hI hx
 exact⟨by unfold Dg;rw [hI.hs,h1,hI.hp];rfl,by rw [Jx,hI.ht,h1];rfl⟩
theorem Zp{x:AT}{r:Nat}(hx:Hi s p al x r):(FY s t p al (BO s p al x)=none↔LZ s t p (BO s p al x)=0)∧(LZ s t p (BO s p al x)=0∨LZ s t p (BO s p al x)=3∨LZ s t p (BO s p al x)=4):=by
 obtain⟨h1,h2,_⟩:=LP hI hx
 obtain⟨v1,v2⟩:=av hI hx
 have hn:=Ud hI
 have hal:(BO s p al x).al=Bz s p t:=by rw [h2,hI.hal]
 unfold LZ
 rw [if_neg (not_or.2 ⟨hn,by rw [h1];simp⟩),if_neg (fun h=>h hal)]
 unfold FY bN IY
 rw [v1,v2,Bool.true_and,Bool.true_and]
 cases DG s (BO s p al x) p with
 | some u=>simp
 | none=>
  cases Cg [t] (BO s p al x) with
  | some v=>simp
  | none=>simp
theorem jo:∃x,Hi s p al x (BX s t p al).length∧HG s t p al x=none∧C8 s t p=OQ s t p al x (BX s t p al).length:=by
 obtain⟨x,h1,h2,h3⟩:=dr hI
 refine⟨x,h2,h3,?_⟩
 unfold C8
 rw [if_neg (Ud hI),←hI.hal,h1]
theorem aw:∃x,Hi s p al x (BX s t p al).length∧HG s t p al x=none∧
    ((C8 s t p=⟨0,BO s p al x,[],(BX s t p al).length⟩∧LZ s t p (BO s p al x)=0)∨
     (C8 s t p=⟨2,Hl,[],(BX s t p al).length⟩∧∃w b,FY s t p al (BO s p al x)=some (w,b)∧(b || LS ⟨s,p,al⟩ w)=true∧Lq (En s p al) x w=none)∨
     (C8 s t p=⟨1,Hl,PX (Cg [s,t] p),(BX s t p al).length⟩∧IY [s,t] p=false∧(Cg [s,t] p).isSome=true)):=by
  obtain⟨x,h1,h2,h3⟩:=jo hI
  refine⟨x,h1,h2,?_⟩
  rw [h3]
  unfold OQ
  have hf:=Zp hI h1
  unfold HG at h2
  cases hr:FY s t p al (BO s p al x) with
  | none=>exact .inl ⟨rfl,hf.1.1 hr⟩
  | some wb=>
    obtain⟨w,b⟩:=wb
    rw [hr] at h2
    simp only at h2 ⊢
    by_cases hb:(b || LS ⟨s,p,al⟩ w)=true
    · rw [if_pos hb] at h2 ⊢
      exact .inr (.inl ⟨rfl,w,b,rfl,hb,h2⟩)
    · rw [if_neg hb]
      refine .inr (.inr ⟨rfl,?_⟩)
      have hb:b=false∧LS ⟨s,p,al⟩ w=false:=by simpa using hb
      unfold FY at hr
      split at hr
      · injection hr with hr;injection hr with _ hr;rw [hb.1] at hr;cases hr
      · split at hr
        · rename_i v hv
          injection hr with hr;injection hr with hr _
          subst hr
          obtain⟨b1,b2,b3,b4,b5⟩:=GX hv
          have hk:=Ti hI b3 b4 hb.2
          refine⟨hk,?_⟩
          unfold IY at hk
          have hp2:(A3 [s,t] && AL p)=true:=by rw [Mq,hI.hs,hI.ht,hI.hp];rfl
          rw [hp2,Bool.true_and] at hk
          cases ho:Cg [s,t] p with
          | none=>rw [ho] at hk;cases hk
          | some _=>rfl
        · cases hr
end
theorem RF{s:Sys}{a p:AZ}{w:List Int}(h:DG s a p=some w):w.length≤2304:=by
 obtain⟨hv,_⟩:=Kr h
 unfold DG at h
 rw [if_pos hv] at h
 obtain⟨hn,hk,hf⟩:=NW hv
 have hi:=Dq (Er (Ek s a p))
 rw [h] at hi
 have hs:=hi.short (OD hn hf)
 have hN:(Er (Ek s a p)).N=(s.st*((a.nx.length:Int)*((p.nx.length:Int)*1))).toNat:=rfl
 unfold Dg at hv
 simp only [Bool.and_eq_true] at hv
 have h1:=AK hv.1.1
 have h2:=AF hv.1.2
 have h3:=AF hv.2
 have h4:(a.nx.length:Int)*((p.nx.length:Int)*1)≤12*12:=Int.mul_le_mul (by omega) (by omega) (by omega) (by omega)
 have h5:s.st*((a.nx.length:Int)*((p.nx.length:Int)*1))≤16*144:=Int.mul_le_mul (by omega) (by omega) (by
  have:0≤(a.nx.length:Int)*((p.nx.length:Int)*1):=Int.mul_nonneg (by omega) (by omega)
  exact this) (by omega)
 omega
theorem RE{t:Sys}{a:AZ}{w:List Int}(h:Cg [t] a=some w):w.length≤192:=by
 obtain⟨b1,b2,_⟩:=GX h
 have hv:(A3 [t] && AL a)=true:=by rw [Jx,b1,b2];rfl
 unfold Cg at h
 rw [if_pos hv] at h
 obtain⟨hn,hk,hf⟩:=NV hv
 have hi:=Dq (Er (CP [t] a))
 rw [h] at hi
 have hs:=hi.short (OD hn hf)
 have hN:(Er (CP [t] a)).N=(t.st*((a.nx.length:Int)*1)).toNat:=rfl
 have h1:=AK b1
 have h2:=AF b2
 have h5:t.st*((a.nx.length:Int)*1)≤16*12:=Int.mul_le_mul (by omega) (by omega) (by omega) (by omega)
 omega
theorem Vy(al:Int)(u:List Int):(Df (BP al u)).length≤u.length:=by
 unfold Df BP
 rw [List.length_map]
 exact List.length_filter_le _ _
theorem N7{s t:Sys}{p a:AZ}{al:Int}{w:W}{b:Bool}(h:FY s t p al a=some (w,b)):w.length≤4000:=by
 unfold FY at h
 split at h
 ·rename_i u hu
  injection h with h;injection h with h h5
  have:=RF hu
  have:=Vy al u
  rw [←h];omega
 ·split at h
  ·rename_i v hv
   injection h with h;injection h with h h5
   have:=RE hv
   have:=Vy al v
   rw [←h];omega
  ·cases h
section
variable {s t:Sys}{p:AZ}{al:Int}(hI:Fp s p t al)
include hI
theorem dM:CM (En s p al)=true:=by unfold CM;rw [if_neg Bool.false_ne_true];exact FW hI
end
def IG(al:Int)(w:W):W:=w.filter (Ie al)
theorem bI{al l:Int}(h:0≤l∧l < 6):Ie al (UInt8.ofNat (97+l.toNat))=AV al l.toNat:=by
 have h2:(UInt8.ofNat (97+l.toNat)).toNat=97+l.toNat:=by simp;omega
 have h3:=Ue al (UInt8.ofNat (97+l.toNat))
 have h4:FU (UInt8.ofNat (97+l.toNat))=true:=by rw [Ft,h2,decide_eq_true_eq];omega
 rw [←h3,if_pos h4,h2]
 unfold hasB
 rw [show ((97+l.toNat:Nat):Int) - 97=l by omega,decide_eq_true h.1];rfl
theorem Pj{al:Int}:∀ {u:List Int},IF u→IG al (Df u)=Df (BP al u)
 | [],_=>rfl
 | l::u,hu=>by
  have ih:=Pj (al:=al) (u:=u) (fun x hx=>hu x (by simp [hx]))
  have h1:=bI (al:=al) (hu l (by simp))
  unfold IG Df BP at *
  rw [List.map_cons,List.filter_cons,List.filter_cons,h1]
  cases AV al l.toNat
  ·simpa using ih
  ·simpa using ih
theorem UL(al:Int)(w:W):(IG al w).length≤w.length:=List.length_filter_le _ _
theorem Rv{al:Int}{w:W}{k:Nat}{c:UInt8}(hc:w[k]? = some c):IG al (w.take (k+1))=if Ie al c then IG al (w.take k)++[c] else IG al (w.take k):=by
 unfold IG
 rw [List.take_add_one,hc,Option.toList_some,List.filter_append]
 cases h:Ie al c<;>simp [h]
theorem ay{s:Sys}{a p:AZ}{u:List Int}(h:DG s a p=some u):IF u∧(Df u).length≤2304:=by
 obtain⟨_,h2,_⟩:=Kr h
 exact⟨GD h2,by unfold Df;rw [List.length_map];exact RF h⟩
theorem ax{t:Sys}{a:AZ}{u:List Int}(h:Cg [t] a=some u):IF u∧(Df u).length≤192:=by
 obtain⟨_,_,h3,_⟩:=GX h
 exact⟨GD h3,by unfold Df;rw [List.length_map];exact RE h⟩
theorem PN{u:List Int}(hu:IF u)(hl:(Df u).length≤50000):Ep (Df u)=true:=by
 unfold Ep
 rw [decide_eq_true hl,Bool.true_and,List.all_eq_true]
 intro c hc
 unfold Df at hc
 obtain⟨l,hl,rfl⟩:=List.mem_map.1 hc
 have:=hu l hl
 rw [Ft,decide_eq_true_eq]
 have h2:(UInt8.ofNat (97+l.toNat)).toNat=97+l.toNat:=by simp;omega
 rw [h2];omega
end Go.Am
namespace Go.Am
open Go Go.Proofs
set_option maxHeartbeats 1000000
attribute [local irreducible] AQ BS Lex Bc Av Spec
variable {TB:Bs}
theorem Nc(w:W)(al:Int)(hl:w.length≤1048576):Pure Tryz.prog TB 64 [eT w,eI .i64 al] (eT (IG al w)):=by
 refine eG Tryz.func64 rfl (by kernel_rfl) rfl ?_;intro Γ hΓ
 (repeat first|refine tM rfl ?_ |refine aU rfl ?_ |refine Aa ?_)
 (refine pW rfl ?_ rfl (by rfl);refine Hb 1 5 ?_)
 (repeat first|refine tM rfl ?_ |refine aU rfl ?_ |refine Aa ?_)
 refine aB ?_
 refine aL (α:={k:Nat // k≤w.length}) [0,1,8] [] rfl rfl (fun ⟨k,hk⟩=>[(5,.o (.arr 0 1 0 (IG al (w.take k)).length)),(9,eI .i64 k)]) (fun ⟨k,hk⟩=>[(0,.cells 5 1 ((IG al (w.take k)).map Fs))]) 1 (fun ⟨k,hk⟩=>w.length - k) (⟨0,by omega⟩) hΓ rfl (by (repeat' first|exact tI|rfl|refine And.intro ?_ ?_)) ?_;rintro⟨k,hk⟩;(try dsimp only[cA,cB])
 by_cases hlt:k < w.length
 ·obtain⟨c,hc⟩:=get_some hlt
  have hc':w[((k:Nat):Int).toNat]? = some c:=by simpa using hc
  have hla:=So (TB:=TB) w k c hc'
  have hha:=Mg (TB:=TB) al (if FU c then (c.toNat:Int) - 97 else -1)
  rw [Ue] at hha
  generalize (if FU c then (c.toNat:Int) - 97 else -1:Int)=l at hla hha
  have hst:=Rv (al:=al) hc
  have hrl:=UL al (w.take k)
  rw [List.length_take] at hrl
  (repeat first|refine s2 rfl fun _ _hb=>?_ |refine aU rfl ?_ |refine Aa ?_)
  ((refine aC rfl ?_ ?_<;>rintro⟨⟩);all_goals try(exfalso;(simp only[oZ] at *;omega)))
  refine aK ?_
  refine aS (aB ?_)
  cases hcc:Ie al c
  ·rw [hcc] at hha hst
   (repeat first|refine tA rfl ?_ |refine sP rfl (hla) rfl ?_|refine sP rfl (hha) rfl ?_ |refine aU rfl ?_ |refine Aa ?_)
   ((refine aC rfl ?_ ?_<;>rintro⟨⟩);all_goals try (simp at _hb;done))
   refine aK ?_
   (repeat first|(refine sA rfl ?_ ?_;first|exact tI|omega) |refine aU rfl ?_ |refine Aa ?_)
   refine⟨⟨k+1,by omega⟩,by dsimp only;(omega),[0],?_⟩
   simp[cX,zC,hΓ,hst,Fs,FD]
  ·rw [hcc] at hha hst
   (repeat first|refine tA rfl ?_ |refine sP rfl (hla) rfl ?_|refine sP rfl (hha) rfl ?_ |refine aU rfl ?_ |refine Aa ?_)
   ((refine aC rfl ?_ ?_<;>rintro⟨⟩);all_goals try (simp at _hb;done))
   (repeat first|refine tA rfl ?_ |(refine s4 rfl ‹_› rfl ?_ ?_;omega) |refine aU rfl ?_)
   (refine pW rfl ?_ rfl (by rfl);refine AH rfl rfl rfl (by first| (simp;done)|(simp;(omega))) rfl (by intro r hr;simp at hr;subst hr;rfl) (by rfl) (Nat.le_of_ble_eq_true rfl) (by simp;omega) ?_)
   (repeat first|(refine sX rfl ?_ ?_;first|exact tI|omega) |refine aU rfl ?_ |refine Aa ?_)
   refine⟨⟨k+1,by omega⟩,by dsimp only;(omega),[1],?_⟩
   simp[cX,zC,hΓ,hst,FD,Fs,List.map_append]
 ·obtain rfl:k=w.length:=by omega
  rw [List.take_length] at *
  (repeat first|refine s2 rfl fun _ _hb=>?_ |refine aU rfl ?_ |refine Aa ?_)
  ((refine aC rfl ?_ ?_<;>rintro⟨⟩);all_goals try(exfalso;(simp only[oZ] at *;omega)))
  refine aE ?_
  (repeat first|refine tM rfl ?_|(refine Ai rfl ?_;refine gA rfl ?_;first| refine gQ (N6 (IG al w) rfl rfl (by simp) (by first| rw [List.drop_zero,List.take_of_length_le (by simp)]|rw [List.drop_zero,SU,List.take_of_length_le (by simp)])) (by rfl) ?_) |refine aU rfl ?_ |refine Aa ?_)
  (subst_vars;exact aR ⟨_,rfl,rfl⟩)
theorem IB[Dl TB](s:Sys)(p:AZ):Pure Tryz.prog TB 63 [Bt s,Bo p] (KF (Cg [s] p)):=by
 refine eN Tryz.func63 rfl (by kernel_rfl) rfl ?_;intro Γ hΓ
 (repeat' first|refine tA rfl ?_ |refine sP rfl (ET [s] p) rfl ?_ |refine aU rfl ?_ |refine Aa ?_|(refine aC rfl ?_ ?_<;>rintro⟨⟩)|refine aK ?_|refine aE ?_|refine aB ?_|refine aR ⟨_,rfl,?_⟩)
 all_goals rfl
theorem EU[Dl TB](s:Sys)(p:AZ):Pure Tryz.prog TB 128 [Bt s,Bo p] (KF (Cg [s] p)):=by
 refine eN Tryz.func128 rfl (by kernel_rfl) rfl ?_;intro Γ hΓ
 (repeat' first|refine tA rfl ?_ |refine sP rfl (EW [s] p) rfl ?_ |refine aU rfl ?_ |refine Aa ?_|(refine aC rfl ?_ ?_<;>rintro⟨⟩)|refine aK ?_|refine aE ?_|refine aB ?_|refine aR ⟨_,rfl,?_⟩)
 all_goals rfl
end Go.Am
