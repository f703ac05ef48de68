/-
  Nodes of systems together, from the last member on.
-/
import Derived.Test.YtbfgijpfhgmepaaGreatDoorPart12
set_option linter.constructorNameAsVariable false
set_option linter.unusedSectionVars false
set_option linter.unusedSimpArgs false
set_option linter.unusedVariables false
namespace Go.Am
open Go
def En:List Int→List (List Int)→List Int
 | _::zs,c::cs=>c.flatMap fun q=>(En zs cs).map fun r=>q*Av zs+r
 | _,_=>[0]
theorem cC:∀ {zs:List Int} {cs:List (List Int)},Ft zs cs→∀out:List Int,Hd zs cs out=out.flatMap fun o=>(En zs cs).map fun r=>o*Av zs+r:=by
 intro zs cs h
 induction h with
 | nil=>intro out;simp [Hd,En,Av]
 | @cons z c zs cs _ _ _ ih=>
  intro out
  rw [Hd,ih,List.flatMap_assoc]
  congr 1
  funext o
  rw [List.flatMap_map,En,List.map_flatMap]
  congr 1
  funext q
  rw [List.map_map]
  congr 1
  funext r
  simp only [Function.comp_def,Av]
  rw [Int.add_mul,Int.mul_assoc];omega
theorem Rn{zs:List Int}{cs:List (List Int)}(h:Ft zs cs):Hd zs cs [0]=En zs cs:=by
 rw [cC h];simp
theorem Ft.drop{zs:List Int}{cs:List (List Int)}(h:Ft zs cs):∀k,Ft (zs.drop k) (cs.drop k):=by
 induction h with
 | nil=>intro k;simp;exact .nil
 | cons h1 h2 h3 ih=>
  intro k
  cases k with
  | zero=>exact .cons h1 h2 h3
  | succ k=>exact ih k
theorem SC{zs:List Int}{cs:List (List Int)}(h:Ft zs cs):(∀v∈En zs cs,0≤v∧v < Av zs)∧((En zs cs).length:Int)≤Av zs:=by
 have:=SH h [0] 1 (by simp) (by omega) (by simp)
 rw [Rn h,Int.one_mul] at this
 exact this
theorem ZS{zs:List Int}{cs:List (List Int)}{k:Nat}{z:Int}{c:List Int}(hz:zs[k]? = some z)(hc:cs[k]? = some c):En (zs.drop k) (cs.drop k)=c.flatMap fun q=>(En (zs.drop (k+1)) (cs.drop (k+1))).map fun r=>q*Av (zs.drop (k+1))+r:=by
 rw [Bo hz,Bo hc,En]
theorem WV{zs:List Int}{k:Nat}{z:Int}(hz:zs[k]? = some z):Av (zs.drop k)=z*Av (zs.drop (k+1)):=by
 rw [Bo hz,Av]
theorem Ub:∀ {zs:List Int} {k:Nat} {z:Int} (n:Int),zs[k]? = some z→(BA zs n)[k]? = some (n / Av (zs.drop (k+1)) % z)
 | [],k,z,n,h=>by simp at h
 | a::zs,0,z,n,h=>by simp at h;subst h;simp [BA]
 | a::zs,k+1,z,n,h=>by
  rw [BA,List.getElem?_cons_succ,List.drop_succ_cons]
  exact Ub n (by simpa using h)
theorem MB:∀(zs ws:List Int),Av (zs++ws)=Av zs*Av ws
 | [],ws=>by simp [Av]
 | z::zs,ws=>by simp [Av,MB zs ws,Int.mul_assoc]
theorem OG:∀(zs ws:List Int) (n:Int),(∀w∈ws,0 < w)→BA (zs++ws) n=BA zs (n / Av ws)++BA ws n
 | [],ws,n,_=>rfl
 | z::zs,ws,n,h=>by
  have hp:=Ry h
  simp only [List.cons_append,BA,OG zs ws n h,MB]
  rw [Int.mul_comm (Av zs),Int.ediv_ediv_of_nonneg (by omega)]
def Zu(l:List Sys)(node letter:Int):List (List Int):=l.zipWith (fun s q=>BI s q letter) (BA (l.map (·.st)) node)
theorem Sm{l:List Sys}(h:∀s∈l,AR s=true)(hl:l.length≤3){letter:Int}(h0:0≤letter)(h1:letter < 6)(node:Int):Ft (l.map (·.st)) (Zu l node letter):=by
 have hn:DL ⟨l,[],[],0,0,0⟩:=⟨h,fun a ha=>(by cases ha),hl,by simp⟩
 have hz:Ae ⟨l,[],[],0,0,0⟩=l.map (·.st):=by simp [Ae]
 have hf:=KN hn node
 have:=Ic hn hf h0 h1
 rw [hz] at this
 unfold Ke at this
 simpa [Zu] using this
theorem eX{l:List Sys}{k:Nat}{s:Sys}(hs:l[k]? = some s)(node letter:Int):(Zu l node letter)[k]? = some (BI s (node / Av ((l.map (·.st)).drop (k+1)) % s.st) letter):=by
 unfold Zu
 rw [List.getElem?_zipWith,hs,Ub (z:=s.st) node (by simp [hs])]
end Go.Am
namespace Go.Am
open Go Go.Proofs
set_option maxHeartbeats 1000000
attribute [local irreducible] AS BT Lex Bc Au Spec
variable {TB:Bt}
theorem Ey{P:Program}{Γ:Ctx}{d:Option Tmp}{ty:TypeId}{pos:String}{af:Array Edge}{g:Option (Nat×Bool)}{f:Env}{σ:Ab}{nx:Nat}{t:TypeId}{x:Operand}{c:D}{cs:List D}{n:Nat}[hl:Dt P t false n](hx:ev f x=some (.o (.ip cs)))(hc:cs[0]? = some c):AS P TB Γ ⟨d,.load t x,ty,pos,af,g⟩ f σ nx (.o (.d c)):=by
 cases cs with
 | nil=>cases hc
 | cons a l=>injection hc with hc;subst hc;exact UU hx
theorem cI{es:List ET}{q l:Int}(h0:0≤q∧q < 16)(h1:0≤l∧l < 6):(((FB es).drop (q.toNat*6)).drop (l.toNat*1))[0]? = some (iD (BH (LW es q.toNat l.toNat):Nat)):=by
 rw [List.getElem?_drop,List.getElem?_drop,Jx (by omega)]
 have e1:(q.toNat*6+(l.toNat*1+0)) / 6=q.toNat:=by omega
 have e2:(q.toNat*6+(l.toNat*1+0)) % 6=l.toNat:=by omega
 rw [e1,e2]
theorem fC[Df TB](l:List Sys)(h:∀s∈l,AR s=true)(hl:l.length≤3)(node letter:Int)(hn0:0≤node)(hn1:node≤1048576)(h0:0≤letter)(h1:letter < 6)(outs:List Int)(hol:outs.length≤1099511627776) :
 Spec Tryz.prog TB 162 [(0,.cells 3 1 (outs.map Al))] 1 [Wv l,eI .i64 node,eI .i64 letter,.o (.arr 0 1 0 outs.length)]
  (fun x σ nx=>x=.o (.arr 1 1 0 (outs++En (l.map (·.st)) (Zu l node letter)).length)∧nx=2∧σ=[(1,.cells 3 1 ((outs++En (l.map (·.st)) (Zu l node letter)).map Al))]):=by
 have hch:=Sm h hl h0 h1 node
 have hpos:∀z∈l.map (·.st),1≤z∧z≤16:=by
  intro z hz
  obtain⟨s,hs,rfl⟩:=List.mem_map.1 hz
  have:=AM (h s hs)
  omega
 have hprod:∀k,1≤Av ((l.map (·.st)).drop k)∧Av ((l.map (·.st)).drop k)≤4096:=by
  intro k
  have h2:=HQ ((l.map (·.st)).drop k) fun z hz=>hpos z (List.mem_of_mem_drop hz)
  have h3:(16:Int) ^ ((l.map (·.st)).drop k).length≤4096:=by
   have:((l.map (·.st)).drop k).length≤3:=by simp;omega
   generalize ((l.map (·.st)).drop k).length=n at this
   have:n=0∨n=1∨n=2∨n=3:=by omega
   rcases this with rfl|rfl|rfl|rfl<;>decide
  omega
 have hlow:=fun k=>SC (hch.drop k)
 have hget:=fun (k:Nat) (s:Sys) (hs:l[k]? = some s)=>eX hs node letter
 generalize Zu l node letter=cs at *
 have hzs:∀(k:Nat) (s:Sys),l[k]? = some s→(l.map (·.st))[k]? = some s.st:=fun k s hs=>by simp [hs]
 have hzlen:(l.map (·.st)).length=l.length:=by simp
 generalize l.map (·.st)=zs at *
 have hcl:=hch.len
 refine eN Tryz.func162 rfl (by kernel_rfl) rfl ?_;intro Γ hΓ
 (repeat first |refine sN rfl ?_ |((first|refine sM rfl ?_ ?_|refine s4 rfl ‹_› rfl ?_ ?_);first|exact tI|omega|simp only[oZ] at *;omega) |refine s2 rfl fun _ _hb=>?_ |refine s3 rfl ?_ ?_<;>rintro rfl |refine aU rfl ?_ |refine Aa ?_ |refine rE (by kernel_rfl) ?_)
 (refine Ai rfl ?_;refine Bs (fun _ _=>C0 rfl rfl rfl) rfl ?_)
 (refine Ai rfl ?_;refine Bs (fun _ _=>Br rfl) rfl ?_)
 (repeat first |refine sN rfl ?_ |((first|refine sA rfl ?_ ?_|refine s4 rfl ‹_› rfl ?_ ?_);first|exact tI|omega|simp only[oZ] at *;omega) |refine s2 rfl fun _ _hb=>?_ |refine s3 rfl ?_ ?_<;>rintro rfl |refine aU rfl ?_ |refine Aa ?_ |refine rE (by kernel_rfl) ?_)
 refine aB ?_
 refine Au.AP (α:={k:Nat // k≤l.length}) (fun ⟨k,hk⟩=>[(1,eI .i64 (node / Av (zs.drop k))),(2,eI .i64 letter),(3,.o (.arr 0 1 0 outs.length)),(4,.o (.ip (GN l))),(9,Ag (En (zs.drop k) (cs.drop k))),(10,eI .i64 (Av (zs.drop k))),(11,eI .i64 ((k:Int) - 1))]) (fun ⟨k,hk⟩=>[(0,.cells 3 1 (outs.map Al))]) 1 (fun ⟨k,hk⟩=>k) (⟨l.length,by omega⟩) [0] (Di hΓ rfl rfl) (by ((repeat' first|exact tI|rfl|refine And.intro ?_ ?_)<;>(simp[cX,zC,hΓ,List.drop_of_length_le,hzlen,hcl.symm,Av,En]))) ?_;rintro⟨k,hk⟩;(try dsimp only)
 (repeat first |refine sN rfl ?_ |((first|refine sM rfl ?_ ?_|refine s4 rfl ‹_› rfl ?_ ?_);first|exact tI|omega|simp only[oZ] at *;omega) |refine s2 rfl fun _ _hb=>?_ |refine s3 rfl ?_ ?_<;>rintro rfl |refine aU rfl ?_ |refine Aa ?_ |refine rE (by kernel_rfl) ?_)
 (refine aC rfl ?_ ?_<;>rintro⟨⟩)
 ·obtain⟨k,rfl⟩:∃k',k=k'+1:=⟨k - 1,by first|omega|simp only[oZ] at *;omega⟩
  obtain⟨s,hs⟩:=get_some (l:=l) (k:=k) (by first|omega|simp only[oZ] at *;omega)
  have hs':(l.map CE)[(((k+1:Nat):Int) - 1).toNat]? = some (CE s):=by simp [hs]
  have hm':(l.map SJ)[(((k+1:Nat):Int) - 1).toNat]? = some (SJ s):=by simp [hs]
  have hso:=h s (List.mem_of_getElem? hs)
  have hsh:=AM hso
  have hz:=hzs k s hs
  have hck:=hget k s hs
  have hstep:=ZS hz hck
  have hpd:=WV hz
  have hpr1:=hprod (k+1)
  have hpr0:=hprod k
  have hlk:=hlow (k+1)
  have hlk0:=(hlow k).2
  rw [hstep] at hlk0
  have hnd:node / Av (zs.drop k)=node / Av (zs.drop (k+1)) / s.st:=by
   rw [hpd,Int.mul_comm,Int.ediv_ediv_of_nonneg (by omega)]
  have hn2:0≤node / Av (zs.drop (k+1)):=Int.ediv_nonneg hn0 (by omega)
  have hn3:node / Av (zs.drop (k+1))≤node:=Int.ediv_le_self _ hn0
  rw [hpd] at hpr0
  generalize Av (zs.drop (k+1))=W at *
  generalize En (zs.drop (k+1)) (cs.drop (k+1))=low at *
  generalize node / W=nd at *
  have hdg:0≤nd % s.st∧nd % s.st < s.st:=⟨Int.emod_nonneg _ (by omega),Int.emod_lt_of_pos _ (by omega)⟩
  refine aK ?_
  refine aS (aB ?_)
  (repeat first |refine sN rfl ?_ |((first|refine sA rfl ?_ ?_|refine s4 rfl ‹_› rfl ?_ ?_);first|exact tI|omega|simp only[oZ] at *;omega) |refine s2 rfl fun _ _hb=>?_ |refine s3 rfl ?_ ?_<;>rintro rfl |refine aU rfl ?_ |refine Aa ?_)
  have hto:∃to,to=BI s (nd % s.st) letter∧(A0 s.al letter.toNat=false→to=[nd % s.st])∧(A0 s.al letter.toNat=true→to=LW s.es (nd % s.st).toNat letter.toNat):=by
   refine⟨_,rfl,fun hb=>?_,fun hb=>?_⟩
   ·unfold BI;rw [if_neg (by simp [hb])]
   ·rw [aM hb];congr 1<;>omega
  have htoin:∀x∈BI s (nd % s.st) letter,0≤x∧x < s.st:=fun x hx=>Jo hso hdg.1 hdg.2 hx
  have htolen:=ML hso (l:=letter) hdg.1 hdg.2
  obtain⟨to,hto,hto0,hto1⟩:=hto
  rw [←hto] at htoin htolen hstep hlk0
  have hmem:A0 s.al letter.toNat=true→Pure Tryz.prog TB 207 [eI .i64 (BH (LW s.es (nd % s.st).toNat letter.toNat):Nat)] (Ag (LW s.es (nd % s.st).toNat letter.toNat)):=fun hb=>by
   have h2:=Fk hso s.es.length (nd % s.st).toNat letter.toNat
   have h3:=fun x hx=>MO hso (k:=s.es.length) (f:=(nd % s.st).toNat) (l:=letter.toNat) (x:=x) hx
   rw [List.take_length] at h2 h3
   exact WR _ h2 fun x hx=>by have:=h3 x hx;omega
  have hld:=cI (es:=s.es) (q:=nd % s.st) (l:=letter) ⟨hdg.1,by omega⟩ ⟨h0,h1⟩
  have hhas:hasB s.al letter=A0 s.al letter.toNat:=by simp [hasB,h0]
  (repeat first |refine sN rfl ?_ |((first|refine sM rfl ?_ ?_|refine s4 rfl ‹_› rfl ?_ ?_);first|exact tI|omega|simp only[oZ] at *;omega) |refine s2 rfl fun _ _hb=>?_ |refine s3 rfl ?_ ?_<;>rintro rfl |refine aU rfl ?_ |refine Aa ?_)
  (repeat first |refine sN rfl ?_ |((first|refine sA rfl ?_ ?_|refine s4 rfl ‹_› rfl ?_ ?_);first|exact tI|omega|simp only[oZ] at *;omega) |refine s2 rfl fun _ _hb=>?_ |(refine sC rfl (Mo _ _) ?_;intro _ _hb) |refine s3 rfl ?_ ?_<;>rintro rfl |refine aU rfl ?_ |refine Aa ?_ |refine rE (by kernel_rfl) ?_)
  have hnd':node / (s.st*W)=nd / s.st:=by rw [←hpd];exact hnd
  have hWst:W*s.st=s.st*W:=Int.mul_comm _ _
  have hlen:∀m,(((to.take m).flatMap fun q=>low.map fun r=>q*W+r).length:Int)≤1048576:=by
   intro m
   have h2:=KR (to.take m) (fun q=>low.map fun r=>q*W+r) 4096 (fun x _=>by simp;omega)
   have h3:(to.take m).length≤to.length:=by simp;omega
   omega
  (refine aC rfl ?_ ?_<;>rintro⟨⟩)
  ·have hb:A0 s.al letter.toNat=true:=by rw [←hhas];exact _hb
   have hm:=hmem hb
   have hto':=hto1 hb
   (repeat first |refine sN rfl ?_ |((first|refine sM rfl ?_ ?_|refine s4 rfl ‹_› rfl ?_ ?_);first|exact tI|omega|simp only[oZ] at *;omega) |refine s2 rfl fun _ _hb=>?_ |refine sP rfl (hm) rfl ?_|(refine Ai rfl ?_;refine gA rfl ?_;first|refine gS (fun _ _=>Ey rfl hld) ?_) |refine s3 rfl ?_ ?_<;>rintro rfl |refine aU rfl ?_ |refine Aa ?_ |refine rE (by kernel_rfl) ?_)
   (refine pW rfl ?_ rfl (by rfl);refine Hk 1 3 ?_)
   (repeat first |refine sN rfl ?_ |((first|refine sM rfl ?_ ?_|refine s4 rfl ‹_› rfl ?_ ?_);first|exact tI|omega|simp only[oZ] at *;omega) |refine s2 rfl fun _ _hb=>?_ |refine s3 rfl ?_ ?_<;>rintro rfl |refine aU rfl ?_ |refine Aa ?_ |refine rE (by kernel_rfl) ?_)
   refine aB ?_
   refine Au.AP (α:={m:Nat // m≤to.length}) (fun ⟨m,hm⟩=>[(1,eI .i64 nd),(2,eI .i64 letter),(3,.o (.arr 0 1 0 outs.length)),(4,.o (.ip (GN l))),(9,Ag low),(10,eI .i64 W),(11,eI .i64 (((k+1:Nat):Int) - 1)),(12,.o (.ptr 1 3 0 0)),(14,.o (.arr 2 1 0 ((to.take m).flatMap fun q=>low.map fun r=>q*W+r).length)),(57,Ag to),(58,eI .i64 to.length),(59,eI .i64 m)]) (fun ⟨m,hm⟩=>[(0,.cells 3 1 (outs.map Al)),(1,.cells 25 3 [[.d (iD s.al),.d (iD s.st),.d (Ek s.es)]]),(2,.cells 3 1 (((to.take m).flatMap fun q=>low.map fun r=>q*W+r).map Al))]) 3 (fun ⟨m,hm⟩=>to.length - m) (⟨0,by omega⟩) [0,1,2] (Di hΓ rfl rfl) (by ((repeat' first|exact tI|rfl|refine And.intro ?_ ?_)<;>(simp[cX,zC,hΓ,Af,eC,hto']))) ?_;rintro⟨m,hm⟩;(try dsimp only)
   clear hto'
   have hfm:∀x,to[m]? = some x→(to.take (m+1)).flatMap (fun q=>low.map fun r=>q*W+r)=(to.take m).flatMap (fun q=>low.map fun r=>q*W+r)++low.map fun r=>x*W+r:=fun x hx=>by
    rw [List.take_add_one,hx];simp
   have hlm:=hlen m
   generalize hpre:(to.take m).flatMap (fun q=>low.map fun r=>q*W+r)=pre at *
   (repeat first |refine sN rfl ?_ |((first|refine sM rfl ?_ ?_|refine s4 rfl ‹_› rfl ?_ ?_);first|exact tI|omega|simp only[oZ] at *;omega) |refine s2 rfl fun _ _hb=>?_ |refine s3 rfl ?_ ?_<;>rintro rfl |refine aU rfl ?_ |refine Aa ?_ |refine rE (by kernel_rfl) ?_)
   (refine aC rfl ?_ ?_<;>rintro⟨⟩)
   ·obtain⟨x,hx⟩:=get_some (l:=to) (k:=m) (by first|omega|simp only[oZ] at *;omega)
    have hx':=get_map (g:=Bm) hx
    have hxb:=htoin x (List.mem_of_getElem? hx)
    have hfm:=hfm x hx
    refine aK ?_
    refine aS (aB ?_)
    (repeat first |refine sN rfl ?_ |((first|refine sM rfl ?_ ?_|refine s4 rfl ‹_› rfl ?_ ?_);first|exact tI|omega|simp only[oZ] at *;omega) |refine s2 rfl fun _ _hb=>?_ |refine s3 rfl ?_ ?_<;>rintro rfl |refine aU rfl ?_ |refine Aa ?_ |refine rE (by kernel_rfl) ?_)
    refine aB ?_
    refine Au.AP (α:={j:Nat // j≤low.length}) (fun ⟨j,hj⟩=>[(1,eI .i64 nd),(2,eI .i64 letter),(3,.o (.arr 0 1 0 outs.length)),(4,.o (.ip (GN l))),(9,Ag low),(10,eI .i64 W),(11,eI .i64 (((k+1:Nat):Int) - 1)),(12,.o (.ptr 1 3 0 0)),(14,.o (.arr 2 1 0 (pre.length+j))),(57,Ag to),(58,eI .i64 to.length),(59,eI .i64 m),(16,eI .i64 x),(63,Ag low),(64,eI .i64 low.length),(65,eI .i64 j)]) (fun ⟨j,hj⟩=>[(0,.cells 3 1 (outs.map Al)),(1,.cells 25 3 [[.d (iD s.al),.d (iD s.st),.d (Ek s.es)]]),(2,.cells 3 1 ((pre++(low.take j).map fun r=>x*W+r).map Al))]) 3 (fun ⟨j,hj⟩=>low.length - j) (⟨0,by omega⟩) [0,1,2] (Di hΓ rfl rfl) (by ((repeat' first|exact tI|rfl|refine And.intro ?_ ?_)<;>(simp[cX,zC,hΓ]))) ?_;rintro⟨j,hj⟩;(try dsimp only)
    (repeat first |refine sN rfl ?_ |((first|refine sM rfl ?_ ?_|refine s4 rfl ‹_› rfl ?_ ?_);first|exact tI|omega|simp only[oZ] at *;omega) |refine s2 rfl fun _ _hb=>?_ |refine s3 rfl ?_ ?_<;>rintro rfl |refine aU rfl ?_ |refine Aa ?_ |refine rE (by kernel_rfl) ?_)
    (refine aC rfl ?_ ?_<;>rintro⟨⟩)
    ·obtain⟨y,hy⟩:=get_some (l:=low) (k:=j) (by first|omega|simp only[oZ] at *;omega)
     have hy':=get_map (g:=Bm) hy
     have hyb:=hlk.1 y (List.mem_of_getElem? hy)
     have h16:0≤x*W∧x*W≤65536:=⟨Int.mul_nonneg hxb.1 (by omega),by
      have h5:x*W≤16*4096:=Int.mul_le_mul (by omega) hpr1.2 (by omega) (by omega)
      omega⟩
     refine aK ?_
     refine aS (aB ?_)
     (repeat first |refine sN rfl ?_ |((first|refine sA rfl ?_ ?_|refine s4 rfl ‹_› rfl ?_ ?_);first|exact tI|omega|simp only[oZ] at *;omega) |refine s2 rfl fun _ _hb=>?_ |refine s3 rfl ?_ ?_<;>rintro rfl |refine aU rfl ?_ |refine Aa ?_ |refine rE (by kernel_rfl) ?_)
     (refine pW rfl ?_ rfl (by rfl);refine AH rfl rfl rfl (by first|(simp;done)|(simp;(first|omega|simp only[oZ] at *;omega))) rfl (by intro r hr;simp at hr;subst hr;rfl) (by rfl) (Nat.le_of_ble_eq_true rfl) (by simp;first|omega|simp only[oZ] at *;omega) ?_)
     (repeat first |refine sN rfl ?_ |((first|refine sX rfl ?_ ?_|refine s4 rfl ‹_› rfl ?_ ?_);first|exact tI|omega|simp only[oZ] at *;omega) |refine s2 rfl fun _ _hb=>?_ |refine s3 rfl ?_ ?_<;>rintro rfl |refine aU rfl ?_ |refine Aa ?_ |refine rE (by kernel_rfl) ?_)
     refine⟨⟨j+1,by first|omega|simp only[oZ] at *;omega⟩,by dsimp only;(first|omega|simp only[oZ] at *;omega),[0,1,3],?_⟩
     simp[cX,zC,hΓ,List.take_add_one,hy,Nat.add_assoc]
    ·obtain rfl:j=low.length:=by first|omega|simp only[oZ] at *;omega
     rw [List.take_length]
     refine aE ?_
     (repeat first |refine sN rfl ?_ |((first|refine sM rfl ?_ ?_|refine s4 rfl ‹_› rfl ?_ ?_);first|exact tI|omega|simp only[oZ] at *;omega) |refine s2 rfl fun _ _hb=>?_ |refine s3 rfl ?_ ?_<;>rintro rfl |refine aU rfl ?_ |refine Aa ?_ |refine rE (by kernel_rfl) ?_)
     refine⟨⟨m+1,by first|omega|simp only[oZ] at *;omega⟩,by dsimp only;(first|omega|simp only[oZ] at *;omega),[0,1,2],?_⟩
     simp[cX,zC,hΓ,hfm]
   ·obtain rfl:m=to.length:=by first|omega|simp only[oZ] at *;omega
    rw [List.take_length] at hpre
    rw [hpre] at hstep
    subst hstep
    refine aE ?_
    refine Au.freeze [2] [(1,eI .i64 nd),(2,eI .i64 letter),(3,.o (.arr 0 1 0 outs.length)),(4,.o (.ip (GN l))),(10,eI .i64 W),(11,eI .i64 (((k+1:Nat):Int) - 1)),(12,.o (.ptr 1 3 0 0)),(14,Ag (En (zs.drop k) (cs.drop k)))] ⟨⟨_,rfl,.AE⟩,⟨_,rfl,.AE⟩,⟨_,rfl,.AE⟩,⟨_,rfl,.AE⟩,⟨_,rfl,.AE⟩,⟨_,rfl,.AE⟩,⟨_,rfl,.AE⟩,⟨_,rfl,.o (.full (by simp) rfl (by simp [Function.comp_def]) (by simp))⟩,trivial⟩ ?_
    (repeat first |refine sN rfl ?_ |((first|refine sM rfl ?_ ?_|refine s4 rfl ‹_› rfl ?_ ?_);first|exact tI|omega|simp only[oZ] at *;omega) |refine s2 rfl fun _ _hb=>?_ |refine s3 rfl ?_ ?_<;>rintro rfl |refine aU rfl ?_ |refine Aa ?_ |refine rE (by kernel_rfl) ?_)
    refine⟨⟨k,by first|omega|simp only[oZ] at *;omega⟩,by dsimp only;(first|omega|simp only[oZ] at *;omega),[0],?_⟩
    simp[cX,zC,hΓ,hnd',hpd,hWst,BN]
  ·have hb:A0 s.al letter.toNat=false:=by rw [←hhas];exact _hb
   have hto':=hto0 hb
   refine aK ?_
   (repeat first |refine sN rfl ?_ |((first|refine sM rfl ?_ ?_|refine s4 rfl ‹_› rfl ?_ ?_);first|exact tI|omega|simp only[oZ] at *;omega) |refine s2 rfl fun _ _hb=>?_ |refine s3 rfl ?_ ?_<;>rintro rfl |refine aU rfl ?_ |refine Aa ?_ |refine rE (by kernel_rfl) ?_)
   (refine pW rfl ?_ rfl (by rfl);refine Hk 1 3 ?_)
   (repeat first |refine sN rfl ?_ |((first|refine sM rfl ?_ ?_|refine s4 rfl ‹_› rfl ?_ ?_);first|exact tI|omega|simp only[oZ] at *;omega) |refine s2 rfl fun _ _hb=>?_ |refine s3 rfl ?_ ?_<;>rintro rfl |refine aU rfl ?_ |refine Aa ?_ |refine rE (by kernel_rfl) ?_)
   refine aB ?_
   refine Au.AP (α:={m:Nat // m≤to.length}) (fun ⟨m,hm⟩=>[(1,eI .i64 nd),(2,eI .i64 letter),(3,.o (.arr 0 1 0 outs.length)),(4,.o (.ip (GN l))),(9,Ag low),(10,eI .i64 W),(11,eI .i64 (((k+1:Nat):Int) - 1)),(12,.o (.ptr 1 3 0 0)),(14,.o (.arr 2 1 0 ((to.take m).flatMap fun q=>low.map fun r=>q*W+r).length)),(57,Ag to),(58,eI .i64 to.length),(59,eI .i64 m)]) (fun ⟨m,hm⟩=>[(0,.cells 3 1 (outs.map Al)),(1,.cells 25 3 [[.d (iD s.al),.d (iD s.st),.d (Ek s.es)]]),(2,.cells 3 1 (((to.take m).flatMap fun q=>low.map fun r=>q*W+r).map Al))]) 3 (fun ⟨m,hm⟩=>to.length - m) (⟨0,by omega⟩) [0,1,2] (Di hΓ rfl rfl) (by ((repeat' first|exact tI|rfl|refine And.intro ?_ ?_)<;>(simp[cX,zC,hΓ,Af,eC,hto']))) ?_;rintro⟨m,hm⟩;(try dsimp only)
   clear hto'
   have hfm:∀x,to[m]? = some x→(to.take (m+1)).flatMap (fun q=>low.map fun r=>q*W+r)=(to.take m).flatMap (fun q=>low.map fun r=>q*W+r)++low.map fun r=>x*W+r:=fun x hx=>by
    rw [List.take_add_one,hx];simp
   have hlm:=hlen m
   generalize hpre:(to.take m).flatMap (fun q=>low.map fun r=>q*W+r)=pre at *
   (repeat first |refine sN rfl ?_ |((first|refine sM rfl ?_ ?_|refine s4 rfl ‹_› rfl ?_ ?_);first|exact tI|omega|simp only[oZ] at *;omega) |refine s2 rfl fun _ _hb=>?_ |refine s3 rfl ?_ ?_<;>rintro rfl |refine aU rfl ?_ |refine Aa ?_ |refine rE (by kernel_rfl) ?_)
   (refine aC rfl ?_ ?_<;>rintro⟨⟩)
   ·obtain⟨x,hx⟩:=get_some (l:=to) (k:=m) (by first|omega|simp only[oZ] at *;omega)
    have hx':=get_map (g:=Bm) hx
    have hxb:=htoin x (List.mem_of_getElem? hx)
    have hfm:=hfm x hx
    refine aK ?_
    refine aS (aB ?_)
    (repeat first |refine sN rfl ?_ |((first|refine sM rfl ?_ ?_|refine s4 rfl ‹_› rfl ?_ ?_);first|exact tI|omega|simp only[oZ] at *;omega) |refine s2 rfl fun _ _hb=>?_ |refine s3 rfl ?_ ?_<;>rintro rfl |refine aU rfl ?_ |refine Aa ?_ |refine rE (by kernel_rfl) ?_)
    refine aB ?_
    refine Au.AP (α:={j:Nat // j≤low.length}) (fun ⟨j,hj⟩=>[(1,eI .i64 nd),(2,eI .i64 letter),(3,.o (.arr 0 1 0 outs.length)),(4,.o (.ip (GN l))),(9,Ag low),(10,eI .i64 W),(11,eI .i64 (((k+1:Nat):Int) - 1)),(12,.o (.ptr 1 3 0 0)),(14,.o (.arr 2 1 0 (pre.length+j))),(57,Ag to),(58,eI .i64 to.length),(59,eI .i64 m),(16,eI .i64 x),(63,Ag low),(64,eI .i64 low.length),(65,eI .i64 j)]) (fun ⟨j,hj⟩=>[(0,.cells 3 1 (outs.map Al)),(1,.cells 25 3 [[.d (iD s.al),.d (iD s.st),.d (Ek s.es)]]),(2,.cells 3 1 ((pre++(low.take j).map fun r=>x*W+r).map Al))]) 3 (fun ⟨j,hj⟩=>low.length - j) (⟨0,by omega⟩) [0,1,2] (Di hΓ rfl rfl) (by ((repeat' first|exact tI|rfl|refine And.intro ?_ ?_)<;>(simp[cX,zC,hΓ]))) ?_;rintro⟨j,hj⟩;(try dsimp only)
    (repeat first |refine sN rfl ?_ |((first|refine sM rfl ?_ ?_|refine s4 rfl ‹_› rfl ?_ ?_);first|exact tI|omega|simp only[oZ] at *;omega) |refine s2 rfl fun _ _hb=>?_ |refine s3 rfl ?_ ?_<;>rintro rfl |refine aU rfl ?_ |refine Aa ?_ |refine rE (by kernel_rfl) ?_)
    (refine aC rfl ?_ ?_<;>rintro⟨⟩)
    ·obtain⟨y,hy⟩:=get_some (l:=low) (k:=j) (by first|omega|simp only[oZ] at *;omega)
     have hy':=get_map (g:=Bm) hy
     have hyb:=hlk.1 y (List.mem_of_getElem? hy)
     have h16:0≤x*W∧x*W≤65536:=⟨Int.mul_nonneg hxb.1 (by omega),by
      have h5:x*W≤16*4096:=Int.mul_le_mul (by omega) hpr1.2 (by omega) (by omega)
      omega⟩
     refine aK ?_
     refine aS (aB ?_)
     (repeat first |refine sN rfl ?_ |((first|refine sA rfl ?_ ?_|refine s4 rfl ‹_› rfl ?_ ?_);first|exact tI|omega|simp only[oZ] at *;omega) |refine s2 rfl fun _ _hb=>?_ |refine s3 rfl ?_ ?_<;>rintro rfl |refine aU rfl ?_ |refine Aa ?_ |refine rE (by kernel_rfl) ?_)
     (refine pW rfl ?_ rfl (by rfl);refine AH rfl rfl rfl (by first|(simp;done)|(simp;(first|omega|simp only[oZ] at *;omega))) rfl (by intro r hr;simp at hr;subst hr;rfl) (by rfl) (Nat.le_of_ble_eq_true rfl) (by simp;first|omega|simp only[oZ] at *;omega) ?_)
     (repeat first |refine sN rfl ?_ |((first|refine sX rfl ?_ ?_|refine s4 rfl ‹_› rfl ?_ ?_);first|exact tI|omega|simp only[oZ] at *;omega) |refine s2 rfl fun _ _hb=>?_ |refine s3 rfl ?_ ?_<;>rintro rfl |refine aU rfl ?_ |refine Aa ?_ |refine rE (by kernel_rfl) ?_)
     refine⟨⟨j+1,by first|omega|simp only[oZ] at *;omega⟩,by dsimp only;(first|omega|simp only[oZ] at *;omega),[0,1,3],?_⟩
     simp[cX,zC,hΓ,List.take_add_one,hy,Nat.add_assoc]
    ·obtain rfl:j=low.length:=by first|omega|simp only[oZ] at *;omega
     rw [List.take_length]
     refine aE ?_
     (repeat first |refine sN rfl ?_ |((first|refine sM rfl ?_ ?_|refine s4 rfl ‹_› rfl ?_ ?_);first|exact tI|omega|simp only[oZ] at *;omega) |refine s2 rfl fun _ _hb=>?_ |refine s3 rfl ?_ ?_<;>rintro rfl |refine aU rfl ?_ |refine Aa ?_ |refine rE (by kernel_rfl) ?_)
     refine⟨⟨m+1,by first|omega|simp only[oZ] at *;omega⟩,by dsimp only;(first|omega|simp only[oZ] at *;omega),[0,1,2],?_⟩
     simp[cX,zC,hΓ,hfm]
   ·obtain rfl:m=to.length:=by first|omega|simp only[oZ] at *;omega
    rw [List.take_length] at hpre
    rw [hpre] at hstep
    subst hstep
    refine aE ?_
    refine Au.freeze [2] [(1,eI .i64 nd),(2,eI .i64 letter),(3,.o (.arr 0 1 0 outs.length)),(4,.o (.ip (GN l))),(10,eI .i64 W),(11,eI .i64 (((k+1:Nat):Int) - 1)),(12,.o (.ptr 1 3 0 0)),(14,Ag (En (zs.drop k) (cs.drop k)))] ⟨⟨_,rfl,.AE⟩,⟨_,rfl,.AE⟩,⟨_,rfl,.AE⟩,⟨_,rfl,.AE⟩,⟨_,rfl,.AE⟩,⟨_,rfl,.AE⟩,⟨_,rfl,.AE⟩,⟨_,rfl,.o (.full (by simp) rfl (by simp [Function.comp_def]) (by simp))⟩,trivial⟩ ?_
    (repeat first |refine sN rfl ?_ |((first|refine sM rfl ?_ ?_|refine s4 rfl ‹_› rfl ?_ ?_);first|exact tI|omega|simp only[oZ] at *;omega) |refine s2 rfl fun _ _hb=>?_ |refine s3 rfl ?_ ?_<;>rintro rfl |refine aU rfl ?_ |refine Aa ?_ |refine rE (by kernel_rfl) ?_)
    refine⟨⟨k,by first|omega|simp only[oZ] at *;omega⟩,by dsimp only;(first|omega|simp only[oZ] at *;omega),[0],?_⟩
    simp[cX,zC,hΓ,hnd',hpd,hWst,BN]
 ·obtain rfl:k=0:=by first|omega|simp only[oZ] at *;omega
  rw [List.drop_zero,List.drop_zero]
  have hl0:=(hlow 0).2
  have hp0:=hprod 0
  rw [List.drop_zero,List.drop_zero] at hl0
  rw [List.drop_zero] at hp0
  refine aE ?_
  (repeat first |refine sN rfl ?_ |((first|refine sM rfl ?_ ?_|refine s4 rfl ‹_› rfl ?_ ?_);first|exact tI|omega|simp only[oZ] at *;omega) |refine s2 rfl fun _ _hb=>?_ |refine s3 rfl ?_ ?_<;>rintro rfl |refine aU rfl ?_ |refine Aa ?_ |refine rE (by kernel_rfl) ?_)
  (refine pW rfl ?_ rfl (by rfl);refine AH rfl rfl rfl (by first|(simp;done)|(simp;(first|omega|simp only[oZ] at *;omega))) rfl (by intro r hr;simp at hr;obtain⟨a,_,rfl⟩:=hr;rfl) (by rfl) (Nat.le_of_ble_eq_true rfl) (by simp;first|omega|simp only[oZ] at *;omega) ?_)
  (repeat first |refine sN rfl ?_ |((first|refine sX rfl ?_ ?_|refine s4 rfl ‹_› rfl ?_ ?_);first|exact tI|omega|simp only[oZ] at *;omega) |refine s2 rfl fun _ _hb=>?_ |refine s3 rfl ?_ ?_<;>rintro rfl |refine aU rfl ?_ |refine Aa ?_ |refine rE (by kernel_rfl) ?_)
  refine Au.names [0,1] [(8,.o (.arr 1 1 0 (outs++En zs cs).length))] [(1,.cells 3 1 ((outs++En zs cs).map Al))] (by intro i hi;rw [hΓ] at hi;obtain rfl:i=0:=(by omega);rfl) (by simp) (by simp[cX,zC,hΓ]) (by simp[cX,zC,hΓ]) ?_
  refine aR ⟨_,rfl,rfl,rfl,rfl⟩
end Go.Am
namespace Go.Am
open Go
structure NX where
 p:Int
 l:Int
 ns:List Int
structure g9 where
 seen:List Bool
 fresh:List Int
 found:Bool
def sn(seen:List Bool)(n:Int):Bool:=seen.getD n.toNat false
def VL(goal:Int→Bool)(st:g9)(n:Int):g9:=if sn st.seen n then st else ⟨st.seen.set n.toNat true,st.fresh++[n],st.found || goal n⟩
def Tx(goal:Int→Bool)(seen:List Bool)(nodes:List Int):g9:=nodes.foldl (VL goal) ⟨seen,[],false⟩
theorem js{seen:List Bool}{n m:Int}(hn:0≤n∧n.toNat < seen.length)(hm:0≤m):sn (seen.set n.toNat true) m=(sn seen m || decide (m=n)):=by
 unfold sn
 by_cases h:m=n
 ·subst h;simp [List.getD,hn.2]
 ·have:n.toNat≠m.toNat:=by omega
  simp [List.getD,List.getElem?_set_ne this,h]
theorem count_set{seen:List Bool}{k:Nat}(h:seen[k]? = some false):(seen.set k true).count true=seen.count true+1:=by
 induction seen generalizing k with
 | nil=>simp at h
 | cons a l ih=>
  cases k with
  | zero=>simp at h;subst h;simp
  | succ k=>
   have:=ih (k:=k) (by simpa using h)
   simp only [List.set_cons_succ,List.count_cons,this];omega
structure jG (goal:Int→Bool) (N:Nat) (seen:List Bool) (nodes:List Int) (st:g9):Prop where
 len:st.seen.length=N
 snI:∀n:Int,0≤n→(sn st.seen n=true↔sn seen n=true∨n∈nodes)
 fr:∀n:Int,n∈st.fresh↔n∈nodes∧sn seen n=false
 nd:st.fresh.Nodup
 fd:st.found=st.fresh.any goal
 cnt:st.seen.count true=seen.count true+st.fresh.length
theorem XA{goal:Int→Bool}{N:Nat}{seen:List Bool}{nodes:List Int}(hs:seen.length=N)(hn:∀n∈nodes,0≤n∧n < N):jG goal N seen nodes (Tx goal seen nodes):=by
 have key : ∀ (l done:List Int) (st:g9),(∀n∈l,0≤n∧n < N)→(∀n∈done,0≤n)→jG goal N seen done st→jG goal N seen (done++l) (l.foldl (VL goal) st):=by
  intro l
  induction l with
  | nil=>intro done st _ _ h;simpa using h
  | cons a l ih=>
   intro done st hl hd h
   have ha:=hl a (by simp)
   rw [List.foldl_cons,show done++a::l=(done++[a])++l by simp]
   refine ih (done++[a]) _ (fun n hn=>hl n (by simp [hn])) (fun n hn=>by rcases List.mem_append.1 hn with h1|h1;exact hd n h1;simp at h1;omega) ?_
   have hlen:=h.len
   have hmem:∀n:Int,n∈done++[a]↔n∈done∨n=a:=fun n=>by simp
   unfold VL
   by_cases hsa:sn st.seen a=true
   ·rw [if_pos hsa]
    have h1:=(h.snI a ha.1).1 hsa
    refine⟨h.len,fun n hn0=>?_,fun n=>?_,h.nd,h.fd,h.cnt⟩
    ·rw [h.snI n hn0,hmem]
     constructor
     ·rintro(h2|h2);exact .inl h2;exact .inr (.inl h2)
     ·rintro(h2|h2|rfl);exact .inl h2;exact .inr h2;exact h1
    ·rw [h.fr n,hmem]
     constructor
     ·rintro⟨h2,h3⟩;exact⟨.inl h2,h3⟩
     ·rintro⟨h2|rfl,h3⟩
      ·exact⟨h2,h3⟩
      ·rcases h1 with h1|h1
       ·rw [h1] at h3;cases h3
       ·exact⟨h1,h3⟩
   ·rw [if_neg hsa]
    have h1:sn seen a=false∧a∉done:=by
     have h2:¬(sn seen a=true∨a∈done):=fun h3=>hsa ((h.snI a ha.1).2 h3)
     exact⟨by simpa using fun h3=>h2 (.inl h3),fun h3=>h2 (.inr h3)⟩
    have hk:st.seen[a.toNat]? = some false:=by
     unfold sn at hsa
     have:a.toNat < st.seen.length:=by omega
     simp [List.getD,this] at hsa
     rw [List.getElem?_eq_getElem this,hsa]
    refine⟨by simpa using h.len,fun n hn0=>?_,fun n=>?_,?_,?_,?_⟩
    ·rw [js ⟨ha.1,by omega⟩ hn0,hmem,Bool.or_eq_true,h.snI n hn0];simp;grind
    ·simp only [List.mem_append,List.mem_singleton,h.fr n]
     grind
    ·refine List.nodup_append.2 ⟨h.nd,by simp,fun x hx y hy=>?_⟩
     simp at hy;subst hy
     intro e;subst e
     exact h1.2 ((h.fr x).1 hx).1
    ·simp [List.any_append,h.fd]
    ·rw [count_set hk,h.cnt];simp;omega
 have:=key nodes [] ⟨seen,[],false⟩ hn (by simp) ⟨hs,fun n _=>by simp,fun n=>by simp,.nil,rfl,by simp⟩
 simpa [Tx] using this
theorem Rh:∀ {a b c:List Int},VO a b→VO b c→VO a c
 | [],_,_,h,_=>h.elim
 | _::_,[],_,h,_=>h.elim
 | _::_,_::_,[],_,h=>h.elim
 | x::a,y::b,z::c,h,k=>by
  simp only [VO] at *
  rcases h with h|⟨h,h'⟩<;>rcases k with k|⟨k,k'⟩
  ·exact .inl (by omega)
  ·exact .inl (by omega)
  ·exact .inl (by omega)
  ·exact .inr ⟨by omega,Rh h' k'⟩
theorem SA:∀ {a:List Int},¬VO a a
 | [],h=>h
 | x::a,h=>by rcases h with h|⟨_,h⟩;omega;exact SA h
theorem Gl{a b c:List Int}(h:slt a b)(k:slt b c):slt a c:=by
 unfold slt at *
 rcases h with h|⟨h,h'⟩<;>rcases k with k|⟨k,k'⟩
 ·exact .inl (by omega)
 ·exact .inl (by omega)
 ·exact .inl (by omega)
 ·exact .inr ⟨by omega,Rh h' k'⟩
theorem Lw{a:List Int}:¬slt a a:=by
 rintro(h|⟨_,h⟩);omega;exact SA h
theorem Vp(a b:List Int):slt a b∨a=b∨slt b a:=by
 rcases Nat.lt_trichotomy a.length b.length with h|h|h
 ·exact .inl (.inl h)
 ·rcases SB h with h1|h1|h1
  ·exact .inl (.inr ⟨h,h1⟩)
  ·exact .inr (.inl h1)
  ·exact .inr (.inr (.inr ⟨h.symm,h1⟩))
 ·exact .inr (.inr (.inl h))
theorem Y8{a b:List Int}{l m:Int}(h:slt a b):slt (a++[l]) (b++[m]):=by
 rcases h with h|⟨h,h'⟩
 ·exact .inl (by simp;omega)
 ·exact .inr ⟨by simp;omega,(Ja h).2 (.inl h')⟩
theorem dU{a:List Int}{l m:Int}(h:l < m):slt (a++[l]) (a++[m]):=.inr ⟨by simp,(Ja rfl).2 (.inr ⟨rfl,h⟩)⟩
theorem dW{a b:List Int}{l m:Int}:slt (a++[l]) (b++[m])→slt a b∨a=b∧l < m:=by
 intro h
 rcases Vp a b with h1|h1|h1
 ·exact .inl h1
 ·subst h1
  rcases h with h|⟨h,h'⟩
  ·simp at h
  ·rcases(Ja rfl).1 h' with h2|h2
   ·exact absurd h2 SA
   ·exact .inr h2
 ·exact absurd (Gl h (Y8 h1)) Lw
theorem dV{a:List Int}{l:Int}:slt a (a++[l]):=.inl (by simp)
structure FI (g:Gr) (seen:List Bool) (steps:List NX) (ws:List (List Int)) (i j:Nat):Prop where
 slen:seen.length=g.N
 wlen:ws.length=steps.length
 chain:∀(t:Nat) s,steps[t]? = some s→(s.p = -1∧ws[t]? = some [])∨∃(q:Nat) (w:List Int),s.p=(q:Int)∧q < t∧ws[q]? = some w∧ws[t]? = some (w++[s.l])∧s.l∈g.ls
 rch:∀(t:Nat) s w,steps[t]? = some s→ws[t]? = some w→∀n∈s.ns,reach g w g.s0 n
 ov:∀w∈ws,over g w
 min:∀(t:Nat) s w,steps[t]? = some s→ws[t]? = some w→∀n∈s.ns,∀u,over g u→slt u w→¬reach g u g.s0 n
 ord:ws.Pairwise slt
 par:∀w∈ws,w=[]∨∃(p:Nat) (v:List Int) (l:Int),ws[p]? = some v∧w=v++[l]∧l∈g.ls∧(p < i∨p=i∧∃j',j' < j∧g.ls[j']? = some l)
 snI:∀n:Int,0≤n→(sn seen n=true↔∃s∈steps,n∈s.ns)
 done:∀(t:Nat) s,steps[t]? = some s→∀l,(t < i∧l∈g.ls∨t=i∧∃j',j' < j∧g.ls[j']? = some l)→∀n∈s.ns,∀y∈g.succ n l,sn seen y=true
 nogoal:∀s∈steps,∀n∈s.ns,g.goal n=false
 inn:∀s∈steps,∀n∈s.ns,0≤n∧n < g.N
 start:sn seen g.s0=true
 cnt:steps.length≤seen.count true
 le:i≤steps.length
 nd:∀s∈steps,s.ns.Nodup
theorem FI.kq{g:Gr}{seen:List Bool}{steps:List NX}{ws:List (List Int)}{i j:Nat}(h:FI g seen steps ws i j):steps.length≤g.N:=by
 have h1:=h.cnt
 have h2:seen.count true≤seen.length:=List.count_le_length
 rw [h.slen] at h2;omega
theorem FI.gH{g:Gr}(hg:IQ g){seen:List Bool}{steps:List NX}{ws:List (List Int)}{i j:Nat}(h:FI g seen steps ws i j){wi:List Int}{lj:Int}(hw:ws[i]? = some wi)(hj:g.ls[j]? = some lj) :
 ∀(n:Nat) (u:List Int),u.length=n→over g u→slt u (wi++[lj])→∀x,reach g u g.s0 x→sn seen x=true:=by
 intro n
 induction n with
 | zero=>
  intro u hu _ _ x hx
  have:u=[]:=List.length_eq_zero_iff.1 hu
  subst this
  have hx:g.s0=x:=hx
  rw [←hx];exact h.start
 | succ n ih=>
  intro u hu ho hlt x hx
  have hu0:u≠[]:=fun e=>by subst e;simp at hu
  obtain⟨v,l,rfl⟩:∃v l,u=v++[l]:=⟨u.dropLast,u.getLast hu0,(List.dropLast_concat_getLast hu0).symm⟩
  obtain⟨m,hm,hxm⟩:=Er.1 hx
  obtain⟨hov,hl⟩:=Gj.1 ho
  have hms:=ih v (by simpa using hu) hov (Gl dV hlt) m hm
  have hmin:=Dz hg hov hg.s0 hm
  obtain⟨s,hs,hms2⟩:=(h.snI m hmin.1).1 hms
  obtain⟨t,ht⟩:=List.getElem?_of_mem hs
  obtain⟨wt,hwt⟩:∃wt,ws[t]? = some wt:=get_some (by have:=(List.getElem?_eq_some_iff.1 ht).1;rw [h.wlen];exact this)
  have hle:¬slt v wt:=fun h1=>h.min t s wt ht hwt m hms2 v hov h1 hm
  have hvi:=dW hlt
  have hti:t≤i:=by
   rcases Nat.lt_or_ge i t with h1|h1
   ·exfalso
    obtain⟨a1,a2⟩:=List.getElem?_eq_some_iff.1 hw
    obtain⟨b1,b2⟩:=List.getElem?_eq_some_iff.1 hwt
    have h2:=(List.pairwise_iff_getElem.1 h.ord) i t a1 b1 h1
    rw [a2,b2] at h2
    rcases Vp v wt with h3|h3|h3
    ·exact hle h3
    ·subst h3
     rcases hvi with h4|⟨h4,_⟩
     ·exact Lw (Gl h2 h4)
     ·subst h4;exact Lw h2
    ·rcases hvi with h4|⟨h4,_⟩
     ·exact Lw (Gl (Gl h2 h3) h4)
     ·subst h4;exact Lw (Gl h2 h3)
   ·exact h1
  refine h.done t s ht l ?_ m hms2 x hxm
  rcases Nat.lt_or_ge t i with h1|h1
  ·exact .inl ⟨h1,hl⟩
  ·have:t=i:=by omega
   subst this
   rw [hw] at hwt
   injection hwt with hwt
   subst hwt
   rcases hvi with h4|⟨h4,h5⟩
   ·exact absurd h4 hle
   ·obtain⟨j',hj'⟩:=List.getElem?_of_mem hl
    exact .inr ⟨rfl,j',bY hg.srt hj' hj h5,hj'⟩
theorem Cs.found{g:Gr}(hg:IQ g){seen:List Bool}{steps:List NX}{ws:List (List Int)}{i j:Nat}(h:FI g seen steps ws i j){wi:List Int}{lj:Int}(hw:ws[i]? = some wi)(hj:g.ls[j]? = some lj){n x:Int}{s:NX}(hs:steps[i]? = some s)(hn:n∈s.ns)(hx:x∈g.succ n lj)(hgx:g.goal x=true):Cs g (some (wi++[lj])):=by
 have hl:=List.mem_of_getElem? hj
 refine⟨Gj.2 ⟨h.ov wi (List.mem_of_getElem? hw),hl⟩,⟨x,Er.2 ⟨n,h.rch i s wi hs hw n hn,hx⟩,hgx⟩,fun u hu hh hlt=>?_⟩
 obtain⟨y,hy,hgy⟩:=hh
 have hys:=h.gH hg hw hj u.length u rfl hu hlt y hy
 obtain⟨s',hs',hy'⟩:=(h.snI y (Dz hg hu hg.s0 hy).1).1 hys
 rw [h.nogoal s' hs' y hy'] at hgy;cases hgy
theorem Cs.nj{g:Gr}(hg:IQ g){seen:List Bool}{steps:List NX}{ws:List (List Int)}(h:FI g seen steps ws steps.length 0):Cs g none:=by
 have key:∀(n:Nat) (u:List Int),u.length=n→over g u→∀x,reach g u g.s0 x→sn seen x=true:=by
  intro n
  induction n with
  | zero=>
   intro u hu _ x hx
   have:u=[]:=List.length_eq_zero_iff.1 hu
   subst this
   have hx:g.s0=x:=hx
   rw [←hx];exact h.start
  | succ n ih=>
   intro u hu ho x hx
   have hu0:u≠[]:=fun e=>by subst e;simp at hu
   obtain⟨v,l,rfl⟩:∃v l,u=v++[l]:=⟨u.dropLast,u.getLast hu0,(List.dropLast_concat_getLast hu0).symm⟩
   obtain⟨m,hm,hxm⟩:=Er.1 hx
   obtain⟨hov,hl⟩:=Gj.1 ho
   have hms:=ih v (by simpa using hu) hov m hm
   obtain⟨s,hs,hms2⟩:=(h.snI m (Dz hg hov hg.s0 hm).1).1 hms
   obtain⟨t,ht⟩:=List.getElem?_of_mem hs
   exact h.done t s ht l (.inl ⟨(List.getElem?_eq_some_iff.1 ht).1,hl⟩) m hms2 x hxm
 rintro u hu ⟨x,hx,hgx⟩
 have hxs:=key u.length u rfl hu x hx
 obtain⟨s,hs,hxs2⟩:=(h.snI x (Dz hg hu hg.s0 hx).1).1 hxs
 rw [h.nogoal s hs x hxs2] at hgx;cases hgx
theorem FI.kC{g:Gr}{seen:List Bool}{steps:List NX}{ws:List (List Int)}{i:Nat}(h:FI g seen steps ws i g.ls.length)(hi:i < steps.length):FI g seen steps ws (i+1) 0:=by
 refine⟨h.slen,h.wlen,h.chain,h.rch,h.ov,h.min,h.ord,fun w hw=>?_,h.snI,fun t s hs l hl=>?_,h.nogoal,h.inn,h.start,h.cnt,by omega,h.nd⟩
 ·rcases h.par w hw with h1|⟨p,v,l,h1,h2,h3,h4⟩
  ·exact .inl h1
  ·exact .inr ⟨p,v,l,h1,h2,h3,.inl (by rcases h4 with h4|⟨h4,_⟩<;>omega)⟩
 ·refine h.done t s hs l ?_
  rcases hl with ⟨h1,h2⟩|⟨_,j',h1,_⟩
  ·rcases Nat.lt_or_ge t i with h3|h3
   ·exact .inl ⟨h3,h2⟩
   ·obtain⟨j',hj'⟩:=List.getElem?_of_mem h2
    exact .inr ⟨by omega,j',(List.getElem?_eq_some_iff.1 hj').1,hj'⟩
  ·omega
def ER(steps:List NX)(p l:Int)(fresh:List Int):List NX:=if fresh=[] then steps else steps++[⟨p,l,fresh⟩]
def mx(ws:List (List Int))(w fresh:List Int):List (List Int):=if fresh=[] then ws else ws++[w]
structure Chain (ls:List Int) (steps:List NX) (ws:List (List Int)):Prop where
 wlen:ws.length=steps.length
 chain:∀(t:Nat) s,steps[t]? = some s→(s.p = -1∧ws[t]? = some [])∨∃(q:Nat) (w:List Int),s.p=(q:Int)∧q < t∧ws[q]? = some w∧ws[t]? = some (w++[s.l])∧s.l∈ls
theorem He{α:Type}{l:List α}{x y:α}{t:Nat}(h:(l++[x])[t]? = some y):l[t]? = some y∨t=l.length∧y=x:=by
 rcases Nat.lt_or_ge t l.length with h1|h1
 ·rw [List.getElem?_append_left h1] at h;exact .inl h
 ·rw [List.getElem?_append_right h1] at h
  have h2:=(List.getElem?_eq_some_iff.1 h).1
  simp at h2
  have:t=l.length:=by omega
  subst this
  simp at h
  exact .inr ⟨rfl,h.symm⟩
theorem Ju{α:Type}{l:List α}{x y:α}{t:Nat}(h:l[t]? = some y):(l++[x])[t]? = some y:=by
 rw [List.getElem?_append_left (List.getElem?_eq_some_iff.1 h).1];exact h
theorem Chain.app{ls:List Int}{steps:List NX}{ws:List (List Int)}(h:Chain ls steps ws){i:Nat}{wi:List Int}{l:Int}{ns:List Int}(hw:ws[i]? = some wi)(hl:l∈ls):Chain ls (steps++[⟨i,l,ns⟩]) (ws++[wi++[l]]):=by
 have hi:=(List.getElem?_eq_some_iff.1 hw).1
 refine⟨by simp [h.wlen],fun t s hs=>?_⟩
 rcases He hs with h1|⟨h1,h2⟩
 ·rcases h.chain t s h1 with ⟨h2,h3⟩|⟨q,w,h2,h3,h4,h5,h6⟩
  ·exact .inl ⟨h2,Ju h3⟩
  ·exact .inr ⟨q,w,h2,h3,Ju h4,Ju h5,h6⟩
 ·subst h2
  refine .inr ⟨i,wi,rfl,?_,Ju hw,?_,hl⟩
  ·rw [h1,←h.wlen];exact hi
  ·rw [h1,←h.wlen];simp
theorem FI.Zh{g:Gr}{seen:List Bool}{steps:List NX}{ws:List (List Int)}{i j:Nat}(h:FI g seen steps ws i j):Chain g.ls steps ws:=⟨h.wlen,h.chain⟩
theorem FI.visit{g:Gr}(hg:IQ g){seen:List Bool}{steps:List NX}{ws:List (List Int)}{i j:Nat}(h:FI g seen steps ws i j){wi:List Int}{lj:Int}(hw:ws[i]? = some wi)(hj:g.ls[j]? = some lj){s:NX}(hs:steps[i]? = some s)
 {R:List Int} (hR:∀y,y∈R↔∃n∈s.ns,y∈g.succ n lj) {st:g9} (hv:jG g.goal g.N seen R st) (hf:st.found=false):FI g st.seen (ER steps i lj st.fresh) (mx ws (wi++[lj]) st.fresh) i (j+1):=by
 have hl:=List.mem_of_getElem? hj
 have hRin:∀y∈R,0≤y∧y < g.N:=fun y hy=>by
  obtain⟨n,hn,hy⟩:=(hR y).1 hy
  exact hg.inn n (h.inn s (List.mem_of_getElem? hs) n hn) lj hl y hy
 have hmono:∀n:Int,0≤n→sn seen n=true→sn st.seen n=true:=fun n hn hx=>(hv.snI n hn).2 (.inl hx)
 have hnog:∀n∈st.fresh,g.goal n=false:=fun n hn=>by
  have:=hv.fd
  rw [hf] at this
  have h2:=List.any_eq_false.1 this.symm n hn
  simpa using h2
 have hpar:∀w∈ws,w=[]∨∃(p:Nat) (v:List Int) (l:Int),ws[p]? = some v∧w=v++[l]∧l∈g.ls∧(p < i∨p=i∧∃j',j' < j+1∧g.ls[j']? = some l):=fun w hw=>by
  rcases h.par w hw with h1|⟨p,v,l,h1,h2,h3,h4⟩
  ·exact .inl h1
  ·refine .inr ⟨p,v,l,h1,h2,h3,?_⟩
   rcases h4 with h4|⟨h4,j',h5,h6⟩
   ·exact .inl h4
   ·exact .inr ⟨h4,j',by omega,h6⟩
 have hdone:∀(t:Nat) s',steps[t]? = some s'→∀l,(t < i∧l∈g.ls∨t=i∧∃j',j' < j+1∧g.ls[j']? = some l)→∀n∈s'.ns,∀y∈g.succ n l,sn st.seen y=true:=by
  intro t s' hs' l hl' n hn y hy
  have hyin:0≤y∧y < g.N:=by
   refine hg.inn n (h.inn s' (List.mem_of_getElem? hs') n hn) l ?_ y hy
   rcases hl' with ⟨_,h1⟩|⟨_,j',_,h1⟩
   ·exact h1
   ·exact List.mem_of_getElem? h1
  rcases hl' with h1|⟨h1,j',h2,h3⟩
  ·exact hmono y hyin.1 (h.done t s' hs' l (.inl h1) n hn y hy)
  ·subst h1
   rcases Nat.lt_succ_iff_lt_or_eq.1 h2 with h4|h4
   ·exact hmono y hyin.1 (h.done t s' hs' l (.inr ⟨rfl,j',h4,h3⟩) n hn y hy)
   ·subst h4
    rw [hj] at h3
    injection h3 with h3
    subst h3
    rw [hs] at hs'
    injection hs' with hs'
    subst hs'
    exact(hv.snI y hyin.1).2 (.inr ((hR y).2 ⟨n,hn,hy⟩))
 unfold ER mx
 by_cases hfr:st.fresh=[]
 ·rw [if_pos hfr,if_pos hfr]
  have hsame:∀n:Int,0≤n→(sn st.seen n=true↔sn seen n=true):=fun n hn=>by
   rw [hv.snI n hn]
   refine⟨fun h1=>?_,.inl⟩
   rcases h1 with h1|h1
   ·exact h1
   ·rcases Bool.eq_false_or_eq_true (sn seen n) with h2|h2
    ·exact h2
    ·have:=(hv.fr n).2 ⟨h1,h2⟩
     rw [hfr] at this;cases this
  refine⟨hv.len,h.wlen,h.chain,h.rch,h.ov,h.min,h.ord,hpar,fun n hn=>by rw [hsame n hn];exact h.snI n hn,hdone,h.nogoal,h.inn,hmono _ hg.s0.1 h.start,?_,h.le,h.nd⟩
  rw [hv.cnt,hfr];exact h.cnt
 ·rw [if_neg hfr,if_neg hfr]
  have hch:=h.Zh.app (ns:=st.fresh) hw hl
  have hnew:∀n∈st.fresh,n∈R∧sn seen n=false:=fun n hn=>(hv.fr n).1 hn
  have hbig:∀w∈ws,slt w (wi++[lj]):=by
   intro w hww
   rcases h.par w hww with rfl|⟨p,v,l,h1,rfl,h3,h4⟩
   ·exact .inl (by simp)
   ·rcases h4 with h4|⟨h4,j',h5,h6⟩
    ·obtain⟨a1,a2⟩:=List.getElem?_eq_some_iff.1 h1
     obtain⟨b1,b2⟩:=List.getElem?_eq_some_iff.1 hw
     have h7:=(List.pairwise_iff_getElem.1 h.ord) p i a1 b1 h4
     rw [a2,b2] at h7
     exact Y8 h7
    ·subst h4
     rw [hw] at h1
     injection h1 with h1
     subst h1
     obtain⟨a1,a2⟩:=List.getElem?_eq_some_iff.1 h6
     obtain⟨b1,b2⟩:=List.getElem?_eq_some_iff.1 hj
     have h7:=(List.pairwise_iff_getElem.1 hg.srt) j' j a1 b1 h5
     rw [a2,b2] at h7
     exact dU h7
  have hmemR:∀n∈st.fresh,∃m∈s.ns,n∈g.succ m lj:=fun n hn=>(hR n).1 (hnew n hn).1
  refine⟨hv.len,hch.wlen,hch.chain,fun t s' w hs' hw' n hn=>?_,fun w hww=>?_,fun t s' w hs' hw' n hn u hu hlt hr=>?_,?_,fun w hww=>?_,fun n hn=>?_,fun t s' hs' l hl' n hn y hy=>?_,fun s' hs' n hn=>?_,fun s' hs' n hn=>?_,hmono _ hg.s0.1 h.start,?_,?_,fun s' hs'=>?_⟩
  ·rcases He hs' with h1|⟨h1,h2⟩
   ·rcases He hw' with h3|⟨h3,h4⟩
    ·exact h.rch t s' w h1 h3 n hn
    ·have:=(List.getElem?_eq_some_iff.1 h1).1
     rw [h.wlen] at h3;omega
   ·subst h2
    rcases He hw' with h3|⟨h3,h4⟩
    ·have:=(List.getElem?_eq_some_iff.1 h3).1
     rw [h.wlen] at this;omega
    ·subst h4
     obtain⟨m,hm,hnm⟩:=hmemR n hn
     exact Er.2 ⟨m,h.rch i s wi hs hw m hm,hnm⟩
  ·rcases List.mem_append.1 hww with h1|h1
   ·exact h.ov w h1
   ·simp at h1;subst h1
    exact Gj.2 ⟨h.ov wi (List.mem_of_getElem? hw),hl⟩
  ·rcases He hs' with h1|⟨h1,h2⟩
   ·rcases He hw' with h3|⟨h3,h4⟩
    ·exact h.min t s' w h1 h3 n hn u hu hlt hr
    ·have:=(List.getElem?_eq_some_iff.1 h1).1
     rw [h.wlen] at h3;omega
   ·subst h2
    rcases He hw' with h3|⟨h3,h4⟩
    ·have:=(List.getElem?_eq_some_iff.1 h3).1
     rw [h.wlen] at this;omega
    ·subst h4
     have:=h.gH hg hw hj u.length u rfl hu hlt n hr
     rw [(hnew n hn).2] at this;cases this
  ·refine List.pairwise_append.2 ⟨h.ord,by simp,fun a ha b hb=>?_⟩
   simp at hb;subst hb
   exact hbig a ha
  ·rcases List.mem_append.1 hww with h1|h1
   ·rcases hpar w h1 with h2|⟨p,v,l,h2,h3,h4,h5⟩
    ·exact .inl h2
    ·exact .inr ⟨p,v,l,Ju h2,h3,h4,h5⟩
   ·simp at h1;subst h1
    exact .inr ⟨i,wi,lj,Ju hw,rfl,hl,.inr ⟨rfl,j,by omega,hj⟩⟩
  ·rw [hv.snI n hn,h.snI n hn]
   constructor
   ·rintro(⟨s',hs',hns⟩|hnR)
    ·exact⟨s',List.mem_append_left _ hs',hns⟩
    ·rcases Bool.eq_false_or_eq_true (sn seen n) with h2|h2
     ·obtain⟨s',hs',hns⟩:=(h.snI n hn).1 h2
      exact⟨s',List.mem_append_left _ hs',hns⟩
     ·exact⟨⟨i,lj,st.fresh⟩,List.mem_append_right _ (by simp),(hv.fr n).2 ⟨hnR,h2⟩⟩
   ·rintro⟨s',hs',hns⟩
    rcases List.mem_append.1 hs' with h1|h1
    ·exact .inl ⟨s',h1,hns⟩
    ·simp at h1;subst h1
     exact .inr (hnew n hns).1
  ·rcases He hs' with h1|⟨h1,h2⟩
   ·exact hdone t s' h1 l hl' n hn y hy
   ·have:=(List.getElem?_eq_some_iff.1 hs).1
    rcases hl' with ⟨h3,_⟩|⟨h3,_⟩<;>omega
  ·rcases List.mem_append.1 hs' with h1|h1
   ·exact h.nogoal s' h1 n hn
   ·simp at h1;subst h1;exact hnog n hn
  ·rcases List.mem_append.1 hs' with h1|h1
   ·exact h.inn s' h1 n hn
   ·simp at h1;subst h1;exact hRin n (hnew n hn).1
  ·have h1:=hv.cnt
   have h2:=h.cnt
   have h3:0 < st.fresh.length:=List.length_pos_iff.2 hfr
   simp;omega
  ·have:=h.le;simp;omega
  ·rcases List.mem_append.1 hs' with h1|h1
   ·exact h.nd s' h1
   ·simp at h1;subst h1;exact hv.nd
theorem FI.init{g:Gr}(hg:IQ g){st:g9}(hv:jG g.goal g.N (List.replicate g.N false) [g.s0] st)(hf:st.found=false):st.fresh=[g.s0]∧FI g st.seen [⟨-1,0,[g.s0]⟩] [[]] 0 0:=by
 have hno:∀n,sn (List.replicate g.N false) n=false:=fun n=>by
  unfold sn
  by_cases h:n.toNat < g.N<;>simp [List.getD,h]
 have hmem:∀n,n∈st.fresh↔n=g.s0:=fun n=>by rw [hv.fr n];simp [hno]
 have hfr:st.fresh=[g.s0]:=by
  have h1:=hv.nd
  generalize st.fresh=l at hmem h1
  cases l with
  | nil=>have:=(hmem g.s0).2 rfl;cases this
  | cons a l=>
   have ha:=(hmem a).1 (by simp)
   subst ha
   cases l with
   | nil=>rfl
   | cons b l=>
    have hb:=(hmem b).1 (by simp)
    subst hb
    simp at h1
 refine⟨hfr,?_⟩
 have hng:g.goal g.s0=false:=by
  have:=hv.fd
  rw [hf,hfr] at this
  simpa using this.symm
 have one:∀(t:Nat) (s:NX),[(⟨-1,0,[g.s0]⟩:NX)][t]? = some s→t=0∧s=⟨-1,0,[g.s0]⟩:=fun t s h=>by
  cases t with
  | zero=>simp at h;exact⟨rfl,h.symm⟩
  | succ t=>simp at h
 have one':∀(t:Nat) (w:List Int),[([]:List Int)][t]? = some w→w=[]:=fun t w h=>by
  cases t with
  | zero=>exact(Option.some.inj h).symm
  | succ t=>simp at h
 refine⟨hv.len,rfl,fun t s hs=>?_,fun t s w hs hw n hn=>?_,fun w hw=>?_,fun t s w hs hw n hn u _ hlt=>?_,by simp,fun w hw=>by simp at hw;exact .inl hw,fun n hn=>?_,fun t s hs l hl n hn y hy=>?_,fun s hs n hn=>?_,fun s hs n hn=>?_,?_,?_,by simp,fun s hs=>?_⟩
 ·obtain⟨rfl,rfl⟩:=one t s hs;exact .inl ⟨rfl,rfl⟩
 ·obtain⟨rfl,rfl⟩:=one t s hs
  have:=one' 0 w hw
  subst this
  simp at hn;subst hn;exact(rfl:g.s0=g.s0)
 ·simp at hw;subst hw;exact fun l hl=>(by cases hl)
 ·have:=one' t w hw
  subst this
  rcases hlt with h1|⟨_,h1⟩
  ·simp at h1
  ·cases u<;>exact h1.elim
 ·rw [hv.snI n hn];simp [hno]
 ·rcases hl with ⟨h1,_⟩|⟨_,j',h1,_⟩<;>omega
 ·simp at hs;subst hs;simp at hn;subst hn;exact hng
 ·simp at hs;subst hs;simp at hn;subst hn;exact hg.s0
 ·exact(hv.snI _ hg.s0.1).2 (.inr (by simp))
 ·rw [hv.cnt,hfr];simp
 ·simp at hs;subst hs;simp
theorem Cs.start{g:Gr}(h:g.goal g.s0=true):Cs g (some []):=
 ⟨fun l hl=>(by cases hl),⟨g.s0,rfl,h⟩,fun u _ _ hlt=>by rcases hlt with h1|⟨_,h1⟩;(simp at h1);(cases u<;>exact h1.elim)⟩
end Go.Am
namespace Go.Am
open Go Go.Proofs
set_option maxHeartbeats 1000000
attribute [local irreducible] AS BT Lex Bc Au Spec
variable {TB:Bt}
def EP(bs:List UInt8)(k i:Nat):UInt8:=if i < k∨bs.length≤i+k then bs.getD (bs.length - 1 - i) 0 else bs.getD i 0
theorem jr(bs:List UInt8):(BF bs.length fun i=>Fv (EP bs 0 i))=bs.map Fv:=by
 apply List.ext_getElem?
 intro i
 by_cases hi:i < bs.length
 ·rw [DJ (g:=fun i=>Fv (EP bs 0 i)) hi]
  unfold EP
  rw [if_neg (by omega)]
  simp [List.getD,hi]
 ·rw [List.getElem?_eq_none (by simp [BF];omega),List.getElem?_eq_none (by simp;omega)]
theorem dJ(bs:List UInt8){k:Nat}(hk:bs.length≤2*k+1):(BF bs.length fun i=>Fv (EP bs k i))=bs.reverse.map Fv:=by
 apply List.ext_getElem?
 intro i
 by_cases hi:i < bs.length
 ·rw [DJ (g:=fun i=>Fv (EP bs k i)) hi]
  unfold EP
  have h1:bs.reverse[i]? = some (bs.getD (bs.length - 1 - i) 0):=by
   rw [List.getElem?_reverse hi]
   have:bs.length - 1 - i < bs.length:=by omega
   simp [List.getD,this]
  rw [List.getElem?_map,h1]
  by_cases h2:i < k∨bs.length≤i+k
  ·rw [if_pos h2];rfl
  ·rw [if_neg h2]
   have:bs.length - 1 - i=i:=by omega
   rw [this];rfl
 ·rw [List.getElem?_eq_none (by simp [BF];omega),List.getElem?_eq_none (by simp;omega)]
theorem Ti(r:Nat→Nat)(l:List UInt8):(l.map Fv).map (C.BB r)=l.map Fv:=by
 rw [List.map_map];exact List.map_congr_left fun c _=>rfl
theorem FH(r:Nat→Nat)(c:UInt8):C.BB r (Fv c)=Fv c:=rfl
theorem MF(r:Nat→Nat)(n:Nat)(H:Nat→UInt8):(BF n fun i=>Fv (H i)).map (C.BB r)=BF n fun i=>Fv (H i):=by
 unfold BF
 rw [List.map_map]
 exact List.map_congr_left fun i _=>rfl
theorem KS{n q:Nat}{H:Nat→UInt8}(h:q < n):(BF n fun i=>Fv (H i))[0+((q:Nat):Int).toNat]? = some (Fv (H q)):=by
 rw [Nat.zero_add,Int.toNat_natCast];exact DJ (g:=fun i=>Fv (H i)) h
theorem Ol{n q:Nat}{H:Nat→UInt8}{c d:UInt8}:(BF n fun i=>Fv (H i)).set (0+((q:Nat):Int).toNat) (Af (Fv d) 0 (eC (eI .u8 (c.toNat:Nat))))=BF n fun i=>Fv (if i=q then c else H i):=by
 rw [Nat.zero_add,Int.toNat_natCast]
 have e:Af (Fv d) 0 (eC (eI .u8 (c.toNat:Nat)))=Fv c:=rfl
 rw [e,MG]
 refine C4 fun i _=>?_
 by_cases h:i=q<;>simp [h]
theorem W0(bs:List UInt8)(hb:bs.length≤1099511627776):Spec Tryz.prog TB 196 [(0,.cells 5 1 (bs.map Fv))] 1 [.o (.arr 0 1 0 bs.length)] (fun x σ nx=>x=.t []∧nx=1∧σ=[(0,.cells 5 1 (bs.reverse.map Fv))]):=by
 refine eN Tryz.func196 rfl (by kernel_rfl) rfl ?_;intro Γ hΓ
 (repeat first|(refine sM rfl ?_ ?_;first|exact tI|omega) |refine aU rfl ?_ |refine Aa ?_)
 refine aB ?_
 refine Au.AP (α:={k:Nat // k≤bs.length}) (fun ⟨k,hk⟩=>[(0,.o (.arr 0 1 0 bs.length)),(2,eI .i64 k),(3,eI .i64 ((bs.length:Int) - 1 - k))]) (fun ⟨k,hk⟩=>[(0,.cells 5 1 (BF bs.length fun i=>Fv (EP bs k i)))]) 1 (fun ⟨k,hk⟩=>bs.length - k) (⟨0,by omega⟩) [0] (Di hΓ rfl rfl) (by (simp[cX,zC,hΓ,MF,jr,FH])) ?_;rintro⟨k,hk⟩;(try dsimp only)
 (repeat first|refine tM rfl ?_ |refine s2 rfl fun _ _hb=>?_ |refine aU rfl ?_ |refine Aa ?_)
 (refine aC rfl ?_ ?_<;>rintro⟨⟩)
 ·have hlt:2*k+1 < bs.length:=by (simp only[oZ] at *;omega)
  obtain⟨m,hm⟩:∃m:Nat,m=bs.length - 1 - k:=⟨_,rfl⟩
  have e3:(bs.length:Int) - 1 - k=((m:Nat):Int):=by omega
  have hk1:EP bs k k=bs.getD k 0:=by unfold EP;rw [if_neg (by omega)]
  have hm1:EP bs k m=bs.getD m 0:=by unfold EP;rw [if_neg (by omega)]
  have hgk:=KS (H:=EP bs k) (q:=k) (n:=bs.length) (by omega)
  have hgm:=KS (H:=EP bs k) (q:=m) (n:=bs.length) (by omega)
  have hs1:=Ol (n:=bs.length) (q:=k) (H:=EP bs k) (c:=EP bs k m) (d:=EP bs k k)
  have hgm2:=KS (H:=fun i=>if i=k then EP bs k m else EP bs k i) (q:=m) (n:=bs.length) (by omega)
  have hs2:=Ol (n:=bs.length) (q:=m) (H:=fun i=>if i=k then EP bs k m else EP bs k i) (c:=EP bs k k) (d:=EP bs k m)
  have hmk:m≠k:=by omega
  rw [if_neg hmk] at hgm2
  have hc:(BF bs.length fun i=>Fv (if i=m then EP bs k k else if i=k then EP bs k m else EP bs k i))=BF bs.length fun i=>Fv (EP bs (k+1) i):=C4 fun i hi=>by
   congr 1
   by_cases h1:i=m
   ·subst h1;rw [if_pos rfl,hk1];unfold EP;rw [if_pos (by omega)];congr 1;omega
   ·rw [if_neg h1]
    by_cases h2:i=k
    ·subst h2;rw [if_pos rfl,hm1];unfold EP;rw [if_pos (by omega)];congr 1
    ·rw [if_neg h2];unfold EP
     by_cases h3:i < k∨bs.length≤i+k
     ·rw [if_pos h3,if_pos (by omega)]
     ·rw [if_neg h3,if_neg (by omega)]
  rw [←hs1] at hgm2
  rw [e3]
  refine aK ?_
  refine aS (aB ?_)
  refine rG (nk [13,15] [2,3]) (by kernel_rfl) ?_
  (repeat first|(refine sM rfl ?_ ?_;first|exact tI|omega) |refine t4 rfl ‹_› rfl ?_ |refine aU rfl ?_ |refine Aa ?_)
  refine⟨⟨k+1,by omega⟩,by dsimp only;(omega),[0],?_⟩
  rw [hs1,hs2,hc]
  have e4:(m:Int) - 1=bs.length - 1 - (k+1):=by omega
  simp[cX,zC,hΓ,MF,e4]
 ·have hle:bs.length≤2*k+1:=by (simp only[oZ] at *;omega)
  rw [dJ bs hle]
  exact aE ⟨_,rfl,rfl,rfl,rfl⟩
abbrev gU(s:NX):List D:=[iD s.p,iD s.l,FX s.ns]
abbrev PE(s:NX):List C:=[.d (iD s.p),.d (iD s.l),.d (FX s.ns)]
abbrev dZ(l:List NX):D:=.l (l.map gU)
theorem ZQ{l:Int}(h0:0≤l)(h1:l < 6):Fv (UInt8.ofNat (97+l.toNat))=[.d (.v (.int .u8 (97+l)))]:=by
 have h2:(97+l.toNat) % 256=97+l.toNat:=Nat.mod_eq_of_lt (by omega)
 have h3:(97+l:Int)=((97+l.toNat:Nat):Int):=by omega
 simp [Fv,h2,h3]
theorem gy(o:List Int):(Dk o).reverse=Dk o.reverse:=by simp [Dk]
theorem UQ{ls:List Int}{steps:List NX}{ws:List (List Int)}(h:Chain ls steps ws)(hls:∀l∈ls,0≤l∧l < 6){w:List Int}(hlen:1≤steps.length∧steps.length≤2097152)(hw:ws[steps.length - 1]? = some w):Pure Tryz.prog TB 136 [.o (.d (dZ steps))] (eT (Dk w)):=by
 refine eN Tryz.func136 rfl (by kernel_rfl) rfl ?_;intro Γ hΓ
 (repeat first|refine tM rfl ?_ |refine aU rfl ?_ |refine Aa ?_)
 (refine pW rfl ?_ rfl (by rfl);refine Hk 1 5 ?_)
 (repeat first|refine sN rfl ?_ |(refine sM rfl ?_ ?_;first|exact tI|omega) |refine aU rfl ?_ |refine Aa ?_)
 refine aB ?_
 refine Au.AP (α:={x:Nat×List Int // x.1+x.2.length < steps.length∧∃v,ws[x.1]? = some v∧w=v++x.2.reverse}) (fun ⟨⟨i,o⟩,hP⟩=>[(0,.o (.d (dZ steps))),(3,.o (.arr 0 1 0 o.length)),(4,eI .i64 i)]) (fun ⟨⟨i,o⟩,hP⟩=>[(0,.cells 5 1 ((Dk o).map Fv))]) 1 (fun ⟨⟨i,o⟩,hP⟩=>i) (⟨(steps.length - 1,[]),by simp;omega,w,hw,by simp⟩) [0] (Di hΓ rfl rfl) (by (simp[cX,zC,hΓ,Dk,Int.ofNat_sub,hlen.1])) ?_;rintro⟨⟨i,o⟩,hP⟩;(try dsimp only)
 obtain⟨hi,v,hv,hwv⟩:=hP
 simp only at hi hv hwv
 obtain⟨s,hs⟩:=get_some (l:=steps) (k:=i) (by omega)
 have hs':=get_map (g:=gU) hs
 have hch:=h.chain i s hs
 have htl:(Dk o).length=o.length:=by simp [Dk]
 (repeat first|refine tM rfl ?_ |(refine s4 rfl ‹_› rfl ?_ ?_;omega) |refine s2 rfl fun _ _hb=>?_ |refine aU rfl ?_ |refine Aa ?_)
 (refine aC rfl ?_ ?_<;>rintro⟨⟩)
 ·obtain⟨q,u,hq,hqi,hqu,hu,hl⟩:∃(q:Nat) (u:List Int),s.p=(q:Int)∧q < i∧ws[q]? = some u∧ws[i]? = some (u++[s.l])∧s.l∈ls:=by
   rcases hch with ⟨h1,_⟩|h1
   ·exfalso;(simp only[oZ] at *;omega)
   ·exact h1
  have hlb:=hls _ hl
  rw [hv] at hu
  injection hu with hu
  have hby:=ZQ hlb.1 hlb.2
  have htx:Dk (o++[s.l])=Dk o++[UInt8.ofNat (97+s.l.toNat)]:=by simp [Dk]
  have htx2:(Dk (o++[s.l])).map Fv=(Dk o).map Fv++[[.d (.v (.int .u8 (97+s.l)))]]:=by rw [htx,List.map_append,List.map_cons,hby];rfl
  refine aK ?_
  refine aS (aB ?_)
  (repeat first|refine tA rfl ?_ |(refine s4 rfl ‹_› rfl ?_ ?_;omega) |refine sP rfl (Fp s.l hlb.1 (by omega)) rfl ?_ |refine aU rfl ?_)
  (refine pW rfl ?_ rfl (by rfl);refine AH rfl rfl rfl (by first| (simp;done)|(simp;(omega))) rfl (by intro r hr;simp at hr;subst hr;rfl) (by rfl) (Nat.le_of_ble_eq_true rfl) (by simp;omega) ?_)
  (repeat first|refine tX rfl ?_ |(refine s4 rfl ‹_› rfl ?_ ?_;omega) |refine aU rfl ?_ |refine Aa ?_)
  refine⟨⟨(q,o++[s.l]),by simp;omega,u,hqu,by rw [hwv,hu];simp⟩,by dsimp only;omega,[1],?_⟩
  dsimp only
  rw [htx2]
  simp[cX,zC,hΓ,hq,FH]
 ·have hv0:v=[]:=by
   rcases hch with ⟨_,h1⟩|⟨q,u,h1,_⟩
   ·rw [hv] at h1;injection h1
   ·exfalso;(simp only[oZ] at *;omega)
  subst hv0
  have hwo:w=o.reverse:=by rw [hwv];rfl
  have hrv:=W0 (TB:=TB) (Dk o) (by omega)
  rw [htl,gy,←hwo] at hrv
  refine aE ?_
  (repeat first|refine tM rfl ?_ |refine aU rfl ?_)
  (refine pW rfl ?_ rfl (by rfl);refine Bx [0] rfl rfl hrv ⟨rfl,by simp,by simp⟩ rfl (by simp[cX,zC,hΓ,FH]) ?_;rintro x0 σ1 nx1 ⟨rfl,rfl,rfl⟩ _)
  have htw:(Dk w).length=o.length:=by rw [hwo];simp [Dk]
  (repeat first|refine tM rfl ?_|(refine Ai rfl ?_;refine gA rfl ?_;first| refine gQ (Oi (Dk w) rfl rfl (by simp;omega) (by rw [List.drop_zero,Ti,List.take_of_length_le (by simp;omega)])) (by rfl) ?_) |refine aU rfl ?_ |refine Aa ?_)
  refine aR ⟨_,rfl,rfl⟩
theorem hY(p:Nat→Prop):(∀i,i < 5→p i)↔p 0∧p 1∧p 2∧p 3∧p 4:=by
 constructor
 ·intro h;exact⟨h 0 (by omega),h 1 (by omega),h 2 (by omega),h 3 (by omega),h 4 (by omega)⟩
 ·rintro⟨h0,h1,h2,h3,h4⟩ i hi
  have:i=0∨i=1∨i=2∨i=3∨i=4:=by omega
  rcases this with rfl|rfl|rfl|rfl|rfl<;>assumption
theorem eu{goal:Int→Bool}{seen:List Bool}{nodes:List Int}{k:Nat}{x:Int}(h:nodes[k]? = some x):Tx goal seen (nodes.take (k+1))=VL goal (Tx goal seen (nodes.take k)) x:=by
 unfold Tx;rw [GB h]
theorem Vm{l:List Bool}{n:Int}:(l.map Ax).set (0+n.toNat) (Af (Ax false) 0 (eC (eB true)))=(l.set n.toNat true).map Ax:=by
 simp [Af,eC,List.map_set]
abbrev FN(N:Nat)(gG:FuncId)(capsG:List C)(seen:List Bool)(q:Nat)(steps:List NX):Ab:=
 [(0,.cells 27 1 [[.arr 1 1 0 N]]),(1,.cells 4 1 (seen.map Ax)),(2,.cells 115 1 [[.fn gG capsG]]),(3,.cells 173 1 [[.arr q 3 0 steps.length]]),(q,.cells 175 3 (steps.map PE))]
theorem VK{goal:Int→Bool}{gG:FuncId}{capsG:List C}{N:Nat}(hG:∀n:Int,0≤n∧n < N→Pure Tryz.prog TB gG ([eI .i64 n]++capsG.map .o) (eB (goal n)))(hcG:C.Dr capsG=true)(hren:∀r,C.BB r capsG=capsG)
 (seen:List Bool) (steps:List NX) (p l:Int) (nodes:List Int) (hs:seen.length=N) (hN:N≤1048576) (hst:steps.length≤1048576) (hn:∀n∈nodes,0≤n∧n < N) :
 Spec Tryz.prog TB 135 (FN N gG capsG seen 4 steps) 5 [eI .i64 p,eI .i64 l,Ag nodes,.o (.ptr 0 1 0 0),.o (.ptr 2 1 0 0),.o (.ptr 3 1 0 0)]
  (fun x σ nx=>x=eB (Tx goal seen nodes).found∧∃q,(q=4∧nx=5∨q=5∧nx=6)∧σ=FN N gG capsG (Tx goal seen nodes).seen q (ER steps p l (Tx goal seen nodes).fresh)):=by
 have hvk:∀k,jG goal N seen (nodes.take k) (Tx goal seen (nodes.take k)):=fun k=>XA hs fun n hn'=>hn n (List.mem_of_mem_take hn')
 refine eN Tryz.func135 rfl (by kernel_rfl) rfl ?_;intro Γ hΓ
 refine Au.bound 2 rfl fun hB0=>?_
 have hB:=hB0 _ .refl
 rw [List.length_map] at hB
 (repeat first|refine tM rfl ?_ |refine aU rfl ?_ |refine Aa ?_)
 (refine pW rfl ?_ rfl (by rfl);refine Hk 1 3 ?_)
 (repeat first|refine sN rfl ?_ |refine tM rfl ?_ |refine aU rfl ?_ |refine Aa ?_)
 refine aB ?_
 refine Au.AP (α:={k:Nat // k≤nodes.length}) (fun ⟨k,hk⟩=>[(0,eI .i64 p),(1,eI .i64 l),(3,.o (.ptr 0 1 0 0)),(4,.o (.ptr 2 1 0 0)),(5,.o (.ptr 3 1 0 0)),(10,.o (.arr 5 1 0 (Tx goal seen (nodes.take k)).fresh.length)),(11,eB (Tx goal seen (nodes.take k)).found),(14,Ag nodes),(15,eI .i64 nodes.length),(16,eI .i64 k)]) (fun ⟨k,hk⟩=>FN N gG capsG (Tx goal seen (nodes.take k)).seen 4 steps++[(5,.cells 3 1 ((Tx goal seen (nodes.take k)).fresh.map Al))]) 6 (fun ⟨k,hk⟩=>nodes.length - k) (⟨0,by omega⟩) [0,1,2,3,4,5] (Di hΓ rfl rfl) (by (simp[cX,zC,hΓ,FN,Tx,hren])) ?_;rintro⟨k,hk⟩;(try dsimp only)
 have hv:=hvk k
 have hvs:=fun x=>eu (goal:=goal) (seen:=seen) (nodes:=nodes) (k:=k) (x:=x)
 generalize hV:Tx goal seen (nodes.take k)=v at *
 (repeat first|refine s2 rfl fun _ _hb=>?_ |refine aU rfl ?_ |refine Aa ?_)
 (refine aC rfl ?_ ?_<;>rintro⟨⟩)
 ·obtain⟨x,hx⟩:=get_some (l:=nodes) (k:=k) (by (simp only[oZ] at *;omega))
  have hx':=get_map (g:=Bm) hx
  have hxb:=hn x (List.mem_of_getElem? hx)
  have hvs:=hvs x hx
  have hvl:=hv.len
  obtain⟨b,hb⟩:=get_some (l:=v.seen) (k:=x.toNat) (by omega)
  have hb':(v.seen.map Ax)[0+x.toNat]? = some (Ax b):=by simp [hb]
  have hsb:sn v.seen x=b:=by simp [sn,List.getD,hb]
  have hfl:v.fresh.length≤N:=by
   refine Gi _ _ hv.nd fun y hy=>hn y (List.mem_of_mem_take ((hv.fr y).1 hy).1)
  unfold VL at hvs
  rw [hsb] at hvs
  obtain⟨vse,vfr,vfd⟩:=v
  simp only at hvs hvl hb hb' hfl
  refine aK ?_
  refine aS (aB ?_)
  (repeat first|((first|refine sM rfl ?_ ?_|refine s4 rfl ‹_› rfl ?_ ?_);first|exact tI|omega) |refine s2 rfl fun _ _hb=>?_ |refine aU rfl ?_ |refine Aa ?_)
  (refine aC rfl ?_ ?_<;>rintro⟨⟩)
  ·have hbf:b=false:=by simpa using _hb
   subst hbf
   rw [if_neg (by simp)] at hvs
   (repeat first|(refine sA rfl ?_ ?_;first|exact tI|omega) |refine t4 rfl ‹_› rfl ?_ |refine aU rfl ?_ |refine Aa ?_)
   (refine pW rfl ?_ rfl (by rfl);refine AH rfl rfl rfl (by first| (simp;done)|(simp;(omega))) rfl (by intro r hr;simp at hr;subst hr;rfl) (by rfl) (Nat.le_of_ble_eq_true rfl) (by simp;omega) ?_)
   (repeat first|(refine sX rfl ?_ ?_;first|exact tI|simp only[oZ] at *;omega) |refine s3 rfl ?_ ?_<;>rintro rfl |refine aU rfl ?_ |refine Aa ?_)
   (repeat first|(refine sC rfl (hG x hxb) ?_;intro _ _hb)|(refine Ai rfl ?_;refine gA rfl ?_;first| refine gQ (Te rfl rfl rfl rfl) (by rfl) ?_))
   ·refine⟨⟨k+1,by (simp only[oZ] at *;omega)⟩,by dsimp only;((simp only[oZ] at *;omega)),[0,1,2,3,4,6],?_⟩
    rw [Vm]
    simp[cX,zC,hΓ,hvs,FN,hren,hY]
   ·(repeat first|(refine sA rfl ?_ ?_;first|exact tI|simp only[oZ] at *;omega)|(refine Ai rfl ?_;refine gA rfl ?_;first| (refine gB (fun _ _=>AO rfl rfl (by simp [E.Cp,C.Cp,hcG]) (hG x hxb) rfl) ?_;intro _ _hb)) |refine aU rfl ?_ |refine Aa ?_)
    refine⟨⟨k+1,by (simp only[oZ] at *;omega)⟩,by dsimp only;((simp only[oZ] at *;omega)),[0,1,2,3,4,6],?_⟩
    rw [Vm]
    simp[cX,zC,hΓ,hvs,FN,hren,hY,_hb]
  ·have hbt:b=true:=by simpa using _hb
   subst hbt
   rw [if_pos rfl] at hvs
   refine aK ?_
   (repeat first|(refine sM rfl ?_ ?_;first|exact tI|simp only[oZ] at *;omega) |refine aU rfl ?_ |refine Aa ?_)
   refine⟨⟨k+1,by (simp only[oZ] at *;omega)⟩,by dsimp only;((simp only[oZ] at *;omega)),[0,1,2,3,4,5],?_⟩
   simp[cX,zC,hΓ,hvs,FN,hren,hY]
 ·obtain rfl:k=nodes.length:=by (simp only[oZ] at *;omega)
  rw [List.take_length] at hV
  subst hV
  refine aE ?_
  have hfl:(Tx goal seen nodes).fresh.length≤N:=by
   have hv:=hvk nodes.length
   rw [List.take_length] at hv
   refine Gi _ _ hv.nd fun y hy=>hn y ((hv.fr y).1 hy).1
  generalize Tx goal seen nodes=vv at *
  obtain⟨vse,vfr,vfd⟩:=vv
  have hfl:vfr.length≤N:=hfl
  (repeat first|refine tM rfl ?_ |refine s2 rfl fun _ _hb=>?_ |refine aU rfl ?_ |refine Aa ?_)
  (refine aC rfl ?_ ?_<;>rintro⟨⟩)
  ·have hne:vfr≠[]:=fun e=>by rw [e] at _hb;simp at _hb
   refine Au.freeze [5] [(0,eI .i64 p),(1,eI .i64 l),(5,.o (.ptr 3 1 0 0)),(10,Ag vfr),(11,eB vfd)] ⟨⟨_,rfl,.AE⟩,⟨_,rfl,.AE⟩,⟨_,rfl,.AE⟩,⟨_,rfl,.o (.full (by simp) rfl (by simp [Function.comp_def]) (by simp))⟩,⟨_,rfl,.AE⟩,trivial⟩ ?_
   (repeat first|refine tA rfl ?_|(refine Ai rfl ?_;refine gA rfl ?_;first| refine gS (fun _ _=>AQ rfl rfl (by rfl) (by rfl)) ?_) |refine aU rfl ?_)
   (refine pW rfl ?_ rfl (by rfl);refine AH rfl rfl rfl (by first| (simp;done)|(simp;(omega))) rfl (by intro r hr;simp at hr;subst hr;rfl) (by rfl) (Nat.le_of_ble_eq_true rfl) (by simp;omega) ?_)
   (repeat first|refine tX rfl ?_ |refine aU rfl ?_ |refine Aa ?_)
   refine Au.names [0,1,2,3,4,6] [(9,eB vfd)] (FN N gG capsG vse 5 (ER steps p l vfr)) (by rw [hΓ];decide) (by decide) (by simp[cX,zC,hΓ]) (by simp[cX,zC,hΓ,FN,hren,ER,hne,BN,Af,eC]) ?_
   refine aR ⟨_,rfl,rfl,5,.inr ⟨rfl,rfl⟩,rfl⟩
  ·have hne:vfr=[]:=List.length_eq_zero_iff.1 (by (simp only[oZ] at *;omega))
   subst hne
   refine aK ?_
   (repeat first|refine tM rfl ?_ |refine aU rfl ?_ |refine Aa ?_)
   refine Au.names [0,1,2,3,4] [(9,eB vfd)] (FN N gG capsG vse 4 steps) (by rw [hΓ];decide) (by decide) (by simp[cX,zC,hΓ]) (by simp[cX,zC,hΓ,FN,hren]) ?_
   refine aR ⟨_,rfl,rfl,4,.inl ⟨rfl,rfl⟩,by simp [ER]⟩
end Go.Am
