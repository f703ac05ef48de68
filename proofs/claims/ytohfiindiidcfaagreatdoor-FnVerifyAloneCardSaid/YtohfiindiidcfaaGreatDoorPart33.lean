/-
  Keeping a property: what the checks say, plainly.
-/
import Derived.Test.YtohfiindiidcfaaGreatDoorPart31
import Derived.Test.YtohfiindiidcfaaGreatDoorPart30
set_option linter.all false
namespace Go.Am
open Go
set_option linter.unusedVariables false
theorem JO{al:Int}{u:List Int}(c:GV u)(h:∀l∈u,AX al l.toNat=true):∀l∈u,l∈Ac al:=λl a=>by
 have:=c l a
 obtain⟨n,rfl⟩:∃n:Nat,l=n:=⟨l.toNat,by omega⟩
 have b:=h _ a;rw [io] at b;exact Ej.2 ⟨by omega,b⟩
theorem SH{g:Gr}{w:List Int}(h:Dd g=some w):over g w/\QP g w/\∀u,over g u->QP g u->¬slt u w:=by
 have:=Dp g;rw [h] at this;exact this
theorem Yt{g:Gr}(h:Dd g=none):∀u,over g u->¬QP g u:=by
 have:=Dp g;rw [h] at this;exact this
theorem La{s:Sys}{a p:AY}{w:List Int}(h:DN s a p=some w):CU s a p=true/\(∀l∈w,l∈Ac (Gt .i64 s.al a.al))/\Eg s w/\C6 a w=true/\C6 p w=false:=by
 unfold DN at h;by_cases b:CU s a p=true
 ·rw [if_pos b] at h
  obtain⟨c,d,_⟩:=SH h;exact⟨b,c,(jt b c).1 d⟩
 ·rw [if_neg b] at h;cases h
theorem WQ{s:Sys}{a p:AY}(d:CU s a p=true):Jj s a p=true↔∀w,(∀l∈w,l∈Ac (Gt .i64 s.al a.al))->Eg s w->C6 a w=true->C6 p w=true:=by
 unfold Jj DN;rw [d,o5,if_pos rfl];constructor
 ·intro h w g c f
  cases b:Dd (Eb (Ec s a p)) with
  | some x=>rw [b] at h;cases h
  | none=>
   have:=Yt b w g;rw [jt d g] at this;cases e:C6 p w
   ·exact absurd ⟨c,f,e⟩ this
   ·rfl
 ·intro h
  cases b:Dd (Eb (Ec s a p)) with
  | none=>rfl
  | some x=>
   obtain⟨c,f,_⟩:=SH b;obtain⟨e,j,i⟩:=(jt d c).1 f;rw [h x c e j] at i;cases i
theorem XQ{l:List Sys}{p:AY}{w:List Int}(h:Bx l p=some w):(AU l && AI p)=true/\(∀m∈w,m∈Ac (Bv l))/\(∀s∈l,Eg s w)/\C6 p w=false:=by
 unfold Bx at h;by_cases a:(AU l && AI p)=true
 ·rw [if_pos a] at h
  obtain⟨b,c,_⟩:=SH h;exact⟨a,b,(cM a b).1 c⟩
 ·rw [if_neg a] at h;cases h
theorem KF{l:List Sys}{p:AY}(c:(AU l && AI p)=true):Cs l p=true↔∀w,(∀m∈w,m∈Ac (Bv l))->(∀s∈l,Eg s w)->C6 p w=true:=by
 unfold Cs Bx;rw [c,o5,if_pos rfl];constructor
 ·intro h w e b
  cases a:Dd (Eb (CP l p)) with
  | some x=>rw [a] at h;cases h
  | none=>
   have:=Yt a w e;rw [cM c e] at this;cases d:C6 p w
   ·exact absurd ⟨b,d⟩ this
   ·rfl
 ·intro h
  cases a:Dd (Eb (CP l p)) with
  | none=>rfl
  | some x=>
   obtain⟨b,g,_⟩:=SH a;obtain⟨d,f⟩:=(cM c b).1 g;rw [h x b d] at f;cases f
theorem HJ(n:Nat)(a:n < 64):AX 0 n=false:=by
 have:=Dq (s:=0) (n:=n) (by omega) a;rw [show ((0:Nat):Int)=0 from rfl] at this;rw [this];simp
theorem Fw{t:Sys}:AU [t]=AV t:=by simp [AU]
theorem CW{s t:Sys}:AU [s,t]=(AV s && AV t):=by simp [AU]
theorem SL{t:Sys}(ht:AV t=true){n:Nat}(a:n < 64):AX (Bv [t]) n=AX t.al n:=by
 unfold Bv;rw [Fw,ht,if_pos rfl]
 show AX (Gt .i64 0 t.al) n=_
 rw [MM (by decide) (AN ht).1 a,HJ n a,qR]
theorem Lp{s t:Sys}(a:AV s=true)(ht:AV t=true){n:Nat}(b:n < 64):AX (Bv [s,t]) n=(AX s.al n || AX t.al n):=by
 unfold Bv;rw [CW,a,ht,rK,if_pos rfl]
 show AX (Gt .i64 (Gt .i64 0 s.al) t.al) n=_
 have c:Bb 0=true:=by decide
 rw [MM (LF c (AN a).1) (AN ht).1 b,MM c (AN a).1 b,HJ n b,qR]
theorem dB{t:Sys}(ht:AV t=true){u:List Int}:(∀l∈u,l∈Ac (Bv [t]))↔∀l∈u,l∈Ac t.al:=by
 constructor
 ·intro h
  have a:=EX h
  exact JO a λl b=>by rw [<-SL ht (by have:=a l b;omega)];exact(Al (h l b)).2.2
 ·intro h
  have a:=EX h
  exact JO a λl b=>by rw [SL ht (by have:=a l b;omega)];exact(Al (h l b)).2.2
theorem YU{s t:Sys}(c:AV s=true)(ht:AV t=true){u:List Int}:(∀l∈u,l∈Ac (Bv [s,t]))↔GV u/\∀l∈u,AX s.al l.toNat=true\/AX t.al l.toNat=true:=by
 constructor
 ·intro h
  have a:=EX h;refine⟨a,λl b=>?_⟩;have:=(Al (h l b)).2.2;rw [Lp c ht (by have:=a l b;omega),oN] at this;exact this
 ·rintro⟨a,h⟩
  exact JO a λl b=>by rw [Lp c ht (by have:=a l b;omega),oN];exact h l b
theorem iG{a b:Int}(ha:Bb a=true)(hb:Bb b=true){u:List Int}:(∀l∈u,l∈Ac (Gt .i64 a b))↔GV u/\∀l∈u,AX a l.toNat=true\/AX b l.toNat=true:=by
 constructor
 ·intro h
  have c:=EX h;refine⟨c,λl d=>?_⟩;have:=(Al (h l d)).2.2;rw [MM ha hb (by have:=c l d;omega),oN] at this;exact this
 ·rintro⟨c,h⟩
  exact JO c λl d=>by rw [MM ha hb (by have:=c l d;omega),oN];exact h l d
theorem Mx{s t:Sys}{w:List Int}:(∀x∈[s,t],Eg x w)↔Eg s w/\Eg t w:=by simp
theorem Tu{t:Sys}{w:List Int}:(∀x∈[t],Eg x w)↔Eg t w:=by simp
theorem NM{s t:Sys}{p a:AY}(h:GM s t p a=0):Cs [s,t] p=true/\Jj s a p=true/\Cs [t] a=true:=by
 unfold GM at h;split at h
 ·cases h
 rename_i c;split at h
 ·cases h
 rename_i m;split at h
 ·cases h
 rename_i G;split at h
 ·cases h
 rename_i F
 have hk:Jj s a p=true:=by simpa using G
 have b:Cs [t] a=true:=by simpa using F
 refine⟨?_,hk,b⟩;rw [not_or] at c
 have n:(AV s && AI p && AV t)=true:=by
  have o:=c.1;unfold AZ at o;split at o
  ·assumption
  ·omega
 have ha:AI a=true:=by simpa using c.2
 simp only [d4] at n;obtain⟨⟨e,f⟩,d⟩:=n;have hal:a.al=AZ s p t:=Classical.not_not.1 m
 have hI:Fe s p t a.al:=⟨e,f,d,hal⟩
 have y:CU s a p=true:=by unfold CU;rw [e,ha,f];rfl
 have l:(AU [t] && AI a)=true:=by rw [Fw,d,ha];rfl
 have k:(AU [s,t] && AI p)=true:=by rw [CW,e,d,f];rfl
 rw [WQ y] at hk;rw [KF l] at b;rw [KF k];intro w x z;obtain⟨A,B⟩:=(YU e d).1 x;obtain⟨r,q⟩:=Mx.1 z;exact bV hI ha rfl (λu i j c m=>hk u ((iG (AN e).1 (AE ha).1).2 ⟨i,j⟩) c m) (λv g c=>b v ((dB d).2 g) (Tu.2 c)) A B r q
theorem TY{s t:Sys}{p:AY}{al:Int}(hI:Fe s p t al){v:List Int}(g:∀l∈v,l∈Ac t.al)(ht:Eg t v)(h:LS ⟨s,p,al⟩ (CQ (BS al v))=false):Cs [s,t] p=false:=by
 have a:(AU [s,t] && AI p)=true:=by rw [CW,hI.hs,hI.ht,hI.hp];rfl
 obtain⟨x,f,e,d,c,b⟩:=VS hI g ht h;cases hk:Cs [s,t] p
 ·rfl
 ·rw [KF a] at hk
  rw [hk x ((YU hI.hs hI.ht).2 ⟨f,e⟩) (Mx.2 ⟨d,c⟩)] at b;cases b
theorem bL{a:AY}{w:List Int}(b:∀l∈w,l∈Ac a.al):LA a (CQ w)=C6 a w:=by
 unfold C6;rw [Sm w 0 b];rfl
theorem Qy{s t:Sys}{p a:AY}{al:Int}(hI:Fe s p t al)(ha:AI a=true)(hal:a.al=al){u:List Int}(h:DN s a p=some u):(∀l∈BS al u,l∈Ac al)/\LA a (CQ (BS al u))=true/\LS ⟨s,p,al⟩ (CQ (BS al u))=false:=by
 obtain⟨o,i,j,n,k⟩:=La h;have e:=EX i;have c:=T9 (al:=al) e;have d:=((iG (AN hI.hs).1 (AE ha).1).1 i).2;refine⟨c,?_,(II (ER hI) c).2 ⟨u,λl b=>?_,qL _,j,k⟩⟩
 ·rw [bL (by rw [hal];exact c),<-n]
  exact Ll ha (T8 e) e (by rw [hal,Mz λ_ _ h=>h])
 ·have hb:=e l b
  rw [hal] at d;by_cases f:AX al l.toNat=true
  ·exact .inr (JO (u:=[l]) (by intro m b;simp at b;subst b;exact hb) (by intro m b;simp at b;subst b;exact f) l (by simp))
  ·refine .inl ?_
   unfold Cy;refine oO.2 ⟨?_,by simpa using f⟩;have g:AX s.al l.toNat=true:=(d l b).resolve_right f;exact JO (u:=[l]) (by intro m b;simp at b;subst b;exact hb) (by intro m b;simp at b;subst b;exact g) l (by simp)
theorem Hk{t:Sys}{a:AY}{v:List Int}(h:Bx [t] a=some v):AV t=true/\AI a=true/\(∀l∈v,l∈Ac t.al)/\Eg t v/\C6 a v=false:=by
 obtain⟨b,d,c,e⟩:=XQ h;rw [d4,Fw] at b;exact⟨b.1,b.2,(dB b.1).1 d,Tu.1 c,e⟩
theorem O6{t:Sys}{a:AY}{v:List Int}(h:Bx [t] a=some v):(∀l∈BS a.al v,l∈Ac a.al)/\LA a (CQ (BS a.al v))=false:=by
 obtain⟨i,f,e,g,d⟩:=Hk h;have c:=EX e;have b:=T9 (al:=a.al) c;refine⟨b,?_⟩;rw [bL b,<-d];exact Ll f (T8 c) c (by rw [Mz λ_ _ h=>h])
end Go.Am
namespace Go.Am
open Go Go.Proofs
set_option maxHeartbeats 1000000
set_option maxRecDepth 4000
attribute [local irreducible] A3 Cp Lex Bl Aj Spec
variable {TB:BC}
theorem Ts{t:EF}{al:Int}{A:W->Bool}(f:Kr Tryz.prog TB 123 170 t al A):Pure Tryz.prog TB 69 [EL t] (IN (Io A al Bw)):=by
 have c:Pure Tryz.prog TB 121 [EL t,Eh Bw] (IN (Io A al Bw)):=Jb f Bw ⟨by decide,by decide,λw a=>by simp [Bw] at a;subst a;simp,λw a=>by simp [Bw] at a;subst a;simp⟩
 rcases e:Io A al Bw with _|x<;>rw [e] at c<;>(
  refine eG Tryz.func69 rfl (by kernel_rfl) rfl ?_;intro Z d;(repeat' first |refine sN rfl ?_ |((first|refine sA rfl ?_ ?_|refine s4 rfl ‹_› rfl ?_ ?_);first|exact tI|omega|simp only[oZ] at *;omega) |(refine s2 rfl λ_ b=>?_;try (simp only[pB,pH] at b;subst b)) |refine sP rfl (c) rfl ?_|(refine Ag rfl ?_;refine gA rfl ?_;first|refine gS (λ_ _=>AG rfl rfl (by rfl) (by rfl)) ?_) |refine s3 rfl ?_ ?_<;>rintro rfl |refine aU rfl ?_ |refine Aa ?_ |refine rE (by kernel_rfl) ?_|(refine aC rfl ?_ ?_<;>rintro⟨⟩)|refine aK ?_|refine aE ?_|refine aB ?_|refine aR ⟨_,rfl,?_⟩)
  all_goals rfl)
theorem ZL(l:List Int)(h:l.length<=1048576):Spec Tryz.prog TB 157 [] 0 [Ak l] (λx σ nx=>x=.o (.arr 0 1 0 l.length)/\nx=1/\σ=[(0,.cells 3 1 (l.map AD))]):=by
 refine eN Tryz.func157 rfl (by kernel_rfl) rfl ?_;intro Z b;(repeat first |refine sN rfl ?_ |((first|refine sM rfl ?_ ?_|refine s4 rfl ‹_› rfl ?_ ?_);first|exact tI|omega|simp only[oZ] at *;omega) |refine s2 rfl λ_ a=>?_ |refine s3 rfl ?_ ?_<;>rintro rfl |refine aU rfl ?_ |refine Aa ?_ |refine rE (by kernel_rfl) ?_);(refine Ag rfl ?_;refine CI (λ_ _=>CL rfl) rfl ?_);(repeat first |refine sN rfl ?_ |((first|refine sM rfl ?_ ?_|refine s4 rfl ‹_› rfl ?_ ?_);first|exact tI|omega|simp only[oZ] at *;omega) |refine s2 rfl λ_ a=>?_ |refine s3 rfl ?_ ?_<;>rintro rfl |refine aU rfl ?_ |refine Aa ?_ |refine rE (by kernel_rfl) ?_);(refine pW rfl ?_ rfl (by rfl);refine LV rfl ?_;intro e c);(repeat first |refine sN rfl ?_ |((first|refine sM rfl ?_ ?_|refine s4 rfl ‹_› rfl ?_ ?_);first|exact tI|omega|simp only[oZ] at *;omega) |refine s2 rfl λ_ a=>?_ |refine s3 rfl ?_ ?_<;>rintro rfl |refine aU rfl ?_ |refine Aa ?_ |refine rE (by kernel_rfl) ?_);(refine aC rfl ?_ ?_<;>rintro⟨⟩)
 ·obtain rfl:l=[]:=by simpa using c rfl
  (repeat first |refine sN rfl ?_ |((first|refine sM rfl ?_ ?_|refine s4 rfl ‹_› rfl ?_ ?_);first|exact tI|omega|simp only[oZ] at *;omega) |refine s2 rfl λ_ a=>?_ |refine s3 rfl ?_ ?_<;>rintro rfl |refine aU rfl ?_ |refine Aa ?_ |refine rE (by kernel_rfl) ?_);(refine pW rfl ?_ rfl (by rfl);refine Hp 1 3 ?_);(repeat first |refine sN rfl ?_ |((first|refine sM rfl ?_ ?_|refine s4 rfl ‹_› rfl ?_ ?_);first|exact tI|omega|simp only[oZ] at *;omega) |refine s2 rfl λ_ a=>?_ |refine s3 rfl ?_ ?_<;>rintro rfl |refine aU rfl ?_ |refine Aa ?_ |refine rE (by kernel_rfl) ?_);refine aR ⟨_,rfl,rfl,rfl,rfl⟩
 ·refine aK ?_
  (repeat first |refine sN rfl ?_ |((first|refine sM rfl ?_ ?_|refine s4 rfl ‹_› rfl ?_ ?_);first|exact tI|omega|simp only[oZ] at *;omega) |refine s2 rfl λ_ a=>?_ |refine s3 rfl ?_ ?_<;>rintro rfl |refine aU rfl ?_ |refine Aa ?_ |refine rE (by kernel_rfl) ?_);(refine pW rfl ?_ rfl (by rfl);refine Bk rfl rfl rfl rfl (by simp) (by rfl) (by rfl) (by rfl) (by rfl) ?_);(repeat first |refine sN rfl ?_ |((first|refine sM rfl ?_ ?_|refine s4 rfl ‹_› rfl ?_ ?_);first|exact tI|omega|simp only[oZ] at *;omega) |refine s2 rfl λ_ a=>?_ |refine s3 rfl ?_ ?_<;>rintro rfl |refine aU rfl ?_ |refine Aa ?_ |refine rE (by kernel_rfl) ?_);(refine pW rfl ?_ rfl (by rfl);refine Au rfl rfl rfl (by first|(simp;done)|(simp;(first|omega|simp only[oZ] at *;omega))) rfl (by intro r d;simp only [pz,d8] at d;obtain⟨_,_,rfl⟩:=d;rfl) (by rfl) (am rfl) (by simp;omega) ?_);(repeat first |refine sN rfl ?_ |((first|refine sM rfl ?_ ?_|refine s4 rfl ‹_› rfl ?_ ?_);first|exact tI|omega|simp only[oZ] at *;omega) |refine s2 rfl λ_ a=>?_ |refine s3 rfl ?_ ?_<;>rintro rfl |refine aU rfl ?_ |refine Aa ?_ |refine rE (by kernel_rfl) ?_);refine Aj.names [1] [(2,.o (.arr 0 1 0 l.length))] [(0,.cells 3 1 (l.map AD))] (by intro i hi;rw [b] at hi;omega) (by simp) (by simp[cX,zC,b]) (by simp[cX,zC,b]) ?_;refine aR ⟨_,rfl,rfl,rfl,rfl⟩
theorem ZJ(l:List Bool)(h:l.length<=1048576):Spec Tryz.prog TB 156 [] 0 [Pf l] (λx σ nx=>x=.o (.arr 0 1 0 l.length)/\nx=1/\σ=[(0,.cells 4 1 (l.map AT))]):=by
 refine eN Tryz.func156 rfl (by kernel_rfl) rfl ?_;intro Z b;(repeat first |refine sN rfl ?_ |((first|refine sM rfl ?_ ?_|refine s4 rfl ‹_› rfl ?_ ?_);first|exact tI|omega|simp only[oZ] at *;omega) |refine s2 rfl λ_ a=>?_ |refine s3 rfl ?_ ?_<;>rintro rfl |refine aU rfl ?_ |refine Aa ?_ |refine rE (by kernel_rfl) ?_);(refine Ag rfl ?_;refine CI (λ_ _=>CL rfl) rfl ?_);(repeat first |refine sN rfl ?_ |((first|refine sM rfl ?_ ?_|refine s4 rfl ‹_› rfl ?_ ?_);first|exact tI|omega|simp only[oZ] at *;omega) |refine s2 rfl λ_ a=>?_ |refine s3 rfl ?_ ?_<;>rintro rfl |refine aU rfl ?_ |refine Aa ?_ |refine rE (by kernel_rfl) ?_);(refine pW rfl ?_ rfl (by rfl);refine LV rfl ?_;intro e c);(repeat first |refine sN rfl ?_ |((first|refine sM rfl ?_ ?_|refine s4 rfl ‹_› rfl ?_ ?_);first|exact tI|omega|simp only[oZ] at *;omega) |refine s2 rfl λ_ a=>?_ |refine s3 rfl ?_ ?_<;>rintro rfl |refine aU rfl ?_ |refine Aa ?_ |refine rE (by kernel_rfl) ?_);(refine aC rfl ?_ ?_<;>rintro⟨⟩)
 ·obtain rfl:l=[]:=by simpa using c rfl
  (repeat first |refine sN rfl ?_ |((first|refine sM rfl ?_ ?_|refine s4 rfl ‹_› rfl ?_ ?_);first|exact tI|omega|simp only[oZ] at *;omega) |refine s2 rfl λ_ a=>?_ |refine s3 rfl ?_ ?_<;>rintro rfl |refine aU rfl ?_ |refine Aa ?_ |refine rE (by kernel_rfl) ?_);(refine pW rfl ?_ rfl (by rfl);refine Hp 1 4 ?_);(repeat first |refine sN rfl ?_ |((first|refine sM rfl ?_ ?_|refine s4 rfl ‹_› rfl ?_ ?_);first|exact tI|omega|simp only[oZ] at *;omega) |refine s2 rfl λ_ a=>?_ |refine s3 rfl ?_ ?_<;>rintro rfl |refine aU rfl ?_ |refine Aa ?_ |refine rE (by kernel_rfl) ?_);refine aR ⟨_,rfl,rfl,rfl,rfl⟩
 ·refine aK ?_
  (repeat first |refine sN rfl ?_ |((first|refine sM rfl ?_ ?_|refine s4 rfl ‹_› rfl ?_ ?_);first|exact tI|omega|simp only[oZ] at *;omega) |refine s2 rfl λ_ a=>?_ |refine s3 rfl ?_ ?_<;>rintro rfl |refine aU rfl ?_ |refine Aa ?_ |refine rE (by kernel_rfl) ?_);(refine pW rfl ?_ rfl (by rfl);refine Bk rfl rfl rfl rfl (by simp) (by rfl) (by rfl) (by rfl) (by rfl) ?_);(repeat first |refine sN rfl ?_ |((first|refine sM rfl ?_ ?_|refine s4 rfl ‹_› rfl ?_ ?_);first|exact tI|omega|simp only[oZ] at *;omega) |refine s2 rfl λ_ a=>?_ |refine s3 rfl ?_ ?_<;>rintro rfl |refine aU rfl ?_ |refine Aa ?_ |refine rE (by kernel_rfl) ?_);(refine pW rfl ?_ rfl (by rfl);refine Au rfl rfl rfl (by first|(simp;done)|(simp;(first|omega|simp only[oZ] at *;omega))) rfl (by intro r d;simp only [pz,d8] at d;obtain⟨_,_,rfl⟩:=d;rfl) (by rfl) (am rfl) (by simp;omega) ?_);(repeat first |refine sN rfl ?_ |((first|refine sM rfl ?_ ?_|refine s4 rfl ‹_› rfl ?_ ?_);first|exact tI|omega|simp only[oZ] at *;omega) |refine s2 rfl λ_ a=>?_ |refine s3 rfl ?_ ?_<;>rintro rfl |refine aU rfl ?_ |refine Aa ?_ |refine rE (by kernel_rfl) ?_);refine Aj.names [1] [(2,.o (.arr 0 1 0 l.length))] [(0,.cells 4 1 (l.map AT))] (by intro i hi;rw [b] at hi;omega) (by simp) (by simp[cX,zC,b]) (by simp[cX,zC,b]) ?_;refine aR ⟨_,rfl,rfl,rfl,rfl⟩
theorem MQ(a:AY)(ha:MG 1000000 a):AQ Tryz.prog TB 108 0 [] 0 [Bj a] (Lc a):=by
 have z:=ha.nx;have y:=ha.ac;have u:=ZJ (TB:=TB) a.ac (by omega);refine AQ.Bi (AQ.Sc (m:=0) (am rfl) Tryz.func108 rfl (by kernel_rfl) (am rfl) ?_);intro Z c;(repeat first |refine sN rfl ?_ |((first|refine sA rfl ?_ ?_|refine s4 rfl ‹_› rfl ?_ ?_);first|exact tI|omega|simp only[oZ] at *;omega) |refine s2 rfl λ_ b=>?_ |refine s3 rfl ?_ ?_<;>rintro rfl |refine aU rfl ?_ |refine Aa ?_);refine R.Rn [(6,3),(0,2),(1,2),(2,2),(3,2),(4,1),(5,1),(7,5)] mixed (by kernel_rfl) rfl (by kernel_rfl) ?_;(repeat ((refine R.Ag rfl ?_;first |(refine R.yQ (md:=false) rfl rfl rfl ?_ ?_;first|exact tI|omega|simp only[oZ] at *;omega) |(refine R.yB rfl rfl rfl ?_;intro _ b) |refine R.yS rfl rfl rfl ?_ |refine R.yP rfl rfl rfl rfl ?_ |refine R.yA rfl rfl rfl rfl ?_ |refine R.yW rfl rfl rfl ?_ |refine R.gD rfl rfl ?_ |(refine R.yG rfl rfl ?_ ?_<;>intro hb<;>subst hb) )));(refine R.Ag rfl ?_;refine R.J9 (λ_=>?_) rfl rfl;refine Ai [] rfl rfl u ⟨rfl,by simp,by simp⟩ rfl trivial ?_;rintro w h j ⟨rfl,rfl,rfl⟩ _);(repeat ((refine R.Ag rfl ?_;first |(refine R.yQ (md:=false) rfl rfl rfl ?_ ?_;first|exact tI|omega|simp only[oZ] at *;omega) |(refine R.yB rfl rfl rfl ?_;intro _ b) |refine R.yS rfl rfl rfl ?_ |refine R.yP rfl rfl rfl rfl ?_ |refine R.yA rfl rfl rfl rfl ?_ |refine R.yW rfl rfl rfl ?_ |refine R.gD rfl rfl ?_ |(refine R.yG rfl rfl ?_ ?_<;>intro hb<;>subst hb) )));(refine R.Ag rfl ?_;refine R.J9 (λ_=>?_) rfl rfl;refine Jp 1 1 64 rfl rfl rfl (by rfl) (by rfl) ?_);(repeat ((refine R.Ag rfl ?_;first |(refine R.yQ (md:=false) rfl rfl rfl ?_ ?_;first|exact tI|omega|simp only[oZ] at *;omega) |(refine R.yB rfl rfl rfl ?_;intro _ b) |refine R.yS rfl rfl rfl ?_ |refine R.yP rfl rfl rfl rfl ?_ |refine R.yA rfl rfl rfl rfl ?_ |refine R.yW rfl rfl rfl ?_ |refine R.gD rfl rfl ?_ |(refine R.yG rfl rfl ?_ ?_<;>intro hb<;>subst hb) )));refine R.QW ?_;refine aS ?_;(repeat first |refine sN rfl ?_ |((first|refine sA rfl ?_ ?_|refine s4 rfl ‹_› rfl ?_ ?_);first|exact tI|omega|simp only[oZ] at *;omega) |refine s2 rfl λ_ b=>?_ |refine s3 rfl ?_ ?_<;>rintro rfl |refine aU rfl ?_ |refine Aa ?_);refine aB ?_;refine Aj.eL 3 ?_;refine aL (α:={s:Nat×IM // s.1<=a.nx.length/\s.2.map (·.2)=a.nx.take s.1}) [2,3,13,14] [] rfl rfl (λs=>[(15,eI .i64 s.1.1)]) (λs=>[(0,.cells 29 3 [[.d (iD 0),.d (.l []),.d (.l [])]]),(1,.cells 4 1 (a.ac.map AT)),(2,.cells 64 1 (AA s.1.2)),(3,.cells 29 3 [[.d (iD a.al),.arr 2 1 0 s.1.2.length,.arr 1 1 0 a.ac.length]]),(4,.sld 3 (sI s.1.2))]) 5 (λs=>a.nx.length - s.1.1) (⟨⟨0,[]⟩,by simp⟩) c rfl (by ((repeat' first|exact tI|rfl|refine And.intro ?_ ?_)<;>(simp[cX,zC,c,cN,BU,Ae,eC]<;>rfl))) ?_;rintro⟨⟨k,l⟩,hk,f⟩;(try dsimp only[cA,cB]);have hk:k<=a.nx.length:=hk;have f:l.map (·.2)=a.nx.take k:=f
 have e:l.length=k:=by have:=congrArg List.length f;simp at this;omega
 (repeat first |refine sN rfl ?_ |((first|refine sA rfl ?_ ?_|refine s4 rfl ‹_› rfl ?_ ?_);first|exact tI|omega|simp only[oZ] at *;omega) |refine s2 rfl λ_ b=>?_ |refine s3 rfl ?_ ?_<;>rintro rfl |refine aU rfl ?_ |refine Aa ?_)
 ((refine aC rfl ?_ ?_<;>rintro⟨⟩);all_goals try(exfalso;first|omega|simp only[oZ] at *;omega))
 ·have p:k < a.nx.length:=by first|omega|simp only[oZ] at *;omega
  obtain⟨r,n⟩:=get_some (l:=a.nx) (k:=k) p;have x:=get_map (g:=ES) n;have o:=ha.row r (co n);have t:=ZL (TB:=TB) r (by omega);refine aK ?_;refine aS (aB ?_);(repeat first |refine sN rfl ?_ |((first|refine sA rfl ?_ ?_|refine s4 rfl ‹_› rfl ?_ ?_);first|exact tI|omega|simp only[oZ] at *;omega) |refine s2 rfl λ_ b=>?_ |refine s3 rfl ?_ ?_<;>rintro rfl |refine aU rfl ?_ |refine Aa ?_);refine rG (Kh [(1,13),(3,1008),(4,1008),(5,1),(7,1)]) (by kernel_rfl) ?_;(repeat first |refine sN rfl ?_ |((first|refine sX rfl ?_ ?_|refine s4 rfl ‹_› rfl ?_ ?_);first|exact tI|omega|simp only[oZ] at *;omega) |refine s2 rfl λ_ b=>?_ |refine s3 rfl ?_ ?_<;>rintro rfl |refine aU rfl ?_ |refine Aa ?_);(refine Ag rfl ?_;refine Da ?_ rfl ⟨rfl,rfl⟩;refine Ai [] rfl rfl (t) ⟨rfl,by decide,by decide⟩ rfl (by simp[cX,zC,c,cN]) ?_;rintro w h j ⟨rfl,rfl,rfl⟩ _;refine⟨Fi 3 rfl rfl,?_⟩);(repeat first |refine sN rfl ?_ |((first|refine sX rfl ?_ ?_|refine s4 rfl ‹_› rfl ?_ ?_);first|exact tI|omega|simp only[oZ] at *;omega) |refine s2 rfl λ_ b=>?_ |refine s3 rfl ?_ ?_<;>rintro rfl |refine aU rfl ?_ |refine Aa ?_);(refine Ag rfl ?_;refine Da ?_ rfl ⟨rfl,rfl⟩;refine Bk rfl rfl rfl rfl (by simp [eC,E.Bi,C.Bi]) (by rfl) (by rfl) (by rfl) (by rfl) ?_;refine⟨Fi 3 rfl rfl,?_⟩);(repeat first |refine sN rfl ?_ |((first|refine sX rfl ?_ ?_|refine s4 rfl ‹_› rfl ?_ ?_);first|exact tI|omega|simp only[oZ] at *;omega) |refine s2 rfl λ_ b=>?_ |refine s3 rfl ?_ ?_<;>rintro rfl |refine aU rfl ?_ |refine Aa ?_);(refine pW rfl ?_ rfl (by rfl);refine Au rfl rfl rfl (CM _) rfl (by intro r o;simp at o;subst o;rfl) (by rfl) (am rfl) (by simp;omega) ?_);(repeat first |refine sN rfl ?_ |((first|refine sA rfl ?_ ?_|refine s4 rfl ‹_› rfl ?_ ?_);first|exact tI|omega|simp only[oZ] at *;omega) |refine s2 rfl λ_ b=>?_ |refine s3 rfl ?_ ?_<;>rintro rfl);refine Aa ?_;refine Aj.Ay [2,3,13,14,15] [] rfl rfl [] [(0,.cells 29 3 [[.d (iD 0),.d (.l []),.d (.l [])]]),(1,.cells 4 1 (a.ac.map AT)),(2,.cells 64 1 (AA l++[[.arr 5 1 0 r.length]])),(3,.cells 29 3 [[.d (iD a.al),.arr 2 1 0 (l.length+1),.arr 1 1 0 a.ac.length]]),(4,.sld 3 (sI l)),(5,.cells 3 1 (r.map AD))] [0,1,7,3,4,5] (rl c rfl) (by ((repeat' first|exact tI|rfl|refine And.intro ?_ ?_)<;>(simp[cX,zC,c,cN,BU,Ae,eC]<;>rfl))) ?_;(try dsimp only[cA,cB]);refine Aj.TC 2 5 4 l r rfl rfl rfl λv=>?_;(repeat first |refine sN rfl ?_ |((first|refine sA rfl ?_ ?_|refine s4 rfl ‹_› rfl ?_ ?_);first|exact tI|omega|simp only[oZ] at *;omega) |refine s2 rfl λ_ b=>?_ |refine s3 rfl ?_ ?_<;>rintro rfl |refine aU rfl ?_ |refine Aa ?_);refine⟨⟨⟨k+1,l++[(v,r)]⟩,by dsimp only;omega,by dsimp only;rw [pv,f,d9,n];rfl⟩,by dsimp only;(first|omega|simp only[oZ] at *;omega),[0,1,2,3,4],?_⟩;(simp[cX,zC,c,cN]<;>rfl)
 have q:k=a.nx.length:=by first|omega|simp only[oZ] at *;omega
 refine aE ?_;(repeat first |refine sN rfl ?_ |((first|refine sA rfl ?_ ?_|refine s4 rfl ‹_› rfl ?_ ?_);first|exact tI|omega|simp only[oZ] at *;omega) |refine s2 rfl λ_ b=>?_ |refine s3 rfl ?_ ?_<;>rintro rfl |refine aU rfl ?_ |refine Aa ?_)
 have e:l.map (·.2)=a.nx:=by rw [f,q,gt]
 refine aR ⟨_,rfl,[2,1,4],WH a.al 0 1 l.length a.ac.length,[(0,.cells 64 1 (AA l)),(1,.cells 4 1 (a.ac.map AT)),(2,.sld 3 (sI l))],⟨by intro i hi;omega,by decide⟩,rfl,by ((repeat' first|exact tI|rfl|refine And.intro ?_ ?_)<;>(simp[cX,zC,c,cN]<;>rfl)),l,e,rfl,rfl,rfl⟩
theorem O4{a:AY}(ha:AI a=true):MG 1000000 a:=by
 have f:=AE ha;refine⟨by omega,by omega,λr c=>?_⟩;obtain⟨i,hi,e⟩:=oW c;obtain⟨row,b,h,g⟩:=HG ha hi;rw [d6 hi,e] at b
 injection b with b
 subst b;have d:(Ac a.al).length<=6:=AM a.al 6;omega
end Go.Am
namespace Go.Am
set_option linter.unusedVariables false
end Go.Am
namespace Go.Am
open Go Go.Proofs
set_option maxHeartbeats 1000000
set_option maxRecDepth 4000
attribute [local irreducible] A3 Cp Lex Bl Aj Spec
variable {TB:BC}
theorem iV(a:AY):Pure Tryz.prog TB 23 [Bj a,Bj a] (eB true):=by
 have ag:=QG (TB:=TB) a a;rw [decide_eq_true (⟨rfl,rfl,rfl⟩:a.al=a.al/\a.nx=a.nx/\a.ac=a.ac)] at ag;exact ag
end Go.Am
