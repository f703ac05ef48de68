/-
  Parts of texts, walked: any parts that are not too many will do.
-/
import Derived.Test.YtgpbfllcjdfelaaGreatDoorPart22
import Derived.Test.YtgpbfllcjdfelaaGreatDoorPart21
set_option linter.all false
namespace Go.Am
open Go Go.Proofs
set_option maxHeartbeats 1000000
set_option maxRecDepth 4000
attribute [local irreducible] AU BZ Lex Br Aj Spec
variable {TB:Bp}
def CZ{U:Type}(Q:U->Prop)(g:U->E)(x:E)(σ:Ab)(nx:Nat):Prop:=∃r,Q r/\x=g r/\σ=[]/\nx=0
theorem DG(n:Int):Spec Tryz.prog TB 280 [] 0 [eI .i64 n] (CZ (λr:W=>r.length<=6) eT):=by
 have f:(Ac n).length<=6:=AK n 6;refine eR Tryz.func280 rfl (by kernel_rfl) rfl ?_;intro Γ b;(repeat first|refine tA rfl ?_ |refine s2 rfl λ_ a=>?_ |(refine sC rfl (Ds n) ?_;intro _ a) |refine aU rfl ?_ |refine Aa ?_);(refine aC rfl ?_ ?_<;>rintro⟨⟩)
 ·(repeat first|refine tA rfl ?_ |refine aU rfl ?_ |refine Aa ?_)
  refine aR ⟨_,rfl,[],eT [],[],⟨by intro i hi;omega,by decide⟩,rfl,trivial,[],by decide,rfl,rfl,rfl⟩
 refine aK ?_;(repeat first|refine tA rfl ?_ |refine s2 rfl λ_ a=>?_ |refine aU rfl ?_ |refine Aa ?_);(refine aC rfl ?_ ?_<;>rintro⟨⟩)
 ·(repeat first|refine tA rfl ?_ |refine aU rfl ?_ |refine Aa ?_)
  refine aR ⟨_,rfl,[],eT [45],[],⟨by intro i hi;omega,by decide⟩,rfl,trivial,[45],by decide,rfl,rfl,rfl⟩
 refine aK ?_;(repeat first|refine tA rfl ?_ |refine sP rfl (Cp n) rfl ?_ |refine aU rfl ?_ |refine Aa ?_);refine aB ?_;refine aL (U:={s:Nat×W // s.1<=(Ac n).length/\s.2.length=s.1}) [4] [] rfl rfl (λs=>[(3,eT s.1.2),(5,eI .i64 s.1.1)]) (λs=>[]) 0 (λs=>(Ac n).length - s.1.1) (⟨⟨0,[]⟩,by simp⟩) b rfl (by (simp[cX,zC,b])) ?_;rintro⟨⟨k,w⟩,hk,hw⟩;(try dsimp only[cA,cB]);have hk:k<=(Ac n).length:=hk;have hw:w.length=k:=hw;(repeat first|refine sN rfl ?_ |refine tA rfl ?_ |refine s2 rfl λ_ a=>?_ |refine aU rfl ?_ |refine Aa ?_)
 ((refine aC rfl ?_ ?_<;>rintro⟨⟩);all_goals try (simp at a;done))
 ·have c:k < (Ac n).length:=by (simp only[oZ] at *;omega)
  obtain⟨l,e⟩:=get_some (l:=Ac n) (k:=k) c;have h:=get_map (g:=CN) e;have d:=Au (co e);refine aK ?_;refine aS (aB ?_);(repeat first|(refine sA rfl ?_ ?_;first|exact tI|omega|simp only[oZ] at *;omega) |(refine s4 rfl ‹_› rfl ?_ ?_;omega) |refine sP rfl (Gy l d.1 (by omega)) rfl ?_ |refine aU rfl ?_ |refine Aa ?_);refine⟨⟨⟨k+1,w++[UInt8.ofNat (97+l.toNat)]⟩,by dsimp only;omega,by simp;omega⟩,by dsimp only;(omega),[],?_⟩;(simp[cX,zC,b,cN]<;>rfl)
 ·refine aE ?_
  (repeat first|refine tA rfl ?_ |refine aU rfl ?_ |refine Aa ?_);refine aR ⟨_,rfl,[],eT w,[],⟨by intro i hi;omega,by decide⟩,rfl,trivial,w,by show w.length<=6;omega,rfl,rfl,rfl⟩
theorem Gi(s:W):Spec Tryz.prog TB 240 [] 0 [eT s] (CZ (λ_:Int×Bool=>True) (λr=>.t [(false,[.d (iD r.1)]),(false,[.d (bD r.2)])])):=by
 refine eR Tryz.func240 rfl (by kernel_rfl) rfl ?_;intro Γ a;(repeat first|refine tA rfl ?_ |refine aU rfl ?_ |refine Aa ?_);refine aB ?_;refine aL (U:={k:Nat // k<=64}) [0] [] rfl rfl (λs=>[(4,eI .i64 s.1)]) (λs=>[]) 0 (λs=>64 - s.1) (⟨0,by omega⟩) a rfl (by (simp[cX,zC,a])) ?_;rintro⟨k,hk⟩;(try dsimp only[cA,cB]);(repeat first|refine tA rfl ?_ |refine s2 rfl λ_ b=>?_ |refine aU rfl ?_ |refine Aa ?_)
 ((refine aC rfl ?_ ?_<;>rintro⟨⟩);all_goals try (simp at b;done))
 ·have f:k < 64:=by (simp only[oZ] at *;omega)
  refine aK ?_;refine aS (aB ?_);(repeat first|refine tA rfl ?_ |refine aU rfl ?_);(refine pW rfl ?_ rfl (by rfl);refine Ae [] rfl rfl (DG (TB:=TB) (k:Int)) ⟨rfl,by decide,by decide⟩ rfl trivial ?_;rintro g c e ⟨r,h,rfl,rfl,rfl⟩ _);(repeat first|refine tA rfl ?_ |refine s2 rfl λ_ b=>?_ |refine Aa ?_);(refine aC rfl ?_ ?_<;>rintro⟨⟩)
  ·(repeat first|refine tA rfl ?_ |refine aU rfl ?_ |refine Aa ?_)
   refine aR ⟨_,rfl,[],.t [(false,[.d (iD k)]),(false,[.d (bD true)])],[],⟨by intro i hi;omega,by decide⟩,rfl,trivial,(k,true),trivial,rfl,rfl,rfl⟩
  ·refine aK ?_
   (repeat first|(refine sA rfl ?_ ?_;first|exact tI|omega) |refine aU rfl ?_ |refine Aa ?_);refine⟨⟨k+1,by omega⟩,by dsimp only;(omega),[],?_⟩;(simp[cX,zC,a,cN]<;>rfl)
 ·refine aE ?_
  (repeat first|refine tA rfl ?_ |refine aU rfl ?_ |refine Aa ?_);refine aR ⟨_,rfl,[],.t [(false,[.d (iD 0)]),(false,[.d (bD false)])],[],⟨by intro i hi;omega,by decide⟩,rfl,trivial,(0,false),trivial,rfl,rfl,rfl⟩
theorem Kj(a:W)(v:a.length<=1000000)(c:UInt8):Spec Tryz.prog TB 239 [] 0 [eT a,eI .u8 c.toNat] (CZ (λr:List W=>1<=r.length/\r.length<=a.length+1/\∀w∈r,w.length<=a.length) Bx):=by
  refine eR Tryz.func239 rfl (by kernel_rfl) rfl ?_;intro Γ b;(repeat first|refine tX rfl ?_ |refine aU rfl ?_ |refine Aa ?_);(refine pW rfl ?_ rfl (by rfl);refine Bg rfl rfl rfl rfl (by simp) (by rfl) (by rfl) (by rfl) (by rfl) ?_);(repeat first|refine tX rfl ?_ |refine aU rfl ?_ |refine Aa ?_);refine aB ?_;refine aL (U:={z:Nat×Nat×List W // z.1<=a.length+1/\z.2.1<=z.1/\z.2.2.length<=z.1/\(z.1=a.length+1->1<=z.2.2.length)/\∀w∈z.2.2,w.length<=a.length}) [0,1] [] rfl rfl (λs=>[(5,.o (.arr 0 1 0 s.1.2.2.length)),(6,eI .i64 s.1.2.1),(7,eI .i64 s.1.1)]) (λs=>[(0,.cells 9 1 (s.1.2.2.map AM))]) 1 (λs=>a.length+1 - s.1.1) (⟨⟨0,0,[]⟩,by simp⟩) b rfl (by (simp[cX,zC,b])) ?_;rintro⟨⟨k,fr,r⟩,hk,q,g,d,hw⟩;(try dsimp only[cA,cB]);have hk:k<=a.length+1:=hk;have q:fr<=k:=q;have g:r.length<=k:=g;have d:k=a.length+1->1<=r.length:=d;(repeat first|refine tA rfl ?_ |refine s2 rfl λ_ j=>?_ |refine aU rfl ?_ |refine Aa ?_)
  ((refine aC rfl ?_ ?_<;>rintro⟨⟩);all_goals try (simp at j;done))
  · have u:k<=a.length:=by (simp only[oZ] at *;omega)
    refine aK ?_;refine aS (aB ?_)
    have p:k=a.length\/∃e,a[(k:Int).toNat]? = some e:=by
      rcases lc k a.length with h|h
      · obtain⟨e,t⟩:=get_some (l:=a) (k:=(k:Int).toNat) (by omega)
        exact .inr ⟨e,t⟩
      · exact .inl (by omega)
    rcases p with p|⟨e,t⟩
    all_goals (repeat' first|refine tA rfl ?_ |(refine s4 rfl ‹_› rfl ?_ ?_;omega) |refine s2 rfl λ_ j=>?_|(refine Ag rfl ?_;refine gA rfl ?_;first| refine gS (λ_ _=>LU rfl rfl rfl (by simp [JS]) (by simp [JS,JQ];omega) (by simp [JQ];omega)) ?_) |refine s3 rfl ?_ ?_<;>rintro rfl |refine aU rfl ?_ |refine Aa ?_|(refine aC rfl ?_ ?_<;>rintro⟨⟩))
    all_goals first
      | (exfalso;(simp only[oZ] at *;omega);done)
      | (refine aK ?_
         (repeat first|(refine sA rfl ?_ ?_;first|exact tI|omega) |refine aU rfl ?_ |refine Aa ?_);refine⟨⟨⟨k+1,fr,r⟩,by dsimp only;omega,by dsimp only;omega,by dsimp only;omega,by dsimp only;intro x;exfalso;(simp only[oZ] at *;omega),hw⟩,by dsimp only;(omega),[0],?_⟩;(simp[cX,zC,b,cN]<;>rfl)
         done)
      | ((refine pW rfl ?_ rfl (by rfl);refine Aw rfl rfl rfl (by first| (simp;done)|(simp;(omega))) rfl (by intro r g;simp at g;subst g;rfl) (by rfl) (ce rfl) (by simp;omega) ?_)
         (repeat first|(refine sA rfl ?_ ?_;first|exact tI|omega) |refine aU rfl ?_ |refine Aa ?_)
         have m:∀w∈r++[(a.take k).drop fr],w.length<=a.length:=λw f=>by
           rcases em.1 f with f|f
           · exact hw w f
           · simp at f;subst f;simp;omega
         refine⟨⟨⟨k+1,k+1,r++[(a.take k).drop fr]⟩,by dsimp only;omega,by dsimp only;omega,by simp;omega,by simp,m⟩,by dsimp only;(omega),[1],?_⟩
         (simp[cX,zC,b,cN,JS,JQ]<;>rfl))
  · have n:k=a.length+1:=by (simp only[oZ] at *;omega)
    refine aE ?_;(repeat first|refine tA rfl ?_ |refine aU rfl ?_ |refine Aa ?_);refine Aj.settle [(4,Bx r)] ⟨⟨_,rfl,.o (.full rfl (by simp [d4]) (by simp))⟩,trivial⟩ ?_;refine aR ⟨_,rfl,[],Bx r,[],⟨by intro i hi;omega,by decide⟩,rfl,trivial,r,⟨d n,by omega,hw⟩,rfl,rfl,rfl⟩
abbrev WS(r:Int×Bool):E:=.t [(false,[.d (iD r.1)]),(false,[.d (bD r.2)])]
theorem Xs{z:Int}(h:0<=z/\z < 256):[[D.v (.int .u8 z)]]=[UInt8.ofNat z.toNat].map fM:=by
 have b:z.toNat % 256=z.toNat:=kW (by omega)
 have a:((z.toNat:Nat):Int)=z:=by omega
 simp [fM,b,a]
theorem Gx(n:Int)(h:0<=n/\n < 100):Spec Tryz.prog TB 281 [] 0 [eI .i64 n] (CZ (λr:W=>r.length<=3) eT):=by
 refine eR Tryz.func281 rfl (by kernel_rfl) rfl ?_;intro Γ b;(repeat first|refine tA rfl ?_ |refine s2 rfl λ_ a=>?_ |refine aU rfl ?_ |refine Aa ?_)
 ((refine aC rfl ?_ ?_<;>rintro⟨⟩);all_goals try (simp at a;done))
 ·exfalso;(simp only[oZ] at *;omega)
 refine aK ?_;(repeat first|refine tA rfl ?_ |refine s2 rfl λ_ a=>?_ |refine aU rfl ?_ |refine Aa ?_)
 ((refine aC rfl ?_ ?_<;>rintro⟨⟩);all_goals try (simp at a;done))
 ·exfalso;(simp only[oZ] at *;omega)
 refine aK ?_;(repeat first|refine tA rfl ?_ |refine aU rfl ?_ |refine Aa ?_);refine aB ?_;refine aL (U:={s:Int×W // (0<=s.1/\s.1 < 100)/\s.2.length<=2/\(9 < s.1->s.2.length<=1)}) [] [] rfl rfl (λs=>[(0,eI .i64 s.1.1),(3,eT s.1.2)]) (λs=>[]) 0 (λs=>s.1.1.toNat) (⟨⟨n,[]⟩,by simp;omega⟩) b rfl (by (simp[cX,zC,b])) ?_;rintro⟨⟨q,w⟩,e,hw,c⟩;(try dsimp only[cA,cB]);have e:0<=q/\q < 100:=e;have hw:w.length<=2:=hw;have c:9 < q->w.length<=1:=c;(repeat first|refine tA rfl ?_ |refine s2 rfl λ_ a=>?_ |refine aU rfl ?_ |refine Aa ?_)
 ((refine aC rfl ?_ ?_<;>rintro⟨⟩);all_goals try (simp at a;done))
 ·have d:9 < q:=by (simp only[oZ] at *;omega)
  have f:=c d;refine aK ?_;refine aB ?_;(repeat first|(refine sA rfl ?_ ?_;first|exact tI|omega|simp only[oZ] at *;omega)|(refine Ag rfl ?_;refine gA rfl ?_;first| refine gS (λ_ _=>PG _ rfl (Xs (by omega))) ?_) |refine aU rfl ?_ |refine Aa ?_);refine⟨⟨⟨q / 10,[UInt8.ofNat (48+q % 10).toNat]++w⟩,⟨by dsimp only;omega,by dsimp only;omega⟩,by simp;omega,λg=>by exfalso;dsimp only at g;omega⟩,by dsimp only;(omega),[],?_⟩;(simp[cX,zC,b,cN]<;>rfl)
 ·refine aE ?_
  (repeat first|(refine sA rfl ?_ ?_;first|exact tI|omega|simp only[oZ] at *;omega)|(refine Ag rfl ?_;refine gA rfl ?_;first| refine gS (λ_ _=>PG _ rfl (Xs (by omega))) ?_) |refine aU rfl ?_ |refine Aa ?_);refine aR ⟨_,rfl,[],eT ([UInt8.ofNat (48+q).toNat]++w),[],⟨by intro i hi;omega,by decide⟩,rfl,trivial,[UInt8.ofNat (48+q).toNat]++w,by simp;omega,rfl,rfl,rfl⟩
theorem JI(k:Nat)(hk:k < 17):(10 ^ (k+1):Nat)=10 ^ k*10/\(10 ^ k:Nat)<=100000000000000000:=⟨nw ..,i9 (lC (by omega) (Nat.le_of_lt hk)) (by decide)⟩
theorem HV(s0:W)(z:s0.length<=1000000):Spec Tryz.prog TB 241 [] 0 [eT s0] (CZ (λ_:Int×Bool=>True) WS):=by
  by_cases y:s0.length=0
  · refine eR Tryz.func241 rfl (by kernel_rfl) rfl ?_;intro Γ a
    (repeat' first|refine tA rfl ?_ |refine s2 rfl λ_ b=>?_|(refine Ag rfl ?_;refine gA rfl ?_;first| refine gS (λ_ _=>ER rfl rfl (by omega) (by omega)) ?_) |refine s3 rfl ?_ ?_<;>rintro rfl |refine aU rfl ?_ |refine Aa ?_|(refine aC rfl ?_ ?_<;>rintro⟨⟩)|refine aK ?_)
    all_goals first
      | (exfalso;(simp only[oZ] at *;omega);done)
      | refine aR ⟨_,rfl,[],WS (0,false),[],⟨by intro i hi;omega,by decide⟩,rfl,trivial,(0,false),trivial,rfl,rfl,rfl⟩
  obtain⟨c,A⟩:=get_some (l:=s0) (k:=(0:Int).toNat) (by simp;omega);have w:1 < s0.length->∃d,(s0.drop (Int.toNat 1))[(0:Int).toNat]? = some d:=λh=>get_some (by simp;omega);have o:∀m:Nat,(s0.drop m).length=s0.length - m:=λm=>List.length_drop;by_cases x:s0.length=1
  · refine eR Tryz.func241 rfl (by kernel_rfl) rfl ?_;intro Γ a
    (repeat' first|refine tA rfl ?_ |(refine s4 rfl ‹_› rfl ?_ ?_;omega) |refine s2 rfl λ_ b=>?_|(refine Ag rfl ?_;refine gA rfl ?_;first| refine gS (λ_ _=>ER rfl rfl (by omega) (by omega)) ?_) |refine s3 rfl ?_ ?_<;>rintro rfl |refine aU rfl ?_ |refine Aa ?_|(refine aC rfl ?_ ?_<;>rintro⟨⟩)|refine aK ?_)
    all_goals first
      | (exfalso;(simp only[oZ] at *;omega);done)
      | refine aR ⟨_,rfl,[],WS (0,false),[],⟨by intro i hi;omega,by decide⟩,rfl,trivial,(0,false),trivial,rfl,rfl,rfl⟩
      | (exfalso;simp only [oZ,o] at *;omega)
      | skip
    · have g:(s0).length<=17:=by omega
      refine aB ?_;refine aL (U:={s:Nat×Int // s.1<=(s0).length/\0<=s.2/\s.2 < ((10 ^ s.1:Nat):Int)}) [0,4] [] rfl rfl (λs=>[(5,eI .i64 s.1.2),(6,eI .i64 s.1.1)]) (λs=>[]) 0 (λs=>(s0).length - s.1.1) (⟨⟨0,0⟩,by simp⟩) a rfl (by (simp[cX,zC,a])) ?_;rintro⟨⟨k,n⟩,hk,f,j⟩;(try dsimp only[cA,cB]);have hk:k<=(s0).length:=hk;have f:0<=n:=f;have j:n < ((10 ^ k:Nat):Int):=j;(repeat first|refine tA rfl ?_ |refine s2 rfl λ_ b=>?_ |refine aU rfl ?_ |refine Aa ?_)
      ((refine aC rfl ?_ ?_<;>rintro⟨⟩);all_goals try (simp at b;done))
      · have q:k < (s0).length:=by (simp only[oZ] at *;omega)
        obtain⟨e,u⟩:=get_some (l:=s0) (k:=(k:Int).toNat) (by omega);have r:=e.toNat_lt;obtain⟨p,t⟩:=JI k (by omega);refine aK ?_;refine aS (aB ?_);(repeat' first|(refine sA rfl ?_ ?_;first|exact tI|omega|simp only[oZ] at *;omega) |(refine s4 rfl ‹_› rfl ?_ ?_;omega) |refine s2 rfl λ_ b=>?_|(refine Ag rfl ?_;refine gA rfl ?_;first| refine gS (λ_ _=>ER rfl rfl (by omega) (by omega)) ?_) |refine s3 rfl ?_ ?_<;>rintro rfl |refine aU rfl ?_ |refine Aa ?_|(refine aC rfl ?_ ?_<;>rintro⟨⟩)|refine aK ?_)
        all_goals first
          | (exfalso;omega;done)
          | refine aR ⟨_,rfl,[],WS (0,false),[],⟨by intro i hi;omega,by decide⟩,rfl,trivial,(0,false),trivial,rfl,rfl,rfl⟩
          | (refine⟨⟨⟨k+1,n*10+((e.toNat:Int) - 48)⟩,by dsimp only;omega,by dsimp only;(simp only[oZ] at *;omega),by dsimp only;rw [p];(simp only[oZ] at *;omega)⟩,by dsimp only;(omega),[],?_⟩
             (simp[cX,zC,a,cN]<;>rfl))
      · refine aE ?_
        have v:(10 ^ k:Nat)<=100000000000000000:=i9 (lC (by omega) (i9 hk g)) (by decide);(repeat' first|refine tA rfl ?_|(refine Ag rfl ?_;refine gA rfl ?_;first| refine gS (λ_ _=>Rv rfl (IntWalk.i64_in _ (by omega))) ?_) |refine aU rfl ?_ |refine Aa ?_|(refine aC rfl ?_ ?_<;>rintro⟨⟩)|refine aK ?_);exact aR ⟨_,rfl,[],WS (n,true),[],⟨λi hi=>absurd hi (i8 i),jp⟩,rfl,trivial,(n,true),trivial,rfl,rfl,rfl⟩
    · have g:(s0).length<=17:=by omega
      refine aB ?_;refine aL (U:={s:Nat×Int // s.1<=(s0).length/\0<=s.2/\s.2 < ((10 ^ s.1:Nat):Int)}) [0,4] [] rfl rfl (λs=>[(5,eI .i64 s.1.2),(6,eI .i64 s.1.1)]) (λs=>[]) 0 (λs=>(s0).length - s.1.1) (⟨⟨0,0⟩,by simp⟩) a rfl (by (simp[cX,zC,a])) ?_;rintro⟨⟨k,n⟩,hk,f,j⟩;(try dsimp only[cA,cB]);have hk:k<=(s0).length:=hk;have f:0<=n:=f;have j:n < ((10 ^ k:Nat):Int):=j;(repeat first|refine tA rfl ?_ |refine s2 rfl λ_ b=>?_ |refine aU rfl ?_ |refine Aa ?_)
      ((refine aC rfl ?_ ?_<;>rintro⟨⟩);all_goals try (simp at b;done))
      · have q:k < (s0).length:=by (simp only[oZ] at *;omega)
        obtain⟨e,u⟩:=get_some (l:=s0) (k:=(k:Int).toNat) (by omega);have r:=e.toNat_lt;obtain⟨p,t⟩:=JI k (by omega);refine aK ?_;refine aS (aB ?_);(repeat' first|(refine sA rfl ?_ ?_;first|exact tI|omega|simp only[oZ] at *;omega) |(refine s4 rfl ‹_› rfl ?_ ?_;omega) |refine s2 rfl λ_ b=>?_|(refine Ag rfl ?_;refine gA rfl ?_;first| refine gS (λ_ _=>ER rfl rfl (by omega) (by omega)) ?_) |refine s3 rfl ?_ ?_<;>rintro rfl |refine aU rfl ?_ |refine Aa ?_|(refine aC rfl ?_ ?_<;>rintro⟨⟩)|refine aK ?_)
        all_goals first
          | (exfalso;omega;done)
          | refine aR ⟨_,rfl,[],WS (0,false),[],⟨by intro i hi;omega,by decide⟩,rfl,trivial,(0,false),trivial,rfl,rfl,rfl⟩
          | (refine⟨⟨⟨k+1,n*10+((e.toNat:Int) - 48)⟩,by dsimp only;omega,by dsimp only;(simp only[oZ] at *;omega),by dsimp only;rw [p];(simp only[oZ] at *;omega)⟩,by dsimp only;(omega),[],?_⟩
             (simp[cX,zC,a,cN]<;>rfl))
      · refine aE ?_
        have v:(10 ^ k:Nat)<=100000000000000000:=i9 (lC (by omega) (i9 hk g)) (by decide);(repeat' first|refine tA rfl ?_|(refine Ag rfl ?_;refine gA rfl ?_;first| refine gS (λ_ _=>Rv rfl (IntWalk.i64_in _ (by omega))) ?_) |refine aU rfl ?_ |refine Aa ?_|(refine aC rfl ?_ ?_<;>rintro⟨⟩)|refine aK ?_);exact aR ⟨_,rfl,[],WS (n,true),[],⟨λi hi=>absurd hi (i8 i),jp⟩,rfl,trivial,(n,true),trivial,rfl,rfl,rfl⟩
  obtain⟨d,w⟩:=w (by omega);refine eR Tryz.func241 rfl (by kernel_rfl) rfl ?_;intro Γ a;(repeat' first|refine tA rfl ?_ |(refine s4 rfl ‹_› rfl ?_ ?_;omega) |refine s2 rfl λ_ b=>?_|(refine Ag rfl ?_;refine gA rfl ?_;first| refine gS (λ_ _=>ER rfl rfl (by omega) (by omega)) ?_) |refine s3 rfl ?_ ?_<;>rintro rfl |refine aU rfl ?_ |refine Aa ?_|(refine aC rfl ?_ ?_<;>rintro⟨⟩)|refine aK ?_)
  all_goals first
    | (exfalso;(simp only[oZ] at *;omega);done)
    | refine aR ⟨_,rfl,[],WS (0,false),[],⟨by intro i hi;omega,by decide⟩,rfl,trivial,(0,false),trivial,rfl,rfl,rfl⟩
    | (exfalso;simp only [oZ,o] at *;omega)
    | skip
  · have g:(List.drop (Int.toNat 1) s0).length<=17:=by (simp only[oZ] at *;omega)
    refine aB ?_;refine aL (U:={s:Nat×Int // s.1<=(List.drop (Int.toNat 1) s0).length/\0<=s.2/\s.2 < ((10 ^ s.1:Nat):Int)}) [0,4] [] rfl rfl (λs=>[(5,eI .i64 s.1.2),(6,eI .i64 s.1.1)]) (λs=>[]) 0 (λs=>(List.drop (Int.toNat 1) s0).length - s.1.1) (⟨⟨0,0⟩,by simp⟩) a rfl (by (simp[cX,zC,a])) ?_;rintro⟨⟨k,n⟩,hk,f,j⟩;(try dsimp only[cA,cB]);have hk:k<=(List.drop (Int.toNat 1) s0).length:=hk;have f:0<=n:=f;have j:n < ((10 ^ k:Nat):Int):=j;(repeat first|refine tA rfl ?_ |refine s2 rfl λ_ b=>?_ |refine aU rfl ?_ |refine Aa ?_)
    ((refine aC rfl ?_ ?_<;>rintro⟨⟩);all_goals try (simp at b;done))
    · have q:k < (List.drop (Int.toNat 1) s0).length:=by (simp only[oZ] at *;omega)
      obtain⟨e,u⟩:=get_some (l:=List.drop (Int.toNat 1) s0) (k:=(k:Int).toNat) (by omega);have r:=e.toNat_lt;obtain⟨p,t⟩:=JI k (by omega);refine aK ?_;refine aS (aB ?_);(repeat' first|(refine sA rfl ?_ ?_;first|exact tI|omega|simp only[oZ] at *;omega) |(refine s4 rfl ‹_› rfl ?_ ?_;omega) |refine s2 rfl λ_ b=>?_|(refine Ag rfl ?_;refine gA rfl ?_;first| refine gS (λ_ _=>ER rfl rfl (by omega) (by omega)) ?_) |refine s3 rfl ?_ ?_<;>rintro rfl |refine aU rfl ?_ |refine Aa ?_|(refine aC rfl ?_ ?_<;>rintro⟨⟩)|refine aK ?_)
      all_goals first
        | (exfalso;omega;done)
        | refine aR ⟨_,rfl,[],WS (0,false),[],⟨by intro i hi;omega,by decide⟩,rfl,trivial,(0,false),trivial,rfl,rfl,rfl⟩
        | (refine⟨⟨⟨k+1,n*10+((e.toNat:Int) - 48)⟩,by dsimp only;omega,by dsimp only;(simp only[oZ] at *;omega),by dsimp only;rw [p];(simp only[oZ] at *;omega)⟩,by dsimp only;(omega),[],?_⟩
           (simp[cX,zC,a,cN]<;>rfl))
    · refine aE ?_
      have v:(10 ^ k:Nat)<=100000000000000000:=i9 (lC (by omega) (i9 hk g)) (by decide);(repeat' first|refine tA rfl ?_|(refine Ag rfl ?_;refine gA rfl ?_;first| refine gS (λ_ _=>Rv rfl (IntWalk.i64_in _ (by omega))) ?_) |refine aU rfl ?_ |refine Aa ?_|(refine aC rfl ?_ ?_<;>rintro⟨⟩)|refine aK ?_);exact aR ⟨_,rfl,[],WS (-n,true),[],⟨λi hi=>absurd hi (i8 i),jp⟩,rfl,trivial,(-n,true),trivial,rfl,rfl,rfl⟩
  · have g:(s0).length<=17:=by (simp only[oZ] at *;omega)
    refine aB ?_;refine aL (U:={s:Nat×Int // s.1<=(s0).length/\0<=s.2/\s.2 < ((10 ^ s.1:Nat):Int)}) [0,4] [] rfl rfl (λs=>[(5,eI .i64 s.1.2),(6,eI .i64 s.1.1)]) (λs=>[]) 0 (λs=>(s0).length - s.1.1) (⟨⟨0,0⟩,by simp⟩) a rfl (by (simp[cX,zC,a])) ?_;rintro⟨⟨k,n⟩,hk,f,j⟩;(try dsimp only[cA,cB]);have hk:k<=(s0).length:=hk;have f:0<=n:=f;have j:n < ((10 ^ k:Nat):Int):=j;(repeat first|refine tA rfl ?_ |refine s2 rfl λ_ b=>?_ |refine aU rfl ?_ |refine Aa ?_)
    ((refine aC rfl ?_ ?_<;>rintro⟨⟩);all_goals try (simp at b;done))
    · have q:k < (s0).length:=by (simp only[oZ] at *;omega)
      obtain⟨e,u⟩:=get_some (l:=s0) (k:=(k:Int).toNat) (by omega);have r:=e.toNat_lt;obtain⟨p,t⟩:=JI k (by omega);refine aK ?_;refine aS (aB ?_);(repeat' first|(refine sA rfl ?_ ?_;first|exact tI|omega|simp only[oZ] at *;omega) |(refine s4 rfl ‹_› rfl ?_ ?_;omega) |refine s2 rfl λ_ b=>?_|(refine Ag rfl ?_;refine gA rfl ?_;first| refine gS (λ_ _=>ER rfl rfl (by omega) (by omega)) ?_) |refine s3 rfl ?_ ?_<;>rintro rfl |refine aU rfl ?_ |refine Aa ?_|(refine aC rfl ?_ ?_<;>rintro⟨⟩)|refine aK ?_)
      all_goals first
        | (exfalso;omega;done)
        | refine aR ⟨_,rfl,[],WS (0,false),[],⟨by intro i hi;omega,by decide⟩,rfl,trivial,(0,false),trivial,rfl,rfl,rfl⟩
        | (refine⟨⟨⟨k+1,n*10+((e.toNat:Int) - 48)⟩,by dsimp only;omega,by dsimp only;(simp only[oZ] at *;omega),by dsimp only;rw [p];(simp only[oZ] at *;omega)⟩,by dsimp only;(omega),[],?_⟩
           (simp[cX,zC,a,cN]<;>rfl))
    · refine aE ?_
      have v:(10 ^ k:Nat)<=100000000000000000:=i9 (lC (by omega) (i9 hk g)) (by decide);(repeat' first|refine tA rfl ?_|(refine Ag rfl ?_;refine gA rfl ?_;first| refine gS (λ_ _=>Rv rfl (IntWalk.i64_in _ (by omega))) ?_) |refine aU rfl ?_ |refine Aa ?_|(refine aC rfl ?_ ?_<;>rintro⟨⟩)|refine aK ?_);exact aR ⟨_,rfl,[],WS (n,true),[],⟨λi hi=>absurd hi (i8 i),jp⟩,rfl,trivial,(n,true),trivial,rfl,rfl,rfl⟩
abbrev iM(r:List Int×Bool):E:=.t [(false,[.d (EK r.1)]),(false,[.d (bD r.2)])]
theorem SI(e:W)(u:e.length<=1000000):Spec Tryz.prog TB 244 [] 0 [eT e] (CZ (λr:List Int×Bool=>r.1.length<=e.length+1) iM):=by
 refine eR Tryz.func244 rfl (by kernel_rfl) rfl ?_;intro Γ a;(repeat first|refine tX rfl ?_ |refine aU rfl ?_ |refine Aa ?_);(refine pW rfl ?_ rfl (by rfl);refine Bg rfl rfl rfl rfl (by simp) (by rfl) (by rfl) (by rfl) (by rfl) ?_);(repeat first|refine tX rfl ?_ |refine s2 rfl λ_ b=>?_ |refine aU rfl ?_ |refine Aa ?_);(refine aC rfl ?_ ?_<;>rintro⟨⟩)
 ·(repeat first|refine tX rfl ?_ |refine aU rfl ?_ |refine Aa ?_)
  refine Aj.settle [(2,AW []),(3,eB true)] ⟨⟨_,rfl,.o (.full rfl (by simp) (by simp))⟩,⟨_,rfl,.o .d⟩,trivial⟩ ?_;exact aR ⟨_,rfl,[],iM ([],true),[],⟨λi hi=>absurd hi (i8 i),jp⟩,rfl,trivial,([],true),k9 _,rfl,rfl,rfl⟩
 refine aK ?_;(repeat first|refine tA rfl ?_ |refine aU rfl ?_);(refine pW rfl ?_ rfl (by rfl);refine Ae [] rfl rfl (Kj (TB:=TB) e u 44) ⟨rfl,by decide,by decide⟩ rfl trivial ?_;rintro p f h ⟨ps,⟨x,v,j⟩,rfl,rfl,rfl⟩ _);(repeat first|refine tA rfl ?_ |refine aU rfl ?_ |refine Aa ?_);refine aB ?_;refine aL (U:={z:Nat×List Int // z.1<=ps.length/\z.2.length=z.1}) [5] [] rfl rfl (λs=>[(4,.o (.arr 0 1 0 s.1.2.length)),(6,eI .i64 s.1.1)]) (λs=>[(0,.cells 3 1 (s.1.2.map AE))]) 1 (λs=>ps.length - s.1.1) (⟨⟨0,[]⟩,by simp⟩) a rfl (by (simp[cX,zC,a])) ?_;rintro⟨⟨k,r⟩,hk,c⟩;(try dsimp only[cA,cB]);have hk:k<=ps.length:=hk;have c:r.length=k:=c;(repeat first|refine sN rfl ?_ |refine tA rfl ?_ |refine s2 rfl λ_ b=>?_ |refine aU rfl ?_ |refine Aa ?_)
 ((refine aC rfl ?_ ?_<;>rintro⟨⟩);all_goals try (simp at b;done))
 ·have m:k < ps.length:=by (simp only[oZ] at *;omega)
  obtain⟨w,hw⟩:=get_some (l:=ps) (k:=k) m;have t:=get_map (g:=BU) hw;have q:=j w (co hw);refine aK ?_;refine aS (aB ?_);(repeat first|refine tA rfl ?_ |(refine s4 rfl ‹_› rfl ?_ ?_;omega) |refine aU rfl ?_);(refine pW rfl ?_ rfl (by rfl);refine Ae [] rfl rfl (HV (TB:=TB) w (by omega)) ⟨rfl,by decide,by decide⟩ rfl trivial ?_;rintro p f h ⟨⟨n,ok⟩,_,rfl,rfl,rfl⟩ _);(repeat first|refine tA rfl ?_ |refine s2 rfl λ_ b=>?_ |refine aU rfl ?_ |refine Aa ?_);(refine aC rfl ?_ ?_<;>rintro⟨⟩)
  ·(repeat first|refine tA rfl ?_ |refine aU rfl ?_ |refine Aa ?_)
   exact aR ⟨_,rfl,[],iM ([],false),[],⟨λi hi=>absurd hi (i8 i),jp⟩,rfl,trivial,([],false),k9 _,rfl,rfl,rfl⟩
  refine aK ?_;(repeat first|refine tA rfl ?_ |refine aU rfl ?_);(refine pW rfl ?_ rfl (by rfl);refine Aw rfl rfl rfl (by first| (simp;done)|(simp;(omega))) rfl (by intro r c;simp at c;subst c;rfl) (by rfl) (ce rfl) (by simp;omega) ?_);(repeat first|(refine sA rfl ?_ ?_;first|exact tI|omega) |refine aU rfl ?_ |refine Aa ?_);refine⟨⟨⟨k+1,r++[n]⟩,by dsimp only;omega,by simp;omega⟩,by dsimp only;(omega),[1],?_⟩;(simp[cX,zC,a,cN]<;>rfl)
 ·refine aE ?_
  (repeat first|refine tA rfl ?_ |refine aU rfl ?_ |refine Aa ?_);refine Aj.settle [(2,AW r),(3,eB true)] ⟨⟨_,rfl,.o (.full rfl (by simp [d4]) (by simp))⟩,⟨_,rfl,.o .d⟩,trivial⟩ ?_;exact aR ⟨_,rfl,[],iM (r,true),[],⟨λi hi=>absurd hi (i8 i),jp⟩,rfl,trivial,(r,true),by show r.length<=_;omega,rfl,rfl,rfl⟩
theorem EY(a:AY):Spec Tryz.prog TB 245 [] 0 [Bi a] (CZ (λr:W=>r.length<=1000) eT):=by
 refine eR Tryz.func245 rfl (by kernel_rfl) rfl ?_;intro Γ c;(repeat first|refine tA rfl ?_ |refine s2 rfl λ_ e=>?_ |(refine sC rfl (BJ a) ?_;intro _ e) |refine aU rfl ?_ |refine Aa ?_);(refine aC rfl ?_ ?_<;>rintro⟨⟩)
 ·(repeat first|refine tA rfl ?_ |refine aU rfl ?_ |refine Aa ?_)
  exact aR ⟨_,rfl,[],eT [],[],⟨λi hi=>absurd hi (i8 i),jp⟩,rfl,trivial,[],k9 _,rfl,rfl,rfl⟩
 have u:AL a=true:=by (simp at e;subst e;assumption)
 obtain⟨_,N,M,R⟩:=Ax u;have P:(Ac a.al).length<=6:=AK a.al 6;refine aK ?_;(repeat first|refine tA rfl ?_ |refine aU rfl ?_);(refine pW rfl ?_ rfl (by rfl);refine Ae [] rfl rfl (DG (TB:=TB) a.al) ⟨rfl,by decide,by decide⟩ rfl trivial ?_;rintro A h m ⟨J,K,rfl,rfl,rfl⟩ _);(repeat first|refine tA rfl ?_ |refine aU rfl ?_ |refine Aa ?_);refine aB ?_;refine aL (U:={z:Nat×W // z.1<=a.nx.length/\z.2.length<=6+30*z.1}) [1] [] rfl rfl (λs=>[(3,eT s.1.2),(4,eI .i64 s.1.1)]) (λs=>[]) 0 (λs=>a.nx.length - s.1.1) (⟨⟨0,J⟩,by simp;omega⟩) c rfl (by (simp[cX,zC,c])) ?_;rintro⟨⟨k,w⟩,hk,hw⟩;(try dsimp only[cA,cB]);have hk:k<=a.nx.length:=hk;have hw:w.length<=6+30*k:=hw;(repeat first|refine sN rfl ?_ |refine tA rfl ?_ |refine s2 rfl λ_ e=>?_ |refine aU rfl ?_ |refine Aa ?_)
 ((refine aC rfl ?_ ?_<;>rintro⟨⟩);all_goals try (simp at e;done))
 ·have H:k < a.nx.length:=by (simp only[oZ] at *;omega)
  obtain⟨row,t,L,q⟩:=HP u H;have G:=get_map (g:=λr:List Int=>[EK r]) t;obtain⟨b,hb⟩:=get_some (l:=a.ac) (k:=k) (by omega);have Q:=get_map (g:=IB) hb;refine aK ?_;refine aS (aB ?_);(repeat first|refine tA rfl ?_ |(refine s4 rfl ‹_› rfl ?_ ?_;omega) |refine aU rfl ?_ |refine Aa ?_);(refine aC rfl ?_ ?_<;>rintro⟨⟩)
  ·(repeat first|(refine sA rfl ?_ ?_;first|exact tI|simp only[oZ] at *;omega) |refine aU rfl ?_ |refine Aa ?_)
   refine aB ?_;refine aL (U:={z:Nat×W // z.1<=row.length/\z.2.length<=8+30*k+4*z.1}) [1,4] [] rfl rfl (λs=>[(3,eT s.1.2),(6,eI .i64 s.1.1)]) (λs=>[]) 0 (λs=>row.length - s.1.1) (⟨⟨0,w++[32,43]⟩,by dsimp only;omega,by simp;omega⟩) c rfl (by (simp[cX,zC,c])) ?_;rintro⟨⟨j,v⟩,y,p⟩;(try dsimp only[cA,cB]);have y:j<=row.length:=y;have p:v.length<=8+30*k+4*j:=p;(repeat first|refine sN rfl ?_ |refine tA rfl ?_ |(refine s4 rfl ‹_› rfl ?_ ?_;omega) |refine s2 rfl λ_ e=>?_ |refine aU rfl ?_ |refine Aa ?_)
   ((refine aC rfl ?_ ?_<;>rintro⟨⟩);all_goals try (simp at e;done))
   ·have n:j < row.length:=by (simp only[oZ] at *;omega)
    obtain⟨x,o⟩:=get_some (l:=row) (k:=j) n;have F:=get_map (g:=CN) o;have B:=q j x o;have f:=Gx (TB:=TB) x (by omega);refine aK ?_;refine aS (aB ?_);(repeat first|refine tA rfl ?_ |refine s2 rfl λ_ e=>?_ |refine aU rfl ?_ |refine Aa ?_);(refine aC rfl ?_ ?_<;>rintro⟨⟩)
    ·(repeat first|(refine sA rfl ?_ ?_;first|exact tI|simp only[oZ] at *;omega) |(refine s4 rfl ‹_› rfl ?_ ?_;omega) |refine aU rfl ?_ |refine Aa ?_)
     (refine pW rfl ?_ rfl (by rfl);refine Ae [] rfl rfl (f) ⟨rfl,by decide,by decide⟩ rfl trivial ?_;rintro A h m ⟨d,I,rfl,rfl,rfl⟩ _);(repeat first|(refine sA rfl ?_ ?_;first|exact tI|omega|simp only[oZ] at *;omega) |refine aU rfl ?_ |refine Aa ?_);refine⟨⟨⟨j+1,v++[44]++d⟩,by dsimp only;omega,by simp;omega⟩,by dsimp only;(omega),[],?_⟩;(simp[cX,zC,c,cN]<;>rfl)
    ·refine aK ?_
     (repeat first|refine tA rfl ?_ |(refine s4 rfl ‹_› rfl ?_ ?_;omega) |refine aU rfl ?_);(refine pW rfl ?_ rfl (by rfl);refine Ae [] rfl rfl (f) ⟨rfl,by decide,by decide⟩ rfl trivial ?_;rintro A h m ⟨d,I,rfl,rfl,rfl⟩ _);(repeat first|(refine sA rfl ?_ ?_;first|exact tI|omega) |refine aU rfl ?_ |refine Aa ?_);refine⟨⟨⟨j+1,v++d⟩,by dsimp only;omega,by simp;omega⟩,by dsimp only;(omega),[],?_⟩;(simp[cX,zC,c,cN]<;>rfl)
   ·refine aE ?_
    (repeat first|(refine sA rfl ?_ ?_;first|exact tI|omega) |refine aU rfl ?_ |refine Aa ?_);refine⟨⟨⟨k+1,v⟩,by dsimp only;omega,by dsimp only;omega⟩,by dsimp only;(omega),[],?_⟩;(simp[cX,zC,c,cN]<;>rfl)
  ·refine aK ?_
   (repeat first|(refine sA rfl ?_ ?_;first|exact tI|simp only[oZ] at *;omega) |refine aU rfl ?_ |refine Aa ?_);refine aB ?_;refine aL (U:={z:Nat×W // z.1<=row.length/\z.2.length<=8+30*k+4*z.1}) [1,4] [] rfl rfl (λs=>[(3,eT s.1.2),(6,eI .i64 s.1.1)]) (λs=>[]) 0 (λs=>row.length - s.1.1) (⟨⟨0,w++[32,45]⟩,by dsimp only;omega,by simp;omega⟩) c rfl (by (simp[cX,zC,c])) ?_;rintro⟨⟨j,v⟩,y,p⟩;(try dsimp only[cA,cB]);have y:j<=row.length:=y;have p:v.length<=8+30*k+4*j:=p;(repeat first|refine sN rfl ?_ |refine tA rfl ?_ |(refine s4 rfl ‹_› rfl ?_ ?_;omega) |refine s2 rfl λ_ e=>?_ |refine aU rfl ?_ |refine Aa ?_)
   ((refine aC rfl ?_ ?_<;>rintro⟨⟩);all_goals try (simp at e;done))
   ·have n:j < row.length:=by (simp only[oZ] at *;omega)
    obtain⟨x,o⟩:=get_some (l:=row) (k:=j) n;have F:=get_map (g:=CN) o;have B:=q j x o;have f:=Gx (TB:=TB) x (by omega);refine aK ?_;refine aS (aB ?_);(repeat first|refine tA rfl ?_ |refine s2 rfl λ_ e=>?_ |refine aU rfl ?_ |refine Aa ?_);(refine aC rfl ?_ ?_<;>rintro⟨⟩)
    ·(repeat first|(refine sA rfl ?_ ?_;first|exact tI|simp only[oZ] at *;omega) |(refine s4 rfl ‹_› rfl ?_ ?_;omega) |refine aU rfl ?_ |refine Aa ?_)
     (refine pW rfl ?_ rfl (by rfl);refine Ae [] rfl rfl (f) ⟨rfl,by decide,by decide⟩ rfl trivial ?_;rintro A h m ⟨d,I,rfl,rfl,rfl⟩ _);(repeat first|(refine sA rfl ?_ ?_;first|exact tI|omega|simp only[oZ] at *;omega) |refine aU rfl ?_ |refine Aa ?_);refine⟨⟨⟨j+1,v++[44]++d⟩,by dsimp only;omega,by simp;omega⟩,by dsimp only;(omega),[],?_⟩;(simp[cX,zC,c,cN]<;>rfl)
    ·refine aK ?_
     (repeat first|refine tA rfl ?_ |(refine s4 rfl ‹_› rfl ?_ ?_;omega) |refine aU rfl ?_);(refine pW rfl ?_ rfl (by rfl);refine Ae [] rfl rfl (f) ⟨rfl,by decide,by decide⟩ rfl trivial ?_;rintro A h m ⟨d,I,rfl,rfl,rfl⟩ _);(repeat first|(refine sA rfl ?_ ?_;first|exact tI|omega) |refine aU rfl ?_ |refine Aa ?_);refine⟨⟨⟨j+1,v++d⟩,by dsimp only;omega,by simp;omega⟩,by dsimp only;(omega),[],?_⟩;(simp[cX,zC,c,cN]<;>rfl)
   ·refine aE ?_
    (repeat first|(refine sA rfl ?_ ?_;first|exact tI|omega) |refine aU rfl ?_ |refine Aa ?_);refine⟨⟨⟨k+1,v⟩,by dsimp only;omega,by dsimp only;omega⟩,by dsimp only;(omega),[],?_⟩;(simp[cX,zC,c,cN]<;>rfl)
 ·refine aE ?_
  (repeat first|refine tA rfl ?_ |refine aU rfl ?_ |refine Aa ?_);exact aR ⟨_,rfl,[],eT w,[],⟨λi hi=>absurd hi (i8 i),jp⟩,rfl,trivial,w,by show w.length<=_;omega,rfl,rfl,rfl⟩
abbrev cy(r:AY×Bool):E:=.t [(true,[.d (iD r.1.al),.d (Da r.1.nx),.d (FK r.1.ac)]),(false,[.d (bD r.2)])]
def RA(n:Int):List (List Int)->List Bool->Ab
 | [],_=>[(1,.cells 29 3 [[.d (iD n),.d (.v (.slice none 0 0)),.d (.v (.slice none 0 0))]])]
 | r::l,ac=>[(1,.cells 29 3 [[.d (iD n),.arr 2 1 0 (l.length+1),.arr 3 1 0 ac.length]]),(2,.cells 53 1 ((r::l).map XR)),(3,.cells 4 1 (ac.map AP))]
theorem FG(m:W)(X:m.length<=10000):Spec Tryz.prog TB 184 [] 0 [eT m] (CZ (λr:AY×Bool=>Hf (m.length+1) r.1) cy):=by
 have f:Hf (m.length+1) ⟨0,[],[]⟩:=⟨k9 _,k9 _,λr b=>by cases b⟩
 refine eR Tryz.func184 rfl (by kernel_rfl) rfl ?_;intro Γ c;(repeat first|refine tA rfl ?_ |refine aU rfl ?_ |refine Aa ?_);(refine pW rfl ?_ rfl (by rfl);refine Ae [] rfl rfl (Kj (TB:=TB) m (by omega) 32) ⟨rfl,by decide,by decide⟩ rfl trivial ?_;rintro B j p ⟨ps,⟨R,Q,G⟩,rfl,rfl,rfl⟩ _);obtain⟨J,V⟩:=get_some (l:=ps) (k:=(0:Int).toNat) (by simp;omega);have T:=get_map (g:=BU) V;(repeat first|refine tA rfl ?_ |(refine s4 rfl ‹_› rfl ?_ ?_;omega) |refine aU rfl ?_ |refine Aa ?_);(refine pW rfl ?_ rfl (by rfl);refine Ae [] rfl rfl (Gi (TB:=TB) J) ⟨rfl,by decide,by decide⟩ rfl trivial ?_;rintro B j p ⟨⟨n,ok⟩,_,rfl,rfl,rfl⟩ _);(repeat first|refine tA rfl ?_ |refine s2 rfl λ_ a=>?_ |refine aU rfl ?_ |refine Aa ?_);(refine aC rfl ?_ ?_<;>rintro⟨⟩)
 ·(repeat first|refine tA rfl ?_|(refine Ag rfl ?_;refine gA rfl ?_;first| refine gS (λ_ _=>AG rfl rfl (by rfl) (by rfl)) ?_) |refine aU rfl ?_ |refine Aa ?_)
  exact aR ⟨_,rfl,[],cy (⟨0,[],[]⟩,false),[],⟨λi hi=>absurd hi (i8 i),jp⟩,rfl,trivial,(⟨0,[],[]⟩,false),f,rfl,rfl,rfl⟩
 refine aK ?_;by_cases P:ps.length=1
 ·(repeat first|refine tA rfl ?_|(refine Ag rfl ?_;refine gA rfl ?_;first| refine gS (λ_ _=>AG rfl rfl (by rfl) (by rfl)) ?_) |refine aU rfl ?_ |refine Aa ?_)
  refine aB ?_;refine aL (U:={k:Nat // k=1}) [0,3] [] rfl rfl (λs=>[(2,.o (.ptr 0 3 0 0)),(4,Bx ps),(7,.o (.ptr 1 3 0 0)),(8,eI .i64 s.1)]) (λs=>[(0,.cells 29 3 [[.d (iD 0),.d (.l []),.d (.l [])]]),(1,.cells 29 3 [[.d (iD n),.d (.l []),.d (.l [])]])]) 2 (λs=>0) (⟨1,rfl⟩) c rfl (by (simp[cX,zC,c,cN])) ?_;rintro⟨k,hk⟩;(try dsimp only[cA,cB]);(repeat first|refine sN rfl ?_ |refine tA rfl ?_ |refine s2 rfl λ_ a=>?_ |refine aU rfl ?_ |refine Aa ?_)
  ((refine aC rfl ?_ ?_<;>rintro⟨⟩);all_goals try (simp at a;done))
  ·exfalso;(simp only[oZ] at *;omega)
  refine aE ?_;(repeat first|refine tA rfl ?_ |refine aU rfl ?_);(refine pW rfl ?_ rfl (by rfl);refine Ae [] rfl rfl (EY (TB:=TB) ⟨n,[],[]⟩) ⟨rfl,by decide,by decide⟩ rfl trivial ?_;rintro B j p ⟨I,F,rfl,rfl,rfl⟩ _);(repeat first|refine tA rfl ?_ |refine s2 rfl λ_ a=>?_ |refine Aa ?_);(refine aC rfl ?_ ?_<;>rintro⟨⟩)
  ·(repeat first|refine tA rfl ?_|(refine Ag rfl ?_;refine gA rfl ?_;first| refine gS (λ_ _=>AG rfl rfl (by rfl) (by rfl)) ?_) |refine aU rfl ?_ |refine Aa ?_)
   exact aR ⟨_,rfl,[],cy (⟨0,[],[]⟩,false),[],⟨λi hi=>absurd hi (i8 i),jp⟩,rfl,trivial,(⟨0,[],[]⟩,false),f,rfl,rfl,rfl⟩
  refine aK ?_;(repeat first|refine tA rfl ?_ |refine aU rfl ?_ |refine Aa ?_);exact aR ⟨_,rfl,[],cy (⟨n,[],[]⟩,true),[],⟨λi hi=>absurd hi (i8 i),jp⟩,rfl,trivial,(⟨n,[],[]⟩,true),⟨k9 _,k9 _,λr b=>by cases b⟩,rfl,rfl,rfl⟩
 (repeat first|refine tA rfl ?_|(refine Ag rfl ?_;refine gA rfl ?_;first| refine gS (λ_ _=>MY rfl rfl (by rfl) (by rfl)) ?_) |refine aU rfl ?_ |refine Aa ?_);refine aB ?_;refine aL (U:={z:Nat×List (List Int)×List Bool // (1<=z.1/\z.1<=ps.length)/\z.2.1.length+1=z.1/\z.2.2.length+1=z.1/\∀r∈z.2.1,r.length<=m.length+1}) [0,3] [] rfl rfl (λs=>[(2,.o (.ptr 0 3 0 0)),(4,Bx ps),(7,.o (.ptr 1 3 0 0)),(8,eI .i64 s.1.1)]) (λs=>((0,.cells 29 3 [[.d (iD 0),.d (.l []),.d (.l [])]])::RA n s.1.2.1 s.1.2.2)) 4 (λs=>ps.length - s.1.1) (⟨⟨1,[],[]⟩,by simp;omega⟩) c rfl (by (simp[cX,zC,c,RA,cN])) ?_;rintro⟨⟨k,l,ac⟩,hk,q,A,b⟩;(try dsimp only[cA,cB]);have hk:1<=k/\k<=ps.length:=hk;have q:l.length+1=k:=q;have A:ac.length+1=k:=A;(repeat first|refine sN rfl ?_ |refine tA rfl ?_ |refine s2 rfl λ_ a=>?_ |refine aU rfl ?_ |refine Aa ?_)
 ((refine aC rfl ?_ ?_<;>rintro⟨⟩);all_goals try (simp at a;done))
 ·have H:k < ps.length:=by (simp only[oZ] at *;omega)
  obtain⟨w,hw⟩:=get_some (l:=ps) (k:=k) H;have N:=get_map (g:=BU) hw;have M:=G w (co hw);refine aK ?_;refine aS (aB ?_);(repeat first|refine tA rfl ?_ |(refine s4 rfl ‹_› rfl ?_ ?_;omega) |refine s2 rfl λ_ a=>?_ |refine aU rfl ?_ |refine Aa ?_);(refine aC rfl ?_ ?_<;>rintro⟨⟩)
  ·(repeat first|refine tA rfl ?_|(refine Ag rfl ?_;refine gA rfl ?_;first| refine gS (λ_ _=>AG rfl rfl (by rfl) (by rfl)) ?_) |refine aU rfl ?_ |refine Aa ?_)
   exact aR ⟨_,rfl,[],cy (⟨0,[],[]⟩,false),[],⟨λi hi=>absurd hi (i8 i),jp⟩,rfl,trivial,(⟨0,[],[]⟩,false),f,rfl,rfl,rfl⟩
  have L:0 < w.length:=by (simp at a;exact nf.2 a)
  obtain⟨e,Y⟩:=get_some (l:=w) (k:=(0:Int).toNat) (by simp;omega);refine aK ?_;(repeat first|refine tA rfl ?_ |(refine s4 rfl ‹_› rfl ?_ ?_;omega)|(refine Ag rfl ?_;refine gA rfl ?_;first| refine gS (λ_ _=>ER rfl rfl (by omega) (by omega)) ?_) |refine aU rfl ?_);(refine pW rfl ?_ rfl (by rfl);refine Ae [] rfl rfl (SI (TB:=TB) (w.drop (Int.toNat 1)) (by simp;omega)) ⟨rfl,by decide,by decide⟩ rfl trivial ?_;rintro B j p ⟨⟨r,K⟩,u,rfl,rfl,rfl⟩ _);have u:r.length<=m.length+1:=i9 u (by simp;omega);(repeat first|refine tA rfl ?_ |refine s2 rfl λ_ a=>?_ |refine aU rfl ?_ |refine Aa ?_);(refine aC rfl ?_ ?_<;>rintro⟨⟩)
  ·(repeat first|refine tA rfl ?_|(refine Ag rfl ?_;refine gA rfl ?_;first| refine gS (λ_ _=>AG rfl rfl (by rfl) (by rfl)) ?_) |refine aU rfl ?_ |refine Aa ?_)
   exact aR ⟨_,rfl,[],cy (⟨0,[],[]⟩,false),[],⟨λi hi=>absurd hi (i8 i),jp⟩,rfl,trivial,(⟨0,[],[]⟩,false),f,rfl,rfl,rfl⟩
  refine aK ?_
  have y:∀x∈l++[r],x.length<=m.length+1:=λx v=>by
   rcases em.1 v with v|v
   ·exact b x v
   ·simp at v;subst v;exact u
  cases l with
  | nil=>
   obtain rfl:ac=[]:=kJ.1 (by simp at q;omega);(repeat first|refine tA rfl ?_ |refine aU rfl ?_);(refine pW rfl ?_ rfl (by rfl);refine QW 50 rfl ?_;refine Df rfl rfl rfl (by intro r b;simp at b;subst b;rfl) (by rfl) (ce rfl) (by simp) (λh=>?_) (λ_=>?_))
   ·exact absurd h (by simp)
   (repeat first|refine tA rfl ?_);refine Aa ?_;refine rG (It [9,11]) (by kernel_rfl) ?_;(repeat first|refine tA rfl ?_ |(refine s4 rfl ‹_› rfl ?_ ?_;omega) |refine s2 rfl λ_ a=>?_);(refine pW rfl ?_ rfl (by rfl);refine QW 56 rfl ?_;refine Df rfl rfl rfl (by intro r b;simp at b;subst b;rfl) (by rfl) (ce rfl) (by simp) (λh=>?_) (λ_=>?_))
   ·exact absurd h (by simp)
   (repeat first|(refine sA rfl ?_ ?_;first|exact tI|omega) |refine aU rfl ?_ |refine Aa ?_);subst a;refine⟨⟨⟨k+1,[r],[decide ((e.toNat:Int)=43)]⟩,⟨by dsimp only;omega,by dsimp only;omega⟩,by simp at q;simp;omega,by simp at q;simp;omega,y⟩,by dsimp only;(omega),[0,1,4,5],?_⟩;(simp[cX,zC,c,cN,RA,Af,eC]<;>rfl)
  | cons t l=>
   (repeat first|refine tA rfl ?_ |refine aU rfl ?_);(refine pW rfl ?_ rfl (by rfl);refine Aw rfl rfl rfl (by first| (simp;done)|(simp;(omega))) rfl (by intro r b;simp at b;subst b;rfl) (by rfl) (ce rfl) (by simp at q |-;omega) ?_);(repeat first|refine tA rfl ?_);refine Aa ?_;refine Aj.Ak [0,3,8] [] rfl rfl [(2,.o (.ptr 0 3 0 0)),(4,Bx ps),(7,.o (.ptr 1 3 0 0))] [(0,.cells 29 3 [[.d (iD 0),.d (.l []),.d (.l [])]]),(1,.cells 29 3 [[.d (iD n),.arr 2 1 0 (l.length+1+1),.arr 3 1 0 ac.length]]),(2,.cells 53 1 ((t::(l++[r])).map XR)),(3,.cells 4 1 (ac.map AP))] [0,1,4,3] (rl c rfl) (by (simp[cX,zC,c,cN,RA,Af,eC])) ?_;(try dsimp only[cA,cB]);refine rG (It [9,11]) (by kernel_rfl) ?_;(repeat first|refine tA rfl ?_ |(refine s4 rfl ‹_› rfl ?_ ?_;omega) |refine s2 rfl λ_ a=>?_);(refine pW rfl ?_ rfl (by rfl);refine Aw rfl rfl rfl (by first| (simp;done)|(simp;(omega))) rfl (by intro r b;simp at b;subst b;rfl) (by rfl) (ce rfl) (by simp at q |-;omega) ?_);(repeat first|(refine sA rfl ?_ ?_;first|exact tI|omega) |refine aU rfl ?_ |refine Aa ?_);subst a;refine⟨⟨⟨k+1,t::(l++[r]),ac++[decide ((e.toNat:Int)=43)]⟩,⟨by dsimp only;omega,by dsimp only;omega⟩,by simp at q |-;omega,by simp;omega,y⟩,by dsimp only;(omega),[0,1,2,4],?_⟩;(simp[cX,zC,c,cN,RA,Af,eC]<;>rfl)
 refine aE ?_
 have S:k=ps.length:=by (simp only[oZ] at *;omega)
 cases l with
 | nil=>exfalso;simp at q;omega
 | cons t l=>
  refine Aj.AH [1,2,3] [(0,eT m),(2,.o (.ptr 0 3 0 0)),(3,eB false),(7,.o (.ip (BP ⟨n,t::l,ac⟩)))] ⟨⟨_,rfl,.inl rfl⟩,⟨_,rfl,.inl rfl⟩,⟨_,rfl,.inl rfl⟩,⟨_,rfl,.inr (.o (.box rfl (.cons .d (.cons (.full rfl (by simp [d4]) (by simp)) (.cons (.full rfl (by simp [d4]) (by simp)) .nil)))))⟩,trivial⟩ ?_;(repeat first|refine tA rfl ?_ |refine aU rfl ?_);(refine pW rfl ?_ rfl (by rfl);refine Ae [] rfl rfl (EY (TB:=TB) ⟨n,t::l,ac⟩) ⟨rfl,by decide,by decide⟩ rfl trivial ?_;rintro B j p ⟨I,F,rfl,rfl,rfl⟩ _);(repeat first|refine tA rfl ?_ |refine s2 rfl λ_ a=>?_ |refine Aa ?_);(refine aC rfl ?_ ?_<;>rintro⟨⟩)
  ·(repeat first|refine tA rfl ?_|(refine Ag rfl ?_;refine gA rfl ?_;first| refine gS (λ_ _=>AG rfl rfl (by rfl) (by rfl)) ?_) |refine aU rfl ?_ |refine Aa ?_)
   exact aR ⟨_,rfl,[],cy (⟨0,[],[]⟩,false),[],⟨λi hi=>absurd hi (i8 i),jp⟩,rfl,trivial,(⟨0,[],[]⟩,false),f,rfl,rfl,rfl⟩
  refine aK ?_;(repeat first|refine tA rfl ?_ |refine aU rfl ?_ |refine Aa ?_);exact aR ⟨_,rfl,[],cy (⟨n,t::l,ac⟩,true),[],⟨λi hi=>absurd hi (i8 i),jp⟩,rfl,trivial,(⟨n,t::l,ac⟩,true),⟨by show (t::l).length<=_;omega,by show ac.length<=_;omega,b⟩,rfl,rfl,rfl⟩
def Tv:List W:=[[97,98,32,43,49,44,48,32,45,49,44,49],[97,98,32,43,48,44,49,32,43,50,44,49,32,45,50,44,50],[97,99,32,43,49,44,50,32,43,49,44,50,32,45,50,44,50],[98,32,43,49,32,45,49],[97,98,99,32,43,49,44,48,44,50,32,43,50,44,48,44,49,32,45,50,44,50,44,50],[45,32,43],[45,32,45],[97,32,43,49,32,45,48],[97,98,32,43,48,44,49,32,45,48,44,49],[98,99,32,43,49,44,50,32,43,50,44,48,32,45,50,44,50],[97,98,32,43,49,44,50,32,45,49,44,51,32,43,52,44,50,32,45,49,44,51,32,43,52,44,50],[97,98,99,32,43,48,44,49,44,48,32,43,48,44,49,44,50,32,45,50,44,50,44,50]]
theorem WL:∀w∈Tv,w.length<=40:=by decide
theorem SJ:Pure Tryz.prog TB 226 [] (Bx Tv):=by
 refine eN Tryz.func226 rfl (by kernel_rfl) rfl ?_;intro Γ a;(repeat first|refine tA rfl ?_ |refine aU rfl ?_ |refine Aa ?_);refine aR ⟨_,rfl,rfl⟩
theorem VN(b:List UInt8)(hb:b.length<=2000)(p:Int)(A:0<=p/\p < 700000000):Spec Tryz.prog TB 169 [(0,AN b p)] 1 [.o (.ptr 0 2 0 0)] (EW b p 60 (λa=>Hf 41 a)):=by
 obtain⟨c,F,B,hp⟩:=AR (TB:=TB) b hb p 3 (by omega);obtain⟨w,hw,y⟩:=Rm (TB:=TB) b hb (p+1) (by omega) Tv (by decide) (by decide);have v:=WL w hw;have n:=FG (TB:=TB) w (by omega);refine eR Tryz.func169 rfl (by kernel_rfl) rfl ?_;intro Γ d;(repeat first|refine tA rfl ?_ |refine aU rfl ?_ |refine Aa ?_);(refine pW rfl ?_ rfl (by rfl);refine Ae [0] rfl rfl (hp) ⟨rfl,by decide,by decide⟩ rfl (by simp[cX,zC,d,cN]) ?_;rintro h f g ⟨rfl,rfl,rfl⟩ _);(repeat first|refine s2 rfl λ_ z=>?_ |refine Aa ?_);(refine aC rfl ?_ ?_<;>rintro⟨⟩)
 ·(repeat first|refine tA rfl ?_ |refine sP rfl (SJ) rfl ?_ |refine aU rfl ?_)
  (refine pW rfl ?_ rfl (by rfl);refine Ae [0] rfl rfl (y) ⟨rfl,by decide,by decide⟩ rfl (by simp[cX,zC,d,cN]) ?_;rintro h f g ⟨rfl,rfl,rfl⟩ _);(refine pW rfl ?_ rfl (by rfl);refine Ae [] rfl rfl (n) ⟨rfl,by decide,by decide⟩ rfl trivial ?_;rintro h f g ⟨⟨a,ok⟩,ha,rfl,rfl,rfl⟩ _);have s:Hf (w.length+1) a:=ha;(repeat first|refine tA rfl ?_ |refine aU rfl ?_ |refine Aa ?_);(refine aC rfl ?_ ?_<;>rintro⟨⟩)
  ·(repeat first|refine tA rfl ?_ |refine aU rfl ?_ |refine Aa ?_)
   exact aR ⟨_,rfl,[0],Bi a,[(0,AN b (p+1+1))],⟨by intro i hi;match i with|0=>rfl,by decide⟩,rfl,by (simp[cX,zC,d,cN]),p+1+1,a,by omega,⟨by have:=s.nx;omega,by have:=s.ac;omega,λr j=>by have:=s.row r j;omega⟩,rfl,rfl,rfl⟩
  refine aK ?_;obtain⟨l,u,m⟩:=BR (TB:=TB) b hb (p+1+1) (by omega) [3,6,7,5,1,0,2] (by decide) (by decide);have t:=HW (TB:=TB) b hb (p+1+1+1) (by omega) l;(repeat first|refine tA rfl ?_ |refine aU rfl ?_);(refine pW rfl ?_ rfl (by rfl);refine Ae [0] rfl rfl (m) ⟨rfl,by decide,by decide⟩ rfl (by simp[cX,zC,d,cN]) ?_;rintro h f g ⟨rfl,rfl,rfl⟩ _);(refine pW rfl ?_ rfl (by rfl);refine Ae [0] rfl rfl (t) ⟨rfl,by decide,by decide⟩ rfl (by simp[cX,zC,d,cN]) ?_;rintro h f g ⟨q,k,x,⟨_,e⟩,rfl,rfl,rfl⟩ _);(repeat first|refine tA rfl ?_ |refine Aa ?_);exact aR ⟨_,rfl,[0],Bi k,[(0,AN b (q))],⟨by intro i hi;match i with|0=>rfl,by decide⟩,rfl,by (simp[cX,zC,d,cN]),q,k,by omega,⟨by have:=e.nx;omega,by have:=e.ac;omega,λr j=>by have:=e.row r j;omega⟩,rfl,rfl,rfl⟩
 refine aK ?_;obtain⟨l,u,m⟩:=BR (TB:=TB) b hb (p+1) (by omega) [3,6,7,5,1,0,2] (by decide) (by decide);have t:=HW (TB:=TB) b hb (p+1+1) (by omega) l;(repeat first|refine tA rfl ?_ |refine aU rfl ?_);(refine pW rfl ?_ rfl (by rfl);refine Ae [0] rfl rfl (m) ⟨rfl,by decide,by decide⟩ rfl (by simp[cX,zC,d,cN]) ?_;rintro h f g ⟨rfl,rfl,rfl⟩ _);(refine pW rfl ?_ rfl (by rfl);refine Ae [0] rfl rfl (t) ⟨rfl,by decide,by decide⟩ rfl (by simp[cX,zC,d,cN]) ?_;rintro h f g ⟨q,k,x,⟨_,e⟩,rfl,rfl,rfl⟩ _);(repeat first|refine tA rfl ?_ |refine Aa ?_);exact aR ⟨_,rfl,[0],Bi k,[(0,AN b (q))],⟨by intro i hi;match i with|0=>rfl,by decide⟩,rfl,by (simp[cX,zC,d,cN]),q,k,by omega,⟨by have:=e.nx;omega,by have:=e.ac;omega,λr j=>by have:=e.row r j;omega⟩,rfl,rfl,rfl⟩
theorem Hf.mono{m n:Nat}{a:AY}(h:Hf m a)(b:m<=n):Hf n a:=⟨i9 h.nx b,i9 h.ac b,λr c=>i9 (h.row r c) b⟩
abbrev Xn(a:AY):List C:=[.d (iD a.al),.d (Da a.nx),.d (FK a.ac)]
theorem X9(b:List UInt8)(hb:b.length<=2000)(p:Int)(X:0<=p/\p < 600000000):Spec Tryz.prog TB 218 [(0,AN b p)] 1 [.o (.ptr 0 2 0 0)] (EW b p 200 (λa=>Hf 100 a)):=by
 have Q:=VN (TB:=TB) b hb p (by omega);refine eR Tryz.func218 rfl (by kernel_rfl) rfl ?_;intro Γ f;(repeat first|refine tA rfl ?_ |refine aU rfl ?_ |refine Aa ?_);(refine pW rfl ?_ rfl (by rfl);refine Ae [0] rfl rfl (Q) ⟨rfl,by decide,by decide⟩ rfl (by simp[cX,zC,f,cN]) ?_;rintro m g h ⟨I,V,M,H,rfl,rfl,rfl⟩ _);(repeat first|refine tA rfl ?_ |refine aU rfl ?_ |refine Aa ?_);obtain⟨c,T,c2,P⟩:=AR (TB:=TB) b hb I 3 (by omega);(refine pW rfl ?_ rfl (by rfl);refine Ae [0] rfl rfl (P) ⟨rfl,by decide,by decide⟩ rfl (by simp[cX,zC,f,cN]) ?_;rintro m g h ⟨rfl,rfl,rfl⟩ _);(repeat first|refine tA rfl ?_ |refine Aa ?_);refine aB ?_;refine aL (U:={s:Int×Int×AY // (0<=s.1/\s.1<=2)/\(p<=s.2.1/\s.2.1<=p+61+5*(2 - s.1))/\Hf (43 - s.1.toNat) s.2.2}) [] [] rfl rfl (λs=>[(0,.o (.ptr 0 2 0 0)),(2,.o (.ptr 1 3 0 0)),(3,.o (.ptr 2 3 0 0)),(4,eI .i64 s.1.1)]) (λs=>[(0,AN b s.1.2.1),(1,.cells 29 3 [[.d (iD 0),.d (.l []),.d (.l [])]]),(2,.cells 29 3 [Xn s.1.2.2])]) 3 (λs=>s.1.1.toNat) (⟨⟨c,I+1,V⟩,⟨T,by dsimp only;omega⟩,⟨by dsimp only;omega,by dsimp only;omega⟩,H.mono (by dsimp only;omega)⟩) f rfl (by (simp[cX,zC,f,cN,Af,eC])) ?_;rintro⟨⟨j,q,x⟩,L,J,A⟩;(try dsimp only[cA,cB]);have L:0<=j/\j<=2:=L;have J:p<=q/\q<=p+61+5*(2 - j):=J;have A:Hf (43 - j.toNat) x:=A;(repeat first|refine tA rfl ?_ |refine s2 rfl λ_ k=>?_ |refine aU rfl ?_ |refine Aa ?_)
 ((refine aC rfl ?_ ?_<;>rintro⟨⟩);all_goals try (simp at k;done))
 ·have K:0 < j:=by (simp only[oZ] at *;omega)
  refine aK ?_;refine aS (aB ?_);(repeat first|refine tA rfl ?_ |refine aU rfl ?_);(refine pW rfl ?_ rfl (by rfl);refine Ae [0] rfl rfl (QN (TB:=TB) b hb q (by omega) x (43 - j.toNat) A (by omega)) ⟨rfl,by decide,by decide⟩ rfl (by simp[cX,zC,f,cN]) ?_;rintro m g h ⟨u,t,F,⟨_,w⟩,rfl,rfl,rfl⟩ _);(repeat first|(refine sA rfl ?_ ?_;first|exact tI|omega) |refine aU rfl ?_ |refine Aa ?_);refine⟨⟨⟨j - 1,u,t⟩,⟨by dsimp only;omega,by dsimp only;omega⟩,⟨by dsimp only;omega,by dsimp only;omega⟩,w.mono (by dsimp only;omega)⟩,by dsimp only;(omega),[0,1,2],?_⟩;(simp[cX,zC,f,cN,Af,eC]<;>rfl)
 refine aE ?_;have n:Hf 43 x:=A.mono (by omega);obtain⟨d,Z,Y,N⟩:=AR (TB:=TB) b hb q 10 (by omega);(repeat first|refine tA rfl ?_ |refine aU rfl ?_);(refine pW rfl ?_ rfl (by rfl);refine Ae [0] rfl rfl (N) ⟨rfl,by decide,by decide⟩ rfl (by simp[cX,zC,f,cN]) ?_;rintro m g h ⟨rfl,rfl,rfl⟩ _);(repeat first|refine s2 rfl λ_ k=>?_ |refine Aa ?_);(refine aC rfl ?_ ?_<;>rintro⟨⟩)
 ·(repeat first|refine tA rfl ?_ |refine aU rfl ?_)
  (refine pW rfl ?_ rfl (by rfl);refine Ae [0] rfl rfl (X6 (TB:=TB) b hb (q+1) (by omega)) ⟨rfl,by decide,by decide⟩ rfl (by simp[cX,zC,f,cN]) ?_;rintro m g h ⟨u,t,F,w,rfl,rfl,rfl⟩ _);have r:Hf 43 t:=w.mono (by omega);(repeat first|refine tA rfl ?_);refine Aa ?_;refine Aj.Ak [] [] rfl rfl [(0,.o (.ptr 0 2 0 0)),(2,.o (.ptr 1 3 0 0)),(3,.o (.ptr 2 3 0 0))] [(0,AN b (u)),(1,.cells 29 3 [[.d (iD 0),.d (.l []),.d (.l [])]]),(2,.cells 29 3 [Xn t])] [0,1,2] (rl f rfl) (by (simp[cX,zC,f,cN,Af,eC])) ?_;(try dsimp only[cA,cB]);obtain⟨e,S,R,G⟩:=AR (TB:=TB) b hb (u) 6 (by omega);(repeat first|refine tA rfl ?_ |refine aU rfl ?_);(refine pW rfl ?_ rfl (by rfl);refine Ae [0] rfl rfl (G) ⟨rfl,by decide,by decide⟩ rfl (by simp[cX,zC,f,cN]) ?_;rintro m g h ⟨rfl,rfl,rfl⟩ _);(repeat first|refine s2 rfl λ_ k=>?_ |refine Aa ?_);(refine aC rfl ?_ ?_<;>rintro⟨⟩)
  ·(repeat first|refine tA rfl ?_ |refine aU rfl ?_)
   (refine pW rfl ?_ rfl (by rfl);refine Ae [0] rfl rfl (IP (TB:=TB) b hb (u+1) (by omega) t 43 r (by omega)) ⟨rfl,by decide,by decide⟩ rfl (by simp[cX,zC,f,cN]) ?_;rintro m g h ⟨z,y,B,v,rfl,rfl,rfl⟩ _);(repeat first|refine tA rfl ?_ |refine aU rfl ?_ |refine Aa ?_);exact aR ⟨_,rfl,[0],Bi y,[(0,AN b (z))],⟨by intro i hi;match i with|0=>rfl,by decide⟩,rfl,by (simp[cX,zC,f,cN,Af,eC]),z,y,by omega,v.mono (by omega),rfl,rfl,rfl⟩
  refine aK ?_;(repeat first|refine tA rfl ?_ |refine aU rfl ?_ |refine Aa ?_);exact aR ⟨_,rfl,[0],Bi t,[(0,AN b (u+1))],⟨by intro i hi;match i with|0=>rfl,by decide⟩,rfl,by (simp[cX,zC,f,cN,Af,eC]),u+1,t,by omega,r.mono (by omega),rfl,rfl,rfl⟩
 refine aK ?_;obtain⟨e,S,R,G⟩:=AR (TB:=TB) b hb (q+1) 6 (by omega);(repeat first|refine tA rfl ?_ |refine aU rfl ?_);(refine pW rfl ?_ rfl (by rfl);refine Ae [0] rfl rfl (G) ⟨rfl,by decide,by decide⟩ rfl (by simp[cX,zC,f,cN]) ?_;rintro m g h ⟨rfl,rfl,rfl⟩ _);(repeat first|refine s2 rfl λ_ k=>?_ |refine Aa ?_);(refine aC rfl ?_ ?_<;>rintro⟨⟩)
 ·(repeat first|refine tA rfl ?_ |refine aU rfl ?_)
  (refine pW rfl ?_ rfl (by rfl);refine Ae [0] rfl rfl (IP (TB:=TB) b hb (q+1+1) (by omega) x 43 n (by omega)) ⟨rfl,by decide,by decide⟩ rfl (by simp[cX,zC,f,cN]) ?_;rintro m g h ⟨z,y,B,v,rfl,rfl,rfl⟩ _);(repeat first|refine tA rfl ?_ |refine aU rfl ?_ |refine Aa ?_);exact aR ⟨_,rfl,[0],Bi y,[(0,AN b (z))],⟨by intro i hi;match i with|0=>rfl,by decide⟩,rfl,by (simp[cX,zC,f,cN,Af,eC]),z,y,by omega,v.mono (by omega),rfl,rfl,rfl⟩
 refine aK ?_;(repeat first|refine tA rfl ?_ |refine aU rfl ?_ |refine Aa ?_);exact aR ⟨_,rfl,[0],Bi x,[(0,AN b (q+1+1))],⟨by intro i hi;match i with|0=>rfl,by decide⟩,rfl,by (simp[cX,zC,f,cN,Af,eC]),q+1+1,x,by omega,n.mono (by omega),rfl,rfl,rfl⟩
end Go.Am
namespace Go.Am
set_option linter.unusedVariables false
set_option linter.unusedSectionVars false
section
variable {U β:Type}[DecidableEq U][DecidableEq β]
theorem Em:∀ {l m:List U},l.Nodup->(∀x∈l,x∈m)->l.length<=m.length
 | [],m,_,_=>by simp
 | x::l,m,f,b=>by
  have d:=l6.1 f;have c:=b x (by simp);have i:=List.length_erase_of_mem c;have h:=Em (l:=l) (m:=m.erase x) d.2 λy a=>(List.mem_erase_of_ne λe=>d.1 (by rw [<-e];exact a)).2 (b y (by simp [a]));have g:=List.length_pos_of_mem c;simp only [k8];omega
theorem SY{l m:List U}(e:l.Nodup)(c:∀x∈l,x∈m)(g:m.length<=l.length)(d:m.Nodup):∀x∈m,x∈l:=λx b=>by
 refine Classical.byContradiction λf=>?_
 have:=Em (l:=x::l) (m:=m) (l6.2 ⟨f,e⟩) λy a=>by
  rcases kw.1 a with rfl|h
  ·exact b
  ·exact c y h
 simp at this;omega
def uniq:List U->List U->List U
 | u,[]=>u
 | u,x::l=>uniq (if x∈u then u else u++[x]) l
theorem NF:∀(l m u:List U),uniq u (l++m)=uniq (uniq u l) m
 | [],m,u=>rfl
 | x::l,m,u=>NF l m _
theorem U9:∀(l:List U) {u:List U},u.Nodup->(uniq u l).Nodup
 | [],u,h=>h
 | x :: l,u,h=>by
  unfold uniq;refine U9 l ?_;split
  ·exact h
  ·rename_i c
   exact lQ.2 ⟨h,by simp,λa ha b hb=>by simp at hb;subst hb;exact λe=>c (e ▸ ha)⟩
theorem RS:∀(l u:List U),u <+: uniq u l
 | [],u=>nJ _
 | x::l,u=>by
  unfold uniq;refine List.IsPrefix.trans ?_ (RS l _);split
  ·exact nJ _
  ·exact List.prefix_append _ _
theorem RR:∀(l:List U) {u:List U} {x:U},x∈uniq u l↔x∈u\/x∈l
 | [],u,x=>by simp [uniq]
 | y :: l,u,x=>by
  unfold uniq;rw [RR l];split
  ·rename_i a
   constructor
   ·rintro(h|h)
    ·exact .inl h
    ·exact .inr (by simp [h])
   ·rintro(h|h)
    ·exact .inl h
    ·rcases kw.1 h with rfl|h
     ·exact .inl a
     ·exact .inr h
  ·simp only [em,nv,kw,or_assoc,mZ,false_or]
def uq(l:List U):List U:=uniq [] l
theorem Lh(l:List U):(uq l).Nodup:=U9 l (by simp)
theorem Dc{l:List U}{x:U}:x∈uq l↔x∈l:=by unfold uq;rw [RR];simp
theorem LZ{l:List U}{k:Nat}{x:U}(h:l[k]? = some x):uq (l.take (k+1))=if x∈uq (l.take k) then uq (l.take k) else uq (l.take k)++[x]:=by
 unfold uq;rw [io,h,NF];rfl
theorem ZV(l:List U)(k:Nat):uq (l.take k) <+: uq l:=by
 have h:=RS (l.drop k) (uq (l.take k));unfold uq at h |-;rw [<-NF,lv] at h;exact h
theorem HM(l:List U):(uq l).length<=l.length:=Em (Lh l) λx a=>Dc.1 a
def Dn(l:List U)(x:U):Int:=((uq l).idxOf x:Nat)
def Ec(l:List U):List Int:=l.map (Dn l)
theorem MO{l:List U}{x y:U}(c:x∈l)(h:Dn l x=Dn l y):x=y:=by
 have f:=Dc.2 c
 have b:(uq l).idxOf x=(uq l).idxOf y:=by unfold Dn at h;omega
 have a:=lD.2 f;have g:y∈uq l:=lD.1 (b ▸ a);have e:(uq l)[(uq l).idxOf x]=x:=mF a;have d:(uq l)[(uq l).idxOf y]'(b ▸ a)=y:=mF _;rw [<-e,<-d];simp only [b]
theorem LM{l:List U}{x:U}(a:x∈l):0<=Dn l x/\Dn l x < (uq l).length:=by
 have:=lD.2 (Dc.2 a);unfold Dn;omega
theorem MN{l:List U}{x:U}(a:x∈l):(uq l)[(Dn l x).toNat]? = some x:=by
 have h:=lD.2 (Dc.2 a)
 have e:(Dn l x).toNat=(uq l).idxOf x:=by unfold Dn;omega
 rw [e,d7 h,mF]
theorem Uu{l:List U}{i:Nat}{x:U}(h:(uq l)[i]? = some x):Dn l x=i:=by
 have a:x∈l:=Dc.1 (co h);have b:=MN a;have c:=(mO (am.1 b).1 (Lh l)).1 (b.trans h.symm);have:=LM a;omega
theorem LK{l:List U}{k:Nat}{x:U}(h:l[k]? = some x):(x∈uq (l.take k)->Dn l x=((uq (l.take k)).idxOf x:Nat)/\Dn l x < (uq (l.take k)).length)/\(x∉uq (l.take k)->Dn l x=(uq (l.take k)).length):=by
 constructor
 ·intro a
  obtain⟨t,ht⟩:=ZV l k
  have c:(uq l).idxOf x=(uq (l.take k)).idxOf x:=by rw [<-ht,me,if_pos a]
  have b:=lD.2 a;unfold Dn;omega
 ·intro a
  obtain⟨t,ht⟩:=ZV l (k+1);rw [LZ h,if_neg a] at ht;unfold Dn;rw [<-ht,mM,me,if_neg a];simp
theorem PT{f:U->β}{l:List U}:∀(v:List β),v.Nodup->(∀y∈v,y∈l.map f)->∃u:List U,u.map f=v/\u.Nodup/\∀x∈u,x∈l
 | [],_,_=>⟨[],rfl,by simp,by simp⟩
 | y::v,c,h=>by
  obtain⟨u,d,i,g⟩:=PT (f:=f) (l:=l) v (l6.1 c).2 λz a=>h z (by simp [a]);obtain⟨x,e,rfl⟩:=d8.1 (h y (by simp));refine⟨x::u,by simp [d],l6.2 ⟨λb=>(l6.1 c).1 (by rw [<-d];exact d8.2 ⟨x,b,rfl⟩),i⟩,λz a=>?_⟩
  rcases kw.1 a with rfl|a
  ·exact e
  ·exact g z a
theorem TC(f:U->β)(l:List U):(uq (l.map f)).length<=(uq l).length:=by
 obtain⟨u,e,d,c⟩:=PT (f:=f) (l:=l) (uq (l.map f)) (Lh _) λy a=>Dc.1 a;rw [<-e,gc];exact Em d λx b=>Dc.2 (c x b)
theorem eW{f:U->β}{l:List U}(h:(uq l).length<=(uq (l.map f)).length){x y:U}(e:x∈l)(c:y∈l)(p:f x=f y):x=y:=by
 obtain⟨u,o,t,s⟩:=PT (f:=f) (l:=l) (uq (l.map f)) (Lh _) λy c=>Dc.1 c;have n:=SY t (m:=uq l) (λx e=>Dc.2 (s x e)) (by rw [<-o,gc] at h;exact h) (Lh l);have a:=Lh (l.map f);rw [<-o] at a;have d:=n x (Dc.2 e);have b:=n y (Dc.2 c);obtain⟨i,hi⟩:=lL.1 d;obtain⟨j,g⟩:=lL.1 b
 have k:(u.map f)[i]? = some (f x):=by rw [d9,hi];rfl
 have r:(u.map f)[j]? = some (f x):=by rw [d9,g,p];rfl
 have q:=(mO (am.1 k).1 a).1 (k.trans r.symm);subst q;rw [hi] at g;injection g
theorem Vi(l:List U):(uq (Ec l)).length=(uq l).length:=by
 have i:=TC (Dn l) l;refine oz i ?_
 have g:(uq ((uq l).map (Dn l))).length=(uq l).length:=by
  have d:((uq l).map (Dn l)).Nodup:=by
   unfold List.Nodup;rw [lF];exact(nM.1 (Lh l)).imp λ{a b} h e=>h.2.2 (MO (Dc.1 h.1) e)
  refine oz (i9 (HM _) (by simp)) ?_;have:=Em (m:=uq ((uq l).map (Dn l))) d λx c=>Dc.2 c
  simpa using this
 rw [<-g];refine Em (Lh _) λx c=>Dc.2 ?_;obtain⟨y,f,rfl⟩:=d8.1 (Dc.1 c);exact d8.2 ⟨y,Dc.1 f,rfl⟩
def Bl(l:List U):Nat->List Nat
 | 0=>[]
 | k+1=>match l[k]? with
  | none=>Bl l k
  | some x=>if x∈uq (l.take k) then Bl l k else Bl l k++[k]
theorem CQ(l:List U):∀k,(Bl l k).length=(uq (l.take k)).length
 | 0=>rfl
 | k + 1=>by
  unfold Bl
  cases h:l[k]? with
  | none=>rw [io,h,Option.toList_none,lh];exact CQ l k
  | some x=>
   rw [LZ h]
   show (if x∈uq (l.take k) then Bl l k else Bl l k++[k]).length=_
   split
   ·exact CQ l k
   ·simp [CQ l k]
theorem En(l:List U):∀(k i q:Nat),(Bl l k)[i]? = some q->q < k/\∃x,l[q]? = some x/\(uq (l.take k))[i]? = some x
 | 0,i,q,h=>by simp [Bl] at h
 | k + 1, i,q,h=>by
  unfold Bl at h
  cases hk:l[k]? with
  | none=>
   rw [hk] at h;have h:(Bl l k)[i]? = some q:=h;obtain⟨e,x,b,a⟩:=En l k i q h;exact⟨by omega,x,b,by rw [io,hk,Option.toList_none,lh];exact a⟩
  | some y=>
   rw [hk] at h;have h:(if y∈uq (l.take k) then Bl l k else Bl l k++[k])[i]? = some q:=h;rw [LZ hk];split at h
   ·rename_i d
    obtain⟨e,x,b,a⟩:=En l k i q h;exact⟨by omega,x,b,by rw [if_pos d];exact a⟩
   ·rename_i d
    rw [if_neg d]
    rcases lc i (Bl l k).length with c|c
    ·rw [f9 c] at h
     obtain⟨e,x,b,a⟩:=En l k i q h;exact⟨by omega,x,b,by rw [f9 (by rw [<-CQ];exact c)];exact a⟩
    ·rw [ge c] at h
     have g:i - (Bl l k).length < 1:=(am.1 h).1
     have f:i=(Bl l k).length:=by omega
     subst f;simp at h;subst h;exact⟨by omega,y,hk,by rw [CQ];simp⟩
end
end Go.Am
