/-
  Automata without useless states, and prefix-closed ones: walked.
-/
import Derived.Test.YtgpbfllcjdfelaaGreatDoorPart27
import Derived.Test.YtgpbfllcjdfelaaGreatDoorPart29
set_option linter.all false
namespace Go.Am
open Go Go.Proofs
set_option maxHeartbeats 1000000
set_option maxRecDepth 4000
attribute [local irreducible] AU BZ Lex Br Aj Spec
variable {TB:Bp}
theorem ZT{a:AY}{q l:Int}(d:0<=q/\q < a.nx.length)(b:l∈Ac a.al):Pure Tryz.prog TB 134 [eI .i64 q,eI .i64 l,.o (.ip [.l (ET a)])] (eI .i64 (fA a q l)):=by
 have b:=Au b;have ta:=Ik (a:=a) (q:=q.toNat) (by omega)
 have el:((l.toNat:Nat):Int)=l:=by omega
 have ra:=GF (h:=λl=>Bj a q.toNat l) b.1 (by omega);simp only [el] at ra;refine eN Tryz.func134 rfl (by kernel_rfl) rfl ?_;intro Γ c;(repeat first|(refine sA rfl ?_ ?_;first|exact tI|omega) |(refine s4 rfl ‹_› rfl ?_ ?_;omega)|(refine Ag rfl ?_;refine gA rfl ?_;first| refine gS (λ_ _=>DD rfl ra) ?_) |refine aU rfl ?_ |refine Aa ?_);refine aR ⟨_,rfl,rfl⟩
theorem cf{a:AY}(h:Gg a):Pure Tryz.prog TB 58 [Bi a] (Bi (PR a)):=by
 have A:=h.b.1;have m:=h.n1;have B:=h.ac;have j:=Le (TB:=TB) a h.b;have s:=CO (TB:=TB) a.al;obtain⟨nd,rows,I,H,J,G,F⟩:=Tw h.b h.n1
 have e:Pure Tryz.prog TB 111 [eI .i64 0,AW (Ac a.al),eI .i64 a.nx.length,.o (.fn 134 [.ip [.l (ET a)]])] (fT (Oa a.nx.length (fA a) (Ac a.al) 0)):=by
  refine QY (lim:=a.nx.length) (R:=λq=>0<=q/\q < ((a.nx.length:Nat):Int)) ⟨m,A⟩ (AK _ 6) (by omega) (λq l f i=>?_) (λq l f i=>ZT f i) rfl (λr=>rfl);have i:=Au i;exact C1 h.b (q:=q.toNat) (by omega) i.1 (by omega)
 rw [I] at e;rw [F];have z:=H.len;refine eG Tryz.func58 rfl (by kernel_rfl) rfl ?_;intro Γ c;(repeat first|refine tA rfl ?_ |refine sP rfl (j) rfl ?_ |refine aU rfl ?_ |refine Aa ?_);refine Aj.AH [1] [(1,.o (.ip (BP a))),(2,.o (.ptr 0 3 0 0)),(3,.o (.ip [.l (ET a)]))] ⟨⟨_,rfl,.inl rfl⟩,⟨_,rfl,.inl rfl⟩,⟨_,rfl,.inr (.o (.box rfl (Vj.refl [.l (ET a)])))⟩,trivial⟩ ?_;have p:(List.range a.nx.length).length=a.nx.length:=mK;rw [<-p] at e;refine rG (It []) (by kernel_rfl) ?_;(repeat first|refine sN rfl ?_ |refine tA rfl ?_ |refine sP rfl (s) rfl ?_|refine sP rfl (e) rfl ?_ |refine aU rfl ?_ |refine Aa ?_);(refine pW rfl ?_ rfl (by rfl);refine MJ 2 1 4 rfl rfl rfl (by rfl) (by rfl) ?_);(repeat first|refine sN rfl ?_ |refine tA rfl ?_ |refine aU rfl ?_ |refine Aa ?_);refine aB ?_;refine aL (U:={k:Nat // k<=nd.length}) [1,2,7,27,28] [0] rfl rfl (λ⟨k,hk⟩=>[(29,eI .i64 k)]) (λ⟨k,hk⟩=>[(3,.cells 29 3 [[.d (iD a.al),.d (Da rows),.arr 2 1 0 k]]),(2,.cells 4 1 (((nd.take k).map (Fy a)).map AP))]) 4 (λ⟨k,hk⟩=>nd.length - k) (⟨0,by omega⟩) c rfl (by (simp[cX,zC,c,eC,BC,Af])) ?_;rintro⟨k,hk⟩;(try dsimp only[cA,cB]);by_cases n:k < nd.length
 ·obtain⟨q,f⟩:=get_some n
  have y:=get_map (g:=CN) f;have x:=G q (co f);obtain⟨bb,hb⟩:=get_some (l:=a.ac) (k:=q.toNat) (by omega);have u:=get_map (g:=IB) hb;have t:Fy a q=bb:=EP hb
  have ht:nd.take (k+1)=nd.take k++[q]:=by rw [io,f];rfl
  rw [f6] at u;(repeat first|refine s2 rfl λ_ v=>?_ |refine aU rfl ?_ |refine Aa ?_)
  ((refine aC rfl ?_ ?_<;>rintro⟨⟩);all_goals try(exfalso;(simp only[oZ] at *;omega)))
  refine aK ?_;refine aS (aB ?_);(repeat first|refine tA rfl ?_ |(refine s4 rfl ‹_› rfl ?_ ?_;omega) |refine aU rfl ?_ |refine Aa ?_);refine rG (It [8,10]) (by kernel_rfl) ?_;(repeat first|refine tA rfl ?_ |(refine s4 rfl ‹_› rfl ?_ ?_;omega));(refine pW rfl ?_ rfl (by rfl);refine Aw rfl rfl rfl (by first| (simp;done)|(simp;(omega))) rfl (by intro r w;simp at w;subst w;rfl) (by rfl) (ce rfl) (by simp;omega) ?_);(repeat first|(refine sA rfl ?_ ?_;first|exact tI|omega) |refine aU rfl ?_ |refine Aa ?_);refine⟨⟨k+1,by omega⟩,by dsimp only;(omega),[0,1,4,3],?_⟩;simp[cX,zC,c,eC,BC,Af,ht,t]
 ·obtain rfl:k=nd.length:=by omega
  rw [kz];(repeat first|refine s2 rfl λ_ v=>?_ |refine aU rfl ?_ |refine Aa ?_)
  ((refine aC rfl ?_ ?_<;>rintro⟨⟩);all_goals try(exfalso;(simp only[oZ] at *;omega)))
  refine aE ?_;refine Aj.AH [2,3] [(2,.o (.ptr 0 3 0 0)),(7,.o (.ip [iD a.al,Da rows,FK (nd.map (Fy a))]))] ⟨⟨_,rfl,.inl rfl⟩,⟨_,rfl,.inr (.o (.box rfl (.cons .d (.cons .d (.cons (.full rfl (by simp [d4]) (by simp)) .nil)))))⟩,trivial⟩ ?_;(repeat first|refine tA rfl ?_ |refine aU rfl ?_ |refine Aa ?_);(subst_vars;exact aR ⟨_,rfl,rfl⟩)
end Go.Am
