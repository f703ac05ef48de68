/-
  What becomes of the call's own objects: new ones, writes, other names.
-/
import Derived.Test.YtgpbfllcjdfelaaGreatDoorPart7
import Derived.Laws.CopyRow
set_option linter.all false
namespace Go.Am
open Go
def kill(id:Nat):Ab->Ab
 | []=>[]
 | (k,o)::r=>bif Nat.beq k id then kill id r else (k,o)::kill id r
theorem Et:∀(σ:Ab) (id i:Nat),look (kill id σ) i=if i=id then none else look σ i
 | [],id,i=>by simp [kill,look]
 | (k, o)::r,id,i=>by
  simp only [kill];by_cases h:k=id
  ·subst h
   simp only [qi,cond_true];rw [Et r k i,Ax];by_cases a:i=k
   ·simp [a]
   ·rw [if_neg a,if_neg a,if_neg (Ne.symm a)]
  ·have:Nat.beq k id=false:=by
    cases hb:Nat.beq k id
    ·rfl
    ·exact absurd (i7 hb) h
   rw [this,cond_false,Ax,Ax,Et r id i];by_cases a:i=id
   ·subst a;simp [h]
   ·simp [a]
def Aw(V:View)(b c:Nat)(nl:Prop)(w:World):View:=
 {I:=V.I,ρ:=λi=>if i=V.nx then b else V.ρ i,cap:=λi=>if i=V.nx then c else V.cap i,nl:=λi=>if i=V.nx then nl else V.nl i,nx:=V.nx+1,w:=w }
def QG(V:View)(w:World):View:={ V with I:=λb=>V.I b\/b=V.w.heap.size,w:=w }
section
variable {TB:Bi}{Γ:Ctx}{V:View}{σ:Ab}
theorem Ec{b c:Nat}{nl:Prop}{w:World}(a:V.w.heap.size<=w.heap.size)(hw:∀b,V.I b->w.heap[b]? = V.w.heap[b]?):Ext V (Aw V b c nl w):=by
 refine⟨λ_ h=>h,hw,a,λi hi=>?_,λi hi=>?_,λi hi=>?_,qR _⟩<;>simp [Aw,Nat.ne_of_lt hi]
def O.one:O->Bool
 | .sld .. => false
 | _=>true
theorem O.Me{V:View}{id:Nat}{o:O}(h:o.one=true):DY V id o=λb=>b=V.ρ id:=by
 cases o with
 | sld=>cases h
 | _=>rfl
theorem Inv.alloc(h:Inv TB Γ V σ){c:Nat}{nl:Prop}{w:World}{ob:O}(A:ob.one=true)(r:w.os=V.w.os)(ht:w.tape=V.w.tape)(v:w.output=V.w.output)(u:V.w.heap.size<=w.heap.size)
 (hw:∀b,b < V.w.heap.size->w.heap[b]? = V.w.heap[b]?) (s:Ch (Aw V V.w.heap.size c nl w) V.nx ob):Inv TB Γ (Aw V V.w.heap.size c nl w) ((V.nx,ob)::σ)/\Ext V (Aw V V.w.heap.size c nl w):=by
 have e:Ext V (Aw V V.w.heap.size c nl w):=Ec u λb hb=>hw b (h.iLt b hb)
 have j:DY (Aw V V.w.heap.size c nl w) V.nx ob=λb=>b=V.w.heap.size:=by rw [O.Me A];simp [Aw]
 refine⟨⟨r.trans h.os,ht.trans h.tape,v.trans h.output,λb hb t=>(hw b (mW hb h.ext.size)).trans (h.old b hb t),λb hb=>mW (h.iLt b hb) u,h.iNew,h.ext.trans e,⟨?_,?_,?_,?_⟩,?_,?_,h.hid.step e.i e.heap e.size (λb hb _ _=>hw b hb) (λb hb=>.inl hb) λb t=>?_⟩,e⟩
 ·intro id o a
  rw [Ax] at a;by_cases hid:V.nx=id
  ·rw [if_pos hid] at a;injection a with a;subst a;subst hid;exact s
  ·rw [if_neg hid] at a
   exact(h.st.obj id o a).Bn e (h.st.lt id o a) λk b hb=>hw _ ((h.st.obj id o a).blt k hb)
 ·intro id o a
  rw [Ax] at a;by_cases hid:V.nx=id
  ·subst hid;exact oY _
  ·rw [if_neg hid] at a;exact oN (h.st.lt id o a)
 ·intro id o a k b hb
  rw [Ax] at a;by_cases hid:V.nx=id
  ·subst hid
   rw [if_pos rfl] at a;injection a with a;subst a
   intro z;rw [j] at hb;subst hb;exact Nat.lt_irrefl _ (h.iLt _ z)
  ·rw [if_neg hid] at a
   have d:=h.st.lt id o a;exact h.st.free id o a (λl=>k ((e.nl id d).2 l)) b ((AE e d).1 hb)
 ·intro id id' o o' a f q k l b hb m
  rw [Ax] at a f;by_cases hid:V.nx=id
  ·subst hid
   rw [if_neg q] at f
   rw [if_pos rfl] at a;injection a with a;subst a
   have d:=h.st.lt id' o' f;have:=(h.st.obj id' o' f).blt (λg=>l ((e.nl id' d).2 g)) ((AE e d).1 m);rw [j] at hb;subst hb;omega
  ·rw [if_neg hid] at a
   have d:=h.st.lt id o a;have y:=(h.st.obj id o a).blt (λg=>k ((e.nl id d).2 g)) ((AE e d).1 hb);by_cases p:V.nx=id'
   ·subst p
    rw [if_pos rfl] at f;injection f with f;subst f
    rw [j] at m;subst m;omega
   ·rw [if_neg p] at f
    have n:=h.st.lt id' o' f;exact h.st.inj id id' o o' a f q (λg=>k ((e.nl id d).2 g)) (λg=>l ((e.nl id' n).2 g)) b ((AE e d).1 hb) ((AE e n).1 m)
 ·intro id o a k b hb
  rw [Ax] at a;by_cases hid:V.nx=id
  ·subst hid
   rw [if_pos rfl] at a;injection a with a;subst a
   left
   rw [j] at hb;subst hb;exact h.ext.size
  ·rw [if_neg hid] at a
   have d:=h.st.lt id o a;exact h.live id o a (λg=>k ((e.nl id d).2 g)) b ((AE e d).1 hb)
 ·intro x g
  have:=h.tabs x g;exact⟨this.1,(hw _ (h.iLt _ this.1)).trans this.2⟩
 ·obtain⟨id,o,a,k,hb⟩:=t
  rw [Ax] at a;by_cases hid:V.nx=id
  ·subst hid
   rw [if_pos rfl] at a;injection a with a;subst a
   rw [j] at hb;exact .inr (Nat.le_of_eq hb.symm)
  ·rw [if_neg hid] at a
   have d:=h.st.lt id o a;exact .inl ⟨id,o,a,λg=>k ((e.nl id d).2 g),(AE e d).1 hb⟩
theorem Inv.Zo(h:Inv TB Γ V σ){w:World}(j:w.os=V.w.os)(ht:w.tape=V.w.tape)(l:w.output=V.w.output)(g:V.w.heap.size < w.heap.size)
 (hw:∀b,b < V.w.heap.size->w.heap[b]? = V.w.heap[b]?):Inv TB Γ (QG V w) σ/\Ext V (QG V w):=by
 have e:Ext V (QG V w):=⟨λ_ h=>.inl h,λb hb=>hw b (h.iLt b hb),qE g,λ_ _=>rfl,λ_ _=>rfl,λ_ _=>Iff.rfl,io _⟩
 refine⟨⟨j.trans h.os,ht.trans h.tape,l.trans h.output,λb hb k=>(hw b (mW hb h.ext.size)).trans (h.old b hb k),?_,?_,h.ext.trans e,⟨?_,h.st.lt,?_,h.st.inj⟩,h.live,?_,h.hid.step e.i e.heap e.size (λb hb _ _=>hw b hb) (λb hb=>hb.elim .inl λf=>.inr (.inr (Nat.le_of_eq (show b=V.w.heap.size from f).symm))) λb k=>.inl (HO e h.st.lt k)⟩,e⟩
 ·intro b hb
  rcases hb with hb|hb
  ·exact Nat.lt_trans (h.iLt b hb) g
  ·subst hb;exact g
 ·intro b hb
  rcases hb with hb|hb
  ·exact h.iNew b hb
  ·subst hb;exact .inr (.inl h.ext.size)
 ·intro id o a
  exact(h.st.obj id o a).Bn e (h.st.lt id o a) λd b hb=>hw _ ((h.st.obj id o a).blt d hb)
 ·intro id o a d b hb c
  have hb:=(AE e (h.st.lt id o a)).1 hb
  rcases c with c|c
  ·exact h.st.free id o a d b hb c
  ·have c:b=V.w.heap.size:=c
   have:=(h.st.obj id o a).blt d hb;omega
 ·intro x f
  have:=h.tabs x f;exact⟨.inl this.1,(hw _ (h.iLt _ this.1)).trans this.2⟩
theorem Inv.iP(h:Inv TB Γ V σ){id:Nat}{ob ob':O}(l:look σ id=some ob)(g:¬V.nl id){w:World}(p:w.os=V.w.os)(ht:w.tape=V.w.tape)(y:w.output=V.w.output)(u:w.heap.size=V.w.heap.size)
 (hw:∀b,¬DY V id ob b->w.heap[b]? = V.w.heap[b]?) (n:∀b,DY V id ob' b->DY V id ob b) (q:Ch { V with w:=w } id ob'):Inv TB Γ { V with w:=w } ((id,ob')::σ)/\Ext V { V with w:=w } := by
 have f:∀b,V.I b->¬DY V id ob b:=λb hb e=>h.st.free id ob l g b e hb
 have e:Ext V { V with w:=w } := ⟨λ_ h=>h,λb hb=>hw b (f b hb),Nat.le_of_eq u.symm,λ_ _=>rfl,λ_ _=>rfl,λ_ _=>Iff.rfl,io _⟩
 have bw:∀ {i o b},DY { V with w:=w } i o b↔DY V i o b:=λ{i o b} => by cases o<;>exact Iff.rfl
 have look':∀i o,look ((id,ob')::σ) i=some o->∃a,look σ i=some a/\∀b,DY V i o b->DY V i a b:=λi o hi=>by
  rw [Ax] at hi;by_cases c:id=i
  ·subst c;rw [if_pos rfl] at hi;injection hi with hi;subst hi;exact⟨ob,l,n⟩
  ·rw [if_neg c] at hi;exact⟨o,hi,λ_ h=>h⟩
 refine⟨⟨p.trans h.os,ht.trans h.tape,y.trans h.output,?_,λb hb=>by show b < w.heap.size;rw [u];exact h.iLt b hb,h.iNew,h.ext.trans e,⟨?_,?_,?_,?_⟩,?_,?_,h.hid.step e.i e.heap e.size (λb _ _ m=>hw b λhb=>m ⟨id,ob,l,g,hb⟩) (λ_ h=>.inl h) (λb ⟨i,o,hi,d,hb⟩=>.inl (let ⟨a,k,j⟩:=look' i o hi;⟨i,a,k,d,j b (bw.1 hb)⟩))⟩,e⟩
 ·intro b hb m
  have:¬DY V id ob b:=by
   intro c
   rcases h.live id ob l g b c with j|j
   ·omega
   ·exact m j
  exact(hw b this).trans (h.old b hb m)
 ·intro i o hi
  rw [Ax] at hi;by_cases c:id=i
  ·rw [if_pos c] at hi;injection hi with hi;subst hi;subst c;exact q
  ·rw [if_neg c] at hi
   exact(h.st.obj i o hi).Bn e (h.st.lt i o hi) λd b hb=>hw _ λz=>h.st.inj id i ob o l hi c g d b z hb
 ·intro i o hi;obtain⟨a,k,_⟩:=look' i o hi;exact h.st.lt i a k
 ·intro i o hi g b hb;obtain⟨a,k,j⟩:=look' i o hi;exact h.st.free i a k g b (j b (bw.1 hb))
 ·intro i i' o o' hi s r g d b hb t;obtain⟨a,k,B⟩:=look' i o hi;obtain⟨v,j,A⟩:=look' i' o' s;exact h.st.inj i i' a v k j r g d b (B b (bw.1 hb)) (A b (bw.1 t))
 ·intro i o hi g b hb;obtain⟨a,k,j⟩:=look' i o hi;exact h.live i a k g b (j b (bw.1 hb))
 ·intro x c
  have:=h.tabs x c;exact⟨this.1,(hw _ (f _ this.1)).trans this.2⟩
theorem Inv.write(h:Inv TB Γ V σ){id:Nat}{ob ob':O}(i:look σ id=some ob)(g:¬V.nl id){w:World}(d:ob.one=true)(j:ob'.one=true)(a:w.os=V.w.os)(ht:w.tape=V.w.tape)(f:w.output=V.w.output)(e:w.heap.size=V.w.heap.size)
 (hw:∀b,b≠V.ρ id->w.heap[b]? = V.w.heap[b]?) (c:Ch { V with w:=w } id ob'):Inv TB Γ { V with w:=w } ((id,ob')::σ)/\Ext V { V with w:=w } :=
 h.iP i g a ht f e (λb hb=>hw b (by rw [O.Me d] at hb;exact hb)) (λb hb=>by rw [O.Me d];rw [O.Me j] at hb;exact hb) c
theorem Inv.alias(h:Inv TB Γ V σ){id:Nat}{ob:O}(u:look σ id=some ob):Inv TB Γ (Aw V (V.ρ id) (V.cap id) (V.nl id) V.w) ((V.nx,ob)::kill id σ)/\Ext V (Aw V (V.ρ id) (V.cap id) (V.nl id) V.w):=by
 have e:Ext V (Aw V (V.ρ id) (V.cap id) (V.nl id) V.w):=Ec (io _) λ_ _=>rfl;have hid:=h.st.lt id ob u
 have n:(Aw V (V.ρ id) (V.cap id) (V.nl id) V.w).ρ V.nx=V.ρ id:=by simp [Aw]
 have d:(Aw V (V.ρ id) (V.cap id) (V.nl id) V.w).nl V.nx=V.nl id:=by simp [Aw]
 have g:(Aw V (V.ρ id) (V.cap id) (V.nl id) V.w).cap V.nx=V.cap id:=by simp [Aw]
 have look':∀i o,look ((V.nx,ob)::kill id σ) i=some o->(i=V.nx/\o=ob)\/(i≠V.nx/\i≠id/\look σ i=some o):=λi o hi=>by
  rw [Ax] at hi;by_cases f:V.nx=i
  ·rw [if_pos f] at hi;injection hi with hi;exact .inl ⟨f.symm,hi.symm⟩
  ·rw [if_neg f,Et] at hi
   by_cases A:i=id
   ·rw [if_pos A] at hi;cases hi
   ·rw [if_neg A] at hi;exact .inr ⟨Ne.symm f,A,hi⟩
 have bnew:∀ {o b},DY (Aw V (V.ρ id) (V.cap id) (V.nl id) V.w) V.nx o b↔DY V id o b:=λ{o b} => by cases o<;>simp [DY,n]
 refine⟨⟨h.os,h.tape,h.output,h.old,h.iLt,h.iNew,h.ext.trans e,⟨?_,?_,?_,?_⟩,?_,h.tabs,h.hid.same rfl (λ_ h=>h) (λ_ h=>.inl h) ?_⟩,e⟩
 ·intro i o hi
  rcases look' i o hi with ⟨rfl,rfl⟩|⟨_,_,hi⟩
  ·have s:=h.st.obj id o u
   cases o with
   | cells T k rows=>
    rcases s with ⟨s,z⟩|⟨H,cur,z,F,P,N,M,L⟩
    ·exact .inl ⟨by rw [d];exact s,z⟩
    ·refine .inr ⟨by rw [d];exact H,cur,by rw [n];exact z,by rw [g];exact F,by rw [g];exact P,by rw [g];exact N,M,λi r j c hi I=>?_⟩
     obtain⟨v,K,J⟩:=L i r j c hi I;exact⟨v,K,J.ext e⟩
   | mp=>
    obtain⟨H,ents,clock,z,F⟩:=s;exact⟨by rw [d];exact H,ents,clock,by rw [n];exact z,F⟩
   | sld T l=>exact⟨by rw [d];exact s.1,s.2⟩
  ·exact(h.st.obj i o hi).Bn e (h.st.lt i o hi) λ_ _ _=>rfl
 ·intro i o hi
  rcases look' i o hi with ⟨rfl,rfl⟩|⟨_,_,hi⟩
  ·exact oY _
  ·exact oN (h.st.lt i o hi)
 ·intro i o hi m b hb
  rcases look' i o hi with ⟨rfl,rfl⟩|⟨_,_,hi⟩
  ·exact h.st.free id o u (by rw [<-d];exact m) b (bnew.1 hb)
  ·have a:=h.st.lt i o hi
   exact h.st.free i o hi (λf=>m ((e.nl i a).2 f)) b ((AE e a).1 hb)
 ·intro i i' o o' hi B y m t b hb x
  rcases look' i o hi with ⟨rfl,rfl⟩|⟨_,s,hk⟩<;>rcases look' i' o' B with ⟨rfl,rfl⟩|⟨_,G,p⟩
  ·exact absurd rfl y
  ·have a:=h.st.lt i' o' p
   exact h.st.inj id i' o o' u p (Ne.symm G) (by rw [<-d];exact m) (λf=>t ((e.nl i' a).2 f)) b (bnew.1 hb) ((AE e a).1 x)
  ·have a:=h.st.lt i o hk
   exact h.st.inj i id o o' hk u s (λf=>m ((e.nl i a).2 f)) (by rw [<-d];exact t) b ((AE e a).1 hb) (bnew.1 x)
  ·have a:=h.st.lt i o hk
   have q:=h.st.lt i' o' p;exact h.st.inj i i' o o' hk p y (λf=>m ((e.nl i a).2 f)) (λf=>t ((e.nl i' q).2 f)) b ((AE e a).1 hb) ((AE e q).1 x)
 ·intro i o hi m b hb
  rcases look' i o hi with ⟨rfl,rfl⟩|⟨_,_,hi⟩
  ·exact h.live id o u (by rw [<-d];exact m) b (bnew.1 hb)
  ·have a:=h.st.lt i o hi
   exact h.live i o hi (λf=>m ((e.nl i a).2 f)) b ((AE e a).1 hb)
 ·rintro b ⟨i,o,hi,m,hb⟩
  rcases look' i o hi with ⟨rfl,rfl⟩|⟨_,_,hi⟩
  ·exact⟨id,o,u,by rw [<-d];exact m,bnew.1 hb⟩
  ·have a:=h.st.lt i o hi
   exact⟨i,o,hi,λf=>m ((e.nl i a).2 f),(AE e a).1 hb⟩
theorem Inv.sub(h:Inv TB Γ V σ){σ':Ab}(c:∀id o,look σ' id=some o->look σ id=some o):Inv TB Γ V σ':=
 ⟨h.os,h.tape,h.output,h.old,h.iLt,h.iNew,h.ext,⟨λid o a=>h.st.obj id o (c id o a),λid o a=>h.st.lt id o (c id o a),λid o a=>h.st.free id o (c id o a),
  λid id' o o' a d=>h.st.inj id id' o o' (c id o a) (c id' o' d)⟩,λid o a=>h.live id o (c id o a),h.tabs,h.hid.same rfl (λ_ h=>h) (λ_ h=>.inl h) λb ⟨i,o,hi,e,hb⟩=>⟨i,o,c i o hi,e,hb⟩⟩
end
def zC:Value->C
 | .slice none 0 0=>.d (.l [])
 | v=>.d (.v v)
def OQ:Value->Bool
 | .slice none 0 0=>true
 | v=>NT v
theorem Jg{V:View}{v:Value}(h:OQ v=true):AA V (zC v) v:=by
 unfold zC;split
 ·exact .d .nil
 ·rename_i a
  unfold OQ at h;split at h
  ·exact absurd rfl (a)
  ·exact .d (.v h)
def eC:E->List C
 | .o c=>[c]
 | .a cs=>cs
 | .t _=>[]
 | .e=>[.d (.l [])]
def Sf:E->Bool
 | .t _=>false
 | _=>true
theorem MN{V:View}{e:E}{v:Value}(k:Sf e=true)(h:A2 V e v):C0 V (eC e) v.cells:=by
 cases e with
 | o c =>
  have h:AA V c v:=h
  have : v.cells = #[v]:=by cases h with
   | d h=>cases h with
    | v i=>cases v<;>first|rfl|(simp [NT] at i)
    | nil=>rfl
    | l=>rfl
    | e=>rfl
    | p=>rfl
   | _=>rfl
  rw [this];refine⟨rfl,λj c' v' f g=>?_⟩
  match j with
  | 0=>simp [eC] at f g;subst f g;exact h
  | j+1=>simp [eC] at f
 | a cs=>obtain⟨vs,rfl,h⟩:=h;exact h
 | t=>cases k
 | e =>
  obtain⟨b,rfl⟩:=h;refine⟨rfl,λj c' v' f g=>?_⟩
  match j with
  | 0=>
   simp [eC] at f;subst f;have g:v'=.slice b 0 0:=(Option.some.inj g).symm;subst g
   cases b with
   | none=>exact .d .nil
   | some a=>exact .d (.e (nK _))
  | j+1=>simp [eC] at f
theorem AA.one{V:View}{c:C}{v:Value}(h:AA V c v):v.oneCell'=true:=by
 cases h with
 | d h=>cases h with
  | v a=>cases v<;>first|rfl|(simp [NT] at a)
  | nil=>rfl
  | l=>rfl
  | e=>rfl
  | p=>rfl
 | _=>rfl
section
variable {P:Program}{TB:Bi}{Γ:Ctx}{d:Option Tmp}{ty:TypeId}{pos:String}{af:Array Edge}{g:Option (Nat×Bool)}{f:Env}{σ:Ab}{nx:Nat}
variable {K:E->Ab->Nat->Prop}
theorem Di{o:Oper}(h:∀V ρ,Lc V o f ρ->Inv TB Γ V σ->V.nx=nx->∃v V' x σ',(execOp ρ o).run P V.w=.ok (.value v) V'.w/\Ext V V'/\Inv TB Γ V' σ'/\A2 V' x v/\K x σ' V'.nx):BS P TB Γ o f σ nx K:=by
 intro V a i g e;obtain⟨v,V',x,σ',c,d,hi,b,hk⟩:=h V a.eval i.Gb g e;unfold Oper.wp;rw [c];exact⟨V',v,x,σ',rfl,rfl,d,hi,b,hk⟩
theorem PF{o:Oper}{x:E}(h:∀V ρ,Lc V o f ρ->Inv TB Γ V σ->∃v V',(execOp ρ o).run P V.w=.ok (.value v) V'.w/\Ext V V'/\Inv TB Γ V' σ/\V'.nx=V.nx/\A2 V' x v):AO P TB Γ o f σ nx x:=by
 intro V a j i g;obtain⟨v,V',c,e,hi,d,b⟩:=h V a.eval j.Gb i;unfold Oper.wp;rw [c];exact⟨V',v,rfl,rfl,e,hi,d.trans g,b⟩
theorem WM{V:View}{cs:List C}{vs:Array Value}(h:C0 V cs vs)(i:Nat)(r:List C)(j:Nat)(c:C)(hi:[cs][i]? = some r)(b:r[j]? = some c):∃v,vs[i*cs.length+j]? = some v/\AA V c v:=by
 match i with
 | 0=>
  simp at hi;subst hi
  have a:j < vs.size:=by rw [h.1];exact(am.1 b).1
  exact⟨vs[j],by simp [a],h.2 j c _ b (nc a)⟩
 | i+1=>simp at hi
theorem A1(w:World)(o:Obj)(b:Nat)(h:b < w.heap.size):(w.alloc o).heap[b]? = w.heap[b]?:=by
 show (w.heap.push o)[b]? = _
 rw [Array.getElem?_push,if_neg (by omega)]
theorem BZ(w:World)(o:Obj):(w.alloc o).heap[w.heap.size]? = some o:=by
 show (w.heap.push o)[w.heap.size]? = _
 simp
theorem Mg{V:View}{b c k:Nat}{w:World}:AA (Aw V b c False w) (.ptr V.nx k 0 0) (.pointer (some ⟨b,0,none⟩)):=by
 have:=@AA.ptr (Aw V b c False w) V.nx k 0 0 (by simp [Aw]) (by simp [Aw])
 have h:(Aw V b c False w).ρ V.nx=b:=by simp [Aw]
 rw [h] at this
 simpa using this
theorem Qf{V:View}(h:Inv TB Γ V σ){T:TypeId}{cs:List C}{vs:Array Value}(d:C0 V cs vs) :
 Inv TB Γ (Aw V V.w.heap.size 1 False (V.w.alloc (.cells vs T))) ((V.nx,.cells T cs.length [cs])::σ)/\Ext V (Aw V V.w.heap.size 1 False (V.w.alloc (.cells vs T))):=by
 have e:Ext V (Aw V V.w.heap.size 1 False (V.w.alloc (.cells vs T))):=Ec (by simp) λb hb=>A1 _ _ _ (h.iLt b hb);refine h.alloc rfl rfl rfl rfl (by simp) (λb hb=>A1 _ _ _ hb) (.inr ⟨by simp [Aw],vs,?_,?_,?_,?_,?_,?_⟩)
 ·have:=BZ V.w (.cells vs T)
  simpa only [Aw,if_true] using this
 ·simp [Aw,d.1]
 ·simp [Aw]
 ·simp [Aw,maxLen]
 ·intro r a;simp at a;subst a;rfl
 ·exact λi r j c hi f=>WM (d.ext e) i r j c hi f
theorem Db{T:TypeId}{x:Operand}{e:E}(a:ev f x=some e)(b:Sf e=true)(i:K (.o (.ptr nx (eC e).length 0 0)) ((nx,.cells T (eC e).length [eC e])::σ) (nx+1)):BS P TB Γ ⟨d,.box T x,ty,pos,af,g⟩ f σ nx K:=
 Di λV ρ l k j=>by
  subst j;have h:=MN b (l.get (by simp [Op.operands]) a);obtain⟨hi,c⟩:=Qf k (T:=T) h;refine⟨.pointer (some ⟨V.w.heap.size,0,none⟩),_,_,_,?_,c,hi,?_,i⟩
  ·simp [execOp,Instr.box,newVar,newRow,Aw,go_sem]
  ·exact Mg
theorem dX{T:TypeId}{z:List Value}[p:BU P T z](l:z.all OQ=true)(s:K (.o (.ptr nx z.length 0 0)) ((nx,.cells T z.length [z.map zC])::σ) (nx+1)):BS P TB Γ ⟨d,.alloc T,ty,pos,af,g⟩ f σ nx K:=
 Di λV ρ y x t=>by
  subst t;have b:=p.out;simp only [Y7,m8,d7] at b;obtain⟨i,hi,zv,k,a⟩:=b
  have r:C0 V (z.map zC) zv.cells:=by
   refine⟨by rw [f7,<-a];simp,λj c v n m=>?_⟩;simp only [d9,d7] at n;obtain⟨u,h,rfl⟩:=n
   have:u=v:=by
    rw [<-a] at h;simp only [nZ] at h;rw [h] at m;exact Option.some.inj m
   subst this;exact Jg (gt.1 l u (ce h))
  obtain⟨e,q⟩:=Qf x (T:=T) r;rw [f7] at e;refine⟨.pointer (some ⟨V.w.heap.size,0,none⟩),_,_,_,?_,q,e,?_,s⟩
  ·simp [execOp,Instr.alloc,zeroValue,typeInfo,hi,k,newVar,newRow,Aw,go_sem]
  ·exact Mg
def OO:List C->Option (List D)
 | []=>some []
 | .d x::l=>(OO l).map (x :: ·)
 | _=>none
theorem J0:∀ {l:List C} {ds:List D},OO l=some ds->∀(j:Nat) (x:D),ds[j]? = some x->l[j]? = some (.d x)
 | [],ds,h,j,x,a=>by injection h with h;subst h;simp at a
 | c::l,ds,h,j,x,a=>by
  cases c<;>simp only [OO] at h<;>try cases h
  simp only [d7] at h;obtain⟨ds',b,rfl⟩:=h
  cases j with
  | zero=>simpa using a
  | succ j=>simpa using J0 b j x (by simpa using a)
theorem Lw:∀ {l:List C} {ds:List D},OO l=some ds->ds.length=l.length
 | [],ds,h=>by injection h with h;subst h;rfl
 | c::l,ds,h=>by
  cases c<;>simp only [OO] at h<;>try cases h
  simp only [d7] at h;obtain⟨ds',a,rfl⟩:=h;simp [Lw a]
theorem DJ{T:TypeId}{x:Operand}{e:E}{ds:List D}(n:ev f x=some e)(p:Sf e=true)(m:OO (eC e)=some ds):AO P TB Γ ⟨d,.box T x,ty,pos,af,g⟩ f σ nx (.o (.ip ds)):=
 PF λV ρ s r=>by
  have i:=MN p (s.get (by simp [Op.operands]) n);obtain⟨hi,l⟩:=r.Zo (w:=V.w.alloc (.cells (ρ x).cells T)) rfl rfl rfl (by simp) (λb hb=>A1 _ _ _ hb);refine⟨.pointer (some ⟨V.w.heap.size,0,none⟩),_,?_,l,hi,rfl,?_⟩
  ·simp [execOp,Instr.box,newVar,newRow,QG,go_sem]
  ·refine .ip (vs:=λj=>(ρ x).cells.getD j undef) (.inr rfl) (λj y h=>?_) (λj y h=>?_)
   ·have c:=J0 m j y h
    have a:j < (ρ x).cells.size:=by rw [i.1];exact(am.1 c).1
    have k:(QG V (V.w.alloc (.cells (ρ x).cells T))).w.heap[V.w.heap.size]? = some (.cells (ρ x).cells T):=BZ _ _;simp [World.cell?,k,a]
   ·have c:=J0 m j y h
    have a:j < (ρ x).cells.size:=by rw [i.1];exact(am.1 c).1
    have k:=i.2 j _ _ c (nc a)
    cases k with
    | d q=>simpa [a] using q.ext l
theorem Rn{t:TypeId}{x:Operand}{id k i j n:Nat}{T:TypeId}{rows:List (List C)}{r:List C}{c:C}[u:DU P t false n](m:ev f x=some (.o (.ptr id k i j)))(s:look σ id=some (.cells T k rows))(q:rows[i]? = some r)(y:r[j]? = some c) :
 AO P TB Γ ⟨d,.load t x,ty,pos,af,g⟩ f σ nx (.o c):=
 AG λV ρ B A=>by
  have l:=B.get (by simp [Op.operands]) m;generalize p:ρ x=v at l
  cases l with
  | ptr hid a=>
   rcases A.st.obj id _ s with ⟨b,_⟩|⟨_,cur,b,I,H,G,F,z⟩
   ·exact absurd b a
   ·obtain⟨v,h,e⟩:=z i r j c q y
    refine⟨v,?_,e⟩
    have:V.w.cell? ⟨V.ρ id,i*k+j,none⟩=some v:=by simp [World.cell?,b,h]
    simp [execOp,p,Instr.loadAt,Instr.sureAddr,loadVar,(BG u.out V.w).1,this,go_sem]
theorem bQ{t:TypeId}{x:Operand}{id k i j n:Nat}{T:TypeId}{rows:List (List C)}{r:List C}[A:DU P t true n](F:ev f x=some (.o (.ptr id k i j)))(I:look σ id=some (.cells T k rows))(H:rows[i]? = some r)(M:j+n<=r.length) :
 AO P TB Γ ⟨d,.load t x,ty,pos,af,g⟩ f σ nx (.a ((r.drop j).take n)):=
 AG λV ρ L K=>by
  have B:=L.get (by simp [Op.operands]) F;generalize G:ρ x=v at B
  cases B with
  | ptr hid y=>
   rcases K.st.obj id _ I with ⟨z,_⟩|⟨_,cur,z,S,R,Q,N,J⟩
   ·exact absurd z y
   ·have b:∀q,q < n->∃v,cur[i*k+j+q]? = some v/\AA V (r[j+q]?.getD (.d (.l []))) v:=λq m=>by
     have p:j+q < r.length:=by omega
     obtain⟨v,e,h⟩:=J i r (j+q) r[j+q] H (d5 p);exact⟨v,by rw [nQ];exact e,by rw [d5 p];exact h⟩
    refine⟨.agg ((List.range n).map λq=>cur.getD (i*k+j+q) undef).toArray,?_,_,rfl,by simp;omega,?_⟩
    ·have:(loadCells ⟨V.ρ id,i*k+j,none⟩ n).run P V.w=.ok ((List.range n).map λq=>cur.getD (i*k+j+q) undef).toArray V.w:=run_loadCells V.w _ n _ λq m=>by
      rw [Bx];obtain⟨v,e,_⟩:=b q m;simp [World.cell?,z,e]
     unfold loadCells at this;simp [execOp,G,Instr.loadAt,Instr.sureAddr,loadVar,(BG A.out V.w).1,(BG A.out V.w).2,this,go_sem]
    ·intro q c v s u
     rw [nk] at s;split at s
     ·rename_i m
      rw [nn] at s;obtain⟨v',e,h⟩:=b q m;rw [s] at h
      have:v=v':=by simpa [m,e] using u.symm
      rw [this];exact h
     ·cases s
theorem bI{s kf off:Nat}{x:Operand}{id k i j:Nat}[r:P8 P s kf off](n:ev f x=some (.o (.ptr id k i j))):AO P TB Γ ⟨d,.fieldAddr s x kf,ty,pos,af,g⟩ f σ nx (.o (.ptr id k i (j+off))):=
 AG λV ρ t _=>by
  have m:=t.get (by simp [Op.operands]) n;generalize p:ρ x=v at m
  cases m with
  | ptr hid h=>
   have a:=r.out;unfold XD at a;split at a
   ·rename_i fs q
    split at a
    ·rename_i fl l
     split at a
     ·rename_i ii hi
      cases b:Nat.beq ii.size 0
      ·rw [b] at a
       simp only [cond_false,Option.some.injEq] at a;subst a
       have c:ii.size≠0:=λe=>by rw [e] at b;cases b
       refine⟨.pointer (some ⟨V.ρ id,i*k+j+fl.offset,none⟩),?_,by rw [nQ];exact .ptr hid h⟩;simp [execOp,p,Instr.fieldAt,run_underlying q,l,Instr.sureAddr,fieldPlace,sizeOf,typeInfo,hi,c,Bx,go_sem]
      ·rw [b] at a;cases a
     ·cases a
    ·cases a
   ·cases a
theorem bJ{t e:TypeId}{x y:Operand}{id k len b:Nat}{off:Nat}{n:Int}{ik:IntKind}[u:CO P t e k b](l:ev f x=some (.o (.arr id k off len)))(j:ev f y=some (eI ik n))
 (z:0<=n) (r:n < len):AO P TB Γ ⟨d,.indexAddr t x y,ty,pos,af,g⟩ f σ nx (.o (.ptr id k (off+n.toNat) 0)):=
 AG λV ρ h _=>by
  have c:=h.get (by simp [Op.operands]) l;have w:ρ y=.int ik n:=AA.val (h.get (by simp [Op.operands]) j);generalize m:ρ x=v at c;obtain⟨i,p,hi,q,_⟩:=Gu u.out
  cases c with
  | nil=>omega
  | arr hid a s=>
   refine⟨.pointer (some ⟨V.ρ id,(off+n.toNat)*k+0,none⟩),?_,.ptr hid a⟩;simp [execOp,m,w,Instr.indexAt,asIntOf,run_underlying p,z,r,sizeOf,typeInfo,hi,q,Bx,nz,go_sem]
theorem bM{t:TypeId}{x y:Operand}{id k i j:Nat}{n:Int}{len ke:Nat}{ik:IntKind}[s:OR P t len ke](l:ev f x=some (.o (.ptr id k i j)))(h:ev f y=some (eI ik n))
 (w:0<=n) (r:n < len):AO P TB Γ ⟨d,.indexAddr t x y,ty,pos,af,g⟩ f σ nx (.o (.ptr id k i (j+n.toNat*ke))):=
 AG λV ρ c _=>by
  have b:=c.get (by simp [Op.operands]) l;have u:ρ y=.int ik n:=AA.val (c.get (by simp [Op.operands]) h);generalize m:ρ x=v at b;obtain⟨e,ii,p,hi,q⟩:=TV s.out
  cases b with
  | ptr hid a=>
   refine⟨.pointer (some ⟨V.ρ id,i*k+(j+n.toNat*ke),none⟩),?_,.ptr hid a⟩;simp [execOp,m,u,Instr.indexAt,asIntOf,run_underlying p,Instr.sureAddr,w,r,sizeOf,typeInfo,hi,q,Bx,nQ,go_sem]
theorem Je{t:TypeId}{n:Nat}{w:World}{a:Addr}{v:Value}(h:(sizeOf t).run P w=.ok n w)(b:v.cells.size=n):(storeVar t a v).run P w=(storeCells a v.cells.toList).run P w:=by
 unfold storeVar;simp only [nf,h,mY,b,ne_eq,not_true,if_false]
def Ae(r:List C)(j:Nat)(cs:List C):List C:=r.take j++cs++r.drop (j+cs.length)
theorem Eb{t:TypeId}{x y:Operand}{id k i j n:Nat}{T:TypeId}{rows:List (List C)}{r:List C}{e:E}{ag:Bool}[hl:DU P t ag n](hx:ev f x=some (.o (.ptr id k i j)))(hy:ev f y=some e)(ho:Sf e=true)
 (J:look σ id=some (.cells T k rows)) (hr:rows[i]? = some r) (hn:(eC e).length=n) (hj:j+n<=k) (hK:K (.t []) ((id,.cells T k (rows.set i (Ae r j (eC e))))::σ) nx):BS P TB Γ ⟨d,.store t x y,ty,pos,af,g⟩ f σ nx K:=by
 intro V a Z h2 h3;have Z:=Z.Gb;unfold Oper.wp;generalize a.eval=ρ at Z |-;have N:=Z.get (by simp [Op.operands]) hx;have hc:=MN ho (Z.get (by simp [Op.operands]) hy);generalize hv:ρ x=v at N
 cases N with
 | ptr hid F =>
  rcases h2.st.obj id _ J with ⟨h4,_⟩|⟨_,cur,h4,h5,h6,h7,h8,h9⟩
  ·exact absurd h4 F
  ·have hrk : r.length=k:=h8 r (ce hr)
   have X:=(am.1 hr).1
   have H:(ρ y).cells.size=n:=by rw [hc.1,hn]
   have B:(i+1)*k<=cur.size:=by rw [h5];exact nD _ (by omega)
   have hfit:i*k+j+n<=cur.size:=by rw [nz] at B;omega
   have I:=run_storeCells_at P (V.ρ id) (i*k+j) T (ρ y).cells.toList 0 cur V.w h4 (by simp;omega) (λv hv=>by
    obtain⟨q,A,rfl⟩:=nC hv
    have hq':q < (eC e).length:=by simpa [hc.1] using A
    exact(hc.2 q (eC e)[q] _ (d5 hq') (by simp)).one)
   simp only [qD,Array.length_toList] at I;rw [H] at I
   have hw := h2.write J F (w:=V.w.setRow (V.ρ id) (cur.toList.take (i*k+j)++(ρ y).cells.toList++cur.toList.drop (i*k+j+n)).toArray) (ob':=.cells T k (rows.set i (Ae r j (eC e)))) rfl rfl rfl rfl rfl (by simp) (λb hb=>setRow_other _ _ _ _ hb) (by
    have ee:Ext V { V with w:=V.w.setRow (V.ρ id) (cur.toList.take (i*k+j)++(ρ y).cells.toList++cur.toList.drop (i*k+j+n)).toArray } :=
     ⟨λ_ h=>h,λb hb=>setRow_other _ _ _ _ λe=>h2.st.free id _ J F b e hb,by simp,λ_ _=>rfl,λ_ _=>rfl,λ_ _=>Iff.rfl,io _⟩
    have z:(cur.toList.take (i*k+j)++(ρ y).cells.toList).length=i*k+j+n:=by simp [H];omega
    refine .inr ⟨F,_,setRow_heap _ _ _ _ _ _ h4,?_,by simpa using h6,h7,?_,?_⟩
    ·simp [H];omega
    ·intro r' hr'
     rcases List.mem_or_eq_of_mem_set hr' with h|h
     ·exact h8 r' h
     ·subst h;simp [Ae,hn];omega
    ·intro i' r' j' c m l
     rw [qx] at m
     have Y:∀q,(cur.toList.take (i*k+j)++(ρ y).cells.toList++cur.toList.drop (i*k+j+n)).toArray[q]? = if q < i*k+j then cur[q]? else if q < i*k+j+n then (ρ y).cells[q - (i*k+j)]? else cur[q]?:=by
      intro q;simp only [oa];by_cases A:q < i*k+j+n
      ·rw [d8 (by rw [z];exact A)]
       by_cases u:q < i*k+j
       ·rw [d8 (by simp;omega),if_pos u]
        simp [u]
       ·rw [ge (by simp;omega),if_neg u,if_pos A]
        simp;congr 1;omega
      ·rw [ge (by rw [z];omega),if_neg (by omega),if_neg A,z,nn]
       simp;congr 1;omega
     rw [Y];by_cases M:i=i'
     ·subst M
      rw [if_pos rfl,if_pos X] at m
      injection m with m
      subst m;unfold Ae at l
      have L:(r.take j++eC e).length=j+n:=by simp [hn];omega
      by_cases A:j' < j+n
      ·rw [d8 (by rw [L];exact A)] at l
       by_cases u:j' < j
       ·rw [d8 (by simp;omega)] at l
        rw [nk,if_pos u] at l;obtain⟨v,s,p⟩:=h9 i r j' c hr l;rw [if_pos (by omega)];exact⟨v,s,p.ext ee⟩
       ·rw [ge (by simp;omega)] at l
        have S:(r.take j).length=j:=by simp;omega
        rw [S] at l;rw [if_neg (by omega),if_pos (by omega)]
        have G:j' - j < (ρ y).cells.size:=by omega
        have he:i*k+j' - (i*k+j)=j' - j:=by omega
        rw [he];exact⟨(ρ y).cells[j' - j],nc G,(hc.2 _ c _ l (nc G)).ext ee⟩
      ·rw [ge (by rw [L];omega),L,nn,hn] at l
       have he:j+n+(j' - (j+n))=j':=by omega
       rw [he] at l;obtain⟨v,s,p⟩:=h9 i r j' c hr l;rw [if_neg (by omega),if_neg (by omega)];exact⟨v,s,p.ext ee⟩
     ·rw [if_neg M] at m
      obtain⟨v,s,p⟩:=h9 i' r' j' c m l;have R:r'.length=k:=h8 r' (ce m)
      have hj'k:j' < k:=by rw [<-R];exact(am.1 l).1
      have : ¬(i*k+j<=i'*k+j'/\i'*k+j' < i*k+j+n):=by
       rintro⟨ha,hb⟩
       rcases o8 M with G|G
       ·have:=nD k (show i+1<=i' by omega)
        rw [nz] at this;omega
       ·have:=nD k (show i'+1<=i by omega)
        rw [nz] at this;omega
      by_cases A:i'*k+j' < i*k+j
      ·rw [if_pos A];exact⟨v,s,p.ext ee⟩
      ·rw [if_neg A,if_neg (by omega)];exact⟨v,s,p.ext ee⟩)
   have Q:(execOp ρ ⟨d,.store t x y,ty,pos,af,g⟩).run P V.w=.ok .skip (V.w.setRow (V.ρ id) (cur.toList.take (i*k+j)++(ρ y).cells.toList++cur.toList.drop (i*k+j+n)).toArray):=by
    show ((do Instr.storeAt t (ρ x) (ρ y);pure Go.Next.skip:Sem Go.Next)).run P V.w=_
    rw [hv];simp only [Instr.storeAt,Instr.sureAddr,pure_bind,nf,Je (BG hl.out V.w).2 H,I,mY];rfl
   rw [Q];exact⟨_,undef,_,_,rfl,rfl,hw.2,hw.1,La _,by rw [<-h3] at hK;exact hK⟩
end
def fY(V:View)(k:Nat)(rows:List (List C))(v:Value):Prop:=
 (v=.slice none 0 0/\rows=[])\/
 ∃(a:Addr) (cap:Nat) (vs:Nat->Nat->Value),v=.slice (some a) rows.length cap/\(∀r∈rows,r.length=k)/\
  ∀(i:Nat) (r:List C) (j:Nat) (c:C),rows[i]? = some r->r[j]? = some c->V.w.cell? (a.add (i*k+j))=some (vs i j)/\AA V c (vs i j)
def Hq(σ:Ab)(k:Nat):E->Option (List (List C))
 | .o (.d (.l rows))=>some (rows.map λr=>r.map .d)
 | .o (.arr id k' off len)=>match look σ id with
  | some (.cells _ _ rows)=>bif Nat.beq k' k && Nat.ble (off+len) rows.length then some ((rows.drop off).take len) else none
  | _=>none
 | _=>none
theorem WS{TB:Bi}{Γ:Ctx}{V:View}{σ:Ab}(h:Inv TB Γ V σ){k:Nat}{e:E}{v:Value}{rows:List (List C)}(g:Hq σ k e=some rows)(hk:∀r∈rows,r.length=k)(w:A2 V e v):fY V k rows v:=by
 unfold Hq at g;split at g
 ·rename_i ds
  injection g with g
  subst g
  cases w with
  | d w =>
   cases w with
   | nil=>exact .inl ⟨rfl,rfl⟩
   | @e a cap=>exact .inr ⟨a,cap,λ_ _=>undef,rfl,by simp,λi r j c hi=>by simp at hi⟩
   | @l _ b o k' cap vs hb H Q B P s=>
    refine .inr ⟨⟨b,o,none⟩,cap,vs,by simp,hk,λi r j c hi u=>?_⟩;simp only [d9,d7] at hi;obtain⟨q,m,rfl⟩:=hi;simp only [d9,d7] at u;obtain⟨x,G,rfl⟩:=u
    have:k'=k:=by
     have S:=B i q m;have J:=hk (q.map .d) (em.2 ⟨q,ce m,rfl⟩);rw [f7] at J;omega
    subst this;exact⟨by rw [Bx,<-nQ];exact P i q j x m G,.d (s i q j x m G)⟩
 ·rename_i id k' off len
  split at g
  ·rename_i T n f L
   cases hb:Nat.beq k' k && Nat.ble (off+len) f.length
   ·rw [hb] at g;cases g
   ·rw [hb] at g
    injection g with g
    subst g;rw [d6] at hb;have z:=i7 hb.1;have K:=co hb.2;subst z
    cases w with
    | nil H B=>exact .inl ⟨rfl,by simp⟩
    | arr H y B=>
     rcases h.st.obj id _ L with ⟨s,_⟩|⟨_,cur,s,Z,Y,X,N,M⟩
     ·exact absurd s y
     ·rcases nM len with I|I
      ·subst I
       exact .inr ⟨⟨V.ρ id,off*k',none⟩,V.cap id - off,λ_ _=>undef,by simp,by simp,λi r j c hi=>by simp at hi⟩
      ·have A:n=k':=by
        have p:0 < ((f.drop off).take len).length:=by simp;omega
        have S:=hk _ (nA p);have J:=N _ (pz (nE (nA p)));omega
       subst A;refine .inr ⟨⟨V.ρ id,off*n,none⟩,V.cap id - off,λi j=>cur.getD ((off+i)*n+j) undef,?_,hk,λi r j c hi u=>?_⟩
       ·have:((f.drop off).take len).length=len:=by simp;omega
        rw [this]
       ·rw [nk] at hi
        split at hi
        ·rename_i p
         rw [nn] at hi;obtain⟨v,t,F⟩:=M (off+i) r j c hi u
         have R:off*n+i*n+j=(off+i)*n+j:=by rw [nz]
         have:cur.getD ((off+i)*n+j) undef=v:=by simp [t]
         simp only [this];exact⟨by rw [Bx,<-nQ,R];simp [World.cell?,s,t],F⟩
        ·cases hi
  ·cases g
 ·cases g
def C8(m k:Nat)(vs:Nat->Nat->Value):List Value:=(List.range (m*k)).map λq=>vs (q / k) (q % k)
theorem Kt{m k:Nat}{vs:Nat->Nat->Value}{i j:Nat}(hi:i < m)(b:j < k):(C8 m k vs)[i*k+j]? = some (vs i j):=by
 have a:i*k+j < m*k:=by
  have:=nD k (show i+1<=m by omega);rw [nz] at this;omega
 have hk:0 < k:=by omega
 have d:(i*k+j) / k=i:=by rw [po,Nat.add_mul_div_right _ _ hk,Nat.div_eq_of_lt b,ms]
 have c:(i*k+j) % k=j:=by rw [po,Nat.add_mul_mod_self_right,nF b]
 simp [C8,a,d,c]
theorem Ku{m k:Nat}{vs:Nat->Nat->Value}{q:Nat}{u:Value}(h:(C8 m k vs)[q]? = some u):∃i j,q=i*k+j/\i < m/\j < k/\u=vs i j:=by
 have a:=(am.1 h).1;simp [C8] at a
 have hk:0 < k:=by rcases nM k with b|b;(subst b;simp at a);exact b
 refine⟨q / k,q % k,?_,?_,Nat.mod_lt _ hk,?_⟩
 ·rw [pL];exact(Nat.div_add_mod q k).symm
 ·exact Nat.div_lt_of_lt_mul (by rw [pL];exact a)
 ·simp [C8,a] at h;exact h.symm
theorem CT(m k:Nat)(vs:Nat->Nat->Value):(C8 m k vs).length=m*k:=by simp [C8]
section
variable {P:Program}{TB:Bi}{Γ:Ctx}{d:Option Tmp}{ty:TypeId}{pos:String}{af:Array Edge}{g:Option (Nat×Bool)}{f:Env}{σ:Ab}{nx:Nat}
variable {K:E->Ab->Nat->Prop}
theorem E8{t e:TypeId}{i:TypeInfo}(ht:P.underlying t=some (.slice e))(hi:P.info? e=some i)(w:World)(base:Option Addr)(n cap:Nat)(a:n<=cap)(ty:TypeId) :
 (Builtin.append_ #[t,t] ty #[.slice base n cap,.slice none 0 0]).run P w=.ok (.slice base n cap) w:=by
 cases base<;>simp [Builtin.append_,run_underlying ht,sizeOf,typeInfo,hi,Builtin.lenOf,Builtin.firstCells,storeCells,a,go_sem]
theorem MD{V:View}{k:Nat}{rows news:List (List C)}{cur':Array Value}(b:∀(i:Nat) (r:List C) (j:Nat) (c:C),rows[i]? = some r->r[j]? = some c->∃v,cur'[i*k+j]? = some v/\AA V c v)
 (d:∀(i:Nat) (r:List C) (j:Nat) (c:C),news[i]? = some r->r[j]? = some c->∃v,cur'[(rows.length+i)*k+j]? = some v/\AA V c v) :
 ∀(i:Nat) (r:List C) (j:Nat) (c:C),(rows++news)[i]? = some r->r[j]? = some c->∃v,cur'[i*k+j]? = some v/\AA V c v:=by
 intro i r j c hi a;by_cases h:i < rows.length
 ·rw [d8 h] at hi;exact b i r j c hi a
 ·rw [ge (by omega)] at hi
  have:=d (i - rows.length) r j c hi a
  have e:rows.length+(i - rows.length)=i:=by omega
  rw [e] at this;exact this
theorem Aj{t e:TypeId}{k b:Nat}{z:List Value}{s x:Operand}{id len:Nat}{rows news:List (List C)}{ex:E}[hl:CO P t e k b][hz:BU P e z]
 (hs:ev f s=some (.o (.arr id k 0 len))) (hx:ev f x=some ex) (Y:look σ id=some (.cells e k rows)) (G:rows.length=len) (hsrc:Hq σ k ex=some news) (hkk:∀r∈news,r.length=k)
 (hzk:z.length=k) (hb0:0 < b) (hb:(len+news.length)*b<=140737488355328)
 (hK:K (.o (.arr nx k 0 (len+news.length))) ((nx,.cells e k (rows++news))::kill id σ) (nx+1)):BS P TB Γ ⟨d,.call ⟨.builtin .append,#[s,x],#[t,t]⟩,ty,pos,af,g⟩ f σ nx K:=
 Di λV ρ h1 h2 h3=>by
  subst h3;obtain⟨i,hu,hi,I,hby⟩:=Gu hl.out;have hz':=hz.out;simp only [Y7,hi,oh,d7] at hz';obtain⟨zv,hzv,hzz⟩:=hz'
  have hzc:zv.cells.size=k:=by rw [<-hzk,<-hzz];simp
  have hsr:=h1.get (x:=s) (by simp [Op.operands,Call.operands]) hs;have hxr:=WS h2 hsrc hkk (h1.get (x:=x) (by simp [Op.operands,Call.operands]) hx)
  have A:∀w,(execOp ρ ⟨d,.call ⟨.builtin .append,#[s,x],#[t,t]⟩,ty,pos,af,g⟩).run P w=((Builtin.append_ #[t,t] ty #[ρ s,ρ x]).run P w).andThen λv w'=>.ok (.value v) w':=λw=>by
   simp only [execOp,resolve,invoke,builtin,qF,nX,pM,pure_bind,bind_pure_comp,pe]
  have hmax:len+news.length<=maxLen:=by
   have:len+news.length<=(len+news.length)*b:=ow _ hb0;unfold maxLen;omega
  have hint:((len+news.length:Nat):Int)<=9223372036854775807:=by
   have:len+news.length<=(len+news.length)*b:=ow _ hb0;omega
  generalize hvs:ρ s=vs at *;generalize hvx:ρ x=vx at *;have hob:=h2.st.obj id _ Y
  rcases hxr with ⟨rfl,hnil⟩|⟨xa,xc,xv,rfl,hxk,n⟩
  ·-- nothing is added: the value stays
   subst hnil;obtain⟨hi',he'⟩:=h2.alias Y;rw [nG] at hK;refine⟨vs,_,_,_,?_,he',hi',?_,hK⟩
   ·rw [A]
    cases hsr with
    | nil=>rw [E8 hu hi V.w none 0 0 (io _) ty];rfl
    | arr h4 h5 h6=>rw [E8 hu hi V.w _ len _ (by omega) ty];rfl
   ·have R:(Aw V (V.ρ id) (V.cap id) (V.nl id) V.w).nl V.nx=V.nl id:=by simp [Aw]
    have hnr:(Aw V (V.ρ id) (V.cap id) (V.nl id) V.w).ρ V.nx=V.ρ id:=by simp [Aw]
    have X:(Aw V (V.ρ id) (V.cap id) (V.nl id) V.w).cap V.nx=V.cap id:=by simp [Aw]
    cases hsr with
    | nil h4 h5=>exact AA.nil (by simp [Aw]) (by rw [R];exact h5)
    | arr h4 h5 h6=>
     have:=@AA.arr (Aw V (V.ρ id) (V.cap id) (V.nl id) V.w) V.nx k 0 (len+0) (by simp [Aw]) (by rw [R];exact h5) (by rw [X];exact h6);rw [hnr,X] at this;exact this
  ·have l : (C8 news.length k xv).length=news.length*i.size:=by rw [CT,I]
   have y:∀j u,(C8 news.length k xv)[j]? = some u->V.w.cell? (xa.add j)=some u:=by
    intro q u p;obtain⟨a,b,rfl,ha,hb,rfl⟩:=Ku p
    have hbl:b < news[a].length:=by rw [hxk _ (nA ha)];exact hb
    exact(n a news[a] b news[a][b] (d5 ha) (d5 hbl)).1
   have hnews1:∀u∈C8 news.length k xv,u.oneCell'=true:=by
    intro u hu;obtain⟨q,p,rfl⟩:=nC hu;obtain⟨a,b,_,ha,hb,he⟩:=Ku (d5 p);rw [he]
    have hbl:b < news[a].length:=by rw [hxk _ (nA ha)];exact hb
    exact(n a news[a] b news[a][b] (d5 ha) (d5 hbl)).2.one
   have fresh:∀(olds:List Value) (cap':Nat),olds.length=len*k->len+news.length<=cap'->cap'<=maxLen->
    (∀(i:Nat) (r:List C) (j:Nat) (c:C),rows[i]? = some r->r[j]? = some c->∃v,olds[i*k+j]? = some v/\AA V c v)->
    (Builtin.append_ #[t,t] ty #[vs,.slice (some xa) news.length xc]).run P V.w=.ok (.slice (some ⟨V.w.heap.size,0,none⟩) (len+news.length) cap')
     (V.w.drew.alloc (.cells (olds.toArray++(C8 news.length k xv).toArray++Builtin.zeroCells zv.cells (cap' - (len+news.length))) e))->
    (∀r∈rows,r.length=k)->
    ∃v V' xx σ',(execOp ρ ⟨d,.call ⟨.builtin .append,#[s,x],#[t,t]⟩,ty,pos,af,g⟩).run P V.w=.ok (.value v) V'.w/\Ext V V'/\Inv TB Γ V' σ'/\A2 V' xx v/\K xx σ' V'.nx:=by
    intro olds cap' L hcap hcm hold hrun hrk
    let w':=V.w.drew.alloc (.cells (olds.toArray++(C8 news.length k xv).toArray++Builtin.zeroCells zv.cells (cap' - (len+news.length))) e)
    have ee:Ext V (Aw V V.w.heap.size cap' False w'):=Ec (by simp [w']) λb hb=>A1 V.w.drew _ b (h2.iLt b hb)
    obtain⟨hi',he'⟩:=h2.alloc (c:=cap') (nl:=False) (w:=w') (ob:=.cells e k (rows++news)) rfl rfl rfl rfl (by simp [w']) (λb hb=>A1 V.w.drew _ b hb) (by
     refine .inr ⟨by simp [Aw],olds.toArray++(C8 news.length k xv).toArray++Builtin.zeroCells zv.cells (cap' - (len+news.length)),?_,?_,?_,?_,?_,?_⟩
     ·have:=BZ V.w.drew (.cells (olds.toArray++(C8 news.length k xv).toArray++Builtin.zeroCells zv.cells (cap' - (len+news.length))) e)
      have H:(Aw V V.w.heap.size cap' False w').ρ V.nx=V.w.heap.size:=by simp [Aw]
      rw [H];exact this
     ·have hc:(Aw V V.w.heap.size cap' False w').cap V.nx=cap':=by simp [Aw]
      rw [hc];simp only [Array.size_append,qy,L,CT,Builtin.zeroCells,Array.size_map,Array.size_range,hzc,<-nz];congr 1;omega
     ·have hc:(Aw V V.w.heap.size cap' False w').cap V.nx=cap':=by simp [Aw]
      rw [hc,nw,G];exact hcap
     ·have hc:(Aw V V.w.heap.size cap' False w').cap V.nx=cap':=by simp [Aw]
      rw [hc];exact hcm
     ·intro r H
      rcases f9.1 H with h|h
      ·exact hrk r h
      ·exact hkk r h
     ·refine MD (λi r j c hi B=>?_) (λi r j c hi B=>?_)
      ·obtain⟨v,m,h11⟩:=hold i r j c hi B
       refine⟨v,?_,h11.ext ee⟩;have F:=(am.1 m).1;rw [nt (by simp;omega),nt (by simpa using F)]
       simpa using m
      ·have hil:=(am.1 hi).1
       have hjl:j < k:=by rw [<-hxk r (ce hi)];exact(am.1 B).1
       have m:=Kt (vs:=xv) hil hjl;refine⟨xv i j,?_,(n i r j c hi B).2.ext ee⟩;have F:=(am.1 m).1;rw [G,nz,nQ];rw [nt (by simp [L];omega),oe (by simp [L])]
       simpa [L] using m)
    refine⟨.slice (some ⟨V.w.heap.size,0,none⟩) (len+news.length) cap',_,_,(V.nx,.cells e k (rows++news))::kill id σ,?_,he',hi'.sub ?_,?_,hK⟩
    ·rw [A,hrun];rfl
    ·intro q o p
     rw [Ax] at p |-;by_cases T:V.nx=q
     ·rwa [if_pos T] at p |-
     ·rw [if_neg T] at p |-
      rw [Et] at p;by_cases Q:q=id
      ·rw [if_pos Q] at p;cases p
      ·rwa [if_neg Q] at p
    ·have:=@AA.arr (Aw V V.w.heap.size cap' False w') V.nx k 0 (len+news.length) (by simp [Aw]) (by simp [Aw]) (by simp [Aw];exact hcap)
     have H:(Aw V V.w.heap.size cap' False w').ρ V.nx=V.w.heap.size:=by simp [Aw]
     have hc:(Aw V V.w.heap.size cap' False w').cap V.nx=cap':=by simp [Aw]
     rw [H,hc,oy,qG] at this;exact this
   cases hsr with
   | nil hid M=>
    have S:rows=[]:=m7.1 G
    rcases nM news.length with hm0|hm0
    ·-- nil and nothing: nil
     have R:news=[]:=m7.1 hm0;subst R;obtain⟨hi',he'⟩:=h2.alias Y;rw [nG] at hK;refine⟨.slice none 0 0,_,_,_,?_,he',hi',?_,hK⟩
     ·rw [A]
      simp [Builtin.append_,run_underlying hu,sizeOf,typeInfo,hi,Builtin.lenOf,Builtin.firstCells,loadCells,loadCellsFrom,Aw,go_sem]
     ·exact AA.nil (by simp [Aw]) (by simp [Aw,M])
    ·have H:=run_append_nil (P:=P) V.w t ty e i zv hu hi hzv xa news.length xc _ l y hm0 (by omega) (by rw [hby];have hb':=hb;simp only [ms] at hb';omega)
     refine fresh [] (grownCap V.w news.length 0 e) (by simp) (by simp only [ms];exact grownCap_ge _ _ _ _) (grownCap_le_maxLen _ _ _ _ (by omega)) (λi r j c hi=>by rw [S] at hi;simp at hi) ?_ (λr H=>by rw [S] at H;cases H);rw [H];simp
   | arr hid M hle=>
    rcases hob with ⟨h4,_⟩|⟨_,cur,h4,h5,h6,h7,h8,h9⟩
    ·exact absurd h4 M
    ·have hcs : cur.size=V.cap id*i.size:=by rw [h5,I]
     by_cases J:len+news.length<=V.cap id
     ·-- there is room
      have N:len*i.size+(C8 news.length k xv).length<=cur.size:=by
       rw [l,hcs,<-nz];exact nD _ J
      have H:=run_append_room (P:=P) V.w t ty e i hu hi (V.ρ id) len (V.cap id) cur h4 xa news.length xc _ l y hnews1 J N
      have Z:(cur.toList.take (len*k)++C8 news.length k xv).length=len*k+news.length*k:=by
       rw [I] at N;simp [CT] at N |-;omega
      let w':=V.w.setRow (V.ρ id) (cur.toList.take (len*i.size)++C8 news.length k xv++cur.toList.drop (len*i.size+(C8 news.length k xv).length)).toArray
      have ee:Ext V { V with w:=w' } :=
       ⟨λ_ h=>h,λb hb=>setRow_other _ _ _ _ λe=>h2.st.free id _ Y M b e hb,by simp [w'],λ_ _=>rfl,λ_ _=>rfl,λ_ _=>Iff.rfl,io _⟩
      obtain⟨hw1,hw2⟩:=h2.write Y M (w:=w') (ob':=.cells e k (rows++news)) rfl rfl rfl rfl rfl (by simp [w']) (λb hb=>setRow_other _ _ _ _ hb) (by
       refine .inr ⟨M,_,setRow_heap _ _ _ _ _ _ h4,?_,?_,h7,?_,?_⟩
       ·simp only [qy,nw,ol,qH,Array.length_toList]
        rw [hcs,l,I] at N;simp only [CT,I,h5];omega
       ·rw [nw,G];exact J
       ·intro r H
        rcases f9.1 H with h|h
        ·exact h8 r h
        ·exact hkk r h
       ·simp only [I]
        refine MD (λi' r j c hi B=>?_) (λi' r j c hi B=>?_)
        ·obtain⟨v,m,h11⟩:=h9 i' r j c hi B
         refine⟨v,?_,h11.ext ee⟩
         have hjl:j < k:=by rw [<-h8 r (ce hi)];exact(am.1 B).1
         have hil:=(am.1 hi).1
         have F:i'*k+j < len*k:=by
          have:=nD k (show i'+1<=len by omega);rw [nz] at this;omega
         have hlc:len*k<=cur.size:=by rw [h5];exact nD _ (by omega)
         simp only [oa];rw [d8 (by rw [Z];omega),d8 (by simp;omega),nk,if_pos F]
         simpa using m
        ·have hil:=(am.1 hi).1
         have hjl:j < k:=by rw [<-hxk r (ce hi)];exact(am.1 B).1
         have m:=Kt (vs:=xv) hil hjl;have F:=(am.1 m).1;rw [CT] at F;refine⟨xv i' j,?_,(n i' r j c hi B).2.ext ee⟩
         have hlc:len*k<=cur.size:=by rw [h5];exact nD _ (by omega)
         have htl:(cur.toList.take (len*k)).length=len*k:=by simp;omega
         simp only [oa];rw [G,nz,nQ,d8 (by rw [Z];omega),ge (by rw [htl];omega),htl]
         have:len*k+(i'*k+j) - len*k=i'*k+j:=by omega
         rw [this];exact m)
      have hlk2:look ((id,O.cells e k (rows++news))::σ) id=some (.cells e k (rows++news)):=by rw [Ax,if_pos rfl]
      obtain⟨ha1,ha2⟩:=hw1.alias hlk2;refine⟨.slice (some ⟨V.ρ id,0,none⟩) (len+news.length) (V.cap id),_,_,(V.nx,.cells e k (rows++news))::kill id σ,?_,hw2.trans ha2,ha1.sub ?_,?_,hK⟩
      ·rw [A]
       have:V.cap id - 0=V.cap id:=by omega
       rw [oy,this,H];rfl
      ·intro q o p
       rw [Ax] at p |-;by_cases T:V.nx=q
       ·rwa [if_pos T] at p |-
       ·rw [if_neg T] at p |-
        rw [Et] at p |-;by_cases Q:q=id
        ·rw [if_pos Q] at p;cases p
        ·rw [if_neg Q] at p |-
         rw [Ax,if_neg (Ne.symm Q)];exact p
      ·have R:(Aw { V with w:=w' } (V.ρ id) (V.cap id) (V.nl id) w').nl V.nx=V.nl id:=by simp [Aw]
       have hnr:(Aw { V with w:=w' } (V.ρ id) (V.cap id) (V.nl id) w').ρ V.nx=V.ρ id:=by simp [Aw]
       have X:(Aw { V with w:=w' } (V.ρ id) (V.cap id) (V.nl id) w').cap V.nx=V.cap id:=by simp [Aw]
       have:=@AA.arr (Aw { V with w:=w' } (V.ρ id) (V.cap id) (V.nl id) w') V.nx k 0 (len+news.length) (by simp [Aw]) (by rw [R];exact M) (by rw [X];omega);rw [hnr,X,oy,qG] at this;exact this
     ·-- it grows
      have L:(cur.toList.take (len*k)).length=len*k:=by
       have hlc:len*k<=cur.size:=by rw [h5];exact nD _ (by omega)
       simp;omega
      have H:=run_append_grow (P:=P) V.w t ty e i zv hu hi hzv ⟨V.ρ id,0,none⟩ len (V.cap id) (cur.toList.take (len*k)) (by rw [L,I]) (λj v B=>by
       rw [Bx];rw [nk] at B;split at B
       ·simpa [World.cell?,h4] using B
       ·cases B) xa news.length xc _ l y (by omega) (by omega) (by rw [hby];exact growslice_fits (by omega) hb)
      refine fresh (cur.toList.take (len*k)) (grownCap V.w (len+news.length) (V.cap id) e) L (grownCap_ge _ _ _ _) (grownCap_le_maxLen _ _ _ _ hmax) (λi' r j c hi B=>?_) ?_ h8
      ·obtain⟨v,m,h11⟩:=h9 i' r j c hi B
       refine⟨v,?_,h11⟩
       have hjl:j < k:=by rw [<-h8 r (ce hi)];exact(am.1 B).1
       have hil:=(am.1 hi).1
       have F:i'*k+j < len*k:=by
        have:=nD k (show i'+1<=len by omega);rw [nz] at this;omega
       rw [nk,if_pos F];simpa using m
      ·have:V.cap id - 0=V.cap id:=by omega
       rw [oy,this];exact H
end
end Go.Am
