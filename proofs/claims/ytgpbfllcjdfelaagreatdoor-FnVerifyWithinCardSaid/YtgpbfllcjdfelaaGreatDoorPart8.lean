/-
  What becomes of the call's own objects: new ones, writes, other names.
-/
import Derived.Test.YtgpbfllcjdfelaaGreatDoorPart7
import Derived.Laws.CopyRow
set_option linter.all false
namespace Go.Am
open Go
def kill(id:Nat):Ab->Ab
 | []=>[]
 | (k,o)::r=>bif Nat.beq k id then kill id r else (k,o)::kill id r
theorem EM:∀(σ:Ab) (id i:Nat),look (kill id σ) i=if i=id then none else look σ i
 | [],id,i=>by simp [kill,look]
 | (k, o)::r,id,i=>by
  simp only [kill];by_cases h:k=id
  ·subst h
   simp only [oU,cond_true];rw [EM r k i,Az];by_cases a:i=k
   ·simp [a]
   ·rw [if_neg a,if_neg a,if_neg (Ne.symm a)]
  ·have:Nat.beq k id=false:=by
    cases hb:Nat.beq k id
    ·rfl
    ·exact absurd (f7 hb) h
   rw [this,cond_false,Az,Az,EM r id i];by_cases a:i=id
   ·subst a;simp [h]
   ·simp [a]
def Ax(V:View)(b c:Nat)(nl:Prop)(w:World):View:=
 {I:=V.I,ρ:=λi=>if i=V.nx then b else V.ρ i,cap:=λi=>if i=V.nx then c else V.cap i,nl:=λi=>if i=V.nx then nl else V.nl i,nx:=V.nx+1,w:=w }
def QT(V:View)(w:World):View:={ V with I:=λb=>V.I b\/b=V.w.heap.size,w:=w }
section
variable {TB:Bp}{Z:Ctx}{V:View}{σ:Ab}
theorem En{b c:Nat}{nl:Prop}{w:World}(d:V.w.heap.size<=w.heap.size)(a:∀b,V.I b->w.heap[b]? = V.w.heap[b]?):Ext V (Ax V b c nl w):=by
 refine⟨λ_ h=>h,a,d,λi hi=>?_,λi hi=>?_,λi hi=>?_,Nat.le_succ _⟩<;>simp [Ax,Nat.ne_of_lt hi]
def O.one:O->Bool
 | .sld .. => false
 | _=>true
theorem O.Nk{V:View}{id:Nat}{o:O}(h:o.one=true):Eh V id o=λb=>b=V.ρ id:=by
 cases o with
 | sld=>cases h
 | _=>rfl
theorem Inv.alloc(h:Inv TB Z V σ){c:Nat}{nl:Prop}{w:World}{ob:O}(B:ob.one=true)(t:w.os=V.w.os)(ht:w.tape=V.w.tape)(z:w.output=V.w.output)(y:V.w.heap.size<=w.heap.size)
 (r:∀b,b < V.w.heap.size->w.heap[b]? = V.w.heap[b]?) (u:Cs (Ax V V.w.heap.size c nl w) V.nx ob):Inv TB Z (Ax V V.w.heap.size c nl w) ((V.nx,ob)::σ)/\Ext V (Ax V V.w.heap.size c nl w):=by
 have e:Ext V (Ax V V.w.heap.size c nl w):=En y λb hb=>r b (h.iLt b hb)
 have k:Eh (Ax V V.w.heap.size c nl w) V.nx ob=λb=>b=V.w.heap.size:=by rw [O.Nk B];simp [Ax]
 refine⟨⟨t.trans h.os,ht.trans h.tape,z.trans h.output,λb hb v=>(r b (lC hb h.ext.size)).trans (h.old b hb v),λb hb=>lC (h.iLt b hb) y,h.iNew,h.ext.trans e,⟨?_,?_,?_,?_⟩,?_,?_,h.hid.step e.i e.heap e.size (λb hb _ _=>r b hb) (λb hb=>.inl hb) λb v=>?_⟩,e⟩
 ·intro id o a
  rw [Az] at a;by_cases d:V.nx=id
  ·rw [if_pos d] at a;injection a with a;subst a;subst d;exact u
  ·rw [if_neg d] at a
   exact(h.st.obj id o a).AL e (h.st.lt id o a) λl b hb=>r _ ((h.st.obj id o a).blt l hb)
 ·intro id o a
  rw [Az] at a;by_cases d:V.nx=id
  ·subst d;exact nw _
  ·rw [if_neg d] at a;exact mV (h.st.lt id o a)
 ·intro id o a l b hb
  rw [Az] at a;by_cases d:V.nx=id
  ·subst d
   rw [if_pos rfl] at a;injection a with a;subst a
   intro hI;rw [k] at hb;subst hb;exact Nat.lt_irrefl _ (h.iLt _ hI)
  ·rw [if_neg d] at a
   have f:=h.st.lt id o a;exact h.st.free id o a (λm=>l ((e.nl id f).2 m)) b ((AD e f).1 hb)
 ·intro id id' o o' a g s l m b hb n
  rw [Az] at a g;by_cases d:V.nx=id
  ·subst d
   rw [if_neg s] at g
   rw [if_pos rfl] at a;injection a with a;subst a
   have f:=h.st.lt id' o' g;have:=(h.st.obj id' o' g).blt (λj=>m ((e.nl id' f).2 j)) ((AD e f).1 n);rw [k] at hb;subst hb;omega
  ·rw [if_neg d] at a
   have f:=h.st.lt id o a;have A:=(h.st.obj id o a).blt (λj=>l ((e.nl id f).2 j)) ((AD e f).1 hb);by_cases q:V.nx=id'
   ·subst q
    rw [if_pos rfl] at g;injection g with g;subst g
    rw [k] at n;subst n;omega
   ·rw [if_neg q] at g
    have p:=h.st.lt id' o' g;exact h.st.inj id id' o o' a g s (λj=>l ((e.nl id f).2 j)) (λj=>m ((e.nl id' p).2 j)) b ((AD e f).1 hb) ((AD e p).1 n)
 ·intro id o a l b hb
  rw [Az] at a;by_cases d:V.nx=id
  ·subst d
   rw [if_pos rfl] at a;injection a with a;subst a
   left
   rw [k] at hb;subst hb;exact h.ext.size
  ·rw [if_neg d] at a
   have f:=h.st.lt id o a;exact h.live id o a (λj=>l ((e.nl id f).2 j)) b ((AD e f).1 hb)
 ·intro x j
  have:=h.tabs x j;exact⟨this.1,(r _ (h.iLt _ this.1)).trans this.2⟩
 ·obtain⟨id,o,a,l,hb⟩:=v
  rw [Az] at a;by_cases d:V.nx=id
  ·subst d
   rw [if_pos rfl] at a;injection a with a;subst a
   rw [k] at hb;exact .inr (Nat.le_of_eq hb.symm)
  ·rw [if_neg d] at a
   have f:=h.st.lt id o a;exact .inl ⟨id,o,a,λj=>l ((e.nl id f).2 j),(AD e f).1 hb⟩
theorem Inv.Y0(h:Inv TB Z V σ){w:World}(j:w.os=V.w.os)(ht:w.tape=V.w.tape)(l:w.output=V.w.output)(g:V.w.heap.size < w.heap.size)
 (c:∀b,b < V.w.heap.size->w.heap[b]? = V.w.heap[b]?):Inv TB Z (QT V w) σ/\Ext V (QT V w):=by
 have e:Ext V (QT V w):=⟨λ_ h=>.inl h,λb hb=>c b (h.iLt b hb),po g,λ_ _=>rfl,λ_ _=>rfl,λ_ _=>Iff.rfl,io _⟩
 refine⟨⟨j.trans h.os,ht.trans h.tape,l.trans h.output,λb hb k=>(c b (lC hb h.ext.size)).trans (h.old b hb k),?_,?_,h.ext.trans e,⟨?_,h.st.lt,?_,h.st.inj⟩,h.live,?_,h.hid.step e.i e.heap e.size (λb hb _ _=>c b hb) (λb hb=>hb.elim .inl λf=>.inr (.inr (Nat.le_of_eq (show b=V.w.heap.size from f).symm))) λb k=>.inl (Iw e h.st.lt k)⟩,e⟩
 ·intro b hb
  rcases hb with hb|hb
  ·exact Nat.lt_trans (h.iLt b hb) g
  ·subst hb;exact g
 ·intro b hb
  rcases hb with hb|hb
  ·exact h.iNew b hb
  ·subst hb;exact .inr (.inl h.ext.size)
 ·intro id o a
  exact(h.st.obj id o a).AL e (h.st.lt id o a) λd b hb=>c _ ((h.st.obj id o a).blt d hb)
 ·intro id o a d b hb hI
  have hb:=(AD e (h.st.lt id o a)).1 hb
  rcases hI with hI|hI
  ·exact h.st.free id o a d b hb hI
  ·have hI:b=V.w.heap.size:=hI
   have:=(h.st.obj id o a).blt d hb;omega
 ·intro x f
  have:=h.tabs x f;exact⟨.inl this.1,(c _ (h.iLt _ this.1)).trans this.2⟩
theorem Inv.gr(h:Inv TB Z V σ){id:Nat}{ob ob':O}(m:look σ id=some ob)(g:¬V.nl id){w:World}(q:w.os=V.w.os)(ht:w.tape=V.w.tape)(z:w.output=V.w.output)(v:w.heap.size=V.w.heap.size)
 (l:∀b,¬Eh V id ob b->w.heap[b]? = V.w.heap[b]?) (p:∀b,Eh V id ob' b->Eh V id ob b) (r:Cs { V with w:=w } id ob'):Inv TB Z { V with w:=w } ((id,ob')::σ)/\Ext V { V with w:=w } := by
 have f:∀b,V.I b->¬Eh V id ob b:=λb hb e=>h.st.free id ob m g b e hb
 have e:Ext V { V with w:=w } := ⟨λ_ h=>h,λb hb=>l b (f b hb),Nat.le_of_eq v.symm,λ_ _=>rfl,λ_ _=>rfl,λ_ _=>Iff.rfl,io _⟩
 have bw:∀ {i o b},Eh { V with w:=w } i o b↔Eh V i o b:=λ{i o b} => by cases o<;>exact Iff.rfl
 have look':∀i o,look ((id,ob')::σ) i=some o->∃a,look σ i=some a/\∀b,Eh V i o b->Eh V i a b:=λi o hi=>by
  rw [Az] at hi;by_cases c:id=i
  ·subst c;rw [if_pos rfl] at hi;injection hi with hi;subst hi;exact⟨ob,m,p⟩
  ·rw [if_neg c] at hi;exact⟨o,hi,λ_ h=>h⟩
 refine⟨⟨q.trans h.os,ht.trans h.tape,z.trans h.output,?_,λb hb=>by show b < w.heap.size;rw [v];exact h.iLt b hb,h.iNew,h.ext.trans e,⟨?_,?_,?_,?_⟩,?_,?_,h.hid.step e.i e.heap e.size (λb _ _ n=>l b λhb=>n ⟨id,ob,m,g,hb⟩) (λ_ h=>.inl h) (λb ⟨i,o,hi,d,hb⟩=>.inl (let ⟨a,k,j⟩:=look' i o hi;⟨i,a,k,d,j b (bw.1 hb)⟩))⟩,e⟩
 ·intro b hb n
  have:¬Eh V id ob b:=by
   intro c
   rcases h.live id ob m g b c with j|j
   ·omega
   ·exact n j
  exact(l b this).trans (h.old b hb n)
 ·intro i o hi
  rw [Az] at hi;by_cases c:id=i
  ·rw [if_pos c] at hi;injection hi with hi;subst hi;subst c;exact r
  ·rw [if_neg c] at hi
   exact(h.st.obj i o hi).AL e (h.st.lt i o hi) λd b hb=>l _ λA=>h.st.inj id i ob o m hi c g d b A hb
 ·intro i o hi;obtain⟨a,k,_⟩:=look' i o hi;exact h.st.lt i a k
 ·intro i o hi g b hb;obtain⟨a,k,j⟩:=look' i o hi;exact h.st.free i a k g b (j b (bw.1 hb))
 ·intro i i' o o' hi t s g d b hb u;obtain⟨a,k,F⟩:=look' i o hi;obtain⟨y,j,B⟩:=look' i' o' t;exact h.st.inj i i' a y k j s g d b (F b (bw.1 hb)) (B b (bw.1 u))
 ·intro i o hi g b hb;obtain⟨a,k,j⟩:=look' i o hi;exact h.live i a k g b (j b (bw.1 hb))
 ·intro x c
  have:=h.tabs x c;exact⟨this.1,(l _ (f _ this.1)).trans this.2⟩
theorem Inv.write(h:Inv TB Z V σ){id:Nat}{ob ob':O}(j:look σ id=some ob)(i:¬V.nl id){w:World}(d:ob.one=true)(k:ob'.one=true)(a:w.os=V.w.os)(ht:w.tape=V.w.tape)(g:w.output=V.w.output)(f:w.heap.size=V.w.heap.size)
 (e:∀b,b≠V.ρ id->w.heap[b]? = V.w.heap[b]?) (c:Cs { V with w:=w } id ob'):Inv TB Z { V with w:=w } ((id,ob')::σ)/\Ext V { V with w:=w } :=
 h.gr j i a ht g f (λb hb=>e b (by rw [O.Nk d] at hb;exact hb)) (λb hb=>by rw [O.Nk d];rw [O.Nk k] at hb;exact hb) c
theorem Inv.alias(h:Inv TB Z V σ){id:Nat}{ob:O}(u:look σ id=some ob):Inv TB Z (Ax V (V.ρ id) (V.cap id) (V.nl id) V.w) ((V.nx,ob)::kill id σ)/\Ext V (Ax V (V.ρ id) (V.cap id) (V.nl id) V.w):=by
 have e:Ext V (Ax V (V.ρ id) (V.cap id) (V.nl id) V.w):=En (io _) λ_ _=>rfl;have J:=h.st.lt id ob u
 have n:(Ax V (V.ρ id) (V.cap id) (V.nl id) V.w).ρ V.nx=V.ρ id:=by simp [Ax]
 have d:(Ax V (V.ρ id) (V.cap id) (V.nl id) V.w).nl V.nx=V.nl id:=by simp [Ax]
 have g:(Ax V (V.ρ id) (V.cap id) (V.nl id) V.w).cap V.nx=V.cap id:=by simp [Ax]
 have look':∀i o,look ((V.nx,ob)::kill id σ) i=some o->(i=V.nx/\o=ob)\/(i≠V.nx/\i≠id/\look σ i=some o):=λi o hi=>by
  rw [Az] at hi;by_cases f:V.nx=i
  ·rw [if_pos f] at hi;injection hi with hi;exact .inl ⟨f.symm,hi.symm⟩
  ·rw [if_neg f,EM] at hi
   by_cases A:i=id
   ·rw [if_pos A] at hi;cases hi
   ·rw [if_neg A] at hi;exact .inr ⟨Ne.symm f,A,hi⟩
 have bnew:∀ {o b},Eh (Ax V (V.ρ id) (V.cap id) (V.nl id) V.w) V.nx o b↔Eh V id o b:=λ{o b} => by cases o<;>simp [Eh,n]
 refine⟨⟨h.os,h.tape,h.output,h.old,h.iLt,h.iNew,h.ext.trans e,⟨?_,?_,?_,?_⟩,?_,h.tabs,h.hid.same rfl (λ_ h=>h) (λ_ h=>.inl h) ?_⟩,e⟩
 ·intro i o hi
  rcases look' i o hi with ⟨rfl,rfl⟩|⟨_,_,hi⟩
  ·have s:=h.st.obj id o u
   cases o with
   | cells T k rows=>
    rcases s with ⟨s,z⟩|⟨H,cur,z,F,Q,P,N,M⟩
    ·exact .inl ⟨by rw [d];exact s,z⟩
    ·refine .inr ⟨by rw [d];exact H,cur,by rw [n];exact z,by rw [g];exact F,by rw [g];exact Q,by rw [g];exact P,N,λi r j c hi I=>?_⟩
     obtain⟨v,L,K⟩:=M i r j c hi I;exact⟨v,L,K.ext e⟩
   | mp=>
    obtain⟨H,ents,clock,z,F⟩:=s;exact⟨by rw [d];exact H,ents,clock,by rw [n];exact z,F⟩
   | sld T l=>exact⟨by rw [d];exact s.1,s.2⟩
  ·exact(h.st.obj i o hi).AL e (h.st.lt i o hi) λ_ _ _=>rfl
 ·intro i o hi
  rcases look' i o hi with ⟨rfl,rfl⟩|⟨_,_,hi⟩
  ·exact nw _
  ·exact mV (h.st.lt i o hi)
 ·intro i o hi m b hb
  rcases look' i o hi with ⟨rfl,rfl⟩|⟨_,_,hi⟩
  ·exact h.st.free id o u (by rw [<-d];exact m) b (bnew.1 hb)
  ·have a:=h.st.lt i o hi
   exact h.st.free i o hi (λf=>m ((e.nl i a).2 f)) b ((AD e a).1 hb)
 ·intro i i' o o' hi B y m t b hb x
  rcases look' i o hi with ⟨rfl,rfl⟩|⟨_,s,hk⟩<;>rcases look' i' o' B with ⟨rfl,rfl⟩|⟨_,G,p⟩
  ·exact absurd rfl y
  ·have a:=h.st.lt i' o' p
   exact h.st.inj id i' o o' u p (Ne.symm G) (by rw [<-d];exact m) (λf=>t ((e.nl i' a).2 f)) b (bnew.1 hb) ((AD e a).1 x)
  ·have a:=h.st.lt i o hk
   exact h.st.inj i id o o' hk u s (λf=>m ((e.nl i a).2 f)) (by rw [<-d];exact t) b ((AD e a).1 hb) (bnew.1 x)
  ·have a:=h.st.lt i o hk
   have q:=h.st.lt i' o' p;exact h.st.inj i i' o o' hk p y (λf=>m ((e.nl i a).2 f)) (λf=>t ((e.nl i' q).2 f)) b ((AD e a).1 hb) ((AD e q).1 x)
 ·intro i o hi m b hb
  rcases look' i o hi with ⟨rfl,rfl⟩|⟨_,_,hi⟩
  ·exact h.live id o u (by rw [<-d];exact m) b (bnew.1 hb)
  ·have a:=h.st.lt i o hi
   exact h.live i o hi (λf=>m ((e.nl i a).2 f)) b ((AD e a).1 hb)
 ·rintro b ⟨i,o,hi,m,hb⟩
  rcases look' i o hi with ⟨rfl,rfl⟩|⟨_,_,hi⟩
  ·exact⟨id,o,u,by rw [<-d];exact m,bnew.1 hb⟩
  ·have a:=h.st.lt i o hi
   exact⟨i,o,hi,λf=>m ((e.nl i a).2 f),(AD e a).1 hb⟩
theorem Inv.sub(h:Inv TB Z V σ){σ':Ab}(c:∀id o,look σ' id=some o->look σ id=some o):Inv TB Z V σ':=
 ⟨h.os,h.tape,h.output,h.old,h.iLt,h.iNew,h.ext,⟨λid o a=>h.st.obj id o (c id o a),λid o a=>h.st.lt id o (c id o a),λid o a=>h.st.free id o (c id o a),
  λid id' o o' a d=>h.st.inj id id' o o' (c id o a) (c id' o' d)⟩,λid o a=>h.live id o (c id o a),h.tabs,h.hid.same rfl (λ_ h=>h) (λ_ h=>.inl h) λb ⟨i,o,hi,e,hb⟩=>⟨i,o,c i o hi,e,hb⟩⟩
end
def zC:Value->C
 | .slice none 0 0=>.d (.l [])
 | v=>.d (.v v)
def Pm:Value->Bool
 | .slice none 0 0=>true
 | v=>Oz v
theorem JR{V:View}{v:Value}(h:Pm v=true):AF V (zC v) v:=by
 unfold zC;split
 ·exact .d .nil
 ·rename_i a
  unfold Pm at h;split at h
  ·exact absurd rfl (a)
  ·exact .d (.v h)
def eC:E->List C
 | .o c=>[c]
 | .a cs=>cs
 | .t _=>[]
 | .e=>[.d (.l [])]
def Sc:E->Bool
 | .t _=>false
 | _=>true
theorem NI{V:View}{e:E}{v:Value}(k:Sc e=true)(h:Bg V e v):CY V (eC e) v.cells:=by
 cases e with
 | o c =>
  have h:AF V c v:=h
  have : v.cells = #[v]:=by cases h with
   | d h=>cases h with
    | v i=>cases v<;>first|rfl|(simp [Oz] at i)
    | nil=>rfl
    | l=>rfl
    | e=>rfl
    | p=>rfl
   | _=>rfl
  rw [this];refine⟨rfl,λj c' v' f g=>?_⟩
  match j with
  | 0=>simp [eC] at f g;subst f g;exact h
  | j+1=>simp [eC] at f
 | a cs=>obtain⟨vs,rfl,h⟩:=h;exact h
 | t=>cases k
 | e =>
  obtain⟨b,rfl⟩:=h;refine⟨rfl,λj c' v' f g=>?_⟩
  match j with
  | 0=>
   simp [eC] at f;subst f;have g:v'=.slice b 0 0:=(Option.some.inj g).symm;subst g
   cases b with
   | none=>exact .d .nil
   | some a=>exact .d (.e (me _))
  | j+1=>simp [eC] at f
theorem AF.one{V:View}{c:C}{v:Value}(h:AF V c v):v.oneCell'=true:=by
 cases h with
 | d h=>cases h with
  | v a=>cases v<;>first|rfl|(simp [Oz] at a)
  | nil=>rfl
  | l=>rfl
  | e=>rfl
  | p=>rfl
 | _=>rfl
section
variable {P:Program}{TB:Bp}{Z:Ctx}{d:Option Tmp}{ty:TypeId}{pos:String}{af:Array Edge}{g:Option (Nat×Bool)}{f:Env}{σ:Ab}{nx:Nat}
variable {K:E->Ab->Nat->Prop}
theorem Dr{o:Oper}(h:∀V ρ,Mi V o f ρ->Inv TB Z V σ->V.nx=nx->∃v V' x σ',(execOp ρ o).run P V.w=.ok (.value v) V'.w/\Ext V V'/\Inv TB Z V' σ'/\Bg V' x v/\K x σ' V'.nx):BQ P TB Z o f σ nx K:=by
 intro V a i g e;obtain⟨v,V',x,σ',c,d,hi,b,hk⟩:=h V a.eval i.GV g e;unfold Oper.wp;rw [c];exact⟨V',v,x,σ',rfl,rfl,d,hi,b,hk⟩
theorem PX{o:Oper}{x:E}(h:∀V ρ,Mi V o f ρ->Inv TB Z V σ->∃v V',(execOp ρ o).run P V.w=.ok (.value v) V'.w/\Ext V V'/\Inv TB Z V' σ/\V'.nx=V.nx/\Bg V' x v):AW P TB Z o f σ nx x:=by
 intro V a j i g;obtain⟨v,V',c,e,hi,d,b⟩:=h V a.eval j.GV i;unfold Oper.wp;rw [c];exact⟨V',v,rfl,rfl,e,hi,d.trans g,b⟩
theorem WJ{V:View}{cs:List C}{vs:Array Value}(h:CY V cs vs)(i:Nat)(r:List C)(j:Nat)(c:C)(hi:[cs][i]? = some r)(b:r[j]? = some c):∃v,vs[i*cs.length+j]? = some v/\AF V c v:=by
 match i with
 | 0=>
  simp at hi;subst hi
  have a:j < vs.size:=by rw [h.1];exact(ce.1 b).1
  exact⟨vs[j],by simp [a],h.2 j c _ b (lD a)⟩
 | i+1=>simp at hi
theorem Bj(w:World)(o:Obj)(b:Nat)(h:b < w.heap.size):(w.alloc o).heap[b]? = w.heap[b]?:=by
 show (w.heap.push o)[b]? = _
 rw [Array.getElem?_push,if_neg (by omega)]
theorem Cp(w:World)(o:Obj):(w.alloc o).heap[w.heap.size]? = some o:=by
 show (w.heap.push o)[w.heap.size]? = _
 simp
theorem Nn{V:View}{b c k:Nat}{w:World}:AF (Ax V b c False w) (.ptr V.nx k 0 0) (.pointer (some ⟨b,0,none⟩)):=by
 have:=@AF.ptr (Ax V b c False w) V.nx k 0 0 (by simp [Ax]) (by simp [Ax])
 have h:(Ax V b c False w).ρ V.nx=b:=by simp [Ax]
 rw [h] at this
 simpa using this
theorem Qu{V:View}(h:Inv TB Z V σ){T:TypeId}{cs:List C}{vs:Array Value}(d:CY V cs vs) :
 Inv TB Z (Ax V V.w.heap.size 1 False (V.w.alloc (.cells vs T))) ((V.nx,.cells T cs.length [cs])::σ)/\Ext V (Ax V V.w.heap.size 1 False (V.w.alloc (.cells vs T))):=by
 have e:Ext V (Ax V V.w.heap.size 1 False (V.w.alloc (.cells vs T))):=En (by simp) λb hb=>Bj _ _ _ (h.iLt b hb);refine h.alloc rfl rfl rfl rfl (by simp) (λb hb=>Bj _ _ _ hb) (.inr ⟨by simp [Ax],vs,?_,?_,?_,?_,?_,?_⟩)
 ·have:=Cp V.w (.cells vs T)
  simpa only [Ax,if_true] using this
 ·simp [Ax,d.1]
 ·simp [Ax]
 ·simp [Ax,maxLen]
 ·intro r a;simp at a;subst a;rfl
 ·exact λi r j c hi f=>WJ (d.ext e) i r j c hi f
theorem CT{T:TypeId}{x:Operand}{e:E}(a:ev f x=some e)(b:Sc e=true)(i:K (.o (.ptr nx (eC e).length 0 0)) ((nx,.cells T (eC e).length [eC e])::σ) (nx+1)):BQ P TB Z ⟨d,.box T x,ty,pos,af,g⟩ f σ nx K:=
 Dr λV ρ l k j=>by
  subst j;have h:=NI b (l.get (by simp [Op.operands]) a);obtain⟨hi,c⟩:=Qu k (T:=T) h;refine⟨.pointer (some ⟨V.w.heap.size,0,none⟩),_,_,_,?_,c,hi,?_,i⟩
  ·simp [execOp,Instr.box,newVar,newRow,Ax,go_sem]
  ·exact Nn
theorem cV{T:TypeId}{z:List Value}[p:BJ P T z](l:z.all Pm=true)(s:K (.o (.ptr nx z.length 0 0)) ((nx,.cells T z.length [z.map zC])::σ) (nx+1)):BQ P TB Z ⟨d,.alloc T,ty,pos,af,g⟩ f σ nx K:=
 Dr λV ρ y x t=>by
  subst t;have b:=p.out;simp only [YJ,lH,d7] at b;obtain⟨i,hi,zv,k,a⟩:=b
  have r:CY V (z.map zC) zv.cells:=by
   refine⟨by rw [f9,<-a];simp,λj c v n m=>?_⟩;simp only [ge,d7] at n;obtain⟨u,h,rfl⟩:=n
   have:u=v:=by
    rw [<-a] at h;simp only [ms] at h;rw [h] at m;exact Option.some.inj m
   subst this;exact JR (gc.1 l u (co h))
  obtain⟨e,q⟩:=Qu x (T:=T) r;rw [f9] at e;refine⟨.pointer (some ⟨V.w.heap.size,0,none⟩),_,_,_,?_,q,e,?_,s⟩
  ·simp [execOp,Instr.alloc,zeroValue,typeInfo,hi,k,newVar,newRow,Ax,go_sem]
  ·exact Nn
def Pl:List C->Option (List D)
 | []=>some []
 | .d x::l=>(Pl l).map (x :: ·)
 | _=>none
theorem KV:∀ {l:List C} {ds:List D},Pl l=some ds->∀(j:Nat) (x:D),ds[j]? = some x->l[j]? = some (.d x)
 | [],ds,h,j,x,a=>by injection h with h;subst h;simp at a
 | c::l,ds,h,j,x,a=>by
  cases c<;>simp only [Pl] at h<;>try cases h
  simp only [d7] at h;obtain⟨ds',b,rfl⟩:=h
  cases j with
  | zero=>simpa using a
  | succ j=>simpa using KV b j x (by simpa using a)
theorem MI:∀ {l:List C} {ds:List D},Pl l=some ds->ds.length=l.length
 | [],ds,h=>by injection h with h;subst h;rfl
 | c::l,ds,h=>by
  cases c<;>simp only [Pl] at h<;>try cases h
  simp only [d7] at h;obtain⟨ds',a,rfl⟩:=h;simp [MI a]
theorem C4{T:TypeId}{x:Operand}{e:E}{ds:List D}(n:ev f x=some e)(p:Sc e=true)(m:Pl (eC e)=some ds):AW P TB Z ⟨d,.box T x,ty,pos,af,g⟩ f σ nx (.o (.ip ds)):=
 PX λV ρ s r=>by
  have i:=NI p (s.get (by simp [Op.operands]) n);obtain⟨hi,l⟩:=r.Y0 (w:=V.w.alloc (.cells (ρ x).cells T)) rfl rfl rfl (by simp) (λb hb=>Bj _ _ _ hb);refine⟨.pointer (some ⟨V.w.heap.size,0,none⟩),_,?_,l,hi,rfl,?_⟩
  ·simp [execOp,Instr.box,newVar,newRow,QT,go_sem]
  ·refine .ip (vs:=λj=>(ρ x).cells.getD j undef) (.inr rfl) (λj y h=>?_) (λj y h=>?_)
   ·have c:=KV m j y h
    have a:j < (ρ x).cells.size:=by rw [i.1];exact(ce.1 c).1
    have k:(QT V (V.w.alloc (.cells (ρ x).cells T))).w.heap[V.w.heap.size]? = some (.cells (ρ x).cells T):=Cp _ _;simp [World.cell?,k,a]
   ·have c:=KV m j y h
    have a:j < (ρ x).cells.size:=by rw [i.1];exact(ce.1 c).1
    have k:=i.2 j _ _ c (lD a)
    cases k with
    | d q=>simpa [a] using q.ext l
theorem Rm{t:TypeId}{x:Operand}{id k i j n:Nat}{T:TypeId}{rows:List (List C)}{r:List C}{c:C}[u:DC P t false n](m:ev f x=some (.o (.ptr id k i j)))(s:look σ id=some (.cells T k rows))(q:rows[i]? = some r)(z:r[j]? = some c) :
 AW P TB Z ⟨d,.load t x,ty,pos,af,g⟩ f σ nx (.o c):=
 AI λV ρ F B=>by
  have l:=F.get (by simp [Op.operands]) m;generalize p:ρ x=v at l
  cases l with
  | ptr y a=>
   rcases B.st.obj id _ s with ⟨b,_⟩|⟨_,cur,b,J,I,H,G,A⟩
   ·exact absurd b a
   ·obtain⟨v,h,e⟩:=A i r j c q z
    refine⟨v,?_,e⟩
    have:V.w.cell? ⟨V.ρ id,i*k+j,none⟩=some v:=by simp [World.cell?,b,h]
    simp [execOp,p,Instr.loadAt,Instr.sureAddr,loadVar,(BD u.out V.w).1,this,go_sem]
theorem aD{t:TypeId}{x:Operand}{id k i j n:Nat}{T:TypeId}{rows:List (List C)}{r:List C}[A:DC P t true n](F:ev f x=some (.o (.ptr id k i j)))(I:look σ id=some (.cells T k rows))(H:rows[i]? = some r)(N:j+n<=r.length) :
 AW P TB Z ⟨d,.load t x,ty,pos,af,g⟩ f σ nx (.a ((r.drop j).take n)):=
 AI λV ρ M L=>by
  have B:=M.get (by simp [Op.operands]) F;generalize G:ρ x=v at B
  cases B with
  | ptr J y=>
   rcases L.st.obj id _ I with ⟨z,_⟩|⟨_,cur,z,U,S,R,Q,K⟩
   ·exact absurd z y
   ·have b:∀q,q < n->∃v,cur[i*k+j+q]? = some v/\AF V (r[j+q]?.getD (.d (.l []))) v:=λq m=>by
     have p:j+q < r.length:=by omega
     obtain⟨v,e,h⟩:=K i r (j+q) r[j+q] H (d5 p);exact⟨v,by rw [lX];exact e,by rw [d5 p];exact h⟩
    refine⟨.agg ((List.range n).map λq=>cur.getD (i*k+j+q) undef).toArray,?_,_,rfl,by simp;omega,?_⟩
    ·have:(loadCells ⟨V.ρ id,i*k+j,none⟩ n).run P V.w=.ok ((List.range n).map λq=>cur.getD (i*k+j+q) undef).toArray V.w:=run_loadCells V.w _ n _ λq m=>by
      rw [Bz];obtain⟨v,e,_⟩:=b q m;simp [World.cell?,z,e]
     unfold loadCells at this;simp [execOp,G,Instr.loadAt,Instr.sureAddr,loadVar,(BD A.out V.w).1,(BD A.out V.w).2,this,go_sem]
    ·intro q c v s u
     rw [lR] at s;split at s
     ·rename_i m
      rw [lS] at s;obtain⟨v',e,h⟩:=b q m;rw [s] at h
      have:v=v':=by simpa [m,e] using u.symm
      rw [this];exact h
     ·cases s
theorem ao{s kf off:Nat}{x:Operand}{id k i j:Nat}[t:Qj P s kf off](p:ev f x=some (.o (.ptr id k i j))):AW P TB Z ⟨d,.fieldAddr s x kf,ty,pos,af,g⟩ f σ nx (.o (.ptr id k i (j+off))):=
 AI λV ρ u _=>by
  have n:=u.get (by simp [Op.operands]) p;generalize q:ρ x=v at n
  cases n with
  | ptr l h=>
   have a:=t.out;unfold Xz at a;split at a
   ·rename_i fs r
    split at a
    ·rename_i fl m
     split at a
     ·rename_i ii hi
      cases b:Nat.beq ii.size 0
      ·rw [b] at a
       simp only [cond_false,Option.some.injEq] at a;subst a
       have c:ii.size≠0:=λe=>by rw [e] at b;cases b
       refine⟨.pointer (some ⟨V.ρ id,i*k+j+fl.offset,none⟩),?_,by rw [lX];exact .ptr l h⟩;simp [execOp,q,Instr.fieldAt,run_underlying r,m,Instr.sureAddr,fieldPlace,sizeOf,typeInfo,hi,c,Bz,go_sem]
      ·rw [b] at a;cases a
     ·cases a
    ·cases a
   ·cases a
theorem aq{t e:TypeId}{x y:Operand}{id k len b:Nat}{off:Nat}{n:Int}{ik:IntKind}[w:CL P t e k b](m:ev f x=some (.o (.arr id k off len)))(l:ev f y=some (eI ik n))
 (A:0<=n) (s:n < len):AW P TB Z ⟨d,.indexAddr t x y,ty,pos,af,g⟩ f σ nx (.o (.ptr id k (off+n.toNat) 0)):=
 AI λV ρ j _=>by
  have h:=j.get (by simp [Op.operands]) m;have z:ρ y=.int ik n:=AF.val (j.get (by simp [Op.operands]) l);generalize p:ρ x=v at h;obtain⟨i,q,hi,r,_⟩:=GG w.out
  cases h with
  | nil=>omega
  | arr c a u=>
   refine⟨.pointer (some ⟨V.ρ id,(off+n.toNat)*k+0,none⟩),?_,.ptr c a⟩;simp [execOp,p,z,Instr.indexAt,asIntOf,run_underlying q,A,s,sizeOf,typeInfo,hi,r,Bz,lZ,go_sem]
theorem ax{t:TypeId}{x y:Operand}{id k i j:Nat}{n:Int}{len ke:Nat}{ik:IntKind}[u:Pn P t len ke](m:ev f x=some (.o (.ptr id k i j)))(l:ev f y=some (eI ik n))
 (z:0<=n) (s:n < len):AW P TB Z ⟨d,.indexAddr t x y,ty,pos,af,g⟩ f σ nx (.o (.ptr id k i (j+n.toNat*ke))):=
 AI λV ρ h _=>by
  have c:=h.get (by simp [Op.operands]) m;have w:ρ y=.int ik n:=AF.val (h.get (by simp [Op.operands]) l);generalize p:ρ x=v at c;obtain⟨e,ii,q,hi,r⟩:=TS u.out
  cases c with
  | ptr b a=>
   refine⟨.pointer (some ⟨V.ρ id,i*k+(j+n.toNat*ke),none⟩),?_,.ptr b a⟩;simp [execOp,p,w,Instr.indexAt,asIntOf,run_underlying q,Instr.sureAddr,z,s,sizeOf,typeInfo,hi,r,Bz,lX,go_sem]
theorem JK{t:TypeId}{n:Nat}{w:World}{a:Addr}{v:Value}(h:(sizeOf t).run P w=.ok n w)(b:v.cells.size=n):(storeVar t a v).run P w=(storeCells a v.cells.toList).run P w:=by
 unfold storeVar;simp only [lG,h,lc,b,ne_eq,not_true,if_false]
def Af(r:List C)(j:Nat)(cs:List C):List C:=r.take j++cs++r.drop (j+cs.length)
theorem Bs{t:TypeId}{x y:Operand}{id k i j n:Nat}{T:TypeId}{rows:List (List C)}{r:List C}{e:E}{ag:Bool}[hl:DC P t ag n](hx:ev f x=some (.o (.ptr id k i j)))(hy:ev f y=some e)(ho:Sc e=true)
 (J:look σ id=some (.cells T k rows)) (hr:rows[i]? = some r) (hn:(eC e).length=n) (hj:j+n<=k) (hK:K (.t []) ((id,.cells T k (rows.set i (Af r j (eC e))))::σ) nx):BQ P TB Z ⟨d,.store t x y,ty,pos,af,g⟩ f σ nx K:=by
 intro V a Y h2 h3;have Y:=Y.GV;unfold Oper.wp;generalize a.eval=ρ at Y |-;have N:=Y.get (by simp [Op.operands]) hx;have hc:=NI ho (Y.get (by simp [Op.operands]) hy);generalize hv:ρ x=v at N
 cases N with
 | ptr hid F =>
  rcases h2.st.obj id _ J with ⟨h4,_⟩|⟨_,cur,h4,h5,h6,h7,h8,h9⟩
  ·exact absurd h4 F
  ·have hrk : r.length=k:=h8 r (co hr)
   have U:=(ce.1 hr).1
   have H:(ρ y).cells.size=n:=by rw [hc.1,hn]
   have B:(i+1)*k<=cur.size:=by rw [h5];exact l5 _ (by omega)
   have hfit:i*k+j+n<=cur.size:=by rw [lZ] at B;omega
   have I:=run_storeCells_at P (V.ρ id) (i*k+j) T (ρ y).cells.toList 0 cur V.w h4 (by simp;omega) (λv hv=>by
    obtain⟨q,A,rfl⟩:=lT hv
    have hq':q < (eC e).length:=by simpa [hc.1] using A
    exact(hc.2 q (eC e)[q] _ (d5 hq') (by simp)).one)
   simp only [nO,Array.length_toList] at I;rw [H] at I
   have hw := h2.write J F (w:=V.w.setRow (V.ρ id) (cur.toList.take (i*k+j)++(ρ y).cells.toList++cur.toList.drop (i*k+j+n)).toArray) (ob':=.cells T k (rows.set i (Af r j (eC e)))) rfl rfl rfl rfl rfl (by simp) (λb hb=>setRow_other _ _ _ _ hb) (by
    have ee:Ext V { V with w:=V.w.setRow (V.ρ id) (cur.toList.take (i*k+j)++(ρ y).cells.toList++cur.toList.drop (i*k+j+n)).toArray } :=
     ⟨λ_ h=>h,λb hb=>setRow_other _ _ _ _ λe=>h2.st.free id _ J F b e hb,by simp,λ_ _=>rfl,λ_ _=>rfl,λ_ _=>Iff.rfl,io _⟩
    have z:(cur.toList.take (i*k+j)++(ρ y).cells.toList).length=i*k+j+n:=by simp [H];omega
    refine .inr ⟨F,_,setRow_heap _ _ _ _ _ _ h4,?_,by simpa using h6,h7,?_,?_⟩
    ·simp [H];omega
    ·intro r' hr'
     rcases List.mem_or_eq_of_mem_set hr' with h|h
     ·exact h8 r' h
     ·subst h;simp [Af,hn];omega
    ·intro i' r' j' c m l
     rw [List.getElem?_set] at m
     have X:∀q,(cur.toList.take (i*k+j)++(ρ y).cells.toList++cur.toList.drop (i*k+j+n)).toArray[q]? = if q < i*k+j then cur[q]? else if q < i*k+j+n then (ρ y).cells[q - (i*k+j)]? else cur[q]?:=by
      intro q;simp only [mu];by_cases A:q < i*k+j+n
      ·rw [d9 (by rw [z];exact A)]
       by_cases u:q < i*k+j
       ·rw [d9 (by simp;omega),if_pos u]
        simp [u]
       ·rw [em (by simp;omega),if_neg u,if_pos A]
        simp;congr 1;omega
      ·rw [em (by rw [z];omega),if_neg (by omega),if_neg A,z,lS]
       simp;congr 1;omega
     rw [X];by_cases M:i=i'
     ·subst M
      rw [if_pos rfl,if_pos U] at m
      injection m with m
      subst m;unfold Af at l
      have L:(r.take j++eC e).length=j+n:=by simp [hn];omega
      by_cases A:j' < j+n
      ·rw [d9 (by rw [L];exact A)] at l
       by_cases u:j' < j
       ·rw [d9 (by simp;omega)] at l
        rw [lR,if_pos u] at l;obtain⟨v,s,p⟩:=h9 i r j' c hr l;rw [if_pos (by omega)];exact⟨v,s,p.ext ee⟩
       ·rw [em (by simp;omega)] at l
        have S:(r.take j).length=j:=by simp;omega
        rw [S] at l;rw [if_neg (by omega),if_pos (by omega)]
        have G:j' - j < (ρ y).cells.size:=by omega
        have he:i*k+j' - (i*k+j)=j' - j:=by omega
        rw [he];exact⟨(ρ y).cells[j' - j],lD G,(hc.2 _ c _ l (lD G)).ext ee⟩
      ·rw [em (by rw [L];omega),L,lS,hn] at l
       have he:j+n+(j' - (j+n))=j':=by omega
       rw [he] at l;obtain⟨v,s,p⟩:=h9 i r j' c hr l;rw [if_neg (by omega),if_neg (by omega)];exact⟨v,s,p.ext ee⟩
     ·rw [if_neg M] at m
      obtain⟨v,s,p⟩:=h9 i' r' j' c m l;have R:r'.length=k:=h8 r' (co m)
      have hj'k:j' < k:=by rw [<-R];exact(ce.1 l).1
      have : ¬(i*k+j<=i'*k+j'/\i'*k+j' < i*k+j+n):=by
       rintro⟨ha,hb⟩
       rcases nD M with G|G
       ·have:=l5 k (show i+1<=i' by omega)
        rw [lZ] at this;omega
       ·have:=l5 k (show i'+1<=i by omega)
        rw [lZ] at this;omega
      by_cases A:i'*k+j' < i*k+j
      ·rw [if_pos A];exact⟨v,s,p.ext ee⟩
      ·rw [if_neg A,if_neg (by omega)];exact⟨v,s,p.ext ee⟩)
   have Q:(execOp ρ ⟨d,.store t x y,ty,pos,af,g⟩).run P V.w=.ok .skip (V.w.setRow (V.ρ id) (cur.toList.take (i*k+j)++(ρ y).cells.toList++cur.toList.drop (i*k+j+n)).toArray):=by
    show ((do Instr.storeAt t (ρ x) (ρ y);pure Go.Next.skip:Sem Go.Next)).run P V.w=_
    rw [hv];simp only [Instr.storeAt,Instr.sureAddr,pure_bind,lG,JK (BD hl.out V.w).2 H,I,lc];rfl
   rw [Q];exact⟨_,undef,_,_,rfl,rfl,hw.2,hw.1,Mf _,by rw [<-h3] at hK;exact hK⟩
end
def eD(V:View)(k:Nat)(rows:List (List C))(v:Value):Prop:=
 (v=.slice none 0 0/\rows=[])\/
 ∃(a:Addr) (cap:Nat) (vs:Nat->Nat->Value),v=.slice (some a) rows.length cap/\(∀r∈rows,r.length=k)/\
  ∀(i:Nat) (r:List C) (j:Nat) (c:C),rows[i]? = some r->r[j]? = some c->V.w.cell? (a.add (i*k+j))=some (vs i j)/\AF V c (vs i j)
def HH(σ:Ab)(k:Nat):E->Option (List (List C))
 | .o (.d (.l rows))=>some (rows.map λr=>r.map .d)
 | .o (.arr id k' off len)=>match look σ id with
  | some (.cells _ _ rows)=>bif Nat.beq k' k && Nat.ble (off+len) rows.length then some ((rows.drop off).take len) else none
  | _=>none
 | _=>none
theorem WS{TB:Bp}{Z:Ctx}{V:View}{σ:Ab}(h:Inv TB Z V σ){k:Nat}{e:E}{v:Value}{rows:List (List C)}(g:HH σ k e=some rows)(hk:∀r∈rows,r.length=k)(w:Bg V e v):eD V k rows v:=by
 unfold HH at g;split at g
 ·rename_i ds
  injection g with g
  subst g
  cases w with
  | d w =>
   cases w with
   | nil=>exact .inl ⟨rfl,rfl⟩
   | @e a cap=>exact .inr ⟨a,cap,λ_ _=>undef,rfl,by simp,λi r j c hi=>by simp at hi⟩
   | @l _ b o k' cap vs hb H Q B P s=>
    refine .inr ⟨⟨b,o,none⟩,cap,vs,by simp,hk,λi r j c hi u=>?_⟩;simp only [ge,d7] at hi;obtain⟨q,m,rfl⟩:=hi;simp only [ge,d7] at u;obtain⟨x,G,rfl⟩:=u
    have:k'=k:=by
     have S:=B i q m;have J:=hk (q.map .d) (d8.2 ⟨q,co m,rfl⟩);rw [f9] at J;omega
    subst this;exact⟨by rw [Bz,<-lX];exact P i q j x m G,.d (s i q j x m G)⟩
 ·rename_i id k' off len
  split at g
  ·rename_i T n f L
   cases hb:Nat.beq k' k && Nat.ble (off+len) f.length
   ·rw [hb] at g;cases g
   ·rw [hb] at g
    injection g with g
    subst g;rw [d4] at hb;have z:=f7 hb.1;have K:=am hb.2;subst z
    cases w with
    | nil H B=>exact .inl ⟨rfl,by simp⟩
    | arr H y B=>
     rcases h.st.obj id _ L with ⟨s,_⟩|⟨_,cur,s,Y,X,U,N,M⟩
     ·exact absurd s y
     ·rcases mh len with I|I
      ·subst I
       exact .inr ⟨⟨V.ρ id,off*k',none⟩,V.cap id - off,λ_ _=>undef,by simp,by simp,λi r j c hi=>by simp at hi⟩
      ·have A:n=k':=by
        have p:0 < ((f.drop off).take len).length:=by simp;omega
        have S:=hk _ (l6 p);have J:=N _ (mK (lU (l6 p)));omega
       subst A;refine .inr ⟨⟨V.ρ id,off*n,none⟩,V.cap id - off,λi j=>cur.getD ((off+i)*n+j) undef,?_,hk,λi r j c hi u=>?_⟩
       ·have:((f.drop off).take len).length=len:=by simp;omega
        rw [this]
       ·rw [lR] at hi
        split at hi
        ·rename_i p
         rw [lS] at hi;obtain⟨v,t,F⟩:=M (off+i) r j c hi u
         have R:off*n+i*n+j=(off+i)*n+j:=by rw [lZ]
         have:cur.getD ((off+i)*n+j) undef=v:=by simp [t]
         simp only [this];exact⟨by rw [Bz,<-lX,R];simp [World.cell?,s,t],F⟩
        ·cases hi
  ·cases g
 ·cases g
def Dg(m k:Nat)(vs:Nat->Nat->Value):List Value:=(List.range (m*k)).map λq=>vs (q / k) (q % k)
theorem Lt{m k:Nat}{vs:Nat->Nat->Value}{i j:Nat}(hi:i < m)(b:j < k):(Dg m k vs)[i*k+j]? = some (vs i j):=by
 have a:i*k+j < m*k:=by
  have:=l5 k (show i+1<=m by omega);rw [lZ] at this;omega
 have hk:0 < k:=by omega
 have d:(i*k+j) / k=i:=by rw [oa,Nat.add_mul_div_right _ _ hk,Nat.div_eq_of_lt b,lE]
 have c:(i*k+j) % k=j:=by rw [oa,Nat.add_mul_mod_self_right,lW b]
 simp [Dg,a,d,c]
theorem Lu{m k:Nat}{vs:Nat->Nat->Value}{q:Nat}{u:Value}(h:(Dg m k vs)[q]? = some u):∃i j,q=i*k+j/\i < m/\j < k/\u=vs i j:=by
 have a:=(ce.1 h).1;simp [Dg] at a
 have hk:0 < k:=by rcases mh k with b|b;(subst b;simp at a);exact b
 refine⟨q / k,q % k,?_,?_,Nat.mod_lt _ hk,?_⟩
 ·rw [oc];exact(Nat.div_add_mod q k).symm
 ·exact Nat.div_lt_of_lt_mul (by rw [oc];exact a)
 ·simp [Dg,a] at h;exact h.symm
theorem CZ(m k:Nat)(vs:Nat->Nat->Value):(Dg m k vs).length=m*k:=by simp [Dg]
section
variable {P:Program}{TB:Bp}{Z:Ctx}{d:Option Tmp}{ty:TypeId}{pos:String}{af:Array Edge}{g:Option (Nat×Bool)}{f:Env}{σ:Ab}{nx:Nat}
variable {K:E->Ab->Nat->Prop}
theorem Fm{t e:TypeId}{i:TypeInfo}(ht:P.underlying t=some (.slice e))(hi:P.info? e=some i)(w:World)(base:Option Addr)(n cap:Nat)(a:n<=cap)(ty:TypeId) :
 (Builtin.append_ #[t,t] ty #[.slice base n cap,.slice none 0 0]).run P w=.ok (.slice base n cap) w:=by
 cases base<;>simp [Builtin.append_,run_underlying ht,sizeOf,typeInfo,hi,Builtin.lenOf,Builtin.firstCells,storeCells,a,go_sem]
theorem NC{V:View}{k:Nat}{rows news:List (List C)}{cur':Array Value}(b:∀(i:Nat) (r:List C) (j:Nat) (c:C),rows[i]? = some r->r[j]? = some c->∃v,cur'[i*k+j]? = some v/\AF V c v)
 (d:∀(i:Nat) (r:List C) (j:Nat) (c:C),news[i]? = some r->r[j]? = some c->∃v,cur'[(rows.length+i)*k+j]? = some v/\AF V c v) :
 ∀(i:Nat) (r:List C) (j:Nat) (c:C),(rows++news)[i]? = some r->r[j]? = some c->∃v,cur'[i*k+j]? = some v/\AF V c v:=by
 intro i r j c hi a;by_cases h:i < rows.length
 ·rw [d9 h] at hi;exact b i r j c hi a
 ·rw [em (by omega)] at hi
  have:=d (i - rows.length) r j c hi a
  have e:rows.length+(i - rows.length)=i:=by omega
  rw [e] at this;exact this
theorem Aw{t e:TypeId}{k b:Nat}{z:List Value}{s x:Operand}{id len:Nat}{rows news:List (List C)}{ex:E}[hl:CL P t e k b][hz:BJ P e z]
 (hs:ev f s=some (.o (.arr id k 0 len))) (hx:ev f x=some ex) (X:look σ id=some (.cells e k rows)) (G:rows.length=len) (hsrc:HH σ k ex=some news) (hkk:∀r∈news,r.length=k)
 (hzk:z.length=k) (hb0:0 < b) (hb:(len+news.length)*b<=140737488355328)
 (hK:K (.o (.arr nx k 0 (len+news.length))) ((nx,.cells e k (rows++news))::kill id σ) (nx+1)):BQ P TB Z ⟨d,.call ⟨.builtin .append,#[s,x],#[t,t]⟩,ty,pos,af,g⟩ f σ nx K:=
 Dr λV ρ h1 h2 h3=>by
  subst h3;obtain⟨i,hu,hi,I,hby⟩:=GG hl.out;have hz':=hz.out;simp only [YJ,hi,nv,d7] at hz';obtain⟨zv,hzv,hzz⟩:=hz'
  have hzc:zv.cells.size=k:=by rw [<-hzk,<-hzz];simp
  have hsr:=h1.get (x:=s) (by simp [Op.operands,Call.operands]) hs;have hxr:=WS h2 hsrc hkk (h1.get (x:=x) (by simp [Op.operands,Call.operands]) hx)
  have A:∀w,(execOp ρ ⟨d,.call ⟨.builtin .append,#[s,x],#[t,t]⟩,ty,pos,af,g⟩).run P w=((Builtin.append_ #[t,t] ty #[ρ s,ρ x]).run P w).andThen λv w'=>.ok (.value v) w':=λw=>by
   simp only [execOp,resolve,invoke,builtin,pp,mt,nP,pure_bind,bind_pure_comp,nI]
  have hmax:len+news.length<=maxLen:=by
   have:len+news.length<=(len+news.length)*b:=mL _ hb0;unfold maxLen;omega
  have hint:((len+news.length:Nat):Int)<=9223372036854775807:=by
   have:len+news.length<=(len+news.length)*b:=mL _ hb0;omega
  generalize hvs:ρ s=vs at *;generalize hvx:ρ x=vx at *;have hob:=h2.st.obj id _ X
  rcases hxr with ⟨rfl,hnil⟩|⟨xa,xc,xv,rfl,hxk,n⟩
  ·-- nothing is added: the value stays
   subst hnil;obtain⟨hi',he'⟩:=h2.alias X;rw [l8] at hK;refine⟨vs,_,_,_,?_,he',hi',?_,hK⟩
   ·rw [A]
    cases hsr with
    | nil=>rw [Fm hu hi V.w none 0 0 (io _) ty];rfl
    | arr h4 h5 h6=>rw [Fm hu hi V.w _ len _ (by omega) ty];rfl
   ·have R:(Ax V (V.ρ id) (V.cap id) (V.nl id) V.w).nl V.nx=V.nl id:=by simp [Ax]
    have hnr:(Ax V (V.ρ id) (V.cap id) (V.nl id) V.w).ρ V.nx=V.ρ id:=by simp [Ax]
    have U:(Ax V (V.ρ id) (V.cap id) (V.nl id) V.w).cap V.nx=V.cap id:=by simp [Ax]
    cases hsr with
    | nil h4 h5=>exact AF.nil (by simp [Ax]) (by rw [R];exact h5)
    | arr h4 h5 h6=>
     have:=@AF.arr (Ax V (V.ρ id) (V.cap id) (V.nl id) V.w) V.nx k 0 (len+0) (by simp [Ax]) (by rw [R];exact h5) (by rw [U];exact h6);rw [hnr,U] at this;exact this
  ·have l : (Dg news.length k xv).length=news.length*i.size:=by rw [CZ,I]
   have y:∀j u,(Dg news.length k xv)[j]? = some u->V.w.cell? (xa.add j)=some u:=by
    intro q u p;obtain⟨a,b,rfl,ha,hb,rfl⟩:=Lu p
    have hbl:b < news[a].length:=by rw [hxk _ (l6 ha)];exact hb
    exact(n a news[a] b news[a][b] (d5 ha) (d5 hbl)).1
   have hnews1:∀u∈Dg news.length k xv,u.oneCell'=true:=by
    intro u hu;obtain⟨q,p,rfl⟩:=lT hu;obtain⟨a,b,_,ha,hb,he⟩:=Lu (d5 p);rw [he]
    have hbl:b < news[a].length:=by rw [hxk _ (l6 ha)];exact hb
    exact(n a news[a] b news[a][b] (d5 ha) (d5 hbl)).2.one
   have fresh:∀(olds:List Value) (cap':Nat),olds.length=len*k->len+news.length<=cap'->cap'<=maxLen->
    (∀(i:Nat) (r:List C) (j:Nat) (c:C),rows[i]? = some r->r[j]? = some c->∃v,olds[i*k+j]? = some v/\AF V c v)->
    (Builtin.append_ #[t,t] ty #[vs,.slice (some xa) news.length xc]).run P V.w=.ok (.slice (some ⟨V.w.heap.size,0,none⟩) (len+news.length) cap')
     (V.w.drew.alloc (.cells (olds.toArray++(Dg news.length k xv).toArray++Builtin.zeroCells zv.cells (cap' - (len+news.length))) e))->
    (∀r∈rows,r.length=k)->
    ∃v V' xx σ',(execOp ρ ⟨d,.call ⟨.builtin .append,#[s,x],#[t,t]⟩,ty,pos,af,g⟩).run P V.w=.ok (.value v) V'.w/\Ext V V'/\Inv TB Z V' σ'/\Bg V' xx v/\K xx σ' V'.nx:=by
    intro olds cap' L hcap hcm hold hrun hrk
    let w':=V.w.drew.alloc (.cells (olds.toArray++(Dg news.length k xv).toArray++Builtin.zeroCells zv.cells (cap' - (len+news.length))) e)
    have ee:Ext V (Ax V V.w.heap.size cap' False w'):=En (by simp [w']) λb hb=>Bj V.w.drew _ b (h2.iLt b hb)
    obtain⟨hi',he'⟩:=h2.alloc (c:=cap') (nl:=False) (w:=w') (ob:=.cells e k (rows++news)) rfl rfl rfl rfl (by simp [w']) (λb hb=>Bj V.w.drew _ b hb) (by
     refine .inr ⟨by simp [Ax],olds.toArray++(Dg news.length k xv).toArray++Builtin.zeroCells zv.cells (cap' - (len+news.length)),?_,?_,?_,?_,?_,?_⟩
     ·have:=Cp V.w.drew (.cells (olds.toArray++(Dg news.length k xv).toArray++Builtin.zeroCells zv.cells (cap' - (len+news.length))) e)
      have H:(Ax V V.w.heap.size cap' False w').ρ V.nx=V.w.heap.size:=by simp [Ax]
      rw [H];exact this
     ·have hc:(Ax V V.w.heap.size cap' False w').cap V.nx=cap':=by simp [Ax]
      rw [hc];simp only [Array.size_append,ph,L,CZ,Builtin.zeroCells,Array.size_map,Array.size_range,hzc,<-lZ];congr 1;omega
     ·have hc:(Ax V V.w.heap.size cap' False w').cap V.nx=cap':=by simp [Ax]
      rw [hc,mI,G];exact hcap
     ·have hc:(Ax V V.w.heap.size cap' False w').cap V.nx=cap':=by simp [Ax]
      rw [hc];exact hcm
     ·intro r H
      rcases f6.1 H with h|h
      ·exact hrk r h
      ·exact hkk r h
     ·refine NC (λi r j c hi B=>?_) (λi r j c hi B=>?_)
      ·obtain⟨v,m,h11⟩:=hold i r j c hi B
       refine⟨v,?_,h11.ext ee⟩;have F:=(ce.1 m).1;rw [lM (by simp;omega),lM (by simpa using F)]
       simpa using m
      ·have hil:=(ce.1 hi).1
       have hjl:j < k:=by rw [<-hxk r (co hi)];exact(ce.1 B).1
       have m:=Lt (vs:=xv) hil hjl;refine⟨xv i j,?_,(n i r j c hi B).2.ext ee⟩;have F:=(ce.1 m).1;rw [G,lZ,lX];rw [lM (by simp [L];omega),mA (by simp [L])]
       simpa [L] using m)
    refine⟨.slice (some ⟨V.w.heap.size,0,none⟩) (len+news.length) cap',_,_,(V.nx,.cells e k (rows++news))::kill id σ,?_,he',hi'.sub ?_,?_,hK⟩
    ·rw [A,hrun];rfl
    ·intro q o p
     rw [Az] at p |-;by_cases T:V.nx=q
     ·rwa [if_pos T] at p |-
     ·rw [if_neg T] at p |-
      rw [EM] at p;by_cases Q:q=id
      ·rw [if_pos Q] at p;cases p
      ·rwa [if_neg Q] at p
    ·have:=@AF.arr (Ax V V.w.heap.size cap' False w') V.nx k 0 (len+news.length) (by simp [Ax]) (by simp [Ax]) (by simp [Ax];exact hcap)
     have H:(Ax V V.w.heap.size cap' False w').ρ V.nx=V.w.heap.size:=by simp [Ax]
     have hc:(Ax V V.w.heap.size cap' False w').cap V.nx=cap':=by simp [Ax]
     rw [H,hc,mN,pu] at this;exact this
   cases hsr with
   | nil hid M=>
    have S:rows=[]:=lw.1 G
    rcases mh news.length with hm0|hm0
    ·-- nil and nothing: nil
     have R:news=[]:=lw.1 hm0;subst R;obtain⟨hi',he'⟩:=h2.alias X;rw [l8] at hK;refine⟨.slice none 0 0,_,_,_,?_,he',hi',?_,hK⟩
     ·rw [A]
      simp [Builtin.append_,run_underlying hu,sizeOf,typeInfo,hi,Builtin.lenOf,Builtin.firstCells,loadCells,loadCellsFrom,Ax,go_sem]
     ·exact AF.nil (by simp [Ax]) (by simp [Ax,M])
    ·have H:=run_append_nil (P:=P) V.w t ty e i zv hu hi hzv xa news.length xc _ l y hm0 (by omega) (by rw [hby];have hb':=hb;simp only [lE] at hb';omega)
     refine fresh [] (grownCap V.w news.length 0 e) (by simp) (by simp only [lE];exact grownCap_ge _ _ _ _) (grownCap_le_maxLen _ _ _ _ (by omega)) (λi r j c hi=>by rw [S] at hi;simp at hi) ?_ (λr H=>by rw [S] at H;cases H);rw [H];simp
   | arr hid M hle=>
    rcases hob with ⟨h4,_⟩|⟨_,cur,h4,h5,h6,h7,h8,h9⟩
    ·exact absurd h4 M
    ·have hcs : cur.size=V.cap id*i.size:=by rw [h5,I]
     by_cases J:len+news.length<=V.cap id
     ·-- there is room
      have N:len*i.size+(Dg news.length k xv).length<=cur.size:=by
       rw [l,hcs,<-lZ];exact l5 _ J
      have H:=run_append_room (P:=P) V.w t ty e i hu hi (V.ρ id) len (V.cap id) cur h4 xa news.length xc _ l y hnews1 J N
      have Y:(cur.toList.take (len*k)++Dg news.length k xv).length=len*k+news.length*k:=by
       rw [I] at N;simp [CZ] at N |-;omega
      let w':=V.w.setRow (V.ρ id) (cur.toList.take (len*i.size)++Dg news.length k xv++cur.toList.drop (len*i.size+(Dg news.length k xv).length)).toArray
      have ee:Ext V { V with w:=w' } :=
       ⟨λ_ h=>h,λb hb=>setRow_other _ _ _ _ λe=>h2.st.free id _ X M b e hb,by simp [w'],λ_ _=>rfl,λ_ _=>rfl,λ_ _=>Iff.rfl,io _⟩
      obtain⟨hw1,hw2⟩:=h2.write X M (w:=w') (ob':=.cells e k (rows++news)) rfl rfl rfl rfl rfl (by simp [w']) (λb hb=>setRow_other _ _ _ _ hb) (by
       refine .inr ⟨M,_,setRow_heap _ _ _ _ _ _ h4,?_,?_,h7,?_,?_⟩
       ·simp only [ph,mI,nW,pv,Array.length_toList]
        rw [hcs,l,I] at N;simp only [CZ,I,h5];omega
       ·rw [mI,G];exact J
       ·intro r H
        rcases f6.1 H with h|h
        ·exact h8 r h
        ·exact hkk r h
       ·simp only [I]
        refine NC (λi' r j c hi B=>?_) (λi' r j c hi B=>?_)
        ·obtain⟨v,m,h11⟩:=h9 i' r j c hi B
         refine⟨v,?_,h11.ext ee⟩
         have hjl:j < k:=by rw [<-h8 r (co hi)];exact(ce.1 B).1
         have hil:=(ce.1 hi).1
         have F:i'*k+j < len*k:=by
          have:=l5 k (show i'+1<=len by omega);rw [lZ] at this;omega
         have hlc:len*k<=cur.size:=by rw [h5];exact l5 _ (by omega)
         simp only [mu];rw [d9 (by rw [Y];omega),d9 (by simp;omega),lR,if_pos F]
         simpa using m
        ·have hil:=(ce.1 hi).1
         have hjl:j < k:=by rw [<-hxk r (co hi)];exact(ce.1 B).1
         have m:=Lt (vs:=xv) hil hjl;have F:=(ce.1 m).1;rw [CZ] at F;refine⟨xv i' j,?_,(n i' r j c hi B).2.ext ee⟩
         have hlc:len*k<=cur.size:=by rw [h5];exact l5 _ (by omega)
         have htl:(cur.toList.take (len*k)).length=len*k:=by simp;omega
         simp only [mu];rw [G,lZ,lX,d9 (by rw [Y];omega),em (by rw [htl];omega),htl]
         have:len*k+(i'*k+j) - len*k=i'*k+j:=by omega
         rw [this];exact m)
      have hlk2:look ((id,O.cells e k (rows++news))::σ) id=some (.cells e k (rows++news)):=by rw [Az,if_pos rfl]
      obtain⟨ha1,ha2⟩:=hw1.alias hlk2;refine⟨.slice (some ⟨V.ρ id,0,none⟩) (len+news.length) (V.cap id),_,_,(V.nx,.cells e k (rows++news))::kill id σ,?_,hw2.trans ha2,ha1.sub ?_,?_,hK⟩
      ·rw [A]
       have:V.cap id - 0=V.cap id:=by omega
       rw [mN,this,H];rfl
      ·intro q o p
       rw [Az] at p |-;by_cases T:V.nx=q
       ·rwa [if_pos T] at p |-
       ·rw [if_neg T] at p |-
        rw [EM] at p |-;by_cases Q:q=id
        ·rw [if_pos Q] at p;cases p
        ·rw [if_neg Q] at p |-
         rw [Az,if_neg (Ne.symm Q)];exact p
      ·have R:(Ax { V with w:=w' } (V.ρ id) (V.cap id) (V.nl id) w').nl V.nx=V.nl id:=by simp [Ax]
       have hnr:(Ax { V with w:=w' } (V.ρ id) (V.cap id) (V.nl id) w').ρ V.nx=V.ρ id:=by simp [Ax]
       have U:(Ax { V with w:=w' } (V.ρ id) (V.cap id) (V.nl id) w').cap V.nx=V.cap id:=by simp [Ax]
       have:=@AF.arr (Ax { V with w:=w' } (V.ρ id) (V.cap id) (V.nl id) w') V.nx k 0 (len+news.length) (by simp [Ax]) (by rw [R];exact M) (by rw [U];omega);rw [hnr,U,mN,pu] at this;exact this
     ·-- it grows
      have L:(cur.toList.take (len*k)).length=len*k:=by
       have hlc:len*k<=cur.size:=by rw [h5];exact l5 _ (by omega)
       simp;omega
      have H:=run_append_grow (P:=P) V.w t ty e i zv hu hi hzv ⟨V.ρ id,0,none⟩ len (V.cap id) (cur.toList.take (len*k)) (by rw [L,I]) (λj v B=>by
       rw [Bz];rw [lR] at B;split at B
       ·simpa [World.cell?,h4] using B
       ·cases B) xa news.length xc _ l y (by omega) (by omega) (by rw [hby];exact growslice_fits (by omega) hb)
      refine fresh (cur.toList.take (len*k)) (grownCap V.w (len+news.length) (V.cap id) e) L (grownCap_ge _ _ _ _) (grownCap_le_maxLen _ _ _ _ hmax) (λi' r j c hi B=>?_) ?_ h8
      ·obtain⟨v,m,h11⟩:=h9 i' r j c hi B
       refine⟨v,?_,h11⟩
       have hjl:j < k:=by rw [<-h8 r (co hi)];exact(ce.1 B).1
       have hil:=(ce.1 hi).1
       have F:i'*k+j < len*k:=by
        have:=l5 k (show i'+1<=len by omega);rw [lZ] at this;omega
       rw [lR,if_pos F];simpa using m
      ·have:V.cap id - 0=V.cap id:=by omega
       rw [mN,this];exact H
end
end Go.Am
