/-
  Literals of slices without elements; what is appended to them.
-/
import Derived.Test.YtgpbfllcjdfelaaGreatDoorPart7
import Derived.WideKeyArr
import Derived.ProofKit
import Derived.OpenShut
import Derived.WideKeyArgs
import Derived.Deep.DeepHandedRow
import Derived.Lib.LaidTab
set_option linter.all false
namespace Go.Am
open Go
section
variable {P:Program}{TB:BR}{Z:Ctx}{d:Option Tmp}{ty:TypeId}{pos:String}{af:Array Edge}{g:Option (Nat×Bool)}{f:Env}{σ:Ab}{nx:Nat}
variable {K:E->Ab->Nat->Prop}
theorem TU{t e:TypeId}{k b:Nat}{z:List Value}[j:CS P t e k b][h:BQ P e z](a:z.length=k)(c:z.all QO=true):A9 P TB Z ⟨d,.buildSlice t 0 #[],ty,pos,af,g⟩ f σ nx .e:=
 Kh λV ρ o n=>by
  obtain⟨cur,m,q,p⟩:=IU (es:=[]) j.out h.out a c o rfl rfl rfl rfl (by simp) (by simp);have i:∀b,b<V.w.heap.size->(V.w.alloc (.cells cur e)).heap[b]?=V.w.heap[b]?:=λb hb=>Bm V.w _ b hb;obtain⟨hi,l⟩:=R.Inv.grow n (w:=V.w.alloc (.cells cur e)) rfl rfl rfl (by simp) i;exact⟨_,{ V with w:=V.w.alloc (.cells cur e) },m,l,hi,rfl,⟨_,rfl⟩⟩
theorem bC{t e:TypeId}{k b:Nat}{z:List Value}{s x:Operand}{news:List (List C)}{ex:E}[hl:CS P t e k b][hz:BQ P e z]
 (hs:ev f s=some .e) (hx:ev f x=some ex) (L:IX σ k ex=some news) (S:∀r∈news,r.length=k) (hzk:z.length=k) (Y:0<b) (hb:news.length*b<=140737488355328)
 (hK0:news=[]->∀b,∃y,(∀V:View,Br V y (.slice b 0 0))/\K y σ nx) (hK:news≠[]->K (.o (.arr nx k 0 news.length)) ((nx,.cells e k news)::σ) (nx+1)):CY P TB Z ⟨d,.call ⟨.builtin .append,#[s,x],#[t,t]⟩,ty,pos,af,g⟩ f σ nx K:=
 DO λV ρ h1 h2 h3=>by
  subst h3;obtain⟨i,hu,hi,hsz,X⟩:=Hk hl.out;have I:=hz.out;simp only[cF,hi,rL,d7]at I;obtain⟨zv,H,hzz⟩:=I
  have hzc:zv.cells.size=k:=by rw[<-hzk,<-hzz];simp
  obtain⟨sb,hsv⟩:=h1.get (x:=s) (by simp[Op.operands,Call.operands]) hs;have hxr:=ZQ h2 L S (h1.get (x:=x) (by simp[Op.operands,Call.operands]) hx)
  have l:∀w,(execOp ρ ⟨d,.call ⟨.builtin .append,#[s,x],#[t,t]⟩,ty,pos,af,g⟩).run P w=((Builtin.append_ #[t,t] ty #[ρ s,ρ x]).run P w).andThen λv w'=>.ok (.value v) w':=λw=>by
   simp only[execOp,resolve,invoke,builtin,tu,qz,tw,pure_bind,bind_pure_comp,rW]
  have R:news.length<=maxLen:=by
   have:news.length<=news.length*b:=qR _ Y;unfold maxLen;omega
  have T:((news.length:Nat):Int)<=9223372036854775807:=by
   have:news.length<=news.length*b:=qR _ Y;omega
  rw [hsv]at l;generalize hvx:ρ x=vx at *;have A:=λh=>hK0 h sb;have nothing:news=[]->∀v,(Builtin.append_ #[t,t] ty #[.slice sb 0 0,vx]).run P V.w=.ok (.slice sb 0 0) V.w->v=Value.slice sb 0 0->
   ∃v V' xx σ',(execOp ρ ⟨d,.call ⟨.builtin .append,#[s,x],#[t,t]⟩,ty,pos,af,g⟩).run P V.w=.ok (.value v) V'.w/\Ext V V'/\Inv TB Z V' σ'/\Br V' xx v/\K xx σ' V'.nx:=λhn v B _=>
   let ⟨y,k1,k2⟩:=A hn
   ⟨.slice sb 0 0,V,y,σ,by rw[l,B];rfl,Ext.refl _,h2,k1 V,k2⟩
  rcases hxr with ⟨rfl,Q⟩|⟨xa,xc,xv,rfl,J,m⟩
  ·exact nothing Q _ (Gq hu hi V.w sb 0 0 (i9 _) ty) rfl
  ·have n:(DD news.length k xv).length=news.length*i.size:=by rw[Dl,hsz]
   have p:∀j u,(DD news.length k xv)[j]?=some u->V.w.cell? (xa.add j)=some u:=by
    intro q u hq;obtain⟨a,b,rfl,ha,hb,rfl⟩:=Nl hq
    have hbl:b<news[a].length:=by rw[J _ (p6 ha)];exact hb
    exact(m a news[a] b news[a][b] (d6 ha) (d6 hbl)).1
   rcases qk news.length with F|F
   ·have N:news=[]:=pi.1 F
    refine nothing N _ ?_ rfl;subst N;cases sb<;>simp[Builtin.append_,run_underlying hu,sizeOf,typeInfo,hi,Builtin.lenOf,Builtin.firstCells,loadCells,loadCellsFrom,storeCells,go_sem]
   ·have hne:news≠[]:=λh=>by subst h;simp at F
    have M:(Builtin.append_ #[t,t] ty #[.slice sb 0 0,.slice (some xa) news.length xc]).run P V.w=.ok (.slice (some ⟨V.w.heap.size,0,none⟩) news.length (grownCap V.w news.length 0 e))
     (V.w.drew.alloc (.cells ((DD news.length k xv).toArray++Builtin.zeroCells zv.cells (grownCap V.w news.length 0 e-news.length)) e)):=by
     cases sb with
     | none=>
      have B:=run_append_nil (P:=P) V.w t ty e i zv hu hi H xa news.length xc _ n p F (by omega) (by rw[X];omega);rw[B]
     | some sa=>
      have B:=run_append_grow (P:=P) V.w t ty e i zv hu hi H sa 0 0 [] (by simp) (λj v hj=>by simp at hj) xa news.length xc _ n p (by omega) (by simpa using T) (by rw[X];exact growslice_fits (by omega) (by simpa using hb))
      simpa using B
    have G:=grownCap_ge V.w news.length 0 e;have hcm:=grownCap_le_maxLen V.w news.length 0 e R;generalize grownCap V.w news.length 0 e=cap' at *
    let w':=V.w.drew.alloc (.cells ((DD news.length k xv).toArray++Builtin.zeroCells zv.cells (cap'-news.length)) e)
    have ee:Ext V (Ax V V.w.heap.size cap' False w'):=Fc (by simp[w']) λb hb=>Bm V.w.drew _ b (h2.iLt b hb)
    obtain⟨hi',he'⟩:=h2.alloc (c:=cap') (nl:=False) (w:=w') (ob:=.cells e k news) rfl rfl rfl rfl (by simp[w']) (λb hb=>Bm V.w.drew _ b hb) (by
     have B:(Ax V V.w.heap.size cap' False w').ρ V.nx=V.w.heap.size:=by simp[Ax]
     have U:(Ax V V.w.heap.size cap' False w').cap V.nx=cap':=by simp[Ax]
     refine .inr ⟨by simp[Ax],(DD news.length k xv).toArray++Builtin.zeroCells zv.cells (cap'-news.length),?_,?_,?_,?_,S,?_⟩
     ·have:=Ck V.w.drew (.cells ((DD news.length k xv).toArray++Builtin.zeroCells zv.cells (cap'-news.length)) e)
      rw[B];exact this
     ·rw[U]
      simp only[Array.size_append,tj,Dl,Builtin.zeroCells,Array.size_map,Array.size_range,hzc,<-pZ];congr 1;omega
     ·rw[U];exact G
     ·rw[U];exact hcm
     ·intro a r j c hi hj
      have hil:=(ce.1 hi).1
      have hjl:j<k:=by rw[<-J r (co hi)];exact(ce.1 hj).1
      have h10:=Nk (vs:=xv) hil hjl;refine⟨xv a j,?_,(m a r j c hi hj).2.ext ee⟩;have hlt:=(ce.1 h10).1;rw[pM (by simpa using hlt)]
      simpa using h10)
    refine⟨.slice (some ⟨V.w.heap.size,0,none⟩) news.length cap',_,_,(V.nx,.cells e k news)::σ,?_,he',hi',?_,hK hne⟩
    ·rw[l,M];rfl
    ·have:=@AJ.arr (Ax V V.w.heap.size cap' False w') V.nx k 0 news.length (by simp[Ax]) (by simp[Ax]) (by simp[Ax];exact G)
     have B:(Ax V V.w.heap.size cap' False w').ρ V.nx=V.w.heap.size:=by simp[Ax]
     have U:(Ax V V.w.heap.size cap' False w').cap V.nx=cap':=by simp[Ax]
     rw[B,U,qW,tz]at this;exact this
theorem ET{t e:TypeId}{k b:Nat}{z:List Value}{s x:Operand}{news:List (List C)}{ex:E}[u:CS P t e k b][q:BQ P e z]
 (n:ev f s=some .e) (m:ev f x=some ex) (a:IX σ k ex=some news) (i:∀r∈news,r.length=k) (c:z.length=k) (j:0<b) (hb:news.length*b<=140737488355328)
 (l:news=[]->K .e σ nx) (p:news≠[]->K (.o (.arr nx k 0 news.length)) ((nx,.cells e k news)::σ) (nx+1)):CY P TB Z ⟨d,.call ⟨.builtin .append,#[s,x],#[t,t]⟩,ty,pos,af,g⟩ f σ nx K:=bC n m a i c j hb (λh b=>⟨.e,λV=>⟨b,rfl⟩,l h⟩) p
end
section
variable {P:Program}{TB:BR}{Z:Ctx}{N:Nat}
theorem Ak.Az{c:Code}{Q:Exit->Env->Ab->Nat->Prop}{L0 Lk:List (Nat×E)}{σ Sk:Ab}{nx:Nat}(ks is:List Nat)(hk:PG L0 ks=some Lk)(hi:Zf σ is=some Sk)(v:List (Nat×E))(s:Ab)(l:List Nat)
 (a:(∀i,i<Z.V.nx->l[i]?=some i)/\l.Nodup) (b:Ed (nm l nx) (look L0) (v++Lk)/\Be (nm l nx) σ (s++Sk)) (h:Ak P TB Z N c Q (look (v++Lk)) (s++Sk) l.length):Ak P TB Z N c Q (look L0) σ nx:=
 Ak.names l (v++Lk) (s++Sk) a.1 a.2 b.1 b.2 h
end
section
variable {P:Program}{TB:BR}{Z:Ctx}{d:Option Tmp}{ty:TypeId}{pos:String}{af:Array Edge}{g:Option (Nat×Bool)}{f:Env}{σ:Ab}{nx:Nat}
variable {K:E->Ab->Nat->Prop}
theorem J7{t:TypeId}{z:List Value}{fl:List (Nat×Nat)}{parts:Array (Nat×Operand)}{es:List E}{qs:List (Nat×List C)}[N:BQ P t z][T:EL P t fl](p k e q k' e':Nat)(M:z[p]?=some (.slice none 0 0))(m:z[q]?=some (.slice none 0 0))(S:p≠q)(I:Kw f (parts.toList.map (·.2))=some es)(R:Gb fl parts.toList es=some qs)
 (A:z.all QO=true) (B:(qs.all λx=>Nat.ble (x.1+x.2.length) z.length)=true) (X:K (.a (Bp qs (((z.map zC).set p (.arr nx k 0 0)).set q (.arr (nx+1) k' 0 0)))) ((nx+1,.cells e' k' [])::(nx,.cells e k [])::σ) (nx+2)):CY P TB Z ⟨d,.build t parts,ty,pos,af,g⟩ f σ nx K:=
 DO λV ρ h1 h2 h3=>by
  subst h3;obtain⟨i,zv,hi,s,l⟩:=HM N.out;obtain⟨G,L⟩:=h2.alloc (c:=0) (nl:=True) (w:=V.w) (ob:=.cells e k []) rfl rfl rfl rfl (i9 _) (λ_ _=>rfl) (.inl ⟨by simp[Ax],rfl⟩);obtain⟨F,J⟩:=G.alloc (c:=0) (nl:=True) (w:=V.w) (ob:=.cells e' k' []) rfl rfl rfl rfl (i9 _) (λ_ _=>rfl) (.inl ⟨by simp[Ax],rfl⟩);have r:=L.trans J;have H:=Dx (V:=Ax (Ax V V.w.heap.size 0 True V.w) V.w.heap.size 0 True V.w) (ρ:=ρ) parts.toList es qs (λx y e U=>(h1.get (by simp only[Op.operands];simpa using y) U).ext r) I R
  have u:Dk (Ax (Ax V V.w.heap.size 0 True V.w) V.w.heap.size 0 True V.w) (((z.map zC).set p (.arr V.nx k 0 0)).set q (.arr (V.nx+1) k' 0 0)) zv.cells:=by
   refine⟨by rw[pY,pY,gt,<-l];simp,λj c v h Q=>?_⟩
   have b:z[j]?=some v:=by rw[<-l,qu];exact Q
   by_cases n:q=j
   ·subst n
    rw[m]at b
    injection b with b
    subst b;rw[qh (by rw[pY,gt];exact(ce.1 m).1)]at h
    injection h with h
    subst h;exact AJ.nil (by simp[Ax]) (by simp[Ax])
   ·rw [qi n]at h
    by_cases o:p=j
    ·subst o
     rw[M]at b
     injection b with b
     subst b;rw[qh (by rw[gt];exact(ce.1 M).1)]at h
     injection h with h
     subst h;exact AJ.nil (by simp[Ax];omega) (by simp[Ax])
    ·rw[qi o,i8,b]at h
     injection h with h
     subst h;exact Ls (gc.1 A v (co b))
  obtain⟨cells,h4,Y⟩:=GV _ _ _ _ H u (λx y=>by rw[pY,pY,gt];exact Jt _ _ B x y);have hb:=run_build (P:=P) (ρ:=ρ) (parts:=parts) (V:=V) hi s T.out h4;refine⟨.agg cells,_,_,_,?_,r,F,(show Br _ (.a _) _ from ⟨cells,rfl,Y⟩),X⟩
  show ((do let v <-Instr.build t (parts.map λ(i,x)=>(i,ρ x));pure (Go.Next.value v):Sem Go.Next)).run P V.w=_
  simp only[pp,hb,kw];rfl
end
abbrev Fm:=List (Value×List Int)
def sI(l:Fm):List (Value×List Value):=l.map λx=>(x.1,x.2.map (.int .i64))
def Ay(l:Fm):List (List C):=l.map λx=>[.d (.v x.1)]
abbrev Ms(xs:List Int):List (List C):=xs.map AE
theorem gv{V:View}{i k off n:Nat}{v:Value}(h:AJ V (.arr i k off n) v):(V.nl i/\off=0/\n=0/\v=.slice none 0 0)\/(¬V.nl i/\off+n<=V.cap i/\v=.slice (some ⟨V.ρ i,off*k,none⟩) n (V.cap i-off)):=by
 cases h with
 | nil _ h=>exact .inl ⟨h,rfl,rfl,rfl⟩
 | arr _ b a=>exact .inr ⟨b,a,rfl⟩
theorem Lo(l m:Fm):sI (l++m)=sI l++sI m:=qe
theorem AZ(l m:Fm):Ay (l++m)=Ay l++Ay m:=qe
theorem CL(l:Fm):(Ay l).length=l.length:=gt _
theorem VM(r:Nat->Nat)(l:Fm):(Ay l).map (C.Cp r)=Ay l:=by
 unfold Ay;rw[qt];rfl
theorem eO(l:List Int):(Ms l).length=l.length:=gt _
section
variable {P:Program}{TB:BR}{Z:Ctx}{N:Nat}{V:View}{σ:Ab}{a i s:Nat}{T Ta:TypeId}{R1 R2:List (List C)}{xs:List Int}{l1 l2:Fm}
theorem XV{l:Fm}{x:Value×List Value}(h:x∈sI l):∃y∈l,x=(y.1,y.2.map (.int .i64)):=by
 obtain⟨y,a,rfl⟩:=d8.1 h;exact⟨y,a,rfl⟩
theorem Inv.put(h:Inv TB Z V σ)(ha:look σ a=some (.cells Ta 1 (R1++[.arr i 1 0 xs.length]::R2)))(hi:look σ i=some (.cells T 1 (Ms xs)))(P:look σ s=some (.sld T (sI (l1++l2)))) :
 ∃v,Inv TB Z V ((a,.cells Ta 1 (R1++[.d (.v v)]::R2))::(s,.sld T (sI (l1++(v,xs)::l2)))::kill i σ):=by
 have has:a≠s:=λe=>by rw[e,P]at ha;cases ha
 have Y:i≠s:=λe=>by rw[e,P]at hi;cases hi
 have hai:a≠i:=λe=>by
  rw[e,hi]at ha
  injection ha with ha;injection ha with _ _ ha
  have B:(Ms xs)[R1.length]?=some [.arr i 1 0 xs.length]:=by rw[ha];simp
  rw[i8,d7]at B;obtain⟨x,_,A⟩:=B;cases A
 rcases h.st.obj a _ ha with ⟨_,h0⟩|⟨hna,cur,R,N,h4,h5,h6,h7⟩
 ·simp at h0
 obtain⟨v,hv,Q⟩:=h7 R1.length [.arr i 1 0 xs.length] 0 (.arr i 1 0 xs.length) (by simp) rfl;have Q:=gv Q
 have hsl:Qq v=true:=by rcases Q with ⟨_,_,_,rfl⟩|⟨_,_,rfl⟩<;>rfl
 have I:∀b,KO v b->¬V.nl i/\b=V.ρ i:=by
  rintro b ⟨o,n,c,rfl⟩
  rcases Q with ⟨_,_,_,p⟩|⟨m,_,p⟩
  ·cases p
  ·injection p with p;injection p with p;injection p with p;exact⟨m,p⟩
 have K:Ly V.w T v (xs.map (.int .i64)):=by
  rcases h.st.obj i _ hi with ⟨G,z⟩|⟨hni,cur',z,F,g4,g5,g6,g7⟩
  ·have:xs=[]:=by simpa using z
   subst this
   rcases Q with ⟨_,_,_,rfl⟩|⟨m,_⟩
   ·exact .inl ⟨rfl,rfl⟩
   ·exact absurd G m
  ·rcases Q with ⟨m,_⟩|⟨_,hle,rfl⟩
   ·exact absurd m hni
   ·refine .inr ⟨V.ρ i,V.cap i,cur',by simp,z,by simpa using F,by rw[eO]at g4;simpa using g4,g5,λj x M=>?_⟩
    rw[i8,d7]at M;obtain⟨n,m,rfl⟩:=M;obtain⟨w,p,hcw⟩:=g7 j [.d (.v (.int .i64 n))] 0 (.d (.v (.int .i64 n))) (by simp[Ms,m]) rfl;have:w=.int .i64 n:=AJ.val hcw;subst this;exact⟨by simpa using p,rfl⟩
 refine⟨v,?_⟩;have look':∀id o,look ((a,.cells Ta 1 (R1++[.d (.v v)]::R2))::(s,.sld T (sI (l1++(v,xs)::l2)))::kill i σ) id=some o->
  (id=a/\o=.cells Ta 1 (R1++[.d (.v v)]::R2))\/(id=s/\o=.sld T (sI (l1++(v,xs)::l2)))\/(id≠a/\id≠s/\id≠i/\look σ id=some o):=λid o f=>by
  rw[AD]at f;by_cases B:a=id
  ·rw[if_pos B]at f;injection f with f;exact .inl ⟨B.symm,f.symm⟩
  ·rw [if_neg B,AD]at f
   by_cases R:s=id
   ·rw[if_pos R]at f;injection f with f;exact .inr (.inl ⟨R.symm,f.symm⟩)
   ·rw[if_neg R,Fx]at f
    by_cases N:id=i
    ·rw[if_pos N]at f;cases f
    ·rw[if_neg N]at f;exact .inr (.inr ⟨Ne.symm B,Ne.symm R,N,f⟩)
 have hsb:∀b,E9 V s (.sld T (sI (l1++(v,xs)::l2))) b->E9 V s (.sld T (sI (l1++l2))) b\/(¬V.nl i/\b=V.ρ i):=by
  rintro b ⟨x,A,hb⟩;obtain⟨y,l,rfl⟩:=XV A
  rcases d9.1 l with l|l
  ·exact .inl ⟨_,d8.2 ⟨y,pJ _ l,rfl⟩,hb⟩
  ·rcases mt.1 l with rfl|l
   ·exact .inr (I b hb)
   ·exact .inl ⟨_,d8.2 ⟨y,pS _ l,rfl⟩,hb⟩
 have t:=h.st.obj s _ P
 have H:∀x∈sI (l1++l2),∀b,KO x.1 b->¬KO v b:=λx A b hb u=>by
  obtain⟨m,rfl⟩:=I b u;exact h.st.inj s i _ _ P hi (Ne.symm Y) t.1 m _ ⟨x,A,hb⟩ rfl
 have src:∀id o,look ((a,.cells Ta 1 (R1++[.d (.v v)]::R2))::(s,.sld T (sI (l1++(v,xs)::l2)))::kill i σ) id=some o->¬V.nl id->∀b,E9 V id o b->∃g J,look σ g=some J/\¬V.nl g/\E9 V g J b/\(g=id\/g=i/\id=s):=λid o f m b hb=>by
  rcases look' id o f with ⟨rfl,rfl⟩|⟨rfl,rfl⟩|⟨_,_,_,f⟩
  ·exact⟨_,_,ha,m,hb,.inl rfl⟩
  ·rcases hsb b hb with hb|⟨B,rfl⟩
   ·exact⟨_,_,P,m,hb,.inl rfl⟩
   ·exact⟨_,_,hi,B,rfl,.inr ⟨rfl,rfl⟩⟩
  ·exact⟨_,_,f,m,hb,.inl rfl⟩
 have noi:∀id o,look ((a,.cells Ta 1 (R1++[.d (.v v)]::R2))::(s,.sld T (sI (l1++(v,xs)::l2)))::kill i σ) id=some o->id≠i:=λid o f=>by
  rcases look' id o f with ⟨rfl,rfl⟩|⟨rfl,rfl⟩|⟨_,_,N,_⟩
  ·exact hai
  ·exact Ne.symm Y
  ·exact N
 refine⟨h.os,h.tape,h.output,h.old,h.iLt,h.iNew,h.ext,⟨λid o f=>?_,λid o f=>?_,λid o f m b hb=>?_,λid id' o o' f U X m hn' b hb u=>?_⟩,λid o f m b hb=>?_,h.tabs,h.hid.same rfl (λ_ h=>h) (λ_ h=>.inl h) λb ⟨id,o,f,m,hb⟩=>let ⟨g,J,G,z,F,_⟩:=src id o f m b hb;⟨g,J,G,z,F⟩⟩
 ·rcases look' id o f with ⟨rfl,rfl⟩|⟨rfl,rfl⟩|⟨_,_,_,f⟩
  ·refine .inr ⟨hna,cur,R,N,by simpa using h4,h5,λr L=>?_,λq r j c hq M=>?_⟩
   ·rcases d9.1 L with L|L
    ·exact h6 r (pJ _ L)
    ·rcases mt.1 L with rfl|L
     ·rfl
     ·exact h6 r (pS _ (pN _ L))
   ·by_cases hq0:q=R1.length
    ·subst hq0
     simp at hq;subst hq
     have hj0:j=0:=by have:=(ce.1 M).1;simp at this;omega
     subst hj0;simp at M;subst M;exact⟨v,hv,.d (.v hsl)⟩
    ·refine h7 q r j c ?_ M
     rw[<-hq]
     rcases pT q R1.length with h8|h8
     ·rw[em h8,em h8]
     ·rw[f7 h8,f7 h8]
      obtain⟨k,hk⟩:∃k,q-R1.length=k+1:=⟨q-R1.length-1,by omega⟩
      rw[hk];rfl
  ·refine⟨t.1,?_,λx A=>?_⟩
   ·have hp:=t.2.1
    rw[Lo,q9]at hp;rw[Lo,q9];refine⟨hp.1,qd.2 ⟨λy l b hb u=>H y (by rw[Lo];exact pS _ l) b u hb,hp.2.1⟩,λx A y l=>?_⟩
    rcases mt.1 l with rfl|l
    ·exact λb hb=>H x (by rw[Lo];exact pJ _ A) b hb
    ·exact hp.2.2 x A y l
   ·obtain⟨y,l,rfl⟩:=XV A
    rcases d9.1 l with l|l
    ·exact t.2.2 _ (d8.2 ⟨y,pJ _ l,rfl⟩)
    ·rcases mt.1 l with rfl|l
     ·exact K
     ·exact t.2.2 _ (d8.2 ⟨y,pS _ l,rfl⟩)
  ·exact h.st.obj id o f
 ·rcases look' id o f with ⟨rfl,rfl⟩|⟨rfl,rfl⟩|⟨_,_,_,f⟩
  ·exact h.st.lt _ _ ha
  ·exact h.st.lt _ _ P
  ·exact h.st.lt _ _ f
 ·obtain⟨g,J,G,z,F,_⟩:=src id o f m b hb
  exact h.st.free _ _ G z b F
 ·obtain⟨g,J,G,z,F,g4⟩:=src id o f m b hb
  obtain⟨S,o0',g1',g2',g3',g4'⟩:=src id' o' U hn' b u;refine h.st.inj g S _ _ G g1' ?_ z g2' b F g3';have n1:=noi id o f;have n2:=noi id' o' U;rintro rfl
  rcases g4 with rfl|⟨rfl,rfl⟩<;>rcases g4' with rfl|⟨e1,rfl⟩
  ·exact X rfl
  ·exact n1 e1
  ·exact n2 rfl
  ·exact X rfl
 ·obtain⟨g,J,G,z,F,_⟩:=src id o f m b hb
  exact h.live _ _ G z b F
theorem Ak.put{c:Code}{Q:Exit->Env->Ab->Nat->Prop}{f:Env}{nx:Nat}(a i s:Nat)(R1 R2:List (List C))(xs:List Int)(l1 l2:Fm)(ha:look σ a=some (.cells Ta 1 (R1++[.arr i 1 0 xs.length]::R2)))(hi:look σ i=some (.cells T 1 (Ms xs)))(g:look σ s=some (.sld T (sI (l1++l2))))
 (h:∀v,Ak P TB Z N c Q f ((a,.cells Ta 1 (R1++[.d (.v v)]::R2))::(s,.sld T (sI (l1++(v,xs)::l2)))::kill i σ) nx):Ak P TB Z N c Q f σ nx:=by
 intro V ac b;obtain⟨v,e⟩:=b.inv.put ha hi g;exact h v V ac ⟨b.env,b.lt,b.size,e,b.nx,b.defers⟩
theorem Inv.take{v:Value}(h:Inv TB Z V σ)(ha:look σ a=some (.cells Ta 1 (R1++[.d (.v v)]::R2)))(hs:look σ s=some (.sld T (sI (l1++(v,xs)::l2)))) :
 ∃V',V'.w=V.w/\V'.nx=V.nx+1/\Ext V V'/\Inv TB Z V' ((a,.cells Ta 1 (R1++[.arr V.nx 1 0 xs.length]::R2))::(V.nx,.cells T 1 (Ms xs))::(s,.sld T (sI (l1++l2)))::σ):=by
 have has:a≠s:=λe=>by rw[e,hs]at ha;cases ha
 have p:=h.st.obj s _ hs;have hsn:=h.st.lt _ _ hs;have l:=h.st.lt _ _ ha;have K:((v,xs.map (.int .i64)):Value×List Value)∈sI (l1++(v,xs)::l2):=d8.2 ⟨(v,xs),by simp,rfl⟩
 obtain⟨u,cap,nl,hb0,hcr,hob⟩:∃u cap nl,(¬nl->KO v u)/\AJ (Ax V u cap nl V.w) (.arr V.nx 1 0 xs.length) v/\CJ (Ax V u cap nl V.w) V.nx (.cells T 1 (Ms xs)):=by
  rcases p.2.2 _ K with ⟨m,G⟩|⟨b,cap,cur,m,G,z,h4,h5,h6⟩
  ·have m:v=.slice none 0 0:=m
   have hx0:xs=[]:=by simpa using G
   subst m;subst hx0;exact⟨0,0,True,λh=>absurd trivial h,.nil (by simp[Ax]) (by simp[Ax]),.inl ⟨by simp[Ax],rfl⟩⟩
  ·have m:v=.slice (some ⟨b,0,none⟩) (xs.map (Value.int .i64)).length cap:=m
   rw[gt]at m h4;refine⟨b,cap,False,λ_=>⟨_,_,_,m⟩,?_,.inr ⟨by simp[Ax],cur,by simpa[Ax]using G,by simpa[Ax]using z,by simpa[Ax]using h4,by simpa[Ax]using h5,λr A=>?_,λq r j c Y L=>?_⟩⟩
   ·rw[m]
    have:=@AJ.arr (Ax V b cap False V.w) V.nx 1 0 xs.length (by simp[Ax]) (by simp[Ax]) (by simpa[Ax]using h4)
    simpa[Ax]using this
   ·obtain⟨n,_,rfl⟩:=d8.1 A;rfl
   ·rw[i8,d7]at Y
    obtain⟨n,t,rfl⟩:=Y
    have R:j=0:=by have:=(ce.1 L).1;simp at this;omega
    subst R;simp at L;subst L;exact⟨.int .i64 n,by simpa using (h6 q (.int .i64 n) (by simp[t])).1,.d (.v rfl)⟩
 have e:Ext V (Ax V u cap nl V.w):=Fc (i9 _) λ_ _=>rfl
 have hρ:(Ax V u cap nl V.w).ρ V.nx=u:=by simp[Ax]
 have hnl:(Ax V u cap nl V.w).nl V.nx↔nl:=by simp[Ax]
 refine⟨Ax V u cap nl V.w,rfl,rfl,e,?_⟩;have look':∀id o,look ((a,.cells Ta 1 (R1++[.arr V.nx 1 0 xs.length]::R2))::(V.nx,.cells T 1 (Ms xs))::(s,.sld T (sI (l1++l2)))::σ) id=some o->
  (id=a/\o=.cells Ta 1 (R1++[.arr V.nx 1 0 xs.length]::R2))\/(id=V.nx/\o=.cells T 1 (Ms xs))\/(id=s/\o=.sld T (sI (l1++l2)))\/(id≠a/\id≠s/\look σ id=some o):=λid o f=>by
  rw[AD]at f;by_cases m:a=id
  ·rw[if_pos m]at f;injection f with f;exact .inl ⟨m.symm,f.symm⟩
  ·rw [if_neg m,AD]at f
   by_cases G:V.nx=id
   ·rw[if_pos G]at f;injection f with f;exact .inr (.inl ⟨G.symm,f.symm⟩)
   ·rw[if_neg G,AD]at f
    by_cases z:s=id
    ·rw[if_pos z]at f;injection f with f;exact .inr (.inr (.inl ⟨z.symm,f.symm⟩))
    ·rw[if_neg z]at f;exact .inr (.inr (.inr ⟨Ne.symm m,Ne.symm z,f⟩))
 have J:∀x∈sI (l1++l2),x∈sI (l1++(v,xs)::l2):=λx i=>by
  obtain⟨y,P,rfl⟩:=XV i;refine d8.2 ⟨y,?_,rfl⟩
  rcases d9.1 P with P|P
  ·exact pJ _ P
  ·exact pS _ (pN _ P)
 have hp:=p.2.1;rw[Lo,q9]at hp;have hp2:=qd.1 hp.2.1
 have M:∀x∈sI (l1++l2),∀b,KO x.1 b->¬KO v b:=λx i b hb F=>by
  rw[Lo]at i
  rcases d9.1 i with i|i
  ·exact hp.2.2 x i _ (rx ..) b hb F
  ·exact hp2.1 x i b F hb
 have src:∀id o,look ((a,.cells Ta 1 (R1++[.arr V.nx 1 0 xs.length]::R2))::(V.nx,.cells T 1 (Ms xs))::(s,.sld T (sI (l1++l2)))::σ) id=some o->¬(Ax V u cap nl V.w).nl id->∀b,E9 (Ax V u cap nl V.w) id o b->
  ∃g N,look σ g=some N/\¬V.nl g/\E9 V g N b/\(g=id\/g=s/\id=V.nx/\KO v b)/\(id=s->∃x∈sI (l1++l2),KO x.1 b):=λid o f t b hb=>by
  rcases look' id o f with ⟨rfl,rfl⟩|⟨rfl,rfl⟩|⟨rfl,rfl⟩|⟨_,z,f⟩
  ·exact⟨_,_,ha,λh=>t ((e.nl _ l).2 h),by have:b=_:=hb;rw[e.ρ _ l]at this;exact this,.inl rfl,λe=>absurd e has⟩
  ·have hb:b=_:=hb
   rw[hρ]at hb;subst hb;have hv:=hb0 λh=>t (hnl.2 h);exact⟨_,_,hs,p.1,⟨_,K,hv⟩,.inr ⟨rfl,rfl,hv⟩,λe=>by omega⟩
  ·obtain⟨x,i,hb⟩:=hb
   exact⟨_,_,hs,p.1,⟨x,J x i,hb⟩,.inl rfl,λ_=>⟨x,i,hb⟩⟩
  ·have hlt:=h.st.lt _ _ f
   exact⟨_,_,f,λh=>t ((e.nl _ hlt).2 h),(AG e hlt).1 hb,.inl rfl,λe=>absurd e z⟩
 refine⟨h.os,h.tape,h.output,h.old,h.iLt,h.iNew,h.ext.trans e,⟨λid o f=>?_,λid o f=>?_,λid o f t b hb=>?_,λid id' o o' f ho' hne t hn' b hb F=>?_⟩,λid o f t b hb=>?_,h.tabs,h.hid.same rfl (λ_ h=>h) (λ_ h=>.inl h) λb ⟨id,o,f,t,hb⟩=>let ⟨g,N,X,U,S,_⟩:=src id o f t b hb;⟨g,N,X,U,S⟩⟩
 ·rcases look' id o f with ⟨rfl,rfl⟩|⟨rfl,rfl⟩|⟨rfl,rfl⟩|⟨_,_,f⟩
  ·rcases h.st.obj _ _ ha with ⟨_,h0⟩|⟨hna,cur,G,z,h4,h5,h6,h7⟩
   ·simp at h0
   refine .inr ⟨λh=>hna ((e.nl _ l).1 h),cur,by rw[e.ρ _ l];exact G,by rw[e.cap _ l];exact z,by rw[e.cap _ l];simpa using h4,by rw[e.cap _ l];exact h5,λr A=>?_,λq r j c Y L=>?_⟩
   ·rcases d9.1 A with A|A
    ·exact h6 r (pJ _ A)
    ·rcases mt.1 A with rfl|A
     ·rfl
     ·exact h6 r (pS _ (pN _ A))
   ·by_cases hq0:q=R1.length
    ·subst hq0
     simp at Y;subst Y
     have R:j=0:=by have:=(ce.1 L).1;simp at this;omega
     subst R;simp at L;subst L;obtain⟨w,hw,hc⟩:=h7 R1.length [.d (.v v)] 0 (.d (.v v)) (by simp) rfl;have hw2:w=v:=AJ.val hc;subst hw2;exact⟨w,hw,hcr⟩
    ·obtain⟨w,hw,hc⟩:=h7 q r j c (by
      rw[<-Y]
      rcases pT q R1.length with h8|h8
      ·rw[em h8,em h8]
      ·rw[f7 h8,f7 h8]
       obtain⟨k,hk⟩:∃k,q-R1.length=k+1:=⟨q-R1.length-1,by omega⟩
       rw[hk];rfl) L
     exact⟨w,hw,hc.ext e⟩
  ·exact hob
  ·refine⟨λh=>p.1 ((e.nl _ hsn).1 h),?_,λx i=>p.2.2 x (J x i)⟩
   rw[Lo,q9];exact⟨hp.1,hp2.2,λx i y P=>hp.2.2 x i y (pN _ P)⟩
  ·exact(h.st.obj id o f).AO e (h.st.lt id o f) λ_ _ _=>rfl
 ·rcases look' id o f with ⟨rfl,rfl⟩|⟨rfl,rfl⟩|⟨rfl,rfl⟩|⟨_,_,f⟩
  ·exact rf l
  ·exact rM _
  ·exact rf hsn
  ·exact rf (h.st.lt _ _ f)
 ·obtain⟨g,N,X,U,S,_⟩:=src id o f t b hb
  exact h.st.free _ _ X U b S
 ·obtain⟨g,N,X,U,S,g4,g5⟩:=src id o f t b hb
  obtain⟨I,o0',g1',g2',g3',H,g5'⟩:=src id' o' ho' hn' b F;by_cases B:g=I
  ·rcases g4 with g4|⟨k1,k2,k3⟩<;>rcases H with H|⟨k1',k2',k3'⟩
   ·exact hne (by rw[<-g4,<-H,B])
   ·obtain⟨x,i,Q⟩:=g5 (by rw[<-g4,B,k1'])
    exact M x i b Q k3'
   ·obtain⟨x,i,Q⟩:=g5' (by rw[<-H,<-B,k1])
    exact M x i b Q k3
   ·exact hne (by rw[k2,k2'])
  ·exact h.st.inj g I _ _ X g1' B U g2' b S g3'
 ·obtain⟨g,N,X,U,S,_⟩:=src id o f t b hb
  exact h.live _ _ X U b S
theorem Ak.take{c:Code}{Q:Exit->Env->Ab->Nat->Prop}{f:Env}{nx:Nat}(a s:Nat)(R1 R2:List (List C))(v:Value)(xs:List Int)(l1 l2:Fm)(ha:look σ a=some (.cells Ta 1 (R1++[.d (.v v)]::R2)))(g:look σ s=some (.sld T (sI (l1++(v,xs)::l2))))
 (h:Ak P TB Z N c Q f ((a,.cells Ta 1 (R1++[.arr nx 1 0 xs.length]::R2))::(nx,.cells T 1 (Ms xs))::(s,.sld T (sI (l1++l2)))::σ) (nx+1)):Ak P TB Z N c Q f σ nx:=by
 intro V ac b;obtain⟨V',j,i,e,hi⟩:=b.inv.take ha g;have:=h V' ac ⟨b.env.ext e,b.lt,b.size,by have:=b.nx;subst this;exact hi,by rw[i,b.nx],b.defers⟩;rw[j]at this;exact this
theorem Ak.ca{c:Code}{Q:Exit->Env->Ab->Nat->Prop}{f:Env}{nx:Nat}(T:TypeId)(h:Ak P TB Z N c Q f ((nx,.sld T (sI []))::σ) (nx+1)):Ak P TB Z N c Q f σ nx:=by
 intro V ac k;have hi:=k.inv;have e:Ext V (Ax V 0 0 False V.w):=Fc (i9 _) λ_ _=>rfl;have p:=k.nx;subst p
 have look':∀id o,look ((V.nx,.sld T (sI []))::σ) id=some o->(id=V.nx/\o=.sld T (sI []))\/(id≠V.nx/\look σ id=some o):=λid o a=>by
  rw[AD]at a;by_cases d:V.nx=id
  ·rw[if_pos d]at a;injection a with a;exact .inl ⟨d.symm,a.symm⟩
  ·rw[if_neg d]at a;exact .inr ⟨Ne.symm d,a⟩
 have src:∀id o,look ((V.nx,.sld T (sI []))::σ) id=some o->∀b,E9 (Ax V 0 0 False V.w) id o b->look σ id=some o/\E9 V id o b/\((Ax V 0 0 False V.w).nl id↔V.nl id):=λid o a b hb=>by
  rcases look' id o a with ⟨rfl,rfl⟩|⟨_,a⟩
  ·obtain⟨x,m,_⟩:=hb;cases m
  ·have l:=hi.st.lt _ _ a
   exact⟨a,(AG e l).1 hb,e.nl _ l⟩
 refine h (Ax V 0 0 False V.w) ac ⟨k.env.ext e,k.lt,k.size,?_,rfl,k.defers⟩;refine⟨hi.os,hi.tape,hi.output,hi.old,hi.iLt,hi.iNew,hi.ext.trans e,⟨λid o a=>?_,λid o a=>?_,λid o a g b hb=>?_,λid id' o o' a n q g r b hb s=>?_⟩,λid o a g b hb=>?_,hi.tabs,hi.hid.same rfl (λ_ h=>h) (λ_ h=>.inl h) λb ⟨id,o,a,g,hb⟩=>let ⟨d,j,i⟩:=src id o a b hb;⟨id,o,d,λh=>g (i.2 h),j⟩⟩
 ·rcases look' id o a with ⟨rfl,rfl⟩|⟨_,a⟩
  ·exact⟨by simp[Ax],List.Pairwise.nil,λx m=>by cases m⟩
  ·exact(hi.st.obj id o a).AO e (hi.st.lt id o a) λ_ _ _=>rfl
 ·rcases look' id o a with ⟨rfl,rfl⟩|⟨_,a⟩
  ·exact rM _
  ·exact rf (hi.st.lt _ _ a)
 ·obtain⟨d,j,i⟩:=src id o a b hb
  exact hi.st.free _ _ d (λh=>g (i.2 h)) b j
 ·obtain⟨d,j,i⟩:=src id o a b hb
  obtain⟨v,u,t⟩:=src id' o' n b s;exact hi.st.inj _ _ _ _ d v q (λh=>g (i.2 h)) (λh=>r (t.2 h)) b j u
 ·obtain⟨d,j,i⟩:=src id o a b hb
  exact hi.live _ _ d (λh=>g (i.2 h)) b j
def C.OB:C->Bool
 | .d (.v _)|.d (.l [])|.arr ..|.ptr ..|.mp _|.fn _ []=>true
 | _=>false
def O.OB:O->Prop
 | .cells _ _ rows=>∀r∈rows,∀c∈r,C.OB c=true
 | _=>True
def E.OB:E->Prop
 | .o c=>C.OB c=true
 | .a cs=>∀c∈cs,C.OB c=true
 | .t xs=>∀x∈xs,∀c∈x.2,C.OB c=true
 | .e=>True
def nJ(σ:Ab):Prop:=∀x∈σ,O.OB x.2
theorem nJ.get{σ:Ab}(h:nJ σ){id:Nat}{o:O}(a:look σ id=some o):O.OB o:=by
 induction σ with
 | nil=>cases a
 | cons x r b=>
  obtain⟨k,y⟩:=x;rw[AD]at a;by_cases hk:k=id
  ·rw[if_pos hk]at a;injection a with a;subst a;exact h _ (rx ..)
  ·rw[if_neg hk]at a;exact b (λz c=>h z (pN _ c)) a
structure Ut (V V':View):Prop where
 ρ:V'.ρ=V.ρ
 cap:V'.cap=V.cap
 nl:V'.nl=V.nl
 nx:V'.nx=V.nx
 w:V'.w=V.w
theorem AJ.OB{V V':View}(s:Ut V V'){c:C}{v:Value}(h:AJ V c v)(i:c.OB=true):AJ V' c v:=by
 cases h with
 | @d x v h=>
  cases h with
  | v h=>exact .d (.v h)
  | nil=>exact .d .nil
  | e h=>exact .d (.e h)
  | @l rows b o k cap vs hb a g m r q=>
   cases rows with
   | nil=>exact .d (.e g)
   | cons=>cases i
  | p=>cases i
 | nil a g=>exact .nil (by rw[s.nx];exact a) (by rw[s.nl];exact g)
 | @arr id k off len a g m=>rw[<-s.ρ,<-s.cap];exact .arr (by rw[s.nx];exact a) (by rw[s.nl];exact g) (by rw[s.cap];exact m)
 | ptr a g=>rw[<-s.ρ];exact .ptr (by rw[s.nx];exact a) (by rw[s.nl];exact g)
 | @fn f cap vs a g=>
  cases cap with
  | nil=>exact .fn a λj c v n=>by simp at n
  | cons=>cases i
 | mp a=>rw[<-s.ρ];exact .mp (by rw[s.nx];exact a)
 | mv=>cases i
theorem Br.OB{V V':View}(s:Ut V V'){e:E}{v:Value}(h:Br V e v)(i:e.OB):Br V' e v:=by
 cases e with
 | o c=>exact AJ.OB s h i
 | a cs=>obtain⟨vs,n,m,l⟩:=h;exact⟨vs,n,m,λj c v d f=>(l j c v d f).OB s (i c (co d))⟩
 | t xs=>
  obtain⟨vs,n,m,l⟩:=h;refine⟨vs,n,m,λj x v d f=>?_⟩;have q:=l j x v d f;have p:=i x (co d);obtain⟨b,cs⟩:=x;cases b
  ·obtain⟨c,g,k⟩:=q
   have g:cs=[c]:=g;subst g;exact⟨c,rfl,k.OB s (p c (by simp))⟩
  ·obtain⟨ws,g,k,r⟩:=q
   exact⟨ws,g,k,λj c v d f=>(r j c v d f).OB s (p c (co d))⟩
 | e=>exact h
theorem CJ.OB{V V':View}(s:Ut V V'){id:Nat}{o:O}(h:CJ V id o)(f:o.OB):CJ V' id o:=by
 cases o with
 | cells T k rows=>
  rcases h with ⟨b,a⟩|⟨d,cur,a,u,t,q,p,n⟩
  ·exact .inl ⟨by rw[s.nl];exact b,a⟩
  ·refine .inr ⟨by rw[s.nl];exact d,cur,by rw[s.w,s.ρ];exact a,by rw[s.cap];exact u,by rw[s.cap];exact t,by rw[s.cap];exact q,p,λi r j c hi e=>?_⟩
   obtain⟨v,m,g⟩:=n i r j c hi e;exact⟨v,m,g.OB s (f r (co hi) c (co e))⟩
 | mp es=>obtain⟨d,ents,clock,b,a⟩:=h;exact⟨by rw[s.nl];exact d,ents,clock,by rw[s.w,s.ρ];exact b,a⟩
 | sld T l=>exact⟨by rw[s.nl];exact h.1,by rw[s.w];exact h.2⟩
section
variable {o:Oper}{f:Env}{nx:Nat}
theorem dc{V:View}{S:Uu}(h:Inv TB Z V σ)(c:Ov TB V σ S):Inv TB (Fv (Gl V σ) (Gl V σ) [] S) (Gl V σ) []:=
 ⟨rfl,rfl,rfl,λ_ _ _=>rfl,λb hb=>by
  rcases hb with hb|⟨id,o,e,d,hb⟩
  ·exact h.iLt b hb
  ·exact(h.st.obj id o e).blt d hb,λ_ h=>.inl h,Ext.refl _,EF,λid o f=>(by cases f),λx a=>⟨.inl (h.tabs x a).1,(h.tabs x a).2⟩,⟨S,⟨c.r,λb hb=>.inl (c.ji b hb),λb hb hi=>hi.elim (c.bi b hb) λ⟨id,o,e,d,a⟩=>c.ap b ⟨id,o,e,d,a⟩ hb,λb ⟨_,_,h,_⟩=>by cases h⟩,λb hb=>.inl hb,λb hb=>.inr (.inr hb)⟩⟩
theorem bn{V V':View}{σ':Ab}{S:Uu}(d:Inv TB Z V σ)(M:Ov TB V σ S)(G:∀b,S.J b->Z.J b\/Z.V.w.heap.size<=b\/Z.F b)(m:∀b,S.B b->Z.V.w.heap.size<=b\/Z.F b)(l:Ext (Gl V σ) V')(hi:Inv TB (Fv (Gl V σ) (Gl V σ) [] S) V' σ')(A:nJ σ') :
 ∃V3,Ut V' V3/\Ext V V3/\Inv TB Z V3 (σ'++σ):=by
 have s:Ut V' { V' with I:=λb=>V.I b\/(V'.I b/\(V.w.heap.size<=b\/S.B b)) } := ⟨rfl,rfl,rfl,rfl,rfl⟩
 have e:Ext V { V' with I:=λb=>V.I b\/(V'.I b/\(V.w.heap.size<=b\/S.B b)) } := ⟨λ_ h=>.inl h,λb hb=>l.heap b (.inl hb),l.size,l.ρ,l.cap,l.nl,l.nx⟩
 have bs:∀ {id:Nat} {o:O} {b:Nat},E9 { V' with I:=λb=>V.I b\/(V'.I b/\(V.w.heap.size<=b\/S.B b)) } id o b↔E9 V' id o b:=λ{id o b} => by cases o<;>exact Iff.rfl
 have k:∀id o,look σ' id=some o->¬V'.nl id->∀b,E9 V' id o b->V.w.heap.size<=b\/S.B b:=λid o a f b hb=>by
  rcases hi.live id o a f b hb with h|h|h
  ·exact .inl h
  ·obtain⟨_,_,h,_⟩:=h;cases h
  ·exact .inr h
 have q:∀id o,look σ id=some o->¬V.nl id->∀b,E9 V id o b->(V.w.heap.size<=b\/S.B b)->False:=λid o a f b hb h=>by
  rcases h with h|h
  ·have:=(d.st.obj _ _ a).blt f hb;omega
  ·exact M.ap b ⟨id,o,a,f,hb⟩ h
 refine⟨_,s,e,⟨hi.os.trans d.os,hi.tape.trans d.tape,hi.output.trans d.output,λb hb L=>(hi.old b (lw hb d.ext.size) (λh=>h.elim (λ⟨_,_,h,_⟩=>by cases h) λh=>(m b h).elim (λh=>by omega) L)).trans (d.old b hb L),λb hb=>?_,λb hb=>?_,d.ext.trans e,⟨λid o a=>?_,λid o a=>?_,λid o a f b hb hI=>?_,λid id' o o' j g y f n b hb p=>?_⟩,λid o a f b hb=>?_,λx K=>⟨.inl (d.tabs x K).1,(hi.tabs x K).2⟩,?_⟩⟩
 ·rcases hb with hb|hb
  ·exact hi.iLt b (l.i b (.inl hb))
  ·exact hi.iLt b hb.1
 ·rcases hb with hb|hb
  ·exact d.iNew b hb
  ·rcases hb.2 with h|h
   ·exact .inr (.inl (lc d.ext.size h))
   ·exact .inr (m b h)
 ·rcases CD a with a|a
  ·exact(hi.st.obj id o a).OB s (A.get a)
  ·exact(d.st.obj id o a).AO e (d.st.lt id o a) λf b hb=>l.heap b (.inr ⟨id,o,a,f,hb⟩)
 ·rcases CD a with a|a
  ·exact hi.st.lt id o a
  ·exact lw (d.st.lt id o a) l.nx
 ·rcases CD a with a|a
  ·have u:=hi.st.free id o a f b (bs.1 hb)
   rcases hI with hI|hI
   ·exact u (l.i b (.inl hI))
   ·exact u hI.1
  ·have c:=d.st.lt id o a
   have hb:=(AG e c).1 hb;have f:¬V.nl id:=λh=>f ((e.nl id c).2 h)
   rcases hI with hI|hI
   ·exact d.st.free id o a f b hb hI
   ·exact q id o a f b hb hI.2
 ·rcases CD j with j|j<;>rcases CD g with g|g
  ·exact hi.st.inj _ _ _ _ j g y f n b (bs.1 hb) (bs.1 p)
  ·have u:=k id o j f b (bs.1 hb)
   have c:=d.st.lt _ _ g;exact q _ _ g (λh=>n ((e.nl _ c).2 h)) b ((AG e c).1 p) u
  ·have u:=k id' o' g n b (bs.1 p)
   have c:=d.st.lt _ _ j;exact q _ _ j (λh=>f ((e.nl _ c).2 h)) b ((AG e c).1 hb) u
  ·have c:=d.st.lt _ _ j
   have t:=d.st.lt _ _ g;exact d.st.inj _ _ _ _ j g y (λh=>f ((e.nl _ c).2 h)) (λh=>n ((e.nl _ t).2 h)) b ((AG e c).1 hb) ((AG e t).1 p)
 ·rcases CD a with a|a
  ·rcases k id o a f b (bs.1 hb) with h|h
   ·exact .inl (lc d.ext.size h)
   ·exact m b h
  ·have c:=d.st.lt _ _ a
   exact d.live id o a (λh=>f ((e.nl _ c).2 h)) b ((AG e c).1 hb)
 ·obtain⟨S1,v,H,P⟩:=hi.hid
  have N:∀b,S1.B b->V.w.heap.size<=b\/S.B b:=λb hb=>by
   rcases P b hb with h|h|h
   ·exact .inl h
   ·obtain⟨_,_,h,_⟩:=h;cases h
   ·exact .inr h
  refine⟨S1,⟨v.r,λb hb=>?_,λb hb hI=>v.bi b hb (hI.elim (λh=>l.i b (.inl h)) λh=>h.1),λb ⟨id,o,a,f,hb⟩ z=>?_⟩,λb hb=>?_,λb hb=>?_⟩
  ·rcases H b hb with h|h|h|h
   ·exact .inl (M.ji b h)
   ·exact .inr ⟨v.ji b hb,.inl h⟩
   ·obtain⟨_,_,h,_⟩:=h;cases h
   ·exact .inr ⟨v.ji b hb,.inr h⟩
  ·rcases CD a with a|a
   ·exact v.ap b ⟨id,o,a,f,bs.1 hb⟩ z
   ·have c:=d.st.lt _ _ a
    exact q _ _ a (λh=>f ((e.nl _ c).2 h)) b ((AG e c).1 hb) (N b z)
  ·rcases H b hb with h|h|h|h
   ·exact G b h
   ·exact .inr (.inl (lc d.ext.size h))
   ·obtain⟨_,_,h,_⟩:=h;cases h
   ·exact .inr (m b h)
  ·rcases N b hb with h|h
   ·exact .inl (lc d.ext.size h)
   ·exact m b h
theorem hO{V:View}{a:Act}{L:List (Nat×E)}(h:Inv TB Z V σ)(c:WM σ f L)(i:Jl V o f a):Jl (Gl V σ) o (look L) a:=λt e ht b=>by
 obtain⟨y,g,d⟩:=c.get t e b;exact d.rel h (i t y ht g)
theorem A9.JA{x:E}(L:List (Nat×E))(n:WM σ f L)(h:∀Z',A9 P TB Z' o (look L) [] nx x)(c:x.OB):A9 P TB Z o f σ nx x:=by
 intro V a q b p;obtain⟨S,k,i,j⟩:=b.hid;refine Oper.wp_mono ?_ (h (Fv (Gl V σ) (Gl V σ) [] S) (Gl V σ) a (hO b n q) (dc b k) p);rintro a' w' ⟨V',v,rfl,rfl,m,hi,l,d⟩;obtain⟨V3,s,e,g⟩:=bn b k i j m hi (λx d=>by cases d);exact⟨V3,v,s.w,rfl,e,g,by rw[s.nx];exact l,d.OB s c⟩
end
def Hg(σ:Ab):List Nat->Ab
 | []=>[]
 | i::r=>match look σ i with
  | some o=>(i,o)::Hg σ r
  | none=>Hg σ r
theorem EB{σ:Ab}:∀ {ids:List Nat} {id:Nat} {o:O},look (Hg σ ids) id=some o->id∈ids/\look σ id=some o
 | [],_,_,h=>by cases h
 | i :: r,id,o,h=>by
  unfold Hg at h;split at h
  ·rename_i o' a
   rw[AD]at h;by_cases hi:i=id
   ·rw[if_pos hi]at h;injection h with h;subst h;subst hi;exact⟨rx ..,a⟩
   ·rw[if_neg hi]at h
    have:=EB h;exact⟨pN _ this.1,this.2⟩
  ·have:=EB h
   exact⟨pN _ this.1,this.2⟩
def cO(σi:Ab)(f:Env):List (Nat×E)->Prop
 | []=>True
 | (t,e')::L=>(∃e,f t=some e/\(e=e'\/EZ σi e e'))/\cO σi f L
theorem cO.get{σi:Ab}{f:Env}:∀ {L:List (Nat×E)},cO σi f L->∀t e',look L t=some e'->∃e,f t=some e/\(e=e'\/EZ σi e e')
 | [],_,t,e,h=>by cases h
 | (k,x)::L,a,t,e,h=>by
  rw[AD]at h;by_cases hk:k=t
  ·rw[if_pos hk]at h;injection h with h;subst h;subst hk;exact a.1
  ·rw[if_neg hk]at h;exact cO.get a.2 t e h
theorem Ak.AB{c:Code}{Q:Exit->Env->Ab->Nat->Prop}{f:Env}{nx:Nat}(ids:List Nat)(L:List (Nat×E))(w:cO (Hg σ ids) f L)(h:Ak P TB Z N c Q (look L) (Ce ids σ) nx):Ak P TB Z N c Q f σ nx:=by
 intro V a l;have hi:=l.inv;have i:∀id o,look (Hg σ ids) id=some o->look σ id=some o:=λid o h=>(EB h).2;have u:Inv TB Z V (Hg σ ids):=hi.sub i;have e:Ext V (Gl V (Hg σ ids)):=LC;refine h (Gl V (Hg σ ids)) a ⟨λt x p=>?_,λt x p=>?_,l.size,?_,l.nx,l.defers⟩
 ·obtain⟨y,q,g⟩:=w.get t x p
  rcases g with rfl|g
  ·exact(l.env t _ q).ext e
  ·exact g.rel u (l.env t y q)
 ·obtain⟨y,q,_⟩:=w.get t x p
  exact l.lt t y q
 ·refine⟨hi.os,hi.tape,hi.output,hi.old,?_,?_,hi.ext.trans e,⟨?_,?_,?_,?_⟩,?_,λx p=>⟨.inl (hi.tabs x p).1,(hi.tabs x p).2⟩,hi.hid.same rfl (λ_ h=>.inl h) (λb hb=>hb.elim .inl λ⟨id,o,d,j,v⟩=>.inr ⟨id,o,i _ _ d,j,v⟩) λb ⟨id,o,d,j,hb⟩=>have g:=(A7 ids σ id o d).2;⟨id,o,g,j,(AG e (hi.st.lt id o g)).1 hb⟩⟩
  ·rintro b (hb|⟨id,o,d,j,hb⟩)
   ·exact hi.iLt b hb
   ·exact(hi.st.obj id o (i _ _ d)).blt j hb
  ·rintro b (hb|⟨id,o,d,j,hb⟩)
   ·exact hi.iNew b hb
   ·exact .inr (hi.live id o (i _ _ d) j b hb)
  ·intro id o d
   have:=(A7 ids σ id o d).2;exact(hi.st.obj id o this).AO e (hi.st.lt id o this) λ_ _ _=>rfl
  ·intro id o d;exact hi.st.lt id o (A7 ids σ id o d).2
  ·intro id o d j b k hb
   obtain⟨q,g⟩:=A7 ids σ id o d;have k:=(AG e (hi.st.lt id o g)).1 k
   rcases hb with hb|⟨id',o',n,m,v⟩
   ·exact hi.st.free id o g j b k hb
   ·have z:=EB n
    exact hi.st.inj id id' o o' g z.2 (λe=>q (e▸z.1)) j m b k v
  ·intro id id' o o' d n s j m b hb k
   have g:=(A7 ids σ id o d).2;have r:=(A7 ids σ id' o' n).2;exact hi.st.inj id id' o o' g r s j m b ((AG e (hi.st.lt id o g)).1 hb) ((AG e (hi.st.lt id' o' r)).1 k)
  ·intro id o d j b hb
   have g:=(A7 ids σ id o d).2;exact hi.live id o g j b ((AG e (hi.st.lt id o g)).1 hb)
theorem FZ.MU{a s:Nat}{T Ta:TypeId}{l:Fm}(ha:look σ a=some (.cells Ta 1 (Ay l)))(e:look σ s=some (.sld T (sI l))):FZ σ (.arr a 1 0 l.length) (CA (l.map (·.2))):=by
 refine .rows ha (by simp) (CL l) λi r' hi=>?_;simp only[i8,d7]at hi;obtain⟨x,⟨y,b,rfl⟩,rfl⟩:=hi;refine⟨[.d (.v y.1)],by simp[Ay,b],.cons ?_ .nil⟩;have c:FZ σ (.d (.v y.1)) (.l ((y.2.map (Value.int .i64)).map λx=>[D.v x])):=.sld e (d8.2 ⟨y,co b,rfl⟩);rw[qt]at c;exact c
theorem Ak.TS{c:Code}{Q:Exit->Env->Ab->Nat->Prop}{f:Env}{nx:Nat}(a i s:Nat)(l:Fm)(xs:List Int)(ha:look σ a=some (.cells Ta 1 (Ay l++[[.arr i 1 0 xs.length]])))(hi:look σ i=some (.cells T 1 (Ms xs)))(b:look σ s=some (.sld T (sI l)))
 (h:∀v,Ak P TB Z N c Q f ((a,.cells Ta 1 (Ay (l++[(v,xs)])))::(s,.sld T (sI (l++[(v,xs)])))::kill i σ) nx):Ak P TB Z N c Q f σ nx:=
 Ak.put a i s (Ay l) [] xs l [] ha hi (by rw[pX];exact b) λv=>by
  have:=h v;rw[AZ]at this;exact this
theorem PX{l:Fm}{k:Nat}{y:Value×List Int}(h:l[k]?=some y):l=l.take k++y::l.drop (k+1)/\(l.take k).length=k:=by
 obtain⟨hk,rfl⟩:=ce.1 h;refine⟨?_,by rw[qX];omega⟩;rw[<-rB hk,qo]
theorem Ud{α:Type}{l1 l2:List α}{x y:α}{k:Nat}(h:l1.length=k):(l1++x::l2).set k y=l1++y::l2:=by
 subst h;simp
theorem Ak.lk{c:Code}{Q:Exit->Env->Ab->Nat->Prop}{f:Env}{nx:Nat}(a s:Nat)(l:Fm)(k:Nat)(y:Value×List Int)(hk:l[k]?=some y)(ha:look σ a=some (.cells Ta 1 (Ay l)))(g:look σ s=some (.sld T (sI l)))
 (h:Ak P TB Z N c Q f ((a,.cells Ta 1 ((Ay l).set k [.arr nx 1 0 y.2.length]))::(nx,.cells T 1 (Ms y.2))::(s,.sld T (sI (l.eraseIdx k)))::σ) (nx+1)):Ak P TB Z N c Q f σ nx:=by
 obtain⟨b,i⟩:=PX hk;obtain⟨v,xs⟩:=y
 have e:Ay l=Ay (l.take k)++[.d (.v v)]::Ay (l.drop (k+1)):=by
  have:=congrArg Ay b;rw[AZ]at this;exact this
 refine Ak.take a s (Ay (l.take k)) (Ay (l.drop (k+1))) v xs (l.take k) (l.drop (k+1)) (by rw[<-e];exact ha) (by rw[<-b];exact g) ?_
 have m:(Ay l).set k [.arr nx 1 0 xs.length]=Ay (l.take k)++[.arr nx 1 0 xs.length]::Ay (l.drop (k+1)):=by
  rw[e,Ud (by rw[CL,i])]
 have j:l.eraseIdx k=l.take k++l.drop (k+1):=sU ..;rw[m,j]at h;exact h
theorem Ak.putAt{c:Code}{Q:Exit->Env->Ab->Nat->Prop}{f:Env}{nx:Nat}(a i s:Nat)(l:Fm)(k:Nat)(y:Value×List Int)(hk:l[k]?=some y)(xs:List Int)(ha:look σ a=some (.cells Ta 1 ((Ay l).set k [.arr i 1 0 xs.length])))(hi:look σ i=some (.cells T 1 (Ms xs)))(b:look σ s=some (.sld T (sI (l.eraseIdx k))))
 (h:∀v,Ak P TB Z N c Q f ((a,.cells Ta 1 (Ay (l.set k (v,xs))))::(s,.sld T (sI (l.set k (v,xs))))::kill i σ) nx):Ak P TB Z N c Q f σ nx:=by
 obtain⟨g,e⟩:=PX hk
 have n:Ay l=Ay (l.take k)++[.d (.v y.1)]::Ay (l.drop (k+1)):=by
  have:=congrArg Ay g;rw[AZ]at this;exact this
 rw[n,Ud (by rw[CL,e])]at ha;rw[show l.eraseIdx k=l.take k++l.drop (k+1) from sU ..]at b;refine Ak.put a i s (Ay (l.take k)) (Ay (l.drop (k+1))) xs (l.take k) (l.drop (k+1)) ha hi b λv=>?_
 have j:l.set k (v,xs)=l.take k++(v,xs)::l.drop (k+1):=by
  have this:l.set k (v,xs)=(l.take k++y::l.drop (k+1)).set k (v,xs):=congrArg (λm=>List.set m k (v,xs)) g;rw[this,Ud e]
 have:=h v;rw[j,AZ]at this;exact this
theorem AK.Bd{g:FuncId}{m nx:Nat}{args:List E}{post:E->Ab->Nat->Prop}
 (h:AK P TB g m σ nx args (λx d c=>∃(l:List Nat) (x':E) (a:Ab),((∀i,i<m->l[i]?=some i)/\l.Nodup)/\x=x'.Bd (nm l c)/\Be (nm l c) d a/\post x' a l.length)):AK P TB g m σ nx args post:=
 ⟨h.1, λV vs S n ha=>(h.2 V vs S n ha).mono λe w' ⟨V',v,x,σ',w,u,s,r,l,x',a,j,q,p,o⟩=>by
  have k:Cv TB (Fv V (Lc V m) σ S) 1 V' (look [(0,x)]) σ' V'.nx { tmps:=#[v],defers:=[] } := by
   refine⟨λt y b=>?_,λt y b=>?_,rfl,s,rfl,rfl⟩
   ·rw[AD]at b
    by_cases ht:0=t
    ·rw[if_pos ht]at b;injection b with b;subst b;subst ht;exact r
    ·rw[if_neg ht]at b;cases b
   ·rw[AD]at b
    by_cases ht:0=t
    ·subst ht;exact tF
    ·rw[if_neg ht]at b;cases b
  obtain⟨V'',z,f⟩:=k.Bd l [(0,x')] a j.1 j.2 ⟨by rw[<-q];rfl,trivial⟩ p;refine⟨V'',v,x',a,w,z.trans u,f.inv,f.env 0 x' rfl,?_⟩
  rw[f.nx];exact o⟩
theorem ER{m:Nat}{σ σ':Ab}(i:Nat)(a:m=2 ^ i)(h:look σ' i=look σ i):Kept m σ σ':=λid hb=>by
 subst a;rw[qV]at hb;have:i=id:=of_decide_eq_true hb;subst this;exact h
theorem KD{m:Nat}{σ σ':Ab}(i j:Nat)(a:m=2 ^ i ||| 2 ^ j)(h:look σ' i=look σ i)(b:look σ' j=look σ j):Kept m σ σ':=λid hb=>by
 subst a;rw[qP,pK,qV,qV,decide_eq_true_eq,decide_eq_true_eq]at hb
 rcases hb with hb|hb
 ·subst hb;exact h
 ·subst hb;exact b
theorem Mx{l1 l2:Fm}{c:C}{k:Nat}(h:l1.length=k):(Ay l1++[c]::Ay l2)[k]?=some [c]:=by
 subst h;rw[f7 (by rw[CL];exact i9 _),CL];simp
theorem eR [j:Dj P] {g:FuncId} {fn:Func} {c:Code} {nx:Nat} {args:List E} {post:E->Ab->Nat->Prop} (f:P.funcs[g]?=some fn) (hb:fn.body=some c) (a:(fn.name == "runtime.NumGoroutine")=false)
 (ha:Nat.ble args.length fn.ntmps=true) (h:∀Z:Ctx,Z.V.nx=nx->Ak P TB Z fn.ntmps c (cT j.T fn.results (λx e d=>∃(l:List Nat) (x':E) (b:Ab),((∀i,i<nx->l[i]?=some i)/\l.Nodup)/\x=x'.Bd (nm l d)/\Be (nm l d) e b/\post x' b l.length)) (look (Cq 0 args)) σ nx):Spec P TB g σ nx args post:=
 AK.HL (AK.Bd (AK.OU (i9 _) f hb a (am ha) h))
end
theorem cN:(∀(r:Nat->Nat) (l:Fm),(Ay l).map (C.Cp r)=Ay l)/\(∀(α:Type) (b:Bool) (x y:α),(bif b then x else y)=if b=true then x else y)/\∀a b:Nat,(Nat.beq a b=true)=(a=b):=
 ⟨VM,λ_ b _ _=>by cases b<;>rfl,λ_ _=>Nat.beq_eq⟩
inductive FL (σ:Ab) (ids:List Nat):List C->List C->Prop
 | nil:FL σ ids [] []
 | cons {c c':C} {cs cs':List C}:FC σ ids c c'->FL σ ids cs cs'->FL σ ids (c::cs) (c'::cs')
theorem FL.len{σ:Ab}{ids:List Nat}{l l':List C}(h:FL σ ids l l'):l'.length=l.length:=by
 induction h with
 | nil=>rfl
 | cons _ _ a=>simp[a]
theorem FL.get{σ:Ab}{ids:List Nat}{l l':List C}(h:FL σ ids l l'):∀(j:Nat) c',l'[j]?=some c'->∃c,l[j]?=some c/\FC σ ids c c':=by
 induction h with
 | nil=>intro j c' h;simp at h
 | @cons f e cs cs' d _ b=>
  intro j c' a
  cases j with
  | zero=>simp at a;subst a;exact⟨f,rfl,d⟩
  | succ j=>exact b j c' (by simpa using a)
def RH(σ:Ab)(ids:List Nat):Ab->Prop
 | []=>True
 | (id,.cells T k [r'])::S=>(∃r,look σ id=some (.cells T k [r])/\id∉ids/\FL σ ids r r')/\RH σ ids S
 | _=>False
theorem RH.get{σ:Ab}{ids:List Nat}:∀ {S:Ab},RH σ ids S->∀id o',look S id=some o'->∃T k r r',o'=.cells T k [r']/\look σ id=some (.cells T k [r])/\id∉ids/\FL σ ids r r'
 | [],_,id,o',h=>by cases h
 | (i, o)::S,a,id,o',h=>by
  match o,a with
  | .cells T k [r'],a=>
   rw[AD]at h;by_cases hi:i=id
   ·rw[if_pos hi]at h
    injection h with h
    subst h;subst hi;obtain⟨r,d,c,b⟩:=a.1;exact⟨T,k,r,r',rfl,d,c,b⟩
   ·rw[if_neg hi]at h
    exact RH.get a.2 id o' h
section
variable {P:Program}{TB:BR}{Z:Ctx}{N:Nat}{σ:Ab}
theorem Cv.OM{V:View}{f:Env}{nx:Nat}{a:Act}(h:Cv TB Z N V f σ nx a)(ids:List Nat)(L:List (Nat×E))(S:Ab)(J:Ev σ ids f L)(u:RH σ ids S):Cv TB Z N (KV V σ ids) (look L) S nx a:=by
 have e:Ext V (KV V σ ids):=ON;have hi:=h.inv;refine⟨λt x m=>?_,λt x m=>?_,h.size,?_,h.nx,h.defers⟩
 ·obtain⟨y,g,w⟩:=J.get t x m
  exact w.rel h.inv (h.env t y g)
 ·obtain⟨y,g,_⟩:=J.get t x m
  exact h.lt t y g
 ·refine⟨hi.os,hi.tape,hi.output,hi.old,?_,?_,hi.ext.trans e,⟨?_,?_,?_,?_⟩,?_,λx m=>⟨.inl (hi.tabs x m).1,(hi.tabs x m).2⟩,hi.hid.same rfl (λ_ h=>.inl h) (λb hb=>hb.elim .inl λ⟨id,o,_,d,l,B⟩=>.inr ⟨id,o,d,l,B⟩) λb ⟨id,o,d,l,hb⟩=>?_⟩
  ·rintro b (hb|⟨id,o,_,d,l,hb⟩)
   ·exact hi.iLt b hb
   ·exact(hi.st.obj id o d).blt l hb
  ·rintro b (hb|⟨id,o,_,d,l,hb⟩)
   ·exact hi.iNew b hb
   ·exact .inr (hi.live id o d l b hb)
  ·intro id o d
   obtain⟨T,k,r,r',rfl,g,w,M⟩:=u.get id o d
   rcases hi.st.obj id _ g with ⟨K,F⟩|⟨h0,cur,K,F,h6,h7,h8,Y⟩
   ·cases F
   ·refine .inr ⟨h0,cur,K,F,h6,h7,λx m=>?_,λi x j c' s R=>?_⟩
    ·simp at m;subst m;rw[M.len];exact h8 r (by simp)
    ·have A:i=0:=by have:=(ce.1 s).1;simp at this;omega
     subst A;simp at s;subst s;obtain⟨c,X,U⟩:=M.get j c' R;obtain⟨v,I,H⟩:=Y 0 r j c rfl X;exact⟨v,I,U.rel hi H⟩
  ·intro id o d
   obtain⟨T,k,r,r',_,g,_,_⟩:=u.get id o d;exact hi.st.lt id _ g
  ·intro id o d l b n hb
   obtain⟨T,k,r,r',rfl,g,w,_⟩:=u.get id o d
   rcases hb with hb|⟨id',o',Q,q,p,B⟩
   ·exact hi.st.free id _ g l b n hb
   ·exact hi.st.inj id id' _ o' g q (λe=>w (e▸Q)) l p b n B
  ·intro id id' o o' d q z l p b hb n
   obtain⟨T,k,r,r',rfl,g,_,_⟩:=u.get id o d;obtain⟨T2,k2,r2,P,rfl,G,_,_⟩:=u.get id' o' q;exact hi.st.inj id id' _ _ g G z l p b hb n
  ·intro id o d l b hb
   obtain⟨T,k,r,r',rfl,g,_,_⟩:=u.get id o d;exact hi.live id _ g l b hb
  ·obtain⟨T,k,r,r',rfl,g,_,_⟩:=u.get id o d
   exact⟨id,_,g,l,hb⟩
theorem Ak.OM{c:Code}{Q:Exit->Env->Ab->Nat->Prop}{f:Env}{nx:Nat}(ids:List Nat)(L:List (Nat×E))(S:Ab)(e:Ev σ ids f L)(d:RH σ ids S)(h:Ak P TB Z N c Q (look L) S nx):Ak P TB Z N c Q f σ nx:=
 λV a b=>h (KV V σ ids) a (b.OM ids L S e d)
theorem Zx{d:Option Tmp}{ty:TypeId}{pos:String}{af:Array Edge}{g:Option (Nat×Bool)}{f:Env}{nx:Nat}{t k e:TypeId}{x y:Operand}{id:Nat}{l:List (List UInt8×Int)}{s:List UInt8}[B:Hs P t k e][hk:Ee P k][K:Lv P e (.int .i64 0)](M:ev f x=some (.o (.mp id)))(L:ev f y=some (eT s))(N:look σ id=some (.mp (Jf l))) :
 A9 P TB Z ⟨d,.lookup t x y false,ty,pos,af,g⟩ f σ nx (eI .i64 ((CU l s).getD 0)):=
 AR λV ρ A hi=>by
  have J:=A.get (by simp[Op.operands]) M;have I:ρ y=.string ⟨s.toArray⟩:=AJ.val (A.get (by simp[Op.operands]) L);generalize z:ρ x=v at J
  cases J with
  | mp Q=>
   obtain⟨X,ents,clock,H,S⟩:=hi.st.obj id _ N;obtain⟨r,R,h⟩:=LP s l ents.toList 0 S;have a:=K.out;simp only[pu]at a;obtain⟨i,p,m⟩:=a
   have j:(zeroValue e).run P V.w=.ok (.int .i64 0) V.w:=by simp[zeroValue,typeInfo,p,m,go_sem]
   have b:(Instr.findKey k (.string ⟨s.toArray⟩) ents.toList).run P V.w=.ok r V.w:=by simp[Instr.findKey,run_underlying hk.out,R,go_sem]
   have c:=KP hk.out ents.isEmpty ⟨s.toArray⟩ V.w;refine⟨.int .i64 ((CU l s).getD 0),?_,.d (.v rfl)⟩
   cases r with
   | none=>
    have u:CU l s=none:=by simpa using h.symm
    simp[execOp,z,I,Instr.lookup,run_underlying B.out,MapKept.run_getObj_map H,c,b,j,u,go_sem]
   | some q=>
    obtain⟨n,u,G⟩:∃n,CU l s=some n/\q.2=.int .i64 n:=by
     cases F:CU l s with
     | none=>rw[F]at h;simp at h
     | some n=>rw[F]at h;exact⟨n,rfl,by simpa using h⟩
    obtain⟨U,T⟩:=q;simp only at G;subst G;simp[execOp,z,I,Instr.lookup,run_underlying B.out,MapKept.run_getObj_map H,c,b,u,go_sem]
end
section
variable {P:Program}{TB:BR}{Z:Ctx}{d:Option Tmp}{ty:TypeId}{pos:String}{af:Array Edge}{g:Option (Nat×Bool)}{f:Env}{σ:Ab}{nx:Nat}
theorem og{gg:FuncId}{x:Operand}{c:C}(e:ev f x=some (.o c)):A9 P TB Z ⟨d,.makeFunc (.func gg) #[x] #[],ty,pos,af,g⟩ f σ nx (.o (.mv gg [c])):=
 AR λV ρ i _=>by
  refine⟨.func (.func gg) #[ρ x] #[],by simp[execOp,Instr.makeFunc,go_sem],AJ.mv rfl λj c' v a b=>?_⟩;have h:AJ V c (ρ x):=i.get (by simp[Op.operands]) e
  match j with
  | 0=>simp at a b;subst a;subst b;exact h
  | j+1=>simp at a
theorem kx{V:View}{gg:FuncId}{recv:List C}{v:Value}(h:Br V (.o (.mv gg recv)) v):∃vs,v=.func (.func gg) vs #[]/\Dk V recv vs:=by
 have h:AJ V (.mv gg recv) v:=h;generalize a:C.mv gg recv=c at h;cases h<;>cases a;rename_i vs d b;exact⟨vs,rfl,d,b⟩
theorem Xb{x:Operand}{args:Array Operand}{tys:Array TypeId}{gg:FuncId}{vs:Array Value}(f:cQ P gg){ρ:Operand->Value}(e:ρ x=.func (.func gg) vs #[])(w:World) :
 (execOp ρ ⟨d,.call ⟨.value x,args,tys⟩,ty,pos,af,g⟩).run P w=.ok (.enter gg (vs++args.map ρ)) w:=by
 obtain⟨fn,i,h,b⟩:=f
 have hb:∃c,fn.body=some c:=by cases hb:fn.body with|none=>rw[hb]at b;cases b|some c=>exact⟨c,rfl⟩
 obtain⟨c,hb⟩:=hb;simp only[execOp,resolve,e,Deferred.ofValue,pure_bind,invoke,callFunc]
 have a:¬fn.name = "runtime.NumGoroutine" := by simpa using h
 simp[Sem.run,program,i,a,hb,go_sem]
theorem eW{x:Operand}{args:Array Operand}{tys:Array TypeId}{gg:FuncId}{recv:List C}{es:List E}{r:E}(T:ev f x=some (.o (.mv gg recv)))(t:Kw f args.toList=some es)(F:(es.all E.BT && C.C1 recv)=true)
 (M:Pure P TB gg (recv.map .o++es) r) (U:r.BT=true):A9 P TB Z ⟨d,.call ⟨.value x,args,tys⟩,ty,pos,af,g⟩ f σ nx r:=by
 intro V a u A Y;have u:=u.Hw;unfold Oper.wp;generalize a.eval=ρ at u |-;obtain⟨vs,q,k⟩:=kx (u.get (x:=x) (by simp[Op.operands,Call.operands]) T);rw[Xb M.1 q];rw[d4]at F;have H:=CZ t
 have p:Oq { V with nx:=0 } (recv.map .o++es) (vs++args.map ρ):=by
  refine⟨by simp[k.1,H],λj e v n q=>?_⟩;have m:vs.size=recv.length:=k.1;by_cases s:j<recv.length
  ·rw[em (by simpa using s)]at n
   rw[pM (by rw[m];exact s)]at q;simp only[i8,d7]at n;obtain⟨c,N,rfl⟩:=n;exact AJ.BT (V:=V) (V':={ V with nx:=0 }) rfl rfl (k.2 _ c v N q) (Gd _ F.2 _ c N)
  ·rw[f7 (by simp;omega)]at n
   rw[qF (by rw[m];omega),m]at q;simp only[gt]at n;refine Br.BT (V:=V) (V':={ V with nx:=0 }) rfl rfl (HS (λy R e X=>u.get (by simp[Op.operands,Call.operands];right;simpa using R) X) t _ e v n (by rw[<-rO];simpa using q)) (gc.1 F.1 e (co n))
 obtain⟨S,z,K,L⟩:=A.hid;refine(M.2 { V with nx:=0 } _ S ⟨A.iLt,EF,A.tabs,rfl,⟨z.r,z.ji,z.bi,λb ⟨_,_,h,_⟩=>by cases h⟩⟩ p).mono ?_;rintro e w' ⟨V1,v,x1,Q,rfl,rfl,l,B,rfl⟩
 obtain⟨G,J⟩:=KL A z K L (Vc:={ V with nx:=0 }) rfl l V1.I (λb hb=>l.ext.i b hb) (λb hb=>by
  rcases l.iNew b hb with h|h|h|h
  ·exact .inl h
  ·exact .inr (.inl ⟨h,l.iLt b hb⟩)
  ·obtain⟨_,_,h,_⟩:=h;cases h
  ·exact .inr (.inr h)) (λb hb _=>hb) (λb hb=>hb)
 exact⟨{ V with I:=V1.I,w:=V1.w },v,rfl,rfl,J,G,Y,Br.BT (V:=V1) (V':={ V with I:=V1.I,w:=V1.w }) rfl rfl B U⟩
end
abbrev Mw(r:Nat):C:=.d (.v (.pointer (some ⟨r,0,none⟩)))
theorem eQ{P:Program}{tabs:List (Nat×Obj)}{H:Hid}{r:Nat}{gg:FuncId}{k:Nat}{es:List E}{K:E}(N:cQ P gg)(M:∀e∈es,e.sc=true)(F:K.sc=true)
 (h:∀s,AK P ⟨tabs,none⟩ gg 1 (H.st s) H.nx (.o (.ptr 0 k 0 0)::es) (λx σ nx=>x=K/\nx=H.nx/\∃s',σ=H.st s')):Pure P ⟨tabs,some (H,r)⟩ gg (.o (Mw r)::es) K:=by
 refine⟨N,λV vs S c ha=>?_⟩;have hr:∃(s:H.S) (V0:View),V0.I=S.J/\V0.w=V.w/\V0.nx=H.nx/\HQ V0 (H.st s)/\(0<V0.nx/\V0.ρ 0=r/\¬V0.nl 0/\∀x∈(⟨tabs,some (H,r)⟩:BR),V0.I x.1)/\∀b,S.B b↔DS V0 (H.st s) b:=c.hid.r;obtain⟨s,V0,e1,f,e3,st,⟨Y,q,t,tb⟩,R⟩:=hr
 have m:Good ⟨tabs,none⟩ V0 (H.st s) H.nx ⟨λ_=>False,λ_=>False⟩:=
  ⟨λb hb=>by rw[f];exact c.iLt b (c.hid.ji b (by rw[<-e1];exact hb)),st,λx F=>⟨tb x F,by rw[f];exact(c.tabs x F).2⟩,e3,⟨λ_ h=>h,λ_ h=>h.elim,λ_ h=>h.elim,λ_ _ h=>h⟩⟩
 have n:Oq V0 (.o (.ptr 0 k 0 0)::es) vs:=by
  refine⟨ha.1,λj e v A hv=>?_⟩
  match j with
  | 0=>
   injection A with A
   subst A;have h1:=ha.2 0 (.o (Mw r)) v rfl hv;have h2:v=.pointer (some ⟨r,0,none⟩):=AJ.val h1;subst h2;have:=AJ.ptr (V:=V0) (id:=0) (k:=k) (i:=0) (j:=0) Y t;rw[q,qW]at this;exact this
  | j+1=>exact XX (ha.2 (j+1) e v A hv) (M e (co A))
 have g:=(h s).2 V0 vs _ m n;rw[f]at g;refine g.mono ?_;rintro e w' ⟨V1,v,x,σ',rfl,rfl,hi,L,rfl,G,s',rfl⟩
 have u:V.w.heap.size<=V1.w.heap.size:=by have a:V0.w.heap.size<=_:=hi.ext.size;rw[f]at a;exact a
 have d:∀b,b<V.w.heap.size->¬S.B b->V1.w.heap[b]?=V.w.heap[b]?:=λb hb G=>by
  have a:V1.w.heap[b]?=V0.w.heap[b]?:=hi.old b (by show b<V0.w.heap.size;rw[f];exact hb) λh=>h.elim (λh=>G ((R b).2 h)) λh=>h;rw[a,f]
 have l:∀b,V1.I b->S.J b\/V.w.heap.size<=b\/S.B b:=λb hb=>by
  rcases hi.iNew b hb with a|a|a|a
  ·exact .inl (by rw[<-e1];exact a)
  ·have a:V0.w.heap.size<=b:=a
   rw[f]at a;exact .inr (.inl a)
  ·exact .inr (.inr ((R b).2 a))
  ·exact a.elim
 have z:∀b,DS V1 (H.st s') b->V.w.heap.size<=b\/S.B b:=λb ⟨id,o,X,U,T⟩=>by
  rcases hi.live id o X U b T with a|a|a
  ·have a:V0.w.heap.size<=b:=a
   rw[f]at a;exact .inl a
  ·exact .inr ((R b).2 a)
  ·exact a.elim
 have e:Ext V { V with I:=λb=>V.I b\/V1.I b,w:=V1.w } := ⟨λ_ h=>.inl h,λb hb=>d b (c.iLt b hb) λh=>c.hid.bi b h hb,u,λ_ _=>rfl,λ_ _=>rfl,λ_ _=>Iff.rfl,i9 _⟩
 refine⟨{ V with I:=λb=>V.I b\/V1.I b,w:=V1.w },v,x,[],rfl,rfl,⟨?_,?_,?_,λb hb N=>d b hb λh=>N (.inr h),λb hb=>?_,λb hb=>?_,e,EF,λid o ho=>(by cases ho),λy p=>⟨.inl (c.tabs y p).1,?_⟩,⟨⟨DS V1 (H.st s'),V1.I⟩,⟨?_,λb hb=>.inr hb,λb hb hI=>?_,λb ⟨_,_,h,_⟩=>by cases h⟩,λb hb=>?_,λb hb=>?_⟩⟩,XX L F,rfl⟩
 ·have a:V1.w.os=V0.w.os:=hi.os
  rw[f]at a;exact a
 ·have a:V1.w.tape=V0.w.tape:=hi.tape
  rw[f]at a;exact a
 ·have a:V1.w.output=V0.w.output:=hi.output
  rw[f]at a;exact a
 ·rcases hb with hb|hb
  ·exact lw (c.iLt b hb) u
  ·exact hi.iLt b hb
 ·rcases hb with hb|hb
  ·exact .inl hb
  ·rcases l b hb with a|a|a
   ·exact .inl (c.hid.ji b a)
   ·exact .inr (.inl a)
   ·exact .inr (.inr (.inr a))
 ·exact(d _ (c.iLt _ (c.tabs y p).1) λh=>c.hid.bi _ h (c.tabs y p).1).trans (c.tabs y p).2
 ·exact⟨s',V1,rfl,rfl,G,hi.st,⟨by rw[G,<-e3];exact Y,by rw[<-q];exact hi.ext.ρ 0 tF,λh=>t ((hi.ext.nl 0 tF).1 h),λy p=>hi.ext.i _ (tb y p)⟩,λ_=>Iff.rfl⟩
 ·have Q:=hb
  obtain⟨id,o,X,U,T⟩:=hb
  rcases hI with hI|hI
  ·rcases z b Q with a|a
   ·have:=c.iLt b hI;omega
   ·exact c.hid.bi b a hI
  ·exact hi.st.free id o X U b T hI
 ·rcases l b hb with a|a|a
  ·exact .inl a
  ·exact .inr (.inl a)
  ·exact .inr (.inr (.inr a))
 ·rcases z b hb with a|a
  ·exact .inl a
  ·exact .inr (.inr a)
inductive CH (i r:Nat):C->C->Prop
 | AO {c:C}:CH i r c c
 | ptr {k:Nat}:CH i r (.ptr i k 0 0) (Mw r)
 | mv {gg:FuncId} {k:Nat}:CH i r (.mv gg [.ptr i k 0 0]) (.mv gg [Mw r])
theorem CH.rel{V:View}{i r:Nat}(m:V.ρ i=r){c c':C}{v:Value}(h:CH i r c c')(a:AJ V c v):AJ V c' v:=by
 have e:∀ {k:Nat} {v:Value},AJ V (.ptr i k 0 0) v->AJ V (Mw r) v:=λ{k v} a=>by
  cases a with
  | ptr g f=>rw[qW,m];exact .d (.v rfl)
 cases h with
 | AO=>exact a
 | ptr=>exact e a
 | mv =>
  cases a with
  | mv g f=>
   refine .mv (by rw[g];rfl) λj c v b l=>?_
   match j with
   | 0=>injection b with b;subst b;exact e (f 0 _ v rfl l)
   | j+1=>simp at b
inductive LH (i r:Nat):List C->List C->Prop
 | nil:LH i r [] []
 | cons {c c':C} {l l':List C}:CH i r c c'->LH i r l l'->LH i r (c::l) (c'::l')
theorem LH.len{i r:Nat}{l l':List C}(h:LH i r l l'):l'.length=l.length:=by
 induction h with
 | nil=>rfl
 | cons _ _ a=>simp[a]
theorem LH.get{i r:Nat}{l l':List C}(h:LH i r l l'):∀(j:Nat) c',l'[j]?=some c'->∃c,l[j]?=some c/\CH i r c c':=by
 induction h with
 | nil=>intro j c' h;simp at h
 | @cons f e cs cs' d _ b=>
  intro j c' a
  cases j with
  | zero=>simp at a;subst a;exact⟨f,rfl,d⟩
  | succ j=>exact b j c' (by simpa using a)
inductive EH (i r:Nat):E->E->Prop
 | AO {e:E}:EH i r e e
 | o {c c':C}:CH i r c c'->EH i r (.o c) (.o c')
 | a {l l':List C}:LH i r l l'->EH i r (.a l) (.a l')
theorem EH.rel{V:View}{i r:Nat}(d:V.ρ i=r){e e':E}{v:Value}(h:EH i r e e')(b:Br V e v):Br V e' v:=by
 cases h with
 | AO=>exact b
 | o h=>exact h.rel d b
 | a h=>
  obtain⟨vs,p,n,m⟩:=b;refine⟨vs,p,by rw[n,h.len],λj c v g f=>?_⟩;obtain⟨q,l,k⟩:=h.get j c g;exact k.rel d (m j q v l f)
def cM(i r:Nat)(f:Env):List (Nat×E)->Prop
 | []=>True
 | (t,e')::L=>(∃e,f t=some e/\EH i r e e')/\cM i r f L
theorem cM.get{i r:Nat}{f:Env}:∀ {L:List (Nat×E)},cM i r f L->∀t e',look L t=some e'->∃e,f t=some e/\EH i r e e'
 | [],_,t,e,h=>by cases h
 | (k,x)::L,a,t,e,h=>by
  rw[AD]at h;by_cases hk:k=t
  ·rw[if_pos hk]at h;injection h with h;subst h;subst hk;exact a.1
  ·rw[if_neg hk]at h;exact cM.get a.2 t e h
def lM(i r:Nat)(l:List Nat)(σ:Ab):Ab->Prop
 | []=>True
 | (id,o')::S=>(id∉l/\(look σ id=some o'\/∃T k rw rw',o'=.cells T k [rw']/\look σ id=some (.cells T k [rw])/\LH i r rw rw'))/\lM i r l σ S
theorem lM.get{i r:Nat}{l:List Nat}{σ:Ab}:∀ {S:Ab},lM i r l σ S->∀id o',look S id=some o'->id∉l/\(look σ id=some o'\/∃T k rw rw',o'=.cells T k [rw']/\look σ id=some (.cells T k [rw])/\LH i r rw rw')
 | [],_,id,o,h=>by cases h
 | (k,x)::L,a,id,o,h=>by
  rw[AD]at h;by_cases hk:k=id
  ·rw[if_pos hk]at h;injection h with h;subst h;subst hk;exact a.1
  ·rw[if_neg hk]at h;exact lM.get a.2 id o h
section
variable {P:Program}{tabs:List (Nat×Obj)}{Z:Ctx}{N:Nat}{σ:Ab}
theorem Inv.forget{TB:BR}{J:Nat->Prop}{V:View}(h:Inv TB ⟨Z.V,Z.F,J⟩ V σ):Inv ⟨TB.tabs,none⟩ Z V σ:=
 ⟨h.os,h.tape,h.output,h.old,h.iLt,h.iNew,h.ext,h.st,h.live,h.tabs,⟨⟨λ_=>False,λ_=>False⟩,⟨λ_ h=>h,λ_ h=>h.elim,λ_ h=>h.elim,λ_ _ h=>h⟩,λ_ h=>h.elim,λ_ h=>h.elim⟩⟩
theorem Ak.l8{c:Code}{Q:Exit->Env->Ab->Nat->Prop}{f:Env}{nx:Nat}(H:Hid)(s:H.S)(i:Nat)(l:List Nat)(L:Nat->List (Nat×E))(S:Nat->Ab)(G:(i::l).Nodup)(hln:(i::l).length=H.nx)(U:Be (nm (i::l) nx) σ (H.st s))(h0:∃T k r rs,look (H.st s) 0=some (.cells T k (r::rs)))
 (hE:∀r,cM i r f (L r)) (M:∀r,lM i r (i::l) σ (S r)) (h:∀r Z',Z'.V=Z.V->Ak P ⟨tabs,some (H,r)⟩ Z' N c Q (look (L r)) (S r) nx):Ak P ⟨tabs,none⟩ Z N c Q f σ nx:=by
 intro V a Y;have hi:=Y.inv;have hnx:=Y.nx;subst hnx;have hrn:∀id,nm (i::l) V.nx id<V.nx->id<(i::l).length:=λid=>Sm;have n:∀id o,look (H.st s) id=some o->id<(i::l).length:=λid o g=>hrn id (hi.st.lt _ _ (U.get id o g))
 have hmem:∀id o,look (H.st s) id=some o->nm (i::l) V.nx id∈i::l:=λid o g=>by
  rw[Gp (n id o g)];exact p6 _
 have R:HQ (V.Bd (nm (i::l) V.nx) (i::l).length) (H.st s):=by
  refine⟨λid o g=>CJ.Bd hrn (hi.st.obj _ _ (U.get id o g)),n,λid o g A b hb=>hi.st.free _ _ (U.get id o g) A b (Cw.1 hb),?_⟩;intro id id' o o' g w B A hnl' b hb K;refine hi.st.inj _ _ _ _ (U.get id o g) (U.get id' o' w) ?_ A hnl' b (Cw.1 hb) (Cw.1 K);have u:=n id o g;have h4:=n id' o' w;rw[Gp u,Gp h4];intro he;have hp:=pH.1 G
  rcases rT B with d|d
  ·exact hp _ _ u h4 d he
  ·exact hp _ _ h4 u d he.symm
 have hnl0:¬V.nl i:=by
  obtain⟨T,k,r,rs,d⟩:=h0
  rcases R.obj 0 _ d with ⟨_,p⟩|⟨p,_⟩
  ·cases p
  ·exact p
 have m:∀id o,look (S (V.ρ i)) id=some o->∃q,look σ id=some q/\∀b,E9 V id o b->E9 V id q b:=λid o g=>by
  obtain⟨_,d|⟨T,k,rw,rw',rfl,d,_⟩⟩:=(M (V.ρ i)).get id o g
  ·exact⟨o,d,λ_ h=>h⟩
  ·exact⟨_,d,λ_ h=>h⟩
 have hinv : Inv ⟨tabs,some (H,V.ρ i)⟩ ⟨Z.V,Z.F,λ_=>True⟩ V (S (V.ρ i)):=by
  refine⟨hi.os,hi.tape,hi.output,hi.old,hi.iLt,hi.iNew,hi.ext,⟨λid o g=>?_,λid o g=>?_,λid o g G b hb=>?_,λid id' o o' g w B G hn' b hb K=>?_⟩,λid o g G b hb=>?_,hi.tabs,⟨⟨DS (V.Bd (nm (i::l) V.nx) (i::l).length) (H.st s),V.I⟩,⟨?_,λ_ h=>h,λb hb hI=>?_,λb hb hB=>?_⟩,λ_ _=>.inl True.intro,λb hb=>?_⟩⟩
  ·obtain⟨_,d|⟨T,k,rw,rw',rfl,d,p⟩⟩:=(M (V.ρ i)).get id o g
   ·exact hi.st.obj id o d
   ·rcases hi.st.obj id _ d with ⟨_,h7⟩|⟨X,cur,h2,u,h4,h7,h8,h9⟩
    ·cases h7
    ·refine .inr ⟨X,cur,h2,u,h4,h7,λx z=>?_,λi' x j c' J hj=>?_⟩
     ·simp at z;subst z;rw[p.len];exact h8 rw (by simp)
     ·have hi0:i'=0:=by have:=(ce.1 J).1;simp at this;omega
      subst hi0;simp at J;subst J;obtain⟨c,hc,hf⟩:=p.get j c' hj;obtain⟨v,h10,h11⟩:=h9 0 rw j c rfl hc;exact⟨v,h10,hf.rel rfl h11⟩
  ·obtain⟨q,d,_⟩:=m id o g;exact hi.st.lt id q d
  ·obtain⟨q,d,p⟩:=m id o g;exact hi.st.free id q d G b (p b hb)
  ·obtain⟨q,d,p⟩:=m id o g
   obtain⟨o0',h5',h6'⟩:=m id' o' w;exact hi.st.inj id id' q o0' d h5' B G hn' b (p b hb) (h6' b K)
  ·obtain⟨q,d,p⟩:=m id o g;exact hi.live id q d G b (p b hb)
  ·exact⟨s,V.Bd (nm (i::l) V.nx) (i::l).length,rfl,rfl,hln,R,⟨Nat.succ_pos _,rfl,hnl0,λx z=>(hi.tabs x z).1⟩,λ_=>Iff.rfl⟩
  ·obtain⟨id,o,g1,g2,g3⟩:=hb;exact R.free id o g1 g2 b g3 hI
  ·obtain⟨id,o,g1,g2,g3⟩:=hB
   obtain⟨id',o',k1,k2,k3⟩:=hb;obtain⟨q,d,p⟩:=m id' o' k1;have hnm:=((M (V.ρ i)).get id' o' k1).1;exact hi.st.inj id' _ q _ d (U.get id o g1) (λe=>hnm (by rw[e];exact hmem id o g1)) k2 g2 b (p b k3) (Cw.1 g3)
  ·obtain⟨id,o,g1,g2,g3⟩:=hb;exact hi.live _ _ (U.get id o g1) g2 b (Cw.1 g3)
 have hst:Cv ⟨tabs,some (H,V.ρ i)⟩ ⟨Z.V,Z.F,λ_=>True⟩ N V (look (L (V.ρ i))) (S (V.ρ i)) V.nx a:=by
  refine⟨λt x z=>?_,λt x z=>?_,Y.size,hinv,rfl,Y.defers⟩
  ·obtain⟨y,X,h2⟩:=(hE (V.ρ i)).get t x z
   exact h2.rel rfl (Y.env t y X)
  ·obtain⟨y,X,_⟩:=(hE (V.ρ i)).get t x z
   exact Y.lt t y X
 refine wp_mono (h (V.ρ i) ⟨Z.V,Z.F,λ_=>True⟩ rfl V a hst) ?_;rintro e a' w' ⟨V',f',σ',X,h2,u⟩;exact⟨V',f',σ',X,h2,⟨u.env,u.lt,u.size,Inv.forget u.inv,u.nx,u.defers⟩⟩
end
end Go.Am
namespace Go.Am
abbrev W:=List UInt8
structure A3 where
 rows:List W
 cols:List W
def Si(b:Bool):UInt8:=if b then 43 else 45
theorem Zk{a b:Bool}(h:Si a=Si b):a=b:=by cases a<;>cases b<;>first|rfl|(simp[Si]at h)
def marks(L:W->Bool)(cols:List W)(w:W):W:=cols.map λc=>Si (L (w++c))
theorem Vv{L:W->Bool}{cols:List W}{u w:W}:marks L cols u=marks L cols w↔∀c∈cols,L (u++c)=L (w++c):=by
 unfold marks;rw[rA];exact⟨λh c a=>Zk (h c a),λh c a=>by rw[h c a]⟩
def AS(L:W->Bool)(t:A3):List W:=t.rows.map (marks L t.cols)
def CQ(ls:List UInt8)(rows:List W):List W:=rows.flatMap λr=>ls.map λl=>r++[l]
def Bk(L:W->Bool)(ls:List UInt8)(t:A3):Option W:=(CQ ls t.rows).find? λw=>!(AS L t).contains (marks L t.cols w)
def Bv(L:W->Bool)(ls:List UInt8):Nat->A3->Option A3
 | 0,_=>none
 | n+1,t=>match Bk L ls t with
  | none=>some t
  | some w=>if t.rows.length=12 then none else Bv L ls n ⟨t.rows++[w],t.cols⟩
def AN(ls:List UInt8)(w:W):Prop:=∀c∈w,c∈ls
structure TOk (L:W->Bool) (ls:List UInt8) (t:A3):Prop where
 r0:t.rows[0]?=some []
 c0:t.cols[0]?=some []
 pre:∀(i:Nat) w,t.rows[i]?=some w->0<i->w≠[]/\∃j,j<i/\t.rows[j]?=some w.dropLast
 onR:∀w∈t.rows,AN ls w
 onC:∀c∈t.cols,AN ls c
 nd:(AS L t).Nodup
 ndC:t.cols.Nodup
theorem IN{L:W->Bool}{ls:List UInt8}{t:A3}{w:W}(h:Bk L ls t=some w):(∃r∈t.rows,∃l∈ls,w=r++[l])/\marks L t.cols w∉AS L t:=by
 have d:=List.find?_some h;have a:=List.mem_of_find?_eq_some h;unfold CQ at a;simp only[qJ,d8]at a;obtain⟨r,b,l,c,rfl⟩:=a;exact⟨⟨r,b,l,c,rfl⟩,by simpa using d⟩
theorem He{L:W->Bool}{ls:List UInt8}{t:A3}(h:Bk L ls t=none):∀r∈t.rows,∀l∈ls,marks L t.cols (r++[l])∈AS L t:=by
 intro r a l b;have c:=ry.1 h (r++[l]) (by unfold CQ;simp only[qJ,d8];exact⟨r,a,l,b,rfl⟩)
 simpa using c
theorem TOk.push{L:W->Bool}{ls:List UInt8}{t:A3}{w:W}(h:TOk L ls t)(p:Bk L ls t=some w):TOk L ls ⟨t.rows++[w],t.cols⟩:=by
 obtain⟨⟨r,n,l,s,rfl⟩,q⟩:=IN p;have z:0<t.rows.length:=(ce.1 h.r0).1;refine⟨by rw[em z];exact h.r0,h.c0,λi w hi o=>?_,λw d=>?_,h.onC,?_,h.ndC⟩
 ·by_cases k:i<t.rows.length
  ·rw[em k]at hi
   obtain⟨y,j,x,v⟩:=h.pre i w hi o;exact⟨y,j,x,by rw[em (by omega)];exact v⟩
  ·rw [f7 (by omega)]at hi
   have m:i=t.rows.length:=by
    have:=(ce.1 hi).1;simp at this;omega
   subst m;simp at hi;subst hi;obtain⟨j,g,u⟩:=pR n;refine⟨by simp,j,g,?_⟩;rw[em g,List.dropLast_concat,d6 g,u]
 ·rcases d9.1 d with d|d
  ·exact h.onR w d
  ·simp at d
   subst d;intro c f
   rcases d9.1 f with f|f
   ·exact h.onR r n c f
   ·simp at f;subst f;exact s
 ·unfold AS
  rw[qe,qL];refine⟨h.nd,by simp,λa ha b hb=>?_⟩;simp at hb;subst hb;intro e;exact q (e▸ha)
structure Fin (L:W->Bool) (ls:List UInt8) (n:Nat) where
 st:W->Nat
 lt:∀w,AN ls w->st w<n
 same:∀u w v,AN ls u->AN ls w->AN ls v->st u=st w->L (u++v)=L (w++v)
theorem PW:∀(n:Nat) (l:List Nat),l.Nodup->(∀x∈l,x<n)->l.length<=n
 | 0,l,_,h=>by cases l with
  | nil=>simp
  | cons x l=>have:=h x (by simp);omega
 | n+1,l,c,h=>by
  have d:=PW n (l.erase n) (c.erase n) λx a=>by
   have g:=h x (List.mem_of_mem_erase a)
   have f:x≠n:=λe=>by subst e;exact(List.Nodup.not_mem_erase c) a
   omega
  by_cases b:n∈l
  ·rw[List.length_erase_of_mem b]at d;omega
  ·rw[List.erase_of_not_mem b]at d;omega
def C9(L:W->Bool)(t:A3)(w:W):Nat:=(AS L t).idxOf (marks L t.cols w)
def runM(L:W->Bool)(t:A3):Nat->W->Nat
 | i,[]=>i
 | i,c::w=>runM L t (C9 L t ((t.rows.getD i [])++[c])) w
theorem Qn(L:W->Bool)(t:A3):∀(u w:W) (i:Nat),runM L t i (u++w)=runM L t (runM L t i u) w
 | [],_,_=>rfl
 | c::u,w,i=>Qn L t u w _
structure BU (L:W->Bool) (ls:List UInt8) (t:A3):Prop extends TOk L ls t where
 cl:∀r∈t.rows,∀l∈ls,marks L t.cols (r++[l])∈AS L t
theorem BU.idx{L:W->Bool}{ls:List UInt8}{t:A3}(h:BU L ls t){i:Nat}{r:W}{l:UInt8}(hi:t.rows[i]?=some r)(b:l∈ls):∃r',t.rows[C9 L t (r++[l])]?=some r'/\marks L t.cols r'=marks L t.cols (r++[l]):=by
 have e:=h.cl r (co hi) l b;have a:C9 L t (r++[l])<(AS L t).length:=sv.2 e;have d:(AS L t)[C9 L t (r++[l])]'a=marks L t.cols (r++[l]):=List.getElem_idxOf a
 have c:C9 L t (r++[l])<t.rows.length:=by simpa[AS]using a
 refine⟨t.rows[C9 L t (r++[l])],d6 c,?_⟩;rw[<-d];simp[AS]
theorem BU.run{L:W->Bool}{ls:List UInt8}{t:A3}(h:BU L ls t):∀(w:W) (i:Nat),AN ls w->i<t.rows.length->runM L t i w<t.rows.length
 | [],_,_,hi=>hi
 | c::w,i,a,hi=>by
  have b:t.rows[i]?=some t.rows[i]:=d6 hi;obtain⟨_,f,_⟩:=h.idx b (a c (by simp))
  have e:t.rows.getD i []=t.rows[i]:=by simp[b]
  show runM L t (C9 L t (t.rows.getD i []++[c])) w<_
  rw[e];exact h.run w _ (λx d=>a x (by simp[d])) (ce.1 f).1
def splitAt(L:W->Bool)(t:A3)(b:Bool):Nat->W->Option W
 | _,[]=>none
 | i,c::v=>if L (t.rows.getD (C9 L t ((t.rows.getD i [])++[c])) []++v)≠b then some v else splitAt L t b (C9 L t ((t.rows.getD i [])++[c])) v
theorem bz(L:W->Bool)(cols:List W)(v w:W):marks L (cols++[v]) w=marks L cols w++[Si (L (w++v))]:=by simp[marks]
theorem BU.row{L:W->Bool}{ls:List UInt8}{t:A3}(h:BU L ls t){i j:Nat}{r s:W}(hi:t.rows[i]?=some r)(g:t.rows[j]?=some s)(k:marks L t.cols r=marks L t.cols s):i=j:=by
 have d:(AS L t)[i]?=some (marks L t.cols r):=by simp[AS,hi]
 have c:(AS L t)[j]?=some (marks L t.cols r):=by simp[AS,g,k]
 have l1:=(ce.1 d).1;have l2:=(ce.1 c).1;have f:=(ce.1 d).2;have e:=(ce.1 c).2;have b:=pH.1 h.nd
 rcases sF i j with a|a|a
 ·exact absurd (f.trans e.symm) (b i j l1 l2 a)
 ·exact a
 ·exact absurd (e.trans f.symm) (b j i l2 l1 a)
structure Split (L:W->Bool) (ls:List UInt8) (t:A3) (u v:W):Prop where
 suf:∃p,p≠[]/\u=p++v
 new:v∉t.cols
 opens:∃r∈t.rows,∃c∈ls,marks L (t.cols++[v]) (r++[c])∉AS L ⟨t.rows,t.cols++[v]⟩
theorem Ws{L:W->Bool}{ls:List UInt8}{t:A3}(h:BU L ls t)(b:Bool):∀(u:W) (i:Nat) (r:W),AN ls u->t.rows[i]?=some r->L (r++u)=b->L (t.rows.getD (runM L t i u) [])≠b->∃v,splitAt L t b i u=some v/\Split L ls t u v
 | [],i,r,_,hi,hb,z=>by
  have a:t.rows.getD i []=r:=by simp[hi]
  rw[pX]at hb;exact absurd (by show L (t.rows.getD i [])=b;rw[a];exact hb) z
 | c :: v,i,r,A,hi,hb,z=>by
  have F:c∈ls:=A c (by simp)
  have j:t.rows.getD i []=r:=by simp[hi]
  obtain⟨r',a,G⟩:=h.idx hi F
  have g:t.rows.getD (C9 L t (r++[c])) []=r':=by simp[a]
  unfold splitAt;rw[j,g];by_cases k:L (r'++v)≠b
  ·rw[if_pos k]
   have n:r++c::v=(r++[c])++v:=by simp
   have f:L ((r++[c])++v)≠L (r'++v):=by rw[<-n,hb];exact λe=>k e.symm
   refine⟨v,rfl,⟨[c],by simp,rfl⟩,λl=>f ((Vv.1 G v l).symm),r,co hi,c,F,λl=>?_⟩;unfold AS at l;obtain⟨s,I,B⟩:=d8.1 l;simp only[bz]at B;obtain⟨S,R⟩:=List.append_inj' B rfl;obtain⟨q,J,o⟩:=pR I
   have d:t.rows[q]?=some s:=by rw[d6 J,o]
   have:=h.row d a (S.trans G.symm);subst this;rw[d]at a
   injection a with a
   subst a
   have Q:Si (L (s++v))=Si (L (r++[c]++v)):=by simpa using R
   exact f (Zk Q).symm
  ·rw [if_neg k]
   have m:L (r'++v)=b:=by simpa using k
   have y:L (t.rows.getD (runM L t (C9 L t (r++[c])) v) [])≠b:=by
    have:runM L t i (c::v)=runM L t (C9 L t (r++[c])) v:=by show runM L t (C9 L t (t.rows.getD i []++[c])) v=_;rw[j]
    rwa[this]at z
   obtain⟨w,P,⟨p,T,N⟩,M,K⟩:=Ws h b v _ r' (λx H=>A x (by simp[H])) a m y;exact⟨w,P,⟨c::p,by simp,by rw[N];rfl⟩,M,K⟩
theorem iB{L:W->Bool}{ls:List UInt8}{t:A3}{r:W}{c:UInt8}(a:r∈t.rows)(d:c∈ls)(b:marks L t.cols (r++[c])∉AS L t):Bk L ls t≠none:=λh=>b (He h r a c d)
def MY(L:W->Bool)(t:A3)(w:W):Bool:=L (t.rows.getD (runM L t 0 w) [])
def mq(L:W->Bool)(ls:List UInt8)(t:A3)(w:W):Option A3:=(splitAt L t (L w) 0 w).bind λv=>Bv L ls 13 ⟨t.rows,t.cols++[v]⟩
structure Next (L:W->Bool) (ls:List UInt8) (t:A3) (w v:W) (t':A3):Prop where
 split:splitAt L t (L w) 0 w=some v
 close:Bv L ls 13 ⟨t.rows,t.cols++[v]⟩=some t'
 next:mq L ls t w=some t'
 ok:BU L ls t'
 cols:t'.cols=t.cols++[v]
 new:v∉t.cols
 suf:∃p,p≠[]/\w=p++v
 more:t.rows.length<t'.rows.length
 pre:t.rows <+: t'.rows
structure Wr (L:W->Bool) (ls:List UInt8) (wr:A3->Option W):Prop where
 on:∀t w,wr t=some w->BU L ls t->AN ls w/\MY L t w≠L w
end Go.Am
namespace Go.Am
open Go
variable {TB:BR}
section
variable {P:Program}{Z:Ctx}{d:Option Tmp}{ty:TypeId}{pos:String}{af:Array Edge}{g:Option (Nat×Bool)}{f:Env}{σ:Ab}{nx:Nat}
theorem P6{t:TypeId}{z:List Value}{fl:List (Nat×Nat)}{parts:Array (Nat×Operand)}{es:List E}{qs:List (Nat×List C)}[X:BQ P t z][hf:EL P t fl](R:Kw f (parts.toList.map (·.2))=some es)(Y:Gb fl parts.toList es=some qs)
 (M:z.all Qq=true) (N:(qs.all λx=>Nat.ble (x.1+x.2.length) z.length)=true):A9 P TB Z ⟨d,.build t parts,ty,pos,af,g⟩ f σ nx (.a (Bp qs (z.map λv=>C.d (.v v)))):=
 AR λV ρ h1 _=>by
  obtain⟨i,zv,hi,A,s⟩:=HM X.out;have Q:=Dx (V:=V) (ρ:=ρ) parts.toList es qs (λx J e he=>h1.get (by simp only[Op.operands];simpa using J) he) R Y
  have I:Dk V (z.map λv=>C.d (.v v)) zv.cells:=by
   refine⟨by rw[gt,<-s];simp,λj c v T S=>?_⟩;simp only[i8,d7]at T;obtain⟨u,k,rfl⟩:=T
   have:u=v:=by
    rw[<-s]at k;simp only[qu]at k;rw[k]at S;exact Option.some.inj S
   subst this;exact .d (.v (gc.1 M u (co k)))
  obtain⟨cells,G,h4⟩:=GV _ _ _ _ Q I (λx J=>by rw[gt];exact Jt _ _ N x J);have r:=hf.out
  have b:(parts.map λ(i,x)=>(i,ρ x)).toList=parts.toList.map λ(i,x)=>(i,ρ x):=by simp
  refine⟨.agg cells,?_,cells,rfl,h4⟩
  have hb : (Instr.build t (parts.map λ(i,x)=>(i,ρ x))).run P V.w=.ok (.agg cells) V.w:=by
   unfold l5 at r;split at r
   ·rename_i fs k
    have L:∀(l:List Field) (ll:List (Nat×Nat)),(l.mapM λf=>(P.info? f.type).map λi=>(f.offset,i.size))=some ll->∀w,((l.mapM λf=>do pure (f.offset,<-sizeOf f.type)):Sem (List (Nat×Nat))).run P w=.ok ll w:=by
     intro l
     induction l with
     | nil=>intro ll h w;simp at h;subst h;simp[go_sem]
     | cons y l H=>
      intro ll h w;simp only[rJ,s8,pu,d7]at h;obtain⟨p,⟨ii,o,rfl⟩,ll',h5,U⟩:=h;simp at U;subst U
      have K:(sizeOf y.type).run P w=.ok ii.size w:=by simp[sizeOf,typeInfo,o,go_sem]
      have ihh:=H ll' h5 w;simp only[bind_pure_comp]at ihh;simp only[rJ,pp,K,kw,bind_pure_comp,rW,ihh]
    have B:=L fs.toList fl r V.w
    have m:(zeroValue t).run P V.w=.ok zv V.w:=by simp[zeroValue,typeInfo,hi,A,go_sem]
    have ha:((fs.mapM λf=>do pure (f.offset,<-sizeOf f.type)):Sem (Array (Nat×Nat))).run P V.w=.ok fl.toArray V.w:=by
     rw[sk,rW,B];rfl
    rw[<-b]at G;simp only[Instr.build,pp,m,kw,run_underlying k,ha];simp only[qA];rw[G];rfl
   ·rename_i n e k
    simp only[d7]at r;obtain⟨ii,o,rfl⟩:=r
    have m:(zeroValue t).run P V.w=.ok zv V.w:=by simp[zeroValue,typeInfo,hi,A,go_sem]
    have K:(sizeOf e).run P V.w=.ok ii.size V.w:=by simp[sizeOf,typeInfo,o,go_sem]
    have q:∀(ps:List (Nat×Value)) (c c':Array Value),Instr.fill (λi=>((List.range n).map λj=>(j*ii.size,ii.size))[i]?) c ps=some c'->Instr.fill (λi=>some (i*ii.size,ii.size)) c ps=some c':=by
     intro ps
     induction ps with
     | nil=>intro c c' h;simpa[Instr.fill]using h
     | cons p ps H=>
      intro c c' h;obtain⟨i',v'⟩:=p;unfold Instr.fill at h |-;by_cases F:i'<n
      ·simp only [i8,rQ F,qT]at h
       simp only at h |-;split at h
       ·cases h
       ·rename_i hno
        rw[if_neg hno];exact H _ _ (by simpa only[i8]using h)
      ·simp[F]at h
    rw[<-b]at G;simp only[Instr.build,pp,m,kw,run_underlying k,K];rw[q _ _ _ G];rfl
   ·cases r
  show ((do let v <-Instr.build t (parts.map λ(i,x)=>(i,ρ x));pure (Go.Next.value v):Sem Go.Next)).run P V.w=_
  simp only[pp,hb,kw];rfl
end
theorem Zn{P:Program}{Z:Ctx}{o:Oper}{L:List (Nat×E)}{σ:Ab}{nx:Nat}{K:E->Ab->Nat->Prop}{b:Option Addr}(t:Tmp)(j:look L t=some (.o (.d (.v (.slice b 0 0)))))(h:CY P TB Z o (look ((t,.e)::L)) σ nx K):CY P TB Z o (look L) σ nx K:=by
 intro V a i l k;refine h V a ?_ l k;intro t' e' f c;rw[AD]at c;by_cases g:t=t'
 ·subst g
  rw[if_pos rfl]at c
  injection c with c
  subst c;exact⟨b,AJ.val (i t _ f j)⟩
 ·rw[if_neg g]at c
  exact i t' e' f c
theorem TN{P:Program}{Z:Ctx}{ops:Array Oper}{fl:Fl}{i n:Nat}{L:List (Nat×E)}{σ:Ab}{nx:Nat}{K:Env->Ab->Nat->Prop}{op:Op}{ty:TypeId}{pos:String}{af:Array Edge}{g:Option (Nat×Bool)}
 (h:CY P TB Z ⟨none,op,ty,pos,af,g⟩ (look L) σ nx (λ_ σ' nx'=>Kept (fl i-1000) σ σ'/\Lex P TB Z ops (Av fl (i+1) n) K (look L) σ' nx')) (b:BG ops ⟨none,op,ty,pos,af,g⟩ (look L)=some true) (c:Nat.ble 10 (fl i)=true/\Nat.ble 1000 (fl i)=true):BV P TB Z ops ⟨none,op,ty,pos,af,g⟩ fl i n K L σ nx:=
 λa=>Zu a b c h
end Go.Am
namespace Go.Am
open Go
def MT(q:IntKind)(l:List Int):Value:=.agg (l.map (Value.int q)).toArray
abbrev oS(q:IntKind)(l:List Int):List C:=l.map λx=>.d (.v (.int q x))
abbrev gX(q:IntKind)(l:List Int):E:=.a (oS q l)
theorem Ze{q:IntKind}{a b:List Int}:MT q a=MT q b↔a=b:=by
 unfold MT;constructor
 ·intro h
  injection h with h
  have h:=congrArg Array.toList h;simp only at h;exact(List.map_inj_right (λx y h=>by injection h)).1 h
 ·rintro rfl;rfl
theorem LZ{V:View}{q:IntKind}{l:List Int}{v:Value}(h:Br V (gX q l) v):v=MT q l:=by
 obtain⟨vs,rfl,f,e⟩:=h;unfold MT;congr 1;apply Array.ext
 ·simpa using f
 ·intro i c b
  have a:i<l.length:=by simpa using b
  have:=AJ.val (e i (.d (.v (.int q l[i]))) vs[i] (by simp[d6 a]) (pm c));rw[this];simp
class GL (P:Program) (t:TypeId) (n:outParam Nat) (q:outParam IntKind):Prop where
 u:∃e,WideMaps.ArrKey P t e n/\P.underlying e=some (.int q)
 eg:P.eqGuardType P.depth t=false
 sz:P.types.size≠0
section
variable {P:Program}{t:TypeId}{n:Nat}{q:IntKind}
theorem mapM_some{α β:Type}{f:α->Option β}:∀ {l:List α},(∀x∈l,∃y,f x=some y)->∃ys,l.mapM f=some ys
 | [],_=>⟨[],rfl⟩
 | x::l,h=>by
  obtain⟨y,c⟩:=h x (by simp);obtain⟨ys,a⟩:=mapM_some (l:=l) (λz b=>h z (by simp[b]));exact⟨y::ys,by rw[rJ,c,a];rfl⟩
theorem GL.key(h:GL P t n q){l:List Int}(f:l.length=n)(g:∀x∈l,(Lit.int q x).wf=true):∃lx,keyOf P t (MT q l)=some lx:=by
 obtain⟨e,a,k⟩:=h.u;obtain⟨m,b⟩:=Nat.exists_eq_succ_of_ne_zero h.sz;have b:P.types.size=m+1:=b
 have w:∀i∈List.range n,∃y,P.keyLits (m+1) e ((((l.map (Value.int q)).toArray.toList).drop (i*P.cellsOf e)).take (P.cellsOf e))=some y:=λi hi=>by
  have hi:i<n:=pG.1 hi;rw[a.one,tK]
  obtain⟨x,d⟩:∃x,l[i]?=some x:=⟨l[i],d6 (by omega)⟩
  have v:(((l.map (Value.int q)).toArray.toList).drop i).take 1=[Value.int q x]:=by
   have s:(l.map (Value.int q))[i]?=some (Value.int q x):=by simp[d]
   obtain⟨r,p⟩:=ce.1 s;simp only;rw[rB r,p];rfl
  rw[v];refine⟨[.int q x],?_⟩;unfold Program.keyLits;simp[k,g x (co d)]
 obtain⟨ys,c⟩:=mapM_some w
 have o:P.keyLits (P.types.size+1) t (MT q l).cells.toList=some ys.flatten:=by
  rw[b]
  show P.keyLits (m+1+1) t (l.map (Value.int q)).toArray.toList=_
  unfold Program.keyLits;simp only[a.hu];rw[if_pos (by rw[a.size];simp[f])];rw[c];rfl
 have j:(MT q l).formed P t=true:=by simp[MT,Value.formed,a.hu,a.size,f]
 unfold keyOf;rw[a.hu];simp only;rw[if_pos (by rw[a.keyType ⟨m,b⟩,j];rfl),o];exact⟨_,rfl⟩
theorem GL.law(h:GL P t n q):WideMaps.KeyLaw P t:=by
 obtain⟨e,a,b⟩:=h.u;exact a.law
theorem GL.run_eq(h:GL P t n q){a b:List Int}(ha:a.length=n)(hb:b.length=n)(g:∀x∈a,(Lit.int q x).wf=true)(f:∀x∈b,(Lit.int q x).wf=true)(w:World):(Op.equal t (MT q a) (MT q b)).run P w=.ok (decide (a=b)) w:=by
 obtain⟨lx,d⟩:=h.key ha g;obtain⟨ly,c⟩:=h.key hb f;obtain⟨e,j,o⟩:=h.u;obtain⟨r,l,k⟩:=run_equal_deep w (m:=2) (by omega) (j.at 0) j.wide d c;rw[l];congr 1;rw[qU,k,decide_eq_true_eq];refine⟨λi=>Ze.1 (h.law.inj d (by rw[i];exact c)),λi=>?_⟩;subst i;rw[d]at c;injection c
end
section
variable {P:Program}{TB:BR}{Z:Ctx}{d:Option Tmp}{ty:TypeId}{pos:String}{af:Array Edge}{g:Option (Nat×Bool)}{f:Env}{σ:Ab}{nx:Nat}
variable {K:E->Ab->Nat->Prop}{t:TypeId}{n:Nat}{q:IntKind}
theorem Mu{x y:Operand}{l:List Int}{k:IntKind}{i:Int}{v:Int}[h:GL P t n q](o:ev f x=some (gX q l))(m:ev f y=some (eI k i))(G:l.length=n)(F:0<=i)(a:l[i.toNat]?=some v) :
 A9 P TB Z ⟨d,.index t x y,ty,pos,af,g⟩ f σ nx (eI q v):=
 AR λV ρ j _=>by
  have B:=LZ (j.get (by simp[Op.operands]) o);have A:ρ y=.int k i:=AJ.val (j.get (by simp[Op.operands]) m);obtain⟨e,c,b⟩:=h.u;obtain⟨inf,hi⟩:=info_of_underlying b
  have z:inf.size=1:=by have:=c.one;simpa[Program.cellsOf,hi]using this
  have p:=(ce.1 a).1
  have s:i<(n:Int):=by omega
  refine⟨.int q v,?_,.d (.v rfl)⟩
  have H:(l.map (Value.int q)).toArray[i.toNat]?=some (.int q v):=by simp[a]
  have r:(isAgg e).run P V.w=.ok false V.w:=by simp[isAgg,run_underlying b,go_sem]
  simp[execOp,B,A,MT,Instr.index,asIntOf,run_underlying c.hu,F,s,part,r,sizeOf,typeInfo,hi,z,a,go_sem]
theorem mH{yt:TypeId}{x y:Operand}{a b:List Int}[h:GL P t n q](k:ev f x=some (gX q a))(j:ev f y=some (gX q b))(ha:a.length=n)(hb:b.length=n)(e:∀x∈a,(Lit.int q x).wf=true)(c:∀x∈b,(Lit.int q x).wf=true) :
 A9 P TB Z ⟨d,.binOp .eql t x y yt,ty,pos,af,g⟩ f σ nx (eB (decide (a=b))):=
 AR λV ρ i _=>by
  have p:=LZ (i.get (x:=x) (by simp[Op.operands]) k);have o:=LZ (i.get (x:=y) (by simp[Op.operands]) j);refine⟨.bool (decide (a=b)),?_,.d (.v rfl)⟩;have m:binOp .eql t (MT q a) (MT q b)=(do pure (.bool (<-Op.equal t (MT q a) (MT q b)))):=rfl
  have l:(eqGuard .eql t x y (MT q a) (MT q b)).run P V.w=.ok () V.w:=by
   unfold eqGuard MT;simp[h.eg,go_sem]
  simp[execOp,p,o,m,l,h.run_eq ha hb e c V.w,go_sem]
def mapA(q:IntKind)(l:List (List Int×Int)):List (Value×Value):=l.map λp=>(MT q p.1,.int .i64 p.2)
def Eb:List (List Int×Int)->List Int->Option Int
 | [],_=>none
 | p::l,s=>if p.1=s then some p.2 else Eb l s
theorem IB:∀ {l:List (List Int×Int)} {s:List Int},Eb l s=none↔∀p∈l,p.1≠s
 | [],s=>by simp[Eb]
 | p::l,s=>by
  unfold Eb;split
  ·rename_i h;simp[h]
  ·rename_i h;rw[IB (l:=l)];simp[h]
theorem Ni:∀ {l:List (List Int×Int)} {p:List Int×Int},l.Pairwise (λa b=>a.1≠b.1)->p∈l->Eb l p.1=some p.2
 | [],p,_,h=>by cases h
 | x :: l,p,c,h=>by
  unfold Eb
  rcases mt.1 h with rfl|h
  ·rw[if_pos rfl]
  ·rw[if_neg ((qd.1 c).1 p h)]
   exact Ni (qd.1 c).2 h
def RG(n:Nat)(q:IntKind)(l:List (List Int×Int)):Prop:=∀p∈l,p.1.length=n/\∀x∈p.1,(Lit.int q x).wf=true
theorem RT[h:GL P t n q]{l:List (List Int×Int)}{es:List MapEntry}{s:List Int}(v:RG n q l)(g:es.map (λe=>(e.key,e.val))=mapA q l)(B:s.length=n)(A:∀x∈s,(Lit.int q x).wf=true)(G:l.Pairwise (λa b=>a.1≠b.1))(w:World) :
 ∃r,(Instr.findKey t (MT q s) es).run P w=.ok r w/\r.map (·.2)=(Eb l s).map (.int .i64):=by
 obtain⟨lx,z⟩:=h.key B A
 have d:∀e∈es,∃p∈l,e.key=MT q p.1/\e.val=.int .i64 p.2:=λe i=>by
  have:(e.key,e.val)∈mapA q l:=by rw[<-g];exact d8.2 ⟨e,i,rfl⟩
  obtain⟨p,f,c⟩:=d8.1 this
  injection c with c u
  exact⟨p,f,c.symm,u.symm⟩
 rcases h.law.find w z es (λe i=>by
  obtain⟨p,f,c,_⟩:=d e i
  rw[c];exact h.key (v p f).1 (v p f).2) with ⟨f,c⟩|⟨j,e,f,c,u⟩
 ·refine⟨none,f,?_⟩
  have:Eb l s=none:=IB.2 λp F i=>by
   have o:(MT q p.1,Value.int .i64 p.2)∈es.map (λe=>(e.key,e.val)):=by rw[g];exact d8.2 ⟨p,F,rfl⟩
   obtain⟨e,m,k⟩:=d8.1 o
   injection k with k y
   exact c e m (by rw[k,i])
  rw[this];rfl
 ·refine⟨_,f,?_⟩
  obtain⟨p,o,m,k⟩:=d e (co c);have y:p.1=s:=Ze.1 (by rw[<-m,u]);rw[<-y,Ni G o,k];rfl
theorem Pm[h:GL P t n q]{s:List Int}(d:s.length=n)(c:∀x∈s,(Lit.int q x).wf=true)(b:Bool)(w:World):(Instr.checkKey b 10000 t (MT q s)).run P w=.ok () w:=by
 obtain⟨lx,a⟩:=h.key d c;exact h.law.check w b a
theorem Zy{m e:TypeId}{x y:Operand}{id:Nat}{l:List (List Int×Int)}{s:List Int}[M:Hs P m t e][h:GL P t n q][U:Lv P e (.int .i64 0)](Y:ev f x=some (.o (.mp id)))(X:ev f y=some (gX q s))(ho:look σ id=some (.mp (mapA q l)))
 (hl:RG n q l) (hd:l.Pairwise (λa b=>a.1≠b.1)) (K:s.length=n) (J:∀x∈s,(Lit.int q x).wf=true) :
 A9 P TB Z ⟨d,.lookup m x y true,ty,pos,af,g⟩ f σ nx (.t [(false,[.d (.v (.int .i64 ((Eb l s).getD 0)))]),(false,[.d (.v (.bool (Eb l s).isSome))])]):=
 AR λV ρ L hi=>by
  have T:=L.get (by simp[Op.operands]) Y;have S:ρ y=MT q s:=LZ (L.get (by simp[Op.operands]) X);generalize c:ρ x=v at T
  cases T with
  | mp hid =>
   obtain⟨hn,ents,clock,R,h2⟩:=hi.st.obj id _ ho;obtain⟨r,z,B⟩:=RT (P:=P) (t:=t) (es:=ents.toList) hl h2 K J hd V.w;have k:=U.out;simp only[pu]at k;obtain⟨i,H,G⟩:=k
   have F:(zeroValue e).run P V.w=.ok (.int .i64 0) V.w:=by simp[zeroValue,typeInfo,H,G,go_sem]
   have A:=Pm (P:=P) (t:=t) K J ents.isEmpty V.w;refine⟨.tuple #[.int .i64 ((Eb l s).getD 0),.bool (Eb l s).isSome],?_,⟨_,rfl,rfl,λj x v u c=>?_⟩⟩
   ·cases r with
    | none=>
     have I:Eb l s=none:=by simpa using B.symm
     simp[execOp,c,S,Instr.lookup,run_underlying M.out,MapKept.run_getObj_map R,A,z,F,I,go_sem]
    | some p=>
     obtain⟨n,I,Q⟩:∃n,Eb l s=some n/\p.2=.int .i64 n:=by
      cases N:Eb l s with
      | none=>rw[N]at B;simp at B
      | some n=>rw[N]at B;exact⟨n,rfl,by simpa using B⟩
     obtain⟨q1,q2⟩:=p;simp only at Q;subst Q;simp[execOp,c,S,Instr.lookup,run_underlying M.out,MapKept.run_getObj_map R,A,z,I,go_sem]
   ·match j with
    | 0=>simp at u c;subst u;subst c;exact⟨_,rfl,.d (.v rfl)⟩
    | 1=>simp at u c;subst u;subst c;exact⟨_,rfl,.d (.v rfl)⟩
    | j+2=>simp at u
theorem kz{m e:TypeId}{x y z:Operand}{id:Nat}{l:List (List Int×Int)}{s:List Int}{v:Int}[hm:Hs P m t e][h:GL P t n q](T:ev f x=some (.o (.mp id)))(S:ev f y=some (gX q s))(R:ev f z=some (eI .i64 v))(J:look σ id=some (.mp (mapA q l)))
 (hl:RG n q l) (hd:l.Pairwise (λa b=>a.1≠b.1)) (I:s.length=n) (H:∀x∈s,(Lit.int q x).wf=true) (Y:Eb l s=none) (L:K (.t []) ((id,.mp (mapA q (l++[(s,v)])))::σ) nx):CY P TB Z ⟨d,.mapUpdate m x y z,ty,pos,af,g⟩ f σ nx K:=by
 intro V a c N h3;have c:=c.Hw;unfold Oper.wp;generalize a.eval=ρ at c |-;have Q:=c.get (x:=x) (by simp[Op.operands]) T;have e2:ρ y=MT q s:=LZ (c.get (by simp[Op.operands]) S);have e3:ρ z=.int .i64 v:=AJ.val (c.get (by simp[Op.operands]) R);generalize U:ρ x=vx at Q
 cases Q with
 | mp hid=>
  obtain⟨p,ents,clock,G,F⟩:=N.st.obj id _ J;obtain⟨r,A,M⟩:=RT (P:=P) (t:=t) (es:=ents.toList) hl F I H hd V.w;rw[Y]at M
  have X:r=none:=by cases r with
   | none=>rfl
   | some q=>simp at M
  subst X;have B:=Pm (P:=P) (t:=t) I H false V.w
  let ob:Obj:=.map (ents.push { key:=MT q s,val:=.int .i64 v,born:=clock }) (clock+1)
  let w':World:={ V.w with heap:=V.w.heap.setIfInBounds (V.ρ id) ob }
  have i:=MapKept.run_setObj_map (P:=P) ob G;have u:=(pI.1 G).1
  obtain⟨hi,he⟩:=N.write J p (w:=w') (ob':=.mp (mapA q (l++[(s,v)]))) rfl rfl rfl rfl rfl (by simp[w']) (λb hb=>by simp[w',qB,Ne.symm hb]) (by
   refine⟨p,ents.push { key:=MT q s,val:=.int .i64 v,born:=clock },clock+1,?_,?_⟩
   ·show w'.heap[V.ρ id]?=some ob
    simp[w',qB,u]
   ·simp[mapA]at F |-
    exact F)
  have k:(execOp ρ ⟨d,.mapUpdate m x y z,ty,pos,af,g⟩).run P V.w=.ok .skip w':=by
   simp[execOp,U,e2,e3,Instr.mapUpdate,run_underlying hm.out,MapKept.run_getObj_map G,B,A,i,ob,w',go_sem]
  rw[k];exact⟨{ V with w:=w' },.tuple #[],.t [],_,rfl,rfl,he,hi,⟨#[],rfl,rfl,λj x v hj=>by simp at hj⟩,by rw[<-h3]at L;exact L⟩
end
end Go.Am
namespace Go.Am
open Go
variable {P:Program}{TB:BR}{Z:Ctx}{d:Option Tmp}{ty:TypeId}{pos:String}{af:Array Edge}{g:Option (Nat×Bool)}{f:Env}{σ:Ab}{nx:Nat}
variable {K:E->Ab->Nat->Prop}
def Lf(l:List (Int×Int)):List (Value×Value):=l.map λp=>(.int .i64 p.1,.int .i64 p.2)
def Hx(l:List (Int×Int))(s:Int):Option Int:=(l.find? λp=>decide (p.1=s)).map (·.2)
theorem Nj{i64:IntKind}(s:Int):∀(l:List (Int×Int)) (es:List MapEntry) (i:Nat),es.map (λe=>(e.key,e.val))=Lf l->∃r,Instr.findNow (.int i64) (.int .i64 s) es i=some r/\r.map (·.2)=(Hx l s).map (.int .i64)
 | [],es,i,h=>by
  have:es=[]:=by simpa[Lf]using h
  subst this;exact⟨none,rfl,rfl⟩
 | p :: l,es,i,h=>by
  cases es with
  | nil=>simp[Lf]at h
  | cons e es=>
   simp only[Lf,qz,List.cons.injEq,Prod.mk.injEq]at h;obtain⟨⟨hk,b⟩,d⟩:=h
   have c:Instr.sameNow (.int i64) (.int .i64 s) e.key=some (decide (s=p.1)):=by
    rw[hk]
    show (if IntKind.i64=IntKind.i64 then some (s == p.1) else none)=_
    rw[if_pos rfl];exact congrArg some (by rw[qU];simp)
   unfold Instr.findNow;rw[c];by_cases a:s=p.1
   ·refine⟨some (i,e.val),by simp[a],?_⟩
    simp[Hx,a,b]
   ·obtain⟨r,j,g⟩:=Nj (i64:=i64) s l es (i+1) d
    have f:¬p.1=s:=λe=>a e.symm;refine⟨r,by simp[a,j],?_⟩;rw[g];simp[Hx,f]
theorem RN{k:TypeId}{q:IntKind}(hk:P.underlying k=some (.int q))(b:Bool)(s:Int)(w:World):(Instr.checkKey b 10000 k (.int q s)).run P w=.ok () w:=by
 rw[show 10000=9999+1 from rfl];unfold Instr.checkKey;simp[run_underlying hk,go_sem]
theorem Zz{t k e:TypeId}{x y:Operand}{id:Nat}{l:List (Int×Int)}{s:Int}[G:Hs P t k e][hk:GK P k .i64][M:Lv P e (.int .i64 0)](Q:ev f x=some (.o (.mp id)))(N:ev f y=some (eI .i64 s))(R:look σ id=some (.mp (Lf l))) :
 A9 P TB Z ⟨d,.lookup t x y true,ty,pos,af,g⟩ f σ nx (.t [(false,[.d (.v (.int .i64 ((Hx l s).getD 0)))]),(false,[.d (.v (.bool (Hx l s).isSome))])]):=
 AR λV ρ F hi=>by
  have L:=F.get (by simp[Op.operands]) Q;have K:ρ y=.int .i64 s:=AJ.val (F.get (by simp[Op.operands]) N);generalize a:ρ x=v at L
  cases L with
  | mp S =>
   obtain⟨hn,ents,clock,J,U⟩:=hi.st.obj id _ R;obtain⟨r,T,p⟩:=Nj (i64:=.i64) s l ents.toList 0 U;have b:=M.out;simp only[pu]at b;obtain⟨i,A,z⟩:=b
   have u:(zeroValue e).run P V.w=.ok (.int .i64 0) V.w:=by simp[zeroValue,typeInfo,A,z,go_sem]
   have h:(Instr.findKey k (.int .i64 s) ents.toList).run P V.w=.ok r V.w:=by simp[Instr.findKey,run_underlying hk.out,T,go_sem]
   have m:=RN hk.out ents.isEmpty s V.w;refine⟨.tuple #[.int .i64 ((Hx l s).getD 0),.bool (Hx l s).isSome],?_,⟨_,rfl,rfl,λj x v c a=>?_⟩⟩
   ·cases r with
    | none=>
     have B:Hx l s=none:=by simpa using p.symm
     simp[execOp,a,K,Instr.lookup,run_underlying G.out,MapKept.run_getObj_map J,m,h,u,B,go_sem]
    | some q=>
     obtain⟨n,B,I⟩:∃n,Hx l s=some n/\q.2=.int .i64 n:=by
      cases H:Hx l s with
      | none=>rw[H]at p;simp at p
      | some n=>rw[H]at p;exact⟨n,rfl,by simpa using p⟩
     obtain⟨Y,X⟩:=q;simp only at I;subst I;simp[execOp,a,K,Instr.lookup,run_underlying G.out,MapKept.run_getObj_map J,m,h,B,go_sem]
   ·match j with
    | 0=>simp at c a;subst c;subst a;exact⟨_,rfl,.d (.v rfl)⟩
    | 1=>simp at c a;subst c;subst a;exact⟨_,rfl,.d (.v rfl)⟩
    | j+2=>simp at c
theorem eu{t k e:TypeId}{x y z:Operand}{id:Nat}{l:List (Int×Int)}{s:Int}{n:Int}[U:Hs P t k e][hk:GK P k .i64](Q:ev f x=some (.o (.mp id)))(N:ev f y=some (eI .i64 s))(M:ev f z=some (eI .i64 n))(G:look σ id=some (.mp (Lf l)))
 (T:Hx l s=none) (H:K (.t []) ((id,.mp (Lf (l++[(s,n)])))::σ) nx):CY P TB Z ⟨d,.mapUpdate t x y z,ty,pos,af,g⟩ f σ nx K:=by
 intro V a c J h3;have c:=c.Hw;unfold Oper.wp;generalize a.eval=ρ at c |-;have L:=c.get (x:=x) (by simp[Op.operands]) Q;have e2:ρ y=.int .i64 s:=AJ.val (c.get (by simp[Op.operands]) N);have e3:ρ z=.int .i64 n:=AJ.val (c.get (by simp[Op.operands]) M);generalize R:ρ x=v at L
 cases L with
 | mp Y=>
  obtain⟨m,ents,clock,F,B⟩:=J.st.obj id _ G;obtain⟨r,h6,I⟩:=Nj (i64:=.i64) s l ents.toList 0 B;rw[T]at I
  have S:r=none:=by cases r with
   | none=>rfl
   | some q=>simp at I
  subst S
  have u:(Instr.findKey k (.int .i64 s) ents.toList).run P V.w=.ok none V.w:=by simp[Instr.findKey,run_underlying hk.out,h6,go_sem]
  have A:=RN hk.out false s V.w
  let ob:Obj:=.map (ents.push { key:=.int .i64 s,val:=.int .i64 n,born:=clock }) (clock+1)
  let w':World:={ V.w with heap:=V.w.heap.setIfInBounds (V.ρ id) ob }
  have h:=MapKept.run_setObj_map (P:=P) ob F;have p:=(pI.1 F).1
  obtain⟨hi,he⟩:=J.write G m (w:=w') (ob':=.mp (Lf (l++[(s,n)]))) rfl rfl rfl rfl rfl (by simp[w']) (λb hb=>by simp[w',qB,Ne.symm hb]) (by
   refine⟨m,ents.push { key:=.int .i64 s,val:=.int .i64 n,born:=clock },clock+1,?_,?_⟩
   ·show w'.heap[V.ρ id]?=some ob
    simp[w',qB,p]
   ·simp[Lf]at B |-
    exact B)
  have i:(execOp ρ ⟨d,.mapUpdate t x y z,ty,pos,af,g⟩).run P V.w=.ok .skip w':=by
   simp[execOp,R,e2,e3,Instr.mapUpdate,run_underlying U.out,MapKept.run_getObj_map F,A,u,h,ob,w',go_sem]
  rw[i];exact⟨{ V with w:=w' },.tuple #[],.t [],_,rfl,rfl,he,hi,⟨#[],rfl,rfl,λj x v X=>by simp at X⟩,by rw[<-h3]at H;exact H⟩
theorem ky{t:TypeId}{x y z:Operand}{K:E->Ab->Nat->Prop}(h:CY P TB Z ⟨d,.mapUpdate t x y z,ty,pos,af,g⟩ f σ nx K):CY P TB Z ⟨d,.insert t x y z,ty,pos,af,g⟩ f σ nx K:=λV a e c b=>h V a e c b
theorem fo{t k e:TypeId}{x y:Operand}{id:Nat}{l:List (Int×Int)}{s v:Int}[j:Hs P t k e][hk:GK P k .i64][i:Lv P e (.int .i64 0)](c:Hx l s=some v)(b:ev f x=some (.o (.mp id)))(a:ev f y=some (eI .i64 s))(h:look σ id=some (.mp (Lf l))) :
 A9 P TB Z ⟨d,.lookup t x y true,ty,pos,af,g⟩ f σ nx (.t [(false,[.d (.v (.int .i64 v))]),(false,[.d (.v (.bool true))])]):=by
 have:=Zz (P:=P) (TB:=TB) (Z:=Z) (d:=d) (ty:=ty) (pos:=pos) (af:=af) (g:=g) (nx:=nx) (t:=t) (k:=k) (e:=e) b a h;rw[c]at this;exact this
theorem fm{t k e:TypeId}{x y:Operand}{id:Nat}{l:List (Int×Int)}{s:Int}[j:Hs P t k e][hk:GK P k .i64][i:Lv P e (.int .i64 0)](c:Hx l s=none)(b:ev f x=some (.o (.mp id)))(a:ev f y=some (eI .i64 s))(h:look σ id=some (.mp (Lf l))) :
 A9 P TB Z ⟨d,.lookup t x y true,ty,pos,af,g⟩ f σ nx (.t [(false,[.d (.v (.int .i64 0))]),(false,[.d (.v (.bool false))])]):=by
 have:=Zz (P:=P) (TB:=TB) (Z:=Z) (d:=d) (ty:=ty) (pos:=pos) (af:=af) (g:=g) (nx:=nx) (t:=t) (k:=k) (e:=e) b a h;rw[c]at this;exact this
theorem Mb(l:List (Int×Int))(r:Nat->Nat):O.Bd r (.mp (Lf l))=.mp (Lf l):=rfl
def kv{α:Type}(u:List α):List (α×Int):=u.zipIdx.map λp=>(p.1,(p.2:Int))
theorem ie{α:Type}(u:List α)(x:α):kv (u++[x])=kv u++[(x,(u.length:Int))]:=by
 unfold kv;rw[List.zipIdx_append];simp
theorem Vy{α:Type}[DecidableEq α](x:α):∀(u:List α) (k:Nat),(((u.zipIdx k).map λp=>(p.1,(p.2:Int))).find? λp=>decide (p.1=x)).map (·.2)=if x∈u then some ((k+u.idxOf x:Nat):Int) else none
 | [],k=>by simp
 | y :: u,k=>by
  rw[List.zipIdx_cons,qz,tG];by_cases h:y=x
  ·subst h;simp
  ·have b:=Vy x u (k+1)
   have c:¬x=y:=λe=>h e.symm;simp only[h,decide_false];rw[b,List.idxOf_cons];simp only[mt,c,false_or,beq_eq_false_iff_ne.2 h,cond_false];by_cases a:x∈u
   ·rw[if_pos a,if_pos a];congr 2;omega
   ·rw[if_neg a,if_neg a]
theorem aN(u:List Int)(x:Int):Hx (kv u) x=if x∈u then some ((u.idxOf x:Nat):Int) else none:=by
 have:=Vy x u 0;rw[ms]at this;exact this
end Go.Am
namespace Go.Am
open Go Go.ChangeShapes Go.WideShapes Go.RowKit
def below(w:World)(b:Nat):Prop:=b<w.heap.size
def Rd{α:Type}(P:Program)(w:World)(t:TypeId)(k:Nat)(f:α->List D):Prop:=
 ∀ {H:Type} (enc:TypeId×Value->H) (fuel:Nat) (cs:List Value) (x:DataW H×List MemPlace),DataW.trod enc P w 0 (λ_=>true) true fuel t cs=some x->
  ∃y:α,cs.length=k/\(f y).length=k/\∀(j:Nat) c d,cs[j]?=some c->(f y)[j]?=some d->Dn (below w) w d c
section
variable {P:Program}{w:World}{t e:TypeId}{k:Nat}
theorem Mq{f:Value}{e:D}(h:Dn (below w) w e f):∀(j:Nat) c d,[f][j]?=some c->[e][j]?=some d->Dn (below w) w d c:=by
 intro j c d a b
 match j with
 | 0=>simp at a b;subst a;subst b;exact h
 | j+1=>simp at a
theorem oV(ht:P.underlying t=some (.int .u8)):Rd P w t 1 (λn:UInt8=>[.v (.int .u8 n.toNat)]):=λenc fuel cs x a=>by
 obtain⟨n,rfl,_,b⟩:=DataW.trod_int ht a;have hb:=bounds_u8 b;refine⟨UInt8.ofNat n.toNat,rfl,rfl,Mq ?_⟩
 have:((UInt8.ofNat n.toNat).toNat:Int)=n:=by
  simp;omega
 rw[this];exact .v rfl
theorem RM{a:Addr}{n:Nat}{cs:List Value}(h:w.cells? 0 a n=some cs):cs.length=n/\∀(j:Nat) c,cs[j]?=some c->w.cell? (a.add j)=some c:=by
 unfold World.cells? at h;rw[if_pos (qg _)]at h;have b:=mapM_some_length h;simp at b;refine⟨b,λj c d=>?_⟩;have e:=(ce.1 d).1;have:=mapM_some_get h j j (by rw[rQ (by omega)]);rw[this];exact d
theorem m7{α:Type}{f:α->List D}(ht:P.underlying t=some (.slice e))(hk:P.cellsOf e=k)(h0:0<k)(hf:Rd P w e k f):Rd P w t 1 (λl:List α=>[.l (l.map f)]):=λenc fuel cs x hx=>by
 rcases DataW.trod_slice ht hx with ⟨rfl,_⟩|⟨a,len,cap,elems,rest,n,rfl,rfl,_,_,Q,I,hel,q,_,_⟩
 ·exact⟨[],rfl,rfl,Mq .nil⟩
 ·rw [hk]at q
  rcases qk len with A|A
  ·subst A
   exact⟨[],rfl,rfl,Mq (.e I)⟩
  have key:∀i,i<len->∃(y:α) (cs:List Value),w.cells? 0 (a.add (i*k)) k=some cs/\cs.length=k/\(f y).length=k/\∀(j:Nat) c d,cs[j]?=some c->(f y)[j]?=some d->Dn (below w) w d c:=by
   intro i hi;have F:=q i hi
   have R:i<elems.length:=by omega
   rw[d6 R]at F;simp only[pu]at F;obtain⟨cs,B,h3⟩:=F;obtain⟨y,L,K,U⟩:=hf enc n cs _ h3;exact⟨y,cs,B,L,K,U⟩
  obtain⟨b,o,rfl,hb⟩:∃b o,a=⟨b,o,none⟩/\b<w.heap.size:=by
   obtain⟨y,cs,B,L,_,_⟩:=key 0 A;have p:=(RM B).2 0 (cs[0]'(by omega)) (by simp);rw[qW]at p
   have X:∀a:Addr,a.add 0=a:=λa=>by simp[Addr.add]
   rw[X,X]at p;unfold World.cell? at p;obtain⟨b,o,sp⟩:=a;split at p
   ·rename_i c _ _ hh
    split at p
    ·cases p
    ·rename_i hs
     cases sp with
     | none=>exact⟨b,o,rfl,(pI.1 hh).1⟩
     | some s=>simp at hs
   ·cases p
  have v:∀m,m<=len->∃l:List α,l.length=m/\∀(i:Nat) y,l[i]?=some y->(f y).length=k/\∀(j:Nat) d,(f y)[j]?=some d->∃c,w.cell? ⟨b,o+i*k+j,none⟩=some c/\Dn (below w) w d c:=by
   intro m
   induction m with
   | zero=>intro _;exact⟨[],rfl,λi y h=>by simp at h⟩
   | succ m Y=>
    intro hm;obtain⟨l,G,g⟩:=Y (by omega);obtain⟨y,cs,B,L,K,U⟩:=key m (by omega);refine⟨l++[y],by simp[G],λi z u=>?_⟩;by_cases hi:i<l.length
    ·rw[em hi]at u;exact g i z u
    ·rw [f7 (by omega)]at u
     have S:i=m:=by
      have:=(ce.1 u).1;simp at this;omega
     subst S;rw[G,Nat.sub_self]at u;simp at u;subst u;refine⟨K,λj d V=>?_⟩
     have H:j<cs.length:=by rw[L,<-K];exact(ce.1 V).1
     have p:=(RM B).2 j cs[j] (d6 H);rw[BJ,BJ]at p;exact⟨cs[j],p,U j _ d (d6 H) V⟩
  obtain⟨l,G,g⟩:=v len (i9 _);refine⟨l,rfl,rfl,Mq ?_⟩
  have N:(l.map f).length=len:=by simp[G]
  rw[<-N];refine .l (b:=b) (o:=o) (k:=k) (vs:=λi j=>(w.cell? ⟨b,o+i*k+j,none⟩).getD undef) hb (by simpa[G]using Q) I (λi r J=>?_) (λi r j d J T=>?_) (λi r j d J T=>?_)
  all_goals
   rw[i8,d7]at J;obtain⟨y,M,rfl⟩:=J
  ·exact(g i y M).1
  ·obtain⟨c,F,_⟩:=(g i y M).2 j d T
   rw[F];rfl
  ·obtain⟨c,F,B⟩:=(g i y M).2 j d T
   rw[F];exact B
end
def YZ(w:World):View:=⟨below w,id,λ_=>0,λ_=>True,0,w⟩
section
variable {P:Program}{w:World}{t:TypeId}{k:Nat}{H:Type}{enc:TypeId×Value->H}
theorem lR{α:Type}{f:α->List D}{e:TypeId}(ht:P.underlying t=some (.slice e))(h:Rd P w t 1 (λl:List α=>[.l (l.map f)])){v:Value}{d:DataW H}{ps:List MemPlace}{base:Nat}(a:Value.okWide P w .any base t v)(g:DataW.Trod enc P w 0 (λ_=>true) true t v d ps) :
 ∃l:List α,Br (YZ w) (.o (.d (.l (l.map f)))) v:=by
 obtain⟨m,c⟩:=g;obtain⟨l,j,i,b⟩:=h enc m _ _ c;refine⟨l,?_⟩
 have:v.cells.toList=[v]:=by
  unfold Value.okWide Cell.okWide Cell.ok at a;simp only[ht]at a;split at a<;>simp_all[Value.cells]
 rw[this]at b;exact .d (b 0 v _ rfl rfl)
structure Iu (W W':World):Prop where
 os:W'.os=W.os
 output:W'.output=W.output
 size:W.heap.size<=W'.heap.size
 old:∀b,b<W.heap.size->W'.heap[b]?=W.heap[b]?
theorem Iu.sameAt{W W':World}(h:Iu W W'){p:MemPlace}(a:p.block<W.heap.size):W.sameAt W' p:=by
 cases p with
 | cell b off=>show W'.cell? _=W.cell? _;simp only[World.cell?,h.old b a]
 | map b=>exact h.old b a
theorem Iu.kept{W W':World}(h:Iu W W')(may:MemPlace->Prop):W.keptBut W' may:=by
 refine⟨h.os,h.output,λi hi=>?_⟩;rw[h.old i hi];split
 ·rename_i d a
  rw[d]at a
  injection a with a;injection a with b c e
  exact⟨c.symm,e.symm,by rw[b],λj _=>by rw[b]⟩
 ·rename_i d a
  rw[d]at a
  injection a with a;injection a with b c
  exact .inr ⟨b.symm,c.symm⟩
 ·rfl
theorem MK{W W':World}(c:laidOutB P=true)(h:Iu W W'){sp:Nat->Bool}:∀ {ts:List TypeId} {vs:List Value} {ds:List (DataW H)} {ps:List MemPlace},(ts.all λt=>P.readableRec t && decide (t<P.types.size))=true->
 DataW.TrodAll enc P W 0 (λ_=>true) true ts vs ds ps->(∀p∈ps,p.block<W.heap.size)->(∀p∈ps,sp p.block=true)->DataW.TrodAll enc P W' 0 sp true ts vs ds ps
 | [],vs,ds,ps,_,b,_,_=>by obtain⟨rfl,rfl,rfl⟩:=trodAll_nil b;exact rfl
 | t::ts,vs,ds,ps,ha,b,f,e=>by
  obtain⟨v,vs',d,ds',p,q,rfl,rfl,rfl,i,g⟩:=trodAll_cons b;simp only[List.all_cons,d4,decide_eq_true_eq]at ha;refine⟨p,q,Go.WideElems.Trod_stays c ha.1.1 ha.1.2 i (λx a=>h.sameAt (f x (pJ _ a))) (λx a=>e x (pJ _ a)),MK c h (by simpa using ha.2) g (λx a=>f x (pS _ a)) (λx a=>e x (pS _ a)),rfl⟩
theorem lG{f:Func}{s:ChangeSpec}{again:Bool}{W W':World}{args:Array Value}{ds gs:List (DataW H)}{before:List MemPlace}{tb:TypeId}(F:laidOutB P=true)(l:(f.params.toList.all λt=>P.readableRec t && decide (t<P.types.size))=true)
 (u:DataW.Whole enc P f.params.toList s.vars false W args.toList ds gs before) (n:Iu W W') (v:s.vars=[]) (w:f.resultTypes = #[tb]) (i:P.underlying tb=some .bool) (e:(Value.bool true).resultList 1=[.bool true])
 (h:s.fn H (ds++gs) = { results:=[.lit (.bool true)],args:=ds }):s.post enc P f false true false again W args (.bool true) W':=by
 have g:=u.lt;have r:=u;obtain⟨p,q,G,z,y,A,K⟩:=u;rw[v]at z;obtain⟨rfl,rfl⟩:=trodVars_none z;rw[pX]at y;subst y
 have d:∀(b:Nat) (sp:Nat->Bool) (o:Bool),DataW.TrodAll enc P W' b sp o f.resultTypes.toList ((Value.bool true).resultList f.resultTypes.size) (s.fn H (ds++[])).results []:=λb sp o=>by
  rw[w,h]
  show DataW.TrodAll enc P W' b sp o [tb] ((Value.bool true).resultList 1) [.lit (.bool true)] []
  rw[e];exact trodAll_mk1 (RowKit.shut_bool i true)
 have c:∀sp:Nat->Bool,(∀x∈before,sp x.block=true)->DataW.TrodAll enc P W' 0 sp true f.params.toList args.toList (s.fn H (ds++[])).args before:=λsp m=>by
  rw[h];exact MK F n l G g m
 have a:∀sp:Nat->Bool,DataW.TrodVars enc P W' sp s.vars (s.fn H (ds++[])).vars []:=λsp=>by
  rw[v,h];exact rfl
 refine⟨ds,[],before,[],before,[],r,d _ _ _,c _ λx k=>by simpa using g x k,a _,n.kept _,λ_=>?_⟩;refine⟨ok_one w e (okWide_bool_mk i true),_,_,([]++before)++[],⟨[]++before,[],trodAll_append (c _ (λ_ _=>rfl)) (d _ _ _),a _,rfl,?_,λha=>by cases ha⟩,λx k _=>by simpa using k⟩;intro b off B
 have j:MemPlace.cell b off∈before:=by simpa using B
 have J:=A b off j;have I:b<W.heap.size:=g _ j
 simpa[World.frozen?,n.old b I]using J
end
end Go.Am
