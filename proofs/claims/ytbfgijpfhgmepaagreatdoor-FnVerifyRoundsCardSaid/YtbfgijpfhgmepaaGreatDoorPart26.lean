/-
  Systems side by side see their own letters alone; words that agree on the letters of both are put together. The rule of assumptions is sound.
-/
import Derived.Test.YtbfgijpfhgmepaaGreatDoorPart25
import Derived.Test.YtbfgijpfhgmepaaGreatDoorPart24
import Derived.Test.YtbfgijpfhgmepaaGreatDoorPart19
import Derived.Test.YtbfgijpfhgmepaaGreatDoorPart18
import Derived.Test.YtbfgijpfhgmepaaGreatDoorPart20
import Derived.Test.YtbfgijpfhgmepaaGreatDoorPart23
import Derived.Test.YtbfgijpfhgmepaaGreatDoorPart13
import Derived.Test.YtbfgijpfhgmepaaGreatDoorPart14
import Derived.Test.YtbfgijpfhgmepaaGreatDoorPart12
set_option linter.constructorNameAsVariable false
set_option linter.unusedSectionVars false
set_option linter.unusedSimpArgs false
set_option linter.unusedVariables false
namespace Go.Am
open Go
set_option linter.unusedVariables false
theorem IU{s:Sys}:∀ {u:List Int} {q r:Int},JL (MN s) u q r↔JL (MN s) (BP s.al u) q r
 | [],q,r=>Iff.rfl
 | l :: u,q,r=>by
  have c:=λq=>IU (s:=s) (u:=u) (q:=q) (r:=r);by_cases hb:AV s.al l.toNat=true
  ·have e:BP s.al (l::u)=l::BP s.al u:=ot hb
   rw [e];exact⟨λ⟨y,a,b⟩=>⟨y,a,(c y).1 b⟩,λ⟨y,a,b⟩=>⟨y,a,(c y).2 b⟩⟩
  ·have e:BP s.al (l::u)=BP s.al u:=pE hb
   have d:MN s q l=[q]:=by show BJ s q l=_;unfold BJ;rw [if_neg hb]
   rw [e,<-c q];constructor
   ·rintro⟨y,a,b⟩
    rw [d] at a
    obtain rfl:y=q:=by simpa using a
    exact b
   ·intro h
    exact⟨q,by rw [d];simp,h⟩
theorem Lz{s:Sys}{u v:List Int}(h:BP s.al u=BP s.al v):Ff s u↔Ff s v:=by
 unfold Ff;constructor
 ·rintro⟨q,a⟩;exact⟨q,IU.2 (h ▸ IU.1 a)⟩
 ·rintro⟨q,a⟩;exact⟨q,IU.2 (h.symm ▸ IU.1 a)⟩
theorem Po{a:AZ}(ha:AP a=true):∀ {u:List Int} {q:Int},(∀l∈u,0<=l/\l < 6)->0<=q/\q < a.nx.length->Dn (fA a) q u=Dn (fA a) q (BP a.al u)
 | [],q,_,_=>rfl
 | l :: u,q,c,f=>by
  have d:=c l (by simp);have h:=Dl ha (q:=q.toNat) (by omega) d.1 d.2;have b:=λq=>Po ha (u:=u) (q:=q) λm g=>c m (by simp [g]);by_cases hb:AV a.al l.toNat=true
  ·have e:BP a.al (l::u)=l::BP a.al u:=ot hb
   rw [e];exact b _ h
  ·have e:BP a.al (l::u)=BP a.al u:=pE hb
   have i:CA a q.toNat l=q:=by unfold CA;rw [if_neg hb];omega
   rw [e]
   show Dn (fA a) (CA a q.toNat l) u=_
   rw [i];exact b _ f
def Hl(u:List Int):Prop:=∀l∈u,0<=l/\l < 6
theorem KM{a:AZ}(ha:AP a=true){u v:List Int}(c:Hl u)(b:Hl v)(h:BP a.al u=BP a.al v):Ek a u=Ek a v:=by
 have d:=AH ha;unfold Ek;rw [Po ha c ⟨by omega,by omega⟩,Po ha b ⟨by omega,by omega⟩,h]
theorem Tb{al:Int}{u:List Int}(a:Hl u):Hl (BP al u):=λl b=>a l (nr.1 b).1
theorem Tc{al:Int}{u:List Int}(a:Hl u):∀l∈BP al u,l∈Ac al:=λl b=>by
 obtain⟨d,c⟩:=nr.1 b;have:=a l d
 obtain⟨n,rfl⟩:∃n:Nat,l=n:=⟨l.toNat,by omega⟩
 exact D0.2 ⟨by omega,c⟩
theorem GK{al:Int}{u:List Int}(a:∀l∈u,l∈Ac al):Hl u:=λl b=>by have:=Au (a l b);omega
theorem LP{al bl:Int}{u:List Int}(h:∀l∈u,AV al l.toNat=true->AV bl l.toNat=true):BP al (BP bl u)=BP al u:=by
 unfold BP;rw [qD];refine pL λl a=>?_;cases ha:AV al l.toNat
 ·rfl
 ·rw [h l a ha];rfl
theorem ft{al:Int}:∀ {v w:List Int},w <+: BP al v->∃v',v' <+: v/\BP al v'=w:=λ{v w} ⟨z,h⟩=>by
 obtain⟨a,c,rfl,b,_⟩:=List.filter_eq_append_iff.1 h.symm;exact⟨a,qC _ _,b⟩
theorem dB{s:Sys}{u v:List Int}(h:u <+: v)(a:Ff s v):Ff s u:=by
 obtain⟨z,rfl⟩:=h;obtain⟨q,b⟩:=a;obtain⟨y,c,_⟩:=FD.1 b;exact⟨y,c⟩
theorem merge{A B:Int->Bool}:∀(u:List Int) {v:List Int},(∀l∈u,A l=true)->(∀l∈v,B l=true)->u.filter B=v.filter A->∃x:List Int,x.filter A=u/\x.filter B=v/\∀l∈x,l∈u\/l∈v
 | [],v,_,b,h=>⟨v,h.symm,List.filter_eq_self.2 b,λl n=>.inr n⟩
 | l :: u, v,g,b,h=>by
  have i:=g l (by simp);by_cases c:B l=true
  ·rw [ot c] at h
   obtain⟨k,j,rfl,p,q,o⟩:=List.filter_eq_cons_iff.1 h.symm;obtain⟨x,f,e,d⟩:=merge u (v:=j) (λm a=>g m (by simp [a])) (λm a=>b m (by simp [a])) o.symm;refine⟨k++l::x,?_,?_,λm a=>?_⟩
   ·rw [oq,qh.2 p,ot i,f];rfl
   ·rw [oq,List.filter_eq_self.2 λm a=>b m (by simp [a]),ot c,e]
   ·rcases em.1 a with a|a
    ·exact .inr (by simp [a])
    ·rcases ng.1 a with rfl|a
     ·exact .inl (by simp)
     ·rcases d m a with h|h
      ·exact .inl (by simp [h])
      ·exact .inr (by simp [h])
  ·rw [pE c] at h
   obtain⟨x,f,e,d⟩:=merge u (v:=v) (λm a=>g m (by simp [a])) b h;refine⟨l::x,?_,?_,λm a=>?_⟩
   ·rw [ot i,f]
   ·rw [pE c,e]
   ·rcases ng.1 a with rfl|a
    ·exact .inl (by simp)
    ·rcases d m a with h|h
     ·exact .inl (by simp [h])
     ·exact .inr h
theorem Mg{a b:Int}(ha:A7 a=true)(hb:A7 b=true){n:Nat}(c:n < 64):AV (Gk .i64 a b) n=(AV a n || AV b n):=by
 unfold A7 at ha hb;simp only [decide_eq_true_eq] at ha hb
 obtain⟨x,rfl⟩:∃x:Nat,a=x:=⟨a.toNat,by omega⟩
 obtain⟨y,rfl⟩:∃y:Nat,b=y:=⟨b.toNat,by omega⟩
 have h:=K6 (a:=x) (b:=y) (by omega) (by omega);rw [h.1,De (by omega) c,De (by omega) c,De (by omega) c,oK]
theorem ef{a b:Int}(ha:A7 a=true)(hb:A7 b=true){n:Nat}(c:n < 64):AV (FW .i64 a b) n=(AV a n && AV b n):=by
 unfold A7 at ha hb;simp only [decide_eq_true_eq] at ha hb
 obtain⟨x,rfl⟩:∃x:Nat,a=x:=⟨a.toNat,by omega⟩
 obtain⟨y,rfl⟩:∃y:Nat,b=y:=⟨b.toNat,by omega⟩
 have h:=K4 (a:=x) (b:=y) (by omega) (by omega);have d:x &&& y < 64:=Nat.lt_of_le_of_lt qv (by omega);rw [h,De (by omega) c,De (by omega) c,De (by omega) c,pH]
structure EY (s:Sys) (p:AZ) (t:Sys) (al:Int):Prop where
 hs:AU s=true
 hp:AP p=true
 ht:AU t=true
 hal:al=Br s p t
section
variable {s t:Sys}{p:AZ}{al:Int}(hI:EY s p t al)
include hI
theorem bF{n:Nat}(a:n < 64):AV al n=((AV s.al n || AV p.al n) && AV t.al n):=by
 have c:=(AN hI.hs).1;have b:=(AH hI.hp).1;have d:=(AN hI.ht).1;rw [hI.hal];unfold Br;rw [hI.hs,hI.hp,hI.ht];simp only [qF,if_true];rw [ef (K5 c b) d a,Mg c b a]
theorem QH:A7 al=true:=by
 have g:=(AN hI.hs).1;have f:=(AH hI.hp).1;have i:=(AN hI.ht).1;have h:=K5 g f;rw [hI.hal];unfold Br;rw [hI.hs,hI.hp,hI.ht];simp only [qF,if_true];unfold A7 at *;simp only [decide_eq_true_eq] at *
 obtain⟨x,d⟩:∃x:Nat,Gk .i64 s.al p.al=x:=⟨(Gk .i64 s.al p.al).toNat,by omega⟩
 obtain⟨y,c⟩:∃y:Nat,t.al=y:=⟨t.al.toNat,by omega⟩
 have:=K4 (a:=x) (b:=y) (by omega) (by omega);have e:x &&& y < 64:=Nat.lt_of_le_of_lt qv (by omega);rw [d,c,this];omega
theorem Ge:Bc ⟨s,p,al⟩=true:=by
 unfold Bc;rw [hI.hs,hI.hp,QH hI];rfl
theorem aO{a:AZ}(ha:AP a=true)(hal:a.al=al)(o:∀u,Hl u->(∀l∈u,AV s.al l.toNat=true\/AV al l.toNat=true)->Ff s u->Ek a u=true->Ek p u=true)
 (m:∀v,(∀l∈v,l∈Ac t.al)->Ff t v->Ek a v=true) {x:List Int} (e:Hl x) (f:∀l∈x,AV s.al l.toNat=true\/AV t.al l.toNat=true) (k:Ff s x) (ht:Ff t x):Ek p x=true:=by
 have c:=λl (b:l∈x)=>bF hI (n:=l.toNat) (by have:=e l b;omega);have j:=Tb (al:=t.al) e;have w:Ek a (BP t.al x)=true:=m _ (Tc e) ((Lz (by rw [LP λ_ _ h=>h])).1 ht)
 let u:=x.filter λl=>AV s.al l.toNat || AV al l.toNat
 have g:Hl u:=λl f=>e l (nr.1 f).1
 have d:∀ {bl:Int},(∀l∈x,AV bl l.toNat=true->(AV s.al l.toNat || AV al l.toNat)=true)->BP bl u=BP bl x:=λ{bl} h=>by
  show List.filter _ (List.filter _ x)=List.filter _ x
  rw [qD];refine pL λl f=>?_;cases hb:AV bl l.toNat
  ·rfl
  ·rw [h l f hb];rfl
 have r:Ek a u=true:=by
  rw [KM ha g j,w]
  rw [hal,d λl _ h=>by rw [h,pQ],LP λl b h=>by
   have:=c l b;rw [h] at this
   revert this;cases AV t.al l.toNat<;>simp]
 have q:=o u g (λl b=>by have:=(nr.1 b).2;simpa using this) ((Lz (d λl _ h=>by rw [h];rfl)).2 k) r;rw [<-q];refine KM hI.hp e g (d λl b h=>?_).symm;have:=c l b;rw [h,pQ,nI] at this
 rcases f l b with i|i
 ·rw [i];rfl
 ·rw [this,i,pQ]
theorem U7{v:List Int}(y:∀l∈v,l∈Ac t.al)(ht:Ff t v)(G:LS ⟨s,p,al⟩ (Dp (BP al v))=false):∃x,Hl x/\(∀l∈x,AV s.al l.toNat=true\/AV t.al l.toNat=true)/\Ff s x/\Ff t x/\Ek p x=false:=by
 have m:=GK y;obtain⟨u,A,J,I,H⟩:=(PH (Ge hI) (Tc m)).1 G
 have d:Hl u:=λl a=>by
  rcases A l a with h|h
  ·have:=DH (Ge hI) h;omega
  ·have:=Au h;omega
 obtain⟨v',w,F⟩:=ft J;have g:∀l∈v',l∈Ac t.al:=λl a=>y l (w.subset a);have b:=λ(l:Int) (h:0<=l/\l < 6)=>bF hI (n:=l.toNat) (by omega)
 have q:∀l∈u,(AV s.al l.toNat || AV al l.toNat)=true:=λl a=>by
  rcases A l a with h|h
  ·rw [(DH (Ge hI) h).2.2];rfl
  ·rw [(Au h).2.2,pQ]
 have o:∀l∈v',AV t.al l.toNat=true:=λl a=>(Au (g l a)).2.2
 have e:u.filter (λl=>AV t.al l.toNat)=v'.filter λl=>AV s.al l.toNat || AV al l.toNat:=by
  have L:u.filter (λl=>AV t.al l.toNat)=BP al u:=pL λl a=>by
   have c:=q l a;rw [b l (d l a)] at c |-;revert c;cases AV s.al l.toNat<;>cases AV p.al l.toNat<;>cases AV t.al l.toNat<;>simp
  have K:v'.filter (λl=>AV s.al l.toNat || AV al l.toNat)=BP al v':=pL λl a=>by
   have c:=o l a;rw [b l (GK g l a),c];cases AV s.al l.toNat<;>cases AV p.al l.toNat<;>simp
  rw [L,K,F]
 obtain⟨x,B,k,r⟩:=merge u q o e
 have f:Hl x:=λl a=>by
  rcases r l a with h|h
  ·exact d l h
  ·exact GK g l h
 have i:∀l∈x,AV s.al l.toNat=true\/AV t.al l.toNat=true:=λl a=>by
  rcases r l a with h|h
  ·have c:=q l h
   rw [b l (d l h)] at c;revert c;cases AV s.al l.toNat<;>cases AV p.al l.toNat<;>cases AV t.al l.toNat<;>simp
  ·exact .inr (o l h)
 have j:∀ {bl:Int},(∀l∈x,AV bl l.toNat=true->(AV s.al l.toNat || AV al l.toNat)=true)->BP bl u=BP bl x:=λ{bl} h=>by
  rw [<-B]
  show List.filter _ (List.filter _ x)=List.filter _ x
  rw [qD];refine pL λl a=>?_;cases hb:AV bl l.toNat
  ·rfl
  ·rw [h l a hb];rfl
 refine⟨x,f,i,(Lz (j λl _ h=>by rw [h];rfl)).1 I,?_,?_⟩
 ·have:=dB w ht
  refine(Lz ?_).1 this;have k:BP t.al x=v':=k;rw [<-k,LP λ_ _ h=>h]
 ·rw [<-H]
  refine KM hI.hp f d (j λl z h=>?_).symm;have:=b l (f l z);rw [h,pQ,nI] at this
  rcases i l z with c|c
  ·rw [c];rfl
  ·rw [this,c,pQ]
end
theorem Jx{al:Int}{u:List Int}(c:Hl u)(h:∀l∈u,AV al l.toNat=true):∀l∈u,l∈Ac al:=λl a=>by
 have:=c l a
 obtain⟨n,rfl⟩:∃n:Nat,l=n:=⟨l.toNat,by omega⟩
 have b:=h _ a;rw [i7] at b;exact D0.2 ⟨by omega,b⟩
theorem RJ{g:Gr}{w:List Int}(h:Dw g=some w):over g w/\Sa g w/\∀u,over g u->Sa g u->¬slt u w:=by
 have:=Dx g;rw [h] at this;exact this
theorem Xr{g:Gr}(h:Dw g=none):∀u,over g u->¬Sa g u:=by
 have:=Dx g;rw [h] at this;exact this
theorem KB{s:Sys}{a p:AZ}{w:List Int}(h:DD s a p=some w):CY s a p=true/\(∀l∈w,l∈Ac (Gk .i64 s.al a.al))/\Ff s w/\Ek a w=true/\Ek p w=false:=by
 unfold DD at h;by_cases b:CY s a p=true
 ·rw [if_pos b] at h
  obtain⟨c,d,_⟩:=RJ h;exact⟨b,c,(iq b c).1 d⟩
 ·rw [if_neg b] at h;cases h
theorem VO{s:Sys}{a p:AZ}(d:CY s a p=true):Mu s a p=true↔∀w,(∀l∈w,l∈Ac (Gk .i64 s.al a.al))->Ff s w->Ek a w=true->Ek p w=true:=by
 unfold Mu DD;rw [d,nI,if_pos rfl];constructor
 ·intro h w g c f
  cases b:Dw (Eh (DT s a p)) with
  | some x=>rw [b] at h;cases h
  | none=>
   have:=Xr b w g;rw [iq d g] at this;cases e:Ek p w
   ·exact absurd ⟨c,f,e⟩ this
   ·rfl
 ·intro h
  cases b:Dw (Eh (DT s a p)) with
  | none=>rfl
  | some x=>
   obtain⟨c,f,_⟩:=RJ b;obtain⟨e,j,i⟩:=(iq d c).1 f;rw [h x c e j] at i;cases i
theorem Xa{l:List Sys}{p:AZ}{w:List Int}(h:BQ l p=some w):(A1 l && AP p)=true/\(∀m∈w,m∈Ac (Bx l))/\(∀s∈l,Ff s w)/\Ek p w=false:=by
 unfold BQ at h;by_cases a:(A1 l && AP p)=true
 ·rw [if_pos a] at h
  obtain⟨b,c,_⟩:=RJ h;exact⟨a,b,(im a b).1 c⟩
 ·rw [if_neg a] at h;cases h
theorem Kk{l:List Sys}{p:AZ}(c:(A1 l && AP p)=true):Ep l p=true↔∀w,(∀m∈w,m∈Ac (Bx l))->(∀s∈l,Ff s w)->Ek p w=true:=by
 unfold Ep BQ;rw [c,nI,if_pos rfl];constructor
 ·intro h w e b
  cases a:Dw (Eh (CX l p)) with
  | some x=>rw [a] at h;cases h
  | none=>
   have:=Xr a w e;rw [im c e] at this;cases d:Ek p w
   ·exact absurd ⟨b,d⟩ this
   ·rfl
 ·intro h
  cases a:Dw (Eh (CX l p)) with
  | none=>rfl
  | some x=>
   obtain⟨b,g,_⟩:=RJ a;obtain⟨d,f⟩:=(im c b).1 g;rw [h x b d] at f;cases f
theorem Tu(n:Nat)(a:n < 64):AV 0 n=false:=by
 have:=De (s:=0) (n:=n) (by omega) a;rw [show ((0:Nat):Int)=0 from rfl] at this;rw [this];simp
theorem HI{t:Sys}:A1 [t]=AU t:=by simp [A1]
theorem Jz{s t:Sys}:A1 [s,t]=(AU s && AU t):=by simp [A1]
theorem Xx{t:Sys}(ht:AU t=true){n:Nat}(a:n < 64):AV (Bx [t]) n=AV t.al n:=by
 unfold Bx;rw [HI,ht,if_pos rfl]
 show AV (Gk .i64 0 t.al) n=_
 rw [Mg (by decide) (AN ht).1 a,Tu n a,pS]
theorem Xy{s t:Sys}(a:AU s=true)(ht:AU t=true){n:Nat}(b:n < 64):AV (Bx [s,t]) n=(AV s.al n || AV t.al n):=by
 unfold Bx;rw [Jz,a,ht,qF,if_pos rfl]
 show AV (Gk .i64 (Gk .i64 0 s.al) t.al) n=_
 have c:A7 0=true:=by decide
 rw [Mg (K5 c (AN a).1) (AN ht).1 b,Mg c (AN a).1 b,Tu n b,pS]
theorem cu{t:Sys}(ht:AU t=true){u:List Int}:(∀l∈u,l∈Ac (Bx [t]))↔∀l∈u,l∈Ac t.al:=by
 constructor
 ·intro h
  have a:=GK h
  exact Jx a λl b=>by rw [<-Xx ht (by have:=a l b;omega)];exact(Au (h l b)).2.2
 ·intro h
  have a:=GK h
  exact Jx a λl b=>by rw [Xx ht (by have:=a l b;omega)];exact(Au (h l b)).2.2
theorem XU{s t:Sys}(c:AU s=true)(ht:AU t=true){u:List Int}:(∀l∈u,l∈Ac (Bx [s,t]))↔Hl u/\∀l∈u,AV s.al l.toNat=true\/AV t.al l.toNat=true:=by
 constructor
 ·intro h
  have a:=GK h;refine⟨a,λl b=>?_⟩;have:=(Au (h l b)).2.2;rw [Xy c ht (by have:=a l b;omega),nq] at this;exact this
 ·rintro⟨a,h⟩
  exact Jx a λl b=>by rw [Xy c ht (by have:=a l b;omega),nq];exact h l b
theorem gq{a b:Int}(ha:A7 a=true)(hb:A7 b=true){u:List Int}:(∀l∈u,l∈Ac (Gk .i64 a b))↔Hl u/\∀l∈u,AV a l.toNat=true\/AV b l.toNat=true:=by
 constructor
 ·intro h
  have c:=GK h;refine⟨c,λl d=>?_⟩;have:=(Au (h l d)).2.2;rw [Mg ha hb (by have:=c l d;omega),nq] at this;exact this
 ·rintro⟨c,h⟩
  exact Jx c λl d=>by rw [Mg ha hb (by have:=c l d;omega),nq];exact h l d
theorem YP{s t:Sys}{w:List Int}:(∀x∈[s,t],Ff x w)↔Ff s w/\Ff t w:=by simp
theorem XV{t:Sys}{w:List Int}:(∀x∈[t],Ff x w)↔Ff t w:=by simp
theorem TE{s t:Sys}{p a:AZ}(h:Ib s t p a=0):Ep [s,t] p=true/\Mu s a p=true/\Ep [t] a=true:=by
 unfold Ib at h;split at h
 ·cases h
 rename_i c;split at h
 ·cases h
 rename_i m;split at h
 ·cases h
 rename_i G;split at h
 ·cases h
 rename_i F
 have hk:Mu s a p=true:=by simpa using G
 have b:Ep [t] a=true:=by simpa using F
 refine⟨?_,hk,b⟩;rw [not_or] at c
 have n:(AU s && AP p && AU t)=true:=by
  have o:=c.1;unfold Br at o;split at o
  ·assumption
  ·omega
 have ha:AP a=true:=by simpa using c.2
 simp only [d4] at n;obtain⟨⟨e,f⟩,d⟩:=n;have hal:a.al=Br s p t:=Classical.not_not.1 m
 have hI:EY s p t a.al:=⟨e,f,d,hal⟩
 have y:CY s a p=true:=by unfold CY;rw [e,ha,f];rfl
 have l:(A1 [t] && AP a)=true:=by rw [HI,d,ha];rfl
 have k:(A1 [s,t] && AP p)=true:=by rw [Jz,e,d,f];rfl
 rw [VO y] at hk;rw [Kk l] at b;rw [Kk k];intro w x z;obtain⟨A,B⟩:=(XU e d).1 x;obtain⟨r,q⟩:=YP.1 z;exact aO hI ha rfl (λu i j c m=>hk u ((gq (AN e).1 (AH ha).1).2 ⟨i,j⟩) c m) (λv g c=>b v ((cu d).2 g) (XV.2 c)) A B r q
theorem SV{s t:Sys}{p:AZ}{al:Int}(hI:EY s p t al){v:List Int}(g:∀l∈v,l∈Ac t.al)(ht:Ff t v)(h:LS ⟨s,p,al⟩ (Dp (BP al v))=false):Ep [s,t] p=false:=by
 have a:(A1 [s,t] && AP p)=true:=by rw [Jz,hI.hs,hI.ht,hI.hp];rfl
 obtain⟨x,f,e,d,c,b⟩:=U7 hI g ht h;cases hk:Ep [s,t] p
 ·rfl
 ·rw [Kk a] at hk
  rw [hk x ((XU hI.hs hI.ht).2 ⟨f,e⟩) (YP.2 ⟨d,c⟩)] at b;cases b
theorem az{a:AZ}{w:List Int}(b:∀l∈w,l∈Ac a.al):LA a (Dp w)=Ek a w:=by
 unfold Ek;rw [Rs w 0 b];rfl
theorem Xc{s t:Sys}{p a:AZ}{al:Int}(hI:EY s p t al)(ha:AP a=true)(hal:a.al=al){u:List Int}(h:DD s a p=some u):(∀l∈BP al u,l∈Ac al)/\LA a (Dp (BP al u))=true/\LS ⟨s,p,al⟩ (Dp (BP al u))=false:=by
 obtain⟨o,i,j,n,k⟩:=KB h;have e:=GK i;have c:=Tc (al:=al) e;have d:=((gq (AN hI.hs).1 (AH ha).1).1 i).2;refine⟨c,?_,(PH (Ge hI) c).2 ⟨u,λl b=>?_,qj _,j,k⟩⟩
 ·rw [az (by rw [hal];exact c),<-n]
  exact KM ha (Tb e) e (by rw [hal,LP λ_ _ h=>h])
 ·have hb:=e l b
  rw [hal] at d;by_cases f:AV al l.toNat=true
  ·exact .inr (Jx (u:=[l]) (by intro m b;simp at b;subst b;exact hb) (by intro m b;simp at b;subst b;exact f) l (by simp))
  ·refine .inl ?_
   unfold Cs;refine nr.2 ⟨?_,by simpa using f⟩;have g:AV s.al l.toNat=true:=(d l b).resolve_right f;exact Jx (u:=[l]) (by intro m b;simp at b;subst b;exact hb) (by intro m b;simp at b;subst b;exact g) l (by simp)
theorem GY{t:Sys}{a:AZ}{v:List Int}(h:BQ [t] a=some v):AU t=true/\AP a=true/\(∀l∈v,l∈Ac t.al)/\Ff t v/\Ek a v=false:=by
 obtain⟨b,d,c,e⟩:=Xa h;rw [d4,HI] at b;exact⟨b.1,b.2,(cu b.1).1 d,XV.1 c,e⟩
theorem VC{t:Sys}{a:AZ}{v:List Int}(h:BQ [t] a=some v):(∀l∈BP a.al v,l∈Ac a.al)/\LA a (Dp (BP a.al v))=false:=by
 obtain⟨i,f,e,g,d⟩:=GY h;have c:=GK e;have b:=Tc (al:=a.al) c;refine⟨b,?_⟩;rw [az b,<-d];exact KM f (Tb c) c (by rw [LP λ_ _ h=>h])
end Go.Am
namespace Go.Am
open Go Go.Proofs
set_option maxHeartbeats 1000000
attribute [local irreducible] AX Cb Lex Bh Aj Spec
variable {TB:Bz}
theorem ZZ{A:W->Bool}{t:A0}:A5 A (-1) t=false:=by
 cases h:A5 A (-1) t
 ·rfl
 ·have:=(EW h).1.pos;omega
theorem WZ{A L:W->Bool}{al:Int}(h:Td A L al)(t:A0):A5 A al t=A5 L al t:=by
 unfold A5;cases a:Ga al t
 ·rfl
 ·rw [HN h (UL a).bd (by omega)]
theorem DC(te:EF)(x:A0):(CT te && A5 (CD te) (Bb te) x)=A5 (Fq te) (Ee te) x:=by
 unfold Ee;cases a:CT te
 ·simp [ZZ]
 ·rw [if_pos rfl,nI,WZ (HS a)]
theorem Ds{te:EF}{x:A0}(h:A5 (Fq te) (Ee te) x=true):CT te=true/\Ee te=Bb te/\A5 (CD te) (Bb te) x=true/\aD (Bb te) x/\(AJ (CD te) x).Nodup:=by
 rw [<-DC,d4] at h;exact⟨h.1,by unfold Ee;rw [if_pos h.1],h.2,(EW h.2).1,(EW h.2).2⟩
theorem XJ{al:Int}(ha:A7 al=true){w:W}(h:AT (A6 al) w)(a:w.length<=4000):Gf al w=true:=by
 unfold Gf;rw [GI h (by omega) ha,decide_eq_true a];rfl
theorem bQ{L:W->Bool}{x:A0}(h:(AJ L x).Nodup){i k:Nat}{u w:W}(hi:x.rows[i]? = some u)(hk:x.rows[k]? = some w)(a:k < i):marks L x.cols u≠marks L x.cols w:=by
 intro b
 have d:(AJ L x)[i]? = some (marks L x.cols u):=by unfold AJ;simp [hi]
 have c:(AJ L x)[k]? = some (marks L x.cols u):=by unfold AJ;simp [hk,b]
 obtain⟨j,g⟩:=ce.1 d;obtain⟨f,e⟩:=ce.1 c;exact nn.1 h k i f j a (by rw [g,e])
theorem Oz{L:W->Bool}{ls:List UInt8}:∀ {n:Nat} {t u:A0},TOk L ls t->Bo L ls n t=some u->TOk L ls u/\Bg L ls u=none/\t.rows <+: u.rows/\u.cols=t.cols/\(t.rows.length<=12->u.rows.length<=12)/\(Bg L ls t≠none->t.rows.length < u.rows.length)/\(Bg L ls t=none->u=t)
 | 0,t,u,_,h=>by simp [Bo] at h
 | n + 1,t,u,hk,h=>by
  unfold Bo at h
  cases a:Bg L ls t with
  | none=>
   rw [a] at h
   injection h with h;subst h
   exact⟨hk,a,qj _,rfl,id,λh=>absurd rfl h,λ_=>rfl⟩
  | some w=>
   rw [a] at h;dsimp only at h;split at h
   ·cases h
   ·rename_i i
    obtain⟨g,f,b,e,d,k,j⟩:=Oz (hk.push a) h;have c:=(qC t.rows [w]).trans b;refine⟨g,f,c,e,λh=>d (by simp;omega),λ_=>?_,λh=>by cases h⟩;have:=b.length_le;simp at this;omega
theorem en{te:EF}{x u:A0}(h:A5 (Fq te) (Ee te) x=true)(d:Hj te x=some u):A5 (Fq te) (Ee te) u=true/\Bg (CD te) (A6 (Bb te)) u=none/\x.rows <+: u.rows/\u.cols=x.cols/\(Bg (CD te) (A6 (Bb te)) x≠none->x.rows.length < u.rows.length)/\(Bg (CD te) (A6 (Bb te)) x=none->u=x):=by
 obtain⟨e,r,g,b,q⟩:=Ds h;unfold Hj at d;rw [e,g,nI,if_pos rfl] at d;obtain⟨f,n,m,c,l,k,j⟩:=Oz (Iw g) d;refine⟨?_,n,m,c,k,j⟩;rw [<-DC,e,nI];have o:=l b.rl;refine JI (HT e) b.pos f o (by rw [c];exact b.cl) (λw a=>?_) (λw a=>by rw [c] at a;exact(b.cw w a).1);obtain⟨i,hi,p⟩:=nB a;have:=f.short i w (by rw [d6 hi,p]);omega
theorem Tx(te:EF)(x:A0):(if A5 (Fq te) (Ee te) x then Bo (Fq te) (A6 (Ee te)) 13 x else none)=Hj te x:=by
 unfold Hj;rw [DC];by_cases a:A5 (Fq te) (Ee te) x=true
 ·obtain⟨d,c,f,b,e⟩:=Ds a
  rw [a,c,if_pos rfl,if_pos rfl];exact Oy (HS d) 13 b.bd (by omega)
 ·rw [Bool.not_eq_true] at a;rw [a,if_neg oc,if_neg oc]
theorem Qx{te:EF}{x:A0}(h:A5 (Fq te) (Ee te) x=true):(CT te && BD (CD te) (Bb te) x)=(Bg (CD te) (A6 (Bb te)) x).isNone:=by
 obtain⟨b,e,a,d,c⟩:=Ds h;rw [b,Di,a];rfl
section
variable {P:Program}{Z:Ctx}{d:Option Tmp}{ty:TypeId}{pos:String}{af:Array Edge}{g:Option (Nat×Bool)}{L:List (Nat×E)}{σ:Ab}{nx:Nat}
end
end Go.Am
namespace Go.Am
open Go
set_option linter.unusedVariables false
section
variable {a b:AZ}(ha:AP a=true)(hb:AP b=true)(hal:a.al=b.al)(hL:∀w,AT (A6 a.al) w->LA a w=LA b w)
include ha hb hal hL
end
end Go.Am
namespace Go.Am
open Go Go.Proofs
set_option maxHeartbeats 1000000
attribute [local irreducible] AX Cb Lex Bh Aj Spec
variable {TB:Bz}
theorem Sp{t:EF}{al:Int}{A:W->Bool}(f:J6 Tryz.prog TB 120 175 t al A):Pure Tryz.prog TB 68 [EE t] (Iz (H0 A al Bu)):=by
 have c:Pure Tryz.prog TB 118 [EE t,DY Bu] (Iz (H0 A al Bu)):=IT f Bu ⟨by decide,by decide,λw a=>by simp [Bu] at a;subst a;simp,λw a=>by simp [Bu] at a;subst a;simp⟩
 rcases e:H0 A al Bu with _|x<;>rw [e] at c<;>(
  refine eG Tryz.func68 rfl (by kernel_rfl) rfl ?_;intro Z d;(repeat' first |refine sN rfl ?_ |((first|refine sA rfl ?_ ?_|refine s4 rfl ‹_› rfl ?_ ?_);first|exact tI|omega|simp only[oZ] at *;omega) |(refine s2 rfl λ_ b=>?_;try (simp only[n9,og] at b;subst b)) |refine sP rfl (c) rfl ?_|(refine Ag rfl ?_;refine gA rfl ?_;first|refine gS (λ_ _=>AF rfl rfl (by rfl) (by rfl)) ?_) |refine s3 rfl ?_ ?_<;>rintro rfl |refine aU rfl ?_ |refine Aa ?_ |refine rE (by kernel_rfl) ?_|(refine aC rfl ?_ ?_<;>rintro⟨⟩)|refine aK ?_|refine aE ?_|refine aB ?_|refine aR ⟨_,rfl,?_⟩)
  all_goals rfl)
end Go.Am
namespace Go.Am
open Go Go.Proofs
set_option maxHeartbeats 1000000
attribute [local irreducible] AX Cb Lex Bh Aj Spec
variable {tabs:List (Nat×Obj)}
theorem cg{L:W->Bool}{ls:List UInt8}{t:A0}(g:t.cols=[[]])(c:2<=t.rows.length)(e:(AJ L t).Nodup):Bg L ls t=none:=by
 cases d:Bg L ls t with
 | none=>rfl
 | some w=>
  exfalso;have f:=(Il d).2;obtain⟨a,ha⟩:=get_some (l:=t.rows) (k:=0) (by omega);obtain⟨b,hb⟩:=get_some (l:=t.rows) (k:=1) (by omega);have ne:=bQ e hb ha (by omega);have h:marks L t.cols a∈AJ L t:=List.mem_map_of_mem (co ha);have c:marks L t.cols b∈AJ L t:=List.mem_map_of_mem (co hb)
  have hk:∀v:W,marks L t.cols v=[QR (L v)]:=λv=>by rw [g];simp [marks]
  rw [hk] at f h c ne;rw [hk] at ne;cases m:L a<;>cases j:L b<;>cases i:L w<;>simp_all
theorem ka(L:W->Bool)(ls:List UInt8):∃u,Bo L ls 13 Bu=some u/\u.cols=[[]]/\u.rows.length<=2:=by
 unfold Bo
 cases h:Bg L ls Bu with
 | none=>exact⟨Bu,rfl,rfl,by decide⟩
 | some w=>
  dsimp only;rw [if_neg (by decide)];unfold Bo;have hk:=(MP L ls).push h;have a:=cg (ls:=ls) (t:=⟨Bu.rows++[w],Bu.cols⟩) rfl (by simp [Bu]) hk.nd;rw [a];exact⟨_,rfl,rfl,by simp [Bu]⟩
theorem iG{te:EF}(h:CT te=true):∃u,Sm te=some u/\A5 (Fq te) (Ee te) u=true/\Bg (CD te) (A6 (Bb te)) u=none/\u.cols=[[]]/\u.rows.length<=2/\BX (CD te) (A6 (Bb te)) u/\0<=Bb te:=by
 obtain⟨u,e,c,g⟩:=ka (CD te) (A6 (Bb te));obtain⟨b,d,o,n,m,l,k⟩:=Oz (MP _ _) e;have ha:=HT h
 have f:0<=Bb te:=by unfold A7 at ha;simp only [d4,decide_eq_true_eq] at ha;omega
 refine⟨u,by unfold Sm;rw [if_pos h,e],?_,d,c,g,⟨b,GL d⟩,f⟩;rw [<-DC,h,nI];refine JI ha f b (by omega) (by rw [c];decide) (λw a=>?_) (λw a=>by rw [c] at a;simp at a;subst a;simp);obtain⟨i,hi,j⟩:=nB a;have:=b.short i w (by rw [d6 hi,j]);omega
theorem iF(te:EF):H0 (Fq te) (Ee te) Bu=Sm te:=by
 have h:=Tx te Bu;unfold H0;refine h.trans ?_;unfold Hj Sm;cases hk:CT te
 ·rfl
 ·have ha:=HT hk
  have c:0<=Bb te:=by unfold A7 at ha;simp only [d4,decide_eq_true_eq] at ha;omega
  have b:=JG (Bb te);rw [JI ha c (MP _ _) (by decide) (by decide) (λw a=>by have:=(b.onR w a).2;omega) (λw a=>by simp [Bu] at a;subst a;simp)];rfl
end Go.Am
namespace Go.Am
open Go Go.Proofs
set_option maxHeartbeats 1000000
attribute [local irreducible] AX Cb Lex Bh Aj Spec
variable {TB:Bz}
theorem YS(a b:List Int):Pure Tryz.prog TB 36 [Ak a,Ak b] (eB (decide (a=b))):=by
  refine eN Tryz.func36 rfl (by kernel_rfl) rfl ?_;intro Z c;refine Aj.bound 0 rfl λj=>?_;have j:=j (a.map Bq) .refl;rw [gt] at j;(repeat first|refine sN rfl ?_ |refine tA rfl ?_ |refine s2 rfl λ_ d=>?_ |refine aU rfl ?_ |refine Aa ?_);(refine aC rfl ?_ ?_<;>rintro⟨⟩)
  · (repeat first|refine tA rfl ?_ |refine aU rfl ?_ |refine Aa ?_)
    refine aR ⟨_,rfl,?_⟩
    have r:a≠b:=λh=>by subst h;(simp only[oZ] at *;omega)
    show E.o _=E.o _;congr;grind
  refine aK ?_
  have s:a.length=b.length:=by (simp only[oZ] at *;omega)
  (repeat first|refine tA rfl ?_ |refine aU rfl ?_ |refine Aa ?_);refine aB ?_;refine Aj.A2 (α:={k:Nat // k<=a.length/\a.take k=b.take k}) (λ⟨k,hk,e⟩=>[(0,Ak a),(1,Ak b),(5,eI .i64 k)]) (λ⟨k,hk,e⟩=>[]) 0 (λ⟨k,hk,e⟩=>a.length - k) (⟨0,by omega,by simp⟩) [] (DV c rfl rfl) (by (simp[cX,zC,c])) ?_;rintro⟨k,hk,e⟩;(try dsimp only);(repeat first|refine sN rfl ?_ |refine tA rfl ?_ |refine s2 rfl λ_ d=>?_ |refine aU rfl ?_ |refine Aa ?_)
  ((refine aC rfl ?_ ?_<;>rintro⟨⟩);all_goals try (simp at d;done))
  · have f:k < a.length:=by (simp only[oZ] at *;omega)
    obtain⟨x,n⟩:=get_some (l:=a) (k:=k) f;obtain⟨y,m⟩:=get_some (l:=b) (k:=k) (by omega);have q:=get_map (g:=Bq) n;have p:=get_map (g:=Bq) m;refine aK ?_;refine aS (aB ?_);(repeat first|refine aU rfl ?_);refine rG (Gj []) (by kernel_rfl) ?_;(repeat first|refine tA rfl ?_ |(refine s4 rfl ‹_› rfl ?_ ?_;omega) |refine s2 rfl λ_ d=>?_ |refine Aa ?_);(refine aC rfl ?_ ?_<;>rintro⟨⟩)
    all_goals first
      | ((repeat first|refine tA rfl ?_ |refine aU rfl ?_ |refine Aa ?_)
         refine aR ⟨_,rfl,?_⟩
         show E.o _=E.o _;congr;grind
         done)
      | (refine aK ?_
         (repeat first|(refine sA rfl ?_ ?_;first|exact tI|omega) |refine aU rfl ?_ |refine Aa ?_);refine⟨⟨k+1,by omega,by rw [d8,d8,n,m];grind⟩,by dsimp only;(omega),[],?_⟩
         simp[cX,zC,c])
  · refine aE ?_
    (repeat first|refine tA rfl ?_ |refine aU rfl ?_ |refine Aa ?_);refine aR ⟨_,rfl,?_⟩
    have i:a.length<=k:=by (simp only[oZ] at *;omega)
    rw [ge i,ge (by omega)] at e
    show E.o _=E.o _;congr;grind
theorem Vv(a b:List Bool):Pure Tryz.prog TB 35 [OE a,OE b] (eB (decide (a=b))):=by
  refine eN Tryz.func35 rfl (by kernel_rfl) rfl ?_;intro Z c;refine Aj.bound 0 rfl λj=>?_;have j:=j (a.map IQ) .refl;rw [gt] at j;(repeat first|refine sN rfl ?_ |refine tA rfl ?_ |refine s2 rfl λ_ d=>?_ |refine aU rfl ?_ |refine Aa ?_);(refine aC rfl ?_ ?_<;>rintro⟨⟩)
  · (repeat first|refine tA rfl ?_ |refine aU rfl ?_ |refine Aa ?_)
    refine aR ⟨_,rfl,?_⟩
    have r:a≠b:=λh=>by subst h;(simp only[oZ] at *;omega)
    show E.o _=E.o _;congr;grind
  refine aK ?_
  have s:a.length=b.length:=by (simp only[oZ] at *;omega)
  (repeat first|refine tA rfl ?_ |refine aU rfl ?_ |refine Aa ?_);refine aB ?_;refine Aj.A2 (α:={k:Nat // k<=a.length/\a.take k=b.take k}) (λ⟨k,hk,e⟩=>[(0,OE a),(1,OE b),(5,eI .i64 k)]) (λ⟨k,hk,e⟩=>[]) 0 (λ⟨k,hk,e⟩=>a.length - k) (⟨0,by omega,by simp⟩) [] (DV c rfl rfl) (by (simp[cX,zC,c])) ?_;rintro⟨k,hk,e⟩;(try dsimp only);(repeat first|refine sN rfl ?_ |refine tA rfl ?_ |refine s2 rfl λ_ d=>?_ |refine aU rfl ?_ |refine Aa ?_)
  ((refine aC rfl ?_ ?_<;>rintro⟨⟩);all_goals try (simp at d;done))
  · have f:k < a.length:=by (simp only[oZ] at *;omega)
    obtain⟨x,n⟩:=get_some (l:=a) (k:=k) f;obtain⟨y,m⟩:=get_some (l:=b) (k:=k) (by omega);have q:=get_map (g:=IQ) n;have p:=get_map (g:=IQ) m;refine aK ?_;refine aS (aB ?_);(repeat first|refine aU rfl ?_);refine rG (Gj []) (by kernel_rfl) ?_;(repeat first|refine tA rfl ?_ |(refine s4 rfl ‹_› rfl ?_ ?_;omega) |refine s2 rfl λ_ d=>?_ |refine Aa ?_);(refine aC rfl ?_ ?_<;>rintro⟨⟩)
    all_goals first
      | ((repeat first|refine tA rfl ?_ |refine aU rfl ?_ |refine Aa ?_)
         refine aR ⟨_,rfl,?_⟩
         show E.o _=E.o _;congr;grind
         done)
      | (refine aK ?_
         (repeat first|(refine sA rfl ?_ ?_;first|exact tI|omega) |refine aU rfl ?_ |refine Aa ?_);refine⟨⟨k+1,by omega,by rw [d8,d8,n,m];grind⟩,by dsimp only;(omega),[],?_⟩
         simp[cX,zC,c])
  · refine aE ?_
    (repeat first|refine tA rfl ?_ |refine aU rfl ?_ |refine Aa ?_);refine aR ⟨_,rfl,?_⟩
    have i:a.length<=k:=by (simp only[oZ] at *;omega)
    rw [ge i,ge (by omega)] at e
    show E.o _=E.o _;congr;grind
theorem PT(a b:AZ):Pure Tryz.prog TB 11 [Bi a,Bi b] (eB (decide (a.al=b.al/\a.nx=b.nx/\a.ac=b.ac))):=by
  have p:=Vv (TB:=TB) a.ac b.ac;refine eN Tryz.func11 rfl (by kernel_rfl) rfl ?_;intro Z d;refine Aj.bound 0 rfl λj=>?_;have j:=j (a.nx.map EL) ⟨1,_,rfl,.refl⟩;rw [gt] at j;(repeat first|refine tA rfl ?_ |refine s2 rfl λ_ c=>?_ |(refine sC rfl (p) ?_;intro _ c) |refine s3 rfl ?_ ?_<;>rintro rfl |refine aU rfl ?_ |refine Aa ?_);(repeat' first|refine sN rfl ?_ |refine tA rfl ?_ |refine s2 rfl λ_ c=>?_ |(refine sC rfl (p) ?_;intro _ c) |refine s3 rfl ?_ ?_<;>rintro rfl |refine aU rfl ?_ |refine Aa ?_|(refine aC rfl ?_ ?_<;>rintro⟨⟩))
  all_goals first
    | (refine aR ⟨_,rfl,?_⟩
       show E.o _=E.o _;congr;grind
       done)
    | skip
  · rename_i t bb e
    have u:a.ac=b.ac:=by simp at c;rw [c] at e;exact of_decide_eq_true e
    have hal:a.al=b.al:=by simpa using ‹decide (a.al≠b.al)=false›
    have s:a.nx.length=b.nx.length:=by (simp only[oZ] at *;omega)
    refine aK ?_;(repeat first|refine tA rfl ?_ |refine aU rfl ?_ |refine Aa ?_);refine aB ?_;refine Aj.A2 (α:={k:Nat // k<=a.nx.length/\a.nx.take k=b.nx.take k}) (λ⟨k,hk,f⟩=>[(2,.o (.ip (AL a))),(3,.o (.ip (AL b))),(5,eI .i64 k)]) (λ⟨k,hk,f⟩=>[]) 0 (λ⟨k,hk,f⟩=>a.nx.length - k) (⟨0,by omega,by simp⟩) [] (DV d rfl rfl) (by (simp[cX,zC,d])) ?_;rintro⟨k,hk,f⟩;(try dsimp only);(repeat first|refine sN rfl ?_ |refine tA rfl ?_ |refine s2 rfl λ_ c=>?_ |refine aU rfl ?_ |refine Aa ?_)
    ((refine aC rfl ?_ ?_<;>rintro⟨⟩);all_goals try (simp at c;done))
    · have h:k < a.nx.length:=by (simp only[oZ] at *;omega)
      obtain⟨x,n⟩:=get_some (l:=a.nx) (k:=k) h;obtain⟨y,m⟩:=get_some (l:=b.nx) (k:=k) (by omega);have r:=get_map (g:=EL) n;have q:=get_map (g:=EL) m;have v:=YS (TB:=TB) x y;refine aK ?_;refine aS (aB ?_);(repeat first|refine aU rfl ?_);refine rG (Gj []) (by kernel_rfl) ?_;(repeat first|refine tA rfl ?_ |(refine s4 rfl ‹_› rfl ?_ ?_;omega) |refine s2 rfl λ_ c=>?_ |(refine sC rfl (v) ?_;intro _ c) |refine Aa ?_);(refine aC rfl ?_ ?_<;>rintro⟨⟩)
      all_goals first
        | ((repeat first|refine tA rfl ?_ |refine aU rfl ?_ |refine Aa ?_)
           refine aR ⟨_,rfl,?_⟩
           show E.o _=E.o _;congr;grind
           done)
        | (refine aK ?_
           (repeat first|(refine sA rfl ?_ ?_;first|exact tI|omega) |refine aU rfl ?_ |refine Aa ?_);refine⟨⟨k+1,by omega,by rw [d8,d8,n,m];grind⟩,by dsimp only;(omega),[],?_⟩
           simp[cX,zC,d])
    · refine aE ?_
      (repeat first|refine tA rfl ?_ |refine aU rfl ?_ |refine Aa ?_);refine aR ⟨_,rfl,?_⟩
      have i:a.nx.length<=k:=by (simp only[oZ] at *;omega)
      rw [ge i,ge (by omega)] at f
      show E.o _=E.o _;congr;grind
end Go.Am
namespace Go.Am
open Go
set_option linter.unusedVariables false
end Go.Am
namespace Go.Am
open Go Go.Proofs
set_option maxHeartbeats 1000000
attribute [local irreducible] AX Cb Lex Bh Aj Spec
variable {tabs:List (Nat×Obj)}
theorem gX(te:EF)(x:A0):(if BD (Fq te) (Ee te) x then some (AY (Fq te) (Ee te) x) else none)=YU te x:=by
 rw [Di];cases b:A5 (Fq te) (Ee te) x
 ·rw [pp,if_neg oc]
  unfold YU;rw [Di,<-Bool.and_assoc,DC,b];rfl
 ·obtain⟨a,e,d,c,f⟩:=Ds b
  rw [e,ME (HS a) c.bd (by omega),Ts (HS a) c.bd (by omega),nI];unfold YU;rw [Di,a,d,nI,nI]
end Go.Am
namespace Go.Am
open Go Go.Proofs
set_option maxHeartbeats 1000000
attribute [local irreducible] AX Cb Lex Bh Aj Spec
variable {TB:Bz}
noncomputable def Me(te:EF)(x:A0)(w:W):Option A0:=if (CT te && A5 (CD te) (Bb te) x && Gf (Bb te) w)=true then Fy x w else none
theorem gL(te:EF)(x:A0)(w:W):Oo (Fq te) (Ee te) x w=Me te x w:=by
 unfold Oo Me;rw [DC];cases a:A5 (Fq te) (Ee te) x
 ·rw [pp,pp]
 ·rw [(Ds a).2.1]
section
variable {tabs:List (Nat×Obj)}[hTb:Dt ⟨tabs,none⟩]{te:EF}
include hTb
end
end Go.Am
namespace Go.Am
open Go Go.Proofs
set_option maxHeartbeats 1000000
attribute [local irreducible] AX Cb Lex Bh Aj Spec
variable {tabs:List (Nat×Obj)}
theorem eO{al:Int}{w:W}(h:Gf al w=true):AT (A6 al) w/\w.length<=4000:=by
 unfold Gf at h;rw [d4,decide_eq_true_eq] at h;exact⟨Ex h.1,h.2⟩
theorem Wu{L:W->Bool}{cols:List W}{c w:W}:marks L (cols++[c]) w=marks L cols w++[QR (L (w++c))]:=by simp [marks]
theorem Vu{te:EF}{x u:A0}{w:W}(h:Me te x w=some u):A5 (Fq te) (Ee te) x=true/\AT (A6 (Bb te)) w/\w.length<=4000/\u=⟨x.rows,x.cols++[w]⟩/\A5 (Fq te) (Ee te) u=true/\Me te u w=none:=by
 unfold Me at h;by_cases d:(CT te && A5 (CD te) (Bb te) x && Gf (Bb te) w)=true
 ·rw [if_pos d] at h
  rw [DC,d4] at d;obtain⟨g,o⟩:=d;obtain⟨m,l⟩:=eO o;obtain⟨k,t,s,f,j⟩:=Ds g;unfold Fy at h;split at h
  ·cases h
  rename_i i
  injection h with h
  subst h;rw [not_or] at i;have hk:=Iw s;have p:=f.cl;have q:=f.c1;refine⟨g,m,l,rfl,?_,?_⟩
  ·rw [<-DC,k,nI]
   refine JI (HT k) f.pos ⟨hk.r0,by rw [f7 (by omega)];exact hk.c0,hk.pre,hk.onR,λc d=>?_,?_,?_⟩ f.rl (by simp;omega) (λr n=>(f.rw r n).1) (λc d=>?_)
   ·rcases em.1 d with d|d
    ·exact hk.onC c d
    ·simp at d;subst d;exact m
   ·have e:(AJ (CD te) ⟨x.rows,x.cols++[w]⟩).map List.dropLast=AJ (CD te) x:=by
     unfold AJ;rw [n7]
     exact o6 λr _=>by simp [d5,Wu]
    rw [<-e] at j;exact(oY.1 j).imp λh e=>h (by rw [e])
   ·exact o3.2 ⟨hk.ndC,by simp,λa ha b hb=>by simp at hb;subst hb;exact λe=>i.2 (e ▸ ha)⟩
   ·rcases em.1 d with d|d
    ·exact(f.cw c d).1
    ·simp at d;subst d;exact l
  ·unfold Me Fy
   split
   ·rw [if_pos (.inr (by simp))]
   ·rfl
 ·rw [if_neg d] at h;cases h
end Go.Am
namespace Go.Am
open Go Go.Proofs
set_option maxHeartbeats 1000000
attribute [local irreducible] AX Cb Lex Bh Aj Spec
variable {TB:Bz}
noncomputable def GQ(te:EF)(x:A0)(w:W):Option W:=if (CT te && BD (CD te) (Bb te) x && Gf (Bb te) w)=true then CJ (CD te) x w else none
noncomputable def LB(te:EF)(x:A0)(w:W):Option A0:=if (CT te && BD (CD te) (Bb te) x && Gf (Bb te) w)=true then GR (CD te) (A6 (Bb te)) x w else none
section
variable {tabs:List (Nat×Obj)}[hTb:Dt ⟨tabs,none⟩]{te:EF}
include hTb
end
end Go.Am
namespace Go.Am
open Go Go.Proofs
set_option maxHeartbeats 1000000
attribute [local irreducible] AX Cb Lex Bh Aj Spec
theorem bk(te:EF)(x:A0):BD (Fq te) (Ee te) x=(CT te && BD (CD te) (Bb te) x):=by
 rw [Di,Di,<-Bool.and_assoc,DC];cases a:A5 (Fq te) (Ee te) x
 ·rw [pp,pp]
 ·obtain⟨d,c,f,b,e⟩:=Ds a
  rw [c,ME (HS d) b.bd (by omega)]
theorem OA{te:EF}{x:A0}(h:(CT te && BD (CD te) (Bb te) x)=true):A5 (Fq te) (Ee te) x=true/\Bg (CD te) (A6 (Bb te)) x=none/\BX (CD te) (A6 (Bb te)) x:=by
 rw [d4] at h;obtain⟨c,b,a⟩:=Mi h.2;exact⟨by rw [<-DC,h.1,c];rfl,b,a⟩
theorem dA(te:EF)(x:A0)(w:W):Fo (Fq te) (Ee te) x w=GQ te x w:=by
 unfold Fo GQ;rw [bk];cases d:(CT te && BD (CD te) (Bb te) x)
 ·rw [pp,pp,if_neg oc,if_neg oc]
 ·obtain⟨c,i,b⟩:=OA d
  obtain⟨g,f,k,e,j⟩:=Ds c;rw [f,nI];by_cases a:Gf (Bb te) w=true
  ·obtain⟨h,l,_⟩:=OR a
   rw [if_pos a,if_pos a,WS (HS g) e.bd (by omega) b h (by omega)]
  ·rw [if_neg a,if_neg a]
theorem UO{te:EF}{x:A0}{w v:W}(h:GQ te x w=some v):(CT te && BD (CD te) (Bb te) x)=true/\AT (A6 (Bb te)) w/\w.length<=4000/\NG (CD te) x w≠CD te w/\splitAt (CD te) x (CD te w) 0 w=some v/\Split (CD te) (A6 (Bb te)) x w v:=by
 unfold GQ at h;by_cases a:(CT te && BD (CD te) (Bb te) x && Gf (Bb te) w)=true
 ·rw [if_pos a] at h
  rw [d4] at a;obtain⟨a,f⟩:=a;obtain⟨i,j,b⟩:=OA a;obtain⟨c,g,_⟩:=OR f;unfold CJ at h;by_cases ha:NG (CD te) x w=CD te w
  ·rw [if_pos ha] at h;cases h
  ·rw [if_neg ha] at h
   obtain⟨v',e,d⟩:=UQ b (CD te w) w 0 [] c b.r0 rfl ha;rw [e] at h
   injection h with h;subst h
   exact⟨a,c,g,ha,e,d⟩
 ·rw [if_neg a] at h;cases h
theorem US(te:EF)(x:A0)(w:W):LB te x w=(GQ te x w).bind λv=>(Me te x v).bind λu=>Hj te u:=by
 unfold LB
 cases a:GQ te x w with
 | none=>
  unfold GQ at a;split
  ·rename_i b
   rw [if_pos b] at a;unfold GR;rw [a];rfl
  ·rfl
 | some v=>
  obtain⟨b,s,l,ha,e,g⟩:=UO a
  have i:(CT te && BD (CD te) (Bb te) x && Gf (Bb te) w)=true:=by
   unfold GQ at a;split at a
   ·assumption
   ·cases a
  rw [if_pos i];obtain⟨j,A,q⟩:=OA b;obtain⟨r,H,G,F,B⟩:=Ds j;unfold GR CJ;rw [if_neg ha,e]
  show (Fy x v).bind _=(Me te x v).bind _
  obtain⟨p,_,k⟩:=g.suf;have h:Gf (Bb te) v=true:=XJ (HT r) (λc b=>s c (by rw [k];simp [b])) (by rw [k] at l;simp at l;omega)
  have d:Me te x v=Fy x v:=by unfold Me;rw [DC,j,h];rfl
  rw [d]
  cases o:Fy x v with
  | none=>rfl
  | some u=>
   obtain⟨_,_,_,_,f,_⟩:=Vu (d.trans o);obtain⟨n,z,m,y,t⟩:=Ds f
   show Bo _ _ 13 u=Hj te u
   unfold Hj;rw [n,m];rfl
theorem fM(te:EF)(x:A0)(w:W):LC (Fq te) (Ee te) x w=LB te x w:=by
 rw [US];unfold LC;rw [dA];congr 1;funext v;rw [gL];congr 1;funext u;exact Tx te u
theorem UR{te:EF}{x u:A0}{w v:W}(h:GQ te x w=some v)(ha:Me te x v=some u):Bg (CD te) (A6 (Bb te)) u≠none:=by
 obtain⟨i,k,j,g,e,a⟩:=UO h;obtain⟨_,_,_,rfl,_,_⟩:=Vu ha;obtain⟨r,d,c,b,f⟩:=a.opens;exact fk (t:=⟨x.rows,x.cols++[v]⟩) d b f
theorem jc{te:EF}{x y:A0}{w:W}(h:LB te x w=some y):(GQ te x w).isSome=true/\A5 (Fq te) (Ee te) x=true/\A5 (Fq te) (Ee te) y=true/\Bg (CD te) (A6 (Bb te)) y=none/\x.rows <+: y.rows/\x.rows.length < y.rows.length/\∃v,y.cols=x.cols++[v]:=by
 rw [US] at h
 cases b:GQ te x w with
 | none=>rw [b] at h;cases h
 | some v=>
  rw [b] at h;have h:(Me te x v).bind (λu=>Hj te u)=some y:=h
  cases ha:Me te x v with
  | none=>rw [ha] at h;cases h
  | some u=>
   rw [ha] at h;have h:Hj te u=some y:=h;have c:=UR b ha;obtain⟨j,_,_,rfl,a,_⟩:=Vu ha;obtain⟨i,g,f,e,d,k⟩:=en a h;exact⟨rfl,j,i,g,f,d c,v,e⟩
abbrev IK:AZ:=⟨0,[],[]⟩
abbrev Ew(s:Sys)(p:AZ)(al:Int):EF:=⟨false,IK,s,p,al⟩
noncomputable def Gg(s t:Sys)(p:AZ)(al:Int)(a:AZ):Option (W×Bool):=match DD s a p with
 | some u=>some (Dp (BP al u),true)
 | none=>match BQ [t] a with
  | some v=>some (Dp (BP al v),false)
  | none=>none
noncomputable def BR(s:Sys)(p:AZ)(al:Int)(x:A0):AZ:=AY (LS ⟨s,p,al⟩) al x
noncomputable def HG(s t:Sys)(p:AZ)(al:Int)(x:A0):Option A0:=match Gg s t p al (BR s p al x) with
 | some (w,b)=>if (b || LS ⟨s,p,al⟩ w)=true then LB (Ew s p al) x w else none
 | none=>none
noncomputable def EC(s t:Sys)(p:AZ)(al:Int):Nat->A0->List A0
 | 0,x=>[x]
 | k+1,x=>x::match HG s t p al x with
  | some y=>EC s t p al k y
  | none=>[]
structure Vd where
 code:Int
 a:AZ
 tr:W
 rd:Int
noncomputable def OX(s t:Sys)(p:AZ)(al:Int)(x:A0)(r:Nat):Vd:=match Gg s t p al (BR s p al x) with
 | none=>⟨0,BR s p al x,[],r⟩
 | some (w,b)=>if (b || LS ⟨s,p,al⟩ w)=true then ⟨2,IK,[],r⟩ else ⟨1,IK,NH (BQ [s,t] p),r⟩
noncomputable def fR(s:Sys)(p:AZ)(al:Int):A0:=(Sm (Ew s p al)).getD Bu
noncomputable def BV(s t:Sys)(p:AZ)(al:Int):List A0:=EC s t p al 11 (fR s p al)
noncomputable def Cp(s t:Sys)(p:AZ):Vd:=if Br s p t < 0 then ⟨3,IK,[],0⟩ else
 OX s t p (Br s p t) ((BV s t p (Br s p t)).getLastD Bu) (BV s t p (Br s p t)).length
structure Hi (s:Sys) (p:AZ) (al:Int) (x:A0) (r:Nat):Prop where
 v:A5 (Fq (Ew s p al)) (Ee (Ew s p al)) x=true
 o:Bg (LS ⟨s,p,al⟩) (A6 al) x=none
 rows:r<=x.rows.length
 cols:x.cols.length=r
theorem Ny(s:Sys)(p:AZ)(al:Int):CD (Ew s p al)=LS ⟨s,p,al⟩:=by
 funext w;unfold CD;rw [if_neg oc]
theorem Ft(s:Sys)(p:AZ)(al:Int):Bb (Ew s p al)=al:=by
 unfold Bb;rw [if_neg oc]
theorem SQ{s:Sys}{p:AZ}{al:Int}(h:Bc ⟨s,p,al⟩=true):Sm (Ew s p al)=some (fR s p al)/\Hi s p al (fR s p al) 1:=by
 have hk:CT (Ew s p al)=true:=by unfold CT;rw [if_neg oc];exact h
 obtain⟨u,e,d,a,c,g,b,f⟩:=iG hk;unfold fR;rw [e];refine⟨rfl,d,?_,?_,by show u.cols.length=1;rw [c];rfl⟩
 ·rw [Ny,Ft] at a;exact a
 ·show 1<=u.rows.length
  have:=(ce.1 b.r0).1;omega
theorem Wy{s t:Sys}{p:AZ}{al:Int}{x y:A0}{r:Nat}(a:Hi s p al x r)(h:HG s t p al x=some y):Hi s p al y (r+1)/\x.rows.length < y.rows.length:=by
 unfold HG at h;split at h
 ·split at h
  ·obtain⟨_,_,e,b,_,d,v,c⟩:=jc h
   have f:=a.rows;have g:=a.cols;rw [Ny,Ft] at b;exact⟨⟨e,b,by omega,by rw [c];simp;omega⟩,d⟩
  ·cases h
 ·cases h
theorem UU{s:Sys}{p:AZ}{al:Int}{x:A0}{r:Nat}(b:Hi s p al x r):x.rows.length<=12/\r<=12:=by
 obtain⟨_,_,_,a,_⟩:=Ds b.v;have:=a.rl;have:=b.rows;omega
theorem PB{s t:Sys}{p:AZ}{al:Int}:∀(k:Nat) {x:A0} {r:Nat},Hi s p al x r->∀(i:Nat) (y:A0),(EC s t p al k x)[i]? = some y->Hi s p al y (r+i)
 | 0,x,r,a,i,y,h=>by
  cases i with
  | zero=>simp [EC] at h;subst h;exact a
  | succ i=>simp [EC] at h
 | k + 1,x,r,a,i,y,h=>by
  cases i with
  | zero=>simp [EC] at h;subst h;exact a
  | succ i=>
   simp only [EC,qc] at h
   cases b:HG s t p al x with
   | none=>rw [b] at h;simp at h
   | some z=>
    rw [b] at h;have:=PB k (Wy a b).1 i y h;rwa [show r+1+i=r+(i+1) by omega] at this
theorem dE{s t:Sys}{p:AZ}{al:Int}(k:Nat)(x:A0):EC s t p al k x≠[]:=by cases k<;>simp [EC]
theorem PA{s t:Sys}{p:AZ}{al:Int}:∀(k:Nat) {x:A0} {r:Nat},Hi s p al x r->12<=k+r->∀(i:Nat) (y:A0),(EC s t p al k x)[i]? = some y->(EC s t p al k x)[i+1]? = HG s t p al y
 | 0, x,r,b,hk,i,y,h=>by
  cases i with
  | zero=>
   simp [EC] at h;subst h
   cases a:HG s t p al x with
   | none=>simp [EC]
   | some z=>
    have:=UU (Wy b a).1;omega
  | succ i=>simp [EC] at h
 | k + 1,x,r,b,hk,i,y,h=>by
  simp only [EC] at h |-
  cases a:HG s t p al x with
  | none=>
   rw [a] at h
   cases i with
   | zero=>simp at h;subst h;simp [a]
   | succ i=>simp at h
  | some z=>
   rw [a] at h
   cases i with
   | zero=>
    simp at h;subst h;rw [a];cases k<;>simp [EC]
   | succ i=>
    simp only [qc] at h |-;exact PA k (Wy b a).1 (by omega) i y h
section
variable {s t:Sys}{p:AZ}{al:Int}(hI:EY s p t al)
include hI
theorem run_get{i:Nat}{x:A0}(h:(BV s t p al)[i]? = some x):Hi s p al x (i+1)/\(BV s t p al)[i+1]? = HG s t p al x:=by
 obtain⟨_,b⟩:=SQ (Ge hI);have a:=PB 11 b i x h;rw [p8] at a;exact⟨a,PA 11 b (by omega) i x h⟩
theorem JD:1<=(BV s t p al).length/\(BV s t p al).length<=12:=by
 have a:BV s t p al≠[]:=dE 11 _;have c:1<=(BV s t p al).length:=qz.2 a;obtain⟨x,b⟩:=get_some (l:=BV s t p al) (k:=(BV s t p al).length - 1) (by omega);have:=(UU (run_get hI b).1).2;omega
theorem dm:∃x,(BV s t p al).getLastD Bu=x/\Hi s p al x (BV s t p al).length/\HG s t p al x=none:=by
 have d:=JD hI;obtain⟨x,a⟩:=get_some (l:=BV s t p al) (k:=(BV s t p al).length - 1) (by omega);obtain⟨c,b⟩:=run_get hI a;rw [show (BV s t p al).length - 1+1=(BV s t p al).length by omega] at c b;refine⟨x,?_,c,?_⟩
 ·rw [List.getLastD_eq_getLast?,List.getLast?_eq_getElem?,a];rfl
 ·rw [<-b];simp
theorem TT:¬Br s p t < 0:=by
 have:=QH hI;rw [hI.hal] at this;unfold A7 at this;simp only [decide_eq_true_eq] at this;omega
theorem Mf{x:A0}{r:Nat}(c:Hi s p al x r):AP (BR s p al x)=true/\(BR s p al x).al=al/\(BR s p al x).nx.length=x.rows.length/\BX (LS ⟨s,p,al⟩) (A6 al) x:=by
 obtain⟨_,_,d,b,_⟩:=Ds c.v;have hk:=Iw d;rw [Ny,Ft] at hk
 have a:BX (LS ⟨s,p,al⟩) (A6 al) x:=⟨hk,GL c.o⟩
 exact⟨NU (QH hI) a b.rl,rfl,by simp [BR,AY],a⟩
theorem Z0{x:A0}{r:Nat}(b:Hi s p al x r):CY s (BR s p al x) p=true/\(A1 [t] && AP (BR s p al x))=true:=by
 obtain⟨a,_⟩:=Mf hI b;exact⟨by unfold CY;rw [hI.hs,a,hI.hp];rfl,by rw [HI,hI.ht,a];rfl⟩
theorem Zc{x:A0}{r:Nat}(a:Hi s p al x r):(Gg s t p al (BR s p al x)=none↔Ib s t p (BR s p al x)=0)/\(Ib s t p (BR s p al x)=0\/Ib s t p (BR s p al x)=3\/Ib s t p (BR s p al x)=4):=by
 obtain⟨f,e,_⟩:=Mf hI a;obtain⟨c,b⟩:=Z0 hI a;have d:=TT hI
 have hal:(BR s p al x).al=Br s p t:=by rw [e,hI.hal]
 unfold Ib;rw [if_neg (not_or.2 ⟨d,by rw [f];simp⟩),if_neg (λh=>h hal)];unfold Gg Mu Ep;rw [c,b,nI,nI]
 cases DD s (BR s p al x) p with
 | some u=>simp
 | none=>
  cases BQ [t] (BR s p al x) with
  | some v=>simp
  | none=>simp
theorem jk:∃x,Hi s p al x (BV s t p al).length/\HG s t p al x=none/\Cp s t p=OX s t p al x (BV s t p al).length:=by
 obtain⟨x,c,b,a⟩:=dm hI;refine⟨x,b,a,?_⟩;unfold Cp;rw [if_neg (TT hI),<-hI.hal,c]
theorem MT:∃x,Hi s p al x (BV s t p al).length/\HG s t p al x=none/\
    ((Cp s t p=⟨0,BR s p al x,[],(BV s t p al).length⟩/\Ib s t p (BR s p al x)=0)\/
     (Cp s t p=⟨2,IK,[],(BV s t p al).length⟩/\∃w b,Gg s t p al (BR s p al x)=some (w,b)/\(b || LS ⟨s,p,al⟩ w)=true/\LB (Ew s p al) x w=none)\/
     (Cp s t p=⟨1,IK,NH (BQ [s,t] p),(BV s t p al).length⟩/\Ep [s,t] p=false/\(BQ [s,t] p).isSome=true)):=by
  obtain⟨x,e,c,i⟩:=jk hI;refine⟨x,e,c,?_⟩;rw [i];unfold OX;have h:=Zc hI e;unfold HG at c
  cases a:Gg s t p al (BR s p al x) with
  | none=>exact .inl ⟨rfl,h.1.1 a⟩
  | some wb=>
    obtain⟨w,b⟩:=wb;rw [a] at c;simp only at c |-;by_cases hb:(b || LS ⟨s,p,al⟩ w)=true
    · rw [if_pos hb] at c |-
      exact .inr (.inl ⟨rfl,w,b,rfl,hb,c⟩)
    · rw [if_neg hb]
      refine .inr (.inr ⟨rfl,?_⟩)
      have hb:b=false/\LS ⟨s,p,al⟩ w=false:=by simpa using hb
      unfold Gg at a;split at a
      · injection a with a;injection a with _ a;rw [hb.1] at a;cases a
      · split at a
        · rename_i v f
          injection a with a;injection a with a _
          subst a;obtain⟨n,m,k,j,l⟩:=GY f;have hk:=SV hI k j hb.2;refine⟨hk,?_⟩;unfold Ep at hk
          have d:(A1 [s,t] && AP p)=true:=by rw [Jz,hI.hs,hI.ht,hI.hp];rfl
          rw [d,nI] at hk
          cases g:BQ [s,t] p with
          | none=>rw [g] at hk;cases hk
          | some _=>rfl
        · cases a
end
theorem Rx{s:Sys}{a p:AZ}{w:List Int}(h:DD s a p=some w):w.length<=2304:=by
 obtain⟨b,_⟩:=KB h;unfold DD at h;rw [if_pos b] at h;obtain⟨c,hk,d⟩:=N8 b;have hi:=Dx (Eh (DT s a p));rw [h] at hi;have e:=hi.short (OL c d);have f:(Eh (DT s a p)).N=(s.st*((a.nx.length:Int)*((p.nx.length:Int)*1))).toNat:=rfl;unfold CY at b;simp only [d4] at b;have l:=AN b.1.1;have k:=AH b.1.2;have j:=AH b.2;have i:(a.nx.length:Int)*((p.nx.length:Int)*1)<=12*12:=nN (by omega) (by omega) (by omega) (by omega)
 have g:s.st*((a.nx.length:Int)*((p.nx.length:Int)*1))<=16*144:=nN (by omega) (by omega) (by
  have:0<=(a.nx.length:Int)*((p.nx.length:Int)*1):=nQ (by omega) (by omega)
  exact this) (by omega)
 omega
theorem Rw{t:Sys}{a:AZ}{w:List Int}(h:BQ [t] a=some w):w.length<=192:=by
 obtain⟨d,c,_⟩:=GY h
 have b:(A1 [t] && AP a)=true:=by rw [HI,d,c];rfl
 unfold BQ at h;rw [if_pos b] at h;obtain⟨e,hk,f⟩:=N7 b;have hi:=Dx (Eh (CX [t] a));rw [h] at hi;have g:=hi.short (OL e f);have i:(Eh (CX [t] a)).N=(t.st*((a.nx.length:Int)*1)).toNat:=rfl;have l:=AN d;have k:=AH c;have j:t.st*((a.nx.length:Int)*1)<=16*12:=nN (by omega) (by omega) (by omega) (by omega);omega
theorem Vi(al:Int)(u:List Int):(Dp (BP al u)).length<=u.length:=by
 unfold Dp BP;rw [gt];exact oP _ _
theorem Og{s t:Sys}{p a:AZ}{al:Int}{w:W}{b:Bool}(h:Gg s t p al a=some (w,b)):w.length<=4000:=by
 unfold Gg at h;split at h
 ·rename_i u d
  injection h with h;injection h with h e
  have:=Rx d;have:=Vi al u;rw [<-h];omega
 ·split at h
  ·rename_i v c
   injection h with h;injection h with h e
   have:=Rw c;have:=Vi al v;rw [<-h];omega
  ·cases h
section
variable {s t:Sys}{p:AZ}{al:Int}(hI:EY s p t al)
include hI
theorem dJ:CT (Ew s p al)=true:=by unfold CT;rw [if_neg oc];exact Ge hI
end
def II(al:Int)(w:W):W:=w.filter (Ig al)
theorem bG{al l:Int}(h:0<=l/\l < 6):Ig al (UInt8.ofNat (97+l.toNat))=AV al l.toNat:=by
 have a:(UInt8.ofNat (97+l.toNat)).toNat=97+l.toNat:=by simp;omega
 have c:=TU al (UInt8.ofNat (97+l.toNat))
 have b:Gc (UInt8.ofNat (97+l.toNat))=true:=by rw [FA,a,decide_eq_true_eq];omega
 rw [<-c,if_pos b,a];unfold hasB;rw [show ((97+l.toNat:Nat):Int) - 97=l by omega,decide_eq_true h.1];rfl
theorem Pl{al:Int}:∀ {u:List Int},Hl u->II al (Dp u)=Dp (BP al u)
 | [],_=>rfl
 | l::u,b=>by
  have a:=Pl (al:=al) (u:=u) (λx c=>b x (by simp [c]));have d:=bG (al:=al) (b l (by simp));unfold II Dp BP at *;rw [oH,pR,pR,d];cases AV al l.toNat
  ·simpa using a
  ·simpa using a
theorem Uz(al:Int)(w:W):(II al w).length<=w.length:=oP _ _
theorem Rq{al:Int}{w:W}{k:Nat}{c:UInt8}(a:w[k]? = some c):II al (w.take (k+1))=if Ig al c then II al (w.take k)++[c] else II al (w.take k):=by
 unfold II;rw [d8,a,Option.toList_some,oq];cases h:Ig al c<;>simp [h]
theorem ae{s:Sys}{a p:AZ}{u:List Int}(h:DD s a p=some u):Hl u/\(Dp u).length<=2304:=by
 obtain⟨_,b,_⟩:=KB h;exact⟨GK b,by unfold Dp;rw [gt];exact Rx h⟩
theorem ab{t:Sys}{a:AZ}{u:List Int}(h:BQ [t] a=some u):Hl u/\(Dp u).length<=192:=by
 obtain⟨_,_,b,_⟩:=GY h;exact⟨GK b,by unfold Dp;rw [gt];exact Rw h⟩
theorem PL{u:List Int}(d:Hl u)(a:(Dp u).length<=50000):Ey (Dp u)=true:=by
 unfold Ey;rw [decide_eq_true a,nI,f9];intro c b;unfold Dp at b;obtain⟨l,a,rfl⟩:=d9.1 b;have:=d l a;rw [FA,decide_eq_true_eq]
 have e:(UInt8.ofNat (97+l.toNat)).toNat=97+l.toNat:=by simp;omega
 rw [e];omega
end Go.Am
namespace Go.Am
open Go Go.Proofs
set_option maxHeartbeats 1000000
attribute [local irreducible] AX Cb Lex Bh Aj Spec
variable {TB:Bz}
theorem Ns(w:W)(al:Int)(p:w.length<=1048576):Pure Tryz.prog TB 64 [eT w,eI .i64 al] (eT (II al w)):=by
 refine eG Tryz.func64 rfl (by kernel_rfl) rfl ?_;intro Z d;(repeat first|refine tM rfl ?_ |refine aU rfl ?_ |refine Aa ?_);(refine pW rfl ?_ rfl (by rfl);refine Hc 1 5 ?_);(repeat first|refine tM rfl ?_ |refine aU rfl ?_ |refine Aa ?_);refine aB ?_;refine aL (α:={k:Nat // k<=w.length}) [0,1,8] [] rfl rfl (λ⟨k,hk⟩=>[(5,.o (.arr 0 1 0 (II al (w.take k)).length)),(9,eI .i64 k)]) (λ⟨k,hk⟩=>[(0,.cells 5 1 ((II al (w.take k)).map Fz))]) 1 (λ⟨k,hk⟩=>w.length - k) (⟨0,by omega⟩) d rfl (by (repeat' first|exact tI|rfl|refine And.intro ?_ ?_)) ?_;rintro⟨k,hk⟩;(try dsimp only[cA,cB]);by_cases i:k < w.length
 ·obtain⟨c,n⟩:=get_some i
  have j:w[((k:Nat):Int).toNat]? = some c:=by simpa using n
  have e:=Sd (TB:=TB) w k c j;have a:=Ms (TB:=TB) al (if Gc c then (c.toNat:Int) - 97 else -1);rw [TU] at a;generalize (if Gc c then (c.toNat:Int) - 97 else -1:Int)=l at e a;have b:=Rq (al:=al) n;have h:=Uz al (w.take k);rw [oO] at h;(repeat first|refine s2 rfl λ_ f=>?_ |refine aU rfl ?_ |refine Aa ?_)
  ((refine aC rfl ?_ ?_<;>rintro⟨⟩);all_goals try(exfalso;(simp only[oZ] at *;omega)))
  refine aK ?_;refine aS (aB ?_);cases g:Ig al c
  ·rw [g] at a b
   (repeat first|refine tA rfl ?_ |refine sP rfl (e) rfl ?_|refine sP rfl (a) rfl ?_ |refine aU rfl ?_ |refine Aa ?_)
   ((refine aC rfl ?_ ?_<;>rintro⟨⟩);all_goals try (simp at f;done))
   refine aK ?_;(repeat first|(refine sA rfl ?_ ?_;first|exact tI|omega) |refine aU rfl ?_ |refine Aa ?_);refine⟨⟨k+1,by omega⟩,by dsimp only;(omega),[0],?_⟩;simp[cX,zC,d,b,Fz,FN]
  ·rw [g] at a b
   (repeat first|refine tA rfl ?_ |refine sP rfl (e) rfl ?_|refine sP rfl (a) rfl ?_ |refine aU rfl ?_ |refine Aa ?_)
   ((refine aC rfl ?_ ?_<;>rintro⟨⟩);all_goals try (simp at f;done))
   (repeat first|refine tA rfl ?_ |(refine s4 rfl ‹_› rfl ?_ ?_;omega) |refine aU rfl ?_);(refine pW rfl ?_ rfl (by rfl);refine Al rfl rfl rfl (by first| (simp;done)|(simp;(omega))) rfl (by intro r m;simp at m;subst m;rfl) (by rfl) (am rfl) (by simp;omega) ?_);(repeat first|(refine sX rfl ?_ ?_;first|exact tI|omega) |refine aU rfl ?_ |refine Aa ?_);refine⟨⟨k+1,by omega⟩,by dsimp only;(omega),[1],?_⟩;simp[cX,zC,d,b,FN,Fz,nY]
 ·obtain rfl:k=w.length:=by omega
  rw [io] at *;(repeat first|refine s2 rfl λ_ f=>?_ |refine aU rfl ?_ |refine Aa ?_)
  ((refine aC rfl ?_ ?_<;>rintro⟨⟩);all_goals try(exfalso;(simp only[oZ] at *;omega)))
  refine aE ?_;(repeat first|refine tM rfl ?_|(refine Ag rfl ?_;refine gA rfl ?_;first| refine gQ (Of (II al w) rfl rfl (by simp) (by first| rw [nX,ge (by simp)]|rw [nX,SF,ge (by simp)])) (by rfl) ?_) |refine aU rfl ?_ |refine Aa ?_);(subst_vars;exact aR ⟨_,rfl,rfl⟩)
theorem IF[Dt TB](s:Sys)(p:AZ):Pure Tryz.prog TB 63 [Bv s,Bi p] (KX (BQ [s] p)):=by
 refine eN Tryz.func63 rfl (by kernel_rfl) rfl ?_;intro Z a;(repeat' first|refine tA rfl ?_ |refine sP rfl (E8 [s] p) rfl ?_ |refine aU rfl ?_ |refine Aa ?_|(refine aC rfl ?_ ?_<;>rintro⟨⟩)|refine aK ?_|refine aE ?_|refine aB ?_|refine aR ⟨_,rfl,?_⟩)
 all_goals rfl
theorem Fa[Dt TB](s:Sys)(p:AZ):Pure Tryz.prog TB 128 [Bv s,Bi p] (KX (BQ [s] p)):=by
 refine eN Tryz.func128 rfl (by kernel_rfl) rfl ?_;intro Z a;(repeat' first|refine tA rfl ?_ |refine sP rfl (Fb [s] p) rfl ?_ |refine aU rfl ?_ |refine Aa ?_|(refine aC rfl ?_ ?_<;>rintro⟨⟩)|refine aK ?_|refine aE ?_|refine aB ?_|refine aR ⟨_,rfl,?_⟩)
 all_goals rfl
end Go.Am
