/-
  Words restricted to an alphabet, plainly.
-/
import Derived.Test.YtohfiindiidcfaaGreatDoorPart34
set_option linter.all false
namespace Go.Am
open Go Go.Proofs
set_option maxHeartbeats 1000000
set_option maxRecDepth 4000
attribute [local irreducible] A3 Cp Lex Bl Aj Spec
def IY(al:Int)(w:W):W:=w.filter (It al)
theorem cQ{al l:Int}(h:0<=l/\l < 6):It al (UInt8.ofNat (97+l.toNat))=AX al l.toNat:=by
 have a:(UInt8.ofNat (97+l.toNat)).toNat=97+l.toNat:=by simp;omega
 have c:=UI al (UInt8.ofNat (97+l.toNat))
 have b:Gn (UInt8.ofNat (97+l.toNat))=true:=by rw [FK,a,decide_eq_true_eq];omega
 rw [<-c,if_pos b,a];unfold hasB;rw [show ((97+l.toNat:Nat):Int) - 97=l by omega,decide_eq_true h.1];rfl
theorem P0{al:Int}:∀ {u:List Int},GV u->IY al (CQ u)=CQ (BS al u)
 | [],_=>rfl
 | l::u,b=>by
  have a:=P0 (al:=al) (u:=u) (λx c=>b x (by simp [c]));have d:=cQ (al:=al) (b l (by simp));unfold IY CQ BS at *;rw [pR,q9,q9,d];cases AX al l.toNat
  ·simpa using a
  ·simpa using a
theorem Vv(al:Int)(w:W):(IY al w).length<=w.length:=p8 _ _
theorem Sj{al:Int}{w:W}{k:Nat}{c:UInt8}(a:w[k]? = some c):IY al (w.take (k+1))=if It al c then IY al (w.take k)++[c] else IY al (w.take k):=by
 unfold IY;rw [d9,a,Option.toList_some,pK];cases h:It al c<;>simp [h]
theorem bA{s:Sys}{a p:AY}{u:List Int}(h:DN s a p=some u):GV u/\(CQ u).length<=2304:=by
 obtain⟨_,b,_⟩:=La h;exact⟨EX b,by unfold CQ;rw [ge];exact Su h⟩
theorem bz{t:Sys}{a:AY}{u:List Int}(h:Bx [t] a=some u):GV u/\(CQ u).length<=192:=by
 obtain⟨_,_,b,_⟩:=Hk h;exact⟨EX b,by unfold CQ;rw [ge];exact Sr h⟩
theorem Qz{u:List Int}(d:GV u)(a:(CQ u).length<=50000):ED (CQ u)=true:=by
 unfold ED;rw [decide_eq_true a,o5,f7];intro c b;unfold CQ at b;obtain⟨l,a,rfl⟩:=d8.1 b;have:=d l a;rw [FK,decide_eq_true_eq]
 have e:(UInt8.ofNat (97+l.toNat)).toNat=97+l.toNat:=by simp;omega
 rw [e];omega
noncomputable def BR(s t:Sys)(p:AY)(al:Int)(k:Nat):A2:=(BN s t p al).getD k ⟨[],[]⟩
abbrev My(v:Vd):List D:=[iD v.code,iD v.a.al,C4 v.a.nx,Ff v.a.ac,tD v.tr,iD v.rd]
abbrev fk(v:Vd):E:=.a [.d (iD v.code),.d (iD v.a.al),.d (C4 v.a.nx),.d (Ff v.a.ac),.d (tD v.tr),.d (iD v.rd)]
section
variable {s t:Sys}{p:AY}{al:Int}(hI:Fe s p t al)
include hI
theorem Zr{x:A2}{r:Nat}(b:GH s p al x r){w:W}(c:AS (A4 al) w)(d:w.length<=4000):Kq (Dm s p al) x w=Ha (LS ⟨s,p,al⟩) (A4 al) x w:=by
 have e:(CN (Dm s p al) && BB (Cf (Dm s p al)) (A6 (Dm s p al)) x)=true:=by
  rw [MP b.v,IS,DM,b.o];rfl
 have a:Fs (A6 (Dm s p al)) w=true:=by rw [DM];exact OE (Pp hI) c d
 unfold Kq;rw [e,a,rK,if_pos rfl,IS,DM]
theorem dr{x:A2}{r:Nat}(a:GH s p al x r){w:W}{b:Bool}(h:FX s t p al (BJ s p al x)=some (w,b))(hb:(b || LS ⟨s,p,al⟩ w)=true):HR s t p al x=Ha (LS ⟨s,p,al⟩) (A4 al) x w:=by
 unfold HR;rw [h];simp only [hb,if_true];exact Zr hI a (TJ hI a h) (Mh h)
omit hI in
theorem JD{k:Nat}(h:k < (BN s t p al).length):(BN s t p al)[k]? = some (BR s t p al k):=by
 unfold BR;rw [rh,d6 h];rfl
theorem Qu{k:Nat}(h:k+1=(BN s t p al).length):BG s t p=PA s t p al (BR s t p al k) (k+1):=by
 unfold BG;rw [if_neg (RK hI),<-hI.hal,<-h]
 have e:(BN s t p al).getLastD Bw=BR s t p al k:=by
  rw [List.getLastD_eq_getLast?,List.getLast?_eq_getElem?,<-h,Nat.add_sub_cancel,JD (by omega)];rfl
 rw [e]
theorem Vx{k:Nat}(h:k < (BN s t p al).length):GH s p al (BR s t p al k) (k+1)/\
    ((FX s t p al (BJ s p al (BR s t p al k))=none/\BG s t p=⟨0,BJ s p al (BR s t p al k),[],(k:Int)+1⟩/\k+1=(BN s t p al).length)\/
      ∃ w b,FX s t p al (BJ s p al (BR s t p al k))=some (w,b)/\AS (A4 al) w/\w.length<=4000/\
        ((b = false/\LS ⟨s,p,al⟩ w=false/\BG s t p=⟨1,IZ,ML (Bx [s,t] p),(k:Int)+1⟩/\k+1=(BN s t p al).length)\/
         ((b=true\/LS ⟨s,p,al⟩ w=true)/\((Ha (LS ⟨s,p,al⟩) (A4 al) (BR s t p al k) w=some (BR s t p al (k+1))/\k+1 < (BN s t p al).length)\/
           (Ha (LS ⟨s,p,al⟩) (A4 al) (BR s t p al k) w=none/\BR s t p al (k+1)=⟨[],[]⟩/\k+1=(BN s t p al).length/\BG s t p=⟨2,IZ,[],(k:Int)+1⟩))))):=by
  obtain⟨l,g⟩:=run_get hI (JD h);refine⟨l,?_⟩
  have f:((k+1:Nat):Int)=(k:Int)+1:=by omega
  have a:HR s t p al (BR s t p al k)=none->k+1=(BN s t p al).length:=λe=>by
    rw [e] at g;have:=rx.1 g;omega
  cases d:FX s t p al (BJ s p al (BR s t p al k)) with
  | none=>
    have e:HR s t p al (BR s t p al k)=none:=by unfold HR;rw [d]
    have c:=Qu hI (a e);unfold PA at c;rw [d,f] at c;exact .inl ⟨rfl,c,a e⟩
  | some wb=>
    obtain⟨w,b⟩:=wb;refine .inr ⟨w,b,rfl,TJ hI l d,Mh d,?_⟩;by_cases hb:(b || LS ⟨s,p,al⟩ w)=true
    · refine .inr ⟨by simpa using hb,?_⟩
      have e:=dr hI l d hb
      cases i:Ha (LS ⟨s,p,al⟩) (A4 al) (BR s t p al k) w with
      | some y=>
        rw [i] at e;rw [e] at g;have j:=(ce.1 g).1;refine .inl ⟨?_,j⟩;rw [JD j] at g;exact g.symm
      | none=>
        rw [i] at e;have hk:=a e;have c:=Qu hI hk;unfold PA at c;rw [d] at c;simp only [hb,if_true,f] at c;refine .inr ⟨rfl,?_,hk,c⟩;unfold BR;rw [rh,oL (by omega)];rfl
    · have e:HR s t p al (BR s t p al k)=none:=by unfold HR;rw [d];simp only [hb];rfl
      have hk:=a e;have c:=Qu hI hk;unfold PA at c;rw [d] at c;simp only [hb,f] at c
      have hb:b=false/\LS ⟨s,p,al⟩ w=false:=by simpa using hb
      exact .inl ⟨hb.1,hb.2,c,hk⟩
theorem Vt{a:AY}{w:W}{b:Bool}(h:FX s t p al a=some (w,b)):(∃u,b=true/\DN s a p=some u/\IY al (CQ u)=w/\GV u/\(CQ u).length<=2304)\/(∃u,b=false/\DN s a p=none/\Bx [t] a=some u/\IY al (CQ u)=w/\GV u/\(CQ u).length<=192):=by
 unfold FX at h;split at h
 ·rename_i u d
  injection h with h;injection h with h e
  obtain⟨c,f⟩:=bA d;exact .inl ⟨u,e.symm,d,(P0 c).trans h,c,f⟩
 ·rename_i d
  split at h
  ·rename_i v g
   injection h with h;injection h with h e
   obtain⟨c,f⟩:=bz g;exact .inr ⟨v,e.symm,d,g,(P0 c).trans h,c,f⟩
  ·cases h
omit hI in
theorem Vu{a:AY}(h:FX s t p al a=none):DN s a p=none/\Bx [t] a=none:=by
 unfold FX at h;split at h
 ·cases h
 ·rename_i c
  split at h
  ·cases h
  ·rename_i b
   exact⟨c,b⟩
theorem eY:Tp (Dm s p al)=some (BR s t p al 0):=by
 obtain⟨b,_⟩:=TT (s:=s) (p:=p) (al:=al) (ER hI);have a:=JD (s:=s) (t:=t) (p:=p) (al:=al) (k:=0) (by have:=ID hI;omega);rw [b];unfold BN at a;simp only [EJ] at a
 simpa using a
end
end Go.Am
namespace Go.Am
open Go Go.Proofs
set_option maxHeartbeats 1000000
set_option maxRecDepth 4000
attribute [local irreducible] A3 Cp Lex Bl Aj Spec
variable {TB:BC}
theorem QJ{c:C}{L:W->Bool}{ok:W->Prop}(H:JZ Tryz.prog TB c L ok)(al:Int)(t:A2)(V:I0 ok (A4 al) t)(ht:He al 20012 t)(ho:Bc L (A4 al) t=none) :
 AQ Tryz.prog TB 66 0 [] 0 [Je al c,Eh t] (Lc (A1 L al t)):=by
 have e:=E5 c H.Cm;have hrl:=ht.rl;have hcl:=ht.cl;have hla:(Ac al).length<=6:=AM al 6;have n:=ht.iZ V (by omega)
 have K:(A1 L al t).nx.length=t.rows.length:=by simp [A1]
 have hal:(A1 L al t).ac.length=t.rows.length:=by simp [A1]
 refine AQ.Bi (AQ.Sc (m:=0) (am rfl) Tryz.func66 rfl (by kernel_rfl) (am rfl) ?_);intro Z b;(repeat first |refine sN rfl ?_ |((first|refine sM rfl ?_ ?_|refine s4 rfl ‹_› rfl ?_ ?_);first|exact tI|omega|simp only[oZ] at *;omega) |refine s2 rfl λ_ a=>?_ |refine s3 rfl ?_ ?_<;>rintro rfl |refine aU rfl ?_ |refine Aa ?_ |refine rE (by kernel_rfl) ?_);(refine pW rfl ?_ rfl (by rfl);refine De rfl rfl ?_);(refine Ag rfl ?_;refine CI (λ_ _=>Db rfl rfl rfl) rfl ?_);(repeat first |refine sN rfl ?_ |((first|refine sA rfl ?_ ?_|refine s4 rfl ‹_› rfl ?_ ?_);first|exact tI|omega|simp only[oZ] at *;omega) |refine s2 rfl λ_ a=>?_ |refine s3 rfl ?_ ?_<;>rintro rfl |refine aU rfl ?_ |refine Aa ?_);(refine pW rfl ?_ rfl (by rfl);refine Ai [] rfl rfl (Hx H al t n.1) ⟨rfl,by simp,by simp⟩ (by simp [EY,E.Bi,C.CA,C.Bi,e,eC]) trivial ?_;rintro x0 X Y ⟨rfl,rfl,rfl⟩ _);(repeat first |refine sN rfl ?_ |((first|refine sA rfl ?_ ?_|refine s4 rfl ‹_› rfl ?_ ?_);first|exact tI|omega|simp only[oZ] at *;omega) |refine s2 rfl λ_ a=>?_ |refine s3 rfl ?_ ?_<;>rintro rfl |refine aU rfl ?_ |refine Aa ?_);(refine pW rfl ?_ rfl (by rfl);refine JN 1 1 64 2 1 4 rfl rfl (by decide) rfl rfl (by rfl) (by rfl) ?_);(repeat first |refine sN rfl ?_ |((first|refine sA rfl ?_ ?_|refine s4 rfl ‹_› rfl ?_ ?_);first|exact tI|omega|simp only[oZ] at *;omega) |refine s2 rfl λ_ a=>?_ |refine s3 rfl ?_ ?_<;>rintro rfl |refine aU rfl ?_ |refine Aa ?_);refine aB ?_;refine Aj.eL 3 ?_;refine aL (α:={s:Nat×IM // s.1<=t.rows.length/\s.2.map (·.2)=(A1 L al t).nx.take s.1}) [2,3,4,5,6,19,20] [0,1,2] rfl rfl (λs=>[(21,eI .i64 s.1.1)]) (λs=>[(5,.cells 29 3 [[.d (iD al),.arr 3 1 0 s.1.2.length,.arr 4 1 0 s.1.1]]),(3,.cells 64 1 (AA s.1.2)),(4,.cells 4 1 (((A1 L al t).ac.take s.1.1).map AT)),(6,.sld 3 (sI s.1.2))]) 7 (λs=>t.rows.length - s.1.1) (⟨⟨0,[]⟩,by simp,by simp⟩) b rfl (by ((repeat' first|exact tI|rfl|refine And.intro ?_ ?_)<;>(simp[cX,zC,b,cN,e,eC,BU,Ae]<;>rfl))) ?_;rintro⟨⟨k,l⟩,B,A⟩;(try dsimp only[cA,cB]);have B:k<=t.rows.length:=B;have A:l.map (·.2)=(A1 L al t).nx.take k:=A
 have hll:l.length=k:=by have:=congrArg List.length A;simp at this;omega
 by_cases R:k < t.rows.length
 ·obtain⟨r,u⟩:=get_some (l:=t.rows) (k:=k) R
  have hx':=get_map (g:=CT) u;have f:=co u;(repeat first |refine sN rfl ?_ |((first|refine sA rfl ?_ ?_|refine s4 rfl ‹_› rfl ?_ ?_);first|exact tI|omega|simp only[oZ] at *;omega) |refine s2 rfl λ_ a=>?_ |refine s3 rfl ?_ ?_<;>rintro rfl |refine aU rfl ?_ |refine Aa ?_)
  ((refine aC rfl ?_ ?_<;>rintro⟨⟩);all_goals try(exfalso;first|omega|simp only[oZ] at *;omega))
  refine aK ?_;refine aS (aB ?_);(repeat first |refine sN rfl ?_ |((first|refine sM rfl ?_ ?_|refine s4 rfl ‹_› rfl ?_ ?_);first|exact tI|omega|simp only[oZ] at *;omega) |refine s2 rfl λ_ a=>?_ |refine s3 rfl ?_ ?_<;>rintro rfl |refine aU rfl ?_ |refine Aa ?_ |refine rE (by kernel_rfl) ?_);(refine pW rfl ?_ rfl (by rfl);refine Hp 1 3 ?_);(repeat first |refine sN rfl ?_ |((first|refine sM rfl ?_ ?_|refine s4 rfl ‹_› rfl ?_ ?_);first|exact tI|omega|simp only[oZ] at *;omega) |refine s2 rfl λ_ a=>?_ |refine sP rfl (C0 al) rfl ?_ |refine s3 rfl ?_ ?_<;>rintro rfl |refine aU rfl ?_ |refine Aa ?_ |refine rE (by kernel_rfl) ?_);refine aB ?_;refine aL (α:={j:Nat // j<=(Ac al).length}) [2,3,4,5,6,8,19,20,21,27,28] [0,1,2,3,4,5,6] rfl rfl (λs=>[(9,.o (.arr 7 1 0 s.1)),(29,eI .i64 s.1)]) (λs=>[(7,.cells 3 1 (((Ac al).take s.1).map λl=>[.d (iD ((Dj L t (r++[lb l]):Nat):Int))]))]) 8 (λs=>(Ac al).length - s.1) (⟨0,by omega⟩) b rfl (by ((repeat' first|exact tI|rfl|refine And.intro ?_ ?_)<;>(simp[cX,zC,b,cN,e,eC]<;>rfl))) ?_;rintro⟨j,G⟩;(try dsimp only[cA,cB]);have G:j<=(Ac al).length:=G;by_cases F:j < (Ac al).length
  ·obtain⟨m,P⟩:=get_some F
   have hm':=get_map (g:=Bs) P;have p:=co P;have z:=Al p;have hrb:=ht.onR r f;have N:=LN (TB:=TB) H al t (r++[lb m]) (by omega) (λx u=>n.2 r f _ (d8.2 ⟨m,p,rfl⟩) x u) (λy hy=>by have:=(ht.onC y hy).2;simp;omega);have S:=UU ho f p;(repeat first |refine sN rfl ?_ |((first|refine sA rfl ?_ ?_|refine s4 rfl ‹_› rfl ?_ ?_);first|exact tI|omega|simp only[oZ] at *;omega) |refine s2 rfl λ_ a=>?_ |refine s3 rfl ?_ ?_<;>rintro rfl |refine aU rfl ?_ |refine Aa ?_)
   ((refine aC rfl ?_ ?_<;>rintro⟨⟩);all_goals try(exfalso;first|omega|simp only[oZ] at *;omega))
   refine aK ?_;refine aS (aB ?_);(repeat first |refine sN rfl ?_ |((first|refine sA rfl ?_ ?_|refine s4 rfl ‹_› rfl ?_ ?_);first|exact tI|omega|simp only[oZ] at *;omega) |refine s2 rfl λ_ a=>?_ |refine s3 rfl ?_ ?_<;>rintro rfl |refine aU rfl ?_ |refine Aa ?_);refine rG (Hg [13]) (by kernel_rfl) ?_;(repeat first |refine sN rfl ?_ |((first|refine sA rfl ?_ ?_|refine s4 rfl ‹_› rfl ?_ ?_);first|exact tI|omega|simp only[oZ] at *;omega) |refine s2 rfl λ_ a=>?_ |refine sP rfl (FF m z.1 (by omega)) rfl ?_|(refine Ag rfl ?_;refine gA rfl ?_;first|refine gS (λ_ _=>Xu rfl (by omega) (by omega)) ?_) |refine s3 rfl ?_ ?_<;>rintro rfl |refine aU rfl ?_ |refine Aa ?_);rw [cY z.1];(repeat first |refine sN rfl ?_ |((first|refine sM rfl ?_ ?_|refine s4 rfl ‹_› rfl ?_ ?_);first|exact tI|omega|simp only[oZ] at *;omega) |refine s2 rfl λ_ a=>?_|(refine Ag rfl ?_;refine gA rfl ?_;first|refine gS (λ_ _=>Bu rfl rfl (by simp [E.Cm,C.Ds,C.Cm,H.Cm,eC]) N rfl) ?_|refine gQ (Y3 rfl rfl rfl) (by rfl) ?_) |refine s3 rfl ?_ ?_<;>rintro rfl |refine aU rfl ?_ |refine Aa ?_ |refine rE (by kernel_rfl) ?_);(repeat first |refine sN rfl ?_ |((first|refine sA rfl ?_ ?_|refine s4 rfl ‹_› rfl ?_ ?_);first|exact tI|omega|simp only[oZ] at *;omega) |refine s2 rfl λ_ a=>?_ |refine s3 rfl ?_ ?_<;>rintro rfl |refine aU rfl ?_ |refine Aa ?_);(refine pW rfl ?_ rfl (by rfl);refine Au rfl rfl rfl (by first|(simp;done)|(simp;(first|omega|simp only[oZ] at *;omega))) rfl (by intro r e;simp at e;subst e;rfl) (by rfl) (am rfl) (by simp;omega) ?_);(repeat first |refine sN rfl ?_ |((first|refine sA rfl ?_ ?_|refine s4 rfl ‹_› rfl ?_ ?_);first|exact tI|omega|simp only[oZ] at *;omega) |refine s2 rfl λ_ a=>?_ |refine s3 rfl ?_ ?_<;>rintro rfl |refine aU rfl ?_ |refine Aa ?_);rw [S];refine⟨⟨j+1,by first|omega|simp only[oZ] at *;omega⟩,by dsimp only;(first|omega|simp only[oZ] at *;omega),[0,1,2,3,4,5,6,8],?_⟩;simp[cX,zC,b,cN,e,d9,P]
  ·obtain rfl:j=(Ac al).length:=by omega
   have I:=V r ⟨r,f,[],.inl rfl,[],.inl rfl,by simp⟩
   have J:(A1 L al t).nx.take (k+1)=(A1 L al t).nx.take k++[(Ac al).map λl=>((Dj L t (r++[lb l]):Nat):Int)]:=by
    rw [d9];simp [A1,u]
   have q:(A1 L al t).ac.take (k+1)=(A1 L al t).ac.take k++[L r]:=by
    rw [d9];simp [A1,u]
   rw [gt];generalize h:(Ac al).map (λl=>((Dj L t (r++[lb l]):Nat):Int))=row at *
   have w:(Ac al).length=row.length:=by rw [<-h];simp
   have M:(Ac al).map (λl=>[C.d (iD ((Dj L t (r++[lb l]):Nat):Int))])=row.map AD:=by rw [<-h,pz];rfl
   (repeat first |refine sN rfl ?_ |((first|refine sA rfl ?_ ?_|refine s4 rfl ‹_› rfl ?_ ?_);first|exact tI|omega|simp only[oZ] at *;omega) |refine s2 rfl λ_ a=>?_ |refine s3 rfl ?_ ?_<;>rintro rfl |refine aU rfl ?_ |refine Aa ?_)
   ((refine aC rfl ?_ ?_<;>rintro⟨⟩);all_goals try(exfalso;first|omega|simp only[oZ] at *;omega))
   refine aE ?_;(repeat first |refine sN rfl ?_ |((first|refine sX rfl ?_ ?_|refine s4 rfl ‹_› rfl ?_ ?_);first|exact tI|omega|simp only[oZ] at *;omega) |refine s2 rfl λ_ a=>?_ |refine s3 rfl ?_ ?_<;>rintro rfl |refine aU rfl ?_ |refine Aa ?_);(refine pW rfl ?_ rfl (by rfl);refine Bk rfl rfl rfl rfl (by simp [eC]) (by rfl) (by rfl) (by rfl) (by rfl) ?_);(repeat first |refine sN rfl ?_ |((first|refine sX rfl ?_ ?_|refine s4 rfl ‹_› rfl ?_ ?_);first|exact tI|omega|simp only[oZ] at *;omega) |refine s2 rfl λ_ a=>?_ |refine s3 rfl ?_ ?_<;>rintro rfl |refine aU rfl ?_ |refine Aa ?_);(refine pW rfl ?_ rfl (by rfl);refine Au rfl rfl rfl (CM _) rfl (by intro r e;simp at e;subst e;rfl) (by rfl) (am rfl) (by simp;omega) ?_);(repeat first |refine sN rfl ?_ |((first|refine sX rfl ?_ ?_|refine s4 rfl ‹_› rfl ?_ ?_);first|exact tI|omega|simp only[oZ] at *;omega) |refine s2 rfl λ_ a=>?_ |refine s3 rfl ?_ ?_<;>rintro rfl |refine aU rfl ?_ |refine Aa ?_);refine Aj.Ay [2,3,4,5,6,8,19,20,21] [0,1,2,4] rfl rfl [] [(3,.cells 64 1 (AA l++[[.arr 7 1 0 row.length]])),(5,.cells 29 3 [[.d (iD al),.arr 3 1 0 (l.length+1),.arr 4 1 0 k]]),(6,.sld 3 (sI l)),(7,.cells 3 1 (row.map AD))] [0,1,2,9,4,5,6,7] (rl b rfl) (by ((repeat' first|exact tI|rfl|refine And.intro ?_ ?_)<;>(simp[cX,zC,b,cN,e,BU,Ae,eC,w,M]<;>rfl))) ?_;(try dsimp only[cA,cB]);refine Aj.TC 3 7 6 l row rfl rfl rfl λv=>?_;(repeat first |refine sN rfl ?_ |((first|refine sA rfl ?_ ?_|refine s4 rfl ‹_› rfl ?_ ?_);first|exact tI|omega|simp only[oZ] at *;omega) |refine s2 rfl λ_ a=>?_ |refine s3 rfl ?_ ?_<;>rintro rfl |refine aU rfl ?_ |refine Aa ?_);refine rG (Hg [7,9]) (by kernel_rfl) ?_;(repeat first |refine sN rfl ?_ |((first|refine sA rfl ?_ ?_|refine s4 rfl ‹_› rfl ?_ ?_);first|exact tI|omega|simp only[oZ] at *;omega) |refine s2 rfl λ_ a=>?_|(refine Ag rfl ?_;refine gA rfl ?_;first|refine gS (λ_ _=>H.ask rfl rfl I) ?_) |refine s3 rfl ?_ ?_<;>rintro rfl |refine aU rfl ?_ |refine Aa ?_);(refine pW rfl ?_ rfl (by rfl);refine Au rfl rfl rfl (by first|(simp;done)|(simp;(first|omega|simp only[oZ] at *;omega))) rfl (by intro r e;simp at e;subst e;rfl) (by rfl) (am rfl) (by simp;omega) ?_);(repeat first |refine sN rfl ?_ |((first|refine sA rfl ?_ ?_|refine s4 rfl ‹_› rfl ?_ ?_);first|exact tI|omega|simp only[oZ] at *;omega) |refine s2 rfl λ_ a=>?_ |refine s3 rfl ?_ ?_<;>rintro rfl |refine aU rfl ?_ |refine Aa ?_);refine⟨⟨⟨k+1,l++[(v,row)]⟩,by dsimp only;omega,by dsimp only;rw [pv,A,J];rfl⟩,by dsimp only;(first|omega|simp only[oZ] at *;omega),[0,1,2,3,8,5,6],?_⟩;simp[cX,zC,b,cN,e,eC,BU,Ae,q]
 ·have T:k=t.rows.length:=by omega
  (repeat first |refine sN rfl ?_ |((first|refine sA rfl ?_ ?_|refine s4 rfl ‹_› rfl ?_ ?_);first|exact tI|omega|simp only[oZ] at *;omega) |refine s2 rfl λ_ a=>?_ |refine s3 rfl ?_ ?_<;>rintro rfl |refine aU rfl ?_ |refine Aa ?_)
  ((refine aC rfl ?_ ?_<;>rintro⟨⟩);all_goals try(exfalso;first|omega|simp only[oZ] at *;omega))
  refine aE ?_;(repeat first |refine sN rfl ?_ |((first|refine sA rfl ?_ ?_|refine s4 rfl ‹_› rfl ?_ ?_);first|exact tI|omega|simp only[oZ] at *;omega) |refine s2 rfl λ_ a=>?_ |refine s3 rfl ?_ ?_<;>rintro rfl |refine aU rfl ?_ |refine Aa ?_)
  have Q:l.map (·.2)=(A1 L al t).nx:=by rw [A,T,<-K,gt]
  have U:l.length=t.rows.length:=by omega
  have q:(A1 L al t).ac.take k=(A1 L al t).ac:=gc (by rw [hal];omega);rw [q]
  obtain rfl:k=(A1 L al t).ac.length:=by omega
  refine aR ⟨_,rfl,[3,4,6],WH al 0 1 l.length (A1 L al t).ac.length,[(0,.cells 64 1 (AA l)),(1,.cells 4 1 ((A1 L al t).ac.map AT)),(2,.sld 3 (sI l))],⟨by intro i hi;omega,by decide⟩,rfl,by ((repeat' first|exact tI|rfl|refine And.intro ?_ ?_)<;>(simp[cX,zC,b,cN]<;>rfl)),l,Q,rfl,rfl,rfl⟩
theorem UB{n k:Nat}(h:k < n):(2 ^ n - 1).testBit k=true:=by rw [Nat.testBit_two_pow_sub_one,decide_eq_true h]
theorem KS{n:Nat}:∀ {k:Nat},k<=n->Ko (2 ^ n - 1) k=k
 | 0,_=>rfl
 | k+1,h=>by rw [PT,UB (by omega),if_pos rfl,KS (by omega)]
theorem WV{y:Sys}(U:AV y=true)(Y:y.es.length<=1048576):Pure Tryz.prog TB 119 [Br y,eI .i64 ((2 ^ y.st.toNat - 1:Nat):Int)] (Br y):=by
 have hh:=AN U
 obtain⟨a,J,I⟩:∃a:Nat,y.st=a/\a<=16:=⟨y.st.toNat,by omega,by omega⟩
 have X:2 ^ a<=2 ^ 16:=pm (by omega) I
 have B:2 ^ a - 1 < 2 ^ 62:=by omega
 rw [show y.st.toNat=a by omega];have j:=Ng (TB:=TB) (2 ^ a - 1) B a (by omega);rw [KS (i9 _)] at j
 obtain⟨m,q⟩:∃m,m=2 ^ a - 1:=⟨_,rfl⟩
 have A:∀k,k < a->AX (m:Nat) k=true:=λk hk=>by rw [Dq (by omega) (by omega),q];exact UB hk
 have b:∀k,k<=a->Ko m k=k:=λk hk=>by rw [q];exact KS hk
 rw [<-q] at j B |-;rw [<-J] at j;refine eG Tryz.func119 rfl (by kernel_rfl) rfl ?_;intro Z i;(repeat first|refine tA rfl ?_ |refine aU rfl ?_ |refine Aa ?_);refine rG (Kh [(7,1),(8,1)]) (by kernel_rfl) ?_;(repeat first|refine tX rfl ?_ |refine sP rfl (j) rfl ?_|(refine Ag rfl ?_;refine gA rfl ?_;first| refine gS (λ_ _=>PO rfl rfl (by rfl) (by rfl)) ?_) |refine aU rfl ?_ |refine Aa ?_);refine aB ?_;refine aL (α:={z:Nat×List Ef // z.1<=y.es.length/\z.2=y.es.take z.1}) [1,2] [] rfl rfl (λs=>[(4,.o (.ptr 0 3 0 0)),(5,.o (.ptr 1 3 0 0)),(6,eI .i64 s.1.1)]) (λs=>fY y.al y.st s.1.2) 3 (λs=>y.es.length - s.1.1) (⟨⟨0,[]⟩,by simp⟩) i rfl (by (simp[cX,zC,i,fY,NL,cN])) ?_;rintro⟨⟨k,l⟩,hk,c⟩;(try dsimp only[cA,cB]);have hk:k<=y.es.length:=hk;have c:l=y.es.take k:=c
 have M:l.length=k:=by rw [c,p7];omega
 by_cases L:k < y.es.length
 ·obtain⟨e,R⟩:=get_some L
  have v:y.es.take (k+1)=l++[e]:=by rw [d9,R,c];rfl
  have Q:=get_map (g:=Dr) R
  have hee:(y.es.map Dr)[((k:Nat):Int).toNat]? = some (Dr e):=by rw [io];exact Q
  have hb:=Dl U (co R);unfold DG at hb;simp only [d4,decide_eq_true_eq] at hb
  obtain⟨S,P⟩:∃S:Nat,e.f=S:=⟨e.f.toNat,by omega⟩
  obtain⟨F,H⟩:∃F:Nat,e.t=F:=⟨e.t.toNat,by omega⟩
  have x:=C8 (TB:=TB) (m:Nat) e.f (by omega) (by omega);have w:=C8 (TB:=TB) (m:Nat) e.t (by omega) (by omega);rw [A _ (by omega)] at x w;have p:=Ng (TB:=TB) m B S (by omega);have n:=Ng (TB:=TB) m B F (by omega);rw [b _ (by omega),<-P] at p;rw [b _ (by omega),<-H] at n;(repeat first|refine sN rfl ?_ |refine tA rfl ?_ |refine s2 rfl λ_ T=>?_ |refine aU rfl ?_ |refine Aa ?_)
  ((refine aC rfl ?_ ?_<;>rintro⟨⟩);all_goals try(exfalso;(simp only[oZ] at *;omega)))
  refine aK ?_;refine aS (aB ?_)
  (repeat' first|refine tA rfl ?_ |(refine s4 rfl ‹_› rfl ?_ ?_;omega) |refine sP rfl (x) rfl ?_|refine sP rfl (w) rfl ?_ |refine aU rfl ?_ |refine Aa ?_|(refine aC rfl ?_ ?_<;>rintro⟨⟩));all_goals try contradiction
  cases l with
  | nil=>
   refine rG (Kh [(1,11),(4,13),(7,13),(10,13),(14,1),(16,1)]) (by kernel_rfl) ?_;(repeat first|refine tA rfl ?_ |refine sP rfl (p) rfl ?_|refine sP rfl (n) rfl ?_|(refine Ag rfl ?_;refine gA rfl ?_;first| refine gS (λ_ _=>AG rfl rfl (by rfl) (by rfl)) ?_));(refine pW rfl ?_ rfl (by rfl);refine YQ 38 rfl ?_;refine EG rfl rfl rfl (by intro r u;simp at u;subst u;rfl) (by rfl) (am rfl) (by simp) (λh=>?_) (λ_=>?_))
   ·exact absurd h (by simp)
   (repeat first|(refine sX rfl ?_ ?_;first|exact tI|omega) |refine aU rfl ?_ |refine Aa ?_);refine⟨⟨⟨k+1,[e]⟩,by dsimp only;omega,by dsimp only;rw [v];rfl⟩,by dsimp only;(omega),[0,1,4],?_⟩;(simp[cX,zC,i,cN,fY,NL,Ae,eC]<;>rfl)
  | cons G l=>
   refine rG (Kh [(1,11),(4,13),(7,13),(10,13),(14,1),(16,1)]) (by kernel_rfl) ?_;(repeat first|refine tA rfl ?_ |refine sP rfl (p) rfl ?_|refine sP rfl (n) rfl ?_|(refine Ag rfl ?_;refine gA rfl ?_;first| refine gS (λ_ _=>AG rfl rfl (by rfl) (by rfl)) ?_));(refine pW rfl ?_ rfl (by rfl);refine Au rfl rfl rfl (by first| (simp;done)|(simp;(omega))) rfl (by intro r u;simp at u;subst u;rfl) (by rfl) (am rfl) (by simp at M |-;omega) ?_);(repeat first|(refine sX rfl ?_ ?_;first|exact tI|omega) |refine aU rfl ?_ |refine Aa ?_);refine⟨⟨⟨k+1,G::(l++[e])⟩,by dsimp only;omega,by dsimp only;rw [v];rfl⟩,by dsimp only;(omega),[0,1,4],?_⟩;(simp[cX,zC,i,cN,fY,NL,Ae,eC]<;>rfl)
 ·have N:k=y.es.length:=by omega
  have K:l=y.es:=by rw [c,N,gt]
  have V:y=⟨y.al,y.st,l⟩:=by rw [K]
  (repeat first|refine sN rfl ?_ |refine tA rfl ?_ |refine s2 rfl λ_ T=>?_ |refine aU rfl ?_ |refine Aa ?_)
  ((refine aC rfl ?_ ?_<;>rintro⟨⟩);all_goals try(exfalso;(simp only[oZ] at *;omega)))
  refine aE ?_;rw [V]
  cases l with
  | nil=>
   refine Aj.AF [1] [(4,.o (.ptr 0 3 0 0)),(5,.o (.ip (AL ⟨y.al,y.st,[]⟩)))] ⟨⟨_,rfl,.inl rfl⟩,⟨_,rfl,.inr (.o (.box rfl (.cons .d (.cons .d (.cons .nl .nil)))))⟩,trivial⟩ ?_;(repeat first|refine tA rfl ?_ |refine aU rfl ?_ |refine Aa ?_);(subst_vars;exact aR ⟨_,rfl,rfl⟩)
  | cons G l=>
   refine Aj.AF [1,2] [(4,.o (.ptr 0 3 0 0)),(5,.o (.ip (AL ⟨y.al,y.st,G::l⟩)))] ⟨⟨_,rfl,.inl rfl⟩,⟨_,rfl,.inr (.o (.box rfl (.cons .d (.cons .d (.cons (.full rfl (by simp [d5]) (by simp)) .nil)))))⟩,trivial⟩ ?_;(repeat first|refine tA rfl ?_ |refine aU rfl ?_ |refine Aa ?_);(subst_vars;exact aR ⟨_,rfl,rfl⟩)
abbrev VQ(s:Sys)(p:AY)(t:Sys):CO×Bool:=if AZ s p t < 0 then (⟨⟨0,0,[]⟩,⟨0,[],[]⟩,0⟩,false) else (⟨s,p,AZ s p t⟩,true)
theorem Jy(s:Sys)(p:AY)(t:Sys)(f:s.es.length<=1048576):Pure Tryz.prog TB 68 [Br s,Bj p,Br t] (nJ (VQ s p t)):=by
 have c:=KZ (TB:=TB) s p t;unfold VQ;by_cases h:AZ s p t < 0
 ·rw [if_pos h]
  refine eG Tryz.func68 rfl (by kernel_rfl) rfl ?_;intro Z a;(repeat first|refine tA rfl ?_ |refine s2 rfl λ_ i=>?_ |refine sP rfl (c) rfl ?_ |refine aU rfl ?_ |refine Aa ?_)
  ((refine aC rfl ?_ ?_<;>rintro⟨⟩);all_goals try(exfalso;(simp only[oZ] at *;omega)))
  (repeat first|refine tA rfl ?_|(refine Ag rfl ?_;refine gA rfl ?_;first| refine gS (λ_ _=>AG rfl rfl (by rfl) (by rfl)) ?_) |refine aU rfl ?_ |refine Aa ?_);(subst_vars;exact aR ⟨_,rfl,rfl⟩)
 ·rw [if_neg h]
  have hI:=FO h;have u:=AN hI.hs;have g:=WT (TB:=TB) s.st (by omega) (by omega);have b:=WV (TB:=TB) hI.hs f;have m:2 ^ s.st.toNat<=2 ^ 16:=pm (by omega) (by omega);have n:0 < 2 ^ s.st.toNat:=rv _
  have e:((2 ^ s.st.toNat:Nat):Int) - 1=((2 ^ s.st.toNat - 1:Nat):Int):=by omega
  rw [<-e] at b;generalize 2 ^ s.st.toNat=pw at *;generalize AZ s p t=ai at *;refine eG Tryz.func68 rfl (by kernel_rfl) rfl ?_;intro Z a;(repeat first|refine tA rfl ?_ |refine s2 rfl λ_ i=>?_ |refine sP rfl (c) rfl ?_ |refine aU rfl ?_ |refine Aa ?_)
  ((refine aC rfl ?_ ?_<;>rintro⟨⟩);all_goals try(exfalso;(simp only[oZ] at *;omega)))
  refine aK ?_;(repeat first|refine aU rfl ?_);refine rG ⟨Gg [(7,1),(10,1)],bE [0,1,2,3,4,6,8,5,7,9,10,11]⟩ (by kernel_rfl) ?_;(repeat first|(refine sX rfl ?_ ?_;first|exact tI|omega) |refine sP rfl (g) rfl ?_|refine sP rfl (b) rfl ?_);(refine pW rfl ?_ rfl (by rfl);refine Ck [] rfl rfl 0 (JJ p (O4 hI.hp)) (by decide) ⟨rfl,by decide,by decide⟩ rfl (by simp[cX,zC,a,cN]) ?_;rintro r j k ⟨l,q,rfl,rfl,rfl⟩ _);(repeat first|refine tX rfl ?_|(refine Ag rfl ?_;refine gA rfl ?_;first| refine gS (λ_ _=>AG rfl rfl (by rfl) (by rfl)) ?_) |refine Aa ?_);refine Aj.Ay [] [] rfl rfl [(6,.o (.ptr 0 7 0 0)),(7,eB true)] [(0,.cells 87 7 [[.d (iD s.al),.d (iD s.st),.d (Ev s.es),.d (iD p.al),.arr 1 1 0 l.length,.arr 2 1 0 p.ac.length,.d (iD ai)]]),(1,.cells 64 1 (AA l)),(2,.cells 4 1 (p.ac.map AT)),(3,.sld 3 (sI l))] [0,1,2,3] (rl a rfl) (by (simp[cX,zC,a,cN,BU,Ae,eC])) ?_;(try dsimp only[cA,cB]);refine Aj.AF [0,1,2,3] [(6,.o (.ip (Mt ⟨s,⟨p.al,l.map (·.2),p.ac⟩,ai⟩))),(7,eB true)] ⟨⟨_,rfl,.inr (.o (.box rfl (.cons .d (.cons .d (.cons .d (.cons .d (.cons (.Ni (s:=3) rfl rfl) (.cons (.full rfl (by simp [d5]) (by simp)) (.cons .d .nil)))))))))⟩,⟨_,rfl,.inl rfl⟩,trivial⟩ ?_;rw [q];(subst_vars;exact aR ⟨_,rfl,rfl⟩)
theorem N5(w:W)(al:Int)(p:w.length<=1048576):Pure Tryz.prog TB 58 [eT w,eI .i64 al] (eT (IY al w)):=by
 refine eG Tryz.func58 rfl (by kernel_rfl) rfl ?_;intro Z d;(repeat first|refine tM rfl ?_ |refine aU rfl ?_ |refine Aa ?_);(refine pW rfl ?_ rfl (by rfl);refine Hp 1 5 ?_);(repeat first|refine tM rfl ?_ |refine aU rfl ?_ |refine Aa ?_);refine aB ?_;refine aL (α:={k:Nat // k<=w.length}) [0,1,8] [] rfl rfl (λ⟨k,hk⟩=>[(5,.o (.arr 0 1 0 (IY al (w.take k)).length)),(9,eI .i64 k)]) (λ⟨k,hk⟩=>[(0,.cells 5 1 ((IY al (w.take k)).map FJ))]) 1 (λ⟨k,hk⟩=>w.length - k) (⟨0,by omega⟩) d rfl (by (repeat' first|exact tI|rfl|refine And.intro ?_ ?_)) ?_;rintro⟨k,hk⟩;(try dsimp only[cA,cB]);by_cases i:k < w.length
 ·obtain⟨c,n⟩:=get_some i
  have j:w[((k:Nat):Int).toNat]? = some c:=by simpa using n
  have e:=Tg (TB:=TB) w k c j;have a:=MZ (TB:=TB) al (if Gn c then (c.toNat:Int) - 97 else -1);rw [UI] at a;generalize (if Gn c then (c.toNat:Int) - 97 else -1:Int)=l at e a;have b:=Sj (al:=al) n;have h:=Vv al (w.take k);rw [p7] at h;(repeat first|refine s2 rfl λ_ f=>?_ |refine aU rfl ?_ |refine Aa ?_)
  ((refine aC rfl ?_ ?_<;>rintro⟨⟩);all_goals try(exfalso;(simp only[oZ] at *;omega)))
  refine aK ?_;refine aS (aB ?_);cases g:It al c
  ·rw [g] at a b
   (repeat first|refine tA rfl ?_ |refine sP rfl (e) rfl ?_|refine sP rfl (a) rfl ?_ |refine aU rfl ?_ |refine Aa ?_)
   ((refine aC rfl ?_ ?_<;>rintro⟨⟩);all_goals try (simp at f;done))
   refine aK ?_;(repeat first|(refine sA rfl ?_ ?_;first|exact tI|omega) |refine aU rfl ?_ |refine Aa ?_);refine⟨⟨k+1,by omega⟩,by dsimp only;(omega),[0],?_⟩;simp[cX,zC,d,b,FJ,FY]
  ·rw [g] at a b
   (repeat first|refine tA rfl ?_ |refine sP rfl (e) rfl ?_|refine sP rfl (a) rfl ?_ |refine aU rfl ?_ |refine Aa ?_)
   ((refine aC rfl ?_ ?_<;>rintro⟨⟩);all_goals try (simp at f;done))
   (repeat first|refine tA rfl ?_ |(refine s4 rfl ‹_› rfl ?_ ?_;omega) |refine aU rfl ?_);(refine pW rfl ?_ rfl (by rfl);refine Au rfl rfl rfl (by first| (simp;done)|(simp;(omega))) rfl (by intro r m;simp at m;subst m;rfl) (by rfl) (am rfl) (by simp;omega) ?_);(repeat first|(refine sX rfl ?_ ?_;first|exact tI|omega) |refine aU rfl ?_ |refine Aa ?_);refine⟨⟨k+1,by omega⟩,by dsimp only;(omega),[1],?_⟩;simp[cX,zC,d,b,FY,FJ,pv]
 ·obtain rfl:k=w.length:=by omega
  rw [gt] at *;(repeat first|refine s2 rfl λ_ f=>?_ |refine aU rfl ?_ |refine Aa ?_)
  ((refine aC rfl ?_ ?_<;>rintro⟨⟩);all_goals try(exfalso;(simp only[oZ] at *;omega)))
  refine aE ?_;(repeat first|refine tM rfl ?_|(refine Ag rfl ?_;refine gA rfl ?_;first| refine gQ (OO (IY al w) rfl rfl (by simp) (by first| rw [pu,gc (by simp)]|rw [pu,TL,gc (by simp)])) (by rfl) ?_) |refine aU rfl ?_ |refine Aa ?_);(subst_vars;exact aR ⟨_,rfl,rfl⟩)
theorem IW[Dc TB](s:Sys)(p:AY):Pure Tryz.prog TB 18 [Br s,Bj p] (Lv (Bx [s] p)):=by
 refine eN Tryz.func18 rfl (by kernel_rfl) rfl ?_;intro Z a;(repeat' first|refine tA rfl ?_ |refine sP rfl (Dz [s] p) rfl ?_ |refine aU rfl ?_ |refine Aa ?_|(refine aC rfl ?_ ?_<;>rintro⟨⟩)|refine aK ?_|refine aE ?_|refine aB ?_|refine aR ⟨_,rfl,?_⟩)
 all_goals rfl
theorem Fj[Dc TB](s:Sys)(p:AY):Pure Tryz.prog TB 129 [Br s,Bj p] (Lv (Bx [s] p)):=by
 refine eN Tryz.func129 rfl (by kernel_rfl) rfl ?_;intro Z a;(repeat' first|refine tA rfl ?_ |refine sP rfl (Fk [s] p) rfl ?_ |refine aU rfl ?_ |refine Aa ?_|(refine aC rfl ?_ ?_<;>rintro⟨⟩)|refine aK ?_|refine aE ?_|refine aB ?_|refine aR ⟨_,rfl,?_⟩)
 all_goals rfl
section
variable {tabs:List (Nat×Obj)}[hTb:Dc ⟨tabs,none⟩]{te:EF}
include hTb
end
theorem ZK(l:List Ef)(h:l.length<=1048576):Spec Tryz.prog TB 107 [] 0 [.o (.d (Ev l))] (λx σ nx=>x=.o (.arr 0 3 0 l.length)/\nx=1/\σ=[(0,.cells 116 3 (l.map Bg))]):=by
 refine eN Tryz.func107 rfl (by kernel_rfl) rfl ?_;intro Z a;(repeat first|refine aU rfl ?_);(refine Ag rfl ?_;refine CI (λ_ _=>CL rfl) rfl ?_);(repeat first|refine tM rfl ?_ |refine aU rfl ?_ |refine Aa ?_);(refine pW rfl ?_ rfl (by rfl);refine LV rfl ?_;intro e b);(repeat first|refine Aa ?_);(refine aC rfl ?_ ?_<;>rintro⟨⟩)
 ·obtain rfl:l=[]:=by simpa using b rfl
  (repeat first|refine aU rfl ?_);(refine pW rfl ?_ rfl (by rfl);refine Hp 3 116 ?_);(repeat first|refine Aa ?_);refine aR ⟨_,rfl,rfl,rfl,rfl⟩
 ·refine aK ?_
  (repeat first|refine aU rfl ?_);(refine pW rfl ?_ rfl (by rfl);refine Bk rfl rfl rfl rfl (by simp) (by rfl) (by rfl) (by rfl) (by rfl) ?_);(repeat first|refine tM rfl ?_);(refine pW rfl ?_ rfl (by rfl);refine Au rfl rfl rfl (by first| (simp;done)|(simp;(omega))) rfl (by intro r c;simp only [pz,d8] at c;obtain⟨_,_,rfl⟩:=c;rfl) (by rfl) (am rfl) (by simp;omega) ?_);(repeat first|refine tM rfl ?_ |refine Aa ?_);refine Aj.names [1] [(2,.o (.arr 0 3 0 l.length))] [(0,.cells 116 3 (l.map Bg))] (by intro i hi;rw [a] at hi;omega) (by simp) (by simp[cX,zC,a]) (by simp[cX,zC,a]) ?_;refine aR ⟨_,rfl,rfl,rfl,rfl⟩
theorem Kj(s:Sys)(p:AY)(t:Sys)(f:s.es.length<=1048576):Pure Tryz.prog TB 63 [Br s,Bj p,Br t] (nJ (VQ s p t)):=by
 have b:=GQ (TB:=TB) s p t;unfold VQ;by_cases i:AZ s p t < 0
 ·rw [if_pos i]
  refine eG Tryz.func63 rfl (by kernel_rfl) rfl ?_;intro Z a;(repeat first|refine tA rfl ?_ |refine s2 rfl λ_ j=>?_ |refine sP rfl (b) rfl ?_ |refine aU rfl ?_ |refine Aa ?_)
  ((refine aC rfl ?_ ?_<;>rintro⟨⟩);all_goals try(exfalso;(simp only[oZ] at *;omega)))
  (repeat first|refine tA rfl ?_|(refine Ag rfl ?_;refine gA rfl ?_;first| refine gS (λ_ _=>AG rfl rfl (by rfl) (by rfl)) ?_) |refine aU rfl ?_ |refine Aa ?_);(subst_vars;exact aR ⟨_,rfl,rfl⟩)
 ·rw [if_neg i]
  have hI:=FO i;have h:=ZK (TB:=TB) s.es f;have g:=MQ (TB:=TB) p ((O4 hI.hp).upto (by omega));generalize AZ s p t=ai at *;refine eG Tryz.func63 rfl (by kernel_rfl) rfl ?_;intro Z a;(repeat first|refine aU rfl ?_);(refine pW rfl ?_ rfl (by rfl);refine De rfl rfl ?_);(repeat first|refine tA rfl ?_ |refine s2 rfl λ_ j=>?_ |refine sP rfl (b) rfl ?_ |refine aU rfl ?_ |refine Aa ?_)
  ((refine aC rfl ?_ ?_<;>rintro⟨⟩);all_goals try(exfalso;(simp only[oZ] at *;omega)))
  refine aK ?_;(repeat first|refine tA rfl ?_ |refine aU rfl ?_);(refine pW rfl ?_ rfl (by rfl);refine Ai [] rfl rfl (h) ⟨rfl,by decide,by decide⟩ rfl (by simp[cX,zC,a,cN]) ?_;rintro k c e ⟨rfl,rfl,rfl⟩ _);(repeat first|refine tA rfl ?_ |refine aU rfl ?_ |refine Aa ?_);refine rG ⟨Gg [(0,10),(2,1001),(5,1)],bE [0,1,3,2,4,5,6]⟩ (by kernel_rfl) ?_;(repeat first|refine tA rfl ?_);(refine Ag rfl ?_;refine Da ?_ rfl ⟨rfl,rfl⟩;refine Ck [] rfl rfl 0 g (by decide) ⟨rfl,by decide,by decide⟩ rfl (by simp[cX,zC,a,cN]) ?_;rintro k c e ⟨l,m,rfl,rfl,rfl⟩ _;refine⟨Fi 0 rfl rfl,?_⟩);(repeat first|refine tA rfl ?_|(refine Ag rfl ?_;refine gA rfl ?_;first| refine gS (λ_ _=>AG rfl rfl (by rfl) (by rfl)) ?_) |refine Aa ?_);refine Aj.Ay [] [] rfl rfl [(6,.o (.ptr 0 7 0 0)),(7,eB true)] [(0,.cells 87 7 [[.d (iD s.al),.d (iD s.st),.arr 1 3 0 s.es.length,.d (iD p.al),.arr 2 1 0 l.length,.arr 3 1 0 p.ac.length,.d (iD ai)]]),(1,.cells 116 3 (s.es.map Bg)),(2,.cells 64 1 (AA l)),(3,.cells 4 1 (p.ac.map AT)),(4,.sld 3 (sI l))] [1,2,3,4,5] (rl a rfl) (by (simp[cX,zC,a,cN,BU,Ae,eC])) ?_;(try dsimp only[cA,cB]);refine Aj.AF [0,1,2,3,4] [(6,.o (.ip (Mt ⟨s,⟨p.al,l.map (·.2),p.ac⟩,ai⟩))),(7,eB true)] ⟨⟨_,rfl,.inr (.o (.box rfl (.cons .d (.cons .d (.cons (.full rfl (by simp [d5]) (by simp)) (.cons .d (.cons (.Ni (s:=4) rfl rfl) (.cons (.full rfl (by simp [d5]) (by simp)) (.cons .d .nil)))))))))⟩,⟨_,rfl,.inl rfl⟩,trivial⟩ ?_;rw [m];(subst_vars;exact aR ⟨_,rfl,rfl⟩)
end Go.Am
namespace Go.Am
open Go
section
variable {P:Program}{TB:BC}{Z:Ctx}{σ:Ab}
theorem Inv.freeze{V:View}(hi:Inv TB Z V σ)(ids:List Nat):Inv TB Z (Ge V (GY σ ids)) (BY ids σ):=by
 have g:∀id o,look (GY σ ids) id=some o->look σ id=some o:=λid o h=>(Ex h).2;have e:Ext V (Ge V (GY σ ids)):=Lm;refine⟨hi.os,hi.tape,hi.output,hi.old,?_,?_,hi.ext.trans e,⟨?_,?_,?_,?_⟩,?_,λx n=>⟨.inl (hi.tabs x n).1,(hi.tabs x n).2⟩,hi.hid.same rfl (λ_ h=>.inl h) (λb hb=>hb.elim .inl λ⟨id,o,a,c,m⟩=>.inr ⟨id,o,g _ _ a,c,m⟩) λb ⟨id,o,a,c,hb⟩=>have f:=(A8 ids σ id o a).2;⟨id,o,f,c,(AB e (hi.st.lt id o f)).1 hb⟩⟩
 ·rintro b (hb|⟨id,o,a,c,hb⟩)
  ·exact hi.iLt b hb
  ·exact(hi.st.obj id o (g _ _ a)).blt c hb
 ·rintro b (hb|⟨id,o,a,c,hb⟩)
  ·exact hi.iNew b hb
  ·exact .inr (hi.live id o (g _ _ a) c b hb)
 ·intro id o a
  have:=(A8 ids σ id o a).2;exact(hi.st.obj id o this).AR e (hi.st.lt id o this) λ_ _ _=>rfl
 ·intro id o a;exact hi.st.lt id o (A8 ids σ id o a).2
 ·intro id o a c b d hb
  obtain⟨q,f⟩:=A8 ids σ id o a;have d:=(AB e (hi.st.lt id o f)).1 d
  rcases hb with hb|⟨id',o',j,i,m⟩
  ·exact hi.st.free id o f c b d hb
  ·have p:=Ex j
   exact hi.st.inj id id' o o' f p.2 (λe=>q (e ▸ p.1)) c i b d m
 ·intro id id' o o' a j l c i b hb d
  have f:=(A8 ids σ id o a).2;have k:=(A8 ids σ id' o' j).2;exact hi.st.inj id id' o o' f k l c i b ((AB e (hi.st.lt id o f)).1 hb) ((AB e (hi.st.lt id' o' k)).1 d)
 ·intro id o a c b hb
  have f:=(A8 ids σ id o a).2;exact hi.live id o f c b ((AB e (hi.st.lt id o f)).1 hb)
theorem dC{V:View}{e:E}{x:Bool×List C}{v:Value}(h:Nk e=some x)(ht:MK V x v):Bo V e v:=by
 cases e with
 | o c=>injection h with h;subst h;obtain⟨c',b,d⟩:=ht;injection b with b;subst b;exact d
 | a cs=>injection h with h;subst h;exact ht
 | t=>cases h
 | e=>cases h
inductive FT (σ:Ab):List (Bool×List C)->List (Bool×List C)->Prop
 | nil:FT σ [] []
 | cons {e e':E} {x x':Bool×List C} {xs xs':List (Bool×List C)}:Nk e=some x->Nk e'=some x'->EZ σ e e'->FT σ xs xs'->FT σ (x::xs) (x'::xs')
theorem FT.get{xs xs':List (Bool×List C)}(h:FT σ xs xs'):xs'.length=xs.length/\∀(j:Nat) x',xs'[j]? = some x'->∃x e e',xs[j]? = some x/\Nk e=some x/\Nk e'=some x'/\EZ σ e e':=by
 induction h with
 | nil=>exact⟨rfl,λj x h=>by simp at h⟩
 | @cons e e' x x' xs xs' f d c _ b=>
  refine⟨by simp [b.1],λj y a=>?_⟩
  cases j with
  | zero=>simp at a;subst a;exact⟨x,e,e',rfl,f,d,c⟩
  | succ j=>exact b.2 j y (by simpa using a)
theorem FT.rel{V:View}{xs xs':List (Bool×List C)}(hi:Inv TB Z V σ)(h:FT σ xs xs'){v:Value}(c:Bo V (.t xs) v):Bo (Ge V σ) (.t xs') v:=by
 obtain⟨vs,k,i,g⟩:=c;obtain⟨d,f⟩:=h.get;refine⟨vs,k,by rw [i,d],λj x' v' a b=>?_⟩;obtain⟨x,e,e',o,n,m,l⟩:=f j x' a;exact FV m (l.rel hi (dC n (g j x v' o b)))
theorem AQ.toPure{g:FuncId}{args:List E}{post:E->Ab->Nat->Prop}{r:E}(h:AQ P TB g 0 [] 0 args post)
 (e:∀x σ nx,post x σ nx->∃ids,EZ (GY σ ids) x r\/∃xs xs',x=.t xs/\r=.t xs'/\FT (GY σ ids) xs xs'):Pure P TB g args r:=
 ⟨h.1,λV vs S c ha=>(h.2 V vs S c ha).mono λ_ _ ⟨V',v,x,σ',k,j,b,d,i⟩=>by
  obtain⟨ids,a⟩:=e _ _ _ i
  have f:KL V 0=V:=by have:=c.nx;unfold KL;rw [<-this]
  rw [f] at b;have hi:=b.sub λid o h=>(Ex (σ:=σ') (ids:=ids) h).2;refine⟨Ge V' (GY σ' ids),v,r,BY ids σ',k,j,b.freeze ids,?_,rfl⟩
  rcases a with a|⟨xs,xs',rfl,rfl,a⟩
  ·exact a.rel hi d
  ·exact a.rel hi d⟩
end
section
variable {P:Program}{TB:BC}
end
end Go.Am
namespace Go.Am
open Go Go.Proofs
set_option maxHeartbeats 1000000
set_option maxRecDepth 4000
attribute [local irreducible] A3 Cp Lex Bl Aj Spec
variable {TB:BC}
end Go.Am
namespace Go.Am
open Go Go.Proofs
set_option linter.unusedVariables false
theorem Kg{σ:Ab}{T U S:TypeId}{i j k n m:Nat}{al:Int}{l:IM}{nx:List (List Int)}{ac:List Bool}(h:look σ i=some (.cells T 1 (AA l)))(g:look σ j=some (.cells U 1 (ac.map AT)))(f:look σ k=some (.sld S (sI l)))(e:l.map (·.2)=nx)(b:l.length=n)(c:ac.length=m):EZ σ (.a [.d (iD al),.arr i 1 0 n,.arr j 1 0 m]) (.a [.d (iD al),.d (C4 nx),.d (Ff ac)]):=by
 subst b c e;exact .a (ds:=[iD al,C4 (l.map (·.2)),Ff ac]) (.cons .d (.cons (.Ni h f) (.cons (.full g (by simp [d5]) (ge _)) .nil)))
end Go.Am
namespace Go.Am
open Go Go.Proofs
set_option maxHeartbeats 1000000
set_option maxRecDepth 4000
attribute [local irreducible] A3 Cp Lex Bl Aj Spec
section
variable {s t:Sys}{p:AY}{al:Int}(hI:Fe s p t al)
include hI
theorem jZ:(BG s t p).rd=(BN s t p al).length:=by
 obtain⟨x,_,_,a⟩:=Ig hI
 rcases a with ⟨e,_⟩|⟨e,_⟩|⟨e,_⟩<;>rw [e]
end
theorem mJ{s t:Sys}{p:AY}(h:¬AZ s p t < 0):1<=(BG s t p).rd/\(BG s t p).rd<=12/\
    (((BG s t p).code=0/\Cs [s,t] p=true/\(BG s t p).tr=[]/\(BG s t p).rd<=(BG s t p).a.nx.length/\GM s t p (BG s t p).a=0)\/
     ((BG s t p).code=2/\(BG s t p).tr=[]/\(BG s t p).a=IZ)\/
     ((BG s t p).code=1/\Cs [s,t] p=false/\(BG s t p).a=IZ/\(BG s t p).tr=ML (Bx [s,t] p)/\(Bx [s,t] p).isSome=true)):=by
  have hI:=FO h;have g:=jZ hI;have i:=ID hI;refine⟨by omega,by omega,?_⟩;have hk:=Ih h;obtain⟨x,c,_,f⟩:=Ig hI;obtain⟨_,_,j,_⟩:=Hu hI c;have d:=c.rows
  rcases f with ⟨e,b⟩|⟨e,_⟩|⟨e,b⟩
  · rw [e] at hk |-
    refine .inl ⟨rfl,?_,rfl,?_,b⟩
    · rcases hk with ⟨_,hk,_⟩|⟨hk,_⟩|⟨hk,_⟩
      · exact hk
      · cases hk
      · cases hk
    · show ((BN s t p (AZ s p t)).length:Int)<=((BJ s p (AZ s p t) x).nx.length:Nat)
      omega
  · rw [e];exact .inr (.inl ⟨rfl,rfl,rfl⟩)
  · rw [e];exact .inr (.inr ⟨rfl,b.1,rfl,rfl,b.2⟩)
theorem bZ{s t:Sys}{p:AY}{al:Int}(hI:Fe s p t al){x:A2}{r:Nat}(a:GH s p al x r):ZF (Dm s p al) x=some (BJ s p al x):=by
 unfold ZF;rw [MP a.v,IS,DM,a.o,if_pos (by rfl:(none:Option W).isNone=true)];rfl
end Go.Am
namespace Go.Am
open Go Go.Proofs
set_option maxHeartbeats 1000000
set_option maxRecDepth 4000
attribute [local irreducible] A3 Cp Lex Bl Aj Spec
variable {TB:BC}
theorem bY(s:Sys)(p:AY)(al:Int):Kr Tryz.prog TB 123 170 (Dm s p al) (En (Dm s p al)) (FA (Dm s p al)):=ja (t:=Dm s p al) rfl
theorem fe{te:EF}:0<=En te->Bb (En te)=true:=λh=>by
 unfold En at *;split at h
 ·rename_i hk;rw [if_pos hk];exact Hc hk
 ·omega
theorem bf(s:Sys)(p:AY)(al:Int):Pure Tryz.prog TB 69 [EL (Dm s p al)] (IN (Tp (Dm s p al))):=by
 rw [<-jF];exact Ts (bY s p al)
theorem bg(s:Sys)(p:AY)(al:Int)(x:A2)(a:VZ x):Pure Tryz.prog TB 70 [EL (Dm s p al),Eh x] (iz (ZF (Dm s p al) x)):=by
 rw [<-jc];exact Ht (bY s p al) x a
theorem XE(s:Sys)(p:AY)(al:Int)(x:A2)(a:VZ x)(w:W)(b:w.length<=4000):Pure Tryz.prog TB 74 [EL (Dm s p al),Eh x,eT w] (IN (Kq (Dm s p al) x w)):=by
 rw [<-hX];exact QU (bY s p al) (fe (te:=Dm s p al)) x a w (by omega)
theorem IQ(w:W)(al:Int)(m:ED w=true)(ha:Bb al=true)(x:w.length<=50000):Pure Tryz.prog TB 128 [eT w,eI .i64 al] (eT (IY al w)):=by
 have u:=MC (TB:=TB) w (by omega);have t:=Dw (TB:=TB) al
 have l:∀c∈w,Gn c=true:=by
  unfold ED at m;rw [d4,f7] at m;exact m.2
 rw [m] at u;rw [ha] at t;refine eG Tryz.func128 rfl (by kernel_rfl) rfl ?_;intro Z d;(repeat first|refine tA rfl ?_ |refine s2 rfl λ_ b=>?_ |refine sP rfl (u) rfl ?_|refine sP rfl (t) rfl ?_ |refine s3 rfl ?_ ?_<;>rintro rfl |refine aU rfl ?_ |refine Aa ?_)
 (repeat' first|refine tA rfl ?_ |refine s2 rfl λ_ b=>?_ |refine sP rfl (u) rfl ?_|refine sP rfl (t) rfl ?_ |refine aU rfl ?_ |refine Aa ?_|(refine aC rfl ?_ ?_<;>rintro⟨⟩));all_goals try contradiction
 refine aK ?_;(repeat first|refine aU rfl ?_);(refine pW rfl ?_ rfl (by rfl);refine Bk rfl rfl rfl rfl (by simp) (by rfl) (by rfl) (by rfl) (by rfl) ?_);(repeat first|refine tX rfl ?_ |refine aU rfl ?_ |refine Aa ?_);refine aB ?_;refine aL (α:={k:Nat // k<=w.length}) [0,1] [] rfl rfl (λ⟨k,hk⟩=>[(5,.o (.arr 0 1 0 (IY al (w.take k)).length)),(6,eI .i64 k)]) (λ⟨k,hk⟩=>[(0,.cells 5 1 ((IY al (w.take k)).map FJ))]) 1 (λ⟨k,hk⟩=>w.length - k) (⟨0,by omega⟩) d rfl (by (simp[cX,zC,d,IY])) ?_;rintro⟨k,hk⟩;(try dsimp only[cA,cB]);by_cases p:k < w.length
 ·obtain⟨c,s⟩:=get_some p
  have q:w[((k:Nat):Int).toNat]? = some c:=by simpa using s
  have i:=l c (co s);have h:=i;rw [FK,decide_eq_true_eq] at h;have g:=Iu (TB:=TB) w k c q;have a:=C8 (TB:=TB) al ((c.toNat:Int) - 97) (by omega) (by omega)
  have e:AX al ((c.toNat:Int) - 97).toNat=It al c:=by
   unfold It;rw [i,o5];congr 1;omega
  rw [e] at a;have f:=Sj (al:=al) s;have n:=Vv al (w.take k);rw [p7] at n;(repeat first|refine tA rfl ?_ |refine s2 rfl λ_ b=>?_ |refine aU rfl ?_ |refine Aa ?_)
  ((refine aC rfl ?_ ?_<;>rintro⟨⟩);all_goals try(exfalso;(simp only[oZ] at *;omega)))
  refine aK ?_;refine aS (aB ?_);cases j:It al c
  ·rw [j] at a f
   (repeat first|refine tA rfl ?_ |refine sP rfl (g) rfl ?_|refine sP rfl (a) rfl ?_ |refine aU rfl ?_ |refine Aa ?_)
   ((refine aC rfl ?_ ?_<;>rintro⟨⟩);all_goals try (simp at b;done))
   refine aK ?_;(repeat first|(refine sA rfl ?_ ?_;first|exact tI|omega) |refine aU rfl ?_ |refine Aa ?_);refine⟨⟨k+1,by omega⟩,by dsimp only;(omega),[0],?_⟩;simp[cX,zC,d,f,FJ,FY]
  ·rw [j] at a f
   (repeat first|refine tA rfl ?_ |refine sP rfl (g) rfl ?_|refine sP rfl (a) rfl ?_ |refine aU rfl ?_ |refine Aa ?_)
   ((refine aC rfl ?_ ?_<;>rintro⟨⟩);all_goals try (simp at b;done))
   (repeat first|refine tA rfl ?_ |(refine s4 rfl ‹_› rfl ?_ ?_;omega) |refine aU rfl ?_);(refine pW rfl ?_ rfl (by rfl);refine Au rfl rfl rfl (by first| (simp;done)|(simp;(omega))) rfl (by intro r v;simp at v;subst v;rfl) (by rfl) (am rfl) (by simp;omega) ?_);(repeat first|(refine sX rfl ?_ ?_;first|exact tI|omega) |refine aU rfl ?_ |refine Aa ?_);refine⟨⟨k+1,by omega⟩,by dsimp only;(omega),[1],?_⟩;simp[cX,zC,d,f,FY,FJ,pv,Nq]
 ·obtain rfl:k=w.length:=by omega
  rw [gt] at *;(repeat first|refine tA rfl ?_ |refine s2 rfl λ_ b=>?_ |refine aU rfl ?_ |refine Aa ?_)
  ((refine aC rfl ?_ ?_<;>rintro⟨⟩);all_goals try(exfalso;(simp only[oZ] at *;omega)))
  refine aE ?_;(repeat first|refine tM rfl ?_|(refine Ag rfl ?_;refine gA rfl ?_;first| refine gQ (OO (IY al w) rfl rfl (by simp) (by first| rw [pu,gc (by simp)]|rw [pu,TL,gc (by simp)])) (by rfl) ?_) |refine aU rfl ?_ |refine Aa ?_);(subst_vars;exact aR ⟨_,rfl,rfl⟩)
abbrev kY(w:W)(c:Int):E:=.t [(false,[.d (tD w)]),(false,[.d (iD c)])]
section
variable [Dc TB]{s t:Sys}{p:AY}{al:Int}(hI:Fe s p t al)
include hI
theorem UL{a:AY}(h:FX s t p al a=none):Pure Tryz.prog TB 71 [Br t,QM ⟨s,p,al⟩,Bj a] (kY [] 0):=by
 obtain⟨f,e⟩:=Vu h;have c:=Fm (TB:=TB) s a p;have b:=Fj (TB:=TB) t a;rw [f] at c;rw [e] at b;refine eG Tryz.func71 rfl (by kernel_rfl) rfl ?_;intro Z d;(repeat first|refine tA rfl ?_ |refine sP rfl (c) rfl ?_|refine sP rfl (b) rfl ?_ |refine aU rfl ?_ |refine Aa ?_)
 (repeat' first|refine sP rfl (c) rfl ?_|refine sP rfl (b) rfl ?_|(refine aC rfl ?_ ?_<;>rintro⟨⟩));all_goals try contradiction
 refine aK ?_;(repeat first|refine tA rfl ?_ |refine s2 rfl λ_ g=>?_ |refine sP rfl (b) rfl ?_ |refine aU rfl ?_ |refine Aa ?_)
 (repeat' first|refine tA rfl ?_ |refine sP rfl (b) rfl ?_ |refine aU rfl ?_ |refine Aa ?_|(refine aC rfl ?_ ?_<;>rintro⟨⟩));all_goals try contradiction
 (subst_vars;exact aR ⟨_,rfl,rfl⟩)
theorem UM{a:AY}{w:W}{b:Bool}(h:FX s t p al a=some (w,b))(m:AS (A4 al) w)(r:w.length<=4000):Pure Tryz.prog TB 71 [Br t,QM ⟨s,p,al⟩,Bj a] (kY w (if (b || LS ⟨s,p,al⟩ w)=true then -1 else 1)):=by
 have hal:=Pp hI;have d:=Fm (TB:=TB) s a p;have i:=Fj (TB:=TB) t a
 rcases Vt hI h with ⟨u,rfl,l,k,j,n⟩|⟨u,rfl,o,l,k,j,n⟩
 ·rw [l] at d
  have e:=IQ (TB:=TB) (CQ u) al (Qz j (by omega)) hal (by omega);rw [k] at e;rw [Bool.true_or,if_pos rfl];refine eG Tryz.func71 rfl (by kernel_rfl) rfl ?_;intro Z f;(repeat first|refine tA rfl ?_ |refine sP rfl (d) rfl ?_ |refine aU rfl ?_ |refine Aa ?_)
  (repeat' first|refine tA rfl ?_ |refine sP rfl (d) rfl ?_|refine sP rfl (e) rfl ?_ |refine aU rfl ?_ |refine Aa ?_|(refine aC rfl ?_ ?_<;>rintro⟨⟩));all_goals try contradiction
  (subst_vars;exact aR ⟨_,rfl,rfl⟩)
 ·rw [o] at d
  rw [l] at i;have e:=IQ (TB:=TB) (CQ u) al (Qz j (by omega)) hal (by omega);rw [k] at e;have g:=N7 (TB:=TB) ⟨s,p,al⟩ w (by omega);rw [Sn (ER hI) w m (by omega)] at g;rw [qR];generalize LS ⟨s,p,al⟩ w=q at *;refine eG Tryz.func71 rfl (by kernel_rfl) rfl ?_;intro Z f;(repeat first|refine tA rfl ?_ |refine sP rfl (d) rfl ?_ |refine aU rfl ?_ |refine Aa ?_)
  (repeat' first|refine sP rfl (d) rfl ?_|(refine aC rfl ?_ ?_<;>rintro⟨⟩));all_goals try contradiction
  refine aK ?_;(repeat first|refine tA rfl ?_ |refine s2 rfl λ_ c=>?_ |refine sP rfl (i) rfl ?_ |refine aU rfl ?_ |refine Aa ?_)
  (repeat' first|refine tA rfl ?_ |refine sP rfl (i) rfl ?_ |refine aU rfl ?_ |refine Aa ?_|(refine aC rfl ?_ ?_<;>rintro⟨⟩));all_goals try contradiction
  refine aK ?_;(repeat first|refine tA rfl ?_ |refine sP rfl (e) rfl ?_ |refine aU rfl ?_ |refine Aa ?_);cases q
  ·(repeat first|refine s2 rfl λ_ c=>?_ |refine sP rfl (g) rfl ?_ |refine Aa ?_)
   ((refine aC rfl ?_ ?_<;>rintro⟨⟩);all_goals try (simp at c;done))
   (repeat first|refine tA rfl ?_ |refine aU rfl ?_ |refine Aa ?_);(subst_vars;exact aR ⟨_,rfl,rfl⟩)
  ·(repeat first|refine s2 rfl λ_ c=>?_ |refine sP rfl (g) rfl ?_ |refine Aa ?_)
   ((refine aC rfl ?_ ?_<;>rintro⟨⟩);all_goals try (simp at c;done))
   refine aK ?_;(repeat first|refine tA rfl ?_ |refine aU rfl ?_ |refine Aa ?_);(subst_vars;exact aR ⟨_,rfl,rfl⟩)
end
theorem FD(r:Option (List Int)):E.Om (Lv r):=by
 show ∀x∈[(false,[C.d (tD (ML r))]),(false,[C.d (bD r.isSome)])],∀c∈x.2,C.Om c=true
 simp [C.Om]
theorem mz(v:Vd):Pure Tryz.prog TB 14 [fk v,fk v] (eB true):=by
 have c:=iV (TB:=TB) v.a;refine eG Tryz.func14 rfl (by kernel_rfl) rfl ?_;intro Z b
 (repeat' first|refine tA rfl ?_ |refine s2 rfl λ_ d=>?_ |refine sP rfl (c) rfl ?_ |refine s3 rfl ?_ ?_<;>rintro rfl |refine aU rfl ?_ |refine Aa ?_|(refine aC rfl ?_ ?_<;>rintro⟨⟩));all_goals try contradiction
 all_goals first
  | (exfalso;simp at *;done)
  | (refine aR ⟨_,rfl,?_⟩;show E.o _=E.o _;congr;first| done|grind)
end Go.Am
