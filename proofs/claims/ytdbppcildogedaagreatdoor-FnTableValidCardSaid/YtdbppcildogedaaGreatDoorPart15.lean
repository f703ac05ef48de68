/-
  A set of pairs gets its number: walked.
-/
import Derived.Test.YtdbppcildogedaaGreatDoorPart14
import Derived.Test.YtdbppcildogedaaGreatDoorPart13
import Derived.Test.YtdbppcildogedaaGreatDoorPart12
set_option linter.constructorNameAsVariable false
set_option linter.unusedSimpArgs false
set_option linter.unusedVariables false
namespace Go.Am
open Go Go.Proofs
set_option maxHeartbeats 1000000
attribute [local irreducible] QOp AOp Lex LexO AWp Spec
variable {TB:Amb}
inductive Reach (t:Tsk):PS→Prop
  | start:Reach t (startP t)
  | next {F:PS} {l:Int}:0≤l→l < 6→Reach t F→Reach t (nextP t l F)
theorem Reach.ok {t:Tsk} (ht:tskOk t=true) {F:PS} (h:Reach t F):PSok t F:=by
  induction h with
  | start=>exact startP_ok ht
  | next h0 h1 _ ih=>exact nextP_ok ht ⟨h0,h1⟩ ih
noncomputable def runP (t:Tsk):PS→W→PS
  | F,[]=>F
  | F,c::w=>runP t (nextP t ((c.toNat:Int) - 97) F) w
theorem runP_app {t:Tsk}:∀(u v:W) (F:PS),runP t F (u++v)=runP t (runP t F u) v
  | [],v,F=>rfl
  | c::u,v,F=>by simp only [List.cons_append,runP];exact runP_app u v _
def Rck (t:Tsk) (ok:W→Prop) (F:PS):Prop:=F=startP t∨∃u v,ok (u++v)∧F=runP t (startP t) u
def Few (t:Tsk) (ok:W→Prop):Prop:=∀l:List PS,l.Nodup→(∀F∈l,Rck t ok F)→l.length≤1099511627776
structure MemOk (t:Tsk) (ok:W→Prop) (m:Memo):Prop where
  l1:m.nx.length=m.F.length
  l2:m.un.length=m.F.length
  nd:m.F.Nodup
  rc:∀F∈m.F,Reach t F
  rk:∀F∈m.F,Rck t ok F
  un:∀(i:Nat) F,m.F[i]? = some F→m.un[i]? = some (badP t F)
  nx:∀(i:Nat) F,m.F[i]? = some F→∃r:List Int,m.nx[i]? = some r∧r.length=6∧∀l:Nat,l < 6→∃x,r[l]? = some x∧(x < 0∨∃j:Nat,x=j∧m.F[j]? = some (nextP t l F))
def addM (t:Tsk) (m:Memo) (G:PS):Memo:=⟨m.F++[G],m.nx++[[-1,-1,-1,-1,-1,-1]],m.un++[badP t G]⟩
theorem ps_eq {t:Tsk} (ht:tskOk t=true) {F G:PS} (hF:PSok t F) (hG:PSok t G) (h:psL F=psL G):F=G:=by
  have h4:=psL_inj h
  have h0:=autOk_head (tsk_aut ht)
  funext p
  rcases Nat.lt_or_ge p 12 with h5|h5
  · exact h4 p h5
  · rw [hF.z p (by omega),hG.z p (by omega)]
theorem mpS_get {l:List PS} {p:List Int×Int}:p∈mpS l↔∃(i:Nat) (F:PS),l[i]? = some F∧p=(psL F,(i:Int)):=by
  unfold mpS
  rw [List.mem_map]
  constructor
  · rintro ⟨⟨F,i⟩,h,rfl⟩
    exact ⟨i,F,List.mk_mem_zipIdx_iff_getElem?.1 h,rfl⟩
  · rintro ⟨i,F,h,rfl⟩
    exact ⟨(F,i),List.mk_mem_zipIdx_iff_getElem?.2 h,rfl⟩
theorem mpS_app (l:List PS) (G:PS):mpS (l++[G])=mpS l++[(psL G,(l.length:Int))]:=by
  unfold mpS
  rw [List.zipIdx_append]
  simp
theorem mpS_pw {t:Tsk} (ht:tskOk t=true) {l:List PS} (hn:l.Nodup) (hr:∀F∈l,Reach t F):(mpS l).Pairwise (fun a b=>a.1≠b.1):=by
  unfold mpS
  rw [List.pairwise_map,List.pairwise_iff_getElem]
  intro i j h1 h2 hij
  simp only [List.length_zipIdx] at h1 h2
  simp only [List.getElem_zipIdx]
  intro he
  have:=ps_eq ht ((hr _ (List.getElem_mem h1)).ok ht) ((hr _ (List.getElem_mem h2)).ok ht) he
  exact List.pairwise_iff_getElem.1 hn i j h1 h2 hij this
theorem mpS_keys {t:Tsk} (ht:tskOk t=true) {l:List PS} (hr:∀F∈l,Reach t F):KeysA 12 .u16 (mpS l):=fun p hp=>by
  obtain ⟨i,F,h1,rfl⟩:=mpS_get.1 hp
  exact ⟨rfl,wf16 ((hr F (List.mem_of_getElem? h1)).ok ht).lt⟩
theorem find_some {t:Tsk} (ht:tskOk t=true) {l:List PS} (hn:l.Nodup) (hr:∀F∈l,Reach t F) {G:PS} (hG:PSok t G) {v:Int} (h:findA (mpS l) (psL G)=some v):∃k:Nat,v=k∧l[k]? = some G:=by
  have:∃p∈mpS l,p.1=psL G:=by
    refine Classical.byContradiction fun hc=>?_
    have h2:findA (mpS l) (psL G)=none:=findA_none.2 fun p hp he=>hc ⟨p,hp,he⟩
    rw [h2] at h;cases h
  obtain ⟨p,hp,he⟩:=this
  have h3:=findA_get (mpS_pw ht hn hr) hp
  rw [he,h] at h3
  obtain ⟨i,F,h4,rfl⟩:=mpS_get.1 hp
  have:=ps_eq ht ((hr F (List.mem_of_getElem? h4)).ok ht) hG he
  subst this
  exact ⟨i,by injection h3,h4⟩
theorem find_none {l:List PS} {G:PS} (h:findA (mpS l) (psL G)=none):G∉l:=fun hG=>by
  obtain ⟨i,hi,he⟩:=List.getElem_of_mem hG
  exact findA_none.1 h (psL G,(i:Int)) (mpS_get.2 ⟨i,G,by rw [List.getElem?_eq_getElem hi,he],rfl⟩) rfl
theorem app_getL {α:Type} {l:List α} {a x:α} {i:Nat} (h:l[i]? = some x):(l++[a])[i]? = some x:=by
  rw [List.getElem?_append_left (List.getElem?_eq_some_iff.1 h).1];exact h
theorem app_invL {α:Type} {l:List α} {a x:α} {i:Nat} (h:(l++[a])[i]? = some x):l[i]? = some x∨i=l.length∧x=a:=by
  rcases Nat.lt_or_ge i l.length with h1|h1
  · rw [List.getElem?_append_left h1] at h;exact .inl h
  · rw [List.getElem?_append_right h1] at h
    have h2:i - l.length < 1:=(List.getElem?_eq_some_iff.1 h).1
    have h3:i=l.length:=by simp at h2;omega
    subst h3
    simp at h
    exact .inr ⟨rfl,h.symm⟩
theorem addM_ok {t:Tsk} {ok:W→Prop} {m:Memo} (hm:MemOk t ok m) {G:PS} (hG:Reach t G) (hk:Rck t ok G) (h:G∉m.F):MemOk t ok (addM t m G):=by
  refine ⟨by simp [addM,hm.l1],by simp [addM,hm.l2],?_,?_,?_,?_,?_⟩
  · show (m.F++[G]).Nodup
    rw [List.nodup_append]
    exact ⟨hm.nd,by simp,fun a ha b hb=>by simp at hb;subst hb;intro e;subst e;exact h ha⟩
  · intro F hF
    rcases List.mem_append.1 hF with hF|hF
    · exact hm.rc F hF
    · simp at hF;subst hF;exact hG
  · intro F hF
    rcases List.mem_append.1 hF with hF|hF
    · exact hm.rk F hF
    · simp at hF;subst hF;exact hk
  · intro i F hF
    rcases app_invL hF with h1|⟨h1,rfl⟩
    · exact app_getL (hm.un i F h1)
    · subst h1;show (m.un++[badP t F])[m.F.length]? = _;rw [←hm.l2];simp
  · intro i F hF
    rcases app_invL hF with h1|⟨h1,rfl⟩
    · obtain ⟨r,h2,h3,h4⟩:=hm.nx i F h1
      refine ⟨r,app_getL h2,h3,fun l hl=>?_⟩
      obtain ⟨x,h5,h6⟩:=h4 l hl
      refine ⟨x,h5,h6.imp id ?_⟩
      rintro ⟨j,h7,h8⟩
      exact ⟨j,h7,app_getL h8⟩
    · refine ⟨[-1,-1,-1,-1,-1,-1],by subst h1;show (m.nx++_)[m.F.length]? = _;rw [←hm.l1];simp,rfl,fun l hl=>⟨-1,?_,.inl (by omega)⟩⟩
      obtain rfl|rfl|rfl|rfl|rfl|rfl:l=0∨l=1∨l=2∨l=3∨l=4∨l=5:=by omega
      all_goals rfl
def badTo (t:Tsk) (F:PS) (k:Nat):Bool:=(List.range k).any fun p=>decide (F p≠0) && !(t.q.ac.getD p false)
theorem badTo_succ {t:Tsk} {F:PS} {k:Nat}:badTo t F (k+1)=(badTo t F k || (decide (F k≠0) && !(t.q.ac.getD k false))):=by
  unfold badTo
  rw [List.range_succ,List.any_append];simp
theorem badTo_all {t:Tsk} {F:PS} (h:PSok t F) (hn:t.q.nx.length≤12):badTo t F 12=badP t F:=by
  have key:∀k,badTo t F (t.q.nx.length+k)=badTo t F t.q.nx.length:=fun k=>by
    induction k with
    | zero=>rfl
    | succ k ih=>rw [←Nat.add_assoc,badTo_succ,ih,h.z _ (by omega)];simp
  have:=key (12 - t.q.nx.length)
  rw [show t.q.nx.length+(12 - t.q.nx.length)=12 by omega] at this
  rw [this];rfl
section
variable {P:Program} {Γ:Ctx} {d:Option Tmp} {ty:TypeId} {pos:String} {af:Array Edge} {g:Option (Nat×Bool)} {f:Env} {σ:Store} {nx:Nat} {t:TypeId} {n:Nat} {q:IntKind} {m e:TypeId} {x y:Operand} {id:Nat} {l:List (List Int×Int)} {s:List Int}
theorem q_lookA1 {v:Int} [hm:HasMp P m t e] [h:HasKA P t n q] [hz:HasZ1 P e (.int .i64 0)] (hv:findA l s=some v) (hx:ev f x=some (.o (.mp id))) (hy:ev f y=some (kaE q s)) (ho:look σ id=some (.mp (mapA q l)))
    (hl:KeysA n q l) (hd:l.Pairwise (fun a b=>a.1≠b.1)) (hs:s.length=n) (hw:∀x∈s,(Lit.int q x).wf=true) :
    QOp P TB Γ ⟨d,.lookup m x y true,ty,pos,af,g⟩ f σ nx (.t [(false,[.d (.v (.int .i64 v))]),(false,[.d (.v (.bool true))])]):=by
  have:=q_lookA (P:=P) (TB:=TB) (Γ:=Γ) (d:=d) (ty:=ty) (pos:=pos) (af:=af) (g:=g) (nx:=nx) (t:=t) (m:=m) (e:=e) hx hy ho hl hd hs hw
  rw [hv] at this;exact this
theorem q_lookA0 [hm:HasMp P m t e] [h:HasKA P t n q] [hz:HasZ1 P e (.int .i64 0)] (hv:findA l s=none) (hx:ev f x=some (.o (.mp id))) (hy:ev f y=some (kaE q s)) (ho:look σ id=some (.mp (mapA q l)))
    (hl:KeysA n q l) (hd:l.Pairwise (fun a b=>a.1≠b.1)) (hs:s.length=n) (hw:∀x∈s,(Lit.int q x).wf=true) :
    QOp P TB Γ ⟨d,.lookup m x y true,ty,pos,af,g⟩ f σ nx (.t [(false,[.d (.v (.int .i64 0))]),(false,[.d (.v (.bool false))])]):=by
  have:=q_lookA (P:=P) (TB:=TB) (Γ:=Γ) (d:=d) (ty:=ty) (pos:=pos) (af:=af) (g:=g) (nx:=nx) (t:=t) (m:=m) (e:=e) hx hy ho hl hd hs hw
  rw [hv] at this;exact this
end
theorem add_ok {t:Tsk} {ok:W→Prop} (ht:tskOk t=true) {m:Memo} (hm:MemOk t ok m) (hlen:m.F.length≤1099511627776) {G:PS} (hG:PSok t G):∃(m':Memo) (k:Nat),((m'=m∧m.F[k]? = some G)∨(m'=addM t m G∧k=m.F.length∧G∉m.F))∧
    SpecK Tryz.prog TB 111 1 (saS t m) 5 [.o (.ptr 0 14 0 0),psE G] (fun x σ nx=>x=eI .i64 (k:Int)∧σ=saS t m'∧nx=5):=by
  have hah:=autOk_head (tsk_aut ht)
  have hpw:=mpS_pw ht hm.nd hm.rc
  have hks:=mpS_keys ht hm.rc
  have hwf:=wf16 hG.lt
  cases hf:findA (mpS m.F) (psL G) with
  | some v=>
    obtain ⟨k,rfl,hk⟩:=find_some ht hm.nd hm.rc hG hf
    refine ⟨m,k,.inl ⟨rfl,hk⟩,?_⟩
    refine SpecK.ren (SpecK.ofG (m:=1) (Nat.le_of_ble_eq_true rfl) Tryz.func111 rfl (by kernel_rfl) (Nat.le_of_ble_eq_true rfl) ?_);intro Γ hΓ
    (repeat first|refine sN rfl ?_|((first|refine sA rfl ?_ ?_|refine s4 rfl ‹_› rfl ?_ ?_);first|exact tI|omega|simp only[oZ] at *;omega)|refine s2 rfl fun _ _hb=>?_|refine s3 rfl ?_ ?_<;>rintro rfl|refine aU rfl ?_|refine lexE ?_)
    refine rG (flN []) (by kernel_rfl) ?_
    (repeat first|refine sN rfl ?_|((first|refine sA rfl ?_ ?_|refine s4 rfl ‹_› rfl ?_ ?_);first|exact tI|omega|simp only[oZ] at *;omega)|refine s2 rfl fun _ _hb=>?_|(refine popO rfl ?_;refine gA rfl ?_;first|refine gQ (q_lookA1 (s:=psL G) (l:=mpS m.F) hf rfl rfl rfl hks hpw rfl hwf) rfl ?_)|refine s3 rfl ?_ ?_<;>rintro rfl|refine aU rfl ?_|refine lexE ?_)
    (refine aC rfl ?_ ?_<;>rintro ⟨⟩)
    (repeat first|refine sN rfl ?_|((first|refine sA rfl ?_ ?_|refine s4 rfl ‹_› rfl ?_ ?_);first|exact tI|omega|simp only[oZ] at *;omega)|refine s2 rfl fun _ _hb=>?_|refine s3 rfl ?_ ?_<;>rintro rfl|refine aU rfl ?_|refine lexE ?_)
    refine AWp.ret ⟨_,rfl,[0,1,2,3,4],eI .i64 (k:Int),saS t m,⟨by intro i hi;match i with|0=>rfl,by decide⟩,rfl,by (repeat' first|exact tI|rfl|refine And.intro ?_ ?_)<;>(simp[cX,zC,hΓ,kaC_ren]<;>rfl),rfl,rfl,rfl⟩
  | none =>
    refine ⟨addM t m G,m.F.length,.inr ⟨rfl,rfl,find_none hf⟩,?_⟩
    have h1:=hm.l1
    have h2:=hm.l2
    have hap:=mpS_app m.F G
    refine SpecK.ren (SpecK.ofG (m:=1) (Nat.le_of_ble_eq_true rfl) Tryz.func111 rfl (by kernel_rfl) (Nat.le_of_ble_eq_true rfl) ?_);intro Γ hΓ
    (repeat first|refine sN rfl ?_|((first|refine sA rfl ?_ ?_|refine s4 rfl ‹_› rfl ?_ ?_);first|exact tI|omega|simp only[oZ] at *;omega)|refine s2 rfl fun _ _hb=>?_|refine s3 rfl ?_ ?_<;>rintro rfl|refine aU rfl ?_|refine lexE ?_)
    refine rG (flN []) (by kernel_rfl) ?_
    (repeat first|refine sN rfl ?_|((first|refine sA rfl ?_ ?_|refine s4 rfl ‹_› rfl ?_ ?_);first|exact tI|omega|simp only[oZ] at *;omega)|refine s2 rfl fun _ _hb=>?_|(refine popO rfl ?_;refine gA rfl ?_;first|refine gQ (q_lookA0 (s:=psL G) (l:=mpS m.F) hf rfl rfl rfl hks hpw rfl hwf) rfl ?_)|refine s3 rfl ?_ ?_<;>rintro rfl|refine aU rfl ?_|refine lexE ?_)
    (refine aC rfl ?_ ?_<;>rintro ⟨⟩)
    refine AWp.skip ?_
    (repeat first|refine sN rfl ?_|((first|refine sA rfl ?_ ?_|refine s4 rfl ‹_› rfl ?_ ?_);first|exact tI|omega|simp only[oZ] at *;omega)|refine s2 rfl fun _ _hb=>?_|refine s3 rfl ?_ ?_<;>rintro rfl|refine aU rfl ?_|refine lexE ?_)
    refine rG (flN [6]) (by kernel_rfl) ?_
    (repeat first|refine sN rfl ?_|((first|refine sA rfl ?_ ?_|refine s4 rfl ‹_› rfl ?_ ?_);first|exact tI|omega|simp only[oZ] at *;omega)|refine s2 rfl fun _ _hb=>?_|refine s3 rfl ?_ ?_<;>rintro rfl|refine aU rfl ?_|refine lexE ?_)
    (refine popO rfl ?_;refine popW0 ?_ rfl (by rfl);refine n_putA (s:=psL G) (l:=mpS m.F) rfl rfl rfl rfl hks hpw rfl hwf hf ?_)
    rw [←hap]
    (repeat first|refine sN rfl ?_|((first|refine sA rfl ?_ ?_|refine s4 rfl ‹_› rfl ?_ ?_);first|exact tI|omega|simp only[oZ] at *;omega)|refine s2 rfl fun _ _hb=>?_|refine s3 rfl ?_ ?_<;>rintro rfl)
    refine lexE ?_
    (repeat first|refine sN rfl ?_|((first|refine sA rfl ?_ ?_|refine s4 rfl ‹_› rfl ?_ ?_);first|exact tI|omega|simp only[oZ] at *;omega)|refine s2 rfl fun _ _hb=>?_|refine s3 rfl ?_ ?_<;>rintro rfl|refine aU rfl ?_|refine lexE ?_)
    refine rG (flX [(4,0),(7,1),(10,1)]) (by kernel_rfl) ?_
    (repeat first|refine sN rfl ?_|((first|refine sA rfl ?_ ?_|refine s4 rfl ‹_› rfl ?_ ?_);first|exact tI|omega|simp only[oZ] at *;omega)|refine s2 rfl fun _ _hb=>?_|refine s3 rfl ?_ ?_<;>rintro rfl|refine aU rfl ?_|refine lexE ?_)
    (refine pW rfl ?_ rfl (by rfl);refine n_append rfl rfl rfl (by first|(simp;done)|(simp;(first|omega|simp only[oZ] at *;omega))) rfl (by intro r hr;simp at hr;subst hr;rfl) (by rfl) (Nat.le_of_ble_eq_true rfl) (by simp;omega) ?_)
    (repeat first|refine sN rfl ?_|((first|refine sA rfl ?_ ?_|refine s4 rfl ‹_› rfl ?_ ?_);first|exact tI|omega|simp only[oZ] at *;omega)|refine s2 rfl fun _ _hb=>?_|refine s3 rfl ?_ ?_<;>rintro rfl|refine aU rfl ?_|refine lexE ?_)
    (repeat first|refine sN rfl ?_|((first|refine sA rfl ?_ ?_|refine s4 rfl ‹_› rfl ?_ ?_);first|exact tI|omega|simp only[oZ] at *;omega)|refine s2 rfl fun _ _hb=>?_|(refine popO rfl ?_;refine gA rfl ?_;first|refine gS (fun _ _=>q_build rfl rfl (by rfl) (by rfl)) ?_)|refine s3 rfl ?_ ?_<;>rintro rfl|refine aU rfl ?_|refine lexE ?_)
    (refine pW rfl ?_ rfl (by rfl);refine n_append rfl rfl rfl (by first|(simp;done)|(simp;(first|omega|simp only[oZ] at *;omega))) rfl (by intro r hr;simp at hr;subst hr;rfl) (by rfl) (Nat.le_of_ble_eq_true rfl) (by simp;omega) ?_)
    (repeat first|refine sN rfl ?_|((first|refine sA rfl ?_ ?_|refine s4 rfl ‹_› rfl ?_ ?_);first|exact tI|omega|simp only[oZ] at *;omega)|refine s2 rfl fun _ _hb=>?_|refine s3 rfl ?_ ?_<;>rintro rfl|refine aU rfl ?_|refine lexE ?_)
    refine AWp.namesV [0,7,8,53,54] [] rfl rfl [] [(0,.cells 128 14 [safR t (.arr 1 12 0 (addM t m G).F.length) (.mp 2) (.arr 3 6 0 (addM t m G).nx.length) (.arr 4 1 0 m.un.length)]),(1,.cells 132 12 ((addM t m G).F.map psC)),(2,.mp (mapA .u16 (mpS (addM t m G).F))),(3,.cells 97 6 ((addM t m G).nx.map nxR)),(4,.cells 4 1 (m.un.map bRowC))] [0,5,2,6,4] (rl hΓ rfl) (by (repeat' first|exact tI|rfl|refine And.intro ?_ ?_)<;>(simp[cX,zC,hΓ,kaC_ren,addM]<;>rfl)) ?_;(try dsimp only[List.cons_append,List.nil_append])
    refine AWp.block ?_
    refine AWp.loopV (α:={k:Nat // k≤12}) [0,7,53] [0,1,2,3,4] rfl rfl (fun s=>[(8,eB (badTo t G s.1)),(54,eI .i64 s.1)]) (fun s=>[]) 5 (fun s=>12 - s.1) (⟨0,by omega⟩) (List.range 5) (rg hΓ rfl) (by (repeat' first|exact tI|rfl|refine And.intro ?_ ?_)<;>(simp[cX,zC,hΓ,kaC_ren]<;>rfl)) ?_;rintro ⟨k,hk⟩;(try dsimp only[List.cons_append,List.nil_append])
    by_cases hkl:k < 12
    · have hx:(psL G)[((k:Nat):Int).toNat]? = some (G k:Int):=by rw [Int.toNat_natCast];exact psL_get hkl
      have hs:=badTo_succ (t:=t) (F:=G) (k:=k)
      generalize badTo t G k=b0 at *
      by_cases hkn:k < t.q.nx.length
      · obtain ⟨b,hb⟩:=get_some (l:=t.q.ac) (k:=((k:Nat):Int).toNat) (by omega)
        have hb':=get_map (g:=bRow) hb
        have hgd:t.q.ac.getD k false=b:=by rw [Int.toNat_natCast] at hb;simp [List.getD,hb]
        rw [hgd] at hs
        (repeat first|refine sN rfl ?_|((first|refine sA rfl ?_ ?_|refine s4 rfl ‹_› rfl ?_ ?_);first|exact tI|omega|simp only[oZ] at *;omega)|refine s2 rfl fun _ _hb=>?_|refine s3 rfl ?_ ?_<;>rintro rfl|refine aU rfl ?_|refine lexE ?_)
        ((refine aC rfl ?_ ?_<;>rintro ⟨⟩);all_goals try(exfalso;first|omega|simp only[oZ] at *;omega))
        refine AWp.skip ?_
        refine AWp.seq (AWp.block ?_)
        (repeat' first|refine sN rfl ?_|((first|refine sA rfl ?_ ?_|refine s4 rfl ‹_› rfl ?_ ?_);first|exact tI|omega|simp only[oZ] at *;omega)|refine s2 rfl fun _ _hb=>?_|(refine popO rfl ?_;refine gA rfl ?_;first|refine gS (fun _ _=>q_indexV (l:=psL G) rfl rfl rfl (by omega) hx) ?_)|refine s3 rfl ?_ ?_<;>rintro rfl|refine aU rfl ?_|refine lexE ?_|(refine aC rfl ?_ ?_<;>rintro ⟨⟩));all_goals try contradiction
        all_goals ((try refine aK ?_);(repeat first|refine sN rfl ?_|((first|refine sA rfl ?_ ?_|refine s4 rfl ‹_› rfl ?_ ?_);first|exact tI|omega|simp only[oZ] at *;omega)|refine s2 rfl fun _ _hb=>?_|refine s3 rfl ?_ ?_<;>rintro rfl|refine aU rfl ?_|refine lexE ?_);refine ⟨⟨k+1,by first|omega|simp only[oZ] at *;omega⟩,by dsimp only;(first|omega|simp only[oZ] at *;omega),[0,1,2,3,4],?_⟩;simp only [decide_eq_true_eq,decide_eq_false_iff_not] at *;simp[cX,zC,hΓ,kaC_ren,hs];try (simp_all;done))
      · have hz:=hG.z k (by omega)
        rw [hz] at hs
        (repeat first|refine sN rfl ?_|((first|refine sA rfl ?_ ?_|refine s4 rfl ‹_› rfl ?_ ?_);first|exact tI|omega|simp only[oZ] at *;omega)|refine s2 rfl fun _ _hb=>?_|refine s3 rfl ?_ ?_<;>rintro rfl|refine aU rfl ?_|refine lexE ?_)
        ((refine aC rfl ?_ ?_<;>rintro ⟨⟩);all_goals try(exfalso;first|omega|simp only[oZ] at *;omega))
        refine AWp.skip ?_
        refine AWp.seq (AWp.block ?_)
        (repeat' first|refine sN rfl ?_|((first|refine sA rfl ?_ ?_|refine s4 rfl ‹_› rfl ?_ ?_);first|exact tI|omega|simp only[oZ] at *;omega)|refine s2 rfl fun _ _hb=>?_|(refine popO rfl ?_;refine gA rfl ?_;first|refine gS (fun _ _=>q_indexV (l:=psL G) rfl rfl rfl (by omega) hx) ?_)|refine s3 rfl ?_ ?_<;>rintro rfl|refine aU rfl ?_|refine lexE ?_|(refine aC rfl ?_ ?_<;>rintro ⟨⟩));all_goals try contradiction
        all_goals first|(exfalso;first|omega|simp only[oZ] at *;omega;done)|skip
        all_goals ((try refine aK ?_);(repeat first|refine sN rfl ?_|((first|refine sA rfl ?_ ?_|refine s4 rfl ‹_› rfl ?_ ?_);first|exact tI|omega|simp only[oZ] at *;omega)|refine s2 rfl fun _ _hb=>?_|refine s3 rfl ?_ ?_<;>rintro rfl|refine aU rfl ?_|refine lexE ?_);refine ⟨⟨k+1,by first|omega|simp only[oZ] at *;omega⟩,by dsimp only;(first|omega|simp only[oZ] at *;omega),[0,1,2,3,4],?_⟩;simp[cX,zC,hΓ,kaC_ren,hs];try (simp_all;done))
    · obtain rfl:k=12:=by omega
      rw [badTo_all hG (by omega)]
      (repeat first|refine sN rfl ?_|((first|refine sA rfl ?_ ?_|refine s4 rfl ‹_› rfl ?_ ?_);first|exact tI|omega|simp only[oZ] at *;omega)|refine s2 rfl fun _ _hb=>?_|refine s3 rfl ?_ ?_<;>rintro rfl|refine aU rfl ?_|refine lexE ?_)
      ((refine aC rfl ?_ ?_<;>rintro ⟨⟩);all_goals try(exfalso;first|omega|simp only[oZ] at *;omega))
      refine AWp.exit ?_
      (repeat first|refine sN rfl ?_|((first|refine sA rfl ?_ ?_|refine s4 rfl ‹_› rfl ?_ ?_);first|exact tI|omega|simp only[oZ] at *;omega)|refine s2 rfl fun _ _hb=>?_|refine s3 rfl ?_ ?_<;>rintro rfl|refine aU rfl ?_|refine lexE ?_)
      (refine pW rfl ?_ rfl (by rfl);refine n_append rfl rfl rfl (by first|(simp;done)|(simp;(first|omega|simp only[oZ] at *;omega))) rfl (by intro r hr;simp at hr;subst hr;rfl) (by rfl) (Nat.le_of_ble_eq_true rfl) (by simp;omega) ?_)
      (repeat first|refine sN rfl ?_|((first|refine sA rfl ?_ ?_|refine s4 rfl ‹_› rfl ?_ ?_);first|exact tI|omega|simp only[oZ] at *;omega)|refine s2 rfl fun _ _hb=>?_|refine s3 rfl ?_ ?_<;>rintro rfl|refine aU rfl ?_|refine lexE ?_)
      refine AWp.ret ⟨_,rfl,[0,1,2,3,5],eI .i64 (m.F.length:Int),saS t (addM t m G),⟨by intro i hi;match i with|0=>rfl,by decide⟩,rfl,by (repeat' first|exact tI|rfl|refine And.intro ?_ ?_)<;>(simp[cX,zC,hΓ,kaC_ren,addM]<;>rfl),rfl,rfl,rfl⟩
def MLe (m m':Memo):Prop:=∀(i:Nat) F,m.F[i]? = some F→m'.F[i]? = some F
theorem addM_le {t:Tsk} {m:Memo} {G:PS}:MLe m (addM t m G):=fun _ _ h=>app_getL h
def setM (m:Memo) (n:Nat) (r:List Int):Memo:={ m with nx:=m.nx.set n r }
theorem setM_ok {t:Tsk} {ok:W→Prop} {m:Memo} (hm:MemOk t ok m) {n k l:Nat} {F:PS} {r:List Int} (hF:m.F[n]? = some F) (hr:m.nx[n]? = some r) (hl:l < 6) (hk:m.F[k]? = some (nextP t l F)):MemOk t ok (setM m n (r.set l k)):=by
  refine ⟨by simp [setM,hm.l1],hm.l2,hm.nd,hm.rc,hm.rk,hm.un,fun i G hG=>?_⟩
  replace hG:m.F[i]? = some G:=hG
  by_cases e:i=n
  · subst e
    rw [hF] at hG;injection hG with hG;subst hG
    obtain ⟨r',h1,h2,h3⟩:=hm.nx i F hF
    rw [hr] at h1;injection h1 with h1;subst h1
    have hlt:=(List.getElem?_eq_some_iff.1 hr).1
    refine ⟨r.set l k,by simp [setM,hlt],by simp [h2],fun l' hl'=>?_⟩
    by_cases e2:l'=l
    · subst e2
      exact ⟨k,by simp [h2,hl'],.inr ⟨k,rfl,hk⟩⟩
    · obtain ⟨x,h4,h5⟩:=h3 l' hl'
      exact ⟨x,by rw [List.getElem?_set_ne (fun h=>e2 h.symm)];exact h4,h5⟩
  · obtain ⟨r',h1,h2,h3⟩:=hm.nx i G hG
    exact ⟨r',by simp only [setM];rw [List.getElem?_set_ne (fun h=>e h.symm)];exact h1,h2,h3⟩
theorem nxR_get {r:List Int} {l:Nat} {x:Int} (h:r[l]? = some x):(nxR r)[l]? = some (.d (iD x)):=by simp [h]
theorem nxR_set {r:List Int} {l:Nat} {x:Int} (h:l < r.length):spliceC (nxR r) l [.d (iD x)]=nxR (r.set l x):=by
  rw [splice_set (by simpa using h)]
  unfold nxR
  rw [List.map_set]
theorem after_ok [Tabs TB] {t:Tsk} {ok:W→Prop} (ht:tskOk t=true) (hfew:Few t ok) {m:Memo} (hm:MemOk t ok m) {n:Nat} {F:PS} (hF:m.F[n]? = some F) {l:Int} (hl:0≤l∧l < 6) (hrk:Rck t ok (nextP t l F)):∃(m':Memo) (j:Nat),MemOk t ok m'∧MLe m m'∧m'.F[j]? = some (nextP t l F)∧
    SpecK Tryz.prog TB 113 1 (saS t m) 5 [.o (.ptr 0 14 0 0),eI .i64 (n:Int),eI .i64 l] (fun x σ nx=>x=eI .i64 (j:Int)∧σ=saS t m'∧nx=5):=by
  have hlen:=hfew m.F hm.nd hm.rk
  obtain ⟨r,hr,hrl,hrx⟩:=hm.nx n F hF
  have hn:=(List.getElem?_eq_some_iff.1 hF).1
  have h1:=hm.l1
  obtain ⟨x,hx,hxx⟩:=hrx l.toNat (by omega)
  have el:((l.toNat:Nat):Int)=l:=by omega
  rw [el] at hxx
  have hFo:=(hm.rc F (List.mem_of_getElem? hF)).ok ht
  have hr':(m.nx.map nxR)[0+((n:Nat):Int).toNat]? = some (nxR r):=by rw [Nat.zero_add,Int.toNat_natCast];simp [hr]
  have hx':(nxR r)[0+l.toNat*1]? = some (.d (iD x)):=by rw [Nat.zero_add,Nat.mul_one];exact nxR_get hx
  by_cases hx0:x < 0
  · have hG:=nextP_ok ht hl hFo
    have hGr:Reach t (nextP t l F):=.next hl.1 hl.2 (hm.rc F (List.mem_of_getElem? hF))
    obtain ⟨m1,k,hcase,hadd⟩:=add_ok (TB:=TB) ht hm hlen hG
    have hm1:MemOk t ok m1∧MLe m m1∧m1.F[k]? = some (nextP t l F):=by
      rcases hcase with ⟨rfl,h2⟩|⟨rfl,rfl,h2⟩
      · exact ⟨hm,fun _ _ h=>h,h2⟩
      · exact ⟨addM_ok hm hGr hrk h2,addM_le,by simp [addM]⟩
    obtain ⟨hm1,hle,hk⟩:=hm1
    have hF1:=hle n F hF
    obtain ⟨r1,hr1,hrl1,_⟩:=hm1.nx n F hF1
    have hn1:=(List.getElem?_eq_some_iff.1 hr1).1
    have hok:=setM_ok (l:=l.toNat) hm1 hF1 hr1 (by omega) (k:=k) (by rw [el];exact hk)
    refine ⟨_,k,hok,hle,hk,?_⟩
    have hmv:=move_ok (TB:=TB) ht m hl hFo
    have hcl:=close_ok (TB:=TB) ht m (mvP_ok ht hl hFo)
    have hs':(m.F.map psC)[0+((n:Nat):Int).toNat]? = some (psC F):=by rw [Nat.zero_add,Int.toNat_natCast];simp [hF]
    refine SpecK.ren (SpecK.ofG (m:=1) (Nat.le_of_ble_eq_true rfl) Tryz.func113 rfl (by kernel_rfl) (Nat.le_of_ble_eq_true rfl) ?_);intro Γ hΓ
    (repeat first|refine sN rfl ?_|((first|refine sA rfl ?_ ?_|refine s4 rfl ‹_› rfl ?_ ?_);first|exact tI|omega|simp only[oZ] at *;omega)|refine s2 rfl fun _ _hb=>?_|(refine popO rfl ?_;refine gA rfl ?_;first|refine gQ (q_ldJ rfl rfl (by assumption) hx') rfl ?_)|refine s3 rfl ?_ ?_<;>rintro rfl|refine aU rfl ?_|refine lexE ?_)
    ((refine aC rfl ?_ ?_<;>rintro ⟨⟩);all_goals try(exfalso;first|omega|simp only[oZ] at *;omega))
    (repeat first|refine sN rfl ?_|((first|refine sA rfl ?_ ?_|refine s4 rfl ‹_› rfl ?_ ?_);first|exact tI|omega|simp only[oZ] at *;omega)|refine s2 rfl fun _ _hb=>?_|refine s3 rfl ?_ ?_<;>rintro rfl|refine aU rfl ?_|refine lexE ?_)
    (refine pW rfl ?_ rfl (by rfl);refine n_call [0,1,2,3,4] rfl rfl (hmv) ⟨rfl,by decide,by decide⟩ rfl (by simp[cX,zC,hΓ,kaC_ren]) ?_;rintro x0 σ1 nx1 ⟨rfl,rfl,rfl⟩ _)
    (repeat first|refine sN rfl ?_|((first|refine sA rfl ?_ ?_|refine s4 rfl ‹_› rfl ?_ ?_);first|exact tI|omega|simp only[oZ] at *;omega)|refine s2 rfl fun _ _hb=>?_|refine s3 rfl ?_ ?_<;>rintro rfl)
    (refine pW rfl ?_ rfl (by rfl);refine n_call [0,1,2,3,4] rfl rfl (hcl) ⟨rfl,by decide,by decide⟩ rfl (by simp[cX,zC,hΓ,kaC_ren]) ?_;rintro x0 σ1 nx1 ⟨rfl,rfl,rfl⟩ _)
    (repeat first|refine sN rfl ?_|((first|refine sA rfl ?_ ?_|refine s4 rfl ‹_› rfl ?_ ?_);first|exact tI|omega|simp only[oZ] at *;omega)|refine s2 rfl fun _ _hb=>?_|refine s3 rfl ?_ ?_<;>rintro rfl)
    (refine pW rfl ?_ rfl (by rfl);refine n_callK [0,1,2,3,4] rfl rfl 1 (hadd) (by decide) ⟨rfl,by decide,by decide⟩ rfl (by simp[cX,zC,hΓ,kaC_ren]) ?_;rintro x0 σ1 nx1 ⟨rfl,rfl,rfl⟩ _)
    (repeat first|refine sN rfl ?_|((first|refine sA rfl ?_ ?_|refine s4 rfl ‹_› rfl ?_ ?_);first|exact tI|omega|simp only[oZ] at *;omega)|refine s2 rfl fun _ _hb=>?_|refine s3 rfl ?_ ?_<;>rintro rfl)
    refine lexE ?_
    refine AWp.namesV [0,1,2,7] [] rfl rfl [] [(0,.cells 128 14 [safR t (.arr 1 12 0 m1.F.length) (.mp 2) (.arr 3 6 0 m1.nx.length) (.arr 4 1 0 m1.un.length)]),(1,.cells 132 12 (m1.F.map psC)),(2,.mp (mapA .u16 (mpS m1.F))),(3,.cells 97 6 (m1.nx.map nxR)),(4,.cells 4 1 (m1.un.map bRowC))] [0,5,6,7,8] (rl hΓ rfl) (by (repeat' first|exact tI|rfl|refine And.intro ?_ ?_)<;>(simp[cX,zC,hΓ,kaC_ren]<;>rfl)) ?_;(try dsimp only[List.cons_append,List.nil_append])
    have hr1':(m1.nx.map nxR)[0+((n:Nat):Int).toNat]? = some (nxR r1):=by rw [Nat.zero_add,Int.toNat_natCast];simp [hr1]
    have hst:=nxR_set (r:=r1) (l:=l.toNat) (x:=(k:Int)) (by omega)
    have hr2l:(r1.set l.toNat (k:Int))[l.toNat]? = some (k:Int):=by rw [List.getElem?_set_self (by omega)]
    generalize r1.set l.toNat (k:Int)=r2 at *
    have hst2:(nxR r1).take l.toNat++C.d (iD k)::(nxR r1).drop (l.toNat+1)=nxR r2:=by rw [←hst];simp [spliceC]
    (repeat first|refine sN rfl ?_|((first|refine sA rfl ?_ ?_|refine s4 rfl ‹_› rfl ?_ ?_);first|exact tI|omega|simp only[oZ] at *;omega)|refine s2 rfl fun _ _hb=>?_|refine s3 rfl ?_ ?_<;>rintro rfl|refine aU rfl ?_|refine lexE ?_)
    (refine popO rfl ?_;refine popW0 ?_ rfl (by rfl);refine n_store (r:=nxR r1) rfl rfl rfl rfl hr1' rfl (by show 0+l.toNat*1+1≤6;omega) ?_)
    (repeat first|refine sN rfl ?_|((first|refine sA rfl ?_ ?_|refine s4 rfl ‹_› rfl ?_ ?_);first|exact tI|omega|simp only[oZ] at *;omega)|refine s2 rfl fun _ _hb=>?_|refine s3 rfl ?_ ?_<;>rintro rfl)
    refine lexE ?_
    refine AWp.namesV [0,1,2] [] rfl rfl [] [(0,.cells 128 14 [safR t (.arr 1 12 0 m1.F.length) (.mp 2) (.arr 3 6 0 m1.nx.length) (.arr 4 1 0 m1.un.length)]),(1,.cells 132 12 (m1.F.map psC)),(2,.mp (mapA .u16 (mpS m1.F))),(3,.cells 97 6 ((m1.nx.set n r2).map nxR)),(4,.cells 4 1 (m1.un.map bRowC))] [0,1,2,3,4] (rl hΓ rfl) (by (repeat' first|exact tI|rfl|refine And.intro ?_ ?_)<;>(simp[cX,zC,hΓ,kaC_ren,hst2]<;>rfl)) ?_;(try dsimp only[List.cons_append,List.nil_append])
    have hr2:((m1.nx.set n r2).map nxR)[0+((n:Nat):Int).toNat]? = some (nxR r2):=by rw [Nat.zero_add,Int.toNat_natCast];simp [hn1]
    have hx2:(nxR r2)[0+l.toNat*1]? = some (.d (iD k)):=by rw [Nat.zero_add,Nat.mul_one];exact nxR_get hr2l
    (repeat first|refine sN rfl ?_|((first|refine sA rfl ?_ ?_|refine s4 rfl ‹_› rfl ?_ ?_);first|exact tI|omega|simp only[oZ] at *;omega)|refine s2 rfl fun _ _hb=>?_|(refine popO rfl ?_;refine gA rfl ?_;first|refine gQ (q_ldJ rfl rfl (by assumption) hx2) rfl ?_)|refine s3 rfl ?_ ?_<;>rintro rfl|refine aU rfl ?_|refine lexE ?_)
    refine AWp.ret ⟨_,rfl,[0,1,2,3,4],eI .i64 (k:Int),saS t (setM m1 n r2),⟨by intro i hi;match i with|0=>rfl,by decide⟩,rfl,by (repeat' first|exact tI|rfl|refine And.intro ?_ ?_)<;>(simp[cX,zC,hΓ,kaC_ren,setM]<;>rfl),rfl,rfl,rfl⟩
  · obtain ⟨j,rfl,hj⟩:=hxx.resolve_left hx0
    refine ⟨m,j,hm,fun _ _ h=>h,hj,?_⟩
    refine SpecK.ren (SpecK.ofG (m:=1) (Nat.le_of_ble_eq_true rfl) Tryz.func113 rfl (by kernel_rfl) (Nat.le_of_ble_eq_true rfl) ?_);intro Γ hΓ
    (repeat first|refine sN rfl ?_|((first|refine sA rfl ?_ ?_|refine s4 rfl ‹_› rfl ?_ ?_);first|exact tI|omega|simp only[oZ] at *;omega)|refine s2 rfl fun _ _hb=>?_|(refine popO rfl ?_;refine gA rfl ?_;first|refine gQ (q_ldJ rfl rfl (by assumption) hx') rfl ?_)|refine s3 rfl ?_ ?_<;>rintro rfl|refine aU rfl ?_|refine lexE ?_)
    ((refine aC rfl ?_ ?_<;>rintro ⟨⟩);all_goals try(exfalso;first|omega|simp only[oZ] at *;omega))
    refine AWp.skip ?_
    (repeat first|refine sN rfl ?_|((first|refine sA rfl ?_ ?_|refine s4 rfl ‹_› rfl ?_ ?_);first|exact tI|omega|simp only[oZ] at *;omega)|refine s2 rfl fun _ _hb=>?_|(refine popO rfl ?_;refine gA rfl ?_;first|refine gQ (q_ldJ rfl rfl (by assumption) hx') rfl ?_)|refine s3 rfl ?_ ?_<;>rintro rfl|refine aU rfl ?_|refine lexE ?_)
    refine AWp.ret ⟨_,rfl,[0,1,2,3,4],eI .i64 (j:Int),saS t m,⟨by intro i hi;match i with|0=>rfl,by decide⟩,rfl,by (repeat' first|exact tI|rfl|refine And.intro ?_ ?_)<;>(simp[cX,zC,hΓ,kaC_ren]<;>rfl),rfl,rfl,rfl⟩
end Go.Am
namespace Go.Am
open Go
set_option linter.unusedVariables false
section
variable {P:Program} {TB:Amb} {Γ:Ctx} {d:Option Tmp} {ty:TypeId} {pos:String} {af:Array Edge} {g:Option (Nat×Bool)} {f:Env} {σ:Store} {nx:Nat}
theorem q_mv {gg:FuncId} {x:Operand} {c:C} (hx:ev f x=some (.o c)):QOp P TB Γ ⟨d,.makeFunc (.func gg) #[x] #[],ty,pos,af,g⟩ f σ nx (.o (.mv gg [c])):=
  q_of_run fun V ρ h1 _=>by
    refine ⟨.func (.func gg) #[ρ x] #[],by simp [execOp,Instr.makeFunc,go_sem],CRel.mv rfl fun j c' v hj hv=>?_⟩
    have h2:CRel V c (ρ x):=h1.get (by simp [Op.operands]) hx
    match j with
    | 0=>simp at hj hv;subst hj;subst hv;exact h2
    | j+1=>simp at hj
theorem mv_val {V:View} {gg:FuncId} {recv:List C} {v:Value} (h:ERel V (.o (.mv gg recv)) v):∃vs,v=.func (.func gg) vs #[]∧LRel V recv vs:=by
  have h:CRel V (.mv gg recv) v:=h
  generalize hc:C.mv gg recv=c at h
  cases h<;>cases hc
  rename_i vs h1 h2
  exact ⟨vs,rfl,h1,h2⟩
theorem call_runMv {x:Operand} {args:Array Operand} {tys:Array TypeId} {gg:FuncId} {vs:Array Value} (hf:IsFn P gg) {ρ:Operand→Value} (hv:ρ x=.func (.func gg) vs #[]) (w:World) :
    (execOp ρ ⟨d,.call ⟨.value x,args,tys⟩,ty,pos,af,g⟩).run P w=.ok (.enter gg (vs++args.map ρ)) w:=by
  obtain ⟨fn,h1,h2,h3⟩:=hf
  have hb:∃c,fn.body=some c:=by cases hb:fn.body with|none=>rw [hb] at h3;cases h3|some c=>exact ⟨c,rfl⟩
  obtain ⟨c,hb⟩:=hb
  simp only [execOp,resolve,hv,Deferred.ofValue,pure_bind,invoke,callFunc]
  have h2':¬fn.name = "runtime.NumGoroutine" := by simpa using h2
  simp [Sem.run,program,h1,h2',hb,go_sem]
theorem q_callMv {x:Operand} {args:Array Operand} {tys:Array TypeId} {gg:FuncId} {recv:List C} {es:List E} {r:E} (hx:ev f x=some (.o (.mv gg recv))) (hes:evs f args.toList=some es) (hp:(es.all E.pur && C.purL recv)=true)
    (hs:Pure P TB gg (recv.map .o++es) r) (hr:r.pur=true):QOp P TB Γ ⟨d,.call ⟨.value x,args,tys⟩,ty,pos,af,g⟩ f σ nx r:=by
  intro V a h1 h2 h3
  have h1:=h1.evRel
  unfold Oper.wp
  generalize a.eval=ρ at h1 ⊢
  obtain ⟨vs,hv,hcap⟩:=mv_val (h1.get (x:=x) (by simp [Op.operands,Call.operands]) hx)
  rw [call_runMv hs.1 hv]
  rw [Bool.and_eq_true] at hp
  have hel:=evs_length hes
  have hargs:ARel { V with nx:=0 } (recv.map .o++es) (vs++args.map ρ):=by
    refine ⟨by simp [hcap.1,hel],fun j e v hj hv=>?_⟩
    have hsz:vs.size=recv.length:=hcap.1
    by_cases hlt:j < recv.length
    · rw [List.getElem?_append_left (by simpa using hlt)] at hj
      rw [Array.getElem?_append_left (by rw [hsz];exact hlt)] at hv
      simp only [List.getElem?_map,Option.map_eq_some_iff] at hj
      obtain ⟨c,hc,rfl⟩:=hj
      exact CRel.pur (V:=V) (V':={ V with nx:=0 }) rfl rfl (hcap.2 _ c v hc hv) (purL_get _ hp.2 _ c hc)
    · rw [List.getElem?_append_right (by simp;omega)] at hj
      rw [Array.getElem?_append_right (by rw [hsz];omega),hsz] at hv
      simp only [List.length_map] at hj
      refine ERel.pur (V:=V) (V':={ V with nx:=0 }) rfl rfl (args_rel (fun y hy e he=>h1.get (by simp [Op.operands,Call.operands];right;simpa using hy) he) hes _ e v hj (by rw [←Array.toList_map];simpa using hv)) (List.all_eq_true.1 hp.1 e (List.mem_of_getElem? hj))
  obtain ⟨S,hS,hSJ,hSB⟩:=h2.hid
  refine (hs.2 { V with nx:=0 } _ S ⟨h2.iLt,store_none,h2.tabs,rfl,⟨hS.r,hS.ji,hS.bi,fun b ⟨_,_,h,_⟩=>by cases h⟩⟩ hargs).mono ?_
  rintro e w' ⟨V1,v,x1,σ1,rfl,rfl,hi1,hx1,rfl⟩
  obtain ⟨hi',he'⟩:=after_call h2 hS hSJ hSB (Vc:={ V with nx:=0 }) rfl hi1 V1.I (fun b hb=>hi1.ext.i b hb) (fun b hb=>by
    rcases hi1.iNew b hb with h|h|h|h
    · exact .inl h
    · exact .inr (.inl ⟨h,hi1.iLt b hb⟩)
    · obtain ⟨_,_,h,_⟩:=h;cases h
    · exact .inr (.inr h)) (fun b hb _=>hb) (fun b hb=>hb)
  exact ⟨{ V with I:=V1.I,w:=V1.w },v,rfl,rfl,he',hi',h3,ERel.pur (V:=V1) (V':={ V with I:=V1.I,w:=V1.w }) rfl rfl hx1 hr⟩
end
abbrev rawP (r:Nat):C:=.d (.v (.pointer (some ⟨r,0,none⟩)))
theorem pure_hid {P:Program} {tabs:List (Nat×Obj)} {H:Hid} {r:Nat} {gg:FuncId} {k:Nat} {es:List E} {x0:E} (hf:IsFn P gg) (hsc:∀e∈es,e.sc=true) (hx:x0.sc=true)
    (h:∀s,SpecK P ⟨tabs,none⟩ gg 1 (H.st s) H.nx (.o (.ptr 0 k 0 0)::es) (fun x σ nx=>x=x0∧nx=H.nx∧∃s',σ=H.st s')):Pure P ⟨tabs,some (H,r)⟩ gg (.o (rawP r)::es) x0:=by
  refine ⟨hf,fun V vs S hg ha=>?_⟩
  have hr:∃(s:H.S) (V0:View),V0.I=S.J∧V0.w=V.w∧V0.nx=H.nx∧StoreRel V0 (H.st s)∧(0 < V0.nx∧V0.ρ 0=r∧¬V0.nl 0∧∀x∈(⟨tabs,some (H,r)⟩:Amb),V0.I x.1)∧∀b,S.B b↔Foot V0 (H.st s) b:=hg.hid.r
  obtain ⟨s,V0,e1,e2,e3,st,⟨n0,ρ0,nl0,tb⟩,hB⟩:=hr
  have hgood:Good ⟨tabs,none⟩ V0 (H.st s) H.nx ⟨fun _=>False,fun _=>False⟩:=
    ⟨fun b hb=>by rw [e2];exact hg.iLt b (hg.hid.ji b (by rw [←e1];exact hb)),st,fun x hx=>⟨tb x hx,by rw [e2];exact (hg.tabs x hx).2⟩,e3,⟨fun _ h=>h,fun _ h=>h.elim,fun _ h=>h.elim,fun _ _ h=>h⟩⟩
  have hargs:ARel V0 (.o (.ptr 0 k 0 0)::es) vs:=by
    refine ⟨ha.1,fun j e v hj hv=>?_⟩
    match j with
    | 0=>
      injection hj with hj
      subst hj
      have h1:=ha.2 0 (.o (rawP r)) v rfl hv
      have h2:v=.pointer (some ⟨r,0,none⟩):=CRel.val h1
      subst h2
      have:=CRel.ptr (V:=V0) (id:=0) (k:=k) (i:=0) (j:=0) n0 nl0
      rw [ρ0,Nat.zero_mul] at this
      exact this
    | j+1=>exact sc_any (ha.2 (j+1) e v hj hv) (hsc e (List.mem_of_getElem? hj))
  have hrun:=(h s).2 V0 vs _ hgood hargs
  rw [e2] at hrun
  refine hrun.mono ?_
  rintro e w' ⟨V1,v,x,σ',rfl,rfl,hi,hx1,rfl,hn,s',rfl⟩
  have hsz:V.w.heap.size≤V1.w.heap.size:=by have h9:V0.w.heap.size≤_:=hi.ext.size;rw [e2] at h9;exact h9
  have hold:∀b,b < V.w.heap.size→¬S.B b→V1.w.heap[b]? = V.w.heap[b]?:=fun b hb hn=>by
    have h9:V1.w.heap[b]? = V0.w.heap[b]?:=hi.old b (by show b < V0.w.heap.size;rw [e2];exact hb) fun h=>h.elim (fun h=>hn ((hB b).2 h)) fun h=>h
    rw [h9,e2]
  have hnew:∀b,V1.I b→S.J b∨V.w.heap.size≤b∨S.B b:=fun b hb=>by
    rcases hi.iNew b hb with h9|h9|h9|h9
    · exact .inl (by rw [←e1];exact h9)
    · have h9:V0.w.heap.size≤b:=h9
      rw [e2] at h9;exact .inr (.inl h9)
    · exact .inr (.inr ((hB b).2 h9))
    · exact h9.elim
  have hlv:∀b,Foot V1 (H.st s') b→V.w.heap.size≤b∨S.B b:=fun b ⟨id,o,g1,g2,g3⟩=>by
    rcases hi.live id o g1 g2 b g3 with h9|h9|h9
    · have h9:V0.w.heap.size≤b:=h9
      rw [e2] at h9;exact .inl h9
    · exact .inr ((hB b).2 h9)
    · exact h9.elim
  have e:Ext V { V with I:=fun b=>V.I b∨V1.I b,w:=V1.w } := ⟨fun _ h=>.inl h,fun b hb=>hold b (hg.iLt b hb) fun h=>hg.hid.bi b h hb,hsz,fun _ _=>rfl,fun _ _=>rfl,fun _ _=>Iff.rfl,Nat.le_refl _⟩
  refine ⟨{ V with I:=fun b=>V.I b∨V1.I b,w:=V1.w },v,x,[],rfl,rfl,⟨?_,?_,?_,fun b hb hf=>hold b hb fun h=>hf (.inr h),fun b hb=>?_,fun b hb=>?_,e,store_none,fun id o ho=>(by cases ho),fun y hy=>⟨.inl (hg.tabs y hy).1,?_⟩,⟨⟨Foot V1 (H.st s'),V1.I⟩,⟨?_,fun b hb=>.inr hb,fun b hb hI=>?_,fun b ⟨_,_,h,_⟩=>by cases h⟩,fun b hb=>?_,fun b hb=>?_⟩⟩,sc_any hx1 hx,rfl⟩
  · have h9:V1.w.os=V0.w.os:=hi.os
    rw [e2] at h9;exact h9
  · have h9:V1.w.tape=V0.w.tape:=hi.tape
    rw [e2] at h9;exact h9
  · have h9:V1.w.output=V0.w.output:=hi.output
    rw [e2] at h9;exact h9
  · rcases hb with hb|hb
    · exact Nat.lt_of_lt_of_le (hg.iLt b hb) hsz
    · exact hi.iLt b hb
  · rcases hb with hb|hb
    · exact .inl hb
    · rcases hnew b hb with h9|h9|h9
      · exact .inl (hg.hid.ji b h9)
      · exact .inr (.inl h9)
      · exact .inr (.inr (.inr h9))
  · exact (hold _ (hg.iLt _ (hg.tabs y hy).1) fun h=>hg.hid.bi _ h (hg.tabs y hy).1).trans (hg.tabs y hy).2
  · exact ⟨s',V1,rfl,rfl,hn,hi.st,⟨by rw [hn,←e3];exact n0,by rw [←ρ0];exact hi.ext.ρ 0 Nat.zero_lt_one,fun h=>nl0 ((hi.ext.nl 0 Nat.zero_lt_one).1 h),fun y hy=>hi.ext.i _ (tb y hy)⟩,fun _=>Iff.rfl⟩
  · have hb':=hb
    obtain ⟨id,o,g1,g2,g3⟩:=hb
    rcases hI with hI|hI
    · rcases hlv b hb' with h9|h9
      · have:=hg.iLt b hI;omega
      · exact hg.hid.bi b h9 hI
    · exact hi.st.free id o g1 g2 b g3 hI
  · rcases hnew b hb with h9|h9|h9
    · exact .inl h9
    · exact .inr (.inl h9)
    · exact .inr (.inr (.inr h9))
  · rcases hlv b hb with h9|h9
    · exact .inl h9
    · exact .inr (.inr h9)
inductive CH (i r:Nat):C→C→Prop
  | keep {c:C}:CH i r c c
  | ptr {k:Nat}:CH i r (.ptr i k 0 0) (rawP r)
  | mv {gg:FuncId} {k:Nat}:CH i r (.mv gg [.ptr i k 0 0]) (.mv gg [rawP r])
theorem CH.rel {V:View} {i r:Nat} (hr:V.ρ i=r) {c c':C} {v:Value} (h:CH i r c c') (hc:CRel V c v):CRel V c' v:=by
  have hp:∀ {k:Nat} {v:Value},CRel V (.ptr i k 0 0) v→CRel V (rawP r) v:=fun {k v} hc=>by
    cases hc with
    | ptr h1 h2=>rw [Nat.zero_mul,hr];exact .d (.v rfl)
  cases h with
  | keep=>exact hc
  | ptr=>exact hp hc
  | mv =>
    cases hc with
    | mv h1 h2=>
      refine .mv (by rw [h1];rfl) fun j c v hj hv=>?_
      match j with
      | 0=>injection hj with hj;subst hj;exact hp (h2 0 _ v rfl hv)
      | j+1=>simp at hj
inductive LH (i r:Nat):List C→List C→Prop
  | nil:LH i r [] []
  | cons {c c':C} {l l':List C}:CH i r c c'→LH i r l l'→LH i r (c::l) (c'::l')
theorem LH.len {i r:Nat} {l l':List C} (h:LH i r l l'):l'.length=l.length:=by
  induction h with
  | nil=>rfl
  | cons _ _ ih=>simp [ih]
theorem LH.get {i r:Nat} {l l':List C} (h:LH i r l l'):∀(j:Nat) c',l'[j]? = some c'→∃c,l[j]? = some c∧CH i r c c':=by
  induction h with
  | nil=>intro j c' h;simp at h
  | @cons c0 c0' cs cs' h1 _ ih=>
    intro j c' hj
    cases j with
    | zero=>simp at hj;subst hj;exact ⟨c0,rfl,h1⟩
    | succ j=>exact ih j c' (by simpa using hj)
inductive EH (i r:Nat):E→E→Prop
  | keep {e:E}:EH i r e e
  | o {c c':C}:CH i r c c'→EH i r (.o c) (.o c')
  | a {l l':List C}:LH i r l l'→EH i r (.a l) (.a l')
theorem EH.rel {V:View} {i r:Nat} (hr:V.ρ i=r) {e e':E} {v:Value} (h:EH i r e e') (hc:ERel V e v):ERel V e' v:=by
  cases h with
  | keep=>exact hc
  | o h=>exact h.rel hr hc
  | a h=>
    obtain ⟨vs,h1,h2,h3⟩:=hc
    refine ⟨vs,h1,by rw [h2,h.len],fun j c v hj hv=>?_⟩
    obtain ⟨c0,h4,h5⟩:=h.get j c hj
    exact h5.rel hr (h3 j c0 v h4 hv)
def EnvH (i r:Nat) (f:Env):List (Nat×E)→Prop
  | []=>True
  | (t,e')::L=>(∃e,f t=some e∧EH i r e e')∧EnvH i r f L
theorem EnvH.get {i r:Nat} {f:Env}:∀ {L:List (Nat×E)},EnvH i r f L→∀t e',look L t=some e'→∃e,f t=some e∧EH i r e e'
  | [],_,t,e,h=>by cases h
  | (k,x)::L,hs,t,e,h=>by
    rw [look_cons] at h
    by_cases hk:k=t
    · rw [if_pos hk] at h;injection h with h;subst h;subst hk;exact hs.1
    · rw [if_neg hk] at h;exact EnvH.get hs.2 t e h
def StH (i r:Nat) (l:List Nat) (σ:Store):Store→Prop
  | []=>True
  | (id,o')::S=>(id∉l∧(look σ id=some o'∨∃T k rw rw',o'=.cells T k [rw']∧look σ id=some (.cells T k [rw])∧LH i r rw rw'))∧StH i r l σ S
theorem StH.get {i r:Nat} {l:List Nat} {σ:Store}:∀ {S:Store},StH i r l σ S→∀id o',look S id=some o'→id∉l∧(look σ id=some o'∨∃T k rw rw',o'=.cells T k [rw']∧look σ id=some (.cells T k [rw])∧LH i r rw rw')
  | [],_,id,o,h=>by cases h
  | (k,x)::L,hs,id,o,h=>by
    rw [look_cons] at h
    by_cases hk:k=id
    · rw [if_pos hk] at h;injection h with h;subst h;subst hk;exact hs.1
    · rw [if_neg hk] at h;exact StH.get hs.2 id o h
section
variable {P:Program} {tabs:List (Nat×Obj)} {Γ:Ctx} {N:Nat} {σ:Store}
theorem Inv.forget {TB:Amb} {J:Nat→Prop} {V:View} (h:Inv TB ⟨Γ.V,Γ.F,J⟩ V σ):Inv ⟨TB.tabs,none⟩ Γ V σ:=
  ⟨h.os,h.tape,h.output,h.old,h.iLt,h.iNew,h.ext,h.st,h.live,h.tabs,⟨⟨fun _=>False,fun _=>False⟩,⟨fun _ h=>h,fun _ h=>h.elim,fun _ h=>h.elim,fun _ _ h=>h⟩,fun _ h=>h.elim,fun _ h=>h.elim⟩⟩
theorem AWp.hide {c:Code} {Q:Exit→Env→Store→Nat→Prop} {f:Env} {nx:Nat} (H:Hid) (s:H.S) (i:Nat) (l:List Nat) (L:Nat→List (Nat×E)) (S:Nat→Store) (hn:(i::l).Nodup) (hln:(i::l).length=H.nx) (hS:StoreSub (nm (i::l) nx) σ (H.st s)) (h0:∃T k r rs,look (H.st s) 0=some (.cells T k (r::rs)))
    (hE:∀r,EnvH i r f (L r)) (hSt:∀r,StH i r (i::l) σ (S r)) (h:∀r Γ',Γ'.V=Γ.V→AWp P ⟨tabs,some (H,r)⟩ Γ' N c Q (look (L r)) (S r) nx):AWp P ⟨tabs,none⟩ Γ N c Q f σ nx:=by
  intro V a hr
  have hi:=hr.inv
  have hnx:=hr.nx
  subst hnx
  have hrn:∀id,nm (i::l) V.nx id < V.nx→id < (i::l).length:=fun id=>nm_lt
  have hidl:∀id o,look (H.st s) id=some o→id < (i::l).length:=fun id o ho=>hrn id (hi.st.lt _ _ (hS.get id o ho))
  have hmem:∀id o,look (H.st s) id=some o→nm (i::l) V.nx id∈i::l:=fun id o ho=>by
    rw [nm_lt' (hidl id o ho)];exact List.getElem_mem _
  have hS0:StoreRel (V.ren (nm (i::l) V.nx) (i::l).length) (H.st s):=by
    refine ⟨fun id o ho=>ObjRel.ren hrn (hi.st.obj _ _ (hS.get id o ho)),hidl,fun id o ho hnl b hb=>hi.st.free _ _ (hS.get id o ho) hnl b (blk_ren.1 hb),?_⟩
    intro id id' o o' ho ho' hne hnl hnl' b hb hb'
    refine hi.st.inj _ _ _ _ (hS.get id o ho) (hS.get id' o' ho') ?_ hnl hnl' b (blk_ren.1 hb) (blk_ren.1 hb')
    have h3:=hidl id o ho
    have h4:=hidl id' o' ho'
    rw [nm_lt' h3,nm_lt' h4]
    intro he
    have hp:=List.pairwise_iff_getElem.1 hn
    rcases Nat.lt_or_gt_of_ne hne with h5|h5
    · exact hp _ _ h3 h4 h5 he
    · exact hp _ _ h4 h3 h5 he.symm
  have hnl0:¬V.nl i:=by
    obtain ⟨T,k,r,rs,h5⟩:=h0
    rcases hS0.obj 0 _ h5 with ⟨_,h6⟩|⟨h6,_⟩
    · cases h6
    · exact h6
  have hsrc:∀id o,look (S (V.ρ i)) id=some o→∃o0,look σ id=some o0∧∀b,blk V id o b→blk V id o0 b:=fun id o ho=>by
    obtain ⟨_,h5|⟨T,k,rw,rw',rfl,h5,_⟩⟩:=(hSt (V.ρ i)).get id o ho
    · exact ⟨o,h5,fun _ h=>h⟩
    · exact ⟨_,h5,fun _ h=>h⟩
  have hinv : Inv ⟨tabs,some (H,V.ρ i)⟩ ⟨Γ.V,Γ.F,fun _=>True⟩ V (S (V.ρ i)):=by
    refine ⟨hi.os,hi.tape,hi.output,hi.old,hi.iLt,hi.iNew,hi.ext,⟨fun id o ho=>?_,fun id o ho=>?_,fun id o ho hn b hb=>?_,fun id id' o o' ho ho' hne hn hn' b hb hb'=>?_⟩,fun id o ho hn b hb=>?_,hi.tabs,⟨⟨Foot (V.ren (nm (i::l) V.nx) (i::l).length) (H.st s),V.I⟩,⟨?_,fun _ h=>h,fun b hb hI=>?_,fun b hb hB=>?_⟩,fun _ _=>.inl True.intro,fun b hb=>?_⟩⟩
    · obtain ⟨_,h5|⟨T,k,rw,rw',rfl,h5,h6⟩⟩:=(hSt (V.ρ i)).get id o ho
      · exact hi.st.obj id o h5
      · rcases hi.st.obj id _ h5 with ⟨_,h7⟩|⟨h1,cur,h2,h3,h4,h7,h8,h9⟩
        · cases h7
        · refine .inr ⟨h1,cur,h2,h3,h4,h7,fun x hx=>?_,fun i' x j c' hix hj=>?_⟩
          · simp at hx;subst hx;rw [h6.len];exact h8 rw (by simp)
          · have hi0:i'=0:=by have:=(List.getElem?_eq_some_iff.1 hix).1;simp at this;omega
            subst hi0
            simp at hix
            subst hix
            obtain ⟨c,hc,hf⟩:=h6.get j c' hj
            obtain ⟨v,h10,h11⟩:=h9 0 rw j c rfl hc
            exact ⟨v,h10,hf.rel rfl h11⟩
    · obtain ⟨o0,h5,_⟩:=hsrc id o ho;exact hi.st.lt id o0 h5
    · obtain ⟨o0,h5,h6⟩:=hsrc id o ho;exact hi.st.free id o0 h5 hn b (h6 b hb)
    · obtain ⟨o0,h5,h6⟩:=hsrc id o ho
      obtain ⟨o0',h5',h6'⟩:=hsrc id' o' ho'
      exact hi.st.inj id id' o0 o0' h5 h5' hne hn hn' b (h6 b hb) (h6' b hb')
    · obtain ⟨o0,h5,h6⟩:=hsrc id o ho;exact hi.live id o0 h5 hn b (h6 b hb)
    · exact ⟨s,V.ren (nm (i::l) V.nx) (i::l).length,rfl,rfl,hln,hS0,⟨Nat.succ_pos _,rfl,hnl0,fun x hx=>(hi.tabs x hx).1⟩,fun _=>Iff.rfl⟩
    · obtain ⟨id,o,g1,g2,g3⟩:=hb;exact hS0.free id o g1 g2 b g3 hI
    · obtain ⟨id,o,g1,g2,g3⟩:=hB
      obtain ⟨id',o',k1,k2,k3⟩:=hb
      obtain ⟨o0,h5,h6⟩:=hsrc id' o' k1
      have hnm:=((hSt (V.ρ i)).get id' o' k1).1
      exact hi.st.inj id' _ o0 _ h5 (hS.get id o g1) (fun e=>hnm (by rw [e];exact hmem id o g1)) k2 g2 b (h6 b k3) (blk_ren.1 g3)
    · obtain ⟨id,o,g1,g2,g3⟩:=hb;exact hi.live _ _ (hS.get id o g1) g2 b (blk_ren.1 g3)
  have hst:RelSt ⟨tabs,some (H,V.ρ i)⟩ ⟨Γ.V,Γ.F,fun _=>True⟩ N V (look (L (V.ρ i))) (S (V.ρ i)) V.nx a:=by
    refine ⟨fun t x hx=>?_,fun t x hx=>?_,hr.size,hinv,rfl,hr.defers⟩
    · obtain ⟨y,h1,h2⟩:=(hE (V.ρ i)).get t x hx
      exact h2.rel rfl (hr.env t y h1)
    · obtain ⟨y,h1,_⟩:=(hE (V.ρ i)).get t x hx
      exact hr.lt t y h1
  refine wp_mono (h (V.ρ i) ⟨Γ.V,Γ.F,fun _=>True⟩ rfl V a hst) ?_
  rintro e a' w' ⟨V',f',σ',h1,h2,h3⟩
  exact ⟨V',f',σ',h1,h2,⟨h3.env,h3.lt,h3.size,Inv.forget h3.inv,h3.nx,h3.defers⟩⟩
end
end Go.Am
namespace Go.Am
open Go Go.Proofs
set_option maxHeartbeats 1000000
attribute [local irreducible] QOp AOp Lex LexO AWp Spec
variable {TB:Amb}
def MemSt (t:Tsk) (ok:W→Prop) (m:Memo):Prop:=MemOk t ok m∧m.F[0]? = some (startP t)
theorem safe_ok [Tabs TB] {t:Tsk} {ok:W→Prop} (ht:tskOk t=true) (hfew:Few t ok) {m0:Memo} (hm0:MemSt t ok m0) {w:W} (how:ok w) (hw:∀c∈w,0≤(c.toNat:Int) - 97∧(c.toNat:Int) - 97 < 6) (hwl:w.length≤1048576) :
    SpecK Tryz.prog TB 92 1 (saS t m0) 5 [.o (.ptr 0 14 0 0),eT w] (fun x σ nx=>x=eB (LS t w)∧nx=5∧∃m,MemSt t ok m∧σ=saS t m):=by
  have hdr:w.drop 0=w:=rfl
  refine SpecK.ren (SpecK.ofG (m:=1) (Nat.le_of_ble_eq_true rfl) Tryz.func92 rfl (by kernel_rfl) (Nat.le_of_ble_eq_true rfl) ?_);intro Γ hΓ
  (repeat first|refine sN rfl ?_|((first|refine sA rfl ?_ ?_|refine s4 rfl ‹_› rfl ?_ ?_);first|exact tI|omega|simp only[oZ] at *;omega)|refine s2 rfl fun _ _hb=>?_|refine s3 rfl ?_ ?_<;>rintro rfl|refine aU rfl ?_|refine lexE ?_)
  refine AWp.block ?_
  refine AWp.loopV (α:={x:Nat×Nat×Memo // x.1≤w.length∧MemSt t ok x.2.2∧∃F,x.2.2.F[x.2.1]? = some F∧safeP t F (w.drop x.1)=LS t w∧F=runP t (startP t) (w.take x.1)}) [0,1] [] rfl rfl (fun s=>[(5,eI .i64 s.1.2.1),(6,eI .i64 s.1.1)]) (fun s=>saS t s.1.2.2) 5 (fun s=>w.length - s.1.1) (⟨⟨0,0,m0⟩,by simp,hm0,startP t,hm0.2,rfl,rfl⟩) (List.range 5) (rg hΓ rfl) (by (repeat' first|exact tI|rfl|refine And.intro ?_ ?_)<;>(simp[cX,zC,hΓ,kaC_ren]<;>rfl)) ?_;rintro ⟨⟨i,n,m⟩,hi,hm,F,hF,hs,hrn⟩;(try dsimp only[List.cons_append,List.nil_append])
  have hi:i≤w.length:=hi
  have hm:MemSt t ok m:=hm
  have hrn:F=runP t (startP t) (w.take i):=hrn
  have hF:m.F[n]? = some F:=hF
  have hs:safeP t F (w.drop i)=LS t w:=hs
  have hu:=hm.1.un n F hF
  have hul:=(List.getElem?_eq_some_iff.1 hu).1
  have hu':(m.un.map bRowC)[0+((n:Nat):Int).toNat]? = some (bRowC (badP t F)):=by rw [Nat.zero_add,Int.toNat_natCast];simp [hu]
  by_cases hlt:i < w.length
  · obtain ⟨c,hc⟩:=get_some hlt
    have hc':w[((i:Nat):Int).toNat]? = some c:=by simpa using hc
    have hcl:=hw c (List.mem_of_getElem? hc)
    have hla:=letterAt_ok (TB:=TB) w i c hc' hcl
    have hd:=drop_some hc
    have hrn1:nextP t ((c.toNat:Int) - 97) F=runP t (startP t) (w.take (i+1)):=by
      rw [List.take_add_one,hc,runP_app,←hrn];rfl
    obtain ⟨m1,j,hm1,hle,hj,haf⟩:=after_ok (TB:=TB) ht hfew hm.1 hF hcl (.inr ⟨w.take (i+1),w.drop (i+1),by rw [List.take_append_drop];exact how,hrn1⟩)
    rw [hd,safeP] at hs
    generalize badP t F=b at *
    (repeat' first|refine sN rfl ?_|((first|refine sA rfl ?_ ?_|refine s4 rfl ‹_› rfl ?_ ?_);first|exact tI|omega|simp only[oZ] at *;omega)|refine s2 rfl fun _ _hb=>?_|refine s3 rfl ?_ ?_<;>rintro rfl|refine aU rfl ?_|refine lexE ?_|(refine aC rfl ?_ ?_<;>rintro ⟨⟩));all_goals try contradiction
    all_goals first|(exfalso;first|omega|simp only[oZ] at *;omega;done)|skip
    · have hb:b=false:=by simpa using _hb
      subst hb
      refine AWp.skip ?_
      refine AWp.seq (AWp.block ?_)
      (repeat first|refine sN rfl ?_|((first|refine sA rfl ?_ ?_|refine s4 rfl ‹_› rfl ?_ ?_);first|exact tI|omega|simp only[oZ] at *;omega)|refine s2 rfl fun _ _hb=>?_ |refine sP rfl (hla) rfl ?_|refine s3 rfl ?_ ?_<;>rintro rfl|refine aU rfl ?_|refine lexE ?_)
      (refine pW rfl ?_ rfl (by rfl);refine n_callK [0,1,2,3,4] rfl rfl 1 (haf) (by decide) ⟨rfl,by decide,by decide⟩ rfl (by simp[cX,zC,hΓ,kaC_ren]) ?_;rintro x0 σ1 nx1 ⟨rfl,rfl,rfl⟩ _)
      (repeat first|refine sN rfl ?_|((first|refine sA rfl ?_ ?_|refine s4 rfl ‹_› rfl ?_ ?_);first|exact tI|omega|simp only[oZ] at *;omega)|refine s2 rfl fun _ _hb=>?_|refine s3 rfl ?_ ?_<;>rintro rfl)
      refine lexE ?_
      (repeat first|refine sN rfl ?_|((first|refine sA rfl ?_ ?_|refine s4 rfl ‹_› rfl ?_ ?_);first|exact tI|omega|simp only[oZ] at *;omega)|refine s2 rfl fun _ _hb=>?_|refine s3 rfl ?_ ?_<;>rintro rfl|refine aU rfl ?_|refine lexE ?_)
      refine ⟨⟨⟨i+1,j,m1⟩,by first|omega|simp only[oZ] at *;omega,⟨hm1,hle 0 _ hm.2⟩,_,hj,by simpa using hs,hrn1⟩,by dsimp only;(first|omega|simp only[oZ] at *;omega),[0,5,6,7,8],?_⟩
      simp[cX,zC,hΓ,kaC_ren]
    · have hb:b=true:=by simpa using _hb
      subst hb
      have hs:LS t w=false:=by simpa using hs.symm
      rw [hs]
      refine AWp.exit ?_
      (repeat first|refine sN rfl ?_|((first|refine sA rfl ?_ ?_|refine s4 rfl ‹_› rfl ?_ ?_);first|exact tI|omega|simp only[oZ] at *;omega)|refine s2 rfl fun _ _hb=>?_|refine s3 rfl ?_ ?_<;>rintro rfl|refine aU rfl ?_|refine lexE ?_)
      refine AWp.ret ⟨_,rfl,[0,1,2,3,4],eB false,saS t m,⟨by intro i hi;match i with|0=>rfl,by decide⟩,by subst_vars;rfl,by (repeat' first|exact tI|rfl|refine And.intro ?_ ?_)<;>(simp[cX,zC,hΓ,kaC_ren]<;>rfl),rfl,rfl,m,hm,rfl⟩
  · obtain rfl:i=w.length:=by omega
    rw [List.drop_length,safeP] at hs
    rw [←hs]
    (repeat' first|refine sN rfl ?_|((first|refine sA rfl ?_ ?_|refine s4 rfl ‹_› rfl ?_ ?_);first|exact tI|omega|simp only[oZ] at *;omega)|refine s2 rfl fun _ _hb=>?_|refine s3 rfl ?_ ?_<;>rintro rfl|refine aU rfl ?_|refine lexE ?_|(refine aC rfl ?_ ?_<;>rintro ⟨⟩));all_goals try contradiction
    all_goals first|(exfalso;first|omega|simp only[oZ] at *;omega;done)|skip
    refine AWp.exit ?_
    (repeat first|refine sN rfl ?_|((first|refine sA rfl ?_ ?_|refine s4 rfl ‹_› rfl ?_ ?_);first|exact tI|omega|simp only[oZ] at *;omega)|refine s2 rfl fun _ _hb=>?_|refine s3 rfl ?_ ?_<;>rintro rfl|refine aU rfl ?_|refine lexE ?_)
    refine AWp.ret ⟨_,rfl,[0,1,2,3,4],eB (!badP t F),saS t m,⟨by intro i hi;match i with|0=>rfl,by decide⟩,by subst_vars;rfl,by (repeat' first|exact tI|rfl|refine And.intro ?_ ?_)<;>(simp[cX,zC,hΓ,kaC_ren]<;>rfl),rfl,rfl,m,hm,rfl⟩
def taskH (t:Tsk) (ok:W→Prop):Hid:=⟨{m:Memo // MemSt t ok m},fun s=>saS t s.1,5⟩
theorem safe_hid {tabs:List (Nat×Obj)} [Tabs ⟨tabs,none⟩] {t:Tsk} {ok:W→Prop} (ht:tskOk t=true) (hfew:Few t ok) {r:Nat} {w:W} (how:ok w) (hw:∀c∈w,0≤(c.toNat:Int) - 97∧(c.toNat:Int) - 97 < 6) (hwl:w.length≤1048576) :
    Pure Tryz.prog ⟨tabs,some (taskH t ok,r)⟩ 92 [.o (rawP r),eT w] (eB (LS t w)):=
  pure_hid (H:=taskH t ok) (k:=14) (es:=[eT w]) ⟨_,Tryz.func92,by kernel_rfl,rfl⟩ (by intro e he;simp at he;subst he;rfl) rfl fun s=>
    ⟨(safe_ok (TB:=⟨tabs,none⟩) ht hfew s.2 how hw hwl).1,fun V vs S hg ha=>((safe_ok (TB:=⟨tabs,none⟩) ht hfew s.2 how hw hwl).2 V vs S hg ha).mono fun e w' ⟨V',v,x,σ',h1,h2,h3,h4,h5,h6,m,h7,h8⟩=>⟨V',v,x,σ',h1,h2,h3,h4,h5,h6,⟨m,h7⟩,h8⟩⟩
section
variable {P:Program} {Γ:Ctx} {d:Option Tmp} {ty:TypeId} {pos:String} {af:Array Edge} {g:Option (Nat×Bool)} {f:Env} {σ:Store} {nx:Nat}
variable {K:E→Store→Nat→Prop}
theorem n_buildN3 {t:TypeId} {z:List Value} {fl:List (Nat×Nat)} {parts:Array (Nat×Operand)} {es:List E} {qs:List (Nat×List C)} [hz:HasZe P t z] [hf:HasFl P t fl] (p k e q k' e' s k'' e'':Nat) (hp:z[p]? = some (.slice none 0 0)) (hp':z[q]? = some (.slice none 0 0)) (hp'':z[s]? = some (.slice none 0 0)) (hpq:p≠q∧p≠s∧q≠s) (hes:evs f (parts.toList.map (·.2))=some es) (hq:offParts fl parts.toList es=some qs)
    (hok:z.all zOk=true) (hle:(qs.all fun x=>Nat.ble (x.1+x.2.length) z.length)=true) (hK:K (.a (fillC qs ((((z.map zC).set p (.arr nx k 0 0)).set q (.arr (nx+1) k' 0 0)).set s (.arr (nx+2) k'' 0 0)))) ((nx+2,.cells e'' k'' [])::(nx+1,.cells e' k' [])::(nx,.cells e k [])::σ) (nx+3)):AOp P TB Γ ⟨d,.build t parts,ty,pos,af,g⟩ f σ nx K:=
  n_of_run fun V ρ h1 h2 h3=>by
    subst h3
    obtain ⟨i,zv,hi,hzv,hzz⟩:=ze_inv hz.out
    obtain ⟨hi1,he1⟩:=h2.alloc (c:=0) (nl:=True) (w:=V.w) (ob:=.cells e k []) rfl rfl rfl rfl (Nat.le_refl _) (fun _ _=>rfl) (.inl ⟨by simp [newV],rfl⟩)
    obtain ⟨hi2,he2⟩:=hi1.alloc (c:=0) (nl:=True) (w:=V.w) (ob:=.cells e' k' []) rfl rfl rfl rfl (Nat.le_refl _) (fun _ _=>rfl) (.inl ⟨by simp [newV],rfl⟩)
    obtain ⟨hi4,he4⟩:=hi2.alloc (c:=0) (nl:=True) (w:=V.w) (ob:=.cells e'' k'' []) rfl rfl rfl rfl (Nat.le_refl _) (fun _ _=>rfl) (.inl ⟨by simp [newV],rfl⟩)
    have he3:=(he1.trans he2).trans he4
    have hfo:=offParts_fill (V:=newV (newV (newV V V.w.heap.size 0 True V.w) V.w.heap.size 0 True V.w) V.w.heap.size 0 True V.w) (ρ:=ρ) parts.toList es qs (fun x hx e he=>(h1.get (by simp only [Op.operands];simpa using hx) he).ext he3) hes hq
    have hzr : LRel (newV (newV (newV V V.w.heap.size 0 True V.w) V.w.heap.size 0 True V.w) V.w.heap.size 0 True V.w) ((((z.map zC).set p (.arr V.nx k 0 0)).set q (.arr (V.nx+1) k' 0 0)).set s (.arr (V.nx+2) k'' 0 0)) zv.cells:=by
      refine ⟨by rw [List.length_set,List.length_set,List.length_set,List.length_map,←hzz];simp,fun j c v hj hv=>?_⟩
      have hzj:z[j]? = some v:=by rw [←hzz,Array.getElem?_toList];exact hv
      by_cases hjs:s=j
      · subst hjs
        rw [hp''] at hzj
        injection hzj with hzj
        subst hzj
        rw [List.getElem?_set_self (by rw [List.length_set,List.length_set,List.length_map];exact (List.getElem?_eq_some_iff.1 hp'').1)] at hj
        injection hj with hj
        subst hj
        exact CRel.nil (by simp [newV]) (by simp [newV])
      · rw [List.getElem?_set_ne hjs] at hj
        by_cases hjq:q=j
        · subst hjq
          rw [hp'] at hzj
          injection hzj with hzj
          subst hzj
          rw [List.getElem?_set_self (by rw [List.length_set,List.length_map];exact (List.getElem?_eq_some_iff.1 hp').1)] at hj
          injection hj with hj
          subst hj
          exact CRel.nil (by simp [newV]) (by simp [newV])
        · rw [List.getElem?_set_ne hjq] at hj
          by_cases hjp:p=j
          · subst hjp
            rw [hp] at hzj
            injection hzj with hzj
            subst hzj
            rw [List.getElem?_set_self (by rw [List.length_map];exact (List.getElem?_eq_some_iff.1 hp).1)] at hj
            injection hj with hj
            subst hj
            exact CRel.nil (by simp [newV];omega) (by simp [newV])
          · rw [List.getElem?_set_ne hjp,List.getElem?_map,hzj] at hj
            injection hj with hj
            subst hj
            exact zC_rel (List.all_eq_true.1 hok v (List.mem_of_getElem? hzj))
    obtain ⟨cells,h4,h5⟩:=fill_rel _ _ _ _ hfo hzr (fun x hx=>by rw [List.length_set,List.length_set,List.length_set,List.length_map];exact fillC_ok _ _ hle x hx)
    have hb:=run_build (P:=P) (ρ:=ρ) (parts:=parts) (V:=V) hi hzv hf.out h4
    refine ⟨.agg cells,_,_,_,?_,he3,hi4,(show ERel _ (.a _) _ from ⟨cells,rfl,h5⟩),hK⟩
    show ((do let v ←Instr.build t (parts.map fun (i,x)=>(i,ρ x));pure (Go.Next.value v):Sem Go.Next)).run P V.w=_
    simp only [Sem.run_bind,hb,Result.andThen_ok]
    rfl
end
theorem letters_andNot {a b:Int} (ha:alphB a=true) (hb:alphB b=true):letters (iAndNot .i64 a b)=(letters a).filter fun l=>!bitB b l.toNat:=by
  have key:((List.range 64).all fun x=>(List.range 64).all fun y=>decide (letters (iAndNot .i64 (x:Nat) (y:Nat))=(letters (x:Nat)).filter fun l=>!bitB (y:Nat) l.toNat))=true:=by kernel_rfl
  unfold alphB at ha hb
  simp only [decide_eq_true_eq] at ha hb
  have h1:=List.all_eq_true.1 key a.toNat (List.mem_range.2 (by omega))
  have h2:=List.all_eq_true.1 h1 b.toNat (List.mem_range.2 (by omega))
  rw [Int.toNat_of_nonneg ha.1,Int.toNat_of_nonneg hb.1] at h2
  exact of_decide_eq_true h2
abbrev tkRow (t:Tsk):List D:=[iD t.s.al,iD t.s.st,edList t.s.es,iD t.q.al,iiList t.q.nx,bList t.q.ac,iD t.al]
abbrev eTsk (t:Tsk):E:=.a ((tkRow t).map .d)
theorem empty_ok (t:Tsk) (ok:W→Prop):MemOk t ok ⟨[],[],[]⟩:=⟨rfl,rfl,List.nodup_nil,by simp,by simp,by simp,by simp⟩
theorem newSafety_ok [Tabs TB] {t:Tsk} (ht:tskOk t=true) (ok:W→Prop):∃m,MemSt t ok m∧SpecK Tryz.prog TB 91 0 [] 0 [eTsk t] (fun x σ nx=>x=.o (.ptr 0 14 0 0)∧σ=saS t m∧nx=5):=by
  have hs:sysOk t.s=true:=by unfold tskOk at ht;simp only [Bool.and_eq_true] at ht;exact ht.1
  have hta:alphB t.al=true:=by unfold tskOk at ht;simp only [Bool.and_eq_true] at ht;exact ht.2.2
  have hsh:=sysOk_head hs
  have hz:=zeroP_ok ht
  obtain ⟨m1,k,hcase,hadd⟩:=add_ok (TB:=TB) ht (empty_ok t ok) (by simp) (startP_ok ht)
  have hm1:m1=addM t ⟨[],[],[]⟩ (startP t):=by
    rcases hcase with ⟨_,h2⟩|⟨h2,_,_⟩
    · simp at h2
    · exact h2
  have hcl:=close_ok (TB:=TB) ht ⟨[],[],[]⟩ hz
  refine ⟨m1,⟨by rw [hm1];exact addM_ok (empty_ok t ok) .start (.inl rfl) (by simp),by rw [hm1];rfl⟩,?_⟩
  have hmv:=movesOf_ok (TB:=TB) t.s hs
  have htb:=tableOf_ok (TB:=TB) t.q (tsk_aut ht)
  have hlo:=lettersOf_ok (TB:=TB) (iAndNot .i64 t.s.al t.al)
  rw [letters_andNot hsh.1 hta] at hlo
  have hlo:Pure Tryz.prog TB 88 [eI .i64 (iAndNot .i64 t.s.al t.al)] (eInts (hidL t)):=hlo
  rw [show clP t zeroP=startP t from rfl] at hcl
  have hmp:mapA .u16 (mpS [])=[]:=rfl
  have hpz:psL zeroP=[1,0,0,0,0,0,0,0,0,0,0,0]:=rfl
  refine SpecK.ren (SpecK.ofG (m:=0) (Nat.le_of_ble_eq_true rfl) Tryz.func91 rfl (by kernel_rfl) (Nat.le_of_ble_eq_true rfl) ?_);intro Γ hΓ
  (repeat first|refine sN rfl ?_|((first|refine sA rfl ?_ ?_|refine s4 rfl ‹_› rfl ?_ ?_);first|exact tI|omega|simp only[oZ] at *;omega)|refine s2 rfl fun _ _hb=>?_|refine s3 rfl ?_ ?_<;>rintro rfl|refine aU rfl ?_|refine lexE ?_)
  refine rG (flX [(14,1),(15,1),(16,1)]) (by kernel_rfl) ?_
  (repeat first|refine sN rfl ?_|((first|refine sX rfl ?_ ?_|refine s4 rfl ‹_› rfl ?_ ?_);first|exact tI|omega|simp only[oZ] at *;omega)|refine s2 rfl fun _ _hb=>?_ |refine sP rfl (hmv) rfl ?_|refine sP rfl (htb) rfl ?_|refine sP rfl (hlo) rfl ?_|(refine popO rfl ?_;refine gA rfl ?_;first|refine gS (fun _ _=>q_andNot rfl rfl rfl) ?_)|refine s3 rfl ?_ ?_<;>rintro rfl|refine aU rfl ?_|refine lexE ?_)
  (refine pW rfl ?_ rfl (by rfl);refine n_makeMap ?_)
  (repeat first|refine sN rfl ?_|((first|refine sX rfl ?_ ?_|refine s4 rfl ‹_› rfl ?_ ?_);first|exact tI|omega|simp only[oZ] at *;omega)|refine s2 rfl fun _ _hb=>?_|refine s3 rfl ?_ ?_<;>rintro rfl|refine aU rfl ?_|refine lexE ?_)
  (refine pW rfl ?_ rfl (by rfl);refine n_buildN3 10 12 132 12 6 97 13 1 4 rfl rfl rfl (by decide) rfl rfl (by rfl) (by rfl) ?_)
  (repeat first|refine sN rfl ?_|((first|refine sX rfl ?_ ?_|refine s4 rfl ‹_› rfl ?_ ?_);first|exact tI|omega|simp only[oZ] at *;omega)|refine s2 rfl fun _ _hb=>?_|refine s3 rfl ?_ ?_<;>rintro rfl|refine aU rfl ?_|refine lexE ?_)
  (refine pW rfl ?_ rfl (by rfl);refine n_box rfl rfl ?_)
  (repeat first|refine sN rfl ?_|((first|refine sA rfl ?_ ?_|refine s4 rfl ‹_› rfl ?_ ?_);first|exact tI|omega|simp only[oZ] at *;omega)|refine s2 rfl fun _ _hb=>?_|refine s3 rfl ?_ ?_<;>rintro rfl)
  refine lexE ?_
  refine AWp.namesV [] [] rfl rfl [(3,.o (.ptr 0 14 0 0))] [(0,.cells 128 14 [safR t (.arr 1 12 0 0) (.mp 2) (.arr 3 6 0 0) (.arr 4 1 0 0)]),(1,.cells 132 12 []),(2,.mp []),(3,.cells 97 6 []),(4,.cells 4 1 [])] [4,1,0,2,3] (rl hΓ rfl) (by (repeat' first|exact tI|rfl|refine And.intro ?_ ?_)<;>(simp[cX,zC,hΓ,kaC_ren]<;>rfl)) ?_;(try dsimp only[List.cons_append,List.nil_append])
  (repeat first|refine sN rfl ?_|((first|refine sA rfl ?_ ?_|refine s4 rfl ‹_› rfl ?_ ?_);first|exact tI|omega|simp only[oZ] at *;omega)|refine s2 rfl fun _ _hb=>?_|(refine popO rfl ?_;refine gA rfl ?_;first|refine gS (fun _ _=>q_build rfl rfl (by rfl) (by rfl)) ?_)|refine s3 rfl ?_ ?_<;>rintro rfl|refine aU rfl ?_|refine lexE ?_)
  (refine pW rfl ?_ rfl (by rfl);refine n_call [0,1,2,3,4] rfl rfl (hcl) ⟨rfl,by decide,by decide⟩ rfl (by simp[cX,zC,hΓ,kaC_ren,hpz,hmp]) ?_;rintro x0 σ1 nx1 ⟨rfl,rfl,rfl⟩ _)
  (repeat first|refine sN rfl ?_|((first|refine sA rfl ?_ ?_|refine s4 rfl ‹_› rfl ?_ ?_);first|exact tI|omega|simp only[oZ] at *;omega)|refine s2 rfl fun _ _hb=>?_|refine s3 rfl ?_ ?_<;>rintro rfl)
  (refine pW rfl ?_ rfl (by rfl);refine n_callK [0,1,2,3,4] rfl rfl 1 (hadd) (by decide) ⟨rfl,by decide,by decide⟩ rfl (by simp[cX,zC,hΓ,kaC_ren]) ?_;rintro x0 σ1 nx1 ⟨rfl,rfl,rfl⟩ _)
  (repeat first|refine sN rfl ?_|((first|refine sA rfl ?_ ?_|refine s4 rfl ‹_› rfl ?_ ?_);first|exact tI|omega|simp only[oZ] at *;omega)|refine s2 rfl fun _ _hb=>?_|refine s3 rfl ?_ ?_<;>rintro rfl)
  refine lexE ?_
  (repeat first|refine sN rfl ?_|((first|refine sA rfl ?_ ?_|refine s4 rfl ‹_› rfl ?_ ?_);first|exact tI|omega|simp only[oZ] at *;omega)|refine s2 rfl fun _ _hb=>?_|refine s3 rfl ?_ ?_<;>rintro rfl|refine aU rfl ?_|refine lexE ?_)
  refine AWp.ret ⟨_,rfl,[0,5,6,7,8],.o (.ptr 0 14 0 0),saS t m1,⟨by intro i hi;omega,by decide⟩,rfl,by (repeat' first|exact tI|rfl|refine And.intro ?_ ?_)<;>(simp[cX,zC,hΓ,kaC_ren]<;>rfl),rfl,rfl,rfl⟩
end Go.Am
