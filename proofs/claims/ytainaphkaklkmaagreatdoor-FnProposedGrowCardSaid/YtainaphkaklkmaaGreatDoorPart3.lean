/-
  append, make, literals of slices and structs.
-/
import Derived.Test.YtainaphkaklkmaaGreatDoorPart2
import Derived.Laws.IdiomStrings
import Derived.ChangeKeysEq
set_option linter.constructorNameAsVariable false
set_option linter.unusedSimpArgs false
set_option linter.unusedVariables false
namespace Go.Am
open Go
def SrcRel (V:View) (k:Nat) (rows:List (List C)) (v:Value):Prop:=
  (v=.slice none 0 0∧rows=[])∨
  ∃(a:Addr) (cap:Nat) (vs:Nat→Nat→Value),v=.slice (some a) rows.length cap∧(∀r∈rows,r.length=k)∧
    ∀(i:Nat) (r:List C) (j:Nat) (c:C),rows[i]? = some r→r[j]? = some c→V.w.cell? (a.add (i*k+j))=some (vs i j)∧CRel V c (vs i j)
def srcRows (σ:Store) (k:Nat):E→Option (List (List C))
  | .o (.d (.l rows))=>some (rows.map fun r=>r.map .d)
  | .o (.arr id k' off len)=>match look σ id with
    | some (.cells _ _ rows)=>bif Nat.beq k' k && Nat.ble (off+len) rows.length then some ((rows.drop off).take len) else none
    | _=>none
  | _=>none
theorem src_rel {TB:List (Nat×Obj)} {Γ:Ctx} {V:View} {σ:Store} (h:Inv TB Γ V σ) {k:Nat} {e:E} {v:Value} {rows:List (List C)} (hs:srcRows σ k e=some rows) (hk:∀r∈rows,r.length=k) (he:ERel V e v):SrcRel V k rows v:=by
  unfold srcRows at hs
  split at hs
  · rename_i ds
    injection hs with hs
    subst hs
    cases he with
    | d he=>
      cases he with
      | nil=>exact .inl ⟨rfl,rfl⟩
      | @e a cap=>exact .inr ⟨a,cap,fun _ _=>undef,rfl,by simp,fun i r j c hi=>by simp at hi⟩
      | @l _ b o k' cap vs hb h1 h1' h2 h3 h4=>
        refine .inr ⟨⟨b,o,none⟩,cap,vs,by simp,hk,fun i r j c hi hj=>?_⟩
        simp only [List.getElem?_map,Option.map_eq_some_iff] at hi
        obtain ⟨r0,hr0,rfl⟩:=hi
        simp only [List.getElem?_map,Option.map_eq_some_iff] at hj
        obtain ⟨x,hx,rfl⟩:=hj
        have:k'=k:=by
          have e1:=h2 i r0 hr0
          have e2:=hk (r0.map .d) (List.mem_map.2 ⟨r0,List.mem_of_getElem? hr0,rfl⟩)
          rw [List.length_map] at e2;omega
        subst this
        exact ⟨by rw [addr_add,←Nat.add_assoc];exact h3 i r0 j x hr0 hx,.d (h4 i r0 j x hr0 hx)⟩
  · rename_i id k' off len
    split at hs
    · rename_i T k2 rows2 hl
      cases hb:Nat.beq k' k && Nat.ble (off+len) rows2.length
      · rw [hb] at hs;cases hs
      · rw [hb] at hs
        injection hs with hs
        subst hs
        rw [Bool.and_eq_true] at hb
        have hkk:=Nat.eq_of_beq_eq_true hb.1
        have hle:=Nat.le_of_ble_eq_true hb.2
        subst hkk
        cases he with
        | nil h1 h2=>exact .inl ⟨rfl,by simp⟩
        | arr h1 hnl h2=>
          rcases h.st.obj id _ hl with ⟨h4,_⟩|⟨_,cur,h4,h5,h6,h7,h8,h9⟩
          · exact absurd h4 hnl
          · rcases Nat.eq_zero_or_pos len with h0|h0
            · subst h0
              exact .inr ⟨⟨V.ρ id,off*k',none⟩,V.cap id - off,fun _ _=>undef,by simp,by simp,fun i r j c hi=>by simp at hi⟩
            · have hk2:k2=k':=by
                have hlt:0 < ((rows2.drop off).take len).length:=by simp;omega
                have e1:=hk _ (List.getElem_mem hlt)
                have e2:=h8 _ (List.mem_of_mem_drop (List.mem_of_mem_take (List.getElem_mem hlt)))
                omega
              subst hk2
              refine .inr ⟨⟨V.ρ id,off*k2,none⟩,V.cap id - off,fun i j=>cur.getD ((off+i)*k2+j) undef,?_,hk,fun i r j c hi hj=>?_⟩
              · have:((rows2.drop off).take len).length=len:=by simp;omega
                rw [this]
              · rw [List.getElem?_take] at hi
                split at hi
                · rename_i hlt
                  rw [List.getElem?_drop] at hi
                  obtain ⟨v,h10,h11⟩:=h9 (off+i) r j c hi hj
                  have e3:off*k2+i*k2+j=(off+i)*k2+j:=by rw [Nat.add_mul]
                  have:cur.getD ((off+i)*k2+j) undef=v:=by simp [h10]
                  simp only [this]
                  exact ⟨by rw [addr_add,←Nat.add_assoc,e3];simp [World.cell?,h4,h10],h11⟩
                · cases hi
    · cases hs
  · cases hs
def flatV (m k:Nat) (vs:Nat→Nat→Value):List Value:=(List.range (m*k)).map fun q=>vs (q / k) (q % k)
theorem flatV_get {m k:Nat} {vs:Nat→Nat→Value} {i j:Nat} (hi:i < m) (hj:j < k):(flatV m k vs)[i*k+j]? = some (vs i j):=by
  have hlt:i*k+j < m*k:=by
    have:=Nat.mul_le_mul_right k (show i+1≤m by omega)
    rw [Nat.add_mul] at this;omega
  have hk:0 < k:=by omega
  have e1:(i*k+j) / k=i:=by rw [Nat.add_comm,Nat.add_mul_div_right _ _ hk,Nat.div_eq_of_lt hj,Nat.zero_add]
  have e2:(i*k+j) % k=j:=by rw [Nat.add_comm,Nat.add_mul_mod_self_right,Nat.mod_eq_of_lt hj]
  simp [flatV,hlt,e1,e2]
theorem flatV_inv {m k:Nat} {vs:Nat→Nat→Value} {q:Nat} {u:Value} (h:(flatV m k vs)[q]? = some u):∃i j,q=i*k+j∧i < m∧j < k∧u=vs i j:=by
  have hlt:=(List.getElem?_eq_some_iff.1 h).1
  simp [flatV] at hlt
  have hk:0 < k:=by rcases Nat.eq_zero_or_pos k with h0|h0;(subst h0;simp at hlt);exact h0
  refine ⟨q / k,q % k,?_,?_,Nat.mod_lt _ hk,?_⟩
  · rw [Nat.mul_comm];exact (Nat.div_add_mod q k).symm
  · exact Nat.div_lt_of_lt_mul (by rw [Nat.mul_comm];exact hlt)
  · simp [flatV,hlt] at h;exact h.symm
theorem flatV_length (m k:Nat) (vs:Nat→Nat→Value):(flatV m k vs).length=m*k:=by simp [flatV]
section
variable {P:Program} {TB:List (Nat×Obj)} {Γ:Ctx} {d:Option Tmp} {ty:TypeId} {pos:String} {af:Array Edge} {g:Option (Nat×Bool)} {f:Env} {σ:Store} {nx:Nat}
variable {K:E→Store→Nat→Prop}
theorem run_append_noth {t e:TypeId} {i:TypeInfo} (ht:P.underlying t=some (.slice e)) (hi:P.info? e=some i) (w:World) (base:Option Addr) (n cap:Nat) (hn:n≤cap) (ty:TypeId) :
    (Builtin.append_ #[t,t] ty #[.slice base n cap,.slice none 0 0]).run P w=.ok (.slice base n cap) w:=by
  cases base<;>simp [Builtin.append_,run_underlying ht,sizeOf,typeInfo,hi,Builtin.lenOf,Builtin.firstCells,storeCells,hn,go_sem]
theorem cells_rows {V:View} {k:Nat} {rows news:List (List C)} {cur':Array Value} (ho:∀(i:Nat) (r:List C) (j:Nat) (c:C),rows[i]? = some r→r[j]? = some c→∃v,cur'[i*k+j]? = some v∧CRel V c v)
    (hn:∀(i:Nat) (r:List C) (j:Nat) (c:C),news[i]? = some r→r[j]? = some c→∃v,cur'[(rows.length+i)*k+j]? = some v∧CRel V c v) :
    ∀(i:Nat) (r:List C) (j:Nat) (c:C),(rows++news)[i]? = some r→r[j]? = some c→∃v,cur'[i*k+j]? = some v∧CRel V c v:=by
  intro i r j c hi hj
  by_cases h:i < rows.length
  · rw [List.getElem?_append_left h] at hi;exact ho i r j c hi hj
  · rw [List.getElem?_append_right (by omega)] at hi
    have:=hn (i - rows.length) r j c hi hj
    have e:rows.length+(i - rows.length)=i:=by omega
    rw [e] at this;exact this
theorem n_append {t e:TypeId} {k b:Nat} {z:List Value} {s x:Operand} {id len:Nat} {rows news:List (List C)} {ex:E} [hl:HasSl P t e k b] [hz:HasZe P e z]
    (hs:ev f s=some (.o (.arr id k 0 len))) (hx:ev f x=some ex) (hlk:look σ id=some (.cells e k rows)) (hlen:rows.length=len) (hsrc:srcRows σ k ex=some news) (hkk:∀r∈news,r.length=k)
    (hzk:z.length=k) (hb0:0 < b) (hb:(len+news.length)*b≤140737488355328)
    (hK:K (.o (.arr nx k 0 (len+news.length))) ((nx,.cells e k (rows++news))::kill id σ) (nx+1)):AOp P TB Γ ⟨d,.call ⟨.builtin .append,#[s,x],#[t,t]⟩,ty,pos,af,g⟩ f σ nx K:=
  n_of_run fun V ρ h1 h2 h3=>by
    subst h3
    obtain ⟨i,hu,hi,hsz,hby⟩:=sl_inv hl.out
    have hz':=hz.out
    simp only [zeF,hi,Option.bind_some,Option.map_eq_some_iff] at hz'
    obtain ⟨zv,hzv,hzz⟩:=hz'
    have hzc:zv.cells.size=k:=by rw [←hzk,←hzz];simp
    have hsr:=h1.get (x:=s) (by simp [Op.operands,Call.operands]) hs
    have hxr:=src_rel h2 hsrc hkk (h1.get (x:=x) (by simp [Op.operands,Call.operands]) hx)
    have hexec:∀w,(execOp ρ ⟨d,.call ⟨.builtin .append,#[s,x],#[t,t]⟩,ty,pos,af,g⟩).run P w=((Builtin.append_ #[t,t] ty #[ρ s,ρ x]).run P w).andThen fun v w'=>.ok (.value v) w':=fun w=>by
      simp only [execOp,resolve,invoke,builtin,List.map_toArray,List.map_cons,List.map_nil,pure_bind,bind_pure_comp,Sem.run_map]
    have hmax:len+news.length≤maxLen:=by
      have:len+news.length≤(len+news.length)*b:=Nat.le_mul_of_pos_right _ hb0
      unfold maxLen;omega
    have hint:((len+news.length:Nat):Int)≤9223372036854775807:=by
      have:len+news.length≤(len+news.length)*b:=Nat.le_mul_of_pos_right _ hb0
      omega
    generalize hvs:ρ s=vs at *
    generalize hvx:ρ x=vx at *
    have hob:=h2.st.obj id _ hlk
    rcases hxr with ⟨rfl,hnil⟩|⟨xa,xc,xv,rfl,hxk,hxcell⟩
    · -- nothing is added: the value stays
      subst hnil
      obtain ⟨hi',he'⟩:=h2.alias hlk
      rw [List.append_nil] at hK
      refine ⟨vs,_,_,_,?_,he',hi',?_,hK⟩
      · rw [hexec]
        cases hsr with
        | nil=>rw [run_append_noth hu hi V.w none 0 0 (Nat.le_refl _) ty];rfl
        | arr h4 h5 h6=>rw [run_append_noth hu hi V.w _ len _ (by omega) ty];rfl
      · have hnn:(newV V (V.ρ id) (V.cap id) (V.nl id) V.w).nl V.nx=V.nl id:=by simp [newV]
        have hnr:(newV V (V.ρ id) (V.cap id) (V.nl id) V.w).ρ V.nx=V.ρ id:=by simp [newV]
        have hnc:(newV V (V.ρ id) (V.cap id) (V.nl id) V.w).cap V.nx=V.cap id:=by simp [newV]
        cases hsr with
        | nil h4 h5=>exact CRel.nil (by simp [newV]) (by rw [hnn];exact h5)
        | arr h4 h5 h6=>
          have:=@CRel.arr (newV V (V.ρ id) (V.cap id) (V.nl id) V.w) V.nx k 0 (len+0) (by simp [newV]) (by rw [hnn];exact h5) (by rw [hnc];exact h6)
          rw [hnr,hnc] at this
          exact this
    · have hnewsl:(flatV news.length k xv).length=news.length*i.size:=by rw [flatV_length,hsz]
      have hnewsc:∀j u,(flatV news.length k xv)[j]? = some u→V.w.cell? (xa.add j)=some u:=by
        intro q u hq
        obtain ⟨a,b,rfl,ha,hb,rfl⟩:=flatV_inv hq
        have hbl:b < news[a].length:=by rw [hxk _ (List.getElem_mem ha)];exact hb
        exact (hxcell a news[a] b news[a][b] (List.getElem?_eq_getElem ha) (List.getElem?_eq_getElem hbl)).1
      have hnews1:∀u∈flatV news.length k xv,u.oneCell'=true:=by
        intro u hu
        obtain ⟨q,hq,rfl⟩:=List.getElem_of_mem hu
        obtain ⟨a,b,_,ha,hb,he⟩:=flatV_inv (List.getElem?_eq_getElem hq)
        rw [he]
        have hbl:b < news[a].length:=by rw [hxk _ (List.getElem_mem ha)];exact hb
        exact (hxcell a news[a] b news[a][b] (List.getElem?_eq_getElem ha) (List.getElem?_eq_getElem hbl)).2.one
      have fresh:∀(olds:List Value) (cap':Nat),olds.length=len*k→len+news.length≤cap'→cap'≤maxLen→
          (∀(i:Nat) (r:List C) (j:Nat) (c:C),rows[i]? = some r→r[j]? = some c→∃v,olds[i*k+j]? = some v∧CRel V c v)→
          (Builtin.append_ #[t,t] ty #[vs,.slice (some xa) news.length xc]).run P V.w=.ok (.slice (some ⟨V.w.heap.size,0,none⟩) (len+news.length) cap')
            (V.w.drew.alloc (.cells (olds.toArray++(flatV news.length k xv).toArray++Builtin.zeroCells zv.cells (cap' - (len+news.length))) e))→
          (∀r∈rows,r.length=k)→
          ∃v V' xx σ',(execOp ρ ⟨d,.call ⟨.builtin .append,#[s,x],#[t,t]⟩,ty,pos,af,g⟩).run P V.w=.ok (.value v) V'.w∧Ext V V'∧Inv TB Γ V' σ'∧ERel V' xx v∧K xx σ' V'.nx:=by
        intro olds cap' hol hcap hcm hold hrun hrk
        let w':=V.w.drew.alloc (.cells (olds.toArray++(flatV news.length k xv).toArray++Builtin.zeroCells zv.cells (cap' - (len+news.length))) e)
        have ee:Ext V (newV V V.w.heap.size cap' False w'):=newV_ext (by simp [w']) fun b hb=>heap_push_old V.w.drew _ b (h2.iLt b hb)
        obtain ⟨hi',he'⟩:=h2.alloc (c:=cap') (nl:=False) (w:=w') (ob:=.cells e k (rows++news)) rfl rfl rfl rfl (by simp [w']) (fun b hb=>heap_push_old V.w.drew _ b hb) (by
          refine .inr ⟨by simp [newV],olds.toArray++(flatV news.length k xv).toArray++Builtin.zeroCells zv.cells (cap' - (len+news.length)),?_,?_,?_,?_,?_,?_⟩
          · have:=heap_push_new V.w.drew (.cells (olds.toArray++(flatV news.length k xv).toArray++Builtin.zeroCells zv.cells (cap' - (len+news.length))) e)
            have hr:(newV V V.w.heap.size cap' False w').ρ V.nx=V.w.heap.size:=by simp [newV]
            rw [hr];exact this
          · have hc:(newV V V.w.heap.size cap' False w').cap V.nx=cap':=by simp [newV]
            rw [hc]
            simp only [Array.size_append,List.size_toArray,hol,flatV_length,Builtin.zeroCells,Array.size_map,Array.size_range,hzc,←Nat.add_mul]
            congr 1;omega
          · have hc:(newV V V.w.heap.size cap' False w').cap V.nx=cap':=by simp [newV]
            rw [hc,List.length_append,hlen];exact hcap
          · have hc:(newV V V.w.heap.size cap' False w').cap V.nx=cap':=by simp [newV]
            rw [hc];exact hcm
          · intro r hr
            rcases List.mem_append.1 hr with h|h
            · exact hrk r h
            · exact hkk r h
          · refine cells_rows (fun i r j c hi hj=>?_) (fun i r j c hi hj=>?_)
            · obtain ⟨v,h10,h11⟩:=hold i r j c hi hj
              refine ⟨v,?_,h11.ext ee⟩
              have hlt:=(List.getElem?_eq_some_iff.1 h10).1
              rw [Array.getElem?_append_left (by simp;omega),Array.getElem?_append_left (by simpa using hlt)]
              simpa using h10
            · have hil:=(List.getElem?_eq_some_iff.1 hi).1
              have hjl:j < k:=by rw [←hxk r (List.mem_of_getElem? hi)];exact (List.getElem?_eq_some_iff.1 hj).1
              have h10:=flatV_get (vs:=xv) hil hjl
              refine ⟨xv i j,?_,(hxcell i r j c hi hj).2.ext ee⟩
              have hlt:=(List.getElem?_eq_some_iff.1 h10).1
              rw [hlen,Nat.add_mul,Nat.add_assoc]
              rw [Array.getElem?_append_left (by simp [hol];omega),Array.getElem?_append_right (by simp [hol])]
              simpa [hol] using h10)
        refine ⟨.slice (some ⟨V.w.heap.size,0,none⟩) (len+news.length) cap',_,_,(V.nx,.cells e k (rows++news))::kill id σ,?_,he',hi'.sub ?_,?_,hK⟩
        · rw [hexec,hrun];rfl
        · intro q o hq
          rw [look_cons] at hq ⊢
          by_cases hqq:V.nx=q
          · rwa [if_pos hqq] at hq ⊢
          · rw [if_neg hqq] at hq ⊢
            rw [look_kill] at hq
            by_cases hqi:q=id
            · rw [if_pos hqi] at hq;cases hq
            · rwa [if_neg hqi] at hq
        · have:=@CRel.arr (newV V V.w.heap.size cap' False w') V.nx k 0 (len+news.length) (by simp [newV]) (by simp [newV]) (by simp [newV];exact hcap)
          have hr:(newV V V.w.heap.size cap' False w').ρ V.nx=V.w.heap.size:=by simp [newV]
          have hc:(newV V V.w.heap.size cap' False w').cap V.nx=cap':=by simp [newV]
          rw [hr,hc,Nat.zero_mul,Nat.sub_zero] at this
          exact this
      cases hsr with
      | nil hid hnl=>
        have hrows:rows=[]:=List.length_eq_zero_iff.1 hlen
        rcases Nat.eq_zero_or_pos news.length with hm0|hm0
        · -- nil and nothing: nil
          have hnn:news=[]:=List.length_eq_zero_iff.1 hm0
          subst hnn
          obtain ⟨hi',he'⟩:=h2.alias hlk
          rw [List.append_nil] at hK
          refine ⟨.slice none 0 0,_,_,_,?_,he',hi',?_,hK⟩
          · rw [hexec]
            simp [Builtin.append_,run_underlying hu,sizeOf,typeInfo,hi,Builtin.lenOf,Builtin.firstCells,loadCells,loadCellsFrom,newV,go_sem]
          · exact CRel.nil (by simp [newV]) (by simp [newV,hnl])
        · have hr:=run_append_nil (P:=P) V.w t ty e i zv hu hi hzv xa news.length xc _ hnewsl hnewsc hm0 (by omega) (by rw [hby];have hb':=hb;simp only [Nat.zero_add] at hb';omega)
          refine fresh [] (grownCap V.w news.length 0 e) (by simp) (by simp only [Nat.zero_add];exact grownCap_ge _ _ _ _) (grownCap_le_maxLen _ _ _ _ (by omega)) (fun i r j c hi=>by rw [hrows] at hi;simp at hi) ?_ (fun r hr=>by rw [hrows] at hr;cases hr)
          rw [hr];simp
      | arr hid hnl hle=>
        rcases hob with ⟨h4,_⟩|⟨_,cur,h4,h5,h6,h7,h8,h9⟩
        · exact absurd h4 hnl
        · have hcs:cur.size=V.cap id*i.size:=by rw [h5,hsz]
          by_cases hroom:len+news.length≤V.cap id
          · -- there is room
            have hfit:len*i.size+(flatV news.length k xv).length≤cur.size:=by
              rw [hnewsl,hcs,←Nat.add_mul];exact Nat.mul_le_mul_right _ hroom
            have hr:=run_append_room (P:=P) V.w t ty e i hu hi (V.ρ id) len (V.cap id) cur h4 xa news.length xc _ hnewsl hnewsc hnews1 hroom hfit
            have hlen2:(cur.toList.take (len*k)++flatV news.length k xv).length=len*k+news.length*k:=by
              rw [hsz] at hfit;simp [flatV_length] at hfit ⊢;omega
            let w':=V.w.setRow (V.ρ id) (cur.toList.take (len*i.size)++flatV news.length k xv++cur.toList.drop (len*i.size+(flatV news.length k xv).length)).toArray
            have ee:Ext V { V with w:=w' } :=
              ⟨fun _ h=>h,fun b hb=>setRow_other _ _ _ _ fun e=>h2.st.free id _ hlk hnl b e hb,by simp [w'],fun _ _=>rfl,fun _ _=>rfl,fun _ _=>Iff.rfl,Nat.le_refl _⟩
            obtain ⟨hw1,hw2⟩:=h2.write hlk hnl (w:=w') (ob':=.cells e k (rows++news)) rfl rfl rfl rfl rfl (by simp [w']) (fun b hb=>setRow_other _ _ _ _ hb) (by
              refine .inr ⟨hnl,_,setRow_heap _ _ _ _ _ _ h4,?_,?_,h7,?_,?_⟩
              · simp only [List.size_toArray,List.length_append,List.length_take,List.length_drop,Array.length_toList]
                rw [hcs,hnewsl,hsz] at hfit
                simp only [flatV_length,hsz,h5]
                omega
              · rw [List.length_append,hlen];exact hroom
              · intro r hr
                rcases List.mem_append.1 hr with h|h
                · exact h8 r h
                · exact hkk r h
              · simp only [hsz]
                refine cells_rows (fun i' r j c hi hj=>?_) (fun i' r j c hi hj=>?_)
                · obtain ⟨v,h10,h11⟩:=h9 i' r j c hi hj
                  refine ⟨v,?_,h11.ext ee⟩
                  have hjl:j < k:=by rw [←h8 r (List.mem_of_getElem? hi)];exact (List.getElem?_eq_some_iff.1 hj).1
                  have hil:=(List.getElem?_eq_some_iff.1 hi).1
                  have hlt:i'*k+j < len*k:=by
                    have:=Nat.mul_le_mul_right k (show i'+1≤len by omega)
                    rw [Nat.add_mul] at this;omega
                  have hlc:len*k≤cur.size:=by rw [h5];exact Nat.mul_le_mul_right _ (by omega)
                  simp only [List.getElem?_toArray]
                  rw [List.getElem?_append_left (by rw [hlen2];omega),List.getElem?_append_left (by simp;omega),List.getElem?_take,if_pos hlt]
                  simpa using h10
                · have hil:=(List.getElem?_eq_some_iff.1 hi).1
                  have hjl:j < k:=by rw [←hxk r (List.mem_of_getElem? hi)];exact (List.getElem?_eq_some_iff.1 hj).1
                  have h10:=flatV_get (vs:=xv) hil hjl
                  have hlt:=(List.getElem?_eq_some_iff.1 h10).1
                  rw [flatV_length] at hlt
                  refine ⟨xv i' j,?_,(hxcell i' r j c hi hj).2.ext ee⟩
                  have hlc:len*k≤cur.size:=by rw [h5];exact Nat.mul_le_mul_right _ (by omega)
                  have htl:(cur.toList.take (len*k)).length=len*k:=by simp;omega
                  simp only [List.getElem?_toArray]
                  rw [hlen,Nat.add_mul,Nat.add_assoc,List.getElem?_append_left (by rw [hlen2];omega),List.getElem?_append_right (by rw [htl];omega),htl]
                  have:len*k+(i'*k+j) - len*k=i'*k+j:=by omega
                  rw [this];exact h10)
            have hlk2:look ((id,O.cells e k (rows++news))::σ) id=some (.cells e k (rows++news)):=by rw [look_cons,if_pos rfl]
            obtain ⟨ha1,ha2⟩:=hw1.alias hlk2
            refine ⟨.slice (some ⟨V.ρ id,0,none⟩) (len+news.length) (V.cap id),_,_,(V.nx,.cells e k (rows++news))::kill id σ,?_,hw2.trans ha2,ha1.sub ?_,?_,hK⟩
            · rw [hexec]
              have:V.cap id - 0=V.cap id:=by omega
              rw [Nat.zero_mul,this,hr];rfl
            · intro q o hq
              rw [look_cons] at hq ⊢
              by_cases hqq:V.nx=q
              · rwa [if_pos hqq] at hq ⊢
              · rw [if_neg hqq] at hq ⊢
                rw [look_kill] at hq ⊢
                by_cases hqi:q=id
                · rw [if_pos hqi] at hq;cases hq
                · rw [if_neg hqi] at hq ⊢
                  rw [look_cons,if_neg (Ne.symm hqi)];exact hq
            · have hnn:(newV { V with w:=w' } (V.ρ id) (V.cap id) (V.nl id) w').nl V.nx=V.nl id:=by simp [newV]
              have hnr:(newV { V with w:=w' } (V.ρ id) (V.cap id) (V.nl id) w').ρ V.nx=V.ρ id:=by simp [newV]
              have hnc:(newV { V with w:=w' } (V.ρ id) (V.cap id) (V.nl id) w').cap V.nx=V.cap id:=by simp [newV]
              have:=@CRel.arr (newV { V with w:=w' } (V.ρ id) (V.cap id) (V.nl id) w') V.nx k 0 (len+news.length) (by simp [newV]) (by rw [hnn];exact hnl) (by rw [hnc];omega)
              rw [hnr,hnc,Nat.zero_mul,Nat.sub_zero] at this
              exact this
          · -- it grows
            have hol:(cur.toList.take (len*k)).length=len*k:=by
              have hlc:len*k≤cur.size:=by rw [h5];exact Nat.mul_le_mul_right _ (by omega)
              simp;omega
            have hr:=run_append_grow (P:=P) V.w t ty e i zv hu hi hzv ⟨V.ρ id,0,none⟩ len (V.cap id) (cur.toList.take (len*k)) (by rw [hol,hsz]) (fun j v hj=>by
              rw [addr_add]
              rw [List.getElem?_take] at hj
              split at hj
              · simpa [World.cell?,h4] using hj
              · cases hj) xa news.length xc _ hnewsl hnewsc (by omega) (by omega) (by rw [hby];exact growslice_fits (by omega) hb)
            refine fresh (cur.toList.take (len*k)) (grownCap V.w (len+news.length) (V.cap id) e) hol (grownCap_ge _ _ _ _) (grownCap_le_maxLen _ _ _ _ hmax) (fun i' r j c hi hj=>?_) ?_ h8
            · obtain ⟨v,h10,h11⟩:=h9 i' r j c hi hj
              refine ⟨v,?_,h11⟩
              have hjl:j < k:=by rw [←h8 r (List.mem_of_getElem? hi)];exact (List.getElem?_eq_some_iff.1 hj).1
              have hil:=(List.getElem?_eq_some_iff.1 hi).1
              have hlt:i'*k+j < len*k:=by
                have:=Nat.mul_le_mul_right k (show i'+1≤len by omega)
                rw [Nat.add_mul] at this;omega
              rw [List.getElem?_take,if_pos hlt];simpa using h10
            · have:V.cap id - 0=V.cap id:=by omega
              rw [Nat.zero_mul,this]
              exact hr
end
end Go.Am
namespace Go.Am
open Go
def FillOk (V:View) (place:Nat→Option (Nat×Nat)):List (Nat×Value)→List (Nat×List C)→Prop
  | [],[]=>True
  | (i,v)::ps,(off,cs)::qs=>place i=some (off,cs.length)∧LRel V cs v.cells∧FillOk V place ps qs
  | _,_=>False
def fillC:List (Nat×List C)→List C→List C
  | [],z=>z
  | (off,cs)::r,z=>fillC r (spliceC z off cs)
theorem foldl_set_get:∀(l:List (Value×Nat)) (n off:Nat) (cells:Array Value),(∀(q:Nat) (x:Value×Nat),l[q]? = some x→x.2=n+q)→off+n+l.length≤cells.size→
    (l.foldl (fun cs x=>cs.setIfInBounds (off+x.2) x.1) cells).size=cells.size∧
    ∀q,(l.foldl (fun cs x=>cs.setIfInBounds (off+x.2) x.1) cells)[q]? = if off+n≤q∧q < off+n+l.length then (l[q - (off+n)]?).map (·.1) else cells[q]?
  | [],n,off,cells,_,_=>by
    refine ⟨rfl,fun q=>?_⟩
    rw [if_neg (by simp)];rfl
  | x::l,n,off,cells,hx,hs=>by
    have h0:x.2=n:=by simpa using hx 0 x rfl
    have ih:=foldl_set_get l (n+1) off (cells.setIfInBounds (off+x.2) x.1) (fun q y hy=>by have:=hx (q+1) y (by simpa using hy);omega) (by simp at hs ⊢;omega)
    simp only [List.foldl_cons]
    refine ⟨by rw [ih.1];simp,fun q=>?_⟩
    rw [ih.2 q,h0]
    simp only [List.length_cons] at hs ⊢
    by_cases h1:off+n≤q∧q < off+n+(l.length+1)
    · rw [if_pos h1]
      by_cases h2:q=off+n
      · subst h2
        rw [if_neg (by omega)]
        have hlt:off+n < cells.size:=by omega
        simp [hlt]
      · rw [if_pos (by omega)]
        have:q - (off+n)=(q - (off+(n+1)))+1:=by omega
        rw [this];simp
    · rw [if_neg h1,if_neg (by omega)]
      rw [Array.getElem?_setIfInBounds_ne (by omega)]
theorem splice_get {V:View} {z cs:List C} {cells vc cells':Array Value} {off:Nat} (hz:LRel V z cells) (hv:LRel V cs vc) (hle:off+cs.length≤z.length) (hs:cells'.size=cells.size)
    (hg:∀q,cells'[q]? = if off≤q∧q < off+cs.length then vc[q - off]? else cells[q]?):LRel V (spliceC z off cs) cells':=by
  refine ⟨by rw [hs,hz.1];simp [spliceC];omega,fun j c v hj hvj=>?_⟩
  rw [hg] at hvj
  unfold spliceC at hj
  have hl1:(z.take off++cs).length=off+cs.length:=by simp;omega
  have hl0:(z.take off).length=off:=by simp;omega
  by_cases h1:j < off+cs.length
  · rw [List.getElem?_append_left (by rw [hl1];exact h1)] at hj
    by_cases h2:j < off
    · rw [List.getElem?_append_left (by rw [hl0];exact h2),List.getElem?_take,if_pos h2] at hj
      rw [if_neg (by omega)] at hvj
      exact hz.2 j c v hj hvj
    · rw [List.getElem?_append_right (by rw [hl0];omega),hl0] at hj
      rw [if_pos (by omega)] at hvj
      exact hv.2 _ c v hj hvj
  · rw [List.getElem?_append_right (by rw [hl1];omega),hl1,List.getElem?_drop] at hj
    rw [if_neg (by omega)] at hvj
    have:off+cs.length+(j - (off+cs.length))=j:=by omega
    rw [this] at hj
    exact hz.2 j c v hj hvj
theorem fillC_ok (n:Nat):∀(qs:List (Nat×List C)),(qs.all fun x=>Nat.ble (x.1+x.2.length) n)=true→∀x∈qs,x.1+x.2.length≤n:=by
  intro qs h x hx
  exact Nat.le_of_ble_eq_true (List.all_eq_true.1 h x hx)
theorem fill_rel {V:View} {place:Nat→Option (Nat×Nat)}:∀(ps:List (Nat×Value)) (qs:List (Nat×List C)) (z:List C) (cells:Array Value),FillOk V place ps qs→LRel V z cells→(∀x∈qs,x.1+x.2.length≤z.length)→
    ∃cells',Instr.fill place cells ps=some cells'∧LRel V (fillC qs z) cells'
  | [],[],z,cells,_,hz,_=>⟨cells,rfl,hz⟩
  | [],_::_,_,_,h,_,_=>h.elim
  | _::_,[],_,_,h,_,_=>h.elim
  | (i,v)::ps,(off,cs)::qs,z,cells,h,hz,hq=>by
    obtain ⟨h1,h2,h3⟩:=h
    have hle:off+cs.length≤z.length:=hq (off,cs) (by simp)
    have hvs:=h2.1
    have hf:=foldl_set_get v.cells.zipIdx.toList 0 off cells (fun q x hx=>by
      have:=Array.getElem?_toList (xs:=v.cells.zipIdx) (i:=q)
      rw [this,Array.getElem?_zipIdx] at hx
      simp only [Option.map_eq_some_iff] at hx
      obtain ⟨a,_,rfl⟩:=hx
      simp) (by simp [hvs];rw [hz.1];exact hle)
    rw [Array.foldl_toList] at hf
    have hz':LRel V (spliceC z off cs) (v.cells.zipIdx.foldl (fun cs (x:Value×Nat)=>cs.setIfInBounds (off+x.2) x.1) cells):=by
      refine splice_get hz h2 hle hf.1 fun q=>?_
      rw [hf.2 q]
      have hl:v.cells.zipIdx.toList.length=cs.length:=by simp [hvs]
      rw [hl,Nat.add_zero]
      by_cases hc:off≤q∧q < off+cs.length
      · rw [if_pos hc,if_pos hc,Array.getElem?_toList,Array.getElem?_zipIdx]
        cases v.cells[q - off]?<;>rfl
      · rw [if_neg hc,if_neg hc]
    obtain ⟨cells',h4,h5⟩:=fill_rel ps qs _ _ h3 hz' (fun x hx=>by
      have:=hq x (by simp [hx])
      have hlen:(spliceC z off cs).length=z.length:=by simp [spliceC];omega
      rw [hlen];exact this)
    refine ⟨cells',?_,h5⟩
    unfold Instr.fill
    rw [h1]
    have hno:¬(v.cells.size≠cs.length || decide (off+v.cells.size > cells.size))=true:=by
      simp [hvs];rw [hz.1];exact hle
    simp only
    rw [if_neg (by simpa using hno)]
    exact h4
def evs (f:Env):List Operand→Option (List E)
  | []=>some []
  | x::l=>(ev f x).bind fun e=>(evs f l).map (e :: ·)
def numFrom {α:Type}:Nat→List α→List (Nat×α)
  | _,[]=>[]
  | k,x::l=>(k,x)::numFrom (k+1) l
def offFrom (k:Nat):Nat→List E→List (Nat×List C)
  | _,[]=>[]
  | i,e::l=>(i*k,eC e)::offFrom k (i+1) l
theorem evs_mem {f:Env}:∀ {l:List Operand} {es:List E},evs f l=some es→∀(j:Nat) (x:Operand) (e:E),l[j]? = some x→es[j]? = some e→ev f x=some e
  | [],es,h,j,x,e,hx,_=>by simp at hx
  | y::l,es,h,j,x,e,hx,he=>by
    simp only [evs,Option.bind_eq_some_iff,Option.map_eq_some_iff] at h
    obtain ⟨e',h1,es',h2,rfl⟩:=h
    cases j with
    | zero=>simp at hx he;subst hx he;exact h1
    | succ j=>exact evs_mem h2 j x e (by simpa using hx) (by simpa using he)
theorem evs_length {f:Env}:∀ {l:List Operand} {es:List E},evs f l=some es→es.length=l.length
  | [],es,h=>by injection h with h;subst h;rfl
  | y::l,es,h=>by
    simp only [evs,Option.bind_eq_some_iff,Option.map_eq_some_iff] at h
    obtain ⟨e',h1,es',h2,rfl⟩:=h
    simp [evs_length h2]
theorem fillC_rows (k:Nat):∀(es:List E) (i:Nat) (pre post:List C),pre.length=i*k→post.length=es.length*k→(∀e∈es,(eC e).length=k)→
    fillC (offFrom k i es) (pre++post)=pre++(es.map eC).flatten
  | [],i,pre,post,_,hp,_=>by
    have:post=[]:=List.length_eq_zero_iff.1 (by simpa using hp)
    subst this;simp [offFrom,fillC]
  | e::es,i,pre,post,h1,h2,hk=>by
    have he:=hk e (by simp)
    simp only [List.length_cons,Nat.add_mul,Nat.one_mul] at h2
    have:spliceC (pre++post) (i*k) (eC e)=(pre++eC e)++post.drop k:=by
      unfold spliceC
      rw [←h1,List.take_left,←List.drop_drop,List.drop_left,he]
    simp only [offFrom,fillC,this]
    rw [fillC_rows k es (i+1) (pre++eC e) (post.drop k) (by simp [h1,he,Nat.add_mul]) (by simp;omega) (fun x hx=>hk x (by simp [hx]))]
    simp
section
variable {P:Program} {TB:List (Nat×Obj)} {Γ:Ctx} {d:Option Tmp} {ty:TypeId} {pos:String} {af:Array Edge} {g:Option (Nat×Bool)} {f:Env} {σ:Store} {nx:Nat}
variable {K:E→Store→Nat→Prop}
theorem flatten_get {V:View} {k:Nat}:∀ {rows:List (List C)} {cur:Array Value},LRel V rows.flatten cur→(∀r∈rows,r.length=k)→∀(i:Nat) (r:List C) (j:Nat) (c:C),rows[i]? = some r→r[j]? = some c→∃v,cur[i*k+j]? = some v∧CRel V c v:=by
  intro rows cur h hk i r j c hi hj
  have key:∀(rows:List (List C)) (i:Nat),(∀r∈rows,r.length=k)→rows[i]? = some r→rows.flatten[i*k+j]? = some c:=by
    intro rows
    induction rows with
    | nil=>intro i _ hi;simp at hi
    | cons r0 rows ih=>
      intro i hk hi
      cases i with
      | zero=>
        simp at hi;subst hi
        have hlt:=(List.getElem?_eq_some_iff.1 hj).1
        rw [List.flatten_cons,Nat.zero_mul,Nat.zero_add,List.getElem?_append_left hlt];exact hj
      | succ i=>
        have hr0:=hk r0 (by simp)
        rw [List.flatten_cons,List.getElem?_append_right (by rw [hr0,Nat.add_mul];omega),hr0]
        have:(i+1)*k+j - k=i*k+j:=by rw [Nat.add_mul];omega
        rw [this]
        exact ih i (fun r hr=>hk r (by simp [hr])) (by simpa using hi)
  have h1:=key rows i hk hi
  have hlt:i*k+j < cur.size:=by rw [h.1];exact (List.getElem?_eq_some_iff.1 h1).1
  exact ⟨cur[i*k+j],Array.getElem?_eq_getElem hlt,h.2 _ c _ h1 (Array.getElem?_eq_getElem hlt)⟩
theorem zeros_rel {V:View} {zv:Value} {z:List Value} {n:Nat} (hzz:zv.cells.toList=z) (hok:z.all zOk=true):LRel V ((List.replicate n (z.map zC)).flatten) ((Array.range (n*z.length)).map (zv.cells[· % zv.cells.size]!)):=by
  have hzs:zv.cells.size=z.length:=by rw [←hzz];simp
  refine ⟨by simp [List.length_flatten],fun q c v hq hv=>?_⟩
  have hlt:q < n*z.length:=by
    have:=(List.getElem?_eq_some_iff.1 hq).1
    simpa [List.length_flatten] using this
  have hk:0 < z.length:=by rcases Nat.eq_zero_or_pos z.length with h0|h0;(rw [h0] at hlt;simp at hlt);exact h0
  have hmod:q % z.length < z.length:=Nat.mod_lt _ hk
  have h1:((List.replicate n (z.map zC)).flatten)[q]? = some (zC z[q % z.length]):=by
    have hd:q / z.length < n:=Nat.div_lt_of_lt_mul (by rw [Nat.mul_comm];exact hlt)
    have key:∀(n i j:Nat),i < n→j < z.length→((List.replicate n (z.map zC)).flatten)[i*z.length+j]? = some (zC (z[j]?.getD undef)):=by
      intro n
      induction n with
      | zero=>intro i j h;omega
      | succ n ih=>
        intro i j hi hj
        rw [List.replicate_succ,List.flatten_cons]
        cases i with
        | zero=>rw [Nat.zero_mul,Nat.zero_add,List.getElem?_append_left (by simpa using hj)];simp [hj]
        | succ i=>
          rw [List.getElem?_append_right (by simp [Nat.add_mul];omega)]
          have:(i+1)*z.length+j - (z.map zC).length=i*z.length+j:=by simp [Nat.add_mul];omega
          rw [this];exact ih i j (by omega) hj
    have:=key n (q / z.length) (q % z.length) hd hmod
    have e:q / z.length*z.length+q % z.length=q:=by rw [Nat.mul_comm];exact Nat.div_add_mod q _
    rw [e] at this
    rw [this];simp [hmod]
  rw [h1] at hq
  injection hq with hq
  subst hq
  have h2:v=z[q % z.length]:=by
    simp only [Array.getElem?_map,Option.map_eq_some_iff] at hv
    obtain ⟨q',hq',rfl⟩:=hv
    have hq2:q'=q:=by
      have:=Array.getElem?_eq_some_iff.1 hq'
      obtain ⟨h5,h6⟩:=this
      simpa using h6.symm
    subst hq2
    have hlt2:q' % zv.cells.size < zv.cells.size:=by rw [hzs];exact hmod
    rw [getElem!_pos zv.cells _ hlt2]
    subst hzz
    simp
  rw [h2]
  exact zC_rel (List.all_eq_true.1 hok _ (List.getElem_mem hmod))
theorem ze_inv {t:TypeId} {z:List Value} (h:zeF P t=some z):∃i zv,P.info? t=some i∧i.zero=some zv∧zv.cells.toList=z:=by
  simp only [zeF,Option.bind_eq_some_iff,Option.map_eq_some_iff] at h
  obtain ⟨i,hi,zv,hzv,hzz⟩:=h
  exact ⟨i,zv,hi,hzv,hzz⟩
theorem rows_inv {V:View} (h:Inv TB Γ V σ) {e:TypeId} {k c:Nat} {rows:List (List C)} {cur:Array Value} {w:World} (hw:w=V.w.alloc (.cells cur e)) (hsz:cur.size=c*k) (hcap:rows.length≤c) (hcm:c≤maxLen) (hk:∀r∈rows,r.length=k)
    (hc:∀(i:Nat) (r:List C) (j:Nat) (c:C),rows[i]? = some r→r[j]? = some c→∃v,cur[i*k+j]? = some v∧CRel V c v) :
    Inv TB Γ (newV V V.w.heap.size c False w) ((V.nx,.cells e k rows)::σ)∧Ext V (newV V V.w.heap.size c False w)∧CRel (newV V V.w.heap.size c False w) (.arr V.nx k 0 rows.length) (.slice (some ⟨V.w.heap.size,0,none⟩) rows.length c):=by
  subst hw
  have ee:Ext V (newV V V.w.heap.size c False (V.w.alloc (.cells cur e))):=newV_ext (by simp) fun b hb=>heap_push_old _ _ _ (h.iLt b hb)
  have hr:(newV V V.w.heap.size c False (V.w.alloc (.cells cur e))).ρ V.nx=V.w.heap.size:=by simp [newV]
  have hcc:(newV V V.w.heap.size c False (V.w.alloc (.cells cur e))).cap V.nx=c:=by simp [newV]
  have h1:=h.alloc (c:=c) (nl:=False) (w:=V.w.alloc (.cells cur e)) (ob:=.cells e k rows) rfl rfl rfl rfl (by simp) (fun b hb=>heap_push_old _ _ _ hb) (.inr ⟨by simp [newV],cur,by rw [hr];exact heap_push_new _ _,by rw [hcc];exact hsz,by rw [hcc];exact hcap,by rw [hcc];exact hcm,hk,
    fun i r j c hi hj=>let ⟨v,h8,h9⟩:=hc i r j c hi hj;⟨v,h8,h9.ext ee⟩⟩)
  refine ⟨h1.1,h1.2,?_⟩
  have:=@CRel.arr (newV V V.w.heap.size c False (V.w.alloc (.cells cur e))) V.nx k 0 rows.length (by simp [newV]) (by simp [newV]) (by rw [hcc];omega)
  rw [hr,hcc,Nat.zero_mul,Nat.sub_zero] at this
  exact this
theorem n_make {t e:TypeId} {k b:Nat} {z:List Value} {x y:Operand} {ik ik':IntKind} {n c:Int} [hl:HasSl P t e k b] [hz:HasZe P e z] (hx:ev f x=some (eI ik n)) (hy:ev f y=some (eI ik' c)) (hzk:z.length=k) (hok:z.all zOk=true) (hb0:0 < b)
    (h0:0≤n) (hnc:n≤c) (hc:c*b≤140737488355328) (hK:K (.o (.arr nx k 0 n.toNat)) ((nx,.cells e k (List.replicate n.toNat (z.map zC)))::σ) (nx+1)):AOp P TB Γ ⟨d,.makeSlice t x y,ty,pos,af,g⟩ f σ nx K:=
  n_of_run fun V ρ h1 h2 h3=>by
    subst h3
    obtain ⟨i,hu,hi,hsz,hby⟩:=sl_inv hl.out
    obtain ⟨i',zv,hi',hzv,hzz⟩:=ze_inv hz.out
    rw [hi] at hi';injection hi' with hi';subst hi'
    have hxv:ρ x=.int ik n:=CRel.val (h1.get (by simp [Op.operands]) hx)
    have hyv:ρ y=.int ik' c:=CRel.val (h1.get (by simp [Op.operands]) hy)
    have hc0:0≤c:=by omega
    have hcb:c≤c*b:=by
      have:=Int.mul_le_mul_of_nonneg_left (show (1:Int)≤(b:Int) by omega) hc0
      omega
    have wn:IntKind.i64.wrap n=n:=IntWalk.i64_in n (by omega)
    have wc:IntKind.i64.wrap c=c:=IntWalk.i64_in c (by omega)
    have hzs:zv.cells.size=k:=by rw [←hzk,←hzz];simp
    let cur:Array Value:=(Array.range (c.toNat*z.length)).map (zv.cells[· % zv.cells.size]!)
    have hzr:=zeros_rel (V:=V) (n:=c.toNat) hzz hok
    have hrow:∀r∈List.replicate c.toNat (z.map zC),r.length=k:=fun r hr=>by rw [List.eq_of_mem_replicate hr];simp [hzk]
    obtain ⟨hi2,he2,hcr⟩:=rows_inv h2 (e:=e) (k:=k) (c:=c.toNat) (rows:=List.replicate n.toNat (z.map zC)) (cur:=cur) rfl (by simp [cur,hzk]) (by simp;omega) (by unfold maxLen;omega) (fun r hr=>by rw [List.eq_of_mem_replicate hr];simp [hzk])
      (fun i r j cc hi hj=>flatten_get hzr hrow i r j cc (by
        rw [List.getElem?_replicate] at hi ⊢
        split at hi
        · rw [if_pos (by omega)];exact hi
        · cases hi) hj)
    rw [List.length_replicate] at hcr
    refine ⟨.slice (some ⟨V.w.heap.size,0,none⟩) n.toNat c.toNat,_,_,_,?_,he2,hi2,(show ERel _ (.o _) _ from hcr),hK⟩
    have hcb2:(b:Int)*c≤140737488355328:=by rw [Int.mul_comm];exact hc
    have ht:¬(281474976710656:Int) < (b:Int)*c:=by omega
    show ((do let v ←Instr.makeSlice t (ρ x) (ρ y);pure (Next.value v):Sem Next)).run P V.w=_
    rw [hxv,hyv]
    have hmk:(Instr.makeSlice t (.int ik n) (.int ik' c)).run P V.w=.ok (.slice (some ⟨V.w.heap.size,0,none⟩) n.toNat c.toNat) (V.w.alloc (.cells cur e)):=by
      have g1:¬c < 0:=by omega
      have g2:¬n < 0:=by omega
      have g3:¬c < n:=by omega
      simp only [Instr.makeSlice,Sem.run_bind,run_underlying hu,Result.andThen_ok,asInt,asIntOf,pure_bind,bind_pure_comp,map_pure,typeInfo,sizeOf,wn,wc]
      by_cases hcz:c.toNat*k=0
      · have hce:cur = #[]:=by
          have:cur.size=0:=by simp [cur,hzk,hcz]
          exact Array.eq_empty_of_size_eq_zero this
        simp [go_sem,hi,hby,hsz,g1,g2,g3,ht,askRoom,hcz,newRow,newObj,hce]
        rfl
      · simp [go_sem,hi,hby,hsz,g1,g2,g3,ht,askRoom,hcz,newRow,newObj,zeroValue,typeInfo,hzv,cur,hzk]
        rfl
    simp only [Sem.run_bind,hmk,Result.andThen_ok]
    rfl
theorem numFrom_map {α β:Type} (h:α→β):∀(l:List α) (k:Nat),(numFrom k l).map (fun x=>(x.1,h x.2))=numFrom k (l.map h)
  | [],_=>rfl
  | x::l,k=>by simp [numFrom,numFrom_map h l (k+1)]
theorem fillOk_rows {V:View} {size:Nat} {ρ:Operand→Value}:∀(l:List Operand) (es:List E) (i:Nat),(∀x∈l,∀e,ev f x=some e→ERel V e (ρ x))→evs f l=some es→(∀e∈es,eOk e=true)→(∀e∈es,(eC e).length=size)→
    FillOk V (fun i=>some (i*size,size)) (numFrom i (l.map ρ)) (offFrom size i es)
  | [],es,i,_,h,_,_=>by injection h with h;subst h;trivial
  | x::l,es,i,hρ,h,ho,hk=>by
    simp only [evs,Option.bind_eq_some_iff,Option.map_eq_some_iff] at h
    obtain ⟨e',h1,es',h2,rfl⟩:=h
    refine ⟨?_,eC_rel (ho e' (by simp)) (hρ x (by simp) e' h1),fillOk_rows l es' (i+1) (fun x hx=>hρ x (by simp [hx])) h2 (fun e he=>ho e (by simp [he])) (fun e he=>hk e (by simp [he]))⟩
    rw [hk e' (by simp)]
theorem offFrom_le (k:Nat):∀(es:List E) (i n:Nat),(∀e∈es,(eC e).length=k)→i+es.length≤n→∀x∈offFrom k i es,x.1+x.2.length≤n*k
  | [],_,_,_,_,x,h=>by simp [offFrom] at h
  | e::es,i,n,hk,hn,x,h=>by
    simp only [offFrom,List.mem_cons] at h
    simp only [List.length_cons] at hn
    rcases h with rfl|h
    · simp only [hk e (by simp)]
      have:=Nat.mul_le_mul_right k (show i+1≤n by omega)
      rw [Nat.add_mul] at this;omega
    · exact offFrom_le k es (i+1) n (fun e he=>hk e (by simp [he])) (by omega) x h
theorem run_buildSlice {t e:TypeId} {k b:Nat} {z:List Value} (hl:slF P t=some (e,k,b)) (hz:zeF P e=some z) (hzk:z.length=k) (hok:z.all zOk=true) {xs:List Operand} {es:List E} {V:View} {ρ:Operand→Value} (hρ:∀x∈xs,∀e,ev f x=some e→ERel V e (ρ x))
    (hes:evs f xs=some es) (ho:es.all eOk=true) (hk:∀x∈es,(eC x).length=k) (hn:xs.length*k≤16777216) :
    ∃cur,(Instr.buildSlice t xs.length ((numFrom 0 xs).toArray.map fun (i,x)=>(i,ρ x))).run P V.w=.ok (.slice (some ⟨V.w.heap.size,0,none⟩) xs.length xs.length) (V.w.alloc (.cells cur e))∧cur.size=xs.length*k∧LRel V (es.map eC).flatten cur:=by
  obtain ⟨i,hu,hi,hsz,_⟩:=sl_inv hl
  obtain ⟨i',zv,hi',hzv,hzz⟩:=ze_inv hz
  rw [hi] at hi';injection hi' with hi';subst hi'
  have hzs:zv.cells.size=k:=by rw [←hzk,←hzz];simp
  have hel:=evs_length hes
  have hfo:=fillOk_rows (size:=k) xs es 0 hρ hes (fun x hx=>List.all_eq_true.1 ho x hx) hk
  have hzr:=zeros_rel (V:=V) (n:=xs.length) hzz hok
  have hzl:((List.replicate xs.length (z.map zC)).flatten).length=xs.length*k:=by simp [List.length_flatten,hzk]
  obtain ⟨cur,h1,h2⟩:=fill_rel _ _ _ _ hfo hzr (fun x hx=>by rw [hzl];exact offFrom_le k es 0 xs.length hk (by omega) x hx)
  have h3:=fillC_rows k es 0 [] ((List.replicate xs.length (z.map zC)).flatten) (by simp) (by rw [hzl,hel]) hk
  simp only [List.nil_append] at h3
  rw [h3] at h2
  refine ⟨cur,?_,?_,h2⟩
  · have hparts:((numFrom 0 xs).toArray.map fun (i,x)=>(i,ρ x)).toList=numFrom 0 (xs.map ρ):=by
      rw [←numFrom_map];simp
    have hbig:¬2 ^ 24 < xs.length*k:=by
      have:(2:Nat) ^ 24=16777216:=by decide
      omega
    simp only [Instr.buildSlice,Sem.run_bind,run_underlying hu,Result.andThen_ok,sizeOf,typeInfo,bind_pure_comp]
    have hb2:¬16777216 < xs.length*k:=by omega
    have hp2:=hparts
    simp only [List.map_toArray] at hp2
    by_cases h0:xs.length*k=0
    · have hz1:∀g:Nat→Value,Array.map g (Array.range (xs.length*k)) = #[]:=fun g=>Array.eq_empty_of_size_eq_zero (by simp [h0])
      rw [hzk,hz1] at h1
      simp [go_sem,hi,hsz,newRow,newObj,hb2,hz1,hp2]
      rw [if_pos h0,h1]
      rfl
    · rw [hzk] at h1
      unfold Value.cells at h1
      simp [go_sem,hi,hsz,h0,hb2,newRow,newObj,zeroValue,typeInfo,hzv,hp2]
      rw [h1]
      rfl
  · rw [h2.1]
    have:∀l:List E,(∀x∈l,(eC x).length=k)→(l.map eC).flatten.length=l.length*k:=by
      intro l
      induction l with
      | nil=>simp
      | cons a l ih=>intro h;simp [ih (fun x hx=>h x (by simp [hx])),h a (by simp),Nat.add_mul,Nat.add_comm]
    rw [this es hk,hel]
end
end Go.Am
namespace Go.Am
open Go
abbrev eT (l:List UInt8):E:=.o (.d (.v (.string ⟨l.toArray⟩)))
def toRows:List E→Option (List (List D))
  | []=>some []
  | e::l=>(toDs (eC e)).bind fun r=>(toRows l).map (r :: ·)
theorem toRows_get:∀ {l:List E} {rows:List (List D)},toRows l=some rows→rows.length=l.length∧∀(i:Nat) (r:List D),rows[i]? = some r→∃e,l[i]? = some e∧toDs (eC e)=some r
  | [],rows,h=>by injection h with h;subst h;exact ⟨rfl,fun i r hi=>by simp at hi⟩
  | e::l,rows,h=>by
    simp only [toRows,Option.bind_eq_some_iff,Option.map_eq_some_iff] at h
    obtain ⟨r0,h1,rows',h2,rfl⟩:=h
    have ih:=toRows_get h2
    refine ⟨by simp [ih.1],fun i r hi=>?_⟩
    cases i with
    | zero=>simp at hi;subst hi;exact ⟨e,rfl,h1⟩
    | succ i=>obtain ⟨e',h3,h4⟩:=ih.2 i r (by simpa using hi);exact ⟨e',by simpa using h3,h4⟩
def flF (P:Program) (t:TypeId):Option (List (Nat×Nat)):=match P.underlying t with
  | some (.struct fs)=>fs.toList.mapM fun f=>(P.info? f.type).map fun i=>(f.offset,i.size)
  | some (.array n e)=>(P.info? e).map fun i=>(List.range n).map fun j=>(j*i.size,i.size)
  | _=>none
class HasFl (P:Program) (t:TypeId) (fl:outParam (List (Nat×Nat))):Prop where
  out:flF P t=some fl
def offParts (fl:List (Nat×Nat)):List (Nat×Operand)→List E→Option (List (Nat×List C))
  | [],[]=>some []
  | (i,_)::ps,e::es=>match fl[i]? with
    | some (off,size)=>bif Nat.beq (eC e).length size && eOk e then (offParts fl ps es).map ((off,eC e) :: ·) else none
    | none=>none
  | _,_=>none
section
variable {P:Program} {TB:List (Nat×Obj)} {Γ:Ctx} {d:Option Tmp} {ty:TypeId} {pos:String} {af:Array Edge} {g:Option (Nat×Bool)} {f:Env} {σ:Store} {nx:Nat}
variable {K:E→Store→Nat→Prop}
theorem run_sliceLit {t e:TypeId} {k b n:Nat} {z:List Value} {parts:Array (Nat×Operand)} (hl:slF P t=some (e,k,b)) (hz:zeF P e=some z) (hzk:z.length=k) (hok:z.all zOk=true) {es:List E} {V:View} {ρ:Operand→Value} (h:EvRel V ⟨d,.buildSlice t n parts,ty,pos,af,g⟩ f ρ)
    (hp:numFrom 0 (parts.toList.map (·.2))=parts.toList) (hn:parts.toList.length=n) (hes:evs f (parts.toList.map (·.2))=some es) (ho:es.all eOk=true) (hk:∀x∈es,(eC x).length=k) (hsm:n*k≤16777216) :
    ∃cur,(execOp ρ ⟨d,.buildSlice t n parts,ty,pos,af,g⟩).run P V.w=.ok (.value (.slice (some ⟨V.w.heap.size,0,none⟩) n n)) (V.w.alloc (.cells cur e))∧cur.size=n*k∧LRel V (es.map eC).flatten cur:=by
  have hxs:(parts.toList.map (·.2)).length=n:=by simpa using hn
  obtain ⟨cur,h1,h2,h3⟩:=run_buildSlice (P:=P) (f:=f) (V:=V) (xs:=parts.toList.map (·.2)) (ρ:=ρ) hl hz hzk hok (fun x hx e he=>h.get (by simp only [Op.operands];simpa using hx) he) hes ho hk (by rw [hxs];exact hsm)
  rw [hxs] at h1 h2
  refine ⟨cur,?_,h2,h3⟩
  rw [hp] at h1
  show ((do let v ←Instr.buildSlice t n (parts.map fun (i,x)=>(i,ρ x));pure (Next.value v):Sem Next)).run P V.w=_
  rw [Array.toArray_toList] at h1
  simp only [Sem.run_bind,h1,Result.andThen_ok]
  rfl
theorem q_sliceI {t e:TypeId} {k b n:Nat} {z:List Value} {parts:Array (Nat×Operand)} {es:List E} {rows:List (List D)} [hl:HasSl P t e k b] [hz:HasZe P e z] (hp:numFrom 0 (parts.toList.map (·.2))=parts.toList) (hn:parts.toList.length=n)
    (hes:evs f (parts.toList.map (·.2))=some es) (ho:es.all eOk=true) (hr:toRows es=some rows) (hk:(rows.all fun r=>Nat.beq r.length k)=true) (hzk:z.length=k) (hok:z.all zOk=true) (hk0:Nat.ble 1 k=true) (hsm:Nat.ble (n*k) 16777216=true) :
    QOp P TB Γ ⟨d,.buildSlice t n parts,ty,pos,af,g⟩ f σ nx (.o (.d (.l rows))):=
  q_of_runI fun V ρ h1 h2=>by
    have htr:=toRows_get hr
    have hkk:∀x∈es,(eC x).length=k:=fun x hx=>by
      obtain ⟨i,hi,rfl⟩:=List.getElem_of_mem hx
      have hir:i < rows.length:=by omega
      obtain ⟨e',h3,h4⟩:=htr.2 i rows[i] (List.getElem?_eq_getElem hir)
      rw [List.getElem?_eq_getElem hi] at h3
      injection h3 with h3
      rw [h3,←toDs_length h4]
      exact Nat.eq_of_beq_eq_true (List.all_eq_true.1 hk _ (List.getElem_mem hir))
    obtain ⟨cur,h3,h4,h5⟩:=run_sliceLit hl.out hz.out hzk hok h1 hp hn hes ho hkk (Nat.le_of_ble_eq_true hsm)
    obtain ⟨hi,he⟩:=h2.allocI (w:=V.w.alloc (.cells cur e)) rfl rfl rfl (by simp) (fun b hb=>heap_push_old _ _ _ hb)
    have hlen:rows.length=n:=by
      rw [htr.1,evs_length hes];simpa using hn
    have hcell:∀(i:Nat) (r:List D) (j:Nat) (x:D),rows[i]? = some r→r[j]? = some x→∃v,cur[i*k+j]? = some v∧DRel V.I V.w x v:=fun i r j x hi hj=>by
      obtain ⟨e',h6,h7⟩:=htr.2 i r hi
      have h8:=toDs_get h7 j x hj
      obtain ⟨v,h9,h10⟩:=flatten_get h5 (fun r hr=>by
        obtain ⟨e2,he2,rfl⟩:=List.mem_map.1 hr
        exact hkk e2 he2) i (eC e') j (.d x) (by simp [h6]) h8
      cases h10 with
      | d h10=>exact ⟨v,h9,h10⟩
    have hnm:n≤maxLen:=by
      have h9:=Nat.le_of_ble_eq_true hsm
      have:n≤n*k:=Nat.le_mul_of_pos_right _ (Nat.le_of_ble_eq_true hk0)
      unfold maxLen;omega
    refine ⟨_,_,h3,he,hi,rfl,?_⟩
    have hb:(newI V (V.w.alloc (.cells cur e))).I V.w.heap.size:=.inr rfl
    have hh:(newI V (V.w.alloc (.cells cur e))).w.heap[V.w.heap.size]? = some (.cells cur e):=heap_push_new _ _
    have:=@DRel.l (newI V (V.w.alloc (.cells cur e))).I (newI V (V.w.alloc (.cells cur e))).w rows V.w.heap.size 0 k n (fun i j=>cur.getD (i*k+j) undef) hb (by omega) hnm
      (fun i r hi=>Nat.eq_of_beq_eq_true (List.all_eq_true.1 hk _ (List.mem_of_getElem? hi)))
      (fun i r j x hi hj=>by
        obtain ⟨v,h6,_⟩:=hcell i r j x hi hj
        simp [World.cell?,hh,h6])
      (fun i r j x hi hj=>by
        obtain ⟨v,h6,h7⟩:=hcell i r j x hi hj
        have:cur.getD (i*k+j) undef=v:=by simp [h6]
        rw [this];exact h7.ext he)
    rw [hlen] at this
    exact .d this
theorem n_sliceB {t e:TypeId} {k b n:Nat} {z:List Value} {parts:Array (Nat×Operand)} {es:List E} [hl:HasSl P t e k b] [hz:HasZe P e z] (hp:numFrom 0 (parts.toList.map (·.2))=parts.toList) (hn:parts.toList.length=n)
    (hes:evs f (parts.toList.map (·.2))=some es) (ho:es.all eOk=true) (hkk:∀x∈es,(eC x).length=k) (hzk:z.length=k) (hok:z.all zOk=true) (hk0:Nat.ble 1 k=true) (hsm:Nat.ble (n*k) 16777216=true)
    (hK:K (.o (.arr nx k 0 n)) ((nx,.cells e k (es.map eC))::σ) (nx+1)):AOp P TB Γ ⟨d,.buildSlice t n parts,ty,pos,af,g⟩ f σ nx K:=
  n_of_run fun V ρ h1 h2 h3=>by
    subst h3
    obtain ⟨cur,h3,h4,h5⟩:=run_sliceLit hl.out hz.out hzk hok h1 hp hn hes ho hkk (Nat.le_of_ble_eq_true hsm)
    have hlen:(es.map eC).length=n:=by
      rw [List.length_map,evs_length hes];simpa using hn
    have hnm:n≤maxLen:=by
      have h9:=Nat.le_of_ble_eq_true hsm
      have:n≤n*k:=Nat.le_mul_of_pos_right _ (Nat.le_of_ble_eq_true hk0)
      unfold maxLen;omega
    have hrk:∀r∈es.map eC,r.length=k:=fun r hr=>by
      obtain ⟨e2,he2,rfl⟩:=List.mem_map.1 hr
      exact hkk e2 he2
    obtain ⟨hi,he,hc⟩:=rows_inv h2 (e:=e) (k:=k) (c:=n) (rows:=es.map eC) (cur:=cur) rfl h4 (by omega) hnm hrk (flatten_get h5 hrk)
    rw [hlen] at hc
    exact ⟨_,_,_,_,h3,he,hi,(show ERel _ (.o _) _ from hc),hK⟩
theorem offParts_fill {V:View} {ρ:Operand→Value} {fl:List (Nat×Nat)}:∀(ps:List (Nat×Operand)) (es:List E) (qs:List (Nat×List C)),(∀x∈ps.map (·.2),∀e,ev f x=some e→ERel V e (ρ x))→evs f (ps.map (·.2))=some es→offParts fl ps es=some qs→
    FillOk V (fl[·]?) (ps.map fun (i,x)=>(i,ρ x)) qs
  | [],es,qs,_,he,h=>by
    injection he with he;subst he
    injection h with h;subst h;trivial
  | (i,x)::ps,es,qs,hρ,he,h=>by
    simp only [List.map_cons,evs,Option.bind_eq_some_iff,Option.map_eq_some_iff] at he
    obtain ⟨e',h1,es',h2,rfl⟩:=he
    simp only [offParts] at h
    split at h
    · rename_i off size hfl
      cases hb:Nat.beq (eC e').length size && eOk e'
      · rw [hb] at h;cases h
      · rw [hb] at h
        simp only [cond_true,Option.map_eq_some_iff] at h
        obtain ⟨qs',h3,rfl⟩:=h
        rw [Bool.and_eq_true] at hb
        have:=Nat.eq_of_beq_eq_true hb.1
        subst this
        exact ⟨hfl,eC_rel hb.2 (hρ x (by simp) e' h1),offParts_fill ps es' qs' (fun y hy=>hρ y (by simp at hy ⊢;exact .inr hy)) h2 h3⟩
    · cases h
theorem q_build {t:TypeId} {z:List Value} {fl:List (Nat×Nat)} {parts:Array (Nat×Operand)} {es:List E} {qs:List (Nat×List C)} [hz:HasZe P t z] [hf:HasFl P t fl] (hes:evs f (parts.toList.map (·.2))=some es) (hq:offParts fl parts.toList es=some qs)
    (hok:z.all zOk=true) (hle:(qs.all fun x=>Nat.ble (x.1+x.2.length) z.length)=true):QOp P TB Γ ⟨d,.build t parts,ty,pos,af,g⟩ f σ nx (.a (fillC qs (z.map zC))):=
  q_of_run fun V ρ h1 _=>by
    obtain ⟨i,zv,hi,hzv,hzz⟩:=ze_inv hz.out
    have hfo:=offParts_fill (V:=V) (ρ:=ρ) parts.toList es qs (fun x hx e he=>h1.get (by simp only [Op.operands];simpa using hx) he) hes hq
    have hzr:LRel V (z.map zC) zv.cells:=by
      refine ⟨by rw [List.length_map,←hzz];simp,fun j c v hj hv=>?_⟩
      simp only [List.getElem?_map,Option.map_eq_some_iff] at hj
      obtain ⟨u,hu,rfl⟩:=hj
      have:u=v:=by
        rw [←hzz] at hu
        simp only [Array.getElem?_toList] at hu
        rw [hu] at hv;exact Option.some.inj hv
      subst this
      exact zC_rel (List.all_eq_true.1 hok u (List.mem_of_getElem? hu))
    obtain ⟨cells,h3,h4⟩:=fill_rel _ _ _ _ hfo hzr (fun x hx=>by rw [List.length_map];exact fillC_ok _ _ hle x hx)
    have hh:=hf.out
    have hparts:(parts.map fun (i,x)=>(i,ρ x)).toList=parts.toList.map fun (i,x)=>(i,ρ x):=by simp
    refine ⟨.agg cells,?_,cells,rfl,h4⟩
    have hb:(Instr.build t (parts.map fun (i,x)=>(i,ρ x))).run P V.w=.ok (.agg cells) V.w:=by
      unfold flF at hh
      split at hh
      · rename_i fs hu
        have hpl:∀(l:List Field) (ll:List (Nat×Nat)),(l.mapM fun f=>(P.info? f.type).map fun i=>(f.offset,i.size))=some ll→∀w,((l.mapM fun f=>do pure (f.offset,←sizeOf f.type)):Sem (List (Nat×Nat))).run P w=.ok ll w:=by
          intro l
          induction l with
          | nil=>intro ll h w;simp at h;subst h;simp [go_sem]
          | cons y l ih=>
            intro ll h w
            simp only [List.mapM_cons,Option.bind_eq_bind,Option.bind_eq_some_iff,Option.map_eq_some_iff] at h
            obtain ⟨p,⟨ii,hii,rfl⟩,ll',h5,h6⟩:=h
            simp at h6
            subst h6
            have hs:(sizeOf y.type).run P w=.ok ii.size w:=by simp [sizeOf,typeInfo,hii,go_sem]
            have ihh:=ih ll' h5 w
            simp only [bind_pure_comp] at ihh
            simp only [List.mapM_cons,Sem.run_bind,hs,Result.andThen_ok,bind_pure_comp,Sem.run_map,ihh]
        have hpl2:=hpl fs.toList fl hh V.w
        have hz0:(zeroValue t).run P V.w=.ok zv V.w:=by simp [zeroValue,typeInfo,hi,hzv,go_sem]
        have ha:((fs.mapM fun f=>do pure (f.offset,←sizeOf f.type)):Sem (Array (Nat×Nat))).run P V.w=.ok fl.toArray V.w:=by
          rw [Array.mapM_eq_mapM_toList,Sem.run_map,hpl2];rfl
        rw [←hparts] at h3
        simp only [Instr.build,Sem.run_bind,hz0,Result.andThen_ok,run_underlying hu,ha]
        simp only [List.getElem?_toArray]
        rw [h3]
        rfl
      · rename_i n e hu
        simp only [Option.map_eq_some_iff] at hh
        obtain ⟨ii,hii,rfl⟩:=hh
        have hz0:(zeroValue t).run P V.w=.ok zv V.w:=by simp [zeroValue,typeInfo,hi,hzv,go_sem]
        have hs:(sizeOf e).run P V.w=.ok ii.size V.w:=by simp [sizeOf,typeInfo,hii,go_sem]
        have hfill:∀(ps:List (Nat×Value)) (c c':Array Value),Instr.fill (fun i=>((List.range n).map fun j=>(j*ii.size,ii.size))[i]?) c ps=some c'→Instr.fill (fun i=>some (i*ii.size,ii.size)) c ps=some c':=by
          intro ps
          induction ps with
          | nil=>intro c c' h;simpa [Instr.fill] using h
          | cons p ps ih=>
            intro c c' h
            obtain ⟨i',v'⟩:=p
            unfold Instr.fill at h ⊢
            by_cases hlt:i' < n
            · simp only [List.getElem?_map,List.getElem?_range hlt,Option.map_some] at h
              simp only at h ⊢
              split at h
              · cases h
              · rename_i hno
                rw [if_neg hno];exact ih _ _ (by simpa only [List.getElem?_map] using h)
            · simp [hlt] at h
        rw [←hparts] at h3
        simp only [Instr.build,Sem.run_bind,hz0,Result.andThen_ok,run_underlying hu,hs]
        rw [hfill _ _ _ h3]
        rfl
      · cases hh
    show ((do let v ←Instr.build t (parts.map fun (i,x)=>(i,ρ x));pure (Next.value v):Sem Next)).run P V.w=_
    simp only [Sem.run_bind,hb,Result.andThen_ok]
    rfl
theorem n_nil (k e:Nat) (hK:K (.o (.arr nx k 0 0)) ((nx,.cells e k [])::σ) (nx+1)):AOp P TB Γ ⟨d,.assign (.const (.slice none 0 0)),ty,pos,af,g⟩ f σ nx K:=by
  intro V a h1 h2 h3
  subst h3
  obtain ⟨hi,he⟩:=h2.alloc (c:=0) (nl:=True) (w:=V.w) (ob:=.cells e k []) rfl rfl rfl rfl (Nat.le_refl _) (fun _ _=>rfl) (.inl ⟨by simp [newV],rfl⟩)
  unfold Oper.wp
  have hr:(execOp a.eval ⟨d,.assign (.const (.slice none 0 0)),ty,pos,af,g⟩).run P V.w=.ok (.value (.slice none 0 0)) V.w:=by simp [execOp,go_sem]
  rw [hr]
  exact ⟨newV V V.w.heap.size 0 True V.w,.slice none 0 0,.o (.arr V.nx k 0 0),_,rfl,rfl,he,hi,CRel.nil (by simp [newV]) (by simp [newV]),hK⟩
theorem q_lenT {t:TypeId} {x:Operand} {s:List UInt8} [hl:HasStr P t] (hx:ev f x=some (eT s)):QOp P TB Γ ⟨d,.call ⟨.builtin .len,#[x],#[t]⟩,ty,pos,af,g⟩ f σ nx (eI .i64 s.length):=by
  have:=q_lenS (t:=t) (P:=P) (TB:=TB) (Γ:=Γ) (d:=d) (ty:=ty) (pos:=pos) (af:=af) (g:=g) (σ:=σ) (nx:=nx) hx
  exact this
theorem q_indexT {t:TypeId} {x y:Operand} {s:List UInt8} {n:Int} {c:UInt8} {ik:IntKind} [hl:HasStr P t] (hx:ev f x=some (eT s)) (hy:ev f y=some (eI ik n))
    (h0:0≤n) (hc:s[n.toNat]? = some c):QOp P TB Γ ⟨d,.index t x y,ty,pos,af,g⟩ f σ nx (eI .u8 (c.toNat:Int)):=by
  obtain ⟨hlt,rfl⟩:=List.getElem?_eq_some_iff.1 hc
  exact q_indexS (P:=P) (TB:=TB) (Γ:=Γ) (d:=d) (ty:=ty) (pos:=pos) (af:=af) (g:=g) (σ:=σ) (nx:=nx) hx hy h0 hlt
theorem q_cat {t yt:TypeId} {x y:Operand} {a b:List UInt8} (hx:ev f x=some (eT a)) (hy:ev f y=some (eT b)) (hn:a.length+b.length≤9223372036854775807) :
    QOp P TB Γ ⟨d,.binOp .add t x y yt,ty,pos,af,g⟩ f σ nx (eT (a++b)):=bin_run hx hy rfl fun w=>by
  have h1:¬((((⟨a.toArray⟩:ByteArray).size+(⟨b.toArray⟩:ByteArray).size:Nat):Int) > IntKind.i64.max):=by
    have:IntKind.i64.max=9223372036854775807:=by decide
    have e1:(⟨a.toArray⟩:ByteArray).size=a.length:=by simp [ByteArray.size]
    have e2:(⟨b.toArray⟩:ByteArray).size=b.length:=by simp [ByteArray.size]
    omega
  have h2:(⟨a.toArray⟩:ByteArray)++⟨b.toArray⟩=⟨(a++b).toArray⟩:=by
    apply ByteArray.ext;simp
  have:(do eqGuard .add t x y (.string ⟨a.toArray⟩) (.string ⟨b.toArray⟩);binOp .add t (.string ⟨a.toArray⟩) (.string ⟨b.toArray⟩):Sem Value)=Op.stringOp .add ⟨a.toArray⟩ ⟨b.toArray⟩:=by
    simp [eqGuard,binOp]
  rw [this]
  unfold Op.stringOp
  simp only
  rw [if_neg h1,h2]
  rfl
theorem q_eqT {t yt:TypeId} {x y:Operand} {a b:List UInt8} (hx:ev f x=some (eT a)) (hy:ev f y=some (eT b)) :
    QOp P TB Γ ⟨d,.binOp .eql t x y yt,ty,pos,af,g⟩ f σ nx (eB (decide (a=b))):=bin_run hx hy rfl fun w=>by
  simp [eqGuard,binOp,Op.stringOp,go_sem]
  rw [Bool.eq_iff_iff];simp
theorem q_neT {t yt:TypeId} {x y:Operand} {a b:List UInt8} (hx:ev f x=some (eT a)) (hy:ev f y=some (eT b)) :
    QOp P TB Γ ⟨d,.binOp .neq t x y yt,ty,pos,af,g⟩ f σ nx (eB (decide (a≠b))):=bin_run hx hy rfl fun w=>by
  simp [eqGuard,binOp,Op.stringOp,go_sem]
  rw [Bool.eq_iff_iff];simp
end
end Go.Am
namespace Go.Am
open Go
def C.isV:C→Bool
  | .d (.v _)=>true
  | _=>false
def E.sc:E→Bool
  | .o c=>c.isV
  | .a cs=>cs.all C.isV
  | .t xs=>xs.all fun x=>x.2.all C.isV
  | .e=>true
theorem scal_any {V V':View} {c:C} {v:Value} (h:CRel V c v) (hc:c.isV=true):CRel V' c v:=by
  cases h with
  | d h=>cases h with
    | v hs=>exact .d (.v hs)
    | _=>cases hc
  | _=>cases hc
theorem sc_any {V V':View} {e:E} {v:Value} (h:ERel V e v) (hs:e.sc=true):ERel V' e v:=by
  cases e with
  | e=>exact h
  | o c=>exact scal_any h hs
  | a cs=>
    obtain ⟨vs,h1,h2⟩:=h
    exact ⟨vs,h1,h2.1,fun j c v hj hv=>scal_any (h2.2 j c v hj hv) (List.all_eq_true.1 hs c (List.mem_of_getElem? hj))⟩
  | t xs=>
    obtain ⟨vs,h1,h2,h3⟩:=h
    refine ⟨vs,h1,h2,fun j x v hj hv=>?_⟩
    have h4:=h3 j x v hj hv
    have h5:=List.all_eq_true.1 hs x (List.mem_of_getElem? hj)
    obtain ⟨b,cs⟩:=x
    cases b
    · obtain ⟨c,h6,h7⟩:=h4
      have h6:cs=[c]:=h6
      subst h6
      exact ⟨c,rfl,scal_any h7 (List.all_eq_true.1 h5 c (by simp))⟩
    · obtain ⟨ws,h6,h7⟩:=h4
      exact ⟨ws,h6,h7.1,fun j c v hj hv=>scal_any (h7.2 j c v hj hv) (List.all_eq_true.1 h5 c (List.mem_of_getElem? hj))⟩
inductive CV (σ:Store):C→C→Prop
  | pure {c:C}:c.pur=true→CV σ c c
  | arr {id k off len:Nat} {T:TypeId} {rows:List (List C)} {ds:List (List D)}:look σ id=some (.cells T k rows)→off+len≤rows.length→(rows.drop off).take len=ds.map (fun r=>r.map .d)→CV σ (.arr id k off len) (.d (.l ds))
  | ptr {id k i j:Nat} {T:TypeId} {rows:List (List C)} {r:List C} {ds:List D}:look σ id=some (.cells T k rows)→rows[i]? = some r→r.drop j=ds.map .d→CV σ (.ptr id k i j) (.ip ds)
inductive EV (σ:Store):E→E→Prop
  | o {c c':C}:CV σ c c'→EV σ (.o c) (.o c')
  | nil:EV σ (.a []) (.a [])
  | cons {c c':C} {cs cs':List C}:CV σ c c'→EV σ (.a cs) (.a cs')→EV σ (.a (c::cs)) (.a (c'::cs'))
inductive EVs (σ:Store):List E→List E→Prop
  | nil:EVs σ [] []
  | cons {e e':E} {es es':List E}:EV σ e e'→EVs σ es es'→EVs σ (e::es) (e'::es')
def lentV (V:View) (σ:Store):View:={ V with I:=fun b=>V.I b∨∃id o,look σ id=some o∧¬V.nl id∧blk V id o b,nx:=0 }
section
variable {P:Program} {TB:List (Nat×Obj)} {Γ:Ctx} {d:Option Tmp} {ty:TypeId} {pos:String} {af:Array Edge} {g:Option (Nat×Bool)} {f:Env} {σ:Store} {nx:Nat}
variable {K:E→Store→Nat→Prop}
theorem CRel.lentP {V:View} {c:C} {v:Value} (h:CRel V c v) (hp:c.pur=true):CRel (lentV V σ) c v:=by
  induction h with
  | d h=>exact .d (h.mono (fun _ h=>.inl h) fun _ _=>rfl)
  | nil=>simp [C.pur] at hp
  | arr=>simp [C.pur] at hp
  | ptr=>simp [C.pur] at hp
  | fn h1 _ ih=>
    simp only [C.pur] at hp
    exact .fn h1 fun j c v hj hv=>ih j c v hj hv (purL_get _ hp j c hj)
  | mp=>simp [C.pur] at hp
theorem DRel.lent {V:View} {x:D} {v:Value} (h:DRel V.I V.w x v):DRel (lentV V σ).I (lentV V σ).w x v:=h.mono (fun _ h=>.inl h) fun _ _=>rfl
theorem CV.rel {V:View} (hi:Inv TB Γ V σ) {c c':C} {v:Value} (h:CV σ c c') (hc:CRel V c v):CRel (lentV V σ) c' v:=by
  cases h with
  | pure hp=>exact hc.lentP hp
  | @arr id k off len T rows ds hl hle hr=>
    cases hc with
    | nil h1 h2=>
      have:ds=[]:=by
        have:=congrArg List.length hr
        simp at this
        exact List.length_eq_zero_iff.1 this.symm
      subst this
      exact .d .nil
    | arr h1 hnl h2=>
      rcases hi.st.obj id _ hl with ⟨h4,_⟩|⟨_,cur,h4,h5,h6,h7,h8,h9⟩
      · exact absurd h4 hnl
      · have hlen:ds.length=len:=by
          have:=congrArg List.length hr
          simp at this;omega
        have hget:∀(i:Nat) (r:List D),ds[i]? = some r→rows[off+i]? = some (r.map .d):=fun i r hi=>by
          have h10:((rows.drop off).take len)[i]? = some (r.map .d):=by rw [hr];simp [hi]
          rw [List.getElem?_take] at h10
          split at h10
          · rwa [List.getElem?_drop] at h10
          · cases h10
        have hcell:∀(i:Nat) (r:List D) (j:Nat) (x:D),ds[i]? = some r→r[j]? = some x→∃v,cur[(off+i)*k+j]? = some v∧DRel V.I V.w x v:=fun i r j x hi hj=>by
          obtain ⟨v,h11,h12⟩:=h9 (off+i) (r.map .d) j (.d x) (hget i r hi) (by simp [hj])
          cases h12 with
          | d h12=>exact ⟨v,h11,h12⟩
        rw [←hlen] at h2 ⊢
        refine .d (.l (b:=V.ρ id) (o:=off*k) (k:=k) (vs:=fun i j=>cur.getD ((off+i)*k+j) undef) (.inr ⟨id,_,hl,hnl,rfl⟩) (by omega) (by omega) (fun i r hi=>?_) (fun i r j x hi hj=>?_) (fun i r j x hi hj=>?_))
        · have:=h8 _ (List.mem_of_getElem? (hget i r hi))
          simpa using this
        · obtain ⟨v,h11,_⟩:=hcell i r j x hi hj
          have e:off*k+i*k+j=(off+i)*k+j:=by rw [Nat.add_mul]
          rw [e]
          have:(lentV V σ).w.heap[V.ρ id]? = some (.cells cur T):=h4
          simp [World.cell?,this,h11]
        · obtain ⟨v,h11,h12⟩:=hcell i r j x hi hj
          have:cur.getD ((off+i)*k+j) undef=v:=by simp [h11]
          simp only [this]
          exact h12.lent
  | @ptr id k i j T rows r ds hl hri hr=>
    cases hc with
    | ptr h1 hnl=>
      rcases hi.st.obj id _ hl with ⟨h4,_⟩|⟨_,cur,h4,h5,h6,h7,h8,h9⟩
      · exact absurd h4 hnl
      · have hget:∀(q:Nat) (x:D),ds[q]? = some x→r[j+q]? = some (.d x):=fun q x hq=>by
          have h10:(r.drop j)[q]? = some (.d x):=by rw [hr];simp [hq]
          rwa [List.getElem?_drop] at h10
        have hcell:∀(q:Nat) (x:D),ds[q]? = some x→∃v,cur[i*k+j+q]? = some v∧DRel V.I V.w x v:=fun q x hq=>by
          obtain ⟨v,h11,h12⟩:=h9 i r (j+q) (.d x) hri (hget q x hq)
          cases h12 with
          | d h12=>exact ⟨v,by rw [Nat.add_assoc];exact h11,h12⟩
        refine .ip (V:=lentV V σ) (vs:=fun q=>cur.getD (i*k+j+q) undef) (.inr ⟨id,_,hl,hnl,rfl⟩) (fun q x hq=>?_) (fun q x hq=>?_)
        · obtain ⟨v,h11,_⟩:=hcell q x hq
          have:(lentV V σ).w.heap[V.ρ id]? = some (.cells cur T):=h4
          simp [World.cell?,this,h11]
        · obtain ⟨v,h11,h12⟩:=hcell q x hq
          have:cur.getD (i*k+j+q) undef=v:=by simp [h11]
          simp only [this]
          exact h12.lent
theorem EV.rel {V:View} (hi:Inv TB Γ V σ) {e e':E} (h:EV σ e e'):∀ {v:Value},ERel V e v→ERel (lentV V σ) e' v:=by
  have key:∀ {e e':E},EV σ e e'→(∀c c',e=.o c→e'=.o c'→CV σ c c')∧(∀cs cs',e=.a cs→e'=.a cs'→cs.length=cs'.length∧∀(j:Nat) c c',cs[j]? = some c→cs'[j]? = some c'→CV σ c c')∧((∃c c',e=.o c∧e'=.o c')∨∃cs cs',e=.a cs∧e'=.a cs'):=by
    intro e e' h
    induction h with
    | o hc=>exact ⟨fun c c' h1 h2=>(by injection h1 with h1;injection h2 with h2;subst h1 h2;exact hc),fun _ _ h=>(by cases h),.inl ⟨_,_,rfl,rfl⟩⟩
    | nil=>exact ⟨fun _ _ h=>(by cases h),fun cs cs' h1 h2=>(by injection h1 with h1;injection h2 with h2;subst h1 h2;exact ⟨rfl,fun j c c' hj=>(by simp at hj)⟩),.inr ⟨_,_,rfl,rfl⟩⟩
    | cons hc _ ih=>
      refine ⟨fun _ _ h=>(by cases h),fun cs cs' h1 h2=>?_,.inr ⟨_,_,rfl,rfl⟩⟩
      injection h1 with h1;injection h2 with h2;subst h1 h2
      have:=ih.2.1 _ _ rfl rfl
      refine ⟨by simp [this.1],fun j c c' hj hj'=>?_⟩
      cases j with
      | zero=>simp at hj hj';subst hj hj';exact hc
      | succ j=>exact this.2 j c c' (by simpa using hj) (by simpa using hj')
  intro v hv
  obtain ⟨k1,k2,k3⟩:=key h
  rcases k3 with ⟨c,c',rfl,rfl⟩|⟨cs,cs',rfl,rfl⟩
  · exact (k1 c c' rfl rfl).rel hi hv
  · obtain ⟨vs,rfl,h1,h2⟩:=hv
    obtain ⟨k4,k5⟩:=k2 cs cs' rfl rfl
    refine ⟨vs,rfl,by rw [h1,k4],fun j c' u hj hu=>?_⟩
    have hlt:j < cs.length:=by rw [k4];exact (List.getElem?_eq_some_iff.1 hj).1
    exact (k5 j cs[j] c' (List.getElem?_eq_getElem hlt) hj).rel hi (h2 j _ u (List.getElem?_eq_getElem hlt) hu)
theorem call_run {x:Operand} {args:Array Operand} {tys:Array TypeId} {gg:FuncId} {vs:Array Value} (hf:IsFn P gg) {ρ:Operand→Value} (hv:ρ x=.func (.func gg) #[] vs) (w:World) :
    (execOp ρ ⟨d,.call ⟨.value x,args,tys⟩,ty,pos,af,g⟩).run P w=.ok (.enter gg (args.map ρ++vs)) w:=by
  obtain ⟨fn,h1,h2,h3⟩:=hf
  have hb:∃c,fn.body=some c:=by cases hb:fn.body with|none=>rw [hb] at h3;cases h3|some c=>exact ⟨c,rfl⟩
  obtain ⟨c,hb⟩:=hb
  simp only [execOp,resolve,hv,Deferred.ofValue,pure_bind,invoke,callFunc]
  have h2':¬fn.name = "runtime.NumGoroutine" := by simpa using h2
  simp [Sem.run,program,h1,h2',hb,go_sem]
theorem args_rel {V:View} {ρ:Operand→Value} {args:List Operand} {es:List E} (h:∀x∈args,∀e,ev f x=some e→ERel V e (ρ x)) (hes:evs f args=some es) :
    ∀(j:Nat) e v,es[j]? = some e→(args.map ρ)[j]? = some v→ERel V e v:=by
  intro j e v hj hv
  simp only [List.getElem?_map,Option.map_eq_some_iff] at hv
  obtain ⟨x,hx,rfl⟩:=hv
  exact h x (List.mem_of_getElem? hx) e (evs_mem hes j x e hx hj)
theorem fn_val {V:View} {gg:FuncId} {cap:List C} {v:Value} (h:ERel V (.o (.fn gg cap)) v):∃vs,v=.func (.func gg) #[] vs∧LRel V cap vs:=by
  have h:CRel V (.fn gg cap) v:=h
  generalize hc:C.fn gg cap=c at h
  cases h<;>cases hc
  rename_i vs h1 h2
  exact ⟨vs,rfl,h1,h2⟩
theorem after_call {V Vc V1:View} (h:Inv TB Γ V σ) (hw:Vc.w=V.w) {σ1:Store} (h1:Inv TB ⟨Vc,fun _=>False⟩ V1 σ1) (I':Nat→Prop) (hI1:∀b,V.I b→I' b) (hI2:∀b,I' b→V.I b∨V.w.heap.size≤b∧b < V1.w.heap.size) :
    Inv TB Γ { V with I:=I',w:=V1.w } σ∧Ext V { V with I:=I',w:=V1.w } := by
  have hold:∀b,b < V.w.heap.size→V1.w.heap[b]? = V.w.heap[b]?:=fun b hb=>by
    have:=h1.old b (by show b < Vc.w.heap.size;rw [hw];exact hb) (fun h=>h)
    rw [this];show Vc.w.heap[b]? = _;rw [hw]
  have hsz:V.w.heap.size≤V1.w.heap.size:=by have:=h1.ext.size;rw [hw] at this;exact this
  have e:Ext V { V with I:=I',w:=V1.w } := ⟨hI1,fun b hb=>hold b (h.iLt b hb),hsz,fun _ _=>rfl,fun _ _=>rfl,fun _ _=>Iff.rfl,Nat.le_refl _⟩
  refine ⟨⟨?_,?_,?_,fun b hb hf=>(hold b (Nat.lt_of_lt_of_le hb h.ext.size)).trans (h.old b hb hf),?_,?_,h.ext.trans e,⟨?_,h.st.lt,?_,h.st.inj⟩,h.live,?_⟩,e⟩
  · have:=h1.os;rw [hw] at this;exact this.trans h.os
  · have:=h1.tape;rw [hw] at this;exact this.trans h.tape
  · have:=h1.output;rw [hw] at this;exact this.trans h.output
  · intro b hb
    rcases hI2 b hb with h2|h2
    · exact Nat.lt_of_lt_of_le (h.iLt b h2) hsz
    · exact h2.2
  · intro b hb
    rcases hI2 b hb with h2|h2
    · exact h.iNew b h2
    · exact .inr (.inl (Nat.le_trans h.ext.size h2.1))
  · intro id o hl
    exact (h.st.obj id o hl).keep e (h.st.lt id o hl) fun hn b hb=>hold _ ((h.st.obj id o hl).blt hn hb)
  · intro id o hl hn b hb' hb
    have hb':=(blk_ext e (h.st.lt id o hl)).1 hb'
    rcases hI2 _ hb with h2|h2
    · exact h.st.free id o hl hn b hb' h2
    · have:=(h.st.obj id o hl).blt hn hb'
      have h3:V.w.heap.size≤b:=h2.1
      omega
  · intro x hx
    have:=h.tabs x hx
    exact ⟨hI1 _ this.1,(hold _ (h.iLt _ this.1)).trans this.2⟩
theorem store_none {V:View}:StoreRel V []:=⟨fun _ _ h=>(by cases h),fun _ _ h=>(by cases h),fun _ _ h=>(by cases h),fun _ _ _ _ h=>(by cases h)⟩
theorem foot_none {V:View}:Foot V []=fun _=>False:=by
  funext b
  exact propext ⟨fun ⟨_,_,h,_⟩=>(by cases h),fun h=>h.elim⟩
theorem q_call {x:Operand} {args:Array Operand} {tys:Array TypeId} {gg:FuncId} {cap:List C} {es:List E} {r:E} (hx:ev f x=some (.o (.fn gg cap))) (hes:evs f args.toList=some es) (hp:(es.all E.pur && C.purL cap)=true)
    (hs:Pure P TB gg (es++cap.map .o) r) (hr:r.pur=true):QOp P TB Γ ⟨d,.call ⟨.value x,args,tys⟩,ty,pos,af,g⟩ f σ nx r:=by
  intro V a h1 h2 h3
  have h1:=h1.evRel
  unfold Oper.wp
  generalize a.eval=ρ at h1 ⊢
  obtain ⟨vs,hv,hcap⟩:=fn_val (h1.get (x:=x) (by simp [Op.operands,Call.operands]) hx)
  rw [call_run hs.1 hv]
  rw [Bool.and_eq_true] at hp
  have hel:=evs_length hes
  have hargs:ARel { V with nx:=0 } (es++cap.map .o) (args.map ρ++vs):=by
    refine ⟨by simp [hcap.1,hel],fun j e v hj hv=>?_⟩
    have hsz:(args.map ρ).size=es.length:=by simp [hel]
    by_cases hlt:j < es.length
    · rw [List.getElem?_append_left hlt] at hj
      rw [Array.getElem?_append_left (by rw [hsz];exact hlt)] at hv
      refine ERel.pur (V:=V) (V':={ V with nx:=0 }) rfl rfl (args_rel (fun y hy e he=>h1.get (by simp [Op.operands,Call.operands];right;simpa using hy) he) hes j e v hj (by rw [←Array.toList_map];simpa using hv)) (List.all_eq_true.1 hp.1 e (List.mem_of_getElem? hj))
    · rw [List.getElem?_append_right (by omega)] at hj
      rw [Array.getElem?_append_right (by rw [hsz];omega),hsz] at hv
      simp only [List.getElem?_map,Option.map_eq_some_iff] at hj
      obtain ⟨c,hc,rfl⟩:=hj
      exact CRel.pur (V:=V) (V':={ V with nx:=0 }) rfl rfl (hcap.2 _ c v hc hv) (purL_get _ hp.2 _ c hc)
  refine (hs.2 { V with nx:=0 } _ ⟨h2.iLt,store_none,h2.tabs,rfl⟩ hargs).mono ?_
  rintro e w' ⟨V1,v,x1,σ1,rfl,rfl,hi1,hx1,rfl⟩
  rw [foot_none] at hi1
  obtain ⟨hi',he'⟩:=after_call h2 (Vc:={ V with nx:=0 }) rfl hi1 V1.I (fun b hb=>hi1.ext.i b hb) (fun b hb=>by
    rcases hi1.iNew b hb with h|h|h
    · exact .inl h
    · exact .inr ⟨h,hi1.iLt b hb⟩
    · exact h.elim)
  exact ⟨{ V with I:=V1.I,w:=V1.w },v,rfl,rfl,he',hi',h3,ERel.pur (V:=V1) (V':={ V with I:=V1.I,w:=V1.w }) rfl rfl hx1 hr⟩
theorem q_callB {x:Operand} {args:Array Operand} {tys:Array TypeId} {gg:FuncId} {cap:List C} {es es':List E} {r:E} (hx:ev f x=some (.o (.fn gg cap))) (hes:evs f args.toList=some es) (hv:EVs σ (es++cap.map .o) es')
    (hs:Pure P TB gg es' r) (hr:r.sc=true):QOp P TB Γ ⟨d,.call ⟨.value x,args,tys⟩,ty,pos,af,g⟩ f σ nx r:=by
  intro V a h1 h2 h3
  have h1:=h1.evRel
  unfold Oper.wp
  generalize a.eval=ρ at h1 ⊢
  obtain ⟨vs,hvv,hcap⟩:=fn_val (h1.get (x:=x) (by simp [Op.operands,Call.operands]) hx)
  rw [call_run hs.1 hvv]
  have hel:=evs_length hes
  have hargs0:ARel V (es++cap.map .o) (args.map ρ++vs):=by
    refine ⟨by simp [hcap.1,hel],fun j e v hj hv=>?_⟩
    have hsz:(args.map ρ).size=es.length:=by simp [hel]
    by_cases hlt:j < es.length
    · rw [List.getElem?_append_left hlt] at hj
      rw [Array.getElem?_append_left (by rw [hsz];exact hlt)] at hv
      exact args_rel (fun y hy e he=>h1.get (by simp [Op.operands,Call.operands];right;simpa using hy) he) hes j e v hj (by rw [←Array.toList_map];simpa using hv)
    · rw [List.getElem?_append_right (by omega)] at hj
      rw [Array.getElem?_append_right (by rw [hsz];omega),hsz] at hv
      simp only [List.getElem?_map,Option.map_eq_some_iff] at hj
      obtain ⟨c,hc,rfl⟩:=hj
      exact hcap.2 _ c v hc hv
  have hvs:∀ {l l':List E},EVs σ l l'→l.length=l'.length∧∀(j:Nat) e e',l[j]? = some e→l'[j]? = some e'→EV σ e e':=by
    intro l l' h
    induction h with
    | nil=>exact ⟨rfl,fun j e e' hj=>by simp at hj⟩
    | cons h _ ih=>
      refine ⟨by simp [ih.1],fun j e e' hj hj'=>?_⟩
      cases j with
      | zero=>simp at hj hj';subst hj hj';exact h
      | succ j=>exact ih.2 j e e' (by simpa using hj) (by simpa using hj')
  obtain ⟨hlen,hget⟩:=hvs hv
  have hargs:ARel (lentV V σ) es' (args.map ρ++vs):=by
    refine ⟨by rw [hargs0.1,hlen],fun j e v hj hv=>?_⟩
    have hlt:j < (es++cap.map E.o).length:=by rw [hlen];exact (List.getElem?_eq_some_iff.1 hj).1
    exact (hget j _ e (List.getElem?_eq_getElem hlt) hj).rel h2 (hargs0.2 j _ v (List.getElem?_eq_getElem hlt) hv)
  have hlt:∀b,(lentV V σ).I b→b < (lentV V σ).w.heap.size:=by
    rintro b (hb|⟨id,o,hl,hn,hb⟩)
    · exact h2.iLt b hb
    · exact (h2.st.obj id o hl).blt hn hb
  refine (hs.2 (lentV V σ) _ ⟨hlt,store_none,fun x hx=>⟨.inl (h2.tabs x hx).1,(h2.tabs x hx).2⟩,rfl⟩ hargs).mono ?_
  rintro e w' ⟨V1,v,x1,σ1,rfl,rfl,hi1,hx1,rfl⟩
  rw [foot_none] at hi1
  obtain ⟨hi',he'⟩:=after_call h2 (Vc:=lentV V σ) rfl hi1 V.I (fun b hb=>hb) (fun b hb=>.inl hb)
  exact ⟨{ V with I:=V.I,w:=V1.w },v,rfl,rfl,he',hi',h3,sc_any hx1 hr⟩
end
end Go.Am
