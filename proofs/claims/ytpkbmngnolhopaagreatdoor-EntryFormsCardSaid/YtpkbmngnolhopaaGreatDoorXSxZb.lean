/- Part Zb of the own logic: what is read as data is data of one kind. Part Zc of the own logic: a law that is a function of data, as a row. And further parts. -/
import Derived.Test.YtpkbmngnolhopaaGreatDoorXSxQe
import Derived.ChangeSame
import Derived.ChangeVars
import Derived.JoinedOf
import Derived.RowKit
import Derived.WideKeyArgs
import Derived.Below
import Derived.Handed
import Derived.CallsIn
set_option linter.unusedVariables false
set_option linter.unusedSimpArgs false
section
namespace Go.Sx
open Go
variable {H:Type} {enc:TypeId × Value → H} {P:Program} {w:World} {sp:Nat → Bool} {held:Bool}
theorem exists_list {α:Type} {Q:Nat → α → Prop}:∀ (n:Nat),(∀ i,i < n → ∃ x,Q i x) → ∃ l:List α,l.length = n ∧ ∀ (i:Nat) (x:α),l[i]? = some x → Q i x
 | 0,_=>⟨[],rfl,fun i x h=>by simp at h⟩
 | n + 1,h=>by
  obtain ⟨l,h1,h2⟩ := exists_list n fun i hi=>h i (by omega)
  obtain ⟨x,hx⟩ := h n (by omega)
  refine ⟨l ++ [x],by simp [h1],fun i y hy=>?_⟩
  rw [List.getElem?_append] at hy
  split at hy
  ·exact h2 i y hy
  ·rename_i hi
   have:i = n := by
    have := (List.getElem?_eq_some_iff.1 hy).1
    simp at this; omega
   subst this
   simp [h1] at hy
   rw [← hy]; exact hx
theorem weightsAll_mem {e:TypeId}:∀ {l:List (DataW H)} {d:DataW H} {x:Nat},d ∈ l → x ∈ d.weights P e → x ∈ DataW.weightsAll P e l
 | [],d,x,h,_=>by cases h
 | y :: l,d,x,h,hx=>by
  simp only [DataW.weightsAll,List.mem_append]
  rcases List.mem_cons.1 h with rfl | h
  ·exact .inl hx
  ·exact .inr (weightsAll_mem h hx)
theorem add_block (a:Addr) (n:Nat):(a.add n).block = a.block := by
 unfold Addr.add; split <;> rfl
theorem add_off (a:Addr) (n:Nat):(a.add n).off = a.off + n := by
 unfold Addr.add; split
 ·rename_i h; subst h; rfl
 ·rfl
theorem fields_row {cs:List Value} {fuel:Nat} {k:TypeId → Option (List Ty)}
  (ih:∀ (t:TypeId) (cs:List Value) (d:DataW H) (ps:List MemPlace) (row:List Ty),DataW.trod enc P w 0 sp held fuel t cs = some (d,ps) → k t = some row → (∀ x ∈ d.weights P t,x ≤ reachBytes) → ∃ x:Els row,RowRd w cs row x) :
  ∀ (fs:List Field) (off:Nat) (row:List Ty) (xs:List (DataW H × List MemPlace)),
   fs.mapM (fun f=>DataW.trod enc P w 0 sp held fuel f.type ((cs.drop f.offset).take (P.cellsOf f.type))) = some xs → rowFs P k fs off = some row →
   (∀ x ∈ DataW.weightsEach P (fs.map (·.type)) (xs.map (·.1)),x ≤ reachBytes) → ∃ x:Els row,RowRd w ((cs.drop off).take row.length) row x
 | [],off,row,xs,h,hr,hw=>by
  simp only [rowFs,Option.some.injEq] at hr
  subst hr
  exact ⟨(),by simpa using RowRd.nil w⟩
 | f :: fs,off,row,xs,h,hr,hw=>by
  simp only [rowFs] at hr
  split at hr
  ·cases hr
  ·rename_i e1
   split at hr
   ·cases hr
   ·rename_i r e2
    split at hr
    ·cases hr
    ·rename_i e3
     split at hr
     ·cases hr
     ·rename_i rs e4
      cases hr
      have e1 := of_decide_eq_true e1
      have e3 := of_decide_eq_true e3
      rw [List.mapM_cons] at h
      cases hf:DataW.trod enc P w 0 sp held fuel f.type ((cs.drop f.offset).take (P.cellsOf f.type)) with
      | none=>rw [hf] at h; cases h
      | some p =>
       cases hl:fs.mapM (fun f=>DataW.trod enc P w 0 sp held fuel f.type ((cs.drop f.offset).take (P.cellsOf f.type))) with
       | none=>rw [hf,hl] at h; cases h
       | some ps =>
        rw [hf,hl] at h
        cases h
        simp only [List.map_cons,DataW.weightsEach,List.mem_append] at hw
        obtain ⟨x,hx⟩ := ih f.type _ p.1 p.2 r hf e2 fun y hy=>hw y (.inl hy)
        obtain ⟨y,hy⟩ := fields_row ih fs (off + r.length) rs ps hl e4 fun y hy=>hw y (.inr hy)
        refine ⟨Els.app r rs x y,?_⟩
        have := hx.app hy
        rw [e1,← e3] at this
        rw [List.length_append,List.take_add,List.drop_drop]
        exact this
theorem array_row {cs:List Value} {r:List Ty} {m:Nat} (h:∀ i,i < m → ∃ x:Els r,RowRd w ((cs.drop (i * r.length)).take r.length) r x) :
  ∀ k,k ≤ m → ∃ x:Els (rowNs r k),RowRd w ((cs.drop ((m - k) * r.length)).take (k * r.length)) (rowNs r k) x
 | 0,_=>⟨(show Els (rowNs r 0) from ()),by
   show RowRd w ((cs.drop _).take (0 * r.length)) [] ()
   rw [Nat.zero_mul,List.take_zero]; exact RowRd.nil w⟩
 | k + 1,hk=>by
  obtain ⟨y,hy⟩ := array_row h k (by omega)
  obtain ⟨x,hx⟩ := h (m - (k + 1)) (by omega)
  refine ⟨Els.app r (rowNs r k) x y,?_⟩
  have := hx.app hy
  have e:(m - k) * r.length = (m - (k + 1)) * r.length + r.length := by
   rw [show m - k = m - (k + 1) + 1 by omega,Nat.succ_mul]
  rw [e,← List.drop_drop] at this
  rw [show (k + 1) * r.length = r.length + k * r.length by rw [Nat.succ_mul]; omega,List.take_add]
  exact this
theorem slice_row {r:List Ty} {c cap:Nat} {a:Addr} {n:Nat} (hc:r.length = c) (h0:0 < r.length) (hn:n ≤ cap) (l:List (Els r)) (hl:l.length = n)
  (h:∀ (i:Nat) (x:Els r),l[i]? = some x → ∃ cs,w.cells? 0 (a.add (i * c)) c = some cs ∧ RowRd w cs r x):PRep (immOf w) (.slice (some a) n cap) (.tsl r l) := by
 refine .tsl r l ?_
 by_cases hz:n = 0
 ·subst hz
  have:l = [] := List.eq_nil_of_length_eq_zero hl
  subst this
  exact .remp a cap _
 ·have cell:∀ (i j:Nat) (x:Els r),l[i]? = some x → j < c → ∃ v,(immOf w).cell a.block (a.off + i * c + j) = some v ∧ isCell v = true ∧ a.add (i * c) = a.add (i * c) ∧ (∀ p,(rowPV r x)[j]? = some p → PRep (immOf w) v p) ∧ ((a.add (i * c)).add j).spot = none := fun i j x hx hj=>by
   obtain ⟨cs,h1,h2⟩ := h i x hx
   obtain ⟨g1,g2⟩ := cells_spec h1
   obtain ⟨v,hv,hcell⟩ := g2 j hj
   obtain ⟨k1,k2⟩ := cell_imm hcell
   rw [add_block,add_block,add_off,add_off] at k2
   exact ⟨v,k2,h2.one v (List.mem_of_getElem? hv),rfl,fun p hp=>h2.rep j v p hv hp,k1⟩
  have hspot:a.spot = none := by
   obtain ⟨x,hx⟩:∃ x,l[0]? = some x := ⟨l[0]'(by omega),by simp⟩
   obtain ⟨v,_,_,_,_,k⟩ := cell 0 0 x hx (by omega)
   simpa [Addr.add] using k
  obtain ⟨b,off,s⟩ := a
  cases hspot
  refine .rsl b off cap r.length n (rowsPV r l) (by simp [hl]) hn (fun i j hi hj=>?_) (fun i row j p v hrow hp hv=>?_) (fun i row hrow=>?_)
  ·obtain ⟨x,hx⟩:∃ x,l[i]? = some x := ⟨l[i]'(by simpa using hi),by simp⟩
   obtain ⟨v,k1,k2,_⟩ := cell i j x hx (by omega)
   rw [← hc] at k1
   exact ⟨v,k1,k2⟩
  ·simp only [List.getElem?_map,Option.map_eq_some_iff] at hrow
   obtain ⟨x,hx,rfl⟩ := hrow
   have hj:j < c := by
    have := (List.getElem?_eq_some_iff.1 hp).1
    rw [rowPV_length] at this; omega
   obtain ⟨v',k1,k2,_,k3,_⟩ := cell i j x hx hj
   rw [← hc] at k1
   rw [k1] at hv; cases hv
   exact k3 p hp
  ·simp only [List.getElem?_map,Option.map_eq_some_iff] at hrow
   obtain ⟨x,hx,rfl⟩ := hrow
   rw [rowPV_length]
   exact Nat.le_refl _
theorem trod_row:∀ (fuel n:Nat) (t:TypeId) (cs:List Value) (d:DataW H) (ps:List MemPlace) (row:List Ty),DataW.trod enc P w 0 sp held fuel t cs = some (d,ps) → rowK P n t = some row →
  (∀ x ∈ d.weights P t,x ≤ reachBytes) → ∃ x:Els row,RowRd w cs row x
 | 0,n,t,cs,d,ps,row,h,hr,hw=>by simp [DataW.trod] at h
 | fuel + 1,0,t,cs,d,ps,row,h,hr,hw=>by simp [rowK] at hr
 | fuel + 1,n + 1,t,cs,d,ps,row,h,hr,hw=>by
  have ih := trod_row fuel n
  unfold rowK at hr
  split at hr
  ·rename_i hu
   cases hr
   obtain ⟨b,rfl,rfl⟩:∃ b,cs = [.bool b] ∧ d = .lit (.bool b) := by
    unfold DataW.trod at h; rw [hu] at h
    split at h <;> first | (cases h; done) | (rename_i heq; cases heq; done) | (cases h; exact ⟨_,rfl,rfl⟩)
   exact ⟨b,.single rfl (.lit _) trivial⟩
  ·rename_i k hu
   cases hr
   obtain ⟨v,rfl,hv⟩:∃ v:Int,cs = [.int k v] ∧ (k.min ≤ v ∧ v ≤ k.max) := by
    unfold DataW.trod at h; rw [hu] at h
    split at h <;> first | (cases h; done) | (rename_i heq; cases heq; done) | skip
    ·rename_i heq
     cases heq
     split at h
     ·rename_i hk
      obtain ⟨rfl,hwf⟩ := hk
      simp only [Lit.wf,Bool.and_eq_true,decide_eq_true_eq] at hwf
      exact ⟨_,rfl,hwf⟩
     ·cases h
   exact ⟨v,.single rfl (.lit _) hv⟩
  ·rename_i hu
   cases hr
   obtain ⟨b,rfl,rfl⟩:∃ b,cs = [.string b] ∧ d = .lit (.string b.data.toList) := by
    unfold DataW.trod at h; rw [hu] at h
    split at h <;> first | (cases h; done) | (rename_i heq; cases heq; done) | skip
    ·split at h
     ·cases h; exact ⟨_,rfl,rfl⟩
     ·cases h
   refine ⟨b,.single rfl (.lit _) ?_⟩
   have := hw b.data.toList.length (by simp [DataW.weights])
   simp only [reachBytes] at this
   simpa [strIn,Ty.ok] using this
  ·rename_i e hu
   split at hr
   ·cases hr
   ·rename_i r hrk
    split at hr
    ·rename_i hcond
     cases hr
     simp only [Bool.and_eq_true,decide_eq_true_eq] at hcond
     obtain ⟨hc,h0,hby⟩ := hcond
     have fin:∀ (v:Value) (l:List (Els r)),PRep (immOf w) v (.tsl r l) → isCell v = true → l.length * rowBytes r ≤ 140737488351232 → (∀ x ∈ l,Els.ok r x) → ∃ x:Els [.seq r],RowRd w [v] [.seq r] x :=
      fun v l hp h1 h2 h3=>⟨l,.single h1 hp ⟨h2,h3⟩⟩
     unfold DataW.trod at h; rw [hu] at h
     split at h <;> first | (cases h; done) | (rename_i heq; cases heq; done) | skip
     ·exact fin _ [] (.tsl r [] (.rnil _)) rfl (by simp) (fun x hx=>by cases hx)
     ·rename_i a len cap heq
      cases heq
      simp only [] at h
      split at h
      ·rename_i hlc
       obtain ⟨elems,he,h⟩ := Option.bind_eq_some_iff.1 h
       obtain ⟨rest,hre,h⟩ := Option.map_eq_some_iff.1 h
       cases h
       obtain ⟨g1,g2⟩ := mapM_some he
       have hwt:∀ x ∈ DataW.weightsAll P e (elems.map (·.1)),x ≤ reachBytes := fun x hx=>hw x (by
        simp only [DataW.weights,hu,List.mem_cons,List.mem_append]; exact .inr (.inl hx))
       have hlen:elems.length = len := by simpa using g1
       have elt:∀ i,i < len → ∃ x:Els r,∃ cs,w.cells? 0 (a.add (i * P.cellsOf e)) (P.cellsOf e) = some cs ∧ RowRd w cs r x := fun i hi=>by
        obtain ⟨y,hy,hf⟩ := g2 i i (by simp [hi])
        obtain ⟨cs,h1,h2⟩ := Option.bind_eq_some_iff.1 hf
        obtain ⟨x,hx⟩ := ih e cs y.1 y.2 r h2 hrk fun z hz=>hwt z (weightsAll_mem (List.mem_map.2 ⟨y,List.mem_of_getElem? hy,rfl⟩) hz)
        exact ⟨x,cs,h1,hx⟩
       obtain ⟨l,hl,hq⟩ := exists_list len elt
       have hbound := hw ((elems.map (·.1)).length + (rest.map (·.1)).length |> (· * P.bytesOf e)) (by simp only [DataW.weights,hu,List.mem_cons]; exact .inl trivial)
       simp only [List.length_map,reachBytes,hlen] at hbound
       refine fin _ l (slice_row hc h0 hlc.2.1 l hl hq) rfl ?_ (fun x hx=>?_)
       ·rw [hl]
        refine Nat.le_trans (Nat.mul_le_mul_left _ hby) (Nat.le_trans (Nat.mul_le_mul_right _ (Nat.le_add_right _ _)) hbound)
       ·obtain ⟨i,hi⟩ := List.getElem?_of_mem hx
        obtain ⟨cs,_,hrd⟩ := hq i x hi
        exact hrd.ok
      ·cases h
    ·cases hr
  ·rename_i fs hu
   split at hr
   ·cases hr
   ·rename_i r hrk
    split at hr
    ·rename_i hcond
     cases hr
     have hcond := of_decide_eq_true hcond
     unfold DataW.trod at h; rw [hu] at h
     split at h <;> first | (cases h; done) | (rename_i heq; cases heq; done) | skip
     ·rename_i heq
      cases heq
      split at h
      ·rename_i hl
       obtain ⟨xs,hx,h⟩ := Option.map_eq_some_iff.1 h
       cases h
       obtain ⟨x,hrd⟩ := fields_row ih fs.toList 0 row xs hx hrk fun y hy=>hw y (by simp only [DataW.weights,hu]; exact hy)
       refine ⟨x,?_⟩
       rw [List.drop_zero,List.take_of_length_le (by omega)] at hrd
       exact hrd
      ·cases h
     ·exact (‹∀ fs':Array Field,some (TypeDesc.struct fs) = some (TypeDesc.struct fs') → False› fs rfl).elim
    ·cases hr
  ·rename_i m e hu
   split at hr
   ·cases hr
   ·rename_i r hrk
    split at hr
    ·rename_i hcond
     cases hr
     simp only [Bool.and_eq_true,decide_eq_true_eq] at hcond
     unfold DataW.trod at h; rw [hu] at h
     split at h <;> first | (cases h; done) | (rename_i heq; cases heq; done) | skip
     ·rename_i heq
      cases heq
      split at h
      ·rename_i hl
       obtain ⟨xs,hx,h⟩ := Option.map_eq_some_iff.1 h
       cases h
       obtain ⟨g1,g2⟩ := mapM_some hx
       have hwt:∀ x ∈ DataW.weightsAll P e (xs.map (·.1)),x ≤ reachBytes := fun x hx=>hw x (by simp only [DataW.weights,hu]; exact hx)
       obtain ⟨x,hrd⟩ := array_row (w := w) (cs := _) (r := r) (m := m) (fun i hi=>by
        obtain ⟨y,hy,hf⟩ := g2 i i (by simp [hi])
        rw [← hcond.1] at hf
        exact ih e _ y.1 y.2 r hf hrk fun z hz=>hwt z (weightsAll_mem (List.mem_map.2 ⟨y,List.mem_of_getElem? hy,rfl⟩) hz)) m (Nat.le_refl _)
       refine ⟨x,?_⟩
       rw [Nat.sub_self,Nat.zero_mul,List.drop_zero,List.take_of_length_le (by omega)] at hrd
       exact hrd
      ·cases h
     ·exact (‹∀ (n:Nat) (e':TypeId),some (TypeDesc.array m e) = some (TypeDesc.array n e') → False› m e rfl).elim
    ·cases hr
  ·cases hr
end Go.Sx
end
section
namespace Go.Sx
open Go
def ATy.ok:(a:ATy) → a.El → Prop
 | .val t=>t.ok
 | .agg row=>Els.ok row
def AEls.ok:(l:List ATy) → AEls l → Prop
 | []=>fun _=>True
 | [a]=>a.ok
 | a :: a' :: l=>fun x=>a.ok x.1 ∧ AEls.ok (a' :: l) x.2
def atyK (P:Program) (t:TypeId):Option ATy := match P.underlying t with
 | some (.struct _)=>match rowK P 12 t with
  | some r=>some (.agg r)
  | none=>none
 | some (.array _ _)=>match rowK P 12 t with
  | some r=>some (.agg r)
  | none=>none
 | some _=>match rowK P 12 t with
  | some [ty]=>some (.val ty)
  | _=>none
 | none=>none
def atysK (P:Program):List TypeId → Option (List ATy)
 | []=>some []
 | t :: ts=>match atyK P t with
  | none=>none
  | some a=>match atysK P ts with
   | none=>none
   | some l=>some (a :: l)
theorem agg_rep {w:World} {cs:List Value} {row:List Ty} {x:Els row} (h:RowRd w cs row x):SRep (immOf w) noEnv (.agg cs.toArray) (SV.mkAgg ((rowPV row x).map .pv)) := by
 refine SRep.mkAgg (by rw [h.len,List.length_map,rowPV_length]) fun i v y hv hy=>?_
 simp only [List.getElem?_map,Option.map_eq_some_iff] at hy
 obtain ⟨p,hp,rfl⟩ := hy
 exact .pv (h.rep i v p hv hp)
section
variable {H:Type} {enc:TypeId × Value → H} {P:Program} {w:World} {sp:Nat → Bool} {held:Bool} {r:Reach} {b0:Nat}
theorem arg_single {t:TypeId} {v:Value} {u:TypeDesc} (hu:P.underlying t = some u) (hs:u = .bool ∨ (∃ k,u = .int k) ∨ u = .string ∨ ∃ e,u = .slice e) (hval:Value.okWide P w r b0 t v):v.cells.toList = [v] := by
 cases v with
 | agg cs=>rcases hs with rfl | ⟨k,rfl⟩ | rfl | ⟨e,rfl⟩ <;> simp [Value.okWide,Cell.okWide,Cell.ok,hu] at hval
 | _=>rfl
theorem arg_row {t:TypeId} {a:ATy} {v:Value} {d:DataW H} {ps:List MemPlace} (hk:atyK P t = some a) (hval:Value.okWide P w r b0 t v) (hd:DataW.Trod enc P w 0 sp held t v d ps) (hw:∀ x ∈ d.weights P t,x ≤ reachBytes) :
  ∃ x:a.El,SRep (immOf w) noEnv v (a.sv x) ∧ a.ok x := by
 obtain ⟨fuel,hf⟩ := hd
 unfold atyK at hk
 split at hk
 ·rename_i fs hu
  split at hk
  ·rename_i row hrow
   cases hk
   obtain ⟨x,hx⟩ := trod_row fuel 12 t _ d ps row hf hrow hw
   obtain ⟨cs,rfl,hsz⟩:∃ cs,v = .agg cs ∧ cs.size = P.cellsOf t := by
    simp only [Value.okWide,hu] at hval
    obtain ⟨cs,h1,h2,_⟩ := hval
    exact ⟨cs,h1,h2⟩
   have := agg_rep hx
   simp only [Value.cells,Array.toArray_toList] at this
   exact ⟨x,this,hx.ok⟩
  ·cases hk
 ·rename_i m e hu
  split at hk
  ·rename_i row hrow
   cases hk
   obtain ⟨x,hx⟩ := trod_row fuel 12 t _ d ps row hf hrow hw
   obtain ⟨cs,rfl,hsz⟩:∃ cs,v = .agg cs ∧ cs.size = P.cellsOf t := by
    simp only [Value.okWide,hu] at hval
    obtain ⟨cs,h1,h2,_⟩ := hval
    exact ⟨cs,h1,h2⟩
   have := agg_rep hx
   simp only [Value.cells,Array.toArray_toList] at this
   exact ⟨x,this,hx.ok⟩
  ·cases hk
 ·rename_i u h1 h2 hu
  split at hk
  ·rename_i ty hrow
   cases hk
   obtain ⟨x,hx⟩ := trod_row fuel 12 t _ d ps [ty] hf hrow hw
   have hs:u = .bool ∨ (∃ k,u = .int k) ∨ u = .string ∨ ∃ e,u = .slice e := by
    unfold rowK at hrow
    rw [hu] at hrow
    cases u with
    | bool=>exact .inl rfl
    | int k=>exact .inr (.inl ⟨k,rfl⟩)
    | string=>exact .inr (.inr (.inl rfl))
    | slice e=>exact .inr (.inr (.inr ⟨e,rfl⟩))
    | struct fs=>exact (h1 fs rfl).elim
    | array m e=>exact (h2 m e rfl).elim
    | _=>simp at hrow
   rw [arg_single hu hs hval] at hx
   exact ⟨x,.pv (hx.rep 0 v _ rfl rfl),hx.ok⟩
  ·cases hk
 ·cases hk
theorem args_rows:∀ {ts:List TypeId} {vs:List Value} {ds:List (DataW H)} {ps:List MemPlace} {ats:List ATy},DataW.TrodAll enc P w 0 sp held ts vs ds ps → atysK P ts = some ats →
  (∀ (j:Nat) t v,ts[j]? = some t → vs[j]? = some v → Value.okWide P w r b0 t v) → (∀ x ∈ DataW.weightsEach P ts ds,x ≤ reachBytes) → ∃ a:AEls ats,Reps (immOf w) noEnv vs (svs ats a) ∧ AEls.ok ats a
 | [],vs,ds,ps,ats,h,hk,hval,hw=>by
  simp only [atysK,Option.some.injEq] at hk
  subst hk
  cases vs <;> cases ds <;> simp [DataW.TrodAll] at h
  exact ⟨(),⟨rfl,fun i v x hv=>by simp at hv⟩,trivial⟩
 | t :: ts,vs,ds,ps,ats,h,hk,hval,hw=>by
  obtain ⟨v,vs',d,ds',p,q,rfl,rfl,rfl,h1,h2⟩ := ChangeShapes.trodAll_cons h
  simp only [atysK] at hk
  split at hk
  ·cases hk
  ·rename_i a ha
   split at hk
   ·cases hk
   ·rename_i l hl
    cases hk
    simp only [DataW.weightsEach,List.mem_append] at hw
    obtain ⟨x,hx,hxo⟩ := arg_row ha (hval 0 t v rfl rfl) h1 fun y hy=>hw y (.inl hy)
    obtain ⟨y,hy,hyo⟩ := args_rows h2 hl (fun j t' v' h1 h2=>hval (j + 1) t' v' (by simpa using h1) (by simpa using h2)) fun y hy=>hw y (.inr hy)
    have cons:∀ (i:Nat) (u:Value) (z:SV) (zs:List SV),zs = svs l y → (v :: vs')[i]? = some u → (a.sv x :: zs)[i]? = some z → SRep (immOf w) noEnv u z := fun i u z zs e hu hz=>by
     subst e
     cases i with
     | zero=>simp at hu hz; subst hu; subst hz; exact hx
     | succ i=>exact hy.2 i u z (by simpa using hu) (by simpa using hz)
    have hlen:vs'.length = (svs l y).length := hy.1
    match l,y,hyo,cons,hlen with
    | [],y,hyo,cons,hlen=>exact ⟨x,⟨by simpa [svs] using hlen,fun i u z hu hz=>cons i u z _ rfl hu hz⟩,hxo⟩
    | b :: l,y,hyo,cons,hlen=>exact ⟨(x,y),⟨by simp [svs,hlen],fun i u z hu hz=>cons i u z _ rfl hu hz⟩,⟨hxo,hyo⟩⟩
end
end Go.Sx
end
section
namespace Go.Sx
open Go Go.ChangeShapes Go.WideShapes Go.RowKit
section
variable {H:Type} {enc:TypeId × Value → H} {P:Program}
theorem trodAll_stays (hl:laidOutB P = true) {W W':World} {sp:Nat → Bool}:∀ {ts:List TypeId} {vs:List Value} {ds:List (DataW H)} {ps:List MemPlace},
  (ts.all fun t=>P.readableRec t && decide (t < P.types.size)) = true → DataW.TrodAll enc P W 0 (fun _=>true) true ts vs ds ps → (∀ p ∈ ps,W.sameAt W' p) → (∀ p ∈ ps,sp p.block = true) → DataW.TrodAll enc P W' 0 sp true ts vs ds ps
 | [],vs,ds,ps,_,h,_,_=>by
  cases vs <;> cases ds <;> simp [DataW.TrodAll] at h ⊢
  exact h
 | t :: ts,vs,ds,ps,ht,h,hs,hb=>by
  obtain ⟨v,vs',d,ds',p,q,rfl,rfl,rfl,h1,h2⟩ := trodAll_cons h
  simp only [List.all_cons,Bool.and_eq_true,decide_eq_true_eq] at ht
  exact ⟨p,q,WideElems.Trod_stays hl ht.1.1 ht.1.2 h1 (fun x hx=>hs x (List.mem_append_left _ hx)) (fun x hx=>hb x (List.mem_append_left _ hx)),
   trodAll_stays hl ht.2 h2 (fun x hx=>hs x (List.mem_append_right _ hx)) (fun x hx=>hb x (List.mem_append_right _ hx)),rfl⟩
theorem trodAll_len {W:World} {b:Nat} {sp:Nat → Bool} {hd:Bool}:∀ {ts:List TypeId} {vs:List Value} {ds:List (DataW H)} {ps:List MemPlace},DataW.TrodAll enc P W b sp hd ts vs ds ps → ds.length = ts.length
 | [],vs,ds,ps,h=>by cases vs <;> cases ds <;> simp [DataW.TrodAll] at h ⊢
 | t :: ts,vs,ds,ps,h=>by
  obtain ⟨v,vs',d,ds',p,q,rfl,rfl,rfl,h1,h2⟩ := trodAll_cons h
  simp [trodAll_len h2]
theorem law_calls {cx:Cx} {f:FuncId} {fn:Func} {s:ChangeSpec} {ats:List ATy} {c:Nat → AEls ats → Option Bool} {tb:TypeId}
  (hl:laidOutB cx.P = true) (hps:(fn.params.toList.all fun t=>cx.P.readableRec t && decide (t < cx.P.types.size)) = true) (hk:atysK cx.P fn.params.toList = some ats)
  (hres:fn.resultTypes = #[tb]) (htb:cx.P.underlying tb = some .bool) (hvars:s.vars = []) (hspec:∀ ds:List (DataW H),ds.length = fn.params.toList.length → s.fn H ds = { results := [.lit (.bool true)],args := ds })
  (hpc:∀ F,PCOk cx f ⟨ats,[.val .bool],c F⟩) (law:∀ a,AEls.ok ats a → ∃ F,c F a = some true)
  {W:World} {base:Nat} {args:Array Value} {ds gs:List (DataW H)} {before:List MemPlace} {hn:Bool}
  (hval:∀ (j:Nat) t v,fn.params[j]? = some t → args[j]? = some v → Value.okWide cx.P W .any base t v)
  (hW:DataW.Whole enc cx.P fn.params.toList s.vars false W args.toList ds gs before)
  (hwt:(DataW.weightsEach cx.P (fn.params.toList ++ s.plain.varTypes cx.P) (ds ++ gs)).all (· ≤ reachBytes) = true) :
  Calls cx.P f args W fun e W'=>∃ v,e = .returned v ∧ s.post enc cx.P fn false true hn false W args v W' := by
 have hW' := hW
 obtain ⟨p,q,hA,hV,rfl,hfz,hnd⟩ := hW
 rw [hvars] at hV
 obtain ⟨rfl,rfl⟩:gs = [] ∧ q = [] := by
  cases gs with
  | nil=>exact ⟨rfl,hV⟩
  | cons g r=>exact absurd hV (by intro h; cases h)
 have hlen := trodAll_len hA
 have hw:∀ x ∈ DataW.weightsEach cx.P fn.params.toList ds,x ≤ reachBytes := by
  have happ:∀ (ts:List TypeId) (ds:List (DataW H)) (us:List TypeId),ds.length = ts.length → DataW.weightsEach cx.P (ts ++ us) ds = DataW.weightsEach cx.P ts ds := by
   intro ts
   induction ts with
   | nil=>intro ds us h; cases ds with
    | nil=>cases us <;> rfl
    | cons _ _=>simp at h
   | cons t ts ih=>intro ds us h; cases ds with
    | nil=>simp at h
    | cons d ds=>simp only [List.cons_append,DataW.weightsEach]; rw [ih ds us (by simpa using h)]
  rw [List.append_nil,happ _ _ _ hlen] at hwt
  intro x hx
  have := List.all_eq_true.1 hwt x hx
  simpa using this
 obtain ⟨a,hr,ho⟩ := args_rows hA hk (fun j t v h1 h2=>hval j t v (by simpa using h1) (by simpa using h2)) hw
 obtain ⟨F,hF⟩ := law a ho
 have hcall := (hpc F).ok a true hF (immOf W) noEnv W args.toList (mem_none fun b o h=>h) hr
 rw [Array.toArray_toList] at hcall
 refine (callsIn_wide.1 hcall).mono fun e W' ⟨v,r,H',M',ρ',tch,fg,he,⟨hr',_⟩,hx,hm,hf⟩=>?_
 subst hr'
 have hv:v = .bool true := SRep.lit_eq (show SRep M' ρ' v (.pv (.lit (.bool true))) from hx)
 subst hv
 have hsame:∀ b,b < W.heap.size → W'.heap[b]? = W.heap[b]? := fun b hb=>hf.same b hb not_owned_none
 refine ⟨_,he,ds,[],p ++ [],[],p,[],hW',?_,?_,?_,?_,fun h=>by cases h⟩
 ·rw [List.append_nil,hspec ds hlen,hres]
  exact trodAll_mk1 (shut_bool htb true)
 ·rw [List.append_nil,hspec ds hlen]
  refine trodAll_stays hl hps hA (fun x hx=>?_) (fun x hx=>?_)
  ·have hlt := hW'.lt x (by simpa using hx)
   cases x with
   | cell b off=>simp only [World.sameAt,World.cell?]; rw [hsame b hlt]
   | map b=>exact hsame b hlt
  ·exact decide_eq_true (hW'.lt x (by simpa using hx))
 ·rw [List.append_nil,hspec ds hlen,hvars]; rfl
 ·refine ⟨hf.io.1,hf.io.2,fun i hi=>?_⟩
  rw [hsame i hi]
  split
  ·rename_i h1 h2
   rw [h1] at h2; cases h2
   exact ⟨rfl,rfl,rfl,fun _ _=>rfl⟩
  ·rename_i h1 h2
   rw [h1] at h2; cases h2
   exact .inr ⟨rfl,rfl⟩
  ·rfl
end
end Go.Sx
end
namespace Go.Sx
open Go
theorem gd_true {X:Type} (x:Option X):gd true x = x := rfl
theorem gd_of {X:Type} {c:Bool} {x:Option X} (h:c = true):gd c x = x := by rw [h]; rfl
theorem gd_dec {X:Type} {p:Prop} [Decidable p] {x:Option X} (h:p):gd (decide p) x = x := gd_of (decide_eq_true h)
theorem loopO_ex {σ β:Type} {step:σ → Option (σ ⊕ β)} (Inv:σ → Prop) (m:σ → Nat) (Post:β → Prop)
  (h:∀ x,Inv x → (∃ y,step x = some (.inl y) ∧ Inv y ∧ m y < m x) ∨ ∃ b,step x = some (.inr b) ∧ Post b):∀ (F:Nat) (x:σ),Inv x → m x < F → ∃ b,loopO step F x = some b ∧ Post b
 | 0,x,_,hF=>by omega
 | F + 1,x,hx,hF=>by
  rcases h x hx with ⟨y,h1,h2,h3⟩ | ⟨b,h1,h2⟩
  ·simp only [loopO,h1]
   exact loopO_ex Inv m Post h F y h2 (by omega)
  ·simp only [loopO,h1]
   exact ⟨b,rfl,h2⟩
def goL {α S β:Type} (body:α → S → S ⊕ β) (fin:S → β):List α → S → β
 | [],s=>fin s
 | x :: l,s=>match body x s with
  | .inl s'=>goL body fin l s'
  | .inr b=>b
theorem goL_nil {α S β:Type} (body:α → S → S ⊕ β) (fin:S → β) (s:S):goL body fin [] s = fin s := rfl
theorem goL_cons {α S β:Type} (body:α → S → S ⊕ β) (fin:S → β) (x:α) (l:List α) (s:S):goL body fin (x :: l) s = match body x s with
  | .inl s'=>goL body fin l s'
  | .inr b=>b := rfl
def RelS {S σ β β':Type} (R:S → σ → Prop) (Q:β' → β → Prop):S ⊕ β' → σ ⊕ β → Prop
 | .inl s,.inl t=>R s t
 | .inr b,.inr b'=>Q b b'
 | _,_=>False
theorem loopO_sim {α S σ β β':Type} {step:σ → Option (σ ⊕ β)} (l:List α) (body:α → S → S ⊕ β') (fin:S → β') (R:Nat → S → σ → Prop) (Q:β' → β → Prop)
  (hstep:∀ i x s t,i < l.length → l[i]? = some x → R i s t → ∃ r,step t = some r ∧ RelS (R (i + 1)) Q (body x s) r)
  (hend:∀ s t,R l.length s t → ∃ b',step t = some (.inr b') ∧ Q (fin s) b') :
  ∀ (F i:Nat) (s:S) (t:σ),i ≤ l.length → R i s t → l.length - i < F → ∃ b',loopO step F t = some b' ∧ Q (goL body fin (l.drop i) s) b'
 | 0,i,s,t,hi,hR,hF=>by omega
 | F + 1,i,s,t,hi,hR,hF=>by
  by_cases h:i < l.length
  ·obtain ⟨r,h1,h2⟩ := hstep i l[i] s t h (List.getElem?_eq_getElem h) hR
   rw [List.drop_eq_getElem_cons h,goL_cons]
   cases hb:body l[i] s with
   | inl s' =>
    rw [hb] at h2
    cases r with
    | inl t' =>
     simp only [loopO,h1]
     exact loopO_sim l body fin R Q hstep hend F (i + 1) s' t' h h2 (by omega)
    | inr b'=>exact h2.elim
   | inr b =>
    rw [hb] at h2
    cases r with
    | inl t'=>exact h2.elim
    | inr b' =>
     simp only [loopO,h1]
     exact ⟨b',rfl,h2⟩
  ·obtain rfl:i = l.length := by omega
   rw [List.drop_length,goL_nil]
   obtain ⟨b',ht,hQ⟩ := hend s t hR
   simp only [loopO,ht]
   exact ⟨b',rfl,hQ⟩
theorem bind_sim {α S σ β β' γ:Type} {step:σ → Option (σ ⊕ β)} {F:Nat} {t:σ} {k:β → Option γ} {P:γ → Prop} (l:List α) (body:α → S → S ⊕ β') (fin:S → β') (R:Nat → S → σ → Prop) (Q:β' → β → Prop) (s:S)
  (hF:l.length < F) (h0:R 0 s t)
  (hstep:∀ i x s t,i < l.length → l[i]? = some x → R i s t → ∃ r,step t = some r ∧ RelS (R (i + 1)) Q (body x s) r)
  (hend:∀ s t,R l.length s t → ∃ b',step t = some (.inr b') ∧ Q (fin s) b')
  (hk:∀ b',Q (goL body fin l s) b' → ∃ r,k b' = some r ∧ P r):∃ r,Option.bind (loopO step F t) k = some r ∧ P r := by
 obtain ⟨b',h1,h2⟩ := loopO_sim l body fin R Q hstep hend F 0 s t (Nat.zero_le _) h0 (by omega)
 rw [h1]
 exact hk b' h2
theorem ex_eq {γ:Type} {o:Option γ} {r:γ} (h:∃ x,o = some x ∧ x = r):o = some r := by
 obtain ⟨x,h1,h2⟩ := h
 rw [h1,h2]
theorem loopO_list {α S σ β:Type} {step:σ → Option (σ ⊕ β)} (l:List α) (enc:S → Nat → σ) (body:α → S → S ⊕ β) (fin:S → β) (I:Nat → S → Prop)
  (hstep:∀ i x s,i < l.length → l[i]? = some x → I i s → step (enc s i) = some (match body x s with | .inl s'=>.inl (enc s' (i + 1)) | .inr b=>.inr b) ∧ ∀ s',body x s = .inl s' → I (i + 1) s')
  (hend:∀ s,I l.length s → step (enc s l.length) = some (.inr (fin s))) {F:Nat} {s:S} {t:σ} (ht:t = enc s 0) (hI:I 0 s) (hF:l.length < F):loopO step F t = some (goL body fin l s) := by
 obtain ⟨b,h1,h2⟩ := loopO_sim (step := step) l body fin (fun i s t=>t = enc s i ∧ I i s) (fun a b=>a = b)
  (fun i x s t hi hx ⟨e,h⟩=>by
   obtain ⟨h1,h2⟩ := hstep i x s hi hx h
   subst e
   refine ⟨_,h1,?_⟩
   cases hb:body x s with
   | inl s'=>exact ⟨rfl,h2 s' hb⟩
   | inr b=>exact rfl)
  (fun s t ⟨e,h⟩=>by
   subst e
   exact ⟨_,hend s h,rfl⟩) F 0 s t (Nat.zero_le _) ⟨ht,hI⟩ (by omega)
 rw [h1,← h2]
 rfl
theorem bind_list {α S σ β γ:Type} {step:σ → Option (σ ⊕ β)} {F:Nat} {t:σ} {k:β → Option γ} {r:Option γ} (l:List α) (enc:S → Nat → σ) (body:α → S → S ⊕ β) (fin:S → β) (I:Nat → S → Prop) (s:S)
  (hF:l.length < F) (ht:t = enc s 0) (hI:I 0 s)
  (hstep:∀ i x s,i < l.length → l[i]? = some x → I i s → step (enc s i) = some (match body x s with | .inl s'=>.inl (enc s' (i + 1)) | .inr b=>.inr b) ∧ ∀ s',body x s = .inl s' → I (i + 1) s')
  (hend:∀ s,I l.length s → step (enc s l.length) = some (.inr (fin s)))
  (hk:k (goL body fin l s) = r):Option.bind (loopO step F t) k = r := by
 rw [loopO_list l enc body fin I hstep hend ht hI hF]
 exact hk
theorem goL_any {α β:Type} (p:α → Bool) (b1 b2:β):∀ (l:List α),goL (fun x (_:Unit)=>if p x = true then .inr b1 else .inl ()) (fun _=>b2) l () = if l.any p = true then b1 else b2
 | []=>rfl
 | x :: l=>by
  rw [goL_cons,List.any_cons]
  cases h:p x with
  | true=>simp
  | false=>simpa using goL_any p b1 b2 l
theorem goL_append {α γ β:Type} (f:α → γ) (fin:List γ → β):∀ (l:List α) (out:List γ),goL (fun x out=>.inl (out ++ [f x])) fin l out = fin (out ++ l.map f)
 | [],out=>by simp [goL_nil]
 | x :: l,out=>by rw [goL_cons]; simp [goL_append f fin l]
theorem cd_pos {X:Type} {p:Prop} [Decidable p] {a b:X} (h:p):cond (decide p) a b = a := by simp [h]
theorem cd_neg {X:Type} {p:Prop} [Decidable p] {a b:X} (h:¬ p):cond (decide p) a b = b := by simp [h]
theorem getD_some {α:Type} {l:List α} {i:Nat} {x d:α} (h:l[i]? = some x):l.getD i d = x := by rw [List.getD_eq_getElem?_getD,h]; rfl
def AllS {β:Type} (good:Prop) (Q:β → Prop) (i:Nat) (r:Int ⊕ β):Prop := (r = .inl ((i:Int) + 1) ∧ good) ∨ ∃ b,r = .inr b ∧ Q b
theorem bind_all {α β γ:Type} {step:Int → Option (Int ⊕ β)} {F:Nat} {k:β → Option γ} {P:γ → Prop} (l:List α) (good:α → Prop) (Q:β → Prop) (hF:l.length < F)
  (hstep:∀ (i:Nat) x,i < l.length → l[i]? = some x → ∃ r,step (i:Int) = some r ∧ AllS (good x) Q i r)
  (hend:(∀ x ∈ l,good x) → ∃ b,step (l.length:Int) = some (.inr b) ∧ Q b)
  (hk:∀ b,Q b → ∃ r,k b = some r ∧ P r):∃ r,Option.bind (loopO step F 0) k = some r ∧ P r := by
 obtain ⟨b,h1,h2⟩ := loopO_ex (step := step) (fun v:Int=>0 ≤ v ∧ v ≤ l.length ∧ ∀ x ∈ l.take v.toNat,good x) (fun v=>l.length - v.toNat) Q (by
  intro v ⟨h0,h1,h2⟩
  by_cases hv:v < l.length
  ·have hk:v.toNat < l.length := by omega
   have hx := List.getElem?_eq_getElem hk
   have ev:((v.toNat:Nat):Int) = v := by omega
   obtain ⟨r,hs,hr⟩ := hstep v.toNat _ hk hx
   rw [ev] at hs
   rcases hr with ⟨rfl,hg⟩ | ⟨b,rfl,hb⟩
   ·left
    rw [ev] at hs
    refine ⟨v + 1,hs,⟨by omega,by omega,?_⟩,by omega⟩
    rw [show (v + 1).toNat = v.toNat + 1 by omega,List.take_add_one,hx]
    intro y hy
    rcases List.mem_append.1 hy with hy | hy
    ·exact h2 y hy
    ·obtain rfl := List.mem_singleton.1 hy
     exact hg
   ·exact .inr ⟨b,hs,hb⟩
  ·have ev:v = l.length := by omega
   subst ev
   right
   refine hend ?_
   simpa using h2) F 0 ⟨by omega,by omega,by simp⟩ (by simpa using hF)
 rw [h1]
 exact hk b h2
theorem goL_find {α β:Type} (p:α → Bool) (val:Nat → β) (nil:β):∀ (l:List α) (k:Nat),goL (fun x (s:Nat)=>if p x = true then .inr (val s) else .inl (s + 1)) (fun _=>nil) l k = match l.findIdx? p with
  | some i=>val (k + i)
  | none=>nil
 | [],k=>rfl
 | x :: l,k=>by
  rw [goL_cons,List.findIdx?_cons]
  by_cases h:p x = true
  ·simp [h]
  ·simp only [h,Bool.false_eq_true,if_false]
   rw [goL_find p val nil l (k + 1)]
   cases l.findIdx? p with
   | none=>rfl
   | some i=>simp only [Option.map_some]; rw [Nat.add_assoc,Nat.add_comm 1 i]
theorem bind_find {α β γ:Type} {step:Int → Option (Int ⊕ β)} {F:Nat} {k:β → Option γ} {r:Option γ} (l:List α) (p:α → Bool) (val:Nat → β) (nil:β) (hF:l.length < F)
  (hstep:∀ (i:Nat) x,i < l.length → l[i]? = some x → step (i:Int) = some (if p x = true then .inr (val i) else .inl ((i:Int) + 1)))
  (hend:step (l.length:Int) = some (.inr nil))
  (hk:k (match l.findIdx? p with | some i=>val i | none=>nil) = r):Option.bind (loopO step F 0) k = r := by
 refine bind_list l (fun (_:Nat) i=>(i:Int)) (fun x (s:Nat)=>if p x = true then .inr (val s) else .inl (s + 1)) (fun _=>nil) (fun i s=>s = i) 0 hF rfl rfl ?_ ?_ ?_
 ·intro i x s hi hx hs
  subst hs
  rw [hstep s x hi hx]
  by_cases h:p x = true
  ·simp [h]
  ·simp [h]
 ·intro s hs
  exact hend
 ·rw [goL_find p val nil l 0]
  rw [← hk]
  cases l.findIdx? p with
  | none=>rfl
  | some i=>simp
def EqIff {K:Type} (eq:K → K → Bool):Prop := ∀ a b,eq a b = true ↔ a = b
theorem strEq_iff:EqIff strEq := fun a b=>by simp [strEq]
theorem byteI (x:UInt8):((BitVec.toFin (UInt8.toBitVec x)).1:Int) = (x.toNat:Int) := rfl
theorem dec_lo {s:ByteArray} {i:Nat} (h:(s.get! i).toNat < 128):Go.Utf8.decode s i = ((s.get! i).toNat,1) := by
 simp only [Go.Utf8.decode,Nat.add_zero]
 rw [if_pos h]
theorem dec_hi {s:ByteArray} {i:Nat} (h:¬ (s.get! i).toNat < 128):128 ≤ (Go.Utf8.decode s i).1 := by
 simp only [Go.Utf8.decode,Nat.add_zero,Go.Utf8.runeError]
 rw [if_neg h]
 repeat' split
 all_goals simp only [Bool.and_eq_true,decide_eq_true_eq,ge_iff_le] at *
 all_goals omega
theorem strEq_true {a b:ByteArray}:strEq a b = true ↔ a = b := strEq_iff a b
theorem strEq_false {a b:ByteArray} (h:a ≠ b):strEq a b = false := by
 cases e:strEq a b with
 | false=>rfl
 | true=>exact absurd (strEq_true.1 e) h
theorem strEq_self (a:ByteArray):strEq a a = true := strEq_true.2 rfl
theorem strEq_dec (a b:ByteArray):strEq a b = decide (a = b) := by
 by_cases h:a = b
 ·subst h; simp [strEq_self]
 ·simp [h,strEq_false h]
def EqRf {α:Type} (f:α → α → Bool):Prop := ∀ x,f x x = true
theorem listEq_rf {α:Type} {f:α → α → Bool} (hf:EqRf f):EqRf (listEq f)
 | []=>rfl
 | x :: l=>by simp only [listEq,hf x]; exact listEq_rf hf l
theorem pairEq_rf {α β:Type} {f:α → α → Bool} {g:β → β → Bool} (hf:EqRf f) (hg:EqRf g):EqRf (pairEq f g) := fun x=>by
 simp only [pairEq,hf x.1,hg x.2]
theorem sumEq_rf {α β:Type} {f:α → α → Bool} {g:β → β → Bool} (hf:EqRf f) (hg:EqRf g):EqRf (sumEq f g) := fun x=>by
 cases x with
 | inl a=>exact hf a
 | inr b=>exact hg b
theorem boolEq_rf:EqRf boolEq := fun x=>by cases x <;> rfl
theorem intEq_rf:EqRf intEq := fun x=>by simp [intEq]
theorem strEq_rf:EqRf strEq := fun x=>by simp [strEq]
theorem natEq_rf:EqRf natEq := fun x=>by simp [natEq]
theorem eqv_rf:∀ (n:Nat),(∀ (t:Ty),SizeOf.sizeOf t ≤ n → EqRf t.eqv) ∧ (∀ (ts:List Ty),SizeOf.sizeOf ts ≤ n → EqRf (Els.eqv ts)) := by
 intro n
 induction n with
 | zero=>exact ⟨fun t ht=>by (cases t <;> simp at ht),fun ts ht=>by (cases ts <;> simp at ht)⟩
 | succ n ih =>
  obtain ⟨ih1,ih2⟩ := ih
  refine ⟨fun t ht=>?_,fun ts ht=>?_⟩
  ·match t,ht with
   | .int k,ht=>exact intEq_rf
   | .bool,ht=>exact boolEq_rf
   | .str,ht=>exact strEq_rf
   | .seq row,ht=>exact listEq_rf (ih2 row (by simp at ht; omega))
  ·match ts,ht with
   | [],ht=>exact fun a=>rfl
   | [t],ht=>exact ih1 t (by simp at ht; omega)
   | t :: t' :: ts,ht=>exact pairEq_rf (ih1 t (by simp at ht; omega)) (ih2 (t' :: ts) (by simp at ht ⊢; omega))
theorem Ty.eqv_rf (t:Ty):EqRf t.eqv := (Sx.eqv_rf _).1 t (Nat.le_refl _)
theorem Els.eqv_rf (ts:List Ty):EqRf (Els.eqv ts) := (Sx.eqv_rf _).2 ts (Nat.le_refl _)
theorem ATy.eqv_rf:∀ (a:ATy),EqRf a.eqv
 | .val t=>Ty.eqv_rf t
 | .agg row=>Els.eqv_rf row
theorem AEls.eqv_rf:∀ (l:List ATy),EqRf (AEls.eqv l)
 | []=>fun a=>rfl
 | [a]=>ATy.eqv_rf a
 | a :: a' :: l=>pairEq_rf (ATy.eqv_rf a) (AEls.eqv_rf (a' :: l))
theorem PEls.eqv_rf:∀ (l:PL),EqRf (PEls.eqv l)
 | []=>fun a=>rfl
 | [p]=>ATy.eqv_rf p.2
 | p :: p' :: l=>pairEq_rf (ATy.eqv_rf p.2) (PEls.eqv_rf (p' :: l))
theorem Cel.eqv_rf:∀ (c:Cel),EqRf c.eqv
 | .slot _ a=>ATy.eqv_rf a
 | .vec _ _ row=>listEq_rf (Els.eqv_rf row)
 | .one _ _ row=>Els.eqv_rf row
 | .mix _ _ _ dat _=>PEls.eqv_rf dat
 | .map _ k v=>listEq_rf (pairEq_rf (ATy.eqv_rf k) (ATy.eqv_rf v))
 | .iter _=>pairEq_rf strEq_rf natEq_rf
 | .over _ _=>fun a=>rfl
 | .nest _ _ _ row=>listEq_rf (listEq_rf (Els.eqv_rf row))
 | .fix _ _ _=>fun a=>rfl
theorem CEls.eqv_rf:∀ (l:List Cel),EqRf (CEls.eqv l)
 | []=>fun a=>rfl
 | [c]=>Cel.eqv_rf c
 | c :: c' :: l=>pairEq_rf (Cel.eqv_rf c) (CEls.eqv_rf (c' :: l))
theorem AltsEl.eqv_rf:∀ (l:Alts),EqRf (AltsEl.eqv l)
 | []=>fun a=>by cases a
 | [a]=>CEls.eqv_rf _
 | a :: a' :: l=>sumEq_rf (CEls.eqv_rf _) (AltsEl.eqv_rf (a' :: l))
def annEnd (e:Ann):Code → Ann
 | .seq a b=>.two (annEnd e a) (annEnd e b)
 | .cond _ a b=>.two (annEnd e a) (annEnd e b)
 | .block _ c=>.one (annEnd e c)
 | .loop c=>.one (annEnd e c)
 | .scope c=>.one (annEnd e c)
 | .ret=>e
 | _=>.leaf
def annRet (slot:Nat):Code → Ann
 | .seq a b=>.two (annRet slot a) (annRet slot b)
 | .cond _ a b=>.two (annRet slot a) (annRet slot b)
 | .block _ c=>.one (annRet slot c)
 | .loop c=>.one (annRet slot c)
 | .scope c=>.one (annRet slot c)
 | .ret=>.unslb slot .leaf
 | _=>.leaf
def annDel:Code → Ann
 | .seq _ (.seq _ r)=>.two .leaf (.two .leaf (.slb 0 (annRet 6 r)))
 | _=>.leaf
theorem PFOk.bare {cx:Cx} {g:Nat} {pf:PF} (h:PFOk cx g pf):PFOk cx.bare g pf := ⟨h.fn,h.ok⟩
theorem PCOk.at2 {cx:Cx} {g:Nat} {pc:PC} (h:PCOk cx g pc) {a0:AEls pc.ats} {y0:AEls pc.rts} (h0:PCOk cx g { ats := pc.ats,rts := pc.rts,code := Go.Sx.one a0 y0 }):PCOk cx g (pc.at a0 y0) :=
 ⟨h.fn,fun a y hy=>by
  have hy:(bif AEls.eqv pc.ats a a0 then some y0 else pc.code a) = some y := hy
  cases e:AEls.eqv pc.ats a a0 with
  | true =>
   rw [e] at hy
   exact h0.ok a y (by show (bif AEls.eqv pc.ats a a0 then some y0 else none) = some y; rw [e]; exact hy)
  | false =>
   rw [e] at hy
   exact h.ok a y hy⟩
end Go.Sx
