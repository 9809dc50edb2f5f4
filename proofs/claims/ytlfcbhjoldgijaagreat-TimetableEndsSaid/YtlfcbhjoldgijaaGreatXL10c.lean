/- Plain law: the load of an area fits between its first beginning and the end. Plain law: the sort that is lent a table is the sort. And further parts. -/
import Derived.Test.YtlfcbhjoldgijaaGreatXTtM
import Derived.Test.YtlfcbhjoldgijaaGreatXTtSor
import Derived.Test.YtlfcbhjoldgijaaGreatXTtR2
set_option maxRecDepth 100000
set_option linter.unusedVariables false
set_option linter.unusedSimpArgs false
namespace Go.Proofs.Tryz
open Go Go.Sx
def sumI:List Int → Int
 | []=>0
 | x :: l=>x + sumI l
theorem sumI_perm {l m:List Int} (h:l.Perm m):sumI l = sumI m := by
 induction h with
 | nil=>rfl
 | cons x _ ih=>simp only [sumI,ih]
 | swap x y l=>simp only [sumI]; omega
 | trans _ _ h1 h2=>exact h1.trans h2
abbrev Spn := Int × Int
def ApartP (x y:Spn):Prop := x.1 + x.2 ≤ y.1 ∨ y.1 + y.2 ≤ x.1
theorem span_asc {hi:Int}:∀ (l:List Spn) (lo:Int),l ≠ [] → l.Pairwise (fun x y=>x.1 ≤ y.1) → l.Pairwise ApartP → (∀ x ∈ l,1 ≤ x.2 ∧ lo ≤ x.1 ∧ x.1 + x.2 ≤ hi) → lo + sumI (l.map (·.2)) ≤ hi
 | [],_,h,_,_,_=>absurd rfl h
 | x :: l,lo,_,hs,ha,hb=>by
  have hx := hb x (List.mem_cons_self ..)
  have hs' := List.pairwise_cons.1 hs
  have ha' := List.pairwise_cons.1 ha
  cases hl:l with
  | nil=>simp only [List.map_cons,List.map_nil,sumI]; omega
  | cons y l' =>
   rw [← hl]
   have hb':lo + x.2 ≤ x.1 + x.2 := by omega
   have := span_asc (hi := hi) l (x.1 + x.2) (by rw [hl]; simp) hs'.2 ha'.2 fun z hz=>by
    have h1 := hb z (List.mem_cons_of_mem _ hz)
    have h2 := hs'.1 z hz
    have h3 := ha'.1 z hz
    unfold ApartP at h3
    omega
   simp only [List.map_cons,sumI]
   have h9 := hx.2.1
   generalize sumI (l.map (·.2)) = S at this ⊢
   omega
theorem span_sum {lo hi:Int} {l:List Spn} (hne:l ≠ []) (ha:l.Pairwise ApartP) (hb:∀ x ∈ l,1 ≤ x.2 ∧ lo ≤ x.1 ∧ x.1 + x.2 ≤ hi):lo + sumI (l.map (·.2)) ≤ hi := by
 let le:Spn → Spn → Bool := fun x y=>decide (x.1 ≤ y.1)
 have hp := List.mergeSort_perm l le
 have hs := List.pairwise_mergeSort (le := le) (fun a b c h1 h2=>by simp only [le,decide_eq_true_eq] at *; omega) (fun a b=>by simp only [le,Bool.or_eq_true,decide_eq_true_eq]; omega) l
 have hs':(l.mergeSort le).Pairwise fun x y=>x.1 ≤ y.1 := hs.imp fun h=>of_decide_eq_true h
 have ha':(l.mergeSort le).Pairwise ApartP := (hp.pairwise_iff (fun {x y} h=>h.symm)).2 ha
 have hne':l.mergeSort le ≠ [] := fun e=>hne (by
  have := hp.length_eq
  rw [e] at this
  exact List.eq_nil_of_length_eq_zero this.symm)
 have := span_asc (l.mergeSort le) lo hne' hs' ha' fun x hx=>hb x (hp.mem_iff.1 hx)
 rw [sumI_perm (hp.map (·.2))] at this
 exact this
theorem share_one {k:ByteArray} {l:List ByteArray}:shareB l [k] = true ↔ k ∈ l := by
 unfold shareB
 rw [List.any_eq_true]
 constructor
 ·rintro ⟨x,hx,h⟩
  obtain ⟨y,hy,h⟩ := List.any_eq_true.1 h
  rw [List.mem_singleton.1 hy] at h
  rw [← strEq_true.1 h]
  exact hx
 ·intro h
  exact ⟨k,h,List.any_eq_true.2 ⟨k,List.mem_singleton.2 rfl,strEq_self k⟩⟩
def hasA (k:ByteArray) (r:Rnd):Bool := shareB r.2.2.1 [k]
theorem ins_get {v:Int} {k:ByteArray}:∀ (l:List ByteArray) {m:List Use},l.Nodup → AscS (m.map (·.1)) → mgetD strEq k (l.foldl (fun m a=>insU (a,v) m) m) 0 = if shareB l [k] = true then mgetD strEq k m 0 + v else mgetD strEq k m 0
 | [],m,_,_=>rfl
 | a :: l,m,hn,hm=>by
  have hn' := List.nodup_cons.1 hn
  rw [List.foldl_cons,ins_get l hn'.2 (insU_asc (a,v) hm),insU_get (a,v) hm]
  by_cases hk:k ∈ l
  ·have hne:k ≠ a := fun e=>hn'.1 (e ▸ hk)
   rw [if_pos (share_one.2 hk),if_pos (share_one.2 (List.mem_cons_of_mem _ hk)),if_neg hne]
  ·rw [if_neg fun h=>hk (share_one.1 h)]
   by_cases e:k = a
   ·rw [if_pos e,if_pos (share_one.2 (by rw [e]; exact List.mem_cons_self ..))]
   ·rw [if_neg e,if_neg fun h=>?_]
    rcases List.mem_cons.1 (share_one.1 h) with h | h
    ·exact e h
    ·exact hk h
theorem insR_asc {r:Rnd}:∀ (l:List ByteArray) {m:List Use} {v:Int},AscS (m.map (·.1)) → AscS ((l.foldl (fun m a=>insU (a,v) m) m).map (·.1))
 | [],m,v,h=>h
 | a :: l,m,v,h=>insR_asc (r := r) l (insU_asc (a,v) h)
theorem load_get {k:ByteArray}:∀ (l:List Rnd) {m:List Use},(∀ r ∈ l,r.2.2.1.Nodup) → AscS (m.map (·.1)) → mgetD strEq k (l.foldl (fun m r=>insR r m) m) 0 = mgetD strEq k m 0 + sumI ((l.filter (hasA k)).map fun r=>r.2.1)
 | [],m,_,_=>by simp [sumI]
 | r :: l,m,hn,hm=>by
  have hr := hn r (List.mem_cons_self ..)
  have e:mgetD strEq k (insR r m) 0 = _ := ins_get r.2.2.1 hr hm
  rw [List.foldl_cons,load_get l (fun r hr=>hn r (List.mem_cons_of_mem _ hr)) (show AscS ((insR r m).map (·.1)) from insR_asc (r := r) r.2.2.1 hm),e]
  rw [List.filter_cons]
  by_cases hk:shareB r.2.2.1 [k] = true
  ·have:hasA k r = true := hk
   rw [if_pos hk,if_pos this]
   simp only [List.map_cons,sumI]
   omega
  ·have:¬ hasA k r = true := hk
   rw [if_neg hk,if_neg this]
theorem load_mem {k:ByteArray}:∀ (l:List Rnd) {m:List Use},k ∈ (l.foldl (fun m r=>insR r m) m).map (·.1) → k ∈ m.map (·.1) ∨ ∃ r ∈ l,k ∈ r.2.2.1
 | [],m,h=>.inl h
 | r :: l,m,h=>by
  have key:∀ (q:List ByteArray) (m:List Use),k ∈ (q.foldl (fun m a=>insU (a,r.2.1) m) m).map (·.1) → k ∈ m.map (·.1) ∨ k ∈ q := by
   intro q
   induction q with
   | nil=>intro m h; exact .inl h
   | cons a q ih =>
    intro m h
    rcases ih _ h with h | h
    ·rcases (insU_mem (a,r.2.1)).1 h with h | h
     ·exact .inr (by rw [h]; exact List.mem_cons_self ..)
     ·exact .inl h
    ·exact .inr (List.mem_cons_of_mem _ h)
  rcases load_mem l h with h | ⟨r',h1,h2⟩
  ·rcases key r.2.2.1 m h with h | h
   ·exact .inl h
   ·exact .inr ⟨r,List.mem_cons_self ..,h⟩
  ·exact .inr ⟨r',List.mem_cons_of_mem _ h1,h2⟩
theorem asc_get:∀ {l:List Use} {e:Use},AscS (l.map (·.1)) → e ∈ l → mgetD strEq e.1 l 0 = e.2
 | y :: l,e,h,he=>by
  have h' := List.pairwise_cons.1 h
  rw [mgetD_cons]
  rcases List.mem_cons.1 he with rfl | he
  ·rw [if_pos (strEq_true.2 rfl)]
  ·rw [if_neg fun hs=>?_]
   ·exact asc_get h'.2 he
   ·have := h'.1 e.1 (List.mem_map_of_mem he)
    rw [strEq_true.1 hs,ltS_irr] at this
    cases this
theorem errL_nodup:∀ {l pre:List ByteArray},errL namE pre l = 0 → l.Nodup ∧ ∀ x ∈ l,x ∉ pre
 | [],pre,_=>⟨List.nodup_nil,fun x hx=>by cases hx⟩
 | y :: l,pre,h=>by
  have h0 := errL_zero h 0 y rfl
  simp only [List.take_zero,List.append_nil] at h0
  have hy:y ∉ pre := fun hm=>by
   unfold namE at h0
   have:(pre.any fun z=>strEq y z) = true := List.any_eq_true.2 ⟨y,hm,strEq_self y⟩
   rw [this] at h0
   revert h0
   split <;> simp
  have hrest:errL namE (pre ++ [y]) l = 0 := by
   simp only [errL] at h
   rw [if_pos h0] at h
   exact h
  obtain ⟨h1,h2⟩ := errL_nodup hrest
  refine ⟨List.nodup_cons.2 ⟨fun hm=>h2 y hm (by simp),h1⟩,fun x hx=>?_⟩
  rcases List.mem_cons.1 hx with rfl | hx
  ·exact hy
  ·exact fun hm=>h2 x hx (List.mem_append_left _ hm)
theorem areas_nodup {p:Pln} (hs:PShort p) (he:planE p = 0) {x:Rnd} (hx:x ∈ p.1):x.2.2.1.Nodup := by
 have hv := PV.of hs he
 unfold planE at he
 rw [if_neg (by have := hv.n1; omega)] at he
 have z1 := firstNZ_zero he _ (List.mem_cons_self ..)
 obtain ⟨i,hi,hxi⟩ := List.mem_iff_getElem.1 hx
 have e := errL_zero z1 i x (by rw [List.getElem?_eq_getElem hi,hxi])
 unfold rndE at e
 have e1:rndT x = 0 := by
  revert e
  split
  ·split
   ·intro e; cases e
   ·exact fun e=>e
  ·intro e; cases e
 have a := firstNZ_zero e1 (namesE x.2.2.1) (by simp)
 unfold namesE at a
 by_cases h:160 < x.2.2.1.length
 ·rw [if_pos h] at a; cases a
 ·rw [if_neg h] at a
  exact (errL_nodup a).1
def fromS (k:ByteArray) (l:List Rnd) (s:Int):Int := l.foldl (fun s r=>if shareB r.2.2.1 [k] = true then (if r.2.2.2.2.2.1 < s then r.2.2.2.2.2.1 else s) else s) s
theorem fromS_le {k:ByteArray}:∀ (l:List Rnd) (s:Int),fromS k l s ≤ s ∧ ∀ r ∈ l,k ∈ r.2.2.1 → fromS k l s ≤ r.2.2.2.2.2.1
 | [],s=>⟨Int.le_refl _,fun r hr=>by cases hr⟩
 | r :: l,s=>by
  obtain ⟨h1,h2⟩ := fromS_le (k := k) l (if shareB r.2.2.1 [k] = true then (if r.2.2.2.2.2.1 < s then r.2.2.2.2.2.1 else s) else s)
  have e:fromS k (r :: l) s = fromS k l (if shareB r.2.2.1 [k] = true then (if r.2.2.2.2.2.1 < s then r.2.2.2.2.2.1 else s) else s) := rfl
  rw [e]
  refine ⟨?_,fun x hx hk=>?_⟩
  ·refine Int.le_trans h1 ?_
   split
   ·split <;> omega
   ·exact Int.le_refl _
  ·rcases List.mem_cons.1 hx with rfl | hx
   ·refine Int.le_trans h1 ?_
    rw [if_pos (share_one.2 hk)]
    split <;> omega
   ·exact h2 x hx hk
theorem fromS_nonneg {k:ByteArray}:∀ (l:List Rnd) (s:Int),0 ≤ s → (∀ r ∈ l,0 ≤ r.2.2.2.2.2.1) → 0 ≤ fromS k l s
 | [],s,h,_=>h
 | r :: l,s,h,hl=>by
  refine fromS_nonneg l _ ?_ fun x hx=>hl x (List.mem_cons_of_mem _ hx)
  have := hl r (List.mem_cons_self ..)
  show 0 ≤ (if shareB r.2.2.1 [k] = true then (if r.2.2.2.2.2.1 < s then r.2.2.2.2.2.1 else s) else s)
  split
  ·split <;> omega
  ·exact h
theorem load_ok {p:Pln} (hp:PShort p) (hv:PV p) {f:List Int} (h:Hol p (rulesS p) f) {e:Use} (he:e ∈ loadS p):fromS e.1 p.1 20000 + e.2 ≤ endS p f := by
 have hasc:AscS ((loadS p).map (·.1)) := (same_load p).asc
 have hval:e.2 = sumI ((p.1.filter (hasA e.1)).map fun r=>r.2.1) := by
  rw [← asc_get hasc he]
  have := load_get (k := e.1) p.1 (m := []) (fun r hr=>areas_nodup hp hv.er hr) List.Pairwise.nil
  rw [mgetD_nil,Int.zero_add] at this
  exact this
 have hfl := h.len
 let l:List Spn := ((p.1.zip f).filter fun x=>hasA e.1 x.1).map fun x=>(x.2,x.1.2.1)
 have hsum:sumI (l.map (·.2)) = e.2 := by
  rw [hval]
  have:l.map (·.2) = (p.1.filter (hasA e.1)).map fun r=>r.2.1 := by
   show (((p.1.zip f).filter fun x=>hasA e.1 x.1).map fun x=>(x.2,x.1.2.1)).map (·.2) = _
   rw [List.map_map]
   have hz:p.1 = (p.1.zip f).map (·.1) := (List.map_fst_zip (by omega)).symm
   generalize p.1.zip f = z at hz
   rw [hz]
   clear hz
   induction z with
   | nil=>rfl
   | cons x z ih =>
    simp only [List.filter_cons,List.map_cons]
    cases hasA e.1 x.1 with
    | true=>simp only [if_true,List.map_cons,Function.comp,ih]
    | false=>simpa using ih
  rw [this]
 have hmem:∀ x ∈ l,∃ (i:Nat) (hi:i < p.1.length),e.1 ∈ (p.1[i]).2.2.1 ∧ x = (fL f i,(p.1[i]).2.1) := by
  intro x hx
  obtain ⟨y,hy,rfl⟩ := List.mem_map.1 hx
  obtain ⟨hy,hk⟩ := List.mem_filter.1 hy
  obtain ⟨i,hi,rfl⟩ := List.mem_iff_getElem.1 hy
  rw [List.length_zip] at hi
  refine ⟨i,by omega,?_,?_⟩
  ·rw [List.getElem_zip] at hk
   exact share_one.1 hk
  ·rw [List.getElem_zip]
   simp only [fL]
   rw [getD_some (List.getElem?_eq_getElem (show i < f.length by omega))]
 have hap:l.Pairwise ApartP := by
  show (((p.1.zip f).filter fun x=>hasA e.1 x.1).map fun x=>(x.2,x.1.2.1)).Pairwise ApartP
  rw [List.pairwise_map,List.pairwise_filter,List.pairwise_iff_getElem]
  intro i j hi hj hij h1 h2
  rw [List.length_zip] at hi hj
  rw [List.getElem_zip] at h1 h2 ⊢
  rw [List.getElem_zip]
  have k1 := share_one.1 h1
  have k2 := share_one.1 h2
  have hm:(kA,(i:Int),(j:Int),(0:Int)) ∈ rulesS p := by
   refine apart_mem hij (List.getElem?_eq_getElem (show i < p.1.length by omega)) (List.getElem?_eq_getElem (show j < p.1.length by omega)) ?_
   unfold pairR
   have hsh:shareB (p.1[i]'(by omega)).2.2.1 (p.1[j]'(by omega)).2.2.1 = true := List.any_eq_true.2 ⟨e.1,k1,List.any_eq_true.2 ⟨e.1,k2,strEq_self e.1⟩⟩
   rw [if_pos hsh]
   simp
  have hh := h.rul _ hm
  unfold holdS at hh
  rw [if_neg (by show ¬ strEq kA kW = true; rw [sAW]; decide),if_neg (by show ¬ strEq kA kO = true; rw [sAO]; decide),Bool.or_eq_true] at hh
  unfold befS at hh
  simp only [decide_eq_true_eq,tq,Int.toNat_natCast] at hh
  rw [rq_nat (show i < p.1.length by omega),rq_nat (show j < p.1.length by omega),getD_some (List.getElem?_eq_getElem (show i < f.length by omega)),getD_some (List.getElem?_eq_getElem (show j < f.length by omega))] at hh
  unfold ApartP
  simp only
  omega
 have hne:l ≠ [] := by
  intro hl
  rcases load_mem p.1 (m := []) (k := e.1) (List.mem_map_of_mem he) with hm | ⟨r,hr,hk⟩
  ·cases hm
  ·obtain ⟨i,hi,rfl⟩ := List.mem_iff_getElem.1 hr
   have:(f[i]'(by omega),(p.1[i]).2.1) ∈ l := by
    refine List.mem_map.2 ⟨(p.1[i],f[i]'(by omega)),List.mem_filter.2 ⟨?_,share_one.2 hk⟩,rfl⟩
    have:(p.1.zip f)[i]'(by rw [List.length_zip]; omega) = (p.1[i],f[i]'(by omega)) := List.getElem_zip
    rw [← this]
    exact List.getElem_mem _
   rw [hl] at this
   cases this
 rw [← hsum]
 refine span_sum hne hap fun x hx=>?_
 obtain ⟨i,hi,hk,rfl⟩ := hmem x hx
 have hr:p.1[i] ∈ p.1 := List.getElem_mem hi
 have hmin := (hv.rnd _ hr).1
 have hw := holW.1 (h.rul _ (List.mem_of_getElem? (win_rul hi)))
 have hend := endS_ge hi h.len
 rw [rq_nat hi] at hw hend
 have hfr := (fromS_le (k := e.1) p.1 20000).2 _ hr hk
 simp only
 omega
end Go.Proofs.Tryz
section
namespace Go.Proofs.Tryz
open Go Go.Sx
end Go.Proofs.Tryz
end
section
namespace Go.Proofs.Tryz
open Go Go.Sx
end Go.Proofs.Tryz
end
namespace Go.Proofs.Tryz
open Go Go.Sx
theorem StabS.congr {α:Type} {lt1 lt2:α → α → Bool} {l d:List α} (h:∀ a ∈ l,∀ b ∈ l,lt1 a b = lt2 a b) (hs:StabS lt1 l d):StabS lt2 l d := by
 have hm:∀ x,x ∈ d → x ∈ l := fun x hx=>hs.mem.1 hx
 refine ⟨hs.1,?_,fun x hx=>?_⟩
 ·refine List.Pairwise.imp_of_mem (fun {a b} ha hb hab=>?_) hs.2.1
  unfold Go.Sx.leB at *
  rw [← h b (hm b hb) a (hm a ha)]
  exact hab
 ·have h1:d.filter (eqvB lt2 x) = d.filter (eqvB lt1 x) := List.filter_congr fun y hy=>by unfold eqvB; rw [h x hx y (hm y hy),h y (hm y hy) x hx]
  have h2:l.filter (eqvB lt2 x) = l.filter (eqvB lt1 x) := List.filter_congr fun y hy=>by unfold eqvB; rw [h x hx y hy,h y hy x hx]
  rw [h1,h2]
  exact hs.2.2 x hx
theorem brok_find (p:Pln) (t:List Int):(brokS p t).1 = (((rulesS p).findIdx fun r=>!holdS p t r:Nat):Int) ∧ ((brokS p t).2 = false ↔ ∀ r ∈ rulesS p,holdS p t r = true) := by
 unfold brokS
 cases h:(rulesS p).findIdx? fun r=>!holdS p t r with
 | none =>
  have hn := List.findIdx?_eq_none_iff.1 h
  refine ⟨?_,fun _ r hr=>by have := hn r hr; simpa using this,fun _=>rfl⟩
  rw [List.findIdx_eq_length_of_false fun r hr=>by simpa using hn r hr]
 | some i =>
  obtain ⟨hi,h1,h2⟩ := List.findIdx?_eq_some_iff_getElem.1 h
  refine ⟨?_,⟨fun h=>?_,fun h=>?_⟩⟩
  ·show (i:Int) = _
   congr 1
   exact ((List.findIdx_eq hi).2 ⟨by simpa using h1,fun j hj=>by have := h2 j hj; simpa using this⟩).symm
  ·exact absurd (show true = false from h) (by decide)
  ·have := h _ (List.getElem_mem hi)
   rw [this] at h1
   simp at h1
end Go.Proofs.Tryz
section
namespace Go.Proofs.Tryz
open Go Go.Sx
end Go.Proofs.Tryz
end
section
namespace Go.Proofs.Tryz
open Go Go.Sx
end Go.Proofs.Tryz
end
section
namespace Go.Proofs.Tryz
open Go Go.Sx
end Go.Proofs.Tryz
end
section
namespace Go.Proofs.Tryz
open Go Go.Sx
end Go.Proofs.Tryz
end
namespace Go.Proofs.Tryz
open Go Go.Sx
theorem load_len {p:Pln} (hp:PShort p) (hv:PV p):(loadS p).length ≤ 162 * p.1.length := by
 have h1 := (same_load p).res
 have h2 := congrArg List.length h1
 rw [List.length_map] at h2
 have h3 := (skeys_perm (mkeys (mapL p))).length_eq
 have h4 := (mapL_bnd hp hv).len
 unfold mkeys at h3
 rw [List.length_map] at h3
 have h5:(skeysM (mapL p)).length = (mapL p).length := h3
 omega
theorem law10 (a:Pln × List Int) (hok:AEls.ok [.agg [.seq [.str,.int .i64,.seq [.str],.seq [.str],.seq [.str],.int .i64,.int .i64],.seq [.int .i64,.int .i64,.int .i64],.int .i64],.val (.seq [.int .i64])] a):∃ F,c10 F a = some true := by
 obtain ⟨p,t⟩ := a
 obtain ⟨⟨⟨hb1,-⟩,⟨hb2,-⟩,-⟩,hb3,-⟩ := hok
 refine ⟨roomP p t + 8000,?_⟩
 have hF0:roomP p t + 8000 = p.1.length + p.2.1.length + t.length + 4000 + 8000 := rfl
 generalize roomP p t + 8000 = F at hF0
 have hF:8000 ≤ F := by omega
 have hF4:4000 ≤ F := by omega
 unfold c10
 obtain ⟨b,h49,hs⟩ := l49 (F := F) (by omega) (p := p) (k := 5)
 have h49:c49 F (p,(5:Int)) = some b := h49
 simp only [peta,l14 (F := F) (p := p) (by omega) (by omega) hb1 hb2,Option.bind_some,h49]
 cases b with
 | false=>rfl
 | true =>
  obtain ⟨hp,n1,n2,he⟩ := hs rfl
  have hv := PV.of hp he
  have hxp:exE p = 0 := by unfold exE; simp [firstNZ,he]; omega
  obtain ⟨f,is,e28,b28⟩ := (l28 hF4 hp).2 hxp
  cases is with
  | false =>
   have e27:c27 F p = some (0,23) := (l27 hF4 hp e28 fun h=>by simp at h).trans (by simp)
   simp only [Bool.not_true,cond_false,e27,e28,Option.bind_some]
   rfl
  | true =>
   obtain ⟨hol,best⟩ := b28.yes rfl
   have e27:c27 F p = some (endS p f,0) := (l27 hF4 hp e28 fun _=>⟨hv,hol.tok⟩).trans (by simp only [if_true])
   obtain ⟨k,ek,hk⟩ := chain_le hv hol
   obtain ⟨w,ew,hwl,hw⟩ := wins_in hv hol
   have e18 := l18 hF4 hp
   have e17 := l17 hF4 hp
   have e45 := l45 hF hp
   rw [if_pos he] at e18 e17 e45
   rw [ek] at e18
   rw [ew] at e17
   have hfl := hol.len
   have hs0:soundE p f = 0 := by unfold soundE; rw [if_pos he]; exact hol.form hv
   have e53 := l53 (F := F) (by omega) hp (t := f) (by omega)
   rw [if_pos hs0] at e53
   have e32 := l32 (F := F) (p := p) (t := f) (by omega) (by omega) (by omega)
   rw [hol.form hv] at e32
   have hkn:¬ endS p f < k := by omega
   have hwf:(w.length:Int) = (f.length:Int) := by omega
   have hw0:w64 (w64 (w64 (w64 ((0:Int) + 0) + 0) + 0) + 0) = 0 := by kernel_rfl
   simp only [Bool.not_true,cond_false,e27,e28,e18,e17,e45,e53,e32,Option.bind_some,if_true,decide_true,hw0,hwf,hkn,decide_false]
   refine bind_list f (fun (_:Unit) i=>(i:Int)) (fun _ _=>.inl ()) (fun _=>(.inr ():Bool ⊕ Unit)) (fun _ _=>True) () (by omega) rfl trivial ?_ ?_ ?_
   ·intro i x _ hi hx _
    refine ⟨?_,fun _ _=>trivial⟩
    have hip:i < p.1.length := by omega
    obtain ⟨y,hy⟩:∃ y,w[i]? = some y := ⟨_,List.getElem?_eq_getElem (by omega)⟩
    have hwi := hw i hip
    rw [getD_some hy] at hwi
    simp only [fL] at hwi
    rw [getD_some hx] at hwi
    have hr := List.getElem?_eq_getElem hip
    have hsr := (hp.2.2 _ (List.getElem_mem hip)).2 _ (.inr (.inr rfl))
    simp (disch := omega) only [cd_pos,cd_neg,gd_dec,Int.toNat_natCast,Nat.zero_add,getD_some hx,getD_some hy,getD_some hr,Option.bind_some,decide_false,cond_false]
    refine bind_list (p.1[i]).2.2.2.2.1 (fun (_:Unit) j=>(j:Int)) (fun _ _=>.inl ()) (fun _=>(.inr ():Bool ⊕ Unit)) (fun _ _=>True) () (by omega) rfl trivial ?_ ?_ ?_
    ·intro j a _ hj ha _
     refine ⟨?_,fun _ _=>trivial⟩
     obtain ⟨r,e,e41,hre⟩ := rest_ok (F := F) (by omega) hp hv hol hip (List.mem_of_getElem? ha)
     simp (disch := omega) only [cd_pos,gd_dec,Int.toNat_natCast,getD_some ha,e41,Option.bind_some]
     have hwj:w64 ((j:Int) + 1) = ((j + 1:Nat):Int) := by rw [w64_in (by omega) (by omega)]; omega
     rcases hre with rfl | ⟨rfl,hle⟩
     ·simp only [decide_true,Bool.not_true,cond_false,Option.bind_some,hwj]
     ·have:¬ r < p.2.2 := by omega
      simp only [show ¬ (0:Int) = 7 by omega,decide_false,decide_true,Bool.not_true,Bool.not_false,cond_false,cond_true,Option.bind_some,hwj,this]
    ·intro _ _
     simp (disch := omega) only [cd_neg]
    ·rw [goL_unit]
     have hwi':w64 ((i:Int) + 1) = ((i + 1:Nat):Int) := by rw [w64_in (by omega) (by omega)]; omega
     dsimp only [Sum.elim_inr]
     rw [hwi']
   ·intro _ _
    simp (disch := omega) only [cd_neg]
   ·rw [goL_unit]
    dsimp only [Sum.elim_inr]
    refine bind_list (loadS p) (fun (_:Unit) i=>(i:Int)) (fun _ _=>.inl ()) (fun _=>(.inr ():Bool ⊕ Unit)) (fun _ _=>True) () (by have := load_len hp hv; omega) rfl trivial ?_ ?_ ?_
    ·intro i x _ hi hx _
     refine ⟨?_,fun _ _=>trivial⟩
     have hxm:x ∈ loadS p := List.mem_of_getElem? hx
     have hlo := load_ok hp hv hol hxm
     have hfr := fromS_nonneg (k := x.1) p.1 20000 (by omega) fun r hr=>(hv.rnd r hr).2.1.1
     have hx2:0 ≤ x.2 := by
      rw [← asc_get (same_load p).asc hxm,← (same_load p).get]
      exact ((mapL_bnd hp hv).get x.1).1
     have hend := endS_bnd hv hol.tok
     have hll := load_len hp hv
     have hwi:w64 ((i:Int) + 1) = ((i + 1:Nat):Int) := by rw [w64_in (by omega) (by omega)]; omega
     simp (disch := omega) only [cd_pos,gd_dec,Int.toNat_natCast,getD_some hx]
     refine bind_list p.1 (fun (s:Int) j=>(s,(j:Int))) (fun r s=>.inl (if shareB r.2.2.1 [x.1] = true then (if r.2.2.2.2.2.1 < s then r.2.2.2.2.2.1 else s) else s)) (fun s=>s) (fun _ _=>True) 20000 (by omega) rfl trivial ?_ ?_ ?_
     ·intro j r s hj hr _
      refine ⟨?_,fun _ _=>trivial⟩
      have hwj:w64 ((j:Int) + 1) = ((j + 1:Nat):Int) := by rw [w64_in (by omega) (by omega)]; omega
      have e54 := l54 (F := F) (a := r.2.2.1) (b := [x.1]) (by omega) (by have := ((hp.2.2 _ (List.mem_of_getElem? hr)).2 _ (.inl rfl)).1; omega) (by simp)
      simp (disch := omega) only [cd_pos,gd_dec,Int.toNat_natCast,getD_some hr,hwj]
      rw [show c54 F (r.2.2.1,x.1 :: nilT ByteArray) = some (shareB r.2.2.1 [x.1]) from e54]
      simp only [Option.bind_some]
      cases shareB r.2.2.1 [x.1] <;> simp
     ·intro s _
      simp (disch := omega) only [cd_neg]
     ·rw [goL_fold (fun (s:Int) (r:Rnd)=>if shareB r.2.2.1 [x.1] = true then (if r.2.2.2.2.2.1 < s then r.2.2.2.2.2.1 else s) else s)]
      have e:p.1.foldl (fun (s:Int) (r:Rnd)=>if shareB r.2.2.1 [x.1] = true then (if r.2.2.2.2.2.1 < s then r.2.2.2.2.2.1 else s) else s) 20000 = fromS x.1 p.1 20000 := rfl
      rw [e]
      have hww:w64 (fromS x.1 p.1 20000 + x.2) = fromS x.1 p.1 20000 + x.2 := w64_in (by omega) (by omega)
      rw [hww,hwi]
      exact cd_neg (by omega)
    ·intro _ _
     simp (disch := omega) only [cd_neg]
    ·rw [goL_unit]
     dsimp only [Sum.elim_inr]
     have e32':c32 F (p,t) = some (formE p t) := by
      by_cases htl:t.length = p.1.length
      ·exact l32 (by omega) (by omega) (by omega)
      ·have:¬ (t.length:Int) = (p.1.length:Int) := by omega
       unfold c32 formE
       simp [htl,this]
     rw [e32',Option.bind_some]
     by_cases hf0:formE p t = 0
     ·have htl := (TOk.of hf0).1.len
      have hst:soundE p t = 0 := by unfold soundE; rw [if_pos he]; exact hf0
      have e52 := l52 (F := F) (by omega) hp (t := t) (by omega)
      have e53' := l53 (F := F) (by omega) hp (t := t) (by omega)
      rw [if_pos hst] at e52 e53'
      simp only [hf0,decide_true,Bool.not_true,cond_false,e52,e53',Option.bind_some,cond_true]
      cases hb:(brokS p t).2 with
      | true=>simp
      | false =>
       obtain ⟨htk,hrg⟩ := TOk.of hf0
       have hol':Hol p (rulesS p) t := ⟨htk.len,fun i hi=>by have := htk.at (a := (i:Int)) (by omega) (by omega); have h2 := hrg (t.getD i 0) (getD_mem (by have := htk.len; omega)); simp only [fL]; omega,(brok_find p t).2.1 hb⟩
       have hbest := best t hol'
       unfold endC at hbest
       have:endS p f ≤ endS p t := by omega
       simp [this]
     ·simp [hf0]
end Go.Proofs.Tryz
