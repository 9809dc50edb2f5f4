/- Plain law: heats that are ranked, in the program and in the reference. Plain law: heats that are ranked, in the reference. Plain law: clashes, and the least number of them. Functions of the program as functions of data. By program. -/
import Derived.Test.YtdghdcclhnoigaaGreatDoorXG04f
import Derived.Test.YtdghdcclhnoigaaGreatDoorXTryzA
section
set_option maxRecDepth 100000
set_option linter.unusedVariables false
set_option linter.unusedSimpArgs false
namespace Go.Proofs.Tryz
open Go Go.Sx
def grpB (hn : Int) (k : Int) (s : List Int × Nat) : (List Int × Nat) ⊕ List Int := .inl (s.1.set k.toNat (Int.tdiv s.2 hn), s.2 + 1)
def grpE (hn : Int) (L : List Int) (n : Nat) : List Int := goL (grpB hn) (fun s => s.1) L (List.replicate n 0, 0)
theorem grpE_len (hn : Int) (L : List Int) (n : Nat) : (grpE hn L n).length = n := by
  have := goL_inv (grpB hn) (fun s => s.1) L (fun _ s => s.1.length = n) (fun b => b.length = n) (fun i x s hi hx h => ⟨fun s' e => by cases e; simpa using h, fun b e => by cases e⟩) (fun s h => h) L.length 0 (List.replicate n 0, 0) (by simp) (by simp) (by simp)
  exact this
theorem goL_dup {f : Int → Int} : ∀ (g s : List Int), goL (fun x (s : List Int) => if f x ∈ s then .inr true else .inl (f x :: s)) (fun _ => false) g s = decide (¬ (g.map f).Nodup ∨ ∃ x ∈ g, f x ∈ s)
  | [], s => by simp [goL_nil]
  | x :: g, s => by
    rw [goL_cons]
    by_cases h : f x ∈ s
    · rw [if_pos h]
      exact (decide_eq_true (.inr ⟨x, List.mem_cons_self, h⟩)).symm
    · rw [if_neg h]
      simp only
      rw [goL_dup g (f x :: s), decide_eq_decide, List.map_cons, List.nodup_cons]
      constructor
      · rintro (h1 | ⟨y, hy, h1⟩)
        · exact .inl fun h2 => h1 h2.2
        · rcases List.mem_cons.1 h1 with h1 | h1
          · exact .inl fun h2 => h2.1 (h1 ▸ List.mem_map_of_mem hy)
          · exact .inr ⟨y, List.mem_cons_of_mem _ hy, h1⟩
      · rintro (h1 | ⟨y, hy, h1⟩)
        · by_cases h2 : (g.map f).Nodup
          · have h3 : f x ∈ g.map f := Classical.byContradiction fun h3 => h1 ⟨h3, h2⟩
            obtain ⟨y, hy, e⟩ := List.mem_map.1 h3
            exact .inr ⟨y, hy, e ▸ List.mem_cons_self⟩
          · exact .inl h2
        · rcases List.mem_cons.1 hy with rfl | hy
          · exact absurd h1 h
          · exact .inr ⟨y, hy, List.mem_cons_of_mem _ h1⟩
theorem goL_dup2 {f : Int → Int} : ∀ (g s : List Int), goL (fun x (s : List Int) => if (s.any fun y => decide (f x = f y)) = true then .inr true else .inl (s ++ [x])) (fun _ => false) g s = decide (¬ (g.map f).Nodup ∨ ∃ x ∈ g, f x ∈ s.map f)
  | [], s => by simp [goL_nil]
  | x :: g, s => by
    rw [goL_cons]
    have e : (s.any fun y => decide (f x = f y)) = true ↔ f x ∈ s.map f := by
      rw [List.any_eq_true, List.mem_map]
      constructor
      · rintro ⟨y, hy, h⟩; exact ⟨y, hy, (of_decide_eq_true h).symm⟩
      · rintro ⟨y, hy, h⟩; exact ⟨y, hy, decide_eq_true h.symm⟩
    by_cases h : f x ∈ s.map f
    · rw [if_pos (e.2 h)]
      exact (decide_eq_true (.inr ⟨x, List.mem_cons_self, h⟩)).symm
    · rw [if_neg fun h2 => h (e.1 h2)]
      simp only
      rw [goL_dup2 g (s ++ [x]), decide_eq_decide, List.map_cons, List.nodup_cons]
      constructor
      · rintro (h1 | ⟨y, hy, h1⟩)
        · exact .inl fun h2 => h1 h2.2
        · rw [List.map_append] at h1
          rcases List.mem_append.1 h1 with h1 | h1
          · exact .inr ⟨y, List.mem_cons_of_mem _ hy, h1⟩
          · have h1 : f y = f x := by simpa using h1
            exact .inl fun h2 => h2.1 (h1 ▸ List.mem_map_of_mem hy)
      · rintro (h1 | ⟨y, hy, h1⟩)
        · by_cases h2 : (g.map f).Nodup
          · have h3 : f x ∈ g.map f := Classical.byContradiction fun h3 => h1 ⟨h3, h2⟩
            obtain ⟨y, hy, e⟩ := List.mem_map.1 h3
            exact .inr ⟨y, hy, by rw [e, List.map_append]; simp⟩
          · exact .inl h2
        · rcases List.mem_cons.1 hy with rfl | hy
          · exact absurd h1 h
          · exact .inr ⟨y, hy, by rw [List.map_append]; exact List.mem_append.2 (.inl h1)⟩
def dupG (G : List Int) (g : List Int) : Bool := decide (¬ (g.map fun k => G.getD k.toNat 0).Nodup)
def rankS (G : List Int) (h : List (List Int)) : Bool := !h.any (dupG G)
structure FormOk (n : Nat) (h : List (List Int)) : Prop where
  len : 0 < h.length ∧ h.length ≤ 16
  nodup : h.flatten.Nodup
  inn : ∀ g ∈ h, ∀ x ∈ g, InE n x
  all : ∀ k ∈ ids n, k ∈ h.flatten
theorem formI_all {n : Nat} : ∀ {g s s' : List Int}, goL (formI n) .inl g s = .inl s' → FormI n s → FormI n s' ∧ s'.Perm (g ++ s) ∧ ∀ x ∈ g, InE n x
  | [], s, s', h, hs => by rw [goL_nil] at h; cases h; exact ⟨hs, .refl _, fun _ h => by cases h⟩
  | x :: g, s, s', h, hs => by
    rw [goL_cons] at h
    unfold formI at h
    by_cases h1 : x < 0 ∨ (n : Int) ≤ x
    · simp [h1] at h
    · rw [if_neg h1] at h
      by_cases h2 : x ∈ s
      · simp [h2] at h
      · rw [if_neg h2] at h
        simp only at h
        obtain ⟨k1, k2, k3⟩ := formI_all h (hs.cons h1 h2)
        refine ⟨k1, k2.trans List.perm_middle, fun y hy => ?_⟩
        rcases List.mem_cons.1 hy with rfl | hy
        · exact ⟨by omega, by omega⟩
        · exact k3 y hy
theorem formI_err {n : Nat} : ∀ {g s : List Int} {e : Int}, goL (formI n) .inl g s = .inr e → e ≠ 0
  | [], s, e, h => by rw [goL_nil] at h; cases h
  | x :: g, s, e, h => by
    rw [goL_cons] at h
    unfold formI at h
    by_cases h1 : x < 0 ∨ (n : Int) ≤ x
    · simp [h1] at h; omega
    · rw [if_neg h1] at h
      by_cases h2 : x ∈ s
      · simp [h2] at h; omega
      · rw [if_neg h2] at h
        exact formI_err h
theorem formG_go {n : Nat} {fin : List Int → Int} : ∀ {h : List (List Int)} {s : List Int}, goL (formG n) fin h s = 0 → FormI n s → ∃ s', FormI n s' ∧ fin s' = 0 ∧ s'.Perm (h.flatten ++ s) ∧ ∀ g ∈ h, ∀ x ∈ g, InE n x
  | [], s, h, hs => ⟨s, hs, h, .refl _, fun _ h => by cases h⟩
  | g :: h, s, e, hs => by
    rw [goL_cons] at e
    unfold formG at e
    cases hg : goL (formI n) (fun s => (.inl s : List Int ⊕ Int)) g s with
    | inr b => rw [hg] at e; exact absurd e (formI_err hg)
    | inl s1 =>
      rw [hg] at e
      simp only at e
      obtain ⟨k1, k2, k3⟩ := formI_all hg hs
      obtain ⟨s', a1, a2, a3, a4⟩ := formG_go e k1
      refine ⟨s', a1, a2, a3.trans ?_, fun y hy => ?_⟩
      · rw [List.flatten_cons]
        refine (k2.append_left _).trans ?_
        rw [← List.append_assoc]
        exact List.perm_append_comm.append_right s
      · rcases List.mem_cons.1 hy with rfl | hy
        · exact k3
        · exact a4 y hy
theorem formS_ok {n : Nat} {h : List (List Int)} (e : formS n h = 0) : FormOk n h := by
  unfold formS at e
  by_cases h0 : h.length = 0
  · simp [h0] at e
  · rw [if_neg h0] at e
    by_cases h1 : 16 < h.length
    · simp [h1] at e
    · rw [if_neg h1] at e
      obtain ⟨s', a1, a2, a3, a4⟩ := formG_go e ⟨List.nodup_nil, fun _ h => by cases h⟩
      rw [List.append_nil] at a3
      refine ⟨⟨by omega, by omega⟩, a3.nodup_iff.1 a1.1, a4, fun k hk => ?_⟩
      have a5 : ¬ s'.length < n := by
        intro q
        rw [if_pos q] at a2
        cases a2
      exact Classical.byContradiction fun hc => a5 (a1.all.2 ⟨k, hk, fun hm => hc (a3.mem_iff.1 hm)⟩)
theorem l33 {F : Nat} (hF : 400 ≤ F) {l : List Ent} (hl : l.length ≤ 300) (hS : ∀ x ∈ l, EntS x) {key : Int} {h : List (List Int)} (hh : ∀ g ∈ h, g.length < 400) :
    c33 F (l, key, h) = some (if entC l ≠ 0 then entC l else if drawE key l.length ≠ 0 then 3 else if formS l.length h ≠ 0 then formS l.length h else if rankS (grpE h.length (ordE l key) l.length) h = true then 0 else 29) := by
  unfold c33
  have q : ∀ (a b : Int), c75 F (a :: b :: nilT Int) = some (if a ≠ 0 then a else b) := by
    intro a b
    rw [l75 (by simp [nilT]; omega) (by simp [nilT])]
    by_cases ha : a = 0 <;> by_cases hb : b = 0 <;> simp [firstNZ, nilT, ha, hb]
  simp only [l79 hF hl hS, l84 hF (show l.length < 400 by omega) hh, q, Option.bind_some]
  by_cases h0 : entC l = 0
  · simp only [h0, ne_eq, not_true_eq_false, if_false]
    by_cases hd : drawE key l.length = 0
    · simp only [hd, not_true_eq_false, if_false]
      by_cases hf : formS l.length h = 0
      · simp only [hf, not_true_eq_false, if_false, decide_true, Bool.not_true, cond_false]
        have hok := formS_ok hf
        have hent := entC_ok h0
        have h1 : 1 ≤ key := by unfold drawE at hd; split at hd; cases hd; omega
        have h2 : key < 2147483647 := by unfold drawE at hd; split at hd; cases hd; omega
        have hst := (ordE_stab hF hent h1 h2).2
        have hLl := hst.len
        rw [drawS_len h1 h2] at hLl
        have hLD : ∀ x ∈ ordE l key, InE l.length x := fun x hx => drawS_in h1 h2 x (hst.mem.1 hx)
        have hlen := hent.len
        have hhl := hok.len
        generalize ordE l key = L at hLl hLD
        simp (disch := omega) only [gd_dec, Int.toNat_natCast]
        refine bind_list L (fun s i => (s.1, (i : Int))) (grpB h.length) (fun s => s.1) (fun i s => s.1.length = l.length ∧ s.2 = i) (List.replicate l.length 0, 0) (by omega) rfl ⟨by simp, rfl⟩ ?_ ?_ ?_
        · intro i x s hi hx ⟨hs1, hs2⟩
          have hxD := hLD x (List.mem_of_getElem? hx)
          have x1 := hxD.1
          have x2 := hxD.2
          refine ⟨?_, fun s' e => by cases e; exact ⟨by simpa using hs1, by simp [hs2]⟩⟩
          have hw : w64 (Int.tdiv (i : Int) (h.length : Int)) = Int.tdiv (i : Int) (h.length : Int) := by
            have t1 := Int.tdiv_nonneg (show (0 : Int) ≤ i by omega) (show (0 : Int) ≤ h.length by omega)
            have t2 := Int.tdiv_le_self (h.length : Int) (show (0 : Int) ≤ i by omega)
            exact w64_in (by omega) (by omega)
          simp (disch := omega) only [cd_pos, gd_dec, Nat.zero_add, Int.toNat_natCast, getD_some hx, hw, w64_in (n := ((i : Nat) : Int) + 1)]
          simp only [grpB, hs2]
          rfl
        · intro s _
          simp (disch := omega) only [cd_neg]
        · have hGl := grpE_len h.length L l.length
          unfold grpE at hGl ⊢
          generalize goL (grpB (h.length : Int)) (fun s => s.1) L (List.replicate l.length 0, 0) = G at hGl ⊢
          refine ex_eq (bind_sim h (fun g (_ : Unit) => if dupG G g = true then .inr (29 : Int) else .inl ()) (fun _ => 0) (fun i _ t => t = (i : Int)) (fun (a : Int) (b : Int ⊕ Unit) => match b with
            | .inl e => a = e
            | .inr _ => a = 0) () (by omega) rfl ?_ ?_ ?_)
          · intro i g _ t hi hg ht
            subst ht
            have hgl := hh g (List.mem_of_getElem? hg)
            have hgi := hok.inn g (List.mem_of_getElem? hg)
            simp (disch := omega) only [cd_pos, gd_dec, Int.toNat_natCast, getD_some hg, w64_in (n := ((i : Nat) : Int) + 1)]
            refine bind_sim g (fun x (s : List Int) => if (G.getD x.toNat 0) ∈ s then .inr true else .inl (G.getD x.toNat 0 :: s)) (fun _ => false) (fun k s t => t.2 = (k : Int) ∧ SeenM s t.1) (fun (a : Bool) (b : List (Int × Bool) × Int ⊕ List (Int × Bool)) => match b with
              | .inl v => a = true ∧ v.2 = 29
              | .inr _ => a = false) [] (by omega) ⟨rfl, fun k => by simp [mgetD_nil, nilT]⟩ ?_ ?_ ?_
            · intro k x s t hk hx ⟨ht, hs⟩
              obtain ⟨m, t2⟩ := t
              simp only at ht hs
              subst ht
              have hxD := hgi x (List.mem_of_getElem? hx)
              have x1 := hxD.1
              have x2 := hxD.2
              simp (disch := omega) only [cd_pos, gd_dec, Nat.zero_add, Int.toNat_natCast, getD_some hx, w64_in (n := ((k : Nat) : Int) + 1)]
              rw [hs (G.getD x.toNat 0)]
              by_cases hin : G.getD x.toNat 0 ∈ s
              · rw [if_pos hin]
                simp only [hin, decide_true, cond_true]
                exact ⟨_, rfl, rfl, rfl⟩
              · rw [if_neg hin]
                simp only [hin, decide_false, cond_false]
                exact ⟨_, rfl, by simp, hs.put⟩
            · intro s t ⟨ht, hs⟩
              simp (disch := omega) only [cd_neg]
              exact ⟨.inr t.1, rfl, trivial⟩
            · intro b hb
              rw [goL_dup] at hb
              have e : decide (¬ (g.map fun k => G.getD k.toNat 0).Nodup ∨ ∃ x ∈ g, G.getD x.toNat 0 ∈ ([] : List Int)) = dupG G g := by
                unfold dupG
                rw [decide_eq_decide]
                simp
              rw [e] at hb
              cases b with
              | inl v =>
                obtain ⟨b1, b2⟩ := hb
                rw [b1, if_pos rfl]
                exact ⟨_, rfl, b2.symm⟩
              | inr v =>
                have hb' : dupG G g = false := hb
                rw [hb', if_neg (by simp)]
                exact ⟨_, rfl, by show ((i : Int) + 1) = ((i + 1 : Nat) : Int); omega⟩
          · intro _ t ht
            subst ht
            simp (disch := omega) only [cd_neg]
            exact ⟨.inr (), rfl, trivial⟩
          · intro b hb
            rw [goL_any] at hb
            unfold rankS
            cases b with
            | inl e => exact ⟨_, rfl, by rw [← hb]; cases h.any (dupG G) <;> simp⟩
            | inr _ => exact ⟨0, rfl, by rw [← hb]; cases h.any (dupG G) <;> simp⟩
      · simp [hf]
    · simp [hd]
  · simp [h0]
end Go.Proofs.Tryz
end
section
set_option maxRecDepth 100000
set_option linter.unusedVariables false
set_option linter.unusedSimpArgs false
namespace Go.Proofs.Tryz
open Go Go.Sx
theorem l39 {F : Nat} (hF : 400 ≤ F) {l : List Ent} (hent : EntOk l) {key : Int} (h1 : 1 ≤ key) (h2 : key < 2147483647) {h : List (List Int)} (hh : ∀ g ∈ h, g.length < 400) (hok : FormOk l.length h) :
    c39 F (l, key, h) = some (rankS (grpE h.length (ordE l key) l.length) h) := by
  unfold c39
  obtain ⟨e23, hst⟩ := ordE_stab hF hent h1 h2
  simp only [e23, Option.bind_some]
  have hLl := hst.len
  rw [drawS_len h1 h2] at hLl
  have hLD : ∀ x ∈ ordE l key, InE l.length x := fun x hx => drawS_in h1 h2 x (hst.mem.1 hx)
  have hlen := hent.len
  have hhl := hok.len
  generalize ordE l key = L at hLl hLD
  simp (disch := omega) only [gd_dec, Int.toNat_natCast]
  refine bind_list L (fun s i => (s.1, (i : Int))) (grpB h.length) (fun s => s.1) (fun i s => s.1.length = l.length ∧ s.2 = i) (List.replicate l.length 0, 0) (by omega) rfl ⟨by simp, rfl⟩ ?_ ?_ ?_
  · intro i x s hi hx ⟨hs1, hs2⟩
    have hxD := hLD x (List.mem_of_getElem? hx)
    have x1 := hxD.1
    have x2 := hxD.2
    refine ⟨?_, fun s' e => by cases e; exact ⟨by simpa using hs1, by simp [hs2]⟩⟩
    have hw : w64 (Int.tdiv (i : Int) (h.length : Int)) = Int.tdiv (i : Int) (h.length : Int) := by
      have t1 := Int.tdiv_nonneg (show (0 : Int) ≤ i by omega) (show (0 : Int) ≤ h.length by omega)
      have t2 := Int.tdiv_le_self (h.length : Int) (show (0 : Int) ≤ i by omega)
      exact w64_in (by omega) (by omega)
    simp (disch := omega) only [cd_pos, gd_dec, Nat.zero_add, Int.toNat_natCast, getD_some hx, hw, w64_in (n := ((i : Nat) : Int) + 1)]
    simp only [grpB, hs2]
    rfl
  · intro s _
    simp (disch := omega) only [cd_neg]
  · have hGl := grpE_len h.length L l.length
    unfold grpE at hGl ⊢
    generalize goL (grpB (h.length : Int)) (fun s => s.1) L (List.replicate l.length 0, 0) = G at hGl ⊢
    refine ex_eq (bind_sim h (fun g (_ : Unit) => if dupG G g = true then .inr false else .inl ()) (fun _ => true) (fun i _ t => t = (i : Int)) (fun (a : Bool) (b : Bool ⊕ Unit) => match b with
      | .inl e => a = e
      | .inr _ => a = true) () (by omega) rfl ?_ ?_ ?_)
    · intro i g _ t hi hg ht
      subst ht
      have hgl := hh g (List.mem_of_getElem? hg)
      have hgi := hok.inn g (List.mem_of_getElem? hg)
      simp (disch := omega) only [cd_pos, gd_dec, Int.toNat_natCast, getD_some hg, w64_in (n := ((i : Nat) : Int) + 1)]
      refine bind_sim g (fun x (s : List Int) => if (s.any fun y => decide (G.getD x.toNat 0 = G.getD y.toNat 0)) = true then .inr true else .inl (s ++ [x])) (fun _ => false) (fun k s t => t = (k : Int) ∧ s = g.take k) (fun (a : Bool) (b : Bool ⊕ Unit) => match b with
        | .inl v => a = true ∧ v = false
        | .inr _ => a = false) [] (by omega) ⟨rfl, rfl⟩ ?_ ?_ ?_
      · intro k x s t hk hx ⟨ht, hs⟩
        subst ht
        subst hs
        have hxD := hgi x (List.mem_of_getElem? hx)
        have x1 := hxD.1
        have x2 := hxD.2
        simp (disch := omega) only [cd_pos, gd_dec, Nat.zero_add, Int.toNat_natCast, getD_some hx, w64_in (n := ((k : Nat) : Int) + 1)]
        refine bind_listE (g.take k) (fun (_ : Unit) j => (j : Int)) (fun y _ => if (decide (G.getD x.toNat 0 = G.getD y.toNat 0)) = true then .inr (.inl false) else .inl ()) (fun _ => .inr ()) (fun _ _ => True) () (by rw [len_take (by omega)]; omega) rfl trivial ?_ ?_ ?_
        · intro j y _ hj hy _
          refine ⟨?_, fun _ _ => trivial⟩
          obtain ⟨hjk, hyg⟩ := take_get hy
          have hyD := hgi y (List.mem_of_getElem? hyg)
          have y1 := hyD.1
          have y2 := hyD.2
          simp (disch := omega) only [cd_pos, gd_dec, Nat.zero_add, Int.toNat_natCast, getD_some hx, getD_some hyg, w64_in (n := ((j : Nat) : Int) + 1)]
          by_cases q : G.getD x.toNat 0 = G.getD y.toNat 0
          · simp only [q, decide_true, cond_true, if_true]
          · simp only [q, decide_false, cond_false, Bool.false_eq_true, if_false]
            rfl
        · intro _ _
          rw [len_take (by omega)]
          simp (disch := omega) only [cd_neg]
        · rw [goL_any (fun y : Int => decide (G.getD x.toNat 0 = G.getD y.toNat 0))]
          cases hany : (g.take k).any fun y => decide (G.getD x.toNat 0 = G.getD y.toNat 0) with
          | true => exact ⟨_, rfl, rfl, rfl⟩
          | false =>
            refine ⟨_, rfl, ?_⟩
            refine ⟨by omega, ?_⟩
            exact take_snoc hx
      · intro s t ⟨ht, hs⟩
        subst ht
        simp (disch := omega) only [gd_dec, Int.toNat_natCast, getD_some hg, cd_neg]
        exact ⟨.inr (), rfl, trivial⟩
      · intro b hb
        rw [goL_dup2] at hb
        have e : decide (¬ (g.map fun k => G.getD k.toNat 0).Nodup ∨ ∃ x ∈ g, G.getD x.toNat 0 ∈ ([] : List Int).map fun k => G.getD k.toNat 0) = dupG G g := by
          unfold dupG
          rw [decide_eq_decide]
          simp
        rw [e] at hb
        cases b with
        | inl v =>
          obtain ⟨b1, b2⟩ := hb
          rw [b1, if_pos rfl, b2]
          exact ⟨_, rfl, rfl⟩
        | inr v =>
          have hb' : dupG G g = false := hb
          rw [hb', if_neg (by simp)]
          exact ⟨_, rfl, by show ((i : Int) + 1) = ((i + 1 : Nat) : Int); omega⟩
    · intro _ t ht
      subst ht
      simp (disch := omega) only [cd_neg]
      exact ⟨.inr (), rfl, trivial⟩
    · intro b hb
      rw [goL_any] at hb
      unfold rankS
      cases b with
      | inl e => exact ⟨_, rfl, by rw [← hb]; cases h.any (dupG G) <;> rfl⟩
      | inr _ => exact ⟨true, rfl, by rw [← hb]; cases h.any (dupG G) <;> rfl⟩
end Go.Proofs.Tryz
end
section
set_option maxRecDepth 100000
set_option linter.unusedVariables false
set_option linter.unusedSimpArgs false
namespace Go.Proofs.Tryz
open Go Go.Sx
theorem strEq_comm (a b : ByteArray) : strEq a b = strEq b a := by
  rw [Bool.eq_iff_iff, strEq_true, strEq_true]
  exact eq_comm
theorem cnt_foldN {α : Type} (p : α → Bool) : ∀ (l : List α) (n : Nat), l.foldl (fun c y => if p y = true then c + 1 else c) n = n + l.countP p
  | [], n => by simp
  | y :: l, n => by
    rw [List.foldl_cons, cnt_foldN p l, List.countP_cons]
    split <;> omega
def ctF {α : Type} (f : α → ByteArray) (x : α) (s : List α) : Nat := s.countP fun y => strEq (f x) (f y)
theorem ctF_le {α : Type} (f : α → ByteArray) (x : α) (s : List α) : ctF f x s ≤ s.length := List.countP_le_length
def clF {α : Type} (f : α → ByteArray) (s : List α × Nat) (x : α) : List α × Nat := (s.1 ++ [x], s.2 + ctF f x s.1)
def clG {α : Type} (f : α → ByteArray) (g : List α) (n : Nat) : Nat := (g.foldl (clF f) ([], n)).2
def clashS {α : Type} (f : α → ByteArray) (h : List (List α)) : Nat := h.foldl (fun n g => clG f g n) 0
theorem clF_take {α : Type} (f : α → ByteArray) (n : Nat) {g : List α} : ∀ {k : Nat}, k ≤ g.length → (g.take k).foldl (clF f) ([], n) = ((g.take k), ((g.take k).foldl (clF f) ([], n)).2) := by
  intro k
  induction k with
  | zero => intro _; simp
  | succ k ih =>
    intro hk
    have hx : g[k]? = some (g[k]'(by omega)) := List.getElem?_eq_getElem (by omega)
    rw [List.take_add_one, hx, List.foldl_append, ih (by omega)]
    simp [clF]
theorem clG_le {α : Type} (f : α → ByteArray) (g : List α) (n : Nat) : clG f g n ≤ n + g.length * g.length := by
  have : ∀ k, k ≤ g.length → ((g.take k).foldl (clF f) ([], n)).2 ≤ n + k * g.length := by
    intro k
    induction k with
    | zero => intro _; simp
    | succ k ih =>
      intro hk
      have hx : g[k]? = some (g[k]'(by omega)) := List.getElem?_eq_getElem (by omega)
      have h1 := ih (by omega)
      rw [List.take_add_one, hx, List.foldl_append, clF_take f n (by omega)]
      have h2 := ctF_le f (g[k]'(by omega)) (g.take k)
      rw [List.length_take] at h2
      simp only [Option.toList_some, List.foldl_cons, List.foldl_nil, clF, Nat.add_mul, Nat.one_mul]
      omega
  have := this g.length (Nat.le_refl _)
  rw [List.take_length] at this
  exact this
def clubE (l : List Ent) (k : Int) : ByteArray := (atE l k).2.1
theorem l40 {F : Nat} (hF : 400 ≤ F) {l : List Ent} (hl : l.length ≤ 300) {h : List (List Int)} (hhl : h.length ≤ 30) (hh : ∀ g ∈ h, g.length < 400) (hi : ∀ g ∈ h, ∀ x ∈ g, InE l.length x) : c40 F (l, h) = some (clashS (clubE l) h : Int) := by
  unfold c40
  refine bind_list h (fun (n : Nat) i => ((n : Int), (i : Int))) (fun g n => .inl (clG (clubE l) g n)) (fun n => (n : Int)) (fun i n => n ≤ 160000 * i) 0 (by omega) rfl (by simp) ?_ ?_ ?_
  · intro i g n hil hg hn
    have hgl := hh g (List.mem_of_getElem? hg)
    have hgi := hi g (List.mem_of_getElem? hg)
    refine ⟨?_, fun s' e => by
      cases e
      have := clG_le (clubE l) g n
      have : g.length * g.length ≤ 400 * 400 := Nat.mul_le_mul (by omega) (by omega)
      omega⟩
    simp (disch := omega) only [cd_pos]
    refine bind_list g (fun (s : List Int × Nat) k => ((s.2 : Int), (k : Int))) (fun x s => .inl (clF (clubE l) s x)) (fun s => (s.2 : Int)) (fun k s => s.1 = g.take k ∧ s.2 ≤ n + 400 * k) ([], n) (by omega) rfl (by simp) ?_ ?_ ?_
    · intro k x s hk hx ⟨hs1, hs2⟩
      have hct := ctF_le (clubE l) x s.1
      have htl := len_take (l := g) (i := k) (by omega)
      have hxD := hgi x (List.mem_of_getElem? hx)
      obtain ⟨x', hx', ex⟩ := atE_get hxD
      have x1 := hxD.1
      have x2 := hxD.2
      refine ⟨?_, fun s' e => by
        cases e
        refine ⟨?_, ?_⟩
        · show s.1 ++ [x] = g.take (k + 1)
          rw [hs1]; exact take_snoc hx
        · show s.2 + ctF (clubE l) x s.1 ≤ n + 400 * (k + 1)
          rw [hs1, htl] at hct
          rw [hs1]; omega⟩
      simp (disch := omega) only [cd_pos, gd_dec, Int.toNat_natCast, getD_some hg, w64_in (n := ((k : Nat) : Int) + 1)]
      refine bind_list (g.take k) (fun (c : Nat) j => ((c : Int), (j : Int))) (fun y c => .inl (if strEq (clubE l x) (clubE l y) = true then c + 1 else c)) (fun c => (c : Int)) (fun j c => c ≤ s.2 + j) s.2 (by omega) rfl (by simp) ?_ ?_ ?_
      · intro j y c hj hy hc
        obtain ⟨hjk, hyg⟩ := take_get hy
        have hyD := hgi y (List.mem_of_getElem? hyg)
        obtain ⟨y', hy', ey⟩ := atE_get hyD
        have y1 := hyD.1
        have y2 := hyD.2
        have e1 : x'.2.1 = clubE l x := by unfold clubE; rw [ex]
        have e2 : y'.2.1 = clubE l y := by unfold clubE; rw [ey]
        refine ⟨?_, fun s' e => by cases e; split <;> omega⟩
        simp (disch := omega) only [cd_pos, gd_dec, Int.toNat_natCast, getD_some hg, getD_some hx, getD_some hyg, getD_some hx', getD_some hy', w64_in (n := ((j : Nat) : Int) + 1), e1, e2]
        cases strEq (clubE l x) (clubE l y) with
        | true =>
          simp (disch := omega) only [cond_true, Option.bind_some, w64_in, if_true]
          rfl
        | false => rfl
      · intro c hc
        rw [htl]
        simp (disch := omega) only [cd_neg]
      · rw [goL_fold (fun (c : Nat) (y : Int) => if strEq (clubE l x) (clubE l y) = true then c + 1 else c), cnt_foldN (fun y => strEq (clubE l x) (clubE l y))]
        rw [show List.countP (fun y => strEq (clubE l x) (clubE l y)) (g.take k) = ctF (clubE l) x s.1 by rw [hs1]; rfl]
        rfl
    · intro s _
      simp (disch := omega) only [gd_dec, Int.toNat_natCast, getD_some hg, cd_neg]
    · rw [goL_fold (clF (clubE l))]
      simp (disch := omega) only [w64_in (n := ((i : Nat) : Int) + 1)]
      rfl
  · intro n _
    simp (disch := omega) only [cd_neg]
  · rw [goL_fold (fun (n : Nat) g => clG (clubE l) g n)]
    rfl
def SeenC (s : List ByteArray) (m : List (ByteArray × Int)) : Prop := ∀ c : ByteArray, mgetD strEq c m 0 = (s.countP fun y => strEq c y : Int)
theorem SeenC.put {s : List ByteArray} {m : List (ByteArray × Int)} (h : SeenC s m) (x : ByteArray) : SeenC (s ++ [x]) (mput strEq x ((s.countP fun y => strEq x y : Int) + 1) m) := by
  intro c
  rw [mgetD_mput strEq_iff, h c, List.countP_append]
  by_cases e : c = x
  · subst e
    simp [strEq_self]
  · simp [strEq_false e]
theorem ctF_map {α : Type} (f : α → ByteArray) (x : α) (s : List α) : ctF f x s = (s.map f).countP fun y => strEq (f x) y := by
  unfold ctF
  rw [List.countP_map]
  rfl
theorem l32 {F : Nat} (hF : 400 ≤ F) {l : List Ent} (hl : l.length ≤ 300) (hS : ∀ x ∈ l, EntS x) {h : List (List Int)} (hh : ∀ g ∈ h, g.length < 400) : c32 F (l, h) = some (if entC l ≠ 0 then (0, entC l) else if formS l.length h ≠ 0 then (0, formS l.length h) else ((clashS (clubE l) h : Int), 0)) := by
  unfold c32
  have q : ∀ (a b : Int), c75 F (a :: b :: nilT Int) = some (if a ≠ 0 then a else b) := by
    intro a b
    rw [l75 (by simp [nilT]; omega) (by simp [nilT])]
    by_cases ha : a = 0 <;> by_cases hb : b = 0 <;> simp [firstNZ, nilT, ha, hb]
  simp only [l19 hF hl hS, l84 hF (show l.length < 400 by omega) hh, q, Option.bind_some]
  by_cases h0 : entC l = 0
  · simp only [h0, ne_eq, not_true_eq_false, if_false]
    by_cases hf : formS l.length h = 0
    · simp only [hf, not_true_eq_false, if_false, decide_true, Bool.not_true, cond_false]
      have hok := formS_ok hf
      have hhl := hok.len
      refine bind_list h (fun (n : Nat) i => ((n : Int), (i : Int))) (fun g n => .inl (clG (clubE l) g n)) (fun n => (n : Int)) (fun i n => n ≤ 160000 * i) 0 (by omega) rfl (by simp) ?_ ?_ ?_
      · intro i g n hil hg hn
        have hgl := hh g (List.mem_of_getElem? hg)
        have hgi := hok.inn g (List.mem_of_getElem? hg)
        refine ⟨?_, fun s' e => by
          cases e
          have := clG_le (clubE l) g n
          have : g.length * g.length ≤ 400 * 400 := Nat.mul_le_mul (by omega) (by omega)
          omega⟩
        simp (disch := omega) only [cd_pos, gd_dec, Int.toNat_natCast, getD_some hg]
        refine ex_eq (bind_sim g (fun x (s : List Int × Nat) => .inl (clF (clubE l) s x)) (fun s => s.2) (fun k s t => t.2 = ((s.2 : Int), (k : Int)) ∧ SeenC (s.1.map (clubE l)) t.1 ∧ s.1 = g.take k ∧ s.2 ≤ n + 400 * k) (fun (a : Nat) (b : List (ByteArray × Int) × Int) => b.2 = (a : Int)) ([], n) (by omega) ⟨rfl, fun c => by simp [mgetD_nil, nilT], by simp, by simp⟩ ?_ ?_ ?_)
        · intro k x s t hk hx ⟨ht, hs, hs1, hs2⟩
          obtain ⟨m, t2⟩ := t
          simp only at ht hs
          subst ht
          have hct := ctF_le (clubE l) x s.1
          have htl := len_take (l := g) (i := k) (by omega)
          have hxD := hgi x (List.mem_of_getElem? hx)
          obtain ⟨x', hx', ex⟩ := atE_get hxD
          have x1 := hxD.1
          have x2 := hxD.2
          have e1 : x'.2.1 = clubE l x := by unfold clubE; rw [ex]
          have e3 : mgetD strEq (clubE l x) m 0 = (ctF (clubE l) x s.1 : Int) := by rw [hs (clubE l x), ctF_map]
          rw [hs1, htl] at hct
          rw [← hs1] at hct
          simp (disch := omega) only [cd_pos, gd_dec, Int.toNat_natCast, getD_some hx, getD_some hx', e1, e3, w64_in]
          refine ⟨_, rfl, ?_⟩
          refine ⟨?_, ?_, ?_, ?_⟩
          · simp [clF]
          · have := hs.put (clubE l x)
            rw [← ctF_map] at this
            simpa [clF] using this
          · show s.1 ++ [x] = g.take (k + 1)
            rw [hs1]; exact take_snoc hx
          · show s.2 + ctF (clubE l) x s.1 ≤ n + 400 * (k + 1)
            omega
        · intro s t ⟨ht, hs, hs1, hs2⟩
          rw [show t = (t.1, t.2) from rfl, ht]
          simp (disch := omega) only [cd_neg]
          exact ⟨(t.1, (s.2 : Int)), rfl, rfl⟩
        · intro b hb
          rw [goL_fold (clF (clubE l))] at hb
          rw [hb]
          simp (disch := omega) only [w64_in (n := ((i : Nat) : Int) + 1)]
          exact ⟨_, rfl, rfl⟩
      · intro n _
        simp (disch := omega) only [cd_neg]
      · rw [goL_fold (fun (n : Nat) g => clG (clubE l) g n)]
        rfl
    · simp [hf]
  · simp [h0]
end Go.Proofs.Tryz
end
section
set_option maxRecDepth 100000
set_option linter.all false
namespace Go.Proofs.Tryz
open Go Go.Sx
noncomputable def lx4 (F : Nat) : Lx := { ext := [(16, (pc16 F).sm), (17, (pc17 F).sm), (31, (pc31 F).sm), (32, (pc32 F).sm), (34, (pc34 F).sm), (35, (pc35 F).sm), (36, (pc36 F).sm), (37, (pc37 F).sm), (38, (pc38 F).sm), (39, (pc39 F).sm), (40, (pc40 F).sm), (22, (pc22 F).sm), (25, (pc25 F).sm), (26, (pc26 F).sm), (33, (pc33 F).sm), (18, (pc18 F).sm), (15, (pc15 F).sm)], anns := [], still := [] }
noncomputable def c4 (F : Nat) (a : List (TEnt) × List (List Int) × Int) : Option (Bool) :=
  Option.bind (c15 F a.1) fun (v74 : List (TEnt)) => Option.bind (Option.bind (c17 F (v74, (24 : Int))) fun (v101 : Bool) => bif !v101 then (some (true)) else (Option.bind (c31 F (a.2.1, (20 : Int), (30 : Int))) fun (v102 : Bool) => some (v102))) fun (v75 : Bool) => bif v75 then (some (true)) else (Option.bind (c18 F v74) fun (v76 : Int) => Option.bind (c32 F (a.1, a.2.1)) fun (v77 : Int × Int) => Option.bind (c33 F (a.1, a.2.2, a.2.1)) fun (v78 : Int) => Option.bind (c34 F (a.1, (↑(List.length a.2.1) : Int))) fun (v79 : Int × Int) => Option.bind (c26 F ((↑(List.length a.2.1) : Int), (1 : Int), (16 : Int))) fun (v80 : Int) => Option.bind (c25 F (v76 :: v80 :: nilT Int)) fun (v81 : Int) => Option.bind (bif !decide (v81 = (0 : Int)) then (Option.bind (c35 F (v79.1, v79.2, v81, (0 : Int))) fun (v96 : Bool) => bif !v96 then (some (true)) else (bif decide (v81 = (0 : Int)) then (Option.bind (c36 F (v74, (↑(List.length a.2.1) : Int))) fun (v97 : Int) => Option.bind (c35 F (v79.1, v79.2, (0 : Int), v97)) fun (v98 : Bool) => some (!v98)) else (some (false)))) else (bif decide (v81 = (0 : Int)) then (Option.bind (c36 F (v74, (↑(List.length a.2.1) : Int))) fun (v99 : Int) => Option.bind (c35 F (v79.1, v79.2, (0 : Int), v99)) fun (v100 : Bool) => some (!v100)) else (some (false)))) fun (v82 : Bool) => bif v82 then (some (false)) else (bif !decide (v76 = (0 : Int)) then (Option.bind (Option.bind (c35 F (v77.1, v77.2, v76, (0 : Int))) fun (v84 : Bool) => bif v84 then (some (decide (v78 = v76))) else (some (false))) fun (v83 : Bool) => some (v83)) else (Option.bind (c37 F ((↑(List.length a.1) : Int), a.2.1)) fun (v85 : Int) => Option.bind (c22 F (a.2.2, (↑(List.length a.1) : Int))) fun (v86 : Int) => Option.bind (c25 F (v86 :: v85 :: nilT Int)) fun (v87 : Int) => Option.bind (bif decide (v87 = (0 : Int)) then (Option.bind (c39 F (v74, a.2.2, a.2.1)) fun (v94 : Bool) => Option.bind (c38 F (!v94, (29 : Int))) fun (v95 : Int) => some (v95)) else (some (v87))) fun (v88 : Int) => bif !decide (v85 = (0 : Int)) then (Option.bind (Option.bind (c35 F (v77.1, v77.2, v85, (0 : Int))) fun (v90 : Bool) => bif v90 then (some (decide (v78 = v88))) else (some (false))) fun (v89 : Bool) => some (v89)) else (Option.bind (Option.bind (c40 F (v74, a.2.1)) fun (v92 : Int) => Option.bind (c35 F (v77.1, v77.2, (0 : Int), v92)) fun (v93 : Bool) => bif v93 then (some (decide (v78 = v88))) else (some (false))) fun (v91 : Bool) => some (v91)))))
noncomputable def pc4 (F : Nat) : PC := { ats := [.val (.seq [.str, .str, .str, .int .i64, .str]), .val (.seq [.seq [.int .i64]]), .val (.int .i64)], rts := [.val (.bool)], code := c4 F }
theorem lx4_ok (F : Nat) : (lx4 F).Ok cx := Lx.ok_cons (PC.sm_ok (pc16_ok F)) (Lx.ok_cons (PC.sm_ok (pc17_ok F)) (Lx.ok_cons (PC.sm_ok (pc31_ok F)) (Lx.ok_cons (PC.sm_ok (pc32_ok F)) (Lx.ok_cons (PC.sm_ok (pc34_ok F)) (Lx.ok_cons (PC.sm_ok (pc35_ok F)) (Lx.ok_cons (PC.sm_ok (pc36_ok F)) (Lx.ok_cons (PC.sm_ok (pc37_ok F)) (Lx.ok_cons (PC.sm_ok (pc38_ok F)) (Lx.ok_cons (PC.sm_ok (pc39_ok F)) (Lx.ok_cons (PC.sm_ok (pc40_ok F)) (Lx.ok_cons (PC.sm_ok (pc22_ok F)) (Lx.ok_cons (PC.sm_ok (pc25_ok F)) (Lx.ok_cons (PC.sm_ok (pc26_ok F)) (Lx.ok_cons (PC.sm_ok (pc33_ok F)) (Lx.ok_cons (PC.sm_ok (pc18_ok F)) (Lx.ok_cons (PC.sm_ok (pc15_ok F)) (Lx.ok_nil)))))))))))))))))
def an4 (F : Nat) : Ann := .two .leaf (.two .leaf (.two (.two (.join [(.normal, ⟨[.slot 29 (.val (.bool))], []⟩)] ⟨[29, 28, 27, 26, 25, 24, 23, 22, 21, 20, 19], [], []⟩ .leaf) .leaf) (.two .leaf (.two .leaf (.two .leaf (.two .leaf (.two .leaf (.two (.two (.join [(.normal, ⟨[.slot 78 (.val (.bool))], []⟩)] ⟨[78, 77, 76, 75, 74, 73, 72, 71, 70, 69, 68, 67, 66, 65, 64, 63, 62, 61, 60, 59, 58, 57, 56], [], []⟩ .leaf) .leaf) (.two (.two .leaf (.two (.two (.join [(.normal, ⟨[.slot 6 (.val (.bool))], []⟩)] ⟨[6, 89, 88, 87, 86, 85, 84, 83, 82, 81], [], []⟩ .leaf) .leaf) .leaf)) (.two .leaf (.two .leaf (.two (.two .leaf (.join [(.normal, ⟨[.slot 16 (.val (.int .i64))], []⟩)] ⟨[16, 108, 107, 106, 105, 104, 103], [], []⟩ .leaf)) (.two (.two .leaf (.two (.two (.join [(.normal, ⟨[.slot 6 (.val (.bool))], []⟩)] ⟨[6, 119, 118, 117, 116, 115, 114, 113, 112, 111], [], []⟩ .leaf) .leaf) .leaf)) (.two (.join [(.normal, ⟨[.slot 6 (.val (.bool))], []⟩)] ⟨[6, 130, 129, 128, 127, 126, 125, 124, 123, 122, 121, 120], [], []⟩ .leaf) .leaf))))))))))))))
theorem c4_eq (F : Nat) (a : List (TEnt) × List (List Int) × Int) : codeOf cx (lx4 F) 1000 (an4 F) f4 (bodyOf f4) [.val (.seq [.str, .str, .str, .int .i64, .str]), .val (.seq [.seq [.int .i64]]), .val (.int .i64)] [.val (.bool)] a = c4 F a := by kernel_rfl
theorem pc4_ok (F : Nat) : PCOk cx 4 (pc4 F) := PCOk.of_eval cx_ok (lx4_ok F) (n := 1000) (an := an4 F) (fn := f4) (c := bodyOf f4) (by kernel_rfl) (by kernel_rfl) (fun a y h => (c4_eq F a).trans h) (by kernel_rfl)
end Go.Proofs.Tryz
end
