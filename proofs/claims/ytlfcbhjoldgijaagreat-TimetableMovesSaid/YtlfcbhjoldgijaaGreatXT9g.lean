/- Plain law: short plans. Plain law: the days of athletes. Plain law: days and rests, in the program and in the reference. Plain law: windows and chains, in the program. Plain law: windows and chains, in the reference; both are the same. Plain law: the windows of the program are those of the reference. Plain law: the reference's copy of a plan. slices.Delete in this program is the library's. -/
import Derived.Test.YtlfcbhjoldgijaaGreatXT9c
import Derived.Test.YtlfcbhjoldgijaaGreatXSxSu
import Derived.Test.YtlfcbhjoldgijaaGreatXTtCx
section
set_option maxRecDepth 100000
set_option linter.unusedVariables false
set_option linter.unusedSimpArgs false
namespace Go.Proofs.Tryz
open Go Go.Sx
def BrOk (l : List ByteArray) : Prop := l.length ≤ 162 ∧ ∀ s ∈ l, s.size ≤ 40
theorem l62 {F : Nat} (hF : 400 ≤ F) {l : List ByteArray} : ∃ b, c62 F l = some b ∧ (b = true → BrOk l) := by
  unfold c62
  have e : (bif decide (8 < (l.length : Int)) then bif decide ((l.length : Int) ≤ 160) then some true else some (decide (162 < (l.length : Int))) else some (decide (162 < (l.length : Int)))) = some (decide (¬ (l.length ≤ 162 ∧ (l.length ≤ 8 ∨ 160 < l.length)))) := by
    by_cases a1 : 8 < (l.length : Int)
    · by_cases a2 : (l.length : Int) ≤ 160
      · simp only [a1, a2, decide_true, cond_true, Option.some.injEq]
        exact (decide_eq_true (by omega)).symm
      · simp only [a1, a2, decide_true, cond_true, decide_false, cond_false, Option.some.injEq, decide_eq_decide]
        omega
    · simp only [a1, decide_false, cond_false, Option.some.injEq, decide_eq_decide]
      omega
  rw [e]
  by_cases hg : l.length ≤ 162 ∧ (l.length ≤ 8 ∨ 160 < l.length)
  · simp only [hg, not_true_eq_false, decide_false, Option.bind_some, cond_false]
    refine bind_all l (fun x => x.size ≤ 40) (fun b : Bool ⊕ Unit => b = .inl false ∨ (b = .inr () ∧ ∀ x ∈ l, x.size ≤ 40)) (by omega) ?_ ?_ ?_
    · intro i x hi hx
      simp (disch := omega) only [cd_pos, gd_dec, Int.toNat_natCast, getD_some hx, w64_in]
      by_cases a1 : (40 : Int) < x.size
      · exact ⟨_, by simp [a1], .inr ⟨_, rfl, .inl rfl⟩⟩
      · exact ⟨_, by simp [a1], .inl ⟨rfl, by omega⟩⟩
    · intro hgood
      simp (disch := omega) only [cd_neg]
      exact ⟨_, rfl, .inr ⟨rfl, hgood⟩⟩
    · intro b hb
      rcases hb with rfl | ⟨rfl, h2⟩
      · exact ⟨false, rfl, by simp⟩
      · exact ⟨true, rfl, fun _ => ⟨hg.1, h2⟩⟩
  · simp only [hg, not_false_eq_true, decide_true, Option.bind_some, cond_true]
    exact ⟨false, rfl, by simp⟩
def RShort (x : Rnd) : Prop := x.1.size ≤ 40 ∧ BrOk x.2.2.1 ∧ BrOk x.2.2.2.1 ∧ BrOk x.2.2.2.2.1
theorem l16 {F : Nat} (hF : 400 ≤ F) {p : Pln} : ∃ b, c16 F p = some b ∧ (b = true → PShort p) := by
  unfold c16
  by_cases h1 : (26 : Int) < p.1.length
  · exact ⟨false, by simp [h1], by simp⟩
  · by_cases h2 : (28 : Int) < p.2.1.length
    · exact ⟨false, by simp [h1, h2], by simp⟩
    · simp only [h1, h2, decide_false, cond_false, Option.bind_some]
      refine bind_all p.1 RShort (fun b : Bool ⊕ Unit => b = .inl false ∨ (b = .inr () ∧ ∀ x ∈ p.1, RShort x)) (by omega) ?_ ?_ ?_
      · intro i x hi hx
        obtain ⟨b1, e1, q1⟩ := l62 hF (l := x.2.2.1)
        obtain ⟨b2, e2, q2⟩ := l62 hF (l := x.2.2.2.1)
        obtain ⟨b3, e3, q3⟩ := l62 hF (l := x.2.2.2.2.1)
        simp (disch := omega) only [cd_pos, gd_dec, Int.toNat_natCast, getD_some hx, w64_in, e1, e2, e3, Option.bind_some]
        by_cases a1 : (40 : Int) < x.1.size
        · exact ⟨_, by simp [a1], .inr ⟨_, rfl, .inl rfl⟩⟩
        · cases b1 with
          | false => exact ⟨_, by simp [a1], .inr ⟨_, rfl, .inl rfl⟩⟩
          | true => cases b2 with
            | false => exact ⟨_, by simp [a1], .inr ⟨_, rfl, .inl rfl⟩⟩
            | true => cases b3 with
              | false => exact ⟨_, by simp [a1], .inr ⟨_, rfl, .inl rfl⟩⟩
              | true => exact ⟨_, by simp [a1], .inl ⟨rfl, by omega, q1 rfl, q2 rfl, q3 rfl⟩⟩
      · intro hgood
        simp (disch := omega) only [cd_neg]
        exact ⟨_, rfl, .inr ⟨rfl, hgood⟩⟩
      · intro b hb
        rcases hb with rfl | ⟨rfl, h3⟩
        · exact ⟨false, rfl, by simp⟩
        · refine ⟨true, rfl, fun _ => ⟨by omega, by omega, fun x hx => ?_⟩⟩
          obtain ⟨c0, c1, c2, c3⟩ := h3 x hx
          refine ⟨c0, fun l hl => ?_⟩
          rcases hl with rfl | rfl | rfl
          · exact c1
          · exact c2
          · exact c3
end Go.Proofs.Tryz
end
section
set_option maxRecDepth 100000
set_option linter.unusedVariables false
set_option linter.unusedSimpArgs false
namespace Go.Proofs.Tryz
open Go Go.Sx
theorem bind_inv {σ β γ : Type} {step : σ → Option (σ ⊕ β)} {F : Nat} {t : σ} {k : β → Option γ} {P : γ → Prop} (Inv : σ → Prop) (m : σ → Nat) (Post : β → Prop)
    (h : ∀ x, Inv x → (∃ y, step x = some (.inl y) ∧ Inv y ∧ m y < m x) ∨ ∃ b, step x = some (.inr b) ∧ Post b) (h0 : Inv t) (hF : m t < F) (hk : ∀ b, Post b → ∃ r, k b = some r ∧ P r) : ∃ r, Option.bind (loopO step F t) k = some r ∧ P r := by
  obtain ⟨b, h1, h2⟩ := loopO_ex Inv m Post h F t h0 hF
  rw [h1]
  exact hk b h2
theorem x146 (F : Nat) (a) : cx146_0 F a = gStab (cx124_0 F) (0 : Int) F a := by kernel_rfl
def InE (n : Nat) (a : Int) : Prop := 0 ≤ a ∧ a < n
def ltT (t : List Int) (a b : Int) : Bool := decide (tq t a < tq t b)
theorem ltT_on (t : List Int) (n : Nat) : LtOn (ltT t) (InE n) := by
  refine ⟨fun x y _ _ h => ?_, fun x y z _ _ _ h => ?_⟩
  · simp only [ltT, decide_eq_true_eq, decide_eq_false_iff_not] at h ⊢; omega
  · simp only [ltT, decide_eq_true_eq] at h ⊢; omega
theorem l117 (F : Nat) (a b : Int) : c117 F (a, b) = some (if a < b then -1 else if b < a then 1 else 0) := by
  unfold c117
  by_cases h : a < b
  · simp [h]
  · by_cases h2 : b < a <;> simp [h, h2]
theorem cmp124 {F : Nat} {t : List Int} : CmpOk (cx124_0 F) t (ltT t) (InE t.length) := by
  intro a b ha hb
  have a1 := ha.1; have a2 := ha.2; have b1 := hb.1; have b2 := hb.2
  refine ⟨if tq t a < tq t b then -1 else if tq t b < tq t a then 1 else 0, ?_, ?_⟩
  · unfold cx124_0
    simp (disch := omega) only [gd_dec, l117, Option.bind_some]
  · unfold ltT
    generalize tq t a = u
    generalize tq t b = v
    by_cases h : u < v
    · simp [h]
    · by_cases h2 : v < u <;> simp [h, h2]
theorem l123 {F : Nat} {t d : List Int} (hd : ∀ x ∈ d, InE t.length x) (hl : d.length < F) (hb : d.length ≤ 1000) : ∃ L, cx123_0 F (d, t) = some L ∧ StabS (ltT t) d L := by
  obtain ⟨L, h1, h2⟩ := gStab_ok (ltT_on t t.length) (cmp124 (F := F)) (d := (0 : Int)) hd hl (by omega)
  refine ⟨L, ?_, h2⟩
  unfold cx123_0
  simp [gd_true, x146, h1]
def needR (a : ByteArray) (k : Nat) (x : Rnd) : List Int := if (x.2.2.2.2.1.any fun y => strEq a y) = true then [(k : Int)] else []
def needL (p : Pln) (a : ByteArray) : List Int := ifl (needR a) 0 p.1
theorem needR_len (a : ByteArray) (k : Nat) (x : Rnd) : (needR a k x).length ≤ 1 := by
  unfold needR
  split <;> simp
theorem needL_in {p : Pln} {a : ByteArray} : ∀ x ∈ needL p a, InE p.1.length x := by
  intro x hx
  obtain ⟨j, y, hy, hr⟩ := ifl_mem hx
  have hj := (List.getElem?_eq_some_iff.1 hy).1
  unfold needR at hr
  split at hr
  · rw [List.mem_singleton.1 hr]
    exact ⟨by omega, by omega⟩
  · simp at hr
theorem l91 {F : Nat} (hF : 400 ≤ F) {p : Pln} {t : List Int} (h : PV p) (ht : TOk p t) {a : ByteArray} : ∃ L, c91 F (p, t, a) = some L ∧ StabS (ltT t) (needL p a) L := by
  unfold c91
  have hn := h.n1
  have hsm := h.sh.sm
  have hlen := ifl_len (needR_len a) p.1 0
  have hll : (needL p a).length ≤ 24 := by unfold needL; omega
  obtain ⟨L, h1, h2⟩ := l123 (F := F) (t := t) (d := needL p a) (fun x hx => by rw [ht.len]; exact needL_in x hx) (by omega) (by omega)
  refine ⟨L, ?_, h2⟩
  refine bind_ifl p.1 0 (needR a) 1 [] (by omega) rfl (needR_len a) ?_ ?_ ?_
  · intro i x s hi hx hs hs2
    have hsl : s.length ≤ 26 := by simp only [List.length_nil] at hs; omega
    have hmx := hsm.2.2 x (List.mem_of_getElem? hx)
    simp (disch := omega) only [Nat.zero_add, cd_pos, len_snoc, gd_dec, w64_in, Int.toNat_natCast, getD_some hx, l111 hF hmx.2.2.2.1, decide_true, Bool.and_self, gd_true, Option.bind_some]
    unfold needR
    cases x.2.2.2.2.1.any fun y => strEq a y <;> simp [gd_true, nilT]
  · intro s
    simp (disch := omega) only [cd_neg, decide_true, Bool.and_self, gd_true, Option.bind_some, Nat.zero_add]
  · simp only [List.nil_append, decide_true, Bool.and_self, gd_true, Option.bind_some]
    rw [show ifl (needR a) 0 p.1 = needL p a from rfl, h1, Option.bind_some]
    have hL := h2.len
    have e : List.take (needL p a).length (List.drop 0 L) = L := by rw [← hL, List.drop_zero, List.take_length]
    simp (disch := omega) only [gd_dec, e]
theorem day_same {p : Pln} {t : List Int} (ht : TOk p t) {a : ByteArray} {L M : List Int} (h1 : StabS (ltT t) (needL p a) L) (h2 : StabS (ltT t) (needL p a) M) : L = M :=
  StabS.unique (ltT_on t p.1.length) needL_in h1 h2
end Go.Proofs.Tryz
end
section
set_option maxRecDepth 100000
set_option linter.unusedVariables false
set_option linter.unusedSimpArgs false
namespace Go.Proofs.Tryz
open Go Go.Sx
def minL (m : Int) (l : List Int) : Int := l.foldl (fun m x => if x < m then x else m) m
def gapsS (p : Pln) (t : List Int) : Int → List Int → List Int
  | _, [] => []
  | prev, x :: l => (tq t x - (tq t prev + (rq p prev).2.1)) :: gapsS p t x l
theorem l93 {F : Nat} {g : Int} {l : List Int} (hF : l.length + 1 < F) (hb : l.length ≤ 1000) : c93 F (g :: l) = some (minL g l) := by
  unfold c93
  have h1 : ¬ ((g :: l).length : Int) < 1 := by simp only [List.length_cons]; omega
  simp only [h1, decide_false, cond_false]
  have hg : (g :: l).getD 0 0 = g := rfl
  have hl : (g :: l).length = l.length + 1 := rfl
  simp (disch := omega) only [gd_dec, hg]
  refine bind_list l (fun (s : Int) i => (s, ((i + 1 : Nat) : Int))) (fun x s => .inl (if x < s then x else s)) (fun s => s) (fun _ _ => True) g (by omega) rfl trivial ?_ ?_ ?_
  · intro i x s hi hx _
    refine ⟨?_, fun _ _ => trivial⟩
    have hx' : (g :: l)[i + 1]? = some x := by simpa using hx
    simp (disch := omega) only [cd_pos, gd_dec, w64_in, Int.toNat_natCast, getD_some hx']
    rfl
  · intro s _
    simp (disch := omega) only [cd_neg]
  · rw [goL_fold (fun s x => if x < s then x else s)]
    rfl
theorem l90 {F : Nat} (hF : 400 ≤ F) {p : Pln} {t : List Int} (h : PShort p) (hl : t.length ≤ 300) {a : ByteArray} {L : List Int} (hL : soundE p t = 0 → c91 F (p, t, a) = some L) : c90 F (p, t, a) = some (if soundE p t = 0 then (if L.length = 0 then 10 else 0) else soundE p t) := by
  unfold c90
  simp only [peta, l96 hF h hl, Option.bind_some]
  by_cases h0 : soundE p t = 0
  · simp only [h0, hL h0, decide_true, Bool.not_true, cond_false, if_true, Option.bind_some, l88, decide_eq_true_eq]
    by_cases h1 : L.length = 0
    · simp [h1]
    · have : ¬ (L.length : Int) = 0 := by omega
      simp [h1, this]
  · simp [h0]
theorem l40 {F : Nat} (hF : 400 ≤ F) {p : Pln} {t : List Int} (h : PShort p) (hl : t.length ≤ 300) {a : ByteArray} {L : List Int} (hL : soundE p t = 0 → c91 F (p, t, a) = some L) : c40 F (p, t, a) = some (if soundE p t = 0 then (if L.length = 0 then (nilT Int, 10) else (L, 0)) else (nilT Int, soundE p t)) := by
  unfold c40
  simp only [peta, l90 hF h hl hL, Option.bind_some]
  by_cases h0 : soundE p t = 0
  · simp only [h0, if_true]
    by_cases h1 : L.length = 0
    · simp [h1]
    · simp [h1, hL h0]
  · simp [h0]
def restB (p : Pln) (t : List Int) (x : Int) (s : Int × List Int) : (Int × List Int) ⊕ (Unit × Int × List Int) := .inl (tq t x + (rq p x).2.1, if 0 ≤ s.1 then s.2 ++ [tq t x - s.1] else s.2)
theorem restB_go {p : Pln} {t : List Int} (h : PV p) (ht : TOk p t) : ∀ (l : List Int) (x : Int) (out : List Int), (∀ y ∈ x :: l, InE p.1.length y) → ∃ u, goL (restB p t) (fun s => ((), s.1, s.2)) l (tq t x + (rq p x).2.1, out) = ((), u, out ++ gapsS p t x l)
  | [], x, out, _ => ⟨tq t x + (rq p x).2.1, by simp only [goL_nil, gapsS, List.append_nil]⟩
  | y :: l, x, out, hy => by
    have hx := hy x (by simp)
    have b1 := ht.at hx.1 hx.2
    have b2 := (h.at hx.1 hx.2).1
    obtain ⟨u, hu⟩ := restB_go h ht l y (out ++ [tq t y - (tq t x + (rq p x).2.1)]) (fun z hz => hy z (by simp at hz ⊢; right; exact hz))
    refine ⟨u, ?_⟩
    rw [goL_cons]
    have hpos : (0 : Int) ≤ tq t x + (rq p x).2.1 := by omega
    simp only [restB, hpos, if_true] at hu ⊢
    rw [hu]
    simp [gapsS]
theorem gapsS_len (p : Pln) (t : List Int) : ∀ (l : List Int) (x : Int), (gapsS p t x l).length = l.length
  | [], x => rfl
  | y :: l, x => by simp [gapsS, gapsS_len p t l]
def restV (p : Pln) (t : List Int) : List Int → Int × Int
  | [] => (0, 7)
  | x :: l => match gapsS p t x l with
    | [] => (0, 7)
    | g :: gs => (minL g gs, 0)
theorem l41 {F : Nat} (hF : 400 ≤ F) {p : Pln} {t : List Int} (h : PShort p) (hl : t.length ≤ 300) {a : ByteArray} {L : List Int} (hL : soundE p t = 0 → c91 F (p, t, a) = some L) (hD : ∀ y ∈ L, InE p.1.length y) (hLl : L.length ≤ 24) :
    c41 F (p, t, a) = some (if soundE p t = 0 then (if L.length = 0 then (0, 10) else restV p t L) else (0, soundE p t)) := by
  unfold c41
  simp only [peta, l90 hF h hl hL, Option.bind_some]
  by_cases h0 : soundE p t = 0
  · simp only [h0, if_true]
    by_cases h1 : L.length = 0
    · simp [h1]
    · obtain ⟨hp, hf⟩ := soundE_zero h0
      have hv := PV.of h hp
      have ht := (TOk.of hf).1
      have hlt := ht.len
      simp only [h1, if_false, decide_true, Bool.not_true, cond_false, hL h0, Option.bind_some]
      refine bind_list L (fun (s : Int × List Int) i => ((), s.1, s.2, (i : Int))) (restB p t) (fun s => ((), s.1, s.2)) (fun i s => -1 ≤ s.1 ∧ s.1 ≤ 4398046512545 ∧ s.2.length ≤ i) (-1, []) (by omega) rfl ⟨by simp, by simp, by simp⟩ ?_ ?_ ?_
      · intro i x s hi hx ⟨hs1, hs2, hs3⟩
        have hxD := hD x (List.mem_of_getElem? hx)
        have x1 := hxD.1
        have x2 := hxD.2
        have b1 := ht.at hxD.1 hxD.2
        have b2 := (hv.at hxD.1 hxD.2).1
        obtain ⟨s1, s2⟩ := s
        simp only at hs1 hs2 hs3
        simp only [tq, rq, r0] at b1 b2
        unfold restB
        simp only [tq, rq, r0]
        refine ⟨?_, ?_⟩
        · by_cases hp : 0 ≤ s1
          · simp (disch := omega) only [cd_pos, gd_dec, w64_in, Int.toNat_natCast, getD_some hx, hp, if_true, decide_true, len_snoc, Bool.and_self, gd_true, Option.bind_some]
            rfl
          · simp (disch := omega) only [cd_pos, cd_neg, gd_dec, w64_in, Int.toNat_natCast, getD_some hx, hp, if_false, decide_true, len_snoc, Bool.and_self, gd_true, Option.bind_some]
            rfl
        · intro s' hs'
          injection hs' with hs'
          rw [← hs']
          simp only []
          refine ⟨by omega, by omega, ?_⟩
          split
          · rw [List.length_append, List.length_singleton]; omega
          · omega
      · intro s ⟨_, _, hs3⟩
        simp (disch := omega) only [cd_neg, decide_true, Bool.and_self, gd_true, Option.bind_some]
      · cases L with
        | nil => exact absurd rfl h1
        | cons x l =>
          obtain ⟨u, hu⟩ := restB_go hv ht l x [] hD
          have e : restB p t x (-1, []) = .inl (tq t x + (rq p x).2.1, []) := by simp [restB]
          have hgo : goL (restB p t) (fun s => ((), s.1, s.2)) (x :: l) (-1, []) = ((), u, gapsS p t x l) := by
            rw [goL_cons, e]
            simpa using hu
          simp only [hgo, restV]
          have hgl := gapsS_len p t l x
          have hll : l.length ≤ 23 := by simp only [List.length_cons] at hLl; omega
          cases hg : gapsS p t x l with
          | nil => simp
          | cons g gs =>
            rw [hg] at hgl
            simp only [List.length_cons] at hgl
            have hne : ¬ (((g :: gs).length : Nat) : Int) = 0 := by simp only [List.length_cons]; omega
            simp only [hne, decide_false, cond_false, take_all, Nat.zero_add, Nat.le_refl, decide_true, Bool.and_self, gd_true, l93 (F := F) (g := g) (l := gs) (by omega) (by omega), Option.bind_some]
  · simp [h0]
end Go.Proofs.Tryz
end
section
set_option maxRecDepth 100000
set_option linter.unusedVariables false
set_option linter.unusedSimpArgs false
namespace Go.Proofs.Tryz
open Go Go.Sx
theorem PV.rulM {p : Pln} (h : PV p) : ∀ r ∈ rulesS p, RulOk p r := fun r hr => by
  obtain ⟨i, hi, rfl⟩ := List.mem_iff_getElem.1 hr
  exact h.rul (List.getElem?_eq_getElem hi)
theorem apartR_kind {p : Pln} : ∀ r ∈ apartR p, r.1 = kA ∨ r.1 = kF ∨ r.1 = kT := fun r hr => by
  obtain ⟨a, x, hx, hr⟩ := ifl_mem hr
  obtain ⟨j, y, hy, hr⟩ := ifl_mem hr
  rcases pairR_mem hr with rfl | rfl | rfl
  · exact .inl rfl
  · exact .inr (.inl rfl)
  · exact .inr (.inr rfl)
theorem ordR_kind {p : Pln} : ∀ r ∈ ifl ordR 0 p.2.1, r.1 = kO := fun r hr => by
  obtain ⟨a, x, hx, hr⟩ := ifl_mem hr
  rw [List.mem_singleton.1 hr]
theorem rq_nat {p : Pln} {i : Nat} (h : i < p.1.length) : rq p (i : Int) = p.1[i] := by
  simp only [rq, Int.toNat_natCast]
  exact getD_some (List.getElem?_eq_getElem h)
end Go.Proofs.Tryz
end
section
set_option maxRecDepth 100000
set_option linter.unusedVariables false
set_option linter.unusedSimpArgs false
namespace Go.Proofs.Tryz
open Go Go.Sx
end Go.Proofs.Tryz
end
section
set_option maxRecDepth 100000
set_option linter.unusedVariables false
set_option linter.unusedSimpArgs false
namespace Go.Proofs.Tryz
open Go Go.Sx
end Go.Proofs.Tryz
end
section
set_option maxRecDepth 100000
set_option linter.unusedVariables false
set_option linter.unusedSimpArgs false
namespace Go.Proofs.Tryz
open Go Go.Sx
theorem l14 {F : Nat} {p : Pln} (h1 : p.1.length < F) (h2 : p.2.1.length < F) (hb1 : p.1.length * 112 ≤ 140737488351232) (hb2 : p.2.1.length * 24 ≤ 140737488351232) : c14 F p = some p := by
  unfold c14
  refine bind_list p.1 (fun (_ : Unit) i => (p.2.2, p.1.take i, (i : Int))) (fun _ _ => .inl ()) (fun _ => (p.2.2, p.1)) (fun _ _ => True) () h1 rfl trivial ?_ ?_ ?_
  · intro i x _ hi hx _
    refine ⟨?_, fun _ _ => trivial⟩
    have hl := len_take (l := p.1) (i := i) (by omega)
    have hl' := len_take (l := p.1) (i := i + 1) (by omega)
    simp (disch := omega) only [cd_pos, gd_dec, w64_in, Int.toNat_natCast, getD_some hx, peta, take_snoc hx, hl, hl', decide_true, Bool.and_self, gd_true, Option.bind_some]
    rfl
  · intro _ _
    simp (disch := omega) only [cd_neg, List.take_length, decide_true, Bool.and_self, gd_true, Option.bind_some]
  · rw [goL_unit]
    simp only [decide_true, Bool.and_self, gd_true, Option.bind_some]
    refine bind_list p.2.1 (fun (_ : Unit) i => (p.2.2, p.1, p.2.1.take i, (i : Int))) (fun _ _ => .inl ()) (fun _ => (p.2.2, p.1, p.2.1)) (fun _ _ => True) () h2 rfl trivial ?_ ?_ ?_
    · intro i x _ hi hx _
      refine ⟨?_, fun _ _ => trivial⟩
      have hl := len_take (l := p.2.1) (i := i) (by omega)
      have hl' := len_take (l := p.2.1) (i := i + 1) (by omega)
      simp (disch := omega) only [cd_pos, gd_dec, w64_in, Int.toNat_natCast, getD_some hx, peta, take_snoc hx, hl, hl', decide_true, Bool.and_self, gd_true, Option.bind_some]
      rfl
    · intro _ _
      simp (disch := omega) only [cd_neg, List.take_length, decide_true, Bool.and_self, gd_true, Option.bind_some]
    · rw [goL_unit]
      simp only [take_all, Nat.zero_add, Nat.le_refl, decide_true, Bool.and_self, gd_true]
def roomP (p : Pln) (t : List Int) : Nat := p.1.length + p.2.1.length + t.length + 4000
end Go.Proofs.Tryz
end
section
set_option maxRecDepth 100000
namespace Go.Proofs.Tryz
open Go Go.Sx
def delRen : Shelf.Ren := ⟨fun x => match x with | 23 => 84 | y => y, fun x => match x with | 22 => 49 | y => y, fun x => x⟩
theorem layDel : Proofs.Lays2.n23 cx.P delRen := {
  mixed := by kernel_rfl
  f23 := by kernel_rfl
  t0 := by kernel_rfl
  a0 := fun w => by kernel_rfl
  z0 := fun w => by kernel_rfl
  v0 := fun w => by kernel_rfl
  t3 := by kernel_rfl
  a3 := fun w => by kernel_rfl
  z3 := fun w => by kernel_rfl
  v3 := fun w => by kernel_rfl
  t4 := by kernel_rfl
  a4 := fun w => by kernel_rfl
  z4 := fun w => by kernel_rfl
  v4 := fun w => by kernel_rfl
  t22 := by kernel_rfl
  a22 := fun w => by kernel_rfl
  z22 := fun w => by kernel_rfl
  v22 := fun w => by kernel_rfl
  i3 := by kernel_rfl }
theorem del84_ok : SmOk cx 84 delSm := delSm_ok (ρ0 := delRen) (g := 84) rfl ⟨f84, by kernel_rfl⟩ layDel
end Go.Proofs.Tryz
end
