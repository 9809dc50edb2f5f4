/- Plain law: the reference's tables of all sequences. Plain law: the least end and the first table, of the reference and of the program. And further parts. -/
import Derived.Test.YtlfcbhjoldgijaaGreatXT9x
import Derived.Test.YtlfcbhjoldgijaaGreatXT9t
import Derived.Test.YtlfcbhjoldgijaaGreatXSxQh
import Derived.Test.YtlfcbhjoldgijaaGreatXTtCx
import Derived.Test.YtlfcbhjoldgijaaGreatXT9n
import Derived.Test.YtlfcbhjoldgijaaGreatXTtR2
set_option linter.unusedVariables false
set_option linter.unusedSimpArgs false
set_option maxRecDepth 1000000
set_option linter.all false
namespace Go.Proofs.Tryz
open Go Go.Sx
theorem seq_ex (n : Nat) (f : List Int) : ∃ seq ∈ permS n, SortS f seq := by
  refine ⟨(rngI n).mergeSort (fun a b => decide (tq f a ≤ tq f b)), perm_all (List.mergeSort_perm _ _), ?_⟩
  have := List.pairwise_mergeSort (le := fun a b : Int => decide (tq f a ≤ tq f b)) (fun a b c h1 h2 => by simp only [decide_eq_true_eq] at *; omega) (fun a b => by simp only [Bool.or_eq_true, decide_eq_true_eq]; omega) (rngI n)
  exact this.imp (fun h => by simpa using h)
noncomputable def earO (p : Pln) (F : Nat) (B : List Bool) (seq : List Int) : List Int × Bool := (c115 F (p, condS p, B, seq)).getD ([], false)
theorem earO_ok {F : Nat} (hF : 4000 ≤ F) {p : Pln} (hp : PV p) {B : List Bool} (hB : B.length = (rulesS p).length) {seq : List Int} (hs : seq ∈ permS p.1.length) : c115 F (p, condS p, B, seq) = some (earO p F B seq) ∧ EarS p B seq (earO p F B seq) := by
  obtain ⟨x, h1, h2⟩ := l115 hF hp hB hs
  unfold earO
  rw [h1]
  exact ⟨rfl, h2⟩
theorem l114 {F : Nat} (hF : 4000 ≤ F) {n : Nat} (hn : n ≤ 6) : c114 F (n : Int) = some (permS n) := r114_ok hF F n (by omega) hn
theorem l74 {F : Nat} (hF : 4000 ≤ F) {p : Pln} (hp : PV p) (hn : p.1.length ≤ 6) {B : List Bool} (hB : B.length = (rulesS p).length) : ∃ b, c74 F (p, B) = some b ∧ (b = true ↔ ∃ f, Hol p (chS p B) f) := by
  unfold c74
  simp only [peta, l37 (show 400 ≤ F by omega) hp.sh, l114 hF hn, Option.bind_some]
  have hc := permS_cnt p.1.length hn
  refine ⟨(permS p.1.length).any fun s => (earO p F B s).2, ?_, ?_⟩
  · refine bind_any (permS p.1.length) (fun s => (earO p F B s).2) (.inl true) (.inr ()) (by omega) ?_ ?_ ?_
    · intro i x hi hx
      have hxm := List.mem_of_getElem? hx
      simp (disch := omega) only [cd_pos, gd_dec, Int.toNat_natCast, getD_some hx, (earO_ok hF hp hB hxm).1, Option.bind_some, w64_in]
      cases (earO p F B x).2 <;> simp
    · simp (disch := omega) only [cd_neg]
    · cases ((permS p.1.length).any fun s => (earO p F B s).2) <;> simp
  · rw [List.any_eq_true]
    constructor
    · rintro ⟨s, hs, h⟩
      exact ⟨_, ((earO_ok hF hp hB hs).2.yes h).1⟩
    · rintro ⟨f, hf⟩
      obtain ⟨s, hs, hsf⟩ := seq_ex p.1.length f
      refine ⟨s, hs, ?_⟩
      apply Classical.byContradiction
      intro h
      exact (earO_ok hF hp hB hs).2.no h f hf hsf
theorem l75 {F n : Nat} (hF : n < F) (hn : n ≤ 100000) : c75 F (n : Int) = some (List.replicate n true) := by
  obtain ⟨r, h1, h2⟩ : ∃ r, c75 F (n : Int) = some r ∧ r = List.replicate n true := by
    unfold c75
    simp (disch := omega) only [gd_dec, Int.toNat_natCast]
    refine bind_cnt 0 n (fun i s => s = List.replicate i true ++ List.replicate (n - i) false) (fun s => s = List.replicate n true) (Nat.zero_le _) (by omega) (by simp) ?_ ?_ ?_
    · intro i s _ hi hs
      have hl : s.length = n := by rw [hs]; simp; omega
      refine ⟨s.set i true, ?_, ?_⟩
      · simp (disch := omega) only [cd_pos, gd_dec, Int.toNat_natCast, Nat.zero_add, w64_in]
      · have e : n - i = (n - (i + 1)) + 1 := by omega
        rw [hs, e, List.replicate_succ, List.set_append_right _ _ (by simp)]
        simp [List.replicate_succ', List.append_assoc]
    · intro s hs
      refine ⟨s, ?_, by rw [hs]; simp⟩
      simp (disch := omega) only [cd_neg]
    · intro s hs
      refine ⟨s, ?_, hs⟩
      have hl : s.length = n := by rw [hs]; simp
      simp (disch := omega) only [gd_dec, decide_true, Bool.and_self, gd_true]
  rw [h1, h2]
theorem ch_rep : ∀ l : List Rul, ((l.zip (List.replicate l.length true)).filterMap fun x => if x.2 = true then some x.1 else none) = l
  | [] => rfl
  | a :: l => by
    rw [List.length_cons, List.replicate_succ, List.zip_cons_cons, List.filterMap_cons]
    simp only [if_true]
    rw [ch_rep l]
theorem chS_all (p : Pln) : chS p (List.replicate (rulesS p).length true) = rulesS p := ch_rep _
theorem l25 {F : Nat} (hF : 4000 ≤ F) {p : Pln} (hp : PV p) (hn : p.1.length ≤ 6) : ∃ b, c25 F p = some b ∧ (b = true ↔ ∃ f, Hol p (rulesS p) f) := by
  have hl := rulesS_len (p := p) (by omega) (by have := hp.n2; omega)
  have hcl := condS_len p
  obtain ⟨b, h1, h2⟩ := l74 hF hp hn (B := List.replicate (rulesS p).length true) (by simp)
  rw [chS_all] at h2
  refine ⟨b, ?_, h2⟩
  unfold c25
  simp (disch := omega) only [peta, l37 (show 400 ≤ F by omega) hp.sh, Option.bind_some, l75, hcl, List.length_replicate, List.drop_zero, gd_dec, Nat.zero_add, Nat.le_refl, decide_true, Bool.and_self, gd_true]
  rw [show List.take (rulesS p).length (List.replicate (rulesS p).length true) = List.replicate (rulesS p).length true from List.take_of_length_le (by simp)]
  rw [h1]
  rfl
theorem less_loop {step : Int → Option (Int ⊕ (Bool ⊕ Unit))} {a b : List Int} (hl : a.length = b.length) (h1 : ∀ (i : Nat) x y, a[i]? = some x → b[i]? = some y → step (i : Int) = some (if x = y then .inl ((i : Int) + 1) else .inr (.inl (decide (x < y))))) (h3 : step (a.length : Int) = some (.inr (.inr ()))) :
    ∀ (k i : Nat), i + k = a.length → ∀ G, k < G → ∃ v, loopO step G (i : Int) = some v ∧ Sum.elim (fun x => x) (fun _ => false) v = decide (lexI (a.drop i) (b.drop i) < 0)
  | k, i, hi, 0, hG => by omega
  | 0, i, hi, G + 1, hG => by
    obtain rfl : i = a.length := by omega
    rw [List.drop_length, hl, List.drop_length]
    rw [hl] at h3
    simp only [loopO, h3]
    exact ⟨_, rfl, rfl⟩
  | k + 1, i, hi, G + 1, hG => by
    have hia : i < a.length := by omega
    have hib : i < b.length := by omega
    rw [List.drop_eq_getElem_cons hia, List.drop_eq_getElem_cons hib]
    simp only [loopO, h1 i _ _ (List.getElem?_eq_getElem hia) (List.getElem?_eq_getElem hib)]
    unfold lexI
    by_cases g : a[i] = b[i]
    · have g1 : ¬ a[i] < b[i] := by omega
      have g2 : ¬ b[i] < a[i] := by omega
      simp only [g, if_true, Int.lt_irrefl, if_false]
      exact less_loop hl h1 h3 k (i + 1) (by omega) G (by omega)
    · simp only [g, if_false]
      refine ⟨_, rfl, ?_⟩
      simp only [Sum.elim_inl]
      by_cases g1 : a[i] < b[i]
      · simp [g1]
      · have g2 : b[i] < a[i] := by omega
        simp [g1, g2]
theorem bind_less {γ : Type} {step : Int → Option (Int ⊕ (Bool ⊕ Unit))} {a b : List Int} {F : Nat} {k : Bool ⊕ Unit → Option γ} {r : Option γ} (hF : a.length < F) (hl : a.length = b.length) (h1 : ∀ (i : Nat) x y, a[i]? = some x → b[i]? = some y → step (i : Int) = some (if x = y then .inl ((i : Int) + 1) else .inr (.inl (decide (x < y))))) (h3 : step (a.length : Int) = some (.inr (.inr ())))
    (hk : ∀ v, Sum.elim (fun x => x) (fun _ => false) v = decide (lexI a b < 0) → k v = r) : Option.bind (loopO step F (0 : Int)) k = r := by
  obtain ⟨v, e1, e2⟩ := less_loop hl h1 h3 a.length 0 (by omega) F hF
  rw [show loopO step F (0 : Int) = some v from e1]
  exact hk v e2
theorem l80 {F : Nat} {a b : List Int} (hF : a.length < F) (hl : a.length = b.length) (hb : a.length ≤ 100000) : c80 F (a, b) = some (decide (lexI a b < 0)) := by
  unfold c80
  refine bind_less (a := a) (b := b) hF hl ?_ ?_ ?_
  · intro i x y hx hy
    have hia : i < a.length := (List.getElem?_eq_some_iff.1 hx).1
    have hib : i < b.length := (List.getElem?_eq_some_iff.1 hy).1
    simp (disch := omega) only [cd_pos, gd_dec, Int.toNat_natCast, getD_some hx, getD_some hy, w64_in]
    by_cases h : x = y <;> simp [h]
  · simp (disch := omega) only [cd_neg]
  · intro v hv
    rw [← hv]
    cases v <;> rfl
theorem Hol.tok {p : Pln} {L : List Rul} {f : List Int} (h : Hol p L f) : TOk p f := by
  refine TOk.ofB h.len fun x hx => ?_
  obtain ⟨i, hi, rfl⟩ := List.mem_iff_getElem.1 hx
  have := h.rng i (by rw [← h.len]; exact hi)
  simp only [fL] at this
  rw [getD_some (List.getElem?_eq_getElem hi)] at this
  omega
def exE (p : Pln) : Int := firstNZ [planE p, if 8 < p.1.length then 22 else 0]
theorem l82 {F : Nat} (hF : 400 ≤ F) {p : Pln} (h : PShort p) : c82 F p = some (exE p) := by
  unfold c82
  have l2 : ∀ (a b : Int), c102 F (a :: b :: nilT Int) = some (firstNZ [a, b]) := fun a b => l102 (by simp [nilT]; omega) (by simp [nilT])
  simp only [peta, l51 hF h.sm, l88, Option.bind_some, l2]
  unfold exE
  by_cases h8 : 8 < p.1.length
  · have : (8 : Int) < (p.1.length : Int) := by omega
    simp [h8, this, nilT]
  · have : ¬ (8 : Int) < (p.1.length : Int) := by omega
    simp [h8, this, nilT]
theorem exE_zero {p : Pln} (h : exE p = 0) : planE p = 0 ∧ p.1.length ≤ 8 := by
  have h1 := firstNZ_zero h
  refine ⟨h1 _ (by simp), ?_⟩
  have := h1 (if 8 < p.1.length then 22 else 0) (by simp)
  split at this <;> omega
def bs (l : List UInt8) : ByteArray := ⟨⟨l⟩⟩
def smp : TP := ([(bs [104, 101, 97, 116, 115], 30, [bs [116, 114, 97, 99, 107]], [], [bs [97, 110, 110], bs [98, 101, 97]], 0, 100), (bs [106, 117, 109, 112], 20, [bs [112, 105, 116]], [], [bs [97, 110, 110]], 0, 100), (bs [102, 105, 110, 97, 108], 10, [bs [116, 114, 97, 99, 107]], [], [bs [98, 101, 97]], 0, 100)], [(0, 2, 15)], 20)
def nar : TP := ([(bs [104, 101, 97, 116, 115], 30, [bs [116, 114, 97, 99, 107]], [], [bs [97, 110, 110], bs [98, 101, 97]], 0, 60), (bs [106, 117, 109, 112], 20, [bs [112, 105, 116]], [], [bs [97, 110, 110]], 20, 60), (bs [102, 105, 110, 97, 108], 10, [bs [116, 114, 97, 99, 107]], [], [bs [98, 101, 97]], 0, 100)], [(0, 2, 15)], 20)
def a50 : TP := smp
def y50 : List (ByteArray × Int × Int) × Int := ([(bs [119, 105, 110, 100, 111, 119], 0, 0), (bs [119, 105, 110, 100, 111, 119], 1, 1), (bs [119, 105, 110, 100, 111, 119], 2, 2), (bs [111, 114, 100, 101, 114], 0, 2), (bs [97, 116, 104, 108, 101, 116, 101], 0, 1), (bs [97, 114, 101, 97], 0, 2), (bs [97, 116, 104, 108, 101, 116, 101], 0, 2)], 0)
theorem r50 : (pc50 400).code a50 = some y50 := by kernel_rfl
def a17 : TP := smp
def y17 : List (Int × Int) × Int := ([(0, 45), (0, 80), (45, 90)], 0)
theorem r17 : (pc17 400).code a17 = some y17 := by kernel_rfl
def a18 : TP := smp
def y18 : Int × Int := (55, 0)
theorem r18 : (pc18 400).code a18 = some y18 := by kernel_rfl
def a26 : TP := smp
def y26 : List Int × Int := ([0, 50, 50], 0)
theorem r26 : (pc26 400).code a26 = some y26 := by kernel_rfl
def a27 : TP := smp
def y27 : Int × Int := (70, 0)
theorem r27 : (pc27 400).code a27 = some y27 := by kernel_rfl
def a36 : TP := nar
def y36 : List Int × Int := ([0, 1, 4], 0)
theorem r36 : (pc36 400).code a36 = some y36 := by kernel_rfl
def a41 : TP × List Int × ByteArray := (smp, [0, 50, 50], bs [97, 110, 110])
def y41 : Int × Int := (20, 0)
theorem r41 : (pc41 400).code a41 = some y41 := by kernel_rfl
def a52 : TP × List Int := (smp, [0, 50, 50])
def b52 : TP × List Int := (smp, [0, 40, 50])
def y52 : Int × Int := (7, 0)
def z52 : Int × Int := (4, 29)
theorem r52 : (pc52 400).code a52 = some y52 := by kernel_rfl
theorem s52 : ((pc52 400).at a52 y52).code b52 = some z52 := by kernel_rfl
def a35 : TP := nar
def b35 : TP := smp
def y35 : List Int × Int := ([0, 1, 4], 0)
def z35 : List Int × Int := ([], 7)
theorem r35 : (pc35 400).code a35 = some y35 := by kernel_rfl
theorem s35 : ((pc35 400).at a35 y35).code b35 = some z35 := by kernel_rfl
noncomputable def lxA : Lx := { ext := [(51, (pc51 400).sm)], anns := [], still := [] }
theorem lxA_ok : lxA.Ok cx.bare := Lx.ok_cons (PC.sm_ok (pc51_ok 400).bare) Lx.ok_nil
abbrev at45 : List ATy := [.agg [sR, sO, .int .i64]]
abbrev rt45 : List ATy := [.val (.seq [.str, .int .i64]), .val (.int .i64)]
def y45 : List (ByteArray × Int) × Int := ([(bs [112, 105, 116], 20), (bs [116, 114, 97, 99, 107], 40)], 0)
theorem q45 : codeOf cx.bare lxA 3000 .leaf f45 (bodyOf f45) at45 rt45 smp = some y45 := by kernel_rfl
noncomputable def lx60 (F : Nat) : LK := lN
noncomputable def pc60 (F : Nat) : PC := qT (lx60 F) .leaf f60 [] [.agg [sR, sO, .int .i64]]
theorem pc60_ok (F : Nat) : PCOk cx 60 (pc60 F) := qT_ok (by kernel_rfl)
noncomputable def lx61 (F : Nat) : LK := lN
noncomputable def pc61 (F : Nat) : PC := qT (lx61 F) (.two .leaf (.two (.within [(60, .leaf)]) .leaf)) f61 [] [.agg [sR, sO, .int .i64]]
theorem pc61_ok (F : Nat) : PCOk cx 61 (pc61 F) := qT_ok (by kernel_rfl)
noncomputable def k50 : PC := (pc50 400).one a50 y50
theorem k50_ok : PCOk cx.bare 50 k50 := (pc50_ok 400).bare.one a50 y50 r50
noncomputable def k17 : PC := (pc17 400).one a17 y17
theorem k17_ok : PCOk cx.bare 17 k17 := (pc17_ok 400).bare.one a17 y17 r17
noncomputable def k18 : PC := (pc18 400).one a18 y18
theorem k18_ok : PCOk cx.bare 18 k18 := (pc18_ok 400).bare.one a18 y18 r18
noncomputable def k26 : PC := (pc26 400).one a26 y26
theorem k26_ok : PCOk cx.bare 26 k26 := (pc26_ok 400).bare.one a26 y26 r26
noncomputable def k27 : PC := (pc27 400).one a27 y27
theorem k27_ok : PCOk cx.bare 27 k27 := (pc27_ok 400).bare.one a27 y27 r27
noncomputable def k36 : PC := (pc36 400).one a36 y36
theorem k36_ok : PCOk cx.bare 36 k36 := (pc36_ok 400).bare.one a36 y36 r36
noncomputable def k41 : PC := (pc41 400).one a41 y41
theorem k41_ok : PCOk cx.bare 41 k41 := (pc41_ok 400).bare.one a41 y41 r41
noncomputable def k52 : PC := ((pc52 400).at a52 y52).at b52 z52
theorem k52_ok : PCOk cx.bare 52 k52 := @PCOk.at cx.bare 52 ((pc52 400).at a52 y52) (@PCOk.at cx.bare 52 (pc52 400) (pc52_ok 400).bare a52 y52 r52) b52 z52 s52
noncomputable def k35 : PC := ((pc35 400).at a35 y35).at b35 z35
theorem k35_ok : PCOk cx.bare 35 k35 := @PCOk.at cx.bare 35 ((pc35 400).at a35 y35) (@PCOk.at cx.bare 35 (pc35 400) (pc35_ok 400).bare a35 y35 r35) b35 z35 s35
noncomputable def k45 : PC := { ats := at45, rts := rt45, code := one (ats := at45) (rts := rt45) smp y45 }
theorem k45_ok : PCOk cx.bare 45 k45 := PCOk.of_eval (Cx.bare_ok cx_ok) lxA_ok (n := 3000) (an := .leaf) (fn := f45) (c := bodyOf f45) (by kernel_rfl) (by kernel_rfl) (fun a y h => by
  obtain ⟨h1, h2⟩ := one_some h
  subst h1; subst h2
  exact q45) (by kernel_rfl)
noncomputable def lxB0 : Lx := { ext := [(50, k50.sm), (17, k17.sm), (18, k18.sm), (26, k26.sm), (27, k27.sm), (36, k36.sm), (41, k41.sm), (52, k52.sm), (35, k35.sm), (45, k45.sm), (96, (pc96 400).sm), (90, (pc90 400).sm), (97, (pc97 400).sm), (55, (pc55 400).sm), (60, (pc60 400).sm), (61, (pc61 400).sm)], anns := [], still := [] }
theorem lxB0_ok : lxB0.Ok cx.bare := Lx.ok_cons (PC.sm_ok k50_ok) (Lx.ok_cons (PC.sm_ok k17_ok) (Lx.ok_cons (PC.sm_ok k18_ok) (Lx.ok_cons (PC.sm_ok k26_ok) (Lx.ok_cons (PC.sm_ok k27_ok) (Lx.ok_cons (PC.sm_ok k36_ok) (Lx.ok_cons (PC.sm_ok k41_ok) (Lx.ok_cons (PC.sm_ok k52_ok) (Lx.ok_cons (PC.sm_ok k35_ok) (Lx.ok_cons (PC.sm_ok k45_ok) (Lx.ok_cons (PC.sm_ok (pc96_ok 400).bare) (Lx.ok_cons (PC.sm_ok (pc90_ok 400).bare) (Lx.ok_cons (PC.sm_ok (pc97_ok 400).bare) (Lx.ok_cons (PC.sm_ok (pc55_ok 400).bare) (Lx.ok_cons (PC.sm_ok (pc60_ok 400).bare) (Lx.ok_cons (PC.sm_ok (pc61_ok 400).bare) Lx.ok_nil)))))))))))))))
noncomputable def lxB : Lx := { ext := lxB0.ext, anns := [], still := [] }
theorem lxB_ok : lxB.Ok cx.bare := ⟨lxB0_ok.ext, rfl⟩
noncomputable def c15 (F : Nat) (a : Unit) : Option Bool := some true
noncomputable def pc15 (F : Nat) : PC := { ats := [], rts := [.val .bool], code := c15 F }
theorem aw_eq : codeOf cx.bare lxB 3000 .leaf f15 (bodyOf f15) [] [.val .bool] () = some true := by kernel_rfl
theorem pc15_ok (F : Nat) : PCOk cx 15 (pc15 F) := PCOk.full (PCOk.of_eval (Cx.bare_ok cx_ok) lxB_ok (n := 3000) (an := .leaf) (fn := f15) (c := bodyOf f15) (by kernel_rfl) (by kernel_rfl) (fun a y h => aw_eq.trans h) (by kernel_rfl))
end Go.Proofs.Tryz
section
namespace Go.Proofs.Tryz
open Go Go.Sx
noncomputable section
def c3 (F : Nat) (a : TP) : Option (Bool) :=
  let z1 := (0 : Int); Option.bind (c14 F (a.1, a.2.1, a.2.2)) fun (v35 : TP) => let z2 := (v35.1, v35.2.1, v35.2.2); Option.bind (c16 F z2) fun (v36 : Bool) => bif !v36 then (some (true)) else (Option.bind (c17 F (a.1, a.2.1, a.2.2)) fun (v37 : List (Int × Int) × Int) => let z3 := (↑(List.length v37.1) : Int); Option.bind (c18 F (a.1, a.2.1, a.2.2)) fun (v38 : Int × Int) => Option.bind (c19 F z2) fun (v39 : Int) => bif !decide (v39 = z1) then (Option.bind (bif decide (z3 = z1) then (bif decide (v37.2 = v39) then (Option.bind (c20 F (v38.1, v38.2, v39, z1)) fun (v41 : Bool) => some (v41)) else (some (false))) else (some (false))) fun (v40 : Bool) => some (v40)) else (Option.bind (c21 F z2) fun (v42 : List (Int × Int) × Bool) => let z4 := (bif v42.2 then (bif !decide (v37.2 = z1) then (some (true)) else (some (!decide (z3 = (↑(List.length v42.1) : Int))))) else (some (false))); Option.bind (bif !v42.2 then (bif !decide (z3 = z1) then (some (true)) else (bif !decide (v37.2 = (23 : Int)) then (some (true)) else z4)) else z4) fun (v43 : Bool) => bif v43 then (some (false)) else (Option.bind (loopO (σ := Int) (β := Bool ⊕ Unit) (fun (v50 : Int) => let z6 := (List.getD v42.1 (Int.toNat v50) (z1, z1)); let z5 := (List.getD v37.1 (Int.toNat v50) (z1, z1)); bif decide (v50 < z3) then (gd (decide (z1 ≤ v50)) (gd (decide (v50 < z3)) (gd (decide (Int.toNat v50 < List.length v37.1)) (gd (decide (z1 ≤ v50)) (gd (decide (v50 < (↑(List.length v42.1) : Int))) (gd (decide (Int.toNat v50 < List.length v42.1)) (bif !(decide (z5.1 = z6.1) && (decide (z5.2 = z6.2) && true)) then (some (Sum.inr (Sum.inl false))) else (some (Sum.inl (w64 (v50 + (1 : Int)))))))))))) else (some (Sum.inr (Sum.inr ())))) F (z1)) fun (v44 : Bool ⊕ Unit) => Sum.elim (fun (v45 : Bool) => some (v45)) (fun (v46 : Unit) => Option.bind (c22 F z2) fun (v47 : Int × Bool) => Option.bind (c23 F (!v47.2, (23 : Int))) fun (v48 : Int) => Option.bind (c20 F (v38.1, v38.2, v48, v47.1)) fun (v49 : Bool) => some (v49)) (v44))))
end
end Go.Proofs.Tryz
end
section
namespace Go.Proofs.Tryz
open Go Go.Sx
end Go.Proofs.Tryz
end
section

end
section
namespace Go.Proofs.Tryz
open Go Go.Sx
noncomputable section
def c4 (F : Nat) (a : TP) : Option (Bool) :=
  let z2 := (0 : Int); let z1 := (↑(List.length a.1) : Int); Option.bind (c14 F (a.1, a.2.1, a.2.2)) fun (v63 : TP) => let z3 := (v63.1, v63.2.1, v63.2.2); Option.bind (c16 F z3) fun (v64 : Bool) => bif !v64 then (some (true)) else (Option.bind (c19 F z3) fun (v65 : Int) => Option.bind (bif decide (v65 = z2) then (bif decide ((5 : Int) < z1) then (some (decide (z1 ≤ (8 : Int)))) else (some (false))) else (some (false))) fun (v66 : Bool) => bif v66 then (some (true)) else (Option.bind (c23 F (decide ((8 : Int) < z1), (22 : Int))) fun (v67 : Int) => Option.bind (c24 F (v65 :: v67 :: nilT Int)) fun (v68 : Int) => Option.bind (bif decide (v68 = z2) then (Option.bind (c25 F z3) fun (v86 : Bool) => Option.bind (c23 F (!v86, (23 : Int))) fun (v87 : Int) => some (v87)) else (some (v68))) fun (v69 : Int) => Option.bind (c26 F (a.1, a.2.1, a.2.2)) fun (v70 : List Int × Int) => Option.bind (c27 F (a.1, a.2.1, a.2.2)) fun (v71 : Int × Int) => Option.bind (c28 F (a.1, a.2.1, a.2.2)) fun (v72 : List Int × Int) => bif !decide (v69 = z2) then (Option.bind (Option.bind (c29 F (v70.1, v70.2, v69, nilT Int)) fun (v74 : Bool) => bif v74 then (Option.bind (c20 F (v71.1, v71.2, v69, z2)) fun (v75 : Bool) => bif v75 then (Option.bind (c29 F (v72.1, v72.2, v69, nilT Int)) fun (v76 : Bool) => some (v76)) else (some (false))) else (some (false))) fun (v73 : Bool) => some (v73)) else (Option.bind (c30 F z3) fun (v77 : Int) => Option.bind (Option.bind (c31 F z3) fun (v82 : List Int) => Option.bind (c29 F (v70.1, v70.2, z2, v82)) fun (v83 : Bool) => bif !v83 then (some (true)) else (Option.bind (c20 F (v71.1, v71.2, z2, v77)) fun (v84 : Bool) => bif !v84 then (some (true)) else (bif !decide (v72.2 = z2) then (some (true)) else (Option.bind (c32 F (z3, v72.1)) fun (v85 : Int) => some (!decide (v85 = z2)))))) fun (v78 : Bool) => bif v78 then (some (false)) else (Option.bind (c33 F (z3, v72.1)) fun (v79 : Int × Int) => Option.bind (bif decide (v79.2 = z2) then (Option.bind (c34 F (z3, v72.1)) fun (v81 : Int) => some (decide (v81 = v77))) else (some (false))) fun (v80 : Bool) => some (v80)))))
end
end Go.Proofs.Tryz
end
namespace Go.Proofs.Tryz
open Go Go.Sx
abbrev r4 : Rul := (ByteArray.empty, (0 : Int), (0 : Int), (0 : Int))
def pickS (L : List Rul) (ns : List Int) : List Rul := ns.map fun x => L.getD x.toNat r4
theorem l86 {F : Nat} {L : List Rul} {ns : List Int} (hF : ns.length < F) (hl : ns.length ≤ 3000) (hL : L.length ≤ 3000) (hn : ∀ x ∈ ns, 0 ≤ x ∧ x < L.length) : c86 F (L, ns) = some (pickS L ns) := by
  unfold c86 pickS
  simp only []
  refine bind_list ns (fun (s : List Rul) i => (s, (i : Int))) (fun x s => .inl (s ++ [L.getD x.toNat r4])) (fun s => s) (fun i s => s.length = i) [] hF rfl rfl ?_ ?_ ?_
  · intro i x s hi hx hs
    obtain ⟨x0, x1⟩ := hn x (List.mem_of_getElem? hx)
    refine ⟨?_, fun s' h' => ?_⟩
    · have h2 : (s ++ [L.getD x.toNat r4]).length = s.length + 1 := by simp
      have h3 : ∀ r : Rul, (r.1, r.2.1, r.2.2.1, r.2.2.2) :: nilT Rul = [r] := fun r => rfl
      simp (disch := omega) only [cd_pos, gd_dec, Int.toNat_natCast, getD_some hx, h3, h2, w64_in, Option.bind_some, decide_true, Bool.and_self, gd_true]
      rfl
    · simp only [Sum.inl.injEq] at h'
      subst h'
      simp; omega
  · intro s hs
    simp (disch := omega) only [cd_neg, gd_dec, Option.bind_some, decide_true, Bool.and_self, gd_true]
  · rw [goL_append]
    simp (disch := omega) only [List.nil_append, List.drop_zero, List.take_length, Nat.zero_add, Nat.le_refl, gd_dec, decide_true, Bool.and_self, gd_true]
structure MarkS (m : Nat) (ns : List Int) (B : List Bool) : Prop where
  len : B.length = m
  at_ : ∀ k : Nat, B[k]? = some true ↔ k < m ∧ (k : Int) ∈ ns
theorem Hol.congr {p : Pln} {L M : List Rul} {f : List Int} (h : ∀ r, r ∈ M → r ∈ L) (hf : Hol p L f) : Hol p M f := ⟨hf.len, hf.rng, fun r hr => hf.rul r (h r hr)⟩
theorem mark_pick {p : Pln} {ns : List Int} {B : List Bool} (hr : ∀ x ∈ ns, 0 ≤ x ∧ x < (rulesS p).length) (hB : MarkS (rulesS p).length ns B) (r : Rul) : r ∈ chS p B ↔ r ∈ pickS (rulesS p) ns := by
  rw [mem_chS]
  unfold pickS
  rw [List.mem_map]
  constructor
  · rintro ⟨k, h1, h2⟩
    obtain ⟨h3, h4⟩ := (hB.at_ k).1 h2
    exact ⟨_, h4, by rw [Int.toNat_natCast]; exact getD_some h1⟩
  · rintro ⟨x, hx, rfl⟩
    have h := hr x hx
    refine ⟨x.toNat, ?_, (hB.at_ _).2 ⟨by omega, by rw [show ((x.toNat : Nat) : Int) = x by omega]; exact hx⟩⟩
    have hl : x.toNat < (rulesS p).length := by omega
    rw [getD_some (List.getElem?_eq_getElem hl)]
    exact List.getElem?_eq_getElem hl
theorem bind_dsc {S β γ : Type} {step : S × Int → Option ((S × Int) ⊕ β)} {F : Nat} {s0 : S} {k : β → Option γ} {P : γ → Prop} (N : Nat) (Inv : Nat → S → Prop) (Post : β → Prop) (hF : N < F) (h0 : Inv N s0)
    (hstep : ∀ i s, i < N → Inv (i + 1) s → ∃ s', step (s, (i : Int)) = some (.inl (s', (i : Int) - 1)) ∧ Inv i s')
    (hend : ∀ s, Inv 0 s → ∃ b, step (s, -1) = some (.inr b) ∧ Post b) (hk : ∀ b, Post b → ∃ r, k b = some r ∧ P r) : ∃ r, Option.bind (loopO step F (s0, (N : Int) - 1)) k = some r ∧ P r := by
  refine bind_inv (fun x : S × Int => ∃ i : Nat, x.2 = (i : Int) - 1 ∧ i ≤ N ∧ Inv i x.1) (fun x => (x.2 + 1).toNat) Post ?_ ⟨N, rfl, Nat.le_refl _, h0⟩ (by simpa using hF) hk
  rintro ⟨s, v⟩ ⟨i, hv, h2, h3⟩
  simp only at hv h3
  subst hv
  cases i with
  | zero => exact .inr (hend s h3)
  | succ j =>
    obtain ⟨s', e1, e2⟩ := hstep j s (by omega) h3
    refine .inl ⟨(s', (j : Int) - 1), ?_, ⟨j, rfl, by omega, e2⟩, ?_⟩
    · rw [show (((j + 1 : Nat) : Int) - 1) = (j : Int) by omega]
      exact e1
    · simp only
      omega
theorem ex_eq {α : Type} {v : Option α} {x : α} (h : ∃ r, v = some r ∧ r = x) : v = some x := by
  obtain ⟨r, h1, rfl⟩ := h
  exact h1
def memF (k : Nat) (b : Bool) : List Int := if b = true then [(k : Int)] else []
def memS (B : List Bool) : List Int := ifl memF 0 B
theorem memF_len (k : Nat) (b : Bool) : (memF k b).length ≤ 1 := by unfold memF; split <;> simp
theorem ifl_get {α β : Type} {f : Nat → α → List β} {y : β} : ∀ {l : List α} {k j : Nat} {x : α}, l[j]? = some x → y ∈ f (k + j) x → y ∈ ifl f k l
  | a :: l, k, 0, x, h, hy => by
    simp only [List.getElem?_cons_zero, Option.some.injEq] at h
    subst h
    exact List.mem_append.2 (.inl hy)
  | a :: l, k, j + 1, x, h, hy => by
    rw [List.getElem?_cons_succ] at h
    exact List.mem_append.2 (.inr (ifl_get (k := k + 1) h (by rw [show k + 1 + j = k + (j + 1) by omega]; exact hy)))
theorem mem_memS {B : List Bool} {x : Int} : x ∈ memS B ↔ ∃ k : Nat, B[k]? = some true ∧ x = (k : Int) := by
  unfold memS
  constructor
  · intro h
    obtain ⟨j, b, hb, hx⟩ := ifl_mem h
    unfold memF at hx
    split at hx
    · rename_i hbt
      subst hbt
      exact ⟨j, hb, by simpa using hx⟩
    · cases hx
  · rintro ⟨k, hk, rfl⟩
    exact ifl_get hk (by simp [memF])
theorem memS_mark (B : List Bool) : MarkS B.length (memS B) B := ⟨rfl, fun k => by
  rw [mem_memS]
  constructor
  · intro h
    exact ⟨(List.getElem?_eq_some_iff.1 h).1, k, h, rfl⟩
  · rintro ⟨_, j, h, e⟩
    rw [show k = j by omega]
    exact h⟩
theorem memS_rng {B : List Bool} {m : Nat} (h : B.length = m) : ∀ x ∈ memS B, 0 ≤ x ∧ x < m := fun x hx => by
  obtain ⟨k, hk, rfl⟩ := mem_memS.1 hx
  have := (List.getElem?_eq_some_iff.1 hk).1
  omega
theorem memS_len (B : List Bool) : (memS B).length ≤ B.length := by
  have := ifl_len memF_len B 0
  unfold memS
  omega
theorem ifl_cut : ∀ (B : List Bool) (o k : Nat), (∀ j, j ≤ k → B[j]? = some true) → k < (ifl memF o B).length ∧ (ifl memF o B).take k ++ (ifl memF o B).drop (k + 1) = ifl memF o (B.set k false)
  | [], o, k, h => by
    have := h 0 (Nat.zero_le _)
    simp at this
  | b :: B, o, 0, h => by
    have := h 0 (Nat.le_refl _)
    simp only [List.getElem?_cons_zero, Option.some.injEq] at this
    subst this
    simp [ifl, memF]
  | b :: B, o, k + 1, h => by
    have := h 0 (Nat.zero_le _)
    simp only [List.getElem?_cons_zero, Option.some.injEq] at this
    subst this
    obtain ⟨h1, h2⟩ := ifl_cut B (o + 1) k fun j hj => by
      have := h (j + 1) (by omega)
      rwa [List.getElem?_cons_succ] at this
    have e : ifl memF o (true :: B) = (o : Int) :: ifl memF (o + 1) B := rfl
    have e2 : ifl memF o ((true :: B).set (k + 1) false) = (o : Int) :: ifl memF (o + 1) (B.set k false) := rfl
    rw [e, e2, ← h2]
    exact ⟨by simp; omega, rfl⟩
theorem memS_cut {B : List Bool} {k : Nat} (h : ∀ j, j ≤ k → B[j]? = some true) : k < (memS B).length ∧ (memS B).take k ++ (memS B).drop (k + 1) = memS (B.set k false) := ifl_cut B 0 k h
def Pos (p : Pln) (B : List Bool) : Prop := ∃ f, Hol p (chS p B) f
theorem pos_pick {p : Pln} {B : List Bool} (h : B.length = (rulesS p).length) : Pos p B ↔ ∃ f, Hol p (pickS (rulesS p) (memS B)) f := by
  have hm := memS_mark B
  rw [h] at hm
  have hr := memS_rng h
  exact ⟨fun ⟨f, hf⟩ => ⟨f, hf.congr fun r hr' => (mark_pick hr hm r).2 hr'⟩, fun ⟨f, hf⟩ => ⟨f, hf.congr fun r hr' => (mark_pick hr hm r).1 hr'⟩⟩
theorem Pos.mono {p : Pln} {B C : List Bool} (h : ∀ k : Nat, C[k]? = some true → B[k]? = some true) : Pos p B → Pos p C := fun ⟨f, hf⟩ => ⟨f, hf.congr fun r hr => by
  obtain ⟨k, h1, h2⟩ := mem_chS.1 hr
  exact mem_chS.2 ⟨k, h1, h k h2⟩⟩
noncomputable def coreB (p : Pln) : Nat → List Bool → List Bool
  | 0, B => B
  | k + 1, B => coreB p k (@ite _ (Pos p (B.set k false)) (Classical.propDecidable _) B (B.set k false))
theorem set_true {B : List Bool} {j k : Nat} : (B.set k false)[j]? = some true ↔ j ≠ k ∧ B[j]? = some true := by
  rw [List.getElem?_set]
  by_cases h : k = j
  · subst h
    rw [if_pos rfl]
    split <;> simp
  · rw [if_neg h]
    simp [Ne.symm h]
theorem coreB_facts {p : Pln} : ∀ (k : Nat) (B : List Bool), (coreB p k B).length = B.length ∧ (¬ Pos p B → ¬ Pos p (coreB p k B)) ∧ (∀ j : Nat, (coreB p k B)[j]? = some true → B[j]? = some true) ∧ (∀ j, k ≤ j → (coreB p k B)[j]? = B[j]?) ∧
    ∀ j, j < k → (coreB p k B)[j]? = some true → Pos p ((coreB p k B).set j false)
  | 0, B => ⟨rfl, id, fun _ h => h, fun _ _ => rfl, fun j hj => by omega⟩
  | k + 1, B => by
    unfold coreB
    by_cases h : Pos p (B.set k false)
    · rw [if_pos h]
      obtain ⟨h1, h2, h3, h4, h5⟩ := coreB_facts (p := p) k B
      refine ⟨h1, h2, h3, fun j hj => h4 j (by omega), fun j hj ht => ?_⟩
      by_cases hjk : j = k
      · subst hjk
        refine Pos.mono (fun i hi => ?_) h
        rw [set_true] at hi ⊢
        exact ⟨hi.1, h3 i hi.2⟩
      · exact h5 j (by omega) ht
    · rw [if_neg h]
      obtain ⟨h1, h2, h3, h4, h5⟩ := coreB_facts (p := p) k (B.set k false)
      refine ⟨by rw [h1, List.length_set], fun _ => h2 h, fun j hj => (set_true.1 (h3 j hj)).2, fun j hj => ?_, fun j hj ht => ?_⟩
      · rw [h4 j (by omega), List.getElem?_set, if_neg (by omega)]
      · by_cases hjk : j = k
        · subst hjk
          exact absurd rfl (set_true.1 (h3 j ht)).1
        · exact h5 j (by omega) ht
theorem rulesS_len8 {p : Pln} (h : p.1.length ≤ 8) (h2 : p.2.1.length ≤ 28) : (rulesS p).length ≤ 300 := by
  have h1 := ifl_len (f := winR) (B := 1) (fun _ _ => Nat.le_refl _) p.1 0
  have h3 := ifl_len (f := ordR) (B := 1) (fun _ _ => Nat.le_refl _) p.2.1 0
  have h5 : ∀ (i : Nat) (a : Rnd), (rowR p i a).length ≤ 24 := fun i a => by
    have h1 := ifl_len (pairR_len p.2.2 i a) (p.1.drop (i + 1)) (i + 1)
    have h2 : (p.1.drop (i + 1)).length ≤ 8 := by rw [List.length_drop]; omega
    exact Nat.le_trans h1 (by omega)
  have h4 := ifl_len h5 p.1 0
  unfold rulesS apartR
  rw [List.length_append, List.length_append]
  omega
theorem memS_all (m : Nat) : memS (List.replicate m true) = (List.range m).map fun (i : Nat) => (i : Int) := by
  have h : ∀ (m o : Nat), ifl memF o (List.replicate m true) = (List.range' o m).map fun (i : Nat) => (i : Int) := fun m => by
    induction m with
    | zero => intro o; rfl
    | succ m ih =>
      intro o
      rw [List.replicate_succ, List.range'_succ, List.map_cons, ← ih (o + 1)]
      rfl
  unfold memS
  rw [h, List.range_eq_range']
theorem l35 {F : Nat} (hF : 4000 ≤ F) {p : Pln} (hp : PShort p) : (exE p ≠ 0 → c35 F p = some ([], exE p)) ∧ (exE p = 0 → (∃ f, Hol p (rulesS p) f) → c35 F p = some ([], 7)) ∧
    (exE p = 0 → (¬ ∃ f, Hol p (rulesS p) f) → c35 F p = some (memS (coreB p (rulesS p).length (List.replicate (rulesS p).length true)), 0)) := by
  unfold c35
  simp only [peta, l82 (show 400 ≤ F by omega) hp, Option.bind_some, l65 (show 400 ≤ F by omega) hp]
  refine ⟨fun he => by simp [he, nilT], fun he hex => ?_, fun he hex => ?_⟩
  · obtain ⟨h0, h8⟩ := exE_zero he
    have hv := PV.of hp h0
    have hrl := rulesS_len8 (p := p) h8 (by have := hv.n2; omega)
    obtain ⟨b, h1, h2⟩ := l83 hF hv (L := rulesS p) (by omega) hv.rulM
    simp [he, h1, h2.2 hex, nilT]
  · obtain ⟨h0, h8⟩ := exE_zero he
    have hv := PV.of hp h0
    have hrl := rulesS_len8 (p := p) h8 (by have := hv.n2; omega)
    obtain ⟨b, h1, h2⟩ := l83 hF hv (L := rulesS p) (by omega) hv.rulM
    have hb : b = false := by
      cases b with
      | false => rfl
      | true => exact absurd (h2.1 rfl) hex
    subst hb
    simp only [he, decide_true, Bool.not_true, cond_false, h1, Option.bind_some]
    refine bind_list (rulesS p) (fun (s : List Int) i => (s, (i : Int))) (fun x s => .inl (s ++ [(s.length : Int)])) (fun s => s) (fun i s => s.length = i) [] (by omega) rfl rfl ?_ ?_ ?_
    · intro i x s hi hx hs
      refine ⟨?_, fun s' h' => ?_⟩
      · have hl2 : (s ++ (i : Int) :: nilT Int).length = s.length + 1 := by simp [nilT]
        simp (disch := omega) only [cd_pos, gd_dec, w64_in, Option.bind_some, hl2, decide_true, Bool.and_self, gd_true]
        rw [hs]
        rfl
      · simp only [Sum.inl.injEq] at h'
        subst h'
        simp; omega
    · intro s hs
      simp (disch := omega) only [cd_neg, gd_dec, Option.bind_some, decide_true, Bool.and_self, gd_true]
    · have hgo : ∀ (l : List Rul) (s : List Int), goL (fun (x : Rul) (s : List Int) => (.inl (s ++ [(s.length : Int)]) : List Int ⊕ List Int)) (fun s => s) l s = s ++ (List.range' s.length l.length).map fun (i : Nat) => (i : Int) := fun l => by
        induction l with
        | nil => intro s; simp [goL_nil]
        | cons a l ih =>
          intro s
          rw [goL_cons]
          simp only [ih, List.length_append, List.length_cons, List.length_nil, List.range'_succ, List.map_cons, List.append_assoc, List.cons_append, List.nil_append, Nat.zero_add]
      rw [hgo]
      simp only [List.nil_append, List.length_nil]
      rw [← List.range_eq_range', ← memS_all]
      have hal : (memS (List.replicate (rulesS p).length true)).length = (rulesS p).length := by rw [memS_all]; simp
      have hw : w64 (((memS (List.replicate (rulesS p).length true)).length : Int) - 1) = ((rulesS p).length : Int) - 1 := by rw [hal]; exact w64_in (by omega) (by omega)
      simp (disch := omega) only [gd_dec, hal, decide_true, Bool.and_self, gd_true, Nat.zero_add, Nat.le_refl]
      rw [show w64 (((rulesS p).length : Int) - 1) = ((rulesS p).length : Int) - 1 from w64_in (by omega) (by omega)]
      refine ex_eq ?_
      refine bind_dsc (F := F) (rulesS p).length (fun i s => ∃ B : List Bool, s = memS B ∧ B.length = (rulesS p).length ∧ (∀ j, j < i → B[j]? = some true) ∧ coreB p i B = coreB p (rulesS p).length (List.replicate (rulesS p).length true)) (fun s => s = memS (coreB p (rulesS p).length (List.replicate (rulesS p).length true))) (by omega) ⟨_, rfl, by simp, fun j hj => by simp [hj], rfl⟩ ?_ ?_ ?_
      · rintro i s hi ⟨B, rfl, hBl, hB, hc⟩
        obtain ⟨g1, g2⟩ := memS_cut (B := B) (k := i) fun j hj => hB j (by omega)
        have g3 := memS_len B
        have hsl : (B.set i false).length = (rulesS p).length := by rw [List.length_set]; exact hBl
        obtain ⟨b, k1, k2⟩ := l83 hF hv (L := pickS (rulesS p) (memS (B.set i false))) (by unfold pickS; rw [List.length_map]; have := memS_len (B.set i false); omega) (fun r hrm => by
          obtain ⟨x, hx, rfl⟩ := List.mem_map.1 hrm
          have := memS_rng hsl x hx
          exact hv.rulM _ (getD_mem (by omega)))
        rw [← pos_pick hsl] at k2
        refine ⟨memS (if b = true then B else B.set i false), ?_, if b = true then B else B.set i false, rfl, by split <;> simp [hBl], fun j hj => ?_, ?_⟩
        · have w1 : w64 ((i : Int) + 1) = ((i + 1 : Nat) : Int) := by rw [w64_in (by omega) (by omega)]; omega
          have g4 := memS_len (B.set i false)
          simp (disch := omega) only [cd_pos, gd_dec, Int.toNat_natCast, l85, Option.bind_some, w1, g2, l86 (show (memS (B.set i false)).length < F by omega) (show (memS (B.set i false)).length ≤ 3000 by omega) (show (rulesS p).length ≤ 3000 by omega) (memS_rng hsl), k1, decide_true, Bool.and_self, gd_true, w64_in]
          have q1 : 0 < (memS B).length := by omega
          have q2 : (i : Int) ≤ (i : Int) + 1 := by omega
          have q3 : i + 1 ≤ (memS B).length := by omega
          cases b <;> simp [q1, q2, q3, gd_true]
        · split
          · exact hB j (by omega)
          · exact set_true.2 ⟨by omega, hB j (by omega)⟩
        · rw [← hc]
          conv => rhs; unfold coreB
          by_cases hP : Pos p (B.set i false)
          · rw [if_pos (k2.2 hP), if_pos hP]
          · rw [if_neg (fun h => hP (k2.1 h)), if_neg hP]
      · rintro s ⟨B, rfl, -, -, hc⟩
        refine ⟨memS B, rfl, ?_⟩
        rw [← hc]
        rfl
      · rintro s rfl
        exact ⟨_, rfl, rfl⟩
end Go.Proofs.Tryz
