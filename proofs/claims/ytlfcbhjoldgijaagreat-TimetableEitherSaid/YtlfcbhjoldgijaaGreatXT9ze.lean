/- Plain law: the smallest conflict. Plain law: the smallest conflict, the program's. Plain law: TimetableTables. Functions of the program as functions of data. By program. -/
import Derived.Test.YtlfcbhjoldgijaaGreatXT9zb
import Derived.Test.YtlfcbhjoldgijaaGreatXTtT
section
set_option maxRecDepth 100000
set_option linter.unusedVariables false
set_option linter.unusedSimpArgs false
namespace Go.Proofs.Tryz
open Go Go.Sx
noncomputable def ocV (x : Int) : Int := (c87 0 (Go.IntKind.wrap Go.IntKind.u64 x)).getD 0
noncomputable def c36k (F : Nat) (a : List (ByteArray × Int × List ByteArray × List ByteArray × List ByteArray × Int × Int) × List (Int × Int × Int) × Int) : Option (List Int × Int) :=
  Option.bind (c82 F (Prod.fst a, Prod.fst (Prod.snd a), Prod.snd (Prod.snd a))) fun (v46 : Int) => bif !Decidable.decide (v46 = (0 : Int)) then (some ((Go.Sx.nilT Int, v46))) else (Option.bind (c65 F (Prod.fst a, Prod.fst (Prod.snd a), Prod.snd (Prod.snd a))) fun (v47 : List (ByteArray × Int × Int × Int)) => bif Decidable.decide ((12 : Int) < (↑(List.length v47) : Int)) then (some ((Go.Sx.nilT Int, (22 : Int)))) else (Option.bind (loopO (σ := List Int × Bool × Int) (β := List Int × Bool) (fun (v50 : List Int × Bool × Int) => bif Decidable.decide (Prod.snd (Prod.snd v50) < Go.Sx.w64 ((1 : Int) * (2 : Int) ^ Min.min (Int.toNat (↑(List.length v47) : Int)) (64 : Nat))) then (Option.bind (Option.bind (bif Prod.fst (Prod.snd v50) then (some (Decidable.decide ((↑(List.length (Prod.fst v50)) : Int) < ocV (Prod.snd (Prod.snd v50))))) else (some (Bool.false))) fun (v52 : Bool) => bif v52 then (some ((Prod.fst v50, Prod.fst (Prod.snd v50)))) else (Option.bind (loopO (σ := List Int × Int) (β := List Int) (fun (v59 : List Int × Int) => bif Decidable.decide (Prod.snd v59 < (↑(List.length v47) : Int)) then (gd (Decidable.decide ((0 : Int) ≤ Prod.snd v59)) (Option.bind (bif Decidable.decide (Go.IntKind.wrap Go.IntKind.i64 (↑(BitVec.toNat (BitVec.ofInt (64 : Nat) (Int.fdiv (Prod.snd (Prod.snd v50)) ((2 : Int) ^ Min.min (Int.toNat (Prod.snd v59)) (64 : Nat))) &&& BitVec.ofInt (64 : Nat) (1 : Int))) : Int) = (1 : Int)) then (gd (Decidable.decide (List.length (Prod.fst v59) = List.length (Prod.fst v59))) (gd (Decidable.decide (List.length (Prod.fst v59 ++ Prod.snd v59 :: Go.Sx.nilT Int) * (8 : Nat) ≤ (140737488355328 : Nat))) (gd (Decidable.decide (List.length (Prod.fst v59 ++ Prod.snd v59 :: Go.Sx.nilT Int) ≤ (9223372036854775807 : Nat))) (gd (Decidable.decide (List.length (Prod.fst v59 ++ Prod.snd v59 :: Go.Sx.nilT Int) = List.length (Prod.fst v59 ++ Prod.snd v59 :: Go.Sx.nilT Int)) && Bool.true && Bool.true) (some (Prod.fst v59 ++ Prod.snd v59 :: Go.Sx.nilT Int)))))) else (gd (Decidable.decide (List.length (Prod.fst v59) = List.length (Prod.fst v59)) && Bool.true && Bool.true) (some (Prod.fst v59)))) fun (v60 : List Int) => Option.bind (gd (Decidable.decide (List.length v60 = List.length v60) && Bool.true && (Bool.true && Bool.true)) (some ((v60, Go.Sx.w64 (Prod.snd v59 + (1 : Int)))))) fun (v61 : List Int × Int) => some (Sum.inl v61))) else (Option.bind (gd (Decidable.decide (List.length (Prod.fst v59) = List.length (Prod.fst v59)) && Bool.true && Bool.true) (some (Prod.fst v59))) fun (v62 : List Int) => some (Sum.inr v62))) F ((Go.Sx.nilT Int, (0 : Int)))) fun (v53 : List Int) => Option.bind (bif Prod.fst (Prod.snd v50) then (bif Decidable.decide ((↑(List.length v53) : Int) = (↑(List.length (Prod.fst v50)) : Int)) then (gd (Decidable.decide ((0 : Nat) + List.length v53 ≤ List.length v53) && Bool.true && Bool.true) (Option.bind (c77 F (List.take (List.length v53) (List.drop (0 : Nat) v53), Prod.fst v50)) fun (v58 : Int) => some (Decidable.decide ((0 : Int) < v58)))) else (some (Bool.false))) else (some (Bool.false))) fun (v54 : Bool) => bif v54 then (some ((Prod.fst v50, Prod.fst (Prod.snd v50)))) else (gd (Bool.true && (Decidable.decide (List.length v53 = List.length v53) && Bool.true && Bool.true && Bool.true && Bool.true)) (Option.bind (c86 F (v47, v53)) fun (v55 : List (ByteArray × Int × Int × Int)) => Option.bind (c83 F ((Prod.fst a, Prod.fst (Prod.snd a), Prod.snd (Prod.snd a)), v55)) fun (v56 : Bool) => Option.bind (bif !v56 then (some ((v53, Bool.true))) else (some ((Prod.fst v50, Prod.fst (Prod.snd v50))))) fun (v57 : List Int × Bool) => some ((Prod.fst v57, Prod.snd v57)))))) fun (v51 : List Int × Bool) => some (Sum.inl (Prod.fst v51, Prod.snd v51, Go.Sx.w64 (Prod.snd (Prod.snd v50) + (1 : Int))))) else (some (Sum.inr (Prod.fst v50, Prod.fst (Prod.snd v50))))) F ((Go.Sx.nilT Int, Bool.false, (0 : Int)))) fun (v48 : List Int × Bool) => Option.bind (c88 F (!Prod.snd v48, (7 : Int))) fun (v49 : Int) => some ((Prod.fst v48, v49))))
theorem x36 (F : Nat) (a) : c36 F a = c36k F a := by kernel_rfl
def bitsB (m n : Nat) : List Bool := (List.range m).map fun i => decide (n / 2 ^ i % 2 = 1)
theorem oc_all : ((List.range 4096).all fun n => decide (ocV (n : Int) = ((memS (bitsB 12 n)).length : Int))) = true := by kernel_rfl
theorem bitsB_len (m n : Nat) : (bitsB m n).length = m := by simp [bitsB]
theorem bitsB_get {m n k : Nat} : (bitsB m n)[k]? = some true ↔ k < m ∧ n / 2 ^ k % 2 = 1 := by
  unfold bitsB
  rw [List.getElem?_map]
  by_cases h : k < m
  · rw [List.getElem?_range h]
    simp [h]
  · rw [List.getElem?_eq_none (by simpa using h)]
    simp [h]
theorem ifl_append {α β : Type} {f : Nat → α → List β} : ∀ (l m : List α) (o : Nat), ifl f o (l ++ m) = ifl f o l ++ ifl f (o + l.length) m
  | [], m, o => rfl
  | a :: l, m, o => by
    simp only [List.cons_append, ifl, ifl_append l m, List.append_assoc, List.length_cons]
    rw [show o + 1 + l.length = o + (l.length + 1) by omega]
theorem ifl_false : ∀ (l : List Bool) (o : Nat), (∀ b ∈ l, b = false) → ifl memF o l = []
  | [], o, _ => rfl
  | b :: l, o, h => by
    have hb := h b (by simp)
    subst hb
    simp only [ifl, memF]
    exact ifl_false l (o + 1) fun b hb => h b (by simp [hb])
theorem bits_wide {m n : Nat} (hm : m ≤ 12) (hn : n < 2 ^ m) : memS (bitsB m n) = memS (bitsB 12 n) := by
  obtain ⟨d, hd⟩ : ∃ d, 12 = m + d := ⟨12 - m, by omega⟩
  rw [hd]
  have : bitsB (m + d) n = bitsB m n ++ (List.range' m d).map fun i => decide (n / 2 ^ i % 2 = 1) := by
    unfold bitsB
    rw [List.range_eq_range', List.range_eq_range', ← List.map_append]
    congr 1
    have := List.range'_append (s := 0) (m := m) (n := d) (step := 1)
    simp only [Nat.one_mul, Nat.zero_add] at this
    exact this.symm
  unfold memS
  have hz : ifl memF (0 + (bitsB m n).length) ((List.range' m d).map fun i => decide (n / 2 ^ i % 2 = 1)) = [] := by
    refine ifl_false _ _ fun b hb => ?_
    obtain ⟨i, hi, rfl⟩ := List.mem_map.1 hb
    rw [List.mem_range'] at hi
    obtain ⟨j, hj, rfl⟩ := hi
    have : n / 2 ^ (m + 1 * j) = 0 := Nat.div_eq_of_lt (Nat.lt_of_lt_of_le hn (Nat.pow_le_pow_right (by omega) (by omega)))
    rw [this]
    rfl
  rw [this, ifl_append, hz, List.append_nil]
theorem ocV_eq {m n : Nat} (hm : m ≤ 12) (hn : n < 2 ^ m) : ocV (n : Int) = ((memS (bitsB m n)).length : Int) := by
  have h12 : n < 4096 := Nat.lt_of_lt_of_le hn (Nat.pow_le_pow_right (n := 2) (by omega) hm)
  have := List.all_eq_true.1 oc_all n (List.mem_range.2 h12)
  rw [bits_wide hm hn]
  exact of_decide_eq_true this
theorem bit_eq {n i : Nat} (hn : n < 4096) (hi : i < 64) : Go.IntKind.wrap Go.IntKind.i64 ((BitVec.toNat (BitVec.ofInt 64 (Int.fdiv (n : Int) ((2 : Int) ^ Min.min (Int.toNat (i : Int)) 64)) &&& BitVec.ofInt 64 (1 : Int)) : Nat) : Int) = ((n / 2 ^ i % 2 : Nat) : Int) := by
  have e1 : Min.min (Int.toNat (i : Int)) 64 = i := by rw [Int.toNat_natCast]; omega
  have e2 : Int.fdiv (n : Int) ((2 : Int) ^ i) = ((n / 2 ^ i : Nat) : Int) := by
    rw [Int.fdiv_eq_ediv_of_nonneg _ (by exact Int.le_of_lt (Int.pow_pos (by omega)))]
    rw [show ((2 : Int) ^ i) = ((2 ^ i : Nat) : Int) by simp, ← Int.natCast_ediv]
  have h3 : n / 2 ^ i ≤ n := Nat.div_le_self _ _
  have e3 : BitVec.toNat (BitVec.ofInt 64 ((n / 2 ^ i : Nat) : Int) &&& BitVec.ofInt 64 (1 : Int)) = n / 2 ^ i % 2 := by
    rw [BitVec.toNat_and]
    have a1 : BitVec.toNat (BitVec.ofInt 64 ((n / 2 ^ i : Nat) : Int)) = n / 2 ^ i := by
      rw [show BitVec.ofInt 64 ((n / 2 ^ i : Nat) : Int) = BitVec.ofNat 64 (n / 2 ^ i) from BitVec.ofInt_natCast .., BitVec.toNat_ofNat]
      exact Nat.mod_eq_of_lt (by omega)
    have a2 : BitVec.toNat (BitVec.ofInt 64 (1 : Int)) = 1 := rfl
    rw [a1, a2, Nat.and_one_is_mod]
  rw [e1, e2, e3]
  have h4 : n / 2 ^ i % 2 < 2 := Nat.mod_lt _ (by omega)
  exact w64_in (by omega) (by omega)
def numB : List Bool → Nat
  | [] => 0
  | b :: l => (if b = true then 1 else 0) + 2 * numB l
theorem numB_lt : ∀ l : List Bool, numB l < 2 ^ l.length
  | [] => by simp [numB]
  | b :: l => by
    have := numB_lt l
    simp only [numB, List.length_cons, Nat.pow_succ]
    split <;> omega
theorem numB_bit : ∀ (l : List Bool) (k : Nat), l[k]? = some true ↔ numB l / 2 ^ k % 2 = 1
  | [], k => by simp [numB]
  | b :: l, 0 => by
    cases b <;> simp [numB] <;> omega
  | b :: l, k + 1 => by
    rw [List.getElem?_cons_succ, numB_bit l k]
    have : numB (b :: l) / 2 ^ (k + 1) = numB l / 2 ^ k := by
      rw [Nat.pow_succ', ← Nat.div_div_eq_div_mul]
      congr 1
      simp only [numB]
      split <;> omega
    rw [this]
theorem ext_true {B C : List Bool} (hl : B.length = C.length) (h : ∀ k : Nat, B[k]? = some true ↔ C[k]? = some true) : B = C := by
  apply List.ext_getElem hl
  intro i h1 h2
  have := h i
  rw [List.getElem?_eq_getElem h1, List.getElem?_eq_getElem h2] at this
  simp only [Option.some.injEq] at this
  cases hb : B[i] <;> cases hc : C[i] <;> simp_all
theorem bits_num (B : List Bool) : bitsB B.length (numB B) = B := by
  refine ext_true (bitsB_len _ _) fun k => ?_
  rw [bitsB_get, numB_bit]
  constructor
  · rintro ⟨_, h⟩; exact h
  · intro h
    exact ⟨(List.getElem?_eq_some_iff.1 ((numB_bit B k).2 h)).1, h⟩
def NotB (l best : List Int) : Prop := best.length < l.length ∨ best.length = l.length ∧ lexI best l ≤ 0
theorem NotB.refl (l : List Int) : NotB l l := .inr ⟨rfl, by rw [lexI_self]; exact Int.le_refl _⟩
theorem NotB.trans {a b c : List Int} (h1 : NotB a b) (h2 : NotB b c) : NotB a c := by
  rcases h1 with h1 | ⟨h1, k1⟩ <;> rcases h2 with h2 | ⟨h2, k2⟩
  · exact .inl (by omega)
  · exact .inl (by omega)
  · exact .inl (by omega)
  · exact .inr ⟨by omega, lexI_trans k2 k1⟩
structure SmallN (p : Pln) (m N : Nat) (best : List Int) (any : Bool) : Prop where
  no : any = false → best = [] ∧ ∀ n, n < N → Pos p (bitsB m n)
  yes : any = true → (∃ n, n < N ∧ best = memS (bitsB m n) ∧ ¬ Pos p (bitsB m n)) ∧ ∀ n, n < N → ¬ Pos p (bitsB m n) → NotB (memS (bitsB m n)) best
theorem SmallN.skip {p : Pln} {m N : Nat} {best : List Int} {any : Bool} (h : SmallN p m N best any) (hk : Pos p (bitsB m N) ∨ any = true ∧ NotB (memS (bitsB m N)) best) : SmallN p m (N + 1) best any := by
  refine ⟨fun ha => ⟨(h.no ha).1, fun n hn => ?_⟩, fun ha => ⟨(h.yes ha).1.imp fun n hn => ⟨by omega, hn.2⟩, fun n hn hp => ?_⟩⟩
  · by_cases hnN : n = N
    · subst hnN
      rcases hk with hk | ⟨hk, -⟩
      · exact hk
      · rw [ha] at hk; cases hk
    · exact (h.no ha).2 n (by omega)
  · by_cases hnN : n = N
    · subst hnN
      rcases hk with hk | ⟨-, hk⟩
      · exact absurd hk hp
      · exact hk
    · exact (h.yes ha).2 n (by omega) hp
theorem SmallN.take {p : Pln} {m N : Nat} {best : List Int} {any : Bool} (h : SmallN p m N best any) (hp : ¬ Pos p (bitsB m N)) (hb : any = true → ¬ NotB (memS (bitsB m N)) best) : SmallN p m (N + 1) (memS (bitsB m N)) true := by
  refine ⟨fun h => (nomatch h), fun _ => ⟨⟨N, by omega, rfl, hp⟩, fun n hn hpn => ?_⟩⟩
  by_cases hnN : n = N
  · subst hnN
    exact .refl _
  · cases any with
    | false => exact absurd ((h.no rfl).2 n (by omega)) hpn
    | true =>
      have h1 := (h.yes rfl).2 n (by omega) hpn
      have h2 := hb rfl
      refine h1.trans ?_
      unfold NotB at h2 ⊢
      by_cases c1 : (memS (bitsB m N)).length < best.length
      · exact .inl c1
      · refine .inr ⟨by omega, ?_⟩
        have c2 : ¬ lexI best (memS (bitsB m N)) ≤ 0 := fun h => h2 (.inr ⟨by omega, h⟩)
        have := lexI_neg best (memS (bitsB m N))
        omega
end Go.Proofs.Tryz
end
section
set_option maxRecDepth 100000
set_option linter.unusedVariables false
set_option linter.unusedSimpArgs false
namespace Go.Proofs.Tryz
open Go Go.Sx
theorem ex_pair {v : Option (List Int × Int)} {S : List Int → Bool → Prop} (h : ∃ r, v = some r ∧ ∃ l any, r = (l, if any = true then (0 : Int) else 7) ∧ S l any) : ∃ l any, v = some (l, if any = true then (0 : Int) else 7) ∧ S l any := by
  obtain ⟨r, h1, l, any, h2, h3⟩ := h
  exact ⟨l, any, by rw [h1, h2], h3⟩
theorem l36 {F : Nat} (hF : 5000 ≤ F) {p : Pln} (hp : PShort p) : (exE p ≠ 0 → c36 F p = some ([], exE p)) ∧ (exE p = 0 → 12 < (rulesS p).length → c36 F p = some ([], 22)) ∧
    (exE p = 0 → (rulesS p).length ≤ 12 → ∃ l any, c36 F p = some (l, if any = true then 0 else 7) ∧ SmallN p (rulesS p).length (2 ^ (rulesS p).length) l any) := by
  rw [x36]
  unfold c36k
  simp only [peta, l82 (show 400 ≤ F by omega) hp, Option.bind_some, l65 (show 400 ≤ F by omega) hp]
  refine ⟨fun he => by simp [he, nilT], fun he hl => ?_, fun he hl => ?_⟩
  · have : (12 : Int) < ((rulesS p).length : Int) := by omega
    simp [he, this, nilT]
  · obtain ⟨h0, h8⟩ := exE_zero he
    have hv := PV.of hp h0
    have hnl : ¬ (12 : Int) < ((rulesS p).length : Int) := by omega
    have hpow : 2 ^ (rulesS p).length ≤ 4096 := Nat.pow_le_pow_right (n := 2) (by omega) hl
    have hw : w64 ((1 : Int) * (2 : Int) ^ Min.min (Int.toNat ((rulesS p).length : Int)) 64) = ((2 ^ (rulesS p).length : Nat) : Int) := by
      rw [show Min.min (Int.toNat ((rulesS p).length : Int)) 64 = (rulesS p).length by rw [Int.toNat_natCast]; omega, Int.one_mul]
      rw [show ((2 : Int) ^ (rulesS p).length) = ((2 ^ (rulesS p).length : Nat) : Int) by simp]
      have hp0 : ((2 ^ (rulesS p).length : Nat) : Int) ≤ 4096 := Int.ofNat_le.2 hpow
      have hp1 : (0 : Int) ≤ ((2 ^ (rulesS p).length : Nat) : Int) := Int.natCast_nonneg _
      exact w64_in (by omega) (by omega)
    simp only [he, decide_true, Bool.not_true, cond_false, hnl, decide_false, Option.bind_some]
    refine ex_pair ?_
    have hrl : (rulesS p).length ≤ 3000 := by omega
    simp only [hw]
    generalize hM : 2 ^ (rulesS p).length = M at hpow
    refine bind_inv (fun x : List Int × Bool × Int => ∃ N : Nat, x.2.2 = N ∧ N ≤ M ∧ x.1.length ≤ 12 ∧ SmallN p (rulesS p).length N x.1 x.2.1) (fun x => M - x.2.2.toNat) (fun b => SmallN p (rulesS p).length M b.1 b.2) ?_ ⟨0, rfl, Nat.zero_le _, Nat.zero_le _, ⟨fun _ => ⟨rfl, fun n hn => by omega⟩, fun h => (nomatch h)⟩⟩ (by simp only; omega) ?_
    · rintro ⟨out, any, v⟩ ⟨N, hv, hN, hol, hS⟩
      simp only at hv hol hS
      subst hv
      by_cases hNM : N < M
      · have hn4 : N < 4096 := by omega
        have hbl := bitsB_len (rulesS p).length N
        have hoc := ocV_eq (m := (rulesS p).length) (n := N) hl (by omega)
        have hsl : (memS (bitsB (rulesS p).length N)).length ≤ 12 := by have := memS_len (bitsB (rulesS p).length N); omega
        have hw1 : w64 ((N : Int) + 1) = ((N + 1 : Nat) : Int) := by rw [w64_in (by omega) (by omega)]; omega
        refine .inl ?_
        have fin : ∀ (l' : List Int) (any' : Bool), l'.length ≤ 12 → SmallN p (rulesS p).length (N + 1) l' any' → ∃ N' : Nat, (((N + 1 : Nat) : Int)) = N' ∧ N' ≤ M ∧ l'.length ≤ 12 ∧ SmallN p (rulesS p).length N' l' any' := fun l' any' h1 h2 => ⟨N + 1, rfl, by omega, h1, h2⟩
        by_cases hc1 : any = true ∧ out.length < (memS (bitsB (rulesS p).length N)).length
        · refine ⟨(out, any, ((N + 1 : Nat) : Int)), ?_, fin _ _ hol (hS.skip (.inr ⟨hc1.1, .inl hc1.2⟩)), by simp only; omega⟩
          have h2 : (out.length : Int) < ((memS (bitsB (rulesS p).length N)).length : Int) := by have := hc1.2; omega
          simp (disch := omega) only [cd_pos, hc1.1, cond_true, Option.bind_some, hoc, h2, decide_true, hw1]
        · have hv52 : (bif any then some (decide ((out.length : Int) < ocV (N : Int))) else some false) = some false := by
            cases any with
            | false => rfl
            | true =>
              have : ¬ ((out.length : Int) < ((memS (bitsB (rulesS p).length N)).length : Int)) := fun h => hc1 ⟨rfl, by omega⟩
              rw [hoc]
              simp [this]
          have hrr := memS_rng hbl
          obtain ⟨b, k1, k2⟩ := l83 (F := F) (by omega) hv (L := pickS (rulesS p) (memS (bitsB (rulesS p).length N))) (by unfold pickS; rw [List.length_map]; omega) (fun r hrm => by
            obtain ⟨x, hx, rfl⟩ := List.mem_map.1 hrm
            have := hrr x hx
            exact hv.rulM _ (getD_mem (by omega)))
          rw [← pos_pick hbl] at k2
          have key : ∀ (Y : Option ((List Int × Bool × Int) ⊕ (List Int × Bool))) (l' : List Int) (any' : Bool), Y = some (.inl (l', any', ((N + 1 : Nat) : Int))) → l'.length ≤ 12 → SmallN p (rulesS p).length (N + 1) l' any' → ∃ y, Y = some (.inl y) ∧ (∃ N' : Nat, y.2.2 = N' ∧ N' ≤ M ∧ y.1.length ≤ 12 ∧ SmallN p (rulesS p).length N' y.1 y.2.1) ∧ M - y.2.2.toNat < M - ((N : Nat) : Int).toNat := fun Y l' any' h1 h2 h3 => ⟨_, h1, fin _ _ h2 h3, by simp only; omega⟩
          have inner : ∀ {γ : Type} (k : List Int → Option γ), Option.bind (loopO (σ := List Int × Int) (β := List Int) (fun v59 => bif decide (v59.2 < ((rulesS p).length : Int)) then gd (decide (0 ≤ v59.2)) (Option.bind (bif decide (Go.IntKind.wrap Go.IntKind.i64 ((BitVec.toNat (BitVec.ofInt 64 (Int.fdiv (N : Int) ((2 : Int) ^ Min.min (Int.toNat v59.2) 64)) &&& BitVec.ofInt 64 (1 : Int)) : Nat) : Int) = 1) then (gd (decide ((v59.1 ++ v59.2 :: nilT Int).length * 8 ≤ 140737488355328)) (gd (decide ((v59.1 ++ v59.2 :: nilT Int).length ≤ 9223372036854775807)) (some (v59.1 ++ v59.2 :: nilT Int)))) else some v59.1) fun v60 => some (Sum.inl (v60, w64 (v59.2 + 1)))) else some (Sum.inr v59.1)) F (nilT Int, 0)) k = k (memS (bitsB (rulesS p).length N)) := by
            intro γ k
            refine bind_ifl (F := F) (bitsB (rulesS p).length N) 0 memF 1 [] (by rw [hbl]; omega) rfl memF_len ?_ ?_ ?_
            · intro i x s hi hx hs1 hs2
              rw [hbl] at hi
              have hs0 : s.length ≤ 12 := by simp [hbl] at hs1; omega
              obtain rfl : decide (N / 2 ^ i % 2 = 1) = x := by
                unfold bitsB at hx
                rw [List.getElem?_map, List.getElem?_range hi] at hx
                exact Option.some.inj hx
              rw [Nat.zero_add]
              have hbe := bit_eq (n := N) (i := i) hn4 (by omega)
              simp (disch := omega) only [cd_pos, gd_dec, hbe]
              by_cases hbit : N / 2 ^ i % 2 = 1
              · have e1 : ((N / 2 ^ i % 2 : Nat) : Int) = 1 := by omega
                have e2 : memF i (decide (N / 2 ^ i % 2 = 1)) = [(i : Int)] := by rw [hbit]; rfl
                have e3 : (s ++ (i : Int) :: nilT Int).length = s.length + 1 := by simp [nilT]
                rw [e2]
                simp (disch := omega) only [e1, e3, gd_dec, decide_true, Bool.and_self, gd_true, cond_true, Option.bind_some, w64_in]
                rfl
              · have e1 : ¬ ((N / 2 ^ i % 2 : Nat) : Int) = 1 := by omega
                have e2 : memF i (decide (N / 2 ^ i % 2 = 1)) = [] := by rw [decide_eq_false hbit]; rfl
                rw [e2]
                simp (disch := omega) only [e1, decide_false, Bool.and_self, gd_true, cond_false, Option.bind_some, w64_in, List.append_nil]
            · intro s
              rw [Nat.zero_add, hbl]
              simp (disch := omega) only [cd_neg, Bool.and_self, gd_true, Option.bind_some]
            · rfl
          have h77 := l77 (F := F) (a := memS (bitsB (rulesS p).length N)) (b := out) (by omega) (by omega) (by omega)
          have t1 : List.take (memS (bitsB (rulesS p).length N)).length (List.drop 0 (memS (bitsB (rulesS p).length N))) = memS (bitsB (rulesS p).length N) := by rw [List.drop_zero, List.take_length]
          generalize hnn : memS (bitsB (rulesS p).length N) = nn at *
          by_cases hc2 : any = true ∧ nn.length = out.length ∧ 0 < lexI nn out
          · refine key _ out any ?_ hol (hS.skip (.inr ⟨hc2.1, .inr ⟨by rw [hnn]; exact hc2.2.1.symm, by rw [hnn]; have := lexI_neg nn out; have := hc2.2.2; omega⟩⟩))
            have hl2 : (nn.length : Int) = (out.length : Int) := by have := hc2.2.1; omega
            simp (disch := omega) only [cd_pos, hv52, Option.bind_some, cond_false]
            simp (disch := omega) only [cd_pos, Option.bind_some, cond_false, Option.bind_assoc, Bool.and_self, gd_true, inner, hc2.1, cond_true, t1, h77, hc2.2.2, decide_true, Bool.and_self, Nat.zero_add, Nat.le_refl, gd_true, hw1]
          · have hv54 : (bif any then bif decide ((nn.length : Int) = (out.length : Int)) then some (decide (0 < lexI nn out)) else some false else some false) = some false := by
              cases any with
              | false => rfl
              | true =>
                by_cases hl2 : nn.length = out.length
                · have h3 : ¬ 0 < lexI nn out := fun h => hc2 ⟨rfl, hl2, h⟩
                  simp [h3]
                · have h3 : ¬ (nn.length : Int) = (out.length : Int) := by omega
                  simp [h3]
            suffices go : ∃ (l' : List Int) (any' : Bool), (bif !b then some (nn, true) else some (out, any)) = some (l', any') ∧ l'.length ≤ 12 ∧ SmallN p (rulesS p).length (N + 1) l' any' by
              obtain ⟨l', any', he, h1, h2⟩ := go
              refine key _ l' any' ?_ h1 h2
              simp (disch := omega) only [cd_pos, hv52, Option.bind_some, cond_false]
              simp (disch := omega) only [cd_pos, Option.bind_some, cond_false, Option.bind_assoc, Bool.and_self, gd_true, inner, t1, h77, decide_true, Nat.zero_add, Nat.le_refl, hw1, hv54, l86 (show nn.length < F by omega) (show nn.length ≤ 3000 by omega) hrl hrr, k1, he]
            cases b with
            | true => exact ⟨out, any, rfl, hol, hS.skip (.inl (k2.1 rfl))⟩
            | false =>
              have hnp : ¬ Pos p (bitsB (rulesS p).length N) := fun h => by have := k2.2 h; cases this
              by_cases hnb : any = true ∧ NotB nn out
              · have e : nn = out := by
                  rcases hnb.2 with h | ⟨h1, h2⟩
                  · exact absurd ⟨hnb.1, h⟩ hc1
                  · refine lexI_eq ?_
                    have h3 : ¬ 0 < lexI nn out := fun h => hc2 ⟨hnb.1, h1.symm, h⟩
                    have := lexI_neg nn out
                    omega
                refine ⟨nn, true, rfl, hsl, ?_⟩
                have := hS.skip (.inr ⟨hnb.1, by rw [hnn]; exact hnb.2⟩)
                rw [hnb.1] at this
                rw [e]
                exact this
              · refine ⟨nn, true, rfl, hsl, ?_⟩
                have := hS.take hnp (fun ha => by rw [hnn]; exact fun h => hnb ⟨ha, h⟩)
                rwa [hnn] at this
      · obtain rfl : N = M := by omega
        refine .inr ⟨(out, any), ?_, hS⟩
        simp (disch := omega) only [cd_neg]
    · rintro ⟨l, any⟩ hS
      refine ⟨(l, if any = true then 0 else 7), ?_, l, any, rfl, hS⟩
      simp only [l88, Option.bind_some]
      cases any <;> rfl
end Go.Proofs.Tryz
end
section
set_option maxRecDepth 100000
set_option linter.unusedVariables false
set_option linter.unusedSimpArgs false
namespace Go.Proofs.Tryz
open Go Go.Sx
theorem Hol.win {p : Pln} (hp : PV p) {t : List Int} (h : Hol p (rulesS p) t) {i : Nat} (hi : i < p.1.length) : 0 ≤ fL t i ∧ fL t i ≤ 20000 := by
  have h1 := holW.1 (h.rul _ (List.mem_of_getElem? (win_rul hi)))
  have h2 := hp.at (a := (i : Int)) (by omega) (by omega)
  omega
theorem Hol.form {p : Pln} (hp : PV p) {t : List Int} (h : Hol p (rulesS p) t) : formE p t = 0 := by
  unfold formE
  rw [if_neg (by have := h.len; simpa using this), if_neg]
  simp only [List.any_eq_true, decide_eq_true_eq, not_exists, not_and]
  intro x hx
  obtain ⟨i, hi, rfl⟩ := List.mem_iff_getElem.1 hx
  have := h.win hp (i := i) (by rw [← h.len]; exact hi)
  simp only [fL] at this
  rw [getD_some (List.getElem?_eq_getElem hi)] at this
  omega
end Go.Proofs.Tryz
end
section
set_option maxRecDepth 100000
set_option linter.all false
namespace Go.Proofs.Tryz
open Go Go.Sx
noncomputable def lx13 (F : Nat) : LK := lC (pc15_ok F) (lC (pc49_ok F) (lC (pc35_ok F) (lC (pc33_ok F) (lC (pc37_ok F) (lC (pc32_ok F) (lC (pc52_ok F) (lC (pc59_ok F) (lC (pc36_ok F) (lC (pc26_ok F) (lC (pc14_ok F) lN))))))))))
noncomputable def c13 (F : Nat) (a : TP) : Option (Bool) :=
  Option.bind (c14 F (a.1, a.2.1, a.2.2)) fun (v40 : TP) => Option.bind (c49 F ((v40.1, v40.2.1, v40.2.2), (4 : Int))) fun (v41 : Bool) => bif !v41 then (some (true)) else (Option.bind (c26 F (a.1, a.2.1, a.2.2)) fun (v42 : List Int × Int) => Option.bind (c35 F (a.1, a.2.1, a.2.2)) fun (v43 : List Int × Int) => Option.bind (c36 F (a.1, a.2.1, a.2.2)) fun (v44 : List Int × Int) => bif decide (v42.2 = (0 : Int)) then (Option.bind (c52 F ((a.1, a.2.1, a.2.2), v42.1)) fun (v45 : Int × Int) => Option.bind (c33 F ((v40.1, v40.2.1, v40.2.2), v42.1)) fun (v46 : Int × Int) => Option.bind (Option.bind (c32 F ((v40.1, v40.2.1, v40.2.2), v42.1)) fun (v48 : Int) => bif decide (v48 = (0 : Int)) then (bif decide (v46.2 = (0 : Int)) then (bif decide (v45.2 = (0 : Int)) then (Option.bind (c37 F (v40.1, v40.2.1, v40.2.2)) fun (v49 : List (ByteArray × Int × Int)) => bif decide (v45.1 = (↑(List.length v49) : Int)) then (bif decide (v43.2 = (7 : Int)) then (bif decide (v44.2 = (7 : Int)) then (some (true)) else (some (decide (v44.2 = (22 : Int))))) else (some (false))) else (some (false))) else (some (false))) else (some (false))) else (some (false))) fun (v47 : Bool) => some (v47)) else (Option.bind (bif !decide (v42.2 = (23 : Int)) then (some (true)) else (bif !decide (v43.2 = (0 : Int)) then (some (true)) else (bif decide ((↑(List.length v43.1) : Int) = (0 : Int)) then (some (true)) else (Option.bind (c59 F ((a.1, a.2.1, a.2.2), v43.1)) fun (v55 : Bool) => some (!v55))))) fun (v50 : Bool) => bif v50 then (some (false)) else (bif !decide (v44.2 = (0 : Int)) then (Option.bind (bif decide (v44.2 = (22 : Int)) then (Option.bind (c37 F (v40.1, v40.2.1, v40.2.2)) fun (v52 : List (ByteArray × Int × Int)) => some (decide ((12 : Int) < (↑(List.length v52) : Int)))) else (some (false))) fun (v51 : Bool) => some (v51)) else (Option.bind (bif decide ((0 : Int) < (↑(List.length v44.1) : Int)) then (bif decide ((↑(List.length v44.1) : Int) ≤ (↑(List.length v43.1) : Int)) then (Option.bind (c59 F ((a.1, a.2.1, a.2.2), v44.1)) fun (v54 : Bool) => some (v54)) else (some (false))) else (some (false))) fun (v53 : Bool) => some (v53)))))
noncomputable def pc13 (F : Nat) : PC := { ats := [.agg [sR, sO, .int .i64]], rts := [.val (.bool)], code := c13 F }
theorem pc13_ok (F : Nat) : PCOk cx 13 (pc13 F) := qE (lx13 F) (.two .leaf (.two .leaf (.two .leaf (.two .leaf (.two .leaf (.two .leaf (.two (.two .leaf (.two (.two .leaf (.two .leaf (.two (.join [(.normal, ⟨[.slot 2 (.val (.bool))], []⟩)] ⟨[2, 83, 82, 81, 80, 79, 78, 77, 76, 75, 74, 73, 72, 71, 70, 69, 68, 67, 66, 65, 64, 63, 62, 61, 60, 59, 58, 57, 56, 55, 54, 53], [], []⟩ .leaf) .leaf))) .leaf)) (.two (.two (.join [(.normal, ⟨[.slot 100 (.val (.bool))], []⟩)] ⟨[100, 99, 98, 97, 96, 95, 94, 93, 92, 91, 90, 89, 88, 87, 86, 85, 84], [], []⟩ .leaf) .leaf) (.two (.two .leaf (.two (.two (.join [(.normal, ⟨[.slot 2 (.val (.bool))], []⟩)] ⟨[2, 110, 109, 108, 107, 106, 105, 104, 103], [], []⟩ .leaf) .leaf) .leaf)) (.two (.join [(.normal, ⟨[.slot 2 (.val (.bool))], []⟩)] ⟨[2, 125, 124, 123, 122, 121, 120, 119, 118, 117, 116, 115, 114, 113, 112, 111], [], []⟩ .leaf) .leaf)))))))))) f13 (by kernel_rfl) fun a => by kernel_rfl
end Go.Proofs.Tryz
end
