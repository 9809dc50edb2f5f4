/- Plain law: the smallest conflict. Plain law: the smallest conflict, the program's. And further parts. -/
import Derived.Test.YtlfcbhjoldgijaaGreatXT9za
import Derived.Test.YtlfcbhjoldgijaaGreatXTtT
set_option maxRecDepth 100000
set_option linter.unusedVariables false
set_option linter.unusedSimpArgs false
set_option linter.all false
namespace Go.Proofs.Tryz
open Go Go.Sx
noncomputable def ocV (x : Int) : Int := (c87 0 (Go.IntKind.wrap Go.IntKind.u64 x)).getD 0
noncomputable def c36k (F : Nat) (a : List (ByteArray × Int × List ByteArray × List ByteArray × List ByteArray × Int × Int) × List (Int × Int × Int) × Int) : Option (List Int × Int) :=
  Option.bind (c82 F (Prod.fst a, Prod.fst (Prod.snd a), Prod.snd (Prod.snd a))) fun (v46 : Int) => bif !Decidable.decide (v46 = (0 : Int)) then (some ((Go.Sx.nilT Int, v46))) else (Option.bind (c65 F (Prod.fst a, Prod.fst (Prod.snd a), Prod.snd (Prod.snd a))) fun (v47 : List (ByteArray × Int × Int × Int)) => bif Decidable.decide ((12 : Int) < (↑(List.length v47) : Int)) then (some ((Go.Sx.nilT Int, (22 : Int)))) else (Option.bind (loopO (σ := List Int × Bool × Int) (β := List Int × Bool) (fun (v50 : List Int × Bool × Int) => bif Decidable.decide (Prod.snd (Prod.snd v50) < Go.Sx.w64 ((1 : Int) * (2 : Int) ^ Min.min (Int.toNat (↑(List.length v47) : Int)) (64 : Nat))) then (Option.bind (Option.bind (bif Prod.fst (Prod.snd v50) then (some (Decidable.decide ((↑(List.length (Prod.fst v50)) : Int) < ocV (Prod.snd (Prod.snd v50))))) else (some (Bool.false))) fun (v52 : Bool) => bif v52 then (some ((Prod.fst v50, Prod.fst (Prod.snd v50)))) else (Option.bind (loopO (σ := List Int × Int) (β := List Int) (fun (v59 : List Int × Int) => bif Decidable.decide (Prod.snd v59 < (↑(List.length v47) : Int)) then (gd (Decidable.decide ((0 : Int) ≤ Prod.snd v59)) (Option.bind (bif Decidable.decide (Go.IntKind.wrap Go.IntKind.i64 (↑(BitVec.toNat (BitVec.ofInt (64 : Nat) (Int.fdiv (Prod.snd (Prod.snd v50)) ((2 : Int) ^ Min.min (Int.toNat (Prod.snd v59)) (64 : Nat))) &&& BitVec.ofInt (64 : Nat) (1 : Int))) : Int) = (1 : Int)) then (gd (Decidable.decide (List.length (Prod.fst v59) = List.length (Prod.fst v59))) (gd (Decidable.decide (List.length (Prod.fst v59 ++ Prod.snd v59 :: Go.Sx.nilT Int) * (8 : Nat) ≤ (140737488355328 : Nat))) (gd (Decidable.decide (List.length (Prod.fst v59 ++ Prod.snd v59 :: Go.Sx.nilT Int) ≤ (9223372036854775807 : Nat))) (gd (Decidable.decide (List.length (Prod.fst v59 ++ Prod.snd v59 :: Go.Sx.nilT Int) = List.length (Prod.fst v59 ++ Prod.snd v59 :: Go.Sx.nilT Int)) && Bool.true && Bool.true) (some (Prod.fst v59 ++ Prod.snd v59 :: Go.Sx.nilT Int)))))) else (gd (Decidable.decide (List.length (Prod.fst v59) = List.length (Prod.fst v59)) && Bool.true && Bool.true) (some (Prod.fst v59)))) fun (v60 : List Int) => Option.bind (gd (Decidable.decide (List.length v60 = List.length v60) && Bool.true && (Bool.true && Bool.true)) (some ((v60, Go.Sx.w64 (Prod.snd v59 + (1 : Int)))))) fun (v61 : List Int × Int) => some (Sum.inl v61))) else (Option.bind (gd (Decidable.decide (List.length (Prod.fst v59) = List.length (Prod.fst v59)) && Bool.true && Bool.true) (some (Prod.fst v59))) fun (v62 : List Int) => some (Sum.inr v62))) F ((Go.Sx.nilT Int, (0 : Int)))) fun (v53 : List Int) => Option.bind (bif Prod.fst (Prod.snd v50) then (bif Decidable.decide ((↑(List.length v53) : Int) = (↑(List.length (Prod.fst v50)) : Int)) then (gd (Decidable.decide ((0 : Nat) + List.length v53 ≤ List.length v53) && Bool.true && Bool.true) (Option.bind (c77 F (List.take (List.length v53) (List.drop (0 : Nat) v53), Prod.fst v50)) fun (v58 : Int) => some (Decidable.decide ((0 : Int) < v58)))) else (some (Bool.false))) else (some (Bool.false))) fun (v54 : Bool) => bif v54 then (some ((Prod.fst v50, Prod.fst (Prod.snd v50)))) else (gd (Bool.true && (Decidable.decide (List.length v53 = List.length v53) && Bool.true && Bool.true && Bool.true && Bool.true)) (Option.bind (c86 F (v47, v53)) fun (v55 : List (ByteArray × Int × Int × Int)) => Option.bind (c83 F ((Prod.fst a, Prod.fst (Prod.snd a), Prod.snd (Prod.snd a)), v55)) fun (v56 : Bool) => Option.bind (bif !v56 then (some ((v53, Bool.true))) else (some ((Prod.fst v50, Prod.fst (Prod.snd v50))))) fun (v57 : List Int × Bool) => some ((Prod.fst v57, Prod.snd v57)))))) fun (v51 : List Int × Bool) => some (Sum.inl (Prod.fst v51, Prod.snd v51, Go.Sx.w64 (Prod.snd (Prod.snd v50) + (1 : Int))))) else (some (Sum.inr (Prod.fst v50, Prod.fst (Prod.snd v50))))) F ((Go.Sx.nilT Int, Bool.false, (0 : Int)))) fun (v48 : List Int × Bool) => Option.bind (c88 F (!Prod.snd v48, (7 : Int))) fun (v49 : Int) => some ((Prod.fst v48, v49))))
theorem x36 (F : Nat) (a) : c36 F a = c36k F a := by kernel_rfl
def bitsB (m n : Nat) : List Bool := (List.range m).map fun i => decide (n / 2 ^ i % 2 = 1)
theorem oc_all : ((List.range 4096).all fun n => decide (ocV (n : Int) = ((memS (bitsB 12 n)).length : Int))) = true := by kernel_rfl
theorem bitsB_len (m n : Nat) : (bitsB m n).length = m := by simp [bitsB]
theorem bitsB_get {m n k : Nat} : (bitsB m n)[k]? = some true ↔ k < m ∧ n / 2 ^ k % 2 = 1 := by
  unfold bitsB
  rw [List.getElem?_map]
  by_cases h : k < m
  · rw [List.getElem?_range h]
    simp [h]
  · rw [List.getElem?_eq_none (by simpa using h)]
    simp [h]
theorem ifl_append {α β : Type} {f : Nat → α → List β} : ∀ (l m : List α) (o : Nat), ifl f o (l ++ m) = ifl f o l ++ ifl f (o + l.length) m
  | [], m, o => rfl
  | a :: l, m, o => by
    simp only [List.cons_append, ifl, ifl_append l m, List.append_assoc, List.length_cons]
    rw [show o + 1 + l.length = o + (l.length + 1) by omega]
theorem ifl_false : ∀ (l : List Bool) (o : Nat), (∀ b ∈ l, b = false) → ifl memF o l = []
  | [], o, _ => rfl
  | b :: l, o, h => by
    have hb := h b (by simp)
    subst hb
    simp only [ifl, memF]
    exact ifl_false l (o + 1) fun b hb => h b (by simp [hb])
theorem bits_wide {m n : Nat} (hm : m ≤ 12) (hn : n < 2 ^ m) : memS (bitsB m n) = memS (bitsB 12 n) := by
  obtain ⟨d, hd⟩ : ∃ d, 12 = m + d := ⟨12 - m, by omega⟩
  rw [hd]
  have : bitsB (m + d) n = bitsB m n ++ (List.range' m d).map fun i => decide (n / 2 ^ i % 2 = 1) := by
    unfold bitsB
    rw [List.range_eq_range', List.range_eq_range', ← List.map_append]
    congr 1
    have := List.range'_append (s := 0) (m := m) (n := d) (step := 1)
    simp only [Nat.one_mul, Nat.zero_add] at this
    exact this.symm
  unfold memS
  have hz : ifl memF (0 + (bitsB m n).length) ((List.range' m d).map fun i => decide (n / 2 ^ i % 2 = 1)) = [] := by
    refine ifl_false _ _ fun b hb => ?_
    obtain ⟨i, hi, rfl⟩ := List.mem_map.1 hb
    rw [List.mem_range'] at hi
    obtain ⟨j, hj, rfl⟩ := hi
    have : n / 2 ^ (m + 1 * j) = 0 := Nat.div_eq_of_lt (Nat.lt_of_lt_of_le hn (Nat.pow_le_pow_right (by omega) (by omega)))
    rw [this]
    rfl
  rw [this, ifl_append, hz, List.append_nil]
theorem ocV_eq {m n : Nat} (hm : m ≤ 12) (hn : n < 2 ^ m) : ocV (n : Int) = ((memS (bitsB m n)).length : Int) := by
  have h12 : n < 4096 := Nat.lt_of_lt_of_le hn (Nat.pow_le_pow_right (n := 2) (by omega) hm)
  have := List.all_eq_true.1 oc_all n (List.mem_range.2 h12)
  rw [bits_wide hm hn]
  exact of_decide_eq_true this
theorem bit_eq {n i : Nat} (hn : n < 4096) (hi : i < 64) : Go.IntKind.wrap Go.IntKind.i64 ((BitVec.toNat (BitVec.ofInt 64 (Int.fdiv (n : Int) ((2 : Int) ^ Min.min (Int.toNat (i : Int)) 64)) &&& BitVec.ofInt 64 (1 : Int)) : Nat) : Int) = ((n / 2 ^ i % 2 : Nat) : Int) := by
  have e1 : Min.min (Int.toNat (i : Int)) 64 = i := by rw [Int.toNat_natCast]; omega
  have e2 : Int.fdiv (n : Int) ((2 : Int) ^ i) = ((n / 2 ^ i : Nat) : Int) := by
    rw [Int.fdiv_eq_ediv_of_nonneg _ (by exact Int.le_of_lt (Int.pow_pos (by omega)))]
    rw [show ((2 : Int) ^ i) = ((2 ^ i : Nat) : Int) by simp, ← Int.natCast_ediv]
  have h3 : n / 2 ^ i ≤ n := Nat.div_le_self _ _
  have e3 : BitVec.toNat (BitVec.ofInt 64 ((n / 2 ^ i : Nat) : Int) &&& BitVec.ofInt 64 (1 : Int)) = n / 2 ^ i % 2 := by
    rw [BitVec.toNat_and]
    have a1 : BitVec.toNat (BitVec.ofInt 64 ((n / 2 ^ i : Nat) : Int)) = n / 2 ^ i := by
      rw [show BitVec.ofInt 64 ((n / 2 ^ i : Nat) : Int) = BitVec.ofNat 64 (n / 2 ^ i) from BitVec.ofInt_natCast .., BitVec.toNat_ofNat]
      exact Nat.mod_eq_of_lt (by omega)
    have a2 : BitVec.toNat (BitVec.ofInt 64 (1 : Int)) = 1 := rfl
    rw [a1, a2, Nat.and_one_is_mod]
  rw [e1, e2, e3]
  have h4 : n / 2 ^ i % 2 < 2 := Nat.mod_lt _ (by omega)
  exact w64_in (by omega) (by omega)
def numB : List Bool → Nat
  | [] => 0
  | b :: l => (if b = true then 1 else 0) + 2 * numB l
theorem numB_lt : ∀ l : List Bool, numB l < 2 ^ l.length
  | [] => by simp [numB]
  | b :: l => by
    have := numB_lt l
    simp only [numB, List.length_cons, Nat.pow_succ]
    split <;> omega
theorem numB_bit : ∀ (l : List Bool) (k : Nat), l[k]? = some true ↔ numB l / 2 ^ k % 2 = 1
  | [], k => by simp [numB]
  | b :: l, 0 => by
    cases b <;> simp [numB] <;> omega
  | b :: l, k + 1 => by
    rw [List.getElem?_cons_succ, numB_bit l k]
    have : numB (b :: l) / 2 ^ (k + 1) = numB l / 2 ^ k := by
      rw [Nat.pow_succ', ← Nat.div_div_eq_div_mul]
      congr 1
      simp only [numB]
      split <;> omega
    rw [this]
theorem ext_true {B C : List Bool} (hl : B.length = C.length) (h : ∀ k : Nat, B[k]? = some true ↔ C[k]? = some true) : B = C := by
  apply List.ext_getElem hl
  intro i h1 h2
  have := h i
  rw [List.getElem?_eq_getElem h1, List.getElem?_eq_getElem h2] at this
  simp only [Option.some.injEq] at this
  cases hb : B[i] <;> cases hc : C[i] <;> simp_all
theorem bits_num (B : List Bool) : bitsB B.length (numB B) = B := by
  refine ext_true (bitsB_len _ _) fun k => ?_
  rw [bitsB_get, numB_bit]
  constructor
  · rintro ⟨_, h⟩; exact h
  · intro h
    exact ⟨(List.getElem?_eq_some_iff.1 ((numB_bit B k).2 h)).1, h⟩
def NotB (l best : List Int) : Prop := best.length < l.length ∨ best.length = l.length ∧ lexI best l ≤ 0
theorem NotB.refl (l : List Int) : NotB l l := .inr ⟨rfl, by rw [lexI_self]; exact Int.le_refl _⟩
theorem NotB.trans {a b c : List Int} (h1 : NotB a b) (h2 : NotB b c) : NotB a c := by
  rcases h1 with h1 | ⟨h1, k1⟩ <;> rcases h2 with h2 | ⟨h2, k2⟩
  · exact .inl (by omega)
  · exact .inl (by omega)
  · exact .inl (by omega)
  · exact .inr ⟨by omega, lexI_trans k2 k1⟩
theorem NotB.anti {a b : List Int} (h1 : NotB a b) (h2 : NotB b a) : a = b := by
  rcases h1 with h1 | ⟨h1, k1⟩ <;> rcases h2 with h2 | ⟨h2, k2⟩
  · omega
  · omega
  · omega
  · refine lexI_eq ?_
    have := lexI_neg a b
    omega
structure SmallN (p : Pln) (m N : Nat) (best : List Int) (any : Bool) : Prop where
  no : any = false → best = [] ∧ ∀ n, n < N → Pos p (bitsB m n)
  yes : any = true → (∃ n, n < N ∧ best = memS (bitsB m n) ∧ ¬ Pos p (bitsB m n)) ∧ ∀ n, n < N → ¬ Pos p (bitsB m n) → NotB (memS (bitsB m n)) best
theorem SmallN.skip {p : Pln} {m N : Nat} {best : List Int} {any : Bool} (h : SmallN p m N best any) (hk : Pos p (bitsB m N) ∨ any = true ∧ NotB (memS (bitsB m N)) best) : SmallN p m (N + 1) best any := by
  refine ⟨fun ha => ⟨(h.no ha).1, fun n hn => ?_⟩, fun ha => ⟨(h.yes ha).1.imp fun n hn => ⟨by omega, hn.2⟩, fun n hn hp => ?_⟩⟩
  · by_cases hnN : n = N
    · subst hnN
      rcases hk with hk | ⟨hk, -⟩
      · exact hk
      · rw [ha] at hk; cases hk
    · exact (h.no ha).2 n (by omega)
  · by_cases hnN : n = N
    · subst hnN
      rcases hk with hk | ⟨-, hk⟩
      · exact absurd hk hp
      · exact hk
    · exact (h.yes ha).2 n (by omega) hp
theorem SmallN.take {p : Pln} {m N : Nat} {best : List Int} {any : Bool} (h : SmallN p m N best any) (hp : ¬ Pos p (bitsB m N)) (hb : any = true → ¬ NotB (memS (bitsB m N)) best) : SmallN p m (N + 1) (memS (bitsB m N)) true := by
  refine ⟨fun h => (nomatch h), fun _ => ⟨⟨N, by omega, rfl, hp⟩, fun n hn hpn => ?_⟩⟩
  by_cases hnN : n = N
  · subst hnN
    exact .refl _
  · cases any with
    | false => exact absurd ((h.no rfl).2 n (by omega)) hpn
    | true =>
      have h1 := (h.yes rfl).2 n (by omega) hpn
      have h2 := hb rfl
      refine h1.trans ?_
      unfold NotB at h2 ⊢
      by_cases c1 : (memS (bitsB m N)).length < best.length
      · exact .inl c1
      · refine .inr ⟨by omega, ?_⟩
        have c2 : ¬ lexI best (memS (bitsB m N)) ≤ 0 := fun h => h2 (.inr ⟨by omega, h⟩)
        have := lexI_neg best (memS (bitsB m N))
        omega
theorem ex_pair {v : Option (List Int × Int)} {S : List Int → Bool → Prop} (h : ∃ r, v = some r ∧ ∃ l any, r = (l, if any = true then (0 : Int) else 7) ∧ S l any) : ∃ l any, v = some (l, if any = true then (0 : Int) else 7) ∧ S l any := by
  obtain ⟨r, h1, l, any, h2, h3⟩ := h
  exact ⟨l, any, by rw [h1, h2], h3⟩
theorem l36 {F : Nat} (hF : 5000 ≤ F) {p : Pln} (hp : PShort p) : (exE p ≠ 0 → c36 F p = some ([], exE p)) ∧ (exE p = 0 → 12 < (rulesS p).length → c36 F p = some ([], 22)) ∧
    (exE p = 0 → (rulesS p).length ≤ 12 → ∃ l any, c36 F p = some (l, if any = true then 0 else 7) ∧ SmallN p (rulesS p).length (2 ^ (rulesS p).length) l any) := by
  rw [x36]
  unfold c36k
  simp only [peta, l82 (show 400 ≤ F by omega) hp, Option.bind_some, l65 (show 400 ≤ F by omega) hp]
  refine ⟨fun he => by simp [he, nilT], fun he hl => ?_, fun he hl => ?_⟩
  · have : (12 : Int) < ((rulesS p).length : Int) := by omega
    simp [he, this, nilT]
  · obtain ⟨h0, h8⟩ := exE_zero he
    have hv := PV.of hp h0
    have hnl : ¬ (12 : Int) < ((rulesS p).length : Int) := by omega
    have hpow : 2 ^ (rulesS p).length ≤ 4096 := Nat.pow_le_pow_right (n := 2) (by omega) hl
    have hw : w64 ((1 : Int) * (2 : Int) ^ Min.min (Int.toNat ((rulesS p).length : Int)) 64) = ((2 ^ (rulesS p).length : Nat) : Int) := by
      rw [show Min.min (Int.toNat ((rulesS p).length : Int)) 64 = (rulesS p).length by rw [Int.toNat_natCast]; omega, Int.one_mul]
      rw [show ((2 : Int) ^ (rulesS p).length) = ((2 ^ (rulesS p).length : Nat) : Int) by simp]
      have hp0 : ((2 ^ (rulesS p).length : Nat) : Int) ≤ 4096 := Int.ofNat_le.2 hpow
      have hp1 : (0 : Int) ≤ ((2 ^ (rulesS p).length : Nat) : Int) := Int.natCast_nonneg _
      exact w64_in (by omega) (by omega)
    simp only [he, decide_true, Bool.not_true, cond_false, hnl, decide_false, Option.bind_some]
    refine ex_pair ?_
    have hrl : (rulesS p).length ≤ 3000 := by omega
    simp only [hw]
    generalize hM : 2 ^ (rulesS p).length = M at hpow
    refine bind_inv (fun x : List Int × Bool × Int => ∃ N : Nat, x.2.2 = N ∧ N ≤ M ∧ x.1.length ≤ 12 ∧ SmallN p (rulesS p).length N x.1 x.2.1) (fun x => M - x.2.2.toNat) (fun b => SmallN p (rulesS p).length M b.1 b.2) ?_ ⟨0, rfl, Nat.zero_le _, Nat.zero_le _, ⟨fun _ => ⟨rfl, fun n hn => by omega⟩, fun h => (nomatch h)⟩⟩ (by simp only; omega) ?_
    · rintro ⟨out, any, v⟩ ⟨N, hv, hN, hol, hS⟩
      simp only at hv hol hS
      subst hv
      by_cases hNM : N < M
      · have hn4 : N < 4096 := by omega
        have hbl := bitsB_len (rulesS p).length N
        have hoc := ocV_eq (m := (rulesS p).length) (n := N) hl (by omega)
        have hsl : (memS (bitsB (rulesS p).length N)).length ≤ 12 := by have := memS_len (bitsB (rulesS p).length N); omega
        have hw1 : w64 ((N : Int) + 1) = ((N + 1 : Nat) : Int) := by rw [w64_in (by omega) (by omega)]; omega
        refine .inl ?_
        have fin : ∀ (l' : List Int) (any' : Bool), l'.length ≤ 12 → SmallN p (rulesS p).length (N + 1) l' any' → ∃ N' : Nat, (((N + 1 : Nat) : Int)) = N' ∧ N' ≤ M ∧ l'.length ≤ 12 ∧ SmallN p (rulesS p).length N' l' any' := fun l' any' h1 h2 => ⟨N + 1, rfl, by omega, h1, h2⟩
        by_cases hc1 : any = true ∧ out.length < (memS (bitsB (rulesS p).length N)).length
        · refine ⟨(out, any, ((N + 1 : Nat) : Int)), ?_, fin _ _ hol (hS.skip (.inr ⟨hc1.1, .inl hc1.2⟩)), by simp only; omega⟩
          have h2 : (out.length : Int) < ((memS (bitsB (rulesS p).length N)).length : Int) := by have := hc1.2; omega
          simp (disch := omega) only [cd_pos, hc1.1, cond_true, Option.bind_some, hoc, h2, decide_true, hw1]
        · have hv52 : (bif any then some (decide ((out.length : Int) < ocV (N : Int))) else some false) = some false := by
            cases any with
            | false => rfl
            | true =>
              have : ¬ ((out.length : Int) < ((memS (bitsB (rulesS p).length N)).length : Int)) := fun h => hc1 ⟨rfl, by omega⟩
              rw [hoc]
              simp [this]
          have hrr := memS_rng hbl
          obtain ⟨b, k1, k2⟩ := l83 (F := F) (by omega) hv (L := pickS (rulesS p) (memS (bitsB (rulesS p).length N))) (by unfold pickS; rw [List.length_map]; omega) (fun r hrm => by
            obtain ⟨x, hx, rfl⟩ := List.mem_map.1 hrm
            have := hrr x hx
            exact hv.rulM _ (getD_mem (by omega)))
          rw [← pos_pick hbl] at k2
          have key : ∀ (Y : Option ((List Int × Bool × Int) ⊕ (List Int × Bool))) (l' : List Int) (any' : Bool), Y = some (.inl (l', any', ((N + 1 : Nat) : Int))) → l'.length ≤ 12 → SmallN p (rulesS p).length (N + 1) l' any' → ∃ y, Y = some (.inl y) ∧ (∃ N' : Nat, y.2.2 = N' ∧ N' ≤ M ∧ y.1.length ≤ 12 ∧ SmallN p (rulesS p).length N' y.1 y.2.1) ∧ M - y.2.2.toNat < M - ((N : Nat) : Int).toNat := fun Y l' any' h1 h2 h3 => ⟨_, h1, fin _ _ h2 h3, by simp only; omega⟩
          have inner : ∀ {γ : Type} (k : List Int → Option γ), Option.bind (loopO (σ := List Int × Int) (β := List Int) (fun v59 => bif decide (v59.2 < ((rulesS p).length : Int)) then gd (decide (0 ≤ v59.2)) (Option.bind (bif decide (Go.IntKind.wrap Go.IntKind.i64 ((BitVec.toNat (BitVec.ofInt 64 (Int.fdiv (N : Int) ((2 : Int) ^ Min.min (Int.toNat v59.2) 64)) &&& BitVec.ofInt 64 (1 : Int)) : Nat) : Int) = 1) then (gd (decide ((v59.1 ++ v59.2 :: nilT Int).length * 8 ≤ 140737488355328)) (gd (decide ((v59.1 ++ v59.2 :: nilT Int).length ≤ 9223372036854775807)) (some (v59.1 ++ v59.2 :: nilT Int)))) else some v59.1) fun v60 => some (Sum.inl (v60, w64 (v59.2 + 1)))) else some (Sum.inr v59.1)) F (nilT Int, 0)) k = k (memS (bitsB (rulesS p).length N)) := by
            intro γ k
            refine bind_ifl (F := F) (bitsB (rulesS p).length N) 0 memF 1 [] (by rw [hbl]; omega) rfl memF_len ?_ ?_ ?_
            · intro i x s hi hx hs1 hs2
              rw [hbl] at hi
              have hs0 : s.length ≤ 12 := by simp [hbl] at hs1; omega
              obtain rfl : decide (N / 2 ^ i % 2 = 1) = x := by
                unfold bitsB at hx
                rw [List.getElem?_map, List.getElem?_range hi] at hx
                exact Option.some.inj hx
              rw [Nat.zero_add]
              have hbe := bit_eq (n := N) (i := i) hn4 (by omega)
              simp (disch := omega) only [cd_pos, gd_dec, hbe]
              by_cases hbit : N / 2 ^ i % 2 = 1
              · have e1 : ((N / 2 ^ i % 2 : Nat) : Int) = 1 := by omega
                have e2 : memF i (decide (N / 2 ^ i % 2 = 1)) = [(i : Int)] := by rw [hbit]; rfl
                have e3 : (s ++ (i : Int) :: nilT Int).length = s.length + 1 := by simp [nilT]
                rw [e2]
                simp (disch := omega) only [e1, e3, gd_dec, decide_true, Bool.and_self, gd_true, cond_true, Option.bind_some, w64_in]
                rfl
              · have e1 : ¬ ((N / 2 ^ i % 2 : Nat) : Int) = 1 := by omega
                have e2 : memF i (decide (N / 2 ^ i % 2 = 1)) = [] := by rw [decide_eq_false hbit]; rfl
                rw [e2]
                simp (disch := omega) only [e1, decide_false, Bool.and_self, gd_true, cond_false, Option.bind_some, w64_in, List.append_nil]
            · intro s
              rw [Nat.zero_add, hbl]
              simp (disch := omega) only [cd_neg, Bool.and_self, gd_true, Option.bind_some]
            · rfl
          have h77 := l77 (F := F) (a := memS (bitsB (rulesS p).length N)) (b := out) (by omega) (by omega) (by omega)
          have t1 : List.take (memS (bitsB (rulesS p).length N)).length (List.drop 0 (memS (bitsB (rulesS p).length N))) = memS (bitsB (rulesS p).length N) := by rw [List.drop_zero, List.take_length]
          generalize hnn : memS (bitsB (rulesS p).length N) = nn at *
          by_cases hc2 : any = true ∧ nn.length = out.length ∧ 0 < lexI nn out
          · refine key _ out any ?_ hol (hS.skip (.inr ⟨hc2.1, .inr ⟨by rw [hnn]; exact hc2.2.1.symm, by rw [hnn]; have := lexI_neg nn out; have := hc2.2.2; omega⟩⟩))
            have hl2 : (nn.length : Int) = (out.length : Int) := by have := hc2.2.1; omega
            simp (disch := omega) only [cd_pos, hv52, Option.bind_some, cond_false]
            simp (disch := omega) only [cd_pos, Option.bind_some, cond_false, Option.bind_assoc, Bool.and_self, gd_true, inner, hc2.1, cond_true, t1, h77, hc2.2.2, decide_true, Bool.and_self, Nat.zero_add, Nat.le_refl, gd_true, hw1]
          · have hv54 : (bif any then bif decide ((nn.length : Int) = (out.length : Int)) then some (decide (0 < lexI nn out)) else some false else some false) = some false := by
              cases any with
              | false => rfl
              | true =>
                by_cases hl2 : nn.length = out.length
                · have h3 : ¬ 0 < lexI nn out := fun h => hc2 ⟨rfl, hl2, h⟩
                  simp [h3]
                · have h3 : ¬ (nn.length : Int) = (out.length : Int) := by omega
                  simp [h3]
            suffices go : ∃ (l' : List Int) (any' : Bool), (bif !b then some (nn, true) else some (out, any)) = some (l', any') ∧ l'.length ≤ 12 ∧ SmallN p (rulesS p).length (N + 1) l' any' by
              obtain ⟨l', any', he, h1, h2⟩ := go
              refine key _ l' any' ?_ h1 h2
              simp (disch := omega) only [cd_pos, hv52, Option.bind_some, cond_false]
              simp (disch := omega) only [cd_pos, Option.bind_some, cond_false, Option.bind_assoc, Bool.and_self, gd_true, inner, t1, h77, decide_true, Nat.zero_add, Nat.le_refl, hw1, hv54, l86 (show nn.length < F by omega) (show nn.length ≤ 3000 by omega) hrl hrr, k1, he]
            cases b with
            | true => exact ⟨out, any, rfl, hol, hS.skip (.inl (k2.1 rfl))⟩
            | false =>
              have hnp : ¬ Pos p (bitsB (rulesS p).length N) := fun h => by have := k2.2 h; cases this
              by_cases hnb : any = true ∧ NotB nn out
              · have e : nn = out := by
                  rcases hnb.2 with h | ⟨h1, h2⟩
                  · exact absurd ⟨hnb.1, h⟩ hc1
                  · refine lexI_eq ?_
                    have h3 : ¬ 0 < lexI nn out := fun h => hc2 ⟨hnb.1, h1.symm, h⟩
                    have := lexI_neg nn out
                    omega
                refine ⟨nn, true, rfl, hsl, ?_⟩
                have := hS.skip (.inr ⟨hnb.1, by rw [hnn]; exact hnb.2⟩)
                rw [hnb.1] at this
                rw [e]
                exact this
              · refine ⟨nn, true, rfl, hsl, ?_⟩
                have := hS.take hnp (fun ha => by rw [hnn]; exact fun h => hnb ⟨ha, h⟩)
                rwa [hnn] at this
      · obtain rfl : N = M := by omega
        refine .inr ⟨(out, any), ?_, hS⟩
        simp (disch := omega) only [cd_neg]
    · rintro ⟨l, any⟩ hS
      refine ⟨(l, if any = true then 0 else 7), ?_, l, any, rfl, hS⟩
      simp only [l88, Option.bind_some]
      cases any <;> rfl
theorem x89 {F : Nat} {B : List Bool} (hF : B.length < F) (hl : B.length ≤ 3000) : cx89_0 F B = some (memS B) := by
  unfold cx89_0
  refine bind_ifl (F := F) B 0 memF 1 [] hF rfl memF_len ?_ ?_ ?_
  · intro i x s hi hx hs1 hs2
    have hs0 : s.length ≤ 3000 := by simp at hs1; omega
    rw [Nat.zero_add]
    cases x with
    | true =>
      have e3 : (s ++ (i : Int) :: nilT Int).length = s.length + 1 := by simp [nilT]
      simp (disch := omega) only [cd_pos, gd_dec, Int.toNat_natCast, getD_some hx, Nat.zero_add, cond_true, e3, decide_true, Bool.and_self, gd_true, Option.bind_some, w64_in]
      rfl
    | false =>
      have e2 : memF i false = [] := rfl
      simp (disch := omega) only [cd_pos, gd_dec, Int.toNat_natCast, getD_some hx, Nat.zero_add, cond_false, decide_true, Bool.and_self, gd_true, Option.bind_some, w64_in, e2, List.append_nil]
  · intro s
    simp (disch := omega) only [cd_neg, decide_true, Bool.and_self, gd_true, Option.bind_some, Nat.zero_add]
  · rw [List.nil_append, show ifl memF 0 B = memS B from rfl]
    simp (disch := omega) only [List.drop_zero, List.take_length, Nat.zero_add, Nat.le_refl, gd_dec, decide_true, Bool.and_self, gd_true]
theorem set_back {B : List Bool} {k : Nat} (h : B[k]? = some true) : (B.set k false).set k true = B := by
  obtain ⟨hk, e⟩ := List.getElem?_eq_some_iff.1 h
  rw [List.set_set, ← e, List.set_getElem_self]
theorem l38 {F : Nat} (hF : 4000 ≤ F) {p : Pln} (hp : PV p) (hn : p.1.length ≤ 6) : c38 F p = some (memS (coreB p (rulesS p).length (List.replicate (rulesS p).length true))) := by
  have hl := rulesS_len (p := p) (by omega) (by have := hp.n2; omega)
  have hcl := condS_len p
  unfold c38
  have hw : w64 (((rulesS p).length : Int) - 1) = ((rulesS p).length : Int) - 1 := w64_in (by omega) (by omega)
  simp (disch := omega) only [peta, l37 (show 400 ≤ F by omega) hp.sh, Option.bind_some, l75, hcl, List.length_replicate, hw]
  refine ex_eq ?_
  refine bind_dsc (F := F) (rulesS p).length (fun i B => B.length = (rulesS p).length ∧ (∀ j, j < i → B[j]? = some true) ∧ coreB p i B = coreB p (rulesS p).length (List.replicate (rulesS p).length true)) (fun B => B = coreB p (rulesS p).length (List.replicate (rulesS p).length true)) (by omega) ⟨by simp, fun j hj => by simp [hj], rfl⟩ ?_ ?_ ?_
  · rintro i B hi ⟨hBl, hB, hc⟩
    have hsl : (B.set i false).length = (rulesS p).length := by rw [List.length_set]; exact hBl
    obtain ⟨b, k1, k2⟩ := l74 hF hp hn hsl
    have hbk := hB i (by omega)
    have ht : List.take (rulesS p).length (List.drop 0 (B.set i false)) = B.set i false := by rw [List.drop_zero]; exact List.take_of_length_le (by omega)
    refine ⟨if b = true then B else B.set i false, ?_, by split <;> simp [hBl], fun j hj => ?_, ?_⟩
    · simp (disch := omega) only [cd_pos, gd_dec, Int.toNat_natCast, Nat.zero_add, ht, k1, Option.bind_some, w64_in, set_back hbk, hsl, Nat.le_refl, decide_true, Bool.and_self, gd_true]
      cases b <;> simp
    · split
      · exact hB j (by omega)
      · exact set_true.2 ⟨by omega, hB j (by omega)⟩
    · rw [← hc]
      conv => rhs; unfold coreB
      by_cases hP : Pos p (B.set i false)
      · rw [if_pos (k2.2 hP), if_pos hP]
      · rw [if_neg (fun h => hP (k2.1 h)), if_neg hP]
  · rintro B ⟨hBl, -, hc⟩
    refine ⟨B, rfl, ?_⟩
    rw [← hc]
    rfl
  · rintro B hB
    have hBl : B.length = (rulesS p).length := by rw [hB, (coreB_facts (p := p) (rulesS p).length _).1]; simp
    refine ⟨memS B, ?_, by rw [hB]⟩
    simp (disch := omega) only [x89, decide_true, Bool.and_self, gd_true, Option.bind_some, hBl]
    try simp [gd_true]
theorem Hol.win {p : Pln} (hp : PV p) {t : List Int} (h : Hol p (rulesS p) t) {i : Nat} (hi : i < p.1.length) : 0 ≤ fL t i ∧ fL t i ≤ 20000 := by
  have h1 := holW.1 (h.rul _ (List.mem_of_getElem? (win_rul hi)))
  have h2 := hp.at (a := (i : Int)) (by omega) (by omega)
  omega
end Go.Proofs.Tryz
section
namespace Go.Proofs.Tryz
open Go Go.Sx
noncomputable section
end
end Go.Proofs.Tryz
end
namespace Go.Proofs.Tryz
open Go Go.Sx
structure IrrS (p : Pln) (l : List Int) : Prop where
  asc : l.Pairwise (· < ·)
  rng : ∀ x ∈ l, 0 ≤ x ∧ x < (rulesS p).length
  bad : ¬ ∃ f, Hol p (pickS (rulesS p) l) f
  min : ∀ i, i < l.length → ∃ f, Hol p (pickS (rulesS p) (l.take i ++ l.drop (i + 1))) f
theorem hol_nil (p : Pln) : ∃ f, Hol p [] f := ⟨List.replicate p.1.length 0, by simp, fun i hi => by simp only [fL]; rw [rep_getD hi]; omega, fun r hr => nomatch hr⟩
theorem IrrS.ne {p : Pln} {l : List Int} (h : IrrS p l) : l ≠ [] := fun e => by
  subst e
  exact h.bad (hol_nil p)
theorem pos_all {p : Pln} : Pos p (List.replicate (rulesS p).length true) ↔ ∃ f, Hol p (rulesS p) f := by
  unfold Pos
  rw [chS_all]
theorem all_pos {p : Pln} (h : ∃ f, Hol p (rulesS p) f) (B : List Bool) : Pos p B := by
  obtain ⟨f, hf⟩ := h
  refine ⟨f, hf.congr fun r hr => ?_⟩
  obtain ⟨k, h1, -⟩ := mem_chS.1 hr
  exact List.mem_of_getElem? h1
noncomputable def lx39 (F : Nat) : LK := lC (pc80_ok F) (lC (pc74_ok F) (lC (pc89_ok F) (lC (pc37_ok F) (lX (px89_0_ok F) lN))))
noncomputable def c39 (F : Nat) (a : TP) : Option (List Int) :=
  Option.bind (c37 F (a.1, a.2.1, a.2.2)) fun (v71 : List (ByteArray × Int × Int)) => let z1 := (↑(List.length v71) : Int); Option.bind (loopO (σ := Int) (β := List Int × Int ⊕ Unit) (fun (v90 : Int) => bif decide (v90 < w64 ((1 : Int) * (2 : Int) ^ Min.min (Int.toNat z1) (64 : Nat))) then (gd (decide (z1 ≤ z1)) (gd (decide ((↑(1 : Nat) : Int) * z1 ≤ (281474976710656 : Int))) (gd (decide (z1 ≤ (9223372036854775807 : Int))) (Option.bind (loopO (σ := List Bool × Int) (β := List Bool) (fun (v95 : List Bool × Int) => bif decide (v95.2 < z1) then (gd (decide ((0 : Int) ≤ v95.2)) (gd (decide ((0 : Int) ≤ v95.2)) (gd (decide (v95.2 < (↑(Int.toNat z1) : Int))) (gd (decide ((0 : Nat) + Int.toNat v95.2 < List.length v95.1)) (some (Sum.inl (List.set v95.1 ((0 : Nat) + Int.toNat v95.2) (decide (Go.IntKind.wrap Go.IntKind.i64 (↑(BitVec.toNat (BitVec.ofInt (64 : Nat) (Int.fdiv v90 ((2 : Int) ^ Min.min (Int.toNat v95.2) (64 : Nat))) &&& BitVec.ofInt (64 : Nat) (1 : Int))) : Int) = (1 : Int))), w64 (v95.2 + (1 : Int))))))))) else (some (Sum.inr v95.1))) F ((List.replicate (Int.toNat z1) false, (0 : Int)))) fun (v91 : List Bool) => Option.bind (gd (decide (Int.toNat z1 = List.length v91) && true && true) (some (v91))) fun (v92 : List Bool) => Option.bind (cx89_0 F v92) fun (v93 : List Int) => gd (true && (true && true) && decide ((0 : Nat) + Int.toNat z1 ≤ List.length v91) && true) (Option.bind (c74 F ((a.1, a.2.1, a.2.2), List.take (Int.toNat z1) (List.drop (0 : Nat) v91))) fun (v94 : Bool) => bif !v94 then (some (Sum.inr (Sum.inl (v93, w64 (v90 + (1 : Int)))))) else (some (Sum.inl (w64 (v90 + (1 : Int)))))))))) else (some (Sum.inr (Sum.inr ())))) F ((1 : Int))) fun (v72 : List Int × Int ⊕ Unit) => Sum.elim (fun (v73 : List Int × Int) => Option.bind (loopO (σ := List Int × Int) (β := List Int) (fun (v75 : List Int × Int) => let z2 := (↑(List.length v75.1) : Int); bif decide (v75.2 < w64 ((1 : Int) * (2 : Int) ^ Min.min (Int.toNat z1) (64 : Nat))) then (Option.bind (gd (decide (z1 ≤ z1)) (gd (decide ((↑(1 : Nat) : Int) * z1 ≤ (281474976710656 : Int))) (gd (decide (z1 ≤ (9223372036854775807 : Int))) (Option.bind (loopO (σ := List Bool × Int) (β := List Bool) (fun (v88 : List Bool × Int) => bif decide (v88.2 < z1) then (gd (decide ((0 : Int) ≤ v88.2)) (gd (decide ((0 : Int) ≤ v88.2)) (gd (decide (v88.2 < (↑(Int.toNat z1) : Int))) (gd (decide ((0 : Nat) + Int.toNat v88.2 < List.length v88.1)) (some (Sum.inl (List.set v88.1 ((0 : Nat) + Int.toNat v88.2) (decide (Go.IntKind.wrap Go.IntKind.i64 (↑(BitVec.toNat (BitVec.ofInt (64 : Nat) (Int.fdiv v75.2 ((2 : Int) ^ Min.min (Int.toNat v88.2) (64 : Nat))) &&& BitVec.ofInt (64 : Nat) (1 : Int))) : Int) = (1 : Int))), w64 (v88.2 + (1 : Int))))))))) else (some (Sum.inr v88.1))) F ((List.replicate (Int.toNat z1) false, (0 : Int)))) fun (v77 : List Bool) => Option.bind (gd (decide (Int.toNat z1 = List.length v77) && true && true) (some (v77))) fun (v78 : List Bool) => Option.bind (cx89_0 F v78) fun (v79 : List Int) => let z3 := (↑(List.length v79) : Int); Option.bind (bif decide (List.length v75.1 = (0 : Nat)) then (Option.bind (bif decide (z2 < z3) then (some (Sum.inl ())) else (bif decide (z3 = z2) then (Option.bind (c80 F (v79, v75.1)) fun (v86 : Bool) => bif !v86 then (some (Sum.inl ())) else (some (Sum.inr ()))) else (some (Sum.inr ())))) fun (v85 : Unit ⊕ Unit) => gd (AltsEl.eqv ((Go.Exit.exit (1 : Nat), { cells := nilT Cel, owns := nilT (Nat × Lk) }) :: (Go.Exit.normal, { cells := nilT Cel, owns := nilT (Nat × Lk) }) :: nilT (Go.Exit × Tmpl)) v85 (Sum.inr ())) (some (v85))) else (bif decide (z2 < z3) then (some (Sum.inl ())) else (bif decide (z3 = z2) then (Option.bind (c80 F (v79, v75.1)) fun (v87 : Bool) => bif !v87 then (some (Sum.inl ())) else (some (Sum.inr ()))) else (some (Sum.inr ()))))) fun (v80 : Unit ⊕ Unit) => Sum.elim (fun (v81 : Unit) => some v75.1) (fun (v82 : Unit) => gd (true && (true && true) && decide ((0 : Nat) + Int.toNat z1 ≤ List.length v77) && true) (Option.bind (c74 F ((a.1, a.2.1, a.2.2), List.take (Int.toNat z1) (List.drop (0 : Nat) v77))) fun (v83 : Bool) => Option.bind (bif !v83 then (some (v79)) else (some v75.1)) fun (v84 : List Int) => some (v84))) (v80))))) fun (v76 : List Int) => some (Sum.inl (v76, w64 (v75.2 + (1 : Int))))) else (some (Sum.inr v75.1))) F ((v73.1, v73.2))) fun (v74 : List Int) => some (v74)) (fun (v89 : Unit) => some (nilT Int)) (v72)
noncomputable def pc39 (F : Nat) : PC := { ats := [.agg [sR, sO, .int .i64]], rts := [.val (.seq [.int .i64])], code := c39 F }
theorem pc39_ok (F : Nat) : PCOk cx 39 (pc39 F) := qE (lx39 F) (.two .leaf (.two .leaf (.two .leaf (.two (.two .leaf (.one (.phase ⟨[.slot 5 (.val (.int .i64))], [(4, .stat (.pv (.lit (.slice none 0 0))))]⟩ [(.normal, ⟨[.slot 4 (.val (.seq [.int .i64])), .slot 5 (.val (.int .i64))], []⟩), (.exit 0, ⟨[], [(4, .stat (.pv (.lit (.slice none 0 0))))]⟩)] ⟨[18, 19, 6, 33, 34, 8, 57, 58, 59, 60, 4, 61, 56, 55, 54, 53, 52, 51, 50, 49, 48, 47, 46, 45, 44, 43, 42, 41, 40, 39, 38, 37, 36, 35, 20, 21, 22, 23, 24, 32, 31, 30, 29, 28, 27, 26, 25, 7, 5, 17, 16, 15, 14, 13, 12], [], []⟩ F (.two .leaf (.two (.one (.two .leaf (.two (.two .leaf (.one (.loop ⟨[.vec 1 4 [.bool], .slot 7 (.val (.int .i64))], []⟩ [(.exit 2, ⟨[.vec 1 4 [.bool]], []⟩)] ⟨[25, 26, 27, 28, 29, 30, 31, 32, 7, 24, 23, 22, 21, 20], [1], []⟩ F .leaf))) .leaf))) .leaf)) (.loop ⟨[.slot 4 (.val (.seq [.int .i64])), .slot 5 (.val (.int .i64))], []⟩ [(.exit 0, ⟨[.slot 4 (.val (.seq [.int .i64]))], []⟩)] ⟨[18, 19, 6, 33, 34, 8, 57, 58, 59, 60, 4, 61, 56, 55, 54, 53, 52, 51, 50, 49, 48, 47, 46, 45, 44, 43, 42, 41, 40, 39, 38, 37, 36, 35, 20, 21, 22, 23, 24, 32, 31, 30, 29, 28, 27, 26, 25, 7, 5, 17, 16, 15, 14, 13, 12], [], []⟩ F (.two .leaf (.two (.join [(.normal, ⟨[.slot 4 (.val (.seq [.int .i64]))], []⟩)] ⟨[7, 25, 26, 27, 28, 29, 30, 31, 32, 24, 23, 22, 21, 20, 35, 36, 37, 38, 39, 40, 41, 42, 43, 44, 45, 46, 47, 48, 49, 50, 51, 52, 53, 54, 55, 56, 61, 4, 60, 59, 58, 57, 8, 34, 33, 6, 19, 18], [], []⟩ (.one (.two .leaf (.two (.two .leaf (.one (.loop ⟨[.vec 1 4 [.bool], .slot 7 (.val (.int .i64))], []⟩ [(.exit 2, ⟨[.vec 1 4 [.bool]], []⟩)] ⟨[25, 26, 27, 28, 29, 30, 31, 32, 7, 24, 23, 22, 21, 20], [1], []⟩ F .leaf))) (.two .leaf (.two (.join [(.exit 1, ⟨[], []⟩), (.normal, ⟨[], []⟩)] ⟨[56, 55, 54, 53, 52, 51, 50, 49, 48, 47, 46, 45, 44, 43, 42, 41, 40, 39, 38, 37, 36, 35], [], []⟩ .leaf) (.two .leaf (.join [(.normal, ⟨[.slot 4 (.val (.seq [.int .i64]))], []⟩)] ⟨[4, 61], [], []⟩ .leaf)))))))) .leaf)))))) .leaf)))) f39 (by kernel_rfl) fun a => by kernel_rfl
noncomputable def lx5 (F : Nat) : LK := lC (pc15_ok F) (lC (pc16_ok F) (lC (pc35_ok F) (lC (pc29_ok F) (lC (pc37_ok F) (lC (pc39_ok F) (lC (pc38_ok F) (lC (pc25_ok F) (lC (pc36_ok F) (lC (pc24_ok F) (lC (pc23_ok F) (lC (pc19_ok F) (lC (pc14_ok F) lN))))))))))))
noncomputable def c5 (F : Nat) (a : TP) : Option (Bool) :=
  let z1 := (↑(List.length a.1) : Int); Option.bind (c14 F (a.1, a.2.1, a.2.2)) fun (v60 : TP) => let z2 := (v60.1, v60.2.1, v60.2.2); Option.bind (c16 F z2) fun (v61 : Bool) => bif !v61 then (some (true)) else (Option.bind (c19 F z2) fun (v62 : Int) => Option.bind (bif decide (v62 = (0 : Int)) then (bif decide ((4 : Int) < z1) then (some (decide (z1 ≤ (8 : Int)))) else (some (false))) else (some (false))) fun (v63 : Bool) => bif v63 then (some (true)) else (Option.bind (c23 F (decide ((8 : Int) < z1), (22 : Int))) fun (v64 : Int) => Option.bind (c24 F (v62 :: v64 :: nilT Int)) fun (v65 : Int) => Option.bind (c35 F (a.1, a.2.1, a.2.2)) fun (v66 : List Int × Int) => Option.bind (c36 F (a.1, a.2.1, a.2.2)) fun (v67 : List Int × Int) => bif !decide (v65 = (0 : Int)) then (Option.bind (Option.bind (c29 F (v66.1, v66.2, v65, nilT Int)) fun (v69 : Bool) => bif v69 then (Option.bind (c29 F (v67.1, v67.2, v65, nilT Int)) fun (v70 : Bool) => some (v70)) else (some (false))) fun (v68 : Bool) => some (v68)) else (Option.bind (c25 F z2) fun (v71 : Bool) => Option.bind (c23 F (v71, (7 : Int))) fun (v72 : Int) => Option.bind (c37 F z2) fun (v73 : List (ByteArray × Int × Int)) => Option.bind (bif decide (v72 = (0 : Int)) then (Option.bind (c38 F z2) fun (v80 : List Int) => Option.bind (bif !decide ((12 : Int) < (↑(List.length v73) : Int)) then (Option.bind (c39 F z2) fun (v82 : List Int) => some (v82)) else (some (nilT Int))) fun (v81 : List Int) => some ((v80, v81))) else (some ((nilT Int, nilT Int)))) fun (v74 : List Int × List Int) => Option.bind (Option.bind (c29 F (v66.1, v66.2, v72, v74.1)) fun (v76 : Bool) => bif v76 then (Option.bind (c23 F (decide ((12 : Int) < (↑(List.length v73) : Int)), (22 : Int))) fun (v77 : Int) => Option.bind (c24 F (v77 :: v72 :: nilT Int)) fun (v78 : Int) => Option.bind (c29 F (v67.1, v67.2, v78, v74.2)) fun (v79 : Bool) => some (v79)) else (some (false))) fun (v75 : Bool) => some (v75))))
noncomputable def pc5 (F : Nat) : PC := { ats := [.agg [sR, sO, .int .i64]], rts := [.val (.bool)], code := c5 F }
theorem pc5_ok (F : Nat) : PCOk cx 5 (pc5 F) := qE (lx5 F) (.two .leaf (.two .leaf (.two .leaf (.two .leaf (.two (.two (.join [(.normal, ⟨[.slot 38 (.val (.bool))], []⟩)] ⟨[38, 37, 36, 35, 34, 33, 32, 31, 30, 29, 28, 27, 26, 25], [], []⟩ .leaf) .leaf) (.two .leaf (.two .leaf (.two .leaf (.two (.two .leaf (.two (.two (.join [(.normal, ⟨[.slot 2 (.val (.bool))], []⟩)] ⟨[2, 68, 67, 66, 65, 64, 63, 62, 61, 60, 59], [], []⟩ .leaf) .leaf) .leaf)) (.two .leaf (.two .leaf (.two .leaf (.two (.two .leaf (.join [(.normal, ⟨[.slot 11 (.val (.seq [.int .i64])), .slot 12 (.val (.seq [.int .i64]))], []⟩)] ⟨[80, 81, 12, 83, 82, 11, 79, 78], [], []⟩ (.two (.two .leaf (.two .leaf (.join [(.normal, ⟨[.slot 12 (.val (.seq [.int .i64]))], []⟩)] ⟨[12, 83, 82], [], []⟩ .leaf))) .leaf))) (.two (.join [(.normal, ⟨[.slot 2 (.val (.bool))], []⟩)] ⟨[2, 99, 98, 97, 96, 95, 94, 93, 92, 91, 90, 89, 88, 87, 86, 85, 84], [], []⟩ .leaf) .leaf)))))))))))))) f5 (by kernel_rfl) fun a => by kernel_rfl
end Go.Proofs.Tryz
