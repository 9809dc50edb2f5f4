/- Part P of the own logic: the evaluator of whole functions. -/
import Derived.Test.YtdghdcclhnoigaaGreatDoorXSxO
set_option linter.unusedVariables false
set_option linter.unusedSimpArgs false
set_option linter.unnecessarySimpa false
namespace Go.Sx
open Go
mutual
def SV.free (m : Nat) : SV → Bool
  | .agg l => freeL m l
  | .tup l => freeL m l
  | .fn _ a b => freeL m a && freeL m b
  | .ptr s _ _ _ => Nat.blt s m
  | .sl s _ _ _ => Nat.blt s m
  | .mp s => Nat.blt s m
  | .yld s => Nat.blt s m
  | .any => true
  | .pv _ => true
def freeL (m : Nat) : List SV → Bool
  | [] => true
  | x :: xs => x.free m && freeL m xs
end
theorem blt_lt {a b : Nat} (h : Nat.blt a b = true) : a < b := by rw [Nat.blt_eq] at h; exact h
theorem junk_lt {m n s : Nat} (h : s < m) : (junk m n).contains s = false := by
  simp [junk]; omega
mutual
theorem SV.forget_free {m n : Nat} : ∀ (x : SV), x.free m = true → x.forget (junk m n) = x
  | .agg l, h => by simp only [SV.free] at h; simp only [SV.forget, forgetL_free l h]
  | .tup l, h => by simp only [SV.free] at h; simp only [SV.forget, forgetL_free l h]
  | .fn _ a b, h => by
    simp only [SV.free, Bool.and_eq_true] at h
    simp only [SV.forget, forgetL_free a h.1, forgetL_free b h.2]
  | .ptr s _ _ _, h => by simp only [SV.forget, junk_lt (blt_lt h)]; exact if_neg (by simp)
  | .sl s _ _ _, h => by simp only [SV.forget, junk_lt (blt_lt h)]; exact if_neg (by simp)
  | .mp s, h => by simp only [SV.forget, junk_lt (blt_lt h)]; exact if_neg (by simp)
  | .yld s, h => by simp only [SV.forget, junk_lt (blt_lt h)]; exact if_neg (by simp)
  | .any, h => rfl
  | .pv _, h => rfl
theorem forgetL_free {m n : Nat} : ∀ (l : List SV), freeL m l = true → forgetL (junk m n) l = l
  | [], h => rfl
  | x :: xs, h => by
    simp only [freeL, Bool.and_eq_true] at h
    simp only [forgetL, SV.forget_free x h.1, forgetL_free xs h.2]
end
def SObj.free (m : Nat) : SObj → Bool
  | .mix _ _ rows => rows.all (freeL m)
  | .map es _ => es.all fun e => e.2.1.free m
  | .loop _ => false
  | _ => true
theorem SObj.forget_free {m n : Nat} (o : SObj) (h : o.free m = true) : o.forget (junk m n) = o := by
  cases o with
  | mix ty sz rows =>
    simp only [SObj.free, List.all_eq_true] at h
    simp only [SObj.forget, SObj.mix.injEq, true_and]
    induction rows with
    | nil => rfl
    | cons r rs ih =>
      simp only [List.map_cons, List.cons.injEq]
      refine ⟨?_, ih fun x hx => h x (List.mem_cons_of_mem _ hx)⟩
      rw [← forgetL_eq]; exact forgetL_free r (h r List.mem_cons_self)
  | map es c =>
    simp only [SObj.free, List.all_eq_true] at h
    simp only [SObj.forget, SObj.map.injEq, and_true]
    induction es with
    | nil => rfl
    | cons e es ih =>
      simp only [List.map_cons, List.cons.injEq]
      refine ⟨?_, ih fun x hx => h x (List.mem_cons_of_mem _ hx)⟩
      rw [SV.forget_free _ (h e List.mem_cons_self)]
  | loop l => cases h
  | _ => rfl
def restore (t : List Nat) : Nat → List SObj → List SObj → List SObj
  | _, [], _ => []
  | i, o :: H, H' => (bif t.contains i then H'.headD .dead else o) :: restore t (i + 1) H H'.tail
theorem restore_get (t : List Nat) : ∀ (H : List SObj) (i : Nat) (H' : List SObj) (s : Nat), H.length ≤ H'.length → (restore t i H H')[s]? = if s < H.length then (if t.contains (i + s) then H'[s]? else H[s]?) else none
  | [], i, H', s, _ => by simp [restore]
  | o :: H, i, [], s, h => by simp at h
  | o :: H, i, o' :: H', s, h => by
    cases s with
    | zero =>
      simp only [restore, List.getElem?_cons_zero, List.length_cons, Nat.zero_lt_succ, if_true, Nat.add_zero, List.headD_cons]
      cases t.contains i <;> rfl
    | succ s =>
      simp only [restore, List.getElem?_cons_succ, List.tail_cons, List.length_cons, Nat.succ_lt_succ_iff]
      rw [restore_get t H (i + 1) H' s (by simpa using h)]
      rw [show i + 1 + s = i + (s + 1) by omega]
theorem restore_len (t : List Nat) : ∀ (H : List SObj) (i : Nat) (H' : List SObj), (restore t i H H').length = H.length
  | [], i, H' => rfl
  | o :: H, i, H' => by simp [restore, restore_len t H]
def restoreH (t : List Nat) (H H' : List SObj) : List SObj := match t with
  | [] => H
  | _ => restore t 0 H H'
theorem restoreH_get (t : List Nat) (H H' : List SObj) (s : Nat) (h : H.length ≤ H'.length) : (restoreH t H H')[s]? = if s < H.length then (if t.contains s then H'[s]? else H[s]?) else none := by
  unfold restoreH
  split
  · split
    · simp
    · rename_i h; simp [Nat.le_of_not_lt h]
  · rw [restore_get _ _ _ _ _ h]; simp
theorem restoreH_len (t : List Nat) (H H' : List SObj) : (restoreH t H H').length = H.length := by
  unfold restoreH
  split
  · rfl
  · exact restore_len _ _ _ _
theorem leave_core {M M' : Imm} {ρ ρ' : Env} {H H' : List SObj} {w w' : World} {t : List Nat} (hm : Mem M ρ H w) (hm' : Mem M' ρ' H' w') (hf : Fr M ρ H w M' ρ' H' w' H.length t [])
    (hlen : H.length ≤ H'.length) (hobj : ∀ s ∈ t, ∀ o, H'[s]? = some o → s < H.length → o.free H.length = true) :
    Mem (M'.sealing ρ' H' H.length w') (ρ'.cut H.length) (restoreH t H H') w' ∧ Fr M ρ H w (M'.sealing ρ' H' H.length w') (ρ'.cut H.length) (restoreH t H H') w' H.length t [] := by
  have hb := cut_leBut hm' H.length
  have hsl := Imm.seal_le M' ρ' H' H.length w'
  have hc : ∀ s, s < H.length → ρ'.cut H.length s = ρ' s := fun s hs => by simp [Env.cut, hs]
  have hst : ∀ s, s < H.length → ρ' s = ρ s := fun s hs => hf.stay s hs (by simp)
  have hle : ρ.le (ρ'.cut H.length) := fun s p hp => by
    rcases Nat.lt_or_ge s H.length with h' | h'
    · rw [hc s h', hst s h']; exact hp
    · rw [hm.fresh s h'] at hp; cases hp
  have hget : ∀ (s : Nat) (o : SObj), (restoreH t H H')[s]? = some o → s < H.length ∧ ((s ∈ t ∧ H'[s]? = some o) ∨ (s ∉ t ∧ H[s]? = some o)) := fun s o ho => by
    rw [restoreH_get _ _ _ _ hlen] at ho
    split at ho
    · rename_i h1
      split at ho
      · rename_i h2; exact ⟨h1, .inl ⟨by simpa using h2, ho⟩⟩
      · rename_i h2; exact ⟨h1, .inr ⟨by simpa using h2, ho⟩⟩
    · cases ho
  have hlive : ∀ (s : Nat) (o : SObj), (restoreH t H H')[s]? = some o → o.live = true → ∃ o', H'[s]? = some o' ∧ o'.live = true := fun s o ho hl => by
    obtain ⟨h1, ⟨_, h2⟩ | ⟨h3, h2⟩⟩ := hget s o ho
    · exact ⟨o, h2, hl⟩
    · exact (hf.keep s o h1 h3 h2 hl).1
  have rl : ∀ o : SObj, o.rowsy = true → o.live = true := fun o ho => by cases o <;> simp_all [SObj.rowsy, SObj.live]
  refine ⟨?_, ?_⟩
  · refine ⟨fun b o hb' => ?_, fun s o ho => ?_, fun s o p ho hl hp => ?_, fun s s' o o' p p' ho ho' hl hl' hp hp' hbk => ?_, fun s hs => ?_⟩
    · cases e : M' b with
      | some o' => rw [hsl b o' e] at hb'; cases hb'; exact hm'.imm b _ e
      | none => exact (Imm.seal_new e hb').2
    · obtain ⟨h1, ⟨h3, h2⟩ | ⟨h3, h2⟩⟩ := hget s o ho
      · have := (hm'.own s o h2).forget hsl hb (hc s h1) (fun _ _ => rfl)
        rwa [SObj.forget_free o (hobj s h3 o h2 h1)] at this
      · by_cases hl : o.live = true
        · refine (hm.own s o h2).mono (Imm.le_trans hf.imm hsl) hle ((hc s h1).trans (hst s h1)) fun p hp => ?_
          exact ((hf.keep s o h1 h3 h2 hl).2 p hp).2
        · cases o <;> first | trivial | exact absurd rfl hl
    · obtain ⟨h1, _⟩ := hget s o ho
      obtain ⟨o', h2, h3⟩ := hlive s o ho hl
      rw [hc s h1] at hp
      have h0 := hm'.sep s o' p h2 h3 hp
      cases e : M'.sealing ρ' H' H.length w' p.block with
      | none => rfl
      | some q =>
        obtain ⟨⟨s2, o2, p2, k1, k2, k3, k4, k5⟩, _⟩ := Imm.seal_new h0 e
        have := hm'.dis s s2 o' o2 p p2 h2 k2 h3 (rl o2 k3) hp k4 k5.symm
        omega
    · obtain ⟨h1, _⟩ := hget s o ho
      obtain ⟨k1, _⟩ := hget s' o' ho'
      obtain ⟨o2, h2, h3⟩ := hlive s o ho hl
      obtain ⟨o3, k2, k3⟩ := hlive s' o' ho' hl'
      rw [hc s h1] at hp; rw [hc s' k1] at hp'
      exact hm'.dis s s' o2 o3 p p' h2 k2 h3 k3 hp hp' hbk
    · rw [restoreH_len] at hs
      simp [Env.cut, Nat.not_lt.2 hs]
  · refine ⟨Imm.le_trans hf.imm hsl, fun b o h0 h1 => ?_, fun b hb' => ?_, hf.same, hf.grow, fun s o hs hx ho hl => ?_, fun s hs hx => ?_, hf.io⟩
    · cases e : M' b with
      | some o' => exact hf.new b o' h0 e
      | none =>
        obtain ⟨⟨s2, o2, p2, k1, k2, k3, k4, k5⟩, _⟩ := Imm.seal_new e h1
        exact hf.own b ⟨s2, o2, p2, k2, rl o2 k3, k4, k5⟩
    · obtain ⟨s, o, p, h1, h2, h3, h4⟩ := hb'
      obtain ⟨k1, _⟩ := hget s o h1
      obtain ⟨o', k2, k3⟩ := hlive s o h1 h2
      rw [hc s k1] at h3
      exact hf.own b ⟨s, o', p, k2, k3, h3, h4⟩
    · refine ⟨⟨o, ?_, hl⟩, fun p hp => ?_⟩
      · rw [restoreH_get _ _ _ _ hlen, if_pos hs, if_neg (by simpa using hx)]; exact ho
      · obtain ⟨_, h3⟩ := hf.keep s o hs hx ho hl
        obtain ⟨k1, k2⟩ := h3 p hp
        exact ⟨by rw [hc s hs]; exact k1, k2⟩
    · rw [hc s hs]; exact hst s hs
def frzV (H : List SObj) (n k : Nat) (x : SV) : Option SV := match x.free n with
  | true => some x
  | false => (frz H n k x).map .pv
def frzL (H : List SObj) (n k : Nat) : List SV → Option (List SV)
  | [] => some []
  | x :: l => match frzV H n k x, frzL H n k l with
    | some y, some ys => some (y :: ys)
    | _, _ => none
def frzS (H : List SObj) (n k : Nat) (x : SV) : Option SV := match x.free n with
  | true => some x
  | false => match x with
    | .tup l => (frzL H n k l).map .tup
    | x => (frz H n k x).map .pv
theorem frzV_sound {M : Imm} {ρ : Env} {H : List SObj} {w : World} {n k : Nat} (hm : Mem M ρ H w) {x y : SV} {v : Value} (h : frzV H n k x = some y) (hr : SRep M ρ v x) : SRep (M.sealing ρ H n w) (ρ.cut n) v y := by
  unfold frzV at h
  split at h
  · rename_i e
    cases h
    have := hr.forget (Imm.seal_le M ρ H n w) (cut_leBut hm n)
    rwa [SV.forget_free x e] at this
  · simp only [Option.map_eq_some_iff] at h
    obtain ⟨p, hp, rfl⟩ := h
    exact .pv (frz_sound hm k x p v hp hr)
theorem frzL_sound {M : Imm} {ρ : Env} {H : List SObj} {w : World} {n k : Nat} (hm : Mem M ρ H w) : ∀ {l l' : List SV}, frzL H n k l = some l' → l'.length = l.length ∧
    ∀ (i : Nat) (v : Value) (y : SV), l'[i]? = some y → (∀ x, l[i]? = some x → SRep M ρ v x) → SRep (M.sealing ρ H n w) (ρ.cut n) v y
  | [], l', h => by simp [frzL] at h; subst h; simp
  | x :: l, l', h => by
    simp only [frzL] at h
    split at h
    · rename_i y ys h1 h2
      cases h
      obtain ⟨g1, g2⟩ := frzL_sound hm h2
      refine ⟨by simp [g1], fun i v z hz hx => ?_⟩
      cases i with
      | zero => simp at hz; subst hz; exact frzV_sound hm h1 (hx x rfl)
      | succ i => simp at hz; exact g2 i v z hz fun x' hx' => hx x' (by simpa using hx')
    · cases h
theorem frzS_sound {M : Imm} {ρ : Env} {H : List SObj} {w : World} {n k : Nat} (hm : Mem M ρ H w) {x y : SV} {v : Value} (h : frzS H n k x = some y) (hr : SRep M ρ v x) : SRep (M.sealing ρ H n w) (ρ.cut n) v y := by
  by_cases e : x.free n = true
  · exact frzV_sound (k := k) hm (by simp only [frzS, e] at h; simp only [frzV, e]; exact h) hr
  · have e : x.free n = false := by simpa using e
    simp only [frzS, e] at h
    split at h
    · rename_i l
      simp only [Option.map_eq_some_iff] at h
      obtain ⟨l', hl', rfl⟩ := h
      obtain ⟨g1, g2⟩ := frzL_sound hm hl'
      cases hr with
      | tup cs _ hl hrep => exact .tup cs l' (by rw [g1]; exact hl) fun i v y hv hy => g2 i v y hy fun x hx => hrep i v x hv hx
    · exact frzV_sound (k := k) hm (by simp only [frzV, e]; exact h) hr
def Left (H : List SObj) (K : Post) (r : SV) (H' : List SObj) (t g : List Nat) : Prop :=
  (g = [] ∧ H.length ≤ H'.length ∧ (∀ s ∈ t, ∀ o, H'[s]? = some o → s < H.length → o.free H.length = true) ∧ ∃ r' k, frzS H' H.length k r = some r' ∧ K r' (restoreH t H H') t []) ∨ K r H' t g
theorem SCall.leave {P : Program} {f : FuncId} {args : List SV} {H : List SObj} {K : Post} (h : SCall P f args H fun r H' t g => Left H K r H' t g) : SCall P f args H K := by
  intro M ρ w vs hm hr
  refine (h M ρ w vs hm hr).mono ?_
  rintro e w' ⟨v, r, H', M', ρ', t, g, he, hk, hs, hm', hf⟩
  refine hk.elim (fun hk => ?_) (fun hk => ⟨v, _, _, M', ρ', t, g, he, hk, hs, hm', hf⟩)
  obtain ⟨rfl, hlen, hobj, r', k, hfr, hk⟩ := hk
  obtain ⟨g1, g2⟩ := leave_core hm hm' hf hlen hobj
  exact ⟨v, r', _, _, _, t, [], he, hk, frzS_sound hm' hfr hs, g1, g2⟩
structure Ext where
  sum : Nat → List SV → List SObj → Option (SV × List SObj × List Nat × List Nat)
  guess : Nat → List SV → List SV
  still : Nat → Bool
structure Ext.Ok (cx : Cx) (ext : Ext) : Prop where
  ok : ∀ g args H r H' t f, ext.sum g args H = some (r, H', t, f) → (∃ fn, cx.fns.lookup g = some fn) ∧ SCall cx.P g args H fun x h u v => x = r ∧ h = H' ∧ u = t ∧ v = f
def touchedFree (n : Nat) (H' : List SObj) : List Nat → Bool
  | [] => true
  | s :: t => (match H'[s]? with
    | some o => o.free n
    | none => true) && touchedFree n H' t
def isReady : LoopState → Bool
  | .ready => true
  | _ => false
def notBusy : LoopState → Bool
  | .busy => false
  | _ => true
theorem resP_mono {cx : Cx} {s : St} : ∀ (rs : List ResultVar) (K K' : List SV → Prop), (∀ l, K l → K' l) → resP cx s rs K → resP cx s rs K'
  | [], K, K', hk, h => hk _ h
  | .tmp t :: rs, K, K', hk, h => resP_mono rs _ _ (fun l => hk _) h
  | .cell a t :: rs, K, K', hk, h => Res.holds_mono (fun x _ _ _ h => resP_mono rs _ _ (fun l => hk _) h) h
theorem touchedFree_spec {n : Nat} {H' : List SObj} : ∀ {t : List Nat}, touchedFree n H' t = true → ∀ s ∈ t, ∀ o, H'[s]? = some o → o.free n = true
  | [], _, s, hs, _, _ => by cases hs
  | x :: t, h, s, hs, o, ho => by
    simp only [touchedFree, Bool.and_eq_true] at h
    rcases List.mem_cons.1 hs with rfl | hs
    · have := h.1; simpa [ho] using this
    · exact touchedFree_spec h.2 s hs o ho
theorem isReady_eq {s : LoopState} (h : isReady s = true) : s = .ready := by cases s <;> first | rfl | cases h
theorem notBusy_ne {s : LoopState} (h : notBusy s = true) : s ≠ .busy := by intro e; subst e; cases h
theorem not_contains {l : List Nat} {x : Nat} (h : (!l.contains x) = true) : x ∉ l := by simpa using h
end Go.Sx
