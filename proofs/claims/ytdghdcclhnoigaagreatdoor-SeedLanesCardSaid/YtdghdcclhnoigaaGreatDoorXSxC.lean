/- Part C of the own logic: what becomes of the owned heap when a block is laid, written, or moved. -/
import Derived.Test.YtdghdcclhnoigaaGreatDoorXSxB
set_option linter.unusedVariables false
set_option linter.unusedSimpArgs false
namespace Go.Sx
open Go
def Env.set (ρ : Env) (s : Nat) (p : Option Place) : Env := fun t => if t = s then p else ρ t
theorem Env.set_self (ρ : Env) (s : Nat) (p : Option Place) : (ρ.set s p) s = p := by simp [Env.set]
theorem Env.set_ne (ρ : Env) {s t : Nat} (p : Option Place) (h : t ≠ s) : (ρ.set s p) t = ρ t := by simp [Env.set, h]
section
variable {M : Imm} {ρ : Env} {H : List SObj} {w w' : World}
theorem Mem.alloc {o : Obj} {so : SObj} {cap : Nat} (h : Mem M ρ H w) (hh : w'.heap = w.heap.push o)
    (ho : OwnAt M (ρ.set H.length (some ⟨w.heap.size, cap⟩)) w' H.length so) (io : w'.os = w.os ∧ w'.output = w.output := by exact ⟨rfl, rfl⟩) :
    Mem M (ρ.set H.length (some ⟨w.heap.size, cap⟩)) (H ++ [so]) w' ∧ Fr M ρ H w M (ρ.set H.length (some ⟨w.heap.size, cap⟩)) (H ++ [so]) w' H.length [] [] := by
  have hle : ρ.le (ρ.set H.length (some ⟨w.heap.size, cap⟩)) := fun s p hp => by
    by_cases e : s = H.length
    · subst e; rw [h.fresh _ (Nat.le_refl _)] at hp; cases hp
    · rw [Env.set_ne _ _ e]; exact hp
  have old : ∀ b, b < w.heap.size → w'.heap[b]? = w.heap[b]? := fun b hb => by rw [hh, Array.getElem?_push]; simp [Nat.ne_of_lt hb]
  have hsz : w'.heap.size = w.heap.size + 1 := by rw [hh]; simp
  have lt : ∀ s o p, H[s]? = some o → o.live = true → ρ s = some p → p.block < w.heap.size := fun s o p a b c => (h.own s o a).lt b c
  have sub : ∀ s o, (H ++ [so])[s]? = some o → (s < H.length ∧ H[s]? = some o) ∨ (s = H.length ∧ o = so) := fun s o he => by
    rw [List.getElem?_append] at he
    split at he
    · rename_i hs; exact .inl ⟨hs, he⟩
    · rename_i hs
      by_cases e : s = H.length
      · subst e; simp at he; exact .inr ⟨rfl, he.symm⟩
      · rw [List.getElem?_eq_none (by simp; omega)] at he; cases he
  refine ⟨⟨fun b o hb => (old b (h.imm_lt hb)).trans (h.imm b o hb), fun s o he => ?_, fun s o p he hl hp => ?_, fun s s' o o' p p' he he' hl hl' hp hp' hb => ?_, fun s hs => ?_⟩, ?_⟩
  · rcases sub s o he with ⟨hs, he⟩ | ⟨rfl, rfl⟩
    · by_cases hl : o.live = true
      · exact (h.own s o he).mono M.le_refl hle (Env.set_ne _ _ (Nat.ne_of_lt hs)) fun p hp => old _ (lt s o p he hl hp)
      · cases o <;> simp [SObj.live] at hl; trivial
    · exact ho
  · rcases sub s o he with ⟨hs, he⟩ | ⟨rfl, rfl⟩
    · rw [Env.set_ne _ _ (Nat.ne_of_lt hs)] at hp; exact h.sep s o p he hl hp
    · rw [Env.set_self] at hp; cases hp; exact h.imm_none (Nat.le_refl _)
  · rcases sub s o he with ⟨hs, he⟩ | ⟨rfl, rfl⟩
    · rw [Env.set_ne _ _ (Nat.ne_of_lt hs)] at hp
      have hlt := lt s o p he hl hp
      rcases sub s' o' he' with ⟨hs', he'⟩ | ⟨rfl, rfl⟩
      · rw [Env.set_ne _ _ (Nat.ne_of_lt hs')] at hp'; exact h.dis s s' o o' p p' he he' hl hl' hp hp' hb
      · rw [Env.set_self] at hp'; cases hp'; simp at hb; omega
    · rw [Env.set_self] at hp; cases hp
      rcases sub s' o' he' with ⟨hs', he'⟩ | ⟨rfl, rfl⟩
      · rw [Env.set_ne _ _ (Nat.ne_of_lt hs')] at hp'
        have hlt := lt s' o' p' he' hl' hp'
        simp at hb; omega
      · rfl
  · have : s ≠ H.length := by simp at hs; omega
    rw [Env.set_ne _ _ this]; exact h.fresh s (by simp at hs; omega)
  · refine ⟨M.le_refl, fun b o a c => (by rw [a] at c; cases c), fun b hb => ?_, fun b hb _ => old b hb, by omega, fun s o hs _ he hl => ⟨⟨o, by rw [List.getElem?_append_left hs]; exact he, hl⟩, fun p hp => ⟨hle s p hp, old _ (lt s o p he hl hp)⟩⟩, fun s hs _ => Env.set_ne _ _ (Nat.ne_of_lt hs), io⟩
    obtain ⟨s, o, p, he, hl, hp, rfl⟩ := hb
    rcases sub s o he with ⟨hs, he⟩ | ⟨rfl, rfl⟩
    · rw [Env.set_ne _ _ (Nat.ne_of_lt hs)] at hp; exact .inr ⟨s, o, p, he, hl, hp, rfl⟩
    · rw [Env.set_self] at hp; cases hp; exact .inl (Nat.le_refl _)
theorem live_some {o : SObj} (h : ¬ o.live = true) : o = .dead := by cases o <;> simp [SObj.live] at h; rfl
theorem Mem.virt {ty sz : Nat} (h : Mem M ρ H w) : Mem M ρ (H ++ [.vec ty sz []]) w ∧ Fr M ρ H w M ρ (H ++ [.vec ty sz []]) w H.length [] [] := by
  have hn := h.fresh H.length (Nat.le_refl _)
  have sub : ∀ s o, (H ++ [SObj.vec ty sz []])[s]? = some o → (s < H.length ∧ H[s]? = some o) ∨ (s = H.length ∧ o = .vec ty sz []) := fun s o he => by
    rw [List.getElem?_append] at he
    split at he
    · rename_i hs; exact .inl ⟨hs, he⟩
    · rename_i hs
      by_cases e : s = H.length
      · subst e; simp at he; exact .inr ⟨rfl, he.symm⟩
      · rw [List.getElem?_eq_none (by simp; omega)] at he; cases he
  refine ⟨⟨h.imm, fun s o he => ?_, fun s o p he hl hp => ?_, fun s s' o o' p p' he he' hl hl' hp hp' hb => ?_, fun s hs => h.fresh s (by simp at hs; omega)⟩, ?_⟩
  · rcases sub s o he with ⟨hs, he⟩ | ⟨rfl, rfl⟩
    · exact h.own s o he
    · exact .inl ⟨hn, rfl⟩
  · rcases sub s o he with ⟨hs, he⟩ | ⟨rfl, rfl⟩
    · exact h.sep s o p he hl hp
    · rw [hn] at hp; cases hp
  · rcases sub s o he with ⟨hs, he⟩ | ⟨rfl, rfl⟩
    · rcases sub s' o' he' with ⟨hs', he'⟩ | ⟨rfl, rfl⟩
      · exact h.dis s s' o o' p p' he he' hl hl' hp hp' hb
      · rw [hn] at hp'; cases hp'
    · rw [hn] at hp; cases hp
  · refine ⟨M.le_refl, fun b o a c => (by rw [a] at c; cases c), fun b hb => ?_, fun b hb _ => rfl, Nat.le_refl _, fun s o hs _ he hl => ⟨⟨o, by rw [List.getElem?_append_left hs]; exact he, hl⟩, fun p hp => ⟨hp, rfl⟩⟩, fun s hs _ => rfl, rfl, rfl⟩
    obtain ⟨s, o, p, he, hl, hp, rfl⟩ := hb
    rcases sub s o he with ⟨hs, he⟩ | ⟨rfl, rfl⟩
    · exact .inr ⟨s, o, p, he, hl, hp, rfl⟩
    · rw [hn] at hp; cases hp
theorem Mem.put {s : Nat} {o so : SObj} {p : Place} (h : Mem M ρ H w) (hs : H[s]? = some o) (hl : o.live = true) (hp : ρ s = some p)
    (hw : ∀ b, b ≠ p.block → w'.heap[b]? = w.heap[b]?) (hz : w'.heap.size = w.heap.size) (hlo : so.live = true)
    (ho : OwnAt M ρ w' s so) (io : w'.os = w.os ∧ w'.output = w.output := by exact ⟨rfl, rfl⟩) : Mem M ρ (H.set s so) w' ∧ Fr M ρ H w M ρ (H.set s so) w' H.length [s] [] := by
  have hlt : s < H.length := (List.getElem?_eq_some_iff.1 hs).1
  have sub : ∀ t o', (H.set s so)[t]? = some o' → (t ≠ s ∧ H[t]? = some o') ∨ (t = s ∧ o' = so) := fun t o' he => by
    rw [List.getElem?_set] at he
    split at he
    · rename_i e; subst e; cases he; exact .inr ⟨rfl, rfl⟩
    · rename_i e; exact .inl ⟨fun e' => e e'.symm, he⟩
  have ne : ∀ t o' q, t ≠ s → H[t]? = some o' → o'.live = true → ρ t = some q → q.block ≠ p.block := fun t o' q ht he hl' hq e => ht (h.dis t s o' o q p he hs hl' hl hq hp e)
  refine ⟨⟨fun b x hb => ?_, fun t o' he => ?_, fun t o' q he hl' hq => ?_, fun t t' x x' q q' he he' hlx hlx' hq hq' hb => ?_, fun t ht => h.fresh t (by simpa using ht)⟩, ?_⟩
  · rw [hw b (fun e => by rw [e, h.sep s o p hs hl hp] at hb; cases hb)]; exact h.imm b x hb
  · rcases sub t o' he with ⟨ht, he⟩ | ⟨rfl, rfl⟩
    · by_cases hl' : o'.live = true
      · exact (h.own t o' he).mono M.le_refl ρ.le_refl rfl fun q hq => hw _ (ne t o' q ht he hl' hq)
      · rw [live_some hl']; trivial
    · exact ho
  · rcases sub t o' he with ⟨ht, he⟩ | ⟨rfl, rfl⟩
    · exact h.sep t o' q he hl' hq
    · exact h.sep t o q hs hl hq
  · have back : ∀ (t : Nat) (x : SObj), (H.set s so)[t]? = some x → x.live = true → ∃ y : SObj, H[t]? = some y ∧ y.live = true := fun t x he hlx => by
      rcases sub t x he with ⟨_, he⟩ | ⟨rfl, rfl⟩
      · exact ⟨x, he, hlx⟩
      · exact ⟨o, hs, hl⟩
    obtain ⟨y, hy, hly⟩ := back t x he hlx
    obtain ⟨y', hy', hly'⟩ := back t' x' he' hlx'
    exact h.dis t t' y y' q q' hy hy' hly hly' hq hq' hb
  · refine ⟨M.le_refl, fun b o a c => (by rw [a] at c; cases c), fun b hb => ?_, fun b hb hn => hw b (fun e => hn ⟨s, o, p, hs, hl, hp, e.symm⟩), by omega, fun t x ht hx he hlx => ?_, fun _ _ _ => rfl, io⟩
    · obtain ⟨t, x, q, he, hlx, hq, rfl⟩ := hb
      rcases sub t x he with ⟨_, he⟩ | ⟨rfl, rfl⟩
      · exact .inr ⟨t, x, q, he, hlx, hq, rfl⟩
      · exact .inr ⟨t, o, q, hs, hl, hq, rfl⟩
    · have hts : t ≠ s := by simpa using hx
      refine ⟨⟨x, by rw [List.getElem?_set_ne (fun e => hts e.symm)]; exact he, hlx⟩, fun q hq => ⟨hq, hw _ (ne t x q hts he hlx hq)⟩⟩
theorem Mem.redo {s : Nat} {o so : SObj} {q : Option Place} (h : Mem M ρ H w) (hs : H[s]? = some o) (hl : o.live = true) (hlo : so.live = true)
    (hw : ∀ b, b < w.heap.size → (∀ p, ρ s = some p → b ≠ p.block) → w'.heap[b]? = w.heap[b]?) (hz : w.heap.size ≤ w'.heap.size)
    (hq : ∀ p', q = some p' → w.heap.size ≤ p'.block ∨ ∃ p, ρ s = some p ∧ p.block = p'.block)
    (ho : OwnAt M (ρ.set s q) w' s so) (io : w'.os = w.os ∧ w'.output = w.output := by exact ⟨rfl, rfl⟩) : Mem M (ρ.set s q) ((H.map (SObj.forget [s])).set s so) w' ∧ Fr M ρ H w M (ρ.set s q) ((H.map (SObj.forget [s])).set s so) w' H.length [s] [s] := by
  have hlt : s < H.length := (List.getElem?_eq_some_iff.1 hs).1
  have sub : ∀ t o', ((H.map (SObj.forget [s])).set s so)[t]? = some o' → (t ≠ s ∧ ∃ x, H[t]? = some x ∧ o' = x.forget [s]) ∨ (t = s ∧ o' = so) := fun t o' he => by
    rw [List.getElem?_set] at he
    split at he
    · rename_i e; subst e; simp [hlt] at he; exact .inr ⟨rfl, he.symm⟩
    · rename_i e
      simp only [List.getElem?_map, Option.map_eq_some_iff] at he
      obtain ⟨x, hx, rfl⟩ := he
      exact .inl ⟨fun e' => e e'.symm, x, hx, rfl⟩
  have ne : ∀ t x r, t ≠ s → H[t]? = some x → x.live = true → ρ t = some r → ∀ p, ρ s = some p → r.block ≠ p.block := fun t x r ht he hlx hr p hp e => ht (h.dis t s x o r p he hs hlx hl hr hp e)
  have old : ∀ t x r, t ≠ s → H[t]? = some x → x.live = true → ρ t = some r → w'.heap[r.block]? = w.heap[r.block]? := fun t x r ht he hlx hr => hw _ ((h.own t x he).lt hlx hr) (ne t x r ht he hlx hr)
  have but : Env.leBut [s] ρ (ρ.set s q) := fun t p ht hp => by
    have : t ≠ s := by simpa using ht
    rw [Env.set_ne _ _ this]; exact hp
  refine ⟨⟨fun b x hb => ?_, fun t o' he => ?_, fun t o' r he hl' hr => ?_, fun t t' x x' r r' he he' hlx hlx' hr hr' hb => ?_, fun t ht => ?_⟩, ?_⟩
  · rw [hw b (h.imm_lt hb) (fun p hp e => by rw [e, h.sep s o p hs hl hp] at hb; cases hb)]; exact h.imm b x hb
  · rcases sub t o' he with ⟨ht, x, hx, rfl⟩ | ⟨rfl, rfl⟩
    · by_cases hlx : x.live = true
      · exact (h.own t x hx).forget M.le_refl but (Env.set_ne _ _ ht) fun r hr => old t x r ht hx hlx hr
      · rw [live_some hlx]; trivial
    · exact ho
  · rcases sub t o' he with ⟨ht, x, hx, rfl⟩ | ⟨rfl, rfl⟩
    · rw [Env.set_ne _ _ ht] at hr; rw [live_forget] at hl'; exact h.sep t x r hx hl' hr
    · rw [Env.set_self] at hr
      rcases hq r hr with h1 | ⟨p, hp, e⟩
      · exact h.imm_none h1
      · rw [← e]; exact h.sep t o p hs hl hp
  · rcases sub t x he with ⟨ht, y, hy, rfl⟩ | ⟨rfl, rfl⟩
    · rw [Env.set_ne _ _ ht] at hr; rw [live_forget] at hlx
      rcases sub t' x' he' with ⟨ht', y', hy', rfl⟩ | ⟨rfl, rfl⟩
      · rw [Env.set_ne _ _ ht'] at hr'; rw [live_forget] at hlx'
        exact h.dis t t' y y' r r' hy hy' hlx hlx' hr hr' hb
      · rw [Env.set_self] at hr'
        rcases hq r' hr' with h1 | ⟨p, hp, e⟩
        · have := (h.own t y hy).lt hlx hr; omega
        · exact absurd (hb.trans e.symm) (ne t y r ht hy hlx hr p hp)
    · rw [Env.set_self] at hr
      rcases sub t' x' he' with ⟨ht', y', hy', rfl⟩ | ⟨rfl, rfl⟩
      · rw [Env.set_ne _ _ ht'] at hr'; rw [live_forget] at hlx'
        rcases hq r hr with h1 | ⟨p, hp, e⟩
        · have := (h.own t' y' hy').lt hlx' hr'; omega
        · exact absurd (hb.symm.trans e.symm) (ne t' y' r' ht' hy' hlx' hr' p hp)
      · rfl
  · have : t ≠ s := by simp at ht; omega
    rw [Env.set_ne _ _ this]; exact h.fresh t (by simpa using ht)
  · refine ⟨M.le_refl, fun b o a c => (by rw [a] at c; cases c), fun b hb => ?_, fun b hb hn => hw b hb (fun p hp e => hn ⟨s, o, p, hs, hl, hp, e.symm⟩), hz, fun t x ht hx he hlx => ?_, fun t _ ht => Env.set_ne _ _ (by simpa using ht), io⟩
    · obtain ⟨t, x, r, he, hlx, hr, rfl⟩ := hb
      rcases sub t x he with ⟨ht, y, hy, rfl⟩ | ⟨rfl, rfl⟩
      · rw [Env.set_ne _ _ ht] at hr; rw [live_forget] at hlx; exact .inr ⟨t, y, r, hy, hlx, hr, rfl⟩
      · rw [Env.set_self] at hr
        rcases hq r hr with h1 | ⟨p, hp, e⟩
        · exact .inl h1
        · exact .inr ⟨t, o, p, hs, hl, hp, e⟩
    · have hts : t ≠ s := by simpa using hx
      refine ⟨⟨x.forget [s], by rw [List.getElem?_set_ne (fun e => hts e.symm)]; simp [he], by rw [live_forget]; exact hlx⟩, fun r hr => ⟨by rw [Env.set_ne _ _ hts]; exact hr, old t x r hts he hlx hr⟩⟩
end
end Go.Sx
