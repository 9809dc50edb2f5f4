/- Part B of the own logic: states, what a piece of code does to them, and the rules of control. -/
import Derived.Test.YtdghdcclhnoigaaGreatDoorXSxT
import Derived.Deep.LoopGhost
set_option linter.unusedVariables false
set_option linter.unusedSimpArgs false
namespace Go.Sx
open Go
structure St where
  T : TT
  H : List SObj
  n0 : Nat
  tch : List Nat
  fg : List Nat
  marks : List Nat
  er : List Nat
def DefersAre (ρ : Env) (marks : List Nat) (ds : List Deferred) : Prop :=
  ds.length = marks.length ∧ ∀ (i : Nat) (d : Deferred) (s : Nat), ds[i]? = some d → marks[i]? = some s → ∃ p, ρ s = some p ∧ d = { target := .collected p.block, args := #[] }
structure Good (B : Nat → Value) (nt : Nat) (M : Imm) (ρ : Env) (s : St) (a : Act) (w : World) : Prop where
  tm : ∀ t x, s.T.get t = some x → SRep M ρ (a.tmps.getD t undef) x
  sz : a.tmps.size = nt
  mem : Mem M ρ s.H w
  df : DefersAre ρ s.marks a.defers
  mks : ∀ m, m ∈ s.marks → s.n0 ≤ m
  nle : s.n0 ≤ s.H.length
  fix : ∀ t, t ∉ s.er → a.tmps.getD t undef = B t
structure Fr (M : Imm) (ρ : Env) (H : List SObj) (w : World) (M' : Imm) (ρ' : Env) (H' : List SObj) (w' : World) (n : Nat) (tch fg : List Nat) : Prop where
  imm : M.le M'
  new : ∀ b o, M b = none → M' b = some o → w.heap.size ≤ b ∨ Owned ρ H b
  own : ∀ b, Owned ρ' H' b → w.heap.size ≤ b ∨ Owned ρ H b
  same : ∀ b, b < w.heap.size → ¬ Owned ρ H b → w'.heap[b]? = w.heap[b]?
  grow : w.heap.size ≤ w'.heap.size
  keep : ∀ s o, s < n → s ∉ tch → H[s]? = some o → o.live = true → (∃ o', H'[s]? = some o' ∧ o'.live = true) ∧ ∀ p, ρ s = some p → ρ' s = some p ∧ w'.heap[p.block]? = w.heap[p.block]?
  stay : ∀ s, s < n → s ∉ fg → ρ' s = ρ s
  io : w'.os = w.os ∧ w'.output = w.output
theorem Fr.refl (M : Imm) (ρ : Env) (H : List SObj) (w : World) (n : Nat) (tch fg : List Nat) : Fr M ρ H w M ρ H w n tch fg :=
  ⟨M.le_refl, fun b o h h' => by (rw [h] at h'; cases h'), fun b h => .inr h, fun _ _ _ => rfl, Nat.le_refl _, fun _ o _ _ h hl => ⟨⟨o, h, hl⟩, fun _ hp => ⟨hp, rfl⟩⟩, fun _ _ _ => rfl, rfl, rfl⟩
theorem Fr.trans {M M1 M2 : Imm} {ρ ρ1 ρ2 : Env} {H H1 H2 : List SObj} {w w1 w2 : World} {n : Nat} {t1 f1 t2 f2 t f : List Nat}
    (h : Fr M ρ H w M1 ρ1 H1 w1 n t1 f1) (k : Fr M1 ρ1 H1 w1 M2 ρ2 H2 w2 n t2 f2)
    (ht1 : ∀ x, x ∈ t1 → x ∈ t) (ht2 : ∀ x, x ∈ t2 → x ∈ t) (hf1 : ∀ x, x ∈ f1 → x ∈ f) (hf2 : ∀ x, x ∈ f2 → x ∈ f) :
    Fr M ρ H w M2 ρ2 H2 w2 n t f := by
  refine ⟨Imm.le_trans h.imm k.imm, fun b o h0 h2 => ?_, fun b hb => ?_, fun b hb hn => ?_, Nat.le_trans h.grow k.grow, fun s o hs hx ho hl => ?_, fun s hs hx => ?_, k.io.1.trans h.io.1, k.io.2.trans h.io.2⟩
  · cases e : M1 b with
    | some o1 => exact h.new b o1 h0 e
    | none =>
      rcases k.new b o e h2 with h' | h'
      · exact .inl (Nat.le_trans h.grow h')
      · exact h.own b h'
  · rcases k.own b hb with h' | h'
    · exact .inl (Nat.le_trans h.grow h')
    · exact h.own b h'
  · rw [k.same b (Nat.lt_of_lt_of_le hb h.grow) (fun ho => ?_), h.same b hb hn]
    rcases h.own b ho with h' | h'
    · omega
    · exact hn h'
  · obtain ⟨⟨o1, ho1, hl1⟩, a2⟩ := h.keep s o hs (fun m => hx (ht1 s m)) ho hl
    obtain ⟨hx2, b2⟩ := k.keep s o1 hs (fun m => hx (ht2 s m)) ho1 hl1
    exact ⟨hx2, fun p hp => let ⟨c1, c2⟩ := a2 p hp; let ⟨d1, d2⟩ := b2 p c1; ⟨d1, d2.trans c2⟩⟩
  · exact (k.stay s hs (fun m => hx (hf2 s m))).trans (h.stay s hs (fun m => hx (hf1 s m)))
theorem Fr.weaken {M M' : Imm} {ρ ρ' : Env} {H H' : List SObj} {w w' : World} {n n' : Nat} {t f t' f' : List Nat} (h : Fr M ρ H w M' ρ' H' w' n t f)
    (hn : n' ≤ n) (ht : ∀ x, x < n' → x ∈ t → x ∈ t') (hf : ∀ x, x < n' → x ∈ f → x ∈ f') : Fr M ρ H w M' ρ' H' w' n' t' f' :=
  ⟨h.imm, h.new, h.own, h.same, h.grow, fun s o hs hx => h.keep s o (Nat.lt_of_lt_of_le hs hn) (fun m => hx (ht s hs m)), fun s hs hx => h.stay s (Nat.lt_of_lt_of_le hs hn) (fun m => hx (hf s hs m)), h.io⟩
structure Goes (M : Imm) (ρ : Env) (s : St) (w : World) (M' : Imm) (ρ' : Env) (s' : St) (w' : World) : Prop where
  fr : Fr M ρ s.H w M' ρ' s'.H w' s.n0 s'.tch s'.fg
  n0 : s'.n0 = s.n0
  tch : ∀ x, x ∈ s.tch → x ∈ s'.tch
  fg : ∀ x, x ∈ s.fg → x ∈ s'.fg
theorem Goes.refl (M : Imm) (ρ : Env) (s : St) (w : World) : Goes M ρ s w M ρ s w := ⟨Fr.refl .., rfl, fun _ h => h, fun _ h => h⟩
theorem Goes.trans {M M1 M2 : Imm} {ρ ρ1 ρ2 : Env} {s s1 s2 : St} {w w1 w2 : World} (h : Goes M ρ s w M1 ρ1 s1 w1) (k : Goes M1 ρ1 s1 w1 M2 ρ2 s2 w2) : Goes M ρ s w M2 ρ2 s2 w2 :=
  ⟨h.fr.trans (h.n0 ▸ k.fr) (fun x hx => k.tch x hx) (fun x hx => hx) (fun x hx => k.fg x hx) (fun x hx => hx), k.n0.trans h.n0, fun x hx => k.tch x (h.tch x hx), fun x hx => k.fg x (h.fg x hx)⟩
def FW (R : Option Nat) : Fence := { Fence.wide with round := R }
theorem FW_none : FW none = Fence.wide := rfl
def WPs (R : Option Nat) (P : Program) (nt : Nat) (c : Code) (Q : Exit → St → Prop) (s : St) : Prop :=
  ∀ B M ρ a w, Good B nt M ρ s a w → c.wpIn (FW R) 0 P (fun e a' w' => ∃ M' ρ' s', Q e s' ∧ Good B nt M' ρ' s' a' w' ∧ Goes M ρ s w M' ρ' s' w') a w
section
variable {R : Option Nat} {P : Program} {nt : Nat} {Q : Exit → St → Prop} {s : St}
theorem WPs.mono {c : Code} {Q' : Exit → St → Prop} (h : WPs R P nt c Q s) (hq : ∀ e s', Q e s' → Q' e s') : WPs R P nt c Q' s :=
  fun B M ρ a w hg => wpIn_mono (h B M ρ a w hg) fun e a' w' ⟨M', ρ', s', q, r⟩ => ⟨M', ρ', s', hq e s' q, r⟩
theorem WPs_skip (h : Q .normal s) : WPs R P nt .skip Q s := fun B M ρ a w hg => wpIn_skip ⟨M, ρ, s, h, hg, Goes.refl ..⟩
theorem WPs_label {l : Nat} (h : Q .normal s) : WPs R P nt (.label l) Q s := fun B M ρ a w hg => wpIn_label ⟨M, ρ, s, h, hg, Goes.refl ..⟩
theorem WPs_exit {id : Nat} (h : Q (.exit id) s) : WPs R P nt (.exit id) Q s := fun B M ρ a w hg => wpIn_exit ⟨M, ρ, s, h, hg, Goes.refl ..⟩
theorem WPs_ret (h : Q .ret s) : WPs R P nt .ret Q s := fun B M ρ a w hg => wpIn_ret ⟨M, ρ, s, h, hg, Goes.refl ..⟩
theorem WPs.of_imp {c : Code} {s' : St} (hi : ∀ B M ρ a w, Good B nt M ρ s a w → ∃ ρ', Good B nt M ρ' s' a w ∧ Goes M ρ s w M ρ' s' w) (h : WPs R P nt c Q s') : WPs R P nt c Q s :=
  fun B M ρ a w hg => let ⟨ρ', hg', go⟩ := hi B M ρ a w hg
    wpIn_mono (h B M ρ' a w hg') fun e a' w' ⟨M', ρ'', s'', q, g, k⟩ => ⟨M', ρ'', s'', q, g, go.trans k⟩
def seqQ (K : St → Prop) (Q : Exit → St → Prop) : Exit → St → Prop
  | .normal, s => K s
  | e, s => Q e s
theorem WPs_seq {x y : Code} (h : WPs R P nt x (seqQ (WPs R P nt y Q) Q) s) : WPs R P nt (.seq x y) Q s := by
  intro B M ρ a w hg
  refine wpIn_seq (wpIn_mono (h B M ρ a w hg) ?_)
  rintro e a' w' ⟨M', ρ', s', q, g, k⟩
  cases e with
  | normal => exact wpIn_mono (q B M' ρ' a' w' g) fun e a'' w'' ⟨M'', ρ'', s'', q', g', k'⟩ => ⟨M'', ρ'', s'', q', g', k.trans k'⟩
  | exit id => exact ⟨M', ρ', s', q, g, k⟩
  | goto l => exact ⟨M', ρ', s', q, g, k⟩
  | ret => exact ⟨M', ρ', s', q, g, k⟩
  | panic c => exact ⟨M', ρ', s', q, g, k⟩
  | outgrown => exact ⟨M', ρ', s', q, g, k⟩
def St.ev (s : St) : Operand → SV
  | .tmp t => (s.T.get t).getD .any
  | .const v => .lit v
  | .global g => .lit (.pointer (some ⟨g, 0, none⟩))
  | .func f => .lit (.func (.func f) #[] #[])
theorem Good.ev {B : Nat → Value} {nt : Nat} {M : Imm} {ρ : Env} {s : St} {a : Act} {w : World} (hg : Good B nt M ρ s a w) (x : Operand) : SRep M ρ (a.eval x) (s.ev x) := by
  cases x with
  | tmp t =>
    simp only [St.ev, Act.eval]
    cases e : s.T.get t with
    | none => exact .any _
    | some y => exact hg.tm t y e
  | const v => exact .pv (.lit v)
  | global g => exact .pv (.lit _)
  | func f => exact .pv (.lit _)
theorem SRep.lit_eq {M : Imm} {ρ : Env} {v u : Value} (h : SRep M ρ v (.pv (.lit u))) : v = u := by
  cases h with
  | pv h => cases h with
    | lit => rfl
theorem Good.ev_lit {B : Nat → Value} {nt : Nat} {M : Imm} {ρ : Env} {s : St} {a : Act} {w : World} (hg : Good B nt M ρ s a w) {x : Operand} {v : Value} (h : s.ev x = .lit v) : a.eval x = v :=
  SRep.lit_eq (h ▸ hg.ev x)
theorem WPs_cond {c : Operand} {x y : Code} {t : Bool} (hc : s.ev c = .lit (.bool t)) (ht : t = true → WPs R P nt x Q s) (hf : t = false → WPs R P nt y Q s) : WPs R P nt (.cond c x y) Q s := by
  intro B M ρ a w hg
  exact wpIn_cond_split (hg.ev_lit hc) (fun h => ht h B M ρ a w hg) (fun h => hf h B M ρ a w hg)
def blockQ (id : Nat) (Q : Exit → St → Prop) : Exit → St → Prop
  | .exit id', s => if id' = id then Q .normal s else Q (.exit id') s
  | e, s => Q e s
theorem WPs_block {id : Nat} {c : Code} (h : WPs R P nt c (blockQ id Q) s) : WPs R P nt (.block id c) Q s := by
  intro B M ρ a w hg
  refine wpIn_block (wpIn_mono (h B M ρ a w hg) ?_)
  rintro e a' w' ⟨M', ρ', s', q, g, k⟩
  cases e with
  | exit id' =>
    simp only [Exit.inBlock, blockQ] at *
    split
    · rename_i he; rw [if_pos he] at q; exact ⟨M', ρ', s', q, g, k⟩
    · rename_i he; rw [if_neg he] at q; exact ⟨M', ρ', s', q, g, k⟩
  | normal => exact ⟨M', ρ', s', q, g, k⟩
  | goto l => exact ⟨M', ρ', s', q, g, k⟩
  | ret => exact ⟨M', ρ', s', q, g, k⟩
  | panic c => exact ⟨M', ρ', s', q, g, k⟩
  | outgrown => exact ⟨M', ρ', s', q, g, k⟩
theorem WPs_loop {c : Code} (I : Nat → St → Prop) {n0 : Nat} (h0 : I n0 s)
    (round : ∀ n s, I n s → WPs R P nt c (seqQ (fun s' => ∃ n', n' < n ∧ I n' s') Q) s) : WPs R P nt (.loop c) Q s := by
  intro B M ρ a w hg
  let J : Nat → Act → World → Prop := fun n a' w' => ∃ M' ρ' s', I n s' ∧ Good B nt M' ρ' s' a' w' ∧ Goes M ρ s w M' ρ' s' w'
  refine wpIn_loop (fun a w => ∃ n, J n a w) (fun a w => leastOf (fun n => J n a w)) ⟨n0, M, ρ, s, h0, hg, Goes.refl ..⟩ ?_
  intro a1 w1 hI
  obtain ⟨hJ, hmin⟩ := leastOf_spec hI
  obtain ⟨M', ρ', s', hi, g, k⟩ := hJ
  refine wpIn_mono (round _ s' hi B M' ρ' a1 w1 g) ?_
  rintro e a2 w2 ⟨M2, ρ2, s2, q, g2, k2⟩
  cases e with
  | normal =>
    obtain ⟨n', hlt, hi2⟩ := q
    have hx : J n' a2 w2 := ⟨M2, ρ2, s2, hi2, g2, k.trans k2⟩
    exact show (∃ n, J n a2 w2) ∧ leastOf (fun n => J n a2 w2) < _ from ⟨⟨n', hx⟩, Nat.lt_of_le_of_lt ((leastOf_spec ⟨n', hx⟩).2 n' hx) hlt⟩
  | exit id => exact ⟨M2, ρ2, s2, q, g2, k.trans k2⟩
  | goto l => exact ⟨M2, ρ2, s2, q, g2, k.trans k2⟩
  | ret => exact ⟨M2, ρ2, s2, q, g2, k.trans k2⟩
  | panic c => exact ⟨M2, ρ2, s2, q, g2, k.trans k2⟩
  | outgrown => exact ⟨M2, ρ2, s2, q, g2, k.trans k2⟩
end
def Reps (M : Imm) (ρ : Env) (vs : List Value) (xs : List SV) : Prop := vs.length = xs.length ∧ ∀ (i : Nat) (v : Value) (x : SV), vs[i]? = some v → xs[i]? = some x → SRep M ρ v x
abbrev Post := SV → List SObj → List Nat → List Nat → Prop
def SCall (P : Program) (f : FuncId) (args : List SV) (H : List SObj) (Q : Post) : Prop :=
  ∀ M ρ w vs, Mem M ρ H w → Reps M ρ vs args → CallsIn Fence.wide 0 P f vs.toArray w fun e w' =>
    ∃ v r H' M' ρ' tch fg, e = .returned v ∧ Q r H' tch fg ∧ SRep M' ρ' v r ∧ Mem M' ρ' H' w' ∧ Fr M ρ H w M' ρ' H' w' H.length tch fg
theorem SCall.mono {P : Program} {f : FuncId} {args : List SV} {H : List SObj} {Q Q' : Post} (h : SCall P f args H Q) (hq : ∀ r H' t g, Q r H' t g → Q' r H' t g) : SCall P f args H Q' :=
  fun M ρ w vs hm hr => (h M ρ w vs hm hr).mono fun e w' ⟨v, r, H', M', ρ', t, g, he, q, rest⟩ => ⟨v, r, H', M', ρ', t, g, he, hq _ _ _ _ q, rest⟩
end Go.Sx
