/- Part Qs of the own logic: an owned row becomes immutable where it stands. -/
import Derived.Test.YtdghdcclhnoigaaGreatDoorXSxQd
set_option linter.unusedVariables false
set_option linter.unusedSimpArgs false
set_option linter.unnecessarySimpa false
namespace Go.Sx
open Go
def TT.all (p : SV → Bool) : TT → Bool
  | .nil => true
  | .node l v r => l.all p && ((match v with | some x => p x | none => true) && r.all p)
theorem TT.all_get {p : SV → Bool} : ∀ {T : TT} {t : Nat} {x : SV}, T.all p = true → T.get t = some x → p x = true
  | .nil, t, x, _, h => by simp [TT.get] at h
  | .node l v r, t, x, ha, h => by
    simp only [TT.all, Bool.and_eq_true] at ha
    simp only [TT.get] at h
    cases h0 : Nat.beq t 0 with
    | true => rw [h0] at h; simp only [cond_true] at h; subst h; exact ha.2.1
    | false =>
      rw [h0] at h
      simp only [cond_false] at h
      cases h1 : Nat.beq (t % 2) 1 with
      | true => rw [h1] at h; exact TT.all_get ha.1 h
      | false => rw [h1] at h; exact TT.all_get ha.2.2 h
mutual
def sealV (k : Nat) (row : List Ty) (l : List (Els row)) : SV → SV
  | .sl s sz st n => match Nat.beq s k with
    | true => match st with
      | 0 => .pv (.tsl row l)
      | _ + 1 => .any
    | false => .sl s sz st n
  | .agg x => .agg (sealVs k row l x)
  | .tup x => .tup (sealVs k row l x)
  | .fn f a b => .fn f (sealVs k row l a) (sealVs k row l b)
  | .ptr s sz i j => .ptr s sz i j
  | .mp s => .mp s
  | .yld s => .yld s
  | .any => .any
  | .pv p => .pv p
def sealVs (k : Nat) (row : List Ty) (l : List (Els row)) : List SV → List SV
  | [] => []
  | x :: xs => sealV k row l x :: sealVs k row l xs
end
mutual
def sealC (k : Nat) (row : List Ty) (l : List (Els row)) : SV → Bool
  | .sl s sz st n => match Nat.beq s k with
    | true => match st with
      | 0 => Nat.beq sz row.length && decide (n = l.length)
      | _ + 1 => true
    | false => true
  | .agg x => sealCs k row l x
  | .tup x => sealCs k row l x
  | .fn f a b => sealCs k row l a && sealCs k row l b
  | _ => true
def sealCs (k : Nat) (row : List Ty) (l : List (Els row)) : List SV → Bool
  | [] => true
  | x :: xs => sealC k row l x && sealCs k row l xs
end
theorem sealVs_eq (k : Nat) (row : List Ty) (l : List (Els row)) (xs : List SV) : sealVs k row l xs = xs.map (sealV k row l) := by
  induction xs with
  | nil => rfl
  | cons x xs ih => simp only [sealVs, List.map_cons, ih]
theorem sealCs_get {k : Nat} {row : List Ty} {l : List (Els row)} : ∀ {xs : List SV}, sealCs k row l xs = true → ∀ (i : Nat) (x : SV), xs[i]? = some x → sealC k row l x = true
  | [], _, i, x, h => by simp at h
  | y :: xs, hc, i, x, h => by
    simp only [sealCs, Bool.and_eq_true] at hc
    cases i with
    | zero => simp at h; subst h; exact hc.1
    | succ i => exact sealCs_get hc.2 i x (by simpa using h)
def SObj.sealO (k : Nat) (row : List Ty) (l : List (Els row)) : SObj → SObj
  | .mix ty sz rows => .mix ty sz (rows.map (·.map (sealV k row l)))
  | .map es c => .map (es.map fun e => (e.1, sealV k row l e.2.1, e.2.2)) c
  | .loop x => .loop { x with T := x.T.map (sealV k row l) }
  | o => o
def SObj.sealC (k : Nat) (row : List Ty) (l : List (Els row)) : SObj → Bool
  | .mix ty sz rows => rows.all (sealCs k row l)
  | .map es c => es.all fun e => Sx.sealC k row l e.2.1
  | .loop x => x.T.all (Sx.sealC k row l)
  | _ => true
def oneLive (H : List SObj) (k : Nat) (o : SObj) : List SObj := (H.map fun _ => SObj.dead).set k o
theorem oneLive_get {H : List SObj} {k s : Nat} {o x : SObj} (h : (oneLive H k o)[s]? = some x) : (s = k ∧ x = o) ∨ (s ≠ k ∧ x = .dead) := by
  unfold oneLive at h
  rw [List.getElem?_set] at h
  split at h
  · rename_i e; subst e
    split at h
    · cases h; exact .inl ⟨rfl, rfl⟩
    · cases h
  · rename_i e
    simp only [List.getElem?_map, Option.map_eq_some_iff] at h
    obtain ⟨_, _, rfl⟩ := h
    exact .inr ⟨fun h => e h.symm, rfl⟩
theorem Mem.oneLive {M : Imm} {ρ : Env} {H : List SObj} {w : World} (hm : Mem M ρ H w) {k : Nat} {o o1 : SObj} (hk : H[k]? = some o1) (hl : o1.live = true) (ho : OwnAt M ρ w k o) : Mem M ρ (Sx.oneLive H k o) w := by
  refine ⟨hm.imm, fun s x hx => ?_, fun s x p hx hlx hp => ?_, fun s s' x x' p p' hx hx' hlx hlx' hp hp' hb => ?_, fun s hs => hm.fresh s (by simpa [Sx.oneLive] using hs)⟩
  · rcases oneLive_get hx with ⟨rfl, rfl⟩ | ⟨_, rfl⟩
    · exact ho
    · trivial
  · rcases oneLive_get hx with ⟨rfl, rfl⟩ | ⟨_, rfl⟩
    · exact hm.sep s o1 p hk hl hp
    · cases hlx
  · rcases oneLive_get hx with ⟨rfl, rfl⟩ | ⟨_, rfl⟩
    · rcases oneLive_get hx' with ⟨rfl, rfl⟩ | ⟨_, rfl⟩
      · rfl
      · cases hlx'
    · cases hlx
theorem sealV_sound {M M' : Imm} {ρ : Env} {k : Nat} {row : List Ty} {l : List (Els row)} (hle : M.le M') (hk : ∀ v, SRep M ρ v (.sl k row.length 0 l.length) → PRep M' v (.tsl row l)) {v : Value} {x : SV} (h : SRep M ρ v x) : sealC k row l x = true → SRep M' ρ v (sealV k row l x) := by
  induction h with
  | any v => intro _; exact .any v
  | pv h => intro _; exact .pv (h.mono hle)
  | agg cs xs hl _ ih =>
    intro hc
    simp only [sealC] at hc
    simp only [sealV, sealVs_eq]
    refine .agg cs _ (by simpa using hl) fun i v x hv hx => ?_
    simp only [List.getElem?_map, Option.map_eq_some_iff] at hx
    obtain ⟨y, hy, rfl⟩ := hx
    exact ih i v y hv hy (sealCs_get hc i y hy)
  | tup cs xs hl _ ih =>
    intro hc
    simp only [sealC] at hc
    simp only [sealV, sealVs_eq]
    refine .tup cs _ (by simpa using hl) fun i v x hv hx => ?_
    simp only [List.getElem?_map, Option.map_eq_some_iff] at hx
    obtain ⟨y, hy, rfl⟩ := hx
    exact ih i v y hv hy (sealCs_get hc i y hy)
  | ptr s sz i j kk p hp hkk => intro _; exact .ptr s sz i j kk p hp hkk
  | sl s sz st n c kk p hp hkk hc hn =>
    intro hcc
    simp only [sealC] at hcc
    simp only [sealV]
    split
    · rename_i e
      have e := Nat.eq_of_beq_eq_true e
      subst e
      rw [Nat.beq_refl] at hcc
      simp only at hcc
      cases st with
      | zero =>
        simp only [Bool.and_eq_true] at hcc
        have e1 := Nat.eq_of_beq_eq_true hcc.1
        have e2 := of_decide_eq_true hcc.2
        subst e1; subst e2
        exact .pv (hk _ (.sl _ _ _ _ c kk p hp hkk hc hn))
      | succ st => exact .any _
    · exact .sl s sz st n c kk p hp hkk hc hn
  | slz s sz st a =>
    intro hcc
    simp only [sealC] at hcc
    simp only [sealV]
    split
    · rename_i e
      have e := Nat.eq_of_beq_eq_true e
      subst e
      rw [Nat.beq_refl] at hcc
      simp only at hcc
      cases st with
      | zero =>
        simp only [Bool.and_eq_true] at hcc
        have e1 := Nat.eq_of_beq_eq_true hcc.1
        have e2 := of_decide_eq_true hcc.2
        subst e1
        refine .pv (hk _ ?_)
        rw [← e2]; exact .slz _ _ _ _
      | succ st => exact .any _
    · exact .slz s sz st a
  | mp s p hp => intro _; exact .mp s p hp
  | yld s p hp => intro _; exact .yld s p hp
  | fn f a b x y ha hb _ _ ih jh =>
    intro hc
    simp only [sealC, Bool.and_eq_true] at hc
    simp only [sealV, sealVs_eq]
    refine .fn f a b _ _ (by simpa using ha) (by simpa using hb) (fun i v s hv hs => ?_) (fun i v s hv hs => ?_)
    · simp only [List.getElem?_map, Option.map_eq_some_iff] at hs
      obtain ⟨y, hy, rfl⟩ := hs
      exact ih i v y hv hy (sealCs_get hc.1 i y hy)
    · simp only [List.getElem?_map, Option.map_eq_some_iff] at hs
      obtain ⟨y, hy, rfl⟩ := hs
      exact jh i v y hv hy (sealCs_get hc.2 i y hy)
theorem OwnAt.sealO {M M' : Imm} {ρ : Env} {w : World} {k s : Nat} {row : List Ty} {l : List (Els row)} {o : SObj} (hle : M.le M') (hf : ∀ v x, SRep M ρ v x → Sx.sealC k row l x = true → SRep M' ρ v (sealV k row l x)) (hc : o.sealC k row l = true) (h : OwnAt M ρ w s o) : OwnAt M' ρ w s (o.sealO k row l) := by
  cases o with
  | mix ty sz rows =>
    simp only [SObj.sealC] at hc
    rcases h with ⟨h1, h2⟩ | ⟨p, h1, h2⟩
    · exact .inl ⟨h1, by simp [h2]⟩
    · refine .inr ⟨p, h1, ?_⟩
      obtain ⟨cs, a1, a2, a3, a4, a5, a6⟩ := h2.ex
      have key : ∀ i j x, mcell (rows.map (·.map (sealV k row l))) i j = some x → ∃ y, mcell rows i j = some y ∧ x = sealV k row l y ∧ Sx.sealC k row l y = true := fun i j x hx => by
        unfold mcell at hx
        simp only [List.getElem?_map, Option.bind_eq_some_iff, Option.map_eq_some_iff] at hx
        obtain ⟨r', ⟨r, hr, rfl⟩, hx⟩ := hx
        simp only [List.getElem?_map, Option.map_eq_some_iff] at hx
        obtain ⟨y, hy, rfl⟩ := hx
        exact ⟨y, by simp [mcell, hr, hy], rfl, sealCs_get (List.all_eq_true.1 hc r (List.mem_of_getElem? hr)) j y hy⟩
      refine ⟨cs, a1, a2, by simpa using a3, by simpa using a4, fun i j x v hx hv => ?_, fun i j x hx => ?_⟩
      · obtain ⟨y, hy, rfl, hcy⟩ := key i j x hx
        obtain ⟨b1, b2, b3⟩ := a5 i j y v hy hv
        exact ⟨by simpa using b1, b2, hf v y b3 hcy⟩
      · obtain ⟨y, hy, _⟩ := key i j x hx
        simpa using a6 i j y hy
  | map es c =>
    simp only [SObj.sealC] at hc
    obtain ⟨p, arr, h1, h2, h3, h4⟩ := h
    refine ⟨p, arr, h1, h2, by simpa using h3, fun i kk x b hi => ?_⟩
    simp only [List.getElem?_map, Option.map_eq_some_iff] at hi
    obtain ⟨e, he, hq⟩ := hi
    simp only [Prod.mk.injEq] at hq
    obtain ⟨rfl, rfl, rfl⟩ := hq
    obtain ⟨me, m1, m2, m3, m4⟩ := h4 i e.1 e.2.1 e.2.2 he
    exact ⟨me, m1, m2, m3, hf _ _ m4 (List.all_eq_true.1 hc e (List.mem_of_getElem? he))⟩
  | loop L =>
    simp only [SObj.sealC] at hc
    obtain ⟨p, fn, tmps, q, h1, h2, h3, h4⟩ := h
    refine ⟨p, fn, tmps, q, h1, h2, h3, fun t x hx => ?_⟩
    rw [TT.get_map, Option.map_eq_some_iff] at hx
    obtain ⟨y, hy, rfl⟩ := hx
    exact hf _ _ (h4 t y hy) (TT.all_get hc hy)
  | dead => exact h.mono hle ρ.le_refl rfl fun _ _ => rfl
  | vec _ _ _ => exact h.mono hle ρ.le_refl rfl fun _ _ => rfl
  | tvec _ _ _ => exact h.mono hle ρ.le_refl rfl fun _ _ => rfl
  | tmap _ _ _ => exact h.mono hle ρ.le_refl rfl fun _ _ => rfl
  | iter _ _ => exact h.mono hle ρ.le_refl rfl fun _ _ => rfl
  | dfr _ => exact h.mono hle ρ.le_refl rfl fun _ _ => rfl
theorem live_sealO (k : Nat) (row : List Ty) (l : List (Els row)) (o : SObj) : (o.sealO k row l).live = o.live := by cases o <;> rfl
def vecGet (k ty : Nat) (row : List Ty) (H : List SObj) : Option (Bool × List (Els row)) := (Cel.vec k ty row).get .nil H H.length
def sealSt (k ty : Nat) (row : List Ty) (s : St) : Option (Bool × St) := match vecGet k ty row s.H with
  | none => none
  | some a => some (a.1 && (s.T.all (sealC k row a.2) && s.H.all (SObj.sealC k row a.2)),
      { T := s.T.map (sealV k row a.2), H := (s.H.map (SObj.sealO k row a.2)).set k .dead, n0 := s.n0, tch := addTo s.n0 [k] s.tch, fg := s.fg, marks := s.marks, er := s.er })
theorem seal_id {M : Imm} {ρ : Env} {H : List SObj} {w : World} : M.sealing ρ H H.length w = M := by
  funext b
  unfold Imm.sealing
  cases M b with
  | some o => rfl
  | none =>
    simp only
    rw [if_neg]
    rintro ⟨s, o, p, h1, h2, _⟩
    have := (List.getElem?_eq_some_iff.1 h2).1
    omega
theorem cut_id {M : Imm} {ρ : Env} {H : List SObj} {w : World} (hm : Mem M ρ H w) : ρ.cut H.length = ρ := by
  funext s
  unfold Env.cut
  split
  · rfl
  · rename_i h; exact (hm.fresh s (by omega)).symm
theorem WPs_seal {R : Option Nat} {P : Program} {nt : Nat} {c : Code} {Q : Exit → St → Prop} {s s' : St} {k ty : Nat} {row : List Ty} {cc : Bool} (hs : sealSt k ty row s = some (cc, s')) (hc : cc = true)
    (h : WPs R P nt c Q s') : WPs R P nt c Q s := by
  unfold sealSt at hs
  split at hs
  · cases hs
  · rename_i a ha
    cases hs
    obtain ⟨c1, l⟩ := a
    simp only [Bool.and_eq_true] at hc
    obtain ⟨hc1, hc2, hc3⟩ := hc
    intro B M ρ act w hg
    have hm := hg.mem
    have ha : (Cel.vec k ty row).get .nil s.H s.H.length = some (c1, l) := ha
    obtain ⟨o, ho, hl, hlen⟩ := Cel.get_len (H1 := []) ha hc1 rfl
    have hks : k < s.H.length := (List.getElem?_eq_some_iff.1 ho).1
    have hown := Cel.get_obj (H1 := []) hm ha hc1 rfl hks (fun q hq => by cases hq)
    rw [seal_id, cut_id hm] at hown
    have hown : OwnAt M ρ w k (.tvec ty row l) := hown
    have hm1 := Mem.oneLive hm ho hl hown
    have hle := Imm.seal_le M ρ (Sx.oneLive s.H k (.tvec ty row l)) 0 w
    have hget : (Sx.oneLive s.H k (.tvec ty row l))[k]? = some (.tvec ty row l) := by simp [Sx.oneLive, hks]
    have hnew : ∀ b ob, M b = none → M.sealing ρ (Sx.oneLive s.H k (.tvec ty row l)) 0 w b = some ob → (∃ p, ρ k = some p ∧ p.block = b) ∧ w.heap[b]? = some ob := fun b ob h0 h1 => by
      obtain ⟨⟨s2, o2, p2, q1, q2, q3, q4, q5⟩, q6⟩ := Imm.seal_new h0 h1
      rcases oneLive_get q2 with ⟨rfl, rfl⟩ | ⟨_, rfl⟩
      · exact ⟨⟨p2, q4, q5⟩, q6⟩
      · cases q3
    have hslice : ∀ v, SRep M ρ v (.sl k row.length 0 l.length) → PRep (M.sealing ρ (Sx.oneLive s.H k (.tvec ty row l)) 0 w) v (.tsl row l) := fun v hr => by
      refine seal_data hm1 (Nat.zero_le _) hget rfl rfl (by simp [SObj.len]) rfl (fun i y hy => ?_) hr
      have : (SObj.tvec ty row l).row (0 + i) = (rowPV row y).map .pv := by
        simp only [SObj.row, List.getD, Nat.zero_add, hy, Option.getD_some]
      rw [this]; exact .self hle y
    have hf : ∀ v x, SRep M ρ v x → Sx.sealC k row l x = true → SRep (M.sealing ρ (Sx.oneLive s.H k (.tvec ty row l)) 0 w) ρ v (sealV k row l x) := fun v x h hc => sealV_sound hle hslice h hc
    generalize hM2 : M.sealing ρ (Sx.oneLive s.H k (.tvec ty row l)) 0 w = M2 at hle hnew hslice hf
    have hobj : ∀ t x, ((s.H.map (SObj.sealO k row l)).set k .dead)[t]? = some x → (t = k ∧ x = .dead) ∨ (t ≠ k ∧ ∃ y, s.H[t]? = some y ∧ x = y.sealO k row l) := fun t x hx => by
      rw [List.getElem?_set] at hx
      split at hx
      · rename_i e; subst e
        split at hx
        · cases hx; exact .inl ⟨rfl, rfl⟩
        · cases hx
      · rename_i e
        simp only [List.getElem?_map, Option.map_eq_some_iff] at hx
        obtain ⟨y, hy, rfl⟩ := hx
        exact .inr ⟨fun h => e h.symm, y, hy, rfl⟩
    have hmem2 : Mem M2 ρ ((s.H.map (SObj.sealO k row l)).set k .dead) w := by
      refine ⟨fun b ob hb => ?_, fun t x hx => ?_, fun t x p hx hlx hp => ?_, fun t t' x x' p p' hx hx' hlx hlx' hp hp' hbk => ?_, fun t ht => hm.fresh t (by simpa using ht)⟩
      · cases e : M b with
        | some o' => rw [hle b o' e] at hb; cases hb; exact hm.imm b _ e
        | none => exact (hnew b ob e hb).2
      · rcases hobj t x hx with ⟨rfl, rfl⟩ | ⟨_, y, hy, rfl⟩
        · trivial
        · exact (hm.own t y hy).sealO hle hf (List.all_eq_true.1 hc3 y (List.mem_of_getElem? hy))
      · rcases hobj t x hx with ⟨rfl, rfl⟩ | ⟨hne, y, hy, rfl⟩
        · cases hlx
        · rw [live_sealO] at hlx
          have h0 := hm.sep t y p hy hlx hp
          cases e : M2 p.block with
          | none => rfl
          | some ob =>
            obtain ⟨⟨p2, q1, q2⟩, _⟩ := hnew _ _ h0 e
            exact absurd (hm.dis t k y o p p2 hy ho hlx hl hp q1 q2.symm) hne
      · rcases hobj t x hx with ⟨rfl, rfl⟩ | ⟨_, y, hy, rfl⟩
        · cases hlx
        · rcases hobj t' x' hx' with ⟨rfl, rfl⟩ | ⟨_, y', hy', rfl⟩
          · cases hlx'
          · rw [live_sealO] at hlx hlx'
            exact hm.dis t t' y y' p p' hy hy' hlx hlx' hp hp' hbk
    have hgood : Good B nt M2 ρ { T := s.T.map (sealV k row l), H := (s.H.map (SObj.sealO k row l)).set k .dead, n0 := s.n0, tch := addTo s.n0 [k] s.tch, fg := s.fg, marks := s.marks, er := s.er } act w := by
      refine ⟨fun t x hx => ?_, hg.sz, hmem2, hg.df, hg.mks, by simpa using hg.nle, hg.fix⟩
      rw [TT.get_map, Option.map_eq_some_iff] at hx
      obtain ⟨y, hy, rfl⟩ := hx
      exact hf _ _ (hg.tm t y hy) (TT.all_get hc2 hy)
    have hgoes : Goes M ρ s w M2 ρ { T := s.T.map (sealV k row l), H := (s.H.map (SObj.sealO k row l)).set k .dead, n0 := s.n0, tch := addTo s.n0 [k] s.tch, fg := s.fg, marks := s.marks, er := s.er } w := by
      refine ⟨⟨hle, fun b ob h0 h1 => ?_, fun b hb => ?_, fun _ _ _ => rfl, Nat.le_refl _, fun t x ht hx hx2 hlx => ?_, fun _ _ _ => rfl, rfl, rfl⟩, rfl, fun x hx => (show x ∈ addTo s.n0 [k] s.tch from acc_addTo hx), fun _ h => h⟩
      · obtain ⟨⟨p, q1, q2⟩, _⟩ := hnew b ob h0 h1
        exact .inr ⟨k, o, p, ho, hl, q1, q2⟩
      · obtain ⟨t, x, p, h1, h2, h3, h4⟩ := hb
        rcases hobj t x h1 with ⟨rfl, rfl⟩ | ⟨_, y, hy, rfl⟩
        · cases h2
        · rw [live_sealO] at h2; exact .inr ⟨t, y, p, hy, h2, h3, h4⟩
      · have hne : t ≠ k := fun e => by
          subst e
          exact hx (mem_addTo ht List.mem_cons_self)
        refine ⟨⟨x.sealO k row l, ?_, by rw [live_sealO]; exact hlx⟩, fun p hp => ⟨hp, rfl⟩⟩
        show ((s.H.map (SObj.sealO k row l)).set k .dead)[t]? = _
        rw [List.getElem?_set, if_neg (fun h => hne h.symm), List.getElem?_map, hx2]; rfl
    exact wpIn_mono (h B M2 ρ act w hgood) fun e a' w' ⟨M', ρ', s'', q, g, kk⟩ => ⟨M', ρ', s'', q, g, hgoes.trans kk⟩
def virtFSt (s : St) (ob col ty : Nat) (row : List Ty) : Option St := match s.H[ob]? with
  | none => none
  | some o => match rowOf1 o with
    | none => none
    | some q => match Nat.beq q.2.2.length q.2.1 with
      | false => none
      | true => match q.2.2[col]? with
        | some (.pv (.lit v)) => match Value.isNil v with
          | true => some { T := s.T, H := (s.H.set ob (.mix q.1 q.2.1 [q.2.2.set col (.sl s.H.length row.length 0 0)])) ++ [.tvec ty row []], n0 := s.n0, tch := s.tch, fg := s.fg, marks := s.marks, er := s.er }
          | false => none
        | _ => none
theorem WPs_virtF {R : Option Nat} {P : Program} {nt : Nat} {c : Code} {Q : Exit → St → Prop} {s s' : St} {ob col ty : Nat} {row : List Ty} (hs : virtFSt s ob col ty row = some s')
    (h : WPs R P nt c Q s') : WPs R P nt c Q s := by
  unfold virtFSt at hs
  split at hs
  · cases hs
  · rename_i o ho
    split at hs
    · cases hs
    · rename_i q hq
      split at hs
      · cases hs
      · rename_i hl
        have hl := Nat.eq_of_beq_eq_true hl
        split at hs
        · rename_i v hv
          split at hs
          · rename_i hn
            cases hs
            obtain ⟨oty, sz, r⟩ := q
            have hlt : ob < s.H.length := (List.getElem?_eq_some_iff.1 ho).1
            refine WPs.of_imp (fun B M ρ a w hg => ⟨ρ, ?_, ?_⟩) h
            all_goals
              obtain ⟨g1, g2, g3, g4⟩ := rowOf1_spec (M := M) (ρ := ρ) (w := w) (s := ob) hq
              obtain ⟨m1, m2⟩ := hg.mem.virt (ty := ty) (sz := row.length)
              have n1 := m1.described (s := s.H.length) (o := .vec ty row.length []) (o' := .tvec ty row []) (by simp) rfl (fun h => h)
              have n2 := m2.described (s := s.H.length) (o := .vec ty row.length []) (o' := .tvec ty row []) (by simp) rfl
              have e1 : (s.H ++ [SObj.vec ty row.length []]).set s.H.length (.tvec ty row []) = s.H ++ [.tvec ty row []] := by simp
              rw [e1] at n1 n2
              have hob : (s.H ++ [SObj.tvec ty row []])[ob]? = some o := by rw [List.getElem?_append_left hlt]; exact ho
              have hown : OwnAt M ρ w ob o → OwnAt M ρ w ob (.mix oty sz [r.set col (.sl s.H.length row.length 0 0)]) := fun h0 => by
                refine OwnAt.remix rfl (by simpa using hl) (fun j y hy => ?_) (g4 h0)
                rw [List.getElem?_set] at hy
                split at hy
                · rename_i e; subst e
                  split at hy
                  · cases hy
                    refine .inr ⟨_, hv, fun u hu => ?_⟩
                    have := hu.lit_eq
                    subst this
                    unfold Value.isNil at hn
                    split at hn
                    · simp only [Bool.and_eq_true] at hn
                      rw [Nat.eq_of_beq_eq_true hn.1, Nat.eq_of_beq_eq_true hn.2]
                      exact .slz _ _ _ _
                    · cases hn
                  · cases hy
                · exact .inr ⟨y, hy, fun u hu => hu⟩
              have e2 : (s.H ++ [SObj.tvec ty row []]).set ob (.mix oty sz [r.set col (.sl s.H.length row.length 0 0)]) = (s.H.set ob (.mix oty sz [r.set col (.sl s.H.length row.length 0 0)])) ++ [.tvec ty row []] := by
                rw [List.set_append_left _ _ hlt]
            · have n3 := n1.described hob (o' := .mix oty sz [r.set col (.sl s.H.length row.length 0 0)]) g1.symm hown
              rw [e2] at n3
              refine ⟨hg.tm, hg.sz, n3, hg.df, hg.mks, ?_, hg.fix⟩
              show s.n0 ≤ ((s.H.set ob (.mix oty sz [r.set col (.sl s.H.length row.length 0 0)])) ++ [SObj.tvec ty row []]).length
              have := hg.nle; simp; omega
            · have n3 := n2.described hob (o' := .mix oty sz [r.set col (.sl s.H.length row.length 0 0)]) g1.symm
              rw [e2] at n3
              exact ⟨n3.weaken (n' := s.n0) (t' := s.tch) (f' := s.fg) hg.nle (fun x _ h => by cases h) (fun x _ h => by cases h), rfl, fun _ h => h, fun _ h => h⟩
          · cases hs
        · cases hs
def truncSt (s : St) (t : Nat) : Option St := match s.T.get t with
  | some (.sl d _ _ n) => match s.H[d]? with
    | some (.tvec ty row l) => some { T := s.T, H := s.H.set d (.tvec ty row (l.take n)), n0 := s.n0, tch := s.tch, fg := s.fg, marks := s.marks, er := s.er }
    | _ => none
  | _ => none
theorem ownAt_take {M : Imm} {ρ : Env} {w : World} {d ty : Nat} {row : List Ty} {l : List (Els row)} (n : Nat) (h : OwnAt M ρ w d (.tvec ty row l)) : OwnAt M ρ w d (.tvec ty row (l.take n)) := by
  rcases h with ⟨h1, h2⟩ | ⟨p, h1, cs, a1, a2, a3, a4, a5, a6⟩
  · left
    refine ⟨h1, ?_⟩
    have : l = [] := by simpa [rowsPV] using h2
    subst this; simp
  · right
    have hle : (rowsPV row (l.take n)).length ≤ (rowsPV row l).length := by simp; omega
    have sub : ∀ i j x, vcell (rowsPV row (l.take n)) i j = some x → i < (rowsPV row (l.take n)).length ∧ vcell (rowsPV row l) i j = some x := fun i j x hx => by
      unfold vcell at hx ⊢
      simp only [List.getElem?_map, List.getElem?_take] at hx ⊢
      split at hx
      · rename_i hi
        refine ⟨?_, hx⟩
        cases hl : l[i]? with
        | none => rw [hl] at hx; simp at hx
        | some y =>
          have := (List.getElem?_eq_some_iff.1 hl).1
          simp; omega
      · simp at hx
    refine ⟨p, h1, cs, a1, a2, Nat.le_trans (Nat.mul_le_mul_right _ hle) a3, fun i j hi hj => a4 i j (Nat.lt_of_lt_of_le hi hle) hj, fun i j x v hx hv => ?_, fun i j x hx => ?_⟩
    · obtain ⟨s1, s2⟩ := sub i j x hx
      obtain ⟨b1, b2, b3⟩ := a5 i j x v s2 hv
      exact ⟨s1, b2, b3⟩
    · obtain ⟨s1, s2⟩ := sub i j x hx
      exact ⟨s1, (a6 i j x s2).2⟩
theorem WPs_trunc {R : Option Nat} {P : Program} {nt : Nat} {c : Code} {Q : Exit → St → Prop} {s s' : St} {t : Nat} (hs : truncSt s t = some s') (h : WPs R P nt c Q s') : WPs R P nt c Q s := by
  unfold truncSt at hs
  split at hs
  · split at hs
    · rename_i ty row l hd
      cases hs
      refine WPs.of_imp (fun B M ρ a w hg => ⟨ρ, ?_, ?_⟩) h
      · exact ⟨hg.tm, hg.sz, hg.mem.described hd rfl (fun h => ownAt_take _ h), hg.df, hg.mks, by simpa using hg.nle, hg.fix⟩
      · exact ⟨(Fr.refl M ρ s.H w s.n0 s.tch s.fg).described hd rfl, rfl, fun _ h => h, fun _ h => h⟩
    · cases hs
  · cases hs
end Go.Sx
