/- Part Qb of the own logic: a state is read by a template. Part Qc of the own logic: what a function comes to, as a function of its data: operations and regions. Part Qd of the own logic: what a function comes to, as a function of its data: joins, loops, calls. Part Qs of the own logic: an owned row becomes immutable where it stands. Part Qe of the own logic: what a function comes to, as a function of its data: the evaluator. -/
import Derived.Test.YtdghdcclhnoigaaGreatDoorXSxM
section
set_option linter.unusedVariables false
set_option linter.unusedSimpArgs false
set_option linter.unnecessarySimpa false
namespace Go.Sx
open Go
mutual
theorem SV.forget_twice (d : List Nat) : ∀ (x : SV), (x.forget d).forget d = x.forget d
  | .agg l => by simp only [SV.forget, forgetL_twice d l]
  | .tup l => by simp only [SV.forget, forgetL_twice d l]
  | .fn _ a b => by simp only [SV.forget, forgetL_twice d a, forgetL_twice d b]
  | .ptr s _ _ _ => by
    simp only [SV.forget]; split
    · rfl
    · rename_i h; simp only [SV.forget, if_neg h]
  | .sl s _ _ _ => by
    simp only [SV.forget]; split
    · rfl
    · rename_i h; simp only [SV.forget, if_neg h]
  | .mp s => by
    simp only [SV.forget]; split
    · rfl
    · rename_i h; simp only [SV.forget, if_neg h]
  | .yld s => by
    simp only [SV.forget]; split
    · rfl
    · rename_i h; simp only [SV.forget, if_neg h]
  | .any => rfl
  | .pv _ => rfl
theorem forgetL_twice (d : List Nat) : ∀ (l : List SV), forgetL d (forgetL d l) = forgetL d l
  | [] => rfl
  | x :: xs => by simp only [forgetL, SV.forget_twice d x, forgetL_twice d xs]
end
mutual
theorem SV.forget_nil : ∀ (x : SV), x.forget [] = x
  | .agg l => by simp only [SV.forget, forgetL_nil l]
  | .tup l => by simp only [SV.forget, forgetL_nil l]
  | .fn _ a b => by simp only [SV.forget, forgetL_nil a, forgetL_nil b]
  | .ptr s _ _ _ => by simp [SV.forget]
  | .sl s _ _ _ => by simp [SV.forget]
  | .mp s => by simp [SV.forget]
  | .yld s => by simp [SV.forget]
  | .any => rfl
  | .pv _ => rfl
theorem forgetL_nil : ∀ (l : List SV), forgetL [] l = l
  | [] => rfl
  | x :: xs => by simp only [forgetL, SV.forget_nil x, forgetL_nil xs]
end
theorem TT.map_id {f : SV → SV} (hf : ∀ x, f x = x) : ∀ (T : TT), T.map f = T
  | .nil => rfl
  | .node l v r => by
    simp only [TT.map, TT.map_id hf l, TT.map_id hf r]
    cases v <;> simp [hf]
theorem SObj.forget_nil (o : SObj) : o.forget [] = o := by
  cases o with
  | mix ty sz rows =>
    simp only [SObj.forget, SObj.mix.injEq, true_and]
    conv => rhs; rw [← List.map_id rows]
    refine List.map_congr_left fun r _ => ?_
    conv => rhs; rw [← List.map_id r]
    exact List.map_congr_left fun x _ => SV.forget_nil x
  | map es c =>
    simp only [SObj.forget, SObj.map.injEq, and_true]
    conv => rhs; rw [← List.map_id es]
    refine List.map_congr_left fun e _ => ?_
    simp only [SV.forget_nil, id]
  | loop l => simp only [SObj.forget, TT.map_id SV.forget_nil]
  | _ => rfl
theorem TT.map_twice {f : SV → SV} (hf : ∀ x, f (f x) = f x) : ∀ (T : TT), (T.map f).map f = T.map f
  | .nil => rfl
  | .node l v r => by
    simp only [TT.map, TT.map_twice hf l, TT.map_twice hf r]
    cases v <;> simp [hf]
theorem SObj.forget_twice (d : List Nat) (o : SObj) : (o.forget d).forget d = o.forget d := by
  cases o with
  | mix ty sz rows =>
    simp only [SObj.forget, List.map_map, SObj.mix.injEq, true_and]
    refine List.map_congr_left fun r _ => ?_
    simp only [Function.comp, List.map_map]
    exact List.map_congr_left fun x _ => SV.forget_twice d x
  | map es c =>
    simp only [SObj.forget, List.map_map, SObj.map.injEq, and_true]
    refine List.map_congr_left fun e _ => ?_
    simp only [Function.comp, SV.forget_twice]
  | loop l =>
    simp only [SObj.forget, TT.map_twice (SV.forget_twice d)]
  | _ => rfl
structure BaseAt (D ids mv : List Nat) (b : St) (M : Imm) (ρ : Env) (H : List SObj) (a : Act) (w : World) : Prop where
  len : H.length = b.H.length
  slots : ∀ t y, t ∉ D → b.T.get t = some y → SRep M ρ (a.tmps.getD t undef) (y.forget mv)
  objs : ∀ (s : Nat) (o : SObj), s ∉ ids → b.H[s]? = some o → OwnAt M ρ w s (o.forget mv) ∧ (o.live = true → ∃ o' : SObj, H[s]? = some o' ∧ o'.live = true)
  back : ∀ (s : Nat) (o : SObj), s ∉ ids → H[s]? = some o → o.live = true → ∃ o0 : SObj, b.H[s]? = some o0 ∧ o0.live = true
theorem rowOf1_spec {M : Imm} {ρ : Env} {w : World} {s ty sz : Nat} {o : SObj} {r : List SV} (h : rowOf1 o = some (ty, sz, r)) : o.live = true ∧ o.sz? = some sz ∧ o.len = 1 ∧ (OwnAt M ρ w s o → OwnAt M ρ w s (.mix ty sz [r])) := by
  unfold rowOf1 at h
  split at h
  · cases h; exact ⟨rfl, rfl, rfl, fun h => h.vecMix⟩
  · cases h; exact ⟨rfl, rfl, rfl, id⟩
  · rename_i ty' row x
    cases h
    exact ⟨rfl, rfl, rfl, fun h => by
      have h : OwnAt M ρ w s (.vec ty row.length [rowPV row x]) := h
      exact h.vecMix⟩
  · cases h
theorem OwnAt.remix {M M2 : Imm} {ρ ρ2 : Env} {w : World} {s ty sz : Nat} {r r' : List SV} (hs : ρ2 s = ρ s) (hl : r'.length = sz)
    (hr : ∀ (j : Nat) (y : SV), r'[j]? = some y → y = .any ∨ ∃ x : SV, r[j]? = some x ∧ ∀ u, SRep M ρ u x → SRep M2 ρ2 u y) (h : OwnAt M ρ w s (.mix ty sz [r])) : OwnAt M2 ρ2 w s (.mix ty sz [r']) := by
  rcases h with ⟨h1, h2⟩ | ⟨p, h1, h2⟩
  · cases h2
  · refine .inr ⟨p, hs.trans h1, ?_⟩
    obtain ⟨cs, a1, a2, a3, a4, a5, a6⟩ := h2.ex
    have hin : ∀ i j x, mcell [r'] i j = some x → i = 0 ∧ r'[j]? = some x := fun i j x hx => by
      unfold mcell at hx
      cases i with
      | zero => exact ⟨rfl, by simpa using hx⟩
      | succ i => simp at hx
    refine ⟨cs, a1, a2, a3, a4, fun i j x v hx hv => ?_, fun i j x hx => ?_⟩
    · obtain ⟨rfl, hj⟩ := hin i j x hx
      have hjs : j < sz := by rw [← hl]; exact (List.getElem?_eq_some_iff.1 hj).1
      refine ⟨by simp, hjs, ?_⟩
      rcases hr j x hj with rfl | ⟨x0, g1, g2⟩
      · exact .any _
      · exact g2 v (a5 0 j x0 v (by simp [mcell, g1]) hv).2.2
    · obtain ⟨rfl, hj⟩ := hin i j x hx
      exact ⟨by simp, by rw [← hl]; exact (List.getElem?_eq_some_iff.1 hj).1⟩
theorem entData_spec {k v : ATy} {H : List SObj} {n : Nat} : ∀ {es : List Ent} {i : Nat} {c : Bool} {l : List (k.El × v.El)}, entData k v H n i es = some (c, l) → c = true → l.length = es.length ∧
    ∀ (j : Nat) (x : k.El × v.El), l[j]? = some x → ∃ e, es[j]? = some e ∧ e.2.2 = i + j ∧ k.ofSV (.lit e.1) = some x.1 ∧ rdA H n v e.2.1 = some (true, x.2)
  | [], i, c, l, h, hc => by cases h; exact ⟨rfl, fun j x hx => by simp at hx⟩
  | e :: es, i, c, l, h, hc => by
    simp only [entData] at h
    split at h
    · cases h
    · rename_i hb
      split at h
      · cases h
      · rename_i a ha
        split at h
        · cases h
        · rename_i b hb2
          split at h
          · cases h
          · rename_i d hd
            cases h
            rw [Bool.and_eq_true] at hc
            obtain ⟨g1, g2⟩ := entData_spec (c := d.1) (l := d.2) hd hc.2
            refine ⟨by simp [g1], fun j x hx => ?_⟩
            cases j with
            | zero =>
              simp at hx; subst hx
              exact ⟨e, rfl, Nat.eq_of_beq_eq_true hb, ha, by rw [hb2, ← hc.1]⟩
            | succ j =>
              obtain ⟨e', q1, q2, q3⟩ := g2 j x (by simpa using hx)
              exact ⟨e', by simpa using q1, by omega, q3⟩
theorem MapAt.data {M : Imm} {ρ ρ2 : Env} {H : List SObj} {w : World} {n s : Nat} (hm : Mem M ρ H w) {k v : ATy} {es : List Ent} {c : Nat} {cc : Bool} {l : List (k.El × v.El)} (hs : ρ2 s = ρ s) (h : MapAt M ρ w s es c) (hlen : c = es.length) (hk : k.scalar = true) (hd : entData k v H n 0 es = some (cc, l)) (hc : cc = true) :
    MapAt (M.sealing ρ H n w) ρ2 w s (entsFrom k v 0 l) l.length := by
  obtain ⟨g1, g2⟩ := entData_spec hd hc
  obtain ⟨p, arr, h1, h2, h3, h4⟩ := h
  refine ⟨p, arr, hs.trans h1, by rw [g1, ← hlen]; exact h2, by rw [entsFrom_len, g1]; exact h3, fun i kk x b hi => ?_⟩
  rw [entsFrom_get] at hi
  simp only [Option.map_eq_some_iff, Prod.mk.injEq] at hi
  obtain ⟨y, hy, rfl, rfl, rfl⟩ := hi
  obtain ⟨e, q1, q2, q3, q4⟩ := g2 i y hy
  obtain ⟨me, m1, m2, m3, m4⟩ := h4 i e.1 e.2.1 e.2.2 q1
  refine ⟨me, m1, ?_, by rw [m3, q2], rdA_raw hm q4 rfl m4⟩
  rw [m2]
  exact keyV_of_raw hk (ATy.ofSV_sound (M := M) (ρ := ρ) q3 (.pv (.lit _)))
theorem castMap_own {M : Imm} {ρ ρ2 : Env} {w : World} {s : Nat} {k v k' v' : ATy} {l : List (k.El × v.El)} {l' : List (k'.El × v'.El)} (h : castMap k v k' v' l = some l') (ho : MapAt M ρ w s (entsFrom k v 0 l) l.length) : MapAt M ρ w s (entsFrom k' v' 0 l') l'.length := by
  obtain ⟨e, e', rfl⟩ := castMap_eq h
  subst e; subst e'
  exact ho
inductive InPl : (l : PL) → PEls l → Nat → (a : ATy) → a.El → Prop where
  | one (p : Nat × ATy) (x : p.2.El) : InPl [p] x p.1 p.2 x
  | head (p p' : Nat × ATy) (l : PL) (x : p.2.El × PEls (p' :: l)) : InPl (p :: p' :: l) x p.1 p.2 x.1
  | tail (p p' : Nat × ATy) (l : PL) (x : p.2.El × PEls (p' :: l)) (j : Nat) (a : ATy) (y : a.El) (h : InPl (p' :: l) x.2 j a y) : InPl (p :: p' :: l) x j a y
theorem setPl_get : ∀ {l : PL} {x : PEls l} {r : List SV} {j : Nat} {y : SV}, (setPl l x r)[j]? = some y → (∃ a z, InPl l x j a z ∧ y = a.sv z) ∨ r[j]? = some y
  | [], x, r, j, y, h => .inr h
  | [p], x, r, j, y, h => by
    simp only [setPl, List.getElem?_set] at h
    split at h
    · rename_i e; subst e
      split at h
      · cases h; exact .inl ⟨p.2, x, .one p x, rfl⟩
      · cases h
    · exact .inr h
  | p :: p' :: l, x, r, j, y, h => by
    have h0 : (setPl (p' :: l) x.2 (r.set p.1 (p.2.sv x.1)))[j]? = some y := h
    clear h
    rcases setPl_get h0 with ⟨a, z, h1, h2⟩ | h
    · exact .inl ⟨a, z, .tail _ _ _ _ _ _ _ h1, h2⟩
    · rw [List.getElem?_set] at h
      split at h
      · rename_i e; subst e
        split at h
        · cases h; exact .inl ⟨p.2, x.1, .head _ _ _ _, rfl⟩
        · cases h
      · exact .inr h
theorem setPl_len : ∀ {l : PL} {x : PEls l} {r : List SV}, (setPl l x r).length = r.length
  | [], x, r => rfl
  | [p], x, r => by simp [setPl]
  | p :: p' :: l, x, r => by
    show (setPl (p' :: l) x.2 _).length = _
    rw [setPl_len]; simp
theorem getPl_in {H : List SObj} {n : Nat} {r : List SV} : ∀ {l : PL} {c : Bool} {x : PEls l}, getPl H n r l = some (c, x) → c = true → ∀ j a (z : a.El), InPl l x j a z → ∃ y, r[j]? = some y ∧ rdA H n a y = some (true, z)
  | [], c, x, h, hc, j, a, z, hi => by cases hi
  | [p], c, x, h, hc, j, a, z, hi => by
    simp only [getPl] at h
    split at h
    · rename_i y hy
      cases hi with
      | one => exact ⟨y, hy, by rw [h, hc]; rfl⟩
    · cases h
  | p :: p' :: l, c, x, h, hc, j, a, z, hi => by
    simp only [getPl] at h
    split at h
    · cases h
    · rename_i y hy
      split at h
      · cases h
      · rename_i a' ha
        split at h
        · cases h
        · rename_i b hb
          cases h
          rw [Bool.and_eq_true] at hc
          cases hi with
          | head => exact ⟨y, hy, by rw [ha, ← hc.1]⟩
          | tail _ _ _ _ _ _ _ hi => exact getPl_in (c := b.1) (x := b.2) hb hc.2 j a z hi
theorem setLk_get {H : List SObj} : ∀ {l : List (Nat × Lk)} {r : List SV} {j : Nat} {y : SV}, (setLk H l r)[j]? = some y → (∃ q ∈ l, q.1 = j ∧ y = lkSV H q.2) ∨ r[j]? = some y
  | [], r, j, y, h => .inr h
  | q :: l, r, j, y, h => by
    simp only [setLk] at h
    rcases setLk_get h with ⟨q', h1, h2⟩ | h
    · exact .inl ⟨q', List.mem_cons_of_mem _ h1, h2⟩
    · rw [List.getElem?_set] at h
      split at h
      · rename_i e
        split at h
        · cases h; exact .inl ⟨q, List.mem_cons_self, e, rfl⟩
        · cases h
      · exact .inr h
theorem setLk_len {H : List SObj} : ∀ {l : List (Nat × Lk)} {r : List SV}, (setLk H l r).length = r.length
  | [], r => rfl
  | q :: l, r => by simp [setLk, setLk_len]
theorem getLk_in {H : List SObj} {n : Nat} {r : List SV} : ∀ {l : List (Nat × Lk)} {c : Bool}, getLk H n r l = some c → c = true → ∀ q ∈ l, ∃ x, r[q.1]? = some x ∧ ckLk H n x q.2 = some true
  | [], c, h, hc, q, hq => by cases hq
  | p :: l, c, h, hc, q, hq => by
    simp only [getLk] at h
    split at h
    · cases h
    · rename_i x hx
      split at h
      · cases h
      · rename_i c1 h1
        split at h
        · cases h
        · rename_i d hd
          cases h
          rw [Bool.and_eq_true] at hc
          rcases List.mem_cons.1 hq with rfl | hq
          · exact ⟨x, hx, by rw [h1, hc.1]⟩
          · exact getLk_in hd hc.2 q hq
theorem getOwns_in {T : TT} {H : List SObj} {n : Nat} : ∀ {l : List (Nat × Lk)} {c : Bool}, getOwns T H n l = some c → c = true → ∀ q ∈ l, ∃ x, T.get q.1 = some x ∧ ckLk H n x q.2 = some true
  | [], c, h, hc, q, hq => by cases hq
  | p :: l, c, h, hc, q, hq => by
    simp only [getOwns] at h
    split at h
    · cases h
    · rename_i x hx
      split at h
      · cases h
      · rename_i c1 h1
        split at h
        · cases h
        · rename_i d hd
          cases h
          rw [Bool.and_eq_true] at hc
          rcases List.mem_cons.1 hq with rfl | hq
          · exact ⟨x, hx, by rw [h1, hc.1]⟩
          · exact getOwns_in hd hc.2 q hq
theorem SRep.cutTo {M M2 : Imm} {ρ : Env} {H : List SObj} {w : World} (hm : Mem M ρ H w) (hle : M.le M2) (n : Nat) {v : Value} {x : SV} (hf : x.free n = true) (h : SRep M ρ v x) : SRep M2 (ρ.cut n) v x := by
  have := h.forget (d := junk n H.length) hle (cut_leBut hm n)
  rwa [SV.forget_free x hf] at this
def LenLike (n : Nat) (H H1 : List SObj) (lk : Lk) : Prop := match lk with
  | .stat _ => True
  | .own s => s < n → ∀ o sz, H[s]? = some o → o.sz? = some sz → ∃ o1, H1[s]? = some o1 ∧ o1.sz? = some sz ∧ o1.len = o.len
theorem ckLk_sound {M M2 : Imm} {ρ : Env} {H H1 : List SObj} {w : World} {n : Nat} (hm : Mem M ρ H w) (hle : M.le M2) {x : SV} {lk : Lk} (h : ckLk H n x lk = some true) (hl : LenLike n H H1 lk) {v : Value} (hr : SRep M ρ v x) : SRep M2 (ρ.cut n) v (lkSV H1 lk) := by
  cases lk with
  | stat y =>
    simp only [ckLk] at h
    split at h
    · rename_i e
      rw [Bool.and_eq_true] at e
      have := SV.same_eq _ _ e.1
      subst this
      exact hr.cutTo hm hle n e.2
    · cases h
  | own s =>
    simp only [ckLk] at h
    split at h
    · rename_i s' sz st m
      split at h
      · cases h
      · rename_i e
        simp only [Bool.and_eq_true] at e
        have e1 := Nat.eq_of_beq_eq_true e.1
        have e2 := Nat.eq_of_beq_eq_true e.2.1
        have e3 := blt_lt e.2.2
        subst e1; subst e2
        split at h
        · cases h
        · rename_i o ho
          split at h
          · cases h
          · rename_i sz' hsz
            split at h
            · rename_i e4
              have e4 := Nat.eq_of_beq_eq_true e4
              subst e4
              have hmm : m = o.len := by simpa using h
              obtain ⟨o1, q1, q2, q3⟩ := hl e3 o sz' ho hsz
              have hx : lkSV H1 (.own s') = .sl s' sz' 0 o.len := by
                simp only [lkSV, q1, q2, q3]
              rw [hx, ← hmm]
              exact hr.cutTo hm hle n (by simp only [SV.free]; exact e.2.2)
            · cases h
    · cases h
theorem subset_mem {l m : List Nat} (h : subset l m = true) {x : Nat} (hx : x ∈ l) : x ∈ m := by
  have := List.all_eq_true.1 h x hx
  simpa using this
theorem Cel.get_len {T : TT} {H H1 : List SObj} {n : Nat} {c : Cel} {cc : Bool} {x : c.El} {s : Nat} (h : c.get T H n = some (cc, x)) (hc : cc = true) (hs : c.id? = some s) :
    ∃ o, H[s]? = some o ∧ o.live = true ∧ (∀ sz, o.sz? = some sz → (c.obj H1 x).sz? = some sz ∧ (c.obj H1 x).len = o.len) := by
  cases c with
  | slot => cases hs
  | vec d ty row =>
    cases hs
    have h : (match H[s]? with
      | some (.tvec ty' row' l) => match Nat.beq ty' ty with
        | true => match castRows row' row l with
          | some l => some (true, l)
          | none => none
        | false => none
      | some (.vec ty' sz rows) => match Nat.beq ty' ty && Nat.beq sz row.length with
        | true => match mapO (ofRow row) rows with
          | some l => some (true, l)
          | none => none
        | false => none
      | some (.mix ty' sz rows) => match Nat.beq ty' ty && Nat.beq sz row.length with
        | true => mapC (rdRow H n row) rows
        | false => none
      | _ => none) = some (cc, x) := h
    split at h
    · rename_i ty' row' l ho
      refine ⟨_, ho, rfl, fun sz hsz => ?_⟩
      split at h
      · split at h
        · rename_i l' hl
          cases h
          obtain ⟨e, rfl⟩ := castRows_eq hl
          subst e
          exact ⟨hsz, rfl⟩
        · cases h
      · cases h
    · rename_i ty' sz' rows ho
      refine ⟨_, ho, rfl, fun sz hsz => ?_⟩
      split at h
      · rename_i e
        rw [Bool.and_eq_true] at e
        split at h
        · rename_i l hl
          cases h
          have e2 := Nat.eq_of_beq_eq_true e.2
          simp only [SObj.sz?, Option.some.injEq] at hsz
          exact ⟨by simp only [Cel.obj, SObj.sz?]; rw [← e2, hsz], (mapO_spec hl).1⟩
        · cases h
      · cases h
    · rename_i ty' sz' rows ho
      refine ⟨_, ho, rfl, fun sz hsz => ?_⟩
      split at h
      · rename_i e
        rw [Bool.and_eq_true] at e
        have e2 := Nat.eq_of_beq_eq_true e.2
        simp only [SObj.sz?, Option.some.injEq] at hsz
        refine ⟨by simp only [Cel.obj, SObj.sz?]; rw [← e2, hsz], ?_⟩
        have key : ∀ (rs : List (List SV)) (c : Bool) (l : List (Els row)), mapC (rdRow H n row) rs = some (c, l) → l.length = rs.length := by
          intro rs
          induction rs with
          | nil => intro c l h; cases h; rfl
          | cons r rs ih =>
            intro c l h
            simp only [mapC] at h
            split at h
            · cases h
            · split at h
              · cases h
              · rename_i b hb
                cases h
                simp [ih b.1 b.2 hb]
        exact key _ _ _ h
      · cases h
    · cases h
  | one d ty row =>
    cases hs
    have h : (match H[s]? with
      | some o => match rowOf1 o with
        | some (ty', sz, r) => match Nat.beq ty' ty && Nat.beq sz row.length with
          | true => rdRow H n row r
          | false => none
        | none => none
      | none => none) = some (cc, x) := h
    split at h
    · rename_i o ho
      split at h
      · rename_i ty' sz' r hr
        obtain ⟨g1, g2, g3, _⟩ := rowOf1_spec (M := fun _ => none) (ρ := fun _ => none) (w := default) (s := 0) hr
        refine ⟨o, ho, g1, fun sz hsz => ?_⟩
        split at h
        · rename_i e
          rw [Bool.and_eq_true] at e
          rw [hsz] at g2; cases g2
          have e2 := Nat.eq_of_beq_eq_true e.2
          exact ⟨by simp only [Cel.obj, SObj.sz?]; rw [← e2], by rw [g3]; rfl⟩
        · cases h
      · cases h
    · cases h
  | mix d ty sz0 dat lnk =>
    cases hs
    have h : (match H[s]? with
      | some o => match rowOf1 o with
        | some (ty', sz', r) => match Nat.beq ty' ty && Nat.beq sz' sz0 with
          | true => match getLk H n r lnk with
            | some c => match getPl H n r dat with
              | some x => some (c && x.1, x.2)
              | none => none
            | none => none
          | false => none
        | none => none
      | none => none) = some (cc, x) := h
    split at h
    · rename_i o ho
      split at h
      · rename_i ty' sz' r hr
        obtain ⟨g1, g2, g3, _⟩ := rowOf1_spec (M := fun _ => none) (ρ := fun _ => none) (w := default) (s := 0) hr
        refine ⟨o, ho, g1, fun sz hsz => ?_⟩
        split at h
        · rename_i e
          rw [Bool.and_eq_true] at e
          rw [hsz] at g2; cases g2
          have e2 := Nat.eq_of_beq_eq_true e.2
          exact ⟨by simp only [Cel.obj, SObj.sz?]; rw [← e2], by rw [g3]; rfl⟩
        · cases h
      · cases h
    · cases h
  | map d k v =>
    cases hs
    have h : (match H[s]? with
      | some (.tmap k' v' l) => match castMap k' v' k v l with
        | some l => some (true, l)
        | none => none
      | some (.map es c) => match Nat.beq c es.length && k.scalar with
        | true => entData k v H n 0 es
        | false => none
      | _ => none) = some (cc, x) := h
    split at h
    · rename_i k' v' l ho
      exact ⟨_, ho, rfl, fun sz hsz => by cases hsz⟩
    · rename_i es c ho
      exact ⟨_, ho, rfl, fun sz hsz => by cases hsz⟩
    · cases h
  | iter d =>
    cases hs
    have h : (match H[s]? with
      | some (.iter b pos) => some (true, (b, pos))
      | _ => none) = some (cc, x) := h
    split at h
    · rename_i b pos ho
      exact ⟨_, ho, rfl, fun sz hsz => by cases hsz⟩
    · cases h
  | over d pd =>
    cases hs
    have h : (match H[s]? with
      | some (.over .done pd') => match samePd pd' pd with
        | true => some (true, ())
        | false => none
      | _ => none) = some (cc, x) := h
    split at h
    · rename_i pd' ho
      exact ⟨_, ho, rfl, fun sz hsz => by cases hsz⟩
    · cases h
theorem Cel.get_obj {M : Imm} {ρ : Env} {w : World} {T : TT} {H H1 : List SObj} {n : Nat} (hm : Mem M ρ H w) {c : Cel} {cc : Bool} {x : c.El} {s : Nat} (h : c.get T H n = some (cc, x)) (hc : cc = true) (hs : c.id? = some s) (hsn : s < n)
    (hlk : ∀ q ∈ c.lnks, LenLike n H H1 q.2) : OwnAt (M.sealing ρ H n w) (ρ.cut n) w s (c.obj H1 x) := by
  have hle := Imm.seal_le M ρ H n w
  have hcut : (ρ.cut n) s = ρ s := by simp [Env.cut, hsn]
  cases c with
  | slot => cases hs
  | vec d ty row =>
    cases hs
    have h : (match H[s]? with
      | some (.tvec ty' row' l) => match Nat.beq ty' ty with
        | true => match castRows row' row l with
          | some l => some (true, l)
          | none => none
        | false => none
      | some (.vec ty' sz rows) => match Nat.beq ty' ty && Nat.beq sz row.length with
        | true => match mapO (ofRow row) rows with
          | some l => some (true, l)
          | none => none
        | false => none
      | some (.mix ty' sz rows) => match Nat.beq ty' ty && Nat.beq sz row.length with
        | true => mapC (rdRow H n row) rows
        | false => none
      | _ => none) = some (cc, x) := h
    show OwnAt _ _ w s (.tvec ty row x)
    split at h
    · rename_i ty' row' l ho
      split at h
      · rename_i e
        have e := Nat.eq_of_beq_eq_true e
        subst e
        split at h
        · rename_i l' hl
          cases h
          obtain ⟨e, rfl⟩ := castRows_eq hl
          subst e
          have h0 : OwnAt M ρ w s (.tvec ty' row' l) := hm.own s _ ho
          replace h0 : OwnAt M ρ w s (.vec ty' row'.length (rowsPV row' l)) := h0
          exact h0.vecMix.retypeM hle hcut (.self hle l)
        · cases h
      · cases h
    · rename_i ty' sz rows ho
      split at h
      · rename_i e
        rw [Bool.and_eq_true] at e
        have e1 := Nat.eq_of_beq_eq_true e.1
        have e2 := Nat.eq_of_beq_eq_true e.2
        subst e1; subst e2
        split at h
        · rename_i l hl
          cases h
          have h0 : OwnAt M ρ w s (.vec ty' row.length rows) := hm.own s _ ho
          exact h0.vecMix.retypeM hle hcut (RowsFor.of hle hl)
        · cases h
      · cases h
    · rename_i ty' sz rows ho
      split at h
      · rename_i e
        rw [Bool.and_eq_true] at e
        have e1 := Nat.eq_of_beq_eq_true e.1
        have e2 := Nat.eq_of_beq_eq_true e.2
        subst e1; subst e2
        have h0 : OwnAt M ρ w s (.mix ty' row.length rows) := hm.own s _ ho
        exact h0.retypeM hle hcut (mapC_ok (rdRow_sound n hm row) _ _ _ h hc)
      · cases h
    · cases h
  | one d ty row =>
    cases hs
    have h : (match H[s]? with
      | some o => match rowOf1 o with
        | some (ty', sz, r) => match Nat.beq ty' ty && Nat.beq sz row.length with
          | true => rdRow H n row r
          | false => none
        | none => none
      | none => none) = some (cc, x) := h
    show OwnAt _ _ w s (.vec ty row.length [rowPV row x])
    split at h
    · rename_i o ho
      split at h
      · rename_i ty' sz' r hr
        split at h
        · rename_i e
          rw [Bool.and_eq_true] at e
          have e1 := Nat.eq_of_beq_eq_true e.1
          have e2 := Nat.eq_of_beq_eq_true e.2
          subst e1; subst e2
          have h0 := (rowOf1_spec (M := M) (ρ := ρ) (w := w) (s := s) hr).2.2.2 (hm.own s _ ho)
          have := rdRow_sound n hm row r cc x h hc
          have hrf : RowsFor M ρ (M.sealing ρ H n w) row [r] [x] := ⟨rfl, fun i y hy => by
            match i, hy with
            | 0, hy => cases hy; exact ⟨r, rfl, this⟩
            | i + 1, hy => cases hy⟩
          exact OwnAt.retypeM (l := [x]) hle hcut hrf h0
        · cases h
      · cases h
    · cases h
  | mix d ty sz0 dat lnk =>
    cases hs
    have h : (match H[s]? with
      | some o => match rowOf1 o with
        | some (ty', sz', r) => match Nat.beq ty' ty && Nat.beq sz' sz0 with
          | true => match getLk H n r lnk with
            | some c => match getPl H n r dat with
              | some x => some (c && x.1, x.2)
              | none => none
            | none => none
          | false => none
        | none => none
      | none => none) = some (cc, x) := h
    show OwnAt _ _ w s (.mix ty sz0 [setLk H1 lnk (setPl dat x (List.replicate sz0 .any))])
    split at h
    · rename_i o ho
      split at h
      · rename_i ty' sz' r hr
        split at h
        · rename_i e
          rw [Bool.and_eq_true] at e
          have e1 := Nat.eq_of_beq_eq_true e.1
          have e2 := Nat.eq_of_beq_eq_true e.2
          subst e1; subst e2
          split at h
          · rename_i c1 hl1
            split at h
            · rename_i x1 hx1
              cases h
              rw [Bool.and_eq_true] at hc
              have h0 := (rowOf1_spec (M := M) (ρ := ρ) (w := w) (s := s) hr).2.2.2 (hm.own s _ ho)
              refine OwnAt.remix hcut (by rw [setLk_len, setPl_len, List.length_replicate]) (fun j y hy => ?_) h0
              rcases setLk_get hy with ⟨q, hq, rfl, rfl⟩ | hy
              · obtain ⟨x, g1, g2⟩ := getLk_in hl1 hc.1 q hq
                exact .inr ⟨x, g1, fun u hu => ckLk_sound hm hle g2 (hlk q hq) hu⟩
              · rcases setPl_get hy with ⟨a, z, hz, rfl⟩ | hy
                · obtain ⟨x, g1, g2⟩ := getPl_in (c := x1.1) (x := x1.2) hx1 hc.2 j a z hz
                  exact .inr ⟨x, g1, fun u hu => rdA_sound hm g2 rfl hu⟩
                · rw [List.getElem?_replicate] at hy
                  split at hy
                  · cases hy; exact .inl rfl
                  · cases hy
            · cases h
          · cases h
        · cases h
      · cases h
    · cases h
  | map d k v =>
    cases hs
    have h : (match H[s]? with
      | some (.tmap k' v' l) => match castMap k' v' k v l with
        | some l => some (true, l)
        | none => none
      | some (.map es c) => match Nat.beq c es.length && k.scalar with
        | true => entData k v H n 0 es
        | false => none
      | _ => none) = some (cc, x) := h
    show MapAt _ _ w s (entsFrom k v 0 x) (List.length x)
    split at h
    · rename_i k' v' l ho
      split at h
      · rename_i l' hl
        cases h
        refine castMap_own (ρ2 := ρ) hl ?_
        have h0 : OwnAt M ρ w s (.tmap k' v' l) := hm.own s _ ho
        have := h0.forget (d := junk n H.length) hle (cut_leBut hm n) hcut (fun _ _ => rfl)
        exact this
      · cases h
    · rename_i es c ho
      split at h
      · rename_i e
        rw [Bool.and_eq_true] at e
        exact MapAt.data hm hcut (hm.own s _ ho) (Nat.eq_of_beq_eq_true e.1) e.2 h hc
      · cases h
    · cases h
  | iter d =>
    cases hs
    have h : (match H[s]? with
      | some (.iter b pos) => some (true, (b, pos))
      | _ => none) = some (cc, x) := h
    split at h
    · rename_i b pos ho
      cases h
      obtain ⟨p, h1, h2⟩ := hm.own s _ ho
      exact ⟨p, hcut.trans h1, h2⟩
    · cases h
  | over d pd =>
    cases hs
    have h : (match H[s]? with
      | some (.over .done pd') => match samePd pd' pd with
        | true => some (true, ())
        | false => none
      | _ => none) = some (cc, x) := h
    split at h
    · rename_i pd' ho
      split at h
      · rename_i e
        cases h
        obtain ⟨p, r, h1, h2, h3, h4⟩ := hm.own s _ ho
        exact ⟨p, r, hcut.trans h1, h2, h3, h4.trans (samePd_eq e)⟩
      · cases h
    · cases h
inductive InCells : (l : List Cel) → CEls l → (c : Cel) → c.El → Prop where
  | one (c : Cel) (x : c.El) : InCells [c] x c x
  | head (c c' : Cel) (l : List Cel) (x : c.El × CEls (c' :: l)) : InCells (c :: c' :: l) x c x.1
  | tail (c c' : Cel) (l : List Cel) (x : c.El × CEls (c' :: l)) (d : Cel) (y : d.El) (h : InCells (c' :: l) x.2 d y) : InCells (c :: c' :: l) x d y
theorem InCells.mem : ∀ {l : List Cel} {x : CEls l} {k : Cel} {z : k.El}, InCells l x k z → k ∈ l
  | _, _, _, _, .one c x => by simp
  | _, _, _, _, .head c c' l x => by simp
  | _, _, _, _, .tail c c' l x d y hi => List.mem_cons_of_mem _ hi.mem
theorem mem_ids {l : List Cel} {x : CEls l} {k : Cel} {z : k.El} {s : Nat} (hi : InCells l x k z) (h : k.id? = some s) : s ∈ l.filterMap Cel.id? := List.mem_filterMap.2 ⟨k, hi.mem, h⟩
theorem getCells_in {T : TT} {H : List SObj} {n : Nat} : ∀ {l : List Cel} {c : Bool} {x : CEls l}, getCells T H n l = some (c, x) → c = true → ∀ (k : Cel) (y : k.El), InCells l x k y → k.get T H n = some (true, y)
  | [], c, x, h, hc, k, y, hi => by cases hi
  | [k0], c, x, h, hc, k, y, hi => by
    cases hi with
    | one => rw [← hc]; exact h
  | k0 :: k1 :: l, c, x, h, hc, k, y, hi => by
    simp only [getCells] at h
    split at h
    · cases h
    · rename_i a h1
      split at h
      · cases h
      · rename_i b h2
        cases h
        rw [Bool.and_eq_true] at hc
        cases hi with
        | head => rw [h1, ← hc.1]
        | tail _ _ _ _ _ _ hi => exact getCells_in (c := b.1) (x := b.2) h2 hc.2 k y hi
theorem Cel.put_H {H0 : List SObj} {c : Cel} {x : c.El} {T : TT} {H : List SObj} {s : Nat} {o : SObj} (h : (c.put H0 x (T, H)).2[s]? = some o) : (c.id? = some s ∧ o = c.obj H0 x) ∨ (c.id? ≠ some s ∧ H[s]? = some o) := by
  have key : ∀ (d : Nat) (ob : SObj), (H.set d ob)[s]? = some o → (some d = some s ∧ o = ob) ∨ (some d ≠ some s ∧ H[s]? = some o) := fun d ob h' => by
    clear h
    rw [List.getElem?_set] at h'
    split at h'
    · rename_i e; subst e
      split at h'
      · cases h'; exact .inl ⟨rfl, rfl⟩
      · cases h'
    · rename_i e; exact .inr ⟨by simp [e], h'⟩
  cases c with
  | slot d ty => exact .inr ⟨by simp [Cel.id?], h⟩
  | vec d ty row => exact key d _ h
  | one d ty row => exact key d _ h
  | mix d ty sz dat lnk => exact key d _ h
  | map d k v => exact key d _ h
  | iter d => exact key d _ h
  | over d pd => exact key d _ h
theorem Cel.put_T {H0 : List SObj} {c : Cel} {x : c.El} {T : TT} {H : List SObj} {t : Nat} {y : SV} (h : (c.put H0 x (T, H)).1.get t = some y) : (∃ (a : ATy) (z : a.El), HEq x z ∧ c = .slot t a ∧ y = a.sv z) ∨ T.get t = some y := by
  cases c with
  | slot d a =>
    rcases TT.get_set _ _ _ _ _ h with ⟨rfl, rfl⟩ | ⟨_, h⟩
    · exact .inl ⟨a, x, HEq.rfl, rfl, rfl⟩
    · exact .inr h
  | vec _ _ _ => exact .inr h
  | one _ _ _ => exact .inr h
  | mix _ _ _ _ _ => exact .inr h
  | map _ _ _ => exact .inr h
  | iter _ => exact .inr h
  | over _ _ => exact .inr h
theorem putCells_T {H0 : List SObj} : ∀ {l : List Cel} {x : CEls l} {T : TT} {H : List SObj} {t : Nat} {y : SV}, (putCells H0 l x (T, H)).1.get t = some y → (∃ (a : ATy) (z : a.El), InCells l x (.slot t a) z ∧ y = a.sv z) ∨ T.get t = some y
  | [], x, T, H, t, y, h => .inr h
  | [c], x, T, H, t, y, h => by
    rcases Cel.put_T h with ⟨a, z, he, rfl, rfl⟩ | h
    · cases he; exact .inl ⟨a, _, .one _ _, rfl⟩
    · exact .inr h
  | c :: c' :: l, x, T, H, t, y, h => by
    have h : (putCells H0 (c' :: l) x.2 ((c.put H0 x.1 (T, H)).1, (c.put H0 x.1 (T, H)).2)).1.get t = some y := h
    rcases putCells_T h with ⟨a, z, hi, hy⟩ | h
    · exact .inl ⟨a, z, .tail _ _ _ _ _ _ hi, hy⟩
    · obtain ⟨x1, x2⟩ := x
      rcases Cel.put_T h with ⟨a, z, he, rfl, rfl⟩ | h
      · cases he; exact .inl ⟨a, _, .head _ _ _ _, rfl⟩
      · exact .inr h
theorem putCells_H {H0 : List SObj} : ∀ {l : List Cel} {x : CEls l} {T : TT} {H : List SObj} {s : Nat} {o : SObj}, (putCells H0 l x (T, H)).2[s]? = some o →
    (∃ (c : Cel) (z : c.El), InCells l x c z ∧ c.id? = some s ∧ o = c.obj H0 z) ∨ (s ∉ l.filterMap Cel.id? ∧ H[s]? = some o)
  | [], x, T, H, s, o, h => .inr ⟨by simp, h⟩
  | [c], x, T, H, s, o, h => by
    rcases Cel.put_H h with ⟨e, ho⟩ | ⟨e, h⟩
    · exact .inl ⟨c, x, .one _ _, e, ho⟩
    · refine .inr ⟨fun hm => ?_, h⟩
      obtain ⟨d, hd, he⟩ := List.mem_filterMap.1 hm
      simp at hd; subst hd; exact e he
  | c :: c' :: l, x, T, H, s, o, h => by
    have h : (putCells H0 (c' :: l) x.2 ((c.put H0 x.1 (T, H)).1, (c.put H0 x.1 (T, H)).2)).2[s]? = some o := h
    rcases putCells_H h with ⟨d, z, hi, he, ho⟩ | ⟨hn, h⟩
    · exact .inl ⟨d, z, .tail _ _ _ _ _ _ hi, he, ho⟩
    · rcases Cel.put_H h with ⟨e, ho⟩ | ⟨e, h⟩
      · exact .inl ⟨c, x.1, .head _ _ _ _, e, ho⟩
      · refine .inr ⟨fun hm => ?_, h⟩
        obtain ⟨d, hd, he⟩ := List.mem_filterMap.1 hm
        rcases List.mem_cons.1 hd with rfl | hd
        · exact e he
        · exact hn (List.mem_filterMap.2 ⟨d, hd, he⟩)
theorem Cel.put_len {H0 : List SObj} {c : Cel} {x : c.El} {T : TT} {H : List SObj} : (c.put H0 x (T, H)).2.length = H.length := by
  cases c <;> simp [Cel.put]
theorem putCells_len {H0 : List SObj} : ∀ {l : List Cel} {x : CEls l} {T : TT} {H : List SObj}, (putCells H0 l x (T, H)).2.length = H.length
  | [], x, T, H => rfl
  | [c], x, T, H => Cel.put_len
  | c :: c' :: l, x, T, H => by
    show (putCells H0 (c' :: l) x.2 ((c.put H0 x.1 (T, H)).1, (c.put H0 x.1 (T, H)).2)).2.length = H.length
    rw [putCells_len, Cel.put_len]
theorem killAll_get : ∀ {l : List Nat} {H : List SObj} {s : Nat} {o : SObj}, (killAll l H)[s]? = some o → (s ∈ l ∧ o = .dead) ∨ (s ∉ l ∧ H[s]? = some o)
  | [], H, s, o, h => .inr ⟨by simp, h⟩
  | i :: l, H, s, o, h => by
    simp only [killAll] at h
    rcases killAll_get h with ⟨h1, h2⟩ | ⟨h1, h2⟩
    · exact .inl ⟨List.mem_cons_of_mem _ h1, h2⟩
    · rw [List.getElem?_set] at h2
      split at h2
      · rename_i e; subst e
        split at h2
        · cases h2; exact .inl ⟨List.mem_cons_self, rfl⟩
        · cases h2
      · rename_i e; exact .inr ⟨by simp only [List.mem_cons, not_or]; exact ⟨fun h => e h.symm, h1⟩, h2⟩
theorem killAll_len : ∀ {l : List Nat} {H : List SObj}, (killAll l H).length = H.length
  | [], H => rfl
  | i :: l, H => by simp [killAll, killAll_len]
theorem drop_get : ∀ {D : List Nat} {T : TT} {t : Nat} {y : SV}, (T.drop D).get t = some y → y = .any ∨ (t ∉ D ∧ T.get t = some y)
  | [], T, t, y, h => .inr ⟨by simp, h⟩
  | d :: D, T, t, y, h => by
    simp only [TT.drop] at h
    rcases drop_get h with h | ⟨h1, h2⟩
    · exact .inl h
    · rcases TT.get_set _ _ _ _ _ h2 with ⟨_, rfl⟩ | ⟨e, h2⟩
      · exact .inl rfl
      · exact .inr ⟨by simp [h1, e], h2⟩
theorem putOwns_get {H : List SObj} : ∀ {l : List (Nat × Lk)} {T : TT} {t : Nat} {y : SV}, (putOwns H l T).get t = some y → (∃ q ∈ l, q.1 = t ∧ y = lkSV H q.2) ∨ T.get t = some y
  | [], T, t, y, h => .inr h
  | q :: l, T, t, y, h => by
    simp only [putOwns] at h
    rcases putOwns_get h with ⟨q', h1, h2⟩ | h
    · exact .inl ⟨q', List.mem_cons_of_mem _ h1, h2⟩
    · rcases TT.get_set _ _ _ _ _ h with ⟨rfl, rfl⟩ | ⟨_, h⟩
      · exact .inl ⟨q, List.mem_cons_self, rfl, rfl⟩
      · exact .inr h
theorem forgetH_get {mv : List Nat} {H : List SObj} {s : Nat} {o : SObj} (h : (forgetH mv H)[s]? = some o) : ∃ x, H[s]? = some x ∧ (o = x.forget mv ∨ (mv = [] ∧ o = x)) := by
  unfold forgetH at h
  split at h
  · exact ⟨o, h, .inr ⟨rfl, rfl⟩⟩
  · simp only [List.getElem?_map, Option.map_eq_some_iff] at h
    obtain ⟨x, hx, rfl⟩ := h
    exact ⟨x, hx, .inl rfl⟩
theorem forgetH_len {mv : List Nat} {H : List SObj} : (forgetH mv H).length = H.length := by
  unfold forgetH; split <;> simp
def Tmpl.H1 (τ : Tmpl) (ids mv : List Nat) (b : St) (x : τ.El) : List SObj := (putCells [] τ.cells x (.nil, killAll ids (forgetH mv b.H))).2
theorem Tmpl.st_H (τ : Tmpl) (D ids mv : List Nat) (b : St) (x : τ.El) : (τ.st D ids mv b x).H = (putCells (τ.H1 ids mv b x) τ.cells x ((forgetT mv b.T).drop D, killAll ids (forgetH mv b.H))).2 := by
  unfold Tmpl.st Tmpl.H1; rfl
theorem Tmpl.st_T (τ : Tmpl) (D ids mv : List Nat) (b : St) (x : τ.El) : (τ.st D ids mv b x).T = putOwns (τ.H1 ids mv b x) τ.owns (putCells (τ.H1 ids mv b x) τ.cells x ((forgetT mv b.T).drop D, killAll ids (forgetH mv b.H))).1 := by
  unfold Tmpl.st Tmpl.H1; rfl
theorem Tmpl.st_rest (τ : Tmpl) (D ids mv : List Nat) (b : St) (x : τ.El) : (τ.st D ids mv b x).n0 = b.H.length ∧ (τ.st D ids mv b x).tch = ids ∧ (τ.st D ids mv b x).fg = mv ∧ (τ.st D ids mv b x).marks = [] ∧ (τ.st D ids mv b x).er = D := by
  unfold Tmpl.st; split; split; exact ⟨rfl, rfl, rfl, rfl, rfl⟩
theorem absorb {B : Nat → Value} {nt : Nat} {τ : Tmpl} {D ids mv : List Nat} {b s' : St} {H0 : List SObj} {M0 M' : Imm} {ρ0 ρ' : Env} {a0 a' : Act} {w0 w' : World} {c : Bool} {x : τ.El}
    (hB : ∀ t, t ∉ D → a0.tmps.getD t undef = B t) (hb : BaseAt D ids mv b M0 ρ0 H0 a0 w0) (hm0 : Mem M0 ρ0 H0 w0)
    (hg : Good B nt M' ρ' s' a' w') (hf : Fr M0 ρ0 H0 w0 M' ρ' s'.H w' b.H.length s'.tch s'.fg) (hmv : subset mv ids = true) (hcov : τ.covers ids = true)
    (hr : s'.reads D ids mv b.H.length = true) (hx : τ.read b.H.length s' = some (c, x)) (hc : c = true) :
    ∃ M'' ρ'', Good B nt M'' ρ'' (τ.st D ids mv b x) a' w' ∧ Fr M0 ρ0 H0 w0 M'' ρ'' (τ.st D ids mv b x).H w' b.H.length ids mv ∧ M'' = M'.sealing ρ' s'.H b.H.length w' ∧ ρ'' = ρ'.cut b.H.length := by
  simp only [St.reads, Bool.and_eq_true] at hr
  unfold Tmpl.covers at hcov
  simp only [Bool.and_eq_true] at hcov
  obtain ⟨hcov, hcov1, hcov2⟩ := hcov
  obtain ⟨r1, r2, r3, r4, r5⟩ := hr
  have r4 : s'.marks = [] := by simpa using r4
  have r5 := Nat.le_of_ble_eq_true r5
  unfold Tmpl.read at hx
  split at hx
  · rename_i c1 howns
    split at hx
    · rename_i x0 hcells
      cases hx
      rw [Bool.and_eq_true] at hc
      obtain ⟨e1, e2, e3, e4, e5⟩ := Tmpl.st_rest τ D ids mv b x0.2
      have hL : (τ.st D ids mv b x0.2).H.length = b.H.length := by rw [Tmpl.st_H, putCells_len, killAll_len, forgetH_len]
      have hL1 : (τ.H1 ids mv b x0.2).length = b.H.length := by unfold Tmpl.H1; rw [putCells_len, killAll_len, forgetH_len]
      have hmem := getCells_in (c := x0.1) (x := x0.2) hcells hc.2
      have hle := Imm.seal_le M' ρ' s'.H b.H.length w'
      have hlen : ∀ s, s ∈ τ.cells.filterMap Cel.id? → LenLike b.H.length s'.H (τ.H1 ids mv b x0.2) (.own s) := fun s hs hsn o sz ho hsz => by
        have hs1 : s < (τ.H1 ids mv b x0.2).length := by rw [hL1]; exact hsn
        obtain ⟨o1, ho1⟩ : ∃ o1, (τ.H1 ids mv b x0.2)[s]? = some o1 := ⟨_, List.getElem?_eq_getElem hs1⟩
        refine ⟨o1, ho1, ?_⟩
        have ho1' := ho1
        unfold Tmpl.H1 at ho1'
        rcases putCells_H ho1' with ⟨k, z, hi, hk, rfl⟩ | ⟨hn, _⟩
        · obtain ⟨o2, q1, _, q3⟩ := Cel.get_len (H1 := []) (hmem k z hi) rfl hk
          rw [ho] at q1; cases q1
          exact q3 sz hsz
        · exact absurd hs hn
      have hlk : ∀ lk : Lk, lk.inn (τ.cells.filterMap Cel.id?) = true → LenLike b.H.length s'.H (τ.H1 ids mv b x0.2) lk := fun lk h => by
        cases lk with
        | stat y => trivial
        | own s => exact hlen s (by simpa [Lk.inn] using h)
      have hobj : ∀ s o, (τ.st D ids mv b x0.2).H[s]? = some o → s < b.H.length ∧ ((∃ (k : Cel) (z : k.El), InCells τ.cells x0.2 k z ∧ k.id? = some s ∧ o = k.obj (τ.H1 ids mv b x0.2) z) ∨ o = .dead ∨ (s ∉ ids ∧ ∃ o0, b.H[s]? = some o0 ∧ (o = o0.forget mv ∨ (mv = [] ∧ o = o0)))) := fun s o ho => by
        have hs : s < b.H.length := by rw [← hL]; exact (List.getElem?_eq_some_iff.1 ho).1
        refine ⟨hs, ?_⟩
        rw [Tmpl.st_H] at ho
        rcases putCells_H ho with ⟨k, z, hi, hk, e⟩ | ⟨_, ho⟩
        · exact .inl ⟨k, z, hi, hk, e⟩
        · rcases killAll_get ho with ⟨_, e⟩ | ⟨hn, ho⟩
          · exact .inr (.inl e)
          · exact .inr (.inr ⟨hn, forgetH_get ho⟩)
      have hcut : ∀ s, s < b.H.length → ρ'.cut b.H.length s = ρ' s := fun s hs => by simp [Env.cut, hs]
      have hstay : ∀ s, s < b.H.length → s ∉ mv → ρ' s = ρ0 s := fun s hs hn => hf.stay s hs fun h => hn (subset_mem r3 h)
      have hbut : Env.leBut mv ρ0 (ρ'.cut b.H.length) := fun s p hs hp => by
        have hn : s ∉ mv := by simpa using hs
        rcases Nat.lt_or_ge s b.H.length with h | h
        · rw [hcut s h, hstay s h hn]; exact hp
        · rw [hm0.fresh s (by rw [hb.len]; exact h)] at hp; cases hp
      have hsame : ∀ s o0, s ∉ ids → b.H[s]? = some o0 → o0.live = true → ∀ p, ρ0 s = some p → w'.heap[p.block]? = w0.heap[p.block]? := fun s o0 hn ho hl p hp => by
        obtain ⟨o', h1, h2⟩ := (hb.objs s o0 hn ho).2 hl
        exact ((hf.keep s o' ((List.getElem?_eq_some_iff.1 ho).1) (fun h => hn (subset_mem r2 h)) h1 h2).2 p hp).2
      have himm : M0.le (M'.sealing ρ' s'.H b.H.length w') := Imm.le_trans hf.imm hle
      have hlive : ∀ (s : Nat) (o : SObj), (τ.st D ids mv b x0.2).H[s]? = some o → o.live = true → ∃ o' : SObj, s'.H[s]? = some o' ∧ o'.live = true := fun s o ho hl => by
        obtain ⟨hs, ⟨k, z, h1, h2, rfl⟩ | rfl | ⟨hn, o0, h1, h2⟩⟩ := hobj s o ho
        · obtain ⟨o', g1, g2, _⟩ := Cel.get_len (H1 := []) (hmem k z h1) rfl h2
          exact ⟨o', g1, g2⟩
        · cases hl
        · have hl0 : o0.live = true := by
            rcases h2 with rfl | ⟨_, rfl⟩
            · rwa [forget_live] at hl
            · exact hl
          obtain ⟨o', g1, g2⟩ := (hb.objs s o0 hn h1).2 hl0
          exact (hf.keep s o' hs (fun h => hn (subset_mem r2 h)) g1 g2).1
      have hmem'' : Mem (M'.sealing ρ' s'.H b.H.length w') (ρ'.cut b.H.length) (τ.st D ids mv b x0.2).H w' := by
        refine ⟨fun bb o hbb => ?_, fun s o ho => ?_, fun s o p ho hl hp => ?_, fun s s1 o o1 p p1 ho ho1 hl hl1 hp hp1 hbk => ?_, fun s hs => ?_⟩
        · cases e : M' bb with
          | some o' => rw [hle bb o' e] at hbb; cases hbb; exact hg.mem.imm bb _ e
          | none => exact (Imm.seal_new e hbb).2
        · obtain ⟨hs, ⟨k, z, h1, h2, rfl⟩ | rfl | ⟨hn, o0, h1, h2⟩⟩ := hobj s o ho
          · refine Cel.get_obj hg.mem (hmem k z h1) rfl h2 hs fun q hq => hlk q.2 ?_
            have := List.all_eq_true.1 hcov1 k h1.mem
            exact List.all_eq_true.1 this q hq
          · trivial
          · have h0 := (hb.objs s o0 hn h1).1
            have hnm : s ∉ mv := fun h => hn (subset_mem hmv h)
            by_cases hl : o0.live = true
            · have h3 := h0.forget (d := mv) himm hbut ((hcut s hs).trans (hstay s hs hnm)) (fun p hp => hsame s o0 hn h1 hl p hp)
              rw [SObj.forget_twice] at h3
              rcases h2 with rfl | ⟨rfl, rfl⟩
              · exact h3
              · rwa [SObj.forget_nil] at h3
            · have e0 := live_some hl
              subst e0
              rcases h2 with rfl | ⟨_, rfl⟩ <;> trivial
        · obtain ⟨o', h1, h2⟩ := hlive s o ho hl
          have hs := (hobj s o ho).1
          rw [hcut s hs] at hp
          cases e : M'.sealing ρ' s'.H b.H.length w' p.block with
          | none => rfl
          | some ob =>
            obtain ⟨⟨s2, o2, p2, q1, q2, q3, q4, q5⟩, _⟩ := Imm.seal_new (hg.mem.sep s o' p h1 h2 hp) e
            have hl2 : o2.live = true := by cases o2 <;> simp_all [SObj.rowsy, SObj.live]
            have := hg.mem.dis s s2 o' o2 p p2 h1 q2 h2 hl2 hp q4 q5.symm
            omega
        · obtain ⟨o', h1, h2⟩ := hlive s o ho hl
          obtain ⟨o1', k1, k2⟩ := hlive s1 o1 ho1 hl1
          rw [hcut s (hobj s o ho).1] at hp
          rw [hcut s1 (hobj s1 o1 ho1).1] at hp1
          exact hg.mem.dis s s1 o' o1' p p1 h1 k1 h2 k2 hp hp1 hbk
        · rw [hL] at hs
          simp [Env.cut, Nat.not_lt.2 hs]
      refine ⟨M'.sealing ρ' s'.H b.H.length w', ρ'.cut b.H.length, ⟨fun t y hy => ?_, hg.sz, hmem'', ?_, fun m hm => ?_, by rw [e1, hL]; exact Nat.le_refl _, fun t ht => ?_⟩, ?_, rfl, rfl⟩
      · rw [Tmpl.st_T] at hy
        rcases putOwns_get hy with ⟨q, hq, rfl, rfl⟩ | hy
        · obtain ⟨x, g1, g2⟩ := getOwns_in howns hc.1 q hq
          exact ckLk_sound hg.mem hle g2 (hlk q.2 (List.all_eq_true.1 hcov q hq)) (hg.tm q.1 x g1)
        · rcases putCells_T hy with ⟨a, z, hi, rfl⟩ | hy
          · have hz := hmem _ _ hi
            have hz : (match s'.T.get t with
              | some x => rdA s'.H b.H.length a x
              | none => none) = some (true, z) := hz
            split at hz
            · rename_i x hx
              exact rdA_sound hg.mem hz rfl (hg.tm t x hx)
            · cases hz
          · rcases drop_get hy with rfl | ⟨hn, hy⟩
            · exact .any _
            · obtain ⟨y0, hy0, hyy⟩ := lookup_forgetT hy
              have hsl := hb.slots t y0 hn hy0
              have ht' : a'.tmps.getD t undef = a0.tmps.getD t undef := by
                rw [hg.fix t fun h => hn (subset_mem r1 h), hB t hn]
              rw [ht']
              have h3 := hsl.forget (d := mv) himm hbut
              rw [SV.forget_twice] at h3
              rcases hyy with rfl | ⟨rfl, rfl⟩
              · exact h3
              · rwa [SV.forget_nil] at h3
      · rw [e4]
        have := hg.df
        rw [r4] at this
        exact ⟨this.1, fun i d s _ h => by simp at h⟩
      · rw [e4] at hm; cases hm
      · rw [e5] at ht
        exact hg.fix t fun h => ht (subset_mem r1 h)
      · refine ⟨himm, fun bb o h0 h1 => ?_, fun bb hbb => ?_, hf.same, hf.grow, fun s o hs hx ho hl => ?_, fun s hs hx => ?_, hf.io⟩
        · cases e : M' bb with
          | some o' => exact hf.new bb o' h0 e
          | none =>
            obtain ⟨⟨s2, o2, p2, q1, q2, q3, q4, q5⟩, _⟩ := Imm.seal_new e h1
            exact hf.own bb ⟨s2, o2, p2, q2, by cases o2 <;> simp_all [SObj.rowsy, SObj.live], q4, q5⟩
        · obtain ⟨s, o, p, h1, h2, h3, h4⟩ := hbb
          obtain ⟨o', k1, k2⟩ := hlive s o h1 h2
          rw [hcut s (hobj s o h1).1] at h3
          exact hf.own bb ⟨s, o', p, k1, k2, h3, h4⟩
        · have hs2 : s < (τ.st D ids mv b x0.2).H.length := by rw [hL]; exact hs
          have hns : s ∉ s'.tch := fun h => hx (subset_mem r2 h)
          obtain ⟨_, k3⟩ := hf.keep s o hs hns ho hl
          refine ⟨?_, fun p hp => ?_⟩
          · obtain ⟨o0, g1, g2⟩ := hb.back s o hx ho hl
            have hns2 : s ∉ τ.cells.filterMap Cel.id? := fun h => hx (subset_mem hcov2 h)
            obtain ⟨on, hst⟩ : ∃ on, (τ.st D ids mv b x0.2).H[s]? = some on := ⟨_, List.getElem?_eq_getElem hs2⟩
            refine ⟨on, hst, ?_⟩
            have hst2 := hst
            rw [Tmpl.st_H] at hst2
            rcases putCells_H hst2 with ⟨k', z', hi, hk, _⟩ | ⟨_, hh⟩
            · exact absurd (mem_ids hi hk) hns2
            · rcases killAll_get hh with ⟨h1, _⟩ | ⟨_, h2⟩
              · exact absurd h1 hx
              · obtain ⟨o2, n1, n2⟩ := forgetH_get h2
                rw [g1] at n1; cases n1
                rcases n2 with e | ⟨_, e⟩
                · rw [e, live_forget]; exact g2
                · rw [e]; exact g2
          · obtain ⟨k4, k5⟩ := k3 p hp
            exact ⟨by rw [hcut s hs]; exact k4, k5⟩
        · rw [hcut s hs]; exact hstay s hs hx
    · cases hx
  · cases hx
end Go.Sx
end
section
set_option linter.unusedVariables false
set_option linter.unusedSimpArgs false
set_option linter.unnecessarySimpa false
namespace Go.Sx
open Go
def gd {X : Type} : Bool → Option X → Option X
  | true, x => x
  | false, _ => none
theorem gd_some {X : Type} {c : Bool} {x : Option X} {y : X} (h : gd c x = some y) : c = true ∧ x = some y := by
  cases c with
  | true => exact ⟨rfl, h⟩
  | false => cases h
def both {X : Type} (eq : X → X → Bool) (x y : Option X) : Option X := match x with
  | none => none
  | some a => match y with
    | none => none
    | some b => match eq a b with
      | true => some a
      | false => none
theorem both_some {X : Type} {eq : X → X → Bool} (he : EqOk eq) {x y : Option X} {v : X} (h : both eq x y = some v) : x = some v ∧ y = some v := by
  unfold both at h
  split at h
  · cases h
  · split at h
    · cases h
    · split at h
      · rename_i e; cases h; rw [he _ _ e]; exact ⟨rfl, rfl⟩
      · cases h
abbrev KO (X : Type) := SV → List SObj → List Nat → List Nat → Option X
abbrev KX (X : Type) := Exit → St → Option X
section
variable {X : Type}
def Res.runO (kok : SV → Option X) (k : KO X) : Res → Option X
  | .fail => none
  | .ok x => kok x
  | .eff x H' t g => k x H' t g
  | .need c r => match c with
    | true => r.runO kok k
    | false => none
  | .split c a b => match c with
    | true => a.runO kok k
    | false => b.runO kok k
theorem Res.runO_holds {H : List SObj} {kok : SV → Option X} {k : KO X} {K : Post} {y : X} (h1 : ∀ x, kok x = some y → K x H [] []) (h2 : ∀ x H' t g, k x H' t g = some y → K x H' t g) : ∀ {r : Res}, r.runO kok k = some y → r.holds H K
  | .fail, h => by simp [Res.runO] at h
  | .ok x, h => h1 x h
  | .eff x H' t g, h => h2 x H' t g h
  | .need c r, h => by
    simp only [Res.runO] at h
    cases c with
    | true => exact ⟨rfl, Res.runO_holds h1 h2 h⟩
    | false => cases h
  | .split c a b, h => by
    simp only [Res.runO] at h
    cases c with
    | true => exact ⟨fun _ => Res.runO_holds h1 h2 h, fun h => by cases h⟩
    | false => exact ⟨fun h => (by cases h), fun _ => Res.runO_holds h1 h2 h⟩
def guardO (ops : Array Oper) (o : Oper) (s : St) (run skip : St → Option X) : Option X :=
  match o.guard with
  | none => run s
  | some (j, want) => match guardSlot ops j with
    | none => none
    | some d => match s.T.get d with
      | some (.pv (.lit (.bool b))) => match want with
        | true => match b with
          | true => run { s with T := s.T.set d (.lit (.bool true)) }
          | false => skip { s with T := s.T.set d (.lit (.bool false)) }
        | false => match b with
          | true => skip { s with T := s.T.set d (.lit (.bool true)) }
          | false => run { s with T := s.T.set d (.lit (.bool false)) }
      | some (.pv (.lit (.tuple _))) => skip s
      | _ => none
theorem guardO_sound {ops : Array Oper} {o : Oper} {s : St} {run skip : St → Option X} {run' skip' : St → Prop} {y : X} (h : guardO ops o s run skip = some y) (hr : ∀ s, run s = some y → run' s) (hs : ∀ s, skip s = some y → skip' s) : guardV ops o s run' skip' := by
  unfold guardO at h
  unfold guardV
  split at h
  · rename_i e; simp only [e]; exact hr _ h
  · rename_i j want e
    simp only [e]
    split at h
    · cases h
    · rename_i d e2
      simp only [e2]
      split at h
      · rename_i b e3
        simp only [e3]
        cases want <;> cases b <;> simp only [Bool.not_true, Bool.not_false] at h ⊢
        · exact ⟨fun _ => hr _ h, fun h => by cases h⟩
        · exact ⟨fun h => (by cases h), fun _ => hs _ h⟩
        · exact ⟨fun h => (by cases h), fun _ => hs _ h⟩
        · exact ⟨fun _ => hr _ h, fun h => by cases h⟩
      · rename_i e3; simp only [e3]; exact hs _ h
      · cases h
abbrev CallO (X : Type) := Bool → Nat → List SV → List SObj → KO X → Option X
structure CallO.Ok (cx : Cx) (cb : CallO X) : Prop where
  ok : ∀ g args H k y, cb false g args H k = some y → (∃ fn, cx.fns.lookup g = some fn) ∧ SCall cx.P g args H fun x H' t f => k x H' t f = some y
  rd : ∀ s args H k y, cb true s args H k = some y → SRound cx.P s args H fun x H' t f => k x H' t f = some y
def opO (cx : Cx) (cb : CallO X) (ev : Operand → SV) (H : List SObj) (o : Oper) (kok : SV → Option X) (k : KO X) : Option X :=
  match isCall o.op with
  | some c => match targetY ev c with
    | some (s, args) => cb true s args H k
    | none => match target ev c with
      | none => none
      | some (g, args) => cb false g args H k
  | none => (sop cx.P cx.tab H ev o).runO kok k
theorem opO_sound {cx : Cx} {cb : CallO X} (hcb : cb.Ok cx) {ev : Operand → SV} {H : List SObj} {o : Oper} {kok : SV → Option X} {k : KO X} {K : Post} {y : X} (h1 : ∀ x, kok x = some y → K x H [] []) (h2 : ∀ x H' t g, k x H' t g = some y → K x H' t g)
    (h : opO cx cb ev H o kok k = some y) : opP cx ev H o K := by
  unfold opO at h
  unfold opP
  cases hc : isCall o.op with
  | none => simp only [hc] at h ⊢; exact Res.runO_holds h1 h2 h
  | some c =>
    simp only [hc] at h ⊢
    cases hy : targetY ev c with
    | some q =>
      obtain ⟨s, args⟩ := q
      simp only [hy] at h ⊢
      exact (hcb.rd s args H k y h).mono h2
    | none =>
      simp only [hy] at h ⊢
      cases ht : target ev c with
      | none => simp only [ht] at h; cases h
      | some q =>
        obtain ⟨g, args⟩ := q
        simp only [ht] at h ⊢
        obtain ⟨⟨fn, hf⟩, h3⟩ := hcb.ok g args H k y h
        simp only [hf]; exact h3.mono h2
def vopsO (cx : Cx) (cb : CallO X) (nt : Nat) (ops : Array Oper) : List Oper → St → (St → Option X) → Option X
  | [], s, k => k s
  | o :: rest, s, k => guardO ops o s
      (fun s' => gd (noDefer o.op && dstOk nt o.dst) (opO cx cb s'.ev s'.H o (fun x => vopsO cx cb nt ops rest (s'.put o.dst x) k) fun x H t f => gd (stepOk s' nt o.dst H f) (vopsO cx cb nt ops rest (s'.step o.dst x H t f) k)))
      (fun s' => gd (dstOk nt o.dst) (vopsO cx cb nt ops rest (s'.put o.dst (.lit undef)) k))
theorem vopsO_sound {cx : Cx} {cb : CallO X} (hcb : cb.Ok cx) {nt : Nat} {ops : Array Oper} {y : X} : ∀ (l : List Oper) (s : St) (k : St → Option X), vopsO cx cb nt ops l s k = some y → vops cx nt ops l s fun s' => k s' = some y
  | [], s, k, h => h
  | o :: rest, s, k, h => by
    unfold vopsO at h
    unfold vops
    refine guardO_sound h (fun s' h => ?_) (fun s' h => ?_)
    · obtain ⟨h0, h⟩ := gd_some h
      rw [Bool.and_eq_true] at h0
      refine ⟨h0.1, opO_sound hcb (fun x hx => .inl ⟨h0.2, rfl, rfl, rfl, vopsO_sound hcb rest _ k hx⟩) (fun x H t f h => ?_) h⟩
      obtain ⟨h1, h⟩ := gd_some h
      exact .inr ⟨h1, vopsO_sound hcb rest _ k h⟩
    · obtain ⟨h0, h⟩ := gd_some h
      exact ⟨h0, vopsO_sound hcb rest _ k h⟩
def isStop : Plan → Bool
  | .stop => true
  | _ => false
def runPlanO (eq : X → X → Bool) (cx : Cx) (cb : CallO X) (nt : Nat) (ops : Array Oper) : Plan → List (Nat × List Nat) → St → (St → Option X) → Option X
  | .done, pend, s, k => k s
  | .bad, pend, s, k => none
  | .stop, pend, s, k => none
  | .take i o p, pend, s, k => gd (dstOk nt o.dst) (guardO ops o s
      (fun s' => gd ((loadSid s'.ev o).all (liveAt s'.H) && hdyn (loadSid s'.ev o) s'.ev o)
        ((sop cx.P cx.tab s'.H s'.ev o).runO (fun x => runPlanO eq cx cb nt ops p (addPend i (loadSid s'.ev o) pend) (s'.put o.dst x) k) fun x _ _ _ => runPlanO eq cx cb nt ops p (addPend i (loadSid s'.ev o) pend) (s'.put o.dst x) k))
      (fun s' => runPlanO eq cx cb nt ops p pend (s'.put o.dst (.lit undef)) k))
  | .alt o p rest, pend, s, k =>
    match isStop rest with
    | true => guardO ops o s
      (fun s' => gd (noDefer o.op && dstOk nt o.dst) (opO cx cb s'.ev s'.H o (fun x => runPlanO eq cx cb nt ops p (pendAfter o pend) (s'.put o.dst x) k) fun x H t f => gd (stepOk s' nt o.dst H f && keeps o pend t f) (runPlanO eq cx cb nt ops p (pendAfter o pend) (s'.step o.dst x H t f) k)))
      (fun s' => gd (dstOk nt o.dst) (runPlanO eq cx cb nt ops p (pendAfter o pend) (s'.put o.dst (.lit undef)) k))
    | false => both eq (guardO ops o s
      (fun s' => gd (noDefer o.op && dstOk nt o.dst) (opO cx cb s'.ev s'.H o (fun x => runPlanO eq cx cb nt ops p (pendAfter o pend) (s'.put o.dst x) k) fun x H t f => gd (stepOk s' nt o.dst H f && keeps o pend t f) (runPlanO eq cx cb nt ops p (pendAfter o pend) (s'.step o.dst x H t f) k)))
      (fun s' => gd (dstOk nt o.dst) (runPlanO eq cx cb nt ops p (pendAfter o pend) (s'.put o.dst (.lit undef)) k))) (runPlanO eq cx cb nt ops rest pend s k)
theorem runPlanO_sound {eq : X → X → Bool} (he : EqOk eq) {cx : Cx} {cb : CallO X} (hcb : cb.Ok cx) {nt : Nat} {hl : Bool} {ops : Array Oper} {k : St → Option X} {y : X} :
    ∀ (fuel : Nat) (listed : Array Bool) (R : List (Nat × List Nat)) (s : St), runPlanO eq cx cb nt ops (planOf hl ops fuel listed) R s k = some y → anyV cx nt hl ops fuel listed R s fun s' => k s' = some y
  | 0, listed, R, s, h => by
    unfold planOf at h
    unfold anyV
    split at h
    · rename_i e; exact ⟨e, h⟩
    · cases h
  | n + 1, listed, R, s, h => by
    unfold planOf at h
    unfold anyV
    cases hp : pickH hl ops listed with
    | some i =>
      simp only [hp] at h ⊢
      cases ho : ops[i]? with
      | none => simp only [ho] at h; cases h
      | some o =>
        simp only [ho, runPlanO] at h ⊢
        obtain ⟨h0, h⟩ := gd_some h
        refine ⟨h0, guardO_sound h (fun s' h => ?_) (fun s' h => runPlanO_sound he hcb n _ R _ h)⟩
        obtain ⟨h1, h⟩ := gd_some h
        exact ⟨h1, Res.runO_holds (fun x h => runPlanO_sound he hcb n _ _ _ h) (fun x _ _ _ h => runPlanO_sound he hcb n _ _ _ h) h⟩
    | none =>
      simp only [hp] at h ⊢
      cases hr : Region.ready .any ops listed with
      | nil => simp only [hr] at h; exact h
      | cons r rs =>
        simp only [hr] at h
        have one : ∀ (i : Nat) (o : Oper), guardO ops o s
            (fun s' => gd (noDefer o.op && dstOk nt o.dst) (opO cx cb s'.ev s'.H o (fun x => runPlanO eq cx cb nt ops (planOf hl ops n (listed.setIfInBounds i true)) (pendAfter o R) (s'.put o.dst x) k) fun x H t f => gd (stepOk s' nt o.dst H f && keeps o R t f) (runPlanO eq cx cb nt ops (planOf hl ops n (listed.setIfInBounds i true)) (pendAfter o R) (s'.step o.dst x H t f) k)))
            (fun s' => gd (dstOk nt o.dst) (runPlanO eq cx cb nt ops (planOf hl ops n (listed.setIfInBounds i true)) (pendAfter o R) (s'.put o.dst (.lit undef)) k)) = some y →
            guardV ops o s
              (fun s' => noDefer o.op = true ∧ opP cx s'.ev s'.H o fun x H tch fg => (keeps o R tch fg = true ∧ s'.adv nt o.dst (fun s'' => anyV cx nt hl ops n (listed.setIfInBounds i true) (pendAfter o R) s'' fun s' => k s' = some y) x H tch fg))
              (fun s' => dstOk nt o.dst = true ∧ anyV cx nt hl ops n (listed.setIfInBounds i true) (pendAfter o R) (s'.put o.dst (.lit undef)) fun s' => k s' = some y) := by
          intro i o h
          refine guardO_sound h (fun s' h => ?_) (fun s' h => ?_)
          · obtain ⟨h0, h⟩ := gd_some h
            rw [Bool.and_eq_true] at h0
            refine ⟨h0.1, opO_sound hcb (fun x hx => ⟨keeps_nil o R, .inl ⟨h0.2, rfl, rfl, rfl, runPlanO_sound he hcb n _ _ _ hx⟩⟩) (fun x H t f h => ?_) h⟩
            obtain ⟨h1, h⟩ := gd_some h
            rw [Bool.and_eq_true] at h1
            exact ⟨h1.2, .inr ⟨h1.1, runPlanO_sound he hcb n _ _ _ h⟩⟩
          · obtain ⟨h0, h⟩ := gd_some h
            exact ⟨h0, runPlanO_sound he hcb n _ _ _ h⟩
        have all : ∀ (l : List Nat), l ≠ [] → runPlanO eq cx cb nt ops (planAlts ops (fun i => planOf hl ops n (listed.setIfInBounds i true)) l) R s k = some y → ∀ i ∈ l, match ops[i]? with
          | none => False
          | some o => guardV ops o s
              (fun s' => noDefer o.op = true ∧ opP cx s'.ev s'.H o fun x H tch fg => (keeps o R tch fg = true ∧ s'.adv nt o.dst (fun s'' => anyV cx nt hl ops n (listed.setIfInBounds i true) (pendAfter o R) s'' fun s' => k s' = some y) x H tch fg))
              (fun s' => dstOk nt o.dst = true ∧ anyV cx nt hl ops n (listed.setIfInBounds i true) (pendAfter o R) (s'.put o.dst (.lit undef)) fun s' => k s' = some y) := by
          intro l
          induction l with
          | nil => intro h; exact absurd rfl h
          | cons j l ih =>
            intro _ h i hi
            unfold planAlts at h
            cases ho : ops[j]? with
            | none => simp only [ho] at h; cases h
            | some o =>
              simp only [ho, runPlanO] at h
              cases l with
              | nil =>
                simp only [planAlts, isStop] at h
                rcases List.mem_cons.1 hi with rfl | hi
                · simp only [ho]; exact one i o h
                · cases hi
              | cons j2 l2 =>
                have hst : isStop (planAlts ops (fun i => planOf hl ops n (listed.setIfInBounds i true)) (j2 :: l2)) = false := by
                  unfold planAlts
                  cases ops[j2]? <;> rfl
                simp only [hst] at h
                obtain ⟨h1, h2⟩ := both_some he h
                rcases List.mem_cons.1 hi with rfl | hi
                · simp only [ho]; exact one i o h1
                · exact ih (by simp) h2 i hi
        exact all _ (by simp) h
end
end Go.Sx
end
section
set_option linter.unusedVariables false
set_option linter.unusedSimpArgs false
set_option linter.unnecessarySimpa false
namespace Go.Sx
open Go
def natEq (a b : Nat) : Bool := decide (a = b)
theorem natEq_ok : EqOk natEq := fun a b h => of_decide_eq_true h
def PEls.eqv : (l : PL) → PEls l → PEls l → Bool
  | [] => unitEq
  | [p] => p.2.eqv
  | p :: p' :: l => pairEq p.2.eqv (PEls.eqv (p' :: l))
theorem PEls.eqv_ok : ∀ (l : PL), EqOk (PEls.eqv l)
  | [] => fun a b h => rfl
  | [p] => ATy.eqv_ok p.2
  | p :: p' :: l => pairEq_ok (ATy.eqv_ok p.2) (PEls.eqv_ok (p' :: l))
def Cel.eqv : (c : Cel) → c.El → c.El → Bool
  | .slot _ a => a.eqv
  | .vec _ _ row => listEq (Els.eqv row)
  | .one _ _ row => Els.eqv row
  | .mix _ _ _ dat _ => PEls.eqv dat
  | .map _ k v => listEq (pairEq k.eqv v.eqv)
  | .iter _ => pairEq strEq natEq
  | .over _ _ => unitEq
theorem Cel.eqv_ok : ∀ (c : Cel), EqOk c.eqv
  | .slot _ a => ATy.eqv_ok a
  | .vec _ _ row => listEq_ok (Els.eqv_ok row)
  | .one _ _ row => Els.eqv_ok row
  | .mix _ _ _ dat _ => PEls.eqv_ok dat
  | .map _ k v => listEq_ok (pairEq_ok (ATy.eqv_ok k) (ATy.eqv_ok v))
  | .iter _ => pairEq_ok strEq_ok natEq_ok
  | .over _ _ => fun a b h => rfl
def CEls.eqv : (l : List Cel) → CEls l → CEls l → Bool
  | [] => unitEq
  | [c] => c.eqv
  | c :: c' :: l => pairEq c.eqv (CEls.eqv (c' :: l))
theorem CEls.eqv_ok : ∀ (l : List Cel), EqOk (CEls.eqv l)
  | [] => fun a b h => rfl
  | [c] => Cel.eqv_ok c
  | c :: c' :: l => pairEq_ok (Cel.eqv_ok c) (CEls.eqv_ok (c' :: l))
abbrev Alts := List (Exit × Tmpl)
def AltsEl : Alts → Type
  | [] => Empty
  | [a] => a.2.El
  | a :: a' :: l => a.2.El ⊕ AltsEl (a' :: l)
def AltsEl.eqv : (l : Alts) → AltsEl l → AltsEl l → Bool
  | [] => fun _ _ => true
  | [a] => CEls.eqv a.2.cells
  | a :: a' :: l => sumEq (CEls.eqv a.2.cells) (AltsEl.eqv (a' :: l))
theorem AltsEl.eqv_ok : ∀ (l : Alts), EqOk (AltsEl.eqv l)
  | [] => fun a b h => by cases a
  | [a] => CEls.eqv_ok _
  | a :: a' :: l => sumEq_ok (CEls.eqv_ok _) (AltsEl.eqv_ok (a' :: l))
def sameExit : Exit → Exit → Bool
  | .normal, .normal => true
  | .ret, .ret => true
  | .exit a, .exit b => Nat.beq a b
  | _, _ => false
theorem sameExit_eq {a b : Exit} (h : sameExit a b = true) : a = b := by
  unfold sameExit at h
  split at h <;> first | rfl | (rw [Nat.eq_of_beq_eq_true h]; done) | cases h
structure Foot where
  D : List Nat
  ids : List Nat
  mv : List Nat
def Foot.of (f : Foot) (τ : Tmpl) : List Nat := τ.overs ++ f.ids
def readI (τ : Tmpl) (D ids mv : List Nat) (n : Nat) (s : St) : Option τ.El := gd (s.reads D ids mv n) (match τ.read n s with
  | some (c, x) => gd c (some x)
  | none => none)
def readT (τ : Tmpl) (f : Foot) (n : Nat) (s : St) : Option τ.El := readI τ f.D (f.of τ) f.mv n s
theorem readI_some {τ : Tmpl} {D ids mv : List Nat} {n : Nat} {s : St} {x : τ.El} (h : readI τ D ids mv n s = some x) : s.reads D ids mv n = true ∧ ∃ c, c = true ∧ τ.read n s = some (c, x) := by
  obtain ⟨h1, h2⟩ := gd_some h
  refine ⟨h1, ?_⟩
  split at h2
  · rename_i c y e
    obtain ⟨h3, h4⟩ := gd_some h2
    cases h4
    exact ⟨c, h3, e⟩
  · cases h2
theorem readT_some {τ : Tmpl} {f : Foot} {n : Nat} {s : St} {x : τ.El} (h : readT τ f n s = some x) : s.reads f.D (f.of τ) f.mv n = true ∧ ∃ c, c = true ∧ τ.read n s = some (c, x) := readI_some h
def readAlts (f : Foot) (n : Nat) : (l : Alts) → Exit → St → Option (AltsEl l)
  | [], _, _ => none
  | [a], e, s => match sameExit a.1 e with
    | true => readT a.2 f n s
    | false => none
  | a :: a' :: l, e, s => match sameExit a.1 e with
    | true => match readT a.2 f n s with
      | some x => some (.inl x)
      | none => none
    | false => match readAlts f n (a' :: l) e s with
      | some x => some (.inr x)
      | none => none
def stAlts (f : Foot) (b : St) : (l : Alts) → AltsEl l → Exit × St
  | [], x => Empty.elim x
  | [a], x => (a.1, a.2.st f.D (f.of a.2) f.mv b x)
  | a :: a' :: l, .inl x => (a.1, a.2.st f.D (f.of a.2) f.mv b x)
  | a :: a' :: l, .inr x => stAlts f b (a' :: l) x
def onAlts {A : Type} (f : Foot) (b : St) : (l : Alts) → AltsEl l → (Exit → St → A) → A
  | [], x, _ => Empty.elim x
  | [a], x, k => k a.1 (a.2.st f.D (f.of a.2) f.mv b x)
  | a :: a' :: l, x, k => match x with
    | .inl x => k a.1 (a.2.st f.D (f.of a.2) f.mv b x)
    | .inr x => onAlts f b (a' :: l) x k
theorem onAlts_eq {A : Type} {f : Foot} {b : St} : ∀ {l : Alts} (x : AltsEl l) (k : Exit → St → A), onAlts f b l x k = k (stAlts f b l x).1 (stAlts f b l x).2
  | [], x, _ => Empty.elim x
  | [a], x, k => rfl
  | a :: a' :: l, .inl x, k => rfl
  | a :: a' :: l, .inr x, k => onAlts_eq (l := a' :: l) x k
def Foot.ok (f : Foot) : Bool := subset f.mv f.ids
theorem mv_of {f : Foot} {τ : Tmpl} (h : f.ok = true) : subset f.mv (f.of τ) = true := by
  unfold Foot.ok subset at h
  unfold subset Foot.of
  rw [List.all_eq_true] at h ⊢
  intro x hx
  have := h x hx
  simp only [List.contains_iff_mem, List.mem_append] at this ⊢
  exact .inr this
def altsOk (f : Foot) (l : Alts) : Bool := l.all fun a => a.2.covers (f.of a.2)
theorem readAlts_spec {f : Foot} {n : Nat} {b : St} : ∀ {l : Alts} {e : Exit} {s : St} {x : AltsEl l}, altsOk f l = true → readAlts f n l e s = some x →
    ∃ (τ : Tmpl) (z : τ.El), τ.covers (f.of τ) = true ∧ readT τ f n s = some z ∧ stAlts f b l x = (e, τ.st f.D (f.of τ) f.mv b z)
  | [], e, s, x, hok, h => by cases h
  | [a], e, s, x, hok, h => by
    simp only [readAlts] at h
    split at h
    · rename_i he
      refine ⟨a.2, x, by simpa [altsOk] using hok, h, ?_⟩
      simp only [stAlts, sameExit_eq he]
    · cases h
  | a :: a' :: l, e, s, x, hok, h => by
    have hok' : a.2.covers (f.of a.2) = true ∧ altsOk f (a' :: l) = true := by
      simp only [altsOk, List.all_cons, Bool.and_eq_true] at hok ⊢; exact hok
    simp only [readAlts] at h
    split at h
    · rename_i he
      split at h
      · rename_i z hz
        cases h
        exact ⟨a.2, z, hok'.1, hz, by simp only [stAlts, sameExit_eq he]⟩
      · cases h
    · split at h
      · rename_i z hz
        cases h
        obtain ⟨τ, w, h1, h2, h3⟩ := readAlts_spec (b := b) hok'.2 hz
        exact ⟨τ, w, h1, h2, h3⟩
      · cases h
def St.sub (s : St) : St := { T := s.T, H := s.H, n0 := s.H.length, tch := [], fg := [], marks := [], er := [] }
def St.outer (s s1 : St) : St := { T := s1.T, H := s1.H, n0 := s.n0, tch := addTo s.n0 s1.tch s.tch, fg := addTo s.n0 s1.fg s.fg, marks := [], er := s1.er ++ s.er }
def actB (a : Act) : Nat → Value := fun t => a.tmps.getD t undef
theorem sub_good {B : Nat → Value} {nt : Nat} {M : Imm} {ρ : Env} {s : St} {a : Act} {w : World} (hg : Good B nt M ρ s a w) (hm : s.marks = []) : Good (actB a) nt M ρ s.sub a w :=
  ⟨hg.tm, hg.sz, hg.mem, (by have := hg.df; rw [hm] at this; exact this), (fun m h => by cases h), Nat.le_refl _, fun t _ => rfl⟩
theorem base_self {B : Nat → Value} {nt : Nat} {M : Imm} {ρ : Env} {s : St} {a : Act} {w : World} (hg : Good B nt M ρ s a w) (D ids mv : List Nat) : BaseAt D ids mv s M ρ s.H a w :=
  ⟨rfl, fun t y _ hy => (hg.tm t y hy).forget M.le_refl (fun _ _ _ h => h), fun i o _ ho => ⟨(hg.mem.own i o ho).forget M.le_refl (fun _ _ _ h => h) rfl (fun _ _ => rfl), fun hl => ⟨o, ho, hl⟩⟩, fun i o _ ho hl => ⟨o, ho, hl⟩⟩
theorem outer_good {B : Nat → Value} {nt : Nat} {M M' : Imm} {ρ ρ' : Env} {s s1 : St} {a a' : Act} {w w' : World} {ids mv : List Nat} (hg : Good B nt M ρ s a w) (hm : s.marks = []) (h1 : Good (actB a) nt M' ρ' s1 a' w')
    (hf : Fr M ρ s.H w M' ρ' s1.H w' s.H.length ids mv) (hn : s1.n0 = s.H.length) (ht : s1.tch = ids) (hv : s1.fg = mv) (hk : s1.marks = []) :
    Good B nt M' ρ' (s.outer s1) a' w' ∧ Goes M ρ s w M' ρ' (s.outer s1) w' := by
  refine ⟨⟨h1.tm, h1.sz, h1.mem, by have := h1.df; rw [hk] at this; exact this, fun m h => by (cases h), ?_, fun t ht => ?_⟩, ?_, rfl, fun x hx => acc_addTo hx, fun x hx => acc_addTo hx⟩
  · show s.n0 ≤ s1.H.length
    have := h1.nle; rw [hn] at this; exact Nat.le_trans hg.nle this
  · have ht' : t ∉ s1.er ∧ t ∉ s.er := by
      have : t ∉ s1.er ++ s.er := ht
      simpa using this
    rw [h1.fix t ht'.1]; exact hg.fix t ht'.2
  · exact hf.weaken hg.nle (fun x hx h => mem_addTo hx (by rw [ht]; exact h)) (fun x hx h => mem_addTo hx (by rw [hv]; exact h))
theorem WPs_join {R : Option Nat} {P : Program} {nt : Nat} {c : Code} {Q : Exit → St → Prop} {s : St} {f : Foot} {l : Alts} {x : AltsEl l} (hm : s.marks = []) (hf : f.ok = true) (hl : altsOk f l = true)
    (h : WPs R P nt c (fun e s' => readAlts f s.H.length l e s' = some x) s.sub) (hq : Q (stAlts f s l x).1 (s.outer (stAlts f s l x).2)) : WPs R P nt c Q s := by
  intro B M ρ a w hg
  refine wpIn_mono (h (actB a) M ρ a w (sub_good hg hm)) ?_
  rintro e a' w' ⟨M', ρ', s', hr, g, go⟩
  obtain ⟨τ, z, h1, h2, h3⟩ := readAlts_spec (b := s) hl hr
  obtain ⟨r1, c, hc, r2⟩ := readT_some h2
  obtain ⟨M'', ρ'', g1, g2, _⟩ := absorb (b := s) (H0 := s.H) (M0 := M) (ρ0 := ρ) (a0 := a) (w0 := w) (fun _ _ => rfl) (base_self hg _ _ _) hg.mem g go.fr (mv_of hf) h1 r1 r2 hc
  obtain ⟨e1, e2, e3, e4, e5⟩ := Tmpl.st_rest τ f.D (f.of τ) f.mv s z
  obtain ⟨k1, k2⟩ := outer_good hg hm g1 g2 e1 e2 e3 e4
  rw [h3] at hq
  exact ⟨M'', ρ'', _, hq, k1, k2⟩
def loopO {σ β : Type} (step : σ → Option (σ ⊕ β)) : Nat → σ → Option β
  | 0, _ => none
  | n + 1, x => match step x with
    | none => none
    | some (.inl y) => loopO step n y
    | some (.inr b) => some b
def roundK (f : Foot) (n : Nat) (τ : Tmpl) (l : Alts) (e : Exit) (s : St) : Option (τ.El ⊕ AltsEl l) := match e with
  | .normal => match readT τ f n s with
    | some x => some (.inl x)
    | none => none
  | e => match readAlts f n l e s with
    | some x => some (.inr x)
    | none => none
theorem WPs_loopT {R : Option Nat} {P : Program} {nt : Nat} {c : Code} {Q : Exit → St → Prop} {s : St} {f : Foot} {τ : Tmpl} {l : Alts} {F : Nat} {x0 : τ.El} {y : AltsEl l} {step : τ.El → Option (τ.El ⊕ AltsEl l)}
    (hm : s.marks = []) (hf : f.ok = true) (hl : altsOk f l = true) (hτ : τ.covers (f.of τ) = true)
    (hstep : ∀ x r, step x = some r → WPs R P nt c (fun e s' => roundK f s.H.length τ l e s' = some r) (τ.st f.D (f.of τ) f.mv s x))
    (h0 : readT τ f s.H.length s.sub = some x0) (hrun : loopO step F x0 = some y) (hne : (stAlts f s l y).1 ≠ .normal) (hq : Q (stAlts f s l y).1 (s.outer (stAlts f s l y).2)) : WPs R P nt (.loop c) Q s := by
  intro B M ρ a w hg
  have gs := sub_good hg hm
  have hbase := fun ids => base_self hg f.D ids f.mv
  let J : Nat → Act → World → Prop := fun n a' w' => ∃ M' ρ' x, loopO step n x = some y ∧ Good (actB a) nt M' ρ' (τ.st f.D (f.of τ) f.mv s x) a' w' ∧ Fr M ρ s.H w M' ρ' (τ.st f.D (f.of τ) f.mv s x).H w' s.H.length (f.of τ) f.mv
  refine wpIn_loop (fun a w => ∃ n, J n a w) (fun a w => leastOf (fun n => J n a w)) ?_ ?_
  · obtain ⟨r1, c', hc, r2⟩ := readT_some h0
    obtain ⟨M'', ρ'', g1, g2, _⟩ := absorb (b := s) (H0 := s.H) (M0 := M) (ρ0 := ρ) (a0 := a) (w0 := w) (fun _ _ => rfl) (hbase _) hg.mem gs (Fr.refl ..) (mv_of hf) hτ r1 r2 hc
    exact ⟨F, M'', ρ'', x0, hrun, g1, g2⟩
  · intro a1 w1 hI
    obtain ⟨hJ, hmin⟩ := leastOf_spec hI
    obtain ⟨M1, ρ1, x, hx, g1, f1⟩ := hJ
    generalize hn : leastOf (fun n => J n a1 w1) = n at hx hmin
    cases n with
    | zero => cases hx
    | succ n =>
      simp only [loopO] at hx
      cases hs : step x with
      | none => simp only [hs] at hx; cases hx
      | some r =>
        refine wpIn_mono (hstep x r hs (actB a) M1 ρ1 a1 w1 g1) ?_
        rintro e a2 w2 ⟨M2, ρ2, s2, hk, g2, go2⟩
        obtain ⟨e1, e2, e3, e4, e5⟩ := Tmpl.st_rest τ f.D (f.of τ) f.mv s x
        have f2 : Fr M ρ s.H w M2 ρ2 s2.H w2 s.H.length s2.tch s2.fg := by
          have hfr := go2.fr
          rw [e1] at hfr
          exact f1.trans hfr (fun z hz => go2.tch z (by rw [e2]; exact hz)) (fun z hz => hz) (fun z hz => go2.fg z (by rw [e3]; exact hz)) (fun z hz => hz)
        unfold roundK at hk
        cases e with
        | normal =>
          simp only at hk
          split at hk
          · rename_i z hz
            cases hk
            simp only [hs] at hx
            obtain ⟨r1, c', hc, r2⟩ := readT_some hz
            obtain ⟨M'', ρ'', k1, k2, _⟩ := absorb (b := s) (H0 := s.H) (M0 := M) (ρ0 := ρ) (a0 := a) (w0 := w) (fun _ _ => rfl) (hbase _) hg.mem g2 f2 (mv_of hf) hτ r1 r2 hc
            have hx' : J n a2 w2 := ⟨M'', ρ'', z, hx, k1, k2⟩
            show (∃ n, J n a2 w2) ∧ leastOf (fun n => J n a2 w2) < n + 1
            exact ⟨⟨n, hx'⟩, Nat.lt_succ_of_le ((leastOf_spec ⟨n, hx'⟩).2 n hx')⟩
          · cases hk
        | _ =>
          simp only at hk
          split at hk
          · rename_i z hz
            cases hk
            simp only [hs, Option.some.injEq] at hx
            subst hx
            obtain ⟨τ', z', h1, h2, h3⟩ := readAlts_spec (b := s) hl hz
            obtain ⟨r1, c', hc, r2⟩ := readT_some h2
            obtain ⟨M'', ρ'', k1, k2, _⟩ := absorb (b := s) (H0 := s.H) (M0 := M) (ρ0 := ρ) (a0 := a) (w0 := w) (fun _ _ => rfl) (hbase _) hg.mem g2 f2 (mv_of hf) h1 r1 r2 hc
            obtain ⟨q1, q2, q3, q4, q5⟩ := Tmpl.st_rest τ' f.D (f.of τ') f.mv s z'
            obtain ⟨m1, m2⟩ := outer_good hg hm k1 k2 q1 q2 q3 q4
            rw [h3] at hq
            exact ⟨M'', ρ'', _, hq, m1, m2⟩
          · cases hk
def virtSt (s : St) (slot ty : Nat) (row : List Ty) : St :=
  { T := s.T.set slot (.sl s.H.length row.length 0 0), H := s.H ++ [.tvec ty row []], n0 := s.n0, tch := s.tch, fg := s.fg, marks := s.marks, er := s.er }
theorem WPs_virt {R : Option Nat} {P : Program} {nt : Nat} {c : Code} {Q : Exit → St → Prop} {s : St} {slot ty : Nat} {row : List Ty} {v : Value} (hs : s.T.get slot = some (.lit v)) (hv : Value.isNil v = true)
    (h : WPs R P nt c Q (virtSt s slot ty row)) : WPs R P nt c Q s := by
  refine WPs.of_imp (fun B M ρ a w hg => ⟨ρ, ?_, ?_⟩) h
  · obtain ⟨m1, m2⟩ := hg.mem.virt (ty := ty) (sz := row.length)
    refine ⟨fun t y hy => ?_, hg.sz, ?_, hg.df, hg.mks, by show s.n0 ≤ (s.H ++ [SObj.tvec ty row []]).length; have := hg.nle; simp; omega, hg.fix⟩
    · rcases TT.get_set _ _ _ _ _ hy with ⟨rfl, rfl⟩ | ⟨_, hy⟩
      · have := (hg.tm _ _ hs).lit_eq
        rw [this]
        unfold Value.isNil at hv
        split at hv
        · simp only [Bool.and_eq_true] at hv
          rw [Nat.eq_of_beq_eq_true hv.1, Nat.eq_of_beq_eq_true hv.2]
          exact .slz _ _ _ _
        · cases hv
      · exact hg.tm t y hy
    · have := m1.described (s := s.H.length) (o := .vec ty row.length []) (o' := .tvec ty row []) (by simp) rfl (fun h => h)
      simpa [virtSt] using this
  · obtain ⟨m1, m2⟩ := hg.mem.virt (ty := ty) (sz := row.length)
    have m3 := m2.described (s := s.H.length) (o := .vec ty row.length []) (o' := .tvec ty row []) (by simp) rfl
    refine ⟨?_, rfl, fun _ h => h, fun _ h => h⟩
    have m4 := m3.weaken (n' := s.n0) (t' := s.tch) (f' := s.fg) hg.nle (fun x _ h => by cases h) (fun x _ h => by cases h)
    simpa [virtSt] using m4
end Go.Sx
end
section
set_option linter.unusedVariables false
set_option linter.unusedSimpArgs false
set_option linter.unnecessarySimpa false
namespace Go.Sx
open Go
def TT.all (p : SV → Bool) : TT → Bool
  | .nil => true
  | .node l v r => l.all p && ((match v with | some x => p x | none => true) && r.all p)
theorem TT.all_get {p : SV → Bool} : ∀ {T : TT} {t : Nat} {x : SV}, T.all p = true → T.get t = some x → p x = true
  | .nil, t, x, _, h => by simp [TT.get] at h
  | .node l v r, t, x, ha, h => by
    simp only [TT.all, Bool.and_eq_true] at ha
    simp only [TT.get] at h
    cases h0 : Nat.beq t 0 with
    | true => rw [h0] at h; simp only [cond_true] at h; subst h; exact ha.2.1
    | false =>
      rw [h0] at h
      simp only [cond_false] at h
      cases h1 : Nat.beq (t % 2) 1 with
      | true => rw [h1] at h; exact TT.all_get ha.1 h
      | false => rw [h1] at h; exact TT.all_get ha.2.2 h
mutual
def sealV (k : Nat) (row : List Ty) (l : List (Els row)) : SV → SV
  | .sl s sz st n => match Nat.beq s k with
    | true => match st with
      | 0 => .pv (.tsl row l)
      | _ + 1 => .any
    | false => .sl s sz st n
  | .agg x => .agg (sealVs k row l x)
  | .tup x => .tup (sealVs k row l x)
  | .fn f a b => .fn f (sealVs k row l a) (sealVs k row l b)
  | .ptr s sz i j => .ptr s sz i j
  | .mp s => .mp s
  | .yld s => .yld s
  | .any => .any
  | .pv p => .pv p
def sealVs (k : Nat) (row : List Ty) (l : List (Els row)) : List SV → List SV
  | [] => []
  | x :: xs => sealV k row l x :: sealVs k row l xs
end
mutual
def sealC (k : Nat) (row : List Ty) (l : List (Els row)) : SV → Bool
  | .sl s sz st n => match Nat.beq s k with
    | true => match st with
      | 0 => Nat.beq sz row.length && decide (n = l.length)
      | _ + 1 => true
    | false => true
  | .agg x => sealCs k row l x
  | .tup x => sealCs k row l x
  | .fn f a b => sealCs k row l a && sealCs k row l b
  | _ => true
def sealCs (k : Nat) (row : List Ty) (l : List (Els row)) : List SV → Bool
  | [] => true
  | x :: xs => sealC k row l x && sealCs k row l xs
end
theorem sealVs_eq (k : Nat) (row : List Ty) (l : List (Els row)) (xs : List SV) : sealVs k row l xs = xs.map (sealV k row l) := by
  induction xs with
  | nil => rfl
  | cons x xs ih => simp only [sealVs, List.map_cons, ih]
theorem sealCs_get {k : Nat} {row : List Ty} {l : List (Els row)} : ∀ {xs : List SV}, sealCs k row l xs = true → ∀ (i : Nat) (x : SV), xs[i]? = some x → sealC k row l x = true
  | [], _, i, x, h => by simp at h
  | y :: xs, hc, i, x, h => by
    simp only [sealCs, Bool.and_eq_true] at hc
    cases i with
    | zero => simp at h; subst h; exact hc.1
    | succ i => exact sealCs_get hc.2 i x (by simpa using h)
def SObj.sealO (k : Nat) (row : List Ty) (l : List (Els row)) : SObj → SObj
  | .mix ty sz rows => .mix ty sz (rows.map (·.map (sealV k row l)))
  | .map es c => .map (es.map fun e => (e.1, sealV k row l e.2.1, e.2.2)) c
  | .loop x => .loop { x with T := x.T.map (sealV k row l) }
  | o => o
def SObj.sealC (k : Nat) (row : List Ty) (l : List (Els row)) : SObj → Bool
  | .mix ty sz rows => rows.all (sealCs k row l)
  | .map es c => es.all fun e => Sx.sealC k row l e.2.1
  | .loop x => x.T.all (Sx.sealC k row l)
  | _ => true
def oneLive (H : List SObj) (k : Nat) (o : SObj) : List SObj := (H.map fun _ => SObj.dead).set k o
theorem oneLive_get {H : List SObj} {k s : Nat} {o x : SObj} (h : (oneLive H k o)[s]? = some x) : (s = k ∧ x = o) ∨ (s ≠ k ∧ x = .dead) := by
  unfold oneLive at h
  rw [List.getElem?_set] at h
  split at h
  · rename_i e; subst e
    split at h
    · cases h; exact .inl ⟨rfl, rfl⟩
    · cases h
  · rename_i e
    simp only [List.getElem?_map, Option.map_eq_some_iff] at h
    obtain ⟨_, _, rfl⟩ := h
    exact .inr ⟨fun h => e h.symm, rfl⟩
theorem Mem.oneLive {M : Imm} {ρ : Env} {H : List SObj} {w : World} (hm : Mem M ρ H w) {k : Nat} {o o1 : SObj} (hk : H[k]? = some o1) (hl : o1.live = true) (ho : OwnAt M ρ w k o) : Mem M ρ (Sx.oneLive H k o) w := by
  refine ⟨hm.imm, fun s x hx => ?_, fun s x p hx hlx hp => ?_, fun s s' x x' p p' hx hx' hlx hlx' hp hp' hb => ?_, fun s hs => hm.fresh s (by simpa [Sx.oneLive] using hs)⟩
  · rcases oneLive_get hx with ⟨rfl, rfl⟩ | ⟨_, rfl⟩
    · exact ho
    · trivial
  · rcases oneLive_get hx with ⟨rfl, rfl⟩ | ⟨_, rfl⟩
    · exact hm.sep s o1 p hk hl hp
    · cases hlx
  · rcases oneLive_get hx with ⟨rfl, rfl⟩ | ⟨_, rfl⟩
    · rcases oneLive_get hx' with ⟨rfl, rfl⟩ | ⟨_, rfl⟩
      · rfl
      · cases hlx'
    · cases hlx
theorem sealV_sound {M M' : Imm} {ρ : Env} {k : Nat} {row : List Ty} {l : List (Els row)} (hle : M.le M') (hk : ∀ v, SRep M ρ v (.sl k row.length 0 l.length) → PRep M' v (.tsl row l)) {v : Value} {x : SV} (h : SRep M ρ v x) : sealC k row l x = true → SRep M' ρ v (sealV k row l x) := by
  induction h with
  | any v => intro _; exact .any v
  | pv h => intro _; exact .pv (h.mono hle)
  | agg cs xs hl _ ih =>
    intro hc
    simp only [sealC] at hc
    simp only [sealV, sealVs_eq]
    refine .agg cs _ (by simpa using hl) fun i v x hv hx => ?_
    simp only [List.getElem?_map, Option.map_eq_some_iff] at hx
    obtain ⟨y, hy, rfl⟩ := hx
    exact ih i v y hv hy (sealCs_get hc i y hy)
  | tup cs xs hl _ ih =>
    intro hc
    simp only [sealC] at hc
    simp only [sealV, sealVs_eq]
    refine .tup cs _ (by simpa using hl) fun i v x hv hx => ?_
    simp only [List.getElem?_map, Option.map_eq_some_iff] at hx
    obtain ⟨y, hy, rfl⟩ := hx
    exact ih i v y hv hy (sealCs_get hc i y hy)
  | ptr s sz i j kk p hp hkk => intro _; exact .ptr s sz i j kk p hp hkk
  | sl s sz st n c kk p hp hkk hc hn =>
    intro hcc
    simp only [sealC] at hcc
    simp only [sealV]
    split
    · rename_i e
      have e := Nat.eq_of_beq_eq_true e
      subst e
      rw [Nat.beq_refl] at hcc
      simp only at hcc
      cases st with
      | zero =>
        simp only [Bool.and_eq_true] at hcc
        have e1 := Nat.eq_of_beq_eq_true hcc.1
        have e2 := of_decide_eq_true hcc.2
        subst e1; subst e2
        exact .pv (hk _ (.sl _ _ _ _ c kk p hp hkk hc hn))
      | succ st => exact .any _
    · exact .sl s sz st n c kk p hp hkk hc hn
  | slz s sz st a =>
    intro hcc
    simp only [sealC] at hcc
    simp only [sealV]
    split
    · rename_i e
      have e := Nat.eq_of_beq_eq_true e
      subst e
      rw [Nat.beq_refl] at hcc
      simp only at hcc
      cases st with
      | zero =>
        simp only [Bool.and_eq_true] at hcc
        have e1 := Nat.eq_of_beq_eq_true hcc.1
        have e2 := of_decide_eq_true hcc.2
        subst e1
        refine .pv (hk _ ?_)
        rw [← e2]; exact .slz _ _ _ _
      | succ st => exact .any _
    · exact .slz s sz st a
  | mp s p hp => intro _; exact .mp s p hp
  | yld s p hp => intro _; exact .yld s p hp
  | fn f a b x y ha hb _ _ ih jh =>
    intro hc
    simp only [sealC, Bool.and_eq_true] at hc
    simp only [sealV, sealVs_eq]
    refine .fn f a b _ _ (by simpa using ha) (by simpa using hb) (fun i v s hv hs => ?_) (fun i v s hv hs => ?_)
    · simp only [List.getElem?_map, Option.map_eq_some_iff] at hs
      obtain ⟨y, hy, rfl⟩ := hs
      exact ih i v y hv hy (sealCs_get hc.1 i y hy)
    · simp only [List.getElem?_map, Option.map_eq_some_iff] at hs
      obtain ⟨y, hy, rfl⟩ := hs
      exact jh i v y hv hy (sealCs_get hc.2 i y hy)
theorem OwnAt.sealO {M M' : Imm} {ρ : Env} {w : World} {k s : Nat} {row : List Ty} {l : List (Els row)} {o : SObj} (hle : M.le M') (hf : ∀ v x, SRep M ρ v x → Sx.sealC k row l x = true → SRep M' ρ v (sealV k row l x)) (hc : o.sealC k row l = true) (h : OwnAt M ρ w s o) : OwnAt M' ρ w s (o.sealO k row l) := by
  cases o with
  | mix ty sz rows =>
    simp only [SObj.sealC] at hc
    rcases h with ⟨h1, h2⟩ | ⟨p, h1, h2⟩
    · exact .inl ⟨h1, by simp [h2]⟩
    · refine .inr ⟨p, h1, ?_⟩
      obtain ⟨cs, a1, a2, a3, a4, a5, a6⟩ := h2.ex
      have key : ∀ i j x, mcell (rows.map (·.map (sealV k row l))) i j = some x → ∃ y, mcell rows i j = some y ∧ x = sealV k row l y ∧ Sx.sealC k row l y = true := fun i j x hx => by
        unfold mcell at hx
        simp only [List.getElem?_map, Option.bind_eq_some_iff, Option.map_eq_some_iff] at hx
        obtain ⟨r', ⟨r, hr, rfl⟩, hx⟩ := hx
        simp only [List.getElem?_map, Option.map_eq_some_iff] at hx
        obtain ⟨y, hy, rfl⟩ := hx
        exact ⟨y, by simp [mcell, hr, hy], rfl, sealCs_get (List.all_eq_true.1 hc r (List.mem_of_getElem? hr)) j y hy⟩
      refine ⟨cs, a1, a2, by simpa using a3, by simpa using a4, fun i j x v hx hv => ?_, fun i j x hx => ?_⟩
      · obtain ⟨y, hy, rfl, hcy⟩ := key i j x hx
        obtain ⟨b1, b2, b3⟩ := a5 i j y v hy hv
        exact ⟨by simpa using b1, b2, hf v y b3 hcy⟩
      · obtain ⟨y, hy, _⟩ := key i j x hx
        simpa using a6 i j y hy
  | map es c =>
    simp only [SObj.sealC] at hc
    obtain ⟨p, arr, h1, h2, h3, h4⟩ := h
    refine ⟨p, arr, h1, h2, by simpa using h3, fun i kk x b hi => ?_⟩
    simp only [List.getElem?_map, Option.map_eq_some_iff] at hi
    obtain ⟨e, he, hq⟩ := hi
    simp only [Prod.mk.injEq] at hq
    obtain ⟨rfl, rfl, rfl⟩ := hq
    obtain ⟨me, m1, m2, m3, m4⟩ := h4 i e.1 e.2.1 e.2.2 he
    exact ⟨me, m1, m2, m3, hf _ _ m4 (List.all_eq_true.1 hc e (List.mem_of_getElem? he))⟩
  | loop L =>
    simp only [SObj.sealC] at hc
    obtain ⟨p, fn, tmps, q, h1, h2, h3, h4⟩ := h
    refine ⟨p, fn, tmps, q, h1, h2, h3, fun t x hx => ?_⟩
    rw [TT.get_map, Option.map_eq_some_iff] at hx
    obtain ⟨y, hy, rfl⟩ := hx
    exact hf _ _ (h4 t y hy) (TT.all_get hc hy)
  | dead => exact h.mono hle ρ.le_refl rfl fun _ _ => rfl
  | vec _ _ _ => exact h.mono hle ρ.le_refl rfl fun _ _ => rfl
  | tvec _ _ _ => exact h.mono hle ρ.le_refl rfl fun _ _ => rfl
  | tmap _ _ _ => exact h.mono hle ρ.le_refl rfl fun _ _ => rfl
  | iter _ _ => exact h.mono hle ρ.le_refl rfl fun _ _ => rfl
  | over _ _ => exact h.mono hle ρ.le_refl rfl fun _ _ => rfl
  | dfr _ => exact h.mono hle ρ.le_refl rfl fun _ _ => rfl
theorem live_sealO (k : Nat) (row : List Ty) (l : List (Els row)) (o : SObj) : (o.sealO k row l).live = o.live := by cases o <;> rfl
def vecGet (k ty : Nat) (row : List Ty) (H : List SObj) : Option (Bool × List (Els row)) := (Cel.vec k ty row).get .nil H H.length
def sealSt (k ty : Nat) (row : List Ty) (s : St) : Option (Bool × St) := match vecGet k ty row s.H with
  | none => none
  | some a => some (a.1 && (s.T.all (sealC k row a.2) && s.H.all (SObj.sealC k row a.2)),
      { T := s.T.map (sealV k row a.2), H := (s.H.map (SObj.sealO k row a.2)).set k .dead, n0 := s.n0, tch := addTo s.n0 [k] s.tch, fg := s.fg, marks := s.marks, er := s.er })
theorem seal_id {M : Imm} {ρ : Env} {H : List SObj} {w : World} : M.sealing ρ H H.length w = M := by
  funext b
  unfold Imm.sealing
  cases M b with
  | some o => rfl
  | none =>
    simp only
    rw [if_neg]
    rintro ⟨s, o, p, h1, h2, _⟩
    have := (List.getElem?_eq_some_iff.1 h2).1
    omega
theorem cut_id {M : Imm} {ρ : Env} {H : List SObj} {w : World} (hm : Mem M ρ H w) : ρ.cut H.length = ρ := by
  funext s
  unfold Env.cut
  split
  · rfl
  · rename_i h; exact (hm.fresh s (by omega)).symm
theorem WPs_seal {R : Option Nat} {P : Program} {nt : Nat} {c : Code} {Q : Exit → St → Prop} {s s' : St} {k ty : Nat} {row : List Ty} {cc : Bool} (hs : sealSt k ty row s = some (cc, s')) (hc : cc = true)
    (h : WPs R P nt c Q s') : WPs R P nt c Q s := by
  unfold sealSt at hs
  split at hs
  · cases hs
  · rename_i a ha
    cases hs
    obtain ⟨c1, l⟩ := a
    simp only [Bool.and_eq_true] at hc
    obtain ⟨hc1, hc2, hc3⟩ := hc
    intro B M ρ act w hg
    have hm := hg.mem
    have ha : (Cel.vec k ty row).get .nil s.H s.H.length = some (c1, l) := ha
    obtain ⟨o, ho, hl, hlen⟩ := Cel.get_len (H1 := []) ha hc1 rfl
    have hks : k < s.H.length := (List.getElem?_eq_some_iff.1 ho).1
    have hown := Cel.get_obj (H1 := []) hm ha hc1 rfl hks (fun q hq => by cases hq)
    rw [seal_id, cut_id hm] at hown
    have hown : OwnAt M ρ w k (.tvec ty row l) := hown
    have hm1 := Mem.oneLive hm ho hl hown
    have hle := Imm.seal_le M ρ (Sx.oneLive s.H k (.tvec ty row l)) 0 w
    have hget : (Sx.oneLive s.H k (.tvec ty row l))[k]? = some (.tvec ty row l) := by simp [Sx.oneLive, hks]
    have hnew : ∀ b ob, M b = none → M.sealing ρ (Sx.oneLive s.H k (.tvec ty row l)) 0 w b = some ob → (∃ p, ρ k = some p ∧ p.block = b) ∧ w.heap[b]? = some ob := fun b ob h0 h1 => by
      obtain ⟨⟨s2, o2, p2, q1, q2, q3, q4, q5⟩, q6⟩ := Imm.seal_new h0 h1
      rcases oneLive_get q2 with ⟨rfl, rfl⟩ | ⟨_, rfl⟩
      · exact ⟨⟨p2, q4, q5⟩, q6⟩
      · cases q3
    have hslice : ∀ v, SRep M ρ v (.sl k row.length 0 l.length) → PRep (M.sealing ρ (Sx.oneLive s.H k (.tvec ty row l)) 0 w) v (.tsl row l) := fun v hr => by
      refine seal_data hm1 (Nat.zero_le _) hget rfl rfl (by simp [SObj.len]) rfl (fun i y hy => ?_) hr
      have : (SObj.tvec ty row l).row (0 + i) = (rowPV row y).map .pv := by
        simp only [SObj.row, List.getD, Nat.zero_add, hy, Option.getD_some]
      rw [this]; exact .self hle y
    have hf : ∀ v x, SRep M ρ v x → Sx.sealC k row l x = true → SRep (M.sealing ρ (Sx.oneLive s.H k (.tvec ty row l)) 0 w) ρ v (sealV k row l x) := fun v x h hc => sealV_sound hle hslice h hc
    generalize hM2 : M.sealing ρ (Sx.oneLive s.H k (.tvec ty row l)) 0 w = M2 at hle hnew hslice hf
    have hobj : ∀ t x, ((s.H.map (SObj.sealO k row l)).set k .dead)[t]? = some x → (t = k ∧ x = .dead) ∨ (t ≠ k ∧ ∃ y, s.H[t]? = some y ∧ x = y.sealO k row l) := fun t x hx => by
      rw [List.getElem?_set] at hx
      split at hx
      · rename_i e; subst e
        split at hx
        · cases hx; exact .inl ⟨rfl, rfl⟩
        · cases hx
      · rename_i e
        simp only [List.getElem?_map, Option.map_eq_some_iff] at hx
        obtain ⟨y, hy, rfl⟩ := hx
        exact .inr ⟨fun h => e h.symm, y, hy, rfl⟩
    have hmem2 : Mem M2 ρ ((s.H.map (SObj.sealO k row l)).set k .dead) w := by
      refine ⟨fun b ob hb => ?_, fun t x hx => ?_, fun t x p hx hlx hp => ?_, fun t t' x x' p p' hx hx' hlx hlx' hp hp' hbk => ?_, fun t ht => hm.fresh t (by simpa using ht)⟩
      · cases e : M b with
        | some o' => rw [hle b o' e] at hb; cases hb; exact hm.imm b _ e
        | none => exact (hnew b ob e hb).2
      · rcases hobj t x hx with ⟨rfl, rfl⟩ | ⟨_, y, hy, rfl⟩
        · trivial
        · exact (hm.own t y hy).sealO hle hf (List.all_eq_true.1 hc3 y (List.mem_of_getElem? hy))
      · rcases hobj t x hx with ⟨rfl, rfl⟩ | ⟨hne, y, hy, rfl⟩
        · cases hlx
        · rw [live_sealO] at hlx
          have h0 := hm.sep t y p hy hlx hp
          cases e : M2 p.block with
          | none => rfl
          | some ob =>
            obtain ⟨⟨p2, q1, q2⟩, _⟩ := hnew _ _ h0 e
            exact absurd (hm.dis t k y o p p2 hy ho hlx hl hp q1 q2.symm) hne
      · rcases hobj t x hx with ⟨rfl, rfl⟩ | ⟨_, y, hy, rfl⟩
        · cases hlx
        · rcases hobj t' x' hx' with ⟨rfl, rfl⟩ | ⟨_, y', hy', rfl⟩
          · cases hlx'
          · rw [live_sealO] at hlx hlx'
            exact hm.dis t t' y y' p p' hy hy' hlx hlx' hp hp' hbk
    have hgood : Good B nt M2 ρ { T := s.T.map (sealV k row l), H := (s.H.map (SObj.sealO k row l)).set k .dead, n0 := s.n0, tch := addTo s.n0 [k] s.tch, fg := s.fg, marks := s.marks, er := s.er } act w := by
      refine ⟨fun t x hx => ?_, hg.sz, hmem2, hg.df, hg.mks, by simpa using hg.nle, hg.fix⟩
      rw [TT.get_map, Option.map_eq_some_iff] at hx
      obtain ⟨y, hy, rfl⟩ := hx
      exact hf _ _ (hg.tm t y hy) (TT.all_get hc2 hy)
    have hgoes : Goes M ρ s w M2 ρ { T := s.T.map (sealV k row l), H := (s.H.map (SObj.sealO k row l)).set k .dead, n0 := s.n0, tch := addTo s.n0 [k] s.tch, fg := s.fg, marks := s.marks, er := s.er } w := by
      refine ⟨⟨hle, fun b ob h0 h1 => ?_, fun b hb => ?_, fun _ _ _ => rfl, Nat.le_refl _, fun t x ht hx hx2 hlx => ?_, fun _ _ _ => rfl, rfl, rfl⟩, rfl, fun x hx => (show x ∈ addTo s.n0 [k] s.tch from acc_addTo hx), fun _ h => h⟩
      · obtain ⟨⟨p, q1, q2⟩, _⟩ := hnew b ob h0 h1
        exact .inr ⟨k, o, p, ho, hl, q1, q2⟩
      · obtain ⟨t, x, p, h1, h2, h3, h4⟩ := hb
        rcases hobj t x h1 with ⟨rfl, rfl⟩ | ⟨_, y, hy, rfl⟩
        · cases h2
        · rw [live_sealO] at h2; exact .inr ⟨t, y, p, hy, h2, h3, h4⟩
      · have hne : t ≠ k := fun e => by
          subst e
          exact hx (mem_addTo ht List.mem_cons_self)
        refine ⟨⟨x.sealO k row l, ?_, by rw [live_sealO]; exact hlx⟩, fun p hp => ⟨hp, rfl⟩⟩
        show ((s.H.map (SObj.sealO k row l)).set k .dead)[t]? = _
        rw [List.getElem?_set, if_neg (fun h => hne h.symm), List.getElem?_map, hx2]; rfl
    exact wpIn_mono (h B M2 ρ act w hgood) fun e a' w' ⟨M', ρ', s'', q, g, kk⟩ => ⟨M', ρ', s'', q, g, hgoes.trans kk⟩
def virtFSt (s : St) (ob col ty : Nat) (row : List Ty) : Option St := match s.H[ob]? with
  | none => none
  | some o => match rowOf1 o with
    | none => none
    | some q => match Nat.beq q.2.2.length q.2.1 with
      | false => none
      | true => match q.2.2[col]? with
        | some (.pv (.lit v)) => match Value.isNil v with
          | true => some { T := s.T, H := (s.H.set ob (.mix q.1 q.2.1 [q.2.2.set col (.sl s.H.length row.length 0 0)])) ++ [.tvec ty row []], n0 := s.n0, tch := s.tch, fg := s.fg, marks := s.marks, er := s.er }
          | false => none
        | _ => none
theorem WPs_virtF {R : Option Nat} {P : Program} {nt : Nat} {c : Code} {Q : Exit → St → Prop} {s s' : St} {ob col ty : Nat} {row : List Ty} (hs : virtFSt s ob col ty row = some s')
    (h : WPs R P nt c Q s') : WPs R P nt c Q s := by
  unfold virtFSt at hs
  split at hs
  · cases hs
  · rename_i o ho
    split at hs
    · cases hs
    · rename_i q hq
      split at hs
      · cases hs
      · rename_i hl
        have hl := Nat.eq_of_beq_eq_true hl
        split at hs
        · rename_i v hv
          split at hs
          · rename_i hn
            cases hs
            obtain ⟨oty, sz, r⟩ := q
            have hlt : ob < s.H.length := (List.getElem?_eq_some_iff.1 ho).1
            refine WPs.of_imp (fun B M ρ a w hg => ⟨ρ, ?_, ?_⟩) h
            all_goals
              obtain ⟨g1, g2, g3, g4⟩ := rowOf1_spec (M := M) (ρ := ρ) (w := w) (s := ob) hq
              obtain ⟨m1, m2⟩ := hg.mem.virt (ty := ty) (sz := row.length)
              have n1 := m1.described (s := s.H.length) (o := .vec ty row.length []) (o' := .tvec ty row []) (by simp) rfl (fun h => h)
              have n2 := m2.described (s := s.H.length) (o := .vec ty row.length []) (o' := .tvec ty row []) (by simp) rfl
              have e1 : (s.H ++ [SObj.vec ty row.length []]).set s.H.length (.tvec ty row []) = s.H ++ [.tvec ty row []] := by simp
              rw [e1] at n1 n2
              have hob : (s.H ++ [SObj.tvec ty row []])[ob]? = some o := by rw [List.getElem?_append_left hlt]; exact ho
              have hown : OwnAt M ρ w ob o → OwnAt M ρ w ob (.mix oty sz [r.set col (.sl s.H.length row.length 0 0)]) := fun h0 => by
                refine OwnAt.remix rfl (by simpa using hl) (fun j y hy => ?_) (g4 h0)
                rw [List.getElem?_set] at hy
                split at hy
                · rename_i e; subst e
                  split at hy
                  · cases hy
                    refine .inr ⟨_, hv, fun u hu => ?_⟩
                    have := hu.lit_eq
                    subst this
                    unfold Value.isNil at hn
                    split at hn
                    · simp only [Bool.and_eq_true] at hn
                      rw [Nat.eq_of_beq_eq_true hn.1, Nat.eq_of_beq_eq_true hn.2]
                      exact .slz _ _ _ _
                    · cases hn
                  · cases hy
                · exact .inr ⟨y, hy, fun u hu => hu⟩
              have e2 : (s.H ++ [SObj.tvec ty row []]).set ob (.mix oty sz [r.set col (.sl s.H.length row.length 0 0)]) = (s.H.set ob (.mix oty sz [r.set col (.sl s.H.length row.length 0 0)])) ++ [.tvec ty row []] := by
                rw [List.set_append_left _ _ hlt]
            · have n3 := n1.described hob (o' := .mix oty sz [r.set col (.sl s.H.length row.length 0 0)]) g1.symm hown
              rw [e2] at n3
              refine ⟨hg.tm, hg.sz, n3, hg.df, hg.mks, ?_, hg.fix⟩
              show s.n0 ≤ ((s.H.set ob (.mix oty sz [r.set col (.sl s.H.length row.length 0 0)])) ++ [SObj.tvec ty row []]).length
              have := hg.nle; simp; omega
            · have n3 := n2.described hob (o' := .mix oty sz [r.set col (.sl s.H.length row.length 0 0)]) g1.symm
              rw [e2] at n3
              exact ⟨n3.weaken (n' := s.n0) (t' := s.tch) (f' := s.fg) hg.nle (fun x _ h => by cases h) (fun x _ h => by cases h), rfl, fun _ h => h, fun _ h => h⟩
          · cases hs
        · cases hs
def truncSt (s : St) (t : Nat) : Option St := match s.T.get t with
  | some (.sl d _ _ n) => match s.H[d]? with
    | some (.tvec ty row l) => some { T := s.T, H := s.H.set d (.tvec ty row (l.take n)), n0 := s.n0, tch := s.tch, fg := s.fg, marks := s.marks, er := s.er }
    | _ => none
  | _ => none
theorem ownAt_take {M : Imm} {ρ : Env} {w : World} {d ty : Nat} {row : List Ty} {l : List (Els row)} (n : Nat) (h : OwnAt M ρ w d (.tvec ty row l)) : OwnAt M ρ w d (.tvec ty row (l.take n)) := by
  rcases h with ⟨h1, h2⟩ | ⟨p, h1, cs, a1, a2, a3, a4, a5, a6⟩
  · left
    refine ⟨h1, ?_⟩
    have : l = [] := by simpa [rowsPV] using h2
    subst this; simp
  · right
    have hle : (rowsPV row (l.take n)).length ≤ (rowsPV row l).length := by simp; omega
    have sub : ∀ i j x, vcell (rowsPV row (l.take n)) i j = some x → i < (rowsPV row (l.take n)).length ∧ vcell (rowsPV row l) i j = some x := fun i j x hx => by
      unfold vcell at hx ⊢
      simp only [List.getElem?_map, List.getElem?_take] at hx ⊢
      split at hx
      · rename_i hi
        refine ⟨?_, hx⟩
        cases hl : l[i]? with
        | none => rw [hl] at hx; simp at hx
        | some y =>
          have := (List.getElem?_eq_some_iff.1 hl).1
          simp; omega
      · simp at hx
    refine ⟨p, h1, cs, a1, a2, Nat.le_trans (Nat.mul_le_mul_right _ hle) a3, fun i j hi hj => a4 i j (Nat.lt_of_lt_of_le hi hle) hj, fun i j x v hx hv => ?_, fun i j x hx => ?_⟩
    · obtain ⟨s1, s2⟩ := sub i j x hx
      obtain ⟨b1, b2, b3⟩ := a5 i j x v s2 hv
      exact ⟨s1, b2, b3⟩
    · obtain ⟨s1, s2⟩ := sub i j x hx
      exact ⟨s1, (a6 i j x s2).2⟩
theorem WPs_trunc {R : Option Nat} {P : Program} {nt : Nat} {c : Code} {Q : Exit → St → Prop} {s s' : St} {t : Nat} (hs : truncSt s t = some s') (h : WPs R P nt c Q s') : WPs R P nt c Q s := by
  unfold truncSt at hs
  split at hs
  · split at hs
    · rename_i ty row l hd
      cases hs
      refine WPs.of_imp (fun B M ρ a w hg => ⟨ρ, ?_, ?_⟩) h
      · exact ⟨hg.tm, hg.sz, hg.mem.described hd rfl (fun h => ownAt_take _ h), hg.df, hg.mks, by simpa using hg.nle, hg.fix⟩
      · exact ⟨(Fr.refl M ρ s.H w s.n0 s.tch s.fg).described hd rfl, rfl, fun _ h => h, fun _ h => h⟩
    · cases hs
  · cases hs
def keepT (T : TT) : List Nat → TT → TT
  | [], T' => T'
  | t :: l, T' => keepT T l (match T.get t with
    | some x => T'.set t x
    | none => T')
def weakSt (k : Nat) (keep : List Nat) (s : St) : St := { s with T := keepT s.T keep (forgetT [k] s.T), H := s.H.map (SObj.forget [k]) }
theorem keepT_get {T : TT} {P : Nat → SV → Prop} (h0 : ∀ t x, T.get t = some x → P t x) : ∀ (l : List Nat) (T' : TT), (∀ t x, T'.get t = some x → P t x) → ∀ t x, (keepT T l T').get t = some x → P t x
  | [], T', h, t, x, hx => h t x hx
  | a :: l, T', h, t, x, hx => by
    simp only [keepT] at hx
    split at hx
    · rename_i y hy
      refine keepT_get h0 l _ (fun t x hx => ?_) t x hx
      rcases TT.get_set _ _ _ _ _ hx with ⟨rfl, rfl⟩ | ⟨_, hx⟩
      · exact h0 _ _ hy
      · exact h t x hx
    · exact keepT_get h0 l _ h t x hx
theorem WPs_weak {R : Option Nat} {P : Program} {nt : Nat} {c : Code} {Q : Exit → St → Prop} {s : St} {k : Nat} {keep : List Nat} (h : WPs R P nt c Q (weakSt k keep s)) : WPs R P nt c Q s := by
  refine WPs.of_imp (fun B M ρ a w hg => ⟨ρ, ?_, ?_⟩) h
  · refine ⟨fun t x hx => ?_, hg.sz, ?_, hg.df, hg.mks, by show s.n0 ≤ (s.H.map (SObj.forget [k])).length; rw [List.length_map]; exact hg.nle, hg.fix⟩
    · refine keepT_get (T := s.T) (P := fun t x => SRep M ρ (a.tmps.getD t undef) x) hg.tm keep _ (fun t x hx => ?_) t x hx
      obtain ⟨y, hy, hyx⟩ := lookup_forgetT hx
      have := (hg.tm t y hy).forget (d := [k]) M.le_refl (ρ' := ρ) (fun _ _ _ h => h)
      rcases hyx with rfl | ⟨e, rfl⟩
      · exact this
      · cases e
    · have sub : ∀ (t : Nat) (x : SObj), (s.H.map (SObj.forget [k]))[t]? = some x → ∃ y, s.H[t]? = some y ∧ x = y.forget [k] := fun t x hx => by
        simp only [List.getElem?_map, Option.map_eq_some_iff] at hx
        obtain ⟨y, hy, rfl⟩ := hx; exact ⟨y, hy, rfl⟩
      have hm := hg.mem
      refine ⟨hm.imm, fun t x hx => ?_, fun t x p hx hl hp => ?_, fun t t' x x' p p' hx hx' hl hl' hp hp' hb => ?_, fun t ht => hm.fresh t (by simpa [weakSt] using ht)⟩
      · obtain ⟨y, hy, rfl⟩ := sub t x hx
        exact (hm.own t y hy).forget M.le_refl (fun _ _ _ h => h) rfl (fun _ _ => rfl)
      · obtain ⟨y, hy, rfl⟩ := sub t x hx
        rw [live_forget] at hl; exact hm.sep t y p hy hl hp
      · obtain ⟨y, hy, rfl⟩ := sub t x hx
        obtain ⟨y', hy', rfl⟩ := sub t' x' hx'
        rw [live_forget] at hl hl'
        exact hm.dis t t' y y' p p' hy hy' hl hl' hp hp' hb
  · refine ⟨⟨M.le_refl, fun b o h h' => (by rw [h] at h'; cases h'), fun b hb => .inr ?_, fun _ _ _ => rfl, Nat.le_refl _, fun t o _ _ ho hl => ⟨⟨o.forget [k], ?_, ?_⟩, fun p hp => ⟨hp, rfl⟩⟩, fun _ _ _ => rfl, rfl, rfl⟩, rfl, fun _ h => h, fun _ h => h⟩
    · obtain ⟨t, o, p, h1, h2, h3, h4⟩ := hb
      have h1 : (s.H.map (SObj.forget [k]))[t]? = some o := h1
      simp only [List.getElem?_map, Option.map_eq_some_iff] at h1
      obtain ⟨y, hy, rfl⟩ := h1
      exact ⟨t, y, p, hy, by rwa [live_forget] at h2, h3, h4⟩
    · simp [weakSt, ho]
    · rw [live_forget]; exact hl
end Go.Sx
end
section
set_option linter.unusedVariables false
set_option linter.unusedSimpArgs false
set_option linter.unnecessarySimpa false
namespace Go.Sx
open Go
inductive Ann where
  | leaf
  | one (a : Ann)
  | two (a b : Ann)
  | loop (τ : Tmpl) (l : Alts) (f : Foot) (F : Nat) (a : Ann)
  | join (l : Alts) (f : Foot) (a : Ann)
  | virt (slot ty : Nat) (row : List Ty) (a : Ann)
  | sealing (k ty : Nat) (row : List Ty) (a : Ann)
  | within (l : List (Nat × Ann))
  | virtF (ob col ty : Nat) (row : List Ty) (a : Ann)
  | trunc (slot : Nat) (a : Ann)
  | weak (k : Nat) (keep : List Nat) (a : Ann)
def Ann.fst : Ann → Ann
  | .one a => a
  | .two a _ => a
  | _ => .leaf
def Ann.snd : Ann → Ann
  | .two _ b => b
  | _ => .leaf
structure Sm where
  pre : List SV → List SObj → Bool
  run : (X : Type) → List SV → List SObj → KO X → Option X
structure SmOk (cx : Cx) (g : Nat) (sm : Sm) : Prop where
  fn : ∃ fn, cx.fns.lookup g = some fn
  ok : ∀ (X : Type) (args : List SV) (H : List SObj) (k : KO X) (y : X), sm.run X args H k = some y → SCall cx.P g args H fun x H' t f => k x H' t f = some y
structure Lx where
  ext : List (Nat × Sm)
  anns : List (Nat × Ann)
  still : List Nat
  unk : Option (Nat → Sm) := none
def Sm.first : List (Nat × Sm) → Nat → (X : Type) → List SV → List SObj → KO X → Option X
  | [], _, _, _, _, _ => none
  | q :: l, g, X, args, H, k => match Nat.beq q.1 g with
    | false => Sm.first l g X args H k
    | true => match q.2.pre args H with
      | true => q.2.run X args H k
      | false => Sm.first l g X args H k
def Lx.has (l : List (Nat × Sm)) (g : Nat) (args : List SV) (H : List SObj) : Bool := l.any fun q => match Nat.beq q.1 g with
  | true => q.2.pre args H
  | false => false
structure Lx.Ok (cx : Cx) (lx : Lx) : Prop where
  ext : ∀ q ∈ lx.ext, SmOk cx q.1 q.2
  unk : lx.unk = none
theorem Sm.first_ok {cx : Cx} : ∀ {l : List (Nat × Sm)} (_ : ∀ q ∈ l, SmOk cx q.1 q.2) {g : Nat} {X : Type} {args : List SV} {H : List SObj} {k : KO X} {y : X}, Sm.first l g X args H k = some y → (∃ fn, cx.fns.lookup g = some fn) ∧ SCall cx.P g args H fun x H' t f => k x H' t f = some y
  | [], _, g, X, args, H, k, y, h => by cases h
  | q :: l, hl, g, X, args, H, k, y, h => by
    simp only [Sm.first] at h
    split at h
    · exact Sm.first_ok (fun q hq => hl q (List.mem_cons_of_mem _ hq)) h
    · rename_i e
      have e := Nat.eq_of_beq_eq_true e
      subst e
      split at h
      · have := hl q List.mem_cons_self
        exact ⟨this.fn, this.ok X args H k y h⟩
      · exact Sm.first_ok (fun q hq => hl q (List.mem_cons_of_mem _ hq)) h
abbrev RecO := (X : Type) → (X → X → Bool) → Ann → Bool → Nat → Code → St → KX X → Option X
def RecOk (cx : Cx) (rec : RecO) : Prop := ∀ (X : Type) (eq : X → X → Bool) (_ : EqOk eq) R an top nt c s (k : KX X) (y : X), (top = true → R = none) → rec X eq an top nt c s k = some y → WPs R cx.P nt c (fun e s' => k e s' = some y) s
section
variable {X : Type}
def leaveO (z : Bool) (H : List SObj) (r : SV) (H' : List SObj) (t g : List Nat) (k : KO X) : Option X :=
  match g.isEmpty && (Nat.ble H.length H'.length && ((z || r.free H.length) && touchedFree H.length H' t)) with
  | true => match frzS H' H.length 1000 r with
    | some r' => k r' (restoreH t H H') t []
    | none => k r H' t g
  | false => k r H' t g
theorem leaveO_sound {z : Bool} {H : List SObj} {r : SV} {H' : List SObj} {t g : List Nat} {k : KO X} {y : X} (h : leaveO z H r H' t g k = some y) : Left H (fun x H' t f => k x H' t f = some y) r H' t g := by
  unfold leaveO at h
  split at h
  · rename_i e
    simp only [Bool.and_eq_true, List.isEmpty_iff] at e
    split at h
    · rename_i r' hr'
      exact .inl ⟨e.1, Nat.le_of_ble_eq_true e.2.1, fun s hs o ho _ => touchedFree_spec e.2.2.2 s hs o ho, r', 1000, hr', h⟩
    · exact .inr h
  · exact .inr h
def resO (cx : Cx) (s : St) : List ResultVar → (List SV → Option X) → Option X
  | [], k => k []
  | .tmp t :: rs, k => resO cx s rs fun l => k (s.ev (.tmp t) :: l)
  | .cell a t :: rs, k => (sLoad cx.tab s.H t (s.ev (.tmp a))).runO (fun x => resO cx s rs fun l => k (x :: l)) fun x _ _ _ => resO cx s rs fun l => k (x :: l)
theorem resO_sound {cx : Cx} {s : St} {y : X} : ∀ (rs : List ResultVar) (k : List SV → Option X), resO cx s rs k = some y → resP cx s rs fun l => k l = some y
  | [], k, h => h
  | .tmp t :: rs, k, h => resO_sound rs _ h
  | .cell a t :: rs, k, h => Res.runO_holds (fun x h => resO_sound rs _ h) (fun x _ _ _ h => resO_sound rs _ h) h
def isEnd : Exit → Bool
  | .normal => true
  | .ret => true
  | _ => false
theorem isEnd_eq {e : Exit} (h : isEnd e = true) : e = .normal ∨ e = .ret := by
  cases e with
  | normal => exact .inl rfl
  | ret => exact .inr rfl
  | _ => cases h
def endO (cx : Cx) (fn : Func) (z : Bool) (H : List SObj) (k : KO X) : KX X := fun e s =>
  gd (isEnd e && (s.marks.isEmpty || Nat.ble H.length s.H.length)) (match shut s.marks s.H with
    | none => none
    | some H' => resO cx { s with H := H', marks := [] } fn.results.toList fun l => leaveO z H (retV l) H' s.tch s.fg k)
theorem endO_sound {cx : Cx} {fn : Func} {z : Bool} {H : List SObj} {k : KO X} {e : Exit} {s : St} {y : X} (h : endO cx fn z H k e s = some y) :
    (e = .normal ∨ e = .ret) ∧ (H.length ≤ s.H.length ∨ s.marks = []) ∧ ∃ H', shut s.marks s.H = some H' ∧ resP cx { s with H := H', marks := [] } fn.results.toList fun l =>
      Left H (fun x H' t f => k x H' t f = some y) (retV l) H' s.tch s.fg := by
  obtain ⟨hc, h⟩ := gd_some h
  simp only [Bool.and_eq_true, Bool.or_eq_true, List.isEmpty_iff] at hc
  split at h
  · cases h
  · rename_i H' hs
    exact ⟨isEnd_eq hc.1, hc.2.symm.imp (fun h => Nat.le_of_ble_eq_true h) id, H', hs, resP_mono _ _ _ (fun l hl => leaveO_sound hl) (resO_sound _ _ h)⟩
def roundO (rec : RecO) (eq : X → X → Bool) (ab : Ann) (s : Nat) (args : List SV) (H : List SObj) (k : KO X) : Option X :=
  match H[s]? with
  | some (.loop L) => gd (Nat.beq L.params.toList.length args.length && L.params.toList.all fun p => Nat.blt p L.nt) (rec X eq .leaf false L.nt L.assign (roundSt L args H) fun e s1 => match e with
    | .normal => gd (!s1.fg.contains s && Nat.ble H.length s1.H.length) (match s1.H[s]? with
      | some (.loop L1) => gd (isReady L1.state && L1.pending.isNone) (rec X eq ab false L.nt L.body (busyS s L1 s1) fun e s2 => match jumpOf e with
        | none => none
        | some jump => gd (!s2.fg.contains s && Nat.ble H.length s2.H.length) (match s2.H[s]? with
          | some (.loop L2) => k (.lit (.bool jump.isNone)) (endedH s L2 jump s2.H) (endedT s jump s2.tch) s2.fg
          | _ => none))
      | _ => none)
    | _ => none)
  | _ => none
theorem roundO_sound {cx : Cx} {rec : RecO} (hrec : RecOk cx rec) {eq : X → X → Bool} (he : EqOk eq) {ab : Ann} {s : Nat} {args : List SV} {H : List SObj} {k : KO X} {y : X}
    (h : roundO rec eq ab s args H k = some y) : SRound cx.P s args H fun x H' t f => k x H' t f = some y := by
  unfold roundO at h
  split at h
  · rename_i L hH
    obtain ⟨hc, h⟩ := gd_some h
    rw [Bool.and_eq_true] at hc
    refine SRound_of hH (Nat.eq_of_beq_eq_true hc.1) hc.2 fun R => ?_
    refine (hrec X eq he R _ false _ _ _ _ y (fun e => by cases e) h).mono fun e s1 h1 => ?_
    cases e with
    | normal =>
      obtain ⟨hc1, h1⟩ := gd_some h1
      rw [Bool.and_eq_true] at hc1
      split at h1
      · rename_i L1 hL1
        obtain ⟨hc2, h1⟩ := gd_some h1
        rw [Bool.and_eq_true] at hc2
        refine ⟨rfl, not_contains hc1.1, Nat.le_of_ble_eq_true hc1.2, L1, hL1, isReady_eq hc2.1, Option.isNone_iff_eq_none.1 hc2.2, ?_⟩
        refine (hrec X eq he R _ false _ _ _ _ y (fun e => by cases e) h1).mono fun e s2 h2 => ?_
        cases hj : jumpOf e with
        | none => simp only [hj] at h2; cases h2
        | some jump =>
          simp only [hj] at h2
          obtain ⟨hc3, h2⟩ := gd_some h2
          rw [Bool.and_eq_true] at hc3
          split at h2
          · rename_i L2 hL2
            exact ⟨jump, rfl, not_contains hc3.1, Nat.le_of_ble_eq_true hc3.2, L2, hL2, h2⟩
          · cases h2
      · cases h1
    | _ => cases h1
  · cases h
def Lx.annOf (lx : Lx) (g n : Nat) : Option Ann := match lx.anns.lookup (g + 10000000 * (n + 1)) with
  | some a => some a
  | none => lx.anns.lookup g
def callQ (cx : Cx) (lx : Lx) (rec : RecO) (eq : X → X → Bool) : CallO X
  | true, s, args, H, k => match lx.anns.lookup (1000000 + s) with
    | some a => roundO rec eq a s args H k
    | none => match lx.unk with
      | some f => (f (1000000 + s)).run X args H k
      | none => roundO rec eq .leaf s args H k
  | false, g, args, H, k =>
    match lx.annOf g H.length with
    | some a => walkO a g args H k
    | none => match Lx.has lx.ext g args H with
      | true => Sm.first lx.ext g X args H k
      | false => match lx.unk with
        | some f => (f g).run X args H k
        | none => walkO .leaf g args H k
where walkO (a : Ann) (g : Nat) (args : List SV) (H : List SObj) (k : KO X) : Option X := match cx.fns.lookup g with
  | none => none
  | some fn => match fn.body with
    | none => none
    | some c => gd (Nat.ble args.length fn.ntmps) (rec X eq a true fn.ntmps c (.entry args H) (endO cx fn (lx.still.contains g) H k))
theorem walkO_ok {cx : Cx} (hcx : cx.Ok) {lx : Lx} {rec : RecO} (hrec : RecOk cx rec) {eq : X → X → Bool} (he : EqOk eq) {a : Ann} {g : Nat} {args : List SV} {H : List SObj} {k : KO X} {y : X} (h : callQ.walkO cx lx rec eq a g args H k = some y) :
    (∃ fn, cx.fns.lookup g = some fn) ∧ SCall cx.P g args H fun x H' t f => k x H' t f = some y := by
  unfold callQ.walkO at h
  split at h
  · cases h
  · rename_i fn hfn
    split at h
    · cases h
    · rename_i c hb
      obtain ⟨hc, h⟩ := gd_some h
      refine ⟨⟨fn, hfn⟩, ?_⟩
      exact SCall.leave (SCall_of_WPs hcx hfn hb (Nat.le_of_ble_eq_true hc) ((hrec X eq he none _ true _ _ _ _ y (fun _ => rfl) h).mono fun e s hs => endO_sound hs))
theorem callQ_ok {cx : Cx} (hcx : cx.Ok) {lx : Lx} (hlx : lx.Ok cx) {rec : RecO} (hrec : RecOk cx rec) {eq : X → X → Bool} (he : EqOk eq) : CallO.Ok cx (callQ cx lx rec eq) := by
  refine ⟨fun g args H k y h => ?_, fun s args H k y h => ?_⟩
  · have h : (match lx.annOf g H.length with
      | some a => callQ.walkO cx lx rec eq a g args H k
      | none => match Lx.has lx.ext g args H with
        | true => Sm.first lx.ext g X args H k
        | false => match lx.unk with
          | some f => (f g).run X args H k
          | none => callQ.walkO cx lx rec eq .leaf g args H k) = some y := h
    split at h
    · exact walkO_ok hcx hrec he h
    · split at h
      · exact Sm.first_ok hlx.ext h
      · rw [hlx.unk] at h
        exact walkO_ok hcx hrec he h
  · have h : (match lx.anns.lookup (1000000 + s) with
      | some a => roundO rec eq a s args H k
      | none => match lx.unk with
        | some f => (f (1000000 + s)).run X args H k
        | none => roundO rec eq .leaf s args H k) = some y := h
    split at h
    · exact roundO_sound hrec he h
    · rw [hlx.unk] at h
      exact roundO_sound hrec he h
def rangeO (cb : CallO X) (rec : RecO) (eq : X → X → Bool) (nt : Nat) (g : Operand) (ps : Array Tmp) (assign body : Code) (s : St) (k : KX X) : Option X :=
  gd (Nat.ble s.n0 s.H.length) (match targetG (s.ev g) (.yld (s.H.length + 1)) with
  | none => none
  | some (gf, args) => cb false gf args (startH s nt ps assign body) fun r H' t f =>
    gd ((!f.contains s.H.length && !f.contains (s.H.length + 1)) && ((s.marks.all fun m => !f.contains m && Nat.blt m s.H.length) && Nat.ble s.n0 H'.length)) (match loopAt H'[s.H.length + 1]? with
    | some (st, pd) => gd (notBusy st) (match pd with
      | none => k .normal (afterLoop s none H' t f)
      | some c => rec X eq .leaf true nt c (afterLoop s (some c) H' t f) k)
    | none => none))
theorem rangeO_sound {cx : Cx} (hcx : cx.Ok) {cb : CallO X} (hcb : cb.Ok cx) {rec : RecO} (hrec : RecOk cx rec) {eq : X → X → Bool} (he : EqOk eq) {nt : Nat} {g : Operand} {ps : Array Tmp} {assign body : Code} {s : St} {k : KX X} {y : X}
    (h : rangeO cb rec eq nt g ps assign body s k = some y) : WPs none cx.P nt (.rangeFunc g ps assign body) (fun e s' => k e s' = some y) s := by
  obtain ⟨hn, h⟩ := gd_some h
  cases ht : targetG (s.ev g) (.yld (s.H.length + 1)) with
  | none => simp only [ht] at h; cases h
  | some q =>
    obtain ⟨gf, args⟩ := q
    simp only [ht] at h
    obtain ⟨⟨fn, hfn⟩, h⟩ := hcb.ok _ _ _ _ _ h
    refine WPs_rangeFunc hcx (Nat.le_of_ble_eq_true hn) ht hfn (h.mono fun r H' t f h => ?_)
    obtain ⟨hc, h⟩ := gd_some h
    simp only [Bool.and_eq_true] at hc
    obtain ⟨⟨h1, h2⟩, h3, h4⟩ := hc
    split at h
    · rename_i st pd hL
      obtain ⟨hc5, h⟩ := gd_some h
      refine ⟨not_contains h1, not_contains h2, fun m hm => ?_, Nat.le_of_ble_eq_true h4, st, pd, hL, notBusy_ne hc5, ?_⟩
      · have := List.all_eq_true.1 h3 m hm
        simp only [Bool.and_eq_true] at this
        exact ⟨not_contains this.1, blt_lt this.2⟩
      · split at h
        · exact h
        · exact hrec X eq he none _ true _ _ _ _ y (fun _ => rfl) h
    · cases h
def joinO (rec : RecO) (l : Alts) (f : Foot) (an : Ann) (top : Bool) (nt : Nat) (c : Code) (s : St) (k : KX X) : Option X :=
  gd (s.marks.isEmpty && (f.ok && altsOk f l)) (match rec (AltsEl l) (AltsEl.eqv l) an top nt c s.sub (fun e s' => readAlts f s.H.length l e s') with
    | some x => onAlts f s l x fun e s1 => k e (s.outer s1)
    | none => none)
theorem joinO_sound {cx : Cx} {rec : RecO} (hrec : RecOk cx rec) {l : Alts} {f : Foot} {an : Ann} {R : Option Nat} {top : Bool} {nt : Nat} {c : Code} {s : St} {k : KX X} {y : X} (ht : top = true → R = none)
    (h : joinO rec l f an top nt c s k = some y) : WPs R cx.P nt c (fun e s' => k e s' = some y) s := by
  obtain ⟨hc, h⟩ := gd_some h
  simp only [Bool.and_eq_true, List.isEmpty_iff] at hc
  split at h
  · rename_i x hx
    rw [onAlts_eq] at h
    exact WPs_join hc.1 hc.2.1 hc.2.2 (hrec _ _ (AltsEl.eqv_ok l) R _ top _ _ _ _ x ht hx) h
  · cases h
def isNormal : Exit → Bool
  | .normal => true
  | _ => false
def loopQ (rec : RecO) (τ : Tmpl) (l : Alts) (f : Foot) (F : Nat) (an : Ann) (top : Bool) (nt : Nat) (c : Code) (s : St) (k : KX X) : Option X :=
  gd (s.marks.isEmpty && (f.ok && (altsOk f l && (τ.covers (f.of τ) && l.all fun a => !isNormal a.1)))) (match readT τ f s.H.length s.sub with
    | some x0 => match loopO (fun x => rec (τ.El ⊕ AltsEl l) (sumEq (CEls.eqv τ.cells) (AltsEl.eqv l)) an top nt c (τ.st f.D (f.of τ) f.mv s x) (roundK f s.H.length τ l)) F x0 with
      | some y => onAlts f s l y fun e s1 => k e (s.outer s1)
      | none => none
    | none => none)
theorem stAlts_ne {f : Foot} {s : St} : ∀ {l : Alts} (x : AltsEl l), (l.all fun a => !isNormal a.1) = true → (stAlts f s l x).1 ≠ .normal
  | [], x, _ => Empty.elim x
  | [a], x, h => by
    simp only [List.all_cons, List.all_nil, Bool.and_true, Bool.not_eq_true'] at h
    intro e
    simp only [stAlts] at e
    rw [e] at h; cases h
  | a :: a' :: l, .inl x, h => by
    simp only [List.all_cons, Bool.and_eq_true, Bool.not_eq_true'] at h
    intro e
    simp only [stAlts] at e
    rw [e] at h; cases h.1
  | a :: a' :: l, .inr x, h => by
    have h' : ((a' :: l).all fun a => !isNormal a.1) = true := by
      simp only [List.all_cons, Bool.and_eq_true] at h ⊢; exact h.2
    simp only [stAlts]
    exact stAlts_ne x h'
theorem loopQ_sound {cx : Cx} {rec : RecO} (hrec : RecOk cx rec) {τ : Tmpl} {l : Alts} {f : Foot} {F : Nat} {an : Ann} {R : Option Nat} {top : Bool} {nt : Nat} {c : Code} {s : St} {k : KX X} {y : X} (ht : top = true → R = none)
    (h : loopQ rec τ l f F an top nt c s k = some y) : WPs R cx.P nt (.loop c) (fun e s' => k e s' = some y) s := by
  obtain ⟨hc, h⟩ := gd_some h
  simp only [Bool.and_eq_true, List.isEmpty_iff] at hc
  obtain ⟨c1, c2, c3, c4, c5⟩ := hc
  split at h
  · rename_i x0 hx0
    split at h
    · rename_i z hz
      rw [onAlts_eq] at h
      exact WPs_loopT c1 c2 c3 c4 (fun x r hr => hrec _ _ (sumEq_ok (CEls.eqv_ok _) (AltsEl.eqv_ok _)) R _ top _ _ _ _ r ht hr) hx0 hz (stAlts_ne z c5) h
    · cases h
  · cases h
end
def codeO (cx : Cx) (lx : Lx) (rec : RecO) (X : Type) (eq : X → X → Bool) (an : Ann) (top : Bool) (nt : Nat) : Code → St → KX X → Option X
  | .skip, s, k => k .normal s
  | .region _ ops draw, s, k => match draw with
    | false => vopsO cx (callQ cx lx rec eq) nt ops ops.toList s (k .normal)
    | true => gd (Region.noSelect ops) (runPlanO eq cx (callQ cx lx rec eq) nt ops (planOf true ops ops.size (Array.replicate ops.size false)) [] s (k .normal))
  | .seq a b, s, k => rec X eq an.fst top nt a s fun e s' => match e with
    | .normal => rec X eq an.snd top nt b s' k
    | e => k e s'
  | .cond c a b, s, k => match s.ev c with
    | .pv (.lit (.bool t)) => match t with
      | true => rec X eq an.fst top nt a s k
      | false => rec X eq an.snd top nt b s k
    | _ => none
  | .block id c, s, k => rec X eq an.fst top nt c s fun e s' => match e with
    | .exit id' => bif Nat.beq id' id then k .normal s' else k (.exit id') s'
    | e => k e s'
  | .loop c, s, k => rec X eq an.fst top nt c s fun e s' => match e with
    | .normal => rec X eq an top nt (.loop c) s' k
    | e => k e s'
  | .rangeFunc g ps assign body, s, k => match top with
    | true => rangeO (callQ cx lx rec eq) rec eq nt g ps assign body s k
    | false => none
  | .scope c, s, k => match top with
    | true => rec X eq an.fst true nt c s fun e s' => match e with
      | .goto _ => none
      | e => k e s'
    | false => none
  | .exit id, s, k => k (.exit id) s
  | .label _, s, k => k .normal s
  | .ret, s, k => k .ret s
  | _, _, _ => none
def Lx.more (lx : Lx) (l : List (Nat × Ann)) : Lx := match lx with
  | ⟨ext, anns, still, unk⟩ => ⟨ext, l ++ anns, still, unk⟩
theorem Lx.Ok.more {cx : Cx} {lx : Lx} (h : lx.Ok cx) (l : List (Nat × Ann)) : (lx.more l).Ok cx := ⟨h.ext, h.unk⟩
def stepO (cx : Cx) (lx : Lx) (rec : RecO) : RecO := fun X eq an top nt c s k => match an with
  | .join l f a => joinO rec l f a top nt c s k
  | .virt slot ty row a => match s.T.get slot with
    | some (.pv (.lit v)) => gd (Value.isNil v) (rec X eq a top nt c (virtSt s slot ty row) k)
    | _ => rec X eq a top nt c s k
  | .sealing kk ty row a => match sealSt kk ty row s with
    | some p => gd p.1 (rec X eq a top nt c p.2 k)
    | none => none
  | .trunc slot a => match truncSt s slot with
    | some s' => rec X eq a top nt c s' k
    | none => rec X eq a top nt c s k
  | .weak kk keep a => rec X eq a top nt c (weakSt kk keep s) k
  | .virtF ob col ty row a => match virtFSt s ob col ty row with
    | some s' => rec X eq a top nt c s' k
    | none => none
  | .within l => match c with
    | .loop _ => none
    | c => codeO cx (lx.more l) rec X eq .leaf top nt c s k
  | .loop τ l f F a => match c with
    | .loop body => loopQ rec τ l f F a top nt body s k
    | _ => none
  | .leaf => codeO cx lx rec X eq .leaf top nt c s k
  | .one a => codeO cx lx rec X eq (.one a) top nt c s k
  | .two a b => codeO cx lx rec X eq (.two a b) top nt c s k
def evalO (cx : Cx) (lx : Lx) : Nat → RecO
  | 0 => fun _ _ _ _ _ _ _ _ => none
  | n + 1 => stepO cx lx (evalO cx lx n)
def Ann.plain : Ann → Bool
  | .leaf => true
  | .one _ => true
  | .two _ _ => true
  | _ => false
theorem evalO_sound {cx : Cx} (hcx : cx.Ok) {lx : Lx} (hlx : lx.Ok cx) : ∀ (n : Nat), RecOk cx (evalO cx lx n) ∧
    (∀ (X : Type) (eq : X → X → Bool) (_ : EqOk eq) R an top nt c s (k : KX X) (y : X), (top = true → R = none) → evalO cx lx n X eq an top nt (.loop c) s k = some y → an.plain = true →
      Unrolled R cx.P nt c (fun e s' => k e s' = some y) n s)
  | 0 => ⟨fun X eq he R an top nt c s k y _ h => (by cases h), fun X eq he R an top nt c s k y _ h => (by cases h)⟩
  | n + 1 => by
    obtain ⟨ih1, ih2⟩ := evalO_sound hcx hlx n
    have loop : ∀ (X : Type) (eq : X → X → Bool) (_ : EqOk eq) R an top nt c s (k : KX X) (y : X), (top = true → R = none) → evalO cx lx (n + 1) X eq an top nt (.loop c) s k = some y → an.plain = true →
        Unrolled R cx.P nt c (fun e s' => k e s' = some y) (n + 1) s := by
      intro X eq he R an top nt c s k y ht h hp
      have h : codeO cx lx (evalO cx lx n) X eq an top nt (.loop c) s k = some y := by
        cases an with
        | leaf => exact h
        | one a => exact h
        | two a b => exact h
        | _ => cases hp
      refine (ih1 X eq he R an.fst top nt c s _ y ht h).mono fun e s' hs => ?_
      cases e with
      | normal => exact ⟨n, Nat.le_refl n, ih2 X eq he R an top nt c s' k y ht hs hp⟩
      | _ => exact hs
    refine ⟨fun X eq he R an top nt c s k y ht h => ?_, loop⟩
    have code : ∀ (lx' : Lx), lx'.Ok cx → (an.plain = true ∨ ∀ b, c ≠ .loop b) → ∀ an' : Ann, (an.plain = true → an' = an ∧ lx' = lx) → codeO cx lx' (evalO cx lx n) X eq an' top nt c s k = some y → WPs R cx.P nt c (fun e s' => k e s' = some y) s := by
      intro lx' hlx' hp an' han hcode
      have hcb := callQ_ok hcx hlx' ih1 he
      cases c with
      | skip => exact WPs_skip hcode
      | region id ops draw =>
        cases draw with
        | false => exact WPs_region hcx (vopsO_sound hcb _ _ _ hcode)
        | true =>
          obtain ⟨h1, h2⟩ := gd_some hcode
          exact WPs_draw hcx h1 (runPlanO_sound he hcb _ _ _ _ h2)
      | seq a b =>
        refine WPs_seq ((ih1 X eq he R an'.fst top nt a s _ y ht hcode).mono fun e s' hs => ?_)
        cases e with
        | normal => exact ih1 X eq he R an'.snd top nt b s' k y ht hs
        | _ => exact hs
      | cond c a b =>
        have hcode : (match s.ev c with
          | .pv (.lit (.bool t)) => match t with
            | true => evalO cx lx n X eq an'.fst top nt a s k
            | false => evalO cx lx n X eq an'.snd top nt b s k
          | _ => none) = some y := hcode
        split at hcode
        · rename_i t e
          refine WPs_cond e (fun hb => ?_) (fun hb => ?_)
          · subst hb; exact ih1 X eq he R an'.fst top nt a s k y ht hcode
          · subst hb; exact ih1 X eq he R an'.snd top nt b s k y ht hcode
        · cases hcode
      | block id c =>
        refine WPs_block ((ih1 X eq he R an'.fst top nt c s _ y ht hcode).mono fun e s' hs => ?_)
        cases e with
        | exit id' =>
          simp only [blockQ]
          by_cases e : id' = id
          · rw [if_pos e]; simp only [nbeq_t e, cond_true] at hs; exact hs
          · rw [if_neg e]; simp only [nbeq_f e, cond_false] at hs; exact hs
        | _ => exact hs
      | loop c =>
        have hp : an.plain = true := by
          rcases hp with hp | hp
          · exact hp
          · exact absurd rfl (hp c)
        obtain ⟨rfl, rfl⟩ := han hp
        refine WPs_unrolled (loop X eq he R an' top nt c s k y ht ?_ hp)
        cases an' with
        | leaf => exact hcode
        | one a => exact hcode
        | two a b => exact hcode
        | _ => cases hp
      | exit id => exact WPs_exit hcode
      | label l => exact WPs_label hcode
      | ret => exact WPs_ret hcode
      | rangeFunc g ps assign body =>
        cases top with
        | true =>
          have hR := ht rfl
          subst hR
          exact rangeO_sound hcx hcb ih1 he hcode
        | false => cases hcode
      | scope c =>
        cases top with
        | true =>
          have hR := ht rfl
          subst hR
          refine WPs_scope ((ih1 X eq he none an'.fst true nt c s _ y ht hcode).mono fun e s' hs => ?_)
          cases e with
          | goto _ => cases hs
          | _ => exact hs
        | false => cases hcode
      | goto _ => cases hcode
      | refuse _ => cases hcode
    cases an with
    | join l f a => exact joinO_sound ih1 ht h
    | virt slot ty row a =>
      have h : (match s.T.get slot with
        | some (.pv (.lit v)) => gd (Value.isNil v) (evalO cx lx n X eq a top nt c (virtSt s slot ty row) k)
        | _ => evalO cx lx n X eq a top nt c s k) = some y := h
      split at h
      · rename_i v hv
        obtain ⟨h1, h2⟩ := gd_some h
        exact WPs_virt hv h1 (ih1 X eq he R a top nt c _ k y ht h2)
      · exact ih1 X eq he R a top nt c _ k y ht h
    | trunc slot a =>
      have h : (match truncSt s slot with
        | some s' => evalO cx lx n X eq a top nt c s' k
        | none => evalO cx lx n X eq a top nt c s k) = some y := h
      split at h
      · rename_i s' hs'
        exact WPs_trunc hs' (ih1 X eq he R a top nt c _ k y ht h)
      · exact ih1 X eq he R a top nt c _ k y ht h
    | weak kk keep a => exact WPs_weak (ih1 X eq he R a top nt c _ k y ht h)
    | sealing kk ty row a =>
      have h : (match sealSt kk ty row s with
        | some p => gd p.1 (evalO cx lx n X eq a top nt c p.2 k)
        | none => none) = some y := h
      split at h
      · rename_i p hp
        obtain ⟨h1, h2⟩ := gd_some h
        exact WPs_seal (cc := p.1) (s' := p.2) hp h1 (ih1 X eq he R a top nt c _ k y ht h2)
      · cases h
    | virtF ob col ty row a =>
      have h : (match virtFSt s ob col ty row with
        | some s' => evalO cx lx n X eq a top nt c s' k
        | none => none) = some y := h
      split at h
      · rename_i s' hs'
        exact WPs_virtF hs' (ih1 X eq he R a top nt c _ k y ht h)
      · cases h
    | within l =>
      cases c with
      | loop b => cases h
      | _ => exact code (lx.more l) (hlx.more l) (.inr fun b e => by cases e) .leaf (fun e => by cases e) h
    | loop τ l f F a =>
      cases c with
      | loop body => exact loopQ_sound ih1 ht h
      | _ => cases h
    | leaf => exact code lx hlx (.inl rfl) .leaf (fun _ => ⟨rfl, rfl⟩) h
    | one a => exact code lx hlx (.inl rfl) (.one a) (fun _ => ⟨rfl, rfl⟩) h
    | two a b => exact code lx hlx (.inl rfl) (.two a b) (fun _ => ⟨rfl, rfl⟩) h
end Go.Sx
end
