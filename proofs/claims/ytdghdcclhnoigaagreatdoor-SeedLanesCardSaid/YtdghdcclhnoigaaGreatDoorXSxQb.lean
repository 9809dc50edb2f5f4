/- Part Qb of the own logic: a state is read by a template. -/
import Derived.Test.YtdghdcclhnoigaaGreatDoorXSxQa
set_option linter.unusedVariables false
set_option linter.unusedSimpArgs false
set_option linter.unnecessarySimpa false
namespace Go.Sx
open Go
mutual
theorem SV.forget_twice (d : List Nat) : ∀ (x : SV), (x.forget d).forget d = x.forget d
  | .agg l => by simp only [SV.forget, forgetL_twice d l]
  | .tup l => by simp only [SV.forget, forgetL_twice d l]
  | .fn _ a b => by simp only [SV.forget, forgetL_twice d a, forgetL_twice d b]
  | .ptr s _ _ _ => by
    simp only [SV.forget]; split
    · rfl
    · rename_i h; simp only [SV.forget, if_neg h]
  | .sl s _ _ _ => by
    simp only [SV.forget]; split
    · rfl
    · rename_i h; simp only [SV.forget, if_neg h]
  | .mp s => by
    simp only [SV.forget]; split
    · rfl
    · rename_i h; simp only [SV.forget, if_neg h]
  | .yld s => by
    simp only [SV.forget]; split
    · rfl
    · rename_i h; simp only [SV.forget, if_neg h]
  | .any => rfl
  | .pv _ => rfl
theorem forgetL_twice (d : List Nat) : ∀ (l : List SV), forgetL d (forgetL d l) = forgetL d l
  | [] => rfl
  | x :: xs => by simp only [forgetL, SV.forget_twice d x, forgetL_twice d xs]
end
mutual
theorem SV.forget_nil : ∀ (x : SV), x.forget [] = x
  | .agg l => by simp only [SV.forget, forgetL_nil l]
  | .tup l => by simp only [SV.forget, forgetL_nil l]
  | .fn _ a b => by simp only [SV.forget, forgetL_nil a, forgetL_nil b]
  | .ptr s _ _ _ => by simp [SV.forget]
  | .sl s _ _ _ => by simp [SV.forget]
  | .mp s => by simp [SV.forget]
  | .yld s => by simp [SV.forget]
  | .any => rfl
  | .pv _ => rfl
theorem forgetL_nil : ∀ (l : List SV), forgetL [] l = l
  | [] => rfl
  | x :: xs => by simp only [forgetL, SV.forget_nil x, forgetL_nil xs]
end
theorem TT.map_id {f : SV → SV} (hf : ∀ x, f x = x) : ∀ (T : TT), T.map f = T
  | .nil => rfl
  | .node l v r => by
    simp only [TT.map, TT.map_id hf l, TT.map_id hf r]
    cases v <;> simp [hf]
theorem SObj.forget_nil (o : SObj) : o.forget [] = o := by
  cases o with
  | mix ty sz rows =>
    simp only [SObj.forget, SObj.mix.injEq, true_and]
    conv => rhs; rw [← List.map_id rows]
    refine List.map_congr_left fun r _ => ?_
    conv => rhs; rw [← List.map_id r]
    exact List.map_congr_left fun x _ => SV.forget_nil x
  | map es c =>
    simp only [SObj.forget, SObj.map.injEq, and_true]
    conv => rhs; rw [← List.map_id es]
    refine List.map_congr_left fun e _ => ?_
    simp only [SV.forget_nil, id]
  | loop l => simp only [SObj.forget, TT.map_id SV.forget_nil]
  | _ => rfl
theorem TT.map_twice {f : SV → SV} (hf : ∀ x, f (f x) = f x) : ∀ (T : TT), (T.map f).map f = T.map f
  | .nil => rfl
  | .node l v r => by
    simp only [TT.map, TT.map_twice hf l, TT.map_twice hf r]
    cases v <;> simp [hf]
theorem SObj.forget_twice (d : List Nat) (o : SObj) : (o.forget d).forget d = o.forget d := by
  cases o with
  | mix ty sz rows =>
    simp only [SObj.forget, List.map_map, SObj.mix.injEq, true_and]
    refine List.map_congr_left fun r _ => ?_
    simp only [Function.comp, List.map_map]
    exact List.map_congr_left fun x _ => SV.forget_twice d x
  | map es c =>
    simp only [SObj.forget, List.map_map, SObj.map.injEq, and_true]
    refine List.map_congr_left fun e _ => ?_
    simp only [Function.comp, SV.forget_twice]
  | loop l =>
    simp only [SObj.forget, TT.map_twice (SV.forget_twice d)]
  | _ => rfl
structure BaseAt (D ids mv : List Nat) (b : St) (M : Imm) (ρ : Env) (H : List SObj) (a : Act) (w : World) : Prop where
  len : H.length = b.H.length
  slots : ∀ t y, t ∉ D → b.T.get t = some y → SRep M ρ (a.tmps.getD t undef) (y.forget mv)
  objs : ∀ (s : Nat) (o : SObj), s ∉ ids → b.H[s]? = some o → OwnAt M ρ w s (o.forget mv) ∧ (o.live = true → ∃ o' : SObj, H[s]? = some o' ∧ o'.live = true)
  back : ∀ (s : Nat) (o : SObj), s ∉ ids → H[s]? = some o → o.live = true → ∃ o0 : SObj, b.H[s]? = some o0 ∧ o0.live = true
theorem rowOf1_spec {M : Imm} {ρ : Env} {w : World} {s ty sz : Nat} {o : SObj} {r : List SV} (h : rowOf1 o = some (ty, sz, r)) : o.live = true ∧ o.sz? = some sz ∧ o.len = 1 ∧ (OwnAt M ρ w s o → OwnAt M ρ w s (.mix ty sz [r])) := by
  unfold rowOf1 at h
  split at h
  · cases h; exact ⟨rfl, rfl, rfl, fun h => h.vecMix⟩
  · cases h; exact ⟨rfl, rfl, rfl, id⟩
  · rename_i ty' row x
    cases h
    exact ⟨rfl, rfl, rfl, fun h => by
      have h : OwnAt M ρ w s (.vec ty row.length [rowPV row x]) := h
      exact h.vecMix⟩
  · cases h
theorem OwnAt.remix {M M2 : Imm} {ρ ρ2 : Env} {w : World} {s ty sz : Nat} {r r' : List SV} (hs : ρ2 s = ρ s) (hl : r'.length = sz)
    (hr : ∀ (j : Nat) (y : SV), r'[j]? = some y → y = .any ∨ ∃ x : SV, r[j]? = some x ∧ ∀ u, SRep M ρ u x → SRep M2 ρ2 u y) (h : OwnAt M ρ w s (.mix ty sz [r])) : OwnAt M2 ρ2 w s (.mix ty sz [r']) := by
  rcases h with ⟨h1, h2⟩ | ⟨p, h1, h2⟩
  · cases h2
  · refine .inr ⟨p, hs.trans h1, ?_⟩
    obtain ⟨cs, a1, a2, a3, a4, a5, a6⟩ := h2.ex
    have hin : ∀ i j x, mcell [r'] i j = some x → i = 0 ∧ r'[j]? = some x := fun i j x hx => by
      unfold mcell at hx
      cases i with
      | zero => exact ⟨rfl, by simpa using hx⟩
      | succ i => simp at hx
    refine ⟨cs, a1, a2, a3, a4, fun i j x v hx hv => ?_, fun i j x hx => ?_⟩
    · obtain ⟨rfl, hj⟩ := hin i j x hx
      have hjs : j < sz := by rw [← hl]; exact (List.getElem?_eq_some_iff.1 hj).1
      refine ⟨by simp, hjs, ?_⟩
      rcases hr j x hj with rfl | ⟨x0, g1, g2⟩
      · exact .any _
      · exact g2 v (a5 0 j x0 v (by simp [mcell, g1]) hv).2.2
    · obtain ⟨rfl, hj⟩ := hin i j x hx
      exact ⟨by simp, by rw [← hl]; exact (List.getElem?_eq_some_iff.1 hj).1⟩
theorem entData_spec {k v : ATy} {H : List SObj} {n : Nat} : ∀ {es : List Ent} {i : Nat} {c : Bool} {l : List (k.El × v.El)}, entData k v H n i es = some (c, l) → c = true → l.length = es.length ∧
    ∀ (j : Nat) (x : k.El × v.El), l[j]? = some x → ∃ e, es[j]? = some e ∧ e.2.2 = i + j ∧ k.ofSV (.lit e.1) = some x.1 ∧ rdA H n v e.2.1 = some (true, x.2)
  | [], i, c, l, h, hc => by cases h; exact ⟨rfl, fun j x hx => by simp at hx⟩
  | e :: es, i, c, l, h, hc => by
    simp only [entData] at h
    split at h
    · cases h
    · rename_i hb
      split at h
      · cases h
      · rename_i a ha
        split at h
        · cases h
        · rename_i b hb2
          split at h
          · cases h
          · rename_i d hd
            cases h
            rw [Bool.and_eq_true] at hc
            obtain ⟨g1, g2⟩ := entData_spec (c := d.1) (l := d.2) hd hc.2
            refine ⟨by simp [g1], fun j x hx => ?_⟩
            cases j with
            | zero =>
              simp at hx; subst hx
              exact ⟨e, rfl, Nat.eq_of_beq_eq_true hb, ha, by rw [hb2, ← hc.1]⟩
            | succ j =>
              obtain ⟨e', q1, q2, q3⟩ := g2 j x (by simpa using hx)
              exact ⟨e', by simpa using q1, by omega, q3⟩
theorem MapAt.data {M : Imm} {ρ ρ2 : Env} {H : List SObj} {w : World} {n s : Nat} (hm : Mem M ρ H w) {k v : ATy} {es : List Ent} {c : Nat} {cc : Bool} {l : List (k.El × v.El)} (hs : ρ2 s = ρ s) (h : MapAt M ρ w s es c) (hlen : c = es.length) (hk : k.scalar = true) (hd : entData k v H n 0 es = some (cc, l)) (hc : cc = true) :
    MapAt (M.sealing ρ H n w) ρ2 w s (entsFrom k v 0 l) l.length := by
  obtain ⟨g1, g2⟩ := entData_spec hd hc
  obtain ⟨p, arr, h1, h2, h3, h4⟩ := h
  refine ⟨p, arr, hs.trans h1, by rw [g1, ← hlen]; exact h2, by rw [entsFrom_len, g1]; exact h3, fun i kk x b hi => ?_⟩
  rw [entsFrom_get] at hi
  simp only [Option.map_eq_some_iff, Prod.mk.injEq] at hi
  obtain ⟨y, hy, rfl, rfl, rfl⟩ := hi
  obtain ⟨e, q1, q2, q3, q4⟩ := g2 i y hy
  obtain ⟨me, m1, m2, m3, m4⟩ := h4 i e.1 e.2.1 e.2.2 q1
  refine ⟨me, m1, ?_, by rw [m3, q2], rdA_raw hm q4 rfl m4⟩
  rw [m2]
  exact keyV_of_raw hk (ATy.ofSV_sound (M := M) (ρ := ρ) q3 (.pv (.lit _)))
theorem castMap_own {M : Imm} {ρ ρ2 : Env} {w : World} {s : Nat} {k v k' v' : ATy} {l : List (k.El × v.El)} {l' : List (k'.El × v'.El)} (h : castMap k v k' v' l = some l') (ho : MapAt M ρ w s (entsFrom k v 0 l) l.length) : MapAt M ρ w s (entsFrom k' v' 0 l') l'.length := by
  obtain ⟨e, e', rfl⟩ := castMap_eq h
  subst e; subst e'
  exact ho
inductive InPl : (l : PL) → PEls l → Nat → (a : ATy) → a.El → Prop where
  | one (p : Nat × ATy) (x : p.2.El) : InPl [p] x p.1 p.2 x
  | head (p p' : Nat × ATy) (l : PL) (x : p.2.El × PEls (p' :: l)) : InPl (p :: p' :: l) x p.1 p.2 x.1
  | tail (p p' : Nat × ATy) (l : PL) (x : p.2.El × PEls (p' :: l)) (j : Nat) (a : ATy) (y : a.El) (h : InPl (p' :: l) x.2 j a y) : InPl (p :: p' :: l) x j a y
theorem setPl_get : ∀ {l : PL} {x : PEls l} {r : List SV} {j : Nat} {y : SV}, (setPl l x r)[j]? = some y → (∃ a z, InPl l x j a z ∧ y = a.sv z) ∨ r[j]? = some y
  | [], x, r, j, y, h => .inr h
  | [p], x, r, j, y, h => by
    simp only [setPl, List.getElem?_set] at h
    split at h
    · rename_i e; subst e
      split at h
      · cases h; exact .inl ⟨p.2, x, .one p x, rfl⟩
      · cases h
    · exact .inr h
  | p :: p' :: l, x, r, j, y, h => by
    have h0 : (setPl (p' :: l) x.2 (r.set p.1 (p.2.sv x.1)))[j]? = some y := h
    clear h
    rcases setPl_get h0 with ⟨a, z, h1, h2⟩ | h
    · exact .inl ⟨a, z, .tail _ _ _ _ _ _ _ h1, h2⟩
    · rw [List.getElem?_set] at h
      split at h
      · rename_i e; subst e
        split at h
        · cases h; exact .inl ⟨p.2, x.1, .head _ _ _ _, rfl⟩
        · cases h
      · exact .inr h
theorem setPl_len : ∀ {l : PL} {x : PEls l} {r : List SV}, (setPl l x r).length = r.length
  | [], x, r => rfl
  | [p], x, r => by simp [setPl]
  | p :: p' :: l, x, r => by
    show (setPl (p' :: l) x.2 _).length = _
    rw [setPl_len]; simp
theorem getPl_in {H : List SObj} {n : Nat} {r : List SV} : ∀ {l : PL} {c : Bool} {x : PEls l}, getPl H n r l = some (c, x) → c = true → ∀ j a (z : a.El), InPl l x j a z → ∃ y, r[j]? = some y ∧ rdA H n a y = some (true, z)
  | [], c, x, h, hc, j, a, z, hi => by cases hi
  | [p], c, x, h, hc, j, a, z, hi => by
    simp only [getPl] at h
    split at h
    · rename_i y hy
      cases hi with
      | one => exact ⟨y, hy, by rw [h, hc]; rfl⟩
    · cases h
  | p :: p' :: l, c, x, h, hc, j, a, z, hi => by
    simp only [getPl] at h
    split at h
    · cases h
    · rename_i y hy
      split at h
      · cases h
      · rename_i a' ha
        split at h
        · cases h
        · rename_i b hb
          cases h
          rw [Bool.and_eq_true] at hc
          cases hi with
          | head => exact ⟨y, hy, by rw [ha, ← hc.1]⟩
          | tail _ _ _ _ _ _ _ hi => exact getPl_in (c := b.1) (x := b.2) hb hc.2 j a z hi
theorem setLk_get {H : List SObj} : ∀ {l : List (Nat × Lk)} {r : List SV} {j : Nat} {y : SV}, (setLk H l r)[j]? = some y → (∃ q ∈ l, q.1 = j ∧ y = lkSV H q.2) ∨ r[j]? = some y
  | [], r, j, y, h => .inr h
  | q :: l, r, j, y, h => by
    simp only [setLk] at h
    rcases setLk_get h with ⟨q', h1, h2⟩ | h
    · exact .inl ⟨q', List.mem_cons_of_mem _ h1, h2⟩
    · rw [List.getElem?_set] at h
      split at h
      · rename_i e
        split at h
        · cases h; exact .inl ⟨q, List.mem_cons_self, e, rfl⟩
        · cases h
      · exact .inr h
theorem setLk_len {H : List SObj} : ∀ {l : List (Nat × Lk)} {r : List SV}, (setLk H l r).length = r.length
  | [], r => rfl
  | q :: l, r => by simp [setLk, setLk_len]
theorem getLk_in {H : List SObj} {n : Nat} {r : List SV} : ∀ {l : List (Nat × Lk)} {c : Bool}, getLk H n r l = some c → c = true → ∀ q ∈ l, ∃ x, r[q.1]? = some x ∧ ckLk H n x q.2 = some true
  | [], c, h, hc, q, hq => by cases hq
  | p :: l, c, h, hc, q, hq => by
    simp only [getLk] at h
    split at h
    · cases h
    · rename_i x hx
      split at h
      · cases h
      · rename_i c1 h1
        split at h
        · cases h
        · rename_i d hd
          cases h
          rw [Bool.and_eq_true] at hc
          rcases List.mem_cons.1 hq with rfl | hq
          · exact ⟨x, hx, by rw [h1, hc.1]⟩
          · exact getLk_in hd hc.2 q hq
theorem getOwns_in {T : TT} {H : List SObj} {n : Nat} : ∀ {l : List (Nat × Lk)} {c : Bool}, getOwns T H n l = some c → c = true → ∀ q ∈ l, ∃ x, T.get q.1 = some x ∧ ckLk H n x q.2 = some true
  | [], c, h, hc, q, hq => by cases hq
  | p :: l, c, h, hc, q, hq => by
    simp only [getOwns] at h
    split at h
    · cases h
    · rename_i x hx
      split at h
      · cases h
      · rename_i c1 h1
        split at h
        · cases h
        · rename_i d hd
          cases h
          rw [Bool.and_eq_true] at hc
          rcases List.mem_cons.1 hq with rfl | hq
          · exact ⟨x, hx, by rw [h1, hc.1]⟩
          · exact getOwns_in hd hc.2 q hq
theorem SRep.cutTo {M M2 : Imm} {ρ : Env} {H : List SObj} {w : World} (hm : Mem M ρ H w) (hle : M.le M2) (n : Nat) {v : Value} {x : SV} (hf : x.free n = true) (h : SRep M ρ v x) : SRep M2 (ρ.cut n) v x := by
  have := h.forget (d := junk n H.length) hle (cut_leBut hm n)
  rwa [SV.forget_free x hf] at this
def LenLike (n : Nat) (H H1 : List SObj) (lk : Lk) : Prop := match lk with
  | .stat _ => True
  | .own s => s < n → ∀ o sz, H[s]? = some o → o.sz? = some sz → ∃ o1, H1[s]? = some o1 ∧ o1.sz? = some sz ∧ o1.len = o.len
theorem ckLk_sound {M M2 : Imm} {ρ : Env} {H H1 : List SObj} {w : World} {n : Nat} (hm : Mem M ρ H w) (hle : M.le M2) {x : SV} {lk : Lk} (h : ckLk H n x lk = some true) (hl : LenLike n H H1 lk) {v : Value} (hr : SRep M ρ v x) : SRep M2 (ρ.cut n) v (lkSV H1 lk) := by
  cases lk with
  | stat y =>
    simp only [ckLk] at h
    split at h
    · rename_i e
      rw [Bool.and_eq_true] at e
      have := SV.same_eq _ _ e.1
      subst this
      exact hr.cutTo hm hle n e.2
    · cases h
  | own s =>
    simp only [ckLk] at h
    split at h
    · rename_i s' sz st m
      split at h
      · cases h
      · rename_i e
        simp only [Bool.and_eq_true] at e
        have e1 := Nat.eq_of_beq_eq_true e.1
        have e2 := Nat.eq_of_beq_eq_true e.2.1
        have e3 := blt_lt e.2.2
        subst e1; subst e2
        split at h
        · cases h
        · rename_i o ho
          split at h
          · cases h
          · rename_i sz' hsz
            split at h
            · rename_i e4
              have e4 := Nat.eq_of_beq_eq_true e4
              subst e4
              have hmm : m = o.len := by simpa using h
              obtain ⟨o1, q1, q2, q3⟩ := hl e3 o sz' ho hsz
              have hx : lkSV H1 (.own s') = .sl s' sz' 0 o.len := by
                simp only [lkSV, q1, q2, q3]
              rw [hx, ← hmm]
              exact hr.cutTo hm hle n (by simp only [SV.free]; exact e.2.2)
            · cases h
    · cases h
theorem subset_mem {l m : List Nat} (h : subset l m = true) {x : Nat} (hx : x ∈ l) : x ∈ m := by
  have := List.all_eq_true.1 h x hx
  simpa using this
theorem Cel.get_len {T : TT} {H H1 : List SObj} {n : Nat} {c : Cel} {cc : Bool} {x : c.El} {s : Nat} (h : c.get T H n = some (cc, x)) (hc : cc = true) (hs : c.id? = some s) :
    ∃ o, H[s]? = some o ∧ o.live = true ∧ (∀ sz, o.sz? = some sz → (c.obj H1 x).sz? = some sz ∧ (c.obj H1 x).len = o.len) := by
  cases c with
  | slot => cases hs
  | vec d ty row =>
    cases hs
    have h : (match H[s]? with
      | some (.tvec ty' row' l) => match Nat.beq ty' ty with
        | true => match castRows row' row l with
          | some l => some (true, l)
          | none => none
        | false => none
      | some (.vec ty' sz rows) => match Nat.beq ty' ty && Nat.beq sz row.length with
        | true => match mapO (ofRow row) rows with
          | some l => some (true, l)
          | none => none
        | false => none
      | some (.mix ty' sz rows) => match Nat.beq ty' ty && Nat.beq sz row.length with
        | true => mapC (rdRow H n row) rows
        | false => none
      | _ => none) = some (cc, x) := h
    split at h
    · rename_i ty' row' l ho
      refine ⟨_, ho, rfl, fun sz hsz => ?_⟩
      split at h
      · split at h
        · rename_i l' hl
          cases h
          obtain ⟨e, rfl⟩ := castRows_eq hl
          subst e
          exact ⟨hsz, rfl⟩
        · cases h
      · cases h
    · rename_i ty' sz' rows ho
      refine ⟨_, ho, rfl, fun sz hsz => ?_⟩
      split at h
      · rename_i e
        rw [Bool.and_eq_true] at e
        split at h
        · rename_i l hl
          cases h
          have e2 := Nat.eq_of_beq_eq_true e.2
          simp only [SObj.sz?, Option.some.injEq] at hsz
          exact ⟨by simp only [Cel.obj, SObj.sz?]; rw [← e2, hsz], (mapO_spec hl).1⟩
        · cases h
      · cases h
    · rename_i ty' sz' rows ho
      refine ⟨_, ho, rfl, fun sz hsz => ?_⟩
      split at h
      · rename_i e
        rw [Bool.and_eq_true] at e
        have e2 := Nat.eq_of_beq_eq_true e.2
        simp only [SObj.sz?, Option.some.injEq] at hsz
        refine ⟨by simp only [Cel.obj, SObj.sz?]; rw [← e2, hsz], ?_⟩
        have key : ∀ (rs : List (List SV)) (c : Bool) (l : List (Els row)), mapC (rdRow H n row) rs = some (c, l) → l.length = rs.length := by
          intro rs
          induction rs with
          | nil => intro c l h; cases h; rfl
          | cons r rs ih =>
            intro c l h
            simp only [mapC] at h
            split at h
            · cases h
            · split at h
              · cases h
              · rename_i b hb
                cases h
                simp [ih b.1 b.2 hb]
        exact key _ _ _ h
      · cases h
    · cases h
  | one d ty row =>
    cases hs
    have h : (match H[s]? with
      | some o => match rowOf1 o with
        | some (ty', sz, r) => match Nat.beq ty' ty && Nat.beq sz row.length with
          | true => rdRow H n row r
          | false => none
        | none => none
      | none => none) = some (cc, x) := h
    split at h
    · rename_i o ho
      split at h
      · rename_i ty' sz' r hr
        obtain ⟨g1, g2, g3, _⟩ := rowOf1_spec (M := fun _ => none) (ρ := fun _ => none) (w := default) (s := 0) hr
        refine ⟨o, ho, g1, fun sz hsz => ?_⟩
        split at h
        · rename_i e
          rw [Bool.and_eq_true] at e
          rw [hsz] at g2; cases g2
          have e2 := Nat.eq_of_beq_eq_true e.2
          exact ⟨by simp only [Cel.obj, SObj.sz?]; rw [← e2], by rw [g3]; rfl⟩
        · cases h
      · cases h
    · cases h
  | mix d ty sz0 dat lnk =>
    cases hs
    have h : (match H[s]? with
      | some o => match rowOf1 o with
        | some (ty', sz', r) => match Nat.beq ty' ty && Nat.beq sz' sz0 with
          | true => match getLk H n r lnk with
            | some c => match getPl H n r dat with
              | some x => some (c && x.1, x.2)
              | none => none
            | none => none
          | false => none
        | none => none
      | none => none) = some (cc, x) := h
    split at h
    · rename_i o ho
      split at h
      · rename_i ty' sz' r hr
        obtain ⟨g1, g2, g3, _⟩ := rowOf1_spec (M := fun _ => none) (ρ := fun _ => none) (w := default) (s := 0) hr
        refine ⟨o, ho, g1, fun sz hsz => ?_⟩
        split at h
        · rename_i e
          rw [Bool.and_eq_true] at e
          rw [hsz] at g2; cases g2
          have e2 := Nat.eq_of_beq_eq_true e.2
          exact ⟨by simp only [Cel.obj, SObj.sz?]; rw [← e2], by rw [g3]; rfl⟩
        · cases h
      · cases h
    · cases h
  | map d k v =>
    cases hs
    have h : (match H[s]? with
      | some (.tmap k' v' l) => match castMap k' v' k v l with
        | some l => some (true, l)
        | none => none
      | some (.map es c) => match Nat.beq c es.length && k.scalar with
        | true => entData k v H n 0 es
        | false => none
      | _ => none) = some (cc, x) := h
    split at h
    · rename_i k' v' l ho
      exact ⟨_, ho, rfl, fun sz hsz => by cases hsz⟩
    · rename_i es c ho
      exact ⟨_, ho, rfl, fun sz hsz => by cases hsz⟩
    · cases h
  | iter d =>
    cases hs
    have h : (match H[s]? with
      | some (.iter b pos) => some (true, (b, pos))
      | _ => none) = some (cc, x) := h
    split at h
    · rename_i b pos ho
      exact ⟨_, ho, rfl, fun sz hsz => by cases hsz⟩
    · cases h
theorem Cel.get_obj {M : Imm} {ρ : Env} {w : World} {T : TT} {H H1 : List SObj} {n : Nat} (hm : Mem M ρ H w) {c : Cel} {cc : Bool} {x : c.El} {s : Nat} (h : c.get T H n = some (cc, x)) (hc : cc = true) (hs : c.id? = some s) (hsn : s < n)
    (hlk : ∀ q ∈ c.lnks, LenLike n H H1 q.2) : OwnAt (M.sealing ρ H n w) (ρ.cut n) w s (c.obj H1 x) := by
  have hle := Imm.seal_le M ρ H n w
  have hcut : (ρ.cut n) s = ρ s := by simp [Env.cut, hsn]
  cases c with
  | slot => cases hs
  | vec d ty row =>
    cases hs
    have h : (match H[s]? with
      | some (.tvec ty' row' l) => match Nat.beq ty' ty with
        | true => match castRows row' row l with
          | some l => some (true, l)
          | none => none
        | false => none
      | some (.vec ty' sz rows) => match Nat.beq ty' ty && Nat.beq sz row.length with
        | true => match mapO (ofRow row) rows with
          | some l => some (true, l)
          | none => none
        | false => none
      | some (.mix ty' sz rows) => match Nat.beq ty' ty && Nat.beq sz row.length with
        | true => mapC (rdRow H n row) rows
        | false => none
      | _ => none) = some (cc, x) := h
    show OwnAt _ _ w s (.tvec ty row x)
    split at h
    · rename_i ty' row' l ho
      split at h
      · rename_i e
        have e := Nat.eq_of_beq_eq_true e
        subst e
        split at h
        · rename_i l' hl
          cases h
          obtain ⟨e, rfl⟩ := castRows_eq hl
          subst e
          have h0 : OwnAt M ρ w s (.tvec ty' row' l) := hm.own s _ ho
          replace h0 : OwnAt M ρ w s (.vec ty' row'.length (rowsPV row' l)) := h0
          exact h0.vecMix.retypeM hle hcut (.self hle l)
        · cases h
      · cases h
    · rename_i ty' sz rows ho
      split at h
      · rename_i e
        rw [Bool.and_eq_true] at e
        have e1 := Nat.eq_of_beq_eq_true e.1
        have e2 := Nat.eq_of_beq_eq_true e.2
        subst e1; subst e2
        split at h
        · rename_i l hl
          cases h
          have h0 : OwnAt M ρ w s (.vec ty' row.length rows) := hm.own s _ ho
          exact h0.vecMix.retypeM hle hcut (RowsFor.of hle hl)
        · cases h
      · cases h
    · rename_i ty' sz rows ho
      split at h
      · rename_i e
        rw [Bool.and_eq_true] at e
        have e1 := Nat.eq_of_beq_eq_true e.1
        have e2 := Nat.eq_of_beq_eq_true e.2
        subst e1; subst e2
        have h0 : OwnAt M ρ w s (.mix ty' row.length rows) := hm.own s _ ho
        exact h0.retypeM hle hcut (mapC_ok (rdRow_sound n hm row) _ _ _ h hc)
      · cases h
    · cases h
  | one d ty row =>
    cases hs
    have h : (match H[s]? with
      | some o => match rowOf1 o with
        | some (ty', sz, r) => match Nat.beq ty' ty && Nat.beq sz row.length with
          | true => rdRow H n row r
          | false => none
        | none => none
      | none => none) = some (cc, x) := h
    show OwnAt _ _ w s (.vec ty row.length [rowPV row x])
    split at h
    · rename_i o ho
      split at h
      · rename_i ty' sz' r hr
        split at h
        · rename_i e
          rw [Bool.and_eq_true] at e
          have e1 := Nat.eq_of_beq_eq_true e.1
          have e2 := Nat.eq_of_beq_eq_true e.2
          subst e1; subst e2
          have h0 := (rowOf1_spec (M := M) (ρ := ρ) (w := w) (s := s) hr).2.2.2 (hm.own s _ ho)
          have := rdRow_sound n hm row r cc x h hc
          have hrf : RowsFor M ρ (M.sealing ρ H n w) row [r] [x] := ⟨rfl, fun i y hy => by
            match i, hy with
            | 0, hy => cases hy; exact ⟨r, rfl, this⟩
            | i + 1, hy => cases hy⟩
          exact OwnAt.retypeM (l := [x]) hle hcut hrf h0
        · cases h
      · cases h
    · cases h
  | mix d ty sz0 dat lnk =>
    cases hs
    have h : (match H[s]? with
      | some o => match rowOf1 o with
        | some (ty', sz', r) => match Nat.beq ty' ty && Nat.beq sz' sz0 with
          | true => match getLk H n r lnk with
            | some c => match getPl H n r dat with
              | some x => some (c && x.1, x.2)
              | none => none
            | none => none
          | false => none
        | none => none
      | none => none) = some (cc, x) := h
    show OwnAt _ _ w s (.mix ty sz0 [setLk H1 lnk (setPl dat x (List.replicate sz0 .any))])
    split at h
    · rename_i o ho
      split at h
      · rename_i ty' sz' r hr
        split at h
        · rename_i e
          rw [Bool.and_eq_true] at e
          have e1 := Nat.eq_of_beq_eq_true e.1
          have e2 := Nat.eq_of_beq_eq_true e.2
          subst e1; subst e2
          split at h
          · rename_i c1 hl1
            split at h
            · rename_i x1 hx1
              cases h
              rw [Bool.and_eq_true] at hc
              have h0 := (rowOf1_spec (M := M) (ρ := ρ) (w := w) (s := s) hr).2.2.2 (hm.own s _ ho)
              refine OwnAt.remix hcut (by rw [setLk_len, setPl_len, List.length_replicate]) (fun j y hy => ?_) h0
              rcases setLk_get hy with ⟨q, hq, rfl, rfl⟩ | hy
              · obtain ⟨x, g1, g2⟩ := getLk_in hl1 hc.1 q hq
                exact .inr ⟨x, g1, fun u hu => ckLk_sound hm hle g2 (hlk q hq) hu⟩
              · rcases setPl_get hy with ⟨a, z, hz, rfl⟩ | hy
                · obtain ⟨x, g1, g2⟩ := getPl_in (c := x1.1) (x := x1.2) hx1 hc.2 j a z hz
                  exact .inr ⟨x, g1, fun u hu => rdA_sound hm g2 rfl hu⟩
                · rw [List.getElem?_replicate] at hy
                  split at hy
                  · cases hy; exact .inl rfl
                  · cases hy
            · cases h
          · cases h
        · cases h
      · cases h
    · cases h
  | map d k v =>
    cases hs
    have h : (match H[s]? with
      | some (.tmap k' v' l) => match castMap k' v' k v l with
        | some l => some (true, l)
        | none => none
      | some (.map es c) => match Nat.beq c es.length && k.scalar with
        | true => entData k v H n 0 es
        | false => none
      | _ => none) = some (cc, x) := h
    show MapAt _ _ w s (entsFrom k v 0 x) (List.length x)
    split at h
    · rename_i k' v' l ho
      split at h
      · rename_i l' hl
        cases h
        refine castMap_own (ρ2 := ρ) hl ?_
        have h0 : OwnAt M ρ w s (.tmap k' v' l) := hm.own s _ ho
        have := h0.forget (d := junk n H.length) hle (cut_leBut hm n) hcut (fun _ _ => rfl)
        exact this
      · cases h
    · rename_i es c ho
      split at h
      · rename_i e
        rw [Bool.and_eq_true] at e
        exact MapAt.data hm hcut (hm.own s _ ho) (Nat.eq_of_beq_eq_true e.1) e.2 h hc
      · cases h
    · cases h
  | iter d =>
    cases hs
    have h : (match H[s]? with
      | some (.iter b pos) => some (true, (b, pos))
      | _ => none) = some (cc, x) := h
    split at h
    · rename_i b pos ho
      cases h
      obtain ⟨p, h1, h2⟩ := hm.own s _ ho
      exact ⟨p, hcut.trans h1, h2⟩
    · cases h
inductive InCells : (l : List Cel) → CEls l → (c : Cel) → c.El → Prop where
  | one (c : Cel) (x : c.El) : InCells [c] x c x
  | head (c c' : Cel) (l : List Cel) (x : c.El × CEls (c' :: l)) : InCells (c :: c' :: l) x c x.1
  | tail (c c' : Cel) (l : List Cel) (x : c.El × CEls (c' :: l)) (d : Cel) (y : d.El) (h : InCells (c' :: l) x.2 d y) : InCells (c :: c' :: l) x d y
theorem InCells.mem : ∀ {l : List Cel} {x : CEls l} {k : Cel} {z : k.El}, InCells l x k z → k ∈ l
  | _, _, _, _, .one c x => by simp
  | _, _, _, _, .head c c' l x => by simp
  | _, _, _, _, .tail c c' l x d y hi => List.mem_cons_of_mem _ hi.mem
theorem mem_ids {l : List Cel} {x : CEls l} {k : Cel} {z : k.El} {s : Nat} (hi : InCells l x k z) (h : k.id? = some s) : s ∈ l.filterMap Cel.id? := List.mem_filterMap.2 ⟨k, hi.mem, h⟩
theorem getCells_in {T : TT} {H : List SObj} {n : Nat} : ∀ {l : List Cel} {c : Bool} {x : CEls l}, getCells T H n l = some (c, x) → c = true → ∀ (k : Cel) (y : k.El), InCells l x k y → k.get T H n = some (true, y)
  | [], c, x, h, hc, k, y, hi => by cases hi
  | [k0], c, x, h, hc, k, y, hi => by
    cases hi with
    | one => rw [← hc]; exact h
  | k0 :: k1 :: l, c, x, h, hc, k, y, hi => by
    simp only [getCells] at h
    split at h
    · cases h
    · rename_i a h1
      split at h
      · cases h
      · rename_i b h2
        cases h
        rw [Bool.and_eq_true] at hc
        cases hi with
        | head => rw [h1, ← hc.1]
        | tail _ _ _ _ _ _ hi => exact getCells_in (c := b.1) (x := b.2) h2 hc.2 k y hi
theorem Cel.put_H {H0 : List SObj} {c : Cel} {x : c.El} {T : TT} {H : List SObj} {s : Nat} {o : SObj} (h : (c.put H0 x (T, H)).2[s]? = some o) : (c.id? = some s ∧ o = c.obj H0 x) ∨ (c.id? ≠ some s ∧ H[s]? = some o) := by
  have key : ∀ (d : Nat) (ob : SObj), (H.set d ob)[s]? = some o → (some d = some s ∧ o = ob) ∨ (some d ≠ some s ∧ H[s]? = some o) := fun d ob h' => by
    clear h
    rw [List.getElem?_set] at h'
    split at h'
    · rename_i e; subst e
      split at h'
      · cases h'; exact .inl ⟨rfl, rfl⟩
      · cases h'
    · rename_i e; exact .inr ⟨by simp [e], h'⟩
  cases c with
  | slot d ty => exact .inr ⟨by simp [Cel.id?], h⟩
  | vec d ty row => exact key d _ h
  | one d ty row => exact key d _ h
  | mix d ty sz dat lnk => exact key d _ h
  | map d k v => exact key d _ h
  | iter d => exact key d _ h
theorem Cel.put_T {H0 : List SObj} {c : Cel} {x : c.El} {T : TT} {H : List SObj} {t : Nat} {y : SV} (h : (c.put H0 x (T, H)).1.get t = some y) : (∃ (a : ATy) (z : a.El), HEq x z ∧ c = .slot t a ∧ y = a.sv z) ∨ T.get t = some y := by
  cases c with
  | slot d a =>
    rcases TT.get_set _ _ _ _ _ h with ⟨rfl, rfl⟩ | ⟨_, h⟩
    · exact .inl ⟨a, x, HEq.rfl, rfl, rfl⟩
    · exact .inr h
  | vec _ _ _ => exact .inr h
  | one _ _ _ => exact .inr h
  | mix _ _ _ _ _ => exact .inr h
  | map _ _ _ => exact .inr h
  | iter _ => exact .inr h
theorem putCells_T {H0 : List SObj} : ∀ {l : List Cel} {x : CEls l} {T : TT} {H : List SObj} {t : Nat} {y : SV}, (putCells H0 l x (T, H)).1.get t = some y → (∃ (a : ATy) (z : a.El), InCells l x (.slot t a) z ∧ y = a.sv z) ∨ T.get t = some y
  | [], x, T, H, t, y, h => .inr h
  | [c], x, T, H, t, y, h => by
    rcases Cel.put_T h with ⟨a, z, he, rfl, rfl⟩ | h
    · cases he; exact .inl ⟨a, _, .one _ _, rfl⟩
    · exact .inr h
  | c :: c' :: l, x, T, H, t, y, h => by
    have h : (putCells H0 (c' :: l) x.2 ((c.put H0 x.1 (T, H)).1, (c.put H0 x.1 (T, H)).2)).1.get t = some y := h
    rcases putCells_T h with ⟨a, z, hi, hy⟩ | h
    · exact .inl ⟨a, z, .tail _ _ _ _ _ _ hi, hy⟩
    · obtain ⟨x1, x2⟩ := x
      rcases Cel.put_T h with ⟨a, z, he, rfl, rfl⟩ | h
      · cases he; exact .inl ⟨a, _, .head _ _ _ _, rfl⟩
      · exact .inr h
theorem putCells_H {H0 : List SObj} : ∀ {l : List Cel} {x : CEls l} {T : TT} {H : List SObj} {s : Nat} {o : SObj}, (putCells H0 l x (T, H)).2[s]? = some o →
    (∃ (c : Cel) (z : c.El), InCells l x c z ∧ c.id? = some s ∧ o = c.obj H0 z) ∨ (s ∉ l.filterMap Cel.id? ∧ H[s]? = some o)
  | [], x, T, H, s, o, h => .inr ⟨by simp, h⟩
  | [c], x, T, H, s, o, h => by
    rcases Cel.put_H h with ⟨e, ho⟩ | ⟨e, h⟩
    · exact .inl ⟨c, x, .one _ _, e, ho⟩
    · refine .inr ⟨fun hm => ?_, h⟩
      obtain ⟨d, hd, he⟩ := List.mem_filterMap.1 hm
      simp at hd; subst hd; exact e he
  | c :: c' :: l, x, T, H, s, o, h => by
    have h : (putCells H0 (c' :: l) x.2 ((c.put H0 x.1 (T, H)).1, (c.put H0 x.1 (T, H)).2)).2[s]? = some o := h
    rcases putCells_H h with ⟨d, z, hi, he, ho⟩ | ⟨hn, h⟩
    · exact .inl ⟨d, z, .tail _ _ _ _ _ _ hi, he, ho⟩
    · rcases Cel.put_H h with ⟨e, ho⟩ | ⟨e, h⟩
      · exact .inl ⟨c, x.1, .head _ _ _ _, e, ho⟩
      · refine .inr ⟨fun hm => ?_, h⟩
        obtain ⟨d, hd, he⟩ := List.mem_filterMap.1 hm
        rcases List.mem_cons.1 hd with rfl | hd
        · exact e he
        · exact hn (List.mem_filterMap.2 ⟨d, hd, he⟩)
theorem Cel.put_len {H0 : List SObj} {c : Cel} {x : c.El} {T : TT} {H : List SObj} : (c.put H0 x (T, H)).2.length = H.length := by
  cases c <;> simp [Cel.put]
theorem putCells_len {H0 : List SObj} : ∀ {l : List Cel} {x : CEls l} {T : TT} {H : List SObj}, (putCells H0 l x (T, H)).2.length = H.length
  | [], x, T, H => rfl
  | [c], x, T, H => Cel.put_len
  | c :: c' :: l, x, T, H => by
    show (putCells H0 (c' :: l) x.2 ((c.put H0 x.1 (T, H)).1, (c.put H0 x.1 (T, H)).2)).2.length = H.length
    rw [putCells_len, Cel.put_len]
theorem killAll_get : ∀ {l : List Nat} {H : List SObj} {s : Nat} {o : SObj}, (killAll l H)[s]? = some o → (s ∈ l ∧ o = .dead) ∨ (s ∉ l ∧ H[s]? = some o)
  | [], H, s, o, h => .inr ⟨by simp, h⟩
  | i :: l, H, s, o, h => by
    simp only [killAll] at h
    rcases killAll_get h with ⟨h1, h2⟩ | ⟨h1, h2⟩
    · exact .inl ⟨List.mem_cons_of_mem _ h1, h2⟩
    · rw [List.getElem?_set] at h2
      split at h2
      · rename_i e; subst e
        split at h2
        · cases h2; exact .inl ⟨List.mem_cons_self, rfl⟩
        · cases h2
      · rename_i e; exact .inr ⟨by simp only [List.mem_cons, not_or]; exact ⟨fun h => e h.symm, h1⟩, h2⟩
theorem killAll_len : ∀ {l : List Nat} {H : List SObj}, (killAll l H).length = H.length
  | [], H => rfl
  | i :: l, H => by simp [killAll, killAll_len]
theorem drop_get : ∀ {D : List Nat} {T : TT} {t : Nat} {y : SV}, (T.drop D).get t = some y → y = .any ∨ (t ∉ D ∧ T.get t = some y)
  | [], T, t, y, h => .inr ⟨by simp, h⟩
  | d :: D, T, t, y, h => by
    simp only [TT.drop] at h
    rcases drop_get h with h | ⟨h1, h2⟩
    · exact .inl h
    · rcases TT.get_set _ _ _ _ _ h2 with ⟨_, rfl⟩ | ⟨e, h2⟩
      · exact .inl rfl
      · exact .inr ⟨by simp [h1, e], h2⟩
theorem putOwns_get {H : List SObj} : ∀ {l : List (Nat × Lk)} {T : TT} {t : Nat} {y : SV}, (putOwns H l T).get t = some y → (∃ q ∈ l, q.1 = t ∧ y = lkSV H q.2) ∨ T.get t = some y
  | [], T, t, y, h => .inr h
  | q :: l, T, t, y, h => by
    simp only [putOwns] at h
    rcases putOwns_get h with ⟨q', h1, h2⟩ | h
    · exact .inl ⟨q', List.mem_cons_of_mem _ h1, h2⟩
    · rcases TT.get_set _ _ _ _ _ h with ⟨rfl, rfl⟩ | ⟨_, h⟩
      · exact .inl ⟨q, List.mem_cons_self, rfl, rfl⟩
      · exact .inr h
theorem forgetH_get {mv : List Nat} {H : List SObj} {s : Nat} {o : SObj} (h : (forgetH mv H)[s]? = some o) : ∃ x, H[s]? = some x ∧ (o = x.forget mv ∨ (mv = [] ∧ o = x)) := by
  unfold forgetH at h
  split at h
  · exact ⟨o, h, .inr ⟨rfl, rfl⟩⟩
  · simp only [List.getElem?_map, Option.map_eq_some_iff] at h
    obtain ⟨x, hx, rfl⟩ := h
    exact ⟨x, hx, .inl rfl⟩
theorem forgetH_len {mv : List Nat} {H : List SObj} : (forgetH mv H).length = H.length := by
  unfold forgetH; split <;> simp
def Tmpl.H1 (τ : Tmpl) (ids mv : List Nat) (b : St) (x : τ.El) : List SObj := (putCells [] τ.cells x (.nil, killAll ids (forgetH mv b.H))).2
theorem Tmpl.st_H (τ : Tmpl) (D ids mv : List Nat) (b : St) (x : τ.El) : (τ.st D ids mv b x).H = (putCells (τ.H1 ids mv b x) τ.cells x ((forgetT mv b.T).drop D, killAll ids (forgetH mv b.H))).2 := by
  unfold Tmpl.st Tmpl.H1; rfl
theorem Tmpl.st_T (τ : Tmpl) (D ids mv : List Nat) (b : St) (x : τ.El) : (τ.st D ids mv b x).T = putOwns (τ.H1 ids mv b x) τ.owns (putCells (τ.H1 ids mv b x) τ.cells x ((forgetT mv b.T).drop D, killAll ids (forgetH mv b.H))).1 := by
  unfold Tmpl.st Tmpl.H1; rfl
theorem Tmpl.st_rest (τ : Tmpl) (D ids mv : List Nat) (b : St) (x : τ.El) : (τ.st D ids mv b x).n0 = b.H.length ∧ (τ.st D ids mv b x).tch = ids ∧ (τ.st D ids mv b x).fg = mv ∧ (τ.st D ids mv b x).marks = [] ∧ (τ.st D ids mv b x).er = D := by
  unfold Tmpl.st; split; split; exact ⟨rfl, rfl, rfl, rfl, rfl⟩
theorem absorb {B : Nat → Value} {nt : Nat} {τ : Tmpl} {D ids mv : List Nat} {b s' : St} {H0 : List SObj} {M0 M' : Imm} {ρ0 ρ' : Env} {a0 a' : Act} {w0 w' : World} {c : Bool} {x : τ.El}
    (hB : ∀ t, t ∉ D → a0.tmps.getD t undef = B t) (hb : BaseAt D ids mv b M0 ρ0 H0 a0 w0) (hm0 : Mem M0 ρ0 H0 w0)
    (hg : Good B nt M' ρ' s' a' w') (hf : Fr M0 ρ0 H0 w0 M' ρ' s'.H w' b.H.length s'.tch s'.fg) (hmv : subset mv ids = true) (hcov : τ.covers ids = true)
    (hr : s'.reads D ids mv b.H.length = true) (hx : τ.read b.H.length s' = some (c, x)) (hc : c = true) :
    ∃ M'' ρ'', Good B nt M'' ρ'' (τ.st D ids mv b x) a' w' ∧ Fr M0 ρ0 H0 w0 M'' ρ'' (τ.st D ids mv b x).H w' b.H.length ids mv ∧ M'' = M'.sealing ρ' s'.H b.H.length w' ∧ ρ'' = ρ'.cut b.H.length := by
  simp only [St.reads, Bool.and_eq_true] at hr
  unfold Tmpl.covers at hcov
  simp only [Bool.and_eq_true] at hcov
  obtain ⟨hcov, hcov1, hcov2⟩ := hcov
  obtain ⟨r1, r2, r3, r4, r5⟩ := hr
  have r4 : s'.marks = [] := by simpa using r4
  have r5 := Nat.le_of_ble_eq_true r5
  unfold Tmpl.read at hx
  split at hx
  · rename_i c1 howns
    split at hx
    · rename_i x0 hcells
      cases hx
      rw [Bool.and_eq_true] at hc
      obtain ⟨e1, e2, e3, e4, e5⟩ := Tmpl.st_rest τ D ids mv b x0.2
      have hL : (τ.st D ids mv b x0.2).H.length = b.H.length := by rw [Tmpl.st_H, putCells_len, killAll_len, forgetH_len]
      have hL1 : (τ.H1 ids mv b x0.2).length = b.H.length := by unfold Tmpl.H1; rw [putCells_len, killAll_len, forgetH_len]
      have hmem := getCells_in (c := x0.1) (x := x0.2) hcells hc.2
      have hle := Imm.seal_le M' ρ' s'.H b.H.length w'
      have hlen : ∀ s, s ∈ τ.cells.filterMap Cel.id? → LenLike b.H.length s'.H (τ.H1 ids mv b x0.2) (.own s) := fun s hs hsn o sz ho hsz => by
        have hs1 : s < (τ.H1 ids mv b x0.2).length := by rw [hL1]; exact hsn
        obtain ⟨o1, ho1⟩ : ∃ o1, (τ.H1 ids mv b x0.2)[s]? = some o1 := ⟨_, List.getElem?_eq_getElem hs1⟩
        refine ⟨o1, ho1, ?_⟩
        have ho1' := ho1
        unfold Tmpl.H1 at ho1'
        rcases putCells_H ho1' with ⟨k, z, hi, hk, rfl⟩ | ⟨hn, _⟩
        · obtain ⟨o2, q1, _, q3⟩ := Cel.get_len (H1 := []) (hmem k z hi) rfl hk
          rw [ho] at q1; cases q1
          exact q3 sz hsz
        · exact absurd hs hn
      have hlk : ∀ lk : Lk, lk.inn (τ.cells.filterMap Cel.id?) = true → LenLike b.H.length s'.H (τ.H1 ids mv b x0.2) lk := fun lk h => by
        cases lk with
        | stat y => trivial
        | own s => exact hlen s (by simpa [Lk.inn] using h)
      have hobj : ∀ s o, (τ.st D ids mv b x0.2).H[s]? = some o → s < b.H.length ∧ ((∃ (k : Cel) (z : k.El), InCells τ.cells x0.2 k z ∧ k.id? = some s ∧ o = k.obj (τ.H1 ids mv b x0.2) z) ∨ o = .dead ∨ (s ∉ ids ∧ ∃ o0, b.H[s]? = some o0 ∧ (o = o0.forget mv ∨ (mv = [] ∧ o = o0)))) := fun s o ho => by
        have hs : s < b.H.length := by rw [← hL]; exact (List.getElem?_eq_some_iff.1 ho).1
        refine ⟨hs, ?_⟩
        rw [Tmpl.st_H] at ho
        rcases putCells_H ho with ⟨k, z, hi, hk, e⟩ | ⟨_, ho⟩
        · exact .inl ⟨k, z, hi, hk, e⟩
        · rcases killAll_get ho with ⟨_, e⟩ | ⟨hn, ho⟩
          · exact .inr (.inl e)
          · exact .inr (.inr ⟨hn, forgetH_get ho⟩)
      have hcut : ∀ s, s < b.H.length → ρ'.cut b.H.length s = ρ' s := fun s hs => by simp [Env.cut, hs]
      have hstay : ∀ s, s < b.H.length → s ∉ mv → ρ' s = ρ0 s := fun s hs hn => hf.stay s hs fun h => hn (subset_mem r3 h)
      have hbut : Env.leBut mv ρ0 (ρ'.cut b.H.length) := fun s p hs hp => by
        have hn : s ∉ mv := by simpa using hs
        rcases Nat.lt_or_ge s b.H.length with h | h
        · rw [hcut s h, hstay s h hn]; exact hp
        · rw [hm0.fresh s (by rw [hb.len]; exact h)] at hp; cases hp
      have hsame : ∀ s o0, s ∉ ids → b.H[s]? = some o0 → o0.live = true → ∀ p, ρ0 s = some p → w'.heap[p.block]? = w0.heap[p.block]? := fun s o0 hn ho hl p hp => by
        obtain ⟨o', h1, h2⟩ := (hb.objs s o0 hn ho).2 hl
        exact ((hf.keep s o' ((List.getElem?_eq_some_iff.1 ho).1) (fun h => hn (subset_mem r2 h)) h1 h2).2 p hp).2
      have himm : M0.le (M'.sealing ρ' s'.H b.H.length w') := Imm.le_trans hf.imm hle
      have hlive : ∀ (s : Nat) (o : SObj), (τ.st D ids mv b x0.2).H[s]? = some o → o.live = true → ∃ o' : SObj, s'.H[s]? = some o' ∧ o'.live = true := fun s o ho hl => by
        obtain ⟨hs, ⟨k, z, h1, h2, rfl⟩ | rfl | ⟨hn, o0, h1, h2⟩⟩ := hobj s o ho
        · obtain ⟨o', g1, g2, _⟩ := Cel.get_len (H1 := []) (hmem k z h1) rfl h2
          exact ⟨o', g1, g2⟩
        · cases hl
        · have hl0 : o0.live = true := by
            rcases h2 with rfl | ⟨_, rfl⟩
            · rwa [forget_live] at hl
            · exact hl
          obtain ⟨o', g1, g2⟩ := (hb.objs s o0 hn h1).2 hl0
          exact (hf.keep s o' hs (fun h => hn (subset_mem r2 h)) g1 g2).1
      have hmem'' : Mem (M'.sealing ρ' s'.H b.H.length w') (ρ'.cut b.H.length) (τ.st D ids mv b x0.2).H w' := by
        refine ⟨fun bb o hbb => ?_, fun s o ho => ?_, fun s o p ho hl hp => ?_, fun s s1 o o1 p p1 ho ho1 hl hl1 hp hp1 hbk => ?_, fun s hs => ?_⟩
        · cases e : M' bb with
          | some o' => rw [hle bb o' e] at hbb; cases hbb; exact hg.mem.imm bb _ e
          | none => exact (Imm.seal_new e hbb).2
        · obtain ⟨hs, ⟨k, z, h1, h2, rfl⟩ | rfl | ⟨hn, o0, h1, h2⟩⟩ := hobj s o ho
          · refine Cel.get_obj hg.mem (hmem k z h1) rfl h2 hs fun q hq => hlk q.2 ?_
            have := List.all_eq_true.1 hcov1 k h1.mem
            exact List.all_eq_true.1 this q hq
          · trivial
          · have h0 := (hb.objs s o0 hn h1).1
            have hnm : s ∉ mv := fun h => hn (subset_mem hmv h)
            by_cases hl : o0.live = true
            · have h3 := h0.forget (d := mv) himm hbut ((hcut s hs).trans (hstay s hs hnm)) (fun p hp => hsame s o0 hn h1 hl p hp)
              rw [SObj.forget_twice] at h3
              rcases h2 with rfl | ⟨rfl, rfl⟩
              · exact h3
              · rwa [SObj.forget_nil] at h3
            · have e0 := live_some hl
              subst e0
              rcases h2 with rfl | ⟨_, rfl⟩ <;> trivial
        · obtain ⟨o', h1, h2⟩ := hlive s o ho hl
          have hs := (hobj s o ho).1
          rw [hcut s hs] at hp
          cases e : M'.sealing ρ' s'.H b.H.length w' p.block with
          | none => rfl
          | some ob =>
            obtain ⟨⟨s2, o2, p2, q1, q2, q3, q4, q5⟩, _⟩ := Imm.seal_new (hg.mem.sep s o' p h1 h2 hp) e
            have hl2 : o2.live = true := by cases o2 <;> simp_all [SObj.rowsy, SObj.live]
            have := hg.mem.dis s s2 o' o2 p p2 h1 q2 h2 hl2 hp q4 q5.symm
            omega
        · obtain ⟨o', h1, h2⟩ := hlive s o ho hl
          obtain ⟨o1', k1, k2⟩ := hlive s1 o1 ho1 hl1
          rw [hcut s (hobj s o ho).1] at hp
          rw [hcut s1 (hobj s1 o1 ho1).1] at hp1
          exact hg.mem.dis s s1 o' o1' p p1 h1 k1 h2 k2 hp hp1 hbk
        · rw [hL] at hs
          simp [Env.cut, Nat.not_lt.2 hs]
      refine ⟨M'.sealing ρ' s'.H b.H.length w', ρ'.cut b.H.length, ⟨fun t y hy => ?_, hg.sz, hmem'', ?_, fun m hm => ?_, by rw [e1, hL]; exact Nat.le_refl _, fun t ht => ?_⟩, ?_, rfl, rfl⟩
      · rw [Tmpl.st_T] at hy
        rcases putOwns_get hy with ⟨q, hq, rfl, rfl⟩ | hy
        · obtain ⟨x, g1, g2⟩ := getOwns_in howns hc.1 q hq
          exact ckLk_sound hg.mem hle g2 (hlk q.2 (List.all_eq_true.1 hcov q hq)) (hg.tm q.1 x g1)
        · rcases putCells_T hy with ⟨a, z, hi, rfl⟩ | hy
          · have hz := hmem _ _ hi
            have hz : (match s'.T.get t with
              | some x => rdA s'.H b.H.length a x
              | none => none) = some (true, z) := hz
            split at hz
            · rename_i x hx
              exact rdA_sound hg.mem hz rfl (hg.tm t x hx)
            · cases hz
          · rcases drop_get hy with rfl | ⟨hn, hy⟩
            · exact .any _
            · obtain ⟨y0, hy0, hyy⟩ := lookup_forgetT hy
              have hsl := hb.slots t y0 hn hy0
              have ht' : a'.tmps.getD t undef = a0.tmps.getD t undef := by
                rw [hg.fix t fun h => hn (subset_mem r1 h), hB t hn]
              rw [ht']
              have h3 := hsl.forget (d := mv) himm hbut
              rw [SV.forget_twice] at h3
              rcases hyy with rfl | ⟨rfl, rfl⟩
              · exact h3
              · rwa [SV.forget_nil] at h3
      · rw [e4]
        have := hg.df
        rw [r4] at this
        exact ⟨this.1, fun i d s _ h => by simp at h⟩
      · rw [e4] at hm; cases hm
      · rw [e5] at ht
        exact hg.fix t fun h => ht (subset_mem r1 h)
      · refine ⟨himm, fun bb o h0 h1 => ?_, fun bb hbb => ?_, hf.same, hf.grow, fun s o hs hx ho hl => ?_, fun s hs hx => ?_, hf.io⟩
        · cases e : M' bb with
          | some o' => exact hf.new bb o' h0 e
          | none =>
            obtain ⟨⟨s2, o2, p2, q1, q2, q3, q4, q5⟩, _⟩ := Imm.seal_new e h1
            exact hf.own bb ⟨s2, o2, p2, q2, by cases o2 <;> simp_all [SObj.rowsy, SObj.live], q4, q5⟩
        · obtain ⟨s, o, p, h1, h2, h3, h4⟩ := hbb
          obtain ⟨o', k1, k2⟩ := hlive s o h1 h2
          rw [hcut s (hobj s o h1).1] at h3
          exact hf.own bb ⟨s, o', p, k1, k2, h3, h4⟩
        · have hs2 : s < (τ.st D ids mv b x0.2).H.length := by rw [hL]; exact hs
          have hns : s ∉ s'.tch := fun h => hx (subset_mem r2 h)
          obtain ⟨_, k3⟩ := hf.keep s o hs hns ho hl
          refine ⟨?_, fun p hp => ?_⟩
          · obtain ⟨o0, g1, g2⟩ := hb.back s o hx ho hl
            have hns2 : s ∉ τ.cells.filterMap Cel.id? := fun h => hx (subset_mem hcov2 h)
            obtain ⟨on, hst⟩ : ∃ on, (τ.st D ids mv b x0.2).H[s]? = some on := ⟨_, List.getElem?_eq_getElem hs2⟩
            refine ⟨on, hst, ?_⟩
            have hst2 := hst
            rw [Tmpl.st_H] at hst2
            rcases putCells_H hst2 with ⟨k', z', hi, hk, _⟩ | ⟨_, hh⟩
            · exact absurd (mem_ids hi hk) hns2
            · rcases killAll_get hh with ⟨h1, _⟩ | ⟨_, h2⟩
              · exact absurd h1 hx
              · obtain ⟨o2, n1, n2⟩ := forgetH_get h2
                rw [g1] at n1; cases n1
                rcases n2 with e | ⟨_, e⟩
                · rw [e, live_forget]; exact g2
                · rw [e]; exact g2
          · obtain ⟨k4, k5⟩ := k3 p hp
            exact ⟨by rw [hcut s hs]; exact k4, k5⟩
        · rw [hcut s hs]; exact hstay s hs hx
    · cases hx
  · cases hx
end Go.Sx
