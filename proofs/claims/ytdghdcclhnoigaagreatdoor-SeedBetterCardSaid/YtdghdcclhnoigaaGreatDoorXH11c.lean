/- Plain law of SeedBetter: the whole. -/
import Derived.Test.YtdghdcclhnoigaaGreatDoorXTryzL11
set_option maxRecDepth 100000
set_option linter.all false
namespace Go.Proofs.Tryz
open Go Go.Sx
theorem ltE_no {l : List Ent} {x y : Int} : ltE l x y = false ↔ wE (atE l x) ≤ wE (atE l y) := by unfold ltE; simp
theorem eqvE {l : List Ent} {x y : Int} (h : wE (atE l x) = wE (atE l y)) : eqvB (ltE l) x y = true := by
  unfold eqvB; rw [ltE_no.2 (by omega), ltE_no.2 (by omega)]; rfl
theorem better_pos {l m : List Ent} {d L M : List Int} (hd : d.Nodup) (hL : StabS (ltE l) d L) (hM : StabS (ltE m) d M) {k : Int} (hk : k ∈ d) (hs : ∀ j ∈ d, j ≠ k → wE (atE m j) = wE (atE l j)) (hb : wE (atE l k) ≤ wE (atE m k))
    {p q : Nat} (hp : L[p]? = some k) (hq : M[q]? = some k) : q ≤ p := by
  have hLn : L.Nodup := hL.1.nodup_iff.2 hd
  have hMn : M.Nodup := hM.1.nodup_iff.2 hd
  refine bef_count hLn hMn hp hq fun j hj => ?_
  have hjd : j ∈ d := hM.1.mem_iff.1 (bef_mem hj).1
  have hne : j ≠ k := fun e => by subst e; exact bef_asym hMn hj hj
  have e1 : wE (atE m k) ≤ wE (atE m j) := ltE_no.1 (bef_sorted (r := leB (ltE m)) hM.2.1 hj)
  rw [hs j hjd hne] at e1
  rcases bef_total (hL.1.mem_iff.2 hjd) (hL.1.mem_iff.2 hk) hne with h | h
  · exact h
  · have e2 : wE (atE l j) ≤ wE (atE l k) := ltE_no.1 (bef_sorted (r := leB (ltE l)) hL.2.1 h)
    have e3 : wE (atE m k) = wE (atE m j) := by rw [hs j hjd hne]; omega
    have h1 := (stab_bef hM hd hk (eqvE e3) (eqvE rfl)).2 hj
    exact (stab_bef hL hd hk (eqvE (show wE (atE l k) = wE (atE l j) by omega)) (eqvE rfl)).1 h1
theorem bind_post {α β : Type} {o : Option α} {k : α → Option β} {P : β → Prop} (Post : α → Prop) (h : ∃ v, o = some v ∧ Post v) (hk : ∀ v, Post v → ∃ r, k v = some r ∧ P r) : ∃ r, Option.bind o k = some r ∧ P r := by
  obtain ⟨v, rfl, hv⟩ := h
  exact hk v hv
theorem get_atE {l : List Ent} {x : Int} {i : Nat} {e : Ent} (hx : x = i) (h : l[i]? = some e) : atE l x = e := by
  subst hx; unfold atE; rw [Int.toNat_natCast, getD_some h]
theorem law11 (a : List Ent × Int × Int) (hok : AEls.ok [.val (.seq [.str, .str, .str, .int .i64, .str]), .val (.int .i64), .val (.int .u8)] a) : ∃ F, c11 F a = some true := by
  obtain ⟨l, key, pick⟩ := a
  obtain ⟨⟨hb, -⟩, -, hpick⟩ := hok
  have hpick : (0 : Int) ≤ pick ∧ pick ≤ 255 := hpick
  have hF1 : l.length < l.length + 400 := by omega
  have hF : 400 ≤ l.length + 400 := by omega
  refine ⟨l.length + 400, ?_⟩
  generalize l.length + 400 = F at hF hF1
  unfold c11
  obtain ⟨b, h17, hshort⟩ := l17 hF (l := l) (n := 24) (by omega)
  have h17' : c17 F (l, 24) = some b := h17
  simp only [l15 hF1 (show l.length * 72 ≤ 140737488351232 from hb), Option.bind_some, h17']
  cases b with
  | false => rfl
  | true =>
    obtain ⟨s1, s2, s3⟩ := hshort rfl
    have hl300 : l.length ≤ 300 := by omega
    simp only [Bool.not_true, cond_false, l18 hF hl300, l22n, l20 hF hl300 s3, Option.bind_some]
    by_cases h0 : entC l = 0
    · have hent := entC_ok h0
      by_cases hd : drawE key l.length = 0
      · obtain ⟨d1, d2⟩ := drawE_ok hd
        have hs1 : l.length ≤ 24 := by have := hent.len; omega
        have hst := (ordE_stab hF hent d1 d2).2
        have hperm := ord_perm hent d1 d2
        have hdp := drawS_perm (key := key) (by omega) d2 l.length
        have hdn : (drawS key l.length).Nodup := hdp.nodup_iff.2 (ids_nodup _)
        have hdl : (drawS key l.length).length = l.length := drawS_len d1 d2
        have hdi := drawS_in (n := l.length) d1 d2
        simp only [h0, hd, ne_eq, not_true_eq_false, if_false, decide_true, Bool.not_true, cond_false, Option.bind_some]
        have hlist : (ordE l key :: nilT (List Int)) = [ordE l key] := rfl
        simp only [hlist, l37 hF (show l.length ≤ 1000 by omega) (h := [ordE l key]) (fun g hg => by rw [List.mem_singleton.1 hg, hperm.length_eq, ids_length]; omega), form_one hperm, decide_true, Bool.not_true, Option.bind_some, cond_false]
        simp (disch := omega) only [gd_dec, l59 hF d1 d2 (show l.length ≤ 256 by omega), Option.bind_some]
        generalize hdd : drawS key l.length = d at hst hdp hdn hdl hdi
        generalize hLL : ordE l key = L at hst hperm
        have hLlen : L.length = l.length := by rw [hperm.length_eq, ids_length]
        have hLn : L.Nodup := hperm.nodup_iff.2 (ids_nodup _)
        have hLi : ∀ x ∈ L, InE l.length x := fun x hx => mem_ids.1 (hperm.mem_iff.1 hx)
        refine ex_eq (drawn_loop hdn hdi (by omega) (by omega) fun D hDl hD => ?_)
        refine bind_inv (fun v : Int => ∃ i : Nat, v = i ∧ 1 ≤ i) (fun v => l.length + 1 - v.toNat) (fun b => b = .inr ()) ?_ ⟨1, rfl, Nat.le_refl _⟩ (by simp; omega) ?_
        · rintro v ⟨i, rfl, hi⟩
          by_cases hil : i < L.length
          · left
            have hw : w64 ((i : Int) - 1) = ((i - 1 : Nat) : Int) := by rw [w64_in (by omega) (by omega)]; omega
            have hy : L[i]? = some L[i] := List.getElem?_eq_getElem hil
            have hx : L[i - 1]? = some (L[i - 1]'(by omega)) := List.getElem?_eq_getElem (by omega)
            generalize L[i] = y at hy
            generalize L[i - 1]'(by omega) = x at hx
            have hbef : Bef L x y := bef_adj (i := i - 1) hx (by rw [show i - 1 + 1 = i by omega]; exact hy)
            have hle : wE (atE l y) ≤ wE (atE l x) := ltE_no.1 (bef_sorted (r := leB (ltE l)) hst.2.1 hbef)
            have hym := hLi y (List.mem_of_getElem? hy)
            have hxm := hLi x (List.mem_of_getElem? hx)
            obtain ⟨y', hy', ey⟩ := atE_get hym
            obtain ⟨x', hx', ex⟩ := atE_get hxm
            have hy'm := List.mem_of_getElem? hy'
            have hx'm := List.mem_of_getElem? hx'
            have y1 := hym.1
            have y2 := hym.2
            have x1 := hxm.1
            have x2 := hxm.2
            rw [ex, ey] at hle
            simp (disch := omega) only [cd_pos, hw, gd_dec, Int.toNat_natCast, getD_some hy, getD_some hx, getD_some hy', getD_some hx', l60 F (hent.one y' hy'm).2.2 (hent.one x' hx'm).2.2 (hent.kinds y' hy'm x' hx'm), Option.bind_some]
            have hc0 : ¬ cmpI (wE y') (wE x') < 0 := by
              unfold cmpI; rw [if_neg (by omega)]; split <;> omega
            have hin : (bif decide (cmpI (wE y') (wE x') < 0) then some true else bif decide (cmpI (wE y') (wE x') = 0) then
                gd (decide ((0 : Int) ≤ (i : Int))) (some (decide (D.getD (0 + y.toNat) 0 < D.getD (0 + x.toNat) 0))) else some false) = some false := by
              rw [cd_neg hc0]
              by_cases hc : cmpI (wE y') (wE x') = 0
              · rw [cd_pos hc, gd_dec (by omega)]
                have he : wE y' = wE x' := by
                  unfold cmpI at hc
                  split at hc
                  · cases hc
                  · split at hc
                    · cases hc
                    · omega
                have hyd : y ∈ d := hst.1.mem_iff.1 (List.mem_of_getElem? hy)
                have hxd : x ∈ d := hst.1.mem_iff.1 (List.mem_of_getElem? hx)
                have hbd := (stab_bef hst hdn hyd (eqvE (show wE (atE l y) = wE (atE l x) by rw [ex, ey]; exact he)) (eqvE rfl)).2 hbef
                obtain ⟨u, hu⟩ := List.getElem?_of_mem hxd
                obtain ⟨v, hv⟩ := List.getElem?_of_mem hyd
                have huv := bef_idx hdn hu hv hbd
                rw [Nat.zero_add, Nat.zero_add, hD u x hu, hD v y hv, decide_eq_false (by omega)]
              · rw [cd_neg hc]
            rw [gd_dec (show (0 : Int) ≤ (i : Int) by omega)] at hin
            rw [hin]
            simp only [Option.bind_some, cond_false]
            exact ⟨_, rfl, ⟨i + 1, by rw [w64_in (by omega) (by omega)]; rfl, by omega⟩, by show l.length + 1 - (w64 ((i : Int) + 1)).toNat < l.length + 1 - ((i : Int)).toNat; rw [w64_in (by omega) (by omega)]; omega⟩
          · right
            simp (disch := omega) only [cd_neg]
            exact ⟨_, rfl, rfl⟩
        · rintro _ rfl
          simp only [Sum.elim_inr]
          by_cases hn0 : l.length = 0
          · simp [hn0]
          · have hwp : Go.IntKind.wrap Go.IntKind.i64 pick = pick := w64_in (by omega) (by omega)
            obtain ⟨kn, hkn, hkl⟩ : ∃ kn : Nat, Int.tmod pick (l.length : Int) = (kn : Int) ∧ kn < l.length := by
              refine ⟨pick.toNat % l.length, ?_, Nat.mod_lt _ (by omega)⟩
              rw [Int.tmod_eq_emod_of_nonneg hpick.1, Int.natCast_emod, Int.toNat_of_nonneg hpick.1]
            have hx : l[kn]? = some l[kn] := List.getElem?_eq_getElem hkl
            generalize l[kn] = e at hx
            have hem := List.mem_of_getElem? hx
            have hes := s3 e hem
            have hew := (hent.one e hem).2.2
            have hnl : (nilT (TEnt) ++ l : List Ent) = l := rfl
            simp (disch := omega) only [cd_neg, gd_dec, hnl, hwp, hkn, Int.toNat_natCast, Nat.zero_add, getD_some hx, kT_lit', kN_lit]
            refine bind_post (fun v : List Ent ⊕ List Ent × Bool => (∃ e' : Ent, v = .inl (l.set kn e') ∧ EntS e' ∧ (MarkOk e' → wE e ≤ wE e')) ∨ ∃ z, v = .inr z ∧ z.2 = true) ?_ ?_
            · have hbd := mark_bd hew
              cases hT : strEq e.2.2.1 kT with
              | true =>
                simp (disch := omega) only [cond_true, gd_dec]
                refine ⟨_, rfl, .inl ⟨_, rfl, hes, fun hm => ?_⟩⟩
                have h1 : wE e = -e.2.2.2.1 := wM_eq hT
                have h2 : ∀ v : Int, wE (e.1, e.2.1, e.2.2.1, v, e.2.2.2.2) = -v := fun v => wM_eq hT
                rw [h1, h2, w64_in (by omega) (by omega)]
                have h3 : 1 ≤ e.2.2.2.1 := by
                  have := hew
                  unfold MarkOk markE at this
                  rw [if_neg (by rw [strEq_ne hT rfl]; simp), if_pos hT] at this
                  split at this
                  · cases this
                  · split at this
                    · cases this
                    · omega
                split <;> omega
              | false =>
                simp only [cond_false]
                cases hN : strEq e.2.2.1 kN with
                | true => exact ⟨_, rfl, .inr ⟨_, rfl, rfl⟩⟩
                | false =>
                  simp (disch := omega) only [cond_false, gd_dec]
                  refine ⟨_, rfl, .inl ⟨_, rfl, hes, fun hm => ?_⟩⟩
                  have h1 : wE e = e.2.2.2.1 := by
                    rcases kinds hew with h | h | h
                    · rw [hN] at h; cases h.1
                    · rw [hT] at h; cases h.2.1
                    · exact h.2.2
                  have h2 : ∀ v : Int, MarkOk (e.1, e.2.1, e.2.2.1, v, e.2.2.2.2) → wE (e.1, e.2.1, e.2.2.1, v, e.2.2.2.2) = v := fun v hv => by
                    rcases kinds hv with h | h | h
                    · have := h.1; simp only at this; rw [hN] at this; cases this
                    · have := h.2.1; simp only at this; rw [hT] at this; cases this
                    · exact h.2.2
                  rw [h2 _ hm, h1, w64_in (by omega) (by omega)]
                  omega
            · rintro v (⟨e', rfl, he'S, he'⟩ | ⟨z, rfl, hz⟩)
              · simp only [Sum.elim_inl]
                have hml : (l.set kn e').length = l.length := by simp
                have hS' : ∀ x ∈ l.set kn e', EntS x := fun x hx => by
                  rcases List.mem_or_eq_of_mem_set hx with h | h
                  · exact s3 x h
                  · rw [h]; exact he'S
                have hk' : (l.set kn e')[kn]? = some e' := by simp [hkl]
                have hothers : ∀ j ∈ d, j ≠ (kn : Int) → wE (atE (l.set kn e') j) = wE (atE l j) := fun j hj hne => by
                  have hjm := hdi j hj
                  have h1 := hjm.1
                  unfold atE
                  have : kn ≠ j.toNat := fun q => hne (by omega)
                  simp only [List.getD_eq_getElem?_getD, List.getElem?_set, this, if_false]
                generalize hm : l.set kn e' = m at hml hS' hk' hothers
                have hm300 : m.length ≤ 300 := by omega
                have hg : (true && (decide (l.length = m.length) && true && true && true && true && true)) = true := by simp [hml]
                simp only [gd_of hg, l15 (F := F) (l := m) (by omega) (by rw [hml]; exact hb), l18 hF hm300, l20 hF hm300 hS', Option.bind_some]
                by_cases hm0 : entC m = 0
                · have hment := entC_ok hm0
                  have hd' : drawE key m.length = 0 := by rw [hml]; exact hd
                  have hmperm := ord_perm hment d1 d2
                  have hmst := (ordE_stab hF hment d1 d2).2
                  rw [hml] at hmperm
                  rw [hml, hdd] at hmst
                  have hlist2 : (ordE m key :: nilT (List Int)) = [ordE m key] := rfl
                  simp only [hm0, hd', ne_eq, not_true_eq_false, if_false, decide_true, Bool.not_true, cond_false, Option.bind_some, hlist2, l37 hF (show l.length ≤ 1000 by omega) (h := [ordE m key]) (fun g hg => by rw [List.mem_singleton.1 hg, hmperm.length_eq, ids_length]; omega), form_one hmperm]
                  generalize ordE m key = M at hmperm hmst
                  have hkd : (kn : Int) ∈ d := hdp.mem_iff.2 (mem_ids.2 ⟨by omega, by omega⟩)
                  obtain ⟨p, hp⟩ := List.getElem?_of_mem (hst.1.mem_iff.2 hkd)
                  obtain ⟨q, hq⟩ := List.getElem?_of_mem (hmst.1.mem_iff.2 hkd)
                  have hle := better_pos hdn hst hmst hkd hothers (by rw [get_atE rfl hx, get_atE rfl hk']; exact he' (hment.one e' (List.mem_of_getElem? hk')).2.2) hp hq
                  exact where_loop (P := fun r => r = true) (f := fun v80 : Int × Int => some (decide (v80.2 ≤ v80.1))) hLlen (by rw [hmperm.length_eq, ids_length]) hLn (hmperm.nodup_iff.2 (ids_nodup _)) hp hq (by omega) (by omega) ⟨_, rfl, decide_eq_true (by show (q : Int) ≤ (p : Int); omega)⟩
                · simp [hm0, hml, gd_true]
              · simp only [Sum.elim_inr]
                exact ⟨_, rfl, hz⟩
      · simp [h0, hd]
    · simp [h0]
end Go.Proofs.Tryz
