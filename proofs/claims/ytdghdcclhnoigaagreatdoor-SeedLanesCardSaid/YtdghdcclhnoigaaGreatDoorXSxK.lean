/- Part K of the own logic: an operation in a state; regions in the order of the text. -/
import Derived.Test.YtdghdcclhnoigaaGreatDoorXSxJ
set_option linter.unusedVariables false
set_option linter.unusedSimpArgs false
set_option linter.unnecessarySimpa false
namespace Go.Sx
open Go
structure Cx where
  P : Program
  tab : Tab
  fns : List (Nat × Func)
structure FnsOk (P : Program) (fns : List (Nat × Func)) : Prop where
  ok : ∀ f fn, fns.lookup f = some fn → P.funcs[f]? = some fn ∧ ∀ args w, (callFunc f args).run P w = .ok (.enter f args) w
theorem FnsOk.nil (P : Program) : FnsOk P [] := ⟨fun f fn h => by simp at h⟩
theorem FnsOk.cons {P : Program} {g : Nat} {gn : Func} {rest : List (Nat × Func)} (h1 : P.funcs[g]? = some gn) (h2 : ∀ args w, (callFunc g args).run P w = .ok (.enter g args) w) (hr : FnsOk P rest) : FnsOk P ((g, gn) :: rest) := by
  refine ⟨fun f fn h => ?_⟩
  rw [List.lookup_cons] at h
  split at h
  · rename_i e
    have e : f = g := by simpa using e
    subst e; cases h; exact ⟨h1, h2⟩
  · exact hr.ok f fn h
structure Cx.Ok (c : Cx) : Prop where
  tab : TabOk c.P c.tab
  fns : FnsOk c.P c.fns
  mix : c.P.follows .mixedOrders = true
theorem Cx.Ok.fn {c : Cx} (h : c.Ok) {f : Nat} {fn : Func} (hf : c.fns.lookup f = some fn) : c.P.funcs[f]? = some fn ∧ ∀ args w, (callFunc f args).run c.P w = .ok (.enter f args) w := h.fns.ok f fn hf
def OpGoes (P : Program) (o : Oper) (a : Act) (w : World) (N : Value → World → Prop) : Prop :=
  (∃ v w', ((execOp a.eval o).run P w = .ok (.value v) w' ∨ ((execOp a.eval o).run P w = .ok .skip w' ∧ v = undef)) ∧ N v w') ∨
  (∃ f args w1, (execOp a.eval o).run P w = .ok (.enter f args) w1 ∧ CallsIn Fence.wide 0 P f args w1 fun e w' => ∃ v, e = .returned v ∧ N v w') ∨
  ∃ l f tmps assign body w1, (execOp a.eval o).run P w = .ok (.round l f tmps assign body) w1 ∧ RoundIn Fence.wide 0 P l f tmps assign body w1 fun e w' => ∃ v, e = .returned v ∧ N v w'
theorem OpGoes.mono {P : Program} {o : Oper} {a : Act} {w : World} {N N' : Value → World → Prop} (h : OpGoes P o a w N) (hn : ∀ v w', N v w' → N' v w') : OpGoes P o a w N' := by
  rcases h with ⟨v, w', hr, hN⟩ | ⟨f, args, w1, hr, hc⟩ | ⟨l, f, tmps, as, bd, w1, hr, hc⟩
  · exact .inl ⟨v, w', hr, hn _ _ hN⟩
  · exact .inr (.inl ⟨f, args, w1, hr, hc.mono fun e w' ⟨v, he, hN⟩ => ⟨v, he, hn _ _ hN⟩⟩)
  · exact .inr (.inr ⟨l, f, tmps, as, bd, w1, hr, hc.mono fun e w' ⟨v, he, hN⟩ => ⟨v, he, hn _ _ hN⟩⟩)
def noDefer : Op → Bool
  | .defer _ => false
  | _ => true
theorem OpGoes.wpIn {R : Option Nat} {P : Program} {o : Oper} {a : Act} {w : World} {N : Value → World → Prop} {next : Act → World → Prop} {Q : Exit → Act → World → Prop} (hd : noDefer o.op = true) (h : OpGoes P o a w N)
    (hn : ∀ v w', N v w' → next (a.put o.dst v) w') : o.wpIn (FW R) 0 P a w next Q := by
  refine ⟨fun _ _ => trivial, ?_⟩
  have hs : o.semAt (FW R).round a.eval = execOp a.eval o := Oper.semAt_eq _ _ o fun c hc => by rw [hc] at hd; cases hd
  rw [hs]
  rcases h with ⟨v, w', hr | ⟨hr, rfl⟩, hN⟩ | ⟨f, args, w1, hr, hc⟩ | ⟨l, f, tmps, as, bd, w1, hr, hc⟩
  · rw [hr]; exact hn v w' hN
  · rw [hr]; exact hn _ w' hN
  · rw [hr]
    show (((FW R).depth.isSome = true → 1 ≤ 0) ∧ _)
    refine ⟨fun hx => by simp [FW, Fence.wide] at hx, ?_⟩
    have hc' : CallsIn (FW R) (0 - 1) P f args w1 fun e w' => ∃ v, e = .returned v ∧ N v w' := hc
    refine hc'.mono ?_
    rintro e w' ⟨v, rfl, hN⟩
    exact hn v w' hN
  · rw [hr]
    show (((FW R).depth.isSome = true → 1 ≤ 0) ∧ _)
    refine ⟨fun hx => by simp [FW, Fence.wide] at hx, ?_⟩
    have hc' : RoundIn (FW R) (0 - 1) P l f tmps as bd w1 fun e w' => ∃ v, e = .returned v ∧ N v w' := hc
    refine hc'.mono ?_
    rintro e w' ⟨v, rfl, hN⟩
    exact hn v w' hN
def SRound (P : Program) (s : Nat) (args : List SV) (H : List SObj) (Q : Post) : Prop :=
  ∀ M ρ w p vs, Mem M ρ H w → ρ s = some p → Reps M ρ vs args → ∃ l f tmps assign body w1, (Instr.yield p.block vs.toArray).run P w = .ok (.round l f tmps assign body) w1 ∧
    RoundIn Fence.wide 0 P l f tmps assign body w1 fun e w' => ∃ v r H' M' ρ' tch fg, e = .returned v ∧ Q r H' tch fg ∧ SRep M' ρ' v r ∧ Mem M' ρ' H' w' ∧ Fr M ρ H w M' ρ' H' w' H.length tch fg
theorem SRound.mono {P : Program} {s : Nat} {args : List SV} {H : List SObj} {Q Q' : Post} (h : SRound P s args H Q) (hq : ∀ r H' t g, Q r H' t g → Q' r H' t g) : SRound P s args H Q' :=
  fun M ρ w p vs hm hp hr => let ⟨l, f, tmps, as, bd, w1, hrun, hc⟩ := h M ρ w p vs hm hp hr
    ⟨l, f, tmps, as, bd, w1, hrun, hc.mono fun e w' ⟨v, r, H', M', ρ', t, g, he, q, rest⟩ => ⟨v, r, H', M', ρ', t, g, he, hq _ _ _ _ q, rest⟩⟩
def targetY (ev : Operand → SV) (c : Call) : Option (Nat × List SV) :=
  match c.callee with
  | .value f => match ev f with
    | .yld s => some (s, c.args.toList.map ev)
    | _ => none
  | _ => none
def target (ev : Operand → SV) (c : Call) : Option (Nat × List SV) :=
  match c.callee with
  | .value f => match ev f with
    | .pv (.lit (.func (.func g) first cap)) => some (g, first.toList.map SV.lit ++ c.args.toList.map ev ++ cap.toList.map SV.lit)
    | .fn (.func g) first cap => some (g, first ++ c.args.toList.map ev ++ cap)
    | _ => none
  | _ => none
def isCall : Op → Option Call
  | .call { callee := .value f, args, argTypes } => some { callee := .value f, args, argTypes }
  | _ => none
def opP (cx : Cx) (ev : Operand → SV) (H : List SObj) (o : Oper) (K : Post) : Prop :=
  match isCall o.op with
  | some c => match targetY ev c with
    | some (s, args) => SRound cx.P s args H K
    | none => match target ev c with
      | none => False
      | some (g, args) => match cx.fns.lookup g with
        | none => False
        | some _ => SCall cx.P g args H K
  | none => (sop cx.P cx.tab H ev o).holds H K
theorem lits_reps {M : Imm} {ρ : Env} (a : Array Value) : ∀ (i : Nat) (v : Value) (x : SV), a.toList[i]? = some v → (a.toList.map SV.lit)[i]? = some x → SRep M ρ v x := by
  intro i v x hv hx
  simp only [List.getElem?_map, Option.map_eq_some_iff] at hx
  obtain ⟨u, hu, rfl⟩ := hx
  rw [hv] at hu; cases hu; exact .pv (.lit _)
theorem reps_append {M : Imm} {ρ : Env} {v1 v2 : List Value} {x1 x2 : List SV} (h1 : Reps M ρ v1 x1) (h2 : Reps M ρ v2 x2) : Reps M ρ (v1 ++ v2) (x1 ++ x2) := by
  refine ⟨by simp [h1.1, h2.1], fun i v x hv hx => ?_⟩
  rw [List.getElem?_append] at hv hx
  rw [h1.1] at hv
  split at hv
  · rename_i h; rw [if_pos h] at hx; exact h1.2 i v x hv hx
  · rename_i h; rw [if_neg h] at hx; exact h2.2 _ v x hv hx
theorem opP_sound {cx : Cx} (hcx : cx.Ok) {M : Imm} {ρ : Env} {H : List SObj} {w : World} {K : Post} {ev : Operand → SV} {a : Act} (hm : Mem M ρ H w) (hev : ∀ x, SRep M ρ (a.eval x) (ev x)) {o : Oper}
    (h : opP cx ev H o K) : OpGoes cx.P o a w fun v w' => ∃ x H' tch fg M' ρ', K x H' tch fg ∧ SRep M' ρ' v x ∧ Mem M' ρ' H' w' ∧ Fr M ρ H w M' ρ' H' w' H.length tch fg := by
  unfold opP at h
  cases hc : isCall o.op with
  | none => simp only [hc] at h; exact .inl (sop_sound hcx.tab hm hev h)
  | some c =>
    simp only [hc] at h
    have ho : o.op = .call c := by
      unfold isCall at hc
      split at hc
      · rename_i e; cases hc; exact e
      · cases hc
    have argsr : Reps M ρ (c.args.map a.eval).toList (c.args.toList.map ev) := by
      obtain ⟨r1, r2⟩ := ops_rep hev c.args
      exact ⟨by simpa using r1, fun i v x hv hx => r2 i v x (by rw [← Array.getElem?_toList]; exact hv) hx⟩
    cases hy : targetY ev c with
    | some q =>
      obtain ⟨s, args⟩ := q
      simp only [hy] at h
      unfold targetY at hy
      split at hy
      · rename_i f hcal
        have hf := hev f
        split at hy
        · rename_i s' e
          rw [e] at hf
          cases hy
          generalize hv : a.eval f = vf at hf
          cases hf with
          | yld _ p hp =>
            obtain ⟨l, g, tmps, as, bd, w1, hrun, hround⟩ := h M ρ w p _ hm hp argsr
            refine .inr (.inr ⟨l, g, tmps, as, bd, w1, ?_, hround.mono fun e w' ⟨v, r, H', M', ρ', t, fg, he, hk, hs, hm', hf'⟩ => ⟨v, he, r, H', t, fg, M', ρ', hk, hs, hm', hf'⟩⟩)
            simp only [Array.toArray_toList] at hrun
            simpa [execOp, ho, resolve, hcal, Deferred.ofValue, hv, invoke] using hrun
        · cases hy
      · cases hy
    | none =>
      simp only [hy] at h
      cases ht : target ev c with
      | none => simp only [ht] at h
      | some q =>
        obtain ⟨g, args⟩ := q
        simp only [ht] at h
        cases hfn : cx.fns.lookup g with
        | none => simp only [hfn] at h
        | some fn =>
          simp only [hfn] at h
          have callf : ∀ vs, (callFunc g vs).run cx.P w = .ok (.enter g vs) w := fun vs => (hcx.fn hfn).2 vs w
          have key : ∀ (f : Operand) (first cap : Array Value) (x1 x2 : List SV), c.callee = .value f → a.eval f = .func (.func g) first cap → Reps M ρ first.toList x1 → Reps M ρ cap.toList x2 → args = x1 ++ c.args.toList.map ev ++ x2 →
              OpGoes cx.P o a w fun v w' => ∃ x H' tch fg M' ρ', K x H' tch fg ∧ SRep M' ρ' v x ∧ Mem M' ρ' H' w' ∧ Fr M ρ H w M' ρ' H' w' H.length tch fg := by
            intro f first cap x1 x2 hcal hf h1 h2 hargs
            refine .inr (.inl ⟨g, first ++ c.args.map a.eval ++ cap, w, ?_, ?_⟩)
            · simp [execOp, ho, resolve, hcal, Deferred.ofValue, hf, invoke, callf]
            · have := h M ρ w (first.toList ++ (c.args.map a.eval).toList ++ cap.toList) hm (by rw [hargs]; exact reps_append (reps_append h1 argsr) h2)
              have e : (first.toList ++ (c.args.map a.eval).toList ++ cap.toList).toArray = first ++ c.args.map a.eval ++ cap := by simp
              rw [e] at this
              exact this.mono fun e w' ⟨v, r, H', M', ρ', t, fg, he, hk, hs, hm', hf'⟩ => ⟨v, he, r, H', t, fg, M', ρ', hk, hs, hm', hf'⟩
          unfold target at ht
          split at ht
          · rename_i f hcal
            have hf := hev f
            split at ht
            · rename_i g' first cap e
              rw [e] at hf
              cases ht
              exact key f first cap _ _ hcal hf.lit_eq ⟨by simp, lits_reps first⟩ ⟨by simp, lits_reps cap⟩ rfl
            · rename_i g' first cap e
              rw [e] at hf
              cases ht
              generalize hv : a.eval f = vf at hf
              cases hf with
              | fn _ fa fb _ _ ha hb hh hk =>
                exact key f fa fb _ _ hcal hv ⟨by simpa using ha, fun i v x hv hx => hh i v x (by rw [← Array.getElem?_toList]; exact hv) hx⟩ ⟨by simpa using hb, fun i v x hv hx => hk i v x (by rw [← Array.getElem?_toList]; exact hv) hx⟩ rfl
            · cases ht
          · cases ht
def forgetT (fg : List Nat) (T : TT) : TT := match fg with
  | [] => T
  | a :: l => T.map (SV.forget (a :: l))
def addTo (n : Nat) (l acc : List Nat) : List Nat := match l with
  | [] => acc
  | _ => l.filter (fun x => decide (x < n) && !acc.contains x) ++ acc
theorem acc_addTo {n : Nat} {l acc : List Nat} {x : Nat} (h : x ∈ acc) : x ∈ addTo n l acc := by
  unfold addTo; split
  · exact h
  · exact List.mem_append.2 (.inr h)
theorem addTo_eq (n : Nat) (l acc : List Nat) : addTo n l acc = l.filter (fun x => decide (x < n) && !acc.contains x) ++ acc := by cases l <;> rfl
def TT.put (T : TT) (dst : Option Tmp) (x : SV) : TT := match dst with
  | some d => T.set d x
  | none => T
def erPut (dst : Option Tmp) (er : List Nat) : List Nat := match dst with
  | some d => d :: er
  | none => er
def St.put (s : St) (dst : Option Tmp) (x : SV) : St := match s with
  | ⟨T, H, n0, tch, fg, marks, er⟩ => ⟨T.put dst x, H, n0, tch, fg, marks, erPut dst er⟩
theorem St.put_some (s : St) (d : Tmp) (x : SV) : s.put (some d) x = { s with T := s.T.set d x, er := d :: s.er } := by cases s; rfl
theorem St.put_none (s : St) (x : SV) : s.put none x = s := by cases s; rfl
def St.step (s : St) (dst : Option Tmp) (x : SV) (H : List SObj) (tch fg : List Nat) : St := match s with
  | ⟨T, _, n0, tch0, fg0, marks, er⟩ => ⟨(forgetT fg T).put dst x, H, n0, addTo n0 tch tch0, addTo n0 fg fg0, marks, erPut dst er⟩
theorem St.step_eq (s : St) (dst : Option Tmp) (x : SV) (H : List SObj) (tch fg : List Nat) :
    s.step dst x H tch fg = St.put { T := forgetT fg s.T, H := H, n0 := s.n0, tch := addTo s.n0 tch s.tch, fg := addTo s.n0 fg s.fg, marks := s.marks, er := s.er } dst x := by cases s; rfl
def dstOk (nt : Nat) : Option Tmp → Bool
  | some d => Nat.blt d nt
  | none => true
def stepOk (s : St) (nt : Nat) (dst : Option Tmp) (H : List SObj) (fg : List Nat) : Bool :=
  dstOk nt dst && (fg.isEmpty || s.marks.all fun m => !fg.contains m) && Nat.ble s.n0 H.length
theorem lookup_forgetT {fg : List Nat} {T : TT} {t : Nat} {x : SV} (h : (forgetT fg T).get t = some x) : ∃ y, T.get t = some y ∧ (x = y.forget fg ∨ (fg = [] ∧ x = y)) := by
  unfold forgetT at h
  split at h
  · exact ⟨x, h, .inr ⟨rfl, rfl⟩⟩
  · rw [TT.get_map] at h
    simp only [Option.map_eq_some_iff] at h
    obtain ⟨y, hy, rfl⟩ := h
    exact ⟨y, hy, .inl rfl⟩
theorem SRep.after {M M' : Imm} {ρ ρ' : Env} {fg : List Nat} (hM : M.le M') (hρ : ∀ s, s ∉ fg → ∀ p, ρ s = some p → ρ' s = some p) {v : Value} {y x : SV} (h : SRep M ρ v y) (hx : x = y.forget fg ∨ (fg = [] ∧ x = y)) : SRep M' ρ' v x := by
  rcases hx with rfl | ⟨rfl, rfl⟩
  · exact h.forget hM fun s p hs hp => hρ s (by simpa using hs) p hp
  · exact h.mono hM fun s p hp => hρ s (by simp) p hp
theorem Fr.env {M M' : Imm} {ρ ρ' : Env} {H H' : List SObj} {w w' : World} {tch fg : List Nat} (hm : Mem M ρ H w) (hf : Fr M ρ H w M' ρ' H' w' H.length tch fg) : ∀ s, s ∉ fg → ∀ p, ρ s = some p → ρ' s = some p := fun s hs p hp => by
  rcases Nat.lt_or_ge s H.length with h | h
  · rw [hf.stay s h hs]; exact hp
  · rw [hm.fresh s h] at hp; cases hp
theorem mem_addTo {n : Nat} {l acc : List Nat} {x : Nat} (hx : x < n) (h : x ∈ l) : x ∈ addTo n l acc := by
  rw [addTo_eq]
  by_cases hc : x ∈ acc
  · exact List.mem_append.2 (.inr hc)
  · refine List.mem_append.2 (.inl (List.mem_filter.2 ⟨h, ?_⟩))
    simp [hx, hc]
theorem put_getD {a : Act} {d t : Nat} {v : Value} (hd : d < a.tmps.size) : (a.put (some d) v).tmps.getD t undef = if t = d then v else a.tmps.getD t undef := by
  simp only [Act.put, Array.getD_eq_getD_getElem?, Array.getElem?_setIfInBounds]
  by_cases h : d = t
  · subst h; simp [hd]
  · rw [if_neg h, if_neg (fun e => h e.symm)]
theorem Good.put {B : Nat → Value} {nt : Nat} {M : Imm} {ρ : Env} {s : St} {a : Act} {w : World} (hg : Good B nt M ρ s a w) {dst : Option Tmp} (hd : dstOk nt dst = true) {v : Value} {x : SV} (hx : SRep M ρ v x) : Good B nt M ρ (s.put dst x) (a.put dst v) w := by
  cases dst with
  | none => rw [St.put_none]; exact hg
  | some d =>
    have hd' : d < nt := by simpa [dstOk] using hd
    rw [St.put_some]
    refine ⟨fun t y hy => ?_, by simp [Act.put, hg.sz], hg.mem, hg.df, hg.mks, hg.nle, fun t ht => ?_⟩
    rw [put_getD (by rw [hg.sz]; exact hd')]
    rcases TT.get_set _ _ _ _ _ hy with ⟨e, rfl⟩ | ⟨e, hy⟩
    · rw [if_pos e]; exact hx
    · rw [if_neg e]; exact hg.tm t y hy
    · have ht : t ∉ d :: s.er := ht
      simp only [List.mem_cons, not_or] at ht
      rw [put_getD (by rw [hg.sz]; exact hd'), if_neg ht.1]; exact hg.fix t ht.2
theorem step_good {B : Nat → Value} {nt : Nat} {M M' : Imm} {ρ ρ' : Env} {s : St} {a : Act} {w w' : World} (hg : Good B nt M ρ s a w) {dst : Option Tmp} {v : Value} {x : SV} {H : List SObj} {tch fg : List Nat}
    (hok : stepOk s nt dst H fg = true) (hx : SRep M' ρ' v x) (hm : Mem M' ρ' H w') (hf : Fr M ρ s.H w M' ρ' H w' s.H.length tch fg) :
    Good B nt M' ρ' (s.step dst x H tch fg) (a.put dst v) w' ∧ Goes M ρ s w M' ρ' (s.step dst x H tch fg) w' := by
  simp only [stepOk, Bool.and_eq_true] at hok
  obtain ⟨⟨h1, h2⟩, h3⟩ := hok
  have h3 := Nat.le_of_ble_eq_true h3
  have h4 := hg.nle
  have h2 : (s.marks.all fun m => !fg.contains m) = true := by
    rw [Bool.or_eq_true] at h2
    rcases h2 with h | h
    · rw [List.isEmpty_iff] at h; subst h; simp
    · exact h
  have henv := hf.env hg.mem
  rw [St.step_eq]
  have hbase : Good B nt M' ρ' { T := forgetT fg s.T, H := H, n0 := s.n0, tch := addTo s.n0 tch s.tch, fg := addTo s.n0 fg s.fg, marks := s.marks, er := s.er } a w' := by
    refine ⟨fun t y hy => ?_, hg.sz, hm, ⟨hg.df.1, fun i d m hd hmk => ?_⟩, hg.mks, h3, hg.fix⟩
    · obtain ⟨z, hz, hyz⟩ := lookup_forgetT hy
      exact (hg.tm t z hz).after hf.imm henv hyz
    · obtain ⟨p, hp, e⟩ := hg.df.2 i d m hd hmk
      have hmem := List.mem_of_getElem? hmk
      refine ⟨p, henv m ?_ p hp, e⟩
      have := List.all_eq_true.1 h2 m hmem
      simpa using this
  have hgoes : Goes M ρ s w M' ρ' { T := forgetT fg s.T, H := H, n0 := s.n0, tch := addTo s.n0 tch s.tch, fg := addTo s.n0 fg s.fg, marks := s.marks, er := s.er } w' :=
    ⟨hf.weaken h4 (fun x hx ht => mem_addTo hx ht) (fun x hx ht => mem_addTo hx ht), rfl, fun x hx => acc_addTo hx, fun x hx => acc_addTo hx⟩
  refine ⟨hbase.put h1 hx, ?_⟩
  exact ⟨hgoes.fr, hgoes.n0, hgoes.tch, hgoes.fg⟩
def St.adv (nt : Nat) (s : St) (dst : Option Tmp) (K : St → Prop) : Post := fun x H t f =>
  (dstOk nt dst = true ∧ H = s.H ∧ t = [] ∧ f = [] ∧ K (s.put dst x)) ∨ (stepOk s nt dst H f = true ∧ K (s.step dst x H t f))
theorem adv_good {B : Nat → Value} {nt : Nat} {M M' : Imm} {ρ ρ' : Env} {s : St} {a : Act} {w w' : World} (hg : Good B nt M ρ s a w) {dst : Option Tmp} {v : Value} {x : SV} {H : List SObj} {tch fg : List Nat} {K : St → Prop}
    (h : s.adv nt dst K x H tch fg) (hx : SRep M' ρ' v x) (hm : Mem M' ρ' H w') (hf : Fr M ρ s.H w M' ρ' H w' s.H.length tch fg) :
    ∃ s', K s' ∧ s'.H = H ∧ Good B nt M' ρ' s' (a.put dst v) w' ∧ Goes M ρ s w M' ρ' s' w' := by
  rcases h with ⟨hd, rfl, rfl, rfl, hk⟩ | ⟨hok, hk⟩
  · have henv := hf.env hg.mem
    have hg' : Good B nt M' ρ' s a w' := ⟨fun t y hy => (hg.tm t y hy).after hf.imm henv (.inr ⟨rfl, rfl⟩), hg.sz, hm, ⟨hg.df.1, fun i d m hd hmk => by
      obtain ⟨p, hp, e⟩ := hg.df.2 i d m hd hmk
      exact ⟨p, henv m (by simp) p hp, e⟩⟩, hg.mks, hg.nle, hg.fix⟩
    have hgo : Goes M ρ s w M' ρ' s w' := ⟨hf.weaken hg.nle (fun x _ h => by cases h) (fun x _ h => by cases h), rfl, fun _ h => h, fun _ h => h⟩
    exact ⟨_, hk, rfl, hg'.put hd hx, ⟨hgo.fr, hgo.n0, hgo.tch, hgo.fg⟩⟩
  · obtain ⟨g1, g2⟩ := step_good hg hok hx hm hf
    exact ⟨_, hk, by rw [St.step_eq]; cases dst <;> rfl, g1, g2⟩
def opV (cx : Cx) (nt : Nat) (o : Oper) (s : St) (K : St → Prop) : Prop :=
  noDefer o.op = true ∧ opP cx s.ev s.H o (s.adv nt o.dst K)
def guardSlot (ops : Array Oper) (j : Nat) : Option Nat := (ops[j]?).bind (·.dst)
def guardV (ops : Array Oper) (o : Oper) (s : St) (run skip : St → Prop) : Prop :=
  match o.guard with
  | none => run s
  | some (j, want) => match guardSlot ops j with
    | none => False
    | some d => match s.T.get d with
      | some (.pv (.lit (.bool b))) => (b = want → run { s with T := s.T.set d (.lit (.bool want)) }) ∧ (b = !want → skip { s with T := s.T.set d (.lit (.bool !want)) })
      | some (.pv (.lit (.tuple _))) => skip s
      | _ => False
def vops (cx : Cx) (nt : Nat) (ops : Array Oper) : List Oper → St → (St → Prop) → Prop
  | [], s, K => K s
  | o :: rest, s, K => guardV ops o s (fun s' => opV cx nt o s' fun s'' => vops cx nt ops rest s'' K) (fun s' => dstOk nt o.dst = true ∧ vops cx nt ops rest (s'.put o.dst (.lit undef)) K)
theorem Good.retop {B : Nat → Value} {nt : Nat} {M : Imm} {ρ : Env} {s : St} {a : Act} {w : World} (hg : Good B nt M ρ s a w) {d : Nat} {x : SV} (hx : SRep M ρ (a.tmps.getD d undef) x) : Good B nt M ρ { s with T := s.T.set d x } a w := by
  refine ⟨fun t y hy => ?_, hg.sz, hg.mem, hg.df, hg.mks, hg.nle, hg.fix⟩
  rcases TT.get_set _ _ _ _ _ hy with ⟨e, rfl⟩ | ⟨e, hy⟩
  · rw [e]; exact hx
  · exact hg.tm t y hy
theorem yielded_tuple {ops : Array Oper} {tmps : Array Value} {j d : Nat} {c : Array Value} (hs : guardSlot ops j = some d) (hv : tmps.getD d undef = .tuple c) : yielded ops tmps j = none := by
  unfold yielded
  unfold guardSlot at hs
  rw [hs]
  simp only [Option.bind_some]
  rw [Array.getD_eq_getD_getElem?] at hv
  cases e : tmps[d]? with
  | none => rfl
  | some v => rw [e] at hv; simp at hv; subst hv; rfl
theorem yielded_of {ops : Array Oper} {tmps : Array Value} {j d : Nat} {b : Bool} (hs : guardSlot ops j = some d) (hv : tmps.getD d undef = .bool b) : yielded ops tmps j = some b := by
  unfold yielded
  unfold guardSlot at hs
  rw [hs]
  simp only [Option.bind_some]
  rw [Array.getD_eq_getD_getElem?] at hv
  cases e : tmps[d]? with
  | none => rw [e] at hv; simp [undef] at hv
  | some v => rw [e] at hv; simp at hv; subst hv; rfl
theorem guardV_sound {B : Nat → Value} {nt : Nat} {M : Imm} {ρ : Env} {s : St} {a : Act} {w : World} (hg : Good B nt M ρ s a w) {ops : Array Oper} {o : Oper} {run skip : St → Prop} (h : guardV ops o s run skip) :
    (Region.wanted o (yielded ops a.tmps) = true ∧ ∃ s', run s' ∧ Good B nt M ρ s' a w ∧ Goes M ρ s w M ρ s' w ∧ s'.H = s.H) ∨
    (Region.wanted o (yielded ops a.tmps) = false ∧ ∃ s', skip s' ∧ Good B nt M ρ s' a w ∧ Goes M ρ s w M ρ s' w ∧ s'.H = s.H) := by
  unfold guardV at h
  split at h
  · rename_i e; exact .inl ⟨by simp [Region.wanted, e], s, h, hg, Goes.refl .., rfl⟩
  · rename_i j want e
    split at h
    · exact h.elim
    · rename_i d hd
      split at h
      · rename_i b hb
        have hv := (hg.tm d _ hb).lit_eq
        have hy := yielded_of hd hv
        have hw : Region.wanted o (yielded ops a.tmps) = (b == want) := by simp only [Region.wanted, e, hy]; cases b <;> cases want <;> rfl
        by_cases hbw : b = want
        · subst hbw
          refine .inl ⟨by rw [hw]; simp, _, h.1 rfl, hg.retop (by rw [hv]; exact .pv (.lit _)), ⟨Fr.refl .., rfl, fun _ h => h, fun _ h => h⟩, rfl⟩
        · have hb' : b = !want := by cases b <;> cases want <;> simp_all
          refine .inr ⟨by rw [hw]; simp [hbw], _, h.2 hb', hg.retop (by rw [hv, hb']; exact .pv (.lit _)), ⟨Fr.refl .., rfl, fun _ h => h, fun _ h => h⟩, rfl⟩
      · rename_i c hb
        have hv := (hg.tm d _ hb).lit_eq
        have hy := yielded_tuple hd hv
        exact .inr ⟨by simp [Region.wanted, e, hy], s, h, hg, Goes.refl .., rfl⟩
      · exact h.elim
theorem vops_sound {cx : Cx} (hcx : cx.Ok) {R : Option Nat} {B : Nat → Value} {nt : Nat} {ops : Array Oper} {Q : Exit → Act → World → Prop} {M0 : Imm} {ρ0 : Env} {s0 : St} {w0 : World} {K : St → Prop}
    (hQ : ∀ M ρ s a w, K s → Good B nt M ρ s a w → Goes M0 ρ0 s0 w0 M ρ s w → Q .normal a w) :
    ∀ (l : List Oper) (k : Nat) (s : St) (M : Imm) (ρ : Env) (a : Act) (w : World), (∀ j, l[j]? = ops[k + j]?) → vops cx nt ops l s K → Good B nt M ρ s a w → Goes M0 ρ0 s0 w0 M ρ s w →
      wpOpsIn (FW R) 0 cx.P ops Q (List.range' k l.length) a w
  | [], k, s, M, ρ, a, w, _, h, hg, go => hQ M ρ s a w h hg go
  | o :: rest, k, s, M, ρ, a, w, hl, h, hg, go => by
    have ho : ops[k]? = some o := by simpa using (hl 0).symm
    have hl' : ∀ j, rest[j]? = ops[k + 1 + j]? := fun j => by have := hl (j + 1); simpa [Nat.add_assoc, Nat.add_comm 1 j] using this
    simp only [List.length_cons, List.range'_succ, wpOpsIn, ho]
    rcases guardV_sound hg h with ⟨hw, s', ⟨hd, hrun⟩, hg', go', hH⟩ | ⟨hw, s', ⟨hdst, hskip⟩, hg', go', hH⟩
    · rw [if_pos hw]
      refine (opP_sound hcx hg'.mem (fun x => hg'.ev x) hrun).wpIn hd ?_
      rintro v w' ⟨x, H', tch, fg, M', ρ', hadv, hx, hm, hf⟩
      obtain ⟨_, hk, _, g1, g2⟩ := adv_good hg' hadv hx hm hf
      exact vops_sound hcx hQ rest (k + 1) _ M' ρ' _ w' hl' hk g1 ((go.trans go').trans g2)
    · rw [if_neg (by simp [hw])]
      refine ⟨fun _ _ => trivial, ?_⟩
      refine vops_sound hcx hQ rest (k + 1) _ M ρ _ w hl' hskip (hg'.put hdst (.pv (.lit _))) ((go.trans go').trans ?_)
      exact ⟨Fr.refl .., rfl, fun _ h => h, fun _ h => h⟩
theorem WPs_region {cx : Cx} (hcx : cx.Ok) {R : Option Nat} {nt id : Nat} {ops : Array Oper} {Q : Exit → St → Prop} {s : St} (h : vops cx nt ops ops.toList s (Q .normal)) : WPs R cx.P nt (.region id ops false) Q s := by
  intro B M ρ a w hg
  refine wpIn_region ?_
  have := vops_sound hcx (R := R) (Q := fun e a' w' => ∃ M' ρ' s', Q e s' ∧ Good B nt M' ρ' s' a' w' ∧ Goes M ρ s w M' ρ' s' w') (K := Q .normal) (fun M' ρ' s' a' w' hk g go => ⟨M', ρ', s', hk, g, go⟩)
    ops.toList 0 s M ρ a w (fun j => by simp) h hg (Goes.refl ..)
  rw [Array.length_toList] at this
  rwa [List.range_eq_range']
end Go.Sx
