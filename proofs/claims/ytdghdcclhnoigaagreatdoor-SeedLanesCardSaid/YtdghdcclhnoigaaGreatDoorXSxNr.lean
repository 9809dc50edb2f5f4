/- Part Nr of the own logic: ranges over functions: the statement, and a round. -/
import Derived.Test.YtdghdcclhnoigaaGreatDoorXSxN
import Derived.ScopeJumps
set_option linter.unusedVariables false
set_option linter.unusedSimpArgs false
set_option linter.unnecessarySimpa false
namespace Go.Sx
open Go
def setParams : TT → List Tmp → List SV → TT
  | T, p :: ps, x :: xs => setParams (T.set p x) ps xs
  | T, _, _ => T
theorem setParams_rep {M : Imm} {ρ : Env} {nt : Nat} : ∀ (ps : List Tmp) (vs : List Value) (xs : List SV) (T : TT) (tmps : Array Value), (ps.all fun p => Nat.blt p nt) = true → Reps M ρ vs xs → tmps.size = nt →
    (∀ t x, T.get t = some x → SRep M ρ (tmps.getD t undef) x) → ps.length = vs.length →
    ((ps.zip vs).foldl (fun tmps (t, a) => tmps.setIfInBounds t a) tmps).size = nt ∧ ∀ t x, (setParams T ps xs).get t = some x → SRep M ρ (((ps.zip vs).foldl (fun tmps (t, a) => tmps.setIfInBounds t a) tmps).getD t undef) x
  | [], vs, xs, T, tmps, hp, hr, hs, ht, hl => ⟨hs, fun t x h => ht t x h⟩
  | p :: ps, [], xs, T, tmps, hp, hr, hs, ht, hl => by simp at hl
  | p :: ps, v :: vs, [], T, tmps, hp, hr, hs, ht, hl => by have := hr.1; simp at this
  | p :: ps, v :: vs, x :: xs, T, tmps, hp, hr, hs, ht, hl => by
    simp only [List.all_cons, Bool.and_eq_true] at hp
    have hpn := blt_lt' hp.1
    simp only [List.zip_cons_cons, List.foldl_cons, setParams]
    refine setParams_rep ps vs xs _ _ hp.2 ⟨by have := hr.1; simpa using this, fun i v x hv hx => hr.2 (i + 1) v x (by simpa using hv) (by simpa using hx)⟩ (by simp [hs]) (fun t y hy => ?_) (by simpa using hl)
    rw [Array.getD_eq_getD_getElem?, Array.getElem?_setIfInBounds]
    rcases TT.get_set _ _ _ _ _ hy with ⟨e, rfl⟩ | ⟨e, hy⟩
    · subst e
      simp only [if_true, hs, hpn]
      exact hr.2 0 v _ rfl rfl
    · rw [if_neg (fun e' => e e'.symm), ← Array.getD_eq_getD_getElem?]; exact ht t y hy
where
  blt_lt' {a b : Nat} (h : Nat.blt a b = true) : a < b := by rw [Nat.blt_eq] at h; exact h
def jumpOf : Exit → Option (Option Code)
  | .normal => some none
  | .ret => some (some .ret)
  | .exit id => some (some (.exit id))
  | .goto t => some (some (.goto t))
  | _ => none
def busyS (s : Nat) (L : LoopS) (st : St) : St := { st with H := st.H.set s (.loop { L with state := .busy }), tch := s :: st.tch }
def endedH (s : Nat) (L : LoopS) (jump : Option Code) (H : List SObj) : List SObj := H.set s (.loop { L with state := if jump.isNone then .ready else .done, pending := jump })
def roundSt (L : LoopS) (args : List SV) (H : List SObj) : St := { T := setParams L.T L.params.toList args, H := H, n0 := H.length, tch := [], fg := [], marks := [], er := [] }
theorem OwnAt.loopAt {M : Imm} {ρ : Env} {w : World} {s : Nat} {L : LoopS} {p : Place} (h : OwnAt M ρ w s (.loop L)) (hp : ρ s = some p) :
    ∃ r : Loop, w.heap[p.block]? = some (.loop r) ∧ r.state = L.state ∧ r.pending = L.pending ∧ r.params = L.params ∧ r.assign = L.assign ∧ r.body = L.body ∧ r.tmps.size = L.nt ∧ ∀ t x, L.T.get t = some x → SRep M ρ (r.tmps.getD t undef) x := by
  obtain ⟨q, fn, tmps, d, h1, h2, h3, h4⟩ := h
  rw [hp] at h1; cases h1
  exact ⟨_, h2, rfl, rfl, rfl, rfl, rfl, h3, h4⟩
theorem loop_own {M : Imm} {ρ : Env} {w : World} {s : Nat} {L : LoopS} {p : Place} {r : Loop} (hp : ρ s = some p) (hr : w.heap[p.block]? = some (.loop r)) (h1 : r.state = L.state) (h2 : r.pending = L.pending) (h3 : r.params = L.params) (h4 : r.assign = L.assign) (h5 : r.body = L.body)
    (h6 : r.tmps.size = L.nt) (h7 : ∀ t x, L.T.get t = some x → SRep M ρ (r.tmps.getD t undef) x) : OwnAt M ρ w s (.loop L) := by
  obtain ⟨st, pd, fn, tmps, ps, as, bd, d⟩ := r
  simp only at h1 h2 h3 h4 h5 h6 h7
  subst h1; subst h2; subst h3; subst h4; subst h5
  exact ⟨p, fn, tmps, d, hp, hr, h6, h7⟩
theorem SRound_of {P : Program} {s : Nat} {args : List SV} {H : List SObj} {L : LoopS} {K : Post} (hH : H[s]? = some (.loop L)) (hn : L.params.toList.length = args.length) (hps : (L.params.toList.all fun p => Nat.blt p L.nt) = true)
    (h : ∀ R, WPs R P L.nt L.assign (fun e s1 => e = .normal ∧ s ∉ s1.fg ∧ H.length ≤ s1.H.length ∧ ∃ L1, s1.H[s]? = some (.loop L1) ∧ L1.state = .ready ∧
      WPs R P L.nt L.body (fun e s2 => ∃ jump, jumpOf e = some jump ∧ s ∉ s2.fg ∧ H.length ≤ s2.H.length ∧ ∃ L2, s2.H[s]? = some (.loop L2) ∧ K (.lit (.bool jump.isNone)) (endedH s L2 jump s2.H) s2.tch s2.fg) (busyS s L1 s1)) (roundSt L args H)) :
    SRound P s args H K := by
  intro M ρ w p vs hm hp hr
  have hs : s < H.length := (List.getElem?_eq_some_iff.1 hH).1
  obtain ⟨r, h1, _, _, h3, h4, h5, h6, h7⟩ := (hm.own s _ hH).loopAt hp
  have hsz : vs.toArray.size = r.params.size := by
    rw [h3]; have := hr.1; simp; rw [this, ← hn]; simp
  refine ⟨_, _, _, _, _, w, run_yield h1 hsz, ?_⟩
  obtain ⟨t1, t2⟩ := setParams_rep (M := M) (ρ := ρ) (nt := L.nt) L.params.toList vs args L.T r.tmps hps hr h6 h7 (by rw [hn, hr.1])
  have hz : (r.params.zip vs.toArray).foldl (fun tmps (t, a) => tmps.setIfInBounds t a) r.tmps = (L.params.toList.zip vs).foldl (fun tmps (t, a) => tmps.setIfInBounds t a) r.tmps := by
    rw [h3, ← Array.foldl_toList]; simp [Array.toList_zip]
  rw [hz, h4, h5]
  refine roundIn_of_wpIn trivial ?_
  have hg : Good (fun t => ((L.params.toList.zip vs).foldl (fun tmps (t, a) => tmps.setIfInBounds t a) r.tmps).getD t undef) L.nt M ρ (roundSt L args H) { tmps := (L.params.toList.zip vs).foldl (fun tmps (t, a) => tmps.setIfInBounds t a) r.tmps, defers := [] } w :=
    ⟨t2, t1, hm, ⟨rfl, fun i d s h => by simp at h⟩, fun m h => by simp [roundSt] at h, Nat.le_refl _, fun _ _ => rfl⟩
  refine wpIn_mono (h (some p.block) _ M ρ _ w hg) ?_
  rintro e a1 w1 ⟨M1, ρ1, s1, ⟨rfl, hfg1, hl1, L1, hH1, hst1, hbody⟩, g1, go1⟩
  have hn1 : s1.n0 = H.length := go1.n0
  have hp1 : ρ1 s = some p := by rw [go1.fr.stay s hs hfg1]; exact hp
  obtain ⟨r1, k1, k2, k3, k4, k5, k6, k7, k8⟩ := (g1.mem.own s _ hH1).loopAt hp1
  have hb1 : p.block < w1.heap.size := (Array.getElem?_eq_some_iff.1 k1).1
  refine ⟨_, run_beginRound k1 (k2.trans hst1), ?_⟩
  obtain ⟨m2, f2⟩ := g1.mem.turn (so := .loop { L1 with state := .busy }) (ob := .loop { r1 with state := .busy }) hH1 rfl hp1 rfl
    (loop_own (r := { r1 with state := .busy }) hp1 (World.putObj_heap_same hb1) rfl k3 k4 k5 k6 k7 k8)
  have g2 : Good _ L.nt M1 ρ1 (busyS s L1 s1) a1 (w1.putObj p.block (.loop { r1 with state := .busy })) := ⟨g1.tm, g1.sz, m2, g1.df, g1.mks, by have := g1.nle; simpa [busyS] using this, g1.fix⟩
  refine wpIn_mono (hbody _ M1 ρ1 a1 _ g2) ?_
  rintro e a3 w3 ⟨M3, ρ3, s3, ⟨jump, hj, hfg3, hl3, L3, hH3, hk⟩, g3, go3⟩
  have hs1 : s < (busyS s L1 s1).n0 := by show s < s1.n0; rw [hn1]; exact hs
  have hp3 : ρ3 s = some p := by rw [go3.fr.stay s hs1 hfg3]; exact hp1
  obtain ⟨r3, q1, q2, q3, q4, q5, q6, q7, q8⟩ := (g3.mem.own s _ hH3).loopAt hp3
  have hb3 : p.block < w3.heap.size := (Array.getElem?_eq_some_iff.1 q1).1
  obtain ⟨m4, f4⟩ := g3.mem.turn (so := .loop { L3 with state := if jump.isNone then .ready else .done, pending := jump }) (ob := .loop { r3 with state := if jump.isNone then .ready else .done, pending := jump }) hH3 rfl hp3 rfl
    (loop_own (r := { r3 with state := if jump.isNone then .ready else .done, pending := jump }) hp3 (World.putObj_heap_same hb3) rfl rfl q4 q5 q6 q7 q8)
  have hn3 : (busyS s L1 s1).n0 = H.length := hn1
  have hst : s ∈ s3.tch := go3.tch s List.mem_cons_self
  have fr1 : Fr M ρ H w M1 ρ1 s1.H w1 H.length s1.tch s1.fg := go1.fr
  have fr2 : Fr M1 ρ1 s1.H w1 M1 ρ1 (busyS s L1 s1).H (w1.putObj p.block (.loop { r1 with state := .busy })) H.length [s] [] := f2.weaken hl1 (fun _ _ h => h) (fun _ _ h => h)
  have fr3 : Fr M1 ρ1 (busyS s L1 s1).H (w1.putObj p.block (.loop { r1 with state := .busy })) M3 ρ3 s3.H w3 H.length s3.tch s3.fg := hn3 ▸ go3.fr
  have fr4 := f4.weaken (n' := H.length) (t' := [s]) (f' := []) hl3 (fun _ _ h => h) (fun _ _ h => h)
  have sub : ∀ x, x ∈ [s] → x ∈ s3.tch := fun x hx => by rw [List.mem_singleton.1 hx]; exact hst
  have fin := ((fr1.trans fr2 (t := s3.tch) (f := s3.fg) (fun x hx => go3.tch x (List.mem_cons_of_mem _ hx)) sub (fun x hx => go3.fg x hx) (fun x hx => by cases hx)).trans fr3 (fun _ h => h) (fun _ h => h) (fun _ h => h) (fun _ h => h)).trans fr4 (t := s3.tch) (f := s3.fg) (fun _ h => h) sub (fun _ h => h) (fun x hx => by cases hx)
  have done : ∃ v w', (Instr.endRound p.block jump).run P w3 = .ok v w' ∧ ∃ v' r' H' M' ρ' tch fg, Ending.returned v = .returned v' ∧ K r' H' tch fg ∧ SRep M' ρ' v' r' ∧ Mem M' ρ' H' w' ∧ Fr M ρ H w M' ρ' H' w' H.length tch fg :=
    ⟨_, _, run_endRound jump q1, _, _, _, M3, ρ3, _, _, rfl, hk, .pv (.lit _), m4, fin⟩
  cases e with
  | normal => cases hj; exact done
  | ret => cases hj; exact done
  | exit id => cases hj; exact done
  | goto t => cases hj; exact done
  | panic c => cases hj
  | outgrown => cases hj
def targetG (v : SV) (y : SV) : Option (Nat × List SV) := match v with
  | .pv (.lit (.func (.func g) first cap)) => some (g, first.toList.map SV.lit ++ [y] ++ cap.toList.map SV.lit)
  | .fn (.func g) first cap => some (g, first ++ [y] ++ cap)
  | _ => none
def startH (s : St) (nt : Nat) (ps : Array Tmp) (assign body : Code) : List SObj := s.H ++ [.dfr false] ++ [.loop { state := .ready, pending := none, T := s.T, nt := nt, params := ps, assign := assign, body := body }]
def afterLoop (s : St) (L : LoopS) (H : List SObj) (t f : List Nat) : St :=
  { T := forgetT f s.T, H := H.set (s.H.length + 1) (.loop { L with state := .exhausted }), n0 := s.n0, tch := addTo s.n0 t s.tch, fg := addTo s.n0 f s.fg, marks := s.H.length :: s.marks, er := s.er }
theorem WPs_rangeFunc {cx : Cx} (hcx : cx.Ok) {nt : Nat} {g : Operand} {ps : Array Tmp} {assign body : Code} {Q : Exit → St → Prop} {s : St} {gf : Nat} {args : List SV} {fn : Func} (hn : s.n0 ≤ s.H.length)
    (ht : targetG (s.ev g) (.yld (s.H.length + 1)) = some (gf, args)) (hfn : cx.fns.lookup gf = some fn)
    (h : SCall cx.P gf args (startH s nt ps assign body) fun r H' t f => s.H.length ∉ f ∧ s.H.length + 1 ∉ f ∧ (∀ m ∈ s.marks, m ∉ f ∧ m < s.H.length) ∧ s.n0 ≤ H'.length ∧ ∃ L, H'[s.H.length + 1]? = some (.loop L) ∧ L.state ≠ .busy ∧
      match L.pending with
      | none => Q .normal (afterLoop s L H' t f)
      | some c => WPs none cx.P nt c Q (afterLoop s L H' t f)) : WPs none cx.P nt (.rangeFunc g ps assign body) Q s := by
  intro B M ρ a w hg
  rw [FW_none]
  refine wpIn_rangeFunc fun fid _ => ?_
  have callf : ∀ vs w, (callFunc gf vs).run cx.P w = .ok (.enter gf vs) w := (hcx.fn hfn).2
  obtain ⟨m1, fr1⟩ := hg.mem.alloc (w' := w.alloc (.deferred (some []))) (o := .deferred (some [])) (so := .dfr false) (cap := 0) rfl ⟨⟨w.heap.size, 0⟩, Env.set_self .., World.alloc_heap_new w _⟩
  have hH1 : (s.H ++ [SObj.dfr false]).length = s.H.length + 1 := by simp
  have hle1 : ρ.le (ρ.set s.H.length (some ⟨w.heap.size, 0⟩)) := fun t p hp => by
    have : t ≠ s.H.length := fun e => by rw [e, hg.mem.fresh _ (Nat.le_refl _)] at hp; cases hp
    rw [Env.set_ne _ _ this]; exact hp
  obtain ⟨m2, fr2⟩ := m1.alloc (w' := (w.alloc (.deferred (some []))).alloc (.loop { state := .ready, pending := none, fn := fid, tmps := a.tmps, params := ps, assign, body, defers := w.heap.size }))
    (o := .loop { state := .ready, pending := none, fn := fid, tmps := a.tmps, params := ps, assign, body, defers := w.heap.size }) (so := .loop { state := .ready, pending := none, T := s.T, nt := nt, params := ps, assign := assign, body := body }) (cap := 0) rfl (by
      refine loop_own (r := { state := .ready, pending := none, fn := fid, tmps := a.tmps, params := ps, assign, body, defers := w.heap.size }) (Env.set_self ..) (World.alloc_heap_new _ _) rfl rfl rfl rfl rfl hg.sz fun t x hx => ?_
      refine (hg.tm t x hx).mono M.le_refl (Env.le_trans hle1 fun t p hp => ?_)
      have : t ≠ (s.H ++ [SObj.dfr false]).length := fun e => by rw [e, m1.fresh _ (Nat.le_refl _)] at hp; cases hp
      rw [Env.set_ne _ _ this]; exact hp)
  rw [hH1] at m2 fr2
  have hw1 : (w.alloc (Obj.deferred (some []))).heap.size = w.heap.size + 1 := by rw [World.size_alloc]
  rw [hw1] at m2 fr2
  generalize hρ2 : (ρ.set s.H.length (some ⟨w.heap.size, 0⟩)).set (s.H.length + 1) (some ⟨w.heap.size + 1, 0⟩) = ρ2 at m2 fr2
  have hle2 : ρ.le ρ2 := fun t p hp => by
    have : t ≠ s.H.length + 1 := fun e => by rw [e, hg.mem.fresh _ (by omega)] at hp; cases hp
    rw [← hρ2, Env.set_ne _ _ this]; exact hle1 t p hp
  have p1 : ρ2 s.H.length = some ⟨w.heap.size, 0⟩ := by rw [← hρ2, Env.set_ne _ _ (by omega), Env.set_self]
  have p2 : ρ2 (s.H.length + 1) = some ⟨w.heap.size + 1, 0⟩ := by rw [← hρ2, Env.set_self]
  have hgv := (hg.ev g).mono M.le_refl hle2
  have hargs : ∃ first cap : Array Value, a.eval g = .func (.func gf) first cap ∧ Reps M ρ2 (first.toList ++ [.func (.yield (w.heap.size + 1)) #[] #[]] ++ cap.toList) args := by
    have hy : Reps M ρ2 [Value.func (.yield (w.heap.size + 1)) #[] #[]] [.yld (s.H.length + 1)] := ⟨rfl, fun i v x hv hx => by
      match i with
      | 0 => simp at hv hx; subst hv; subst hx; exact .yld _ _ p2
      | i + 1 => simp at hv⟩
    generalize hsv : s.ev g = sv at ht hgv
    unfold targetG at ht
    split at ht
    · cases ht
      rename_i first cap
      exact ⟨first, cap, hgv.lit_eq, reps_append (reps_append ⟨by simp, lits_reps first⟩ hy) ⟨by simp, lits_reps cap⟩⟩
    · cases ht
      generalize a.eval g = vg at hgv
      cases hgv with
      | fn _ fa fb _ _ ha hb hh hk =>
        exact ⟨fa, fb, rfl, reps_append (reps_append ⟨by simpa using ha, fun i v x hv hx => hh i v x (by rw [← Array.getElem?_toList]; exact hv) hx⟩ hy) ⟨by simpa using hb, fun i v x hv hx => hk i v x (by rw [← Array.getElem?_toList]; exact hv) hx⟩⟩
    · cases ht
  obtain ⟨first, cap, hfv, hreps⟩ := hargs
  obtain ⟨W2, hW2⟩ : ∃ W, W = (w.alloc (.deferred (some []))).alloc (.loop { state := .ready, pending := none, fn := fid, tmps := a.tmps, params := ps, assign, body, defers := w.heap.size }) := ⟨_, rfl⟩
  rw [← hW2] at m2 fr2
  refine ⟨w.heap.size + 1, [{ target := .collected w.heap.size, args := #[] }], W2, { target := .fn (.func gf) cap, args := first ++ #[.func (.yield (w.heap.size + 1)) #[] #[]] }, W2, gf, first ++ #[.func (.yield (w.heap.size + 1)) #[] #[]] ++ cap, W2, ?_, ?_, fun _ _ => trivial, ?_, fun hx => (by simp [Fence.wide] at hx), ?_⟩
  · show (Instr.enterLoop fid a.tmps ps assign body none).run cx.P w = _
    rw [run_enterLoop_outer, ← hW2]
  · show (Deferred.ofValue (a.eval g) (#[Operand.const (.func (.yield (w.heap.size + 1)) #[] #[])].map a.eval)).run cx.P W2 = _
    rw [hfv]; simp [Deferred.ofValue, Act.eval]
  · simp only [invoke]; exact callf _ _
  · have hc := h M ρ2 _ _ m2 hreps
    have e : (first.toList ++ [Value.func (.yield (w.heap.size + 1)) #[] #[]] ++ cap.toList).toArray = first ++ #[.func (.yield (w.heap.size + 1)) #[] #[]] ++ cap := by simp
    rw [e] at hc
    have hc' : CallsIn Fence.wide (0 - 1) cx.P gf (first ++ #[.func (.yield (w.heap.size + 1)) #[] #[]] ++ cap) _ _ := hc
    refine hc'.mono ?_
    rintro e w3 ⟨v, r, H', M', ρ', t, f, rfl, ⟨hf1, hf2, hmk, hn3, L, hL, hst, hpend⟩, hs, hm', hfr⟩
    have hlen : (startH s nt ps assign body).length = s.H.length + 2 := by simp [startH]
    have e1 : ρ' s.H.length = some ⟨w.heap.size, 0⟩ := by rw [hfr.stay _ (by rw [hlen]; omega) hf1]; exact p1
    have e2 : ρ' (s.H.length + 1) = some ⟨w.heap.size + 1, 0⟩ := by rw [hfr.stay _ (by rw [hlen]; omega) hf2]; exact p2
    obtain ⟨r3, q1, q2, q3, q4, q5, q6, q7, q8⟩ := (hm'.own _ _ hL).loopAt e2
    have hb3 : w.heap.size + 1 < w3.heap.size := (Array.getElem?_eq_some_iff.1 q1).1
    obtain ⟨m4, f4⟩ := hm'.turn (so := .loop { L with state := .exhausted }) (ob := .loop { r3 with state := .exhausted }) hL rfl e2 rfl (loop_own (r := { r3 with state := .exhausted }) e2 (World.putObj_heap_same hb3) rfl q3 q4 q5 q6 q7 q8)
    have h3 : s.n0 ≤ H'.length := hn3
    have hstay : ∀ x, x ∉ f → ∀ q, ρ x = some q → ρ' x = some q := fun x hx q hq => by
      have hx' : x < s.H.length := by
        rcases Nat.lt_or_ge x s.H.length with h' | h'
        · exact h'
        · rw [hg.mem.fresh x h'] at hq; cases hq
      rw [hfr.stay x (by rw [hlen]; omega) hx]; exact hle2 x q hq
    have hgood : Good B nt M' ρ' (afterLoop s L H' t f) { a with defers := [{ target := .collected w.heap.size, args := #[] }] ++ a.defers } (w3.putObj (w.heap.size + 1) (.loop { r3 with state := .exhausted })) := by
      refine ⟨fun x y hy => ?_, hg.sz, m4, ⟨by simp [afterLoop, hg.df.1], fun i d m hd hk => ?_⟩, fun m hm => ?_, by simpa [afterLoop] using h3, hg.fix⟩
      · obtain ⟨z, hz, hyz⟩ := lookup_forgetT hy
        exact (hg.tm x z hz).after hfr.imm hstay hyz
      · match i with
        | 0 => simp [afterLoop] at hd hk; subst hd; subst hk; exact ⟨_, e1, rfl⟩
        | i + 1 =>
          simp [afterLoop] at hd hk
          obtain ⟨q, hq, e⟩ := hg.df.2 i d m hd hk
          exact ⟨q, hstay m (hmk m (List.mem_of_getElem? hk)).1 q hq, e⟩
      · rcases List.mem_cons.1 hm with rfl | hm
        · exact hn
        · exact hg.mks m hm
    have hgo : Goes M ρ s w M' ρ' (afterLoop s L H' t f) (w3.putObj (w.heap.size + 1) (.loop { r3 with state := .exhausted })) := by
      refine ⟨?_, rfl, fun x hx => acc_addTo hx, fun x hx => acc_addTo hx⟩
      have a1 : Fr M ρ s.H w M _ _ _ s.n0 (addTo s.n0 t s.tch) (addTo s.n0 f s.fg) := fr1.weaken hn (fun x _ h => by cases h) (fun x _ h => by cases h)
      have a2 := fr2.weaken (n' := s.n0) (t' := addTo s.n0 t s.tch) (f' := addTo s.n0 f s.fg) (by omega) (fun x _ h => by cases h) (fun x _ h => by cases h)
      have a3 := hfr.weaken (n' := s.n0) (t' := addTo s.n0 t s.tch) (f' := addTo s.n0 f s.fg) (by rw [hlen]; omega) (fun x hx h => mem_addTo hx h) (fun x hx h => mem_addTo hx h)
      have a4 := f4.weaken (n' := s.n0) (t' := addTo s.n0 t s.tch) (f' := addTo s.n0 f s.fg) h3 (fun x hx h => by rw [List.mem_singleton.1 h] at hx; omega) (fun x _ h => by cases h)
      exact ((a1.trans a2 (fun _ h => h) (fun _ h => h) (fun _ h => h) (fun _ h => h)).trans a3 (fun _ h => h) (fun _ h => h) (fun _ h => h) (fun _ h => h)).trans a4 (fun _ h => h) (fun _ h => h) (fun _ h => h) (fun _ h => h)
    refine ⟨L.pending, _, by rw [← q3]; exact run_endLoop q1 (by rw [q2]; exact hst), ?_⟩
    cases hpd : L.pending with
    | none => rw [hpd] at hpend; exact ⟨M', ρ', _, hpend, hgood, hgo⟩
    | some c =>
      rw [hpd] at hpend
      exact wpIn_mono (hpend B M' ρ' _ _ hgood) fun e a'' w'' ⟨M'', ρ'', s'', q, g', k'⟩ => ⟨M'', ρ'', s'', q, g', hgo.trans k'⟩
def noGotoQ (Q : Exit → St → Prop) : Exit → St → Prop
  | .goto _, _ => False
  | e, s => Q e s
theorem WPs_scope {P : Program} {nt : Nat} {c : Code} {Q : Exit → St → Prop} {s : St} (h : WPs none P nt c (noGotoQ Q) s) : WPs none P nt (.scope c) Q s := by
  intro B M ρ a w hg
  have h0 := h B M ρ a w hg
  rw [FW_none] at h0 ⊢
  refine wpIn_wide.2 (wp_scope_straight (wp_mono (wpIn_wide.1 h0) ?_))
  rintro e a' w' ⟨M', ρ', s', q, r⟩
  cases e with
  | goto l => exact q.elim
  | normal => exact ⟨M', ρ', s', q, r⟩
  | exit id => exact ⟨M', ρ', s', q, r⟩
  | ret => exact ⟨M', ρ', s', q, r⟩
  | panic c => exact ⟨M', ρ', s', q, r⟩
  | outgrown => exact ⟨M', ρ', s', q, r⟩
end Go.Sx
