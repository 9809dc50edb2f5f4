/- Part Zd of the own logic: a law that is a function of data. -/
import Derived.Test.YtdghdcclhnoigaaGreatDoorXSxZc
import Derived.CallsIn
set_option linter.unusedVariables false
set_option linter.unusedSimpArgs false
namespace Go.Sx
open Go Go.ChangeShapes Go.WideShapes Go.RowKit
section
variable {H : Type} {enc : TypeId × Value → H} {P : Program}
theorem trodAll_stays (hl : laidOutB P = true) {W W' : World} {sp : Nat → Bool} : ∀ {ts : List TypeId} {vs : List Value} {ds : List (DataW H)} {ps : List MemPlace},
    (ts.all fun t => P.readableRec t && decide (t < P.types.size)) = true → DataW.TrodAll enc P W 0 (fun _ => true) true ts vs ds ps → (∀ p ∈ ps, W.sameAt W' p) → (∀ p ∈ ps, sp p.block = true) → DataW.TrodAll enc P W' 0 sp true ts vs ds ps
  | [], vs, ds, ps, _, h, _, _ => by
    cases vs <;> cases ds <;> simp [DataW.TrodAll] at h ⊢
    exact h
  | t :: ts, vs, ds, ps, ht, h, hs, hb => by
    obtain ⟨v, vs', d, ds', p, q, rfl, rfl, rfl, h1, h2⟩ := trodAll_cons h
    simp only [List.all_cons, Bool.and_eq_true, decide_eq_true_eq] at ht
    exact ⟨p, q, WideElems.Trod_stays hl ht.1.1 ht.1.2 h1 (fun x hx => hs x (List.mem_append_left _ hx)) (fun x hx => hb x (List.mem_append_left _ hx)),
      trodAll_stays hl ht.2 h2 (fun x hx => hs x (List.mem_append_right _ hx)) (fun x hx => hb x (List.mem_append_right _ hx)), rfl⟩
theorem trodAll_len {W : World} {b : Nat} {sp : Nat → Bool} {hd : Bool} : ∀ {ts : List TypeId} {vs : List Value} {ds : List (DataW H)} {ps : List MemPlace}, DataW.TrodAll enc P W b sp hd ts vs ds ps → ds.length = ts.length
  | [], vs, ds, ps, h => by cases vs <;> cases ds <;> simp [DataW.TrodAll] at h ⊢
  | t :: ts, vs, ds, ps, h => by
    obtain ⟨v, vs', d, ds', p, q, rfl, rfl, rfl, h1, h2⟩ := trodAll_cons h
    simp [trodAll_len h2]
theorem law_calls {cx : Cx} {f : FuncId} {fn : Func} {s : ChangeSpec} {ats : List ATy} {c : Nat → AEls ats → Option Bool} {tb : TypeId}
    (hl : laidOutB cx.P = true) (hps : (fn.params.toList.all fun t => cx.P.readableRec t && decide (t < cx.P.types.size)) = true) (hk : atysK cx.P fn.params.toList = some ats)
    (hres : fn.resultTypes = #[tb]) (htb : cx.P.underlying tb = some .bool) (hvars : s.vars = []) (hspec : ∀ ds : List (DataW H), ds.length = fn.params.toList.length → s.fn H ds = { results := [.lit (.bool true)], args := ds })
    (hpc : ∀ F, PCOk cx f ⟨ats, [.val .bool], c F⟩) (law : ∀ a, AEls.ok ats a → ∃ F, c F a = some true)
    {W : World} {base : Nat} {args : Array Value} {ds gs : List (DataW H)} {before : List MemPlace} {hn : Bool}
    (hval : ∀ (j : Nat) t v, fn.params[j]? = some t → args[j]? = some v → Value.okWide cx.P W .any base t v)
    (hW : DataW.Whole enc cx.P fn.params.toList s.vars false W args.toList ds gs before)
    (hwt : (DataW.weightsEach cx.P (fn.params.toList ++ s.plain.varTypes cx.P) (ds ++ gs)).all (· ≤ reachBytes) = true) :
    Calls cx.P f args W fun e W' => ∃ v, e = .returned v ∧ s.post enc cx.P fn false true hn false W args v W' := by
  have hW' := hW
  obtain ⟨p, q, hA, hV, rfl, hfz, hnd⟩ := hW
  rw [hvars] at hV
  obtain ⟨rfl, rfl⟩ : gs = [] ∧ q = [] := by
    cases gs with
    | nil => exact ⟨rfl, hV⟩
    | cons g r => exact absurd hV (by intro h; cases h)
  have hlen := trodAll_len hA
  have hw : ∀ x ∈ DataW.weightsEach cx.P fn.params.toList ds, x ≤ reachBytes := by
    have happ : ∀ (ts : List TypeId) (ds : List (DataW H)) (us : List TypeId), ds.length = ts.length → DataW.weightsEach cx.P (ts ++ us) ds = DataW.weightsEach cx.P ts ds := by
      intro ts
      induction ts with
      | nil => intro ds us h; cases ds with
        | nil => cases us <;> rfl
        | cons _ _ => simp at h
      | cons t ts ih => intro ds us h; cases ds with
        | nil => simp at h
        | cons d ds => simp only [List.cons_append, DataW.weightsEach]; rw [ih ds us (by simpa using h)]
    rw [List.append_nil, happ _ _ _ hlen] at hwt
    intro x hx
    have := List.all_eq_true.1 hwt x hx
    simpa using this
  obtain ⟨a, hr, ho⟩ := args_rows hA hk (fun j t v h1 h2 => hval j t v (by simpa using h1) (by simpa using h2)) hw
  obtain ⟨F, hF⟩ := law a ho
  have hcall := (hpc F).ok a true hF (immOf W) noEnv W args.toList (mem_none fun b o h => h) hr
  rw [Array.toArray_toList] at hcall
  refine (callsIn_wide.1 hcall).mono fun e W' ⟨v, r, H', M', ρ', tch, fg, he, ⟨hr', _⟩, hx, hm, hf⟩ => ?_
  subst hr'
  have hv : v = .bool true := SRep.lit_eq (show SRep M' ρ' v (.pv (.lit (.bool true))) from hx)
  subst hv
  have hsame : ∀ b, b < W.heap.size → W'.heap[b]? = W.heap[b]? := fun b hb => hf.same b hb not_owned_none
  refine ⟨_, he, ds, [], p ++ [], [], p, [], hW', ?_, ?_, ?_, ?_, fun h => by cases h⟩
  · rw [List.append_nil, hspec ds hlen, hres]
    exact trodAll_mk1 (shut_bool htb true)
  · rw [List.append_nil, hspec ds hlen]
    refine trodAll_stays hl hps hA (fun x hx => ?_) (fun x hx => ?_)
    · have hlt := hW'.lt x (by simpa using hx)
      cases x with
      | cell b off => simp only [World.sameAt, World.cell?]; rw [hsame b hlt]
      | map b => exact hsame b hlt
    · exact decide_eq_true (hW'.lt x (by simpa using hx))
  · rw [List.append_nil, hspec ds hlen, hvars]; rfl
  · refine ⟨hf.io.1, hf.io.2, fun i hi => ?_⟩
    rw [hsame i hi]
    split
    · rename_i h1 h2
      rw [h1] at h2; cases h2
      exact ⟨rfl, rfl, rfl, fun _ _ => rfl⟩
    · rename_i h1 h2
      rw [h1] at h2; cases h2
      exact .inr ⟨rfl, rfl⟩
    · rfl
end
end Go.Sx
