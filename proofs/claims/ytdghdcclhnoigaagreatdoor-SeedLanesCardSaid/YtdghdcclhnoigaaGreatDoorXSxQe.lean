/- Part Qe of the own logic: what a function comes to, as a function of its data: the evaluator. -/
import Derived.Test.YtdghdcclhnoigaaGreatDoorXSxQs
set_option linter.unusedVariables false
set_option linter.unusedSimpArgs false
set_option linter.unnecessarySimpa false
namespace Go.Sx
open Go
inductive Ann where
  | leaf
  | one (a : Ann)
  | two (a b : Ann)
  | loop (τ : Tmpl) (l : Alts) (f : Foot) (F : Nat) (a : Ann)
  | join (l : Alts) (f : Foot) (a : Ann)
  | virt (slot ty : Nat) (row : List Ty) (a : Ann)
  | sealing (k ty : Nat) (row : List Ty) (a : Ann)
  | within (l : List (Nat × Ann))
  | virtF (ob col ty : Nat) (row : List Ty) (a : Ann)
  | trunc (slot : Nat) (a : Ann)
def Ann.fst : Ann → Ann
  | .one a => a
  | .two a _ => a
  | _ => .leaf
def Ann.snd : Ann → Ann
  | .two _ b => b
  | _ => .leaf
structure Sm where
  pre : List SV → List SObj → Bool
  run : (X : Type) → List SV → List SObj → KO X → Option X
structure SmOk (cx : Cx) (g : Nat) (sm : Sm) : Prop where
  fn : ∃ fn, cx.fns.lookup g = some fn
  ok : ∀ (X : Type) (args : List SV) (H : List SObj) (k : KO X) (y : X), sm.run X args H k = some y → SCall cx.P g args H fun x H' t f => k x H' t f = some y
structure Lx where
  ext : List (Nat × Sm)
  anns : List (Nat × Ann)
  still : List Nat
  unk : Option (Nat → Sm) := none
def Sm.first : List (Nat × Sm) → Nat → (X : Type) → List SV → List SObj → KO X → Option X
  | [], _, _, _, _, _ => none
  | q :: l, g, X, args, H, k => match Nat.beq q.1 g with
    | false => Sm.first l g X args H k
    | true => match q.2.pre args H with
      | true => q.2.run X args H k
      | false => Sm.first l g X args H k
def Lx.has (l : List (Nat × Sm)) (g : Nat) (args : List SV) (H : List SObj) : Bool := l.any fun q => match Nat.beq q.1 g with
  | true => q.2.pre args H
  | false => false
structure Lx.Ok (cx : Cx) (lx : Lx) : Prop where
  ext : ∀ q ∈ lx.ext, SmOk cx q.1 q.2
  unk : lx.unk = none
theorem Sm.first_ok {cx : Cx} : ∀ {l : List (Nat × Sm)} (_ : ∀ q ∈ l, SmOk cx q.1 q.2) {g : Nat} {X : Type} {args : List SV} {H : List SObj} {k : KO X} {y : X}, Sm.first l g X args H k = some y → (∃ fn, cx.fns.lookup g = some fn) ∧ SCall cx.P g args H fun x H' t f => k x H' t f = some y
  | [], _, g, X, args, H, k, y, h => by cases h
  | q :: l, hl, g, X, args, H, k, y, h => by
    simp only [Sm.first] at h
    split at h
    · exact Sm.first_ok (fun q hq => hl q (List.mem_cons_of_mem _ hq)) h
    · rename_i e
      have e := Nat.eq_of_beq_eq_true e
      subst e
      split at h
      · have := hl q List.mem_cons_self
        exact ⟨this.fn, this.ok X args H k y h⟩
      · exact Sm.first_ok (fun q hq => hl q (List.mem_cons_of_mem _ hq)) h
abbrev RecO := (X : Type) → (X → X → Bool) → Ann → Bool → Nat → Code → St → KX X → Option X
def RecOk (cx : Cx) (rec : RecO) : Prop := ∀ (X : Type) (eq : X → X → Bool) (_ : EqOk eq) R an top nt c s (k : KX X) (y : X), (top = true → R = none) → rec X eq an top nt c s k = some y → WPs R cx.P nt c (fun e s' => k e s' = some y) s
section
variable {X : Type}
def leaveO (z : Bool) (H : List SObj) (r : SV) (H' : List SObj) (t g : List Nat) (k : KO X) : Option X :=
  match g.isEmpty && (Nat.ble H.length H'.length && ((z || r.free H.length) && touchedFree H.length H' t)) with
  | true => match frzS H' H.length 1000 r with
    | some r' => k r' (restoreH t H H') t []
    | none => k r H' t g
  | false => k r H' t g
theorem leaveO_sound {z : Bool} {H : List SObj} {r : SV} {H' : List SObj} {t g : List Nat} {k : KO X} {y : X} (h : leaveO z H r H' t g k = some y) : Left H (fun x H' t f => k x H' t f = some y) r H' t g := by
  unfold leaveO at h
  split at h
  · rename_i e
    simp only [Bool.and_eq_true, List.isEmpty_iff] at e
    split at h
    · rename_i r' hr'
      exact .inl ⟨e.1, Nat.le_of_ble_eq_true e.2.1, fun s hs o ho _ => touchedFree_spec e.2.2.2 s hs o ho, r', 1000, hr', h⟩
    · exact .inr h
  · exact .inr h
def resO (cx : Cx) (s : St) : List ResultVar → (List SV → Option X) → Option X
  | [], k => k []
  | .tmp t :: rs, k => resO cx s rs fun l => k (s.ev (.tmp t) :: l)
  | .cell a t :: rs, k => (sLoad cx.tab s.H t (s.ev (.tmp a))).runO (fun x => resO cx s rs fun l => k (x :: l)) fun x _ _ _ => resO cx s rs fun l => k (x :: l)
theorem resO_sound {cx : Cx} {s : St} {y : X} : ∀ (rs : List ResultVar) (k : List SV → Option X), resO cx s rs k = some y → resP cx s rs fun l => k l = some y
  | [], k, h => h
  | .tmp t :: rs, k, h => resO_sound rs _ h
  | .cell a t :: rs, k, h => Res.runO_holds (fun x h => resO_sound rs _ h) (fun x _ _ _ h => resO_sound rs _ h) h
def isEnd : Exit → Bool
  | .normal => true
  | .ret => true
  | _ => false
theorem isEnd_eq {e : Exit} (h : isEnd e = true) : e = .normal ∨ e = .ret := by
  cases e with
  | normal => exact .inl rfl
  | ret => exact .inr rfl
  | _ => cases h
def endO (cx : Cx) (fn : Func) (z : Bool) (H : List SObj) (k : KO X) : KX X := fun e s =>
  gd (isEnd e && (s.marks.isEmpty || Nat.ble H.length s.H.length)) (match shut s.marks s.H with
    | none => none
    | some H' => resO cx { s with H := H', marks := [] } fn.results.toList fun l => leaveO z H (retV l) H' s.tch s.fg k)
theorem endO_sound {cx : Cx} {fn : Func} {z : Bool} {H : List SObj} {k : KO X} {e : Exit} {s : St} {y : X} (h : endO cx fn z H k e s = some y) :
    (e = .normal ∨ e = .ret) ∧ (H.length ≤ s.H.length ∨ s.marks = []) ∧ ∃ H', shut s.marks s.H = some H' ∧ resP cx { s with H := H', marks := [] } fn.results.toList fun l =>
      Left H (fun x H' t f => k x H' t f = some y) (retV l) H' s.tch s.fg := by
  obtain ⟨hc, h⟩ := gd_some h
  simp only [Bool.and_eq_true, Bool.or_eq_true, List.isEmpty_iff] at hc
  split at h
  · cases h
  · rename_i H' hs
    exact ⟨isEnd_eq hc.1, hc.2.symm.imp (fun h => Nat.le_of_ble_eq_true h) id, H', hs, resP_mono _ _ _ (fun l hl => leaveO_sound hl) (resO_sound _ _ h)⟩
def roundO (rec : RecO) (eq : X → X → Bool) (ab : Ann) (s : Nat) (args : List SV) (H : List SObj) (k : KO X) : Option X :=
  match H[s]? with
  | some (.loop L) => gd (Nat.beq L.params.toList.length args.length && L.params.toList.all fun p => Nat.blt p L.nt) (rec X eq .leaf false L.nt L.assign (roundSt L args H) fun e s1 => match e with
    | .normal => gd (!s1.fg.contains s && Nat.ble H.length s1.H.length) (match s1.H[s]? with
      | some (.loop L1) => gd (isReady L1.state) (rec X eq ab false L.nt L.body (busyS s L1 s1) fun e s2 => match jumpOf e with
        | none => none
        | some jump => gd (!s2.fg.contains s && Nat.ble H.length s2.H.length) (match s2.H[s]? with
          | some (.loop L2) => k (.lit (.bool jump.isNone)) (endedH s L2 jump s2.H) s2.tch s2.fg
          | _ => none))
      | _ => none)
    | _ => none)
  | _ => none
theorem roundO_sound {cx : Cx} {rec : RecO} (hrec : RecOk cx rec) {eq : X → X → Bool} (he : EqOk eq) {ab : Ann} {s : Nat} {args : List SV} {H : List SObj} {k : KO X} {y : X}
    (h : roundO rec eq ab s args H k = some y) : SRound cx.P s args H fun x H' t f => k x H' t f = some y := by
  unfold roundO at h
  split at h
  · rename_i L hH
    obtain ⟨hc, h⟩ := gd_some h
    rw [Bool.and_eq_true] at hc
    refine SRound_of hH (Nat.eq_of_beq_eq_true hc.1) hc.2 fun R => ?_
    refine (hrec X eq he R _ false _ _ _ _ y (fun e => by cases e) h).mono fun e s1 h1 => ?_
    cases e with
    | normal =>
      obtain ⟨hc1, h1⟩ := gd_some h1
      rw [Bool.and_eq_true] at hc1
      split at h1
      · rename_i L1 hL1
        obtain ⟨hc2, h1⟩ := gd_some h1
        refine ⟨rfl, not_contains hc1.1, Nat.le_of_ble_eq_true hc1.2, L1, hL1, isReady_eq hc2, ?_⟩
        refine (hrec X eq he R _ false _ _ _ _ y (fun e => by cases e) h1).mono fun e s2 h2 => ?_
        cases hj : jumpOf e with
        | none => simp only [hj] at h2; cases h2
        | some jump =>
          simp only [hj] at h2
          obtain ⟨hc3, h2⟩ := gd_some h2
          rw [Bool.and_eq_true] at hc3
          split at h2
          · rename_i L2 hL2
            exact ⟨jump, rfl, not_contains hc3.1, Nat.le_of_ble_eq_true hc3.2, L2, hL2, h2⟩
          · cases h2
      · cases h1
    | _ => cases h1
  · cases h
def Lx.annOf (lx : Lx) (g n : Nat) : Option Ann := match lx.anns.lookup (g + 10000000 * (n + 1)) with
  | some a => some a
  | none => lx.anns.lookup g
def callQ (cx : Cx) (lx : Lx) (rec : RecO) (eq : X → X → Bool) : CallO X
  | true, s, args, H, k => match lx.anns.lookup (1000000 + s) with
    | some a => roundO rec eq a s args H k
    | none => match lx.unk with
      | some f => (f (1000000 + s)).run X args H k
      | none => roundO rec eq .leaf s args H k
  | false, g, args, H, k =>
    match lx.annOf g H.length with
    | some a => walkO a g args H k
    | none => match Lx.has lx.ext g args H with
      | true => Sm.first lx.ext g X args H k
      | false => match lx.unk with
        | some f => (f g).run X args H k
        | none => walkO .leaf g args H k
where walkO (a : Ann) (g : Nat) (args : List SV) (H : List SObj) (k : KO X) : Option X := match cx.fns.lookup g with
  | none => none
  | some fn => match fn.body with
    | none => none
    | some c => gd (Nat.ble args.length fn.ntmps) (rec X eq a true fn.ntmps c (.entry args H) (endO cx fn (lx.still.contains g) H k))
theorem walkO_ok {cx : Cx} (hcx : cx.Ok) {lx : Lx} {rec : RecO} (hrec : RecOk cx rec) {eq : X → X → Bool} (he : EqOk eq) {a : Ann} {g : Nat} {args : List SV} {H : List SObj} {k : KO X} {y : X} (h : callQ.walkO cx lx rec eq a g args H k = some y) :
    (∃ fn, cx.fns.lookup g = some fn) ∧ SCall cx.P g args H fun x H' t f => k x H' t f = some y := by
  unfold callQ.walkO at h
  split at h
  · cases h
  · rename_i fn hfn
    split at h
    · cases h
    · rename_i c hb
      obtain ⟨hc, h⟩ := gd_some h
      refine ⟨⟨fn, hfn⟩, ?_⟩
      exact SCall.leave (SCall_of_WPs hcx hfn hb (Nat.le_of_ble_eq_true hc) ((hrec X eq he none _ true _ _ _ _ y (fun _ => rfl) h).mono fun e s hs => endO_sound hs))
theorem callQ_ok {cx : Cx} (hcx : cx.Ok) {lx : Lx} (hlx : lx.Ok cx) {rec : RecO} (hrec : RecOk cx rec) {eq : X → X → Bool} (he : EqOk eq) : CallO.Ok cx (callQ cx lx rec eq) := by
  refine ⟨fun g args H k y h => ?_, fun s args H k y h => ?_⟩
  · have h : (match lx.annOf g H.length with
      | some a => callQ.walkO cx lx rec eq a g args H k
      | none => match Lx.has lx.ext g args H with
        | true => Sm.first lx.ext g X args H k
        | false => match lx.unk with
          | some f => (f g).run X args H k
          | none => callQ.walkO cx lx rec eq .leaf g args H k) = some y := h
    split at h
    · exact walkO_ok hcx hrec he h
    · split at h
      · exact Sm.first_ok hlx.ext h
      · rw [hlx.unk] at h
        exact walkO_ok hcx hrec he h
  · have h : (match lx.anns.lookup (1000000 + s) with
      | some a => roundO rec eq a s args H k
      | none => match lx.unk with
        | some f => (f (1000000 + s)).run X args H k
        | none => roundO rec eq .leaf s args H k) = some y := h
    split at h
    · exact roundO_sound hrec he h
    · rw [hlx.unk] at h
      exact roundO_sound hrec he h
def rangeO (cb : CallO X) (rec : RecO) (eq : X → X → Bool) (nt : Nat) (g : Operand) (ps : Array Tmp) (assign body : Code) (s : St) (k : KX X) : Option X :=
  gd (Nat.ble s.n0 s.H.length) (match targetG (s.ev g) (.yld (s.H.length + 1)) with
  | none => none
  | some (gf, args) => cb false gf args (startH s nt ps assign body) fun r H' t f =>
    gd ((!f.contains s.H.length && !f.contains (s.H.length + 1)) && ((s.marks.all fun m => !f.contains m && Nat.blt m s.H.length) && Nat.ble s.n0 H'.length)) (match H'[s.H.length + 1]? with
    | some (.loop L) => gd (notBusy L.state) (match L.pending with
      | none => k .normal (afterLoop s L H' t f)
      | some c => rec X eq .leaf true nt c (afterLoop s L H' t f) k)
    | _ => none))
theorem rangeO_sound {cx : Cx} (hcx : cx.Ok) {cb : CallO X} (hcb : cb.Ok cx) {rec : RecO} (hrec : RecOk cx rec) {eq : X → X → Bool} (he : EqOk eq) {nt : Nat} {g : Operand} {ps : Array Tmp} {assign body : Code} {s : St} {k : KX X} {y : X}
    (h : rangeO cb rec eq nt g ps assign body s k = some y) : WPs none cx.P nt (.rangeFunc g ps assign body) (fun e s' => k e s' = some y) s := by
  obtain ⟨hn, h⟩ := gd_some h
  cases ht : targetG (s.ev g) (.yld (s.H.length + 1)) with
  | none => simp only [ht] at h; cases h
  | some q =>
    obtain ⟨gf, args⟩ := q
    simp only [ht] at h
    obtain ⟨⟨fn, hfn⟩, h⟩ := hcb.ok _ _ _ _ _ h
    refine WPs_rangeFunc hcx (Nat.le_of_ble_eq_true hn) ht hfn (h.mono fun r H' t f h => ?_)
    obtain ⟨hc, h⟩ := gd_some h
    simp only [Bool.and_eq_true] at hc
    obtain ⟨⟨h1, h2⟩, h3, h4⟩ := hc
    split at h
    · rename_i L hL
      obtain ⟨hc5, h⟩ := gd_some h
      refine ⟨not_contains h1, not_contains h2, fun m hm => ?_, Nat.le_of_ble_eq_true h4, L, hL, notBusy_ne hc5, ?_⟩
      · have := List.all_eq_true.1 h3 m hm
        simp only [Bool.and_eq_true] at this
        exact ⟨not_contains this.1, blt_lt this.2⟩
      · split at h
        · rename_i e; rw [e]; exact h
        · rename_i c e; rw [e]; exact hrec X eq he none _ true _ _ _ _ y (fun _ => rfl) h
    · cases h
def joinO (rec : RecO) (l : Alts) (f : Foot) (an : Ann) (top : Bool) (nt : Nat) (c : Code) (s : St) (k : KX X) : Option X :=
  gd (s.marks.isEmpty && (f.ok && altsOk f l)) (match rec (AltsEl l) (AltsEl.eqv l) an top nt c s.sub (fun e s' => readAlts f s.H.length l e s') with
    | some x => onAlts f s l x fun e s1 => k e (s.outer s1)
    | none => none)
theorem joinO_sound {cx : Cx} {rec : RecO} (hrec : RecOk cx rec) {l : Alts} {f : Foot} {an : Ann} {R : Option Nat} {top : Bool} {nt : Nat} {c : Code} {s : St} {k : KX X} {y : X} (ht : top = true → R = none)
    (h : joinO rec l f an top nt c s k = some y) : WPs R cx.P nt c (fun e s' => k e s' = some y) s := by
  obtain ⟨hc, h⟩ := gd_some h
  simp only [Bool.and_eq_true, List.isEmpty_iff] at hc
  split at h
  · rename_i x hx
    rw [onAlts_eq] at h
    exact WPs_join hc.1 hc.2.1 hc.2.2 (hrec _ _ (AltsEl.eqv_ok l) R _ top _ _ _ _ x ht hx) h
  · cases h
def isNormal : Exit → Bool
  | .normal => true
  | _ => false
def loopQ (rec : RecO) (τ : Tmpl) (l : Alts) (f : Foot) (F : Nat) (an : Ann) (top : Bool) (nt : Nat) (c : Code) (s : St) (k : KX X) : Option X :=
  gd (s.marks.isEmpty && (f.ok && (altsOk f l && (τ.covers f.ids && l.all fun a => !isNormal a.1)))) (match readT τ f s.H.length s.sub with
    | some x0 => match loopO (fun x => rec (τ.El ⊕ AltsEl l) (sumEq (CEls.eqv τ.cells) (AltsEl.eqv l)) an top nt c (τ.st f.D f.ids f.mv s x) (roundK f s.H.length τ l)) F x0 with
      | some y => onAlts f s l y fun e s1 => k e (s.outer s1)
      | none => none
    | none => none)
theorem stAlts_ne {f : Foot} {s : St} : ∀ {l : Alts} (x : AltsEl l), (l.all fun a => !isNormal a.1) = true → (stAlts f s l x).1 ≠ .normal
  | [], x, _ => Empty.elim x
  | [a], x, h => by
    simp only [List.all_cons, List.all_nil, Bool.and_true, Bool.not_eq_true'] at h
    intro e
    simp only [stAlts] at e
    rw [e] at h; cases h
  | a :: a' :: l, .inl x, h => by
    simp only [List.all_cons, Bool.and_eq_true, Bool.not_eq_true'] at h
    intro e
    simp only [stAlts] at e
    rw [e] at h; cases h.1
  | a :: a' :: l, .inr x, h => by
    have h' : ((a' :: l).all fun a => !isNormal a.1) = true := by
      simp only [List.all_cons, Bool.and_eq_true] at h ⊢; exact h.2
    simp only [stAlts]
    exact stAlts_ne x h'
theorem loopQ_sound {cx : Cx} {rec : RecO} (hrec : RecOk cx rec) {τ : Tmpl} {l : Alts} {f : Foot} {F : Nat} {an : Ann} {R : Option Nat} {top : Bool} {nt : Nat} {c : Code} {s : St} {k : KX X} {y : X} (ht : top = true → R = none)
    (h : loopQ rec τ l f F an top nt c s k = some y) : WPs R cx.P nt (.loop c) (fun e s' => k e s' = some y) s := by
  obtain ⟨hc, h⟩ := gd_some h
  simp only [Bool.and_eq_true, List.isEmpty_iff] at hc
  obtain ⟨c1, c2, c3, c4, c5⟩ := hc
  split at h
  · rename_i x0 hx0
    split at h
    · rename_i z hz
      rw [onAlts_eq] at h
      exact WPs_loopT c1 c2 c3 c4 (fun x r hr => hrec _ _ (sumEq_ok (CEls.eqv_ok _) (AltsEl.eqv_ok _)) R _ top _ _ _ _ r ht hr) hx0 hz (stAlts_ne z c5) h
    · cases h
  · cases h
end
def codeO (cx : Cx) (lx : Lx) (rec : RecO) (X : Type) (eq : X → X → Bool) (an : Ann) (top : Bool) (nt : Nat) : Code → St → KX X → Option X
  | .skip, s, k => k .normal s
  | .region _ ops draw, s, k => match draw with
    | false => vopsO cx (callQ cx lx rec eq) nt ops ops.toList s (k .normal)
    | true => gd (Region.noSelect ops) (runPlanO eq cx (callQ cx lx rec eq) nt ops (planOf true ops ops.size (Array.replicate ops.size false)) [] s (k .normal))
  | .seq a b, s, k => rec X eq an.fst top nt a s fun e s' => match e with
    | .normal => rec X eq an.snd top nt b s' k
    | e => k e s'
  | .cond c a b, s, k => match s.ev c with
    | .pv (.lit (.bool t)) => match t with
      | true => rec X eq an.fst top nt a s k
      | false => rec X eq an.snd top nt b s k
    | _ => none
  | .block id c, s, k => rec X eq an.fst top nt c s fun e s' => match e with
    | .exit id' => bif Nat.beq id' id then k .normal s' else k (.exit id') s'
    | e => k e s'
  | .loop c, s, k => rec X eq an.fst top nt c s fun e s' => match e with
    | .normal => rec X eq an top nt (.loop c) s' k
    | e => k e s'
  | .rangeFunc g ps assign body, s, k => match top with
    | true => rangeO (callQ cx lx rec eq) rec eq nt g ps assign body s k
    | false => none
  | .scope c, s, k => match top with
    | true => rec X eq an.fst true nt c s fun e s' => match e with
      | .goto _ => none
      | e => k e s'
    | false => none
  | .exit id, s, k => k (.exit id) s
  | .label _, s, k => k .normal s
  | .ret, s, k => k .ret s
  | _, _, _ => none
def Lx.more (lx : Lx) (l : List (Nat × Ann)) : Lx := match lx with
  | ⟨ext, anns, still, unk⟩ => ⟨ext, l ++ anns, still, unk⟩
theorem Lx.Ok.more {cx : Cx} {lx : Lx} (h : lx.Ok cx) (l : List (Nat × Ann)) : (lx.more l).Ok cx := ⟨h.ext, h.unk⟩
def stepO (cx : Cx) (lx : Lx) (rec : RecO) : RecO := fun X eq an top nt c s k => match an with
  | .join l f a => joinO rec l f a top nt c s k
  | .virt slot ty row a => match s.T.get slot with
    | some (.pv (.lit v)) => gd (Value.isNil v) (rec X eq a top nt c (virtSt s slot ty row) k)
    | _ => rec X eq a top nt c s k
  | .sealing kk ty row a => match sealSt kk ty row s with
    | some p => gd p.1 (rec X eq a top nt c p.2 k)
    | none => none
  | .trunc slot a => match truncSt s slot with
    | some s' => rec X eq a top nt c s' k
    | none => rec X eq a top nt c s k
  | .virtF ob col ty row a => match virtFSt s ob col ty row with
    | some s' => rec X eq a top nt c s' k
    | none => none
  | .within l => match c with
    | .loop _ => none
    | c => codeO cx (lx.more l) rec X eq .leaf top nt c s k
  | .loop τ l f F a => match c with
    | .loop body => loopQ rec τ l f F a top nt body s k
    | _ => none
  | .leaf => codeO cx lx rec X eq .leaf top nt c s k
  | .one a => codeO cx lx rec X eq (.one a) top nt c s k
  | .two a b => codeO cx lx rec X eq (.two a b) top nt c s k
def evalO (cx : Cx) (lx : Lx) : Nat → RecO
  | 0 => fun _ _ _ _ _ _ _ _ => none
  | n + 1 => stepO cx lx (evalO cx lx n)
def Ann.plain : Ann → Bool
  | .leaf => true
  | .one _ => true
  | .two _ _ => true
  | _ => false
theorem evalO_sound {cx : Cx} (hcx : cx.Ok) {lx : Lx} (hlx : lx.Ok cx) : ∀ (n : Nat), RecOk cx (evalO cx lx n) ∧
    (∀ (X : Type) (eq : X → X → Bool) (_ : EqOk eq) R an top nt c s (k : KX X) (y : X), (top = true → R = none) → evalO cx lx n X eq an top nt (.loop c) s k = some y → an.plain = true →
      Unrolled R cx.P nt c (fun e s' => k e s' = some y) n s)
  | 0 => ⟨fun X eq he R an top nt c s k y _ h => (by cases h), fun X eq he R an top nt c s k y _ h => (by cases h)⟩
  | n + 1 => by
    obtain ⟨ih1, ih2⟩ := evalO_sound hcx hlx n
    have loop : ∀ (X : Type) (eq : X → X → Bool) (_ : EqOk eq) R an top nt c s (k : KX X) (y : X), (top = true → R = none) → evalO cx lx (n + 1) X eq an top nt (.loop c) s k = some y → an.plain = true →
        Unrolled R cx.P nt c (fun e s' => k e s' = some y) (n + 1) s := by
      intro X eq he R an top nt c s k y ht h hp
      have h : codeO cx lx (evalO cx lx n) X eq an top nt (.loop c) s k = some y := by
        cases an with
        | leaf => exact h
        | one a => exact h
        | two a b => exact h
        | _ => cases hp
      refine (ih1 X eq he R an.fst top nt c s _ y ht h).mono fun e s' hs => ?_
      cases e with
      | normal => exact ⟨n, Nat.le_refl n, ih2 X eq he R an top nt c s' k y ht hs hp⟩
      | _ => exact hs
    refine ⟨fun X eq he R an top nt c s k y ht h => ?_, loop⟩
    have code : ∀ (lx' : Lx), lx'.Ok cx → (an.plain = true ∨ ∀ b, c ≠ .loop b) → ∀ an' : Ann, (an.plain = true → an' = an ∧ lx' = lx) → codeO cx lx' (evalO cx lx n) X eq an' top nt c s k = some y → WPs R cx.P nt c (fun e s' => k e s' = some y) s := by
      intro lx' hlx' hp an' han hcode
      have hcb := callQ_ok hcx hlx' ih1 he
      cases c with
      | skip => exact WPs_skip hcode
      | region id ops draw =>
        cases draw with
        | false => exact WPs_region hcx (vopsO_sound hcb _ _ _ hcode)
        | true =>
          obtain ⟨h1, h2⟩ := gd_some hcode
          exact WPs_draw hcx h1 (runPlanO_sound he hcb _ _ _ _ h2)
      | seq a b =>
        refine WPs_seq ((ih1 X eq he R an'.fst top nt a s _ y ht hcode).mono fun e s' hs => ?_)
        cases e with
        | normal => exact ih1 X eq he R an'.snd top nt b s' k y ht hs
        | _ => exact hs
      | cond c a b =>
        have hcode : (match s.ev c with
          | .pv (.lit (.bool t)) => match t with
            | true => evalO cx lx n X eq an'.fst top nt a s k
            | false => evalO cx lx n X eq an'.snd top nt b s k
          | _ => none) = some y := hcode
        split at hcode
        · rename_i t e
          refine WPs_cond e (fun hb => ?_) (fun hb => ?_)
          · subst hb; exact ih1 X eq he R an'.fst top nt a s k y ht hcode
          · subst hb; exact ih1 X eq he R an'.snd top nt b s k y ht hcode
        · cases hcode
      | block id c =>
        refine WPs_block ((ih1 X eq he R an'.fst top nt c s _ y ht hcode).mono fun e s' hs => ?_)
        cases e with
        | exit id' =>
          simp only [blockQ]
          by_cases e : id' = id
          · rw [if_pos e]; simp only [nbeq_t e, cond_true] at hs; exact hs
          · rw [if_neg e]; simp only [nbeq_f e, cond_false] at hs; exact hs
        | _ => exact hs
      | loop c =>
        have hp : an.plain = true := by
          rcases hp with hp | hp
          · exact hp
          · exact absurd rfl (hp c)
        obtain ⟨rfl, rfl⟩ := han hp
        refine WPs_unrolled (loop X eq he R an' top nt c s k y ht ?_ hp)
        cases an' with
        | leaf => exact hcode
        | one a => exact hcode
        | two a b => exact hcode
        | _ => cases hp
      | exit id => exact WPs_exit hcode
      | label l => exact WPs_label hcode
      | ret => exact WPs_ret hcode
      | rangeFunc g ps assign body =>
        cases top with
        | true =>
          have hR := ht rfl
          subst hR
          exact rangeO_sound hcx hcb ih1 he hcode
        | false => cases hcode
      | scope c =>
        cases top with
        | true =>
          have hR := ht rfl
          subst hR
          refine WPs_scope ((ih1 X eq he none an'.fst true nt c s _ y ht hcode).mono fun e s' hs => ?_)
          cases e with
          | goto _ => cases hs
          | _ => exact hs
        | false => cases hcode
      | goto _ => cases hcode
      | refuse _ => cases hcode
    cases an with
    | join l f a => exact joinO_sound ih1 ht h
    | virt slot ty row a =>
      have h : (match s.T.get slot with
        | some (.pv (.lit v)) => gd (Value.isNil v) (evalO cx lx n X eq a top nt c (virtSt s slot ty row) k)
        | _ => evalO cx lx n X eq a top nt c s k) = some y := h
      split at h
      · rename_i v hv
        obtain ⟨h1, h2⟩ := gd_some h
        exact WPs_virt hv h1 (ih1 X eq he R a top nt c _ k y ht h2)
      · exact ih1 X eq he R a top nt c _ k y ht h
    | trunc slot a =>
      have h : (match truncSt s slot with
        | some s' => evalO cx lx n X eq a top nt c s' k
        | none => evalO cx lx n X eq a top nt c s k) = some y := h
      split at h
      · rename_i s' hs'
        exact WPs_trunc hs' (ih1 X eq he R a top nt c _ k y ht h)
      · exact ih1 X eq he R a top nt c _ k y ht h
    | sealing kk ty row a =>
      have h : (match sealSt kk ty row s with
        | some p => gd p.1 (evalO cx lx n X eq a top nt c p.2 k)
        | none => none) = some y := h
      split at h
      · rename_i p hp
        obtain ⟨h1, h2⟩ := gd_some h
        exact WPs_seal (cc := p.1) (s' := p.2) hp h1 (ih1 X eq he R a top nt c _ k y ht h2)
      · cases h
    | virtF ob col ty row a =>
      have h : (match virtFSt s ob col ty row with
        | some s' => evalO cx lx n X eq a top nt c s' k
        | none => none) = some y := h
      split at h
      · rename_i s' hs'
        exact WPs_virtF hs' (ih1 X eq he R a top nt c _ k y ht h)
      · cases h
    | within l =>
      cases c with
      | loop b => cases h
      | _ => exact code (lx.more l) (hlx.more l) (.inr fun b e => by cases e) .leaf (fun e => by cases e) h
    | loop τ l f F a =>
      cases c with
      | loop body => exact loopQ_sound ih1 ht h
      | _ => cases h
    | leaf => exact code lx hlx (.inl rfl) .leaf (fun _ => ⟨rfl, rfl⟩) h
    | one a => exact code lx hlx (.inl rfl) (.one a) (fun _ => ⟨rfl, rfl⟩) h
    | two a b => exact code lx hlx (.inl rfl) (.two a b) (fun _ => ⟨rfl, rfl⟩) h
end Go.Sx
