/- Part J of the own logic: one operation. -/
import Derived.Test.YtdghdcclhnoigaaGreatDoorXSxI
import Derived.Orders
import Derived.IntWalk
set_option linter.unusedVariables false
set_option linter.unusedSimpArgs false
namespace Go.Sx
open Go
def DoesN (P : Program) (S : Sem Next) (M : Imm) (ρ : Env) (H : List SObj) (w : World) (K : Post) : Prop :=
  ∃ v w', (S.run P w = .ok (.value v) w' ∨ (S.run P w = .ok .skip w' ∧ v = undef)) ∧ ∃ x H' tch fg M' ρ', K x H' tch fg ∧ SRep M' ρ' v x ∧ Mem M' ρ' H' w' ∧ Fr M ρ H w M' ρ' H' w' H.length tch fg
theorem DoesV.toN {P : Program} {S : Sem Value} {M : Imm} {ρ : Env} {H : List SObj} {w : World} {K : Post} (h : DoesV P S M ρ H w K) : DoesN P (do pure (.value (← S))) M ρ H w K := by
  obtain ⟨v, w', hr, rest⟩ := h
  exact ⟨v, w', .inl (by simp [hr]), rest⟩
theorem DoesU.toN {P : Program} {S : Sem Unit} {M : Imm} {ρ : Env} {H : List SObj} {w : World} {K : Post} (h : DoesU P S M ρ H w K) : DoesN P (do S; pure .skip) M ρ H w K := by
  obtain ⟨w', hr, x, H', t, g, M', ρ', hk, rfl, m, f⟩ := h
  exact ⟨undef, w', .inr ⟨by simp [hr], rfl⟩, .any, H', t, g, M', ρ', hk, .any _, m, f⟩
theorem DoesN.same {P : Program} {S : Sem Next} {M : Imm} {ρ : Env} {H : List SObj} {w : World} {K : Post} {v : Value} {x : SV} (hm : Mem M ρ H w) (hr : S.run P w = .ok (.value v) w) (hx : SRep M ρ v x) (hk : K x H [] []) : DoesN P S M ρ H w K :=
  ⟨v, w, .inl hr, x, H, [], [], M, ρ, hk, hx, hm, Fr.refl ..⟩
def SV.litV : SV → Value
  | .pv (.lit v) => v
  | _ => undef
def SV.isLit : SV → Bool
  | .pv (.lit _) => true
  | _ => false
theorem litV_eq {M : Imm} {ρ : Env} {v : Value} {x : SV} (h : SRep M ρ v x) (hx : x.isLit = true) : v = x.litV := by
  match x, hx with
  | .pv (.lit u), _ => exact h.lit_eq
def isSelect : Op → Bool
  | .select .. => true
  | _ => false
def sPure (P : Program) (ev : Operand → SV) (o : Oper) : Res :=
  if (!isSelect o.op && o.op.operands.all fun x => (ev x).isLit) = true then match pureRun P (execOp (fun x => (ev x).litV) o) with
    | some (.value v) => .ok (.lit v)
    | _ => .fail
  else .fail
theorem sPure_sound {P : Program} {M : Imm} {ρ : Env} {H : List SObj} {w : World} {K : Post} {ev : Operand → SV} {va : Operand → Value} (hm : Mem M ρ H w) (hev : ∀ x, SRep M ρ (va x) (ev x)) {o : Oper}
    (h : (sPure P ev o).holds H K) : DoesN P (execOp va o) M ρ H w K := by
  unfold sPure at h
  split at h
  · rename_i hc
    simp only [Bool.and_eq_true, Bool.not_eq_true'] at hc
    split at h
    · rename_i v hv
      have he : execOp va o = execOp (fun x => (ev x).litV) o := by
        refine execOp_congr o (fun cs b hsel => by rw [hsel] at hc; simp [isSelect] at hc) fun x hx => ?_
        have := Array.all_eq_true_iff_forall_mem.1 hc.2 x hx
        exact litV_eq (hev x) this
      rw [he]
      exact DoesN.same hm (pureRun_run hv w) (.pv (.lit _)) h
    · exact h.elim
  · exact h.elim
def inI64 (n : Int) : Bool := decide (-9223372036854775808 ≤ n) && decide (n ≤ 9223372036854775807)
theorem wrap_inI64 {n : Int} (h : inI64 n = true) : IntKind.i64.wrap n = n := by
  simp only [inI64, Bool.and_eq_true, decide_eq_true_eq] at h
  exact IntWalk.i64_in _ (by omega)
def w64 (n : Int) : Int := IntKind.i64.wrap n
theorem w64_in {n : Int} (h0 : -9223372036854775808 ≤ n) (h1 : n ≤ 9223372036854775807) : w64 n = n := IntWalk.i64_in _ (by omega)
theorem isAgg_run {P : Program} {t : TypeId} {i : TI} (h : TyOk P t i) (w : World) : (isAgg t).run P w = .ok i.desc.isRow w := by
  unfold isAgg
  rw [Sem.run_bind, run_underlying h.und w]
  generalize i.desc = d
  cases d <;> simp [TypeDesc.isRow]
def SV.cells? : SV → Option (List SV)
  | .agg l => some l
  | .pv (.lit (.agg a)) => some (a.toList.map .lit)
  | _ => none
theorem cells?_rep {M : Imm} {ρ : Env} {v : Value} {x : SV} {l : List SV} (h : x.cells? = some l) (hr : SRep M ρ v x) :
    ∃ cs, v = .agg cs ∧ cs.size = l.length ∧ ∀ (i : Nat) (v : Value) (x : SV), cs[i]? = some v → l[i]? = some x → SRep M ρ v x := by
  unfold SV.cells? at h
  split at h
  · cases h
    cases hr with
    | agg cs _ hl hr => exact ⟨cs, rfl, hl, hr⟩
  · rename_i a
    cases h
    have := hr.lit_eq; subst this
    refine ⟨a, rfl, by simp, fun i v x hv hx => ?_⟩
    simp only [List.getElem?_map, Option.map_eq_some_iff] at hx
    obtain ⟨z, hz, rfl⟩ := hx
    rw [Array.getElem?_toList, hv] at hz; cases hz; exact .pv (.lit _)
  · cases h
def partOf (tab : Tab) (t : Nat) (l : List SV) (off : Nat) : Option SV := match tab.lookup t with
  | none => none
  | some i => match i.desc.isRow with
    | true => match Nat.ble (off + i.size) l.length with
      | true => some (.mkAgg ((l.drop off).take i.size))
      | false => none
    | false => l[off]?
theorem partOf_run {P : Program} {tab : Tab} (htab : TabOk P tab) {M : Imm} {ρ : Env} (w : World) {t off : Nat} {cs : Array Value} {l : List SV} {x : SV} (hl : cs.size = l.length)
    (hr : ∀ (i : Nat) (v : Value) (x : SV), cs[i]? = some v → l[i]? = some x → SRep M ρ v x) (h : partOf tab t l off = some x) : ∃ v, (part t cs off).run P w = .ok v w ∧ SRep M ρ v x := by
  unfold partOf at h
  split at h
  · cases h
  · rename_i i hi
    have ht := htab.get hi
    obtain ⟨inf, hinf, i1, _⟩ := ht.inf
    split at h
    · rename_i hd
      split at h
      · rename_i hle
        have hle := Nat.le_of_ble_eq_true hle
        cases h
        refine ⟨.agg (cs.extract off (off + i.size)), by simp [part, isAgg_run ht, hd, sizeOf, typeInfo, hinf, i1], ?_⟩
        have := SRep.mkAgg (M := M) (ρ := ρ) (cs := (cs.extract off (off + i.size)).toList) (l := (l.drop off).take i.size) (by simp; omega) (fun k v x hv hx => by
          rw [List.getElem?_take] at hx
          split at hx
          · rename_i hk
            rw [List.getElem?_drop] at hx
            rw [Array.getElem?_toList, Array.getElem?_extract] at hv
            split at hv
            · exact hr _ v x hv hx
            · cases hv
          · cases hx)
        rwa [Array.toArray_toList] at this
      · cases h
    · rename_i hd
      have hlt : off < cs.size := by have := (List.getElem?_eq_some_iff.1 h).1; omega
      exact ⟨cs[off], by simp [part, isAgg_run ht, hd, hlt], hr off _ _ (by simp [hlt]) h⟩
def eqCell (d : TypeDesc) (x y : SV) : Option Bool := match d, x, y with
  | .bool, .pv (.lit (.bool a)), .pv (.lit (.bool b)) => some (a == b)
  | .int _, .pv (.lit (.int k a)), .pv (.lit (.int k' b)) => match decide (k = k') with
    | true => some (decide (a = b))
    | false => none
  | .string, .pv (.lit (.string a)), .pv (.lit (.string b)) => some (a == b)
  | _, _, _ => none
def eqFields (eq : Nat → SV → SV → Option Bool) (tab : Tab) (xs ys : List SV) : List Field → Option Bool
  | [] => some true
  | f :: fs => match decide (f.name = "_") with
    | true => eqFields eq tab xs ys fs
    | false => match partOf tab f.type xs f.offset with
      | none => none
      | some a => match partOf tab f.type ys f.offset with
        | none => none
        | some b => match eq f.type a b with
          | none => none
          | some r => match eqFields eq tab xs ys fs with
            | none => none
            | some r' => some (r && r')
def eqV (P : Program) (tab : Tab) : Nat → Nat → SV → SV → Option Bool
  | 0, _, _, _ => none
  | n + 1, t, x, y => match tab.lookup t with
    | none => none
    | some i => match i.desc with
      | .struct fields => match P.stoodInHeld t with
        | true => none
        | false => match x.cells? with
          | none => none
          | some xs => match y.cells? with
            | none => none
            | some ys => eqFields (eqV P tab n) tab xs ys fields.toList
      | d => eqCell d x y
theorem eqFields_run {P : Program} {tab : Tab} (htab : TabOk P tab) {M : Imm} {ρ : Env} (w : World) {eq : Nat → SV → SV → Option Bool} {E : Nat → Value → Value → Sem Bool}
    (hE : ∀ t x y vx vy b, eq t x y = some b → SRep M ρ vx x → SRep M ρ vy y → (E t vx vy).run P w = .ok b w)
    {cx cy : Array Value} {xs ys : List SV} (lx : cx.size = xs.length) (ly : cy.size = ys.length)
    (rx : ∀ (i : Nat) (v : Value) (x : SV), cx[i]? = some v → xs[i]? = some x → SRep M ρ v x) (ry : ∀ (i : Nat) (v : Value) (x : SV), cy[i]? = some v → ys[i]? = some x → SRep M ρ v x) :
    ∀ (fl : List Field) (b : Bool), eqFields eq tab xs ys fl = some b →
    Sem.run P (forIn fl ((none, ()) : Option Bool × Unit) fun f __s =>
            if f.name = "_" then pure (ForInStep.yield (none, ()))
            else do
              let a ← part f.type cx f.offset
              let c ← part f.type cy f.offset
              let r ← E f.type a c
              if r = false then pure (ForInStep.done (some false, ())) else pure (ForInStep.yield (none, ()))) w = .ok (if b then (none, ()) else (some false, ())) w
  | [], b, h => by simp [eqFields] at h; subst h; simp
  | f :: fs, b, h => by
    rw [List.forIn_cons]
    simp only [eqFields] at h
    split at h
    · rename_i hn
      have hn := of_decide_eq_true hn
      simp only [hn, if_true, Sem.run_bind, Sem.run_pure, Result.andThen_ok]
      exact eqFields_run htab w hE lx ly rx ry fs b h
    · rename_i hn
      have hn := of_decide_eq_false hn
      split at h
      · cases h
      · rename_i a ha
        split at h
        · cases h
        · rename_i c hc
          split at h
          · cases h
          · rename_i r hr
            split at h
            · cases h
            · rename_i r' hr'
              cases h
              obtain ⟨va, p1, p2⟩ := partOf_run htab w lx rx ha
              obtain ⟨vc, p3, p4⟩ := partOf_run htab w ly ry hc
              have p5 := hE _ _ _ _ _ _ hr p2 p4
              have ih := eqFields_run htab w hE lx ly rx ry fs r' hr'
              simp only [hn, if_false, Sem.run_bind, p1, p3, p5, Result.andThen_ok]
              cases r with
              | false => simp
              | true => simp only [Bool.true_eq_false, if_false, Sem.run_pure, Result.andThen_ok, Bool.true_and]; exact ih
theorem eqV_sound {P : Program} {tab : Tab} (htab : TabOk P tab) {M : Imm} {ρ : Env} (w : World) : ∀ (n : Nat) (t : Nat) (x y : SV) (vx vy : Value) (b : Bool), eqV P tab n t x y = some b → SRep M ρ vx x → SRep M ρ vy y →
    ∀ d, n ≤ d → (Op.equalIn d t vx vy).run P w = .ok b w
  | 0, t, x, y, vx, vy, b, h, hx, hy => by simp [eqV] at h
  | n + 1, t, x, y, vx, vy, b, h, hx, hy => by
    intro d hd
    obtain ⟨d, rfl⟩ : ∃ e, d = e + 1 := ⟨d - 1, by omega⟩
    unfold eqV at h
    split at h
    · cases h
    · rename_i i hi
      have ht := htab.get hi
      split at h
      · rename_i fields hdesc
        split at h
        · cases h
        · rename_i hst
          split at h
          · cases h
          · rename_i xs hxs
            split at h
            · cases h
            · rename_i ys hys
              obtain ⟨cx, rfl, lx, rx⟩ := cells?_rep hxs hx
              obtain ⟨cy, rfl, ly, ry⟩ := cells?_rep hys hy
              have hu : P.underlying t = some (.struct fields) := by rw [ht.und, hdesc]
              unfold Op.equalIn
              simp only [Sem.run_bind, run_underlying hu, Result.andThen_ok]
              simp [hst]
              rw [← Array.forIn_toList]
              generalize fields.toList = fl at h
              rw [eqFields_run htab w (fun t x y vx vy b h hx hy => eqV_sound htab w n t x y vx vy b h hx hy d (by omega)) lx ly rx ry fl b h]
              cases b <;> simp
      · rename_i hns
        unfold eqCell at h
        split at h
        · rename_i hdesc
          cases h
          have ex := hx.lit_eq; have ey := hy.lit_eq; subst ex; subst ey
          have hu := ht.und; rw [hdesc] at hu
          unfold Op.equalIn
          simp [Sem.run_bind, run_underlying hu]
        · rename_i hdesc
          split at h
          · rename_i hk
            cases of_decide_eq_true hk
            cases h
            have ex := hx.lit_eq; have ey := hy.lit_eq; subst ex; subst ey
            have hu := ht.und; rw [hdesc] at hu
            unfold Op.equalIn
            simp [Sem.run_bind, run_underlying hu]
            rfl
          · cases h
        · rename_i hdesc
          cases h
          have ex := hx.lit_eq; have ey := hy.lit_eq; subst ex; subst ey
          have hu := ht.und; rw [hdesc] at hu
          unfold Op.equalIn
          simp [Sem.run_bind, run_underlying hu]
        · cases h
def sEq (P : Program) (tab : Tab) (neg : Bool) (t : Nat) (a b : SV) : Res := match P.eqGuardType P.depth t with
  | true => .fail
  | false => match eqV P tab 8 t a b with
    | none => .fail
    | some r => match neg with
      | true => .ok (.lit (.bool (!r)))
      | false => .ok (.lit (.bool r))
def negOp : Bool → BinOp
  | true => .neq
  | false => .eql
theorem sEq_run {P : Program} {tab : Tab} (htab : TabOk P tab) {M : Imm} {ρ : Env} {neg : Bool} {t : Nat} {a b : SV} {va vb : Value} (ha : SRep M ρ va a) (hb : SRep M ρ vb b) {H : List SObj} {K : Post}
    (hca : a.cells?.isSome = true) (hcb : b.cells?.isSome = true) (h : (sEq P tab neg t a b).holds H K) :
    ∃ v : Value, K (.pv (.lit v)) H [] [] ∧ ∀ (w : World) (x y : Operand), (do eqGuard (negOp neg) t x y va vb; binOp (negOp neg) t va vb : Sem Value).run P w = .ok v w := by
  unfold sEq at h
  split at h
  · exact h.elim
  · rename_i hg
    split at h
    · exact h.elim
    · rename_i r hr
      obtain ⟨l, hl⟩ := Option.isSome_iff_exists.1 hca
      obtain ⟨m, hm⟩ := Option.isSome_iff_exists.1 hcb
      have h : K (.pv (.lit (.bool (match neg with | true => !r | false => r)))) H [] [] := by cases neg <;> exact h
      refine ⟨_, h, fun w x y => ?_⟩
      have e := eqV_sound htab (M := M) (ρ := ρ) w 8 t a b va vb r hr ha hb Op.maxDepth (by decide)
      obtain ⟨ca, rfl, _⟩ := cells?_rep hl ha
      obtain ⟨cb, rfl, _⟩ := cells?_rep hm hb
      cases neg <;> simp [negOp, eqGuard, hg, binOp, Op.equal, e]
def eqKind : BinOp → SV → SV → Option Bool
  | .eql, .agg _, _ => some false
  | .eql, _, .agg _ => some false
  | .eql, .pv (.lit (.agg _)), .pv (.lit (.agg _)) => some false
  | .neq, .agg _, _ => some true
  | .neq, _, .agg _ => some true
  | .neq, .pv (.lit (.agg _)), .pv (.lit (.agg _)) => some true
  | _, _, _ => none
theorem eqKind_op {op : BinOp} {a b : SV} {neg : Bool} (h : eqKind op a b = some neg) : op = negOp neg := by
  unfold eqKind at h
  split at h <;> first | (cases h; rfl) | cases h
def cmpOf (op : BinOp) (a b : SV) : Option Bool := match a, b with
  | .pv (.lit (.int k x)), .pv (.lit (.int k' y)) => match decide (k = k') with
    | false => none
    | true => match op with
      | .eql => some (decide (x = y))
      | .neq => some (!decide (x = y))
      | .lss => some (decide (x < y))
      | .leq => some (decide (x ≤ y))
      | .gtr => some (decide (y < x))
      | .geq => some (decide (y ≤ x))
      | _ => none
  | _, _ => none
def sBin (P : Program) (tab : Tab) (ev : Operand → SV) (o : Oper) (op : BinOp) (t : Nat) (a b : SV) : Res :=
  match op, a, b with
  | .add, .pv (.lit (.int .i64 x)), .pv (.lit (.int .i64 y)) => .ok (.lit (.int .i64 (w64 (x + y))))
  | .sub, .pv (.lit (.int .i64 x)), .pv (.lit (.int .i64 y)) => .ok (.lit (.int .i64 (w64 (x - y))))
  | .mul, .pv (.lit (.int .i64 x)), .pv (.lit (.int .i64 y)) => .ok (.lit (.int .i64 (w64 (x * y))))
  | .quo, .pv (.lit (.int .i64 x)), .pv (.lit (.int .i64 y)) => .need (decide (y ≠ 0)) (.ok (.lit (.int .i64 (w64 (x.tdiv y)))))
  | .rem, .pv (.lit (.int .i64 x)), .pv (.lit (.int .i64 y)) => .need (decide (y ≠ 0)) (.ok (.lit (.int .i64 (x.tmod y))))
  | .eql, .pv (.lit (.int .i64 x)), .pv (.lit (.int .i64 y)) => .ok (.lit (.bool (decide (x = y))))
  | .neq, .pv (.lit (.int .i64 x)), .pv (.lit (.int .i64 y)) => .ok (.lit (.bool (!decide (x = y))))
  | .lss, .pv (.lit (.int .i64 x)), .pv (.lit (.int .i64 y)) => .ok (.lit (.bool (decide (x < y))))
  | .leq, .pv (.lit (.int .i64 x)), .pv (.lit (.int .i64 y)) => .ok (.lit (.bool (decide (x ≤ y))))
  | .gtr, .pv (.lit (.int .i64 x)), .pv (.lit (.int .i64 y)) => .ok (.lit (.bool (decide (y < x))))
  | .geq, .pv (.lit (.int .i64 x)), .pv (.lit (.int .i64 y)) => .ok (.lit (.bool (decide (y ≤ x))))
  | .eql, .pv (.lit (.string x)), .pv (.lit (.string y)) => .ok (.lit (.bool (strEq x y)))
  | .neq, .pv (.lit (.string x)), .pv (.lit (.string y)) => .ok (.lit (.bool (!strEq x y)))
  | .add, .pv (.lit (.string x)), .pv (.lit (.string y)) => .need (decide (((x.size + y.size : Nat) : Int) ≤ IntKind.i64.max)) (.ok (.lit (.string (x ++ y))))
  | op, a, b => match eqKind op a b with
    | some neg => match a.cells?.isSome && b.cells?.isSome with
      | true => sEq P tab neg t a b
      | false => .fail
    | none => match cmpOf op a b with
      | some r => .ok (.lit (.bool r))
      | none => sPure P ev o
theorem eqGuard_int (P : Program) (w : World) (op : BinOp) (t : TypeId) (x y : Operand) (k k' : IntKind) (a b : Int) : (eqGuard op t x y (.int k a) (.int k' b)).run P w = .ok () w := by
  unfold eqGuard
  cases op <;> simp
theorem eqGuard_str (P : Program) (w : World) (op : BinOp) (t : TypeId) (x y : Operand) (a b : ByteArray) : (eqGuard op t x y (.string a) (.string b)).run P w = .ok () w := by
  unfold eqGuard
  cases op <;> simp
theorem cmpOf_run {P : Program} {M : Imm} {ρ : Env} {op : BinOp} {t : Nat} {a b : SV} {va vb : Value} {r : Bool} (ha : SRep M ρ va a) (hb : SRep M ρ vb b) (h : cmpOf op a b = some r) (w : World) (x y : Operand) :
    (do eqGuard op t x y va vb; binOp op t va vb : Sem Value).run P w = .ok (.bool r) w := by
  unfold cmpOf at h
  split at h
  · split at h
    · cases h
    · rename_i hk
      cases of_decide_eq_true hk
      have ea := ha.lit_eq; have eb := hb.lit_eq; subst ea; subst eb
      split at h <;> first
        | (cases h
           simp [Sem.run_bind, eqGuard_int, binOp, Op.intCmp, bne]; done)
        | (cases h
           simp only [Sem.run_bind, eqGuard_int, Result.andThen_ok, binOp, Op.intCmp, ne_eq, not_true_eq_false, if_false]; rfl)
        | cases h
  · cases h
theorem sBin_sound {P : Program} {tab : Tab} (htab : TabOk P tab) {M : Imm} {ρ : Env} {H : List SObj} {w : World} {K : Post} {ev : Operand → SV} {va : Operand → Value} (hm : Mem M ρ H w) (hev : ∀ x, SRep M ρ (va x) (ev x)) {o : Oper}
    {op : BinOp} {t t' : TypeId} {x y : Operand} (ho : o.op = .binOp op t x y t') (h : (sBin P tab ev o op t (ev x) (ev y)).holds H K) : DoesN P (execOp va o) M ρ H w K := by
  have hx := hev x
  have hy := hev y
  have exec : execOp va o = (do pure (.value (← (do eqGuard op t x y (va x) (va y); binOp op t (va x) (va y))))) := by simp [execOp, ho]
  unfold sBin at h
  split at h <;> first
    | (rename_i e1 e2
       rw [e1] at hx; rw [e2] at hy
       have ex := hx.lit_eq; have ey := hy.lit_eq
       rw [exec, ex, ey]
       simp only [Res.holds] at h
       first
        | (refine DoesN.same hm ?_ (.pv (.lit _)) h
           simp [Sem.run_bind, eqGuard_int, binOp, Op.intArith, w64]; done)
        | (obtain ⟨hn, h⟩ := h
           first
            | (have hz := of_decide_eq_true hn
               refine DoesN.same hm ?_ (.pv (.lit _)) h
               simp [Sem.run_bind, eqGuard_int, binOp, Op.intDiv, hz, w64]; done)
            | (have hz := Int.not_lt.2 (of_decide_eq_true hn)
               refine DoesN.same hm ?_ (.pv (.lit _)) h
               simp only [Sem.run_bind, eqGuard_str, Result.andThen_ok, binOp, Op.stringOp, gt_iff_lt, if_neg hz, Sem.run_pure]; done)
            | (obtain ⟨hn2, h⟩ := h
               have hz := of_decide_eq_true hn
               refine DoesN.same hm ?_ (.pv (.lit _)) h
               simp [Sem.run_bind, eqGuard_int, binOp, Op.intDiv, hz, wrap_inI64 hn2]; done))
        | (refine DoesN.same hm ?_ (.pv (.lit _)) h
           simp [Sem.run_bind, eqGuard_int, eqGuard_str, binOp, Op.intCmp, Op.stringOp, bne]; done)
        | (refine DoesN.same hm ?_ (.pv (.lit _)) h
           simp only [Sem.run_bind, eqGuard_int, eqGuard_str, Result.andThen_ok, binOp, Op.intCmp, Op.stringOp, strEq_toList]; rfl))
    | (split at h
       · rename_i neg hk
         split at h
         · rename_i hc
           simp only [Bool.and_eq_true] at hc
           obtain ⟨v, hk2, hrun⟩ := sEq_run htab hx hy hc.1 hc.2 h
           have ho := eqKind_op hk
           rw [exec, ho]
           exact DoesN.same hm (by simp only [Sem.run_bind] at hrun ⊢; simp [hrun]) (.pv (.lit _)) hk2
         · exact h.elim
       · split at h
         · rename_i r hr
           have hrun := cmpOf_run (P := P) (t := t) hx hy hr
           rw [exec]
           exact DoesN.same hm (by have := hrun w x y; simp only [Sem.run_bind] at this ⊢; simp [this]) (.pv (.lit _)) h
         · exact sPure_sound hm hev h)
def placesOf (t : TypeId) : Sem (Array (Nat × Nat)) := do
  match ← underlying t with
  | .struct fields => fields.mapM fun f => do pure (f.offset, ← sizeOf f.type)
  | _ => stuck ""
def sBuild (P : Program) (tab : Tab) (t : Nat) (parts : List (Nat × SV)) : Res :=
  match tab.lookup t with
  | none => .fail
  | some i => match i.desc with
    | .struct _ => match pureRun P (placesOf t) with
      | none => .fail
      | some places => match sfill (places[·]?) (i.zero.cells.toList.map SV.lit) parts with
        | none => .fail
        | some l => .ok (.mkAgg l)
    | .array _ e => match tab.lookup e with
      | none => .fail
      | some ie => match sfill (fun k => some (k * ie.size, ie.size)) (i.zero.cells.toList.map SV.lit) parts with
        | none => .fail
        | some l => .ok (.mkAgg l)
    | _ => .fail
theorem zero_rowRep {M : Imm} {ρ : Env} {P : Program} {t : TypeId} {i : TI} (h : TyOk P t i) : RowRep M ρ i.zero.cells (i.zero.cells.toList.map SV.lit) :=
  ⟨by simp, fun k u y hu hy => by
    simp only [List.getElem?_map, Option.map_eq_some_iff] at hy
    obtain ⟨z, hz, rfl⟩ := hy
    rw [Array.getElem?_toList, hu] at hz; cases hz; exact .pv (.lit _), fun k u hu => (Array.all_eq_true_iff_forall_mem.1 h.zon) u (Array.mem_of_getElem? hu)⟩
theorem sBuild_sound {P : Program} {tab : Tab} (htab : TabOk P tab) {M : Imm} {ρ : Env} {H : List SObj} {w : World} {K : Post} (hm : Mem M ρ H w) {t : Nat} {vp : Array (Nat × Value)} {sp : List (Nat × SV)}
    (hl : vp.size = sp.length) (hp : ∀ (k : Nat) (a : Nat × Value) (b : Nat × SV), vp.toList[k]? = some a → sp[k]? = some b → a.1 = b.1 ∧ SRep M ρ a.2 b.2)
    (h : (sBuild P tab t sp).holds H K) : DoesV P (Instr.build t vp) M ρ H w K := by
  unfold sBuild at h
  split at h
  · exact h.elim
  · rename_i i hi
    have ht := htab.get hi
    have hz := zeroValue_run ht w
    split at h
    · rename_i fields hd
      have hu : P.underlying t = some (.struct fields) := by rw [ht.und, hd]
      split at h
      · exact h.elim
      · rename_i places hpl
        split at h
        · exact h.elim
        · rename_i l hf
          obtain ⟨cs', g1, g2⟩ := sfill_sound (M := M) (ρ := ρ) (zero_rowRep ht) (by simpa using hl) hp hf
          have hrun := pureRun_run hpl w
          simp only [placesOf, Sem.run_bind, run_underlying hu, Result.andThen_ok] at hrun
          refine DoesV.same hm (v := .agg cs') ?_ ?_ h
          · simp only [Instr.build, Sem.run_bind, hz, Result.andThen_ok, run_underlying hu, hrun]
            rw [g1]; rfl
          · have := SRep.mkAgg (M := M) (ρ := ρ) (cs := cs'.toList) (l := l) (by simpa using g2.sz) (fun k v x hv hx => g2.rep k v x (by rw [← Array.getElem?_toList]; exact hv) hx)
            simpa using this
    · rename_i n e hd
      have hu : P.underlying t = some (.array n e) := by rw [ht.und, hd]
      split at h
      · exact h.elim
      · rename_i ie hie
        obtain ⟨inf, hinf, i1, _⟩ := (htab.get hie).inf
        split at h
        · exact h.elim
        · rename_i l hf
          obtain ⟨cs', g1, g2⟩ := sfill_sound (M := M) (ρ := ρ) (zero_rowRep ht) (by simpa using hl) hp hf
          refine DoesV.same hm (v := .agg cs') ?_ ?_ h
          · simp only [Instr.build, Sem.run_bind, hz, Result.andThen_ok, run_underlying hu, sizeOf, typeInfo, run_program, hinf, Sem.run_pure, i1]
            rw [g1]; rfl
          · have := SRep.mkAgg (M := M) (ρ := ρ) (cs := cs'.toList) (l := l) (by simpa using g2.sz) (fun k v x hv hx => g2.rep k v x (by rw [← Array.getElem?_toList]; exact hv) hx)
            simpa using this
    · exact h.elim
def sField (tab : Tab) (t : Nat) (x : SV) (f : Nat) : Res :=
  match x, tab.lookup t with
  | .agg l, some { desc := .struct fields, .. } => match fields[f]? with
    | none => .fail
    | some fd => match tab.lookup fd.type with
      | none => .fail
      | some i => if i.desc.isRow then .need (decide (fd.offset + i.size ≤ l.length)) (.ok (.mkAgg ((l.drop fd.offset).take i.size))) else .need (decide (fd.offset < l.length)) (.ok (l.getD fd.offset .any))
  | _, _ => .fail
theorem sField_sound {P : Program} {tab : Tab} (htab : TabOk P tab) {M : Imm} {ρ : Env} {H : List SObj} {w : World} {K : Post} (hm : Mem M ρ H w) {t f : Nat} {x : SV} {v : Value} (hx : SRep M ρ v x)
    (h : (sField tab t x f).holds H K) : DoesV P (Instr.field t v f) M ρ H w K := by
  unfold sField at h
  split at h
  · rename_i l fields sz' by' zr rw' hte
    have hu : P.underlying t = some (.struct fields) := (htab.get hte).und
    cases hx with
    | agg cs _ hl hr =>
      split at h
      · exact h.elim
      · rename_i fd hfd
        split at h
        · exact h.elim
        · rename_i i hi
          have ht := htab.get hi
          obtain ⟨inf, hinf, i1, _⟩ := ht.inf
          split at h
          · rename_i hd
            simp only [Res.holds, decide_eq_true_eq] at h
            obtain ⟨hle, h⟩ := h
            refine DoesV.same hm (v := .agg (cs.extract fd.offset (fd.offset + i.size))) ?_ ?_ h
            · simp [Instr.field, run_underlying hu, hfd, asAgg, part, isAgg_run ht, hd, sizeOf, typeInfo, hinf, i1]
            · have := SRep.mkAgg (M := M) (ρ := ρ) (cs := (cs.extract fd.offset (fd.offset + i.size)).toList) (l := (l.drop fd.offset).take i.size) (by simp; omega) (fun k v x hv hx => by
                rw [List.getElem?_take] at hx
                split at hx
                · rename_i hk
                  rw [List.getElem?_drop] at hx
                  rw [Array.getElem?_toList, Array.getElem?_extract] at hv
                  split at hv
                  · exact hr _ v x hv hx
                  · cases hv
                · cases hx)
              rwa [Array.toArray_toList] at this
          · rename_i hd
            simp only [Res.holds, decide_eq_true_eq] at h
            obtain ⟨hle, h⟩ := h
            have hlt : fd.offset < cs.size := by omega
            refine DoesV.same hm (v := cs[fd.offset]) ?_ ?_ h
            · simp [Instr.field, run_underlying hu, hfd, asAgg, part, isAgg_run ht, hd, hlt]
            · rw [List.getD_eq_getElem?_getD, List.getElem?_eq_getElem hle]
              exact hr fd.offset _ _ (by simp [hlt]) (by simp [hle])
  · exact h.elim
def sIndex (P : Program) (tab : Tab) (ev : Operand → SV) (o : Oper) (t : Nat) (x i : SV) : Res := match x, i with
  | .pv (.lit (.string s)), .pv (.lit (.int _ n)) => match tab.lookup t with
    | some { desc := .string, .. } => .need (decide (0 ≤ n)) (.need (decide (n.toNat < s.size)) (.ok (.lit (.int .u8 ((s.get! n.toNat).toNat : Int)))))
    | _ => .fail
  | _, _ => sPure P ev o
theorem sIndex_run {P : Program} {tab : Tab} (htab : TabOk P tab) {ev : Operand → SV} {o : Oper} {t : Nat} {s : ByteArray} {k : IntKind} {n : Int} {H : List SObj} {K : Post}
    (h : (sIndex P tab ev o t (.pv (.lit (.string s))) (.pv (.lit (.int k n)))).holds H K) : ∃ v : Value, K (.pv (.lit v)) H [] [] ∧ ∀ w, (Instr.index t (.string s) (.int k n)).run P w = .ok v w := by
  simp only [sIndex] at h
  split at h
  · rename_i sz' by' zr rw' hte
    have hu : P.underlying t = some .string := (htab.get hte).und
    obtain ⟨h1, h2, h⟩ := h
    have h1 := of_decide_eq_true h1
    have h2 := of_decide_eq_true h2
    refine ⟨_, h, fun w => ?_⟩
    have e : s.get! n.toNat = s[n.toNat] := by
      show s.data[n.toNat]! = _
      rw [getElem!_pos s.data n.toNat h2]; rfl
    simp [Instr.index, asIntOf, run_underlying hu, h1, h2, e]
  · exact h.elim
def sop (P : Program) (tab : Tab) (H : List SObj) (ev : Operand → SV) (o : Oper) : Res :=
  match o.op with
  | .move x => .ok (ev x)
  | .assign x => .ok (ev x)
  | .pick c a b => match ev c with
    | .pv (.lit (.bool t)) => .split t (.ok (ev a)) (.ok (ev b))
    | _ => .fail
  | .alloc t => sAlloc tab H t
  | .box t x => sBox tab H t (ev x)
  | .build t parts => sBuild P tab t (parts.toList.map fun p => (p.1, ev p.2))
  | .buildSlice t len parts => sBuildSlice tab H t len (parts.toList.map fun p => (p.1, ev p.2))
  | .load t a => sLoad tab H t (ev a)
  | .store t a x => sStore tab H t (ev a) (ev x)
  | .nilCheck x => match ev x with
    | .ptr s sz i j => .ok (.ptr s sz i j)
    | .pv (.rptr sz r i j) => .ok (.pv (.rptr sz r i j))
    | .mp s => .ok (.mp s)
    | .fn (.func f) a b => .ok (.fn (.func f) a b)
    | _ => sPure P ev o
  | .binOp op t x y _ => sBin P tab ev o op t (ev x) (ev y)
  | .makeFunc fn a b => .ok (.fn fn (a.toList.map ev) (b.toList.map ev))
  | .makeMap t r => match r with
    | none => sMakeMap H
    | some _ => .fail
  | .makeSlice t l c => sMakeSlice tab H t (ev l) (ev c)
  | .slice t x lo hi mx => match mx with
    | none => sSlice tab H t (ev x) (lo.map ev) (hi.map ev)
    | some _ => .fail
  | .fieldAddr t x f => sFieldAddr tab t (ev x) f
  | .field t x f => match ev x with
    | .agg l => sField tab t (.agg l) f
    | _ => sPure P ev o
  | .indexAddr t x ix => sIndexAddr tab t (ev x) (ev ix)
  | .lookup t m k ok => sLookup P tab H t (ev m) (ev k) ok
  | .mapUpdate t m k x => sMapUpdate P tab H t (ev m) (ev k) (ev x)
  | .insert t m k x => sMapUpdate P tab H t (ev m) (ev k) (ev x)
  | .mapEntry t m k => sMapEntry P tab H t (ev m) (ev k)
  | .entryStore _ m s x => sEntryStore H (ev m) (ev s) (ev x)
  | .range t x => sRange tab H t (ev x)
  | .next x isString => if isString then sNext H (ev x) else .fail
  | .extract x i => match ev x with
    | .tup l => match l[i]? with
      | some y => .ok y
      | none => .fail
    | _ => sPure P ev o
  | .call { callee := .builtin .append, args, argTypes } => match args.toList, argTypes.toList with
    | [a, x], [t, t'] => match ev a, ev x with
      | .pv (.lit (.slice none 0 0)), .pv (.lit (.int _ n)) => sZeros tab H t t' n
      | _, _ => sAppendS tab H t t' (ev a) (ev x)
    | _, _ => .fail
  | .call { callee := .builtin .len, args, argTypes } => match args.toList, argTypes.toList with
    | [x], [t] => sLen tab H t (ev x)
    | _, _ => .fail
  | .call { callee := .builtin _, .. } => sPure P ev o
  | .unOp .. => sPure P ev o
  | .convert .. => sPure P ev o
  | .index t x ix => sIndex P tab ev o t (ev x) (ev ix)
  | .makeInterface .. => sPure P ev o
  | _ => .fail
theorem parts_rep {M : Imm} {ρ : Env} {ev : Operand → SV} {va : Operand → Value} (hev : ∀ x, SRep M ρ (va x) (ev x)) (parts : Array (Nat × Operand)) :
    (parts.map fun (x : Nat × Operand) => (x.1, va x.2)).size = (parts.toList.map fun p => (p.1, ev p.2)).length ∧
    ∀ (k : Nat) (a : Nat × Value) (b : Nat × SV), (parts.map fun (x : Nat × Operand) => (x.1, va x.2)).toList[k]? = some a → (parts.toList.map fun p => (p.1, ev p.2))[k]? = some b → a.1 = b.1 ∧ SRep M ρ a.2 b.2 := by
  refine ⟨by simp, fun k a b ha hb => ?_⟩
  simp only [Array.toList_map, List.getElem?_map, Option.map_eq_some_iff] at ha hb
  obtain ⟨p, hp, rfl⟩ := ha
  obtain ⟨q, hq, rfl⟩ := hb
  rw [hp] at hq; cases hq
  exact ⟨rfl, hev _⟩
theorem ops_rep {M : Imm} {ρ : Env} {ev : Operand → SV} {va : Operand → Value} (hev : ∀ x, SRep M ρ (va x) (ev x)) (a : Array Operand) :
    (a.map va).size = (a.toList.map ev).length ∧ ∀ (i : Nat) (v : Value) (s : SV), (a.map va)[i]? = some v → (a.toList.map ev)[i]? = some s → SRep M ρ v s := by
  refine ⟨by simp, fun i v s hv hs => ?_⟩
  simp only [Array.getElem?_map, List.getElem?_map, Option.map_eq_some_iff] at hv hs
  obtain ⟨p, hp, rfl⟩ := hv
  obtain ⟨q, hq, rfl⟩ := hs
  rw [Array.getElem?_toList, hp] at hq; cases hq
  exact hev _
theorem opt_rep {M : Imm} {ρ : Env} {ev : Operand → SV} {va : Operand → Value} (hev : ∀ x, SRep M ρ (va x) (ev x)) (a : Option Operand) :
    (a.map va).isSome = (a.map ev).isSome ∧ ∀ v x, a.map va = some v → a.map ev = some x → SRep M ρ v x := by
  cases a with
  | none => exact ⟨rfl, fun v x h => by simp at h⟩
  | some y => exact ⟨rfl, fun v x h k => by simp at h k; subst h; subst k; exact hev y⟩
theorem sop_sound {P : Program} {tab : Tab} (htab : TabOk P tab) {M : Imm} {ρ : Env} {H : List SObj} {w : World} {K : Post} {ev : Operand → SV} {va : Operand → Value} (hm : Mem M ρ H w) (hev : ∀ x, SRep M ρ (va x) (ev x)) {o : Oper}
    (h : (sop P tab H ev o).holds H K) : DoesN P (execOp va o) M ρ H w K := by
  unfold sop at h
  split at h
  · rename_i x ho; exact DoesN.same hm (by simp [execOp, ho]) (hev x) h
  · rename_i x ho; exact DoesN.same hm (by simp [execOp, ho]) (hev x) h
  · rename_i c a b ho
    have hc := hev c
    split at h
    · rename_i t e
      rw [e] at hc
      have ec := hc.lit_eq
      obtain ⟨h1, h2⟩ := h
      cases t with
      | true => exact DoesN.same hm (by simp [execOp, ho, ec, asBool]) (hev a) (h1 rfl)
      | false => exact DoesN.same hm (by simp [execOp, ho, ec, asBool]) (hev b) (h2 rfl)
    · exact h.elim
  · rename_i t ho; have := (sAlloc_sound htab hm (old := .tuple #[]) h).toN; simpa [execOp, ho] using this
  · rename_i t x ho; have := (sBox_sound htab hm (hev x) h).toN; simpa [execOp, ho] using this
  · rename_i t parts ho
    obtain ⟨h1, h2⟩ := parts_rep hev parts
    have := (sBuild_sound htab hm h1 h2 h).toN; simpa [execOp, ho] using this
  · rename_i t len parts ho
    obtain ⟨h1, h2⟩ := parts_rep hev parts
    have := (sBuildSlice_sound htab hm h1 h2 h).toN; simpa [execOp, ho] using this
  · rename_i t a ho; have := (sLoad_sound htab hm (hev a) h).toN; simpa [execOp, ho] using this
  · rename_i t a x ho; have := (sStore_sound htab hm (hev a) (hev x) h).toN; simpa [execOp, ho] using this
  · rename_i x ho
    have hx := hev x
    split at h
    · rename_i s sz i j e
      rw [e] at hx
      cases hv : va x with
      | pointer a =>
        rw [hv] at hx
        cases hx with
        | ptr _ _ _ _ k p hp hk => exact DoesN.same hm (v := .pointer (some ⟨p.block, k, none⟩)) (by simp [execOp, ho, hv]) (.ptr _ _ _ _ k p hp hk) h
      | _ => rw [hv] at hx; cases hx
    · rename_i sz r i j e
      rw [e] at hx
      generalize hv : va x = vx at hx
      cases hx with
      | pv hp =>
        cases hp with
        | rptr b off _ _ _ k _ hk h0 h1 h2 => exact DoesN.same hm (v := .pointer (some ⟨b, k, none⟩)) (by simp [execOp, ho, hv]) (.pv (.rptr b off sz i j k r hk h0 h1 h2)) h
    · rename_i s e
      rw [e] at hx
      cases hv : va x with
      | map a => rw [hv] at hx; exact DoesN.same hm (v := .map a) (by simp [execOp, ho, hv]) hx h
      | _ => rw [hv] at hx; cases hx
    · rename_i f a b e
      rw [e] at hx
      cases hv : va x with
      | func g c d =>
        rw [hv] at hx
        cases hx with
        | fn _ _ _ _ _ ha hb hh hk => exact DoesN.same hm (v := .func (.func f) c d) (by simp [execOp, ho, hv]) (.fn _ _ _ _ _ ha hb hh hk) h
      | _ => rw [hv] at hx; cases hx
    · exact sPure_sound hm hev h
  · rename_i op t x y t' ho; exact sBin_sound htab hm hev ho h
  · rename_i fn a b ho
    obtain ⟨a1, a2⟩ := ops_rep hev a
    obtain ⟨b1, b2⟩ := ops_rep hev b
    exact DoesN.same hm (by simp [execOp, ho, Instr.makeFunc]) (.fn fn _ _ _ _ a1 b1 a2 b2) h
  · rename_i t r ho
    split at h
    · have := (sMakeMap_sound (P := P) (t := t) hm h).toN; simpa [execOp, ho] using this
    · exact h.elim
  · rename_i t l c ho; have := (sMakeSlice_sound htab hm (hev l) (hev c) h).toN; simpa [execOp, ho] using this
  · rename_i t x lo hi mx ho
    split at h
    · obtain ⟨l1, l2⟩ := opt_rep hev lo
      obtain ⟨h1, h2⟩ := opt_rep hev hi
      have := (sSlice_sound htab hm (hev x) l1 l2 h1 h2 h).toN; simpa [execOp, ho] using this
    · exact h.elim
  · rename_i t x f ho; have := (sFieldAddr_sound htab hm (hev x) h).toN; simpa [execOp, ho] using this
  · rename_i t x f ho
    split at h
    · rename_i l e
      have hx := hev x
      rw [e] at hx
      have := (sField_sound htab hm hx h).toN; simpa [execOp, ho] using this
    · exact sPure_sound hm hev h
  · rename_i t x ix ho; have := (sIndexAddr_sound htab hm (hev x) (hev ix) h).toN; simpa [execOp, ho] using this
  · rename_i t m k ok ho; have := (sLookup_sound htab hm (hev m) (hev k) h).toN; simpa [execOp, ho] using this
  · rename_i t m k x ho; have := (sMapUpdate_sound htab hm (hev m) (hev k) (hev x) h).toN; simpa [execOp, ho] using this
  · rename_i t m k x ho; have := (sMapUpdate_sound htab hm (hev m) (hev k) (hev x) h).toN; simpa [execOp, ho] using this
  · rename_i t m k ho; have := (sMapEntry_sound htab hm (hev m) (hev k) h).toN; simpa [execOp, ho] using this
  · rename_i t m s x ho; have := (sEntryStore_sound (P := P) (t := t) hm (hev m) (hev s) (hev x) h).toN; simpa [execOp, ho] using this
  · rename_i t x ho; have := (sRange_sound htab hm (hev x) h).toN; simpa [execOp, ho] using this
  · rename_i x isS ho
    split at h
    · rename_i e; subst e
      have := (sNext_sound (P := P) (t := o.type) hm (hev x) h).toN; simpa [execOp, ho] using this
    · exact h.elim
  · rename_i x i ho
    split at h
    · rename_i l e
      have hx := hev x
      rw [e] at hx
      cases hv : va x with
      | tuple cs =>
        rw [hv] at hx
        cases hx with
        | tup _ _ hl hr =>
          split at h
          · rename_i y hy
            have hlt : i < cs.size := by have := (List.getElem?_eq_some_iff.1 hy).1; omega
            exact DoesN.same hm (v := cs[i]) (by simp [execOp, ho, hv, Instr.extract, hlt]) (hr i _ y (by simp [hlt]) hy) h
          · exact h.elim
      | _ => rw [hv] at hx; cases hx
    · exact sPure_sound hm hev h
  · rename_i args argTypes ho
    split at h
    · rename_i a x t t' ea et
      have ea' : args = #[a, x] := by rw [← Array.toArray_toList (xs := args), ea]
      have et' : argTypes = #[t, t'] := by rw [← Array.toArray_toList (xs := argTypes), et]
      subst ea'; subst et'
      split at h
      · rename_i k n e1 e2
        have h1 := hev a
        have h2 := hev x
        rw [e1] at h1; rw [e2] at h2
        have e1 := h1.lit_eq
        have e2 := h2.lit_eq
        have := (sZeros_sound (ty := o.type) (k := k) htab hm h).toN
        simpa [execOp, ho, resolve, invoke, builtin, e1, e2] using this
      · have := (sAppendS_sound (ty := o.type) htab hm (hev a) (hev x) h).toN
        simpa [execOp, ho, resolve, invoke, builtin] using this
    · exact h.elim
  · rename_i args argTypes ho
    split at h
    · rename_i x t ea et
      have ea' : args = #[x] := by rw [← Array.toArray_toList (xs := args), ea]
      have et' : argTypes = #[t] := by rw [← Array.toArray_toList (xs := argTypes), et]
      subst ea'; subst et'
      have := (sLen_sound (ty := o.type) htab hm (hev x) h).toN
      simpa [execOp, ho, resolve, invoke, builtin] using this
    · exact h.elim
  · exact sPure_sound hm hev h
  · exact sPure_sound hm hev h
  · exact sPure_sound hm hev h
  · rename_i t x ix ho
    generalize ex : ev x = sx at h
    generalize ei : ev ix = si at h
    unfold sIndex at h
    split at h
    · have hx := hev x
      have hi := hev ix
      rw [ex] at hx; rw [ei] at hi
      have ex' := hx.lit_eq; have ei' := hi.lit_eq
      rename_i k _
      obtain ⟨v, hk, hr⟩ := sIndex_run (P := P) (ev := ev) (o := o) (k := k) (H := H) (K := K) htab (by simpa only [sIndex] using h)
      exact DoesN.same hm (by simp [execOp, ho, ex', ei', hr]) (.pv (.lit v)) hk
    · exact sPure_sound hm hev h
  · exact sPure_sound hm hev h
  · exact h.elim
end Go.Sx
