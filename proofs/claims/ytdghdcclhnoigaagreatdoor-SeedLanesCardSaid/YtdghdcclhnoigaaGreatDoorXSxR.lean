/- Part R of the own logic: tables without rows; closed runs. -/
import Derived.Test.YtdghdcclhnoigaaGreatDoorXSxQh
set_option linter.unusedVariables false
set_option linter.unusedSimpArgs false
namespace Go.Sx
open Go
def TI.bare (i : TI) : TI := { i with row := none }
def Cx.bare (cx : Cx) : Cx := { P := cx.P, tab := cx.tab.map fun x => (x.1, x.2.bare), fns := cx.fns }
theorem Cx.bare_ok {cx : Cx} (h : cx.Ok) : cx.bare.Ok := by
  refine ⟨⟨?_, ?_, ?_, ?_, ?_⟩, h.fns, h.mix⟩
  · simpa [Cx.bare, List.map_map, Function.comp_def, TI.bare] using h.tab.und
  · simpa [Cx.bare, List.map_map, Function.comp_def, TI.bare] using h.tab.siz
  · simpa [Cx.bare, List.map_map, Function.comp_def, TI.bare] using h.tab.byt
  · simpa [Cx.bare, List.map_map, Function.comp_def, TI.bare] using h.tab.zer
  · simpa [Cx.bare, List.all_map, Function.comp_def, TI.bare] using h.tab.one
theorem PCOk.bare {cx : Cx} {g : Nat} {pc : PC} (h : PCOk cx g pc) : PCOk cx.bare g pc := ⟨h.fn, h.ok⟩
theorem PCOk.full {cx : Cx} {g : Nat} {pc : PC} (h : PCOk cx.bare g pc) : PCOk cx g pc := ⟨h.fn, h.ok⟩
theorem PXOk.bare {cx : Cx} {g : Nat} {px : PX} (h : PXOk cx g px) : PXOk cx.bare g px := ⟨h.fn, h.ok⟩
def PC.at (pc : PC) (a0 : AEls pc.ats) (y0 : AEls pc.rts) : PC := { ats := pc.ats, rts := pc.rts, code := fun a => bif AEls.eqv pc.ats a a0 then some y0 else pc.code a }
theorem PCOk.at {cx : Cx} {g : Nat} {pc : PC} (h : PCOk cx g pc) {a0 : AEls pc.ats} {y0 : AEls pc.rts} (he : pc.code a0 = some y0) : PCOk cx g (pc.at a0 y0) :=
  ⟨h.fn, fun a y hy => by
    have hy : (bif AEls.eqv pc.ats a a0 then some y0 else pc.code a) = some y := hy
    cases e : AEls.eqv pc.ats a a0 with
    | true =>
      rw [e] at hy
      exact h.ok a y (by rw [AEls.eqv_ok _ _ _ e, he]; exact hy)
    | false =>
      rw [e] at hy
      exact h.ok a y hy⟩
def one {ats rts : List ATy} (a0 : AEls ats) (y0 : AEls rts) (a : AEls ats) : Option (AEls rts) := bif AEls.eqv ats a a0 then some y0 else none
theorem one_some {ats rts : List ATy} {a0 a : AEls ats} {y0 y : AEls rts} (h : one a0 y0 a = some y) : a = a0 ∧ y = y0 := by
  unfold one at h
  cases e : AEls.eqv ats a a0 with
  | true => rw [e] at h; cases h; exact ⟨AEls.eqv_ok _ _ _ e, rfl⟩
  | false => rw [e] at h; cases h
def PC.one (pc : PC) (a0 : AEls pc.ats) (y0 : AEls pc.rts) : PC := { ats := pc.ats, rts := pc.rts, code := fun a => Go.Sx.one a0 y0 a }
theorem PCOk.one {cx : Cx} {g : Nat} {pc : PC} (h : PCOk cx g pc) (a0 : AEls pc.ats) (y0 : AEls pc.rts) (he : pc.code a0 = some y0) : PCOk cx g (pc.one a0 y0) :=
  ⟨h.fn, fun a y hy => by
    obtain ⟨h1, h2⟩ := one_some (show Go.Sx.one a0 y0 a = some y from hy)
    rw [h1, h2]
    exact h.ok _ _ he⟩
end Go.Sx
