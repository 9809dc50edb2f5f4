/- awake: the program run at its fixed examples returns true -/
import Derived.Test.YtdghdcclhnoigaaGreatDoorXTryzA1
set_option maxRecDepth 1000000
set_option linter.unusedVariables false
namespace Go.Proofs.Tryz
open Go Go.Sx
noncomputable def k20:PC := (pc20 400).one a20 y20
theorem k20_ok:PCOk cx.bare 20 k20 := (pc20_ok 400).bare.one a20 y20 r20
noncomputable def k34:PC := (pc34 400).one a34 y34
theorem k34_ok:PCOk cx.bare 34 k34 := (pc34_ok 400).bare.one a34 y34 r34
noncomputable def k33:PC := (pc33 400).one a33 y33
theorem k33_ok:PCOk cx.bare 33 k33 := (pc33_ok 400).bare.one a33 y33 r33
noncomputable def k44:PC := (pc44 400).one a44 y44
theorem k44_ok:PCOk cx.bare 44 k44 := (pc44_ok 400).bare.one a44 y44 r44
noncomputable def k61:PC := (pc61 400).one a61 y61
theorem k61_ok:PCOk cx.bare 61 k61 := (pc61_ok 400).bare.one a61 y61 r61
noncomputable def k48:PC := (pc48 400).one a48 y48
theorem k48_ok:PCOk cx.bare 48 k48 := (pc48_ok 400).bare.one a48 y48 r48
noncomputable def k54:PC := (pc54 400).one a54 y54
theorem k54_ok:PCOk cx.bare 54 k54 := (pc54_ok 400).bare.one a54 y54 r54
noncomputable def k55:PC := (pc55 400).one a55 y55
theorem k55_ok:PCOk cx.bare 55 k55 := (pc55_ok 400).bare.one a55 y55 r55
noncomputable def k29:PC := { ats := at29,rts := LL,code := one (ats := at29) (rts := LL) a29 y29 }
theorem k29_ok:PCOk cx.bare 29 k29 := PCOk.of_eval (Cx.bare_ok cx_ok) lxA_ok (n := 3000) (an := .leaf) (fn := f29) (c := bodyOf f29) (by kernel_rfl) (by kernel_rfl) (fun a y h=>by
 obtain ⟨h1,h2⟩ := one_some h
 subst h1; subst h2
 exact q29) (by kernel_rfl)
noncomputable def k21:PC := { ats := at21,rts := LL,code := one (ats := at21) (rts := LL) a21 y21 }
theorem k21_ok:PCOk cx.bare 21 k21 := PCOk.of_eval (Cx.bare_ok cx_ok) lxA_ok (n := 3000) (an := .leaf) (fn := f21) (c := bodyOf f21) (by kernel_rfl) (by kernel_rfl) (fun a y h=>by
 obtain ⟨h1,h2⟩ := one_some h
 subst h1; subst h2
 exact q21) (by kernel_rfl)
noncomputable def k41:PC := { ats := at21,rts := LL,code := one (ats := at21) (rts := LL) a41 y41 }
theorem k41_ok:PCOk cx.bare 41 k41 := PCOk.of_eval (Cx.bare_ok cx_ok) lxA_ok (n := 3000) (an := .leaf) (fn := f41) (c := bodyOf f41) (by kernel_rfl) (by kernel_rfl) (fun a y h=>by
 obtain ⟨h1,h2⟩ := one_some h
 subst h1; subst h2
 exact q41) (by kernel_rfl)
noncomputable def k32:PC := ((pc32 400).at a32 y32).at b32 z32
theorem k32_ok:PCOk cx.bare 32 k32 := @PCOk.at cx.bare 32 ((pc32 400).at a32 y32) (@PCOk.at cx.bare 32 (pc32 400) (pc32_ok 400).bare a32 y32 r32) b32 z32 s32
noncomputable def lxB:Lx := { ext := [(20,k20.sm),(34,k34.sm),(33,k33.sm),(44,k44.sm),(61,k61.sm),(48,k48.sm),(54,k54.sm),(55,k55.sm),(29,k29.sm),(21,k21.sm),(41,k41.sm),(32,k32.sm),(67,(pc67 400).sm),(68,(pc68 400).sm),(69,(pc69 400).sm),(70,(pc70 400).sm),(71,(pc71 400).sm)],anns := [],still := [] }
theorem lxB_ok:lxB.Ok cx.bare := Lx.ok_cons (PC.sm_ok k20_ok) (Lx.ok_cons (PC.sm_ok k34_ok) (Lx.ok_cons (PC.sm_ok k33_ok) (Lx.ok_cons (PC.sm_ok k44_ok) (Lx.ok_cons (PC.sm_ok k61_ok) (Lx.ok_cons (PC.sm_ok k48_ok) (Lx.ok_cons (PC.sm_ok k54_ok) (Lx.ok_cons (PC.sm_ok k55_ok) (Lx.ok_cons (PC.sm_ok k29_ok) (Lx.ok_cons (PC.sm_ok k21_ok) (Lx.ok_cons (PC.sm_ok k41_ok) (Lx.ok_cons (PC.sm_ok k32_ok) (Lx.ok_cons (PC.sm_ok (pc67_ok 400).bare) (Lx.ok_cons (PC.sm_ok (pc68_ok 400).bare) (Lx.ok_cons (PC.sm_ok (pc69_ok 400).bare) (Lx.ok_cons (PC.sm_ok (pc70_ok 400).bare) (Lx.ok_cons (PC.sm_ok (pc71_ok 400).bare) (Lx.ok_nil)))))))))))))))))
noncomputable def c16 (F:Nat) (a:Unit):Option Bool := some true
noncomputable def pc16 (F:Nat):PC := { ats := [],rts := [.val .bool],code := c16 F }
theorem aw_eq:codeOf cx.bare lxB 3000 .leaf f16 (bodyOf f16) [] [.val .bool] () = some true := by kernel_rfl
theorem pc16_ok (F:Nat):PCOk cx 16 (pc16 F) := PCOk.full (PCOk.of_eval (Cx.bare_ok cx_ok) lxB_ok (n := 3000) (an := .leaf) (fn := f16) (c := bodyOf f16) (by kernel_rfl) (by kernel_rfl) (fun a y h=>aw_eq.trans h) (by kernel_rfl))
end Go.Proofs.Tryz
