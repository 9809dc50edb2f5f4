/- awake: the program run at its fixed examples returns true -/
import Derived.Test.YtdghdcclhnoigaaGreatDoorXTryzA1
set_option maxRecDepth 1000000
set_option linter.unusedVariables false
namespace Go.Proofs.Tryz
open Go Go.Sx
noncomputable def k20 : PC := (pc20 400).one a20 y20
theorem k20_ok : PCOk cx.bare 20 k20 := (pc20_ok 400).bare.one a20 y20 r20
noncomputable def k34 : PC := (pc34 400).one a34 y34
theorem k34_ok : PCOk cx.bare 34 k34 := (pc34_ok 400).bare.one a34 y34 r34
noncomputable def k33 : PC := (pc33 400).one a33 y33
theorem k33_ok : PCOk cx.bare 33 k33 := (pc33_ok 400).bare.one a33 y33 r33
noncomputable def k44 : PC := (pc44 400).one a44 y44
theorem k44_ok : PCOk cx.bare 44 k44 := (pc44_ok 400).bare.one a44 y44 r44
noncomputable def k61 : PC := (pc61 400).one a61 y61
theorem k61_ok : PCOk cx.bare 61 k61 := (pc61_ok 400).bare.one a61 y61 r61
noncomputable def k48 : PC := (pc48 400).one a48 y48
theorem k48_ok : PCOk cx.bare 48 k48 := (pc48_ok 400).bare.one a48 y48 r48
noncomputable def k54 : PC := (pc54 400).one a54 y54
theorem k54_ok : PCOk cx.bare 54 k54 := (pc54_ok 400).bare.one a54 y54 r54
noncomputable def k55 : PC := (pc55 400).one a55 y55
theorem k55_ok : PCOk cx.bare 55 k55 := (pc55_ok 400).bare.one a55 y55 r55
noncomputable def k29 : PC := { ats := at29, rts := LL, code := one (ats := at29) (rts := LL) a29 y29 }
theorem k29_ok : PCOk cx.bare 29 k29 := PCOk.of_eval (Cx.bare_ok cx_ok) lxA_ok (n := 3000) (an := .leaf) (fn := f29) (c := bodyOf f29) (by kernel_rfl) (by kernel_rfl) (fun a y h => by
  obtain ⟨h1, h2⟩ := one_some h
  subst h1; subst h2
  exact q29) (by kernel_rfl)
noncomputable def k21 : PC := { ats := at21, rts := LL, code := one (ats := at21) (rts := LL) a21 y21 }
theorem k21_ok : PCOk cx.bare 21 k21 := PCOk.of_eval (Cx.bare_ok cx_ok) lxA_ok (n := 3000) (an := .leaf) (fn := f21) (c := bodyOf f21) (by kernel_rfl) (by kernel_rfl) (fun a y h => by
  obtain ⟨h1, h2⟩ := one_some h
  subst h1; subst h2
  exact q21) (by kernel_rfl)
noncomputable def k41 : PC := { ats := at21, rts := LL, code := one (ats := at21) (rts := LL) a41 y41 }
theorem k41_ok : PCOk cx.bare 41 k41 := PCOk.of_eval (Cx.bare_ok cx_ok) lxA_ok (n := 3000) (an := .leaf) (fn := f41) (c := bodyOf f41) (by kernel_rfl) (by kernel_rfl) (fun a y h => by
  obtain ⟨h1, h2⟩ := one_some h
  subst h1; subst h2
  exact q41) (by kernel_rfl)
noncomputable def k32 : PC := ((pc32 400).at a32 y32).at b32 z32
theorem k32_ok : PCOk cx.bare 32 k32 := @PCOk.at cx.bare 32 ((pc32 400).at a32 y32) (@PCOk.at cx.bare 32 (pc32 400) (pc32_ok 400).bare a32 y32 r32) b32 z32 s32
noncomputable def lxB : Lx := { ext := [(20, k20.sm), (34, k34.sm), (33, k33.sm), (44, k44.sm), (61, k61.sm), (48, k48.sm), (54, k54.sm), (55, k55.sm), (29, k29.sm), (21, k21.sm), (41, k41.sm), (32, k32.sm), (75, (pc75 400).sm), (101, (pc101 400).sm), (102, (pc102 400).sm), (128, (pc128 400).sm), (118, (pc118 400).sm), (103, (pc103 400).sm), (105, (pc105 400).sm), (78, (pc78 400).sm), (76, (pc76 400).sm), (77, (pc77 400).sm), (19, (pc19 400).sm), (124, (pc124 400).sm), (133, (pc133 400).sm), (125, (pc125 400).sm), (108, (pc108 400).sm), (86, (pc86 400).sm), (79, (pc79 400).sm), (83, (pc83 400).sm), (80, (pc80 400).sm), (43, (pc43 400).sm), (116, (pc116 400).sm), (88, (pc88 400).sm), (63, (pc63 400).sm), (126, (pc126 400).sm), (110, (pc110 400).sm), (84, (pc84 400).sm), (46, (pc46 400).sm), (82, (pc82 400).sm), (42, (pc42 400).sm), (40, (pc40 400).sm), (59, (pc59 400).sm), (60, (pc60 400).sm), (23, (pc23 400).sm), (39, (pc39 400).sm), (38, (pc38 400).sm), (37, (pc37 400).sm), (36, (pc36 400).sm), (35, (pc35 400).sm), (31, (pc31 400).sm), (71, (pc71 400).sm), (28, (pc28 400).sm), (30, (pc30 400).sm), (27, (pc27 400).sm), (26, (pc26 400).sm), (25, (pc25 400).sm), (24, (pc24 400).sm), (22, (pc22 400).sm), (98, (pc98 400).sm), (100, (pc100 400).sm), (99, (pc99 400).sm), (73, (pc73 400).sm), (72, (pc72 400).sm), (18, (pc18 400).sm), (17, (pc17 400).sm), (15, (pc15 400).sm), (45, (pc45 400).sm), (47, (pc47 400).sm), (87, (pc87 400).sm), (97, (pc97 400).sm), (93, (pc93 400).sm), (89, (pc89 400).sm), (50, (pc50 400).sm), (49, (pc49 400).sm), (67, (pc67 400).sm), (51, (pc51 400).sm), (52, (pc52 400).sm), (65, (pc65 400).sm), (66, (pc66 400).sm), (62, (pc62 400).sm), (53, (pc53 400).sm), (95, (pc95 400).sm), (96, (pc96 400).sm), (56, (pc56 400).sm), (57, (pc57 400).sm), (58, (pc58 400).sm), (64, (pc64 400).sm), (70, (pc70 400).sm), (68, (pc68 400).sm), (69, (pc69 400).sm), (127, (pc127 400).sm), (113, (pc113 400).sm), (117, (pc117 400).sm), (94, (pc94 400).sm)], anns := [], still := [] }
theorem lxB_ok : lxB.Ok cx.bare := Lx.ok_cons (PC.sm_ok k20_ok) (Lx.ok_cons (PC.sm_ok k34_ok) (Lx.ok_cons (PC.sm_ok k33_ok) (Lx.ok_cons (PC.sm_ok k44_ok) (Lx.ok_cons (PC.sm_ok k61_ok) (Lx.ok_cons (PC.sm_ok k48_ok) (Lx.ok_cons (PC.sm_ok k54_ok) (Lx.ok_cons (PC.sm_ok k55_ok) (Lx.ok_cons (PC.sm_ok k29_ok) (Lx.ok_cons (PC.sm_ok k21_ok) (Lx.ok_cons (PC.sm_ok k41_ok) (Lx.ok_cons (PC.sm_ok k32_ok) (Lx.ok_cons (PC.sm_ok (pc75_ok 400).bare) (Lx.ok_cons (PC.sm_ok (pc101_ok 400).bare) (Lx.ok_cons (PC.sm_ok (pc102_ok 400).bare) (Lx.ok_cons (PC.sm_ok (pc128_ok 400).bare) (Lx.ok_cons (PC.sm_ok (pc118_ok 400).bare) (Lx.ok_cons (PC.sm_ok (pc103_ok 400).bare) (Lx.ok_cons (PC.sm_ok (pc105_ok 400).bare) (Lx.ok_cons (PC.sm_ok (pc78_ok 400).bare) (Lx.ok_cons (PC.sm_ok (pc76_ok 400).bare) (Lx.ok_cons (PC.sm_ok (pc77_ok 400).bare) (Lx.ok_cons (PC.sm_ok (pc19_ok 400).bare) (Lx.ok_cons (PC.sm_ok (pc124_ok 400).bare) (Lx.ok_cons (PC.sm_ok (pc133_ok 400).bare) (Lx.ok_cons (PC.sm_ok (pc125_ok 400).bare) (Lx.ok_cons (PC.sm_ok (pc108_ok 400).bare) (Lx.ok_cons (PC.sm_ok (pc86_ok 400).bare) (Lx.ok_cons (PC.sm_ok (pc79_ok 400).bare) (Lx.ok_cons (PC.sm_ok (pc83_ok 400).bare) (Lx.ok_cons (PC.sm_ok (pc80_ok 400).bare) (Lx.ok_cons (PC.sm_ok (pc43_ok 400).bare) (Lx.ok_cons (PC.sm_ok (pc116_ok 400).bare) (Lx.ok_cons (PC.sm_ok (pc88_ok 400).bare) (Lx.ok_cons (PC.sm_ok (pc63_ok 400).bare) (Lx.ok_cons (PC.sm_ok (pc126_ok 400).bare) (Lx.ok_cons (PC.sm_ok (pc110_ok 400).bare) (Lx.ok_cons (PC.sm_ok (pc84_ok 400).bare) (Lx.ok_cons (PC.sm_ok (pc46_ok 400).bare) (Lx.ok_cons (PC.sm_ok (pc82_ok 400).bare) (Lx.ok_cons (PC.sm_ok (pc42_ok 400).bare) (Lx.ok_cons (PC.sm_ok (pc40_ok 400).bare) (Lx.ok_cons (PC.sm_ok (pc59_ok 400).bare) (Lx.ok_cons (PC.sm_ok (pc60_ok 400).bare) (Lx.ok_cons (PC.sm_ok (pc23_ok 400).bare) (Lx.ok_cons (PC.sm_ok (pc39_ok 400).bare) (Lx.ok_cons (PC.sm_ok (pc38_ok 400).bare) (Lx.ok_cons (PC.sm_ok (pc37_ok 400).bare) (Lx.ok_cons (PC.sm_ok (pc36_ok 400).bare) (Lx.ok_cons (PC.sm_ok (pc35_ok 400).bare) (Lx.ok_cons (PC.sm_ok (pc31_ok 400).bare) (Lx.ok_cons (PC.sm_ok (pc71_ok 400).bare) (Lx.ok_cons (PC.sm_ok (pc28_ok 400).bare) (Lx.ok_cons (PC.sm_ok (pc30_ok 400).bare) (Lx.ok_cons (PC.sm_ok (pc27_ok 400).bare) (Lx.ok_cons (PC.sm_ok (pc26_ok 400).bare) (Lx.ok_cons (PC.sm_ok (pc25_ok 400).bare) (Lx.ok_cons (PC.sm_ok (pc24_ok 400).bare) (Lx.ok_cons (PC.sm_ok (pc22_ok 400).bare) (Lx.ok_cons (PC.sm_ok (pc98_ok 400).bare) (Lx.ok_cons (PC.sm_ok (pc100_ok 400).bare) (Lx.ok_cons (PC.sm_ok (pc99_ok 400).bare) (Lx.ok_cons (PC.sm_ok (pc73_ok 400).bare) (Lx.ok_cons (PC.sm_ok (pc72_ok 400).bare) (Lx.ok_cons (PC.sm_ok (pc18_ok 400).bare) (Lx.ok_cons (PC.sm_ok (pc17_ok 400).bare) (Lx.ok_cons (PC.sm_ok (pc15_ok 400).bare) (Lx.ok_cons (PC.sm_ok (pc45_ok 400).bare) (Lx.ok_cons (PC.sm_ok (pc47_ok 400).bare) (Lx.ok_cons (PC.sm_ok (pc87_ok 400).bare) (Lx.ok_cons (PC.sm_ok (pc97_ok 400).bare) (Lx.ok_cons (PC.sm_ok (pc93_ok 400).bare) (Lx.ok_cons (PC.sm_ok (pc89_ok 400).bare) (Lx.ok_cons (PC.sm_ok (pc50_ok 400).bare) (Lx.ok_cons (PC.sm_ok (pc49_ok 400).bare) (Lx.ok_cons (PC.sm_ok (pc67_ok 400).bare) (Lx.ok_cons (PC.sm_ok (pc51_ok 400).bare) (Lx.ok_cons (PC.sm_ok (pc52_ok 400).bare) (Lx.ok_cons (PC.sm_ok (pc65_ok 400).bare) (Lx.ok_cons (PC.sm_ok (pc66_ok 400).bare) (Lx.ok_cons (PC.sm_ok (pc62_ok 400).bare) (Lx.ok_cons (PC.sm_ok (pc53_ok 400).bare) (Lx.ok_cons (PC.sm_ok (pc95_ok 400).bare) (Lx.ok_cons (PC.sm_ok (pc96_ok 400).bare) (Lx.ok_cons (PC.sm_ok (pc56_ok 400).bare) (Lx.ok_cons (PC.sm_ok (pc57_ok 400).bare) (Lx.ok_cons (PC.sm_ok (pc58_ok 400).bare) (Lx.ok_cons (PC.sm_ok (pc64_ok 400).bare) (Lx.ok_cons (PC.sm_ok (pc70_ok 400).bare) (Lx.ok_cons (PC.sm_ok (pc68_ok 400).bare) (Lx.ok_cons (PC.sm_ok (pc69_ok 400).bare) (Lx.ok_cons (PC.sm_ok (pc127_ok 400).bare) (Lx.ok_cons (PC.sm_ok (pc113_ok 400).bare) (Lx.ok_cons (PC.sm_ok (pc117_ok 400).bare) (Lx.ok_cons (PC.sm_ok (pc94_ok 400).bare) (Lx.ok_nil)))))))))))))))))))))))))))))))))))))))))))))))))))))))))))))))))))))))))))))))))))))))))))))))
noncomputable def c16 (F : Nat) (a : Unit) : Option Bool := some true
noncomputable def pc16 (F : Nat) : PC := { ats := [], rts := [.val .bool], code := c16 F }
theorem aw_eq : codeOf cx.bare lxB 3000 .leaf f16 (bodyOf f16) [] [.val .bool] () = some true := by kernel_rfl
theorem pc16_ok (F : Nat) : PCOk cx 16 (pc16 F) := PCOk.full (PCOk.of_eval (Cx.bare_ok cx_ok) lxB_ok (n := 3000) (an := .leaf) (fn := f16) (c := bodyOf f16) (by kernel_rfl) (by kernel_rfl) (fun a y h => aw_eq.trans h) (by kernel_rfl))
end Go.Proofs.Tryz
