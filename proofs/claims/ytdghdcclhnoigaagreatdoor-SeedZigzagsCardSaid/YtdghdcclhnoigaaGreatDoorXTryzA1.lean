/- awake, its parts: what the program's functions answer at the fixed examples -/
import Derived.Test.YtdghdcclhnoigaaGreatDoorXTryzG
import Derived.Test.YtdghdcclhnoigaaGreatDoorXSxQh
set_option maxRecDepth 1000000
set_option linter.unusedVariables false
namespace Go.Proofs.Tryz
open Go Go.Sx
noncomputable def lxA:Lx := { ext := [(19,(pc19 400).sm),(75,(pc75 400).sm),(79,(pc79 400).sm),(80,(pc80 400).sm),(83,(pc83 400).sm),(113,(pc113 400).sm),(127,(pc127 400).sm)],anns := [],still := [] }
theorem lxA_ok:lxA.Ok cx.bare := Lx.ok_cons (PC.sm_ok (pc19_ok 400).bare) (Lx.ok_cons (PC.sm_ok (pc75_ok 400).bare) (Lx.ok_cons (PC.sm_ok (pc79_ok 400).bare) (Lx.ok_cons (PC.sm_ok (pc80_ok 400).bare) (Lx.ok_cons (PC.sm_ok (pc83_ok 400).bare) (Lx.ok_cons (PC.sm_ok (pc113_ok 400).bare) (Lx.ok_cons (PC.sm_ok (pc127_ok 400).bare) (Lx.ok_nil)))))))
def smpO:Option (List (TEnt)) := some (({ data := List.toArray ((97:UInt8) :: (110:UInt8) :: (110:UInt8) :: nilT UInt8) },{ data := List.toArray ((114:UInt8) :: (101:UInt8) :: (100:UInt8) :: nilT UInt8) },{ data := List.toArray ((116:UInt8) :: (105:UInt8) :: (109:UInt8) :: (101:UInt8) :: nilT UInt8) },w64 ((100:Int) * (1050:Int)),{ data := List.toArray (nilT UInt8) }) :: ({ data := List.toArray ((98:UInt8) :: (101:UInt8) :: (97:UInt8) :: nilT UInt8) },{ data := List.toArray ((114:UInt8) :: (101:UInt8) :: (100:UInt8) :: nilT UInt8) },{ data := List.toArray ((116:UInt8) :: (105:UInt8) :: (109:UInt8) :: (101:UInt8) :: nilT UInt8) },w64 ((100:Int) * (1020:Int)),{ data := List.toArray (nilT UInt8) }) :: ({ data := List.toArray ((99:UInt8) :: (105:UInt8) :: (97:UInt8) :: nilT UInt8) },{ data := List.toArray ((98:UInt8) :: (108:UInt8) :: (117:UInt8) :: (101:UInt8) :: nilT UInt8) },{ data := List.toArray ((116:UInt8) :: (105:UInt8) :: (109:UInt8) :: (101:UInt8) :: nilT UInt8) },w64 ((100:Int) * (1040:Int)),{ data := List.toArray (nilT UInt8) }) :: ({ data := List.toArray ((100:UInt8) :: (111:UInt8) :: (116:UInt8) :: nilT UInt8) },{ data := List.toArray ((98:UInt8) :: (108:UInt8) :: (117:UInt8) :: (101:UInt8) :: nilT UInt8) },{ data := List.toArray ((110:UInt8) :: (111:UInt8) :: (110:UInt8) :: (101:UInt8) :: nilT UInt8) },(0:Int),{ data := List.toArray ((78:UInt8) :: (77:UInt8) :: nilT UInt8) }) :: ({ data := List.toArray ((101:UInt8) :: (118:UInt8) :: (97:UInt8) :: nilT UInt8) },{ data := List.toArray ((114:UInt8) :: (101:UInt8) :: (100:UInt8) :: nilT UInt8) },{ data := List.toArray ((116:UInt8) :: (105:UInt8) :: (109:UInt8) :: (101:UInt8) :: nilT UInt8) },w64 ((100:Int) * (1030:Int)),{ data := List.toArray (nilT UInt8) }) :: nilT (TEnt))
def smp:List (TEnt) := smpO.getD []
def htsO:Option (List (List (TRun))) := some ((({ data := List.toArray ((97:UInt8) :: nilT UInt8) },{ data := List.toArray ((116:UInt8) :: (105:UInt8) :: (109:UInt8) :: (101:UInt8) :: nilT UInt8) },w64 ((100:Int) * (1010:Int)),{ data := List.toArray (nilT UInt8) }) :: ({ data := List.toArray ((98:UInt8) :: nilT UInt8) },{ data := List.toArray ((116:UInt8) :: (105:UInt8) :: (109:UInt8) :: (101:UInt8) :: nilT UInt8) },w64 ((100:Int) * (1020:Int)),{ data := List.toArray (nilT UInt8) }) :: ({ data := List.toArray ((99:UInt8) :: nilT UInt8) },{ data := List.toArray ((116:UInt8) :: (105:UInt8) :: (109:UInt8) :: (101:UInt8) :: nilT UInt8) },w64 ((100:Int) * (1020:Int)),{ data := List.toArray (nilT UInt8) }) :: nilT (TRun)) :: (({ data := List.toArray ((100:UInt8) :: nilT UInt8) },{ data := List.toArray ((116:UInt8) :: (105:UInt8) :: (109:UInt8) :: (101:UInt8) :: nilT UInt8) },w64 ((100:Int) * (1015:Int)),{ data := List.toArray (nilT UInt8) }) :: ({ data := List.toArray ((101:UInt8) :: nilT UInt8) },{ data := List.toArray ((116:UInt8) :: (105:UInt8) :: (109:UInt8) :: (101:UInt8) :: nilT UInt8) },w64 ((100:Int) * (1020:Int)),{ data := List.toArray (nilT UInt8) }) :: ({ data := List.toArray ((102:UInt8) :: nilT UInt8) },{ data := List.toArray ((110:UInt8) :: (111:UInt8) :: (110:UInt8) :: (101:UInt8) :: nilT UInt8) },(0:Int),{ data := List.toArray ((68:UInt8) :: (78:UInt8) :: (70:UInt8) :: nilT UInt8) }) :: nilT (TRun)) :: nilT (List (TRun)))
def hts:List (List (TRun)) := htsO.getD []
def bs (l:List UInt8):ByteArray := ⟨⟨l⟩⟩
abbrev EntT:Ty := .seq [.str,.str,.str,.int .i64,.str]
abbrev at29:List ATy := [.val (.int .i64),.val (.int .i64)]
abbrev LL:List ATy := [.val (.seq [.seq [.int .i64]]),.val (.int .i64)]
abbrev at21:List ATy := [.val EntT,.val (.int .i64),.val (.int .i64)]
def a20:List (TEnt) × Int := (smp,5)
def y20:List Int × Int := ([1,4,2,0,3],0)
theorem r20:(pc20 400).code a20 = some y20 := by kernel_rfl
def a34:List (TEnt) × Int := (smp,2)
def y34:Int × Int := (1,0)
theorem r34:(pc34 400).code a34 = some y34 := by kernel_rfl
def a33:List (TEnt) × Int × List (List Int) := (smp,7,[[1,4,3],[2,0]])
def y33:Int := 29
theorem r33:(pc33 400).code a33 = some y33 := by kernel_rfl
def a44:List (List Int) × Int × Int := ([[3,4],[2,5]],4,1)
def y44:List Int × Int := ([3,4,5,2],0)
theorem r44:(pc44 400).code a44 = some y44 := by kernel_rfl
def a61:List (List (TRun)) × Int × Int := (hts,1,1)
def y61:List ByteArray × List ByteArray × Int := ([bs [97],bs [100]],[bs [98],bs [99],bs [101]],0)
theorem r61:(pc61 400).code a61 = some y61 := by kernel_rfl
def a48:List (List (TRun)) × Int × Int × ByteArray × ByteArray × Int × ByteArray := (hts,1,1,bs [98],bs [116,105,109,101],102500,bs [])
def y48:List ByteArray × Int := ([bs [98]],0)
theorem r48:(pc48 400).code a48 = some y48 := by kernel_rfl
def a54:Int × Int := (20,8)
def y54:List TE × Int := ([(3,5,1),(2,4,0),(1,0,0)],0)
theorem r54:(pc54 400).code a54 = some y54 := by kernel_rfl
def a55:Int × Int × List TE := (20,8,[(3,5,1),(2,4,0),(1,0,0)])
def y55:List Int × Int := ([20,16,8],0)
theorem r55:(pc55 400).code a55 = some y55 := by kernel_rfl
def a29:Int × Int := (5,2)
def y29:List (List Int) × Int := ([[0,3,4],[1,2]],0)
theorem q29:codeOf cx.bare lxA 3000 .leaf f29 (bodyOf f29) at29 LL a29 = some y29 := by kernel_rfl
def a21:List (TEnt) × Int × Int := (smp,2,7)
def y21:List (List Int) × Int := ([[1,0,3],[4,2]],0)
theorem q21:codeOf cx.bare lxA 3000 .leaf f21 (bodyOf f21) at21 LL a21 = some y21 := by kernel_rfl
def a41:List (TEnt) × Int × Int := (smp,2,7)
def y41:List (List Int) × Int := ([[1,0,3],[4,2]],0)
theorem q41:codeOf cx.bare lxA 3000 .leaf f41 (bodyOf f41) at21 LL a41 = some y41 := by kernel_rfl
def a32:List (TEnt) × List (List Int) := (smp,[[1,2,3],[4,0]])
def b32:List (TEnt) × List (List Int) := (smp,[[1,0,3],[4,2]])
def y32:Int × Int := (2,0)
def z32:Int × Int := (1,0)
theorem r32:(pc32 400).code a32 = some y32 := by kernel_rfl
theorem s32:((pc32 400).at a32 y32).code b32 = some z32 := by kernel_rfl
end Go.Proofs.Tryz
