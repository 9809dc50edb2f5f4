/- slices.Sorted(maps.Keys(m)) in this program is the library's. Two texts in one. And further parts. -/
import Derived.Test.YtlfcbhjoldgijaaGreatXTtCx
import Derived.Test.YtlfcbhjoldgijaaGreatXSxSu
import Derived.Test.YtlfcbhjoldgijaaGreatXTtM
import Derived.Test.YtlfcbhjoldgijaaGreatXTtR2
set_option maxRecDepth 100000
set_option linter.all false
set_option linter.unusedVariables false
set_option linter.unusedSimpArgs false
namespace Go.Proofs.Tryz
open Go Go.Sx
def keys95_ren:Go.Shelf.Ren := ⟨fun | 7=>95 | 10=>128 | n=>n,fun | 23=>140 | 26=>9 | 3=>3 | 28=>143 | 0=>0 | 27=>142 | 33=>111 | 4=>4 | n=>n,fun | n=>n⟩
theorem keys95:Go.Proofs.SlLaysZ.n7 cx.P keys95_ren := {
 mixed := by kernel_rfl
 f7 := ⟨Tryz.f95.name,by decide,Tryz.func95.trans (congrArg some (by kernel_rfl))⟩
 f10 := ⟨Tryz.f128.name,by decide,Tryz.func128.trans (congrArg some (by kernel_rfl))⟩
 t0 := Tryz.underlying0
 a0 := Tryz.isAgg0
 z0 := Tryz.sizeOf0
 v0 := Tryz.zeroValue0
 t4 := Tryz.underlying4
 a4 := Tryz.isAgg4
 z4 := Tryz.sizeOf4
 v4 := Tryz.zeroValue4
 t23 := Tryz.underlying140
 a23 := Tryz.isAgg140
 z23 := Tryz.sizeOf140
 v23 := Tryz.zeroValue140
 t26 := Tryz.underlying9
 a26 := Tryz.isAgg9
 z26 := Tryz.sizeOf9
 v26 := Tryz.zeroValue9
 t27 := Tryz.underlying142
 a27 := Tryz.isAgg142
 z27 := Tryz.sizeOf142
 v27 := Tryz.zeroValue142
 t28 := Tryz.underlying143
 a28 := Tryz.isAgg143
 z28 := Tryz.sizeOf143
 v28 := Tryz.zeroValue143
 t33 := Tryz.underlying111
 a33 := Tryz.isAgg111
 z33 := Tryz.sizeOf111
 v33 := Tryz.zeroValue111 }
def sorted94_ren:Go.Shelf.Ren := ⟨fun | 6=>94 | 8=>126 | 9=>127 | 11=>147 | 13=>149 | 12=>148 | 23=>167 | 24=>168 | 14=>158 | 15=>159 | 16=>160 | 17=>161 | 18=>162 | 19=>163 | 20=>164 | 21=>165 | 22=>166 | 25=>170 | 26=>171 | 27=>172 | 28=>173 | 29=>174 | 30=>175 | 31=>177 | n=>n,fun | 26=>9 | 28=>143 | 24=>73 | 0=>0 | 3=>3 | 37=>132 | 48=>172 | 50=>174 | 4=>4 | 40=>203 | 39=>202 | 45=>44 | 5=>5 | 9=>9 | 51=>209 | 55=>213 | 57=>215 | 58=>55 | 33=>111 | n=>n,fun | n=>n⟩
theorem sorted94:Go.Proofs.SlLaysZ.n6 cx.P sorted94_ren := {
 mixed := by kernel_rfl
 f6 := ⟨Tryz.f94.name,by decide,Tryz.func94.trans (congrArg some (by kernel_rfl))⟩
 f8 := ⟨Tryz.f126.name,by decide,Tryz.func126.trans (congrArg some (by kernel_rfl))⟩
 f11 := ⟨Tryz.f147.name,by decide,Tryz.func147.trans (congrArg some (by kernel_rfl))⟩
 t0 := Tryz.underlying0
 a0 := Tryz.isAgg0
 z0 := Tryz.sizeOf0
 v0 := Tryz.zeroValue0
 t24 := Tryz.underlying73
 a24 := Tryz.isAgg73
 z24 := Tryz.sizeOf73
 v24 := Tryz.zeroValue73
 t26 := Tryz.underlying9
 a26 := Tryz.isAgg9
 z26 := Tryz.sizeOf9
 v26 := Tryz.zeroValue9
 t28 := Tryz.underlying143
 a28 := Tryz.isAgg143
 z28 := Tryz.sizeOf143
 v28 := Tryz.zeroValue143
 i26 := by kernel_rfl }
def sort127_ren:Go.Shelf.Ren := ⟨fun | 6=>127 | 8=>149 | 9=>148 | 19=>167 | 20=>168 | 21=>158 | 22=>159 | 23=>160 | 24=>161 | 25=>162 | 26=>163 | 27=>164 | 28=>165 | 29=>166 | 36=>170 | 31=>171 | 32=>172 | 37=>173 | 38=>174 | 39=>175 | 41=>177 | n=>n,fun | 27=>73 | 29=>9 | 3=>3 | 32=>132 | 26=>73 | 0=>0 | 44=>172 | 46=>174 | 4=>4 | 36=>203 | 35=>202 | 41=>44 | 5=>5 | 9=>9 | 53=>209 | 57=>213 | 63=>215 | 64=>55 | n=>n,fun | n=>n⟩
theorem sort127:Go.Proofs.SlLaysM.n6 cx.P sort127_ren := {
 mixed := by kernel_rfl
 f6 := ⟨Tryz.f127.name,by decide,Tryz.func127.trans (congrArg some (by kernel_rfl))⟩
 f8 := Tryz.func149.trans (congrArg some (by kernel_rfl))
 f9 := ⟨Tryz.f148.name,by decide,Tryz.func148.trans (congrArg some (by kernel_rfl))⟩
 f19 := Tryz.func167.trans (congrArg some (by kernel_rfl))
 f20 := Tryz.func168.trans (congrArg some (by kernel_rfl))
 f21 := ⟨Tryz.f158.name,by decide,Tryz.func158.trans (congrArg some (by kernel_rfl))⟩
 f22 := ⟨Tryz.f159.name,by decide,Tryz.func159.trans (congrArg some (by kernel_rfl))⟩
 f23 := ⟨Tryz.f160.name,by decide,Tryz.func160.trans (congrArg some (by kernel_rfl))⟩
 f24 := ⟨Tryz.f161.name,by decide,Tryz.func161.trans (congrArg some (by kernel_rfl))⟩
 f25 := ⟨Tryz.f162.name,by decide,Tryz.func162.trans (congrArg some (by kernel_rfl))⟩
 f26 := ⟨Tryz.f163.name,by decide,Tryz.func163.trans (congrArg some (by kernel_rfl))⟩
 f27 := ⟨Tryz.f164.name,by decide,Tryz.func164.trans (congrArg some (by kernel_rfl))⟩
 f28 := ⟨Tryz.f165.name,by decide,Tryz.func165.trans (congrArg some (by kernel_rfl))⟩
 f29 := ⟨Tryz.f166.name,by decide,Tryz.func166.trans (congrArg some (by kernel_rfl))⟩
 f31 := Tryz.func171.trans (congrArg some (by kernel_rfl))
 f32 := Tryz.func172.trans (congrArg some (by kernel_rfl))
 f36 := ⟨Tryz.f170.name,by decide,Tryz.func170.trans (congrArg some (by kernel_rfl))⟩
 f37 := ⟨Tryz.f173.name,by decide,Tryz.func173.trans (congrArg some (by kernel_rfl))⟩
 f38 := ⟨Tryz.f174.name,by decide,Tryz.func174.trans (congrArg some (by kernel_rfl))⟩
 f39 := ⟨Tryz.f175.name,by decide,Tryz.func175.trans (congrArg some (by kernel_rfl))⟩
 f41 := ⟨Tryz.f177.name,by decide,Tryz.func177.trans (congrArg some (by kernel_rfl))⟩
 t0 := Tryz.underlying0
 a0 := Tryz.isAgg0
 z0 := Tryz.sizeOf0
 v0 := Tryz.zeroValue0
 t3 := Tryz.underlying3
 a3 := Tryz.isAgg3
 z3 := Tryz.sizeOf3
 v3 := Tryz.zeroValue3
 t4 := Tryz.underlying4
 a4 := Tryz.isAgg4
 z4 := Tryz.sizeOf4
 v4 := Tryz.zeroValue4
 t5 := Tryz.underlying5
 a5 := Tryz.isAgg5
 z5 := Tryz.sizeOf5
 v5 := Tryz.zeroValue5
 t9 := Tryz.underlying9
 a9 := Tryz.isAgg9
 z9 := Tryz.sizeOf9
 v9 := Tryz.zeroValue9
 t26 := Tryz.underlying73
 a26 := Tryz.isAgg73
 z26 := Tryz.sizeOf73
 v26 := Tryz.zeroValue73
 t27 := Tryz.underlying73
 a27 := Tryz.isAgg73
 z27 := Tryz.sizeOf73
 v27 := Tryz.zeroValue73
 t29 := Tryz.underlying9
 a29 := Tryz.isAgg9
 z29 := Tryz.sizeOf9
 v29 := Tryz.zeroValue9
 t32 := Tryz.underlying132
 a32 := Tryz.isAgg132
 z32 := Tryz.sizeOf132
 v32 := Tryz.zeroValue132
 t35 := Tryz.underlying202
 a35 := Tryz.isAgg202
 z35 := Tryz.sizeOf202
 v35 := Tryz.zeroValue202
 t36 := Tryz.underlying203
 a36 := Tryz.isAgg203
 z36 := Tryz.sizeOf203
 v36 := Tryz.zeroValue203
 t41 := Tryz.underlying44
 a41 := Tryz.isAgg44
 z41 := Tryz.sizeOf44
 v41 := Tryz.zeroValue44
 t44 := Tryz.underlying172
 a44 := Tryz.isAgg172
 z44 := Tryz.sizeOf172
 v44 := Tryz.zeroValue172
 t46 := Tryz.underlying174
 a46 := Tryz.isAgg174
 z46 := Tryz.sizeOf174
 v46 := Tryz.zeroValue174
 t53 := Tryz.underlying209
 a53 := Tryz.isAgg209
 z53 := Tryz.sizeOf209
 v53 := Tryz.zeroValue209
 t57 := Tryz.underlying213
 a57 := Tryz.isAgg213
 z57 := Tryz.sizeOf213
 v57 := Tryz.zeroValue213
 t63 := Tryz.underlying215
 a63 := Tryz.isAgg215
 z63 := Tryz.sizeOf215
 v63 := Tryz.zeroValue215
 t64 := Tryz.underlying55
 a64 := Tryz.isAgg55
 z64 := Tryz.sizeOf55
 v64 := Tryz.zeroValue55 }
theorem sor94_ok:SmOk cx 94 (sorSm 128) := sorSm_ok (ρ1 := keys95_ren) (ρ2 := sorted94_ren) (ρ3 := sort127_ren) ⟨f94,by kernel_rfl⟩ { keys95 with } sorted94 sort127 rfl rfl rfl (enters_of func128 (by kernel_rfl) rfl) (enters_of func127 (by kernel_rfl) rfl)
end Go.Proofs.Tryz
section

end
section
namespace Go.Proofs.Tryz
open Go Go.Sx
noncomputable section
def lx45 (F:Nat):LK := lS sor94_ok (lC (pc51_ok F) lN)
def c45 (F:Nat) (a:TP):Option (List (ByteArray × Int) × Int) :=
 let z2 := (0:Int); let z1 := (ByteArray.empty,z2,nilT ByteArray,nilT ByteArray,nilT ByteArray,z2,z2); Option.bind (c51 F (a.1,a.2.1,a.2.2)) fun (v27:Int)=>bif !decide (v27 = z2) then (some ((nilT (ByteArray × Int),v27))) else (Option.bind (loopO (σ := List (ByteArray × Int) × Int) (β := List (ByteArray × Int)) (fun (v34:List (ByteArray × Int) × Int)=>let z4 := (List.getD a.1 (Int.toNat v34.2) z1).2; let z3 := (z4.2).1; bif decide (v34.2 < (↑(List.length a.1):Int)) then (gd (decide (z2 ≤ v34.2)) (gd (decide (v34.2 < (↑(List.length a.1):Int))) (gd (decide (Int.toNat v34.2 < List.length a.1)) (Option.bind (loopO (σ := List (ByteArray × Int) × Int) (β := List (ByteArray × Int)) (fun (v36:List (ByteArray × Int) × Int)=>let z5 := List.getD z3 (Int.toNat v36.2) ByteArray.empty; bif decide (v36.2 < (↑(List.length z3):Int)) then (gd (decide (z2 ≤ v36.2)) (gd (decide (v36.2 < (↑(List.length z3):Int))) (gd (decide (Int.toNat v36.2 < List.length z3)) (some (Sum.inl (mput strEq z5 (w64 (mgetD strEq z5 v36.1 z2 + z4.1)) v36.1,w64 (v36.2 + (1:Int)))))))) else (some (Sum.inr v36.1))) F ((v34.1,z2))) fun (v35:List (ByteArray × Int))=>some (Sum.inl (v35,w64 (v34.2 + (1:Int)))))))) else (some (Sum.inr v34.1))) F ((nilT (ByteArray × Int),z2))) fun (v28:List (ByteArray × Int))=>Option.bind (gd (decide (List.length v28 * (16:Nat) ≤ (140737488355328:Nat))) (gd (decide (keysFit (mkeys v28) = true)) (some (skeysM v28)))) fun (v29:List ByteArray)=>Option.bind (loopO (σ := List (ByteArray × Int) × Int) (β := List (ByteArray × Int)) (fun (v31:List (ByteArray × Int) × Int)=>let z6 := (List.getD v29 (Int.toNat v31.2) ByteArray.empty,mgetD strEq (List.getD v29 (Int.toNat v31.2) ByteArray.empty) v28 z2); bif decide (v31.2 < (↑(List.length v29):Int)) then (gd (decide (z2 ≤ v31.2)) (gd (decide (v31.2 < (↑(List.length v29):Int))) (gd (decide (Int.toNat v31.2 < List.length v29)) (gd (decide (List.length v31.1 = List.length v31.1)) (gd (decide (List.length (v31.1 ++ z6 :: nilT (ByteArray × Int)) * (24:Nat) ≤ (140737488355328:Nat))) (gd (decide (List.length (v31.1 ++ z6 :: nilT (ByteArray × Int)) ≤ (9223372036854775807:Nat))) (Option.bind (gd (decide (List.length (v31.1 ++ z6 :: nilT (ByteArray × Int)) = List.length (v31.1 ++ z6 :: nilT (ByteArray × Int))) && true && (true && true)) (some ((v31.1 ++ z6 :: nilT (ByteArray × Int),w64 (v31.2 + (1:Int)))))) fun (v32:List (ByteArray × Int) × Int)=>some (Sum.inl v32)))))))) else (Option.bind (gd (decide (List.length v31.1 = List.length v31.1) && true && true) (some v31.1)) fun (v33:List (ByteArray × Int))=>some (Sum.inr v33))) F ((nilT (ByteArray × Int),z2))) fun (v30:List (ByteArray × Int))=>gd (decide ((0:Nat) + List.length v30 ≤ List.length v30) && true) (some ((List.take (List.length v30) (List.drop (0:Nat) v30),z2))))
def pc45 (F:Nat):PC := { ats := [.agg [sR,sO,.int .i64]],rts := [.val (.seq [.str,.int .i64]),.val (.int .i64)],code := c45 F }
theorem pc45_ok (F:Nat):PCOk cx 45 (pc45 F) := qE (lx45 F) (.two .leaf (.two .leaf (.two .leaf (.two (.two .leaf (.one (.loop ⟨[.map 1 (.val (.str)) (.val (.int .i64)),.slot 22 (.val (.int .i64))],[]⟩ [(.exit 0,⟨[.map 1 (.val (.str)) (.val (.int .i64))],[]⟩)] ⟨[40,22,26,27,28,29,39,33,34,35,36,37,38,9,32,31,30,7,25,24,23],[1],[]⟩ F (.two .leaf (.two .leaf (.two (.one (.two .leaf (.two .leaf (.one (.loop ⟨[.map 1 (.val (.str)) (.val (.int .i64)),.slot 29 (.val (.int .i64))],[]⟩ [(.exit 2,⟨[.map 1 (.val (.str)) (.val (.int .i64))],[]⟩)] ⟨[39,29,33,34,35,36,37,38,9,32,31,30],[1],[]⟩ F .leaf))))) .leaf)))))) (.two .leaf (.two (.two (.within [(95,.leaf)]) (.one (.virt 10 72 [.str,.int .i64] (.loop ⟨[.vec 3 72 [.str,.int .i64],.slot 45 (.val (.int .i64))],[(10,.own 3)]⟩ [(.exit 4,⟨[.vec 3 72 [.str,.int .i64]],[(10,.own 3)]⟩)] ⟨[57,45,49,50,51,52,53,54,55,56,10,12,48,47,46],[3],[3]⟩ F .leaf)))) .leaf)))))) f45 (by kernel_rfl) fun a=>by kernel_rfl
def lx10 (F:Nat):LK := lC (pc15_ok F) (lC (pc49_ok F) (lC (pc28_ok F) (lC (pc18_ok F) (lC (pc45_ok F) (lC (pc32_ok F) (lC (pc54_ok F) (lC (pc52_ok F) (lC (pc41_ok F) (lC (pc53_ok F) (lC (pc17_ok F) (lC (pc27_ok F) (lC (pc14_ok F) lN))))))))))))
def c10 (F:Nat) (a:TP × List Int):Option (Bool) :=
 let z6 := (↑(List.length a.1.1):Int); let z5 := some (Sum.inr (Sum.inr ())); let z4 := some (Sum.inr (Sum.inl false)); let z3 := (0:Int); let z2 := (a.1.1,a.1.2.1,a.1.2.2); let z1 := (ByteArray.empty,z3,nilT ByteArray,nilT ByteArray,nilT ByteArray,z3,z3); Option.bind (c14 F z2) fun (v69:TP)=>let z7 := (v69.1,v69.2.1,v69.2.2); Option.bind (c49 F (z7,(5:Int))) fun (v70:Bool)=>bif !v70 then (some (true)) else (Option.bind (c27 F z2) fun (v71:Int × Int)=>Option.bind (c28 F z2) fun (v72:List Int × Int)=>let z8 := (↑(List.length v72.1):Int); bif !decide (v71.2 = z3) then (Option.bind (bif decide (v71.2 = (23:Int)) then (some (decide (v72.2 = (23:Int)))) else (some (false))) fun (v73:Bool)=>some (v73)) else (Option.bind (c18 F z2) fun (v74:Int × Int)=>Option.bind (c17 F z2) fun (v75:List (Int × Int) × Int)=>let z9 := (↑(List.length v75.1):Int); Option.bind (c45 F z2) fun (v76:List (ByteArray × Int) × Int)=>let z10 := (↑(List.length v76.1):Int); Option.bind (c53 F (z2,v72.1)) fun (v77:Int × Int)=>Option.bind (bif !decide (w64 (w64 (w64 (w64 (v72.2 + v74.2) + v75.2) + v76.2) + v77.2) = z3) then (some (true)) else (Option.bind (c32 F (z7,v72.1)) fun (v102:Int)=>bif !decide (v102 = z3) then (some (true)) else (bif !decide (z9 = z8) then (some (true)) else (bif !decide (v77.1 = v71.1) then (some (true)) else (some (decide (v71.1 < v74.1))))))) fun (v78:Bool)=>bif v78 then (some (false)) else (Option.bind (loopO (σ := Int) (β := Bool ⊕ Unit) (fun (v94:Int)=>let z14 := (List.getD v75.1 (Int.toNat v94) (z3,z3)); let z13 := decide (Int.toNat v94 < List.length v75.1); let z12 := decide (Int.toNat v94 < List.length v72.1); let z11 := (((((List.getD a.1.1 (Int.toNat v94) z1).2).2).2).2).1; bif decide (v94 < z8) then (Option.bind (gd (decide (z3 ≤ v94)) (gd (decide (v94 < z8)) (gd z12 (gd (decide (z3 ≤ v94)) (gd (decide (v94 < z9)) (gd z13 (bif decide (List.getD v72.1 (Int.toNat v94) z3 < z14.1) then (some (true)) else (gd (decide (z3 ≤ v94)) (gd (decide (v94 < z8)) (gd z12 (gd (decide (z3 ≤ v94)) (gd (decide (v94 < z9)) (gd z13 (some (decide (z14.2 < List.getD v72.1 (Int.toNat v94) z3)))))))))))))))) fun (v95:Bool)=>bif v95 then z4 else (gd (decide (z3 ≤ v94)) (gd (decide (v94 < z6)) (gd (decide (Int.toNat v94 < List.length a.1.1)) (Option.bind (loopO (σ := Int) (β := Bool ⊕ Unit) (fun (v99:Int)=>bif decide (v99 < (↑(List.length z11):Int)) then (gd (decide (z3 ≤ v99)) (gd (decide (v99 < (↑(List.length z11):Int))) (gd (decide (Int.toNat v99 < List.length z11)) (Option.bind (c41 F (z2,v72.1,List.getD z11 (Int.toNat v99) ByteArray.empty)) fun (v100:Int × Int)=>Option.bind (bif !decide (v100.2 = (7:Int)) then (bif !decide (v100.2 = z3) then (some (true)) else (some (decide (v100.1 < a.1.2.2)))) else (some (false))) fun (v101:Bool)=>bif v101 then z4 else (some (Sum.inl (w64 (v99 + (1:Int))))))))) else z5) F (z3)) fun (v96:Bool ⊕ Unit)=>Sum.elim (fun (v97:Bool)=>some (Sum.inr (Sum.inl v97))) (fun (v98:Unit)=>some (Sum.inl (w64 (v94 + (1:Int))))) (v96)))))) else z5) F (z3)) fun (v79:Bool ⊕ Unit)=>Sum.elim (fun (v80:Bool)=>some (v80)) (fun (v81:Unit)=>Option.bind (loopO (σ := Int) (β := Bool ⊕ Unit) (fun (v89:Int)=>let z16 := decide (Int.toNat v89 < List.length v76.1); let z15 := (List.getD v76.1 (Int.toNat v89) (ByteArray.empty,z3)); bif decide (v89 < z10) then (Option.bind (loopO (σ := Int × Int) (β := Int) (fun (v91:Int × Int)=>let z17 := ((List.getD a.1.1 (Int.toNat v91.2) z1).2).2; bif decide (v91.2 < z6) then (gd (decide (z3 ≤ v91.2)) (gd (decide (v91.2 < z6)) (gd (decide (Int.toNat v91.2 < List.length a.1.1)) (gd (decide (z3 ≤ v89)) (gd (decide (v89 < z10)) (gd z16 (Option.bind (c54 F (z17.1,z15.1 :: nilT ByteArray)) fun (v92:Bool)=>let z18 := ((z17.2).2).2; Option.bind (bif v92 then (some (if z18.1 < v91.1 then z18.1 else v91.1)) else (some v91.1)) fun (v93:Int)=>some (Sum.inl (v93,w64 (v91.2 + (1:Int))))))))))) else (some (Sum.inr v91.1))) F (((20000:Int),z3))) fun (v90:Int)=>gd (decide (z3 ≤ v89)) (gd (decide (v89 < z10)) (gd z16 (bif decide (v71.1 < w64 (v90 + z15.2)) then z4 else (some (Sum.inl (w64 (v89 + (1:Int))))))))) else z5) F (z3)) fun (v82:Bool ⊕ Unit)=>Sum.elim (fun (v83:Bool)=>some (v83)) (fun (v84:Unit)=>Option.bind (c32 F (z7,a.2)) fun (v85:Int)=>bif !decide (v85 = z3) then (some (true)) else (Option.bind (c52 F (z2,a.2)) fun (v86:Int × Int)=>Option.bind (c53 F (z2,a.2)) fun (v87:Int × Int)=>Option.bind (bif decide (v87.2 = z3) then (bif decide (v86.2 = (29:Int)) then (some (true)) else (bif decide (v86.2 = z3) then (some (decide (v71.1 ≤ v87.1))) else (some (false)))) else (some (false))) fun (v88:Bool)=>some (v88))) (v82)) (v79))))
def pc10 (F:Nat):PC := { ats := [.agg [sR,sO,.int .i64],.val (.seq [.int .i64])],rts := [.val (.bool)],code := c10 F }
theorem pc10_ok (F:Nat):PCOk cx 10 (pc10 F) := qE (lx10 F) (.two .leaf (.two .leaf (.two .leaf (.two .leaf (.two .leaf (.two (.two .leaf (.two (.two (.join [(.normal,⟨[.slot 4 (.val (.bool))],[]⟩)] ⟨[4,58,57,56,55,54,53],[],[]⟩ .leaf) .leaf) .leaf)) (.two .leaf (.two .leaf (.two .leaf (.two .leaf (.two (.two (.join [(.normal,⟨[.slot 112 (.val (.bool))],[]⟩)] ⟨[112,111,110,109,108,107,106,105,104,103,102,101,100,99,98,97,96,95,94,93,92,91,90,89,88,87,86,85,84,83,82,81,80],[],[]⟩ .leaf) .leaf) (.two (.two .leaf (.one (.loop ⟨[.slot 115 (.val (.int .i64))],[]⟩ [(.ret,⟨[.slot 4 (.val (.bool))],[]⟩),(.exit 0,⟨[],[]⟩)] ⟨[171,115,118,119,120,121,122,123,124,125,126,127,128,129,130,131,132,133,134,135,136,137,138,139,4,148,149,150,20,158,159,160,161,162,163,164,165,166,167,168,169,22,21,157,156,151,155,154,153,152,170,147,146,145,144,143,142,141,140,18,117,116],[],[]⟩ F (.two .leaf (.two .leaf (.two (.one (.two .leaf (.two (.two (.join [(.normal,⟨[.slot 139 (.val (.bool))],[]⟩)] ⟨[139,138,137,136,135,134,133,132,131,130,129,128,127,126,125,124,123,122,121,120,119,118],[],[]⟩ .leaf) .leaf) (.two .leaf (.one (.loop ⟨[.slot 147 (.val (.int .i64))],[]⟩ [(.ret,⟨[.slot 4 (.val (.bool))],[]⟩),(.exit 2,⟨[],[]⟩)] ⟨[170,147,152,153,154,155,151,156,157,21,22,4,169,168,167,166,165,164,163,162,161,160,159,158,20,150,149,148],[],[]⟩ F (.two .leaf (.two .leaf (.two (.one (.two .leaf (.two .leaf (.two (.join [(.normal,⟨[.slot 169 (.val (.bool))],[]⟩)] ⟨[169,168,167,166,165,164,163,162,161,160,159,158],[],[]⟩ .leaf) .leaf)))) .leaf))))))))) .leaf)))))) (.two (.two .leaf (.one (.loop ⟨[.slot 174 (.val (.int .i64))],[]⟩ [(.ret,⟨[.slot 4 (.val (.bool))],[]⟩),(.exit 4,⟨[],[]⟩)] ⟨[207,174,24,198,199,200,201,202,203,204,205,206,4,181,182,183,26,193,194,195,196,192,191,190,189,188,187,186,185,184,197,180,179,178,177,23,176,175],[],[]⟩ F (.two .leaf (.two .leaf (.two (.one (.two .leaf (.two .leaf (.two (.two .leaf (.one (.loop ⟨[.slot 24 (.val (.int .i64)),.slot 180 (.val (.int .i64))],[]⟩ [(.exit 6,⟨[.slot 24 (.val (.int .i64))],[]⟩)] ⟨[197,180,184,185,186,187,188,189,190,191,192,24,196,195,194,193,26,183,182,181],[],[]⟩ F (.two .leaf (.two .leaf (.two (.one (.two .leaf (.two .leaf (.join [(.normal,⟨[.slot 24 (.val (.int .i64))],[]⟩)] ⟨[24,196,195,194,193],[],[]⟩ .leaf)))) .leaf)))))) .leaf)))) .leaf)))))) (.two .leaf (.two .leaf (.two .leaf (.two (.join [(.normal,⟨[.slot 4 (.val (.bool))],[]⟩)] ⟨[4,238,237,236,235,234,233,232,231,230,229,228,227,226,225,224],[],[]⟩ .leaf) .leaf))))))))))))))))) f10 (by kernel_rfl) fun a=>by kernel_rfl
end
end Go.Proofs.Tryz
end
namespace Go.Proofs.Tryz
open Go Go.Sx
abbrev Use := ByteArray × Int
def mapR (r:Rnd) (m:List Use):List Use := r.2.2.1.foldl (fun m a=>putU m (a,r.2.1)) m
def mapL (p:Pln):List Use := p.1.foldl (fun m r=>mapR r m) []
def insR (r:Rnd) (m:List Use):List Use := r.2.2.1.foldl (fun m a=>insU (a,r.2.1) m) m
def loadS (p:Pln):List Use := p.1.foldl (fun m r=>insR r m) []
theorem SameU.fold {α:Type} (f:α → List Use → List Use) (g:α → List Use → List Use) (h:∀ x m r,SameU m r → SameU (f x m) (g x r)):∀ (l:List α) {m r:List Use},SameU m r → SameU (l.foldl (fun m x=>f x m) m) (l.foldl (fun m x=>g x m) r)
 | [],m,r,hs=>hs
 | x :: l,m,r,hs=>SameU.fold f g h l (h x m r hs)
theorem same_load (p:Pln):SameU (mapL p) (loadS p) :=
 SameU.fold mapR insR (fun r m q h=>SameU.fold (fun a m=>putU m (a,r.2.1)) (fun a m=>insU (a,r.2.1) m) (fun a m q h=>h.put (a,r.2.1)) r.2.2.1 h) p.1 SameU.nil
structure BndU (n:Nat) (m:List Use):Prop where
 len:m.length ≤ n
 get:∀ k,0 ≤ mgetD strEq k m 0 ∧ mgetD strEq k m 0 ≤ 1440 * (n:Int)
 sz:∀ k ∈ m.map (·.1),k.size ≤ 40
theorem BndU.nil:BndU 0 [] := ⟨Nat.le_refl _,fun k=>⟨Int.le_refl _,by simp [mgetD_nil]⟩,fun k h=>by simp at h⟩
theorem mput_len {x:ByteArray} {v:Int}:∀ {l:List Use},(mput strEq x v l).length ≤ l.length + 1
 | []=>by simp [mput_nil]
 | y :: l=>by
  rw [mput_cons]
  split
  ·simp
  ·have := mput_len (x := x) (v := v) (l := l)
   simp only [List.length_cons]; omega
theorem BndU.put {n:Nat} {m:List Use} (h:BndU n m) {x:ByteArray} {v:Int} (hv:0 ≤ v ∧ v ≤ 1440) (hx:x.size ≤ 40):BndU (n + 1) (putU m (x,v)) := by
 refine ⟨?_,fun k=>?_,fun k hk=>?_⟩
 ·have := h.len
  have := mput_len (x := x) (v := mgetD strEq x m 0 + v) (l := m)
  unfold putU
  simp only
  omega
 ·unfold putU
  rw [mgetD_mput strEq_iff]
  have h1 := h.get k
  have h2 := h.get x
  split
  ·simp only
   omega
  ·omega
 ·unfold putU at hk
  rcases mput_mem.1 hk with rfl | hk
  ·exact hx
  ·exact h.sz k hk
theorem BndU.mono {n n':Nat} {m:List Use} (h:BndU n m) (hn:n ≤ n'):BndU n' m := ⟨by have := h.len; omega,fun k=>by have := h.get k; omega,h.sz⟩
theorem mapR_bnd {r:Rnd} (hv:1 ≤ r.2.1 ∧ r.2.1 ≤ 1440) (hl:r.2.2.1.length ≤ 162) (hs:∀ s ∈ r.2.2.1,s.size ≤ 40) {n:Nat} {m:List Use} (h:BndU n m):BndU (n + 162) (mapR r m) := by
 have key:∀ (l:List ByteArray),(∀ s ∈ l,s.size ≤ 40) → ∀ (n:Nat) (m:List Use),BndU n m → BndU (n + l.length) (l.foldl (fun m a=>putU m (a,r.2.1)) m) := by
  intro l
  induction l with
  | nil=>intro _ n m h; exact h
  | cons a l ih =>
   intro hs n m h
   have := ih (fun s hs'=>hs s (List.mem_cons_of_mem _ hs')) (n + 1) _ (h.put (x := a) (v := r.2.1) ⟨by omega,hv.2⟩ (hs a (List.mem_cons_self ..)))
   rw [List.length_cons,show n + (l.length + 1) = n + 1 + l.length by omega]
   exact this
 exact (key r.2.2.1 hs n m h).mono (by omega)
theorem mapL_bnd {p:Pln} (hp:PShort p) (hv:PV p):BndU (162 * p.1.length) (mapL p) := by
 have key:∀ (l:List Rnd),(∀ r ∈ l,r ∈ p.1) → ∀ (n:Nat) (m:List Use),BndU n m → BndU (n + 162 * l.length) (l.foldl (fun m r=>mapR r m) m) := by
  intro l
  induction l with
  | nil=>intro _ n m h; exact h
  | cons r l ih =>
   intro hs n m h
   have hr := hs r (List.mem_cons_self ..)
   obtain ⟨hln,hsz⟩ := (hp.2.2 r hr).2 r.2.2.1 (.inl rfl)
   have := ih (fun s hs'=>hs s (List.mem_cons_of_mem _ hs')) (n + 162) _ (mapR_bnd (hv.rnd r hr).1 hln hsz h)
   rw [List.length_cons,show n + 162 * (l.length + 1) = n + 162 + 162 * l.length by omega]
   exact this
 have := key p.1 (fun _ h=>h) 0 [] BndU.nil
 rw [Nat.zero_add] at this
 exact this
theorem keys_fit {p:Pln} (hp:PShort p) (hv:PV p):keysFit (mkeys (mapL p)) = true := by
 unfold keysFit
 rw [Bool.and_eq_true,decide_eq_true_eq,List.all_eq_true]
 refine ⟨(same_load p).nd,fun k hk=>decide_eq_true ?_⟩
 have := (mapL_bnd hp hv).sz k hk
 omega
theorem l45 {F:Nat} (hF:8000 ≤ F) {p:Pln} (hp:PShort p):c45 F p = some (if planE p = 0 then (loadS p,0) else (nilT Use,planE p)) := by
 unfold c45
 simp only [peta,l51 (show 400 ≤ F by omega) hp.sm,Option.bind_some]
 by_cases he:planE p = 0
 ·have hv := PV.of hp he
  simp only [he,decide_true,Bool.not_true,cond_false,if_true]
  refine bind_list p.1 (fun (m:List Use) i=>(m,(i:Int))) (fun r m=>.inl (mapR r m)) (fun m=>m) (fun i m=>BndU (162 * i) m) [] (by have := hv.n1; omega) rfl BndU.nil ?_ ?_ ?_
  ·intro i r m hi hr hm
   have hrm:r ∈ p.1 := List.mem_of_getElem? hr
   have hmin := (hv.rnd r hrm).1
   obtain ⟨hln,hsz⟩ := (hp.2.2 r hrm).2 r.2.2.1 (.inl rfl)
   have hn1 := hv.n1
   refine ⟨?_,fun s' h'=>?_⟩
   ·simp (disch := omega) only [cd_pos,gd_dec,Int.toNat_natCast,getD_some hr]
    refine bind_list r.2.2.1 (fun (m:List Use) j=>(m,(j:Int))) (fun a m=>.inl (putU m (a,r.2.1))) (fun m=>m) (fun j m=>BndU (162 * i + j) m) m (by omega) rfl hm ?_ ?_ ?_
    ·intro j a m hj ha hm
     have hb := hm.get a
     have hsa := hsz a (List.mem_of_getElem? ha)
     refine ⟨?_,fun s' h'=>by cases h'; exact hm.put ⟨by omega,hmin.2⟩ hsa⟩
     simp (disch := omega) only [cd_pos,gd_dec,Int.toNat_natCast,getD_some ha,w64_in]
     rfl
    ·intro m hm
     simp (disch := omega) only [cd_neg]
    ·rw [goL_fold (fun m a=>putU m (a,r.2.1))]
     have hw:w64 ((i:Int) + 1) = ((i + 1:Nat):Int) := by rw [w64_in (by omega) (by omega)]; omega
     show some (Sum.inl (mapR r m,w64 ((i:Int) + 1))) = _
     rw [hw]
   ·cases h'
    exact (mapR_bnd hmin hln hsz hm).mono (by omega)
  ·intro m hm
   simp (disch := omega) only [cd_neg]
  ·rw [goL_fold (fun m r=>mapR r m)]
   have hML:p.1.foldl (fun m r=>mapR r m) [] = mapL p := rfl
   rw [hML]
   have hB := mapL_bnd hp hv
   have hBl := hB.len
   have hn1 := hv.n1
   have hfit := keys_fit hp hv
   have hkl:(skeysM (mapL p)).length = (mapL p).length := by
    have := (skeys_perm (mkeys (mapL p))).length_eq
    unfold mkeys at this
    rw [List.length_map] at this
    exact this
   show Option.bind (gd (decide ((mapL p).length * 16 ≤ 140737488355328)) (gd (decide (keysFit (mkeys (mapL p)) = true)) (some (skeysM (mapL p))))) _ = _
   simp (disch := omega) only [gd_dec,hfit,decide_true,gd_true,Option.bind_some]
   generalize hK:skeysM (mapL p) = K at hkl
   have hres := (same_load p).res
   rw [hK] at hres
   clear hB hfit hML
   generalize hM:mapL p = m at hkl hBl hres ⊢
   refine bind_list K (fun (out:List Use) i=>(out,(i:Int))) (fun k out=>.inl (out ++ [(k,mgetD strEq k m 0)])) (fun out=>out) (fun i out=>out.length = i) [] (by omega) rfl rfl ?_ ?_ ?_
   ·intro i k out hi hk ho
    refine ⟨?_,fun s' h'=>by cases h'; simp [ho]⟩
    have hl:∀ y:Use,(out ++ y :: nilT Use).length = i + 1 := fun y=>by simp [nilT,ho]
    simp (disch := omega) only [cd_pos,gd_dec,Int.toNat_natCast,getD_some hk,w64_in,hl,decide_true,Bool.and_self,gd_true,Option.bind_some]
    rfl
   ·intro out ho
    simp (disch := omega) only [cd_neg,decide_true,Bool.and_self,gd_true,Option.bind_some]
   ·rw [goL_append]
    simp only [List.nil_append]
    rw [hres]
    have:0 + (loadS p).length ≤ (loadS p).length := by omega
    simp (disch := omega) only [gd_dec,decide_true,Bool.and_self,gd_true,Bool.and_true,this,List.drop_zero,List.take_length]
 ·simp [he]
structure BndE (n:Nat) (m:List Use):Prop where
 len:m.length ≤ n
 val:∀ e ∈ m,0 ≤ e.2 ∧ e.2 ≤ 1440 * (n:Int)
theorem BndE.mono {n n':Nat} {m:List Use} (h:BndE n m) (hn:n ≤ n'):BndE n' m := ⟨by have := h.len; omega,fun e he=>by have := h.val e he; omega⟩
end Go.Proofs.Tryz
