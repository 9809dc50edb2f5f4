/- Functions of the program as functions of data. By program. Plain law: starters and teams. And further parts. -/
import Derived.Test.YtpkbmngnolhopaaGreatDoorXT3q
import Derived.Test.YtpkbmngnolhopaaGreatDoorXT3f
import Derived.Test.YtpkbmngnolhopaaGreatDoorXT3i
set_option maxRecDepth 100000
set_option linter.all false
set_option linter.unusedVariables false
set_option linter.unusedSimpArgs false
section
namespace Go.Proofs.Tryz
open Go Go.Sx
noncomputable section
def tx207_2:Tmpl := ⟨[.vec 0 106 [.str,.str,.str,.int .i64,.str,.int .i64,.bool]],[(0,.own 0),(1,.stat (.pv (.lit (.func (.func 149) #[] #[]))))]⟩
def wx207_2:Tmpl := ⟨[.slot 0 (.val (.int .i64))],[]⟩
def lxx207_2 (F:Nat):LK := lC (pc149_ok F) lN
def cx207_2 (F:Nat) (a:List (TEnt)):Option (Int) :=
 (loopO (σ := Int) (β := Int ⊕ Unit) (fun (v13:Int)=>bif decide (v13 < (↑(a.length):Int)) then (gd (decide (0 ≤ v13)) (gd (decide (v13 < (↑(a.length):Int))) (gd (decide ((0:Nat) + v13.toNat < a.length)) (bif !Prod.snd (Prod.snd (Prod.snd (Prod.snd (Prod.snd (Prod.snd (a.getD ((0:Nat) + v13.toNat) zEnt)))))) then (some (Sum.inr (Sum.inl v13))) else (some (Sum.inl (w64 (v13 + 1)))))))) else (some (Sum.inr (Sum.inr ())))) F ((0:Int))).bind fun (v10:Int ⊕ Unit)=>Sum.elim (fun (v11:Int)=>some (v11)) (fun (v12:Unit)=>some ((-1:Int))) (v10)
def px207_2 (F:Nat):PX := { np := 2,locs := [.arg 0],τ := tx207_2,nr := 1,ω := wx207_2,ids := [],mv := [],code := cx207_2 F }
theorem px207_2_ok (F:Nat):PXOk cx 207 (px207_2 F) := qXE (lxx207_2 F) (.two .leaf (.two (.two .leaf (.one (.loop ⟨[.slot 8 (.val (.int .i64))],[]⟩ [(.ret,⟨[.slot 4 (.val (.int .i64))],[]⟩),(.exit 0,⟨[],[]⟩)] ⟨[18,8,11,12,13,14,15,16,4,17,5,10,9],[],[]⟩ F .leaf))) .leaf)) f207 (by kernel_rfl) fun a=>by kernel_rfl
def lx69 (F:Nat):LK := lC (pc138_ok F) (lC (pc149_ok F) (lC (pc204_ok F) (lC (pc137_ok F) (lX (px207_0_ok F) (lX (px250_0_ok F) (lX (px267_0_ok F) (lX (px256_0_ok F) (lX (px251_0_ok F) (lX (px239_0_ok F) (lX (px203_0_ok F) (lX (px207_1_ok F) (lX (px207_2_ok F) lN))))))))))))
def c69 (F:Nat) (a:(TMt) × (TSt) × ByteArray):Option (List ByteArray × Int) :=
 (c137 F (a.1,a.2.1,a.2.2,false)).bind fun (v68:(TCst) × Int)=>bif !decide (v68.2 = 0) then (some ((nilT ByteArray,v68.2))) else ((loopO (σ := List (TEnt) × Int) (β := List (TEnt)) (fun (v79:List (TEnt) × Int)=>bif decide (v79.2 < (↑(a.2.1.2.2.2.1.length):Int)) then (gd (decide (0 ≤ v79.2)) (gd (decide (v79.2 < (↑(a.2.1.2.2.2.1.length):Int))) (gd (decide (v79.2.toNat < a.2.1.2.2.2.1.length)) ((bif strEq (Prod.fst (Prod.snd (a.2.1.2.2.2.1.getD (v79.2.toNat) zEnt))) a.2.2 then (gd (decide (v79.1.length = v79.1.length)) (gd (decide (List.length (v79.1 ++ (a.2.1.2.2.2.1.getD (v79.2.toNat) zEnt) :: nilT (TEnt)) * (88:Nat) ≤ (140737488355328:Nat))) (gd (decide (List.length (v79.1 ++ (a.2.1.2.2.2.1.getD (v79.2.toNat) zEnt) :: nilT (TEnt)) ≤ 9223372036854775807)) (gd (decide (List.length (v79.1 ++ (a.2.1.2.2.2.1.getD (v79.2.toNat) zEnt) :: nilT (TEnt)) = List.length (v79.1 ++ (a.2.1.2.2.2.1.getD (v79.2.toNat) zEnt) :: nilT (TEnt))) && true && true) (some (v79.1 ++ (a.2.1.2.2.2.1.getD (v79.2.toNat) zEnt) :: nilT (TEnt))))))) else (gd (decide (v79.1.length = v79.1.length) && true && true) (some v79.1))).bind fun (v80:List (TEnt))=>(gd (decide (v80.length = v80.length) && true && (true && true)) (some ((v80,w64 (v79.2 + 1))))).bind fun (v81:List (TEnt) × Int)=>some (Sum.inl v81))))) else ((gd (decide (v79.1.length = v79.1.length) && true && true) (some v79.1)).bind fun (v82:List (TEnt))=>some (Sum.inr v82))) F ((nilT (TEnt),(0:Int)))).bind fun (v69:List (TEnt))=>(gd (decide (v69.length = v69.length) && (true && true) && true) (some (v69))).bind fun (v70:List (TEnt))=>(cx203_0 F v70).bind fun (v71:List (TEnt))=>(gd (decide (v69.length = v71.length) && (true && true) && true) (some (v71))).bind fun (v72:List (TEnt))=>(cx207_2 F v72).bind fun (v73:Int)=>bif decide (v73 = (-1:Int)) then (gd (true && (decide (v69.length = List.length (List.take (v69.length) v71)) && true && true && true)) ((c138 F (a.2.1,v68.1,List.take (v69.length) v71,true)).bind fun (v74:List ByteArray)=>some ((v74,(0:Int))))) else ((loopO (σ := List (TEnt) × Int × Int) (β := List (TEnt) × Int) (fun (v77:List (TEnt) × Int × Int)=>bif decide (v77.2.2 < (↑(v69.length):Int)) then (gd (decide (0 ≤ v77.2.2)) (gd (decide (v77.2.2 < (↑(v69.length):Int))) (gd (decide ((0:Nat) + v77.2.2.toNat < v77.1.length)) ((bif !!Prod.snd (Prod.snd (Prod.snd (Prod.snd (Prod.snd (Prod.snd (v77.1.getD ((0:Nat) + v77.2.2.toNat) zEnt)))))) then (gd (decide (0 ≤ v77.2.1)) (gd (decide (v77.2.1 < (↑(v69.length):Int))) (gd (decide ((0:Nat) + v77.2.1.toNat < v77.1.length)) (some ((List.set v77.1 ((0:Nat) + v77.2.1.toNat) (v77.1.getD ((0:Nat) + v77.2.2.toNat) zEnt),w64 (v77.2.1 + 1))))))) else (some ((v77.1,v77.2.1)))).bind fun (v78:List (TEnt) × Int)=>some (Sum.inl (v78.1,v78.2,w64 (v77.2.2 + 1))))))) else (some (Sum.inr (v77.1,v77.2.1)))) F ((v71,v73,w64 (v73 + 1)))).bind fun (v75:List (TEnt) × Int)=>gd (decide (0 ≤ v75.2)) (gd (decide (v75.2 ≤ (↑(v69.length):Int))) (gd (decide ((↑(v69.length):Int) ≤ (↑(v69.length):Int))) (gd (decide ((0:Nat) + v75.2.toNat + (Int.toNat (↑(v69.length):Int) - v75.2.toNat) ≤ v75.1.length)) (gd (decide (0 ≤ v75.2)) (gd (decide (v75.2 ≤ (↑(v69.length):Int))) (gd (true && (decide (v75.2.toNat - 0 = List.length (List.take (v75.2.toNat - 0) (List.take ((0:Nat) + v75.2.toNat) v75.1 ++ List.replicate (Int.toNat (↑(v69.length):Int) - v75.2.toNat) ((ByteArray.mk (List.toArray (nilT UInt8))),(ByteArray.mk (List.toArray (nilT UInt8))),(ByteArray.mk (List.toArray (nilT UInt8))),(0:Int),(ByteArray.mk (List.toArray (nilT UInt8))),(0:Int),false) ++ List.drop ((0:Nat) + v75.2.toNat + (Int.toNat (↑(v69.length):Int) - v75.2.toNat)) v75.1))) && true && true && true)) ((c138 F (a.2.1,v68.1,List.take (v75.2.toNat - 0) (List.take ((0:Nat) + v75.2.toNat) v75.1 ++ List.replicate (Int.toNat (↑(v69.length):Int) - v75.2.toNat) ((ByteArray.mk (List.toArray (nilT UInt8))),(ByteArray.mk (List.toArray (nilT UInt8))),(ByteArray.mk (List.toArray (nilT UInt8))),(0:Int),(ByteArray.mk (List.toArray (nilT UInt8))),(0:Int),false) ++ List.drop ((0:Nat) + v75.2.toNat + (Int.toNat (↑(v69.length):Int) - v75.2.toNat)) v75.1),true)).bind fun (v76:List ByteArray)=>some ((v76,(0:Int))))))))))))
def pc69 (F:Nat):PC := { ats := [.agg [.int .i64,.int .i64,.int .i64,.int .i64,.seq [.str,.str,.str,.int .i64,.int .i64,.int .i64,.int .i64,.str,.int .i64,.str,.int .i64]],.agg [.seq [.str],.seq [.str,.str,.int .i64,.str],.seq [.str,.int .i64,.int .i64],.seq [.str,.str,.str,.int .i64,.str,.int .i64,.bool],.seq [.str,.str,.seq [.str]]],.val (.str)],rts := [.val (.seq [.str]),.val (.int .i64)],code := c69 F }
theorem pc69_ok (F:Nat):PCOk cx 69 (pc69 F) := qE (lx69 F) (.two .leaf (.two .leaf (.two .leaf (.two (.within [(40000139,(.two .leaf (.two .leaf (.two (.two .leaf (.one (.virt 5 106 [.str,.str,.str,.int .i64,.str,.int .i64,.bool] (.loop ⟨[.vec 4 106 [.str,.str,.str,.int .i64,.str,.int .i64,.bool],.slot 11 (.val (.int .i64))],[(5,.own 4)]⟩ [(.exit 0,⟨[.vec 4 106 [.str,.str,.str,.int .i64,.str,.int .i64,.bool]],[(5,.own 4)]⟩)] ⟨[23,11,15,16,17,18,5,22,21,20,19,7,14,13,12],[4],[4]⟩ F (.two .leaf (.two .leaf (.two (.one (.two .leaf (.two .leaf (.join [(.normal,⟨[.vec 4 106 [.str,.str,.str,.int .i64,.str,.int .i64,.bool]],[(5,.own 4)]⟩)] ⟨[5,22,21,20,19],[4],[4]⟩ .leaf)))) .leaf))))))) .leaf)))),(60000148,(.two .leaf (.two .leaf (.two .leaf (.two (.two .leaf (.one (.loop ⟨[.vec 4 106 [.str,.str,.str,.int .i64,.str,.int .i64,.bool],.slot 5 (.val (.int .i64)),.slot 6 (.val (.int .i64))],[]⟩ [(.exit 0,⟨[.vec 4 106 [.str,.str,.str,.int .i64,.str,.int .i64,.bool],.slot 5 (.val (.int .i64))],[]⟩)] ⟨[22,23,24,25,7,30,31,32,33,5,35,34,29,28,27,26,6,21,20,19,18,17,16],[4],[]⟩ F (.two .leaf (.two (.one (.two .leaf (.two .leaf (.join [(.normal,⟨[.vec 4 106 [.str,.str,.str,.int .i64,.str,.int .i64,.bool],.slot 5 (.val (.int .i64))],[]⟩)] ⟨[34,35,5,33,32,31,30],[4],[]⟩ .leaf)))) .leaf))))) .leaf)))))]) (.two (.trunc 10 (.weak 4 [10] (.sealing 4 106 [.str,.str,.str,.int .i64,.str,.int .i64,.bool] .leaf))) .leaf))))) f69 (by kernel_rfl) fun a=>by kernel_rfl
def lx70 (F:Nat):LK := lC (pc150_ok F) (lC (pc137_ok F) lN)
def c70 (F:Nat) (a:(TMt) × (TSt) × ByteArray):Option (List (TTm) × Int) :=
 (c137 F (a.1,a.2.1,a.2.2,true)).bind fun (v16:(TCst) × Int)=>bif !decide (v16.2 = 0) then (some ((nilT (TTm),v16.2))) else ((loopO (σ := List (TTm) × Int) (β := List (TTm)) (fun (v18:List (TTm) × Int)=>bif decide (v18.2 < (↑(a.2.1.2.2.2.2.length):Int)) then (gd (decide (0 ≤ v18.2)) (gd (decide (v18.2 < (↑(a.2.1.2.2.2.2.length):Int))) (gd (decide (v18.2.toNat < a.2.1.2.2.2.2.length)) ((bif strEq (Prod.fst (Prod.snd (a.2.1.2.2.2.2.getD (v18.2.toNat) (ByteArray.empty,ByteArray.empty,nilT ByteArray)))) a.2.2 then ((cd150 F (Prod.snd (Prod.snd (a.2.1.2.2.2.2.getD (v18.2.toNat) (ByteArray.empty,ByteArray.empty,nilT ByteArray))))).bind fun (v21:List ByteArray)=>gd (decide (v18.1.length = v18.1.length)) (gd (decide (List.length (v18.1 ++ (Prod.fst (a.2.1.2.2.2.2.getD (v18.2.toNat) (ByteArray.empty,ByteArray.empty,nilT ByteArray)),Prod.fst (Prod.snd (a.2.1.2.2.2.2.getD (v18.2.toNat) (ByteArray.empty,ByteArray.empty,nilT ByteArray))),v21) :: nilT (TTm)) * (56:Nat) ≤ (140737488355328:Nat))) (gd (decide (List.length (v18.1 ++ (Prod.fst (a.2.1.2.2.2.2.getD (v18.2.toNat) (ByteArray.empty,ByteArray.empty,nilT ByteArray)),Prod.fst (Prod.snd (a.2.1.2.2.2.2.getD (v18.2.toNat) (ByteArray.empty,ByteArray.empty,nilT ByteArray))),v21) :: nilT (TTm)) ≤ 9223372036854775807)) (gd (decide (List.length (v18.1 ++ (Prod.fst (a.2.1.2.2.2.2.getD (v18.2.toNat) (ByteArray.empty,ByteArray.empty,nilT ByteArray)),Prod.fst (Prod.snd (a.2.1.2.2.2.2.getD (v18.2.toNat) (ByteArray.empty,ByteArray.empty,nilT ByteArray))),v21) :: nilT (TTm)) = List.length (v18.1 ++ (Prod.fst (a.2.1.2.2.2.2.getD (v18.2.toNat) (ByteArray.empty,ByteArray.empty,nilT ByteArray)),Prod.fst (Prod.snd (a.2.1.2.2.2.2.getD (v18.2.toNat) (ByteArray.empty,ByteArray.empty,nilT ByteArray))),v21) :: nilT (TTm))) && true && (true && (true && (true && true)))) (some ((v18.1 ++ (Prod.fst (a.2.1.2.2.2.2.getD (v18.2.toNat) (ByteArray.empty,ByteArray.empty,nilT ByteArray)),Prod.fst (Prod.snd (a.2.1.2.2.2.2.getD (v18.2.toNat) (ByteArray.empty,ByteArray.empty,nilT ByteArray))),v21) :: nilT (TTm),Prod.fst (a.2.1.2.2.2.2.getD (v18.2.toNat) (ByteArray.empty,ByteArray.empty,nilT ByteArray)),Prod.fst (Prod.snd (a.2.1.2.2.2.2.getD (v18.2.toNat) (ByteArray.empty,ByteArray.empty,nilT ByteArray))),v21))))))) else (gd (decide (v18.1.length = v18.1.length) && true && (true && (true && (true && true)))) (some ((v18.1,Prod.fst (a.2.1.2.2.2.2.getD (v18.2.toNat) (ByteArray.empty,ByteArray.empty,nilT ByteArray)),Prod.fst (Prod.snd (a.2.1.2.2.2.2.getD (v18.2.toNat) (ByteArray.empty,ByteArray.empty,nilT ByteArray))),Prod.snd (Prod.snd (a.2.1.2.2.2.2.getD (v18.2.toNat) (ByteArray.empty,ByteArray.empty,nilT ByteArray)))))))).bind fun (v19:List (TTm) × TTm)=>(gd (decide (v19.1.length = v19.1.length) && true && (true && true)) (some ((v19.1,w64 (v18.2 + 1))))).bind fun (v20:List (TTm) × Int)=>some (Sum.inl v20))))) else ((gd (decide (v18.1.length = v18.1.length) && true && true) (some v18.1)).bind fun (v22:List (TTm))=>some (Sum.inr v22))) F ((nilT (TTm),(0:Int)))).bind fun (v17:List (TTm))=>gd (decide ((0:Nat) + v17.length ≤ v17.length) && true) (some ((List.take (v17.length) (List.drop (0:Nat) v17),(0:Int)))))
def pc70 (F:Nat):PC := { ats := [.agg [.int .i64,.int .i64,.int .i64,.int .i64,.seq [.str,.str,.str,.int .i64,.int .i64,.int .i64,.int .i64,.str,.int .i64,.str,.int .i64]],.agg [.seq [.str],.seq [.str,.str,.int .i64,.str],.seq [.str,.int .i64,.int .i64],.seq [.str,.str,.str,.int .i64,.str,.int .i64,.bool],.seq [.str,.str,.seq [.str]]],.val (.str)],rts := [.val (.seq [.str,.str,.seq [.str]]),.val (.int .i64)],code := c70 F }
theorem pc70_ok (F:Nat):PCOk cx 70 (pc70 F) := qE (lx70 F) (.two .leaf (.two .leaf (.two .leaf (.two (.two .leaf (.one (.virt 10 147 [.str,.str,.seq [.str]] (.loop ⟨[.vec 3 147 [.str,.str,.seq [.str]],.slot 26 (.val (.int .i64))],[(10,.own 3)]⟩ [(.exit 0,⟨[.vec 3 147 [.str,.str,.seq [.str]]],[(10,.own 3)]⟩)] ⟨[42,26,30,31,32,33,38,39,40,41,10,37,36,35,34,12,29,28,27],[3],[3]⟩ F (.two .leaf (.two .leaf (.two (.one (.two .leaf (.two .leaf (.join [(.normal,⟨[.vec 3 147 [.str,.str,.seq [.str]],.one 4 147 [.str,.str,.seq [.str]]],[(10,.own 3)]⟩)] ⟨[38,39,40,41,10,37,36,35,34],[4,3],[3]⟩ .leaf)))) .leaf))))))) .leaf)))) f70 (by kernel_rfl) fun a=>by kernel_rfl
end
end Go.Proofs.Tryz
end
namespace Go.Proofs.Tryz
open Go Go.Sx
theorem ld150 {F:Nat} {l:List ByteArray} (h:l.length ≤ 1000):cd150 F l = some l := by
 have e:nilT ByteArray ++ l = l := rfl
 have h1:l.length * 16 ≤ 140737488355328 := by omega
 have h2:l.length ≤ 9223372036854775807 := by omega
 unfold cd150
 simp only [e,h1,h2,Nat.zero_add,Nat.le_refl,decide_true,gd_true,List.drop_zero,List.take_length,Option.bind_some]
 by_cases h0:l.length = 0
 ·obtain rfl := List.eq_nil_of_length_eq_zero h0
  rfl
 ·simp only [h0,decide_false,cond_false]
theorem l70 {F:Nat} (hF:400 ≤ F) {m:Mt} (hm:m.2.2.2.2.length ≤ 300) (hb:∀ x ∈ m.2.2.2.2,x.1.size ≤ 300 ∧ x.2.2.1.size ≤ 300) {s:St3} (h:ShS s) (c:ByteArray) :
  c70 F (m,s,c) = some (if openE m s c true = 0 then (s.2.2.2.2.filter fun t=>strEq t.2.1 c,0) else ([],openE m s c true)) := by
 have e:∀ y:Tm,y :: nilT Tm = [y] := fun _=>rfl
 have hd:(ByteArray.empty,ByteArray.empty,nilT ByteArray) = dT := rfl
 have h1 := h.sm.t
 unfold c70
 simp only [peta,l137 hF hm hb h.sm,Option.bind_some,hd]
 by_cases hv:openE m s c true = 0
 ·simp only [hv,decide_true,Bool.not_true,cond_false,if_true]
  refine bind_sel s.2.2.2.2 (fun x=>strEq x.2.1 c) (fun x=>x) (by omega) ?_ ?_ ?_
  ·intro i x out hi hx ho
   have hl2:(out ++ [x]).length ≤ 301 := by simp; omega
   have hn:x.2.2.length ≤ 10 := (h.ts x (List.mem_of_getElem? hx)).2.2.1
   simp (disch := omega) only [cd_pos,gd_dec,Int.toNat_natCast,getD_some hx,w64_in,peta,ld150 (F := F) (l := x.2.2) (by omega),e,decide_true,Bool.and_self,gd_true,Option.bind_some]
   cases strEq x.2.1 c <;> rfl
  ·intro out ho
   simp (disch := omega) only [cd_neg,decide_true,Bool.and_self,gd_true,Option.bind_some]
  ·intro _
   rw [List.map_id']
   simp only [decide_true,Bool.and_self,gd_true,Nat.zero_add,Nat.le_refl,List.drop_zero,List.take_length]
 ·simp only [hv,decide_false,Bool.not_false,cond_true,if_false]
  rfl
theorem len_set' {α:Type} (l:List α) (i:Nat) (x:α):(l.set i x).length = l.length := List.length_set
theorem del_loop {step:List Ent × Int × Int → Option ((List Ent × Int × Int) ⊕ (List Ent × Int))} {L:List Ent} {k:Nat} {F:Nat} (p:Ent → Bool) (hF:L.length < F) (hk:k < L.length) (hp:(L.take (k + 1)).filter p = L.take k)
  (hgo:∀ (M:List Ent) (i j:Nat),M.length = L.length → i < j → j < L.length → step (M,(i:Int),(j:Int)) = some (.inl (if p (M.getD j dE) = true then (M.set i (M.getD j dE),((i + 1:Nat):Int),((j + 1:Nat):Int)) else (M,(i:Int),((j + 1:Nat):Int)))))
  (hend:∀ (M:List Ent) (i:Nat),M.length = L.length → i ≤ L.length → step (M,(i:Int),(L.length:Int)) = some (.inr (M,(i:Int)))) :
  ∃ (M:List Ent) (i:Nat),loopO step F (L,(k:Int),((k + 1:Nat):Int)) = some (M,(i:Int)) ∧ M.length = L.length ∧ i ≤ L.length ∧ M.take i = L.filter p := by
 have hD:(L.drop (k + 1)).length = L.length - (k + 1) := List.length_drop
 have main := loopO_sim (step := step) (L.drop (k + 1)) (fun (_:Ent) (_:Unit)=>(.inl ():Unit ⊕ Unit)) (fun _=>())
  (fun n (_:Unit) t=>∃ (M:List Ent) (i:Nat),t = (M,(i:Int),((k + 1 + n:Nat):Int)) ∧ M.length = L.length ∧ i < k + 1 + n ∧ M.take i = (L.take (k + 1 + n)).filter p ∧ M.drop (k + 1 + n) = L.drop (k + 1 + n))
  (fun (_:Unit) b=>∃ (M:List Ent) (i:Nat),b = (M,(i:Int)) ∧ M.length = L.length ∧ i ≤ L.length ∧ M.take i = L.filter p) ?_ ?_ F 0 () (L,(k:Int),((k + 1:Nat):Int)) (Nat.zero_le _) ⟨L,k,rfl,rfl,by omega,by rw [Nat.add_zero,hp],rfl⟩ (by omega)
 ·obtain ⟨b,h1,M,i,h2,h3,h4,h5⟩ := main
  exact ⟨M,i,h2 ▸ h1,h3,h4,h5⟩
 ·rintro n x _ _ hn hx ⟨M,i,rfl,a1,a2,a3,a4⟩
  have hj:k + 1 + n < L.length := by omega
  rw [List.getElem?_drop] at hx
  have hM:M.getD (k + 1 + n) dE = x := by
   have:M[k + 1 + n]? = L[k + 1 + n]? := by
    have q := congrArg (fun l:List Ent=>l[0]?) a4
    simp only [List.getElem?_drop,Nat.add_zero] at q
    exact q
   rw [← this] at hx
   exact getD_some hx
  have ht:L.take (k + 1 + (n + 1)) = L.take (k + 1 + n) ++ [x] := by
   rw [show k + 1 + (n + 1) = k + 1 + n + 1 from rfl,List.take_add_one,hx]
   rfl
  have a4':M.drop (k + 1 + (n + 1)) = L.drop (k + 1 + (n + 1)) := by
   have q := congrArg (List.drop 1) a4
   rw [List.drop_drop,List.drop_drop] at q
   exact q
  refine ⟨_,hgo M i (k + 1 + n) a1 a2 hj,?_⟩
  rw [hM]
  cases hx2:p x with
  | true =>
   refine ⟨M.set i x,i + 1,rfl,by rw [len_set',a1],by omega,?_,?_⟩
   ·rw [ht,List.filter_append,List.filter_cons,if_pos hx2,← a3,List.take_add_one]
    rw [List.take_set_of_le (Nat.le_refl _),List.getElem?_set_self (by omega)]
    rfl
   ·rw [List.drop_set_of_lt (by omega)]
    exact a4'
  | false =>
   refine ⟨M,i,rfl,a1,by omega,?_,a4'⟩
   rw [ht,List.filter_append,List.filter_cons]
   simp [hx2,a3]
 ·rintro _ _ ⟨M,i,rfl,a1,a2,a3,a4⟩
  have hq:k + 1 + (L.drop (k + 1)).length = L.length := by omega
  rw [hq] at a2 a3 ⊢
  refine ⟨_,hend M i a1 (by omega),M,i,rfl,a1,by omega,?_⟩
  rw [a3,List.take_length]
theorem idxI_first {α:Type} {p:α → Bool}:∀ {l:List α} {k:Nat},idxI p l = (k:Int) → k < l.length ∧ (l.take (k + 1)).filter (fun x=>!p x) = l.take k
 | [],k,h=>by rw [idxI_nil] at h; omega
 | y :: l,k,h=>by
  cases hy:p y with
  | true =>
   rw [idxI_pos l hy] at h
   obtain rfl:k = 0 := by omega
   simp [hy]
  | false =>
   rw [idxI_neg l hy] at h
   by_cases h0:0 ≤ idxI p l
   ·rw [if_pos h0] at h
    obtain ⟨k,rfl⟩:∃ j,k = j + 1 := ⟨k - 1,by omega⟩
    obtain ⟨i1,i2⟩ := idxI_first (p := p) (l := l) (k := k) (by omega)
    refine ⟨by simp; omega,?_⟩
    rw [List.take_succ_cons,List.filter_cons,List.take_succ_cons,i2]
    simp [hy]
   ·rw [if_neg h0] at h; omega
theorem idxI_none {α:Type} {p:α → Bool}:∀ {l:List α},idxI p l < 0 → l.filter (fun x=>!p x) = l
 | [],_=>rfl
 | y :: l,h=>by
  cases hy:p y with
  | true=>rw [idxI_pos l hy] at h; omega
  | false =>
   rw [idxI_neg l hy] at h
   by_cases h0:0 ≤ idxI p l
   ·rw [if_pos h0] at h; omega
   ·rw [List.filter_cons,idxI_none (by omega)]
    simp [hy]
theorem x207u {F:Nat} {L:List Ent} (hF:L.length < F) (hl:L.length ≤ 300):cx207_2 F L = some (idxI (fun e=>!e.2.2.2.2.2.2) L) := by
 unfold cx207_2
 simp only [tE]
 refine bind_idx L _ hF ?_ ?_
 ·intro i x hi hx
  simp (disch := omega) only [cd_pos,gd_dec,Int.toNat_natCast,getD_some hx,w64_in,Nat.zero_add]
  cases x.2.2.2.2.2.2 <;> rfl
 ·simp (disch := omega) only [cd_neg]
theorem selC_sort (s:St3) (c:ByteArray):sortR (selC s c true) = (sortR (selE s c)).filter fun e=>!!e.2.2.2.2.2.2 := by
 rw [sortR_filter]
 unfold selC selE
 rw [List.filter_filter]
 congr 1
 refine List.filter_congr fun x _=>?_
 cases strEq x.2.1 c <;> cases x.2.2.2.2.2.2 <;> rfl
theorem del_bind {γ:Type} {step:List Ent × Int × Int → Option ((List Ent × Int × Int) ⊕ (List Ent × Int))} {L:List Ent} {k:Nat} {F:Nat} {K:List Ent × Int → Option γ} {r:Option γ} (p:Ent → Bool) (hF:L.length < F) (hk:k < L.length) (hp:(L.take (k + 1)).filter p = L.take k)
  (hgo:∀ (M:List Ent) (i j:Nat),M.length = L.length → i < j → j < L.length → step (M,(i:Int),(j:Int)) = some (.inl (if p (M.getD j dE) = true then (M.set i (M.getD j dE),((i + 1:Nat):Int),((j + 1:Nat):Int)) else (M,(i:Int),((j + 1:Nat):Int)))))
  (hend:∀ (M:List Ent) (i:Nat),M.length = L.length → i ≤ L.length → step (M,(i:Int),(L.length:Int)) = some (.inr (M,(i:Int))))
  (hK:∀ (M:List Ent) (i:Nat),M.length = L.length → i ≤ L.length → M.take i = L.filter p → K (M,(i:Int)) = r):Option.bind (loopO step F (L,(k:Int),((k + 1:Nat):Int))) K = r := by
 obtain ⟨M,i,q1,q2,q3,q4⟩ := del_loop p hF hk hp hgo hend
 rw [q1]
 exact hK M i q2 q3 q4
theorem idxI_m1 {α:Type} {p:α → Bool} {l:List α} (h:idxI p l < 0):idxI p l = -1 := by
 unfold idxI at *
 cases e:l.findIdx? p with
 | none=>rfl
 | some k=>rw [e] at h; simp at h; omega
theorem l69 {F:Nat} (hF:400 ≤ F) {m:Mt} (hm:m.2.2.2.2.length ≤ 300) (hb:∀ x ∈ m.2.2.2.2,x.1.size ≤ 300 ∧ x.2.2.1.size ≤ 300) {s:St3} (h:ShS s) (c:ByteArray) :
  c69 F (m,s,c) = some (if openE m s c false = 0 then ((divL s (cAt m c).2.2.2.2.2.1 (cAt m c).2.2.2.2.2.2.1 (sortR (selC s c true))).2.1,0) else ([],openE m s c false)) := by
 have e:∀ y:Ent,y :: nilT Ent = [y] := fun _=>rfl
 have h1 := h.sm.e
 unfold c69
 simp only [tE,peta,l137 hF hm hb h.sm,Option.bind_some]
 by_cases hv:openE m s c false = 0
 ·obtain ⟨v1,v2⟩ := openE_st hv
  have h20 := st_few v1 h
  simp only [hv,decide_true,Bool.not_true,cond_false,if_true,ctOf_at v2]
  refine bind_sel s.2.2.2.1 (fun x=>strEq x.2.1 c) (fun x=>x) (by omega) ?_ ?_ ?_
  ·intro i x out hi hx ho
   have hl2:(out ++ [x]).length ≤ 301 := by simp; omega
   simp (disch := omega) only [cd_pos,gd_dec,Int.toNat_natCast,getD_some hx,w64_in,e,decide_true,Bool.and_self,gd_true,Option.bind_some]
   cases strEq x.2.1 c
   ·simp [gd_true]
   ·simp only [cond_true,if_true,Option.bind_some]
  ·intro out ho
   simp (disch := omega) only [cd_neg,decide_true,Bool.and_self,gd_true,Option.bind_some]
  ·intro _
   rw [List.map_id']
   have hs := sortR_len (selE s c)
   have hsl := selE_len s c
   have e2 := x203 hF (L := selE s c) (by omega) (st_all v1 c selE_mem)
   unfold selE at hs e2 hsl
   simp only [decide_true,Bool.and_self,gd_true,Option.bind_some,e2]
   rw [selC_sort]
   unfold selE
   rw [← hs]
   have hk:∀ x ∈ sortR (List.filter (fun e=>strEq e.2.1 c) s.2.2.2.1),0 ≤ aI s x.1 := fun x hx=>list_known (c := c) v1 x hx
   have hl3:(sortR (List.filter (fun e=>strEq e.2.1 c) s.2.2.2.1)).length ≤ 20 := by omega
   generalize sortR (List.filter (fun e=>strEq e.2.1 c) s.2.2.2.1) = L at hk hl3
   simp only [decide_true,Bool.and_self,gd_true,Option.bind_some,x207u (F := F) (L := L) (by omega) (by omega),List.take_length]
   by_cases hi:idxI (fun e:Ent=>!e.2.2.2.2.2.2) L < 0
   ·have hi' := idxI_m1 hi
    have hf := idxI_none hi
    simp only [hi',decide_true,cond_true,hf,l138 hF h.sm (cAt m c) (show L.length ≤ 300 by omega) hk,Option.bind_some,if_true]
   ·obtain ⟨k,x,k1,k2,-,-⟩ := idxI_get (p := fun e:Ent=>!e.2.2.2.2.2.2) (l := L) (by omega)
    obtain ⟨-,k3⟩ := idxI_first k1
    have hne:¬ ((k:Nat):Int) = -1 := by omega
    simp only [k1,hne,decide_false,cond_false]
    rw [show w64 ((k:Int) + 1) = ((k + 1:Nat):Int) by rw [w64_in (by omega) (by omega)]; rfl]
    refine del_bind (fun e:Ent=>!!e.2.2.2.2.2.2) (by omega) k2 k3 ?_ ?_ ?_
    ·intro M i j n1 n2 n3
     simp (disch := omega) only [cd_pos,gd_dec,Int.toNat_natCast,Nat.zero_add,w64_in]
     cases (M.getD j dE).2.2.2.2.2.2
     ·rfl
     ·rfl
    ·intro M i n1 n2
     simp (disch := omega) only [cd_neg]
    ·intro M i n1 n2 n3
     have t1:∀ z:Ent,List.take i (List.take i M ++ List.replicate (L.length - i) z ++ List.drop (i + (L.length - i)) M) = L.filter fun e=>!!e.2.2.2.2.2.2 := fun z=>by
      rw [List.append_assoc,List.take_append_of_le_length (by rw [List.length_take]; omega),List.take_take,Nat.min_self,n3]
     have t2:i = (L.filter fun e=>!!e.2.2.2.2.2.2).length := by rw [← n3,List.length_take]; omega
     have t3:∀ x ∈ L.filter (fun e=>!!e.2.2.2.2.2.2),0 ≤ aI s x.1 := fun x hx=>hk x (List.mem_filter.1 hx).1
     simp (disch := omega) only [gd_dec,Int.toNat_natCast,Nat.zero_add,Nat.sub_zero,t1]
     rw [← t2]
     simp only [decide_true,Bool.and_self,gd_true,l138 hF h.sm (cAt m c) (show (L.filter fun e=>!!e.2.2.2.2.2.2).length ≤ 300 by omega) t3,Option.bind_some,if_true]
 ·simp only [hv,decide_false,Bool.not_false,cond_true,if_false]
  rfl
theorem beqB' (b:ByteArray):(b == b) = true := by
 cases b with
 | mk d =>
  show (d == d) = true
  simp
theorem l74 {F:Nat} {l:List Ent} (hF:l.length < F) (hl:l.length ≤ 100000):c74 F (l,l) = some true := by
 unfold c74
 simp only [tE,decide_true,Bool.not_true,cond_false]
 refine bind_list l (fun (_:Unit) i=>(i:Int)) (fun _ _=>(.inl ():Unit ⊕ (Bool ⊕ Unit))) (fun _=>.inr ()) (fun _ _=>True) () hF rfl trivial ?_ ?_ ?_
 ·intro i x _ hi hx _
  refine ⟨?_,fun _ _=>trivial⟩
  simp (disch := omega) only [cd_pos,gd_dec,Int.toNat_natCast,getD_some hx,w64_in,beqB',decide_true,beq_self_eq_true,Bool.and_self,Bool.not_true,cond_false]
  rfl
 ·intro _ _
  simp (disch := omega) only [cd_neg]
 ·rw [goL_unit]
  rfl
theorem l75 {F:Nat} {l:List Ent} (hF:l.length < F) (hl:l.length ≤ 1000):c75 F l = some l := by
 have e:∀ y:Ent,y :: nilT Ent = [y] := fun _=>rfl
 unfold c75
 simp only [tE,peta]
 refine bind_list l (fun out i=>(out,(i:Int))) (fun x out=>.inl (out ++ [x])) (fun out=>out) (fun i out=>out.length = i) (nilT Ent) hF rfl rfl ?_ ?_ ?_
 ·intro i x out hi hx ho
  have hl2:(out ++ [x]).length = i + 1 := by simp [ho]
  refine ⟨?_,fun s' hs=>?_⟩
  ·simp (disch := omega) only [cd_pos,gd_dec,Int.toNat_natCast,getD_some hx,w64_in,e,hl2,ho,decide_true,Bool.and_self,gd_true,Option.bind_some]
   rfl
  ·simp only [Sum.inl.injEq] at hs
   subst hs
   exact hl2
 ·intro out ho
  simp (disch := omega) only [cd_neg,ho,decide_true,Bool.and_self,gd_true,Option.bind_some]
 ·rw [goL_append (fun x:Ent=>x)]
  simp [nilT,gd_true]
theorem l76 {F:Nat} (hF4:400 ≤ F) {l:List Tm} (hF:l.length < F) (hl:l.length ≤ 100000) (hr:∀ x ∈ l,x.2.2.length ≤ 300):c76 F (l,l) = some true := by
 have hd:(ByteArray.empty,ByteArray.empty,nilT ByteArray) = dT := rfl
 unfold c76
 simp only [hd,decide_true,Bool.not_true,cond_false]
 refine bind_list l (fun (_:Unit) i=>(i:Int)) (fun _ _=>(.inl ():Unit ⊕ (Bool ⊕ Unit))) (fun _=>.inr ()) (fun _ _=>True) () hF rfl trivial ?_ ?_ ?_
 ·intro i x _ hi hx _
  refine ⟨?_,fun _ _=>trivial⟩
  have hn := hr x (List.mem_of_getElem? hx)
  simp (disch := omega) only [cd_pos,gd_dec,Int.toNat_natCast,getD_some hx,w64_in,strEq_self,l44 (F := F) (l := x.2.2) (by omega) (by omega),Option.bind_some,Bool.not_true,cond_false]
  rfl
 ·intro _ _
  simp (disch := omega) only [cd_neg]
 ·rw [goL_unit]
  rfl
theorem l77 {F:Nat} {l:List Tm} (hF:l.length < F) (hl:l.length ≤ 1000):c77 F l = some l := by
 have e:∀ y:Tm,y :: nilT Tm = [y] := fun _=>rfl
 have hd:(ByteArray.empty,ByteArray.empty,nilT ByteArray) = dT := rfl
 unfold c77
 simp only [hd,peta]
 refine bind_list l (fun out i=>(out,(i:Int))) (fun x out=>.inl (out ++ [x])) (fun out=>out) (fun i out=>out.length = i) (nilT Tm) hF rfl rfl ?_ ?_ ?_
 ·intro i x out hi hx ho
  have hl2:(out ++ [x]).length = i + 1 := by simp [ho]
  refine ⟨?_,fun s' hs=>?_⟩
  ·simp (disch := omega) only [cd_pos,gd_dec,Int.toNat_natCast,getD_some hx,w64_in,e,hl2,ho,decide_true,Bool.and_self,gd_true,Option.bind_some]
   rfl
  ·simp only [Sum.inl.injEq] at hs
   subst hs
   exact hl2
 ·intro out ho
  simp (disch := omega) only [cd_neg,ho,decide_true,Bool.and_self,gd_true,Option.bind_some]
 ·rw [goL_append (fun x:Tm=>x)]
  simp [nilT,gd_true]
noncomputable def lx81 (F:Nat):LK := lN
noncomputable def c81 (F:Nat) (a:PUnit):Option (TMt) :=
 some (((8000:Int),(7900:Int),(7990:Int),(2:Int),({ data := List.toArray (115 :: 112 :: 114 :: 105 :: 110 :: 116 :: nilT UInt8) },{ data := List.toArray (116 :: 105 :: 109 :: 101 :: nilT UInt8) },(ByteArray.mk (List.toArray (nilT UInt8))),(16:Int),(40:Int),(2:Int),(1:Int),{ data := List.toArray (116 :: 105 :: 109 :: 101 :: nilT UInt8) },(120000:Int),(ByteArray.mk (List.toArray (nilT UInt8))),(0:Int)) :: ({ data := List.toArray (106 :: 117 :: 109 :: 112 :: nilT UInt8) },{ data := List.toArray (108 :: 101 :: 110 :: 103 :: 116 :: 104 :: nilT UInt8) },(ByteArray.mk (List.toArray (nilT UInt8))),(16:Int),(40:Int),(8:Int),(2:Int),{ data := List.toArray (110 :: 111 :: 110 :: 101 :: nilT UInt8) },(0:Int),{ data := List.toArray (78 :: 77 :: nilT UInt8) },(0:Int)) :: ({ data := List.toArray (114 :: 101 :: 108 :: 97 :: 121 :: nilT UInt8) },{ data := List.toArray (116 :: 105 :: 109 :: 101 :: nilT UInt8) },(ByteArray.mk (List.toArray (nilT UInt8))),(16:Int),(40:Int),(8:Int),(1:Int),{ data := List.toArray (110 :: 111 :: 110 :: 101 :: nilT UInt8) },(0:Int),{ data := List.toArray (78 :: 77 :: nilT UInt8) },(2:Int)) :: nilT (TCst)))
noncomputable def pc81 (F:Nat):PC := { ats := [],rts := [.agg [.int .i64,.int .i64,.int .i64,.int .i64,.seq [.str,.str,.str,.int .i64,.int .i64,.int .i64,.int .i64,.str,.int .i64,.str,.int .i64]]],code := c81 F }
theorem pc81_ok (F:Nat):PCOk cx 81 (pc81 F) := qE (lx81 F) .leaf f81 (by kernel_rfl) fun a=>by kernel_rfl
noncomputable def lx83 (F:Nat):LK := lN
noncomputable def c83 (F:Nat) (a:Int):Option (ByteArray × Int × ByteArray) :=
 some (({ data := List.toArray (116 :: 105 :: 109 :: 101 :: nilT UInt8) },w64 ((100:Int) * a),(ByteArray.mk (List.toArray (nilT UInt8)))))
noncomputable def pc83 (F:Nat):PC := { ats := [.val (.int .i64)],rts := [.agg [.str,.int .i64,.str]],code := c83 F }
theorem pc83_ok (F:Nat):PCOk cx 83 (pc83 F) := qE (lx83 F) .leaf f83 (by kernel_rfl) fun a=>by kernel_rfl
end Go.Proofs.Tryz
