/- awake: the program run at its fixed examples returns true Functions of the program as functions of data. By program. And further parts. -/
import Derived.Test.YtpkbmngnolhopaaGreatDoorXTeW2
import Derived.Test.YtpkbmngnolhopaaGreatDoorXT3q
import Derived.Test.YtpkbmngnolhopaaGreatDoorXTeB4
import Derived.Test.YtpkbmngnolhopaaGreatDoorXT3f
set_option maxRecDepth 1000000
set_option linter.unusedVariables false
set_option linter.all false
set_option linter.unusedSimpArgs false
namespace Go.Proofs.Tryz
open Go Go.Sx
noncomputable def lxB:Lx := { ext := [(82,pf82.sm),(29,k_rep.sm),(52,(k_acc.at a_acc2 y_acc2).sm),(56,k_res.sm),(50,(((k_nxt.at a_nxt2 y_nxt2).at a_nxt3 y_nxt3).at a_nxt4 y_nxt4).sm),(49,((k_leg1.at a_leg2 y_leg2).at a_leg3 y_leg3).sm),(37,k_cla.sm),(38,k_clu.sm),(36,k_con.sm),(69,k_sta.sm),(46,k_cha.sm),(81,(pc81 400).sm),(83,(pc83 400).sm),(63,(pc63 400).sm),(44,(pc44 400).sm),(45,(pc45 400).sm)],anns := [(2000029,.leaf),(2000046,.leaf),(2000049,.leaf),(2000050,.leaf)],still := [] }
theorem lxB_ok:lxB.Ok cx.bare := Lx.ok_cons (PF.sm_ok pf82_ok) (Lx.ok_cons (PC.sm_ok k_rep_ok) (Lx.ok_cons (PC.sm_ok (PCOk.at2 (pc := k_acc) k_acc_ok (a0 := a_acc2) (y0 := y_acc2) k_acc2_ok)) (Lx.ok_cons (PC.sm_ok k_res_ok) (Lx.ok_cons (PC.sm_ok (PCOk.at2 (pc := ((k_nxt.at a_nxt2 y_nxt2).at a_nxt3 y_nxt3)) (PCOk.at2 (pc := (k_nxt.at a_nxt2 y_nxt2)) (PCOk.at2 (pc := k_nxt) k_nxt_ok (a0 := a_nxt2) (y0 := y_nxt2) k_nxt2_ok) (a0 := a_nxt3) (y0 := y_nxt3) k_nxt3_ok) (a0 := a_nxt4) (y0 := y_nxt4) k_nxt4_ok)) (Lx.ok_cons (PC.sm_ok (PCOk.at2 (pc := (k_leg1.at a_leg2 y_leg2)) (PCOk.at2 (pc := k_leg1) k_leg1_ok (a0 := a_leg2) (y0 := y_leg2) k_leg2_ok) (a0 := a_leg3) (y0 := y_leg3) k_leg3_ok)) (Lx.ok_cons (PC.sm_ok k_cla_ok) (Lx.ok_cons (PC.sm_ok k_clu_ok) (Lx.ok_cons (PC.sm_ok k_con_ok) (Lx.ok_cons (PC.sm_ok k_sta_ok) (Lx.ok_cons (PC.sm_ok k_cha_ok) (Lx.ok_cons (PC.sm_ok (pc81_ok 400).bare) (Lx.ok_cons (PC.sm_ok (pc83_ok 400).bare) (Lx.ok_cons (PC.sm_ok (pc63_ok 400).bare) (Lx.ok_cons (PC.sm_ok (pc44_ok 400).bare) (Lx.ok_cons (PC.sm_ok (pc45_ok 400).bare) (Lx.ok_nil))))))))))))))))
noncomputable def c20 (F:Nat) (a:Unit):Option Bool := some true
noncomputable def pc20 (F:Nat):PC := { ats := [],rts := [.val .bool],code := c20 F }
theorem aw_eq:codeOf cx.bare lxB 3000 .leaf f20 (bodyOf f20) [] [.val .bool] () = some true := by kernel_rfl
theorem pc20_ok (F:Nat):PCOk cx 20 (pc20 F) := PCOk.full (PCOk.of_eval (Cx.bare_ok cx_ok) lxB_ok (n := 3000) (an := .leaf) (fn := f20) (c := bodyOf f20) (by kernel_rfl) (by kernel_rfl) (fun a y h=>aw_eq.trans h) (by kernel_rfl))
end Go.Proofs.Tryz
section
namespace Go.Proofs.Tryz
open Go Go.Sx
noncomputable section
end
end Go.Proofs.Tryz
end
section
namespace Go.Proofs.Tryz
open Go Go.Sx
end Go.Proofs.Tryz
end
section
namespace Go.Sx
open Go
theorem PCOk.cases {cx:Cx} {g:Nat} {ats rts:List ATy} {p:AEls ats → Bool} {c q:AEls ats → Option (AEls rts)} (h1:PCOk cx g { ats := ats,rts := rts,code := fun a=>bif p a then c a else none })
  (h2:PCOk cx g { ats := ats,rts := rts,code := q }):PCOk cx g { ats := ats,rts := rts,code := fun a=>bif p a then c a else q a } :=
 ⟨h1.fn,fun a y hy=>by
  have hy:(bif p a then c a else q a) = some y := hy
  cases e:p a with
  | true =>
   rw [e] at hy
   exact h1.ok a y (by show (bif p a then c a else none) = some y; rw [e]; exact hy)
  | false =>
   rw [e] at hy
   exact h2.ok a y hy⟩
end Go.Sx
namespace Go.Proofs.Tryz
open Go Go.Sx
end Go.Proofs.Tryz
end
section
namespace Go.Proofs.Tryz
open Go Go.Sx
end Go.Proofs.Tryz
end
section

end
namespace Go.Proofs.Tryz
open Go Go.Sx
noncomputable def lx13 (F:Nat):LK := lC (pc17_ok F) (lC (pc18_ok F) (lC (pc20_ok F) (lC (pc52_ok F) (lC (pc69_ok F) (lC (pc26_ok F) (lC (pc47_ok F) (lC (pc39_ok F) (lC (pc30_ok F) (lC (pc75_ok F) (lC (pc74_ok F) (lC (pc44_ok F) (lC (pc77_ok F) (lC (pc76_ok F) (lC (pc73_ok F) (lC (pc71_ok F) (lC (pc72_ok F) (lC (pc70_ok F) (lC (pc56_ok F) (lC (pc55_ok F) (lC (pc16_ok F) (lC (pc15_ok F) lN)))))))))))))))))))))
noncomputable def cv13 (F:Nat) (a:(TMt) × (TSt) × ByteArray) (x0:TMt) (x1:TSt):Option (Bool) :=
 ((c17 F x0).bind fun (u2:Bool)=>bif !u2 then (some (true)) else ((c18 F x1).bind fun (u3:Bool)=>bif !u3 then (some (true)) else (some (decide (60 < (↑(ByteArray.size a.2.2):Int)))))).bind fun (u4:Bool)=>bif u4 then (some (true)) else ((c55 F (a.1,a.2.1,a.2.2)).bind fun (u5:List (TEnt) × Int)=>(c52 F (a.1,a.2.1,a.2.2)).bind fun (u6:List ByteArray × Int)=>(c56 F (a.1,a.2.1,a.2.2)).bind fun (u7:List ByteArray × Int)=>(c69 F (a.1,a.2.1,a.2.2)).bind fun (u8:List ByteArray × Int)=>(c70 F (a.1,a.2.1,a.2.2)).bind fun (u9:List (TTm) × Int)=>(c26 F (x0,x1.1,x1.2.1,x1.2.2.1,x1.2.2.2.1,x1.2.2.2.2)).bind fun (u10:Int)=>(c47 F (x0,a.2.2)).bind fun (u11:Int)=>(c39 F (decide (u11 < 0),(10:Int))).bind fun (u12:Int)=>(c30 F (u10 :: u12 :: nilT Int)).bind fun (u13:Int)=>(bif decide (u13 = 0) then ((c47 F (x0,a.2.2)).bind fun (u14:Int)=>gd (decide (0 ≤ u14)) (gd (decide (u14 < (↑(x0.2.2.2.2.length):Int))) (gd (decide (u14.toNat < x0.2.2.2.2.length)) (some (decide (0 < Prod.snd (Prod.snd (Prod.snd (Prod.snd (Prod.snd (Prod.snd (Prod.snd (Prod.snd (Prod.snd (Prod.snd (x0.2.2.2.2.getD (u14.toNat) zCst)))))))))))))))) else (some (false))).bind fun (u15:Bool)=>(c39 F (u15,(13:Int))).bind fun (u16:Int)=>(c30 F (u13 :: u16 :: nilT Int)).bind fun (u17:Int)=>(c39 F (!u15,(13:Int))).bind fun (u18:Int)=>(c30 F (u13 :: u18 :: nilT Int)).bind fun (u19:Int)=>(bif decide (u17 = 0) then ((c71 F (x1,a.2.2,false)).bind fun (u20:List (TEnt))=>(c72 F (x0,x1,a.2.2,false)).bind fun (u21:List ByteArray × List ByteArray)=>(c72 F (x0,x1,a.2.2,true)).bind fun (u22:List ByteArray × List ByteArray)=>some ((u20,u21.1,u21.2,u22.1))) else (some ((nilT (TEnt),nilT ByteArray,nilT ByteArray,nilT ByteArray)))).bind fun (u23:List (TEnt) × List ByteArray × List ByteArray × List ByteArray)=>(bif decide (u19 = 0) then ((c73 F (x1,a.2.2)).bind fun (u24:List (TTm))=>some (u24)) else (some (nilT (TTm)))).bind fun (u25:List (TTm))=>(bif decide (u5.2 = u17) then (bif decide (u6.2 = u17) then (bif decide (u7.2 = u17) then (bif decide (u8.2 = u17) then (bif decide (u9.2 = u19) then ((c75 F u5.1).bind fun (u26:List (TEnt))=>(c74 F (u26,u23.1)).bind fun (u27:Bool)=>bif u27 then ((c44 F (u6.1,u23.2.1)).bind fun (u28:Bool)=>bif u28 then ((c44 F (u7.1,u23.2.2.1)).bind fun (u29:Bool)=>bif u29 then ((c44 F (u8.1,u23.2.2.2)).bind fun (u30:Bool)=>bif u30 then ((c77 F u9.1).bind fun (u31:List (TTm))=>(c76 F (u31,u25)).bind fun (u32:Bool)=>bif u32 then (some (true)) else (some (false))) else (some (false))) else (some (false))) else (some (false))) else (some (false))) else (some (false))) else (some (false))) else (some (false))) else (some (false))) else (some (false))).bind fun (u33:Bool)=>some (u33))
noncomputable def c13 (F:Nat) (a:(TMt) × (TSt) × ByteArray):Option (Bool) :=
 ((c15 F a.1).bind fun (v711:TMt)=>((c16 F a.2.1).bind fun (v852:TSt)=>tw (X := Bool) (AEls.eqv (ATy.val Ty.bool :: nilT ATy)) (cv13 F a v711 v852)).bind fun (v712:Bool)=>(tw (X := Bool) (AEls.eqv (ATy.val Ty.bool :: nilT ATy)) (tw (X := Bool) (AEls.eqv (ATy.val Ty.bool :: nilT ATy)) ((c16 F a.2.1).bind fun (v819:TSt)=>cv13 F a v711 v819))).bind fun (v713:Bool)=>gd (AEls.eqv (ATy.val Ty.bool :: nilT ATy) v712 v713) (some (v712))).bind fun (v497:Bool)=>(tw (X := Bool) (AEls.eqv (ATy.val Ty.bool :: nilT ATy)) (((c15 F a.1).bind fun (v642:TMt)=>tw (X := Bool) (AEls.eqv (ATy.val Ty.bool :: nilT ATy)) ((c16 F a.2.1).bind fun (v678:TSt)=>cv13 F a v642 v678)).bind fun (v606:Bool)=>((c15 F a.1).bind fun (v608:TMt)=>(c16 F a.2.1).bind fun (v609:TSt)=>cv13 F a v608 v609).bind fun (v607:Bool)=>gd (AEls.eqv (ATy.val Ty.bool :: nilT ATy) v606 v607) (some (v606)))).bind fun (v498:Bool)=>gd (AEls.eqv (ATy.val Ty.bool :: nilT ATy) v497 v498) (some (v497))
noncomputable def pc13 (F:Nat):PC := { ats := [.agg [.int .i64,.int .i64,.int .i64,.int .i64,.seq [.str,.str,.str,.int .i64,.int .i64,.int .i64,.int .i64,.str,.int .i64,.str,.int .i64]],.agg [.seq [.str],.seq [.str,.str,.int .i64,.str],.seq [.str,.int .i64,.int .i64],.seq [.str,.str,.str,.int .i64,.str,.int .i64,.bool],.seq [.str,.str,.seq [.str]]],.val (.str)],rts := [.val (.bool)],code := c13 F }
theorem pc13_ok (F:Nat):PCOk cx 13 (pc13 F) := qE (lx13 F) (.two .leaf (.two .leaf (.two (.two (.join [(.normal,⟨[.slot 44 (.val (.bool))],[]⟩)] ⟨[44,43,42,41,40,39,38,37,36,35,34,33,32],[],[]⟩ .leaf) .leaf) (.two .leaf (.two .leaf (.two .leaf (.two .leaf (.two .leaf (.two .leaf (.two (.join [(.normal,⟨[.slot 20 (.val (.bool))],[]⟩)] ⟨[20,103,102,101,100,99,98,97,96,95,94,93,92,91],[],[]⟩ .leaf) (.two .leaf (.two .leaf (.two .leaf (.two (.two .leaf (.join [(.normal,⟨[.slot 23 (.val (.seq [.str,.str,.str,.int .i64,.str,.int .i64,.bool])),.slot 24 (.val (.seq [.str])),.slot 25 (.val (.seq [.str])),.slot 26 (.val (.seq [.str]))],[]⟩)] ⟨[121,122,123,124,120,125,126,24,25,26,133,132,127,131,130,129,128,23,119,118,117],[],[]⟩ .leaf)) (.two .leaf (.two (.two .leaf (.join [(.normal,⟨[.slot 27 (.val (.seq [.str,.str,.seq [.str]]))],[]⟩)] ⟨[27,138,137,136],[],[]⟩ .leaf)) (.two (.join [(.normal,⟨[.slot 6 (.val (.bool))],[]⟩)] ⟨[6,191,190,189,188,187,186,185,184,183,182,181,180,179,178,177,176,175,174,173,172,171,170,169,168,167,166,165,164,163,162,161,160,159,158,157,156,155,154,153,152,151,150,149,148,147,146,145,144,143,142,141,140,139],[],[]⟩ .leaf) .leaf))))))))))))))))) f13 (by kernel_rfl) fun a=>by kernel_rfl
def badE (m:Mt) (s:St3) (c:ByteArray):Int := firstNZ [stE m s,if cI m c < 0 then 10 else 0]
def relB (m:Mt) (c:ByteArray):Bool := decide (0 < (ctOf m c).2.2.2.2.2.2.2.2.2.2)
theorem openE_bad (m:Mt) (s:St3) (c:ByteArray) (r:Bool):openE m s c r = if badE m s c = 0 then (if (relB m c == r) = true then 0 else 13) else badE m s c := by
 unfold openE badE relB
 generalize stE m s = x
 by_cases h1:x = 0
 ·subst h1
  by_cases h2:cI m c < 0
  ·simp [h2,firstNZ]
  ·simp [h2,firstNZ]
 ·simp [h1,firstNZ]
theorem divL_len (s:St3) (P C:Int) (L:List Ent):(divL s P C L).1.length + (divL s P C L).2.1.length = L.length := by
 have h:∀ (L:List Ent) (d:Dv),(L.foldl (divS s P C) d).1.length + (L.foldl (divS s P C) d).2.1.length = d.1.length + d.2.1.length + L.length := by
  intro L
  induction L with
  | nil=>intro d; rfl
  | cons x L ih =>
   intro d
   rw [List.foldl_cons,ih,(divS_len s P C d x).1,List.length_cons]
   omega
 have := h L ([],[],[])
 unfold divL
 simpa using this
theorem cv13_true {F:Nat} {m:Mt} {s:St3} {x:ByteArray} (hF:100000 ≤ F) (hm:m.2.2.2.2.length < F) (hmb:m.2.2.2.2.length * 128 ≤ 140737488355328) (f:FitS F s) (hb:ByS s):cv13 F (m,s,x) m s = some true := by
 have hF4:400 ≤ F := by omega
 have hd:zCst = dC := rfl
 obtain ⟨b1,h1,h1'⟩ := l17 hm hmb
 obtain ⟨b2,h2,h2'⟩ := l18 f hb
 unfold cv13
 simp only [peta,h1,h2,Option.bind_some]
 cases b1 with
 | false=>rfl
 | true =>
  cases b2 with
  | false=>rfl
  | true =>
   have hM := h1' rfl
   have hH := h2' rfl
   have hS := hH.sm
   by_cases hx:(60:Int) < x.size
   ·simp only [hx,Bool.not_true,cond_false,decide_true,cond_true,Option.bind_some]
   ·have e30:∀ a b,c30 F (a :: b :: nilT Int) = some (firstNZ [a,b]) := fun a b=>l30 (by simp [nilT]; omega) (by simp [nilT])
    have e47:c47 F (m,x) = some (cI m x) := l47 hm (by have := hM.n; omega) x
    simp only [hx,Bool.not_true,cond_false,decide_false,Option.bind_some,l55 hF4 hM.len hM.bd hH,l52 hF4 hM.len hM.bd hH,l56 hF4 hM.len hM.bd hH,l69 hF4 hM.len hM.bd hH,l70 hF4 hM.len hM.bd hH,l26 hF4 hM.len hS,e47,l39,e30,hd,decide_eq_true_eq]
    rw [show firstNZ [stE m s,if cI m x < 0 then 10 else 0] = badE m s x from rfl]
    simp only [openE_bad]
    by_cases hz:badE m s x = 0
    ·have v1:stE m s = 0 := firstNZ_zero hz _ (by simp)
     have v2:0 ≤ cI m x := by
      have h3 := firstNZ_zero hz (if cI m x < 0 then 10 else 0) (by simp)
      by_cases h4:cI m x < 0
      ·simp [h4] at h3
      ·omega
     obtain ⟨j,y,j1,j2,-,-⟩ := idxI_get v2
     have j1':cI m x = (j:Int) := j1
     have hC:m.2.2.2.2.getD j dC = cAt m x := by unfold cAt; rw [j1']; rfl
     have hR:decide (0 < (cAt m x).2.2.2.2.2.2.2.2.2.2) = relB m x := by unfold relB; rw [ctOf_at v2]
     have w1 := list_len hH v1 x
     have w2 := divL_len s (cAt m x).2.2.2.2.2.1 (cAt m x).2.2.2.2.2.2.1 (listS s x)
     have w3 := divL_len s (cAt m x).2.2.2.2.2.1 (cAt m x).2.2.2.2.2.2.1 (sortR (selC s x true))
     have w4 := sortR_len (selC s x true)
     have w5 := selC_len s x true
     have w6 := st_few v1 hH
     have w7:(s.2.2.2.2.filter fun t=>strEq t.2.1 x).length ≤ 300 := by have := List.length_filter_le (fun t:Tm=>strEq t.2.1 x) s.2.2.2.2; have := hS.t; omega
     have w8:∀ t ∈ s.2.2.2.2.filter (fun t=>strEq t.2.1 x),t.2.2.length ≤ 300 := fun t ht=>by
      have := (hH.ts t (List.mem_filter.1 ht).1).2.2.1
      omega
     have e71:c71 F (s,x,false) = some (listS s x) := by
      rw [l71 hF4 hS (st_all v1 x selC_mem),selC_false]; rfl
     have e72:c72 F (m,s,x,false) = some ((dvOf m s x).2.1,(dvOf m s x).1) := by
      rw [l72 hF4 hM.len hS v2 (st_all v1 x selC_mem) (fun y hy=>st_known v1 hy),selC_false]; rfl
     have e72t := l72 hF4 hM.len hS v2 (k := true) (st_all v1 x selC_mem) (fun y hy=>st_known v1 hy)
     have e73 := l73 hF4 hS x
     have q1:c74 F (listS s x,listS s x) = some true := l74 (by omega) (by omega)
     have q2:c75 F (listS s x) = some (listS s x) := l75 (by omega) (by omega)
     have q3:c76 F (s.2.2.2.2.filter (fun t=>strEq t.2.1 x),s.2.2.2.2.filter (fun t=>strEq t.2.1 x)) = some true := l76 hF4 (Nat.lt_of_le_of_lt w7 (by omega)) (Nat.le_trans w7 (by omega)) w8
     have q4:c77 F (s.2.2.2.2.filter (fun t=>strEq t.2.1 x)) = some (s.2.2.2.2.filter (fun t=>strEq t.2.1 x)) := l77 (Nat.lt_of_le_of_lt w7 (by omega)) (Nat.le_trans w7 (by omega))
     have q5:c44 F ((dvOf m s x).2.1,(dvOf m s x).2.1) = some true := l44 (by unfold dvOf; omega) (by unfold dvOf; omega)
     have q6:c44 F ((dvOf m s x).1,(dvOf m s x).1) = some true := l44 (by unfold dvOf; omega) (by unfold dvOf; omega)
     have q7:c44 F ((divL s (cAt m x).2.2.2.2.2.1 (cAt m x).2.2.2.2.2.2.1 (sortR (selC s x true))).2.1,(divL s (cAt m x).2.2.2.2.2.1 (cAt m x).2.2.2.2.2.2.1 (sortR (selC s x true))).2.1) = some true := l44 (by omega) (by omega)
     have r1:c44 F (nilT ByteArray,nilT ByteArray) = some true := l44 (by show 0 < F; omega) (by show 0 ≤ 100000; omega)
     have r2:c74 F (nilT Ent,nilT Ent) = some true := l74 (by show 0 < F; omega) (by show 0 ≤ 100000; omega)
     have r3:c75 F (nilT Ent) = some (nilT Ent) := l75 (by show 0 < F; omega) (by show 0 ≤ 1000; omega)
     have r4:c76 F (nilT Tm,nilT Tm) = some true := l76 hF4 (by show 0 < F; omega) (by show 0 ≤ 100000; omega) (fun _ h=>by cases h)
     have r5:c77 F (nilT Tm) = some (nilT Tm) := l77 (by show 0 < F; omega) (by show 0 ≤ 1000; omega)
     have n1:([]:List ByteArray) = nilT ByteArray := rfl
     have n2:([]:List Ent) = nilT Ent := rfl
     have n3:([]:List Tm) = nilT Tm := rfl
     simp (disch := omega) only [hz,decide_true,cond_true,j1',gd_dec,Int.toNat_natCast,hC,hR,Option.bind_some,if_true]
     cases hr:relB m x
     ·have z1:firstNZ [0,if false = true then 13 else 0] = 0 := rfl
      have z2:firstNZ [0,if (!false) = true then 13 else 0] = 13 := rfl
      have z3:firstNZ [0,0] = 0 := rfl
      have z4:firstNZ [0,13] = 13 := rfl
      have b1:(false == false) = true := rfl
      have b2:(false == true) = false := rfl
      have b3:¬ (13:Int) = 0 := by decide
      simp only [z1,z2,z3,z4,b1,b2,b3,e71,e72,e72t,e73,decide_true,decide_false,cond_true,cond_false,if_true,if_false,Bool.false_eq_true,Option.bind_some,q1,q2,q5,q6,q7,n1,n2,n3,r1,r2,r3,r4,r5]
     ·have z1:firstNZ [0,if true = true then 13 else 0] = 13 := rfl
      have z2:firstNZ [0,if (!true) = true then 13 else 0] = 0 := rfl
      have z3:firstNZ [0,0] = 0 := rfl
      have z4:firstNZ [0,13] = 13 := rfl
      have b1:(true == false) = false := rfl
      have b2:(true == true) = true := rfl
      have b3:¬ (13:Int) = 0 := by decide
      simp only [z1,z2,z3,z4,b1,b2,b3,e73,decide_true,decide_false,cond_true,cond_false,if_true,if_false,Bool.false_eq_true,Option.bind_some,q3,q4,n1,n2,n3,r1,r2,r3,r4,r5]
    ·have fz:∀ l,firstNZ (badE m s x :: l) = badE m s x := fun l=>if_neg hz
     have r1:c44 F (nilT ByteArray,nilT ByteArray) = some true := l44 (by show 0 < F; omega) (by show 0 ≤ 100000; omega)
     have r2:c74 F (nilT Ent,nilT Ent) = some true := l74 (by show 0 < F; omega) (by show 0 ≤ 100000; omega)
     have r3:c75 F (nilT Ent) = some (nilT Ent) := l75 (by show 0 < F; omega) (by show 0 ≤ 1000; omega)
     have r4:c76 F (nilT Tm,nilT Tm) = some true := l76 hF4 (by show 0 < F; omega) (by show 0 ≤ 100000; omega) (fun _ h=>by cases h)
     have r5:c77 F (nilT Tm) = some (nilT Tm) := l77 (by show 0 < F; omega) (by show 0 ≤ 1000; omega)
     have n1:([]:List ByteArray) = nilT ByteArray := rfl
     have n2:([]:List Ent) = nilT Ent := rfl
     have n3:([]:List Tm) = nilT Tm := rfl
     simp only [hz,fz,decide_true,decide_false,cond_true,cond_false,if_true,if_false,Option.bind_some,n1,n2,n3,r1,r2,r3,r4,r5]
theorem law13 (a:Mt × St3 × ByteArray) (hok:AEls.ok [atM,atS,.val .str] a):∃ F,c13 F a = some true := by
 obtain ⟨m,s,x⟩ := a
 obtain ⟨k1,k2,-⟩ := hok
 have hmb := okM k1
 have hb := okS k2
 obtain ⟨r1,r2,r3⟩ := roomS_ok m s
 refine ⟨roomS m s,?_⟩
 generalize roomS m s = F at r1 r2 r3
 have e15:c15 F (m.1,m.2.1,m.2.2.1,m.2.2.2.1,m.2.2.2.2) = some m := l15 r2 hmb
 have e16:c16 F (s.1,s.2.1,s.2.2.1,s.2.2.2.1,s.2.2.2.2) = some s := l16 ⟨r3.l,r3.e,r3.t⟩ ⟨hb.l,hb.e,hb.t⟩
 unfold c13 tw
 simp only [e15,e16,cv13_true r1 r2 hmb r3 hb,Option.bind_some,eqvB,gd_true]
end Go.Proofs.Tryz
