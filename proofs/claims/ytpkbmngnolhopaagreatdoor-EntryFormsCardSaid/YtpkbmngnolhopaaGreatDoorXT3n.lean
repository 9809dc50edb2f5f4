/- Plain law: CheckAct of the program, by kinds. Plain law: short acts. And further parts. -/
import Derived.Test.YtpkbmngnolhopaaGreatDoorXT3h
import Derived.Test.YtpkbmngnolhopaaGreatDoorXTeK23b
import Derived.Test.YtpkbmngnolhopaaGreatDoorXTeC
set_option maxRecDepth 100000
set_option linter.unusedVariables false
set_option linter.unusedSimpArgs false
set_option linter.all false
namespace Go.Proofs.Tryz
open Go Go.Sx
structure ShA (b:Rest3):Prop where
 a:b.2.1.size ≤ 60
 c:b.2.2.1.size ≤ 60
 g:b.2.2.2.1.size ≤ 60
 k:b.2.2.2.2.1.size ≤ 60
 n:b.2.2.2.2.2.2.2.2.2.2.length ≤ 10
 m:∀ x ∈ b.2.2.2.2.2.2.2.2.2.2,x.size ≤ 60
theorem l98s {F:Nat} (hF:400 ≤ F) {s:ByteArray} (hs:s.size ≤ 60):c98 F s = some (nameB s) := l98 hF (by omega)
theorem l85n {F:Nat} (hF:400 ≤ F) (d:Int):c85 F (d :: nilT Int) = some (dayE d) := by
 rw [l85 (by simp [nilT]; omega) (by simp [nilT])]
 simp [nilT,dayE]
theorem l84_2 {F:Nat} (hF:400 ≤ F) (a b:Int):c84 F (a :: b :: nilT Int) = some (firstNZ [a,b]) := l84' hF (by simp [nilT])
theorem l84_7 {F:Nat} (hF:400 ≤ F) (a b c d e f g:Int):c84 F (a :: b :: c :: d :: e :: f :: g :: nilT Int) = some (firstNZ [a,b,c,d,e,f,g]) := l84' hF (by simp [nilT])
theorem l86n (F:Nat) (s:ByteArray):c86 F (!nameB s,8) = some (nameE s) := by
 rw [l86]; unfold nameE; cases nameB s <;> rfl
theorem l86d (F:Nat) (d:Int):c86 F (!decide (dayE d = 0),3) = some (dayE d) := by
 rw [l86]; unfold dayE; cases dayB d <;> rfl
theorem l86o (F:Nat) (b:Rest3):c86 F (decide (b.2.2.2.2.2.2.1 < b.2.2.2.2.2.1),11) = some (ordE b) := by
 rw [l86]; unfold ordE
 by_cases h:b.2.2.2.2.2.2.1 < b.2.2.2.2.2.1 <;> simp [h]
theorem mkR (b:Rest3):markE b.2.2.2.2.2.2.2.1 b.2.2.2.2.2.2.2.2.1 b.2.2.2.2.2.2.2.2.2.1 = markR b := rfl
theorem fz2 (d:Int):firstNZ [0,d] = d := by
 show (if (0:Int) = 0 then (if d = 0 then 0 else d) else 0) = d
 by_cases h:d = 0 <;> simp [h]
theorem x100n {F:Nat} (hF:400 ≤ F) {b:Rest3} (h:ShA b):cx100_3 F b.2.2.2.2.2.2.2.2.2.2 = some (firstNZ (b.2.2.2.2.2.2.2.2.2.2.map nameE)) := by
 have h1 := h.n
 unfold cx100_3
 refine bind_first b.2.2.2.2.2.2.2.2.2.2 nameE (by omega) ?_ ?_ ?_
 ·intro i x hi hx
  have hs := h.m x (List.mem_of_getElem? hx)
  have e:c101 F ((i:Int),x) = some (nameE x) := by
   unfold c101
   simp only [l92 hF (show x.size ≤ 300 by omega),Option.bind_some]
   rfl
  simp (disch := omega) only [cd_pos,gd_dec,Int.toNat_natCast,getD_some hx,w64_in,e,Option.bind_some,Nat.zero_add]
  by_cases h0:nameE x = 0 <;> simp [h0]
 ·simp (disch := omega) only [cd_neg]
 ·by_cases h2:firstNZ (b.2.2.2.2.2.2.2.2.2.2.map nameE) = 0 <;> simp [h2]
theorem nam2 (l:List ByteArray):firstNZ [if decide ((8:Int) < (l.length:Int)) = true then 5 else 0,firstNZ (l.map nameE)] = namesE l := by
 unfold namesE
 by_cases h:8 < l.length
 ·have h':(8:Int) < l.length := by omega
  simp [h,h',firstNZ]
 ·have h':¬ (8:Int) < l.length := by omega
  simp only [h,h',decide_false,if_false,Bool.false_eq_true]
  exact fz2 _
theorem bit2_64:(!Decidable.decide (Go.IntKind.wrap Go.IntKind.i64 ((BitVec.toNat (BitVec.ofInt (64:Nat) (2:Int) &&& BitVec.ofInt (64:Nat) (64:Int)):Nat):Int) = (0:Int))) = false := by rfl
theorem bit2_128:(!Decidable.decide (Go.IntKind.wrap Go.IntKind.i64 ((BitVec.toNat (BitVec.ofInt (64:Nat) (2:Int) &&& BitVec.ofInt (64:Nat) (128:Int)):Nat):Int) = (0:Int))) = false := by rfl
theorem bit3_64:(!Decidable.decide (Go.IntKind.wrap Go.IntKind.i64 ((BitVec.toNat (BitVec.ofInt (64:Nat) (3:Int) &&& BitVec.ofInt (64:Nat) (64:Int)):Nat):Int) = (0:Int))) = false := by rfl
theorem bit3_128:(!Decidable.decide (Go.IntKind.wrap Go.IntKind.i64 ((BitVec.toNat (BitVec.ofInt (64:Nat) (3:Int) &&& BitVec.ofInt (64:Nat) (128:Int)):Nat):Int) = (0:Int))) = false := by rfl
theorem bit9_64:(!Decidable.decide (Go.IntKind.wrap Go.IntKind.i64 ((BitVec.toNat (BitVec.ofInt (64:Nat) (9:Int) &&& BitVec.ofInt (64:Nat) (64:Int)):Nat):Int) = (0:Int))) = false := by rfl
theorem bit9_128:(!Decidable.decide (Go.IntKind.wrap Go.IntKind.i64 ((BitVec.toNat (BitVec.ofInt (64:Nat) (9:Int) &&& BitVec.ofInt (64:Nat) (128:Int)):Nat):Int) = (0:Int))) = false := by rfl
theorem bit23_64:(!Decidable.decide (Go.IntKind.wrap Go.IntKind.i64 ((BitVec.toNat (BitVec.ofInt (64:Nat) (23:Int) &&& BitVec.ofInt (64:Nat) (64:Int)):Nat):Int) = (0:Int))) = false := by rfl
theorem bit23_128:(!Decidable.decide (Go.IntKind.wrap Go.IntKind.i64 ((BitVec.toNat (BitVec.ofInt (64:Nat) (23:Int) &&& BitVec.ofInt (64:Nat) (128:Int)):Nat):Int) = (0:Int))) = false := by rfl
theorem bit49_64:(!Decidable.decide (Go.IntKind.wrap Go.IntKind.i64 ((BitVec.toNat (BitVec.ofInt (64:Nat) (49:Int) &&& BitVec.ofInt (64:Nat) (64:Int)):Nat):Int) = (0:Int))) = false := by rfl
theorem bit49_128:(!Decidable.decide (Go.IntKind.wrap Go.IntKind.i64 ((BitVec.toNat (BitVec.ofInt (64:Nat) (49:Int) &&& BitVec.ofInt (64:Nat) (128:Int)):Nat):Int) = (0:Int))) = false := by rfl
theorem bit73_64:(!Decidable.decide (Go.IntKind.wrap Go.IntKind.i64 ((BitVec.toNat (BitVec.ofInt (64:Nat) (73:Int) &&& BitVec.ofInt (64:Nat) (64:Int)):Nat):Int) = (0:Int))) = true := by rfl
theorem bit73_128:(!Decidable.decide (Go.IntKind.wrap Go.IntKind.i64 ((BitVec.toNat (BitVec.ofInt (64:Nat) (73:Int) &&& BitVec.ofInt (64:Nat) (128:Int)):Nat):Int) = (0:Int))) = false := by rfl
theorem bit138_64:(!Decidable.decide (Go.IntKind.wrap Go.IntKind.i64 ((BitVec.toNat (BitVec.ofInt (64:Nat) (138:Int) &&& BitVec.ofInt (64:Nat) (64:Int)):Nat):Int) = (0:Int))) = false := by rfl
theorem bit138_128:(!Decidable.decide (Go.IntKind.wrap Go.IntKind.i64 ((BitVec.toNat (BitVec.ofInt (64:Nat) (138:Int) &&& BitVec.ofInt (64:Nat) (128:Int)):Nat):Int) = (0:Int))) = true := by rfl
theorem k23_club_is {F:Nat} (hF:400 ≤ F) {b:Rest3} (h:ShA b):k23_club F b = some (actG false true false false false false false false false b) := by
 unfold k23_club
 rw [show actG false true false false false false false false false b = firstNZ (dayE b.1 :: ([0,nameE b.2.2.1,0,0,0,0,0] ++ [0,0,if idleB false true false false false false false false b = true then 1 else 0])) from rfl,fnz_cons,fnz_app]
 simp only [l98s hF h.a,l98s hF h.c,l98s hF h.g,l98s hF h.k,l86n,l85n hF,l86d,l86o,l84_2 hF,l84_7 hF,fz2,Option.bind_some,bit2_64,bit2_128,x100n hF h,l99 hF,mkR]
 generalize hz:firstNZ [0,nameE b.2.2.1,0,0,0,0,0] = z
 by_cases hd:dayE b.1 = 0
 ·simp only [hd,decide_true,Bool.not_true,cond_false,if_true]
  by_cases hq:z = 0
  ·simp only [hq,decide_true,Bool.not_true,cond_true,cond_false,if_true,Option.bind_some]
   simp only [fnz_cons,if_true]
   rw [show ({ data := List.toArray (nilT UInt8) }:ByteArray) = k0 from rfl]
   unfold idleB
   simp only [l86,Bool.not_true,Bool.not_false,Bool.false_and,Bool.true_and,Bool.false_or,Bool.or_false]
   generalize (!strEq b.2.1 k0) = i0
   generalize (!strEq b.2.2.2.1 k0) = i1
   generalize (!strEq b.2.2.2.2.1 k0) = i2
   generalize (!decide (b.2.2.2.2.2.1 = 0)) = i3
   generalize (!decide (b.2.2.2.2.2.2.1 = 0)) = i4
   generalize (!(b.2.2.2.2.2.2.2.1 == k0 && (decide (b.2.2.2.2.2.2.2.2.1 = 0) && (b.2.2.2.2.2.2.2.2.2.1 == k0 && true)))) = i5
   generalize (decide ((0:Int) < (b.2.2.2.2.2.2.2.2.2.2.length:Int))) = i6
   cases i0 <;> cases i1 <;> cases i2 <;> cases i3 <;> cases i4 <;> cases i5 <;> cases i6 <;> rfl
  ·simp only [hq,decide_false,Bool.not_false,cond_true,cond_false,if_false,Option.bind_some]
 ·simp only [hd,decide_false,Bool.not_false,cond_true,if_false]
theorem c23_club_is {F:Nat} (hF:400 ≤ F) {b:Rest3} (h:ShA b):c23_club F b = some (actG false true false false false false false false false b) := by
 unfold c23_club tw
 simp only [k23_club_is hF h,Option.bind_some,eqv_self,gd_true]
theorem k23_athlete_is {F:Nat} (hF:400 ≤ F) {b:Rest3} (h:ShA b):k23_athlete F b = some (actG true true true false true false false false false b) := by
 unfold k23_athlete
 rw [show actG true true true false true false false false false b = firstNZ (dayE b.1 :: ([nameE b.2.1,nameE b.2.2.1,nameE b.2.2.2.1,0,dayE b.2.2.2.2.2.1,0,0] ++ [0,0,if idleB true true true false true false false false b = true then 1 else 0])) from rfl,fnz_cons,fnz_app]
 simp only [l98s hF h.a,l98s hF h.c,l98s hF h.g,l98s hF h.k,l86n,l85n hF,l86d,l86o,l84_2 hF,l84_7 hF,fz2,Option.bind_some,bit23_64,bit23_128,x100n hF h,l99 hF,mkR]
 generalize hz:firstNZ [nameE b.2.1,nameE b.2.2.1,nameE b.2.2.2.1,0,dayE b.2.2.2.2.2.1,0,0] = z
 by_cases hd:dayE b.1 = 0
 ·simp only [hd,decide_true,Bool.not_true,cond_false,if_true]
  by_cases hq:z = 0
  ·simp only [hq,decide_true,Bool.not_true,cond_true,cond_false,if_true,Option.bind_some]
   simp only [fnz_cons,if_true]
   rw [show ({ data := List.toArray (nilT UInt8) }:ByteArray) = k0 from rfl]
   unfold idleB
   simp only [l86,Bool.not_true,Bool.not_false,Bool.false_and,Bool.true_and,Bool.false_or,Bool.or_false]
   generalize (!strEq b.2.2.2.2.1 k0) = i0
   generalize (!decide (b.2.2.2.2.2.2.1 = 0)) = i1
   generalize (!(b.2.2.2.2.2.2.2.1 == k0 && (decide (b.2.2.2.2.2.2.2.2.1 = 0) && (b.2.2.2.2.2.2.2.2.2.1 == k0 && true)))) = i2
   generalize (decide ((0:Int) < (b.2.2.2.2.2.2.2.2.2.2.length:Int))) = i3
   cases i0 <;> cases i1 <;> cases i2 <;> cases i3 <;> rfl
  ·simp only [hq,decide_false,Bool.not_false,cond_true,cond_false,if_false,Option.bind_some]
 ·simp only [hd,decide_false,Bool.not_false,cond_true,if_false]
theorem c23_athlete_is {F:Nat} (hF:400 ≤ F) {b:Rest3} (h:ShA b):c23_athlete F b = some (actG true true true false true false false false false b) := by
 unfold c23_athlete tw
 simp only [k23_athlete_is hF h,Option.bind_some,eqv_self,gd_true]
theorem k23_licence_is {F:Nat} (hF:400 ≤ F) {b:Rest3} (h:ShA b):k23_licence F b = some (actG true false false false true true false false true b) := by
 unfold k23_licence
 rw [show actG true false false false true true false false true b = firstNZ (dayE b.1 :: ([nameE b.2.1,0,0,0,dayE b.2.2.2.2.2.1,dayE b.2.2.2.2.2.2.1,ordE b] ++ [0,0,if idleB true false false false true true false false b = true then 1 else 0])) from rfl,fnz_cons,fnz_app]
 simp only [l98s hF h.a,l98s hF h.c,l98s hF h.g,l98s hF h.k,l86n,l85n hF,l86d,l86o,l84_2 hF,l84_7 hF,fz2,Option.bind_some,bit49_64,bit49_128,x100n hF h,l99 hF,mkR]
 generalize hz:firstNZ [nameE b.2.1,0,0,0,dayE b.2.2.2.2.2.1,dayE b.2.2.2.2.2.2.1,ordE b] = z
 by_cases hd:dayE b.1 = 0
 ·simp only [hd,decide_true,Bool.not_true,cond_false,if_true]
  by_cases hq:z = 0
  ·simp only [hq,decide_true,Bool.not_true,cond_true,cond_false,if_true,Option.bind_some]
   simp only [fnz_cons,if_true]
   rw [show ({ data := List.toArray (nilT UInt8) }:ByteArray) = k0 from rfl]
   unfold idleB
   simp only [l86,Bool.not_true,Bool.not_false,Bool.false_and,Bool.true_and,Bool.false_or,Bool.or_false]
   generalize (!strEq b.2.2.1 k0) = i0
   generalize (!strEq b.2.2.2.1 k0) = i1
   generalize (!strEq b.2.2.2.2.1 k0) = i2
   generalize (!(b.2.2.2.2.2.2.2.1 == k0 && (decide (b.2.2.2.2.2.2.2.2.1 = 0) && (b.2.2.2.2.2.2.2.2.2.1 == k0 && true)))) = i3
   generalize (decide ((0:Int) < (b.2.2.2.2.2.2.2.2.2.2.length:Int))) = i4
   cases i0 <;> cases i1 <;> cases i2 <;> cases i3 <;> cases i4 <;> rfl
  ·simp only [hq,decide_false,Bool.not_false,cond_true,cond_false,if_false,Option.bind_some]
 ·simp only [hd,decide_false,Bool.not_false,cond_true,if_false]
theorem c23_licence_is {F:Nat} (hF:400 ≤ F) {b:Rest3} (h:ShA b):c23_licence F b = some (actG true false false false true true false false true b) := by
 unfold c23_licence tw
 simp only [k23_licence_is hF h,Option.bind_some,eqv_self,gd_true]
theorem k23_transfer_is {F:Nat} (hF:400 ≤ F) {b:Rest3} (h:ShA b):k23_transfer F b = some (actG true true false false false false false false false b) := by
 unfold k23_transfer
 rw [show actG true true false false false false false false false b = firstNZ (dayE b.1 :: ([nameE b.2.1,nameE b.2.2.1,0,0,0,0,0] ++ [0,0,if idleB true true false false false false false false b = true then 1 else 0])) from rfl,fnz_cons,fnz_app]
 simp only [l98s hF h.a,l98s hF h.c,l98s hF h.g,l98s hF h.k,l86n,l85n hF,l86d,l86o,l84_2 hF,l84_7 hF,fz2,Option.bind_some,bit3_64,bit3_128,x100n hF h,l99 hF,mkR]
 generalize hz:firstNZ [nameE b.2.1,nameE b.2.2.1,0,0,0,0,0] = z
 by_cases hd:dayE b.1 = 0
 ·simp only [hd,decide_true,Bool.not_true,cond_false,if_true]
  by_cases hq:z = 0
  ·simp only [hq,decide_true,Bool.not_true,cond_true,cond_false,if_true,Option.bind_some]
   simp only [fnz_cons,if_true]
   rw [show ({ data := List.toArray (nilT UInt8) }:ByteArray) = k0 from rfl]
   unfold idleB
   simp only [l86,Bool.not_true,Bool.not_false,Bool.false_and,Bool.true_and,Bool.false_or,Bool.or_false]
   generalize (!strEq b.2.2.2.1 k0) = i0
   generalize (!strEq b.2.2.2.2.1 k0) = i1
   generalize (!decide (b.2.2.2.2.2.1 = 0)) = i2
   generalize (!decide (b.2.2.2.2.2.2.1 = 0)) = i3
   generalize (!(b.2.2.2.2.2.2.2.1 == k0 && (decide (b.2.2.2.2.2.2.2.2.1 = 0) && (b.2.2.2.2.2.2.2.2.2.1 == k0 && true)))) = i4
   generalize (decide ((0:Int) < (b.2.2.2.2.2.2.2.2.2.2.length:Int))) = i5
   cases i0 <;> cases i1 <;> cases i2 <;> cases i3 <;> cases i4 <;> cases i5 <;> rfl
  ·simp only [hq,decide_false,Bool.not_false,cond_true,cond_false,if_false,Option.bind_some]
 ·simp only [hd,decide_false,Bool.not_false,cond_true,if_false]
theorem c23_transfer_is {F:Nat} (hF:400 ≤ F) {b:Rest3} (h:ShA b):c23_transfer F b = some (actG true true false false false false false false false b) := by
 unfold c23_transfer tw
 simp only [k23_transfer_is hF h,Option.bind_some,eqv_self,gd_true]
theorem k23_enter_is {F:Nat} (hF:400 ≤ F) {b:Rest3} (h:ShA b):k23_enter F b = some (actG true false false true false false true false false b) := by
 unfold k23_enter
 rw [show actG true false false true false false true false false b = firstNZ (dayE b.1 :: ([nameE b.2.1,0,0,nameE b.2.2.2.2.1,0,0,0] ++ [markR b,0,if idleB true false false true false false true false b = true then 1 else 0])) from rfl,fnz_cons,fnz_app]
 simp only [l98s hF h.a,l98s hF h.c,l98s hF h.g,l98s hF h.k,l86n,l85n hF,l86d,l86o,l84_2 hF,l84_7 hF,fz2,Option.bind_some,bit73_64,bit73_128,x100n hF h,l99 hF,mkR]
 generalize hz:firstNZ [nameE b.2.1,0,0,nameE b.2.2.2.2.1,0,0,0] = z
 by_cases hd:dayE b.1 = 0
 ·simp only [hd,decide_true,Bool.not_true,cond_false,if_true]
  by_cases hq:z = 0
  ·simp only [hq,decide_true,Bool.not_true,cond_true,cond_false,if_true,Option.bind_some]
   by_cases hm:markR b = 0
   ·simp only [hm,fnz_cons,decide_true,Bool.not_true,cond_true,cond_false,if_true,Option.bind_some]
    rw [show ({ data := List.toArray (nilT UInt8) }:ByteArray) = k0 from rfl]
    unfold idleB
    simp only [l86,Bool.not_true,Bool.not_false,Bool.false_and,Bool.true_and,Bool.false_or,Bool.or_false]
    generalize (!strEq b.2.2.1 k0) = i0
    generalize (!strEq b.2.2.2.1 k0) = i1
    generalize (!decide (b.2.2.2.2.2.1 = 0)) = i2
    generalize (!decide (b.2.2.2.2.2.2.1 = 0)) = i3
    generalize (decide ((0:Int) < (b.2.2.2.2.2.2.2.2.2.2.length:Int))) = i4
    cases i0 <;> cases i1 <;> cases i2 <;> cases i3 <;> cases i4 <;> rfl
   ·simp only [hm,fnz_cons,decide_false,Bool.not_false,cond_true,cond_false,if_false,Option.bind_some]
  ·simp only [hq,decide_false,Bool.not_false,cond_true,cond_false,if_false,Option.bind_some]
 ·simp only [hd,decide_false,Bool.not_false,cond_true,if_false]
theorem c23_enter_is {F:Nat} (hF:400 ≤ F) {b:Rest3} (h:ShA b):c23_enter F b = some (actG true false false true false false true false false b) := by
 unfold c23_enter tw
 simp only [k23_enter_is hF h,Option.bind_some,eqv_self,gd_true]
theorem k23_withdraw_is {F:Nat} (hF:400 ≤ F) {b:Rest3} (h:ShA b):k23_withdraw F b = some (actG true false false true false false false false false b) := by
 unfold k23_withdraw
 rw [show actG true false false true false false false false false b = firstNZ (dayE b.1 :: ([nameE b.2.1,0,0,nameE b.2.2.2.2.1,0,0,0] ++ [0,0,if idleB true false false true false false false false b = true then 1 else 0])) from rfl,fnz_cons,fnz_app]
 simp only [l98s hF h.a,l98s hF h.c,l98s hF h.g,l98s hF h.k,l86n,l85n hF,l86d,l86o,l84_2 hF,l84_7 hF,fz2,Option.bind_some,bit9_64,bit9_128,x100n hF h,l99 hF,mkR]
 generalize hz:firstNZ [nameE b.2.1,0,0,nameE b.2.2.2.2.1,0,0,0] = z
 by_cases hd:dayE b.1 = 0
 ·simp only [hd,decide_true,Bool.not_true,cond_false,if_true]
  by_cases hq:z = 0
  ·simp only [hq,decide_true,Bool.not_true,cond_true,cond_false,if_true,Option.bind_some]
   simp only [fnz_cons,if_true]
   rw [show ({ data := List.toArray (nilT UInt8) }:ByteArray) = k0 from rfl]
   unfold idleB
   simp only [l86,Bool.not_true,Bool.not_false,Bool.false_and,Bool.true_and,Bool.false_or,Bool.or_false]
   generalize (!strEq b.2.2.1 k0) = i0
   generalize (!strEq b.2.2.2.1 k0) = i1
   generalize (!decide (b.2.2.2.2.2.1 = 0)) = i2
   generalize (!decide (b.2.2.2.2.2.2.1 = 0)) = i3
   generalize (!(b.2.2.2.2.2.2.2.1 == k0 && (decide (b.2.2.2.2.2.2.2.2.1 = 0) && (b.2.2.2.2.2.2.2.2.2.1 == k0 && true)))) = i4
   generalize (decide ((0:Int) < (b.2.2.2.2.2.2.2.2.2.2.length:Int))) = i5
   cases i0 <;> cases i1 <;> cases i2 <;> cases i3 <;> cases i4 <;> cases i5 <;> rfl
  ·simp only [hq,decide_false,Bool.not_false,cond_true,cond_false,if_false,Option.bind_some]
 ·simp only [hd,decide_false,Bool.not_false,cond_true,if_false]
theorem c23_withdraw_is {F:Nat} (hF:400 ≤ F) {b:Rest3} (h:ShA b):c23_withdraw F b = some (actG true false false true false false false false false b) := by
 unfold c23_withdraw tw
 simp only [k23_withdraw_is hF h,Option.bind_some,eqv_self,gd_true]
theorem k23_check_is {F:Nat} (hF:400 ≤ F) {b:Rest3} (h:ShA b):k23_check F b = some (actG true false false true false false false false false b) := by
 unfold k23_check
 rw [show actG true false false true false false false false false b = firstNZ (dayE b.1 :: ([nameE b.2.1,0,0,nameE b.2.2.2.2.1,0,0,0] ++ [0,0,if idleB true false false true false false false false b = true then 1 else 0])) from rfl,fnz_cons,fnz_app]
 simp only [l98s hF h.a,l98s hF h.c,l98s hF h.g,l98s hF h.k,l86n,l85n hF,l86d,l86o,l84_2 hF,l84_7 hF,fz2,Option.bind_some,bit9_64,bit9_128,x100n hF h,l99 hF,mkR]
 generalize hz:firstNZ [nameE b.2.1,0,0,nameE b.2.2.2.2.1,0,0,0] = z
 by_cases hd:dayE b.1 = 0
 ·simp only [hd,decide_true,Bool.not_true,cond_false,if_true]
  by_cases hq:z = 0
  ·simp only [hq,decide_true,Bool.not_true,cond_true,cond_false,if_true,Option.bind_some]
   simp only [fnz_cons,if_true]
   rw [show ({ data := List.toArray (nilT UInt8) }:ByteArray) = k0 from rfl]
   unfold idleB
   simp only [l86,Bool.not_true,Bool.not_false,Bool.false_and,Bool.true_and,Bool.false_or,Bool.or_false]
   generalize (!strEq b.2.2.1 k0) = i0
   generalize (!strEq b.2.2.2.1 k0) = i1
   generalize (!decide (b.2.2.2.2.2.1 = 0)) = i2
   generalize (!decide (b.2.2.2.2.2.2.1 = 0)) = i3
   generalize (!(b.2.2.2.2.2.2.2.1 == k0 && (decide (b.2.2.2.2.2.2.2.2.1 = 0) && (b.2.2.2.2.2.2.2.2.2.1 == k0 && true)))) = i4
   generalize (decide ((0:Int) < (b.2.2.2.2.2.2.2.2.2.2.length:Int))) = i5
   cases i0 <;> cases i1 <;> cases i2 <;> cases i3 <;> cases i4 <;> cases i5 <;> rfl
  ·simp only [hq,decide_false,Bool.not_false,cond_true,cond_false,if_false,Option.bind_some]
 ·simp only [hd,decide_false,Bool.not_false,cond_true,if_false]
theorem c23_check_is {F:Nat} (hF:400 ≤ F) {b:Rest3} (h:ShA b):c23_check F b = some (actG true false false true false false false false false b) := by
 unfold c23_check tw
 simp only [k23_check_is hF h,Option.bind_some,eqv_self,gd_true]
theorem k23_team_is {F:Nat} (hF:400 ≤ F) {b:Rest3} (h:ShA b):k23_team F b = some (actG false true false true false false false true false b) := by
 unfold k23_team
 rw [show actG false true false true false false false true false b = firstNZ (dayE b.1 :: ([0,nameE b.2.2.1,0,nameE b.2.2.2.2.1,0,0,0] ++ [0,namesE b.2.2.2.2.2.2.2.2.2.2,if idleB false true false true false false false true b = true then 1 else 0])) from rfl,fnz_cons,fnz_app]
 simp only [l98s hF h.a,l98s hF h.c,l98s hF h.g,l98s hF h.k,l86n,l85n hF,l86d,l86o,l84_2 hF,l84_7 hF,fz2,Option.bind_some,bit138_64,bit138_128,x100n hF h,l99 hF,mkR]
 generalize hz:firstNZ [0,nameE b.2.2.1,0,nameE b.2.2.2.2.1,0,0,0] = z
 by_cases hd:dayE b.1 = 0
 ·simp only [hd,decide_true,Bool.not_true,cond_false,if_true]
  by_cases hq:z = 0
  ·simp only [hq,decide_true,Bool.not_true,cond_true,cond_false,if_true,Option.bind_some]
   simp only [l86,l84_2 hF,nam2,Option.bind_some]
   by_cases hm:namesE b.2.2.2.2.2.2.2.2.2.2 = 0
   ·simp only [hm,fnz_cons,decide_true,Bool.not_true,cond_true,cond_false,if_true,Option.bind_some]
    rw [show ({ data := List.toArray (nilT UInt8) }:ByteArray) = k0 from rfl]
    unfold idleB
    simp only [l86,Bool.not_true,Bool.not_false,Bool.false_and,Bool.true_and,Bool.false_or,Bool.or_false]
    generalize (!strEq b.2.1 k0) = i0
    generalize (!strEq b.2.2.2.1 k0) = i1
    generalize (!decide (b.2.2.2.2.2.1 = 0)) = i2
    generalize (!decide (b.2.2.2.2.2.2.1 = 0)) = i3
    generalize (!(b.2.2.2.2.2.2.2.1 == k0 && (decide (b.2.2.2.2.2.2.2.2.1 = 0) && (b.2.2.2.2.2.2.2.2.2.1 == k0 && true)))) = i4
    cases i0 <;> cases i1 <;> cases i2 <;> cases i3 <;> cases i4 <;> rfl
   ·simp only [hm,fnz_cons,decide_false,Bool.not_false,cond_true,cond_false,if_false,Option.bind_some,if_true]
  ·simp only [hq,decide_false,Bool.not_false,cond_true,cond_false,if_false,Option.bind_some]
 ·simp only [hd,decide_false,Bool.not_false,cond_true,if_false]
theorem c23_team_is {F:Nat} (hF:400 ≤ F) {b:Rest3} (h:ShA b):c23_team F b = some (actG false true false true false false false true false b) := by
 unfold c23_team tw
 simp only [k23_team_is hF h,Option.bind_some,eqv_self,gd_true]
def actE (a:Act3):Int :=
 if strEq a.2.1 kw_club = true then actG false true false false false false false false false (a.1,a.2.2)
 else if strEq a.2.1 kw_athlete = true then actG true true true false true false false false false (a.1,a.2.2)
 else if strEq a.2.1 kw_licence = true then actG true false false false true true false false true (a.1,a.2.2)
 else if strEq a.2.1 kw_transfer = true then actG true true false false false false false false false (a.1,a.2.2)
 else if strEq a.2.1 kw_enter = true then actG true false false true false false true false false (a.1,a.2.2)
 else if strEq a.2.1 kw_withdraw = true then actG true false false true false false false false false (a.1,a.2.2)
 else if strEq a.2.1 kw_check = true then actG true false false true false false false false false (a.1,a.2.2)
 else if strEq a.2.1 kw_team = true then actG false true false true false false false true false (a.1,a.2.2)
 else 13
theorem c23_miss_is {F:Nat} (hF:400 ≤ F) (a:Act3) (h:strEq a.2.1 kw_club = false ∧ strEq a.2.1 kw_athlete = false ∧ strEq a.2.1 kw_licence = false ∧ strEq a.2.1 kw_transfer = false ∧ strEq a.2.1 kw_enter = false ∧ strEq a.2.1 kw_withdraw = false ∧ strEq a.2.1 kw_check = false ∧ strEq a.2.1 kw_team = false):c23_miss F a = some 13 := by
 obtain ⟨h0,h1,h2,h3,h4,h5,h6,h7⟩ := h
 have h0:strEq a.2.1 { data := List.toArray ((99:UInt8) :: (108:UInt8) :: (117:UInt8) :: (98:UInt8) :: nilT UInt8) } = false := h0
 have h1:strEq a.2.1 { data := List.toArray ((97:UInt8) :: (116:UInt8) :: (104:UInt8) :: (108:UInt8) :: (101:UInt8) :: (116:UInt8) :: (101:UInt8) :: nilT UInt8) } = false := h1
 have h2:strEq a.2.1 { data := List.toArray ((108:UInt8) :: (105:UInt8) :: (99:UInt8) :: (101:UInt8) :: (110:UInt8) :: (99:UInt8) :: (101:UInt8) :: nilT UInt8) } = false := h2
 have h3:strEq a.2.1 { data := List.toArray ((116:UInt8) :: (114:UInt8) :: (97:UInt8) :: (110:UInt8) :: (115:UInt8) :: (102:UInt8) :: (101:UInt8) :: (114:UInt8) :: nilT UInt8) } = false := h3
 have h4:strEq a.2.1 { data := List.toArray ((101:UInt8) :: (110:UInt8) :: (116:UInt8) :: (101:UInt8) :: (114:UInt8) :: nilT UInt8) } = false := h4
 have h5:strEq a.2.1 { data := List.toArray ((119:UInt8) :: (105:UInt8) :: (116:UInt8) :: (104:UInt8) :: (100:UInt8) :: (114:UInt8) :: (97:UInt8) :: (119:UInt8) :: nilT UInt8) } = false := h5
 have h6:strEq a.2.1 { data := List.toArray ((99:UInt8) :: (104:UInt8) :: (101:UInt8) :: (99:UInt8) :: (107:UInt8) :: nilT UInt8) } = false := h6
 have h7:strEq a.2.1 { data := List.toArray ((116:UInt8) :: (101:UInt8) :: (97:UInt8) :: (109:UInt8) :: nilT UInt8) } = false := h7
 unfold c23_miss tw
 simp only [h0,h1,h2,h3,h4,h5,h6,h7,l85n hF,Bool.not_false,gd_true,Option.bind_some,eqv_self]
theorem l23 {F:Nat} (hF:400 ≤ F) {a:Act3} (h:ShA (a.1,a.2.2)):c23 F a = some (actE a) := by
 unfold c23 actE
 rw [show kq_club = kw_club from rfl]
 by_cases h0:strEq a.2.1 kw_club = true
 ·rw [h0,cond_true,if_pos rfl,c23_club_is hF h]
 ·rw [Bool.eq_false_iff.2 h0,cond_false,if_neg (by decide)]
  rw [show kq_athlete = kw_athlete from rfl]
  by_cases h1:strEq a.2.1 kw_athlete = true
  ·rw [h1,cond_true,if_pos rfl,c23_athlete_is hF h]
  ·rw [Bool.eq_false_iff.2 h1,cond_false,if_neg (by decide)]
   rw [show kq_licence = kw_licence from rfl]
   by_cases h2:strEq a.2.1 kw_licence = true
   ·rw [h2,cond_true,if_pos rfl,c23_licence_is hF h]
   ·rw [Bool.eq_false_iff.2 h2,cond_false,if_neg (by decide)]
    rw [show kq_transfer = kw_transfer from rfl]
    by_cases h3:strEq a.2.1 kw_transfer = true
    ·rw [h3,cond_true,if_pos rfl,c23_transfer_is hF h]
    ·rw [Bool.eq_false_iff.2 h3,cond_false,if_neg (by decide)]
     rw [show kq_enter = kw_enter from rfl]
     by_cases h4:strEq a.2.1 kw_enter = true
     ·rw [h4,cond_true,if_pos rfl,c23_enter_is hF h]
     ·rw [Bool.eq_false_iff.2 h4,cond_false,if_neg (by decide)]
      rw [show kq_withdraw = kw_withdraw from rfl]
      by_cases h5:strEq a.2.1 kw_withdraw = true
      ·rw [h5,cond_true,if_pos rfl,c23_withdraw_is hF h]
      ·rw [Bool.eq_false_iff.2 h5,cond_false,if_neg (by decide)]
       rw [show kq_check = kw_check from rfl]
       by_cases h6:strEq a.2.1 kw_check = true
       ·rw [h6,cond_true,if_pos rfl,c23_check_is hF h]
       ·rw [Bool.eq_false_iff.2 h6,cond_false,if_neg (by decide)]
        rw [show kq_team = kw_team from rfl]
        by_cases h7:strEq a.2.1 kw_team = true
        ·rw [h7,cond_true,if_pos rfl,c23_team_is hF h]
        ·rw [Bool.eq_false_iff.2 h7,cond_false,if_neg (by decide)]
         exact c23_miss_is hF a ⟨Bool.eq_false_iff.2 h0,Bool.eq_false_iff.2 h1,Bool.eq_false_iff.2 h2,Bool.eq_false_iff.2 h3,Bool.eq_false_iff.2 h4,Bool.eq_false_iff.2 h5,Bool.eq_false_iff.2 h6,Bool.eq_false_iff.2 h7⟩
theorem c102_miss {F:Nat} (hF:400 ≤ F) {s:ByteArray} (h:strEq s kw_club = false ∧ strEq s kw_athlete = false ∧ strEq s kw_licence = false ∧ strEq s kw_transfer = false ∧ strEq s kw_enter = false ∧ strEq s kw_withdraw = false ∧ strEq s kw_check = false ∧ strEq s kw_team = false):c102 F s = some { data := List.toArray (nilT UInt8) } := by
 obtain ⟨G,rfl⟩:∃ G,F = G + 9 := ⟨F - 9,by omega⟩
 obtain ⟨h0,h1,h2,h3,h4,h5,h6,h7⟩ := h
 have h0:strEq kw_club s = false := by rw [strEq_comm]; exact h0
 have h1:strEq kw_athlete s = false := by rw [strEq_comm]; exact h1
 have h2:strEq kw_licence s = false := by rw [strEq_comm]; exact h2
 have h3:strEq kw_transfer s = false := by rw [strEq_comm]; exact h3
 have h4:strEq kw_enter s = false := by rw [strEq_comm]; exact h4
 have h5:strEq kw_withdraw s = false := by rw [strEq_comm]; exact h5
 have h6:strEq kw_check s = false := by rw [strEq_comm]; exact h6
 have h7:strEq kw_team s = false := by rw [strEq_comm]; exact h7
 refine bind_list [kw_club,kw_athlete,kw_licence,kw_transfer,kw_enter,kw_withdraw,kw_check,kw_team] (fun (_:Unit) i=>(i:Int)) (fun x (_:Unit)=>.inl ()) (fun _=>(.inr ():ByteArray ⊕ Unit)) (fun _ _=>True) () (by show 8 < G + 9; omega) rfl trivial ?_ ?_ ?_
 ·intro i x _ hi hx _
  refine ⟨?_,fun _ _=>trivial⟩
  have hi:i < 8 := hi
  have hk:strEq ([kw_club,kw_athlete,kw_licence,kw_transfer,kw_enter,kw_withdraw,kw_check,kw_team].getD (0 + i) ByteArray.empty) s = false := by
   match i,hi with
   | 0,_=>exact h0
   | 1,_=>exact h1
   | 2,_=>exact h2
   | 3,_=>exact h3
   | 4,_=>exact h4
   | 5,_=>exact h5
   | 6,_=>exact h6
   | 7,_=>exact h7
  have hk:strEq (([kw_club,kw_athlete,kw_licence,kw_transfer,kw_enter,kw_withdraw,kw_check,kw_team]:List ByteArray).getD (0 + (i:Int).toNat) ByteArray.empty) s = false := hk
  simp (disch := omega) only [cd_pos,gd_dec,w64_in]
  exact (congrArg (fun b=>bif b then _ else _) hk)
 ·intro _ _
  rfl
 ·rfl
theorem l24 {F:Nat} (hF:400 ≤ F) {a:Act3} (h:ShA (a.1,a.2.2)):c24 F a = some (actE a) := by
 unfold actE
 by_cases h0:strEq a.2.1 kw_club = true
 ·rw [if_pos h0]
  have e := l24_club hF (a.1,a.2.2) h.n
  rw [← strEq_true.1 h0] at e
  exact e
 ·rw [if_neg h0]
  by_cases h1:strEq a.2.1 kw_athlete = true
  ·rw [if_pos h1]
   have e := l24_athlete hF (a.1,a.2.2) h.n
   rw [← strEq_true.1 h1] at e
   exact e
  ·rw [if_neg h1]
   by_cases h2:strEq a.2.1 kw_licence = true
   ·rw [if_pos h2]
    have e := l24_licence hF (a.1,a.2.2) h.n
    rw [← strEq_true.1 h2] at e
    exact e
   ·rw [if_neg h2]
    by_cases h3:strEq a.2.1 kw_transfer = true
    ·rw [if_pos h3]
     have e := l24_transfer hF (a.1,a.2.2) h.n
     rw [← strEq_true.1 h3] at e
     exact e
    ·rw [if_neg h3]
     by_cases h4:strEq a.2.1 kw_enter = true
     ·rw [if_pos h4]
      have e := l24_enter hF (a.1,a.2.2) h.n
      rw [← strEq_true.1 h4] at e
      exact e
     ·rw [if_neg h4]
      by_cases h5:strEq a.2.1 kw_withdraw = true
      ·rw [if_pos h5]
       have e := l24_withdraw hF (a.1,a.2.2) h.n
       rw [← strEq_true.1 h5] at e
       exact e
      ·rw [if_neg h5]
       by_cases h6:strEq a.2.1 kw_check = true
       ·rw [if_pos h6]
        have e := l24_check hF (a.1,a.2.2) h.n
        rw [← strEq_true.1 h6] at e
        exact e
       ·rw [if_neg h6]
        by_cases h7:strEq a.2.1 kw_team = true
        ·rw [if_pos h7]
         have e := l24_team hF (a.1,a.2.2) h.n
         rw [← strEq_true.1 h7] at e
         exact e
        ·rw [if_neg h7]
         unfold c24
         rw [c102_miss hF ⟨Bool.eq_false_iff.2 h0,Bool.eq_false_iff.2 h1,Bool.eq_false_iff.2 h2,Bool.eq_false_iff.2 h3,Bool.eq_false_iff.2 h4,Bool.eq_false_iff.2 h5,Bool.eq_false_iff.2 h6,Bool.eq_false_iff.2 h7⟩]
         rfl
theorem l19 {F:Nat} (hF:400 ≤ F) (a:Act3):∃ b,c19 F a = some b ∧ (b = true → ShA (a.1,a.2.2)) := by
 obtain ⟨d,k,at',c,g,ko,f,t,mk,mv,mr,ns⟩ := a
 unfold c19
 simp only [l79,Option.bind_some]
 by_cases h1:(60:Int) < k.size
 ·exact ⟨false,by simp only [h1,decide_true,cond_true,Option.bind_some],fun h=>by cases h⟩
 ·by_cases h2:(60:Int) < at'.size
  ·exact ⟨false,by simp only [h1,h2,decide_true,decide_false,cond_true,cond_false,Option.bind_some],fun h=>by cases h⟩
  ·by_cases h3:(60:Int) < c.size
   ·exact ⟨false,by simp only [h1,h2,h3,decide_true,decide_false,cond_true,cond_false,Option.bind_some],fun h=>by cases h⟩
   ·by_cases h4:(60:Int) < g.size
    ·exact ⟨false,by simp only [h1,h2,h3,h4,decide_true,decide_false,cond_true,cond_false,Option.bind_some],fun h=>by cases h⟩
    ·by_cases h5:(60:Int) < ko.size
     ·exact ⟨false,by simp only [h1,h2,h3,h4,h5,decide_true,decide_false,cond_true,cond_false,Option.bind_some],fun h=>by cases h⟩
     ·by_cases h6:mk.size ≤ 40 ∧ mr.size ≤ 40
      ·by_cases h7:(10:Int) < ns.length
       ·exact ⟨false,by simp only [h1,h2,h3,h4,h5,h6,h7,and_self,decide_true,decide_false,Bool.not_true,cond_true,cond_false,Option.bind_some],fun h=>by cases h⟩
       ·simp only [h1,h2,h3,h4,h5,h6,h7,and_self,decide_true,decide_false,Bool.not_true,cond_true,cond_false,Option.bind_some]
        refine bind_all ns (fun x=>x.size ≤ 60) (fun b:Bool ⊕ Unit=>b = .inl false ∨ (b = .inr () ∧ ∀ x ∈ ns,x.size ≤ 60)) (by omega) ?_ ?_ ?_
        ·intro i x hi hx
         simp (disch := omega) only [cd_pos,gd_dec,Int.toNat_natCast,getD_some hx,w64_in]
         by_cases h8:(60:Int) < x.size
         ·exact ⟨_,by simp only [h8,decide_true,cond_true],.inr ⟨_,rfl,.inl rfl⟩⟩
         ·exact ⟨_,by simp only [h8,decide_false,cond_false],.inl ⟨rfl,by omega⟩⟩
        ·intro h
         exact ⟨_,by simp (disch := omega) only [cd_neg],.inr ⟨rfl,h⟩⟩
        ·rintro b (rfl | ⟨rfl,h⟩)
         ·exact ⟨false,rfl,fun h=>by cases h⟩
         ·exact ⟨true,rfl,fun _=>⟨by show at'.size ≤ 60; omega,by show c.size ≤ 60; omega,by show g.size ≤ 60; omega,by show ko.size ≤ 60; omega,by show ns.length ≤ 10; omega,h⟩⟩
      ·exact ⟨false,by simp only [h1,h2,h3,h4,h5,h6,decide_true,decide_false,Bool.not_false,cond_true,cond_false,Option.bind_some],fun h=>by cases h⟩
noncomputable def lx81 (F:Nat):LK := lN
noncomputable def c81 (F:Nat) (a:PUnit):Option (TMt) :=
 some (((8000:Int),(7900:Int),(7990:Int),(2:Int),({ data := List.toArray (115 :: 112 :: 114 :: 105 :: 110 :: 116 :: nilT UInt8) },{ data := List.toArray (116 :: 105 :: 109 :: 101 :: nilT UInt8) },(ByteArray.mk (List.toArray (nilT UInt8))),(16:Int),(40:Int),(2:Int),(1:Int),{ data := List.toArray (116 :: 105 :: 109 :: 101 :: nilT UInt8) },(120000:Int),(ByteArray.mk (List.toArray (nilT UInt8))),(0:Int)) :: ({ data := List.toArray (106 :: 117 :: 109 :: 112 :: nilT UInt8) },{ data := List.toArray (108 :: 101 :: 110 :: 103 :: 116 :: 104 :: nilT UInt8) },(ByteArray.mk (List.toArray (nilT UInt8))),(16:Int),(40:Int),(8:Int),(2:Int),{ data := List.toArray (110 :: 111 :: 110 :: 101 :: nilT UInt8) },(0:Int),{ data := List.toArray (78 :: 77 :: nilT UInt8) },(0:Int)) :: ({ data := List.toArray (114 :: 101 :: 108 :: 97 :: 121 :: nilT UInt8) },{ data := List.toArray (116 :: 105 :: 109 :: 101 :: nilT UInt8) },(ByteArray.mk (List.toArray (nilT UInt8))),(16:Int),(40:Int),(8:Int),(1:Int),{ data := List.toArray (110 :: 111 :: 110 :: 101 :: nilT UInt8) },(0:Int),{ data := List.toArray (78 :: 77 :: nilT UInt8) },(2:Int)) :: nilT (TCst)))
noncomputable def pc81 (F:Nat):PC := { ats := [],rts := [.agg [.int .i64,.int .i64,.int .i64,.int .i64,.seq [.str,.str,.str,.int .i64,.int .i64,.int .i64,.int .i64,.str,.int .i64,.str,.int .i64]]],code := c81 F }
theorem pc81_ok (F:Nat):PCOk cx 81 (pc81 F) := qE (lx81 F) .leaf f81 (by kernel_rfl) fun a=>by kernel_rfl
noncomputable def lx83 (F:Nat):LK := lN
noncomputable def c83 (F:Nat) (a:Int):Option (ByteArray × Int × ByteArray) :=
 some (({ data := List.toArray (116 :: 105 :: 109 :: 101 :: nilT UInt8) },w64 ((100:Int) * a),(ByteArray.mk (List.toArray (nilT UInt8)))))
noncomputable def pc83 (F:Nat):PC := { ats := [.val (.int .i64)],rts := [.agg [.str,.int .i64,.str]],code := c83 F }
theorem pc83_ok (F:Nat):PCOk cx 83 (pc83 F) := qE (lx83 F) .leaf f83 (by kernel_rfl) fun a=>by kernel_rfl
end Go.Proofs.Tryz
