/- Plain law: marks compared, in the program and in the reference. Plain law: entries in order, in the program and in the reference. And further parts. -/
import Derived.Test.YtpkbmngnolhopaaGreatDoorXT3f
import Derived.Test.YtpkbmngnolhopaaGreatDoorXTeB2
import Derived.Test.YtpkbmngnolhopaaGreatDoorXTeB3
set_option maxRecDepth 100000
set_option linter.unusedVariables false
set_option linter.unusedSimpArgs false
namespace Go.Proofs.Tryz
open Go Go.Sx
abbrev Mk := ByteArray × Int × ByteArray
theorem kL_lit:({ data := List.toArray ((108:UInt8) :: (101:UInt8) :: (110:UInt8) :: (103:UInt8) :: (116:UInt8) :: (104:UInt8) :: nilT UInt8) }:ByteArray) = kL := rfl
theorem kP_lit:({ data := List.toArray ((112:UInt8) :: (111:UInt8) :: (105:UInt8) :: (110:UInt8) :: (116:UInt8) :: (115:UInt8) :: nilT UInt8) }:ByteArray) = kP := rfl
theorem kT_lit':({ data := List.toArray ((116:UInt8) :: (105:UInt8) :: (109:UInt8) :: (101:UInt8) :: nilT UInt8) }:ByteArray) = kT := rfl
theorem kN_lit:({ data := List.toArray ((110:UInt8) :: (111:UInt8) :: (110:UInt8) :: (101:UInt8) :: nilT UInt8) }:ByteArray) = kN := rfl
def wM (k:ByteArray) (v:Int):Int := if strEq k kT = true then -v else if strEq k kL = true then v else if strEq k kP = true then v else -864000000
def cmpI (a b:Int):Int := if b < a then -1 else if a < b then 1 else 0
def MarkOk (x:Mk):Prop := markE x.1 x.2.1 x.2.2 = 0
def kindOk (x:Mk):Prop := strEq x.1 kN = true ∨ strEq x.1 kT = true ∨ strEq x.1 kL = true ∨ strEq x.1 kP = true
theorem markE_kind {x:Mk} (h:MarkOk x):kindOk x := by
 unfold MarkOk markE at h
 unfold kindOk
 by_cases h1:strEq x.1 kN = true
 ·exact .inl h1
 ·by_cases h2:strEq x.1 kT = true
  ·exact .inr (.inl h2)
  ·by_cases h3:strEq x.1 kL = true
   ·exact .inr (.inr (.inl h3))
   ·by_cases h4:strEq x.1 kP = true
    ·exact .inr (.inr (.inr h4))
    ·rw [if_neg h1,if_neg h2,if_neg h3,if_neg h4] at h
     cases h
theorem strEq_ne {a b k:ByteArray} (h:strEq k a = true) (hab:strEq a b = false):strEq k b = false := by
 rw [strEq_true] at h; rw [h]; exact hab
theorem l252 (F:Nat) {k:ByteArray} {v:Int} (r:ByteArray) (hv:-999999999 ≤ v ∧ v ≤ 999999999):c252 F (k,v,r) = some (wM k v) := by
 unfold c252 tw
 have hw:IntKind.wrap IntKind.i64 (0 - v) = -v := by rw [show IntKind.wrap IntKind.i64 (0 - v) = w64 (0 - v) from rfl,w64_in (by omega) (by omega)]; omega
 simp only [hw,kT_lit',kL_lit,kP_lit]
 have g:∀ x:Int,gd (AEls.eqv (ATy.val (Ty.int Go.IntKind.i64) :: nilT ATy) x x) (some x) = some x := by
  intro x
  have:AEls.eqv (ATy.val (Ty.int Go.IntKind.i64) :: nilT ATy) x x = true := by
   change intEq x x = true
   simp [intEq]
  rw [this]; rfl
 unfold wM
 cases strEq k kT <;> cases strEq k kL <;> cases strEq k kP <;> simp [g]
theorem mark_bd {x:Mk} (h:MarkOk x):0 ≤ x.2.1 ∧ x.2.1 ≤ 863999999 := by
 unfold MarkOk markE at h
 split at h
 ·split at h
  ·cases h
  ·split at h
   ·cases h
   ·rename_i h3; have:x.2.1 = 0 := by simpa using h3
    omega
 ·split at h
  ·split at h
   ·cases h
   ·split at h
    ·cases h
    ·omega
  ·split at h
   ·split at h
    ·cases h
    ·split at h
     ·cases h
     ·omega
   ·split at h
    ·split at h
     ·cases h
     ·split at h
      ·cases h
      ·omega
    ·cases h
def wE (x:Mk):Int := wM x.1 x.2.1
def SameK (x y:Mk):Prop := strEq x.1 kN = true ∨ strEq y.1 kN = true ∨ strEq x.1 y.1 = true
theorem l241 (F:Nat) {x y:Mk} (hx:MarkOk x) (hy:MarkOk y):c241 F (x,y) = some (cmpI (wE x) (wE y)) := by
 unfold c241 cmpI wE
 obtain ⟨a1,a2⟩ := mark_bd hx
 obtain ⟨b1,b2⟩ := mark_bd hy
 simp only [l252 F _ (show -999999999 ≤ x.2.1 ∧ x.2.1 ≤ 999999999 by omega),l252 F _ (show -999999999 ≤ y.2.1 ∧ y.2.1 ≤ 999999999 by omega),Option.bind_some]
 by_cases h1:wM y.1 y.2.1 < wM x.1 x.2.1
 ·rw [cd_pos h1,if_pos h1]
 ·rw [cd_neg h1,if_neg h1]
  by_cases h2:wM x.1 x.2.1 < wM y.1 y.2.1
  ·rw [cd_pos h2,if_pos h2]
  ·rw [cd_neg h2,if_neg h2]
theorem l240 (F:Nat) {x y:Mk} (h:SameK x y):c240 F (x,y) = some false := by
 unfold c240
 simp only [kN_lit]
 unfold SameK at h
 cases h1:strEq x.1 y.1 <;> cases h2:strEq x.1 kN <;> cases h3:strEq y.1 kN <;> simp_all
theorem l205 {F:Nat} (hF:400 ≤ F) {x y:Mk} (hx:MarkOk x) (hy:MarkOk y) (h:SameK x y):c205 F (x,y) = some (cmpI (wE x) (wE y),0) := by
 unfold c205
 have q:∀ (a b c:Int),c175 F (a :: b :: c :: nilT Int) = some (firstNZ [a,b,c]) := by
  intro a b c
  rw [l175 (by simp [nilT]; omega) (by simp [nilT])]
  rfl
 have hx' := hx
 have hy' := hy
 unfold MarkOk at hx' hy'
 simp only [peta,l99 hF,l240 F h,l176,q,hx',hy',Option.bind_some,l241 F hx hy]
 rfl
theorem kinds {x:Mk} (h:MarkOk x):(strEq x.1 kN = true ∧ wE x = -864000000) ∨ (strEq x.1 kN = false ∧ strEq x.1 kT = true ∧ wE x = -x.2.1) ∨ (strEq x.1 kN = false ∧ strEq x.1 kT = false ∧ wE x = x.2.1) := by
 have hk := markE_kind h
 unfold kindOk at hk
 unfold wE wM
 cases hN:strEq x.1 kN with
 | true =>
  left
  refine ⟨rfl,?_⟩
  rw [if_neg (by rw [strEq_ne hN rfl]; simp),if_neg (by rw [strEq_ne hN rfl]; simp),if_neg (by rw [strEq_ne hN rfl]; simp)]
 | false =>
  right
  cases hT:strEq x.1 kT with
  | true=>left; exact ⟨rfl,rfl,by rw [if_pos rfl]⟩
  | false =>
   right
   refine ⟨rfl,rfl,?_⟩
   rw [if_neg (by simp)]
   rcases hk with hk | hk | hk | hk
   ·rw [hk] at hN; cases hN
   ·rw [hk] at hT; cases hT
   ·rw [if_pos hk]
   ·by_cases hL:strEq x.1 kL = true
    ·rw [if_pos hL]
    ·rw [if_neg hL,if_pos hk]
theorem l57 (F:Nat) {x y:Mk} (hx:MarkOk x) (hy:MarkOk y) (h:SameK x y):c57 F (x,y) = some (cmpI (wE x) (wE y)) := by
 unfold c57
 obtain ⟨a1,a2⟩ := mark_bd hx
 obtain ⟨b1,b2⟩ := mark_bd hy
 simp only [kN_lit,kT_lit']
 have ne1:strEq x.1 kN = true → strEq y.1 kN = false → strEq x.1 y.1 = false := fun p q=>by
  cases e:strEq x.1 y.1 with
  | false=>rfl
  | true=>rw [strEq_true] at e; rw [← e,p] at q; cases q
 have ne2:strEq x.1 kN = false → strEq y.1 kN = true → strEq x.1 y.1 = false := fun p q=>by
  cases e:strEq x.1 y.1 with
  | false=>rfl
  | true=>rw [strEq_true] at e; rw [← e,p] at q; cases q
 have fin:∀ a b:Int,(bif decide (b < a) then some (-1:Int) else bif decide (a < b) then some 1 else some 0) = some (cmpI a b) := by
  intro a b
  unfold cmpI
  by_cases h1:b < a
  ·rw [if_pos h1,cd_pos h1]
  ·rw [if_neg h1,cd_neg h1]
   by_cases h2:a < b
   ·rw [if_pos h2,cd_pos h2]
   ·rw [if_neg h2,cd_neg h2]
 rcases kinds hx with ⟨p1,p2⟩ | ⟨p1,p3,p2⟩ | ⟨p1,p3,p2⟩
 ·rcases kinds hy with ⟨q1,q2⟩ | ⟨q1,q3,q2⟩ | ⟨q1,q3,q2⟩
  ·have:strEq x.1 y.1 = true := by rw [strEq_true] at p1 q1 ⊢; rw [p1,q1]
   simp [p1,this,cmpI,p2,q2]
  ·have h1:¬ wE y < wE x := by omega
   have h2:wE x < wE y := by omega
   simp [p1,ne1 p1 q1,q1,cmpI,h1,h2]
  ·have h1:¬ wE y < wE x := by omega
   have h2:wE x < wE y := by omega
   simp [p1,ne1 p1 q1,q1,cmpI,h1,h2]
 ·rcases kinds hy with ⟨q1,q2⟩ | ⟨q1,q3,q2⟩ | ⟨q1,q3,q2⟩
  ·have h1:wE y < wE x := by omega
   simp [p1,ne2 p1 q1,q1,cmpI,h1]
  ·simp only [p1,q1,p3,cond_false,cond_true,Option.bind_some]
   rw [fin,p2,q2]
   unfold cmpI
   congr 1
   (repeat' split) <;> omega
  ·exfalso
   rcases h with h | h | h
   ·rw [h] at p1; cases p1
   ·rw [h] at q1; cases q1
   ·rw [strEq_true] at h; rw [← h,p3] at q3; cases q3
 ·rcases kinds hy with ⟨q1,q2⟩ | ⟨q1,q3,q2⟩ | ⟨q1,q3,q2⟩
  ·have h1:wE y < wE x := by omega
   simp [p1,ne2 p1 q1,q1,cmpI,h1]
  ·exfalso
   rcases h with h | h | h
   ·rw [h] at p1; cases p1
   ·rw [h] at q1; cases q1
   ·rw [strEq_true] at h; rw [← h,p3] at q3; cases q3
  ·simp only [p1,q1,p3,cond_false,cond_true,Option.bind_some]
   rw [fin,p2,q2]
def mkE (x:Ent):Mk := (x.2.2.1,x.2.2.2.1,x.2.2.2.2.1)
def dyE (x:Ent):Int := x.2.2.2.2.2.1
def ltE (x y:Ent):Bool := decide (wE (mkE y) < wE (mkE x)) || (decide (wE (mkE x) = wE (mkE y)) && decide (dyE x < dyE y))
structure EntOk2 (x y:Ent):Prop where
 mx:MarkOk (mkE x)
 my:MarkOk (mkE y)
 k:SameK (mkE x) (mkE y)
 dx:0 ≤ dyE x ∧ dyE x ≤ 99999
 dy:0 ≤ dyE y ∧ dyE y ≤ 99999
theorem l204 {F:Nat} (hF:400 ≤ F) {x y:Ent} (h:EntOk2 x y):∃ v,c204 F (x,y) = some v ∧ decide (v < 0) = ltE x y := by
 unfold c204
 have e := l205 hF h.mx h.my h.k
 simp only [mkE] at e
 simp only [e,Option.bind_some]
 have d1 := h.dx
 have d2 := h.dy
 have e2:w64 (x.2.2.2.2.2.1 - y.2.2.2.2.2.1) = dyE x - dyE y := by unfold dyE at d1 d2 ⊢; rw [w64_in (by omega) (by omega)]
 unfold cmpI ltE
 simp only [mkE] at *
 by_cases h1:wE (y.2.2.1,y.2.2.2.1,y.2.2.2.2.1) < wE (x.2.2.1,x.2.2.2.1,x.2.2.2.2.1)
 ·refine ⟨-1,?_,?_⟩ <;> simp [h1]
 ·by_cases h2:wE (x.2.2.1,x.2.2.2.1,x.2.2.2.2.1) < wE (y.2.2.1,y.2.2.2.1,y.2.2.2.2.1)
  ·refine ⟨1,?_,?_⟩
   ·simp [h1,h2]
   ·have:¬ wE (x.2.2.1,x.2.2.2.1,x.2.2.2.2.1) = wE (y.2.2.1,y.2.2.2.1,y.2.2.2.2.1) := by omega
    simp [h1,this]
  ·have h3:wE (x.2.2.1,x.2.2.2.1,x.2.2.2.2.1) = wE (y.2.2.1,y.2.2.2.1,y.2.2.2.2.1) := by omega
   refine ⟨dyE x - dyE y,?_,?_⟩
   ·simp [h3,e2]
   ·by_cases h4:dyE x < dyE y
    ·have:dyE x - dyE y < 0 := by omega
     simp [h3,h4,this]
    ·have:¬ dyE x - dyE y < 0 := by omega
     simp [h3,h4,this]
theorem l208 (F:Nat) {x y:Ent} (h:EntOk2 x y):c208 F (x,y) = some (!ltE y x) := by
 unfold c208
 have e := l57 F h.mx h.my h.k
 simp only [mkE] at e
 simp only [e,Option.bind_some]
 unfold cmpI ltE
 simp only [mkE,dyE] at *
 by_cases h1:wE (y.2.2.1,y.2.2.2.1,y.2.2.2.2.1) < wE (x.2.2.1,x.2.2.2.1,x.2.2.2.2.1)
 ·have h2:¬ wE (x.2.2.1,x.2.2.2.1,x.2.2.2.2.1) < wE (y.2.2.1,y.2.2.2.1,y.2.2.2.2.1) := by omega
  have h3:¬ wE (y.2.2.1,y.2.2.2.1,y.2.2.2.2.1) = wE (x.2.2.1,x.2.2.2.1,x.2.2.2.2.1) := by omega
  simp [h1,h2,h3]
 ·by_cases h2:wE (x.2.2.1,x.2.2.2.1,x.2.2.2.2.1) < wE (y.2.2.1,y.2.2.2.1,y.2.2.2.2.1)
  ·simp [h1,h2]
  ·have h3:wE (y.2.2.1,y.2.2.2.1,y.2.2.2.2.1) = wE (x.2.2.1,x.2.2.2.1,x.2.2.2.2.1) := by omega
   by_cases h4:x.2.2.2.2.2.1 ≤ y.2.2.2.2.2.1
   ·have h5:¬ y.2.2.2.2.2.1 < x.2.2.2.2.2.1 := by omega
    simp [h1,h2,h3,h4,h5]
   ·have h5:y.2.2.2.2.2.1 < x.2.2.2.2.2.1 := by omega
    simp [h1,h2,h3,h4,h5]
theorem tE:zEnt = dE := rfl
def posR (x:Ent) (l:List Ent):Nat → Nat
 | 0=>0
 | n + 1=>if ltE x (l.getD n dE) = true then posR x l n else n + 1
theorem posR_le (x:Ent) (l:List Ent):∀ n,posR x l n ≤ n
 | 0=>Nat.le_refl _
 | n + 1=>by
  unfold posR
  split
  ·have := posR_le x l n; omega
  ·exact Nat.le_refl _
def insR (l:List Ent) (x:Ent):List Ent := l.take (posR x l l.length) ++ x :: l.drop (posR x l l.length)
def sortR (l:List Ent):List Ent := l.foldl insR []
theorem insR_perm (l:List Ent) (x:Ent):(insR l x).Perm (x :: l) := by
 unfold insR
 refine List.perm_middle.trans ?_
 rw [List.take_append_drop]
theorem fold_perm:∀ (l o:List Ent),(l.foldl insR o).Perm (l ++ o)
 | [],o=>List.Perm.refl _
 | x :: l,o=>by
  rw [List.foldl_cons]
  refine (fold_perm l (insR o x)).trans ?_
  refine (List.Perm.append_left l (insR_perm o x)).trans ?_
  exact List.perm_middle
theorem sortR_perm (l:List Ent):(sortR l).Perm l := by
 have := fold_perm l []
 rw [List.append_nil] at this
 exact this
theorem sortR_len (l:List Ent):(sortR l).length = l.length := (sortR_perm l).length_eq
theorem sortR_snoc (l:List Ent) (x:Ent):sortR (l ++ [x]) = insR (sortR l) x := by
 unfold sortR
 rw [List.foldl_append]
 rfl
theorem sortR_take {l:List Ent} {i:Nat} {x:Ent} (h:l[i]? = some x):sortR (l.take (i + 1)) = insR (sortR (l.take i)) x := by
 rw [List.take_add_one,h]
 exact sortR_snoc _ _
def AllOk (l:List Ent):Prop := ∀ x ∈ l,∀ y ∈ l,EntOk2 x y
theorem AllOk.take {l:List Ent} (h:AllOk l) (i:Nat):AllOk (l.take i) := fun x hx y hy=>h x (List.mem_of_mem_take hx) y (List.mem_of_mem_take hy)
theorem mid_at {A R:List Ent} {y x:Ent} {j:Nat} (h:A.length = j):(A ++ y :: x :: R).getD (j + 1) dE = x := by
 rw [List.getD_eq_getElem?_getD,List.getElem?_append_right (by omega),show j + 1 - A.length = 1 by omega]
 rfl
theorem swap_mid {A R:List Ent} {y x:Ent} {j:Nat} (h:A.length = j):((A ++ y :: x :: R).set (j + 1) y).set j x = A ++ x :: y :: R := by
 have e:A ++ y :: x :: R = (A ++ [y]) ++ x :: R := by simp
 rw [e,set_mid (by simp [h]),show (A ++ [y]) ++ y :: R = A ++ y :: (y :: R) by simp,set_mid h]
theorem take_at {P:List Ent} {j:Nat} (h:j < P.length):P.take (j + 1) = P.take j ++ [P.getD j dE] := by
 rw [List.take_add_one,getD_at dE h]
 rfl
theorem drop_at {P:List Ent} {j:Nat} (h:j < P.length):P.drop j = P.getD j dE :: P.drop (j + 1) := by
 rw [List.drop_eq_getElem_cons h,List.getD_eq_getElem?_getD,List.getElem?_eq_getElem h]
 rfl
theorem split_all {P R:List Ent} {x:Ent} {n:Nat} (h:P.length = n):P ++ x :: R = P.take n ++ x :: (P.drop n ++ R) := by
 subst h
 simp
theorem ins_loop {step:List Ent × Int → Option ((List Ent × Int) ⊕ List Ent)} {x:Ent} {P R:List Ent}
  (hstep:∀ j,j < P.length → ltE x (P.getD j dE) = true → step (P.take j ++ P.getD j dE :: x :: (P.drop (j + 1) ++ R),((j + 1:Nat):Int)) = some (.inl (P.take j ++ x :: P.getD j dE :: (P.drop (j + 1) ++ R),(j:Int))))
  (hstop:∀ j,j < P.length → ltE x (P.getD j dE) = false → step (P.take j ++ P.getD j dE :: x :: (P.drop (j + 1) ++ R),((j + 1:Nat):Int)) = some (.inr (P.take j ++ P.getD j dE :: x :: (P.drop (j + 1) ++ R))))
  (h0:step (x :: (P ++ R),((0:Nat):Int)) = some (.inr (x :: (P ++ R)))) :
  ∀ (j F:Nat),j ≤ P.length → j < F → loopO step F (P.take j ++ x :: (P.drop j ++ R),(j:Int)) = some (P.take (posR x P j) ++ x :: (P.drop (posR x P j) ++ R))
 | 0,F,hj,hF=>by
  obtain ⟨G,rfl⟩:∃ G,F = G + 1 := ⟨F - 1,by omega⟩
  simp only [loopO,List.take_zero,List.drop_zero,List.nil_append,h0,posR]
 | j + 1,F,hj,hF=>by
  obtain ⟨G,rfl⟩:∃ G,F = G + 1 := ⟨F - 1,by omega⟩
  have e:P.take (j + 1) ++ x :: (P.drop (j + 1) ++ R) = P.take j ++ P.getD j dE :: x :: (P.drop (j + 1) ++ R) := by
   rw [take_at (by omega)]; simp
  rw [e]
  cases h:ltE x (P.getD j dE) with
  | true =>
   simp only [loopO,hstep j (by omega) h]
   have e2:P.take j ++ x :: P.getD j dE :: (P.drop (j + 1) ++ R) = P.take j ++ x :: (P.drop j ++ R) := by
    rw [drop_at (show j < P.length by omega)]; simp
   rw [e2,ins_loop hstep hstop h0 j G (by omega) (by omega)]
   simp only [posR,h,if_true]
  | false =>
   simp only [loopO,hstop j (by omega) h,posR,h,Bool.false_eq_true,if_false]
   rw [← e]
theorem x250 {F:Nat} (hF:400 ≤ F) {L:List Ent} (hl:L.length ≤ 300) (h:AllOk L):cx250_0 F (0,(L.length:Int),L) = some (sortR L) := by
 unfold cx250_0
 have e1:w64 (0 + 1) = 1 := w64_in (by omega) (by omega)
 simp only [tE,peta,e1,Nat.zero_add]
 by_cases hn:L.length = 0
 ·obtain rfl:L = [] := List.eq_nil_of_length_eq_zero hn
  obtain ⟨G,rfl⟩:∃ G,F = G + 1 := ⟨F - 1,by omega⟩
  simp (disch := decide) only [loopO,cd_neg,List.length_nil,Int.natCast_zero,Option.bind_some]
  rfl
 refine bind_list (L.drop 1) (fun (_:Unit) i=>(sortR (L.take (i + 1)) ++ L.drop (i + 1),((i + 1:Nat):Int))) (fun _ _=>(.inl ():Unit ⊕ List Ent)) (fun _=>sortR L) (fun _ _=>True) () (by rw [List.length_drop]; omega) ?_ trivial ?_ ?_ ?_
 ·show (L,((1:Nat):Int)) = _
  have:L.take 1 ++ L.drop 1 = L := List.take_append_drop 1 L
  rw [Nat.zero_add]
  congr 1
  cases L with
  | nil=>rfl
  | cons y t=>rfl
 ·intro i x _ hi hx _
  refine ⟨?_,fun _ _=>trivial⟩
  rw [List.length_drop] at hi
  rw [List.getElem?_drop,Nat.add_comm 1 i] at hx
  have hx':L[i + 1]? = some x := hx
  have hP:(sortR (L.take (i + 1))).length = i + 1 := by rw [sortR_len]; exact len_take (by omega)
  have hd:L.drop (i + 1) = x :: L.drop (i + 1 + 1) := by
   rw [List.drop_eq_getElem_cons (show i + 1 < L.length by omega)]
   congr 1
   rw [List.getElem?_eq_getElem (show i + 1 < L.length by omega)] at hx'
   exact Option.some.inj hx'
  have hmem:∀ j,j < i + 1 → (sortR (L.take (i + 1))).getD j dE ∈ L := fun j hj =>
   List.mem_of_mem_take ((sortR_perm _).mem_iff.1 (getD_in dE (by omega)))
  have hxm:x ∈ L := List.mem_of_getElem? hx'
  have hlen:∀ j,j < i + 1 → ∀ a b:Ent,((sortR (L.take (i + 1))).take j ++ a :: b :: ((sortR (L.take (i + 1))).drop (j + 1) ++ L.drop (i + 1 + 1))).length = L.length := fun j hj a b=>by
   simp only [List.length_append,List.length_cons,List.length_take,List.length_drop,hP]
   omega
  have htl:∀ j,j < i + 1 → ((sortR (L.take (i + 1))).take j).length = j := fun j hj=>len_take (by omega)
  simp (disch := omega) only [cd_pos]
  rw [sortR_take hx',hd]
  rw [split_all (R := L.drop (i + 1 + 1)) (x := x) hP]
  rw [ins_loop (x := x) (P := sortR (L.take (i + 1))) (R := L.drop (i + 1 + 1)) ?_ ?_ ?_ (i + 1) F (by omega) (by omega)]
  ·simp (disch := omega) only [Option.bind_some,w64_in]
   have:insR (sortR (L.take (i + 1))) x = (sortR (L.take (i + 1))).take (posR x (sortR (L.take (i + 1))) (i + 1)) ++ x :: (sortR (L.take (i + 1))).drop (posR x (sortR (L.take (i + 1))) (i + 1)) := by
    unfold insR; rw [hP]
   rw [this,List.append_assoc]
   rfl
  ·intro j hj hlt
   rw [hP] at hj
   obtain ⟨v,hv1,hv2⟩ := l204 hF (h x hxm _ (hmem j hj))
   rw [hlt] at hv2
   have hw:w64 (((j + 1:Nat):Int) - 1) = (j:Int) := by rw [w64_in (by omega) (by omega)]; omega
   have := hlen j hj
   simp (disch := first | omega | (rw [hlen j hj]; omega) | (rw [List.length_set,hlen j hj]; omega)) only [cd_pos,gd_dec,hw,Int.toNat_natCast,mid_at (htl j hj),getD_mid (htl j hj),hv1,hv2,Option.bind_some,cond_true,swap_mid (htl j hj)]
  ·intro j hj hlt
   rw [hP] at hj
   obtain ⟨v,hv1,hv2⟩ := l204 hF (h x hxm _ (hmem j hj))
   rw [hlt] at hv2
   have hw:w64 (((j + 1:Nat):Int) - 1) = (j:Int) := by rw [w64_in (by omega) (by omega)]; omega
   have := hlen j hj
   simp (disch := first | omega | (rw [hlen j hj]; omega)) only [cd_pos,gd_dec,hw,Int.toNat_natCast,mid_at (htl j hj),getD_mid (htl j hj),hv1,hv2,Option.bind_some,cond_false]
  ·simp (disch := omega) only [cd_neg,Option.bind_some,cond_false]
 ·intro _ _
  rw [List.length_drop]
  simp (disch := omega) only [cd_neg]
  rw [show L.length - 1 + 1 = L.length by omega,List.take_length,List.drop_length,List.append_nil]
 ·rw [goL_unit]
theorem x250_id {F:Nat} (hF:400 ≤ F) {a n:Int} (ha:0 ≤ a ∧ a ≤ 1000) (hn:n ≤ a + 1) (L:List Ent):cx250_0 F (a,n,L) = some L := by
 unfold cx250_0
 obtain ⟨G,rfl⟩:∃ G,F = G + 1 := ⟨F - 1,by omega⟩
 simp (disch := omega) only [loopO,w64_in,cd_neg,Option.bind_some]
theorem x239 {F:Nat} (hF:400 ≤ F) {L:List Ent} (hl:L.length ≤ 20) (h:AllOk L):cx239_0 F ((L.length:Int),L) = some (sortR L) := by
 unfold cx239_0
 obtain ⟨G,hG⟩:∃ G,F = G + 2 := ⟨F - 2,by omega⟩
 by_cases h20:L.length = 20
 ·have hs:(sortR L).length = L.length := sortR_len L
  have e1 := x250 hF (show L.length ≤ 300 by omega) h
  rw [h20] at e1
  have e1:cx250_0 F (0,20,L) = some (sortR L) := e1
  have hw:w64 (20 + 20) = 40 := w64_in (by omega) (by omega)
  have hl1:∀ (step:List Ent × Int × Int → Option ((List Ent × Int × Int) ⊕ (List Ent × Int))),step (L,0,20) = some (.inl (sortR L,20,40)) → step (sortR L,20,40) = some (.inr (sortR L,20)) → loopO step F (L,0,20) = some (sortR L,20) := fun step q1 q2=>by
   rw [hG]; simp only [loopO,q1,q2]
  rw [hl1]
  ·have e2 := x250_id hF (a := 20) (n := 20) (by omega) (by omega) (sortR L)
   simp only [h20,hs,decide_true,Bool.and_self,gd_true,Option.bind_some]
   have e3:cx250_0 F (20,((20:Nat):Int),sortR L) = some (sortR L) := e2
   simp only [e3,Option.bind_some]
   have hl2:∀ (step:List Ent × Int → Option ((List Ent × Int) ⊕ List Ent)),step (sortR L,20) = some (.inr (sortR L)) → loopO step F (sortR L,20) = some (sortR L) := fun step q=>by
    rw [hG]; simp only [loopO,q]
   rw [hl2]
   ·rfl
   ·simp (disch := omega) only [cd_neg]
  ·simp (disch := omega) only [cd_pos,h20,decide_true,Bool.and_self,gd_true,Option.bind_some,e1,hw]
  ·simp (disch := omega) only [cd_neg,h20]
 ·have hs:(sortR L).length = L.length := sortR_len L
  have e1 := x250 hF (show L.length ≤ 300 by omega) h
  have hl1:∀ (step:List Ent × Int × Int → Option ((List Ent × Int × Int) ⊕ (List Ent × Int))),step (L,0,20) = some (.inr (L,0)) → loopO step F (L,0,20) = some (L,0) := fun step q1=>by
   rw [hG]; simp only [loopO,q1]
  rw [hl1]
  ·simp only [decide_true,Bool.and_self,gd_true,Option.bind_some,e1]
   have hl2:∀ (step:List Ent × Int → Option ((List Ent × Int) ⊕ List Ent)),step (sortR L,20) = some (.inr (sortR L)) → loopO step F (sortR L,20) = some (sortR L) := fun step q=>by
    rw [hG]; simp only [loopO,q]
   rw [hl2]
   ·rfl
   ·simp (disch := omega) only [cd_neg]
  ·simp (disch := omega) only [cd_neg]
theorem x203 {F:Nat} (hF:400 ≤ F) {L:List Ent} (hl:L.length ≤ 20) (h:AllOk L):cx203_0 F L = some (sortR L) := by
 unfold cx203_0
 simp only [decide_true,Bool.and_self,gd_true,Option.bind_some,x239 hF hl h]
def selE (s:St3) (c:ByteArray):List Ent := s.2.2.2.1.filter fun e=>strEq e.2.1 c
def listS (s:St3) (c:ByteArray):List Ent := sortR (selE s c)
theorem l139 {F:Nat} (hF:400 ≤ F) {s:St3} (hS:SmS s) {c:ByteArray} (hl:(selE s c).length ≤ 20) (h:AllOk (selE s c)):c139 F (s,c) = some (listS s c) := by
 have e:∀ y:Ent,y :: nilT Ent = [y] := fun _=>rfl
 have h1 := hS.e
 unfold c139
 simp only [tE,peta]
 refine bind_sel s.2.2.2.1 (fun x=>strEq x.2.1 c) (fun x=>x) (by omega) ?_ ?_ ?_
 ·intro i x out hi hx ho
  have hl2:(out ++ [x]).length ≤ 301 := by simp; omega
  simp (disch := omega) only [cd_pos,gd_dec,Int.toNat_natCast,getD_some hx,w64_in,e,decide_true,Bool.and_self,gd_true,Option.bind_some]
  cases strEq x.2.1 c
  ·simp [gd_true]
  ·simp only [cond_true,if_true,Option.bind_some]
 ·intro out ho
  simp (disch := omega) only [cd_neg,decide_true,Bool.and_self,gd_true,Option.bind_some]
 ·intro _
  rw [List.map_id']
  have hs := sortR_len (selE s c)
  have e2 := x203 hF hl h
  unfold selE at hs e2 h hl
  simp only [decide_true,Bool.and_self,gd_true,Option.bind_some,e2,Nat.zero_add,hs,Nat.le_refl,List.drop_zero]
  rw [← hs,List.take_length]
  rfl
theorem pos_loop {step:Int → Option (Int ⊕ Int)} {x:Ent} {P:List Ent}
  (hstep:∀ j,j < P.length → ltE x (P.getD j dE) = true → step ((j + 1:Nat):Int) = some (.inl (j:Int)))
  (hstop:∀ j,j < P.length → ltE x (P.getD j dE) = false → step ((j + 1:Nat):Int) = some (.inr ((j + 1:Nat):Int)))
  (h0:step ((0:Nat):Int) = some (.inr ((0:Nat):Int))):∀ (j F:Nat),j ≤ P.length → j < F → loopO step F (j:Int) = some ((posR x P j:Nat):Int)
 | 0,F,hj,hF=>by
  obtain ⟨G,rfl⟩:∃ G,F = G + 1 := ⟨F - 1,by omega⟩
  simp only [loopO,h0,posR]
 | j + 1,F,hj,hF=>by
  obtain ⟨G,rfl⟩:∃ G,F = G + 1 := ⟨F - 1,by omega⟩
  cases h:ltE x (P.getD j dE) with
  | true =>
   simp only [loopO,hstep j (by omega) h]
   rw [pos_loop hstep hstop h0 j G (by omega) (by omega)]
   simp only [posR,h,if_true]
  | false =>
   simp only [loopO,hstop j (by omega) h,posR,h,Bool.false_eq_true,if_false]
theorem x151 {F:Nat} (hF:400 ≤ F) {L:List Ent} (hl:L.length ≤ 300) (h:AllOk L):cx151_0 F L = some (sortR L) := by
 have e:∀ y:Ent,y :: nilT Ent = [y] := fun _=>rfl
 unfold cx151_0
 simp only [tE,peta,Nat.zero_add]
 refine bind_list L (fun (_:Unit) i=>(sortR (L.take i),(i:Int))) (fun _ _=>(.inl ():Unit ⊕ List Ent)) (fun _=>sortR L) (fun _ _=>True) () (by omega) rfl trivial ?_ ?_ ?_
 ·intro i x _ hi hx _
  refine ⟨?_,fun _ _=>trivial⟩
  have hP:(sortR (L.take i)).length = i := by rw [sortR_len]; exact len_take (by omega)
  have hmem:∀ j,j < i → (sortR (L.take i)).getD j dE ∈ L := fun j hj =>
   List.mem_of_mem_take ((sortR_perm _).mem_iff.1 (getD_in dE (by omega)))
  have hxm:x ∈ L := List.mem_of_getElem? hx
  have hp := posR_le x (sortR (L.take i)) i
  have hti := sortR_take hx
  unfold insR at hti
  rw [hP] at hti
  generalize sortR (L.take i) = P at hP hmem hp hti
  simp (disch := omega) only [cd_pos]
  rw [show ((P.length:Nat):Int) = ((i:Nat):Int) by rw [hP]]
  rw [pos_loop (x := x) (P := P) ?_ ?_ ?_ i F (by omega) (by omega)]
  ·have n1:(P.take (posR x P i)).length = posR x P i := len_take (by omega)
   have n2:(nilT Ent ++ List.drop 0 (P.take (posR x P i))).length = posR x P i := by simp [nilT]; omega
   have n3:(nilT Ent ++ List.drop 0 (P.take (posR x P i)) ++ [x]).length = posR x P i + 1 := by simp [nilT]; omega
   have n4:(nilT Ent ++ List.drop 0 (P.take (posR x P i)) ++ [x] ++ List.drop (posR x P i) (P.take i)).length = i + 1 := by simp [nilT]; omega
   rw [hti]
   have n5:nilT Ent ++ List.drop 0 (P.take (posR x P i)) ++ [x] ++ List.drop (posR x P i) (P.take i) = P.take (posR x P i) ++ x :: P.drop (posR x P i) := by rw [← hP]; simp [nilT]
   simp (disch := omega) only [Option.bind_some,Int.toNat_natCast,getD_some hx,gd_dec,e,n2,n3,n4,decide_true,Bool.and_self,Bool.true_and,Bool.and_true,gd_true,w64_in,hP]
   rw [List.drop_zero] at n4 n5
   have n6:List.take (i + 1) (nilT Ent ++ P.take (posR x P i) ++ [x] ++ List.drop (posR x P i) (P.take i)) = P.take (posR x P i) ++ x :: P.drop (posR x P i) := by
    rw [List.take_of_length_le (by omega),n5]
   simp only [List.drop_zero,n6]
   rfl
  ·intro j hj hlt
   have hw:w64 (((j + 1:Nat):Int) - 1) = (j:Int) := by rw [w64_in (by omega) (by omega)]; omega
   simp (disch := omega) only [cd_pos,gd_dec,hw,Int.toNat_natCast,getD_some hx,l208 F (h _ (hmem j (by omega)) x hxm),hlt,Option.bind_some,Bool.not_true,Bool.not_false,cond_true]
  ·intro j hj hlt
   have hw:w64 (((j + 1:Nat):Int) - 1) = (j:Int) := by rw [w64_in (by omega) (by omega)]; omega
   simp (disch := omega) only [cd_pos,gd_dec,hw,Int.toNat_natCast,getD_some hx,l208 F (h _ (hmem j (by omega)) x hxm),hlt,Option.bind_some,Bool.not_true,Bool.not_false,cond_false]
  ·simp (disch := omega) only [cd_neg,Option.bind_some,cond_false]
 ·intro _ _
  rw [List.take_length]
  simp (disch := omega) only [cd_neg,decide_true,Bool.and_self,gd_true,Option.bind_some]
 ·rw [goL_unit]
theorem ent_ok {m:Mt} {s:St3} (hv:stE m s = 0) {x:Ent} (hx:x ∈ s.2.2.2.1) :
  0 ≤ cI m x.2.1 ∧ (cAt m x.2.1).2.2.2.2.2.2.2.2.2.2 ≤ 0 ∧ MarkOk (mkE x) ∧ suitB (cAt m x.2.1).2.1 x.2.2.1 = true ∧ 0 ≤ dyE x ∧ dyE x ≤ 99999 := by
 obtain ⟨i,hi,e⟩ := List.getElem_of_mem hx
 have h := st_ent hv hi
 have e2:s.2.2.2.1.getD i dE = x := by rw [getD_some (List.getElem?_eq_getElem hi),e]
 unfold entE at h
 rw [e2] at h
 by_cases h1:aI s x.1 < 0 ∨ cI m x.2.1 < 0
 ·simp [h1] at h
 ·rw [if_neg h1] at h
  by_cases h2:0 < (cAt m x.2.1).2.2.2.2.2.2.2.2.2.2
  ·simp [h2] at h
  ·rw [if_neg h2] at h
   by_cases h3:(s.2.2.2.1.take i).any (eP x.1 x.2.1) = true
   ·simp [h3] at h
   ·rw [if_neg h3] at h
    by_cases h4:markE x.2.2.1 x.2.2.2.1 x.2.2.2.2.1 = 0
    ·rw [if_pos h4] at h
     by_cases h5:suitB (cAt m x.2.1).2.1 x.2.2.1 = true
     ·rw [if_pos h5] at h
      by_cases h6:dayB x.2.2.2.2.2.1 = true
      ·simp [h6] at h
      ·unfold dayB at h6
       simp only [Bool.or_eq_true,decide_eq_true_eq] at h6
       refine ⟨by omega,by omega,h4,h5,?_,?_⟩ <;> (unfold dyE; omega)
     ·simp [h5] at h
    ·rw [if_neg h4] at h
     exact absurd h h4
theorem st_all {m:Mt} {s:St3} (hv:stE m s = 0) (c:ByteArray) {l:List Ent} (hl:∀ x ∈ l,x ∈ s.2.2.2.1 ∧ strEq x.2.1 c = true):AllOk l := by
 intro x hx y hy
 obtain ⟨hx1,hx2⟩ := hl x hx
 obtain ⟨hy1,hy2⟩ := hl y hy
 obtain ⟨-,-,a3,a4,a5⟩ := ent_ok hv hx1
 obtain ⟨-,-,b3,b4,b5⟩ := ent_ok hv hy1
 refine ⟨a3,b3,?_,a5,b5⟩
 have ex := strEq_true.1 hx2
 have ey := strEq_true.1 hy2
 rw [ex] at a4
 rw [ey] at b4
 unfold suitB at a4 b4
 simp only [Bool.or_eq_true] at a4 b4
 unfold SameK mkE
 rcases a4 with a4 | a4
 ·rcases b4 with b4 | b4
  ·right; right
   rw [strEq_true.1 a4,strEq_true.1 b4]
   exact strEq_self _
  ·exact .inr (.inl b4)
 ·exact .inl a4
def selC (s:St3) (c:ByteArray) (k:Bool):List Ent := s.2.2.2.1.filter fun e=>strEq e.2.1 c && (!k || e.2.2.2.2.2.2)
theorem selC_false (s:St3) (c:ByteArray):selC s c false = selE s c := by
 unfold selC selE
 simp
theorem selC_mem {s:St3} {c:ByteArray} {k:Bool}:∀ x ∈ selC s c k,x ∈ s.2.2.2.1 ∧ strEq x.2.1 c = true := fun x hx=>by
 unfold selC at hx
 rw [List.mem_filter] at hx
 obtain ⟨h1,h2⟩ := hx
 simp only [Bool.and_eq_true] at h2
 exact ⟨h1,h2.1⟩
theorem selC_len (s:St3) (c:ByteArray) (k:Bool):(selC s c k).length ≤ s.2.2.2.1.length := List.length_filter_le _ _
theorem l71 {F:Nat} (hF:400 ≤ F) {s:St3} (hS:SmS s) {c:ByteArray} {k:Bool} (h:AllOk (selC s c k)):c71 F (s,c,k) = some (sortR (selC s c k)) := by
 have e:∀ y:Ent,y :: nilT Ent = [y] := fun _=>rfl
 have h1 := hS.e
 have h2 := selC_len s c k
 unfold c71
 simp only [tE,peta]
 refine bind_sel s.2.2.2.1 (fun x=>strEq x.2.1 c && (!k || x.2.2.2.2.2.2)) (fun x=>x) (by omega) ?_ ?_ ?_
 ·intro i x out hi hx ho
  have hl2:(out ++ [x]).length ≤ 301 := by simp; omega
  simp (disch := omega) only [cd_pos,gd_dec,Int.toNat_natCast,getD_some hx,w64_in,e,decide_true,Bool.and_self,gd_true,Option.bind_some]
  cases strEq x.2.1 c
  ·simp [gd_true]
  ·cases k
   ·simp [gd_true]
   ·cases x.2.2.2.2.2.2 <;> simp [gd_true]
 ·intro out ho
  simp (disch := omega) only [cd_neg,decide_true,Bool.and_self,gd_true,Option.bind_some]
 ·intro _
  rw [List.map_id']
  have e2 := x151 hF (show (selC s c k).length ≤ 300 by omega) h
  unfold selC at e2 ⊢
  simp only [decide_true,Bool.and_self,gd_true,Option.bind_some,e2]
def cntB (l:List ByteArray) (c:ByteArray):Nat := (l.filter fun x=>strEq x c).length
theorem cntB_snoc (l:List ByteArray) (b c:ByteArray):cntB (l ++ [b]) c = cntB l c + if strEq b c = true then 1 else 0 := by
 unfold cntB
 rw [List.filter_append,List.length_append]
 cases h:strEq b c <;> simp [h]
theorem cntB_le (l:List ByteArray) (c:ByteArray):cntB l c ≤ l.length := List.length_filter_le _ _
abbrev Dv := List ByteArray × List ByteArray × List ByteArray
def inD (s:St3) (P C:Int) (d:Dv) (e:Ent):Bool := decide ((d.2.1.length:Int) < P) && decide ((cntB d.2.2 (clubOf s e.1):Int) < C)
def divS (s:St3) (P C:Int) (d:Dv) (e:Ent):Dv := if inD s P C d e = true then (d.1,d.2.1 ++ [e.1],d.2.2 ++ [clubOf s e.1]) else (d.1 ++ [e.1],d.2.1,d.2.2)
def divL (s:St3) (P C:Int) (L:List Ent):Dv := L.foldl (divS s P C) ([],[],[])
theorem divS_len (s:St3) (P C:Int) (d:Dv) (e:Ent):(divS s P C d e).1.length + (divS s P C d e).2.1.length = d.1.length + d.2.1.length + 1 ∧ ((divS s P C d e).2.1.length = (divS s P C d e).2.2.length ↔ d.2.1.length = d.2.2.length) := by
 unfold divS
 cases inD s P C d e <;> simp <;> omega
def MapR (q:List (ByteArray × Int)) (l:List ByteArray):Prop := ∀ k,mgetD strEq k q 0 = (cntB l k:Int)
theorem MapR.put {q:List (ByteArray × Int)} {l:List ByteArray} (h:MapR q l) (b:ByteArray):MapR (mput strEq b (mgetD strEq b q 0 + 1) q) (l ++ [b]) := by
 intro k
 rw [mgetD_mput strEq_iff,cntB_snoc]
 have h1 := h k
 have h2 := h b
 by_cases e:b = k
 ·subst e
  simp [strEq_self,h1]
 ·simp [strEq_false e,strEq_false (fun h:k = b=>e h.symm),h1]
end Go.Proofs.Tryz
