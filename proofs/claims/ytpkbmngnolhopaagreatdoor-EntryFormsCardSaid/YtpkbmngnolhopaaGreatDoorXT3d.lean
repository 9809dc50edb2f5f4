/- Plain law: states, in the program and in the reference. -/
import Derived.Test.YtpkbmngnolhopaaGreatDoorXT3c
import Derived.Test.YtpkbmngnolhopaaGreatDoorXTeB1
set_option maxRecDepth 100000
set_option linter.unusedVariables false
set_option linter.unusedSimpArgs false
namespace Go.Proofs.Tryz
open Go Go.Sx
theorem eqv_A (n:Nat) (x:Int):AltsEl.eqv ((Exit.normal,({ cells := Cel.slot n (ATy.val (Ty.int IntKind.i64)) :: nilT Cel,owns := nilT (Nat × Lk) }:Tmpl)) :: nilT (Exit × Tmpl)) x x = true :=
 AltsEl.eqv_rf ((Exit.normal,({ cells := Cel.slot n (ATy.val (Ty.int IntKind.i64)) :: nilT Cel,owns := nilT (Nat × Lk) }:Tmpl)) :: nilT (Exit × Tmpl)) x
theorem strEq_comm (a b:ByteArray):strEq a b = strEq b a := by
 rw [strEq_dec,strEq_dec]
 exact decide_eq_decide.2 ⟨Eq.symm,Eq.symm⟩
abbrev Ath := TAth
abbrev Lic := ByteArray × Int × Int
abbrev Ent := TEnt
abbrev Tm := TTm
abbrev St3 := List ByteArray × List Ath × List Lic × List Ent × List Tm
def dA:Ath := zAth
def dL:Lic := (ByteArray.empty,(0:Int),(0:Int))
def dE:Ent := zEnt
def dT:Tm := (ByteArray.empty,ByteArray.empty,nilT ByteArray)
theorem getD_at {α:Type} {l:List α} {i:Nat} (d:α) (hi:i < l.length):l[i]? = some (l.getD i d) := by
 rw [List.getD_eq_getElem?_getD,List.getElem?_eq_getElem hi]
 rfl
theorem getD_in {α:Type} {l:List α} {i:Nat} (d:α) (hi:i < l.length):l.getD i d ∈ l := List.mem_of_getElem? (getD_at d hi)
structure SmS (s:St3):Prop where
 c:s.1.length ≤ 300
 a:s.2.1.length ≤ 300
 l:s.2.2.1.length ≤ 300
 e:s.2.2.2.1.length ≤ 300
 t:s.2.2.2.2.length ≤ 300
 cn:∀ x ∈ s.1,x.size ≤ 300
 an:∀ x ∈ s.2.1,x.1.size ≤ 300 ∧ x.2.2.2.size ≤ 300
 tn:∀ x ∈ s.2.2.2.2,x.2.2.length ≤ 300
def aI (s:St3) (x:ByteArray):Int := idxI (fun y=>strEq y.1 x) s.2.1
def eP (a c:ByteArray) (y:Ent):Bool := strEq y.1 a && strEq y.2.1 c
def tP (a c:ByteArray) (y:Tm):Bool := strEq y.1 a && strEq y.2.1 c
def eI (s:St3) (a c:ByteArray):Int := idxI (eP a c) s.2.2.2.1
def tI (s:St3) (a c:ByteArray):Int := idxI (tP a c) s.2.2.2.2
def cI (m:Mt) (x:ByteArray):Int := idxI (fun y=>strEq y.1 x) m.2.2.2.2
def hasB (l:List ByteArray) (x:ByteArray):Bool := l.any fun y=>strEq y x
theorem hasB_comm (l:List ByteArray) (x:ByteArray):(l.any fun y=>strEq x y) = hasB l x := by
 unfold hasB
 congr 1
 funext y
 exact strEq_comm _ _
theorem l107' {F:Nat} (hF:400 ≤ F) {l:List ByteArray} {x:ByteArray} (hl:l.length ≤ 300):c107 F (l,x) = some (hasB l x) := by
 rw [l107 hF hl,hasB_comm]
theorem x184 {F:Nat} {l:List Ath} (hF:l.length < F) (hl:l.length ≤ 1000) (x:ByteArray):cx184_0 F (l,x) = some (idxI (fun y=>strEq y.1 x) l) := by
 unfold cx184_0
 refine bind_idx l _ hF ?_ ?_
 ·intro i y hi hy
  simp (disch := omega) only [cd_pos,gd_dec,Int.toNat_natCast,getD_some hy,w64_in]
  cases strEq y.1 x <;> rfl
 ·simp (disch := omega) only [cd_neg]
theorem l110 {F:Nat} (hF:400 ≤ F) {s:St3} (h:SmS s) (x:ByteArray):c110 F (s,x) = some (aI s x) := by
 unfold c110 aI
 have := h.a
 simp only [x184 (F := F) (l := s.2.1) (by omega) (by omega),Option.bind_some]
theorem l111 {F:Nat} (hF:400 ≤ F) {s:St3} (h:SmS s) (x:ByteArray):c111 F (s,x) = some (hasB s.1 x) := by
 unfold c111
 simp only [l107' hF h.c,Option.bind_some]
theorem x224 (F:Nat) (y:Ent) (a c:ByteArray):cx224_0 F (y,a,c) = some (eP a c y) := by
 unfold cx224_0 eP
 cases strEq y.1 a <;> rfl
theorem x226 (F:Nat) (y:Tm) (a c:ByteArray):cx226_0 F (y,a,c) = some (tP a c y) := by
 unfold cx226_0 tP
 cases strEq y.1 a <;> rfl
theorem x207 {F:Nat} {l:List Ent} (hF:l.length < F) (hl:l.length ≤ 1000) (a c:ByteArray):cx207_0 F (l,a,c) = some (idxI (eP a c) l) := by
 unfold cx207_0
 refine bind_idx l _ hF ?_ ?_
 ·intro i y hi hy
  simp (disch := omega) only [cd_pos,gd_dec,Int.toNat_natCast,getD_some hy,w64_in,peta,x224,Option.bind_some]
  cases eP a c y <;> rfl
 ·simp (disch := omega) only [cd_neg]
theorem x225 {F:Nat} {l:List Tm} (hF:l.length < F) (hl:l.length ≤ 1000) (a c:ByteArray):cx225_0 F (l,a,c) = some (idxI (tP a c) l) := by
 unfold cx225_0
 refine bind_idx l _ hF ?_ ?_
 ·intro i y hi hy
  simp (disch := omega) only [cd_pos,gd_dec,Int.toNat_natCast,getD_some hy,w64_in,peta,x226,Option.bind_some]
  cases tP a c y <;> rfl
 ·simp (disch := omega) only [cd_neg]
theorem l186 {F:Nat} (hF:400 ≤ F) {s:St3} (h:SmS s) (a c:ByteArray):c186 F (s,a,c) = some (eI s a c) := by
 unfold c186 eI
 have := h.e
 simp only [x207 (F := F) (l := s.2.2.2.1) (by omega) (by omega),Option.bind_some]
theorem l187 {F:Nat} (hF:400 ≤ F) {s:St3} (h:SmS s) (a c:ByteArray):c187 F (s,a,c) = some (tI s a c) := by
 unfold c187 tI
 have := h.t
 simp only [x225 (F := F) (l := s.2.2.2.2) (by omega) (by omega),Option.bind_some]
def zeroC:Cst := ({ data := List.toArray (nilT UInt8) },{ data := List.toArray (nilT UInt8) },{ data := List.toArray (nilT UInt8) },0,0,0,0,{ data := List.toArray (nilT UInt8) },0,{ data := List.toArray (nilT UInt8) },0)
def cAt (m:Mt) (x:ByteArray):Cst := m.2.2.2.2.getD (cI m x).toNat dC
theorem l131 {F:Nat} (hF:400 ≤ F) {m:Mt} (hl:m.2.2.2.2.length ≤ 300) (x:ByteArray):c131 F (m,x) = some (if cI m x < 0 then (zeroC,false) else (cAt m x,true)) := by
 have hd:zCst = dC := rfl
 unfold c131
 simp only [x154b (F := F) (l := m.2.2.2.2) (by omega) (by omega),Option.bind_some]
 by_cases h:cI m x < 0
 ·have h':idxI (fun y:Cst=>strEq y.1 x) m.2.2.2.2 < 0 := h
  simp only [h,h',decide_true,cond_true,if_true]
  rfl
 ·have h':¬ idxI (fun y:Cst=>strEq y.1 x) m.2.2.2.2 < 0 := h
  obtain ⟨k,y,h1,h2,h3,h4⟩ := idxI_get (p := fun y:Cst=>strEq y.1 x) (l := m.2.2.2.2) (by omega)
  simp only [h,h',decide_false,cond_false,if_false]
  unfold cAt cI
  simp (disch := omega) only [h1,gd_dec,Int.toNat_natCast,hd,peta]
def cluE (l:List ByteArray) (i:Nat):Int := if nameB (l.getD i ByteArray.empty) = true then (if hasB (l.take i) (l.getD i ByteArray.empty) = true then 9 else 0) else 8
def athE (s:St3) (i:Nat):Int :=
 if nameB (s.2.1.getD i dA).1 = true then
  (if ((s.2.1.take i).any fun y=>strEq y.1 (s.2.1.getD i dA).1) = true then 9 else if hasB s.1 (s.2.1.getD i dA).2.1 = true then (if dayB (s.2.1.getD i dA).2.2.1 = true then 3 else if nameB (s.2.1.getD i dA).2.2.2 = true then 0 else 8) else 10)
 else 8
def licS (s:St3) (i:Nat):Int := if aI s (s.2.2.1.getD i dL).1 < 0 then 10 else spanE (s.2.2.1.getD i dL).2.1 (s.2.2.1.getD i dL).2.2
def entE (m:Mt) (s:St3) (i:Nat):Int :=
 if aI s (s.2.2.2.1.getD i dE).1 < 0 ∨ cI m (s.2.2.2.1.getD i dE).2.1 < 0 then 10 else if 0 < (cAt m (s.2.2.2.1.getD i dE).2.1).2.2.2.2.2.2.2.2.2.2 then 13
 else if (s.2.2.2.1.take i).any (eP (s.2.2.2.1.getD i dE).1 (s.2.2.2.1.getD i dE).2.1) = true then 9
 else if markE (s.2.2.2.1.getD i dE).2.2.1 (s.2.2.2.1.getD i dE).2.2.2.1 (s.2.2.2.1.getD i dE).2.2.2.2.1 = 0 then (if suitB (cAt m (s.2.2.2.1.getD i dE).2.1).2.1 (s.2.2.2.1.getD i dE).2.2.1 = true then (if dayB (s.2.2.2.1.getD i dE).2.2.2.2.2.1 = true then 3 else 0) else 13)
 else markE (s.2.2.2.1.getD i dE).2.2.1 (s.2.2.2.1.getD i dE).2.2.2.1 (s.2.2.2.1.getD i dE).2.2.2.2.1
def runE (s:St3) (l:List ByteArray) (i:Nat):Int := if aI s (l.getD i ByteArray.empty) < 0 then 10 else if hasB (l.take i) (l.getD i ByteArray.empty) = true then 9 else 0
def teamE (m:Mt) (s:St3) (i:Nat):Int :=
 if hasB s.1 (s.2.2.2.2.getD i dT).1 = false ∨ cI m (s.2.2.2.2.getD i dT).2.1 < 0 then 10 else if (cAt m (s.2.2.2.2.getD i dT).2.1).2.2.2.2.2.2.2.2.2.2 = 0 then 13
 else if (s.2.2.2.2.take i).any (tP (s.2.2.2.2.getD i dT).1 (s.2.2.2.2.getD i dT).2.1) = true then 9
 else if ((s.2.2.2.2.getD i dT).2.2.length:Int) = (cAt m (s.2.2.2.2.getD i dT).2.1).2.2.2.2.2.2.2.2.2.2 then firstNZ ((List.range (s.2.2.2.2.getD i dT).2.2.length).map (runE s (s.2.2.2.2.getD i dT).2.2)) else 2
theorem bind_each {γ:Type} {step:Int → Option (Int ⊕ (Int ⊕ Unit))} {F:Nat} {k:Int ⊕ Unit → Option γ} {r:Option γ} (n:Nat) (e:Nat → Int) (hF:n < F) (hn:n ≤ 1000)
  (hstep:∀ (i:Nat),i < n → step (i:Int) = some (if e i = 0 then .inl ((i:Int) + 1) else .inr (.inl (e i))))
  (hend:step (n:Int) = some (.inr (.inr ())))
  (hk:k (if firstNZ ((List.range n).map e) = 0 then .inr () else .inl (firstNZ ((List.range n).map e))) = r):Option.bind (loopO step F 0) k = r := by
 refine bind_first (List.range n) e (by simpa using hF) ?_ ?_ hk
 ·intro i x hi hx
  obtain rfl := range_get hx
  exact hstep x (by simpa using hi)
 ·simpa using hend
theorem elim_first (x:Int):Sum.elim (fun (a:Int)=>some a) (fun (_:Unit)=>some (0:Int)) (if x = 0 then Sum.inr () else Sum.inl x) = some x := by
 by_cases h:x = 0 <;> simp [h]
theorem cond_err (x:Int) (a:Int):(bif !decide (x = 0) then some (Sum.inr (Sum.inl x):Int ⊕ (Int ⊕ Unit)) else some (Sum.inl a)) = some (if x = 0 then .inl a else .inr (.inl x)) := by
 by_cases h:x = 0 <;> simp [h]
theorem x106 {F:Nat} (hF:400 ≤ F) {s:St3} (h:SmS s) {i:Nat} (hi:i < s.1.length):cx106_0 F ((i:Int),s.1.getD i ByteArray.empty,s) = some (cluE s.1 i) := by
 have h1 := h.c
 unfold cx106_0 cluE
 have hi':(i:Int) ≤ s.1.length := by omega
 simp only [Int.toNat_natCast,List.drop_zero,hi',Int.natCast_nonneg,decide_true,gd_true,l92 hF (h.cn _ (getD_in _ hi)),l107' hF (l := s.1.take i) (x := s.1.getD i ByteArray.empty) (by simp; omega),l86,Option.bind_some]
 rw [l84' hF (by simp [nilT])]
 simp only [Option.bind_some,nilT,firstNZ]
 cases nameB (s.1.getD i ByteArray.empty)
 ·simp
 ·cases hasB (s.1.take i) (s.1.getD i ByteArray.empty) <;> simp
theorem x100b {F:Nat} (hF:400 ≤ F) {s:St3} (h:SmS s):cx100_1 F (s.1,s) = some (firstNZ ((List.range s.1.length).map (cluE s.1))) := by
 have h1 := h.c
 unfold cx100_1
 refine bind_each s.1.length (cluE s.1) (by omega) (by omega) ?_ ?_ (elim_first _)
 ·intro i hi
  simp (disch := omega) only [cd_pos,gd_dec,Int.toNat_natCast,w64_in,peta,x106 hF h hi,Option.bind_some,cond_err]
 ·simp (disch := omega) only [cd_neg]
theorem x109 {F:Nat} (hF:400 ≤ F) {s:St3} (h:SmS s) {i:Nat} (hi:i < s.2.1.length):cx109_0 F ((i:Int),s.2.1.getD i dA,s) = some (athE s i) := by
 have h1 := h.c
 obtain ⟨hn1,hn2⟩ := h.an _ (getD_in dA hi)
 have e1:∀ x,c85 F (x :: nilT Int) = some (if dayB x = true then 3 else 0) := fun x=>by
  rw [l85 (by simp [nilT]; omega) (by simp [nilT])]
  simp [nilT]
 have e5:∀ a b c d e,c84 F (a :: b :: c :: d :: e :: nilT Int) = some (firstNZ [a,b,c,d,e]) := fun a b c d e=>l84' hF (by simp [nilT])
 have hlt := idxI_lt (p := fun y:Ath=>strEq y.1 (s.2.1.getD i dA).1) (getD_at dA hi) (strEq_self _)
 unfold cx109_0 athE tw
 simp only [peta,l92 hF hn1,l92 hF hn2,l110 hF h,l111 hF h,l86,e1,e5,Option.bind_some]
 rw [show decide (aI s (s.2.1.getD i dA).1 < (i:Int)) = _ from hlt]
 generalize nameB (s.2.1.getD i dA).1 = q1
 generalize ((s.2.1.take i).any fun y=>strEq y.1 (s.2.1.getD i dA).1) = q2
 generalize hasB s.1 (s.2.1.getD i dA).2.1 = q3
 generalize dayB (s.2.1.getD i dA).2.2.1 = q4
 generalize nameB (s.2.1.getD i dA).2.2.2 = q5
 have key:firstNZ [if q1 = true then 0 else 8,if q2 = true then 9 else 0,if (!q3) = true then 10 else 0,if q4 = true then 3 else 0,if q5 = true then 0 else 8] = if q1 = true then (if q2 = true then 9 else if q3 = true then (if q4 = true then 3 else if q5 = true then 0 else 8) else 10) else 8 := by
  cases q1 <;> cases q2 <;> cases q3 <;> cases q4 <;> cases q5 <;> rfl
 simp only [key,Option.bind_some,decide_true,Bool.and_self,gd_true,eqv_self,eqv_C,eqv_A]
theorem x108 {F:Nat} (hF:400 ≤ F) {s:St3} (h:SmS s):cx108_0 F (s.2.1,s) = some (firstNZ ((List.range s.2.1.length).map (athE s))) := by
 have h1 := h.a
 have hd:zAth = dA := rfl
 unfold cx108_0
 refine bind_each s.2.1.length (athE s) (by omega) (by omega) ?_ ?_ (elim_first _)
 ·intro i hi
  simp (disch := omega) only [cd_pos,gd_dec,Int.toNat_natCast,w64_in,hd,peta,x109 hF h hi,Option.bind_some,cond_err]
 ·simp (disch := omega) only [cd_neg]
theorem x113 {F:Nat} (hF:400 ≤ F) {s:St3} (h:SmS s) (i:Nat):cx113_0 F ((i:Int),s.2.2.1.getD i dL,s) = some (licS s i) := by
 unfold cx113_0 licS
 simp only [peta,l110 hF h,l86,Option.bind_some]
 rw [show c114 F (s.2.2.1.getD i dL) = some (spanE (s.2.2.1.getD i dL).2.1 (s.2.2.1.getD i dL).2.2) from l114 hF _ _ _]
 simp only [Option.bind_some]
 rw [l84' hF (by simp [nilT])]
 simp only [Option.bind_some,nilT,firstNZ]
 generalize spanE (s.2.2.1.getD i dL).2.1 (s.2.2.1.getD i dL).2.2 = w
 generalize aI s (s.2.2.1.getD i dL).1 = v
 by_cases h1:v < 0
 ·simp [h1]
 ·by_cases h2:w = 0 <;> simp [h1,h2]
theorem x112b {F:Nat} (hF:400 ≤ F) {s:St3} (h:SmS s):cx112_1 F (s.2.2.1,s) = some (firstNZ ((List.range s.2.2.1.length).map (licS s))) := by
 have h1 := h.l
 have hd:(ByteArray.empty,(0:Int),(0:Int)) = dL := rfl
 unfold cx112_1
 refine bind_each s.2.2.1.length (licS s) (by omega) (by omega) ?_ ?_ (elim_first _)
 ·intro i hi
  simp (disch := omega) only [cd_pos,gd_dec,Int.toNat_natCast,w64_in,hd,peta,x113 hF h,Option.bind_some,cond_err]
 ·simp (disch := omega) only [cd_neg]
theorem l117 {F:Nat} (hF:400 ≤ F) {m:Mt} (hm:m.2.2.2.2.length ≤ 300) {s:St3} (h:SmS s) {i:Nat} (hi:i < s.2.2.2.1.length):c117 F (s,m,(i:Int),s.2.2.2.1.getD i dE) = some (entE m s i) := by
 have e1:∀ x,c85 F (x :: nilT Int) = some (if dayB x = true then 3 else 0) := fun x=>by
  rw [l85 (by simp [nilT]; omega) (by simp [nilT])]
  simp [nilT]
 have e6:∀ a b c d e f,c84 F (a :: b :: c :: d :: e :: f :: nilT Int) = some (firstNZ [a,b,c,d,e,f]) := fun a b c d e f=>l84' hF (by simp [nilT])
 have hlt := idxI_lt (p := eP (s.2.2.2.1.getD i dE).1 (s.2.2.2.1.getD i dE).2.1) (getD_at dE hi) (by simp [eP,strEq_self])
 unfold c117 entE tw
 simp only [peta,l131 hF hm,Option.bind_some]
 generalize s.2.2.2.1.getD i dE = x at hlt
 have hlt:decide (eI s x.1 x.2.1 < (i:Int)) = _ := hlt
 generalize cAt m x.2.1 = ct
 generalize hw:(if cI m x.2.1 < 0 then (zeroC,false) else (ct,true)) = w
 simp only [l86,l99 hF,l110 hF h,l155,l186 hF h,e1,e6,hlt,Option.bind_some]
 generalize hsu:suitB w.1.2.1 x.2.2.1 = su
 generalize ((s.2.2.2.1.take i).any (eP x.1 x.2.1)) = tw
 generalize hme:markE x.2.2.1 x.2.2.2.1 x.2.2.2.2.1 = me
 generalize dayB x.2.2.2.2.2.1 = db
 have ea:(decide (aI s x.1 < 0)) = decide (aI s x.1 < 0) := rfl
 by_cases hc:cI m x.2.1 < 0
 ·rw [if_pos hc] at hw
  subst hw
  have k0:∀ a b c d e,firstNZ [10,a,b,c,d,e] = 10 := fun _ _ _ _ _=>by simp [firstNZ]
  simp only [hc,or_true,if_true,Bool.not_false,cond_true,k0,Option.bind_some,decide_true,Bool.and_self,gd_true,eqv_self,eqv_C,eqv_A]
 ·rw [if_neg hc] at hw
  subst hw
  simp only [hc,or_false,Bool.not_true,cond_false]
  have key:firstNZ [if decide (aI s x.1 < 0) = true then 10 else 0,if decide (0 < ct.2.2.2.2.2.2.2.2.2.2) = true then 13 else 0,if tw = true then 9 else 0,me,if (!su) = true then 13 else 0,if db = true then 3 else 0]
    = if aI s x.1 < 0 then 10 else if 0 < ct.2.2.2.2.2.2.2.2.2.2 then 13 else if tw = true then 9 else if me = 0 then (if su = true then (if db = true then 3 else 0) else 13) else me := by
   by_cases g1:aI s x.1 < 0
   ·simp [g1,firstNZ]
   ·by_cases g2:0 < ct.2.2.2.2.2.2.2.2.2.2
    ·simp [g1,g2,firstNZ]
    ·cases tw
     ·by_cases g3:me = 0
      ·cases su <;> cases db <;> simp [g1,g2,g3,firstNZ]
      ·simp [g1,g2,g3,firstNZ]
     ·simp [g1,g2,firstNZ]
  simp only [hsu,key,Option.bind_some,decide_true,Bool.and_self,gd_true,eqv_self,eqv_C,eqv_A]
theorem x115 {F:Nat} (hF:400 ≤ F) {m:Mt} (hm:m.2.2.2.2.length ≤ 300) {s:St3} (h:SmS s):cx115_0 F (s.2.2.2.1,s,m) = some (firstNZ ((List.range s.2.2.2.1.length).map (entE m s))) := by
 have h1 := h.e
 have hd:zEnt = dE := rfl
 have e:∀ i,i < s.2.2.2.1.length → cx116_0 F ((i:Int),s.2.2.2.1.getD i dE,s,m) = some (entE m s i) := fun i hi=>by
  unfold cx116_0
  simp only [peta,l117 hF hm h hi,Option.bind_some]
 unfold cx115_0
 refine bind_each s.2.2.2.1.length (entE m s) (by omega) (by omega) ?_ ?_ (elim_first _)
 ·intro i hi
  simp (disch := omega) only [cd_pos,gd_dec,Int.toNat_natCast,w64_in,hd,peta,e i hi,Option.bind_some,cond_err]
 ·simp (disch := omega) only [cd_neg]
theorem x100 {F:Nat} (hF:400 ≤ F) {s:St3} (h:SmS s) {l:List ByteArray} (hl:l.length ≤ 300) (a b:ByteArray):cx100_0 F (l,s,a,b,l) = some (firstNZ ((List.range l.length).map (runE s l))) := by
 have e:∀ i,i < l.length → cx188_0 F ((i:Int),l.getD i ByteArray.empty,s,a,b,l) = some (runE s l i) := fun i hi=>by
  unfold cx188_0 runE
  have hi':(i:Int) ≤ l.length := by omega
  simp only [peta,Int.toNat_natCast,List.drop_zero,hi',Int.natCast_nonneg,decide_true,gd_true,l110 hF h,l107' hF (l := l.take i) (x := l.getD i ByteArray.empty) (by simp; omega),l86,Option.bind_some]
  rw [l84' hF (by simp [nilT])]
  simp only [Option.bind_some,nilT,firstNZ]
  generalize aI s (l.getD i ByteArray.empty) = v
  generalize hasB (l.take i) (l.getD i ByteArray.empty) = q
  by_cases h1:v < 0
  ·simp [h1]
  ·cases q <;> simp [h1]
 unfold cx100_0
 refine bind_each l.length (runE s l) (by omega) (by omega) ?_ ?_ (elim_first _)
 ·intro i hi
  simp (disch := omega) only [cd_pos,gd_dec,Int.toNat_natCast,w64_in,peta,e i hi,Option.bind_some,cond_err]
 ·simp (disch := omega) only [cd_neg]
theorem l120 {F:Nat} (hF:400 ≤ F) {m:Mt} (hm:m.2.2.2.2.length ≤ 300) {s:St3} (h:SmS s) {i:Nat} (hi:i < s.2.2.2.2.length):c120 F (s,m,(i:Int),s.2.2.2.2.getD i dT) = some (teamE m s i) := by
 have e4:∀ a b c d,c84 F (a :: b :: c :: d :: nilT Int) = some (firstNZ [a,b,c,d]) := fun a b c d=>l84' hF (by simp [nilT])
 have hlt := idxI_lt (p := tP (s.2.2.2.2.getD i dT).1 (s.2.2.2.2.getD i dT).2.1) (getD_at dT hi) (by simp [tP,strEq_self])
 have hrl := h.tn _ (getD_in dT hi)
 unfold c120 teamE
 simp only [peta,l131 hF hm,Option.bind_some]
 generalize s.2.2.2.2.getD i dT = x at hlt hrl
 have hlt:decide (tI s x.1 x.2.1 < (i:Int)) = _ := hlt
 generalize cAt m x.2.1 = ct
 generalize hw:(if cI m x.2.1 < 0 then (zeroC,false) else (ct,true)) = w
 simp only [l86,l111 hF h,l187 hF h,e4,hlt,x100 hF h hrl,Option.bind_some]
 generalize ((s.2.2.2.2.take i).any (tP x.1 x.2.1)) = tw
 generalize firstNZ ((List.range x.2.2.length).map (runE s x.2.2)) = re
 by_cases hc:cI m x.2.1 < 0
 ·rw [if_pos hc] at hw
  subst hw
  have k0:∀ a b c,firstNZ [10,a,b,c] = 10 := fun _ _ _=>by simp [firstNZ]
  simp [hc,k0]
 ·rw [if_neg hc] at hw
  subst hw
  simp only [hc,or_false,Bool.not_true,cond_false]
  cases hasB s.1 x.1
  ·simp [firstNZ]
  ·by_cases g1:ct.2.2.2.2.2.2.2.2.2.2 = 0
   ·simp [g1,firstNZ]
   ·cases tw
    ·by_cases g2:(x.2.2.length:Int) = ct.2.2.2.2.2.2.2.2.2.2
     ·simp [g1,g2,firstNZ]
     ·simp [g1,g2,firstNZ]
    ·simp [g1,firstNZ]
theorem x118 {F:Nat} (hF:400 ≤ F) {m:Mt} (hm:m.2.2.2.2.length ≤ 300) {s:St3} (h:SmS s):cx118_0 F (s.2.2.2.2,s,m) = some (firstNZ ((List.range s.2.2.2.2.length).map (teamE m s))) := by
 have h1 := h.t
 have hd:(ByteArray.empty,ByteArray.empty,nilT ByteArray) = dT := rfl
 have e:∀ i,i < s.2.2.2.2.length → cx119_0 F ((i:Int),s.2.2.2.2.getD i dT,s,m) = some (teamE m s i) := fun i hi=>by
  unfold cx119_0
  simp only [peta,l120 hF hm h hi,Option.bind_some]
 unfold cx118_0
 refine bind_each s.2.2.2.2.length (teamE m s) (by omega) (by omega) ?_ ?_ (elim_first _)
 ·intro i hi
  simp (disch := omega) only [cd_pos,gd_dec,Int.toNat_natCast,w64_in,hd,peta,e i hi,Option.bind_some,cond_err]
 ·simp (disch := omega) only [cd_neg]
def manyS (s:St3):Prop := 256 < s.1.length ∨ 256 < s.2.1.length ∨ 256 < s.2.2.1.length ∨ 256 < s.2.2.2.1.length ∨ 256 < s.2.2.2.2.length
instance (s:St3):Decidable (manyS s) := by unfold manyS; infer_instance
def stE (m:Mt) (s:St3):Int :=
 if mtE m = 0 then (if manyS s then 5 else firstNZ [firstNZ ((List.range s.1.length).map (cluE s.1)),firstNZ ((List.range s.2.1.length).map (athE s)),firstNZ ((List.range s.2.2.1.length).map (licS s)),
  firstNZ ((List.range s.2.2.2.1.length).map (entE m s)),firstNZ ((List.range s.2.2.2.2.length).map (teamE m s))]) else mtE m
theorem lt_ite (a b:Int):(256 < if a < b then b else a) ↔ (256 < a ∨ 256 < b) := by split <;> omega
theorem l25 {F:Nat} (hF:400 ≤ F) {m:Mt} (hl:m.2.2.2.2.length ≤ 300) (hb:∀ x ∈ m.2.2.2.2,x.1.size ≤ 300 ∧ x.2.2.1.size ≤ 300) {s:St3} (h:SmS s):c25 F (m,s) = some (stE m s) := by
 have e2:∀ a b,c84 F (a :: b :: nilT Int) = some (firstNZ [a,b]) := fun a b=>l84' hF (by simp [nilT])
 have e5:∀ a b c d e,c84 F (a :: b :: c :: d :: e :: nilT Int) = some (firstNZ [a,b,c,d,e]) := fun a b c d e=>l84' hF (by simp [nilT])
 unfold c25 stE
 simp only [peta,l21 hF hl hb,l86,e2,e5,x100b hF h,x108 hF h,x112b hF h,x115 hF hl h,x118 hF hl h,Option.bind_some,lt_ite]
 have hm:((((256 < (s.1.length:Int) ∨ 256 < (s.2.1.length:Int)) ∨ 256 < (s.2.2.1.length:Int)) ∨ 256 < (s.2.2.2.1.length:Int)) ∨ 256 < (s.2.2.2.2.length:Int)) ↔ manyS s := by
  unfold manyS
  omega
 simp only [hm]
 generalize firstNZ [firstNZ ((List.range s.1.length).map (cluE s.1)),firstNZ ((List.range s.2.1.length).map (athE s)),firstNZ ((List.range s.2.2.1.length).map (licS s)),
  firstNZ ((List.range s.2.2.2.1.length).map (entE m s)),firstNZ ((List.range s.2.2.2.2.length).map (teamE m s))] = w
 by_cases h1:mtE m = 0
 ·by_cases h2:manyS s <;> simp [h1,h2,firstNZ]
 ·simp [h1,firstNZ]
end Go.Proofs.Tryz
