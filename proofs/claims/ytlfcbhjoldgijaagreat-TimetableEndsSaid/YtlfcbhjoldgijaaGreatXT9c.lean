/- Plain law: the conditions of a plan, in the program and in the reference. Plain law: what a plan without an error has; tables. And further parts. -/
import Derived.Test.YtlfcbhjoldgijaaGreatXT9a
import Derived.Test.YtlfcbhjoldgijaaGreatXSxQh
set_option maxRecDepth 100000
set_option linter.unusedVariables false
set_option linter.unusedSimpArgs false
namespace Go.Proofs.Tryz
open Go Go.Sx
def ifl {α β:Type} (f:Nat → α → List β):Nat → List α → List β
 | _,[]=>[]
 | k,x :: l=>f k x ++ ifl f (k + 1) l
theorem ifl_len {α β:Type} {f:Nat → α → List β} {B:Nat} (h:∀ k x,(f k x).length ≤ B):∀ (l:List α) (k:Nat),(ifl f k l).length ≤ B * l.length
 | [],k=>by simp [ifl]
 | x :: l,k=>by
  have h1 := ifl_len h l (k + 1)
  have h2 := h k x
  simp only [ifl,List.length_append,List.length_cons,Nat.mul_add,Nat.mul_one]
  omega
theorem goL_ifl {α β:Type} (f:Nat → α → List β):∀ (l:List α) (s:List β) (k:Nat),goL (fun x (s:List β × Nat)=>(.inl (s.1 ++ f s.2 x,s.2 + 1):(List β × Nat) ⊕ List β)) (fun s=>s.1) l (s,k) = s ++ ifl f k l
 | [],s,k=>by simp [goL_nil,ifl]
 | x :: l,s,k=>by
  rw [goL_cons]
  simp only [ifl]
  rw [goL_ifl f l,List.append_assoc]
theorem bind_ifl {α β γ:Type} {step:List β × Int → Option ((List β × Int) ⊕ List β)} {F:Nat} {k:List β → Option γ} {r:Option γ} (l:List α) (off:Nat) (f:Nat → α → List β) (B:Nat) (s0:List β) {t:List β × Int}
  (hF:l.length < F) (ht:t = (s0,(off:Int))) (hB:∀ k x,(f k x).length ≤ B)
  (hstep:∀ (i:Nat) x (s:List β),i < l.length → l[i]? = some x → s.length ≤ s0.length + B * l.length → (s ++ f (off + i) x).length ≤ s0.length + B * l.length → step (s,((off + i:Nat):Int)) = some (.inl (s ++ f (off + i) x,((off + i:Nat):Int) + 1)))
  (hend:∀ s:List β,step (s,((off + l.length:Nat):Int)) = some (.inr s))
  (hk:k (s0 ++ ifl f off l) = r):Option.bind (loopO step F t) k = r := by
 refine bind_list l (fun (s:List β × Nat) i=>(s.1,(s.2:Int))) (fun x s=>.inl (s.1 ++ f s.2 x,s.2 + 1)) (fun s=>s.1) (fun i s=>s.2 = off + i ∧ s.1.length ≤ s0.length + B * i) (s0,off) hF ht ⟨rfl,by simp⟩ ?_ ?_ ?_
 ·intro i x s hi hx ⟨h1,h2⟩
  have hm:B * i + B ≤ B * l.length := by
   have := Nat.mul_le_mul_left B (Nat.succ_le_of_lt hi)
   simpa [Nat.mul_succ] using this
  have hb := hB (off + i) x
  have h3:(s.1 ++ f (off + i) x).length ≤ s0.length + B * i + B := by rw [List.length_append]; omega
  rw [h1]
  refine ⟨?_,?_⟩
  ·rw [hstep i x s.1 hi hx (by omega) (by omega)]
   simp
  ·intro s' hs'
   injection hs' with hs'
   rw [← hs']
   refine ⟨by simp only []; omega,?_⟩
   simp only [Nat.mul_add,Nat.mul_one]
   omega
 ·intro s ⟨h1,h2⟩
  rw [h1]
  exact hend s.1
 ·rw [goL_ifl]
  exact hk
def kW:ByteArray := { data := List.toArray ((119:UInt8) :: (105:UInt8) :: (110:UInt8) :: (100:UInt8) :: (111:UInt8) :: (119:UInt8) :: nilT UInt8) }
def kO:ByteArray := { data := List.toArray ((111:UInt8) :: (114:UInt8) :: (100:UInt8) :: (101:UInt8) :: (114:UInt8) :: nilT UInt8) }
def kA:ByteArray := { data := List.toArray ((97:UInt8) :: (114:UInt8) :: (101:UInt8) :: (97:UInt8) :: nilT UInt8) }
def kF:ByteArray := { data := List.toArray ((111:UInt8) :: (102:UInt8) :: (102:UInt8) :: (105:UInt8) :: (99:UInt8) :: (105:UInt8) :: (97:UInt8) :: (108:UInt8) :: nilT UInt8) }
def kT:ByteArray := { data := List.toArray ((97:UInt8) :: (116:UInt8) :: (104:UInt8) :: (108:UInt8) :: (101:UInt8) :: (116:UInt8) :: (101:UInt8) :: nilT UInt8) }
abbrev Rul := ByteArray × Int × Int × Int
def shareB (a b:List ByteArray):Bool := a.any fun x=>b.any fun y=>strEq x y
def pairR (rest:Int) (i:Nat) (a:Rnd) (k:Nat) (b:Rnd):List Rul :=
 ((if shareB a.2.2.1 b.2.2.1 = true then [(kA,(i:Int),(k:Int),0)] else []) ++ (if shareB a.2.2.2.1 b.2.2.2.1 = true then [(kF,(i:Int),(k:Int),0)] else [])) ++ (if shareB a.2.2.2.2.1 b.2.2.2.2.1 = true then [(kT,(i:Int),(k:Int),rest)] else [])
def rowR (p:Pln) (i:Nat) (a:Rnd):List Rul := ifl (fun k b=>pairR p.2.2 i a k b) (i + 1) (p.1.drop (i + 1))
def winR (i:Nat) (_:Rnd):List Rul := [(kW,(i:Int),(i:Int),0)]
def ordR (_:Nat) (o:Ord3):List Rul := [(kO,o.1,o.2.1,o.2.2)]
def apartR (p:Pln):List Rul := ifl (rowR p) 0 p.1
def rulesS (p:Pln):List Rul := ifl winR 0 p.1 ++ ifl ordR 0 p.2.1 ++ apartR p
theorem l111 {F:Nat} (hF:400 ≤ F) {l:List ByteArray} {x:ByteArray} (hl:l.length ≤ 300):c111 F (l,x) = some (l.any fun y=>strEq x y) := by
 unfold c111
 obtain ⟨v,h1,h2⟩ := l137 hF (x := x) hl
 simp only [h1,Option.bind_some,h2]
theorem find_any {α:Type} (l:List α) (p:α → Bool):(l.findIdx? p).isSome = l.any p := by
 rw [List.findIdx?_isSome]
theorem l112 {F:Nat} (hF:400 ≤ F) {a b:List ByteArray} (ha:a.length ≤ 300) (hb:b.length ≤ 300):c112 F (a,b) = some (shareB a b) := by
 unfold c112 cx138_0 cx155_0
 have e:∀ k:Int → Option Bool,(k = fun v5:Int=>some (decide (0 ≤ v5))) → Option.bind (Option.bind (loopO (σ := Int) (β := Int ⊕ Unit) (fun (v15:Int)=>bif Decidable.decide (v15 < (↑(List.length a):Int)) then (gd (Decidable.decide ((0:Int) ≤ v15)) (gd (Decidable.decide (v15 < (↑(List.length a):Int))) (gd (Decidable.decide (Int.toNat v15 < List.length a)) (Option.bind (cx139_0 F (List.getD a (Int.toNat v15) ByteArray.empty,b)) fun (v16:Bool)=>bif v16 then (some (Sum.inr (Sum.inl v15))) else (some (Sum.inl (Go.Sx.w64 (v15 + (1:Int))))))))) else (some (Sum.inr (Sum.inr Unit.unit)))) F ((0:Int))) fun (v12:Int ⊕ Unit)=>Sum.elim (fun (v13:Int)=>some v13) (fun (v14:Unit)=>some ((-1:Int))) v12) k = some (shareB a b) := by
  intro k hk
  subst hk
  have e2:∀ y,cx139_0 F (y,b) = some (b.any fun z=>strEq y z) := fun y=>by unfold cx139_0; simp only [l111 hF hb,Option.bind_some]
  rw [show ∀ x:Option Int,∀ f:Int → Option Bool,Option.bind x f = x.bind f from fun _ _=>rfl]
  refine (congrArg (fun z=>Option.bind z _) (bind_find a (fun x=>b.any fun z=>strEq x z) (fun i=>.inl (i:Int)) (.inr ()) (r := some (match a.findIdx? (fun x=>b.any fun z=>strEq x z) with | some i=>(i:Int) | none=>-1)) (by omega) ?_ ?_ ?_)).trans ?_
  ·intro i x hi hx
   simp (disch := omega) only [cd_pos,gd_dec,Int.toNat_natCast,getD_some hx,w64_in,e2,Option.bind_some]
   cases b.any fun z=>strEq x z <;> simp
  ·simp (disch := omega) only [cd_neg]
  ·cases a.findIdx? (fun x=>b.any fun z=>strEq x z) <;> rfl
  ·unfold shareB
   rw [← find_any]
   cases a.findIdx? (fun x=>b.any fun z=>strEq x z) with
   | none=>rfl
   | some i=>simp
 simp only [e _ rfl,Option.bind_some]
theorem l54 {F:Nat} {a b:List ByteArray} (hF:400 ≤ F) (ha:a.length ≤ 300) (hb:b.length ≤ 300):c54 F (a,b) = some (shareB a b) := by
 unfold c54
 refine bind_any a (fun x=>b.any fun y=>strEq x y) (.inl true) (.inr ()) (by omega) ?_ ?_ ?_
 ·intro i x hi hx
  simp (disch := omega) only [cd_pos,gd_dec,Int.toNat_natCast,getD_some hx,w64_in]
  refine bind_any b (fun y=>strEq x y) (.inl true) (.inr ()) (by omega) ?_ ?_ ?_
  ·intro k y hk hy
   simp (disch := omega) only [cd_pos,gd_dec,Int.toNat_natCast,getD_some hy,w64_in]
   cases strEq x y <;> simp
  ·simp (disch := omega) only [cd_neg]
  ·cases b.any fun y=>strEq x y <;> simp
 ·simp (disch := omega) only [cd_neg]
 ·unfold shareB
  cases a.any fun x=>b.any fun y=>strEq x y <;> simp
theorem pairR_len (rest:Int) (i:Nat) (a:Rnd) (k:Nat) (b:Rnd):(pairR rest i a k b).length ≤ 3 := by
 unfold pairR
 split <;> split <;> split <;> simp
theorem rowR_len {p:Pln} (h:p.1.length ≤ 26) (i:Nat) (a:Rnd):(rowR p i a).length ≤ 78 := by
 have h1 := ifl_len (pairR_len p.2.2 i a) (p.1.drop (i + 1)) (i + 1)
 have h2:(p.1.drop (i + 1)).length ≤ 26 := by rw [List.length_drop]; omega
 exact Nat.le_trans h1 (by omega)
theorem rulesS_len {p:Pln} (h:p.1.length ≤ 26) (h2:p.2.1.length ≤ 28):(rulesS p).length ≤ 2200 := by
 have h1 := ifl_len (f := winR) (B := 1) (fun _ _=>Nat.le_refl _) p.1 0
 have h3 := ifl_len (f := ordR) (B := 1) (fun _ _=>Nat.le_refl _) p.2.1 0
 have h4 := ifl_len (rowR_len h) p.1 0
 unfold rulesS apartR
 rw [List.length_append,List.length_append]
 omega
def PShort (p:Pln):Prop := p.1.length ≤ 26 ∧ p.2.1.length ≤ 28 ∧ ∀ x ∈ p.1,x.1.size ≤ 40 ∧ (∀ l,l = x.2.2.1 ∨ l = x.2.2.2.1 ∨ l = x.2.2.2.2.1 → l.length ≤ 162 ∧ ∀ s ∈ l,s.size ≤ 40)
theorem PShort.sm {p:Pln} (h:PShort p):PSm p := by
 obtain ⟨h1,h2,h3⟩ := h
 refine ⟨by omega,by omega,fun x hx=>?_⟩
 obtain ⟨a,b⟩ := h3 x hx
 refine ⟨by omega,?_,?_,?_⟩
 ·obtain ⟨c,d⟩ := b _ (.inl rfl); exact ⟨by omega,fun s hs=>by have := d s hs; omega⟩
 ·obtain ⟨c,d⟩ := b _ (.inr (.inl rfl)); exact ⟨by omega,fun s hs=>by have := d s hs; omega⟩
 ·obtain ⟨c,d⟩ := b _ (.inr (.inr rfl)); exact ⟨by omega,fun s hs=>by have := d s hs; omega⟩
theorem l65 {F:Nat} (hF:400 ≤ F) {p:Pln} (h:PShort p):c65 F p = some (rulesS p) := by
 unfold c65
 have hsm := h.sm
 obtain ⟨h1,h2,h3⟩ := h
 refine bind_ifl p.1 0 winR 1 [] (by omega) rfl (fun _ _=>Nat.le_refl _) ?_ ?_ ?_
 ·intro i x s hi hx hs hs2
  have hsl:s.length ≤ 26 := by simp only [List.length_nil] at hs; omega
  simp (disch := omega) only [Nat.zero_add,cd_pos,len_snoc,gd_dec,w64_in,decide_true,Bool.and_self,gd_true,Option.bind_some]
  rfl
 ·intro s
  simp (disch := omega) only [cd_neg,decide_true,Bool.and_self,gd_true,Option.bind_some,Nat.zero_add]
 ·simp only [List.nil_append,decide_true,Bool.and_self,gd_true,Option.bind_some]
  refine bind_ifl p.2.1 0 ordR 1 (ifl winR 0 p.1) (by omega) rfl (fun _ _=>Nat.le_refl _) ?_ ?_ ?_
  ·intro i o s hi ho hs hs2
   have hw := ifl_len (f := winR) (B := 1) (fun _ _=>Nat.le_refl _) p.1 0
   have hsl:s.length ≤ 54 := by omega
   simp (disch := omega) only [Nat.zero_add,cd_pos,len_snoc,gd_dec,w64_in,Int.toNat_natCast,getD_some ho,decide_true,Bool.and_self,gd_true,Option.bind_some]
   rfl
  ·intro s
   simp (disch := omega) only [cd_neg,decide_true,Bool.and_self,gd_true,Option.bind_some,Nat.zero_add]
  ·have hw := ifl_len (f := winR) (B := 1) (fun _ _=>Nat.le_refl _) p.1 0
   have ho := ifl_len (f := ordR) (B := 1) (fun _ _=>Nat.le_refl _) p.2.1 0
   refine bind_ifl p.1 0 (rowR p) 78 (ifl winR 0 p.1 ++ ifl ordR 0 p.2.1) (by omega) rfl (rowR_len h1) ?_ ?_ ?_
   ·intro i a s hi ha hs _
    have hsl:s.length ≤ 2100 := Nat.le_trans hs (by rw [List.length_append]; omega)
    simp only [Nat.zero_add]
    simp (disch := omega) only [cd_pos,gd_dec,w64_in,Int.toNat_natCast,getD_some ha,decide_true,Bool.and_self,gd_true,Option.bind_some]
    have hdl:(p.1.drop (i + 1)).length ≤ 26 := by rw [List.length_drop]; omega
    refine bind_ifl (p.1.drop (i + 1)) (i + 1) (fun k b=>pairR p.2.2 i a k b) 3 s (by omega) (by simp) (pairR_len p.2.2 i a) ?_ ?_ ?_
    ·intro j b t hj hb ht ht2
     have hb':p.1[i + 1 + j]? = some b := by rw [← List.getElem?_drop]; exact hb
     have hjl:i + 1 + j < p.1.length := by rw [List.length_drop] at hj; omega
     have hma := hsm.2.2 a (List.mem_of_getElem? ha)
     have hmb := hsm.2.2 b (List.mem_of_getElem? hb')
     have htl:t.length ≤ 2178 := Nat.le_trans ht (by omega)
     simp (disch := omega) only [cd_pos,gd_dec,w64_in,Int.toNat_natCast,getD_some ha,getD_some hb',l112 hF hma.2.1.1 hmb.2.1.1,l112 hF hma.2.2.1.1 hmb.2.2.1.1,l112 hF hma.2.2.2.1 hmb.2.2.2.1,Option.bind_some,List.length_append,List.length_cons,nilT,List.length_nil]
     unfold pairR
     cases shareB a.2.2.1 b.2.2.1 <;> cases shareB a.2.2.2.1 b.2.2.2.1 <;> cases shareB a.2.2.2.2.1 b.2.2.2.2.1 <;>
      simp (disch := omega) only [cond_true,cond_false,gd_dec,decide_true,Bool.and_self,gd_true,Option.bind_some,List.length_append,List.length_cons,nilT,List.length_nil,Bool.false_eq_true,if_false,if_true,List.append_nil,List.nil_append,List.append_assoc,List.cons_append,kA,kF,kT]
    ·intro t
     have:(i + 1 + (p.1.drop (i + 1)).length:Nat) = p.1.length := by rw [List.length_drop]; omega
     rw [this]
     simp (disch := omega) only [cd_neg,decide_true,Bool.and_self,gd_true,Option.bind_some]
    ·rfl
   ·intro s
    simp (disch := omega) only [cd_neg,decide_true,Bool.and_self,gd_true,Option.bind_some,Nat.zero_add]
   ·simp only [decide_true,Bool.and_self,gd_true,Option.bind_some,Nat.zero_add,Nat.le_refl,take_all]
    rfl
theorem sWW:strEq kW kW = true := by kernel_rfl
theorem sWO:strEq kW kO = false := by kernel_rfl
theorem sOW:strEq kO kW = false := by kernel_rfl
theorem sOO:strEq kO kO = true := by kernel_rfl
theorem sAW:strEq kA kW = false := by kernel_rfl
theorem sAO:strEq kA kO = false := by kernel_rfl
theorem sAA:strEq kA kA = true := by kernel_rfl
theorem sFW:strEq kF kW = false := by kernel_rfl
theorem sFO:strEq kF kO = false := by kernel_rfl
theorem sFA:strEq kF kA = false := by kernel_rfl
theorem sFF:strEq kF kF = true := by kernel_rfl
theorem sTW:strEq kT kW = false := by kernel_rfl
theorem sTO:strEq kT kO = false := by kernel_rfl
theorem sTA:strEq kT kA = false := by kernel_rfl
theorem sTF:strEq kT kF = false := by kernel_rfl
theorem sTT:strEq kT kT = true := by kernel_rfl
theorem errL_zero {α:Type} {err:List α → α → Int}:∀ {l pre:List α},errL err pre l = 0 → ∀ (i:Nat) x,l[i]? = some x → err (pre ++ l.take i) x = 0
 | [],_,_,i,x,hx=>by simp at hx
 | y :: l,pre,h,i,x,hx=>by
  simp only [errL] at h
  by_cases h0:err pre y = 0
  ·rw [if_pos h0] at h
   cases i with
   | zero =>
    simp only [List.getElem?_cons_zero,Option.some.injEq] at hx
    subst hx
    simpa using h0
   | succ i =>
    have := errL_zero h i x (by simpa using hx)
    simpa using this
  ·rw [if_neg h0] at h
   exact absurd h h0
theorem firstNZ_zero:∀ {l:List Int},firstNZ l = 0 → ∀ x ∈ l,x = 0
 | [],_,x,hx=>by simp at hx
 | y :: l,h,x,hx=>by
  simp only [firstNZ] at h
  by_cases h0:y = 0
  ·rw [if_pos h0] at h
   rcases List.mem_cons.1 hx with rfl | hx
   ·exact h0
   ·exact firstNZ_zero h x hx
  ·rw [if_neg h0] at h
   exact absurd h h0
theorem rngE_zero {n lo hi:Int} (h:rngE n lo hi = 0):lo ≤ n ∧ n ≤ hi := by
 unfold rngE at h
 by_cases h0:n < lo ∨ hi < n
 ·rw [if_pos h0] at h; omega
 ·omega
structure PV (p:Pln):Prop where
 sh:PShort p
 er:planE p = 0
 n1:p.1.length ≤ 24
 n2:p.2.1.length ≤ 24
 rnd:∀ x ∈ p.1,(1 ≤ x.2.1 ∧ x.2.1 ≤ 1440) ∧ (0 ≤ x.2.2.2.2.2.1 ∧ x.2.2.2.2.2.1 ≤ 20000) ∧ (0 ≤ x.2.2.2.2.2.2 ∧ x.2.2.2.2.2.2 ≤ 20000) ∧ x.2.2.2.2.2.1 ≤ x.2.2.2.2.2.2
 ord:∀ o ∈ p.2.1,(0 ≤ o.1 ∧ o.1 < p.1.length) ∧ (0 ≤ o.2.1 ∧ o.2.1 < p.1.length) ∧ o.1 ≠ o.2.1 ∧ 0 ≤ o.2.2 ∧ o.2.2 ≤ 1440
 rest:0 ≤ p.2.2 ∧ p.2.2 ≤ 1440
theorem PV.of {p:Pln} (h:PShort p) (he:planE p = 0):PV p := by
 have h0:¬ 24 < p.1.length := by
  intro h0
  unfold planE at he
  rw [if_pos h0] at he
  cases he
 have he' := he
 unfold planE at he'
 rw [if_neg h0] at he'
 have hz := firstNZ_zero he'
 have z1 := hz _ (List.mem_cons_self ..)
 have z2 := hz (if 24 < p.2.1.length then 5 else 0) (by simp)
 have z3 := hz (errL (ordE p.1.length) [] p.2.1) (by simp)
 have z4 := hz (rngE p.2.2 0 1440) (by simp)
 have h2:¬ 24 < p.2.1.length := by
  intro h2
  rw [if_pos h2] at z2
  cases z2
 refine ⟨h,he,by omega,by omega,?_,?_,rngE_zero z4⟩
 ·intro x hx
  obtain ⟨i,hi,hxi⟩ := List.mem_iff_getElem.1 hx
  have e := errL_zero z1 i x (by rw [List.getElem?_eq_getElem hi,hxi])
  unfold rndE at e
  have e1:rndT x = 0 := by
   revert e
   split
   ·split
    ·intro e; cases e
    ·exact fun e=>e
   ·intro e; cases e
  have hz := firstNZ_zero e1
  have a1 := rngE_zero (hz (rngE x.2.1 1 1440) (by simp))
  have a2 := rngE_zero (hz (rngE x.2.2.2.2.2.1 0 20000) (by simp))
  have a3 := rngE_zero (hz (rngE x.2.2.2.2.2.2 0 20000) (by simp))
  have a4 := hz (if x.2.2.2.2.2.2 < x.2.2.2.2.2.1 then 11 else 0) (by simp)
  refine ⟨a1,a2,a3,?_⟩
  by_cases hlt:x.2.2.2.2.2.2 < x.2.2.2.2.2.1
  ·rw [if_pos hlt] at a4; cases a4
  ·omega
 ·intro o ho
  obtain ⟨i,hi,hoi⟩ := List.mem_iff_getElem.1 ho
  have e := errL_zero z3 i o (by rw [List.getElem?_eq_getElem hi,hoi])
  unfold ordE at e
  have hz := firstNZ_zero e
  have a1 := hz _ (List.mem_cons_self ..)
  have a2 := hz (if o.1 = o.2.1 then 9 else 0) (by simp)
  have a3 := rngE_zero (hz (rngE o.2.2 0 1440) (by simp))
  have b1:(0 ≤ o.1 ∧ o.1 < p.1.length) ∧ 0 ≤ o.2.1 ∧ o.2.1 < p.1.length := by
   by_cases hb:(0 ≤ o.1 ∧ o.1 < p.1.length) ∧ 0 ≤ o.2.1 ∧ o.2.1 < p.1.length
   ·exact hb
   ·rw [if_neg hb] at a1; cases a1
  have b2:¬ o.1 = o.2.1 := by
   intro hb
   rw [if_pos hb] at a2; cases a2
  exact ⟨b1.1,b1.2,b2,a3⟩
theorem ifl_mem {α β:Type} {f:Nat → α → List β} {y:β}:∀ {l:List α} {k:Nat},y ∈ ifl f k l → ∃ j x,l[j]? = some x ∧ y ∈ f (k + j) x
 | [],k,h=>by simp [ifl] at h
 | x :: l,k,h=>by
  simp only [ifl] at h
  rcases List.mem_append.1 h with h | h
  ·exact ⟨0,x,rfl,h⟩
  ·obtain ⟨j,z,h1,h2⟩ := ifl_mem h
   exact ⟨j + 1,z,by simpa using h1,by rw [show k + (j + 1) = k + 1 + j by omega]; exact h2⟩
theorem ifl_one {α β:Type} (g:Nat → α → β):∀ (l:List α) (k i:Nat),(ifl (fun k x=>[g k x]) k l)[i]? = l[i]?.map (g (k + i))
 | [],k,i=>by simp [ifl]
 | x :: l,k,0=>by simp [ifl]
 | x :: l,k,i + 1=>by
  simp only [ifl,List.cons_append,List.nil_append,List.getElem?_cons_succ]
  rw [ifl_one g l (k + 1) i,show k + 1 + i = k + (i + 1) by omega]
theorem ifl_one_len {α β:Type} (g:Nat → α → β):∀ (l:List α) (k:Nat),(ifl (fun k x=>[g k x]) k l).length = l.length
 | [],k=>rfl
 | x :: l,k=>by simp [ifl,ifl_one_len g l]
theorem winR_len (p:Pln):(ifl winR 0 p.1).length = p.1.length := ifl_one_len (fun i _=>(kW,(i:Int),(i:Int),(0:Int))) p.1 0
theorem ordR_len (p:Pln):(ifl ordR 0 p.2.1).length = p.2.1.length := ifl_one_len (fun _ (o:Ord3)=>(kO,o.1,o.2.1,o.2.2)) p.2.1 0
theorem rul_cases {p:Pln} {i:Nat} {r:Rul} (h:(rulesS p)[i]? = some r):(i < p.1.length ∧ r = (kW,(i:Int),(i:Int),0)) ∨ (p.1.length ≤ i ∧ i < p.1.length + p.2.1.length ∧ ∃ o,p.2.1[i - p.1.length]? = some o ∧ r = (kO,o.1,o.2.1,o.2.2)) ∨ (p.1.length + p.2.1.length ≤ i ∧ ∃ (a b:Nat) (x y:Rnd),a < b ∧ p.1[a]? = some x ∧ p.1[b]? = some y ∧ r ∈ pairR p.2.2 a x b y) := by
 unfold rulesS at h
 have l1 := winR_len p
 have l2 := ordR_len p
 by_cases h1:i < p.1.length
 ·left
  rw [List.append_assoc,List.getElem?_append_left (by omega)] at h
  have e := ifl_one (fun i (_:Rnd)=>(kW,(i:Int),(i:Int),(0:Int))) p.1 0 i
  rw [show (ifl winR 0 p.1)[i]? = _ from e,List.getElem?_eq_getElem h1] at h
  simp only [Option.map_some,Option.some.injEq,Nat.zero_add] at h
  exact ⟨h1,h.symm⟩
 ·right
  rw [List.append_assoc,List.getElem?_append_right (by omega),l1] at h
  by_cases h2:i < p.1.length + p.2.1.length
  ·left
   rw [List.getElem?_append_left (by omega)] at h
   have e := ifl_one (fun _ (o:Ord3)=>(kO,o.1,o.2.1,o.2.2)) p.2.1 0 (i - p.1.length)
   rw [show (ifl ordR 0 p.2.1)[i - p.1.length]? = _ from e,List.getElem?_eq_getElem (by omega)] at h
   simp only [Option.map_some,Option.some.injEq] at h
   exact ⟨by omega,h2,p.2.1[i - p.1.length]'(by omega),List.getElem?_eq_getElem (by omega),h.symm⟩
  ·right
   rw [List.getElem?_append_right (by omega)] at h
   obtain ⟨a,x,hx,hr⟩ := ifl_mem (List.mem_of_getElem? h)
   rw [Nat.zero_add] at hr
   obtain ⟨j,y,hy,hr⟩ := ifl_mem hr
   rw [List.getElem?_drop] at hy
   exact ⟨by omega,a,a + 1 + j,x,y,by omega,hx,hy,hr⟩
theorem pairR_mem {rest:Int} {a b:Nat} {x y:Rnd} {r:Rul} (h:r ∈ pairR rest a x b y):r = (kA,(a:Int),(b:Int),0) ∨ r = (kF,(a:Int),(b:Int),0) ∨ r = (kT,(a:Int),(b:Int),rest) := by
 unfold pairR at h
 rcases List.mem_append.1 h with h | h
 ·rcases List.mem_append.1 h with h | h
  ·split at h
   ·exact .inl (List.mem_singleton.1 h)
   ·simp at h
  ·split at h
   ·exact .inr (.inl (List.mem_singleton.1 h))
   ·simp at h
 ·split at h
  ·exact .inr (.inr (List.mem_singleton.1 h))
  ·simp at h
structure RulOk (p:Pln) (r:Rul):Prop where
 kind:r.1 = kW ∨ r.1 = kO ∨ r.1 = kA ∨ r.1 = kF ∨ r.1 = kT
 a:0 ≤ r.2.1 ∧ r.2.1 < p.1.length
 b:0 ≤ r.2.2.1 ∧ r.2.2.1 < p.1.length
 gap:0 ≤ r.2.2.2 ∧ r.2.2.2 ≤ 1440
 win:r.1 = kW → r.2.2.1 = r.2.1
 ne:r.1 ≠ kW → r.2.1 ≠ r.2.2.1
theorem kne {a b:ByteArray} (h:strEq a b = false):a ≠ b := fun e=>by
 subst e
 rw [strEq_self] at h
 cases h
theorem PV.rul {p:Pln} (h:PV p) {i:Nat} {r:Rul} (hr:(rulesS p)[i]? = some r):RulOk p r := by
 rcases rul_cases hr with ⟨h1,rfl⟩ | ⟨h1,h2,o,ho,rfl⟩ | ⟨h1,a,b,x,y,hab,hx,hy,hr⟩
 ·exact ⟨.inl rfl,⟨by simp,by simp; omega⟩,⟨by simp,by simp; omega⟩,⟨by simp,by simp⟩,fun _=>rfl,fun e=>absurd rfl e⟩
 ·obtain ⟨b1,b2,b3,b4⟩ := h.ord o (List.mem_of_getElem? ho)
  exact ⟨.inr (.inl rfl),b1,b2,b4,fun e=>absurd e (kne sOW),fun _=>b3⟩
 ·have ha := (List.getElem?_eq_some_iff.1 hx).1
  have hb := (List.getElem?_eq_some_iff.1 hy).1
  have hab':(a:Int) ≠ (b:Int) := by omega
  rcases pairR_mem hr with rfl | rfl | rfl
  ·exact ⟨.inr (.inr (.inl rfl)),⟨by simp,by simp; omega⟩,⟨by simp,by simp; omega⟩,⟨by simp,by simp⟩,fun e=>absurd e (kne sAW),fun _=>hab'⟩
  ·exact ⟨.inr (.inr (.inr (.inl rfl))),⟨by simp,by simp; omega⟩,⟨by simp,by simp; omega⟩,⟨by simp,by simp⟩,fun e=>absurd e (kne sFW),fun _=>hab'⟩
  ·exact ⟨.inr (.inr (.inr (.inr rfl))),⟨by simp,by simp; omega⟩,⟨by simp,by simp; omega⟩,h.rest,fun e=>absurd e (kne sTW),fun _=>hab'⟩
abbrev r0:Rnd := (ByteArray.empty,(0:Int),nilT ByteArray,nilT ByteArray,nilT ByteArray,(0:Int),(0:Int))
abbrev tq (t:List Int) (i:Int):Int := t.getD i.toNat 0
abbrev rq (p:Pln) (i:Int):Rnd := p.1.getD i.toNat r0
def befS (p:Pln) (t:List Int) (a b g:Int):Bool := decide (tq t a + (rq p a).2.1 + g ≤ tq t b)
def winS (p:Pln) (t:List Int) (a:Int):Bool := decide ((rq p a).2.2.2.2.2.1 ≤ tq t a ∧ tq t a + (rq p a).2.1 ≤ (rq p a).2.2.2.2.2.2)
def holdS (p:Pln) (t:List Int) (r:Rul):Bool :=
 if strEq r.1 kW = true then winS p t r.2.1 else if strEq r.1 kO = true then befS p t r.2.1 r.2.2.1 r.2.2.2 else befS p t r.2.1 r.2.2.1 r.2.2.2 || befS p t r.2.2.1 r.2.1 r.2.2.2
structure TOk (p:Pln) (t:List Int):Prop where
 len:t.length = p.1.length
 rng:∀ x ∈ t,0 ≤ x ∧ x ≤ 4398046511104
theorem getD_mem {α:Type} {l:List α} {i:Nat} {d:α} (h:i < l.length):l.getD i d ∈ l := by
 rw [List.getD_eq_getElem?_getD,List.getElem?_eq_getElem h]
 exact List.getElem_mem h
theorem TOk.at {p:Pln} {t:List Int} (h:TOk p t) {a:Int} (h0:0 ≤ a) (h1:a < p.1.length):0 ≤ tq t a ∧ tq t a ≤ 4398046511104 := h.rng _ (getD_mem (by rw [h.len]; omega))
theorem PV.at {p:Pln} (h:PV p) {a:Int} (h0:0 ≤ a) (h1:a < p.1.length):(1 ≤ (rq p a).2.1 ∧ (rq p a).2.1 ≤ 1440) ∧ (0 ≤ (rq p a).2.2.2.2.2.1 ∧ (rq p a).2.2.2.2.2.1 ≤ 20000) ∧ (0 ≤ (rq p a).2.2.2.2.2.2 ∧ (rq p a).2.2.2.2.2.2 ≤ 20000) ∧ (rq p a).2.2.2.2.2.1 ≤ (rq p a).2.2.2.2.2.2 := h.rnd _ (getD_mem (by omega))
theorem l152 {F:Nat} {p:Pln} {t:List Int} (h:PV p) (ht:TOk p t) {a b g:Int} (ha:0 ≤ a ∧ a < p.1.length) (hb:0 ≤ b ∧ b < p.1.length) (hg:0 ≤ g ∧ g ≤ 1440):c152 F (p,t,a,b,g) = some (befS p t a b g) := by
 unfold c152 befS
 have h1 := ht.at ha.1 ha.2
 have h2 := (h.at ha.1 ha.2).1
 have h3 := ht.at hb.1 hb.2
 have hl := ht.len
 simp only [tq,rq,r0] at h1 h2 h3 ⊢
 simp (disch := omega) only [gd_dec,w64_in]
theorem l153 {F:Nat} {p:Pln} {t:List Int} (h:PV p) (ht:TOk p t) {k:ByteArray} {a b g:Int} (ha:0 ≤ a ∧ a < p.1.length):c153 F (p,t,k,a,b,g) = some (winS p t a) := by
 unfold c153 winS
 have h1 := ht.at ha.1 ha.2
 have h2 := h.at ha.1 ha.2
 have hl := ht.len
 simp only [tq,rq,r0] at h1 h2 ⊢
 simp (disch := omega) only [gd_dec,w64_in]
 by_cases h5:(p.1.getD a.toNat (ByteArray.empty,(0:Int),nilT ByteArray,nilT ByteArray,nilT ByteArray,(0:Int),(0:Int))).2.2.2.2.2.1 ≤ t.getD a.toNat 0
 ·simp only [h5,decide_true,cond_true,true_and,Option.bind_some]
 ·simp only [h5,decide_false,cond_false,false_and,Option.bind_some]
theorem l151 {F:Nat} {p:Pln} {t:List Int} (h:PV p) (ht:TOk p t) {k:ByteArray} {a b g:Int} (ha:0 ≤ a ∧ a < p.1.length) (hb:0 ≤ b ∧ b < p.1.length) (hg:0 ≤ g ∧ g ≤ 1440):c151 F (p,t,k,a,b,g) = some (befS p t a b g || befS p t b a g) := by
 unfold c151
 simp only [peta,l152 h ht ha hb hg,l152 h ht hb ha hg,Option.bind_some]
 cases befS p t a b g <;> rfl
theorem l154 {F:Nat} {p:Pln} {t:List Int} (h:PV p) (ht:TOk p t) {k:ByteArray} {a b g:Int} (ha:0 ≤ a ∧ a < p.1.length) (hb:0 ≤ b ∧ b < p.1.length) (hg:0 ≤ g ∧ g ≤ 1440):c154 F (p,t,k,a,b,g) = some (befS p t a b g) := by
 unfold c154
 simp only [peta,l152 h ht ha hb hg,Option.bind_some]
theorem eW:({ data := List.toArray ((119:UInt8) :: (105:UInt8) :: (110:UInt8) :: (100:UInt8) :: (111:UInt8) :: (119:UInt8) :: nilT UInt8) }:ByteArray) = kW := rfl
theorem eO:({ data := List.toArray ((111:UInt8) :: (114:UInt8) :: (100:UInt8) :: (101:UInt8) :: (114:UInt8) :: nilT UInt8) }:ByteArray) = kO := rfl
theorem eA:({ data := List.toArray ((97:UInt8) :: (114:UInt8) :: (101:UInt8) :: (97:UInt8) :: nilT UInt8) }:ByteArray) = kA := rfl
theorem eF:({ data := List.toArray ((111:UInt8) :: (102:UInt8) :: (102:UInt8) :: (105:UInt8) :: (99:UInt8) :: (105:UInt8) :: (97:UInt8) :: (108:UInt8) :: nilT UInt8) }:ByteArray) = kF := rfl
theorem eT:({ data := List.toArray ((97:UInt8) :: (116:UInt8) :: (104:UInt8) :: (108:UInt8) :: (101:UInt8) :: (116:UInt8) :: (101:UInt8) :: nilT UInt8) }:ByteArray) = kT := rfl
theorem x133 {F:Nat} {p:Pln} {t:List Int} (h:PV p) (ht:TOk p t) {r:Rul} (hr:RulOk p r):cx133_0 F (r,(),p,t,()) = some (!holdS p t r) := by
 obtain ⟨k,a,b,g⟩ := r
 obtain ⟨h1,ha,hb,hg,_,_⟩ := hr
 simp only at h1 ha hb hg
 unfold cx133_0 holdS
 simp only [eW,eO,eA,eF,eT]
 simp only [peta,l151 h ht ha hb hg,l153 h ht ha,l154 h ht ha hb hg,Option.bind_some]
 rcases h1 with rfl | rfl | rfl | rfl | rfl
 ·simp only [sWW,cond_true,Option.bind_some,if_true]
 ·simp only [sOW,sOO,cond_true,cond_false,Option.bind_some,if_true,if_false,Bool.false_eq_true]
 ·simp only [sAW,sAO,sAA,cond_true,cond_false,Option.bind_some,if_true,if_false,Bool.false_eq_true]
 ·simp only [sFW,sFO,sFA,sFF,cond_true,cond_false,Option.bind_some,if_true,if_false,Bool.false_eq_true]
 ·simp only [sTW,sTO,sTA,sTF,sTT,cond_true,cond_false,Option.bind_some,if_true,if_false,Bool.false_eq_true,gd_true]
def brokS (p:Pln) (t:List Int):Int × Bool := match (rulesS p).findIdx? fun r=>!holdS p t r with
 | some i=>(i,true)
 | none=>((rulesS p).length,false)
theorem l97 {F:Nat} (hF:3000 ≤ F) {p:Pln} {t:List Int} (h:PV p) (ht:TOk p t):c97 F (p,t) = some (brokS p t) := by
 unfold c97 cx132_0
 have hl := rulesS_len h.sh.1 h.sh.2.1
 simp only [peta,l65 (show 400 ≤ F by omega) h.sh,Option.bind_some]
 rw [idx_loop (rulesS p) (fun r=>!holdS p t r) (by omega) ?_ ?_]
 ·unfold idxS brokS
  cases (rulesS p).findIdx? fun r=>!holdS p t r with
  | none=>simp
  | some i =>
   have:¬ (i:Int) < 0 := by omega
   simp [this]
 ·intro i r hi hr
  simp (disch := omega) only [cd_pos,gd_dec,Int.toNat_natCast,getD_some hr,w64_in,x133 h ht (h.rul hr),Option.bind_some]
  cases holdS p t r <;> simp
 ·simp (disch := omega) only [cd_neg]
end Go.Proofs.Tryz
