/- Plain law: least tables by edges (relaxation in passes). No program in sight. Plain law: the program's and the reference's least tables by edges. And further parts. -/
import Derived.Test.YtlfcbhjoldgijaaGreatXT9c
set_option maxRecDepth 100000
set_option linter.unusedVariables false
set_option linter.unusedSimpArgs false
namespace Go.Proofs.Tryz
open Go Go.Sx
abbrev Edg := Int × Int × Int
def relax (s:List Int × Bool) (e:Edg):List Int × Bool := if tq s.1 e.2.1 < tq s.1 e.1 + e.2.2 then (s.1.set e.2.1.toNat (tq s.1 e.1 + e.2.2),true) else s
def passS (E:List Edg) (t:List Int):List Int × Bool := E.foldl relax (t,false)
def bfS (E:List Edg):Nat → List Int → Option (List Int)
 | 0,t=>if (passS E t).2 = true then none else some (passS E t).1
 | k + 1,t=>if (passS E t).2 = true then bfS E k (passS E t).1 else some (passS E t).1
def EOk (n:Nat) (e:Edg):Prop := (0 ≤ e.1 ∧ e.1 < n) ∧ 0 ≤ e.2.1 ∧ e.2.1 < n
def SolF (E:List Edg) (f:Nat → Int):Prop := ∀ e ∈ E,f e.1.toNat + e.2.2 ≤ f e.2.1.toNat
abbrev fL (t:List Int) (i:Nat):Int := t.getD i 0
def LeF (n:Nat) (f g:Nat → Int):Prop := ∀ i,i < n → f i ≤ g i
theorem LeF.refl (n:Nat) (f:Nat → Int):LeF n f f := fun _ _=>Int.le_refl _
theorem LeF.trans {n:Nat} {f g h:Nat → Int} (h1:LeF n f g) (h2:LeF n g h):LeF n f h := fun i hi=>Int.le_trans (h1 i hi) (h2 i hi)
theorem set_get {t:List Int} {k i:Nat} {v:Int} (hk:k < t.length):(t.set k v).getD i 0 = if i = k then v else t.getD i 0 := by
 rw [List.getD_eq_getElem?_getD,List.getElem?_set]
 by_cases h:k = i
 ·subst h; simp [hk]
 ·have:¬ i = k := fun e=>h e.symm
  simp [h,this]
theorem relax_len (s:List Int × Bool) (e:Edg):(relax s e).1.length = s.1.length := by
 unfold relax
 split <;> simp
theorem relax_ge {s:List Int × Bool} {e:Edg} (he:EOk s.1.length e) (i:Nat):fL s.1 i ≤ fL (relax s e).1 i := by
 unfold relax
 split
 ·rename_i h
  have hk:e.2.1.toNat < s.1.length := by have := he.2; omega
  show s.1.getD i 0 ≤ (s.1.set _ _).getD i 0
  rw [set_get hk]
  split
  ·rename_i hi
   subst hi
   have h':tq s.1 e.2.1 < tq s.1 e.1 + e.2.2 := h
   simp only [tq] at h' ⊢
   omega
  ·exact Int.le_refl _
 ·exact Int.le_refl _
theorem relax_to {s:List Int × Bool} {e:Edg} (he:EOk s.1.length e):fL s.1 e.1.toNat + e.2.2 ≤ fL (relax s e).1 e.2.1.toNat := by
 unfold relax
 split
 ·have hk:e.2.1.toNat < s.1.length := by have := he.2; omega
  show _ ≤ (s.1.set _ _).getD _ 0
  rw [set_get hk,if_pos rfl]
  exact Int.le_refl _
 ·rename_i h
  have h':¬ tq s.1 e.2.1 < tq s.1 e.1 + e.2.2 := h
  simp only [tq,fL] at h' ⊢
  omega
theorem relax_le {s:List Int × Bool} {e:Edg} {f:Nat → Int} (he:EOk s.1.length e) (hf:f e.1.toNat + e.2.2 ≤ f e.2.1.toNat) (h:LeF s.1.length (fL s.1) f):LeF s.1.length (fL (relax s e).1) f := by
 intro i hi
 unfold relax
 split
 ·have hk:e.2.1.toNat < s.1.length := by have := he.2; omega
  show (s.1.set _ _).getD i 0 ≤ _
  rw [set_get hk]
  split
  ·rename_i hi'
   subst hi'
   have := h e.1.toNat (by have := he.1; omega)
   simp only [tq,fL] at this ⊢
   omega
  ·exact h i hi
 ·exact h i hi
theorem fold_len (E:List Edg):∀ (s:List Int × Bool),(E.foldl relax s).1.length = s.1.length := by
 induction E with
 | nil=>intro s; rfl
 | cons e E ih=>intro s; rw [List.foldl_cons,ih,relax_len]
theorem fold_ge {E:List Edg}:∀ {s:List Int × Bool},(∀ e ∈ E,EOk s.1.length e) → ∀ i,fL s.1 i ≤ fL (E.foldl relax s).1 i := by
 induction E with
 | nil=>intro s _ i; exact Int.le_refl _
 | cons e E ih =>
  intro s hE i
  rw [List.foldl_cons]
  exact Int.le_trans (relax_ge (hE e (by simp)) i) (ih (s := relax s e) (fun e' he'=>by rw [relax_len]; exact hE e' (by simp [he'])) i)
theorem fold_le {E:List Edg} {f:Nat → Int}:∀ {s:List Int × Bool},(∀ e ∈ E,EOk s.1.length e) → SolF E f → LeF s.1.length (fL s.1) f → LeF s.1.length (fL (E.foldl relax s).1) f := by
 induction E with
 | nil=>intro s _ _ h; exact h
 | cons e E ih =>
  intro s hE hf h
  rw [List.foldl_cons]
  have h1 := relax_le (hE e (by simp)) (hf e (by simp)) h
  have := ih (s := relax s e) (fun e' he'=>by rw [relax_len]; exact hE e' (by simp [he'])) (fun e' he'=>hf e' (by simp [he'])) (by rw [relax_len]; exact h1)
  rw [relax_len] at this
  exact this
theorem fold_to {E:List Edg}:∀ {s:List Int × Bool},(∀ e ∈ E,EOk s.1.length e) → ∀ e ∈ E,fL s.1 e.1.toNat + e.2.2 ≤ fL (E.foldl relax s).1 e.2.1.toNat := by
 induction E with
 | nil=>intro s _ e he; simp at he
 | cons a E ih =>
  intro s hE e he
  rw [List.foldl_cons]
  have hE':∀ e ∈ E,EOk (relax s a).1.length e := fun e' he'=>by rw [relax_len]; exact hE e' (by simp [he'])
  rcases List.mem_cons.1 he with rfl | he
  ·exact Int.le_trans (relax_to (hE e (by simp))) (fold_ge hE' _)
  ·have h1 := ih hE' e he
   have h2 := relax_ge (hE a (by simp)) e.1.toNat
   omega
theorem fold_same {E:List Edg}:∀ {s:List Int × Bool},(E.foldl relax s).2 = false → (E.foldl relax s).1 = s.1 ∧ s.2 = false ∧ SolF E (fL s.1) := by
 induction E with
 | nil=>intro s h; exact ⟨rfl,h,fun e he=>by simp at he⟩
 | cons a E ih =>
  intro s h
  rw [List.foldl_cons] at h ⊢
  obtain ⟨h1,h2,h3⟩ := ih h
  unfold relax at h1 h2 h3 ⊢
  by_cases hc:tq s.1 a.2.1 < tq s.1 a.1 + a.2.2
  ·rw [if_pos hc] at h2; cases h2
  ·rw [if_neg hc] at h1 h2 h3 ⊢
   refine ⟨h1,h2,fun e he=>?_⟩
   rcases List.mem_cons.1 he with rfl | he
   ·simp only [tq] at hc
    show s.1.getD _ 0 + _ ≤ s.1.getD _ 0
    omega
   ·exact h3 e he
theorem fold_true {E:List Edg}:∀ {s:List Int × Bool},(∀ e ∈ E,EOk s.1.length e) → (E.foldl relax s).2 = true → s.2 = true ∨ ∃ e ∈ E,∃ i,fL s.1 i < fL (E.foldl relax s).1 i := by
 induction E with
 | nil=>intro s _ h; exact .inl h
 | cons a E ih =>
  intro s hE h
  rw [List.foldl_cons] at h ⊢
  have hE':∀ e ∈ E,EOk (relax s a).1.length e := fun e' he'=>by rw [relax_len]; exact hE e' (by simp [he'])
  by_cases hc:tq s.1 a.2.1 < tq s.1 a.1 + a.2.2
  ·right
   refine ⟨a,by simp,a.2.1.toNat,?_⟩
   have h1 := relax_to (hE a (by simp))
   have h2 := fold_ge hE' a.2.1.toNat
   simp only [tq] at hc
   simp only [fL] at h1 h2 ⊢
   omega
  ·have e:relax s a = s := by unfold relax; rw [if_neg hc]
   rw [e] at h hE' ⊢
   rcases ih hE' h with h | ⟨b,hb,i,hi⟩
   ·exact .inl h
   ·exact .inr ⟨b,by simp [hb],i,hi⟩
theorem pass_len (E:List Edg) (t:List Int):(passS E t).1.length = t.length := fold_len E (t,false)
theorem bfS_spec {E:List Edg}:∀ {k:Nat} {t t':List Int},(∀ e ∈ E,EOk t.length e) → bfS E k t = some t' → t'.length = t.length ∧ SolF E (fL t') ∧ (∀ i,fL t i ≤ fL t' i) ∧ ∀ f,SolF E f → LeF t.length (fL t) f → LeF t.length (fL t') f
 | 0,t,t',hE,h=>by
  unfold bfS at h
  split at h
  ·cases h
  ·rename_i hc
   have hc:(passS E t).2 = false := by simpa using hc
   obtain ⟨h1,_,h3⟩ := fold_same (s := (t,false)) hc
   have e:(passS E t).1 = t := h1
   rw [e] at h
   cases h
   exact ⟨rfl,h3,fun _=>Int.le_refl _,fun f _ hf=>hf⟩
 | k + 1,t,t',hE,h=>by
  unfold bfS at h
  split at h
  ·have hE':∀ e ∈ E,EOk (passS E t).1.length e := by rw [pass_len]; exact hE
   obtain ⟨h1,h2,h3,h4⟩ := bfS_spec hE' h
   rw [pass_len] at h1 h4
   refine ⟨h1,h2,fun i=>Int.le_trans (fold_ge (s := (t,false)) hE i) (h3 i),fun f hf hl=>h4 f hf (fold_le (s := (t,false)) hE hf hl)⟩
  ·rename_i hc
   have hc:(passS E t).2 = false := by simpa using hc
   obtain ⟨h1,_,h3⟩ := fold_same (s := (t,false)) hc
   have e:(passS E t).1 = t := h1
   rw [e] at h
   cases h
   exact ⟨rfl,h3,fun _=>Int.le_refl _,fun f _ hf=>hf⟩
def sumF:Nat → (Nat → Int) → Int
 | 0,_=>0
 | n + 1,f=>sumF n f + f n
theorem sumF_le:∀ {n:Nat} {f g:Nat → Int},LeF n f g → sumF n f ≤ sumF n g
 | 0,f,g,h=>Int.le_refl _
 | n + 1,f,g,h=>by
  have h1 := sumF_le (n := n) (f := f) (g := g) (fun i hi=>h i (by omega))
  have h2 := h n (by omega)
  simp only [sumF]
  omega
theorem sumF_lt:∀ {n:Nat} {f g:Nat → Int},LeF n f g → ∀ i,i < n → f i < g i → sumF n f < sumF n g
 | 0,f,g,h,i,hi,hl=>by omega
 | n + 1,f,g,h,i,hi,hl=>by
  have hle:LeF n f g := fun j hj=>h j (by omega)
  have h2 := h n (by omega)
  simp only [sumF]
  by_cases e:i = n
  ·subst e
   have h1 := sumF_le hle
   omega
  ·have h1 := sumF_lt hle i (by omega) hl
   omega
theorem exists_least {n:Nat} {P:(Nat → Int) → Prop} {t0:Nat → Int} (hP:∀ f,P f → LeF n t0 f):∀ (k:Nat) (f:Nat → Int),P f → (sumF n f - sumF n t0).toNat = k → ∃ L,P L ∧ ∀ g,P g → sumF n L ≤ sumF n g := by
 intro k
 induction k using Nat.strongRecOn with
 | _ k ih =>
  intro f hf hk
  by_cases h:∃ g,P g ∧ sumF n g < sumF n f
  ·obtain ⟨g,hg,hlt⟩ := h
   have h1 := sumF_le (hP f hf)
   have h2 := sumF_le (hP g hg)
   exact ih _ (by omega) g hg rfl
  ·refine ⟨f,hf,fun g hg=>?_⟩
   by_cases hlt:sumF n g < sumF n f
   ·exact absurd ⟨g,hg,hlt⟩ h
   ·omega
structure Least (E:List Edg) (n:Nat) (t0 L:Nat → Int):Prop where
 sol:SolF E L
 ge:LeF n t0 L
 least:∀ f,SolF E f → LeF n t0 f → LeF n L f
 sum:∀ f,SolF E f → LeF n t0 f → sumF n L ≤ sumF n f
theorem least_ex {E:List Edg} {n:Nat} {t0 f:Nat → Int} (hf:SolF E f) (h0:LeF n t0 f):∃ L,Least E n t0 L := by
 obtain ⟨L,⟨h1,h2⟩,h3⟩ := exists_least (n := n) (t0 := t0) (P := fun f=>SolF E f ∧ LeF n t0 f) (fun f h=>h.2) _ f ⟨hf,h0⟩ rfl
 refine ⟨L,h1,h2,fun g hg hg0 i hi=>?_,fun g hg hg0=>h3 g ⟨hg,hg0⟩⟩
 by_cases hlt:L i ≤ g i
 ·exact hlt
 ·exfalso
  let m:Nat → Int := fun j=>if L j ≤ g j then L j else g j
  have hm:SolF E m := by
   intro e he
   have a := h1 e he
   have b := hg e he
   simp only [m]
   split <;> split <;> omega
  have hm0:LeF n t0 m := by
   intro j hj
   have a := h2 j hj
   have b := hg0 j hj
   simp only [m]
   split <;> omega
  have hml:LeF n m L := by
   intro j hj
   simp only [m]
   split <;> omega
  have := sumF_lt hml i hi (by simp only [m]; rw [if_neg hlt]; omega)
  have := h3 m ⟨hm,hm0⟩
  omega
theorem Least.tight {E:List Edg} {n:Nat} {t0 L:Nat → Int} (h:Least E n t0 L) {U:Nat → Prop} [DecidablePred U] {i:Nat} (hi:i < n) (hU:U i) (hlt:∀ j,j < n → U j → t0 j < L j):∃ e ∈ E,U e.2.1.toNat ∧ ¬ U e.1.toNat ∧ L e.2.1.toNat = L e.1.toNat + e.2.2 := by
 apply Classical.byContradiction
 intro hno
 let m:Nat → Int := fun j=>if U j then L j - 1 else L j
 have hm:SolF E m := by
  intro e he
  have a := h.sol e he
  simp only [m]
  by_cases u1:U e.1.toNat
  ·rw [if_pos u1]
   split <;> omega
  ·rw [if_neg u1]
   by_cases u2:U e.2.1.toNat
   ·rw [if_pos u2]
    have:L e.2.1.toNat ≠ L e.1.toNat + e.2.2 := fun hh=>hno ⟨e,he,u2,u1,hh⟩
    omega
   ·rw [if_neg u2]; exact a
 have hm0:LeF n t0 m := by
  intro j hj
  simp only [m]
  split
  ·rename_i u
   have := hlt j hj u
   omega
  ·exact h.ge j hj
 have hml:LeF n m L := by
  intro j hj
  simp only [m]
  split <;> omega
 have h1 := sumF_lt hml i hi (by simp only [m]; rw [if_pos hU]; omega)
 have h2 := h.sum m hm hm0
 omega
def cntF:Nat → (Nat → Int) → (Nat → Int) → Nat
 | 0,_,_=>0
 | n + 1,t,L=>cntF n t L + if t n < L n then 1 else 0
theorem cntF_n:∀ (n:Nat) (t L:Nat → Int),cntF n t L ≤ n
 | 0,t,L=>Nat.le_refl _
 | n + 1,t,L=>by
  have := cntF_n n t L
  simp only [cntF]
  split <;> omega
theorem cntF_le:∀ {n:Nat} {t t' L:Nat → Int},LeF n t t' → cntF n t' L ≤ cntF n t L
 | 0,t,t',L,h=>Nat.le_refl _
 | n + 1,t,t',L,h=>by
  have h1 := cntF_le (n := n) (t := t) (t' := t') (L := L) (fun i hi=>h i (by omega))
  have h2 := h n (by omega)
  simp only [cntF]
  split <;> split <;> omega
theorem cntF_lt:∀ {n:Nat} {t t' L:Nat → Int},LeF n t t' → ∀ i,i < n → t i < L i → L i ≤ t' i → cntF n t' L < cntF n t L
 | 0,t,t',L,h,i,hi,_,_=>by omega
 | n + 1,t,t',L,h,i,hi,h1,h2=>by
  have hle:LeF n t t' := fun j hj=>h j (by omega)
  have h3 := h n (by omega)
  simp only [cntF]
  by_cases e:i = n
  ·subst e
   have h4 := cntF_le (L := L) hle
   have:¬ t' i < L i := by omega
   rw [if_pos h1,if_neg this]
   omega
  ·have h4 := cntF_lt hle i (by omega) h1 h2
   split <;> split <;> omega
theorem cntF_zero:∀ {n:Nat} {t L:Nat → Int},cntF n t L = 0 → LeF n L t
 | 0,t,L,_,i,hi=>by omega
 | n + 1,t,L,h,i,hi=>by
  simp only [cntF] at h
  by_cases hc:t n < L n
  ·rw [if_pos hc] at h; omega
  ·by_cases e:i = n
   ·subst e; omega
   ·exact cntF_zero (n := n) (t := t) (L := L) (by omega) i (by omega)
theorem cntF_pos:∀ {n:Nat} {t L:Nat → Int},0 < cntF n t L → ∃ i,i < n ∧ t i < L i
 | 0,t,L,h=>by simp [cntF] at h
 | n + 1,t,L,h=>by
  simp only [cntF] at h
  by_cases hc:t n < L n
  ·exact ⟨n,by omega,hc⟩
  ·rw [if_neg hc] at h
   obtain ⟨i,hi,hl⟩ := cntF_pos (n := n) (t := t) (L := L) (by omega)
   exact ⟨i,by omega,hl⟩
theorem pass_cnt {E:List Edg} {t:List Int} {t0 L:Nat → Int} (hE:∀ e ∈ E,EOk t.length e) (hL:Least E t.length t0 L) (h0:LeF t.length t0 (fL t)) (hl:LeF t.length (fL t) L) (hc:0 < cntF t.length (fL t) L):cntF t.length (fL (passS E t).1) L < cntF t.length (fL t) L := by
 obtain ⟨i,hi,hlt⟩ := cntF_pos hc
 obtain ⟨e,he,u1,u2,h3⟩ := hL.tight (U := fun j=>fL t j < L j) hi hlt (fun j hj hu=>by have := h0 j hj; omega)
 have hek := hE e he
 have h4:fL t e.1.toNat + e.2.2 ≤ fL (passS E t).1 e.2.1.toNat := fold_to (s := (t,false)) hE e he
 have h5 := hl e.1.toNat (by have := hek.1; omega)
 refine cntF_lt (fun j _=>fold_ge (s := (t,false)) hE j) e.2.1.toNat (by have := hek.2; omega) u1 ?_
 omega
theorem bfS_ex {E:List Edg} {t0 L:Nat → Int}:∀ {k:Nat} {t:List Int},(∀ e ∈ E,EOk t.length e) → Least E t.length t0 L → LeF t.length t0 (fL t) → LeF t.length (fL t) L → cntF t.length (fL t) L ≤ k → ∃ t',bfS E k t = some t'
 | 0,t,hE,hL,h0,hl,hc=>by
  unfold bfS
  by_cases hp:(passS E t).2 = true
  ·exfalso
   rcases fold_true (s := (t,false)) hE hp with h | ⟨e,he,i,hi⟩
   ·cases h
   ·have hle:LeF t.length (fL (passS E t).1) L := fold_le (s := (t,false)) hE hL.sol hl
    have hz := cntF_zero (n := t.length) (t := fL t) (L := L) (by omega)
    have hil:i < t.length := by
     apply Classical.byContradiction
     intro hn
     have hlen := pass_len E t
     simp only [fL,passS] at hi hlen
     rw [List.getD_eq_getElem?_getD,List.getD_eq_getElem?_getD,List.getElem?_eq_none (by omega),List.getElem?_eq_none (by omega)] at hi
     simp at hi
    have := hle i hil
    have := hz i hil
    have hi':fL t i < fL (passS E t).1 i := hi
    omega
  ·exact ⟨_,if_neg hp⟩
 | k + 1,t,hE,hL,h0,hl,hc=>by
  unfold bfS
  by_cases hp:(passS E t).2 = true
  ·rw [if_pos hp]
   have hge:LeF t.length (fL t) (fL (passS E t).1) := fun j _=>fold_ge (s := (t,false)) hE j
   have hle:LeF t.length (fL (passS E t).1) L := fold_le (s := (t,false)) hE hL.sol hl
   have hlen := pass_len E t
   have hc':cntF t.length (fL (passS E t).1) L ≤ k := by
    by_cases hp:0 < cntF t.length (fL t) L
    ·have := pass_cnt hE hL h0 hl hp
     omega
    ·have := cntF_le (L := L) hge
     omega
   exact bfS_ex (E := E) (t0 := t0) (L := L) (k := k) (t := (passS E t).1) (by rw [hlen]; exact hE) (by rw [hlen]; exact hL) (by rw [hlen]; exact h0.trans hge) (by rw [hlen]; exact hle) (by rw [hlen]; exact hc')
  ·exact ⟨_,if_neg hp⟩
theorem bfS_some {E:List Edg} {t:List Int} {f:Nat → Int} (hE:∀ e ∈ E,EOk t.length e) (hf:SolF E f) (h0:LeF t.length (fL t) f):∃ t',bfS E t.length t = some t' := by
 obtain ⟨L,hL⟩ := least_ex hf h0
 exact bfS_ex hE hL (LeF.refl _ _) hL.ge (cntF_n _ _ _)
theorem list_ext {a b:List Int} (hl:a.length = b.length) (h:∀ i,i < a.length → fL a i = fL b i):a = b := by
 apply List.ext_getElem hl
 intro i h1 h2
 have := h i h1
 simp only [fL] at this
 rw [getD_some (List.getElem?_eq_getElem h1),getD_some (List.getElem?_eq_getElem h2)] at this
 exact this
theorem l85 {F:Nat} {l:List Int} (hl:l.length ≤ 1000):c85 F l = some l := by
 unfold c85
 cases l with
 | nil=>rfl
 | cons x l =>
  have h:¬ (x :: l).length = 0 := by simp
  have e:nilT Int ++ x :: l = x :: l := rfl
  have hl2:(x :: l).length * 8 ≤ 140737488355328 := by omega
  have hl3:(x :: l).length ≤ 9223372036854775807 := by omega
  simp only [h,decide_false,cond_false,e,hl2,hl3,decide_true,gd_true]
def EW (n:Nat) (e:Edg):Prop := EOk n e ∧ 0 ≤ e.2.2 ∧ e.2.2 ≤ 5000
def InB (b:Int) (t:List Int):Prop := ∀ x ∈ t,0 ≤ x ∧ x ≤ b
theorem InB.at {b:Int} {t:List Int} (h:InB b t) {i:Nat} (hi:i < t.length):0 ≤ t.getD i 0 ∧ t.getD i 0 ≤ b := h _ (getD_mem hi)
theorem InB.mono {b c:Int} {t:List Int} (h:InB b t) (hbc:b ≤ c):InB c t := fun x hx=>by have := h x hx; omega
theorem relax_in {b:Int} {s:List Int × Bool} {e:Edg} (h:InB b s.1) (he:EW s.1.length e):InB (b + 5000) (relax s e).1 := by
 unfold relax
 split
 ·intro x hx
  rcases List.mem_or_eq_of_mem_set hx with hx | rfl
  ·have := h x hx; omega
  ·have h1 := h.at (i := e.1.toNat) (by have := he.1.1; omega)
   have := he.2
   simp only [tq]
   omega
 ·exact h.mono (by omega)
theorem fold_in {E:List Edg}:∀ {b:Int} {s:List Int × Bool},InB b s.1 → (∀ e ∈ E,EW s.1.length e) → InB (b + 5000 * E.length) (E.foldl relax s).1 := by
 induction E with
 | nil=>intro b s h _; exact h.mono (by simp)
 | cons e E ih =>
  intro b s h hE
  rw [List.foldl_cons]
  have := ih (relax_in h (hE e (by simp))) (fun e' he'=>by rw [relax_len]; exact hE e' (by simp [he']))
  refine this.mono ?_
  rw [List.length_cons]
  omega
theorem pass_in {E:List Edg} {b:Int} {t:List Int} (h:InB b t) (hE:∀ e ∈ E,EW t.length e) (hl:E.length ≤ 3000):InB (b + 15000000) (passS E t).1 := (fold_in (s := (t,false)) h hE).mono (by omega)
theorem bf_loop {β:Type} {step:List Int × Int → Option ((List Int × Int) ⊕ β)} {E:List Edg} {n:Nat} {good bad:List Int → β} (Inv:Nat → List Int → Prop)
  (hstep:∀ (t:List Int) (j:Nat),Inv j t → j ≤ n → step (t,(j:Int)) = some (if (passS E t).2 = true then (if n < j + 1 then .inr (bad (passS E t).1) else .inl ((passS E t).1,(j:Int) + 1)) else .inr (good (passS E t).1)) ∧ Inv (j + 1) (passS E t).1) :
  ∀ (k:Nat) (t:List Int) (j F:Nat),j + k = n → Inv j t → k < F → ∃ b,loopO step F (t,(j:Int)) = some b ∧ ((∃ t',bfS E k t = some t' ∧ b = good t') ∨ (bfS E k t = none ∧ ∃ u,b = bad u))
 | _,t,j,0,hj,hI,hF=>by omega
 | 0,t,j,F + 1,hj,hI,hF=>by
  obtain ⟨h1,h2⟩ := hstep t j hI (by omega)
  simp only [loopO,h1,bfS]
  by_cases hc:(passS E t).2 = true
  ·simp only [hc,if_true,if_pos (show n < j + 1 by omega)]
   exact ⟨_,rfl,.inr ⟨by first | rfl | trivial,_,rfl⟩⟩
  ·simp only [hc,if_false,Bool.false_eq_true]
   exact ⟨_,rfl,.inl ⟨_,rfl,rfl⟩⟩
 | k + 1,t,j,F + 1,hj,hI,hF=>by
  obtain ⟨h1,h2⟩ := hstep t j hI (by omega)
  simp only [loopO,h1,bfS]
  by_cases hc:(passS E t).2 = true
  ·simp only [hc,if_true,if_neg (show ¬ n < j + 1 by omega)]
   exact bf_loop Inv hstep k _ (j + 1) F (by omega) h2 (by omega)
  ·simp only [hc,if_false,Bool.false_eq_true]
   exact ⟨_,rfl,.inl ⟨_,rfl,rfl⟩⟩
theorem bind_bf {β γ:Type} {step:List Int × Int → Option ((List Int × Int) ⊕ β)} {E:List Edg} {n F:Nat} {t0:List Int} {k:β → Option γ} {r:Option γ} (good bad:List Int → β) (Inv:Nat → List Int → Prop) (hF:n < F) (h0:Inv 0 t0)
  (hstep:∀ (t:List Int) (j:Nat),Inv j t → j ≤ n → step (t,(j:Int)) = some (if (passS E t).2 = true then (if n < j + 1 then .inr (bad (passS E t).1) else .inl ((passS E t).1,(j:Int) + 1)) else .inr (good (passS E t).1)) ∧ Inv (j + 1) (passS E t).1)
  (hk1:∀ t',bfS E n t0 = some t' → k (good t') = r) (hk2:bfS E n t0 = none → ∀ u,k (bad u) = r):Option.bind (loopO step F (t0,0)) k = r := by
 obtain ⟨b,h1,h2⟩ := bf_loop Inv hstep n t0 0 F (by omega) h0 hF
 rw [show ((0:Nat):Int) = 0 from rfl] at h1
 rw [h1]
 rcases h2 with ⟨t',h3,rfl⟩ | ⟨h3,u,rfl⟩
 ·exact hk1 t' h3
 ·exact hk2 h3 u
def earlS (low high:List Int) (E:List Edg):List Int × Bool := match bfS E low.length low with
 | none=>(nilT Int,false)
 | some t=>if ((t.zip high).any fun x=>decide (x.2 < x.1)) = true then (nilT Int,false) else (t,true)
theorem goL_relax (E:List Edg) (t:List Int):goL (fun e (s:List Int × Bool)=>(.inl (relax s e):(List Int × Bool) ⊕ (List Int × Bool))) (fun s=>(s.1,s.2)) E (t,false) = passS E t := by
 rw [goL_fold]
 rfl
structure PIn (n:Nat) (b:Int) (j:Nat) (t:List Int):Prop where
 len:t.length = n
 inb:∃ c,InB c t ∧ c ≤ b + 15000000 * j
theorem PIn.next {n:Nat} {b:Int} {j:Nat} {t:List Int} {E:List Edg} (h:PIn n b j t) (hE:∀ e ∈ E,EW n e) (hl:E.length ≤ 3000):PIn n b (j + 1) (passS E t).1 := by
 obtain ⟨h1,c,h2,h3⟩ := h
 exact ⟨by rw [pass_len]; exact h1,c + 15000000,pass_in h2 (fun e he=>by rw [h1]; exact hE e he) hl,by omega⟩
theorem PIn.bnd {n:Nat} {b:Int} {j:Nat} {t:List Int} (h:PIn n b j t) (hb:b ≤ 4398046511104) (hj:j ≤ 30):InB 4500000000000 t := by
 obtain ⟨h1,c,h2,h3⟩ := h
 exact h2.mono (by omega)
theorem pass_sim {step:List Int × Bool × Int → Option ((List Int × Bool × Int) ⊕ (List Int × Bool))} {E:List Edg} {n F:Nat} {t:List Int} (ht:t.length = n) (hE:∀ e ∈ E,EW n e) (hb:InB 4500000000000 t) (hEl:E.length ≤ 3000) (hF:E.length < F)
  (hstep:∀ (i:Nat) e s1 s2,i < E.length → E[i]? = some e → s1.length = n → InB 4600000000000 s1 → step (s1,s2,(i:Int)) = some (.inl ((relax (s1,s2) e).1,(relax (s1,s2) e).2,(i:Int) + 1)))
  (hend:∀ s1 s2,step (s1,s2,(E.length:Int)) = some (.inr (s1,s2))):loopO step F (t,false,(0:Int)) = some (passS E t) := by
 rw [← goL_relax]
 refine loopO_list E (fun (s:List Int × Bool) i=>(s.1,s.2,(i:Int))) (fun e s=>.inl (relax s e)) (fun s=>(s.1,s.2)) (fun i s=>s.1.length = n ∧ InB (4500000000000 + 5000 * i) s.1) ?_ ?_ rfl ⟨ht,hb.mono (by omega)⟩ hF
 ·intro i e s hi he ⟨hs1,hs2⟩
  refine ⟨hstep i e s.1 s.2 hi he hs1 (hs2.mono (by omega)),?_⟩
  intro s' hs'
  injection hs' with hs'
  rw [← hs']
  refine ⟨by rw [relax_len]; exact hs1,?_⟩
  exact (relax_in hs2 (by rw [hs1]; exact hE e (List.mem_of_getElem? he))).mono (by omega)
 ·intro s _
  exact hend s.1 s.2
theorem l66 {F:Nat} (hF:4000 ≤ F) {low high:List Int} {E:List Edg} (hn:low.length ≤ 30) (hh:high.length = low.length) (hE:∀ e ∈ E,EW low.length e) (hEl:E.length ≤ 3000) (hb:InB 4398046511104 low):c66 F ((low,high),E) = some (earlS low high E) := by
 unfold c66
 simp only [l85 (F := F) (show low.length ≤ 1000 by omega),Option.bind_some]
 refine bind_bf (E := E) (n := low.length) (fun t=>(Sum.inl t:List Int ⊕ List Int × List Int × Bool)) (fun t=>Sum.inr (t,nilT Int,false)) (PIn low.length 4398046511104) (by omega) ⟨rfl,_,hb,by omega⟩ ?_ ?_ ?_
 ·intro t j hI hj
  have htb := hI.bnd (by omega) (by omega)
  have ht := hI.len
  refine ⟨?_,hI.next hE hEl⟩
  simp only []
  rw [pass_sim (n := low.length) ht hE htb hEl (by omega) ?_ ?_]
  ·have hw:w64 ((j:Int) + 1) = (j:Int) + 1 := w64_in (by omega) (by omega)
   simp only [Option.bind_some]
   cases hc:(passS E t).2 with
   | false=>simp
   | true =>
    by_cases hl:low.length < j + 1
    ·have:(low.length:Int) < w64 ((j:Int) + 1) := by rw [w64_in (by omega) (by omega)]; omega
     simp only [hw] at this
     simp [hl,this,hw]
    ·have:¬ (low.length:Int) < w64 ((j:Int) + 1) := by rw [w64_in (by omega) (by omega)]; omega
     simp only [hw] at this
     simp [hl,this,hw]
  ·intro i e s1 s2 hi he hs1 hs2
   obtain ⟨⟨⟨e1,e2⟩,e3,e4⟩,e5,e6⟩ := hE e (List.mem_of_getElem? he)
   have g1 := hs2.at (i := e.1.toNat) (by omega)
   simp (disch := omega) only [cd_pos,gd_dec,Int.toNat_natCast,getD_some he,Nat.zero_add,w64_in]
   unfold relax
   simp only [tq]
   by_cases hc:s1.getD e.2.1.toNat 0 < s1.getD e.1.toNat 0 + e.2.2
   ·simp only [hc,decide_true,cond_true,if_true,Option.bind_some]
   ·simp only [hc,decide_false,cond_false,if_false,Option.bind_some]
  ·intro s1 s2
   simp (disch := omega) only [cd_neg]
 ·intro t' h3
  obtain ⟨k1,_,_,_⟩ := bfS_spec (fun e he=>(hE e he).1) h3
  unfold earlS
  simp only [h3,Sum.elim_inl]
  have hz:(t'.zip high).length = low.length := by rw [List.length_zip,k1,hh]; omega
  refine bind_any (t'.zip high) (fun x=>decide (x.2 < x.1)) (.inl (nilT Int,false)) (.inr ()) (by omega) ?_ ?_ ?_
  ·intro i x hi hx
   obtain ⟨hx1,hx2⟩ := List.getElem?_zip_eq_some.1 hx
   simp (disch := omega) only [cd_pos,gd_dec,Int.toNat_natCast,getD_some hx1,getD_some hx2,Nat.zero_add,w64_in]
   by_cases hc:x.2 < x.1 <;> simp [hc]
  ·rw [hz]
   simp (disch := omega) only [cd_neg]
  ·cases (t'.zip high).any fun x=>decide (x.2 < x.1) with
   | true=>simp
   | false =>
    have e:List.take low.length (List.drop 0 t') = t' := by rw [← k1,List.drop_zero,List.take_length]
    simp (disch := omega) only [Bool.false_eq_true,if_false,Sum.elim_inr,gd_dec,Nat.zero_add,e,k1,decide_true,Bool.and_self,gd_true,Nat.le_refl]
 ·intro h3 u
  unfold earlS
  simp only [h3,Sum.elim_inr]
theorem x64 {F:Nat} (hF:4000 ≤ F) {L:List Rul} {ks:List ByteArray} (hL:L.length ≤ 3000) (hk:ks.length ≤ 300):cx64_0 F (L,ks) = some (L.filter fun r=>ks.any fun y=>strEq r.1 y) := by
 unfold cx64_0
 refine bind_list L (fun (s:List Rul) i=>(s,(i:Int))) (fun r s=>.inl (if (ks.any fun y=>strEq r.1 y) = true then s ++ [r] else s)) (fun s=>s) (fun i s=>s.length ≤ i) [] (by omega) rfl (by simp) ?_ ?_ ?_
 ·intro i r s hi hr hs
  simp (disch := omega) only [cd_pos,gd_dec,w64_in,Int.toNat_natCast,getD_some hr,take_all,l111 (show 400 ≤ F by omega) hk,Nat.zero_add,Nat.le_refl,decide_true,Bool.and_self,gd_true,Option.bind_some]
  cases hb:ks.any fun y=>strEq r.1 y with
  | true =>
   simp (disch := omega) only [cond_true,len_snoc,gd_dec,decide_true,Bool.and_self,gd_true,Option.bind_some,if_true]
   refine ⟨rfl,?_⟩
   intro s' hs'
   injection hs' with hs'
   rw [← hs',List.length_append,List.length_singleton]
   omega
  | false =>
   simp (disch := omega) only [cond_false,gd_dec,decide_true,Bool.and_self,gd_true,Option.bind_some,if_false,Bool.false_eq_true]
   refine ⟨rfl,?_⟩
   intro s' hs'
   injection hs' with hs'
   rw [← hs']
   omega
 ·intro s hs
  simp (disch := omega) only [cd_neg,decide_true,Bool.and_self,gd_true,Option.bind_some]
 ·rw [goL_fold (fun (s:List Rul) (r:Rul)=>if (ks.any fun y=>strEq r.1 y) = true then s ++ [r] else s)]
  have e:∀ (M:List Rul) (s:List Rul),M.foldl (fun s r=>if (ks.any fun y=>strEq r.1 y) = true then s ++ [r] else s) s = s ++ M.filter fun r=>ks.any fun y=>strEq r.1 y := by
   intro M
   induction M with
   | nil=>intro s; simp
   | cons r M ih =>
    intro s
    rw [List.foldl_cons,ih]
    cases hb:ks.any fun y=>strEq r.1 y <;> simp [hb]
  rw [e]
  simp only [List.nil_append,take_all,Nat.zero_add,Nat.le_refl,decide_true,Bool.and_self,gd_true]
abbrev OpS := List Int × List Int × List Edg × List Rul
def edgO (p:Pln) (r:Rul):Edg := (r.2.1,r.2.2.1,(rq p r.2.1).2.1 + r.2.2.2)
def opB (p:Pln) (s:OpS) (r:Rul):OpS :=
 if strEq r.1 kW = true then (s.1.set r.2.1.toNat (rq p r.2.1).2.2.2.2.2.1,s.2.1.set r.2.1.toNat ((rq p r.2.1).2.2.2.2.2.2 - (rq p r.2.1).2.1),s.2.2.1,s.2.2.2)
 else if strEq r.1 kO = true then (s.1,s.2.1,s.2.2.1 ++ [edgO p r],s.2.2.2) else (s.1,s.2.1,s.2.2.1,s.2.2.2 ++ [r])
def open0 (p:Pln):OpS := (List.replicate p.1.length 0,List.replicate p.1.length 1099511627776,[],[])
def openS (p:Pln) (L:List Rul):OpS := L.foldl (opB p) (open0 p)
theorem rep_snoc {α:Type} (n:Nat) (x:α):List.replicate n x ++ x :: nilT α = List.replicate (n + 1) x := by
 rw [show (x :: nilT α) = [x] from rfl,← List.replicate_succ']
theorem l63 {F:Nat} (hF:4000 ≤ F) {p:Pln} (h:PV p) {L:List Rul} (hL:L.length ≤ 3000) (hR:∀ r ∈ L,RulOk p r):c63 F (p,L) = some (((openS p L).1,(openS p L).2.1),(openS p L).2.2.1,(openS p L).2.2.2) := by
 unfold c63
 have hn := h.n1
 refine bind_list p.1 (fun (_:Unit) i=>((),List.replicate i 0,List.replicate i 1099511627776,(i:Int))) (fun _ _=>.inl ()) (fun _=>((),List.replicate p.1.length 0,List.replicate p.1.length 1099511627776)) (fun _ _=>True) () (by omega) rfl trivial ?_ ?_ ?_
 ·intro i x _ hi hx _
  refine ⟨?_,fun _ _=>trivial⟩
  simp (disch := omega) only [cd_pos,rep_snoc,List.length_replicate,gd_dec,w64_in,decide_true,Bool.and_self,gd_true,Option.bind_some]
  exact (congrArg (fun z=>Option.bind z _) (gd_join _ _ _ _)).trans ((congrArg (fun z=>Option.bind z _) rfl).trans (gd_join _ _ _ _))
 ·intro _ _
  simp (disch := omega) only [cd_neg,decide_true,Bool.and_self,gd_true,Option.bind_some,List.length_replicate]
 ·rw [goL_unit]
  refine bind_list L (fun (s:OpS) i=>(s.1,s.2.1,s.2.2.1,s.2.2.2,(i:Int))) (fun r s=>.inl (opB p s r)) (fun s=>s) (fun i s=>s.1.length = p.1.length ∧ s.2.1.length = p.1.length ∧ s.2.2.1.length ≤ i ∧ s.2.2.2.length ≤ i) (open0 p) (by omega) rfl ⟨by simp [open0],by simp [open0],by simp [open0],by simp [open0]⟩ ?_ ?_ ?_
  ·intro i r s hi hr ⟨h1,h2,h3,h4⟩
   obtain ⟨low,high,E,Q⟩ := s
   simp only at h1 h2 h3 h4
   have hro := hR r (List.mem_of_getElem? hr)
   obtain ⟨k,a,b,g⟩ := r
   obtain ⟨hk,ha,hb,hg,_,_⟩ := hro
   simp only at hk ha hb hg
   have b1 := h.at ha.1 ha.2
   simp only [rq,r0] at b1
   simp only [eW,eO]
   refine ⟨?_,?_⟩
   ·unfold opB edgO
    simp only [rq,r0]
    rcases hk with rfl | rfl | rfl | rfl | rfl
    ·simp (disch := omega) only [cd_pos,gd_dec,w64_in,Int.toNat_natCast,getD_some hr,sWW,cond_true,if_true,List.length_replicate,List.length_set,Nat.zero_add,decide_true,Bool.and_self,gd_true,Option.bind_some,h1,h2]
     rfl
    ·simp (disch := omega) only [cd_pos,gd_dec,w64_in,Int.toNat_natCast,getD_some hr,sOW,sOO,cond_true,cond_false,if_true,if_false,Bool.false_eq_true,len_snoc,List.length_replicate,Nat.zero_add,decide_true,Bool.and_self,gd_true,Option.bind_some,h1,h2]
     rfl
    ·simp (disch := omega) only [cd_pos,gd_dec,w64_in,Int.toNat_natCast,getD_some hr,sAW,sAO,cond_true,cond_false,if_true,if_false,Bool.false_eq_true,len_snoc,List.length_replicate,Nat.zero_add,decide_true,Bool.and_self,gd_true,Option.bind_some,h1,h2]
     rfl
    ·simp (disch := omega) only [cd_pos,gd_dec,w64_in,Int.toNat_natCast,getD_some hr,sFW,sFO,cond_true,cond_false,if_true,if_false,Bool.false_eq_true,len_snoc,List.length_replicate,Nat.zero_add,decide_true,Bool.and_self,gd_true,Option.bind_some,h1,h2]
     rfl
    ·simp (disch := omega) only [cd_pos,gd_dec,w64_in,Int.toNat_natCast,getD_some hr,sTW,sTO,cond_true,cond_false,if_true,if_false,Bool.false_eq_true,len_snoc,List.length_replicate,Nat.zero_add,decide_true,Bool.and_self,gd_true,Option.bind_some,h1,h2]
     rfl
   ·intro s' hs'
    injection hs' with hs'
    rw [← hs']
    unfold opB
    split
    ·simp only [List.length_set]; omega
    ·split
     ·simp only [List.length_append,List.length_singleton]; omega
     ·simp only [List.length_append,List.length_singleton]; omega
  ·intro s ⟨h1,h2,h3,h4⟩
   simp (disch := omega) only [cd_neg,decide_true,Bool.and_self,gd_true,Option.bind_some]
  ·rw [goL_fold (opB p)]
   have hl:∀ (M:List Rul) (s:OpS),(M.foldl (opB p) s).1.length = s.1.length ∧ (M.foldl (opB p) s).2.1.length = s.2.1.length := by
    intro M
    induction M with
    | nil=>intro s; exact ⟨rfl,rfl⟩
    | cons r M ih =>
     intro s
     rw [List.foldl_cons]
     obtain ⟨a,b⟩ := ih (opB p s r)
     refine ⟨a.trans ?_,b.trans ?_⟩ <;> (unfold opB; split <;> (try split) <;> simp)
   obtain ⟨q1,q2⟩ := hl L (open0 p)
   have e:L.foldl (opB p) (open0 p) = openS p L := rfl
   rw [e] at q1 q2 ⊢
   have q3:(openS p L).1.length = p.1.length := by rw [q1]; simp [open0]
   have q4:(openS p L).2.1.length = p.1.length := by rw [q2]; simp [open0]
   have e1:List.take p.1.length (List.drop 0 (openS p L).1) = (openS p L).1 := by rw [← q3,List.drop_zero,List.take_length]
   have e2:List.take p.1.length (List.drop 0 (openS p L).2.1) = (openS p L).2.1 := by rw [← q4,List.drop_zero,List.take_length]
   simp only [List.length_replicate,e1,e2,take_all,Nat.zero_add,Nat.le_refl,q3,q4,decide_true,Bool.and_self,gd_true]
end Go.Proofs.Tryz
