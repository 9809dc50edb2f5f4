/- Plain law of SeedCharts: lists that are the same, copies; the whole. Functions of the program as functions of data. By program. And further parts. -/
import Derived.Test.YtdghdcclhnoigaaGreatDoorXTryzN
import Derived.Test.YtdghdcclhnoigaaGreatDoorXP8c
import Derived.Test.YtdghdcclhnoigaaGreatDoorXTryzA
set_option maxRecDepth 100000
set_option linter.unusedVariables false
set_option linter.all false
set_option linter.unusedSimpArgs false
section
namespace Go.Proofs.Tryz
open Go Go.Sx
end Go.Proofs.Tryz
end
section
namespace Go.Proofs.Tryz
open Go Go.Sx
end Go.Proofs.Tryz
end
namespace Go.Proofs.Tryz
open Go Go.Sx
def SeenL (s:List Int) (m:List Bool):Prop := m.length = 11 ∧ ∀ k:Nat,k < 11 → m.getD k false = decide ((k:Int) ∈ s)
theorem SeenL.put {s:List Int} {m:List Bool} (h:SeenL s m) {x:Int} (h0:0 ≤ x) (h1:x < 11):SeenL (x :: s) (m.set x.toNat true) := by
 refine ⟨by simp [h.1],fun k hk=>?_⟩
 have := h.2 k hk
 have hm := h.1
 by_cases e:x.toNat = k
 ·subst e
  have:((x.toNat:Nat):Int) = x := by omega
  simp [List.getD,List.getElem?_set,hm,hk,this]
 ·have hne:(k:Int) ≠ x := by omega
  simp only [List.getD] at this ⊢
  rw [List.getElem?_set_ne (by omega),this]
  simp [hne]
def SeenM (s:List Int) (m:List (Int × Bool)):Prop := ∀ k:Int,mgetD intEq k m false = decide (k ∈ s)
theorem SeenM.put {s:List Int} {m:List (Int × Bool)} (h:SeenM s m) {x:Int}:SeenM (x :: s) (mput intEq x true m) := by
 intro k
 rw [mgetD_mput intEq_iff,h k]
 by_cases e:k = x <;> simp [intEq,e]
abbrev Ent := TEnt
end Go.Proofs.Tryz
section
namespace Go.Proofs.Tryz
open Go Go.Sx
end Go.Proofs.Tryz
end
section
namespace Go.Proofs.Tryz
open Go Go.Sx
end Go.Proofs.Tryz
end
section
namespace Go.Proofs.Tryz
open Go Go.Sx
end Go.Proofs.Tryz
end
namespace Go.Proofs.Tryz
open Go Go.Sx
def InE (n:Nat) (a:Int):Prop := 0 ≤ a ∧ a < n
theorem bind_inv {σ β γ:Type} {step:σ → Option (σ ⊕ β)} {F:Nat} {t:σ} {k:β → Option γ} {P:γ → Prop} (Inv:σ → Prop) (m:σ → Nat) (Post:β → Prop)
  (h:∀ x,Inv x → (∃ y,step x = some (.inl y) ∧ Inv y ∧ m y < m x) ∨ ∃ b,step x = some (.inr b) ∧ Post b) (h0:Inv t) (hF:m t < F) (hk:∀ b,Post b → ∃ r,k b = some r ∧ P r):∃ r,Option.bind (loopO step F t) k = some r ∧ P r := by
 obtain ⟨b,h1,h2⟩ := loopO_ex Inv m Post h F t h0 hF
 rw [h1]
 exact hk b h2
end Go.Proofs.Tryz
section
namespace Go.Proofs.Tryz
open Go Go.Sx
end Go.Proofs.Tryz
end
namespace Go.Proofs.Tryz
open Go Go.Sx
theorem nodup_sub {α:Type} [DecidableEq α]:∀ (l m:List α),l.Nodup → (∀ x ∈ l,x ∈ m) → l.length ≤ m.length
 | [],m,_,_=>by simp
 | x :: l,m,h,hs=>by
  rw [List.nodup_cons] at h
  have hx := hs x List.mem_cons_self
  have := nodup_sub l (m.erase x) h.2 (fun y hy=>by
   have hne:y ≠ x := fun e=>h.1 (e ▸ hy)
   exact (List.mem_erase_of_ne hne).2 (hs y (List.mem_cons_of_mem _ hy)))
  rw [List.length_erase_of_mem hx] at this
  have := List.length_pos_of_mem hx
  simp only [List.length_cons]
  omega
theorem ids_nodup (n:Nat):(ids n).Nodup := by
 unfold ids
 refine List.Pairwise.map _ (fun a b h=>?_) List.nodup_range
 intro e
 exact h (by omega)
def formI (n:Nat) (x:Int) (s:List Int):List Int ⊕ (List Int ⊕ Int) := if x < 0 ∨ (n:Int) ≤ x then .inr (.inr 10) else if x ∈ s then .inr (.inr 9) else .inl (x :: s)
def formG (n:Nat) (g:List Int) (s:List Int):List Int ⊕ Int := goL (formI n) .inl g s
def formS (n:Nat) (h:List (List Int)):Int := if h.length = 0 then 12 else if 16 < h.length then 5 else goL (formG n) (fun s=>if s.length < n then 7 else 0) h []
def FormI (n:Nat) (s:List Int):Prop := s.Nodup ∧ ∀ x ∈ s,InE n x
theorem FormI.len {n:Nat} {s:List Int} (h:FormI n s):s.length ≤ n := by
 have := nodup_sub s (ids n) h.1 (fun x hx=>mem_ids.2 (h.2 x hx))
 rwa [ids_length] at this
theorem FormI.all {n:Nat} {s:List Int} (h:FormI n s):s.length < n ↔ ∃ k ∈ ids n,k ∉ s := by
 constructor
 ·intro hl
  refine Classical.byContradiction fun hc=>?_
  have := nodup_sub (ids n) s (ids_nodup n) (fun x hx=>Classical.byContradiction fun hx'=>hc ⟨x,hx,hx'⟩)
  rw [ids_length] at this
  omega
 ·rintro ⟨k,hk,hks⟩
  have := nodup_sub (k :: s) (ids n) (List.nodup_cons.2 ⟨hks,h.1⟩) (fun x hx=>by
   rcases List.mem_cons.1 hx with rfl | hx
   ·exact hk
   ·exact mem_ids.2 (h.2 x hx))
  rw [ids_length,List.length_cons] at this
  omega
theorem FormI.cons {n:Nat} {s:List Int} (h:FormI n s) {x:Int} (h1:¬ (x < 0 ∨ (n:Int) ≤ x)) (h2:x ∉ s):FormI n (x :: s) :=
 ⟨List.nodup_cons.2 ⟨h2,h.1⟩,fun y hy=>by
  rcases List.mem_cons.1 hy with rfl | hy
  ·exact ⟨by omega,by omega⟩
  ·exact h.2 y hy⟩
def SeenN (n:Nat) (s:List Int) (m:List Bool):Prop := m.length = n ∧ ∀ k:Nat,k < n → m.getD k false = decide ((k:Int) ∈ s)
theorem SeenN.put {n:Nat} {s:List Int} {m:List Bool} (h:SeenN n s m) {x:Int} (h0:0 ≤ x) (h1:x < n):SeenN n (x :: s) (m.set x.toNat true) := by
 refine ⟨by simp [h.1],fun k hk=>?_⟩
 have := h.2 k hk
 have hm := h.1
 by_cases e:x.toNat = k
 ·subst e
  have:((x.toNat:Nat):Int) = x := by omega
  simp [List.getD,List.getElem?_set,hm,hk,this]
 ·have hne:(k:Int) ≠ x := by omega
  simp only [List.getD] at this ⊢
  rw [List.getElem?_set_ne (by omega),this]
  simp [hne]
theorem SeenN.nil (n:Nat):SeenN n [] (List.replicate n false) := ⟨by simp,fun k hk=>by rw [List.getD_eq_getElem?_getD,List.getElem?_replicate,if_pos hk]; simp⟩
theorem l37 {F:Nat} (hF:400 ≤ F) {n:Nat} (hn:n ≤ 1000) {h:List (List Int)} (hh:∀ g ∈ h,g.length < 400):c37 F ((n:Int),h) = some (formS n h) := by
 unfold c37 formS
 dsimp only
 by_cases h0:h.length = 0
 ·rw [cd_pos (by omega),if_pos h0]
 ·rw [cd_neg (by omega),if_neg h0]
  by_cases h1:16 < h.length
  ·rw [cd_pos (by omega),if_pos h1]
  ·rw [cd_neg (by omega),if_neg h1]
   simp (disch := omega) only [gd_dec,Int.toNat_natCast]
   refine ex_eq (bind_sim h (formG n) (fun s=>if s.length < n then 7 else 0) (fun i s t=>t = (t.1,(s.length:Int),(i:Int)) ∧ SeenN n s t.1 ∧ FormI n s) (fun (a:Int) (b:List Bool × Int ⊕ List Bool × Int)=>match b with
    | .inl v=>a = v.2
    | .inr v=>a = (if v.2 < (n:Int) then 7 else 0)) [] (by omega) ⟨rfl,SeenN.nil n,List.nodup_nil,fun _ h=>by cases h⟩ ?_ ?_ ?_)
   ·intro i g s t hi hg ⟨ht,hs,hI⟩
    obtain ⟨m,t2⟩ := t
    simp only at hs
    rw [ht]
    have hgl := hh g (List.mem_of_getElem? hg)
    simp (disch := omega) only [cd_pos,gd_dec,Int.toNat_natCast,getD_some hg,w64_in (n := ((i:Nat):Int) + 1)]
    refine bind_sim g (formI n) .inl (fun k s' t=>t = (t.1,(s'.length:Int),(k:Int)) ∧ SeenN n s' t.1 ∧ FormI n s') (fun (a:List Int ⊕ Int) (b:List Bool × Int ⊕ List Bool × Int)=>RelS (fun s' v=>v.2 = (s'.length:Int) ∧ SeenN n s' v.1 ∧ FormI n s') (fun e v=>v.2 = e) a (b.elim .inr .inl)) s (by omega) ⟨rfl,hs,hI⟩ ?_ ?_ ?_
    ·intro k x s' t hk hx ⟨ht,hs',hI'⟩
     obtain ⟨m',t2⟩ := t
     simp only at hs'
     rw [ht]
     have hml := hs'.1
     have hsl := hI'.len
     have hw:w64 ((n:Int) - 1) = (n:Int) - 1 := w64_in (by omega) (by omega)
     simp (disch := omega) only [cd_pos,gd_dec,Int.toNat_natCast,getD_some hx,l82,hw,Option.bind_some]
     unfold formI
     by_cases hb:x < 0 ∨ (n:Int) ≤ x
     ·have:x < 0 ∨ (n:Int) - 1 < x := by omega
      rw [if_pos hb]
      simp only [this,decide_true,cond_true]
      exact ⟨_,rfl,rfl⟩
     ·have:¬ (x < 0 ∨ (n:Int) - 1 < x) := by omega
      rw [if_neg hb]
      have hsn := hs'.2 x.toNat (by omega)
      rw [show ((x.toNat:Nat):Int) = x by omega] at hsn
      simp only [this,decide_false,cond_false]
      simp (disch := omega) only [gd_dec,Nat.zero_add,hsn]
      by_cases hin:x ∈ s'
      ·rw [if_pos hin]
       simp only [hin,decide_true,cond_true]
       exact ⟨_,rfl,rfl⟩
      ·rw [if_neg hin]
       simp only [hin,decide_false,cond_false]
       refine ⟨_,rfl,?_⟩
       refine ⟨?_,hs'.put (by omega) (by omega),hI'.cons hb hin⟩
       rw [w64_in (by omega) (by omega),w64_in (by omega) (by omega)]
       simp
    ·intro s' t ⟨ht,hs',hI'⟩
     rw [ht]
     simp (disch := omega) only [cd_neg]
     exact ⟨_,rfl,rfl,hs',hI'⟩
    ·intro b hb
     unfold formG
     cases b with
     | inl v =>
      cases hgo:goL (formI n) (fun s=>(.inl s:List Int ⊕ Int)) g s with
      | inl s'=>rw [hgo] at hb; exact hb.elim
      | inr e=>rw [hgo] at hb; exact ⟨_,rfl,hb.symm⟩
     | inr v =>
      cases hgo:goL (formI n) (fun s=>(.inl s:List Int ⊕ Int)) g s with
      | inr e=>rw [hgo] at hb; exact hb.elim
      | inl s' =>
       rw [hgo] at hb
       obtain ⟨b1,b2,b3⟩ := hb
       refine ⟨_,rfl,?_⟩
       exact ⟨by simp [b1],b2,b3⟩
   ·intro s t ⟨ht,hs,hI⟩
    rw [ht]
    simp (disch := omega) only [cd_neg]
    refine ⟨_,rfl,?_⟩
    by_cases q:s.length < n
    ·rw [if_pos q]
     exact (if_pos (show (s.length:Int) < (n:Int) by omega)).symm
    ·rw [if_neg q]
     exact (if_neg (show ¬ (s.length:Int) < (n:Int) by omega)).symm
   ·intro b hb
    cases b with
    | inl v=>exact ⟨_,rfl,hb.symm⟩
    | inr v =>
     refine ⟨if v.2 < (n:Int) then 7 else 0,?_,hb.symm⟩
     simp only [Sum.elim_inr]
     by_cases q:v.2 < (n:Int)
     ·rw [cd_pos q,if_pos q]
     ·rw [cd_neg q,if_neg q]
end Go.Proofs.Tryz
section
namespace Go.Proofs.Tryz
open Go Go.Sx
end Go.Proofs.Tryz
end
section
namespace Go.Proofs.Tryz
open Go Go.Sx
end Go.Proofs.Tryz
end
namespace Go.Proofs.Tryz
open Go Go.Sx
def SeenC (s:List ByteArray) (m:List (ByteArray × Int)):Prop := ∀ c:ByteArray,mgetD strEq c m 0 = (s.countP fun y=>strEq c y:Int)
theorem SeenC.put {s:List ByteArray} {m:List (ByteArray × Int)} (h:SeenC s m) (x:ByteArray):SeenC (s ++ [x]) (mput strEq x ((s.countP fun y=>strEq x y:Int) + 1) m) := by
 intro c
 rw [mgetD_mput strEq_iff,h c,List.countP_append]
 by_cases e:c = x
 ·subst e
  simp [strEq_self]
 ·simp [strEq_false e]
noncomputable def lx4 (F:Nat):LK := lC (pc16_ok F) (lC (pc17_ok F) (lC (pc31_ok F) (lC (pc32_ok F) (lC (pc34_ok F) (lC (pc35_ok F) (lC (pc36_ok F) (lC (pc37_ok F) (lC (pc38_ok F) (lC (pc39_ok F) (lC (pc40_ok F) (lC (pc22_ok F) (lC (pc25_ok F) (lC (pc26_ok F) (lC (pc33_ok F) (lC (pc18_ok F) (lC (pc15_ok F) lN))))))))))))))))
noncomputable def pc4 (F:Nat):PC := qT (lx4 F) (.two .leaf (.two .leaf (.two (.two (.join [(.normal,⟨[.slot 29 (.val (.bool))],[]⟩)] ⟨[29,28,27,26,25,24,23,22,21,20,19],[],[]⟩ .leaf) .leaf) (.two .leaf (.two .leaf (.two .leaf (.two .leaf (.two .leaf (.two (.two (.join [(.normal,⟨[.slot 78 (.val (.bool))],[]⟩)] ⟨[78,77,76,75,74,73,72,71,70,69,68,67,66,65,64,63,62,61,60,59,58,57,56],[],[]⟩ .leaf) .leaf) (.two (.two .leaf (.two (.two (.join [(.normal,⟨[.slot 6 (.val (.bool))],[]⟩)] ⟨[6,89,88,87,86,85,84,83,82,81],[],[]⟩ .leaf) .leaf) .leaf)) (.two .leaf (.two .leaf (.two (.two .leaf (.join [(.normal,⟨[.slot 16 (.val (.int .i64))],[]⟩)] ⟨[16,108,107,106,105,104,103],[],[]⟩ .leaf)) (.two (.two .leaf (.two (.two (.join [(.normal,⟨[.slot 6 (.val (.bool))],[]⟩)] ⟨[6,119,118,117,116,115,114,113,112,111],[],[]⟩ .leaf) .leaf) .leaf)) (.two (.join [(.normal,⟨[.slot 6 (.val (.bool))],[]⟩)] ⟨[6,130,129,128,127,126,125,124,123,122,121,120],[],[]⟩ .leaf) .leaf))))))))))))))) f4 [.val (.seq [.str,.str,.str,.int .i64,.str]),.val (.seq [.seq [.int .i64]]),.val (.int .i64)] [.val (.bool)]
noncomputable def c4 (F:Nat) := (pc4 F).code
end Go.Proofs.Tryz
section
namespace Go.Proofs.Tryz
open Go Go.Sx
end Go.Proofs.Tryz
end
section
namespace Go.Proofs.Tryz
open Go Go.Sx
end Go.Proofs.Tryz
end
section
namespace Go.Proofs.Tryz
open Go Go.Sx
end Go.Proofs.Tryz
end
section
namespace Go.Proofs.Tryz
open Go Go.Sx
end Go.Proofs.Tryz
end
namespace Go.Proofs.Tryz
open Go Go.Sx
theorem formI_go {n:Nat}:∀ (g s:List Int),(∀ x ∈ g,InE n x) → (g ++ s).Nodup → goL (formI n) .inl g s = (.inl (g.reverse ++ s):List Int ⊕ Int)
 | [],s,_,_=>rfl
 | x :: g,s,h,hn=>by
  have hx := h x List.mem_cons_self
  have hxs:x ∉ s := fun hm=>by
   rw [List.cons_append,List.nodup_cons] at hn
   exact hn.1 (List.mem_append_right _ hm)
  rw [goL_cons,formI,if_neg (by have h1 := hx.1; have h2 := hx.2; omega),if_neg hxs]
  simp only
  rw [formI_go g (x :: s) (fun y hy=>h y (List.mem_cons_of_mem _ hy)) (by
   have:(g ++ x :: s).Perm (x :: (g ++ s)) := List.perm_middle
   exact this.nodup_iff.2 hn)]
  simp
end Go.Proofs.Tryz
section
namespace Go.Proofs.Tryz
open Go Go.Sx
end Go.Proofs.Tryz
end
section
namespace Go.Proofs.Tryz
open Go Go.Sx
end Go.Proofs.Tryz
end
section
namespace Go.Proofs.Tryz
open Go Go.Sx
end Go.Proofs.Tryz
end
section
namespace Go.Proofs.Tryz
open Go Go.Sx
end Go.Proofs.Tryz
end
namespace Go.Proofs.Tryz
open Go Go.Sx
theorem ShortR.one {l:List (List Run)} (h:ShortR l) {x:List Run} (hx:x ∈ l):ShortR [x] :=
 ⟨by simp,fun y hy=>by obtain rfl := List.mem_singleton.1 hy; exact h.2 _ hx⟩
def zhN (h r:Nat):Nat := if r / h % 2 = 1 then h - 1 - r % h else r % h
theorem zhN_lt {h:Nat} (h0:0 < h) (r:Nat):zhN h r < h := by
 have := Nat.mod_lt r h0
 unfold zhN; split <;> omega
def putZ (h:Nat) (f:Nat → Int):Nat → List (List Int)
 | 0=>List.replicate h []
 | r + 1=>(putZ h f r).set (zhN h r) ((putZ h f r).getD (zhN h r) [] ++ [f r])
theorem putZ_len (h:Nat) (f:Nat → Int):∀ n,(putZ h f n).length = h
 | 0=>by simp [putZ]
 | n + 1=>by simp [putZ,putZ_len h f n]
theorem putZ_getD {h:Nat} {f:Nat → Int} {n i:Nat} (hi:i < h):(putZ h f (n + 1)).getD i [] = if i = zhN h n then (putZ h f n).getD i [] ++ [f n] else (putZ h f n).getD i [] := by
 have hl := putZ_len h f n
 simp only [putZ,List.getD_eq_getElem?_getD,List.getElem?_set]
 by_cases e:i = zhN h n
 ·subst e; simp [hl,hi]
 ·have e':¬ zhN h n = i := fun q=>e q.symm
  simp [e,e']
theorem putZ_row {h:Nat} {f:Nat → Int}:∀ (n i:Nat),((putZ h f n).getD i []).length ≤ n
 | 0,i=>by simp [putZ,List.getD_eq_getElem?_getD,List.getElem?_replicate]; split <;> simp
 | n + 1,i=>by
  have := putZ_row (h := h) (f := f) n i
  by_cases hi:i < h
  ·rw [putZ_getD hi]
   split
   ·rw [List.length_append,List.length_singleton]; omega
   ·omega
  ·have:(putZ h f (n + 1)).getD i [] = [] := by
    rw [List.getD_eq_getElem?_getD,List.getElem?_eq_none (by rw [putZ_len]; omega)]; rfl
   rw [this]; simp
theorem nilRows_rep:∀ (n:Nat),nilRows (List.replicate n [PV.lit (Go.Value.slice Option.none 0 0)]) = true
 | 0=>rfl
 | n + 1=>nilRows_rep n
theorem zk_eq {H i:Nat} (h0:0 < H) (h1:H ≤ 1000) (hi:i < 100000):(bif decide (Int.tmod (w64 (Int.tdiv (i:Int) (H:Int))) 2 = 1) then some (w64 (w64 ((H:Int) - 1) - Int.tmod (i:Int) (H:Int))) else some (Int.tmod (i:Int) (H:Int))) = some ((zhN H i:Nat):Int) := by
 have e1:Int.tdiv (i:Int) (H:Int) = ((i / H:Nat):Int) := rfl
 have e2:Int.tmod (i:Int) (H:Int) = ((i % H:Nat):Int) := rfl
 have hm := Nat.mod_lt i h0
 have hd:i / H ≤ i := Nat.div_le_self i H
 rw [e1,e2]
 unfold zhN
 generalize i / H = q at *
 generalize i % H = m at *
 rw [w64_in (by omega) (by omega)]
 have e3:Int.tmod ((q:Nat):Int) 2 = ((q % 2:Nat):Int) := rfl
 rw [e3]
 by_cases h:q % 2 = 1
 ·rw [if_pos h,cd_pos (by omega),w64_in (n := (H:Int) - 1) (by omega) (by omega),w64_in (by omega) (by omega)]
  congr 1; omega
 ·rw [if_neg h,cd_neg (by omega)]
def zigE (n h:Int):Int := if n < 0 ∨ 160 < n ∨ h < 1 ∨ 16 < h then 3 else 0
theorem zigE_nz (n h:Int):firstNZ [if n < 0 ∨ 160 < n then 3 else 0,if h < 1 ∨ 16 < h then 3 else 0] = zigE n h := by
 unfold zigE
 by_cases h1:n < 0 ∨ 160 < n
 ·have:n < 0 ∨ 160 < n ∨ h < 1 ∨ 16 < h := by omega
  simp [h1,this,firstNZ]
 ·by_cases h2:h < 1 ∨ 16 < h
  ·have:n < 0 ∨ 160 < n ∨ h < 1 ∨ 16 < h := by omega
   simp [h1,h2,this,firstNZ]
  ·have:¬ (n < 0 ∨ 160 < n ∨ h < 1 ∨ 16 < h) := by omega
   simp [h1,h2,this,firstNZ]
theorem l29 {F:Nat} (hF:400 ≤ F) {n h:Int}:c29 F (n,h) = some (if zigE n h ≠ 0 then ([],3) else (putZ h.toNat (fun r=>(r:Int)) n.toNat,0)) := by
 unfold c29
 simp only [l83,l80,Option.bind_some,nilT]
 rw [l75 (show ([if n < 0 ∨ 160 < n then 3 else 0,if h < 1 ∨ 16 < h then 3 else 0]:List Int).length < F by simp; omega) (by simp)]
 rw [zigE_nz,Option.bind_some]
 by_cases he:n < 0 ∨ 160 < n ∨ h < 1 ∨ 16 < h
 ·have:zigE n h = 3 := if_pos he
  simp [this]
 ·have hz:zigE n h = 0 := if_neg he
  obtain ⟨n,rfl⟩ := Int.eq_ofNat_of_zero_le (show 0 ≤ n by omega)
  obtain ⟨h,rfl⟩ := Int.eq_ofNat_of_zero_le (show 0 ≤ h by omega)
  have h0:0 < h := by omega
  have h1:h ≤ 16 := by omega
  have hn:n ≤ 160 := by omega
  simp (disch := omega) only [hz,decide_true,Bool.not_true,cond_false,gd_dec,Int.toNat_natCast,nilRows_rep,List.map_replicate,gd_true,List.length_replicate,decide_true,Bool.and_true,Option.bind_some,ne_eq,not_true_eq_false,if_false]
  refine ex_eq (bind_inv (fun v=>∃ i:Nat,v = (putZ h (fun r=>(r:Int)) i,(),(i:Int)) ∧ i ≤ n) (fun v=>n - v.2.2.toNat) (fun b=>b = (putZ h (fun r=>(r:Int)) n,())) ?_ ⟨0,rfl,Nat.zero_le _⟩ (by simp; omega) ?_)
  ·rintro v ⟨i,rfl,hi⟩
   have hl := putZ_len h (fun r=>(r:Int)) i
   have hz := zhN_lt h0 i
   have hr := putZ_row (h := h) (f := fun r=>(r:Int)) i (zhN h i)
   by_cases hin:i < n
   ·left
    have hls := len_snoc ((putZ h (fun r=>(r:Int)) i).getD (zhN h i) []) (i:Int)
    simp only [nilT] at hls
    simp (disch := omega) only [cd_pos,gd_dec,zk_eq h0 (show h ≤ 1000 by omega),Option.bind_some,Int.toNat_natCast,Nat.zero_add,hls,hl,List.length_set,decide_true,Bool.and_true,gd_true]
    refine ⟨_,rfl,⟨i + 1,?_,by omega⟩,?_⟩
    ·rw [w64_in (by omega) (by omega)]; rfl
    ·show n - (w64 ((i:Int) + 1)).toNat < n - ((i:Int)).toNat
     rw [w64_in (by omega) (by omega)]; omega
   ·right
    have:i = n := by omega
    subst this
    simp (disch := omega) only [cd_neg,decide_true,Bool.and_true,gd_true,Option.bind_some,hl,gd_dec]
    exact ⟨_,rfl,rfl⟩
  ·rintro b rfl
   have hl := putZ_len h (fun r=>(r:Int)) n
   simp (disch := omega) only [gd_dec,take_all]
   exact ⟨_,rfl,rfl⟩
def hE (h:Int):Int := if h < 1 ∨ 16 < h then 3 else 0
theorem bind_left {σ β τ γ:Type} {step:σ → Option (σ ⊕ β)} {F:Nat} {t:σ} {k:β → Option (τ ⊕ γ)} {P:τ → Prop} (Inv:σ → Prop) (m:σ → Nat) (Post:β → Prop)
  (h:∀ x,Inv x → (∃ y,step x = some (.inl y) ∧ Inv y ∧ m y < m x) ∨ ∃ b,step x = some (.inr b) ∧ Post b) (h0:Inv t) (hF:m t < F) (hk:∀ b,Post b → ∃ y,k b = some (.inl y) ∧ P y):∃ y,Option.bind (loopO step F t) k = some (.inl y) ∧ P y := by
 obtain ⟨b,h1,h2⟩ := loopO_ex Inv m Post h F t h0 hF
 rw [h1]
 exact hk b h2
def eN (h q i:Nat):Nat := q * h + (if q % 2 = 1 then h - 1 - i else i)
def cntN (h n i:Nat):Nat := n / h + (if eN h (n / h) i < n then 1 else 0)
theorem eN_lt {h i:Nat} (hi:i < h) (q:Nat):q * h ≤ eN h q i ∧ eN h q i < q * h + h := by
 unfold eN; split <;> omega
theorem eN_div {h i:Nat} (hi:i < h) (q:Nat):eN h q i / h = q := by
 have := eN_lt hi q
 refine Nat.div_eq_of_lt_le this.1 ?_
 rw [Nat.succ_mul]; exact this.2
theorem zhN_e {h i n:Nat} (hi:i < h):i = zhN h n ↔ eN h (n / h) i = n := by
 have h1 := Nat.div_add_mod n h
 have h2 := Nat.mod_lt n (show h > 0 by omega)
 rw [Nat.mul_comm] at h1
 unfold zhN eN
 generalize n / h * h = Q at *
 generalize n % h = m at *
 split <;> omega
theorem cnt_succ {h i n:Nat} (hi:i < h):cntN h (n + 1) i = cntN h n i + (if i = zhN h n then 1 else 0) ∧ (i = zhN h n → cntN h n i = n / h ∧ eN h (n / h) i = n) := by
 have h1 := Nat.div_add_mod n h
 have h2 := Nat.mod_lt n (show h > 0 by omega)
 rw [Nat.mul_comm] at h1
 have hz := zhN_e (n := n) hi
 have he := eN_lt hi (n / h)
 refine ⟨?_,fun e=>⟨?_,hz.1 e⟩⟩
 ·by_cases hm:n % h + 1 < h
  ·have hd:(n + 1) / h = n / h := by
    refine Nat.div_eq_of_lt_le ?_ ?_
    ·generalize n / h * h = Q at *; omega
    ·rw [Nat.succ_mul]; generalize n / h * h = Q at *; omega
   unfold cntN
   rw [hd]
   simp only [hz]
   split <;> split <;> split <;> omega
  ·have hd:(n + 1) / h = n / h + 1 := by
    refine Nat.div_eq_of_lt_le ?_ ?_
    ·rw [Nat.succ_mul]; generalize n / h * h = Q at *; omega
    ·rw [Nat.succ_mul,Nat.succ_mul]; generalize n / h * h = Q at *; omega
   have he2 := eN_lt hi (n / h + 1)
   rw [Nat.succ_mul] at he2
   unfold cntN
   rw [hd]
   simp only [hz]
   generalize n / h * h = Q at *
   split <;> split <;> split <;> omega
 ·have := hz.1 e
  unfold cntN
  rw [if_neg (by omega)]
  rfl
def rowZ (h n i:Nat):List Int := (List.range (cntN h n i)).map fun q=>((eN h q i:Nat):Int)
theorem putZ_rowE {h i:Nat} (hi:i < h):∀ n,(putZ h (fun r=>(r:Int)) n).getD i [] = rowZ h n i
 | 0=>by
  have:cntN h 0 i = 0 := by simp [cntN]
  simp [rowZ,this,putZ,List.getD_eq_getElem?_getD,hi]
 | n + 1=>by
  rw [putZ_getD hi,putZ_rowE hi n]
  obtain ⟨h1,h2⟩ := cnt_succ (n := n) hi
  unfold rowZ
  rw [h1]
  by_cases e:i = zhN h n
  ·obtain ⟨h3,h4⟩ := h2 e
   rw [if_pos e,if_pos e,List.range_succ,List.map_append,h3]
   simp [h4]
  ·rw [if_neg e,if_neg e]; rfl
theorem rowZ_len (h n i:Nat):(rowZ h n i).length = cntN h n i := by simp [rowZ]
theorem rowZ_get {h n i k:Nat} (hk:k < cntN h n i):(rowZ h n i)[k]? = some ((eN h k i:Nat):Int) := by simp [rowZ,hk]
theorem cnt_lt {h n i k:Nat} (hi:i < h) (hk:k < cntN h n i):eN h k i < n := by
 have h1 := Nat.div_mul_le_self n h
 have he := eN_lt hi k
 unfold cntN at hk
 split at hk
 ·rename_i hc
  by_cases e:k = n / h
  ·rw [e]; exact hc
  ·have := Nat.mul_le_mul_right h (show k + 1 ≤ n / h by omega)
   rw [Nat.succ_mul] at this; omega
 ·have := Nat.mul_le_mul_right h (show k + 1 ≤ n / h by omega)
  rw [Nat.succ_mul] at this; omega
def psum (h i:Nat):Nat → Nat
 | 0=>0
 | k + 1=>psum h i k + eN h k i
theorem psum_even {h i j:Nat} (hi:i < h) (hj:j < h):∀ p,psum h i (2 * p) = psum h j (2 * p)
 | 0=>rfl
 | p + 1=>by
  have ih := psum_even hi hj p
  rw [show 2 * (p + 1) = 2 * p + 1 + 1 by omega]
  simp only [psum,ih,eN]
  rw [if_neg (by omega),if_pos (by omega),if_neg (by omega),if_pos (by omega)]
  omega
theorem psum_le {h n i:Nat} (hi:i < h):∀ k,k ≤ cntN h n i → psum h i k ≤ k * n
 | 0,_=>by simp [psum]
 | k + 1,hk=>by
  have := psum_le (n := n) hi k (by omega)
  have := cnt_lt (n := n) hi (show k < cntN h n i by omega)
  simp only [psum]; rw [Nat.succ_mul]; omega
theorem flat_set:∀ {l:List (List Int)} {i:Nat} {x:Int},i < l.length → (l.set i (l.getD i [] ++ [x])).flatten.Perm (x :: l.flatten)
 | [],i,x,h=>by simp at h
 | r :: l,0,x,h=>by
  simp only [List.set_cons_zero,List.getD_cons_zero,List.flatten_cons,List.append_assoc,List.singleton_append]
  exact List.perm_middle
 | r :: l,i + 1,x,h=>by
  simp only [List.set_cons_succ,List.getD_cons_succ,List.flatten_cons]
  have := flat_set (l := l) (i := i) (x := x) (by simpa using h)
  exact (this.append_left r).trans List.perm_middle
theorem putZ_flat {h:Nat} (h0:0 < h) (f:Nat → Int):∀ n,(putZ h f n).flatten.Perm ((List.range n).map f)
 | 0=>by
  have:(List.replicate h ([]:List Int)).flatten = [] := by simp
  simp [putZ,this]
 | n + 1=>by
  have := putZ_flat h0 f n
  simp only [putZ]
  refine (flat_set (by rw [putZ_len]; exact zhN_lt h0 n)).trans ?_
  rw [List.range_succ,List.map_append]
  refine (this.cons (f n)).trans ?_
  exact (List.perm_append_comm (l₁ := [f n]) (l₂ := List.map f (List.range n)))
theorem formZ_go {n:Nat}:∀ (L:List (List Int)) (s:List Int),(∀ x ∈ L.flatten,InE n x) → (L.flatten ++ s).Nodup → ∃ s':List Int,goL (formG n) (fun s=>if s.length < n then (7:Int) else 0) L s = (if s'.length < n then 7 else 0) ∧ s'.length = L.flatten.length + s.length
 | [],s,_,_=>⟨s,rfl,by simp⟩
 | g :: L,s,h,hn=>by
  have hg := formI_go g s (fun x hx=>h x (by simp [hx])) (by
   have h2:(g ++ (L.flatten ++ s)).Nodup := by simpa using hn
   have h3:(g ++ s).Sublist (g ++ (L.flatten ++ s)) := (List.sublist_append_right _ _).append_left g
   exact h3.nodup h2)
  rw [goL_cons,formG,hg]
  have hp:(L.flatten ++ (g.reverse ++ s)).Perm ((g :: L).flatten ++ s) := by
   simp only [List.flatten_cons]
   have e1:(L.flatten ++ (g.reverse ++ s)).Perm (L.flatten ++ (g ++ s)) := ((List.reverse_perm g).append_right s).append_left _
   refine e1.trans ?_
   rw [← List.append_assoc]
   exact (List.perm_append_comm).append_right s
  obtain ⟨s',h1,h2⟩ := formZ_go L (g.reverse ++ s) (fun x hx=>h x (by simp only [List.flatten_cons]; exact List.mem_append_right _ hx)) (hp.nodup_iff.2 hn)
  exact ⟨s',h1,by rw [h2]; simp; omega⟩
theorem form_putZ {h n:Nat} (h0:0 < h) (h1:h ≤ 16):formS n (putZ h (fun r=>(r:Int)) n) = 0 := by
 have hl := putZ_len h (fun r=>(r:Int)) n
 have hp:(putZ h (fun r=>(r:Int)) n).flatten.Perm (ids n) := putZ_flat h0 _ n
 unfold formS
 rw [if_neg (by omega),if_neg (by omega)]
 obtain ⟨s',e1,e2⟩ := formZ_go (n := n) (putZ h (fun r=>(r:Int)) n) [] (fun x hx=>mem_ids.1 (hp.mem_iff.1 hx)) (by rw [List.append_nil]; exact hp.nodup_iff.2 (ids_nodup n))
 rw [e1,if_neg (by rw [e2,hp.length_eq,ids_length]; simp)]
theorem gset {l:List Int} {i j:Nat} {x:Int} (hi:i < l.length):(l.set i x).getD j 0 = if j = i then x else l.getD j 0 := by
 simp only [List.getD_eq_getElem?_getD,List.getElem?_set]
 by_cases e:j = i
 ·subst e; simp [hi]
 ·have e':¬ i = j := fun q=>e q.symm
  simp [e,e']
theorem law10 (a:Int × Int) (hok:AEls.ok [.val (.int .i64),.val (.int .i64)] a):∃ F,c10 F a = some true := by
 obtain ⟨n,h⟩ := a
 refine ⟨400,?_⟩
 unfold c10
 delta nilT
 by_cases hout:n < 0 ∨ 160 < n ∨ h < 1 ∨ 16 < h
 ·have:(bif decide (n < 0) then some true else bif decide (160 < n) then some true else bif decide (h < 1) then some true else some (decide (16 < h))) = some true := by
   by_cases h1:n < 0
   ·simp [h1]
   ·by_cases h2:160 < n
    ·simp [h1,h2]
    ·by_cases h3:h < 1
     ·simp [h1,h2,h3]
     ·have h4:16 < h := by omega
      simp [h1,h2,h3,h4]
  simp only [this,Option.bind_some,cond_true]
 ·have:(bif decide (n < 0) then some true else bif decide (160 < n) then some true else bif decide (h < 1) then some true else some (decide (16 < h))) = some false := by
   have h1:¬ n < 0 := by omega
   have h2:¬ 160 < n := by omega
   have h3:¬ h < 1 := by omega
   have h4:¬ 16 < h := by omega
   simp [h1,h2,h3,h4]
  simp only [this,Option.bind_some,cond_false]
  have hz:zigE n h = 0 := if_neg hout
  obtain ⟨n,rfl⟩ := Int.eq_ofNat_of_zero_le (show 0 ≤ n by omega)
  obtain ⟨h,rfl⟩ := Int.eq_ofNat_of_zero_le (show 0 ≤ h by omega)
  have hn:n ≤ 160 := by omega
  have h0:0 < h := by omega
  have h1:h ≤ 16 := by omega
  have hl := putZ_len h (fun r=>(r:Int)) n
  have h37 := l37 (F := 400) (by omega) (n := n) (by omega) (h := putZ h (fun r=>(r:Int)) n) (fun g hg=>by
   obtain ⟨i,hi,e⟩ := List.mem_iff_getElem.1 hg
   have := putZ_row (h := h) (f := fun r=>(r:Int)) n i
   rw [getD_some (List.getElem?_eq_getElem hi),e] at this
   omega)
  rw [form_putZ h0 h1] at h37
  have hrow:∀ i,i < h → (putZ h (fun r=>(r:Int)) n).getD i [] = rowZ h n i := fun i hi=>putZ_rowE hi n
  simp only [l29 (F := 400) (by omega),hz,ne_eq,not_true_eq_false,if_false,Option.bind_some,Int.toNat_natCast,decide_true,Bool.not_true,cond_false,hl,h37]
  simp (disch := omega) only [gd_dec,List.length_replicate]
  generalize putZ h (fun r=>(r:Int)) n = Z at hl hrow
  refine ex_eq (bind_inv (fun v=>∃ (i:Nat) (S:List Int),v = (S,(i:Int)) ∧ i ≤ h ∧ S.length = h ∧ (∀ j,j < i → S.getD j 0 = ((psum h j (cntN h n j):Nat):Int)) ∧ ∀ j,i ≤ j → j < h → S.getD j 0 = 0) (fun v=>h - v.2.toNat) (fun b=>∃ S,b = .inr S) ?_ ⟨0,_,rfl,Nat.zero_le _,by simp,fun j hj=>by omega,fun j _ hj=>by rw [List.getD_eq_getElem?_getD,List.getElem?_replicate,if_pos hj]; rfl⟩ (by simp; omega) ?_)
  ·rintro v ⟨i,S,rfl,hi,hSl,hS1,hS2⟩
   by_cases hih:i < h
   ·left
    have hri := hrow i hih
    have hrl := rowZ_len h n i
    have hcl:cntN h n i ≤ n := by
     have := putZ_row (h := h) (f := fun r=>(r:Int)) n i
     rw [putZ_rowE hih,rowZ_len] at this; exact this
    simp (disch := omega) only [cd_pos,gd_dec,Int.toNat_natCast,hri,hrl,Nat.zero_add,hl]
    refine bind_left (fun v=>∃ (k:Nat) (S:List Int),v = (S,(k:Int)) ∧ k ≤ cntN h n i ∧ S.length = h ∧ (∀ j,j < i → S.getD j 0 = ((psum h j (cntN h n j):Nat):Int)) ∧ S.getD i 0 = ((psum h i k:Nat):Int) ∧ ∀ j,i < j → j < h → S.getD j 0 = 0) (fun v=>cntN h n i - v.2.toNat)
     (fun b=>∃ S:List Int,b = .inr S ∧ S.length = h ∧ (∀ j,j < i → S.getD j 0 = ((psum h j (cntN h n j):Nat):Int)) ∧ S.getD i 0 = ((psum h i (cntN h n i):Nat):Int) ∧ ∀ j,i < j → j < h → S.getD j 0 = 0) ?_ ⟨0,S,rfl,Nat.zero_le _,hSl,hS1,by rw [hS2 i (Nat.le_refl _) hih]; rfl,fun j hj=>hS2 j (by omega)⟩ (show cntN h n i - ((0:Int)).toNat < 400 by simp; omega) ?_
    ·rintro v ⟨k,S,rfl,hk,hSl,hS1,hSi,hS2⟩
     by_cases hkc:k < cntN h n i
     ·left
      have hx := rowZ_get (h := h) (n := n) (i := i) hkc
      have hxn := cnt_lt hih hkc
      have hdv:Int.tdiv ((eN h k i:Nat):Int) (h:Int) = ((eN h k i / h:Nat):Int) := rfl
      have hps := psum_le (n := n) hih k (by omega)
      have hpb:k * n ≤ 160 * 160 := Nat.mul_le_mul (by omega) hn
      have hcc:∀ {X:Type} (a b:X),(bif !decide ((k:Int) = (k:Int)) then a else b) = b := fun a b=>by simp
      simp (disch := omega) only [cd_pos,gd_dec,Int.toNat_natCast,getD_some hx,hdv,eN_div hih,w64_in,hcc,hSl,hSi]
      refine ⟨_,rfl,⟨k + 1,S.set i (((psum h i k:Nat):Int) + ((eN h k i:Nat):Int)),rfl,by omega,by rw [List.length_set]; exact hSl,fun j hj=>?_,?_,fun j hj hjh=>?_⟩,?_⟩
      ·rw [gset (by omega),if_neg (by omega)]; exact hS1 j hj
      ·rw [gset (by omega),if_pos rfl]; simp [psum]
      ·rw [gset (by omega),if_neg (by omega)]; exact hS2 j hj hjh
      ·show cntN h n i - ((k:Int) + 1).toNat < cntN h n i - ((k:Int)).toNat
       omega
     ·right
      have:k = cntN h n i := by omega
      subst this
      simp (disch := omega) only [cd_neg]
      exact ⟨_,rfl,S,rfl,hSl,hS1,hSi,hS2⟩
    ·rintro b ⟨S,rfl,hSl,hS1,hSi,hS2⟩
     simp only [Sum.elim_inr]
     refine bind_left (fun v:Int=>∃ j:Nat,v = (j:Int) ∧ j ≤ i) (fun v=>i - v.toNat) (fun b=>b = .inr ()) ?_ ⟨0,rfl,Nat.zero_le _⟩ (show i - ((0:Int)).toNat < 400 by simp; omega) ?_
     ·rintro v ⟨j,rfl,hj⟩
      by_cases hji:j < i
      ·left
       have hrj := hrow j (by omega)
       have hrjl := rowZ_len h n j
       simp (disch := omega) only [cd_pos,gd_dec,Int.toNat_natCast,hrj,hrjl,hSl,Nat.zero_add,hSi,hS1 j hji]
       refine ⟨w64 ((j:Int) + 1),?_,⟨j + 1,by rw [w64_in (by omega) (by omega)]; rfl,by omega⟩,by rw [w64_in (by omega) (by omega)]; omega⟩
       by_cases e1:cntN h n i = cntN h n j
       ·by_cases e2:cntN h n i % 2 = 0
        ·have hp:psum h i (cntN h n i) = psum h j (cntN h n j) := by
          rw [← e1,show cntN h n i = 2 * (cntN h n i / 2) by omega]
          exact psum_even hih (by omega) _
         have e3:Int.tmod ((cntN h n i:Nat):Int) 2 = ((cntN h n i % 2:Nat):Int) := rfl
         rw [cd_pos (by omega),e3,cd_pos (by omega),hp]
         simp
        ·have e3:Int.tmod ((cntN h n i:Nat):Int) 2 = ((cntN h n i % 2:Nat):Int) := rfl
         rw [cd_pos (by omega),e3,cd_neg (by omega)]
         rfl
       ·rw [cd_neg (by omega)]
        rfl
      ·right
       simp (disch := omega) only [cd_neg]
       exact ⟨_,rfl,rfl⟩
     ·rintro b rfl
      simp only [Sum.elim_inr]
      refine ⟨_,rfl,⟨i + 1,S,by rw [w64_in (by omega) (by omega)]; rfl,by omega,hSl,fun j hj=>?_,fun j hj hjh=>hS2 j (by omega) hjh⟩,?_⟩
      ·by_cases e:j = i
       ·rw [e]; exact hSi
       ·exact hS1 j (by omega)
      ·show h - (w64 ((i:Int) + 1)).toNat < h - ((i:Int)).toNat
       rw [w64_in (by omega) (by omega)]; omega
   ·right
    simp (disch := omega) only [cd_neg,hl]
    exact ⟨_,rfl,S,rfl⟩
  ·rintro b ⟨S,rfl⟩
   exact ⟨_,rfl,rfl⟩
end Go.Proofs.Tryz
