/- Plain law of SeedCharts: lists that are the same, copies; the whole. Functions of the program as functions of data. By program. And further parts. -/
import Derived.Test.YtdghdcclhnoigaaGreatDoorXE04
import Derived.Test.YtdghdcclhnoigaaGreatDoorXP8c
import Derived.Test.YtdghdcclhnoigaaGreatDoorXTryzA
set_option maxRecDepth 100000
set_option linter.unusedVariables false
set_option linter.all false
set_option linter.unusedSimpArgs false
section
namespace Go.Proofs.Tryz
open Go Go.Sx
end Go.Proofs.Tryz
end
section
namespace Go.Proofs.Tryz
open Go Go.Sx
end Go.Proofs.Tryz
end
namespace Go.Proofs.Tryz
open Go Go.Sx
def SeenL (s:List Int) (m:List Bool):Prop := m.length = 11 ∧ ∀ k:Nat,k < 11 → m.getD k false = decide ((k:Int) ∈ s)
theorem SeenL.put {s:List Int} {m:List Bool} (h:SeenL s m) {x:Int} (h0:0 ≤ x) (h1:x < 11):SeenL (x :: s) (m.set x.toNat true) := by
 refine ⟨by simp [h.1],fun k hk=>?_⟩
 have := h.2 k hk
 have hm := h.1
 by_cases e:x.toNat = k
 ·subst e
  have:((x.toNat:Nat):Int) = x := by omega
  simp [List.getD,List.getElem?_set,hm,hk,this]
 ·have hne:(k:Int) ≠ x := by omega
  simp only [List.getD] at this ⊢
  rw [List.getElem?_set_ne (by omega),this]
  simp [hne]
def SeenM (s:List Int) (m:List (Int × Bool)):Prop := ∀ k:Int,mgetD intEq k m false = decide (k ∈ s)
theorem SeenM.put {s:List Int} {m:List (Int × Bool)} (h:SeenM s m) {x:Int}:SeenM (x :: s) (mput intEq x true m) := by
 intro k
 rw [mgetD_mput intEq_iff,h k]
 by_cases e:k = x <;> simp [intEq,e]
theorem l22 (F:Nat) (key n:Int):c22 F (key,n) = some (if key < 1 ∨ 2147483646 < key ∨ n < 0 ∨ 256 < n then 3 else 0) := by
 unfold c22
 by_cases h:key < 1 <;> by_cases k:2147483646 < key <;> by_cases a:n < 0 <;> by_cases b:256 < n <;> simp [h,k,a,b]
abbrev Ent := TEnt
theorem l15 {F:Nat} {l:List Ent} (hF:l.length < F) (hb:l.length * 72 ≤ 140737488351232):c15 F l = some l := by
 unfold c15
 refine bind_list l (fun (_:Unit) i=>(l.take i,(i:Int))) (fun _ _=>.inl ()) (fun _=>l) (fun _ _=>True) () hF rfl trivial ?_ ?_ ?_
 ·intro i r _ hi hr _
  refine ⟨?_,fun _ _=>trivial⟩
  have hl := len_take (l := l) (i := i) (by omega)
  have hl' := len_take (l := l) (i := i + 1) (by omega)
  have er:(r.1,r.2.1,r.2.2.1,r.2.2.2.1,r.2.2.2.2) = r := rfl
  simp (disch := omega) only [cd_pos,gd_dec,Int.toNat_natCast,getD_some hr,w64_in,er,take_snoc hr,hl']
  simp [gd_true]
 ·intro _ _
  simp (disch := omega) only [cd_neg,List.take_length]
  simp [gd_true]
 ·rw [goL_unit,take_all]
  simp [gd_true]
def EntS (x:Ent):Prop := x.1.size ≤ 40 ∧ x.2.1.size ≤ 40 ∧ x.2.2.1.size ≤ 20 ∧ x.2.2.2.2.size ≤ 20
def ShortE (n:Nat) (l:List Ent):Prop := (l.length ≤ n ∨ 160 < l.length) ∧ l.length ≤ 164 ∧ ∀ x ∈ l,EntS x
theorem l17 {F:Nat} (hF:400 ≤ F) {l:List Ent} {n:Nat} (hn:n ≤ 160):∃ b,c17 F (l,(n:Int)) = some b ∧ (b = true → ShortE n l) := by
 unfold c17
 by_cases h:(l.length ≤ n ∨ 160 < l.length) ∧ l.length ≤ 164
 ·have e:(bif decide ((n:Int) < (l.length:Int)) then bif decide ((l.length:Int) ≤ 160) then some true else some (decide (164 < (l.length:Int))) else some (decide (164 < (l.length:Int)))) = some false := by
   have h3:decide ((164:Int) < (l.length:Int)) = false := decide_eq_false (by omega)
   by_cases h1:(n:Int) < (l.length:Int)
   ·rw [cd_pos h1,cd_neg (by omega),h3]
   ·rw [cd_neg h1,h3]
  simp only [e,Option.bind_some,cond_false]
  refine bind_all l EntS (fun b:Bool ⊕ Unit=>b = .inl false ∨ (b = .inr () ∧ ∀ x ∈ l,EntS x)) (by omega) ?_ ?_ ?_
  ·intro k r hk hr
   simp (disch := omega) only [cd_pos,gd_dec,Int.toNat_natCast,getD_some hr,w64_in]
   by_cases a1:(40:Int) < r.1.size
   ·exact ⟨_,by simp [a1],.inr ⟨_,rfl,.inl rfl⟩⟩
   ·by_cases a2:(40:Int) < r.2.1.size
    ·exact ⟨_,by simp [a1,a2],.inr ⟨_,rfl,.inl rfl⟩⟩
    ·by_cases a3:(20:Int) < r.2.2.1.size
     ·exact ⟨_,by simp [a1,a2,a3],.inr ⟨_,rfl,.inl rfl⟩⟩
     ·by_cases a4:(20:Int) < r.2.2.2.2.size
      ·exact ⟨_,by simp [a1,a2,a3,a4],.inr ⟨_,rfl,.inl rfl⟩⟩
      ·exact ⟨_,by simp [a1,a2,a3,a4],.inl ⟨rfl,by omega,by omega,by omega,by omega⟩⟩
  ·intro hgood
   simp (disch := omega) only [cd_neg]
   exact ⟨_,rfl,.inr ⟨rfl,hgood⟩⟩
  ·intro b hb
   rcases hb with rfl | ⟨rfl,hg⟩
   ·exact ⟨false,rfl,fun h=>by cases h⟩
   ·exact ⟨true,rfl,fun _=>⟨h.1,h.2,hg⟩⟩
 ·have e:(bif decide ((n:Int) < (l.length:Int)) then bif decide ((l.length:Int) ≤ 160) then some true else some (decide (164 < (l.length:Int))) else some (decide (164 < (l.length:Int)))) = some true := by
   by_cases h1:(n:Int) < (l.length:Int)
   ·rw [cd_pos h1]
    by_cases h2:(l.length:Int) ≤ 160
    ·rw [cd_pos h2]
    ·rw [cd_neg h2,decide_eq_true (by omega)]
   ·rw [cd_neg h1,decide_eq_true (by omega)]
  simp only [e,Option.bind_some,cond_true]
  exact ⟨false,rfl,fun h=>by cases h⟩
def entI (x:Ent) (s:List ByteArray):List ByteArray ⊕ Int :=
 if nameB x.1 = false then .inr 8 else if seenB x.1 s = true then .inr 9 else if nameB x.2.1 = false then .inr 8 else if markE x.2.2.1 x.2.2.2.1 x.2.2.2.2 ≠ 0 then .inr (markE x.2.2.1 x.2.2.2.1 x.2.2.2.2) else .inl (s ++ [x.1])
def kindF (s:ByteArray × Bool) (x:Ent):ByteArray × Bool :=
 if strEq x.2.2.1 kN = true then s else (x.2.2.1,s.2 || (!strEq s.1 kN && !strEq s.1 x.2.2.1))
def mixS (l:List Ent):Bool := (l.foldl kindF (kN,false)).2
def entC (l:List Ent):Int := if 160 < l.length then 5 else goL entI (fun _=>if mixS l = true then 13 else 0) l []
theorem bind_listE {α S σ β γ:Type} {step:σ → Option (σ ⊕ β)} {F:Nat} {t:σ} {k:β → Option γ} {P:γ → Prop} (l:List α) (enc:S → Nat → σ) (body:α → S → S ⊕ β) (fin:S → β) (I:Nat → S → Prop) (s:S)
  (hF:l.length < F) (ht:t = enc s 0) (hI:I 0 s)
  (hstep:∀ i x s,i < l.length → l[i]? = some x → I i s → step (enc s i) = some (match body x s with | .inl s'=>.inl (enc s' (i + 1)) | .inr b=>.inr b) ∧ ∀ s',body x s = .inl s' → I (i + 1) s')
  (hend:∀ s,I l.length s → step (enc s l.length) = some (.inr (fin s)))
  (hk:∃ r,k (goL body fin l s) = some r ∧ P r):∃ r,Option.bind (loopO step F t) k = some r ∧ P r := by
 rw [loopO_list l enc body fin I hstep hend ht hI hF]
 exact hk
theorem take_get {α:Type} {l:List α} {i k:Nat} {y:α} (h:(l.take i)[k]? = some y):k < i ∧ l[k]? = some y := by
 rw [List.getElem?_take] at h
 by_cases hk:k < i
 ·rw [if_pos hk] at h; exact ⟨hk,h⟩
 ·rw [if_neg hk] at h; cases h
theorem take_map_snoc {α γ:Type} {f:α → γ} {l:List α} {i:Nat} {x:α} (h:l[i]? = some x):(l.take (i + 1)).map f = (l.take i).map f ++ [f x] := by
 rw [List.take_add_one,h]
 simp
theorem kN_lit:({ data := List.toArray ((110:UInt8) :: (111:UInt8) :: (110:UInt8) :: (101:UInt8) :: nilT UInt8) }:ByteArray) = kN := rfl
theorem k0_lit':({ data := List.toArray (nilT UInt8) }:ByteArray) = k0 := rfl
theorem seenB_map {x:Ent}:∀ (l:List Ent),seenB x.1 (l.map (·.1)) = l.any fun y=>strEq y.1 x.1
 | l=>by unfold seenB; rw [List.any_map]; rfl
theorem mixS_go:∀ (l:List Ent) (s:ByteArray × Bool),s.2 = true → (l.foldl kindF s).2 = true
 | [],s,h=>h
 | x :: l,s,h=>by
  rw [List.foldl_cons]
  refine mixS_go l _ ?_
  unfold kindF
  split
  ·exact h
  ·simp [h]
def kindOk (x:Ent):Prop := strEq x.2.2.1 kN = true ∨ strEq x.2.2.1 kT = true ∨ strEq x.2.2.1 kL = true ∨ strEq x.2.2.1 kP = true
theorem markE_kind {x:Ent} (h:markE x.2.2.1 x.2.2.2.1 x.2.2.2.2 = 0):kindOk x := by
 unfold markE at h
 unfold kindOk
 by_cases h1:strEq x.2.2.1 kN = true
 ·exact .inl h1
 ·by_cases h2:strEq x.2.2.1 kT = true
  ·exact .inr (.inl h2)
  ·by_cases h3:strEq x.2.2.1 kL = true
   ·exact .inr (.inr (.inl h3))
   ·by_cases h4:strEq x.2.2.1 kP = true
    ·exact .inr (.inr (.inr h4))
    ·rw [if_neg h1,if_neg h2,if_neg h3,if_neg h4] at h
     cases h
theorem kindOk_k0 {x:Ent} (h:kindOk x):strEq x.2.2.1 k0 = false := by
 rcases h with h | h | h | h <;> (rw [strEq_true] at h; rw [h]; rfl)
theorem l18 {F:Nat} (hF:400 ≤ F) {l:List Ent} (hl:l.length ≤ 300):c18 F l = some (entC l) := by
 unfold c18 entC
 by_cases h1:160 < l.length
 ·rw [cd_pos (by omega),if_pos h1]
 ·rw [if_neg h1,cd_neg (by omega)]
  refine ex_eq (bind_sim l entI (fun _=>if mixS l = true then 13 else 0) (fun i s t=>t = (i:Int) ∧ s = (l.take i).map (·.1) ∧ ∀ x ∈ l.take i,kindOk x) (fun (a:Int) (b:Int ⊕ Unit)=>match b with
   | .inl e=>a = e
   | .inr _=>a = (if mixS l = true then 13 else 0) ∧ ∀ x ∈ l,kindOk x) [] (by omega) ⟨rfl,rfl,fun x h=>by simp at h⟩ ?_ ?_ ?_)
  ·intro i x s t hi hx ⟨ht,hs,hkk⟩
   subst ht
   simp (disch := omega) only [cd_pos,gd_dec,Int.toNat_natCast,getD_some hx,l72 hF,Option.bind_some]
   cases hn:nameB x.1 with
   | false=>exact ⟨_,rfl,by rw [show entI x s = .inr 8 by simp [entI,hn]]; rfl⟩
   | true =>
    simp only [Bool.not_true,cond_false]
    refine bind_listE (l.take i) (fun (_:Unit) k=>(k:Int)) (fun y _=>if strEq y.1 x.1 = true then .inr (.inl 9) else .inl ()) (fun _=>.inr ()) (fun _ _=>True) () (by rw [len_take (by omega)]; omega) rfl trivial ?_ ?_ ?_
    ·intro k y _ hk hy _
     refine ⟨?_,fun _ _=>trivial⟩
     obtain ⟨hki,hyl⟩ := take_get hy
     simp (disch := omega) only [cd_pos,gd_dec,Int.toNat_natCast,getD_some hyl,w64_in]
     cases strEq y.1 x.1 <;> rfl
    ·intro _ _
     rw [len_take (by omega)]
     simp (disch := omega) only [cd_neg]
    ·rw [goL_any (fun y:Ent=>strEq y.1 x.1),← seenB_map,← hs]
     cases hse:seenB x.1 s with
     | true=>exact ⟨_,rfl,by rw [show entI x s = .inr 9 by simp [entI,hn,hse]]; rfl⟩
     | false =>
      simp only [Bool.false_eq_true,if_false,Sum.elim_inr]
      cases hc:nameB x.2.1 with
      | false=>exact ⟨_,rfl,by rw [show entI x s = .inr 8 by simp [entI,hn,hse,hc]]; rfl⟩
      | true =>
       simp only [Bool.not_true,cond_false,l73,Option.bind_some]
       by_cases hm:markE x.2.2.1 x.2.2.2.1 x.2.2.2.2 = 0
       ·simp (disch := omega) only [hm,decide_true,Bool.not_true,cond_false,w64_in]
        refine ⟨_,rfl,?_⟩
        rw [show entI x s = .inl (s ++ [x.1]) by simp [entI,hn,hse,hc,hm]]
        refine ⟨by omega,by rw [take_map_snoc hx,hs],fun y hy=>?_⟩
        rw [List.take_add_one,hx] at hy
        rcases List.mem_append.1 hy with hy | hy
        ·exact hkk y hy
        ·rw [show y = x by simpa using hy]; exact markE_kind hm
       ·simp only [hm,decide_false,Bool.not_false,cond_true]
        refine ⟨_,rfl,?_⟩
        rw [show entI x s = .inr (markE x.2.2.1 x.2.2.2.1 x.2.2.2.2) by simp [entI,hn,hse,hc,hm]]
        rfl
  ·intro s t ⟨ht,hs,hkk⟩
   subst ht
   simp (disch := omega) only [cd_neg]
   rw [List.take_length] at hkk
   exact ⟨.inr (),rfl,⟨trivial,hkk⟩⟩
  ·intro b hb
   cases b with
   | inl e=>exact ⟨e,rfl,hb.symm⟩
   | inr _ =>
    obtain ⟨hb,hkk⟩ := hb
    rw [hb]
    simp only [Sum.elim_inr]
    refine bind_sim l (fun x (s:ByteArray × Bool)=>(if (kindF s x).2 = true then .inr 13 else .inl (kindF s x):(ByteArray × Bool) ⊕ Int)) (fun _=>(0:Int)) (fun i s t=>t.2 = (i:Int) ∧ s = (l.take i).foldl kindF (kN,false) ∧ s.2 = false ∧ (t.1 = s.1 ∧ strEq s.1 kN = false ∧ strEq s.1 k0 = false ∨ t.1 = k0 ∧ strEq s.1 kN = true)) (fun (a:Int) (b:Int ⊕ Unit)=>match b with
     | .inl e=>a = e ∧ e = 13
     | .inr _=>a = 0) (kN,false) (by omega) ⟨rfl,rfl,rfl,.inr ⟨rfl,rfl⟩⟩ ?_ ?_ ?_
    ·intro i x s t hi hx ⟨ht,hs,h0,hk⟩
     obtain ⟨tk,ti⟩ := t
     simp only at ht hk
     subst ht
     have hkx := hkk x (List.mem_of_getElem? hx)
     have hx0 := kindOk_k0 hkx
     have hs':kindF s x = (l.take (i + 1)).foldl kindF (kN,false) := by rw [List.take_add_one,hx,List.foldl_append,← hs]; rfl
     rw [← hs']
     simp (disch := omega) only [cd_pos,gd_dec,Int.toNat_natCast,getD_some hx,w64_in,kN_lit,k0_lit']
     cases hxn:strEq x.2.2.1 kN with
     | true =>
      have e:kindF s x = s := by unfold kindF; rw [if_pos hxn]
      rw [e,if_neg (by rw [h0]; simp)]
      exact ⟨_,rfl,by simp,rfl,h0,hk⟩
     | false =>
      have e:kindF s x = (x.2.2.1,(!strEq s.1 kN && !strEq s.1 x.2.2.1)) := by unfold kindF; rw [if_neg (by rw [hxn]; simp),h0]; simp
      rw [e]
      rcases hk with ⟨k1,k2,k3⟩ | ⟨k1,k2⟩
      ·subst k1
       simp only [k2,k3,Bool.not_false,cond_true,Option.bind_some,Bool.true_and,cond_false]
       cases hcmp:strEq s.1 x.2.2.1 with
       | true =>
        have hcmp':strEq x.2.2.1 s.1 = true := by rw [strEq_true] at hcmp ⊢; exact hcmp.symm
        simp only [hcmp']
        exact ⟨_,rfl,by simp,rfl,rfl,.inl ⟨rfl,hxn,hx0⟩⟩
       | false =>
        have hcmp':strEq x.2.2.1 s.1 = false := by
         cases q:strEq x.2.2.1 s.1 with
         | false=>rfl
         | true=>rw [strEq_true] at q; rw [q,strEq_self] at hcmp; cases hcmp
        simp only [hcmp']
        exact ⟨_,rfl,rfl,rfl⟩
      ·subst k1
       simp only [k2,strEq_self,Bool.not_true,cond_false,Option.bind_some,Bool.false_and]
       exact ⟨_,rfl,by simp,rfl,rfl,.inl ⟨rfl,hxn,hx0⟩⟩
    ·intro s t ⟨ht,hs,h0,hk⟩
     simp (disch := omega) only [cd_neg]
     exact ⟨.inr (),rfl,trivial⟩
    ·intro b hb
     have hmix:∀ (m:List Ent) (s:ByteArray × Bool),s.2 = false → goL (fun x (s:ByteArray × Bool)=>(if (kindF s x).2 = true then .inr 13 else .inl (kindF s x):(ByteArray × Bool) ⊕ Int)) (fun _=>(0:Int)) m s = if (m.foldl kindF s).2 = true then 13 else 0 := by
      intro m
      induction m with
      | nil=>intro s h; rw [goL_nil]; simp [h]
      | cons x m ih =>
       intro s h
       rw [goL_cons,List.foldl_cons]
       by_cases q:(kindF s x).2 = true
       ·rw [if_pos q,mixS_go m _ q]; rfl
       ·rw [if_neg q]; exact ih _ (by simpa using q)
     rw [hmix l _ rfl] at hb
     cases b with
     | inl e=>exact ⟨e,rfl,by rw [← hb.1]; rfl⟩
     | inr _=>exact ⟨0,rfl,hb.symm⟩
theorem kindF_eq (s:ByteArray × Bool) (x:Ent):(Option.bind (bif !strEq x.2.2.1 kN then (Option.bind (bif s.2 then some true else bif !strEq s.1 kN then some (!strEq s.1 x.2.2.1) else some false) fun v47=>some (x.2.2.1,v47)) else some (s.1,s.2)) fun v46=>some v46) = some (kindF s x) := by
 obtain ⟨a,b⟩ := s
 unfold kindF
 simp only
 cases strEq x.2.2.1 kN <;> cases b <;> cases strEq a kN <;> simp
theorem l19 {F:Nat} (hF:400 ≤ F) {l:List Ent} (hl:l.length ≤ 300) (hS:∀ x ∈ l,EntS x):c19 F l = some (entC l) := by
 unfold c19 entC
 by_cases h1:160 < l.length
 ·rw [cd_pos (by omega),if_pos h1]
 ·rw [if_neg h1,cd_neg (by omega)]
  refine ex_eq (bind_sim l entI (fun _=>if mixS l = true then 13 else 0) (fun i s t=>t = (t.1,((l.take i).foldl kindF (kN,false)).1,((l.take i).foldl kindF (kN,false)).2,(i:Int)) ∧ SeenS s t.1) (fun (a:Int) (b:List (ByteArray × Bool) × Int ⊕ List (ByteArray × Bool) × Bool)=>match b with
   | .inl v=>a = v.2
   | .inr v=>a = (if mixS l = true then 13 else 0) ∧ v.2 = mixS l) [] (by omega) ⟨rfl,fun k=>rfl⟩ ?_ ?_ ?_)
  ·intro i x s t hi hx ⟨ht,hs⟩
   obtain ⟨m,t2⟩ := t
   simp only at ht hs
   rw [ht]
   have hxs := hS x (List.mem_of_getElem? hx)
   unfold EntS at hxs
   have hk:(l.take (i + 1)).foldl kindF (kN,false) = kindF ((l.take i).foldl kindF (kN,false)) x := by rw [List.take_add_one,hx,List.foldl_append]; rfl
   rw [hk]
   generalize (l.take i).foldl kindF (kN,false) = ks
   have q:∀ (a b c:Int),c75 F (a :: b :: c :: nilT Int) = some (firstNZ [a,b,c]) := by
    intro a b c
    rw [l75 (by simp [nilT]; omega) (by simp [nilT])]
    rfl
   simp (disch := omega) only [cd_pos,gd_dec,Int.toNat_natCast,getD_some hx,x74 hF (show x.1.size ≤ 300 by omega),l77 hF (show x.2.1.size ≤ 300 by omega),l76,l78 hF,q,kN_lit,Option.bind_some]
   have hseen:mgetD strEq x.1 m false = seenB x.1 s := hs x.1
   rw [hseen]
   cases hn:nameB x.1 with
   | false =>
    refine ⟨.inr (.inl (m,8)),?_,by rw [show entI x s = .inr 8 by simp [entI,hn]]; rfl⟩
    simp [firstNZ]
   | true =>
    cases hse:seenB x.1 s with
    | true =>
     refine ⟨.inr (.inl (m,9)),?_,by rw [show entI x s = .inr 9 by simp [entI,hn,hse]]; rfl⟩
     simp [firstNZ]
    | false =>
     cases hc:nameB x.2.1 with
     | false =>
      refine ⟨.inr (.inl (mput strEq x.1 true m,8)),?_,by rw [show entI x s = .inr 8 by simp [entI,hn,hse,hc]]; rfl⟩
      simp [firstNZ]
     | true =>
      by_cases hm:markE x.2.2.1 x.2.2.2.1 x.2.2.2.2 = 0
      ·refine ⟨.inl (mput strEq x.1 true m,(kindF ks x).1,(kindF ks x).2,(i:Int) + 1),?_,?_⟩
       ·have e := kindF_eq ks x
        have e0:firstNZ [0,0,0] = 0 := rfl
        simp (disch := omega) only [hm,Bool.true_eq_false,Bool.false_eq_true,if_false,Bool.not_true,e0,decide_true,cond_false,w64_in]
        revert e
        cases (bif !strEq x.2.2.1 kN then (Option.bind (bif ks.2 then some true else bif !strEq ks.1 kN then some (!strEq ks.1 x.2.2.1) else some false) fun v47=>some (x.2.2.1,v47)) else some (ks.1,ks.2)) with
        | none=>intro e; cases e
        | some y=>intro e; cases e; rfl
       ·rw [show entI x s = .inl (s ++ [x.1]) by simp [entI,hn,hse,hc,hm]]
        exact ⟨rfl,hs.put x.1⟩
      ·refine ⟨.inr (.inl (mput strEq x.1 true m,markE x.2.2.1 x.2.2.2.1 x.2.2.2.2)),?_,by rw [show entI x s = .inr (markE x.2.2.1 x.2.2.2.1 x.2.2.2.2) by simp [entI,hn,hse,hc,hm]]; rfl⟩
       simp [firstNZ,hm]
  ·intro s t ⟨ht,hs⟩
   rw [ht]
   simp (disch := omega) only [cd_neg,List.take_length]
   exact ⟨.inr (t.1,mixS l),rfl,⟨trivial,rfl⟩⟩
  ·intro b hb
   cases b with
   | inl v=>exact ⟨v.2,rfl,hb.symm⟩
   | inr v =>
    obtain ⟨hb,hv⟩ := hb
    rw [hb]
    simp only [Sum.elim_inr,l76,Option.bind_some,hv]
    exact ⟨_,rfl,rfl⟩
theorem kL_lit:({ data := List.toArray ((108:UInt8) :: (101:UInt8) :: (110:UInt8) :: (103:UInt8) :: (116:UInt8) :: (104:UInt8) :: nilT UInt8) }:ByteArray) = kL := rfl
theorem kP_lit:({ data := List.toArray ((112:UInt8) :: (111:UInt8) :: (105:UInt8) :: (110:UInt8) :: (116:UInt8) :: (115:UInt8) :: nilT UInt8) }:ByteArray) = kP := rfl
theorem kT_lit':({ data := List.toArray ((116:UInt8) :: (105:UInt8) :: (109:UInt8) :: (101:UInt8) :: nilT UInt8) }:ByteArray) = kT := rfl
def wM (k:ByteArray) (v:Int):Int := if strEq k kT = true then -v else if strEq k kL = true then v else if strEq k kP = true then v else -864000000
def cmpI (a b:Int):Int := if b < a then -1 else if a < b then 1 else 0
def MarkOk (x:Ent):Prop := markE x.2.2.1 x.2.2.2.1 x.2.2.2.2 = 0
theorem strEq_ne {a b k:ByteArray} (h:strEq k a = true) (hab:strEq a b = false):strEq k b = false := by
 rw [strEq_true] at h; rw [h]; exact hab
theorem l133 (F:Nat) {k:ByteArray} {v:Int} (r:ByteArray) (hv:-999999999 ≤ v ∧ v ≤ 999999999):c133 F (k,v,r) = some (wM k v) := by
 unfold c133
 have hw:IntKind.wrap IntKind.i64 (0 - v) = -v := by rw [show IntKind.wrap IntKind.i64 (0 - v) = w64 (0 - v) from rfl,w64_in (by omega) (by omega)]; omega
 simp only [hw,kT_lit',kL_lit,kP_lit]
 have g:∀ x:Int,gd (AEls.eqv (ATy.val (Ty.int Go.IntKind.i64) :: nilT ATy) x x) (some x) = some x := by
  intro x
  have:AEls.eqv (ATy.val (Ty.int Go.IntKind.i64) :: nilT ATy) x x = true := by
   change intEq x x = true
   simp [intEq]
  rw [this]; rfl
 unfold wM
 cases strEq k kT <;> cases strEq k kL <;> cases strEq k kP <;> simp [g]
theorem mark_bd {x:Ent} (h:MarkOk x):0 ≤ x.2.2.2.1 ∧ x.2.2.2.1 ≤ 863999999 := by
 unfold MarkOk markE at h
 split at h
 ·split at h
  ·cases h
  ·split at h
   ·cases h
   ·rename_i h3; have:x.2.2.2.1 = 0 := by simpa using h3
    omega
 ·split at h
  ·split at h
   ·cases h
   ·split at h
    ·cases h
    ·omega
  ·split at h
   ·split at h
    ·cases h
    ·split at h
     ·cases h
     ·omega
   ·split at h
    ·split at h
     ·cases h
     ·split at h
      ·cases h
      ·omega
    ·cases h
def wE (x:Ent):Int := wM x.2.2.1 x.2.2.2.1
def SameK (x y:Ent):Prop := strEq x.2.2.1 kN = true ∨ strEq y.2.2.1 kN = true ∨ strEq x.2.2.1 y.2.2.1 = true
theorem l125 (F:Nat) {x y:Ent} (hx:MarkOk x) (hy:MarkOk y):c125 F ((x.2.2.1,x.2.2.2.1,x.2.2.2.2),y.2.2.1,y.2.2.2.1,y.2.2.2.2) = some (cmpI (wE x) (wE y)) := by
 unfold c125 cmpI wE
 obtain ⟨a1,a2⟩ := mark_bd hx
 obtain ⟨b1,b2⟩ := mark_bd hy
 simp only [l133 F _ (show -999999999 ≤ x.2.2.2.1 ∧ x.2.2.2.1 ≤ 999999999 by omega),l133 F _ (show -999999999 ≤ y.2.2.2.1 ∧ y.2.2.2.1 ≤ 999999999 by omega),Option.bind_some]
 by_cases h1:wM y.2.2.1 y.2.2.2.1 < wM x.2.2.1 x.2.2.2.1
 ·rw [cd_pos h1,if_pos h1]
 ·rw [cd_neg h1,if_neg h1]
  by_cases h2:wM x.2.2.1 x.2.2.2.1 < wM y.2.2.1 y.2.2.2.1
  ·rw [cd_pos h2,if_pos h2]
  ·rw [cd_neg h2,if_neg h2]
theorem l124 (F:Nat) {x y:Ent} (h:SameK x y):c124 F ((x.2.2.1,x.2.2.2.1,x.2.2.2.2),y.2.2.1,y.2.2.2.1,y.2.2.2.2) = some false := by
 unfold c124
 simp only [kN_lit]
 unfold SameK at h
 cases h1:strEq x.2.2.1 y.2.2.1 <;> cases h2:strEq x.2.2.1 kN <;> cases h3:strEq y.2.2.1 kN <;> simp_all
theorem l108 {F:Nat} (hF:400 ≤ F) {x y:Ent} (hx:MarkOk x) (hy:MarkOk y) (h:SameK x y):c108 F ((x.2.2.1,x.2.2.2.1,x.2.2.2.2),y.2.2.1,y.2.2.2.1,y.2.2.2.2) = some (cmpI (wE x) (wE y),0) := by
 unfold c108
 have q:∀ (a b c:Int),c101 F (a :: b :: c :: nilT Int) = some (firstNZ [a,b,c]) := by
  intro a b c
  rw [l101 (by simp [nilT]; omega) (by simp [nilT])]
  rfl
 unfold MarkOk at hx hy
 simp only [l78 hF,l124 F h,l102,q,hx,hy,Option.bind_some,l125 F hx hy]
 rfl
theorem kinds {x:Ent} (h:MarkOk x):(strEq x.2.2.1 kN = true ∧ wE x = -864000000) ∨ (strEq x.2.2.1 kN = false ∧ strEq x.2.2.1 kT = true ∧ wE x = -x.2.2.2.1) ∨ (strEq x.2.2.1 kN = false ∧ strEq x.2.2.1 kT = false ∧ wE x = x.2.2.2.1) := by
 have hk := markE_kind h
 unfold kindOk at hk
 unfold wE wM
 cases hN:strEq x.2.2.1 kN with
 | true =>
  left
  refine ⟨rfl,?_⟩
  rw [if_neg (by rw [strEq_ne hN rfl]; simp),if_neg (by rw [strEq_ne hN rfl]; simp),if_neg (by rw [strEq_ne hN rfl]; simp)]
 | false =>
  right
  cases hT:strEq x.2.2.1 kT with
  | true=>left; exact ⟨rfl,rfl,by rw [if_pos rfl]⟩
  | false =>
   right
   refine ⟨rfl,rfl,?_⟩
   rw [if_neg (by simp)]
   rcases hk with hk | hk | hk | hk
   ·rw [hk] at hN; cases hN
   ·rw [hk] at hT; cases hT
   ·rw [if_pos hk]
   ·by_cases hL:strEq x.2.2.1 kL = true
    ·rw [if_pos hL]
    ·rw [if_neg hL,if_pos hk]
theorem l60 (F:Nat) {x y:Ent} (hx:MarkOk x) (hy:MarkOk y) (h:SameK x y):c60 F ((x.2.2.1,x.2.2.2.1,x.2.2.2.2),y.2.2.1,y.2.2.2.1,y.2.2.2.2) = some (cmpI (wE x) (wE y)) := by
 unfold c60
 obtain ⟨a1,a2⟩ := mark_bd hx
 obtain ⟨b1,b2⟩ := mark_bd hy
 simp only [kN_lit,kT_lit']
 rcases kinds hx with ⟨p1,p2⟩ | ⟨p1,p3,p2⟩ | ⟨p1,p3,p2⟩
 ·rcases kinds hy with ⟨q1,q2⟩ | ⟨q1,q3,q2⟩ | ⟨q1,q3,q2⟩
  ·have:strEq x.2.2.1 y.2.2.1 = true := by rw [strEq_true] at p1 q1 ⊢; rw [p1,q1]
   simp [p1,this,cmpI,p2,q2]
  ·have:strEq x.2.2.1 y.2.2.1 = false := by
    cases e:strEq x.2.2.1 y.2.2.1 with
    | false=>rfl
    | true=>rw [strEq_true] at e; rw [← e,p1] at q1; cases q1
   have h1:¬ wE y < wE x := by omega
   have h2:wE x < wE y := by omega
   simp [p1,this,q1,cmpI,h1,h2]
  ·have:strEq x.2.2.1 y.2.2.1 = false := by
    cases e:strEq x.2.2.1 y.2.2.1 with
    | false=>rfl
    | true=>rw [strEq_true] at e; rw [← e,p1] at q1; cases q1
   have h1:¬ wE y < wE x := by omega
   have h2:wE x < wE y := by omega
   simp [p1,this,q1,cmpI,h1,h2]
 ·rcases kinds hy with ⟨q1,q2⟩ | ⟨q1,q3,q2⟩ | ⟨q1,q3,q2⟩
  ·have:strEq x.2.2.1 y.2.2.1 = false := by
    cases e:strEq x.2.2.1 y.2.2.1 with
    | false=>rfl
    | true=>rw [strEq_true] at e; rw [← e,p1] at q1; cases q1
   have h1:wE y < wE x := by omega
   simp [p1,this,q1,cmpI,h1]
  ·simp only [p1,q1,p3,cond_false,cond_true,Option.bind_some]
   unfold cmpI
   by_cases h1:wE y < wE x
   ·rw [if_pos h1,cd_pos (by omega)]
   ·rw [if_neg h1,cd_neg (by omega)]
    by_cases h2:wE x < wE y
    ·rw [if_pos h2,cd_pos (by omega)]
    ·rw [if_neg h2,cd_neg (by omega)]
  ·exfalso
   rcases h with h | h | h
   ·rw [h] at p1; cases p1
   ·rw [h] at q1; cases q1
   ·rw [strEq_true] at h; rw [← h,p3] at q3; cases q3
 ·rcases kinds hy with ⟨q1,q2⟩ | ⟨q1,q3,q2⟩ | ⟨q1,q3,q2⟩
  ·have:strEq x.2.2.1 y.2.2.1 = false := by
    cases e:strEq x.2.2.1 y.2.2.1 with
    | false=>rfl
    | true=>rw [strEq_true] at e; rw [← e,p1] at q1; cases q1
   have h1:wE y < wE x := by omega
   simp [p1,this,q1,cmpI,h1]
  ·exfalso
   rcases h with h | h | h
   ·rw [h] at p1; cases p1
   ·rw [h] at q1; cases q1
   ·rw [strEq_true] at h; rw [← h,p3] at q3; cases q3
  ·simp only [p1,q1,p3,cond_false,cond_true,Option.bind_some]
   unfold cmpI
   by_cases h1:wE y < wE x
   ·rw [if_pos h1,cd_pos (by omega)]
   ·rw [if_neg h1,cd_neg (by omega)]
    by_cases h2:wE x < wE y
    ·rw [if_pos h2,cd_pos (by omega)]
    ·rw [if_neg h2,cd_neg (by omega)]
theorem entI_inv {x:Ent} {s s':List ByteArray} (h:entI x s = .inl s'):nameB x.1 = true ∧ nameB x.2.1 = true ∧ MarkOk x ∧ x.1 ∉ s ∧ s' = s ++ [x.1] := by
 unfold entI at h
 split at h
 ·cases h
 ·rename_i h1
  split at h
  ·cases h
  ·rename_i h2
   split at h
   ·cases h
   ·rename_i h3
    split at h
    ·cases h
    ·rename_i h4
     cases h
     refine ⟨by simpa using h1,by simpa using h3,by simpa [MarkOk] using h4,fun hm=>h2 ?_,rfl⟩
     unfold seenB
     rw [List.any_eq_true]
     exact ⟨x.1,hm,strEq_self _⟩
theorem entI_err {x:Ent} {s:List ByteArray} {e:Int} (h:entI x s = .inr e):e ≠ 0 := by
 unfold entI at h
 split at h
 ·cases h; decide
 ·split at h
  ·cases h; decide
  ·split at h
   ·cases h; decide
   ·split at h
    ·rename_i h4
     cases h; exact h4
    ·cases h
theorem entI_all {c:Int}:∀ {l:List Ent} {s:List ByteArray},goL entI (fun _=>c) l s = 0 → c = 0 ∧ (∀ x ∈ l,nameB x.1 = true ∧ nameB x.2.1 = true ∧ MarkOk x) ∧ (l.map (·.1)).Nodup ∧ ∀ x ∈ l,x.1 ∉ s
 | [],s,h=>⟨h,fun _ h=>(by cases h),List.nodup_nil,fun _ h=>(by cases h)⟩
 | x :: l,s,h=>by
  rw [goL_cons] at h
  cases hx:entI x s with
  | inr e=>rw [hx] at h; exact absurd h (entI_err hx)
  | inl s' =>
   rw [hx] at h
   obtain ⟨a1,a2,a3,a4,rfl⟩ := entI_inv hx
   obtain ⟨b1,b2,b3,b4⟩ := entI_all h
   refine ⟨b1,fun y hy=>?_,?_,fun y hy=>?_⟩
   ·rcases List.mem_cons.1 hy with rfl | hy
    ·exact ⟨a1,a2,a3⟩
    ·exact b2 y hy
   ·rw [List.map_cons,List.nodup_cons]
    refine ⟨fun hm=>?_,b3⟩
    obtain ⟨y,hy,e⟩ := List.mem_map.1 hm
    exact b4 y hy (List.mem_append.2 (.inr (List.mem_singleton.2 e)))
   ·rcases List.mem_cons.1 hy with rfl | hy
    ·exact a4
    ·exact fun hm=>b4 y hy (List.mem_append.2 (.inl hm))
theorem kind_fold:∀ (l:List Ent) (s:ByteArray × Bool),(l.foldl kindF s).2 = false → s.2 = false ∧ (s.1 = kN ∨ (l.foldl kindF s).1 = s.1) ∧ ∀ x ∈ l,x.2.2.1 = kN ∨ x.2.2.1 = (l.foldl kindF s).1
 | [],s,h=>⟨h,.inr rfl,fun _ h=>by cases h⟩
 | x :: l,s,h=>by
  rw [List.foldl_cons] at h ⊢
  obtain ⟨h1,h2,h3⟩ := kind_fold l _ h
  by_cases hN:strEq x.2.2.1 kN = true
  ·have e:kindF s x = s := by unfold kindF; rw [if_pos hN]
   rw [e] at h1 h2 h3 ⊢
   refine ⟨h1,h2,fun y hy=>?_⟩
   rcases List.mem_cons.1 hy with rfl | hy
   ·exact .inl (strEq_true.1 hN)
   ·exact h3 y hy
  ·have e:kindF s x = (x.2.2.1,s.2 || (!strEq s.1 kN && !strEq s.1 x.2.2.1)) := by unfold kindF; rw [if_neg hN]
   have hx:(l.foldl kindF (kindF s x)).1 = x.2.2.1 := by
    rcases h2 with h2 | h2
    ·rw [e] at h2
     simp only at h2
     rw [h2,strEq_self] at hN
     exact absurd rfl hN
    ·rw [h2,e]
   rw [e] at h1
   simp only [Bool.or_eq_false_iff] at h1
   refine ⟨h1.1,?_,fun y hy=>?_⟩
   ·have h4 := h1.2
    cases q1:strEq s.1 kN with
    | true=>exact .inl (strEq_true.1 q1)
    | false =>
     rw [q1] at h4
     have h5:strEq s.1 x.2.2.1 = true := by simpa using h4
     rw [strEq_true] at h5
     right
     rw [hx,h5]
   ·rcases List.mem_cons.1 hy with rfl | hy
    ·exact .inr hx.symm
    ·exact h3 y hy
structure EntOk (l:List Ent):Prop where
 len:l.length ≤ 160
 one:∀ x ∈ l,nameB x.1 = true ∧ nameB x.2.1 = true ∧ MarkOk x
 names:(l.map (·.1)).Nodup
 kinds:∀ x ∈ l,∀ y ∈ l,SameK x y
theorem entC_ok {l:List Ent} (h:entC l = 0):EntOk l := by
 unfold entC at h
 split at h
 ·cases h
 ·rename_i h0
  obtain ⟨h1,h2,h3,_⟩ := entI_all h
  refine ⟨by omega,h2,h3,?_⟩
  have hm:(l.foldl kindF (kN,false)).2 = false := by
   cases q:mixS l with
   | false=>exact q
   | true=>rw [q,if_pos rfl] at h1; cases h1
  obtain ⟨_,_,h4⟩ := kind_fold l _ hm
  intro x hx y hy
  unfold SameK
  rcases h4 x hx with a | a
  ·left; rw [a]; exact strEq_self _
  ·rcases h4 y hy with b | b
   ·right; left; rw [b]; exact strEq_self _
   ·right; right; rw [a,b]; exact strEq_self _
def atE (l:List Ent) (k:Int):Ent := l.getD k.toNat zEnt
def ltE (l:List Ent) (a b:Int):Bool := decide (wE (atE l b) < wE (atE l a))
def InE (n:Nat) (a:Int):Prop := 0 ≤ a ∧ a < n
theorem ltE_on (l:List Ent) (n:Nat):LtOn (ltE l) (InE n) := by
 refine ⟨fun x y _ _ h=>?_,fun x y z _ _ _ h=>?_⟩
 ·simp only [ltE,decide_eq_true_eq,decide_eq_false_iff_not] at h ⊢; omega
 ·simp only [ltE,decide_eq_true_eq] at h ⊢; omega
theorem atE_get {l:List Ent} {a:Int} (h:InE l.length a):∃ x,l[a.toNat]? = some x ∧ atE l a = x := by
 have:a.toNat < l.length := by have := h.1; have := h.2; omega
 exact ⟨l[a.toNat],List.getElem?_eq_getElem this,getD_some (List.getElem?_eq_getElem this)⟩
theorem cmpI_neg (a b:Int):decide (cmpI a b < 0) = decide (b < a) := by
 unfold cmpI
 by_cases h:b < a
 ·simp [h]
 ·rw [if_neg h]
  by_cases h2:a < b
  ·rw [if_pos h2]; simp [h]
  ·rw [if_neg h2]; simp [h]
theorem cmp107 {F:Nat} (hF:400 ≤ F) {l:List Ent} (h:EntOk l):CmpOk (cx107_0 F) l (ltE l) (InE l.length) := by
 intro a b ha hb
 obtain ⟨x,hx,ex⟩ := atE_get ha
 obtain ⟨y,hy,ey⟩ := atE_get hb
 have hxm := List.mem_of_getElem? hx
 have hym := List.mem_of_getElem? hy
 have a1 := ha.1; have a2 := ha.2; have b1 := hb.1; have b2 := hb.2
 refine ⟨cmpI (wE x) (wE y),?_,?_⟩
 ·unfold cx107_0
  simp (disch := omega) only [gd_dec,getD_some hx,getD_some hy,l108 hF (h.one x hxm).2.2 (h.one y hym).2.2 (h.kinds x hxm y hym),Option.bind_some]
 ·rw [cmpI_neg,ltE,ex,ey]
theorem l106 {F:Nat} (hF:400 ≤ F) {l:List Ent} (h:EntOk l) {d:List Int} (hd:∀ x ∈ d,InE l.length x) (hl:d.length < F) (hb:d.length ≤ 1000):∃ L,cx106_0 F (d,l) = some L ∧ StabS (ltE l) d L := by
 obtain ⟨L,h1,h2⟩ := gStab_ok (ltE_on l l.length) (cmp107 hF h) (d := (0:Int)) hd hl (by omega)
 refine ⟨L,?_,h2⟩
 unfold cx106_0
 simp [gd_true,x123,h1]
end Go.Proofs.Tryz
