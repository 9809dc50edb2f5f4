/- Plain law: names, numbers, first errors. Plain law: the errors of a plan, in the program and in the reference. -/
import Derived.Test.YtlfcbhjoldgijaaGreatXTtF
import Derived.Test.YtlfcbhjoldgijaaGreatXSxQh
set_option maxRecDepth 100000
set_option linter.unusedVariables false
set_option linter.unusedSimpArgs false
namespace Go.Proofs.Tryz
open Go Go.Sx
theorem l71 (F:Nat) (n lo hi:Int):c71 F (n,lo,hi) = some (decide (n < lo ∨ hi < n)) := by
 unfold c71
 by_cases h:n < lo <;> by_cases k:hi < n <;> simp [h,k]
theorem l88 (F:Nat) (b:Bool) (e:Int):c88 F (b,e) = some (if b then e else 0) := by
 unfold c88
 cases b <;> rfl
theorem l104 (F:Nat) (n lo hi:Int):c104 F (n,lo,hi) = some (if n < lo ∨ hi < n then 3 else 0) := by
 unfold c104
 simp only [l88]
 by_cases h:n < lo <;> by_cases k:hi < n <;> simp [h,k]
def firstNZ:List Int → Int
 | []=>0
 | x :: l=>if x = 0 then firstNZ l else x
theorem firstNZ_drop {l:List Int} {k:Nat} (hk:k < l.length):firstNZ (l.drop k) = if l.getD k 0 = 0 then firstNZ (l.drop (k + 1)) else l.getD k 0 := by
 rw [List.drop_eq_getElem_cons hk]
 simp only [firstNZ,List.getD,List.getElem?_eq_getElem hk,Option.getD_some]
theorem l102 {F:Nat} {l:List Int} (hF:l.length < F) (hl:l.length ≤ 1000):c102 F l = some (firstNZ l) := by
 unfold c102
 obtain ⟨b,h1,h2⟩ := loopO_ex (step := fun (v13:Int)=>bif Decidable.decide (v13 < (↑(List.length l):Int)) then (gd (Decidable.decide ((0:Int) ≤ v13)) (gd (Decidable.decide (v13 < (↑(List.length l):Int))) (gd (Decidable.decide (Int.toNat v13 < List.length l)) (bif !Decidable.decide (List.getD l (Int.toNat v13) (0:Int) = (0:Int)) then (some (Sum.inr (Sum.inl (List.getD l (Int.toNat v13) (0:Int))))) else (some (Sum.inl (Go.Sx.w64 (v13 + (1:Int))))))))) else (some (Sum.inr (Sum.inr Unit.unit))))
  (fun v=>0 ≤ v ∧ v ≤ l.length ∧ firstNZ l = firstNZ (l.drop v.toNat)) (fun v=>l.length - v.toNat) (fun b=>Sum.elim (fun (v11:Int)=>some (v11)) (fun (v12:Unit)=>some ((0:Int))) b = some (firstNZ l))
  (fun v ⟨h0,h1,h2⟩=>by
   by_cases hv:v < l.length
   ·have hk:v.toNat < l.length := by omega
    simp only [h0,hv,hk,decide_true,cond_true,gd_true]
    rw [firstNZ_drop hk] at h2
    by_cases hz:l.getD v.toNat 0 = 0
    ·left
     refine ⟨v + 1,?_,⟨by omega,by omega,?_⟩,by omega⟩
     ·simp only [hz,decide_true,Bool.not_true,cond_false]
      rw [w64_in (by omega) (by omega)]
     ·rw [if_pos hz] at h2
      rw [h2,show (v + 1).toNat = v.toNat + 1 by omega]
    ·right
     refine ⟨.inl (l.getD v.toNat 0),by simp only [hz,decide_false,Bool.not_false,cond_true],?_⟩
     rw [if_neg hz] at h2
     simp [h2]
   ·right
    refine ⟨.inr (),by simp only [hv,decide_false,cond_false],?_⟩
    have:v.toNat = l.length := by omega
    rw [this,List.drop_length] at h2
    simp [h2,firstNZ])
  F 0 ⟨by omega,by omega,by simp⟩ (by simpa using hF)
 rw [h1]
 exact h2
def okB (i:Nat) (b:Int):Bool := (decide (97 ≤ b) && decide (b ≤ 122)) || (decide (65 ≤ b) && decide (b ≤ 90)) || (!decide (i = 0) && (decide (b = 95) || (decide (48 ≤ b) && decide (b ≤ 57))))
def okAll (s:ByteArray):Bool := (List.range s.size).all fun i=>okB i ((s.get! i).toNat:Int)
def nameB (s:ByteArray):Bool := decide (1 ≤ s.size ∧ s.size ≤ 24) && okAll s
theorem okB_cases (i:Nat) (b:Int):okB i b = ((decide (97 ≤ b) && decide (b ≤ 122)) || (decide (65 ≤ b) && decide (b ≤ 90)) || (!decide ((i:Int) = 0) && (decide (b = 95) || (decide (48 ≤ b) && decide (b ≤ 57))))) := by
 simp [okB]
theorem range_get {n i x:Nat} (h:(List.range n)[i]? = some x):x = i := by
 by_cases hi:i < n
 ·rw [List.getElem?_range hi] at h
  exact (Option.some.inj h).symm
 ·rw [List.getElem?_eq_none (by simp; omega)] at h
  cases h
theorem l69 {F:Nat} (hF:400 ≤ F) {s:ByteArray}:c69 F s = some (nameB s) := by
 unfold c69 nameB
 by_cases h:1 ≤ s.size ∧ s.size ≤ 24
 ·have e:(bif decide ((s.size:Int) < 1) then some true else some (decide ((24:Int) < s.size))) = some false := by
   have h1:¬ (s.size:Int) < 1 := by omega
   have h2:¬ (24:Int) < s.size := by omega
   simp [h1,h2]
  rw [e]
  simp only [Option.bind_some,cond_false,h,and_self,decide_true,Bool.true_and]
  refine bind_list (List.range s.size) (fun (_:Unit) i=>(i:Int)) (fun x _=>if (!okB x ((s.get! x).toNat:Int)) = true then .inr (.inl false) else .inl ()) (fun _=>.inr ()) (fun _ _=>True) () (by simp; omega) rfl trivial ?_ ?_ ?_
  ·intro i x _ hi hx _
   obtain rfl := range_get hx
   simp only [List.length_range] at hi
   refine ⟨?_,fun _ _=>trivial⟩
   simp (disch := omega) only [cd_pos,gd_dec,Int.toNat_natCast,w64_in,byteI]
   rw [okB_cases]
   cases decide ((97:Int) ≤ ((s.get! x).toNat:Int)) <;> cases decide (((s.get! x).toNat:Int) ≤ 122) <;> cases decide ((65:Int) ≤ ((s.get! x).toNat:Int)) <;> cases decide (((s.get! x).toNat:Int) ≤ 90) <;>
    cases decide ((x:Int) = 0) <;> cases decide (((s.get! x).toNat:Int) = 95) <;> cases decide ((48:Int) ≤ ((s.get! x).toNat:Int)) <;> cases decide (((s.get! x).toNat:Int) ≤ 57) <;> rfl
  ·intro _ _
   simp (disch := omega) only [cd_neg,List.length_range]
  ·rw [goL_any (fun x=>!okB x ((s.get! x).toNat:Int))]
   unfold okAll
   rw [List.all_eq_not_any_not]
   cases (List.range s.size).any fun x=>!okB x ((s.get! x).toNat:Int) <;> simp
 ·have e:(bif decide ((s.size:Int) < 1) then some true else some (decide ((24:Int) < s.size))) = some true := by
   by_cases h1:(s.size:Int) < 1
   ·simp [h1]
   ·have h2:(24:Int) < s.size := by omega
    simp [h1,h2]
  rw [e]
  simp [h]
theorem l103 {F:Nat} (hF:400 ≤ F) {s:ByteArray} (hs:s.size ≤ 300):c103 F s = some (nameB s) := by
 unfold c103
 refine ex_eq (bind_sim (List.range s.size) (fun x (_:Unit)=>if (!okB x ((s.get! x).toNat:Int)) = true then .inr (.inl false) else .inl ()) (fun _=>(.inr ():Bool ⊕ Unit)) (fun i _ t=>t = (s,i))
  (fun (a:Bool ⊕ Unit) (b:(ByteArray × Nat) × Bool ⊕ ByteArray × Nat)=>a = b.elim (fun v=>.inl v.2) (fun _=>.inr ())) () (by simp; omega) rfl ?_ ?_ ?_)
 ·intro i x _ t hi hx ht
  obtain rfl := range_get hx
  subst ht
  simp only [List.length_range] at hi
  simp (disch := omega) only [cd_pos]
  rw [okB_cases]
  by_cases hb:(s.get! x).toNat < 128
  ·rw [dec_lo hb]
   simp only []
   by_cases h1:(97:Int) ≤ ((s.get! x).toNat:Int) <;> by_cases h2:((s.get! x).toNat:Int) ≤ 122 <;> by_cases h3:(65:Int) ≤ ((s.get! x).toNat:Int) <;> by_cases h4:((s.get! x).toNat:Int) ≤ 90 <;>
    by_cases h5:(x:Int) = 0 <;> by_cases h6:((s.get! x).toNat:Int) = 95 <;> by_cases h7:((s.get! x).toNat:Int) < 48 <;> by_cases h8:(57:Int) < ((s.get! x).toNat:Int) <;>
    simp only [h1,h2,h3,h4,h5,h6,h7,h8,Int.not_lt.symm,decide_true,decide_false,cond_true,cond_false,Bool.not_true,Bool.not_false,Bool.and_true,Bool.and_false,Bool.true_and,Bool.false_and,Bool.or_true,Bool.or_false,Bool.true_or,Bool.false_or] <;>
    exact ⟨_,rfl,rfl⟩
  ·have h2 := dec_hi hb
   have a1:(97:Int) ≤ ((Go.Utf8.decode s x).1:Int) := by omega
   have a2:¬ ((Go.Utf8.decode s x).1:Int) ≤ 122 := by omega
   have a3:(65:Int) ≤ ((Go.Utf8.decode s x).1:Int) := by omega
   have a4:¬ ((Go.Utf8.decode s x).1:Int) ≤ 90 := by omega
   have a5:¬ ((Go.Utf8.decode s x).1:Int) = 95 := by omega
   have a6:¬ ((Go.Utf8.decode s x).1:Int) < 48 := by omega
   have a7:(57:Int) < ((Go.Utf8.decode s x).1:Int) := by omega
   have b2:¬ ((s.get! x).toNat:Int) ≤ 122 := by omega
   have b4:¬ ((s.get! x).toNat:Int) ≤ 90 := by omega
   have b5:¬ ((s.get! x).toNat:Int) = 95 := by omega
   have b6:¬ ((s.get! x).toNat:Int) ≤ 57 := by omega
   simp only [a1,a2,a3,a4,a5,a6,a7,b2,b4,b5,b6,decide_true,decide_false,cond_true,cond_false,Bool.not_true,Bool.not_false,Bool.and_true,Bool.and_false,Bool.or_false]
   by_cases h5:(x:Int) = 0 <;> simp only [h5,decide_true,decide_false,cond_true,cond_false,Bool.not_true,Bool.not_false,Bool.and_true,Bool.and_false,if_true] <;> exact ⟨_,rfl,rfl⟩
 ·intro _ t ht
  subst ht
  simp (disch := omega) only [cd_neg,List.length_range]
  exact ⟨_,rfl,rfl⟩
 ·intro b hb
  rw [goL_any (fun x=>!okB x ((s.get! x).toNat:Int))] at hb
  have e:(bif decide (0 < (s.size:Int)) then some (decide ((s.size:Int) ≤ 24)) else some false) = some (decide (1 ≤ s.size ∧ s.size ≤ 24)) := by
   by_cases h1:0 < (s.size:Int)
   ·have h2:1 ≤ s.size := by omega
    by_cases h3:s.size ≤ 24
    ·have:(s.size:Int) ≤ 24 := by omega
     simp only [h1,h2,h3,this,decide_true,cond_true,and_self]
    ·have:¬ (s.size:Int) ≤ 24 := by omega
     simp only [h1,h2,h3,this,decide_true,cond_true,and_false]
   ·have h2:¬ 1 ≤ s.size := by omega
    simp only [h1,h2,decide_false,cond_false,false_and]
  unfold nameB okAll
  rw [List.all_eq_not_any_not]
  cases hany:(List.range s.size).any fun x=>!okB x ((s.get! x).toNat:Int) with
  | true =>
   rw [hany] at hb
   cases b with
   | inl v=>simp only [if_true,Sum.elim_inl,Sum.inl.injEq] at hb; exact ⟨_,rfl,by rw [← hb]; simp⟩
   | inr v=>simp at hb
  | false =>
   rw [hany] at hb
   cases b with
   | inl v=>simp at hb
   | inr v=>exact ⟨_,by simp only [Sum.elim_inr,e]; rfl,by simp⟩
theorem l137 {F:Nat} (hF:400 ≤ F) {l:List ByteArray} {x:ByteArray} (hl:l.length ≤ 300):∃ v,c137 F (l,x) = some v ∧ decide (0 ≤ v) = l.any fun y=>strEq x y := by
 unfold c137
 refine bind_sim l (fun y (_:Unit)=>if strEq x y = true then .inr true else .inl ()) (fun _=>false) (fun i _ t=>t = (i:Int)) (fun (a:Bool) (b:Int ⊕ Unit)=>decide (0 ≤ b.elim (fun v=>v) (fun _=>-1)) = a) () (by omega) rfl ?_ ?_ ?_
 ·intro i y _ t hi hy ht
  subst ht
  simp (disch := omega) only [cd_pos,gd_dec,Int.toNat_natCast,getD_some hy,w64_in]
  cases strEq x y with
  | true=>exact ⟨_,rfl,by simp [RelS]⟩
  | false=>exact ⟨_,rfl,by simp [RelS]⟩
 ·intro _ t ht
  subst ht
  simp (disch := omega) only [cd_neg]
  exact ⟨_,rfl,by simp⟩
 ·intro b hb
  rw [goL_any] at hb
  refine ⟨b.elim (fun v=>v) (fun _=>-1),by cases b <;> rfl,?_⟩
  rw [hb]
  cases l.any fun y=>strEq x y <;> rfl
theorem peta {α β:Type} (p:α × β):(p.1,p.2) = p := rfl
def errL {α:Type} (err:List α → α → Int):List α → List α → Int
 | _,[]=>0
 | pre,x :: l=>if err pre x = 0 then errL err (pre ++ [x]) l else err pre x
theorem goL_err {α:Type} (err:List α → α → Int):∀ (l pre:List α),goL (fun x s=>if err s x = 0 then .inl (s ++ [x]) else .inr (.inl (err s x))) (fun _=>(.inr ():Int ⊕ Unit)) l pre = if errL err pre l = 0 then .inr () else .inl (errL err pre l)
 | [],pre=>rfl
 | x :: l,pre=>by
  rw [goL_cons]
  simp only [errL]
  by_cases h:err pre x = 0
  ·simp only [h,if_true]
   exact goL_err err l (pre ++ [x])
  ·simp only [h,if_false]
theorem bind_err {α γ:Type} {step:Int → Option (Int ⊕ (Int ⊕ Unit))} {F:Nat} {k:Int ⊕ Unit → Option γ} {r:Option γ} (l:List α) (err:List α → α → Int) (hF:l.length < F)
  (hstep:∀ (i:Nat) x,i < l.length → l[i]? = some x → step (i:Int) = some (if err (l.take i) x = 0 then .inl ((i:Int) + 1) else .inr (.inl (err (l.take i) x))))
  (hend:step (l.length:Int) = some (.inr (.inr ())))
  (hk:k (if errL err [] l = 0 then .inr () else .inl (errL err [] l)) = r):Option.bind (loopO step F 0) k = r := by
 refine bind_list l (fun (_:List α) i=>(i:Int)) (fun x s=>if err s x = 0 then .inl (s ++ [x]) else .inr (.inl (err s x))) (fun _=>.inr ()) (fun i s=>s = l.take i) [] hF rfl rfl ?_ ?_ ?_
 ·intro i x s hi hx hs
  subst hs
  rw [hstep i x hi hx]
  by_cases h:err (l.take i) x = 0
  ·simp only [h,if_true]
   refine ⟨rfl,?_⟩
   intro s' hs'
   injection hs' with hs'
   rw [← hs']
   exact take_snoc hx
  ·simp only [h,if_false,true_and]
   intro s' hs'
   cases hs'
 ·intro s hs
  exact hend
 ·rw [goL_err]
  exact hk
theorem firstNZ_cons (x:Int) (l:List Int):firstNZ (x :: l) = if x = 0 then firstNZ l else x := rfl
theorem firstNZ_nil:firstNZ (nilT Int) = 0 := rfl
abbrev Rnd := ByteArray × Int × List ByteArray × List ByteArray × List ByteArray × Int × Int
abbrev Ord3 := Int × Int × Int
abbrev Pln := List Rnd × List Ord3 × Int
def namE (s:List ByteArray) (x:ByteArray):Int := if nameB x = true then (if (s.any fun y=>strEq x y) = true then 9 else 0) else 8
def namesE (l:List ByteArray):Int := if 160 < l.length then 5 else errL namE [] l
def rngE (n lo hi:Int):Int := if n < lo ∨ hi < n then 3 else 0
def rndT (x:Rnd):Int := firstNZ [rngE x.2.1 1 1440,namesE x.2.2.1,namesE x.2.2.2.1,namesE x.2.2.2.2.1,rngE x.2.2.2.2.2.1 0 20000,rngE x.2.2.2.2.2.2 0 20000,if x.2.2.2.2.2.2 < x.2.2.2.2.2.1 then 11 else 0]
def rndE (s:List Rnd) (x:Rnd):Int := if nameB x.1 = true then (if (s.any fun y=>strEq x.1 y.1) = true then 9 else rndT x) else 8
def ordE (n:Nat) (_:List Ord3) (o:Ord3):Int := firstNZ [if (0 ≤ o.1 ∧ o.1 < n) ∧ 0 ≤ o.2.1 ∧ o.2.1 < n then 0 else 10,if o.1 = o.2.1 then 9 else 0,rngE o.2.2 0 1440]
def planE (p:Pln):Int := if 24 < p.1.length then 5 else firstNZ [errL rndE [] p.1,if 24 < p.2.1.length then 5 else 0,errL (ordE p.1.length) [] p.2.1,rngE p.2.2 0 1440]
theorem strEq_comm (a b:ByteArray):strEq a b = strEq b a := by
 rw [strEq_dec,strEq_dec]
 by_cases h:a = b
 ·simp [h]
 ·have:¬ b = a := fun e=>h e.symm
  simp [h,this]
theorem bind_any {α β γ:Type} {step:Int → Option (Int ⊕ β)} {F:Nat} {k:β → Option γ} {r:Option γ} (l:List α) (p:α → Bool) (b1 b2:β) (hF:l.length < F)
  (hstep:∀ (i:Nat) x,i < l.length → l[i]? = some x → step (i:Int) = some (if p x = true then .inr b1 else .inl ((i:Int) + 1)))
  (hend:step (l.length:Int) = some (.inr b2))
  (hk:k (if l.any p = true then b1 else b2) = r):Option.bind (loopO step F 0) k = r := by
 refine bind_list l (fun (_:Unit) i=>(i:Int)) (fun x _=>if p x = true then .inr b1 else .inl ()) (fun _=>b2) (fun _ _=>True) () hF rfl trivial ?_ ?_ ?_
 ·intro i x s hi hx hs
  refine ⟨?_,fun _ _=>trivial⟩
  rw [hstep i x hi hx]
  cases p x <;> simp
 ·intro s hs
  exact hend
 ·rw [goL_any]
  exact hk
def idxS {α:Type} (l:List α) (p:α → Bool):Int := match l.findIdx? p with
 | some i=>i
 | none=>-1
theorem idxS_any {α:Type} (l:List α) (p:α → Bool):decide (0 ≤ idxS l p) = l.any p := by
 unfold idxS
 have h := List.findIdx?_isSome (xs := l) (p := p)
 cases e:l.findIdx? p with
 | none =>
  rw [e] at h
  rw [← h]
  simp
 | some i =>
  rw [e] at h
  rw [← h]
  simp
theorem idx_loop {α:Type} {step:Int → Option (Int ⊕ (Int ⊕ Unit))} {F:Nat} (l:List α) (p:α → Bool) (hF:l.length < F)
  (hstep:∀ (i:Nat) x,i < l.length → l[i]? = some x → step (i:Int) = some (if p x = true then .inr (.inl (i:Int)) else .inl ((i:Int) + 1)))
  (hend:step (l.length:Int) = some (.inr (.inr ()))):(Option.bind (loopO step F 0) fun v=>Sum.elim (fun v=>some v) (fun _=>some (-1)) v) = some (idxS l p) := by
 refine bind_find l p (fun i=>.inl (i:Int)) (.inr ()) hF hstep hend ?_
 unfold idxS
 cases l.findIdx? p <;> rfl
theorem l113 {F:Nat} (hF:400 ≤ F) {l:List ByteArray} (hl:l.length ≤ 300):c113 F l = some (errL namE [] l) := by
 unfold c113
 refine bind_err l namE (by omega) ?_ ?_ ?_
 ·intro i x hi hx
  simp (disch := omega) only [cd_pos,gd_dec,Int.toNat_natCast,getD_some hx,w64_in,l69 hF,Option.bind_some]
  unfold namE
  cases hn:nameB x with
  | false=>simp
  | true =>
   simp only [Bool.not_true,cond_false]
   refine bind_any (l.take i) (fun y=>strEq x y) (.inl 9) (.inr ()) (by rw [List.length_take]; omega) ?_ ?_ ?_
   ·intro k y hk hy
    rw [len_take (by omega)] at hk
    have hy':l[k]? = some y := by rw [List.getElem?_take_of_lt hk] at hy; exact hy
    simp (disch := omega) only [cd_pos,gd_dec,Int.toNat_natCast,getD_some hy',w64_in,strEq_comm y x]
    cases strEq x y <;> simp
   ·rw [len_take (by omega)]
    simp (disch := omega) only [cd_neg]
   ·cases (l.take i).any fun y=>strEq x y <;> simp
 ·simp (disch := omega) only [cd_neg]
 ·by_cases h:errL namE [] l = 0 <;> simp [h]
theorem x136 {F:Nat} (hF:400 ≤ F) {l:List ByteArray} {i:Nat} {x:ByteArray} (hi:i < l.length) (hl:l.length ≤ 300) (hx:x.size ≤ 300):cx136_0 F ((i:Int),x,l) = some (namE (l.take i) x) := by
 unfold cx136_0
 obtain ⟨v,h1,h2⟩ := l137 hF (l := l.take i) (x := x) (by rw [List.length_take]; omega)
 have e:List.drop 0 (List.take i l) = l.take i := rfl
 have hb:((l.take i).any fun y=>strEq x y) = decide (0 ≤ v) := h2.symm
 simp (disch := omega) only [gd_dec,l103 hF hx,Option.bind_some,l88,Int.toNat_natCast,c111,e,h1,l102 (F := F) (l := _ :: _ :: nilT Int) (by simp [nilT]; omega) (by simp [nilT])]
 unfold namE
 rw [hb]
 simp only [firstNZ_cons,firstNZ_nil]
 cases nameB x <;> cases decide (0 ≤ v) <;> simp
def BSm (l:List ByteArray):Prop := l.length ≤ 300 ∧ ∀ x ∈ l,x.size ≤ 300
theorem l105 {F:Nat} (hF:400 ≤ F) {l:List ByteArray} (h:BSm l):c105 F l = some (namesE l) := by
 unfold c105 namesE
 obtain ⟨hl,hs⟩ := h
 by_cases h:160 < l.length
 ·have:(160:Int) < l.length := by omega
  simp [h,this]
 ·have:¬ (160:Int) < l.length := by omega
  simp only [h,this,decide_false,cond_false,if_false]
  have e:cx135_0 F (l,l) = some (errL namE [] l) := by
   unfold cx135_0
   refine bind_err l namE (by omega) ?_ ?_ ?_
   ·intro i x hi hx
    have hxs := hs x (List.mem_of_getElem? hx)
    simp (disch := omega) only [cd_pos,gd_dec,Int.toNat_natCast,getD_some hx,w64_in,x136 hF hi hl hxs,Option.bind_some]
    by_cases h0:namE (l.take i) x = 0 <;> simp [h0]
   ·simp (disch := omega) only [cd_neg]
   ·by_cases h:errL namE [] l = 0 <;> simp [h]
  rw [e]
  rfl
def RSm (x:Rnd):Prop := x.1.size ≤ 300 ∧ BSm x.2.2.1 ∧ BSm x.2.2.2.1 ∧ BSm x.2.2.2.2.1
theorem l70 {F:Nat} (hF:400 ≤ F) {x:Rnd} (h:RSm x):c70 F x = some (rndT x) := by
 unfold c70 rndT
 obtain ⟨hn,h1,h2,h3⟩ := h
 simp only [l71,Option.bind_some]
 rw [firstNZ_cons]
 unfold rngE
 by_cases a1:x.2.1 < 1 ∨ 1440 < x.2.1
 ·simp [a1]
 ·simp only [a1,decide_false,cond_false,if_false,if_true]
  refine bind_err [x.2.2.1,x.2.2.2.1,x.2.2.2.2.1] (fun _ l=>namesE l) (by simp; omega) ?_ ?_ ?_
  ·intro i l hi hl
   simp only [List.length_cons,List.length_nil] at hi
   have hlm:BSm l := by
    have := List.mem_of_getElem? hl
    simp only [List.mem_cons,List.not_mem_nil,or_false] at this
    rcases this with rfl | rfl | rfl <;> assumption
   have hg:List.getD (x.2.2.1 :: x.2.2.2.1 :: x.2.2.2.2.1 :: nilT (List ByteArray)) i (nilT ByteArray) = l := getD_some hl
   simp (disch := omega) only [cd_pos,gd_dec,Int.toNat_natCast,Nat.zero_add,hg,w64_in,l113 hF hlm.1,Option.bind_some]
   unfold namesE
   by_cases h0:160 < l.length
   ·have:(160:Int) < l.length := by omega
    simp (disch := simp [nilT]; omega) [h0,this,gd_dec]
   ·have:¬ (160:Int) < l.length := by omega
    by_cases h4:errL namE [] l = 0 <;> simp (disch := simp [nilT]; omega) [h0,this,h4,gd_dec]
  ·simp
  ·simp only [errL,List.nil_append,firstNZ_cons]
   by_cases b1:namesE x.2.2.1 = 0
   ·by_cases b2:namesE x.2.2.2.1 = 0
    ·by_cases b3:namesE x.2.2.2.2.1 = 0
     ·simp only [b1,b2,b3,if_true,Sum.elim_inr,Option.bind_some]
      by_cases c1:x.2.2.2.2.2.1 < 0 ∨ 20000 < x.2.2.2.2.2.1
      ·simp [c1]
      ·by_cases c2:x.2.2.2.2.2.2 < 0 ∨ 20000 < x.2.2.2.2.2.2
       ·simp [c1,c2]
       ·by_cases c3:x.2.2.2.2.2.2 < x.2.2.2.2.2.1 <;> simp [c1,c2,c3,firstNZ]
     ·simp [b1,b2,b3]
    ·simp [b1,b2]
   ·simp [b1]
def PSm (p:Pln):Prop := p.1.length ≤ 300 ∧ p.2.1.length ≤ 300 ∧ ∀ x ∈ p.1,RSm x
theorem x134 {F:Nat} (hF:400 ≤ F) {l:List Rnd} {x:Rnd} (hl:l.length ≤ 300):cx100_0 F (l,x) = some (l.any fun y=>strEq x.1 y.1) := by
 unfold cx100_0 cx134_0
 simp only [peta]
 rw [idx_loop l (fun y=>strEq x.1 y.1) (by omega) ?_ ?_]
 ·simp only [Option.bind_some,idxS_any]
 ·intro i y hi hy
  simp (disch := omega) only [cd_pos,gd_dec,Int.toNat_natCast,getD_some hy,w64_in,strEq_comm y.1 x.1]
  cases strEq x.1 y.1 <;> simp
 ·simp (disch := omega) only [cd_neg]
theorem x99 {F:Nat} (hF:400 ≤ F) {p:Pln} {i:Nat} {x:Rnd} (hi:i < p.1.length) (hl:p.1.length ≤ 300) (hx:RSm x):cx99_0 F ((i:Int),x,p) = some (rndE (p.1.take i) x) := by
 unfold cx99_0
 obtain ⟨hn,h1,h2,h3⟩ := hx
 have e:List.drop 0 (List.take i p.1) = p.1.take i := rfl
 simp (disch := omega) only [peta,gd_dec,Int.toNat_natCast,e,x134 hF (l := p.1.take i) (x := x) (by rw [List.length_take]; omega),l103 hF hn,l88,l104,l105 hF h1,l105 hF h2,l105 hF h3,Option.bind_some,l102 (F := F) (l := _ :: _ :: _ :: _ :: _ :: _ :: _ :: _ :: _ :: nilT Int) (by simp [nilT]; omega) (by simp [nilT])]
 unfold rndE rndT rngE
 cases nameB x.1 with
 | false=>simp [firstNZ_cons]
 | true=>cases (p.1.take i).any fun y=>strEq x.1 y.1 <;> simp [firstNZ_cons,nilT]
theorem x98 {F:Nat} (hF:400 ≤ F) {p:Pln} (h:PSm p):cx98_0 F (p.1,p) = some (errL rndE [] p.1) := by
 unfold cx98_0
 obtain ⟨h1,h2,h3⟩ := h
 refine bind_err p.1 rndE (by omega) ?_ ?_ ?_
 ·intro i x hi hx
  have hxs := h3 x (List.mem_of_getElem? hx)
  simp (disch := omega) only [cd_pos,gd_dec,Int.toNat_natCast,getD_some hx,w64_in,peta,x99 hF hi h1 hxs,Option.bind_some]
  by_cases h0:rndE (p.1.take i) x = 0 <;> simp [h0]
 ·simp (disch := omega) only [cd_neg]
 ·by_cases h:errL rndE [] p.1 = 0 <;> simp [h]
theorem x106 (F:Nat) (i:Int) (p:Pln):cx106_0 F (i,p) = some (decide (0 ≤ i ∧ i < p.1.length)) := by
 unfold cx106_0
 by_cases h:0 ≤ i <;> by_cases k:i < p.1.length <;> simp [h,k]
theorem x107 {F:Nat} (hF:400 ≤ F) {p:Pln} (h:PSm p):cx107_0 F (p.2.1,(),p) = some (errL (ordE p.1.length) [] p.2.1) := by
 unfold cx107_0
 obtain ⟨h1,h2,h3⟩ := h
 refine bind_err p.2.1 (ordE p.1.length) (by omega) ?_ ?_ ?_
 ·intro i o hi ho
  have e:cx108_0 F ((i:Int),o,(),p) = some (ordE p.1.length (p.2.1.take i) o) := by
   unfold cx108_0
   simp only [peta,x106,Option.bind_some,l88,l104,l102 (F := F) (l := _ :: _ :: _ :: nilT Int) (by simp [nilT]; omega) (by simp [nilT])]
   unfold ordE rngE
   by_cases a1:0 ≤ o.1 ∧ o.1 < p.1.length <;> by_cases a2:0 ≤ o.2.1 ∧ o.2.1 < p.1.length <;> simp [a1,a2,nilT]
  simp (disch := omega) only [cd_pos,gd_dec,Int.toNat_natCast,getD_some ho,w64_in,peta,e,Option.bind_some]
  by_cases h0:ordE p.1.length (p.2.1.take i) o = 0 <;> simp [h0]
 ·simp (disch := omega) only [cd_neg]
 ·by_cases h:errL (ordE p.1.length) [] p.2.1 = 0 <;> simp [h]
theorem l51 {F:Nat} (hF:400 ≤ F) {p:Pln} (h:PSm p):c51 F p = some (planE p) := by
 unfold c51 planE
 by_cases h0:24 < p.1.length
 ·have:(24:Int) < p.1.length := by omega
  simp [h0,this]
 ·have:¬ (24:Int) < p.1.length := by omega
  simp only [h0,this,decide_false,cond_false,if_false,peta,x98 hF h,x107 hF h,l88,l104,Option.bind_some,l102 (F := F) (l := _ :: _ :: nilT Int) (by simp [nilT]; omega) (by simp [nilT])]
  have e:(if decide ((24:Int) < p.2.1.length) = true then (5:Int) else 0) = if 24 < p.2.1.length then 5 else 0 := by
   by_cases h1:24 < p.2.1.length
   ·have:(24:Int) < p.2.1.length := by omega
    simp [h1,this]
   ·have:¬ (24:Int) < p.2.1.length := by omega
    simp [h1,this]
  rw [e]
  unfold rngE
  simp only [firstNZ_cons,firstNZ_nil]
  by_cases b1:errL rndE [] p.1 = 0
  ·by_cases b2:24 < p.2.1.length
   ·simp [b1,b2]
   ·by_cases b3:errL (ordE p.1.length) [] p.2.1 = 0 <;> simp [b1,b2,b3,firstNZ]
  ·simp [b1]
theorem l19 {F:Nat} (hF:400 ≤ F) {p:Pln} (h:PSm p):c19 F p = some (planE p) := by
 unfold c19 planE
 obtain ⟨h1,h2,h3⟩ := h
 by_cases h0:24 < p.1.length
 ·have:(24:Int) < p.1.length := by omega
  simp [h0,this]
 ·have:¬ (24:Int) < p.1.length := by omega
  simp only [h0,this,decide_false,cond_false,if_false]
  refine bind_err p.1 rndE (by omega) ?_ ?_ ?_
  ·intro i x hi hx
   have hxs := h3 x (List.mem_of_getElem? hx)
   simp (disch := omega) only [cd_pos,gd_dec,Int.toNat_natCast,getD_some hx,w64_in,peta,l69 hF,l70 hF hxs,Option.bind_some]
   unfold rndE
   cases hn:nameB x.1 with
   | false=>simp
   | true =>
    simp only [Bool.not_true,cond_false]
    refine bind_any (p.1.take i) (fun y=>strEq x.1 y.1) (.inl 9) (.inr ()) (by rw [List.length_take]; omega) ?_ ?_ ?_
    ·intro k y hk hy
     rw [len_take (by omega)] at hk
     have hy':p.1[k]? = some y := by rw [List.getElem?_take_of_lt hk] at hy; exact hy
     simp (disch := omega) only [cd_pos,gd_dec,Int.toNat_natCast,getD_some hy',w64_in,strEq_comm y.1 x.1]
     cases strEq x.1 y.1 <;> simp
    ·rw [len_take (by omega)]
     simp (disch := omega) only [cd_neg]
    ·cases (p.1.take i).any fun y=>strEq x.1 y.1 with
     | true=>simp
     | false =>
      simp (disch := omega) only [gd_dec,Bool.false_eq_true,if_false,Sum.elim_inr,if_true]
      by_cases h0:rndT x = 0 <;> simp [h0]
  ·simp (disch := omega) only [cd_neg]
  ·by_cases b1:errL rndE [] p.1 = 0
   ·simp only [b1,if_true,Sum.elim_inr]
    by_cases b2:24 < p.2.1.length
    ·have:(24:Int) < p.2.1.length := by omega
     simp [b2,this,firstNZ]
    ·have:¬ (24:Int) < p.2.1.length := by omega
     simp only [b2,this,decide_false,cond_false,if_false]
     refine bind_err p.2.1 (ordE p.1.length) (by omega) ?_ ?_ ?_
     ·intro i o hi ho
      simp (disch := omega) only [cd_pos,gd_dec,Int.toNat_natCast,getD_some ho,w64_in,peta,l71,Option.bind_some]
      unfold ordE rngE
      by_cases a1:0 ≤ o.1 ∧ o.1 < p.1.length
      ·have:¬ (o.1 < 0 ∨ (p.1.length:Int) - 1 < o.1) := by omega
       by_cases a2:0 ≤ o.2.1 ∧ o.2.1 < p.1.length
       ·have:¬ (o.2.1 < 0 ∨ (p.1.length:Int) - 1 < o.2.1) := by omega
        by_cases a3:o.1 = o.2.1
        ·simp [*,firstNZ]
        ·by_cases a4:o.2.2 < 0 ∨ 1440 < o.2.2 <;> simp [*,firstNZ]
       ·have:(o.2.1 < 0 ∨ (p.1.length:Int) - 1 < o.2.1) := by omega
        simp [*,firstNZ]
      ·have:(o.1 < 0 ∨ (p.1.length:Int) - 1 < o.1) := by omega
       simp [*,firstNZ]
     ·simp (disch := omega) only [cd_neg]
     ·by_cases b3:errL (ordE p.1.length) [] p.2.1 = 0
      ·by_cases b4:p.2.2 < 0 ∨ 1440 < p.2.2 <;> simp [b3,b4,firstNZ,l71,rngE]
      ·simp [b3,firstNZ]
   ·simp [b1,firstNZ]
end Go.Proofs.Tryz
