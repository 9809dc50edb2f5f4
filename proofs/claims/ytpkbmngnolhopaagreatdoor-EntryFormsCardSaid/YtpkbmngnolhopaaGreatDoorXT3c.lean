/- Plain law: meetings, in the program and in the reference. -/
import Derived.Test.YtpkbmngnolhopaaGreatDoorXT3a
set_option maxRecDepth 100000
set_option linter.unusedVariables false
set_option linter.unusedSimpArgs false
namespace Go.Proofs.Tryz
open Go Go.Sx
theorem peta {α β:Type} (p:α × β):(p.1,p.2) = p := rfl
abbrev Cst := TCst
abbrev Mt := Int × Int × Int × Int × List Cst
def idxI {α:Type} (p:α → Bool) (l:List α):Int := (l.findIdx? p).elim (-1) fun i=>(i:Int)
theorem idxI_pos {α:Type} {p:α → Bool} {y:α} (l:List α) (h:p y = true):idxI p (y :: l) = 0 := by
 simp [idxI,List.findIdx?_cons,h]
theorem idxI_neg {α:Type} {p:α → Bool} {y:α} (l:List α) (h:p y = false):idxI p (y :: l) = if 0 ≤ idxI p l then idxI p l + 1 else -1 := by
 unfold idxI
 rw [List.findIdx?_cons,h]
 simp only [Bool.false_eq_true,if_false]
 cases l.findIdx? p with
 | none=>simp
 | some i =>
  have h1:(0:Int) ≤ i := by omega
  simp [h1]
theorem idxI_any {α:Type} (p:α → Bool):∀ (l:List α),decide (0 ≤ idxI p l) = l.any p
 | []=>rfl
 | y :: l=>by
  have ih := idxI_any p l
  rw [List.any_cons]
  cases h:p y with
  | true=>simp [idxI_pos l h]
  | false =>
   rw [idxI_neg l h,← ih]
   by_cases k:0 ≤ idxI p l
   ·have:0 ≤ idxI p l + 1 := by omega
    simp [k,this]
   ·simp [k]
theorem idxI_lt {α:Type} {p:α → Bool}:∀ {l:List α} {i:Nat} {x:α},l[i]? = some x → p x = true → decide (idxI p l < (i:Int)) = (l.take i).any p
 | [],i,x,hx,_=>by simp at hx
 | y :: l,0,x,hx,hp=>by
  simp only [List.getElem?_cons_zero,Option.some.injEq] at hx
  subst hx
  simp [idxI_pos l hp]
 | y :: l,i + 1,x,hx,hp=>by
  simp only [List.getElem?_cons_succ] at hx
  have ih := idxI_lt hx hp
  have ha := idxI_any p l
  have hm:l.any p = true := List.any_eq_true.2 ⟨x,List.mem_of_getElem? hx,hp⟩
  rw [hm,decide_eq_true_eq] at ha
  rw [List.take_succ_cons,List.any_cons]
  cases h:p y with
  | true =>
   rw [idxI_pos l h]
   have:(0:Int) < ((i + 1:Nat):Int) := by omega
   simp only [this,decide_true,Bool.true_or]
  | false =>
   rw [idxI_neg l h,if_pos ha,Bool.false_or,← ih]
   by_cases k:idxI p l < (i:Int)
   ·have:idxI p l + 1 < ((i + 1:Nat):Int) := by omega
    simp only [k,this,decide_true]
   ·have:¬ idxI p l + 1 < ((i + 1:Nat):Int) := by omega
    simp only [k,this,decide_false]
theorem idxI_get {α:Type} {p:α → Bool} {l:List α} (h:0 ≤ idxI p l):∃ (k:Nat) (x:α),idxI p l = k ∧ k < l.length ∧ l[k]? = some x ∧ p x = true := by
 unfold idxI at h ⊢
 cases e:l.findIdx? p with
 | none=>rw [e] at h; simp at h
 | some k =>
  obtain ⟨h1,h2,-⟩ := List.findIdx?_eq_some_iff_getElem.1 e
  exact ⟨k,l[k],rfl,h1,List.getElem?_eq_getElem h1,h2⟩
theorem bind_idx {α:Type} {step:Int → Option (Int ⊕ (Int ⊕ Unit))} {F:Nat} (l:List α) (p:α → Bool) (hF:l.length < F)
  (hstep:∀ (i:Nat) x,i < l.length → l[i]? = some x → step (i:Int) = some (if p x = true then .inr (.inl (i:Int)) else .inl ((i:Int) + 1)))
  (hend:step (l.length:Int) = some (.inr (.inr ()))):Option.bind (loopO step F 0) (fun v=>Sum.elim (fun (a:Int)=>some a) (fun (_:Unit)=>some (-1:Int)) v) = some (idxI p l) := by
 refine bind_find l p (fun i=>.inl (i:Int)) (.inr ()) hF hstep hend ?_
 unfold idxI
 cases l.findIdx? p <;> rfl
def outB (n k:Int):Bool := decide (n < 0) || decide (k < n)
theorem dayB_out (n:Int):dayB n = outB n 99999 := rfl
theorem l87 (F:Nat) (n k:Int):c87 F (n,k) = some (if outB n k = true then 3 else 0) := by
 unfold c87 outB
 simp only [l86,Option.bind_some]
 by_cases h:n < 0 <;> by_cases h2:k < n <;> simp [h,h2]
theorem l94k (F:Nat) (n k:Int):c94 F (n,k) = some (outB n k) := by
 unfold c94 outB
 by_cases h:n < 0 <;> simp [h]
theorem l84' {F:Nat} (hF:400 ≤ F) {l:List Int} (h:l.length ≤ 300):c84 F l = some (firstNZ l) := l84 (by omega) (by omega)
theorem l107 {F:Nat} (hF:400 ≤ F) {l:List ByteArray} {x:ByteArray} (hl:l.length ≤ 300):c107 F (l,x) = some (l.any fun y=>strEq x y) := by
 unfold c107
 obtain ⟨v,h1,h2⟩ := l183 hF (l := l) (x := x) hl
 simp only [h1,Option.bind_some,h2]
def kindB (k:ByteArray):Bool := strEq k kT || strEq k kL || strEq k kP
def suitB (k s:ByteArray):Bool := strEq s k || strEq s kN
theorem l155 (F:Nat) (x:Cst) (k:ByteArray) (v:Int) (r:ByteArray):c155 F (x,k,v,r) = some (suitB x.2.1 k) := by
 unfold c155 suitB kN
 cases strEq k x.2.1 <;> rfl
theorem l157 (F:Nat) (k:ByteArray) (v:Int) (r:ByteArray) (s:ByteArray):c157 F ((k,v,r),s) = some (suitB s k) := by
 unfold c157 suitB kN
 cases strEq k s <;> rfl
def selfE (x:Cst):Int :=
 if kindB x.2.1 = false then 13 else if (!strEq x.2.2.1 k0 && !nameB x.2.2.1) = true then 8 else if (outB x.2.2.2.1 120 || outB x.2.2.2.2.1 120) = true then 3 else if x.2.2.2.2.1 < x.2.2.2.1 then 11
 else if (outB x.2.2.2.2.2.1 160 || outB x.2.2.2.2.2.2.1 160 || outB x.2.2.2.2.2.2.2.2.2.2 8) = true then 3
 else if markE x.2.2.2.2.2.2.2.1 x.2.2.2.2.2.2.2.2.1 x.2.2.2.2.2.2.2.2.2.1 = 0 then (if suitB x.2.1 x.2.2.2.2.2.2.2.1 = true then 0 else 13) else markE x.2.2.2.2.2.2.2.1 x.2.2.2.2.2.2.2.2.1 x.2.2.2.2.2.2.2.2.2.1
theorem l93 {F:Nat} (hF:400 ≤ F) (x:Cst) (hx:x.2.2.1.size ≤ 300):c93 F x = some (selfE x) := by
 obtain ⟨nm,kd,ct,le,mo,pl,pc,sk,sv,sr,tm⟩ := x
 have e5:∀ a b c d e,c84 F (a :: b :: c :: d :: e :: nilT Int) = some (firstNZ [a,b,c,d,e]) := fun a b c d e=>l84' hF (by simp [nilT])
 have e7:∀ x,c107 F ({ data := List.toArray ((116:UInt8) :: (105:UInt8) :: (109:UInt8) :: (101:UInt8) :: nilT UInt8) } :: { data := List.toArray ((108:UInt8) :: (101:UInt8) :: (110:UInt8) :: (103:UInt8) :: (116:UInt8) :: (104:UInt8) :: nilT UInt8) } :: { data := List.toArray ((112:UInt8) :: (111:UInt8) :: (105:UInt8) :: (110:UInt8) :: (116:UInt8) :: (115:UInt8) :: nilT UInt8) } :: nilT ByteArray,x) = some (kindB x) := fun x=>by
  rw [l107 hF (by simp [nilT])]
  simp [nilT,kindB,kT,kL,kP,Bool.or_assoc]
 have hk0:({ data := List.toArray (nilT UInt8) }:ByteArray) = k0 := rfl
 unfold c93
 simp only [e7,e5,l86,l87,l98 hF hx,l99 hF,l155,Option.bind_some,hk0]
 generalize hs:suitB kd sk = su
 generalize hm:markE sk sv sr = me
 unfold selfE
 simp only [hs,hm]
 generalize outB le 120 = o1
 generalize outB mo 120 = o2
 generalize outB pl 160 = o3
 generalize outB pc 160 = o4
 generalize outB tm 8 = o5
 generalize kindB kd = kb
 generalize strEq ct k0 = c0
 generalize nameB ct = nb
 cases kb
 ·cases c0 <;> simp [firstNZ]
 ·by_cases hl:mo < le
  ·cases c0 <;> cases nb <;> cases o1 <;> cases o2 <;> simp [firstNZ,hl]
  ·have key:firstNZ [if o3 = true then 3 else 0,if o4 = true then 3 else 0,if o5 = true then 3 else 0,me,if (!su) = true then 13 else 0] = if (o3 || o4 || o5) = true then 3 else if me = 0 then (if su = true then 0 else 13) else me := by
    cases o3
    ·cases o4
     ·cases o5
      ·cases su <;> by_cases h:me = 0 <;> simp [firstNZ,h]
      ·simp [firstNZ]
     ·simp [firstNZ]
    ·simp [firstNZ]
   rw [key]
   generalize (if (o3 || o4 || o5) = true then (3:Int) else if me = 0 then (if su = true then 0 else 13) else me) = w
   cases c0 <;> cases nb <;> cases o1 <;> cases o2 <;> simp [firstNZ,hl]
theorem x154 {F:Nat} {l:List Cst} (hF:l.length < F) (hl:l.length ≤ 1000) (x:Cst):cx154_0 F (l,x) = some (idxI (fun y=>strEq y.1 x.1) l) := by
 unfold cx154_0
 refine bind_idx l _ hF ?_ ?_
 ·intro i y hi hy
  simp (disch := omega) only [cd_pos,gd_dec,Int.toNat_natCast,getD_some hy,w64_in]
  cases strEq y.1 x.1 <;> rfl
 ·simp (disch := omega) only [cd_neg]
theorem x154b {F:Nat} {l:List Cst} (hF:l.length < F) (hl:l.length ≤ 1000) (x:ByteArray):cx154_1 F (l,x) = some (idxI (fun y=>strEq y.1 x) l) := by
 unfold cx154_1
 refine bind_idx l _ hF ?_ ?_
 ·intro i y hi hy
  simp (disch := omega) only [cd_pos,gd_dec,Int.toNat_natCast,getD_some hy,w64_in]
  cases strEq y.1 x <;> rfl
 ·simp (disch := omega) only [cd_neg]
theorem l47 {F:Nat} {m:Mt} (hF:m.2.2.2.2.length < F) (hl:m.2.2.2.2.length ≤ 1000) (x:ByteArray):c47 F (m,x) = some (idxI (fun y=>strEq y.1 x) m.2.2.2.2) := by
 unfold c47
 refine bind_idx m.2.2.2.2 _ hF ?_ ?_
 ·intro i y hi hy
  simp (disch := omega) only [cd_pos,gd_dec,Int.toNat_natCast,getD_some hy,w64_in]
  cases strEq y.1 x <;> rfl
 ·simp (disch := omega) only [cd_neg]
theorem x90 {F:Nat} {l:List Cst} (hF:l.length < F) (hl:l.length ≤ 1000) (x:Cst):cx90_0 F (l,x) = some (l.any fun y=>strEq y.1 x.1) := by
 unfold cx90_0
 simp only [peta,x154 hF hl,Option.bind_some,idxI_any]
def dC:Cst := zCst
def conE (l:List Cst) (i:Nat):Int := if nameB (l.getD i dC).1 = true then (if ((l.take i).any fun y=>strEq y.1 (l.getD i dC).1) = true then 9 else selfE (l.getD i dC)) else 8
theorem x89 {F:Nat} (hF:400 ≤ F) {l:List Cst} (hl:l.length ≤ 300) {i:Nat} (hi:i < l.length) (hb:∀ x ∈ l,x.1.size ≤ 300 ∧ x.2.2.1.size ≤ 300) (a b c d:Int) :
  cx89_0 F ((i:Int),l.getD i dC,a,b,c,d,l) = some (conE l i) := by
 have hx:l.getD i dC ∈ l := by
  rw [List.getD_eq_getElem?_getD,List.getElem?_eq_getElem hi]
  exact List.getElem_mem hi
 obtain ⟨b1,b2⟩ := hb _ hx
 unfold cx89_0 conE
 have hi':(i:Int) ≤ l.length := by omega
 simp only [peta,Int.toNat_natCast,List.drop_zero,hi',Int.natCast_nonneg,decide_true,gd_true,x90 (F := F) (l := l.take i) (by simp; omega) (by simp; omega),l92 hF b1,l86,l93 hF _ b2,Option.bind_some]
 rw [l84' hF (by simp [nilT])]
 simp only [Option.bind_some,nilT,firstNZ]
 generalize nameB (l.getD i dC).1 = q1
 generalize ((l.take i).any fun y=>strEq y.1 (l.getD i dC).1) = q2
 generalize selfE (l.getD i dC) = w
 cases q1
 ·simp
 ·cases q2
  ·by_cases h:w = 0 <;> simp [h]
  ·simp
def mtE (m:Mt):Int :=
 if (dayB m.1 || dayB m.2.1 || dayB m.2.2.1) = true then 3 else if m.2.2.1 < m.2.1 ∨ m.1 < m.2.2.1 then 11 else if outB m.2.2.2.1 32 = true then 3 else if 32 < m.2.2.2.2.length then 5
 else firstNZ ((List.range m.2.2.2.2.length).map (conE m.2.2.2.2))
theorem x88 {F:Nat} (hF:400 ≤ F) {l:List Cst} (hl:l.length ≤ 300) (hb:∀ x ∈ l,x.1.size ≤ 300 ∧ x.2.2.1.size ≤ 300) (a b c d:Int) :
  cx88_0 F (l,a,b,c,d,l) = some (firstNZ ((List.range l.length).map (conE l))) := by
 unfold cx88_0
 refine bind_first (List.range l.length) (conE l) (by simp; omega) ?_ ?_ ?_
 ·intro i x hi hx
  obtain rfl := range_get hx
  simp only [List.length_range] at hi
  have hd:zCst = dC := rfl
  simp (disch := omega) only [cd_pos,gd_dec,Int.toNat_natCast,w64_in,hd,peta,x89 hF hl hi hb,Option.bind_some]
  by_cases h:conE l x = 0 <;> simp [h]
 ·simp (disch := omega) only [cd_neg,List.length_range]
 ·by_cases h:firstNZ ((List.range l.length).map (conE l)) = 0 <;> simp [h]
theorem l21 {F:Nat} (hF:400 ≤ F) {m:Mt} (hl:m.2.2.2.2.length ≤ 300) (hb:∀ x ∈ m.2.2.2.2,x.1.size ≤ 300 ∧ x.2.2.1.size ≤ 300):c21 F m = some (mtE m) := by
 obtain ⟨d,o,c,lim,l⟩ := m
 have e4:∀ a b c d,c84 F (a :: b :: c :: d :: nilT Int) = some (firstNZ [a,b,c,d]) := fun a b c d=>l84' hF (by simp [nilT])
 have e3:c85 F (d :: o :: c :: nilT Int) = some (if (dayB d || dayB o || dayB c) = true then 3 else 0) := by
  rw [l85 (by simp [nilT]; omega) (by simp [nilT])]
  simp [nilT,Bool.or_assoc]
 unfold c21
 simp only [e3,e4,l86,l87,x88 hF hl hb,Option.bind_some,peta]
 unfold mtE
 simp only []
 generalize firstNZ ((List.range l.length).map (conE l)) = w
 generalize (dayB d || dayB o || dayB c) = b1
 generalize outB lim 32 = b2
 by_cases h1:c < o
 ·cases b1 <;> simp [h1,firstNZ]
 ·by_cases h2:d < c
  ·cases b1 <;> simp [h1,h2,firstNZ]
  ·by_cases h3:32 < l.length
   ·have h3':(32:Int) < l.length := by omega
    cases b1 <;> cases b2 <;> simp [h1,h2,h3,h3',firstNZ]
   ·have h3':¬ (32:Int) < l.length := by omega
    cases b1 <;> cases b2 <;> simp [h1,h2,h3,h3',firstNZ]
theorem l95 {F:Nat} (hF:400 ≤ F) {m:Mt} (hl:m.2.2.2.2.length ≤ 300) {i:Nat} (hi:i < m.2.2.2.2.length):c95 F (m,(i:Int)) = some (conE m.2.2.2.2 i) := by
 obtain ⟨d,o,c,lim,l⟩ := m
 have hl:l.length ≤ 300 := hl
 have hi:i < l.length := hi
 have hd:zCst = dC := rfl
 have hk0:({ data := List.toArray (nilT UInt8) }:ByteArray) = k0 := rfl
 have hkT:({ data := List.toArray ((116:UInt8) :: (105:UInt8) :: (109:UInt8) :: (101:UInt8) :: nilT UInt8) }:ByteArray) = kT := rfl
 have hkL:({ data := List.toArray ((108:UInt8) :: (101:UInt8) :: (110:UInt8) :: (103:UInt8) :: (116:UInt8) :: (104:UInt8) :: nilT UInt8) }:ByteArray) = kL := rfl
 have hkP:({ data := List.toArray ((112:UInt8) :: (111:UInt8) :: (105:UInt8) :: (110:UInt8) :: (116:UInt8) :: (115:UInt8) :: nilT UInt8) }:ByteArray) = kP := rfl
 have hx:l[i]? = some (l.getD i dC) := by
  rw [List.getD_eq_getElem?_getD,List.getElem?_eq_getElem hi]
  rfl
 have hlt := idxI_lt (p := fun y:Cst=>strEq y.1 (l.getD i dC).1) hx (strEq_self _)
 unfold c95 conE
 simp (disch := omega) only [gd_dec,Int.toNat_natCast,hd,hk0,hkT,hkL,hkP,peta,l67 hF,l47 (F := F) (m := (d,o,c,lim,l)) (by show l.length < F; omega) (by show l.length ≤ 1000; omega),hlt,l94k,l156,l157,Option.bind_some]
 generalize l.getD i dC = x
 obtain ⟨nm,kd,ct,le,mo,pl,pc,sk,sv,sr,tm⟩ := x
 simp only []
 unfold selfE kindB
 simp only []
 generalize suitB kd sk = su
 generalize markE sk sv sr = me
 generalize outB le 120 = o1
 generalize outB mo 120 = o2
 generalize outB pl 160 = o3
 generalize outB pc 160 = o4
 generalize outB tm 8 = o5
 generalize strEq ct k0 = c0
 generalize nameB ct = nb
 generalize nameB nm = nn
 generalize ((l.take i).any fun y=>strEq y.1 nm) = tw
 generalize strEq kd kT = q1
 generalize strEq kd kL = q2
 generalize strEq kd kP = q3
 cases nn
 ·rfl
 ·cases tw
  ·cases q1 <;> cases q2 <;> cases q3 <;> (try rfl) <;>
   ·cases c0 <;> cases nb <;> (try rfl) <;>
    ·cases o1 <;> cases o2 <;> (try rfl) <;>
     ·by_cases h:mo < le
      ·simp [h]
      ·cases o3 <;> cases o4 <;> cases o5 <;> (try (simp [h]; done)) <;>
       ·by_cases h2:me = 0
        ·cases su <;> simp [h,h2]
        ·simp [h,h2]
  ·rfl
theorem l22 {F:Nat} (hF:400 ≤ F) {m:Mt} (hl:m.2.2.2.2.length ≤ 300):c22 F m = some (mtE m) := by
 unfold c22
 simp only [peta,l94k,Option.bind_some]
 simp only [← dayB_out]
 unfold mtE
 by_cases h0:32 < m.2.2.2.2.length
 ·have h0':(32:Int) < m.2.2.2.2.length := by omega
  simp only [h0,h0',decide_true,cond_true,if_true]
  cases dayB m.1 <;> cases dayB m.2.1 <;> cases dayB m.2.2.1 <;> cases outB m.2.2.2.1 32 <;> by_cases h1:m.2.2.1 < m.2.1 <;> by_cases h2:m.1 < m.2.2.1 <;> simp [h1,h2]
 ·have h0':¬ (32:Int) < m.2.2.2.2.length := by omega
  have hloop:(Option.bind (loopO (σ := Int) (β := Int ⊕ Unit) (fun (v33:Int)=>bif Decidable.decide (v33 < (↑(List.length m.2.2.2.2):Int)) then (Option.bind (c95 F (m,v33)) fun (v34:Int)=>bif !Decidable.decide (v34 = (0:Int)) then (some (Sum.inr (Sum.inl v34))) else (some (Sum.inl (Go.Sx.w64 (v33 + (1:Int)))))) else (some (Sum.inr (Sum.inr Unit.unit)))) F (0:Int)) fun (v30:Int ⊕ Unit)=>Sum.elim (fun (v31:Int)=>some v31) (fun (v32:Unit)=>some (0:Int)) v30) = some (firstNZ ((List.range m.2.2.2.2.length).map (conE m.2.2.2.2))) := by
   refine bind_first (List.range m.2.2.2.2.length) (conE m.2.2.2.2) (by simp; omega) ?_ ?_ ?_
   ·intro i x hi hx
    obtain rfl := range_get hx
    simp only [List.length_range] at hi
    simp (disch := omega) only [cd_pos,w64_in,l95 hF hl hi,Option.bind_some]
    by_cases h:conE m.2.2.2.2 x = 0 <;> simp [h]
   ·simp (disch := omega) only [cd_neg,List.length_range]
   ·by_cases h:firstNZ ((List.range m.2.2.2.2.length).map (conE m.2.2.2.2)) = 0 <;> simp [h]
  simp only [h0,h0',decide_false,cond_false,if_false,hloop]
  generalize firstNZ ((List.range m.2.2.2.2.length).map (conE m.2.2.2.2)) = w
  cases dayB m.1 <;> cases dayB m.2.1 <;> cases dayB m.2.2.1 <;> cases outB m.2.2.2.1 32 <;> by_cases h1:m.2.2.1 < m.2.1 <;> by_cases h2:m.1 < m.2.2.1 <;> simp [h1,h2]
end Go.Proofs.Tryz
