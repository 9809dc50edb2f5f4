/- Plain law: names and marks, in the program and in the reference. Plain law: runners, their checks and their copies. And further parts. -/
import Derived.Test.YtdghdcclhnoigaaGreatDoorXTryzN
import Derived.Test.YtdghdcclhnoigaaGreatDoorXSxQh
import Derived.Test.YtdghdcclhnoigaaGreatDoorXTryzA
import Derived.Test.YtdghdcclhnoigaaGreatDoorXTryzG
import Derived.Test.YtdghdcclhnoigaaGreatDoorXSxSu
set_option maxRecDepth 100000
set_option linter.unusedVariables false
set_option linter.unusedSimpArgs false
set_option linter.all false
namespace Go.Proofs.Tryz
open Go Go.Sx
def okB (i:Nat) (b:Int):Bool := (decide (97 ≤ b) && decide (b ≤ 122)) || (decide (65 ≤ b) && decide (b ≤ 90)) || (!decide (i = 0) && (decide (b = 95) || (decide (48 ≤ b) && decide (b ≤ 57))))
def okAll (s:ByteArray):Bool := (List.range s.size).all fun i=>okB i ((s.get! i).toNat:Int)
def nameB (s:ByteArray):Bool := decide (1 ≤ s.size ∧ s.size ≤ 24) && okAll s
theorem okB_cases (i:Nat) (b:Int):okB i b = ((decide (97 ≤ b) && decide (b ≤ 122)) || (decide (65 ≤ b) && decide (b ≤ 90)) || (!decide ((i:Int) = 0) && (decide (b = 95) || (decide (48 ≤ b) && decide (b ≤ 57))))) := by
 simp [okB]
theorem range_get {n i x:Nat} (h:(List.range n)[i]? = some x):x = i := by
 by_cases hi:i < n
 ·rw [List.getElem?_range hi] at h
  exact (Option.some.inj h).symm
 ·rw [List.getElem?_eq_none (by simp; omega)] at h
  cases h
theorem l72 {F:Nat} (hF:400 ≤ F) {s:ByteArray}:c72 F s = some (nameB s) := by
 unfold c72 nameB
 by_cases h:1 ≤ s.size ∧ s.size ≤ 24
 ·have e:(bif decide ((s.size:Int) < 1) then some true else some (decide ((24:Int) < s.size))) = some false := by
   have h1:¬ (s.size:Int) < 1 := by omega
   have h2:¬ (24:Int) < s.size := by omega
   simp [h1,h2]
  rw [e]
  simp only [Option.bind_some,cond_false,h,and_self,decide_true,Bool.true_and]
  refine bind_list (List.range s.size) (fun (_:Unit) i=>(i:Int)) (fun x _=>if (!okB x ((s.get! x).toNat:Int)) = true then .inr (.inl false) else .inl ()) (fun _=>.inr ()) (fun _ _=>True) () (by simp; omega) rfl trivial ?_ ?_ ?_
  ·intro i x _ hi hx _
   obtain rfl := range_get hx
   simp only [List.length_range] at hi
   refine ⟨?_,fun _ _=>trivial⟩
   simp (disch := omega) only [cd_pos,gd_dec,Int.toNat_natCast,w64_in,byteI]
   rw [okB_cases]
   cases decide ((97:Int) ≤ ((s.get! x).toNat:Int)) <;> cases decide (((s.get! x).toNat:Int) ≤ 122) <;> cases decide ((65:Int) ≤ ((s.get! x).toNat:Int)) <;> cases decide (((s.get! x).toNat:Int) ≤ 90) <;>
    cases decide ((x:Int) = 0) <;> cases decide (((s.get! x).toNat:Int) = 95) <;> cases decide ((48:Int) ≤ ((s.get! x).toNat:Int)) <;> cases decide (((s.get! x).toNat:Int) ≤ 57) <;> rfl
  ·intro _ _
   simp (disch := omega) only [cd_neg,List.length_range]
  ·rw [goL_any (fun x=>!okB x ((s.get! x).toNat:Int))]
   unfold okAll
   rw [List.all_eq_not_any_not]
   cases (List.range s.size).any fun x=>!okB x ((s.get! x).toNat:Int) <;> simp
 ·have e:(bif decide ((s.size:Int) < 1) then some true else some (decide ((24:Int) < s.size))) = some true := by
   by_cases h1:(s.size:Int) < 1
   ·simp [h1]
   ·have h2:(24:Int) < s.size := by omega
    simp [h1,h2]
  rw [e]
  simp [h]
theorem l77 {F:Nat} (hF:400 ≤ F) {s:ByteArray} (hs:s.size ≤ 300):c77 F s = some (nameB s) := by
 unfold c77
 refine ex_eq (bind_sim (List.range s.size) (fun x (_:Unit)=>if (!okB x ((s.get! x).toNat:Int)) = true then .inr (.inl false) else .inl ()) (fun _=>(.inr ():Bool ⊕ Unit)) (fun i _ t=>t = (s,i))
  (fun (a:Bool ⊕ Unit) (b:(ByteArray × Nat) × Bool ⊕ ByteArray × Nat)=>a = b.elim (fun v=>.inl v.2) (fun _=>.inr ())) () (by simp; omega) rfl ?_ ?_ ?_)
 ·intro i x _ t hi hx ht
  obtain rfl := range_get hx
  subst ht
  simp only [List.length_range] at hi
  simp (disch := omega) only [cd_pos]
  rw [okB_cases]
  by_cases hb:(s.get! x).toNat < 128
  ·rw [dec_lo hb]
   simp only []
   by_cases h1:(97:Int) ≤ ((s.get! x).toNat:Int) <;> by_cases h2:((s.get! x).toNat:Int) ≤ 122 <;> by_cases h3:(65:Int) ≤ ((s.get! x).toNat:Int) <;> by_cases h4:((s.get! x).toNat:Int) ≤ 90 <;>
    by_cases h5:(x:Int) = 0 <;> by_cases h6:((s.get! x).toNat:Int) = 95 <;> by_cases h7:((s.get! x).toNat:Int) < 48 <;> by_cases h8:(57:Int) < ((s.get! x).toNat:Int) <;>
    simp only [h1,h2,h3,h4,h5,h6,h7,h8,Int.not_lt.symm,decide_true,decide_false,cond_true,cond_false,Bool.not_true,Bool.not_false,Bool.and_true,Bool.and_false,Bool.true_and,Bool.false_and,Bool.or_true,Bool.or_false,Bool.true_or,Bool.false_or] <;>
    exact ⟨_,rfl,rfl⟩
  ·have h2 := dec_hi hb
   have a1:(97:Int) ≤ ((Go.Utf8.decode s x).1:Int) := by omega
   have a2:¬ ((Go.Utf8.decode s x).1:Int) ≤ 122 := by omega
   have a3:(65:Int) ≤ ((Go.Utf8.decode s x).1:Int) := by omega
   have a4:¬ ((Go.Utf8.decode s x).1:Int) ≤ 90 := by omega
   have a5:¬ ((Go.Utf8.decode s x).1:Int) = 95 := by omega
   have a6:¬ ((Go.Utf8.decode s x).1:Int) < 48 := by omega
   have a7:(57:Int) < ((Go.Utf8.decode s x).1:Int) := by omega
   have b2:¬ ((s.get! x).toNat:Int) ≤ 122 := by omega
   have b4:¬ ((s.get! x).toNat:Int) ≤ 90 := by omega
   have b5:¬ ((s.get! x).toNat:Int) = 95 := by omega
   have b6:¬ ((s.get! x).toNat:Int) ≤ 57 := by omega
   simp only [a1,a2,a3,a4,a5,a6,a7,b2,b4,b5,b6,decide_true,decide_false,cond_true,cond_false,Bool.not_true,Bool.not_false,Bool.and_true,Bool.and_false,Bool.or_false]
   by_cases h5:(x:Int) = 0 <;> simp only [h5,decide_true,decide_false,cond_true,cond_false,Bool.not_true,Bool.not_false,Bool.and_true,Bool.and_false,if_true] <;> exact ⟨_,rfl,rfl⟩
 ·intro _ t ht
  subst ht
  simp (disch := omega) only [cd_neg,List.length_range]
  exact ⟨_,rfl,rfl⟩
 ·intro b hb
  rw [goL_any (fun x=>!okB x ((s.get! x).toNat:Int))] at hb
  have e:(bif decide (0 < (s.size:Int)) then some (decide ((s.size:Int) ≤ 24)) else some false) = some (decide (1 ≤ s.size ∧ s.size ≤ 24)) := by
   by_cases h1:0 < (s.size:Int)
   ·have h2:1 ≤ s.size := by omega
    by_cases h3:s.size ≤ 24
    ·have:(s.size:Int) ≤ 24 := by omega
     simp only [h1,h2,h3,this,decide_true,cond_true,and_self]
    ·have:¬ (s.size:Int) ≤ 24 := by omega
     simp only [h1,h2,h3,this,decide_true,cond_true,and_false]
   ·have h2:¬ 1 ≤ s.size := by omega
    simp only [h1,h2,decide_false,cond_false,false_and]
  unfold nameB okAll
  rw [List.all_eq_not_any_not]
  cases hany:(List.range s.size).any fun x=>!okB x ((s.get! x).toNat:Int) with
  | true =>
   rw [hany] at hb
   cases b with
   | inl v=>simp only [if_true,Sum.elim_inl,Sum.inl.injEq] at hb; exact ⟨_,rfl,by rw [← hb]; simp⟩
   | inr v=>simp at hb
  | false =>
   rw [hany] at hb
   cases b with
   | inl v=>simp at hb
   | inr v=>exact ⟨_,by simp only [Sum.elim_inr,e]; rfl,by simp⟩
theorem l128 {F:Nat} (hF:400 ≤ F) {l:List ByteArray} {x:ByteArray} (hl:l.length ≤ 300):∃ v,c128 F (l,x) = some v ∧ decide (0 ≤ v) = l.any fun y=>strEq x y := by
 unfold c128
 refine bind_sim l (fun y (_:Unit)=>if strEq x y = true then .inr true else .inl ()) (fun _=>false) (fun i _ t=>t = (i:Int)) (fun (a:Bool) (b:Int ⊕ Unit)=>decide (0 ≤ b.elim (fun v=>v) (fun _=>-1)) = a) () (by omega) rfl ?_ ?_ ?_
 ·intro i y _ t hi hy ht
  subst ht
  simp (disch := omega) only [cd_pos,gd_dec,Int.toNat_natCast,getD_some hy,w64_in]
  cases strEq x y with
  | true=>exact ⟨_,rfl,by simp [RelS]⟩
  | false=>exact ⟨_,rfl,by simp [RelS]⟩
 ·intro _ t ht
  subst ht
  simp (disch := omega) only [cd_neg]
  exact ⟨_,rfl,by simp⟩
 ·intro b hb
  rw [goL_any] at hb
  refine ⟨b.elim (fun v=>v) (fun _=>-1),by cases b <;> rfl,?_⟩
  rw [hb]
  cases l.any fun y=>strEq x y <;> rfl
def reasonB (r:ByteArray):Bool := strEq r { data := List.toArray ((68:UInt8) :: (78:UInt8) :: (83:UInt8) :: nilT UInt8) } || (strEq r { data := List.toArray ((68:UInt8) :: (78:UInt8) :: (70:UInt8) :: nilT UInt8) } || (strEq r { data := List.toArray ((68:UInt8) :: (81:UInt8) :: nilT UInt8) } || strEq r { data := List.toArray ((78:UInt8) :: (77:UInt8) :: nilT UInt8) }))
theorem l98 (F:Nat) (r:ByteArray):c98 F r = some (reasonB r) := by
 unfold c98 reasonB
 cases strEq r { data := List.toArray ((68:UInt8) :: (78:UInt8) :: (83:UInt8) :: nilT UInt8) } <;> cases strEq r { data := List.toArray ((68:UInt8) :: (78:UInt8) :: (70:UInt8) :: nilT UInt8) } <;>
  cases strEq r { data := List.toArray ((68:UInt8) :: (81:UInt8) :: nilT UInt8) } <;> cases strEq r { data := List.toArray ((78:UInt8) :: (77:UInt8) :: nilT UInt8) } <;> rfl
theorem l103 {F:Nat} (hF:400 ≤ F) (r:ByteArray):c103 F r = some (reasonB r) := by
 unfold c103 c118
 obtain ⟨v,h1,h2⟩ := l128 hF (l := { data := List.toArray ((68:UInt8) :: (78:UInt8) :: (83:UInt8) :: nilT UInt8) } :: { data := List.toArray ((68:UInt8) :: (78:UInt8) :: (70:UInt8) :: nilT UInt8) } :: { data := List.toArray ((68:UInt8) :: (81:UInt8) :: nilT UInt8) } :: { data := List.toArray ((78:UInt8) :: (77:UInt8) :: nilT UInt8) } :: nilT ByteArray) (x := r) (by simp [nilT])
 simp only [h1,Option.bind_some,h2]
 simp [nilT,reasonB]
theorem l101 {F:Nat} {l:List Int} (hF:l.length < F) (hl:l.length ≤ 1000):c101 F l = some (firstNZ l) := l75 hF hl
theorem l102 (F:Nat) (b:Bool) (e:Int):c102 F (b,e) = some (if b then e else 0) := by
 unfold c102
 cases b <;> rfl
theorem l105 (F:Nat) (n lo hi:Int):c105 F (n,lo,hi) = some (decide (n < lo ∨ hi < n)) := by
 unfold c105
 by_cases h:n < lo <;> by_cases k:hi < n <;> simp [h,k]
def kT:ByteArray := { data := List.toArray ((116:UInt8) :: (105:UInt8) :: (109:UInt8) :: (101:UInt8) :: nilT UInt8) }
def kN:ByteArray := { data := List.toArray ((110:UInt8) :: (111:UInt8) :: (110:UInt8) :: (101:UInt8) :: nilT UInt8) }
def kL:ByteArray := { data := List.toArray ((108:UInt8) :: (101:UInt8) :: (110:UInt8) :: (103:UInt8) :: (116:UInt8) :: (104:UInt8) :: nilT UInt8) }
def kP:ByteArray := { data := List.toArray ((112:UInt8) :: (111:UInt8) :: (105:UInt8) :: (110:UInt8) :: (116:UInt8) :: (115:UInt8) :: nilT UInt8) }
def k0:ByteArray := { data := List.toArray (nilT UInt8) }
def markE (k:ByteArray) (v:Int) (r:ByteArray):Int :=
 if strEq k kN = true then (if reasonB r = false then 1 else if v ≠ 0 then 3 else 0)
 else if strEq k kT = true then (if strEq r k0 = false then 1 else if v < 1 ∨ 863999999 < v then 3 else 0)
 else if strEq k kL = true then (if strEq r k0 = false then 1 else if v < 0 ∨ 999999 < v then 3 else 0)
 else if strEq k kP = true then (if strEq r k0 = false then 1 else if v < 0 ∨ 99999 < v then 3 else 0)
 else 13
theorem l73 (F:Nat) (k:ByteArray) (v:Int) (r:ByteArray):c73 F (k,v,r) = some (markE k v r) := by
 unfold c73 c99 c100 markE
 simp only [l98,Option.bind_some]
 change (bif strEq k kN then _ else _) = _
 cases hN:strEq k kN with
 | true =>
  cases reasonB r
  ·simp
  ·by_cases h:v = 0 <;> simp [h]
 | false =>
  change Option.bind (bif strEq k kT then some (strEq k kT) else (Option.bind (bif strEq k kL then some (strEq k kL) else some (strEq k kP)) fun (v23:Bool)=>some v23)) (fun v19=>bif v19 then (bif !strEq r k0 then some 1 else (Option.bind (Option.bind (bif strEq k kT then some 1 else some 0) fun v21=>bif decide (v < v21) then some true else (Option.bind (bif strEq k kT then some 863999999 else (bif strEq k kL then some 999999 else some 99999)) fun (v22:Int)=>some (decide (v22 < v)))) fun v20=>bif v20 then some 3 else some 0)) else some 13) = _
  have key:∀ lo hi:Int,(Option.bind (bif decide (v < lo) then some true else some (decide (hi < v))) fun v20=>bif v20 then some (3:Int) else some 0) = some (if v < lo ∨ hi < v then 3 else 0) := by
   intro lo hi
   by_cases h:v < lo <;> by_cases h':hi < v <;> simp [h,h']
  cases hT:strEq k kT <;> cases hL:strEq k kL <;> cases hP:strEq k kP <;> cases h0:strEq r k0 <;> simp only [cond_true,cond_false,Option.bind_some,Bool.not_true,Bool.not_false,key] <;> simp
theorem l78 {F:Nat} (hF:400 ≤ F) (k:ByteArray) (v:Int) (r:ByteArray):c78 F (k,v,r) = some (markE k v r) := by
 unfold c78
 simp only [l103 hF,l102,l105,Option.bind_some]
 rw [l101 (l := (if (!reasonB r) = true then 1 else 0) :: (if (!decide (v = 0)) = true then 3 else 0) :: nilT Int) (by simp [nilT]; omega) (by simp [nilT])]
 have q:∀ (a b c:Int),c101 F (a :: b :: c :: nilT Int) = some (if a ≠ 0 then a else if b ≠ 0 then b else c) := by
  intro a b c
  rw [l101 (by simp [nilT]; omega) (by simp [nilT])]
  by_cases ha:a = 0 <;> by_cases hb:b = 0 <;> by_cases hc:c = 0 <;> simp [firstNZ,nilT,ha,hb,hc]
 simp only [q]
 change (bif strEq k kN then _ else Option.bind (bif strEq k kT then _ else (bif strEq k kL then _ else (bif strEq k kP then _ else _))) _) = _
 unfold markE
 cases hN:strEq k kN with
 | true =>
  simp only [cond_true,if_true]
  cases reasonB r <;> by_cases h:v = 0 <;> simp [h,firstNZ,nilT]
 | false =>
  simp only [cond_false,Bool.false_eq_true,if_false]
  have g:∀ x:Int,gd (AEls.eqv (ATy.val (Ty.int Go.IntKind.i64) :: nilT ATy) x x) (some x) = some x := by
   intro x
   have:AEls.eqv (ATy.val (Ty.int Go.IntKind.i64) :: nilT ATy) x x = true := by
    change intEq x x = true
    simp [intEq]
   rw [this]; rfl
  have e0:strEq r { data := List.toArray (nilT UInt8) } = strEq r k0 := rfl
  have eT:strEq k { data := List.toArray ((116:UInt8) :: (105:UInt8) :: (109:UInt8) :: (101:UInt8) :: nilT UInt8) } = strEq k kT := rfl
  have eL:strEq k { data := List.toArray ((108:UInt8) :: (101:UInt8) :: (110:UInt8) :: (103:UInt8) :: (116:UInt8) :: (104:UInt8) :: nilT UInt8) } = strEq k kL := rfl
  have eP:strEq k { data := List.toArray ((112:UInt8) :: (111:UInt8) :: (105:UInt8) :: (110:UInt8) :: (116:UInt8) :: (115:UInt8) :: nilT UInt8) } = strEq k kP := rfl
  simp only [e0,eT,eL,eP]
  cases hT:strEq k kT <;> cases hL:strEq k kL <;> cases hP:strEq k kP <;> cases h0:strEq r k0 <;> simp only [cond_true,cond_false,Option.bind_some,g] <;> simp
abbrev Run := TRun
def ShortR (l:List (List Run)):Prop := l.length ≤ 18 ∧ ∀ x ∈ l,x.length ≤ 162 ∧ (x.length ≤ 12 ∨ 160 < x.length) ∧ ∀ r ∈ x,r.1.size ≤ 40 ∧ r.2.1.size ≤ 20 ∧ r.2.2.2.size ≤ 20
theorem x74 {F:Nat} (hF:400 ≤ F) {s:ByteArray} (hs:s.size ≤ 300) (m:List (ByteArray × Bool)):cx74_0 F (s,m) = some (if nameB s = false then (8,m) else if mgetD strEq s m false = true then (9,m) else (0,mput strEq s true m)) := by
 unfold cx74_0
 have q:∀ (a b:Int),c75 F (a :: b :: nilT Int) = some (if a ≠ 0 then a else b) := by
  intro a b
  rw [l75 (by simp [nilT]; omega) (by simp [nilT])]
  by_cases ha:a = 0 <;> by_cases hb:b = 0 <;> simp [firstNZ,nilT,ha,hb]
 simp only [l77 hF hs,l76,q,Option.bind_some]
 cases nameB s <;> cases mgetD strEq s m false <;> simp
def seenB (a:ByteArray) (s:List ByteArray):Bool := s.any fun y=>strEq y a
def SeenS (s:List ByteArray) (m:List (ByteArray × Bool)):Prop := ∀ k:ByteArray,mgetD strEq k m false = seenB k s
theorem SeenS.put {s:List ByteArray} {m:List (ByteArray × Bool)} (h:SeenS s m) (x:ByteArray):SeenS (s ++ [x]) (mput strEq x true m) := by
 intro k
 rw [mgetD_mput strEq_iff,h k]
 unfold seenB
 rw [List.any_append]
 by_cases e:k = x
 ·subst e; simp [strEq_self]
 ·have:x ≠ k := fun h=>e h.symm
  simp [strEq_false e,strEq_false this]
theorem x123 (F:Nat) (a):cx123_0 F a = gStab (cx107_0 F) (0:Int) F a := by kernel_rfl
def ids (n:Nat):List Int := (List.range n).map fun (i:Nat)=>(i:Int)
theorem ids_length (n:Nat):(ids n).length = n := by simp [ids]
theorem mem_ids {n:Nat} {x:Int}:x ∈ ids n ↔ 0 ≤ x ∧ x < n := by
 simp only [ids,List.mem_map,List.mem_range]
 exact ⟨fun ⟨a,h,e⟩=>by omega,fun ⟨h,k⟩=>⟨x.toNat,by omega,by omega⟩⟩
theorem set_ids {n i:Nat} (h:i < n):(ids i ++ List.replicate (n - i) (0:Int)).set i (i:Int) = ids (i + 1) ++ List.replicate (n - (i + 1)) 0 := by
 rw [show n - i = (n - (i + 1)) + 1 by omega,List.replicate_succ,List.set_append_right _ _ (by rw [ids_length]; omega)]
 simp [ids,List.range_succ]
def drawB (_:Unit) (s:List Int × Int × Int):(List Int × Int × Int) ⊕ List Int :=
 .inl ((s.1.set s.2.2.toNat (s.1.getD (Int.tmod (Int.tmod (69621 * s.2.1) 2147483647) (s.2.2 + 1)).toNat 0)).set (Int.tmod (Int.tmod (69621 * s.2.1) 2147483647) (s.2.2 + 1)).toNat (s.1.getD s.2.2.toNat 0),
  Int.tmod (69621 * s.2.1) 2147483647,s.2.2 - 1)
def drawS (key:Int) (n:Nat):List Int := goL drawB (fun s=>s.1) (List.replicate (n - 1) ()) (ids n,key,(n:Int) - 1)
def DrawI (n i:Nat) (s:List Int × Int × Int):Prop := s.1.length = n ∧ 0 ≤ s.2.1 ∧ s.2.1 < 2147483647 ∧ s.2.2 = (n:Int) - 1 - i
theorem drawB_inv {n i:Nat} {s s':List Int × Int × Int} (hi:i < n - 1) (h:DrawI n i s) (hs:drawB () s = .inl s'):DrawI n (i + 1) s' := by
 obtain ⟨h1,h2,h3,h4⟩ := h
 cases hs
 refine ⟨by simp [h1],Int.tmod_nonneg _ (by omega),Int.tmod_lt_of_pos _ (by omega),by simp only; omega⟩
theorem drawS_perm {key:Int} (h1:0 ≤ key) (h2:key < 2147483647) (n:Nat):(drawS key n).Perm (ids n) := by
 have := goL_inv drawB (fun s=>s.1) (List.replicate (n - 1) ()) (fun i s=>DrawI n i s ∧ s.1.Perm (ids n)) (fun b=>b.Perm (ids n))
  (fun i x s hi hx ⟨hI,hp⟩=>by
   simp only [List.length_replicate] at hi
   refine ⟨fun s' hs=>⟨drawB_inv hi hI hs,?_⟩,fun b hb=>by cases hb⟩
   obtain ⟨h1,h2,h3,h4⟩ := hI
   cases hs
   have k1:0 ≤ Int.tmod (69621 * s.2.1) 2147483647 := Int.tmod_nonneg _ (by omega)
   have m1:0 ≤ Int.tmod (Int.tmod (69621 * s.2.1) 2147483647) (s.2.2 + 1) := Int.tmod_nonneg _ k1
   have m2:Int.tmod (Int.tmod (69621 * s.2.1) 2147483647) (s.2.2 + 1) < s.2.2 + 1 := Int.tmod_lt_of_pos _ (by omega)
   simp only
   generalize Int.tmod (Int.tmod (69621 * s.2.1) 2147483647) (s.2.2 + 1) = q at m1 m2
   have a1:s.2.2.toNat < s.1.length := by omega
   have a2:q.toNat < s.1.length := by omega
   have e1:s.1.getD s.2.2.toNat 0 = s.1[s.2.2.toNat] := by simp [List.getD,List.getElem?_eq_getElem a1]
   have e2:s.1.getD q.toNat 0 = s.1[q.toNat] := by simp [List.getD,List.getElem?_eq_getElem a2]
   rw [e1,e2]
   exact (List.set_set_perm a1 a2).trans hp)
  (fun s ⟨_,hp⟩=>hp) (n - 1) 0 (ids n,key,(n:Int) - 1) (by simp) (by simp) ⟨⟨ids_length n,h1,h2,by simp⟩,.refl _⟩
 exact this
theorem l59 {F:Nat} (hF:400 ≤ F) {key:Int} {n:Nat} (h1:1 ≤ key) (h2:key < 2147483647) (hn:n ≤ 256):c59 F (key,(n:Int)) = some (drawS key n) := by
 have hlen:(drawS key n).length = n := by rw [(drawS_perm (by omega) h2 n).length_eq,ids_length]
 unfold c59
 simp (disch := omega) only [gd_dec,Int.toNat_natCast]
 refine bind_list (List.replicate n ()) (fun (_:Unit) i=>(ids i ++ List.replicate (n - i) (0:Int),(i:Int))) (fun _ _=>.inl ()) (fun _=>ids n) (fun _ _=>True) () (by simp; omega) (by simp [ids]) trivial ?_ ?_ ?_
 ·intro i x s hi hx _
  simp only [List.length_replicate] at hi
  have hl:(ids i ++ List.replicate (n - i) (0:Int)).length = n := by simp [ids_length]; omega
  refine ⟨?_,fun _ _=>trivial⟩
  simp (disch := omega) only [cd_pos,gd_dec,Nat.zero_add,Int.toNat_natCast,hl,set_ids hi,w64_in]
  simp
 ·intro s _
  simp (disch := omega) only [List.length_replicate,cd_neg]
  simp
 ·rw [goL_unit]
  refine bind_list (List.replicate (n - 1) ()) (fun s _=>s) drawB (fun s=>s.1) (DrawI n) (ids n,key,(n:Int) - 1) (by simp; omega) ?_ ⟨ids_length n,by simp only; omega,h2,by simp⟩ ?_ ?_ ?_
  ·rw [w64_in (by omega) (by omega)]
  ·intro i x s hi hx hI
   simp only [List.length_replicate] at hi
   refine ⟨?_,fun s' hs=>drawB_inv hi hI hs⟩
   obtain ⟨out,key,j⟩ := s
   obtain ⟨h1,h2,h3,h4⟩ := hI
   simp only at h1 h2 h3 h4
   have k1:0 ≤ Int.tmod (69621 * key) 2147483647 := Int.tmod_nonneg _ (by omega)
   have m1:0 ≤ Int.tmod (Int.tmod (69621 * key) 2147483647) (j + 1) := Int.tmod_nonneg _ k1
   have m2:Int.tmod (Int.tmod (69621 * key) 2147483647) (j + 1) < j + 1 := Int.tmod_lt_of_pos _ (by omega)
   simp only [drawB]
   simp (disch := omega) only [w64_in,cd_pos]
   generalize Int.tmod (Int.tmod (69621 * key) 2147483647) (j + 1) = q at m1 m2
   simp (disch := omega) only [gd_dec,Nat.zero_add,List.length_set]
  ·intro s ⟨h1,h2,h3,h4⟩
   simp only [List.length_replicate] at h4
   simp (disch := omega) only [cd_neg]
  ·change gd (decide (0 + n ≤ (drawS key n).length)) (some (List.take n (List.drop 0 (drawS key n)))) = _
   rw [hlen,gd_dec (by omega),List.drop_zero,List.take_of_length_le (by omega)]
end Go.Proofs.Tryz
section
namespace Go.Proofs.Tryz
open Go Go.Sx
end Go.Proofs.Tryz
end
namespace Go.Proofs.Tryz
open Go Go.Sx
noncomputable def s55 (F:Nat) (a:Int × Int × List (Int × Int × Int)):List Int × Int × Int → Option ((List Int × Int × Int) ⊕ (List Int × List Int × Int ⊕ List Int)) := (fun (v63:List Int × Int × Int)=>bif Decidable.decide (Prod.snd (Prod.snd v63) < (↑(List.length (Prod.snd (Prod.snd a))):Int)) then (gd (Decidable.decide ((0:Int) ≤ Prod.snd (Prod.snd v63))) (gd (Decidable.decide (Prod.snd (Prod.snd v63) < (↑(List.length (Prod.snd (Prod.snd a))):Int))) (gd (Decidable.decide (Int.toNat (Prod.snd (Prod.snd v63)) < List.length (Prod.snd (Prod.snd a)))) (Option.bind (Go.Proofs.Tryz.c80 F (Prod.fst (List.getD (Prod.snd (Prod.snd a)) (Int.toNat (Prod.snd (Prod.snd v63))) ((0:Int),(0:Int),(0:Int))))) fun (v64:Int)=>Option.bind (Go.Proofs.Tryz.c83 F (Prod.fst (Prod.snd (List.getD (Prod.snd (Prod.snd a)) (Int.toNat (Prod.snd (Prod.snd v63))) ((0:Int),(0:Int),(0:Int)))),(0:Int),(10:Int))) fun (v65:Int)=>Option.bind (Go.Proofs.Tryz.c83 F (Prod.snd (Prod.snd (List.getD (Prod.snd (Prod.snd a)) (Int.toNat (Prod.snd (Prod.snd v63))) ((0:Int),(0:Int),(0:Int)))),(0:Int),(160:Int))) fun (v66:Int)=>Option.bind (Go.Proofs.Tryz.c76 F (Decidable.decide (Go.Sx.w64 (Prod.fst (List.getD (Prod.snd (Prod.snd a)) (Int.toNat (Prod.snd (Prod.snd v63))) ((0:Int),(0:Int),(0:Int))) * Prod.fst (Prod.snd a)) < Prod.fst (Prod.snd v63)),(17:Int))) fun (v67:Int)=>Option.bind (Go.Proofs.Tryz.c75 F (v64 :: v65 :: v66 :: v67 :: Go.Sx.nilT Int)) fun (v68:Int)=>bif !Decidable.decide (v68 = (0:Int)) then (some (Sum.inr (Sum.inl (Prod.fst v63,Go.Sx.nilT Int,v68)))) else (Option.bind (bif Decidable.decide (Prod.fst (Prod.snd v63) < Go.Sx.w64 (Go.Sx.w64 (Prod.fst (List.getD (Prod.snd (Prod.snd a)) (Int.toNat (Prod.snd (Prod.snd v63))) ((0:Int),(0:Int),(0:Int))) * Prod.fst (Prod.snd (List.getD (Prod.snd (Prod.snd a)) (Int.toNat (Prod.snd (Prod.snd v63))) ((0:Int),(0:Int),(0:Int))))) + Prod.snd (Prod.snd (List.getD (Prod.snd (Prod.snd a)) (Int.toNat (Prod.snd (Prod.snd v63))) ((0:Int),(0:Int),(0:Int)))))) then (some (Bool.true)) else (gd (Decidable.decide (Prod.fst (List.getD (Prod.snd (Prod.snd a)) (Int.toNat (Prod.snd (Prod.snd v63))) ((0:Int),(0:Int),(0:Int))) ≠ (0:Int))) (some (Decidable.decide (Go.Sx.w64 (Int.tdiv (Prod.fst (Prod.snd v63)) (Prod.fst (List.getD (Prod.snd (Prod.snd a)) (Int.toNat (Prod.snd (Prod.snd v63))) ((0:Int),(0:Int),(0:Int))))) < Prod.fst (Prod.snd (List.getD (Prod.snd (Prod.snd a)) (Int.toNat (Prod.snd (Prod.snd v63))) ((0:Int),(0:Int),(0:Int))))))))) fun (v69:Bool)=>Option.bind (bif !Decidable.decide (Prod.snd (Prod.snd v63) = Go.Sx.w64 ((↑(List.length (Prod.snd (Prod.snd a))):Int) - (1:Int))) then (Option.bind (Go.Proofs.Tryz.c76 F (v69,(23:Int))) fun (v72:Int)=>bif Decidable.decide (Prod.snd (Prod.snd v63) = Go.Sx.w64 ((↑(List.length (Prod.snd (Prod.snd a))):Int) - (1:Int))) then (Option.bind (Go.Proofs.Tryz.c76 F (!(Decidable.decide (Prod.fst (List.getD (Prod.snd (Prod.snd a)) (Int.toNat (Prod.snd (Prod.snd v63))) ((0:Int),(0:Int),(0:Int))) = (1:Int)) && (Decidable.decide (Prod.fst (Prod.snd (List.getD (Prod.snd (Prod.snd a)) (Int.toNat (Prod.snd (Prod.snd v63))) ((0:Int),(0:Int),(0:Int)))) = (0:Int)) && (Decidable.decide (Prod.snd (Prod.snd (List.getD (Prod.snd (Prod.snd a)) (Int.toNat (Prod.snd (Prod.snd v63))) ((0:Int),(0:Int),(0:Int)))) = (0:Int)) && Bool.true))),(1:Int))) fun (v73:Int)=>Option.bind (Go.Proofs.Tryz.c75 F (v72 :: v73 :: Go.Sx.nilT Int)) fun (v74:Int)=>some (v74)) else (Option.bind (Go.Proofs.Tryz.c75 F (v72 :: (0:Int) :: Go.Sx.nilT Int)) fun (v75:Int)=>some (v75))) else (bif Decidable.decide (Prod.snd (Prod.snd v63) = Go.Sx.w64 ((↑(List.length (Prod.snd (Prod.snd a))):Int) - (1:Int))) then (Option.bind (Go.Proofs.Tryz.c76 F (!(Decidable.decide (Prod.fst (List.getD (Prod.snd (Prod.snd a)) (Int.toNat (Prod.snd (Prod.snd v63))) ((0:Int),(0:Int),(0:Int))) = (1:Int)) && (Decidable.decide (Prod.fst (Prod.snd (List.getD (Prod.snd (Prod.snd a)) (Int.toNat (Prod.snd (Prod.snd v63))) ((0:Int),(0:Int),(0:Int)))) = (0:Int)) && (Decidable.decide (Prod.snd (Prod.snd (List.getD (Prod.snd (Prod.snd a)) (Int.toNat (Prod.snd (Prod.snd v63))) ((0:Int),(0:Int),(0:Int)))) = (0:Int)) && Bool.true))),(1:Int))) fun (v76:Int)=>Option.bind (Go.Proofs.Tryz.c75 F ((0:Int) :: v76 :: Go.Sx.nilT Int)) fun (v77:Int)=>some (v77)) else (Option.bind (Go.Proofs.Tryz.c75 F ((0:Int) :: (0:Int) :: Go.Sx.nilT Int)) fun (v78:Int)=>some (v78)))) fun (v70:Int)=>bif !Decidable.decide (v70 = (0:Int)) then (some (Sum.inr (Sum.inl (Prod.fst v63,Go.Sx.nilT Int,v70)))) else (gd (Decidable.decide (List.length (Prod.fst v63) = List.length (Prod.fst v63))) (gd (Decidable.decide (List.length (Prod.fst v63 ++ Prod.fst (Prod.snd v63) :: Go.Sx.nilT Int) * (8:Nat) ≤ (140737488355328:Nat))) (gd (Decidable.decide (List.length (Prod.fst v63 ++ Prod.fst (Prod.snd v63) :: Go.Sx.nilT Int) ≤ (9223372036854775807:Nat))) (Option.bind (gd (Decidable.decide (List.length (Prod.fst v63 ++ Prod.fst (Prod.snd v63) :: Go.Sx.nilT Int) = List.length (Prod.fst v63 ++ Prod.fst (Prod.snd v63) :: Go.Sx.nilT Int)) && Bool.true && (Bool.true && (Bool.true && Bool.true))) (some ((Prod.fst v63 ++ Prod.fst (Prod.snd v63) :: Go.Sx.nilT Int,Go.Sx.w64 (Go.Sx.w64 (Prod.fst (List.getD (Prod.snd (Prod.snd a)) (Int.toNat (Prod.snd (Prod.snd v63))) ((0:Int),(0:Int),(0:Int))) * Prod.fst (Prod.snd (List.getD (Prod.snd (Prod.snd a)) (Int.toNat (Prod.snd (Prod.snd v63))) ((0:Int),(0:Int),(0:Int))))) + Prod.snd (Prod.snd (List.getD (Prod.snd (Prod.snd a)) (Int.toNat (Prod.snd (Prod.snd v63))) ((0:Int),(0:Int),(0:Int))))),Go.Sx.w64 (Prod.snd (Prod.snd v63) + (1:Int)))))) fun (v71:List Int × Int × Int)=>some (Sum.inl v71)))))))))) else (Option.bind (Option.bind (gd (Decidable.decide (List.length (Prod.fst v63) = List.length (Prod.fst v63)) && Bool.true && Bool.true) (some (Prod.fst v63))) fun (v80:List Int)=>some (Sum.inr v80)) fun (v79:List Int × List Int × Int ⊕ List Int)=>some (Sum.inr v79)))
noncomputable def s57 (F:Nat) (a:Int × Int × List (Int × Int × Int)):List Int × Int × Int → Option ((List Int × Int × Int) ⊕ (List Int × List Int × Int ⊕ List Int)) := (fun (v31:List Int × Int × Int)=>bif Decidable.decide (Prod.snd (Prod.snd v31) < (↑(List.length (Prod.snd (Prod.snd a))):Int)) then (gd (Decidable.decide ((0:Int) ≤ Prod.snd (Prod.snd v31))) (gd (Decidable.decide (Prod.snd (Prod.snd v31) < (↑(List.length (Prod.snd (Prod.snd a))):Int))) (gd (Decidable.decide (Int.toNat (Prod.snd (Prod.snd v31)) < List.length (Prod.snd (Prod.snd a)))) (Option.bind (Option.bind (Go.Proofs.Tryz.c82 F (Prod.fst (List.getD (Prod.snd (Prod.snd a)) (Int.toNat (Prod.snd (Prod.snd v31))) ((0:Int),(0:Int),(0:Int))),(1:Int),(16:Int))) fun (v36:Bool)=>bif v36 then (some (Bool.true)) else (Option.bind (Go.Proofs.Tryz.c82 F (Prod.fst (Prod.snd (List.getD (Prod.snd (Prod.snd a)) (Int.toNat (Prod.snd (Prod.snd v31))) ((0:Int),(0:Int),(0:Int)))),(0:Int),(10:Int))) fun (v37:Bool)=>bif v37 then (some (Bool.true)) else (Option.bind (Go.Proofs.Tryz.c82 F (Prod.snd (Prod.snd (List.getD (Prod.snd (Prod.snd a)) (Int.toNat (Prod.snd (Prod.snd v31))) ((0:Int),(0:Int),(0:Int)))),(0:Int),(160:Int))) fun (v38:Bool)=>some (v38)))) fun (v32:Bool)=>bif v32 then (some (Sum.inr (Sum.inl (Prod.fst v31,Go.Sx.nilT Int,(3:Int))))) else (bif Decidable.decide (Go.Sx.w64 (Prod.fst (List.getD (Prod.snd (Prod.snd a)) (Int.toNat (Prod.snd (Prod.snd v31))) ((0:Int),(0:Int),(0:Int))) * Prod.fst (Prod.snd a)) < Prod.fst (Prod.snd v31)) then (some (Sum.inr (Sum.inl (Prod.fst v31,Go.Sx.nilT Int,(17:Int))))) else (Option.bind (bif Decidable.decide (Go.Sx.w64 (Prod.snd (Prod.snd v31) + (1:Int)) < (↑(List.length (Prod.snd (Prod.snd a))):Int)) then (bif Decidable.decide (Prod.fst (Prod.snd v31) < Go.Sx.w64 (Go.Sx.w64 (Prod.fst (List.getD (Prod.snd (Prod.snd a)) (Int.toNat (Prod.snd (Prod.snd v31))) ((0:Int),(0:Int),(0:Int))) * Prod.fst (Prod.snd (List.getD (Prod.snd (Prod.snd a)) (Int.toNat (Prod.snd (Prod.snd v31))) ((0:Int),(0:Int),(0:Int))))) + Prod.snd (Prod.snd (List.getD (Prod.snd (Prod.snd a)) (Int.toNat (Prod.snd (Prod.snd v31))) ((0:Int),(0:Int),(0:Int)))))) then (some (Bool.true)) else (gd (Decidable.decide (Prod.fst (List.getD (Prod.snd (Prod.snd a)) (Int.toNat (Prod.snd (Prod.snd v31))) ((0:Int),(0:Int),(0:Int))) ≠ (0:Int))) (some (Decidable.decide (Go.Sx.w64 (Int.tdiv (Prod.fst (Prod.snd v31)) (Prod.fst (List.getD (Prod.snd (Prod.snd a)) (Int.toNat (Prod.snd (Prod.snd v31))) ((0:Int),(0:Int),(0:Int))))) < Prod.fst (Prod.snd (List.getD (Prod.snd (Prod.snd a)) (Int.toNat (Prod.snd (Prod.snd v31))) ((0:Int),(0:Int),(0:Int))))))))) else (some (Bool.false))) fun (v33:Bool)=>bif v33 then (some (Sum.inr (Sum.inl (Prod.fst v31,Go.Sx.nilT Int,(23:Int))))) else (Option.bind (bif Decidable.decide (Go.Sx.w64 (Prod.snd (Prod.snd v31) + (1:Int)) = (↑(List.length (Prod.snd (Prod.snd a))):Int)) then (some (!(Decidable.decide (Prod.fst (List.getD (Prod.snd (Prod.snd a)) (Int.toNat (Prod.snd (Prod.snd v31))) ((0:Int),(0:Int),(0:Int))) = (1:Int)) && (Decidable.decide (Prod.fst (Prod.snd (List.getD (Prod.snd (Prod.snd a)) (Int.toNat (Prod.snd (Prod.snd v31))) ((0:Int),(0:Int),(0:Int)))) = (0:Int)) && (Decidable.decide (Prod.snd (Prod.snd (List.getD (Prod.snd (Prod.snd a)) (Int.toNat (Prod.snd (Prod.snd v31))) ((0:Int),(0:Int),(0:Int)))) = (0:Int)) && Bool.true))))) else (some (Bool.false))) fun (v34:Bool)=>bif v34 then (some (Sum.inr (Sum.inl (Prod.fst v31,Go.Sx.nilT Int,(1:Int))))) else (gd (Decidable.decide (List.length (Prod.fst v31) = List.length (Prod.fst v31))) (gd (Decidable.decide (List.length (Prod.fst v31 ++ Prod.fst (Prod.snd v31) :: Go.Sx.nilT Int) * (8:Nat) ≤ (140737488355328:Nat))) (gd (Decidable.decide (List.length (Prod.fst v31 ++ Prod.fst (Prod.snd v31) :: Go.Sx.nilT Int) ≤ (9223372036854775807:Nat))) (Option.bind (gd (Decidable.decide (List.length (Prod.fst v31 ++ Prod.fst (Prod.snd v31) :: Go.Sx.nilT Int) = List.length (Prod.fst v31 ++ Prod.fst (Prod.snd v31) :: Go.Sx.nilT Int)) && Bool.true && (Bool.true && (Bool.true && Bool.true))) (some ((Prod.fst v31 ++ Prod.fst (Prod.snd v31) :: Go.Sx.nilT Int,Go.Sx.w64 (Go.Sx.w64 (Prod.fst (List.getD (Prod.snd (Prod.snd a)) (Int.toNat (Prod.snd (Prod.snd v31))) ((0:Int),(0:Int),(0:Int))) * Prod.fst (Prod.snd (List.getD (Prod.snd (Prod.snd a)) (Int.toNat (Prod.snd (Prod.snd v31))) ((0:Int),(0:Int),(0:Int))))) + Prod.snd (Prod.snd (List.getD (Prod.snd (Prod.snd a)) (Int.toNat (Prod.snd (Prod.snd v31))) ((0:Int),(0:Int),(0:Int))))),Go.Sx.w64 (Prod.snd (Prod.snd v31) + (1:Int)))))) fun (v35:List Int × Int × Int)=>some (Sum.inl v35)))))))))))) else (Option.bind (Option.bind (gd (Decidable.decide (List.length (Prod.fst v31) = List.length (Prod.fst v31)) && Bool.true && Bool.true) (some (Prod.fst v31))) fun (v40:List Int)=>some (Sum.inr v40)) fun (v39:List Int × List Int × Int ⊕ List Int)=>some (Sum.inr v39)))
theorem l80 (F:Nat) (n:Int):c80 F n = some (if n < 1 ∨ 16 < n then 3 else 0) := by
 unfold c80; simp only [l83]; rfl
theorem l75' {l:List Int} (h:l.length < 400):c75 400 l = some (firstNZ l) := l75 h (by omega)
theorem step_eq {a:Int × Int × List (Int × Int × Int)} (hl:a.2.2.length ≤ 16) {x:List Int × Int × Int} (h0:0 ≤ x.2.2) (h1:x.2.2 ≤ a.2.2.length):s55 400 a x = s57 400 a x := by
 obtain ⟨A,N,L⟩ := a
 obtain ⟨out,n,i⟩ := x
 simp only at hl h0 h1
 unfold s55 s57
 by_cases hi:i < L.length
 ·have hk:i.toNat < L.length := by omega
  simp only [h0,hi,hk,decide_true,cond_true,gd_true]
  generalize L.getD i.toNat (0,0,0) = r
  obtain ⟨H,P,T⟩ := r
  have hw:w64 (i + 1) = i + 1 := w64_in (by omega) (by omega)
  have hw2:w64 ((L.length:Int) - 1) = L.length - 1 := w64_in (by omega) (by omega)
  simp only [l80,l83,l76,l82,Option.bind_some,nilT,hw,hw2]
  by_cases hH:H < 1 ∨ 16 < H
  ·simp [hH,l75',firstNZ]
  ·by_cases hP:P < 0 ∨ 10 < P
   ·simp [hH,hP,l75',firstNZ]
   ·by_cases hT:T < 0 ∨ 160 < T
    ·simp [hH,hP,hT,l75',firstNZ]
    ·have hne:H ≠ 0 := by omega
     generalize w64 (H * N) = hn
     generalize w64 (w64 (H * P) + T) = nx
     generalize w64 (Int.tdiv n H) = dv
     generalize (decide (H = 1) && (decide (P = 0) && (decide (T = 0) && true))) = q
     by_cases hn':hn < n
     ·simp [hH,hP,hT,hn',l75',firstNZ]
     ·by_cases hlast:i = L.length - 1
      ·have e1:¬ i + 1 < L.length := by omega
       have e2:i + 1 = L.length := by omega
       by_cases h4:n < nx <;> cases q <;> simp [hH,hP,hT,hn',hne,hlast,e1,e2,h4,l75',firstNZ,gd_true]
      ·have e1:i + 1 < L.length := by omega
       have e2:¬ i + 1 = L.length := by omega
       by_cases h4:n < nx <;> by_cases h5:dv < P <;> simp [hH,hP,hT,hn',hne,hlast,e1,e2,h4,h5,l75',firstNZ,gd_true]
 ·simp only [hi,decide_false,cond_false]
end Go.Proofs.Tryz
