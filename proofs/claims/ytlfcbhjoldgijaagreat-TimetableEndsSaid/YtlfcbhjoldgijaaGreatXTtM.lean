/- Functions of the program as functions of data. By program. Plain law: the proofs of a conflict. And further parts. -/
import Derived.Test.YtlfcbhjoldgijaaGreatXTtR2
import Derived.Test.YtlfcbhjoldgijaaGreatXT9t
import Derived.Test.YtlfcbhjoldgijaaGreatXTtT
import Derived.Test.YtlfcbhjoldgijaaGreatXT9o
import Derived.Test.YtlfcbhjoldgijaaGreatXT9n
import Derived.Test.YtlfcbhjoldgijaaGreatXSxSu
import Derived.Test.YtlfcbhjoldgijaaGreatXSxQh
import Derived.Sort.Walk0
set_option maxRecDepth 100000
set_option linter.all false
set_option linter.unusedVariables false
set_option linter.unusedSimpArgs false
section
namespace Go.Proofs.Tryz
open Go Go.Sx
noncomputable section
def c4 (F:Nat) (a:TP):Option (Bool) :=
 let z2 := (0:Int); let z1 := (↑(List.length a.1):Int); Option.bind (c14 F (a.1,a.2.1,a.2.2)) fun (v63:TP)=>let z3 := (v63.1,v63.2.1,v63.2.2); Option.bind (c16 F z3) fun (v64:Bool)=>bif !v64 then (some (true)) else (Option.bind (c19 F z3) fun (v65:Int)=>Option.bind (bif decide (v65 = z2) then (bif decide ((5:Int) < z1) then (some (decide (z1 ≤ (8:Int)))) else (some (false))) else (some (false))) fun (v66:Bool)=>bif v66 then (some (true)) else (Option.bind (c23 F (decide ((8:Int) < z1),(22:Int))) fun (v67:Int)=>Option.bind (c24 F (v65 :: v67 :: nilT Int)) fun (v68:Int)=>Option.bind (bif decide (v68 = z2) then (Option.bind (c25 F z3) fun (v86:Bool)=>Option.bind (c23 F (!v86,(23:Int))) fun (v87:Int)=>some (v87)) else (some (v68))) fun (v69:Int)=>Option.bind (c26 F (a.1,a.2.1,a.2.2)) fun (v70:List Int × Int)=>Option.bind (c27 F (a.1,a.2.1,a.2.2)) fun (v71:Int × Int)=>Option.bind (c28 F (a.1,a.2.1,a.2.2)) fun (v72:List Int × Int)=>bif !decide (v69 = z2) then (Option.bind (Option.bind (c29 F (v70.1,v70.2,v69,nilT Int)) fun (v74:Bool)=>bif v74 then (Option.bind (c20 F (v71.1,v71.2,v69,z2)) fun (v75:Bool)=>bif v75 then (Option.bind (c29 F (v72.1,v72.2,v69,nilT Int)) fun (v76:Bool)=>some (v76)) else (some (false))) else (some (false))) fun (v73:Bool)=>some (v73)) else (Option.bind (c30 F z3) fun (v77:Int)=>Option.bind (Option.bind (c31 F z3) fun (v82:List Int)=>Option.bind (c29 F (v70.1,v70.2,z2,v82)) fun (v83:Bool)=>bif !v83 then (some (true)) else (Option.bind (c20 F (v71.1,v71.2,z2,v77)) fun (v84:Bool)=>bif !v84 then (some (true)) else (bif !decide (v72.2 = z2) then (some (true)) else (Option.bind (c32 F (z3,v72.1)) fun (v85:Int)=>some (!decide (v85 = z2)))))) fun (v78:Bool)=>bif v78 then (some (false)) else (Option.bind (c33 F (z3,v72.1)) fun (v79:Int × Int)=>Option.bind (bif decide (v79.2 = z2) then (Option.bind (c34 F (z3,v72.1)) fun (v81:Int)=>some (decide (v81 = v77))) else (some (false))) fun (v80:Bool)=>some (v80)))))
end
end Go.Proofs.Tryz
end
namespace Go.Proofs.Tryz
open Go Go.Sx
abbrev r4:Rul := (ByteArray.empty,(0:Int),(0:Int),(0:Int))
def pickS (L:List Rul) (ns:List Int):List Rul := ns.map fun x=>L.getD x.toNat r4
theorem Hol.congr {p:Pln} {L M:List Rul} {f:List Int} (h:∀ r,r ∈ M → r ∈ L) (hf:Hol p L f):Hol p M f := ⟨hf.len,hf.rng,fun r hr=>hf.rul r (h r hr)⟩
theorem ex_eq {α:Type} {v:Option α} {x:α} (h:∃ r,v = some r ∧ r = x):v = some x := by
 obtain ⟨r,h1,rfl⟩ := h
 exact h1
def memF (k:Nat) (b:Bool):List Int := if b = true then [(k:Int)] else []
def memS (B:List Bool):List Int := ifl memF 0 B
theorem ifl_get {α β:Type} {f:Nat → α → List β} {y:β}:∀ {l:List α} {k j:Nat} {x:α},l[j]? = some x → y ∈ f (k + j) x → y ∈ ifl f k l
 | a :: l,k,0,x,h,hy=>by
  simp only [List.getElem?_cons_zero,Option.some.injEq] at h
  subst h
  exact List.mem_append.2 (.inl hy)
 | a :: l,k,j + 1,x,h,hy=>by
  rw [List.getElem?_cons_succ] at h
  exact List.mem_append.2 (.inr (ifl_get (k := k + 1) h (by rw [show k + 1 + j = k + (j + 1) by omega]; exact hy)))
def Pos (p:Pln) (B:List Bool):Prop := ∃ f,Hol p (chS p B) f
theorem Pos.mono {p:Pln} {B C:List Bool} (h:∀ k:Nat,C[k]? = some true → B[k]? = some true):Pos p B → Pos p C := fun ⟨f,hf⟩=>⟨f,hf.congr fun r hr=>by
 obtain ⟨k,h1,h2⟩ := mem_chS.1 hr
 exact mem_chS.2 ⟨k,h1,h k h2⟩⟩
def bitsB (m n:Nat):List Bool := (List.range m).map fun i=>decide (n / 2 ^ i % 2 = 1)
def NotB (l best:List Int):Prop := best.length < l.length ∨ best.length = l.length ∧ lexI best l ≤ 0
theorem NotB.refl (l:List Int):NotB l l := .inr ⟨rfl,by rw [lexI_self]; exact Int.le_refl _⟩
theorem NotB.trans {a b c:List Int} (h1:NotB a b) (h2:NotB b c):NotB a c := by
 rcases h1 with h1 | ⟨h1,k1⟩ <;> rcases h2 with h2 | ⟨h2,k2⟩
 ·exact .inl (by omega)
 ·exact .inl (by omega)
 ·exact .inl (by omega)
 ·exact .inr ⟨by omega,lexI_trans k2 k1⟩
structure SmallN (p:Pln) (m N:Nat) (best:List Int) (any:Bool):Prop where
 no:any = false → best = [] ∧ ∀ n,n < N → Pos p (bitsB m n)
 yes:any = true → (∃ n,n < N ∧ best = memS (bitsB m n) ∧ ¬ Pos p (bitsB m n)) ∧ ∀ n,n < N → ¬ Pos p (bitsB m n) → NotB (memS (bitsB m n)) best
theorem SmallN.skip {p:Pln} {m N:Nat} {best:List Int} {any:Bool} (h:SmallN p m N best any) (hk:Pos p (bitsB m N) ∨ any = true ∧ NotB (memS (bitsB m N)) best):SmallN p m (N + 1) best any := by
 refine ⟨fun ha=>⟨(h.no ha).1,fun n hn=>?_⟩,fun ha=>⟨(h.yes ha).1.imp fun n hn=>⟨by omega,hn.2⟩,fun n hn hp=>?_⟩⟩
 ·by_cases hnN:n = N
  ·subst hnN
   rcases hk with hk | ⟨hk,-⟩
   ·exact hk
   ·rw [ha] at hk; cases hk
  ·exact (h.no ha).2 n (by omega)
 ·by_cases hnN:n = N
  ·subst hnN
   rcases hk with hk | ⟨-,hk⟩
   ·exact absurd hk hp
   ·exact hk
  ·exact (h.yes ha).2 n (by omega) hp
theorem SmallN.take {p:Pln} {m N:Nat} {best:List Int} {any:Bool} (h:SmallN p m N best any) (hp:¬ Pos p (bitsB m N)) (hb:any = true → ¬ NotB (memS (bitsB m N)) best):SmallN p m (N + 1) (memS (bitsB m N)) true := by
 refine ⟨fun h=>(nomatch h),fun _=>⟨⟨N,by omega,rfl,hp⟩,fun n hn hpn=>?_⟩⟩
 by_cases hnN:n = N
 ·subst hnN
  exact .refl _
 ·cases any with
  | false=>exact absurd ((h.no rfl).2 n (by omega)) hpn
  | true =>
   have h1 := (h.yes rfl).2 n (by omega) hpn
   have h2 := hb rfl
   refine h1.trans ?_
   unfold NotB at h2 ⊢
   by_cases c1:(memS (bitsB m N)).length < best.length
   ·exact .inl c1
   ·refine .inr ⟨by omega,?_⟩
    have c2:¬ lexI best (memS (bitsB m N)) ≤ 0 := fun h=>h2 (.inr ⟨by omega,h⟩)
    have := lexI_neg best (memS (bitsB m N))
    omega
end Go.Proofs.Tryz
section
namespace Go.Proofs.Tryz
open Go Go.Sx
end Go.Proofs.Tryz
end
namespace Go.Proofs.Tryz
open Go Go.Sx
theorem Hol.win {p:Pln} (hp:PV p) {t:List Int} (h:Hol p (rulesS p) t) {i:Nat} (hi:i < p.1.length):0 ≤ fL t i ∧ fL t i ≤ 20000 := by
 have h1 := holW.1 (h.rul _ (List.mem_of_getElem? (win_rul hi)))
 have h2 := hp.at (a := (i:Int)) (by omega) (by omega)
 omega
theorem Hol.form {p:Pln} (hp:PV p) {t:List Int} (h:Hol p (rulesS p) t):formE p t = 0 := by
 unfold formE
 rw [if_neg (by have := h.len; simpa using this),if_neg]
 simp only [List.any_eq_true,decide_eq_true_eq,not_exists,not_and]
 intro x hx
 obtain ⟨i,hi,rfl⟩ := List.mem_iff_getElem.1 hx
 have := h.win hp (i := i) (by rw [← h.len]; exact hi)
 simp only [fL] at this
 rw [getD_some (List.getElem?_eq_getElem hi)] at this
 omega
end Go.Proofs.Tryz
section
namespace Go.Proofs.Tryz
open Go Go.Sx
noncomputable section
end
end Go.Proofs.Tryz
end
namespace Go.Proofs.Tryz
open Go Go.Sx
theorem l49 {F:Nat} (hF:400 ≤ F) {p:Pln} {k:Nat}:∃ b,c49 F (p,(k:Int)) = some b ∧ (b = true → PShort p ∧ p.1.length ≤ k ∧ p.2.1.length ≤ k ∧ planE p = 0) := by
 unfold c49
 obtain ⟨b,h1,h2⟩ := l16 (F := F) hF (p := p)
 simp only [peta,h1,Option.bind_some]
 cases b with
 | false=>exact ⟨false,rfl,fun h=>nomatch h⟩
 | true =>
  have hp := h2 rfl
  by_cases a1:p.1.length ≤ k
  ·by_cases a2:p.2.1.length ≤ k
   ·simp (disch := omega) only [cond_true,cd_pos,l19 hF hp.sm,Option.bind_some]
    exact ⟨_,rfl,fun h=>⟨hp,a1,a2,of_decide_eq_true h⟩⟩
   ·simp (disch := omega) only [cond_true,cd_pos,cd_neg,Option.bind_some]
    exact ⟨_,rfl,fun h=>nomatch h⟩
  ·simp (disch := omega) only [cond_true,cd_neg,Option.bind_some]
   exact ⟨_,rfl,fun h=>nomatch h⟩
structure IrrS (p:Pln) (l:List Int):Prop where
 asc:l.Pairwise (· < ·)
 rng:∀ x ∈ l,0 ≤ x ∧ x < (rulesS p).length
 bad:¬ ∃ f,Hol p (pickS (rulesS p) l) f
 min:∀ i,i < l.length → ∃ f,Hol p (pickS (rulesS p) (l.take i ++ l.drop (i + 1))) f
theorem hol_nil (p:Pln):∃ f,Hol p [] f := ⟨List.replicate p.1.length 0,by simp,fun i hi=>by simp only [fL]; rw [rep_getD hi]; omega,fun r hr=>nomatch hr⟩
theorem IrrS.ne {p:Pln} {l:List Int} (h:IrrS p l):l ≠ [] := fun e=>by
 subst e
 exact h.bad (hol_nil p)
structure RndLe (x y:Rnd):Prop where
 min:x.2.1 ≤ y.2.1
 from_:x.2.2.2.2.2.1 ≤ y.2.2.2.2.2.1
 to_:y.2.2.2.2.2.2 ≤ x.2.2.2.2.2.2
 areas:∀ s ∈ x.2.2.1,s ∈ y.2.2.1
 off:∀ s ∈ x.2.2.2.1,s ∈ y.2.2.2.1
 ath:∀ s ∈ x.2.2.2.2.1,s ∈ y.2.2.2.2.1
theorem RndLe.refl (x:Rnd):RndLe x x := ⟨Int.le_refl _,Int.le_refl _,Int.le_refl _,fun _ h=>h,fun _ h=>h,fun _ h=>h⟩
structure PlnLe (p q:Pln):Prop where
 len:p.1.length = q.1.length
 rnd:∀ (i:Nat) x y,p.1[i]? = some x → q.1[i]? = some y → RndLe x y
 ord:∀ o ∈ p.2.1,o ∈ q.2.1
 rest:p.2.2 ≤ q.2.2
theorem share_mono {a b c d:List ByteArray} (h1:∀ s ∈ a,s ∈ c) (h2:∀ s ∈ b,s ∈ d) (h:shareB a b = true):shareB c d = true := by
 unfold shareB at *
 obtain ⟨x,hx,h⟩ := List.any_eq_true.1 h
 obtain ⟨y,hy,h⟩ := List.any_eq_true.1 h
 exact List.any_eq_true.2 ⟨x,h1 x hx,List.any_eq_true.2 ⟨y,h2 y hy,h⟩⟩
def RulLe (r r':Rul):Prop := r'.1 = r.1 ∧ r'.2.1 = r.2.1 ∧ r'.2.2.1 = r.2.2.1 ∧ r.2.2.2 ≤ r'.2.2.2
theorem pairR_le {u v:Int} (huv:u ≤ v) {i k:Nat} {a a' b b':Rnd} (ha:RndLe a a') (hb:RndLe b b') {r:Rul} (hr:r ∈ pairR u i a k b):∃ r' ∈ pairR v i a' k b',RulLe r r' := by
 unfold pairR at hr ⊢
 simp only [List.mem_append] at hr ⊢
 rcases hr with (h | h) | h
 ·split at h
  ·rename_i hs
   rw [if_pos (share_mono ha.areas hb.areas hs)]
   rw [List.mem_singleton.1 h]
   exact ⟨_,.inl (.inl (List.mem_singleton.2 rfl)),rfl,rfl,rfl,Int.le_refl _⟩
  ·cases h
 ·split at h
  ·rename_i hs
   rw [if_pos (share_mono ha.off hb.off hs)]
   rw [List.mem_singleton.1 h]
   exact ⟨_,.inl (.inr (List.mem_singleton.2 rfl)),rfl,rfl,rfl,Int.le_refl _⟩
  ·cases h
 ·split at h
  ·rename_i hs
   rw [if_pos (share_mono ha.ath hb.ath hs)]
   rw [List.mem_singleton.1 h]
   exact ⟨_,.inr (List.mem_singleton.2 rfl),rfl,rfl,rfl,huv⟩
  ·cases h
theorem apart_mem {p:Pln} {a b:Nat} {x y:Rnd} (hab:a < b) (hx:p.1[a]? = some x) (hy:p.1[b]? = some y) {r:Rul} (hr:r ∈ pairR p.2.2 a x b y):r ∈ rulesS p := by
 unfold rulesS
 refine List.mem_append_right _ ?_
 unfold apartR
 refine ifl_get hx ?_
 rw [Nat.zero_add]
 unfold rowR
 refine ifl_get (j := b - (a + 1)) (x := y) ?_ ?_
 ·rw [List.getElem?_drop,show a + 1 + (b - (a + 1)) = b by omega]
  exact hy
 ·rw [show a + 1 + (b - (a + 1)) = b by omega]
  exact hr
theorem rule_le {p q:Pln} (h:PlnLe p q) {r:Rul} (hr:r ∈ rulesS p):∃ r' ∈ rulesS q,RulLe r r' := by
 obtain ⟨i,hi⟩ := List.mem_iff_getElem?.1 hr
 rcases rul_cases hi with ⟨h1,rfl⟩ | ⟨h1,h2,o,ho,rfl⟩ | ⟨h1,a,b,x,y,hab,hx,hy,hm⟩
 ·exact ⟨_,List.mem_of_getElem? (win_rul (by rw [← h.len]; exact h1)),rfl,rfl,rfl,Int.le_refl _⟩
 ·obtain ⟨k,hk⟩ := List.mem_iff_getElem?.1 (h.ord o (List.mem_of_getElem? ho))
  exact ⟨_,List.mem_of_getElem? (ord_rul hk),rfl,rfl,rfl,Int.le_refl _⟩
 ·have ha := (List.getElem?_eq_some_iff.1 hx).1
  have hb := (List.getElem?_eq_some_iff.1 hy).1
  have hx' := List.getElem?_eq_getElem (show a < q.1.length by rw [← h.len]; exact ha)
  have hy' := List.getElem?_eq_getElem (show b < q.1.length by rw [← h.len]; exact hb)
  obtain ⟨r',h3,h4⟩ := pairR_le h.rest (h.rnd a _ _ hx hx') (h.rnd b _ _ hy hy') hm
  exact ⟨r',apart_mem hab hx' hy' h3,h4⟩
theorem PlnLe.at {p q:Pln} (h:PlnLe p q) {a:Int} (ha:InE p.1.length a):RndLe (rq p a) (rq q a) := by
 have h1 := ha.1
 have h2 := ha.2
 have hx := List.getElem?_eq_getElem (show a.toNat < p.1.length by omega)
 have hy := List.getElem?_eq_getElem (show a.toNat < q.1.length by rw [← h.len]; omega)
 have := h.rnd _ _ _ hx hy
 rw [show rq p a = p.1[a.toNat]'(by omega) from getD_some hx,show rq q a = q.1[a.toNat]'(by rw [← h.len]; omega) from getD_some hy]
 exact this
theorem tight {p q:Pln} (hp:PV p) (h:PlnLe p q) {f:List Int} (hf:Hol q (rulesS q) f):Hol p (rulesS p) f ∧ endS p f ≤ endS q f := by
 have hl := hf.len.trans h.len.symm
 refine ⟨⟨hl,fun i hi=>hf.rng i (by rw [← h.len]; exact hi),fun r hr=>?_⟩,endS_le hl (endS_nonneg q f) fun i hi=>?_⟩
 ·obtain ⟨r',hr',e1,e2,e3,e4⟩ := rule_le h hr
  have hh := hf.rul r' hr'
  have hro := hp.rulM r hr
  have ha := h.at hro.a
  have hb := h.at hro.b
  unfold holdS at hh ⊢
  rw [e1,e2,e3] at hh
  have bef:∀ {a b g g':Int},RndLe (rq p a) (rq q a) → g ≤ g' → befS q f a b g' = true → befS p f a b g = true := fun hle hg hb=>by
   unfold befS at hb ⊢
   have hb := of_decide_eq_true hb
   have := hle.min
   exact decide_eq_true (by omega)
  split at hh
  ·rename_i hw
   rw [if_pos hw]
   unfold winS at hh ⊢
   have hh := of_decide_eq_true hh
   have h1 := ha.min
   have h2 := ha.from_
   have h3 := ha.to_
   exact decide_eq_true (by omega)
  ·rename_i hw
   rw [if_neg hw]
   split at hh
   ·rename_i ho
    rw [if_pos ho]
    exact bef ha e4 hh
   ·rename_i ho
    rw [if_neg ho,Bool.or_eq_true]
    rw [Bool.or_eq_true] at hh
    exact hh.imp (bef ha e4) (bef hb e4)
 ·have h1 := endS_ge (p := q) (t := f) (i := i) (by rw [← h.len]; exact hi) hf.len
  have h2 := (h.at (a := (i:Int)) ⟨by omega,by omega⟩).min
  omega
theorem hol_sol {p:Pln} {f:List Int} (h:Hol p (rulesS p) f):SolF (edgL p) (fL f) := by
 intro e he
 obtain ⟨o,ho,rfl⟩ := List.mem_map.1 he
 obtain ⟨k,hk⟩ := List.mem_iff_getElem?.1 ho
 exact holO.1 (h.rul _ (List.mem_of_getElem? (ord_rul hk)))
theorem chain_le {p:Pln} (hv:PV p) {f:List Int} (h:Hol p (rulesS p) f):∃ k,chainS p = (k,0) ∧ k ≤ endS p f := by
 have hrl:(List.replicate p.1.length (0:Int)).length = p.1.length := List.length_replicate
 have hE:∀ e ∈ edgL p,EOk (List.replicate p.1.length (0:Int)).length e := fun e he=>by rw [hrl]; exact (edgL_ew hv e he).1
 have h0:LeF (List.replicate p.1.length (0:Int)).length (fL (List.replicate p.1.length (0:Int))) (fL f) := fun i hi=>by
  rw [hrl] at hi
  have := (h.rng i hi).1
  simp only [fL]
  rw [rep_getD hi]
  exact this
 obtain ⟨t,ht⟩ := bfS_some hE (hol_sol h) h0
 obtain ⟨t1,t2,t3,t4⟩ := bfS_spec hE ht
 have ht':bfS (edgL p) p.1.length (List.replicate p.1.length 0) = some t := by
  rw [hrl] at ht
  exact ht
 refine ⟨endS p t,?_,?_⟩
 ·unfold chainS
  rw [ht']
 ·refine endS_mono (t1.trans hrl) h.len ?_
  have := t4 (fL f) (hol_sol h) h0
  rw [hrl] at this
  exact this
theorem latR_le {n:Nat} {t:List Int} {e:Edg} {f:Nat → Int} (hn:t.length = n) (he:EOk n e) (hf:f e.1.toNat + e.2.2 ≤ f e.2.1.toNat) (h:LeF n f (fL t)):LeF n f (fL (latR t e)) := by
 intro i hi
 unfold latR
 have h1 := he.1
 have h2 := he.2
 rw [fL_set (by omega)]
 have a1 := h e.1.toNat (by omega)
 have a2 := h e.2.1.toNat (by omega)
 have a3 := h i hi
 simp only [fL] at a1 a2 a3 ⊢
 unfold tq
 split
 ·rename_i hie
  subst hie
  split <;> omega
 ·exact a3
theorem latS_le {p:Pln} {f:Nat → Int} {E:List Edg} (hE:∀ e ∈ E,EOk p.1.length e) (hf:SolF E f):∀ (k:Nat) (t:List Int),t.length = p.1.length → LeF p.1.length f (fL t) → LeF p.1.length f (fL (latS E k t))
 | 0,t,_,h=>h
 | k + 1,t,ht,h=>by
  have key:∀ (L:List Edg),(∀ e ∈ L,EOk p.1.length e) → SolF L f → ∀ t:List Int,t.length = p.1.length → LeF p.1.length f (fL t) → LeF p.1.length f (fL (L.foldl latR t)) := by
   intro L
   induction L with
   | nil=>intro _ _ t _ h; exact h
   | cons e L ih =>
    intro hL hs t ht h
    exact ih (fun e he=>hL e (List.mem_cons_of_mem _ he)) (fun e he=>hs e (List.mem_cons_of_mem _ he)) _ ((latR_len t e).trans ht) (latR_le ht (hL e (List.mem_cons_self ..)) (hs e (List.mem_cons_self ..)) h)
  unfold latS
  exact latS_le hE hf k _ ((fold_latR_len E t).trans ht) (key E hE hf t ht h)
theorem wins_in {p:Pln} (hv:PV p) {f:List Int} (h:Hol p (rulesS p) f):∃ w,winsS p = (w,0) ∧ w.length = p.1.length ∧ ∀ i,i < p.1.length → (w.getD i (0,0)).1 ≤ fL f i ∧ fL f i ≤ (w.getD i (0,0)).2 := by
 have hlw:(lowW p).length = p.1.length := by simp [lowW]
 have hhw:(highW p).length = p.1.length := by simp [highW]
 have hE:∀ e ∈ edgL p,EOk p.1.length e := fun e he=>(edgL_ew hv e he).1
 have hwin:∀ i,i < p.1.length → fL (lowW p) i ≤ fL f i ∧ fL f i ≤ fL (highW p) i := fun i hi=>by
  have hw := holW.1 (h.rul _ (List.mem_of_getElem? (win_rul hi)))
  rw [rq_nat hi] at hw
  have e1:fL (lowW p) i = (p.1[i]).2.2.2.2.2.1 := by
   simp only [fL,lowW]
   exact getD_some (by rw [List.getElem?_map,List.getElem?_eq_getElem hi]; rfl)
  have e2:fL (highW p) i = (p.1[i]).2.2.2.2.2.2 - (p.1[i]).2.1 := by
   simp only [fL,highW]
   exact getD_some (by rw [List.getElem?_map,List.getElem?_eq_getElem hi]; rfl)
  rw [e1,e2]
  omega
 have h0:LeF (lowW p).length (fL (lowW p)) (fL f) := fun i hi=>(hwin i (by omega)).1
 obtain ⟨t,ht⟩ := bfS_some (by rw [hlw]; exact hE) (hol_sol h) h0
 obtain ⟨t1,t2,t3,t4⟩ := bfS_spec (by rw [hlw]; exact hE) ht
 have htl:t.length = p.1.length := t1.trans hlw
 have htf:LeF p.1.length (fL t) (fL f) := by
  have := t4 (fL f) (hol_sol h) h0
  rw [hlw] at this
  exact this
 have hlate := latS_le hE (hol_sol h) p.1.length (highW p) hhw (fun i hi=>(hwin i hi).2)
 have hlL:(latS (edgL p) p.1.length (highW p)).length = p.1.length := (latS_len ..).trans hhw
 have hear:earlS (lowW p) (highW p) (edgL p) = (t,true) := by
  unfold earlS
  rw [ht]
  simp only
  rw [if_neg]
  rw [List.any_eq_true]
  rintro ⟨x,hx,hlt⟩
  have hlt := of_decide_eq_true hlt
  obtain ⟨i,hi,rfl⟩ := List.mem_iff_getElem.1 hx
  rw [List.length_zip] at hi
  have hi':i < p.1.length := by omega
  simp only [List.getElem_zip] at hlt
  have a1 := htf i hi'
  have a2 := (hwin i hi').2
  simp only [fL] at a1 a2
  rw [getD_some (List.getElem?_eq_getElem (show i < t.length by omega))] at a1
  rw [getD_some (List.getElem?_eq_getElem (show i < (highW p).length by omega))] at a2
  omega
 refine ⟨t.zip (latS (edgL p) p.1.length (highW p)),?_,?_,fun i hi=>?_⟩
 ·unfold winsS
  rw [hear]
  rfl
 ·rw [List.length_zip,htl,hlL]
  omega
 ·have e:(t.zip (latS (edgL p) p.1.length (highW p)))[i]? = some (fL t i,fL (latS (edgL p) p.1.length (highW p)) i) := by
   have e1:t[i]? = some (fL t i) := by simp only [fL]; rw [getD_some (List.getElem?_eq_getElem (show i < t.length by omega))]; exact List.getElem?_eq_getElem _
   have e2:(latS (edgL p) p.1.length (highW p))[i]? = some (fL (latS (edgL p) p.1.length (highW p)) i) := by simp only [fL]; rw [getD_some (List.getElem?_eq_getElem (show i < (latS (edgL p) p.1.length (highW p)).length by omega))]; exact List.getElem?_eq_getElem _
   rw [List.getElem?_zip_eq_some]
   exact ⟨e1,e2⟩
  rw [getD_some e]
  exact ⟨htf i hi,hlate i hi⟩
theorem rest_two {p:Pln} (hv:PV p) {f:List Int} (h:Hol p (rulesS p) f) {a:ByteArray} {i j:Nat} (hi:i < p.1.length) (hj:j < p.1.length) (hij:i ≠ j) (ha:a ∈ (p.1[i]).2.2.2.2.1) (hb:a ∈ (p.1[j]).2.2.2.2.1) (hle:fL f i ≤ fL f j):fL f i + (rq p (i:Int)).2.1 + p.2.2 ≤ fL f j := by
 have hsh:∀ (l m:List ByteArray),a ∈ l → a ∈ m → shareB l m = true := fun l m h1 h2=>List.any_eq_true.2 ⟨a,h1,List.any_eq_true.2 ⟨a,h2,strEq_self a⟩⟩
 have key:∀ (i j:Nat) (hi:i < p.1.length) (hj:j < p.1.length),i < j → a ∈ (p.1[i]).2.2.2.2.1 → a ∈ (p.1[j]).2.2.2.2.1 → befS p f (i:Int) (j:Int) p.2.2 = true ∨ befS p f (j:Int) (i:Int) p.2.2 = true := by
  intro i j hi hj hlt ha hb
  have hm:(kT,(i:Int),(j:Int),p.2.2) ∈ rulesS p := by
   refine apart_mem hlt (List.getElem?_eq_getElem hi) (List.getElem?_eq_getElem hj) ?_
   unfold pairR
   rw [if_pos (hsh _ _ ha hb)]
   simp
  have hh := h.rul _ hm
  unfold holdS at hh
  rw [if_neg (by show ¬ strEq kT kW = true; rw [sTW]; decide),if_neg (by show ¬ strEq kT kO = true; rw [sTO]; decide),Bool.or_eq_true] at hh
  exact hh
 have fin:befS p f (i:Int) (j:Int) p.2.2 = true ∨ befS p f (j:Int) (i:Int) p.2.2 = true := by
  rcases Nat.lt_or_gt_of_ne hij with hlt | hlt
  ·exact key i j hi hj hlt ha hb
  ·exact (key j i hj hi hlt hb ha).symm
 have hmin := (hv.rnd _ (List.getElem_mem hj)).1
 have hr := hv.rest
 rcases fin with e | e
 ·unfold befS at e
  have e := of_decide_eq_true e
  simp only [tq,fL,Int.toNat_natCast] at e ⊢
  exact e
 ·unfold befS at e
  have e := of_decide_eq_true e
  rw [rq_nat hj] at e
  simp only [tq,fL,Int.toNat_natCast] at e hle ⊢
  omega
theorem need_asc (a:ByteArray):∀ (l:List Rnd) (k:Nat),(ifl (needR a) k l).Pairwise (· < ·) ∧ ∀ x ∈ ifl (needR a) k l,(k:Int) ≤ x
 | [],k=>⟨List.Pairwise.nil,fun x hx=>by cases hx⟩
 | y :: l,k=>by
  obtain ⟨h1,h2⟩ := need_asc a l (k + 1)
  unfold ifl needR
  split
  ·refine ⟨List.pairwise_cons.2 ⟨fun x hx=>by have := h2 x hx; omega,h1⟩,fun x hx=>?_⟩
   rcases List.mem_cons.1 hx with rfl | hx
   ·exact Int.le_refl _
   ·have := h2 x hx; omega
  ·exact ⟨h1,fun x hx=>by have := h2 x hx; omega⟩
theorem need_mem {p:Pln} {a:ByteArray} {x:Int} (h:x ∈ needL p a):∃ (i:Nat) (hi:i < p.1.length),x = (i:Int) ∧ a ∈ (p.1[i]).2.2.2.2.1 := by
 obtain ⟨j,y,hy,hr⟩ := ifl_mem h
 have hj := (List.getElem?_eq_some_iff.1 hy).1
 unfold needR at hr
 split at hr
 ·rename_i hs
  obtain ⟨z,hz,e⟩ := List.any_eq_true.1 hs
  rw [strEq_true.1 e]
  refine ⟨j,hj,by rw [List.mem_singleton.1 hr,Nat.zero_add],?_⟩
  have := (List.getElem?_eq_some_iff.1 hy).2
  rw [this]
  exact hz
 ·cases hr
theorem mem_need {p:Pln} {a:ByteArray} {i:Nat} (hi:i < p.1.length) (h:a ∈ (p.1[i]).2.2.2.2.1):(i:Int) ∈ needL p a := by
 unfold needL
 refine ifl_get (List.getElem?_eq_getElem hi) ?_
 unfold needR
 rw [if_pos (List.any_eq_true.2 ⟨a,h,strEq_self a⟩),Nat.zero_add]
 exact List.mem_singleton.2 rfl
theorem minL_le {r:Int}:∀ {l:List Int} {m:Int},r ≤ m → (∀ x ∈ l,r ≤ x) → r ≤ minL m l
 | [],m,h,_=>h
 | y :: l,m,h,hl=>by
  show r ≤ minL (if y < m then y else m) l
  refine minL_le ?_ fun x hx=>hl x (List.mem_cons_of_mem _ hx)
  have := hl y (List.mem_cons_self ..)
  split <;> omega
theorem gaps_ok {p:Pln} (hv:PV p) {f:List Int} (h:Hol p (rulesS p) f) {a:ByteArray}:∀ (l:List Int) (x:Int),(∀ y ∈ x :: l,y ∈ needL p a) → (x :: l).Nodup → (x :: l).Pairwise (Go.Sx.leB (ltT f)) → ∀ g ∈ gapsS p f x l,p.2.2 ≤ g
 | [],x,_,_,_,g,hg=>by cases hg
 | y :: l,x,hm,hn,hp,g,hg=>by
  have hn' := List.nodup_cons.1 hn
  have hp' := List.pairwise_cons.1 hp
  unfold gapsS at hg
  rcases List.mem_cons.1 hg with rfl | hg
  ·obtain ⟨i,hi,rfl,ha⟩ := need_mem (hm x (List.mem_cons_self ..))
   obtain ⟨j,hj,rfl,hb⟩ := need_mem (hm y (List.mem_cons_of_mem _ (List.mem_cons_self ..)))
   have hij:i ≠ j := fun e=>hn'.1 (by rw [e]; exact List.mem_cons_self ..)
   have hle := hp'.1 (j:Int) (List.mem_cons_self ..)
   have hle':fL f i ≤ fL f j := by
    unfold Go.Sx.leB ltT at hle
    simp only [tq,fL,Int.toNat_natCast] at hle ⊢
    have := of_decide_eq_false hle
    omega
   have := rest_two hv h hi hj hij ha hb hle'
   simp only [tq,fL,Int.toNat_natCast] at this ⊢
   omega
  ·exact gaps_ok hv h l y (fun z hz=>hm z (List.mem_cons_of_mem _ hz)) hn'.2 hp'.2 g hg
theorem rest_ok {F:Nat} (hF:400 ≤ F) {p:Pln} (hp:PShort p) (hv:PV p) {f:List Int} (h:Hol p (rulesS p) f) {a:ByteArray} {i:Nat} (hi:i < p.1.length) (ha:a ∈ (p.1[i]).2.2.2.2.1):∃ r e,c41 F (p,f,a) = some (r,e) ∧ (e = 7 ∨ e = 0 ∧ p.2.2 ≤ r) := by
 obtain ⟨L,h1,h2⟩ := l91 hF hv h.tok (a := a)
 have hn1 := hv.n1
 have hmem:∀ y,y ∈ L ↔ y ∈ needL p a := fun y=>h2.mem
 have hnl:(needL p a).length ≤ 24 := by
  have := ifl_len (needR_len a) p.1 0
  unfold needL
  omega
 have hLl:L.length ≤ 24 := by rw [h2.len]; exact hnl
 have hs:soundE p f = 0 := by unfold soundE; rw [if_pos hv.er]; exact h.form hv
 have e := l41 hF hp (t := f) (by rw [h.len]; omega) (a := a) (L := L) (fun _=>h1) (fun y hy=>needL_in y ((hmem y).1 hy)) hLl
 rw [if_pos hs] at e
 have hi' := (hmem _).2 (mem_need hi ha)
 cases L with
 | nil=>cases hi'
 | cons x l =>
  rw [if_neg (by simp)] at e
  have hnd:(x :: l).Nodup := (h2.1.nodup_iff).2 ((need_asc a p.1 0).1.imp fun hlt e=>by omega)
  have hg := gaps_ok hv h l x (fun y hy=>(hmem y).1 hy) hnd h2.2.1
  cases hgs:gapsS p f x l with
  | nil =>
   simp only [restV,hgs] at e
   exact ⟨0,7,e,.inl rfl⟩
  | cons g gs =>
   simp only [restV,hgs] at e
   rw [hgs] at hg
   exact ⟨minL g gs,0,e,.inr ⟨rfl,minL_le (hg g (List.mem_cons_self ..)) fun z hz=>hg z (List.mem_cons_of_mem _ hz)⟩⟩
end Go.Proofs.Tryz
namespace Go.Sx
open Go
def bk (s:ByteArray):List UInt8 := s.data.toList
theorem bk_inj {a b:ByteArray} (h:bk a = bk b):a = b := by
 cases a; cases b
 simp only [bk] at h
 simpa using h
def ltS (a b:ByteArray):Bool := decide (bk a < bk b)
theorem ltS_irr (a:ByteArray):ltS a a = false := by simp [ltS]
theorem ltS_trans {a b c:ByteArray} (h:ltS a b = true) (k:ltS b c = true):ltS a c = true := by
 simp only [ltS,decide_eq_true_eq] at *
 exact List.lt_trans h k
theorem ltS_tri {a b:ByteArray} (h:ltS a b = false) (k:ltS b a = false):a = b := by
 simp only [ltS,decide_eq_false_iff_not] at *
 exact bk_inj (List.le_antisymm (List.not_lt.1 k) (List.not_lt.1 h))
def AscS (l:List ByteArray):Prop := l.Pairwise fun a b=>ltS a b = true
theorem AscS.ext {l m:List ByteArray} (hl:AscS l) (hm:AscS m) (h:∀ x,x ∈ l ↔ x ∈ m):l = m := by
 have nd:∀ {l:List ByteArray},AscS l → l.Nodup := fun hl=>hl.imp fun {a b} h e=>by
  subst e; rw [ltS_irr] at h; cases h
 refine List.Perm.eq_of_pairwise (le := fun a b=>ltS a b = true) (fun a b _ _ h1 h2=>?_) hl hm ((List.perm_ext_iff_of_nodup (nd hl) (nd hm)).2 h)
 have := ltS_trans h1 h2
 rw [ltS_irr] at this; cases this
def insU (x:ByteArray × Int):List (ByteArray × Int) → List (ByteArray × Int)
 | []=>[x]
 | y :: l=>if ltS y.1 x.1 = true then y :: insU x l else if y.1 = x.1 then (y.1,y.2 + x.2) :: l else x :: y :: l
theorem insU_mem (x:ByteArray × Int) {k:ByteArray}:∀ {l:List (ByteArray × Int)},k ∈ (insU x l).map (·.1) ↔ k = x.1 ∨ k ∈ l.map (·.1)
 | []=>by simp [insU]
 | y :: l=>by
  unfold insU
  split
  ·simp only [List.map_cons,List.mem_cons,insU_mem x (l := l)]
   exact ⟨fun h=>by rcases h with h | h | h <;> simp [h],fun h=>by rcases h with h | h | h <;> simp [h]⟩
  ·split
   ·rename_i e
    simp only [List.map_cons,List.mem_cons,e]
    exact ⟨fun h=>by rcases h with h | h <;> simp [h],fun h=>by rcases h with h | h | h <;> simp [h]⟩
   ·simp only [List.map_cons,List.mem_cons]
theorem insU_asc (x:ByteArray × Int):∀ {l:List (ByteArray × Int)},AscS (l.map (·.1)) → AscS ((insU x l).map (·.1))
 | [],_=>List.pairwise_singleton ..
 | y :: l,h=>by
  have h' := List.pairwise_cons.1 h
  unfold insU
  split
  ·rename_i hy
   refine List.pairwise_cons.2 ⟨fun k hk=>?_,insU_asc x h'.2⟩
   rcases (insU_mem x).1 hk with rfl | hk
   ·exact hy
   ·exact h'.1 k hk
  ·rename_i hy
   split
   ·exact h
   ·rename_i hne
    refine List.pairwise_cons.2 ⟨fun k hk=>?_,h⟩
    have hxy:ltS x.1 y.1 = true := by
     cases hb:ltS x.1 y.1 with
     | true=>rfl
     | false=>exact absurd (ltS_tri (Bool.eq_false_iff.2 hy) hb) hne
    simp only [List.map_cons,List.mem_cons] at hk
    rcases hk with rfl | hk
    ·exact hxy
    ·exact ltS_trans hxy (h'.1 k hk)
theorem mget_none {k:ByteArray}:∀ {l:List (ByteArray × Int)},k ∉ l.map (·.1) → mgetD strEq k l 0 = 0
 | [],_=>rfl
 | y :: l,h=>by
  simp only [List.map_cons,List.mem_cons,not_or] at h
  rw [mgetD_cons,if_neg (fun e=>h.1 (strEq_true.1 e))]
  exact mget_none h.2
theorem insU_get (x:ByteArray × Int) {k:ByteArray}:∀ {l:List (ByteArray × Int)},AscS (l.map (·.1)) → mgetD strEq k (insU x l) 0 = if k = x.1 then mgetD strEq k l 0 + x.2 else mgetD strEq k l 0
 | [],_=>by
  unfold insU
  rw [mgetD_cons,mgetD_nil]
  by_cases h:k = x.1
  ·rw [if_pos (strEq_true.2 h),if_pos h]; omega
  ·rw [if_neg (fun e=>h (strEq_true.1 e)),if_neg h]
 | y :: l,h=>by
  have h' := List.pairwise_cons.1 h
  unfold insU
  split
  ·rename_i hy
   rw [mgetD_cons,mgetD_cons,insU_get x h'.2]
   by_cases hk:k = y.1
   ·rw [if_pos (strEq_true.2 hk),if_pos (strEq_true.2 hk)]
    have:k ≠ x.1 := fun e=>by rw [← hk,e,ltS_irr] at hy; cases hy
    rw [if_neg this]
   ·rw [if_neg (fun e=>hk (strEq_true.1 e)),if_neg (fun e=>hk (strEq_true.1 e))]
  ·rename_i hy
   split
   ·rename_i e
    rw [mgetD_cons,mgetD_cons]
    by_cases hk:k = y.1
    ·rw [if_pos (strEq_true.2 hk),if_pos (strEq_true.2 hk),if_pos (hk.trans e)]
    ·rw [if_neg (fun e=>hk (strEq_true.1 e)),if_neg (fun e=>hk (strEq_true.1 e)),if_neg (fun e'=>hk (e'.trans e.symm))]
   ·rename_i hne
    rw [mgetD_cons (e := x)]
    by_cases hk:k = x.1
    ·rw [if_pos (strEq_true.2 hk),if_pos hk,mget_none,Int.zero_add]
     simp only [List.map_cons,List.mem_cons,not_or]
     have hxy:ltS x.1 y.1 = true := by
      cases hb:ltS x.1 y.1 with
      | true=>rfl
      | false=>exact absurd (ltS_tri (Bool.eq_false_iff.2 hy) hb) hne
     refine ⟨fun e=>hne (e.symm.trans hk),fun hm=>?_⟩
     have := ltS_trans hxy (h'.1 k hm)
     rw [hk,ltS_irr] at this; cases this
    ·rw [if_neg (fun e=>hk (strEq_true.1 e)),if_neg hk]
def putU (m:List (ByteArray × Int)) (x:ByteArray × Int):List (ByteArray × Int) := mput strEq x.1 (mgetD strEq x.1 m 0 + x.2) m
theorem mput_mem {k x:ByteArray} {v:Int}:∀ {l:List (ByteArray × Int)},k ∈ (mput strEq x v l).map (·.1) ↔ k = x ∨ k ∈ l.map (·.1)
 | []=>by simp [mput_nil]
 | y :: l=>by
  rw [mput_cons]
  split
  ·rename_i e
   have e := strEq_true.1 e
   simp only [List.map_cons,List.mem_cons,← e]
   exact ⟨fun h=>by rcases h with h | h <;> simp [h],fun h=>by rcases h with h | h | h <;> simp [h]⟩
  ·simp only [List.map_cons,List.mem_cons,mput_mem (l := l)]
   exact ⟨fun h=>by rcases h with h | h | h <;> simp [h],fun h=>by rcases h with h | h | h <;> simp [h]⟩
theorem mput_nodup {x:ByteArray} {v:Int}:∀ {l:List (ByteArray × Int)},(l.map (·.1)).Nodup → ((mput strEq x v l).map (·.1)).Nodup
 | [],_=>by simp [mput_nil]
 | y :: l,h=>by
  rw [mput_cons]
  rw [List.map_cons,List.nodup_cons] at h
  split
  ·rename_i e
   have e := strEq_true.1 e
   rw [List.map_cons,List.nodup_cons,e]
   exact h
  ·rename_i hne
   rw [List.map_cons,List.nodup_cons]
   refine ⟨fun hm=>?_,mput_nodup h.2⟩
   rcases mput_mem.1 hm with hm | hm
   ·exact hne (strEq_true.2 hm.symm)
   ·exact h.1 hm
structure SameU (m r:List (ByteArray × Int)):Prop where
 nd:(m.map (·.1)).Nodup
 asc:AscS (r.map (·.1))
 mem:∀ k,k ∈ m.map (·.1) ↔ k ∈ r.map (·.1)
 get:∀ k,mgetD strEq k m 0 = mgetD strEq k r 0
theorem SameU.nil:SameU [] [] := ⟨List.nodup_nil,List.Pairwise.nil,fun _=>Iff.rfl,fun _=>rfl⟩
theorem SameU.put {m r:List (ByteArray × Int)} (h:SameU m r) (x:ByteArray × Int):SameU (putU m x) (insU x r) := by
 refine ⟨mput_nodup h.nd,insU_asc x h.asc,fun k=>?_,fun k=>?_⟩
 ·unfold putU
  rw [mput_mem,insU_mem,h.mem]
 ·unfold putU
  rw [mgetD_mput strEq_iff,insU_get x h.asc]
  by_cases e:k = x.1
  ·rw [if_pos (strEq_true.2 e),if_pos e,e,h.get]
  ·rw [if_neg (fun e'=>e (strEq_true.1 e')),if_neg e,h.get]
theorem get_self:∀ {r:List (ByteArray × Int)},AscS (r.map (·.1)) → (r.map (·.1)).map (fun k=>(k,mgetD strEq k r 0)) = r
 | [],_=>rfl
 | y :: l,h=>by
  have h' := List.pairwise_cons.1 h
  simp only [List.map_cons,mgetD_cons]
  rw [if_pos (strEq_true.2 rfl)]
  refine congrArg _ ?_
  have:∀ k ∈ l.map (·.1),(k,if strEq k y.1 = true then y.2 else mgetD strEq k l 0) = (k,mgetD strEq k l 0) := fun k hk=>by
   have h1 := h'.1 k hk
   rw [if_neg fun e=>?_]
   rw [strEq_true.1 e,ltS_irr] at h1; cases h1
  rw [List.map_congr_left this]
  exact get_self h'.2
theorem insD_perm {H:Type} (x:Lit × DataW H):∀ l:List (Lit × DataW H),(DataW.insert x l).Perm (x :: l)
 | []=>.refl _
 | y :: r=>by
  unfold DataW.insert
  split
  ·exact .refl _
  ·exact ((insD_perm x r).cons y).trans (.swap x y r)
theorem foldD_perm {H:Type}:∀ l:List (Lit × DataW H),(l.foldr DataW.insert []).Perm l
 | []=>.refl _
 | x :: l=>by
  rw [List.foldr_cons]
  exact (insD_perm x _).trans ((foldD_perm l).cons x)
theorem keysD_perm (l:List ByteArray):(keysD l).Perm (l.map bk) := by
 unfold keysD
 show ((List.foldr DataW.insert [] (l.map keyD)).map fun (p:Lit × DataW Unit)=>Go.strOf p.1).Perm _
 refine ((foldD_perm _).map _).trans ?_
 rw [List.map_map]
 exact .refl _
theorem skeys_perm (l:List ByteArray):(skeys l).Perm l := by
 unfold skeys
 have h := ((List.mergeSort_perm (keysD l) Go.leB).trans (keysD_perm l)).map (fun b:List UInt8=>(⟨b.toArray⟩:ByteArray))
 rw [List.map_map] at h
 have e:((fun b:List UInt8=>(⟨b.toArray⟩:ByteArray)) ∘ bk) = id := funext fun s=>by
  cases s
  simp [bk]
 rw [e,List.map_id] at h
 exact h
theorem skeys_asc {l:List ByteArray} (h:l.Nodup):AscS (skeys l) := by
 have tr:∀ a b c:List UInt8,Go.leB a b = true → Go.leB b c = true → Go.leB a c = true := fun a b c h1 h2=>by simp only [Go.leB,decide_eq_true_eq] at *; exact List.le_trans h1 h2
 have to:∀ a b:List UInt8,(Go.leB a b || Go.leB b a) = true := fun a b=>by simp only [Go.leB,Bool.or_eq_true,decide_eq_true_eq]; exact List.le_total a b
 have h1 := List.pairwise_mergeSort tr to (keysD l)
 have hnd:(skeys l).Nodup := (skeys_perm l).nodup_iff.2 h
 unfold skeys at hnd ⊢
 unfold AscS
 rw [List.pairwise_map]
 have hnd' := List.pairwise_map.1 hnd
 refine (h1.and hnd').imp fun {a b} ⟨hab,hne⟩=>?_
 simp only [Go.leB,decide_eq_true_eq] at hab
 show decide (bk ⟨a.toArray⟩ < bk ⟨b.toArray⟩) = true
 rw [decide_eq_true_eq]
 show a < b
 by_cases hba:b ≤ a
 ·exact absurd (by rw [List.le_antisymm hab hba]) hne
 ·exact List.not_le.1 hba
theorem SameU.res {m r:List (ByteArray × Int)} (h:SameU m r):(skeysM m).map (fun k=>(k,mgetD strEq k m 0)) = r := by
 have e:skeysM m = r.map (·.1) := by
  refine AscS.ext (skeys_asc h.nd) h.asc fun x=>?_
  rw [← h.mem]
  exact (skeys_perm (mkeys m)).mem_iff
 rw [e]
 simp only [h.get]
 exact get_self h.asc
end Go.Sx
