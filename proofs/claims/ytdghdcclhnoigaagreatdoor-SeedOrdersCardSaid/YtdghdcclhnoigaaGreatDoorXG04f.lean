/- Plain law: the order of entrants, put in one after another. Plain law: the order of entrants, both the same. And further parts. -/
import Derived.Test.YtdghdcclhnoigaaGreatDoorXP8d
import Derived.Test.YtdghdcclhnoigaaGreatDoorXTryzA
import Derived.Test.YtdghdcclhnoigaaGreatDoorXE04
import Derived.Test.YtdghdcclhnoigaaGreatDoorXTryzN
set_option maxRecDepth 100000
set_option linter.unusedVariables false
set_option linter.unusedSimpArgs false
set_option linter.all false
namespace Go.Proofs.Tryz
open Go Go.Sx
theorem bind_inv {σ β γ:Type} {step:σ → Option (σ ⊕ β)} {F:Nat} {t:σ} {k:β → Option γ} {P:γ → Prop} (Inv:σ → Prop) (m:σ → Nat) (Post:β → Prop)
  (h:∀ x,Inv x → (∃ y,step x = some (.inl y) ∧ Inv y ∧ m y < m x) ∨ ∃ b,step x = some (.inr b) ∧ Post b) (h0:Inv t) (hF:m t < F) (hk:∀ b,Post b → ∃ r,k b = some r ∧ P r):∃ r,Option.bind (loopO step F t) k = some r ∧ P r := by
 obtain ⟨b,h1,h2⟩ := loopO_ex Inv m Post h F t h0 hF
 rw [h1]
 exact hk b h2
theorem pairEq_self {α β:Type} {f:α → α → Bool} {g:β → β → Bool} (hf:∀ x,f x x = true) (hg:∀ x,g x x = true) (x:α × β):pairEq f g x x = true := by
 simp only [pairEq,hf,hg]
theorem stab_ins {lt:Int → Int → Bool} {D:Int → Prop} (ho:LtOn lt D) {l o:List Int} {x:Int} {n:Nat} (hD:∀ y ∈ l,D y) (hx:D x) (h:StabS lt l o) (hn:n ≤ o.length) (h2:∀ y ∈ o.drop n,lt x y = true) (h1:n = 0 ∨ lt x (o.getD (n - 1) 0) = false) :
  StabS lt (l ++ [x]) (o.take n ++ x :: o.drop n) := by
 have hDo:∀ y ∈ o,D y := fun y hy=>hD y (h.mem.1 hy)
 have e:o.take n ++ o.drop n = o := List.take_append_drop n o
 have hp := StabS.put ho (S1 := o.take n) (S2 := o.drop n) (x := x) (by
  rw [e]
  intro y hy
  rcases List.mem_append.1 hy with hy | hy
  ·exact hDo y hy
  ·rw [List.mem_singleton.1 hy]; exact hx) (by rw [e]; exact h.2.1) (by
  intro y hy
  rcases h1 with h1 | h1
  ·rw [h1] at hy; simp at hy
  ·by_cases hn0:n = 0
   ·rw [hn0] at hy; simp at hy
   ·have hz:o[n - 1]? = some (o.getD (n - 1) 0) := by
     rw [List.getD_eq_getElem?_getD,List.getElem?_eq_getElem (show n - 1 < o.length by omega)]; rfl
    have hzm := List.mem_of_getElem? hz
    unfold leB
    cases q:lt x y with
    | false=>rfl
    | true =>
     exfalso
     obtain ⟨k,hk,ek⟩ := List.mem_iff_getElem.1 hy
     rw [List.length_take] at hk
     rw [List.getElem_take] at ek
     have hle:leB lt y (o.getD (n - 1) 0) := by
      by_cases hkn:k = n - 1
      ·have:o.getD (n - 1) 0 = y := by
        rw [← ek,getD_some (List.getElem?_eq_getElem (show n - 1 < o.length by omega))]
        congr 1; omega
       rw [this]
       exact ho.irr (hDo y (List.mem_of_mem_take hy))
      ·have := List.pairwise_iff_getElem.1 h.2.1 k (n - 1) (by omega) (by omega) (by omega)
       rw [ek] at this
       rw [getD_some (List.getElem?_eq_getElem (show n - 1 < o.length by omega))]
       exact this
     have := ho.lt_le hx (hDo y (List.mem_of_mem_take hy)) (hDo _ hzm) q hle
     rw [h1] at this
     cases this) h2
 rw [e] at hp
 refine StabS.pre ?_ ?_ hp
 ·exact h.1.append_right [x]
 ·intro y hy
  have hyD:D y := by
   rcases List.mem_append.1 hy with hy | hy
   ·exact hD y hy
   ·rw [List.mem_singleton.1 hy]; exact hx
  rw [List.filter_append,List.filter_append,h.filt ho hD hyD]
theorem listEq_self {α:Type} {f:α → α → Bool} (hf:∀ x,f x x = true):∀ (l:List α),listEq f l l = true
 | []=>rfl
 | x :: l=>by simp only [listEq,hf x]; exact listEq_self hf l
theorem eq23 (x:List Int × Int) (f):sumEq (CEls.eqv (Cel.slot 6 (ATy.val (Ty.seq (Ty.int Go.IntKind.i64 :: nilT Ty))) :: Cel.slot 7 (ATy.val (Ty.int Go.IntKind.i64)) :: nilT Cel)) (β := AltsEl ((Go.Exit.exit 0,{ cells := Cel.slot 6 (ATy.val (Ty.seq (Ty.int Go.IntKind.i64 :: nilT Ty))) :: nilT Cel,owns := nilT (Nat × Lk) }) :: nilT (Go.Exit × Tmpl))) f (.inl x) (.inl x) = true := by
 exact pairEq_self (f := listEq intEq) (g := intEq) (listEq_self (fun x=>by simp [intEq])) (fun x=>by simp [intEq]) x
theorem drawS_in {key:Int} {n:Nat} (h1:1 ≤ key) (h2:key < 2147483647):∀ x ∈ drawS key n,InE n x := fun x hx=>mem_ids.1 ((drawS_perm (by omega) h2 n).mem_iff.1 hx)
theorem drawS_len {key:Int} {n:Nat} (h1:1 ≤ key) (h2:key < 2147483647):(drawS key n).length = n := by rw [(drawS_perm (by omega) h2 n).length_eq,ids_length]
theorem l23 {F:Nat} (hF:400 ≤ F) {l:List Ent} (h:EntOk l) {key:Int} (h1:1 ≤ key) (h2:key < 2147483647):∃ L,c23 F (l,key) = some L ∧ StabS (ltE l) (drawS key l.length) L := by
 unfold c23
 have hlen := h.len
 simp only [l59 hF h1 h2 (show l.length ≤ 256 by omega),Option.bind_some]
 have hD := drawS_in (n := l.length) h1 h2
 have hdl := drawS_len (n := l.length) h1 h2
 generalize drawS key l.length = d at hD hdl
 refine bind_sim d (fun _ (_:Unit)=>.inl ()) (fun _=>()) (fun i _ t=>t.2 = (i:Int) ∧ StabS (ltE l) (d.take i) t.1) (fun _ (b:List Int)=>StabS (ltE l) d b) () (by omega) ⟨rfl,StabS.nil⟩ ?_ ?_ ?_
 ·intro i x _ t hi hx ⟨ht,hs⟩
  obtain ⟨o,ti⟩ := t
  simp only at ht hs
  subst ht
  have hxD := hD x (List.mem_of_getElem? hx)
  have hol := hs.len
  rw [len_take (by omega)] at hol
  have hoD:∀ y ∈ o,InE l.length y := fun y hy=>hD y (List.mem_of_mem_take (hs.mem.1 hy))
  obtain ⟨x',hx',ex⟩ := atE_get hxD
  have hx1 := hxD.1
  have hx2 := hxD.2
  have hx'm := List.mem_of_getElem? hx'
  simp (disch := omega) only [cd_pos,gd_dec,Int.toNat_natCast,getD_some hx]
  refine bind_inv (fun v:Int=>∃ n:Nat,v = n ∧ n ≤ o.length ∧ ∀ y ∈ o.drop n,ltE l x y = true) (fun v:Int=>v.toNat)
   (fun b:Int=>∃ n:Nat,b = n ∧ n ≤ o.length ∧ (∀ y ∈ o.drop n,ltE l x y = true) ∧ (n = 0 ∨ ltE l x (o.getD (n - 1) 0) = false)) ?_ ⟨o.length,rfl,Nat.le_refl _,by simp⟩ (by omega) ?_
  ·rintro v ⟨n,rfl,hn,hy⟩
   by_cases h0:n = 0
   ·subst h0
    right
    exact ⟨0,rfl,0,rfl,by omega,hy,.inl rfl⟩
   ·have hw:w64 ((n:Int) - 1) = ((n - 1:Nat):Int) := by rw [w64_in (by omega) (by omega)]; omega
    have hz:o[n - 1]? = some (o[n - 1]'(by omega)) := List.getElem?_eq_getElem (by omega)
    have hzm := hoD _ (List.mem_of_getElem? hz)
    generalize hzz:o[n - 1]'(by omega) = z at hz hzm
    obtain ⟨z',hz',ez⟩ := atE_get hzm
    have hz1 := hzm.1
    have hz2 := hzm.2
    have hz'm := List.mem_of_getElem? hz'
    simp (disch := omega) only [cd_pos,hw,gd_dec,Int.toNat_natCast,getD_some hz,getD_some hx',getD_some hz',l60 F (h.one x' hx'm).2.2 (h.one z' hz'm).2.2 (h.kinds x' hx'm z' hz'm),Option.bind_some,cmpI_neg]
    have e:decide (wE z' < wE x') = ltE l x z := by rw [ltE,ex,ez]
    rw [e]
    cases q:ltE l x z with
    | true =>
     left
     refine ⟨((n - 1:Nat):Int),rfl,⟨n - 1,rfl,by omega,fun y hyd=>?_⟩,by omega⟩
     rw [List.drop_eq_getElem_cons (show n - 1 < o.length by omega),show n - 1 + 1 = n by omega] at hyd
     rcases List.mem_cons.1 hyd with rfl | hyd
     ·rw [hzz]; exact q
     ·exact hy y hyd
    | false =>
     right
     exact ⟨(n:Int),rfl,n,rfl,hn,hy,.inr (by rw [getD_some hz]; exact q)⟩
  ·rintro b ⟨n,rfl,hn,hn2,hn1⟩
   have hs' := stab_ins (ltE_on l l.length) (x := x) (n := n) (fun y hy=>hD y (List.mem_of_mem_take hy)) hxD hs hn hn2 hn1
   have et:d.take i ++ [x] = d.take (i + 1) := take_snoc hx
   rw [et] at hs'
   have e1:nilT Int ++ List.drop 0 (List.take n o) ++ x :: nilT Int ++ List.drop n (List.take o.length o) = o.take n ++ x :: o.drop n := by simp [nilT]
   have e2:(nilT Int ++ List.drop 0 (List.take n o)).length = n := by simp [nilT]; omega
   have e3:(nilT Int ++ List.drop 0 (List.take n o) ++ x :: nilT Int).length = n + 1 := by simp [nilT]; omega
   have e4:(o.take n ++ x :: o.drop n).length = i + 1 := by simp; omega
   simp (disch := omega) only [gd_dec,Int.toNat_natCast,e1,e2,e3,e4,w64_in,Nat.zero_add,Nat.le_refl,decide_true,Bool.and_true,Bool.true_and,gd_true,Option.bind_some]
   have e5:List.take (i + 1) (List.drop 0 (o.take n ++ x :: o.drop n)) = o.take n ++ x :: o.drop n := by rw [List.drop_zero,List.take_of_length_le (by omega)]
   have e6 := eq23 (List.take (i + 1) (List.drop 0 (o.take n ++ x :: o.drop n)),(i:Int) + 1)
   refine ⟨.inl (List.take (i + 1) (List.drop 0 (o.take n ++ x :: o.drop n)),(i:Int) + 1),(congrArg (fun z=>Option.bind z _) (gd_of (e6 _))).trans (gd_of (e6 _)),?_⟩
   exact ⟨by simp,by rw [e5]; exact hs'⟩
 ·intro _ t ⟨ht,hs⟩
  rw [List.take_length] at hs
  simp (disch := omega) only [cd_neg]
  exact ⟨t.1,rfl,hs⟩
 ·intro b hb
  exact ⟨b,rfl,hb⟩
end Go.Proofs.Tryz
section
namespace Go.Proofs.Tryz
open Go Go.Sx
open Classical in
noncomputable def ordE (l:List Ent) (key:Int):List Int := if h:∃ L,StabS (ltE l) (drawS key l.length) L then Classical.choose h else []
theorem ordE_of {l:List Ent} {key:Int} (h1:1 ≤ key) (h2:key < 2147483647) {L:List Int} (h:StabS (ltE l) (drawS key l.length) L):L = ordE l key := by
 have he:∃ L,StabS (ltE l) (drawS key l.length) L := ⟨L,h⟩
 unfold ordE
 rw [dif_pos he]
 exact StabS.unique (ltE_on l l.length) (drawS_in h1 h2) h (Classical.choose_spec he)
theorem ordE_stab {F:Nat} (hF:400 ≤ F) {l:List Ent} (h:EntOk l) {key:Int} (h1:1 ≤ key) (h2:key < 2147483647):c23 F (l,key) = some (ordE l key) ∧ StabS (ltE l) (drawS key l.length) (ordE l key) := by
 obtain ⟨L,e,hL⟩ := l23 hF h h1 h2
 rw [← ordE_of h1 h2 hL]
 exact ⟨e,hL⟩
def drawE (key:Int) (n:Nat):Int := if key < 1 ∨ 2147483646 < key ∨ 256 < n then 3 else 0
theorem l79 {F:Nat} (hF:400 ≤ F) {l:List Ent} (hl:l.length ≤ 300) (hS:∀ x ∈ l,EntS x) {key:Int}:c79 F (l,key) = some (if entC l ≠ 0 then ([],entC l) else if drawE key l.length ≠ 0 then ([],3) else (ordE l key,0)) := by
 unfold c79
 simp only [l19 hF hl hS,Option.bind_some,l105]
 by_cases h0:entC l = 0
 ·have hok := entC_ok h0
  have hlen := hok.len
  simp only [h0,decide_true,Bool.not_true,cond_false,ne_eq,not_true_eq_false,if_false]
  unfold drawE
  by_cases hb:key < 1 ∨ 2147483646 < key ∨ 256 < l.length
  ·rw [if_pos hb,if_pos (by decide)]
   have:(bif decide (key < 1 ∨ 2147483646 < key) then some true else some (decide (256 < (l.length:Int)))) = some true := by
    by_cases h:key < 1 ∨ 2147483646 < key
    ·simp [h]
    ·have:256 < (l.length:Int) := by omega
     simp [h,this]
   rw [this]
   rfl
  ·rw [if_neg hb,if_neg (by simp)]
   have:(bif decide (key < 1 ∨ 2147483646 < key) then some true else some (decide (256 < (l.length:Int)))) = some false := by
    have h:¬ (key < 1 ∨ 2147483646 < key) := by omega
    have:¬ (256 < (l.length:Int)) := by omega
    simp [h,this]
   have h1:1 ≤ key := by omega
   have h2:key < 2147483647 := by omega
   have hn:l.length ≤ 256 := by omega
   have hdl := drawS_len (n := l.length) h1 h2
   have hD := drawS_in (n := l.length) h1 h2
   obtain ⟨L,hL,hst⟩ := l106 hF hok hD (by omega) (by omega)
   have eL := ordE_of h1 h2 hst
   have hLl := hst.len
   rw [hdl] at hLl
   rw [this]
   generalize hnn:l.length = n at hdl hLl hL hn ⊢
   simp (disch := omega) only [gd_dec,Int.toNat_natCast,Option.bind_some,cond_false]
   refine bind_list (List.replicate n ()) (fun (_:Unit) i=>(ids i ++ List.replicate (n - i) (0:Int),(i:Int))) (fun _ _=>.inl ()) (fun _=>ids n) (fun _ _=>True) () (by simp; omega) (by simp [ids]) trivial ?_ ?_ ?_
   ·intro i x s hi hx _
    simp only [List.length_replicate] at hi
    have hl:(ids i ++ List.replicate (n - i) (0:Int)).length = n := by simp [ids_length]; omega
    refine ⟨?_,fun _ _=>trivial⟩
    simp (disch := omega) only [cd_pos,gd_dec,Nat.zero_add,Int.toNat_natCast,hl,set_ids hi,w64_in]
    simp
   ·intro s _
    simp (disch := omega) only [List.length_replicate,cd_neg]
    simp
   ·rw [goL_unit]
    refine bind_list (List.replicate (n - 1) ()) (fun s _=>s) drawB (fun s=>s.1) (DrawI n) (ids n,key,(n:Int) - 1) (by simp; omega) ?_ ⟨ids_length n,by simp only; omega,h2,by simp⟩ ?_ ?_ ?_
    ·rw [w64_in (by omega) (by omega)]
    ·intro i x s hi hx hI
     simp only [List.length_replicate] at hi
     refine ⟨?_,fun s' hs=>drawB_inv hi hI hs⟩
     obtain ⟨out,key,j⟩ := s
     obtain ⟨h1,h2,h3,h4⟩ := hI
     simp only at h1 h2 h3 h4
     have k1:0 ≤ Int.tmod (69621 * key) 2147483647 := Int.tmod_nonneg _ (by omega)
     have m1:0 ≤ Int.tmod (Int.tmod (69621 * key) 2147483647) (j + 1) := Int.tmod_nonneg _ k1
     have m2:Int.tmod (Int.tmod (69621 * key) 2147483647) (j + 1) < j + 1 := Int.tmod_lt_of_pos _ (by omega)
     simp only [drawB]
     simp (disch := omega) only [w64_in,cd_pos]
     generalize Int.tmod (Int.tmod (69621 * key) 2147483647) (j + 1) = q at m1 m2
     simp (disch := omega) only [gd_dec,Nat.zero_add,List.length_set]
    ·intro s ⟨h1,h2,h3,h4⟩
     simp only [List.length_replicate] at h4
     simp (disch := omega) only [cd_neg]
    ·change Option.bind (gd (decide (n = (drawS key n).length) && (true && true) && (true && true)) (some (drawS key n,l))) _ = _
     rw [hdl,decide_eq_true rfl]
     simp only [Bool.and_self,gd_true,Option.bind_some,hL]
     rw [hLl,gd_of (by simp),List.drop_zero,List.take_of_length_le (by omega),eL]
 ·simp [h0,nilT]
end Go.Proofs.Tryz
end
namespace Go.Proofs.Tryz
open Go Go.Sx
theorem nodup_sub {α:Type} [DecidableEq α]:∀ (l m:List α),l.Nodup → (∀ x ∈ l,x ∈ m) → l.length ≤ m.length
 | [],m,_,_=>by simp
 | x :: l,m,h,hs=>by
  rw [List.nodup_cons] at h
  have hx := hs x List.mem_cons_self
  have := nodup_sub l (m.erase x) h.2 (fun y hy=>by
   have hne:y ≠ x := fun e=>h.1 (e ▸ hy)
   exact (List.mem_erase_of_ne hne).2 (hs y (List.mem_cons_of_mem _ hy)))
  rw [List.length_erase_of_mem hx] at this
  have := List.length_pos_of_mem hx
  simp only [List.length_cons]
  omega
theorem ids_nodup (n:Nat):(ids n).Nodup := by
 unfold ids
 refine List.Pairwise.map _ (fun a b h=>?_) List.nodup_range
 intro e
 exact h (by omega)
def FormI (n:Nat) (s:List Int):Prop := s.Nodup ∧ ∀ x ∈ s,InE n x
theorem FormI.len {n:Nat} {s:List Int} (h:FormI n s):s.length ≤ n := by
 have := nodup_sub s (ids n) h.1 (fun x hx=>mem_ids.2 (h.2 x hx))
 rwa [ids_length] at this
theorem FormI.all {n:Nat} {s:List Int} (h:FormI n s):s.length < n ↔ ∃ k ∈ ids n,k ∉ s := by
 constructor
 ·intro hl
  refine Classical.byContradiction fun hc=>?_
  have := nodup_sub (ids n) s (ids_nodup n) (fun x hx=>Classical.byContradiction fun hx'=>hc ⟨x,hx,hx'⟩)
  rw [ids_length] at this
  omega
 ·rintro ⟨k,hk,hks⟩
  have := nodup_sub (k :: s) (ids n) (List.nodup_cons.2 ⟨hks,h.1⟩) (fun x hx=>by
   rcases List.mem_cons.1 hx with rfl | hx
   ·exact hk
   ·exact mem_ids.2 (h.2 x hx))
  rw [ids_length,List.length_cons] at this
  omega
theorem FormI.cons {n:Nat} {s:List Int} (h:FormI n s) {x:Int} (h1:¬ (x < 0 ∨ (n:Int) ≤ x)) (h2:x ∉ s):FormI n (x :: s) :=
 ⟨List.nodup_cons.2 ⟨h2,h.1⟩,fun y hy=>by
  rcases List.mem_cons.1 hy with rfl | hy
  ·exact ⟨by omega,by omega⟩
  ·exact h.2 y hy⟩
def SeenN (n:Nat) (s:List Int) (m:List Bool):Prop := m.length = n ∧ ∀ k:Nat,k < n → m.getD k false = decide ((k:Int) ∈ s)
theorem SeenN.put {n:Nat} {s:List Int} {m:List Bool} (h:SeenN n s m) {x:Int} (h0:0 ≤ x) (h1:x < n):SeenN n (x :: s) (m.set x.toNat true) := by
 refine ⟨by simp [h.1],fun k hk=>?_⟩
 have := h.2 k hk
 have hm := h.1
 by_cases e:x.toNat = k
 ·subst e
  have:((x.toNat:Nat):Int) = x := by omega
  simp [List.getD,List.getElem?_set,hm,hk,this]
 ·have hne:(k:Int) ≠ x := by omega
  simp only [List.getD] at this ⊢
  rw [List.getElem?_set_ne (by omega),this]
  simp [hne]
theorem SeenN.nil (n:Nat):SeenN n [] (List.replicate n false) := ⟨by simp,fun k hk=>by rw [List.getD_eq_getElem?_getD,List.getElem?_replicate,if_pos hk]; simp⟩
end Go.Proofs.Tryz
section
namespace Go.Proofs.Tryz
open Go Go.Sx
end Go.Proofs.Tryz
end
section
namespace Go.Proofs.Tryz
open Go Go.Sx
end Go.Proofs.Tryz
end
namespace Go.Proofs.Tryz
open Go Go.Sx
def SeenC (s:List ByteArray) (m:List (ByteArray × Int)):Prop := ∀ c:ByteArray,mgetD strEq c m 0 = (s.countP fun y=>strEq c y:Int)
theorem SeenC.put {s:List ByteArray} {m:List (ByteArray × Int)} (h:SeenC s m) (x:ByteArray):SeenC (s ++ [x]) (mput strEq x ((s.countP fun y=>strEq x y:Int) + 1) m) := by
 intro c
 rw [mgetD_mput strEq_iff,h c,List.countP_append]
 by_cases e:c = x
 ·subst e
  simp [strEq_self]
 ·simp [strEq_false e]
noncomputable def lx4 (F:Nat):LK := lC (pc16_ok F) (lC (pc17_ok F) (lC (pc31_ok F) (lC (pc32_ok F) (lC (pc34_ok F) (lC (pc35_ok F) (lC (pc36_ok F) (lC (pc37_ok F) (lC (pc38_ok F) (lC (pc39_ok F) (lC (pc40_ok F) (lC (pc22_ok F) (lC (pc25_ok F) (lC (pc26_ok F) (lC (pc33_ok F) (lC (pc18_ok F) (lC (pc15_ok F) lN))))))))))))))))
noncomputable def pc4 (F:Nat):PC := qT (lx4 F) (.two .leaf (.two .leaf (.two (.two (.join [(.normal,⟨[.slot 29 (.val (.bool))],[]⟩)] ⟨[29,28,27,26,25,24,23,22,21,20,19],[],[]⟩ .leaf) .leaf) (.two .leaf (.two .leaf (.two .leaf (.two .leaf (.two .leaf (.two (.two (.join [(.normal,⟨[.slot 78 (.val (.bool))],[]⟩)] ⟨[78,77,76,75,74,73,72,71,70,69,68,67,66,65,64,63,62,61,60,59,58,57,56],[],[]⟩ .leaf) .leaf) (.two (.two .leaf (.two (.two (.join [(.normal,⟨[.slot 6 (.val (.bool))],[]⟩)] ⟨[6,89,88,87,86,85,84,83,82,81],[],[]⟩ .leaf) .leaf) .leaf)) (.two .leaf (.two .leaf (.two (.two .leaf (.join [(.normal,⟨[.slot 16 (.val (.int .i64))],[]⟩)] ⟨[16,108,107,106,105,104,103],[],[]⟩ .leaf)) (.two (.two .leaf (.two (.two (.join [(.normal,⟨[.slot 6 (.val (.bool))],[]⟩)] ⟨[6,119,118,117,116,115,114,113,112,111],[],[]⟩ .leaf) .leaf) .leaf)) (.two (.join [(.normal,⟨[.slot 6 (.val (.bool))],[]⟩)] ⟨[6,130,129,128,127,126,125,124,123,122,121,120],[],[]⟩ .leaf) .leaf))))))))))))))) f4 [.val (.seq [.str,.str,.str,.int .i64,.str]),.val (.seq [.seq [.int .i64]]),.val (.int .i64)] [.val (.bool)]
noncomputable def c4 (F:Nat) := (pc4 F).code
theorem l22n (F:Nat) (key:Int) (n:Nat):c22 F (key,(n:Int)) = some (drawE key n) := by
 rw [l22]
 unfold drawE
 by_cases h:key < 1 ∨ 2147483646 < key ∨ 256 < n
 ·rw [if_pos h,if_pos (by omega)]
 ·rw [if_neg h,if_neg (by omega)]
theorem drawE_3 {key:Int} {n:Nat} (h:drawE key n ≠ 0):drawE key n = 3 := by
 unfold drawE at h ⊢
 split
 ·rfl
 ·rename_i q; rw [if_neg q] at h; exact absurd rfl h
theorem drawE_ok {key:Int} {n:Nat} (h:drawE key n = 0):1 ≤ key ∧ key < 2147483647 := by
 unfold drawE at h
 split at h
 ·cases h
 ·omega
end Go.Proofs.Tryz
section
namespace Go.Proofs.Tryz
open Go Go.Sx
end Go.Proofs.Tryz
end
section
namespace Go.Proofs.Tryz
open Go Go.Sx
end Go.Proofs.Tryz
end
section
namespace Go.Proofs.Tryz
open Go Go.Sx
end Go.Proofs.Tryz
end
namespace Go.Proofs.Tryz
open Go Go.Sx
theorem l20 {F:Nat} (hF:400 ≤ F) {l:List Ent} (hl:l.length ≤ 300) (hS:∀ x ∈ l,EntS x) {key:Int}:c20 F (l,key) = some (if entC l ≠ 0 then ([],entC l) else if drawE key l.length ≠ 0 then ([],3) else (ordE l key,0)) := by
 unfold c20
 simp only [l79 hF hl hS,Option.bind_some]
theorem ord_perm {l:List Ent} (h:EntOk l) {key:Int} (h1:1 ≤ key) (h2:key < 2147483647):(ordE l key).Perm (ids l.length) :=
 ((ordE_stab (F := 400) (by omega) h h1 h2).2.1).trans (drawS_perm (by omega) h2 _)
end Go.Proofs.Tryz
section
namespace Go.Proofs.Tryz
open Go Go.Sx
end Go.Proofs.Tryz
end
section
namespace Go.Proofs.Tryz
open Go Go.Sx
end Go.Proofs.Tryz
end
section
namespace Go.Proofs.Tryz
open Go Go.Sx
end Go.Proofs.Tryz
end
section
namespace Go.Proofs.Tryz
open Go Go.Sx
end Go.Proofs.Tryz
end
namespace Go.Proofs.Tryz
open Go Go.Sx
theorem m71 {F:Nat} {l:List Int} (hF:l.length < F) (hl:l.length ≤ 100000):c71 F (l,l) = some true := by
 unfold c71
 simp only [decide_true,Bool.not_true,cond_false]
 refine bind_list l (fun (_:Unit) i=>(i:Int)) (fun _ _=>.inl ()) (fun _=>.inr ()) (fun _ _=>True) () hF rfl trivial ?_ ?_ ?_
 ·intro i x _ hi hx _
  refine ⟨?_,fun _ _=>trivial⟩
  simp (disch := omega) only [cd_pos,gd_dec,Int.toNat_natCast,getD_some hx,w64_in]
  simp
 ·intro _ _
  simp (disch := omega) only [cd_neg]
 ·rw [goL_unit]; rfl
theorem m24_err {F:Nat} {b:Int} {w:List Int} (hb:b ≠ 0):c24 F ([],b,b,w) = some true := by
 unfold c24; simp [hb]
theorem m24_ok {F:Nat} {l:List Int} (hF:l.length < F) (hl:l.length ≤ 100000):c24 F (l,0,0,l) = some true := by
 unfold c24; simp [m71 hF hl]
theorem ShortR.one {l:List (List Run)} (h:ShortR l) {x:List Run} (hx:x ∈ l):ShortR [x] :=
 ⟨by simp,fun y hy=>by obtain rfl := List.mem_singleton.1 hy; exact h.2 _ hx⟩
def zhN (h r:Nat):Nat := if r / h % 2 = 1 then h - 1 - r % h else r % h
theorem zhN_lt {h:Nat} (h0:0 < h) (r:Nat):zhN h r < h := by
 have := Nat.mod_lt r h0
 unfold zhN; split <;> omega
def putZ (h:Nat) (f:Nat → Int):Nat → List (List Int)
 | 0=>List.replicate h []
 | r + 1=>(putZ h f r).set (zhN h r) ((putZ h f r).getD (zhN h r) [] ++ [f r])
theorem putZ_len (h:Nat) (f:Nat → Int):∀ n,(putZ h f n).length = h
 | 0=>by simp [putZ]
 | n + 1=>by simp [putZ,putZ_len h f n]
theorem putZ_getD {h:Nat} {f:Nat → Int} {n i:Nat} (hi:i < h):(putZ h f (n + 1)).getD i [] = if i = zhN h n then (putZ h f n).getD i [] ++ [f n] else (putZ h f n).getD i [] := by
 have hl := putZ_len h f n
 simp only [putZ,List.getD_eq_getElem?_getD,List.getElem?_set]
 by_cases e:i = zhN h n
 ·subst e; simp [hl,hi]
 ·have e':¬ zhN h n = i := fun q=>e q.symm
  simp [e,e']
theorem putZ_row {h:Nat} {f:Nat → Int}:∀ (n i:Nat),((putZ h f n).getD i []).length ≤ n
 | 0,i=>by simp [putZ,List.getD_eq_getElem?_getD,List.getElem?_replicate]; split <;> simp
 | n + 1,i=>by
  have := putZ_row (h := h) (f := f) n i
  by_cases hi:i < h
  ·rw [putZ_getD hi]
   split
   ·rw [List.length_append,List.length_singleton]; omega
   ·omega
  ·have:(putZ h f (n + 1)).getD i [] = [] := by
    rw [List.getD_eq_getElem?_getD,List.getElem?_eq_none (by rw [putZ_len]; omega)]; rfl
   rw [this]; simp
theorem nilRows_rep:∀ (n:Nat),nilRows (List.replicate n [PV.lit (Go.Value.slice Option.none 0 0)]) = true
 | 0=>rfl
 | n + 1=>nilRows_rep n
theorem zk_eq {H i:Nat} (h0:0 < H) (h1:H ≤ 1000) (hi:i < 100000):(bif decide (Int.tmod (w64 (Int.tdiv (i:Int) (H:Int))) 2 = 1) then some (w64 (w64 ((H:Int) - 1) - Int.tmod (i:Int) (H:Int))) else some (Int.tmod (i:Int) (H:Int))) = some ((zhN H i:Nat):Int) := by
 have e1:Int.tdiv (i:Int) (H:Int) = ((i / H:Nat):Int) := rfl
 have e2:Int.tmod (i:Int) (H:Int) = ((i % H:Nat):Int) := rfl
 have hm := Nat.mod_lt i h0
 have hd:i / H ≤ i := Nat.div_le_self i H
 rw [e1,e2]
 unfold zhN
 generalize i / H = q at *
 generalize i % H = m at *
 rw [w64_in (by omega) (by omega)]
 have e3:Int.tmod ((q:Nat):Int) 2 = ((q % 2:Nat):Int) := rfl
 rw [e3]
 by_cases h:q % 2 = 1
 ·rw [if_pos h,cd_pos (by omega),w64_in (n := (H:Int) - 1) (by omega) (by omega),w64_in (by omega) (by omega)]
  congr 1; omega
 ·rw [if_neg h,cd_neg (by omega)]
theorem l30 {F n h:Nat} (hF:n < F) (hn:n ≤ 1000) (h0:0 < h) (h1:h ≤ 1000):c30 F ((n:Int),(h:Int)) = some (putZ h (fun r=>(r:Int)) n) := by
 unfold c30
 simp (disch := omega) only [gd_dec,Int.toNat_natCast,nilRows_rep,List.map_replicate,gd_true,List.length_replicate,decide_true,Bool.and_true,Option.bind_some,nilT]
 refine ex_eq (bind_inv (fun v=>∃ i:Nat,v = (putZ h (fun r=>(r:Int)) i,(i:Int)) ∧ i ≤ n) (fun v=>n - v.2.toNat) (fun b=>b = putZ h (fun r=>(r:Int)) n) ?_ ⟨0,rfl,Nat.zero_le _⟩ (by simp; omega) ?_)
 ·rintro v ⟨i,rfl,hi⟩
  have hl := putZ_len h (fun r=>(r:Int)) i
  have hz := zhN_lt h0 i
  have hr := putZ_row (h := h) (f := fun r=>(r:Int)) i (zhN h i)
  by_cases hin:i < n
  ·left
   have hls := len_snoc ((putZ h (fun r=>(r:Int)) i).getD (zhN h i) []) (i:Int)
   simp only [nilT] at hls
   simp (disch := omega) only [cd_pos,gd_dec,zk_eq h0 h1,Option.bind_some,Int.toNat_natCast,Nat.zero_add,hls,hl,List.length_set,decide_true,Bool.and_true,gd_true]
   refine ⟨_,rfl,⟨i + 1,?_,by omega⟩,?_⟩
   ·rw [w64_in (by omega) (by omega)]; rfl
   ·show n - (w64 ((i:Int) + 1)).toNat < n - ((i:Int)).toNat
    rw [w64_in (by omega) (by omega)]; omega
  ·right
   have:i = n := by omega
   subst this
   simp (disch := omega) only [cd_neg,decide_true,Bool.and_true,gd_true,Option.bind_some,hl,gd_dec]
   exact ⟨_,rfl,rfl⟩
 ·rintro b rfl
  have hl := putZ_len h (fun r=>(r:Int)) n
  simp (disch := omega) only [gd_dec,take_all]
  exact ⟨_,rfl,rfl⟩
def zigE (n h:Int):Int := if n < 0 ∨ 160 < n ∨ h < 1 ∨ 16 < h then 3 else 0
theorem zigE_nz (n h:Int):firstNZ [if n < 0 ∨ 160 < n then 3 else 0,if h < 1 ∨ 16 < h then 3 else 0] = zigE n h := by
 unfold zigE
 by_cases h1:n < 0 ∨ 160 < n
 ·have:n < 0 ∨ 160 < n ∨ h < 1 ∨ 16 < h := by omega
  simp [h1,this,firstNZ]
 ·by_cases h2:h < 1 ∨ 16 < h
  ·have:n < 0 ∨ 160 < n ∨ h < 1 ∨ 16 < h := by omega
   simp [h1,h2,this,firstNZ]
  ·have:¬ (n < 0 ∨ 160 < n ∨ h < 1 ∨ 16 < h) := by omega
   simp [h1,h2,this,firstNZ]
theorem l29 {F:Nat} (hF:400 ≤ F) {n h:Int}:c29 F (n,h) = some (if zigE n h ≠ 0 then ([],3) else (putZ h.toNat (fun r=>(r:Int)) n.toNat,0)) := by
 unfold c29
 simp only [l83,l80,Option.bind_some,nilT]
 rw [l75 (show ([if n < 0 ∨ 160 < n then 3 else 0,if h < 1 ∨ 16 < h then 3 else 0]:List Int).length < F by simp; omega) (by simp)]
 rw [zigE_nz,Option.bind_some]
 by_cases he:n < 0 ∨ 160 < n ∨ h < 1 ∨ 16 < h
 ·have:zigE n h = 3 := if_pos he
  simp [this]
 ·have hz:zigE n h = 0 := if_neg he
  obtain ⟨n,rfl⟩ := Int.eq_ofNat_of_zero_le (show 0 ≤ n by omega)
  obtain ⟨h,rfl⟩ := Int.eq_ofNat_of_zero_le (show 0 ≤ h by omega)
  have h0:0 < h := by omega
  have h1:h ≤ 16 := by omega
  have hn:n ≤ 160 := by omega
  simp (disch := omega) only [hz,decide_true,Bool.not_true,cond_false,gd_dec,Int.toNat_natCast,nilRows_rep,List.map_replicate,gd_true,List.length_replicate,decide_true,Bool.and_true,Option.bind_some,ne_eq,not_true_eq_false,if_false]
  refine ex_eq (bind_inv (fun v=>∃ i:Nat,v = (putZ h (fun r=>(r:Int)) i,(),(i:Int)) ∧ i ≤ n) (fun v=>n - v.2.2.toNat) (fun b=>b = (putZ h (fun r=>(r:Int)) n,())) ?_ ⟨0,rfl,Nat.zero_le _⟩ (by simp; omega) ?_)
  ·rintro v ⟨i,rfl,hi⟩
   have hl := putZ_len h (fun r=>(r:Int)) i
   have hz := zhN_lt h0 i
   have hr := putZ_row (h := h) (f := fun r=>(r:Int)) i (zhN h i)
   by_cases hin:i < n
   ·left
    have hls := len_snoc ((putZ h (fun r=>(r:Int)) i).getD (zhN h i) []) (i:Int)
    simp only [nilT] at hls
    simp (disch := omega) only [cd_pos,gd_dec,zk_eq h0 (show h ≤ 1000 by omega),Option.bind_some,Int.toNat_natCast,Nat.zero_add,hls,hl,List.length_set,decide_true,Bool.and_true,gd_true]
    refine ⟨_,rfl,⟨i + 1,?_,by omega⟩,?_⟩
    ·rw [w64_in (by omega) (by omega)]; rfl
    ·show n - (w64 ((i:Int) + 1)).toNat < n - ((i:Int)).toNat
     rw [w64_in (by omega) (by omega)]; omega
   ·right
    have:i = n := by omega
    subst this
    simp (disch := omega) only [cd_neg,decide_true,Bool.and_true,gd_true,Option.bind_some,hl,gd_dec]
    exact ⟨_,rfl,rfl⟩
  ·rintro b rfl
   have hl := putZ_len h (fun r=>(r:Int)) n
   simp (disch := omega) only [gd_dec,take_all]
   exact ⟨_,rfl,rfl⟩
def hE (h:Int):Int := if h < 1 ∨ 16 < h then 3 else 0
theorem l21 {F:Nat} (hF:400 ≤ F) {l:List Ent} (hl:l.length ≤ 300) (hS:∀ x ∈ l,EntS x) {h key:Int}:c21 F (l,h,key) = some (if firstNZ [entC l,hE h] ≠ 0 then ([],firstNZ [entC l,hE h]) else if drawE key l.length ≠ 0 then ([],3) else (putZ h.toNat (fun r=>(ordE l key).getD r 0) l.length,0)) := by
 unfold c21
 simp only [l19 hF hl hS,l80,Option.bind_some,nilT]
 rw [l75 (show ([entC l,if h < 1 ∨ 16 < h then 3 else 0]:List Int).length < F by simp; omega) (by simp),Option.bind_some]
 have e0:firstNZ [entC l,if h < 1 ∨ 16 < h then 3 else 0] = firstNZ [entC l,hE h] := rfl
 rw [e0]
 by_cases h0:firstNZ [entC l,hE h] = 0
 ·have hent0:entC l = 0 := by
   by_cases q:entC l = 0
   ·exact q
   ·simp [firstNZ,q] at h0
  have hh:¬ (h < 1 ∨ 16 < h) := by
   intro q
   have:hE h = 3 := if_pos q
   simp [firstNZ,hent0,this] at h0
  have hent := entC_ok hent0
  rw [hent0] at h0 ⊢
  simp only [h0,decide_true,Bool.not_true,cond_false,l79 hF hl hS,Option.bind_some,hent0,ne_eq,not_true_eq_false,if_false]
  by_cases hd:drawE key l.length = 0
  ·obtain ⟨d1,d2⟩ := drawE_ok hd
   have hol:(ordE l key).length = l.length := by rw [(ord_perm hent d1 d2).length_eq,ids_length]
   obtain ⟨h,rfl⟩ := Int.eq_ofNat_of_zero_le (show 0 ≤ h by omega)
   have h0:0 < h := by omega
   have h1:h ≤ 16 := by omega
   simp (disch := omega) only [hd,not_true_eq_false,if_false,decide_true,Bool.not_true,cond_false,gd_dec,Int.toNat_natCast,nilRows_rep,List.map_replicate,gd_true,List.length_replicate,Bool.and_true,Bool.true_and,Option.bind_some]
   generalize hf:(fun r:Nat=>(ordE l key).getD r 0) = f
   have hf':∀ i:Nat,(ordE l key).getD i 0 = f i := fun i=>by rw [← hf]
   refine ex_eq (bind_inv (fun v=>∃ i:Nat,v = (putZ h f i,(),(i:Int)) ∧ i ≤ l.length) (fun v=>l.length - v.2.2.toNat) (fun b=>b = (putZ h f l.length,())) ?_ ⟨0,rfl,Nat.zero_le _⟩ (by simp; omega) ?_)
   ·rintro v ⟨i,rfl,hi⟩
    have hl2 := putZ_len h f i
    have hz := zhN_lt h0 i
    have hr := putZ_row (h := h) (f := f) i (zhN h i)
    by_cases hin:i < l.length
    ·left
     have hls := len_snoc ((putZ h f i).getD (zhN h i) []) (f i)
     simp only [nilT] at hls
     simp (disch := omega) only [cd_pos,gd_dec,zk_eq h0 (show h ≤ 1000 by omega),Option.bind_some,Int.toNat_natCast,Nat.zero_add,hls,hl2,hol,hf',List.length_set,decide_true,Bool.and_true,Bool.true_and,gd_true]
     refine ⟨_,rfl,⟨i + 1,?_,by omega⟩,?_⟩
     ·rw [w64_in (by omega) (by omega)]; rfl
     ·show l.length - (w64 ((i:Int) + 1)).toNat < l.length - ((i:Int)).toNat
      rw [w64_in (by omega) (by omega)]; omega
    ·right
     have:i = l.length := by omega
     subst this
     simp (disch := omega) only [cd_neg,decide_true,Bool.and_true,gd_true,Option.bind_some,hl2,gd_dec]
     exact ⟨_,rfl,rfl⟩
   ·rintro b rfl
    have hl2 := putZ_len h f l.length
    simp (disch := omega) only [gd_dec,take_all]
    exact ⟨_,rfl,rfl⟩
  ·have:drawE key l.length = 3 := by unfold drawE at hd ⊢; split at hd <;> simp_all
   have h9:hE h = 0 := if_neg hh
   simp [this,h9,firstNZ]
 ·simp [h0]
end Go.Proofs.Tryz
