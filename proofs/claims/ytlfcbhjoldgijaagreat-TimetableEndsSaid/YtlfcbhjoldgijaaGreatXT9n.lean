/- Plain law: what the bounds and the edges of some conditions are; the latest beginnings. Plain law: tables checked, ends, in the program and in the reference. And further parts. -/
import Derived.Test.YtlfcbhjoldgijaaGreatXT9k
import Derived.Test.YtlfcbhjoldgijaaGreatXT9c
import Derived.Test.YtlfcbhjoldgijaaGreatXSxSu
set_option maxRecDepth 100000
set_option linter.unusedVariables false
set_option linter.unusedSimpArgs false
namespace Go.Proofs.Tryz
open Go Go.Sx
def isW (i:Nat) (r:Rul):Bool := strEq r.1 kW && decide (r.2.1 = (i:Int))
def isO (r:Rul):Bool := strEq r.1 kO
def isP (r:Rul):Bool := !strEq r.1 kW && !strEq r.1 kO
theorem opB_len (p:Pln) (s:OpS) (r:Rul):(opB p s r).1.length = s.1.length ∧ (opB p s r).2.1.length = s.2.1.length := by
 unfold opB
 split
 ·simp
 ·split <;> simp
theorem fold_opB_len (p:Pln):∀ (L:List Rul) (s:OpS),(L.foldl (opB p) s).1.length = s.1.length ∧ (L.foldl (opB p) s).2.1.length = s.2.1.length
 | [],s=>⟨rfl,rfl⟩
 | r :: L,s=>by
  rw [List.foldl_cons]
  obtain ⟨a,b⟩ := fold_opB_len p L (opB p s r)
  obtain ⟨c,d⟩ := opB_len p s r
  exact ⟨a.trans c,b.trans d⟩
theorem fold_opB {p:Pln}:∀ {L:List Rul} {s:OpS},(∀ r ∈ L,RulOk p r) → s.1.length = p.1.length → s.2.1.length = p.1.length →
  (∀ i,i < p.1.length → (L.foldl (opB p) s).1.getD i 0 = if L.any (isW i) = true then (rq p i).2.2.2.2.2.1 else s.1.getD i 0) ∧
  (∀ i,i < p.1.length → (L.foldl (opB p) s).2.1.getD i 0 = if L.any (isW i) = true then (rq p i).2.2.2.2.2.2 - (rq p i).2.1 else s.2.1.getD i 0) ∧
  (L.foldl (opB p) s).2.2.1 = s.2.2.1 ++ (L.filter isO).map (edgO p) ∧ (L.foldl (opB p) s).2.2.2 = s.2.2.2 ++ L.filter isP
 | [],s,_,_,_=>by simp
 | r :: L,s,hR,h1,h2=>by
  obtain ⟨l1,l2⟩ := opB_len p s r
  obtain ⟨c1,c2,c3,c4⟩ := fold_opB (L := L) (s := opB p s r) (fun r' hr'=>hR r' (by simp [hr'])) (l1.trans h1) (l2.trans h2)
  have hr := hR r (by simp)
  obtain ⟨k,a,b,g⟩ := r
  obtain ⟨hk,ha,hb,hg,_,_⟩ := hr
  simp only at hk ha hb hg
  rw [List.foldl_cons]
  have kinds:strEq k kW = true ∨ (strEq k kW = false ∧ (strEq k kO = true ∨ strEq k kO = false)) := by
   cases strEq k kW <;> cases strEq k kO <;> simp
  rcases kinds with hW | ⟨hW,hO⟩
  ·have hkW:k = kW := strEq_true.1 hW
   subst hkW
   refine ⟨fun i hi=>?_,fun i hi=>?_,?_,?_⟩
   ·rw [c1 i hi,List.any_cons]
    simp only [opB,sWW,if_true,isW,Bool.true_and]
    cases L.any (isW i) with
    | true=>simp
    | false =>
     have ha':a.toNat < s.1.length := by omega
     simp only [Bool.false_eq_true,if_false,Bool.or_false,decide_eq_true_eq]
     rw [set_get ha']
     by_cases e:i = a.toNat
     ·have e':a = (i:Int) := by omega
      rw [if_pos e,if_pos e',e']
     ·have e':¬ a = (i:Int) := by omega
      rw [if_neg e,if_neg e']
   ·rw [c2 i hi,List.any_cons]
    simp only [opB,sWW,if_true,isW,Bool.true_and]
    cases L.any (isW i) with
    | true=>simp
    | false =>
     have ha':a.toNat < s.2.1.length := by omega
     simp only [Bool.false_eq_true,if_false,Bool.or_false,decide_eq_true_eq]
     rw [set_get ha']
     by_cases e:i = a.toNat
     ·have e':a = (i:Int) := by omega
      rw [if_pos e,if_pos e',e']
     ·have e':¬ a = (i:Int) := by omega
      rw [if_neg e,if_neg e']
   ·rw [c3]
    simp [opB,sWW,isO,sWO]
   ·rw [c4]
    simp [opB,sWW,isP]
  ·have nW:∀ i,isW i (k,a,b,g) = false := fun i=>by simp [isW,hW]
   rcases hO with hO | hO
   ·refine ⟨fun i hi=>?_,fun i hi=>?_,?_,?_⟩
    ·rw [c1 i hi,List.any_cons,nW,Bool.false_or]; simp [opB,hW,hO]
    ·rw [c2 i hi,List.any_cons,nW,Bool.false_or]; simp [opB,hW,hO]
    ·rw [c3]; simp [opB,hW,hO,isO]
    ·rw [c4]; simp [opB,hW,hO,isP]
   ·refine ⟨fun i hi=>?_,fun i hi=>?_,?_,?_⟩
    ·rw [c1 i hi,List.any_cons,nW,Bool.false_or]; simp [opB,hW,hO]
    ·rw [c2 i hi,List.any_cons,nW,Bool.false_or]; simp [opB,hW,hO]
    ·rw [c3]; simp [opB,hW,hO,isO]
    ·rw [c4]; simp [opB,hW,hO,isP]
structure OpenOk (p:Pln) (L:List Rul) (s:OpS):Prop where
 n1:s.1.length = p.1.length
 n2:s.2.1.length = p.1.length
 low:∀ i,i < p.1.length → s.1.getD i 0 = if L.any (isW i) = true then (rq p i).2.2.2.2.2.1 else 0
 high:∀ i,i < p.1.length → s.2.1.getD i 0 = if L.any (isW i) = true then (rq p i).2.2.2.2.2.2 - (rq p i).2.1 else 1099511627776
 edges:s.2.2.1 = (L.filter isO).map (edgO p)
 apart:s.2.2.2 = L.filter isP
theorem rep_getD {n i:Nat} {x d:Int} (h:i < n):(List.replicate n x).getD i d = x := by
 rw [List.getD_eq_getElem?_getD,List.getElem?_replicate,if_pos h]
 rfl
theorem openS_ok {p:Pln} {L:List Rul} (hR:∀ r ∈ L,RulOk p r):OpenOk p L (openS p L) := by
 obtain ⟨a,b⟩ := fold_opB_len p L (open0 p)
 obtain ⟨c1,c2,c3,c4⟩ := fold_opB (s := open0 p) hR (by simp [open0]) (by simp [open0])
 refine ⟨a.trans (by simp [open0]),b.trans (by simp [open0]),fun i hi=>?_,fun i hi=>?_,c3,c4⟩
 ·have := c1 i hi
  rw [show (open0 p).1.getD i 0 = 0 from rep_getD hi] at this
  exact this
 ·have := c2 i hi
  rw [show (open0 p).2.1.getD i 0 = 1099511627776 from rep_getD hi] at this
  exact this
theorem edgO_ew {p:Pln} (h:PV p) {r:Rul} (hr:RulOk p r):EW p.1.length (edgO p r) := by
 have b := (h.at hr.a.1 hr.a.2).1
 have g := hr.gap
 refine ⟨⟨hr.a,hr.b⟩,?_,?_⟩
 ·simp only [edgO]; omega
 ·simp only [edgO]; omega
theorem OpenOk.ew {p:Pln} (h:PV p) {L:List Rul} {s:OpS} (ho:OpenOk p L s) (hR:∀ r ∈ L,RulOk p r):∀ e ∈ s.2.2.1,EW p.1.length e := by
 intro e he
 rw [ho.edges] at he
 obtain ⟨r,hr,rfl⟩ := List.mem_map.1 he
 exact edgO_ew h (hR r (List.mem_filter.1 hr).1)
theorem OpenOk.lowB {p:Pln} (h:PV p) {L:List Rul} {s:OpS} (ho:OpenOk p L s):InB 20000 s.1 := by
 intro x hx
 obtain ⟨i,hi,rfl⟩ := List.mem_iff_getElem.1 hx
 have hi':i < p.1.length := by rw [← ho.n1]; exact hi
 have e := ho.low i hi'
 rw [getD_some (List.getElem?_eq_getElem hi)] at e
 rw [e]
 have b := (h.at (a := (i:Int)) (by omega) (by omega)).2.1
 split
 ·exact b
 ·omega
def latR (t:List Int) (e:Edg):List Int := t.set e.1.toNat (if tq t e.2.1 - e.2.2 < tq t e.1 then tq t e.2.1 - e.2.2 else tq t e.1)
def latS (E:List Edg):Nat → List Int → List Int
 | 0,t=>t
 | k + 1,t=>latS E k (E.foldl latR t)
theorem latR_len (t:List Int) (e:Edg):(latR t e).length = t.length := by simp [latR]
theorem fold_latR_len:∀ (E:List Edg) (t:List Int),(E.foldl latR t).length = t.length
 | [],t=>rfl
 | e :: E,t=>by rw [List.foldl_cons,fold_latR_len E,latR_len]
theorem latS_len (E:List Edg):∀ (k:Nat) (t:List Int),(latS E k t).length = t.length
 | 0,t=>rfl
 | k + 1,t=>by simp only [latS]; rw [latS_len E k,fold_latR_len]
def InL (b:Int) (t:List Int):Prop := ∀ x ∈ t,-b ≤ x ∧ x ≤ 4398046511104
theorem InL.at {b:Int} {t:List Int} (h:InL b t) {i:Nat} (hi:i < t.length):-b ≤ t.getD i 0 ∧ t.getD i 0 ≤ 4398046511104 := h _ (getD_mem hi)
theorem latR_in {b:Int} {t:List Int} {e:Edg} (h:InL b t) (he:EW t.length e):InL (b + 5000) (latR t e) := by
 intro x hx
 unfold latR at hx
 rcases List.mem_or_eq_of_mem_set hx with hx | rfl
 ·have := h x hx; omega
 ·have h1 := h.at (i := e.1.toNat) (by have := he.1.1; omega)
  have h2 := h.at (i := e.2.1.toNat) (by have := he.1.2; omega)
  have := he.2
  simp only [tq]
  split <;> omega
theorem l67 {F:Nat} (hF:4000 ≤ F) {low high:List Int} {E:List Edg} (hn:high.length ≤ 30) (hE:∀ e ∈ E,EW high.length e) (hEl:E.length ≤ 3000) (hb:InL 5000 high):c67 F ((low,high),E) = some (latS E high.length high) := by
 unfold c67
 simp only [l85 (F := F) (show high.length ≤ 1000 by omega),Option.bind_some]
 refine bind_list (List.range high.length) (fun (s:List Int) i=>(s,(i:Int))) (fun _ s=>.inl (E.foldl latR s)) (fun s=>s) (fun i s=>s.length = high.length ∧ InL (5000 + 15000000 * i) s) high (by simp; omega) rfl ⟨rfl,fun x hx=>by have := hb x hx; omega⟩ ?_ ?_ ?_
 ·intro i x s hi hx ⟨hs1,hs2⟩
  simp only [List.length_range] at hi
  have key:loopO _ F (s,(0:Int)) = some (goL (fun e (s:List Int)=>(.inl (latR s e):List Int ⊕ List Int)) (fun s=>s) E s) := loopO_list E (fun (s:List Int) i=>(s,(i:Int))) (fun e s=>.inl (latR s e)) (fun s=>s) (fun j s=>s.length = high.length ∧ InL (5000 + 15000000 * i + 5000 * j) s) (step := fun (v22:List Int × Int)=>bif Decidable.decide (v22.2 < (↑(List.length E):Int)) then (gd (Decidable.decide ((0:Int) ≤ v22.2)) (gd (Decidable.decide (v22.2 < (↑(List.length E):Int))) (gd (Decidable.decide (Int.toNat v22.2 < List.length E)) (gd (Decidable.decide ((0:Int) ≤ Prod.fst (List.getD E (Int.toNat v22.2) ((0:Int),(0:Int),(0:Int))))) (gd (Decidable.decide (Prod.fst (List.getD E (Int.toNat v22.2) ((0:Int),(0:Int),(0:Int))) < (↑(List.length high):Int))) (gd (Decidable.decide (0 + Int.toNat (Prod.fst (List.getD E (Int.toNat v22.2) ((0:Int),(0:Int),(0:Int)))) < List.length v22.1)) (gd (Decidable.decide ((0:Int) ≤ Prod.fst (Prod.snd (List.getD E (Int.toNat v22.2) ((0:Int),(0:Int),(0:Int)))))) (gd (Decidable.decide (Prod.fst (Prod.snd (List.getD E (Int.toNat v22.2) ((0:Int),(0:Int),(0:Int)))) < (↑(List.length high):Int))) (gd (Decidable.decide (0 + Int.toNat (Prod.fst (Prod.snd (List.getD E (Int.toNat v22.2) ((0:Int),(0:Int),(0:Int))))) < List.length v22.1)) (gd (Decidable.decide ((0:Int) ≤ Prod.fst (List.getD E (Int.toNat v22.2) ((0:Int),(0:Int),(0:Int))))) (gd (Decidable.decide (Prod.fst (List.getD E (Int.toNat v22.2) ((0:Int),(0:Int),(0:Int))) < (↑(List.length high):Int))) (gd (Decidable.decide (0 + Int.toNat (Prod.fst (List.getD E (Int.toNat v22.2) ((0:Int),(0:Int),(0:Int)))) < List.length v22.1)) (some (Sum.inl (List.set v22.1 (0 + Int.toNat (Prod.fst (List.getD E (Int.toNat v22.2) ((0:Int),(0:Int),(0:Int))))) (if w64 (List.getD v22.1 (0 + Int.toNat (Prod.fst (Prod.snd (List.getD E (Int.toNat v22.2) ((0:Int),(0:Int),(0:Int)))))) (0:Int) - Prod.snd (Prod.snd (List.getD E (Int.toNat v22.2) ((0:Int),(0:Int),(0:Int))))) < List.getD v22.1 (0 + Int.toNat (Prod.fst (List.getD E (Int.toNat v22.2) ((0:Int),(0:Int),(0:Int))))) (0:Int) then w64 (List.getD v22.1 (0 + Int.toNat (Prod.fst (Prod.snd (List.getD E (Int.toNat v22.2) ((0:Int),(0:Int),(0:Int)))))) (0:Int) - Prod.snd (Prod.snd (List.getD E (Int.toNat v22.2) ((0:Int),(0:Int),(0:Int))))) else List.getD v22.1 (0 + Int.toNat (Prod.fst (List.getD E (Int.toNat v22.2) ((0:Int),(0:Int),(0:Int))))) (0:Int)),w64 (v22.2 + (1:Int))))))))))))))))) else (some (Sum.inr v22.1))) (by
    intro j e s hj he ⟨k1,k2⟩
    obtain ⟨⟨⟨e1,e2⟩,e3,e4⟩,e5,e6⟩ := hE e (List.mem_of_getElem? he)
    have g1 := k2.at (i := e.1.toNat) (by omega)
    have g2 := k2.at (i := e.2.1.toNat) (by omega)
    refine ⟨?_,?_⟩
    ·simp (disch := omega) only [cd_pos,gd_dec,Int.toNat_natCast,getD_some he,Nat.zero_add,w64_in]
     rfl
    ·intro s' hs'
     injection hs' with hs'
     rw [← hs']
     refine ⟨by rw [latR_len]; exact k1,fun x hx=>?_⟩
     have := latR_in k2 ⟨⟨⟨e1,by rw [k1]; exact e2⟩,e3,by rw [k1]; exact e4⟩,e5,e6⟩ x hx
     omega) (by
    intro s _
    simp (disch := omega) only [cd_neg]) rfl ⟨hs1,fun x hx=>by have := hs2 x hx; omega⟩ (by omega)
  rw [goL_fold latR] at key
  refine ⟨?_,?_⟩
  ·simp (disch := omega) only [cd_pos,key,Option.bind_some,w64_in]
   rfl
  ·intro s' hs'
   injection hs' with hs'
   rw [← hs']
   refine ⟨by rw [fold_latR_len]; exact hs1,?_⟩
   have:∀ (E':List Edg) (b:Int) (s:List Int),(∀ e ∈ E',EW s.length e) → InL b s → InL (b + 5000 * E'.length) (E'.foldl latR s) := by
    intro E'
    induction E' with
    | nil=>intro b s _ h; simpa using h
    | cons e E' ih =>
     intro b s hE' h
     rw [List.foldl_cons]
     have := ih (b + 5000) (latR s e) (fun e' he'=>by rw [latR_len]; exact hE' e' (by simp [he'])) (latR_in h (hE' e (by simp)))
     intro x hx
     have := this x hx
     rw [List.length_cons]
     omega
   intro x hx
   have := this E (5000 + 15000000 * i) s (fun e he=>by rw [hs1]; exact hE e he) hs2 x hx
   omega
 ·intro s _
  rw [List.length_range]
  simp (disch := omega) only [cd_neg]
 ·rw [goL_fold (fun (s:List Int) (_:Nat)=>E.foldl latR s)]
  have e:∀ (k m:Nat) (t:List Int),((List.range' m k).foldl (fun (s:List Int) (_:Nat)=>E.foldl latR s) t) = latS E k t := by
   intro k
   induction k with
   | zero=>intro m t; rfl
   | succ k ih=>intro m t; rw [List.range'_succ,List.foldl_cons,ih]; rfl
  rw [List.range_eq_range',e]
  have hl := latS_len E high.length high
  have e2:List.take high.length (List.drop 0 (latS E high.length high)) = latS E high.length high := by rw [List.drop_zero,List.take_of_length_le (by omega)]
  simp only [e2,hl,Nat.zero_add,Nat.le_refl,decide_true,gd_true]
def endS (p:Pln) (t:List Int):Int := goL (fun (x:Rnd × Int) s=>.inl (if s < x.2 + x.1.2.1 then x.2 + x.1.2.1 else s)) (fun s=>s) (p.1.zip t) 0
theorem zip_get {α β:Type} {l:List α} {m:List β} {i:Nat} {x:α × β} (h:(l.zip m)[i]? = some x):l[i]? = some x.1 ∧ m[i]? = some x.2 := by
 rw [List.getElem?_zip_eq_some] at h
 exact h
theorem l68 {F:Nat} (hF:400 ≤ F) {p:Pln} {t:List Int} (h:PV p) (ht:TOk p t):c68 F (p,t) = some (endS p t) := by
 unfold c68 endS
 have hz:(p.1.zip t).length = p.1.length := by rw [List.length_zip,ht.len]; omega
 have hn := h.n1
 have hl := ht.len
 refine bind_list (p.1.zip t) (fun (s:Int) i=>(s,(i:Int))) (fun (x:Rnd × Int) s=>.inl (if s < x.2 + x.1.2.1 then x.2 + x.1.2.1 else s)) (fun s=>s) (fun _ _=>True) 0 (by omega) rfl trivial ?_ ?_ ?_
 ·intro i x s hi hx _
  refine ⟨?_,fun _ _=>trivial⟩
  obtain ⟨hx1,hx2⟩ := zip_get hx
  have b1 := (h.rnd _ (List.mem_of_getElem? hx1)).1
  have b2 := ht.rng _ (List.mem_of_getElem? hx2)
  simp (disch := omega) only [cd_pos,gd_dec,w64_in,Int.toNat_natCast,getD_some hx1,getD_some hx2]
  rfl
 ·intro s _
  rw [hz]
  simp (disch := omega) only [cd_neg]
 ·rfl
def formE (p:Pln) (t:List Int):Int := if t.length ≠ p.1.length then 2 else if (t.any fun n=>decide (n < 0 ∨ 999999999 < n)) = true then 3 else 0
theorem l32 {F:Nat} (hF:400 ≤ F) {p:Pln} {t:List Int} (hn:p.1.length ≤ 26) (hl:t.length ≤ 300):c32 F (p,t) = some (formE p t) := by
 unfold c32 formE
 by_cases h0:t.length = p.1.length
 ·have:(t.length:Int) = p.1.length := by omega
  simp only [h0,decide_true,Bool.not_true,cond_false,ne_eq,not_true_eq_false,if_false]
  refine bind_any t (fun n=>decide (n < 0 ∨ 999999999 < n)) (.inl 3) (.inr ()) (by omega) ?_ ?_ ?_
  ·intro i x hi hx
   simp (disch := omega) only [cd_pos,gd_dec,w64_in,Int.toNat_natCast,getD_some hx,l71,Option.bind_some]
   by_cases h1:x < 0 ∨ 999999999 < x <;> simp [h1]
  ·simp (disch := omega) only [cd_neg]
  ·cases t.any fun n=>decide (n < 0 ∨ 999999999 < n) <;> simp
 ·have:¬ (t.length:Int) = p.1.length := by omega
  simp [h0,this]
def soundE (p:Pln) (t:List Int):Int := if planE p = 0 then formE p t else planE p
theorem l96 {F:Nat} (hF:400 ≤ F) {p:Pln} {t:List Int} (h:PShort p) (hl:t.length ≤ 300):c96 F (p,t) = some (soundE p t) := by
 unfold c96 cx129_0 cx150_0
 rw [idx_loop t (fun n=>decide (n < 0 ∨ 999999999 < n)) (by omega) ?_ ?_]
 ·simp only [peta,Option.bind_some,idxS_any,l51 hF h.sm,l88,l102 (F := F) (l := _ :: _ :: _ :: nilT Int) (by simp [nilT]; omega) (by simp [nilT])]
  unfold soundE formE
  simp only [firstNZ_cons,firstNZ_nil]
  by_cases h0:planE p = 0
  ·by_cases h1:t.length = p.1.length
   ·have:(t.length:Int) = p.1.length := by omega
    simp only [h0,h1,decide_true,Bool.not_true,Bool.false_eq_true,if_false,if_true,ne_eq,not_true_eq_false]
    cases t.any fun n=>decide (n < 0 ∨ 999999999 < n) <;> simp
   ·have:¬ (t.length:Int) = p.1.length := by omega
    simp [h0,h1,this]
  ·simp [h0]
 ·intro i x hi hx
  have e:c130 F x = some (decide (x < 0 ∨ 999999999 < x)) := by
   unfold c130
   by_cases h1:x < 0 <;> by_cases h2:999999999 < x <;> simp [h1,h2]
  simp (disch := omega) only [cd_pos,gd_dec,w64_in,Int.toNat_natCast,getD_some hx,e,Option.bind_some]
  by_cases h1:x < 0 ∨ 999999999 < x <;> simp [h1]
 ·simp (disch := omega) only [cd_neg]
theorem TOk.of {p:Pln} {t:List Int} (h:formE p t = 0):TOk p t ∧ ∀ x ∈ t,0 ≤ x ∧ x ≤ 999999999 := by
 unfold formE at h
 by_cases h0:t.length = p.1.length
 ·simp only [h0,ne_eq,not_true_eq_false,if_false] at h
  have h1:(t.any fun n=>decide (n < 0 ∨ 999999999 < n)) = false := by
   cases e:t.any fun n=>decide (n < 0 ∨ 999999999 < n) with
   | false=>rfl
   | true=>rw [e] at h; cases h
  rw [List.any_eq_false] at h1
  have h2:∀ x ∈ t,0 ≤ x ∧ x ≤ 999999999 := fun x hx=>by
   have := h1 x hx
   simp only [decide_eq_true_eq] at this
   omega
  exact ⟨⟨h0,fun x hx=>by have := h2 x hx; omega⟩,h2⟩
 ·rw [if_pos h0] at h
  cases h
theorem soundE_zero {p:Pln} {t:List Int} (h:soundE p t = 0):planE p = 0 ∧ formE p t = 0 := by
 unfold soundE at h
 by_cases h0:planE p = 0
 ·rw [if_pos h0] at h; exact ⟨h0,h⟩
 ·rw [if_neg h0] at h; exact absurd h h0
theorem l52 {F:Nat} (hF:3000 ≤ F) {p:Pln} {t:List Int} (h:PShort p) (hl:t.length ≤ 300):c52 F (p,t) = some (if soundE p t = 0 then ((brokS p t).1,if (brokS p t).2 = true then 29 else 0) else (0,soundE p t)) := by
 unfold c52
 simp only [peta,l96 (show 400 ≤ F by omega) h hl,Option.bind_some]
 by_cases h0:soundE p t = 0
 ·obtain ⟨h1,h2⟩ := soundE_zero h0
  simp only [h0,decide_true,Bool.not_true,cond_false,if_true,l97 hF (PV.of h h1) (TOk.of h2).1,l88,Option.bind_some]
 ·simp [h0]
theorem l53 {F:Nat} (hF:3000 ≤ F) {p:Pln} {t:List Int} (h:PShort p) (hl:t.length ≤ 300):c53 F (p,t) = some (if soundE p t = 0 then (endS p t,0) else (0,soundE p t)) := by
 unfold c53
 simp only [peta,l96 (show 400 ≤ F by omega) h hl,Option.bind_some]
 by_cases h0:soundE p t = 0
 ·obtain ⟨h1,h2⟩ := soundE_zero h0
  simp only [h0,decide_true,Bool.not_true,cond_false,if_true,l68 (show 400 ≤ F by omega) (PV.of h h1) (TOk.of h2).1,Option.bind_some]
 ·simp [h0]
def BrOk (l:List ByteArray):Prop := l.length ≤ 162 ∧ ∀ s ∈ l,s.size ≤ 40
theorem l62 {F:Nat} (hF:400 ≤ F) {l:List ByteArray}:∃ b,c62 F l = some b ∧ (b = true → BrOk l) := by
 unfold c62
 have e:(bif decide (8 < (l.length:Int)) then bif decide ((l.length:Int) ≤ 160) then some true else some (decide (162 < (l.length:Int))) else some (decide (162 < (l.length:Int)))) = some (decide (¬ (l.length ≤ 162 ∧ (l.length ≤ 8 ∨ 160 < l.length)))) := by
  by_cases a1:8 < (l.length:Int)
  ·by_cases a2:(l.length:Int) ≤ 160
   ·simp only [a1,a2,decide_true,cond_true,Option.some.injEq]
    exact (decide_eq_true (by omega)).symm
   ·simp only [a1,a2,decide_true,cond_true,decide_false,cond_false,Option.some.injEq,decide_eq_decide]
    omega
  ·simp only [a1,decide_false,cond_false,Option.some.injEq,decide_eq_decide]
   omega
 rw [e]
 by_cases hg:l.length ≤ 162 ∧ (l.length ≤ 8 ∨ 160 < l.length)
 ·simp only [hg,not_true_eq_false,decide_false,Option.bind_some,cond_false]
  refine bind_all l (fun x=>x.size ≤ 40) (fun b:Bool ⊕ Unit=>b = .inl false ∨ (b = .inr () ∧ ∀ x ∈ l,x.size ≤ 40)) (by omega) ?_ ?_ ?_
  ·intro i x hi hx
   simp (disch := omega) only [cd_pos,gd_dec,Int.toNat_natCast,getD_some hx,w64_in]
   by_cases a1:(40:Int) < x.size
   ·exact ⟨_,by simp [a1],.inr ⟨_,rfl,.inl rfl⟩⟩
   ·exact ⟨_,by simp [a1],.inl ⟨rfl,by omega⟩⟩
  ·intro hgood
   simp (disch := omega) only [cd_neg]
   exact ⟨_,rfl,.inr ⟨rfl,hgood⟩⟩
  ·intro b hb
   rcases hb with rfl | ⟨rfl,h2⟩
   ·exact ⟨false,rfl,by simp⟩
   ·exact ⟨true,rfl,fun _=>⟨hg.1,h2⟩⟩
 ·simp only [hg,not_false_eq_true,decide_true,Option.bind_some,cond_true]
  exact ⟨false,rfl,by simp⟩
def RShort (x:Rnd):Prop := x.1.size ≤ 40 ∧ BrOk x.2.2.1 ∧ BrOk x.2.2.2.1 ∧ BrOk x.2.2.2.2.1
theorem l16 {F:Nat} (hF:400 ≤ F) {p:Pln}:∃ b,c16 F p = some b ∧ (b = true → PShort p) := by
 unfold c16
 by_cases h1:(26:Int) < p.1.length
 ·exact ⟨false,by simp [h1],by simp⟩
 ·by_cases h2:(28:Int) < p.2.1.length
  ·exact ⟨false,by simp [h1,h2],by simp⟩
  ·simp only [h1,h2,decide_false,cond_false,Option.bind_some]
   refine bind_all p.1 RShort (fun b:Bool ⊕ Unit=>b = .inl false ∨ (b = .inr () ∧ ∀ x ∈ p.1,RShort x)) (by omega) ?_ ?_ ?_
   ·intro i x hi hx
    obtain ⟨b1,e1,q1⟩ := l62 hF (l := x.2.2.1)
    obtain ⟨b2,e2,q2⟩ := l62 hF (l := x.2.2.2.1)
    obtain ⟨b3,e3,q3⟩ := l62 hF (l := x.2.2.2.2.1)
    simp (disch := omega) only [cd_pos,gd_dec,Int.toNat_natCast,getD_some hx,w64_in,e1,e2,e3,Option.bind_some]
    by_cases a1:(40:Int) < x.1.size
    ·exact ⟨_,by simp [a1],.inr ⟨_,rfl,.inl rfl⟩⟩
    ·cases b1 with
     | false=>exact ⟨_,by simp [a1],.inr ⟨_,rfl,.inl rfl⟩⟩
     | true=>cases b2 with
      | false=>exact ⟨_,by simp [a1],.inr ⟨_,rfl,.inl rfl⟩⟩
      | true=>cases b3 with
       | false=>exact ⟨_,by simp [a1],.inr ⟨_,rfl,.inl rfl⟩⟩
       | true=>exact ⟨_,by simp [a1],.inl ⟨rfl,by omega,q1 rfl,q2 rfl,q3 rfl⟩⟩
   ·intro hgood
    simp (disch := omega) only [cd_neg]
    exact ⟨_,rfl,.inr ⟨rfl,hgood⟩⟩
   ·intro b hb
    rcases hb with rfl | ⟨rfl,h3⟩
    ·exact ⟨false,rfl,by simp⟩
    ·refine ⟨true,rfl,fun _=>⟨by omega,by omega,fun x hx=>?_⟩⟩
     obtain ⟨c0,c1,c2,c3⟩ := h3 x hx
     refine ⟨c0,fun l hl=>?_⟩
     rcases hl with rfl | rfl | rfl
     ·exact c1
     ·exact c2
     ·exact c3
theorem x146 (F:Nat) (a):cx146_0 F a = gStab (cx124_0 F) (0:Int) F a := by kernel_rfl
def InE (n:Nat) (a:Int):Prop := 0 ≤ a ∧ a < n
def ltT (t:List Int) (a b:Int):Bool := decide (tq t a < tq t b)
theorem ltT_on (t:List Int) (n:Nat):LtOn (ltT t) (InE n) := by
 refine ⟨fun x y _ _ h=>?_,fun x y z _ _ _ h=>?_⟩
 ·simp only [ltT,decide_eq_true_eq,decide_eq_false_iff_not] at h ⊢; omega
 ·simp only [ltT,decide_eq_true_eq] at h ⊢; omega
theorem l117 (F:Nat) (a b:Int):c117 F (a,b) = some (if a < b then -1 else if b < a then 1 else 0) := by
 unfold c117
 by_cases h:a < b
 ·simp [h]
 ·by_cases h2:b < a <;> simp [h,h2]
theorem cmp124 {F:Nat} {t:List Int}:CmpOk (cx124_0 F) t (ltT t) (InE t.length) := by
 intro a b ha hb
 have a1 := ha.1; have a2 := ha.2; have b1 := hb.1; have b2 := hb.2
 refine ⟨if tq t a < tq t b then -1 else if tq t b < tq t a then 1 else 0,?_,?_⟩
 ·unfold cx124_0
  simp (disch := omega) only [gd_dec,l117,Option.bind_some]
 ·unfold ltT
  generalize tq t a = u
  generalize tq t b = v
  by_cases h:u < v
  ·simp [h]
  ·by_cases h2:v < u <;> simp [h,h2]
theorem l123 {F:Nat} {t d:List Int} (hd:∀ x ∈ d,InE t.length x) (hl:d.length < F) (hb:d.length ≤ 1000):∃ L,cx123_0 F (d,t) = some L ∧ StabS (ltT t) d L := by
 obtain ⟨L,h1,h2⟩ := gStab_ok (ltT_on t t.length) (cmp124 (F := F)) (d := (0:Int)) hd hl (by omega)
 refine ⟨L,?_,h2⟩
 unfold cx123_0
 simp [gd_true,x146,h1]
def needR (a:ByteArray) (k:Nat) (x:Rnd):List Int := if (x.2.2.2.2.1.any fun y=>strEq a y) = true then [(k:Int)] else []
def needL (p:Pln) (a:ByteArray):List Int := ifl (needR a) 0 p.1
theorem needR_len (a:ByteArray) (k:Nat) (x:Rnd):(needR a k x).length ≤ 1 := by
 unfold needR
 split <;> simp
theorem needL_in {p:Pln} {a:ByteArray}:∀ x ∈ needL p a,InE p.1.length x := by
 intro x hx
 obtain ⟨j,y,hy,hr⟩ := ifl_mem hx
 have hj := (List.getElem?_eq_some_iff.1 hy).1
 unfold needR at hr
 split at hr
 ·rw [List.mem_singleton.1 hr]
  exact ⟨by omega,by omega⟩
 ·simp at hr
theorem l91 {F:Nat} (hF:400 ≤ F) {p:Pln} {t:List Int} (h:PV p) (ht:TOk p t) {a:ByteArray}:∃ L,c91 F (p,t,a) = some L ∧ StabS (ltT t) (needL p a) L := by
 unfold c91
 have hn := h.n1
 have hsm := h.sh.sm
 have hlen := ifl_len (needR_len a) p.1 0
 have hll:(needL p a).length ≤ 24 := by unfold needL; omega
 obtain ⟨L,h1,h2⟩ := l123 (F := F) (t := t) (d := needL p a) (fun x hx=>by rw [ht.len]; exact needL_in x hx) (by omega) (by omega)
 refine ⟨L,?_,h2⟩
 refine bind_ifl p.1 0 (needR a) 1 [] (by omega) rfl (needR_len a) ?_ ?_ ?_
 ·intro i x s hi hx hs hs2
  have hsl:s.length ≤ 26 := by simp only [List.length_nil] at hs; omega
  have hmx := hsm.2.2 x (List.mem_of_getElem? hx)
  simp (disch := omega) only [Nat.zero_add,cd_pos,len_snoc,gd_dec,w64_in,Int.toNat_natCast,getD_some hx,l111 hF hmx.2.2.2.1,decide_true,Bool.and_self,gd_true,Option.bind_some]
  unfold needR
  cases x.2.2.2.2.1.any fun y=>strEq a y <;> simp [gd_true,nilT]
 ·intro s
  simp (disch := omega) only [cd_neg,decide_true,Bool.and_self,gd_true,Option.bind_some,Nat.zero_add]
 ·simp only [List.nil_append,decide_true,Bool.and_self,gd_true,Option.bind_some]
  rw [show ifl (needR a) 0 p.1 = needL p a from rfl,h1,Option.bind_some]
  have hL := h2.len
  have e:List.take (needL p a).length (List.drop 0 L) = L := by rw [← hL,List.drop_zero,List.take_length]
  simp (disch := omega) only [gd_dec,e]
def minL (m:Int) (l:List Int):Int := l.foldl (fun m x=>if x < m then x else m) m
def gapsS (p:Pln) (t:List Int):Int → List Int → List Int
 | _,[]=>[]
 | prev,x :: l=>(tq t x - (tq t prev + (rq p prev).2.1)) :: gapsS p t x l
theorem l93 {F:Nat} {g:Int} {l:List Int} (hF:l.length + 1 < F) (hb:l.length ≤ 1000):c93 F (g :: l) = some (minL g l) := by
 unfold c93
 have h1:¬ ((g :: l).length:Int) < 1 := by simp only [List.length_cons]; omega
 simp only [h1,decide_false,cond_false]
 have hg:(g :: l).getD 0 0 = g := rfl
 have hl:(g :: l).length = l.length + 1 := rfl
 simp (disch := omega) only [gd_dec,hg]
 refine bind_list l (fun (s:Int) i=>(s,((i + 1:Nat):Int))) (fun x s=>.inl (if x < s then x else s)) (fun s=>s) (fun _ _=>True) g (by omega) rfl trivial ?_ ?_ ?_
 ·intro i x s hi hx _
  refine ⟨?_,fun _ _=>trivial⟩
  have hx':(g :: l)[i + 1]? = some x := by simpa using hx
  simp (disch := omega) only [cd_pos,gd_dec,w64_in,Int.toNat_natCast,getD_some hx']
  rfl
 ·intro s _
  simp (disch := omega) only [cd_neg]
 ·rw [goL_fold (fun s x=>if x < s then x else s)]
  rfl
theorem l90 {F:Nat} (hF:400 ≤ F) {p:Pln} {t:List Int} (h:PShort p) (hl:t.length ≤ 300) {a:ByteArray} {L:List Int} (hL:soundE p t = 0 → c91 F (p,t,a) = some L):c90 F (p,t,a) = some (if soundE p t = 0 then (if L.length = 0 then 10 else 0) else soundE p t) := by
 unfold c90
 simp only [peta,l96 hF h hl,Option.bind_some]
 by_cases h0:soundE p t = 0
 ·simp only [h0,hL h0,decide_true,Bool.not_true,cond_false,if_true,Option.bind_some,l88,decide_eq_true_eq]
  by_cases h1:L.length = 0
  ·simp [h1]
  ·have:¬ (L.length:Int) = 0 := by omega
   simp [h1,this]
 ·simp [h0]
def restB (p:Pln) (t:List Int) (x:Int) (s:Int × List Int):(Int × List Int) ⊕ (Unit × Int × List Int) := .inl (tq t x + (rq p x).2.1,if 0 ≤ s.1 then s.2 ++ [tq t x - s.1] else s.2)
theorem restB_go {p:Pln} {t:List Int} (h:PV p) (ht:TOk p t):∀ (l:List Int) (x:Int) (out:List Int),(∀ y ∈ x :: l,InE p.1.length y) → ∃ u,goL (restB p t) (fun s=>((),s.1,s.2)) l (tq t x + (rq p x).2.1,out) = ((),u,out ++ gapsS p t x l)
 | [],x,out,_=>⟨tq t x + (rq p x).2.1,by simp only [goL_nil,gapsS,List.append_nil]⟩
 | y :: l,x,out,hy=>by
  have hx := hy x (by simp)
  have b1 := ht.at hx.1 hx.2
  have b2 := (h.at hx.1 hx.2).1
  obtain ⟨u,hu⟩ := restB_go h ht l y (out ++ [tq t y - (tq t x + (rq p x).2.1)]) (fun z hz=>hy z (by simp at hz ⊢; right; exact hz))
  refine ⟨u,?_⟩
  rw [goL_cons]
  have hpos:(0:Int) ≤ tq t x + (rq p x).2.1 := by omega
  simp only [restB,hpos,if_true] at hu ⊢
  rw [hu]
  simp [gapsS]
theorem gapsS_len (p:Pln) (t:List Int):∀ (l:List Int) (x:Int),(gapsS p t x l).length = l.length
 | [],x=>rfl
 | y :: l,x=>by simp [gapsS,gapsS_len p t l]
def restV (p:Pln) (t:List Int):List Int → Int × Int
 | []=>(0,7)
 | x :: l=>match gapsS p t x l with
  | []=>(0,7)
  | g :: gs=>(minL g gs,0)
theorem l41 {F:Nat} (hF:400 ≤ F) {p:Pln} {t:List Int} (h:PShort p) (hl:t.length ≤ 300) {a:ByteArray} {L:List Int} (hL:soundE p t = 0 → c91 F (p,t,a) = some L) (hD:∀ y ∈ L,InE p.1.length y) (hLl:L.length ≤ 24) :
  c41 F (p,t,a) = some (if soundE p t = 0 then (if L.length = 0 then (0,10) else restV p t L) else (0,soundE p t)) := by
 unfold c41
 simp only [peta,l90 hF h hl hL,Option.bind_some]
 by_cases h0:soundE p t = 0
 ·simp only [h0,if_true]
  by_cases h1:L.length = 0
  ·simp [h1]
  ·obtain ⟨hp,hf⟩ := soundE_zero h0
   have hv := PV.of h hp
   have ht := (TOk.of hf).1
   have hlt := ht.len
   simp only [h1,if_false,decide_true,Bool.not_true,cond_false,hL h0,Option.bind_some]
   refine bind_list L (fun (s:Int × List Int) i=>((),s.1,s.2,(i:Int))) (restB p t) (fun s=>((),s.1,s.2)) (fun i s=>-1 ≤ s.1 ∧ s.1 ≤ 4398046512545 ∧ s.2.length ≤ i) (-1,[]) (by omega) rfl ⟨by simp,by simp,by simp⟩ ?_ ?_ ?_
   ·intro i x s hi hx ⟨hs1,hs2,hs3⟩
    have hxD := hD x (List.mem_of_getElem? hx)
    have x1 := hxD.1
    have x2 := hxD.2
    have b1 := ht.at hxD.1 hxD.2
    have b2 := (hv.at hxD.1 hxD.2).1
    obtain ⟨s1,s2⟩ := s
    simp only at hs1 hs2 hs3
    simp only [tq,rq,r0] at b1 b2
    unfold restB
    simp only [tq,rq,r0]
    refine ⟨?_,?_⟩
    ·by_cases hp:0 ≤ s1
     ·simp (disch := omega) only [cd_pos,gd_dec,w64_in,Int.toNat_natCast,getD_some hx,hp,if_true,decide_true,len_snoc,Bool.and_self,gd_true,Option.bind_some]
      rfl
     ·simp (disch := omega) only [cd_pos,cd_neg,gd_dec,w64_in,Int.toNat_natCast,getD_some hx,hp,if_false,decide_true,len_snoc,Bool.and_self,gd_true,Option.bind_some]
      rfl
    ·intro s' hs'
     injection hs' with hs'
     rw [← hs']
     simp only []
     refine ⟨by omega,by omega,?_⟩
     split
     ·rw [List.length_append,List.length_singleton]; omega
     ·omega
   ·intro s ⟨_,_,hs3⟩
    simp (disch := omega) only [cd_neg,decide_true,Bool.and_self,gd_true,Option.bind_some]
   ·cases L with
    | nil=>exact absurd rfl h1
    | cons x l =>
     obtain ⟨u,hu⟩ := restB_go hv ht l x [] hD
     have e:restB p t x (-1,[]) = .inl (tq t x + (rq p x).2.1,[]) := by simp [restB]
     have hgo:goL (restB p t) (fun s=>((),s.1,s.2)) (x :: l) (-1,[]) = ((),u,gapsS p t x l) := by
      rw [goL_cons,e]
      simpa using hu
     simp only [hgo,restV]
     have hgl := gapsS_len p t l x
     have hll:l.length ≤ 23 := by simp only [List.length_cons] at hLl; omega
     cases hg:gapsS p t x l with
     | nil=>simp
     | cons g gs =>
      rw [hg] at hgl
      simp only [List.length_cons] at hgl
      have hne:¬ (((g :: gs).length:Nat):Int) = 0 := by simp only [List.length_cons]; omega
      simp only [hne,decide_false,cond_false,take_all,Nat.zero_add,Nat.le_refl,decide_true,Bool.and_self,gd_true,l93 (F := F) (g := g) (l := gs) (by omega) (by omega),Option.bind_some]
 ·simp [h0]
end Go.Proofs.Tryz
