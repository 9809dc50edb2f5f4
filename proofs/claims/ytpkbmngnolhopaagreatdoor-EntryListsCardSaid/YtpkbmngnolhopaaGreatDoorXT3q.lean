/- Plain law: accepted and reserves, by the program and by the reference. Plain law: sorting and leaving out. And further parts. -/
import Derived.Test.YtpkbmngnolhopaaGreatDoorXT3i
import Derived.Test.YtpkbmngnolhopaaGreatDoorXTeB2
import Derived.Test.YtpkbmngnolhopaaGreatDoorXTeB3
set_option maxRecDepth 100000
set_option linter.unusedVariables false
set_option linter.unusedSimpArgs false
set_option linter.all false
namespace Go.Proofs.Tryz
open Go Go.Sx
theorem foldl_pair {α β γ:Type} (f:β × γ → α → β) (g:γ → α → γ):∀ (l:List α) (z:β × γ),(l.foldl (fun q x=>(f q x,g q.2 x)) z).2 = l.foldl g z.2
 | [],_=>rfl
 | x :: l,z=>by rw [List.foldl_cons,foldl_pair f g l,List.foldl_cons]
theorem l138 {F:Nat} (hF:400 ≤ F) {s:St3} (hS:SmS s) (ct:Cst) {L:List Ent} (hl:L.length ≤ 300) (hk:∀ x ∈ L,0 ≤ aI s x.1) (w:Bool) :
  c138 F (s,ct,L,w) = some (if w = true then (divL s ct.2.2.2.2.2.1 ct.2.2.2.2.2.2.1 L).2.1 else (divL s ct.2.2.2.2.2.1 ct.2.2.2.2.2.2.1 L).1) := by
 have e:∀ y:ByteArray,y :: nilT ByteArray = [y] := fun _=>rfl
 unfold c138
 simp only [tE,peta]
 generalize hP:ct.2.2.2.2.2.1 = P
 generalize hC:ct.2.2.2.2.2.2.1 = C
 refine bind_list L (fun (q:List (ByteArray × Int) × Dv) i=>((),q.1,(if w = true then q.2.2.1 else q.2.1),(q.2.2.1.length:Int),(i:Int)))
  (fun x q=>.inl (if inD s P C q.2 x = true then mput strEq (clubOf s x.1) (mgetD strEq (clubOf s x.1) q.1 0 + 1) q.1 else q.1,divS s P C q.2 x)) (fun q=>((),q.1,if w = true then q.2.2.1 else q.2.1))
  (fun i q=>MapR q.1 q.2.2.2 ∧ q.2.1.length + q.2.2.1.length = i ∧ q.2.2.1.length = q.2.2.2.length) ([],[],[],[]) (by omega) (by cases w <;> rfl) ⟨fun k=>by simp [mgetD_nil,cntB],rfl,rfl⟩ ?_ ?_ ?_
 ·rintro i x ⟨q,r,a,cl⟩ hi hx ⟨hq,hn,hc⟩
  simp only at hq hn hc
  have hkx := hk x (List.mem_of_getElem? hx)
  have hc1 := hq (clubOf s x.1)
  have hc2 := cntB_le cl (clubOf s x.1)
  have n1:(a ++ [x.1]).length ≤ 301 := by simp; omega
  have n2:(r ++ [x.1]).length ≤ 301 := by simp; omega
  refine ⟨?_,fun s' hs=>?_⟩
  ·have n3:(if w = true then a else r).length ≤ 300 := by cases w <;> simp <;> omega
   have n4:((if w = true then a else r) ++ [x.1]).length ≤ 301 := by simp; omega
   simp (disch := omega) only [cd_pos,gd_dec,Int.toNat_natCast,getD_some hx,w64_in,peta,l129 hF hS hkx,hc1,hP,hC,Option.bind_some,e,decide_true,Bool.and_self,gd_true]
   by_cases p1:(a.length:Int) < P
   ·by_cases p2:(cntB cl (clubOf s x.1):Int) < C
    ·have hd:inD s P C (r,a,cl) x = true := by simp [inD,p1,p2]
     simp only [p1,p2,hd,divS,decide_true,cond_true,if_true,Option.bind_some]
     cases w <;> simp [gd_true]
    ·have hd:inD s P C (r,a,cl) x = false := by simp [inD,p1,p2]
     simp only [p1,p2,hd,divS,decide_true,decide_false,cond_true,cond_false,if_true,if_false,Bool.false_eq_true,Option.bind_some]
     cases w <;> simp [gd_true]
   ·have hd:inD s P C (r,a,cl) x = false := by simp [inD,p1]
    simp only [p1,hd,divS,decide_false,cond_false,if_false,Bool.false_eq_true,Option.bind_some]
    cases w <;> simp [gd_true]
  ·simp only [Sum.inl.injEq] at hs
   subst hs
   cases hd:inD s P C (r,a,cl) x
   ·simp only [hd,divS,Bool.false_eq_true,if_false]
    refine ⟨hq,?_,hc⟩
    simp only [List.length_append,List.length_singleton]
    omega
   ·simp only [hd,divS,if_true]
    refine ⟨hq.put _,?_,?_⟩ <;> simp only [List.length_append,List.length_singleton] <;> omega
 ·rintro ⟨q,r,a,cl⟩ ⟨hq,hn,hc⟩
  simp only at hn hc
  have n3:(if w = true then a else r).length ≤ 300 := by cases w <;> simp <;> omega
  simp (disch := omega) only [cd_neg,decide_true,Bool.and_self,gd_true,Option.bind_some]
 ·rw [goL_fold (fun (q:List (ByteArray × Int) × Dv) (x:Ent)=>(if inD s P C q.2 x = true then mput strEq (clubOf s x.1) (mgetD strEq (clubOf s x.1) q.1 0 + 1) q.1 else q.1,divS s P C q.2 x))]
  rw [foldl_pair (fun (q:List (ByteArray × Int) × Dv) (x:Ent)=>if inD s P C q.2 x = true then mput strEq (clubOf s x.1) (mgetD strEq (clubOf s x.1) q.1 0 + 1) q.1 else q.1) (divS s P C) L ([],[],[],[])]
  change gd _ (some (List.take (List.length (if w = true then (divL s P C L).2.1 else (divL s P C L).1)) (List.drop 0 (if w = true then (divL s P C L).2.1 else (divL s P C L).1)))) = _
  simp only [Nat.zero_add,Nat.le_refl,decide_true,Bool.and_self,gd_true,List.drop_zero,List.take_length]
theorem dv_loop {s:St3} {P C:Int} {step:List ByteArray × List ByteArray × List ByteArray × Int → Option ((List ByteArray × List ByteArray × List ByteArray × Int) ⊕ (List ByteArray × List ByteArray × List ByteArray))} {F:Nat} (L:List Ent) (hF:L.length < F)
  (hstep:∀ (i:Nat) x (d:Dv),i < L.length → L[i]? = some x → d.1.length + d.2.1.length = i → d.2.1.length = d.2.2.length → step (d.1,d.2.1,d.2.2,(i:Int)) = some (.inl ((divS s P C d x).1,(divS s P C d x).2.1,(divS s P C d x).2.2,(i:Int) + 1)))
  (hend:∀ d:Dv,d.1.length + d.2.1.length = L.length → d.2.1.length = d.2.2.length → step (d.1,d.2.1,d.2.2,(L.length:Int)) = some (.inr d)):loopO step F (nilT ByteArray,nilT ByteArray,nilT ByteArray,0) = some (divL s P C L) := by
 rw [loopO_list (t := (nilT ByteArray,nilT ByteArray,nilT ByteArray,0)) L (fun (d:Dv) i=>(d.1,d.2.1,d.2.2,(i:Int))) (fun x d=>.inl (divS s P C d x)) (fun d=>d) (fun i d=>d.1.length + d.2.1.length = i ∧ d.2.1.length = d.2.2.length) ?_ ?_ (s := ([],[],[])) rfl ⟨rfl,rfl⟩ hF]
 ·rw [goL_fold (divS s P C)]
  rfl
 ·intro i x d hi hx ⟨h1,h2⟩
  refine ⟨by rw [hstep i x d hi hx h1 h2]; rfl,fun d' hd=>?_⟩
  simp only [Sum.inl.injEq] at hd
  subst hd
  obtain ⟨k1,k2⟩ := divS_len s P C d x
  exact ⟨by omega,k2.2 h2⟩
 ·intro d ⟨h1,h2⟩
  exact hend d h1 h2
theorem l72 {F:Nat} (hF:400 ≤ F) {m:Mt} (hm:m.2.2.2.2.length ≤ 300) {s:St3} (hS:SmS s) {c:ByteArray} (hc:0 ≤ cI m c) {k:Bool} (hA:AllOk (selC s c k)) (hk:∀ x ∈ s.2.2.2.1,0 ≤ aI s x.1) :
  c72 F (m,s,c,k) = some ((divL s (cAt m c).2.2.2.2.2.1 (cAt m c).2.2.2.2.2.2.1 (sortR (selC s c k))).2.1,(divL s (cAt m c).2.2.2.2.2.1 (cAt m c).2.2.2.2.2.2.1 (sortR (selC s c k))).1) := by
 have e:∀ y:ByteArray,y :: nilT ByteArray = [y] := fun _=>rfl
 have hd:zCst = dC := rfl
 have hdA:zAth = dA := rfl
 obtain ⟨j,y,h1,h2,-,-⟩ := idxI_get hc
 have h1':idxI (fun y:Cst=>strEq y.1 c) m.2.2.2.2 = (j:Int) := h1
 have hC:m.2.2.2.2.getD j dC = cAt m c := by unfold cAt cI; rw [h1']; rfl
 have hL := sortR_len (selC s c k)
 have hL2 := selC_len s c k
 have hLe := hS.e
 have hLk:∀ x ∈ sortR (selC s c k),0 ≤ aI s x.1 := fun x hx=>hk x (selC_mem x ((sortR_perm _).mem_iff.1 hx)).1
 unfold c72 tw
 simp only [tE,hd,hdA,peta,l71 hF hS hA,l47 (F := F) (m := m) (by omega) (by omega),Option.bind_some,h1',Int.toNat_natCast,hC]
 generalize sortR (selC s c k) = L at hL hLk
 generalize hP:(cAt m c).2.2.2.2.2.1 = P
 generalize hQ:(cAt m c).2.2.2.2.2.2.1 = Q
 rw [dv_loop (s := s) (P := P) (C := Q) L (by omega)]
 ·obtain ⟨r,a,cl⟩ := divL s P Q L
  simp (disch := omega) only [gd_dec,Option.bind_some,decide_true,Bool.and_self,gd_true,Nat.zero_add,Nat.le_refl,List.drop_zero,List.take_length]
  exact (congrArg (fun b=>gd b (some (a,r))) (AEls.eqv_rf (ATy.val (Ty.seq (Ty.str :: nilT Ty)) :: ATy.val (Ty.seq (Ty.str :: nilT Ty)) :: nilT ATy) (a,r))).trans (gd_true _)
 ·rintro i x ⟨r,a,cl⟩ hi hx hn hc
  simp only at hn hc
  have hkx := hLk x (List.mem_of_getElem? hx)
  obtain ⟨ka,ha1,ha2⟩ := aI_lt hkx
  have n1:(a ++ [x.1]).length ≤ 301 := by simp; omega
  have n2:(r ++ [x.1]).length ≤ 301 := by simp; omega
  have n3:(cl ++ [(s.2.1.getD ka dA).2.1]).length ≤ 301 := by simp; omega
  have hcl:(s.2.1.getD ka dA).2.1 = clubOf s x.1 := by unfold clubOf; rw [ha1]; rfl
  simp (disch := omega) only [cd_pos,gd_dec,Int.toNat_natCast,getD_some hx,w64_in,peta,l40 hF hS,Option.bind_some,ha1,hcl]
  rw [hcl] at n3
  have hcn := cntB_le cl (clubOf s x.1)
  refine bind_list cl (fun n q=>(n,(q:Int))) (fun z n=>.inl (if strEq z (clubOf s x.1) = true then n + 1 else n)) (fun n=>n) (fun q n=>0 ≤ n ∧ n ≤ q) 0 (by omega) rfl ⟨by omega,by omega⟩ ?_ ?_ ?_
  ·intro q z n hq hz hnq
   refine ⟨?_,fun s' hs=>?_⟩
   ·simp (disch := omega) only [cd_pos,gd_dec,Nat.zero_add,Int.toNat_natCast,getD_some hz,w64_in]
    cases strEq z (clubOf s x.1) <;> rfl
   ·simp only [Sum.inl.injEq] at hs
    subst hs
    split <;> omega
  ·intro n _
   simp (disch := omega) only [cd_neg]
  ·rw [goL_fold (fun n (z:ByteArray)=>if strEq z (clubOf s x.1) = true then n + 1 else n),foldl_cnt (fun z:ByteArray=>strEq z (clubOf s x.1)),Int.zero_add]
   rw [show (List.filter (fun z=>strEq z (clubOf s x.1)) cl).length = cntB cl (clubOf s x.1) from rfl]
   simp (disch := omega) only [e,gd_dec,decide_true,Bool.and_self,gd_true,Option.bind_some]
   unfold divS inD
   by_cases p1:(a.length:Int) < P
   ·by_cases p2:(cntB cl (clubOf s x.1):Int) < Q
    ·simp [p1,p2,gd_true]
    ·simp [p1,p2,gd_true]
   ·simp [p1,gd_true]
 ·rintro ⟨r,a,cl⟩ hn hc
  simp only at hn hc
  simp (disch := omega) only [cd_neg,decide_true,Bool.and_self,gd_true,Option.bind_some]
def ctOf (m:Mt) (c:ByteArray):Cst := if cI m c < 0 then zeroC else cAt m c
def openE (m:Mt) (s:St3) (c:ByteArray) (relay:Bool):Int := firstNZ [stE m s,if cI m c < 0 then 10 else 0,if (decide (0 < (ctOf m c).2.2.2.2.2.2.2.2.2.2) == relay) = true then 0 else 13]
theorem l137 {F:Nat} (hF:400 ≤ F) {m:Mt} (hm:m.2.2.2.2.length ≤ 300) (hb:∀ x ∈ m.2.2.2.2,x.1.size ≤ 300 ∧ x.2.2.1.size ≤ 300) {s:St3} (h:SmS s) (c:ByteArray) (relay:Bool) :
  c137 F (m,s,c,relay) = some (ctOf m c,openE m s c relay) := by
 have e3:∀ a b c,c84 F (a :: b :: c :: nilT Int) = some (firstNZ [a,b,c]) := fun a b c=>l84' hF (by simp [nilT])
 unfold c137 openE ctOf
 simp only [peta,l131 hF hm,l25 hF hm hb h,l86,Option.bind_some]
 by_cases hc:cI m c < 0
 ·simp only [hc,if_true,l86,e3,Option.bind_some]
  cases (decide (0 < zeroC.2.2.2.2.2.2.2.2.2.2) == relay) <;> rfl
 ·simp only [hc,if_false,l86,e3,Option.bind_some]
  cases (decide (0 < (cAt m c).2.2.2.2.2.2.2.2.2.2) == relay) <;> rfl
theorem openE_st {m:Mt} {s:St3} {c:ByteArray} {r:Bool} (h:openE m s c r = 0):stE m s = 0 ∧ 0 ≤ cI m c := by
 have h1 := firstNZ_zero h (stE m s) (by simp)
 have h2 := firstNZ_zero h (if cI m c < 0 then 10 else 0) (by simp)
 refine ⟨h1,?_⟩
 by_cases h3:cI m c < 0
 ·simp [h3] at h2
 ·omega
theorem st_few {m:Mt} {s:St3} (hv:stE m s = 0) (h:ShS s):s.2.2.2.1.length ≤ 20 := by
 rcases h.e with h1 | ⟨h1,-⟩
 ·exact h1
 ·have h3:mtE m = 0 := by
   by_cases h:mtE m = 0
   ·exact h
   ·rw [stE,if_neg h] at hv; exact absurd hv h
  have h2:manyS s := by unfold manyS; omega
  rw [stE,if_pos h3,if_pos h2] at hv
  exact absurd hv (by decide)
def dvOf (m:Mt) (s:St3) (c:ByteArray):Dv := divL s (cAt m c).2.2.2.2.2.1 (cAt m c).2.2.2.2.2.2.1 (listS s c)
theorem selE_mem {s:St3} {c:ByteArray}:∀ x ∈ selE s c,x ∈ s.2.2.2.1 ∧ strEq x.2.1 c = true := fun x hx=>by
 rw [← selC_false] at hx
 exact selC_mem x hx
theorem selE_len (s:St3) (c:ByteArray):(selE s c).length ≤ s.2.2.2.1.length := List.length_filter_le _ _
theorem l139v {F:Nat} (hF:400 ≤ F) {m:Mt} {s:St3} (h:ShS s) {c:ByteArray} (hv:stE m s = 0):c139 F (s,c) = some (listS s c) :=
 l139 hF h.sm (by have := st_few hv h; have := selE_len s c; omega) (st_all hv c selE_mem)
theorem list_known {m:Mt} {s:St3} (hv:stE m s = 0) {c:ByteArray}:∀ x ∈ listS s c,0 ≤ aI s x.1 := fun x hx =>
 st_known hv (selE_mem x ((sortR_perm _).mem_iff.1 hx)).1
theorem list_len {m:Mt} {s:St3} (h:ShS s) (hv:stE m s = 0) (c:ByteArray):(listS s c).length ≤ 20 := by
 unfold listS
 rw [sortR_len]
 have := st_few hv h
 have := selE_len s c
 omega
theorem l55 {F:Nat} (hF:400 ≤ F) {m:Mt} (hm:m.2.2.2.2.length ≤ 300) (hb:∀ x ∈ m.2.2.2.2,x.1.size ≤ 300 ∧ x.2.2.1.size ≤ 300) {s:St3} (h:ShS s) (c:ByteArray) :
  c55 F (m,s,c) = some (if openE m s c false = 0 then (listS s c,0) else ([],openE m s c false)) := by
 unfold c55
 simp only [peta,l137 hF hm hb h.sm,Option.bind_some]
 by_cases hv:openE m s c false = 0
 ·simp only [hv,decide_true,Bool.not_true,cond_false,if_true,l139v hF h (openE_st hv).1,Option.bind_some]
 ·simp only [hv,decide_false,Bool.not_false,cond_true,if_false]
  rfl
theorem ctOf_at {m:Mt} {c:ByteArray} (h:0 ≤ cI m c):ctOf m c = cAt m c := by
 unfold ctOf
 rw [if_neg (by omega)]
theorem l52 {F:Nat} (hF:400 ≤ F) {m:Mt} (hm:m.2.2.2.2.length ≤ 300) (hb:∀ x ∈ m.2.2.2.2,x.1.size ≤ 300 ∧ x.2.2.1.size ≤ 300) {s:St3} (h:ShS s) (c:ByteArray) :
  c52 F (m,s,c) = some (if openE m s c false = 0 then ((dvOf m s c).2.1,0) else ([],openE m s c false)) := by
 unfold c52
 simp only [peta,l137 hF hm hb h.sm,Option.bind_some]
 by_cases hv:openE m s c false = 0
 ·obtain ⟨v1,v2⟩ := openE_st hv
  simp only [hv,decide_true,Bool.not_true,cond_false,if_true,l139v hF h v1,ctOf_at v2,l138 hF h.sm (cAt m c) (show (listS s c).length ≤ 300 by have := list_len h v1 c; omega) (list_known v1),Option.bind_some]
  rfl
 ·simp only [hv,decide_false,Bool.not_false,cond_true,if_false]
  rfl
theorem l56 {F:Nat} (hF:400 ≤ F) {m:Mt} (hm:m.2.2.2.2.length ≤ 300) (hb:∀ x ∈ m.2.2.2.2,x.1.size ≤ 300 ∧ x.2.2.1.size ≤ 300) {s:St3} (h:ShS s) (c:ByteArray) :
  c56 F (m,s,c) = some (if openE m s c false = 0 then ((dvOf m s c).1,0) else ([],openE m s c false)) := by
 unfold c56
 simp only [peta,l137 hF hm hb h.sm,Option.bind_some]
 by_cases hv:openE m s c false = 0
 ·obtain ⟨v1,v2⟩ := openE_st hv
  simp only [hv,decide_true,Bool.not_true,cond_false,if_true,l139v hF h v1,ctOf_at v2,l138 hF h.sm (cAt m c) (show (listS s c).length ≤ 300 by have := list_len h v1 c; omega) (list_known v1),Option.bind_some]
  rfl
 ·simp only [hv,decide_false,Bool.not_false,cond_true,if_false]
  rfl
theorem ltE_tr {x a b:Ent} (h1:ltE x a = true) (h2:ltE b a = false):ltE x b = true := by
 unfold ltE at *
 simp only [Bool.or_eq_true,Bool.and_eq_true,decide_eq_true_eq,Bool.or_eq_false_iff,Bool.and_eq_false_iff,decide_eq_false_iff_not] at *
 omega
theorem ltE_as {x y:Ent} (h:ltE x y = true):ltE y x = false := by
 unfold ltE at *
 simp only [Bool.or_eq_true,Bool.and_eq_true,decide_eq_true_eq,Bool.or_eq_false_iff,Bool.and_eq_false_iff,decide_eq_false_iff_not] at *
 omega
theorem ltE_trans {x y z:Ent} (h:ltE x y = true) (h2:ltE y z = true):ltE x z = true := by
 unfold ltE at *
 simp only [Bool.or_eq_true,Bool.and_eq_true,decide_eq_true_eq] at *
 omega
def SortE (l:List Ent):Prop := l.Pairwise fun a b=>ltE b a = false
theorem posR_app (x:Ent) (Q R:List Ent):∀ n,n ≤ Q.length → posR x (Q ++ R) n = posR x Q n
 | 0,_=>rfl
 | n + 1,h=>by
  have e:(Q ++ R).getD n dE = Q.getD n dE := by
   simp only [List.getD_eq_getElem?_getD]
   rw [List.getElem?_append_left (by omega)]
  simp only [posR,e,posR_app x Q R n (by omega)]
theorem snoc_cases {α:Type} (l:List α):l = [] ∨ ∃ q z,l = q ++ [z] := by
 rcases l.eq_nil_or_concat with h | ⟨q,z,h⟩
 ·exact .inl h
 ·exact .inr ⟨q,z,by simpa using h⟩
theorem posR_cut (x:Ent):∀ (n:Nat) (P:List Ent),P.length = n → SortE P → P.take (posR x P n) = P.filter (fun y=>!ltE x y) ∧ P.drop (posR x P n) = P.filter fun y=>ltE x y
 | 0,P,h,_=>by
  obtain rfl := List.eq_nil_of_length_eq_zero h
  exact ⟨rfl,rfl⟩
 | n + 1,P,h,hs=>by
  rcases snoc_cases P with rfl | ⟨Q,z,rfl⟩
  ·simp at h
  ·have hQ:Q.length = n := by simpa using h
   unfold SortE at hs
   rw [List.pairwise_append] at hs
   obtain ⟨s1,-,s2⟩ := hs
   have e:(Q ++ [z]).getD n dE = z := by
    simp only [List.getD_eq_getElem?_getD]
    rw [List.getElem?_append_right (by omega),hQ]
    simp
   have hp:posR x (Q ++ [z]) (n + 1) = if ltE x z = true then posR x Q n else n + 1 := by
    simp only [posR,e,posR_app x Q [z] n (by omega)]
   rw [hp]
   cases hz:ltE x z with
   | true =>
    obtain ⟨i1,i2⟩ := posR_cut x n Q hQ s1
    have hle := posR_le x Q n
    simp only [if_true]
    rw [List.take_append_of_le_length (by omega),List.drop_append_of_le_length (by omega),i1,i2]
    simp [hz]
   | false =>
    have all:∀ y ∈ Q,ltE x y = false := fun y hy=>by
     cases hxy:ltE x y with
     | false=>rfl
     | true=>rw [ltE_tr hxy (s2 y hy z (by simp))] at hz; cases hz
    simp only [Bool.false_eq_true,if_false]
    rw [List.take_of_length_le (by simp; omega),List.drop_of_length_le (by simp; omega)]
    constructor
    ·rw [List.filter_eq_self.2]
     intro y hy
     rcases List.mem_append.1 hy with hy | hy
     ·simp [all y hy]
     ·obtain rfl := List.mem_singleton.1 hy
      simp [hz]
    ·rw [List.filter_eq_nil_iff.2]
     intro y hy
     rcases List.mem_append.1 hy with hy | hy
     ·simp [all y hy]
     ·obtain rfl := List.mem_singleton.1 hy
      simp [hz]
theorem insR_is {P:List Ent} (hs:SortE P) (x:Ent):insR P x = P.filter (fun y=>!ltE x y) ++ x :: P.filter fun y=>ltE x y := by
 obtain ⟨h1,h2⟩ := posR_cut x P.length P rfl hs
 unfold insR
 rw [h1,h2]
theorem insR_sort {P:List Ent} (hs:SortE P) (x:Ent):SortE (insR P x) := by
 rw [insR_is hs]
 unfold SortE
 rw [List.pairwise_append]
 refine ⟨List.Pairwise.filter _ hs,?_,?_⟩
 ·rw [List.pairwise_cons]
  refine ⟨fun b hb=>?_,List.Pairwise.filter _ hs⟩
  exact ltE_as (List.mem_filter.1 hb).2
 ·intro a ha b hb
  have h1:ltE x a = false := by simpa using (List.mem_filter.1 ha).2
  rcases List.mem_cons.1 hb with rfl | hb
  ·exact h1
  ·have h2 := (List.mem_filter.1 hb).2
   cases h3:ltE b a with
   | false=>rfl
   | true=>rw [ltE_trans h2 h3] at h1; cases h1
theorem insR_filter {P:List Ent} (hs:SortE P) (x:Ent) (p:Ent → Bool):(insR P x).filter p = if p x = true then insR (P.filter p) x else P.filter p := by
 cases hp:p x with
 | true =>
  have hs2:SortE (P.filter p) := List.Pairwise.filter _ hs
  rw [insR_is hs,insR_is hs2,if_pos rfl,List.filter_append,List.filter_cons,if_pos hp]
  simp only [List.filter_filter,Bool.and_comm]
 | false =>
  unfold insR
  rw [List.filter_append,List.filter_cons]
  simp only [hp,Bool.false_eq_true,if_false]
  rw [← List.filter_append,List.take_append_drop]
theorem sortR_sort (l:List Ent):SortE (sortR l) := by
 have h:∀ (n:Nat) (l:List Ent),l.length = n → SortE (sortR l) := by
  intro n
  induction n with
  | zero=>intro l h; obtain rfl := List.eq_nil_of_length_eq_zero h; exact List.Pairwise.nil
  | succ n ih =>
   intro l h
   rcases snoc_cases l with rfl | ⟨q,z,rfl⟩
   ·simp at h
   ·rw [sortR_snoc]
    exact insR_sort (ih q (by simpa using h)) z
 exact h _ l rfl
theorem sortR_filter (p:Ent → Bool) (l:List Ent):(sortR l).filter p = sortR (l.filter p) := by
 have h:∀ (n:Nat) (l:List Ent),l.length = n → (sortR l).filter p = sortR (l.filter p) := by
  intro n
  induction n with
  | zero=>intro l h; obtain rfl := List.eq_nil_of_length_eq_zero h; rfl
  | succ n ih =>
   intro l h
   rcases snoc_cases l with rfl | ⟨q,z,rfl⟩
   ·simp at h
   ·rw [sortR_snoc,insR_filter (sortR_sort q),ih q (by simpa using h),List.filter_append]
    cases hp:p z with
    | true =>
     simp only [List.filter_cons,hp,if_true,List.filter_nil]
     rw [sortR_snoc]
    | false=>simp [hp]
 exact h _ l rfl
end Go.Proofs.Tryz
section

end
section
namespace Go.Proofs.Tryz
open Go Go.Sx
noncomputable section
def lxd150 (F:Nat):LK := lN
def cd150 (F:Nat) (a:List ByteArray):Option (List ByteArray) :=
 bif decide (a.length = 0) then ((gd (decide (List.length (nilT ByteArray ++ a) * (16:Nat) ≤ (140737488355328:Nat))) (gd (decide (List.length (nilT ByteArray ++ a) ≤ 9223372036854775807)) (gd (decide ((0:Nat) + List.length (nilT ByteArray ++ a) ≤ List.length (nilT ByteArray ++ a))) (some (List.take (List.length (nilT ByteArray ++ a)) (List.drop (0:Nat) (nilT ByteArray ++ a))))))).bind fun (v4:List ByteArray)=>gd (AEls.eqv (ATy.val (Ty.seq (Ty.str :: nilT Ty)) :: nilT ATy) (nilT ByteArray) v4) (some (nilT ByteArray))) else (gd (decide (List.length (nilT ByteArray ++ a) * (16:Nat) ≤ (140737488355328:Nat))) (gd (decide (List.length (nilT ByteArray ++ a) ≤ 9223372036854775807)) (gd (decide ((0:Nat) + List.length (nilT ByteArray ++ a) ≤ List.length (nilT ByteArray ++ a))) (some (List.take (List.length (nilT ByteArray ++ a)) (List.drop (0:Nat) (nilT ByteArray ++ a)))))))
def pc150 (F:Nat):PC := { ats := [.val (.seq [.str])],rts := [.val (.seq [.str])],code := cd150 F }
theorem cd150_eq (F:Nat) (a:List ByteArray):codeOf cx (lxd150 F).x 1000 .leaf f150 (bodyOf f150) [.val (.seq [.str])] [.val (.seq [.str])] a = cd150 F a := by kernel_rfl
theorem pc150_ok (F:Nat):PCOk cx 150 (pc150 F) := PCOk.of_eval cx_ok (lxd150 F).ok (n := 1000) (an := .leaf) (fn := f150) (c := bodyOf f150) (by kernel_rfl) (by kernel_rfl) (fun a y h=>(cd150_eq F a).trans h) (by kernel_rfl)
end
end Go.Proofs.Tryz
end
