/- Plain law: who takes part, clashes, clubs. Plain law: clashes and clubs. And further parts. -/
import Derived.Test.YtpkbmngnolhopaaGreatDoorXT3e
import Derived.Test.YtpkbmngnolhopaaGreatDoorXTeB3
set_option maxRecDepth 100000
set_option linter.unusedVariables false
set_option linter.unusedSimpArgs false
namespace Go.Proofs.Tryz
open Go Go.Sx
theorem foldl_sel {α β:Type} (p:α → Bool) (f:α → β):∀ (l:List α) (out:List β),l.foldl (fun out x=>if p x = true then out ++ [f x] else out) out = out ++ (l.filter p).map f
 | [],out=>by simp
 | x :: l,out=>by
  rw [List.foldl_cons,foldl_sel p f l]
  cases h:p x <;> simp [h]
theorem bind_sel {α β γ:Type} {step:List β × Int → Option ((List β × Int) ⊕ List β)} {F:Nat} {k:List β → Option γ} {r:Option γ} (l:List α) (p:α → Bool) (f:α → β) (hF:l.length < F)
  (hstep:∀ (i:Nat) x out,i < l.length → l[i]? = some x → out.length ≤ i → step (out,(i:Int)) = some (.inl (if p x = true then out ++ [f x] else out,(i:Int) + 1)))
  (hend:∀ out,out.length ≤ l.length → step (out,(l.length:Int)) = some (.inr out))
  (hk:((l.filter p).map f).length ≤ l.length → k ((l.filter p).map f) = r):Option.bind (loopO step F ([],0)) k = r := by
 refine bind_list l (fun out i=>(out,(i:Int))) (fun x out=>.inl (if p x = true then out ++ [f x] else out)) (fun out=>out) (fun i s=>s.length ≤ i) [] hF rfl (Nat.le_refl _) ?_ ?_ ?_
 ·intro i x out hi hx ho
  refine ⟨?_,fun s' hs=>?_⟩
  ·rw [hstep i x out hi hx ho]
   rfl
  ·simp only [Sum.inl.injEq] at hs
   subst hs
   cases p x <;> simp <;> omega
 ·intro out ho
  exact hend out ho
 ·rw [goL_fold (fun out x=>if p x = true then out ++ [f x] else out),foldl_sel p f]
  simp only [List.nil_append]
  exact hk (by rw [List.length_map]; exact List.length_filter_le p l)
theorem l73 {F:Nat} (hF:400 ≤ F) {s:St3} (h:SmS s) (c:ByteArray):c73 F (s,c) = some (s.2.2.2.2.filter fun t=>strEq t.2.1 c) := by
 have h1 := h.t
 have e:∀ y:Tm,y :: nilT Tm = [y] := fun _=>rfl
 unfold c73
 refine bind_sel s.2.2.2.2 (fun t=>strEq t.2.1 c) (fun t=>t) (by omega) ?_ ?_ ?_
 ·intro i x out hi hx ho
  have hl2:(out ++ [x]).length ≤ 301 := by simp; omega
  simp (disch := omega) only [cd_pos,gd_dec,Int.toNat_natCast,getD_some hx,w64_in,peta,e,decide_true,Bool.and_self,gd_true,Option.bind_some]
  cases strEq x.2.1 c
  ·simp [gd_true]
  ·simp only [cond_true,if_true,Option.bind_some]
 ·intro out ho
  simp (disch := omega) only [cd_neg,decide_true,Bool.and_self,gd_true,Option.bind_some]
 ·intro hl
  simp only [List.map_id',decide_true,Bool.and_self,gd_true,List.drop_zero,List.take_length,Nat.zero_add,Nat.le_refl]
def viewE (m:Mt) (s:St3) (a:ByteArray):Int := firstNZ [stE m s,if aI s a < 0 then 10 else 0]
def clubOf (s:St3) (x:ByteArray):ByteArray := (s.2.1.getD (aI s x).toNat dA).2.1
theorem aI_lt {s:St3} {x:ByteArray} (h:0 ≤ aI s x):∃ k:Nat,aI s x = k ∧ k < s.2.1.length := by
 obtain ⟨k,y,h1,h2,h3,h4⟩ := idxI_get (p := fun y:Ath=>strEq y.1 x) (l := s.2.1) h
 exact ⟨k,h1,h2⟩
theorem l129 {F:Nat} (hF:400 ≤ F) {s:St3} (h:SmS s) {x:ByteArray} (hx:0 ≤ aI s x):c129 F (s,x) = some (clubOf s x) := by
 obtain ⟨k,h1,h2⟩ := aI_lt hx
 have hd:zAth = dA := rfl
 unfold c129 clubOf
 simp only [peta,l110 hF h,Option.bind_some,h1,hd]
 simp (disch := omega) only [gd_dec,Int.toNat_natCast]
theorem firstNZ_zero:∀ {l:List Int},firstNZ l = 0 → ∀ x ∈ l,x = 0
 | [],_,x,hx=>by cases hx
 | y :: l,h,x,hx=>by
  by_cases hy:y = 0
  ·rw [show firstNZ (y :: l) = if y = 0 then firstNZ l else y from rfl,if_pos hy] at h
   rcases List.mem_cons.1 hx with rfl | hx
   ·exact hy
   ·exact firstNZ_zero h x hx
  ·rw [show firstNZ (y :: l) = if y = 0 then firstNZ l else y from rfl,if_neg hy] at h
   exact absurd h hy
theorem st_ent {m:Mt} {s:St3} (hv:stE m s = 0) {i:Nat} (hi:i < s.2.2.2.1.length):entE m s i = 0 := by
 have h1:mtE m = 0 := by
  by_cases h:mtE m = 0
  ·exact h
  ·rw [stE,if_neg h] at hv; exact absurd hv h
 have h2:¬ manyS s := fun h=>by rw [stE,if_pos h1,if_pos h] at hv; exact absurd hv (by decide)
 rw [stE,if_pos h1,if_neg h2] at hv
 have h3 := firstNZ_zero hv _ (List.mem_cons_of_mem _ (List.mem_cons_of_mem _ (List.mem_cons_of_mem _ List.mem_cons_self)))
 exact firstNZ_zero h3 _ (List.mem_map.2 ⟨i,List.mem_range.2 hi,rfl⟩)
theorem st_known {m:Mt} {s:St3} (hv:stE m s = 0) {x:Ent} (hx:x ∈ s.2.2.2.1):0 ≤ aI s x.1 := by
 obtain ⟨i,hi,e⟩ := List.getElem_of_mem hx
 have h := st_ent hv hi
 have e2:s.2.2.2.1.getD i dE = x := by rw [getD_some (List.getElem?_eq_getElem hi),e]
 unfold entE at h
 rw [e2] at h
 by_cases h3:aI s x.1 < 0
 ·simp [h3] at h
 ·omega
theorem foldl_cnt {α:Type} (p:α → Bool):∀ (l:List α) (n:Int),l.foldl (fun n x=>if p x = true then n + 1 else n) n = n + ((l.filter p).length:Int)
 | [],n=>by simp
 | x :: l,n=>by
  rw [List.foldl_cons,foldl_cnt p l]
  cases h:p x <;> simp [h]
  omega
theorem l15 {F:Nat} {m:Mt} (hF:m.2.2.2.2.length < F) (hb:m.2.2.2.2.length * 128 ≤ 140737488355328):c15 F m = some m := by
 have e:∀ y:Cst,y :: nilT Cst = [y] := fun _=>rfl
 have hd:zCst = dC := rfl
 unfold c15
 refine bind_list m.2.2.2.2 (fun out i=>((m.1,m.2.1,m.2.2.1,m.2.2.2.1),out,(i:Int))) (fun x out=>.inl (out ++ [x])) (fun out=>((m.1,m.2.1,m.2.2.1,m.2.2.2.1),out)) (fun i out=>out.length = i) (nilT Cst) hF rfl rfl ?_ ?_ ?_
 ·intro i x out hi hx ho
  have hl2:(out ++ [x]).length = i + 1 := by simp [ho]
  refine ⟨?_,fun s' hs=>?_⟩
  ·simp (disch := omega) only [cd_pos,gd_dec,Int.toNat_natCast,getD_some hx,w64_in,peta,e,hl2,ho,decide_true,Bool.and_self,Bool.true_and,gd_true,Option.bind_some]
   rfl
  ·simp only [Sum.inl.injEq] at hs
   subst hs
   exact hl2
 ·intro out ho
  simp (disch := omega) only [cd_neg,ho,decide_true,Bool.and_self,Bool.true_and,gd_true,Option.bind_some]
 ·rw [goL_append (fun x:Cst=>x)]
  simp [nilT,gd_true]
theorem l16 {F:Nat} {s:St3} (hF:s.2.2.1.length < F ∧ s.2.2.2.1.length < F ∧ s.2.2.2.2.length < F) (hb:s.2.2.1.length * 32 ≤ 140737488355328 ∧ s.2.2.2.1.length * 88 ≤ 140737488355328 ∧ s.2.2.2.2.length * 56 ≤ 140737488355328):c16 F s = some s := by
 have e1:∀ y:Lic,y :: nilT Lic = [y] := fun _=>rfl
 have e2:∀ y:Ent,y :: nilT Ent = [y] := fun _=>rfl
 have e3:∀ y:Tm,y :: nilT Tm = [y] := fun _=>rfl
 obtain ⟨f1,f2,f3⟩ := hF
 obtain ⟨b1,b2,b3⟩ := hb
 unfold c16
 refine bind_list s.2.2.1 (fun out i=>((s.1,s.2.1),out,(i:Int))) (fun x out=>.inl (out ++ [x])) (fun out=>((s.1,s.2.1),out)) (fun i out=>out.length = i) (nilT Lic) f1 rfl rfl ?_ ?_ ?_
 ·intro i x out hi hx ho
  have hl2:(out ++ [x]).length = i + 1 := by simp [ho]
  refine ⟨?_,fun s' hs=>?_⟩
  ·simp (disch := omega) only [cd_pos,gd_dec,Int.toNat_natCast,getD_some hx,w64_in,peta,e1,hl2,ho,decide_true,Bool.and_self,Bool.true_and,gd_true,Option.bind_some]
   rfl
  ·simp only [Sum.inl.injEq] at hs
   subst hs
   exact hl2
 ·intro out ho
  simp (disch := omega) only [cd_neg,ho,decide_true,Bool.and_self,Bool.true_and,gd_true,Option.bind_some]
 ·rw [goL_append (fun x:Lic=>x)]
  rw [show nilT Lic ++ List.map (fun x:Lic=>x) s.2.2.1 = s.2.2.1 by simp [nilT]]
  simp only [decide_true,Bool.and_self,Bool.true_and,gd_true,Option.bind_some]
  refine bind_list s.2.2.2.1 (fun out i=>((s.1,s.2.1),s.2.2.1,out,(i:Int))) (fun x out=>.inl (out ++ [x])) (fun out=>((s.1,s.2.1),s.2.2.1,out)) (fun i out=>out.length = i) (nilT Ent) f2 rfl rfl ?_ ?_ ?_
  ·intro i x out hi hx ho
   have hl2:(out ++ [x]).length = i + 1 := by simp [ho]
   refine ⟨?_,fun s' hs=>?_⟩
   ·simp (disch := omega) only [cd_pos,gd_dec,Int.toNat_natCast,getD_some hx,w64_in,peta,e2,hl2,ho,decide_true,Bool.and_self,Bool.true_and,gd_true,Option.bind_some]
    rfl
   ·simp only [Sum.inl.injEq] at hs
    subst hs
    exact hl2
  ·intro out ho
   simp (disch := omega) only [cd_neg,ho,decide_true,Bool.and_self,Bool.true_and,gd_true,Option.bind_some]
  ·rw [goL_append (fun x:Ent=>x)]
   rw [show nilT Ent ++ List.map (fun x:Ent=>x) s.2.2.2.1 = s.2.2.2.1 by simp [nilT]]
   simp only [decide_true,Bool.and_self,Bool.true_and,gd_true,Option.bind_some]
   refine bind_list s.2.2.2.2 (fun out i=>((s.1,s.2.1),s.2.2.1,s.2.2.2.1,out,(i:Int))) (fun x out=>.inl (out ++ [x])) (fun out=>((s.1,s.2.1),s.2.2.1,s.2.2.2.1,out)) (fun i out=>out.length = i) (nilT Tm) f3 rfl rfl ?_ ?_ ?_
   ·intro i x out hi hx ho
    have hl2:(out ++ [x]).length = i + 1 := by simp [ho]
    refine ⟨?_,fun s' hs=>?_⟩
    ·simp (disch := omega) only [cd_pos,gd_dec,Int.toNat_natCast,getD_some hx,w64_in,peta,e3,hl2,ho,decide_true,Bool.and_self,Bool.true_and,gd_true,Option.bind_some]
     rfl
    ·simp only [Sum.inl.injEq] at hs
     subst hs
     exact hl2
   ·intro out ho
    simp (disch := omega) only [cd_neg,ho,decide_true,Bool.and_self,Bool.true_and,gd_true,Option.bind_some]
   ·rw [goL_append (fun x:Tm=>x)]
    simp [nilT,gd_true]
theorem l78 (F:Nat) (n k m:Int) (hm:0 ≤ m ∧ m ≤ 1000):c78 F (n,k,m) = some (decide (n ≤ k ∨ (m < n ∧ n ≤ m + 3))) := by
 unfold c78
 simp (disch := omega) only [w64_in]
 by_cases h1:n ≤ k
 ·simp [h1]
 ·by_cases h2:m < n <;> simp [h1,h2]
theorem l79 (F:Nat) (k:ByteArray) (v:Int) (r:ByteArray):c79 F (k,v,r) = some (decide (k.size ≤ 40 ∧ r.size ≤ 40)) := by
 unfold c79
 by_cases h1:k.size ≤ 40
 ·have h1':(k.size:Int) ≤ 40 := by omega
  by_cases h2:r.size ≤ 40
  ·have h2':(r.size:Int) ≤ 40 := by omega
   simp [h1,h2,h1',h2']
  ·have h2':¬ (r.size:Int) ≤ 40 := by omega
   simp [h1,h2,h1',h2']
 ·have h1':¬ (k.size:Int) ≤ 40 := by omega
  simp [h1,h1']
def CsS (x:Cst):Prop := x.1.size ≤ 60 ∧ x.2.1.size ≤ 60 ∧ x.2.2.1.size ≤ 60 ∧ x.2.2.2.2.2.2.2.1.size ≤ 40 ∧ x.2.2.2.2.2.2.2.2.2.1.size ≤ 40
structure MtS (m:Mt):Prop where
 n:m.2.2.2.2.length ≤ 35
 n2:m.2.2.2.2.length ≤ 5 ∨ 32 < m.2.2.2.2.length
 c:∀ x ∈ m.2.2.2.2,CsS x
theorem l17 {F:Nat} {m:Mt} (hF:m.2.2.2.2.length < F) (hb:m.2.2.2.2.length * 128 ≤ 140737488355328):∃ b,c17 F m = some b ∧ (b = true → MtS m) := by
 unfold c17
 rw [l78 F _ _ _ (by omega)]
 by_cases h0:(m.2.2.2.2.length:Int) ≤ 5 ∨ (32:Int) < m.2.2.2.2.length ∧ (m.2.2.2.2.length:Int) ≤ 32 + 3
 ·simp only [h0,decide_true,Bool.not_true,cond_false,Option.bind_some]
  refine bind_all m.2.2.2.2 CsS (fun b:Bool ⊕ Unit=>b = .inl false ∨ (b = .inr () ∧ ∀ x ∈ m.2.2.2.2,CsS x)) hF ?_ ?_ ?_
  ·intro i x hi hx
   simp (disch := omega) only [cd_pos,gd_dec,Int.toNat_natCast,getD_some hx,w64_in,l79]
   by_cases h1:(60:Int) < x.1.size
   ·exact ⟨_,by simp only [h1,decide_true,cond_true,Option.bind_some],.inr ⟨_,rfl,.inl rfl⟩⟩
   ·by_cases h2:(60:Int) < x.2.1.size
    ·exact ⟨_,by simp only [h1,h2,decide_true,decide_false,cond_true,cond_false,Option.bind_some],.inr ⟨_,rfl,.inl rfl⟩⟩
    ·by_cases h3:(60:Int) < x.2.2.1.size
     ·exact ⟨_,by simp only [h1,h2,h3,decide_true,decide_false,cond_true,cond_false,Option.bind_some],.inr ⟨_,rfl,.inl rfl⟩⟩
     ·by_cases h4:x.2.2.2.2.2.2.2.1.size ≤ 40 ∧ x.2.2.2.2.2.2.2.2.2.1.size ≤ 40
      ·exact ⟨_,by simp only [h1,h2,h3,h4,and_self,decide_true,decide_false,Bool.not_true,cond_true,cond_false,Option.bind_some],.inl ⟨rfl,by omega,by omega,by omega,h4.1,h4.2⟩⟩
      ·exact ⟨_,by simp only [h1,h2,h3,h4,decide_true,decide_false,Bool.not_false,cond_true,cond_false,Option.bind_some],.inr ⟨_,rfl,.inl rfl⟩⟩
  ·intro h
   exact ⟨_,by simp (disch := omega) only [cd_neg],.inr ⟨rfl,h⟩⟩
  ·rintro b (rfl | ⟨rfl,h⟩)
   ·exact ⟨false,rfl,fun h=>by cases h⟩
   ·exact ⟨true,rfl,fun _=>⟨by omega,by omega,h⟩⟩
 ·simp only [h0,decide_false,Bool.not_false,cond_true,Option.bind_some]
  exact ⟨false,rfl,fun h=>by cases h⟩
def EnS (x:Ent):Prop := x.1.size ≤ 60 ∧ x.2.1.size ≤ 60 ∧ x.2.2.1.size ≤ 40 ∧ x.2.2.2.2.1.size ≤ 40
def TmS (x:Tm):Prop := x.1.size ≤ 60 ∧ x.2.1.size ≤ 60 ∧ x.2.2.length ≤ 10 ∧ ∀ y ∈ x.2.2,y.size ≤ 60
def AtS (x:Ath):Prop := x.1.size ≤ 60 ∧ x.2.1.size ≤ 60 ∧ x.2.2.2.size ≤ 60
structure ShS (s:St3):Prop where
 c:s.1.length ≤ 6 ∨ 256 < s.1.length ∧ s.1.length ≤ 259
 a:s.2.1.length ≤ 8 ∨ 256 < s.2.1.length ∧ s.2.1.length ≤ 259
 l:s.2.2.1.length ≤ 12 ∨ 256 < s.2.2.1.length ∧ s.2.2.1.length ≤ 259
 e:s.2.2.2.1.length ≤ 20 ∨ 256 < s.2.2.2.1.length ∧ s.2.2.2.1.length ≤ 259
 t:s.2.2.2.2.length ≤ 6 ∨ 256 < s.2.2.2.2.length ∧ s.2.2.2.2.length ≤ 259
 cs:∀ x ∈ s.1,x.size ≤ 60
 ats:∀ x ∈ s.2.1,AtS x
 ls:∀ x ∈ s.2.2.1,x.1.size ≤ 60
 es:∀ x ∈ s.2.2.2.1,EnS x
 ts:∀ x ∈ s.2.2.2.2,TmS x
theorem ShS.sm {s:St3} (h:ShS s):SmS s := by
 obtain ⟨h1,h2,h3,h4,h5,h6,h7,h8,h9,h10⟩ := h
 refine ⟨by omega,by omega,by omega,by omega,by omega,fun x hx=>?_,fun x hx=>?_,fun x hx=>?_⟩
 ·have := h6 x hx; omega
 ·have := h7 x hx; unfold AtS at this; omega
 ·have := (h10 x hx).2.2.1; omega
structure FitS (F:Nat) (s:St3):Prop where
 c:s.1.length < F
 a:s.2.1.length < F
 l:s.2.2.1.length < F
 e:s.2.2.2.1.length < F
 t:s.2.2.2.2.length < F
 r:∀ x ∈ s.2.2.2.2,x.2.2.length < F
structure ByS (s:St3):Prop where
 c:s.1.length * 16 ≤ 140737488355328
 a:s.2.1.length * 56 ≤ 140737488355328
 l:s.2.2.1.length * 32 ≤ 140737488355328
 e:s.2.2.2.1.length * 88 ≤ 140737488355328
 t:s.2.2.2.2.length * 56 ≤ 140737488355328
 r:∀ x ∈ s.2.2.2.2,x.2.2.length * 16 ≤ 140737488355328
theorem l80 {F:Nat} {l:List Tm} (hF:l.length < F) (hr:∀ x ∈ l,x.2.2.length < F) (hb:l.length * 56 ≤ 140737488355328) (hrb:∀ x ∈ l,x.2.2.length * 16 ≤ 140737488355328):∃ b,c80 F l = some b ∧ (b = true → ∀ x ∈ l,TmS x) := by
 unfold c80
 refine bind_all l TmS (fun b:Bool ⊕ Unit=>b = .inl false ∨ (b = .inr () ∧ ∀ x ∈ l,TmS x)) hF ?_ ?_ ?_
 ·intro i x hi hx
  have hx1 := hr _ (List.mem_of_getElem? hx)
  have hx2 := hrb _ (List.mem_of_getElem? hx)
  simp (disch := omega) only [cd_pos,gd_dec,Int.toNat_natCast,getD_some hx,w64_in]
  by_cases h1:(60:Int) < x.1.size
  ·exact ⟨_,by simp only [h1,decide_true,cond_true,Option.bind_some],.inr ⟨_,rfl,.inl rfl⟩⟩
  ·by_cases h2:(60:Int) < x.2.1.size
   ·exact ⟨_,by simp only [h1,h2,decide_true,decide_false,cond_true,cond_false,Option.bind_some],.inr ⟨_,rfl,.inl rfl⟩⟩
   ·by_cases h3:(10:Int) < x.2.2.length
    ·exact ⟨_,by simp only [h1,h2,h3,decide_true,decide_false,cond_true,cond_false,Option.bind_some],.inr ⟨_,rfl,.inl rfl⟩⟩
    ·simp only [h1,h2,h3,decide_false,cond_false,Option.bind_some]
     refine bind_all x.2.2 (fun y=>y.size ≤ 60) (fun b:Bool ⊕ Unit=>b = .inl false ∨ (b = .inr () ∧ ∀ y ∈ x.2.2,y.size ≤ 60)) hx1 ?_ ?_ ?_
     ·intro j y hj hy
      simp (disch := omega) only [cd_pos,gd_dec,Int.toNat_natCast,getD_some hy,w64_in]
      by_cases h4:(60:Int) < y.size
      ·exact ⟨_,by simp only [h4,decide_true,cond_true],.inr ⟨_,rfl,.inl rfl⟩⟩
      ·exact ⟨_,by simp only [h4,decide_false,cond_false],.inl ⟨rfl,by omega⟩⟩
     ·intro h
      exact ⟨_,by simp (disch := omega) only [cd_neg],.inr ⟨rfl,h⟩⟩
     ·rintro b (rfl | ⟨rfl,h⟩)
      ·exact ⟨_,rfl,.inr ⟨_,rfl,.inl rfl⟩⟩
      ·exact ⟨_,rfl,.inl ⟨rfl,by omega,by omega,by omega,h⟩⟩
 ·intro h
  exact ⟨_,by simp (disch := omega) only [cd_neg],.inr ⟨rfl,h⟩⟩
 ·rintro b (rfl | ⟨rfl,h⟩)
  ·exact ⟨false,rfl,fun h=>by cases h⟩
  ·exact ⟨true,rfl,fun _=>h⟩
theorem l18 {F:Nat} {s:St3} (f:FitS F s) (hb:ByS s):∃ b,c18 F s = some b ∧ (b = true → ShS s) := by
 obtain ⟨f1,f2,f3,f4,f5,f6⟩ := f
 obtain ⟨b1,b2,b3,b4,b5,b6⟩ := hb
 obtain ⟨tb,ht,ht2⟩ := l80 f5 f6 b5 b6
 unfold c18
 simp only [l78 F _ _ _ (show (0:Int) ≤ 256 ∧ (256:Int) ≤ 1000 by omega),ht,Option.bind_some]
 have no:∃ b,(some false:Option Bool) = some b ∧ (b = true → ShS s) := ⟨false,rfl,fun h=>by cases h⟩
 by_cases h1:(s.1.length:Int) ≤ 6 ∨ (256:Int) < s.1.length ∧ (s.1.length:Int) ≤ 256 + 3
 case neg=>simp only [h1,decide_false,Bool.not_false,cond_true,Option.bind_some]; exact no
 by_cases h2:(s.2.1.length:Int) ≤ 8 ∨ (256:Int) < s.2.1.length ∧ (s.2.1.length:Int) ≤ 256 + 3
 case neg=>simp only [h1,h2,decide_true,decide_false,Bool.not_false,Bool.not_true,cond_true,cond_false,Option.bind_some]; exact no
 by_cases h3:(s.2.2.1.length:Int) ≤ 12 ∨ (256:Int) < s.2.2.1.length ∧ (s.2.2.1.length:Int) ≤ 256 + 3
 case neg=>simp only [h1,h2,h3,decide_true,decide_false,Bool.not_false,Bool.not_true,cond_true,cond_false,Option.bind_some]; exact no
 by_cases h4:(s.2.2.2.1.length:Int) ≤ 20 ∨ (256:Int) < s.2.2.2.1.length ∧ (s.2.2.2.1.length:Int) ≤ 256 + 3
 case neg=>simp only [h1,h2,h3,h4,decide_true,decide_false,Bool.not_false,Bool.not_true,cond_true,cond_false,Option.bind_some]; exact no
 by_cases h5:(s.2.2.2.2.length:Int) ≤ 6 ∨ (256:Int) < s.2.2.2.2.length ∧ (s.2.2.2.2.length:Int) ≤ 256 + 3
 case neg=>simp only [h1,h2,h3,h4,h5,decide_true,decide_false,Bool.not_false,Bool.not_true,cond_true,cond_false,Option.bind_some]; exact no
 cases tb with
 | false=>simp only [h1,h2,h3,h4,h5,decide_true,Bool.not_false,Bool.not_true,cond_true,cond_false,Option.bind_some]; exact no
 | true =>
  have ht2 := ht2 rfl
  simp only [h1,h2,h3,h4,h5,decide_true,Bool.not_true,cond_false,Option.bind_some]
  refine bind_all s.1 (fun y=>y.size ≤ 60) (fun b:Bool ⊕ Unit=>b = .inl false ∨ (b = .inr () ∧ ∀ y ∈ s.1,y.size ≤ 60)) f1 ?_ ?_ ?_
  ·intro j y hj hy
   simp (disch := omega) only [cd_pos,gd_dec,Int.toNat_natCast,getD_some hy,w64_in]
   by_cases h4:(60:Int) < y.size
   ·exact ⟨_,by simp only [h4,decide_true,cond_true],.inr ⟨_,rfl,.inl rfl⟩⟩
   ·exact ⟨_,by simp only [h4,decide_false,cond_false],.inl ⟨rfl,by omega⟩⟩
  ·intro h
   exact ⟨_,by simp (disch := omega) only [cd_neg],.inr ⟨rfl,h⟩⟩
  rintro b (rfl | ⟨rfl,hc⟩)
  ·exact no
  simp only [Sum.elim_inr]
  refine bind_all s.2.1 AtS (fun b:Bool ⊕ Unit=>b = .inl false ∨ (b = .inr () ∧ ∀ y ∈ s.2.1,AtS y)) f2 ?_ ?_ ?_
  ·intro j y hj hy
   simp (disch := omega) only [cd_pos,gd_dec,Int.toNat_natCast,getD_some hy,w64_in]
   by_cases q1:(60:Int) < y.1.size
   ·exact ⟨_,by simp only [q1,decide_true,cond_true,Option.bind_some],.inr ⟨_,rfl,.inl rfl⟩⟩
   ·by_cases q2:(60:Int) < y.2.1.size
    ·exact ⟨_,by simp only [q1,q2,decide_true,decide_false,cond_true,cond_false,Option.bind_some],.inr ⟨_,rfl,.inl rfl⟩⟩
    ·by_cases q3:(60:Int) < y.2.2.2.size
     ·exact ⟨_,by simp only [q1,q2,q3,decide_true,decide_false,cond_true,cond_false,Option.bind_some],.inr ⟨_,rfl,.inl rfl⟩⟩
     ·exact ⟨_,by simp only [q1,q2,q3,decide_true,decide_false,cond_true,cond_false,Option.bind_some],.inl ⟨rfl,by omega,by omega,by omega⟩⟩
  ·intro h
   exact ⟨_,by simp (disch := omega) only [cd_neg],.inr ⟨rfl,h⟩⟩
  rintro b (rfl | ⟨rfl,ha⟩)
  ·exact no
  simp only [Sum.elim_inr]
  refine bind_all s.2.2.1 (fun y=>y.1.size ≤ 60) (fun b:Bool ⊕ Unit=>b = .inl false ∨ (b = .inr () ∧ ∀ y ∈ s.2.2.1,y.1.size ≤ 60)) f3 ?_ ?_ ?_
  ·intro j y hj hy
   simp (disch := omega) only [cd_pos,gd_dec,Int.toNat_natCast,getD_some hy,w64_in]
   by_cases h4:(60:Int) < y.1.size
   ·exact ⟨_,by simp only [h4,decide_true,cond_true],.inr ⟨_,rfl,.inl rfl⟩⟩
   ·exact ⟨_,by simp only [h4,decide_false,cond_false],.inl ⟨rfl,by omega⟩⟩
  ·intro h
   exact ⟨_,by simp (disch := omega) only [cd_neg],.inr ⟨rfl,h⟩⟩
  rintro b (rfl | ⟨rfl,hl⟩)
  ·exact no
  simp only [Sum.elim_inr]
  refine bind_all s.2.2.2.1 EnS (fun b:Bool ⊕ Unit=>b = .inl false ∨ (b = .inr () ∧ ∀ y ∈ s.2.2.2.1,EnS y)) f4 ?_ ?_ ?_
  ·intro j y hj hy
   simp (disch := omega) only [cd_pos,gd_dec,Int.toNat_natCast,getD_some hy,w64_in,l79]
   by_cases q1:(60:Int) < y.1.size
   ·exact ⟨_,by simp only [q1,decide_true,cond_true,Option.bind_some],.inr ⟨_,rfl,.inl rfl⟩⟩
   ·by_cases q2:(60:Int) < y.2.1.size
    ·exact ⟨_,by simp only [q1,q2,decide_true,decide_false,cond_true,cond_false,Option.bind_some],.inr ⟨_,rfl,.inl rfl⟩⟩
    ·by_cases q3:y.2.2.1.size ≤ 40 ∧ y.2.2.2.2.1.size ≤ 40
     ·exact ⟨_,by simp only [q1,q2,q3,and_self,decide_true,decide_false,Bool.not_true,cond_true,cond_false,Option.bind_some],.inl ⟨rfl,by omega,by omega,q3.1,q3.2⟩⟩
     ·exact ⟨_,by simp only [q1,q2,q3,decide_true,decide_false,Bool.not_false,cond_true,cond_false,Option.bind_some],.inr ⟨_,rfl,.inl rfl⟩⟩
  ·intro h
   exact ⟨_,by simp (disch := omega) only [cd_neg],.inr ⟨rfl,h⟩⟩
  rintro b (rfl | ⟨rfl,he⟩)
  ·exact no
  ·exact ⟨true,rfl,fun _=>⟨by omega,by omega,by omega,by omega,by omega,hc,ha,hl,he,ht2⟩⟩
theorem l44 {F:Nat} {l:List ByteArray} (hF:l.length < F) (hl:l.length ≤ 100000):c44 F (l,l) = some true := by
 unfold c44
 simp only [decide_true,Bool.not_true,cond_false]
 refine bind_list l (fun (_:Unit) i=>(i:Int)) (fun _ _=>(.inl ():Unit ⊕ (Bool ⊕ Unit))) (fun _=>.inr ()) (fun _ _=>True) () hF rfl trivial ?_ ?_ ?_
 ·intro i x _ hi hx _
  refine ⟨?_,fun _ _=>trivial⟩
  simp (disch := omega) only [cd_pos,gd_dec,Int.toNat_natCast,getD_some hx,w64_in,strEq_self,Bool.not_true,cond_false]
  rfl
 ·intro _ _
  simp (disch := omega) only [cd_neg]
 ·rw [goL_unit]
  rfl
abbrev atM:ATy := .agg [.int .i64,.int .i64,.int .i64,.int .i64,.seq [.str,.str,.str,.int .i64,.int .i64,.int .i64,.int .i64,.str,.int .i64,.str,.int .i64]]
abbrev atS:ATy := .agg [.seq [.str],.seq [.str,.str,.int .i64,.str],.seq [.str,.int .i64,.int .i64],.seq [.str,.str,.str,.int .i64,.str,.int .i64,.bool],.seq [.str,.str,.seq [.str]]]
theorem okM {m:Mt} (h:ATy.ok atM m):m.2.2.2.2.length * 128 ≤ 140737488355328 := by
 obtain ⟨-,-,-,-,h,-⟩ := h
 have h:m.2.2.2.2.length * 128 ≤ 140737488351232 := h
 omega
theorem okS {s:St3} (h:ATy.ok atS s):ByS s := by
 obtain ⟨⟨h1,-⟩,⟨h2,-⟩,⟨h3,-⟩,⟨h4,-⟩,⟨h5,h6⟩⟩ := h
 have h1:s.1.length * 16 ≤ 140737488351232 := h1
 have h2:s.2.1.length * 56 ≤ 140737488351232 := h2
 have h3:s.2.2.1.length * 32 ≤ 140737488351232 := h3
 have h4:s.2.2.2.1.length * 88 ≤ 140737488351232 := h4
 have h5:s.2.2.2.2.length * 56 ≤ 140737488351232 := h5
 refine ⟨by omega,by omega,by omega,by omega,by omega,fun x hx=>?_⟩
 have h7:x.2.2.length * 16 ≤ 140737488351232 := (h6 x hx).2.2.1
 omega
def roomT:List Tm → Nat
 | []=>0
 | x :: l=>x.2.2.length + 1 + roomT l
theorem roomT_ok:∀ (l:List Tm),l.length ≤ roomT l ∧ ∀ x ∈ l,x.2.2.length ≤ roomT l
 | []=>⟨Nat.le_refl _,fun x hx=>(by cases hx)⟩
 | y :: l=>by
  obtain ⟨h1,h2⟩ := roomT_ok l
  refine ⟨by simp only [roomT,List.length_cons]; omega,fun x hx=>?_⟩
  simp only [roomT]
  rcases List.mem_cons.1 hx with rfl | hx
  ·omega
  ·have := h2 x hx; omega
def roomS (m:Mt) (s:St3):Nat := m.2.2.2.2.length + s.1.length + s.2.1.length + s.2.2.1.length + s.2.2.2.1.length + s.2.2.2.2.length + roomT s.2.2.2.2 + 100000
theorem roomS_ok (m:Mt) (s:St3):100000 ≤ roomS m s ∧ m.2.2.2.2.length < roomS m s ∧ FitS (roomS m s) s := by
 obtain ⟨h1,h2⟩ := roomT_ok s.2.2.2.2
 unfold roomS
 refine ⟨by omega,by omega,by omega,by omega,by omega,by omega,by omega,fun x hx=>?_⟩
 have := h2 x hx
 omega
theorem MtS.bd {m:Mt} (h:MtS m):∀ x ∈ m.2.2.2.2,x.1.size ≤ 300 ∧ x.2.2.1.size ≤ 300 := fun x hx=>by
 have := h.c x hx
 unfold CsS at this
 omega
theorem MtS.len {m:Mt} (h:MtS m):m.2.2.2.2.length ≤ 300 := by have := h.n; omega
theorem eqvB (b:Bool):AEls.eqv (ATy.val Ty.bool :: nilT ATy) b b = true := AEls.eqv_rf (ATy.val Ty.bool :: nilT ATy) b
end Go.Proofs.Tryz
