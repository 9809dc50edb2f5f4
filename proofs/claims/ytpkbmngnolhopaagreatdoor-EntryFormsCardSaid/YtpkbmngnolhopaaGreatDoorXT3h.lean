/- Plain law: copies of meetings and states, small ones, sameness of lists. Plain law: room for a meeting and a state. And further parts. -/
import Derived.Test.YtpkbmngnolhopaaGreatDoorXTeB3
set_option maxRecDepth 100000
set_option linter.unusedVariables false
set_option linter.unusedSimpArgs false
namespace Go.Proofs.Tryz
open Go Go.Sx
theorem l15 {F:Nat} {m:Mt} (hF:m.2.2.2.2.length < F) (hb:m.2.2.2.2.length * 128 ≤ 140737488355328):c15 F m = some m := by
 have e:∀ y:Cst,y :: nilT Cst = [y] := fun _=>rfl
 have hd:zCst = dC := rfl
 unfold c15
 refine bind_list m.2.2.2.2 (fun out i=>((m.1,m.2.1,m.2.2.1,m.2.2.2.1),out,(i:Int))) (fun x out=>.inl (out ++ [x])) (fun out=>((m.1,m.2.1,m.2.2.1,m.2.2.2.1),out)) (fun i out=>out.length = i) (nilT Cst) hF rfl rfl ?_ ?_ ?_
 ·intro i x out hi hx ho
  have hl2:(out ++ [x]).length = i + 1 := by simp [ho]
  refine ⟨?_,fun s' hs=>?_⟩
  ·simp (disch := omega) only [cd_pos,gd_dec,Int.toNat_natCast,getD_some hx,w64_in,peta,e,hl2,ho,decide_true,Bool.and_self,Bool.true_and,gd_true,Option.bind_some]
   rfl
  ·simp only [Sum.inl.injEq] at hs
   subst hs
   exact hl2
 ·intro out ho
  simp (disch := omega) only [cd_neg,ho,decide_true,Bool.and_self,Bool.true_and,gd_true,Option.bind_some]
 ·rw [goL_append (fun x:Cst=>x)]
  simp [nilT,gd_true]
theorem l16 {F:Nat} {s:St3} (hF:s.2.2.1.length < F ∧ s.2.2.2.1.length < F ∧ s.2.2.2.2.length < F) (hb:s.2.2.1.length * 32 ≤ 140737488355328 ∧ s.2.2.2.1.length * 88 ≤ 140737488355328 ∧ s.2.2.2.2.length * 56 ≤ 140737488355328):c16 F s = some s := by
 have e1:∀ y:Lic,y :: nilT Lic = [y] := fun _=>rfl
 have e2:∀ y:Ent,y :: nilT Ent = [y] := fun _=>rfl
 have e3:∀ y:Tm,y :: nilT Tm = [y] := fun _=>rfl
 obtain ⟨f1,f2,f3⟩ := hF
 obtain ⟨b1,b2,b3⟩ := hb
 unfold c16
 refine bind_list s.2.2.1 (fun out i=>((s.1,s.2.1),out,(i:Int))) (fun x out=>.inl (out ++ [x])) (fun out=>((s.1,s.2.1),out)) (fun i out=>out.length = i) (nilT Lic) f1 rfl rfl ?_ ?_ ?_
 ·intro i x out hi hx ho
  have hl2:(out ++ [x]).length = i + 1 := by simp [ho]
  refine ⟨?_,fun s' hs=>?_⟩
  ·simp (disch := omega) only [cd_pos,gd_dec,Int.toNat_natCast,getD_some hx,w64_in,peta,e1,hl2,ho,decide_true,Bool.and_self,Bool.true_and,gd_true,Option.bind_some]
   rfl
  ·simp only [Sum.inl.injEq] at hs
   subst hs
   exact hl2
 ·intro out ho
  simp (disch := omega) only [cd_neg,ho,decide_true,Bool.and_self,Bool.true_and,gd_true,Option.bind_some]
 ·rw [goL_append (fun x:Lic=>x)]
  rw [show nilT Lic ++ List.map (fun x:Lic=>x) s.2.2.1 = s.2.2.1 by simp [nilT]]
  simp only [decide_true,Bool.and_self,Bool.true_and,gd_true,Option.bind_some]
  refine bind_list s.2.2.2.1 (fun out i=>((s.1,s.2.1),s.2.2.1,out,(i:Int))) (fun x out=>.inl (out ++ [x])) (fun out=>((s.1,s.2.1),s.2.2.1,out)) (fun i out=>out.length = i) (nilT Ent) f2 rfl rfl ?_ ?_ ?_
  ·intro i x out hi hx ho
   have hl2:(out ++ [x]).length = i + 1 := by simp [ho]
   refine ⟨?_,fun s' hs=>?_⟩
   ·simp (disch := omega) only [cd_pos,gd_dec,Int.toNat_natCast,getD_some hx,w64_in,peta,e2,hl2,ho,decide_true,Bool.and_self,Bool.true_and,gd_true,Option.bind_some]
    rfl
   ·simp only [Sum.inl.injEq] at hs
    subst hs
    exact hl2
  ·intro out ho
   simp (disch := omega) only [cd_neg,ho,decide_true,Bool.and_self,Bool.true_and,gd_true,Option.bind_some]
  ·rw [goL_append (fun x:Ent=>x)]
   rw [show nilT Ent ++ List.map (fun x:Ent=>x) s.2.2.2.1 = s.2.2.2.1 by simp [nilT]]
   simp only [decide_true,Bool.and_self,Bool.true_and,gd_true,Option.bind_some]
   refine bind_list s.2.2.2.2 (fun out i=>((s.1,s.2.1),s.2.2.1,s.2.2.2.1,out,(i:Int))) (fun x out=>.inl (out ++ [x])) (fun out=>((s.1,s.2.1),s.2.2.1,s.2.2.2.1,out)) (fun i out=>out.length = i) (nilT Tm) f3 rfl rfl ?_ ?_ ?_
   ·intro i x out hi hx ho
    have hl2:(out ++ [x]).length = i + 1 := by simp [ho]
    refine ⟨?_,fun s' hs=>?_⟩
    ·simp (disch := omega) only [cd_pos,gd_dec,Int.toNat_natCast,getD_some hx,w64_in,peta,e3,hl2,ho,decide_true,Bool.and_self,Bool.true_and,gd_true,Option.bind_some]
     rfl
    ·simp only [Sum.inl.injEq] at hs
     subst hs
     exact hl2
   ·intro out ho
    simp (disch := omega) only [cd_neg,ho,decide_true,Bool.and_self,Bool.true_and,gd_true,Option.bind_some]
   ·rw [goL_append (fun x:Tm=>x)]
    simp [nilT,gd_true]
theorem l78 (F:Nat) (n k m:Int) (hm:0 ≤ m ∧ m ≤ 1000):c78 F (n,k,m) = some (decide (n ≤ k ∨ (m < n ∧ n ≤ m + 3))) := by
 unfold c78
 simp (disch := omega) only [w64_in]
 by_cases h1:n ≤ k
 ·simp [h1]
 ·by_cases h2:m < n <;> simp [h1,h2]
theorem l79 (F:Nat) (k:ByteArray) (v:Int) (r:ByteArray):c79 F (k,v,r) = some (decide (k.size ≤ 40 ∧ r.size ≤ 40)) := by
 unfold c79
 by_cases h1:k.size ≤ 40
 ·have h1':(k.size:Int) ≤ 40 := by omega
  by_cases h2:r.size ≤ 40
  ·have h2':(r.size:Int) ≤ 40 := by omega
   simp [h1,h2,h1',h2']
  ·have h2':¬ (r.size:Int) ≤ 40 := by omega
   simp [h1,h2,h1',h2']
 ·have h1':¬ (k.size:Int) ≤ 40 := by omega
  simp [h1,h1']
def CsS (x:Cst):Prop := x.1.size ≤ 60 ∧ x.2.1.size ≤ 60 ∧ x.2.2.1.size ≤ 60 ∧ x.2.2.2.2.2.2.2.1.size ≤ 40 ∧ x.2.2.2.2.2.2.2.2.2.1.size ≤ 40
structure MtS (m:Mt):Prop where
 n:m.2.2.2.2.length ≤ 35
 n2:m.2.2.2.2.length ≤ 5 ∨ 32 < m.2.2.2.2.length
 c:∀ x ∈ m.2.2.2.2,CsS x
theorem l17 {F:Nat} {m:Mt} (hF:m.2.2.2.2.length < F) (hb:m.2.2.2.2.length * 128 ≤ 140737488355328):∃ b,c17 F m = some b ∧ (b = true → MtS m) := by
 unfold c17
 rw [l78 F _ _ _ (by omega)]
 by_cases h0:(m.2.2.2.2.length:Int) ≤ 5 ∨ (32:Int) < m.2.2.2.2.length ∧ (m.2.2.2.2.length:Int) ≤ 32 + 3
 ·simp only [h0,decide_true,Bool.not_true,cond_false,Option.bind_some]
  refine bind_all m.2.2.2.2 CsS (fun b:Bool ⊕ Unit=>b = .inl false ∨ (b = .inr () ∧ ∀ x ∈ m.2.2.2.2,CsS x)) hF ?_ ?_ ?_
  ·intro i x hi hx
   simp (disch := omega) only [cd_pos,gd_dec,Int.toNat_natCast,getD_some hx,w64_in,l79]
   by_cases h1:(60:Int) < x.1.size
   ·exact ⟨_,by simp only [h1,decide_true,cond_true,Option.bind_some],.inr ⟨_,rfl,.inl rfl⟩⟩
   ·by_cases h2:(60:Int) < x.2.1.size
    ·exact ⟨_,by simp only [h1,h2,decide_true,decide_false,cond_true,cond_false,Option.bind_some],.inr ⟨_,rfl,.inl rfl⟩⟩
    ·by_cases h3:(60:Int) < x.2.2.1.size
     ·exact ⟨_,by simp only [h1,h2,h3,decide_true,decide_false,cond_true,cond_false,Option.bind_some],.inr ⟨_,rfl,.inl rfl⟩⟩
     ·by_cases h4:x.2.2.2.2.2.2.2.1.size ≤ 40 ∧ x.2.2.2.2.2.2.2.2.2.1.size ≤ 40
      ·exact ⟨_,by simp only [h1,h2,h3,h4,and_self,decide_true,decide_false,Bool.not_true,cond_true,cond_false,Option.bind_some],.inl ⟨rfl,by omega,by omega,by omega,h4.1,h4.2⟩⟩
      ·exact ⟨_,by simp only [h1,h2,h3,h4,decide_true,decide_false,Bool.not_false,cond_true,cond_false,Option.bind_some],.inr ⟨_,rfl,.inl rfl⟩⟩
  ·intro h
   exact ⟨_,by simp (disch := omega) only [cd_neg],.inr ⟨rfl,h⟩⟩
  ·rintro b (rfl | ⟨rfl,h⟩)
   ·exact ⟨false,rfl,fun h=>by cases h⟩
   ·exact ⟨true,rfl,fun _=>⟨by omega,by omega,h⟩⟩
 ·simp only [h0,decide_false,Bool.not_false,cond_true,Option.bind_some]
  exact ⟨false,rfl,fun h=>by cases h⟩
def EnS (x:Ent):Prop := x.1.size ≤ 60 ∧ x.2.1.size ≤ 60 ∧ x.2.2.1.size ≤ 40 ∧ x.2.2.2.2.1.size ≤ 40
def TmS (x:Tm):Prop := x.1.size ≤ 60 ∧ x.2.1.size ≤ 60 ∧ x.2.2.length ≤ 10 ∧ ∀ y ∈ x.2.2,y.size ≤ 60
def AtS (x:Ath):Prop := x.1.size ≤ 60 ∧ x.2.1.size ≤ 60 ∧ x.2.2.2.size ≤ 60
structure ShS (s:St3):Prop where
 c:s.1.length ≤ 6 ∨ 256 < s.1.length ∧ s.1.length ≤ 259
 a:s.2.1.length ≤ 8 ∨ 256 < s.2.1.length ∧ s.2.1.length ≤ 259
 l:s.2.2.1.length ≤ 12 ∨ 256 < s.2.2.1.length ∧ s.2.2.1.length ≤ 259
 e:s.2.2.2.1.length ≤ 20 ∨ 256 < s.2.2.2.1.length ∧ s.2.2.2.1.length ≤ 259
 t:s.2.2.2.2.length ≤ 6 ∨ 256 < s.2.2.2.2.length ∧ s.2.2.2.2.length ≤ 259
 cs:∀ x ∈ s.1,x.size ≤ 60
 ats:∀ x ∈ s.2.1,AtS x
 ls:∀ x ∈ s.2.2.1,x.1.size ≤ 60
 es:∀ x ∈ s.2.2.2.1,EnS x
 ts:∀ x ∈ s.2.2.2.2,TmS x
theorem ShS.sm {s:St3} (h:ShS s):SmS s := by
 obtain ⟨h1,h2,h3,h4,h5,h6,h7,h8,h9,h10⟩ := h
 refine ⟨by omega,by omega,by omega,by omega,by omega,fun x hx=>?_,fun x hx=>?_,fun x hx=>?_⟩
 ·have := h6 x hx; omega
 ·have := h7 x hx; unfold AtS at this; omega
 ·have := (h10 x hx).2.2.1; omega
structure FitS (F:Nat) (s:St3):Prop where
 c:s.1.length < F
 a:s.2.1.length < F
 l:s.2.2.1.length < F
 e:s.2.2.2.1.length < F
 t:s.2.2.2.2.length < F
 r:∀ x ∈ s.2.2.2.2,x.2.2.length < F
structure ByS (s:St3):Prop where
 c:s.1.length * 16 ≤ 140737488355328
 a:s.2.1.length * 56 ≤ 140737488355328
 l:s.2.2.1.length * 32 ≤ 140737488355328
 e:s.2.2.2.1.length * 88 ≤ 140737488355328
 t:s.2.2.2.2.length * 56 ≤ 140737488355328
 r:∀ x ∈ s.2.2.2.2,x.2.2.length * 16 ≤ 140737488355328
theorem l80 {F:Nat} {l:List Tm} (hF:l.length < F) (hr:∀ x ∈ l,x.2.2.length < F) (hb:l.length * 56 ≤ 140737488355328) (hrb:∀ x ∈ l,x.2.2.length * 16 ≤ 140737488355328):∃ b,c80 F l = some b ∧ (b = true → ∀ x ∈ l,TmS x) := by
 unfold c80
 refine bind_all l TmS (fun b:Bool ⊕ Unit=>b = .inl false ∨ (b = .inr () ∧ ∀ x ∈ l,TmS x)) hF ?_ ?_ ?_
 ·intro i x hi hx
  have hx1 := hr _ (List.mem_of_getElem? hx)
  have hx2 := hrb _ (List.mem_of_getElem? hx)
  simp (disch := omega) only [cd_pos,gd_dec,Int.toNat_natCast,getD_some hx,w64_in]
  by_cases h1:(60:Int) < x.1.size
  ·exact ⟨_,by simp only [h1,decide_true,cond_true,Option.bind_some],.inr ⟨_,rfl,.inl rfl⟩⟩
  ·by_cases h2:(60:Int) < x.2.1.size
   ·exact ⟨_,by simp only [h1,h2,decide_true,decide_false,cond_true,cond_false,Option.bind_some],.inr ⟨_,rfl,.inl rfl⟩⟩
   ·by_cases h3:(10:Int) < x.2.2.length
    ·exact ⟨_,by simp only [h1,h2,h3,decide_true,decide_false,cond_true,cond_false,Option.bind_some],.inr ⟨_,rfl,.inl rfl⟩⟩
    ·simp only [h1,h2,h3,decide_false,cond_false,Option.bind_some]
     refine bind_all x.2.2 (fun y=>y.size ≤ 60) (fun b:Bool ⊕ Unit=>b = .inl false ∨ (b = .inr () ∧ ∀ y ∈ x.2.2,y.size ≤ 60)) hx1 ?_ ?_ ?_
     ·intro j y hj hy
      simp (disch := omega) only [cd_pos,gd_dec,Int.toNat_natCast,getD_some hy,w64_in]
      by_cases h4:(60:Int) < y.size
      ·exact ⟨_,by simp only [h4,decide_true,cond_true],.inr ⟨_,rfl,.inl rfl⟩⟩
      ·exact ⟨_,by simp only [h4,decide_false,cond_false],.inl ⟨rfl,by omega⟩⟩
     ·intro h
      exact ⟨_,by simp (disch := omega) only [cd_neg],.inr ⟨rfl,h⟩⟩
     ·rintro b (rfl | ⟨rfl,h⟩)
      ·exact ⟨_,rfl,.inr ⟨_,rfl,.inl rfl⟩⟩
      ·exact ⟨_,rfl,.inl ⟨rfl,by omega,by omega,by omega,h⟩⟩
 ·intro h
  exact ⟨_,by simp (disch := omega) only [cd_neg],.inr ⟨rfl,h⟩⟩
 ·rintro b (rfl | ⟨rfl,h⟩)
  ·exact ⟨false,rfl,fun h=>by cases h⟩
  ·exact ⟨true,rfl,fun _=>h⟩
theorem l18 {F:Nat} {s:St3} (f:FitS F s) (hb:ByS s):∃ b,c18 F s = some b ∧ (b = true → ShS s) := by
 obtain ⟨f1,f2,f3,f4,f5,f6⟩ := f
 obtain ⟨b1,b2,b3,b4,b5,b6⟩ := hb
 obtain ⟨tb,ht,ht2⟩ := l80 f5 f6 b5 b6
 unfold c18
 simp only [l78 F _ _ _ (show (0:Int) ≤ 256 ∧ (256:Int) ≤ 1000 by omega),ht,Option.bind_some]
 have no:∃ b,(some false:Option Bool) = some b ∧ (b = true → ShS s) := ⟨false,rfl,fun h=>by cases h⟩
 by_cases h1:(s.1.length:Int) ≤ 6 ∨ (256:Int) < s.1.length ∧ (s.1.length:Int) ≤ 256 + 3
 case neg=>simp only [h1,decide_false,Bool.not_false,cond_true,Option.bind_some]; exact no
 by_cases h2:(s.2.1.length:Int) ≤ 8 ∨ (256:Int) < s.2.1.length ∧ (s.2.1.length:Int) ≤ 256 + 3
 case neg=>simp only [h1,h2,decide_true,decide_false,Bool.not_false,Bool.not_true,cond_true,cond_false,Option.bind_some]; exact no
 by_cases h3:(s.2.2.1.length:Int) ≤ 12 ∨ (256:Int) < s.2.2.1.length ∧ (s.2.2.1.length:Int) ≤ 256 + 3
 case neg=>simp only [h1,h2,h3,decide_true,decide_false,Bool.not_false,Bool.not_true,cond_true,cond_false,Option.bind_some]; exact no
 by_cases h4:(s.2.2.2.1.length:Int) ≤ 20 ∨ (256:Int) < s.2.2.2.1.length ∧ (s.2.2.2.1.length:Int) ≤ 256 + 3
 case neg=>simp only [h1,h2,h3,h4,decide_true,decide_false,Bool.not_false,Bool.not_true,cond_true,cond_false,Option.bind_some]; exact no
 by_cases h5:(s.2.2.2.2.length:Int) ≤ 6 ∨ (256:Int) < s.2.2.2.2.length ∧ (s.2.2.2.2.length:Int) ≤ 256 + 3
 case neg=>simp only [h1,h2,h3,h4,h5,decide_true,decide_false,Bool.not_false,Bool.not_true,cond_true,cond_false,Option.bind_some]; exact no
 cases tb with
 | false=>simp only [h1,h2,h3,h4,h5,decide_true,Bool.not_false,Bool.not_true,cond_true,cond_false,Option.bind_some]; exact no
 | true =>
  have ht2 := ht2 rfl
  simp only [h1,h2,h3,h4,h5,decide_true,Bool.not_true,cond_false,Option.bind_some]
  refine bind_all s.1 (fun y=>y.size ≤ 60) (fun b:Bool ⊕ Unit=>b = .inl false ∨ (b = .inr () ∧ ∀ y ∈ s.1,y.size ≤ 60)) f1 ?_ ?_ ?_
  ·intro j y hj hy
   simp (disch := omega) only [cd_pos,gd_dec,Int.toNat_natCast,getD_some hy,w64_in]
   by_cases h4:(60:Int) < y.size
   ·exact ⟨_,by simp only [h4,decide_true,cond_true],.inr ⟨_,rfl,.inl rfl⟩⟩
   ·exact ⟨_,by simp only [h4,decide_false,cond_false],.inl ⟨rfl,by omega⟩⟩
  ·intro h
   exact ⟨_,by simp (disch := omega) only [cd_neg],.inr ⟨rfl,h⟩⟩
  rintro b (rfl | ⟨rfl,hc⟩)
  ·exact no
  simp only [Sum.elim_inr]
  refine bind_all s.2.1 AtS (fun b:Bool ⊕ Unit=>b = .inl false ∨ (b = .inr () ∧ ∀ y ∈ s.2.1,AtS y)) f2 ?_ ?_ ?_
  ·intro j y hj hy
   simp (disch := omega) only [cd_pos,gd_dec,Int.toNat_natCast,getD_some hy,w64_in]
   by_cases q1:(60:Int) < y.1.size
   ·exact ⟨_,by simp only [q1,decide_true,cond_true,Option.bind_some],.inr ⟨_,rfl,.inl rfl⟩⟩
   ·by_cases q2:(60:Int) < y.2.1.size
    ·exact ⟨_,by simp only [q1,q2,decide_true,decide_false,cond_true,cond_false,Option.bind_some],.inr ⟨_,rfl,.inl rfl⟩⟩
    ·by_cases q3:(60:Int) < y.2.2.2.size
     ·exact ⟨_,by simp only [q1,q2,q3,decide_true,decide_false,cond_true,cond_false,Option.bind_some],.inr ⟨_,rfl,.inl rfl⟩⟩
     ·exact ⟨_,by simp only [q1,q2,q3,decide_true,decide_false,cond_true,cond_false,Option.bind_some],.inl ⟨rfl,by omega,by omega,by omega⟩⟩
  ·intro h
   exact ⟨_,by simp (disch := omega) only [cd_neg],.inr ⟨rfl,h⟩⟩
  rintro b (rfl | ⟨rfl,ha⟩)
  ·exact no
  simp only [Sum.elim_inr]
  refine bind_all s.2.2.1 (fun y=>y.1.size ≤ 60) (fun b:Bool ⊕ Unit=>b = .inl false ∨ (b = .inr () ∧ ∀ y ∈ s.2.2.1,y.1.size ≤ 60)) f3 ?_ ?_ ?_
  ·intro j y hj hy
   simp (disch := omega) only [cd_pos,gd_dec,Int.toNat_natCast,getD_some hy,w64_in]
   by_cases h4:(60:Int) < y.1.size
   ·exact ⟨_,by simp only [h4,decide_true,cond_true],.inr ⟨_,rfl,.inl rfl⟩⟩
   ·exact ⟨_,by simp only [h4,decide_false,cond_false],.inl ⟨rfl,by omega⟩⟩
  ·intro h
   exact ⟨_,by simp (disch := omega) only [cd_neg],.inr ⟨rfl,h⟩⟩
  rintro b (rfl | ⟨rfl,hl⟩)
  ·exact no
  simp only [Sum.elim_inr]
  refine bind_all s.2.2.2.1 EnS (fun b:Bool ⊕ Unit=>b = .inl false ∨ (b = .inr () ∧ ∀ y ∈ s.2.2.2.1,EnS y)) f4 ?_ ?_ ?_
  ·intro j y hj hy
   simp (disch := omega) only [cd_pos,gd_dec,Int.toNat_natCast,getD_some hy,w64_in,l79]
   by_cases q1:(60:Int) < y.1.size
   ·exact ⟨_,by simp only [q1,decide_true,cond_true,Option.bind_some],.inr ⟨_,rfl,.inl rfl⟩⟩
   ·by_cases q2:(60:Int) < y.2.1.size
    ·exact ⟨_,by simp only [q1,q2,decide_true,decide_false,cond_true,cond_false,Option.bind_some],.inr ⟨_,rfl,.inl rfl⟩⟩
    ·by_cases q3:y.2.2.1.size ≤ 40 ∧ y.2.2.2.2.1.size ≤ 40
     ·exact ⟨_,by simp only [q1,q2,q3,and_self,decide_true,decide_false,Bool.not_true,cond_true,cond_false,Option.bind_some],.inl ⟨rfl,by omega,by omega,q3.1,q3.2⟩⟩
     ·exact ⟨_,by simp only [q1,q2,q3,decide_true,decide_false,Bool.not_false,cond_true,cond_false,Option.bind_some],.inr ⟨_,rfl,.inl rfl⟩⟩
  ·intro h
   exact ⟨_,by simp (disch := omega) only [cd_neg],.inr ⟨rfl,h⟩⟩
  rintro b (rfl | ⟨rfl,he⟩)
  ·exact no
  ·exact ⟨true,rfl,fun _=>⟨by omega,by omega,by omega,by omega,by omega,hc,ha,hl,he,ht2⟩⟩
abbrev atM:ATy := .agg [.int .i64,.int .i64,.int .i64,.int .i64,.seq [.str,.str,.str,.int .i64,.int .i64,.int .i64,.int .i64,.str,.int .i64,.str,.int .i64]]
abbrev atS:ATy := .agg [.seq [.str],.seq [.str,.str,.int .i64,.str],.seq [.str,.int .i64,.int .i64],.seq [.str,.str,.str,.int .i64,.str,.int .i64,.bool],.seq [.str,.str,.seq [.str]]]
theorem okM {m:Mt} (h:ATy.ok atM m):m.2.2.2.2.length * 128 ≤ 140737488355328 := by
 obtain ⟨-,-,-,-,h,-⟩ := h
 have h:m.2.2.2.2.length * 128 ≤ 140737488351232 := h
 omega
theorem okS {s:St3} (h:ATy.ok atS s):ByS s := by
 obtain ⟨⟨h1,-⟩,⟨h2,-⟩,⟨h3,-⟩,⟨h4,-⟩,⟨h5,h6⟩⟩ := h
 have h1:s.1.length * 16 ≤ 140737488351232 := h1
 have h2:s.2.1.length * 56 ≤ 140737488351232 := h2
 have h3:s.2.2.1.length * 32 ≤ 140737488351232 := h3
 have h4:s.2.2.2.1.length * 88 ≤ 140737488351232 := h4
 have h5:s.2.2.2.2.length * 56 ≤ 140737488351232 := h5
 refine ⟨by omega,by omega,by omega,by omega,by omega,fun x hx=>?_⟩
 have h7:x.2.2.length * 16 ≤ 140737488351232 := (h6 x hx).2.2.1
 omega
def roomT:List Tm → Nat
 | []=>0
 | x :: l=>x.2.2.length + 1 + roomT l
theorem roomT_ok:∀ (l:List Tm),l.length ≤ roomT l ∧ ∀ x ∈ l,x.2.2.length ≤ roomT l
 | []=>⟨Nat.le_refl _,fun x hx=>(by cases hx)⟩
 | y :: l=>by
  obtain ⟨h1,h2⟩ := roomT_ok l
  refine ⟨by simp only [roomT,List.length_cons]; omega,fun x hx=>?_⟩
  simp only [roomT]
  rcases List.mem_cons.1 hx with rfl | hx
  ·omega
  ·have := h2 x hx; omega
def roomS (m:Mt) (s:St3):Nat := m.2.2.2.2.length + s.1.length + s.2.1.length + s.2.2.1.length + s.2.2.2.1.length + s.2.2.2.2.length + roomT s.2.2.2.2 + 100000
theorem roomS_ok (m:Mt) (s:St3):100000 ≤ roomS m s ∧ m.2.2.2.2.length < roomS m s ∧ FitS (roomS m s) s := by
 obtain ⟨h1,h2⟩ := roomT_ok s.2.2.2.2
 unfold roomS
 refine ⟨by omega,by omega,by omega,by omega,by omega,by omega,by omega,fun x hx=>?_⟩
 have := h2 x hx
 omega
theorem MtS.bd {m:Mt} (h:MtS m):∀ x ∈ m.2.2.2.2,x.1.size ≤ 300 ∧ x.2.2.1.size ≤ 300 := fun x hx=>by
 have := h.c x hx
 unfold CsS at this
 omega
theorem MtS.len {m:Mt} (h:MtS m):m.2.2.2.2.length ≤ 300 := by have := h.n; omega
theorem eqvB (b:Bool):AEls.eqv (ATy.val Ty.bool :: nilT ATy) b b = true := AEls.eqv_rf (ATy.val Ty.bool :: nilT ATy) b
abbrev Act3 := TAct
abbrev Rest3 := Int × ByteArray × ByteArray × ByteArray × ByteArray × Int × Int × ByteArray × Int × ByteArray × List ByteArray
def nameE (s:ByteArray):Int := if nameB s = true then 0 else 8
def dayE (n:Int):Int := if dayB n = true then 3 else 0
def namesE (l:List ByteArray):Int := if 8 < l.length then 5 else firstNZ (l.map nameE)
def ordE (b:Rest3):Int := if b.2.2.2.2.2.2.1 < b.2.2.2.2.2.1 then 11 else 0
def markR (b:Rest3):Int := markE b.2.2.2.2.2.2.2.1 b.2.2.2.2.2.2.2.2.1 b.2.2.2.2.2.2.2.2.2.1
def idleB (A C G K Fr T M N:Bool) (b:Rest3):Bool :=
 (!A && !strEq b.2.1 k0) || ((!C && !strEq b.2.2.1 k0) || ((!G && !strEq b.2.2.2.1 k0) || ((!K && !strEq b.2.2.2.2.1 k0) || ((!Fr && !decide (b.2.2.2.2.2.1 = 0)) || ((!T && !decide (b.2.2.2.2.2.2.1 = 0)) ||
 ((!M && !(b.2.2.2.2.2.2.2.1 == k0 && (decide (b.2.2.2.2.2.2.2.2.1 = 0) && (b.2.2.2.2.2.2.2.2.2.1 == k0 && true)))) || (!N && decide ((0:Int) < (b.2.2.2.2.2.2.2.2.2.2.length:Int)))))))))
def actG (A C G K Fr T M N L:Bool) (b:Rest3):Int :=
 firstNZ [dayE b.1,bif A then nameE b.2.1 else 0,bif C then nameE b.2.2.1 else 0,bif G then nameE b.2.2.2.1 else 0,bif K then nameE b.2.2.2.2.1 else 0,bif Fr then dayE b.2.2.2.2.2.1 else 0,bif T then dayE b.2.2.2.2.2.2.1 else 0,
  bif L then ordE b else 0,bif M then markR b else 0,bif N then namesE b.2.2.2.2.2.2.2.2.2.2 else 0,if idleB A C G K Fr T M N b = true then 1 else 0]
theorem l104 {F:Nat} {s:ByteArray} (hs:s.size < F) (h3:s.size ≤ 300) (c:Int):c104 F (s,c) = some ((List.range s.size).any fun i=>decide (((s.get! i).toNat:Int) = c)) := by
 unfold c104
 refine bind_list (List.range s.size) (fun (_:Unit) i=>(i:Int)) (fun x (_:Unit)=>if decide (((s.get! x).toNat:Int) = c) = true then .inr (.inl true) else .inl ()) (fun _=>(.inr ():Bool ⊕ Unit)) (fun _ _=>True) () (by simpa using hs) rfl trivial ?_ ?_ ?_
 ·intro i x _ hi hx _
  refine ⟨?_,fun _ _=>trivial⟩
  obtain rfl := range_get hx
  have hi':x < s.size := by simpa using hi
  simp (disch := omega) only [cd_pos,gd_dec,Int.toNat_natCast,w64_in,byteI]
  by_cases h:((s.get! x).toNat:Int) = c
  ·simp [h]
  ·simp [h]
 ·intro _ _
  rw [List.length_range]
  simp (disch := omega) only [cd_neg]
 ·rw [goL_any (fun x=>decide (((s.get! x).toNat:Int) = c))]
  cases (List.range s.size).any fun x=>decide (((s.get! x).toNat:Int) = c) <;> rfl
theorem l182 {F:Nat} (hF:400 ≤ F) {l:List ByteArray} (hl:l.length ≤ 10):c182 F l = some (namesE l) := by
 unfold c182 namesE
 by_cases h:8 < l.length
 ·have h':(8:Int) < l.length := by omega
  simp only [h,h',decide_true,cond_true,if_true]
 ·have h':¬ (8:Int) < l.length := by omega
  simp only [h,h',decide_false,cond_false,if_false]
  refine bind_first l nameE (by omega) ?_ ?_ ?_
  ·intro i x hi hx
   simp (disch := omega) only [cd_pos,gd_dec,Int.toNat_natCast,getD_some hx,w64_in,l67 (show 400 ≤ F by omega),Option.bind_some,Nat.zero_add]
   unfold nameE
   cases nameB x <;> rfl
  ·simp (disch := omega) only [cd_neg]
  ·by_cases h2:firstNZ (l.map nameE) = 0 <;> simp [h2]
def fieldE (b:Rest3) (c:Int):Int :=
 if c = 97 then nameE b.2.1 else if c = 99 then nameE b.2.2.1 else if c = 103 then nameE b.2.2.2.1 else if c = 102 then dayE b.2.2.2.2.2.1 else if c = 116 then dayE b.2.2.2.2.2.2.1 else if c = 107 then nameE b.2.2.2.2.1
 else if c = 109 then markR b else namesE b.2.2.2.2.2.2.2.2.2.2
theorem l103 {F:Nat} (hF:400 ≤ F) (b:Rest3) (k:ByteArray) (hl:b.2.2.2.2.2.2.2.2.2.2.length ≤ 10) (c:Int):c103 F ((b.1,k,b.2),c) = some (fieldE b c) := by
 unfold c103 fieldE
 simp only [l180 hF,l181,l156,l182 hF hl,Option.bind_some]
 by_cases h1:c = 97
 ·simp only [h1,decide_true,cond_true,if_true]; rfl
 ·by_cases h2:c = 99
  ·subst h2; rfl
  ·by_cases h3:c = 103
   ·subst h3; rfl
   ·by_cases h4:c = 102
    ·subst h4; rfl
    ·by_cases h5:c = 116
     ·subst h5; rfl
     ·by_cases h6:c = 107
      ·subst h6; rfl
      ·by_cases h7:c = 109
       ·subst h7; rfl
       ·simp only [h1,h2,h3,h4,h5,h6,h7,decide_false,cond_false,if_false]
def kw_club:ByteArray := { data := List.toArray ((99:UInt8) :: (108:UInt8) :: (117:UInt8) :: (98:UInt8) :: nilT UInt8) }
def ks_club:ByteArray := { data := List.toArray ((99:UInt8) :: nilT UInt8) }
def kw_athlete:ByteArray := { data := List.toArray ((97:UInt8) :: (116:UInt8) :: (104:UInt8) :: (108:UInt8) :: (101:UInt8) :: (116:UInt8) :: (101:UInt8) :: nilT UInt8) }
def ks_athlete:ByteArray := { data := List.toArray ((97:UInt8) :: (99:UInt8) :: (103:UInt8) :: (102:UInt8) :: nilT UInt8) }
def kw_licence:ByteArray := { data := List.toArray ((108:UInt8) :: (105:UInt8) :: (99:UInt8) :: (101:UInt8) :: (110:UInt8) :: (99:UInt8) :: (101:UInt8) :: nilT UInt8) }
def ks_licence:ByteArray := { data := List.toArray ((97:UInt8) :: (102:UInt8) :: (116:UInt8) :: nilT UInt8) }
def kw_transfer:ByteArray := { data := List.toArray ((116:UInt8) :: (114:UInt8) :: (97:UInt8) :: (110:UInt8) :: (115:UInt8) :: (102:UInt8) :: (101:UInt8) :: (114:UInt8) :: nilT UInt8) }
def ks_transfer:ByteArray := { data := List.toArray ((97:UInt8) :: (99:UInt8) :: nilT UInt8) }
def kw_enter:ByteArray := { data := List.toArray ((101:UInt8) :: (110:UInt8) :: (116:UInt8) :: (101:UInt8) :: (114:UInt8) :: nilT UInt8) }
def ks_enter:ByteArray := { data := List.toArray ((97:UInt8) :: (107:UInt8) :: (109:UInt8) :: nilT UInt8) }
def kw_withdraw:ByteArray := { data := List.toArray ((119:UInt8) :: (105:UInt8) :: (116:UInt8) :: (104:UInt8) :: (100:UInt8) :: (114:UInt8) :: (97:UInt8) :: (119:UInt8) :: nilT UInt8) }
def ks_withdraw:ByteArray := { data := List.toArray ((97:UInt8) :: (107:UInt8) :: nilT UInt8) }
def kw_check:ByteArray := { data := List.toArray ((99:UInt8) :: (104:UInt8) :: (101:UInt8) :: (99:UInt8) :: (107:UInt8) :: nilT UInt8) }
def ks_check:ByteArray := { data := List.toArray ((97:UInt8) :: (107:UInt8) :: nilT UInt8) }
def kw_team:ByteArray := { data := List.toArray ((116:UInt8) :: (101:UInt8) :: (97:UInt8) :: (109:UInt8) :: nilT UInt8) }
def ks_team:ByteArray := { data := List.toArray ((99:UInt8) :: (107:UInt8) :: (110:UInt8) :: nilT UInt8) }
theorem fnz_cons (x:Int) (l:List Int):firstNZ (x :: l) = if x = 0 then firstNZ l else x := rfl
theorem fnz_app:∀ (l m:List Int),firstNZ (l ++ m) = if firstNZ l = 0 then firstNZ m else firstNZ l
 | [],m=>by simp [firstNZ]
 | x :: l,m=>by
  rw [List.cons_append,fnz_cons,fnz_cons,fnz_app l m]
  by_cases h:x = 0 <;> simp [h]
theorem i_cond (f i r:Bool):(bif !f then (bif i then some true else some r) else some r) = some ((!f && i) || r) := by
 cases f <;> cases i <;> rfl
theorem n_cond (f r:Bool):(bif !f then some r else some false) = some (!f && r) := by
 cases f <;> rfl
theorem l24_gen {F:Nat} (hF:400 ≤ F) (b:Rest3) (hl:b.2.2.2.2.2.2.2.2.2.2.length ≤ 10) (w L:ByteArray) (A C G K Fr T M N lic:Bool) (fl:List Int)
  (e0:c102 F w = some L) (e1:strEq L { data := List.toArray (nilT UInt8) } = false) (e2:strEq w { data := List.toArray ((108:UInt8) :: (105:UInt8) :: (99:UInt8) :: (101:UInt8) :: (110:UInt8) :: (99:UInt8) :: (101:UInt8) :: nilT UInt8) } = lic) (hs:L.size ≤ 300)
  (qa:c104 F (L,97) = some A) (qc:c104 F (L,99) = some C) (qg:c104 F (L,103) = some G) (qk:c104 F (L,107) = some K) (qf:c104 F (L,102) = some Fr) (qt:c104 F (L,116) = some T) (qm:c104 F (L,109) = some M) (qn:c104 F (L,110) = some N)
  (hfl:(List.range L.size).map (fun i=>fieldE b ((L.get! i).toNat:Int)) = fl)
  (hg:dayE b.1 = 0 → actG A C G K Fr T M N lic b = firstNZ (fl ++ [bif lic then ordE b else 0,if idleB A C G K Fr T M N b = true then 1 else 0])):c24 F (b.1,w,b.2) = some (actG A C G K Fr T M N lic b) := by
 have hk:({ data := List.toArray (nilT UInt8) }:ByteArray) = k0 := rfl
 have hi:cv24c F (b.1,w,b.2) L = some ((!C && !strEq b.2.2.1 k0) || ((!G && !strEq b.2.2.2.1 k0) || ((!K && !strEq b.2.2.2.2.1 k0) || ((!Fr && !decide (b.2.2.2.2.2.1 = 0)) || ((!T && !decide (b.2.2.2.2.2.2.1 = 0)) ||
   ((!M && !(b.2.2.2.2.2.2.2.1 == k0 && (decide (b.2.2.2.2.2.2.2.2.1 = 0) && (b.2.2.2.2.2.2.2.2.2.1 == k0 && true)))) || (!N && decide ((0:Int) < (b.2.2.2.2.2.2.2.2.2.2.length:Int))))))))) := by
  unfold cv24c cv24g cv24k cv24f cv24t cv24m cv24n
  simp only [qc,qg,qk,qf,qt,qm,qn,Option.bind_some,n_cond,i_cond,hk]
 unfold c24
 simp only [e0,e1,l94k,Option.bind_some,cond_false]
 by_cases hd:outB b.1 99999 = true
 ·have:dayE b.1 = 3 := by unfold dayE; rw [dayB_out,if_pos hd]
  simp [hd,actG,this,firstNZ]
 ·have hd0:dayE b.1 = 0 := by unfold dayE; rw [dayB_out,if_neg hd]
  have hd':outB b.1 99999 = false := by simpa using hd
  simp only [hd',cond_false]
  refine bind_each L.size (fun i=>fieldE b ((L.get! i).toNat:Int)) (by omega) (by omega) ?_ ?_ ?_
  ·intro i hi
   have hb := l103 hF b w hl ((L.get! i).toNat:Int)
   simp (disch := omega) only [cd_pos,gd_dec,Int.toNat_natCast,w64_in,byteI,peta,hb,Option.bind_some,cond_err]
  ·simp (disch := omega) only [cd_neg]
  ·rw [hfl,hg hd0,fnz_app]
   by_cases hz:firstNZ fl = 0
   ·simp only [hz,if_true,Sum.elim_inr,e2,qa,hi,hk,i_cond,Option.bind_some]
    unfold idleB ordE
    generalize ((!A && !strEq b.2.1 k0) || _) = iv
    cases lic
    ·cases iv <;> rfl
    ·by_cases ho:b.2.2.2.2.2.2.1 < b.2.2.2.2.2.1
     ·simp [ho,fnz_cons]
     ·simp only [ho,decide_false,cond_true,cond_false,if_false,Option.bind_some]
      cases iv <;> rfl
   ·simp only [hz,if_false,Sum.elim_inl]
theorem c102_club (G:Nat):c102 (G + 9) kw_club = some ks_club := by kernel_rfl
theorem l24_club {F:Nat} (hF:400 ≤ F) (b:Rest3) (hl:b.2.2.2.2.2.2.2.2.2.2.length ≤ 10):c24 F (b.1,kw_club,b.2) = some (actG false true false false false false false false false b) := by
 have hsz:ks_club.size = 1 := rfl
 have e3:∀ c:Int,c104 F (ks_club,c) = some ((List.range ks_club.size).any fun i=>decide (((ks_club.get! i).toNat:Int) = c)) := fun c=>l104 (by omega) (by omega) c
 refine l24_gen hF b hl kw_club ks_club false true false false false false false false false [fieldE b 99] ?_ rfl rfl (by omega) ((e3 97).trans rfl) ((e3 99).trans rfl) ((e3 103).trans rfl) ((e3 107).trans rfl) ((e3 102).trans rfl) ((e3 116).trans rfl) ((e3 109).trans rfl) ((e3 110).trans rfl) rfl fun hd=>?_
 ·obtain ⟨G,rfl⟩:∃ G,F = G + 9 := ⟨F - 9,by omega⟩
  exact c102_club G
 ·unfold actG
  simp only [fnz_cons,hd,cond_true,cond_false,if_true,List.cons_append,List.nil_append]
  rfl
theorem c102_athlete (G:Nat):c102 (G + 9) kw_athlete = some ks_athlete := by kernel_rfl
theorem l24_athlete {F:Nat} (hF:400 ≤ F) (b:Rest3) (hl:b.2.2.2.2.2.2.2.2.2.2.length ≤ 10):c24 F (b.1,kw_athlete,b.2) = some (actG true true true false true false false false false b) := by
 have hsz:ks_athlete.size = 4 := rfl
 have e3:∀ c:Int,c104 F (ks_athlete,c) = some ((List.range ks_athlete.size).any fun i=>decide (((ks_athlete.get! i).toNat:Int) = c)) := fun c=>l104 (by omega) (by omega) c
 refine l24_gen hF b hl kw_athlete ks_athlete true true true false true false false false false [fieldE b 97,fieldE b 99,fieldE b 103,fieldE b 102] ?_ rfl rfl (by omega) ((e3 97).trans rfl) ((e3 99).trans rfl) ((e3 103).trans rfl) ((e3 107).trans rfl) ((e3 102).trans rfl) ((e3 116).trans rfl) ((e3 109).trans rfl) ((e3 110).trans rfl) rfl fun hd=>?_
 ·obtain ⟨G,rfl⟩:∃ G,F = G + 9 := ⟨F - 9,by omega⟩
  exact c102_athlete G
 ·unfold actG
  simp only [fnz_cons,hd,cond_true,cond_false,if_true,List.cons_append,List.nil_append]
  rfl
theorem c102_licence (G:Nat):c102 (G + 9) kw_licence = some ks_licence := by kernel_rfl
theorem l24_licence {F:Nat} (hF:400 ≤ F) (b:Rest3) (hl:b.2.2.2.2.2.2.2.2.2.2.length ≤ 10):c24 F (b.1,kw_licence,b.2) = some (actG true false false false true true false false true b) := by
 have hsz:ks_licence.size = 3 := rfl
 have e3:∀ c:Int,c104 F (ks_licence,c) = some ((List.range ks_licence.size).any fun i=>decide (((ks_licence.get! i).toNat:Int) = c)) := fun c=>l104 (by omega) (by omega) c
 refine l24_gen hF b hl kw_licence ks_licence true false false false true true false false true [fieldE b 97,fieldE b 102,fieldE b 116] ?_ rfl rfl (by omega) ((e3 97).trans rfl) ((e3 99).trans rfl) ((e3 103).trans rfl) ((e3 107).trans rfl) ((e3 102).trans rfl) ((e3 116).trans rfl) ((e3 109).trans rfl) ((e3 110).trans rfl) rfl fun hd=>?_
 ·obtain ⟨G,rfl⟩:∃ G,F = G + 9 := ⟨F - 9,by omega⟩
  exact c102_licence G
 ·unfold actG
  simp only [fnz_cons,hd,cond_true,cond_false,if_true,List.cons_append,List.nil_append]
  rfl
theorem c102_transfer (G:Nat):c102 (G + 9) kw_transfer = some ks_transfer := by kernel_rfl
theorem l24_transfer {F:Nat} (hF:400 ≤ F) (b:Rest3) (hl:b.2.2.2.2.2.2.2.2.2.2.length ≤ 10):c24 F (b.1,kw_transfer,b.2) = some (actG true true false false false false false false false b) := by
 have hsz:ks_transfer.size = 2 := rfl
 have e3:∀ c:Int,c104 F (ks_transfer,c) = some ((List.range ks_transfer.size).any fun i=>decide (((ks_transfer.get! i).toNat:Int) = c)) := fun c=>l104 (by omega) (by omega) c
 refine l24_gen hF b hl kw_transfer ks_transfer true true false false false false false false false [fieldE b 97,fieldE b 99] ?_ rfl rfl (by omega) ((e3 97).trans rfl) ((e3 99).trans rfl) ((e3 103).trans rfl) ((e3 107).trans rfl) ((e3 102).trans rfl) ((e3 116).trans rfl) ((e3 109).trans rfl) ((e3 110).trans rfl) rfl fun hd=>?_
 ·obtain ⟨G,rfl⟩:∃ G,F = G + 9 := ⟨F - 9,by omega⟩
  exact c102_transfer G
 ·unfold actG
  simp only [fnz_cons,hd,cond_true,cond_false,if_true,List.cons_append,List.nil_append]
  rfl
theorem c102_enter (G:Nat):c102 (G + 9) kw_enter = some ks_enter := by kernel_rfl
theorem l24_enter {F:Nat} (hF:400 ≤ F) (b:Rest3) (hl:b.2.2.2.2.2.2.2.2.2.2.length ≤ 10):c24 F (b.1,kw_enter,b.2) = some (actG true false false true false false true false false b) := by
 have hsz:ks_enter.size = 3 := rfl
 have e3:∀ c:Int,c104 F (ks_enter,c) = some ((List.range ks_enter.size).any fun i=>decide (((ks_enter.get! i).toNat:Int) = c)) := fun c=>l104 (by omega) (by omega) c
 refine l24_gen hF b hl kw_enter ks_enter true false false true false false true false false [fieldE b 97,fieldE b 107,fieldE b 109] ?_ rfl rfl (by omega) ((e3 97).trans rfl) ((e3 99).trans rfl) ((e3 103).trans rfl) ((e3 107).trans rfl) ((e3 102).trans rfl) ((e3 116).trans rfl) ((e3 109).trans rfl) ((e3 110).trans rfl) rfl fun hd=>?_
 ·obtain ⟨G,rfl⟩:∃ G,F = G + 9 := ⟨F - 9,by omega⟩
  exact c102_enter G
 ·unfold actG
  simp only [fnz_cons,hd,cond_true,cond_false,if_true,List.cons_append,List.nil_append]
  rfl
theorem c102_withdraw (G:Nat):c102 (G + 9) kw_withdraw = some ks_withdraw := by kernel_rfl
theorem l24_withdraw {F:Nat} (hF:400 ≤ F) (b:Rest3) (hl:b.2.2.2.2.2.2.2.2.2.2.length ≤ 10):c24 F (b.1,kw_withdraw,b.2) = some (actG true false false true false false false false false b) := by
 have hsz:ks_withdraw.size = 2 := rfl
 have e3:∀ c:Int,c104 F (ks_withdraw,c) = some ((List.range ks_withdraw.size).any fun i=>decide (((ks_withdraw.get! i).toNat:Int) = c)) := fun c=>l104 (by omega) (by omega) c
 refine l24_gen hF b hl kw_withdraw ks_withdraw true false false true false false false false false [fieldE b 97,fieldE b 107] ?_ rfl rfl (by omega) ((e3 97).trans rfl) ((e3 99).trans rfl) ((e3 103).trans rfl) ((e3 107).trans rfl) ((e3 102).trans rfl) ((e3 116).trans rfl) ((e3 109).trans rfl) ((e3 110).trans rfl) rfl fun hd=>?_
 ·obtain ⟨G,rfl⟩:∃ G,F = G + 9 := ⟨F - 9,by omega⟩
  exact c102_withdraw G
 ·unfold actG
  simp only [fnz_cons,hd,cond_true,cond_false,if_true,List.cons_append,List.nil_append]
  rfl
theorem c102_check (G:Nat):c102 (G + 9) kw_check = some ks_check := by kernel_rfl
theorem l24_check {F:Nat} (hF:400 ≤ F) (b:Rest3) (hl:b.2.2.2.2.2.2.2.2.2.2.length ≤ 10):c24 F (b.1,kw_check,b.2) = some (actG true false false true false false false false false b) := by
 have hsz:ks_check.size = 2 := rfl
 have e3:∀ c:Int,c104 F (ks_check,c) = some ((List.range ks_check.size).any fun i=>decide (((ks_check.get! i).toNat:Int) = c)) := fun c=>l104 (by omega) (by omega) c
 refine l24_gen hF b hl kw_check ks_check true false false true false false false false false [fieldE b 97,fieldE b 107] ?_ rfl rfl (by omega) ((e3 97).trans rfl) ((e3 99).trans rfl) ((e3 103).trans rfl) ((e3 107).trans rfl) ((e3 102).trans rfl) ((e3 116).trans rfl) ((e3 109).trans rfl) ((e3 110).trans rfl) rfl fun hd=>?_
 ·obtain ⟨G,rfl⟩:∃ G,F = G + 9 := ⟨F - 9,by omega⟩
  exact c102_check G
 ·unfold actG
  simp only [fnz_cons,hd,cond_true,cond_false,if_true,List.cons_append,List.nil_append]
  rfl
theorem c102_team (G:Nat):c102 (G + 9) kw_team = some ks_team := by kernel_rfl
theorem l24_team {F:Nat} (hF:400 ≤ F) (b:Rest3) (hl:b.2.2.2.2.2.2.2.2.2.2.length ≤ 10):c24 F (b.1,kw_team,b.2) = some (actG false true false true false false false true false b) := by
 have hsz:ks_team.size = 3 := rfl
 have e3:∀ c:Int,c104 F (ks_team,c) = some ((List.range ks_team.size).any fun i=>decide (((ks_team.get! i).toNat:Int) = c)) := fun c=>l104 (by omega) (by omega) c
 refine l24_gen hF b hl kw_team ks_team false true false true false false false true false [fieldE b 99,fieldE b 107,fieldE b 110] ?_ rfl rfl (by omega) ((e3 97).trans rfl) ((e3 99).trans rfl) ((e3 103).trans rfl) ((e3 107).trans rfl) ((e3 102).trans rfl) ((e3 116).trans rfl) ((e3 109).trans rfl) ((e3 110).trans rfl) rfl fun hd=>?_
 ·obtain ⟨G,rfl⟩:∃ G,F = G + 9 := ⟨F - 9,by omega⟩
  exact c102_team G
 ·unfold actG
  simp only [fnz_cons,hd,cond_true,cond_false,if_true,List.cons_append,List.nil_append]
  rfl
end Go.Proofs.Tryz
