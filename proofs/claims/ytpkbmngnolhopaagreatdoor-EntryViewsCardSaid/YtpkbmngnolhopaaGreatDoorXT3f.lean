/- Plain law: who takes part, clashes, clubs. Plain law: clashes and clubs. -/
import Derived.Test.YtpkbmngnolhopaaGreatDoorXT3e
import Derived.Test.YtpkbmngnolhopaaGreatDoorXTeB3
set_option maxRecDepth 100000
set_option linter.unusedVariables false
set_option linter.unusedSimpArgs false
namespace Go.Proofs.Tryz
open Go Go.Sx
theorem foldl_sel {α β:Type} (p:α → Bool) (f:α → β):∀ (l:List α) (out:List β),l.foldl (fun out x=>if p x = true then out ++ [f x] else out) out = out ++ (l.filter p).map f
 | [],out=>by simp
 | x :: l,out=>by
  rw [List.foldl_cons,foldl_sel p f l]
  cases h:p x <;> simp [h]
theorem bind_sel {α β γ:Type} {step:List β × Int → Option ((List β × Int) ⊕ List β)} {F:Nat} {k:List β → Option γ} {r:Option γ} (l:List α) (p:α → Bool) (f:α → β) (hF:l.length < F)
  (hstep:∀ (i:Nat) x out,i < l.length → l[i]? = some x → out.length ≤ i → step (out,(i:Int)) = some (.inl (if p x = true then out ++ [f x] else out,(i:Int) + 1)))
  (hend:∀ out,out.length ≤ l.length → step (out,(l.length:Int)) = some (.inr out))
  (hk:((l.filter p).map f).length ≤ l.length → k ((l.filter p).map f) = r):Option.bind (loopO step F ([],0)) k = r := by
 refine bind_list l (fun out i=>(out,(i:Int))) (fun x out=>.inl (if p x = true then out ++ [f x] else out)) (fun out=>out) (fun i s=>s.length ≤ i) [] hF rfl (Nat.le_refl _) ?_ ?_ ?_
 ·intro i x out hi hx ho
  refine ⟨?_,fun s' hs=>?_⟩
  ·rw [hstep i x out hi hx ho]
   rfl
  ·simp only [Sum.inl.injEq] at hs
   subst hs
   cases p x <;> simp <;> omega
 ·intro out ho
  exact hend out ho
 ·rw [goL_fold (fun out x=>if p x = true then out ++ [f x] else out),foldl_sel p f]
  simp only [List.nil_append]
  exact hk (by rw [List.length_map]; exact List.length_filter_le p l)
def inP (s:St3) (a c:ByteArray):Bool := decide (0 ≤ eI s a c) || s.2.2.2.2.any fun t=>strEq t.2.1 c && hasB t.2.2 a
theorem x194 {F:Nat} (hF:400 ≤ F) (t:Tm) (ht:t.2.2.length ≤ 300) (c a:ByteArray):cx194_0 F (t,c,a) = some (strEq t.2.1 c && hasB t.2.2 a) := by
 unfold cx194_0
 simp only [l107' hF ht,Option.bind_some]
 cases strEq t.2.1 c <;> rfl
theorem x225b {F:Nat} (hF:400 ≤ F) {s:St3} (h:SmS s) (c a:ByteArray):cx225_1 F (s.2.2.2.2,c,a) = some (idxI (fun t=>strEq t.2.1 c && hasB t.2.2 a) s.2.2.2.2) := by
 have h1 := h.t
 unfold cx225_1
 refine bind_idx s.2.2.2.2 _ (by omega) ?_ ?_
 ·intro i y hi hy
  have hl := h.tn _ (List.mem_of_getElem? hy)
  simp (disch := omega) only [cd_pos,gd_dec,Int.toNat_natCast,getD_some hy,w64_in,peta,x194 hF y hl,Option.bind_some]
  cases strEq y.2.1 c && hasB y.2.2 a <;> rfl
 ·simp (disch := omega) only [cd_neg]
theorem l126 {F:Nat} (hF:400 ≤ F) {s:St3} (h:SmS s) (a c:ByteArray):c126 F (s,a,c) = some (inP s a c) := by
 unfold c126 cx193_0 inP
 simp only [peta,l186 hF h,x225b hF h,idxI_any,Option.bind_some]
 cases decide (0 ≤ eI s a c) <;> rfl
theorem l73 {F:Nat} (hF:400 ≤ F) {s:St3} (h:SmS s) (c:ByteArray):c73 F (s,c) = some (s.2.2.2.2.filter fun t=>strEq t.2.1 c) := by
 have h1 := h.t
 have e:∀ y:Tm,y :: nilT Tm = [y] := fun _=>rfl
 unfold c73
 refine bind_sel s.2.2.2.2 (fun t=>strEq t.2.1 c) (fun t=>t) (by omega) ?_ ?_ ?_
 ·intro i x out hi hx ho
  have hl2:(out ++ [x]).length ≤ 301 := by simp; omega
  simp (disch := omega) only [cd_pos,gd_dec,Int.toNat_natCast,getD_some hx,w64_in,peta,e,decide_true,Bool.and_self,gd_true,Option.bind_some]
  cases strEq x.2.1 c
  ·simp [gd_true]
  ·simp only [cond_true,if_true,Option.bind_some]
 ·intro out ho
  simp (disch := omega) only [cd_neg,decide_true,Bool.and_self,gd_true,Option.bind_some]
 ·intro hl
  simp only [List.map_id',decide_true,Bool.and_self,gd_true,List.drop_zero,List.take_length,Nat.zero_add,Nat.le_refl]
theorem l130 {F:Nat} (hF:400 ≤ F) {s:St3} (h:SmS s) (a c:ByteArray):c130 F (s,a,c) = some (inP s a c) := by
 have h1 := h.t
 have h2:(s.2.2.2.2.filter fun t=>strEq t.2.1 c).length ≤ 300 := by
  have := List.length_filter_le (fun t:Tm=>strEq t.2.1 c) s.2.2.2.2
  omega
 unfold c130
 simp only [peta,l73 hF h,l53 hF h,Option.bind_some]
 refine bind_list (s.2.2.2.2.filter fun t=>strEq t.2.1 c) (fun (_:Unit) i=>(i:Int)) (fun y (_:Unit)=>if hasB y.2.2 a = true then .inr (.inl true) else .inl ()) (fun _=>(.inr ():Bool ⊕ Unit)) (fun _ _=>True) () (by omega) rfl trivial ?_ ?_ ?_
 ·intro i y _ hi hy _
  refine ⟨?_,fun _ _=>trivial⟩
  have hm := List.mem_of_getElem? hy
  have hl := h.tn _ (List.mem_filter.1 hm).1
  have hd:(ByteArray.empty,ByteArray.empty,nilT ByteArray) = dT := rfl
  simp (disch := omega) only [cd_pos,gd_dec,Int.toNat_natCast,getD_some hy,w64_in,l54 hF hl,Option.bind_some]
  cases hasB y.2.2 a <;> rfl
 ·intro _ _
  simp (disch := omega) only [cd_neg]
 ·rw [goL_any (fun y:Tm=>hasB y.2.2 a)]
  unfold inP
  rw [List.any_filter]
  cases s.2.2.2.2.any fun t=>strEq t.2.1 c && hasB t.2.2 a <;> simp
def conS (m:Mt) (s:St3) (a:ByteArray):List ByteArray := (m.2.2.2.2.filter fun c=>inP s a c.1).map (·.1)
theorem l41 {F:Nat} (hF:400 ≤ F) {m:Mt} (hm:m.2.2.2.2.length ≤ 300) {s:St3} (h:SmS s) (a:ByteArray):c41 F (m,s,a) = some (conS m s a) := by
 have e:∀ y:ByteArray,y :: nilT ByteArray = [y] := fun _=>rfl
 unfold c41 conS
 refine bind_sel m.2.2.2.2 (fun c=>inP s a c.1) (fun c=>c.1) (by omega) ?_ ?_ ?_
 ·intro i x out hi hx ho
  have hl2:(out ++ [x.1]).length ≤ 301 := by simp; omega
  simp (disch := omega) only [cd_pos,gd_dec,Int.toNat_natCast,getD_some hx,w64_in,peta,e,l130 hF h,decide_true,Bool.and_self,gd_true,Option.bind_some]
  cases inP s a x.1
  ·simp [gd_true]
  ·simp only [cond_true,if_true,Option.bind_some]
 ·intro out ho
  simp (disch := omega) only [cd_neg,decide_true,Bool.and_self,gd_true,Option.bind_some]
 ·intro hl
  simp only [decide_true,Bool.and_self,gd_true,List.drop_zero,List.take_length,Nat.zero_add,Nat.le_refl]
def viewE (m:Mt) (s:St3) (a:ByteArray):Int := firstNZ [stE m s,if aI s a < 0 then 10 else 0]
theorem l36 {F:Nat} (hF:400 ≤ F) {m:Mt} (hm:m.2.2.2.2.length ≤ 300) (hb:∀ x ∈ m.2.2.2.2,x.1.size ≤ 300 ∧ x.2.2.1.size ≤ 300) {s:St3} (h:SmS s) (a:ByteArray) :
  c36 F (m,s,a) = some (if viewE m s a = 0 then (conS m s a,0) else ([],viewE m s a)) := by
 have e:∀ y:ByteArray,y :: nilT ByteArray = [y] := fun _=>rfl
 have e2:∀ a b,c84 F (a :: b :: nilT Int) = some (firstNZ [a,b]) := fun a b=>l84' hF (by simp [nilT])
 unfold c36
 simp only [peta,l25 hF hm hb h,l110 hF h,l86,e2,Option.bind_some,decide_eq_true_eq]
 rw [show firstNZ [stE m s,if aI s a < 0 then 10 else 0] = viewE m s a from rfl]
 by_cases hv:viewE m s a = 0
 ·simp only [hv,decide_true,Bool.not_true,cond_false,if_true]
  refine bind_sel m.2.2.2.2 (fun c=>inP s a c.1) (fun c=>c.1) (by omega) ?_ ?_ ?_
  ·intro i x out hi hx ho
   have hl2:(out ++ [x.1]).length ≤ 301 := by simp; omega
   simp (disch := omega) only [cd_pos,gd_dec,Int.toNat_natCast,getD_some hx,w64_in,peta,e,l126 hF h,decide_true,Bool.and_self,gd_true,Option.bind_some]
   cases inP s a x.1
   ·simp [gd_true]
   ·simp only [cond_true,if_true,Option.bind_some]
  ·intro out ho
   simp (disch := omega) only [cd_neg,decide_true,Bool.and_self,gd_true,Option.bind_some]
  ·intro hl
   simp only [decide_true,Bool.and_self,gd_true,List.drop_zero,List.take_length,Nat.zero_add,Nat.le_refl]
   rfl
 ·simp only [hv,decide_false,Bool.not_false,cond_true,if_false]
  rfl
theorem bind_selA {α β γ:Type} {step:List β × Int → Option ((List β × Int) ⊕ List β)} {F:Nat} {k:List β → Option γ} {r:Option γ} (l:List α) (p:α → Bool) (f:α → β) (o:Nat) (out0:List β) (hF:l.length < F)
  (hstep:∀ (i:Nat) x out,i < l.length → l[i]? = some x → out.length ≤ out0.length + i → step (out,((o + i:Nat):Int)) = some (.inl (if p x = true then out ++ [f x] else out,((o + i + 1:Nat):Int))))
  (hend:∀ out,out.length ≤ out0.length + l.length → step (out,((o + l.length:Nat):Int)) = some (.inr out))
  (hk:(out0 ++ (l.filter p).map f).length ≤ out0.length + l.length → k (out0 ++ (l.filter p).map f) = r):Option.bind (loopO step F (out0,(o:Int))) k = r := by
 refine bind_list l (fun out i=>(out,((o + i:Nat):Int))) (fun x out=>.inl (if p x = true then out ++ [f x] else out)) (fun out=>out) (fun i s=>s.length ≤ out0.length + i) out0 hF rfl (Nat.le_refl _) ?_ ?_ ?_
 ·intro i x out hi hx ho
  refine ⟨?_,fun s' hs=>?_⟩
  ·rw [hstep i x out hi hx ho]
   rfl
  ·simp only [Sum.inl.injEq] at hs
   subst hs
   cases p x <;> simp <;> omega
 ·intro out ho
  exact hend out ho
 ·rw [goL_fold (fun out x=>if p x = true then out ++ [f x] else out),foldl_sel p f]
  exact hk (by rw [List.length_append,List.length_map]; have := List.length_filter_le p l; omega)
theorem foldl_flat {α β:Type} (g:α → List β):∀ (l:List α) (out:List β),l.foldl (fun out x=>out ++ g x) out = out ++ l.flatMap g
 | [],out=>by simp
 | x :: l,out=>by rw [List.foldl_cons,foldl_flat g l,List.flatMap_cons,List.append_assoc]
theorem foldl_or {α:Type} (p:α → Bool):∀ (l:List α) (b:Bool),l.foldl (fun b x=>b || p x) b = (b || l.any p)
 | [],b=>by simp
 | x :: l,b=>by rw [List.foldl_cons,foldl_or p l,List.any_cons,Bool.or_assoc]
def clB (s:St3) (a b:ByteArray):Bool := s.2.1.any fun y=>inP s y.1 a && inP s y.1 b
def clRow (m:Mt) (s:St3) (i:Nat):List (ByteArray × ByteArray) := ((m.2.2.2.2.drop (i + 1)).filter fun c=>clB s (m.2.2.2.2.getD i dC).1 c.1).map fun c=>((m.2.2.2.2.getD i dC).1,c.1)
def clS (m:Mt) (s:St3):List (ByteArray × ByteArray) := (List.range m.2.2.2.2.length).flatMap (clRow m s)
theorem clRow_le (m:Mt) (s:St3) (i:Nat):(clRow m s i).length ≤ m.2.2.2.2.length := by
 unfold clRow
 rw [List.length_map]
 have := List.length_filter_le (fun c:Cst=>clB s (m.2.2.2.2.getD i dC).1 c.1) (m.2.2.2.2.drop (i + 1))
 rw [List.length_drop] at this
 omega
theorem x128 {F:Nat} (hF:400 ≤ F) {s:St3} (h:SmS s) (y:Ath) (c d:Cst):cx128_0 F (y,s,c,d) = some (inP s y.1 c.1 && inP s y.1 d.1) := by
 unfold cx128_0
 simp only [peta,l126 hF h,Option.bind_some]
 cases inP s y.1 c.1 <;> rfl
theorem x184b {F:Nat} (hF:400 ≤ F) {s:St3} (h:SmS s) (c d:Cst):cx184_1 F (s.2.1,s,c,d) = some (idxI (fun y=>inP s y.1 c.1 && inP s y.1 d.1) s.2.1) := by
 have h1 := h.a
 unfold cx184_1
 refine bind_idx s.2.1 _ (by omega) ?_ ?_
 ·intro i y hi hy
  have hd:zAth = dA := rfl
  simp (disch := omega) only [cd_pos,gd_dec,Int.toNat_natCast,getD_some hy,w64_in,peta,x128 hF h,Option.bind_some]
  cases inP s y.1 c.1 && inP s y.1 d.1 <;> rfl
 ·simp (disch := omega) only [cd_neg]
theorem x127 {F:Nat} (hF:400 ≤ F) {s:St3} (h:SmS s) (c d:Cst):cx127_0 F (s.2.1,s,c,d) = some (clB s c.1 d.1) := by
 unfold cx127_0 clB
 simp only [peta,x184b hF h,idxI_any,Option.bind_some]
theorem l37 {F:Nat} (hF:400 ≤ F) {m:Mt} (hm:m.2.2.2.2.length ≤ 300) (hb:∀ x ∈ m.2.2.2.2,x.1.size ≤ 300 ∧ x.2.2.1.size ≤ 300) {s:St3} (h:SmS s) :
  c37 F (m,s) = some (if stE m s = 0 then (clS m s,0) else ([],stE m s)) := by
 have e:∀ y:ByteArray × ByteArray,y :: nilT (ByteArray × ByteArray) = [y] := fun _=>rfl
 have hd:zCst = dC := rfl
 unfold c37
 simp only [peta,l25 hF hm hb h,Option.bind_some]
 by_cases hv:stE m s = 0
 ·simp only [hv,decide_true,Bool.not_true,cond_false,if_true]
  refine bind_list (List.range m.2.2.2.2.length) (fun out i=>(out,(i:Int))) (fun i out=>.inl (out ++ clRow m s i)) (fun out=>out) (fun i out=>out.length ≤ i * 300) [] (by simp; omega) rfl (by simp) ?_ ?_ ?_
  ·intro i x out hi hx ho
   obtain rfl := range_get hx
   have hi':x < m.2.2.2.2.length := by simpa using hi
   have ho2:out.length ≤ 90000 := by omega
   refine ⟨?_,fun s' hs=>?_⟩
   ·simp (disch := omega) only [cd_pos,gd_dec,Int.toNat_natCast,w64_in,decide_true,Bool.and_self,gd_true,Option.bind_some]
    have hw:((x:Int) + 1) = ((x + 1:Nat):Int) := rfl
    simp only [hw,Int.toNat_natCast,List.take_length]
    refine bind_selA (m.2.2.2.2.drop (x + 1)) (fun c=>clB s (m.2.2.2.2.getD x dC).1 c.1) (fun c=>((m.2.2.2.2.getD x dC).1,c.1)) 0 out (by rw [List.length_drop]; omega) ?_ ?_ ?_
    ·intro j y out2 hj hy ho3
     rw [List.length_drop] at hj
     have hl2:(out2 ++ [((m.2.2.2.2.getD x dC).1,y.1)]).length ≤ 91000 := by simp; omega
     simp (disch := first | omega | (rw [List.length_drop]; omega)) only [Nat.zero_add,cd_pos,gd_dec,Int.toNat_natCast,w64_in,hd,getD_some hy,peta,x127 hF h,e,decide_true,Bool.and_self,gd_true,Option.bind_some]
     cases clB s (m.2.2.2.2.getD x dC).1 y.1
     ·simp [gd_true]
     ·simp only [cond_true,if_true,Option.bind_some,gd_true,decide_true]
      rfl
    ·intro out2 ho3
     rw [Nat.zero_add]
     simp (disch := omega) only [cd_neg,decide_true,Bool.and_self,gd_true,Option.bind_some]
    ·intro hl
     rfl
   ·simp only [Sum.inl.injEq] at hs
    subst hs
    have := clRow_le m s x
    rw [List.length_append,Nat.add_mul]
    omega
  ·intro out ho
   rw [List.length_range]
   simp (disch := omega) only [cd_neg,decide_true,Bool.and_self,gd_true,Option.bind_some]
  ·rw [goL_fold (fun out i=>out ++ clRow m s i),foldl_flat (clRow m s)]
   simp only [List.nil_append,decide_true,Bool.and_self,gd_true,List.drop_zero,List.take_length,Nat.zero_add,Nat.le_refl]
   rfl
 ·simp only [hv,decide_false,Bool.not_false,cond_true,if_false]
  rfl
theorem l42 {F:Nat} (hF:400 ≤ F) {m:Mt} (hm:m.2.2.2.2.length ≤ 300) {s:St3} (h:SmS s):c42 F (m,s) = some (clS m s) := by
 have e:∀ y:ByteArray × ByteArray,y :: nilT (ByteArray × ByteArray) = [y] := fun _=>rfl
 have hd:zCst = dC := rfl
 have h1 := h.a
 unfold c42
 refine bind_list (List.range m.2.2.2.2.length) (fun out i=>(out,(i:Int))) (fun i out=>.inl (out ++ clRow m s i)) (fun out=>out) (fun i out=>out.length ≤ i * 300) [] (by simp; omega) rfl (by simp) ?_ ?_ ?_
 ·intro i x out hi hx ho
  obtain rfl := range_get hx
  have hi':x < m.2.2.2.2.length := by simpa using hi
  have ho2:out.length ≤ 90000 := by omega
  refine ⟨?_,fun s' hs=>?_⟩
  ·simp (disch := omega) only [cd_pos,gd_dec,Int.toNat_natCast,w64_in,decide_true,Bool.and_self,gd_true,Option.bind_some]
   have hw:((x:Int) + 1) = ((x + 1:Nat):Int) := rfl
   simp only [hw]
   refine bind_selA (m.2.2.2.2.drop (x + 1)) (fun c=>clB s (m.2.2.2.2.getD x dC).1 c.1) (fun c=>((m.2.2.2.2.getD x dC).1,c.1)) (x + 1) out (by rw [List.length_drop]; omega) ?_ ?_ ?_
   ·intro j y out2 hj hy ho3
    rw [List.length_drop] at hj
    rw [List.getElem?_drop] at hy
    have hl2:(out2 ++ [((m.2.2.2.2.getD x dC).1,y.1)]).length ≤ 91000 := by simp; omega
    simp (disch := omega) only [cd_pos,gd_dec,Int.toNat_natCast,w64_in,hd,getD_some hy,peta,e,decide_true,Bool.and_self,gd_true,Option.bind_some]
    refine bind_list s.2.1 (fun b i=>(b,(i:Int))) (fun y2 b=>.inl (b || (inP s y2.1 (m.2.2.2.2.getD x dC).1 && inP s y2.1 y.1))) (fun b=>b) (fun _ _=>True) false (by omega) rfl trivial ?_ ?_ ?_
    ·intro k z b hk hz _
     refine ⟨?_,fun _ _=>trivial⟩
     simp (disch := omega) only [cd_pos,gd_dec,Int.toNat_natCast,w64_in,getD_some hz,l130 hF h,Option.bind_some]
     cases b
     ·cases inP s z.1 (m.2.2.2.2.getD x dC).1
      ·rfl
      ·cases inP s z.1 y.1 <;> rfl
     ·rfl
    ·intro b _
     simp (disch := omega) only [cd_neg]
    ·rw [goL_fold (fun b (z:Ath)=>b || (inP s z.1 (m.2.2.2.2.getD x dC).1 && inP s z.1 y.1)),foldl_or (fun z:Ath=>inP s z.1 (m.2.2.2.2.getD x dC).1 && inP s z.1 y.1),Bool.false_or]
     rw [show (s.2.1.any fun z:Ath=>inP s z.1 (m.2.2.2.2.getD x dC).1 && inP s z.1 y.1) = clB s (m.2.2.2.2.getD x dC).1 y.1 from rfl]
     cases clB s (m.2.2.2.2.getD x dC).1 y.1
     ·simp [gd_true]
     ·simp (disch := omega) only [cond_true,if_true,Option.bind_some,gd_true,gd_dec,decide_true]
      rfl
   ·intro out2 ho3
    rw [List.length_drop]
    simp (disch := omega) only [cd_neg,decide_true,Bool.and_self,gd_true,Option.bind_some]
   ·intro hl
    rfl
  ·simp only [Sum.inl.injEq] at hs
   subst hs
   have := clRow_le m s x
   rw [List.length_append,Nat.add_mul]
   omega
 ·intro out ho
  rw [List.length_range]
  simp (disch := omega) only [cd_neg,decide_true,Bool.and_self,gd_true,Option.bind_some]
 ·rw [goL_fold (fun out i=>out ++ clRow m s i),foldl_flat (clRow m s)]
  simp only [List.nil_append,decide_true,Bool.and_self,gd_true,List.drop_zero,List.take_length,Nat.zero_add,Nat.le_refl]
  rfl
def clubOf (s:St3) (x:ByteArray):ByteArray := (s.2.1.getD (aI s x).toNat dA).2.1
theorem aI_lt {s:St3} {x:ByteArray} (h:0 ≤ aI s x):∃ k:Nat,aI s x = k ∧ k < s.2.1.length := by
 obtain ⟨k,y,h1,h2,h3,h4⟩ := idxI_get (p := fun y:Ath=>strEq y.1 x) (l := s.2.1) h
 exact ⟨k,h1,h2⟩
theorem l129 {F:Nat} (hF:400 ≤ F) {s:St3} (h:SmS s) {x:ByteArray} (hx:0 ≤ aI s x):c129 F (s,x) = some (clubOf s x) := by
 obtain ⟨k,h1,h2⟩ := aI_lt hx
 have hd:zAth = dA := rfl
 unfold c129 clubOf
 simp only [peta,l110 hF h,Option.bind_some,h1,hd]
 simp (disch := omega) only [gd_dec,Int.toNat_natCast]
theorem firstNZ_zero:∀ {l:List Int},firstNZ l = 0 → ∀ x ∈ l,x = 0
 | [],_,x,hx=>by cases hx
 | y :: l,h,x,hx=>by
  by_cases hy:y = 0
  ·rw [show firstNZ (y :: l) = if y = 0 then firstNZ l else y from rfl,if_pos hy] at h
   rcases List.mem_cons.1 hx with rfl | hx
   ·exact hy
   ·exact firstNZ_zero h x hx
  ·rw [show firstNZ (y :: l) = if y = 0 then firstNZ l else y from rfl,if_neg hy] at h
   exact absurd h hy
theorem st_ent {m:Mt} {s:St3} (hv:stE m s = 0) {i:Nat} (hi:i < s.2.2.2.1.length):entE m s i = 0 := by
 have h1:mtE m = 0 := by
  by_cases h:mtE m = 0
  ·exact h
  ·rw [stE,if_neg h] at hv; exact absurd hv h
 have h2:¬ manyS s := fun h=>by rw [stE,if_pos h1,if_pos h] at hv; exact absurd hv (by decide)
 rw [stE,if_pos h1,if_neg h2] at hv
 have h3 := firstNZ_zero hv _ (List.mem_cons_of_mem _ (List.mem_cons_of_mem _ (List.mem_cons_of_mem _ List.mem_cons_self)))
 exact firstNZ_zero h3 _ (List.mem_map.2 ⟨i,List.mem_range.2 hi,rfl⟩)
theorem st_known {m:Mt} {s:St3} (hv:stE m s = 0) {x:Ent} (hx:x ∈ s.2.2.2.1):0 ≤ aI s x.1 := by
 obtain ⟨i,hi,e⟩ := List.getElem_of_mem hx
 have h := st_ent hv hi
 have e2:s.2.2.2.1.getD i dE = x := by rw [getD_some (List.getElem?_eq_getElem hi),e]
 unfold entE at h
 rw [e2] at h
 by_cases h3:aI s x.1 < 0
 ·simp [h3] at h
 ·omega
def cntM (l:List ByteArray):List (ByteArray × Int) := l.foldl (fun m b=>mput strEq b (mgetD strEq b m 0 + 1) m) []
theorem cnt_fold (k:ByteArray):∀ (l:List ByteArray) (m:List (ByteArray × Int)),mgetD strEq k (l.foldl (fun m b=>mput strEq b (mgetD strEq b m 0 + 1) m) m) 0 = mgetD strEq k m 0 + ((l.filter fun b=>strEq b k).length:Int)
 | [],m=>by simp
 | b :: l,m=>by
  rw [List.foldl_cons,cnt_fold k l,mgetD_mput strEq_iff]
  by_cases h:b = k
  ·subst h; simp [strEq_self]; omega
  ·simp [strEq_false h,strEq_false (fun e:k = b=>h e.symm)]
theorem cntM_get (l:List ByteArray) (k:ByteArray):mgetD strEq k (cntM l) 0 = ((l.filter fun b=>strEq b k).length:Int) := by
 unfold cntM
 rw [cnt_fold]
 simp [mgetD_nil]
def cntS (s:St3):List Int := s.1.map fun c=>((s.2.2.2.1.filter fun e=>strEq (clubOf s e.1) c).length:Int)
theorem foldl_map' {α β γ:Type} (f:α → β) (g:γ → β → γ) (l:List α) (z:γ):l.foldl (fun z x=>g z (f x)) z = (l.map f).foldl g z := by
 rw [List.foldl_map]
theorem cnt_map (s:St3) (c:ByteArray):((s.2.2.2.1.map fun e=>clubOf s e.1).filter fun b=>strEq b c).length = (s.2.2.2.1.filter fun e=>strEq (clubOf s e.1) c).length := by
 rw [List.filter_map,List.length_map]
 rfl
theorem l38 {F:Nat} (hF:400 ≤ F) {m:Mt} (hm:m.2.2.2.2.length ≤ 300) (hb:∀ x ∈ m.2.2.2.2,x.1.size ≤ 300 ∧ x.2.2.1.size ≤ 300) {s:St3} (h:SmS s) :
  c38 F (m,s) = some (if stE m s = 0 then (cntS s,0) else ([],stE m s)) := by
 have e:∀ y:Int,y :: nilT Int = [y] := fun _=>rfl
 have h1 := h.e
 have h2 := h.c
 unfold c38
 simp only [peta,l25 hF hm hb h,Option.bind_some]
 by_cases hv:stE m s = 0
 ·simp only [hv,decide_true,Bool.not_true,cond_false,if_true]
  refine bind_list s.2.2.2.1 (fun q i=>(q,(i:Int))) (fun x q=>.inl (mput strEq (clubOf s x.1) (mgetD strEq (clubOf s x.1) q 0 + 1) q)) (fun q=>q) (fun i q=>∀ k,0 ≤ mgetD strEq k q 0 ∧ mgetD strEq k q 0 ≤ i) [] (by omega) rfl (fun k=>by simp [mgetD_nil]) ?_ ?_ ?_
  ·intro i x q hi hx hq
   have hk := st_known hv (List.mem_of_getElem? hx)
   have hq2 := hq (clubOf s x.1)
   refine ⟨?_,fun s' hs=>?_⟩
   ·simp (disch := omega) only [cd_pos,gd_dec,Int.toNat_natCast,getD_some hx,w64_in,peta,l129 hF h hk,Option.bind_some]
    rfl
   ·simp only [Sum.inl.injEq] at hs
    subst hs
    intro k
    rw [mgetD_mput strEq_iff]
    have := hq k
    split <;> omega
  ·intro q _
   simp (disch := omega) only [cd_neg]
  ·rw [goL_fold (fun q (x:Ent)=>mput strEq (clubOf s x.1) (mgetD strEq (clubOf s x.1) q 0 + 1) q),foldl_map' (fun x:Ent=>clubOf s x.1) (fun q b=>mput strEq b (mgetD strEq b q 0 + 1) q)]
   rw [show List.foldl (fun q b=>mput strEq b (mgetD strEq b q 0 + 1) q) [] (s.2.2.2.1.map fun x:Ent=>clubOf s x.1) = cntM (s.2.2.2.1.map fun x:Ent=>clubOf s x.1) from rfl]
   refine bind_list s.1 (fun out i=>(out,(i:Int))) (fun c out=>.inl (out ++ [((s.2.2.2.1.filter fun e=>strEq (clubOf s e.1) c).length:Int)])) (fun out=>out) (fun i out=>out.length = i) [] (by omega) rfl rfl ?_ ?_ ?_
   ·intro i x out hi hx ho
    have hl2:(out ++ [((s.2.2.2.1.filter fun e=>strEq (clubOf s e.1) x).length:Int)]).length ≤ 301 := by simp; omega
    refine ⟨?_,fun s' hs=>?_⟩
    ·simp (disch := omega) only [cd_pos,gd_dec,Int.toNat_natCast,getD_some hx,w64_in,e,cntM_get,cnt_map,decide_true,Bool.and_self,gd_true,Option.bind_some]
     rfl
    ·simp only [Sum.inl.injEq] at hs
     subst hs
     simp [ho]
   ·intro out ho
    simp (disch := omega) only [cd_neg,decide_true,Bool.and_self,gd_true,Option.bind_some]
   ·rw [goL_append (fun c=>((s.2.2.2.1.filter fun e=>strEq (clubOf s e.1) c).length:Int)) (fun out=>out)]
    simp only [List.nil_append,decide_true,Bool.and_self,gd_true,List.drop_zero,List.take_length,Nat.zero_add,Nat.le_refl]
    rfl
 ·simp only [hv,decide_false,Bool.not_false,cond_true,if_false]
  rfl
theorem foldl_cnt {α:Type} (p:α → Bool):∀ (l:List α) (n:Int),l.foldl (fun n x=>if p x = true then n + 1 else n) n = n + ((l.filter p).length:Int)
 | [],n=>by simp
 | x :: l,n=>by
  rw [List.foldl_cons,foldl_cnt p l]
  cases h:p x <;> simp [h]
  omega
theorem l43 {F:Nat} (hF:400 ≤ F) {s:St3} (h:SmS s) (hk:∀ x ∈ s.2.2.2.1,0 ≤ aI s x.1):c43 F s = some (cntS s) := by
 have e:∀ y:Int,y :: nilT Int = [y] := fun _=>rfl
 have hd:zAth = dA := rfl
 have h1 := h.e
 have h2 := h.c
 unfold c43
 refine bind_list s.1 (fun out i=>(out,(i:Int))) (fun c out=>.inl (out ++ [((s.2.2.2.1.filter fun e=>strEq (clubOf s e.1) c).length:Int)])) (fun out=>out) (fun i out=>out.length = i) [] (by omega) rfl rfl ?_ ?_ ?_
 ·intro i x out hi hx ho
  refine ⟨?_,fun s' hs=>?_⟩
  ·simp (disch := omega) only [cd_pos,gd_dec,Int.toNat_natCast,getD_some hx]
   refine bind_list s.2.2.2.1 (fun n j=>(n,(j:Int))) (fun y n=>.inl (if strEq (clubOf s y.1) x = true then n + 1 else n)) (fun n=>n) (fun j n=>0 ≤ n ∧ n ≤ j) 0 (by omega) rfl ⟨by omega,by omega⟩ ?_ ?_ ?_
   ·intro j y n hj hy hn
    have hky := hk _ (List.mem_of_getElem? hy)
    obtain ⟨k,hk1,hk2⟩ := aI_lt hky
    refine ⟨?_,fun s' hs=>?_⟩
    ·simp (disch := omega) only [cd_pos,gd_dec,Int.toNat_natCast,getD_some hy,w64_in,peta,l40 hF h,Option.bind_some,hd,hk1]
     rw [show (s.2.1.getD k dA).2.1 = clubOf s y.1 by unfold clubOf; rw [hk1]; rfl]
     cases strEq (clubOf s y.1) x <;> rfl
    ·simp only [Sum.inl.injEq] at hs
     subst hs
     split <;> omega
   ·intro n _
    simp (disch := omega) only [cd_neg]
   ·rw [goL_fold (fun n (y:Ent)=>if strEq (clubOf s y.1) x = true then n + 1 else n),foldl_cnt (fun y:Ent=>strEq (clubOf s y.1) x),Int.zero_add]
    have hl2:(out ++ [((s.2.2.2.1.filter fun e=>strEq (clubOf s e.1) x).length:Int)]).length ≤ 301 := by simp; omega
    simp (disch := omega) only [w64_in,e,gd_dec,decide_true,Bool.and_self,gd_true,Option.bind_some]
    rfl
  ·simp only [Sum.inl.injEq] at hs
   subst hs
   simp [ho]
 ·intro out ho
  simp (disch := omega) only [cd_neg,decide_true,Bool.and_self,gd_true,Option.bind_some]
 ·rw [goL_append (fun c=>((s.2.2.2.1.filter fun e=>strEq (clubOf s e.1) c).length:Int)) (fun out=>out)]
  simp only [List.nil_append,decide_true,Bool.and_self,gd_true,List.drop_zero,List.take_length,Nat.zero_add,Nat.le_refl]
  rfl
end Go.Proofs.Tryz
