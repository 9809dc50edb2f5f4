/- Plain law: the program's search is the search of T9s. Plain law: ends and orders of tables. And further parts. -/
import Derived.Test.YtlfcbhjoldgijaaGreatXT9o
import Derived.Test.YtlfcbhjoldgijaaGreatXTtT
set_option maxRecDepth 100000
set_option linter.unusedVariables false
set_option linter.unusedSimpArgs false
set_option linter.all false
namespace Go.Proofs.Tryz
open Go Go.Sx
theorem idx_find {α:Type} (l:List α) (p:α → Bool):(l.find? p = none ∧ idxS l p = -1) ∨ ∃ (i:Nat) (r:α),l.find? p = some r ∧ idxS l p = (i:Int) ∧ l[i]? = some r ∧ i < l.length := by
 unfold idxS
 cases h:l.findIdx? p with
 | none =>
  refine .inl ⟨?_,rfl⟩
  rw [List.findIdx?_eq_none_iff] at h
  rw [List.find?_eq_none]
  intro x hx
  simp [h x hx]
 | some i =>
  obtain ⟨hi,h1,h2⟩ := List.findIdx?_eq_some_iff_getElem.1 h
  refine .inr ⟨i,l[i],?_,rfl,List.getElem?_eq_getElem hi,hi⟩
  rw [List.find?_eq_some_iff_getElem]
  exact ⟨h1,i,hi,rfl,fun j hj=>by have := h2 j hj; simpa using this⟩
theorem x144 (F:Nat) (a):cx144_0 F a = cx133_0 F a := by kernel_rfl
theorem x132 {F:Nat} {p:Pln} {t:List Int} (h:PV p) (ht:TOk p t) {A:List Rul} (hA:∀ r ∈ A,RulOk p r) (hl:A.length < F) (hl2:A.length ≤ 3000):cx132_1 F (A,(),p,t,()) = some (idxS A fun r=>!holdS p t r) := by
 unfold cx132_1
 rw [idx_loop A (fun r=>!holdS p t r) hl ?_ ?_]
 ·intro i r hil hi
  simp (disch := omega) only [cd_pos,gd_dec,Int.toNat_natCast,getD_some hi,w64_in,peta,x144,x133 h ht (hA r (List.mem_of_getElem? hi)),Option.bind_some]
  cases holdS p t r <;> simp
 ·simp (disch := omega) only [cd_neg]
structure SIn (p:Pln) (low high:List Int) (A:List Rul):Prop where
 pv:PV p
 n1:low.length = p.1.length
 n2:high.length = p.1.length
 low:InB 20000 low
 high:∀ i,i < p.1.length → fL high i ≤ 4398046511104
 apart:∀ r ∈ A,RulP p r
 len:A.length ≤ 3000
theorem SIn.tok {p:Pln} {low high:List Int} {A:List Rul} (h:SIn p low high A) {E:List Edg} {t:List Int} (ht:TabW low high E t):TOk p t := by
 refine TOk.ofB (ht.len.trans h.n1) ?_
 intro x hx
 obtain ⟨i,hi,rfl⟩ := List.mem_iff_getElem.1 hx
 have hil:i < low.length := by rw [← ht.len]; exact hi
 have a1 := ht.lo i hil
 have a2 := ht.hi i hil
 have a3 := h.high i (by rw [← h.n1]; exact hil)
 have a4 := h.low.at hil
 have e:fL t i = t[i] := by simp only [fL]; rw [getD_some (List.getElem?_eq_getElem hi)]
 simp only [fL] at a1 a2 a3 e
 omega
theorem RulP.ew {p:Pln} (hp:PV p) {r:Rul} (h:RulP p r):EW p.1.length (e1 p r) ∧ EW p.1.length (e2 p r) := by
 have h1 := hp.at h.1.a.1 h.1.a.2
 have h2 := hp.at h.1.b.1 h.1.b.2
 have h3 := h.1.gap
 exact ⟨⟨⟨h.1.a,h.1.b⟩,by simp only [e1]; omega,by simp only [e1]; omega⟩,⟨⟨h.1.b,h.1.a⟩,by simp only [e2]; omega,by simp only [e2]; omega⟩⟩
theorem gd_rec {n:Nat} {X:Type} (i:Decidable (n = n)) (r:Option X):gd (Decidable.rec (motive := fun _=>Bool) (fun h=>(fun _=>false) h) (fun h=>(fun _=>true) h) i && true) r = r := by
 rw [dec_rec i rfl]
 rfl
theorem gd3 {X Y:Type} (e:X → X → Bool) (he:EqRf e) (x:X) (k:X → Option Y):(Option.bind (gd (e x x) (some x)) fun v=>Option.bind (gd (e x x) (some x)) fun v'=>gd (e v v') (some v)).bind k = k x := by
 have h:gd (e x x) (some x) = some x := by rw [he x]; rfl
 simp only [h,Option.bind_some]
def mxS (s:Int) (x:Rnd × Int):Int := if s < x.2 + x.1.2.1 then x.2 + x.1.2.1 else s
theorem endS_fold (p:Pln) (t:List Int):endS p t = (p.1.zip t).foldl mxS 0 := by
 unfold endS
 rw [goL_fold (fun s (x:Rnd × Int)=>if s < x.2 + x.1.2.1 then x.2 + x.1.2.1 else s)]
 rfl
theorem mx_ge:∀ (l:List (Rnd × Int)) (s:Int),s ≤ l.foldl mxS s ∧ ∀ x ∈ l,x.2 + x.1.2.1 ≤ l.foldl mxS s
 | [],s=>⟨Int.le_refl _,fun _ h=>by cases h⟩
 | x :: l,s=>by
  obtain ⟨h1,h2⟩ := mx_ge l (mxS s x)
  have h3:s ≤ mxS s x ∧ x.2 + x.1.2.1 ≤ mxS s x := by unfold mxS; split <;> constructor <;> omega
  rw [List.foldl_cons]
  refine ⟨Int.le_trans h3.1 h1,fun y hy=>?_⟩
  rcases List.mem_cons.1 hy with rfl | hy
  ·exact Int.le_trans h3.2 h1
  ·exact h2 y hy
theorem mx_le {m:Int}:∀ (l:List (Rnd × Int)) (s:Int),s ≤ m → (∀ x ∈ l,x.2 + x.1.2.1 ≤ m) → l.foldl mxS s ≤ m
 | [],s,h,_=>h
 | x :: l,s,h,hl=>by
  rw [List.foldl_cons]
  refine mx_le l _ ?_ fun y hy=>hl y (by simp [hy])
  have := hl x (by simp)
  unfold mxS
  split <;> omega
theorem endS_nonneg (p:Pln) (t:List Int):0 ≤ endS p t := by
 rw [endS_fold]
 exact (mx_ge _ 0).1
theorem zip_at {p:Pln} {t:List Int} {i:Nat} (hi:i < p.1.length) (ht:t.length = p.1.length):(p.1[i],t[i]'(by omega)) ∈ p.1.zip t :=
 List.mem_iff_getElem.2 ⟨i,by rw [List.length_zip]; omega,by simp⟩
theorem endS_ge {p:Pln} {t:List Int} {i:Nat} (hi:i < p.1.length) (ht:t.length = p.1.length):fL t i + (rq p (i:Int)).2.1 ≤ endS p t := by
 rw [endS_fold]
 have := (mx_ge (p.1.zip t) 0).2 _ (zip_at hi ht)
 rw [rq_nat hi]
 simp only [fL]
 rw [getD_some (List.getElem?_eq_getElem (show i < t.length by omega))]
 exact this
theorem endS_le {p:Pln} {t:List Int} {m:Int} (ht:t.length = p.1.length) (hm:0 ≤ m) (h:∀ i,i < p.1.length → fL t i + (rq p (i:Int)).2.1 ≤ m):endS p t ≤ m := by
 rw [endS_fold]
 refine mx_le _ _ hm fun x hx=>?_
 obtain ⟨i,hi,rfl⟩ := List.mem_iff_getElem.1 hx
 rw [List.length_zip] at hi
 have := h i (by omega)
 rw [rq_nat (by omega)] at this
 simp only [fL] at this
 rw [getD_some (List.getElem?_eq_getElem (show i < t.length by omega))] at this
 simpa using this
theorem endS_mono {p:Pln} {t u:List Int} (ht:t.length = p.1.length) (hu:u.length = p.1.length) (h:LeF p.1.length (fL t) (fL u)):endS p t ≤ endS p u :=
 endS_le ht (endS_nonneg p u) fun i hi=>by
  have := endS_ge (p := p) hi hu
  have := h i hi
  omega
theorem endS_bnd {p:Pln} (hp:PV p) {t:List Int} (ht:TOk p t):endS p t ≤ 4398046512544 :=
 endS_le ht.len (by omega) fun i hi=>by
  have h1 := ht.at (a := (i:Int)) (by omega) (by omega)
  have h2 := hp.at (a := (i:Int)) (by omega) (by omega)
  simp only [fL]
  simp only [tq,Int.toNat_natCast] at h1
  omega
def lexI:List Int → List Int → Int
 | [],[]=>0
 | [],_ :: _=>-1
 | _ :: _,[]=>1
 | a :: l,b :: m=>if a < b then -1 else if b < a then 1 else lexI l m
theorem lexI_self:∀ l,lexI l l = 0
 | []=>rfl
 | a :: l=>by simp [lexI,lexI_self l]
theorem lexI_neg:∀ l m,lexI m l = - lexI l m
 | [],[]=>rfl
 | [],_ :: _=>rfl
 | _ :: _,[]=>rfl
 | a :: l,b :: m=>by
  unfold lexI
  by_cases h:a < b
  ·have:¬ b < a := by omega
   simp [h,this]
  ·by_cases h2:b < a
   ·simp [h,h2]
   ·simp only [h,h2,if_false]
    exact lexI_neg l m
theorem lexI_trans:∀ {l m n:List Int},lexI l m ≤ 0 → lexI m n ≤ 0 → lexI l n ≤ 0
 | [],_,[],_,_=>by simp [lexI]
 | [],_,_ :: _,_,_=>by simp [lexI]
 | a :: l,[],_,h,_=>by simp [lexI] at h
 | a :: l,b :: m,[],_,h=>by simp [lexI] at h
 | a :: l,b :: m,c :: n,h1,h2=>by
  unfold lexI at h1 h2 ⊢
  by_cases a1:a < b
  ·have:a < c := by
    by_cases b1:b < c
    ·omega
    ·rw [if_neg b1] at h2
     by_cases b2:c < b
     ·rw [if_pos b2] at h2; omega
     ·omega
   rw [if_pos this]; omega
  ·rw [if_neg a1] at h1
   by_cases a2:b < a
   ·rw [if_pos a2] at h1; omega
   ·rw [if_neg a2] at h1
    have hab:a = b := by omega
    subst hab
    by_cases b1:a < c
    ·rw [if_pos b1]; omega
    ·rw [if_neg b1] at h2 ⊢
     by_cases b2:c < a
     ·rw [if_pos b2] at h2; omega
     ·rw [if_neg b2] at h2 ⊢
      exact lexI_trans h1 h2
theorem ew_app {n:Nat} {E:List Edg} {e:Edg} (hE:∀ e ∈ E,EW n e) (he:EW n e):∀ x ∈ E ++ [e],EW n x := fun x hx=>by
 rcases List.mem_append.1 hx with h | h
 ·exact hE x h
 ·rw [List.mem_singleton.1 h]; exact he
theorem branch {p:Pln} {low high:List Int} {A:List Rul} (h:SIn p low high A) {E:List Edg} {r:Rul} (hE:∀ e ∈ E,EW p.1.length e) (hc:(earlS low high E).2 = true) (hf:find1 p A (earlS low high E).1 = some r) (hl:E.length + (openR p A E).length ≤ 3000) :
  (E ++ [e1 p r]).length + (openR p A (E ++ [e1 p r])).length ≤ 3000 ∧ (E ++ [e2 p r]).length + (openR p A (E ++ [e2 p r])).length ≤ 3000 := by
 obtain ⟨hw,-⟩ := earl_true (h.n2.trans h.n1.symm) (fun e he=>by rw [h.n1]; exact (hE e he).1) hc
 obtain ⟨hrA,hrb⟩ := find1_some hf
 have hrp := h.apart r hrA
 have n1:¬ e1 p r ∈ E := fun he=>by
  have := (hold_or hrp (t := (earlS low high E).1)).2 (.inl (SolF.one.2 (hw.sol _ he)))
  rw [this] at hrb; cases hrb
 have n2:¬ e2 p r ∈ E := fun he=>by
  have := (hold_or hrp (t := (earlS low high E).1)).2 (.inr (SolF.one.2 (hw.sol _ he)))
  rw [this] at hrb; cases hrb
 have l1 := openR_lt (e := e1 p r) hrA n1 n2 (.inl rfl)
 have l2 := openR_lt (e := e2 p r) hrA n1 n2 (.inr rfl)
 simp only [List.length_append,List.length_cons,List.length_nil]
 constructor <;> omega
def betB (cmp:List Int → List Int → Int) (s:Bool × List Int) (t:List Int):Bool := !s.1 || decide (cmp t s.2 < 0)
def fndB (_:Bool × List Int) (t:List Int):Bool × (Bool × List Int) := (false,(true,t))
def StOk (p:Pln) (s:Bool × List Int):Prop := s.1 = true → TOk p s.2
def endC (p:Pln) (a b:List Int):Int := endS p a - endS p b
theorem x140 {F:Nat} (hF:4000 ≤ F) {p:Pln} (hp:PV p) {t:List Int} (ht:TOk p t) {any:Bool} {out:List Int} (ho:StOk p (any,out)):cx140_0 F (t,any,(),out,p) = some (betB (endC p) (any,out) t) := by
 unfold cx140_0
 cases any with
 | false=>rfl
 | true =>
  have ho:TOk p out := ho rfl
  have b1 := endS_bnd hp ht
  have b2 := endS_bnd hp ho
  have c1 := endS_nonneg p t
  have c2 := endS_nonneg p out
  simp only [Bool.not_true,cond_false]
  unfold cx78_0
  simp only [peta,l68 (show 400 ≤ F by omega) hp ht,l68 (show 400 ≤ F by omega) hp ho,Option.bind_some]
  rw [w64_in (by omega) (by omega)]
  simp only [betB,endC,Bool.not_true,Bool.false_or]
  rfl
theorem b143b {g:_ → Option (Bool × Bool × List Int)} {F:Nat} (hF:4000 ≤ F) {p:Pln} {low high:List Int} {A:List Rul} (h:SIn p low high A) {E:List Edg} (hE:∀ e ∈ E,EW p.1.length e) (hEl:E.length ≤ 3000) {any:Bool} {out:List Int} (hs:StOk p (any,out)) :
  bx143_1 g F (E,(low,high),(),A,(),p,(),(),any,(),out,(),p) =
   if (earlS low high E).2 = true ∧ betB (endC p) (any,out) (earlS low high E).1 = true then
    match find1 p A (earlS low high E).1 with
    | none=>some (fndB (any,out) (earlS low high E).1)
    | some r=>match g (E ++ [e1 p r],(low,high),(),A,(),p,(),(),any,(),out,(),p) with
     | none=>none
     | some (true,s1)=>some (true,s1)
     | some (false,s1)=>g (E ++ [e2 p r],(low,high),(),A,(),p,(),(),s1.1,(),s1.2,(),p)
   else some (false,(any,out)) := by
 have hn := h.pv.n1
 unfold bx143_1
 simp only [peta]
 rw [l66 hF (by rw [h.n1]; omega) (h.n2.trans h.n1.symm) (by rw [h.n1]; exact hE) hEl (h.low.mono (by omega))]
 simp only [Option.bind_some]
 cases hb:(earlS low high E).2 with
 | false=>simp
 | true =>
  obtain ⟨hw,-⟩ := earl_true (h.n2.trans h.n1.symm) (fun e he=>by rw [h.n1]; exact (hE e he).1) hb
  have hT := h.tok hw
  generalize (earlS low high E).1 = t at hw hT
  simp only [Bool.not_true,cond_false,x140 hF h.pv hT hs,Option.bind_some,x132 h.pv hT (fun r hr=>(h.apart r hr).1) (show A.length < F by have := h.len; omega) h.len]
  cases hbt:betB (endC p) (any,out) t with
  | false=>simp
  | true =>
   unfold find1
   simp only [Bool.not_true,cond_false]
   rcases idx_find A (fun r=>!holdS p t r) with ⟨h1,h2⟩ | ⟨i,r,h1,h2,h3,h4⟩
   ·rw [h1,h2]
    simp [fndB]
   ·rw [h1,h2]
    have hr := h.apart r (List.mem_of_getElem? h3)
    have ha := h.pv.at hr.1.a.1 hr.1.a.2
    have hb := h.pv.at hr.1.b.1 hr.1.b.2
    have hg := hr.1.gap
    have ha' := hr.1.a
    have hb' := hr.1.b
    have hlen := h.len
    have hnn:¬ (i:Int) < 0 := by omega
    have w1:w64 ((p.1.getD r.2.1.toNat (ByteArray.empty,(0:Int),nilT ByteArray,nilT ByteArray,nilT ByteArray,(0:Int),(0:Int))).2.1 + r.2.2.2) = (rq p r.2.1).2.1 + r.2.2.2 := by
     show w64 ((rq p r.2.1).2.1 + r.2.2.2) = _
     exact w64_in (by omega) (by omega)
    have w2:w64 ((p.1.getD r.2.2.1.toNat (ByteArray.empty,(0:Int),nilT ByteArray,nilT ByteArray,nilT ByteArray,(0:Int),(0:Int))).2.1 + r.2.2.2) = (rq p r.2.2.1).2.1 + r.2.2.2 := by
     show w64 ((rq p r.2.2.1).2.1 + r.2.2.2) = _
     exact w64_in (by omega) (by omega)
    have E1:E ++ (r.2.1,r.2.2.1,(rq p r.2.1).2.1 + r.2.2.2) :: nilT (Int × Int × Int) = E ++ [e1 p r] := rfl
    have E2:E ++ (r.2.2.1,r.2.1,(rq p r.2.2.1).2.1 + r.2.2.2) :: nilT (Int × Int × Int) = E ++ [e2 p r] := rfl
    have L1:(E ++ [e1 p r]).length = E.length + 1 := by simp
    have L2:(E ++ [e2 p r]).length = E.length + 1 := by simp
    simp (disch := omega) only [hnn,decide_false,cond_false,gd_dec,Int.toNat_natCast,getD_some h3,List.drop_zero,List.take_length,w1,w2,E1,E2,gd_rec,decide_true,gd_true]
    cases hG:g (E ++ [e1 p r],(low,high),(),A,(),p,(),(),any,(),out,(),p) with
    | none=>simp
    | some x =>
     obtain ⟨b1,o1⟩ := x
     cases b1 with
     | true =>
      simp only [Option.bind_some,cond_true,if_true,and_self]
      exact (gd3 (X := AltsEl _) (AltsEl.eqv _) (AltsEl.eqv_rf _) _ _).trans rfl
     | false =>
      simp only [Option.bind_some,cond_false,if_true,and_self]
      cases hH:g (E ++ [e2 p r],(low,high),(),A,(),p,(),(),o1.1,(),o1.2,(),p) with
      | none=>simp
      | some y =>
       simp only [Option.bind_some]
       exact (gd3 (X := AltsEl _) (AltsEl.eqv _) (AltsEl.eqv_rf _) _ _).trans rfl
theorem st_aim {p:Pln} {low high:List Int} {A:List Rul} (h:SIn p low high A) (cmp:List Int → List Int → Int):Aim p low high A [] (betB cmp) fndB (fun _ _ _=>True) (fun _ _=>True) (StOk p) :=
 {refl := fun _=>trivial,comp := fun _ _=>trivial,fnd := fun _ _=>trivial,mono := fun _ _=>trivial,g1 := fun _ _ _ _=>trivial,g2 := fun _ _ _ _=>trivial,q := fun _ _ hs _=>h.tok hs.tab }
theorem st_try {p:Pln} {low high:List Int} {A:List Rul} (h:SIn p low high A) {cmp:List Int → List Int → Int} {k:Nat} {E:List Edg} {s:Bool × List Int} {x:Bool × (Bool × List Int)} (hE:∀ e ∈ E,EW p.1.length e) (hs:StOk p s)
  (hx:tryS p low high A (betB cmp) fndB k E s = some x):StOk p x.2 :=
 (tryS_ok (st_aim h cmp) h.n1 h.n2 h.apart k E s x.1 x.2 (fun e he=>(hE e he).1) (fun f hf=>⟨⟨hf.tab.len,hf.tab.lo,hf.tab.hi,fun _ he=>by cases he⟩,hf.rul⟩) hx).2.2.1 hs
theorem r143b {F:Nat} (hF:4000 ≤ F) {p:Pln} {low high:List Int} {A:List Rul} (h:SIn p low high A):∀ (k:Nat) (E:List Edg) (s:Bool × List Int),(∀ e ∈ E,EW p.1.length e) → E.length + (openR p A E).length ≤ 3000 → StOk p s →
  rx143_1 F k (E,(low,high),(),A,(),p,(),(),s.1,(),s.2,(),p) = tryS p low high A (betB (endC p)) fndB k E s
 | 0,E,s,hE,hl,hs=>rfl
 | k + 1,E,s,hE,hl,hs=>by
  show bx143_1 (rx143_1 F k) F (E,(low,high),(),A,(),p,(),(),s.1,(),s.2,(),p) = _
  rw [b143b hF h hE (by omega) hs]
  unfold tryS
  by_cases hc:(earlS low high E).2 = true ∧ betB (endC p) s (earlS low high E).1 = true
  ·rw [if_pos hc,if_pos hc]
   cases hf:find1 p A (earlS low high E).1 with
   | none=>rfl
   | some r =>
    have hr := h.apart r (find1_some hf).1
    obtain ⟨w1,w2⟩ := hr.ew h.pv
    obtain ⟨k1,k2⟩ := branch h hE hc.1 hf hl
    simp only
    rw [r143b hF h k _ s (ew_app hE w1) k1 hs]
    cases h1:tryS p low high A (betB (endC p)) fndB k (E ++ [e1 p r]) s with
    | none=>rfl
    | some x =>
     have hx := st_try h (ew_app hE w1) hs h1
     obtain ⟨b,o⟩ := x
     cases b with
     | true=>rfl
     | false=>exact r143b hF h k _ o (ew_app hE w2) k2 hx
  ·rw [if_neg hc,if_neg hc]
structure Hol (p:Pln) (L:List Rul) (f:List Int):Prop where
 len:f.length = p.1.length
 rng:∀ i,i < p.1.length → 0 ≤ fL f i ∧ fL f i ≤ 1099511627776
 rul:∀ r ∈ L,holdS p f r = true
theorem win_any {L:List Rul} {i:Nat}:L.any (isW i) = true ↔ ∃ r ∈ L,strEq r.1 kW = true ∧ r.2.1 = (i:Int) := by
 rw [List.any_eq_true]
 simp only [isW,Bool.and_eq_true,decide_eq_true_eq]
theorem sol_hol {p:Pln} (hp:PV p) {L:List Rul} {s:OpS} (ho:OpenOk p L s) (hR:∀ r ∈ L,RulOk p r) (f:List Int):SolS p s.1 s.2.1 s.2.2.2 s.2.2.1 f ↔ Hol p L f := by
 constructor
 ·intro h
  have hlen := h.tab.len.trans ho.n1
  refine ⟨hlen,fun i hi=>?_,fun r hr=>?_⟩
  ·have a := h.tab.lo i (by rw [ho.n1]; exact hi)
   have b := h.tab.hi i (by rw [ho.n1]; exact hi)
   have c := ho.low i hi
   have d := ho.high i hi
   have e := hp.at (a := (i:Int)) (by omega) (by omega)
   simp only [fL] at a b ⊢
   rw [c] at a
   rw [d] at b
   constructor
   ·split at a <;> omega
   ·split at b <;> omega
  ·have hk := (hR r hr)
   by_cases k1:strEq r.1 kW = true
   ·have hi:r.2.1.toNat < p.1.length := by have := hk.a; omega
    have hany:L.any (isW r.2.1.toNat) = true := win_any.2 ⟨r,hr,k1,by have := hk.a; omega⟩
    have c := ho.low _ hi
    have d := ho.high _ hi
    rw [if_pos hany] at c d
    have a := h.tab.lo _ (show r.2.1.toNat < s.1.length by rw [ho.n1]; exact hi)
    have b := h.tab.hi _ (show r.2.1.toNat < s.1.length by rw [ho.n1]; exact hi)
    have e:((r.2.1.toNat:Nat):Int) = r.2.1 := by have := hk.a; omega
    unfold holdS winS
    rw [if_pos k1]
    rw [e] at c d
    simp only [fL] at a b
    simp only [decide_eq_true_eq,tq]
    constructor <;> omega
   ·by_cases k2:strEq r.1 kO = true
    ·have hm:edgO p r ∈ s.2.2.1 := by rw [ho.edges]; exact List.mem_map.2 ⟨r,List.mem_filter.2 ⟨hr,k2⟩,rfl⟩
     have a := h.tab.sol _ hm
     unfold holdS befS
     rw [if_neg k1,if_pos k2]
     simp only [edgO,fL] at a
     simp only [decide_eq_true_eq,tq]
     omega
    ·refine h.rul r ?_
     rw [ho.apart]
     refine List.mem_filter.2 ⟨hr,?_⟩
     unfold isP
     simp [k1,k2]
 ·intro h
  refine ⟨⟨h.len.trans ho.n1.symm,fun i hi=>?_,fun i hi=>?_,fun e he=>?_⟩,fun r hr=>?_⟩
  ·have hi':i < p.1.length := by rw [← ho.n1]; exact hi
   have c := ho.low i hi'
   have a := h.rng i hi'
   simp only [fL] at a ⊢
   rw [c]
   split
   ·rename_i hany
    obtain ⟨r,hr,k1,k2⟩ := win_any.1 hany
    have := h.rul r hr
    unfold holdS winS at this
    rw [if_pos k1] at this
    simp only [decide_eq_true_eq,tq,k2,Int.toNat_natCast] at this
    exact this.1
   ·exact a.1
  ·have hi':i < p.1.length := by rw [← ho.n1]; exact hi
   have c := ho.high i hi'
   have a := h.rng i hi'
   simp only [fL] at a ⊢
   rw [c]
   split
   ·rename_i hany
    obtain ⟨r,hr,k1,k2⟩ := win_any.1 hany
    have := h.rul r hr
    unfold holdS winS at this
    rw [if_pos k1] at this
    simp only [decide_eq_true_eq,tq,k2,Int.toNat_natCast] at this
    omega
   ·exact a.2
  ·rw [ho.edges] at he
   obtain ⟨r,hr,rfl⟩ := List.mem_map.1 he
   obtain ⟨hr,k2⟩ := List.mem_filter.1 hr
   have := h.rul r hr
   have k2:strEq r.1 kO = true := k2
   have k1:¬ strEq r.1 kW = true := fun e=>by
    rw [strEq_dec] at k2 e
    have e1 := of_decide_eq_true k2
    have e2 := of_decide_eq_true e
    have := sWO
    rw [strEq_dec,← e1,← e2] at this
    simp at this
   unfold holdS befS at this
   rw [if_neg k1,if_pos k2] at this
   simp only [decide_eq_true_eq,tq] at this
   simp only [edgO,fL]
   omega
  ·rw [ho.apart] at hr
   exact h.rul r (List.mem_filter.1 hr).1
theorem sin_open {p:Pln} (hp:PV p) {L:List Rul} {s:OpS} (ho:OpenOk p L s) (hR:∀ r ∈ L,RulOk p r) (hl:L.length ≤ 3000):SIn p s.1 s.2.1 s.2.2.2 := by
 refine ⟨hp,ho.n1,ho.n2,ho.lowB hp,fun i hi=>?_,fun r hr=>?_,?_⟩
 ·have d := ho.high i hi
  have e := hp.at (a := (i:Int)) (by omega) (by omega)
  simp only [fL]
  rw [d]
  split <;> omega
 ·rw [ho.apart] at hr
  obtain ⟨h1,h2⟩ := List.mem_filter.1 hr
  exact ⟨hR r h1,h2⟩
 ·rw [ho.apart]
  exact Nat.le_trans (List.length_filter_le _ _) hl
theorem two_filter {α:Type} {P Q:α → Bool}:∀ (l:List α),(∀ x ∈ l,¬ (P x = true ∧ Q x = true)) → (l.filter P).length + (l.filter Q).length ≤ l.length
 | [],_=>by simp
 | a :: l,h=>by
  have := two_filter l fun x hx=>h x (by simp [hx])
  have ha := h a (by simp)
  simp only [List.filter_cons,List.length_cons]
  cases hp:P a <;> cases hq:Q a <;> simp [hp,hq] at ha ⊢ <;> omega
theorem open_len {p:Pln} {L:List Rul} {s:OpS} (ho:OpenOk p L s):s.2.2.1.length + (openR p s.2.2.2 s.2.2.1).length ≤ L.length := by
 have h1:(openR p s.2.2.2 s.2.2.1).length ≤ s.2.2.2.length := List.length_filter_le _ _
 have h2:s.2.2.1.length = (L.filter isO).length := by rw [ho.edges,List.length_map]
 have h3:s.2.2.2.length = (L.filter isP).length := by rw [ho.apart]
 have h4 := two_filter (P := isO) (Q := isP) L fun x _ h=>by
  unfold isO isP at h
  simp [h.1] at h
 omega
structure CmpB (n:Nat) (cmp:List Int → List Int → Int):Prop where
 asym:∀ {a b},cmp a b < 0 → ¬ cmp b a < 0
 trans:∀ {a b c},¬ cmp b a < 0 → ¬ cmp c b < 0 → ¬ cmp c a < 0
 mono:∀ {a b:List Int},a.length = n → b.length = n → LeF n (fL a) (fL b) → ¬ cmp b a < 0
theorem cmp_end (p:Pln):CmpB p.1.length (endC p) :=
 ⟨fun h=>by unfold endC at *; omega,fun h1 h2=>by unfold endC at *; omega,fun ha hb h=>by have := endS_mono ha hb h; unfold endC; omega⟩
theorem best_ok {p:Pln} {low high:List Int} {A:List Rul} {E:List Edg} (h:SIn p low high A) (hE:∀ e ∈ E,EW p.1.length e) {cmp:List Int → List Int → Int} (hc:CmpB p.1.length cmp) {k:Nat} {b:Bool} {s:Bool × List Int}
  (hx:tryS p low high A (betB cmp) fndB k E (false,[]) = some (b,s)):(s.1 = false → s.2 = [] ∧ ∀ f,¬ SolS p low high A E f) ∧ (s.1 = true → SolS p low high A E s.2 ∧ ∀ f,SolS p low high A E f → ¬ cmp f s.2 < 0) := by
 have aim:Aim p low high A E (betB cmp) fndB (fun b s s'=>b = false ∧ (s' = s ∨ s'.1 = true) ∧ (s.1 = true → s'.1 = true ∧ ¬ cmp s.2 s'.2 < 0)) (fun s f=>s.1 = true ∧ ¬ cmp f s.2 < 0) (fun s=>s.1 = true → SolS p low high A E s.2) :=
  {refl := fun s=>⟨rfl,.inl rfl,fun h=>⟨h,fun h2=>hc.asym h2 h2⟩⟩
   comp := fun {s s1 s2 b} h1 h2=>by
    obtain ⟨a1,a2,a3⟩ := h1
    obtain ⟨b1,b2,b3⟩ := h2
    refine ⟨b1,?_,fun hs=>?_⟩
    ·rcases b2 with b2 | b2
     ·rw [b2]; exact a2
     ·exact .inr b2
    ·obtain ⟨c1,c2⟩ := a3 hs
     obtain ⟨d1,d2⟩ := b3 c1
     exact ⟨d1,hc.trans d2 c2⟩
   fnd := fun {s t} hb _=>by
    refine ⟨rfl,.inr rfl,fun hs=>⟨rfl,?_⟩⟩
    unfold betB at hb
    rw [hs] at hb
    have hb2:cmp t s.2 < 0 := by simpa using hb
    exact hc.asym hb2
   mono := fun {b s s' f} h1 h2=>by
    obtain ⟨c1,c2⟩ := h1.2.2 h2.1
    exact ⟨c1,hc.trans c2 h2.2⟩
   g1 := fun {s t f} hb ht hf hle=>by
    unfold betB at hb
    cases hs:s.1 with
    | false=>rw [hs] at hb; simp at hb
    | true =>
     rw [hs] at hb
     exact ⟨rfl,hc.trans (by simpa using hb) (hc.mono (ht.trans h.n1) (hf.trans h.n1) (by rw [← h.n1]; exact hle))⟩
   g2 := fun {s t f} _ ht hf hle=>⟨rfl,hc.mono (ht.trans h.n1) (hf.trans h.n1) (by rw [← h.n1]; exact hle)⟩
   q := fun _ _ ht _=>ht }
 obtain ⟨⟨h1,h1',-⟩,h2,h3,-⟩ := tryS_ok aim h.n1 h.n2 h.apart k E _ _ _ (fun e he=>(hE e he).1) (fun _ h=>h) hx
 have h2 := h2 h1
 refine ⟨fun hs=>⟨?_,fun f hf=>?_⟩,fun hs=>⟨h3 (fun h=>by cases h) hs,fun f hf=>(h2 f hf).2⟩⟩
 ·rcases h1' with h | h
  ·rw [h]
  ·rw [h] at hs; cases hs
 ·have := (h2 f hf).1
  rw [hs] at this; cases this
structure BestS (p:Pln) (cmp:List Int → List Int → Int) (t:List Int) (is:Bool):Prop where
 no:is = false → t = [] ∧ ∀ f,¬ Hol p (rulesS p) f
 yes:is = true → Hol p (rulesS p) t ∧ ∀ f,Hol p (rulesS p) f → ¬ cmp f t < 0
theorem x116 {F:Nat} (hF:4000 ≤ F) {p:Pln} (hp:PV p):∃ t is,cx116_0 F (p,p) = some (t,is) ∧ BestS p (endC p) t is := by
 have hR := hp.rulM
 have hL:(rulesS p).length ≤ 3000 := Nat.le_trans (rulesS_len (by have := hp.n1; omega) (by have := hp.n2; omega)) (by omega)
 have ho := openS_ok hR
 have hs := sin_open hp ho hR hL
 have hE := OpenOk.ew hp ho hR
 have hlen := open_len ho
 have key := sol_hol hp ho hR
 unfold cx116_0 cx118_1
 simp only [peta,l65 (show 400 ≤ F by omega) hp.sh,l63 hF hp hL hR,Option.bind_some]
 generalize openS p (rulesS p) = s at ho hs hE hlen key
 unfold cx143_1
 have := r143b hF hs F s.2.2.1 (false,[]) hE (by omega) (fun h=>by cases h)
 rw [show rx143_1 F F (s.2.2.1,(s.1,s.2.1),(),s.2.2.2,(),p,(),(),false,(),nilT Int,(),p) = _ from this]
 obtain ⟨⟨b,o⟩,hx⟩ := tryS_some (better := betB (endC p)) (found := fndB) hs.n1 hs.n2 hs.apart F s.2.2.1 (false,[]) (fun e he=>(hE e he).1) (by omega)
 rw [hx]
 obtain ⟨h1,h2⟩ := best_ok hs hE (cmp_end p) hx
 exact ⟨o.2,o.1,rfl,fun h=>⟨(h1 h).1,fun f hf=>(h1 h).2 f ((key f).2 hf)⟩,fun h=>⟨(key _).1 (h2 h).1,fun f hf=>(h2 h).2 f ((key f).2 hf)⟩⟩
noncomputable def lx35 (F:Nat):LK := lS del84_ok (lC (pc65_ok F) (lS (PF.sm_ok (pf85_ok F)) (lC (pc86_ok F) (lC (pc83_ok F) (lC (pc82_ok F) lN)))))
noncomputable def pc35 (F:Nat):PC := qT (lx35 F) (.two .leaf (.two .leaf (.two .leaf (.two .leaf (.two .leaf (.two (.two .leaf (.one (.virt 6 3 [.int .i64] (.loop ⟨[.vec 1 3 [.int .i64],.slot 22 (.val (.int .i64))],[(6,.own 1)]⟩ [(.exit 0,⟨[.vec 1 3 [.int .i64]],[(6,.own 1)]⟩)] ⟨[29,22,25,26,27,28,6,7,24,23],[1],[1]⟩ F .leaf)))) (.two (.two .leaf (.one (.weak 1 [6] (.sealing 1 3 [.int .i64] (.loop ⟨[.slot 6 (.val (.seq [.int .i64])),.slot 8 (.val (.int .i64))],[]⟩ [(.exit 2,⟨[.slot 6 (.val (.seq [.int .i64]))],[]⟩)] ⟨[37,38,39,40,41,42,9,49,6,48,47,46,45,44,43,8,36,35,34,33],[],[]⟩ F (.two .leaf (.two (.one (.two .leaf (.two (.weak 2 [9] (.sealing 2 3 [.int .i64] .leaf)) (.join [(.normal,⟨[.slot 6 (.val (.seq [.int .i64]))],[]⟩)] ⟨[6,49],[],[]⟩ .leaf)))) .leaf))))))) .leaf))))))) f35 [.agg [sR,sO,.int .i64]] [.val (.seq [.int .i64]),.val (.int .i64)]
theorem pc35_ok (F:Nat):PCOk cx 35 (pc35 F) := qT_ok (by kernel_rfl)
noncomputable def lx36 (F:Nat):LK := lC (pc65_ok F) (lC (pc87_ok F) (lC (pc86_ok F) (lC (pc83_ok F) (lC (pc77_ok F) (lC (pc88_ok F) (lC (pc82_ok F) lN))))))
noncomputable def pc36 (F:Nat):PC := qT (lx36 F) (.two .leaf (.two .leaf (.two .leaf (.two .leaf (.two .leaf (.two .leaf (.two (.two .leaf (.one (.loop ⟨[.slot 6 (.val (.seq [.int .i64])),.slot 7 (.val (.bool)),.slot 24 (.val (.int .i64))],[]⟩ [(.exit 0,⟨[.slot 6 (.val (.seq [.int .i64])),.slot 7 (.val (.bool))],[]⟩)] ⟨[72,24,27,28,29,30,31,32,33,34,35,36,37,38,50,41,42,43,44,45,49,48,47,46,10,40,39,65,66,67,68,69,70,7,6,71,64,63,62,61,60,59,58,57,56,55,54,53,52,51,9,8,26,25],[],[]⟩ F (.two .leaf (.two .leaf (.two (.join [(.normal,⟨[.slot 6 (.val (.seq [.int .i64])),.slot 7 (.val (.bool))],[]⟩)] ⟨[27,28,29,30,31,32,33,34,35,36,37,38,50,41,42,43,44,45,49,48,47,46,10,40,39,65,66,67,68,69,70,7,6,71,64,63,62,61,60,59,58,57,56,55,54,53,52,51,9,8,26],[],[]⟩ (.one (.two .leaf (.two (.two (.join [(.normal,⟨[.slot 35 (.val (.bool))],[]⟩)] ⟨[35,34,33,32,31,30,29,28,27],[],[]⟩ .leaf) .leaf) (.two .leaf (.two (.two .leaf (.one (.virt 9 3 [.int .i64] (.loop ⟨[.vec 1 3 [.int .i64],.slot 38 (.val (.int .i64))],[(9,.own 1)]⟩ [(.exit 2,⟨[.vec 1 3 [.int .i64]],[(9,.own 1)]⟩)] ⟨[50,38,41,42,43,44,45,9,49,48,47,46,10,40,39],[1],[1]⟩ F (.two .leaf (.two .leaf (.two (.one (.two .leaf (.two .leaf (.join [(.normal,⟨[.vec 1 3 [.int .i64]],[(9,.own 1)]⟩)] ⟨[9,49,48,47,46],[1],[1]⟩ .leaf)))) .leaf))))))) (.two (.two (.join [(.normal,⟨[.slot 64 (.val (.bool))],[]⟩)] ⟨[64,63,62,61,60,59,58,57,56,55,54,53,52,51],[],[]⟩ .leaf) .leaf) (.two (.weak 1 [9] (.sealing 1 3 [.int .i64] .leaf)) (.join [(.normal,⟨[.slot 6 (.val (.seq [.int .i64])),.slot 7 (.val (.bool))],[]⟩)] ⟨[7,6,71],[],[]⟩ .leaf))))))))) .leaf)))))) .leaf))))))) f36 [.agg [sR,sO,.int .i64]] [.val (.seq [.int .i64]),.val (.int .i64)]
theorem pc36_ok (F:Nat):PCOk cx 36 (pc36 F) := qT_ok (by kernel_rfl)
end Go.Proofs.Tryz
