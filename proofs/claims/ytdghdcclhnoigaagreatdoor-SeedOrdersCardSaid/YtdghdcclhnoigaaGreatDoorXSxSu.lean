/- Plain lemmas: the library's stable sort, as a function of data, sorts stably. Plain lemmas: the library's stable sort: insertion, merging. And further parts. -/
import Derived.Test.YtdghdcclhnoigaaGreatDoorXSxQh
set_option maxRecDepth 100000
set_option linter.unusedVariables false
set_option linter.unusedSimpArgs false
set_option maxHeartbeats 1000000
section
namespace Go.Sx
open Go
def half (x:Int):Int := Go.IntKind.wrap Go.IntKind.i64 (Int.fdiv (Go.IntKind.wrap Go.IntKind.u64 x) ((2:Int) ^ Min.min (Int.toNat (1:Int)) (Go.IntKind.bits Go.IntKind.u64)))
variable {α E β:Type}
def swapG (n:Nat) (d:α) (l:List α) (i j:Int) (k:List α → Option β):Option β :=
 gd (decide ((0:Int) ≤ j)) (gd (decide (j < (n:Int))) (gd (decide ((0:Nat) + Int.toNat j < List.length l)) (gd (decide ((0:Int) ≤ i)) (gd (decide (i < (n:Int))) (gd (decide ((0:Nat) + Int.toNat i < List.length l))
 (gd (decide ((0:Int) ≤ i)) (gd (decide (i < (n:Int))) (gd (decide ((0:Nat) + Int.toNat i < List.length l)) (gd (decide ((0:Int) ≤ j)) (gd (decide (j < (n:Int))) (gd (decide ((0:Nat) + Int.toNat j < List.length (List.set l ((0:Nat) + Int.toNat i) (List.getD l ((0:Nat) + Int.toNat j) d))))
 (k (List.set (List.set l ((0:Nat) + Int.toNat i) (List.getD l ((0:Nat) + Int.toNat j) d)) ((0:Nat) + Int.toNat j) (List.getD l ((0:Nat) + Int.toNat i) d))))))))))))))
def cmpG (cmp:α × α × E → Option Int) (e:E) (n:Nat) (d:α) (l:List α) (i j:Int) (k:Int → Option β):Option β :=
 gd (decide ((0:Int) ≤ i)) (gd (decide (i < (n:Int))) (gd (decide ((0:Nat) + Int.toNat i < List.length l)) (gd (decide ((0:Int) ≤ j)) (gd (decide (j < (n:Int))) (gd (decide ((0:Nat) + Int.toNat j < List.length l))
 (Option.bind (cmp (List.getD l ((0:Nat) + Int.toNat i) d,List.getD l ((0:Nat) + Int.toNat j) d,e)) k))))))
def insI (cmp:α × α × E → Option Int) (e:E) (n:Nat) (d:α) (a:Int) (v33:List α × Int):Option (List α × Int ⊕ List α) :=
 Option.bind (bif decide (a < v33.2) then cmpG cmp e n d v33.1 v33.2 (w64 (v33.2 - (1:Int))) (fun v35=>some (decide (v35 < (0:Int)))) else some false) fun v34 =>
  bif v34 then swapG n d v33.1 v33.2 (w64 (v33.2 - (1:Int))) (fun l=>some (Sum.inl (l,w64 (v33.2 - (1:Int))))) else some (Sum.inr v33.1)
def insO (cmp:α × α × E → Option Int) (F:Nat) (e:E) (n:Nat) (d:α) (a b:Int) (v31:List α × Int):Option (List α × Int ⊕ List α) :=
 bif decide (v31.2 < b) then Option.bind (loopO (insI cmp e n d a) F (v31.1,v31.2)) fun v32=>some (Sum.inl (v32,w64 (v31.2 + (1:Int)))) else some (Sum.inr v31.1)
def gIns (cmp:α × α × E → Option Int) (d:α) (F:Nat) (a:Int × Int × List α × E):Option (List α) :=
 Option.bind (loopO (insO cmp F a.2.2.2 (List.length a.2.2.1) d a.1 a.2.1) F (a.2.2.1,w64 (a.1 + (1:Int)))) fun v30=>some v30
def swapI (n:Nat) (d:α) (a b c:Int) (v9:List α × Int):Option (List α × Int ⊕ List α) :=
 bif decide (v9.2 < c) then swapG n d v9.1 (w64 (a + v9.2)) (w64 (b + v9.2)) (fun l=>some (Sum.inl (l,w64 (v9.2 + (1:Int))))) else some (Sum.inr v9.1)
def gSwap (d:α) (F:Nat) (a:Int × Int × Int × List α × E):Option (List α) :=
 Option.bind (loopO (swapI (List.length a.2.2.2.1) d a.1 a.2.1 a.2.2.1) F (a.2.2.2.1,(0:Int))) fun v8=>some v8
def fitG {X:Type} (n m:Nat) (x:X):Option X := gd (decide (n = m) && (true && true) && (true && (true && (true && (true && true))))) (some x)
def rotI (d:α) (F:Nat) (e:E) (n:Nat) (m:Int) (v38:List α × Int × Int):Option (List α × Int × Int ⊕ List α × Int) :=
 bif !decide (v38.2.1 = v38.2.2) then Option.bind (bif decide (v38.2.2 < v38.2.1) then Option.bind (fitG n (List.length v38.1) (w64 (m - v38.2.1),m,v38.2.2,v38.1,e)) fun v40=>Option.bind (gSwap d F v40) fun v41=>some (v41,w64 (v38.2.1 - v38.2.2),v38.2.2)
  else Option.bind (fitG n (List.length v38.1) (w64 (m - v38.2.1),w64 (w64 (m + v38.2.2) - v38.2.1),v38.2.1,v38.1,e)) fun v42=>Option.bind (gSwap d F v42) fun v43=>some (v43,v38.2.1,w64 (v38.2.2 - v38.2.1))) fun v39=>some (Sum.inl (v39.1,v39.2.1,v39.2.2)) else some (Sum.inr (v38.1,v38.2.1))
def gRot (d:α) (F:Nat) (a:Int × Int × Int × List α × E):Option (List α) :=
 Option.bind (loopO (rotI d F a.2.2.2.2 (List.length a.2.2.2.1) a.2.1) F (a.2.2.2.1,w64 (a.2.1 - a.1),w64 (a.2.2.1 - a.2.1))) fun v35 =>
  Option.bind (fitG (List.length a.2.2.2.1) (List.length v35.1) (w64 (a.2.1 - v35.2),a.2.1,v35.2,v35.1,a.2.2.2.2)) fun v36=>Option.bind (gSwap d F v36) fun v37=>some v37
theorem half_eq {x:Int} (h0:0 ≤ x) (h1:x < 4611686018427387904):half x = x / 2 := by
 unfold half
 have h2:((2:Int) ^ Min.min (Int.toNat (1:Int)) (Go.IntKind.bits Go.IntKind.u64)) = 2 := by decide
 have h3:Go.IntKind.wrap Go.IntKind.u64 x = x := IntWalk.u64_in _ (by omega)
 rw [h2,h3,Int.fdiv_eq_ediv_of_nonneg _ (by omega)]
 exact w64_in (by omega) (by omega)
theorem swapG_at {n:Nat} {d:α} {l L M R:List α} {x y:α} {i j:Int} {k:List α → Option β} (hl:l = L ++ x :: (M ++ y :: R)) (hn:l.length = n) (hi:i = (L.length:Int)) (hj:j = (L.length:Int) + 1 + (M.length:Int)) :
  swapG n d l i j k = k (L ++ y :: (M ++ x :: R)) := by
 have hlen:l.length = L.length + 1 + M.length + 1 + R.length := by rw [hl]; simp; omega
 have hi':i.toNat = L.length := by omega
 have hj':j.toNat = L.length + 1 + M.length := by omega
 unfold swapG
 rw [gd_dec (by omega),gd_dec (by omega),gd_dec (by omega),gd_dec (by omega),gd_dec (by omega),gd_dec (by omega),gd_dec (by omega),gd_dec (by omega),gd_dec (by omega),gd_dec (by omega),gd_dec (by omega),gd_dec (by rw [List.length_set]; omega)]
 simp only [Nat.zero_add,hi',hj']
 have e1:l.getD L.length d = x := by rw [hl]; exact getD_mid rfl
 have e2:l.getD (L.length + 1 + M.length) d = y := by
  rw [hl,show L ++ x :: (M ++ y :: R) = (L ++ x :: M) ++ y :: R by simp]
  exact getD_mid (by simp; omega)
 rw [e1,e2,hl,set_mid rfl,show L ++ y :: (M ++ y :: R) = (L ++ y :: M) ++ y :: R by simp,set_mid (by simp; omega)]
 congr 1
 simp
theorem swapG_ta {n:Nat} {d:α} {l L M R:List α} {x y:α} {i j:Int} {k:List α → Option β} (hl:l = L ++ x :: (M ++ y :: R)) (hn:l.length = n) (hj:j = (L.length:Int)) (hi:i = (L.length:Int) + 1 + (M.length:Int)) :
  swapG n d l i j k = k (L ++ y :: (M ++ x :: R)) := by
 have hlen:l.length = L.length + 1 + M.length + 1 + R.length := by rw [hl]; simp; omega
 have hj':j.toNat = L.length := by omega
 have hi':i.toNat = L.length + 1 + M.length := by omega
 unfold swapG
 rw [gd_dec (by omega),gd_dec (by omega),gd_dec (by omega),gd_dec (by omega),gd_dec (by omega),gd_dec (by omega),gd_dec (by omega),gd_dec (by omega),gd_dec (by omega),gd_dec (by omega),gd_dec (by omega),gd_dec (by rw [List.length_set]; omega)]
 simp only [Nat.zero_add,hi',hj']
 have e1:l.getD L.length d = x := by rw [hl]; exact getD_mid rfl
 have e2:l.getD (L.length + 1 + M.length) d = y := by
  rw [hl,show L ++ x :: (M ++ y :: R) = (L ++ x :: M) ++ y :: R by simp]
  exact getD_mid (by simp; omega)
 rw [e1,e2,hl,show L ++ x :: (M ++ y :: R) = (L ++ x :: M) ++ y :: R by simp,set_mid (by simp; omega),show L ++ x :: M ++ x :: R = L ++ x :: (M ++ x :: R) by simp,set_mid rfl]
theorem cmpG_at {cmp:α × α × E → Option Int} {e:E} {n:Nat} {d:α} {l:List α} {i j:Int} {x y:α} {k:Int → Option β} {v:Int} (hn:l.length = n) (hi0:0 ≤ i) (hi:l[i.toNat]? = some x) (hj0:0 ≤ j) (hj:l[j.toNat]? = some y) (hc:cmp (x,y,e) = some v) :
  cmpG cmp e n d l i j k = k v := by
 obtain ⟨hi',-⟩ := List.getElem?_eq_some_iff.1 hi
 obtain ⟨hj',-⟩ := List.getElem?_eq_some_iff.1 hj
 unfold cmpG
 rw [gd_dec (by omega),gd_dec (by omega),gd_dec (by omega),gd_dec (by omega),gd_dec (by omega),gd_dec (by omega)]
 simp only [Nat.zero_add,getD_some hi,getD_some hj,hc,Option.bind_some]
theorem swap_loop {d:α} {n:Nat} {a b c:Int}:∀ (X Y P M S:List α) (k:Int) (F:Nat),X.length = Y.length → X.length < F → n = (P ++ X ++ M ++ Y ++ S).length → n < 4611686018427387904 → a + k = P.length → b + k = (P.length:Int) + X.length + M.length → k + X.length = c → 0 ≤ k → 0 ≤ a →
  loopO (swapI n d a b c) F (P ++ X ++ M ++ Y ++ S,k) = some (P ++ Y ++ M ++ X ++ S)
 | X,Y,P,M,S,k,0,_,hF,_,_,_,_,_,_,_=>by omega
 | [],[],P,M,S,k,F + 1,_,hF,hn,hb,ha,hb2,hc,hk,hk2=>by
  simp only [loopO,swapI]
  rw [cd_neg (by simp at hc; omega)]
 | x :: X,[],P,M,S,k,F + 1,h,_,_,_,_,_,_,_,_=>by simp at h
 | [],y :: Y,P,M,S,k,F + 1,h,_,_,_,_,_,_,_,_=>by simp at h
 | x :: X,y :: Y,P,M,S,k,F + 1,h,hF,hn,hb,ha,hb2,hc,hk,hk2=>by
  simp only [List.length_cons,List.length_append] at h hF hn hb2 hc
  have hs:swapI n d a b c (P ++ x :: X ++ M ++ y :: Y ++ S,k) = some (.inl (P ++ [y] ++ X ++ (M ++ [x]) ++ Y ++ S,k + 1)) := by
   unfold swapI
   rw [cd_pos (by simp only; omega),w64_in (by simp only; omega) (by simp only; omega),w64_in (by simp only; omega) (by simp only; omega)]
   simp only
   rw [swapG_at (L := P) (x := x) (M := X ++ M) (y := y) (R := Y ++ S) (by simp) (by simp; omega) (by omega) (by simp; omega),w64_in (by omega) (by omega)]
   simp
  simp only [loopO,hs]
  rw [swap_loop X Y (P ++ [y]) (M ++ [x]) S (k + 1) F (by omega) (by omega) (by simp; omega) hb (by simp; omega) (by simp; omega) (by omega) (by omega) (by omega)]
  simp
theorem gSwap_at {d:α} {F:Nat} {e:E} {P X M Y S:List α} {a b c:Int} {l:List α} (hl:l = P ++ X ++ M ++ Y ++ S) (h:X.length = Y.length) (hF:X.length < F) (hb:l.length < 4611686018427387904) (ha:a = P.length) (hb2:b = (P.length:Int) + X.length + M.length) (hc:c = X.length) :
  gSwap d F (a,b,c,l,e) = some (P ++ Y ++ M ++ X ++ S) := by
 unfold gSwap
 subst hl
 simp only
 rw [swap_loop X Y P M S 0 F h hF rfl hb (by omega) (by omega) (by omega) (by omega) (by omega)]
 rfl
theorem fitG_ok {X:Type} {n m:Nat} {x:X} (h:n = m):fitG n m x = some x := by
 unfold fitG
 rw [decide_eq_true h]
 rfl
theorem rot_loop {d:α} {F:Nat} {e:E} {n:Nat} {m:Int} (hn:n < 4611686018427387904) (hnF:n < F):∀ (G:Nat) (P X Y S:List α),X.length + Y.length < G → 0 < X.length → 0 < Y.length → n = (P ++ X ++ Y ++ S).length → m = (P.length:Int) + X.length →
  ∃ P' X' Y' S',loopO (rotI d F e n m) G (P ++ X ++ Y ++ S,(X.length:Int),(Y.length:Int)) = some (P' ++ X' ++ Y' ++ S',(X'.length:Int)) ∧ X'.length = Y'.length ∧ P ++ Y ++ X ++ S = P' ++ Y' ++ X' ++ S' ∧ m = (P'.length:Int) + X'.length ∧ n = (P' ++ X' ++ Y' ++ S').length
 | 0,P,X,Y,S,hG,_,_,_,_=>by omega
 | G + 1,P,X,Y,S,hG,h1,h2,hl,hm=>by
  by_cases he:X.length = Y.length
  ·refine ⟨P,X,Y,S,?_,he,rfl,hm,hl⟩
   simp only [loopO,rotI]
   rw [decide_eq_true (by omega)]
   rfl
  ·have hne:¬ ((X.length:Int) = (Y.length:Int)) := by omega
   by_cases hlt:Y.length < X.length
   ·
    have hX:X = X.take Y.length ++ X.drop Y.length := by simp
    have hx1:(X.take Y.length).length = Y.length := by simp; omega
    have hx2:(X.drop Y.length).length = X.length - Y.length := by simp
    generalize hX1:X.take Y.length = X1 at hX hx1
    generalize hX2:X.drop Y.length = X2 at hX hx2
    have hll:(P ++ X ++ Y ++ S).length = P.length + X.length + Y.length + S.length := by simp; omega
    have w1:w64 (m - (X.length:Int)) = m - X.length := w64_in (by omega) (by omega)
    have w2:w64 ((X.length:Int) - Y.length) = (X2.length:Int) := by rw [w64_in (by omega) (by omega)]; omega
    have hs:rotI d F e n m (P ++ X ++ Y ++ S,(X.length:Int),(Y.length:Int)) = some (.inl (P ++ Y ++ X2 ++ X1 ++ S,(X2.length:Int),(X1.length:Int))) := by
     unfold rotI
     rw [decide_eq_false hne]
     simp only [Bool.not_false,cond_true]
     rw [cd_pos (by omega),fitG_ok (by omega)]
     simp only [Option.bind_some,w1,w2]
     rw [gSwap_at (a := m - X.length) (b := m) (c := Y.length) (l := P ++ X ++ Y ++ S) (P := P) (X := X1) (M := X2) (Y := Y) (S := S) (by rw [hX]; simp) (by omega) (by omega) (by omega) (by omega) (by omega) (by omega)]
     simp only [Option.bind_some,hx1]
    simp only [loopO,hs]
    obtain ⟨P',X',Y',S',g1,g2,g3,g4,g5⟩ := rot_loop (d := d) (e := e) (m := m) hn hnF G (P ++ Y) X2 X1 S (by omega) (by omega) (by omega) (by rw [hl,hll]; simp only [List.length_append]; omega) (by simp only [List.length_append]; omega)
    exact ⟨P',X',Y',S',g1,g2,by rw [← g3,hX]; simp,g4,g5⟩
   ·have hY:Y = Y.take (Y.length - X.length) ++ Y.drop (Y.length - X.length) := by simp
    have hy1:(Y.take (Y.length - X.length)).length = Y.length - X.length := by simp
    have hy2:(Y.drop (Y.length - X.length)).length = X.length := by simp; omega
    generalize hY1:Y.take (Y.length - X.length) = Y1 at hY hy1
    generalize hY2:Y.drop (Y.length - X.length) = Y2 at hY hy2
    have hll:(P ++ X ++ Y ++ S).length = P.length + X.length + Y.length + S.length := by simp; omega
    have w1:w64 (m - (X.length:Int)) = m - X.length := w64_in (by omega) (by omega)
    have w2:w64 (m + (Y.length:Int)) = m + Y.length := w64_in (by omega) (by omega)
    have w3:w64 (m + (Y.length:Int) - X.length) = m + Y.length - X.length := w64_in (by omega) (by omega)
    have w4:w64 ((Y.length:Int) - X.length) = (Y1.length:Int) := by rw [w64_in (by omega) (by omega)]; omega
    have hs:rotI d F e n m (P ++ X ++ Y ++ S,(X.length:Int),(Y.length:Int)) = some (.inl (P ++ Y2 ++ Y1 ++ (X ++ S),(Y2.length:Int),(Y1.length:Int))) := by
     unfold rotI
     rw [decide_eq_false hne]
     simp only [Bool.not_false,cond_true]
     rw [cd_neg (by omega),fitG_ok (by omega)]
     simp only [Option.bind_some,w1,w2,w3,w4]
     rw [gSwap_at (a := m - X.length) (b := m + Y.length - X.length) (c := X.length) (l := P ++ X ++ Y ++ S) (P := P) (X := X) (M := Y1) (Y := Y2) (S := S) (by rw [hY]; simp) (by omega) (by omega) (by omega) (by omega) (by omega) (by omega)]
     simp only [Option.bind_some,hy2]
     simp
    simp only [loopO,hs]
    obtain ⟨P',X',Y',S',g1,g2,g3,g4,g5⟩ := rot_loop (d := d) (e := e) (m := m) hn hnF G P Y2 Y1 (X ++ S) (by omega) (by omega) (by omega) (by rw [hl,hll]; simp only [List.length_append]; omega) (by omega)
    exact ⟨P',X',Y',S',g1,g2,by rw [← g3,hY]; simp,g4,g5⟩
theorem gRot_at {d:α} {F:Nat} {e:E} {P X Y S:List α} {a m b:Int} {l:List α} (hl:l = P ++ X ++ Y ++ S) (h1:0 < X.length) (h2:0 < Y.length) (hF:l.length < F) (hb:l.length < 4611686018427387904) (ha:a = P.length) (hm:m = (P.length:Int) + X.length) (hb2:b = (P.length:Int) + X.length + Y.length) :
  gRot d F (a,m,b,l,e) = some (P ++ Y ++ X ++ S) := by
 have hll:l.length = P.length + X.length + Y.length + S.length := by rw [hl]; simp; omega
 unfold gRot
 simp only
 rw [w64_in (by omega) (by omega),w64_in (by omega) (by omega),show m - a = (X.length:Int) by omega,show b - m = (Y.length:Int) by omega]
 obtain ⟨P',X',Y',S',g1,g2,g3,g4,g5⟩ := rot_loop (d := d) (e := e) (n := l.length) (m := m) hb hF F P X Y S (by omega) h1 h2 (by rw [hl]) hm
 rw [← hl] at g1
 rw [g1]
 have hll':l.length = P'.length + X'.length + Y'.length + S'.length := by rw [g5]; simp; omega
 simp only [Option.bind_some]
 rw [fitG_ok g5]
 simp only [Option.bind_some]
 rw [w64_in (by omega) (by omega),gSwap_at (a := m - X'.length) (b := m) (c := X'.length) (l := P' ++ X' ++ Y' ++ S') (P := P') (X := X') (M := []) (Y := Y') (S := S') (by simp) g2 (by omega) (by omega) (by omega) (by simp; omega) (by omega)]
 simp only [Option.bind_some,g3]
 simp
end Go.Sx
end
section
namespace Go.Sx
open Go
variable {α E β:Type}
def CmpOk (cmp:α × α × E → Option Int) (e:E) (lt:α → α → Bool) (D:α → Prop):Prop := ∀ x y,D x → D y → ∃ v,cmp (x,y,e) = some v ∧ decide (v < 0) = lt x y
theorem insI_loop {cmp:α × α × E → Option Int} {e:E} {lt:α → α → Bool} {D:α → Prop} (hc:CmpOk cmp e lt D) {d:α} {n:Nat} {a:Int} {P:List α} {v:α} (hv:D v) (ha:a = P.length) (hb:n < 4611686018427387904) :
  ∀ (T R:List α) (F:Nat),(∀ x ∈ T,D x) → T.length < F → n = (P ++ T.reverse ++ v :: R).length → ∃ T1 T2,T = T2 ++ T1 ∧ loopO (insI cmp e n d a) F (P ++ T.reverse ++ v :: R,(P.length:Int) + T.length) = some (P ++ T1.reverse ++ v :: (T2.reverse ++ R)) ∧ (∀ y ∈ T2,lt v y = true) ∧ (∀ y ∈ T1.head?,lt v y = false)
 | T,R,0,_,hF,_=>by omega
 | [],R,F + 1,hD,hF,hn=>by
  refine ⟨[],[],rfl,?_,by simp,by simp⟩
  simp only [loopO,insI,List.length_nil]
  rw [cd_neg (by omega)]
  simp
 | x :: T,R,F + 1,hD,hF,hn=>by
  have hx:D x := hD x (by simp)
  obtain ⟨w,hw,hlt⟩ := hc v x hv hx
  have hlen:(P ++ (x :: T).reverse ++ v :: R).length = n := hn.symm
  have hln:P.length + T.length + 1 + 1 + R.length = n := by rw [hn]; simp; omega
  have e1:(P ++ (x :: T).reverse ++ v :: R)[P.length + T.length + 1]? = some v := by
   rw [List.getElem?_append_right (by simp; omega)]
   simp; rw [show P.length + T.length + 1 - (P.length + (T.length + 1)) = 0 by omega]; rfl
  have e2:(P ++ (x :: T).reverse ++ v :: R)[P.length + T.length]? = some x := by
   rw [show P ++ (x :: T).reverse ++ v :: R = (P ++ T.reverse) ++ x :: (v :: R) by simp,List.getElem?_append_right (by simp)]
   simp
  have hcm:∀ k:Int → Option Bool,cmpG cmp e n d (P ++ (x :: T).reverse ++ v :: R) ((P.length:Int) + (x :: T).length) (w64 ((P.length:Int) + (x :: T).length - 1)) k = k w := fun k=>by
   have hw1:w64 ((P.length:Int) + (x :: T).length - 1) = (P.length:Int) + T.length := by rw [List.length_cons,w64_in (by omega) (by omega)]; omega
   rw [hw1]
   refine cmpG_at hlen (by omega) ?_ (by omega) ?_ hw
   ·rw [← e1]; congr 1
   ·rw [← e2]; congr 1
  by_cases hl:lt v x = true
  ·have hs:insI cmp e n d a (P ++ (x :: T).reverse ++ v :: R,(P.length:Int) + (x :: T).length) = some (.inl (P ++ T.reverse ++ v :: (x :: R),(P.length:Int) + T.length)) := by
    unfold insI
    simp only
    rw [cd_pos (by simp; omega),hcm]
    simp only [Option.bind_some,hlt,hl,cond_true]
    have hw1:w64 ((P.length:Int) + (x :: T).length - 1) = (P.length:Int) + T.length := by rw [List.length_cons,w64_in (by omega) (by omega)]; omega
    rw [hw1,swapG_ta (L := P ++ T.reverse) (x := x) (M := []) (y := v) (R := R) (by simp) hlen (by simp) (by simp; omega)]
    simp
   simp only [loopO,hs]
   obtain ⟨T1,T2,g1,g2,g3,g4⟩ := insI_loop hc hv ha hb T (x :: R) F (fun y hy=>hD y (by simp [hy])) (by simp at hF; omega) (by rw [hn]; simp)
   refine ⟨T1,x :: T2,by simp [g1],by rw [g2]; simp,?_,g4⟩
   intro y hy
   rcases List.mem_cons.1 hy with rfl | hy
   ·exact hl
   ·exact g3 y hy
  ·have hl:lt v x = false := by simpa using hl
   refine ⟨x :: T,[],rfl,?_,by simp,by simpa using hl⟩
   have hs:insI cmp e n d a (P ++ (x :: T).reverse ++ v :: R,(P.length:Int) + (x :: T).length) = some (.inr (P ++ (x :: T).reverse ++ v :: R)) := by
    unfold insI
    simp only
    rw [cd_pos (by simp; omega),hcm]
    simp only [Option.bind_some,hlt,hl,cond_false]
   simp only [loopO,hs]
   simp
theorem insO_loop {cmp:α × α × E → Option Int} {e:E} {lt:α → α → Bool} {D:α → Prop} (ho:LtOn lt D) (hc:CmpOk cmp e lt D) {d:α} {n:Nat} {a b:Int} {P R:List α} (ha:a = P.length) (hb:n < 4611686018427387904) {F:Nat} (hF:n < F) :
  ∀ (U O S:List α) (G:Nat),(∀ x ∈ O ++ U,D x) → U.length < G → StabS lt O S → n = (P ++ S ++ U ++ R).length → b = (P.length:Int) + S.length + U.length → ∃ S',loopO (insO cmp F e n d a b) G (P ++ S ++ U ++ R,(P.length:Int) + S.length) = some (P ++ S' ++ R) ∧ StabS lt (O ++ U) S'
 | U,O,S,0,_,hG,_,_,_=>by omega
 | [],O,S,G + 1,hD,hG,hs,hn,hb=>by
  refine ⟨S,?_,by simpa using hs⟩
  simp only [loopO,insO]
  rw [cd_neg (by simp at hb; omega)]
  simp
 | u :: U,O,S,G + 1,hD,hG,hs,hn,hb=>by
  have hlen:P.length + S.length + 1 + U.length + R.length = n := by rw [hn]; simp; omega
  have hDS:∀ x ∈ S,D x := fun x hx=>hD x (by simp [hs.mem.1 hx])
  have hu:D u := hD u (by simp)
  obtain ⟨T1,T2,g1,g2,g3,g4⟩ := insI_loop hc (d := d) (n := n) (a := a) (P := P) hu ha (by omega) S.reverse (U ++ R) F (fun x hx=>hDS x (by simpa using hx)) (by simp; omega) (by rw [hn]; simp)
  have hS:S = T1.reverse ++ T2.reverse := by rw [← List.reverse_append,← g1,List.reverse_reverse]
  have hstep:insO cmp F e n d a b (P ++ S ++ u :: U ++ R,(P.length:Int) + S.length) = some (.inl (P ++ (T1.reverse ++ u :: T2.reverse) ++ U ++ R,(P.length:Int) + (T1.reverse ++ u :: T2.reverse).length)) := by
   unfold insO
   rw [cd_pos (by simp at hb ⊢; omega)]
   simp only [List.reverse_reverse,List.length_reverse] at g2
   have e1:P ++ S ++ u :: U ++ R = P ++ S ++ u :: (U ++ R) := by simp
   rw [e1,g2,Option.bind_some,w64_in (by simp only; omega) (by simp only; omega)]
   simp only [Option.some.injEq,Sum.inl.injEq,Prod.mk.injEq]
   refine ⟨by simp,?_⟩
   rw [hS]; simp; omega
  simp only [loopO,hstep]
  have hp := hs.2.1
  rw [hS] at hp
  have hq:∀ y ∈ T1.reverse,leB lt y u := by
   intro y hy
   cases hT:T1 with
   | nil=>rw [hT] at hy; simp at hy
   | cons z T =>
    have hz:leB lt z u := g4 z (by rw [hT]; simp)
    have hzD:D z := hDS z (by rw [hS,hT]; simp)
    rw [hT] at hy hp
    simp only [List.reverse_cons,List.mem_append,List.mem_singleton] at hy
    rcases hy with hy | rfl
    ·have hyz:leB lt y z := by
      rw [List.pairwise_append] at hp
      have := hp.1
      rw [List.reverse_cons,List.pairwise_append] at this
      exact this.2.2 y hy z (by simp)
     exact ho.le_trans (hDS y (by rw [hS,hT]; simp at hy ⊢; simp [hy])) hzD hu hyz hz
    ·exact hz
  have hst:StabS lt (O ++ [u]) (T1.reverse ++ u :: T2.reverse) := by
   refine StabS.both ho (l1 := O) (l2 := [u]) (d1 := S) (d2 := [u]) (fun x hx=>hD x (by simp at hx ⊢; rcases hx with hx | hx <;> simp [hx])) hs (.self (by simp)) ?_
   rw [hS]
   exact StabS.put ho (fun y hy=>by
    simp only [List.mem_append,List.mem_singleton] at hy
    rcases hy with hy | rfl
    ·exact hDS y (by rw [hS]; simpa using hy)
    ·exact hu) hp hq (fun y hy=>g3 y (by simpa using hy))
  obtain ⟨S',k1,k2⟩ := insO_loop (d := d) (n := n) (a := a) (b := b) (P := P) (R := R) ho hc ha (by omega) hF U (O ++ [u]) (T1.reverse ++ u :: T2.reverse) G (by simpa using hD) (by simp at hG; omega) hst
   (by rw [hn,hS]; simp; omega) (by rw [hb,hS]; simp; omega)
  exact ⟨S',k1,by simpa using k2⟩
theorem gIns_at {cmp:α × α × E → Option Int} {e:E} {lt:α → α → Bool} {D:α → Prop} (ho:LtOn lt D) (hc:CmpOk cmp e lt D) {d:α} {F:Nat} {P X R:List α} {a b:Int} {l:List α} (hl:l = P ++ X ++ R) (hD:∀ x ∈ X,D x) (hF:l.length < F) (hb:l.length < 4611686018427387904) (ha:a = P.length) (hb2:b = (P.length:Int) + X.length) :
  ∃ S,gIns cmp d F (a,b,l,e) = some (P ++ S ++ R) ∧ StabS lt X S := by
 have hll:l.length = P.length + X.length + R.length := by rw [hl]; simp; omega
 unfold gIns
 simp only
 rw [w64_in (by omega) (by omega)]
 cases X with
 | nil =>
  refine ⟨[],?_,.nil⟩
  obtain ⟨G,rfl⟩:∃ G,F = G + 1 := ⟨F - 1,by omega⟩
  simp only [loopO,insO]
  rw [cd_neg (by simp at hb2; omega),hl]
  simp
 | cons x X =>
  obtain ⟨S',k1,k2⟩ := insO_loop ho hc (d := d) (n := l.length) (a := a) (b := b) (P := P) (R := R) ha hb hF X [x] [x] F (by simpa using hD) (by simp at hll; omega) (.self (by simp)) (by rw [hl]; simp) (by rw [hb2]; simp; omega)
  have e1:l = P ++ [x] ++ X ++ R := by rw [hl]; simp
  rw [ha]
  have e2:((P.length:Int) + 1) = (P.length:Int) + ([x]:List α).length := by simp
  rw [ha] at k1
  rw [e2]
  conv at k1=>lhs; rw [← e1]
  rw [k1]
  exact ⟨S',rfl,by simpa using k2⟩
def bs1 (cmp:α × α × E → Option Int) (d:α) (a:Int × Int × Int × List α × E) (v72:Int × Int):Option (Int × Int ⊕ Int) :=
 bif decide (v72.1 < v72.2) then cmpG cmp a.2.2.2.2 (List.length a.2.2.2.1) d a.2.2.2.1 (half (w64 (v72.1 + v72.2))) a.1 (fun v73=>Option.bind (bif decide (v73 < (0:Int)) then some (w64 (half (w64 (v72.1 + v72.2)) + (1:Int)),v72.2) else some (v72.1,half (w64 (v72.1 + v72.2)))) fun v74=>some (Sum.inl (v74.1,v74.2))) else some (Sum.inr v72.1)
def bs2 (cmp:α × α × E → Option Int) (d:α) (a:Int × Int × Int × List α × E) (v78:Int × Int):Option (Int × Int ⊕ Int) :=
 bif decide (v78.1 < v78.2) then cmpG cmp a.2.2.2.2 (List.length a.2.2.2.1) d a.2.2.2.1 a.2.1 (half (w64 (v78.1 + v78.2))) (fun v79=>Option.bind (bif !decide (v79 < (0:Int)) then some (w64 (half (w64 (v78.1 + v78.2)) + (1:Int)),v78.2) else some (v78.1,half (w64 (v78.1 + v78.2)))) fun v80=>some (Sum.inl (v80.1,v80.2))) else some (Sum.inr v78.1)
def bs3 (cmp:α × α × E → Option Int) (d:α) (a:Int × Int × Int × List α × E) (v95:Int × Int):Option (Int × Int ⊕ Int) :=
 bif decide (v95.1 < v95.2) then cmpG cmp a.2.2.2.2 (List.length a.2.2.2.1) d a.2.2.2.1 (w64 (w64 (w64 (half (w64 (a.1 + a.2.2.1)) + a.2.1) - (1:Int)) - half (w64 (v95.1 + v95.2)))) (half (w64 (v95.1 + v95.2))) (fun v96=>Option.bind (bif !decide (v96 < (0:Int)) then some (w64 (half (w64 (v95.1 + v95.2)) + (1:Int)),v95.2) else some (v95.1,half (w64 (v95.1 + v95.2)))) fun v97=>some (Sum.inl (v97.1,v97.2))) else some (Sum.inr v95.1)
def upI (n:Nat) (d:α) (c:Int) (v71:List α × Int):Option (List α × Int ⊕ List α) :=
 bif decide (v71.2 < w64 (c - (1:Int))) then swapG n d v71.1 v71.2 (w64 (v71.2 + (1:Int))) (fun l=>some (Sum.inl (l,w64 (v71.2 + (1:Int))))) else some (Sum.inr v71.1)
def dnI (n:Nat) (d:α) (c:Int) (v77:List α × Int):Option (List α × Int ⊕ List α) :=
 bif decide (c < v77.2) then swapG n d v77.1 v77.2 (w64 (v77.2 - (1:Int))) (fun l=>some (Sum.inl (l,w64 (v77.2 - (1:Int))))) else some (Sum.inr v77.1)
def symC (d:α) (F:Nat) (g:Int × Int × Int × List α × E → Option (List α)) (a:Int × Int × Int × List α × E) (v82:Int):Option (List α) :=
 Option.bind (bif decide (v82 < a.2.1) then some (decide (a.2.1 < w64 (w64 (half (w64 (a.1 + a.2.2.1)) + a.2.1) - v82))) else some false) fun v83 =>
 Option.bind (bif v83 then Option.bind (fitG (List.length a.2.2.2.1) (List.length a.2.2.2.1) (v82,a.2.1,w64 (w64 (half (w64 (a.1 + a.2.2.1)) + a.2.1) - v82),a.2.2.2.1,a.2.2.2.2)) fun v93=>Option.bind (gRot d F v93) fun v94=>some v94 else some a.2.2.2.1) fun v84 =>
 Option.bind (bif decide (a.1 < v82) then some (decide (v82 < half (w64 (a.1 + a.2.2.1)))) else some false) fun v85 =>
 Option.bind (bif v85 then Option.bind (fitG (List.length a.2.2.2.1) (List.length v84) (a.1,v82,half (w64 (a.1 + a.2.2.1)),v84,a.2.2.2.2)) fun v91=>Option.bind (g v91) fun v92=>some v92 else some v84) fun v86 =>
 Option.bind (bif decide (half (w64 (a.1 + a.2.2.1)) < w64 (w64 (half (w64 (a.1 + a.2.2.1)) + a.2.1) - v82)) then some (decide (w64 (w64 (half (w64 (a.1 + a.2.2.1)) + a.2.1) - v82) < a.2.2.1)) else some false) fun v87 =>
 Option.bind (bif v87 then Option.bind (fitG (List.length a.2.2.2.1) (List.length v86) (half (w64 (a.1 + a.2.2.1)),w64 (w64 (half (w64 (a.1 + a.2.2.1)) + a.2.1) - v82),a.2.2.1,v86,a.2.2.2.2)) fun v89=>Option.bind (g v89) fun v90=>some v90 else some v86) fun v88=>some v88
def symB (cmp:α × α × E → Option Int) (d:α) (F:Nat) (g:Int × Int × Int × List α × E → Option (List α)) (a:Int × Int × Int × List α × E):Option (List α) :=
 bif decide (w64 (a.2.1 - a.1) = (1:Int)) then Option.bind (loopO (bs1 cmp d a) F (a.2.1,a.2.2.1)) fun v69=>Option.bind (loopO (upI (List.length a.2.2.2.1) d v69) F (a.2.2.2.1,a.1)) fun v70=>some v70
 else bif decide (w64 (a.2.2.1 - a.2.1) = (1:Int)) then Option.bind (loopO (bs2 cmp d a) F (a.1,a.2.1)) fun v75=>Option.bind (loopO (dnI (List.length a.2.2.2.1) d v75) F (a.2.2.2.1,a.2.1)) fun v76=>some v76
 else Option.bind (bif decide (half (w64 (a.1 + a.2.2.1)) < a.2.1) then some (w64 (w64 (half (w64 (a.1 + a.2.2.1)) + a.2.1) - a.2.2.1),half (w64 (a.1 + a.2.2.1))) else some (a.1,a.2.1)) fun v81=>Option.bind (loopO (bs3 cmp d a) F (v81.1,v81.2)) fun v82=>symC d F g a v82
noncomputable def gSym (cmp:α × α × E → Option Int) (d:α) (F n:Nat):Int × Int × Int × List α × E → Option (List α) := Nat.rec (motive := fun _=>Int × Int × Int × List α × E → Option (List α)) (fun _=>none) (fun _ ih=>symB cmp d F ih) n
theorem bs_loop {step:Int × Int → Option (Int × Int ⊕ Int)} {lo hi:Nat} {p:Nat → Bool} (mono:∀ h k,lo ≤ h → h < k → k < hi → p k = true → p h = true)
  (hstep:∀ i j:Nat,lo ≤ i → i < j → j ≤ hi → step ((i:Int),(j:Int)) = some (.inl (if p ((i + j) / 2) = true then ((((i + j) / 2 + 1:Nat):Int),(j:Int)) else ((i:Int),(((i + j) / 2:Nat):Int)))))
  (hend:∀ i:Nat,step ((i:Int),(i:Int)) = some (.inr (i:Int))) :
  ∀ (F i j:Nat),lo ≤ i → i ≤ j → j ≤ hi → j - i < F → (∀ k,lo ≤ k → k < i → p k = true) → (∀ k,j ≤ k → k < hi → p k = false) →
  ∃ r:Nat,loopO step F ((i:Int),(j:Int)) = some (r:Int) ∧ lo ≤ r ∧ r ≤ hi ∧ (∀ k,lo ≤ k → k < r → p k = true) ∧ (∀ k,r ≤ k → k < hi → p k = false)
 | 0,i,j,h1,h2,h3,hF,_,_=>by omega
 | F + 1,i,j,h1,h2,h3,hF,ha,hb=>by
  by_cases hij:i = j
  ·subst hij
   simp only [loopO,hend]
   exact ⟨i,rfl,h1,h3,ha,hb⟩
  ·have hlt:i < j := by omega
   have hs := hstep i j h1 hlt h3
   by_cases hp:p ((i + j) / 2) = true
   ·rw [if_pos hp] at hs
    simp only [loopO,hs]
    refine bs_loop mono hstep hend F ((i + j) / 2 + 1) j (by omega) (by omega) h3 (by omega) (fun k hk1 hk2=>?_) hb
    by_cases e:k = (i + j) / 2
    ·rw [e]; exact hp
    ·exact mono k ((i + j) / 2) hk1 (by omega) (by omega) hp
   ·have hp':p ((i + j) / 2) = false := by simpa using hp
    rw [if_neg hp] at hs
    simp only [loopO,hs]
    refine bs_loop mono hstep hend F i ((i + j) / 2) h1 (by omega) (by omega) (by omega) ha (fun k hk1 hk2=>?_)
    by_cases e:k = (i + j) / 2
    ·rw [e]; exact hp'
    ·cases e2:p k with
     | false=>rfl
     | true=>rw [mono ((i + j) / 2) k (by omega) (by omega) hk2 e2] at hp'; cases hp'
theorem up_loop {d:α} {n:Nat} {c:Int} (hb:n < 4611686018427387904) (hc1:0 ≤ c) (hc2:c ≤ n):∀ (B P R:List α) (v:α) (F:Nat),B.length < F → n = (P ++ v :: (B ++ R)).length → c - 1 = (P.length:Int) + B.length →
  loopO (upI n d c) F (P ++ v :: (B ++ R),(P.length:Int)) = some (P ++ B ++ v :: R)
 | B,P,R,v,0,hF,_,_=>by omega
 | [],P,R,v,F + 1,hF,hn,hc=>by
  simp only [loopO,upI]
  rw [w64_in (by omega) (by omega),cd_neg (by simp at hc; omega)]
  simp
 | b :: B,P,R,v,F + 1,hF,hn,hc=>by
  have hll:P.length + B.length + 2 + R.length = n := by rw [hn]; simp; omega
  have hs:upI n d c (P ++ v :: (b :: B ++ R),(P.length:Int)) = some (.inl (P ++ [b] ++ v :: (B ++ R),((P ++ [b]).length:Int))) := by
   unfold upI
   simp only
   rw [w64_in (n := c - 1) (by omega) (by omega),cd_pos (by simp at hc; omega),w64_in (by omega) (by omega),swapG_at (L := P) (x := v) (M := []) (y := b) (R := B ++ R) (by simp) hn.symm rfl (by simp)]
   simp
  simp only [loopO,hs]
  rw [up_loop hb hc1 hc2 B (P ++ [b]) R v F (by simp at hF; omega) (by rw [hn]; simp) (by simp at hc ⊢; omega)]
  simp
theorem dn_loop {d:α} {n:Nat} {c:Int} (hb:n < 4611686018427387904):∀ (T P R:List α) (v:α) (F:Nat),T.length < F → n = (P ++ T.reverse ++ v :: R).length → c = (P.length:Int) →
  loopO (dnI n d c) F (P ++ T.reverse ++ v :: R,(P.length:Int) + T.length) = some (P ++ v :: (T.reverse ++ R))
 | T,P,R,v,0,hF,_,_=>by omega
 | [],P,R,v,F + 1,hF,hn,hc=>by
  simp only [loopO,dnI]
  rw [cd_neg (by simp; omega)]
  simp
 | x :: T,P,R,v,F + 1,hF,hn,hc=>by
  have hll:P.length + T.length + 2 + R.length = n := by rw [hn]; simp; omega
  have hs:dnI n d c (P ++ (x :: T).reverse ++ v :: R,(P.length:Int) + (x :: T).length) = some (.inl (P ++ T.reverse ++ v :: (x :: R),(P.length:Int) + T.length)) := by
   unfold dnI
   simp only
   rw [cd_pos (by simp; omega),List.length_cons,w64_in (by omega) (by omega),swapG_ta (L := P ++ T.reverse) (x := x) (M := []) (y := v) (R := R) (by simp) hn.symm (by simp; omega) (by simp; omega)]
   simp
   omega
  simp only [loopO,hs]
  rw [dn_loop hb T P (x :: R) v F (by simp at hF; omega) (by rw [hn]; simp) hc]
  simp
end Go.Sx
end
section
namespace Go.Sx
open Go
variable {α E β:Type}
theorem seg_take {l P X Q:List α} {d x:α} {k:Nat} (hl:l = P ++ X ++ Q) (h:x ∈ X.take k):∃ i,P.length ≤ i ∧ i < P.length + k ∧ i < P.length + X.length ∧ l.getD i d = x := by
 obtain ⟨j,hj,rfl⟩ := List.getElem_of_mem h
 simp only [List.length_take] at hj
 refine ⟨P.length + j,by omega,by omega,by omega,?_⟩
 refine getD_some ?_
 rw [hl,List.append_assoc,List.getElem?_append_right (by omega),List.getElem?_append_left (by omega)]
 rw [show P.length + j - P.length = j by omega,List.getElem_take,List.getElem?_eq_getElem]
theorem seg_drop {l P X Q:List α} {d x:α} {k:Nat} (hl:l = P ++ X ++ Q) (h:x ∈ X.drop k):∃ i,P.length + k ≤ i ∧ i < P.length + X.length ∧ l.getD i d = x := by
 obtain ⟨j,hj,rfl⟩ := List.getElem_of_mem h
 simp only [List.length_drop] at hj
 refine ⟨P.length + (k + j),by omega,by omega,?_⟩
 refine getD_some ?_
 rw [hl,List.append_assoc,List.getElem?_append_right (by omega),List.getElem?_append_left (by omega)]
 rw [show P.length + (k + j) - P.length = k + j by omega,List.getElem_drop,List.getElem?_eq_getElem]
theorem seg_sorted {lt:α → α → Bool} {l P X Q:List α} {d:α} (hl:l = P ++ X ++ Q) (h:X.Pairwise (leB lt)) {i k:Nat} (h1:P.length ≤ i) (h2:i < k) (h3:k < P.length + X.length):leB lt (l.getD i d) (l.getD k d) := by
 have hi:i - P.length < X.length := by omega
 have hk:k - P.length < X.length := by omega
 have e:∀ j,P.length ≤ j → (hj:j - P.length < X.length) → l.getD j d = X[j - P.length] := fun j h1 hj=>by
  refine getD_some ?_
  rw [hl,List.append_assoc,List.getElem?_append_right h1,List.getElem?_append_left hj,List.getElem?_eq_getElem]
 rw [e i h1 hi,e k (by omega) hk]
 exact List.pairwise_iff_getElem.1 h _ _ hi hk (by omega)
theorem seg_mem {l P X Q:List α} {d:α} (hl:l = P ++ X ++ Q) {i:Nat} (h1:P.length ≤ i) (h2:i < P.length + X.length):l.getD i d ∈ X := by
 have hi:i - P.length < X.length := by omega
 have:l.getD i d = X[i - P.length] := by
  refine getD_some ?_
  rw [hl,List.append_assoc,List.getElem?_append_right h1,List.getElem?_append_left hi,List.getElem?_eq_getElem]
 rw [this]
 exact List.getElem_mem hi
theorem get_getD {l:List α} {d:α} {i:Nat} (h:i < l.length):l[i]? = some (l.getD i d) := by
 rw [List.getElem?_eq_getElem h,List.getD_eq_getElem?_getD,List.getElem?_eq_getElem h]; rfl
theorem leB_refl {lt:α → α → Bool} {D:α → Prop} (h:LtOn lt D) {x:α} (hx:D x):leB lt x x := h.irr hx
theorem symC_at {cmp:α × α × E → Option Int} {e:E} {lt:α → α → Bool} {D:α → Prop} (ho:LtOn lt D) {d:α} {F:Nat} {g:Int × Int × Int × List α × E → Option (List α)} {P A1 A2 B1 B2 R l:List α} {a m b st mid:Nat}
  (hl:l = P ++ (A1 ++ A2) ++ (B1 ++ B2) ++ R) (hF:l.length < F) (hb:l.length < 1152921504606846976) (ha:a = P.length) (hm:m = a + A1.length + A2.length) (hbb:b = m + B1.length + B2.length) (hst:st = a + A1.length) (hmid:mid = (a + b) / 2) (hmid2:mid = st + B1.length)
  (hg:∀ (P' A B R':List α) (a' m' b':Int),(P' ++ A ++ B ++ R').length = l.length → A.length + B.length < b - a → 0 < A.length → 0 < B.length → A.Pairwise (leB lt) → B.Pairwise (leB lt) → (∀ x ∈ A ++ B,D x) → a' = P'.length → m' = (P'.length:Int) + A.length → b' = (P'.length:Int) + A.length + B.length →
   ∃ L,g (a',m',b',P' ++ A ++ B ++ R',e) = some (P' ++ L ++ R') ∧ StabS lt (A ++ B) L)
  (hab:a + 2 ≤ b) (hD:∀ x ∈ A1 ++ A2 ++ (B1 ++ B2),D x) (hA:(A1 ++ A2).Pairwise (leB lt)) (hB:(B1 ++ B2).Pairwise (leB lt))
  (hlt:∀ b ∈ B1,∀ a ∈ A2,lt b a = true) (hle:∀ x ∈ A1 ++ B1,∀ y ∈ A2 ++ B2,leB lt x y) :
  ∃ L,symC d F g ((a:Int),(m:Int),(b:Int),l,e) (st:Int) = some (P ++ L ++ R) ∧ StabS lt (A1 ++ A2 ++ (B1 ++ B2)) L := by
 have hll:l.length = P.length + A1.length + A2.length + B1.length + B2.length + R.length := by rw [hl]; simp; omega
 have hA1 := (List.pairwise_append.1 hA).1
 have hA2 := (List.pairwise_append.1 hA).2.1
 have hB1 := (List.pairwise_append.1 hB).1
 have hB2 := (List.pairwise_append.1 hB).2.1
 unfold symC
 simp only
 have e1:half (w64 ((a:Int) + (b:Int))) = (mid:Int) := by
  rw [w64_in (by omega) (by omega),half_eq (by omega) (by omega)]; omega
 rw [e1]
 have e2:w64 (w64 ((mid:Int) + (m:Int)) - (st:Int)) = ((m + B1.length:Nat):Int) := by
  rw [w64_in (n := (mid:Int) + m) (by omega) (by omega),w64_in (by omega) (by omega)]; omega
 rw [e2]
 have h84:∀ k:List α → Option (List α),(Option.bind (bif decide ((st:Int) < (m:Int)) then some (decide ((m:Int) < ((m + B1.length:Nat):Int))) else some false) fun v83 =>
   Option.bind (bif v83 then Option.bind (fitG (List.length l) (List.length l) ((st:Int),(m:Int),((m + B1.length:Nat):Int),l,e)) fun v93=>Option.bind (gRot d F v93) fun v94=>some v94 else some l) k) = k (P ++ A1 ++ B1 ++ A2 ++ B2 ++ R) := by
  intro k
  by_cases h1:st < m
  ·rw [cd_pos (by omega)]
   simp only [Option.bind_some]
   by_cases h2:0 < B1.length
   ·rw [cd_pos (by omega),fitG_ok rfl]
    simp only [Option.bind_some]
    rw [gRot_at (P := P ++ A1) (X := A2) (Y := B1) (S := B2 ++ R) (by rw [hl]; simp) (by omega) h2 hF (by omega) (by simp; omega) (by simp; omega) (by simp; omega)]
    simp
   ·rw [cd_neg (by omega)]
    have:B1 = [] := List.length_eq_zero_iff.1 (by omega)
    subst this
    rw [hl]; simp
  ·rw [cd_neg (by omega)]
   simp only [Option.bind_some,cond_false]
   have:A2 = [] := List.length_eq_zero_iff.1 (by omega)
   subst this
   rw [hl]; simp
 rw [h84]
 have hD1:∀ x ∈ A1 ++ B1,D x := fun x hx=>hD x (by simp only [List.mem_append] at hx ⊢; rcases hx with hx | hx <;> simp [hx])
 have hD2:∀ x ∈ A2 ++ B2,D x := fun x hx=>hD x (by simp only [List.mem_append] at hx ⊢; rcases hx with hx | hx <;> simp [hx])
 have h86:∃ L1,StabS lt (A1 ++ B1) L1 ∧ ∀ k:List α → Option (List α),(Option.bind (bif decide ((a:Int) < (st:Int)) then some (decide ((st:Int) < (mid:Int))) else some false) fun v85 =>
   Option.bind (bif v85 then Option.bind (fitG (List.length l) (List.length (P ++ A1 ++ B1 ++ A2 ++ B2 ++ R)) ((a:Int),(st:Int),(mid:Int),P ++ A1 ++ B1 ++ A2 ++ B2 ++ R,e)) fun v91=>Option.bind (g v91) fun v92=>some v92 else some (P ++ A1 ++ B1 ++ A2 ++ B2 ++ R)) k) = k (P ++ L1 ++ A2 ++ B2 ++ R) := by
  by_cases h1:a < st
  ·by_cases h2:st < mid
   ·obtain ⟨L1,g1,g2⟩ := hg P A1 B1 (A2 ++ B2 ++ R) (a:Int) (st:Int) (mid:Int) (by rw [hl]; simp; omega) (by omega) (by omega) (by omega) hA1 hB1 hD1 (by omega) (by omega) (by omega)
    refine ⟨L1,g2,fun k=>?_⟩
    rw [cd_pos (by omega)]
    simp only [Option.bind_some]
    rw [cd_pos (by omega),fitG_ok (by rw [hl]; simp; omega)]
    simp only [Option.bind_some]
    rw [show P ++ A1 ++ B1 ++ A2 ++ B2 ++ R = P ++ A1 ++ B1 ++ (A2 ++ B2 ++ R) by simp,g1]
    simp
   ·have:B1 = [] := List.length_eq_zero_iff.1 (by omega)
    subst this
    refine ⟨A1,by simpa using StabS.self hA1,fun k=>?_⟩
    rw [cd_pos (by omega)]
    simp only [Option.bind_some]
    rw [cd_neg (by omega)]
    simp
  ·have:A1 = [] := List.length_eq_zero_iff.1 (by omega)
   subst this
   refine ⟨B1,by simpa using StabS.self hB1,fun k=>?_⟩
   rw [cd_neg (by omega)]
   simp
 obtain ⟨L1,hL1,h86⟩ := h86
 rw [h86]
 have hl1:L1.length = A1.length + B1.length := by rw [hL1.len]; simp
 have h88:∃ L2,StabS lt (A2 ++ B2) L2 ∧ (Option.bind (bif decide ((mid:Int) < ((m + B1.length:Nat):Int)) then some (decide (((m + B1.length:Nat):Int) < (b:Int))) else some false) fun v87 =>
   Option.bind (bif v87 then Option.bind (fitG (List.length l) (List.length (P ++ L1 ++ A2 ++ B2 ++ R)) ((mid:Int),((m + B1.length:Nat):Int),(b:Int),P ++ L1 ++ A2 ++ B2 ++ R,e)) fun v89=>Option.bind (g v89) fun v90=>some v90 else some (P ++ L1 ++ A2 ++ B2 ++ R)) fun v88=>some v88) = some (P ++ L1 ++ L2 ++ R) := by
  by_cases h1:mid < m + B1.length
  ·by_cases h2:m + B1.length < b
   ·obtain ⟨L2,g1,g2⟩ := hg (P ++ L1) A2 B2 R (mid:Int) ((m + B1.length:Nat):Int) (b:Int) (by simp; omega) (by omega) (by omega) (by omega) hA2 hB2 hD2 (by simp; omega) (by simp; omega) (by simp; omega)
    refine ⟨L2,g2,?_⟩
    rw [cd_pos (by omega)]
    simp only [Option.bind_some]
    rw [cd_pos (by omega),fitG_ok (by simp; omega)]
    simp only [Option.bind_some]
    rw [g1]
    simp
   ·have:B2 = [] := List.length_eq_zero_iff.1 (by omega)
    subst this
    refine ⟨A2,by simpa using StabS.self hA2,?_⟩
    rw [cd_pos (by omega)]
    simp only [Option.bind_some]
    rw [cd_neg (by omega)]
    simp
  ·have:A2 = [] := List.length_eq_zero_iff.1 (by omega)
   subst this
   refine ⟨B2,by simpa using StabS.self hB2,?_⟩
   rw [cd_neg (by omega)]
   simp
 obtain ⟨L2,hL2,h88⟩ := h88
 rw [h88]
 exact ⟨L1 ++ L2,by simp,StabS.join ho hD hL1 hL2 hlt hle⟩
theorem gSym_at {cmp:α × α × E → Option Int} {e:E} {lt:α → α → Bool} {D:α → Prop} (ho:LtOn lt D) (hc:CmpOk cmp e lt D) {d:α} {F:Nat}:∀ (N:Nat) (P A B R l:List α) (a m b:Int),l = P ++ A ++ B ++ R → l.length < F → l.length < 1152921504606846976 → A.length + B.length < N → 0 < A.length → 0 < B.length → A.Pairwise (leB lt) → B.Pairwise (leB lt) → (∀ x ∈ A ++ B,D x) →
  a = P.length → m = (P.length:Int) + A.length → b = (P.length:Int) + A.length + B.length → ∃ L,gSym cmp d F N (a,m,b,l,e) = some (P ++ L ++ R) ∧ StabS lt (A ++ B) L
 | 0,P,A,B,R,l,a,m,b,_,_,_,hN,_,_,_,_,_,_,_,_=>by omega
 | N + 1,P,A,B,R,l,a,m,b,hl,hF,hb,hN,hA0,hB0,hA,hB,hD,ha,hm,hbb=>by
  have hll:l.length = P.length + A.length + B.length + R.length := by rw [hl]; simp; omega
  show ∃ L,symB cmp d F (gSym cmp d F N) (a,m,b,l,e) = some (P ++ L ++ R) ∧ StabS lt (A ++ B) L
  have hlA:l = P ++ A ++ (B ++ R) := by rw [hl]; simp
  have hlB:l = (P ++ A) ++ B ++ R := hl
  have hPA:(P ++ A).length = P.length + A.length := by simp
  have sA:∀ {i k:Nat},P.length ≤ i → i < k → k < P.length + A.length → leB lt (l.getD i d) (l.getD k d) := fun h1 h2 h3=>seg_sorted hlA hA h1 h2 h3
  have sB:∀ {i k:Nat},P.length + A.length ≤ i → i < k → k < P.length + A.length + B.length → leB lt (l.getD i d) (l.getD k d) := fun h1 h2 h3=>seg_sorted hlB hB (by omega) h2 (by omega)
  have dA:∀ {i:Nat},P.length ≤ i → i < P.length + A.length → D (l.getD i d) := fun h1 h2=>hD _ (List.mem_append_left _ (seg_mem hlA h1 h2))
  have dB:∀ {i:Nat},P.length + A.length ≤ i → i < P.length + A.length + B.length → D (l.getD i d) := fun h1 h2=>hD _ (List.mem_append_right _ (seg_mem hlB (by omega) (by omega)))
  unfold symB
  simp only
  by_cases hA1:A.length = 1
  ·
   rw [w64_in (by omega) (by omega),cd_pos (by omega)]
   obtain ⟨v,rfl⟩ := List.length_eq_one_iff.1 hA1
   simp only [List.length_singleton] at *
   obtain ⟨r,g1,g2,g3,g4,g5⟩ := bs_loop (step := bs1 cmp d (a,m,b,l,e)) (lo := P.length + 1) (hi := P.length + 1 + B.length) (p := fun h=>lt (l.getD h d) (l.getD P.length d))
    (fun h k h1 h2 h3 h4=>by
     have := sB (i := h) (k := k) (by omega) h2 (by omega)
     exact ho.le_lt (dB (by omega) (by omega)) (dB (by omega) (by omega)) (dA (by omega) (by omega)) this h4)
    (fun i j h1 h2 h3=>by
     unfold bs1
     have hh:half (w64 ((i:Int) + (j:Int))) = (((i + j) / 2:Nat):Int) := by
      rw [w64_in (by omega) (by omega),half_eq (by omega) (by omega)]; omega
     obtain ⟨w,hw,hlt⟩ := hc (l.getD ((i + j) / 2) d) (l.getD P.length d) (dB (by omega) (by omega)) (dA (by omega) (by omega))
     simp only [hh]
     rw [cd_pos (by omega),cmpG_at rfl (by omega) (get_getD (by omega)) (by omega) (get_getD (by omega)) (by
      simp only [Int.toNat_natCast,ha]; exact hw)]
     rw [hlt,w64_in (by omega) (by omega)]
     generalize lt (l.getD ((i + j) / 2) d) (l.getD P.length d) = q
     cases q <;> simp)
    (fun i=>by unfold bs1; simp) F (P.length + 1) (P.length + 1 + B.length) (by omega) (by omega) (by omega) (by omega) (by intros; omega) (by intros; omega)
   rw [show m = ((P.length + 1:Nat):Int) by omega,show b = ((P.length + 1 + B.length:Nat):Int) by omega] at *
   rw [g1,Option.bind_some]
   have hBB:B = B.take (r - (P.length + 1)) ++ B.drop (r - (P.length + 1)) := by simp
   have hB1:(B.take (r - (P.length + 1))).length = r - (P.length + 1) := by simp; omega
   have hu := up_loop (d := d) (n := l.length) (c := (r:Int)) (by omega) (by omega) (by omega) (B.take (r - (P.length + 1))) P (B.drop (r - (P.length + 1)) ++ R) v F (by omega) (by rw [hl]; simp; omega) (by omega)
   have el:l = P ++ v :: (B.take (r - (P.length + 1)) ++ (B.drop (r - (P.length + 1)) ++ R)) := by
    rw [← List.append_assoc (B.take _),← hBB,hl]; simp
   rw [← el,← ha] at hu
   rw [hu]
   have hv:l.getD P.length d = v := by rw [hl,show P ++ [v] ++ B ++ R = P ++ v :: (B ++ R) by simp]; exact getD_mid rfl
   have hvD:D v := hD v (by simp)
   refine ⟨B.take (r - (P.length + 1)) ++ v :: B.drop (r - (P.length + 1)),by simp,?_⟩
   have hlt:∀ y ∈ B.take (r - (P.length + 1)),lt y v = true := fun y hy=>by
    obtain ⟨i,i1,i2,i3,rfl⟩ := seg_take (d := d) hlB hy
    have := g4 i (by omega) (by omega)
    rwa [hv] at this
   have hge:∀ y ∈ B.drop (r - (P.length + 1)),leB lt v y := fun y hy=>by
    obtain ⟨i,i1,i2,rfl⟩ := seg_drop (d := d) hlB hy
    have := g5 i (by omega) (by omega)
    rwa [hv] at this
   have hsB := hB
   rw [hBB,List.pairwise_append] at hsB
   have := StabS.join ho (A1 := []) (A2 := [v]) (B1 := B.take (r - (P.length + 1))) (B2 := B.drop (r - (P.length + 1))) (L1 := B.take (r - (P.length + 1))) (L2 := v :: B.drop (r - (P.length + 1))) (by simpa using hD)
    (by simpa using StabS.self hsB.1) (by simpa using StabS.self (List.pairwise_cons.2 ⟨hge,hsB.2.1⟩)) (fun y hy z hz=>by rw [List.mem_singleton.1 hz]; exact hlt y hy)
    (fun x hx y hy=>by
     have hx:x ∈ B.take (r - (P.length + 1)) := by simpa using hx
     have hxB:D x := hD x (by simp [List.mem_of_mem_take hx])
     simp only [List.singleton_append,List.mem_cons] at hy
     rcases hy with rfl | hy
     ·exact ho.le_of_lt hxB hvD (hlt x hx)
     ·exact hsB.2.2 x hx y hy)
   simpa using this
  ·rw [w64_in (n := m - a) (by omega) (by omega),cd_neg (by omega)]
   by_cases hB1:B.length = 1
   ·rw [w64_in (n := b - m) (by omega) (by omega),cd_pos (by omega)]
    obtain ⟨v,rfl⟩ := List.length_eq_one_iff.1 hB1
    simp only [List.length_singleton] at *
    have hv:l.getD (P.length + A.length) d = v := by rw [hl,show P ++ A ++ [v] ++ R = (P ++ A) ++ v :: R by simp]; exact getD_mid hPA
    have hvD:D v := hD v (by simp)
    obtain ⟨r,g1,g2,g3,g4,g5⟩ := bs_loop (step := bs2 cmp d (a,m,b,l,e)) (lo := P.length) (hi := P.length + A.length) (p := fun h=>!lt v (l.getD h d))
     (fun h k h1 h2 h3 h4=>by
      have h5 := sA (i := h) (k := k) (by omega) h2 (by omega)
      simp only [Bool.not_eq_true'] at h4 ⊢
      exact ho.le_trans (dA (by omega) (by omega)) (dA (by omega) (by omega)) hvD h5 h4)
     (fun i j h1 h2 h3=>by
      unfold bs2
      have hh:half (w64 ((i:Int) + (j:Int))) = (((i + j) / 2:Nat):Int) := by
       rw [w64_in (by omega) (by omega),half_eq (by omega) (by omega)]; omega
      obtain ⟨w,hw,hlt⟩ := hc v (l.getD ((i + j) / 2) d) hvD (dA (by omega) (by omega))
      simp only [hh]
      rw [cd_pos (by omega),cmpG_at (i := m) (x := v) rfl (by omega) (by rw [show m.toNat = P.length + A.length by omega,← hv]; exact get_getD (by omega)) (by omega) (get_getD (by omega)) (by
       simp only [Int.toNat_natCast]; exact hw)]
      rw [hlt,w64_in (by omega) (by omega)]
      generalize lt v (l.getD ((i + j) / 2) d) = q
      cases q <;> simp)
     (fun i=>by unfold bs2; simp) F P.length (P.length + A.length) (by omega) (by omega) (by omega) (by omega) (by intros; omega) (by intros; omega)
    rw [show m = ((P.length + A.length:Nat):Int) by omega,ha] at *
    rw [g1,Option.bind_some]
    have hAA:A = A.take (r - P.length) ++ A.drop (r - P.length) := by simp
    have hA1':(A.take (r - P.length)).length = r - P.length := by simp; omega
    have hA2':(A.drop (r - P.length)).length = A.length - (r - P.length) := by simp
    have hu := dn_loop (d := d) (n := l.length) (c := (r:Int)) (by omega) (A.drop (r - P.length)).reverse (P ++ A.take (r - P.length)) R v F (by simp; omega) (by rw [hl]; simp) (by simp; omega)
    have el:l = P ++ A.take (r - P.length) ++ (A.drop (r - P.length)).reverse.reverse ++ v :: R := by
     rw [List.reverse_reverse,List.append_assoc P,← hAA,hl]; simp
    rw [← el] at hu
    rw [show (((P ++ A.take (r - P.length)).length:Int) + (A.drop (r - P.length)).reverse.length) = ((P.length + A.length:Nat):Int) by simp only [List.length_append,List.length_reverse,hA1',hA2']; omega] at hu
    rw [hu]
    refine ⟨A.take (r - P.length) ++ v :: A.drop (r - P.length),by simp,?_⟩
    have hle1:∀ y ∈ A.take (r - P.length),leB lt y v := fun y hy=>by
     obtain ⟨i,i1,i2,i3,rfl⟩ := seg_take (d := d) hlA hy
     have := g4 i (by omega) (by omega)
     simpa [leB] using this
    have hlt2:∀ y ∈ A.drop (r - P.length),lt v y = true := fun y hy=>by
     obtain ⟨i,i1,i2,rfl⟩ := seg_drop (d := d) hlA hy
     have := g5 i (by omega) (by omega)
     simpa using this
    have := StabS.put ho (S1 := A.take (r - P.length)) (S2 := A.drop (r - P.length)) (x := v) (by rw [← hAA]; exact hD) (by rw [← hAA]; exact hA) hle1 hlt2
    rw [← hAA] at this
    exact this
   ·rw [w64_in (n := b - m) (by omega) (by omega),cd_neg (by omega)]
    generalize hmid:(P.length + (P.length + A.length + B.length)) / 2 = mid
    generalize hn:mid + (P.length + A.length) = n
    have e1:half (w64 (a + b)) = (mid:Int) := by
     rw [w64_in (by omega) (by omega),half_eq (by omega) (by omega)]; omega
    have e2:w64 ((mid:Int) + m) = (n:Int) := by rw [w64_in (by omega) (by omega)]; omega
    obtain ⟨s0,r0,hsr,hs1,hs2⟩:∃ s0 r0:Nat,(bif decide (half (w64 (a + b)) < m) then some (w64 (w64 (half (w64 (a + b)) + m) - b),half (w64 (a + b))) else some (a,m)) = some ((s0:Int),(r0:Int)) ∧
      (mid < P.length + A.length → s0 = n - (P.length + A.length + B.length) ∧ r0 = mid) ∧ (¬ mid < P.length + A.length → s0 = P.length ∧ r0 = P.length + A.length) := by
     by_cases hlt:mid < P.length + A.length
     ·refine ⟨n - (P.length + A.length + B.length),mid,?_,fun _=>⟨rfl,rfl⟩,fun h=>absurd hlt h⟩
      rw [e1,e2,cd_pos (by omega),w64_in (by omega) (by omega)]
      congr 2
      omega
     ·refine ⟨P.length,P.length + A.length,?_,fun h=>absurd h hlt,fun _=>⟨rfl,rfl⟩⟩
      rw [e1,cd_neg (by omega)]
      congr 2
    rw [hsr,Option.bind_some]
    have q1:P.length ≤ s0 ∧ s0 ≤ r0 ∧ r0 ≤ P.length + A.length ∧ r0 ≤ mid ∧ n ≤ s0 + (P.length + A.length + B.length) := by
     by_cases hlt:mid < P.length + A.length
     ·obtain ⟨h1,h2⟩ := hs1 hlt; omega
     ·obtain ⟨h1,h2⟩ := hs2 hlt; omega
    obtain ⟨r,g1,g2,g3,g4,g5⟩ := bs_loop (step := bs3 cmp d (a,m,b,l,e)) (lo := s0) (hi := r0) (p := fun h=>!lt (l.getD (n - 1 - h) d) (l.getD h d))
     (fun h k h1 h2 h3 h4=>by
      have h5 := sA (i := h) (k := k) (by omega) h2 (by omega)
      have h6 := sB (i := n - 1 - k) (k := n - 1 - h) (by omega) (by omega) (by omega)
      simp only [Bool.not_eq_true'] at h4 ⊢
      exact ho.le_trans (dA (by omega) (by omega)) (dB (by omega) (by omega)) (dB (by omega) (by omega)) (ho.le_trans (dA (by omega) (by omega)) (dA (by omega) (by omega)) (dB (by omega) (by omega)) h5 h4) h6)
     (fun i j h1 h2 h3=>by
      unfold bs3
      have hh:half (w64 ((i:Int) + (j:Int))) = (((i + j) / 2:Nat):Int) := by
       rw [w64_in (by omega) (by omega),half_eq (by omega) (by omega)]; omega
      have hp:w64 (w64 (w64 (half (w64 (a + b)) + m) - 1) - (((i + j) / 2:Nat):Int)) = ((n - 1 - (i + j) / 2:Nat):Int) := by
       rw [e1,e2,w64_in (n := (n:Int) - 1) (by omega) (by omega),w64_in (by omega) (by omega)]; omega
      obtain ⟨w,hw,hlt⟩ := hc (l.getD (n - 1 - (i + j) / 2) d) (l.getD ((i + j) / 2) d) (dB (by omega) (by omega)) (dA (by omega) (by omega))
      simp only [hh,hp]
      rw [cd_pos (by omega),cmpG_at rfl (by omega) (get_getD (by omega)) (by omega) (get_getD (by omega)) (by
       simp only [Int.toNat_natCast]; exact hw)]
      rw [hlt,w64_in (by omega) (by omega)]
      generalize lt (l.getD (n - 1 - (i + j) / 2) d) (l.getD ((i + j) / 2) d) = q
      cases q <;> simp)
     (fun i=>by unfold bs3; simp) F s0 r0 (by omega) (by omega) (by omega) (by omega) (by intros; omega) (by intros; omega)
    rw [g1,Option.bind_some]
    have hn1:n - r = P.length + A.length + (mid - r) := by omega
    have hAA:A.take (r - P.length) ++ A.drop (r - P.length) = A := by simp
    have hBB:B.take (mid - r) ++ B.drop (mid - r) = B := by simp
    have lA1:(A.take (r - P.length)).length = r - P.length := by simp; omega
    have lA2:(A.drop (r - P.length)).length = A.length - (r - P.length) := by simp
    have lB1:(B.take (mid - r)).length = mid - r := by simp; omega
    have lB2:(B.drop (mid - r)).length = B.length - (mid - r) := by simp
    have hlt:∀ y ∈ B.take (mid - r),∀ x ∈ A.drop (r - P.length),lt y x = true := fun y hy x hx=>by
     obtain ⟨i,i1,i2,i3,rfl⟩ := seg_take (d := d) hlB hy
     obtain ⟨k,k1,k2,rfl⟩ := seg_drop (d := d) hlA hx
     have hq:r < r0 := by
      by_cases hlt:mid < P.length + A.length
      ·obtain ⟨h1,h2⟩ := hs1 hlt; omega
      ·obtain ⟨h1,h2⟩ := hs2 hlt; omega
     have hr := g5 r (by omega) hq
     simp only [Bool.not_eq_false'] at hr
     have z1:leB lt (l.getD i d) (l.getD (n - 1 - r) d) := by
      by_cases h:i = n - 1 - r
      ·rw [h]; exact leB_refl ho (dB (by omega) (by omega))
      ·exact sB (by omega) (by omega) (by omega)
     have z2:leB lt (l.getD r d) (l.getD k d) := by
      by_cases h:k = r
      ·rw [h]; exact leB_refl ho (dA (by omega) (by omega))
      ·exact sA (by omega) (by omega) (by omega)
     exact ho.lt_le (dB (by omega) (by omega)) (dA (by omega) (by omega)) (dA (by omega) (by omega)) (ho.le_lt (dB (by omega) (by omega)) (dB (by omega) (by omega)) (dA (by omega) (by omega)) z1 hr) z2
    have hle:∀ x ∈ A.take (r - P.length) ++ B.take (mid - r),∀ y ∈ A.drop (r - P.length) ++ B.drop (mid - r),leB lt x y := fun x hx y hy=>by
     rcases List.mem_append.1 hx with hx | hx
     ·rcases List.mem_append.1 hy with hy | hy
      ·obtain ⟨i,i1,i2,i3,rfl⟩ := seg_take (d := d) hlA hx
       obtain ⟨k,k1,k2,rfl⟩ := seg_drop (d := d) hlA hy
       exact sA (by omega) (by omega) (by omega)
      ·obtain ⟨i,i1,i2,i3,rfl⟩ := seg_take (d := d) hlA hx
       obtain ⟨k,k1,k2,rfl⟩ := seg_drop (d := d) hlB hy
       have hq:s0 ≤ r - 1 ∧ r - 1 < r := by
        by_cases hlt:mid < P.length + A.length
        ·obtain ⟨h1,h2⟩ := hs1 hlt; omega
        ·obtain ⟨h1,h2⟩ := hs2 hlt; omega
       have hr := g4 (r - 1) hq.1 hq.2
       simp only [Bool.not_eq_true'] at hr
       have hr:leB lt (l.getD (r - 1) d) (l.getD (n - 1 - (r - 1)) d) := hr
       have z1:leB lt (l.getD i d) (l.getD (r - 1) d) := by
        by_cases h:i = r - 1
        ·rw [h]; exact leB_refl ho (dA (by omega) (by omega))
        ·exact sA (by omega) (by omega) (by omega)
       have z2:leB lt (l.getD (n - 1 - (r - 1)) d) (l.getD k d) := by
        by_cases h:k = n - 1 - (r - 1)
        ·rw [h]; exact leB_refl ho (dB (by omega) (by omega))
        ·exact sB (by omega) (by omega) (by omega)
       exact ho.le_trans (dA (by omega) (by omega)) (dB (by omega) (by omega)) (dB (by omega) (by omega)) (ho.le_trans (dA (by omega) (by omega)) (dA (by omega) (by omega)) (dB (by omega) (by omega)) z1 hr) z2
     ·rcases List.mem_append.1 hy with hy | hy
      ·exact ho.le_of_lt (hD x (by simp [List.mem_of_mem_take hx])) (hD y (by simp [List.mem_of_mem_drop hy])) (hlt x hx y hy)
      ·obtain ⟨i,i1,i2,i3,rfl⟩ := seg_take (d := d) hlB hx
       obtain ⟨k,k1,k2,rfl⟩ := seg_drop (d := d) hlB hy
       exact sB (by omega) (by omega) (by omega)
    have := symC_at (cmp := cmp) (e := e) ho (d := d) (F := F) (g := gSym cmp d F N) (P := P) (A1 := A.take (r - P.length)) (A2 := A.drop (r - P.length)) (B1 := B.take (mid - r)) (B2 := B.drop (mid - r)) (R := R) (l := l)
     (a := P.length) (m := P.length + A.length) (b := P.length + A.length + B.length) (st := r) (mid := mid) (by rw [hAA,hBB]; exact hl) hF hb rfl (by omega) (by omega) (by omega) hmid.symm (by omega)
     (fun P' A' B' R' a' m' b' h1 h2 h3 h4 h5 h6 h7 h8 h9 h10=>gSym_at ho hc N P' A' B' R' _ a' m' b' rfl (by omega) (by omega) (by omega) h3 h4 h5 h6 h7 h8 h9 h10)
     (by omega) (by rw [hAA,hBB]; exact hD) (by rw [hAA]; exact hA) (by rw [hBB]; exact hB) hlt hle
    rw [hAA,hBB] at this
    rw [ha,hm,hbb]
    have c1:((P.length:Int) + A.length) = ((P.length + A.length:Nat):Int) := by omega
    have c2:(((P.length + A.length:Nat):Int) + B.length) = ((P.length + A.length + B.length:Nat):Int) := by omega
    rw [c1,c2]
    exact this
end Go.Sx
end
section
namespace Go.Sx
open Go
variable {α E β:Type}
noncomputable def st1 (cmp:α × α × E → Option Int) (d:α) (F:Nat) (e:E) (n:Nat) (c:Int) (v66:List α × Int × Int):Option (List α × Int × Int ⊕ List α × Int) :=
 bif decide (v66.2.2 ≤ c) then Option.bind (fitG n (List.length v66.1) (v66.2.1,v66.2.2,v66.1,e)) fun v67=>Option.bind (gIns cmp d F v67) fun v68=>some (Sum.inl (v68,v66.2.2,w64 (v66.2.2 + (20:Int)))) else some (Sum.inr (v66.1,v66.2.1))
noncomputable def st3 (cmp:α × α × E → Option Int) (d:α) (F:Nat) (e:E) (n:Nat) (c:Int) (bs:Int) (v63:List α × Int × Int):Option (List α × Int × Int ⊕ List α × Int) :=
 bif decide (v63.2.2 ≤ c) then Option.bind (fitG n (List.length v63.1) (v63.2.1,w64 (v63.2.1 + bs),v63.2.2,v63.1,e)) fun v64=>Option.bind (gSym cmp d F F v64) fun v65=>some (Sum.inl (v65,v63.2.2,w64 (v63.2.2 + w64 ((2:Int) * bs)))) else some (Sum.inr (v63.1,v63.2.1))
noncomputable def st2 (cmp:α × α × E → Option Int) (d:α) (F:Nat) (e:E) (n:Nat) (c:Int) (v58:List α × Int):Option (List α × Int ⊕ List α) :=
 bif decide (v58.2 < c) then Option.bind (loopO (st3 cmp d F e n c v58.2) F (v58.1,(0:Int),w64 ((2:Int) * v58.2))) fun v59 =>
  Option.bind (bif decide (w64 (v59.2 + v58.2) < c) then Option.bind (fitG n (List.length v59.1) (v59.2,w64 (v59.2 + v58.2),c,v59.1,e)) fun v61=>Option.bind (gSym cmp d F F v61) fun v62=>some v62 else some v59.1) fun v60=>some (Sum.inl (v60,w64 (v58.2 * (2:Int)))) else some (Sum.inr v58.1)
noncomputable def gStab (cmp:α × α × E → Option Int) (d:α) (F:Nat) (a:Int × List α × E):Option (List α) :=
 Option.bind (loopO (st1 cmp d F a.2.2 (List.length a.2.1) a.1) F (a.2.1,(0:Int),(20:Int))) fun v54=>Option.bind (fitG (List.length a.2.1) (List.length v54.1) (v54.2,a.1,v54.1,a.2.2)) fun v55=>Option.bind (gIns cmp d F v55) fun v56 =>
  Option.bind (loopO (st2 cmp d F a.2.2 (List.length a.2.1) a.1) F (v56,(20:Int))) fun v57=>some v57
theorem st1_loop {cmp:α × α × E → Option Int} {e:E} {lt:α → α → Bool} {D:α → Prop} (ho:LtOn lt D) (hc:CmpOk cmp e lt D) {d:α} {F n:Nat} (hF:n < F) (hb:n < 1152921504606846976) :
  ∀ (G:Nat) (U O1 D1:List α),BlkF lt 20 O1 D1 → U.length < G → n = D1.length + U.length → (∀ x ∈ U,D x) → ∃ O1' D1' U',O1 ++ U = O1' ++ U' ∧ BlkF lt 20 O1' D1' ∧ U'.length < 20 ∧ loopO (st1 cmp d F e n (n:Int)) G (D1 ++ U,(D1.length:Int),(D1.length:Int) + 20) = some (D1' ++ U',(D1'.length:Int))
 | 0,U,O1,D1,_,hG,_,_=>by omega
 | G + 1,U,O1,D1,hD1,hG,hn,hD=>by
  by_cases h:20 ≤ U.length
  ·have hU:U = U.take 20 ++ U.drop 20 := by simp
   have h1:(U.take 20).length = 20 := by simp; omega
   have h2:(U.drop 20).length = U.length - 20 := by simp
   obtain ⟨S,g1,g2⟩ := gIns_at ho hc (d := d) (F := F) (P := D1) (X := U.take 20) (R := U.drop 20) (a := (D1.length:Int)) (b := (D1.length:Int) + 20) (l := D1 ++ U) (by simp) (fun x hx=>hD x (List.mem_of_mem_take hx)) (by simp; omega) (by simp; omega) rfl (by omega)
   have hS:S.length = 20 := by rw [g2.len,h1]
   have hs:st1 cmp d F e n (n:Int) (D1 ++ U,(D1.length:Int),(D1.length:Int) + 20) = some (.inl ((D1 ++ S) ++ U.drop 20,((D1 ++ S).length:Int),((D1 ++ S).length:Int) + 20)) := by
    unfold st1
    simp only
    rw [cd_pos (by omega),fitG_ok (by simp; omega),Option.bind_some,g1,Option.bind_some,w64_in (by omega) (by omega)]
    simp [hS]
   simp only [loopO,hs]
   obtain ⟨O1',D1',U',k1,k2,k3,k4⟩ := st1_loop ho hc hF hb G (U.drop 20) (O1 ++ U.take 20) (D1 ++ S) (.snoc hD1 g2 h1) (by omega) (by simp; omega) (fun x hx=>hD x (List.mem_of_mem_drop hx))
   exact ⟨O1',D1',U',by rw [← k1]; simp,k2,k3,k4⟩
  ·refine ⟨O1,D1,U,rfl,hD1,by omega,?_⟩
   simp only [loopO,st1]
   rw [cd_neg (by omega)]
theorem st3_loop {cmp:α × α × E → Option Int} {e:E} {lt:α → α → Bool} {D:α → Prop} (ho:LtOn lt D) (hc:CmpOk cmp e lt D) {d:α} {F n bs:Nat} (hF:n < F) (hb:n < 1152921504606846976) (h0:0 < bs) (h1:bs < n) :
  ∀ (G:Nat) (O1 D1 O2 D2:List α),BlkF lt (2 * bs) O1 D1 → BlkS lt bs O2 D2 → O2.length < G → n = D1.length + D2.length → (∀ x ∈ O2,D x) →
  ∃ O1' D1' O2' D2',O1 ++ O2 = O1' ++ O2' ∧ BlkF lt (2 * bs) O1' D1' ∧ BlkS lt bs O2' D2' ∧ O2'.length < 2 * bs ∧ n = D1'.length + D2'.length ∧ (∀ x ∈ O2',D x) ∧ loopO (st3 cmp d F e n (n:Int) (bs:Int)) G (D1 ++ D2,(D1.length:Int),(D1.length:Int) + 2 * (bs:Int)) = some (D1' ++ D2',(D1'.length:Int))
 | 0,O1,D1,O2,D2,_,_,hG,_,_=>by omega
 | G + 1,O1,D1,O2,D2,hD1,hD2,hG,hn,hD=>by
  have hl2 := hD2.len
  by_cases h:2 * bs ≤ O2.length
  ·obtain ⟨o1,o2,d1,d2,rfl,rfl,ho1,hs1,ht⟩ := hD2.head (by omega)
   simp only [List.length_append] at *
   obtain ⟨o2,o3,d2,d3,rfl,rfl,ho2,hs2,ht⟩ := ht.head (by omega)
   have m1 := hs1.len
   have m2 := hs2.len
   have m3 := ht.len
   simp only [List.length_append] at *
   obtain ⟨L,g1,g2⟩ := gSym_at ho hc (d := d) (F := F) F D1 d1 d2 d3 (D1 ++ (d1 ++ (d2 ++ d3))) (D1.length:Int) ((D1.length:Int) + (bs:Int)) ((D1.length:Int) + 2 * (bs:Int)) (by simp) (by simp; omega) (by simp; omega) (by omega) (by omega) (by omega) hs1.2.1 hs2.2.1
    (fun x hx=>hD x (by simp only [List.mem_append,hs1.mem,hs2.mem] at hx ⊢; rcases hx with hx | hx <;> simp [hx])) rfl (by omega) (by omega)
   have g3 := StabS.both ho (fun x hx=>hD x (by simp only [List.mem_append] at hx ⊢; rcases hx with hx | hx <;> simp [hx])) hs1 hs2 g2
   have hL:L.length = 2 * bs := by rw [g3.len]; simp; omega
   have hs:st3 cmp d F e n (n:Int) (bs:Int) (D1 ++ (d1 ++ (d2 ++ d3)),(D1.length:Int),(D1.length:Int) + 2 * (bs:Int)) = some (.inl ((D1 ++ L) ++ d3,((D1 ++ L).length:Int),((D1 ++ L).length:Int) + 2 * (bs:Int))) := by
    unfold st3
    simp only
    rw [cd_pos (by omega),fitG_ok (by simp; omega),Option.bind_some,w64_in (n := (D1.length:Int) + bs) (by omega) (by omega),g1,Option.bind_some,w64_in (n := 2 * (bs:Int)) (by omega) (by omega),w64_in (by omega) (by omega)]
    simp [hL]
   simp only [loopO,hs]
   obtain ⟨O1',D1',O2',D2',k1,k2,k3,k4,k5,k6,k7⟩ := st3_loop ho hc hF hb h0 h1 G (O1 ++ (o1 ++ o2)) (D1 ++ L) o3 d3 (.snoc hD1 g3 (by simp; omega)) ht (by omega) (by simp; omega) (fun x hx=>hD x (by simp [hx]))
   exact ⟨O1',D1',O2',D2',by rw [← k1]; simp,k2,k3,k4,k5,k6,k7⟩
  ·refine ⟨O1,D1,O2,D2,rfl,hD1,hD2,by omega,hn,hD,?_⟩
   simp only [loopO,st3]
   rw [cd_neg (by omega)]
theorem st2_loop {cmp:α × α × E → Option Int} {e:E} {lt:α → α → Bool} {D:α → Prop} (ho:LtOn lt D) (hc:CmpOk cmp e lt D) {d:α} {F n:Nat} (hF:n < F) (hb:n < 1152921504606846976) {l:List α} (hD:∀ x ∈ l,D x) (hl:l.length = n) :
  ∀ (G bs:Nat) (s:List α),BlkS lt bs l s → 0 < bs → n - bs < G → bs < 4611686018427387904 → ∃ L,loopO (st2 cmp d F e n (n:Int)) G (s,(bs:Int)) = some L ∧ StabS lt l L
 | 0,bs,s,_,_,hG,_=>by omega
 | G + 1,bs,s,hs,h0,hG,hb2=>by
  have hlen := hs.len
  by_cases h:bs < n
  ·obtain ⟨O1,D1,O2,D2,k1,k2,k3,k4,k5,k6,k7⟩ := st3_loop ho hc (d := d) (e := e) hF hb h0 h F [] [] l s .nil hs (by omega) (by simp; omega) hD
   simp only [List.nil_append,List.length_nil] at k1 k7
   have hl3 := k3.len
   obtain ⟨s',hs',hblk⟩:∃ s',(Option.bind (bif decide (w64 ((D1.length:Int) + (bs:Int)) < (n:Int)) then Option.bind (fitG n (List.length (D1 ++ D2)) ((D1.length:Int),w64 ((D1.length:Int) + (bs:Int)),(n:Int),D1 ++ D2,e)) fun v61=>Option.bind (gSym cmp d F F v61) fun v62=>some v62 else some (D1 ++ D2)) fun v60=>(some (Sum.inl (v60,w64 ((bs:Int) * (2:Int)))):Option (List α × Int ⊕ List α))) = some (Sum.inl (s',((2 * bs:Nat):Int))) ∧ BlkS lt (2 * bs) l s' := by
    have hw:w64 ((bs:Int) * (2:Int)) = ((2 * bs:Nat):Int) := by rw [w64_in (by omega) (by omega)]; omega
    rw [hw,w64_in (n := (D1.length:Int) + bs) (by omega) (by omega)]
    by_cases hm:D1.length + bs < n
    ·obtain ⟨o1,o2,d1,d2,rfl,rfl,ho1,hs1,ht⟩ := k3.head (by omega)
     simp only [List.length_append] at *
     have hs2 := ht.small (by omega) h0
     have m1 := hs1.len
     have m2 := hs2.len
     obtain ⟨L,g1,g2⟩ := gSym_at ho hc (d := d) (F := F) F D1 d1 d2 [] (D1 ++ (d1 ++ d2)) (D1.length:Int) ((D1.length:Int) + (bs:Int)) (n:Int) (by simp) (by simp; omega) (by simp; omega) (by omega) (by omega) (by omega) hs1.2.1 hs2.2.1
      (fun x hx=>k6 x (by simp only [List.mem_append,hs1.mem,hs2.mem] at hx ⊢; rcases hx with hx | hx <;> simp [hx])) rfl (by omega) (by omega)
     have g3 := StabS.both ho k6 hs1 hs2 g2
     refine ⟨D1 ++ L,?_,?_⟩
     ·rw [cd_pos (by omega),fitG_ok (by omega),Option.bind_some,g1,Option.bind_some]
      simp
     ·rw [k1]
      exact k2.join (.last g3 (by simp; omega))
    ·refine ⟨D1 ++ D2,?_,?_⟩
     ·rw [cd_neg (by omega)]
      simp
     ·rw [k1]
      exact k2.join (.last (k3.small (by omega) h0) (by omega))
   have hstep:st2 cmp d F e n (n:Int) (s,(bs:Int)) = some (.inl (s',((2 * bs:Nat):Int))) := by
    unfold st2
    simp only
    rw [cd_pos (by omega),w64_in (n := 2 * (bs:Int)) (by omega) (by omega)]
    first
     | rw [k7,Option.bind_some]; exact hs'
     | (have k7' := k7; simp at k7'; rw [k7',Option.bind_some]; exact hs')
   simp only [loopO,hstep]
   exact st2_loop ho hc hF hb hD hl G (2 * bs) s' hblk (by omega) (by omega) (by omega)
  ·refine ⟨s,?_,hs.small (by omega) h0⟩
   simp only [loopO,st2]
   rw [cd_neg (by omega)]
theorem gStab_ok {cmp:α × α × E → Option Int} {e:E} {lt:α → α → Bool} {D:α → Prop} (ho:LtOn lt D) (hc:CmpOk cmp e lt D) {d:α} {F:Nat} {l:List α} (hD:∀ x ∈ l,D x) (hF:l.length < F) (hb:l.length < 1152921504606846976) :
  ∃ L,gStab cmp d F ((l.length:Int),l,e) = some L ∧ StabS lt l L := by
 obtain ⟨O1,D1,U,k1,k2,k3,k4⟩ := st1_loop ho hc (d := d) (e := e) hF hb F l [] [] .nil hF (by simp) hD
 simp only [List.nil_append,List.length_nil] at k1 k4
 have hl1 := k2.len
 have hll:l.length = O1.length + U.length := by rw [k1]; simp
 obtain ⟨S,g1,g2⟩ := gIns_at ho hc (d := d) (F := F) (P := D1) (X := U) (R := []) (a := (D1.length:Int)) (b := (l.length:Int)) (l := D1 ++ U) (by simp) (fun x hx=>hD x (by rw [k1]; simp [hx])) (by simp; omega) (by simp; omega) rfl (by omega)
 have hblk:BlkS lt 20 l (D1 ++ S) := by
  rw [k1]
  exact k2.join (.last g2 (by omega))
 obtain ⟨L,q1,q2⟩ := st2_loop ho hc (d := d) (e := e) hF hb hD rfl F 20 (D1 ++ S) hblk (by omega) (by omega) (by omega)
 refine ⟨L,?_,q2⟩
 unfold gStab
 simp only
 have k4':loopO (st1 cmp d F e l.length (l.length:Int)) F (l,(0:Int),(20:Int)) = some (D1 ++ U,(D1.length:Int)) := by simpa using k4
 rw [k4',Option.bind_some,fitG_ok (by simp; omega),Option.bind_some,g1,Option.bind_some]
 have q1':loopO (st2 cmp d F e l.length (l.length:Int)) F (D1 ++ S ++ [],(20:Int)) = some L := by simpa using q1
 rw [q1',Option.bind_some]
end Go.Sx
end
