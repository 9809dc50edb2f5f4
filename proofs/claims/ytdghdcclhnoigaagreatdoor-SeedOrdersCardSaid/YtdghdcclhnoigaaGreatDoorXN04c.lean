/- Plain law: the heats of the reference; lists compared. Plain law of SeedOrders. -/
import Derived.Test.YtdghdcclhnoigaaGreatDoorXG04f
set_option maxRecDepth 100000
set_option linter.all false
namespace Go.Proofs.Tryz
open Go Go.Sx
def partM {α:Type} (g:α → α) (l:List α) (i:Nat):List α := (l.take i).map g ++ l.drop i
theorem partM_len {α:Type} (g:α → α) (l:List α) (i:Nat):(partM g l i).length = l.length := by simp [partM]; omega
theorem partM_zero {α:Type} (g:α → α) (l:List α):partM g l 0 = l := by simp [partM]
theorem partM_all {α:Type} (g:α → α) (l:List α):partM g l l.length = l.map g := by simp [partM]
theorem partM_get {α:Type} {g:α → α} {l:List α} {i:Nat} {x:α} (h:l[i]? = some x):(partM g l i)[i]? = some x := by
 have hi := (List.getElem?_eq_some_iff.1 h).1
 unfold partM
 rw [List.getElem?_append_right (by simp; omega)]
 simp only [List.length_map,List.length_take,List.getElem?_drop]
 rw [show min i l.length = i by omega,Nat.sub_self,Nat.add_zero]; exact h
theorem partM_set {α:Type} {g:α → α} {l:List α} {i:Nat} {x:α} (h:l[i]? = some x):(partM g l i).set i (g x) = partM g l (i + 1) := by
 have hi := (List.getElem?_eq_some_iff.1 h).1
 unfold partM
 rw [List.set_append_right _ _ (by simp; omega)]
 simp only [List.length_map,List.length_take]
 rw [show min i l.length = i by omega,Nat.sub_self]
 have e1:l.drop i = x :: l.drop (i + 1) := by
  rw [List.drop_eq_getElem_cons hi]
  rw [(List.getElem?_eq_some_iff.1 h).2]
 have e2:l.take (i + 1) = l.take i ++ [x] := by rw [List.take_add_one,h]; rfl
 rw [e1,e2]
 simp
theorem putZ_map (h:Nat) (f:Nat → Int) (g:Int → Int):∀ n,(putZ h f n).map (List.map g) = putZ h (fun r=>g (f r)) n
 | 0=>by simp [putZ]
 | n + 1=>by
  have ih := putZ_map h f g n
  simp only [putZ,List.map_set,List.map_append,List.map_cons,List.map_nil,ih]
  congr 1
  congr 1
  rw [← ih]
  simp only [List.getD_eq_getElem?_getD,List.getElem?_map]
  cases (putZ h f n)[zhN h n]? <;> rfl
theorem putZ_mem {h:Nat} {f:Nat → Int}:∀ (n:Nat) (i:Nat) (x:Int),x ∈ (putZ h f n).getD i [] → ∃ r,r < n ∧ x = f r
 | 0,i,x,hx=>by
  simp only [putZ,List.getD_eq_getElem?_getD,List.getElem?_replicate] at hx
  split at hx <;> simp at hx
 | n + 1,i,x,hx=>by
  by_cases hi:i < h
  ·rw [putZ_getD hi] at hx
   split at hx
   ·rcases List.mem_append.1 hx with hx | hx
    ·obtain ⟨r,h1,h2⟩ := putZ_mem n i x hx; exact ⟨r,by omega,h2⟩
    ·exact ⟨n,by omega,List.mem_singleton.1 hx⟩
   ·obtain ⟨r,h1,h2⟩ := putZ_mem n i x hx; exact ⟨r,by omega,h2⟩
  ·rw [List.getD_eq_getElem?_getD,List.getElem?_eq_none (by rw [putZ_len]; omega)] at hx
   simp at hx
theorem set_self_getD {α:Type} {l:List (List α)} {i:Nat} (h:i < l.length):l.set i (l.getD i []) = l := by
 rw [getD_some (List.getElem?_eq_getElem h)]
 exact List.set_getElem_self h
theorem bind_left {σ β τ γ:Type} {step:σ → Option (σ ⊕ β)} {F:Nat} {t:σ} {k:β → Option (τ ⊕ γ)} {P:τ → Prop} (Inv:σ → Prop) (m:σ → Nat) (Post:β → Prop)
  (h:∀ x,Inv x → (∃ y,step x = some (.inl y) ∧ Inv y ∧ m y < m x) ∨ ∃ b,step x = some (.inr b) ∧ Post b) (h0:Inv t) (hF:m t < F) (hk:∀ b,Post b → ∃ y,k b = some (.inl y) ∧ P y):∃ y,Option.bind (loopO step F t) k = some (.inl y) ∧ P y := by
 obtain ⟨b,h1,h2⟩ := loopO_ex Inv m Post h F t h0 hF
 rw [h1]
 exact hk b h2
theorem l27 {F:Nat} (hF:400 ≤ F) {l:List Ent} (hent:EntOk l) {h:Nat} {key:Int} (d1:1 ≤ key) (d2:key < 2147483647) (h0:0 < h) (h1:h ≤ 16) :
  c27 F (l,(h:Int),key) = some (putZ h (fun r=>(ordE l key).getD r 0) l.length) := by
 unfold c27
 delta nilT
 have hlen := hent.len
 have hol:(ordE l key).length = l.length := by rw [(ord_perm hent d1 d2).length_eq,ids_length]
 simp only [(ordE_stab hF hent d1 d2).1,Option.bind_some]
 generalize ordE l key = o at hol
 generalize hn:l.length = n at *
 simp (disch := omega) only [gd_dec,Int.toNat_natCast,nilRows_rep,List.map_replicate,gd_true,List.length_replicate,decide_true,Bool.and_true,Bool.true_and,Option.bind_some]
 refine ex_eq (bind_inv (fun v=>∃ i:Nat,v = (putZ h (fun r=>(r:Int)) i,(i:Int)) ∧ i ≤ n) (fun v=>n - v.2.toNat) (fun b=>b = putZ h (fun r=>(r:Int)) n) ?_ ⟨0,rfl,Nat.zero_le _⟩ (by simp; omega) ?_)
 ·rintro v ⟨i,rfl,hi⟩
  have hl := putZ_len h (fun r=>(r:Int)) i
  have hz := zhN_lt h0 i
  have hr := putZ_row (h := h) (f := fun r=>(r:Int)) i (zhN h i)
  by_cases hin:i < n
  ·left
   have hls := len_snoc ((putZ h (fun r=>(r:Int)) i).getD (zhN h i) []) (i:Int)
   simp only [nilT] at hls
   simp (disch := omega) only [cd_pos,gd_dec,zk_eq h0 (show h ≤ 1000 by omega),Option.bind_some,Int.toNat_natCast,Nat.zero_add,hls,hl,List.length_set,decide_true,Bool.and_true,gd_true]
   refine ⟨_,rfl,⟨i + 1,?_,by omega⟩,?_⟩
   ·rw [w64_in (by omega) (by omega)]; rfl
   ·show n - (w64 ((i:Int) + 1)).toNat < n - ((i:Int)).toNat
    rw [w64_in (by omega) (by omega)]; omega
  ·right
   have:i = n := by omega
   subst this
   simp (disch := omega) only [cd_neg,decide_true,Bool.and_true,gd_true,Option.bind_some,hl,gd_dec]
   exact ⟨_,rfl,rfl⟩
 ·rintro b rfl
  have hZl := putZ_len h (fun r=>(r:Int)) n
  have hZm := putZ_mem (h := h) (f := fun r=>(r:Int)) n
  have hZr := putZ_row (h := h) (f := fun r=>(r:Int)) n
  let g:Int → Int := fun x=>o.getD x.toNat 0
  have hmap := putZ_map h (fun r=>(r:Int)) g n
  have hfin:(fun r:Nat=>g (r:Int)) = fun r=>o.getD r 0 := by funext r; simp [g]
  rw [hfin] at hmap
  rw [← hmap]
  generalize putZ h (fun r=>(r:Int)) n = Z at *
  refine bind_inv (fun v=>∃ i:Nat,v = (partM (List.map g) Z i,(i:Int)) ∧ i ≤ h) (fun v=>h - v.2.toNat) (fun b=>b = Z.map (List.map g)) ?_ ⟨0,by rw [partM_zero]; rfl,Nat.zero_le _⟩ (by simp; omega) ?_
  ·rintro v ⟨i,rfl,hi⟩
   have hWl:(partM (List.map g) Z i).length = h := by rw [partM_len]; exact hZl
   by_cases hih:i < h
   ·left
    have hrow:Z[i]? = some (Z.getD i []) := by rw [getD_some (List.getElem?_eq_getElem (show i < Z.length by omega))]; exact List.getElem?_eq_getElem _
    have hrl := hZr i
    have hrm := hZm i
    generalize Z.getD i [] = row at hrow hrl hrm
    have hWg := partM_get (g := List.map g) hrow
    have hWs := partM_set (g := List.map g) hrow
    generalize partM (List.map g) Z i = W at hWl hWg hWs
    simp (disch := omega) only [cd_pos,hWl,decide_true,Bool.and_true,gd_true,Option.bind_some]
    refine bind_left (fun v=>∃ k:Nat,v = (W.set i (partM g row k),(k:Int)) ∧ k ≤ row.length) (fun v=>row.length - v.2.toNat) (fun b=>b = partM (List.map g) Z (i + 1)) ?_ ⟨0,?_,Nat.zero_le _⟩ (show row.length - ((0:Int)).toNat < F by simp; omega) ?_
    ·rintro v ⟨k,rfl,hk⟩
     have e1:(W.set i (partM g row k)).length = h := by rw [List.length_set]; exact hWl
     have e2:(W.set i (partM g row k)).getD i [] = partM g row k := by
      rw [List.getD_eq_getElem?_getD,List.getElem?_set_self (by omega)]; rfl
     have e3:(partM g row k).length = row.length := partM_len ..
     have e4 := set_self_getD (l := W.set i (partM g row k)) (i := i) (by omega)
     rw [e2] at e4
     have e5:∀ X,(W.set i (partM g row k)).set i X = W.set i X := fun X=>by rw [List.set_set]
     by_cases hkr:k < row.length
     ·left
      have hx:row[k]? = some row[k] := List.getElem?_eq_getElem hkr
      generalize row[k] = x at hx
      obtain ⟨r,r1,rfl⟩ := hrm x (List.mem_of_getElem? hx)
      have hg := partM_get (g := g) hx
      have hs := partM_set (g := g) hx
      have hgx:g ((r:Nat):Int) = o.getD r 0 := by simp [g]
      rw [hgx] at hs
      simp (disch := omega) only [Nat.zero_add,Int.toNat_natCast,e1,e2,e3,e4,e5,gd_dec,cd_pos,getD_some hg,hol,hs,partM_len,List.length_set,hWl,decide_true,Bool.and_true,gd_true,Option.bind_some]
      refine ⟨_,rfl,⟨k + 1,by rw [w64_in (by omega) (by omega)]; rfl,by omega⟩,?_⟩
      show row.length - (w64 ((k:Int) + 1)).toNat < row.length - ((k:Int)).toNat
      rw [w64_in (by omega) (by omega)]; omega
     ·right
      have:k = row.length := by omega
      subst this
      simp (disch := omega) only [Nat.zero_add,Int.toNat_natCast,e1,e2,e3,e4,e5,gd_dec,cd_neg,partM_len,decide_true,Bool.and_true,gd_true,Option.bind_some]
      exact ⟨_,rfl,by rw [partM_all]; exact hWs⟩
    ·rw [partM_zero]
     have := List.set_getElem_self (show i < W.length by omega)
     rw [(List.getElem?_eq_some_iff.1 hWg).2] at this
     rw [this]; rfl
    ·rintro b rfl
     try simp (disch := omega) only [partM_len,hZl,decide_true,Bool.and_true,Bool.true_and,gd_true,Option.bind_some]
     refine ⟨_,rfl,⟨i + 1,by rw [w64_in (by omega) (by omega)]; rfl,by omega⟩,?_⟩
     show h - (w64 ((i:Int) + 1)).toNat < h - ((i:Int)).toNat
     rw [w64_in (by omega) (by omega)]; omega
   ·right
    have:i = h := by omega
    subst this
    simp (disch := omega) only [cd_neg,hWl,decide_true,Bool.and_true,Bool.true_and,gd_true,Option.bind_some]
    exact ⟨_,rfl,by rw [← hZl]; exact partM_all _ _⟩
  ·rintro b rfl
   simp (disch := omega) only [gd_dec,take_all]
   exact ⟨_,rfl,rfl⟩
theorem m28_err {F:Nat} {b:Int} {w:List (List Int)} (hb:b ≠ 0):c28 F ([],b,b,w) = some true := by
 unfold c28; simp [hb]
theorem m28_ok {F:Nat} {L:List (List Int)} (hF:L.length < F) (hl:L.length ≤ 1000) (hg:∀ g ∈ L,g.length < F ∧ g.length ≤ 100000):c28 F (L,0,0,L) = some true := by
 unfold c28
 simp only [decide_true,Bool.not_true,cond_false,Option.bind_some]
 refine bind_list L (fun (_:Unit) i=>(i:Int)) (fun _ _=>.inl ()) (fun _=>.inr ()) (fun _ _=>True) () hF rfl trivial ?_ ?_ ?_
 ·intro i x _ hi hx _
  refine ⟨?_,fun _ _=>trivial⟩
  have hx' := hg x (List.mem_of_getElem? hx)
  simp (disch := omega) only [cd_pos,gd_dec,Int.toNat_natCast,getD_some hx,w64_in,m71 hx'.1 hx'.2,Option.bind_some]
  simp
 ·intro _ _
  simp (disch := omega) only [cd_neg]
 ·rw [goL_unit]; rfl
theorem putZ_rows {h:Nat} {f:Nat → Int} {n:Nat} {g:List Int} (hg:g ∈ putZ h f n):g.length ≤ n := by
 obtain ⟨i,hi,e⟩ := List.mem_iff_getElem.1 hg
 have := putZ_row (h := h) (f := f) n i
 rw [getD_some (List.getElem?_eq_getElem hi),e] at this
 exact this
theorem ord_list {F:Nat} (hF:400 ≤ F) {l:List Ent} {key:Int} (hlen:l.length ≤ 300) (d1:1 ≤ key) (d2:key < 2147483647) (hent:EntOk l):c24 F (ordE l key,0,0,ordE l key) = some true := by
 have hol:(ordE l key).length = l.length := by rw [(ord_perm hent d1 d2).length_eq,ids_length]
 exact m24_ok (by omega) (by omega)
theorem nz2_zero {a b:Int}:firstNZ [a,b] = 0 ↔ a = 0 ∧ b = 0 := by
 by_cases h:a = 0
 ·by_cases h2:b = 0 <;> simp [firstNZ,h,h2]
 ·simp [firstNZ,h]
theorem hE_nz {h:Int}:hE h = 0 ↔ ¬ (h < 1 ∨ 16 < h) := by unfold hE; split <;> simp [*]
theorem law3_last {F:Nat} (hF:400 ≤ F) {n h:Int} (hn:n ≤ 1000):(Option.bind (c29 F (n,h)) fun (v71:List (List Int) × Int)=>Option.bind (c26 F (n,0,160)) fun (v72:Int)=>Option.bind (c26 F (h,1,16)) fun (v73:Int)=>Option.bind (c25 F (v72 :: v73 :: nilT Int)) fun (v74:Int) =>
  bif !decide (v74 = 0) then (Option.bind (c28 F (v71.1,v71.2,v74,nilT (List Int))) fun (v75:Bool)=>some v75) else (Option.bind (c30 F (n,h)) fun (v76:List (List Int))=>Option.bind (c28 F (v71.1,v71.2,0,v76)) fun (v77:Bool)=>some v77)) = some true := by
 simp only [l29 hF,l26,Option.bind_some,nilT]
 rw [l25 (show ([if n < 0 ∨ 160 < n then 3 else 0,if h < 1 ∨ 16 < h then 3 else 0]:List Int).length < F by simp; omega) (by simp)]
 rw [zigE_nz,Option.bind_some]
 by_cases he:n < 0 ∨ 160 < n ∨ h < 1 ∨ 16 < h
 ·have:zigE n h = 3 := if_pos he
  simp [this,m28_err (F := F) (b := 3) (w := []) (by decide)]
 ·have hz:zigE n h = 0 := if_neg he
  obtain ⟨n,rfl⟩ := Int.eq_ofNat_of_zero_le (show 0 ≤ n by omega)
  obtain ⟨h,rfl⟩ := Int.eq_ofNat_of_zero_le (show 0 ≤ h by omega)
  have e := l30 (F := F) (n := n) (h := h) (by omega) (by omega) (by omega) (by omega)
  simp only [hz,decide_true,Bool.not_true,cond_false,e,Option.bind_some,ne_eq,not_true_eq_false,if_false,Int.toNat_natCast]
  have hl := putZ_len h (fun r=>(r:Int)) n
  rw [m28_ok (by omega) (by omega) fun g hg=>by have := putZ_rows hg; omega]
  rfl
theorem law3 (a:List Ent × Int × Int) (hok:AEls.ok [.val (.seq [.str,.str,.str,.int .i64,.str]),.val (.int .i64),.val (.int .i64)] a):∃ F,c3 F a = some true := by
 obtain ⟨l,key,h⟩ := a
 obtain ⟨⟨hb,-⟩,-,-⟩ := hok
 have hF1:l.length < l.length + 400 := by omega
 have hF:400 ≤ l.length + 400 := by omega
 refine ⟨l.length + 400,?_⟩
 generalize l.length + 400 = F at hF hF1
 unfold c3
 obtain ⟨b,h17,hshort⟩ := l17 hF (l := l) (n := 24) (by omega)
 have h17':c17 F (l,24) = some b := h17
 simp only [l15 hF1 (show l.length * 72 ≤ 140737488351232 from hb),Option.bind_some,h17']
 cases b with
 | false=>rfl
 | true =>
  obtain ⟨s1,s2,s3⟩ := hshort rfl
  have hl300:l.length ≤ 300 := by omega
  have hw:w64 (2 * (l.length:Int)) = 2 * (l.length:Int) := w64_in (by omega) (by omega)
  have hlast := law3_last hF (n := 2 * (l.length:Int)) (h := h) (by omega)
  simp only [l26,Option.bind_some] at hlast
  have hfin:∀ {o:Option Bool},o = some true → o = some true := fun h=>h
  simp only [Bool.not_true,cond_false,l18 hF hl300,l19 hF hl300 s3,l20 hF hl300 s3,l21 hF hl300 s3,l22n,l26,Option.bind_some,hw,decide_true]
  have e25:c25 F (entC l :: (if h < 1 ∨ 16 < h then 3 else 0) :: nilT Int) = some (firstNZ [entC l,hE h]) := l25 (l := [entC l,hE h]) (by simp; omega) (by simp)
  by_cases h0:entC l = 0
  ·have hent := entC_ok h0
   by_cases hd:drawE key l.length = 0
   ·obtain ⟨d1,d2⟩ := drawE_ok hd
    have e1 := ord_list hF hl300 d1 d2 hent
    have e23 := (ordE_stab hF hent d1 d2).1
    by_cases hh:hE h = 0
    ·have hh' := hE_nz.1 hh
     obtain ⟨h,rfl⟩ := Int.eq_ofNat_of_zero_le (show 0 ≤ h by omega)
     have e27 := l27 hF hent d1 d2 (h := h) (by omega) (by omega)
     have hl := putZ_len h (fun r=>(ordE l key).getD r 0) l.length
     have e28 := m28_ok (F := F) (L := putZ h (fun r=>(ordE l key).getD r 0) l.length) (by omega) (by omega) (fun g hg=>by have := putZ_rows hg; omega)
     have nz:firstNZ [entC l,hE (h:Int)] = 0 := nz2_zero.2 ⟨h0,hh⟩
     rw [h0] at nz e25
     simp only [h0,hd,ne_eq,not_true_eq_false,if_false,decide_true,cond_true,cond_false,e23,e1,Bool.not_true,e25,nz,e27,Option.bind_some,Int.toNat_natCast,e28,hlast]
    ·have nz:firstNZ [entC l,hE h] ≠ 0 := fun q=>hh (nz2_zero.1 q).2
     rw [h0] at nz e25
     have e28 := m28_err (F := F) (w := nilT (List Int)) nz
     simp only [h0,hd,ne_eq,not_true_eq_false,if_false,decide_true,cond_true,cond_false,e23,e1,Bool.not_true,e25,nz,not_false_eq_true,if_true,decide_false,Option.bind_some,e28,hlast]
   ·have hd3 := drawE_3 hd
    have e1 := m24_err (F := F) (b := 3) (w := nilT Int) (by decide)
    by_cases hh:hE h = 0
    ·have nz:firstNZ [entC l,hE h] = 0 := nz2_zero.2 ⟨h0,hh⟩
     rw [h0] at nz e25
     have e28 := m28_err (F := F) (b := 3) (w := nilT (List Int)) (by decide)
     simp only [h0,hd3,ne_eq,not_true_eq_false,if_false,decide_true,cond_true,cond_false,e1,Bool.not_true,e25,nz,Option.bind_some,e28,hlast,show ¬ ((3:Int) = 0) by decide,not_false_eq_true,if_true,decide_false]
    ·have nz:firstNZ [entC l,hE h] ≠ 0 := fun q=>hh (nz2_zero.1 q).2
     rw [h0] at nz e25
     have e28 := m28_err (F := F) (w := nilT (List Int)) nz
     simp only [h0,hd3,ne_eq,not_true_eq_false,if_false,decide_true,cond_true,cond_false,e1,Bool.not_true,e25,nz,not_false_eq_true,if_true,decide_false,Option.bind_some,e28,hlast,show ¬ ((3:Int) = 0) by decide]
  ·have nz:firstNZ [entC l,hE h] = entC l := by simp [firstNZ,h0]
   rw [nz] at e25
   have e1 := m24_err (F := F) (w := nilT Int) h0
   have e28 := m28_err (F := F) (w := nilT (List Int)) h0
   simp only [h0,nz,ne_eq,not_false_eq_true,if_true,decide_false,cond_false,Option.bind_some,e1,Bool.not_true,e25,e28,hlast]
end Go.Proofs.Tryz
