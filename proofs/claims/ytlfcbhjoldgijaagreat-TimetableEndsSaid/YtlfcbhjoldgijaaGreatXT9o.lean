/- Plain law: windows and chains, in the program. Plain law: windows and chains, in the reference; both are the same. And further parts. -/
import Derived.Test.YtlfcbhjoldgijaaGreatXT9n
import Derived.Test.YtlfcbhjoldgijaaGreatXTtCx
import Derived.Test.YtlfcbhjoldgijaaGreatXSxSu
set_option maxRecDepth 100000
set_option linter.unusedVariables false
set_option linter.unusedSimpArgs false
namespace Go.Proofs.Tryz
open Go Go.Sx
theorem both_self {X:Type} (A:Option X) (f:X → X → Bool) (hf:∀ x,f x x = true):(Option.bind A fun v=>Option.bind A fun v'=>gd (f v v') (some v)) = A := by
 cases A with
 | none=>rfl
 | some v=>simp only [Option.bind_some,hf,gd_true]
def lowW (p:Pln):List Int := p.1.map fun x=>x.2.2.2.2.2.1
def highW (p:Pln):List Int := p.1.map fun x=>x.2.2.2.2.2.2 - x.2.1
def edgL (p:Pln):List Edg := p.2.1.map fun o=>(o.1,o.2.1,(rq p o.1).2.1 + o.2.2)
theorem PV.rulM {p:Pln} (h:PV p):∀ r ∈ rulesS p,RulOk p r := fun r hr=>by
 obtain ⟨i,hi,rfl⟩ := List.mem_iff_getElem.1 hr
 exact h.rul (List.getElem?_eq_getElem hi)
theorem win_at {p:Pln} {i:Nat} (h:i < p.1.length):(kW,(i:Int),(i:Int),(0:Int)) ∈ rulesS p := by
 have e := ifl_one (fun i (_:Rnd)=>(kW,(i:Int),(i:Int),(0:Int))) p.1 0 i
 rw [List.getElem?_eq_getElem h] at e
 have := List.mem_of_getElem? (show (ifl winR 0 p.1)[i]? = _ from e)
 unfold rulesS
 simp only [List.append_assoc]
 exact List.mem_append.2 (.inl (by simpa using this))
theorem apartR_kind {p:Pln}:∀ r ∈ apartR p,r.1 = kA ∨ r.1 = kF ∨ r.1 = kT := fun r hr=>by
 obtain ⟨a,x,hx,hr⟩ := ifl_mem hr
 obtain ⟨j,y,hy,hr⟩ := ifl_mem hr
 rcases pairR_mem hr with rfl | rfl | rfl
 ·exact .inl rfl
 ·exact .inr (.inl rfl)
 ·exact .inr (.inr rfl)
theorem winR_kind {p:Pln}:∀ r ∈ ifl winR 0 p.1,r.1 = kW := fun r hr=>by
 obtain ⟨a,x,hx,hr⟩ := ifl_mem hr
 rw [List.mem_singleton.1 hr]
theorem ordR_kind {p:Pln}:∀ r ∈ ifl ordR 0 p.2.1,r.1 = kO := fun r hr=>by
 obtain ⟨a,x,hx,hr⟩ := ifl_mem hr
 rw [List.mem_singleton.1 hr]
theorem filt_O (p:Pln):(rulesS p).filter isO = ifl ordR 0 p.2.1 := by
 unfold rulesS
 rw [List.filter_append,List.filter_append,List.filter_eq_nil_iff.2,List.filter_eq_self.2,List.filter_eq_nil_iff.2]
 ·simp
 ·intro r hr
  rcases apartR_kind r hr with e | e | e <;> simp [isO,e,sAO,sFO,sTO]
 ·intro r hr
  simp [isO,ordR_kind r hr,sOO]
 ·intro r hr
  simp [isO,winR_kind r hr,sWO]
theorem ifl_map1 {α β:Type} (g:α → β):∀ (l:List α) (k:Nat),ifl (fun _ x=>[g x]) k l = l.map g
 | [],k=>rfl
 | x :: l,k=>by simp [ifl,ifl_map1 g l]
theorem ord_edges (p:Pln):(ifl ordR 0 p.2.1).map (edgO p) = edgL p := by
 rw [show ifl ordR 0 p.2.1 = p.2.1.map (fun o=>(kO,o.1,o.2.1,o.2.2)) from ifl_map1 _ _ _,List.map_map]
 rfl
theorem rq_nat {p:Pln} {i:Nat} (h:i < p.1.length):rq p (i:Int) = p.1[i] := by
 simp only [rq,Int.toNat_natCast]
 exact getD_some (List.getElem?_eq_getElem h)
theorem open_WO {p:Pln} (h:PV p) {L:List Rul} (hL:L = (rulesS p).filter fun r=>[kW,kO].any fun y=>strEq r.1 y):openS p L = (lowW p,highW p,edgL p,[]) := by
 have hR:∀ r ∈ L,RulOk p r := fun r hr=>by rw [hL] at hr; exact h.rulM r (List.mem_filter.1 hr).1
 have ho := openS_ok hR
 have hany:∀ i,i < p.1.length → L.any (isW i) = true := fun i hi=>by
  rw [List.any_eq_true]
  refine ⟨(kW,(i:Int),(i:Int),0),?_,by simp [isW,sWW]⟩
  rw [hL,List.mem_filter]
  exact ⟨win_at hi,by simp [sWW]⟩
 have e1:(openS p L).1 = lowW p := list_ext (by rw [ho.n1]; simp [lowW]) (fun i hi=>by
  rw [ho.n1] at hi
  simp only [fL]
  rw [ho.low i hi,if_pos (hany i hi),rq_nat hi]
  exact (getD_some (by simp [lowW,hi])).symm)
 have e2:(openS p L).2.1 = highW p := list_ext (by rw [ho.n2]; simp [highW]) (fun i hi=>by
  rw [ho.n2] at hi
  simp only [fL]
  rw [ho.high i hi,if_pos (hany i hi),rq_nat hi]
  exact (getD_some (by simp [highW,hi])).symm)
 have e3:(openS p L).2.2.1 = edgL p := by
  rw [ho.edges,hL,List.filter_filter,← ord_edges,← filt_O]
  congr 1
  apply List.filter_congr
  intro r hr
  simp only [isO,List.any_cons,List.any_nil,Bool.or_false]
  cases strEq r.1 kO <;> simp
 have e4:(openS p L).2.2.2 = [] := by
  rw [ho.apart,hL,List.filter_filter,List.filter_eq_nil_iff]
  intro r hr
  simp only [isP,List.any_cons,List.any_nil,Bool.or_false]
  cases strEq r.1 kO <;> cases strEq r.1 kW <;> simp
 rw [← e1,← e2,← e3,← e4]
theorem open_O {p:Pln} (h:PV p) {L:List Rul} (hL:L = (rulesS p).filter fun r=>[kO].any fun y=>strEq r.1 y):openS p L = (List.replicate p.1.length 0,List.replicate p.1.length 1099511627776,edgL p,[]) := by
 have hR:∀ r ∈ L,RulOk p r := fun r hr=>by rw [hL] at hr; exact h.rulM r (List.mem_filter.1 hr).1
 have ho := openS_ok hR
 have hany:∀ i,¬ L.any (isW i) = true := fun i=>by
  rw [List.any_eq_true]
  rintro ⟨r,hr,hw⟩
  rw [hL,List.mem_filter] at hr
  have h2 := hr.2
  simp only [isW,Bool.and_eq_true] at hw
  simp only [List.any_cons,List.any_nil,Bool.or_false,strEq_true.1 hw.1,sWO] at h2
  cases h2
 have e1:(openS p L).1 = List.replicate p.1.length 0 := list_ext (by rw [ho.n1]; simp) (fun i hi=>by
  rw [ho.n1] at hi
  simp only [fL]
  rw [ho.low i hi,if_neg (hany i)]
  exact (rep_getD hi).symm)
 have e2:(openS p L).2.1 = List.replicate p.1.length 1099511627776 := list_ext (by rw [ho.n2]; simp) (fun i hi=>by
  rw [ho.n2] at hi
  simp only [fL]
  rw [ho.high i hi,if_neg (hany i)]
  exact (rep_getD hi).symm)
 have e3:(openS p L).2.2.1 = edgL p := by
  rw [ho.edges,hL,List.filter_filter,← ord_edges,← filt_O]
  congr 1
  apply List.filter_congr
  intro r hr
  simp only [isO,List.any_cons,List.any_nil,Bool.or_false,Bool.and_self]
 have e4:(openS p L).2.2.2 = [] := by
  rw [ho.apart,hL,List.filter_filter,List.filter_eq_nil_iff]
  intro r hr
  simp only [isP,List.any_cons,List.any_nil,Bool.or_false]
  cases strEq r.1 kO <;> cases strEq r.1 kW <;> simp
 rw [← e1,← e2,← e3,← e4]
theorem edgL_ew {p:Pln} (h:PV p):∀ e ∈ edgL p,EW p.1.length e := by
 intro e he
 obtain ⟨o,ho,rfl⟩ := List.mem_map.1 he
 obtain ⟨b1,b2,b3,b4⟩ := h.ord o ho
 have b5 := (h.at b1.1 b1.2).1
 exact ⟨⟨b1,b2⟩,by simp only []; omega,by simp only []; omega⟩
theorem lowW_in {p:Pln} (h:PV p):InB 4398046511104 (lowW p) := by
 intro x hx
 obtain ⟨y,hy,rfl⟩ := List.mem_map.1 hx
 have := (h.rnd y hy).2.1
 omega
theorem highW_in {p:Pln} (h:PV p):InL 5000 (highW p) := by
 intro x hx
 obtain ⟨y,hy,rfl⟩ := List.mem_map.1 hx
 have := h.rnd y hy
 omega
theorem earlS_len {low high:List Int} {E:List Edg} (hE:∀ e ∈ E,EOk low.length e) (h:(earlS low high E).2 = true):(earlS low high E).1.length = low.length := by
 unfold earlS at h ⊢
 cases hb:bfS E low.length low with
 | none=>simp [hb] at h
 | some t =>
  simp only [hb] at h ⊢
  split at h
  ·cases h
  ·rename_i hc
   rw [if_neg hc]
   exact (bfS_spec hE hb).1
def winsS (p:Pln):List (Int × Int) × Int := if (earlS (lowW p) (highW p) (edgL p)).2 = true then ((earlS (lowW p) (highW p) (edgL p)).1.zip (latS (edgL p) p.1.length (highW p)),0) else (nilT (Int × Int),23)
theorem l17 {F:Nat} (hF:4000 ≤ F) {p:Pln} (h:PShort p):c17 F p = some (if planE p = 0 then winsS p else (nilT (Int × Int),planE p)) := by
 unfold c17
 simp only [peta,l51 (show 400 ≤ F by omega) h.sm,Option.bind_some]
 by_cases h0:planE p = 0
 ·have hv := PV.of h h0
  have hl := rulesS_len h.1 h.2.1
  have hn := hv.n1
  have hb:∀ (A:Option (List (Int × Int) × Int)),(Option.bind A fun v=>Option.bind A fun v'=>gd (AEls.eqv (ATy.val (Ty.seq (Ty.int Go.IntKind.i64 :: Ty.int Go.IntKind.i64 :: nilT Ty)) :: ATy.val (Ty.int Go.IntKind.i64) :: nilT ATy) v v') (some v)) = A := fun A=>both_self A _ (fun x=>AEls.eqv_rf (ATy.val (Ty.seq (Ty.int Go.IntKind.i64 :: Ty.int Go.IntKind.i64 :: nilT Ty)) :: ATy.val (Ty.int Go.IntKind.i64) :: nilT ATy) x)
  simp only [hb]
  simp only [h0,decide_true,Bool.not_true,cond_false,if_true,l65 (show 400 ≤ F by omega) h,Option.bind_some,eW,eO]
  rw [x64 hF (by omega) (by simp [nilT])]
  simp only [Option.bind_some]
  generalize hL:((rulesS p).filter fun r=>(kW :: kO :: nilT ByteArray).any fun y=>strEq r.1 y) = L
  have hLl:L.length ≤ 3000 := by rw [← hL]; exact Nat.le_trans (List.length_filter_le _ _) (by omega)
  have hR:∀ r ∈ L,RulOk p r := fun r hr=>by rw [← hL] at hr; exact hv.rulM r (List.mem_filter.1 hr).1
  rw [l63 hF hv hLl hR,open_WO hv hL.symm]
  have hlw:(lowW p).length = p.1.length := by simp [lowW]
  have hhw:(highW p).length = p.1.length := by simp [highW]
  have hel:(edgL p).length ≤ 3000 := by have := hv.n2; simp [edgL]; omega
  simp only [Option.bind_some]
  rw [l66 hF (by omega) (by omega) (by rw [hlw]; exact edgL_ew hv) hel (lowW_in hv)]
  simp only [Option.bind_some]
  unfold winsS
  have hel2 := earlS_len (high := highW p) (low := lowW p) (E := edgL p) (fun e he=>by rw [hlw]; exact (edgL_ew hv e he).1)
  generalize earlS (lowW p) (highW p) (edgL p) = r at hel2
  obtain ⟨t,b⟩ := r
  cases b with
  | false=>simp
  | true =>
   have htl:t.length = p.1.length := (hel2 rfl).trans hlw
   simp only [Bool.not_true,cond_false,if_true]
   rw [l67 hF (by omega) (by rw [hhw]; exact edgL_ew hv) hel (highW_in hv)]
   simp only [Option.bind_some,hhw]
   have hll := latS_len (edgL p) p.1.length (highW p)
   generalize latS (edgL p) p.1.length (highW p) = u at hll
   have hz:(t.zip u).length = p.1.length := by rw [List.length_zip]; omega
   refine bind_list (t.zip u) (fun (s:List (Int × Int)) i=>(s,(i:Int))) (fun x s=>.inl (s ++ [x])) (fun s=>s) (fun i s=>s.length = i) [] (by omega) rfl rfl ?_ ?_ ?_
   ·intro i x s hi hx hs
    obtain ⟨hx1,hx2⟩ := List.getElem?_zip_eq_some.1 hx
    simp (disch := omega) only [cd_pos,gd_dec,w64_in,Int.toNat_natCast,getD_some hx1,getD_some hx2,len_snoc,decide_true,Bool.and_self,gd_true,Option.bind_some]
    refine ⟨rfl,?_⟩
    intro s' hs'
    injection hs' with hs'
    rw [← hs']
    simp [hs]
   ·intro s hs
    rw [hz]
    simp (disch := omega) only [cd_neg,decide_true,Bool.and_self,gd_true,Option.bind_some]
   ·rw [goL_append (fun x:Int × Int=>x)]
    simp only [List.nil_append,List.map_id',take_all,Nat.zero_add,Nat.le_refl,decide_true,Bool.and_self,gd_true]
 ·simp [h0]
def chainS (p:Pln):Int × Int := match bfS (edgL p) p.1.length (List.replicate p.1.length 0) with
 | some t=>(endS p t,0)
 | none=>(0,23)
theorem bfS_in {E:List Edg} {n:Nat} (hE:∀ e ∈ E,EW n e) (hl:E.length ≤ 3000):∀ {k:Nat} {b:Int} {t t':List Int},t.length = n → InB b t → bfS E k t = some t' → InB (b + 15000000 * ((k:Int) + 1)) t'
 | 0,b,t,t',ht,hb,h=>by
  have := pass_in hb (fun e he=>by rw [ht]; exact hE e he) hl
  unfold bfS at h
  split at h
  ·cases h
  ·cases h; exact this.mono (by omega)
 | k + 1,b,t,t',ht,hb,h=>by
  have := pass_in hb (fun e he=>by rw [ht]; exact hE e he) hl
  unfold bfS at h
  split at h
  ·exact (bfS_in hE hl (by rw [pass_len]; exact ht) this h).mono (by omega)
  ·cases h; exact this.mono (by omega)
theorem TOk.ofB {p:Pln} {t:List Int} (hl:t.length = p.1.length) (hb:InB 4398046511104 t):TOk p t := ⟨hl,hb⟩
theorem l18 {F:Nat} (hF:4000 ≤ F) {p:Pln} (h:PShort p):c18 F p = some (if planE p = 0 then chainS p else (0,planE p)) := by
 unfold c18
 simp only [peta,l51 (show 400 ≤ F by omega) h.sm,Option.bind_some]
 by_cases h0:planE p = 0
 ·have hv := PV.of h h0
  have hl := rulesS_len h.1 h.2.1
  have hn := hv.n1
  have hb:∀ (A:Option (Int × Int)),(Option.bind A fun v=>Option.bind A fun v'=>gd (AEls.eqv (ATy.val (Ty.int Go.IntKind.i64) :: ATy.val (Ty.int Go.IntKind.i64) :: nilT ATy) v v') (some v)) = A := fun A=>both_self A _ (fun x=>AEls.eqv_rf (ATy.val (Ty.int Go.IntKind.i64) :: ATy.val (Ty.int Go.IntKind.i64) :: nilT ATy) x)
  simp only [hb]
  simp only [h0,decide_true,Bool.not_true,cond_false,if_true,l65 (show 400 ≤ F by omega) h,Option.bind_some,eW,eO]
  rw [x64 hF (by omega) (by simp [nilT])]
  simp only [Option.bind_some]
  generalize hL:((rulesS p).filter fun r=>(kO :: nilT ByteArray).any fun y=>strEq r.1 y) = L
  have hLl:L.length ≤ 3000 := by rw [← hL]; exact Nat.le_trans (List.length_filter_le _ _) (by omega)
  have hR:∀ r ∈ L,RulOk p r := fun r hr=>by rw [← hL] at hr; exact hv.rulM r (List.mem_filter.1 hr).1
  rw [l63 hF hv hLl hR,open_O hv hL.symm]
  have hel:(edgL p).length ≤ 3000 := by have := hv.n2; simp [edgL]; omega
  have hb0:InB 0 (List.replicate p.1.length (0:Int)) := fun x hx=>by have := List.eq_of_mem_replicate hx; omega
  simp only [Option.bind_some]
  rw [l66 hF (by simp; omega) (by simp) (by simpa using edgL_ew hv) hel (hb0.mono (by omega))]
  simp only [Option.bind_some]
  unfold chainS earlS
  simp only [List.length_replicate]
  cases hb:bfS (edgL p) p.1.length (List.replicate p.1.length 0) with
  | none=>simp
  | some t =>
   have htl := (bfS_spec (t := List.replicate p.1.length (0:Int)) (by simpa using fun e he=>(edgL_ew hv e he).1) hb).1
   have hti := bfS_in (edgL_ew hv) hel (by simp) hb0 hb
   simp only [List.length_replicate] at htl
   have hno:((t.zip (List.replicate p.1.length (1099511627776:Int))).any fun x=>decide (x.2 < x.1)) = false := by
    rw [List.any_eq_false]
    intro x hx
    have h1 := hti _ (List.of_mem_zip hx).1
    have h2 := List.eq_of_mem_replicate (List.of_mem_zip hx).2
    simp only [decide_eq_true_eq]
    omega
   simp only [hno,Bool.false_eq_true,if_false,Bool.not_true,cond_false]
   rw [l68 (show 400 ≤ F by omega) hv (TOk.ofB htl (hti.mono (by omega)))]
   rfl
 ·simp [h0]
theorem dec_rec {p:Prop} (i:Decidable p) (h:p):(Decidable.rec (motive := fun _=>Bool) (fun h=>(fun _=>false) h) (fun h=>(fun _=>true) h) i) = true := by
 cases i with
 | isTrue _=>rfl
 | isFalse h'=>exact absurd h h'
theorem any_zip_lt {a b:List Int} {n:Nat} (ha:a.length = n) (hb:b.length = n) (f:Int → Int):((a.zip b).any fun x=>decide (f x.2 < x.1)) = true ↔ ¬ ∀ i,i < n → fL a i ≤ f (fL b i) := by
 constructor
 ·intro h hall
  rw [List.any_eq_true] at h
  obtain ⟨x,hx,hlt⟩ := h
  obtain ⟨i,hi,rfl⟩ := List.mem_iff_getElem.1 hx
  rw [List.length_zip] at hi
  have := hall i (by omega)
  simp only [fL] at this
  rw [getD_some (List.getElem?_eq_getElem (show i < a.length by omega)),getD_some (List.getElem?_eq_getElem (show i < b.length by omega))] at this
  simp only [List.getElem_zip,decide_eq_true_eq] at hlt
  omega
 ·intro h
  apply Classical.byContradiction
  intro hn
  apply h
  intro i hi
  have hf:((a.zip b).any fun x=>decide (f x.2 < x.1)) = false := by simpa using hn
  rw [List.any_eq_false] at hf
  have := hf (a[i],b[i]) (List.mem_iff_getElem.2 ⟨i,by rw [List.length_zip]; omega,by simp⟩)
  simp only [fL]
  rw [getD_some (List.getElem?_eq_getElem (show i < a.length by omega)),getD_some (List.getElem?_eq_getElem (show i < b.length by omega))]
  simp only [decide_eq_true_eq] at this
  omega
theorem l14 {F:Nat} {p:Pln} (h1:p.1.length < F) (h2:p.2.1.length < F) (hb1:p.1.length * 112 ≤ 140737488351232) (hb2:p.2.1.length * 24 ≤ 140737488351232):c14 F p = some p := by
 unfold c14
 refine bind_list p.1 (fun (_:Unit) i=>(p.2.2,p.1.take i,(i:Int))) (fun _ _=>.inl ()) (fun _=>(p.2.2,p.1)) (fun _ _=>True) () h1 rfl trivial ?_ ?_ ?_
 ·intro i x _ hi hx _
  refine ⟨?_,fun _ _=>trivial⟩
  have hl := len_take (l := p.1) (i := i) (by omega)
  have hl' := len_take (l := p.1) (i := i + 1) (by omega)
  simp (disch := omega) only [cd_pos,gd_dec,w64_in,Int.toNat_natCast,getD_some hx,peta,take_snoc hx,hl,hl',decide_true,Bool.and_self,gd_true,Option.bind_some]
  rfl
 ·intro _ _
  simp (disch := omega) only [cd_neg,List.take_length,decide_true,Bool.and_self,gd_true,Option.bind_some]
 ·rw [goL_unit]
  simp only [decide_true,Bool.and_self,gd_true,Option.bind_some]
  refine bind_list p.2.1 (fun (_:Unit) i=>(p.2.2,p.1,p.2.1.take i,(i:Int))) (fun _ _=>.inl ()) (fun _=>(p.2.2,p.1,p.2.1)) (fun _ _=>True) () h2 rfl trivial ?_ ?_ ?_
  ·intro i x _ hi hx _
   refine ⟨?_,fun _ _=>trivial⟩
   have hl := len_take (l := p.2.1) (i := i) (by omega)
   have hl' := len_take (l := p.2.1) (i := i + 1) (by omega)
   simp (disch := omega) only [cd_pos,gd_dec,w64_in,Int.toNat_natCast,getD_some hx,peta,take_snoc hx,hl,hl',decide_true,Bool.and_self,gd_true,Option.bind_some]
   rfl
  ·intro _ _
   simp (disch := omega) only [cd_neg,List.take_length,decide_true,Bool.and_self,gd_true,Option.bind_some]
  ·rw [goL_unit]
   simp only [take_all,Nat.zero_add,Nat.le_refl,decide_true,Bool.and_self,gd_true]
def roomP (p:Pln) (t:List Int):Nat := p.1.length + p.2.1.length + t.length + 4000
structure TabW (low high:List Int) (E:List Edg) (f:List Int):Prop where
 len:f.length = low.length
 lo:LeF low.length (fL low) (fL f)
 hi:LeF low.length (fL f) (fL high)
 sol:SolF E (fL f)
theorem SolF.app {E E':List Edg} {f:Nat → Int}:SolF (E ++ E') f ↔ SolF E f ∧ SolF E' f := by
 unfold SolF
 simp only [List.mem_append]
 exact ⟨fun h=>⟨fun e he=>h e (.inl he),fun e he=>h e (.inr he)⟩,fun h e he=>he.elim (h.1 e) (h.2 e)⟩
theorem SolF.one {e:Edg} {f:Nat → Int}:SolF [e] f ↔ f e.1.toNat + e.2.2 ≤ f e.2.1.toNat := by
 unfold SolF
 simp
theorem earl_true {low high:List Int} {E:List Edg} (hh:high.length = low.length) (hE:∀ e ∈ E,EOk low.length e) (h:(earlS low high E).2 = true) :
  TabW low high E (earlS low high E).1 ∧ ∀ f,f.length = low.length → LeF low.length (fL low) (fL f) → SolF E (fL f) → LeF low.length (fL (earlS low high E).1) (fL f) := by
 unfold earlS at h ⊢
 cases hb:bfS E low.length low with
 | none=>simp [hb] at h
 | some t =>
  simp only [hb] at h ⊢
  obtain ⟨h1,h2,h3,h4⟩ := bfS_spec hE hb
  by_cases hz:((t.zip high).any fun x=>decide (x.2 < x.1)) = true
  ·simp [hz] at h
  ·rw [if_neg hz]
   refine ⟨⟨h1,fun i _=>h3 i,?_,h2⟩,fun f _ h5 h6=>h4 _ h6 h5⟩
   intro i hi
   apply Classical.byContradiction
   intro hn
   exact hz ((any_zip_lt (n := low.length) h1 hh fun x=>x).2 fun hall=>hn (hall i hi))
theorem earl_false {low high:List Int} {E:List Edg} (hh:high.length = low.length) (hE:∀ e ∈ E,EOk low.length e) (h:(earlS low high E).2 ≠ true) (f:List Int):¬ TabW low high E f := fun hf=>by
 unfold earlS at h
 obtain ⟨t,ht⟩ := bfS_some (f := fL f) hE hf.sol hf.lo
 simp only [ht] at h
 obtain ⟨h1,h2,h3,h4⟩ := bfS_spec hE ht
 by_cases hz:((t.zip high).any fun x=>decide (x.2 < x.1)) = true
 ·exact (any_zip_lt (n := low.length) h1 hh fun x=>x).1 hz fun i hi=>Int.le_trans (h4 _ hf.sol hf.lo i hi) (hf.hi i hi)
 ·rw [if_neg hz] at h
  exact h rfl
def e1 (p:Pln) (r:Rul):Edg := (r.2.1,r.2.2.1,(rq p r.2.1).2.1 + r.2.2.2)
def e2 (p:Pln) (r:Rul):Edg := (r.2.2.1,r.2.1,(rq p r.2.2.1).2.1 + r.2.2.2)
def RulP (p:Pln) (r:Rul):Prop := RulOk p r ∧ isP r = true
theorem hold_or {p:Pln} {t:List Int} {r:Rul} (h:RulP p r):holdS p t r = true ↔ SolF [e1 p r] (fL t) ∨ SolF [e2 p r] (fL t) := by
 obtain ⟨h1,h2⟩ := h
 unfold isP at h2
 have a1:¬ strEq r.1 kW = true := by intro e; simp [e] at h2
 have a2:¬ strEq r.1 kO = true := by intro e; simp [e] at h2
 unfold holdS
 rw [if_neg a1,if_neg a2,SolF.one,SolF.one,Bool.or_eq_true]
 unfold befS
 simp only [decide_eq_true_eq,e1,e2,tq,fL]
 constructor
 ·rintro (h | h)
  ·left; omega
  ·right; omega
 ·rintro (h | h)
  ·left; omega
  ·right; omega
def find1 (p:Pln) (A:List Rul) (t:List Int):Option Rul := A.find? fun r=>!holdS p t r
def tryS {σ:Type} (p:Pln) (low high:List Int) (A:List Rul) (better:σ → List Int → Bool) (found:σ → List Int → Bool × σ):Nat → List Edg → σ → Option (Bool × σ)
 | 0,_,_=>none
 | k + 1,E,s =>
  if (earlS low high E).2 = true ∧ better s (earlS low high E).1 = true then
   match find1 p A (earlS low high E).1 with
   | none=>some (found s (earlS low high E).1)
   | some r =>
    match tryS p low high A better found k (E ++ [e1 p r]) s with
    | none=>none
    | some (true,s1)=>some (true,s1)
    | some (false,s1)=>tryS p low high A better found k (E ++ [e2 p r]) s1
  else some (false,s)
structure SolS (p:Pln) (low high:List Int) (A:List Rul) (E:List Edg) (f:List Int):Prop where
 tab:TabW low high E f
 rul:∀ r ∈ A,holdS p f r = true
theorem SolS.less {p:Pln} {low high:List Int} {A:List Rul} {E:List Edg} {e:Edg} {f:List Int} (h:SolS p low high A (E ++ [e]) f):SolS p low high A E f :=
 ⟨⟨h.tab.len,h.tab.lo,h.tab.hi,(SolF.app.1 h.tab.sol).1⟩,h.rul⟩
theorem SolS.more {p:Pln} {low high:List Int} {A:List Rul} {E:List Edg} {f:List Int} (h:SolS p low high A E f) {r:Rul} (hr:r ∈ A) (hp:RulP p r):SolS p low high A (E ++ [e1 p r]) f ∨ SolS p low high A (E ++ [e2 p r]) f := by
 rcases (hold_or hp).1 (h.rul r hr) with h1 | h1
 ·exact .inl ⟨⟨h.tab.len,h.tab.lo,h.tab.hi,SolF.app.2 ⟨h.tab.sol,h1⟩⟩,h.rul⟩
 ·exact .inr ⟨⟨h.tab.len,h.tab.lo,h.tab.hi,SolF.app.2 ⟨h.tab.sol,h1⟩⟩,h.rul⟩
theorem find1_none {p:Pln} {A:List Rul} {t:List Int} (h:find1 p A t = none):∀ r ∈ A,holdS p t r = true := fun r hr=>by
 have := List.find?_eq_none.1 h r hr
 simpa using this
theorem find1_some {p:Pln} {A:List Rul} {t:List Int} {r:Rul} (h:find1 p A t = some r):r ∈ A ∧ holdS p t r = false := by
 have h2 := List.find?_some h
 exact ⟨List.mem_of_find?_eq_some h,by simpa using h2⟩
theorem rul_eok {p:Pln} {r:Rul} (h:RulP p r):EOk p.1.length (e1 p r) ∧ EOk p.1.length (e2 p r) :=
 ⟨⟨h.1.a,h.1.b⟩,⟨h.1.b,h.1.a⟩⟩
structure Aim {σ:Type} (p:Pln) (low high:List Int) (A:List Rul) (E0:List Edg) (better:σ → List Int → Bool) (found:σ → List Int → Bool × σ) (Post:Bool → σ → σ → Prop) (G:σ → List Int → Prop) (Q:σ → Prop):Prop where
 refl:∀ s,Post false s s
 comp:∀ {s s1 s2 b},Post false s s1 → Post b s1 s2 → Post b s s2
 fnd:∀ {s t},better s t = true → t.length = low.length → Post (found s t).1 s (found s t).2
 mono:∀ {b s s' f},Post b s s' → G s f → G s' f
 g1:∀ {s t f},better s t = false → t.length = low.length → f.length = low.length → LeF low.length (fL t) (fL f) → G s f
 g2:∀ {s t f},(found s t).1 = false → t.length = low.length → f.length = low.length → LeF low.length (fL t) (fL f) → G (found s t).2 f
 q:∀ {s t},Q s → better s t = true → SolS p low high A E0 t → Q (found s t).2
theorem tryS_ok {σ:Type} {p:Pln} {low high:List Int} {A:List Rul} {E0:List Edg} {better:σ → List Int → Bool} {found:σ → List Int → Bool × σ} {Post:Bool → σ → σ → Prop} {G:σ → List Int → Prop} {Q:σ → Prop}
  (h:Aim p low high A E0 better found Post G Q) (hl:low.length = p.1.length) (hh:high.length = p.1.length) (hA:∀ r ∈ A,RulP p r) :
  ∀ (k:Nat) (E:List Edg) (s:σ) (b:Bool) (s':σ),(∀ e ∈ E,EOk p.1.length e) → (∀ f,SolS p low high A E f → SolS p low high A E0 f) → tryS p low high A better found k E s = some (b,s') →
   Post b s s' ∧ (b = false → ∀ f,SolS p low high A E f → G s' f) ∧ (Q s → Q s') ∧ (b = true → ∃ t,SolS p low high A E t)
 | 0,_,_,_,_,_,_,hk=>by cases hk
 | k + 1,E,s,b,s',hE,hE0,hk=>by
  unfold tryS at hk
  have hE':∀ e ∈ E,EOk low.length e := fun e he=>by rw [hl]; exact hE e he
  have hh':high.length = low.length := hh.trans hl.symm
  by_cases hc:(earlS low high E).2 = true ∧ better s (earlS low high E).1 = true
  ·rw [if_pos hc] at hk
   obtain ⟨hw,hle⟩ := earl_true hh' hE' hc.1
   generalize (earlS low high E).1 = t at hk hc hw hle
   cases hf:find1 p A t with
   | none =>
    simp only [hf,Option.some.injEq] at hk
    have hsol:SolS p low high A E t := ⟨hw,find1_none hf⟩
    obtain ⟨rfl,rfl⟩:(found s t).1 = b ∧ (found s t).2 = s' := ⟨congrArg Prod.fst hk,congrArg Prod.snd hk⟩
    exact ⟨h.fnd hc.2 hw.len,fun hb f hf'=>h.g2 hb hw.len hf'.tab.len (hle f hf'.tab.len hf'.tab.lo hf'.tab.sol),fun hQ=>h.q hQ hc.2 (hE0 _ hsol),fun _=>⟨t,hsol⟩⟩
   | some r =>
    obtain ⟨hrA,hrb⟩ := find1_some hf
    have hrp := hA r hrA
    obtain ⟨o1,o2⟩ := rul_eok hrp
    have hEa:∀ e ∈ E ++ [e1 p r],EOk p.1.length e := fun e he=>by
     rcases List.mem_append.1 he with h1 | h1
     ·exact hE e h1
     ·rw [List.mem_singleton.1 h1]; exact o1
    have hEb:∀ e ∈ E ++ [e2 p r],EOk p.1.length e := fun e he=>by
     rcases List.mem_append.1 he with h1 | h1
     ·exact hE e h1
     ·rw [List.mem_singleton.1 h1]; exact o2
    simp only [hf] at hk
    cases h1:tryS p low high A better found k (E ++ [e1 p r]) s with
    | none=>simp only [h1] at hk; cases hk
    | some x =>
     obtain ⟨b1,s1⟩ := x
     obtain ⟨i1,i2,i3,i4⟩ := tryS_ok h hl hh hA k _ s b1 s1 hEa (fun f hf'=>hE0 f hf'.less) h1
     cases b1 with
     | true =>
      simp only [h1,Option.some.injEq,Prod.mk.injEq] at hk
      obtain ⟨rfl,rfl⟩ := hk
      exact ⟨i1,(fun hb=>by cases hb),i3,fun _=>(i4 rfl).imp fun _=>SolS.less⟩
     | false =>
      simp only [h1] at hk
      obtain ⟨j1,j2,j3,j4⟩ := tryS_ok h hl hh hA k _ s1 b s' hEb (fun f hf'=>hE0 f hf'.less) hk
      refine ⟨h.comp i1 j1,fun hb f hf'=>?_,fun hQ=>j3 (i3 hQ),fun hb=>(j4 hb).imp fun _=>SolS.less⟩
      rcases hf'.more hrA hrp with h2 | h2
      ·exact h.mono j1 (i2 rfl f h2)
      ·exact j2 hb f h2
  ·rw [if_neg hc] at hk
   obtain ⟨rfl,rfl⟩:false = b ∧ s = s' := by
    have := Option.some.inj hk
    exact ⟨congrArg Prod.fst this,congrArg Prod.snd this⟩
   refine ⟨h.refl s,fun _ f hf=>?_,id,fun hb=>by cases hb⟩
   by_cases he:(earlS low high E).2 = true
   ·have hb:better s (earlS low high E).1 = false := by
     cases hbb:better s (earlS low high E).1 with
     | true=>exact absurd ⟨he,hbb⟩ hc
     | false=>rfl
    obtain ⟨hw,hle⟩ := earl_true hh' hE' he
    exact h.g1 hb hw.len hf.tab.len (hle f hf.tab.len hf.tab.lo hf.tab.sol)
   ·exact absurd hf.tab (earl_false hh' hE' he f)
def openR (p:Pln) (A:List Rul) (E:List Edg):List Rul := A.filter fun r=>decide (¬ e1 p r ∈ E ∧ ¬ e2 p r ∈ E)
theorem filter_lt {α:Type} {P Q:α → Bool}:∀ {l:List α},(∀ x ∈ l,Q x = true → P x = true) → (∃ x ∈ l,P x = true ∧ Q x = false) → (l.filter Q).length < (l.filter P).length
 | [],_,h=>by obtain ⟨x,hx,_⟩ := h; cases hx
 | a :: l,h,hx=>by
  have hle:∀ {m:List α},(∀ x ∈ m,Q x = true → P x = true) → (m.filter Q).length ≤ (m.filter P).length := by
   intro m hm
   induction m with
   | nil=>exact Nat.le_refl _
   | cons b m ih =>
    have := ih fun x hx=>hm x (by simp [hx])
    have hb := hm b (by simp)
    simp only [List.filter_cons]
    cases hq:Q b with
    | true=>simp only [hb hq,if_true,List.length_cons]; omega
    | false =>
     simp only [Bool.false_eq_true,if_false]
     cases P b
     ·exact this
     ·exact Nat.le_succ_of_le this
  have ha := h a (by simp)
  obtain ⟨x,hxm,hp,hq⟩ := hx
  simp only [List.filter_cons]
  rcases List.mem_cons.1 hxm with rfl | hxm
  ·have := hle (m := l) fun y hy=>h y (List.mem_cons_of_mem _ hy)
   simp only [hp,hq,if_true,Bool.false_eq_true,if_false,List.length_cons]
   omega
  ·have := filter_lt (fun y hy=>h y (by simp [hy])) ⟨x,hxm,hp,hq⟩
   cases hqa:Q a with
   | true=>simp only [ha hqa,if_true,List.length_cons]; omega
   | false =>
    simp only [Bool.false_eq_true,if_false]
    cases P a
    ·exact this
    ·exact Nat.lt_succ_of_lt this
theorem openR_lt {p:Pln} {A:List Rul} {E:List Edg} {e:Edg} {r:Rul} (hr:r ∈ A) (h1:¬ e1 p r ∈ E) (h2:¬ e2 p r ∈ E) (he:e = e1 p r ∨ e = e2 p r):(openR p A (E ++ [e])).length < (openR p A E).length := by
 refine filter_lt (fun x _ hx=>?_) ⟨r,hr,by simp [h1,h2],?_⟩
 ·simp only [decide_eq_true_eq,List.mem_append,not_or] at hx ⊢
  exact ⟨hx.1.1,hx.2.1⟩
 ·rcases he with rfl | rfl <;> simp
theorem tryS_some {σ:Type} {p:Pln} {low high:List Int} {A:List Rul} {better:σ → List Int → Bool} {found:σ → List Int → Bool × σ}
  (hl:low.length = p.1.length) (hh:high.length = p.1.length) (hA:∀ r ∈ A,RulP p r) :
  ∀ (k:Nat) (E:List Edg) (s:σ),(∀ e ∈ E,EOk p.1.length e) → (openR p A E).length < k → ∃ x,tryS p low high A better found k E s = some x
 | 0,_,_,_,hk=>by omega
 | k + 1,E,s,hE,hk=>by
  unfold tryS
  have hE':∀ e ∈ E,EOk low.length e := fun e he=>by rw [hl]; exact hE e he
  have hh':high.length = low.length := hh.trans hl.symm
  by_cases hc:(earlS low high E).2 = true ∧ better s (earlS low high E).1 = true
  ·rw [if_pos hc]
   obtain ⟨hw,-⟩ := earl_true hh' hE' hc.1
   generalize (earlS low high E).1 = t at hc hw
   cases hf:find1 p A t with
   | none=>exact ⟨_,rfl⟩
   | some r =>
    obtain ⟨hrA,hrb⟩ := find1_some hf
    have hrp := hA r hrA
    obtain ⟨o1,o2⟩ := rul_eok hrp
    have n1:¬ e1 p r ∈ E := fun he=>by
     have := (hold_or hrp (t := t)).2 (.inl (SolF.one.2 (hw.sol _ he)))
     rw [this] at hrb; cases hrb
    have n2:¬ e2 p r ∈ E := fun he=>by
     have := (hold_or hrp (t := t)).2 (.inr (SolF.one.2 (hw.sol _ he)))
     rw [this] at hrb; cases hrb
    have hEa:∀ e ∈ E ++ [e1 p r],EOk p.1.length e := fun e he=>by
     rcases List.mem_append.1 he with h1 | h1
     ·exact hE e h1
     ·rw [List.mem_singleton.1 h1]; exact o1
    have hEb:∀ e ∈ E ++ [e2 p r],EOk p.1.length e := fun e he=>by
     rcases List.mem_append.1 he with h1 | h1
     ·exact hE e h1
     ·rw [List.mem_singleton.1 h1]; exact o2
    have l1 := openR_lt (e := e1 p r) hrA n1 n2 (.inl rfl)
    have l2 := openR_lt (e := e2 p r) hrA n1 n2 (.inr rfl)
    obtain ⟨⟨b1,s1⟩,h1⟩ := tryS_some (better := better) (found := found) hl hh hA k _ s hEa (by omega)
    simp only [h1]
    cases b1 with
    | true=>exact ⟨_,rfl⟩
    | false=>exact tryS_some hl hh hA k _ s1 hEb (by omega)
  ·rw [if_neg hc]
   exact ⟨_,rfl⟩
def delRen:Shelf.Ren := ⟨fun x=>match x with | 23=>84 | y=>y,fun x=>match x with | 22=>49 | y=>y,fun x=>x⟩
theorem layDel:Proofs.Lays2.n23 cx.P delRen := {
 mixed := by kernel_rfl
 f23 := by kernel_rfl
 t0 := by kernel_rfl
 a0 := fun w=>by kernel_rfl
 z0 := fun w=>by kernel_rfl
 v0 := fun w=>by kernel_rfl
 t3 := by kernel_rfl
 a3 := fun w=>by kernel_rfl
 z3 := fun w=>by kernel_rfl
 v3 := fun w=>by kernel_rfl
 t4 := by kernel_rfl
 a4 := fun w=>by kernel_rfl
 z4 := fun w=>by kernel_rfl
 v4 := fun w=>by kernel_rfl
 t22 := by kernel_rfl
 a22 := fun w=>by kernel_rfl
 z22 := fun w=>by kernel_rfl
 v22 := fun w=>by kernel_rfl
 i3 := by kernel_rfl }
theorem del84_ok:SmOk cx 84 delSm := delSm_ok (ρ0 := delRen) (g := 84) rfl ⟨f84,by kernel_rfl⟩ layDel
end Go.Proofs.Tryz
