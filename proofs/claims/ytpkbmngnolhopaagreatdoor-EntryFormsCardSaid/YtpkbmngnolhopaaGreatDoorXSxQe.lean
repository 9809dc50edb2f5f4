/- Part Qe of the own logic: what a function comes to, as a function of its data: the evaluator. Part Qf of the own logic: functions of data and their summaries. And further parts. -/
import Derived.Test.YtpkbmngnolhopaaGreatDoorXSxQb
import GoSem.ClaimJoined
set_option linter.unusedVariables false
set_option linter.unusedSimpArgs false
set_option linter.unnecessarySimpa false
set_option maxRecDepth 100000
section
namespace Go.Sx
open Go
inductive Ann where
 | leaf
 | one (a:Ann)
 | two (a b:Ann)
 | loop (τ:Tmpl) (l:Alts) (f:Foot) (F:Nat) (a:Ann)
 | join (l:Alts) (f:Foot) (a:Ann)
 | virt (slot ty:Nat) (row:List Ty) (a:Ann)
 | within (l:List (Nat × Ann))
 | virtF (ob col ty:Nat) (row:List Ty) (a:Ann)
 | typ (k ty:Nat) (row:List Ty) (a:Ann)
 | phase (τ:Tmpl) (l:Alts) (f:Foot) (F:Nat) (a b:Ann)
 | low
 | slb (slot:Nat) (a:Ann)
 | unslb (slot:Nat) (a:Ann)
def Ann.fst:Ann → Ann
 | .one a=>a
 | .two a _=>a
 | _=>.leaf
def Ann.snd:Ann → Ann
 | .two _ b=>b
 | _=>.leaf
structure Sm where
 pre:List SV → List SObj → Bool
 run:(X:Type) → List SV → List SObj → KO X → Option X
structure SmOk (cx:Cx) (g:Nat) (sm:Sm):Prop where
 fn:∃ fn,cx.fns.lookup g = some fn
 ok:∀ (X:Type) (args:List SV) (H:List SObj) (k:KO X) (y:X),sm.run X args H k = some y → SCall cx.P g args H fun x H' t f=>k x H' t f = some y
structure Lx where
 ext:List (Nat × Sm)
 anns:List (Nat × Ann)
 still:List Nat
 unk:Option (Nat → Sm) := none
def Sm.first:List (Nat × Sm) → Nat → (X:Type) → List SV → List SObj → KO X → Option X
 | [],_,_,_,_,_=>none
 | q :: l,g,X,args,H,k=>match Nat.beq q.1 g with
  | false=>Sm.first l g X args H k
  | true=>match q.2.pre args H with
   | true=>q.2.run X args H k
   | false=>Sm.first l g X args H k
def Lx.has (l:List (Nat × Sm)) (g:Nat) (args:List SV) (H:List SObj):Bool := l.any fun q=>match Nat.beq q.1 g with
 | true=>q.2.pre args H
 | false=>false
structure Lx.Ok (cx:Cx) (lx:Lx):Prop where
 ext:∀ q ∈ lx.ext,SmOk cx q.1 q.2
 unk:lx.unk = none
theorem Sm.first_ok {cx:Cx}:∀ {l:List (Nat × Sm)} (_:∀ q ∈ l,SmOk cx q.1 q.2) {g:Nat} {X:Type} {args:List SV} {H:List SObj} {k:KO X} {y:X},Sm.first l g X args H k = some y → (∃ fn,cx.fns.lookup g = some fn) ∧ SCall cx.P g args H fun x H' t f=>k x H' t f = some y
 | [],_,g,X,args,H,k,y,h=>by cases h
 | q :: l,hl,g,X,args,H,k,y,h=>by
  simp only [Sm.first] at h
  split at h
  ·exact Sm.first_ok (fun q hq=>hl q (List.mem_cons_of_mem _ hq)) h
  ·rename_i e
   have e := Nat.eq_of_beq_eq_true e
   subst e
   split at h
   ·have := hl q List.mem_cons_self
    exact ⟨this.fn,this.ok X args H k y h⟩
   ·exact Sm.first_ok (fun q hq=>hl q (List.mem_cons_of_mem _ hq)) h
abbrev RecO := (X:Type) → (X → X → Bool) → Ann → Bool → Nat → Code → St → KX X → Option X
def RecOk (cx:Cx) (rec:RecO):Prop := ∀ (X:Type) (eq:X → X → Bool) (_:EqOk eq) R an top nt c s (k:KX X) (y:X),(top = true → R = none) → rec X eq an top nt c s k = some y → WPs R cx.P nt c (fun e s'=>k e s' = some y) s
section
variable {X:Type}
def leaveO (z:Bool) (H:List SObj) (r:SV) (H':List SObj) (t g:List Nat) (k:KO X):Option X :=
 match g.isEmpty && (Nat.ble H.length H'.length && ((z || r.free H.length) && touchedFree H.length H' t)) with
 | true=>match frzS H' H.length 1000 r with
  | some r'=>k r' (restoreH t H H') t []
  | none=>k r H' t g
 | false=>k r H' t g
theorem leaveO_sound {z:Bool} {H:List SObj} {r:SV} {H':List SObj} {t g:List Nat} {k:KO X} {y:X} (h:leaveO z H r H' t g k = some y):Left H (fun x H' t f=>k x H' t f = some y) r H' t g := by
 unfold leaveO at h
 split at h
 ·rename_i e
  simp only [Bool.and_eq_true,List.isEmpty_iff] at e
  split at h
  ·rename_i r' hr'
   exact .inl ⟨e.1,Nat.le_of_ble_eq_true e.2.1,fun s hs o ho _=>touchedFree_spec e.2.2.2 s hs o ho,r',1000,hr',h⟩
  ·exact .inr h
 ·exact .inr h
def resO (cx:Cx) (s:St):List ResultVar → (List SV → Option X) → Option X
 | [],k=>k []
 | .tmp t :: rs,k=>resO cx s rs fun l=>k (s.ev (.tmp t) :: l)
 | .cell a t :: rs,k=>(sLoad cx.tab s.H t (s.ev (.tmp a))).runO (fun _ _=>false) (fun x=>resO cx s rs fun l=>k (x :: l)) fun x _ _ _=>resO cx s rs fun l=>k (x :: l)
theorem resO_sound {cx:Cx} {s:St} {y:X}:∀ (rs:List ResultVar) (k:List SV → Option X),resO cx s rs k = some y → resP cx s rs fun l=>k l = some y
 | [],k,h=>h
 | .tmp t :: rs,k,h=>resO_sound rs _ h
 | .cell a t :: rs,k,h=>Res.runO_holds (fun _ _ h=>by cases h) (fun x h=>resO_sound rs _ h) (fun x _ _ _ h=>resO_sound rs _ h) h
def isEnd:Exit → Bool
 | .normal=>true
 | .ret=>true
 | _=>false
theorem isEnd_eq {e:Exit} (h:isEnd e = true):e = .normal ∨ e = .ret := by
 cases e with
 | normal=>exact .inl rfl
 | ret=>exact .inr rfl
 | _=>cases h
def endO (cx:Cx) (fn:Func) (z:Bool) (H:List SObj) (k:KO X):KX X := fun e s =>
 gd (isEnd e && (s.marks.isEmpty || Nat.ble H.length s.H.length)) (match shut s.marks s.H with
  | none=>none
  | some H'=>resO cx { s with H := H',marks := [] } fn.results.toList fun l=>leaveO z H (retV l) H' s.tch s.fg k)
theorem endO_sound {cx:Cx} {fn:Func} {z:Bool} {H:List SObj} {k:KO X} {e:Exit} {s:St} {y:X} (h:endO cx fn z H k e s = some y) :
  (e = .normal ∨ e = .ret) ∧ (H.length ≤ s.H.length ∨ s.marks = []) ∧ ∃ H',shut s.marks s.H = some H' ∧ resP cx { s with H := H',marks := [] } fn.results.toList fun l =>
   Left H (fun x H' t f=>k x H' t f = some y) (retV l) H' s.tch s.fg := by
 obtain ⟨hc,h⟩ := gd_some h
 simp only [Bool.and_eq_true,Bool.or_eq_true,List.isEmpty_iff] at hc
 split at h
 ·cases h
 ·rename_i H' hs
  exact ⟨isEnd_eq hc.1,hc.2.symm.imp (fun h=>Nat.le_of_ble_eq_true h) id,H',hs,resP_mono _ _ _ (fun l hl=>leaveO_sound hl) (resO_sound _ _ h)⟩
def roundO (rec:RecO) (eq:X → X → Bool) (ab:Ann) (s:Nat) (args:List SV) (H:List SObj) (k:KO X):Option X :=
 match H[s]? with
 | some (.loop L)=>gd (Nat.beq L.params.toList.length args.length && L.params.toList.all fun p=>Nat.blt p L.nt) (rec X eq .leaf false L.nt L.assign (roundSt L args H) fun e s1=>match e with
  | .normal=>gd (!s1.fg.contains s && Nat.ble H.length s1.H.length) (match s1.H[s]? with
   | some (.loop L1)=>gd (isReady L1.state && L1.pending.isNone) (rec X eq ab false L.nt L.body (busyS s L1 s1) fun e s2=>match jumpOf e with
    | none=>none
    | some jump=>gd (!s2.fg.contains s && Nat.ble H.length s2.H.length) (match s2.H[s]? with
     | some (.loop L2)=>k (.lit (.bool jump.isNone)) (endedH s L2 jump s2.H) (endedT s jump s2.tch) s2.fg
     | _=>none))
   | _=>none)
  | _=>none)
 | _=>none
theorem roundO_sound {cx:Cx} {rec:RecO} (hrec:RecOk cx rec) {eq:X → X → Bool} (he:EqOk eq) {ab:Ann} {s:Nat} {args:List SV} {H:List SObj} {k:KO X} {y:X}
  (h:roundO rec eq ab s args H k = some y):SRound cx.P s args H fun x H' t f=>k x H' t f = some y := by
 unfold roundO at h
 split at h
 ·rename_i L hH
  obtain ⟨hc,h⟩ := gd_some h
  rw [Bool.and_eq_true] at hc
  refine SRound_of hH (Nat.eq_of_beq_eq_true hc.1) hc.2 fun R=>?_
  refine (hrec X eq he R _ false _ _ _ _ y (fun e=>by cases e) h).mono fun e s1 h1=>?_
  cases e with
  | normal =>
   obtain ⟨hc1,h1⟩ := gd_some h1
   rw [Bool.and_eq_true] at hc1
   split at h1
   ·rename_i L1 hL1
    obtain ⟨hc2,h1⟩ := gd_some h1
    rw [Bool.and_eq_true] at hc2
    refine ⟨rfl,not_contains hc1.1,Nat.le_of_ble_eq_true hc1.2,L1,hL1,isReady_eq hc2.1,Option.isNone_iff_eq_none.1 hc2.2,?_⟩
    refine (hrec X eq he R _ false _ _ _ _ y (fun e=>by cases e) h1).mono fun e s2 h2=>?_
    cases hj:jumpOf e with
    | none=>simp only [hj] at h2; cases h2
    | some jump =>
     simp only [hj] at h2
     obtain ⟨hc3,h2⟩ := gd_some h2
     rw [Bool.and_eq_true] at hc3
     split at h2
     ·rename_i L2 hL2
      exact ⟨jump,rfl,not_contains hc3.1,Nat.le_of_ble_eq_true hc3.2,L2,hL2,h2⟩
     ·cases h2
   ·cases h1
  | _=>cases h1
 ·cases h
def Lx.annOf (lx:Lx) (g n:Nat):Option Ann := match lx.anns.lookup (g + 10000000 * (n + 1)) with
 | some a=>some a
 | none=>lx.anns.lookup g
def sealCall (lx:Lx) (g:Nat) (args:List SV) (H:List SObj) (k:KO X):Option X := match sealAll args H with
 | (c,as,S,H1)=>gd c (match Lx.has lx.ext g as H1 with
  | true=>Sm.first lx.ext g X as H1 fun x H' t f=>k x H' (S ++ t) f
  | false=>match lx.unk with
   | some f=>(f g).run X as H1 fun x H' t f=>k x H' (S ++ t) f
   | none=>none)
theorem sealCall_ok {cx:Cx} {lx:Lx} (hlx:lx.Ok cx) {g:Nat} {args:List SV} {H:List SObj} {k:KO X} {y:X} (h:sealCall lx g args H k = some y) :
  (∃ fn,cx.fns.lookup g = some fn) ∧ SCall cx.P g args H fun x H' t f=>k x H' t f = some y := by
 unfold sealCall at h
 obtain ⟨hc,h⟩ := gd_some (c := (sealAll args H).1) (x := match Lx.has lx.ext g (sealAll args H).2.1 (sealAll args H).2.2.2 with
  | true=>Sm.first lx.ext g X (sealAll args H).2.1 (sealAll args H).2.2.2 fun x H' t f=>k x H' ((sealAll args H).2.2.1 ++ t) f
  | false=>match lx.unk with
   | some f=>(f g).run X (sealAll args H).2.1 (sealAll args H).2.2.2 fun x H' t f=>k x H' ((sealAll args H).2.2.1 ++ t) f
   | none=>none) h
 split at h
 ·obtain ⟨h1,h2⟩ := Sm.first_ok hlx.ext h
  exact ⟨h1,SCall.sealed hc h2⟩
 ·rw [hlx.unk] at h; cases h
def callQ (cx:Cx) (lx:Lx) (rec:RecO) (eq:X → X → Bool):CallO X
 | true,s,args,H,k=>match lx.anns.lookup (1000000 + s) with
  | some a=>roundO rec eq a s args H k
  | none=>match lx.unk with
   | some f=>(f (1000000 + s)).run X args H k
   | none=>roundO rec eq .leaf s args H k
 | false,g,args,H,k =>
  match lx.annOf g H.length with
  | some a=>walkO a g args H k
  | none=>match lx.anns.lookup (2000000 + g) with
   | some _=>sealCall lx g args H k
   | none=>match Lx.has lx.ext g args H with
    | true=>Sm.first lx.ext g X args H k
    | false=>match lx.unk with
     | some f=>(f g).run X args H k
     | none=>walkO .leaf g args H k
where walkO (a:Ann) (g:Nat) (args:List SV) (H:List SObj) (k:KO X):Option X := match cx.fns.lookup g with
 | none=>none
 | some fn=>match fn.body with
  | none=>none
  | some c=>gd (Nat.ble args.length fn.ntmps) (rec X eq a true fn.ntmps c (.entry args H) (endO cx fn (lx.still.contains g) H k))
theorem walkO_ok {cx:Cx} (hcx:cx.Ok) {lx:Lx} {rec:RecO} (hrec:RecOk cx rec) {eq:X → X → Bool} (he:EqOk eq) {a:Ann} {g:Nat} {args:List SV} {H:List SObj} {k:KO X} {y:X} (h:callQ.walkO cx lx rec eq a g args H k = some y) :
  (∃ fn,cx.fns.lookup g = some fn) ∧ SCall cx.P g args H fun x H' t f=>k x H' t f = some y := by
 unfold callQ.walkO at h
 split at h
 ·cases h
 ·rename_i fn hfn
  split at h
  ·cases h
  ·rename_i c hb
   obtain ⟨hc,h⟩ := gd_some h
   refine ⟨⟨fn,hfn⟩,?_⟩
   exact SCall.leave (SCall_of_WPs hcx hfn hb (Nat.le_of_ble_eq_true hc) ((hrec X eq he none _ true _ _ _ _ y (fun _=>rfl) h).mono fun e s hs=>endO_sound hs))
theorem callQ_ok {cx:Cx} (hcx:cx.Ok) {lx:Lx} (hlx:lx.Ok cx) {rec:RecO} (hrec:RecOk cx rec) {eq:X → X → Bool} (he:EqOk eq):CallO.Ok cx (callQ cx lx rec eq) := by
 refine ⟨fun g args H k y h=>?_,fun s args H k y h=>?_⟩
 ·have h:(match lx.annOf g H.length with
   | some a=>callQ.walkO cx lx rec eq a g args H k
   | none=>match lx.anns.lookup (2000000 + g) with
    | some _=>sealCall lx g args H k
    | none=>match Lx.has lx.ext g args H with
     | true=>Sm.first lx.ext g X args H k
     | false=>match lx.unk with
      | some f=>(f g).run X args H k
      | none=>callQ.walkO cx lx rec eq .leaf g args H k) = some y := h
  split at h
  ·exact walkO_ok hcx hrec he h
  ·split at h
   ·exact sealCall_ok hlx h
   split at h
   ·exact Sm.first_ok hlx.ext h
   ·rw [hlx.unk] at h
    exact walkO_ok hcx hrec he h
 ·have h:(match lx.anns.lookup (1000000 + s) with
   | some a=>roundO rec eq a s args H k
   | none=>match lx.unk with
    | some f=>(f (1000000 + s)).run X args H k
    | none=>roundO rec eq .leaf s args H k) = some y := h
  split at h
  ·exact roundO_sound hrec he h
  ·rw [hlx.unk] at h
   exact roundO_sound hrec he h
def rangeO (cb:CallO X) (rec:RecO) (eq:X → X → Bool) (nt:Nat) (g:Operand) (ps:Array Tmp) (assign body:Code) (s:St) (k:KX X):Option X :=
 gd (Nat.ble s.n0 s.H.length) (match targetG (s.ev g) (.yld (s.H.length + 1)) with
 | none=>none
 | some (gf,args)=>cb false gf args (startH s nt ps assign body) fun r H' t f =>
  gd ((!f.contains s.H.length && !f.contains (s.H.length + 1)) && ((s.marks.all fun m=>!f.contains m && Nat.blt m s.H.length) && Nat.ble s.n0 H'.length)) (match loopAt H'[s.H.length + 1]? with
  | some (st,pd)=>gd (notBusy st) (match pd with
   | none=>k .normal (afterLoop s none H' t f)
   | some c=>rec X eq .leaf true nt c (afterLoop s (some c) H' t f) k)
  | none=>none))
theorem rangeO_sound {cx:Cx} (hcx:cx.Ok) {cb:CallO X} (hcb:cb.Ok cx) {rec:RecO} (hrec:RecOk cx rec) {eq:X → X → Bool} (he:EqOk eq) {nt:Nat} {g:Operand} {ps:Array Tmp} {assign body:Code} {s:St} {k:KX X} {y:X}
  (h:rangeO cb rec eq nt g ps assign body s k = some y):WPs none cx.P nt (.rangeFunc g ps assign body) (fun e s'=>k e s' = some y) s := by
 obtain ⟨hn,h⟩ := gd_some h
 cases ht:targetG (s.ev g) (.yld (s.H.length + 1)) with
 | none=>simp only [ht] at h; cases h
 | some q =>
  obtain ⟨gf,args⟩ := q
  simp only [ht] at h
  obtain ⟨⟨fn,hfn⟩,h⟩ := hcb.ok _ _ _ _ _ h
  refine WPs_rangeFunc hcx (Nat.le_of_ble_eq_true hn) ht hfn (h.mono fun r H' t f h=>?_)
  obtain ⟨hc,h⟩ := gd_some h
  simp only [Bool.and_eq_true] at hc
  obtain ⟨⟨h1,h2⟩,h3,h4⟩ := hc
  split at h
  ·rename_i st pd hL
   obtain ⟨hc5,h⟩ := gd_some h
   refine ⟨not_contains h1,not_contains h2,fun m hm=>?_,Nat.le_of_ble_eq_true h4,st,pd,hL,notBusy_ne hc5,?_⟩
   ·have := List.all_eq_true.1 h3 m hm
    simp only [Bool.and_eq_true] at this
    exact ⟨not_contains this.1,blt_lt this.2⟩
   ·split at h
    ·exact h
    ·exact hrec X eq he none _ true _ _ _ _ y (fun _=>rfl) h
  ·cases h
def joinO (rec:RecO) (l:Alts) (f:Foot) (an:Ann) (top:Bool) (nt:Nat) (c:Code) (s:St) (k:KX X):Option X :=
 gd (s.marks.isEmpty && (f.ok && altsOk f l)) (match rec (AltsEl l) (AltsEl.eqv l) an top nt c s.sub (fun e s'=>readAlts f s.H.length l e s') with
  | some x=>onAlts f s l x fun e s1=>k e (s.outer s1)
  | none=>none)
theorem joinO_sound {cx:Cx} {rec:RecO} (hrec:RecOk cx rec) {l:Alts} {f:Foot} {an:Ann} {R:Option Nat} {top:Bool} {nt:Nat} {c:Code} {s:St} {k:KX X} {y:X} (ht:top = true → R = none)
  (h:joinO rec l f an top nt c s k = some y):WPs R cx.P nt c (fun e s'=>k e s' = some y) s := by
 obtain ⟨hc,h⟩ := gd_some h
 simp only [Bool.and_eq_true,List.isEmpty_iff] at hc
 split at h
 ·rename_i x hx
  rw [onAlts_eq] at h
  exact WPs_join hc.1 hc.2.1 hc.2.2 (hrec _ _ (AltsEl.eqv_ok l) R _ top _ _ _ _ x ht hx) h
 ·cases h
def isNormal:Exit → Bool
 | .normal=>true
 | _=>false
def loopQ (rec:RecO) (τ:Tmpl) (l:Alts) (f:Foot) (F:Nat) (an:Ann) (top:Bool) (nt:Nat) (c:Code) (s:St) (k:KX X):Option X :=
 gd (s.marks.isEmpty && (f.ok && (altsOk f l && (τ.covers (f.of τ) && l.all fun a=>!isNormal a.1)))) (match readT τ f s.H.length s.sub with
  | some x0=>match loopO (fun x=>rec (τ.El ⊕ AltsEl l) (sumEq (CEls.eqv τ.cells) (AltsEl.eqv l)) an top nt c (τ.st f.D (f.of τ) f.mv s x) (roundK f s.H.length τ l)) F x0 with
   | some y=>onAlts f s l y fun e s1=>k e (s.outer s1)
   | none=>none
  | none=>none)
def phaseL (rec:RecO) (top:Bool) (nt:Nat) (c:Code):Ann → St → KX X → Option X
 | .loop τ l f F a,s,k=>loopQ rec τ l f F a top nt c s k
 | .phase τ l f F a b,s,k=>gd (s.marks.isEmpty && (f.ok && (altsOk f l && τ.covers (f.of τ)))) (match readT τ f s.H.length s.sub with
  | some x0=>match loopO (fun x=>rec (τ.El ⊕ AltsEl l) (sumEq (CEls.eqv τ.cells) (AltsEl.eqv l)) a top nt c (τ.st f.D (f.of τ) f.mv s x) (roundP f s.H.length τ l)) F x0 with
   | some y=>onAlts f s l y fun e s1=>match isNormal e with
    | true=>phaseL rec top nt c b (s.outer s1) k
    | false=>k e (s.outer s1)
   | none=>none
  | none=>none)
 | _,_,_=>none
theorem stAlts_ne {f:Foot} {s:St}:∀ {l:Alts} (x:AltsEl l),(l.all fun a=>!isNormal a.1) = true → (stAlts f s l x).1 ≠ .normal
 | [],x,_=>Empty.elim x
 | [a],x,h=>by
  simp only [List.all_cons,List.all_nil,Bool.and_true,Bool.not_eq_true'] at h
  intro e
  simp only [stAlts] at e
  rw [e] at h; cases h
 | a :: a' :: l,.inl x,h=>by
  simp only [List.all_cons,Bool.and_eq_true,Bool.not_eq_true'] at h
  intro e
  simp only [stAlts] at e
  rw [e] at h; cases h.1
 | a :: a' :: l,.inr x,h=>by
  have h':((a' :: l).all fun a=>!isNormal a.1) = true := by
   simp only [List.all_cons,Bool.and_eq_true] at h ⊢; exact h.2
  simp only [stAlts]
  exact stAlts_ne x h'
theorem loopQ_sound {cx:Cx} {rec:RecO} (hrec:RecOk cx rec) {τ:Tmpl} {l:Alts} {f:Foot} {F:Nat} {an:Ann} {R:Option Nat} {top:Bool} {nt:Nat} {c:Code} {s:St} {k:KX X} {y:X} (ht:top = true → R = none)
  (h:loopQ rec τ l f F an top nt c s k = some y):WPs R cx.P nt (.loop c) (fun e s'=>k e s' = some y) s := by
 obtain ⟨hc,h⟩ := gd_some h
 simp only [Bool.and_eq_true,List.isEmpty_iff] at hc
 obtain ⟨c1,c2,c3,c4,c5⟩ := hc
 split at h
 ·rename_i x0 hx0
  split at h
  ·rename_i z hz
   rw [onAlts_eq] at h
   exact WPs_loopT c1 c2 c3 c4 (fun x r hr=>hrec _ _ (sumEq_ok (CEls.eqv_ok _) (AltsEl.eqv_ok _)) R _ top _ _ _ _ r ht hr) hx0 hz (stAlts_ne z c5) h
  ·cases h
 ·cases h
theorem loopQ_soundL {cx:Cx} {rec:RecO} (hrec:RecOk cx rec) {τ:Tmpl} {l:Alts} {f:Foot} {F:Nat} {an:Ann} {R:Option Nat} {top:Bool} {nt:Nat} {c:Code} {s:St} {k:KX X} {y:X} (ht:top = true → R = none)
  (h:loopQ rec τ l f F an top nt c s k = some y):WPsL R cx.P nt c (fun e s'=>k e s' = some y) s := by
 obtain ⟨hc,h⟩ := gd_some h
 simp only [Bool.and_eq_true,List.isEmpty_iff] at hc
 obtain ⟨c1,c2,c3,c4,c5⟩ := hc
 split at h
 ·rename_i x0 hx0
  split at h
  ·rename_i z hz
   rw [onAlts_eq] at h
   exact WPsL_stage (fun e s' r h=>roundK_spec h) c1 c2 c3 c4 (fun x r hr=>hrec _ _ (sumEq_ok (CEls.eqv_ok _) (AltsEl.eqv_ok _)) R _ top _ _ _ _ r ht hr) hx0 hz (fun hn=>absurd hn (stAlts_ne z c5)) (fun _=>h)
  ·cases h
 ·cases h
theorem isNormal_eq {e:Exit} (h:isNormal e = true):e = .normal := by
 cases e <;> first | rfl | cases h
theorem phaseL_sound {cx:Cx} {rec:RecO} (hrec:RecOk cx rec) {R:Option Nat} {top:Bool} {nt:Nat} {c:Code} {k:KX X} {y:X} (ht:top = true → R = none):∀ (an:Ann) (s:St),phaseL rec top nt c an s k = some y → WPsL R cx.P nt c (fun e s'=>k e s' = some y) s
 | .loop τ l f F a,s,h=>loopQ_soundL hrec ht h
 | .phase τ l f F a b,s,h=>by
  obtain ⟨hc,h⟩ := gd_some h
  simp only [Bool.and_eq_true,List.isEmpty_iff] at hc
  obtain ⟨c1,c2,c3,c4⟩ := hc
  split at h
  ·rename_i x0 hx0
   split at h
   ·rename_i z hz
    rw [onAlts_eq] at h
    refine WPsL_stage (fun e s' r h=>roundP_spec h) c1 c2 c3 c4 (fun x r hr=>hrec _ _ (sumEq_ok (CEls.eqv_ok _) (AltsEl.eqv_ok _)) R _ top _ _ _ _ r ht hr) hx0 hz (fun hn=>?_) (fun hn=>?_)
    ·rw [hn] at h
     exact phaseL_sound hrec ht b _ h
    ·cases he:isNormal (stAlts f s l z).1 with
     | true=>exact absurd (isNormal_eq he) hn
     | false=>rw [he] at h; exact h
   ·cases h
  ·cases h
 | .leaf,_,h=>by cases h
 | .one _,_,h=>by cases h
 | .two _ _,_,h=>by cases h
 | .join _ _ _,_,h=>by cases h
 | .virt _ _ _ _,_,h=>by cases h
 | .within _,_,h=>by cases h
 | .virtF _ _ _ _ _,_,h=>by cases h
 | .typ _ _ _ _,_,h=>by cases h
 | .slb _ _,_,h=>by cases h
 | .unslb _ _,_,h=>by cases h
end
def codeO (cx:Cx) (lx:Lx) (rec:RecO) (X:Type) (eq:X → X → Bool) (an:Ann) (top:Bool) (nt:Nat):Code → St → KX X → Option X
 | .skip,s,k=>k .normal s
 | .region _ ops draw,s,k=>match draw with
  | false=>vopsO eq cx (callQ cx lx rec eq) nt ops ops.toList s (k .normal)
  | true=>gd (Region.noSelect ops) (runPlanO eq cx (callQ cx lx rec eq) nt ops (planOf true ops ops.size (Array.replicate ops.size false)) [] s (k .normal))
 | .seq a b,s,k=>rec X eq an.fst top nt a s fun e s'=>match e with
  | .normal=>rec X eq an.snd top nt b s' k
  | e=>k e s'
 | .cond c a b,s,k=>match s.ev c with
  | .pv (.lit (.bool t))=>match t with
   | true=>rec X eq an.fst top nt a s k
   | false=>rec X eq an.snd top nt b s k
  | _=>none
 | .block id c,s,k=>rec X eq an.fst top nt c s fun e s'=>match e with
  | .exit id'=>bif Nat.beq id' id then k .normal s' else k (.exit id') s'
  | e=>k e s'
 | .loop c,s,k=>rec X eq an.fst top nt c s fun e s'=>match e with
  | .normal=>rec X eq an top nt (.loop c) s' k
  | e=>k e s'
 | .rangeFunc g ps assign body,s,k=>match top with
  | true=>rangeO (callQ cx lx rec eq) rec eq nt g ps assign body s k
  | false=>none
 | .scope c,s,k=>match top with
  | true=>rec X eq an.fst true nt c s fun e s'=>match e with
   | .goto _=>none
   | e=>k e s'
  | false=>none
 | .exit id,s,k=>k (.exit id) s
 | .label _,s,k=>k .normal s
 | .ret,s,k=>k .ret s
 | _,_,_=>none
def Lx.more (lx:Lx) (l:List (Nat × Ann)):Lx := match lx with
 | ⟨ext,anns,still,unk⟩=>⟨ext,l ++ anns,still,unk⟩
theorem Lx.Ok.more {cx:Cx} {lx:Lx} (h:lx.Ok cx) (l:List (Nat × Ann)):(lx.more l).Ok cx := ⟨h.ext,h.unk⟩
def stepO (cx:Cx) (lx:Lx) (rec:RecO):RecO := fun X eq an top nt c s k=>match an with
 | .join l f a=>joinO rec l f a top nt c s k
 | .virt slot ty row a=>match s.T.get slot with
  | some (.pv (.lit v))=>gd (Value.isNil v) (rec X eq a top nt c (virtSt s slot ty row) k)
  | _=>rec X eq a top nt c s k
 | .typ kk ty row a=>match typSt kk ty row s with
  | some s'=>rec X eq a top nt c s' k
  | none=>none
 | .low=>match c with
  | .region _ ops draw=>match draw with
   | false=>vopsO eq cx.lowered (callQ cx.lowered lx rec eq) nt ops ops.toList s (k .normal)
   | true=>gd (Region.noSelect ops) (runPlanO eq cx.lowered (callQ cx.lowered lx rec eq) nt ops (planOf true ops ops.size (Array.replicate ops.size false)) [] s (k .normal))
  | _=>none
 | .slb slot a=>match slbSt slot s with
  | some s'=>rec X eq a top nt c s' k
  | none=>rec X eq a top nt c s k
 | .unslb slot a=>match unslbSt slot s with
  | some s'=>rec X eq a top nt c s' k
  | none=>rec X eq a top nt c s k
 | .virtF ob col ty row a=>match virtFSt s ob col ty row with
  | some s'=>rec X eq a top nt c s' k
  | none=>none
 | .within l=>match c with
  | .loop _=>none
  | c=>codeO cx (lx.more l) rec X eq .leaf top nt c s k
 | .loop τ l f F a=>match c with
  | .loop body=>loopQ rec τ l f F a top nt body s k
  | _=>none
 | .phase τ l f F a b=>match c with
  | .loop body=>phaseL rec top nt body (.phase τ l f F a b) s k
  | _=>none
 | .leaf=>codeO cx lx rec X eq .leaf top nt c s k
 | .one a=>codeO cx lx rec X eq (.one a) top nt c s k
 | .two a b=>codeO cx lx rec X eq (.two a b) top nt c s k
def evalO (cx:Cx) (lx:Lx):Nat → RecO
 | 0=>fun _ _ _ _ _ _ _ _=>none
 | n + 1=>stepO cx lx (evalO cx lx n)
def Ann.plain:Ann → Bool
 | .leaf=>true
 | .one _=>true
 | .two _ _=>true
 | _=>false
theorem evalO_sound {cx:Cx} (hcx:cx.Ok) {lx:Lx} (hlx:lx.Ok cx):∀ (n:Nat),RecOk cx (evalO cx lx n) ∧
  (∀ (X:Type) (eq:X → X → Bool) (_:EqOk eq) R an top nt c s (k:KX X) (y:X),(top = true → R = none) → evalO cx lx n X eq an top nt (.loop c) s k = some y → an.plain = true →
   Unrolled R cx.P nt c (fun e s'=>k e s' = some y) n s)
 | 0=>⟨fun X eq he R an top nt c s k y _ h=>(by cases h),fun X eq he R an top nt c s k y _ h=>(by cases h)⟩
 | n + 1=>by
  obtain ⟨ih1,ih2⟩ := evalO_sound hcx hlx n
  have loop:∀ (X:Type) (eq:X → X → Bool) (_:EqOk eq) R an top nt c s (k:KX X) (y:X),(top = true → R = none) → evalO cx lx (n + 1) X eq an top nt (.loop c) s k = some y → an.plain = true →
    Unrolled R cx.P nt c (fun e s'=>k e s' = some y) (n + 1) s := by
   intro X eq he R an top nt c s k y ht h hp
   have h:codeO cx lx (evalO cx lx n) X eq an top nt (.loop c) s k = some y := by
    cases an with
    | leaf=>exact h
    | one a=>exact h
    | two a b=>exact h
    | _=>cases hp
   refine (ih1 X eq he R an.fst top nt c s _ y ht h).mono fun e s' hs=>?_
   cases e with
   | normal=>exact ⟨n,Nat.le_refl n,ih2 X eq he R an top nt c s' k y ht hs hp⟩
   | _=>exact hs
  refine ⟨fun X eq he R an top nt c s k y ht h=>?_,loop⟩
  have code:∀ (lx':Lx),lx'.Ok cx → (an.plain = true ∨ ∀ b,c ≠ .loop b) → ∀ an':Ann,(an.plain = true → an' = an ∧ lx' = lx) → codeO cx lx' (evalO cx lx n) X eq an' top nt c s k = some y → WPs R cx.P nt c (fun e s'=>k e s' = some y) s := by
   intro lx' hlx' hp an' han hcode
   have hcb := callQ_ok hcx hlx' ih1 he
   cases c with
   | skip=>exact WPs_skip hcode
   | region id ops draw =>
    cases draw with
    | false=>exact WPs_region hcx (vopsO_sound he hcb _ _ _ hcode)
    | true =>
     obtain ⟨h1,h2⟩ := gd_some hcode
     exact WPs_draw hcx h1 (runPlanO_sound he hcb _ _ _ _ h2)
   | seq a b =>
    refine WPs_seq ((ih1 X eq he R an'.fst top nt a s _ y ht hcode).mono fun e s' hs=>?_)
    cases e with
    | normal=>exact ih1 X eq he R an'.snd top nt b s' k y ht hs
    | _=>exact hs
   | cond c a b =>
    have hcode:(match s.ev c with
     | .pv (.lit (.bool t))=>match t with
      | true=>evalO cx lx n X eq an'.fst top nt a s k
      | false=>evalO cx lx n X eq an'.snd top nt b s k
     | _=>none) = some y := hcode
    split at hcode
    ·rename_i t e
     refine WPs_cond e (fun hb=>?_) (fun hb=>?_)
     ·subst hb; exact ih1 X eq he R an'.fst top nt a s k y ht hcode
     ·subst hb; exact ih1 X eq he R an'.snd top nt b s k y ht hcode
    ·cases hcode
   | block id c =>
    refine WPs_block ((ih1 X eq he R an'.fst top nt c s _ y ht hcode).mono fun e s' hs=>?_)
    cases e with
    | exit id' =>
     simp only [blockQ]
     by_cases e:id' = id
     ·rw [if_pos e]; simp only [nbeq_t e,cond_true] at hs; exact hs
     ·rw [if_neg e]; simp only [nbeq_f e,cond_false] at hs; exact hs
    | _=>exact hs
   | loop c =>
    have hp:an.plain = true := by
     rcases hp with hp | hp
     ·exact hp
     ·exact absurd rfl (hp c)
    obtain ⟨rfl,rfl⟩ := han hp
    refine WPs_unrolled (loop X eq he R an' top nt c s k y ht ?_ hp)
    cases an' with
    | leaf=>exact hcode
    | one a=>exact hcode
    | two a b=>exact hcode
    | _=>cases hp
   | exit id=>exact WPs_exit hcode
   | label l=>exact WPs_label hcode
   | ret=>exact WPs_ret hcode
   | rangeFunc g ps assign body =>
    cases top with
    | true =>
     have hR := ht rfl
     subst hR
     exact rangeO_sound hcx hcb ih1 he hcode
    | false=>cases hcode
   | scope c =>
    cases top with
    | true =>
     have hR := ht rfl
     subst hR
     refine WPs_scope ((ih1 X eq he none an'.fst true nt c s _ y ht hcode).mono fun e s' hs=>?_)
     cases e with
     | goto _=>cases hs
     | _=>exact hs
    | false=>cases hcode
   | goto _=>cases hcode
   | refuse _=>cases hcode
  cases an with
  | join l f a=>exact joinO_sound ih1 ht h
  | virt slot ty row a =>
   have h:(match s.T.get slot with
    | some (.pv (.lit v))=>gd (Value.isNil v) (evalO cx lx n X eq a top nt c (virtSt s slot ty row) k)
    | _=>evalO cx lx n X eq a top nt c s k) = some y := h
   split at h
   ·rename_i v hv
    obtain ⟨h1,h2⟩ := gd_some h
    exact WPs_virt hv h1 (ih1 X eq he R a top nt c _ k y ht h2)
   ·exact ih1 X eq he R a top nt c _ k y ht h
  | typ kk ty row a =>
   have h:(match typSt kk ty row s with
    | some s'=>evalO cx lx n X eq a top nt c s' k
    | none=>none) = some y := h
   split at h
   ·rename_i s' hs'
    exact WPs_typ hs' (ih1 X eq he R a top nt c _ k y ht h)
   ·cases h
  | low =>
   cases c with
   | region id ops draw =>
    have hcx':cx.lowered.Ok := hcx.lowered
    have hlx':lx.Ok cx.lowered := ⟨fun q hq=>let h := hlx.ext q hq; ⟨h.fn,h.ok⟩,hlx.unk⟩
    have ih1':RecOk cx.lowered (evalO cx lx n) := ih1
    have hcb := callQ_ok hcx' hlx' ih1' he
    cases draw with
    | false=>exact WPs_region hcx' (vopsO_sound he hcb _ _ _ h)
    | true =>
     obtain ⟨h1,h2⟩ := gd_some h
     exact WPs_draw hcx' h1 (runPlanO_sound he hcb _ _ _ _ h2)
   | _=>cases h
  | slb slot a =>
   have h:(match slbSt slot s with
    | some s'=>evalO cx lx n X eq a top nt c s' k
    | none=>evalO cx lx n X eq a top nt c s k) = some y := h
   split at h
   ·rename_i s' hs'
    exact WPs_slb hs' (ih1 X eq he R a top nt c _ k y ht h)
   ·exact ih1 X eq he R a top nt c _ k y ht h
  | unslb slot a =>
   have h:(match unslbSt slot s with
    | some s'=>evalO cx lx n X eq a top nt c s' k
    | none=>evalO cx lx n X eq a top nt c s k) = some y := h
   split at h
   ·rename_i s' hs'
    exact WPs_unslb hs' (ih1 X eq he R a top nt c _ k y ht h)
   ·exact ih1 X eq he R a top nt c _ k y ht h
  | virtF ob col ty row a =>
   have h:(match virtFSt s ob col ty row with
    | some s'=>evalO cx lx n X eq a top nt c s' k
    | none=>none) = some y := h
   split at h
   ·rename_i s' hs'
    exact WPs_virtF hs' (ih1 X eq he R a top nt c _ k y ht h)
   ·cases h
  | within l =>
   cases c with
   | loop b=>cases h
   | _=>exact code (lx.more l) (hlx.more l) (.inr fun b e=>by cases e) .leaf (fun e=>by cases e) h
  | loop τ l f F a =>
   cases c with
   | loop body=>exact loopQ_sound ih1 ht h
   | _=>cases h
  | phase τ l f F a b =>
   cases c with
   | loop body=>exact (phaseL_sound ih1 ht _ _ h).wp
   | _=>cases h
  | leaf=>exact code lx hlx (.inl rfl) .leaf (fun _=>⟨rfl,rfl⟩) h
  | one a=>exact code lx hlx (.inl rfl) (.one a) (fun _=>⟨rfl,rfl⟩) h
  | two a b=>exact code lx hlx (.inl rfl) (.two a b) (fun _=>⟨rfl,rfl⟩) h
end Go.Sx
end
namespace Go.Sx
open Go
def AEls:List ATy → Type
 | []=>Unit
 | [a]=>a.El
 | a :: a' :: l=>a.El × AEls (a' :: l)
def AEls.eqv:(l:List ATy) → AEls l → AEls l → Bool
 | []=>unitEq
 | [a]=>a.eqv
 | a :: a' :: l=>pairEq a.eqv (AEls.eqv (a' :: l))
theorem AEls.eqv_ok:∀ (l:List ATy),EqOk (AEls.eqv l)
 | []=>fun a b h=>rfl
 | [a]=>ATy.eqv_ok a
 | a :: a' :: l=>pairEq_ok (ATy.eqv_ok a) (AEls.eqv_ok (a' :: l))
def svs:(l:List ATy) → AEls l → List SV
 | [],_=>[]
 | [a],x=>[a.sv x]
 | a :: a' :: l,x=>a.sv x.1 :: svs (a' :: l) x.2
def rdL (H:List SObj) (n:Nat):(l:List ATy) → List SV → Option (Bool × AEls l)
 | []=>rdNilS
 | [a]=>rdOneS (rdA H n a)
 | a :: a' :: l=>rdConsS (rdA H n a) (rdL H n (a' :: l))
theorem SRep.free_env {M:Imm} {ρ ρ2:Env} {v:Value} {x:SV} (h:SRep M ρ v x):x.free 0 = true → SRep M ρ2 v x := by
 have fl:∀ (l:List SV),freeL 0 l = true → ∀ (i:Nat) (x:SV),l[i]? = some x → x.free 0 = true := by
  intro l
  induction l with
  | nil=>intro _ i x h; simp at h
  | cons y l ih =>
   intro h i x hx
   simp only [freeL,Bool.and_eq_true] at h
   cases i with
   | zero=>simp at hx; subst hx; exact h.1
   | succ i=>exact ih h.2 i x (by simpa using hx)
 induction h with
 | any v=>intro _; exact .any v
 | pv h=>intro _; exact .pv h
 | agg cs l hl _ ih=>intro hf; exact .agg cs l hl fun i v x hv hx=>ih i v x hv hx (fl l hf i x hx)
 | tup cs l hl _ ih=>intro hf; exact .tup cs l hl fun i v x hv hx=>ih i v x hv hx (fl l hf i x hx)
 | fn f a b x y ha hb _ _ ih jh =>
  intro hf
  simp only [SV.free,Bool.and_eq_true] at hf
  exact .fn f a b x y ha hb (fun i v s hv hs=>ih i v s hv hs (fl x hf.1 i s hs)) (fun i v s hv hs=>jh i v s hv hs (fl y hf.2 i s hs))
 | ptr s=>intro hf; simp [SV.free] at hf
 | sl s=>intro hf; simp [SV.free] at hf
 | slz s=>intro hf; simp [SV.free] at hf
 | mp s=>intro hf; simp [SV.free] at hf
 | yld s=>intro hf; simp [SV.free] at hf
 | slb s=>intro hf; simp [SV.free] at hf
theorem freeL_pv (l:List PV):freeL 0 (l.map .pv) = true := by
 induction l with
 | nil=>rfl
 | cons x l ih=>simp [freeL,SV.free,ih]
theorem mkAgg_free (l:List PV):(SV.mkAgg (l.map .pv)).free 0 = true := by
 unfold SV.mkAgg
 split
 ·rfl
 ·simp only [SV.free]; exact freeL_pv l
theorem ATy.sv_free:∀ (a:ATy) (x:a.El),(a.sv x).free 0 = true
 | .val t,x=>rfl
 | .agg row,x=>mkAgg_free _
theorem svs_free:∀ (l:List ATy) (x:AEls l),freeL 0 (svs l x) = true
 | [],_=>rfl
 | [a],x=>by show ((a.sv x).free 0 && true) = true; rw [ATy.sv_free a x]; rfl
 | a :: a' :: l,x=>by simp only [svs,freeL,ATy.sv_free,svs_free (a' :: l),Bool.and_self]
theorem retV_free (l:List ATy) (x:AEls l):(retV (svs l x)).free 0 = true := by
 have h := svs_free l x
 unfold retV
 split
 ·rename_i y e; rw [e] at h; simpa [freeL] using h
 ·exact h
theorem rd0_sound {M:Imm} {ρ:Env} (n:Nat):∀ (k:Nat),
  (∀ (t:Ty),SizeOf.sizeOf t ≤ k → RdVal M ρ M (rdT [] n t) t.pv) ∧ (∀ (ts:List Ty),SizeOf.sizeOf ts ≤ k → RdRow M ρ M ts (rdRow [] n ts)) := by
 have hle := M.le_refl
 intro k
 induction k with
 | zero=>exact ⟨fun t ht=>by (cases t <;> simp at ht),fun ts ht=>by (cases ts <;> simp at ht)⟩
 | succ k ih =>
  obtain ⟨ih1,ih2⟩ := ih
  refine ⟨fun t ht=>?_,fun ts ht=>?_⟩
  ·match t,ht with
   | .int k,ht=>exact rdScal_ok hle (intOf_ok k)
   | .bool,ht=>exact rdScal_ok hle boolOf_ok
   | .str,ht=>exact rdScal_ok hle strOf_ok
   | .seq row,ht =>
    intro x c y v h hc hr
    have h:rdSeq [] n row (rdRow [] n row) x = some (c,y) := h
    unfold rdSeq at h
    split at h
    ·split at h
     ·rename_i y' hy
      cases h
      cases hr with
      | pv hp=>exact Ty.of_sound (t := .seq row) hy hp
     ·cases h
    ·split at h
     ·cases h
     ·simp at h
    ·cases h
  ·match ts,ht with
   | [],ht=>exact rdNilS_ok
   | [t],ht=>exact rdOneS_ok (ih1 t (by simp at ht; omega))
   | t :: t' :: ts,ht=>exact rdConsS_ok (ih1 t (by simp at ht; omega)) (ih2 (t' :: ts) (by simp at ht ⊢; omega))
theorem rdA0_sound {M:Imm} {ρ ρ2:Env} {n:Nat} {a:ATy} {x:SV} {c:Bool} {y:a.El} {v:Value} (h:rdA [] n a x = some (c,y)) (hc:c = true) (hr:SRep M ρ v x):SRep M ρ2 v (a.sv y) := by
 cases a with
 | val t=>exact .pv ((rd0_sound n _).1 t (Nat.le_refl _) x c y v h hc hr)
 | agg row =>
  refine ATy.sv_of_raw ?_
  have fin:∀ (cs:Array Value) (xs:List SV) (y:Els row),RowFor M ρ M row xs y → cs.size = xs.length → (∀ (i:Nat) (u:Value) (x:SV),cs[i]? = some u → xs[i]? = some x → SRep M ρ u x) → SRep M ρ2 (.agg cs) ((ATy.agg row).raw y) := fun cs xs y hf hl hr=>by
   refine .agg cs _ (by rw [hl,hf.1]; simp [rowPV_length]) fun i u z hu hz=>?_
   simp only [List.getElem?_map,Option.map_eq_some_iff] at hz
   obtain ⟨q,hq,rfl⟩ := hz
   obtain ⟨x,hx,himp⟩ := hf.2 i q hq
   exact .pv (himp u (hr i u x hu hx))
  replace h:rdAgg [] n row x = some (c,y) := h
  unfold rdAgg at h
  split at h
  ·rename_i cs
   split at h
   ·rename_i y' hy
    cases h
    have := hr.lit_eq
    subst this
    refine fin cs _ _ (RowFor.of M.le_refl hy) (by simp) fun i u x hu hx=>?_
    simp only [List.getElem?_map,Option.map_eq_some_iff,Array.getElem?_toList] at hx
    obtain ⟨p,⟨u',hu',rfl⟩,rfl⟩ := hx
    rw [hu] at hu'; cases hu'; exact .pv (.lit _)
   ·cases h
  ·rename_i l
   cases hr with
   | agg cs _ hl hr=>exact fin cs l y ((rd0_sound n _).2 row (Nat.le_refl _) _ _ _ h hc) hl hr
  ·cases h
def RdList (M M2:Imm) (ρ ρ2:Env) {α:Type} (f:List SV → Option (Bool × α)) (g:α → List SV):Prop :=
 ∀ (xs:List SV) (c:Bool) (y:α),f xs = some (c,y) → c = true → (g y).length = xs.length ∧
  ∀ (i:Nat) (v:Value) (z x:SV),(g y)[i]? = some z → xs[i]? = some x → SRep M ρ v x → SRep M2 ρ2 v z
theorem rdList_ok {M M2:Imm} {ρ ρ2:Env} {H:List SObj} {n:Nat} (ha:∀ (a:ATy) (x:SV) (c:Bool) (y:a.El) (v:Value),rdA H n a x = some (c,y) → c = true → SRep M ρ v x → SRep M2 ρ2 v (a.sv y)) :
  ∀ (l:List ATy),RdList M M2 ρ ρ2 (rdL H n l) (svs l)
 | []=>by
  intro xs c y h hc
  match xs,h with
  | [],h=>exact ⟨rfl,fun i v z x hz hx=>by simp at hx⟩
  | _ :: _,h=>cases h
 | [a]=>by
  intro xs c y h hc
  match xs,h with
  | [],h=>cases h
  | _ :: _ :: _,h=>cases h
  | [x],h =>
   replace h:rdA H n a x = some (c,y) := h
   refine ⟨rfl,fun i v z x' hz hx' hr=>?_⟩
   cases i with
   | zero =>
    simp only [svs,List.getElem?_cons_zero,Option.some.injEq] at hz hx'
    subst hz; subst hx'
    exact ha a x c y v h hc hr
   | succ i=>simp at hx'
 | a :: a' :: l=>by
  intro xs c y h hc
  match xs,h with
  | [],h=>cases h
  | x :: xs,h =>
   replace h:rdConsS (rdA H n a) (rdL H n (a' :: l)) (x :: xs) = some (c,y) := h
   simp only [rdConsS] at h
   split at h
   ·cases h
   ·rename_i p h1
    split at h
    ·cases h
    ·rename_i q h2
     cases h
     rw [Bool.and_eq_true] at hc
     obtain ⟨g1,g2⟩ := rdList_ok ha (a' :: l) xs q.1 q.2 h2 hc.2
     refine ⟨by simp only [svs,List.length_cons,g1],fun i v z x' hz hx' hr=>?_⟩
     cases i with
     | zero =>
      simp only [svs,List.getElem?_cons_zero,Option.some.injEq] at hz hx'
      subst hz; subst hx'
      exact ha a x p.1 p.2 v h1 hc.1 hr
     | succ i =>
      simp only [svs,List.getElem?_cons_succ] at hz hx'
      exact g2 i v z x' hz hx' hr
theorem rdL_sound {M:Imm} {ρ ρ2:Env} {H:List SObj} {w:World} {n:Nat} (hm:Mem M ρ H w) (l:List ATy):RdList M (M.sealing ρ H n w) ρ ρ2 (rdL H n l) (svs l) :=
 rdList_ok (fun a x c y v h hc hr=>rdA_sound hm h hc hr) l
theorem rdL0_sound {M:Imm} {ρ ρ2:Env} {n:Nat} (l:List ATy):RdList M M ρ ρ2 (rdL [] n l) (svs l) :=
 rdList_ok (fun a x c y v h hc hr=>rdA0_sound h hc hr) l
structure PC where
 ats:List ATy
 rts:List ATy
 code:AEls ats → Option (AEls rts)
structure PCOk (cx:Cx) (g:Nat) (pc:PC):Prop where
 fn:∃ fn,cx.fns.lookup g = some fn
 ok:∀ a y,pc.code a = some y → SCall cx.P g (svs pc.ats a) [] fun r H' t f=>r = retV (svs pc.rts y) ∧ H' = [] ∧ t = [] ∧ f = []
def PC.sm (pc:PC):Sm where
 pre := fun args H=>(rdL [] 0 pc.ats args).isSome || ((rdL H 0 pc.ats args).isSome && pc.rts.all ATy.scalar)
 run := fun X args H k=>match rdL [] 0 pc.ats args with
  | some p=>gd p.1 (match pc.code p.2 with
   | some y=>k (retV (svs pc.rts y)) H [] []
   | none=>none)
  | none=>match rdL H 0 pc.ats args with
   | some p=>gd (p.1 && pc.rts.all ATy.scalar) (match pc.code p.2 with
    | some y=>k (retV (svs pc.rts y)) H [] []
    | none=>none)
   | none=>none
def litsOnly:List SV → Bool
 | []=>true
 | .pv (.lit _) :: l=>litsOnly l
 | _=>false
def SV.solidV:SV → Bool
 | .pv (.lit _)=>true
 | .agg l=>litsOnly l
 | _=>false
theorem litsOnly_get:∀ {l:List SV},litsOnly l = true → ∀ (i:Nat) (x:SV),l[i]? = some x → ∃ v,x = .lit v
 | [],_,i,x,h=>by simp at h
 | .pv (.lit v) :: l,hl,i,x,h=>by
  cases i with
  | zero=>simp at h; exact ⟨v,h.symm⟩
  | succ i=>exact litsOnly_get (l := l) hl i x (by simpa using h)
theorem solidV_any {M M2:Imm} {ρ ρ2:Env} {v:Value} {x:SV} (hs:x.solidV = true) (h:SRep M ρ v x):SRep M2 ρ2 v x := by
 match x,hs,h with
 | .pv (.lit u),_,h=>rw [h.lit_eq]; exact .pv (.lit _)
 | .agg l,hs,.agg cs _ hl hr =>
  refine .agg cs l hl fun i v x hv hx=>?_
  obtain ⟨u,rfl⟩ := litsOnly_get hs i x hx
  rw [(hr i v _ hv hx).lit_eq]; exact .pv (.lit _)
theorem rowPV_scalar:∀ (row:List Ty) (x:Els row),row.all Ty.scalar = true → litsOnly ((rowPV row x).map .pv) = true
 | [],_,_=>rfl
 | [t],x,h=>by
  cases t <;> first | rfl | (simp [Ty.scalar] at h)
 | t :: t' :: ts,x,h=>by
  simp only [List.all_cons,Bool.and_eq_true] at h
  have := rowPV_scalar (t' :: ts) x.2 (by simp only [List.all_cons,Bool.and_eq_true]; exact h.2)
  cases t <;> first | exact this | (simp [Ty.scalar] at h)
theorem ATy.sv_solid (a:ATy) (x:a.El) (h:a.scalar = true):(a.sv x).solidV = true := by
 cases a with
 | val t=>cases t <;> first | rfl | (simp [ATy.scalar,Ty.scalar] at h)
 | agg row =>
  show (SV.mkAgg ((rowPV row x).map .pv)).solidV = true
  unfold SV.mkAgg
  split
  ·rfl
  ·exact rowPV_scalar row x h
theorem svs_solid:∀ (l:List ATy) (y:AEls l),l.all ATy.scalar = true → ∀ (i:Nat) (x:SV),(svs l y)[i]? = some x → x.solidV = true
 | [],_,_,i,x,h=>by simp [svs] at h
 | [a],y,hs,i,x,h=>by
  cases i with
  | zero=>simp only [svs,List.getElem?_cons_zero,Option.some.injEq] at h; subst h; exact ATy.sv_solid a y (by simpa using hs)
  | succ i=>simp [svs] at h
 | a :: a' :: l,y,hs,i,x,h=>by
  simp only [List.all_cons,Bool.and_eq_true] at hs
  cases i with
  | zero=>simp only [svs,List.getElem?_cons_zero,Option.some.injEq] at h; subst h; exact ATy.sv_solid a y.1 hs.1
  | succ i=>exact svs_solid (a' :: l) y.2 (by simp only [List.all_cons,Bool.and_eq_true]; exact hs.2) i x (by simpa [svs] using h)
theorem retV_any {M M2:Imm} {ρ ρ2:Env} {v:Value} {l:List SV} (hs:∀ (i:Nat) (x:SV),l[i]? = some x → x.solidV = true) (h:SRep M ρ v (retV l)):SRep M2 ρ2 v (retV l) := by
 unfold retV at h ⊢
 split at h
 ·rename_i x; exact solidV_any (hs 0 x rfl) h
 ·cases h with
  | tup cs _ hl hr=>exact .tup cs _ hl fun i v x hv hx=>solidV_any (hs i x hx) (hr i v x hv hx)
def noEnv:Env := fun _=>none
theorem mem_none {M:Imm} {w:World} (h:∀ b o,M b = some o → w.heap[b]? = some o):Mem M noEnv [] w :=
 ⟨h,fun s o ho=>by simp at ho,fun s o p b ho=>by simp at ho,fun s s' o o' p p' b ho=>by simp at ho,fun s _=>rfl,fun s o p b ho=>by simp at ho⟩
theorem not_owned_none {b:Nat}:¬ Owned noEnv [] b := fun ⟨s,o,p,h,_⟩=>by simp at h
theorem PC.sm_ok {cx:Cx} {g:Nat} {pc:PC} (h:PCOk cx g pc):SmOk cx g pc.sm := by
 refine ⟨h.fn,fun X args H k y hk=>?_⟩
 have hk:(match rdL [] 0 pc.ats args with
  | some p=>gd p.1 (match pc.code p.2 with
   | some y=>k (retV (svs pc.rts y)) H [] []
   | none=>none)
  | none=>match rdL H 0 pc.ats args with
   | some p=>gd (p.1 && pc.rts.all ATy.scalar) (match pc.code p.2 with
    | some y=>k (retV (svs pc.rts y)) H [] []
    | none=>none)
   | none=>none) = some y := hk
 have keep:∀ (w w':World) (M2 M2':Imm) (ρ':Env) (H':List SObj) (t f:List Nat),Fr M2 noEnv [] w M2' ρ' H' w' 0 t f → ∀ b,b < w.heap.size → w'.heap[b]? = w.heap[b]? := fun w w' M2 M2' ρ' H' t f hf b hb=>hf.same b hb not_owned_none
 split at hk
 ·rename_i p hrd
  obtain ⟨hc,hk⟩ := gd_some hk
  split at hk
  ·rename_i z hz
   intro M ρ w vs hm hr
   obtain ⟨l1,l2⟩ := rdL0_sound (M := M) (ρ := ρ) (ρ2 := noEnv) pc.ats args p.1 p.2 hrd hc
   refine (h.ok p.2 z hz M noEnv w vs (mem_none hm.imm) ⟨by rw [hr.1,l1],fun i v x hv hx=>?_⟩).mono ?_
   ·obtain ⟨x',hx'⟩:∃ x',args[i]? = some x' := by
     have:i < args.length := by rw [← l1]; exact (List.getElem?_eq_some_iff.1 hx).1
     exact ⟨_,List.getElem?_eq_getElem this⟩
    exact l2 i v x x' hx hx' (hr.2 i v x' hv hx')
   ·rintro e w' ⟨v,r,H',M',ρ',t,f,he,⟨rfl,rfl,rfl,rfl⟩,hs,hm',hf⟩
    have hsame := keep _ _ _ _ _ _ _ _ hf
    refine ⟨v,_,H,M',ρ,[],[],he,hk,hs.free_env (retV_free _ z),?_,?_⟩
    ·refine ⟨hm'.imm,fun s o ho=>?_,fun s o p b ho hl hp hb=>?_,hm.diss,hm.fresh,fun s o p b ho hl hp hb=>Nat.lt_of_lt_of_le (hm.lts s o p b ho hl hp hb) hf.grow⟩
     ·by_cases hl:o.live = true
      ·exact (hm.own s o ho).mono hf.imm ρ.le_refl rfl fun p b hp hb=>hsame _ (hm.has_lt ho hl hp hb)
      ·rw [live_some hl]; trivial
     ·cases e:M' b with
      | none=>rfl
      | some ob =>
       rcases hf.new b ob (hm.seps s o p b ho hl hp hb) e with h1 | h1
       ·have := hm.has_lt ho hl hp hb; omega
       ·exact absurd h1 not_owned_none
    ·exact ⟨hf.imm,fun b o a c=>(hf.new b o a c).imp id fun h=>absurd h not_owned_none,fun b hb=>.inr hb,fun b hb _=>hsame b hb,hf.grow,fun s o _ _ ho hl=>⟨⟨o,ho,hl⟩,fun p hp=>⟨hp,fun b hb=>hsame _ (hm.has_lt ho hl hp hb)⟩⟩,fun _ _ _=>rfl,hf.io⟩
  ·cases hk
 ·split at hk
  ·rename_i p hrd
   obtain ⟨hc,hk⟩ := gd_some hk
   rw [Bool.and_eq_true] at hc
   split at hk
   ·rename_i z hz
    intro M ρ w vs hm hr
    obtain ⟨l1,l2⟩ := rdL_sound (n := 0) (ρ2 := noEnv) hm pc.ats args p.1 p.2 hrd hc.1
    have hM2:∀ b o,(M.sealing ρ H 0 w) b = some o → w.heap[b]? = some o := fun b o hb=>by
     cases e:M b with
     | some o'=>rw [Imm.seal_le M ρ H 0 w b o' e] at hb; cases hb; exact hm.imm b _ e
     | none=>exact (Imm.seal_new e hb).2
    refine (h.ok p.2 z hz (M.sealing ρ H 0 w) noEnv w vs (mem_none hM2) ⟨by rw [hr.1,l1],fun i v x hv hx=>?_⟩).mono ?_
    ·obtain ⟨x',hx'⟩:∃ x',args[i]? = some x' := by
      have:i < args.length := by rw [← l1]; exact (List.getElem?_eq_some_iff.1 hx).1
      exact ⟨_,List.getElem?_eq_getElem this⟩
     exact l2 i v x x' hx hx' (hr.2 i v x' hv hx')
    ·rintro e w' ⟨v,r,H',M',ρ',t,f,he,⟨rfl,rfl,rfl,rfl⟩,hs,hm',hf⟩
     have hsame := keep _ _ _ _ _ _ _ _ hf
     refine ⟨v,_,H,M,ρ,[],[],he,hk,retV_any (svs_solid _ z hc.2) hs,?_,?_⟩
     ·refine ⟨fun b o hb=>?_,fun s o ho=>?_,hm.seps,hm.diss,hm.fresh,fun s o p b ho hl hp hb=>Nat.lt_of_lt_of_le (hm.lts s o p b ho hl hp hb) hf.grow⟩
      ·rw [hsame b (hm.imm_lt hb)]; exact hm.imm b o hb
      ·by_cases hl:o.live = true
       ·exact (hm.own s o ho).mono M.le_refl ρ.le_refl rfl fun p b hp hb=>hsame _ (hm.has_lt ho hl hp hb)
       ·rw [live_some hl]; trivial
     ·exact ⟨M.le_refl,fun b o a c=>(by rw [a] at c; cases c),fun b hb=>.inr hb,fun b hb _=>hsame b hb,hf.grow,fun s o _ _ ho hl=>⟨⟨o,ho,hl⟩,fun p hp=>⟨hp,fun b hb=>hsame _ (hm.has_lt ho hl hp hb)⟩⟩,fun _ _ _=>rfl,hf.io⟩
   ·cases hk
  ·cases hk
def finO (cx:Cx) (fn:Func) (rts:List ATy):KX (AEls rts) := fun e s =>
 gd (isEnd e) (match shut s.marks s.H with
  | none=>none
  | some H'=>resO cx { s with H := H',marks := [] } fn.results.toList fun l=>match rdL H' 0 rts l with
   | none=>none
   | some p=>gd p.1 (some p.2))
def codeOf (cx:Cx) (lx:Lx) (n:Nat) (an:Ann) (fn:Func) (c:Code) (ats rts:List ATy) (a:AEls ats):Option (AEls rts) :=
 evalO cx lx n (AEls rts) (AEls.eqv rts) an true fn.ntmps c (.entry (svs ats a) []) (finO cx fn rts)
theorem finO_some {cx:Cx} {fn:Func} {rts:List ATy} {e:Exit} {s:St} {y:AEls rts} (h:finO cx fn rts e s = some y) :
  (e = .normal ∨ e = .ret) ∧ ∃ H',shut s.marks s.H = some H' ∧ resP cx { s with H := H',marks := [] } fn.results.toList fun l=>∃ c,c = true ∧ rdL H' 0 rts l = some (c,y) := by
 obtain ⟨h1,h⟩ := gd_some h
 refine ⟨isEnd_eq h1,?_⟩
 split at h
 ·cases h
 ·rename_i H' hs
  refine ⟨H',hs,resP_mono _ _ _ (fun l hl=>?_) (resO_sound _ _ h)⟩
  split at hl
  ·cases hl
  ·rename_i p hp
   obtain ⟨h2,hl⟩ := gd_some hl
   cases hl
   exact ⟨p.1,h2,hp⟩
theorem PCOk.of_eval {cx:Cx} (hcx:cx.Ok) {lx:Lx} (hlx:lx.Ok cx) {n g:Nat} {an:Ann} {fn:Func} {c:Code} {pc:PC} (hf:cx.fns.lookup g = some fn) (hb:fn.body = some c)
  (hcode:∀ a y,pc.code a = some y → codeOf cx lx n an fn c pc.ats pc.rts a = some y) (hn:Nat.ble pc.ats.length fn.ntmps = true):PCOk cx g pc := by
 refine ⟨⟨fn,hf⟩,fun a y hy=>?_⟩
 have hlen:∀ (l:List ATy) (x:AEls l),(svs l x).length = l.length := by
  intro l
  induction l with
  | nil=>intro _; rfl
  | cons a l ih =>
   cases l with
   | nil=>intro _; rfl
   | cons b l=>intro x; simp only [svs,List.length_cons,ih x.2]
 have hw := (evalO_sound hcx hlx n).1 _ _ (AEls.eqv_ok pc.rts) none an true fn.ntmps c _ _ y (fun _=>rfl) (hcode a y hy)
 have hcall:SCall cx.P g (svs pc.ats a) [] fun r H' t f=>∃ l cc,r = retV l ∧ cc = true ∧ rdL H' 0 pc.rts l = some (cc,y) := by
  refine SCall_of_WPs hcx hf hb (by rw [hlen]; exact Nat.le_of_ble_eq_true hn) (hw.mono fun e s hs=>?_)
  obtain ⟨h1,H',h2,h3⟩ := finO_some hs
  exact ⟨h1,.inl (Nat.zero_le _),H',h2,resP_mono _ _ _ (fun l ⟨cc,h4,h5⟩=>⟨l,cc,rfl,h4,h5⟩) h3⟩
 intro M ρ w vs hm hr
 refine (hcall M ρ w vs hm hr).mono ?_
 rintro e w' ⟨v,r,H',M',ρ',t,f,he,⟨l,cc,rfl,hcc,hrd⟩,hs,hm',hfr⟩
 obtain ⟨g1,g2⟩ := rdL_sound (n := 0) (ρ2 := noEnv) hm' pc.rts l cc y hrd hcc
 have hne:ρ = noEnv := by funext s; exact hm.fresh s (Nat.zero_le _)
 have hM2:∀ b o,(M'.sealing ρ' H' 0 w') b = some o → w'.heap[b]? = some o := fun b o hb=>by
  cases e:M' b with
  | some o'=>rw [Imm.seal_le M' ρ' H' 0 w' b o' e] at hb; cases hb; exact hm'.imm b _ e
  | none=>exact (Imm.seal_new e hb).2
 refine ⟨v,_,[],M'.sealing ρ' H' 0 w',noEnv,[],[],he,⟨rfl,rfl,rfl,rfl⟩,?_,mem_none hM2,?_⟩
 ·unfold retV at hs ⊢
  split at hs
  ·rename_i x
   match hsv:svs pc.rts y,g1 with
   | [z],_ =>
    simp only
    exact g2 0 v z x (by rw [hsv]; rfl) rfl hs
  ·rename_i hx
   have hx2:∀ z,svs pc.rts y = [z] → False := fun z hz=>by
    rw [hz] at g1
    match l,g1 with
    | [x],_=>exact hx x rfl
   cases hs with
   | tup cs _ hl hrr =>
    have:SRep (M'.sealing ρ' H' 0 w') noEnv (.tuple cs) (.tup (svs pc.rts y)) := .tup cs _ (by rw [hl,g1]) fun i u z hu hz=>by
     obtain ⟨x',hx'⟩:∃ x',l[i]? = some x' := by
      have:i < l.length := by rw [← g1]; exact (List.getElem?_eq_some_iff.1 hz).1
      exact ⟨_,List.getElem?_eq_getElem this⟩
     exact g2 i u z x' hz hx' (hrr i u x' hu hx')
    match hsv:svs pc.rts y with
    | []=>simp only; rw [← hsv]; exact this
    | [z]=>exact absurd hsv (fun h=>hx2 z h)
    | z :: z' :: zs=>simp only; rw [← hsv]; exact this
 ·have hsl := Imm.seal_le M' ρ' H' 0 w'
  refine ⟨Imm.le_trans hfr.imm hsl,fun b o h0 h1=>?_,fun b hb=>absurd hb not_owned_none,hfr.same,hfr.grow,fun s o hs=>absurd hs (Nat.not_lt_zero s),fun s hs=>absurd hs (Nat.not_lt_zero s),hfr.io⟩
  cases e:M' b with
  | some o'=>exact hfr.new b o' h0 e
  | none =>
   obtain ⟨⟨s2,o2,p2,k1,k2,k3,k4,k5⟩,_⟩ := Imm.seal_new e h1
   exact hfr.own b ⟨s2,o2,p2,k2,by cases o2 <;> simp_all [SObj.rowsy,SObj.live],k4,.inl k5⟩
theorem Lx.ok_nil {cx:Cx} {an:List (Nat × Ann)} {st:List Nat}:Lx.Ok cx { ext := [],anns := an,still := st } := ⟨fun q hq=>(by cases hq),rfl⟩
theorem Lx.ok_cons {cx:Cx} {g:Nat} {sm:Sm} {l:List (Nat × Sm)} {an:List (Nat × Ann)} {st:List Nat} (h:SmOk cx g sm) (hl:Lx.Ok cx { ext := l,anns := an,still := st }):Lx.Ok cx { ext := (g,sm) :: l,anns := an,still := st } :=
 ⟨fun q hq=>by
  rcases List.mem_cons.1 hq with rfl | hq
  ·exact h
  ·exact hl.ext q hq,rfl⟩
def nilT (α:Type):List α := []
def bodyOf (fn:Func):Code := match fn.body with
 | some c=>c
 | none=>.skip
inductive Loc where
 | arg (i:Nat)
 | cap (l:Loc) (j:Nat)
 | fst (l:Loc) (j:Nat)
 | fld (k j:Nat)
structure PX where
 np:Nat
 locs:List Loc
 τ:Tmpl
 nr:Nat
 ω:Tmpl
 ids:List Nat
 mv:List Nat
 code:τ.El → Option ω.El
abbrev PX.no (px:PX):Nat := px.locs.length
def baseSt (H:List SObj):St := { T := .full 8,H := H,n0 := H.length,tch := [],fg := [],marks := [],er := [] }
def tmpsOf (T:TT) (n:Nat):List SV := (List.range n).map fun i=>(T.get i).getD .any
def deads (n:Nat):List SObj := List.replicate n .dead
def PX.inSt (px:PX) (x:px.τ.El):St := px.τ.st [] (List.range px.no) [] (baseSt (deads px.no)) x
def PX.args (px:PX) (x:px.τ.El):List SV := tmpsOf (px.inSt x).T px.np
def PX.objs (px:PX) (x:px.τ.El):List SObj := (px.inSt x).H
def PX.outSt (px:PX) (x:px.τ.El) (y:px.ω.El):St := px.ω.st [] px.ids px.mv (baseSt (px.objs x)) y
def PX.res (px:PX) (x:px.τ.El) (y:px.ω.El):List SV := tmpsOf (px.outSt x y).T px.nr
def PX.objs' (px:PX) (x:px.τ.El) (y:px.ω.El):List SObj := (px.outSt x y).H
structure PXOk (cx:Cx) (g:Nat) (px:PX):Prop where
 fn:∃ fn,cx.fns.lookup g = some fn
 ok:∀ x y,px.code x = some y → SCall cx.P g (px.args x) (px.objs x) fun r H' t f=>r = retV (px.res x y) ∧ H' = px.objs' x y ∧ (∀ i ∈ t,i ∈ px.ids) ∧ ∀ i ∈ f,i ∈ px.mv
def sidOf:SV → Option Nat
 | .ptr s _ _ _=>some s
 | .sl s _ _ _=>some s
 | .mp s=>some s
 | _=>none
def Loc.find (args:List SV) (H:List SObj) (σ:List Nat):Loc → Option SV
 | .arg i=>args[i]?
 | .cap l j=>match l.find args H σ with
  | some (.fn _ _ b)=>b[j]?
  | _=>none
 | .fst l j=>match l.find args H σ with
  | some (.fn _ a _)=>a[j]?
  | _=>none
 | .fld k j=>match σ[k]? with
  | none=>none
  | some s=>match H[s]? with
   | none=>none
   | some o=>match rowOf1 o with
    | some (_,_,r)=>r[j]?
    | none=>none
def locAll (args:List SV) (H:List SObj):List Loc → List Nat → Option (List Nat)
 | [],σ=>some σ
 | l :: ls,σ=>match l.find args H σ with
  | none=>none
  | some x=>match sidOf x with
   | none=>none
   | some s=>locAll args H ls (σ ++ [s])
def idx:List Nat → Nat → Nat → Option Nat
 | [],_,_=>none
 | a :: l,i,s=>match Nat.beq a s with
  | true=>some i
  | false=>idx l (i + 1) s
def viewO (σ:List Nat) (H:List SObj) (s:Nat):SObj := match H[s]? with
 | some o=>o.ren (idx σ 0)
 | none=>.dead
def viewH (σ:List Nat) (H:List SObj):List SObj := σ.map (viewO σ H)
def viewSt (σ:List Nat) (args:List SV) (H:List SObj):St :=
 {T := entryT (.full 8) 0 (renL (idx σ 0) args),H := viewH σ H,n0 := σ.length,tch := [],fg := [],marks := [],er := [] }
def nodupB:List Nat → Bool
 | []=>true
 | x :: l=>!l.contains x && nodupB l
def putBack (σ:List Nat) (Hv:List SObj):List Nat → List SObj → List SObj
 | [],H=>H
 | k :: ids,H=>putBack σ Hv ids (match σ[k]? with
  | none=>H
  | some s=>match Hv[k]? with
   | none=>H
   | some o=>H.set s (o.ren fun k=>σ[k]?))
def through (σ:List Nat):List Nat → List Nat
 | []=>[]
 | k :: l=>match σ[k]? with
  | some s=>s :: through σ l
  | none=>through σ l
def PX.fit (px:PX) (σ:List Nat) (args:List SV) (H:List SObj):Bool :=
 Nat.beq σ.length px.no && (nodupB σ && ((σ.all fun s=>Nat.blt s H.length) && (Nat.beq args.length px.np && (px.τ.covers (List.range px.no) && ((subset px.mv px.ids && (px.ids.all fun k=>Nat.blt k px.no)) && (List.range px.no).all fun k=>px.ids.contains k || (px.τ.cells.filterMap Cel.id?).contains k)))))
def PX.sm (px:PX):Sm where
 pre := fun args H=>match locAll args H px.locs [] with
  | none=>false
  | some σ=>px.fit σ args H && (px.τ.read px.no (viewSt σ args H)).isSome
 run := fun X args H k=>match locAll args H px.locs [] with
  | none=>none
  | some σ=>gd (px.fit σ args H) (match readI px.τ [] (List.range px.no) [] px.no (viewSt σ args H) with
   | none=>none
   | some x=>match px.code x with
    | none=>none
    | some y=>k ((retV (px.res x y)).ren fun k=>σ[k]?) (putBack σ (px.objs' x y) px.ids (forgetH (through σ px.mv) H)) (through σ px.ids) (through σ px.mv))
theorem idx_spec:∀ {σ:List Nat} {i s k:Nat},idx σ i s = some k → ∃ j,k = i + j ∧ σ[j]? = some s
 | [],i,s,k,h=>by cases h
 | a :: l,i,s,k,h=>by
  simp only [idx] at h
  split at h
  ·rename_i e
   cases h
   exact ⟨0,rfl,by simp [Nat.eq_of_beq_eq_true e]⟩
  ·obtain ⟨j,h1,h2⟩ := idx_spec h
   exact ⟨j + 1,by omega,by simpa using h2⟩
theorem nodupB_inj:∀ {σ:List Nat},nodupB σ = true → ∀ (i j s:Nat),σ[i]? = some s → σ[j]? = some s → i = j
 | [],_,i,j,s,h,_=>by simp at h
 | a :: l,hn,i,j,s,hi,hj=>by
  simp only [nodupB,Bool.and_eq_true,Bool.not_eq_true'] at hn
  have hna:a ∉ l := by have := hn.1; simpa using this
  cases i with
  | zero =>
   cases j with
   | zero=>rfl
   | succ j =>
    simp at hi hj
    subst hi
    exact absurd (List.mem_of_getElem? hj) hna
  | succ i =>
   cases j with
   | zero =>
    simp at hi hj
    subst hj
    exact absurd (List.mem_of_getElem? hi) hna
   | succ j =>
    have := nodupB_inj hn.2 i j s (by simpa using hi) (by simpa using hj)
    omega
theorem viewH_get {σ:List Nat} {H:List SObj} {k:Nat} {o:SObj} (h:(viewH σ H)[k]? = some o):∃ s,σ[k]? = some s ∧ o = viewO σ H s := by
 unfold viewH at h
 simp only [List.getElem?_map,Option.map_eq_some_iff] at h
 obtain ⟨s,hs,rfl⟩ := h
 exact ⟨s,hs,rfl⟩
def viewE (σ:List Nat) (ρ:Env):Env := fun k=>match σ[k]? with
 | some s=>ρ s
 | none=>none
theorem viewE_idx {σ:List Nat} {ρ:Env} {s t:Nat} {p:Place} (h:idx σ 0 s = some t) (hp:ρ s = some p):viewE σ ρ t = some p := by
 obtain ⟨j,rfl,hj⟩ := idx_spec h
 simp only [viewE,Nat.zero_add,hj]
 exact hp
theorem Mem.view {M:Imm} {ρ:Env} {H:List SObj} {w:World} (hm:Mem M ρ H w) {σ:List Nat} (hn:nodupB σ = true):Mem M (viewE σ ρ) (viewH σ H) w := by
 have hobj:∀ (k:Nat) (o:SObj),(viewH σ H)[k]? = some o → o.live = true → ∃ (s:Nat) (x:SObj),σ[k]? = some s ∧ H[s]? = some x ∧ o = x.ren (idx σ 0) ∧ x.live = true := fun k o ho hl=>by
  obtain ⟨s,hs,rfl⟩ := viewH_get ho
  unfold viewO at hl ⊢
  split at hl
  ·rename_i x hx
   rw [live_ren] at hl
   exact ⟨s,x,hs,hx,rfl,hl⟩
  ·cases hl
 refine ⟨hm.imm,fun k o ho=>?_,fun k o p b ho hl hp hb=>?_,fun k k' o o' p p' b ho ho' hl hl' hp hp' hb hb'=>?_,fun k hk=>?_,fun k o p b ho hl hp hb=>?_⟩
 ·obtain ⟨s,hs,rfl⟩ := viewH_get ho
  unfold viewO
  split
  ·rename_i x hx
   exact (hm.own s x hx).ren M.le_refl (fun s t p h hp=>viewE_idx h hp) (by simp only [viewE,hs]) (fun _ _ _ _=>rfl)
  ·trivial
 ·obtain ⟨s,x,h1,h2,_,h4⟩ := hobj k o ho hl
  simp only [viewE,h1] at hp
  exact hm.seps s x p b h2 h4 hp hb
 ·obtain ⟨s,x,h1,h2,_,h4⟩ := hobj k o ho hl
  obtain ⟨s',x',k1,k2,_,k4⟩ := hobj k' o' ho' hl'
  simp only [viewE,h1] at hp
  simp only [viewE,k1] at hp'
  have := hm.diss s s' x x' p p' b h2 k2 h4 k4 hp hp' hb hb'
  subst this
  exact nodupB_inj hn k k' s h1 k1
 ·simp only [viewE]
  rw [List.getElem?_eq_none (by simpa [viewH] using hk)]
 ·obtain ⟨s,x,h1,h2,_,h4⟩ := hobj k o ho hl
  simp only [viewE,h1] at hp
  exact hm.lts s x p b h2 h4 hp hb
theorem view_owned {ρ:Env} {H:List SObj} {σ:List Nat} {b:Nat} (h:Owned (viewE σ ρ) (viewH σ H) b):∃ (k s:Nat) (x:SObj) (p:Place),σ[k]? = some s ∧ H[s]? = some x ∧ x.live = true ∧ ρ s = some p ∧ p.has b := by
 obtain ⟨k,o,p,h1,h2,h3,h4⟩ := h
 obtain ⟨s,hs,rfl⟩ := viewH_get h1
 unfold viewO at h2
 split at h2
 ·rename_i x hx
  rw [live_ren] at h2
  simp only [viewE,hs] at h3
  exact ⟨k,s,x,p,hs,hx,h2,h3,h4⟩
 ·cases h2
theorem putBack_len {σ:List Nat} {Hv:List SObj}:∀ {ids:List Nat} {H:List SObj},(putBack σ Hv ids H).length = H.length
 | [],H=>rfl
 | k :: ids,H=>by
  simp only [putBack]
  rw [putBack_len]
  split
  ·rfl
  ·split
   ·rfl
   ·simp
theorem putBack_get {σ:List Nat} {Hv:List SObj}:∀ {ids:List Nat} {H:List SObj} {s:Nat} {o:SObj},(putBack σ Hv ids H)[s]? = some o →
  (∃ k ∈ ids,σ[k]? = some s ∧ ∃ x,Hv[k]? = some x ∧ o = x.ren fun k=>σ[k]?) ∨ (H[s]? = some o ∧ ∀ k ∈ ids,σ[k]? = some s → Hv[k]? = none)
 | [],H,s,o,h=>.inr ⟨h,fun k hk=>by cases hk⟩
 | k :: ids,H,s,o,h=>by
  simp only [putBack] at h
  rcases putBack_get h with ⟨k',h1,h2⟩ | ⟨h1,h2⟩
  ·exact .inl ⟨k',List.mem_cons_of_mem _ h1,h2⟩
  ·split at h1
   ·rename_i hk
    exact .inr ⟨h1,fun k' hk' h3=>by
     rcases List.mem_cons.1 hk' with rfl | hk'
     ·rw [hk] at h3; cases h3
     ·exact h2 k' hk' h3⟩
   ·rename_i t hk
    split at h1
    ·rename_i hv
     exact .inr ⟨h1,fun k' hk' h3=>by
      rcases List.mem_cons.1 hk' with rfl | hk'
      ·exact hv
      ·exact h2 k' hk' h3⟩
    ·rename_i x hv
     rw [List.getElem?_set] at h1
     split at h1
     ·rename_i e; subst e
      split at h1
      ·cases h1; exact .inl ⟨k,List.mem_cons_self,hk,x,hv,rfl⟩
      ·cases h1
     ·rename_i e
      exact .inr ⟨h1,fun k' hk' h3=>by
       rcases List.mem_cons.1 hk' with rfl | hk'
       ·rw [hk] at h3; cases h3; exact absurd rfl e
       ·exact h2 k' hk' h3⟩
theorem mem_through {σ:List Nat}:∀ {l:List Nat} {s:Nat},s ∈ through σ l ↔ ∃ k ∈ l,σ[k]? = some s
 | [],s=>by simp [through]
 | k :: l,s=>by
  simp only [through]
  split
  ·rename_i t ht
   rw [List.mem_cons,mem_through]
   constructor
   ·rintro (rfl | ⟨k',h1,h2⟩)
    ·exact ⟨k,List.mem_cons_self,ht⟩
    ·exact ⟨k',List.mem_cons_of_mem _ h1,h2⟩
   ·rintro ⟨k',h1,h2⟩
    rcases List.mem_cons.1 h1 with rfl | h1
    ·rw [ht] at h2; cases h2; exact .inl rfl
    ·exact .inr ⟨k',h1,h2⟩
  ·rename_i ht
   rw [mem_through]
   constructor
   ·rintro ⟨k',h1,h2⟩; exact ⟨k',List.mem_cons_of_mem _ h1,h2⟩
   ·rintro ⟨k',h1,h2⟩
    rcases List.mem_cons.1 h1 with rfl | h1
    ·rw [ht] at h2; cases h2
    ·exact ⟨k',h1,h2⟩
theorem tmpsOf_get {T:TT} {n i:Nat} {x:SV} (h:(tmpsOf T n)[i]? = some x):i < n ∧ x = (T.get i).getD .any := by
 unfold tmpsOf at h
 simp only [List.getElem?_map,Option.map_eq_some_iff] at h
 obtain ⟨j,hj,rfl⟩ := h
 by_cases hi:i < n
 ·rw [List.getElem?_range hi] at hj
  cases hj
  exact ⟨hi,rfl⟩
 ·rw [List.getElem?_eq_none (by simpa using hi)] at hj; cases hj
theorem tmpsOf_len (T:TT) (n:Nat):(tmpsOf T n).length = n := by simp [tmpsOf]
theorem base_bare {M:Imm} {ρ:Env} {H:List SObj} {w:World} {a:Act} (hm:Mem M ρ H w) (D ids mv:List Nat):BaseAt D ids mv (baseSt H) M ρ H a w :=
 ⟨rfl,fun t y _ hy=>(by rw [show (baseSt H).T = TT.full 8 from rfl,TT.get_full] at hy; cases hy),
  fun i o _ ho=>⟨(hm.own i o ho).forget M.le_refl (fun _ _ _ h=>h) rfl (fun _ _ _ _=>rfl),fun hl=>⟨o,ho,hl⟩⟩,fun i o _ ho hl=>⟨o,ho,hl⟩⟩
theorem base_dead {M:Imm} {ρ:Env} {H:List SObj} {w:World} {a:Act} {n:Nat} (hn:H.length = n):BaseAt [] (List.range n) [] (baseSt (deads n)) M ρ H a w :=
 ⟨by simp [baseSt,deads,hn],fun t y _ hy=>(by rw [show (baseSt (deads n)).T = TT.full 8 from rfl,TT.get_full] at hy; cases hy),
  fun i o hi ho=>absurd (List.mem_range.2 (by simpa [baseSt,deads] using (List.getElem?_eq_some_iff.1 ho).1)) hi,
  fun i o hi ho hl=>absurd (List.mem_range.2 (by rw [← hn]; exact (List.getElem?_eq_some_iff.1 ho).1)) hi⟩
def actOf (vs:List Value):Act := { tmps := vs.toArray,defers := [] }
theorem actOf_get (vs:List Value) (i:Nat) (v:Value) (h:vs[i]? = some v):(actOf vs).tmps.getD i undef = v := by
 have:i < vs.length := (List.getElem?_eq_some_iff.1 h).1
 simp [actOf,Array.getD,this]
 rw [List.getElem?_eq_getElem this] at h
 simpa using h
theorem good_bare {M:Imm} {ρ:Env} {H:List SObj} {w:World} {vs:List Value} {xs:List SV} {n:Nat} {tch fg:List Nat} (hm:Mem M ρ H w) (hr:Reps M ρ vs xs) (hn:n ≤ H.length) :
  Good (fun t=>(actOf vs).tmps.getD t undef) vs.length M ρ { T := entryT (.full 8) 0 xs,H := H,n0 := n,tch := tch,fg := fg,marks := [],er := [] } (actOf vs) w := by
 refine ⟨fun t x hx=>?_,by simp [actOf],hm,⟨rfl,fun i d s h=>by simp [actOf] at h⟩,fun m h=>(by cases h),hn,fun t _=>rfl⟩
 rcases entryT_lookup xs (.full 8) 0 t x (fun t x h=>by rw [TT.get_full] at h; cases h) hx with h | ⟨_,h⟩
 ·rw [TT.get_full] at h; cases h
 ·rw [Nat.sub_zero] at h
  have hlt:t < vs.length := by rw [hr.1]; exact (List.getElem?_eq_some_iff.1 h).1
  rw [actOf_get vs t vs[t] (List.getElem?_eq_getElem hlt)]
  exact hr.2 t vs[t] x (List.getElem?_eq_getElem hlt) h
theorem reps_tmps {B:Nat → Value} {nt n:Nat} {M:Imm} {ρ:Env} {s:St} {vs:List Value} {w:World} (hg:Good B nt M ρ s (actOf vs) w) (hn:vs.length = n):Reps M ρ vs (tmpsOf s.T n) := by
 refine ⟨by rw [tmpsOf_len,hn],fun i v x hv hx=>?_⟩
 obtain ⟨hi,rfl⟩ := tmpsOf_get hx
 cases hT:s.T.get i with
 | none=>exact .any _
 | some y =>
  have := hg.tm i y hT
  rwa [actOf_get vs i v hv] at this
theorem sealing_none {M:Imm} {ρ:Env} {H:List SObj} {w:World} {n:Nat} (hn:H.length ≤ n):M.sealing ρ H n w = M := by
 funext b
 unfold Imm.sealing
 cases M b with
 | some o=>rfl
 | none =>
  simp only
  rw [if_neg]
  rintro ⟨s,o,p,h1,h2,_⟩
  have := (List.getElem?_eq_some_iff.1 h2).1
  omega
theorem PX.sm_ok {cx:Cx} {g:Nat} {px:PX} (h:PXOk cx g px):SmOk cx g px.sm := by
 refine ⟨h.fn,fun X args H k y hk=>?_⟩
 have hk:(match locAll args H px.locs [] with
  | none=>none
  | some σ=>gd (px.fit σ args H) (match readI px.τ [] (List.range px.no) [] px.no (viewSt σ args H) with
   | none=>none
   | some x=>match px.code x with
    | none=>none
    | some y=>k ((retV (px.res x y)).ren fun k=>σ[k]?) (putBack σ (px.objs' x y) px.ids (forgetH (through σ px.mv) H)) (through σ px.ids) (through σ px.mv))) = some y := hk
 split at hk
 ·cases hk
 ·rename_i σ hσ
  obtain ⟨hfit,hk⟩ := gd_some hk
  split at hk
  ·cases hk
  ·rename_i x hx
   split at hk
   ·cases hk
   ·rename_i z hz
    simp only [PX.fit,Bool.and_eq_true] at hfit
    obtain ⟨f1,f2,f3,f4,f5,⟨f6,f7⟩,f8⟩ := hfit
    have hno:σ.length = px.no := Nat.eq_of_beq_eq_true f1
    have hnp:args.length = px.np := Nat.eq_of_beq_eq_true f4
    have hlt:∀ k s:Nat,σ[k]? = some s → s < H.length := fun k s h=>blt_lt (List.all_eq_true.1 f3 s (List.mem_of_getElem? h))
    obtain ⟨r1,c,hc,r2⟩ := readI_some hx
    intro M ρ w vs hm hr
    have hmv := hm.view f2
    have hrv:Reps M (viewE σ ρ) vs (renL (idx σ 0) args) := by
     rw [renL_eq]
     refine ⟨by rw [List.length_map]; exact hr.1,fun i v x hv hx=>?_⟩
     simp only [List.getElem?_map,Option.map_eq_some_iff] at hx
     obtain ⟨u,hu,rfl⟩ := hx
     exact (hr.2 i v u hv hu).ren M.le_refl fun s t p h hp=>viewE_idx h hp
    have hlen:(viewH σ H).length = px.no := by simp [viewH,hno]
    have hbl:(baseSt (deads px.no)).H.length = px.no := by simp [baseSt,deads]
    have hg := good_bare (n := σ.length) (tch := []) (fg := []) hmv hrv (by rw [hlen,hno]; exact Nat.le_refl _)
    obtain ⟨M2,ρ2,g1,g2,e1,e2⟩ := absorb (τ := px.τ) (D := []) (ids := List.range px.no) (mv := []) (b := baseSt (deads px.no)) (H0 := viewH σ H) (M0 := M) (ρ0 := viewE σ ρ) (a0 := actOf vs) (w0 := w) (fun _ _=>rfl) (base_dead hlen) hmv hg
     (Fr.refl ..) rfl f5 (by rw [hbl]; exact r1) (by rw [hbl]; exact r2) hc
    rw [hbl] at e1 e2
    have e1:M2 = M := by rw [e1]; exact sealing_none (by show (viewH σ H).length ≤ px.no; rw [hlen]; exact Nat.le_refl _)
    have e2:ρ2 = viewE σ ρ := by rw [e2,← hlen]; exact cut_id hmv
    subst e1; subst e2
    have hm2:Mem M2 (viewE σ ρ) (px.objs x) w := g1.mem
    have hol:(px.objs x).length = px.no := by
     show (px.τ.st [] (List.range px.no) [] (baseSt (deads px.no)) x).H.length = _
     rw [Tmpl.st_H,putCells_len,killAll_len,forgetH_len,hbl]
    have hreps:Reps M2 (viewE σ ρ) vs (px.args x) := reps_tmps g1 (by rw [hr.1,hnp])
    have hown:∀ b,b < w.heap.size → Owned (viewE σ ρ) (px.objs x) b → ∃ (k s:Nat) (x:SObj) (p:Place),σ[k]? = some s ∧ H[s]? = some x ∧ x.live = true ∧ ρ s = some p ∧ p.has b := fun b hb ho=>by
     rcases g2.own b ho with h1 | h1
     ·omega
     ·exact view_owned h1
    refine (h.ok x z hz M2 (viewE σ ρ) w vs hm2 hreps).mono ?_
    rintro e w' ⟨v,r,H',M',ρ',t,f,he,⟨rfl,rfl,ht,hf⟩,hs,hm',hfr⟩
    let ρ3:Env := fun s=>match idx σ 0 s with
     | some k=>ρ' k
     | none=>ρ s
    have hidx:∀ k s:Nat,σ[k]? = some s → idx σ 0 s = some k := fun k s hks=>by
     have key:∀ (l:List Nat) (i j:Nat),l[j]? = some s → ∃ k,idx l i s = some k := by
      intro l
      induction l with
      | nil=>intro i j h; simp at h
      | cons a l ih =>
       intro i j h
       simp only [idx]
       cases hb:Nat.beq a s with
       | true=>exact ⟨i,rfl⟩
       | false =>
        cases j with
        | zero=>simp at h; subst h; rw [Nat.beq_refl] at hb; cases hb
        | succ j=>exact ih (i + 1) j (by simpa using h)
     obtain ⟨k',hk'⟩ := key σ 0 k hks
     obtain ⟨j,e,hj⟩ := idx_spec hk'
     have e:k' = j := by omega
     subst e
     rw [hk',nodupB_inj f2 k' k s hj hks]
    have hρ3:∀ k s:Nat,σ[k]? = some s → ρ3 s = ρ' k := fun k s hks=>by simp only [ρ3,hidx k s hks]
    have hρ3':∀ s:Nat,(∀ k:Nat,σ[k]? ≠ some s) → ρ3 s = ρ s := fun s hns=>by
     have:idx σ 0 s = none := by
      cases hi:idx σ 0 s with
      | none=>rfl
      | some k=>obtain ⟨j,_,hj⟩ := idx_spec hi; exact absurd hj (hns j)
     simp only [ρ3,this]
    have hstay:∀ k s:Nat,σ[k]? = some s → k ∉ px.mv → ρ3 s = ρ s := fun k s hks hkm=>by
     rw [hρ3 k s hks]
     have hklt:k < (px.objs x).length := by rw [hol,← hno]; exact (List.getElem?_eq_some_iff.1 hks).1
     rw [hfr.stay k hklt fun h=>hkm (hf k h)]
     simp only [viewE,hks]
    have hback:∀ s t p,(fun k=>σ[k]?) s = some t → ρ' s = some p → ρ3 t = some p := fun k s p hks hp=>by rw [hρ3 k s hks]; exact hp
    have hmvi:∀ k,k ∈ px.mv → k ∈ px.ids := fun k hk=>subset_mem f6 hk
    have hkeep:∀ k s:Nat,σ[k]? = some s → k ∉ px.ids → ∀ o,H[s]? = some o → o.live = true → (∃ o':SObj,(px.objs' x z)[k]? = some o' ∧ o'.live = true) ∧ ∀ p,ρ s = some p → ρ' k = some p ∧ ∀ b,p.has b → w'.heap[b]? = w.heap[b]? := fun k s hks hki o ho hl=>by
     have hkn:k < px.no := by rw [← hno]; exact (List.getElem?_eq_some_iff.1 hks).1
     have hcell:k ∈ px.τ.cells.filterMap Cel.id? := by
      have := List.all_eq_true.1 f8 k (List.mem_range.2 hkn)
      simp only [Bool.or_eq_true,List.contains_eq_mem,decide_eq_true_eq] at this
      exact this.resolve_left hki
     have hko:k < (px.objs x).length := by rw [hol]; exact hkn
     obtain ⟨ok,hok⟩:∃ ok,(px.objs x)[k]? = some ok := ⟨_,List.getElem?_eq_getElem hko⟩
     have hokl:ok.live = true := by
      have hok':(px.τ.st [] (List.range px.no) [] (baseSt (deads px.no)) x).H[k]? = some ok := hok
      rw [Tmpl.st_H] at hok'
      rcases putCells_H hok' with ⟨c',z',hi,hid,rfl⟩ | ⟨hni,_⟩
      ·cases c' with
       | slot=>cases hid
       | _=>rfl
      ·exact absurd hcell hni
     obtain ⟨a1,a2⟩ := hfr.keep k ok hko (fun h=>hki (ht k h)) hok hokl
     exact ⟨a1,fun p hp=>a2 p (by simp only [viewE,hks]; exact hp)⟩
    have hother:∀ s o p b,H[s]? = some o → o.live = true → ρ s = some p → p.has b → (∀ k:Nat,σ[k]? ≠ some s) → ¬ Owned (viewE σ ρ) (px.objs x) b := fun s o p b ho hl hp hb hns hw=>by
     obtain ⟨k,s',x',p',h1,h2,h3,h4,h5⟩ := hown b (hm.has_lt ho hl hp hb) hw
     have := hm.diss s' s x' o p' p b h2 ho h3 hl h4 hp h5 hb
     subst this
     exact hns k h1
    have hsame:∀ s o,H[s]? = some o → o.live = true → (∀ k:Nat,σ[k]? = some s → k ∉ px.ids) → ∀ p,ρ s = some p → ρ3 s = some p ∧ ∀ b,p.has b → w'.heap[b]? = w.heap[b]? := fun s o ho hl hni p hp=>by
     by_cases hin:∃ k:Nat,σ[k]? = some s
     ·obtain ⟨k,hks⟩ := hin
      obtain ⟨_,a2⟩ := hkeep k s hks (hni k hks) o ho hl
      obtain ⟨b1,b2⟩ := a2 p hp
      exact ⟨by rw [hρ3 k s hks]; exact b1,b2⟩
     ·have hns:∀ k:Nat,σ[k]? ≠ some s := fun k h=>hin ⟨k,h⟩
      exact ⟨by rw [hρ3' s hns]; exact hp,fun b hb=>hfr.same b (hm.has_lt ho hl hp hb) (hother s o p b ho hl hp hb hns)⟩
    have hsplit:∀ s o,(putBack σ (px.objs' x z) px.ids (forgetH (through σ px.mv) H))[s]? = some o →
      (∃ k ∈ px.ids,σ[k]? = some s ∧ ∃ q,(px.objs' x z)[k]? = some q ∧ o = q.ren fun k=>σ[k]?) ∨
      (∃ q,H[s]? = some q ∧ (o = q.forget (through σ px.mv) ∨ (through σ px.mv = [] ∧ o = q)) ∧ ∀ k:Nat,σ[k]? = some s → k ∉ px.ids) := fun s o ho=>by
     rcases putBack_get ho with h1 | ⟨h1,h2⟩
     ·exact .inl h1
     ·obtain ⟨q,q1,q2⟩ := forgetH_get h1
      refine .inr ⟨q,q1,q2,fun k hks hki=>?_⟩
      have hkn:k < px.no := blt_lt (List.all_eq_true.1 f7 k hki)
      have:k < (px.objs' x z).length := by
       show k < (px.ω.st [] px.ids px.mv (baseSt (px.objs x)) z).H.length
       rw [Tmpl.st_H,putCells_len,killAll_len,forgetH_len]
       show k < (px.objs x).length
       rw [hol]; exact hkn
      have hn := h2 k hki hks
      rw [List.getElem?_eq_getElem this] at hn; cases hn
    have hlf:∀ (q o:SObj),(o = q.forget (through σ px.mv) ∨ (through σ px.mv = [] ∧ o = q)) → o.live = q.live := fun q o h=>by
     rcases h with rfl | ⟨_,rfl⟩
     ·exact live_forget _ q
     ·rfl
    have hbut:Env.leBut (through σ px.mv) ρ ρ3 := fun s p hs hp=>by
     have hs:s ∉ through σ px.mv := by simpa using hs
     by_cases hin:∃ k:Nat,σ[k]? = some s
     ·obtain ⟨k,hks⟩ := hin
      rw [hstay k s hks fun hkm=>hs (mem_through.2 ⟨k,hkm,hks⟩)]; exact hp
     ·rw [hρ3' s fun k h=>hin ⟨k,h⟩]; exact hp
    have hmem3:Mem M' ρ3 (putBack σ (px.objs' x z) px.ids (forgetH (through σ px.mv) H)) w' := by
     refine ⟨hm'.imm,fun s o ho=>?_,fun s o p b ho hl hp hb=>?_,fun s s' o o' p p' b ho ho' hl hl' hp hp' hb hb'=>?_,fun s hs=>?_,fun s o p b ho hl hp hb=>?_⟩
     ·rcases hsplit s o ho with ⟨k,hki,hks,q,hq,rfl⟩ | ⟨q,hq,hqo,hni⟩
      ·exact (hm'.own k q hq).ren M'.le_refl hback (hρ3 k s hks) (fun _ _ _ _=>rfl)
      ·by_cases hl:q.live = true
       ·have hρs:ρ3 s = ρ s := by
         by_cases hin:∃ k:Nat,σ[k]? = some s
         ·obtain ⟨k,hks⟩ := hin
          exact hstay k s hks fun hkm=>hni k hks (hmvi k hkm)
         ·exact hρ3' s fun k h=>hin ⟨k,h⟩
        have := (hm.own s q hq).forget (d := through σ px.mv) hfr.imm hbut hρs fun p b hp hb=>(hsame s q hq hl hni p hp).2 b hb
        rcases hqo with rfl | ⟨e,rfl⟩
        ·exact this
        ·rwa [e,SObj.forget_nil] at this
       ·have e0 := live_some hl
        subst e0
        rcases hqo with rfl | ⟨_,rfl⟩ <;> trivial
     ·rcases hsplit s o ho with ⟨k,hki,hks,q,hq,rfl⟩ | ⟨q,hq,hqo,hni⟩
      ·rw [live_ren] at hl
       rw [hρ3 k s hks] at hp
       exact hm'.seps k q p b hq hl hp hb
      ·rw [hlf q o hqo] at hl
       by_cases hin:∃ k:Nat,σ[k]? = some s
       ·obtain ⟨k,hks⟩ := hin
        obtain ⟨⟨o',a1,a2⟩,_⟩ := hkeep k s hks (hni k hks) q hq hl
        rw [hρ3 k s hks] at hp
        exact hm'.seps k o' p b a1 a2 hp hb
       ·have hns:∀ k:Nat,σ[k]? ≠ some s := fun k h=>hin ⟨k,h⟩
        rw [hρ3' s hns] at hp
        cases e:M' b with
        | none=>rfl
        | some ob =>
         rcases hfr.new b ob (hm.seps s q p b hq hl hp hb) e with h1 | h1
         ·have := hm.has_lt hq hl hp hb; omega
         ·exact absurd h1 (hother s q p b hq hl hp hb hns)
     ·
      have htw:∀ s o p,(putBack σ (px.objs' x z) px.ids (forgetH (through σ px.mv) H))[s]? = some o → o.live = true → ρ3 s = some p →
        (∃ k q,σ[k]? = some s ∧ (px.objs' x z)[k]? = some q ∧ q.live = true ∧ ρ' k = some p) ∨ ((∀ k:Nat,σ[k]? ≠ some s) ∧ ∃ q,H[s]? = some q ∧ q.live = true ∧ ρ s = some p) := fun s o p ho hl hp=>by
       rcases hsplit s o ho with ⟨k,hki,hks,q,hq,rfl⟩ | ⟨q,hq,hqo,hni⟩
       ·rw [live_ren] at hl
        rw [hρ3 k s hks] at hp
        exact .inl ⟨k,q,hks,hq,hl,hp⟩
       ·rw [hlf q o hqo] at hl
        by_cases hin:∃ k:Nat,σ[k]? = some s
        ·obtain ⟨k,hks⟩ := hin
         obtain ⟨⟨o',a1,a2⟩,_⟩ := hkeep k s hks (hni k hks) q hq hl
         rw [hρ3 k s hks] at hp
         exact .inl ⟨k,o',hks,a1,a2,hp⟩
        ·have hns:∀ k:Nat,σ[k]? ≠ some s := fun k h=>hin ⟨k,h⟩
         rw [hρ3' s hns] at hp
         exact .inr ⟨hns,q,hq,hl,hp⟩
      have hcross:∀ (k s':Nat) (q:SObj) (q':SObj) (p p':Place),(px.objs' x z)[k]? = some q → q.live = true → ρ' k = some p → (∀ k:Nat,σ[k]? ≠ some s') → H[s']? = some q' → q'.live = true → ρ s' = some p' → p.has b → p'.has b → False := fun k s' q q' p p' h1 h2 h3 h4 h5 h6 h7 h8 h8'=>by
       have hlt2 := hm.has_lt h5 h6 h7 h8'
       rcases hfr.own b ⟨k,q,p,h1,h2,h3,h8⟩ with h9 | h9
       ·omega
       ·exact hother s' q' p' b h5 h6 h7 h8' h4 h9
      rcases htw s o p ho hl hp with ⟨k,q,a1,a2,a3,a4⟩ | ⟨a1,q,a2,a3,a4⟩
      ·rcases htw s' o' p' ho' hl' hp' with ⟨k',q',b1,b2,b3,b4⟩ | ⟨b1,q',b2,b3,b4⟩
       ·have := hm'.diss k k' q q' p p' b a2 b2 a3 b3 a4 b4 hb hb'
        subst this
        rw [a1] at b1; cases b1; rfl
       ·exact (hcross k s' q q' p p' a2 a3 a4 b1 b2 b3 b4 hb hb').elim
      ·rcases htw s' o' p' ho' hl' hp' with ⟨k',q',b1,b2,b3,b4⟩ | ⟨b1,q',b2,b3,b4⟩
       ·exact (hcross k' s q' q p' p b2 b3 b4 a1 a2 a3 a4 hb' hb).elim
       ·exact hm.diss s s' q q' p p' b a2 b2 a3 b3 a4 b4 hb hb'
     ·rw [putBack_len,forgetH_len] at hs
      have hns:∀ k:Nat,σ[k]? ≠ some s := fun k h=>by have := hlt k s h; omega
      rw [hρ3' s hns]
      exact hm.fresh s hs
     ·rcases hsplit s o ho with ⟨k,hki,hks,q,hq,rfl⟩ | ⟨q,hq,hqo,hni⟩
      ·rw [live_ren] at hl
       rw [hρ3 k s hks] at hp
       exact hm'.lts k q p b hq hl hp hb
      ·rw [hlf q o hqo] at hl
       by_cases hin:∃ k:Nat,σ[k]? = some s
       ·obtain ⟨k,hks⟩ := hin
        obtain ⟨⟨o',a1,a2⟩,_⟩ := hkeep k s hks (hni k hks) q hq hl
        rw [hρ3 k s hks] at hp
        exact hm'.lts k o' p b a1 a2 hp hb
       ·have hns:∀ k:Nat,σ[k]? ≠ some s := fun k h=>hin ⟨k,h⟩
        rw [hρ3' s hns] at hp
        exact Nat.lt_of_lt_of_le (hm.lts s q p b hq hl hp hb) hfr.grow
    refine ⟨v,_,_,M',ρ3,_,_,he,hk,hs.ren M'.le_refl hback,hmem3,?_⟩
    have hup:∀ b,b < w.heap.size → Owned (viewE σ ρ) (px.objs x) b → Owned ρ H b := fun b hb ho=>by
     obtain ⟨k,s,x',p,h1,h2,h3,h4,h5⟩ := hown b hb ho
     exact ⟨s,x',p,h2,h3,h4,h5⟩
    refine ⟨hfr.imm,fun b ob h0 h1=>?_,fun b hb=>?_,fun b hb hno2=>hfr.same b hb fun ho=>hno2 (hup b hb ho),hfr.grow,fun s o hsn hst ho hl=>?_,fun s hsn hsm=>?_,hfr.io⟩
    ·rcases hfr.new b ob h0 h1 with h2 | h2
     ·exact .inl h2
     ·by_cases hb:b < w.heap.size
      ·exact .inr (hup b hb h2)
      ·exact .inl (by omega)
    ·obtain ⟨s,o,p,h1,h2,h3,h4⟩ := hb
     rcases hsplit s o h1 with ⟨k,hki,hks,q,hq,rfl⟩ | ⟨q,hq,hqo,hni⟩
     ·rw [live_ren] at h2
      rw [hρ3 k s hks] at h3
      rcases hfr.own b ⟨k,q,p,hq,h2,h3,h4⟩ with h5 | h5
      ·exact .inl h5
      ·by_cases hb:b < w.heap.size
       ·exact .inr (hup b hb h5)
       ·exact .inl (by omega)
     ·rw [hlf q o hqo] at h2
      refine .inr ⟨s,q,p,hq,h2,?_,h4⟩
      by_cases hin:∃ k:Nat,σ[k]? = some s
      ·obtain ⟨k,hks⟩ := hin
       rw [hstay k s hks fun hkm=>hni k hks (hmvi k hkm)] at h3; exact h3
      ·rw [hρ3' s fun k h=>hin ⟨k,h⟩] at h3; exact h3
    ·have hni:∀ k:Nat,σ[k]? = some s → k ∉ px.ids := fun k hks hki=>hst (mem_through.2 ⟨k,hki,hks⟩)
     refine ⟨?_,hsame s o ho hl hni⟩
     have hlen2:s < (putBack σ (px.objs' x z) px.ids (forgetH (through σ px.mv) H)).length := by rw [putBack_len,forgetH_len]; exact hsn
     obtain ⟨o2,ho2⟩:∃ o2,(putBack σ (px.objs' x z) px.ids (forgetH (through σ px.mv) H))[s]? = some o2 := ⟨_,List.getElem?_eq_getElem hlen2⟩
     refine ⟨o2,ho2,?_⟩
     rcases hsplit s o2 ho2 with ⟨k,hki,hks,_⟩ | ⟨q,hq,hqo,_⟩
     ·exact absurd hki (hni k hks)
     ·rw [ho] at hq; cases hq
      rw [hlf o o2 hqo]; exact hl
    ·by_cases hin:∃ k:Nat,σ[k]? = some s
     ·obtain ⟨k,hks⟩ := hin
      exact hstay k s hks fun hkm=>hsm (mem_through.2 ⟨k,hkm,hks⟩)
     ·exact hρ3' s fun k h=>hin ⟨k,h⟩
def finX (cx:Cx) (fn:Func) (px:PX):KX px.ω.El := fun e s =>
 gd (isEnd e && (s.marks.isEmpty || Nat.ble px.no s.H.length)) (match shut s.marks s.H with
  | none=>none
  | some H'=>resO cx { s with H := H',marks := [] } fn.results.toList fun l =>
   gd (Nat.beq l.length px.nr) (readI px.ω [] px.ids px.mv px.no { T := entryT (.full 8) 0 l,H := H',n0 := px.no,tch := s.tch,fg := s.fg,marks := [],er := [] }))
def codeX (cx:Cx) (lx:Lx) (n:Nat) (an:Ann) (fn:Func) (c:Code) (px:PX) (x:px.τ.El):Option px.ω.El :=
 evalO cx lx n px.ω.El (CEls.eqv px.ω.cells) an true fn.ntmps c (.entry (px.args x) (px.objs x)) (finX cx fn px)
theorem finX_some {cx:Cx} {fn:Func} {px:PX} {e:Exit} {s:St} {y:px.ω.El} (h:finX cx fn px e s = some y) :
  (e = .normal ∨ e = .ret) ∧ (px.no ≤ s.H.length ∨ s.marks = []) ∧ ∃ H',shut s.marks s.H = some H' ∧ resP cx { s with H := H',marks := [] } fn.results.toList fun l =>
   l.length = px.nr ∧ readI px.ω [] px.ids px.mv px.no { T := entryT (.full 8) 0 l,H := H',n0 := px.no,tch := s.tch,fg := s.fg,marks := [],er := [] } = some y := by
 obtain ⟨h1,h⟩ := gd_some h
 simp only [Bool.and_eq_true,Bool.or_eq_true,List.isEmpty_iff] at h1
 refine ⟨isEnd_eq h1.1,h1.2.symm.imp (fun h=>Nat.le_of_ble_eq_true h) id,?_⟩
 split at h
 ·cases h
 ·rename_i H' hs
  refine ⟨H',hs,resP_mono _ _ _ (fun l hl=>?_) (resO_sound _ _ h)⟩
  obtain ⟨h2,hl⟩ := gd_some hl
  exact ⟨Nat.eq_of_beq_eq_true h2,hl⟩
theorem PX.objs_len (px:PX) (x:px.τ.El):(px.objs x).length = px.no := by
 show (px.τ.st [] (List.range px.no) [] (baseSt (deads px.no)) x).H.length = _
 rw [Tmpl.st_H,putCells_len,killAll_len,forgetH_len]
 simp [baseSt,deads]
theorem retV_parts {M:Imm} {ρ:Env} {v:Value} {l:List SV} (h:SRep M ρ v (retV l)):∃ vs:List Value,Reps M ρ vs l ∧ ∀ (M2:Imm) (ρ2:Env) (l2:List SV),l2.length = l.length → Reps M2 ρ2 vs l2 → SRep M2 ρ2 v (retV l2) := by
 match l,h with
 | [x],h =>
  refine ⟨[v],⟨rfl,fun i u y hu hy=>?_⟩,fun M2 ρ2 l2 hl hr=>?_⟩
  ·cases i with
   | zero=>simp at hu hy; subst hu; subst hy; exact h
   | succ i=>simp at hu
  ·match l2,hl,hr with
   | [y],_,hr=>exact hr.2 0 v y rfl rfl
 | [],h =>
  have h:SRep M ρ v (.tup []) := h
  cases h with
  | tup cs _ hl hr =>
   refine ⟨cs.toList,⟨by simpa using hl,fun i u y hu hy=>by simp at hy⟩,fun M2 ρ2 l2 hl2 hr2=>?_⟩
   match l2,hl2 with
   | [],_=>exact .tup cs _ hl fun i v x hv hx=>by simp at hx
 | a :: b :: l,h =>
  have h:SRep M ρ v (.tup (a :: b :: l)) := h
  cases h with
  | tup cs _ hl hr =>
   refine ⟨cs.toList,⟨by simpa using hl,fun i u y hu hy=>hr i u y (by rw [← Array.getElem?_toList]; exact hu) hy⟩,fun M2 ρ2 l2 hl2 hr2=>?_⟩
   match l2,hl2,hr2 with
   | x :: y :: l2,hl2,hr2=>exact .tup cs _ (by rw [hl,hl2]) fun i v z hv hz=>hr2.2 i v z (by rw [Array.getElem?_toList]; exact hv) hz
theorem PXOk.of_eval {cx:Cx} (hcx:cx.Ok) {lx:Lx} (hlx:lx.Ok cx) {n g:Nat} {an:Ann} {fn:Func} {c:Code} {px:PX} (hf:cx.fns.lookup g = some fn) (hb:fn.body = some c)
  (hcode:∀ x y,px.code x = some y → codeX cx lx n an fn c px x = some y) (hn:Nat.ble px.np fn.ntmps = true) (hcov:(px.ω.covers px.ids && subset px.mv px.ids) = true):PXOk cx g px := by
 rw [Bool.and_eq_true] at hcov
 refine ⟨⟨fn,hf⟩,fun x y hy=>?_⟩
 have hw := (evalO_sound hcx hlx n).1 _ _ (CEls.eqv_ok px.ω.cells) none an true fn.ntmps c _ _ y (fun _=>rfl) (hcode x y hy)
 have hcall:SCall cx.P g (px.args x) (px.objs x) fun r H' t f=>∃ l,r = retV l ∧ l.length = px.nr ∧ readI px.ω [] px.ids px.mv px.no { T := entryT (.full 8) 0 l,H := H',n0 := px.no,tch := t,fg := f,marks := [],er := [] } = some y := by
  refine SCall_of_WPs hcx hf hb (by rw [show (px.args x).length = px.np from tmpsOf_len _ _]; exact Nat.le_of_ble_eq_true hn) (hw.mono fun e s hs=>?_)
  obtain ⟨h1,h1',H',h2,h3⟩ := finX_some hs
  exact ⟨h1,h1'.imp (fun h=>by rw [px.objs_len]; exact h) id,H',h2,resP_mono _ _ _ (fun l h4=>⟨l,rfl,h4⟩) h3⟩
 intro M ρ w vs hm hr
 refine (hcall M ρ w vs hm hr).mono ?_
 rintro e w' ⟨v,r,H',M',ρ',t,f,he,⟨l,rfl,hl,hrd⟩,hs,hm',hfr⟩
 obtain ⟨us,hus,hback⟩ := retV_parts hs
 obtain ⟨r1,c',hc,r2⟩ := readI_some hrd
 have hno:px.no ≤ H'.length := by
  simp only [St.reads,Bool.and_eq_true] at r1
  exact Nat.le_of_ble_eq_true r1.2.2.2.2
 have hg := good_bare (n := px.no) (tch := t) (fg := f) hm' hus hno
 have hbl:(baseSt (px.objs x)).H.length = px.no := px.objs_len x
 obtain ⟨M2,ρ2,g1,g2,_,_⟩ := absorb (τ := px.ω) (D := []) (ids := px.ids) (mv := px.mv) (b := baseSt (px.objs x)) (H0 := px.objs x) (M0 := M) (ρ0 := ρ) (a0 := actOf us) (w0 := w) (fun _ _=>rfl) (base_bare hm _ _ _) hm hg
  (by rw [hbl]; rw [px.objs_len] at hfr; exact hfr) hcov.2 hcov.1 (by rw [hbl]; exact r1) (by rw [hbl]; exact r2) hc
 rw [hbl] at g2
 have hus2:us.length = px.nr := by rw [hus.1,hl]
 refine ⟨v,_,_,M2,ρ2,px.ids,px.mv,he,⟨rfl,rfl,fun i h=>h,fun i h=>h⟩,hback M2 ρ2 _ (by rw [hl]; exact tmpsOf_len _ _) (reps_tmps g1 hus2),g1.mem,?_⟩
 rw [px.objs_len]; exact g2
structure PF where
 ats:List ATy
 ty:Nat
 row:List Ty
 code:AEls ats → Option (List (Els row))
structure PFOk (cx:Cx) (g:Nat) (pf:PF):Prop where
 fn:∃ fn,cx.fns.lookup g = some fn
 ok:∀ a l,pf.code a = some l → SCall cx.P g (svs pf.ats a) [] fun r H' t f=>r = .sl 0 pf.row.length 0 l.length ∧ H' = [.tvec pf.ty pf.row l] ∧ t = [] ∧ f = []
def PF.sm (pf:PF):Sm where
 pre := fun args H=>(rdL [] 0 pf.ats args).isSome
 run := fun X args H k=>match rdL [] 0 pf.ats args with
  | some p=>gd p.1 (match pf.code p.2 with
   | some l=>k (.sl H.length pf.row.length 0 l.length) (H ++ [.tvec pf.ty pf.row l]) [] []
   | none=>none)
  | none=>none
theorem PF.sm_ok {cx:Cx} {g:Nat} {pf:PF} (h:PFOk cx g pf):SmOk cx g pf.sm := by
 refine ⟨h.fn,fun X args H k y hk=>?_⟩
 have hk:(match rdL [] 0 pf.ats args with
  | some p=>gd p.1 (match pf.code p.2 with
   | some l=>k (.sl H.length pf.row.length 0 l.length) (H ++ [.tvec pf.ty pf.row l]) [] []
   | none=>none)
  | none=>none) = some y := hk
 split at hk
 ·rename_i p hrd
  obtain ⟨hc,hk⟩ := gd_some hk
  split at hk
  ·rename_i z hz
   intro M ρ w vs hm hr
   obtain ⟨l1,l2⟩ := rdL0_sound (M := M) (ρ := ρ) (ρ2 := noEnv) pf.ats args p.1 p.2 hrd hc
   refine (h.ok p.2 z hz M noEnv w vs (mem_none hm.imm) ⟨by rw [hr.1,l1],fun i v x hv hx=>?_⟩).mono ?_
   ·obtain ⟨x',hx'⟩:∃ x',args[i]? = some x' := by
     have:i < args.length := by rw [← l1]; exact (List.getElem?_eq_some_iff.1 hx).1
     exact ⟨_,List.getElem?_eq_getElem this⟩
    exact l2 i v x x' hx hx' (hr.2 i v x' hv hx')
   ·rintro e w' ⟨v,r,H',M',ρ',t,f,he,⟨rfl,rfl,rfl,rfl⟩,hs,hm',hf⟩
    have hsame:∀ b,b < w.heap.size → w'.heap[b]? = w.heap[b]? := fun b hb=>hf.same b hb not_owned_none
    have hnewb:∀ q b,ρ' 0 = some q → q.has b → w.heap.size ≤ b := fun q b hq hb=>by
     rcases hf.own b ⟨0,_,q,rfl,rfl,hq,hb⟩ with h1 | h1
     ·exact h1
     ·exact absurd h1 not_owned_none
    have hle:ρ.le (ρ.set H.length (ρ' 0)) := fun s p hp=>by
     have:s ≠ H.length := fun e=>by subst e; rw [hm.fresh _ (Nat.le_refl _)] at hp; cases hp
     rw [Env.set_ne _ _ this]; exact hp
    have hobj:∀ s o,(H ++ [SObj.tvec pf.ty pf.row z])[s]? = some o → (s < H.length ∧ H[s]? = some o) ∨ (s = H.length ∧ o = .tvec pf.ty pf.row z) := fun s o ho=>by
     rw [List.getElem?_append] at ho
     split at ho
     ·exact .inl ⟨by assumption,ho⟩
     ·rename_i hlt
      have:s - H.length = 0 := by
       have := (List.getElem?_eq_some_iff.1 ho).1
       simp at this; omega
      rw [this] at ho
      simp at ho
      exact .inr ⟨by omega,ho.symm⟩
    have hset:∀ s,s < H.length → (ρ.set H.length (ρ' 0)) s = ρ s := fun s hs=>Env.set_ne _ _ (by omega)
    refine ⟨v,_,_,M',ρ.set H.length (ρ' 0),[],[],he,hk,?_,?_,?_⟩
    ·generalize z.length = n at hs
     cases hs with
     | sl _ _ _ _ c k q hq hkk hcc hnn h6=>exact .sl _ _ _ _ c k q (by rw [Env.set_self]; exact hq) hkk hcc hnn h6
     | slz _ _ _ a=>exact .slz _ _ _ _
    ·refine ⟨hm'.imm,fun s o ho=>?_,fun s o q b ho hl hq hb=>?_,fun s s1 o o1 q q1 b ho ho1 hl hl1 hq hq1 hb hb'=>?_,fun s hs=>?_,fun s o q b ho hl hq hb=>?_⟩
     ·rcases hobj s o ho with ⟨hs,ho⟩ | ⟨rfl,rfl⟩
      ·by_cases hl:o.live = true
       ·exact (hm.own s o ho).mono hf.imm hle (hset s hs) fun p b hp hb=>hsame _ (hm.has_lt ho hl hp hb)
       ·rw [live_some hl]; trivial
      ·have h0 := hm'.own 0 _ rfl
       rcases h0 with ⟨h1,h2⟩ | ⟨q,h1,h2⟩
       ·exact .inl ⟨by rw [Env.set_self]; exact h1,h2⟩
       ·refine .inr ⟨q,by rw [Env.set_self]; exact h1,?_⟩
        obtain ⟨cs,a1,a2,a3,a4,a5,a6⟩ := h2.ex
        refine ⟨cs,a1,a2,a3,a4,fun i j x v hx hv=>?_,a6⟩
        obtain ⟨b1,b2,b3⟩ := a5 i j x v hx hv
        refine ⟨b1,b2,?_⟩
        unfold vcell at hx
        simp only [Option.map_eq_some_iff] at hx
        obtain ⟨pp,_,rfl⟩ := hx
        cases b3 with
        | pv b3=>exact .pv b3
     ·rcases hobj s o ho with ⟨hs,ho⟩ | ⟨rfl,rfl⟩
      ·rw [hset s hs] at hq
       cases e:M' b with
       | none=>rfl
       | some ob =>
        rcases hf.new b ob (hm.seps s o q b ho hl hq hb) e with h1 | h1
        ·have := hm.has_lt ho hl hq hb; omega
        ·exact absurd h1 not_owned_none
      ·rw [Env.set_self] at hq
       exact hm'.seps 0 _ q b rfl rfl hq hb
     ·rcases hobj s o ho with ⟨hs,ho⟩ | ⟨rfl,rfl⟩ <;> rcases hobj s1 o1 ho1 with ⟨hs1,ho1⟩ | ⟨rfl,rfl⟩
      ·rw [hset s hs] at hq
       rw [hset s1 hs1] at hq1
       exact hm.diss s s1 o o1 q q1 b ho ho1 hl hl1 hq hq1 hb hb'
      ·rw [hset s hs] at hq
       rw [Env.set_self] at hq1
       have h1 := hm.has_lt ho hl hq hb
       have h2 := hnewb q1 b hq1 hb'
       omega
      ·rw [Env.set_self] at hq
       rw [hset s1 hs1] at hq1
       have h1 := hm.has_lt ho1 hl1 hq1 hb'
       have h2 := hnewb q b hq hb
       omega
      ·rfl
     ·have hs':H.length + 1 ≤ s := by simpa using hs
      rw [Env.set_ne _ _ (by omega)]
      exact hm.fresh s (by omega)
     ·rcases hobj s o ho with ⟨hs,ho⟩ | ⟨rfl,rfl⟩
      ·rw [hset s hs] at hq
       exact Nat.lt_of_lt_of_le (hm.lts s o q b ho hl hq hb) hf.grow
      ·rw [Env.set_self] at hq
       exact hm'.lts 0 _ q b rfl rfl hq hb
    ·refine ⟨hf.imm,fun b o a c=>(hf.new b o a c).imp id fun h=>absurd h not_owned_none,fun b hb=>?_,fun b hb _=>hsame b hb,hf.grow,fun s o hs _ ho hl=>⟨⟨o,by rw [List.getElem?_append_left hs]; exact ho,hl⟩,fun p hp=>⟨hle s p hp,fun b hb=>hsame _ (hm.has_lt ho hl hp hb)⟩⟩,fun s hs _=>hset s hs,hf.io⟩
     obtain ⟨s,o,q,h1,h2,h3,h4⟩ := hb
     rcases hobj s o h1 with ⟨hs,ho⟩ | ⟨rfl,rfl⟩
     ·rw [hset s hs] at h3
      exact .inr ⟨s,o,q,ho,h2,h3,h4⟩
     ·rw [Env.set_self] at h3
      exact .inl (hnewb q b h3 h4)
  ·cases hk
 ·cases hk
def rowF (ty:Nat) (row:List Ty) (H:List SObj) (r:SV):Option (List (Els row)) := match r with
 | .pv (.lit (.slice none 0 0))=>some []
 | .sl k sz 0 n=>match H[k]? with
  | some (.tvec ty' row' l)=>match Nat.beq ty' ty && Nat.beq sz row.length with
   | true=>match castRows row' row l with
    | some l=>gd (decide (n = l.length)) (some l)
    | none=>none
   | false=>none
  | _=>none
 | _=>none
def oneF (ty:Nat) (row:List Ty) (H:List SObj):List SV → Option (List (Els row))
 | [r]=>rowF ty row H r
 | _=>none
def finF (cx:Cx) (fn:Func) (ty:Nat) (row:List Ty):KX (List (Els row)) := fun e s =>
 gd (isEnd e) (match shut s.marks s.H with
  | none=>none
  | some H'=>resO cx { s with H := H',marks := [] } fn.results.toList fun l=>oneF ty row H' l)
def codeF (cx:Cx) (lx:Lx) (n:Nat) (an:Ann) (fn:Func) (c:Code) (ats:List ATy) (ty:Nat) (row:List Ty) (a:AEls ats):Option (List (Els row)) :=
 evalO cx lx n (List (Els row)) (listEq (Els.eqv row)) an true fn.ntmps c (.entry (svs ats a) []) (finF cx fn ty row)
theorem PFOk.of_eval {cx:Cx} (hcx:cx.Ok) {lx:Lx} (hlx:lx.Ok cx) {n g:Nat} {an:Ann} {fn:Func} {c:Code} {pf:PF} (hf:cx.fns.lookup g = some fn) (hb:fn.body = some c)
  (hcode:∀ a y,pf.code a = some y → codeF cx lx n an fn c pf.ats pf.ty pf.row a = some y) (hn:Nat.ble pf.ats.length fn.ntmps = true):PFOk cx g pf := by
 refine ⟨⟨fn,hf⟩,fun a y hy=>?_⟩
 have hlen:∀ (l:List ATy) (x:AEls l),(svs l x).length = l.length := by
  intro l
  induction l with
  | nil=>intro _; rfl
  | cons a l ih =>
   cases l with
   | nil=>intro _; rfl
   | cons b l=>intro x; simp only [svs,List.length_cons,ih x.2]
 have hw := (evalO_sound hcx hlx n).1 _ _ (listEq_ok (Els.eqv_ok pf.row)) none an true fn.ntmps c _ _ y (fun _=>rfl) (hcode a y hy)
 have hcall:SCall cx.P g (svs pf.ats a) [] fun r H' t f=>∃ l,r = retV l ∧ oneF pf.ty pf.row H' l = some y := by
  refine SCall_of_WPs hcx hf hb (by rw [hlen]; exact Nat.le_of_ble_eq_true hn) (hw.mono fun e s hs=>?_)
  obtain ⟨h1,h⟩ := gd_some hs
  split at h
  ·cases h
  ·rename_i H' hsh
   exact ⟨isEnd_eq h1,.inl (Nat.zero_le _),H',hsh,resP_mono _ _ _ (fun l h4=>⟨l,rfl,h4⟩) (resO_sound _ _ h)⟩
 intro M ρ w vs hm hr
 refine (hcall M ρ w vs hm hr).mono ?_
 rintro e w' ⟨v,r,H',M',ρ',t,f,he,⟨l,rfl,hrd⟩,hs,hm',hfr⟩
 obtain ⟨x,rfl⟩:∃ x,l = [x] := by
  unfold oneF at hrd
  split at hrd
  ·exact ⟨_,rfl⟩
  ·cases hrd
 replace hs:SRep M' ρ' v x := hs
 replace hrd:rowF pf.ty pf.row H' x = some y := hrd
 have key:∃ q:Option Place,SRep M' (fun s=>bif Nat.beq s 0 then q else none) v (.sl 0 pf.row.length 0 y.length) ∧ OwnAt M' (fun s=>bif Nat.beq s 0 then q else none) w' 0 (.tvec pf.ty pf.row y) ∧
   (∀ p,q = some p → p.subs = [] ∧ M' p.block = none ∧ (w.heap.size ≤ p.block ∨ Owned ρ [] p.block)) := by
  unfold rowF at hrd
  split at hrd
  ·cases hrd
   have := hs.lit_eq; subst this
   exact ⟨none,.slz _ _ _ _,.inl ⟨rfl,rfl⟩,fun p h=>by cases h⟩
  ·rename_i k sz n
   split at hrd
   ·rename_i ty' row' l0 ho
    split at hrd
    ·rename_i hc
     rw [Bool.and_eq_true] at hc
     have e1 := Nat.eq_of_beq_eq_true hc.1
     have e2 := Nat.eq_of_beq_eq_true hc.2
     subst e1; subst e2
     split at hrd
     ·rename_i l1 hcast
      obtain ⟨hn2,hrd⟩ := gd_some hrd
      have hn2 := of_decide_eq_true hn2
      have hrd := Option.some.inj hrd
      subst hrd
      obtain ⟨e3,e4⟩ := castRows_eq hcast
      subst e3
      have e4:l1 = l0 := e4
      subst e4
      subst hn2
      have hown := hm'.own k _ ho
      refine ⟨(ρ' k).map fun p=>⟨p.block,p.cap,[]⟩,?_,?_,fun p hp=>by
       obtain ⟨p0,hp0,rfl⟩ := Option.map_eq_some_iff.1 hp
       exact ⟨rfl,hm'.sep k _ p0 ho rfl hp0,hfr.own p0.block ⟨k,_,p0,ho,rfl,hp0,p0.self⟩⟩⟩
      ·generalize l1.length = m at hs
       cases hs with
       | sl _ _ _ _ c k2 q hq hkk hcc hnn h6=>exact .sl _ _ _ _ c k2 ⟨q.block,q.cap,[]⟩ (by show (ρ' k).map _ = _; rw [hq]; rfl) hkk hcc hnn h6
       | slz _ _ _ a=>exact .slz _ _ _ _
      ·rcases hown with ⟨h1,h2⟩ | ⟨q,h1,h2⟩
       ·exact .inl ⟨by show (ρ' k).map _ = _; rw [h1]; rfl,h2⟩
       ·refine .inr ⟨⟨q.block,q.cap,[]⟩,by show (ρ' k).map _ = _; rw [h1]; rfl,?_⟩
        obtain ⟨cs,a1,a2,a3,a4,a5,a6⟩ := h2.ex
        refine ⟨cs,a1,a2,a3,a4,fun i j x v hx hv=>?_,a6⟩
        obtain ⟨b1,b2,b3⟩ := a5 i j x v hx hv
        refine ⟨b1,b2,?_⟩
        unfold vcell at hx
        simp only [Option.map_eq_some_iff] at hx
        obtain ⟨pp,_,rfl⟩ := hx
        cases b3 with
        | pv b3=>exact .pv b3
     ·cases hrd
    ·cases hrd
   ·cases hrd
  ·cases hrd
 obtain ⟨q,k1,k2,k3⟩ := key
 have hone:∀ (s:Nat) (o:SObj),([SObj.tvec pf.ty pf.row y]:List SObj)[s]? = some o → s = 0 ∧ o = .tvec pf.ty pf.row y := fun s o h=>by
  match s,h with
  | 0,h=>simp at h; exact ⟨rfl,h.symm⟩
  | s + 1,h=>simp at h
 refine ⟨v,_,_,M',fun s=>bif Nat.beq s 0 then q else none,[],[],he,⟨rfl,rfl,rfl,rfl⟩,k1,?_,?_⟩
 ·refine ⟨hm'.imm,fun s o ho=>?_,fun s o p b ho hl hp hb=>?_,fun s s1 o o1 p p1 b ho ho1 _ _ _ _ _ _=>?_,fun s hs=>?_,fun s o p b ho hl hp hb=>?_⟩
  ·obtain ⟨rfl,rfl⟩ := hone s o ho; exact k2
  ·obtain ⟨rfl,rfl⟩ := hone s o ho
   obtain ⟨e1,e2,e3⟩ := k3 p hp
   rcases hb with rfl | hb
   ·exact e2
   ·rw [e1] at hb; cases hb
  ·rw [(hone s o ho).1,(hone s1 o1 ho1).1]
  ·have hs:1 ≤ s := by simpa using hs
   have:Nat.beq s 0 = false := nbeq_f (by omega)
   simp only [this,cond_false]
  ·obtain ⟨rfl,rfl⟩ := hone s o ho
   rw [(k3 p hp).1] at hb; cases hb
 ·refine ⟨hfr.imm,hfr.new,fun b hb=>?_,hfr.same,hfr.grow,fun s o hs=>absurd hs (Nat.not_lt_zero s),fun s hs=>absurd hs (Nat.not_lt_zero s),hfr.io⟩
  obtain ⟨s,o,p,h1,h2,h3,h4⟩ := hb
  obtain ⟨rfl,rfl⟩ := hone s o h1
  obtain ⟨e1,e2,e3⟩ := k3 p h3
  rcases h4 with rfl | h4
  ·exact e3
  ·rw [e1] at h4; cases h4
noncomputable def pcT (cx:Cx) (lx:Lx) (an:Ann) (fn:Func) (c:Code) (ats rts:List ATy):PC := { ats := ats,rts := rts,code := codeOf cx lx 1000 an fn c ats rts }
theorem pcT_ok {cx:Cx} (hcx:cx.Ok) {lx:Lx} (hlx:lx.Ok cx) {g:Nat} {an:Ann} {fn:Func} {c:Code} {ats rts:List ATy} (hf:cx.fns.lookup g = some fn) (hb:fn.body = some c)
  (hn:Nat.ble ats.length fn.ntmps = true):PCOk cx g (pcT cx lx an fn c ats rts) := PCOk.of_eval hcx hlx (n := 1000) hf hb (fun _ _ h=>h) hn
def pxB (np:Nat) (locs:List Loc) (τ:Tmpl) (nr:Nat) (ω:Tmpl) (ids mv:List Nat):PX := { np := np,locs := locs,τ := τ,nr := nr,ω := ω,ids := ids,mv := mv,code := fun _=>none }
noncomputable def pxT (cx:Cx) (lx:Lx) (an:Ann) (fn:Func) (c:Code) (p:PX):PX := { p with code := codeX cx lx 1000 an fn c p }
theorem pxT_ok {cx:Cx} (hcx:cx.Ok) {lx:Lx} (hlx:lx.Ok cx) {g:Nat} {an:Ann} {fn:Func} {c:Code} {p:PX} (hf:cx.fns.lookup g = some fn) (hb:fn.body = some c)
  (hn:Nat.ble p.np fn.ntmps = true) (hcov:(p.ω.covers p.ids && subset p.mv p.ids) = true):PXOk cx g (pxT cx lx an fn c p) := PXOk.of_eval hcx hlx (n := 1000) hf hb (fun _ _ h=>h) hn hcov
theorem PXOk.cast {cx:Cx} {g:Nat} {p q:PX} (h:p = q) (hq:PXOk cx g q):PXOk cx g p := by
 rw [h]
 exact hq
def TI.bare (i:TI):TI := { i with row := none }
def Cx.bare (cx:Cx):Cx := { P := cx.P,tab := cx.tab.map fun x=>(x.1,x.2.bare),fns := cx.fns }
theorem Cx.bare_ok {cx:Cx} (h:cx.Ok):cx.bare.Ok := by
 refine ⟨⟨?_,?_,?_,?_,?_⟩,h.fns,h.mix⟩
 ·simpa [Cx.bare,List.map_map,Function.comp_def,TI.bare] using h.tab.und
 ·simpa [Cx.bare,List.map_map,Function.comp_def,TI.bare] using h.tab.siz
 ·simpa [Cx.bare,List.map_map,Function.comp_def,TI.bare] using h.tab.byt
 ·simpa [Cx.bare,List.map_map,Function.comp_def,TI.bare] using h.tab.zer
 ·simpa [Cx.bare,List.all_map,Function.comp_def,TI.bare] using h.tab.one
theorem PCOk.bare {cx:Cx} {g:Nat} {pc:PC} (h:PCOk cx g pc):PCOk cx.bare g pc := ⟨h.fn,h.ok⟩
theorem PCOk.full {cx:Cx} {g:Nat} {pc:PC} (h:PCOk cx.bare g pc):PCOk cx g pc := ⟨h.fn,h.ok⟩
theorem PXOk.bare {cx:Cx} {g:Nat} {px:PX} (h:PXOk cx g px):PXOk cx.bare g px := ⟨h.fn,h.ok⟩
def PC.at (pc:PC) (a0:AEls pc.ats) (y0:AEls pc.rts):PC := { ats := pc.ats,rts := pc.rts,code := fun a=>bif AEls.eqv pc.ats a a0 then some y0 else pc.code a }
theorem PCOk.at {cx:Cx} {g:Nat} {pc:PC} (h:PCOk cx g pc) {a0:AEls pc.ats} {y0:AEls pc.rts} (he:pc.code a0 = some y0):PCOk cx g (pc.at a0 y0) :=
 ⟨h.fn,fun a y hy=>by
  have hy:(bif AEls.eqv pc.ats a a0 then some y0 else pc.code a) = some y := hy
  cases e:AEls.eqv pc.ats a a0 with
  | true =>
   rw [e] at hy
   exact h.ok a y (by rw [AEls.eqv_ok _ _ _ e,he]; exact hy)
  | false =>
   rw [e] at hy
   exact h.ok a y hy⟩
def one {ats rts:List ATy} (a0:AEls ats) (y0:AEls rts) (a:AEls ats):Option (AEls rts) := bif AEls.eqv ats a a0 then some y0 else none
theorem one_some {ats rts:List ATy} {a0 a:AEls ats} {y0 y:AEls rts} (h:one a0 y0 a = some y):a = a0 ∧ y = y0 := by
 unfold one at h
 cases e:AEls.eqv ats a a0 with
 | true=>rw [e] at h; cases h; exact ⟨AEls.eqv_ok _ _ _ e,rfl⟩
 | false=>rw [e] at h; cases h
def PC.one (pc:PC) (a0:AEls pc.ats) (y0:AEls pc.rts):PC := { ats := pc.ats,rts := pc.rts,code := fun a=>Go.Sx.one a0 y0 a }
theorem PCOk.one {cx:Cx} {g:Nat} {pc:PC} (h:PCOk cx g pc) (a0:AEls pc.ats) (y0:AEls pc.rts) (he:pc.code a0 = some y0):PCOk cx g (pc.one a0 y0) :=
 ⟨h.fn,fun a y hy=>by
  obtain ⟨h1,h2⟩ := one_some (show Go.Sx.one a0 y0 a = some y from hy)
  rw [h1,h2]
  exact h.ok _ _ he⟩
end Go.Sx
section
namespace Go.Sx
open Go
def immOf (w:World):Imm := fun b=>w.heap[b]?
theorem cell_imm {w:World} {a:Addr} {v:Value} (h:w.cell? a = some v):a.spot = none ∧ (immOf w).cell a.block a.off = some v := by
 unfold World.cell? at h
 unfold Imm.cell immOf
 split at h
 ·rename_i c t f e
  rw [e]
  split at h
  ·cases h
  ·rename_i hs
   exact ⟨by cases hh:a.spot <;> simp_all,h⟩
 ·cases h
def kBytes:IntKind → Nat
 | .i8=>1
 | .u8=>1
 | .i16=>2
 | .u16=>2
 | .i32=>4
 | .u32=>4
 | _=>8
def Ty.bytes:Ty → Nat
 | .int k=>kBytes k
 | .bool=>1
 | .str=>16
 | .seq _=>24
def rowSum:List Ty → Nat
 | []=>0
 | t :: ts=>t.bytes + rowSum ts
def wideRow:List Ty → Bool
 | []=>false
 | t :: ts=>Nat.ble 8 t.bytes || wideRow ts
def rowBytes (r:List Ty):Nat := bif wideRow r then (rowSum r + 7) / 8 * 8 else rowSum r
def intIn (k:IntKind) (n:Int):Prop := k.min ≤ n ∧ n ≤ k.max
def strIn (s:ByteArray):Prop := s.size ≤ 140737488351232
def seqIn {α:Type} (b:Nat) (f:α → Prop) (l:List α):Prop := l.length * b ≤ 140737488351232 ∧ ∀ x ∈ l,f x
mutual
def Ty.ok:(t:Ty) → t.El → Prop
 | .int k=>intIn k
 | .bool=>fun _=>True
 | .str=>strIn
 | .seq row=>seqIn (rowBytes row) (Els.ok row)
def Els.ok:(ts:List Ty) → Els ts → Prop
 | []=>fun _=>True
 | [t]=>t.ok
 | t :: t' :: ts=>fun x=>t.ok x.1 ∧ Els.ok (t' :: ts) x.2
end
def Els.app:(r1 r2:List Ty) → Els r1 → Els r2 → Els (r1 ++ r2)
 | [],_,_,y=>y
 | [_],[],x,_=>x
 | [_],_ :: _,x,y=>(x,y)
 | _ :: t' :: ts,r2,x,y=>(x.1,Els.app (t' :: ts) r2 x.2 y)
theorem rowPV_app:∀ (r1 r2:List Ty) (x:Els r1) (y:Els r2),rowPV (r1 ++ r2) (Els.app r1 r2 x y) = rowPV r1 x ++ rowPV r2 y
 | [],_,_,_=>rfl
 | [_],[],x,_=>rfl
 | [_],_ :: _,x,y=>rfl
 | t :: t' :: ts,r2,x,y=>by
  have := rowPV_app (t' :: ts) r2 x.2 y
  show t.pv x.1 :: rowPV (t' :: ts ++ r2) (Els.app (t' :: ts) r2 x.2 y) = t.pv x.1 :: (rowPV (t' :: ts) x.2 ++ rowPV r2 y)
  rw [this]
theorem ok_app:∀ (r1 r2:List Ty) (x:Els r1) (y:Els r2),Els.ok r1 x → Els.ok r2 y → Els.ok (r1 ++ r2) (Els.app r1 r2 x y)
 | [],_,_,_,_,h=>h
 | [_],[],x,_,h,_=>h
 | [t],t' :: ts,x,y,h,k=>by
  exact ⟨h,k⟩
 | t :: t' :: ts,r2,x,y,h,k=>by
  exact ⟨h.1,ok_app (t' :: ts) r2 x.2 y h.2 k⟩
structure RowRd (w:World) (cs:List Value) (row:List Ty) (x:Els row):Prop where
 len:cs.length = row.length
 one:∀ v ∈ cs,isCell v = true
 rep:∀ (j:Nat) (v:Value) (p:PV),cs[j]? = some v → (rowPV row x)[j]? = some p → PRep (immOf w) v p
 ok:Els.ok row x
theorem RowRd.nil (w:World):RowRd w [] [] () := ⟨rfl,fun v h=>(by cases h),fun j v p h=>(by simp at h),trivial⟩
theorem RowRd.single {w:World} {v:Value} {t:Ty} {x:t.El} (h1:isCell v = true) (h2:PRep (immOf w) v (t.pv x)) (h3:t.ok x):RowRd w [v] [t] x := by
 refine ⟨rfl,fun u hu=>?_,fun j u p hu hp=>?_,h3⟩
 ·rw [List.mem_singleton] at hu; rw [hu]; exact h1
 ·cases j with
  | zero =>
   simp only [List.getElem?_cons_zero,Option.some.injEq] at hu
   simp only [rowPV,List.getElem?_cons_zero,Option.some.injEq] at hp
   subst hu; subst hp; exact h2
  | succ j=>simp at hu
theorem RowRd.app {w:World} {c1 c2:List Value} {r1 r2:List Ty} {x:Els r1} {y:Els r2} (h:RowRd w c1 r1 x) (k:RowRd w c2 r2 y):RowRd w (c1 ++ c2) (r1 ++ r2) (Els.app r1 r2 x y) := by
 refine ⟨by simp [h.len,k.len],fun v hv=>?_,fun j v p hv hp=>?_,ok_app _ _ _ _ h.ok k.ok⟩
 ·rcases List.mem_append.1 hv with hv | hv
  ·exact h.one v hv
  ·exact k.one v hv
 ·rw [rowPV_app] at hp
  rw [List.getElem?_append] at hv hp
  rw [rowPV_length,← h.len] at hp
  split at hv
  ·rename_i hj
   rw [if_pos hj] at hp
   exact h.rep j v p hv hp
  ·rename_i hj
   rw [if_neg hj] at hp
   exact k.rep _ v p hv hp
def rowFs (P:Program) (k:TypeId → Option (List Ty)):List Field → Nat → Option (List Ty)
 | [],_=>some []
 | f :: fs,off=>match decide (f.offset = off) with
  | false=>none
  | true=>match k f.type with
   | none=>none
   | some r=>match decide (r.length = P.cellsOf f.type) with
    | false=>none
    | true=>match rowFs P k fs (off + r.length) with
     | none=>none
     | some rs=>some (r ++ rs)
def rowNs (r:List Ty):Nat → List Ty
 | 0=>[]
 | n + 1=>r ++ rowNs r n
def rowK (P:Program):Nat → TypeId → Option (List Ty)
 | 0,_=>none
 | n + 1,t=>match P.underlying t with
  | some .bool=>some [.bool]
  | some (.int k)=>some [.int k]
  | some .string=>some [.str]
  | some (.slice e)=>match rowK P n e with
   | none=>none
   | some r=>match decide (r.length = P.cellsOf e) && (decide (0 < r.length) && decide (rowBytes r ≤ P.bytesOf e)) with
    | true=>some [.seq r]
    | false=>none
  | some (.struct fs)=>match rowFs P (rowK P n) fs.toList 0 with
   | none=>none
   | some r=>match decide (r.length = P.cellsOf t) with
    | true=>some r
    | false=>none
  | some (.array m e)=>match rowK P n e with
   | none=>none
   | some r=>match decide (r.length = P.cellsOf e) && decide (m * r.length = P.cellsOf t) with
    | true=>some (rowNs r m)
    | false=>none
  | _=>none
theorem mapM_some {α β:Type} {f:α → Option β}:∀ {l:List α} {r:List β},l.mapM f = some r → r.length = l.length ∧ ∀ (i:Nat) (x:α),l[i]? = some x → ∃ y,r[i]? = some y ∧ f x = some y
 | [],r,h=>by simp at h; subst h; simp
 | a :: l,r,h=>by
  rw [List.mapM_cons] at h
  cases ha:f a with
  | none=>rw [ha] at h; cases h
  | some b =>
   cases hl:l.mapM f with
   | none=>rw [ha,hl] at h; cases h
   | some bs =>
    rw [ha,hl] at h
    cases h
    obtain ⟨g1,g2⟩ := mapM_some hl
    refine ⟨by simp [g1],fun i x hx=>?_⟩
    cases i with
    | zero=>simp at hx; subst hx; exact ⟨b,rfl,ha⟩
    | succ i=>simp at hx; simpa using g2 i x hx
theorem cells_spec {w:World} {a:Addr} {n:Nat} {cs:List Value} (h:w.cells? 0 a n = some cs):cs.length = n ∧ ∀ j,j < n → ∃ v,cs[j]? = some v ∧ w.cell? (a.add j) = some v := by
 unfold World.cells? at h
 rw [if_pos (Nat.zero_le _)] at h
 obtain ⟨h1,h2⟩ := mapM_some h
 exact ⟨by simpa using h1,fun j hj=>h2 j j (by simp [hj])⟩
end Go.Sx
end
