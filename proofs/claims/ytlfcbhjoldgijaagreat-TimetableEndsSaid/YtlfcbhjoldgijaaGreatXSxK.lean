/- Part K of the own logic: an operation in a state; regions in the order of the text. Part L of the own logic: operations that may be taken first. Written by gen/mk.py out of the parts E, G, J. And further parts. -/
import Derived.Test.YtlfcbhjoldgijaaGreatXSxI
import Derived.RangeFuncRecord
set_option linter.unusedVariables false
set_option linter.unusedSimpArgs false
set_option linter.unnecessarySimpa false
namespace Go.Sx
open Go
structure Cx where
 P:Program
 tab:Tab
 fns:List (Nat × Func)
structure FnsOk (P:Program) (fns:List (Nat × Func)):Prop where
 ok:∀ f fn,fns.lookup f = some fn → P.funcs[f]? = some fn ∧ ∀ args w,(callFunc f args).run P w = .ok (.enter f args) w
theorem FnsOk.nil (P:Program):FnsOk P [] := ⟨fun f fn h=>by simp at h⟩
theorem FnsOk.cons {P:Program} {g:Nat} {gn:Func} {rest:List (Nat × Func)} (h1:P.funcs[g]? = some gn) (h2:∀ args w,(callFunc g args).run P w = .ok (.enter g args) w) (hr:FnsOk P rest):FnsOk P ((g,gn) :: rest) := by
 refine ⟨fun f fn h=>?_⟩
 rw [List.lookup_cons] at h
 split at h
 ·rename_i e
  have e:f = g := by simpa using e
  subst e; cases h; exact ⟨h1,h2⟩
 ·exact hr.ok f fn h
structure Cx.Ok (c:Cx):Prop where
 tab:TabOk c.P c.tab
 fns:FnsOk c.P c.fns
 mix:c.P.follows .mixedOrders = true
theorem Cx.Ok.fn {c:Cx} (h:c.Ok) {f:Nat} {fn:Func} (hf:c.fns.lookup f = some fn):c.P.funcs[f]? = some fn ∧ ∀ args w,(callFunc f args).run c.P w = .ok (.enter f args) w := h.fns.ok f fn hf
def OpGoes (P:Program) (o:Oper) (a:Act) (w:World) (N:Value → World → Prop):Prop :=
 (∃ v w',((execOp a.eval o).run P w = .ok (.value v) w' ∨ ((execOp a.eval o).run P w = .ok .skip w' ∧ v = undef)) ∧ N v w') ∨
 (∃ f args w1,(execOp a.eval o).run P w = .ok (.enter f args) w1 ∧ CallsIn Fence.wide 0 P f args w1 fun e w'=>∃ v,e = .returned v ∧ N v w') ∨
 ∃ l f tmps assign body w1,(execOp a.eval o).run P w = .ok (.round l f tmps assign body) w1 ∧ RoundIn Fence.wide 0 P l f tmps assign body w1 fun e w'=>∃ v,e = .returned v ∧ N v w'
theorem OpGoes.mono {P:Program} {o:Oper} {a:Act} {w:World} {N N':Value → World → Prop} (h:OpGoes P o a w N) (hn:∀ v w',N v w' → N' v w'):OpGoes P o a w N' := by
 rcases h with ⟨v,w',hr,hN⟩ | ⟨f,args,w1,hr,hc⟩ | ⟨l,f,tmps,as,bd,w1,hr,hc⟩
 ·exact .inl ⟨v,w',hr,hn _ _ hN⟩
 ·exact .inr (.inl ⟨f,args,w1,hr,hc.mono fun e w' ⟨v,he,hN⟩=>⟨v,he,hn _ _ hN⟩⟩)
 ·exact .inr (.inr ⟨l,f,tmps,as,bd,w1,hr,hc.mono fun e w' ⟨v,he,hN⟩=>⟨v,he,hn _ _ hN⟩⟩)
def noDefer:Op → Bool
 | .defer _=>false
 | _=>true
theorem OpGoes.wpIn {R:Option Nat} {P:Program} {o:Oper} {a:Act} {w:World} {N:Value → World → Prop} {next:Act → World → Prop} {Q:Exit → Act → World → Prop} (hd:noDefer o.op = true) (h:OpGoes P o a w N)
  (hn:∀ v w',N v w' → next (a.put o.dst v) w'):o.wpIn (FW R) 0 P a w next Q := by
 refine ⟨fun _ _=>trivial,?_⟩
 have hs:o.semAt (FW R).round a.eval = execOp a.eval o := Oper.semAt_eq _ _ o fun c hc=>by rw [hc] at hd; cases hd
 rw [hs]
 rcases h with ⟨v,w',hr | ⟨hr,rfl⟩,hN⟩ | ⟨f,args,w1,hr,hc⟩ | ⟨l,f,tmps,as,bd,w1,hr,hc⟩
 ·rw [hr]; exact hn v w' hN
 ·rw [hr]; exact hn _ w' hN
 ·rw [hr]
  show (((FW R).depth.isSome = true → 1 ≤ 0) ∧ _)
  refine ⟨fun hx=>by simp [FW,Fence.wide] at hx,?_⟩
  have hc':CallsIn (FW R) (0 - 1) P f args w1 fun e w'=>∃ v,e = .returned v ∧ N v w' := hc
  refine hc'.mono ?_
  rintro e w' ⟨v,rfl,hN⟩
  exact hn v w' hN
 ·rw [hr]
  show (((FW R).depth.isSome = true → 1 ≤ 0) ∧ _)
  refine ⟨fun hx=>by simp [FW,Fence.wide] at hx,?_⟩
  have hc':RoundIn (FW R) (0 - 1) P l f tmps as bd w1 fun e w'=>∃ v,e = .returned v ∧ N v w' := hc
  refine hc'.mono ?_
  rintro e w' ⟨v,rfl,hN⟩
  exact hn v w' hN
def SRound (P:Program) (s:Nat) (args:List SV) (H:List SObj) (Q:Post):Prop :=
 ∀ M ρ w p vs,Mem M ρ H w → ρ s = some p → Reps M ρ vs args → ∃ l f tmps assign body w1,(Instr.yield p.block vs.toArray).run P w = .ok (.round l f tmps assign body) w1 ∧
  RoundIn Fence.wide 0 P l f tmps assign body w1 fun e w'=>∃ v r H' M' ρ' tch fg,e = .returned v ∧ Q r H' tch fg ∧ SRep M' ρ' v r ∧ Mem M' ρ' H' w' ∧ Fr M ρ H w M' ρ' H' w' H.length tch fg
theorem SRound.mono {P:Program} {s:Nat} {args:List SV} {H:List SObj} {Q Q':Post} (h:SRound P s args H Q) (hq:∀ r H' t g,Q r H' t g → Q' r H' t g):SRound P s args H Q' :=
 fun M ρ w p vs hm hp hr=>let ⟨l,f,tmps,as,bd,w1,hrun,hc⟩ := h M ρ w p vs hm hp hr
  ⟨l,f,tmps,as,bd,w1,hrun,hc.mono fun e w' ⟨v,r,H',M',ρ',t,g,he,q,rest⟩=>⟨v,r,H',M',ρ',t,g,he,hq _ _ _ _ q,rest⟩⟩
def targetY (ev:Operand → SV) (c:Call):Option (Nat × List SV) :=
 match c.callee with
 | .value f=>match ev f with
  | .yld s=>some (s,c.args.toList.map ev)
  | _=>none
 | _=>none
def target (ev:Operand → SV) (c:Call):Option (Nat × List SV) :=
 match c.callee with
 | .value f=>match ev f with
  | .pv (.lit (.func (.func g) first cap))=>some (g,first.toList.map SV.lit ++ c.args.toList.map ev ++ cap.toList.map SV.lit)
  | .fn (.func g) first cap=>some (g,first ++ c.args.toList.map ev ++ cap)
  | _=>none
 | _=>none
def isCall:Op → Option Call
 | .call { callee := .value f,args,argTypes }=>some { callee := .value f,args,argTypes }
 | _=>none
def opP (cx:Cx) (ev:Operand → SV) (H:List SObj) (o:Oper) (K:Post):Prop :=
 match isCall o.op with
 | some c=>match targetY ev c with
  | some (s,args)=>SRound cx.P s args H K
  | none=>match target ev c with
   | none=>False
   | some (g,args)=>match cx.fns.lookup g with
    | none=>False
    | some _=>SCall cx.P g args H K
 | none=>(sop cx.P cx.tab H ev o).holds H K
theorem lits_reps {M:Imm} {ρ:Env} (a:Array Value):∀ (i:Nat) (v:Value) (x:SV),a.toList[i]? = some v → (a.toList.map SV.lit)[i]? = some x → SRep M ρ v x := by
 intro i v x hv hx
 simp only [List.getElem?_map,Option.map_eq_some_iff] at hx
 obtain ⟨u,hu,rfl⟩ := hx
 rw [hv] at hu; cases hu; exact .pv (.lit _)
theorem reps_append {M:Imm} {ρ:Env} {v1 v2:List Value} {x1 x2:List SV} (h1:Reps M ρ v1 x1) (h2:Reps M ρ v2 x2):Reps M ρ (v1 ++ v2) (x1 ++ x2) := by
 refine ⟨by simp [h1.1,h2.1],fun i v x hv hx=>?_⟩
 rw [List.getElem?_append] at hv hx
 rw [h1.1] at hv
 split at hv
 ·rename_i h; rw [if_pos h] at hx; exact h1.2 i v x hv hx
 ·rename_i h; rw [if_neg h] at hx; exact h2.2 _ v x hv hx
theorem opP_sound {cx:Cx} (hcx:cx.Ok) {M:Imm} {ρ:Env} {H:List SObj} {w:World} {K:Post} {ev:Operand → SV} {a:Act} (hm:Mem M ρ H w) (hev:∀ x,SRep M ρ (a.eval x) (ev x)) {o:Oper}
  (h:opP cx ev H o K):OpGoes cx.P o a w fun v w'=>∃ x H' tch fg M' ρ',K x H' tch fg ∧ SRep M' ρ' v x ∧ Mem M' ρ' H' w' ∧ Fr M ρ H w M' ρ' H' w' H.length tch fg := by
 unfold opP at h
 cases hc:isCall o.op with
 | none=>simp only [hc] at h; exact .inl (sop_sound hcx.tab hm hev h)
 | some c =>
  simp only [hc] at h
  have ho:o.op = .call c := by
   unfold isCall at hc
   split at hc
   ·rename_i e; cases hc; exact e
   ·cases hc
  have argsr:Reps M ρ (c.args.map a.eval).toList (c.args.toList.map ev) := by
   obtain ⟨r1,r2⟩ := ops_rep hev c.args
   exact ⟨by simpa using r1,fun i v x hv hx=>r2 i v x (by rw [← Array.getElem?_toList]; exact hv) hx⟩
  cases hy:targetY ev c with
  | some q =>
   obtain ⟨s,args⟩ := q
   simp only [hy] at h
   unfold targetY at hy
   split at hy
   ·rename_i f hcal
    have hf := hev f
    split at hy
    ·rename_i s' e
     rw [e] at hf
     cases hy
     generalize hv:a.eval f = vf at hf
     cases hf with
     | yld _ p hp =>
      obtain ⟨l,g,tmps,as,bd,w1,hrun,hround⟩ := h M ρ w p _ hm hp argsr
      refine .inr (.inr ⟨l,g,tmps,as,bd,w1,?_,hround.mono fun e w' ⟨v,r,H',M',ρ',t,fg,he,hk,hs,hm',hf'⟩=>⟨v,he,r,H',t,fg,M',ρ',hk,hs,hm',hf'⟩⟩)
      simp only [Array.toArray_toList] at hrun
      simpa [execOp,ho,resolve,hcal,Deferred.ofValue,hv,invoke] using hrun
    ·cases hy
   ·cases hy
  | none =>
   simp only [hy] at h
   cases ht:target ev c with
   | none=>simp only [ht] at h
   | some q =>
    obtain ⟨g,args⟩ := q
    simp only [ht] at h
    cases hfn:cx.fns.lookup g with
    | none=>simp only [hfn] at h
    | some fn =>
     simp only [hfn] at h
     have callf:∀ vs,(callFunc g vs).run cx.P w = .ok (.enter g vs) w := fun vs=>(hcx.fn hfn).2 vs w
     have key:∀ (f:Operand) (first cap:Array Value) (x1 x2:List SV),c.callee = .value f → a.eval f = .func (.func g) first cap → Reps M ρ first.toList x1 → Reps M ρ cap.toList x2 → args = x1 ++ c.args.toList.map ev ++ x2 →
       OpGoes cx.P o a w fun v w'=>∃ x H' tch fg M' ρ',K x H' tch fg ∧ SRep M' ρ' v x ∧ Mem M' ρ' H' w' ∧ Fr M ρ H w M' ρ' H' w' H.length tch fg := by
      intro f first cap x1 x2 hcal hf h1 h2 hargs
      refine .inr (.inl ⟨g,first ++ c.args.map a.eval ++ cap,w,?_,?_⟩)
      ·simp [execOp,ho,resolve,hcal,Deferred.ofValue,hf,invoke,callf]
      ·have := h M ρ w (first.toList ++ (c.args.map a.eval).toList ++ cap.toList) hm (by rw [hargs]; exact reps_append (reps_append h1 argsr) h2)
       have e:(first.toList ++ (c.args.map a.eval).toList ++ cap.toList).toArray = first ++ c.args.map a.eval ++ cap := by simp
       rw [e] at this
       exact this.mono fun e w' ⟨v,r,H',M',ρ',t,fg,he,hk,hs,hm',hf'⟩=>⟨v,he,r,H',t,fg,M',ρ',hk,hs,hm',hf'⟩
     unfold target at ht
     split at ht
     ·rename_i f hcal
      have hf := hev f
      split at ht
      ·rename_i g' first cap e
       rw [e] at hf
       cases ht
       exact key f first cap _ _ hcal hf.lit_eq ⟨by simp,lits_reps first⟩ ⟨by simp,lits_reps cap⟩ rfl
      ·rename_i g' first cap e
       rw [e] at hf
       cases ht
       generalize hv:a.eval f = vf at hf
       cases hf with
       | fn _ fa fb _ _ ha hb hh hk =>
        exact key f fa fb _ _ hcal hv ⟨by simpa using ha,fun i v x hv hx=>hh i v x (by rw [← Array.getElem?_toList]; exact hv) hx⟩ ⟨by simpa using hb,fun i v x hv hx=>hk i v x (by rw [← Array.getElem?_toList]; exact hv) hx⟩ rfl
      ·cases ht
     ·cases ht
def forgetT (fg:List Nat) (T:TT):TT := match fg with
 | []=>T
 | a :: l=>T.map (SV.forget (a :: l))
def addTo (n:Nat) (l acc:List Nat):List Nat := match l with
 | []=>acc
 | _=>l.filter (fun x=>decide (x < n) && !acc.contains x) ++ acc
theorem acc_addTo {n:Nat} {l acc:List Nat} {x:Nat} (h:x ∈ acc):x ∈ addTo n l acc := by
 unfold addTo; split
 ·exact h
 ·exact List.mem_append.2 (.inr h)
theorem addTo_eq (n:Nat) (l acc:List Nat):addTo n l acc = l.filter (fun x=>decide (x < n) && !acc.contains x) ++ acc := by cases l <;> rfl
def TT.put (T:TT) (dst:Option Tmp) (x:SV):TT := match dst with
 | some d=>T.set d x
 | none=>T
def erPut (dst:Option Tmp) (er:List Nat):List Nat := match dst with
 | some d=>d :: er
 | none=>er
def St.put (s:St) (dst:Option Tmp) (x:SV):St := match s with
 | ⟨T,H,n0,tch,fg,marks,er⟩=>⟨T.put dst x,H,n0,tch,fg,marks,erPut dst er⟩
theorem St.put_some (s:St) (d:Tmp) (x:SV):s.put (some d) x = { s with T := s.T.set d x,er := d :: s.er } := by cases s; rfl
theorem St.put_none (s:St) (x:SV):s.put none x = s := by cases s; rfl
def St.step (s:St) (dst:Option Tmp) (x:SV) (H:List SObj) (tch fg:List Nat):St := match s with
 | ⟨T,_,n0,tch0,fg0,marks,er⟩=>⟨(forgetT fg T).put dst x,H,n0,addTo n0 tch tch0,addTo n0 fg fg0,marks,erPut dst er⟩
theorem St.step_eq (s:St) (dst:Option Tmp) (x:SV) (H:List SObj) (tch fg:List Nat) :
  s.step dst x H tch fg = St.put { T := forgetT fg s.T,H := H,n0 := s.n0,tch := addTo s.n0 tch s.tch,fg := addTo s.n0 fg s.fg,marks := s.marks,er := s.er } dst x := by cases s; rfl
def dstOk (nt:Nat):Option Tmp → Bool
 | some d=>Nat.blt d nt
 | none=>true
def stepOk (s:St) (nt:Nat) (dst:Option Tmp) (H:List SObj) (fg:List Nat):Bool :=
 dstOk nt dst && (fg.isEmpty || s.marks.all fun m=>!fg.contains m) && Nat.ble s.n0 H.length
theorem lookup_forgetT {fg:List Nat} {T:TT} {t:Nat} {x:SV} (h:(forgetT fg T).get t = some x):∃ y,T.get t = some y ∧ (x = y.forget fg ∨ (fg = [] ∧ x = y)) := by
 unfold forgetT at h
 split at h
 ·exact ⟨x,h,.inr ⟨rfl,rfl⟩⟩
 ·rw [TT.get_map] at h
  simp only [Option.map_eq_some_iff] at h
  obtain ⟨y,hy,rfl⟩ := h
  exact ⟨y,hy,.inl rfl⟩
theorem SRep.after {M M':Imm} {ρ ρ':Env} {fg:List Nat} (hM:M.le M') (hρ:∀ s,s ∉ fg → ∀ p,ρ s = some p → ρ' s = some p) {v:Value} {y x:SV} (h:SRep M ρ v y) (hx:x = y.forget fg ∨ (fg = [] ∧ x = y)):SRep M' ρ' v x := by
 rcases hx with rfl | ⟨rfl,rfl⟩
 ·exact h.forget hM fun s p hs hp=>hρ s (by simpa using hs) p hp
 ·exact h.mono hM fun s p hp=>hρ s (by simp) p hp
theorem Fr.env {M M':Imm} {ρ ρ':Env} {H H':List SObj} {w w':World} {tch fg:List Nat} (hm:Mem M ρ H w) (hf:Fr M ρ H w M' ρ' H' w' H.length tch fg):∀ s,s ∉ fg → ∀ p,ρ s = some p → ρ' s = some p := fun s hs p hp=>by
 rcases Nat.lt_or_ge s H.length with h | h
 ·rw [hf.stay s h hs]; exact hp
 ·rw [hm.fresh s h] at hp; cases hp
theorem mem_addTo {n:Nat} {l acc:List Nat} {x:Nat} (hx:x < n) (h:x ∈ l):x ∈ addTo n l acc := by
 rw [addTo_eq]
 by_cases hc:x ∈ acc
 ·exact List.mem_append.2 (.inr hc)
 ·refine List.mem_append.2 (.inl (List.mem_filter.2 ⟨h,?_⟩))
  simp [hx,hc]
theorem put_getD {a:Act} {d t:Nat} {v:Value} (hd:d < a.tmps.size):(a.put (some d) v).tmps.getD t undef = if t = d then v else a.tmps.getD t undef := by
 simp only [Act.put,Array.getD_eq_getD_getElem?,Array.getElem?_setIfInBounds]
 by_cases h:d = t
 ·subst h; simp [hd]
 ·rw [if_neg h,if_neg (fun e=>h e.symm)]
theorem Good.put {B:Nat → Value} {nt:Nat} {M:Imm} {ρ:Env} {s:St} {a:Act} {w:World} (hg:Good B nt M ρ s a w) {dst:Option Tmp} (hd:dstOk nt dst = true) {v:Value} {x:SV} (hx:SRep M ρ v x):Good B nt M ρ (s.put dst x) (a.put dst v) w := by
 cases dst with
 | none=>rw [St.put_none]; exact hg
 | some d =>
  have hd':d < nt := by simpa [dstOk] using hd
  rw [St.put_some]
  refine ⟨fun t y hy=>?_,by simp [Act.put,hg.sz],hg.mem,hg.df,hg.mks,hg.nle,fun t ht=>?_⟩
  rw [put_getD (by rw [hg.sz]; exact hd')]
  rcases TT.get_set _ _ _ _ _ hy with ⟨e,rfl⟩ | ⟨e,hy⟩
  ·rw [if_pos e]; exact hx
  ·rw [if_neg e]; exact hg.tm t y hy
  ·have ht:t ∉ d :: s.er := ht
   simp only [List.mem_cons,not_or] at ht
   rw [put_getD (by rw [hg.sz]; exact hd'),if_neg ht.1]; exact hg.fix t ht.2
theorem step_good {B:Nat → Value} {nt:Nat} {M M':Imm} {ρ ρ':Env} {s:St} {a:Act} {w w':World} (hg:Good B nt M ρ s a w) {dst:Option Tmp} {v:Value} {x:SV} {H:List SObj} {tch fg:List Nat}
  (hok:stepOk s nt dst H fg = true) (hx:SRep M' ρ' v x) (hm:Mem M' ρ' H w') (hf:Fr M ρ s.H w M' ρ' H w' s.H.length tch fg) :
  Good B nt M' ρ' (s.step dst x H tch fg) (a.put dst v) w' ∧ Goes M ρ s w M' ρ' (s.step dst x H tch fg) w' := by
 simp only [stepOk,Bool.and_eq_true] at hok
 obtain ⟨⟨h1,h2⟩,h3⟩ := hok
 have h3 := Nat.le_of_ble_eq_true h3
 have h4 := hg.nle
 have h2:(s.marks.all fun m=>!fg.contains m) = true := by
  rw [Bool.or_eq_true] at h2
  rcases h2 with h | h
  ·rw [List.isEmpty_iff] at h; subst h; simp
  ·exact h
 have henv := hf.env hg.mem
 rw [St.step_eq]
 have hbase:Good B nt M' ρ' { T := forgetT fg s.T,H := H,n0 := s.n0,tch := addTo s.n0 tch s.tch,fg := addTo s.n0 fg s.fg,marks := s.marks,er := s.er } a w' := by
  refine ⟨fun t y hy=>?_,hg.sz,hm,⟨hg.df.1,fun i d m hd hmk=>?_⟩,hg.mks,h3,hg.fix⟩
  ·obtain ⟨z,hz,hyz⟩ := lookup_forgetT hy
   exact (hg.tm t z hz).after hf.imm henv hyz
  ·obtain ⟨p,hp,e⟩ := hg.df.2 i d m hd hmk
   have hmem := List.mem_of_getElem? hmk
   refine ⟨p,henv m ?_ p hp,e⟩
   have := List.all_eq_true.1 h2 m hmem
   simpa using this
 have hgoes:Goes M ρ s w M' ρ' { T := forgetT fg s.T,H := H,n0 := s.n0,tch := addTo s.n0 tch s.tch,fg := addTo s.n0 fg s.fg,marks := s.marks,er := s.er } w' :=
  ⟨hf.weaken h4 (fun x hx ht=>mem_addTo hx ht) (fun x hx ht=>mem_addTo hx ht),rfl,fun x hx=>acc_addTo hx,fun x hx=>acc_addTo hx⟩
 refine ⟨hbase.put h1 hx,?_⟩
 exact ⟨hgoes.fr,hgoes.n0,hgoes.tch,hgoes.fg⟩
def St.adv (nt:Nat) (s:St) (dst:Option Tmp) (K:St → Prop):Post := fun x H t f =>
 (dstOk nt dst = true ∧ H = s.H ∧ t = [] ∧ f = [] ∧ K (s.put dst x)) ∨ (stepOk s nt dst H f = true ∧ K (s.step dst x H t f))
theorem adv_good {B:Nat → Value} {nt:Nat} {M M':Imm} {ρ ρ':Env} {s:St} {a:Act} {w w':World} (hg:Good B nt M ρ s a w) {dst:Option Tmp} {v:Value} {x:SV} {H:List SObj} {tch fg:List Nat} {K:St → Prop}
  (h:s.adv nt dst K x H tch fg) (hx:SRep M' ρ' v x) (hm:Mem M' ρ' H w') (hf:Fr M ρ s.H w M' ρ' H w' s.H.length tch fg) :
  ∃ s',K s' ∧ s'.H = H ∧ Good B nt M' ρ' s' (a.put dst v) w' ∧ Goes M ρ s w M' ρ' s' w' := by
 rcases h with ⟨hd,rfl,rfl,rfl,hk⟩ | ⟨hok,hk⟩
 ·have henv := hf.env hg.mem
  have hg':Good B nt M' ρ' s a w' := ⟨fun t y hy=>(hg.tm t y hy).after hf.imm henv (.inr ⟨rfl,rfl⟩),hg.sz,hm,⟨hg.df.1,fun i d m hd hmk=>by
   obtain ⟨p,hp,e⟩ := hg.df.2 i d m hd hmk
   exact ⟨p,henv m (by simp) p hp,e⟩⟩,hg.mks,hg.nle,hg.fix⟩
  have hgo:Goes M ρ s w M' ρ' s w' := ⟨hf.weaken hg.nle (fun x _ h=>by cases h) (fun x _ h=>by cases h),rfl,fun _ h=>h,fun _ h=>h⟩
  exact ⟨_,hk,rfl,hg'.put hd hx,⟨hgo.fr,hgo.n0,hgo.tch,hgo.fg⟩⟩
 ·obtain ⟨g1,g2⟩ := step_good hg hok hx hm hf
  exact ⟨_,hk,by rw [St.step_eq]; cases dst <;> rfl,g1,g2⟩
def opV (cx:Cx) (nt:Nat) (o:Oper) (s:St) (K:St → Prop):Prop :=
 noDefer o.op = true ∧ opP cx s.ev s.H o (s.adv nt o.dst K)
def guardSlot (ops:Array Oper) (j:Nat):Option Nat := (ops[j]?).bind (·.dst)
def guardV (ops:Array Oper) (o:Oper) (s:St) (run skip:St → Prop):Prop :=
 match o.guard with
 | none=>run s
 | some (j,want)=>match guardSlot ops j with
  | none=>False
  | some d=>match s.T.get d with
   | some (.pv (.lit (.bool b)))=>(b = want → run { s with T := s.T.set d (.lit (.bool want)) }) ∧ (b = !want → skip { s with T := s.T.set d (.lit (.bool !want)) })
   | some (.pv (.lit (.tuple _)))=>skip s
   | _=>False
def vops (cx:Cx) (nt:Nat) (ops:Array Oper):List Oper → St → (St → Prop) → Prop
 | [],s,K=>K s
 | o :: rest,s,K=>guardV ops o s (fun s'=>opV cx nt o s' fun s''=>vops cx nt ops rest s'' K) (fun s'=>dstOk nt o.dst = true ∧ vops cx nt ops rest (s'.put o.dst (.lit undef)) K)
theorem Good.retop {B:Nat → Value} {nt:Nat} {M:Imm} {ρ:Env} {s:St} {a:Act} {w:World} (hg:Good B nt M ρ s a w) {d:Nat} {x:SV} (hx:SRep M ρ (a.tmps.getD d undef) x):Good B nt M ρ { s with T := s.T.set d x } a w := by
 refine ⟨fun t y hy=>?_,hg.sz,hg.mem,hg.df,hg.mks,hg.nle,hg.fix⟩
 rcases TT.get_set _ _ _ _ _ hy with ⟨e,rfl⟩ | ⟨e,hy⟩
 ·rw [e]; exact hx
 ·exact hg.tm t y hy
theorem yielded_tuple {ops:Array Oper} {tmps:Array Value} {j d:Nat} {c:Array Value} (hs:guardSlot ops j = some d) (hv:tmps.getD d undef = .tuple c):yielded ops tmps j = none := by
 unfold yielded
 unfold guardSlot at hs
 rw [hs]
 simp only [Option.bind_some]
 rw [Array.getD_eq_getD_getElem?] at hv
 cases e:tmps[d]? with
 | none=>rfl
 | some v=>rw [e] at hv; simp at hv; subst hv; rfl
theorem yielded_of {ops:Array Oper} {tmps:Array Value} {j d:Nat} {b:Bool} (hs:guardSlot ops j = some d) (hv:tmps.getD d undef = .bool b):yielded ops tmps j = some b := by
 unfold yielded
 unfold guardSlot at hs
 rw [hs]
 simp only [Option.bind_some]
 rw [Array.getD_eq_getD_getElem?] at hv
 cases e:tmps[d]? with
 | none=>rw [e] at hv; simp [undef] at hv
 | some v=>rw [e] at hv; simp at hv; subst hv; rfl
theorem guardV_sound {B:Nat → Value} {nt:Nat} {M:Imm} {ρ:Env} {s:St} {a:Act} {w:World} (hg:Good B nt M ρ s a w) {ops:Array Oper} {o:Oper} {run skip:St → Prop} (h:guardV ops o s run skip) :
  (Region.wanted o (yielded ops a.tmps) = true ∧ ∃ s',run s' ∧ Good B nt M ρ s' a w ∧ Goes M ρ s w M ρ s' w ∧ s'.H = s.H) ∨
  (Region.wanted o (yielded ops a.tmps) = false ∧ ∃ s',skip s' ∧ Good B nt M ρ s' a w ∧ Goes M ρ s w M ρ s' w ∧ s'.H = s.H) := by
 unfold guardV at h
 split at h
 ·rename_i e; exact .inl ⟨by simp [Region.wanted,e],s,h,hg,Goes.refl ..,rfl⟩
 ·rename_i j want e
  split at h
  ·exact h.elim
  ·rename_i d hd
   split at h
   ·rename_i b hb
    have hv := (hg.tm d _ hb).lit_eq
    have hy := yielded_of hd hv
    have hw:Region.wanted o (yielded ops a.tmps) = (b == want) := by simp only [Region.wanted,e,hy]; cases b <;> cases want <;> rfl
    by_cases hbw:b = want
    ·subst hbw
     refine .inl ⟨by rw [hw]; simp,_,h.1 rfl,hg.retop (by rw [hv]; exact .pv (.lit _)),⟨Fr.refl ..,rfl,fun _ h=>h,fun _ h=>h⟩,rfl⟩
    ·have hb':b = !want := by cases b <;> cases want <;> simp_all
     refine .inr ⟨by rw [hw]; simp [hbw],_,h.2 hb',hg.retop (by rw [hv,hb']; exact .pv (.lit _)),⟨Fr.refl ..,rfl,fun _ h=>h,fun _ h=>h⟩,rfl⟩
   ·rename_i c hb
    have hv := (hg.tm d _ hb).lit_eq
    have hy := yielded_tuple hd hv
    exact .inr ⟨by simp [Region.wanted,e,hy],s,h,hg,Goes.refl ..,rfl⟩
   ·exact h.elim
theorem vops_sound {cx:Cx} (hcx:cx.Ok) {R:Option Nat} {B:Nat → Value} {nt:Nat} {ops:Array Oper} {Q:Exit → Act → World → Prop} {M0:Imm} {ρ0:Env} {s0:St} {w0:World} {K:St → Prop}
  (hQ:∀ M ρ s a w,K s → Good B nt M ρ s a w → Goes M0 ρ0 s0 w0 M ρ s w → Q .normal a w) :
  ∀ (l:List Oper) (k:Nat) (s:St) (M:Imm) (ρ:Env) (a:Act) (w:World),(∀ j,l[j]? = ops[k + j]?) → vops cx nt ops l s K → Good B nt M ρ s a w → Goes M0 ρ0 s0 w0 M ρ s w →
   wpOpsIn (FW R) 0 cx.P ops Q (List.range' k l.length) a w
 | [],k,s,M,ρ,a,w,_,h,hg,go=>hQ M ρ s a w h hg go
 | o :: rest,k,s,M,ρ,a,w,hl,h,hg,go=>by
  have ho:ops[k]? = some o := by simpa using (hl 0).symm
  have hl':∀ j,rest[j]? = ops[k + 1 + j]? := fun j=>by have := hl (j + 1); simpa [Nat.add_assoc,Nat.add_comm 1 j] using this
  simp only [List.length_cons,List.range'_succ,wpOpsIn,ho]
  rcases guardV_sound hg h with ⟨hw,s',⟨hd,hrun⟩,hg',go',hH⟩ | ⟨hw,s',⟨hdst,hskip⟩,hg',go',hH⟩
  ·rw [if_pos hw]
   refine (opP_sound hcx hg'.mem (fun x=>hg'.ev x) hrun).wpIn hd ?_
   rintro v w' ⟨x,H',tch,fg,M',ρ',hadv,hx,hm,hf⟩
   obtain ⟨_,hk,_,g1,g2⟩ := adv_good hg' hadv hx hm hf
   exact vops_sound hcx hQ rest (k + 1) _ M' ρ' _ w' hl' hk g1 ((go.trans go').trans g2)
  ·rw [if_neg (by simp [hw])]
   refine ⟨fun _ _=>trivial,?_⟩
   refine vops_sound hcx hQ rest (k + 1) _ M ρ _ w hl' hskip (hg'.put hdst (.pv (.lit _))) ((go.trans go').trans ?_)
   exact ⟨Fr.refl ..,rfl,fun _ h=>h,fun _ h=>h⟩
theorem WPs_region {cx:Cx} (hcx:cx.Ok) {R:Option Nat} {nt id:Nat} {ops:Array Oper} {Q:Exit → St → Prop} {s:St} (h:vops cx nt ops ops.toList s (Q .normal)):WPs R cx.P nt (.region id ops false) Q s := by
 intro B M ρ a w hg
 refine wpIn_region ?_
 have := vops_sound hcx (R := R) (Q := fun e a' w'=>∃ M' ρ' s',Q e s' ∧ Good B nt M' ρ' s' a' w' ∧ Goes M ρ s w M' ρ' s' w') (K := Q .normal) (fun M' ρ' s' a' w' hk g go=>⟨M',ρ',s',hk,g,go⟩)
  ops.toList 0 s M ρ a w (fun j=>by simp) h hg (Goes.refl ..)
 rw [Array.length_toList] at this
 rwa [List.range_eq_range']
def DoesS (P:Program) (S:Sem Value) (M:Imm) (ρ:Env) (Sw:World → Prop) (H:List SObj) (K:Post):Prop :=
 ∃ v x,K x H [] [] ∧ SRep M ρ v x ∧ ∀ w,Sw w → S.run P w = .ok v w
def DoesNS (P:Program) (S:Sem Next) (M:Imm) (ρ:Env) (Sw:World → Prop) (H:List SObj) (K:Post):Prop :=
 ∃ v x,K x H [] [] ∧ SRep M ρ v x ∧ ∀ w,Sw w → S.run P w = .ok (.value v) w
theorem DoesS.same {P:Program} {S:Sem Value} {M:Imm} {ρ:Env} {H:List SObj} {Sw:World → Prop} {K:Post} {v:Value} {x:SV} (hr:∀ w,Sw w → S.run P w = .ok v w) (hx:SRep M ρ v x) (hk:K x H [] []):DoesS P S M ρ Sw H K := ⟨v,x,hk,hx,hr⟩
theorem DoesNS.same {P:Program} {S:Sem Next} {M:Imm} {ρ:Env} {H:List SObj} {Sw:World → Prop} {K:Post} {v:Value} {x:SV} (hr:∀ w,Sw w → S.run P w = .ok (.value v) w) (hx:SRep M ρ v x) (hk:K x H [] []):DoesNS P S M ρ Sw H K := ⟨v,x,hk,hx,hr⟩
theorem DoesS.toN {P:Program} {S:Sem Value} {M:Imm} {ρ:Env} {H:List SObj} {Sw:World → Prop} {K:Post} (h:DoesS P S M ρ Sw H K):DoesNS P (do pure (.value (← S))) M ρ Sw H K := by
 obtain ⟨v,x,h1,h2,h3⟩ := h
 exact ⟨v,x,h1,h2,fun w hw=>by simp [Sem.run_bind,h3 w hw]⟩
theorem readRow_soundS {P:Program} {M:Imm} {ρ:Env} {H:List SObj} {w0:World} {Sw:World → Prop} {K:Post} {t:TypeId} {i:TI} (ht:TyOk P t i) (hm:Mem M ρ H w0) {b o n r j sz:Nat} {row:List SV}
  (hrow:r < n → ∀ k x,row[k]? = some x → ∃ v,(∀ w,Sw w → w.cell? ⟨b,o + r * sz + k,none⟩ = some v) ∧ SRep M ρ v x)
  (h:(readRow i n row r j).holds H K):DoesS P (Instr.loadAt t (.pointer (some ⟨b,o + r * sz + j,none⟩))) M ρ Sw H K := by
 simp only [readRow,Res.holds,decide_eq_true_eq] at h
 obtain ⟨hr,h⟩ := h
 have hrow := hrow hr
 split at h
 ·rename_i hd
  simp only [Res.holds,decide_eq_true_eq] at h
  obtain ⟨hj,hk⟩ := h
  have hex:∀ k,k < i.size → ∃ v,(∀ w,Sw w → w.cell? ⟨b,o + r * sz + (j + k),none⟩ = some v) ∧ SRep M ρ v (row.getD (j + k) .any) := fun k hk=>by
   have hlt:j + k < row.length := by omega
   obtain ⟨v,h1,h2⟩ := hrow (j + k) row[j + k] (by simp [hlt])
   exact ⟨v,h1,by simpa [List.getD,hlt] using h2⟩
  let f:Nat → Value := fun k=>if h:k < i.size then Classical.choose (hex k h) else undef
  have hf:∀ k,k < i.size → (∀ w,Sw w → w.cell? ⟨b,o + r * sz + (j + k),none⟩ = some (f k)) ∧ SRep M ρ (f k) (row.getD (j + k) .any) := fun k hk=>by
   simp only [f,dif_pos hk]; exact Classical.choose_spec (hex k hk)
  have hcs:∀ (k:Nat) (v:Value),((List.range i.size).map f)[k]? = some v → k < i.size ∧ v = f k := fun k v hv=>by
   simp only [List.getElem?_map,Option.map_eq_some_iff] at hv
   obtain ⟨m,hm',rfl⟩ := hv
   obtain ⟨h1,h2⟩ := List.getElem?_eq_some_iff.1 hm'
   simp at h1 h2; subst h2; exact ⟨h1,rfl⟩
  refine DoesS.same (v := .agg ((List.range i.size).map f).toArray) ?_ ?_ hk
  ·intro w hw
   simp only [Instr.loadAt,Instr.sureAddr,Sem.run_bind,Sem.run_pure,Result.andThen_ok]
   exact loadVar_row ht hd _ (by simp) fun k v hv=>by
    obtain ⟨h1,rfl⟩ := hcs k v hv
    rw [Nat.add_assoc (o + r * sz)]; exact (hf k h1).1 w hw
  ·refine SRep.mkAgg (by simp; omega) fun k v x hv hx=>?_
   obtain ⟨h1,rfl⟩ := hcs k v hv
   have h2 := (hf k h1).2
   rw [List.getElem?_take] at hx
   simp only [h1,if_true,List.getElem?_drop] at hx
   simpa [List.getD,hx] using h2
 ·rename_i hd
  simp only [Res.holds,decide_eq_true_eq] at h
  obtain ⟨hj,hk⟩ := h
  obtain ⟨v,h1,h2⟩ := hrow j row[j] (by simp [hj])
  refine DoesS.same (v := v) ?_ ?_ hk
  ·intro w hw
   simp only [Instr.loadAt,Instr.sureAddr,Sem.run_bind,Sem.run_pure,Result.andThen_ok]
   exact loadVar_one ht (by simpa using hd) (h1 w hw)
  ·simpa [List.getD,hj] using h2
theorem cell_of_imm {M:Imm} {w:World} (hm:∀ b o,M b = some o → w.heap[b]? = some o) {b k:Nat} {v:Value} (h:M.cell b k = some v):w.cell? ⟨b,k,none⟩ = some v := by
 unfold Imm.cell at h
 cases e:M b with
 | none=>simp [e] at h
 | some o =>
  rw [e] at h
  have := hm b o e
  unfold World.cell?
  simp only [this]
  cases o <;> simp_all
theorem load_rptrS {P:Program} {M:Imm} {ρ:Env} {H:List SObj} {w0:World} {Sw:World → Prop} {K:Post} {t:TypeId} {i:TI} (ht:TyOk P t i) (hm:Mem M ρ H w0) (hS:∀ u,Sw u → ∀ b o,M b = some o → u.heap[b]? = some o) {sz r j:Nat} {rows:List (List PV)} {v:Value} (hp:PRep M v (.rptr sz rows r j))
  (h:(readRow i rows.length ((rows.getD r []).map .pv) r j).holds H K):DoesS P (Instr.loadAt t v) M ρ Sw H K := by
 cases hp with
 | rptr b off _ _ _ k _ hk h0 h1 h2 =>
  rw [hk]
  refine readRow_soundS (w0 := w0) ht hm (fun hr k x hx=>?_) h
  simp only [List.getElem?_map,Option.map_eq_some_iff] at hx
  obtain ⟨q,hq,rfl⟩ := hx
  simp [List.getD,hr] at hq
  have hk2:k < sz := Nat.lt_of_lt_of_le (List.getElem?_eq_some_iff.1 hq).1 (h2 r rows[r] (by simp [hr]))
  obtain ⟨u,hu,_⟩ := h0 r k hr hk2
  exact ⟨u,fun w hw=>cell_of_imm (hS w hw) hu,.pv (h1 r rows[r] k q u (by simp [hr]) hq hu)⟩
theorem sLoad_soundS {P:Program} {tab:Tab} (htab:TabOk P tab) {M:Imm} {ρ:Env} {H:List SObj} {w0:World} {Sw:World → Prop} {K:Post} (hm:Mem M ρ H w0) (hS:∀ u,Sw u → ∀ b o,M b = some o → u.heap[b]? = some o) {R:List Nat} (hR:∀ u,Sw u → ∀ s ∈ R,∀ p,ρ s = some p → u.heap[p.block]? = w0.heap[p.block]?)
  {t:TypeId} {a:SV} {v:Value} (ha:SRep M ρ v a) (hin:∀ s sz r j,a = .ptr s sz r j → s ∈ R)
  (h:(sLoad tab H t a).holds H K):DoesS P (Instr.loadAt t v) M ρ Sw H K := by
 unfold sLoad at h
 split at h
 ·exact h.elim
 ·rename_i i hi
  have ht := htab.get hi
  split at h
  ·rename_i s sz r j
   split at h
   ·exact h.elim
   ·rename_i o ho
    split at h
    ·exact h.elim
    ·rename_i szo hz
     cases ha with
     | ptr _ _ _ _ k p hp hk =>
      obtain ⟨cs,ty,a1,a2,a3,a4,a5⟩ := ((hm.own s o ho).rowOf hz hp).ex
      have hk':k = 0 + (norm sz r j szo).1 * szo + (norm sz r j szo).2 := by rw [Nat.zero_add,norm_eq]; exact hk
      rw [hk']
      refine readRow_soundS (w0 := w0) ht hm (fun hr k x hx=>?_) h
      obtain ⟨b1,b2⟩ := a5 _ k x hr hx
      obtain ⟨u,hu,_⟩ := a4 _ k hr b1
      exact ⟨u,fun w hw=>by simp [World.cell?,hR w hw s (hin _ _ _ _ rfl) p hp,a1,hu],b2 u hu⟩
  ·rename_i sz rows r j
   cases ha with
   | pv hp=>exact load_rptrS (w0 := w0) ht hm hS hp h
  ·rename_i row l r j
   cases ha with
   | pv hp=>cases hp with
    | tptr _ _ _ _ hp=>exact load_rptrS (w0 := w0) ht hm hS hp (readRow_typed h)
  ·exact h.elim
theorem sFieldAddr0_soundS {P:Program} {tab:Tab} (htab:TabOk P tab) {M:Imm} {ρ:Env} {H:List SObj} {w0:World} {Sw:World → Prop} {K:Post} (hm:Mem M ρ H w0) {t f:Nat} {x:SV} {v:Value} (hx:SRep M ρ v x)
  (h:(sFieldAddr0 tab t x f).holds H K):DoesS P (Instr.fieldAt t v f) M ρ Sw H K := by
 unfold sFieldAddr0 at h
 split at h
 ·rename_i fields sz' by' zr rw' hte
  have htt := htab.get hte
  split at h
  ·exact h.elim
  ·rename_i fd hfd
   split at h
   ·exact h.elim
   ·rename_i i hi
    obtain ⟨n,hn,i1,_⟩ := (htab.get hi).inf
    split at h
    ·exact h.elim
    ·rename_i hz
     have key:∀ (w:World) b k,(Instr.fieldAt t (.pointer (some ⟨b,k,none⟩)) f).run P w = .ok (.pointer (some ⟨b,k + fd.offset,none⟩)) w := fun w b k=>by
      simp [Instr.fieldAt,run_underlying htt.und,hfd,Instr.sureAddr,fieldPlace,sizeOf,typeInfo,hn,i1,hz,Addr.add_mid]
     split at h
     ·rename_i s sz r j
      cases hx with
      | ptr _ _ _ _ k p hp hk=>exact DoesS.same (fun w _=>key w _ _) (.ptr _ _ _ _ _ p hp (by omega)) h
     ·rename_i sz rows r j
      cases hx with
      | pv hp=>cases hp with
       | rptr b off _ _ _ k _ hk h0 h1 h2=>exact DoesS.same (fun w _=>key w _ _) (.pv (.rptr b off sz r (j + fd.offset) _ rows (by omega) h0 h1 h2)) h
     ·exact h.elim
 ·exact h.elim
theorem sIndexAddr0_soundS {P:Program} {tab:Tab} (htab:TabOk P tab) {M:Imm} {ρ:Env} {H:List SObj} {w0:World} {Sw:World → Prop} {K:Post} (hm:Mem M ρ H w0) {t:Nat} {x ix:SV} {v u:Value} (hx:SRep M ρ v x) (hix:SRep M ρ u ix)
  (h:(sIndexAddr0 tab t x ix).holds H K):DoesS P (Instr.indexAt t v u) M ρ Sw H K := by
 unfold sIndexAddr0 at h
 split at h
 ·rename_i k n
  have := hix.lit_eq; subst this
  split at h
  ·rename_i e sz' by' zr rw' hte
   have htt := htab.get hte
   split at h
   ·exact h.elim
   ·rename_i i hi
    have ht := htab.get hi
    split at h
    ·rename_i s sz st len
     split at h
     ·rename_i hsz; subst hsz
      simp only [Res.holds,decide_eq_true_eq] at h
      obtain ⟨h0,h1,h⟩ := h
      cases hx with
      | sl _ _ _ _ c k' p hp hk hc hn h6 =>
       refine DoesS.same (fun w _=>(indexAt_slice htt.und ht h0 h1)) (.ptr _ _ _ _ _ p hp ?_) h
       rw [hk,Nat.add_mul]; omega
      | slz=>simp at h1; omega
     ·exact h.elim
    ·rename_i sz rows
     split at h
     ·rename_i hsz; subst hsz
      simp only [Res.holds,decide_eq_true_eq] at h
      obtain ⟨h0,h1,h⟩ := h
      cases hx with
      | pv hp=>cases hp with
       | rnil=>simp at h1; omega
       | remp=>simp at h1; omega
       | rsl b off c _ n' _ hn hc g0 g1 g2 =>
        refine DoesS.same (fun w _=>(indexAt_slice htt.und ht h0 (by omega))) (.pv (.rptr b off i.size n.toNat 0 _ rows (by omega) g0 g1 g2)) h
     ·exact h.elim
    ·exact h.elim
  ·rename_i m e sz' by' zr rw' hte
   have htt := htab.get hte
   split at h
   ·exact h.elim
   ·rename_i i hi
    have ht := htab.get hi
    split at h
    ·rename_i s sz r j
     simp only [Res.holds,decide_eq_true_eq] at h
     obtain ⟨h0,h1,h⟩ := h
     cases hx with
     | ptr _ _ _ _ k' p hp hk=>exact DoesS.same (fun w _=>(indexAt_array htt.und ht h0 h1)) (.ptr _ _ _ _ _ p hp (by omega)) h
    ·rename_i sz rows r j
     simp only [Res.holds,decide_eq_true_eq] at h
     obtain ⟨h0,h1,h⟩ := h
     cases hx with
     | pv hp=>cases hp with
      | rptr b off _ _ _ k' _ hk g0 g1 g2=>exact DoesS.same (fun w _=>(indexAt_array htt.und ht h0 h1)) (.pv (.rptr b off sz r _ _ rows (by omega) g0 g1 g2)) h
    ·exact h.elim
  ·exact h.elim
 ·exact h.elim
theorem sSlice0_soundS {P:Program} {tab:Tab} (htab:TabOk P tab) {M:Imm} {ρ:Env} {H:List SObj} {w0:World} {Sw:World → Prop} {K:Post} (hm:Mem M ρ H w0) {t:Nat} {x:SV} {lo hi:Option SV} {v:Value} {vl vh:Option Value}
  (hx:SRep M ρ v x) (hsl:vl.isSome = lo.isSome) (hrl:∀ v x,vl = some v → lo = some x → SRep M ρ v x) (hsh:vh.isSome = hi.isSome) (hrh:∀ v x,vh = some v → hi = some x → SRep M ρ v x)
  (h:(sSlice0 tab H t x lo hi).holds H K):DoesS P (Instr.sliceAt t v vl vh none) M ρ Sw H K := by
 unfold sSlice0 at h
 split at h
 ·rename_i e sz' by' zr rw' hte
  have htt := htab.get hte
  split at h
  ·exact h.elim
  ·rename_i i hi'
   have ht := htab.get hi'
   split at h
   ·rename_i s sz st len
    split at h
    ·rename_i hsz; subst hsz
     split at h
     ·rename_i l hh e1 e2
      simp only [Res.holds,decide_eq_true_eq] at h
      obtain ⟨h0,h1,h2,h⟩ := h
      have bl := bound_spec hsl hrl e1
      have bh := bound_spec hsh hrh e2
      cases hx with
      | sl _ _ _ _ c k p hp hk hc hn h6 =>
       refine DoesS.same (fun w _=>(sliceAt_slice htt.und ht bl bh h0 h1 (by omega))) ?_ h
       by_cases hcl:c = l.toNat
       ·have e0:hh.toNat - l.toNat = 0 := by omega
        rw [if_pos hcl,e0,hcl,Nat.sub_self]; exact .slz _ _ _ _
       ·rw [if_neg hcl]
        simp only [Option.map_some,Addr.add_mid]
        refine .sl _ _ _ _ _ _ p hp (by rw [hk,Nat.add_mul]) ?_ (by omega) (by omega)
        rw [show st + l.toNat + (c - l.toNat) = st + c by omega]; exact hc
      | slz a b c' a' =>
       refine DoesS.same (fun w _=>(sliceAt_slice htt.und ht bl bh h0 h1 (by omega))) ?_ h
       have hl0:l.toNat = 0 := by omega
       have hh0:hh.toNat = 0 := by omega
       rw [hl0,hh0]; simp only [Nat.sub_self,if_true]; exact .slz _ _ _ _
     ·exact h.elim
    ·exact h.elim
   ·rename_i sz rows
    split at h
    ·rename_i hsz; subst hsz
     split at h
     ·rename_i l hh e1 e2
      simp only [Res.holds,decide_eq_true_eq] at h
      obtain ⟨h0,h1,h2,h⟩ := h
      have bl := bound_spec hsl hrl e1
      have bh := bound_spec hsh hrh e2
      cases hx with
      | pv hp =>
       have hlen:((rows.take hh.toNat).drop l.toNat).length = hh.toNat - l.toNat := by simp; omega
       cases hp with
       | rnil =>
        refine DoesS.same (fun w _=>(sliceAt_slice htt.und ht bl (by simpa using bh) h0 h1 (by simpa using h2))) ?_ h
        have hl0:l.toNat = 0 := by simp at h2; omega
        have hh0:hh.toNat = 0 := by simp at h2; omega
        rw [hl0,hh0]; simp; exact .pv (.rnil _)
       | remp a c =>
        refine DoesS.same (fun w _=>(sliceAt_slice htt.und ht bl (by simpa using bh) h0 h1 (by simp at h2; omega))) ?_ h
        have hl0:l.toNat = 0 := by simp at h2; omega
        have hh0:hh.toNat = 0 := by simp at h2; omega
        rw [hl0,hh0]
        simp only [List.take_nil,List.drop_nil,Nat.sub_zero,Nat.zero_mul]
        split
        ·exact .pv (.remp _ _ _)
        ·exact .pv (.remp _ _ _)
       | rsl b off c _ n' _ hn hc g0 g1 g2 =>
        subst hn
        refine DoesS.same (fun w _=>(sliceAt_slice htt.und ht bl bh h0 h1 (by omega))) ?_ h
        by_cases hcl:c = l.toNat
        ·have e0:hh.toNat - l.toNat = 0 := by omega
         have:(rows.take hh.toNat).drop l.toNat = [] := List.eq_nil_of_length_eq_zero (by rw [hlen,e0])
         rw [if_pos hcl,this,e0,hcl,Nat.sub_self]; exact .pv (.remp _ _ _)
        ·rw [if_neg hcl]
         simp only [Option.map_some,Addr.add_mid]
         have at':∀ (m:Nat) (r:List PV),((rows.take hh.toNat).drop l.toNat)[m]? = some r → rows[l.toNat + m]? = some r := fun m r hm'=>by
          rw [List.getElem?_drop,List.getElem?_take] at hm'
          split at hm'
          ·exact hm'
          ·cases hm'
         have mul:∀ m j:Nat,off + l.toNat * i.size + m * i.size + j = off + (l.toNat + m) * i.size + j := fun m j=>by rw [Nat.add_mul]; omega
         refine .pv (.rsl b (off + l.toNat * i.size) (c - l.toNat) i.size _ _ hlen.symm (by omega) (fun m j hm' hj=>?_) (fun m r j p u hm' hj hu=>?_) (fun m r hm'=>g2 _ r (at' m r hm')))
         ·rw [mul]; rw [hlen] at hm'; exact g0 _ j (by omega) hj
         ·rw [mul] at hu; exact g1 _ r j p u (at' m r hm') hj hu
     ·exact h.elim
    ·exact h.elim
   ·split at h
    ·rename_i l hh e1 e2
     simp only [Res.holds,decide_eq_true_eq] at h
     obtain ⟨h0,h1,h⟩ := h
     have := hx.lit_eq; subst this
     subst h0; subst h1
     have bl := bound_spec hsl hrl e1
     have bh := bound_spec hsh hrh e2
     have := fun w (_:Sw w)=>sliceAt_slice (w := w) (a := none) (len := 0) (cap := 0) htt.und ht bl (by simpa using bh) (Int.le_refl _) (Int.le_refl _) (by simp)
     exact DoesS.same this (.pv (.lit _)) h
    ·exact h.elim
   ·exact h.elim
 ·rename_i sz' by' zr rw' hte
  have htt := htab.get hte
  split at h
  ·rename_i b
   split at h
   ·rename_i l hh e1 e2
    simp only [Res.holds,decide_eq_true_eq] at h
    obtain ⟨h0,h1,h2,h⟩ := h
    have := hx.lit_eq; subst this
    have bl := bound_spec hsl hrl e1
    have bh := bound_spec hsh hrh e2
    refine DoesS.same ?_ (.pv (.lit _)) h
    have hu:P.underlying t = some .string := htt.und
    simp [Instr.sliceAt,Instr.slice,run_underlying hu,bounds_run bl bh h0 h1 h2]
   ·exact h.elim
  ·exact h.elim
 ·exact h.elim
 ·rename_i n e sz' by' zr rw' hte
  have htt := htab.get hte
  split at h
  ·exact h.elim
  ·rename_i i hi'
   have ht := htab.get hi'
   obtain ⟨inf,hinf,i1,_⟩ := ht.inf
   split at h
   ·rename_i s sz r j
    split at h
    ·exact h.elim
    ·rename_i o ho
     split at h
     ·rename_i szo l hh hz e1 e2
      split at h
      ·exact h.elim
      ·rename_i hi0
       simp only [Res.holds,decide_eq_true_eq] at h
       obtain ⟨hdiv,hfit,h0,h1,h2,h⟩ := h
       have bl := bound_spec hsl hrl e1
       have bh := bound_spec hsh hrh e2
       cases hx with
       | ptr _ _ _ _ k p hp hk =>
        obtain ⟨cs,ty,a1,a2,a3,a4,a5⟩ := ((hm.own s o ho).rowOf hz hp).ex
        have hrun:∀ w,(Instr.sliceAt t (.pointer (some ⟨p.block,k,none⟩)) vl vh none).run P w = .ok (.slice (some (if n = l.toNat then ⟨p.block,k,none⟩ else ⟨p.block,k + l.toNat * i.size,none⟩)) (hh.toNat - l.toNat) (n - l.toNat)) w := fun w=>by
         have hu:P.underlying t = some (.array n e) := htt.und
         simp [Instr.sliceAt,run_underlying hu,Instr.sureAddr,bounds_run bl bh h0 h1 h2,sizeOf,typeInfo,hinf,i1,Addr.add_mid]
        refine DoesS.same (fun w _=>hrun w) ?_ h
        by_cases hcl:n = l.toNat
        ·have e0:hh.toNat - l.toNat = 0 := by omega
         have e1':n - l.toNat = 0 := by omega
         rw [if_pos hcl,e0,e1']; exact .slz _ _ _ _
        ·rw [if_neg hcl]
         have hb:(r * sz + j) / i.size * i.size = r * sz + j := by have := Nat.div_add_mod' (r * sz + j) i.size; omega
         refine .sl _ _ _ _ _ _ p hp (by rw [Nat.add_mul,hb,hk]) ?_ (by omega) (by omega)
         rw [show (r * sz + j) / i.size + l.toNat + (n - l.toNat) = (r * sz + j) / i.size + n by omega,Nat.add_mul,hb]
         omega
     ·exact h.elim
   ·exact h.elim
 ·exact h.elim
theorem sLen0_soundS {P:Program} {tab:Tab} (htab:TabOk P tab) {M:Imm} {ρ:Env} {H:List SObj} {w0:World} {Sw:World → Prop} {K:Post} (hm:Mem M ρ H w0) {t ty:Nat} {x:SV} {v:Value} (hx:SRep M ρ v x) (hnm:∀ s,x ≠ .mp s)
  (h:(sLen0 tab H t x).holds H K):DoesS P (Builtin.len_ #[t] ty #[v]) M ρ Sw H K := by
 unfold sLen0 at h
 split at h
 ·rename_i e sz' by' zr rw' hte
  have hu:P.underlying t = some (.slice e) := (htab.get hte).und
  have key:∀ (w:World) a n c,(Builtin.len_ #[t] ty #[.slice a n c]).run P w = .ok (.int .i64 n) w := fun w a n c=>by simp [Builtin.len_,run_underlying hu,goInt]
  split at h
  ·rename_i s sz st len
   cases hx with
   | sl _ _ _ _ c k p hp hk hc hn h6=>exact DoesS.same (fun w _=>key w _ _ _) (.pv (.lit _)) h
   | slz=>exact DoesS.same (fun w _=>key w _ _ _) (.pv (.lit _)) h
  ·cases hx with
   | pv hp=>cases hp with
    | rnil=>exact DoesS.same (fun w _=>key w _ _ _) (.pv (.lit _)) h
    | remp=>exact DoesS.same (fun w _=>key w _ _ _) (.pv (.lit _)) h
    | rsl b off c _ n' _ hn hc g0 g1 g2=>subst hn; exact DoesS.same (fun w _=>key w _ _ _) (.pv (.lit _)) h
  ·have := hx.lit_eq; subst this; exact DoesS.same (fun w _=>key w _ _ _) (.pv (.lit _)) h
  ·exact h.elim
 ·rename_i sz' by' zr rw' hte
  have hu:P.underlying t = some .string := (htab.get hte).und
  split at h
  ·have := hx.lit_eq; subst this
   exact DoesS.same (fun w _=>by simp [Builtin.len_,run_underlying hu,goInt]) (.pv (.lit _)) h
  ·exact h.elim
 ·rename_i kk ee sz' by' zr rw' hte
  have hu:P.underlying t = some (.map kk ee) := (htab.get hte).und
  split at h
  ·rename_i s; exact (hnm s rfl).elim
  ·have := hx.lit_eq; subst this
   exact DoesS.same (fun w _=>by simp [Builtin.len_,run_underlying hu,goInt]) (.pv (.lit _)) h
  ·exact h.elim
 ·rename_i n e sz' by' zr rw' hte
  have hu:P.underlying t = some (.array n e) := (htab.get hte).und
  refine DoesS.same ?_ (.pv (.lit _)) h
  simp [Builtin.len_,run_underlying hu,goInt]
 ·exact h.elim
theorem sPure_soundS {P:Program} {M:Imm} {ρ:Env} {H:List SObj} {w0:World} {Sw:World → Prop} {K:Post} {ev:Operand → SV} {va:Operand → Value} (hm:Mem M ρ H w0) (hev:∀ x,SRep M ρ (va x) (ev x)) {o:Oper}
  (h:(sPure P ev o).holds H K):DoesNS P (execOp va o) M ρ Sw H K := by
 unfold sPure at h
 split at h
 ·rename_i hc
  simp only [Bool.and_eq_true,Bool.not_eq_true'] at hc
  split at h
  ·rename_i v hv
   have he:execOp va o = execOp (fun x=>(ev x).litV) o := by
    refine execOp_congr o (fun cs b hsel=>by rw [hsel] at hc; simp [isSelect] at hc) fun x hx=>?_
    have := Array.all_eq_true_iff_forall_mem.1 hc.2 x hx
    exact litV_eq (hev x) this
   rw [he]
   exact DoesNS.same (fun w _=>pureRun_run hv w) (.pv (.lit _)) h
  ·exact h.elim
 ·exact h.elim
theorem sBin_soundS {P:Program} {tab:Tab} (htab:TabOk P tab) {M:Imm} {ρ:Env} {H:List SObj} {w0:World} {Sw:World → Prop} {K:Post} {ev:Operand → SV} {va:Operand → Value} (hm:Mem M ρ H w0) (hev:∀ x,SRep M ρ (va x) (ev x)) {o:Oper}
  {op:BinOp} {t t':TypeId} {x y:Operand} (ho:o.op = .binOp op t x y t') (h:(sBin P tab ev o op t (ev x) (ev y)).holds H K):DoesNS P (execOp va o) M ρ Sw H K := by
 have hx := hev x
 have hy := hev y
 have exec:execOp va o = (do pure (.value (← (do eqGuard op t x y (va x) (va y); binOp op t (va x) (va y))))) := by simp [execOp,ho]
 unfold sBin at h
 split at h <;> first
  | (rename_i e1 e2
     rw [e1] at hx; rw [e2] at hy
     have ex := hx.lit_eq; have ey := hy.lit_eq
     rw [exec,ex,ey]
     simp only [Res.holds] at h
     first
    | (refine DoesNS.same ?_ (.pv (.lit _)) h
       intro w _
       simp [Sem.run_bind,eqGuard_int,binOp,Op.intArith,w64]; done)
    | (obtain ⟨hn,h⟩ := h
       first
      | (have hz := of_decide_eq_true hn
         refine DoesNS.same ?_ (.pv (.lit _)) h
         intro w _
         simp [Sem.run_bind,eqGuard_int,binOp,Op.intDiv,hz,w64]; done)
      | (have hz := Int.not_lt.2 (of_decide_eq_true hn)
         refine DoesNS.same ?_ (.pv (.lit _)) h
         intro w _
         simp only [Sem.run_bind,eqGuard_int,Result.andThen_ok,binOp,Op.shift,if_neg hz,Sem.run_pure]; rfl)
      | (have hz := Int.not_lt.2 (of_decide_eq_true hn)
         refine DoesNS.same ?_ (.pv (.lit _)) h
         intro w _
         simp only [Sem.run_bind,eqGuard_str,Result.andThen_ok,binOp,Op.stringOp,gt_iff_lt,if_neg hz,Sem.run_pure]; done)
      | (obtain ⟨hn2,h⟩ := h
         have hz := of_decide_eq_true hn
         refine DoesNS.same ?_ (.pv (.lit _)) h
         intro w _
         simp [Sem.run_bind,eqGuard_int,binOp,Op.intDiv,hz,wrap_inI64 hn2]; done))
    | (refine DoesNS.same ?_ (.pv (.lit _)) h
       intro w _
       simp [Sem.run_bind,eqGuard_int,eqGuard_str,binOp,Op.intCmp,Op.stringOp,bne]; done)
    | (refine DoesNS.same ?_ (.pv (.lit _)) h
       intro w _
       simp only [Sem.run_bind,eqGuard_int,eqGuard_str,Result.andThen_ok,binOp,Op.intCmp,Op.stringOp,strEq_toList]; rfl))
  | (split at h
     · rename_i neg hk
       split at h
       · rename_i hc
         simp only [Bool.and_eq_true] at hc
         obtain ⟨v,hk2,hrun⟩ := sEq_run htab hx hy hc.1 hc.2 h
         have ho := eqKind_op hk
         rw [exec,ho]
         refine DoesNS.same (fun w _=>?_) (.pv (.lit _)) hk2
         have := hrun w
         simp only [Sem.run_bind] at this ⊢; simp [this]
       · exact h.elim
     · split at h
       · rename_i r hr
         have hrun := cmpOf_run (P := P) (t := t) hx hy hr
         rw [exec]
         refine DoesNS.same (fun w _=>?_) (.pv (.lit _)) h
         have := hrun w x y
         simp only [Sem.run_bind] at this ⊢; simp [this]
       · exact sPure_soundS (w0 := w0) hm hev h)
theorem sField_soundS {P:Program} {tab:Tab} (htab:TabOk P tab) {M:Imm} {ρ:Env} {H:List SObj} {w0:World} {Sw:World → Prop} {K:Post} (hm:Mem M ρ H w0) {t f:Nat} {x:SV} {v:Value} (hx:SRep M ρ v x)
  (h:(sField tab t x f).holds H K):DoesS P (Instr.field t v f) M ρ Sw H K := by
 unfold sField at h
 split at h
 ·rename_i l fields sz' by' zr rw' hte
  have hu:P.underlying t = some (.struct fields) := (htab.get hte).und
  cases hx with
  | agg cs _ hl hr =>
   split at h
   ·exact h.elim
   ·rename_i fd hfd
    split at h
    ·exact h.elim
    ·rename_i i hi
     have ht := htab.get hi
     obtain ⟨inf,hinf,i1,_⟩ := ht.inf
     split at h
     ·rename_i hd
      simp only [Res.holds,decide_eq_true_eq] at h
      obtain ⟨hle,h⟩ := h
      refine DoesS.same (v := .agg (cs.extract fd.offset (fd.offset + i.size))) ?_ ?_ h
      ·simp [Instr.field,run_underlying hu,hfd,asAgg,part,isAgg_run ht,hd,sizeOf,typeInfo,hinf,i1]
      ·have := SRep.mkAgg (M := M) (ρ := ρ) (cs := (cs.extract fd.offset (fd.offset + i.size)).toList) (l := (l.drop fd.offset).take i.size) (by simp; omega) (fun k v x hv hx=>by
        rw [List.getElem?_take] at hx
        split at hx
        ·rename_i hk
         rw [List.getElem?_drop] at hx
         rw [Array.getElem?_toList,Array.getElem?_extract] at hv
         split at hv
         ·exact hr _ v x hv hx
         ·cases hv
        ·cases hx)
       rwa [Array.toArray_toList] at this
     ·rename_i hd
      simp only [Res.holds,decide_eq_true_eq] at h
      obtain ⟨hle,h⟩ := h
      have hlt:fd.offset < cs.size := by omega
      refine DoesS.same (v := cs[fd.offset]) ?_ ?_ h
      ·simp [Instr.field,run_underlying hu,hfd,asAgg,part,isAgg_run ht,hd,hlt]
      ·rw [List.getD_eq_getElem?_getD,List.getElem?_eq_getElem hle]
       exact hr fd.offset _ _ (by simp [hlt]) (by simp [hle])
 ·exact h.elim
theorem sLookup0_soundS {P:Program} {tab:Tab} (htab:TabOk P tab) {M:Imm} {ρ:Env} {H:List SObj} {w0:World} {Sw:World → Prop} {K:Post} (hm:Mem M ρ H w0) {R:List Nat} (hR:∀ u,Sw u → ∀ s ∈ R,∀ p,ρ s = some p → u.heap[p.block]? = w0.heap[p.block]?)
  {t:Nat} {m k:SV} {vm vk:Value} {ok:Bool} (hmr:SRep M ρ vm m) (hkr:SRep M ρ vk k) (hin:∀ s,m = .mp s → s ∈ R)
  (h:(sLookup0 P tab H t m k ok).holds H K):DoesS P (Instr.lookup t vm vk ok) M ρ Sw H K := by
 unfold sLookup0 at h
 split at h
 ·rename_i kt et sz' by' zr rw' hte
  have hu:P.underlying t = some (.map kt et) := (htab.get hte).und
  split at h
  ·rename_i kv
   have := hkr.lit_eq; subst this
   split at h
   ·rename_i s
    split at h
    ·rename_i es c ho
     split at h
     ·rename_i hko
      cases hmr with
      | mp _ p hp =>
       obtain ⟨arr,hheap,hrep⟩ := (hm.own s _ ho).mapRep hp
       have hempty:arr.isEmpty = es.isEmpty := by
        have := hrep.sz
        simp only [Array.isEmpty,this]
        cases es <;> simp
       have hget:∀ u,Sw u → (getObj p.block).run P u = .ok (.map arr c) u := fun u hu'=>run_getObj_map (P := P) (by rw [hR u hu' s (hin s rfl) p hp]; exact hheap)
       have hkey:∀ u,_ := fun u=>keyOk_run hko u
       rw [← hempty] at hkey
       split at h
       ·rename_i j hj
        obtain ⟨e,x,a1,a2,a3,a4,a5,a6⟩ := (seek_run (P := P) (kt := kt) (k := vk) hrep w0).2 j hj
        rw [a2] at h
        simp only at h
        refine DoesS.same ?_ (ok_rep (ok := ok) (b := true) a5) h
        intro u hw
        obtain ⟨e',x',b1,_,_,_,_,b6⟩ := (seek_run (P := P) (kt := kt) (k := vk) hrep u).2 j hj
        rw [a1] at b1; cases b1
        simp [Instr.lookup,run_underlying hu,hget u hw,hkey u,b6]
       ·rename_i hj
        split at h
        ·rename_i i hi
         refine DoesS.same ?_ (ok_rep (ok := ok) (b := false) (.pv (.lit _))) h
         intro u hw
         simp [Instr.lookup,run_underlying hu,hget u hw,hkey u,(seek_run (P := P) (kt := kt) (k := vk) hrep u).1 hj,zeroValue_run (htab.get hi)]
        ·exact h.elim
       ·exact h.elim
     ·exact h.elim
    ·exact h.elim
   ·split at h
    ·rename_i hko
     have := hmr.lit_eq; subst this
     split at h
     ·rename_i i ik hi hik
      refine DoesS.same ?_ (ok_rep (ok := ok) (b := false) (.pv (.lit _))) h
      intro w _
      have hkey := keyOk_run hko w
      have hnone:(Instr.findKey kt vk []).run P w = .ok none w := by
       simp only [Instr.findKey,Instr.findNow,Sem.run_bind,run_underlying (htab.get hik).und,Result.andThen_ok,Sem.run_pure]
      simp [Instr.lookup,run_underlying hu,hkey,hnone,zeroValue_run (htab.get hi)]
     ·exact h.elim
    ·exact h.elim
   ·exact h.elim
  ·exact h.elim
 ·exact h.elim
theorem sLookup_soundS {P:Program} {tab:Tab} (htab:TabOk P tab) {M:Imm} {ρ:Env} {H:List SObj} {w0:World} {Sw:World → Prop} {K:Post} (hm:Mem M ρ H w0) {R:List Nat} (hR:∀ u,Sw u → ∀ s ∈ R,∀ p,ρ s = some p → u.heap[p.block]? = w0.heap[p.block]?)
  {t:Nat} {m k:SV} {vm vk:Value} {ok:Bool} (hmr:SRep M ρ vm m) (hkr:SRep M ρ vk k) (hin:∀ s,m = .mp s → s ∈ R)
  (h:(sLookup P tab H t m k ok).holds H K):DoesS P (Instr.lookup t vm vk ok) M ρ Sw H K := by
 unfold sLookup at h
 split at h
 ·rename_i s
  split at h
  ·rename_i ka va l ho
   split at h
   ·rename_i kt et _ _ _ _ hte
    cases hmr with
    | mp _ p hp =>
     obtain ⟨arr,hheap,hrep⟩ := MapAt.rep (hm.own s _ ho) hp
     obtain ⟨v,x,h1,h2,h3⟩ := lookT_run htab hkr h hrep
     exact DoesS.same (fun u hu=>h3 u t p.block _ (htab.get hte).und (by rw [hR u hu s (hin s rfl) p hp]; exact hheap)) h2 h1
   ·exact h.elim
  ·rename_i es c ho
   split at h
   ·rename_i kt et _ _ _ _ hte
    split at h
    ·split at h
     ·cases hmr with
      | mp _ p hp =>
       obtain ⟨arr,hheap,hrep⟩ := (hm.own s _ ho).mapRep hp
       obtain ⟨v,x,h1,h2,h3⟩ := lookM_run htab hkr h hrep
       exact DoesS.same (fun u hu=>h3 u t p.block _ (htab.get hte).und (by rw [hR u hu s (hin s rfl) p hp]; exact hheap)) h2 h1
     ·exact sLookup0_soundS htab hm hR hmr hkr hin h
    ·exact h.elim
   ·exact h.elim
  ·exact sLookup0_soundS htab hm hR hmr hkr hin h
 ·exact sLookup0_soundS htab hm hR hmr hkr hin h
theorem sBuild_soundS {P:Program} {tab:Tab} (htab:TabOk P tab) {M:Imm} {ρ:Env} {H:List SObj} {Sw:World → Prop} {K:Post} {t:Nat} {vp:Array (Nat × Value)} {sp:List (Nat × SV)}
  (hl:vp.size = sp.length) (hp:∀ (k:Nat) (a:Nat × Value) (b:Nat × SV),vp.toList[k]? = some a → sp[k]? = some b → a.1 = b.1 ∧ SRep M ρ a.2 b.2)
  (h:(sBuild P tab t sp).holds H K):DoesS P (Instr.build t vp) M ρ Sw H K := by
 unfold sBuild at h
 split at h
 ·exact h.elim
 ·rename_i i hi
  have ht := htab.get hi
  have hz := fun w=>zeroValue_run ht w
  split at h
  ·rename_i fields hd
   have hu:P.underlying t = some (.struct fields) := by rw [ht.und,hd]
   split at h
   ·exact h.elim
   ·rename_i places hpl
    split at h
    ·exact h.elim
    ·rename_i l hf
     obtain ⟨cs',g1,g2⟩ := sfill_sound (M := M) (ρ := ρ) (zero_rowRep ht) (by simpa using hl) hp hf
     refine DoesS.same (v := .agg cs') ?_ ?_ h
     ·intro w _
      have hrun := pureRun_run hpl w
      simp only [placesOf,Sem.run_bind,run_underlying hu,Result.andThen_ok] at hrun
      simp only [Instr.build,Sem.run_bind,hz,Result.andThen_ok,run_underlying hu,hrun]
      rw [g1]; rfl
     ·have := SRep.mkAgg (M := M) (ρ := ρ) (cs := cs'.toList) (l := l) (by simpa using g2.sz) (fun k v x hv hx=>g2.rep k v x (by rw [← Array.getElem?_toList]; exact hv) hx)
      simpa using this
  ·rename_i n e hd
   have hu:P.underlying t = some (.array n e) := by rw [ht.und,hd]
   split at h
   ·exact h.elim
   ·rename_i ie hie
    obtain ⟨inf,hinf,i1,_⟩ := (htab.get hie).inf
    split at h
    ·exact h.elim
    ·rename_i l hf
     obtain ⟨cs',g1,g2⟩ := sfill_sound (M := M) (ρ := ρ) (zero_rowRep ht) (by simpa using hl) hp hf
     refine DoesS.same (v := .agg cs') ?_ ?_ h
     ·intro w _
      simp only [Instr.build,Sem.run_bind,hz,Result.andThen_ok,run_underlying hu,sizeOf,typeInfo,run_program,hinf,Sem.run_pure,i1]
      rw [g1]; rfl
     ·have := SRep.mkAgg (M := M) (ρ := ρ) (cs := cs'.toList) (l := l) (by simpa using g2.sz) (fun k v x hv hx=>g2.rep k v x (by rw [← Array.getElem?_toList]; exact hv) hx)
      simpa using this
  ·exact h.elim
theorem DoesS.seen {P:Program} {S:Sem Value} {M:Imm} {ρ:Env} {Sw:World → Prop} {H:List SObj} {K:Post} (h:DoesS P S M ρ Sw H (Seen K)):DoesS P S M ρ Sw H K := by
 obtain ⟨v,x,⟨y,hy,hk⟩,hx,hr⟩ := h
 exact ⟨v,y,hk,hy _ _ _ hx,hr⟩
theorem sFieldAddr_soundS {P:Program} {tab:Tab} (htab:TabOk P tab) {M:Imm} {ρ:Env} {H:List SObj} {w0:World} {Sw:World → Prop} {K:Post} (hm:Mem M ρ H w0) {t f:Nat} {x:SV} {v:Value} (hx:SRep M ρ v x)
  (h:(sFieldAddr tab t x f).holds H K):DoesS P (Instr.fieldAt t v f) M ρ Sw H K := DoesS.seen (sFieldAddr0_soundS (w0 := w0) htab hm hx.untyped (sFieldAddr_untyped h))
theorem sIndexAddr_soundS {P:Program} {tab:Tab} (htab:TabOk P tab) {M:Imm} {ρ:Env} {H:List SObj} {w0:World} {Sw:World → Prop} {K:Post} (hm:Mem M ρ H w0) {t:Nat} {x ix:SV} {v u:Value} (hx:SRep M ρ v x) (hix:SRep M ρ u ix)
  (h:(sIndexAddr tab t x ix).holds H K):DoesS P (Instr.indexAt t v u) M ρ Sw H K := DoesS.seen (sIndexAddr0_soundS (w0 := w0) htab hm hx.untyped hix (sIndexAddr_untyped h))
theorem sSlice_soundS {P:Program} {tab:Tab} (htab:TabOk P tab) {M:Imm} {ρ:Env} {H:List SObj} {w0:World} {Sw:World → Prop} {K:Post} (hm:Mem M ρ H w0) {t:Nat} {x:SV} {lo hi:Option SV} {v:Value} {vl vh:Option Value}
  (hx:SRep M ρ v x) (hsl:vl.isSome = lo.isSome) (hrl:∀ v x,vl = some v → lo = some x → SRep M ρ v x) (hsh:vh.isSome = hi.isSome) (hrh:∀ v x,vh = some v → hi = some x → SRep M ρ v x)
  (h:(sSlice tab H t x lo hi).holds H K):DoesS P (Instr.sliceAt t v vl vh none) M ρ Sw H K := DoesS.seen (sSlice0_soundS (w0 := w0) htab hm hx.untyped hsl hrl hsh hrh (sSlice_untyped h))
theorem untyped_mp {x:SV} (h:∀ s,x ≠ .mp s):∀ s,x.untyped ≠ .mp s := by
 intro s
 unfold SV.untyped
 split
 ·intro e; cases e
 ·intro e; cases e
 ·exact h s
theorem sLen_soundS {P:Program} {tab:Tab} (htab:TabOk P tab) {M:Imm} {ρ:Env} {H:List SObj} {w0:World} {Sw:World → Prop} {K:Post} (hm:Mem M ρ H w0) {t ty:Nat} {x:SV} {v:Value} (hx:SRep M ρ v x) (hnm:∀ s,x ≠ .mp s)
  (h:(sLen tab H t x).holds H K):DoesS P (Builtin.len_ #[t] ty #[v]) M ρ Sw H K := DoesS.seen (sLen0_soundS (w0 := w0) htab hm hx.untyped (untyped_mp hnm) (sLen_untyped h))
end Go.Sx
section
namespace Go.Sx
open Go
def hkind:Op → Bool
 | .move _ | .assign _ | .pick .. | .build .. | .load .. | .lookup .. | .nilCheck _ | .binOp .. | .makeFunc .. | .slice .. | .fieldAddr .. | .field .. | .indexAddr .. | .extract .. | .unOp .. | .convert .. | .index .. | .makeInterface ..=>true
 | .call { callee := .builtin .len,.. }=>true
 | _=>false
def hdyn (R:List Nat) (ev:Operand → SV) (o:Oper):Bool := match o.op with
 | .load _ a=>match ev a with
  | .ptr s ..=>R.contains s
  | _=>true
 | .lookup _ m _ _=>match ev m with
  | .mp s=>R.contains s
  | _=>true
 | .call { callee := .builtin .len,args,.. }=>args.toList.all fun x=>match ev x with
  | .mp _=>false
  | _=>true
 | _=>true
theorem hdyn_load {R:List Nat} {ev:Operand → SV} {o:Oper} {t:TypeId} {a:Operand} (ho:o.op = .load t a):hdyn R ev o = match ev a with
  | .ptr s ..=>R.contains s
  | _=>true := by simp only [hdyn,ho]
theorem hdyn_lookup {R:List Nat} {ev:Operand → SV} {o:Oper} {t:TypeId} {m k:Operand} {ok:Bool} (ho:o.op = .lookup t m k ok):hdyn R ev o = match ev m with
  | .mp s=>R.contains s
  | _=>true := by simp only [hdyn,ho]
theorem hop_sound {P:Program} {tab:Tab} (htab:TabOk P tab) {M:Imm} {ρ:Env} {H:List SObj} {w:World} {Sw:World → Prop} {K:Post} {ev:Operand → SV} {va:Operand → Value} (hm:Mem M ρ H w) (hev:∀ x,SRep M ρ (va x) (ev x)) {o:Oper}
  (hS:∀ u,Sw u → ∀ b o,M b = some o → u.heap[b]? = some o) {R:List Nat} (hR:∀ u,Sw u → ∀ s ∈ R,∀ p,ρ s = some p → u.heap[p.block]? = w.heap[p.block]?) (hk:hkind o.op = true) (hdyn:hdyn R ev o = true)
  (h:(sop P tab H ev o).holds H K):DoesNS P (execOp va o) M ρ Sw H K := by
 unfold sop at h
 split at h
 ·rename_i x ho; exact DoesNS.same (fun w _=>by simp [execOp,ho]) (hev x) h
 ·rename_i x ho; exact DoesNS.same (fun w _=>by simp [execOp,ho]) (hev x) h
 ·rename_i c a b ho
  have hc := hev c
  split at h
  ·rename_i t e
   rw [e] at hc
   have ec := hc.lit_eq
   obtain ⟨h1,h2⟩ := h
   cases t with
   | true=>exact DoesNS.same (fun w _=>by simp [execOp,ho,ec,asBool]) (hev a) (h1 rfl)
   | false=>exact DoesNS.same (fun w _=>by simp [execOp,ho,ec,asBool]) (hev b) (h2 rfl)
  ·exact h.elim
 ·rename_i ho; exact absurd hk (by simp [hkind,ho])
 ·rename_i ho; exact absurd hk (by simp [hkind,ho])
 ·rename_i t parts ho
  obtain ⟨h1,h2⟩ := parts_rep hev parts
  have := (sBuild_soundS (Sw := Sw) htab h1 h2 h).toN; simpa [execOp,ho] using this
 ·rename_i ho; exact absurd hk (by simp [hkind,ho])
 ·rename_i t a ho; have := (sLoad_soundS (w0 := w) (Sw := Sw) htab hm hS hR (hev a) (fun s sz r j e=>by rw [hdyn_load ho] at hdyn; rw [e] at hdyn; simpa using hdyn) h).toN; simpa [execOp,ho] using this
 ·rename_i ho; exact absurd hk (by simp [hkind,ho])
 ·rename_i x ho
  have hx := hev x
  split at h
  ·rename_i s sz i j e
   rw [e] at hx
   cases hv:va x with
   | pointer a =>
    rw [hv] at hx
    cases hx with
    | ptr _ _ _ _ k p hp hk=>exact DoesNS.same (v := .pointer (some ⟨p.block,k,none⟩)) (fun w _=>by simp [execOp,ho,hv]) (.ptr _ _ _ _ k p hp hk) h
   | _=>rw [hv] at hx; cases hx
  ·rename_i sz r i j e
   rw [e] at hx
   generalize hv:va x = vx at hx
   cases hx with
   | pv hp =>
    cases hp with
    | rptr b off _ _ _ k _ hk h0 h1 h2=>exact DoesNS.same (v := .pointer (some ⟨b,k,none⟩)) (fun w _=>by simp [execOp,ho,hv]) (.pv (.rptr b off sz i j k r hk h0 h1 h2)) h
  ·rename_i s e
   rw [e] at hx
   cases hv:va x with
   | map a=>rw [hv] at hx; exact DoesNS.same (v := .map a) (fun w _=>by simp [execOp,ho,hv]) hx h
   | _=>rw [hv] at hx; cases hx
  ·rename_i f a b e
   rw [e] at hx
   cases hv:va x with
   | func g c d =>
    rw [hv] at hx
    cases hx with
    | fn _ _ _ _ _ ha hb hh hk=>exact DoesNS.same (v := .func (.func f) c d) (fun w _=>by simp [execOp,ho,hv]) (.fn _ _ _ _ _ ha hb hh hk) h
   | _=>rw [hv] at hx; cases hx
  ·exact sPure_soundS (w0 := w) (Sw := Sw) hm hev h
 ·rename_i op t x y t' ho
  split at h
  ·rename_i r hr
   obtain ⟨q,hrun,hk⟩ := sNil_run (P := P) htab (hev x) (hev y) hr h
   have exec:execOp va o = (do pure (.value (← (do eqGuard op t x y (va x) (va y); binOp op t (va x) (va y))))) := by simp [execOp,ho]
   rw [exec]
   exact DoesNS.same (fun w _=>by have := hrun w x y; simp only [Sem.run_bind] at this ⊢; simp [this]) (.pv (.lit _)) hk
  ·exact sBin_soundS htab (w0 := w) (Sw := Sw) hm hev ho h
 ·rename_i fn a b ho
  obtain ⟨a1,a2⟩ := ops_rep hev a
  obtain ⟨b1,b2⟩ := ops_rep hev b
  exact DoesNS.same (fun w _=>by simp [execOp,ho,Instr.makeFunc]) (.fn fn _ _ _ _ a1 b1 a2 b2) h
 ·rename_i ho; exact absurd hk (by simp [hkind,ho])
 ·rename_i ho; exact absurd hk (by simp [hkind,ho])
 ·rename_i t x lo hi mx ho
  split at h
  ·obtain ⟨l1,l2⟩ := opt_rep hev lo
   obtain ⟨h1,h2⟩ := opt_rep hev hi
   have := (sSlice_soundS (w0 := w) (Sw := Sw) htab hm (hev x) l1 l2 h1 h2 h).toN; simpa [execOp,ho] using this
  ·rename_i m
   obtain ⟨l1,l2⟩ := opt_rep hev lo
   obtain ⟨h1,h2⟩ := opt_rep hev hi
   obtain ⟨v',hr,y,hy,hk⟩ := sSlice3_sound htab (hev x) l1 l2 h1 h2 (hev m) h
   have := DoesS.toN (Sw := Sw) ⟨v',y,hk,hy,fun w _=>hr w⟩; simpa [execOp,ho] using this
 ·rename_i t x f ho; have := (sFieldAddr_soundS (w0 := w) (Sw := Sw) htab hm (hev x) h).toN; simpa [execOp,ho] using this
 ·rename_i t x f ho
  split at h
  ·rename_i l e
   have hx := hev x
   rw [e] at hx
   have := (sField_soundS (w0 := w) (Sw := Sw) htab hm hx h).toN; simpa [execOp,ho] using this
  ·exact sPure_soundS (w0 := w) (Sw := Sw) hm hev h
 ·rename_i t x ix ho; have := (sIndexAddr_soundS (w0 := w) (Sw := Sw) htab hm (hev x) (hev ix) h).toN; simpa [execOp,ho] using this
 ·rename_i t m k ok ho; have := (sLookup_soundS (w0 := w) (Sw := Sw) htab hm hR (hev m) (hev k) (fun s e=>by rw [hdyn_lookup ho] at hdyn; rw [e] at hdyn; simpa using hdyn) h).toN; simpa [execOp,ho] using this
 ·rename_i ho; exact absurd hk (by simp [hkind,ho])
 ·rename_i ho; exact absurd hk (by simp [hkind,ho])
 ·rename_i ho; exact absurd hk (by simp [hkind,ho])
 ·rename_i ho; exact absurd hk (by simp [hkind,ho])
 ·rename_i ho; exact absurd hk (by simp [hkind,ho])
 ·rename_i ho; exact absurd hk (by simp [hkind,ho])
 ·rename_i ho; exact absurd hk (by simp [hkind,ho])
 ·rename_i x i ho
  split at h
  ·rename_i l e
   have hx := hev x
   rw [e] at hx
   cases hv:va x with
   | tuple cs =>
    rw [hv] at hx
    cases hx with
    | tup _ _ hl hr =>
     split at h
     ·rename_i y hy
      have hlt:i < cs.size := by have := (List.getElem?_eq_some_iff.1 hy).1; omega
      exact DoesNS.same (v := cs[i]) (fun w _=>by simp [execOp,ho,hv,Instr.extract,hlt]) (hr i _ y (by simp [hlt]) hy) h
     ·exact h.elim
   | _=>rw [hv] at hx; cases hx
  ·exact sPure_soundS (w0 := w) (Sw := Sw) hm hev h
 ·rename_i ho; exact absurd hk (by simp [hkind,ho])
 ·rename_i args argTypes ho
  split at h
  ·rename_i x t ea et
   have ea':args = #[x] := by rw [← Array.toArray_toList (xs := args),ea]
   have et':argTypes = #[t] := by rw [← Array.toArray_toList (xs := argTypes),et]
   subst ea'; subst et'
   have := (sLen_soundS (w0 := w) (Sw := Sw) (ty := o.type) htab hm (hev x) (fun s e=>by simp [Sx.hdyn,ho,e] at hdyn) h).toN
   simpa [execOp,ho,resolve,invoke,builtin] using this
  ·exact h.elim
 ·rename_i b args argTypes hb1 hb2 ho
  cases b <;> first
   | exact (hb1 rfl).elim
   | exact (hb2 rfl).elim
   | (rw [ho] at hk; cases hk)
 ·exact sPure_soundS (w0 := w) (Sw := Sw) hm hev h
 ·exact sPure_soundS (w0 := w) (Sw := Sw) hm hev h
 ·rename_i t x ix ho
  generalize ex:ev x = sx at h
  generalize ei:ev ix = si at h
  unfold sIndex at h
  split at h
  ·have hx := hev x
   have hi := hev ix
   rw [ex] at hx; rw [ei] at hi
   have ex' := hx.lit_eq; have ei' := hi.lit_eq
   rename_i k _
   obtain ⟨v,hk,hr⟩ := sIndex_run (P := P) (ev := ev) (o := o) (k := k) (H := H) (K := K) htab (by simpa only [sIndex] using h)
   exact DoesNS.same (fun w _=>by simp [execOp,ho,ex',ei',hr]) (.pv (.lit v)) hk
  ·exact sPure_soundS (w0 := w) (Sw := Sw) hm hev h
 ·exact sPure_soundS (w0 := w) (Sw := Sw) hm hev h
 ·exact h.elim
section
variable {R:Option Nat} {P:Program} {ops:Array Oper} {Q:Exit → Act → World → Prop} {md:Region.Mode}
def goOp (R:Option Nat) (P:Program) (ops:Array Oper) (Q:Exit → Act → World → Prop) (i:Nat) (K:Act → World → Prop) (a:Act) (w:World):Prop :=
 match ops[i]? with
 | none=>K a w
 | some o=>if Region.wanted o (yielded ops a.tmps) then noDefer o.op = true ∧ o.wpIn (FW R) 0 P a w K Q else K (a.put o.dst undef) w
theorem operIn_mono {o:Oper} {a:Act} {w:World} {K K':Act → World → Prop} (h:∀ a w,K a w → K' a w) (hh:o.wpIn (FW R) 0 P a w K Q):o.wpIn (FW R) 0 P a w K' Q := by
 refine ⟨hh.1,?_⟩
 have h2 := hh.2
 generalize (o.semAt (FW R).round a.eval).run P w = r at *
 cases r with
 | ok n w' =>
  cases n <;> simp only [Oper.uponIn] at h2 ⊢ <;>
   first
    | exact h _ _ h2
    | exact ⟨h2.1,CallsIn.mono h2.2 (fun e w'' he=>by cases e <;> first | exact h _ _ he | exact he)⟩
    | exact ⟨h2.1,RoundIn.mono h2.2 (fun e w'' he=>by cases e <;> first | exact h _ _ he | exact he)⟩
    | exact ⟨h2.1,RowsIn.mono h2.2 (fun _ _ he=>h _ _ he)⟩
 | halt x w'=>cases x <;> simp only [Oper.uponIn] at h2 ⊢ <;> exact h2
theorem goOp_mono {i:Nat} {a:Act} {w:World} {K K':Act → World → Prop} (h:∀ a w,K a w → K' a w) (hh:goOp R P ops Q i K a w):goOp R P ops Q i K' a w := by
 unfold goOp at *
 split
 ·exact h _ _ (by simpa [*] using hh)
 ·rename_i o ho
  simp only [ho] at hh
  split
  ·rename_i hw; simp only [hw,if_true] at hh; exact ⟨hh.1,operIn_mono h hh.2⟩
  ·rename_i hw; simp only [hw] at hh; exact h _ _ hh
theorem YieldsIf.goOp {S:World → Prop} {i:Nat} {o:Oper} {v:Value} {a:Act} (hi:ops[i]? = some o) (hd:noDefer o.op = true) (hy:YieldsIf P ops S o v a)
  {K:Act → World → Prop} {w:World} (hS:S w) (h:K (a.put o.dst v) w):goOp R P ops Q i K a w := by
 unfold Sx.goOp
 simp only [hi]
 rcases hy with ⟨hw,hv⟩ | ⟨hw,rfl⟩
 ·simp only [hw,if_true]
  exact ⟨hd,OpGoes.wpIn hd (N := fun u w'=>u = v ∧ w' = w) (.inl ⟨v,w,.inl (hv w hS),rfl,rfl⟩) fun u w' ⟨e,e'⟩=>by subst e; subst e'; exact h⟩
 ·simp only [hw,Bool.false_eq_true,if_false]; exact h
theorem goOp_putIf {S:World → Prop} {j:Nat} {oi oj:Oper} {v:Value} (hj:ops[j]? = some oj) (hap:oi.apart ops oj = true)
  (hsi:∀ cs b,oi.op ≠ .select cs b) (hsj:∀ cs b,oj.op ≠ .select cs b)
  (hQ:∀ c a w,Q (.panic c) (a.put oi.dst v) w → Q (.panic c) a w) {K:Act → World → Prop} {a:Act} {w:World}
  (hy:YieldsIf P ops S oi v a) (h:goOp R P ops Q j K (a.put oi.dst v) w) :
  goOp R P ops Q j (fun a' w'=>YieldsIf P ops S oi v a' ∧ K (a'.put oi.dst v) w') a w := by
 obtain ⟨h1,h2,h3⟩ := Oper.apart_spec hap
 have keep:∀ (a:Act),YieldsIf P ops S oi v a → ∀ u,YieldsIf P ops S oi v (a.put oj.dst u) := fun a hy u =>
  hy.of_same (execOp_put oi hsi a oj.dst u h3) (wanted_put oi a oj.dst u h3)
 have keepD:∀ d,YieldsIf P ops S oi v { a with defers := d :: a.defers } := fun d=>hy.of_same rfl rfl
 unfold goOp at *
 simp only [hj] at *
 rw [wanted_put oj a oi.dst v h1] at h
 split
 ·rename_i hw
  simp only [hw,if_true] at h
  obtain ⟨hd,h⟩ := h
  refine ⟨hd,fun _ _=>trivial,?_⟩
  have h := h.2
  have hs:∀ ρ,oj.semAt (FW R).round ρ = execOp ρ oj := fun ρ=>Oper.semAt_eq _ ρ oj fun c hc=>by rw [hc] at hd; cases hd
  rw [hs] at h ⊢
  rw [execOp_put oj hsj a oi.dst v h1] at h
  generalize (execOp a.eval oj).run P w = r at *
  cases r with
  | ok n w' =>
   cases n <;> simp only [Oper.uponIn] at h ⊢
   case value u=>exact ⟨keep a hy u,by rw [← Act.put_comm a v u h2]; exact h⟩
   case skip=>exact ⟨keep a hy _,by rw [← Act.put_comm a v undef h2]; exact h⟩
   case defer d =>
    refine ⟨keep _ (keepD d) _,?_⟩
    rw [← Act.put_comm _ v undef h2,← Act.put_defers]
    exact h
   case enter f args =>
    refine ⟨h.1,CallsIn.mono h.2 fun e w'' he=>?_⟩
    cases e with
    | returned u=>exact ⟨keep a hy u,by rw [← Act.put_comm a v u h2]; exact he⟩
    | panicked c=>exact hQ _ _ _ he
    | outgrown=>exact he
   case round =>
    refine ⟨h.1,RoundIn.mono h.2 fun e w'' he=>?_⟩
    cases e with
    | returned u=>exact ⟨keep a hy u,by rw [← Act.put_comm a v u h2]; exact he⟩
    | panicked c=>exact hQ _ _ _ he
    | outgrown=>exact he
   case row row args=>exact ⟨h.1,RowsIn.mono h.2 fun u w'' he=>⟨keep a hy u,by rw [← Act.put_comm a v u h2]; exact he⟩⟩
  | halt x w' =>
   cases x <;> simp only [Oper.uponIn] at h ⊢
   case panic u=>exact hQ _ _ _ h
 ·rename_i hw
  simp only [hw] at h
  exact ⟨keep a hy _,by rw [← Act.put_comm a v undef h2]; exact h⟩
def waitsFor (md:Region.Mode) (o:Oper) (i:Nat):Bool := o.after.any fun e=>Region.binds md e && Nat.beq e.on i
def waits (md:Region.Mode) (ops:Array Oper) (j i:Nat):Bool := match ops[j]? with
 | some o=>waitsFor md o i
 | none=>false
abbrev Pend := List (Nat × (World → Prop))
def wpAnyL (R:Option Nat) (P:Program) (md:Region.Mode) (ops:Array Oper) (Q:Exit → Act → World → Prop):Nat → Array Bool → Act → World → (World → Prop) → Pend → Prop
 | 0,listed,a,w,S,L=>Region.ready md ops listed = [] ∧ Q .normal a w
 | fuel + 1,listed,a,w,S,L =>
  (Region.ready md ops listed = [] → Q .normal a w) ∧
  ∀ j ∈ Region.ready md ops listed,goOp R P ops Q j (fun a' w'=>∃ S':World → Prop,(∀ u,S' u → S u) ∧ S' w' ∧ (∀ p ∈ L,waits md ops j p.1 = false → p.2 w') ∧
   wpAnyL R P md ops Q fuel (listed.setIfInBounds j true) a' w' S' (L.filter fun p=>!waits md ops j p.1)) a w
theorem wpAnyL_sound:∀ (fuel t:Nat) (listed:Array Bool) (a:Act) (w:World) (S:World → Prop) (L:Pend),wpAnyL R P md ops Q fuel listed a w S L →
  wpOpsIn (FW R) 0 P ops Q (Region.linearise.go md ops fuel t listed []) a w := by
 intro fuel
 induction fuel with
 | zero=>intro t listed a w S L h; simpa [Region.linearise.go,wpOpsIn] using h.2
 | succ fuel ih =>
  intro t listed a w S L h
  obtain ⟨h₀,h₁⟩ := h
  simp only [Region.linearise.go]
  change wpOpsIn (FW R) 0 P ops Q (match (Region.ready md ops listed)[t % (Region.ready md ops listed).length]? with
   | some i=>Region.linearise.go md ops fuel (t / (Region.ready md ops listed).length) (listed.setIfInBounds i true) [i]
   | none=>[].reverse) a w
  cases hi:(Region.ready md ops listed)[t % (Region.ready md ops listed).length]? with
  | none =>
   have hnil:Region.ready md ops listed = [] := by
    cases hr:Region.ready md ops listed with
    | nil=>rfl
    | cons x xs =>
     rw [hr] at hi
     have hlt:t % (x :: xs).length < (x :: xs).length := Nat.mod_lt _ (by simp)
     simp at hi
     simp at hlt
     omega
   simpa [wpOpsIn] using h₀ hnil
  | some i =>
   simp only []
   rw [linearise_go_acc,List.reverse_singleton,List.singleton_append]
   have h2 := h₁ i (List.mem_of_getElem? hi)
   simp only [wpOpsIn]
   unfold goOp at h2
   split
   ·rename_i e; simp only [e] at h2; obtain ⟨S',_,_,_,h3⟩ := h2; exact ih _ _ _ _ _ _ h3
   ·rename_i o e
    simp only [e] at h2
    split
    ·rename_i hw
     rw [if_pos hw] at h2
     exact operIn_mono (fun a' w' ⟨S',_,_,_,h3⟩=>ih _ _ _ _ _ _ h3) h2.2
    ·rename_i hw
     rw [if_neg hw] at h2
     obtain ⟨S',_,_,_,h3⟩ := h2
     exact ⟨fun _ _=>trivial,ih _ _ _ _ _ _ h3⟩
theorem wpAnyL_weaken:∀ {fuel:Nat} {listed:Array Bool} {a:Act} {w:World} {S S2:World → Prop} {L L2:Pend},(∀ u,S2 u → S u) → (∀ p ∈ L,(∀ u,p.2 u) ∨ ∃ q ∈ L2,q.1 = p.1 ∧ ∀ u,q.2 u → p.2 u) →
  wpAnyL R P md ops Q fuel listed a w S2 L2 → wpAnyL R P md ops Q fuel listed a w S L
 | 0,_,_,_,_,_,_,_,_,_,h=>h
 | fuel + 1,_,_,_,_,_,L,L2,hs,hl,h=>⟨h.1,fun j hj=>goOp_mono (fun a' w' ⟨S',h1,h2,h3,h4⟩=>by
   refine ⟨S',fun u hu=>hs u (h1 u hu),h2,fun p hp hw=>?_,wpAnyL_weaken (fun u hu=>hu) (fun p hp=>?_) h4⟩
   ·rcases hl p hp with h | ⟨q,hq,e,hi⟩
    ·exact h w'
    ·exact hi w' (h3 q hq (by rw [e]; exact hw))
   ·obtain ⟨hp1,hp2⟩ := List.mem_filter.1 hp
    rcases hl p hp1 with h | ⟨q,hq,e,hi⟩
    ·exact .inl h
    ·exact .inr ⟨q,List.mem_filter.2 ⟨hq,by rw [e]; exact hp2⟩,e,hi⟩) (h.2 j hj)⟩
theorem YieldsIf.less {S S':World → Prop} (hs:∀ u,S' u → S u) {o:Oper} {v:Value} {a:Act} (h:YieldsIf P ops S o v a):YieldsIf P ops S' o v a :=
 h.imp (fun ⟨h1,h2⟩=>⟨h1,fun w hw=>h2 w (hs w hw)⟩) id
theorem wpAnyL_first {i:Nat} {oi:Oper} {v:Value} (hi:ops[i]? = some oi) (hdi:noDefer oi.op = true) (hsel:∀ (j:Nat) (o:Oper) cs b,ops[j]? = some o → o.op ≠ .select cs b)
  (hQ:∀ c a w,Q (.panic c) (a.put oi.dst v) w → Q (.panic c) a w) :
  ∀ (fuel:Nat) (listed:Array Bool) (a:Act) (w:World) (S T:World → Prop) (L:Pend),
   (∀ j oj,ops[j]? = some oj → j ≠ i → listed.getD j true = false → (∀ e ∈ oj.after,Region.binds md e = true → e.on ≠ i) → oi.apart ops oj = true) →
   i ∈ Region.ready md ops listed → YieldsIf P ops (fun u=>S u ∧ T u) oi v a → S w → T w → (∀ p ∈ L,p.2 w) →
   wpAnyL R P md ops Q fuel (listed.setIfInBounds i true) (a.put oi.dst v) w S ((i,T) :: L) → wpAnyL R P md ops Q (fuel + 1) listed a w S L := by
 intro fuel
 induction fuel with
 | zero =>
  intro listed a w S T L _ hr hy hS hT hL H
  refine ⟨fun h=>(by rw [h] at hr; cases hr),fun j hj=>?_⟩
  by_cases hji:j = i
  ·subst hji; exact YieldsIf.goOp hi hdi hy ⟨hS,hT⟩ ⟨S,fun _ h=>h,hS,fun p hp _=>hL p hp,H⟩
  ·have := ready_mono hj hji
   rw [H.1] at this
   cases this
 | succ fuel ih =>
  intro listed a w S T L hfree hr hy hS hT hL H
  refine ⟨fun h=>(by rw [h] at hr; cases hr),fun j hj=>?_⟩
  by_cases hji:j = i
  ·subst hji
   refine YieldsIf.goOp hi hdi hy ⟨hS,hT⟩ ⟨S,fun _ h=>h,hS,fun p hp _=>hL p hp,wpAnyL_weaken (fun _ h=>h) (fun p hp=>?_) H⟩
   exact .inr ⟨p,List.mem_cons_of_mem _ (List.mem_filter.1 hp).1,rfl,fun _ h=>h⟩
  ·have h1 := H.2 j (ready_mono hj hji)
   obtain ⟨hjun,oj,hoj,hall⟩ := mem_ready.1 hj
   have hnot:∀ e ∈ oj.after,Region.binds md e = true → e.on ≠ i := fun e he hb heq=>by
    have h1 := hall e he hb
    have h0 := (mem_ready.1 hr).1
    rw [heq] at h1
    rcases Nat.lt_or_ge i listed.size with h' | h'
    ·simp [h'] at h0 h1; rw [h0] at h1; cases h1
    ·simp [Array.getElem?_eq_none h'] at h1
   have hw:waits md ops j i = false := by
    unfold waits waitsFor
    simp only [hoj]
    rw [Array.any_eq_false']
    intro e he h
    simp only [Bool.and_eq_true] at h
    exact hnot e he h.1 (Nat.eq_of_beq_eq_true h.2)
   have h2 := goOp_putIf hoj (hfree j oj hoj hji hjun hnot) (fun cs b=>hsel i oi cs b hi) (fun cs b=>hsel j oj cs b hoj) hQ hy h1
   have hfree':∀ k ok,ops[k]? = some ok → k ≠ i → (listed.setIfInBounds j true).getD k true = false →
     (∀ e ∈ ok.after,Region.binds md e = true → e.on ≠ i) → oi.apart ops ok = true := fun k ok hk hki hun hno=>by
    refine hfree k ok hk hki ?_ hno
    by_cases hjk:j = k
    ·subst hjk; exact hjun
    ·rw [getD_set_ne true hjk] at hun; exact hun
   refine goOp_mono (fun a' w' h3=>?_) h2
   obtain ⟨h4,S',h5,h6,h7,h8⟩ := h3
   refine ⟨S',h5,h6,fun p hp=>h7 p (List.mem_cons_of_mem _ hp),ih (listed.setIfInBounds j true) a' w' S' T _ hfree' (ready_mono hr (Ne.symm hji)) (YieldsIf.less (fun u hu=>⟨h5 u hu.1,hu.2⟩) h4) h6 (h7 _ List.mem_cons_self hw) (fun p hp=>?_) ?_⟩
   ·obtain ⟨hp1,hp2⟩ := List.mem_filter.1 hp
    exact h7 p (List.mem_cons_of_mem _ hp1) (by simpa using hp2)
   ·rw [Array.setIfInBounds_comm _ _ hji]
    rw [List.filter_cons,if_pos (by simp [hw])] at h8
    exact h8
theorem wpAnyL_take {i:Nat} {oi:Oper} {v:Value} {fuel:Nat} {listed:Array Bool} {a:Act} {w:World} {S T:World → Prop} {L:Pend} (hi:ops[i]? = some oi) (hdi:noDefer oi.op = true)
  (hs:Region.noSelect ops = true) (hf:Region.free md ops listed i = true) (hr:i ∈ Region.ready md ops listed)
  (hQ:∀ c a w,Q (.panic c) (a.put oi.dst v) w → Q (.panic c) a w) (hy:YieldsIf P ops (fun u=>S u ∧ T u) oi v a) (hS:S w) (hT:T w) (hL:∀ p ∈ L,p.2 w)
  (h:wpAnyL R P md ops Q fuel (listed.setIfInBounds i true) (a.put oi.dst v) w S ((i,T) :: L)):wpAnyL R P md ops Q (fuel + 1) listed a w S L :=
 wpAnyL_first hi hdi (Region.noSelect_spec hs) hQ fuel listed a w S T L (Region.free_spec hi hf) hr hy hS hT hL h
end
def ImmAt (M:Imm) (u:World):Prop := ∀ b o,M b = some o → u.heap[b]? = some o
def Agree (ρ:Env) (R:List Nat) (w u:World):Prop := ∀ s ∈ R,∀ p,ρ s = some p → u.heap[p.block]? = w.heap[p.block]?
def loadSid (ev:Operand → SV) (o:Oper):List Nat := match o.op with
 | .load _ a=>match ev a with
  | .ptr s ..=>[s]
  | _=>[]
 | .lookup _ m _ _=>match ev m with
  | .mp s=>[s]
  | _=>[]
 | _=>[]
def liveAt (H:List SObj) (s:Nat):Bool := match H[s]? with
 | some o=>o.live
 | none=>false
def pickH (hl:Bool) (ops:Array Oper) (listed:Array Bool):Option Nat :=
 (Region.ready .any ops listed).find? fun i=>match ops[i]? with
  | some o=>hkind o.op && (hl || (match o.op with | .load ..=>false | .lookup ..=>false | _=>true)) && Region.free .any ops listed i
  | none=>false
def keeps (o:Oper) (pend:List (Nat × List Nat)) (tch fg:List Nat):Bool :=
 pend.all fun q=>waitsFor .any o q.1 || q.2.all fun r=>!tch.contains r && !fg.contains r
def pendAfter (o:Oper) (pend:List (Nat × List Nat)):List (Nat × List Nat) := pend.filter fun q=>!waitsFor .any o q.1
def addPend (i:Nat) (R:List Nat) (pend:List (Nat × List Nat)):List (Nat × List Nat) := match R with
 | []=>pend
 | _=>(i,R) :: pend
def anyV (cx:Cx) (nt:Nat) (hl:Bool) (ops:Array Oper):Nat → Array Bool → List (Nat × List Nat) → St → (St → Prop) → Prop
 | 0,listed,pend,s,K=>Region.ready .any ops listed = [] ∧ K s
 | fuel + 1,listed,pend,s,K=>match pickH hl ops listed with
  | some i=>match ops[i]? with
   | none=>False
   | some o=>dstOk nt o.dst = true ∧ guardV ops o s
     (fun s'=>((loadSid s'.ev o).all (liveAt s'.H) && hdyn (loadSid s'.ev o) s'.ev o) = true ∧
      (sop cx.P cx.tab s'.H s'.ev o).holds s'.H fun x _ _ _=>anyV cx nt hl ops fuel (listed.setIfInBounds i true) (addPend i (loadSid s'.ev o) pend) (s'.put o.dst x) K)
     (fun s'=>anyV cx nt hl ops fuel (listed.setIfInBounds i true) pend (s'.put o.dst (.lit undef)) K)
  | none=>match Region.ready .any ops listed with
   | []=>K s
   | r :: rs=>∀ i ∈ r :: rs,match ops[i]? with
    | none=>False
    | some o=>guardV ops o s
      (fun s'=>noDefer o.op = true ∧ opP cx s'.ev s'.H o fun x H tch fg=>(keeps o pend tch fg = true ∧ s'.adv nt o.dst (fun s''=>anyV cx nt hl ops fuel (listed.setIfInBounds i true) (pendAfter o pend) s'' K) x H tch fg))
      (fun s'=>dstOk nt o.dst = true ∧ anyV cx nt hl ops fuel (listed.setIfInBounds i true) (pendAfter o pend) (s'.put o.dst (.lit undef)) K)
theorem Goes.put {M:Imm} {ρ:Env} {s:St} {w:World} (dst:Option Tmp) (x:SV):Goes M ρ s w M ρ (s.put dst x) w := by
 cases dst with
 | none=>exact Goes.refl ..
 | some d=>exact ⟨Fr.refl ..,rfl,fun _ h=>h,fun _ h=>h⟩
theorem put_H (s:St) (dst:Option Tmp) (x:SV):(s.put dst x).H = s.H := rfl
def pendAt (ρ:Env) (w:World) (pend:List (Nat × List Nat)):Pend := pend.map fun q=>(q.1,Agree ρ q.2 w)
theorem Agree.self (ρ:Env) (R:List Nat) (w:World):Agree ρ R w w := fun _ _ _ _=>rfl
theorem hkind_noDefer {o:Oper} (h:hkind o.op = true):noDefer o.op = true := by
 cases e:o.op <;> rw [e] at h <;> first | rfl | cases h
theorem anyV_sound {cx:Cx} (hcx:cx.Ok) {R:Option Nat} {B:Nat → Value} {nt:Nat} {hl:Bool} {ops:Array Oper} (hns:Region.noSelect ops = true) {M0:Imm} {ρ0:Env} {s0:St} {w0:World} {K:St → Prop} :
  ∀ (fuel:Nat) (listed:Array Bool) (pend:List (Nat × List Nat)) (s:St) (M:Imm) (ρ:Env) (a:Act) (w:World),anyV cx nt hl ops fuel listed pend s K → Good B nt M ρ s a w → Goes M0 ρ0 s0 w0 M ρ s w →
   (∀ q ∈ pend,∀ r ∈ q.2,liveAt s.H r = true) →
   wpAnyL R cx.P .any ops (fun e a' w'=>e = .normal ∧ ∃ M' ρ' s',K s' ∧ Good B nt M' ρ' s' a' w' ∧ Goes M0 ρ0 s0 w0 M' ρ' s' w') fuel listed a w (ImmAt M) (pendAt ρ w pend) := by
 intro fuel
 induction fuel with
 | zero=>intro listed pend s M ρ a w h hg go _; exact ⟨h.1,rfl,M,ρ,s,h.2,hg,go⟩
 | succ fuel ih =>
  intro listed pend s M ρ a w h hg go hR
  have selfL:∀ p ∈ pendAt ρ w pend,p.2 w := fun p hp=>by
   obtain ⟨q,_,rfl⟩ := List.mem_map.1 hp
   exact Agree.self ρ q.2 w
  unfold anyV at h
  split at h
  ·rename_i i hp
   have hmem := List.mem_of_find?_eq_some hp
   have hcond := List.find?_some hp
   split at h
   ·exact h.elim
   ·rename_i o ho
    simp only [ho,Bool.and_eq_true] at hcond
    obtain ⟨⟨hk,_⟩,hfree⟩ := hcond
    obtain ⟨hdst,h⟩ := h
    rcases guardV_sound hg h with ⟨hw,s',⟨hb,hrun⟩,hg',go',hH⟩ | ⟨hw,s',hskip,hg',go',hH⟩
    ·simp only [Bool.and_eq_true] at hb
     obtain ⟨hlv,hdyn'⟩ := hb
     obtain ⟨v,x,hk',hx,hr⟩ := hop_sound (Sw := fun u=>ImmAt M u ∧ Agree ρ (loadSid s'.ev o) w u) hcx.tab hg'.mem (fun x=>hg'.ev x) (fun u hu=>hu.1) (fun u hu=>hu.2) hk hdyn' hrun
     refine wpAnyL_take (T := Agree ρ (loadSid s'.ev o) w) ho (hkind_noDefer hk) hns hfree hmem (fun c a w hq=>(by cases hq.1)) (.inl ⟨hw,hr⟩) hg.mem.imm (Agree.self ρ _ w) selfL ?_
     refine wpAnyL_weaken (L2 := pendAt ρ w (addPend i (loadSid s'.ev o) pend)) (fun _ h=>h) (fun p hp=>?_) (ih _ _ _ M ρ _ w hk' (hg'.put hdst hx) ((go.trans go').trans (Goes.put _ _)) fun q hq r hr'=>?_)
     ·unfold addPend
      rcases List.mem_cons.1 hp with rfl | hp
      ·split
       ·rename_i e; refine .inl fun u=>?_
        show Agree ρ (loadSid s'.ev o) w u
        rw [e]; intro r hr; cases hr
       ·exact .inr ⟨_,List.mem_cons_self,rfl,fun _ h=>h⟩
      ·split
       ·exact .inr ⟨p,hp,rfl,fun _ h=>h⟩
       ·exact .inr ⟨p,List.mem_cons_of_mem _ hp,rfl,fun _ h=>h⟩
     ·rw [put_H]
      have hold:∀ q ∈ pend,∀ r ∈ q.2,liveAt s'.H r = true := fun q hq r hr'=>by rw [hH]; exact hR q hq r hr'
      unfold addPend at hq
      split at hq
      ·exact hold q hq r hr'
      ·rcases List.mem_cons.1 hq with rfl | hq
       ·exact List.all_eq_true.1 hlv r hr'
       ·exact hold q hq r hr'
    ·refine wpAnyL_take (v := undef) (T := fun _=>True) ho (hkind_noDefer hk) hns hfree hmem (fun c a w hq=>(by cases hq.1)) (.inr ⟨hw,rfl⟩) hg.mem.imm trivial selfL ?_
     refine wpAnyL_weaken (L2 := pendAt ρ w pend) (fun _ h=>h) (fun p hp=>?_) (ih _ _ _ M ρ _ w hskip (hg'.put hdst (.pv (.lit _))) ((go.trans go').trans (Goes.put _ _)) fun q hq r hr'=>?_)
     ·rcases List.mem_cons.1 hp with rfl | hp
      ·exact .inl fun _=>trivial
      ·exact .inr ⟨p,hp,rfl,fun _ h=>h⟩
     ·rw [put_H,hH]; exact hR q hq r hr'
  ·split at h
   ·rename_i hr
    exact ⟨fun _=>⟨rfl,M,ρ,s,h,hg,go⟩,fun i hi=>by rw [hr] at hi; cases hi⟩
   ·rename_i r0 rs hr
    refine ⟨fun hn=>(by rw [hr] at hn; cases hn),fun i hi=>?_⟩
    rw [hr] at hi
    have h := h i hi
    split at h
    ·exact h.elim
    ·rename_i o ho
     unfold goOp
     simp only [ho]
     have hwt:∀ k,waits .any ops i k = waitsFor .any o k := fun k=>by unfold waits; simp only [ho]
     rcases guardV_sound hg h with ⟨hw,s',⟨hd,hrun⟩,hg',go',hH⟩ | ⟨hw,s',⟨hdst,hskip⟩,hg',go',hH⟩
     ·rw [if_pos hw]
      refine ⟨hd,(opP_sound hcx hg'.mem (fun x=>hg'.ev x) hrun).wpIn hd ?_⟩
      rintro v w' ⟨x,H',tch,fg,M',ρ',⟨hdis,hadv⟩,hx,hm,hf⟩
      obtain ⟨sn,hk,hsn,g1,g2⟩ := adv_good hg' hadv hx hm hf
      have keepR:∀ q ∈ pend,waitsFor .any o q.1 = false → ∀ r ∈ q.2,(∃ o',H'[r]? = some o' ∧ o'.live = true) ∧ ∀ p,ρ r = some p → ρ' r = some p ∧ w'.heap[p.block]? = w.heap[p.block]? := fun q hq hwq r hr'=>by
       have h0 := List.all_eq_true.1 hdis q hq
       rw [hwq,Bool.false_or] at h0
       have h1 := List.all_eq_true.1 h0 r hr'
       simp only [Bool.and_eq_true,Bool.not_eq_true',List.contains_eq_mem,decide_eq_false_iff_not] at h1
       have h2 := hR q hq r hr'
       unfold liveAt at h2
       rw [← hH] at h2
       split at h2
       ·rename_i o' ho'
        exact hf.keep r o' (List.getElem?_eq_some_iff.1 ho').1 h1.1 ho' h2
       ·cases h2
      refine ⟨ImmAt M',fun u hu b ob hb=>hu b ob (hf.imm b ob hb),hm.imm,fun p hp hwp=>?_,?_⟩
      ·obtain ⟨q,hq,rfl⟩ := List.mem_map.1 hp
       rw [hwt] at hwp
       exact fun r hr' p hp'=>((keepR q hq hwp r hr').2 p hp').2
      ·refine wpAnyL_weaken (fun _ h=>h) (fun p hp=>?_) (ih _ _ _ M' ρ' _ w' hk g1 ((go.trans go').trans g2) fun q hq r hr'=>?_)
       ·obtain ⟨hp1,hp2⟩ := List.mem_filter.1 hp
        obtain ⟨q,hq,rfl⟩ := List.mem_map.1 hp1
        simp only [hwt,Bool.not_eq_true'] at hp2
        refine .inr ⟨(q.1,Agree ρ' q.2 w'),List.mem_map.2 ⟨q,List.mem_filter.2 ⟨hq,by simp [hp2]⟩,rfl⟩,rfl,fun u hu r hr' p hp'=>?_⟩
        obtain ⟨_,h2⟩ := keepR q hq hp2 r hr'
        obtain ⟨h3,h4⟩ := h2 p hp'
        rw [hu r hr' p h3,h4]
       ·obtain ⟨hq1,hq2⟩ := List.mem_filter.1 hq
        obtain ⟨⟨o',h1,h2⟩,_⟩ := keepR q hq1 (by simpa using hq2) r hr'
        rw [hsn]; simp [liveAt,h1,h2]
     ·rw [if_neg (by simp [hw])]
      refine ⟨ImmAt M,fun _ h=>h,hg.mem.imm,fun p hp _=>selfL p hp,?_⟩
      refine wpAnyL_weaken (fun _ h=>h) (fun p hp=>?_) (ih _ _ _ M ρ _ w hskip (hg'.put hdst (.pv (.lit _))) ((go.trans go').trans (Goes.put _ _)) fun q hq r hr'=>?_)
      ·obtain ⟨hp1,hp2⟩ := List.mem_filter.1 hp
       obtain ⟨q,hq,rfl⟩ := List.mem_map.1 hp1
       simp only [hwt,Bool.not_eq_true'] at hp2
       exact .inr ⟨(q.1,Agree ρ q.2 w),List.mem_map.2 ⟨q,List.mem_filter.2 ⟨hq,by simp [hp2]⟩,rfl⟩,rfl,fun _ h=>h⟩
      ·rw [put_H,hH]; exact hR q (List.mem_filter.1 hq).1 r hr'
theorem Mem.of_heap {M:Imm} {ρ:Env} {H:List SObj} {w w':World} (hw:w'.heap = w.heap) (h:Mem M ρ H w):Mem M ρ H w' :=
 ⟨fun b o hb=>by rw [hw]; exact h.imm b o hb,fun s o ho=>(h.own s o ho).mono M.le_refl ρ.le_refl rfl fun p _=>by rw [hw],h.sep,h.dis,h.fresh⟩
theorem Fr.of_heap {M:Imm} {ρ:Env} {H:List SObj} {w w':World} (hw:w'.heap = w.heap) (n:Nat) (t f:List Nat) (io:w'.os = w.os ∧ w'.output = w.output := by exact ⟨rfl,rfl⟩):Fr M ρ H w M ρ H w' n t f :=
 ⟨M.le_refl,fun b o h h'=>by (rw [h] at h'; cases h'),fun b h=>.inr h,fun _ _ _=>by rw [hw],by rw [hw]; exact Nat.le_refl _,fun _ o _ _ h hl=>⟨⟨o,h,hl⟩,fun _ hp=>⟨hp,by rw [hw]⟩⟩,fun _ _ _=>rfl,io⟩
theorem WPs_draw {cx:Cx} (hcx:cx.Ok) {R:Option Nat} {nt id:Nat} {hl:Bool} {ops:Array Oper} {Q:Exit → St → Prop} {s:St} (hns:Region.noSelect ops = true)
  (h:anyV cx nt hl ops ops.size (Array.replicate ops.size false) [] s (Q .normal)):WPs R cx.P nt (.region id ops true) Q s := by
 intro B M ρ a w hg
 refine wpIn_mono (wpIn_region_draw (Q := fun e a' w'=>e = .normal ∧ ∃ M' ρ' s',Q .normal s' ∧ Good B nt M' ρ' s' a' w' ∧ Goes M ρ s w M' ρ' s' w') fun t=>?_) ?_
 ·simp only [Region.schedule,hcx.mix,Bool.true_or,if_true]
  exact wpAnyL_sound ops.size t _ a _ _ _ (anyV_sound hcx hns (M0 := M) (ρ0 := ρ) (s0 := s) (w0 := w) _ _ _ s M ρ a { w with drawn := w.drawn + 1 } h
   ⟨hg.tm,hg.sz,Mem.of_heap (w := w) rfl hg.mem,hg.df,hg.mks,hg.nle,hg.fix⟩ ⟨Fr.of_heap (w := w) (w' := { w with drawn := w.drawn + 1 }) rfl _ _ _,rfl,fun _ h=>h,fun _ h=>h⟩ (fun q hq=>by cases hq))
 ·rintro e a' w' ⟨rfl,M',ρ',s',hk,g,go⟩
  exact ⟨M',ρ',s',hk,g,go⟩
end Go.Sx
end
namespace Go.Sx
open Go
def entryT:TT → Nat → List SV → TT
 | T,_,[]=>T
 | T,i,x :: xs=>entryT (T.set i x) (i + 1) xs
theorem entryT_lookup:∀ (xs:List SV) (T:TT) (i t:Nat) (x:SV),(∀ t x,T.get t = some x → t < i) → (entryT T i xs).get t = some x → T.get t = some x ∨ (i ≤ t ∧ xs[t - i]? = some x)
 | [],T,i,t,x,_,h=>.inl h
 | y :: xs,T,i,t,x,hT,h=>by
  rcases entryT_lookup xs (T.set i y) (i + 1) t x (fun t x h=>by
    rcases TT.get_set _ _ _ _ _ h with ⟨e,_⟩ | ⟨_,h⟩
    ·omega
    ·have := hT t x h; omega) h with h | ⟨h1,h2⟩
  ·rcases TT.get_set _ _ _ _ _ h with ⟨rfl,rfl⟩ | ⟨_,h⟩
   ·exact .inr ⟨Nat.le_refl _,by simp⟩
   ·exact .inl h
  ·refine .inr ⟨by omega,?_⟩
   rw [show t - i = (t - (i + 1)) + 1 by omega]; simpa using h2
def St.entry (args:List SV) (H:List SObj):St := { T := entryT (.full 8) 0 args,H := H,n0 := H.length,tch := [],fg := [],marks := [],er := [] }
theorem Good.entry {M:Imm} {ρ:Env} {H:List SObj} {w:World} {vs:List Value} {args:List SV} {nt:Nat} (hm:Mem M ρ H w) (hr:Reps M ρ vs args) (hn:args.length ≤ nt) :
  Good (fun t=>(vs.toArray ++ Array.replicate (nt - vs.toArray.size) undef).getD t undef) nt M ρ (.entry args H) { tmps := vs.toArray ++ Array.replicate (nt - vs.toArray.size) undef,defers := [] } w := by
 refine ⟨fun t x hx=>?_,?_,hm,⟨rfl,fun i d s h=>by simp at h⟩,fun m h=>by simp [St.entry] at h,Nat.le_refl _,fun _ _=>rfl⟩
 ·rcases entryT_lookup args (.full 8) 0 t x (fun t x h=>by rw [TT.get_full] at h; cases h) hx with h2 | ⟨_,h2⟩
  ·rw [TT.get_full] at h2; cases h2
  simp only [Nat.sub_zero] at h2
  have hlt:t < args.length := (List.getElem?_eq_some_iff.1 h2).1
  have hlt':t < vs.length := by rw [hr.1]; exact hlt
  refine hr.2 t _ x ?_ h2
  simp [Array.getD_eq_getD_getElem?,hlt',Array.getElem?_append]
 ·have := hr.1
  simp; omega
def resP (cx:Cx) (s:St):List ResultVar → (List SV → Prop) → Prop
 | [],K=>K []
 | .tmp t :: rs,K=>resP cx s rs fun l=>K (s.ev (.tmp t) :: l)
 | .cell a t :: rs,K=>(sLoad cx.tab s.H t (s.ev (.tmp a))).holds s.H fun x _ _ _=>resP cx s rs fun l=>K (x :: l)
def retV:List SV → SV
 | [x]=>x
 | l=>.tup l
def getRes (tmps:Array Value):ResultVar → Sem Value
 | .tmp t=>pure (tmps.getD t undef)
 | .cell a t=>do loadVar t (← asAddr (tmps.getD a undef))
theorem results_eq (fn:Func) (tmps:Array Value):results fn tmps = (do let vs ← fn.results.mapM (getRes tmps); pure (if h:vs.size = 1 then vs[0] else .tuple vs)) := by
 unfold results
 congr 2
theorem run_mapM_cons {α:Type} {P:Program} {w:World} (f:α → Sem Value) (x:α) (xs:List α) {v:Value} {vs:List Value} (h:(f x).run P w = .ok v w) (hs:(xs.mapM f).run P w = .ok vs w):((x :: xs).mapM f).run P w = .ok (v :: vs) w := by
 simp only [List.mapM_cons,Sem.run_bind,h,Result.andThen_ok,hs,Sem.run_pure]
theorem resP_sound {cx:Cx} (hcx:cx.Ok) {B:Nat → Value} {nt:Nat} {M:Imm} {ρ:Env} {s:St} {a:Act} {w:World} (hg:Good B nt M ρ s a w):∀ (rs:List ResultVar) (K:List SV → Prop),resP cx s rs K →
  ∃ (vs:List Value) (l:List SV),K l ∧ Reps M ρ vs l ∧ (rs.mapM (getRes a.tmps)).run cx.P w = .ok vs w
 | [],K,h=>⟨[],[],h,⟨rfl,fun i v x hv=>by simp at hv⟩,by simp⟩
 | .tmp t :: rs,K,h=>by
  obtain ⟨vs,l,hk,hr,hrun⟩ := resP_sound hcx hg rs _ h
  refine ⟨a.tmps.getD t undef :: vs,_,hk,⟨by simp [hr.1],fun i v x hv hx=>?_⟩,run_mapM_cons _ _ _ rfl hrun⟩
  match i with
  | 0=>simp only [List.getElem?_cons_zero,Option.some.injEq] at hv hx; subst hv; subst hx; exact hg.ev (.tmp t)
  | i + 1=>exact hr.2 i v x (by simpa using hv) (by simpa using hx)
 | .cell a' t :: rs,K,h=>by
  have hin:∀ s' sz r j,s.ev (.tmp a') = .ptr s' sz r j → s' ∈ (List.range s.H.length) := fun s' sz r j e=>by
   simp only [resP,e] at h
   unfold sLoad at h
   split at h
   ·exact h.elim
   ·dsimp only at h
    split at h
    ·exact h.elim
    ·rename_i o ho; simp; exact (List.getElem?_eq_some_iff.1 ho).1
  obtain ⟨v,x,hk,hx,hrun⟩ := sLoad_soundS (Sw := fun u=>u = w) hcx.tab hg.mem (fun u hu=>by rw [hu]; exact hg.mem.imm) (R := List.range s.H.length) (fun u hu _ _ _ _=>by rw [hu]) (hg.ev (.tmp a')) hin h
  have hrun := hrun w rfl
  obtain ⟨vs,l,hk2,hr,hrun2⟩ := resP_sound hcx hg rs _ hk
  refine ⟨v :: vs,_,hk2,⟨by simp [hr.1],fun i u y hu hy=>?_⟩,run_mapM_cons _ _ _ ?_ hrun2⟩
  ·match i with
   | 0=>simp only [List.getElem?_cons_zero,Option.some.injEq] at hu hy; subst hu; subst hy; exact hx
   | i + 1=>exact hr.2 i u y (by simpa using hu) (by simpa using hy)
  ·have e:a.eval (.tmp a') = a.tmps.getD a' undef := rfl
   rw [e] at hrun
   show (do loadVar t (← asAddr (a.tmps.getD a' undef)):Sem Value).run cx.P w = .ok v w
   generalize a.tmps.getD a' undef = p at hrun
   cases p with
   | pointer q=>cases q with
    | some q=>simpa [Instr.loadAt,Instr.sureAddr,asAddr,Sem.run_bind] using hrun
    | none=>simp [Instr.loadAt,Instr.sureAddr,Sem.run_bind] at hrun
   | _=>simp [Instr.loadAt,Instr.sureAddr,Sem.run_bind] at hrun
theorem Mem.turn {M:Imm} {ρ:Env} {H:List SObj} {w:World} {s:Nat} {o so:SObj} {p:Place} {ob:Obj} (h:Mem M ρ H w) (hs:H[s]? = some o) (hl:o.live = true) (hp:ρ s = some p) (hlo:so.live = true)
  (ho:OwnAt M ρ (w.putObj p.block ob) s so):Mem M ρ (H.set s so) (w.putObj p.block ob) ∧ Fr M ρ H w M ρ (H.set s so) (w.putObj p.block ob) H.length [s] [] :=
 h.put hs hl hp (fun b hb=>World.putObj_heap_other hb) World.putObj_size hlo ho
def shut:List Nat → List SObj → Option (List SObj)
 | [],H=>some H
 | m :: ms,H=>match H[m]? with
  | some (.dfr false)=>shut ms (H.set m (.dfr true))
  | _=>none
theorem shut_len:∀ {ms:List Nat} {H H':List SObj},shut ms H = some H' → H'.length = H.length
 | [],H,H',h=>by simp only [shut,Option.some.injEq] at h; rw [h]
 | m :: ms,H,H',h=>by
  simp only [shut] at h
  split at h
  ·rw [shut_len h]; simp
  ·cases h
theorem leaves_shut {P:Program} {fn:Func} {tmps:Array Value} {E:Ending → World → Prop} {M:Imm} {ρ:Env} {H0:List SObj} {w0:World} {n:Nat} :
  ∀ (ms:List Nat) (ds:List Deferred) (H H':List SObj) (w:World),shut ms H = some H' → Mem M ρ H w → DefersAre ρ ms ds → n ≤ H.length →
   (∀ w',Mem M ρ H' w' → Fr M ρ H w M ρ H' w' n ms [] → LeavesIn Fence.wide 0 P fn tmps E [] .returning w') → LeavesInM Fence.wide 0 P fn tmps E ds .returning w
 | [],ds,H,H',w,hs,hm,hd,hn,h=>by
  cases hs
  have:ds = [] := List.eq_nil_of_length_eq_zero hd.1
  subst this
  exact h w hm (Fr.refl ..)
 | m :: ms,[],H,H',w,hs,hm,hd,hn,h=>by have := hd.1; simp at this
 | m :: ms,d :: ds,H,H',w,hs,hm,hd,hn,h=>by
  unfold shut at hs
  split at hs
  ·rename_i hH
   obtain ⟨p,hp,rfl⟩ := hd.2 0 d m rfl rfl
   obtain ⟨q,h1,h2⟩ := hm.own m _ hH
   rw [hp] at h1; cases h1
   obtain ⟨m1,f1⟩ := hm.turn (so := .dfr true) (ob := .deferred none) hH rfl hp rfl ⟨p,hp,World.putObj_heap_same (Array.getElem?_eq_some_iff.1 h2).1⟩
   refine ⟨by simp,.inl ⟨p.block,_,rfl,run_takeDeferred h2,?_⟩⟩
   refine leaves_shut (H0 := H0) (w0 := w0) (n := n) ms ds _ H' _ hs m1 ⟨by have := hd.1; simpa using this,fun i d s hi hk=>hd.2 (i + 1) d s (by simpa using hi) (by simpa using hk)⟩ (by simpa using hn) fun w' hm' hf=>?_
   refine h w' hm' ((f1.weaken hn (fun _ _ h=>h) (fun _ _ h=>h)).trans hf (fun x hx=>?_) (fun x hx=>List.mem_cons_of_mem _ hx) (fun x hx=>hx) (fun x hx=>hx))
   rw [List.mem_singleton.1 hx]; exact List.mem_cons_self
  ·cases hs
theorem SCall_of_WPs {cx:Cx} (hcx:cx.Ok) {f:FuncId} {fn:Func} {c:Code} {args:List SV} {H:List SObj} {K:Post} (hf:cx.fns.lookup f = some fn) (hb:fn.body = some c) (hn:args.length ≤ fn.ntmps)
  (h:WPs none cx.P fn.ntmps c (fun e s=>(e = .normal ∨ e = .ret) ∧ (H.length ≤ s.H.length ∨ s.marks = []) ∧ ∃ H',shut s.marks s.H = some H' ∧ resP cx { s with H := H',marks := [] } fn.results.toList fun l=>K (retV l) H' s.tch s.fg) (.entry args H)):SCall cx.P f args H K := by
 intro M ρ w vs hm hr
 obtain ⟨f1,_⟩ := hcx.fn hf
 refine callsIn_of_wp_marks f1 hb trivial ?_
 have h0 := h _ M ρ _ w (Good.entry hm hr hn)
 rw [FW_none] at h0
 refine wpIn_mono h0 ?_
 rintro e a' w' ⟨M',ρ',s',⟨he,hlen,H',hshut,hres⟩,hg,go⟩
 have hmk:∀ m ∈ s'.marks,H.length ≤ m := fun m hm=>by have := hg.mks m hm; rw [go.n0] at this; exact this
 have fin:∀ w'',Mem M' ρ' H' w'' → Fr M ρ H w M' ρ' H' w'' H.length s'.tch s'.fg → LeavesIn Fence.wide 0 cx.P fn a'.tmps (fun e w'=>∃ v r H' M' ρ' tch fg,e = .returned v ∧ K r H' tch fg ∧ SRep M' ρ' v r ∧ Mem M' ρ' H' w' ∧ Fr M ρ H w M' ρ' H' w' H.length tch fg) [] .returning w'' := by
  intro w'' hm'' hfr
  have hg':Good _ fn.ntmps M' ρ' { s' with H := H',marks := [] } { tmps := a'.tmps,defers := [] } w'' := ⟨hg.tm,hg.sz,hm'',⟨rfl,fun i d s h=>by simp at h⟩,(fun m h=>by simp at h),(show s'.n0 ≤ H'.length by rw [shut_len hshut]; exact hg.nle),hg.fix⟩
  obtain ⟨vs',l,hk,hreps,hrun⟩ := resP_sound hcx hg' _ _ hres
  have hv:∃ v,(results fn a'.tmps).run cx.P w'' = .ok v w'' ∧ SRep M' ρ' v (retV l) := by
   have hrun':(fn.results.mapM (getRes a'.tmps)).run cx.P w'' = .ok vs'.toArray w'' := by
    rw [Array.mapM_eq_mapM_toList,Sem.run_map,hrun]; rfl
   refine ⟨if h:vs'.toArray.size = 1 then vs'.toArray[0] else .tuple vs'.toArray,?_,?_⟩
   ·rw [results_eq,Sem.run_bind,hrun']; rfl
   ·obtain ⟨hl1,hl2⟩ := hreps
    match vs',l,hl1,hl2 with
    | [v],[x],_,hl2=>exact hl2 0 v x rfl rfl
    | [],[],_,hl2=>simp [retV]; exact .tup _ _ rfl fun i v x hv=>by simp at hv
    | v :: v2 :: vs,x :: y :: l,hl1,hl2 =>
     simp [retV]
     exact .tup _ _ (by simpa using hl1) fun i u z hu hz=>hl2 i u z (by simpa using hu) hz
    | [],_ :: _,hl1,_=>simp at hl1
    | [_],[],hl1,_=>simp at hl1
    | [_],_ :: _ :: _,hl1,_=>simp at hl1
    | _ :: _ :: _,[],hl1,_=>simp at hl1
    | _ :: _ :: _,[_],hl1,_=>simp at hl1
  obtain ⟨v,hv1,hv2⟩ := hv
  exact ⟨v,hv1,v,_,_,M',ρ',_,_,rfl,hk,hv2,hm'',hfr⟩
 have hfr:Fr M ρ H w M' ρ' s'.H w' H.length s'.tch s'.fg := go.fr
 have out:LeavesInM Fence.wide 0 cx.P fn a'.tmps (fun e w'=>∃ v r H' M' ρ' tch fg,e = .returned v ∧ K r H' tch fg ∧ SRep M' ρ' v r ∧ Mem M' ρ' H' w' ∧ Fr M ρ H w M' ρ' H' w' H.length tch fg) a'.defers .returning w' := by
  by_cases hmk0:s'.marks = []
  ·rw [hmk0] at hshut
   cases hshut
   have hd:a'.defers = [] := by have := hg.df.1; rw [hmk0] at this; exact List.eq_nil_of_length_eq_zero this
   rw [hd]
   exact fin w' hg.mem hfr
  ·have hlen := hlen.resolve_right hmk0
   refine leaves_shut (H0 := H) (w0 := w) (n := H.length) s'.marks a'.defers s'.H H' w' hshut hg.mem hg.df hlen fun w'' hm'' hf=>?_
   have hf':Fr M' ρ' s'.H w' M' ρ' H' w'' H.length [] [] := hf.weaken (Nat.le_refl _) (fun x hx hx'=>by have := hmk x hx'; omega) (fun _ _ h=>h)
   exact fin w'' hm'' (hfr.trans hf' (fun _ h=>h) (fun x hx=>by cases hx) (fun _ h=>h) (fun x hx=>by cases hx))
 rcases he with rfl | rfl
 ·exact out
 ·exact out
def junk (m n:Nat):List Nat := (List.range n).filter fun i=>decide (m ≤ i)
def Env.cut (m:Nat) (ρ:Env):Env := fun s=>if s < m then ρ s else none
theorem cut_leBut {M:Imm} {ρ:Env} {H:List SObj} {w:World} (hm:Mem M ρ H w) (m:Nat):Env.leBut (junk m H.length) ρ (ρ.cut m) := by
 intro s p hs hp
 unfold Env.cut
 split
 ·exact hp
 ·rename_i h
  rcases Nat.lt_or_ge s H.length with h' | h'
  ·simp [junk,h'] at hs; omega
  ·rw [hm.fresh s h'] at hp; cases hp
theorem forget_live (d:List Nat) (o:SObj):(o.forget d).live = o.live := by cases o <;> rfl
def Unrolled (R:Option Nat) (P:Program) (nt:Nat) (c:Code) (Q:Exit → St → Prop):Nat → St → Prop
 | 0,_=>False
 | n + 1,s=>WPs R P nt c (seqQ (fun s'=>∃ m,m ≤ n ∧ Unrolled R P nt c Q n s') Q) s
theorem WPs_unrolled {R:Option Nat} {P:Program} {nt:Nat} {c:Code} {Q:Exit → St → Prop} {n:Nat} {s:St} (h:Unrolled R P nt c Q n s):WPs R P nt (.loop c) Q s := by
 refine WPs_loop (Unrolled R P nt c Q) h fun k s hk=>?_
 cases k with
 | zero=>exact hk.elim
 | succ k =>
  refine WPs.mono hk fun e s'=>?_
  cases e with
  | normal=>rintro ⟨m,hm,h⟩; exact ⟨k,Nat.lt_succ_self k,h⟩
  | _=>exact id
end Go.Sx
