/- Part I of the own logic: maps and ranges over strings. Part J of the own logic: one operation. -/
import Derived.Test.YtlfcbhjoldgijaaGreatXSxH
import Derived.Maps.RangeRun
import Derived.Orders
import Derived.IntWalk
set_option linter.unusedVariables false
set_option linter.unusedSimpArgs false
namespace Go.Sx
open Go
theorem pureRun_bind {α β:Type} (P:Program) (x:Sem α) (f:α → Sem β):pureRun P (x >>= f) = (pureRun P x).bind fun a=>pureRun P (f a) := by
 show pureRun P (x.bind f) = _
 induction x with
 | pure a=>rfl
 | program k ih=>simp only [Sem.bind,pureRun]; exact ih P
 | mark m k ih=>simp only [Sem.bind,pureRun]; exact ih
 | _=>simp [Sem.bind,pureRun]
theorem pureRun_pure {α:Type} (P:Program) (a:α):pureRun P (pure a:Sem α) = some a := rfl
theorem findNow_like (kind:TypeDesc) (k:Value):∀ (l1 l2:List MapEntry) (i:Nat) (r:Option (Nat × Value)),l1.map (·.key) = l2.map (·.key) → Instr.findNow kind k l1 i = some r →
  (r = none ∧ Instr.findNow kind k l2 i = some none) ∨ ∃ (j:Nat) (v:Value) (e:MapEntry),r = some (i + j,v) ∧ l2[j]? = some e ∧ Instr.findNow kind k l2 i = some (some (i + j,e.val))
 | [],[],i,r,_,h=>by simp [Instr.findNow] at h; subst h; exact .inl ⟨rfl,rfl⟩
 | [],_ :: _,_,_,hk,_=>by simp at hk
 | _ :: _,[],_,_,hk,_=>by simp at hk
 | a :: l1,b :: l2,i,r,hk,h=>by
  simp only [List.map_cons,List.cons.injEq] at hk
  obtain ⟨hk0,hk⟩ := hk
  simp only [Instr.findNow,hk0] at h ⊢
  split at h
  ·rename_i hs; cases h
   exact .inr ⟨0,a.val,b,rfl,rfl,by simp [hs]⟩
  ·rename_i hs
   rcases findNow_like kind k l1 l2 (i + 1) r hk h with ⟨h1,h2⟩ | ⟨j,v,e,h1,h2,h3⟩
   ·exact .inl ⟨h1,by simp [hs,h2]⟩
   ·exact .inr ⟨j + 1,v,e,by rw [h1]; congr 2; omega,by simpa using h2,by simp [hs,h3]; omega⟩
  ·cases h
theorem findNow_none (kind:TypeDesc) (k:Value):∀ (l1 l2:List MapEntry) (i:Nat),l1.map (·.key) = l2.map (·.key) → Instr.findNow kind k l1 i = none → Instr.findNow kind k l2 i = none
 | [],[],i,_,h=>by simp [Instr.findNow] at h
 | [],_ :: _,_,hk,_=>by simp at hk
 | _ :: _,[],_,hk,_=>by simp at hk
 | a :: l1,b :: l2,i,hk,h=>by
  simp only [List.map_cons,List.cons.injEq] at hk
  obtain ⟨hk0,hk⟩ := hk
  simp only [Instr.findNow,hk0] at h ⊢
  split at h
  ·cases h
  ·rename_i hs; simp [hs,findNow_none kind k l1 l2 (i + 1) hk h]
  ·rename_i hs; simp [hs]
theorem findAsking_like (P:Program) (t:TypeId) (k:Value):∀ (l1 l2:List MapEntry) (i:Nat) (r:Option (Nat × Value)),l1.map (·.key) = l2.map (·.key) → pureRun P (Instr.findAsking t k l1 i) = some r →
  (r = none ∧ pureRun P (Instr.findAsking t k l2 i) = some none) ∨ ∃ (j:Nat) (v:Value) (e:MapEntry),r = some (i + j,v) ∧ l2[j]? = some e ∧ pureRun P (Instr.findAsking t k l2 i) = some (some (i + j,e.val))
 | [],[],i,r,_,h=>by simp [Instr.findAsking,pureRun_pure] at h; subst h; exact .inl ⟨rfl,rfl⟩
 | [],_ :: _,_,_,hk,_=>by simp at hk
 | _ :: _,[],_,_,hk,_=>by simp at hk
 | a :: l1,b :: l2,i,r,hk,h=>by
  simp only [List.map_cons,List.cons.injEq] at hk
  obtain ⟨hk0,hk⟩ := hk
  simp only [Instr.findAsking,pureRun_bind,hk0] at h ⊢
  cases hb:pureRun P (Op.equal t k b.key) with
  | none=>simp [hb] at h
  | some c =>
   simp only [hb,Option.bind_some] at h ⊢
   cases c with
   | true =>
    simp [pureRun_pure] at h; subst h
    exact .inr ⟨0,a.val,b,rfl,rfl,by simp [pureRun_pure]⟩
   | false =>
    simp only [Bool.false_eq_true,if_false] at h ⊢
    rcases findAsking_like P t k l1 l2 (i + 1) r hk h with ⟨h1,h2⟩ | ⟨j,v,e,h1,h2,h3⟩
    ·exact .inl ⟨h1,h2⟩
    ·exact .inr ⟨j + 1,v,e,by rw [h1]; congr 2; omega,by simpa using h2,by rw [h3]; congr 3; omega⟩
theorem findKey_like (P:Program) (t:TypeId) (k:Value) {l1 l2:List MapEntry} {r:Option (Nat × Value)} (hk:l1.map (·.key) = l2.map (·.key)) (h:pureRun P (Instr.findKey t k l1) = some r) :
  (r = none ∧ pureRun P (Instr.findKey t k l2) = some none) ∨ ∃ (j:Nat) (v:Value) (e:MapEntry),r = some (j,v) ∧ l2[j]? = some e ∧ pureRun P (Instr.findKey t k l2) = some (some (j,e.val)) := by
 simp only [Instr.findKey,pureRun_bind] at h ⊢
 cases hu:pureRun P (underlying t) with
 | none=>simp [hu] at h
 | some d =>
  simp only [hu,Option.bind_some] at h ⊢
  cases hf:Instr.findNow d k l1 0 with
  | some q =>
   simp only [hf,pureRun_pure,Option.some.injEq] at h
   subst h
   rcases findNow_like d k l1 l2 0 q hk hf with ⟨h1,h2⟩ | ⟨j,v,e,h1,h2,h3⟩
   ·exact .inl ⟨h1,by simp [h2,pureRun_pure]⟩
   ·exact .inr ⟨j,v,e,by simpa using h1,h2,by simp [h3,pureRun_pure]⟩
  | none =>
   simp only [hf] at h
   rw [findNow_none d k l1 l2 0 hk hf]
   simp only
   rcases findAsking_like P t k l1 l2 0 r hk h with ⟨h1,h2⟩ | ⟨j,v,e,h1,h2,h3⟩
   ·exact .inl ⟨h1,h2⟩
   ·exact .inr ⟨j,v,e,by simpa using h1,h2,by simpa using h3⟩
abbrev Ent := Value × SV × Nat
def dummies (es:List Ent):List MapEntry := es.map fun e=>{ key := e.1,val := .bool false,born := e.2.2 }
def seek (P:Program) (kt:TypeId) (k:Value) (es:List Ent):Option (Option Nat) :=
 match pureRun P (Instr.findKey kt k (dummies es)) with
 | none=>none
 | some none=>some none
 | some (some (j,_))=>some (some j)
structure MapRep (M:Imm) (ρ:Env) (arr:Array MapEntry) (es:List Ent):Prop where
 sz:arr.size = es.length
 rep:∀ (i:Nat) (k:Value) (x:SV) (b:Nat),es[i]? = some (k,x,b) → ∃ e:MapEntry,arr[i]? = some e ∧ e.key = k ∧ e.born = b ∧ SRep M ρ e.val x
theorem MapRep.keys {M:Imm} {ρ:Env} {arr:Array MapEntry} {es:List Ent} (h:MapRep M ρ arr es):(dummies es).map (·.key) = arr.toList.map (·.key) := by
 apply List.ext_getElem?
 intro i
 simp only [dummies,List.map_map,List.getElem?_map]
 by_cases hi:i < es.length
 ·obtain ⟨e,h1,h2,_⟩ := h.rep i es[i].1 es[i].2.1 es[i].2.2 (by simp [hi])
  rw [← Array.getElem?_toList] at h1
  simp [hi,h1,h2]
 ·rw [List.getElem?_eq_none (by omega),List.getElem?_eq_none (by simp; rw [h.sz]; omega)]; rfl
theorem seek_run {P:Program} {M:Imm} {ρ:Env} {arr:Array MapEntry} {es:List Ent} {kt:TypeId} {k:Value} (h:MapRep M ρ arr es) (w:World) :
  (seek P kt k es = some none → (Instr.findKey kt k arr.toList).run P w = .ok none w) ∧
  (∀ j,seek P kt k es = some (some j) → ∃ (e:MapEntry) (x:Ent),arr[j]? = some e ∧ es[j]? = some x ∧ e.key = x.1 ∧ e.born = x.2.2 ∧ SRep M ρ e.val x.2.1 ∧ (Instr.findKey kt k arr.toList).run P w = .ok (some (j,e.val)) w) := by
 unfold seek
 cases hf:pureRun P (Instr.findKey kt k (dummies es)) with
 | none=>exact ⟨fun h=>by simp at h,fun j h=>by simp at h⟩
 | some r =>
  rcases findKey_like P kt k h.keys hf with ⟨rfl,h2⟩ | ⟨j,v,e,rfl,h2,h3⟩
  ·exact ⟨fun _=>pureRun_run h2 w,fun j h=>by simp at h⟩
  ·refine ⟨fun h=>by simp at h,fun j' hj=>?_⟩
   simp at hj; subst hj
   rw [Array.getElem?_toList] at h2
   have hlt:j < es.length := by have := (Array.getElem?_eq_some_iff.1 h2).1; rw [h.sz] at this; exact this
   obtain ⟨e',a1,a2,a3,a4⟩ := h.rep j es[j].1 es[j].2.1 es[j].2.2 (by simp [hlt])
   rw [h2] at a1; cases a1
   exact ⟨e,es[j],h2,by simp [hlt],a2,a3,a4,pureRun_run h3 w⟩
def keyOk (P:Program) (empty:Bool) (kt:TypeId) (k:Value):Bool := (pureRun P (Instr.checkKey empty 10000 kt k)).isSome
theorem keyOk_run {P:Program} {empty:Bool} {kt:TypeId} {k:Value} (h:keyOk P empty kt k = true) (w:World):(Instr.checkKey empty 10000 kt k).run P w = .ok () w := by
 unfold keyOk at h
 obtain ⟨u,hu⟩ := Option.isSome_iff_exists.1 h
 exact pureRun_run hu w
theorem OwnAt.mapRep {M:Imm} {ρ:Env} {w:World} {s:Nat} {es:List Ent} {c:Nat} {p:Place} (h:OwnAt M ρ w s (.map es c)) (hp:ρ s = some p):∃ arr,w.heap[p.block]? = some (.map arr c) ∧ MapRep M ρ arr es := by
 obtain ⟨q,arr,h1,h2,h3,h4⟩ := h
 rw [hp] at h1; cases h1
 exact ⟨arr,h2,h3,h4⟩
def valOf (t:Ty):SV → Option t.El
 | .pv p=>t.of p
 | _=>none
def aggOf (row:List Ty):SV → Option (Els row)
 | .pv (.lit (.agg cs))=>ofRow row (cs.toList.map .lit)
 | .agg l=>match pures l with
  | some ps=>ofRow row ps
  | none=>none
 | _=>none
def ATy.ofSV:(a:ATy) → SV → Option a.El
 | .val t=>valOf t
 | .agg row=>aggOf row
theorem ATy.ofSV_sound {M:Imm} {ρ:Env} {a:ATy} {x:SV} {v:Value} {y:a.El} (h:a.ofSV x = some y) (hx:SRep M ρ v x):SRep M ρ v (a.raw y) := by
 cases a with
 | val t =>
  have h:valOf t x = some y := h
  unfold valOf at h
  split at h
  ·cases hx with
   | pv hp=>exact .pv (Ty.of_sound h hp)
  ·cases h
 | agg row =>
  replace h:aggOf row x = some y := h
  have fin:∀ (cs:Array Value) (l:List PV),ofRow row l = some y → cs.size = l.length → (∀ (i:Nat) (u:Value) (q:PV),cs[i]? = some u → l[i]? = some q → PRep M u q) → SRep M ρ (.agg cs) ((ATy.agg row).raw y) := fun cs l hy hl hr=>by
   obtain ⟨g1,g2⟩ := ofRow_sound hy
   refine .agg cs _ (by simp [hl,g1]) fun i u z hu hz=>?_
   simp only [List.getElem?_map,Option.map_eq_some_iff] at hz
   obtain ⟨q,hq,rfl⟩ := hz
   obtain ⟨p,hp,himp⟩ := g2 i q hq
   exact .pv (himp M u (hr i u p hu hp))
  unfold aggOf at h
  split at h
  ·rename_i cs
   have := hx.lit_eq
   subst this
   refine fin cs _ h (by simp) fun i u q hu hq=>?_
   simp only [List.getElem?_map,Option.map_eq_some_iff,Array.getElem?_toList] at hq
   obtain ⟨q',hq',rfl⟩ := hq
   rw [hu] at hq'; cases hq'; exact .lit _
  ·split at h
   ·rename_i l ps hps
    have e := pures_eq hps
    subst e
    cases hx with
    | agg cs _ hl hr =>
     refine fin cs ps h (by simpa using hl) fun i u q hu hq=>?_
     have := hr i u (.pv q) hu (by simp [hq])
     cases this with
     | pv h=>exact h
   ·cases h
  ·cases h
theorem Ty.toV_pv {M:Imm} {v:Value}:∀ {t:Ty} {x:t.El},t.scalar = true → PRep M v (t.pv x) → v = t.toV x
 | .int _,_,_,h=>by cases h; rfl
 | .bool,_,_,h=>by cases h; rfl
 | .str,_,_,h=>by cases h; rfl
theorem rowPV_vals:∀ (ts:List Ty) (x:Els ts),ts.all Ty.scalar = true → rowPV ts x = (rowV ts x).map .lit
 | [],_,_=>rfl
 | [t],x,h=>by cases t <;> first | rfl | (simp [Ty.scalar] at h)
 | t :: t' :: ts,x,h=>by
  simp only [List.all_cons,Bool.and_eq_true] at h
  have := rowPV_vals (t' :: ts) x.2 (by simp only [List.all_cons,Bool.and_eq_true]; exact h.2)
  simp only [rowPV,rowV,List.map_cons,this]
  cases t <;> first | rfl | (simp [Ty.scalar] at h)
theorem keyV_of_raw {M:Imm} {ρ:Env} {a:ATy} {x:a.El} {v:Value} (hs:a.scalar = true) (h:SRep M ρ v (a.raw x)):v = a.keyV x := by
 cases a with
 | val t =>
  cases h with
  | pv h=>exact Ty.toV_pv hs h
 | agg row =>
  have e := rowPV_vals row x hs
  simp only [ATy.raw,e] at h
  cases h with
  | agg cs _ hl hr =>
   show _ = Value.agg (rowV row x).toArray
   congr 1
   apply Array.ext
   ·simpa using hl
   ·intro i h1 h2
    have := hr i cs[i] (.lit ((rowV row x).toArray[i])) (by simp [h1]) (by simp at h2; simp [h2])
    rw [this.lit_eq]
def mfind {K V:Type} (eq:K → K → Bool) (k:K):List (K × V) → Nat → Option (Nat × V)
 | [],_=>none
 | e :: l,i=>match eq k e.1 with
  | true=>some (i,e.2)
  | false=>mfind eq k l (i + 1)
theorem entsFrom_get {k v:ATy}:∀ (l:List (k.El × v.El)) (n i:Nat),(entsFrom k v n l)[i]? = (l[i]?).map fun x=>(k.keyV x.1,v.raw x.2,n + i)
 | [],n,i=>by simp [entsFrom]
 | x :: l,n,i=>by
  cases i with
  | zero=>simp [entsFrom]
  | succ i=>simp only [entsFrom,List.getElem?_cons_succ,entsFrom_get l (n + 1) i]; congr 1; funext x; rw [Nat.add_right_comm,Nat.add_assoc]
theorem entsFrom_set {k v:ATy} (l:List (k.El × v.El)) (n j:Nat) (x:k.El × v.El):entsFrom k v n (l.set j x) = (entsFrom k v n l).set j (k.keyV x.1,v.raw x.2,n + j) := by
 apply List.ext_getElem?
 intro i
 rw [entsFrom_get,List.getElem?_set,List.getElem?_set,entsFrom_len,entsFrom_get]
 split
 ·rename_i e; subst e
  split <;> rfl
 ·rfl
theorem entsFrom_app {k v:ATy} (l:List (k.El × v.El)) (n:Nat) (x:k.El × v.El):entsFrom k v n (l ++ [x]) = entsFrom k v n l ++ [(k.keyV x.1,v.raw x.2,n + l.length)] := by
 apply List.ext_getElem?
 intro i
 rw [entsFrom_get,List.getElem?_append,List.getElem?_append,entsFrom_len,entsFrom_get]
 split
 ·rfl
 ·rename_i h
  by_cases e:i - l.length = 0
  ·have:i = l.length := by omega
   subst this; simp
  ·obtain ⟨m,hm⟩ := Nat.exists_eq_succ_of_ne_zero e
   rw [hm]; simp
def descK:TypeDesc → ATy → Bool
 | .int k,.val (.int k')=>decide (k = k')
 | .string,.val .str=>true
 | .bool,.val .bool=>true
 | _,_=>false
theorem descK_scalar {d:TypeDesc} {a:ATy} (h:descK d a = true):a.scalar = true := by
 unfold descK at h
 split at h <;> first | rfl | cases h
theorem findNow_data {d:TypeDesc} {k v:ATy} (hd:descK d k = true) (x:k.El):∀ (l:List (k.El × v.El)) (n i:Nat),
  ∃ r,Instr.findNow d (k.keyV x) (dummies (entsFrom k v n l)) i = some r ∧ r.map (·.1) = (mfind k.eqv x l i).map (·.1)
 | [],n,i=>⟨none,rfl,rfl⟩
 | y :: l,n,i=>by
  obtain ⟨r,h1,h2⟩ := findNow_data hd x l (n + 1) (i + 1)
  have hs:Instr.sameNow d (k.keyV x) (k.keyV y.1) = some (k.eqv x y.1) := by
   unfold descK at hd
   split at hd
   ·rename_i a b
    show Instr.sameNow (.int _) (.int b x) (.int b y.1) = some (intEq x y.1)
    simp only [Instr.sameNow,if_true]; rfl
   ·show Instr.sameNow .string (.string x) (.string y.1) = some (strEq x y.1)
    have key:∀ a b:ByteArray,Instr.sameNow .string (.string a) (.string b) = some (strEq a b) := fun a b=>by simp only [Instr.sameNow,strEq_beq]
    exact key x y.1
   ·show Instr.sameNow .bool (.bool x) (.bool y.1) = some (boolEq x y.1)
    have key:∀ a b:Bool,Instr.sameNow .bool (.bool a) (.bool b) = some (boolEq a b) := by decide
    exact key x y.1
   ·cases hd
  show ∃ r,Instr.findNow d (k.keyV x) ({ key := k.keyV y.1,val := .bool false,born := n } :: dummies (entsFrom k v (n + 1) l)) i = some r ∧ _
  simp only [Instr.findNow,hs,mfind]
  cases k.eqv x y.1 with
  | true=>exact ⟨_,rfl,rfl⟩
  | false=>exact ⟨r,h1,h2⟩
theorem seek_data {P:Program} {kt:TypeId} {d:TypeDesc} (hu:P.underlying kt = some d) {k v:ATy} (hd:descK d k = true) (x:k.El) (l:List (k.El × v.El)) :
  seek P kt (k.keyV x) (entsFrom k v 0 l) = some ((mfind k.eqv x l 0).map (·.1)) := by
 obtain ⟨r,h1,h2⟩ := findNow_data hd x l 0 0
 have:pureRun P (Instr.findKey kt (k.keyV x) (dummies (entsFrom k v 0 l))) = some r := by
  unfold Instr.findKey
  rw [pureRun_bind]
  have:pureRun P (underlying kt) = some d := by
   unfold underlying
   rw [pureRun_bind]
   show (some P).bind _ = _
   simp only [Option.bind_some,hu,pureRun_pure]
  rw [this]
  simp only [Option.bind_some,h1,pureRun_pure]
 unfold seek
 rw [this]
 cases r with
 | none=>simp only [Option.map_none] at h2; rw [← h2]
 | some p=>simp only [Option.map_some] at h2; rw [← h2]
theorem mfind_spec {K V:Type} {eq:K → K → Bool} {k:K}:∀ {l:List (K × V)} {n j:Nat} {v:V},mfind eq k l n = some (j,v) → ∃ i e,j = n + i ∧ l[i]? = some e ∧ e.2 = v ∧ eq k e.1 = true
 | [],n,j,v,h=>by cases h
 | e :: l,n,j,v,h=>by
  simp only [mfind] at h
  split at h
  ·rename_i he; cases h; exact ⟨0,e,rfl,rfl,rfl,he⟩
  ·obtain ⟨i,e',h1,h2,h3,h4⟩ := mfind_spec h
   exact ⟨i + 1,e',by omega,by simpa using h2,h3,h4⟩
def ATy.ofZ:(a:ATy) → Value → Option a.El
 | a,z=>a.ofSV (.lit z)
def mgetD {K V:Type} (eq:K → K → Bool) (k:K) (l:List (K × V)) (z:V):V := match mfind eq k l 0 with
 | some p=>p.2
 | none=>z
def mhas {K V:Type} (eq:K → K → Bool) (k:K) (l:List (K × V)):Bool := (mfind eq k l 0).isSome
def mput {K V:Type} (eq:K → K → Bool) (k:K) (x:V) (l:List (K × V)):List (K × V) := match mfind eq k l 0 with
 | some p=>l.set p.1 (k,x)
 | none=>l ++ [(k,x)]
def midx {K V:Type} (eq:K → K → Bool) (k:K) (l:List (K × V)):Nat := match mfind eq k l 0 with
 | some p=>p.1
 | none=>l.length
def keyOf:(a:ATy) → Value → Option a.El
 | a,v=>a.ofSV (.lit v)
theorem MapAt.rep {M:Imm} {ρ:Env} {w:World} {s:Nat} {es:List Ent} {c:Nat} {p:Place} (h:MapAt M ρ w s es c) (hp:ρ s = some p):∃ arr,w.heap[p.block]? = some (.map arr c) ∧ MapRep M ρ arr es := by
 obtain ⟨q,arr,h1,h2,h3,h4⟩ := h
 rw [hp] at h1; cases h1
 exact ⟨arr,h2,h3,h4⟩
def sMakeMap (H:List SObj):Res := .eff (.mp H.length) (H ++ [.map [] 0]) [] []
theorem sMakeMap_sound {P:Program} {M:Imm} {ρ:Env} {H:List SObj} {w:World} {K:Post} (hm:Mem M ρ H w) {t:TypeId} (h:(sMakeMap H).holds H K):DoesV P (Instr.makeMap t none) M ρ H w K := by
 have hrun:(Instr.makeMap t none).run P w = .ok (.map (some w.heap.size)) (w.alloc (.map #[] 0)) := by simp [Instr.makeMap]
 obtain ⟨g1,g2⟩ := hm.alloc (w' := w.alloc (.map #[] 0)) (o := .map #[] 0) (so := .map [] 0) (cap := 0) rfl
  ⟨_,#[],Env.set_self ..,heap_alloc_new w _,rfl,fun i k x b hi=>by simp at hi⟩
 exact ⟨_,_,hrun,_,_,[],[],M,_,h,.mp _ _ (Env.set_self ..),g1,g2⟩
def sLookup0 (P:Program) (tab:Tab) (H:List SObj) (t:Nat) (m k:SV) (ok:Bool):Res :=
 match tab.lookup t with
 | some { desc := .map kt et,.. }=>match k with
  | .pv (.lit kv)=>match m with
   | .mp s=>match H[s]? with
    | some (.map es c)=>if keyOk P es.isEmpty kt kv then match seek P kt kv es with
      | some (some j)=>match es[j]? with
       | some e=>.ok (if ok then .tup [e.2.1,.lit (.bool true)] else e.2.1)
       | none=>.fail
      | some none=>match tab.lookup et with
       | some i=>.ok (if ok then .tup [.lit i.zero,.lit (.bool false)] else .lit i.zero)
       | none=>.fail
      | none=>.fail
     else .fail
    | _=>.fail
   | .pv (.lit (.map none))=>if keyOk P true kt kv then match tab.lookup et,tab.lookup kt with
     | some i,some _=>.ok (if ok then .tup [.lit i.zero,.lit (.bool false)] else .lit i.zero)
     | _,_=>.fail
    else .fail
   | _=>.fail
  | _=>.fail
 | _=>.fail
theorem ok_rep {M:Imm} {ρ:Env} {v:Value} {x:SV} {b ok:Bool} (h:SRep M ρ v x):SRep M ρ (if ok then .tuple #[v,.bool b] else v) (if ok then .tup [x,.lit (.bool b)] else x) := by
 cases ok with
 | false=>simpa using h
 | true =>
  simp only [if_true]
  refine .tup _ _ rfl fun i u y hu hy=>?_
  match i with
  | 0=>simp at hu hy; subst hu; subst hy; exact h
  | 1=>simp at hu hy; subst hu; subst hy; exact .pv (.lit _)
  | i + 2=>simp at hy
theorem zeroValue_run {P:Program} {t:TypeId} {i:TI} (h:TyOk P t i) (w:World):(zeroValue t).run P w = .ok i.zero w := by
 obtain ⟨n,hn,_,_,h3⟩ := h.inf
 simp [zeroValue,typeInfo,hn,h3]
theorem sLookup0_sound {P:Program} {tab:Tab} (htab:TabOk P tab) {M:Imm} {ρ:Env} {H:List SObj} {w:World} {K:Post} (hm:Mem M ρ H w) {t:Nat} {m k:SV} {vm vk:Value} {ok:Bool} (hmr:SRep M ρ vm m) (hkr:SRep M ρ vk k)
  (h:(sLookup0 P tab H t m k ok).holds H K):DoesV P (Instr.lookup t vm vk ok) M ρ H w K := by
 unfold sLookup0 at h
 split at h
 ·rename_i kt et sz' by' zr rw' hte
  have hu:P.underlying t = some (.map kt et) := (htab.get hte).und
  split at h
  ·rename_i kv
   have := hkr.lit_eq; subst this
   split at h
   ·rename_i s
    split at h
    ·rename_i es c ho
     split at h
     ·rename_i hko
      cases hmr with
      | mp _ p hp =>
       obtain ⟨arr,hheap,hrep⟩ := (hm.own s _ ho).mapRep hp
       have hempty:arr.isEmpty = es.isEmpty := by
        have := hrep.sz
        simp only [Array.isEmpty,this]
        cases es <;> simp
       obtain ⟨f1,f2⟩ := seek_run (P := P) (kt := kt) (k := vk) hrep w
       have hget := run_getObj_map (P := P) hheap
       have hkey := keyOk_run hko w
       rw [← hempty] at hkey
       split at h
       ·rename_i j hj
        obtain ⟨e,x,a1,a2,a3,a4,a5,a6⟩ := f2 j hj
        rw [a2] at h
        simp only at h
        refine DoesV.same hm ?_ (ok_rep (ok := ok) (b := true) a5) h
        simp [Instr.lookup,run_underlying hu,hget,hkey,a6]
       ·rename_i hj
        split at h
        ·rename_i i hi
         refine DoesV.same hm ?_ (ok_rep (ok := ok) (b := false) (.pv (.lit _))) h
         simp [Instr.lookup,run_underlying hu,hget,hkey,f1 hj,zeroValue_run (htab.get hi)]
        ·exact h.elim
       ·exact h.elim
     ·exact h.elim
    ·exact h.elim
   ·split at h
    ·rename_i hko
     have := hmr.lit_eq; subst this
     have hkey := keyOk_run hko w
     split at h
     ·rename_i i ik hi hik
      have hnone:(Instr.findKey kt vk []).run P w = .ok none w := by
       simp only [Instr.findKey,Instr.findNow,Sem.run_bind,run_underlying (htab.get hik).und,Result.andThen_ok,Sem.run_pure]
      refine DoesV.same hm ?_ (ok_rep (ok := ok) (b := false) (.pv (.lit _))) h
      simp [Instr.lookup,run_underlying hu,hkey,hnone,zeroValue_run (htab.get hi)]
     ·exact h.elim
    ·exact h.elim
   ·exact h.elim
  ·exact h.elim
 ·exact h.elim
def sMapUpdate0 (P:Program) (tab:Tab) (H:List SObj) (t:Nat) (m k x:SV):Res :=
 match tab.lookup t,m,k with
 | some { desc := .map kt et,.. },.mp s,.pv (.lit kv)=>match H[s]? with
  | some (.map es c)=>if keyOk P false kt kv then match seek P kt kv es with
    | some (some j)=>match es[j]? with
     | some e=>if Instr.sameBits 10000 e.1 kv then .eff .any (H.set s (.map (es.set j (kv,x,e.2.2)) c)) [s] [] else .fail
     | none=>.fail
    | some none=>.eff .any (H.set s (.map (es ++ [(kv,x,c)]) (c + 1))) [s] []
    | none=>.fail
   else .fail
  | _=>.fail
 | _,_,_=>.fail
theorem run_setObj {P:Program} {w:World} {b:Nat} {es:Array MapEntry} {c:Nat} (h:w.heap[b]? = some (.map es c)) (o:Obj):(setObj b o).run P w = .ok () { w with heap := w.heap.setIfInBounds b o } := by
 simp [setObj,Sem.run,h]
theorem putHeap_ne {w:World} {b k:Nat} {o:Obj} (h:k ≠ b):(w.heap.setIfInBounds b o)[k]? = w.heap[k]? := Array.getElem?_setIfInBounds_ne (Ne.symm h)
theorem MapRep.set {M:Imm} {ρ:Env} {arr:Array MapEntry} {es:List Ent} {j:Nat} {e:MapEntry} {k:Value} {v:Value} {x:SV} {b:Nat} (h:MapRep M ρ arr es) (hj:arr[j]? = some e) (hx:SRep M ρ v x) (hb:e.born = b)
  (f:MapEntry → MapEntry) (hf:f e = { e with key := k,val := v }):MapRep M ρ (arr.modify j f) (es.set j (k,x,b)) := by
 refine ⟨by simp [h.sz],fun i k' x' b' hi=>?_⟩
 have hlt:j < arr.size := (Array.getElem?_eq_some_iff.1 hj).1
 rw [List.getElem?_set] at hi
 split at hi
 ·rename_i e'; subst e'
  rw [if_pos (by rw [← h.sz]; exact hlt)] at hi
  cases hi
  refine ⟨{ e with key := k,val := v },?_,rfl,hb,hx⟩
  rw [Array.getElem?_modify]; simp [hj,hf]
 ·rename_i e'
  obtain ⟨q,a1,a2⟩ := h.rep i k' x' b' hi
  exact ⟨q,by rw [Array.getElem?_modify,if_neg e']; exact a1,a2⟩
theorem MapRep.push {M:Imm} {ρ:Env} {arr:Array MapEntry} {es:List Ent} {k v:Value} {x:SV} {c:Nat} (h:MapRep M ρ arr es) (hx:SRep M ρ v x):MapRep M ρ (arr.push { key := k,val := v,born := c }) (es ++ [(k,x,c)]) := by
 refine ⟨by simp [h.sz],fun i k' x' b' hi=>?_⟩
 rw [List.getElem?_append] at hi
 split at hi
 ·rename_i hlt
  obtain ⟨q,a1,a2⟩ := h.rep i k' x' b' hi
  exact ⟨q,by rw [Array.getElem?_push]; rw [if_neg (by rw [h.sz]; omega)]; exact a1,a2⟩
 ·rename_i hlt
  have e:i = es.length := by
   by_cases e:i = es.length
   ·exact e
   ·rw [List.getElem?_eq_none (by simp; omega)] at hi; cases hi
  subst e
  simp at hi
  obtain ⟨rfl,rfl,rfl⟩ := hi
  exact ⟨_,by rw [Array.getElem?_push,if_pos h.sz.symm],rfl,rfl,hx⟩
theorem map_put {P:Program} {M:Imm} {ρ:Env} {H:List SObj} {w:World} {K:Post} (hm:Mem M ρ H w) {s:Nat} {es es':List Ent} {c c':Nat} {p:Place} {arr arr':Array MapEntry} (ho:H[s]? = some (.map es c)) (hp:ρ s = some p)
  (hheap:w.heap[p.block]? = some (.map arr c)) (hr:MapRep M ρ arr' es'):Mem M ρ (H.set s (.map es' c')) { w with heap := w.heap.setIfInBounds p.block (.map arr' c') } ∧ Fr M ρ H w M ρ (H.set s (.map es' c')) { w with heap := w.heap.setIfInBounds p.block (.map arr' c') } H.length [s] [] := by
 have hlt:p.block < w.heap.size := (Array.getElem?_eq_some_iff.1 hheap).1
 exact hm.put ho rfl hp (fun b hb=>putHeap_ne hb) (by simp) rfl ⟨p,arr',hp,by simp [hlt],hr.sz,hr.rep⟩
theorem sMapUpdate0_sound {P:Program} {tab:Tab} (htab:TabOk P tab) {M:Imm} {ρ:Env} {H:List SObj} {w:World} {K:Post} (hm:Mem M ρ H w) {t:Nat} {m k x:SV} {vm vk v:Value} (hmr:SRep M ρ vm m) (hkr:SRep M ρ vk k) (hx:SRep M ρ v x)
  (h:(sMapUpdate0 P tab H t m k x).holds H K):DoesU P (Instr.mapUpdate t vm vk v) M ρ H w K := by
 unfold sMapUpdate0 at h
 split at h
 ·rename_i kt et sz' by' zr rw' s kv hte
  have hu:P.underlying t = some (.map kt et) := (htab.get hte).und
  have := hkr.lit_eq; subst this
  split at h
  ·rename_i es c ho
   split at h
   ·rename_i hko
    cases hmr with
    | mp _ p hp =>
     obtain ⟨arr,hheap,hrep⟩ := (hm.own s _ ho).mapRep hp
     obtain ⟨f1,f2⟩ := seek_run (P := P) (kt := kt) (k := vk) hrep w
     have hget := run_getObj_map (P := P) hheap
     have hkey := keyOk_run hko w
     split at h
     ·rename_i j hj
      obtain ⟨e,x',a1,a2,a3,a4,a5,a6⟩ := f2 j hj
      rw [a2] at h
      simp only at h
      split at h
      ·rename_i hsb
       have hks:(Instr.keyThatStays (((arr[j]?).map (·.key)).getD vk) vk).run P w = .ok vk w := by
        rw [a1]; simp only [Option.map_some,Option.getD_some,a3]
        simp [Instr.keyThatStays,hsb]
       obtain ⟨g1,g2⟩ := map_put (P := P) (K := K) (c' := c) hm ho hp hheap (hrep.set a1 hx a4 (fun e=>{ e with key := vk,val := v }) rfl)
       refine ⟨_,?_,.any,_,[s],[],M,ρ,h,rfl,g1,g2⟩
       simp [Instr.mapUpdate,run_underlying hu,hget,hkey,a6,hks,run_setObj hheap]
      ·exact h.elim
     ·rename_i hj
      obtain ⟨g1,g2⟩ := map_put (P := P) (K := K) (c' := c + 1) hm ho hp hheap (hrep.push (k := vk) (c := c) hx)
      refine ⟨_,?_,.any,_,[s],[],M,ρ,h,rfl,g1,g2⟩
      simp [Instr.mapUpdate,run_underlying hu,hget,hkey,f1 hj,run_setObj hheap]
     ·exact h.elim
   ·exact h.elim
  ·exact h.elim
 ·exact h.elim
def sMapEntry0 (P:Program) (tab:Tab) (H:List SObj) (t:Nat) (m k:SV):Res :=
 match tab.lookup t,m,k with
 | some { desc := .map kt et,.. },.mp s,.pv (.lit kv)=>match H[s]? with
  | some (.map es c)=>if keyOk P false kt kv then match seek P kt kv es with
    | some (some j)=>match es[j]? with
     | some e=>if Instr.sameBits 10000 e.1 kv then .eff (.tup [e.2.1,.lit (.int .i64 e.2.2)]) (H.set s (.map (es.set j (kv,e.2.1,e.2.2)) c)) [s] [] else .fail
     | none=>.fail
    | some none=>match tab.lookup et with
     | some i=>.eff (.tup [.lit i.zero,.lit (.int .i64 c)]) (H.set s (.map (es ++ [(kv,.lit i.zero,c)]) (c + 1))) [s] []
     | none=>.fail
    | none=>.fail
   else .fail
  | _=>.fail
 | _,_,_=>.fail
theorem tup2_rep {M:Imm} {ρ:Env} {v u:Value} {x y:SV} (h:SRep M ρ v x) (k:SRep M ρ u y):SRep M ρ (.tuple #[v,u]) (.tup [x,y]) := by
 refine .tup _ _ rfl fun i a b ha hb=>?_
 match i with
 | 0=>simp at ha hb; subst ha; subst hb; exact h
 | 1=>simp at ha hb; subst ha; subst hb; exact k
 | i + 2=>simp at hb
theorem sMapEntry0_sound {P:Program} {tab:Tab} (htab:TabOk P tab) {M:Imm} {ρ:Env} {H:List SObj} {w:World} {K:Post} (hm:Mem M ρ H w) {t:Nat} {m k:SV} {vm vk:Value} (hmr:SRep M ρ vm m) (hkr:SRep M ρ vk k)
  (h:(sMapEntry0 P tab H t m k).holds H K):DoesV P (Instr.mapEntry t vm vk) M ρ H w K := by
 unfold sMapEntry0 at h
 split at h
 ·rename_i kt et sz' by' zr rw' s kv hte
  have hu:P.underlying t = some (.map kt et) := (htab.get hte).und
  have := hkr.lit_eq; subst this
  split at h
  ·rename_i es c ho
   split at h
   ·rename_i hko
    cases hmr with
    | mp _ p hp =>
     obtain ⟨arr,hheap,hrep⟩ := (hm.own s _ ho).mapRep hp
     obtain ⟨f1,f2⟩ := seek_run (P := P) (kt := kt) (k := vk) hrep w
     have hget := run_getObj_map (P := P) hheap
     have hkey := keyOk_run hko w
     split at h
     ·rename_i j hj
      obtain ⟨e,x',a1,a2,a3,a4,a5,a6⟩ := f2 j hj
      rw [a2] at h
      simp only at h
      split at h
      ·rename_i hsb
       have hks:(Instr.keyThatStays e.key vk).run P w = .ok vk w := by
        rw [a3]; simp [Instr.keyThatStays,hsb]
       obtain ⟨g1,g2⟩ := map_put (P := P) (K := K) (c' := c) hm ho hp hheap (hrep.set a1 a5 a4 (fun e=>{ e with key := vk }) rfl)
       refine ⟨.tuple #[e.val,goInt e.born],_,?_,_,_,[s],[],M,ρ,h,?_,g1,g2⟩
       ·simp [Instr.mapEntry,run_underlying hu,hget,hkey,a6,hks,run_setObj hheap,a1]
       ·rw [a4]; exact tup2_rep a5 (.pv (.lit _))
      ·exact h.elim
     ·rename_i hj
      split at h
      ·rename_i i hi
       obtain ⟨g1,g2⟩ := map_put (P := P) (K := K) (c' := c + 1) hm ho hp hheap (hrep.push (k := vk) (c := c) (v := i.zero) (x := .lit i.zero) (.pv (.lit _)))
       refine ⟨.tuple #[i.zero,goInt c],_,?_,_,_,[s],[],M,ρ,h,tup2_rep (.pv (.lit _)) (.pv (.lit _)),g1,g2⟩
       simp [Instr.mapEntry,run_underlying hu,hget,hkey,f1 hj,run_setObj hheap,zeroValue_run (htab.get hi)]
      ·exact h.elim
     ·exact h.elim
   ·exact h.elim
  ·exact h.elim
 ·exact h.elim
def sEntryStore0 (H:List SObj) (m st x:SV):Res :=
 match m,st with
 | .mp s,.pv (.lit (.int _ n))=>match H[s]? with
  | some (.map es c)=>match es.findIdx? (fun e=>(e.2.2:Int) == n) with
   | some j=>match es[j]? with
    | some e=>.eff .any (H.set s (.map (es.set j (e.1,x,e.2.2)) c)) [s] []
    | none=>.fail
   | none=>.fail
  | _=>.fail
 | _,_=>.fail
theorem sEntryStore0_sound {P:Program} {M:Imm} {ρ:Env} {H:List SObj} {w:World} {K:Post} (hm:Mem M ρ H w) {t:Nat} {m st x:SV} {vm vs v:Value} (hmr:SRep M ρ vm m) (hst:SRep M ρ vs st) (hx:SRep M ρ v x)
  (h:(sEntryStore0 H m st x).holds H K):DoesU P (Instr.entryStore t vm vs v) M ρ H w K := by
 unfold sEntryStore0 at h
 split at h
 ·rename_i s k n
  have := hst.lit_eq; subst this
  split at h
  ·rename_i es c ho
   split at h
   ·rename_i j hj
    split at h
    ·rename_i e he
     cases hmr with
     | mp _ p hp =>
      obtain ⟨arr,hheap,hrep⟩ := (hm.own s _ ho).mapRep hp
      obtain ⟨q,a1,a2,a3,a4⟩ := hrep.rep j e.1 e.2.1 e.2.2 he
      have hget := run_getObj_map (P := P) hheap
      have hidx:arr.findIdx? (fun e=>(e.born:Int) == n) = some j := by
       have hborn:∀ i:Nat,(arr[i]?).map (fun e=>(e.born:Int) == n) = (es[i]?).map (fun e=>(e.2.2:Int) == n) := fun i=>by
        by_cases hi:i < es.length
        ·obtain ⟨z,b1,b2,b3,_⟩ := hrep.rep i es[i].1 es[i].2.1 es[i].2.2 (by simp [hi])
         rw [b1]; simp [hi,b3]
        ·rw [List.getElem?_eq_none (by omega),Array.getElem?_eq_none (by rw [hrep.sz]; omega)]; rfl
       rw [List.findIdx?_eq_some_iff_getElem] at hj
       rw [Array.findIdx?_eq_some_iff_getElem]
       obtain ⟨c1,c2,c3⟩ := hj
       have hl:j < arr.size := by rw [hrep.sz]; exact c1
       refine ⟨hl,?_,fun i hi=>?_⟩
       ·have := hborn j
        simp only [Array.getElem?_eq_getElem hl,List.getElem?_eq_getElem c1,Option.map_some,Option.some.injEq] at this
        rw [this]; exact c2
       ·have hi2:i < arr.size := by omega
        have hi3:i < es.length := by omega
        have := hborn i
        simp only [Array.getElem?_eq_getElem hi2,List.getElem?_eq_getElem hi3,Option.map_some,Option.some.injEq] at this
        rw [this]; exact c3 i hi
      obtain ⟨g1,g2⟩ := map_put (P := P) (K := K) (c' := c) hm ho hp hheap (hrep.set (k := e.1) a1 hx a3 (fun e=>{ e with val := v }) (by rw [← a2]))
      refine ⟨_,?_,.any,_,[s],[],M,ρ,h,rfl,g1,g2⟩
      simp [Instr.entryStore,hget,asInt,asIntOf,hidx,run_setObj hheap]
    ·exact h.elim
   ·exact h.elim
  ·exact h.elim
 ·exact h.elim
theorem checkKey_data {P:Program} {kt:TypeId} {d:TypeDesc} (hu:P.underlying kt = some d) {a:ATy} (hd:descK d a = true) (x:a.El) (e:Bool) (w:World):(Instr.checkKey e 10000 kt (a.keyV x)).run P w = .ok () w := by
 unfold Instr.checkKey
 simp only [Sem.run_bind,run_underlying hu,Result.andThen_ok]
 unfold descK at hd
 split at hd
 ·rfl
 ·rfl
 ·rfl
 ·cases hd
theorem sameBits_data {d:TypeDesc} {a:ATy} (hd:descK d a = true) (x:a.El):Instr.sameBits 10000 (a.keyV x) (a.keyV x) = true := by
 unfold descK at hd
 split at hd
 ·rename_i j k
  have key:∀ a:Int,Instr.sameBits 10000 (.int k a) (.int k a) = true := fun a=>by simp [Instr.sameBits]
  exact key x
 ·have key:∀ a:ByteArray,Instr.sameBits 10000 (.string a) (.string a) = true := fun a=>by simp only [Instr.sameBits,strEq_beq,strEq,decide_true]
  exact key x
 ·have key:∀ a:Bool,Instr.sameBits 10000 (.bool a) (.bool a) = true := fun a=>by simp [Instr.sameBits]
  exact key x
 ·cases hd
theorem tfind_run {P:Program} {M:Imm} {ρ:Env} {arr:Array MapEntry} {kt:TypeId} {d:TypeDesc} (hu:P.underlying kt = some d) {k v:ATy} (hd:descK d k = true) {l:List (k.El × v.El)} (hr:MapRep M ρ arr (entsFrom k v 0 l)) (x:k.El) (w:World) :
  (mfind k.eqv x l 0 = none → (Instr.findKey kt (k.keyV x) arr.toList).run P w = .ok none w) ∧
  (∀ j y,mfind k.eqv x l 0 = some (j,y) → ∃ e,arr[j]? = some e ∧ j < l.length ∧ e.key = k.keyV x ∧ e.born = j ∧ SRep M ρ e.val (v.raw y) ∧ (Instr.findKey kt (k.keyV x) arr.toList).run P w = .ok (some (j,e.val)) w) := by
 obtain ⟨f1,f2⟩ := seek_run (P := P) (kt := kt) (k := k.keyV x) hr w
 have hs := seek_data (P := P) hu hd x l
 refine ⟨fun h=>f1 (by rw [hs,h]; rfl),fun j y h=>?_⟩
 obtain ⟨e,z,a1,a2,a3,a4,a5,a6⟩ := f2 j (by rw [hs,h]; rfl)
 obtain ⟨i,q,b1,b2,b3,b4⟩ := mfind_spec h
 have:i = j := by omega
 subst this
 rw [entsFrom_get,b2] at a2
 simp only [Option.map_some,Option.some.injEq] at a2
 subst a2
 have hk := ATy.eqv_ok k _ _ b4
 refine ⟨e,a1,(List.getElem?_eq_some_iff.1 b2).1,by rw [a3,← hk],by rw [a4]; simp,by rw [← b3]; exact a5,a6⟩
def lookT (tab:Tab) (H:List SObj) (kt et:Nat) (ka va:ATy) (l:List (ka.El × va.El)) (k:SV) (ok:Bool):Res :=
 match tab.lookup kt with
 | none=>.fail
 | some ik=>match descK ik.desc ka with
  | false=>.fail
  | true=>match tab.lookup et with
   | none=>.fail
   | some ie=>match ka.ofSV k with
    | none=>.fail
    | some kx=>match va.ofZ ie.zero with
     | none=>.fail
     | some z=>.ok (if ok then .tup [va.raw (mgetD ka.eqv kx l z),.lit (.bool (mhas ka.eqv kx l))] else va.raw (mgetD ka.eqv kx l z))
def keyEq:TypeDesc → Value → Value → Option Bool
 | .int _,.int k a,.int k' b=>match decide (k = k') with
  | true=>some (decide (a = b))
  | false=>none
 | .string,.string a,.string b=>some (strEq a b)
 | .bool,.bool a,.bool b=>some (boolEq a b)
 | _,_,_=>none
theorem keyEq_same {d:TypeDesc} {a b:Value} {c:Bool} (h:keyEq d a b = some c):Instr.sameNow d a b = some c := by
 unfold keyEq at h
 split at h
 ·rename_i k' a k b
  split at h
  ·rename_i e
   have e := of_decide_eq_true e
   subst e
   simp only [Instr.sameNow,if_true]
   rw [← h]; rfl
  ·cases h
 ·simp only [Instr.sameNow,strEq_beq]; exact h
 ·rename_i a b
  cases a <;> cases b <;> (rw [← h]; rfl)
 ·cases h
def lookS (d:TypeDesc) (kv:Value) (nf:Res) (ok:Bool):List Ent → Res
 | []=>nf
 | e :: es=>match keyEq d kv e.1 with
  | some c=>.split c (.ok (if ok then .tup [e.2.1,.lit (.bool true)] else e.2.1)) (lookS d kv nf ok es)
  | none=>.fail
theorem lookS_spec {H:List SObj} {K:Post} {d:TypeDesc} {kv:Value} {nf:Res} {ok:Bool}:∀ (es:List Ent) (i:Nat),(lookS d kv nf ok es).holds H K →
  (∃ j e,es[j]? = some e ∧ Instr.findNow d kv (dummies es) i = some (some (i + j,.bool false)) ∧ K (if ok then .tup [e.2.1,.lit (.bool true)] else e.2.1) H [] []) ∨
  (Instr.findNow d kv (dummies es) i = some none ∧ nf.holds H K)
 | [],i,h=>.inr ⟨rfl,h⟩
 | e :: es,i,h=>by
  simp only [lookS] at h
  split at h
  ·rename_i c hc
   have hs := keyEq_same hc
   have hd:dummies (e :: es) = { key := e.1,val := .bool false,born := e.2.2 } :: dummies es := rfl
   rw [hd]
   simp only [Instr.findNow,hs]
   cases c with
   | true=>exact .inl ⟨0,e,rfl,rfl,h.1 rfl⟩
   | false =>
    rcases lookS_spec es (i + 1) (h.2 rfl) with ⟨j,e',h1,h2,h3⟩ | ⟨h1,h2⟩
    ·exact .inl ⟨j + 1,e',by simpa using h1,by rw [h2]; simp; omega,h3⟩
    ·exact .inr ⟨h1,h2⟩
  ·exact h.elim
def oneCellKey:TypeDesc → Bool
 | .int _=>true
 | .string=>true
 | .bool=>true
 | _=>false
def lookM (P:Program) (tab:Tab) (kt et:Nat) (es:List Ent) (k:SV) (ok:Bool):Res := match k with
 | .pv (.lit kv)=>match tab.lookup kt with
  | none=>.fail
  | some ik=>match keyOk P es.isEmpty kt kv with
   | false=>.fail
   | true=>lookS ik.desc kv (match tab.lookup et with
    | some i=>.ok (if ok then .tup [.lit i.zero,.lit (.bool false)] else .lit i.zero)
    | none=>.fail) ok es
 | _=>.fail
theorem lookM_run {P:Program} {tab:Tab} (htab:TabOk P tab) {M:Imm} {ρ:Env} {H:List SObj} {K:Post} {kt et:Nat} {es:List Ent} {k:SV} {vk:Value} {ok:Bool} (hkr:SRep M ρ vk k)
  (h:(lookM P tab kt et es k ok).holds H K) {arr:Array MapEntry} (hrep:MapRep M ρ arr es):∃ v x,K x H [] [] ∧ SRep M ρ v x ∧
   ∀ (w:World) (t b:Nat) (c:Nat),P.underlying t = some (.map kt et) → w.heap[b]? = some (.map arr c) → (Instr.lookup t (.map (some b)) vk ok).run P w = .ok v w := by
 unfold lookM at h
 split at h
 ·rename_i kv
  have := hkr.lit_eq; subst this
  split at h
  ·exact h.elim
  ·rename_i ik hik
   split at h
   ·exact h.elim
   ·rename_i hko
    have hdk:P.underlying kt = some ik.desc := (htab.get hik).und
    have hempty:arr.isEmpty = es.isEmpty := by
     have := hrep.sz
     simp only [Array.isEmpty,this]
     cases es <;> simp
    have hseek:∀ r,Instr.findNow ik.desc vk (dummies es) 0 = some r → seek P kt vk es = some (r.map (·.1)) := fun r hr=>by
     have:pureRun P (Instr.findKey kt vk (dummies es)) = some r := by
      unfold Instr.findKey
      rw [pureRun_bind]
      have:pureRun P (underlying kt) = some ik.desc := by
       unfold underlying
       rw [pureRun_bind]
       show (some P).bind _ = _
       simp only [Option.bind_some,hdk,pureRun_pure]
      rw [this]
      simp only [Option.bind_some,hr,pureRun_pure]
     unfold seek
     rw [this]
     cases r with
     | none=>rfl
     | some p=>rfl
    rcases lookS_spec es 0 h with ⟨j,e,h1,h2,h3⟩ | ⟨h1,h2⟩
    ·obtain ⟨me,x,a1,a2,a3,a4,a5,_⟩ := (seek_run (P := P) (kt := kt) (k := vk) hrep default).2 j (by rw [hseek _ h2]; simp)
     rw [h1] at a2; cases a2
     refine ⟨_,_,h3,ok_rep (ok := ok) (b := true) a5,fun w t b c hu hheap=>?_⟩
     obtain ⟨me',x',b1,_,_,_,_,b6⟩ := (seek_run (P := P) (kt := kt) (k := vk) hrep w).2 j (by rw [hseek _ h2]; simp)
     rw [a1] at b1; cases b1
     have hkey := keyOk_run hko w
     rw [← hempty] at hkey
     simp [Instr.lookup,run_underlying hu,run_getObj_map (P := P) hheap,hkey,b6]
    ·split at h2
     ·rename_i i hi
      refine ⟨_,_,h2,ok_rep (ok := ok) (b := false) (.pv (.lit _)),fun w t b c hu hheap=>?_⟩
      have hkey := keyOk_run hko w
      rw [← hempty] at hkey
      simp [Instr.lookup,run_underlying hu,run_getObj_map (P := P) hheap,hkey,(seek_run (P := P) (kt := kt) (k := vk) hrep w).1 (by rw [hseek _ h1]; rfl),zeroValue_run (htab.get hi)]
     ·exact h2.elim
 ·exact h.elim
def sLookup (P:Program) (tab:Tab) (H:List SObj) (t:Nat) (m k:SV) (ok:Bool):Res :=
 match m with
 | .mp s=>match H[s]? with
  | some (.tmap ka va l)=>match tab.lookup t with
   | some { desc := .map kt et,.. }=>lookT tab H kt et ka va l k ok
   | _=>.fail
  | some (.map es c)=>match tab.lookup t with
   | some { desc := .map kt et,.. }=>match tab.lookup kt with
    | some ik=>match oneCellKey ik.desc with
     | true=>lookM P tab kt et es k ok
     | false=>sLookup0 P tab H t m k ok
    | none=>.fail
   | _=>.fail
  | _=>sLookup0 P tab H t m k ok
 | _=>sLookup0 P tab H t m k ok
theorem lookT_run {P:Program} {tab:Tab} (htab:TabOk P tab) {M:Imm} {ρ:Env} {H:List SObj} {K:Post} {kt et:Nat} {ka va:ATy} {l:List (ka.El × va.El)} {k:SV} {vk:Value} {ok:Bool} (hkr:SRep M ρ vk k)
  (h:(lookT tab H kt et ka va l k ok).holds H K) {arr:Array MapEntry} (hr:MapRep M ρ arr (entsFrom ka va 0 l)):∃ v x,K x H [] [] ∧ SRep M ρ v x ∧
   ∀ (w:World) (t b:Nat) (c:Nat),P.underlying t = some (.map kt et) → w.heap[b]? = some (.map arr c) → (Instr.lookup t (.map (some b)) vk ok).run P w = .ok v w := by
 unfold lookT at h
 split at h
 ·exact h.elim
 ·rename_i ik hik
  split at h
  ·exact h.elim
  ·rename_i hd
   split at h
   ·exact h.elim
   ·rename_i ie hie
    split at h
    ·exact h.elim
    ·rename_i kx hkx
     split at h
     ·exact h.elim
     ·rename_i z hz
      have hvk := keyV_of_raw (descK_scalar hd) (ATy.ofSV_sound hkx hkr)
      subst hvk
      have hdk:P.underlying kt = some ik.desc := (htab.get hik).und
      have hzr:SRep M ρ ie.zero (va.raw z) := ATy.ofSV_sound (M := M) (ρ := ρ) hz (.pv (.lit _))
      cases hf:mfind ka.eqv kx l 0 with
      | none =>
       refine ⟨_,_,h,ok_rep (v := ie.zero) (b := mhas ka.eqv kx l) (ok := ok) (by unfold mgetD; rw [hf]; exact hzr),fun w t b c hu hheap=>?_⟩
       have hb:mhas ka.eqv kx l = false := by unfold mhas; rw [hf]; rfl
       rw [hb]
       simp [Instr.lookup,run_underlying hu,run_getObj_map (P := P) hheap,checkKey_data hdk hd,(tfind_run hdk hd hr kx w).1 hf,zeroValue_run (htab.get hie)]
      | some q =>
       obtain ⟨j,y⟩ := q
       obtain ⟨e,a1,a2,a3,a4,a5,_⟩ := (tfind_run hdk hd hr kx default).2 j y hf
       refine ⟨_,_,h,ok_rep (v := e.val) (b := mhas ka.eqv kx l) (ok := ok) (by unfold mgetD; rw [hf]; exact a5),fun w t b c hu hheap=>?_⟩
       have hb:mhas ka.eqv kx l = true := by unfold mhas; rw [hf]; rfl
       rw [hb]
       obtain ⟨e',b1,_,_,_,_,b6⟩ := (tfind_run hdk hd hr kx w).2 j y hf
       rw [a1] at b1; cases b1
       simp [Instr.lookup,run_underlying hu,run_getObj_map (P := P) hheap,checkKey_data hdk hd,b6]
theorem sLookup_sound {P:Program} {tab:Tab} (htab:TabOk P tab) {M:Imm} {ρ:Env} {H:List SObj} {w:World} {K:Post} (hm:Mem M ρ H w) {t:Nat} {m k:SV} {vm vk:Value} {ok:Bool} (hmr:SRep M ρ vm m) (hkr:SRep M ρ vk k)
  (h:(sLookup P tab H t m k ok).holds H K):DoesV P (Instr.lookup t vm vk ok) M ρ H w K := by
 unfold sLookup at h
 split at h
 ·rename_i s
  split at h
  ·rename_i ka va l ho
   split at h
   ·rename_i kt et _ _ _ _ hte
    cases hmr with
    | mp _ p hp =>
     obtain ⟨arr,hheap,hrep⟩ := MapAt.rep (hm.own s _ ho) hp
     obtain ⟨v,x,h1,h2,h3⟩ := lookT_run htab hkr h hrep
     exact DoesV.same hm (h3 w t p.block _ (htab.get hte).und hheap) h2 h1
   ·exact h.elim
  ·rename_i es c ho
   split at h
   ·rename_i kt et _ _ _ _ hte
    split at h
    ·split at h
     ·cases hmr with
      | mp _ p hp =>
       obtain ⟨arr,hheap,hrep⟩ := (hm.own s _ ho).mapRep hp
       obtain ⟨v,x,h1,h2,h3⟩ := lookM_run htab hkr h hrep
       exact DoesV.same hm (h3 w t p.block _ (htab.get hte).und hheap) h2 h1
     ·exact sLookup0_sound htab hm hmr hkr h
    ·exact h.elim
   ·exact h.elim
  ·exact sLookup0_sound htab hm hmr hkr h
 ·exact sLookup0_sound htab hm hmr hkr h
theorem tmap_put {P:Program} {M:Imm} {ρ:Env} {H:List SObj} {w:World} {s:Nat} {ka va:ATy} {l l':List (ka.El × va.El)} {p:Place} {arr arr':Array MapEntry} (hm:Mem M ρ H w) (ho:H[s]? = some (.tmap ka va l)) (hp:ρ s = some p)
  (hheap:w.heap[p.block]? = some (.map arr l.length)) (hr:MapRep M ρ arr' (entsFrom ka va 0 l')):Mem M ρ (H.set s (.tmap ka va l')) { w with heap := w.heap.setIfInBounds p.block (.map arr' l'.length) } ∧
   Fr M ρ H w M ρ (H.set s (.tmap ka va l')) { w with heap := w.heap.setIfInBounds p.block (.map arr' l'.length) } H.length [s] [] := by
 have hlt:p.block < w.heap.size := (Array.getElem?_eq_some_iff.1 hheap).1
 exact hm.put ho rfl hp (fun b hb=>putHeap_ne hb) (by simp) rfl ⟨p,arr',hp,by simp [hlt],hr.sz,hr.rep⟩
def sMapUpdate (P:Program) (tab:Tab) (H:List SObj) (t:Nat) (m k x:SV):Res :=
 match m with
 | .mp s=>match H[s]? with
  | some (.tmap ka va l)=>match tab.lookup t with
   | some { desc := .map kt et,.. }=>match tab.lookup kt with
    | none=>.fail
    | some ik=>match descK ik.desc ka with
     | false=>.fail
     | true=>match ka.ofSV k with
      | none=>.fail
      | some kx=>match va.ofSV x with
       | none=>.fail
       | some y=>.eff .any (H.set s (.tmap ka va (mput ka.eqv kx y l))) [s] []
   | _=>.fail
  | _=>sMapUpdate0 P tab H t m k x
 | _=>sMapUpdate0 P tab H t m k x
theorem sMapUpdate_sound {P:Program} {tab:Tab} (htab:TabOk P tab) {M:Imm} {ρ:Env} {H:List SObj} {w:World} {K:Post} (hm:Mem M ρ H w) {t:Nat} {m k x:SV} {vm vk v:Value} (hmr:SRep M ρ vm m) (hkr:SRep M ρ vk k) (hx:SRep M ρ v x)
  (h:(sMapUpdate P tab H t m k x).holds H K):DoesU P (Instr.mapUpdate t vm vk v) M ρ H w K := by
 unfold sMapUpdate at h
 split at h
 ·rename_i s
  split at h
  ·rename_i ka va l ho
   split at h
   ·rename_i kt et _ _ _ _ hte
    have hu:P.underlying t = some (.map kt et) := (htab.get hte).und
    split at h
    ·exact h.elim
    ·rename_i ik hik
     split at h
     ·exact h.elim
     ·rename_i hd
      split at h
      ·exact h.elim
      ·rename_i kx hkx
       split at h
       ·exact h.elim
       ·rename_i y hy
        have hvk := keyV_of_raw (descK_scalar hd) (ATy.ofSV_sound hkx hkr)
        subst hvk
        have hdk:P.underlying kt = some ik.desc := (htab.get hik).und
        have hyr := ATy.ofSV_sound hy hx
        cases hmr with
        | mp _ p hp =>
         obtain ⟨arr,hheap,hrep⟩ := MapAt.rep (hm.own s _ ho) hp
         have hget := run_getObj_map (P := P) hheap
         cases hf:mfind ka.eqv kx l 0 with
         | none =>
          have hl':mput ka.eqv kx y l = l ++ [(kx,y)] := by unfold mput; rw [hf]
          rw [hl'] at h
          obtain ⟨g1,g2⟩ := tmap_put (P := P) hm ho hp hheap (l' := l ++ [(kx,y)]) (arr' := arr.push { key := ka.keyV kx,val := v,born := l.length }) (by
           have := hrep.push (k := ka.keyV kx) (c := l.length) hyr
           rw [entsFrom_app]; simpa using this)
          refine ⟨_,?_,.any,_,[s],[],M,ρ,h,rfl,g1,g2⟩
          simp [Instr.mapUpdate,run_underlying hu,hget,checkKey_data hdk hd,(tfind_run hdk hd hrep kx w).1 hf,run_setObj hheap]
         | some q =>
          obtain ⟨j,y0⟩ := q
          obtain ⟨e,a1,a2,a3,a4,a5,a6⟩ := (tfind_run hdk hd hrep kx w).2 j y0 hf
          have hl':mput ka.eqv kx y l = l.set j (kx,y) := by unfold mput; rw [hf]
          rw [hl'] at h
          obtain ⟨g1,g2⟩ := tmap_put (P := P) hm ho hp hheap (l' := l.set j (kx,y)) (arr' := arr.modify j fun e=>{ e with key := ka.keyV kx,val := v }) (by
           have := hrep.set (k := ka.keyV kx) a1 hyr a4 (fun e=>{ e with key := ka.keyV kx,val := v }) rfl
           rw [entsFrom_set]; simpa using this)
          refine ⟨_,?_,.any,_,[s],[],M,ρ,h,rfl,g1,g2⟩
          have hks:(Instr.keyThatStays (((arr[j]?).map (·.key)).getD (ka.keyV kx)) (ka.keyV kx)).run P w = .ok (ka.keyV kx) w := by
           rw [a1]; simp only [Option.map_some,Option.getD_some,a3]
           simp [Instr.keyThatStays,sameBits_data hd]
          simp [Instr.mapUpdate,run_underlying hu,hget,checkKey_data hdk hd,a6,hks,run_setObj hheap]
   ·exact h.elim
  ·exact sMapUpdate0_sound htab hm hmr hkr hx h
 ·exact sMapUpdate0_sound htab hm hmr hkr hx h
def mtouch {K V:Type} (eq:K → K → Bool) (k:K) (l:List (K × V)) (z:V):List (K × V) := match mfind eq k l 0 with
 | some p=>l.set p.1 (k,p.2)
 | none=>l ++ [(k,z)]
def sMapEntry (P:Program) (tab:Tab) (H:List SObj) (t:Nat) (m k:SV):Res :=
 match m with
 | .mp s=>match H[s]? with
  | some (.tmap ka va l)=>match tab.lookup t with
   | some { desc := .map kt et,.. }=>match tab.lookup kt with
    | none=>.fail
    | some ik=>match descK ik.desc ka with
     | false=>.fail
     | true=>match tab.lookup et with
      | none=>.fail
      | some ie=>match ka.ofSV k with
       | none=>.fail
       | some kx=>match va.ofZ ie.zero with
        | none=>.fail
        | some z=>.eff (.tup [va.raw (mgetD ka.eqv kx l z),.lit (.int .i64 (midx ka.eqv kx l))]) (H.set s (.tmap ka va (mtouch ka.eqv kx l z))) [s] []
   | _=>.fail
  | _=>sMapEntry0 P tab H t m k
 | _=>sMapEntry0 P tab H t m k
theorem sMapEntry_sound {P:Program} {tab:Tab} (htab:TabOk P tab) {M:Imm} {ρ:Env} {H:List SObj} {w:World} {K:Post} (hm:Mem M ρ H w) {t:Nat} {m k:SV} {vm vk:Value} (hmr:SRep M ρ vm m) (hkr:SRep M ρ vk k)
  (h:(sMapEntry P tab H t m k).holds H K):DoesV P (Instr.mapEntry t vm vk) M ρ H w K := by
 unfold sMapEntry at h
 split at h
 ·rename_i s
  split at h
  ·rename_i ka va l ho
   split at h
   ·rename_i kt et _ _ _ _ hte
    have hu:P.underlying t = some (.map kt et) := (htab.get hte).und
    split at h
    ·exact h.elim
    ·rename_i ik hik
     split at h
     ·exact h.elim
     ·rename_i hd
      split at h
      ·exact h.elim
      ·rename_i ie hie
       split at h
       ·exact h.elim
       ·rename_i kx hkx
        split at h
        ·exact h.elim
        ·rename_i z hz
         have hvk := keyV_of_raw (descK_scalar hd) (ATy.ofSV_sound hkx hkr)
         subst hvk
         have hdk:P.underlying kt = some ik.desc := (htab.get hik).und
         have hzr:SRep M ρ ie.zero (va.raw z) := ATy.ofSV_sound (M := M) (ρ := ρ) hz (.pv (.lit _))
         cases hmr with
         | mp _ p hp =>
          obtain ⟨arr,hheap,hrep⟩ := MapAt.rep (hm.own s _ ho) hp
          have hget := run_getObj_map (P := P) hheap
          cases hf:mfind ka.eqv kx l 0 with
          | none =>
           have e1:mtouch ka.eqv kx l z = l ++ [(kx,z)] := by unfold mtouch; rw [hf]
           have e2:mgetD ka.eqv kx l z = z := by unfold mgetD; rw [hf]
           have e3:midx ka.eqv kx l = l.length := by unfold midx; rw [hf]
           rw [e1,e2,e3] at h
           obtain ⟨g1,g2⟩ := tmap_put (P := P) hm ho hp hheap (l' := l ++ [(kx,z)]) (arr' := arr.push { key := ka.keyV kx,val := ie.zero,born := l.length }) (by
            have := hrep.push (k := ka.keyV kx) (c := l.length) hzr
            rw [entsFrom_app]; simpa using this)
           refine ⟨.tuple #[ie.zero,goInt l.length],_,?_,_,_,[s],[],M,ρ,h,tup2_rep hzr (.pv (.lit _)),g1,g2⟩
           simp [Instr.mapEntry,run_underlying hu,hget,checkKey_data hdk hd,(tfind_run hdk hd hrep kx w).1 hf,run_setObj hheap,zeroValue_run (htab.get hie)]
          | some q =>
           obtain ⟨j,y0⟩ := q
           obtain ⟨e,a1,a2,a3,a4,a5,a6⟩ := (tfind_run hdk hd hrep kx w).2 j y0 hf
           have e1:mtouch ka.eqv kx l z = l.set j (kx,y0) := by unfold mtouch; rw [hf]
           have e2:mgetD ka.eqv kx l z = y0 := by unfold mgetD; rw [hf]
           have e3:midx ka.eqv kx l = j := by unfold midx; rw [hf]
           rw [e1,e2,e3] at h
           obtain ⟨g1,g2⟩ := tmap_put (P := P) hm ho hp hheap (l' := l.set j (kx,y0)) (arr' := arr.modify j fun e=>{ e with key := ka.keyV kx }) (by
            have := hrep.set (k := ka.keyV kx) a1 a5 a4 (fun e=>{ e with key := ka.keyV kx }) rfl
            rw [entsFrom_set]; simpa using this)
           refine ⟨.tuple #[e.val,goInt e.born],_,?_,_,_,[s],[],M,ρ,h,?_,g1,g2⟩
           ·have hks:(Instr.keyThatStays e.key (ka.keyV kx)).run P w = .ok (ka.keyV kx) w := by
             rw [a3]; simp [Instr.keyThatStays,sameBits_data hd]
            simp [Instr.mapEntry,run_underlying hu,hget,checkKey_data hdk hd,a6,hks,run_setObj hheap,a1]
           ·rw [a4]; exact tup2_rep a5 (.pv (.lit _))
   ·exact h.elim
  ·exact sMapEntry0_sound htab hm hmr hkr h
 ·exact sMapEntry0_sound htab hm hmr hkr h
def mset {K V:Type} (j:Nat) (x:V) (l:List (K × V)):List (K × V) := match l[j]? with
 | some e=>l.set j (e.1,x)
 | none=>l
def sEntryStore (H:List SObj) (m st x:SV):Res :=
 match m with
 | .mp s=>match H[s]? with
  | some (.tmap ka va l)=>match st with
   | .pv (.lit (.int _ n))=>match va.ofSV x with
    | none=>.fail
    | some y=>.need (decide (0 ≤ n)) (.need (decide (n.toNat < l.length)) (.eff .any (H.set s (.tmap ka va (mset n.toNat y l))) [s] []))
   | _=>.fail
  | _=>sEntryStore0 H m st x
 | _=>sEntryStore0 H m st x
theorem sEntryStore_sound {P:Program} {M:Imm} {ρ:Env} {H:List SObj} {w:World} {K:Post} (hm:Mem M ρ H w) {t:Nat} {m st x:SV} {vm vs v:Value} (hmr:SRep M ρ vm m) (hst:SRep M ρ vs st) (hx:SRep M ρ v x)
  (h:(sEntryStore H m st x).holds H K):DoesU P (Instr.entryStore t vm vs v) M ρ H w K := by
 unfold sEntryStore at h
 split at h
 ·rename_i s
  split at h
  ·rename_i ka va l ho
   split at h
   ·rename_i k n
    have := hst.lit_eq; subst this
    split at h
    ·exact h.elim
    ·rename_i y hy
     obtain ⟨h0,h1,h⟩ := h
     have h0 := of_decide_eq_true h0
     have h1 := of_decide_eq_true h1
     have hyr := ATy.ofSV_sound hy hx
     obtain ⟨j,rfl⟩:∃ j:Nat,n = j := ⟨n.toNat,by omega⟩
     simp only [Int.toNat_natCast] at h h1
     cases hmr with
     | mp _ p hp =>
      obtain ⟨arr,hheap,hrep⟩ := MapAt.rep (hm.own s _ ho) hp
      have hsz := hrep.sz
      rw [entsFrom_len] at hsz
      have hgete:∀ (i:Nat) (hi:i < l.length),∃ e,arr[i]? = some e ∧ e.key = ka.keyV l[i].1 ∧ e.born = i ∧ SRep M ρ e.val (va.raw l[i].2) := fun i hi=>by
       obtain ⟨e,a1,a2,a3,a4⟩ := hrep.rep i (ka.keyV l[i].1) (va.raw l[i].2) i (by rw [entsFrom_get,List.getElem?_eq_getElem hi]; simp)
       exact ⟨e,a1,a2,a3,a4⟩
      obtain ⟨e,a1,a2,a3,a4⟩ := hgete j h1
      have hidx:arr.findIdx? (fun e=>(e.born:Int) == (j:Int)) = some j := by
       rw [Array.findIdx?_eq_some_iff_getElem]
       refine ⟨by omega,?_,fun i hi=>?_⟩
       ·rw [Array.getElem?_eq_getElem (by omega)] at a1
        simp only [Option.some.injEq] at a1
        rw [a1,a3]; simp
       ·obtain ⟨e',b1,_,b3,_⟩ := hgete i (by omega)
        rw [Array.getElem?_eq_getElem (by omega)] at b1
        simp only [Option.some.injEq] at b1
        rw [b1,b3]; simp; omega
      have el:mset j y l = l.set j (l[j].1,y) := by unfold mset; rw [List.getElem?_eq_getElem h1]
      rw [el] at h
      obtain ⟨g1,g2⟩ := tmap_put (P := P) hm ho hp hheap (l' := l.set j (l[j].1,y)) (arr' := arr.modify j fun e=>{ e with val := v }) (by
       have := hrep.set (k := ka.keyV l[j].1) a1 hyr a3 (fun e=>{ e with val := v }) (by rw [← a2])
       rw [entsFrom_set]; simpa using this)
      refine ⟨_,?_,.any,_,[s],[],M,ρ,h,rfl,g1,g2⟩
      simp [Instr.entryStore,run_getObj_map (P := P) hheap,asInt,asIntOf,hidx,run_setObj hheap]
   ·exact h.elim
  ·exact sEntryStore0_sound hm hmr hst hx h
 ·exact sEntryStore0_sound hm hmr hst hx h
def SObj.ents:SObj → Option (List (Value × SV × Nat) × Nat)
 | .map es c=>some (es,c)
 | .tmap k v l=>some (entsFrom k v 0 l,l.length)
 | _=>none
theorem ents_at {M:Imm} {ρ:Env} {w:World} {s:Nat} {o:SObj} {q:List (Value × SV × Nat) × Nat} (h:o.ents = some q) (ho:OwnAt M ρ w s o):MapAt M ρ w s q.1 q.2 := by
 cases o <;> first | (cases h; done) | (cases h; exact ho)
def sRange (tab:Tab) (H:List SObj) (t:Nat) (x:SV):Res :=
 match tab.lookup t,x with
 | some { desc := .string,.. },.pv (.lit (.string s))=>.eff (.ptr H.length 0 0 0) (H ++ [.iter s 0]) [] []
 | some { desc := .map _ _,.. },.mp m=>match H[m]? with
  | some o=>match o.ents with
   | some q=>.eff (.ptr H.length 0 0 0) (H ++ [.mit (some m) q.2 []]) [] []
   | none=>.fail
  | none=>.fail
 | _,_=>.fail
theorem sRange_sound {P:Program} {tab:Tab} (htab:TabOk P tab) {M:Imm} {ρ:Env} {H:List SObj} {w:World} {K:Post} (hm:Mem M ρ H w) {t:Nat} {x:SV} {v:Value} (hx:SRep M ρ v x) (h:(sRange tab H t x).holds H K):DoesV P (Instr.range t v) M ρ H w K := by
 unfold sRange at h
 split at h
 ·rename_i sz' by' zr rw' s hte
  have hu:P.underlying t = some .string := (htab.get hte).und
  have := hx.lit_eq; subst this
  have hrun:(Instr.range t (.string s)).run P w = .ok (.pointer (some ⟨w.heap.size,0,none⟩)) (w.alloc (.stringIter s 0)) := by simp [Instr.range,run_underlying hu]
  obtain ⟨g1,g2⟩ := hm.alloc (w' := w.alloc (.stringIter s 0)) (o := .stringIter s 0) (so := .iter s 0) (cap := 0) rfl ⟨_,Env.set_self ..,heap_alloc_new w _⟩
  exact ⟨_,_,hrun,_,_,[],[],M,_,h,.ptr _ _ _ _ _ _ (Env.set_self ..) (by simp),g1,g2⟩
 ·rename_i k e sz' by' zr rw' m hte
  have hu:P.underlying t = some (.map k e) := (htab.get hte).und
  split at h
  ·rename_i o ho
   split at h
   ·rename_i q hq
    obtain ⟨es,c⟩ := q
    obtain ⟨pm,arr,h1,h2,h3,h4⟩ := ents_at hq (hm.own m _ ho)
    simp only at h2 h
    cases hx with
    | mp _ p hp =>
     rw [hp] at h1; cases h1
     have hget:(getObj pm.block).run P w = .ok (.map arr c) w := by simp [getObj,Sem.run,h2]
     have hrun:(Instr.range t (.map (some pm.block))).run P w = .ok (.pointer (some ⟨w.heap.size,0,none⟩)) (w.alloc (.mapIter (some pm.block) c #[] c)) := by simp [Instr.range,run_underlying hu,hget]
     have hne:m ≠ H.length := fun e=>by have := (List.getElem?_eq_some_iff.1 ho).1; omega
     obtain ⟨g1,g2⟩ := hm.alloc (w' := w.alloc (.mapIter (some pm.block) c #[] c)) (o := .mapIter (some pm.block) c #[] c) (so := .mit (some m) c []) (cap := 0) rfl
       ⟨_,_,_,Env.set_self ..,heap_alloc_new w _,rfl,fun mm e=>by cases e; exact ⟨pm,by rw [Env.set_ne _ _ hne]; exact hp,rfl⟩⟩
     exact ⟨_,_,hrun,_,_,[],[],M,_,h,.ptr _ _ _ _ _ _ (Env.set_self ..) (by simp),g1,g2⟩
   ·exact h.elim
  ·exact h.elim
 ·exact h.elim
def sNext (H:List SObj) (x:SV):Res :=
 match x with
 | .ptr s 0 0 0=>match H[s]? with
  | some (.iter b pos)=>.split (decide (pos < b.size))
    (.eff (.tup [.lit (.bool true),.lit (.int .i64 pos),.lit (.int .i32 (Utf8.decode b pos).1)]) (H.set s (.iter b (pos + (Utf8.decode b pos).2))) [s] [])
    (.ok (.tup [.lit (.bool false)]))
  | _=>.fail
 | _=>.fail
theorem sNext_sound {P:Program} {M:Imm} {ρ:Env} {H:List SObj} {w:World} {K:Post} (hm:Mem M ρ H w) {t:Nat} {x:SV} {v:Value} (hx:SRep M ρ v x) (h:(sNext H x).holds H K):DoesV P (Instr.next v true t) M ρ H w K := by
 unfold sNext at h
 split at h
 ·rename_i s
  split at h
  ·rename_i b pos ho
   cases hx with
   | ptr _ _ _ _ k p hp hk =>
    obtain ⟨q,h1,h2⟩ := hm.own s _ ho
    rw [hp] at h1; cases h1
    have hk0:k = 0 := by simpa using hk
    subst hk0
    have hget:(getObj p.block).run P w = .ok (.stringIter b pos) w := by simp [getObj,Sem.run,h2]
    have hset:∀ o,(setObj p.block o).run P w = .ok () { w with heap := w.heap.setIfInBounds p.block o } := fun o=>by simp [setObj,Sem.run,h2]
    have hlt:p.block < w.heap.size := (Array.getElem?_eq_some_iff.1 h2).1
    obtain ⟨ht,hf⟩ := h
    by_cases hpos:pos < b.size
    ·have h' := ht (by simpa using hpos)
     obtain ⟨g1,g2⟩ := hm.put (so := .iter b (pos + (Utf8.decode b pos).2)) (w' := { w with heap := w.heap.setIfInBounds p.block (.stringIter b (pos + (Utf8.decode b pos).2)) }) ho rfl hp (fun b' hb=>putHeap_ne hb) (by simp) rfl
      ⟨p,hp,by simp [hlt]⟩
     refine ⟨.tuple #[.bool true,goInt pos,.int .i32 (Utf8.decode b pos).1],_,?_,_,_,[s],[],M,ρ,h',?_,g1,g2⟩
     ·simp [Instr.next,hget,hpos,hset]
     ·refine .tup _ _ rfl fun i a c ha hc=>?_
      match i with
      | 0=>simp at ha hc; subst ha; subst hc; exact .pv (.lit _)
      | 1=>simp at ha hc; subst ha; subst hc; exact .pv (.lit _)
      | 2=>simp at ha hc; subst ha; subst hc; exact .pv (.lit _)
      | i + 3=>simp at hc
    ·have h' := hf (by simpa using hpos)
     refine DoesV.same hm (v := .tuple #[.bool false]) ?_ ?_ h'
     ·simp [Instr.next,hget,hpos]
     ·refine .tup _ _ rfl fun i a c ha hc=>?_
      match i with
      | 0=>simp at ha hc; subst ha; subst hc; exact .pv (.lit _)
      | i + 1=>simp at hc
  ·exact h.elim
 ·exact h.elim
def nextAll (s m c:Nat) (seen:List Nat) (H:List SObj):List (Value × SV × Nat) → Res
 | []=>.ok (.tup [.lit (.bool false)])
 | [e]=>.eff (.tup [.lit (.bool true),.lit e.1,e.2.1]) (H.set s (.mit (some m) c (seen ++ [e.2.2]))) [s] []
 | e :: e' :: es=>.both (.eff (.tup [.lit (.bool true),.lit e.1,e.2.1]) (H.set s (.mit (some m) c (seen ++ [e.2.2]))) [s] []) (nextAll s m c seen H (e' :: es))
def sNextM (H:List SObj) (x:SV):Res :=
 match x with
 | .ptr s 0 0 0=>match H[s]? with
  | some (.mit (some m) c seen)=>match H[m]? with
   | some o=>match o.ents with
    | some q=>.need (Nat.beq q.2 c && q.1.all fun e=>Nat.blt e.2.2 c) (nextAll s m c seen H (q.1.filter fun e=>!seen.contains e.2.2))
    | none=>.fail
   | none=>.fail
  | _=>.fail
 | _=>.fail
theorem nextAll_none {s m c:Nat} {seen:List Nat} {H:List SObj} {K:Post} {l:List (Value × SV × Nat)} (h:(nextAll s m c seen H l).holds H K) (hl:l = []):K (.tup [.lit (.bool false)]) H [] [] := by
 subst hl; exact h
theorem nextAll_some {s m c:Nat} {seen:List Nat} {H:List SObj} {K:Post}:∀ {l:List (Value × SV × Nat)},(nextAll s m c seen H l).holds H K → ∀ e ∈ l,K (.tup [.lit (.bool true),.lit e.1,e.2.1]) (H.set s (.mit (some m) c (seen ++ [e.2.2]))) [s] []
 | [],h,e,he=>by cases he
 | [e0],h,e,he=>by rw [List.mem_singleton.1 he]; exact h
 | e0 :: e1 :: l,h,e,he=>by
  rcases List.mem_cons.1 he with rfl | he
  ·exact h.1
  ·exact nextAll_some (l := e1 :: l) h.2 e he
theorem sNextM_sound {P:Program} {M:Imm} {ρ:Env} {H:List SObj} {w:World} {K:Post} (hm:Mem M ρ H w) {t:Nat} {x:SV} {v:Value} (hx:SRep M ρ v x) (h:(sNextM H x).holds H K):DoesV P (Instr.next v false t) M ρ H w K := by
 unfold sNextM at h
 split at h
 ·rename_i s
  split at h
  ·rename_i m c seen ho
   split at h
   rotate_left
   ·exact h.elim
   rename_i om hom0
   split at h
   ·rename_i qm hqm
    obtain ⟨es,c'⟩ := qm
    have hom := ents_at hqm (hm.own m _ hom0)
    obtain ⟨hc,h⟩ := h
    rw [Bool.and_eq_true] at hc
    simp only at hc h hom
    have hcc := Nat.eq_of_beq_eq_true hc.1
    subst hcc
    have hbn:∀ e ∈ es,e.2.2 < c' := fun e he=>by
     have := List.all_eq_true.1 hc.2 e he
     rwa [Nat.blt_eq] at this
    cases hx with
    | ptr _ _ _ _ k p hp hk =>
     obtain ⟨p',q,sn,h1,h2,h3,h4⟩ := hm.own s _ ho
     rw [hp] at h1; cases h1
     obtain ⟨pm,a1,a2⟩ := h4 m rfl
     subst a2
     obtain ⟨pm',arr,b1,b2,b3,b4⟩ := hom
     rw [a1] at b1; cases b1
     have hk0:k = 0 := by simpa using hk
     subst hk0
     have hent:∀ (i:Nat) (me:MapEntry),arr[i]? = some me → ∃ e,es[i]? = some e ∧ me.key = e.1 ∧ me.born = e.2.2 ∧ SRep M ρ me.val e.2.1 := fun i me hme=>by
      have hi:i < es.length := by rw [← b3]; exact (Array.getElem?_eq_some_iff.1 hme).1
      obtain ⟨e,d1,d2,d3,d4⟩ := b4 i _ _ _ (List.getElem?_eq_getElem hi)
      rw [hme] at d1; cases d1
      exact ⟨_,List.getElem?_eq_getElem hi,d2,d3,d4⟩
     have hold:∀ me ∈ arr.toList,me.born < c' := fun me hme=>by
      obtain ⟨i,hi⟩ := List.getElem?_of_mem hme
      obtain ⟨e,d1,_,d3,_⟩ := hent i me (by simpa using hi)
      rw [d3]; exact hbn e (List.mem_of_getElem? d1)
     have hleft:∀ me,me ∈ (leftOf arr sn).toList ↔ me ∈ arr.toList ∧ ¬ me.born ∈ seen := fun me=>by
      unfold leftOf
      simp [← h3]
     rcases run_next_at (P := P) w t p.block pm.block c' c' sn arr c' h2 b2 hold (Nat.le_refl _) with ⟨hz,hr⟩ | ⟨me,hme,w1,hw1,hr⟩
     ·have hnil:(es.filter fun e=>!seen.contains e.2.2) = [] := by
       rw [List.filter_eq_nil_iff]
       intro e he
       obtain ⟨i,hi⟩ := List.getElem?_of_mem he
       obtain ⟨me,d1,d2,d3,d4⟩ := b4 i e.1 e.2.1 e.2.2 hi
       intro hn
       have hmem:me ∈ (leftOf arr sn).toList := (hleft me).2 ⟨by simpa using Array.mem_of_getElem? d1,by rw [d3]; simpa using hn⟩
       have:(leftOf arr sn).toList = [] := by simpa using hz
       rw [this] at hmem; cases hmem
      have hk := nextAll_none h hnil
      refine DoesV.same hm hr ?_ hk
      refine .tup _ _ rfl fun i a c ha hc=>?_
      match i with
      | 0=>simp at ha hc; subst ha; subst hc; exact .pv (.lit _)
      | i + 1=>simp at hc
     ·obtain ⟨m1,m2⟩ := (hleft me).1 hme
      obtain ⟨i,hi⟩ := List.getElem?_of_mem m1
      obtain ⟨e,d1,d2,d3,d4⟩ := hent i me (by simpa using hi)
      have hein:e ∈ es.filter fun e=>!seen.contains e.2.2 := List.mem_filter.2 ⟨List.mem_of_getElem? d1,by rw [← d3]; simpa using m2⟩
      have hk := nextAll_some h e hein
      have hlt:p.block < w.heap.size := (Array.getElem?_eq_some_iff.1 h2).1
      have hh1:w1.heap = w.heap ∧ w1.os = w.os ∧ w1.output = w.output := by rcases hw1 with rfl | rfl <;> exact ⟨rfl,rfl,rfl⟩
      obtain ⟨g1,g2⟩ := hm.put (so := .mit (some m) c' (seen ++ [e.2.2])) (w' := ChangeMaps.setBlock w1 p.block (.mapIter (some pm.block) c' (sn.push me.born) c')) ho rfl hp
       (fun b' hb=>by
        show (w1.heap.setIfInBounds p.block _)[b']? = _
        rw [hh1.1,Array.getElem?_setIfInBounds,if_neg fun e=>hb e.symm])
       (by show (w1.heap.setIfInBounds p.block _).size = _; rw [hh1.1]; simp) rfl
       ⟨p,some pm.block,sn.push me.born,hp,by show (w1.heap.setIfInBounds p.block _)[p.block]? = _; rw [hh1.1]; simp [hlt],by simp [h3,d3],fun mm e=>by cases e; exact ⟨pm,a1,rfl⟩⟩
       ⟨hh1.2.1,hh1.2.2⟩
      refine ⟨_,_,hr,_,_,[s],[],M,ρ,hk,?_,g1,g2⟩
      refine .tup _ _ rfl fun i a c ha hc=>?_
      match i with
      | 0=>simp at ha hc; subst ha; subst hc; exact .pv (.lit _)
      | 1=>simp at ha hc; subst ha; subst hc; rw [d2]; exact .pv (.lit _)
      | 2=>simp at ha hc; subst ha; subst hc; exact d4
      | i + 3=>simp at hc
   ·exact h.elim
  ·exact h.elim
 ·exact h.elim
def sEntry (H:List SObj) (x:SV):Res :=
 match x with
 | .ptr s 0 0 0=>match H[s]? with
  | some (.mit (some m) c seen)=>match H[m]? with
   | some o=>match o.ents with
    | some q=>match seen.getLast? with
     | some st=>match q.1.find? fun e=>Nat.beq e.2.2 st with
      | some e=>.need (Nat.beq q.2 c) (.ok (.tup [.lit e.1,e.2.1]))
      | none=>.fail
     | none=>.fail
    | none=>.fail
   | none=>.fail
  | _=>.fail
 | _=>.fail
theorem sEntry_sound {P:Program} {M:Imm} {ρ:Env} {H:List SObj} {w:World} {K:Post} (hm:Mem M ρ H w) {x:SV} {v:Value} (hx:SRep M ρ v x) (h:(sEntry H x).holds H K):DoesV P (Instr.entry v) M ρ H w K := by
 unfold sEntry at h
 split at h
 rotate_left
 ·exact h.elim
 rename_i s
 split at h
 rotate_left
 ·exact h.elim
 rename_i m c seen ho
 split at h
 rotate_left
 ·exact h.elim
 rename_i om hom0
 split at h
 rotate_left
 ·exact h.elim
 rename_i qm hqm
 obtain ⟨es,c'⟩ := qm
 have hom := ents_at hqm (hm.own m _ hom0)
 split at h
 rotate_left
 ·exact h.elim
 rename_i st hst
 split at h
 rotate_left
 ·exact h.elim
 rename_i e he
 obtain ⟨hc,h⟩ := h
 simp only at hc h hom he
 have hcc := Nat.eq_of_beq_eq_true hc
 subst hcc
 cases hx with
 | ptr _ _ _ _ k p hp hk =>
  obtain ⟨p',q,sn,h1,h2,h3,h4⟩ := hm.own s _ ho
  rw [hp] at h1; cases h1
  obtain ⟨pm,a1,a2⟩ := h4 m rfl
  subst a2
  obtain ⟨pm',arr,b1,b2,b3,b4⟩ := hom
  rw [a1] at b1; cases b1
  have hk0:k = 0 := by simpa using hk
  subst hk0
  obtain ⟨hp1,i,hi,hei,hmin⟩ := List.find?_eq_some_iff_getElem.1 he
  obtain ⟨me,d1,d2,d3,d4⟩ := b4 i e.1 e.2.1 e.2.2 (by rw [List.getElem?_eq_getElem hi,hei])
  have hst':e.2.2 = st := Nat.eq_of_beq_eq_true hp1
  have hf:arr.find? (fun x=>x.born == st) = some me := by
   rw [← Array.find?_toList]
   obtain ⟨hia,hme⟩ := Array.getElem?_eq_some_iff.1 d1
   refine List.find?_eq_some_iff_getElem.2 ⟨by rw [d3,hst']; simp,i,by simpa using hia,by simpa using hme,fun j hj=>?_⟩
   have hj':j < es.length := by omega
   obtain ⟨mj,e1,e2,e3,e4⟩ := b4 j _ _ _ (List.getElem?_eq_getElem hj')
   have hja:j < arr.size := by omega
   have e1':arr[j] = mj := by rw [Array.getElem?_eq_getElem hja] at e1; exact Option.some.inj e1
   have hne := hmin j hj
   simp only [Array.getElem_toList,e1',e3]
   cases hb:Nat.beq (es[j]).2.2 st with
   | true=>rw [hb] at hne; simp at hne
   | false =>
    have:(es[j]).2.2 ≠ st := fun hh=>by rw [hh,Nat.beq_refl] at hb; cases hb
    simp [this]
  have hback:sn.back? = some st := by rw [← h3] at hst; rw [← Array.getLast?_toList]; exact hst
  refine DoesV.same hm (v := .tuple #[me.key,me.val]) ?_ ?_ h
  ·simp only [Instr.entry,getObj,Sem.run_bind,Sem.run,h2,b2,Result.andThen,hback,bne_self_eq_false,Bool.false_eq_true,if_false,hf]
   rfl
  ·refine .tup _ _ rfl fun i a b ha hb=>?_
   match i with
   | 0=>simp at ha hb; subst ha; subst hb; rw [d2]; exact .pv (.lit _)
   | 1=>simp at ha hb; subst ha; subst hb; exact d4
   | i + 2=>simp at hb
def DoesN (P:Program) (S:Sem Next) (M:Imm) (ρ:Env) (H:List SObj) (w:World) (K:Post):Prop :=
 ∃ v w',(S.run P w = .ok (.value v) w' ∨ (S.run P w = .ok .skip w' ∧ v = undef)) ∧ ∃ x H' tch fg M' ρ',K x H' tch fg ∧ SRep M' ρ' v x ∧ Mem M' ρ' H' w' ∧ Fr M ρ H w M' ρ' H' w' H.length tch fg
theorem DoesV.toN {P:Program} {S:Sem Value} {M:Imm} {ρ:Env} {H:List SObj} {w:World} {K:Post} (h:DoesV P S M ρ H w K):DoesN P (do pure (.value (← S))) M ρ H w K := by
 obtain ⟨v,w',hr,rest⟩ := h
 exact ⟨v,w',.inl (by simp [hr]),rest⟩
theorem DoesU.toN {P:Program} {S:Sem Unit} {M:Imm} {ρ:Env} {H:List SObj} {w:World} {K:Post} (h:DoesU P S M ρ H w K):DoesN P (do S; pure .skip) M ρ H w K := by
 obtain ⟨w',hr,x,H',t,g,M',ρ',hk,rfl,m,f⟩ := h
 exact ⟨undef,w',.inr ⟨by simp [hr],rfl⟩,.any,H',t,g,M',ρ',hk,.any _,m,f⟩
theorem DoesN.same {P:Program} {S:Sem Next} {M:Imm} {ρ:Env} {H:List SObj} {w:World} {K:Post} {v:Value} {x:SV} (hm:Mem M ρ H w) (hr:S.run P w = .ok (.value v) w) (hx:SRep M ρ v x) (hk:K x H [] []):DoesN P S M ρ H w K :=
 ⟨v,w,.inl hr,x,H,[],[],M,ρ,hk,hx,hm,Fr.refl ..⟩
def SV.litV:SV → Value
 | .pv (.lit v)=>v
 | _=>undef
def SV.isLit:SV → Bool
 | .pv (.lit _)=>true
 | _=>false
theorem litV_eq {M:Imm} {ρ:Env} {v:Value} {x:SV} (h:SRep M ρ v x) (hx:x.isLit = true):v = x.litV := by
 match x,hx with
 | .pv (.lit u),_=>exact h.lit_eq
def isSelect:Op → Bool
 | .select ..=>true
 | _=>false
def sPure (P:Program) (ev:Operand → SV) (o:Oper):Res :=
 if (!isSelect o.op && o.op.operands.all fun x=>(ev x).isLit) = true then match pureRun P (execOp (fun x=>(ev x).litV) o) with
  | some (.value v)=>.ok (.lit v)
  | _=>.fail
 else .fail
theorem sPure_sound {P:Program} {M:Imm} {ρ:Env} {H:List SObj} {w:World} {K:Post} {ev:Operand → SV} {va:Operand → Value} (hm:Mem M ρ H w) (hev:∀ x,SRep M ρ (va x) (ev x)) {o:Oper}
  (h:(sPure P ev o).holds H K):DoesN P (execOp va o) M ρ H w K := by
 unfold sPure at h
 split at h
 ·rename_i hc
  simp only [Bool.and_eq_true,Bool.not_eq_true'] at hc
  split at h
  ·rename_i v hv
   have he:execOp va o = execOp (fun x=>(ev x).litV) o := by
    refine execOp_congr o (fun cs b hsel=>by rw [hsel] at hc; simp [isSelect] at hc) fun x hx=>?_
    have := Array.all_eq_true_iff_forall_mem.1 hc.2 x hx
    exact litV_eq (hev x) this
   rw [he]
   exact DoesN.same hm (pureRun_run hv w) (.pv (.lit _)) h
  ·exact h.elim
 ·exact h.elim
def inI64 (n:Int):Bool := decide (-9223372036854775808 ≤ n) && decide (n ≤ 9223372036854775807)
theorem wrap_inI64 {n:Int} (h:inI64 n = true):IntKind.i64.wrap n = n := by
 simp only [inI64,Bool.and_eq_true,decide_eq_true_eq] at h
 exact IntWalk.i64_in _ (by omega)
def w64 (n:Int):Int := IntKind.i64.wrap n
theorem w64_in {n:Int} (h0:-9223372036854775808 ≤ n) (h1:n ≤ 9223372036854775807):w64 n = n := IntWalk.i64_in _ (by omega)
theorem isAgg_run {P:Program} {t:TypeId} {i:TI} (h:TyOk P t i) (w:World):(isAgg t).run P w = .ok i.desc.isRow w := by
 unfold isAgg
 rw [Sem.run_bind,run_underlying h.und w]
 generalize i.desc = d
 cases d <;> simp [TypeDesc.isRow]
def SV.cells?:SV → Option (List SV)
 | .agg l=>some l
 | .pv (.lit (.agg a))=>some (a.toList.map .lit)
 | _=>none
theorem cells?_rep {M:Imm} {ρ:Env} {v:Value} {x:SV} {l:List SV} (h:x.cells? = some l) (hr:SRep M ρ v x) :
  ∃ cs,v = .agg cs ∧ cs.size = l.length ∧ ∀ (i:Nat) (v:Value) (x:SV),cs[i]? = some v → l[i]? = some x → SRep M ρ v x := by
 unfold SV.cells? at h
 split at h
 ·cases h
  cases hr with
  | agg cs _ hl hr=>exact ⟨cs,rfl,hl,hr⟩
 ·rename_i a
  cases h
  have := hr.lit_eq; subst this
  refine ⟨a,rfl,by simp,fun i v x hv hx=>?_⟩
  simp only [List.getElem?_map,Option.map_eq_some_iff] at hx
  obtain ⟨z,hz,rfl⟩ := hx
  rw [Array.getElem?_toList,hv] at hz; cases hz; exact .pv (.lit _)
 ·cases h
def partOf (tab:Tab) (t:Nat) (l:List SV) (off:Nat):Option SV := match tab.lookup t with
 | none=>none
 | some i=>match i.desc.isRow with
  | true=>match Nat.ble (off + i.size) l.length with
   | true=>some (.mkAgg ((l.drop off).take i.size))
   | false=>none
  | false=>l[off]?
theorem partOf_run {P:Program} {tab:Tab} (htab:TabOk P tab) {M:Imm} {ρ:Env} (w:World) {t off:Nat} {cs:Array Value} {l:List SV} {x:SV} (hl:cs.size = l.length)
  (hr:∀ (i:Nat) (v:Value) (x:SV),cs[i]? = some v → l[i]? = some x → SRep M ρ v x) (h:partOf tab t l off = some x):∃ v,(part t cs off).run P w = .ok v w ∧ SRep M ρ v x := by
 unfold partOf at h
 split at h
 ·cases h
 ·rename_i i hi
  have ht := htab.get hi
  obtain ⟨inf,hinf,i1,_⟩ := ht.inf
  split at h
  ·rename_i hd
   split at h
   ·rename_i hle
    have hle := Nat.le_of_ble_eq_true hle
    cases h
    refine ⟨.agg (cs.extract off (off + i.size)),by simp [part,isAgg_run ht,hd,sizeOf,typeInfo,hinf,i1],?_⟩
    have := SRep.mkAgg (M := M) (ρ := ρ) (cs := (cs.extract off (off + i.size)).toList) (l := (l.drop off).take i.size) (by simp; omega) (fun k v x hv hx=>by
     rw [List.getElem?_take] at hx
     split at hx
     ·rename_i hk
      rw [List.getElem?_drop] at hx
      rw [Array.getElem?_toList,Array.getElem?_extract] at hv
      split at hv
      ·exact hr _ v x hv hx
      ·cases hv
     ·cases hx)
    rwa [Array.toArray_toList] at this
   ·cases h
  ·rename_i hd
   have hlt:off < cs.size := by have := (List.getElem?_eq_some_iff.1 h).1; omega
   exact ⟨cs[off],by simp [part,isAgg_run ht,hd,hlt],hr off _ _ (by simp [hlt]) h⟩
def eqCell (d:TypeDesc) (x y:SV):Option Bool := match d,x,y with
 | .bool,.pv (.lit (.bool a)),.pv (.lit (.bool b))=>some (a == b)
 | .int _,.pv (.lit (.int k a)),.pv (.lit (.int k' b))=>match decide (k = k') with
  | true=>some (decide (a = b))
  | false=>none
 | .string,.pv (.lit (.string a)),.pv (.lit (.string b))=>some (a == b)
 | _,_,_=>none
def eqFields (eq:Nat → SV → SV → Option Bool) (tab:Tab) (xs ys:List SV):List Field → Option Bool
 | []=>some true
 | f :: fs=>match decide (f.name = "_") with
  | true=>eqFields eq tab xs ys fs
  | false=>match partOf tab f.type xs f.offset with
   | none=>none
   | some a=>match partOf tab f.type ys f.offset with
    | none=>none
    | some b=>match eq f.type a b with
     | none=>none
     | some r=>match eqFields eq tab xs ys fs with
      | none=>none
      | some r'=>some (r && r')
def eqIdx (eq:Nat → SV → SV → Option Bool) (tab:Tab) (xs ys:List SV) (e sz:Nat):Nat → Nat → Option Bool
 | _,0=>some true
 | i,k + 1=>match partOf tab e xs (i * sz) with
  | none=>none
  | some a=>match partOf tab e ys (i * sz) with
   | none=>none
   | some b=>match eq e a b with
    | none=>none
    | some r=>match eqIdx eq tab xs ys e sz (i + 1) k with
     | none=>none
     | some r'=>some (r && r')
def eqV (P:Program) (tab:Tab):Nat → Nat → SV → SV → Option Bool
 | 0,_,_,_=>none
 | n + 1,t,x,y=>match tab.lookup t with
  | none=>none
  | some i=>match i.desc with
   | .struct fields=>match P.stoodInHeld t with
    | true=>none
    | false=>match x.cells? with
     | none=>none
     | some xs=>match y.cells? with
      | none=>none
      | some ys=>eqFields (eqV P tab n) tab xs ys fields.toList
   | .array len e=>match tab.lookup e with
    | none=>none
    | some ie=>match x.cells? with
     | none=>none
     | some xs=>match y.cells? with
      | none=>none
      | some ys=>eqIdx (eqV P tab n) tab xs ys e ie.size 0 len
   | d=>eqCell d x y
theorem eqFields_run {P:Program} {tab:Tab} (htab:TabOk P tab) {M:Imm} {ρ:Env} (w:World) {eq:Nat → SV → SV → Option Bool} {E:Nat → Value → Value → Sem Bool}
  (hE:∀ t x y vx vy b,eq t x y = some b → SRep M ρ vx x → SRep M ρ vy y → (E t vx vy).run P w = .ok b w)
  {cx cy:Array Value} {xs ys:List SV} (lx:cx.size = xs.length) (ly:cy.size = ys.length)
  (rx:∀ (i:Nat) (v:Value) (x:SV),cx[i]? = some v → xs[i]? = some x → SRep M ρ v x) (ry:∀ (i:Nat) (v:Value) (x:SV),cy[i]? = some v → ys[i]? = some x → SRep M ρ v x) :
  ∀ (fl:List Field) (b:Bool),eqFields eq tab xs ys fl = some b →
  Sem.run P (forIn fl ((none,()):Option Bool × Unit) fun f __s =>
      if f.name = "_" then pure (ForInStep.yield (none,()))
      else do
       let a ← part f.type cx f.offset
       let c ← part f.type cy f.offset
       let r ← E f.type a c
       if r = false then pure (ForInStep.done (some false,())) else pure (ForInStep.yield (none,()))) w = .ok (if b then (none,()) else (some false,())) w
 | [],b,h=>by simp [eqFields] at h; subst h; simp
 | f :: fs,b,h=>by
  rw [List.forIn_cons]
  simp only [eqFields] at h
  split at h
  ·rename_i hn
   have hn := of_decide_eq_true hn
   simp only [hn,if_true,Sem.run_bind,Sem.run_pure,Result.andThen_ok]
   exact eqFields_run htab w hE lx ly rx ry fs b h
  ·rename_i hn
   have hn := of_decide_eq_false hn
   split at h
   ·cases h
   ·rename_i a ha
    split at h
    ·cases h
    ·rename_i c hc
     split at h
     ·cases h
     ·rename_i r hr
      split at h
      ·cases h
      ·rename_i r' hr'
       cases h
       obtain ⟨va,p1,p2⟩ := partOf_run htab w lx rx ha
       obtain ⟨vc,p3,p4⟩ := partOf_run htab w ly ry hc
       have p5 := hE _ _ _ _ _ _ hr p2 p4
       have ih := eqFields_run htab w hE lx ly rx ry fs r' hr'
       simp only [hn,if_false,Sem.run_bind,p1,p3,p5,Result.andThen_ok]
       cases r with
       | false=>simp
       | true=>simp only [Bool.true_eq_false,if_false,Sem.run_pure,Result.andThen_ok,Bool.true_and]; exact ih
theorem eqIdx_run {P:Program} {tab:Tab} (htab:TabOk P tab) {M:Imm} {ρ:Env} (w:World) {eq:Nat → SV → SV → Option Bool} {E:Nat → Value → Value → Sem Bool}
  (hE:∀ t x y vx vy b,eq t x y = some b → SRep M ρ vx x → SRep M ρ vy y → (E t vx vy).run P w = .ok b w)
  {cx cy:Array Value} {xs ys:List SV} (lx:cx.size = xs.length) (ly:cy.size = ys.length)
  (rx:∀ (i:Nat) (v:Value) (x:SV),cx[i]? = some v → xs[i]? = some x → SRep M ρ v x) (ry:∀ (i:Nat) (v:Value) (x:SV),cy[i]? = some v → ys[i]? = some x → SRep M ρ v x) {e sz:Nat} :
  ∀ (k i:Nat) (b:Bool),eqIdx eq tab xs ys e sz i k = some b →
  Sem.run P (forIn (List.range' i k) ((none,()):Option Bool × Unit) fun i __s=>do
       let a ← part e cx (i * sz)
       let c ← part e cy (i * sz)
       let r ← E e a c
       if r = false then pure (ForInStep.done (some false,())) else pure (ForInStep.yield (none,()))) w = .ok (if b then (none,()) else (some false,())) w
 | 0,i,b,h=>by simp [eqIdx] at h; subst h; simp
 | k + 1,i,b,h=>by
  rw [List.range'_succ,List.forIn_cons]
  simp only [eqIdx] at h
  split at h
  ·cases h
  ·rename_i a ha
   split at h
   ·cases h
   ·rename_i c hc
    split at h
    ·cases h
    ·rename_i r hr
     split at h
     ·cases h
     ·rename_i r' hr'
      cases h
      obtain ⟨va,p1,p2⟩ := partOf_run htab w lx rx ha
      obtain ⟨vc,p3,p4⟩ := partOf_run htab w ly ry hc
      have p5 := hE _ _ _ _ _ _ hr p2 p4
      have ih := eqIdx_run htab w hE lx ly rx ry k (i + 1) r' hr'
      simp only [Sem.run_bind,p1,p3,p5,Result.andThen_ok]
      cases r with
      | false=>simp
      | true=>simp only [Bool.true_eq_false,if_false,Sem.run_pure,Result.andThen_ok,Bool.true_and]; exact ih
theorem eqV_sound {P:Program} {tab:Tab} (htab:TabOk P tab) {M:Imm} {ρ:Env} (w:World):∀ (n:Nat) (t:Nat) (x y:SV) (vx vy:Value) (b:Bool),eqV P tab n t x y = some b → SRep M ρ vx x → SRep M ρ vy y →
  ∀ d,n ≤ d → (Op.equalIn d t vx vy).run P w = .ok b w
 | 0,t,x,y,vx,vy,b,h,hx,hy=>by simp [eqV] at h
 | n + 1,t,x,y,vx,vy,b,h,hx,hy=>by
  intro d hd
  obtain ⟨d,rfl⟩:∃ e,d = e + 1 := ⟨d - 1,by omega⟩
  unfold eqV at h
  split at h
  ·cases h
  ·rename_i i hi
   have ht := htab.get hi
   split at h
   ·rename_i fields hdesc
    split at h
    ·cases h
    ·rename_i hst
     split at h
     ·cases h
     ·rename_i xs hxs
      split at h
      ·cases h
      ·rename_i ys hys
       obtain ⟨cx,rfl,lx,rx⟩ := cells?_rep hxs hx
       obtain ⟨cy,rfl,ly,ry⟩ := cells?_rep hys hy
       have hu:P.underlying t = some (.struct fields) := by rw [ht.und,hdesc]
       unfold Op.equalIn
       simp only [Sem.run_bind,run_underlying hu,Result.andThen_ok]
       simp [hst]
       rw [← Array.forIn_toList]
       generalize fields.toList = fl at h
       rw [eqFields_run htab w (fun t x y vx vy b h hx hy=>eqV_sound htab w n t x y vx vy b h hx hy d (by omega)) lx ly rx ry fl b h]
       cases b <;> simp
   ·rename_i len e hdesc
    split at h
    ·cases h
    ·rename_i ie hie
     split at h
     ·cases h
     ·rename_i xs hxs
      split at h
      ·cases h
      ·rename_i ys hys
       obtain ⟨cx,rfl,lx,rx⟩ := cells?_rep hxs hx
       obtain ⟨cy,rfl,ly,ry⟩ := cells?_rep hys hy
       have hu:P.underlying t = some (.array len e) := by rw [ht.und,hdesc]
       obtain ⟨inf,hinf,i1,_⟩ := (htab.get hie).inf
       have hsz:(Go.sizeOf e).run P w = .ok ie.size w := by simp [Go.sizeOf,typeInfo,hinf,i1]
       unfold Op.equalIn
       simp only [Sem.run_bind,run_underlying hu,Result.andThen_ok,hsz]
       simp
       rw [eqIdx_run htab w (fun t x y vx vy b h hx hy=>eqV_sound htab w n t x y vx vy b h hx hy d (by omega)) lx ly rx ry len 0 b h]
       cases b <;> simp
   ·rename_i hns
    unfold eqCell at h
    split at h
    ·rename_i hdesc
     cases h
     have ex := hx.lit_eq; have ey := hy.lit_eq; subst ex; subst ey
     have hu := ht.und; rw [hdesc] at hu
     unfold Op.equalIn
     simp [Sem.run_bind,run_underlying hu]
    ·rename_i hdesc
     split at h
     ·rename_i hk
      cases of_decide_eq_true hk
      cases h
      have ex := hx.lit_eq; have ey := hy.lit_eq; subst ex; subst ey
      have hu := ht.und; rw [hdesc] at hu
      unfold Op.equalIn
      simp [Sem.run_bind,run_underlying hu]
      rfl
     ·cases h
    ·rename_i hdesc
     cases h
     have ex := hx.lit_eq; have ey := hy.lit_eq; subst ex; subst ey
     have hu := ht.und; rw [hdesc] at hu
     unfold Op.equalIn
     simp [Sem.run_bind,run_underlying hu]
    ·cases h
def sEq (P:Program) (tab:Tab) (neg:Bool) (t:Nat) (a b:SV):Res := match P.eqGuardType P.depth t with
 | true=>.fail
 | false=>match eqV P tab 8 t a b with
  | none=>.fail
  | some r=>match neg with
   | true=>.ok (.lit (.bool (!r)))
   | false=>.ok (.lit (.bool r))
def negOp:Bool → BinOp
 | true=>.neq
 | false=>.eql
theorem sEq_run {P:Program} {tab:Tab} (htab:TabOk P tab) {M:Imm} {ρ:Env} {neg:Bool} {t:Nat} {a b:SV} {va vb:Value} (ha:SRep M ρ va a) (hb:SRep M ρ vb b) {H:List SObj} {K:Post}
  (hca:a.cells?.isSome = true) (hcb:b.cells?.isSome = true) (h:(sEq P tab neg t a b).holds H K) :
  ∃ v:Value,K (.pv (.lit v)) H [] [] ∧ ∀ (w:World) (x y:Operand),(do eqGuard (negOp neg) t x y va vb; binOp (negOp neg) t va vb:Sem Value).run P w = .ok v w := by
 unfold sEq at h
 split at h
 ·exact h.elim
 ·rename_i hg
  split at h
  ·exact h.elim
  ·rename_i r hr
   obtain ⟨l,hl⟩ := Option.isSome_iff_exists.1 hca
   obtain ⟨m,hm⟩ := Option.isSome_iff_exists.1 hcb
   have h:K (.pv (.lit (.bool (match neg with | true=>!r | false=>r)))) H [] [] := by cases neg <;> exact h
   refine ⟨_,h,fun w x y=>?_⟩
   have e := eqV_sound htab (M := M) (ρ := ρ) w 8 t a b va vb r hr ha hb Op.maxDepth (by decide)
   obtain ⟨ca,rfl,_⟩ := cells?_rep hl ha
   obtain ⟨cb,rfl,_⟩ := cells?_rep hm hb
   cases neg <;> simp [negOp,eqGuard,hg,binOp,Op.equal,e]
def eqKind:BinOp → SV → SV → Option Bool
 | .eql,.agg _,_=>some false
 | .eql,_,.agg _=>some false
 | .eql,.pv (.lit (.agg _)),.pv (.lit (.agg _))=>some false
 | .neq,.agg _,_=>some true
 | .neq,_,.agg _=>some true
 | .neq,.pv (.lit (.agg _)),.pv (.lit (.agg _))=>some true
 | _,_,_=>none
theorem eqKind_op {op:BinOp} {a b:SV} {neg:Bool} (h:eqKind op a b = some neg):op = negOp neg := by
 unfold eqKind at h
 split at h <;> first | (cases h; rfl) | cases h
def cmpOf (op:BinOp) (a b:SV):Option Bool := match a,b with
 | .pv (.lit (.int k x)),.pv (.lit (.int k' y))=>match decide (k = k') with
  | false=>none
  | true=>match op with
   | .eql=>some (decide (x = y))
   | .neq=>some (!decide (x = y))
   | .lss=>some (decide (x < y))
   | .leq=>some (decide (x ≤ y))
   | .gtr=>some (decide (y < x))
   | .geq=>some (decide (y ≤ x))
   | _=>none
 | _,_=>none
def sBin (P:Program) (tab:Tab) (ev:Operand → SV) (o:Oper) (op:BinOp) (t:Nat) (a b:SV):Res :=
 match op,a,b with
 | .add,.pv (.lit (.int .i64 x)),.pv (.lit (.int .i64 y))=>.ok (.lit (.int .i64 (w64 (x + y))))
 | .sub,.pv (.lit (.int .i64 x)),.pv (.lit (.int .i64 y))=>.ok (.lit (.int .i64 (w64 (x - y))))
 | .mul,.pv (.lit (.int .i64 x)),.pv (.lit (.int .i64 y))=>.ok (.lit (.int .i64 (w64 (x * y))))
 | .quo,.pv (.lit (.int .i64 x)),.pv (.lit (.int .i64 y))=>.need (decide (y ≠ 0)) (.ok (.lit (.int .i64 (w64 (x.tdiv y)))))
 | .rem,.pv (.lit (.int .i64 x)),.pv (.lit (.int .i64 y))=>.need (decide (y ≠ 0)) (.ok (.lit (.int .i64 (x.tmod y))))
 | .shl,.pv (.lit (.int .i64 x)),.pv (.lit (.int .i64 y))=>.need (decide (0 ≤ y)) (.ok (.lit (.int .i64 (w64 (x * 2 ^ min y.toNat 64)))))
 | .shr,.pv (.lit (.int .i64 x)),.pv (.lit (.int .i64 y))=>.need (decide (0 ≤ y)) (.ok (.lit (.int .i64 (x.fdiv (2 ^ min y.toNat 64)))))
 | .eql,.pv (.lit (.int .i64 x)),.pv (.lit (.int .i64 y))=>.ok (.lit (.bool (decide (x = y))))
 | .neq,.pv (.lit (.int .i64 x)),.pv (.lit (.int .i64 y))=>.ok (.lit (.bool (!decide (x = y))))
 | .lss,.pv (.lit (.int .i64 x)),.pv (.lit (.int .i64 y))=>.ok (.lit (.bool (decide (x < y))))
 | .leq,.pv (.lit (.int .i64 x)),.pv (.lit (.int .i64 y))=>.ok (.lit (.bool (decide (x ≤ y))))
 | .gtr,.pv (.lit (.int .i64 x)),.pv (.lit (.int .i64 y))=>.ok (.lit (.bool (decide (y < x))))
 | .geq,.pv (.lit (.int .i64 x)),.pv (.lit (.int .i64 y))=>.ok (.lit (.bool (decide (y ≤ x))))
 | .eql,.pv (.lit (.string x)),.pv (.lit (.string y))=>.ok (.lit (.bool (strEq x y)))
 | .neq,.pv (.lit (.string x)),.pv (.lit (.string y))=>.ok (.lit (.bool (!strEq x y)))
 | .add,.pv (.lit (.string x)),.pv (.lit (.string y))=>.need (decide (((x.size + y.size:Nat):Int) ≤ IntKind.i64.max)) (.ok (.lit (.string (x ++ y))))
 | op,a,b=>match eqKind op a b with
  | some neg=>match a.cells?.isSome && b.cells?.isSome with
   | true=>sEq P tab neg t a b
   | false=>.fail
  | none=>match cmpOf op a b with
   | some r=>.ok (.lit (.bool r))
   | none=>sPure P ev o
theorem eqGuard_int (P:Program) (w:World) (op:BinOp) (t:TypeId) (x y:Operand) (k k':IntKind) (a b:Int):(eqGuard op t x y (.int k a) (.int k' b)).run P w = .ok () w := by
 unfold eqGuard
 cases op <;> simp
theorem eqGuard_str (P:Program) (w:World) (op:BinOp) (t:TypeId) (x y:Operand) (a b:ByteArray):(eqGuard op t x y (.string a) (.string b)).run P w = .ok () w := by
 unfold eqGuard
 cases op <;> simp
theorem cmpOf_run {P:Program} {M:Imm} {ρ:Env} {op:BinOp} {t:Nat} {a b:SV} {va vb:Value} {r:Bool} (ha:SRep M ρ va a) (hb:SRep M ρ vb b) (h:cmpOf op a b = some r) (w:World) (x y:Operand) :
  (do eqGuard op t x y va vb; binOp op t va vb:Sem Value).run P w = .ok (.bool r) w := by
 unfold cmpOf at h
 split at h
 ·split at h
  ·cases h
  ·rename_i hk
   cases of_decide_eq_true hk
   have ea := ha.lit_eq; have eb := hb.lit_eq; subst ea; subst eb
   split at h <;> first
    | (cases h
       simp [Sem.run_bind,eqGuard_int,binOp,Op.intCmp,bne]; done)
    | (cases h
       simp only [Sem.run_bind,eqGuard_int,Result.andThen_ok,binOp,Op.intCmp,ne_eq,not_true_eq_false,if_false]; rfl)
    | cases h
 ·cases h
theorem sBin_sound {P:Program} {tab:Tab} (htab:TabOk P tab) {M:Imm} {ρ:Env} {H:List SObj} {w:World} {K:Post} {ev:Operand → SV} {va:Operand → Value} (hm:Mem M ρ H w) (hev:∀ x,SRep M ρ (va x) (ev x)) {o:Oper}
  {op:BinOp} {t t':TypeId} {x y:Operand} (ho:o.op = .binOp op t x y t') (h:(sBin P tab ev o op t (ev x) (ev y)).holds H K):DoesN P (execOp va o) M ρ H w K := by
 have hx := hev x
 have hy := hev y
 have exec:execOp va o = (do pure (.value (← (do eqGuard op t x y (va x) (va y); binOp op t (va x) (va y))))) := by simp [execOp,ho]
 unfold sBin at h
 split at h <;> first
  | (rename_i e1 e2
     rw [e1] at hx; rw [e2] at hy
     have ex := hx.lit_eq; have ey := hy.lit_eq
     rw [exec,ex,ey]
     simp only [Res.holds] at h
     first
    | (refine DoesN.same hm ?_ (.pv (.lit _)) h
       simp [Sem.run_bind,eqGuard_int,binOp,Op.intArith,w64]; done)
    | (obtain ⟨hn,h⟩ := h
       first
      | (have hz := of_decide_eq_true hn
         refine DoesN.same hm ?_ (.pv (.lit _)) h
         simp [Sem.run_bind,eqGuard_int,binOp,Op.intDiv,hz,w64]; done)
      | (have hz := Int.not_lt.2 (of_decide_eq_true hn)
         refine DoesN.same hm ?_ (.pv (.lit _)) h
         simp only [Sem.run_bind,eqGuard_int,Result.andThen_ok,binOp,Op.shift,if_neg hz,Sem.run_pure]; rfl)
      | (have hz := Int.not_lt.2 (of_decide_eq_true hn)
         refine DoesN.same hm ?_ (.pv (.lit _)) h
         simp only [Sem.run_bind,eqGuard_str,Result.andThen_ok,binOp,Op.stringOp,gt_iff_lt,if_neg hz,Sem.run_pure]; done)
      | (obtain ⟨hn2,h⟩ := h
         have hz := of_decide_eq_true hn
         refine DoesN.same hm ?_ (.pv (.lit _)) h
         simp [Sem.run_bind,eqGuard_int,binOp,Op.intDiv,hz,wrap_inI64 hn2]; done))
    | (refine DoesN.same hm ?_ (.pv (.lit _)) h
       simp [Sem.run_bind,eqGuard_int,eqGuard_str,binOp,Op.intCmp,Op.stringOp,bne]; done)
    | (refine DoesN.same hm ?_ (.pv (.lit _)) h
       simp only [Sem.run_bind,eqGuard_int,eqGuard_str,Result.andThen_ok,binOp,Op.intCmp,Op.stringOp,strEq_toList]; rfl))
  | (split at h
     · rename_i neg hk
       split at h
       · rename_i hc
         simp only [Bool.and_eq_true] at hc
         obtain ⟨v,hk2,hrun⟩ := sEq_run htab hx hy hc.1 hc.2 h
         have ho := eqKind_op hk
         rw [exec,ho]
         exact DoesN.same hm (by simp only [Sem.run_bind] at hrun ⊢; simp [hrun]) (.pv (.lit _)) hk2
       · exact h.elim
     · split at h
       · rename_i r hr
         have hrun := cmpOf_run (P := P) (t := t) hx hy hr
         rw [exec]
         exact DoesN.same hm (by have := hrun w x y; simp only [Sem.run_bind] at this ⊢; simp [this]) (.pv (.lit _)) h
       · exact sPure_sound hm hev h)
def nilRes (neg:Bool):SV → Option Res
 | .pv (.tsl row l)=>some (.split (decide (l.length = 0)) (.both (.ok (.lit (.bool true))) (.ok (.lit (.bool false)))) (.ok (.lit (.bool neg))))
 | .sl s sz st n=>some (.split (decide (n = 0)) (.both (.ok (.lit (.bool true))) (.ok (.lit (.bool false)))) (.ok (.lit (.bool neg))))
 | _=>none
def sNil (tab:Tab) (op:BinOp) (t:Nat) (a b:SV):Option Res := match b with
 | .pv (.lit (.slice none 0 0))=>match tab.lookup t with
  | some { desc := .slice e,.. }=>match op with
   | .eql=>nilRes false a
   | .neq=>nilRes true a
   | _=>none
  | _=>none
 | _=>none
theorem nil_equal {P:Program} {t e:Nat} (hu:P.underlying t = some (.slice e)) (a:Option Addr) (n c:Nat) (w:World):(Op.equal t (.slice a n c) (.slice none 0 0)).run P w = .ok a.isNone w := by
 have key:∀ d:Nat,(Op.equalIn (d + 1) t (.slice a n c) (.slice none 0 0)).run P w = .ok a.isNone w := fun d=>by
  unfold Op.equalIn
  cases a <;> simp [Sem.run_bind,run_underlying hu]
 exact key (Op.maxDepth - 1)
theorem nil_run {P:Program} {t e:Nat} (hu:P.underlying t = some (.slice e)) (a:Option Addr) (n c:Nat) (w:World) (x y:Operand) :
  (do eqGuard .eql t x y (.slice a n c) (.slice none 0 0); binOp .eql t (.slice a n c) (.slice none 0 0):Sem Value).run P w = .ok (.bool a.isNone) w ∧
  (do eqGuard .neq t x y (.slice a n c) (.slice none 0 0); binOp .neq t (.slice a n c) (.slice none 0 0):Sem Value).run P w = .ok (.bool (!a.isNone)) w := by
 constructor <;> simp [Sem.run_bind,eqGuard,binOp,nil_equal hu]
theorem nilRes_sound {M:Imm} {ρ:Env} {H:List SObj} {K:Post} {neg:Bool} {a:SV} {v:Value} {r:Res} (ha:SRep M ρ v a) (hr:nilRes neg a = some r) (h:r.holds H K) :
  ∃ ad n c,v = .slice ad n c ∧ ∀ b:Bool,(b = true → ad.isNone ≠ neg) → (b = false → ad.isNone = neg) → True := by
 unfold nilRes at hr
 split at hr
 ·cases ha with
  | pv hp=>cases hp with
   | tsl _ _ hp=>obtain ⟨ad,n,c,rfl⟩ := hp.slice_of; exact ⟨ad,n,c,rfl,fun _ _ _=>trivial⟩
 ·cases ha with
  | sl _ _ _ _ c k p hp hk hc hn h6=>exact ⟨_,_,_,rfl,fun _ _ _=>trivial⟩
  | slz _ _ _ ad=>exact ⟨_,_,_,rfl,fun _ _ _=>trivial⟩
 ·cases hr
theorem nilRes_holds {M:Imm} {ρ:Env} {H:List SObj} {K:Post} {neg:Bool} {a:SV} {r:Res} {ad:Option Addr} {n c:Nat} (ha:SRep M ρ (.slice ad n c) a) (hr:nilRes neg a = some r) (h:r.holds H K):K (.lit (.bool (xor neg ad.isNone))) H [] [] := by
 have both:∀ b:Bool,(K (.lit (.bool true)) H [] [] ∧ K (.lit (.bool false)) H [] []) → K (.lit (.bool b)) H [] [] := fun b h=>by cases b; exact h.2; exact h.1
 unfold nilRes at hr
 split at hr
 ·rename_i row l
  cases hr
  obtain ⟨h1,h2⟩ := h
  by_cases e:l.length = 0
  ·exact both _ (h1 (decide_eq_true e))
  ·have hk := h2 (decide_eq_false e)
   have hs:ad.isNone = false := by
    cases ha with
    | pv hp=>cases hp with
     | tsl _ _ hp =>
      have hll:(rowsPV row l).length = l.length := by simp [rowsPV]
      generalize hq:rowsPV row l = q at hp hll
      cases hp with
      | rnil _=>simp at hll; omega
      | remp a c _=>simp at hll; omega
      | rsl b off c _ n _ hn hc h0 h1 h2=>rfl
   rw [hs,Bool.xor_false]; exact hk
 ·rename_i s sz st m
  cases hr
  obtain ⟨h1,h2⟩ := h
  by_cases e:m = 0
  ·exact both _ (h1 (decide_eq_true e))
  ·have hk := h2 (decide_eq_false e)
   have hs:ad.isNone = false := by
    cases ha with
    | sl _ _ _ _ c k p hp hk hc hn h6=>rfl
    | slz _ _ _ ad=>exact absurd rfl e
   rw [hs,Bool.xor_false]; exact hk
 ·cases hr
theorem sNil_run {P:Program} {tab:Tab} (htab:TabOk P tab) {M:Imm} {ρ:Env} {H:List SObj} {K:Post} {op:BinOp} {t:Nat} {a b:SV} {va vb:Value} {r:Res} (ha:SRep M ρ va a) (hb:SRep M ρ vb b) (hr:sNil tab op t a b = some r) (h:r.holds H K) :
  ∃ q:Bool,(∀ (w:World) (x y:Operand),(do eqGuard op t x y va vb; binOp op t va vb:Sem Value).run P w = .ok (.bool q) w) ∧ K (.lit (.bool q)) H [] [] := by
 unfold sNil at hr
 split at hr
 ·have eb := hb.lit_eq; subst eb
  split at hr
  ·rename_i e sz' by' zr rw' hte
   have hu:P.underlying t = some (.slice e) := (htab.get hte).und
   split at hr
   ·obtain ⟨ad,n,c,rfl,_⟩ := nilRes_sound ha hr h
    have := nilRes_holds ha hr h
    rw [Bool.false_xor] at this
    exact ⟨_,fun w x y=>(nil_run hu ad n c w x y).1,this⟩
   ·obtain ⟨ad,n,c,rfl,_⟩ := nilRes_sound ha hr h
    have := nilRes_holds ha hr h
    rw [Bool.true_xor] at this
    exact ⟨_,fun w x y=>(nil_run hu ad n c w x y).2,this⟩
   ·cases hr
  ·cases hr
 ·cases hr
def placesOf (t:TypeId):Sem (Array (Nat × Nat)) := do
 match ← underlying t with
 | .struct fields=>fields.mapM fun f=>do pure (f.offset,← sizeOf f.type)
 | _=>stuck ""
def sBuild (P:Program) (tab:Tab) (t:Nat) (parts:List (Nat × SV)):Res :=
 match tab.lookup t with
 | none=>.fail
 | some i=>match i.desc with
  | .struct _=>match pureRun P (placesOf t) with
   | none=>.fail
   | some places=>match sfill (places[·]?) (i.zero.cells.toList.map SV.lit) parts with
    | none=>.fail
    | some l=>.ok (.mkAgg l)
  | .array _ e=>match tab.lookup e with
   | none=>.fail
   | some ie=>match sfill (fun k=>some (k * ie.size,ie.size)) (i.zero.cells.toList.map SV.lit) parts with
    | none=>.fail
    | some l=>.ok (.mkAgg l)
  | _=>.fail
theorem zero_rowRep {M:Imm} {ρ:Env} {P:Program} {t:TypeId} {i:TI} (h:TyOk P t i):RowRep M ρ i.zero.cells (i.zero.cells.toList.map SV.lit) :=
 ⟨by simp,fun k u y hu hy=>by
  simp only [List.getElem?_map,Option.map_eq_some_iff] at hy
  obtain ⟨z,hz,rfl⟩ := hy
  rw [Array.getElem?_toList,hu] at hz; cases hz; exact .pv (.lit _),fun k u hu=>(Array.all_eq_true_iff_forall_mem.1 h.zon) u (Array.mem_of_getElem? hu)⟩
theorem sBuild_sound {P:Program} {tab:Tab} (htab:TabOk P tab) {M:Imm} {ρ:Env} {H:List SObj} {w:World} {K:Post} (hm:Mem M ρ H w) {t:Nat} {vp:Array (Nat × Value)} {sp:List (Nat × SV)}
  (hl:vp.size = sp.length) (hp:∀ (k:Nat) (a:Nat × Value) (b:Nat × SV),vp.toList[k]? = some a → sp[k]? = some b → a.1 = b.1 ∧ SRep M ρ a.2 b.2)
  (h:(sBuild P tab t sp).holds H K):DoesV P (Instr.build t vp) M ρ H w K := by
 unfold sBuild at h
 split at h
 ·exact h.elim
 ·rename_i i hi
  have ht := htab.get hi
  have hz := zeroValue_run ht w
  split at h
  ·rename_i fields hd
   have hu:P.underlying t = some (.struct fields) := by rw [ht.und,hd]
   split at h
   ·exact h.elim
   ·rename_i places hpl
    split at h
    ·exact h.elim
    ·rename_i l hf
     obtain ⟨cs',g1,g2⟩ := sfill_sound (M := M) (ρ := ρ) (zero_rowRep ht) (by simpa using hl) hp hf
     have hrun := pureRun_run hpl w
     simp only [placesOf,Sem.run_bind,run_underlying hu,Result.andThen_ok] at hrun
     refine DoesV.same hm (v := .agg cs') ?_ ?_ h
     ·simp only [Instr.build,Sem.run_bind,hz,Result.andThen_ok,run_underlying hu,hrun]
      rw [g1]; rfl
     ·have := SRep.mkAgg (M := M) (ρ := ρ) (cs := cs'.toList) (l := l) (by simpa using g2.sz) (fun k v x hv hx=>g2.rep k v x (by rw [← Array.getElem?_toList]; exact hv) hx)
      simpa using this
  ·rename_i n e hd
   have hu:P.underlying t = some (.array n e) := by rw [ht.und,hd]
   split at h
   ·exact h.elim
   ·rename_i ie hie
    obtain ⟨inf,hinf,i1,_⟩ := (htab.get hie).inf
    split at h
    ·exact h.elim
    ·rename_i l hf
     obtain ⟨cs',g1,g2⟩ := sfill_sound (M := M) (ρ := ρ) (zero_rowRep ht) (by simpa using hl) hp hf
     refine DoesV.same hm (v := .agg cs') ?_ ?_ h
     ·simp only [Instr.build,Sem.run_bind,hz,Result.andThen_ok,run_underlying hu,sizeOf,typeInfo,run_program,hinf,Sem.run_pure,i1]
      rw [g1]; rfl
     ·have := SRep.mkAgg (M := M) (ρ := ρ) (cs := cs'.toList) (l := l) (by simpa using g2.sz) (fun k v x hv hx=>g2.rep k v x (by rw [← Array.getElem?_toList]; exact hv) hx)
      simpa using this
  ·exact h.elim
def sField (tab:Tab) (t:Nat) (x:SV) (f:Nat):Res :=
 match x,tab.lookup t with
 | .agg l,some { desc := .struct fields,.. }=>match fields[f]? with
  | none=>.fail
  | some fd=>match tab.lookup fd.type with
   | none=>.fail
   | some i=>if i.desc.isRow then .need (decide (fd.offset + i.size ≤ l.length)) (.ok (.mkAgg ((l.drop fd.offset).take i.size))) else .need (decide (fd.offset < l.length)) (.ok (l.getD fd.offset .any))
 | _,_=>.fail
theorem sField_sound {P:Program} {tab:Tab} (htab:TabOk P tab) {M:Imm} {ρ:Env} {H:List SObj} {w:World} {K:Post} (hm:Mem M ρ H w) {t f:Nat} {x:SV} {v:Value} (hx:SRep M ρ v x)
  (h:(sField tab t x f).holds H K):DoesV P (Instr.field t v f) M ρ H w K := by
 unfold sField at h
 split at h
 ·rename_i l fields sz' by' zr rw' hte
  have hu:P.underlying t = some (.struct fields) := (htab.get hte).und
  cases hx with
  | agg cs _ hl hr =>
   split at h
   ·exact h.elim
   ·rename_i fd hfd
    split at h
    ·exact h.elim
    ·rename_i i hi
     have ht := htab.get hi
     obtain ⟨inf,hinf,i1,_⟩ := ht.inf
     split at h
     ·rename_i hd
      simp only [Res.holds,decide_eq_true_eq] at h
      obtain ⟨hle,h⟩ := h
      refine DoesV.same hm (v := .agg (cs.extract fd.offset (fd.offset + i.size))) ?_ ?_ h
      ·simp [Instr.field,run_underlying hu,hfd,asAgg,part,isAgg_run ht,hd,sizeOf,typeInfo,hinf,i1]
      ·have := SRep.mkAgg (M := M) (ρ := ρ) (cs := (cs.extract fd.offset (fd.offset + i.size)).toList) (l := (l.drop fd.offset).take i.size) (by simp; omega) (fun k v x hv hx=>by
        rw [List.getElem?_take] at hx
        split at hx
        ·rename_i hk
         rw [List.getElem?_drop] at hx
         rw [Array.getElem?_toList,Array.getElem?_extract] at hv
         split at hv
         ·exact hr _ v x hv hx
         ·cases hv
        ·cases hx)
       rwa [Array.toArray_toList] at this
     ·rename_i hd
      simp only [Res.holds,decide_eq_true_eq] at h
      obtain ⟨hle,h⟩ := h
      have hlt:fd.offset < cs.size := by omega
      refine DoesV.same hm (v := cs[fd.offset]) ?_ ?_ h
      ·simp [Instr.field,run_underlying hu,hfd,asAgg,part,isAgg_run ht,hd,hlt]
      ·rw [List.getD_eq_getElem?_getD,List.getElem?_eq_getElem hle]
       exact hr fd.offset _ _ (by simp [hlt]) (by simp [hle])
 ·exact h.elim
def sIndex (P:Program) (tab:Tab) (ev:Operand → SV) (o:Oper) (t:Nat) (x i:SV):Res := match x,i with
 | .pv (.lit (.string s)),.pv (.lit (.int _ n))=>match tab.lookup t with
  | some { desc := .string,.. }=>.need (decide (0 ≤ n)) (.need (decide (n.toNat < s.size)) (.ok (.lit (.int .u8 ((s.get! n.toNat).toNat:Int)))))
  | _=>.fail
 | _,_=>sPure P ev o
theorem sIndex_run {P:Program} {tab:Tab} (htab:TabOk P tab) {ev:Operand → SV} {o:Oper} {t:Nat} {s:ByteArray} {k:IntKind} {n:Int} {H:List SObj} {K:Post}
  (h:(sIndex P tab ev o t (.pv (.lit (.string s))) (.pv (.lit (.int k n)))).holds H K):∃ v:Value,K (.pv (.lit v)) H [] [] ∧ ∀ w,(Instr.index t (.string s) (.int k n)).run P w = .ok v w := by
 simp only [sIndex] at h
 split at h
 ·rename_i sz' by' zr rw' hte
  have hu:P.underlying t = some .string := (htab.get hte).und
  obtain ⟨h1,h2,h⟩ := h
  have h1 := of_decide_eq_true h1
  have h2 := of_decide_eq_true h2
  refine ⟨_,h,fun w=>?_⟩
  have e:s.get! n.toNat = s[n.toNat] := by
   show s.data[n.toNat]! = _
   rw [getElem!_pos s.data n.toNat h2]; rfl
  simp [Instr.index,asIntOf,run_underlying hu,h1,h2,e]
 ·exact h.elim
def sop (P:Program) (tab:Tab) (H:List SObj) (ev:Operand → SV) (o:Oper):Res :=
 match o.op with
 | .move x=>.ok (ev x)
 | .assign x=>.ok (ev x)
 | .pick c a b=>match ev c with
  | .pv (.lit (.bool t))=>.split t (.ok (ev a)) (.ok (ev b))
  | _=>.fail
 | .alloc t=>sAlloc tab H t
 | .box t x=>sBox tab H t (ev x)
 | .build t parts=>sBuild P tab t (parts.toList.map fun p=>(p.1,ev p.2))
 | .buildSlice t len parts=>sBuildSlice tab H t len (parts.toList.map fun p=>(p.1,ev p.2))
 | .load t a=>sLoad tab H t (ev a)
 | .store t a x=>sStoreS tab H t (ev a) (ev x)
 | .nilCheck x=>match ev x with
  | .ptr s sz i j=>.ok (.ptr s sz i j)
  | .pv (.rptr sz r i j)=>.ok (.pv (.rptr sz r i j))
  | .mp s=>.ok (.mp s)
  | .fn (.func f) a b=>.ok (.fn (.func f) a b)
  | _=>sPure P ev o
 | .binOp op t x y _=>match sNil tab op t (ev x) (ev y) with
  | some r=>r
  | none=>sBin P tab ev o op t (ev x) (ev y)
 | .makeFunc fn a b=>.ok (.fn fn (a.toList.map ev) (b.toList.map ev))
 | .makeMap t r=>match r with
  | none=>sMakeMap H
  | some _=>.fail
 | .makeSlice t l c=>sMakeSlice tab H t (ev l) (ev c)
 | .slice t x lo hi mx=>match mx with
  | none=>sSlice tab H t (ev x) (lo.map ev) (hi.map ev)
  | some m=>sSlice3 tab t (ev x) (lo.map ev) (hi.map ev) (ev m)
 | .fieldAddr t x f=>sFieldAddr tab t (ev x) f
 | .field t x f=>match ev x with
  | .agg l=>sField tab t (.agg l) f
  | _=>sPure P ev o
 | .indexAddr t x ix=>sIndexAddr tab t (ev x) (ev ix)
 | .lookup t m k ok=>sLookup P tab H t (ev m) (ev k) ok
 | .mapUpdate t m k x=>sMapUpdate P tab H t (ev m) (ev k) (ev x)
 | .insert t m k x=>sMapUpdate P tab H t (ev m) (ev k) (ev x)
 | .mapEntry t m k=>sMapEntry P tab H t (ev m) (ev k)
 | .entryStore _ m s x=>sEntryStore H (ev m) (ev s) (ev x)
 | .range t x=>sRange tab H t (ev x)
 | .next x isString=>if isString then sNext H (ev x) else sNextM H (ev x)
 | .entry x=>sEntry H (ev x)
 | .extract x i=>match ev x with
  | .tup l=>match l[i]? with
   | some y=>.ok y
   | none=>.fail
  | _=>sPure P ev o
 | .call { callee := .builtin .append,args,argTypes }=>match args.toList,argTypes.toList with
  | [a,x],[t,t']=>match ev a,ev x with
   | .pv (.lit (.slice none 0 0)),.pv (.lit (.int _ n))=>sZeros tab H t t' n
   | _,_=>sAppendT tab H t t' (ev a) (ev x)
  | _,_=>.fail
 | .call { callee := .builtin .len,args,argTypes }=>match args.toList,argTypes.toList with
  | [x],[t]=>sLen tab H t (ev x)
  | _,_=>.fail
 | .call { callee := .builtin _,.. }=>sPure P ev o
 | .unOp ..=>sPure P ev o
 | .convert ..=>sPure P ev o
 | .index t x ix=>sIndex P tab ev o t (ev x) (ev ix)
 | .makeInterface ..=>sPure P ev o
 | _=>.fail
theorem parts_rep {M:Imm} {ρ:Env} {ev:Operand → SV} {va:Operand → Value} (hev:∀ x,SRep M ρ (va x) (ev x)) (parts:Array (Nat × Operand)) :
  (parts.map fun (x:Nat × Operand)=>(x.1,va x.2)).size = (parts.toList.map fun p=>(p.1,ev p.2)).length ∧
  ∀ (k:Nat) (a:Nat × Value) (b:Nat × SV),(parts.map fun (x:Nat × Operand)=>(x.1,va x.2)).toList[k]? = some a → (parts.toList.map fun p=>(p.1,ev p.2))[k]? = some b → a.1 = b.1 ∧ SRep M ρ a.2 b.2 := by
 refine ⟨by simp,fun k a b ha hb=>?_⟩
 simp only [Array.toList_map,List.getElem?_map,Option.map_eq_some_iff] at ha hb
 obtain ⟨p,hp,rfl⟩ := ha
 obtain ⟨q,hq,rfl⟩ := hb
 rw [hp] at hq; cases hq
 exact ⟨rfl,hev _⟩
theorem ops_rep {M:Imm} {ρ:Env} {ev:Operand → SV} {va:Operand → Value} (hev:∀ x,SRep M ρ (va x) (ev x)) (a:Array Operand) :
  (a.map va).size = (a.toList.map ev).length ∧ ∀ (i:Nat) (v:Value) (s:SV),(a.map va)[i]? = some v → (a.toList.map ev)[i]? = some s → SRep M ρ v s := by
 refine ⟨by simp,fun i v s hv hs=>?_⟩
 simp only [Array.getElem?_map,List.getElem?_map,Option.map_eq_some_iff] at hv hs
 obtain ⟨p,hp,rfl⟩ := hv
 obtain ⟨q,hq,rfl⟩ := hs
 rw [Array.getElem?_toList,hp] at hq; cases hq
 exact hev _
theorem opt_rep {M:Imm} {ρ:Env} {ev:Operand → SV} {va:Operand → Value} (hev:∀ x,SRep M ρ (va x) (ev x)) (a:Option Operand) :
  (a.map va).isSome = (a.map ev).isSome ∧ ∀ v x,a.map va = some v → a.map ev = some x → SRep M ρ v x := by
 cases a with
 | none=>exact ⟨rfl,fun v x h=>by simp at h⟩
 | some y=>exact ⟨rfl,fun v x h k=>by simp at h k; subst h; subst k; exact hev y⟩
theorem sop_sound {P:Program} {tab:Tab} (htab:TabOk P tab) {M:Imm} {ρ:Env} {H:List SObj} {w:World} {K:Post} {ev:Operand → SV} {va:Operand → Value} (hm:Mem M ρ H w) (hev:∀ x,SRep M ρ (va x) (ev x)) {o:Oper}
  (h:(sop P tab H ev o).holds H K):DoesN P (execOp va o) M ρ H w K := by
 unfold sop at h
 split at h
 ·rename_i x ho; exact DoesN.same hm (by simp [execOp,ho]) (hev x) h
 ·rename_i x ho; exact DoesN.same hm (by simp [execOp,ho]) (hev x) h
 ·rename_i c a b ho
  have hc := hev c
  split at h
  ·rename_i t e
   rw [e] at hc
   have ec := hc.lit_eq
   obtain ⟨h1,h2⟩ := h
   cases t with
   | true=>exact DoesN.same hm (by simp [execOp,ho,ec,asBool]) (hev a) (h1 rfl)
   | false=>exact DoesN.same hm (by simp [execOp,ho,ec,asBool]) (hev b) (h2 rfl)
  ·exact h.elim
 ·rename_i t ho; have := (sAlloc_sound htab hm (old := .tuple #[]) h).toN; simpa [execOp,ho] using this
 ·rename_i t x ho; have := (sBox_sound htab hm (hev x) h).toN; simpa [execOp,ho] using this
 ·rename_i t parts ho
  obtain ⟨h1,h2⟩ := parts_rep hev parts
  have := (sBuild_sound htab hm h1 h2 h).toN; simpa [execOp,ho] using this
 ·rename_i t len parts ho
  obtain ⟨h1,h2⟩ := parts_rep hev parts
  have := (sBuildSlice_sound htab hm h1 h2 h).toN; simpa [execOp,ho] using this
 ·rename_i t a ho; have := (sLoad_sound htab hm (hev a) h).toN; simpa [execOp,ho] using this
 ·rename_i t a x ho; have := (sStoreS_sound htab hm (hev a) (hev x) h).toN; simpa [execOp,ho] using this
 ·rename_i x ho
  have hx := hev x
  split at h
  ·rename_i s sz i j e
   rw [e] at hx
   cases hv:va x with
   | pointer a =>
    rw [hv] at hx
    cases hx with
    | ptr _ _ _ _ k p hp hk=>exact DoesN.same hm (v := .pointer (some ⟨p.block,k,none⟩)) (by simp [execOp,ho,hv]) (.ptr _ _ _ _ k p hp hk) h
   | _=>rw [hv] at hx; cases hx
  ·rename_i sz r i j e
   rw [e] at hx
   generalize hv:va x = vx at hx
   cases hx with
   | pv hp =>
    cases hp with
    | rptr b off _ _ _ k _ hk h0 h1 h2=>exact DoesN.same hm (v := .pointer (some ⟨b,k,none⟩)) (by simp [execOp,ho,hv]) (.pv (.rptr b off sz i j k r hk h0 h1 h2)) h
  ·rename_i s e
   rw [e] at hx
   cases hv:va x with
   | map a=>rw [hv] at hx; exact DoesN.same hm (v := .map a) (by simp [execOp,ho,hv]) hx h
   | _=>rw [hv] at hx; cases hx
  ·rename_i f a b e
   rw [e] at hx
   cases hv:va x with
   | func g c d =>
    rw [hv] at hx
    cases hx with
    | fn _ _ _ _ _ ha hb hh hk=>exact DoesN.same hm (v := .func (.func f) c d) (by simp [execOp,ho,hv]) (.fn _ _ _ _ _ ha hb hh hk) h
   | _=>rw [hv] at hx; cases hx
  ·exact sPure_sound hm hev h
 ·rename_i op t x y t' ho
  split at h
  ·rename_i r hr
   obtain ⟨q,hrun,hk⟩ := sNil_run (P := P) htab (hev x) (hev y) hr h
   have exec:execOp va o = (do pure (.value (← (do eqGuard op t x y (va x) (va y); binOp op t (va x) (va y))))) := by simp [execOp,ho]
   rw [exec]
   exact DoesN.same hm (by have := hrun w x y; simp only [Sem.run_bind] at this ⊢; simp [this]) (.pv (.lit _)) hk
  ·exact sBin_sound htab hm hev ho h
 ·rename_i fn a b ho
  obtain ⟨a1,a2⟩ := ops_rep hev a
  obtain ⟨b1,b2⟩ := ops_rep hev b
  exact DoesN.same hm (by simp [execOp,ho,Instr.makeFunc]) (.fn fn _ _ _ _ a1 b1 a2 b2) h
 ·rename_i t r ho
  split at h
  ·have := (sMakeMap_sound (P := P) (t := t) hm h).toN; simpa [execOp,ho] using this
  ·exact h.elim
 ·rename_i t l c ho; have := (sMakeSlice_sound htab hm (hev l) (hev c) h).toN; simpa [execOp,ho] using this
 ·rename_i t x lo hi mx ho
  split at h
  ·obtain ⟨l1,l2⟩ := opt_rep hev lo
   obtain ⟨h1,h2⟩ := opt_rep hev hi
   have := (sSlice_sound htab hm (hev x) l1 l2 h1 h2 h).toN; simpa [execOp,ho] using this
  ·rename_i m
   obtain ⟨l1,l2⟩ := opt_rep hev lo
   obtain ⟨h1,h2⟩ := opt_rep hev hi
   obtain ⟨v',hr,y,hy,hk⟩ := sSlice3_sound htab (hev x) l1 l2 h1 h2 (hev m) h
   have := (DoesV.same hm (hr w) hy hk).toN; simpa [execOp,ho] using this
 ·rename_i t x f ho; have := (sFieldAddr_sound htab hm (hev x) h).toN; simpa [execOp,ho] using this
 ·rename_i t x f ho
  split at h
  ·rename_i l e
   have hx := hev x
   rw [e] at hx
   have := (sField_sound htab hm hx h).toN; simpa [execOp,ho] using this
  ·exact sPure_sound hm hev h
 ·rename_i t x ix ho; have := (sIndexAddr_sound htab hm (hev x) (hev ix) h).toN; simpa [execOp,ho] using this
 ·rename_i t m k ok ho; have := (sLookup_sound htab hm (hev m) (hev k) h).toN; simpa [execOp,ho] using this
 ·rename_i t m k x ho; have := (sMapUpdate_sound htab hm (hev m) (hev k) (hev x) h).toN; simpa [execOp,ho] using this
 ·rename_i t m k x ho; have := (sMapUpdate_sound htab hm (hev m) (hev k) (hev x) h).toN; simpa [execOp,ho] using this
 ·rename_i t m k ho; have := (sMapEntry_sound htab hm (hev m) (hev k) h).toN; simpa [execOp,ho] using this
 ·rename_i t m s x ho; have := (sEntryStore_sound (P := P) (t := t) hm (hev m) (hev s) (hev x) h).toN; simpa [execOp,ho] using this
 ·rename_i t x ho; have := (sRange_sound htab hm (hev x) h).toN; simpa [execOp,ho] using this
 ·rename_i x isS ho
  split at h
  ·rename_i e; subst e
   have := (sNext_sound (P := P) (t := o.type) hm (hev x) h).toN; simpa [execOp,ho] using this
  ·rename_i e
   have e:isS = false := by simpa using e
   subst e
   have := (sNextM_sound (P := P) (t := o.type) hm (hev x) h).toN; simpa [execOp,ho] using this
 ·rename_i x ho; have := (sEntry_sound (P := P) hm (hev x) h).toN; simpa [execOp,ho] using this
 ·rename_i x i ho
  split at h
  ·rename_i l e
   have hx := hev x
   rw [e] at hx
   cases hv:va x with
   | tuple cs =>
    rw [hv] at hx
    cases hx with
    | tup _ _ hl hr =>
     split at h
     ·rename_i y hy
      have hlt:i < cs.size := by have := (List.getElem?_eq_some_iff.1 hy).1; omega
      exact DoesN.same hm (v := cs[i]) (by simp [execOp,ho,hv,Instr.extract,hlt]) (hr i _ y (by simp [hlt]) hy) h
     ·exact h.elim
   | _=>rw [hv] at hx; cases hx
  ·exact sPure_sound hm hev h
 ·rename_i args argTypes ho
  split at h
  ·rename_i a x t t' ea et
   have ea':args = #[a,x] := by rw [← Array.toArray_toList (xs := args),ea]
   have et':argTypes = #[t,t'] := by rw [← Array.toArray_toList (xs := argTypes),et]
   subst ea'; subst et'
   split at h
   ·rename_i k n e1 e2
    have h1 := hev a
    have h2 := hev x
    rw [e1] at h1; rw [e2] at h2
    have e1 := h1.lit_eq
    have e2 := h2.lit_eq
    have := (sZeros_sound (ty := o.type) (k := k) htab hm h).toN
    simpa [execOp,ho,resolve,invoke,builtin,e1,e2] using this
   ·have := (sAppendT_sound (ty := o.type) htab hm (hev a) (hev x) h).toN
    simpa [execOp,ho,resolve,invoke,builtin] using this
  ·exact h.elim
 ·rename_i args argTypes ho
  split at h
  ·rename_i x t ea et
   have ea':args = #[x] := by rw [← Array.toArray_toList (xs := args),ea]
   have et':argTypes = #[t] := by rw [← Array.toArray_toList (xs := argTypes),et]
   subst ea'; subst et'
   have := (sLen_sound (ty := o.type) htab hm (hev x) h).toN
   simpa [execOp,ho,resolve,invoke,builtin] using this
  ·exact h.elim
 ·exact sPure_sound hm hev h
 ·exact sPure_sound hm hev h
 ·exact sPure_sound hm hev h
 ·rename_i t x ix ho
  generalize ex:ev x = sx at h
  generalize ei:ev ix = si at h
  unfold sIndex at h
  split at h
  ·have hx := hev x
   have hi := hev ix
   rw [ex] at hx; rw [ei] at hi
   have ex' := hx.lit_eq; have ei' := hi.lit_eq
   rename_i k _
   obtain ⟨v,hk,hr⟩ := sIndex_run (P := P) (ev := ev) (o := o) (k := k) (H := H) (K := K) htab (by simpa only [sIndex] using h)
   exact DoesN.same hm (by simp [execOp,ho,ex',ei',hr]) (.pv (.lit v)) hk
  ·exact sPure_sound hm hev h
 ·exact sPure_sound hm hev h
 ·exact h.elim
end Go.Sx
