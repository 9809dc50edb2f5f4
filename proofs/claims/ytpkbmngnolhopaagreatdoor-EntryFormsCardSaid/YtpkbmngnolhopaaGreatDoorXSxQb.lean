/- Part Qb of the own logic: a state is read by a template. Part Qc of the own logic: what a function comes to, as a function of its data: operations and regions. And further parts. -/
import Derived.Test.YtpkbmngnolhopaaGreatDoorXSxM
set_option linter.unusedVariables false
set_option linter.unusedSimpArgs false
set_option linter.unnecessarySimpa false
section
namespace Go.Sx
open Go
mutual
theorem SV.forget_twice (d:List Nat):∀ (x:SV),(x.forget d).forget d = x.forget d
 | .agg l=>by simp only [SV.forget,forgetL_twice d l]
 | .tup l=>by simp only [SV.forget,forgetL_twice d l]
 | .fn _ a b=>by simp only [SV.forget,forgetL_twice d a,forgetL_twice d b]
 | .ptr s _ _ _=>by
  simp only [SV.forget]; split
  ·rfl
  ·rename_i h; simp only [SV.forget,if_neg h]
 | .sl s _ _ _=>by
  simp only [SV.forget]; split
  ·rfl
  ·rename_i h; simp only [SV.forget,if_neg h]
 | .mp s=>by
  simp only [SV.forget]; split
  ·rfl
  ·rename_i h; simp only [SV.forget,if_neg h]
 | .yld s=>by
  simp only [SV.forget]; split
  ·rfl
  ·rename_i h; simp only [SV.forget,if_neg h]
 | .slb s _ _ _ _=>by
  simp only [SV.forget]; split
  ·rfl
  ·rename_i h; simp only [SV.forget,if_neg h]
 | .any=>rfl
 | .pv _=>rfl
theorem forgetL_twice (d:List Nat):∀ (l:List SV),forgetL d (forgetL d l) = forgetL d l
 | []=>rfl
 | x :: xs=>by simp only [forgetL,SV.forget_twice d x,forgetL_twice d xs]
end
mutual
theorem SV.forget_nil:∀ (x:SV),x.forget [] = x
 | .agg l=>by simp only [SV.forget,forgetL_nil l]
 | .tup l=>by simp only [SV.forget,forgetL_nil l]
 | .fn _ a b=>by simp only [SV.forget,forgetL_nil a,forgetL_nil b]
 | .ptr s _ _ _=>by simp [SV.forget]
 | .sl s _ _ _=>by simp [SV.forget]
 | .mp s=>by simp [SV.forget]
 | .yld s=>by simp [SV.forget]
 | .slb s _ _ _ _=>by simp [SV.forget]
 | .any=>rfl
 | .pv _=>rfl
theorem forgetL_nil:∀ (l:List SV),forgetL [] l = l
 | []=>rfl
 | x :: xs=>by simp only [forgetL,SV.forget_nil x,forgetL_nil xs]
end
theorem TT.map_id {f:SV → SV} (hf:∀ x,f x = x):∀ (T:TT),T.map f = T
 | .nil=>rfl
 | .node l v r=>by
  simp only [TT.map,TT.map_id hf l,TT.map_id hf r]
  cases v <;> simp [hf]
theorem lcell_inv {row:List Ty} {l:List (Els row)} {r c:Nat} {x:SV} {f:SV → SV} (hf:∀ p,f (.pv p) = .pv p) {i j:Nat} {y:SV} (h:lcell row l r c (f x) i j = some y) :
  ∃ y0,lcell row l r c x i j = some y0 ∧ y = f y0 ∧ (y0 = x ∨ ∃ p,y0 = .pv p) := by
 unfold lcell at h ⊢
 simp only [Option.map_eq_some_iff] at h ⊢
 obtain ⟨z,hz,rfl⟩ := h
 by_cases hc:i = r ∧ j = c
 ·simp only [if_pos hc]
  exact ⟨x,⟨z,hz,rfl⟩,rfl,.inl rfl⟩
 ·simp only [if_neg hc]
  unfold vcell at hz
  simp only [Option.map_eq_some_iff] at hz
  obtain ⟨p,hp,rfl⟩ := hz
  exact ⟨.pv p,⟨.pv p,by rw [vcell,hp]; rfl,rfl⟩,(hf p).symm,.inr ⟨p,rfl⟩⟩
theorem SObj.forget_nil (o:SObj):o.forget [] = o := by
 cases o with
 | mix ty sz rows =>
  simp only [SObj.forget,SObj.mix.injEq,true_and]
  conv=>rhs; rw [← List.map_id rows]
  refine List.map_congr_left fun r _=>?_
  conv=>rhs; rw [← List.map_id r]
  exact List.map_congr_left fun x _=>SV.forget_nil x
 | map es c =>
  simp only [SObj.forget,SObj.map.injEq,and_true]
  conv=>rhs; rw [← List.map_id es]
  refine List.map_congr_left fun e _=>?_
  simp only [SV.forget_nil,id]
 | loop l=>simp only [SObj.forget,TT.map_id SV.forget_nil]
 | tlnk ty row l r c x=>simp only [SObj.forget,SV.forget_nil]
 | nest ty ity row ll q=>cases q with
  | none=>rfl
  | some x=>simp only [SObj.forget,Option.map_some,SV.forget_nil]
 | mit m c s=>cases m <;> rfl
 | _=>rfl
theorem TT.map_twice {f:SV → SV} (hf:∀ x,f (f x) = f x):∀ (T:TT),(T.map f).map f = T.map f
 | .nil=>rfl
 | .node l v r=>by
  simp only [TT.map,TT.map_twice hf l,TT.map_twice hf r]
  cases v <;> simp [hf]
theorem SObj.forget_twice (d:List Nat) (o:SObj):(o.forget d).forget d = o.forget d := by
 cases o with
 | mix ty sz rows =>
  simp only [SObj.forget,List.map_map,SObj.mix.injEq,true_and]
  refine List.map_congr_left fun r _=>?_
  simp only [Function.comp,List.map_map]
  exact List.map_congr_left fun x _=>SV.forget_twice d x
 | map es c =>
  simp only [SObj.forget,List.map_map,SObj.map.injEq,and_true]
  refine List.map_congr_left fun e _=>?_
  simp only [Function.comp,SV.forget_twice]
 | loop l =>
  simp only [SObj.forget,TT.map_twice (SV.forget_twice d)]
 | tlnk ty row l r c x=>simp only [SObj.forget,SV.forget_twice]
 | nest ty ity row ll q=>cases q with
  | none=>rfl
  | some x=>simp only [SObj.forget,Option.map_some,SV.forget_twice]
 | mit m c s =>
  cases m with
  | none=>rfl
  | some x =>
   simp only [SObj.forget,Option.bind_some,SObj.mit.injEq,and_true]
   cases h:d.contains x with
   | true=>rfl
   | false=>simp only [cond_false,Option.bind_some,h]
 | _=>rfl
structure BaseAt (D ids mv:List Nat) (b:St) (M:Imm) (ρ:Env) (H:List SObj) (a:Act) (w:World):Prop where
 len:H.length = b.H.length
 slots:∀ t y,t ∉ D → b.T.get t = some y → SRep M ρ (a.tmps.getD t undef) (y.forget mv)
 objs:∀ (s:Nat) (o:SObj),s ∉ ids → b.H[s]? = some o → OwnAt M ρ w s (o.forget mv) ∧ (o.live = true → ∃ o':SObj,H[s]? = some o' ∧ o'.live = true)
 back:∀ (s:Nat) (o:SObj),s ∉ ids → H[s]? = some o → o.live = true → ∃ o0:SObj,b.H[s]? = some o0 ∧ o0.live = true
theorem rowOf1_spec {M:Imm} {ρ:Env} {w:World} {s ty sz:Nat} {o:SObj} {r:List SV} (h:rowOf1 o = some (ty,sz,r)):o.live = true ∧ o.sz? = some sz ∧ o.len = 1 ∧ (OwnAt M ρ w s o → OwnAt M ρ w s (.mix ty sz [r])) := by
 unfold rowOf1 at h
 split at h
 ·cases h; exact ⟨rfl,rfl,rfl,fun h=>h.vecMix⟩
 ·cases h; exact ⟨rfl,rfl,rfl,id⟩
 ·rename_i ty' row x
  cases h
  exact ⟨rfl,rfl,rfl,fun h=>by
   have h:OwnAt M ρ w s (.vec ty row.length [rowPV row x]) := h
   exact h.vecMix⟩
 ·cases h
theorem OwnAt.remix {M M2:Imm} {ρ ρ2:Env} {w:World} {s ty sz:Nat} {r r':List SV} (hs:ρ2 s = ρ s) (hl:r'.length = sz)
  (hr:∀ (j:Nat) (y:SV),r'[j]? = some y → y = .any ∨ ∃ x:SV,r[j]? = some x ∧ ∀ u,SRep M ρ u x → SRep M2 ρ2 u y) (h:OwnAt M ρ w s (.mix ty sz [r])):OwnAt M2 ρ2 w s (.mix ty sz [r']) := by
 rcases h with ⟨h1,h2⟩ | ⟨p,h1,h2⟩
 ·cases h2
 ·refine .inr ⟨p,hs.trans h1,?_⟩
  obtain ⟨cs,a1,a2,a3,a4,a5,a6⟩ := h2.ex
  have hin:∀ i j x,mcell [r'] i j = some x → i = 0 ∧ r'[j]? = some x := fun i j x hx=>by
   unfold mcell at hx
   cases i with
   | zero=>exact ⟨rfl,by simpa using hx⟩
   | succ i=>simp at hx
  refine ⟨cs,a1,a2,a3,a4,fun i j x v hx hv=>?_,fun i j x hx=>?_⟩
  ·obtain ⟨rfl,hj⟩ := hin i j x hx
   have hjs:j < sz := by rw [← hl]; exact (List.getElem?_eq_some_iff.1 hj).1
   refine ⟨by simp,hjs,?_⟩
   rcases hr j x hj with rfl | ⟨x0,g1,g2⟩
   ·exact .any _
   ·exact g2 v (a5 0 j x0 v (by simp [mcell,g1]) hv).2.2
  ·obtain ⟨rfl,hj⟩ := hin i j x hx
   exact ⟨by simp,by rw [← hl]; exact (List.getElem?_eq_some_iff.1 hj).1⟩
theorem entData_spec {k v:ATy} {H:List SObj} {n:Nat}:∀ {es:List Ent} {i:Nat} {c:Bool} {l:List (k.El × v.El)},entData k v H n i es = some (c,l) → c = true → l.length = es.length ∧
  ∀ (j:Nat) (x:k.El × v.El),l[j]? = some x → ∃ e,es[j]? = some e ∧ e.2.2 = i + j ∧ k.ofSV (.lit e.1) = some x.1 ∧ rdA H n v e.2.1 = some (true,x.2)
 | [],i,c,l,h,hc=>by cases h; exact ⟨rfl,fun j x hx=>by simp at hx⟩
 | e :: es,i,c,l,h,hc=>by
  simp only [entData] at h
  split at h
  ·cases h
  ·rename_i hb
   split at h
   ·cases h
   ·rename_i a ha
    split at h
    ·cases h
    ·rename_i b hb2
     split at h
     ·cases h
     ·rename_i d hd
      cases h
      rw [Bool.and_eq_true] at hc
      obtain ⟨g1,g2⟩ := entData_spec (c := d.1) (l := d.2) hd hc.2
      refine ⟨by simp [g1],fun j x hx=>?_⟩
      cases j with
      | zero =>
       simp at hx; subst hx
       exact ⟨e,rfl,Nat.eq_of_beq_eq_true hb,ha,by rw [hb2,← hc.1]⟩
      | succ j =>
       obtain ⟨e',q1,q2,q3⟩ := g2 j x (by simpa using hx)
       exact ⟨e',by simpa using q1,by omega,q3⟩
theorem MapAt.data {M:Imm} {ρ ρ2:Env} {H:List SObj} {w:World} {n s:Nat} (hm:Mem M ρ H w) {k v:ATy} {es:List Ent} {c:Nat} {cc:Bool} {l:List (k.El × v.El)} (hs:ρ2 s = ρ s) (h:MapAt M ρ w s es c) (hlen:c = es.length) (hk:k.scalar = true) (hd:entData k v H n 0 es = some (cc,l)) (hc:cc = true) :
  MapAt (M.sealing ρ H n w) ρ2 w s (entsFrom k v 0 l) l.length := by
 obtain ⟨g1,g2⟩ := entData_spec hd hc
 obtain ⟨p,arr,h1,h2,h3,h4⟩ := h
 refine ⟨p,arr,hs.trans h1,by rw [g1,← hlen]; exact h2,by rw [entsFrom_len,g1]; exact h3,fun i kk x b hi=>?_⟩
 rw [entsFrom_get] at hi
 simp only [Option.map_eq_some_iff,Prod.mk.injEq] at hi
 obtain ⟨y,hy,rfl,rfl,rfl⟩ := hi
 obtain ⟨e,q1,q2,q3,q4⟩ := g2 i y hy
 obtain ⟨me,m1,m2,m3,m4⟩ := h4 i e.1 e.2.1 e.2.2 q1
 refine ⟨me,m1,?_,by rw [m3,q2],rdA_raw hm q4 rfl m4⟩
 rw [m2]
 exact keyV_of_raw hk (ATy.ofSV_sound (M := M) (ρ := ρ) q3 (.pv (.lit _)))
theorem castMap_own {M:Imm} {ρ ρ2:Env} {w:World} {s:Nat} {k v k' v':ATy} {l:List (k.El × v.El)} {l':List (k'.El × v'.El)} (h:castMap k v k' v' l = some l') (ho:MapAt M ρ w s (entsFrom k v 0 l) l.length):MapAt M ρ w s (entsFrom k' v' 0 l') l'.length := by
 obtain ⟨e,e',rfl⟩ := castMap_eq h
 subst e; subst e'
 exact ho
inductive InPl:(l:PL) → PEls l → Nat → (a:ATy) → a.El → Prop where
 | one (p:Nat × ATy) (x:p.2.El):InPl [p] x p.1 p.2 x
 | head (p p':Nat × ATy) (l:PL) (x:p.2.El × PEls (p' :: l)):InPl (p :: p' :: l) x p.1 p.2 x.1
 | tail (p p':Nat × ATy) (l:PL) (x:p.2.El × PEls (p' :: l)) (j:Nat) (a:ATy) (y:a.El) (h:InPl (p' :: l) x.2 j a y):InPl (p :: p' :: l) x j a y
theorem setPl_get:∀ {l:PL} {x:PEls l} {r:List SV} {j:Nat} {y:SV},(setPl l x r)[j]? = some y → (∃ a z,InPl l x j a z ∧ y = a.sv z) ∨ r[j]? = some y
 | [],x,r,j,y,h=>.inr h
 | [p],x,r,j,y,h=>by
  simp only [setPl,List.getElem?_set] at h
  split at h
  ·rename_i e; subst e
   split at h
   ·cases h; exact .inl ⟨p.2,x,.one p x,rfl⟩
   ·cases h
  ·exact .inr h
 | p :: p' :: l,x,r,j,y,h=>by
  have h0:(setPl (p' :: l) x.2 (r.set p.1 (p.2.sv x.1)))[j]? = some y := h
  clear h
  rcases setPl_get h0 with ⟨a,z,h1,h2⟩ | h
  ·exact .inl ⟨a,z,.tail _ _ _ _ _ _ _ h1,h2⟩
  ·rw [List.getElem?_set] at h
   split at h
   ·rename_i e; subst e
    split at h
    ·cases h; exact .inl ⟨p.2,x.1,.head _ _ _ _,rfl⟩
    ·cases h
   ·exact .inr h
theorem setPl_len:∀ {l:PL} {x:PEls l} {r:List SV},(setPl l x r).length = r.length
 | [],x,r=>rfl
 | [p],x,r=>by simp [setPl]
 | p :: p' :: l,x,r=>by
  show (setPl (p' :: l) x.2 _).length = _
  rw [setPl_len]; simp
theorem getPl_in {H:List SObj} {n:Nat} {r:List SV}:∀ {l:PL} {c:Bool} {x:PEls l},getPl H n r l = some (c,x) → c = true → ∀ j a (z:a.El),InPl l x j a z → ∃ y,r[j]? = some y ∧ rdA H n a y = some (true,z)
 | [],c,x,h,hc,j,a,z,hi=>by cases hi
 | [p],c,x,h,hc,j,a,z,hi=>by
  simp only [getPl] at h
  split at h
  ·rename_i y hy
   cases hi with
   | one=>exact ⟨y,hy,by rw [h,hc]; rfl⟩
  ·cases h
 | p :: p' :: l,c,x,h,hc,j,a,z,hi=>by
  simp only [getPl] at h
  split at h
  ·cases h
  ·rename_i y hy
   split at h
   ·cases h
   ·rename_i a' ha
    split at h
    ·cases h
    ·rename_i b hb
     cases h
     rw [Bool.and_eq_true] at hc
     cases hi with
     | head=>exact ⟨y,hy,by rw [ha,← hc.1]⟩
     | tail _ _ _ _ _ _ _ hi=>exact getPl_in (c := b.1) (x := b.2) hb hc.2 j a z hi
theorem setLk_get {H:List SObj}:∀ {l:List (Nat × Lk)} {r:List SV} {j:Nat} {y:SV},(setLk H l r)[j]? = some y → (∃ q ∈ l,q.1 = j ∧ y = lkSV H q.2) ∨ r[j]? = some y
 | [],r,j,y,h=>.inr h
 | q :: l,r,j,y,h=>by
  simp only [setLk] at h
  rcases setLk_get h with ⟨q',h1,h2⟩ | h
  ·exact .inl ⟨q',List.mem_cons_of_mem _ h1,h2⟩
  ·rw [List.getElem?_set] at h
   split at h
   ·rename_i e
    split at h
    ·cases h; exact .inl ⟨q,List.mem_cons_self,e,rfl⟩
    ·cases h
   ·exact .inr h
theorem setLk_len {H:List SObj}:∀ {l:List (Nat × Lk)} {r:List SV},(setLk H l r).length = r.length
 | [],r=>rfl
 | q :: l,r=>by simp [setLk,setLk_len]
theorem getLk_in {H:List SObj} {n:Nat} {r:List SV}:∀ {l:List (Nat × Lk)} {c:Bool},getLk H n r l = some c → c = true → ∀ q ∈ l,∃ x,r[q.1]? = some x ∧ ckLk H n x q.2 = some true
 | [],c,h,hc,q,hq=>by cases hq
 | p :: l,c,h,hc,q,hq=>by
  simp only [getLk] at h
  split at h
  ·cases h
  ·rename_i x hx
   split at h
   ·cases h
   ·rename_i c1 h1
    split at h
    ·cases h
    ·rename_i d hd
     cases h
     rw [Bool.and_eq_true] at hc
     rcases List.mem_cons.1 hq with rfl | hq
     ·exact ⟨x,hx,by rw [h1,hc.1]⟩
     ·exact getLk_in hd hc.2 q hq
theorem getOwns_in {T:TT} {H:List SObj} {n:Nat}:∀ {l:List (Nat × Lk)} {c:Bool},getOwns T H n l = some c → c = true → ∀ q ∈ l,∃ x,T.get q.1 = some x ∧ ckLk H n x q.2 = some true
 | [],c,h,hc,q,hq=>by cases hq
 | p :: l,c,h,hc,q,hq=>by
  simp only [getOwns] at h
  split at h
  ·cases h
  ·rename_i x hx
   split at h
   ·cases h
   ·rename_i c1 h1
    split at h
    ·cases h
    ·rename_i d hd
     cases h
     rw [Bool.and_eq_true] at hc
     rcases List.mem_cons.1 hq with rfl | hq
     ·exact ⟨x,hx,by rw [h1,hc.1]⟩
     ·exact getOwns_in hd hc.2 q hq
theorem SRep.cutTo {M M2:Imm} {ρ:Env} {H:List SObj} {w:World} (hm:Mem M ρ H w) (hle:M.le M2) (n:Nat) {v:Value} {x:SV} (hf:x.free n = true) (h:SRep M ρ v x):SRep M2 (ρ.cut n) v x := by
 have := h.forget (d := junk n H.length) hle (cut_leBut hm n)
 rwa [SV.forget_free x hf] at this
def LenLike (n:Nat) (H H1:List SObj) (lk:Lk):Prop := match lk with
 | .stat _=>True
 | .own s=>s < n → ∀ o sz,H[s]? = some o → o.szl = some sz → ∃ o1,H1[s]? = some o1 ∧ o1.szl = some sz ∧ o1.len = o.len
theorem ckLk_sound {M M2:Imm} {ρ:Env} {H H1:List SObj} {w:World} {n:Nat} (hm:Mem M ρ H w) (hle:M.le M2) {x:SV} {lk:Lk} (h:ckLk H n x lk = some true) (hl:LenLike n H H1 lk) {v:Value} (hr:SRep M ρ v x):SRep M2 (ρ.cut n) v (lkSV H1 lk) := by
 cases lk with
 | stat y =>
  simp only [ckLk] at h
  split at h
  ·rename_i e
   rw [Bool.and_eq_true] at e
   have := SV.same_eq _ _ e.1
   subst this
   exact hr.cutTo hm hle n e.2
  ·cases h
 | own s =>
  simp only [ckLk] at h
  split at h
  ·rename_i s' sz st m
   split at h
   ·cases h
   ·rename_i e
    simp only [Bool.and_eq_true] at e
    have e1 := Nat.eq_of_beq_eq_true e.1
    have e2 := Nat.eq_of_beq_eq_true e.2.1
    have e3 := blt_lt e.2.2
    subst e1; subst e2
    split at h
    ·cases h
    ·rename_i o ho
     split at h
     ·cases h
     ·rename_i sz' hsz
      split at h
      ·rename_i e4
       have e4 := Nat.eq_of_beq_eq_true e4
       subst e4
       have hmm:m = o.len := by simpa using h
       obtain ⟨o1,q1,q2,q3⟩ := hl e3 o sz' ho hsz
       have hx:lkSV H1 (.own s') = .sl s' sz' 0 o.len := by
        simp only [lkSV,q1,q2,q3]
       rw [hx,← hmm]
       exact hr.cutTo hm hle n (by simp only [SV.free]; exact e.2.2)
      ·cases h
  ·cases h
theorem subset_mem {l m:List Nat} (h:subset l m = true) {x:Nat} (hx:x ∈ l):x ∈ m := by
 have := List.all_eq_true.1 h x hx
 simpa using this
theorem Cel.get_len {T:TT} {H H1:List SObj} {n:Nat} {c:Cel} {cc:Bool} {x:c.El} {s:Nat} (h:c.get T H n = some (cc,x)) (hc:cc = true) (hs:c.id? = some s) :
  ∃ o,H[s]? = some o ∧ o.live = true ∧ (∀ sz,o.szl = some sz → (c.obj H1 x).szl = some sz ∧ (c.obj H1 x).len = o.len) := by
 cases c with
 | slot=>cases hs
 | vec d ty row =>
  cases hs
  have h:(match H[s]? with
   | some (.tvec ty' row' l)=>match Nat.beq ty' ty with
    | true=>match castRows row' row l with
     | some l=>some (true,l)
     | none=>none
    | false=>none
   | some (.vec ty' sz rows)=>match Nat.beq ty' ty && Nat.beq sz row.length with
    | true=>match mapO (ofRow row) rows with
     | some l=>some (true,l)
     | none=>none
    | false=>none
   | some (.mix ty' sz rows)=>match Nat.beq ty' ty && Nat.beq sz row.length with
    | true=>mapC (rdRow H n row) rows
    | false=>none
   | _=>none) = some (cc,x) := h
  split at h
  ·rename_i ty' row' l ho
   refine ⟨_,ho,rfl,fun sz hsz=>?_⟩
   split at h
   ·split at h
    ·rename_i l' hl
     cases h
     obtain ⟨e,rfl⟩ := castRows_eq hl
     subst e
     exact ⟨hsz,rfl⟩
    ·cases h
   ·cases h
  ·rename_i ty' sz' rows ho
   refine ⟨_,ho,rfl,fun sz hsz=>?_⟩
   split at h
   ·rename_i e
    rw [Bool.and_eq_true] at e
    split at h
    ·rename_i l hl
     cases h
     have e2 := Nat.eq_of_beq_eq_true e.2
     simp only [SObj.szl,Option.some.injEq] at hsz
     exact ⟨by simp only [Cel.obj,SObj.szl]; rw [← e2,hsz],(mapO_spec hl).1⟩
    ·cases h
   ·cases h
  ·rename_i ty' sz' rows ho
   refine ⟨_,ho,rfl,fun sz hsz=>?_⟩
   split at h
   ·rename_i e
    rw [Bool.and_eq_true] at e
    have e2 := Nat.eq_of_beq_eq_true e.2
    simp only [SObj.szl,Option.some.injEq] at hsz
    refine ⟨by simp only [Cel.obj,SObj.szl]; rw [← e2,hsz],?_⟩
    have key:∀ (rs:List (List SV)) (c:Bool) (l:List (Els row)),mapC (rdRow H n row) rs = some (c,l) → l.length = rs.length := by
     intro rs
     induction rs with
     | nil=>intro c l h; cases h; rfl
     | cons r rs ih =>
      intro c l h
      simp only [mapC] at h
      split at h
      ·cases h
      ·split at h
       ·cases h
       ·rename_i b hb
        cases h
        simp [ih b.1 b.2 hb]
    exact key _ _ _ h
   ·cases h
  ·cases h
 | one d ty row =>
  cases hs
  have h:(match H[s]? with
   | some o=>match rowOf1 o with
    | some (ty',sz,r)=>match Nat.beq ty' ty && Nat.beq sz row.length with
     | true=>rdRow H n row r
     | false=>none
    | none=>none
   | none=>none) = some (cc,x) := h
  split at h
  ·rename_i o ho
   split at h
   ·rename_i ty' sz' r hr
    obtain ⟨g1,g2,g3,_⟩ := rowOf1_spec (M := fun _=>none) (ρ := fun _=>none) (w := default) (s := 0) hr
    refine ⟨o,ho,g1,fun sz hsz=>?_⟩
    split at h
    ·rename_i e
     rw [Bool.and_eq_true] at e
     have g2 := SObj.szl_of g2
     rw [hsz] at g2; cases g2
     have e2 := Nat.eq_of_beq_eq_true e.2
     exact ⟨by simp only [Cel.obj,SObj.szl]; rw [← e2],by rw [g3]; rfl⟩
    ·cases h
   ·cases h
  ·cases h
 | mix d ty sz0 dat lnk =>
  cases hs
  have h:(match H[s]? with
   | some o=>match rowOf1 o with
    | some (ty',sz',r)=>match Nat.beq ty' ty && Nat.beq sz' sz0 with
     | true=>match getLk H n r lnk with
      | some c=>match getPl H n r dat with
       | some x=>some (c && x.1,x.2)
       | none=>none
      | none=>none
     | false=>none
    | none=>none
   | none=>none) = some (cc,x) := h
  split at h
  ·rename_i o ho
   split at h
   ·rename_i ty' sz' r hr
    obtain ⟨g1,g2,g3,_⟩ := rowOf1_spec (M := fun _=>none) (ρ := fun _=>none) (w := default) (s := 0) hr
    refine ⟨o,ho,g1,fun sz hsz=>?_⟩
    split at h
    ·rename_i e
     rw [Bool.and_eq_true] at e
     have g2 := SObj.szl_of g2
     rw [hsz] at g2; cases g2
     have e2 := Nat.eq_of_beq_eq_true e.2
     exact ⟨by simp only [Cel.obj,SObj.szl]; rw [← e2],by rw [g3]; rfl⟩
    ·cases h
   ·cases h
  ·cases h
 | map d k v =>
  cases hs
  have h:(match H[s]? with
   | some (.tmap k' v' l)=>match castMap k' v' k v l with
    | some l=>some (true,l)
    | none=>none
   | some (.map es c)=>match Nat.beq c es.length && k.scalar with
    | true=>entData k v H n 0 es
    | false=>none
   | _=>none) = some (cc,x) := h
  split at h
  ·rename_i k' v' l ho
   exact ⟨_,ho,rfl,fun sz hsz=>by cases hsz⟩
  ·rename_i es c ho
   exact ⟨_,ho,rfl,fun sz hsz=>by cases hsz⟩
  ·cases h
 | iter d =>
  cases hs
  have h:(match H[s]? with
   | some (.iter b pos)=>some (true,(b,pos))
   | _=>none) = some (cc,x) := h
  split at h
  ·rename_i b pos ho
   exact ⟨_,ho,rfl,fun sz hsz=>by cases hsz⟩
  ·cases h
 | over d pd =>
  cases hs
  have h:(match H[s]? with
   | some (.over .done pd')=>match samePd pd' pd with
    | true=>some (true,())
    | false=>none
   | _=>none) = some (cc,x) := h
  split at h
  ·rename_i pd' ho
   exact ⟨_,ho,rfl,fun sz hsz=>by cases hsz⟩
  ·cases h
 | nest d ty ity row =>
  cases hs
  have h:(match H[s]? with
   | some (.nest ty' ity' row' ll none)=>match Nat.beq ty' ty && Nat.beq ity' ity with
    | true=>match castNest row' row ll with
     | some l=>some (true,l)
     | none=>none
    | false=>none
   | _=>none) = some (cc,x) := h
  split at h
  ·rename_i ty' ity' row' ll ho
   split at h
   ·split at h
    ·rename_i l' hl
     cases h
     obtain ⟨e,rfl⟩ := castNest_eq hl
     subst e
     exact ⟨_,ho,rfl,fun sz hsz=>⟨hsz,rfl⟩⟩
    ·cases h
   ·cases h
  ·cases h
 | fix d es c =>
  cases hs
  have h:(match H[s]? with
   | some o'=>match sameO o' (.map es c) && (SObj.map es c).free n with
    | true=>some (true,())
    | false=>none
   | none=>none) = some (cc,x) := h
  split at h
  ·rename_i o' ho
   split at h
   ·rename_i e
    rw [Bool.and_eq_true] at e
    have := sameO_eq e.1
    subst this
    exact ⟨_,ho,rfl,fun sz hsz=>by cases hsz⟩
   ·cases h
  ·cases h
theorem Cel.get_obj {M:Imm} {ρ:Env} {w:World} {T:TT} {H H1:List SObj} {n:Nat} (hm:Mem M ρ H w) {c:Cel} {cc:Bool} {x:c.El} {s:Nat} (h:c.get T H n = some (cc,x)) (hc:cc = true) (hs:c.id? = some s) (hsn:s < n)
  (hlk:∀ q ∈ c.lnks,LenLike n H H1 q.2):OwnAt (M.sealing ρ H n w) (ρ.cut n) w s (c.obj H1 x) := by
 have hle := Imm.seal_le M ρ H n w
 have hcut:(ρ.cut n) s = ρ s := by simp [Env.cut,hsn]
 cases c with
 | slot=>cases hs
 | vec d ty row =>
  cases hs
  have h:(match H[s]? with
   | some (.tvec ty' row' l)=>match Nat.beq ty' ty with
    | true=>match castRows row' row l with
     | some l=>some (true,l)
     | none=>none
    | false=>none
   | some (.vec ty' sz rows)=>match Nat.beq ty' ty && Nat.beq sz row.length with
    | true=>match mapO (ofRow row) rows with
     | some l=>some (true,l)
     | none=>none
    | false=>none
   | some (.mix ty' sz rows)=>match Nat.beq ty' ty && Nat.beq sz row.length with
    | true=>mapC (rdRow H n row) rows
    | false=>none
   | _=>none) = some (cc,x) := h
  show OwnAt _ _ w s (.tvec ty row x)
  split at h
  ·rename_i ty' row' l ho
   split at h
   ·rename_i e
    have e := Nat.eq_of_beq_eq_true e
    subst e
    split at h
    ·rename_i l' hl
     cases h
     obtain ⟨e,rfl⟩ := castRows_eq hl
     subst e
     have h0:OwnAt M ρ w s (.tvec ty' row' l) := hm.own s _ ho
     replace h0:OwnAt M ρ w s (.vec ty' row'.length (rowsPV row' l)) := h0
     exact h0.vecMix.retypeM hle hcut (.self hle l)
    ·cases h
   ·cases h
  ·rename_i ty' sz rows ho
   split at h
   ·rename_i e
    rw [Bool.and_eq_true] at e
    have e1 := Nat.eq_of_beq_eq_true e.1
    have e2 := Nat.eq_of_beq_eq_true e.2
    subst e1; subst e2
    split at h
    ·rename_i l hl
     cases h
     have h0:OwnAt M ρ w s (.vec ty' row.length rows) := hm.own s _ ho
     exact h0.vecMix.retypeM hle hcut (RowsFor.of hle hl)
    ·cases h
   ·cases h
  ·rename_i ty' sz rows ho
   split at h
   ·rename_i e
    rw [Bool.and_eq_true] at e
    have e1 := Nat.eq_of_beq_eq_true e.1
    have e2 := Nat.eq_of_beq_eq_true e.2
    subst e1; subst e2
    have h0:OwnAt M ρ w s (.mix ty' row.length rows) := hm.own s _ ho
    exact h0.retypeM hle hcut (mapC_ok (rdRow_sound n hm row) _ _ _ h hc)
   ·cases h
  ·cases h
 | one d ty row =>
  cases hs
  have h:(match H[s]? with
   | some o=>match rowOf1 o with
    | some (ty',sz,r)=>match Nat.beq ty' ty && Nat.beq sz row.length with
     | true=>rdRow H n row r
     | false=>none
    | none=>none
   | none=>none) = some (cc,x) := h
  show OwnAt _ _ w s (.vec ty row.length [rowPV row x])
  split at h
  ·rename_i o ho
   split at h
   ·rename_i ty' sz' r hr
    split at h
    ·rename_i e
     rw [Bool.and_eq_true] at e
     have e1 := Nat.eq_of_beq_eq_true e.1
     have e2 := Nat.eq_of_beq_eq_true e.2
     subst e1; subst e2
     have h0 := (rowOf1_spec (M := M) (ρ := ρ) (w := w) (s := s) hr).2.2.2 (hm.own s _ ho)
     have := rdRow_sound n hm row r cc x h hc
     have hrf:RowsFor M ρ (M.sealing ρ H n w) row [r] [x] := ⟨rfl,fun i y hy=>by
      match i,hy with
      | 0,hy=>cases hy; exact ⟨r,rfl,this⟩
      | i + 1,hy=>cases hy⟩
     exact OwnAt.retypeM (l := [x]) hle hcut hrf h0
    ·cases h
   ·cases h
  ·cases h
 | mix d ty sz0 dat lnk =>
  cases hs
  have h:(match H[s]? with
   | some o=>match rowOf1 o with
    | some (ty',sz',r)=>match Nat.beq ty' ty && Nat.beq sz' sz0 with
     | true=>match getLk H n r lnk with
      | some c=>match getPl H n r dat with
       | some x=>some (c && x.1,x.2)
       | none=>none
      | none=>none
     | false=>none
    | none=>none
   | none=>none) = some (cc,x) := h
  show OwnAt _ _ w s (.mix ty sz0 [setLk H1 lnk (setPl dat x (List.replicate sz0 .any))])
  split at h
  ·rename_i o ho
   split at h
   ·rename_i ty' sz' r hr
    split at h
    ·rename_i e
     rw [Bool.and_eq_true] at e
     have e1 := Nat.eq_of_beq_eq_true e.1
     have e2 := Nat.eq_of_beq_eq_true e.2
     subst e1; subst e2
     split at h
     ·rename_i c1 hl1
      split at h
      ·rename_i x1 hx1
       cases h
       rw [Bool.and_eq_true] at hc
       have h0 := (rowOf1_spec (M := M) (ρ := ρ) (w := w) (s := s) hr).2.2.2 (hm.own s _ ho)
       refine OwnAt.remix hcut (by rw [setLk_len,setPl_len,List.length_replicate]) (fun j y hy=>?_) h0
       rcases setLk_get hy with ⟨q,hq,rfl,rfl⟩ | hy
       ·obtain ⟨x,g1,g2⟩ := getLk_in hl1 hc.1 q hq
        exact .inr ⟨x,g1,fun u hu=>ckLk_sound hm hle g2 (hlk q hq) hu⟩
       ·rcases setPl_get hy with ⟨a,z,hz,rfl⟩ | hy
        ·obtain ⟨x,g1,g2⟩ := getPl_in (c := x1.1) (x := x1.2) hx1 hc.2 j a z hz
         exact .inr ⟨x,g1,fun u hu=>rdA_sound hm g2 rfl hu⟩
        ·rw [List.getElem?_replicate] at hy
         split at hy
         ·cases hy; exact .inl rfl
         ·cases hy
      ·cases h
     ·cases h
    ·cases h
   ·cases h
  ·cases h
 | map d k v =>
  cases hs
  have h:(match H[s]? with
   | some (.tmap k' v' l)=>match castMap k' v' k v l with
    | some l=>some (true,l)
    | none=>none
   | some (.map es c)=>match Nat.beq c es.length && k.scalar with
    | true=>entData k v H n 0 es
    | false=>none
   | _=>none) = some (cc,x) := h
  show MapAt _ _ w s (entsFrom k v 0 x) (List.length x)
  split at h
  ·rename_i k' v' l ho
   split at h
   ·rename_i l' hl
    cases h
    refine castMap_own (ρ2 := ρ) hl ?_
    have h0:OwnAt M ρ w s (.tmap k' v' l) := hm.own s _ ho
    have := h0.forget (d := junk n H.length) hle (cut_leBut hm n) hcut (fun _ _ _ _=>rfl)
    exact this
   ·cases h
  ·rename_i es c ho
   split at h
   ·rename_i e
    rw [Bool.and_eq_true] at e
    exact MapAt.data hm hcut (hm.own s _ ho) (Nat.eq_of_beq_eq_true e.1) e.2 h hc
   ·cases h
  ·cases h
 | iter d =>
  cases hs
  have h:(match H[s]? with
   | some (.iter b pos)=>some (true,(b,pos))
   | _=>none) = some (cc,x) := h
  split at h
  ·rename_i b pos ho
   cases h
   obtain ⟨p,h1,h2⟩ := hm.own s _ ho
   exact ⟨p,hcut.trans h1,h2⟩
  ·cases h
 | over d pd =>
  cases hs
  have h:(match H[s]? with
   | some (.over .done pd')=>match samePd pd' pd with
    | true=>some (true,())
    | false=>none
   | _=>none) = some (cc,x) := h
  split at h
  ·rename_i pd' ho
   split at h
   ·rename_i e
    cases h
    obtain ⟨p,r,h1,h2,h3,h4⟩ := hm.own s _ ho
    exact ⟨p,r,hcut.trans h1,h2,h3,h4.trans (samePd_eq e)⟩
   ·cases h
  ·cases h
 | nest d ty ity row =>
  cases hs
  have h:(match H[s]? with
   | some (.nest ty' ity' row' ll none)=>match Nat.beq ty' ty && Nat.beq ity' ity with
    | true=>match castNest row' row ll with
     | some l=>some (true,l)
     | none=>none
    | false=>none
   | _=>none) = some (cc,x) := h
  split at h
  ·rename_i ty' ity' row' ll ho
   split at h
   ·rename_i e
    rw [Bool.and_eq_true] at e
    have e1 := Nat.eq_of_beq_eq_true e.1
    have e2 := Nat.eq_of_beq_eq_true e.2
    subst e1; subst e2
    split at h
    ·rename_i l' hl
     cases h
     obtain ⟨e,rfl⟩ := castNest_eq hl
     subst e
     exact (hm.own s _ ho).forget (d := junk n H.length) hle (cut_leBut hm n) hcut (fun _ _ _ _=>rfl)
    ·cases h
   ·cases h
  ·cases h
 | fix d es c =>
  cases hs
  have h:(match H[s]? with
   | some o'=>match sameO o' (.map es c) && (SObj.map es c).free n with
    | true=>some (true,())
    | false=>none
   | none=>none) = some (cc,x) := h
  split at h
  ·rename_i o' ho
   split at h
   ·rename_i e
    rw [Bool.and_eq_true] at e
    have := sameO_eq e.1
    subst this
    have h0 := (hm.own s _ ho).forget (d := junk n H.length) hle (cut_leBut hm n) hcut (fun _ _ _ _=>rfl)
    rw [SObj.forget_free _ e.2] at h0
    exact h0
   ·cases h
  ·cases h
inductive InCells:(l:List Cel) → CEls l → (c:Cel) → c.El → Prop where
 | one (c:Cel) (x:c.El):InCells [c] x c x
 | head (c c':Cel) (l:List Cel) (x:c.El × CEls (c' :: l)):InCells (c :: c' :: l) x c x.1
 | tail (c c':Cel) (l:List Cel) (x:c.El × CEls (c' :: l)) (d:Cel) (y:d.El) (h:InCells (c' :: l) x.2 d y):InCells (c :: c' :: l) x d y
theorem InCells.mem:∀ {l:List Cel} {x:CEls l} {k:Cel} {z:k.El},InCells l x k z → k ∈ l
 | _,_,_,_,.one c x=>by simp
 | _,_,_,_,.head c c' l x=>by simp
 | _,_,_,_,.tail c c' l x d y hi=>List.mem_cons_of_mem _ hi.mem
theorem mem_ids {l:List Cel} {x:CEls l} {k:Cel} {z:k.El} {s:Nat} (hi:InCells l x k z) (h:k.id? = some s):s ∈ l.filterMap Cel.id? := List.mem_filterMap.2 ⟨k,hi.mem,h⟩
theorem getCells_in {T:TT} {H:List SObj} {n:Nat}:∀ {l:List Cel} {c:Bool} {x:CEls l},getCells T H n l = some (c,x) → c = true → ∀ (k:Cel) (y:k.El),InCells l x k y → k.get T H n = some (true,y)
 | [],c,x,h,hc,k,y,hi=>by cases hi
 | [k0],c,x,h,hc,k,y,hi=>by
  cases hi with
  | one=>rw [← hc]; exact h
 | k0 :: k1 :: l,c,x,h,hc,k,y,hi=>by
  simp only [getCells] at h
  split at h
  ·cases h
  ·rename_i a h1
   split at h
   ·cases h
   ·rename_i b h2
    cases h
    rw [Bool.and_eq_true] at hc
    cases hi with
    | head=>rw [h1,← hc.1]
    | tail _ _ _ _ _ _ hi=>exact getCells_in (c := b.1) (x := b.2) h2 hc.2 k y hi
theorem Cel.put_H {H0:List SObj} {c:Cel} {x:c.El} {T:TT} {H:List SObj} {s:Nat} {o:SObj} (h:(c.put H0 x (T,H)).2[s]? = some o):(c.id? = some s ∧ o = c.obj H0 x) ∨ (c.id? ≠ some s ∧ H[s]? = some o) := by
 have key:∀ (d:Nat) (ob:SObj),(H.set d ob)[s]? = some o → (some d = some s ∧ o = ob) ∨ (some d ≠ some s ∧ H[s]? = some o) := fun d ob h'=>by
  clear h
  rw [List.getElem?_set] at h'
  split at h'
  ·rename_i e; subst e
   split at h'
   ·cases h'; exact .inl ⟨rfl,rfl⟩
   ·cases h'
  ·rename_i e; exact .inr ⟨by simp [e],h'⟩
 cases c with
 | slot d ty=>exact .inr ⟨by simp [Cel.id?],h⟩
 | vec d ty row=>exact key d _ h
 | one d ty row=>exact key d _ h
 | mix d ty sz dat lnk=>exact key d _ h
 | map d k v=>exact key d _ h
 | iter d=>exact key d _ h
 | over d pd=>exact key d _ h
 | nest d ty ity row=>exact key d _ h
 | fix d es c=>exact key d _ h
theorem Cel.put_T {H0:List SObj} {c:Cel} {x:c.El} {T:TT} {H:List SObj} {t:Nat} {y:SV} (h:(c.put H0 x (T,H)).1.get t = some y):(∃ (a:ATy) (z:a.El),HEq x z ∧ c = .slot t a ∧ y = a.sv z) ∨ T.get t = some y := by
 cases c with
 | slot d a =>
  rcases TT.get_set _ _ _ _ _ h with ⟨rfl,rfl⟩ | ⟨_,h⟩
  ·exact .inl ⟨a,x,HEq.rfl,rfl,rfl⟩
  ·exact .inr h
 | vec _ _ _=>exact .inr h
 | one _ _ _=>exact .inr h
 | mix _ _ _ _ _=>exact .inr h
 | map _ _ _=>exact .inr h
 | iter _=>exact .inr h
 | over _ _=>exact .inr h
 | nest _ _ _ _=>exact .inr h
 | fix _ _ _=>exact .inr h
theorem putCells_T {H0:List SObj}:∀ {l:List Cel} {x:CEls l} {T:TT} {H:List SObj} {t:Nat} {y:SV},(putCells H0 l x (T,H)).1.get t = some y → (∃ (a:ATy) (z:a.El),InCells l x (.slot t a) z ∧ y = a.sv z) ∨ T.get t = some y
 | [],x,T,H,t,y,h=>.inr h
 | [c],x,T,H,t,y,h=>by
  rcases Cel.put_T h with ⟨a,z,he,rfl,rfl⟩ | h
  ·cases he; exact .inl ⟨a,_,.one _ _,rfl⟩
  ·exact .inr h
 | c :: c' :: l,x,T,H,t,y,h=>by
  have h:(putCells H0 (c' :: l) x.2 ((c.put H0 x.1 (T,H)).1,(c.put H0 x.1 (T,H)).2)).1.get t = some y := h
  rcases putCells_T h with ⟨a,z,hi,hy⟩ | h
  ·exact .inl ⟨a,z,.tail _ _ _ _ _ _ hi,hy⟩
  ·obtain ⟨x1,x2⟩ := x
   rcases Cel.put_T h with ⟨a,z,he,rfl,rfl⟩ | h
   ·cases he; exact .inl ⟨a,_,.head _ _ _ _,rfl⟩
   ·exact .inr h
theorem putCells_H {H0:List SObj}:∀ {l:List Cel} {x:CEls l} {T:TT} {H:List SObj} {s:Nat} {o:SObj},(putCells H0 l x (T,H)).2[s]? = some o →
  (∃ (c:Cel) (z:c.El),InCells l x c z ∧ c.id? = some s ∧ o = c.obj H0 z) ∨ (s ∉ l.filterMap Cel.id? ∧ H[s]? = some o)
 | [],x,T,H,s,o,h=>.inr ⟨by simp,h⟩
 | [c],x,T,H,s,o,h=>by
  rcases Cel.put_H h with ⟨e,ho⟩ | ⟨e,h⟩
  ·exact .inl ⟨c,x,.one _ _,e,ho⟩
  ·refine .inr ⟨fun hm=>?_,h⟩
   obtain ⟨d,hd,he⟩ := List.mem_filterMap.1 hm
   simp at hd; subst hd; exact e he
 | c :: c' :: l,x,T,H,s,o,h=>by
  have h:(putCells H0 (c' :: l) x.2 ((c.put H0 x.1 (T,H)).1,(c.put H0 x.1 (T,H)).2)).2[s]? = some o := h
  rcases putCells_H h with ⟨d,z,hi,he,ho⟩ | ⟨hn,h⟩
  ·exact .inl ⟨d,z,.tail _ _ _ _ _ _ hi,he,ho⟩
  ·rcases Cel.put_H h with ⟨e,ho⟩ | ⟨e,h⟩
   ·exact .inl ⟨c,x.1,.head _ _ _ _,e,ho⟩
   ·refine .inr ⟨fun hm=>?_,h⟩
    obtain ⟨d,hd,he⟩ := List.mem_filterMap.1 hm
    rcases List.mem_cons.1 hd with rfl | hd
    ·exact e he
    ·exact hn (List.mem_filterMap.2 ⟨d,hd,he⟩)
theorem Cel.put_len {H0:List SObj} {c:Cel} {x:c.El} {T:TT} {H:List SObj}:(c.put H0 x (T,H)).2.length = H.length := by
 cases c <;> simp [Cel.put]
theorem putCells_len {H0:List SObj}:∀ {l:List Cel} {x:CEls l} {T:TT} {H:List SObj},(putCells H0 l x (T,H)).2.length = H.length
 | [],x,T,H=>rfl
 | [c],x,T,H=>Cel.put_len
 | c :: c' :: l,x,T,H=>by
  show (putCells H0 (c' :: l) x.2 ((c.put H0 x.1 (T,H)).1,(c.put H0 x.1 (T,H)).2)).2.length = H.length
  rw [putCells_len,Cel.put_len]
theorem killAll_get:∀ {l:List Nat} {H:List SObj} {s:Nat} {o:SObj},(killAll l H)[s]? = some o → (s ∈ l ∧ o = .dead) ∨ (s ∉ l ∧ H[s]? = some o)
 | [],H,s,o,h=>.inr ⟨by simp,h⟩
 | i :: l,H,s,o,h=>by
  simp only [killAll] at h
  rcases killAll_get h with ⟨h1,h2⟩ | ⟨h1,h2⟩
  ·exact .inl ⟨List.mem_cons_of_mem _ h1,h2⟩
  ·rw [List.getElem?_set] at h2
   split at h2
   ·rename_i e; subst e
    split at h2
    ·cases h2; exact .inl ⟨List.mem_cons_self,rfl⟩
    ·cases h2
   ·rename_i e; exact .inr ⟨by simp only [List.mem_cons,not_or]; exact ⟨fun h=>e h.symm,h1⟩,h2⟩
theorem killAll_len:∀ {l:List Nat} {H:List SObj},(killAll l H).length = H.length
 | [],H=>rfl
 | i :: l,H=>by simp [killAll,killAll_len]
theorem drop_get:∀ {D:List Nat} {T:TT} {t:Nat} {y:SV},(T.drop D).get t = some y → y = .any ∨ (t ∉ D ∧ T.get t = some y)
 | [],T,t,y,h=>.inr ⟨by simp,h⟩
 | d :: D,T,t,y,h=>by
  simp only [TT.drop] at h
  rcases drop_get h with h | ⟨h1,h2⟩
  ·exact .inl h
  ·rcases TT.get_set _ _ _ _ _ h2 with ⟨_,rfl⟩ | ⟨e,h2⟩
   ·exact .inl rfl
   ·exact .inr ⟨by simp [h1,e],h2⟩
theorem putOwns_get {H:List SObj}:∀ {l:List (Nat × Lk)} {T:TT} {t:Nat} {y:SV},(putOwns H l T).get t = some y → (∃ q ∈ l,q.1 = t ∧ y = lkSV H q.2) ∨ T.get t = some y
 | [],T,t,y,h=>.inr h
 | q :: l,T,t,y,h=>by
  simp only [putOwns] at h
  rcases putOwns_get h with ⟨q',h1,h2⟩ | h
  ·exact .inl ⟨q',List.mem_cons_of_mem _ h1,h2⟩
  ·rcases TT.get_set _ _ _ _ _ h with ⟨rfl,rfl⟩ | ⟨_,h⟩
   ·exact .inl ⟨q,List.mem_cons_self,rfl,rfl⟩
   ·exact .inr h
theorem forgetH_get {mv:List Nat} {H:List SObj} {s:Nat} {o:SObj} (h:(forgetH mv H)[s]? = some o):∃ x,H[s]? = some x ∧ (o = x.forget mv ∨ (mv = [] ∧ o = x)) := by
 unfold forgetH at h
 split at h
 ·exact ⟨o,h,.inr ⟨rfl,rfl⟩⟩
 ·simp only [List.getElem?_map,Option.map_eq_some_iff] at h
  obtain ⟨x,hx,rfl⟩ := h
  exact ⟨x,hx,.inl rfl⟩
theorem forgetH_len {mv:List Nat} {H:List SObj}:(forgetH mv H).length = H.length := by
 unfold forgetH; split <;> simp
def Tmpl.H1 (τ:Tmpl) (ids mv:List Nat) (b:St) (x:τ.El):List SObj := (putCells [] τ.cells x (.nil,killAll ids (forgetH mv b.H))).2
theorem Tmpl.st_H (τ:Tmpl) (D ids mv:List Nat) (b:St) (x:τ.El):(τ.st D ids mv b x).H = (putCells (τ.H1 ids mv b x) τ.cells x ((forgetT mv b.T).drop D,killAll ids (forgetH mv b.H))).2 := by
 unfold Tmpl.st Tmpl.H1; rfl
theorem Tmpl.st_T (τ:Tmpl) (D ids mv:List Nat) (b:St) (x:τ.El):(τ.st D ids mv b x).T = putOwns (τ.H1 ids mv b x) τ.owns (putCells (τ.H1 ids mv b x) τ.cells x ((forgetT mv b.T).drop D,killAll ids (forgetH mv b.H))).1 := by
 unfold Tmpl.st Tmpl.H1; rfl
theorem Tmpl.st_rest (τ:Tmpl) (D ids mv:List Nat) (b:St) (x:τ.El):(τ.st D ids mv b x).n0 = b.H.length ∧ (τ.st D ids mv b x).tch = ids ∧ (τ.st D ids mv b x).fg = mv ∧ (τ.st D ids mv b x).marks = [] ∧ (τ.st D ids mv b x).er = D := by
 unfold Tmpl.st; split; split; exact ⟨rfl,rfl,rfl,rfl,rfl⟩
theorem absorb {B:Nat → Value} {nt:Nat} {τ:Tmpl} {D ids mv:List Nat} {b s':St} {H0:List SObj} {M0 M':Imm} {ρ0 ρ':Env} {a0 a':Act} {w0 w':World} {c:Bool} {x:τ.El}
  (hB:∀ t,t ∉ D → a0.tmps.getD t undef = B t) (hb:BaseAt D ids mv b M0 ρ0 H0 a0 w0) (hm0:Mem M0 ρ0 H0 w0)
  (hg:Good B nt M' ρ' s' a' w') (hf:Fr M0 ρ0 H0 w0 M' ρ' s'.H w' b.H.length s'.tch s'.fg) (hmv:subset mv ids = true) (hcov:τ.covers ids = true)
  (hr:s'.reads D ids mv b.H.length = true) (hx:τ.read b.H.length s' = some (c,x)) (hc:c = true) :
  ∃ M'' ρ'',Good B nt M'' ρ'' (τ.st D ids mv b x) a' w' ∧ Fr M0 ρ0 H0 w0 M'' ρ'' (τ.st D ids mv b x).H w' b.H.length ids mv ∧ M'' = M'.sealing ρ' s'.H b.H.length w' ∧ ρ'' = ρ'.cut b.H.length := by
 simp only [St.reads,Bool.and_eq_true] at hr
 unfold Tmpl.covers at hcov
 simp only [Bool.and_eq_true] at hcov
 obtain ⟨hcov,hcov1,hcov2⟩ := hcov
 obtain ⟨r1,r2,r3,r4,r5⟩ := hr
 have r4:s'.marks = [] := by simpa using r4
 have r5 := Nat.le_of_ble_eq_true r5
 unfold Tmpl.read at hx
 split at hx
 ·rename_i c1 howns
  split at hx
  ·rename_i x0 hcells
   cases hx
   rw [Bool.and_eq_true] at hc
   obtain ⟨e1,e2,e3,e4,e5⟩ := Tmpl.st_rest τ D ids mv b x0.2
   have hL:(τ.st D ids mv b x0.2).H.length = b.H.length := by rw [Tmpl.st_H,putCells_len,killAll_len,forgetH_len]
   have hL1:(τ.H1 ids mv b x0.2).length = b.H.length := by unfold Tmpl.H1; rw [putCells_len,killAll_len,forgetH_len]
   have hmem := getCells_in (c := x0.1) (x := x0.2) hcells hc.2
   have hle := Imm.seal_le M' ρ' s'.H b.H.length w'
   have hlen:∀ s,s ∈ τ.cells.filterMap Cel.id? → LenLike b.H.length s'.H (τ.H1 ids mv b x0.2) (.own s) := fun s hs hsn o sz ho hsz=>by
    have hs1:s < (τ.H1 ids mv b x0.2).length := by rw [hL1]; exact hsn
    obtain ⟨o1,ho1⟩:∃ o1,(τ.H1 ids mv b x0.2)[s]? = some o1 := ⟨_,List.getElem?_eq_getElem hs1⟩
    refine ⟨o1,ho1,?_⟩
    have ho1' := ho1
    unfold Tmpl.H1 at ho1'
    rcases putCells_H ho1' with ⟨k,z,hi,hk,rfl⟩ | ⟨hn,_⟩
    ·obtain ⟨o2,q1,_,q3⟩ := Cel.get_len (H1 := []) (hmem k z hi) rfl hk
     rw [ho] at q1; cases q1
     exact q3 sz hsz
    ·exact absurd hs hn
   have hlk:∀ lk:Lk,lk.inn (τ.cells.filterMap Cel.id?) = true → LenLike b.H.length s'.H (τ.H1 ids mv b x0.2) lk := fun lk h=>by
    cases lk with
    | stat y=>trivial
    | own s=>exact hlen s (by simpa [Lk.inn] using h)
   have hobj:∀ s o,(τ.st D ids mv b x0.2).H[s]? = some o → s < b.H.length ∧ ((∃ (k:Cel) (z:k.El),InCells τ.cells x0.2 k z ∧ k.id? = some s ∧ o = k.obj (τ.H1 ids mv b x0.2) z) ∨ o = .dead ∨ (s ∉ ids ∧ ∃ o0,b.H[s]? = some o0 ∧ (o = o0.forget mv ∨ (mv = [] ∧ o = o0)))) := fun s o ho=>by
    have hs:s < b.H.length := by rw [← hL]; exact (List.getElem?_eq_some_iff.1 ho).1
    refine ⟨hs,?_⟩
    rw [Tmpl.st_H] at ho
    rcases putCells_H ho with ⟨k,z,hi,hk,e⟩ | ⟨_,ho⟩
    ·exact .inl ⟨k,z,hi,hk,e⟩
    ·rcases killAll_get ho with ⟨_,e⟩ | ⟨hn,ho⟩
     ·exact .inr (.inl e)
     ·exact .inr (.inr ⟨hn,forgetH_get ho⟩)
   have hcut:∀ s,s < b.H.length → ρ'.cut b.H.length s = ρ' s := fun s hs=>by simp [Env.cut,hs]
   have hstay:∀ s,s < b.H.length → s ∉ mv → ρ' s = ρ0 s := fun s hs hn=>hf.stay s hs fun h=>hn (subset_mem r3 h)
   have hbut:Env.leBut mv ρ0 (ρ'.cut b.H.length) := fun s p hs hp=>by
    have hn:s ∉ mv := by simpa using hs
    rcases Nat.lt_or_ge s b.H.length with h | h
    ·rw [hcut s h,hstay s h hn]; exact hp
    ·rw [hm0.fresh s (by rw [hb.len]; exact h)] at hp; cases hp
   have hsame:∀ s o0,s ∉ ids → b.H[s]? = some o0 → o0.live = true → ∀ p b,ρ0 s = some p → p.has b → w'.heap[b]? = w0.heap[b]? := fun s o0 hn ho hl p bb hp hbb=>by
    obtain ⟨o',h1,h2⟩ := (hb.objs s o0 hn ho).2 hl
    exact ((hf.keep s o' ((List.getElem?_eq_some_iff.1 ho).1) (fun h=>hn (subset_mem r2 h)) h1 h2).2 p hp).2 bb hbb
   have himm:M0.le (M'.sealing ρ' s'.H b.H.length w') := Imm.le_trans hf.imm hle
   have hlive:∀ (s:Nat) (o:SObj),(τ.st D ids mv b x0.2).H[s]? = some o → o.live = true → ∃ o':SObj,s'.H[s]? = some o' ∧ o'.live = true := fun s o ho hl=>by
    obtain ⟨hs,⟨k,z,h1,h2,rfl⟩ | rfl | ⟨hn,o0,h1,h2⟩⟩ := hobj s o ho
    ·obtain ⟨o',g1,g2,_⟩ := Cel.get_len (H1 := []) (hmem k z h1) rfl h2
     exact ⟨o',g1,g2⟩
    ·cases hl
    ·have hl0:o0.live = true := by
      rcases h2 with rfl | ⟨_,rfl⟩
      ·rwa [forget_live] at hl
      ·exact hl
     obtain ⟨o',g1,g2⟩ := (hb.objs s o0 hn h1).2 hl0
     exact (hf.keep s o' hs (fun h=>hn (subset_mem r2 h)) g1 g2).1
   have hmem'':Mem (M'.sealing ρ' s'.H b.H.length w') (ρ'.cut b.H.length) (τ.st D ids mv b x0.2).H w' := by
    refine ⟨fun bb o hbb=>?_,fun s o ho=>?_,fun s o p bb ho hl hp hbb=>?_,fun s s1 o o1 p p1 bb ho ho1 hl hl1 hp hp1 hbk hbk'=>?_,fun s hs=>?_,fun s o p bb ho hl hp hbb=>?_⟩
    ·cases e:M' bb with
     | some o'=>rw [hle bb o' e] at hbb; cases hbb; exact hg.mem.imm bb _ e
     | none=>exact (Imm.seal_new e hbb).2
    ·obtain ⟨hs,⟨k,z,h1,h2,rfl⟩ | rfl | ⟨hn,o0,h1,h2⟩⟩ := hobj s o ho
     ·refine Cel.get_obj hg.mem (hmem k z h1) rfl h2 hs fun q hq=>hlk q.2 ?_
      have := List.all_eq_true.1 hcov1 k h1.mem
      exact List.all_eq_true.1 this q hq
     ·trivial
     ·have h0 := (hb.objs s o0 hn h1).1
      have hnm:s ∉ mv := fun h=>hn (subset_mem hmv h)
      by_cases hl:o0.live = true
      ·have h3 := h0.forget (d := mv) himm hbut ((hcut s hs).trans (hstay s hs hnm)) (fun p bb hp hbb=>hsame s o0 hn h1 hl p bb hp hbb)
       rw [SObj.forget_twice] at h3
       rcases h2 with rfl | ⟨rfl,rfl⟩
       ·exact h3
       ·rwa [SObj.forget_nil] at h3
      ·have e0 := live_some hl
       subst e0
       rcases h2 with rfl | ⟨_,rfl⟩ <;> trivial
    ·obtain ⟨o',h1,h2⟩ := hlive s o ho hl
     have hs := (hobj s o ho).1
     rw [hcut s hs] at hp
     cases e:M'.sealing ρ' s'.H b.H.length w' bb with
     | none=>rfl
     | some ob =>
      obtain ⟨⟨s2,o2,p2,q1,q2,q3,q4,q5⟩,_⟩ := Imm.seal_new (hg.mem.seps s o' p bb h1 h2 hp hbb) e
      have hl2:o2.live = true := by cases o2 <;> simp_all [SObj.rowsy,SObj.live]
      have := hg.mem.diss s s2 o' o2 p p2 bb h1 q2 h2 hl2 hp q4 hbb (.inl q5)
      omega
    ·obtain ⟨o',h1,h2⟩ := hlive s o ho hl
     obtain ⟨o1',k1,k2⟩ := hlive s1 o1 ho1 hl1
     rw [hcut s (hobj s o ho).1] at hp
     rw [hcut s1 (hobj s1 o1 ho1).1] at hp1
     exact hg.mem.diss s s1 o' o1' p p1 bb h1 k1 h2 k2 hp hp1 hbk hbk'
    ·rw [hL] at hs
     simp [Env.cut,Nat.not_lt.2 hs]
    ·obtain ⟨o',h1,h2⟩ := hlive s o ho hl
     rw [hcut s (hobj s o ho).1] at hp
     exact hg.mem.lts s o' p bb h1 h2 hp hbb
   refine ⟨M'.sealing ρ' s'.H b.H.length w',ρ'.cut b.H.length,⟨fun t y hy=>?_,hg.sz,hmem'',?_,fun m hm=>?_,by rw [e1,hL]; exact Nat.le_refl _,fun t ht=>?_⟩,?_,rfl,rfl⟩
   ·rw [Tmpl.st_T] at hy
    rcases putOwns_get hy with ⟨q,hq,rfl,rfl⟩ | hy
    ·obtain ⟨x,g1,g2⟩ := getOwns_in howns hc.1 q hq
     exact ckLk_sound hg.mem hle g2 (hlk q.2 (List.all_eq_true.1 hcov q hq)) (hg.tm q.1 x g1)
    ·rcases putCells_T hy with ⟨a,z,hi,rfl⟩ | hy
     ·have hz := hmem _ _ hi
      have hz:(match s'.T.get t with
       | some x=>rdA s'.H b.H.length a x
       | none=>none) = some (true,z) := hz
      split at hz
      ·rename_i x hx
       exact rdA_sound hg.mem hz rfl (hg.tm t x hx)
      ·cases hz
     ·rcases drop_get hy with rfl | ⟨hn,hy⟩
      ·exact .any _
      ·obtain ⟨y0,hy0,hyy⟩ := lookup_forgetT hy
       have hsl := hb.slots t y0 hn hy0
       have ht':a'.tmps.getD t undef = a0.tmps.getD t undef := by
        rw [hg.fix t fun h=>hn (subset_mem r1 h),hB t hn]
       rw [ht']
       have h3 := hsl.forget (d := mv) himm hbut
       rw [SV.forget_twice] at h3
       rcases hyy with rfl | ⟨rfl,rfl⟩
       ·exact h3
       ·rwa [SV.forget_nil] at h3
   ·rw [e4]
    have := hg.df
    rw [r4] at this
    exact ⟨this.1,fun i d s _ h=>by simp at h⟩
   ·rw [e4] at hm; cases hm
   ·rw [e5] at ht
    exact hg.fix t fun h=>ht (subset_mem r1 h)
   ·refine ⟨himm,fun bb o h0 h1=>?_,fun bb hbb=>?_,hf.same,hf.grow,fun s o hs hx ho hl=>?_,fun s hs hx=>?_,hf.io⟩
    ·cases e:M' bb with
     | some o'=>exact hf.new bb o' h0 e
     | none =>
      obtain ⟨⟨s2,o2,p2,q1,q2,q3,q4,q5⟩,_⟩ := Imm.seal_new e h1
      exact hf.own bb ⟨s2,o2,p2,q2,by cases o2 <;> simp_all [SObj.rowsy,SObj.live],q4,.inl q5⟩
    ·obtain ⟨s,o,p,h1,h2,h3,h4⟩ := hbb
     obtain ⟨o',k1,k2⟩ := hlive s o h1 h2
     rw [hcut s (hobj s o h1).1] at h3
     exact hf.own bb ⟨s,o',p,k1,k2,h3,h4⟩
    ·have hs2:s < (τ.st D ids mv b x0.2).H.length := by rw [hL]; exact hs
     have hns:s ∉ s'.tch := fun h=>hx (subset_mem r2 h)
     obtain ⟨_,k3⟩ := hf.keep s o hs hns ho hl
     refine ⟨?_,fun p hp=>?_⟩
     ·obtain ⟨o0,g1,g2⟩ := hb.back s o hx ho hl
      have hns2:s ∉ τ.cells.filterMap Cel.id? := fun h=>hx (subset_mem hcov2 h)
      obtain ⟨on,hst⟩:∃ on,(τ.st D ids mv b x0.2).H[s]? = some on := ⟨_,List.getElem?_eq_getElem hs2⟩
      refine ⟨on,hst,?_⟩
      have hst2 := hst
      rw [Tmpl.st_H] at hst2
      rcases putCells_H hst2 with ⟨k',z',hi,hk,_⟩ | ⟨_,hh⟩
      ·exact absurd (mem_ids hi hk) hns2
      ·rcases killAll_get hh with ⟨h1,_⟩ | ⟨_,h2⟩
       ·exact absurd h1 hx
       ·obtain ⟨o2,n1,n2⟩ := forgetH_get h2
        rw [g1] at n1; cases n1
        rcases n2 with e | ⟨_,e⟩
        ·rw [e,live_forget]; exact g2
        ·rw [e]; exact g2
     ·obtain ⟨k4,k5⟩ := k3 p hp
      exact ⟨by rw [hcut s hs]; exact k4,k5⟩
    ·rw [hcut s hs]; exact hstay s hs hx
  ·cases hx
 ·cases hx
end Go.Sx
end
section
namespace Go.Sx
open Go
def gd {X:Type}:Bool → Option X → Option X
 | true,x=>x
 | false,_=>none
theorem gd_some {X:Type} {c:Bool} {x:Option X} {y:X} (h:gd c x = some y):c = true ∧ x = some y := by
 cases c with
 | true=>exact ⟨rfl,h⟩
 | false=>cases h
def both {X:Type} (eq:X → X → Bool) (x y:Option X):Option X := match x with
 | none=>none
 | some a=>match y with
  | none=>none
  | some b=>match eq a b with
   | true=>some a
   | false=>none
theorem both_some {X:Type} {eq:X → X → Bool} (he:EqOk eq) {x y:Option X} {v:X} (h:both eq x y = some v):x = some v ∧ y = some v := by
 unfold both at h
 split at h
 ·cases h
 ·split at h
  ·cases h
  ·split at h
   ·rename_i e; cases h; rw [he _ _ e]; exact ⟨rfl,rfl⟩
   ·cases h
abbrev KO (X:Type) := SV → List SObj → List Nat → List Nat → Option X
abbrev KX (X:Type) := Exit → St → Option X
section
variable {X:Type}
def Res.runO (eq:X → X → Bool) (kok:SV → Option X) (k:KO X):Res → Option X
 | .fail=>none
 | .ok x=>kok x
 | .eff x H' t g=>k x H' t g
 | .need c r=>match c with
  | true=>r.runO eq kok k
  | false=>none
 | .split c a b=>match c with
  | true=>a.runO eq kok k
  | false=>b.runO eq kok k
 | .both a b=>Sx.both eq (a.runO eq kok k) (b.runO eq kok k)
theorem Res.runO_holds {eq:X → X → Bool} (he:EqOk eq) {H:List SObj} {kok:SV → Option X} {k:KO X} {K:Post} {y:X} (h1:∀ x,kok x = some y → K x H [] []) (h2:∀ x H' t g,k x H' t g = some y → K x H' t g):∀ {r:Res},r.runO eq kok k = some y → r.holds H K
 | .fail,h=>by simp [Res.runO] at h
 | .ok x,h=>h1 x h
 | .eff x H' t g,h=>h2 x H' t g h
 | .need c r,h=>by
  simp only [Res.runO] at h
  cases c with
  | true=>exact ⟨rfl,Res.runO_holds he h1 h2 h⟩
  | false=>cases h
 | .split c a b,h=>by
  simp only [Res.runO] at h
  cases c with
  | true=>exact ⟨fun _=>Res.runO_holds he h1 h2 h,fun h=>by cases h⟩
  | false=>exact ⟨fun h=>(by cases h),fun _=>Res.runO_holds he h1 h2 h⟩
 | .both a b,h=>by
  simp only [Res.runO] at h
  obtain ⟨q1,q2⟩ := both_some he h
  exact ⟨Res.runO_holds he h1 h2 q1,Res.runO_holds he h1 h2 q2⟩
def guardO (ops:Array Oper) (o:Oper) (s:St) (run skip:St → Option X):Option X :=
 match o.guard with
 | none=>run s
 | some (j,want)=>match guardSlot ops j with
  | none=>none
  | some d=>match s.T.get d with
   | some (.pv (.lit (.bool b)))=>match want with
    | true=>match b with
     | true=>run { s with T := s.T.set d (.lit (.bool true)) }
     | false=>skip { s with T := s.T.set d (.lit (.bool false)) }
    | false=>match b with
     | true=>skip { s with T := s.T.set d (.lit (.bool true)) }
     | false=>run { s with T := s.T.set d (.lit (.bool false)) }
   | some (.pv (.lit (.tuple _)))=>skip s
   | _=>none
theorem guardO_sound {ops:Array Oper} {o:Oper} {s:St} {run skip:St → Option X} {run' skip':St → Prop} {y:X} (h:guardO ops o s run skip = some y) (hr:∀ s,run s = some y → run' s) (hs:∀ s,skip s = some y → skip' s):guardV ops o s run' skip' := by
 unfold guardO at h
 unfold guardV
 split at h
 ·rename_i e; simp only [e]; exact hr _ h
 ·rename_i j want e
  simp only [e]
  split at h
  ·cases h
  ·rename_i d e2
   simp only [e2]
   split at h
   ·rename_i b e3
    simp only [e3]
    cases want <;> cases b <;> simp only [Bool.not_true,Bool.not_false] at h ⊢
    ·exact ⟨fun _=>hr _ h,fun h=>by cases h⟩
    ·exact ⟨fun h=>(by cases h),fun _=>hs _ h⟩
    ·exact ⟨fun h=>(by cases h),fun _=>hs _ h⟩
    ·exact ⟨fun _=>hr _ h,fun h=>by cases h⟩
   ·rename_i e3; simp only [e3]; exact hs _ h
   ·cases h
def Res.low:Res → Res
 | .split c _ b=>.need (!c) b.low
 | .need c r=>.need c r.low
 | .both a b=>.both a.low b.low
 | r=>r
theorem Res.low_holds {H:List SObj} {K:Post}:∀ {r:Res},r.low.holds H K → r.holds H K
 | .fail,h=>h
 | .ok x,h=>h
 | .eff x H' t g,h=>h
 | .need c r,h=>⟨h.1,Res.low_holds h.2⟩
 | .split c a b,h=>⟨fun hc=>(by have := h.1; rw [hc] at this; cases this),fun _=>Res.low_holds h.2⟩
 | .both a b,h=>⟨Res.low_holds h.1,Res.low_holds h.2⟩
def lowR:Bool → Res → Res
 | true,r=>r.low
 | false,r=>r
theorem lowR_holds {H:List SObj} {K:Post} {b:Bool} {r:Res} (h:(lowR b r).holds H K):r.holds H K := by
 cases b with
 | true=>exact Res.low_holds h
 | false=>exact h
abbrev CallO (X:Type) := Bool → Nat → List SV → List SObj → KO X → Option X
structure CallO.Ok (cx:Cx) (cb:CallO X):Prop where
 ok:∀ g args H k y,cb false g args H k = some y → (∃ fn,cx.fns.lookup g = some fn) ∧ SCall cx.P g args H fun x H' t f=>k x H' t f = some y
 rd:∀ s args H k y,cb true s args H k = some y → SRound cx.P s args H fun x H' t f=>k x H' t f = some y
def opO (eq:X → X → Bool) (cx:Cx) (cb:CallO X) (ev:Operand → SV) (H:List SObj) (o:Oper) (kok:SV → Option X) (k:KO X):Option X :=
 match isCall o.op with
 | some c=>match targetY ev c with
  | some (s,args)=>cb true s args H k
  | none=>match target ev c with
   | none=>none
   | some (g,args)=>cb false g args H k
 | none=>(lowR cx.low (sop cx.P cx.tab H ev o)).runO eq kok k
theorem opO_sound {eq:X → X → Bool} (he:EqOk eq) {cx:Cx} {cb:CallO X} (hcb:cb.Ok cx) {ev:Operand → SV} {H:List SObj} {o:Oper} {kok:SV → Option X} {k:KO X} {K:Post} {y:X} (h1:∀ x,kok x = some y → K x H [] []) (h2:∀ x H' t g,k x H' t g = some y → K x H' t g)
  (h:opO eq cx cb ev H o kok k = some y):opP cx ev H o K := by
 unfold opO at h
 unfold opP
 cases hc:isCall o.op with
 | none=>simp only [hc] at h ⊢; exact lowR_holds (Res.runO_holds he h1 h2 h)
 | some c =>
  simp only [hc] at h ⊢
  cases hy:targetY ev c with
  | some q =>
   obtain ⟨s,args⟩ := q
   simp only [hy] at h ⊢
   exact (hcb.rd s args H k y h).mono h2
  | none =>
   simp only [hy] at h ⊢
   cases ht:target ev c with
   | none=>simp only [ht] at h; cases h
   | some q =>
    obtain ⟨g,args⟩ := q
    simp only [ht] at h ⊢
    obtain ⟨⟨fn,hf⟩,h3⟩ := hcb.ok g args H k y h
    simp only [hf]; exact h3.mono h2
def vopsO (eq:X → X → Bool) (cx:Cx) (cb:CallO X) (nt:Nat) (ops:Array Oper):List Oper → St → (St → Option X) → Option X
 | [],s,k=>k s
 | o :: rest,s,k=>guardO ops o s
   (fun s'=>gd (noDefer o.op && dstOk nt o.dst) (opO eq cx cb s'.ev s'.H o (fun x=>vopsO eq cx cb nt ops rest (s'.put o.dst x) k) fun x H t f=>gd (stepOk s' nt o.dst H f) (vopsO eq cx cb nt ops rest (s'.step o.dst x H t f) k)))
   (fun s'=>gd (dstOk nt o.dst) (vopsO eq cx cb nt ops rest (s'.put o.dst (.lit undef)) k))
theorem vopsO_sound {eq:X → X → Bool} (he:EqOk eq) {cx:Cx} {cb:CallO X} (hcb:cb.Ok cx) {nt:Nat} {ops:Array Oper} {y:X}:∀ (l:List Oper) (s:St) (k:St → Option X),vopsO eq cx cb nt ops l s k = some y → vops cx nt ops l s fun s'=>k s' = some y
 | [],s,k,h=>h
 | o :: rest,s,k,h=>by
  unfold vopsO at h
  unfold vops
  refine guardO_sound h (fun s' h=>?_) (fun s' h=>?_)
  ·obtain ⟨h0,h⟩ := gd_some h
   rw [Bool.and_eq_true] at h0
   refine ⟨h0.1,opO_sound he hcb (fun x hx=>.inl ⟨h0.2,rfl,rfl,rfl,vopsO_sound he hcb rest _ k hx⟩) (fun x H t f h=>?_) h⟩
   obtain ⟨h1,h⟩ := gd_some h
   exact .inr ⟨h1,vopsO_sound he hcb rest _ k h⟩
  ·obtain ⟨h0,h⟩ := gd_some h
   exact ⟨h0,vopsO_sound he hcb rest _ k h⟩
def isStop:Plan → Bool
 | .stop=>true
 | _=>false
def runPlanO (eq:X → X → Bool) (cx:Cx) (cb:CallO X) (nt:Nat) (ops:Array Oper):Plan → List (Nat × List Nat) → St → (St → Option X) → Option X
 | .done,pend,s,k=>k s
 | .bad,pend,s,k=>none
 | .stop,pend,s,k=>none
 | .take i o p,pend,s,k=>gd (dstOk nt o.dst) (guardO ops o s
   (fun s'=>gd ((loadSid s'.ev o).all (liveAt s'.H) && hdyn (loadSid s'.ev o) s'.ev o)
    ((lowR cx.low (sop cx.P cx.tab s'.H s'.ev o)).runO eq (fun x=>runPlanO eq cx cb nt ops p (addPend i (loadSid s'.ev o) pend) (s'.put o.dst x) k) fun x _ _ _=>runPlanO eq cx cb nt ops p (addPend i (loadSid s'.ev o) pend) (s'.put o.dst x) k))
   (fun s'=>runPlanO eq cx cb nt ops p pend (s'.put o.dst (.lit undef)) k))
 | .alt o p rest,pend,s,k =>
  match isStop rest with
  | true=>guardO ops o s
   (fun s'=>gd (noDefer o.op && dstOk nt o.dst) (opO eq cx cb s'.ev s'.H o (fun x=>runPlanO eq cx cb nt ops p (pendAfter o pend) (s'.put o.dst x) k) fun x H t f=>gd (stepOk s' nt o.dst H f && keeps o pend t f) (runPlanO eq cx cb nt ops p (pendAfter o pend) (s'.step o.dst x H t f) k)))
   (fun s'=>gd (dstOk nt o.dst) (runPlanO eq cx cb nt ops p (pendAfter o pend) (s'.put o.dst (.lit undef)) k))
  | false=>both eq (guardO ops o s
   (fun s'=>gd (noDefer o.op && dstOk nt o.dst) (opO eq cx cb s'.ev s'.H o (fun x=>runPlanO eq cx cb nt ops p (pendAfter o pend) (s'.put o.dst x) k) fun x H t f=>gd (stepOk s' nt o.dst H f && keeps o pend t f) (runPlanO eq cx cb nt ops p (pendAfter o pend) (s'.step o.dst x H t f) k)))
   (fun s'=>gd (dstOk nt o.dst) (runPlanO eq cx cb nt ops p (pendAfter o pend) (s'.put o.dst (.lit undef)) k))) (runPlanO eq cx cb nt ops rest pend s k)
theorem runPlanO_sound {eq:X → X → Bool} (he:EqOk eq) {cx:Cx} {cb:CallO X} (hcb:cb.Ok cx) {nt:Nat} {hl:Bool} {ops:Array Oper} {k:St → Option X} {y:X} :
  ∀ (fuel:Nat) (listed:Array Bool) (R:List (Nat × List Nat)) (s:St),runPlanO eq cx cb nt ops (planOf hl ops fuel listed) R s k = some y → anyV cx nt hl ops fuel listed R s fun s'=>k s' = some y
 | 0,listed,R,s,h=>by
  unfold planOf at h
  unfold anyV
  split at h
  ·rename_i e; exact ⟨e,h⟩
  ·cases h
 | n + 1,listed,R,s,h=>by
  unfold planOf at h
  unfold anyV
  cases hp:pickH hl ops listed with
  | some i =>
   simp only [hp] at h ⊢
   cases ho:ops[i]? with
   | none=>simp only [ho] at h; cases h
   | some o =>
    simp only [ho,runPlanO] at h ⊢
    obtain ⟨h0,h⟩ := gd_some h
    refine ⟨h0,guardO_sound h (fun s' h=>?_) (fun s' h=>runPlanO_sound he hcb n _ R _ h)⟩
    obtain ⟨h1,h⟩ := gd_some h
    exact ⟨h1,lowR_holds (Res.runO_holds he (fun x h=>runPlanO_sound he hcb n _ _ _ h) (fun x _ _ _ h=>runPlanO_sound he hcb n _ _ _ h) h)⟩
  | none =>
   simp only [hp] at h ⊢
   cases hr:Region.ready .any ops listed with
   | nil=>simp only [hr] at h; exact h
   | cons r rs =>
    simp only [hr] at h
    have one:∀ (i:Nat) (o:Oper),guardO ops o s
      (fun s'=>gd (noDefer o.op && dstOk nt o.dst) (opO eq cx cb s'.ev s'.H o (fun x=>runPlanO eq cx cb nt ops (planOf hl ops n (listed.setIfInBounds i true)) (pendAfter o R) (s'.put o.dst x) k) fun x H t f=>gd (stepOk s' nt o.dst H f && keeps o R t f) (runPlanO eq cx cb nt ops (planOf hl ops n (listed.setIfInBounds i true)) (pendAfter o R) (s'.step o.dst x H t f) k)))
      (fun s'=>gd (dstOk nt o.dst) (runPlanO eq cx cb nt ops (planOf hl ops n (listed.setIfInBounds i true)) (pendAfter o R) (s'.put o.dst (.lit undef)) k)) = some y →
      guardV ops o s
       (fun s'=>noDefer o.op = true ∧ opP cx s'.ev s'.H o fun x H tch fg=>(keeps o R tch fg = true ∧ s'.adv nt o.dst (fun s''=>anyV cx nt hl ops n (listed.setIfInBounds i true) (pendAfter o R) s'' fun s'=>k s' = some y) x H tch fg))
       (fun s'=>dstOk nt o.dst = true ∧ anyV cx nt hl ops n (listed.setIfInBounds i true) (pendAfter o R) (s'.put o.dst (.lit undef)) fun s'=>k s' = some y) := by
     intro i o h
     refine guardO_sound h (fun s' h=>?_) (fun s' h=>?_)
     ·obtain ⟨h0,h⟩ := gd_some h
      rw [Bool.and_eq_true] at h0
      refine ⟨h0.1,opO_sound he hcb (fun x hx=>⟨keeps_nil o R,.inl ⟨h0.2,rfl,rfl,rfl,runPlanO_sound he hcb n _ _ _ hx⟩⟩) (fun x H t f h=>?_) h⟩
      obtain ⟨h1,h⟩ := gd_some h
      rw [Bool.and_eq_true] at h1
      exact ⟨h1.2,.inr ⟨h1.1,runPlanO_sound he hcb n _ _ _ h⟩⟩
     ·obtain ⟨h0,h⟩ := gd_some h
      exact ⟨h0,runPlanO_sound he hcb n _ _ _ h⟩
    have all:∀ (l:List Nat),l ≠ [] → runPlanO eq cx cb nt ops (planAlts ops (fun i=>planOf hl ops n (listed.setIfInBounds i true)) l) R s k = some y → ∀ i ∈ l,match ops[i]? with
     | none=>False
     | some o=>guardV ops o s
       (fun s'=>noDefer o.op = true ∧ opP cx s'.ev s'.H o fun x H tch fg=>(keeps o R tch fg = true ∧ s'.adv nt o.dst (fun s''=>anyV cx nt hl ops n (listed.setIfInBounds i true) (pendAfter o R) s'' fun s'=>k s' = some y) x H tch fg))
       (fun s'=>dstOk nt o.dst = true ∧ anyV cx nt hl ops n (listed.setIfInBounds i true) (pendAfter o R) (s'.put o.dst (.lit undef)) fun s'=>k s' = some y) := by
     intro l
     induction l with
     | nil=>intro h; exact absurd rfl h
     | cons j l ih =>
      intro _ h i hi
      unfold planAlts at h
      cases ho:ops[j]? with
      | none=>simp only [ho] at h; cases h
      | some o =>
       simp only [ho,runPlanO] at h
       cases l with
       | nil =>
        simp only [planAlts,isStop] at h
        rcases List.mem_cons.1 hi with rfl | hi
        ·simp only [ho]; exact one i o h
        ·cases hi
       | cons j2 l2 =>
        have hst:isStop (planAlts ops (fun i=>planOf hl ops n (listed.setIfInBounds i true)) (j2 :: l2)) = false := by
         unfold planAlts
         cases ops[j2]? <;> rfl
        simp only [hst] at h
        obtain ⟨h1,h2⟩ := both_some he h
        rcases List.mem_cons.1 hi with rfl | hi
        ·simp only [ho]; exact one i o h1
        ·exact ih (by simp) h2 i hi
    exact all _ (by simp) h
end
end Go.Sx
end
namespace Go.Sx
open Go
def natEq (a b:Nat):Bool := decide (a = b)
theorem natEq_ok:EqOk natEq := fun a b h=>of_decide_eq_true h
def PEls.eqv:(l:PL) → PEls l → PEls l → Bool
 | []=>unitEq
 | [p]=>p.2.eqv
 | p :: p' :: l=>pairEq p.2.eqv (PEls.eqv (p' :: l))
theorem PEls.eqv_ok:∀ (l:PL),EqOk (PEls.eqv l)
 | []=>fun a b h=>rfl
 | [p]=>ATy.eqv_ok p.2
 | p :: p' :: l=>pairEq_ok (ATy.eqv_ok p.2) (PEls.eqv_ok (p' :: l))
def Cel.eqv:(c:Cel) → c.El → c.El → Bool
 | .slot _ a=>a.eqv
 | .vec _ _ row=>listEq (Els.eqv row)
 | .one _ _ row=>Els.eqv row
 | .mix _ _ _ dat _=>PEls.eqv dat
 | .map _ k v=>listEq (pairEq k.eqv v.eqv)
 | .iter _=>pairEq strEq natEq
 | .over _ _=>unitEq
 | .nest _ _ _ row=>listEq (listEq (Els.eqv row))
 | .fix _ _ _=>unitEq
theorem Cel.eqv_ok:∀ (c:Cel),EqOk c.eqv
 | .slot _ a=>ATy.eqv_ok a
 | .vec _ _ row=>listEq_ok (Els.eqv_ok row)
 | .one _ _ row=>Els.eqv_ok row
 | .mix _ _ _ dat _=>PEls.eqv_ok dat
 | .map _ k v=>listEq_ok (pairEq_ok (ATy.eqv_ok k) (ATy.eqv_ok v))
 | .iter _=>pairEq_ok strEq_ok natEq_ok
 | .over _ _=>fun a b h=>rfl
 | .nest _ _ _ row=>listEq_ok (listEq_ok (Els.eqv_ok row))
 | .fix _ _ _=>fun a b h=>rfl
def CEls.eqv:(l:List Cel) → CEls l → CEls l → Bool
 | []=>unitEq
 | [c]=>c.eqv
 | c :: c' :: l=>pairEq c.eqv (CEls.eqv (c' :: l))
theorem CEls.eqv_ok:∀ (l:List Cel),EqOk (CEls.eqv l)
 | []=>fun a b h=>rfl
 | [c]=>Cel.eqv_ok c
 | c :: c' :: l=>pairEq_ok (Cel.eqv_ok c) (CEls.eqv_ok (c' :: l))
abbrev Alts := List (Exit × Tmpl)
def AltsEl:Alts → Type
 | []=>Empty
 | [a]=>a.2.El
 | a :: a' :: l=>a.2.El ⊕ AltsEl (a' :: l)
def AltsEl.eqv:(l:Alts) → AltsEl l → AltsEl l → Bool
 | []=>fun _ _=>true
 | [a]=>CEls.eqv a.2.cells
 | a :: a' :: l=>sumEq (CEls.eqv a.2.cells) (AltsEl.eqv (a' :: l))
theorem AltsEl.eqv_ok:∀ (l:Alts),EqOk (AltsEl.eqv l)
 | []=>fun a b h=>by cases a
 | [a]=>CEls.eqv_ok _
 | a :: a' :: l=>sumEq_ok (CEls.eqv_ok _) (AltsEl.eqv_ok (a' :: l))
def sameExit:Exit → Exit → Bool
 | .normal,.normal=>true
 | .ret,.ret=>true
 | .exit a,.exit b=>Nat.beq a b
 | _,_=>false
theorem sameExit_eq {a b:Exit} (h:sameExit a b = true):a = b := by
 unfold sameExit at h
 split at h <;> first | rfl | (rw [Nat.eq_of_beq_eq_true h]; done) | cases h
structure Foot where
 D:List Nat
 ids:List Nat
 mv:List Nat
def Foot.of (f:Foot) (τ:Tmpl):List Nat := τ.overs ++ f.ids
def readI (τ:Tmpl) (D ids mv:List Nat) (n:Nat) (s:St):Option τ.El := gd (s.reads D ids mv n) (match τ.read n s with
 | some (c,x)=>gd c (some x)
 | none=>none)
def readT (τ:Tmpl) (f:Foot) (n:Nat) (s:St):Option τ.El := readI τ f.D (f.of τ) f.mv n s
theorem readI_some {τ:Tmpl} {D ids mv:List Nat} {n:Nat} {s:St} {x:τ.El} (h:readI τ D ids mv n s = some x):s.reads D ids mv n = true ∧ ∃ c,c = true ∧ τ.read n s = some (c,x) := by
 obtain ⟨h1,h2⟩ := gd_some h
 refine ⟨h1,?_⟩
 split at h2
 ·rename_i c y e
  obtain ⟨h3,h4⟩ := gd_some h2
  cases h4
  exact ⟨c,h3,e⟩
 ·cases h2
theorem readT_some {τ:Tmpl} {f:Foot} {n:Nat} {s:St} {x:τ.El} (h:readT τ f n s = some x):s.reads f.D (f.of τ) f.mv n = true ∧ ∃ c,c = true ∧ τ.read n s = some (c,x) := readI_some h
def readAlts (f:Foot) (n:Nat):(l:Alts) → Exit → St → Option (AltsEl l)
 | [],_,_=>none
 | [a],e,s=>match sameExit a.1 e with
  | true=>readT a.2 f n s
  | false=>none
 | a :: a' :: l,e,s=>match sameExit a.1 e with
  | true=>match readT a.2 f n s with
   | some x=>some (.inl x)
   | none=>none
  | false=>match readAlts f n (a' :: l) e s with
   | some x=>some (.inr x)
   | none=>none
def stAlts (f:Foot) (b:St):(l:Alts) → AltsEl l → Exit × St
 | [],x=>Empty.elim x
 | [a],x=>(a.1,a.2.st f.D (f.of a.2) f.mv b x)
 | a :: a' :: l,.inl x=>(a.1,a.2.st f.D (f.of a.2) f.mv b x)
 | a :: a' :: l,.inr x=>stAlts f b (a' :: l) x
def onAlts {A:Type} (f:Foot) (b:St):(l:Alts) → AltsEl l → (Exit → St → A) → A
 | [],x,_=>Empty.elim x
 | [a],x,k=>k a.1 (a.2.st f.D (f.of a.2) f.mv b x)
 | a :: a' :: l,x,k=>match x with
  | .inl x=>k a.1 (a.2.st f.D (f.of a.2) f.mv b x)
  | .inr x=>onAlts f b (a' :: l) x k
theorem onAlts_eq {A:Type} {f:Foot} {b:St}:∀ {l:Alts} (x:AltsEl l) (k:Exit → St → A),onAlts f b l x k = k (stAlts f b l x).1 (stAlts f b l x).2
 | [],x,_=>Empty.elim x
 | [a],x,k=>rfl
 | a :: a' :: l,.inl x,k=>rfl
 | a :: a' :: l,.inr x,k=>onAlts_eq (l := a' :: l) x k
def Foot.ok (f:Foot):Bool := subset f.mv f.ids
theorem mv_of {f:Foot} {τ:Tmpl} (h:f.ok = true):subset f.mv (f.of τ) = true := by
 unfold Foot.ok subset at h
 unfold subset Foot.of
 rw [List.all_eq_true] at h ⊢
 intro x hx
 have := h x hx
 simp only [List.contains_iff_mem,List.mem_append] at this ⊢
 exact .inr this
def altsOk (f:Foot) (l:Alts):Bool := l.all fun a=>a.2.covers (f.of a.2)
theorem readAlts_spec {f:Foot} {n:Nat} {b:St}:∀ {l:Alts} {e:Exit} {s:St} {x:AltsEl l},altsOk f l = true → readAlts f n l e s = some x →
  ∃ (τ:Tmpl) (z:τ.El),τ.covers (f.of τ) = true ∧ readT τ f n s = some z ∧ stAlts f b l x = (e,τ.st f.D (f.of τ) f.mv b z)
 | [],e,s,x,hok,h=>by cases h
 | [a],e,s,x,hok,h=>by
  simp only [readAlts] at h
  split at h
  ·rename_i he
   refine ⟨a.2,x,by simpa [altsOk] using hok,h,?_⟩
   simp only [stAlts,sameExit_eq he]
  ·cases h
 | a :: a' :: l,e,s,x,hok,h=>by
  have hok':a.2.covers (f.of a.2) = true ∧ altsOk f (a' :: l) = true := by
   simp only [altsOk,List.all_cons,Bool.and_eq_true] at hok ⊢; exact hok
  simp only [readAlts] at h
  split at h
  ·rename_i he
   split at h
   ·rename_i z hz
    cases h
    exact ⟨a.2,z,hok'.1,hz,by simp only [stAlts,sameExit_eq he]⟩
   ·cases h
  ·split at h
   ·rename_i z hz
    cases h
    obtain ⟨τ,w,h1,h2,h3⟩ := readAlts_spec (b := b) hok'.2 hz
    exact ⟨τ,w,h1,h2,h3⟩
   ·cases h
def St.sub (s:St):St := { T := s.T,H := s.H,n0 := s.H.length,tch := [],fg := [],marks := [],er := [] }
def St.outer (s s1:St):St := { T := s1.T,H := s1.H,n0 := s.n0,tch := addTo s.n0 s1.tch s.tch,fg := addTo s.n0 s1.fg s.fg,marks := [],er := s1.er ++ s.er }
def actB (a:Act):Nat → Value := fun t=>a.tmps.getD t undef
theorem sub_good {B:Nat → Value} {nt:Nat} {M:Imm} {ρ:Env} {s:St} {a:Act} {w:World} (hg:Good B nt M ρ s a w) (hm:s.marks = []):Good (actB a) nt M ρ s.sub a w :=
 ⟨hg.tm,hg.sz,hg.mem,(by have := hg.df; rw [hm] at this; exact this),(fun m h=>by cases h),Nat.le_refl _,fun t _=>rfl⟩
theorem base_self {B:Nat → Value} {nt:Nat} {M:Imm} {ρ:Env} {s:St} {a:Act} {w:World} (hg:Good B nt M ρ s a w) (D ids mv:List Nat):BaseAt D ids mv s M ρ s.H a w :=
 ⟨rfl,fun t y _ hy=>(hg.tm t y hy).forget M.le_refl (fun _ _ _ h=>h),fun i o _ ho=>⟨(hg.mem.own i o ho).forget M.le_refl (fun _ _ _ h=>h) rfl (fun _ _ _ _=>rfl),fun hl=>⟨o,ho,hl⟩⟩,fun i o _ ho hl=>⟨o,ho,hl⟩⟩
theorem outer_good {B:Nat → Value} {nt:Nat} {M M':Imm} {ρ ρ':Env} {s s1:St} {a a':Act} {w w':World} {ids mv:List Nat} (hg:Good B nt M ρ s a w) (hm:s.marks = []) (h1:Good (actB a) nt M' ρ' s1 a' w')
  (hf:Fr M ρ s.H w M' ρ' s1.H w' s.H.length ids mv) (hn:s1.n0 = s.H.length) (ht:s1.tch = ids) (hv:s1.fg = mv) (hk:s1.marks = []) :
  Good B nt M' ρ' (s.outer s1) a' w' ∧ Goes M ρ s w M' ρ' (s.outer s1) w' := by
 refine ⟨⟨h1.tm,h1.sz,h1.mem,by have := h1.df; rw [hk] at this; exact this,fun m h=>by (cases h),?_,fun t ht=>?_⟩,?_,rfl,fun x hx=>acc_addTo hx,fun x hx=>acc_addTo hx⟩
 ·show s.n0 ≤ s1.H.length
  have := h1.nle; rw [hn] at this; exact Nat.le_trans hg.nle this
 ·have ht':t ∉ s1.er ∧ t ∉ s.er := by
   have:t ∉ s1.er ++ s.er := ht
   simpa using this
  rw [h1.fix t ht'.1]; exact hg.fix t ht'.2
 ·exact hf.weaken hg.nle (fun x hx h=>mem_addTo hx (by rw [ht]; exact h)) (fun x hx h=>mem_addTo hx (by rw [hv]; exact h))
theorem WPs_join {R:Option Nat} {P:Program} {nt:Nat} {c:Code} {Q:Exit → St → Prop} {s:St} {f:Foot} {l:Alts} {x:AltsEl l} (hm:s.marks = []) (hf:f.ok = true) (hl:altsOk f l = true)
  (h:WPs R P nt c (fun e s'=>readAlts f s.H.length l e s' = some x) s.sub) (hq:Q (stAlts f s l x).1 (s.outer (stAlts f s l x).2)):WPs R P nt c Q s := by
 intro B M ρ a w hg
 refine wpIn_mono (h (actB a) M ρ a w (sub_good hg hm)) ?_
 rintro e a' w' ⟨M',ρ',s',hr,g,go⟩
 obtain ⟨τ,z,h1,h2,h3⟩ := readAlts_spec (b := s) hl hr
 obtain ⟨r1,c,hc,r2⟩ := readT_some h2
 obtain ⟨M'',ρ'',g1,g2,_⟩ := absorb (b := s) (H0 := s.H) (M0 := M) (ρ0 := ρ) (a0 := a) (w0 := w) (fun _ _=>rfl) (base_self hg _ _ _) hg.mem g go.fr (mv_of hf) h1 r1 r2 hc
 obtain ⟨e1,e2,e3,e4,e5⟩ := Tmpl.st_rest τ f.D (f.of τ) f.mv s z
 obtain ⟨k1,k2⟩ := outer_good hg hm g1 g2 e1 e2 e3 e4
 rw [h3] at hq
 exact ⟨M'',ρ'',_,hq,k1,k2⟩
def loopO {σ β:Type} (step:σ → Option (σ ⊕ β)):Nat → σ → Option β
 | 0,_=>none
 | n + 1,x=>match step x with
  | none=>none
  | some (.inl y)=>loopO step n y
  | some (.inr b)=>some b
def roundK (f:Foot) (n:Nat) (τ:Tmpl) (l:Alts) (e:Exit) (s:St):Option (τ.El ⊕ AltsEl l) := match e with
 | .normal=>match readT τ f n s with
  | some x=>some (.inl x)
  | none=>none
 | e=>match readAlts f n l e s with
  | some x=>some (.inr x)
  | none=>none
theorem WPs_loopT {R:Option Nat} {P:Program} {nt:Nat} {c:Code} {Q:Exit → St → Prop} {s:St} {f:Foot} {τ:Tmpl} {l:Alts} {F:Nat} {x0:τ.El} {y:AltsEl l} {step:τ.El → Option (τ.El ⊕ AltsEl l)}
  (hm:s.marks = []) (hf:f.ok = true) (hl:altsOk f l = true) (hτ:τ.covers (f.of τ) = true)
  (hstep:∀ x r,step x = some r → WPs R P nt c (fun e s'=>roundK f s.H.length τ l e s' = some r) (τ.st f.D (f.of τ) f.mv s x))
  (h0:readT τ f s.H.length s.sub = some x0) (hrun:loopO step F x0 = some y) (hne:(stAlts f s l y).1 ≠ .normal) (hq:Q (stAlts f s l y).1 (s.outer (stAlts f s l y).2)):WPs R P nt (.loop c) Q s := by
 intro B M ρ a w hg
 have gs := sub_good hg hm
 have hbase := fun ids=>base_self hg f.D ids f.mv
 let J:Nat → Act → World → Prop := fun n a' w'=>∃ M' ρ' x,loopO step n x = some y ∧ Good (actB a) nt M' ρ' (τ.st f.D (f.of τ) f.mv s x) a' w' ∧ Fr M ρ s.H w M' ρ' (τ.st f.D (f.of τ) f.mv s x).H w' s.H.length (f.of τ) f.mv
 refine wpIn_loop (fun a w=>∃ n,J n a w) (fun a w=>leastOf (fun n=>J n a w)) ?_ ?_
 ·obtain ⟨r1,c',hc,r2⟩ := readT_some h0
  obtain ⟨M'',ρ'',g1,g2,_⟩ := absorb (b := s) (H0 := s.H) (M0 := M) (ρ0 := ρ) (a0 := a) (w0 := w) (fun _ _=>rfl) (hbase _) hg.mem gs (Fr.refl ..) (mv_of hf) hτ r1 r2 hc
  exact ⟨F,M'',ρ'',x0,hrun,g1,g2⟩
 ·intro a1 w1 hI
  obtain ⟨hJ,hmin⟩ := leastOf_spec hI
  obtain ⟨M1,ρ1,x,hx,g1,f1⟩ := hJ
  generalize hn:leastOf (fun n=>J n a1 w1) = n at hx hmin
  cases n with
  | zero=>cases hx
  | succ n =>
   simp only [loopO] at hx
   cases hs:step x with
   | none=>simp only [hs] at hx; cases hx
   | some r =>
    refine wpIn_mono (hstep x r hs (actB a) M1 ρ1 a1 w1 g1) ?_
    rintro e a2 w2 ⟨M2,ρ2,s2,hk,g2,go2⟩
    obtain ⟨e1,e2,e3,e4,e5⟩ := Tmpl.st_rest τ f.D (f.of τ) f.mv s x
    have f2:Fr M ρ s.H w M2 ρ2 s2.H w2 s.H.length s2.tch s2.fg := by
     have hfr := go2.fr
     rw [e1] at hfr
     exact f1.trans hfr (fun z hz=>go2.tch z (by rw [e2]; exact hz)) (fun z hz=>hz) (fun z hz=>go2.fg z (by rw [e3]; exact hz)) (fun z hz=>hz)
    unfold roundK at hk
    cases e with
    | normal =>
     simp only at hk
     split at hk
     ·rename_i z hz
      cases hk
      simp only [hs] at hx
      obtain ⟨r1,c',hc,r2⟩ := readT_some hz
      obtain ⟨M'',ρ'',k1,k2,_⟩ := absorb (b := s) (H0 := s.H) (M0 := M) (ρ0 := ρ) (a0 := a) (w0 := w) (fun _ _=>rfl) (hbase _) hg.mem g2 f2 (mv_of hf) hτ r1 r2 hc
      have hx':J n a2 w2 := ⟨M'',ρ'',z,hx,k1,k2⟩
      show (∃ n,J n a2 w2) ∧ leastOf (fun n=>J n a2 w2) < n + 1
      exact ⟨⟨n,hx'⟩,Nat.lt_succ_of_le ((leastOf_spec ⟨n,hx'⟩).2 n hx')⟩
     ·cases hk
    | _ =>
     simp only at hk
     split at hk
     ·rename_i z hz
      cases hk
      simp only [hs,Option.some.injEq] at hx
      subst hx
      obtain ⟨τ',z',h1,h2,h3⟩ := readAlts_spec (b := s) hl hz
      obtain ⟨r1,c',hc,r2⟩ := readT_some h2
      obtain ⟨M'',ρ'',k1,k2,_⟩ := absorb (b := s) (H0 := s.H) (M0 := M) (ρ0 := ρ) (a0 := a) (w0 := w) (fun _ _=>rfl) (hbase _) hg.mem g2 f2 (mv_of hf) h1 r1 r2 hc
      obtain ⟨q1,q2,q3,q4,q5⟩ := Tmpl.st_rest τ' f.D (f.of τ') f.mv s z'
      obtain ⟨m1,m2⟩ := outer_good hg hm k1 k2 q1 q2 q3 q4
      rw [h3] at hq
      exact ⟨M'',ρ'',_,hq,m1,m2⟩
     ·cases hk
def virtSt (s:St) (slot ty:Nat) (row:List Ty):St :=
 {T := s.T.set slot (.sl s.H.length row.length 0 0),H := s.H ++ [.tvec ty row []],n0 := s.n0,tch := s.tch,fg := s.fg,marks := s.marks,er := s.er }
theorem WPs_virt {R:Option Nat} {P:Program} {nt:Nat} {c:Code} {Q:Exit → St → Prop} {s:St} {slot ty:Nat} {row:List Ty} {v:Value} (hs:s.T.get slot = some (.lit v)) (hv:Value.isNil v = true)
  (h:WPs R P nt c Q (virtSt s slot ty row)):WPs R P nt c Q s := by
 refine WPs.of_imp (fun B M ρ a w hg=>⟨ρ,?_,?_⟩) h
 ·obtain ⟨m1,m2⟩ := hg.mem.virt (ty := ty) (sz := row.length)
  refine ⟨fun t y hy=>?_,hg.sz,?_,hg.df,hg.mks,by show s.n0 ≤ (s.H ++ [SObj.tvec ty row []]).length; have := hg.nle; simp; omega,hg.fix⟩
  ·rcases TT.get_set _ _ _ _ _ hy with ⟨rfl,rfl⟩ | ⟨_,hy⟩
   ·have := (hg.tm _ _ hs).lit_eq
    rw [this]
    unfold Value.isNil at hv
    split at hv
    ·simp only [Bool.and_eq_true] at hv
     rw [Nat.eq_of_beq_eq_true hv.1,Nat.eq_of_beq_eq_true hv.2]
     exact .slz _ _ _ _
    ·cases hv
   ·exact hg.tm t y hy
  ·have := m1.described (s := s.H.length) (o := .vec ty row.length []) (o' := .tvec ty row []) (by simp) rfl (fun h=>h)
   simpa [virtSt] using this
 ·obtain ⟨m1,m2⟩ := hg.mem.virt (ty := ty) (sz := row.length)
  have m3 := m2.described (s := s.H.length) (o := .vec ty row.length []) (o' := .tvec ty row []) (by simp) rfl
  refine ⟨?_,rfl,fun _ h=>h,fun _ h=>h⟩
  have m4 := m3.weaken (n' := s.n0) (t' := s.tch) (f' := s.fg) hg.nle (fun x _ h=>by cases h) (fun x _ h=>by cases h)
  simpa [virtSt] using m4
def InLp (F:Fence) (n:Nat) (P:Program) (c:Code) (Q:Exit → Act → World → Prop) (a:Act) (w:World):Prop :=
 ∀ (b:Frame) (k:List Item) (cs:List Frame),b.roundOf = F.round → F.fn b.fn → F.room (cs.length + 1 + n) →
  ∃ e a' w',Q e a' w' ∧ ArrivesIn (Machine.fenced P F) P (lone (b.atR a (.code c :: .inLoop c :: k)) cs w) b k cs e a' w'
theorem InLp.wp {F:Fence} {n:Nat} {P:Program} {c:Code} {Q:Exit → Act → World → Prop} {a:Act} {w:World} (h:InLp F n P c Q a w):(Code.loop c).wpIn F n P Q a w := by
 intro b k cs hro hb hr
 obtain ⟨e,a',w',hq,harr⟩ := h b k cs hro hb hr
 exact ⟨e,a',w',hq,.of_steps (.one (fenced_calm hb hr rfl) stepR_loop) harr⟩
theorem InLp.mono {F:Fence} {n:Nat} {P:Program} {c:Code} {Q Q':Exit → Act → World → Prop} {a:Act} {w:World} (h:InLp F n P c Q a w) (hq:∀ e a w,Q e a w → Q' e a w):InLp F n P c Q' a w :=
 fun b k cs hro hb hr=>let ⟨e,a',w',q,r⟩ := h b k cs hro hb hr; ⟨e,a',w',hq _ _ _ q,r⟩
theorem inLp_loop {F:Fence} {n:Nat} {P:Program} {c:Code} {Q:Exit → Act → World → Prop} {a:Act} {w:World} (I:Act → World → Prop) (μ:Act → World → Nat) (h₀:I a w)
  (round:∀ a w,I a w → c.wpIn F n P (Exit.then (fun a' w'=>(I a' w' ∧ μ a' w' < μ a w) ∨ InLp F n P c Q a' w') Q) a w):InLp F n P c Q a w := by
 intro b k cs hro hb hr
 have key:∀ j a w,μ a w = j → I a w →
   ∃ e a' w',Q e a' w' ∧ ArrivesIn (Machine.fenced P F) P (lone (b.atR a (.code c :: .inLoop c :: k)) cs w) b k cs e a' w' := by
  intro j
  induction j using Nat.strongRecOn with
  | _ j ih =>
   intro a w hn hI
   obtain ⟨e,a₁,w₁,hq,harr⟩ := round a w hI b (.inLoop c :: k) cs hro hb hr
   cases e with
   | normal =>
    rcases hq with ⟨hI₁,hlt⟩ | hL
    ·obtain ⟨e₂,a₂,w₂,hq₂,harr₂⟩ := ih (μ a₁ w₁) (hn ▸ hlt) a₁ w₁ rfl hI₁
     exact ⟨e₂,a₂,w₂,hq₂,.of_steps (StepsIn.trans harr (.one (fenced_calm hb hr rfl) stepR_inLoop)) harr₂⟩
    ·obtain ⟨e₂,a₂,w₂,hq₂,harr₂⟩ := hL b k cs hro hb hr
     exact ⟨e₂,a₂,w₂,hq₂,.of_steps (StepsIn.trans harr (.one (fenced_calm hb hr rfl) stepR_inLoop)) harr₂⟩
   | exit id=>exact ⟨_,a₁,w₁,hq,.pass (x := .inLoop c) rfl (fun _ _=>.inl (by simp)) harr⟩
   | goto l=>exact ⟨_,a₁,w₁,hq,.pass (x := .inLoop c) rfl (fun _ _=>.inl (by simp)) harr⟩
   | ret=>exact ⟨_,a₁,w₁,hq,.pass (x := .inLoop c) rfl (fun _ _=>.inl (by simp)) harr⟩
   | panic ch=>exact ⟨_,a₁,w₁,hq,.pass (x := .inLoop c) rfl (fun _ _=>.inl (by simp)) harr⟩
   | outgrown=>exact ⟨_,a₁,w₁,hq,.pass (x := .inLoop c) rfl (fun _ _=>.inl (by simp)) harr⟩
 exact key _ a w rfl h₀
def WPsL (R:Option Nat) (P:Program) (nt:Nat) (c:Code) (Q:Exit → St → Prop) (s:St):Prop :=
 ∀ B M ρ a w,Good B nt M ρ s a w → InLp (FW R) 0 P c (fun e a' w'=>∃ M' ρ' s',Q e s' ∧ Good B nt M' ρ' s' a' w' ∧ Goes M ρ s w M' ρ' s' w') a w
theorem WPsL.wp {R:Option Nat} {P:Program} {nt:Nat} {c:Code} {Q:Exit → St → Prop} {s:St} (h:WPsL R P nt c Q s):WPs R P nt (.loop c) Q s := fun B M ρ a w hg=>(h B M ρ a w hg).wp
def roundP (f:Foot) (n:Nat) (τ:Tmpl) (l:Alts) (e:Exit) (s:St):Option (τ.El ⊕ AltsEl l) := match e with
 | .normal=>match readT τ f n s with
  | some x=>some (.inl x)
  | none=>match readAlts f n l .normal s with
   | some x=>some (.inr x)
   | none=>none
 | e=>match readAlts f n l e s with
  | some x=>some (.inr x)
  | none=>none
theorem roundP_spec {f:Foot} {n:Nat} {τ:Tmpl} {l:Alts} {e:Exit} {s:St} {r:τ.El ⊕ AltsEl l} (h:roundP f n τ l e s = some r):(∃ x,r = .inl x ∧ e = .normal ∧ readT τ f n s = some x) ∨ ∃ z,r = .inr z ∧ readAlts f n l e s = some z := by
 unfold roundP at h
 cases e with
 | normal =>
  simp only at h
  split at h
  ·rename_i x hx
   cases h
   exact .inl ⟨x,rfl,rfl,hx⟩
  ·split at h
   ·rename_i z hz
    cases h
    exact .inr ⟨z,rfl,hz⟩
   ·cases h
 | _ =>
  simp only at h
  split at h
  ·rename_i z hz
   cases h
   exact .inr ⟨z,rfl,hz⟩
  ·cases h
theorem roundK_spec {f:Foot} {n:Nat} {τ:Tmpl} {l:Alts} {e:Exit} {s:St} {r:τ.El ⊕ AltsEl l} (h:roundK f n τ l e s = some r):(∃ x,r = .inl x ∧ e = .normal ∧ readT τ f n s = some x) ∨ ∃ z,r = .inr z ∧ readAlts f n l e s = some z := by
 unfold roundK at h
 cases e with
 | normal =>
  simp only at h
  split at h
  ·rename_i x hx
   cases h
   exact .inl ⟨x,rfl,rfl,hx⟩
  ·cases h
 | _ =>
  simp only at h
  split at h
  ·rename_i z hz
   cases h
   exact .inr ⟨z,rfl,hz⟩
  ·cases h
theorem WPsL_stage {R:Option Nat} {P:Program} {nt:Nat} {c:Code} {Q:Exit → St → Prop} {s:St} {f:Foot} {τ:Tmpl} {l:Alts} {F:Nat} {x0:τ.El} {y:AltsEl l} {step:τ.El → Option (τ.El ⊕ AltsEl l)} {rk:Exit → St → Option (τ.El ⊕ AltsEl l)}
  (hrk:∀ e s' r,rk e s' = some r → (∃ x,r = .inl x ∧ e = .normal ∧ readT τ f s.H.length s' = some x) ∨ ∃ z,r = .inr z ∧ readAlts f s.H.length l e s' = some z)
  (hm:s.marks = []) (hf:f.ok = true) (hl:altsOk f l = true) (hτ:τ.covers (f.of τ) = true)
  (hstep:∀ x r,step x = some r → WPs R P nt c (fun e s'=>rk e s' = some r) (τ.st f.D (f.of τ) f.mv s x))
  (h0:readT τ f s.H.length s.sub = some x0) (hrun:loopO step F x0 = some y)
  (hn:(stAlts f s l y).1 = .normal → WPsL R P nt c Q (s.outer (stAlts f s l y).2)) (hq:(stAlts f s l y).1 ≠ .normal → Q (stAlts f s l y).1 (s.outer (stAlts f s l y).2)):WPsL R P nt c Q s := by
 intro B M ρ a w hg
 have gs := sub_good hg hm
 have hbase := fun ids=>base_self hg f.D ids f.mv
 let J:Nat → Act → World → Prop := fun n a' w'=>∃ M' ρ' x,loopO step n x = some y ∧ Good (actB a) nt M' ρ' (τ.st f.D (f.of τ) f.mv s x) a' w' ∧ Fr M ρ s.H w M' ρ' (τ.st f.D (f.of τ) f.mv s x).H w' s.H.length (f.of τ) f.mv
 refine inLp_loop (fun a w=>∃ n,J n a w) (fun a w=>leastOf (fun n=>J n a w)) ?_ ?_
 ·obtain ⟨r1,c',hc,r2⟩ := readT_some h0
  obtain ⟨M'',ρ'',g1,g2,_⟩ := absorb (b := s) (H0 := s.H) (M0 := M) (ρ0 := ρ) (a0 := a) (w0 := w) (fun _ _=>rfl) (hbase _) hg.mem gs (Fr.refl ..) (mv_of hf) hτ r1 r2 hc
  exact ⟨F,M'',ρ'',x0,hrun,g1,g2⟩
 ·intro a1 w1 hI
  obtain ⟨hJ,hmin⟩ := leastOf_spec hI
  obtain ⟨M1,ρ1,x,hx,g1,f1⟩ := hJ
  generalize hn':leastOf (fun n=>J n a1 w1) = n at hx hmin
  cases n with
  | zero=>cases hx
  | succ n =>
   simp only [loopO] at hx
   cases hs:step x with
   | none=>simp only [hs] at hx; cases hx
   | some r =>
    refine wpIn_mono (hstep x r hs (actB a) M1 ρ1 a1 w1 g1) ?_
    rintro e a2 w2 ⟨M2,ρ2,s2,hk,g2,go2⟩
    obtain ⟨e1,e2,e3,e4,e5⟩ := Tmpl.st_rest τ f.D (f.of τ) f.mv s x
    have f2:Fr M ρ s.H w M2 ρ2 s2.H w2 s.H.length s2.tch s2.fg := by
     have hfr := go2.fr
     rw [e1] at hfr
     exact f1.trans hfr (fun z hz=>go2.tch z (by rw [e2]; exact hz)) (fun z hz=>hz) (fun z hz=>go2.fg z (by rw [e3]; exact hz)) (fun z hz=>hz)
    rcases hrk e s2 r hk with ⟨z,rfl,rfl,hz⟩ | ⟨z,rfl,hz⟩
    ·simp only [hs] at hx
     obtain ⟨r1,c',hc,r2⟩ := readT_some hz
     obtain ⟨M'',ρ'',k1,k2,_⟩ := absorb (b := s) (H0 := s.H) (M0 := M) (ρ0 := ρ) (a0 := a) (w0 := w) (fun _ _=>rfl) (hbase _) hg.mem g2 f2 (mv_of hf) hτ r1 r2 hc
     have hx':J n a2 w2 := ⟨M'',ρ'',z,hx,k1,k2⟩
     refine .inl ?_
     show (∃ n,J n a2 w2) ∧ leastOf (fun n=>J n a2 w2) < n + 1
     exact ⟨⟨n,hx'⟩,Nat.lt_succ_of_le ((leastOf_spec ⟨n,hx'⟩).2 n hx')⟩
    ·simp only [hs,Option.some.injEq] at hx
     subst hx
     obtain ⟨τ',z',h1,h2,h3⟩ := readAlts_spec (b := s) hl hz
     obtain ⟨r1,c',hc,r2⟩ := readT_some h2
     obtain ⟨M'',ρ'',k1,k2,_⟩ := absorb (b := s) (H0 := s.H) (M0 := M) (ρ0 := ρ) (a0 := a) (w0 := w) (fun _ _=>rfl) (hbase _) hg.mem g2 f2 (mv_of hf) h1 r1 r2 hc
     obtain ⟨q1,q2,q3,q4,q5⟩ := Tmpl.st_rest τ' f.D (f.of τ') f.mv s z'
     obtain ⟨m1,m2⟩ := outer_good hg hm k1 k2 q1 q2 q3 q4
     rw [h3] at hq hn
     cases e with
     | normal=>exact .inr ((hn rfl B M'' ρ'' a2 w2 m1).mono fun e a3 w3 ⟨M3,ρ3,s3,q,g,go⟩=>⟨M3,ρ3,s3,q,g,m2.trans go⟩)
     | exit id=>exact ⟨M'',ρ'',_,hq (fun h=>nomatch h),m1,m2⟩
     | goto lb=>exact ⟨M'',ρ'',_,hq (fun h=>nomatch h),m1,m2⟩
     | ret=>exact ⟨M'',ρ'',_,hq (fun h=>nomatch h),m1,m2⟩
     | panic ch=>exact ⟨M'',ρ'',_,hq (fun h=>nomatch h),m1,m2⟩
     | outgrown=>exact ⟨M'',ρ'',_,hq (fun h=>nomatch h),m1,m2⟩
def TT.all (p:SV → Bool):TT → Bool
 | .nil=>true
 | .node l v r=>l.all p && ((match v with | some x=>p x | none=>true) && r.all p)
def oneLive (H:List SObj) (k:Nat) (o:SObj):List SObj := (H.map fun _=>SObj.dead).set k o
theorem oneLive_get {H:List SObj} {k s:Nat} {o x:SObj} (h:(oneLive H k o)[s]? = some x):(s = k ∧ x = o) ∨ (s ≠ k ∧ x = .dead) := by
 unfold oneLive at h
 rw [List.getElem?_set] at h
 split at h
 ·rename_i e; subst e
  split at h
  ·cases h; exact .inl ⟨rfl,rfl⟩
  ·cases h
 ·rename_i e
  simp only [List.getElem?_map,Option.map_eq_some_iff] at h
  obtain ⟨_,_,rfl⟩ := h
  exact .inr ⟨fun h=>e h.symm,rfl⟩
theorem Mem.oneLive {M:Imm} {ρ:Env} {H:List SObj} {w:World} (hm:Mem M ρ H w) {k:Nat} {o o1:SObj} (hk:H[k]? = some o1) (hl:o1.live = true) (ho:OwnAt M ρ w k o):Mem M ρ (Sx.oneLive H k o) w := by
 refine ⟨hm.imm,fun s x hx=>?_,fun s x p b hx hlx hp hb=>?_,fun s s' x x' p p' b hx hx' hlx hlx' hp hp' hb hb'=>?_,fun s hs=>hm.fresh s (by simpa [Sx.oneLive] using hs),fun s x p b hx hlx hp hb=>?_⟩
 ·rcases oneLive_get hx with ⟨rfl,rfl⟩ | ⟨_,rfl⟩
  ·exact ho
  ·trivial
 ·rcases oneLive_get hx with ⟨rfl,rfl⟩ | ⟨_,rfl⟩
  ·exact hm.seps s o1 p b hk hl hp hb
  ·cases hlx
 ·rcases oneLive_get hx with ⟨rfl,rfl⟩ | ⟨_,rfl⟩
  ·rcases oneLive_get hx' with ⟨rfl,rfl⟩ | ⟨_,rfl⟩
   ·rfl
   ·cases hlx'
  ·cases hlx
 ·rcases oneLive_get hx with ⟨rfl,rfl⟩ | ⟨_,rfl⟩
  ·exact hm.lts s o1 p b hk hl hp hb
  ·cases hlx
theorem cut_id {M:Imm} {ρ:Env} {H:List SObj} {w:World} (hm:Mem M ρ H w):ρ.cut H.length = ρ := by
 funext s
 unfold Env.cut
 split
 ·rfl
 ·rename_i h; exact (hm.fresh s (by omega)).symm
def virtFSt (s:St) (ob col ty:Nat) (row:List Ty):Option St := match s.H[ob]? with
 | none=>none
 | some o=>match rowOf1 o with
  | none=>none
  | some q=>match Nat.beq q.2.2.length q.2.1 with
   | false=>none
   | true=>match q.2.2[col]? with
    | some (.pv (.lit v))=>match Value.isNil v with
     | true=>some { T := s.T,H := (s.H.set ob (.mix q.1 q.2.1 [q.2.2.set col (.sl s.H.length row.length 0 0)])) ++ [.tvec ty row []],n0 := s.n0,tch := s.tch,fg := s.fg,marks := s.marks,er := s.er }
     | false=>none
    | _=>none
theorem WPs_virtF {R:Option Nat} {P:Program} {nt:Nat} {c:Code} {Q:Exit → St → Prop} {s s':St} {ob col ty:Nat} {row:List Ty} (hs:virtFSt s ob col ty row = some s')
  (h:WPs R P nt c Q s'):WPs R P nt c Q s := by
 unfold virtFSt at hs
 split at hs
 ·cases hs
 ·rename_i o ho
  split at hs
  ·cases hs
  ·rename_i q hq
   split at hs
   ·cases hs
   ·rename_i hl
    have hl := Nat.eq_of_beq_eq_true hl
    split at hs
    ·rename_i v hv
     split at hs
     ·rename_i hn
      cases hs
      obtain ⟨oty,sz,r⟩ := q
      have hlt:ob < s.H.length := (List.getElem?_eq_some_iff.1 ho).1
      refine WPs.of_imp (fun B M ρ a w hg=>⟨ρ,?_,?_⟩) h
      all_goals
       obtain ⟨g1,g2,g3,g4⟩ := rowOf1_spec (M := M) (ρ := ρ) (w := w) (s := ob) hq
       obtain ⟨m1,m2⟩ := hg.mem.virt (ty := ty) (sz := row.length)
       have n1 := m1.described (s := s.H.length) (o := .vec ty row.length []) (o' := .tvec ty row []) (by simp) rfl (fun h=>h)
       have n2 := m2.described (s := s.H.length) (o := .vec ty row.length []) (o' := .tvec ty row []) (by simp) rfl
       have e1:(s.H ++ [SObj.vec ty row.length []]).set s.H.length (.tvec ty row []) = s.H ++ [.tvec ty row []] := by simp
       rw [e1] at n1 n2
       have hob:(s.H ++ [SObj.tvec ty row []])[ob]? = some o := by rw [List.getElem?_append_left hlt]; exact ho
       have hown:OwnAt M ρ w ob o → OwnAt M ρ w ob (.mix oty sz [r.set col (.sl s.H.length row.length 0 0)]) := fun h0=>by
        refine OwnAt.remix rfl (by simpa using hl) (fun j y hy=>?_) (g4 h0)
        rw [List.getElem?_set] at hy
        split at hy
        ·rename_i e; subst e
         split at hy
         ·cases hy
          refine .inr ⟨_,hv,fun u hu=>?_⟩
          have := hu.lit_eq
          subst this
          unfold Value.isNil at hn
          split at hn
          ·simp only [Bool.and_eq_true] at hn
           rw [Nat.eq_of_beq_eq_true hn.1,Nat.eq_of_beq_eq_true hn.2]
           exact .slz _ _ _ _
          ·cases hn
         ·cases hy
        ·exact .inr ⟨y,hy,fun u hu=>hu⟩
       have e2:(s.H ++ [SObj.tvec ty row []]).set ob (.mix oty sz [r.set col (.sl s.H.length row.length 0 0)]) = (s.H.set ob (.mix oty sz [r.set col (.sl s.H.length row.length 0 0)])) ++ [.tvec ty row []] := by
        rw [List.set_append_left _ _ hlt]
      ·have n3 := n1.described hob (o' := .mix oty sz [r.set col (.sl s.H.length row.length 0 0)]) g1.symm hown
       rw [e2] at n3
       refine ⟨hg.tm,hg.sz,n3,hg.df,hg.mks,?_,hg.fix⟩
       show s.n0 ≤ ((s.H.set ob (.mix oty sz [r.set col (.sl s.H.length row.length 0 0)])) ++ [SObj.tvec ty row []]).length
       have := hg.nle; simp; omega
      ·have n3 := n2.described hob (o' := .mix oty sz [r.set col (.sl s.H.length row.length 0 0)]) g1.symm
       rw [e2] at n3
       exact ⟨n3.weaken (n' := s.n0) (t' := s.tch) (f' := s.fg) hg.nle (fun x _ h=>by cases h) (fun x _ h=>by cases h),rfl,fun _ h=>h,fun _ h=>h⟩
     ·cases hs
    ·cases hs
def typSt (k ty:Nat) (row:List Ty) (s:St):Option St := match s.H[k]? with
 | some (.vec ty' sz rows)=>match Nat.beq ty' ty && Nat.beq sz row.length with
  | true=>match mapO (ofRow row) rows with
   | some l=>some { s with H := s.H.set k (.tvec ty row l) }
   | none=>none
  | false=>none
 | _=>none
theorem WPs_typ {R:Option Nat} {P:Program} {nt:Nat} {c:Code} {Q:Exit → St → Prop} {s s':St} {k ty:Nat} {row:List Ty} (hs:typSt k ty row s = some s') (h:WPs R P nt c Q s'):WPs R P nt c Q s := by
 unfold typSt at hs
 split at hs
 ·rename_i ty' sz rows ho
  split at hs
  ·rename_i e
   rw [Bool.and_eq_true] at e
   have e1 := Nat.eq_of_beq_eq_true e.1
   have e2 := Nat.eq_of_beq_eq_true e.2
   subst e1; subst e2
   split at hs
   ·rename_i l hl
    cases hs
    have hok := RowsOk.of hl
    refine WPs.of_imp (fun B M ρ a w hg=>⟨ρ,?_,?_⟩) h
    ·refine ⟨hg.tm,hg.sz,hg.mem.described ho rfl (fun hh=>hh.retype hok.1 hok.2),hg.df,hg.mks,by show s.n0 ≤ (s.H.set k _).length; rw [List.length_set]; exact hg.nle,hg.fix⟩
    ·exact ⟨(Fr.refl M ρ s.H w s.n0 s.tch s.fg).described ho rfl,rfl,fun _ h=>h,fun _ h=>h⟩
   ·cases hs
  ·cases hs
 ·cases hs
theorem OwnAt.lnk {M:Imm} {ρ:Env} {w:World} {s ty:Nat} {row:List Ty} {l:List (Els row)} {r c:Nat} (h:OwnAt M ρ w s (.tvec ty row l)):OwnAt M ρ w s (.tlnk ty row l r c .any) := by
 rcases h with h | ⟨p,h1,h2⟩
 ·exact .inl h
 ·refine .inr ⟨p,h1,?_⟩
  obtain ⟨cs,a1,a2,a3,a4,a5,a6⟩ := h2.ex
  have key:∀ i j x,lcell row l r c .any i j = some x → ∃ y,vcell (rowsPV row l) i j = some y ∧ (x = .any ∨ x = y) := fun i j x hx=>by
   unfold lcell at hx
   simp only [Option.map_eq_some_iff] at hx
   obtain ⟨y,hy,rfl⟩ := hx
   refine ⟨y,hy,?_⟩
   split
   ·exact .inl rfl
   ·exact .inr rfl
  refine ⟨cs,a1,a2,a3,a4,fun i j x v hx hv=>?_,fun i j x hx=>?_⟩
  ·obtain ⟨y,hy,e⟩ := key i j x hx
   obtain ⟨b1,b2,b3⟩ := a5 i j y v hy hv
   refine ⟨b1,b2,?_⟩
   rcases e with rfl | rfl
   ·exact .any v
   ·exact b3
  ·obtain ⟨y,hy,_⟩ := key i j x hx
   exact a6 i j y hy
theorem Mem.sealRow {M:Imm} {ρ:Env} {H:List SObj} {w:World} {k ty:Nat} {row:List Ty} {l:List (Els row)} (hm:Mem M ρ H w) (ho:H[k]? = some (.tvec ty row l)) :
  ∃ M2,M.le M2 ∧ Mem M2 ρ (H.set k .dead) w ∧ (∀ n,Fr M ρ H w M2 ρ (H.set k .dead) w n [k] []) ∧ ∀ v,SRep M ρ v (.sl k row.length 0 l.length) → PRep M2 v (.tsl row l) := by
 have hks:k < H.length := (List.getElem?_eq_some_iff.1 ho).1
 have hl:(SObj.tvec ty row l).live = true := rfl
 have hm1 := Mem.oneLive hm ho hl (hm.own k _ ho)
 have hle := Imm.seal_le M ρ (Sx.oneLive H k (.tvec ty row l)) 0 w
 have hget:(Sx.oneLive H k (.tvec ty row l))[k]? = some (.tvec ty row l) := by simp [Sx.oneLive,hks]
 have hnew:∀ b ob,M b = none → M.sealing ρ (Sx.oneLive H k (.tvec ty row l)) 0 w b = some ob → (∃ p,ρ k = some p ∧ p.block = b) ∧ w.heap[b]? = some ob := fun b ob h0 h1=>by
  obtain ⟨⟨s2,o2,p2,q1,q2,q3,q4,q5⟩,q6⟩ := Imm.seal_new h0 h1
  rcases oneLive_get q2 with ⟨rfl,rfl⟩ | ⟨_,rfl⟩
  ·exact ⟨⟨p2,q4,q5⟩,q6⟩
  ·cases q3
 have hslice:∀ v,SRep M ρ v (.sl k row.length 0 l.length) → PRep (M.sealing ρ (Sx.oneLive H k (.tvec ty row l)) 0 w) v (.tsl row l) := fun v hr=>by
  refine seal_data hm1 (Nat.zero_le _) hget rfl rfl (by simp [SObj.len]) rfl (fun i y hy=>?_) hr
  have:(SObj.tvec ty row l).row (0 + i) = (rowPV row y).map .pv := by
   simp only [SObj.row,List.getD,Nat.zero_add,hy,Option.getD_some]
  rw [this]; exact .self hle y
 generalize hM2:M.sealing ρ (Sx.oneLive H k (.tvec ty row l)) 0 w = M2 at hle hnew hslice
 have hobj:∀ t x,(H.set k .dead)[t]? = some x → (t = k ∧ x = .dead) ∨ (t ≠ k ∧ H[t]? = some x) := fun t x hx=>by
  by_cases e:t = k
  ·subst e; rw [List.getElem?_set_self hks] at hx; cases hx; exact .inl ⟨rfl,rfl⟩
  ·rw [List.getElem?_set_ne (fun h=>e h.symm)] at hx; exact .inr ⟨e,hx⟩
 refine ⟨M2,hle,⟨fun b ob hb=>?_,fun t x hx=>?_,fun t x p b hx hlx hp hb=>?_,fun t t' x x' p p' b hx hx' hlx hlx' hp hp' hbk hbk'=>?_,fun t ht=>hm.fresh t (by simpa using ht),fun t x p b hx hlx hp hb=>?_⟩,fun n=>⟨hle,fun b ob h0 h1=>?_,fun b hb=>?_,fun _ _ _=>rfl,Nat.le_refl _,fun t x ht hx hx2 hlx=>?_,fun _ _ _=>rfl,rfl,rfl⟩,hslice⟩
 ·cases e:M b with
  | some o'=>rw [hle b o' e] at hb; cases hb; exact hm.imm b _ e
  | none=>exact (hnew b ob e hb).2
 ·rcases hobj t x hx with ⟨rfl,rfl⟩ | ⟨_,hy⟩
  ·trivial
  ·exact (hm.own t x hy).mono hle ρ.le_refl rfl fun _ _ _ _=>rfl
 ·rcases hobj t x hx with ⟨rfl,rfl⟩ | ⟨hne,hy⟩
  ·cases hlx
  ·have h0 := hm.seps t x p b hy hlx hp hb
   cases e:M2 b with
   | none=>rfl
   | some ob =>
    obtain ⟨⟨p2,q1,q2⟩,_⟩ := hnew _ _ h0 e
    exact absurd (hm.diss t k x _ p p2 b hy ho hlx hl hp q1 hb (.inl q2)) hne
 ·rcases hobj t x hx with ⟨rfl,rfl⟩ | ⟨_,hy⟩
  ·cases hlx
  ·rcases hobj t' x' hx' with ⟨rfl,rfl⟩ | ⟨_,hy'⟩
   ·cases hlx'
   ·exact hm.diss t t' x x' p p' b hy hy' hlx hlx' hp hp' hbk hbk'
 ·rcases hobj t x hx with ⟨rfl,rfl⟩ | ⟨hne,hy⟩
  ·cases hlx
  ·exact hm.lts t x p b hy hlx hp hb
 ·obtain ⟨⟨p,q1,q2⟩,_⟩ := hnew b ob h0 h1
  exact .inr ⟨k,_,p,ho,hl,q1,.inl q2⟩
 ·obtain ⟨t,x,p,h1,h2,h3,h4⟩ := hb
  rcases hobj t x h1 with ⟨rfl,rfl⟩ | ⟨_,hy⟩
  ·cases h2
  ·exact .inr ⟨t,x,p,hy,h2,h3,h4⟩
 ·have hne:t ≠ k := fun e=>hx (by rw [e]; exact List.mem_cons_self)
  exact ⟨⟨x,by rw [List.getElem?_set_ne (fun h=>hne h.symm)]; exact hx2,hlx⟩,fun p hp=>⟨hp,fun _ _=>rfl⟩⟩
def sealArg (H:List SObj):SV → Option (SV × Nat × List SObj)
 | .sl k sz 0 n=>match H[k]? with
  | some (.tvec ty row l)=>match Nat.beq sz row.length with
   | true=>some (.pv (.tsl row l),k,H.set k .dead)
   | false=>none
  | _=>none
 | _=>none
def sealCond (H:List SObj):SV → Bool
 | .sl k sz 0 n=>match H[k]? with
  | some (.tvec ty row l)=>decide (n = l.length)
  | _=>true
 | _=>true
theorem sealArg_sound {M:Imm} {ρ:Env} {H H':List SObj} {w:World} {x y:SV} {k:Nat} (hm:Mem M ρ H w) (h:sealArg H x = some (y,k,H')) (hc:sealCond H x = true) :
  H'.length = H.length ∧ ∃ M2,M.le M2 ∧ Mem M2 ρ H' w ∧ (∀ n,Fr M ρ H w M2 ρ H' w n [k] []) ∧ ∀ v,SRep M ρ v x → SRep M2 ρ v y := by
 unfold sealArg at h
 unfold sealCond at hc
 split at h
 ·rename_i k0 sz n
  split at h
  ·rename_i ty row l ho
   split at h
   ·rename_i e
    have e := Nat.eq_of_beq_eq_true e
    subst e
    cases h
    simp only [ho,decide_eq_true_eq] at hc
    subst hc
    obtain ⟨M2,h1,h2,h3,h4⟩ := hm.sealRow ho
    exact ⟨by simp,M2,h1,h2,h3,fun v hv=>.pv (h4 v hv)⟩
   ·cases h
  ·cases h
 ·cases h
def guessTy:PV → Option Ty
 | .lit (.string _)=>some .str
 | .lit (.int k _)=>some (.int k)
 | .lit (.bool _)=>some .bool
 | .tsl row _=>some (.seq row)
 | _=>none
def guessRow (H:List SObj) (x:SV):List Ty := match x with
 | .sl d _ _ _=>match H[d]? with
  | some (.vec _ _ (r :: _))=>match mapO guessTy r with
   | some row=>row
   | none=>[]
  | _=>[]
 | _=>[]
def prep (H:List SObj) (x:SV):List SObj := asData H (guessRow H x) x
theorem prep_sound {M:Imm} {ρ:Env} {H:List SObj} {w:World} (hm:Mem M ρ H w) (x:SV):Mem M ρ (prep H x) w ∧ (∀ n,Fr M ρ H w M ρ (prep H x) w n [] []) ∧ (prep H x).length = H.length := by
 obtain ⟨m1,h,m3⟩ := asData_sound hm (guessRow H x) x
 exact ⟨m1,fun n=>⟨h.imm,h.new,h.own,h.same,h.grow,fun s o _ ht ho hl=>h.keep s o (List.getElem?_eq_some_iff.1 ho).1 ht ho hl,fun _ _ _=>rfl,h.io⟩,m3⟩
def sealArgs:List SV → List SObj → Bool × List SV × List Nat × List SObj
 | [],H=>(true,[],[],H)
 | x :: xs,H=>match sealArg (prep H x) x with
  | some q=>match sealArgs xs q.2.2 with
   | r=>(sealCond (prep H x) x && r.1,q.1 :: r.2.1,q.2.1 :: r.2.2.1,r.2.2.2)
  | none=>match sealArgs xs H with
   | r=>(r.1,x :: r.2.1,r.2.2.1,r.2.2.2)
theorem sealArgs_sound:∀ {args:List SV} {M:Imm} {ρ:Env} {H:List SObj} {w:World},Mem M ρ H w → (sealArgs args H).1 = true →
  (sealArgs args H).2.2.2.length = H.length ∧ (sealArgs args H).2.1.length = args.length ∧ ∃ M2,M.le M2 ∧ Mem M2 ρ (sealArgs args H).2.2.2 w ∧ (∀ n,Fr M ρ H w M2 ρ (sealArgs args H).2.2.2 w n (sealArgs args H).2.2.1 []) ∧
   ∀ (i:Nat) (v:Value) (x y:SV),args[i]? = some x → (sealArgs args H).2.1[i]? = some y → SRep M ρ v x → SRep M2 ρ v y
 | [],M,ρ,H,w,hm,hc=>⟨rfl,rfl,M,M.le_refl,hm,fun n=>Fr.refl ..,fun i v x y hx=>by simp at hx⟩
 | x :: xs,M,ρ,H,w,hm,hc=>by
  cases hs:sealArg (prep H x) x with
  | some q =>
   obtain ⟨y,k,H1⟩ := q
   simp only [sealArgs,hs,Bool.and_eq_true] at hc ⊢
   obtain ⟨m1,m2,m3⟩ := prep_sound hm x
   obtain ⟨e1,M1,a1,a2,a3',a4⟩ := sealArg_sound m1 hs hc.1
   have a3:∀ n,Fr M ρ H w M1 ρ H1 w n [k] [] := fun n=>(m2 n).trans (a3' n) (fun z hz=>by cases hz) (fun z hz=>hz) (fun z hz=>by cases hz) (fun z hz=>by cases hz)
   obtain ⟨e2,e3,M2,b1,b2,b3,b4⟩ := sealArgs_sound a2 hc.2
   refine ⟨e2.trans (e1.trans m3),by simp [e3],M2,Imm.le_trans a1 b1,b2,fun n=>(a3 n).trans (b3 n) (fun z hz=>?_) (fun z hz=>List.mem_cons_of_mem _ hz) (fun z hz=>by cases hz) (fun z hz=>hz),fun i v x' y' hx hy hv=>?_⟩
   ·rw [List.mem_singleton.1 hz]; exact List.mem_cons_self
   ·cases i with
    | zero =>
     simp at hx hy; subst hx; subst hy
     exact (a4 v hv).mono b1 ρ.le_refl
    | succ i=>exact b4 i v x' y' (by simpa using hx) (by simpa using hy) (hv.mono a1 ρ.le_refl)
  | none =>
   simp only [sealArgs,hs] at hc ⊢
   obtain ⟨e2,e3,M2,b1,b2,b3,b4⟩ := sealArgs_sound (args := xs) hm hc
   refine ⟨e2,by simp [e3],M2,b1,b2,b3,fun i v x' y' hx hy hv=>?_⟩
   cases i with
   | zero=>simp at hx hy; subst hx; subst hy; exact hv.mono b1 ρ.le_refl
   | succ i=>exact b4 i v x' y' (by simpa using hx) (by simpa using hy) hv
def sealArgN (x:SV) (H:List SObj):Bool × SV × List Nat × List SObj := match sealArg (prep H x) x with
 | some q=>(sealCond (prep H x) x,q.1,[q.2.1],q.2.2)
 | none=>(true,x,[],H)
theorem sealArgN_sound {x:SV} {M:Imm} {ρ:Env} {H:List SObj} {w:World} (hm:Mem M ρ H w) (hc:(sealArgN x H).1 = true) :
  (sealArgN x H).2.2.2.length = H.length ∧ ∃ M2,M.le M2 ∧ Mem M2 ρ (sealArgN x H).2.2.2 w ∧ (∀ n,Fr M ρ H w M2 ρ (sealArgN x H).2.2.2 w n (sealArgN x H).2.2.1 []) ∧ ∀ v,SRep M ρ v x → SRep M2 ρ v (sealArgN x H).2.1 := by
 unfold sealArgN at hc ⊢
 cases hs:sealArg (prep H x) x with
 | some q =>
  obtain ⟨y,k,H1⟩ := q
  simp only [hs] at hc ⊢
  obtain ⟨m1,m2,m3⟩ := prep_sound hm x
  obtain ⟨e1,M1,a1,a2,a3,a4⟩ := sealArg_sound m1 hs hc
  exact ⟨e1.trans m3,M1,a1,a2,fun n=>(m2 n).trans (a3 n) (fun z hz=>by cases hz) (fun z hz=>hz) (fun z hz=>by cases hz) (fun z hz=>by cases hz),a4⟩
 | none =>
  exact ⟨rfl,M,M.le_refl,hm,fun n=>Fr.refl ..,fun v hv=>hv⟩
def sealArg2 (x:SV) (H:List SObj):Bool × SV × List Nat × List SObj := match x with
 | .agg l=>match sealArgs l H with
  | r=>(r.1,.agg r.2.1,r.2.2.1,r.2.2.2)
 | x=>sealArgN x H
theorem sealArg2_sound {x:SV} {M:Imm} {ρ:Env} {H:List SObj} {w:World} (hm:Mem M ρ H w) (hc:(sealArg2 x H).1 = true) :
  (sealArg2 x H).2.2.2.length = H.length ∧ ∃ M2,M.le M2 ∧ Mem M2 ρ (sealArg2 x H).2.2.2 w ∧ (∀ n,Fr M ρ H w M2 ρ (sealArg2 x H).2.2.2 w n (sealArg2 x H).2.2.1 []) ∧ ∀ v,SRep M ρ v x → SRep M2 ρ v (sealArg2 x H).2.1 := by
 unfold sealArg2 at hc ⊢
 split at hc
 ·rename_i l
  obtain ⟨e1,e2,M2,b1,b2,b3,b4⟩ := sealArgs_sound hm hc
  refine ⟨e1,M2,b1,b2,b3,fun v hv=>?_⟩
  cases hv with
  | agg cs _ hl h =>
   refine .agg cs _ (by rw [hl,e2]) fun i v y hv hy=>?_
   obtain ⟨x,hx⟩:∃ x,l[i]? = some x := by
    have:i < l.length := by rw [← e2]; exact (List.getElem?_eq_some_iff.1 hy).1
    exact ⟨_,List.getElem?_eq_getElem this⟩
   exact b4 i v x y hx hy (h i v x hv hx)
 ·exact sealArgN_sound hm hc
def sealAll:List SV → List SObj → Bool × List SV × List Nat × List SObj
 | [],H=>(true,[],[],H)
 | x :: xs,H=>match sealArg2 x H with
  | q=>match sealAll xs q.2.2.2 with
   | r=>(q.1 && r.1,q.2.1 :: r.2.1,q.2.2.1 ++ r.2.2.1,r.2.2.2)
theorem sealAll_sound:∀ {args:List SV} {M:Imm} {ρ:Env} {H:List SObj} {w:World},Mem M ρ H w → (sealAll args H).1 = true →
  (sealAll args H).2.2.2.length = H.length ∧ (sealAll args H).2.1.length = args.length ∧ ∃ M2,M.le M2 ∧ Mem M2 ρ (sealAll args H).2.2.2 w ∧ (∀ n,Fr M ρ H w M2 ρ (sealAll args H).2.2.2 w n (sealAll args H).2.2.1 []) ∧
   ∀ (i:Nat) (v:Value) (x y:SV),args[i]? = some x → (sealAll args H).2.1[i]? = some y → SRep M ρ v x → SRep M2 ρ v y
 | [],M,ρ,H,w,hm,hc=>⟨rfl,rfl,M,M.le_refl,hm,fun n=>Fr.refl ..,fun i v x y hx=>by simp at hx⟩
 | x :: xs,M,ρ,H,w,hm,hc=>by
  simp only [sealAll,Bool.and_eq_true] at hc ⊢
  obtain ⟨e1,M1,a1,a2,a3,a4⟩ := sealArg2_sound hm hc.1
  obtain ⟨e2,e3,M2,b1,b2,b3,b4⟩ := sealAll_sound a2 hc.2
  refine ⟨e2.trans e1,by simp [e3],M2,Imm.le_trans a1 b1,b2,fun n=>(a3 n).trans (b3 n) (fun z hz=>List.mem_append_left _ hz) (fun z hz=>List.mem_append_right _ hz) (fun z hz=>by cases hz) (fun z hz=>hz),fun i v x' y' hx hy hv=>?_⟩
  cases i with
  | zero =>
   simp at hx hy; subst hx; subst hy
   exact (a4 v hv).mono b1 ρ.le_refl
  | succ i=>exact b4 i v x' y' (by simpa using hx) (by simpa using hy) (hv.mono a1 ρ.le_refl)
theorem SCall.sealed {P:Program} {g:Nat} {args:List SV} {H:List SObj} {K:Post} (hc:(sealAll args H).1 = true)
  (h:SCall P g (sealAll args H).2.1 (sealAll args H).2.2.2 fun r H' t f=>K r H' ((sealAll args H).2.2.1 ++ t) f):SCall P g args H K := by
 intro M ρ w vs hm hr
 obtain ⟨e1,e2,M2,b1,b2,b3,b4⟩ := sealAll_sound hm hc
 refine (h M2 ρ w vs b2 ⟨by rw [hr.1,e2],fun i v y hv hy=>?_⟩).mono ?_
 ·obtain ⟨x,hx⟩:∃ x,args[i]? = some x := by
   have:i < args.length := by rw [← e2]; exact (List.getElem?_eq_some_iff.1 hy).1
   exact ⟨_,List.getElem?_eq_getElem this⟩
  exact b4 i v x y hx hy (hr.2 i v x hv hx)
 ·rintro e w' ⟨v,r,H',M',ρ',t,f,he,hk,hs,hm',hf⟩
  rw [e1] at hf
  exact ⟨v,r,H',M',ρ',_,f,he,hk,hs,hm',(b3 _).trans hf (fun z hz=>List.mem_append_left _ hz) (fun z hz=>List.mem_append_right _ hz) (fun z hz=>by cases hz) (fun z hz=>hz)⟩
end Go.Sx
section
namespace Go.Sx
open Go
mutual
def SV.ren (f:Nat → Option Nat):SV → SV
 | .ptr s sz i j=>match f s with
  | some t=>.ptr t sz i j
  | none=>.any
 | .sl s sz st n=>match f s with
  | some t=>.sl t sz st n
  | none=>.any
 | .mp s=>match f s with
  | some t=>.mp t
  | none=>.any
 | .yld s=>match f s with
  | some t=>.yld t
  | none=>.any
 | .slb s sz st n m=>match f s with
  | some t=>.slb t sz st n m
  | none=>.any
 | .agg l=>.agg (renL f l)
 | .tup l=>.tup (renL f l)
 | .fn g a b=>.fn g (renL f a) (renL f b)
 | .any=>.any
 | .pv p=>.pv p
def renL (f:Nat → Option Nat):List SV → List SV
 | []=>[]
 | x :: xs=>x.ren f :: renL f xs
end
theorem renL_eq (f:Nat → Option Nat) (l:List SV):renL f l = l.map (SV.ren f) := by
 induction l with
 | nil=>rfl
 | cons x xs ih=>simp only [renL,List.map_cons,ih]
theorem SRep.ren {M M':Imm} {ρ ρ':Env} {f:Nat → Option Nat} (hM:M.le M') (hf:∀ s t p,f s = some t → ρ s = some p → ρ' t = some p) {v:Value} {x:SV} (h:SRep M ρ v x):SRep M' ρ' v (x.ren f) := by
 induction h with
 | any v=>exact .any v
 | pv h=>exact .pv (h.mono hM)
 | agg cs l hl _ ih =>
  simp only [SV.ren,renL_eq]
  refine .agg cs _ (by simpa using hl) fun i v x hv hx=>?_
  simp only [List.getElem?_map,Option.map_eq_some_iff] at hx
  obtain ⟨y,hy,rfl⟩ := hx
  exact ih i v y hv hy
 | tup cs l hl _ ih =>
  simp only [SV.ren,renL_eq]
  refine .tup cs _ (by simpa using hl) fun i v x hv hx=>?_
  simp only [List.getElem?_map,Option.map_eq_some_iff] at hx
  obtain ⟨y,hy,rfl⟩ := hx
  exact ih i v y hv hy
 | ptr s sz i j k p hp hk =>
  simp only [SV.ren]
  split
  ·rename_i t ht; exact .ptr t sz i j k p (hf s t p ht hp) hk
  ·exact .any _
 | sl s sz st n c k p hp hk hc hn h6 =>
  simp only [SV.ren]
  split
  ·rename_i t ht; exact .sl t sz st n c k p (hf s t p ht hp) hk hc hn h6
  ·exact .any _
 | slz s sz st a =>
  simp only [SV.ren]
  split
  ·exact .slz _ sz st a
  ·exact .any _
 | mp s p hp =>
  simp only [SV.ren]
  split
  ·rename_i t ht; exact .mp t p (hf s t p ht hp)
  ·exact .any _
 | yld s p hp =>
  simp only [SV.ren]
  split
  ·rename_i t ht; exact .yld t p (hf s t p ht hp)
  ·exact .any _
 | slb s sz st n m _ hm ih =>
  simp only [SV.ren] at ih ⊢
  cases e:f s with
  | some t=>rw [e] at ih; exact .slb t sz st n m ih hm
  | none=>exact .any _
 | fn g a b x y ha hb _ _ ih jh =>
  simp only [SV.ren,renL_eq]
  refine .fn g a b _ _ (by simpa using ha) (by simpa using hb) (fun i v s hv hs=>?_) (fun i v s hv hs=>?_)
  ·simp only [List.getElem?_map,Option.map_eq_some_iff] at hs
   obtain ⟨y,hy,rfl⟩ := hs
   exact ih i v y hv hy
  ·simp only [List.getElem?_map,Option.map_eq_some_iff] at hs
   obtain ⟨y,hy,rfl⟩ := hs
   exact jh i v y hv hy
def SObj.ren (f:Nat → Option Nat):SObj → SObj
 | .mix ty sz rows=>.mix ty sz (rows.map (·.map (SV.ren f)))
 | .tlnk ty row l r c x=>.tlnk ty row l r c (x.ren f)
 | .nest ty ity row ll q=>.nest ty ity row ll (q.map fun x=>(x.1,x.2.ren f))
 | .map es c=>.map (es.map fun e=>(e.1,e.2.1.ren f,e.2.2)) c
 | .loop l=>.loop { l with T := l.T.map (SV.ren f) }
 | .mit m c s=>.mit (m.bind f) c s
 | o=>o
theorem live_ren (f:Nat → Option Nat) (o:SObj):(o.ren f).live = o.live := by cases o <;> rfl
theorem ATy.raw_ren (f:Nat → Option Nat):∀ (a:ATy) (x:a.El),(a.raw x).ren f = a.raw x
 | .val t,x=>rfl
 | .agg row,x=>by
  have:∀ l:List PV,renL f (l.map .pv) = l.map .pv := fun l=>by
   induction l with
   | nil=>rfl
   | cons x l ih=>simp only [List.map_cons,renL,SV.ren,ih]
  simp only [ATy.raw,SV.ren,this]
theorem OwnAt.ren {M M':Imm} {ρ ρ':Env} {w w':World} {s t:Nat} {f:Nat → Option Nat} {o:SObj} (hM:M.le M') (hf:∀ s t p,f s = some t → ρ s = some p → ρ' t = some p) (hs:ρ' t = ρ s)
  (hw:∀ p b,ρ s = some p → p.has b → w'.heap[b]? = w.heap[b]?) (h:OwnAt M ρ w s o):OwnAt M' ρ' w' t (o.ren f) := by
 have hws := hw
 replace hw:∀ p,ρ s = some p → w'.heap[p.block]? = w.heap[p.block]? := fun p hp=>hws p _ hp p.self
 cases o with
 | dead=>trivial
 | vec ty sz rows =>
  rcases h with ⟨h1,h2⟩ | ⟨p,h1,h2⟩
  ·exact .inl ⟨hs.trans h1,h2⟩
  ·refine .inr ⟨p,hs.trans h1,?_⟩
   obtain ⟨cs,a1,a2,a3,a4,a5,a6⟩ := h2.ex
   refine ⟨cs,(hw p h1).trans a1,a2,a3,a4,fun i j x v hx hv=>?_,a6⟩
   obtain ⟨b1,b2,b3⟩ := a5 i j x v hx hv
   refine ⟨b1,b2,?_⟩
   unfold vcell at hx
   simp only [Option.map_eq_some_iff] at hx
   obtain ⟨q,_,rfl⟩ := hx
   cases b3 with
   | pv b3=>exact .pv (b3.mono hM)
 | tvec ty row l =>
  rcases h with ⟨h1,h2⟩ | ⟨p,h1,h2⟩
  ·exact .inl ⟨hs.trans h1,h2⟩
  ·refine .inr ⟨p,hs.trans h1,?_⟩
   obtain ⟨cs,a1,a2,a3,a4,a5,a6⟩ := h2.ex
   refine ⟨cs,(hw p h1).trans a1,a2,a3,a4,fun i j x v hx hv=>?_,a6⟩
   obtain ⟨b1,b2,b3⟩ := a5 i j x v hx hv
   refine ⟨b1,b2,?_⟩
   unfold vcell at hx
   simp only [Option.map_eq_some_iff] at hx
   obtain ⟨q,_,rfl⟩ := hx
   cases b3 with
   | pv b3=>exact .pv (b3.mono hM)
 | mix ty sz rows =>
  rcases h with ⟨h1,h2⟩ | ⟨p,h1,h2⟩
  ·exact .inl ⟨hs.trans h1,by simp [h2]⟩
  ·refine .inr ⟨p,hs.trans h1,?_⟩
   obtain ⟨cs,a1,a2,a3,a4,a5,a6⟩ := h2.ex
   have key:∀ i j x,mcell (rows.map (·.map (SV.ren f))) i j = some x → ∃ y,mcell rows i j = some y ∧ x = y.ren f := fun i j x hx=>by
    unfold mcell at hx
    simp only [List.getElem?_map,Option.bind_eq_some_iff,Option.map_eq_some_iff] at hx
    obtain ⟨r',⟨r,hr,rfl⟩,hx⟩ := hx
    simp only [List.getElem?_map,Option.map_eq_some_iff] at hx
    obtain ⟨y,hy,rfl⟩ := hx
    exact ⟨y,by simp [mcell,hr,hy],rfl⟩
   refine ⟨cs,(hw p h1).trans a1,a2,by simpa using a3,by simpa using a4,fun i j x v hx hv=>?_,fun i j x hx=>?_⟩
   ·obtain ⟨y,hy,rfl⟩ := key i j x hx
    obtain ⟨b1,b2,b3⟩ := a5 i j y v hy hv
    exact ⟨by simpa using b1,b2,b3.ren hM hf⟩
   ·obtain ⟨y,hy,rfl⟩ := key i j x hx
    simpa using a6 i j y hy
 | tlnk ty row l r c x =>
  rcases h with ⟨h1,h2⟩ | ⟨p,h1,h2⟩
  ·exact .inl ⟨hs.trans h1,h2⟩
  ·refine .inr ⟨p,hs.trans h1,?_⟩
   obtain ⟨cs,a1,a2,a3,a4,a5,a6⟩ := h2.ex
   refine ⟨cs,(hw p h1).trans a1,a2,a3,a4,fun i j z v hz hv=>?_,fun i j z hz=>?_⟩
   ·obtain ⟨y,hy,rfl,_⟩ := lcell_inv (f := SV.ren f) (fun _=>rfl) hz
    obtain ⟨b1,b2,b3⟩ := a5 i j y v hy hv
    exact ⟨b1,b2,b3.ren hM hf⟩
   ·obtain ⟨y,hy,_⟩ := lcell_inv (f := SV.ren f) (fun _=>rfl) hz
    exact a6 i j y hy
 | nest ty ity row ll q =>
  rcases h with ⟨h1,h2,h3⟩ | ⟨p,h1,h2⟩
  ·subst h3; exact .inl ⟨hs.trans h1,h2,rfl⟩
  refine .inr ⟨p,hs.trans h1,h2.goes hM rfl rfl rfl (fun b hb=>hws p b h1 hb) (by cases q <;> rfl) fun i x y v e1 e2 hr=>?_⟩
  rw [e1] at e2; simp only [Option.map_some,Option.some.injEq,Prod.mk.injEq,true_and] at e2; subst e2
  exact hr.ren hM hf
 | map es clock =>
  obtain ⟨p,arr,h1,h2,h3,h4⟩ := h
  refine ⟨p,arr,hs.trans h1,(hw p h1).trans h2,by simpa using h3,fun i k x b hi=>?_⟩
  simp only [List.getElem?_map,Option.map_eq_some_iff] at hi
  obtain ⟨⟨k',x',b'⟩,he,hq⟩ := hi
  simp only [Prod.mk.injEq] at hq
  obtain ⟨rfl,rfl,rfl⟩ := hq
  obtain ⟨e,c1,c2,c3,c4⟩ := h4 i k' x' b' he
  exact ⟨e,c1,c2,c3,c4.ren hM hf⟩
 | tmap k v l =>
  obtain ⟨p,arr,h1,h2,h3,h4⟩ := h
  refine ⟨p,arr,hs.trans h1,(hw p h1).trans h2,h3,fun i kk x b hi=>?_⟩
  obtain ⟨e,c1,c2,c3,c4⟩ := h4 i kk x b hi
  refine ⟨e,c1,c2,c3,?_⟩
  have := c4.ren hM hf
  rw [entsFrom_get] at hi
  simp only [Option.map_eq_some_iff,Prod.mk.injEq] at hi
  obtain ⟨y,_,_,rfl,_⟩ := hi
  rwa [ATy.raw_ren] at this
 | iter str pos =>
  obtain ⟨p,h1,h2⟩ := h
  exact ⟨p,hs.trans h1,(hw p h1).trans h2⟩
 | loop l =>
  obtain ⟨p,fn,tmps,q,h1,h2,h3,h4⟩ := h
  refine ⟨p,fn,tmps,q,hs.trans h1,(hw p h1).trans h2,h3,fun t x hx=>?_⟩
  rw [TT.get_map,Option.map_eq_some_iff] at hx
  obtain ⟨y,hy,rfl⟩ := hx
  exact (h4 t y hy).ren hM hf
 | mit m c sn =>
  obtain ⟨p,q,sn,h1,h2,h3,h4⟩ := h
  refine ⟨p,q,sn,hs.trans h1,(hw p h1).trans h2,h3,fun mm e=>?_⟩
  cases m with
  | none=>cases e
  | some x =>
   have e:f x = some mm := e
   obtain ⟨pm,a,b⟩ := h4 x rfl
   exact ⟨pm,hf x mm pm e a,b⟩
 | over st pd =>
  obtain ⟨p,r,h1,h2,h3⟩ := h
  exact ⟨p,r,hs.trans h1,(hw p h1).trans h2,h3⟩
 | dfr shut =>
  obtain ⟨p,h1,h2⟩ := h
  exact ⟨p,hs.trans h1,(hw p h1).trans h2⟩
end Go.Sx
end
section
namespace Go.Sx
open Go
theorem SRep.sim {M M':Imm} {ρ ρ':Env} (hM:M.le M') (hρ:Env.simBut [] ρ ρ') {v:Value} {x:SV} (h:SRep M ρ v x):SRep M' ρ' v x := by
 have := h.forgetS hM hρ; rwa [SV.forget_nil] at this
theorem OwnAt.sim {M M':Imm} {ρ ρ':Env} {w:World} {s:Nat} {o:SObj} (hM:M.le M') (hρ:Env.simBut [] ρ ρ') (hs:ρ' s = ρ s) (h:OwnAt M ρ w s o):OwnAt M' ρ' w s o := by
 have := h.forgetS hM hρ hs (fun _ _ _ _=>rfl); rwa [SObj.forget_nil] at this
theorem RowsAt.pure {M M':Imm} {ρ ρ':Env} {w:World} {p:Place} {ty sz n:Nat} {rows:List (List PV)} {subs:List Nat} (hM:M.le M') (h:RowsAt M ρ w p ty sz n (vcell rows)):RowsAt M' ρ' w ⟨p.block,p.cap,subs⟩ ty sz n (vcell rows) := by
 obtain ⟨cs,a1,a2,a3,a4,a5,a6⟩ := h.ex
 refine ⟨cs,a1,a2,a3,a4,fun i j x v hx hv=>?_,a6⟩
 obtain ⟨b1,b2,b3⟩ := a5 i j x v hx hv
 refine ⟨b1,b2,?_⟩
 unfold vcell at hx
 simp only [Option.map_eq_some_iff] at hx
 obtain ⟨q,_,rfl⟩ := hx
 cases b3 with
 | pv b3=>exact .pv (b3.mono hM)
theorem Mem.re {M:Imm} {ρ ρ':Env} {H H':List SObj} {w:World} (hm:Mem M ρ H w) (hown:∀ s o,H'[s]? = some o → OwnAt M ρ' w s o)
  (hsrc:∀ s o p b,H'[s]? = some o → o.live = true → ρ' s = some p → p.has b → ∃ s0 o0 p0,H[s0]? = some o0 ∧ o0.live = true ∧ ρ s0 = some p0 ∧ p0.has b)
  (hdis:∀ s s' o o' p p' b,H'[s]? = some o → H'[s']? = some o' → o.live = true → o'.live = true → ρ' s = some p → ρ' s' = some p' → p.has b → p'.has b → s = s')
  (hfresh:∀ s,H'.length ≤ s → ρ' s = none):Mem M ρ' H' w :=
 ⟨hm.imm,hown,fun s o p b h1 h2 h3 h4=>let ⟨s0,o0,p0,a,b',c,d⟩ := hsrc s o p b h1 h2 h3 h4; hm.seps s0 o0 p0 b a b' c d,hdis,hfresh,
  fun s o p b h1 h2 h3 h4=>let ⟨s0,o0,p0,a,b',c,d⟩ := hsrc s o p b h1 h2 h3 (.inr h4); hm.has_lt a b' c d⟩
theorem Fr.re {M:Imm} {ρ ρ':Env} {H H':List SObj} {w:World} {n:Nat} {t f:List Nat}
  (hsrc:∀ s o p b,H'[s]? = some o → o.live = true → ρ' s = some p → p.has b → ∃ s0 o0 p0,H[s0]? = some o0 ∧ o0.live = true ∧ ρ s0 = some p0 ∧ p0.has b)
  (hk:∀ s o,s < n → s ∉ t → H[s]? = some o → o.live = true → (∃ o',H'[s]? = some o' ∧ o'.live = true) ∧ ρ' s = ρ s) (hs:∀ s,s < n → s ∉ f → ρ' s = ρ s):Fr M ρ H w M ρ' H' w n t f :=
 ⟨M.le_refl,fun b o h h'=>by (rw [h] at h'; cases h'),fun b ⟨s,o,p,h1,h2,h3,h4⟩=>.inr (hsrc s o p b h1 h2 h3 h4),fun _ _ _=>rfl,Nat.le_refl _,
  fun s o h1 h2 h3 h4=>⟨(hk s o h1 h2 h3 h4).1,fun p hp=>⟨by rw [(hk s o h1 h2 h3 h4).2]; exact hp,fun _ _=>rfl⟩⟩,hs,rfl,rfl⟩
theorem DefersAre.sim {ρ ρ':Env} {marks:List Nat} {ds:List Deferred} (hρ:Env.simBut [] ρ ρ') (h:DefersAre ρ marks ds):DefersAre ρ' marks ds :=
 ⟨h.1,fun i d s hd hs=>let ⟨p,h1,h2⟩ := h.2 i d s hd hs; let ⟨p',g1,g2,_⟩ := hρ s p rfl h1; ⟨p',g1,by rw [g2]; exact h2⟩⟩
open Classical in
def TI.bareIf (b:Bool) (i:TI):TI := { i with row := match b with
 | true=>none
 | false=>i.row }
def Cx.raw (e:Nat) (cx:Cx):Cx := { P := cx.P,tab := cx.tab.map fun x=>(x.1,x.2.bareIf (Nat.beq x.1 e)),fns := cx.fns }
def slbSt (slot:Nat) (s:St):Option St := match s.T.get slot with
 | some (.sl d sz st n)=>some { s with T := s.T.set slot (.slb d sz st n n) }
 | _=>none
def unslbSt (slot:Nat) (s:St):Option St := match s.T.get slot with
 | some (.slb d sz st n _)=>some { s with T := s.T.set slot (.sl d sz st n) }
 | _=>none
theorem WPs_slot {R:Option Nat} {P:Program} {nt:Nat} {c:Code} {Q:Exit → St → Prop} {s:St} {slot:Nat} {x y:SV} (hx:s.T.get slot = some x) (hi:∀ M ρ v,SRep M ρ v x → SRep M ρ v y) (h:WPs R P nt c Q { s with T := s.T.set slot y }):WPs R P nt c Q s := by
 refine WPs.of_imp (s' := { s with T := s.T.set slot y }) (fun B M ρ a w hg=>⟨ρ,⟨fun t z hz=>?_,hg.sz,hg.mem,hg.df,hg.mks,hg.nle,hg.fix⟩,⟨Fr.refl ..,rfl,fun _ h=>h,fun _ h=>h⟩⟩) h
 rcases TT.get_set _ _ _ _ _ hz with ⟨rfl,rfl⟩ | ⟨_,hz⟩
 ·exact hi _ _ _ (hg.tm _ _ hx)
 ·exact hg.tm t z hz
theorem WPs_slb {R:Option Nat} {P:Program} {nt:Nat} {c:Code} {Q:Exit → St → Prop} {s s':St} {slot:Nat} (hs:slbSt slot s = some s') (h:WPs R P nt c Q s'):WPs R P nt c Q s := by
 unfold slbSt at hs
 split at hs
 ·rename_i d sz st n hx
  cases hs
  refine WPs_slot hx (fun M ρ v hr=>?_) h
  refine .slb _ _ _ _ _ hr ?_
  cases hr with
  | sl _ _ _ _ c k p hp hk hc hn h6=>exact ⟨_,_,_,rfl,hn⟩
  | slz=>exact ⟨_,_,_,rfl,Nat.le_refl _⟩
 ·cases hs
theorem WPs_unslb {R:Option Nat} {P:Program} {nt:Nat} {c:Code} {Q:Exit → St → Prop} {s s':St} {slot:Nat} (hs:unslbSt slot s = some s') (h:WPs R P nt c Q s'):WPs R P nt c Q s := by
 unfold unslbSt at hs
 split at hs
 ·rename_i d sz st n m hx
  cases hs
  exact WPs_slot hx (fun M ρ v hr=>hr.unslb) h
 ·cases hs
end Go.Sx
end
