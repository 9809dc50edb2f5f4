/- Part Qb of the own logic: a state is read by a template. Part Qc of the own logic: what a function comes to, as a function of its data: operations and regions. And further parts. -/
import Derived.Test.YtpkbmngnolhopaaGreatDoorXSxM
set_option linter.unusedVariables false
set_option linter.unusedSimpArgs false
set_option linter.unnecessarySimpa false
section
namespace Go.Sx
open Go
mutual
theorem SV.Uh(d:List Nat):∀(x:SV),(x.forget d).forget d=x.forget d
 |.agg l=>by simp only[SV.forget,Qgu d l]
 |.tup l=>by simp only[SV.forget,Qgu d l]
 |.fn _ a b=>by simp only[SV.forget,Qgu d a,Qgu d b]
 |.ptr s _ _ _=>by
  simp only[SV.forget];split
  ·rfl
  ·rename_i h;simp only[SV.forget,if_neg h]
 |.sl s _ _ _=>by
  simp only[SV.forget];split
  ·rfl
  ·rename_i h;simp only[SV.forget,if_neg h]
 |.mp s=>by
  simp only[SV.forget];split
  ·rfl
  ·rename_i h;simp only[SV.forget,if_neg h]
 |.yld s=>by
  simp only[SV.forget];split
  ·rfl
  ·rename_i h;simp only[SV.forget,if_neg h]
 |.slb s _ _ _ _=>by
  simp only[SV.forget];split
  ·rfl
  ·rename_i h;simp only[SV.forget,if_neg h]
 |.any=>rfl
 |.pv _=>rfl
theorem Qgu(d:List Nat):∀(l:List SV),Xw d (Xw d l)=Xw d l
 |[]=>rfl
 |x::xs=>by simp only[Xw,SV.Uh d x,Qgu d xs]
end
mutual
theorem SV.W6:∀(x:SV),x.forget []=x
 |.agg l=>by simp only[SV.forget,Qgw l]
 |.tup l=>by simp only[SV.forget,Qgw l]
 |.fn _ a b=>by simp only[SV.forget,Qgw a,Qgw b]
 |.ptr s _ _ _=>by simp[SV.forget]
 |.sl s _ _ _=>by simp[SV.forget]
 |.mp s=>by simp[SV.forget]
 |.yld s=>by simp[SV.forget]
 |.slb s _ _ _ _=>by simp[SV.forget]
 |.any=>rfl
 |.pv _=>rfl
theorem Qgw:∀(l:List SV),Xw [] l=l
 |[]=>rfl
 |x::xs=>by simp only[Xw,SV.W6 x,Qgw xs]
end
theorem TT.map_id{f:SV→SV}(hf:∀x,f x=x):∀(T:TT),T.map f=T
 |.nil=>rfl
 |.node l v r=>by simp only[TT.map,TT.map_id hf l,TT.map_id hf r];cases v<;>simp[hf]
theorem Qjm{row:List Ty}{l:List (Qh row)}{r c:Nat}{x:SV}{f:SV→SV}(hf:∀p,f (.pv p)=.pv p){i j:Nat}{y:SV}(h:X0 row l r c (f x) i j=some y):
  ∃y0,X0 row l r c x i j=some y0∧y=f y0∧(y0=x∨∃p,y0=.pv p):=by
 unfold X0 at h⊢;simp only[Option.map_eq_some_iff]at h⊢;obtain⟨z,hz,rfl⟩:=h;by_cases hc:i=r∧j=c
 ·simp only[if_pos hc];exact⟨x,⟨z,hz,rfl⟩,rfl,.inl rfl⟩
 ·simp only[if_neg hc];unfold Z4 at hz;simp only[Option.map_eq_some_iff]at hz;obtain⟨p,hp,rfl⟩:=hz;exact⟨.pv p,⟨.pv p,by rw[Z4,hp];rfl,rfl⟩,(hf p).symm,.inr ⟨p,rfl⟩⟩
theorem Qa.W6(o:Qa):o.forget []=o:=by
 cases o with
 |mix ty sz rows=>
  simp only[Qa.forget,Qa.mix.injEq,true_and]
  conv=>rhs;rw[←List.map_id rows]
  refine List.map_congr_left fun r _=>?_
  conv=>rhs;rw[←List.map_id r]
  exact List.map_congr_left fun x _=>SV.W6 x
 |map es c=>
  simp only[Qa.forget,Qa.map.injEq,and_true]
  conv=>rhs;rw[←List.map_id es]
  refine List.map_congr_left fun e _=>?_;simp only[SV.W6,id]
 |loop l=>simp only[Qa.forget,TT.map_id SV.W6]
 |tlnk ty row l r c x=>simp only[Qa.forget,SV.W6]
 |nest ty ity row ll q=>cases q with
  |none=>rfl
  |some x=>simp only[Qa.forget,Option.map_some,SV.W6]
 |mit m c s=>cases m<;>rfl
 |_=>rfl
theorem TT.Qr4{f:SV→SV}(hf:∀x,f (f x)=f x):∀(T:TT),(T.map f).map f=T.map f
 |.nil=>rfl
 |.node l v r=>by simp only[TT.map,TT.Qr4 hf l,TT.Qr4 hf r];cases v<;>simp[hf]
theorem Qa.Uh(d:List Nat)(o:Qa):(o.forget d).forget d=o.forget d:=by
 cases o with
 |mix ty sz rows=>simp only[Qa.forget,List.map_map,Qa.mix.injEq,true_and];refine List.map_congr_left fun r _=>?_;simp only[Function.comp,List.map_map];exact List.map_congr_left fun x _=>SV.Uh d x
 |map es c=>simp only[Qa.forget,List.map_map,Qa.map.injEq,and_true];refine List.map_congr_left fun e _=>?_;simp only[Function.comp,SV.Uh]
 |loop l=>simp only[Qa.forget,TT.Qr4 (SV.Uh d)]
 |tlnk ty row l r c x=>simp only[Qa.forget,SV.Uh]
 |nest ty ity row ll q=>cases q with
  |none=>rfl
  |some x=>simp only[Qa.forget,Option.map_some,SV.Uh]
 |mit m c s=>
  cases m with
  |none=>rfl
  |some x=>
   simp only[Qa.forget,Option.bind_some,Qa.mit.injEq,and_true];cases h:d.contains x with
   |true=>rfl
   |false=>simp only[cond_false,Option.bind_some,h]
 |_=>rfl
structure Qjt (D ids mv:List Nat) (b:St) (M:Qc) (ρ:Env) (H:List Qa) (a:Act) (w:World):Prop where
 len:H.length=b.H.length
 slots:∀t y,t∉D→b.T.get t=some y→Qd M ρ (a.tmps.getD t undef) (y.forget mv)
 objs:∀(s:Nat) (o:Qa),s∉ids→b.H[s]? =some o→Qt M ρ w s (o.forget mv)∧(o.live=true→∃o':Qa,H[s]? =some o'∧o'.live=true)
 back:∀(s:Nat) (o:Qa),s∉ids→H[s]? =some o→o.live=true→∃o0:Qa,b.H[s]? =some o0∧o0.live=true
theorem Qg4{M:Qc}{ρ:Env}{w:World}{s ty sz:Nat}{o:Qa}{r:List SV}(h:V9 o=some (ty,sz,r)):o.live=true∧o.Qs =some sz∧o.len=1∧(Qt M ρ w s o→Qt M ρ w s (.mix ty sz [r])):=by
 unfold V9 at h;split at h
 ·cases h;exact⟨rfl,rfl,rfl,fun h=>h.Qmt⟩
 ·cases h;exact⟨rfl,rfl,rfl,id⟩
 ·rename_i ty' row x;cases h;exact⟨rfl,rfl,rfl,fun h=>by have h:Qt M ρ w s (.vec ty row.length [Za row x]):=h;exact h.Qmt⟩
 ·cases h
theorem Qt.Zco{M M2:Qc}{ρ ρ2:Env}{w:World}{s ty sz:Nat}{r r':List SV}(hs:ρ2 s=ρ s)(hl:r'.length=sz)
  (hr:∀(j:Nat) (y:SV),r'[j]? =some y→y=.any∨∃x:SV,r[j]? =some x∧∀u,Qd M ρ u x→Qd M2 ρ2 u y) (h:Qt M ρ w s (.mix ty sz [r])):Qt M2 ρ2 w s (.mix ty sz [r']):=by
 rcases h with⟨h1,h2⟩|⟨p,h1,h2⟩
 ·cases h2
 ·refine .inr ⟨p,hs.trans h1,?_⟩;obtain⟨cs,a1,a2,a3,a4,a5,a6⟩:=h2.ex;have hin:∀i j x,Yq [r'] i j=some x→i=0∧r'[j]? =some x:=fun i j x hx=>by
   unfold Yq at hx;cases i with
   |zero=>exact⟨rfl,by simpa using hx⟩
   |succ i=>simp at hx
  refine⟨cs,a1,a2,a3,a4,fun i j x v hx hv=>?_,fun i j x hx=>?_⟩
  ·obtain⟨rfl,hj⟩:=hin i j x hx;have hjs:j<sz:=by rw[←hl];exact(List.getElem?_eq_some_iff.1 hj).1
   refine⟨by simp,hjs,?_⟩;rcases hr j x hj with rfl|⟨x0,g1,g2⟩
   ·exact .any _
   ·exact g2 v (a5 0 j x0 v (by simp[Yq,g1]) hv).2.2
  ·obtain⟨rfl,hj⟩:=hin i j x hx;exact⟨by simp,by rw[←hl];exact(List.getElem?_eq_some_iff.1 hj).1⟩
theorem Qz3{k v:Qf}{H:List Qa}{n:Nat}:∀{es:List Qm} {i:Nat} {c:Bool} {l:List (k.El×v.El)},Qbv k v H n i es=some (c,l)→c=true→l.length=es.length∧
  ∀(j:Nat) (x:k.El×v.El),l[j]? =some x→∃e,es[j]? =some e∧e.2.2=i+j∧k.Uj (.lit e.1)=some x.1∧rdA H n v e.2.1=some (true,x.2)
 |[],i,c,l,h,hc=>by cases h;exact⟨rfl,fun j x hx=>by simp at hx⟩
 |e::es,i,c,l,h,hc=>by
  simp only[Qbv]at h;split at h
  ·cases h
  ·rename_i hb;split at h
   ·cases h
   ·rename_i a ha;split at h
    ·cases h
    ·rename_i b hb2;split at h
     ·cases h
     ·rename_i d hd;cases h;rw[Bool.and_eq_true]at hc;obtain⟨g1,g2⟩:=Qz3 (c:=d.1) (l:=d.2) hd hc.2;refine⟨by simp[g1],fun j x hx=>?_⟩;cases j with
      |zero=>simp at hx;subst hx;exact⟨e,rfl,Nat.eq_of_beq_eq_true hb,ha,by rw[hb2,←hc.1]⟩
      |succ j=>obtain⟨e',q1,q2,q3⟩:=g2 j x (by simpa using hx);exact⟨e',by simpa using q1,by omega,q3⟩
theorem X5.data{M:Qc}{ρ ρ2:Env}{H:List Qa}{w:World}{n s:Nat}(hm:Mem M ρ H w){k v:Qf}{es:List Qm}{c:Nat}{cc:Bool}{l:List (k.El×v.El)}(hs:ρ2 s=ρ s)(h:X5 M ρ w s es c)(hlen:c=es.length)(hk:k.scalar=true)(hd:Qbv k v H n 0 es=some (cc,l))(hc:cc=true):
  X5 (M.sealing ρ H n w) ρ2 w s (Ys k v 0 l) l.length:=by
 obtain⟨g1,g2⟩:=Qz3 hd hc;obtain⟨p,arr,h1,h2,h3,h4⟩:=h;refine⟨p,arr,hs.trans h1,by rw[g1,←hlen];exact h2,by rw[Qds,g1];exact h3,fun i kk x b hi=>?_⟩;rw[Kq]at hi;simp only[Option.map_eq_some_iff,Prod.mk.injEq]at hi;obtain⟨y,hy,rfl,rfl,rfl⟩:=hi;obtain⟨e,q1,q2,q3,q4⟩:=g2 i y hy;obtain⟨me,m1,m2,m3,m4⟩:=h4 i e.1 e.2.1 e.2.2 q1;refine⟨me,m1,?_,by rw[m3,q2],Zdq hm q4 rfl m4⟩;rw[m2];exact Qi0 hk (Qf.Qan (M:=M) (ρ:=ρ) q3 (.pv (.lit _)))
theorem Zmx{M:Qc}{ρ ρ2:Env}{w:World}{s:Nat}{k v k' v':Qf}{l:List (k.El×v.El)}{l':List (k'.El×v'.El)}(h:Qe9 k v k' v' l=some l')(ho:X5 M ρ w s (Ys k v 0 l) l.length):X5 M ρ w s (Ys k' v' 0 l') l'.length:=by obtain⟨e,e',rfl⟩:=Zw6 h;subst e;subst e';exact ho
inductive Qcp:(l:PL)→Xb l→Nat→(a:Qf)→a.El→Prop where
 |one (p:Nat×Qf) (x:p.2.El):Qcp [p] x p.1 p.2 x
 |head (p p':Nat×Qf) (l:PL) (x:p.2.El×Xb (p'::l)):Qcp (p::p'::l) x p.1 p.2 x.1
 |tail (p p':Nat×Qf) (l:PL) (x:p.2.El×Xb (p'::l)) (j:Nat) (a:Qf) (y:a.El) (h:Qcp (p'::l) x.2 j a y):Qcp (p::p'::l) x j a y
theorem Qum:∀{l:PL} {x:Xb l} {r:List SV} {j:Nat} {y:SV},(Kd l x r)[j]? =some y→(∃a z,Qcp l x j a z∧y=a.sv z)∨r[j]? =some y
 |[],x,r,j,y,h=>.inr h
 |[p],x,r,j,y,h=>by
  simp only[Kd,List.getElem?_set]at h;split at h
  ·rename_i e;subst e;split at h
   ·cases h;exact .inl ⟨p.2,x,.one p x,rfl⟩
   ·cases h
  ·exact .inr h
 |p::p'::l,x,r,j,y,h=>by
  have h0:(Kd (p'::l) x.2 (r.set p.1 (p.2.sv x.1)))[j]? =some y:=h;clear h;rcases Qum h0 with⟨a,z,h1,h2⟩|h
  ·exact .inl ⟨a,z,.tail _ _ _ _ _ _ _ h1,h2⟩
  ·rw[List.getElem?_set]at h;split at h
   ·rename_i e;subst e;split at h
    ·cases h;exact .inl ⟨p.2,x.1,.head _ _ _ _,rfl⟩
    ·cases h
   ·exact .inr h
theorem Qwy:∀{l:PL} {x:Xb l} {r:List SV},(Kd l x r).length=r.length
 |[],x,r=>rfl
 |[p],x,r=>by simp[Kd]
 |p::p'::l,x,r=>by show(Kd (p'::l) x.2 _).length=_;rw[Qwy];simp
theorem Qyn{H:List Qa}{n:Nat}{r:List SV}:∀{l:PL} {c:Bool} {x:Xb l},Qbs H n r l=some (c,x)→c=true→∀j a (z:a.El),Qcp l x j a z→∃y,r[j]? =some y∧rdA H n a y=some (true,z)
 |[],c,x,h,hc,j,a,z,hi=>by cases hi
 |[p],c,x,h,hc,j,a,z,hi=>by
  simp only[Qbs]at h;split at h
  ·rename_i y hy;cases hi with
   |one=>exact⟨y,hy,by rw[h,hc];rfl⟩
  ·cases h
 |p::p'::l,c,x,h,hc,j,a,z,hi=>by
  simp only[Qbs]at h;split at h
  ·cases h
  ·rename_i y hy;split at h
   ·cases h
   ·rename_i a' ha;split at h
    ·cases h
    ·rename_i b hb;cases h;rw[Bool.and_eq_true]at hc;cases hi with
     |head=>exact⟨y,hy,by rw[ha,←hc.1]⟩
     |tail _ _ _ _ _ _ _ hi=>exact Qyn (c:=b.1) (x:=b.2) hb hc.2 j a z hi
theorem Qte{H:List Qa}:∀{l:List (Nat×Lk)} {r:List SV} {j:Nat} {y:SV},(Uo H l r)[j]? =some y→(∃q∈l,q.1=j∧y=Qbu H q.2)∨r[j]? =some y
 |[],r,j,y,h=>.inr h
 |q::l,r,j,y,h=>by
  simp only[Uo]at h;rcases Qte h with⟨q',h1,h2⟩|h
  ·exact .inl ⟨q',List.mem_cons_of_mem _ h1,h2⟩
  ·rw[List.getElem?_set]at h;split at h
   ·rename_i e;split at h
    ·cases h;exact .inl ⟨q,List.mem_cons_self,e,rfl⟩
    ·cases h
   ·exact .inr h
theorem Qwi{H:List Qa}:∀{l:List (Nat×Lk)} {r:List SV},(Uo H l r).length=r.length
 |[],r=>rfl
 |q::l,r=>by simp[Uo,Qwi]
theorem Qy1{H:List Qa}{n:Nat}{r:List SV}:∀{l:List (Nat×Lk)} {c:Bool},Qdm H n r l=some c→c=true→∀q∈l,∃x,r[q.1]? =some x∧Qa1 H n x q.2=some true
 |[],c,h,hc,q,hq=>by cases hq
 |p::l,c,h,hc,q,hq=>by
  simp only[Qdm]at h;split at h
  ·cases h
  ·rename_i x hx;split at h
   ·cases h
   ·rename_i c1 h1;split at h
    ·cases h
    ·rename_i d hd;cases h;rw[Bool.and_eq_true]at hc;rcases List.mem_cons.1 hq with rfl|hq
     ·exact⟨x,hx,by rw[h1,hc.1]⟩
     ·exact Qy1 hd hc.2 q hq
theorem Zbr{T:TT}{H:List Qa}{n:Nat}:∀{l:List (Nat×Lk)} {c:Bool},Qk7 T H n l=some c→c=true→∀q∈l,∃x,T.get q.1=some x∧Qa1 H n x q.2=some true
 |[],c,h,hc,q,hq=>by cases hq
 |p::l,c,h,hc,q,hq=>by
  simp only[Qk7]at h;split at h
  ·cases h
  ·rename_i x hx;split at h
   ·cases h
   ·rename_i c1 h1;split at h
    ·cases h
    ·rename_i d hd;cases h;rw[Bool.and_eq_true]at hc;rcases List.mem_cons.1 hq with rfl|hq
     ·exact⟨x,hx,by rw[h1,hc.1]⟩
     ·exact Zbr hd hc.2 q hq
theorem Qd.Zci{M M2:Qc}{ρ:Env}{H:List Qa}{w:World}(hm:Mem M ρ H w)(hle:M.le M2)(n:Nat){v:Value}{x:SV}(hf:x.free n=true)(h:Qd M ρ v x):Qd M2 (ρ.cut n) v x:=by have:=h.forget (d:=Ve n H.length) hle (Qc2 hm n);rwa[SV.Ul x hf]at this
def Qjx(n:Nat)(H H1:List Qa)(lk:Lk):Prop:=match lk with
 |.stat _=>True
 |.own s=>s<n→∀o sz,H[s]? =some o→o.szl=some sz→∃o1,H1[s]? =some o1∧o1.szl=some sz∧o1.len=o.len
theorem Qxr{M M2:Qc}{ρ:Env}{H H1:List Qa}{w:World}{n:Nat}(hm:Mem M ρ H w)(hle:M.le M2){x:SV}{lk:Lk}(h:Qa1 H n x lk=some true)(hl:Qjx n H H1 lk){v:Value}(hr:Qd M ρ v x):Qd M2 (ρ.cut n) v (Qbu H1 lk):=by
 cases lk with
 |stat y=>
  simp only[Qa1]at h;split at h
  ·rename_i e;rw[Bool.and_eq_true]at e;have:=SV.Qr7 _ _ e.1;subst this;exact hr.Zci hm hle n e.2
  ·cases h
 |own s=>
  simp only[Qa1]at h;split at h
  ·rename_i s' sz st m;split at h
   ·cases h
   ·rename_i e;simp only[Bool.and_eq_true]at e;have e1:=Nat.eq_of_beq_eq_true e.1;have e2:=Nat.eq_of_beq_eq_true e.2.1;have e3:=Ky e.2.2;subst e1;subst e2;split at h
    ·cases h
    ·rename_i o ho;split at h
     ·cases h
     ·rename_i sz' hsz;split at h
      ·rename_i e4;have e4:=Nat.eq_of_beq_eq_true e4;subst e4;have hmm:m=o.len:=by simpa using h
       obtain⟨o1,q1,q2,q3⟩:=hl e3 o sz' ho hsz;have hx:Qbu H1 (.own s')=.sl s' sz' 0 o.len:=by simp only[Qbu,q1,q2,q3]
       rw[hx,←hmm];exact hr.Zci hm hle n (by simp only[SV.free];exact e.2.2)
      ·cases h
  ·cases h
theorem Kr{l m:List Nat}(h:subset l m=true){x:Nat}(hx:x∈l):x∈m:=by have:=List.all_eq_true.1 h x hx;simpa using this
theorem Ql.Qr8{T:TT}{H H1:List Qa}{n:Nat}{c:Ql}{cc:Bool}{x:c.El}{s:Nat}(h:c.get T H n=some (cc,x))(hc:cc=true)(hs:c.id? =some s):
  ∃o,H[s]? =some o∧o.live=true∧(∀sz,o.szl=some sz→(c.obj H1 x).szl=some sz∧(c.obj H1 x).len=o.len):=by
 cases c with
 |slot=>cases hs
 |vec d ty row=>
  cases hs;have h:(match H[s]? with
   |some (.tvec ty' row' l)=>match Nat.beq ty' ty with
    |true=>match Wx row' row l with
     |some l=>some (true,l)
     |none=>none
    |false=>none
   |some (.vec ty' sz rows)=>match Nat.beq ty' ty&&Nat.beq sz row.length with
    |true=>match X4 (ofRow row) rows with
     |some l=>some (true,l)
     |none=>none
    |false=>none
   |some (.mix ty' sz rows)=>match Nat.beq ty' ty&&Nat.beq sz row.length with
    |true=>Ki (Jh H n row) rows
    |false=>none
   |_=>none)=some (cc,x):=h
  split at h
  ·rename_i ty' row' l ho;refine⟨_,ho,rfl,fun sz hsz=>?_⟩;split at h
   ·split at h
    ·rename_i l' hl;cases h;obtain⟨e,rfl⟩:=Kg hl;subst e;exact⟨hsz,rfl⟩
    ·cases h
   ·cases h
  ·rename_i ty' sz' rows ho;refine⟨_,ho,rfl,fun sz hsz=>?_⟩;split at h
   ·rename_i e;rw[Bool.and_eq_true]at e;split at h
    ·rename_i l hl;cases h;have e2:=Nat.eq_of_beq_eq_true e.2;simp only[Qa.szl,Option.some.injEq]at hsz;exact⟨by simp only[Ql.obj,Qa.szl];rw[←e2,hsz],(Qgo hl).1⟩
    ·cases h
   ·cases h
  ·rename_i ty' sz' rows ho;refine⟨_,ho,rfl,fun sz hsz=>?_⟩;split at h
   ·rename_i e;rw[Bool.and_eq_true]at e;have e2:=Nat.eq_of_beq_eq_true e.2;simp only[Qa.szl,Option.some.injEq]at hsz;refine⟨by simp only[Ql.obj,Qa.szl];rw[←e2,hsz],?_⟩;have key:∀(rs:List (List SV)) (c:Bool) (l:List (Qh row)),Ki (Jh H n row) rs=some (c,l)→l.length=rs.length:=by
     intro rs;induction rs with
     |nil=>intro c l h;cases h;rfl
     |cons r rs ih=>
      intro c l h;simp only[Ki]at h;split at h
      ·cases h
      ·split at h
       ·cases h
       ·rename_i b hb;cases h;simp[ih b.1 b.2 hb]
    exact key _ _ _ h
   ·cases h
  ·cases h
 |one d ty row=>
  cases hs;have h:(match H[s]? with
   |some o=>match V9 o with
    |some (ty',sz,r)=>match Nat.beq ty' ty&&Nat.beq sz row.length with
     |true=>Jh H n row r
     |false=>none
    |none=>none
   |none=>none)=some (cc,x):=h
  split at h
  ·rename_i o ho;split at h
   ·rename_i ty' sz' r hr;obtain⟨g1,g2,g3,_⟩:=Qg4 (M:=fun _=>none) (ρ:=fun _=>none) (w:=default) (s:=0) hr;refine⟨o,ho,g1,fun sz hsz=>?_⟩;split at h
    ·rename_i e;rw[Bool.and_eq_true]at e;have g2:=Qa.Zcl g2;rw[hsz]at g2;cases g2;have e2:=Nat.eq_of_beq_eq_true e.2;exact⟨by simp only[Ql.obj,Qa.szl];rw[←e2],by rw[g3];rfl⟩
    ·cases h
   ·cases h
  ·cases h
 |mix d ty sz0 dat lnk=>
  cases hs;have h:(match H[s]? with
   |some o=>match V9 o with
    |some (ty',sz',r)=>match Nat.beq ty' ty&&Nat.beq sz' sz0 with
     |true=>match Qdm H n r lnk with
      |some c=>match Qbs H n r dat with
       |some x=>some (c&&x.1,x.2)
       |none=>none
      |none=>none
     |false=>none
    |none=>none
   |none=>none)=some (cc,x):=h
  split at h
  ·rename_i o ho;split at h
   ·rename_i ty' sz' r hr;obtain⟨g1,g2,g3,_⟩:=Qg4 (M:=fun _=>none) (ρ:=fun _=>none) (w:=default) (s:=0) hr;refine⟨o,ho,g1,fun sz hsz=>?_⟩;split at h
    ·rename_i e;rw[Bool.and_eq_true]at e;have g2:=Qa.Zcl g2;rw[hsz]at g2;cases g2;have e2:=Nat.eq_of_beq_eq_true e.2;exact⟨by simp only[Ql.obj,Qa.szl];rw[←e2],by rw[g3];rfl⟩
    ·cases h
   ·cases h
  ·cases h
 |map d k v=>
  cases hs;have h:(match H[s]? with
   |some (.tmap k' v' l)=>match Qe9 k' v' k v l with
    |some l=>some (true,l)
    |none=>none
   |some (.map es c)=>match Nat.beq c es.length&&k.scalar with
    |true=>Qbv k v H n 0 es
    |false=>none
   |_=>none)=some (cc,x):=h
  split at h
  ·rename_i k' v' l ho;exact⟨_,ho,rfl,fun sz hsz=>by cases hsz⟩
  ·rename_i es c ho;exact⟨_,ho,rfl,fun sz hsz=>by cases hsz⟩
  ·cases h
 |iter d=>
  cases hs;have h:(match H[s]? with
   |some (.iter b pos)=>some (true,(b,pos))
   |_=>none)=some (cc,x):=h
  split at h
  ·rename_i b pos ho;exact⟨_,ho,rfl,fun sz hsz=>by cases hsz⟩
  ·cases h
 |over d pd=>
  cases hs;have h:(match H[s]? with
   |some (.over .done pd')=>match Qfl pd' pd with
    |true=>some (true,())
    |false=>none
   |_=>none)=some (cc,x):=h
  split at h
  ·rename_i pd' ho;exact⟨_,ho,rfl,fun sz hsz=>by cases hsz⟩
  ·cases h
 |nest d ty ity row=>
  cases hs;have h:(match H[s]? with
   |some (.nest ty' ity' row' ll none)=>match Nat.beq ty' ty&&Nat.beq ity' ity with
    |true=>match Qj9 row' row ll with
     |some l=>some (true,l)
     |none=>none
    |false=>none
   |_=>none)=some (cc,x):=h
  split at h
  ·rename_i ty' ity' row' ll ho;split at h
   ·split at h
    ·rename_i l' hl;cases h;obtain⟨e,rfl⟩:=Qz2 hl;subst e;exact⟨_,ho,rfl,fun sz hsz=>⟨hsz,rfl⟩⟩
    ·cases h
   ·cases h
  ·cases h
 |fix d es c=>
  cases hs;have h:(match H[s]? with
   |some o'=>match Qet o' (.map es c)&&(Qa.map es c).free n with
    |true=>some (true,())
    |false=>none
   |none=>none)=some (cc,x):=h
  split at h
  ·rename_i o' ho;split at h
   ·rename_i e;rw[Bool.and_eq_true]at e;have:=Qvt e.1;subst this;exact⟨_,ho,rfl,fun sz hsz=>by cases hsz⟩
   ·cases h
  ·cases h
theorem Ql.Zcg{M:Qc}{ρ:Env}{w:World}{T:TT}{H H1:List Qa}{n:Nat}(hm:Mem M ρ H w){c:Ql}{cc:Bool}{x:c.El}{s:Nat}(h:c.get T H n=some (cc,x))(hc:cc=true)(hs:c.id? =some s)(hsn:s<n)
  (hlk:∀q∈c.Zcc,Qjx n H H1 q.2):Qt (M.sealing ρ H n w) (ρ.cut n) w s (c.obj H1 x):=by
 have hle:=Qc.X6 M ρ H n w;have hcut:(ρ.cut n) s=ρ s:=by simp[Env.cut,hsn]
 cases c with
 |slot=>cases hs
 |vec d ty row=>
  cases hs;have h:(match H[s]? with
   |some (.tvec ty' row' l)=>match Nat.beq ty' ty with
    |true=>match Wx row' row l with
     |some l=>some (true,l)
     |none=>none
    |false=>none
   |some (.vec ty' sz rows)=>match Nat.beq ty' ty&&Nat.beq sz row.length with
    |true=>match X4 (ofRow row) rows with
     |some l=>some (true,l)
     |none=>none
    |false=>none
   |some (.mix ty' sz rows)=>match Nat.beq ty' ty&&Nat.beq sz row.length with
    |true=>Ki (Jh H n row) rows
    |false=>none
   |_=>none)=some (cc,x):=h
  show Qt _ _ w s (.tvec ty row x);split at h
  ·rename_i ty' row' l ho;split at h
   ·rename_i e;have e:=Nat.eq_of_beq_eq_true e;subst e;split at h
    ·rename_i l' hl;cases h;obtain⟨e,rfl⟩:=Kg hl;subst e;have h0:Qt M ρ w s (.tvec ty' row' l):=hm.own s _ ho;replace h0:Qt M ρ w s (.vec ty' row'.length (Qp row' l)):=h0;exact h0.Qmt.Qht hle hcut (.self hle l)
    ·cases h
   ·cases h
  ·rename_i ty' sz rows ho;split at h
   ·rename_i e;rw[Bool.and_eq_true]at e;have e1:=Nat.eq_of_beq_eq_true e.1;have e2:=Nat.eq_of_beq_eq_true e.2;subst e1;subst e2;split at h
    ·rename_i l hl;cases h;have h0:Qt M ρ w s (.vec ty' row.length rows):=hm.own s _ ho;exact h0.Qmt.Qht hle hcut (Uf.of hle hl)
    ·cases h
   ·cases h
  ·rename_i ty' sz rows ho;split at h
   ·rename_i e;rw[Bool.and_eq_true]at e;have e1:=Nat.eq_of_beq_eq_true e.1;have e2:=Nat.eq_of_beq_eq_true e.2;subst e1;subst e2;have h0:Qt M ρ w s (.mix ty' row.length rows):=hm.own s _ ho;exact h0.Qht hle hcut (Qlm (Qfe n hm row) _ _ _ h hc)
   ·cases h
  ·cases h
 |one d ty row=>
  cases hs;have h:(match H[s]? with
   |some o=>match V9 o with
    |some (ty',sz,r)=>match Nat.beq ty' ty&&Nat.beq sz row.length with
     |true=>Jh H n row r
     |false=>none
    |none=>none
   |none=>none)=some (cc,x):=h
  show Qt _ _ w s (.vec ty row.length [Za row x]);split at h
  ·rename_i o ho;split at h
   ·rename_i ty' sz' r hr;split at h
    ·rename_i e;rw[Bool.and_eq_true]at e;have e1:=Nat.eq_of_beq_eq_true e.1;have e2:=Nat.eq_of_beq_eq_true e.2;subst e1;subst e2;have h0:=(Qg4 (M:=M) (ρ:=ρ) (w:=w) (s:=s) hr).2.2.2 (hm.own s _ ho);have:=Qfe n hm row r cc x h hc;have hrf:Uf M ρ (M.sealing ρ H n w) row [r] [x]:=⟨rfl,fun i y hy=>by
      match i,hy with
      |0,hy=>cases hy;exact⟨r,rfl,this⟩
      |i+1,hy=>cases hy⟩
     exact Qt.Qht (l:=[x]) hle hcut hrf h0
    ·cases h
   ·cases h
  ·cases h
 |mix d ty sz0 dat lnk=>
  cases hs;have h:(match H[s]? with
   |some o=>match V9 o with
    |some (ty',sz',r)=>match Nat.beq ty' ty&&Nat.beq sz' sz0 with
     |true=>match Qdm H n r lnk with
      |some c=>match Qbs H n r dat with
       |some x=>some (c&&x.1,x.2)
       |none=>none
      |none=>none
     |false=>none
    |none=>none
   |none=>none)=some (cc,x):=h
  show Qt _ _ w s (.mix ty sz0 [Uo H1 lnk (Kd dat x (List.replicate sz0 .any))]);split at h
  ·rename_i o ho;split at h
   ·rename_i ty' sz' r hr;split at h
    ·rename_i e;rw[Bool.and_eq_true]at e;have e1:=Nat.eq_of_beq_eq_true e.1;have e2:=Nat.eq_of_beq_eq_true e.2;subst e1;subst e2;split at h
     ·rename_i c1 hl1;split at h
      ·rename_i x1 hx1;cases h;rw[Bool.and_eq_true]at hc;have h0:=(Qg4 (M:=M) (ρ:=ρ) (w:=w) (s:=s) hr).2.2.2 (hm.own s _ ho);refine Qt.Zco hcut (by rw[Qwi,Qwy,List.length_replicate]) (fun j y hy=>?_) h0;rcases Qte hy with⟨q,hq,rfl,rfl⟩|hy
       ·obtain⟨x,g1,g2⟩:=Qy1 hl1 hc.1 q hq;exact .inr ⟨x,g1,fun u hu=>Qxr hm hle g2 (hlk q hq) hu⟩
       ·rcases Qum hy with⟨a,z,hz,rfl⟩|hy
        ·obtain⟨x,g1,g2⟩:=Qyn (c:=x1.1) (x:=x1.2) hx1 hc.2 j a z hz;exact .inr ⟨x,g1,fun u hu=>Qq8 hm g2 rfl hu⟩
        ·rw[List.getElem?_replicate]at hy;split at hy
         ·cases hy;exact .inl rfl
         ·cases hy
      ·cases h
     ·cases h
    ·cases h
   ·cases h
  ·cases h
 |map d k v=>
  cases hs;have h:(match H[s]? with
   |some (.tmap k' v' l)=>match Qe9 k' v' k v l with
    |some l=>some (true,l)
    |none=>none
   |some (.map es c)=>match Nat.beq c es.length&&k.scalar with
    |true=>Qbv k v H n 0 es
    |false=>none
   |_=>none)=some (cc,x):=h
  show X5 _ _ w s (Ys k v 0 x) (List.length x);split at h
  ·rename_i k' v' l ho;split at h
   ·rename_i l' hl;cases h;refine Zmx (ρ2:=ρ) hl ?_;have h0:Qt M ρ w s (.tmap k' v' l):=hm.own s _ ho;have:=h0.forget (d:=Ve n H.length) hle (Qc2 hm n) hcut (fun _ _ _ _=>rfl);exact this
   ·cases h
  ·rename_i es c ho;split at h
   ·rename_i e;rw[Bool.and_eq_true]at e;exact X5.data hm hcut (hm.own s _ ho) (Nat.eq_of_beq_eq_true e.1) e.2 h hc
   ·cases h
  ·cases h
 |iter d=>
  cases hs;have h:(match H[s]? with
   |some (.iter b pos)=>some (true,(b,pos))
   |_=>none)=some (cc,x):=h
  split at h
  ·rename_i b pos ho;cases h;obtain⟨p,h1,h2⟩:=hm.own s _ ho;exact⟨p,hcut.trans h1,h2⟩
  ·cases h
 |over d pd=>
  cases hs;have h:(match H[s]? with
   |some (.over .done pd')=>match Qfl pd' pd with
    |true=>some (true,())
    |false=>none
   |_=>none)=some (cc,x):=h
  split at h
  ·rename_i pd' ho;split at h
   ·rename_i e;cases h;obtain⟨p,r,h1,h2,h3,h4⟩:=hm.own s _ ho;exact⟨p,r,hcut.trans h1,h2,h3,h4.trans (Zcr e)⟩
   ·cases h
  ·cases h
 |nest d ty ity row=>
  cases hs;have h:(match H[s]? with
   |some (.nest ty' ity' row' ll none)=>match Nat.beq ty' ty&&Nat.beq ity' ity with
    |true=>match Qj9 row' row ll with
     |some l=>some (true,l)
     |none=>none
    |false=>none
   |_=>none)=some (cc,x):=h
  split at h
  ·rename_i ty' ity' row' ll ho;split at h
   ·rename_i e;rw[Bool.and_eq_true]at e;have e1:=Nat.eq_of_beq_eq_true e.1;have e2:=Nat.eq_of_beq_eq_true e.2;subst e1;subst e2;split at h
    ·rename_i l' hl;cases h;obtain⟨e,rfl⟩:=Qz2 hl;subst e;exact(hm.own s _ ho).forget (d:=Ve n H.length) hle (Qc2 hm n) hcut (fun _ _ _ _=>rfl)
    ·cases h
   ·cases h
  ·cases h
 |fix d es c=>
  cases hs;have h:(match H[s]? with
   |some o'=>match Qet o' (.map es c)&&(Qa.map es c).free n with
    |true=>some (true,())
    |false=>none
   |none=>none)=some (cc,x):=h
  split at h
  ·rename_i o' ho;split at h
   ·rename_i e;rw[Bool.and_eq_true]at e;have:=Qvt e.1;subst this;have h0:=(hm.own s _ ho).forget (d:=Ve n H.length) hle (Qc2 hm n) hcut (fun _ _ _ _=>rfl);rw[Qa.Ul _ e.2]at h0;exact h0
   ·cases h
  ·cases h
inductive Vf:(l:List Ql)→Z0 l→(c:Ql)→c.El→Prop where
 |one (c:Ql) (x:c.El):Vf [c] x c x
 |head (c c':Ql) (l:List Ql) (x:c.El×Z0 (c'::l)):Vf (c::c'::l) x c x.1
 |tail (c c':Ql) (l:List Ql) (x:c.El×Z0 (c'::l)) (d:Ql) (y:d.El) (h:Vf (c'::l) x.2 d y):Vf (c::c'::l) x d y
theorem Vf.mem:∀{l:List Ql} {x:Z0 l} {k:Ql} {z:k.El},Vf l x k z→k∈l
 |_,_,_,_,.one c x=>by simp
 |_,_,_,_,.head c c' l x=>by simp
 |_,_,_,_,.tail c c' l x d y hi=>List.mem_cons_of_mem _ hi.mem
theorem Zey{l:List Ql}{x:Z0 l}{k:Ql}{z:k.El}{s:Nat}(hi:Vf l x k z)(h:k.id? =some s):s∈l.filterMap Ql.id? :=List.mem_filterMap.2 ⟨k,hi.mem,h⟩
theorem Zam{T:TT}{H:List Qa}{n:Nat}:∀{l:List Ql} {c:Bool} {x:Z0 l},Qhy T H n l=some (c,x)→c=true→∀(k:Ql) (y:k.El),Vf l x k y→k.get T H n=some (true,y)
 |[],c,x,h,hc,k,y,hi=>by cases hi
 |[k0],c,x,h,hc,k,y,hi=>by
  cases hi with
  |one=>rw[←hc];exact h
 |k0::k1::l,c,x,h,hc,k,y,hi=>by
  simp only[Qhy]at h;split at h
  ·cases h
  ·rename_i a h1;split at h
   ·cases h
   ·rename_i b h2;cases h;rw[Bool.and_eq_true]at hc;cases hi with
    |head=>rw[h1,←hc.1]
    |tail _ _ _ _ _ _ hi=>exact Zam (c:=b.1) (x:=b.2) h2 hc.2 k y hi
theorem Ql.put_H{H0:List Qa}{c:Ql}{x:c.El}{T:TT}{H:List Qa}{s:Nat}{o:Qa}(h:(c.put H0 x (T,H)).2[s]? =some o):(c.id? =some s∧o=c.obj H0 x)∨(c.id? ≠some s∧H[s]? =some o):=by
 have key:∀(d:Nat) (ob:Qa),(H.set d ob)[s]? =some o→(some d=some s∧o=ob)∨(some d≠some s∧H[s]? =some o):=fun d ob h'=>by
  clear h;rw[List.getElem?_set]at h';split at h'
  ·rename_i e;subst e;split at h'
   ·cases h';exact .inl ⟨rfl,rfl⟩
   ·cases h'
  ·rename_i e;exact .inr ⟨by simp[e],h'⟩
 cases c with
 |slot d ty=>exact .inr ⟨by simp[Ql.id?],h⟩
 |vec d ty row=>exact key d _ h
 |one d ty row=>exact key d _ h
 |mix d ty sz dat lnk=>exact key d _ h
 |map d k v=>exact key d _ h
 |iter d=>exact key d _ h
 |over d pd=>exact key d _ h
 |nest d ty ity row=>exact key d _ h
 |fix d es c=>exact key d _ h
theorem Ql.Zcn{H0:List Qa}{c:Ql}{x:c.El}{T:TT}{H:List Qa}{t:Nat}{y:SV}(h:(c.put H0 x (T,H)).1.get t=some y):(∃(a:Qf) (z:a.El),HEq x z∧c=.slot t a∧y=a.sv z)∨T.get t=some y:=by
 cases c with
 |slot d a=>
  rcases TT.Wh _ _ _ _ _ h with⟨rfl,rfl⟩|⟨_,h⟩
  ·exact .inl ⟨a,x,HEq.rfl,rfl,rfl⟩
  ·exact .inr h
 |vec _ _ _=>exact .inr h
 |one _ _ _=>exact .inr h
 |mix _ _ _ _ _=>exact .inr h
 |map _ _ _=>exact .inr h
 |iter _=>exact .inr h
 |over _ _=>exact .inr h
 |nest _ _ _ _=>exact .inr h
 |fix _ _ _=>exact .inr h
theorem Za0{H0:List Qa}:∀{l:List Ql} {x:Z0 l} {T:TT} {H:List Qa} {t:Nat} {y:SV},(Wu H0 l x (T,H)).1.get t=some y→(∃(a:Qf) (z:a.El),Vf l x (.slot t a) z∧y=a.sv z)∨T.get t=some y
 |[],x,T,H,t,y,h=>.inr h
 |[c],x,T,H,t,y,h=>by
  rcases Ql.Zcn h with⟨a,z,he,rfl,rfl⟩|h
  ·cases he;exact .inl ⟨a,_,.one _ _,rfl⟩
  ·exact .inr h
 |c::c'::l,x,T,H,t,y,h=>by
  have h:(Wu H0 (c'::l) x.2 ((c.put H0 x.1 (T,H)).1,(c.put H0 x.1 (T,H)).2)).1.get t=some y:=h;rcases Za0 h with⟨a,z,hi,hy⟩|h
  ·exact .inl ⟨a,z,.tail _ _ _ _ _ _ hi,hy⟩
  ·obtain⟨x1,x2⟩:=x;rcases Ql.Zcn h with⟨a,z,he,rfl,rfl⟩|h
   ·cases he;exact .inl ⟨a,_,.head _ _ _ _,rfl⟩
   ·exact .inr h
theorem Qe0{H0:List Qa}:∀{l:List Ql} {x:Z0 l} {T:TT} {H:List Qa} {s:Nat} {o:Qa},(Wu H0 l x (T,H)).2[s]? =some o→
  (∃(c:Ql) (z:c.El),Vf l x c z∧c.id? =some s∧o=c.obj H0 z)∨(s∉l.filterMap Ql.id? ∧H[s]? =some o)
 |[],x,T,H,s,o,h=>.inr ⟨by simp,h⟩
 |[c],x,T,H,s,o,h=>by
  rcases Ql.put_H h with⟨e,ho⟩|⟨e,h⟩
  ·exact .inl ⟨c,x,.one _ _,e,ho⟩
  ·refine .inr ⟨fun hm=>?_,h⟩;obtain⟨d,hd,he⟩:=List.mem_filterMap.1 hm;simp at hd;subst hd;exact e he
 |c::c'::l,x,T,H,s,o,h=>by
  have h:(Wu H0 (c'::l) x.2 ((c.put H0 x.1 (T,H)).1,(c.put H0 x.1 (T,H)).2)).2[s]? =some o:=h;rcases Qe0 h with⟨d,z,hi,he,ho⟩|⟨hn,h⟩
  ·exact .inl ⟨d,z,.tail _ _ _ _ _ _ hi,he,ho⟩
  ·rcases Ql.put_H h with⟨e,ho⟩|⟨e,h⟩
   ·exact .inl ⟨c,x.1,.head _ _ _ _,e,ho⟩
   ·refine .inr ⟨fun hm=>?_,h⟩;obtain⟨d,hd,he⟩:=List.mem_filterMap.1 hm;rcases List.mem_cons.1 hd with rfl|hd
    ·exact e he
    ·exact hn (List.mem_filterMap.2 ⟨d,hd,he⟩)
theorem Ql.Zb9{H0:List Qa}{c:Ql}{x:c.El}{T:TT}{H:List Qa}:(c.put H0 x (T,H)).2.length=H.length:=by cases c<;>simp[Ql.put]
theorem Qdo{H0:List Qa}:∀{l:List Ql} {x:Z0 l} {T:TT} {H:List Qa},(Wu H0 l x (T,H)).2.length=H.length
 |[],x,T,H=>rfl
 |[c],x,T,H=>Ql.Zb9
 |c::c'::l,x,T,H=>by show(Wu H0 (c'::l) x.2 ((c.put H0 x.1 (T,H)).1,(c.put H0 x.1 (T,H)).2)).2.length=H.length;rw[Qdo,Ql.Zb9]
theorem Qnv:∀{l:List Nat} {H:List Qa} {s:Nat} {o:Qa},(V7 l H)[s]? =some o→(s∈l∧o=.dead)∨(s∉l∧H[s]? =some o)
 |[],H,s,o,h=>.inr ⟨by simp,h⟩
 |i::l,H,s,o,h=>by
  simp only[V7]at h;rcases Qnv h with⟨h1,h2⟩|⟨h1,h2⟩
  ·exact .inl ⟨List.mem_cons_of_mem _ h1,h2⟩
  ·rw[List.getElem?_set]at h2;split at h2
   ·rename_i e;subst e;split at h2
    ·cases h2;exact .inl ⟨List.mem_cons_self,rfl⟩
    ·cases h2
   ·rename_i e;exact .inr ⟨by simp only[List.mem_cons,not_or];exact⟨fun h=>e h.symm,h1⟩,h2⟩
theorem Qci:∀{l:List Nat} {H:List Qa},(V7 l H).length=H.length
 |[],H=>rfl
 |i::l,H=>by simp[V7,Qci]
theorem Zaj:∀{D:List Nat} {T:TT} {t:Nat} {y:SV},(T.drop D).get t=some y→y=.any∨(t∉D∧T.get t=some y)
 |[],T,t,y,h=>.inr ⟨by simp,h⟩
 |d::D,T,t,y,h=>by
  simp only[TT.drop]at h;rcases Zaj h with h|⟨h1,h2⟩
  ·exact .inl h
  ·rcases TT.Wh _ _ _ _ _ h2 with⟨_,rfl⟩|⟨e,h2⟩
   ·exact .inl rfl
   ·exact .inr ⟨by simp[h1,e],h2⟩
theorem Qty{H:List Qa}:∀{l:List (Nat×Lk)} {T:TT} {t:Nat} {y:SV},(Qgk H l T).get t=some y→(∃q∈l,q.1=t∧y=Qbu H q.2)∨T.get t=some y
 |[],T,t,y,h=>.inr h
 |q::l,T,t,y,h=>by
  simp only[Qgk]at h;rcases Qty h with⟨q',h1,h2⟩|h
  ·exact .inl ⟨q',List.mem_cons_of_mem _ h1,h2⟩
  ·rcases TT.Wh _ _ _ _ _ h with⟨rfl,rfl⟩|⟨_,h⟩
   ·exact .inl ⟨q,List.mem_cons_self,rfl,rfl⟩
   ·exact .inr h
theorem Qpo{mv:List Nat}{H:List Qa}{s:Nat}{o:Qa}(h:(X7 mv H)[s]? =some o):∃x,H[s]? =some x∧(o=x.forget mv∨(mv=[]∧o=x)):=by
 unfold X7 at h;split at h
 ·exact⟨o,h,.inr ⟨rfl,rfl⟩⟩
 ·simp only[List.getElem?_map,Option.map_eq_some_iff]at h;obtain⟨x,hx,rfl⟩:=h;exact⟨x,hx,.inl rfl⟩
theorem Qa2{mv:List Nat}{H:List Qa}:(X7 mv H).length=H.length:=by unfold X7;split<;>simp
def Qi.H1(τ:Qi)(ids mv:List Nat)(b:St)(x:τ.El):List Qa:=(Wu [] τ.cells x (.nil,V7 ids (X7 mv b.H))).2
theorem Qi.Qb9(τ:Qi)(D ids mv:List Nat)(b:St)(x:τ.El):(τ.st D ids mv b x).H=(Wu (τ.H1 ids mv b x) τ.cells x ((Vh mv b.T).drop D,V7 ids (X7 mv b.H))).2:=by unfold Qi.st Qi.H1;rfl
theorem Qi.Zzy(τ:Qi)(D ids mv:List Nat)(b:St)(x:τ.El):(τ.st D ids mv b x).T=Qgk (τ.H1 ids mv b x) τ.owns (Wu (τ.H1 ids mv b x) τ.cells x ((Vh mv b.T).drop D,V7 ids (X7 mv b.H))).1:=by unfold Qi.st Qi.H1;rfl
theorem Qi.Qei(τ:Qi)(D ids mv:List Nat)(b:St)(x:τ.El):(τ.st D ids mv b x).n0=b.H.length∧(τ.st D ids mv b x).tch=ids∧(τ.st D ids mv b x).fg=mv∧(τ.st D ids mv b x).marks=[]∧(τ.st D ids mv b x).er=D:=by unfold Qi.st;split;split;exact⟨rfl,rfl,rfl,rfl,rfl⟩
theorem K6{B:Nat→Value}{nt:Nat}{τ:Qi}{D ids mv:List Nat}{b s':St}{H0:List Qa}{M0 M':Qc}{ρ0 ρ':Env}{a0 a':Act}{w0 w':World}{c:Bool}{x:τ.El}
  (hB:∀t,t∉D→a0.tmps.getD t undef=B t) (hb:Qjt D ids mv b M0 ρ0 H0 a0 w0) (hm0:Mem M0 ρ0 H0 w0)
  (hg:Good B nt M' ρ' s' a' w') (hf:Fr M0 ρ0 H0 w0 M' ρ' s'.H w' b.H.length s'.tch s'.fg) (hmv:subset mv ids=true) (hcov:τ.J1 ids=true)
  (hr:s'.reads D ids mv b.H.length=true) (hx:τ.read b.H.length s'=some (c,x)) (hc:c=true):
  ∃M'' ρ'',Good B nt M'' ρ'' (τ.st D ids mv b x) a' w'∧Fr M0 ρ0 H0 w0 M'' ρ'' (τ.st D ids mv b x).H w' b.H.length ids mv∧M''=M'.sealing ρ' s'.H b.H.length w'∧ρ''=ρ'.cut b.H.length:=by
 simp only[St.reads,Bool.and_eq_true]at hr;unfold Qi.J1 at hcov;simp only[Bool.and_eq_true]at hcov;obtain⟨hcov,hcov1,hcov2⟩:=hcov;obtain⟨r1,r2,r3,r4,r5⟩:=hr;have r4:s'.marks=[]:=by simpa using r4
 have r5:=Nat.le_of_ble_eq_true r5;unfold Qi.read at hx;split at hx
 ·rename_i c1 howns;split at hx
  ·rename_i x0 hcells;cases hx;rw[Bool.and_eq_true]at hc;obtain⟨e1,e2,e3,e4,e5⟩:=Qi.Qei τ D ids mv b x0.2;have hL:(τ.st D ids mv b x0.2).H.length=b.H.length:=by rw[Qi.Qb9,Qdo,Qci,Qa2]
   have hL1:(τ.H1 ids mv b x0.2).length=b.H.length:=by unfold Qi.H1;rw[Qdo,Qci,Qa2]
   have hmem:=Zam (c:=x0.1) (x:=x0.2) hcells hc.2;have hle:=Qc.X6 M' ρ' s'.H b.H.length w';have hlen:∀s,s∈τ.cells.filterMap Ql.id? →Qjx b.H.length s'.H (τ.H1 ids mv b x0.2) (.own s):=fun s hs hsn o sz ho hsz=>by
    have hs1:s<(τ.H1 ids mv b x0.2).length:=by rw[hL1];exact hsn
    obtain⟨o1,ho1⟩:∃o1,(τ.H1 ids mv b x0.2)[s]? =some o1:=⟨_,List.getElem?_eq_getElem hs1⟩;refine⟨o1,ho1,?_⟩;have ho1':=ho1;unfold Qi.H1 at ho1';rcases Qe0 ho1' with⟨k,z,hi,hk,rfl⟩|⟨hn,_⟩
    ·obtain⟨o2,q1,_,q3⟩:=Ql.Qr8 (H1:=[]) (hmem k z hi) rfl hk;rw[ho]at q1;cases q1;exact q3 sz hsz
    ·exact absurd hs hn
   have hlk:∀lk:Lk,lk.inn (τ.cells.filterMap Ql.id?)=true→Qjx b.H.length s'.H (τ.H1 ids mv b x0.2) lk:=fun lk h=>by
    cases lk with
    |stat y=>trivial
    |own s=>exact hlen s (by simpa[Lk.inn]using h)
   have hobj:∀s o,(τ.st D ids mv b x0.2).H[s]? =some o→s<b.H.length∧((∃(k:Ql) (z:k.El),Vf τ.cells x0.2 k z∧k.id? =some s∧o=k.obj (τ.H1 ids mv b x0.2) z)∨o=.dead∨(s∉ids∧∃o0,b.H[s]? =some o0∧(o=o0.forget mv∨(mv=[]∧o=o0)))):=fun s o ho=>by
    have hs:s<b.H.length:=by rw[←hL];exact(List.getElem?_eq_some_iff.1 ho).1
    refine⟨hs,?_⟩;rw[Qi.Qb9]at ho;rcases Qe0 ho with⟨k,z,hi,hk,e⟩|⟨_,ho⟩
    ·exact .inl ⟨k,z,hi,hk,e⟩
    ·rcases Qnv ho with⟨_,e⟩|⟨hn,ho⟩
     ·exact .inr (.inl e)
     ·exact .inr (.inr ⟨hn,Qpo ho⟩)
   have hcut:∀s,s<b.H.length→ρ'.cut b.H.length s=ρ' s:=fun s hs=>by simp[Env.cut,hs]
   have hstay:∀s,s<b.H.length→s∉mv→ρ' s=ρ0 s:=fun s hs hn=>hf.stay s hs fun h=>hn (Kr r3 h);have hbut:Env.Vr mv ρ0 (ρ'.cut b.H.length):=fun s p hs hp=>by
    have hn:s∉mv:=by simpa using hs
    rcases Nat.lt_or_ge s b.H.length with h|h
    ·rw[hcut s h,hstay s h hn];exact hp
    ·rw[hm0.fresh s (by rw[hb.len];exact h)]at hp;cases hp
   have hsame:∀s o0,s∉ids→b.H[s]? =some o0→o0.live=true→∀p b,ρ0 s=some p→p.has b→w'.heap[b]? =w0.heap[b]? :=fun s o0 hn ho hl p bb hp hbb=>by obtain⟨o',h1,h2⟩:=(hb.objs s o0 hn ho).2 hl;exact((hf.keep s o' ((List.getElem?_eq_some_iff.1 ho).1) (fun h=>hn (Kr r2 h)) h1 h2).2 p hp).2 bb hbb
   have himm:M0.le (M'.sealing ρ' s'.H b.H.length w'):=Qc.le_trans hf.imm hle;have hlive:∀(s:Nat) (o:Qa),(τ.st D ids mv b x0.2).H[s]? =some o→o.live=true→∃o':Qa,s'.H[s]? =some o'∧o'.live=true:=fun s o ho hl=>by
    obtain⟨hs,⟨k,z,h1,h2,rfl⟩|rfl|⟨hn,o0,h1,h2⟩⟩:=hobj s o ho
    ·obtain⟨o',g1,g2,_⟩:=Ql.Qr8 (H1:=[]) (hmem k z h1) rfl h2;exact⟨o',g1,g2⟩
    ·cases hl
    ·have hl0:o0.live=true:=by
      rcases h2 with rfl|⟨_,rfl⟩
      ·rwa[Zhq]at hl
      ·exact hl
     obtain⟨o',g1,g2⟩:=(hb.objs s o0 hn h1).2 hl0;exact(hf.keep s o' hs (fun h=>hn (Kr r2 h)) g1 g2).1
   have hmem'':Mem (M'.sealing ρ' s'.H b.H.length w') (ρ'.cut b.H.length) (τ.st D ids mv b x0.2).H w':=by
    refine⟨fun bb o hbb=>?_,fun s o ho=>?_,fun s o p bb ho hl hp hbb=>?_,fun s s1 o o1 p p1 bb ho ho1 hl hl1 hp hp1 hbk hbk'=>?_,fun s hs=>?_,fun s o p bb ho hl hp hbb=>?_⟩
    ·cases e:M' bb with
     |some o'=>rw[hle bb o' e]at hbb;cases hbb;exact hg.mem.imm bb _ e
     |none=>exact(Qc.Wj e hbb).2
    ·obtain⟨hs,⟨k,z,h1,h2,rfl⟩|rfl|⟨hn,o0,h1,h2⟩⟩:=hobj s o ho
     ·refine Ql.Zcg hg.mem (hmem k z h1) rfl h2 hs fun q hq=>hlk q.2 ?_;have:=List.all_eq_true.1 hcov1 k h1.mem;exact List.all_eq_true.1 this q hq
     ·trivial
     ·have h0:=(hb.objs s o0 hn h1).1;have hnm:s∉mv:=fun h=>hn (Kr hmv h);by_cases hl:o0.live=true
      ·have h3:=h0.forget (d:=mv) himm hbut ((hcut s hs).trans (hstay s hs hnm)) (fun p bb hp hbb=>hsame s o0 hn h1 hl p bb hp hbb);rw[Qa.Uh]at h3;rcases h2 with rfl|⟨rfl,rfl⟩
       ·exact h3
       ·rwa[Qa.W6]at h3
      ·have e0:=Kx hl;subst e0;rcases h2 with rfl|⟨_,rfl⟩<;>trivial
    ·obtain⟨o',h1,h2⟩:=hlive s o ho hl;have hs:=(hobj s o ho).1;rw[hcut s hs]at hp;cases e:M'.sealing ρ' s'.H b.H.length w' bb with
     |none=>rfl
     |some ob=>
      obtain⟨⟨s2,o2,p2,q1,q2,q3,q4,q5⟩,_⟩:=Qc.Wj (hg.mem.seps s o' p bb h1 h2 hp hbb) e;have hl2:o2.live=true:=by cases o2<;>simp_all [Qa.Wk,Qa.live]
      have:=hg.mem.diss s s2 o' o2 p p2 bb h1 q2 h2 hl2 hp q4 hbb (.inl q5);omega
    ·obtain⟨o',h1,h2⟩:=hlive s o ho hl;obtain⟨o1',k1,k2⟩:=hlive s1 o1 ho1 hl1;rw[hcut s (hobj s o ho).1]at hp;rw[hcut s1 (hobj s1 o1 ho1).1]at hp1;exact hg.mem.diss s s1 o' o1' p p1 bb h1 k1 h2 k2 hp hp1 hbk hbk'
    ·rw[hL]at hs;simp[Env.cut,Nat.not_lt.2 hs]
    ·obtain⟨o',h1,h2⟩:=hlive s o ho hl;rw[hcut s (hobj s o ho).1]at hp;exact hg.mem.lts s o' p bb h1 h2 hp hbb
   refine⟨M'.sealing ρ' s'.H b.H.length w',ρ'.cut b.H.length,⟨fun t y hy=>?_,hg.sz,hmem'',?_,fun m hm=>?_,by rw[e1,hL];exact Nat.le_refl _,fun t ht=>?_⟩,?_,rfl,rfl⟩
   ·rw[Qi.Zzy]at hy;rcases Qty hy with⟨q,hq,rfl,rfl⟩|hy
    ·obtain⟨x,g1,g2⟩:=Zbr howns hc.1 q hq;exact Qxr hg.mem hle g2 (hlk q.2 (List.all_eq_true.1 hcov q hq)) (hg.tm q.1 x g1)
    ·rcases Za0 hy with⟨a,z,hi,rfl⟩|hy
     ·have hz:=hmem _ _ hi;have hz:(match s'.T.get t with
       |some x=>rdA s'.H b.H.length a x
       |none=>none)=some (true,z):=hz
      split at hz
      ·rename_i x hx;exact Qq8 hg.mem hz rfl (hg.tm t x hx)
      ·cases hz
     ·rcases Zaj hy with rfl|⟨hn,hy⟩
      ·exact .any _
      ·obtain⟨y0,hy0,hyy⟩:=Qjr hy;have hsl:=hb.slots t y0 hn hy0;have ht':a'.tmps.getD t undef=a0.tmps.getD t undef:=by rw[hg.fix t fun h=>hn (Kr r1 h),hB t hn]
       rw[ht'];have h3:=hsl.forget (d:=mv) himm hbut;rw[SV.Uh]at h3;rcases hyy with rfl|⟨rfl,rfl⟩
       ·exact h3
       ·rwa[SV.W6]at h3
   ·rw[e4];have:=hg.df;rw[r4]at this;exact⟨this.1,fun i d s _ h=>by simp at h⟩
   ·rw[e4]at hm;cases hm
   ·rw[e5]at ht;exact hg.fix t fun h=>ht (Kr r1 h)
   ·refine⟨himm,fun bb o h0 h1=>?_,fun bb hbb=>?_,hf.same,hf.grow,fun s o hs hx ho hl=>?_,fun s hs hx=>?_,hf.io⟩
    ·cases e:M' bb with
     |some o'=>exact hf.new bb o' h0 e
     |none=>obtain⟨⟨s2,o2,p2,q1,q2,q3,q4,q5⟩,_⟩:=Qc.Wj e h1;exact hf.own bb ⟨s2,o2,p2,q2,by cases o2<;>simp_all [Qa.Wk,Qa.live],q4,.inl q5⟩
    ·obtain⟨s,o,p,h1,h2,h3,h4⟩:=hbb;obtain⟨o',k1,k2⟩:=hlive s o h1 h2;rw[hcut s (hobj s o h1).1]at h3;exact hf.own bb ⟨s,o',p,k1,k2,h3,h4⟩
    ·have hs2:s<(τ.st D ids mv b x0.2).H.length:=by rw[hL];exact hs
     have hns:s∉s'.tch:=fun h=>hx (Kr r2 h);obtain⟨_,k3⟩:=hf.keep s o hs hns ho hl;refine⟨?_,fun p hp=>?_⟩
     ·obtain⟨o0,g1,g2⟩:=hb.back s o hx ho hl;have hns2:s∉τ.cells.filterMap Ql.id? :=fun h=>hx (Kr hcov2 h);obtain⟨on,hst⟩:∃on,(τ.st D ids mv b x0.2).H[s]? =some on:=⟨_,List.getElem?_eq_getElem hs2⟩;refine⟨on,hst,?_⟩;have hst2:=hst;rw[Qi.Qb9]at hst2;rcases Qe0 hst2 with⟨k',z',hi,hk,_⟩|⟨_,hh⟩
      ·exact absurd (Zey hi hk) hns2
      ·rcases Qnv hh with⟨h1,_⟩|⟨_,h2⟩
       ·exact absurd h1 hx
       ·obtain⟨o2,n1,n2⟩:=Qpo h2;rw[g1]at n1;cases n1;rcases n2 with e|⟨_,e⟩
        ·rw[e,Ju];exact g2
        ·rw[e];exact g2
     ·obtain⟨k4,k5⟩:=k3 p hp;exact⟨by rw[hcut s hs];exact k4,k5⟩
    ·rw[hcut s hs];exact hstay s hs hx
  ·cases hx
 ·cases hx
end Go.Sx
end
section
namespace Go.Sx
open Go
def gd{X:Type}:Bool→Option X→Option X
 |true,x=>x
 |false,_=>none
theorem Ya{X:Type}{c:Bool}{x:Option X}{y:X}(h:gd c x=some y):c=true∧x=some y:=by
 cases c with
 |true=>exact⟨rfl,h⟩
 |false=>cases h
def both{X:Type}(eq:X→X→Bool)(x y:Option X):Option X:=match x with
 |none=>none
 |some a=>match y with
  |none=>none
  |some b=>match eq a b with
   |true=>some a
   |false=>none
theorem Qzl{X:Type}{eq:X→X→Bool}(he:Yg eq){x y:Option X}{v:X}(h:both eq x y=some v):x=some v∧y=some v:=by
 unfold both at h;split at h
 ·cases h
 ·split at h
  ·cases h
  ·split at h
   ·rename_i e;cases h;rw[he _ _ e];exact⟨rfl,rfl⟩
   ·cases h
abbrev KO(X:Type):=SV→List Qa→List Nat→List Nat→Option X
abbrev KX(X:Type):=Exit→St→Option X
section
variable {X:Type}
def Qj.Wg(eq:X→X→Bool)(kok:SV→Option X)(k:KO X):Qj→Option X
 |.fail=>none
 |.ok x=>kok x
 |.eff x H' t g=>k x H' t g
 |.need c r=>match c with
  |true=>r.Wg eq kok k
  |false=>none
 |.split c a b=>match c with
  |true=>a.Wg eq kok k
  |false=>b.Wg eq kok k
 |.both a b=>Sx.both eq (a.Wg eq kok k) (b.Wg eq kok k)
theorem Qj.Qao{eq:X→X→Bool}(he:Yg eq){H:List Qa}{kok:SV→Option X}{k:KO X}{K:Qn}{y:X}(h1:∀x,kok x=some y→K x H [] [])(h2:∀x H' t g,k x H' t g=some y→K x H' t g):∀{r:Qj},r.Wg eq kok k=some y→r.holds H K
 |.fail,h=>by simp[Qj.Wg]at h
 |.ok x,h=>h1 x h
 |.eff x H' t g,h=>h2 x H' t g h
 |.need c r,h=>by
  simp only[Qj.Wg]at h;cases c with
  |true=>exact⟨rfl,Qj.Qao he h1 h2 h⟩
  |false=>cases h
 |.split c a b,h=>by
  simp only[Qj.Wg]at h;cases c with
  |true=>exact⟨fun _=>Qj.Qao he h1 h2 h,fun h=>by cases h⟩
  |false=>exact⟨fun h=>(by cases h),fun _=>Qj.Qao he h1 h2 h⟩
 |.both a b,h=>by simp only[Qj.Wg]at h;obtain⟨q1,q2⟩:=Qzl he h;exact⟨Qj.Qao he h1 h2 q1,Qj.Qao he h1 h2 q2⟩
def Qbp(ops:Array Oper)(o:Oper)(s:St)(run skip:St→Option X):Option X:=
 match o.guard with
 |none=>run s
 |some (j,want)=>match Qdv ops j with
  |none=>none
  |some d=>match s.T.get d with
   |some (.pv (.lit (.bool b)))=>match want with
    |true=>match b with
     |true=>run {s with T:=s.T.set d (.lit (.bool true))}
     |false=>skip {s with T:=s.T.set d (.lit (.bool false))}
    |false=>match b with
     |true=>skip {s with T:=s.T.set d (.lit (.bool true))}
     |false=>run {s with T:=s.T.set d (.lit (.bool false))}
   |some (.pv (.lit (.tuple _)))=>skip s
   |_=>none
theorem Qov{ops:Array Oper}{o:Oper}{s:St}{run skip:St→Option X}{run' skip':St→Prop}{y:X}(h:Qbp ops o s run skip=some y)(hr:∀s,run s=some y→run' s)(hs:∀s,skip s=some y→skip' s):K9 ops o s run' skip':=by
 unfold Qbp at h;unfold K9;split at h
 ·rename_i e;simp only[e];exact hr _ h
 ·rename_i j want e;simp only[e];split at h
  ·cases h
  ·rename_i d e2;simp only[e2];split at h
   ·rename_i b e3;simp only[e3];cases want<;>cases b<;>simp only[Bool.not_true,Bool.not_false]at h⊢
    ·exact⟨fun _=>hr _ h,fun h=>by cases h⟩
    ·exact⟨fun h=>(by cases h),fun _=>hs _ h⟩
    ·exact⟨fun h=>(by cases h),fun _=>hs _ h⟩
    ·exact⟨fun _=>hr _ h,fun h=>by cases h⟩
   ·rename_i e3;simp only[e3];exact hs _ h
   ·cases h
def Qj.low:Qj→Qj
 |.split c _ b=>.need (!c) b.low
 |.need c r=>.need c r.low
 |.both a b=>.both a.low b.low
 |r=>r
theorem Qj.Qhp{H:List Qa}{K:Qn}:∀{r:Qj},r.low.holds H K→r.holds H K
 |.fail,h=>h
 |.ok x,h=>h
 |.eff x H' t g,h=>h
 |.need c r,h=>⟨h.1,Qj.Qhp h.2⟩
 |.split c a b,h=>⟨fun hc=>(by have:=h.1;rw[hc]at this;cases this),fun _=>Qj.Qhp h.2⟩
 |.both a b,h=>⟨Qj.Qhp h.1,Qj.Qhp h.2⟩
def Qq9:Bool→Qj→Qj
 |true,r=>r.low
 |false,r=>r
theorem Qy9{H:List Qa}{K:Qn}{b:Bool}{r:Qj}(h:(Qq9 b r).holds H K):r.holds H K:=by
 cases b with
 |true=>exact Qj.Qhp h
 |false=>exact h
abbrev Wz(X:Type):=Bool→Nat→List SV→List Qa→KO X→Option X
structure Wz.Ok (cx:Cx) (cb:Wz X):Prop where
 ok:∀g args H k y,cb false g args H k=some y→(∃fn,cx.fns.lookup g=some fn)∧Yu cx.P g args H fun x H' t f=>k x H' t f=some y
 rd:∀s args H k y,cb true s args H k=some y→Uw cx.P s args H fun x H' t f=>k x H' t f=some y
def opO(eq:X→X→Bool)(cx:Cx)(cb:Wz X)(ev:Operand→SV)(H:List Qa)(o:Oper)(kok:SV→Option X)(k:KO X):Option X:=
 match Qgv o.op with
 |some c=>match Qg1 ev c with
  |some (s,args)=>cb true s args H k
  |none=>match target ev c with
   |none=>none
   |some (g,args)=>cb false g args H k
 |none=>(Qq9 cx.low (sop cx.P cx.tab H ev o)).Wg eq kok k
theorem Qso{eq:X→X→Bool}(he:Yg eq){cx:Cx}{cb:Wz X}(hcb:cb.Ok cx){ev:Operand→SV}{H:List Qa}{o:Oper}{kok:SV→Option X}{k:KO X}{K:Qn}{y:X}(h1:∀x,kok x=some y→K x H [] [])(h2:∀x H' t g,k x H' t g=some y→K x H' t g)
  (h:opO eq cx cb ev H o kok k=some y):opP cx ev H o K:=by
 unfold opO at h;unfold opP;cases hc:Qgv o.op with
 |none=>simp only[hc]at h⊢;exact Qy9 (Qj.Qao he h1 h2 h)
 |some c=>
  simp only[hc]at h⊢;cases hy:Qg1 ev c with
  |some q=>obtain⟨s,args⟩:=q;simp only[hy]at h⊢;exact(hcb.rd s args H k y h).mono h2
  |none=>
   simp only[hy]at h⊢;cases ht:target ev c with
   |none=>simp only[ht]at h;cases h
   |some q=>obtain⟨g,args⟩:=q;simp only[ht]at h⊢;obtain⟨⟨fn,hf⟩,h3⟩:=hcb.ok g args H k y h;simp only[hf];exact h3.mono h2
def Qba(eq:X→X→Bool)(cx:Cx)(cb:Wz X)(nt:Nat)(ops:Array Oper):List Oper→St→(St→Option X)→Option X
 |[],s,k=>k s
 | o :: rest,s,k=>Qbp ops o s
   (fun s'=>gd (Jy o.op&&Xy nt o.dst) (opO eq cx cb s'.ev s'.H o (fun x=>Qba eq cx cb nt ops rest (s'.put o.dst x) k) fun x H t f=>gd (Qbm s' nt o.dst H f) (Qba eq cx cb nt ops rest (s'.step o.dst x H t f) k)))
   (fun s'=>gd (Xy nt o.dst) (Qba eq cx cb nt ops rest (s'.put o.dst (.lit undef)) k))
theorem Qhi{eq:X→X→Bool}(he:Yg eq){cx:Cx}{cb:Wz X}(hcb:cb.Ok cx){nt:Nat}{ops:Array Oper}{y:X}:∀(l:List Oper) (s:St) (k:St→Option X),Qba eq cx cb nt ops l s k=some y→Qee cx nt ops l s fun s'=>k s'=some y
 |[],s,k,h=>h
 |o::rest,s,k,h=>by
  unfold Qba at h;unfold Qee;refine Qov h (fun s' h=>?_) (fun s' h=>?_)
  ·obtain⟨h0,h⟩:=Ya h;rw[Bool.and_eq_true]at h0;refine⟨h0.1,Qso he hcb (fun x hx=>.inl ⟨h0.2,rfl,rfl,rfl,Qhi he hcb rest _ k hx⟩) (fun x H t f h=>?_) h⟩;obtain⟨h1,h⟩:=Ya h;exact .inr ⟨h1,Qhi he hcb rest _ k h⟩
  ·obtain⟨h0,h⟩:=Ya h;exact⟨h0,Qhi he hcb rest _ k h⟩
def Qo4:Qb3→Bool
 |.stop=>true
 |_=>false
def Xt(eq:X→X→Bool)(cx:Cx)(cb:Wz X)(nt:Nat)(ops:Array Oper):Qb3→List (Nat×List Nat)→St→(St→Option X)→Option X
 |.done,pend,s,k=>k s
 |.bad,pend,s,k=>none
 |.stop,pend,s,k=>none
 |.take i o p,pend,s,k=>gd (Xy nt o.dst) (Qbp ops o s
   (fun s'=>gd ((Vk s'.ev o).all (Qd3 s'.H) && hdyn (Vk s'.ev o) s'.ev o)
    ((Qq9 cx.low (sop cx.P cx.tab s'.H s'.ev o)).Wg eq (fun x=>Xt eq cx cb nt ops p (Qcf i (Vk s'.ev o) pend) (s'.put o.dst x) k) fun x _ _ _=>Xt eq cx cb nt ops p (Qcf i (Vk s'.ev o) pend) (s'.put o.dst x) k))
   (fun s'=>Xt eq cx cb nt ops p pend (s'.put o.dst (.lit undef)) k))
 |.alt o p rest,pend,s,k=>
  match Qo4 rest with
  |true=>Qbp ops o s
   (fun s'=>gd (Jy o.op&&Xy nt o.dst) (opO eq cx cb s'.ev s'.H o (fun x=>Xt eq cx cb nt ops p (Jo o pend) (s'.put o.dst x) k) fun x H t f=>gd (Qbm s' nt o.dst H f&&keeps o pend t f) (Xt eq cx cb nt ops p (Jo o pend) (s'.step o.dst x H t f) k)))
   (fun s'=>gd (Xy nt o.dst) (Xt eq cx cb nt ops p (Jo o pend) (s'.put o.dst (.lit undef)) k))
  |false=>both eq (Qbp ops o s
   (fun s'=>gd (Jy o.op&&Xy nt o.dst) (opO eq cx cb s'.ev s'.H o (fun x=>Xt eq cx cb nt ops p (Jo o pend) (s'.put o.dst x) k) fun x H t f=>gd (Qbm s' nt o.dst H f&&keeps o pend t f) (Xt eq cx cb nt ops p (Jo o pend) (s'.step o.dst x H t f) k)))
   (fun s'=>gd (Xy nt o.dst) (Xt eq cx cb nt ops p (Jo o pend) (s'.put o.dst (.lit undef)) k))) (Xt eq cx cb nt ops rest pend s k)
theorem Uz{eq:X→X→Bool}(he:Yg eq){cx:Cx}{cb:Wz X}(hcb:cb.Ok cx){nt:Nat}{hl:Bool}{ops:Array Oper}{k:St→Option X}{y:X}:
  ∀(fuel:Nat) (listed:Array Bool) (R:List (Nat×List Nat)) (s:St),Xt eq cx cb nt ops (Ws hl ops fuel listed) R s k=some y→J0 cx nt hl ops fuel listed R s fun s'=>k s'=some y
 |0,listed,R,s,h=>by
  unfold Ws at h;unfold J0;split at h
  ·rename_i e;exact⟨e,h⟩
  ·cases h
 |n+1,listed,R,s,h=>by
  unfold Ws at h;unfold J0;cases hp:Qn1 hl ops listed with
  |some i=>
   simp only[hp]at h⊢;cases ho:ops[i]? with
   |none=>simp only[ho]at h;cases h
   |some o=>simp only[ho,Xt]at h⊢;obtain⟨h0,h⟩:=Ya h;refine⟨h0,Qov h (fun s' h=>?_) (fun s' h=>Uz he hcb n _ R _ h)⟩;obtain⟨h1,h⟩:=Ya h;exact⟨h1,Qy9 (Qj.Qao he (fun x h=>Uz he hcb n _ _ _ h) (fun x _ _ _ h=>Uz he hcb n _ _ _ h) h)⟩
  |none=>
   simp only[hp]at h⊢;cases hr:Region.ready .any ops listed with
   |nil=>simp only[hr]at h;exact h
   |cons r rs=>
    simp only[hr]at h;have one:∀(i:Nat) (o:Oper),Qbp ops o s
      (fun s'=>gd (Jy o.op&&Xy nt o.dst) (opO eq cx cb s'.ev s'.H o (fun x=>Xt eq cx cb nt ops (Ws hl ops n (listed.setIfInBounds i true)) (Jo o R) (s'.put o.dst x) k) fun x H t f=>gd (Qbm s' nt o.dst H f&&keeps o R t f) (Xt eq cx cb nt ops (Ws hl ops n (listed.setIfInBounds i true)) (Jo o R) (s'.step o.dst x H t f) k)))
      (fun s'=>gd (Xy nt o.dst) (Xt eq cx cb nt ops (Ws hl ops n (listed.setIfInBounds i true)) (Jo o R) (s'.put o.dst (.lit undef)) k))=some y→
      K9 ops o s
       (fun s'=>Jy o.op=true∧opP cx s'.ev s'.H o fun x H tch fg=>(keeps o R tch fg=true∧s'.adv nt o.dst (fun s''=>J0 cx nt hl ops n (listed.setIfInBounds i true) (Jo o R) s'' fun s'=>k s'=some y) x H tch fg))
       (fun s'=>Xy nt o.dst=true∧J0 cx nt hl ops n (listed.setIfInBounds i true) (Jo o R) (s'.put o.dst (.lit undef)) fun s'=>k s'=some y):=by
     intro i o h;refine Qov h (fun s' h=>?_) (fun s' h=>?_)
     ·obtain⟨h0,h⟩:=Ya h;rw[Bool.and_eq_true]at h0;refine⟨h0.1,Qso he hcb (fun x hx=>⟨Zc0 o R,.inl ⟨h0.2,rfl,rfl,rfl,Uz he hcb n _ _ _ hx⟩⟩) (fun x H t f h=>?_) h⟩;obtain⟨h1,h⟩:=Ya h;rw[Bool.and_eq_true]at h1;exact⟨h1.2,.inr ⟨h1.1,Uz he hcb n _ _ _ h⟩⟩
     ·obtain⟨h0,h⟩:=Ya h;exact⟨h0,Uz he hcb n _ _ _ h⟩
    have all:∀(l:List Nat),l≠[]→Xt eq cx cb nt ops (Qap ops (fun i=>Ws hl ops n (listed.setIfInBounds i true)) l) R s k=some y→∀i∈l,match ops[i]? with
     |none=>False
     | some o=>K9 ops o s
       (fun s'=>Jy o.op=true∧opP cx s'.ev s'.H o fun x H tch fg=>(keeps o R tch fg=true∧s'.adv nt o.dst (fun s''=>J0 cx nt hl ops n (listed.setIfInBounds i true) (Jo o R) s'' fun s'=>k s'=some y) x H tch fg))
       (fun s'=>Xy nt o.dst=true∧J0 cx nt hl ops n (listed.setIfInBounds i true) (Jo o R) (s'.put o.dst (.lit undef)) fun s'=>k s'=some y):=by
     intro l;induction l with
     |nil=>intro h;exact absurd rfl h
     |cons j l ih=>
      intro _ h i hi;unfold Qap at h;cases ho:ops[j]? with
      |none=>simp only[ho]at h;cases h
      |some o=>
       simp only[ho,Xt]at h;cases l with
       |nil=>
        simp only[Qap,Qo4]at h;rcases List.mem_cons.1 hi with rfl|hi
        ·simp only[ho];exact one i o h
        ·cases hi
       |cons j2 l2=>
        have hst:Qo4 (Qap ops (fun i=>Ws hl ops n (listed.setIfInBounds i true)) (j2::l2))=false:=by unfold Qap;cases ops[j2]? <;>rfl
        simp only[hst]at h;obtain⟨h1,h2⟩:=Qzl he h;rcases List.mem_cons.1 hi with rfl|hi
        ·simp only[ho];exact one i o h1
        ·exact ih (by simp) h2 i hi
    exact all _ (by simp) h
end
end Go.Sx
end
namespace Go.Sx
open Go
def Qjn(a b:Nat):Bool:=decide (a=b)
theorem Ze3:Yg Qjn:=fun a b h=>of_decide_eq_true h
def Xb.eqv:(l:PL)→Xb l→Xb l→Bool
 |[]=>Qcy
 |[p]=>p.2.eqv
 |p::p'::l=>V6 p.2.eqv (Xb.eqv (p'::l))
theorem Xb.eqv_ok:∀(l:PL),Yg (Xb.eqv l)
 |[]=>fun a b h=>rfl
 |[p]=>Qf.eqv_ok p.2
 |p::p'::l=>Qc9 (Qf.eqv_ok p.2) (Xb.eqv_ok (p'::l))
def Ql.eqv:(c:Ql)→c.El→c.El→Bool
 |.slot _ a=>a.eqv
 |.vec _ _ row=>Je (Qh.eqv row)
 |.one _ _ row=>Qh.eqv row
 |.mix _ _ _ dat _=>Xb.eqv dat
 |.map _ k v=>Je (V6 k.eqv v.eqv)
 |.iter _=>V6 Qe Qjn
 |.over _ _=>Qcy
 |.nest _ _ _ row=>Je (Je (Qh.eqv row))
 |.fix _ _ _=>Qcy
theorem Ql.eqv_ok:∀(c:Ql),Yg c.eqv
 |.slot _ a=>Qf.eqv_ok a
 |.vec _ _ row=>Qbk (Qh.eqv_ok row)
 |.one _ _ row=>Qh.eqv_ok row
 |.mix _ _ _ dat _=>Xb.eqv_ok dat
 |.map _ k v=>Qbk (Qc9 (Qf.eqv_ok k) (Qf.eqv_ok v))
 |.iter _=>Qc9 Zbk Ze3
 |.over _ _=>fun a b h=>rfl
 |.nest _ _ _ row=>Qbk (Qbk (Qh.eqv_ok row))
 |.fix _ _ _=>fun a b h=>rfl
def Z0.eqv:(l:List Ql)→Z0 l→Z0 l→Bool
 |[]=>Qcy
 |[c]=>c.eqv
 |c::c'::l=>V6 c.eqv (Z0.eqv (c'::l))
theorem Z0.eqv_ok:∀(l:List Ql),Yg (Z0.eqv l)
 |[]=>fun a b h=>rfl
 |[c]=>Ql.eqv_ok c
 |c::c'::l=>Qc9 (Ql.eqv_ok c) (Z0.eqv_ok (c'::l))
abbrev Yw:=List (Exit×Qi)
def Zj:Yw→Type
 |[]=>Empty
 |[a]=>a.2.El
 |a::a'::l=>a.2.El ⊕ Zj (a'::l)
def Zj.eqv:(l:Yw)→Zj l→Zj l→Bool
 |[]=>fun _ _=>true
 |[a]=>Z0.eqv a.2.cells
 |a::a'::l=>Qct (Z0.eqv a.2.cells) (Zj.eqv (a'::l))
theorem Zj.eqv_ok:∀(l:Yw),Yg (Zj.eqv l)
 |[]=>fun a b h=>by cases a
 |[a]=>Z0.eqv_ok _
 |a::a'::l=>Qlr (Z0.eqv_ok _) (Zj.eqv_ok (a'::l))
def Qjh:Exit→Exit→Bool
 |.normal,.normal=>true
 |.ret,.ret=>true
 |.exit a,.exit b=>Nat.beq a b
 |_,_=>false
theorem Quf{a b:Exit}(h:Qjh a b=true):a=b:=by unfold Qjh at h;split at h<;>first|rfl|(rw[Nat.eq_of_beq_eq_true h];done)|cases h
structure Yn where
 D:List Nat
 ids:List Nat
 mv:List Nat
def Yn.of(f:Yn)(τ:Qi):List Nat:=τ.Qr3++f.ids
def Qaw(τ:Qi)(D ids mv:List Nat)(n:Nat)(s:St):Option τ.El:=gd (s.reads D ids mv n) (match τ.read n s with
 |some (c,x)=>gd c (some x)
 |none=>none)
def J7(τ:Qi)(f:Yn)(n:Nat)(s:St):Option τ.El:=Qaw τ f.D (f.of τ) f.mv n s
theorem Qrp{τ:Qi}{D ids mv:List Nat}{n:Nat}{s:St}{x:τ.El}(h:Qaw τ D ids mv n s=some x):s.reads D ids mv n=true∧∃c,c=true∧τ.read n s=some (c,x):=by
 obtain⟨h1,h2⟩:=Ya h;refine⟨h1,?_⟩;split at h2
 ·rename_i c y e;obtain⟨h3,h4⟩:=Ya h2;cases h4;exact⟨c,h3,e⟩
 ·cases h2
theorem Qa4{τ:Qi}{f:Yn}{n:Nat}{s:St}{x:τ.El}(h:J7 τ f n s=some x):s.reads f.D (f.of τ) f.mv n=true∧∃c,c=true∧τ.read n s=some (c,x):=Qrp h
def Wy(f:Yn)(n:Nat):(l:Yw)→Exit→St→Option (Zj l)
 |[],_,_=>none
 |[a],e,s=>match Qjh a.1 e with
  |true=>J7 a.2 f n s
  |false=>none
 |a::a'::l,e,s=>match Qjh a.1 e with
  |true=>match J7 a.2 f n s with
   |some x=>some (.inl x)
   |none=>none
  |false=>match Wy f n (a'::l) e s with
   |some x=>some (.inr x)
   |none=>none
def Xh(f:Yn)(b:St):(l:Yw)→Zj l→Exit×St
 |[],x=>Empty.elim x
 |[a],x=>(a.1,a.2.st f.D (f.of a.2) f.mv b x)
 |a::a'::l,.inl x=>(a.1,a.2.st f.D (f.of a.2) f.mv b x)
 |a::a'::l,.inr x=>Xh f b (a'::l) x
def Qfb{A:Type}(f:Yn)(b:St):(l:Yw)→Zj l→(Exit→St→A)→A
 |[],x,_=>Empty.elim x
 |[a],x,k=>k a.1 (a.2.st f.D (f.of a.2) f.mv b x)
 |a::a'::l,x,k=>match x with
  |.inl x=>k a.1 (a.2.st f.D (f.of a.2) f.mv b x)
  |.inr x=>Qfb f b (a'::l) x k
theorem Qe8{A:Type}{f:Yn}{b:St}:∀{l:Yw} (x:Zj l) (k:Exit→St→A),Qfb f b l x k=k (Xh f b l x).1 (Xh f b l x).2
 |[],x,_=>Empty.elim x
 |[a],x,k=>rfl
 |a::a'::l,.inl x,k=>rfl
 |a::a'::l,.inr x,k=>Qe8 (l:=a'::l) x k
def Yn.ok(f:Yn):Bool:=subset f.mv f.ids
theorem Qbc{f:Yn}{τ:Qi}(h:f.ok=true):subset f.mv (f.of τ)=true:=by unfold Yn.ok subset at h;unfold subset Yn.of;rw[List.all_eq_true]at h⊢;intro x hx;have:=h x hx;simp only[List.contains_iff_mem,List.mem_append]at this⊢;exact .inr this
def Vu(f:Yn)(l:Yw):Bool:=l.all fun a=>a.2.J1 (f.of a.2)
theorem Qif{f:Yn}{n:Nat}{b:St}:∀{l:Yw} {e:Exit} {s:St} {x:Zj l},Vu f l=true→Wy f n l e s=some x→
  ∃(τ:Qi) (z:τ.El),τ.J1 (f.of τ)=true∧J7 τ f n s=some z∧Xh f b l x=(e,τ.st f.D (f.of τ) f.mv b z)
 |[],e,s,x,hok,h=>by cases h
 |[a],e,s,x,hok,h=>by
  simp only[Wy]at h;split at h
  ·rename_i he;refine⟨a.2,x,by simpa[Vu]using hok,h,?_⟩;simp only[Xh,Quf he]
  ·cases h
 |a::a'::l,e,s,x,hok,h=>by
  have hok':a.2.J1 (f.of a.2)=true∧Vu f (a'::l)=true:=by simp only[Vu,List.all_cons,Bool.and_eq_true]at hok⊢;exact hok
  simp only[Wy]at h;split at h
  ·rename_i he;split at h
   ·rename_i z hz;cases h;exact⟨a.2,z,hok'.1,hz,by simp only[Xh,Quf he]⟩
   ·cases h
  ·split at h
   ·rename_i z hz;cases h;obtain⟨τ,w,h1,h2,h3⟩:=Qif (b:=b) hok'.2 hz;exact⟨τ,w,h1,h2,h3⟩
   ·cases h
def St.sub(s:St):St:={T:=s.T,H:=s.H,n0:=s.H.length,tch:=[],fg:=[],marks:=[],er:=[]}
def St.outer(s s1:St):St:={T:=s1.T,H:=s1.H,n0:=s.n0,tch:=Yt s.n0 s1.tch s.tch,fg:=Yt s.n0 s1.fg s.fg,marks:=[],er:=s1.er++s.er}
def Qbt(a:Act):Nat→Value:=fun t=>a.tmps.getD t undef
theorem Qrn{B:Nat→Value}{nt:Nat}{M:Qc}{ρ:Env}{s:St}{a:Act}{w:World}(hg:Good B nt M ρ s a w)(hm:s.marks=[]):Good (Qbt a) nt M ρ s.sub a w:=
 ⟨hg.tm,hg.sz,hg.mem,(by have:=hg.df;rw[hm]at this;exact this),(fun m h=>by cases h),Nat.le_refl _,fun t _=>rfl⟩
theorem Qn3{B:Nat→Value}{nt:Nat}{M:Qc}{ρ:Env}{s:St}{a:Act}{w:World}(hg:Good B nt M ρ s a w)(D ids mv:List Nat):Qjt D ids mv s M ρ s.H a w:=
 ⟨rfl,fun t y _ hy=>(hg.tm t y hy).forget M.le_refl (fun _ _ _ h=>h),fun i o _ ho=>⟨(hg.mem.own i o ho).forget M.le_refl (fun _ _ _ h=>h) rfl (fun _ _ _ _=>rfl),fun hl=>⟨o,ho,hl⟩⟩,fun i o _ ho hl=>⟨o,ho,hl⟩⟩
theorem Qqu{B:Nat→Value}{nt:Nat}{M M':Qc}{ρ ρ':Env}{s s1:St}{a a':Act}{w w':World}{ids mv:List Nat}(hg:Good B nt M ρ s a w)(hm:s.marks=[])(h1:Good (Qbt a) nt M' ρ' s1 a' w')
  (hf:Fr M ρ s.H w M' ρ' s1.H w' s.H.length ids mv) (hn:s1.n0=s.H.length) (ht:s1.tch=ids) (hv:s1.fg=mv) (hk:s1.marks=[]):
  Good B nt M' ρ' (s.outer s1) a' w'∧Z8 M ρ s w M' ρ' (s.outer s1) w':=by
 refine⟨⟨h1.tm,h1.sz,h1.mem,by have:=h1.df;rw[hk]at this;exact this,fun m h=>by(cases h),?_,fun t ht=>?_⟩,?_,rfl,fun x hx=>Qbq hx,fun x hx=>Qbq hx⟩
 ·show s.n0≤s1.H.length;have:=h1.nle;rw[hn]at this;exact Nat.le_trans hg.nle this
 ·have ht':t∉s1.er∧t∉s.er:=by have:t∉s1.er++s.er:=ht;simpa using this
  rw[h1.fix t ht'.1];exact hg.fix t ht'.2
 ·exact hf.weaken hg.nle (fun x hx h=>Qb6 hx (by rw[ht];exact h)) (fun x hx h=>Qb6 hx (by rw[hv];exact h))
theorem Zf9{R:Option Nat}{P:Program}{nt:Nat}{c:Code}{Q:Exit→St→Prop}{s:St}{f:Yn}{l:Yw}{x:Zj l}(hm:s.marks=[])(hf:f.ok=true)(hl:Vu f l=true)
  (h:Q9 R P nt c (fun e s'=>Wy f s.H.length l e s'=some x) s.sub) (hq:Q (Xh f s l x).1 (s.outer (Xh f s l x).2)):Q9 R P nt c Q s:=by
 intro B M ρ a w hg;refine wpIn_mono (h (Qbt a) M ρ a w (Qrn hg hm)) ?_
 rintro e a' w' ⟨M',ρ',s',hr,g,go⟩
 obtain⟨τ,z,h1,h2,h3⟩:=Qif (b:=s) hl hr;obtain⟨r1,c,hc,r2⟩:=Qa4 h2;obtain⟨M'',ρ'',g1,g2,_⟩:=K6 (b:=s) (H0:=s.H) (M0:=M) (ρ0:=ρ) (a0:=a) (w0:=w) (fun _ _=>rfl) (Qn3 hg _ _ _) hg.mem g go.fr (Qbc hf) h1 r1 r2 hc;obtain⟨e1,e2,e3,e4,e5⟩:=Qi.Qei τ f.D (f.of τ) f.mv s z;obtain⟨k1,k2⟩:=Qqu hg hm g1 g2 e1 e2 e3 e4;rw[h3]at hq;exact⟨M'',ρ'',_,hq,k1,k2⟩
def Qu{σ β:Type}(step:σ→Option (σ ⊕ β)):Nat→σ→Option β
 |0,_=>none
 |n+1,x=>match step x with
  |none=>none
  |some (.inl y)=>Qu step n y
  |some (.inr b)=>some b
def Qgt(f:Yn)(n:Nat)(τ:Qi)(l:Yw)(e:Exit)(s:St):Option (τ.El ⊕ Zj l):=match e with
 |.normal=>match J7 τ f n s with
  |some x=>some (.inl x)
  |none=>none
 |e=>match Wy f n l e s with
  |some x=>some (.inr x)
  |none=>none
theorem Zk7{R:Option Nat}{P:Program}{nt:Nat}{c:Code}{Q:Exit→St→Prop}{s:St}{f:Yn}{τ:Qi}{l:Yw}{F:Nat}{x0:τ.El}{y:Zj l}{step:τ.El→Option (τ.El ⊕ Zj l)}
  (hm:s.marks=[]) (hf:f.ok=true) (hl:Vu f l=true) (hτ:τ.J1 (f.of τ)=true)
  (hstep:∀x r,step x=some r→Q9 R P nt c (fun e s'=>Qgt f s.H.length τ l e s'=some r) (τ.st f.D (f.of τ) f.mv s x))
  (h0:J7 τ f s.H.length s.sub=some x0) (hrun:Qu step F x0=some y) (hne:(Xh f s l y).1≠.normal) (hq:Q (Xh f s l y).1 (s.outer (Xh f s l y).2)):Q9 R P nt (.loop c) Q s:=by
 intro B M ρ a w hg;have gs:=Qrn hg hm;have hbase:=fun ids=>Qn3 hg f.D ids f.mv;let J:Nat→Act→World→Prop:=fun n a' w'=>∃M' ρ' x,Qu step n x=some y∧Good (Qbt a) nt M' ρ' (τ.st f.D (f.of τ) f.mv s x) a' w'∧Fr M ρ s.H w M' ρ' (τ.st f.D (f.of τ) f.mv s x).H w' s.H.length (f.of τ) f.mv;refine wpIn_loop (fun a w=>∃n,J n a w) (fun a w=>leastOf (fun n=>J n a w)) ?_ ?_
 ·obtain⟨r1,c',hc,r2⟩:=Qa4 h0;obtain⟨M'',ρ'',g1,g2,_⟩:=K6 (b:=s) (H0:=s.H) (M0:=M) (ρ0:=ρ) (a0:=a) (w0:=w) (fun _ _=>rfl) (hbase _) hg.mem gs (Fr.refl ..) (Qbc hf) hτ r1 r2 hc;exact⟨F,M'',ρ'',x0,hrun,g1,g2⟩
 ·intro a1 w1 hI;obtain⟨hJ,hmin⟩:=leastOf_spec hI;obtain⟨M1,ρ1,x,hx,g1,f1⟩:=hJ;generalize hn:leastOf (fun n=>J n a1 w1)=n at hx hmin;cases n with
  |zero=>cases hx
  |succ n=>
   simp only[Qu]at hx;cases hs:step x with
   |none=>simp only[hs]at hx;cases hx
   |some r=>
    refine wpIn_mono (hstep x r hs (Qbt a) M1 ρ1 a1 w1 g1) ?_
    rintro e a2 w2 ⟨M2,ρ2,s2,hk,g2,go2⟩
    obtain⟨e1,e2,e3,e4,e5⟩:=Qi.Qei τ f.D (f.of τ) f.mv s x;have f2:Fr M ρ s.H w M2 ρ2 s2.H w2 s.H.length s2.tch s2.fg:=by have hfr:=go2.fr;rw[e1]at hfr;exact f1.trans hfr (fun z hz=>go2.tch z (by rw[e2];exact hz)) (fun z hz=>hz) (fun z hz=>go2.fg z (by rw[e3];exact hz)) (fun z hz=>hz)
    unfold Qgt at hk;cases e with
    |normal=>
     simp only at hk;split at hk
     ·rename_i z hz;cases hk;simp only[hs]at hx;obtain⟨r1,c',hc,r2⟩:=Qa4 hz;obtain⟨M'',ρ'',k1,k2,_⟩:=K6 (b:=s) (H0:=s.H) (M0:=M) (ρ0:=ρ) (a0:=a) (w0:=w) (fun _ _=>rfl) (hbase _) hg.mem g2 f2 (Qbc hf) hτ r1 r2 hc;have hx':J n a2 w2:=⟨M'',ρ'',z,hx,k1,k2⟩;show(∃n,J n a2 w2)∧leastOf (fun n=>J n a2 w2)<n+1;exact⟨⟨n,hx'⟩,Nat.lt_succ_of_le ((leastOf_spec ⟨n,hx'⟩).2 n hx')⟩
     ·cases hk
    |_=>
     simp only at hk;split at hk
     ·rename_i z hz;cases hk;simp only[hs,Option.some.injEq]at hx;subst hx;obtain⟨τ',z',h1,h2,h3⟩:=Qif (b:=s) hl hz;obtain⟨r1,c',hc,r2⟩:=Qa4 h2;obtain⟨M'',ρ'',k1,k2,_⟩:=K6 (b:=s) (H0:=s.H) (M0:=M) (ρ0:=ρ) (a0:=a) (w0:=w) (fun _ _=>rfl) (hbase _) hg.mem g2 f2 (Qbc hf) h1 r1 r2 hc;obtain⟨q1,q2,q3,q4,q5⟩:=Qi.Qei τ' f.D (f.of τ') f.mv s z';obtain⟨m1,m2⟩:=Qqu hg hm k1 k2 q1 q2 q3 q4;rw[h3]at hq;exact⟨M'',ρ'',_,hq,m1,m2⟩
     ·cases hk
def Qge(s:St)(slot ty:Nat)(row:List Ty):St:=
 {T:=s.T.set slot (.sl s.H.length row.length 0 0),H:=s.H++[.tvec ty row []],n0:=s.n0,tch:=s.tch,fg:=s.fg,marks:=s.marks,er:=s.er}
theorem Zuo{R:Option Nat}{P:Program}{nt:Nat}{c:Code}{Q:Exit→St→Prop}{s:St}{slot ty:Nat}{row:List Ty}{v:Value}(hs:s.T.get slot=some (.lit v))(hv:Value.isNil v=true)
  (h:Q9 R P nt c Q (Qge s slot ty row)):Q9 R P nt c Q s:=by
 refine Q9.Qej (fun B M ρ a w hg=>⟨ρ,?_,?_⟩) h
 ·obtain⟨m1,m2⟩:=hg.mem.virt (ty:=ty) (sz:=row.length);refine⟨fun t y hy=>?_,hg.sz,?_,hg.df,hg.mks,by show s.n0≤(s.H++[Qa.tvec ty row []]).length;have:=hg.nle;simp;omega,hg.fix⟩
  ·rcases TT.Wh _ _ _ _ _ hy with⟨rfl,rfl⟩|⟨_,hy⟩
   ·have:=(hg.tm _ _ hs).Q7;rw[this];unfold Value.isNil at hv;split at hv
    ·simp only[Bool.and_eq_true]at hv;rw[Nat.eq_of_beq_eq_true hv.1,Nat.eq_of_beq_eq_true hv.2];exact .slz _ _ _ _
    ·cases hv
   ·exact hg.tm t y hy
  ·have:=m1.described (s:=s.H.length) (o:=.vec ty row.length []) (o':=.tvec ty row []) (by simp) rfl (fun h=>h);simpa[Qge]using this
 ·obtain⟨m1,m2⟩:=hg.mem.virt (ty:=ty) (sz:=row.length);have m3:=m2.described (s:=s.H.length) (o:=.vec ty row.length []) (o':=.tvec ty row []) (by simp) rfl;refine⟨?_,rfl,fun _ h=>h,fun _ h=>h⟩;have m4:=m3.weaken (n':=s.n0) (t':=s.tch) (f':=s.fg) hg.nle (fun x _ h=>by cases h) (fun x _ h=>by cases h);simpa[Qge]using m4
def Um(F:Fence)(n:Nat)(P:Program)(c:Code)(Q:Exit→Act→World→Prop)(a:Act)(w:World):Prop:=
 ∀(b:Frame) (k:List Item) (cs:List Frame),b.roundOf=F.round→F.fn b.fn→F.room (cs.length+1+n)→
  ∃e a' w',Q e a' w'∧ArrivesIn (Machine.fenced P F) P (lone (b.atR a (.code c::.inLoop c::k)) cs w) b k cs e a' w'
theorem Um.wp{F:Fence}{n:Nat}{P:Program}{c:Code}{Q:Exit→Act→World→Prop}{a:Act}{w:World}(h:Um F n P c Q a w):(Code.loop c).wpIn F n P Q a w:=by intro b k cs hro hb hr;obtain⟨e,a',w',hq,harr⟩:=h b k cs hro hb hr;exact⟨e,a',w',hq,.of_steps (.one (fenced_calm hb hr rfl) stepR_loop) harr⟩
theorem Um.mono{F:Fence}{n:Nat}{P:Program}{c:Code}{Q Q':Exit→Act→World→Prop}{a:Act}{w:World}(h:Um F n P c Q a w)(hq:∀e a w,Q e a w→Q' e a w):Um F n P c Q' a w:=
 fun b k cs hro hb hr=>let⟨e,a',w',q,r⟩:=h b k cs hro hb hr;⟨e,a',w',hq _ _ _ q,r⟩
theorem Zsx{F:Fence}{n:Nat}{P:Program}{c:Code}{Q:Exit→Act→World→Prop}{a:Act}{w:World}(I:Act→World→Prop)(μ:Act→World→Nat)(h₀:I a w)
  (round:∀a w,I a w→c.wpIn F n P (Exit.then (fun a' w'=>(I a' w'∧μ a' w'<μ a w)∨Um F n P c Q a' w') Q) a w):Um F n P c Q a w:=by
 intro b k cs hro hb hr;have key:∀j a w,μ a w=j→I a w→
   ∃e a' w',Q e a' w'∧ArrivesIn (Machine.fenced P F) P (lone (b.atR a (.code c::.inLoop c::k)) cs w) b k cs e a' w':=by
  intro j;induction j using Nat.strongRecOn with
  |_ j ih=>
   intro a w hn hI;obtain⟨e,a₁,w₁,hq,harr⟩:=round a w hI b (.inLoop c::k) cs hro hb hr;cases e with
   |normal=>
    rcases hq with⟨hI₁,hlt⟩|hL
    ·obtain⟨e₂,a₂,w₂,hq₂,harr₂⟩:=ih (μ a₁ w₁) (hn▸hlt) a₁ w₁ rfl hI₁;exact⟨e₂,a₂,w₂,hq₂,.of_steps (StepsIn.trans harr (.one (fenced_calm hb hr rfl) stepR_inLoop)) harr₂⟩
    ·obtain⟨e₂,a₂,w₂,hq₂,harr₂⟩:=hL b k cs hro hb hr;exact⟨e₂,a₂,w₂,hq₂,.of_steps (StepsIn.trans harr (.one (fenced_calm hb hr rfl) stepR_inLoop)) harr₂⟩
   |exit id=>exact⟨_,a₁,w₁,hq,.pass (x:=.inLoop c) rfl (fun _ _=>.inl (by simp)) harr⟩
   |goto l=>exact⟨_,a₁,w₁,hq,.pass (x:=.inLoop c) rfl (fun _ _=>.inl (by simp)) harr⟩
   |ret=>exact⟨_,a₁,w₁,hq,.pass (x:=.inLoop c) rfl (fun _ _=>.inl (by simp)) harr⟩
   |panic ch=>exact⟨_,a₁,w₁,hq,.pass (x:=.inLoop c) rfl (fun _ _=>.inl (by simp)) harr⟩
   |outgrown=>exact⟨_,a₁,w₁,hq,.pass (x:=.inLoop c) rfl (fun _ _=>.inl (by simp)) harr⟩
 exact key _ a w rfl h₀
def Qcr(R:Option Nat)(P:Program)(nt:Nat)(c:Code)(Q:Exit→St→Prop)(s:St):Prop:=
 ∀B M ρ a w,Good B nt M ρ s a w→Um (FW R) 0 P c (fun e a' w'=>∃M' ρ' s',Q e s'∧Good B nt M' ρ' s' a' w'∧Z8 M ρ s w M' ρ' s' w') a w
theorem Qcr.wp{R:Option Nat}{P:Program}{nt:Nat}{c:Code}{Q:Exit→St→Prop}{s:St}(h:Qcr R P nt c Q s):Q9 R P nt (.loop c) Q s:=fun B M ρ a w hg=>(h B M ρ a w hg).wp
def Qp5(f:Yn)(n:Nat)(τ:Qi)(l:Yw)(e:Exit)(s:St):Option (τ.El ⊕ Zj l):=match e with
 |.normal=>match J7 τ f n s with
  |some x=>some (.inl x)
  |none=>match Wy f n l .normal s with
   |some x=>some (.inr x)
   |none=>none
 |e=>match Wy f n l e s with
  |some x=>some (.inr x)
  |none=>none
theorem Ziy{f:Yn}{n:Nat}{τ:Qi}{l:Yw}{e:Exit}{s:St}{r:τ.El ⊕ Zj l}(h:Qp5 f n τ l e s=some r):(∃x,r=.inl x∧e=.normal∧J7 τ f n s=some x)∨∃z,r=.inr z∧Wy f n l e s=some z:=by
 unfold Qp5 at h;cases e with
 |normal=>
  simp only at h;split at h
  ·rename_i x hx;cases h;exact .inl ⟨x,rfl,rfl,hx⟩
  ·split at h
   ·rename_i z hz;cases h;exact .inr ⟨z,rfl,hz⟩
   ·cases h
 |_=>
  simp only at h;split at h
  ·rename_i z hz;cases h;exact .inr ⟨z,rfl,hz⟩
  ·cases h
theorem Zhd{f:Yn}{n:Nat}{τ:Qi}{l:Yw}{e:Exit}{s:St}{r:τ.El ⊕ Zj l}(h:Qgt f n τ l e s=some r):(∃x,r=.inl x∧e=.normal∧J7 τ f n s=some x)∨∃z,r=.inr z∧Wy f n l e s=some z:=by
 unfold Qgt at h;cases e with
 |normal=>
  simp only at h;split at h
  ·rename_i x hx;cases h;exact .inl ⟨x,rfl,rfl,hx⟩
  ·cases h
 |_=>
  simp only at h;split at h
  ·rename_i z hz;cases h;exact .inr ⟨z,rfl,hz⟩
  ·cases h
theorem Qzn{R:Option Nat}{P:Program}{nt:Nat}{c:Code}{Q:Exit→St→Prop}{s:St}{f:Yn}{τ:Qi}{l:Yw}{F:Nat}{x0:τ.El}{y:Zj l}{step:τ.El→Option (τ.El ⊕ Zj l)}{rk:Exit→St→Option (τ.El ⊕ Zj l)}
  (hrk:∀e s' r,rk e s'=some r→(∃x,r=.inl x∧e=.normal∧J7 τ f s.H.length s'=some x)∨∃z,r=.inr z∧Wy f s.H.length l e s'=some z)
  (hm:s.marks=[]) (hf:f.ok=true) (hl:Vu f l=true) (hτ:τ.J1 (f.of τ)=true)
  (hstep:∀x r,step x=some r→Q9 R P nt c (fun e s'=>rk e s'=some r) (τ.st f.D (f.of τ) f.mv s x))
  (h0:J7 τ f s.H.length s.sub=some x0) (hrun:Qu step F x0=some y)
  (hn:(Xh f s l y).1=.normal→Qcr R P nt c Q (s.outer (Xh f s l y).2)) (hq:(Xh f s l y).1≠.normal→Q (Xh f s l y).1 (s.outer (Xh f s l y).2)):Qcr R P nt c Q s:=by
 intro B M ρ a w hg;have gs:=Qrn hg hm;have hbase:=fun ids=>Qn3 hg f.D ids f.mv;let J:Nat→Act→World→Prop:=fun n a' w'=>∃M' ρ' x,Qu step n x=some y∧Good (Qbt a) nt M' ρ' (τ.st f.D (f.of τ) f.mv s x) a' w'∧Fr M ρ s.H w M' ρ' (τ.st f.D (f.of τ) f.mv s x).H w' s.H.length (f.of τ) f.mv;refine Zsx (fun a w=>∃n,J n a w) (fun a w=>leastOf (fun n=>J n a w)) ?_ ?_
 ·obtain⟨r1,c',hc,r2⟩:=Qa4 h0;obtain⟨M'',ρ'',g1,g2,_⟩:=K6 (b:=s) (H0:=s.H) (M0:=M) (ρ0:=ρ) (a0:=a) (w0:=w) (fun _ _=>rfl) (hbase _) hg.mem gs (Fr.refl ..) (Qbc hf) hτ r1 r2 hc;exact⟨F,M'',ρ'',x0,hrun,g1,g2⟩
 ·intro a1 w1 hI;obtain⟨hJ,hmin⟩:=leastOf_spec hI;obtain⟨M1,ρ1,x,hx,g1,f1⟩:=hJ;generalize hn':leastOf (fun n=>J n a1 w1)=n at hx hmin;cases n with
  |zero=>cases hx
  |succ n=>
   simp only[Qu]at hx;cases hs:step x with
   |none=>simp only[hs]at hx;cases hx
   |some r=>
    refine wpIn_mono (hstep x r hs (Qbt a) M1 ρ1 a1 w1 g1) ?_
    rintro e a2 w2 ⟨M2,ρ2,s2,hk,g2,go2⟩
    obtain⟨e1,e2,e3,e4,e5⟩:=Qi.Qei τ f.D (f.of τ) f.mv s x;have f2:Fr M ρ s.H w M2 ρ2 s2.H w2 s.H.length s2.tch s2.fg:=by have hfr:=go2.fr;rw[e1]at hfr;exact f1.trans hfr (fun z hz=>go2.tch z (by rw[e2];exact hz)) (fun z hz=>hz) (fun z hz=>go2.fg z (by rw[e3];exact hz)) (fun z hz=>hz)
    rcases hrk e s2 r hk with⟨z,rfl,rfl,hz⟩|⟨z,rfl,hz⟩
    ·simp only[hs]at hx;obtain⟨r1,c',hc,r2⟩:=Qa4 hz;obtain⟨M'',ρ'',k1,k2,_⟩:=K6 (b:=s) (H0:=s.H) (M0:=M) (ρ0:=ρ) (a0:=a) (w0:=w) (fun _ _=>rfl) (hbase _) hg.mem g2 f2 (Qbc hf) hτ r1 r2 hc;have hx':J n a2 w2:=⟨M'',ρ'',z,hx,k1,k2⟩;refine .inl ?_;show(∃n,J n a2 w2)∧leastOf (fun n=>J n a2 w2)<n+1;exact⟨⟨n,hx'⟩,Nat.lt_succ_of_le ((leastOf_spec ⟨n,hx'⟩).2 n hx')⟩
    ·simp only[hs,Option.some.injEq]at hx;subst hx;obtain⟨τ',z',h1,h2,h3⟩:=Qif (b:=s) hl hz;obtain⟨r1,c',hc,r2⟩:=Qa4 h2;obtain⟨M'',ρ'',k1,k2,_⟩:=K6 (b:=s) (H0:=s.H) (M0:=M) (ρ0:=ρ) (a0:=a) (w0:=w) (fun _ _=>rfl) (hbase _) hg.mem g2 f2 (Qbc hf) h1 r1 r2 hc;obtain⟨q1,q2,q3,q4,q5⟩:=Qi.Qei τ' f.D (f.of τ') f.mv s z';obtain⟨m1,m2⟩:=Qqu hg hm k1 k2 q1 q2 q3 q4;rw[h3]at hq hn;cases e with
     |normal=>exact .inr ((hn rfl B M'' ρ'' a2 w2 m1).mono fun e a3 w3 ⟨M3,ρ3,s3,q,g,go⟩=>⟨M3,ρ3,s3,q,g,m2.trans go⟩)
     |exit id=>exact⟨M'',ρ'',_,hq (fun h=>nomatch h),m1,m2⟩
     |goto lb=>exact⟨M'',ρ'',_,hq (fun h=>nomatch h),m1,m2⟩
     |ret=>exact⟨M'',ρ'',_,hq (fun h=>nomatch h),m1,m2⟩
     |panic ch=>exact⟨M'',ρ'',_,hq (fun h=>nomatch h),m1,m2⟩
     |outgrown=>exact⟨M'',ρ'',_,hq (fun h=>nomatch h),m1,m2⟩
end Go.Sx
section
namespace Go.Sx
open Go
def TT.all(p:SV→Bool):TT→Bool
 |.nil=>true
 |.node l v r=>l.all p&&((match v with|some x=>p x|none=>true)&&r.all p)
theorem TT.Qmk{p:SV→Bool}:∀{T:TT} {t:Nat} {x:SV},T.all p=true→T.get t=some x→p x=true
 |.nil,t,x,_,h=>by simp[TT.get]at h
 |.node l v r,t,x,ha,h=>by
  simp only[TT.all,Bool.and_eq_true]at ha;simp only[TT.get]at h;cases h0:Nat.beq t 0 with
  |true=>rw[h0]at h;simp only[cond_true]at h;subst h;exact ha.2.1
  |false=>
   rw[h0]at h;simp only[cond_false]at h;cases h1:Nat.beq (t%2) 1 with
   |true=>rw[h1]at h;exact TT.Qmk ha.1 h
   |false=>rw[h1]at h;exact TT.Qmk ha.2.2 h
mutual
def Xe(k:Nat)(row:List Ty)(l:List (Qh row)):SV→SV
 |.sl s sz st n=>match Nat.beq s k with
  |true=>match st with
   |0=>.pv (.tsl row l)
   |_+1=>.any
  |false=>.sl s sz st n
 |.agg x=>.agg (Qb5 k row l x)
 |.tup x=>.tup (Qb5 k row l x)
 |.fn f a b=>.fn f (Qb5 k row l a) (Qb5 k row l b)
 |.ptr s sz i j=>.ptr s sz i j
 |.mp s=>.mp s
 |.yld s=>.yld s
 |.slb _ _ _ _ _=>.any
 |.any=>.any
 |.pv p=>.pv p
def Qb5(k:Nat)(row:List Ty)(l:List (Qh row)):List SV→List SV
 |[]=>[]
 |x::xs=>Xe k row l x::Qb5 k row l xs
end
mutual
def sealC(k:Nat)(row:List Ty)(l:List (Qh row)):SV→Bool
 |.sl s sz st n=>match Nat.beq s k with
  |true=>match st with
   |0=>Nat.beq sz row.length&&decide (n=l.length)
   |_+1=>true
  |false=>true
 |.agg x=>U7 k row l x
 |.tup x=>U7 k row l x
 |.fn f a b=>U7 k row l a&&U7 k row l b
 |_=>true
def U7(k:Nat)(row:List Ty)(l:List (Qh row)):List SV→Bool
 |[]=>true
 |x::xs=>sealC k row l x&&U7 k row l xs
end
theorem Qq3(k:Nat)(row:List Ty)(l:List (Qh row))(xs:List SV):Qb5 k row l xs=xs.map (Xe k row l):=by
 induction xs with
 |nil=>rfl
 |cons x xs ih=>simp only[Qb5,List.map_cons,ih]
theorem Qd6{k:Nat}{row:List Ty}{l:List (Qh row)}:∀{xs:List SV},U7 k row l xs=true→∀(i:Nat) (x:SV),xs[i]? =some x→sealC k row l x=true
 |[],_,i,x,h=>by simp at h
 |y::xs,hc,i,x,h=>by
  simp only[U7,Bool.and_eq_true]at hc;cases i with
  |zero=>simp at h;subst h;exact hc.1
  |succ i=>exact Qd6 hc.2 i x (by simpa using h)
def Qa.W5(k:Nat)(row:List Ty)(l:List (Qh row)):Qa→Qa
 |.mix ty sz rows=>.mix ty sz (rows.map (·.map (Xe k row l)))
 |.tlnk ty row' l' r c x=>.tlnk ty row' l' r c (Xe k row l x)
 |.nest ty ity row' ll q=>.nest ty ity row' ll (q.map fun x=>(x.1,Xe k row l x.2))
 |.map es c=>.map (es.map fun e=>(e.1,Xe k row l e.2.1,e.2.2)) c
 |.loop x=>.loop {x with T:=x.T.map (Xe k row l)}
 |o=>o
def Qa.sealC(k:Nat)(row:List Ty)(l:List (Qh row)):Qa→Bool
 |.mix ty sz rows=>rows.all (U7 k row l)
 |.tlnk _ _ _ _ _ x=>Sx.sealC k row l x
 |.nest _ _ _ _ q=>match q with
  |some x=>Sx.sealC k row l x.2
  |none=>true
 |.map es c=>es.all fun e=>Sx.sealC k row l e.2.1
 |.loop x=>x.T.all (Sx.sealC k row l)
 |_=>true
def oneLive(H:List Qa)(k:Nat)(o:Qa):List Qa:=(H.map fun _=>Qa.dead).set k o
theorem Qb7{H:List Qa}{k s:Nat}{o x:Qa}(h:(oneLive H k o)[s]? =some x):(s=k∧x=o)∨(s≠k∧x=.dead):=by
 unfold oneLive at h;rw[List.getElem?_set]at h;split at h
 ·rename_i e;subst e;split at h
  ·cases h;exact .inl ⟨rfl,rfl⟩
  ·cases h
 ·rename_i e;simp only[List.getElem?_map,Option.map_eq_some_iff]at h;obtain⟨_,_,rfl⟩:=h;exact .inr ⟨fun h=>e h.symm,rfl⟩
theorem Mem.oneLive{M:Qc}{ρ:Env}{H:List Qa}{w:World}(hm:Mem M ρ H w){k:Nat}{o o1:Qa}(hk:H[k]? =some o1)(hl:o1.live=true)(ho:Qt M ρ w k o):Mem M ρ (Sx.oneLive H k o) w:=by
 refine⟨hm.imm,fun s x hx=>?_,fun s x p b hx hlx hp hb=>?_,fun s s' x x' p p' b hx hx' hlx hlx' hp hp' hb hb'=>?_,fun s hs=>hm.fresh s (by simpa[Sx.oneLive]using hs),fun s x p b hx hlx hp hb=>?_⟩
 ·rcases Qb7 hx with⟨rfl,rfl⟩|⟨_,rfl⟩
  ·exact ho
  ·trivial
 ·rcases Qb7 hx with⟨rfl,rfl⟩|⟨_,rfl⟩
  ·exact hm.seps s o1 p b hk hl hp hb
  ·cases hlx
 ·rcases Qb7 hx with⟨rfl,rfl⟩|⟨_,rfl⟩
  ·rcases Qb7 hx' with⟨rfl,rfl⟩|⟨_,rfl⟩
   ·rfl
   ·cases hlx'
  ·cases hlx
 ·rcases Qb7 hx with⟨rfl,rfl⟩|⟨_,rfl⟩
  ·exact hm.lts s o1 p b hk hl hp hb
  ·cases hlx
theorem Zkh{M M':Qc}{ρ:Env}{k:Nat}{row:List Ty}{l:List (Qh row)}(hle:M.le M')(hk:∀v,Qd M ρ v (.sl k row.length 0 l.length)→Zb M' v (.tsl row l)){v:Value}{x:SV}(h:Qd M ρ v x):sealC k row l x=true→Qd M' ρ v (Xe k row l x):=by
 induction h with
 |any v=>intro _;exact .any v
 |pv h=>intro _;exact .pv (h.mono hle)
 |agg cs xs hl _ ih=>intro hc;simp only[sealC]at hc;simp only[Xe,Qq3];refine .agg cs _ (by simpa using hl) fun i v x hv hx=>?_;simp only[List.getElem?_map,Option.map_eq_some_iff]at hx;obtain⟨y,hy,rfl⟩:=hx;exact ih i v y hv hy (Qd6 hc i y hy)
 |tup cs xs hl _ ih=>intro hc;simp only[sealC]at hc;simp only[Xe,Qq3];refine .tup cs _ (by simpa using hl) fun i v x hv hx=>?_;simp only[List.getElem?_map,Option.map_eq_some_iff]at hx;obtain⟨y,hy,rfl⟩:=hx;exact ih i v y hv hy (Qd6 hc i y hy)
 |ptr s sz i j kk p hp hkk=>intro _;exact .ptr s sz i j kk p hp hkk
 |sl s sz st n c kk p hp hkk hc hn h6=>
  intro hcc;simp only[sealC]at hcc;simp only[Xe];split
  ·rename_i e;have e:=Nat.eq_of_beq_eq_true e;subst e;rw[Nat.beq_refl]at hcc;simp only at hcc;cases st with
   |zero=>simp only[Bool.and_eq_true]at hcc;have e1:=Nat.eq_of_beq_eq_true hcc.1;have e2:=of_decide_eq_true hcc.2;subst e1;subst e2;exact .pv (hk _ (.sl _ _ _ _ c kk p hp hkk hc hn h6))
   |succ st=>exact .any _
  ·exact .sl s sz st n c kk p hp hkk hc hn h6
 |slz s sz st a=>
  intro hcc;simp only[sealC]at hcc;simp only[Xe];split
  ·rename_i e;have e:=Nat.eq_of_beq_eq_true e;subst e;rw[Nat.beq_refl]at hcc;simp only at hcc;cases st with
   |zero=>simp only[Bool.and_eq_true]at hcc;have e1:=Nat.eq_of_beq_eq_true hcc.1;have e2:=of_decide_eq_true hcc.2;subst e1;refine .pv (hk _ ?_);rw[←e2];exact .slz _ _ _ _
   |succ st=>exact .any _
  ·exact .slz s sz st a
 |mp s p hp=>intro _;exact .mp s p hp
 |yld s p hp=>intro _;exact .yld s p hp
 |slb s sz st n m _ _ _=>intro _;exact .any _
 |fn f a b x y ha hb _ _ ih jh=>
  intro hc;simp only[sealC,Bool.and_eq_true]at hc;simp only[Xe,Qq3];refine .fn f a b _ _ (by simpa using ha) (by simpa using hb) (fun i v s hv hs=>?_) (fun i v s hv hs=>?_)
  ·simp only[List.getElem?_map,Option.map_eq_some_iff]at hs;obtain⟨y,hy,rfl⟩:=hs;exact ih i v y hv hy (Qd6 hc.1 i y hy)
  ·simp only[List.getElem?_map,Option.map_eq_some_iff]at hs;obtain⟨y,hy,rfl⟩:=hs;exact jh i v y hv hy (Qd6 hc.2 i y hy)
theorem Qt.W5{M M':Qc}{ρ:Env}{w:World}{k s:Nat}{row:List Ty}{l:List (Qh row)}{o:Qa}(hle:M.le M')(hf:∀v x,Qd M ρ v x→Sx.sealC k row l x=true→Qd M' ρ v (Xe k row l x))(hc:o.sealC k row l=true)(h:Qt M ρ w s o):Qt M' ρ w s (o.W5 k row l):=by
 cases o with
 |mix ty sz rows=>
  simp only[Qa.sealC]at hc;rcases h with⟨h1,h2⟩|⟨p,h1,h2⟩
  ·exact .inl ⟨h1,by simp[h2]⟩
  ·refine .inr ⟨p,h1,?_⟩;obtain⟨cs,a1,a2,a3,a4,a5,a6⟩:=h2.ex;have key:∀i j x,Yq (rows.map (·.map (Xe k row l))) i j=some x→∃y,Yq rows i j=some y∧x=Xe k row l y∧Sx.sealC k row l y=true:=fun i j x hx=>by unfold Yq at hx;simp only[List.getElem?_map,Option.bind_eq_some_iff,Option.map_eq_some_iff]at hx;obtain⟨r',⟨r,hr,rfl⟩,hx⟩:=hx;simp only[List.getElem?_map,Option.map_eq_some_iff]at hx;obtain⟨y,hy,rfl⟩:=hx;exact⟨y,by simp[Yq,hr,hy],rfl,Qd6 (List.all_eq_true.1 hc r (List.mem_of_getElem? hr)) j y hy⟩
   refine⟨cs,a1,a2,by simpa using a3,by simpa using a4,fun i j x v hx hv=>?_,fun i j x hx=>?_⟩
   ·obtain⟨y,hy,rfl,hcy⟩:=key i j x hx;obtain⟨b1,b2,b3⟩:=a5 i j y v hy hv;exact⟨by simpa using b1,b2,hf v y b3 hcy⟩
   ·obtain⟨y,hy,_⟩:=key i j x hx;simpa using a6 i j y hy
 |tlnk ty row' l' r c x=>
  simp only[Qa.sealC]at hc;rcases h with⟨h1,h2⟩|⟨p,h1,h2⟩
  ·exact .inl ⟨h1,h2⟩
  ·refine .inr ⟨p,h1,?_⟩;obtain⟨cs,a1,a2,a3,a4,a5,a6⟩:=h2.ex;refine⟨cs,a1,a2,a3,a4,fun i j z v hz hv=>?_,fun i j z hz=>?_⟩
   ·obtain⟨y,hy,rfl,hcy⟩:=Qjm (f:=Xe k row l) (fun _=>rfl) hz;obtain⟨b1,b2,b3⟩:=a5 i j y v hy hv;refine⟨b1,b2,hf v y b3 ?_⟩;rcases hcy with rfl|⟨p,rfl⟩
    ·exact hc
    ·rfl
   ·obtain⟨y,hy,_⟩:=Qjm (f:=Xe k row l) (fun _=>rfl) hz;exact a6 i j y hy
 |nest ty ity row' ll q=>
  rcases h with⟨h1,h2,h3⟩|⟨p,h1,h2⟩
  ·subst h3;exact .inl ⟨h1,h2,rfl⟩
  refine .inr ⟨p,h1,h2.goes hle rfl rfl rfl (fun _ _=>rfl) (by cases q<;>rfl) fun i x y v e1 e2 hr=>?_⟩;rw[e1]at e2;simp only[Option.map_some,Option.some.injEq,Prod.mk.injEq,true_and]at e2;subst e2;subst e1;exact hf v _ hr hc
 |map es c=>simp only[Qa.sealC]at hc;obtain⟨p,arr,h1,h2,h3,h4⟩:=h;refine⟨p,arr,h1,h2,by simpa using h3,fun i kk x b hi=>?_⟩;simp only[List.getElem?_map,Option.map_eq_some_iff]at hi;obtain⟨e,he,hq⟩:=hi;simp only[Prod.mk.injEq]at hq;obtain⟨rfl,rfl,rfl⟩:=hq;obtain⟨me,m1,m2,m3,m4⟩:=h4 i e.1 e.2.1 e.2.2 he;exact⟨me,m1,m2,m3,hf _ _ m4 (List.all_eq_true.1 hc e (List.mem_of_getElem? he))⟩
 |loop L=>simp only[Qa.sealC]at hc;obtain⟨p,fn,tmps,q,h1,h2,h3,h4⟩:=h;refine⟨p,fn,tmps,q,h1,h2,h3,fun t x hx=>?_⟩;rw[TT.get_map,Option.map_eq_some_iff]at hx;obtain⟨y,hy,rfl⟩:=hx;exact hf _ _ (h4 t y hy) (TT.Qmk hc hy)
 |dead=>exact h.mono hle ρ.le_refl rfl fun _ _ _ _=>rfl
 |vec _ _ _=>exact h.mono hle ρ.le_refl rfl fun _ _ _ _=>rfl
 |tvec _ _ _=>exact h.mono hle ρ.le_refl rfl fun _ _ _ _=>rfl
 |tmap _ _ _=>exact h.mono hle ρ.le_refl rfl fun _ _ _ _=>rfl
 |iter _ _=>exact h.mono hle ρ.le_refl rfl fun _ _ _ _=>rfl
 |over _ _=>exact h.mono hle ρ.le_refl rfl fun _ _ _ _=>rfl
 |mit _ _ _=>exact h.mono hle ρ.le_refl rfl fun _ _ _ _=>rfl
 |dfr _=>exact h.mono hle ρ.le_refl rfl fun _ _ _ _=>rfl
theorem Qhm(k:Nat)(row:List Ty)(l:List (Qh row))(o:Qa):(o.W5 k row l).live=o.live:=by cases o<;>rfl
def Zhg(k ty:Nat)(row:List Ty)(H:List Qa):Option (Bool×List (Qh row)):=(Ql.vec k ty row).get .nil H H.length
def Qki(k ty:Nat)(row:List Ty)(s:St):Option (Bool×St):=match Zhg k ty row s.H with
 |none=>none
 | some a=>some (a.1 && (s.T.all (sealC k row a.2) && s.H.all (Qa.sealC k row a.2)),
   {T:=s.T.map (Xe k row a.2),H:=(s.H.map (Qa.W5 k row a.2)).set k .dead,n0:=s.n0,tch:=Yt s.n0 [k] s.tch,fg:=s.fg,marks:=s.marks,er:=s.er})
theorem Zdo{M:Qc}{ρ:Env}{H:List Qa}{w:World}:M.sealing ρ H H.length w=M:=by
 funext b;unfold Qc.sealing;cases M b with
 |some o=>rfl
 |none=>
  simp only;rw[if_neg]
  rintro ⟨s,o,p,h1,h2,_⟩
  have:=(List.getElem?_eq_some_iff.1 h2).1;omega
theorem Qyd{M:Qc}{ρ:Env}{H:List Qa}{w:World}(hm:Mem M ρ H w):ρ.cut H.length=ρ:=by
 funext s;unfold Env.cut;split
 ·rfl
 ·rename_i h;exact(hm.fresh s (by omega)).symm
theorem Zee{R:Option Nat}{P:Program}{nt:Nat}{c:Code}{Q:Exit→St→Prop}{s s':St}{k ty:Nat}{row:List Ty}{cc:Bool}(hs:Qki k ty row s=some (cc,s'))(hc:cc=true)
  (h:Q9 R P nt c Q s'):Q9 R P nt c Q s:=by
 unfold Qki at hs;split at hs
 ·cases hs
 ·rename_i a ha;cases hs;obtain⟨c1,l⟩:=a;simp only[Bool.and_eq_true]at hc;obtain⟨hc1,hc2,hc3⟩:=hc;intro B M ρ act w hg;have hm:=hg.mem;have ha:(Ql.vec k ty row).get .nil s.H s.H.length=some (c1,l):=ha;obtain⟨o,ho,hl,hlen⟩:=Ql.Qr8 (H1:=[]) ha hc1 rfl;have hks:k<s.H.length:=(List.getElem?_eq_some_iff.1 ho).1;have hown:=Ql.Zcg (H1:=[]) hm ha hc1 rfl hks (fun q hq=>by cases hq);rw[Zdo,Qyd hm]at hown;have hown:Qt M ρ w k (.tvec ty row l):=hown;have hm1:=Mem.oneLive hm ho hl hown;have hle:=Qc.X6 M ρ (Sx.oneLive s.H k (.tvec ty row l)) 0 w;have hget:(Sx.oneLive s.H k (.tvec ty row l))[k]? =some (.tvec ty row l):=by simp[Sx.oneLive,hks]
  have hnew:∀b ob,M b=none→M.sealing ρ (Sx.oneLive s.H k (.tvec ty row l)) 0 w b=some ob→(∃p,ρ k=some p∧p.block=b)∧w.heap[b]? =some ob:=fun b ob h0 h1=>by
   obtain⟨⟨s2,o2,p2,q1,q2,q3,q4,q5⟩,q6⟩:=Qc.Wj h0 h1;rcases Qb7 q2 with⟨rfl,rfl⟩|⟨_,rfl⟩
   ·exact⟨⟨p2,q4,q5⟩,q6⟩
   ·cases q3
  have hslice:∀v,Qd M ρ v (.sl k row.length 0 l.length)→Zb (M.sealing ρ (Sx.oneLive s.H k (.tvec ty row l)) 0 w) v (.tsl row l):=fun v hr=>by
   refine Qf8 hm1 (Nat.zero_le _) hget rfl rfl (by simp[Qa.len]) rfl (fun i y hy=>?_) hr;have:(Qa.tvec ty row l).row (0+i)=(Za row y).map .pv:=by simp only[Qa.row,List.getD,Nat.zero_add,hy,Option.getD_some]
   rw[this];exact .self hle y
  have hf:∀v x,Qd M ρ v x→Sx.sealC k row l x=true→Qd (M.sealing ρ (Sx.oneLive s.H k (.tvec ty row l)) 0 w) ρ v (Xe k row l x):=fun v x h hc=>Zkh hle hslice h hc;generalize hM2:M.sealing ρ (Sx.oneLive s.H k (.tvec ty row l)) 0 w=M2 at hle hnew hslice hf;have hobj:∀t x,((s.H.map (Qa.W5 k row l)).set k .dead)[t]? =some x→(t=k∧x=.dead)∨(t≠k∧∃y,s.H[t]? =some y∧x=y.W5 k row l):=fun t x hx=>by
   rw[List.getElem?_set]at hx;split at hx
   ·rename_i e;subst e;split at hx
    ·cases hx;exact .inl ⟨rfl,rfl⟩
    ·cases hx
   ·rename_i e;simp only[List.getElem?_map,Option.map_eq_some_iff]at hx;obtain⟨y,hy,rfl⟩:=hx;exact .inr ⟨fun h=>e h.symm,y,hy,rfl⟩
  have hmem2:Mem M2 ρ ((s.H.map (Qa.W5 k row l)).set k .dead) w:=by
   refine⟨fun b ob hb=>?_,fun t x hx=>?_,fun t x p b hx hlx hp hb=>?_,fun t t' x x' p p' b hx hx' hlx hlx' hp hp' hbk hbk'=>?_,fun t ht=>hm.fresh t (by simpa using ht),fun t x p b hx hlx hp hb=>?_⟩
   ·cases e:M b with
    |some o'=>rw[hle b o' e]at hb;cases hb;exact hm.imm b _ e
    |none=>exact(hnew b ob e hb).2
   ·rcases hobj t x hx with⟨rfl,rfl⟩|⟨_,y,hy,rfl⟩
    ·trivial
    ·exact(hm.own t y hy).W5 hle hf (List.all_eq_true.1 hc3 y (List.mem_of_getElem? hy))
   ·rcases hobj t x hx with⟨rfl,rfl⟩|⟨hne,y,hy,rfl⟩
    ·cases hlx
    ·rw[Qhm]at hlx;have h0:=hm.seps t y p b hy hlx hp hb;cases e:M2 b with
     |none=>rfl
     |some ob=>obtain⟨⟨p2,q1,q2⟩,_⟩:=hnew _ _ h0 e;exact absurd (hm.diss t k y o p p2 b hy ho hlx hl hp q1 hb (.inl q2)) hne
   ·rcases hobj t x hx with⟨rfl,rfl⟩|⟨_,y,hy,rfl⟩
    ·cases hlx
    ·rcases hobj t' x' hx' with⟨rfl,rfl⟩|⟨_,y',hy',rfl⟩
     ·cases hlx'
     ·rw[Qhm]at hlx hlx';exact hm.diss t t' y y' p p' b hy hy' hlx hlx' hp hp' hbk hbk'
   ·rcases hobj t x hx with⟨rfl,rfl⟩|⟨hne,y,hy,rfl⟩
    ·cases hlx
    ·rw[Qhm]at hlx;exact hm.lts t y p b hy hlx hp hb
  have hgood:Good B nt M2 ρ {T:=s.T.map (Xe k row l),H:=(s.H.map (Qa.W5 k row l)).set k .dead,n0:=s.n0,tch:=Yt s.n0 [k] s.tch,fg:=s.fg,marks:=s.marks,er:=s.er} act w:=by refine⟨fun t x hx=>?_,hg.sz,hmem2,hg.df,hg.mks,by simpa using hg.nle,hg.fix⟩;rw[TT.get_map,Option.map_eq_some_iff]at hx;obtain⟨y,hy,rfl⟩:=hx;exact hf _ _ (hg.tm t y hy) (TT.Qmk hc2 hy)
  have hgoes:Z8 M ρ s w M2 ρ {T:=s.T.map (Xe k row l),H:=(s.H.map (Qa.W5 k row l)).set k .dead,n0:=s.n0,tch:=Yt s.n0 [k] s.tch,fg:=s.fg,marks:=s.marks,er:=s.er} w:=by
   refine⟨⟨hle,fun b ob h0 h1=>?_,fun b hb=>?_,fun _ _ _=>rfl,Nat.le_refl _,fun t x ht hx hx2 hlx=>?_,fun _ _ _=>rfl,rfl,rfl⟩,rfl,fun x hx=>(show x∈Yt s.n0 [k] s.tch from Qbq hx),fun _ h=>h⟩
   ·obtain⟨⟨p,q1,q2⟩,_⟩:=hnew b ob h0 h1;exact .inr ⟨k,o,p,ho,hl,q1,.inl q2⟩
   ·obtain⟨t,x,p,h1,h2,h3,h4⟩:=hb;rcases hobj t x h1 with⟨rfl,rfl⟩|⟨_,y,hy,rfl⟩
    ·cases h2
    ·rw[Qhm]at h2;exact .inr ⟨t,y,p,hy,h2,h3,h4⟩
   ·have hne:t≠k:=fun e=>by subst e;exact hx (Qb6 ht List.mem_cons_self)
    refine⟨⟨x.W5 k row l,?_,by rw[Qhm];exact hlx⟩,fun p hp=>⟨hp,fun _ _=>rfl⟩⟩;show((s.H.map (Qa.W5 k row l)).set k .dead)[t]? =_;rw[List.getElem?_set,if_neg (fun h=>hne h.symm),List.getElem?_map,hx2];rfl
  exact wpIn_mono (h B M2 ρ act w hgood) fun e a' w' ⟨M',ρ',s'',q,g,kk⟩=>⟨M',ρ',s'',q,g,hgoes.trans kk⟩
def Qji(s:St)(ob col ty:Nat)(row:List Ty):Option St:=match s.H[ob]? with
 |none=>none
 |some o=>match V9 o with
  |none=>none
  |some q=>match Nat.beq q.2.2.length q.2.1 with
   |false=>none
   |true=>match q.2.2[col]? with
    |some (.pv (.lit v))=>match Value.isNil v with
     |true=>some {T:=s.T,H:=(s.H.set ob (.mix q.1 q.2.1 [q.2.2.set col (.sl s.H.length row.length 0 0)]))++[.tvec ty row []],n0:=s.n0,tch:=s.tch,fg:=s.fg,marks:=s.marks,er:=s.er}
     |false=>none
    |_=>none
theorem Zya{R:Option Nat}{P:Program}{nt:Nat}{c:Code}{Q:Exit→St→Prop}{s s':St}{ob col ty:Nat}{row:List Ty}(hs:Qji s ob col ty row=some s')
  (h:Q9 R P nt c Q s'):Q9 R P nt c Q s:=by
 unfold Qji at hs;split at hs
 ·cases hs
 ·rename_i o ho;split at hs
  ·cases hs
  ·rename_i q hq;split at hs
   ·cases hs
   ·rename_i hl;have hl:=Nat.eq_of_beq_eq_true hl;split at hs
    ·rename_i v hv;split at hs
     ·rename_i hn;cases hs;obtain⟨oty,sz,r⟩:=q;have hlt:ob<s.H.length:=(List.getElem?_eq_some_iff.1 ho).1;refine Q9.Qej (fun B M ρ a w hg=>⟨ρ,?_,?_⟩) h
      all_goals
       obtain⟨g1,g2,g3,g4⟩:=Qg4 (M:=M) (ρ:=ρ) (w:=w) (s:=ob) hq;obtain⟨m1,m2⟩:=hg.mem.virt (ty:=ty) (sz:=row.length);have n1:=m1.described (s:=s.H.length) (o:=.vec ty row.length []) (o':=.tvec ty row []) (by simp) rfl (fun h=>h);have n2:=m2.described (s:=s.H.length) (o:=.vec ty row.length []) (o':=.tvec ty row []) (by simp) rfl;have e1:(s.H++[Qa.vec ty row.length []]).set s.H.length (.tvec ty row [])=s.H++[.tvec ty row []]:=by simp
       rw[e1]at n1 n2;have hob:(s.H++[Qa.tvec ty row []])[ob]? =some o:=by rw[List.getElem?_append_left hlt];exact ho
       have hown:Qt M ρ w ob o→Qt M ρ w ob (.mix oty sz [r.set col (.sl s.H.length row.length 0 0)]):=fun h0=>by
        refine Qt.Zco rfl (by simpa using hl) (fun j y hy=>?_) (g4 h0);rw[List.getElem?_set]at hy;split at hy
        ·rename_i e;subst e;split at hy
         ·cases hy;refine .inr ⟨_,hv,fun u hu=>?_⟩;have:=hu.Q7;subst this;unfold Value.isNil at hn;split at hn
          ·simp only[Bool.and_eq_true]at hn;rw[Nat.eq_of_beq_eq_true hn.1,Nat.eq_of_beq_eq_true hn.2];exact .slz _ _ _ _
          ·cases hn
         ·cases hy
        ·exact .inr ⟨y,hy,fun u hu=>hu⟩
       have e2:(s.H++[Qa.tvec ty row []]).set ob (.mix oty sz [r.set col (.sl s.H.length row.length 0 0)])=(s.H.set ob (.mix oty sz [r.set col (.sl s.H.length row.length 0 0)]))++[.tvec ty row []]:=by rw[List.set_append_left _ _ hlt]
      ·have n3:=n1.described hob (o':=.mix oty sz [r.set col (.sl s.H.length row.length 0 0)]) g1.symm hown;rw[e2]at n3;refine⟨hg.tm,hg.sz,n3,hg.df,hg.mks,?_,hg.fix⟩;show s.n0≤((s.H.set ob (.mix oty sz [r.set col (.sl s.H.length row.length 0 0)]))++[Qa.tvec ty row []]).length;have:=hg.nle;simp;omega
      ·have n3:=n2.described hob (o':=.mix oty sz [r.set col (.sl s.H.length row.length 0 0)]) g1.symm;rw[e2]at n3;exact⟨n3.weaken (n':=s.n0) (t':=s.tch) (f':=s.fg) hg.nle (fun x _ h=>by cases h) (fun x _ h=>by cases h),rfl,fun _ h=>h,fun _ h=>h⟩
     ·cases hs
    ·cases hs
def Qlp(s:St)(t:Nat):Option St:=match s.T.get t with
 |some (.sl d _ _ n)=>match s.H[d]? with
  |some (.tvec ty row l)=>some {T:=s.T,H:=s.H.set d (.tvec ty row (l.take n)),n0:=s.n0,tch:=s.tch,fg:=s.fg,marks:=s.marks,er:=s.er}
  |_=>none
 |_=>none
theorem Zdv{M:Qc}{ρ:Env}{w:World}{d ty:Nat}{row:List Ty}{l:List (Qh row)}(n:Nat)(h:Qt M ρ w d (.tvec ty row l)):Qt M ρ w d (.tvec ty row (l.take n)):=by
 rcases h with⟨h1,h2⟩|⟨p,h1,cs,a1,a2,a3,a4,a5,a6⟩
 ·left;refine⟨h1,?_⟩;have:l=[]:=by simpa[Qp]using h2
  subst this;simp
 ·right;have hle:(Qp row (l.take n)).length≤(Qp row l).length:=by simp;omega
  have sub:∀i j x,Z4 (Qp row (l.take n)) i j=some x→i<(Qp row (l.take n)).length∧Z4 (Qp row l) i j=some x:=fun i j x hx=>by
   unfold Z4 at hx⊢;simp only[List.getElem?_map,List.getElem?_take]at hx⊢;split at hx
   ·rename_i hi;refine⟨?_,hx⟩;cases hl:l[i]? with
    |none=>rw[hl]at hx;simp at hx
    |some y=>have:=(List.getElem?_eq_some_iff.1 hl).1;simp;omega
   ·simp at hx
  refine⟨p,h1,cs,a1,a2,Nat.le_trans (Nat.mul_le_mul_right _ hle) a3,fun i j hi hj=>a4 i j (Nat.lt_of_lt_of_le hi hle) hj,fun i j x v hx hv=>?_,fun i j x hx=>?_⟩
  ·obtain⟨s1,s2⟩:=sub i j x hx;obtain⟨b1,b2,b3⟩:=a5 i j x v s2 hv;exact⟨s1,b2,b3⟩
  ·obtain⟨s1,s2⟩:=sub i j x hx;exact⟨s1,(a6 i j x s2).2⟩
theorem Zku{R:Option Nat}{P:Program}{nt:Nat}{c:Code}{Q:Exit→St→Prop}{s s':St}{t:Nat}(hs:Qlp s t=some s')(h:Q9 R P nt c Q s'):Q9 R P nt c Q s:=by
 unfold Qlp at hs;split at hs
 ·split at hs
  ·rename_i ty row l hd;cases hs;refine Q9.Qej (fun B M ρ a w hg=>⟨ρ,?_,?_⟩) h
   ·exact⟨hg.tm,hg.sz,hg.mem.described hd rfl (fun h=>Zdv _ h),hg.df,hg.mks,by simpa using hg.nle,hg.fix⟩
   ·exact⟨(Fr.refl M ρ s.H w s.n0 s.tch s.fg).described hd rfl,rfl,fun _ h=>h,fun _ h=>h⟩
  ·cases hs
 ·cases hs
def Qmb(T:TT):List Nat→TT→TT
 |[],T'=>T'
 |t::l,T'=>Qmb T l (match T.get t with
  |some x=>T'.set t x
  |none=>T')
def Qh3(k:Nat)(keep:List Nat)(s:St):St:={s with T:=Qmb s.T keep (Vh [k] s.T),H:=s.H.map (Qa.forget [k])}
theorem Qno{T:TT}{P:Nat→SV→Prop}(h0:∀t x,T.get t=some x→P t x):∀(l:List Nat) (T':TT),(∀t x,T'.get t=some x→P t x)→∀t x,(Qmb T l T').get t=some x→P t x
 |[],T',h,t,x,hx=>h t x hx
 |a::l,T',h,t,x,hx=>by
  simp only[Qmb]at hx;split at hx
  ·rename_i y hy;refine Qno h0 l _ (fun t x hx=>?_) t x hx;rcases TT.Wh _ _ _ _ _ hx with⟨rfl,rfl⟩|⟨_,hx⟩
   ·exact h0 _ _ hy
   ·exact h t x hx
  ·exact Qno h0 l _ h t x hx
theorem Znr{R:Option Nat}{P:Program}{nt:Nat}{c:Code}{Q:Exit→St→Prop}{s:St}{k:Nat}{keep:List Nat}(h:Q9 R P nt c Q (Qh3 k keep s)):Q9 R P nt c Q s:=by
 refine Q9.Qej (fun B M ρ a w hg=>⟨ρ,?_,?_⟩) h
 ·refine⟨fun t x hx=>?_,hg.sz,?_,hg.df,hg.mks,by show s.n0≤(s.H.map (Qa.forget [k])).length;rw[List.length_map];exact hg.nle,hg.fix⟩
  ·refine Qno (T:=s.T) (P:=fun t x=>Qd M ρ (a.tmps.getD t undef) x) hg.tm keep _ (fun t x hx=>?_) t x hx;obtain⟨y,hy,hyx⟩:=Qjr hx;have:=(hg.tm t y hy).forget (d:=[k]) M.le_refl (ρ':=ρ) (fun _ _ _ h=>h);rcases hyx with rfl|⟨e,rfl⟩
   ·exact this
   ·cases e
  ·have sub:∀(t:Nat) (x:Qa),(s.H.map (Qa.forget [k]))[t]? =some x→∃y,s.H[t]? =some y∧x=y.forget [k]:=fun t x hx=>by simp only[List.getElem?_map,Option.map_eq_some_iff]at hx;obtain⟨y,hy,rfl⟩:=hx;exact⟨y,hy,rfl⟩
   have hm:=hg.mem;refine⟨hm.imm,fun t x hx=>?_,fun t x p b hx hl hp hb=>?_,fun t t' x x' p p' b hx hx' hl hl' hp hp' hb hb'=>?_,fun t ht=>hm.fresh t (by simpa[Qh3]using ht),fun t x p b hx hl hp hb=>?_⟩
   ·obtain⟨y,hy,rfl⟩:=sub t x hx;exact(hm.own t y hy).forget M.le_refl (fun _ _ _ h=>h) rfl (fun _ _ _ _=>rfl)
   ·obtain⟨y,hy,rfl⟩:=sub t x hx;rw[Ju]at hl;exact hm.seps t y p b hy hl hp hb
   ·obtain⟨y,hy,rfl⟩:=sub t x hx;obtain⟨y',hy',rfl⟩:=sub t' x' hx';rw[Ju]at hl hl';exact hm.diss t t' y y' p p' b hy hy' hl hl' hp hp' hb hb'
   ·obtain⟨y,hy,rfl⟩:=sub t x hx;rw[Ju]at hl;exact hm.lts t y p b hy hl hp hb
 ·refine⟨⟨M.le_refl,fun b o h h'=>(by rw[h]at h';cases h'),fun b hb=>.inr ?_,fun _ _ _=>rfl,Nat.le_refl _,fun t o _ _ ho hl=>⟨⟨o.forget [k],?_,?_⟩,fun p hp=>⟨hp,fun _ _=>rfl⟩⟩,fun _ _ _=>rfl,rfl,rfl⟩,rfl,fun _ h=>h,fun _ h=>h⟩
  ·obtain⟨t,o,p,h1,h2,h3,h4⟩:=hb;have h1:(s.H.map (Qa.forget [k]))[t]? =some o:=h1;simp only[List.getElem?_map,Option.map_eq_some_iff]at h1;obtain⟨y,hy,rfl⟩:=h1;exact⟨t,y,p,hy,by rwa[Ju]at h2,h3,h4⟩
  ·simp[Qh3,ho]
  ·rw[Ju];exact hl
def Ql6(k ty:Nat)(row:List Ty)(s:St):Option St:=match s.H[k]? with
 |some (.vec ty' sz rows)=>match Nat.beq ty' ty&&Nat.beq sz row.length with
  |true=>match X4 (ofRow row) rows with
   |some l=>some {s with H:=s.H.set k (.tvec ty row l)}
   |none=>none
  |false=>none
 |_=>none
theorem Zte{R:Option Nat}{P:Program}{nt:Nat}{c:Code}{Q:Exit→St→Prop}{s s':St}{k ty:Nat}{row:List Ty}(hs:Ql6 k ty row s=some s')(h:Q9 R P nt c Q s'):Q9 R P nt c Q s:=by
 unfold Ql6 at hs;split at hs
 ·rename_i ty' sz rows ho;split at hs
  ·rename_i e;rw[Bool.and_eq_true]at e;have e1:=Nat.eq_of_beq_eq_true e.1;have e2:=Nat.eq_of_beq_eq_true e.2;subst e1;subst e2;split at hs
   ·rename_i l hl;cases hs;have hok:=Xo.of hl;refine Q9.Qej (fun B M ρ a w hg=>⟨ρ,?_,?_⟩) h
    ·refine⟨hg.tm,hg.sz,hg.mem.described ho rfl (fun hh=>hh.Qhr hok.1 hok.2),hg.df,hg.mks,by show s.n0≤(s.H.set k _).length;rw[List.length_set];exact hg.nle,hg.fix⟩
    ·exact⟨(Fr.refl M ρ s.H w s.n0 s.tch s.fg).described ho rfl,rfl,fun _ h=>h,fun _ h=>h⟩
   ·cases hs
  ·cases hs
 ·cases hs
theorem Qt.lnk{M:Qc}{ρ:Env}{w:World}{s ty:Nat}{row:List Ty}{l:List (Qh row)}{r c:Nat}(h:Qt M ρ w s (.tvec ty row l)):Qt M ρ w s (.tlnk ty row l r c .any):=by
 rcases h with h|⟨p,h1,h2⟩
 ·exact .inl h
 ·refine .inr ⟨p,h1,?_⟩;obtain⟨cs,a1,a2,a3,a4,a5,a6⟩:=h2.ex;have key:∀i j x,X0 row l r c .any i j=some x→∃y,Z4 (Qp row l) i j=some y∧(x=.any∨x=y):=fun i j x hx=>by
   unfold X0 at hx;simp only[Option.map_eq_some_iff]at hx;obtain⟨y,hy,rfl⟩:=hx;refine⟨y,hy,?_⟩;split
   ·exact .inl rfl
   ·exact .inr rfl
  refine⟨cs,a1,a2,a3,a4,fun i j x v hx hv=>?_,fun i j x hx=>?_⟩
  ·obtain⟨y,hy,e⟩:=key i j x hx;obtain⟨b1,b2,b3⟩:=a5 i j y v hy hv;refine⟨b1,b2,?_⟩;rcases e with rfl|rfl
   ·exact .any v
   ·exact b3
  ·obtain⟨y,hy,_⟩:=key i j x hx;exact a6 i j y hy
end Go.Sx
end
