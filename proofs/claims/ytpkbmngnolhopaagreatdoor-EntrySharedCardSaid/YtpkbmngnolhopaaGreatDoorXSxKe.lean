/- Part Ke of the own logic: equality of rows of cells; which data may be keys. Part I of the own logic: maps and ranges over strings. And further parts. -/
import Derived.Test.YtpkbmngnolhopaaGreatDoorXSxH
import Derived.Orders
import Derived.IntWalk
import Derived.Maps.RangeRun
set_option linter.unusedVariables false
set_option linter.unusedSimpArgs false
set_option linter.unnecessarySimpa false
namespace Go.Sx
open Go
theorem Qbd{P:Program}{t:TypeId}{i:TI}(h:Y3 P t i)(w:World):(isAgg t).run P w=.ok i.desc.isRow w:=by unfold isAgg;rw[Sem.run_bind,run_underlying h.und w];generalize i.desc=d;cases d<;>simp[TypeDesc.isRow]
def SV.cells?:SV→Option (List SV)
 |.agg l=>some l
 |.pv (.lit (.agg a))=>some (a.toList.map .lit)
 |_=>none
theorem Qct{M:Qc}{ρ:Env}{v:Value}{x:SV}{l:List SV}(h:x.cells? =some l)(hr:Qd M ρ v x):
  ∃cs,v=.agg cs∧cs.size=l.length∧∀(i:Nat) (v:Value) (x:SV),cs[i]? =some v→l[i]? =some x→Qd M ρ v x:=by
 unfold SV.cells? at h;split at h
 ·cases h;cases hr with
  |agg cs _ hl hr=>exact⟨cs,rfl,hl,hr⟩
 ·rename_i a;cases h;have:=hr.Q7;subst this;refine⟨a,rfl,by simp,fun i v x hv hx=>?_⟩;simp only[List.getElem?_map,Option.map_eq_some_iff]at hx;obtain⟨z,hz,rfl⟩:=hx;rw[Array.getElem?_toList,hv]at hz;cases hz;exact .pv (.lit _)
 ·cases h
def partOf(tab:Qk)(t:Nat)(l:List SV)(off:Nat):Option SV:=match tab.lookup t with
 |none=>none
 |some i=>match i.desc.isRow with
  |true=>match Nat.ble (off+i.size) l.length with
   |true=>some (.Y1 ((l.drop off).take i.size))
   |false=>none
  |false=>l[off]?
theorem Qkl{P:Program}{tab:Qk}(htab:Qu P tab){M:Qc}{ρ:Env}(w:World){t off:Nat}{cs:Array Value}{l:List SV}{x:SV}(hl:cs.size=l.length)
  (hr:∀(i:Nat) (v:Value) (x:SV),cs[i]? =some v→l[i]? =some x→Qd M ρ v x) (h:partOf tab t l off=some x):∃v,(part t cs off).run P w=.ok v w∧Qd M ρ v x:=by
 unfold partOf at h;split at h
 ·cases h
 ·rename_i i hi;have ht:=htab.get hi;obtain⟨inf,hinf,i1,_⟩:=ht.inf;split at h
  ·rename_i hd;split at h
   ·rename_i hle;have hle:=Nat.le_of_ble_eq_true hle;cases h;refine⟨.agg (cs.extract off (off+i.size)),by simp[part,Qbd ht,hd,sizeOf,typeInfo,hinf,i1],?_⟩;have:=Qd.Y1 (M:=M) (ρ:=ρ) (cs:=(cs.extract off (off+i.size)).toList) (l:=(l.drop off).take i.size) (by simp;omega) (fun k v x hv hx=>by
     rw[List.getElem?_take]at hx;split at hx
     ·rename_i hk;rw[List.getElem?_drop]at hx;rw[Array.getElem?_toList,Array.getElem?_extract]at hv;split at hv
      ·exact hr _ v x hv hx
      ·cases hv
     ·cases hx)
    rwa[Array.toArray_toList]at this
   ·cases h
  ·rename_i hd;have hlt:off<cs.size:=by have:=(List.getElem?_eq_some_iff.1 h).1;omega
   exact⟨cs[off],by simp[part,Qbd ht,hd,hlt],hr off _ _ (by simp[hlt]) h⟩
def Qaq(d:TypeDesc)(x y:SV):Option Bool:=match d,x,y with
 |.bool,.pv (.lit (.bool a)),.pv (.lit (.bool b))=>some (a==b)
 |.int _,.pv (.lit (.int k a)),.pv (.lit (.int k' b))=>match decide (k=k')with
  |true=>some (decide (a=b))
  |false=>none
 |.string,.pv (.lit (.string a)),.pv (.lit (.string b))=>some (a==b)
 |_,_,_=>none
def V4(eq:Nat→SV→SV→Option Bool)(tab:Qk)(xs ys:List SV):List Field→Option Bool
 |[]=>some true
 |f::fs=>match decide (f.name= "_")with
  |true=>V4 eq tab xs ys fs
  |false=>match partOf tab f.type xs f.offset with
   |none=>none
   |some a=>match partOf tab f.type ys f.offset with
    |none=>none
    |some b=>match eq f.type a b with
     |none=>none
     |some r=>match V4 eq tab xs ys fs with
      |none=>none
      |some r'=>some (r&&r')
def Kt(eq:Nat→SV→SV→Option Bool)(tab:Qk)(xs ys:List SV)(e sz:Nat):Nat→Nat→Option Bool
 |_,0=>some true
 |i,k+1=>match partOf tab e xs (i*sz)with
  |none=>none
  |some a=>match partOf tab e ys (i*sz)with
   |none=>none
   |some b=>match eq e a b with
    |none=>none
    |some r=>match Kt eq tab xs ys e sz (i+1) k with
     |none=>none
     |some r'=>some (r&&r')
def eqV(P:Program)(tab:Qk):Nat→Nat→SV→SV→Option Bool
 |0,_,_,_=>none
 |n+1,t,x,y=>match tab.lookup t with
  |none=>none
  |some i=>match i.desc with
   |.struct fields=>match P.stoodInHeld t with
    |true=>none
    |false=>match x.cells? with
     |none=>none
     |some xs=>match y.cells? with
      |none=>none
      |some ys=>V4 (eqV P tab n) tab xs ys fields.toList
   |.array len e=>match tab.lookup e with
    |none=>none
    |some ie=>match x.cells? with
     |none=>none
     |some xs=>match y.cells? with
      |none=>none
      |some ys=>Kt (eqV P tab n) tab xs ys e ie.size 0 len
   |d=>Qaq d x y
theorem Qr8{P:Program}{tab:Qk}(htab:Qu P tab){M:Qc}{ρ:Env}(w:World){eq:Nat→SV→SV→Option Bool}{E:Nat→Value→Value→Sem Bool}
  (hE:∀t x y vx vy b,eq t x y=some b→Qd M ρ vx x→Qd M ρ vy y→(E t vx vy).run P w=.ok b w)
  {cx cy:Array Value} {xs ys:List SV} (lx:cx.size=xs.length) (ly:cy.size=ys.length)
  (rx:∀(i:Nat) (v:Value) (x:SV),cx[i]? =some v→xs[i]? =some x→Qd M ρ v x) (ry:∀(i:Nat) (v:Value) (x:SV),cy[i]? =some v→ys[i]? =some x→Qd M ρ v x):
  ∀(fl:List Field) (b:Bool),V4 eq tab xs ys fl=some b→
  Sem.run P (forIn fl ((none,()):Option Bool×Unit) fun f __s=>
      if f.name= "_" then pure (ForInStep.yield (none,()))
      else do
       let a ←part f.type cx f.offset;let c ←part f.type cy f.offset;let r ←E f.type a c
       if r=false then pure (ForInStep.done (some false,()))else pure (ForInStep.yield (none,()))) w=.ok (if b then(none,())else(some false,())) w
 |[],b,h=>by simp[V4]at h;subst h;simp
 |f::fs,b,h=>by
  rw[List.forIn_cons];simp only[V4]at h;split at h
  ·rename_i hn;have hn:=of_decide_eq_true hn;simp only[hn,if_true,Sem.run_bind,Sem.run_pure,Result.andThen_ok];exact Qr8 htab w hE lx ly rx ry fs b h
  ·rename_i hn;have hn:=of_decide_eq_false hn;split at h
   ·cases h
   ·rename_i a ha;split at h
    ·cases h
    ·rename_i c hc;split at h
     ·cases h
     ·rename_i r hr;split at h
      ·cases h
      ·rename_i r' hr';cases h;obtain⟨va,p1,p2⟩:=Qkl htab w lx rx ha;obtain⟨vc,p3,p4⟩:=Qkl htab w ly ry hc;have p5:=hE _ _ _ _ _ _ hr p2 p4;have ih:=Qr8 htab w hE lx ly rx ry fs r' hr';simp only[hn,if_false,Sem.run_bind,p1,p3,p5,Result.andThen_ok];cases r with
       |false=>simp
       |true=>simp only[Bool.true_eq_false,if_false,Sem.run_pure,Result.andThen_ok,Bool.true_and];exact ih
theorem Qz6{P:Program}{tab:Qk}(htab:Qu P tab){M:Qc}{ρ:Env}(w:World){eq:Nat→SV→SV→Option Bool}{E:Nat→Value→Value→Sem Bool}
  (hE:∀t x y vx vy b,eq t x y=some b→Qd M ρ vx x→Qd M ρ vy y→(E t vx vy).run P w=.ok b w)
  {cx cy:Array Value} {xs ys:List SV} (lx:cx.size=xs.length) (ly:cy.size=ys.length)
  (rx:∀(i:Nat) (v:Value) (x:SV),cx[i]? =some v→xs[i]? =some x→Qd M ρ v x) (ry:∀(i:Nat) (v:Value) (x:SV),cy[i]? =some v→ys[i]? =some x→Qd M ρ v x) {e sz:Nat}:
  ∀(k i:Nat) (b:Bool),Kt eq tab xs ys e sz i k=some b→
  Sem.run P (forIn (List.range' i k) ((none,()):Option Bool×Unit) fun i __s=>do
       let a ←part e cx (i*sz);let c ←part e cy (i*sz);let r ←E e a c
       if r=false then pure (ForInStep.done (some false,()))else pure (ForInStep.yield (none,()))) w=.ok (if b then(none,())else(some false,())) w
 |0,i,b,h=>by simp[Kt]at h;subst h;simp
 |k+1,i,b,h=>by
  rw[List.range'_succ,List.forIn_cons];simp only[Kt]at h;split at h
  ·cases h
  ·rename_i a ha;split at h
   ·cases h
   ·rename_i c hc;split at h
    ·cases h
    ·rename_i r hr;split at h
     ·cases h
     ·rename_i r' hr';cases h;obtain⟨va,p1,p2⟩:=Qkl htab w lx rx ha;obtain⟨vc,p3,p4⟩:=Qkl htab w ly ry hc;have p5:=hE _ _ _ _ _ _ hr p2 p4;have ih:=Qz6 htab w hE lx ly rx ry k (i+1) r' hr';simp only[Sem.run_bind,p1,p3,p5,Result.andThen_ok];cases r with
      |false=>simp
      |true=>simp only[Bool.true_eq_false,if_false,Sem.run_pure,Result.andThen_ok,Bool.true_and];exact ih
theorem Qjm{P:Program}{tab:Qk}(htab:Qu P tab){M:Qc}{ρ:Env}(w:World):∀(n:Nat) (t:Nat) (x y:SV) (vx vy:Value) (b:Bool),eqV P tab n t x y=some b→Qd M ρ vx x→Qd M ρ vy y→
  ∀d,n≤d→(Op.equalIn d t vx vy).run P w=.ok b w
 |0,t,x,y,vx,vy,b,h,hx,hy=>by simp[eqV]at h
 |n+1,t,x,y,vx,vy,b,h,hx,hy=>by
  intro d hd;obtain⟨d,rfl⟩:∃e,d=e+1:=⟨d-1,by omega⟩;unfold eqV at h;split at h
  ·cases h
  ·rename_i i hi;have ht:=htab.get hi;split at h
   ·rename_i fields hdesc;split at h
    ·cases h
    ·rename_i hst;split at h
     ·cases h
     ·rename_i xs hxs;split at h
      ·cases h
      ·rename_i ys hys;obtain⟨cx,rfl,lx,rx⟩:=Qct hxs hx;obtain⟨cy,rfl,ly,ry⟩:=Qct hys hy;have hu:P.underlying t=some (.struct fields):=by rw[ht.und,hdesc]
       unfold Op.equalIn;simp only[Sem.run_bind,run_underlying hu,Result.andThen_ok];simp[hst];rw[←Array.forIn_toList];generalize fields.toList=fl at h;rw[Qr8 htab w (fun t x y vx vy b h hx hy=>Qjm htab w n t x y vx vy b h hx hy d (by omega)) lx ly rx ry fl b h];cases b<;>simp
   ·rename_i len e hdesc;split at h
    ·cases h
    ·rename_i ie hie;split at h
     ·cases h
     ·rename_i xs hxs;split at h
      ·cases h
      ·rename_i ys hys;obtain⟨cx,rfl,lx,rx⟩:=Qct hxs hx;obtain⟨cy,rfl,ly,ry⟩:=Qct hys hy;have hu:P.underlying t=some (.array len e):=by rw[ht.und,hdesc]
       obtain⟨inf,hinf,i1,_⟩:=(htab.get hie).inf;have hsz:(Go.sizeOf e).run P w=.ok ie.size w:=by simp[Go.sizeOf,typeInfo,hinf,i1]
       unfold Op.equalIn;simp only[Sem.run_bind,run_underlying hu,Result.andThen_ok,hsz];simp;rw[Qz6 htab w (fun t x y vx vy b h hx hy=>Qjm htab w n t x y vx vy b h hx hy d (by omega)) lx ly rx ry len 0 b h];cases b<;>simp
   ·rename_i hns;unfold Qaq at h;split at h
    ·rename_i hdesc;cases h;have ex:=hx.Q7;have ey:=hy.Q7;subst ex;subst ey;have hu:=ht.und;rw[hdesc]at hu;unfold Op.equalIn;simp[Sem.run_bind,run_underlying hu]
    ·rename_i hdesc;split at h
     ·rename_i hk;cases of_decide_eq_true hk;cases h;have ex:=hx.Q7;have ey:=hy.Q7;subst ex;subst ey;have hu:=ht.und;rw[hdesc]at hu;unfold Op.equalIn;simp[Sem.run_bind,run_underlying hu];rfl
     ·cases h
    ·rename_i hdesc;cases h;have ex:=hx.Q7;have ey:=hy.Q7;subst ex;subst ey;have hu:=ht.und;rw[hdesc]at hu;unfold Op.equalIn;simp[Sem.run_bind,run_underlying hu]
    ·cases h
def Y2:TypeDesc→Qe→Bool
 |.int k,.val (.int k')=>decide (k=k')
 |.string,.val .str=>true
 |.bool,.val .bool=>true
 |_,_=>false
theorem Qwp{d:TypeDesc}{a:Qe}(h:Y2 d a=true):a.scalar=true:=by unfold Y2 at h;split at h<;>first|rfl|cases h
def X0(tab:Qk):List Field→List Ty→Nat→Bool
 |[],[],_=>true
 |f::fs,t::ts,i=>match decide (f.name= "_")with
  |true=>false
  |false=>match Nat.beq f.offset i with
   |false=>false
   |true=>match tab.lookup f.type with
    |none=>false
    |some d=>Y2 d.desc (.val t)&&X0 tab fs ts (i+1)
 |_,_,_=>false
def Wt(d:TypeDesc):List Ty→Bool
 |[]=>true
 |t::ts=>Y2 d (.val t)&&Wt d ts
def Vg(P:Program)(tab:Qk)(kt:Nat)(d:TypeDesc):Qe→Bool
 |.agg row=>match d with
  |.struct fs=>match P.stoodInHeld kt with
   |true=>false
   |false=>X0 tab fs.toList row 0
  |.array len e=>match tab.lookup e with
   |none=>false
   |some ie=>Nat.beq row.length len&&(Nat.beq ie.size 1&&Wt ie.desc row)
  |_=>false
 |_=>false
def K3(P:Program)(tab:Qk)(kt:Nat)(d:TypeDesc)(a:Qe):Bool:=match Y2 d a with
 |true=>true
 |false=>Vg P tab kt d a
theorem Qbt{d:TypeDesc}{t:Ty}(h:Y2 d (.val t)=true):d.isRow=false∧t.scalar=true:=by refine⟨?_,Qwp (a:=.val t) h⟩;unfold Y2 at h;split at h<;>first|rfl|cases h
theorem Zwo{d:TypeDesc}:∀{t:Ty} (h:Y2 d (.val t)=true) (x y:t.El),Qaq d (.pv (t.pv x)) (.pv (t.pv y))=some (t.eqv x y)
 |.int b,h,x,y=>by
  cases d<;>first|(simp only[Y2,Bool.false_eq_true]at h;done)|skip
  rename_i a;have e:a=b:=by simpa[Y2]using h
  subst e;have key:∀x y:Int,Qaq (.int a) (.pv (.lit (.int a x))) (.pv (.lit (.int a y)))=some (Vh x y):=fun x y=>by simp[Qaq,Vh]
  exact key x y
 |.str,h,x,y=>by
  cases d<;>first|(simp only[Y2,Bool.false_eq_true]at h;done)|skip
  have key:∀x y:ByteArray,Qaq .string (.pv (.lit (.string x))) (.pv (.lit (.string y)))=some (Qf x y):=fun x y=>by simp only[Qaq,Qge]
  exact key x y
 |.bool,h,x,y=>by
  cases d<;>first|(simp only[Y2,Bool.false_eq_true]at h;done)|skip
  have key:∀x y:Bool,Qaq .bool (.pv (.lit (.bool x))) (.pv (.lit (.bool y)))=some (Qbf x y):=by decide
  exact key x y
 |.seq _,h,x,y=>by cases d<;>simp only[Y2,Bool.false_eq_true]at h
theorem Qh8{P:Program}{tab:Qk}{n ft:Nat}{i:TI}(hi:tab.lookup ft=some i){t:Ty}(h:Y2 i.desc (.val t)=true)(x y:t.El):eqV P tab (n+1) ft (.pv (t.pv x)) (.pv (t.pv y))=some (t.eqv x y):=by
 have e:=Zwo h x y;unfold eqV;rw[hi];simp only;split
 ·rename_i hd;rw[hd]at h;exact absurd h (by cases t<;>simp[Y2])
 ·rename_i hd;rw[hd]at h;exact absurd h (by cases t<;>simp[Y2])
 ·exact e
theorem Uq{tab:Qk}{ft off:Nat}{i:TI}(hi:tab.lookup ft=some i){t:Ty}(h:Y2 i.desc (.val t)=true){xs:List SV}{q:SV}(hq:xs[off]? =some q):partOf tab ft xs off=some q:=by unfold partOf;rw[hi];simp only[(Qbt h).1,hq]
theorem Qwl{P:Program}{tab:Qk}{n:Nat}{xs ys:List SV}:∀(fs:List Field) (ts:List Ty) (i:Nat) (x y:Qh ts),X0 tab fs ts i=true→
  (∀j q,(Q5 ts x)[j]? =some q→xs[i+j]? =some (.pv q))→(∀j q,(Q5 ts y)[j]? =some q→ys[i+j]? =some (.pv q))→
  V4 (eqV P tab (n+1)) tab xs ys fs=some (Qh.eqv ts x y)
 |[],[],i,x,y,h,hx,hy=>rfl
 |[],_::_,i,x,y,h,hx,hy=>by simp[X0]at h
 |_::_,[],i,x,y,h,hx,hy=>by simp[X0]at h
 |f::fs,[t],i,x,y,h,hx,hy=>by
  simp only[X0]at h;split at h
  ·cases h
  ·rename_i hn;split at h
   ·cases h
   ·rename_i ho;have ho:=Nat.eq_of_beq_eq_true ho;split at h
    ·cases h
    ·rename_i d hd;rw[Bool.and_eq_true]at h;have h1:=Uq hd h.1 (hx 0 (t.pv x) rfl);have h2:=Uq hd h.1 (hy 0 (t.pv y) rfl);have h3:=Qh8 (P:=P) (n:=n) hd h.1 x y;have h4:V4 (eqV P tab (n+1)) tab xs ys fs=some true:=by
      cases fs with
      |nil=>rfl
      |cons _ _=>simp[X0]at h
     simp only[V4,hn,ho,Nat.add_zero]at h1 h2⊢;simp only[h1,h2,h3,h4,Bool.and_true];rfl
 |f::fs,t::t'::ts,i,x,y,h,hx,hy=>by
  simp only[X0]at h;split at h
  ·cases h
  ·rename_i hn;split at h
   ·cases h
   ·rename_i ho;have ho:=Nat.eq_of_beq_eq_true ho;split at h
    ·cases h
    ·rename_i d hd;rw[Bool.and_eq_true]at h;have h1:=Uq hd h.1 (hx 0 (t.pv x.1) rfl);have h2:=Uq hd h.1 (hy 0 (t.pv y.1) rfl);have h3:=Qh8 (P:=P) (n:=n) hd h.1 x.1 y.1;have h4:=Qwl (P:=P) (n:=n) fs (t'::ts) (i+1) x.2 y.2 h.2 (fun j q hq=>by rw[Nat.add_assoc,Nat.add_comm 1 j];exact hx (j+1) q hq) (fun j q hq=>by rw[Nat.add_assoc,Nat.add_comm 1 j];exact hy (j+1) q hq);simp only[V4,hn,ho,Nat.add_zero]at h1 h2⊢;simp only[h1,h2,h3,h4];show some (t.eqv x.1 y.1&&Qh.eqv (t'::ts) x.2 y.2)=some (Ju t.eqv (Qh.eqv (t'::ts)) x y);unfold Ju;cases t.eqv x.1 y.1<;>rfl
theorem Zab{P:Program}{tab:Qk}{n e:Nat}{ie:TI}(he:tab.lookup e=some ie){xs ys:List SV}:∀(ts:List Ty) (i:Nat) (x y:Qh ts),Wt ie.desc ts=true→
  (∀j q,(Q5 ts x)[j]? =some q→xs[i+j]? =some (.pv q))→(∀j q,(Q5 ts y)[j]? =some q→ys[i+j]? =some (.pv q))→
  Kt (eqV P tab (n+1)) tab xs ys e 1 i ts.length=some (Qh.eqv ts x y)
 |[],i,x,y,h,hx,hy=>rfl
 |[t],i,x,y,h,hx,hy=>by simp only[Wt,Bool.and_eq_true]at h;have h1:=Uq he h.1 (hx 0 (t.pv x) rfl);have h2:=Uq he h.1 (hy 0 (t.pv y) rfl);have h3:=Qh8 (P:=P) (n:=n) he h.1 x y;simp only[Nat.add_zero]at h1 h2;simp only[List.length_cons,List.length_nil,Kt,Nat.mul_one,h1,h2,h3,Bool.and_true];rfl
 |t::t'::ts,i,x,y,h,hx,hy=>by simp only[Wt,Bool.and_eq_true]at h;have h1:=Uq he h.1 (hx 0 (t.pv x.1) rfl);have h2:=Uq he h.1 (hy 0 (t.pv y.1) rfl);have h3:=Qh8 (P:=P) (n:=n) he h.1 x.1 y.1;have h4:=Zab (P:=P) (n:=n) he (t'::ts) (i+1) x.2 y.2 (by simp only[Wt,Bool.and_eq_true];exact h.2) (fun j q hq=>by rw[Nat.add_assoc,Nat.add_comm 1 j];exact hx (j+1) q hq) (fun j q hq=>by rw[Nat.add_assoc,Nat.add_comm 1 j];exact hy (j+1) q hq);simp only[Nat.add_zero]at h1 h2;show Kt (eqV P tab (n+1)) tab xs ys e 1 i ((t'::ts).length+1)=_;simp only[Kt,Nat.mul_one,h1,h2,h3,h4];show some (t.eqv x.1 y.1&&Qh.eqv (t'::ts) x.2 y.2)=some (Ju t.eqv (Qh.eqv (t'::ts)) x y);unfold Ju;cases t.eqv x.1 y.1<;>rfl
theorem Qrg{P:Program}{tab:Qk}{kt:Nat}{d:TypeDesc}{a:Qe}(h:Vg P tab kt d a=true):a.scalar=true:=by
 have key1:∀(fs:List Field) (ts:List Ty) (i:Nat),X0 tab fs ts i=true→ts.all Ty.scalar=true:=by
  intro fs;induction fs with
  |nil=>intro ts i h;cases ts<;>first|rfl|(simp[X0]at h)
  |cons f fs ih=>
   intro ts i h;cases ts with
   |nil=>rfl
   |cons t ts=>
    simp only[X0]at h;split at h
    ·cases h
    ·split at h
     ·cases h
     ·split at h
      ·cases h
      ·rw[Bool.and_eq_true]at h;rw[List.all_cons,Bool.and_eq_true];exact⟨(Qbt h.1).2,ih _ _ h.2⟩
 have key2:∀(d:TypeDesc) (ts:List Ty),Wt d ts=true→ts.all Ty.scalar=true:=by
  intro d ts;induction ts with
  |nil=>intro _;rfl
  |cons t ts ih=>intro h;simp only[Wt,Bool.and_eq_true]at h;rw[List.all_cons,Bool.and_eq_true];exact⟨(Qbt h.1).2,ih h.2⟩
 unfold Vg at h;split at h
 ·split at h
  ·split at h
   ·cases h
   ·exact key1 _ _ _ h
  ·split at h
   ·cases h
   ·simp only[Bool.and_eq_true]at h;exact key2 _ _ h.2.2
  ·cases h
 ·cases h
theorem Qgt{P:Program}{tab:Qk}{kt:Nat}{d:TypeDesc}{a:Qe}(h:K3 P tab kt d a=true):a.scalar=true:=by
 unfold K3 at h;split at h
 ·rename_i e;exact Qwp e
 ·exact Qrg h
theorem Ze8{P:Program}{tab:Qk}{kt:Nat}{d:TypeDesc}{a:Qe}{i:TI}(hi:tab.lookup kt=some i)(h:Vg P tab kt i.desc a=true)(x y:a.El):eqV P tab 2 kt (a.raw x) (a.raw y)=some (a.eqv x y):=by
 unfold Vg at h;split at h
 ·rename_i row;split at h
  ·rename_i fs hd;split at h
   ·cases h
   ·rename_i hs;simp only[eqV,hi,hd,hs,Qe.raw,SV.cells?];exact Qwl (P:=P) (n:=0) fs.toList row 0 x y h (fun j q hq=>by simp[hq]) (fun j q hq=>by simp[hq])
  ·rename_i len e hd;split at h
   ·cases h
   ·rename_i ie hie;simp only[Bool.and_eq_true]at h;have e1:=Nat.eq_of_beq_eq_true h.1;have e2:=Nat.eq_of_beq_eq_true h.2.1;simp only[eqV,hi,hd,hie,Qe.raw,SV.cells?,e2,←e1];exact Zab (P:=P) (n:=0) hie row 0 x y h.2.2 (fun j q hq=>by simp[hq]) (fun j q hq=>by simp[hq])
  ·cases h
 ·cases h
theorem Qme{P:Program}{tab:Qk}(htab:Qu P tab){ft off:Nat}{i:TI}(hi:tab.lookup ft=some i)(hd:i.desc.isRow=false){cs:Array Value}{v:Value}(hv:cs[off]? =some v)(w:World):(part ft cs off).run P w=.ok v w:=by have ht:=htab.get hi;obtain⟨h1,h2⟩:=Array.getElem?_eq_some_iff.1 hv;simp[part,Qbd ht,hd,h1,h2]
theorem Qg2{P:Program}{tab:Qk}(htab:Qu P tab){ft:Nat}{i:TI}(hi:tab.lookup ft=some i){t:Ty}(h:Y2 i.desc (.val t)=true)(x:t.El)(e:Bool)(n:Nat)(w:World):
  (Instr.checkKey e (n+1) ft (t.toV x)).run P w=.ok () w:=by
 unfold Instr.checkKey;simp only[Sem.run_bind,run_underlying (htab.get hi).und,Result.andThen_ok];generalize i.desc=d at h;cases t<;>cases d<;>first|(simp only[Y2,Bool.false_eq_true]at h;done)|rfl
theorem Qt1{P:Program}{tab:Qk}(htab:Qu P tab){cs:Array Value}{e:Bool}{n:Nat}(w:World):∀(fs:List Field) (ts:List Ty) (i:Nat) (x:Qh ts),X0 tab fs ts i=true→(∀j v,(Jd ts x)[j]? =some v→cs[i+j]? =some v)→
  Sem.run P (forIn fs PUnit.unit fun f __s=>if f.name= "_" then pure (ForInStep.yield PUnit.unit)else do
     let v ←part f.type cs f.offset
     (fun a=>ForInStep.yield PUnit.unit)<$>Instr.checkKey e (n+1) f.type v) w=.ok PUnit.unit w
 |[],[],i,x,h,hx=>by simp
 |[],_::_,i,x,h,hx=>by simp[X0]at h
 |_::_,[],i,x,h,hx=>by simp[X0]at h
 |f::fs,[t],i,x,h,hx=>by
  simp only[X0]at h;split at h
  ·cases h
  ·rename_i hn;have hn:=of_decide_eq_false hn;split at h
   ·cases h
   ·rename_i ho;have ho:=Nat.eq_of_beq_eq_true ho;split at h
    ·cases h
    ·rename_i d hd;rw[Bool.and_eq_true]at h;have h1:=Qme htab hd (Qbt h.1).1 (hx 0 (t.toV x) rfl) w;rw[Nat.add_zero,←ho]at h1;have h4:fs=[]:=by
      cases fs with
      |nil=>rfl
      |cons _ _=>simp[X0]at h
     subst h4;rw[List.forIn_cons];simp only[hn,if_false,Sem.run_bind,h1,Result.andThen_ok,Sem.run_map,Qg2 htab hd h.1 x e n w];simp
 |f::fs,t::t'::ts,i,x,h,hx=>by
  simp only[X0]at h;split at h
  ·cases h
  ·rename_i hn;have hn:=of_decide_eq_false hn;split at h
   ·cases h
   ·rename_i ho;have ho:=Nat.eq_of_beq_eq_true ho;split at h
    ·cases h
    ·rename_i d hd;rw[Bool.and_eq_true]at h;have h1:=Qme htab hd (Qbt h.1).1 (hx 0 (t.toV x.1) rfl) w;rw[Nat.add_zero,←ho]at h1;have h4:=Qt1 htab (cs:=cs) (e:=e) (n:=n) w fs (t'::ts) (i+1) x.2 h.2 (fun j q hq=>by rw[Nat.add_assoc,Nat.add_comm 1 j];exact hx (j+1) q hq);rw[List.forIn_cons];simp only[hn,if_false,Sem.run_bind,h1,Result.andThen_ok,Sem.run_map,Qg2 htab hd h.1 x.1 e n w];simpa using h4
theorem Qxt{P:Program}{tab:Qk}(htab:Qu P tab){cs:Array Value}{e:Bool}{n el:Nat}{ie:TI}(he:tab.lookup el=some ie)(hz:ie.size=1)(w:World):∀(ts:List Ty) (i:Nat) (x:Qh ts),Wt ie.desc ts=true→(∀j v,(Jd ts x)[j]? =some v→cs[i+j]? =some v)→
  Sem.run P (forIn (List.range' i ts.length) PUnit.unit fun i __s=>do
    let z ←sizeOf el;let v ←part el cs (i*z)
    (fun a=>ForInStep.yield PUnit.unit)<$>Instr.checkKey e (n+1) el v) w=.ok PUnit.unit w
 |[],i,x,h,hx=>by simp
 |[t],i,x,h,hx=>by
  simp only[Wt,Bool.and_eq_true]at h;obtain⟨inf,hinf,i1,_⟩:=(htab.get he).inf;have hsz:(Go.sizeOf el).run P w=.ok 1 w:=by simp[Go.sizeOf,typeInfo,hinf,i1,hz]
  have h1:=Qme htab he (Qbt h.1).1 (hx 0 (t.toV x) rfl) w;rw[Nat.add_zero]at h1;simp only[List.length_cons,List.length_nil,List.range'_succ,List.range'_zero,List.forIn_cons,Sem.run_bind,hsz,Nat.mul_one,h1,Result.andThen_ok,Sem.run_map,Qg2 htab he h.1 x e n w];simp
 |t::t'::ts,i,x,h,hx=>by
  simp only[Wt,Bool.and_eq_true]at h;obtain⟨inf,hinf,i1,_⟩:=(htab.get he).inf;have hsz:(Go.sizeOf el).run P w=.ok 1 w:=by simp[Go.sizeOf,typeInfo,hinf,i1,hz]
  have h1:=Qme htab he (Qbt h.1).1 (hx 0 (t.toV x.1) rfl) w;rw[Nat.add_zero]at h1;have h4:=Qxt htab (cs:=cs) (e:=e) (n:=n) he hz w (t'::ts) (i+1) x.2 (by simp only[Wt,Bool.and_eq_true];exact h.2) (fun j q hq=>by rw[Nat.add_assoc,Nat.add_comm 1 j];exact hx (j+1) q hq);rw[List.length_cons,List.range'_succ,List.forIn_cons];simp only[Sem.run_bind,hsz,Nat.mul_one,h1,Result.andThen_ok,Sem.run_map,Qg2 htab he h.1 x.1 e n w];simpa using h4
theorem Zz8{P:Program}{tab:Qk}(htab:Qu P tab){kt:Nat}{i:TI}(hi:tab.lookup kt=some i){a:Qe}(h:Vg P tab kt i.desc a=true)(x:a.El)(e:Bool)(w:World):(Instr.checkKey e 10000 kt (a.Zk x)).run P w=.ok () w:=by
 unfold Vg at h;split at h
 ·rename_i row;split at h
  ·rename_i fs hd;split at h
   ·cases h
   ·have hu:=(htab.get hi).und;rw[hd]at hu;unfold Instr.checkKey;simp only[Sem.run_bind,run_underlying hu,Result.andThen_ok];dsimp only[Qe.Zk];simp;rw[←Array.forIn_toList];exact Qt1 htab w fs.toList row 0 x h (fun j v hv=>by simpa using hv)
  ·rename_i len el hd;split at h
   ·cases h
   ·rename_i ie hie;simp only[Bool.and_eq_true]at h;have e1:=Nat.eq_of_beq_eq_true h.1;have e2:=Nat.eq_of_beq_eq_true h.2.1;have hu:=(htab.get hi).und;rw[hd]at hu;unfold Instr.checkKey;simp only[Sem.run_bind,run_underlying hu,Result.andThen_ok];dsimp only[Qe.Zk];simp;rw[←e1];exact Qxt htab hie e2 w row 0 x h.2.2 (fun j v hv=>by simpa using hv)
  ·cases h
 ·cases h
theorem Qcy{P:Program}{tab:Qk}(htab:Qu P tab){kt:Nat}{i:TI}(hi:tab.lookup kt=some i){a:Qe}(h:K3 P tab kt i.desc a=true)(x:a.El)(e:Bool)(w:World):(Instr.checkKey e 10000 kt (a.Zk x)).run P w=.ok () w:=by
 unfold K3 at h;split at h
 ·rename_i hd;cases a with
  |val t=>exact Qg2 htab hi hd x e 9999 w
  |agg row=>exact absurd hd (by generalize i.desc=d;cases d<;>simp[Y2])
 ·exact Zz8 htab hi h x e w
theorem Zpt:∀(ts:List Ty) (x:Qh ts),ts.all Ty.scalar=true→((Jd ts x).zip (Jd ts x)).all (fun p=>Instr.sameBits 9999 p.1 p.2)=true:=by
 have cell:∀(t:Ty) (x:t.El),t.scalar=true→Instr.sameBits 9999 (t.toV x) (t.toV x)=true:=by
  intro t x h;cases t with
  |int k=>
   have key:∀a:Int,Instr.sameBits 9999 (.int k a) (.int k a)=true:=fun a=>by simp[Instr.sameBits]
   exact key x
  |str=>
   have key:∀a:ByteArray,Instr.sameBits 9999 (.string a) (.string a)=true:=fun a=>by simp only[Instr.sameBits,Qge,Qf,decide_true]
   exact key x
  |bool=>
   have key:∀a:Bool,Instr.sameBits 9999 (.bool a) (.bool a)=true:=fun a=>by simp[Instr.sameBits]
   exact key x
  |seq r=>cases h
 intro ts;induction ts with
 |nil=>intro x h;rfl
 |cons t ts ih=>
  intro x h;rw[List.all_cons,Bool.and_eq_true]at h;cases ts with
  |nil=>show(((t.toV x,t.toV x)::[]).all _)=true;simp[cell t x h.1]
  |cons t' ts=>have:=ih x.2 h.2;show(((t.toV x.1,t.toV x.1)::((Jd (t'::ts) x.2).zip (Jd (t'::ts) x.2))).all _)=true;rw[List.all_cons,cell t x.1 h.1,this];rfl
theorem Qy9{a:Qe}(hs:a.scalar=true)(x:a.El):Instr.sameBits 10000 (a.Zk x) (a.Zk x)=true:=by
 cases a with
 |val t=>
  cases t with
  |int k=>
   have key:∀a:Int,Instr.sameBits 10000 (.int k a) (.int k a)=true:=fun a=>by simp[Instr.sameBits]
   exact key x
  |str=>
   have key:∀a:ByteArray,Instr.sameBits 10000 (.string a) (.string a)=true:=fun a=>by simp only[Instr.sameBits,Qge,Qf,decide_true]
   exact key x
  |bool=>
   have key:∀a:Bool,Instr.sameBits 10000 (.bool a) (.bool a)=true:=fun a=>by simp[Instr.sameBits]
   exact key x
  |seq r=>cases hs
 |agg row=>have h:=Zpt row x hs;show Instr.sameBits (9999+1) (.agg (Jd row x).toArray) (.agg (Jd row x).toArray)=true;simp only[Instr.sameBits,beq_self_eq_true,Bool.true_and];exact h
theorem Qd6{α β:Type}(P:Program)(x:Sem α)(f:α→Sem β):Yg P (x>>=f)=(Yg P x).bind fun a=>Yg P (f a):=by
 show Yg P (x.bind f)=_;induction x with
 |pure a=>rfl
 |program k ih=>simp only[Sem.bind,Yg];exact ih P
 |mark m k ih=>simp only[Sem.bind,Yg];exact ih
 |_=>simp[Sem.bind,Yg]
theorem Km{α:Type}(P:Program)(a:α):Yg P (pure a:Sem α)=some a:=rfl
theorem Za5(kind:TypeDesc)(k:Value):∀(l1 l2:List MapEntry) (i:Nat) (r:Option (Nat×Value)),l1.map (·.key)=l2.map (·.key)→Instr.findNow kind k l1 i=some r→
  (r=none∧Instr.findNow kind k l2 i=some none)∨∃(j:Nat) (v:Value) (e:MapEntry),r=some (i+j,v)∧l2[j]? =some e∧Instr.findNow kind k l2 i=some (some (i+j,e.val))
 |[],[],i,r,_,h=>by simp[Instr.findNow]at h;subst h;exact .inl ⟨rfl,rfl⟩
 |[],_::_,_,_,hk,_=>by simp at hk
 |_::_,[],_,_,hk,_=>by simp at hk
 |a::l1,b::l2,i,r,hk,h=>by
  simp only[List.map_cons,List.cons.injEq]at hk;obtain⟨hk0,hk⟩:=hk;simp only[Instr.findNow,hk0]at h⊢;split at h
  ·rename_i hs;cases h;exact .inr ⟨0,a.val,b,rfl,rfl,by simp[hs]⟩
  ·rename_i hs;rcases Za5 kind k l1 l2 (i+1) r hk h with⟨h1,h2⟩|⟨j,v,e,h1,h2,h3⟩
   ·exact .inl ⟨h1,by simp[hs,h2]⟩
   ·exact .inr ⟨j+1,v,e,by rw[h1];congr 2;omega,by simpa using h2,by simp[hs,h3];omega⟩
  ·cases h
theorem Qst(kind:TypeDesc)(k:Value):∀(l1 l2:List MapEntry) (i:Nat),l1.map (·.key)=l2.map (·.key)→Instr.findNow kind k l1 i=none→Instr.findNow kind k l2 i=none
 |[],[],i,_,h=>by simp[Instr.findNow]at h
 |[],_::_,_,hk,_=>by simp at hk
 |_::_,[],_,hk,_=>by simp at hk
 |a::l1,b::l2,i,hk,h=>by
  simp only[List.map_cons,List.cons.injEq]at hk;obtain⟨hk0,hk⟩:=hk;simp only[Instr.findNow,hk0]at h⊢;split at h
  ·cases h
  ·rename_i hs;simp[hs,Qst kind k l1 l2 (i+1) hk h]
  ·rename_i hs;simp[hs]
theorem Qzt(P:Program)(t:TypeId)(k:Value):∀(l1 l2:List MapEntry) (i:Nat) (r:Option (Nat×Value)),l1.map (·.key)=l2.map (·.key)→Yg P (Instr.findAsking t k l1 i)=some r→
  (r=none∧Yg P (Instr.findAsking t k l2 i)=some none)∨∃(j:Nat) (v:Value) (e:MapEntry),r=some (i+j,v)∧l2[j]? =some e∧Yg P (Instr.findAsking t k l2 i)=some (some (i+j,e.val))
 |[],[],i,r,_,h=>by simp[Instr.findAsking,Km]at h;subst h;exact .inl ⟨rfl,rfl⟩
 |[],_::_,_,_,hk,_=>by simp at hk
 |_::_,[],_,_,hk,_=>by simp at hk
 |a::l1,b::l2,i,r,hk,h=>by
  simp only[List.map_cons,List.cons.injEq]at hk;obtain⟨hk0,hk⟩:=hk;simp only[Instr.findAsking,Qd6,hk0]at h⊢;cases hb:Yg P (Op.equal t k b.key)with
  |none=>simp[hb]at h
  |some c=>
   simp only[hb,Option.bind_some]at h⊢;cases c with
   |true=>simp[Km]at h;subst h;exact .inr ⟨0,a.val,b,rfl,rfl,by simp[Km]⟩
   |false=>
    simp only[Bool.false_eq_true,if_false]at h⊢;rcases Qzt P t k l1 l2 (i+1) r hk h with⟨h1,h2⟩|⟨j,v,e,h1,h2,h3⟩
    ·exact .inl ⟨h1,h2⟩
    ·exact .inr ⟨j+1,v,e,by rw[h1];congr 2;omega,by simpa using h2,by rw[h3];congr 3;omega⟩
theorem Zt5(P:Program)(t:TypeId)(k:Value){l1 l2:List MapEntry}{r:Option (Nat×Value)}(hk:l1.map (·.key)=l2.map (·.key))(h:Yg P (Instr.findKey t k l1)=some r):
  (r=none∧Yg P (Instr.findKey t k l2)=some none)∨∃(j:Nat) (v:Value) (e:MapEntry),r=some (j,v)∧l2[j]? =some e∧Yg P (Instr.findKey t k l2)=some (some (j,e.val)):=by
 simp only[Instr.findKey,Qd6]at h⊢;cases hu:Yg P (underlying t)with
 |none=>simp[hu]at h
 |some d=>
  simp only[hu,Option.bind_some]at h⊢;cases hf:Instr.findNow d k l1 0 with
  |some q=>
   simp only[hf,Km,Option.some.injEq]at h;subst h;rcases Za5 d k l1 l2 0 q hk hf with⟨h1,h2⟩|⟨j,v,e,h1,h2,h3⟩
   ·exact .inl ⟨h1,by simp[h2,Km]⟩
   ·exact .inr ⟨j,v,e,by simpa using h1,h2,by simp[h3,Km]⟩
  |none=>
   simp only[hf]at h;rw[Qst d k l1 l2 0 hk hf];simp only;rcases Qzt P t k l1 l2 0 r hk h with⟨h1,h2⟩|⟨j,v,e,h1,h2,h3⟩
   ·exact .inl ⟨h1,h2⟩
   ·exact .inr ⟨j,v,e,by simpa using h1,h2,by simpa using h3⟩
abbrev Qy:=Value×SV×Nat
def J3(es:List Qy):List MapEntry:=es.map fun e=>{key:=e.1,val:=.bool false,born:=e.2.2}
def V1(P:Program)(kt:TypeId)(k:Value)(es:List Qy):Option (Option Nat):=
 match Yg P (Instr.findKey kt k (J3 es))with
 |none=>none
 |some none=>some none
 |some (some (j,_))=>some (some j)
structure X2 (M:Qc) (ρ:Env) (arr:Array MapEntry) (es:List Qy):Prop where
 sz:arr.size=es.length
 rep:∀(i:Nat) (k:Value) (x:SV) (b:Nat),es[i]? =some (k,x,b)→∃e:MapEntry,arr[i]? =some e∧e.key=k∧e.born=b∧Qd M ρ e.val x
theorem X2.keys{M:Qc}{ρ:Env}{arr:Array MapEntry}{es:List Qy}(h:X2 M ρ arr es):(J3 es).map (·.key)=arr.toList.map (·.key):=by
 apply List.ext_getElem?;intro i;simp only[J3,List.map_map,List.getElem?_map];by_cases hi:i<es.length
 ·obtain⟨e,h1,h2,_⟩:=h.rep i es[i].1 es[i].2.1 es[i].2.2 (by simp[hi]);rw[←Array.getElem?_toList]at h1;simp[hi,h1,h2]
 ·rw[List.getElem?_eq_none (by omega),List.getElem?_eq_none (by simp;rw[h.sz];omega)];rfl
theorem Ko{P:Program}{M:Qc}{ρ:Env}{arr:Array MapEntry}{es:List Qy}{kt:TypeId}{k:Value}(h:X2 M ρ arr es)(w:World):
  (V1 P kt k es=some none→(Instr.findKey kt k arr.toList).run P w=.ok none w)∧
  (∀j,V1 P kt k es=some (some j)→∃(e:MapEntry) (x:Qy),arr[j]? =some e∧es[j]? =some x∧e.key=x.1∧e.born=x.2.2∧Qd M ρ e.val x.2.1∧(Instr.findKey kt k arr.toList).run P w=.ok (some (j,e.val)) w):=by
 unfold V1;cases hf:Yg P (Instr.findKey kt k (J3 es))with
 |none=>exact⟨fun h=>by simp at h,fun j h=>by simp at h⟩
 |some r=>
  rcases Zt5 P kt k h.keys hf with⟨rfl,h2⟩|⟨j,v,e,rfl,h2,h3⟩
  ·exact⟨fun _=>Qba h2 w,fun j h=>by simp at h⟩
  ·refine⟨fun h=>by simp at h,fun j' hj=>?_⟩;simp at hj;subst hj;rw[Array.getElem?_toList]at h2;have hlt:j<es.length:=by have:=(Array.getElem?_eq_some_iff.1 h2).1;rw[h.sz]at this;exact this
   obtain⟨e',a1,a2,a3,a4⟩:=h.rep j es[j].1 es[j].2.1 es[j].2.2 (by simp[hlt]);rw[h2]at a1;cases a1;exact⟨e,es[j],h2,by simp[hlt],a2,a3,a4,Qba h3 w⟩
def Qcg(P:Program)(empty:Bool)(kt:TypeId)(k:Value):Bool:=(Yg P (Instr.checkKey empty 10000 kt k)).isSome
theorem Ut{P:Program}{empty:Bool}{kt:TypeId}{k:Value}(h:Qcg P empty kt k=true)(w:World):(Instr.checkKey empty 10000 kt k).run P w=.ok () w:=by unfold Qcg at h;obtain⟨u,hu⟩:=Option.isSome_iff_exists.1 h;exact Qba hu w
theorem Qt.Qcn{M:Qc}{ρ:Env}{w:World}{s:Nat}{es:List Qy}{c:Nat}{p:Place}(h:Qt M ρ w s (.map es c))(hp:ρ s=some p):∃arr,w.heap[p.block]? =some (.map arr c)∧X2 M ρ arr es:=by obtain⟨q,arr,h1,h2,h3,h4⟩:=h;rw[hp]at h1;cases h1;exact⟨arr,h2,h3,h4⟩
def valOf(t:Ty):SV→Option t.El
 |.pv p=>t.of p
 |_=>none
def Qnb(row:List Ty):SV→Option (Qh row)
 |.pv (.lit (.agg cs))=>ofRow row (cs.toList.map .lit)
 |.agg l=>match Vk l with
  |some ps=>ofRow row ps
  |none=>none
 |_=>none
def Qe.Un:(a:Qe)→SV→Option a.El
 |.val t=>valOf t
 |.agg row=>Qnb row
theorem Qe.Qau{M:Qc}{ρ:Env}{a:Qe}{x:SV}{v:Value}{y:a.El}(h:a.Un x=some y)(hx:Qd M ρ v x):Qd M ρ v (a.raw y):=by
 cases a with
 |val t=>
  have h:valOf t x=some y:=h;unfold valOf at h;split at h
  ·cases hx with
   |pv hp=>exact .pv (Ty.Qso h hp)
  ·cases h
 |agg row=>
  replace h:Qnb row x=some y:=h;have fin:∀(cs:Array Value) (l:List PV),ofRow row l=some y→cs.size=l.length→(∀(i:Nat) (u:Value) (q:PV),cs[i]? =some u→l[i]? =some q→Zc M u q)→Qd M ρ (.agg cs) ((Qe.agg row).raw y):=fun cs l hy hl hr=>by obtain⟨g1,g2⟩:=Qcd hy;refine .agg cs _ (by simp[hl,g1]) fun i u z hu hz=>?_;simp only[List.getElem?_map,Option.map_eq_some_iff]at hz;obtain⟨q,hq,rfl⟩:=hz;obtain⟨p,hp,himp⟩:=g2 i q hq;exact .pv (himp M u (hr i u p hu hp))
  unfold Qnb at h;split at h
  ·rename_i cs;have:=hx.Q7;subst this;refine fin cs _ h (by simp) fun i u q hu hq=>?_;simp only[List.getElem?_map,Option.map_eq_some_iff,Array.getElem?_toList]at hq;obtain⟨q',hq',rfl⟩:=hq;rw[hu]at hq';cases hq';exact .lit _
  ·split at h
   ·rename_i l ps hps;have e:=Qan hps;subst e;cases hx with
    |agg cs _ hl hr=>
     refine fin cs ps h (by simpa using hl) fun i u q hu hq=>?_;have:=hr i u (.pv q) hu (by simp[hq]);cases this with
     |pv h=>exact h
   ·cases h
  ·cases h
theorem Ty.Yam{M:Qc}{v:Value}:∀{t:Ty} {x:t.El},t.scalar=true→Zc M v (t.pv x)→v=t.toV x
 |.int _,_,_,h=>by cases h;rfl
 |.bool,_,_,h=>by cases h;rfl
 |.str,_,_,h=>by cases h;rfl
theorem Qrt:∀(ts:List Ty) (x:Qh ts),ts.all Ty.scalar=true→Q5 ts x=(Jd ts x).map .lit
 |[],_,_=>rfl
 |[t],x,h=>by cases t<;>first|rfl|(simp[Ty.scalar]at h)
 |t::t'::ts,x,h=>by simp only[List.all_cons,Bool.and_eq_true]at h;have:=Qrt (t'::ts) x.2 (by simp only[List.all_cons,Bool.and_eq_true];exact h.2);simp only[Q5,Jd,List.map_cons,this];cases t<;>first|rfl|(simp[Ty.scalar]at h)
theorem Qlb{M:Qc}{ρ:Env}{a:Qe}{x:a.El}{v:Value}(hs:a.scalar=true)(h:Qd M ρ v (a.raw x)):v=a.Zk x:=by
 cases a with
 |val t=>
  cases h with
  |pv h=>exact Ty.Yam hs h
 |agg row=>
  have e:=Qrt row x hs;simp only[Qe.raw,e]at h;cases h with
  |agg cs _ hl hr=>
   show _=Value.agg (Jd row x).toArray;congr 1;apply Array.ext
   ·simpa using hl
   ·intro i h1 h2;have:=hr i cs[i] (.lit ((Jd row x).toArray[i])) (by simp[h1]) (by simp at h2;simp[h2]);rw[this.Q7]
def Yi{K V:Type}(eq:K→K→Bool)(k:K):List (K×V)→Nat→Option (Nat×V)
 |[],_=>none
 |e::l,i=>match eq k e.1 with
  |true=>some (i,e.2)
  |false=>Yi eq k l (i+1)
theorem Vp{k v:Qe}:∀(l:List (k.El×v.El)) (n i:Nat),(Yn k v n l)[i]? =(l[i]?).map fun x=>(k.Zk x.1,v.raw x.2,n+i)
 |[],n,i=>by simp[Yn]
 |x::l,n,i=>by
  cases i with
  |zero=>simp[Yn]
  |succ i=>simp only[Yn,List.getElem?_cons_succ,Vp l (n+1) i];congr 1;funext x;rw[Nat.add_right_comm,Nat.add_assoc]
theorem Qrh{k v:Qe}(l:List (k.El×v.El))(n j:Nat)(x:k.El×v.El):Yn k v n (l.set j x)=(Yn k v n l).set j (k.Zk x.1,v.raw x.2,n+j):=by
 apply List.ext_getElem?;intro i;rw[Vp,List.getElem?_set,List.getElem?_set,Qaw,Vp];split
 ·rename_i e;subst e;split<;>rfl
 ·rfl
theorem Qvc{k v:Qe}(l:List (k.El×v.El))(n:Nat)(x:k.El×v.El):Yn k v n (l++[x])=Yn k v n l++[(k.Zk x.1,v.raw x.2,n+l.length)]:=by
 apply List.ext_getElem?;intro i;rw[Vp,List.getElem?_append,List.getElem?_append,Qaw,Vp];split
 ·rfl
 ·rename_i h;by_cases e:i-l.length=0
  ·have:i=l.length:=by omega
   subst this;simp
  ·obtain⟨m,hm⟩:=Nat.exists_eq_succ_of_ne_zero e;rw[hm];simp
theorem Zan{d:TypeDesc}{k v:Qe}(hd:Y2 d k=true)(x:k.El):∀(l:List (k.El×v.El)) (n i:Nat),
  ∃r,Instr.findNow d (k.Zk x) (J3 (Yn k v n l)) i=some r∧r.map (·.1)=(Yi k.eqv x l i).map (·.1)
 |[],n,i=>⟨none,rfl,rfl⟩
 |y::l,n,i=>by
  obtain⟨r,h1,h2⟩:=Zan hd x l (n+1) (i+1);have hs:Instr.sameNow d (k.Zk x) (k.Zk y.1)=some (k.eqv x y.1):=by
   unfold Y2 at hd;split at hd
   ·rename_i a b;show Instr.sameNow (.int _) (.int b x) (.int b y.1)=some (Vh x y.1);simp only[Instr.sameNow,if_true];rfl
   ·show Instr.sameNow .string (.string x) (.string y.1)=some (Qf x y.1);have key:∀a b:ByteArray,Instr.sameNow .string (.string a) (.string b)=some (Qf a b):=fun a b=>by simp only[Instr.sameNow,Qge]
    exact key x y.1
   ·show Instr.sameNow .bool (.bool x) (.bool y.1)=some (Qbf x y.1);have key:∀a b:Bool,Instr.sameNow .bool (.bool a) (.bool b)=some (Qbf a b):=by decide
    exact key x y.1
   ·cases hd
  show∃r,Instr.findNow d (k.Zk x) ({key:=k.Zk y.1,val:=.bool false,born:=n}::J3 (Yn k v (n+1) l)) i=some r∧_;simp only[Instr.findNow,hs,Yi];cases k.eqv x y.1 with
  |true=>exact⟨_,rfl,rfl⟩
  |false=>exact⟨r,h1,h2⟩
theorem Zg2{P:Program}{kt:TypeId}{d:TypeDesc}(hu:P.underlying kt=some d){k v:Qe}(hd:Y2 d k=true)(x:k.El)(l:List (k.El×v.El)):
  V1 P kt (k.Zk x) (Yn k v 0 l)=some ((Yi k.eqv x l 0).map (·.1)):=by
 obtain⟨r,h1,h2⟩:=Zan hd x l 0 0;have:Yg P (Instr.findKey kt (k.Zk x) (J3 (Yn k v 0 l)))=some r:=by
  unfold Instr.findKey;rw[Qd6];have:Yg P (underlying kt)=some d:=by unfold underlying;rw[Qd6];show(some P).bind _=_;simp only[Option.bind_some,hu,Km]
  rw[this];simp only[Option.bind_some,h1,Km]
 unfold V1;rw[this];cases r with
 |none=>simp only[Option.map_none]at h2;rw[←h2]
 |some p=>simp only[Option.map_some]at h2;rw[←h2]
theorem Qry{K V:Type}{eq:K→K→Bool}{k:K}:∀{l:List (K×V)} {n j:Nat} {v:V},Yi eq k l n=some (j,v)→∃i e,j=n+i∧l[i]? =some e∧e.2=v∧eq k e.1=true
 |[],n,j,v,h=>by cases h
 |e::l,n,j,v,h=>by
  simp only[Yi]at h;split at h
  ·rename_i he;cases h;exact⟨0,e,rfl,rfl,rfl,he⟩
  ·obtain⟨i,e',h1,h2,h3,h4⟩:=Qry h;exact⟨i+1,e',by omega,by simpa using h2,h3,h4⟩
def Qe.ofZ:(a:Qe)→Value→Option a.El
 |a,z=>a.Un (.lit z)
def Ym{K V:Type}(eq:K→K→Bool)(k:K)(l:List (K×V))(z:V):V:=match Yi eq k l 0 with
 |some p=>p.2
 |none=>z
def Qb5{K V:Type}(eq:K→K→Bool)(k:K)(l:List (K×V)):Bool:=(Yi eq k l 0).isSome
def Ji{K V:Type}(eq:K→K→Bool)(k:K)(x:V)(l:List (K×V)):List (K×V):=match Yi eq k l 0 with
 |some p=>l.set p.1 (k,x)
 |none=>l++[(k,x)]
def Qhj{K V:Type}(eq:K→K→Bool)(k:K)(l:List (K×V)):Nat:=match Yi eq k l 0 with
 |some p=>p.1
 |none=>l.length
theorem X1.rep{M:Qc}{ρ:Env}{w:World}{s:Nat}{es:List Qy}{c:Nat}{p:Place}(h:X1 M ρ w s es c)(hp:ρ s=some p):∃arr,w.heap[p.block]? =some (.map arr c)∧X2 M ρ arr es:=by obtain⟨q,arr,h1,h2,h3,h4⟩:=h;rw[hp]at h1;cases h1;exact⟨arr,h2,h3,h4⟩
def Qxp(H:List Qa):Qj:=.eff (.mp H.length) (H++[.map [] 0]) [] []
theorem Zkn{P:Program}{M:Qc}{ρ:Env}{H:List Qa}{w:World}{K:Qm}(hm:Mem M ρ H w){t:TypeId}(h:(Qxp H).holds H K):Qp P (Instr.makeMap t none) M ρ H w K:=by
 have hrun:(Instr.makeMap t none).run P w=.ok (.map (some w.heap.size)) (w.alloc (.map #[] 0)):=by simp[Instr.makeMap]
 obtain⟨g1,g2⟩:=hm.alloc (w':=w.alloc (.map #[] 0)) (o:=.map #[] 0) (so:=.map [] 0) (cap:=0) rfl
  ⟨_,#[],Env.set_self ..,heap_alloc_new w _,rfl,fun i k x b hi=>by simp at hi⟩
 exact⟨_,_,hrun,_,_,[],[],M,_,h,.mp _ _ (Env.set_self ..),g1,g2⟩
def Qbe(P:Program)(tab:Qk)(H:List Qa)(t:Nat)(m k:SV)(ok:Bool):Qj:=
 match tab.lookup t with
 |some {desc:=.map kt et,..}=>match k with
  |.pv (.lit kv)=>match m with
   |.mp s=>match H[s]? with
    | some (.map es c)=>if Qcg P es.isEmpty kt kv then match V1 P kt kv es with
      |some (some j)=>match es[j]? with
       |some e=>.ok (if ok then .tup [e.2.1,.lit (.bool true)]else e.2.1)
       |none=>.fail
      |some none=>match tab.lookup et with
       |some i=>.ok (if ok then .tup [.lit i.zero,.lit (.bool false)]else .lit i.zero)
       |none=>.fail
      |none=>.fail
     else .fail
    |_=>.fail
   |.pv (.lit (.map none))=>if Qcg P true kt kv then match tab.lookup et,tab.lookup kt with
     |some i,some _=>.ok (if ok then .tup [.lit i.zero,.lit (.bool false)]else .lit i.zero)
     |_,_=>.fail
    else .fail
   |_=>.fail
  |_=>.fail
 |_=>.fail
theorem V5{M:Qc}{ρ:Env}{v:Value}{x:SV}{b ok:Bool}(h:Qd M ρ v x):Qd M ρ (if ok then .tuple #[v,.bool b]else v) (if ok then .tup [x,.lit (.bool b)]else x):=by
 cases ok with
 |false=>simpa using h
 |true=>
  simp only[if_true];refine .tup _ _ rfl fun i u y hu hy=>?_;match i with
  |0=>simp at hu hy;subst hu;subst hy;exact h
  |1=>simp at hu hy;subst hu;subst hy;exact .pv (.lit _)
  |i+2=>simp at hy
theorem Vx{P:Program}{t:TypeId}{i:TI}(h:Y3 P t i)(w:World):(zeroValue t).run P w=.ok i.zero w:=by obtain⟨n,hn,_,_,h3⟩:=h.inf;simp[zeroValue,typeInfo,hn,h3]
theorem Qo1{P:Program}{tab:Qk}(htab:Qu P tab){M:Qc}{ρ:Env}{H:List Qa}{w:World}{K:Qm}(hm:Mem M ρ H w){t:Nat}{m k:SV}{vm vk:Value}{ok:Bool}(hmr:Qd M ρ vm m)(hkr:Qd M ρ vk k)
  (h:(Qbe P tab H t m k ok).holds H K):Qp P (Instr.lookup t vm vk ok) M ρ H w K:=by
 unfold Qbe at h;split at h
 ·rename_i kt et sz' by' zr rw' hte;have hu:P.underlying t=some (.map kt et):=(htab.get hte).und;split at h
  ·rename_i kv;have:=hkr.Q7;subst this;split at h
   ·rename_i s;split at h
    ·rename_i es c ho;split at h
     ·rename_i hko;cases hmr with
      |mp _ p hp=>
       obtain⟨arr,hheap,hrep⟩:=(hm.own s _ ho).Qcn hp;have hempty:arr.isEmpty=es.isEmpty:=by have:=hrep.sz;simp only[Array.isEmpty,this];cases es<;>simp
       obtain⟨f1,f2⟩:=Ko (P:=P) (kt:=kt) (k:=vk) hrep w;have hget:=run_getObj_map (P:=P) hheap;have hkey:=Ut hko w;rw[←hempty]at hkey;split at h
       ·rename_i j hj;obtain⟨e,x,a1,a2,a3,a4,a5,a6⟩:=f2 j hj;rw[a2]at h;simp only at h;refine Qp.same hm ?_ (V5 (ok:=ok) (b:=true) a5) h;simp[Instr.lookup,run_underlying hu,hget,hkey,a6]
       ·rename_i hj;split at h
        ·rename_i i hi;refine Qp.same hm ?_ (V5 (ok:=ok) (b:=false) (.pv (.lit _))) h;simp[Instr.lookup,run_underlying hu,hget,hkey,f1 hj,Vx (htab.get hi)]
        ·exact h.elim
       ·exact h.elim
     ·exact h.elim
    ·exact h.elim
   ·split at h
    ·rename_i hko;have:=hmr.Q7;subst this;have hkey:=Ut hko w;split at h
     ·rename_i i ik hi hik;have hnone:(Instr.findKey kt vk []).run P w=.ok none w:=by simp only[Instr.findKey,Instr.findNow,Sem.run_bind,run_underlying (htab.get hik).und,Result.andThen_ok,Sem.run_pure]
      refine Qp.same hm ?_ (V5 (ok:=ok) (b:=false) (.pv (.lit _))) h;simp[Instr.lookup,run_underlying hu,hkey,hnone,Vx (htab.get hi)]
     ·exact h.elim
    ·exact h.elim
   ·exact h.elim
  ·exact h.elim
 ·exact h.elim
def Qls(P:Program)(tab:Qk)(H:List Qa)(t:Nat)(m k x:SV):Qj:=
 match tab.lookup t,m,k with
 |some {desc:=.map kt et,..},.mp s,.pv (.lit kv)=>match H[s]? with
  | some (.map es c)=>if Qcg P false kt kv then match V1 P kt kv es with
    |some (some j)=>match es[j]? with
     |some e=>if Instr.sameBits 10000 e.1 kv then .eff .any (H.set s (.map (es.set j (kv,x,e.2.2)) c)) [s] []else .fail
     |none=>.fail
    |some none=>.eff .any (H.set s (.map (es++[(kv,x,c)]) (c+1))) [s] []
    |none=>.fail
   else .fail
  |_=>.fail
 |_,_,_=>.fail
theorem Kn{P:Program}{w:World}{b:Nat}{es:Array MapEntry}{c:Nat}(h:w.heap[b]? =some (.map es c))(o:Obj):(setObj b o).run P w=.ok () {w with heap:=w.heap.setIfInBounds b o}:=by simp[setObj,Sem.run,h]
theorem Qnn{w:World}{b k:Nat}{o:Obj}(h:k≠b):(w.heap.setIfInBounds b o)[k]? =w.heap[k]? :=Array.getElem?_setIfInBounds_ne (Ne.symm h)
theorem X2.set{M:Qc}{ρ:Env}{arr:Array MapEntry}{es:List Qy}{j:Nat}{e:MapEntry}{k:Value}{v:Value}{x:SV}{b:Nat}(h:X2 M ρ arr es)(hj:arr[j]? =some e)(hx:Qd M ρ v x)(hb:e.born=b)
  (f:MapEntry→MapEntry) (hf:f e={e with key:=k,val:=v}):X2 M ρ (arr.modify j f) (es.set j (k,x,b)):=by
 refine⟨by simp[h.sz],fun i k' x' b' hi=>?_⟩;have hlt:j<arr.size:=(Array.getElem?_eq_some_iff.1 hj).1;rw[List.getElem?_set]at hi;split at hi
 ·rename_i e';subst e';rw[if_pos (by rw[←h.sz];exact hlt)]at hi;cases hi;refine⟨{e with key:=k,val:=v},?_,rfl,hb,hx⟩;rw[Array.getElem?_modify];simp[hj,hf]
 ·rename_i e';obtain⟨q,a1,a2⟩:=h.rep i k' x' b' hi;exact⟨q,by rw[Array.getElem?_modify,if_neg e'];exact a1,a2⟩
theorem X2.push{M:Qc}{ρ:Env}{arr:Array MapEntry}{es:List Qy}{k v:Value}{x:SV}{c:Nat}(h:X2 M ρ arr es)(hx:Qd M ρ v x):X2 M ρ (arr.push {key:=k,val:=v,born:=c}) (es++[(k,x,c)]):=by
 refine⟨by simp[h.sz],fun i k' x' b' hi=>?_⟩;rw[List.getElem?_append]at hi;split at hi
 ·rename_i hlt;obtain⟨q,a1,a2⟩:=h.rep i k' x' b' hi;exact⟨q,by rw[Array.getElem?_push];rw[if_neg (by rw[h.sz];omega)];exact a1,a2⟩
 ·rename_i hlt;have e:i=es.length:=by
   by_cases e:i=es.length
   ·exact e
   ·rw[List.getElem?_eq_none (by simp;omega)]at hi;cases hi
  subst e;simp at hi;obtain⟨rfl,rfl,rfl⟩:=hi;exact⟨_,by rw[Array.getElem?_push,if_pos h.sz.symm],rfl,rfl,hx⟩
theorem Qgc{P:Program}{M:Qc}{ρ:Env}{H:List Qa}{w:World}{K:Qm}(hm:Mem M ρ H w){s:Nat}{es es':List Qy}{c c':Nat}{p:Place}{arr arr':Array MapEntry}(ho:H[s]? =some (.map es c))(hp:ρ s=some p)
  (hheap:w.heap[p.block]? =some (.map arr c)) (hr:X2 M ρ arr' es'):Mem M ρ (H.set s (.map es' c')) {w with heap:=w.heap.setIfInBounds p.block (.map arr' c')}∧Fr M ρ H w M ρ (H.set s (.map es' c')) {w with heap:=w.heap.setIfInBounds p.block (.map arr' c')} H.length [s] []:=by
 have hlt:p.block<w.heap.size:=(Array.getElem?_eq_some_iff.1 hheap).1;exact hm.put ho rfl hp (fun b hb=>Qnn hb) (by simp) rfl ⟨p,arr',hp,by simp[hlt],hr.sz,hr.rep⟩
theorem Qx6{P:Program}{tab:Qk}(htab:Qu P tab){M:Qc}{ρ:Env}{H:List Qa}{w:World}{K:Qm}(hm:Mem M ρ H w){t:Nat}{m k x:SV}{vm vk v:Value}(hmr:Qd M ρ vm m)(hkr:Qd M ρ vk k)(hx:Qd M ρ v x)
  (h:(Qls P tab H t m k x).holds H K):Ub P (Instr.mapUpdate t vm vk v) M ρ H w K:=by
 unfold Qls at h;split at h
 ·rename_i kt et sz' by' zr rw' s kv hte;have hu:P.underlying t=some (.map kt et):=(htab.get hte).und;have:=hkr.Q7;subst this;split at h
  ·rename_i es c ho;split at h
   ·rename_i hko;cases hmr with
    |mp _ p hp=>
     obtain⟨arr,hheap,hrep⟩:=(hm.own s _ ho).Qcn hp;obtain⟨f1,f2⟩:=Ko (P:=P) (kt:=kt) (k:=vk) hrep w;have hget:=run_getObj_map (P:=P) hheap;have hkey:=Ut hko w;split at h
     ·rename_i j hj;obtain⟨e,x',a1,a2,a3,a4,a5,a6⟩:=f2 j hj;rw[a2]at h;simp only at h;split at h
      ·rename_i hsb;have hks:(Instr.keyThatStays (((arr[j]?).map (·.key)).getD vk) vk).run P w=.ok vk w:=by rw[a1];simp only[Option.map_some,Option.getD_some,a3];simp[Instr.keyThatStays,hsb]
       obtain⟨g1,g2⟩:=Qgc (P:=P) (K:=K) (c':=c) hm ho hp hheap (hrep.set a1 hx a4 (fun e=>{e with key:=vk,val:=v}) rfl);refine⟨_,?_,.any,_,[s],[],M,ρ,h,rfl,g1,g2⟩;simp[Instr.mapUpdate,run_underlying hu,hget,hkey,a6,hks,Kn hheap]
      ·exact h.elim
     ·rename_i hj;obtain⟨g1,g2⟩:=Qgc (P:=P) (K:=K) (c':=c+1) hm ho hp hheap (hrep.push (k:=vk) (c:=c) hx);refine⟨_,?_,.any,_,[s],[],M,ρ,h,rfl,g1,g2⟩;simp[Instr.mapUpdate,run_underlying hu,hget,hkey,f1 hj,Kn hheap]
     ·exact h.elim
   ·exact h.elim
  ·exact h.elim
 ·exact h.elim
def Qjw(P:Program)(tab:Qk)(H:List Qa)(t:Nat)(m k:SV):Qj:=
 match tab.lookup t,m,k with
 |some {desc:=.map kt et,..},.mp s,.pv (.lit kv)=>match H[s]? with
  | some (.map es c)=>if Qcg P false kt kv then match V1 P kt kv es with
    |some (some j)=>match es[j]? with
     |some e=>if Instr.sameBits 10000 e.1 kv then .eff (.tup [e.2.1,.lit (.int .i64 e.2.2)]) (H.set s (.map (es.set j (kv,e.2.1,e.2.2)) c)) [s] []else .fail
     |none=>.fail
    |some none=>match tab.lookup et with
     |some i=>.eff (.tup [.lit i.zero,.lit (.int .i64 c)]) (H.set s (.map (es++[(kv,.lit i.zero,c)]) (c+1))) [s] []
     |none=>.fail
    |none=>.fail
   else .fail
  |_=>.fail
 |_,_,_=>.fail
theorem Qmp{M:Qc}{ρ:Env}{v u:Value}{x y:SV}(h:Qd M ρ v x)(k:Qd M ρ u y):Qd M ρ (.tuple #[v,u]) (.tup [x,y]):=by
 refine .tup _ _ rfl fun i a b ha hb=>?_;match i with
 |0=>simp at ha hb;subst ha;subst hb;exact h
 |1=>simp at ha hb;subst ha;subst hb;exact k
 |i+2=>simp at hb
theorem Qtp{P:Program}{tab:Qk}(htab:Qu P tab){M:Qc}{ρ:Env}{H:List Qa}{w:World}{K:Qm}(hm:Mem M ρ H w){t:Nat}{m k:SV}{vm vk:Value}(hmr:Qd M ρ vm m)(hkr:Qd M ρ vk k)
  (h:(Qjw P tab H t m k).holds H K):Qp P (Instr.mapEntry t vm vk) M ρ H w K:=by
 unfold Qjw at h;split at h
 ·rename_i kt et sz' by' zr rw' s kv hte;have hu:P.underlying t=some (.map kt et):=(htab.get hte).und;have:=hkr.Q7;subst this;split at h
  ·rename_i es c ho;split at h
   ·rename_i hko;cases hmr with
    |mp _ p hp=>
     obtain⟨arr,hheap,hrep⟩:=(hm.own s _ ho).Qcn hp;obtain⟨f1,f2⟩:=Ko (P:=P) (kt:=kt) (k:=vk) hrep w;have hget:=run_getObj_map (P:=P) hheap;have hkey:=Ut hko w;split at h
     ·rename_i j hj;obtain⟨e,x',a1,a2,a3,a4,a5,a6⟩:=f2 j hj;rw[a2]at h;simp only at h;split at h
      ·rename_i hsb;have hks:(Instr.keyThatStays e.key vk).run P w=.ok vk w:=by rw[a3];simp[Instr.keyThatStays,hsb]
       obtain⟨g1,g2⟩:=Qgc (P:=P) (K:=K) (c':=c) hm ho hp hheap (hrep.set a1 a5 a4 (fun e=>{e with key:=vk}) rfl);refine⟨.tuple #[e.val,goInt e.born],_,?_,_,_,[s],[],M,ρ,h,?_,g1,g2⟩
       ·simp[Instr.mapEntry,run_underlying hu,hget,hkey,a6,hks,Kn hheap,a1]
       ·rw[a4];exact Qmp a5 (.pv (.lit _))
      ·exact h.elim
     ·rename_i hj;split at h
      ·rename_i i hi;obtain⟨g1,g2⟩:=Qgc (P:=P) (K:=K) (c':=c+1) hm ho hp hheap (hrep.push (k:=vk) (c:=c) (v:=i.zero) (x:=.lit i.zero) (.pv (.lit _)));refine⟨.tuple #[i.zero,goInt c],_,?_,_,_,[s],[],M,ρ,h,Qmp (.pv (.lit _)) (.pv (.lit _)),g1,g2⟩;simp[Instr.mapEntry,run_underlying hu,hget,hkey,f1 hj,Kn hheap,Vx (htab.get hi)]
      ·exact h.elim
     ·exact h.elim
   ·exact h.elim
  ·exact h.elim
 ·exact h.elim
def Qlm(H:List Qa)(m st x:SV):Qj:=
 match m,st with
 |.mp s,.pv (.lit (.int _ n))=>match H[s]? with
  |some (.map es c)=>match es.findIdx? (fun e=>(e.2.2:Int)==n)with
   |some j=>match es[j]? with
    |some e=>.eff .any (H.set s (.map (es.set j (e.1,x,e.2.2)) c)) [s] []
    |none=>.fail
   |none=>.fail
  |_=>.fail
 |_,_=>.fail
theorem Zae{P:Program}{M:Qc}{ρ:Env}{H:List Qa}{w:World}{K:Qm}(hm:Mem M ρ H w){t:Nat}{m st x:SV}{vm vs v:Value}(hmr:Qd M ρ vm m)(hst:Qd M ρ vs st)(hx:Qd M ρ v x)
  (h:(Qlm H m st x).holds H K):Ub P (Instr.entryStore t vm vs v) M ρ H w K:=by
 unfold Qlm at h;split at h
 ·rename_i s k n;have:=hst.Q7;subst this;split at h
  ·rename_i es c ho;split at h
   ·rename_i j hj;split at h
    ·rename_i e he;cases hmr with
     |mp _ p hp=>
      obtain⟨arr,hheap,hrep⟩:=(hm.own s _ ho).Qcn hp;obtain⟨q,a1,a2,a3,a4⟩:=hrep.rep j e.1 e.2.1 e.2.2 he;have hget:=run_getObj_map (P:=P) hheap;have hidx:arr.findIdx? (fun e=>(e.born:Int)==n)=some j:=by
       have hborn:∀i:Nat,(arr[i]?).map (fun e=>(e.born:Int)==n)=(es[i]?).map (fun e=>(e.2.2:Int)==n):=fun i=>by
        by_cases hi:i<es.length
        ·obtain⟨z,b1,b2,b3,_⟩:=hrep.rep i es[i].1 es[i].2.1 es[i].2.2 (by simp[hi]);rw[b1];simp[hi,b3]
        ·rw[List.getElem?_eq_none (by omega),Array.getElem?_eq_none (by rw[hrep.sz];omega)];rfl
       rw[List.findIdx?_eq_some_iff_getElem]at hj;rw[Array.findIdx?_eq_some_iff_getElem];obtain⟨c1,c2,c3⟩:=hj;have hl:j<arr.size:=by rw[hrep.sz];exact c1
       refine⟨hl,?_,fun i hi=>?_⟩
       ·have:=hborn j;simp only[Array.getElem?_eq_getElem hl,List.getElem?_eq_getElem c1,Option.map_some,Option.some.injEq]at this;rw[this];exact c2
       ·have hi2:i<arr.size:=by omega
        have hi3:i<es.length:=by omega
        have:=hborn i;simp only[Array.getElem?_eq_getElem hi2,List.getElem?_eq_getElem hi3,Option.map_some,Option.some.injEq]at this;rw[this];exact c3 i hi
      obtain⟨g1,g2⟩:=Qgc (P:=P) (K:=K) (c':=c) hm ho hp hheap (hrep.set (k:=e.1) a1 hx a3 (fun e=>{e with val:=v}) (by rw[←a2]));refine⟨_,?_,.any,_,[s],[],M,ρ,h,rfl,g1,g2⟩;simp[Instr.entryStore,hget,asInt,asIntOf,hidx,Kn hheap]
    ·exact h.elim
   ·exact h.elim
  ·exact h.elim
 ·exact h.elim
theorem Zop{P:Program}{M:Qc}{ρ:Env}{arr:Array MapEntry}{kt:TypeId}{d:TypeDesc}(hu:P.underlying kt=some d){k v:Qe}(hd:Y2 d k=true){l:List (k.El×v.El)}(hr:X2 M ρ arr (Yn k v 0 l))(x:k.El)(w:World):
  (Yi k.eqv x l 0=none→(Instr.findKey kt (k.Zk x) arr.toList).run P w=.ok none w)∧
  (∀j y,Yi k.eqv x l 0=some (j,y)→∃e,arr[j]? =some e∧j<l.length∧e.key=k.Zk x∧e.born=j∧Qd M ρ e.val (v.raw y)∧(Instr.findKey kt (k.Zk x) arr.toList).run P w=.ok (some (j,e.val)) w):=by
 obtain⟨f1,f2⟩:=Ko (P:=P) (kt:=kt) (k:=k.Zk x) hr w;have hs:=Zg2 (P:=P) hu hd x l;refine⟨fun h=>f1 (by rw[hs,h];rfl),fun j y h=>?_⟩;obtain⟨e,z,a1,a2,a3,a4,a5,a6⟩:=f2 j (by rw[hs,h];rfl);obtain⟨i,q,b1,b2,b3,b4⟩:=Qry h;have:i=j:=by omega
 subst this;rw[Vp,b2]at a2;simp only[Option.map_some,Option.some.injEq]at a2;subst a2;have hk:=Qe.eqv_ok k _ _ b4;refine⟨e,a1,(List.getElem?_eq_some_iff.1 b2).1,by rw[a3,←hk],by rw[a4];simp,by rw[←b3];exact a5,a6⟩
theorem Zb3{M:Qc}{ρ:Env}:∀{a:Qe} (hs:a.scalar=true) (x:a.El),Qd M ρ (a.Zk x) (a.raw x)
 |.val (.int _),_,_=>.pv (.lit _)
 |.val .str,_,_=>.pv (.lit _)
 |.val .bool,_,_=>.pv (.lit _)
 |.val (.seq _),hs,_=>by cases hs
 |.agg row,hs,x=>by have e:=Qrt row x hs;show Qd M ρ (.agg (Jd row x).toArray) (.agg ((Q5 row x).map .pv));rw[e];refine .agg _ _ (by simp) fun i v y hv hy=>?_;simp only[List.getElem?_map,Option.map_eq_some_iff]at hy;obtain⟨q,⟨u,hu,rfl⟩,rfl⟩:=hy;rw[List.getElem?_toArray,hu]at hv;cases hv;exact .pv (.lit _)
theorem Zgg{P:Program}{tab:Qk}(htab:Qu P tab){kt:Nat}{i:TI}(hi:tab.lookup kt=some i){a:Qe}(h:Vg P tab kt i.desc a=true)(x y:a.El)(w:World):(Op.equal kt (a.Zk x) (a.Zk y)).run P w=.ok (a.eqv x y) w:=
 Qjm htab (M:=fun _=>none) (ρ:=fun _=>none) w 2 kt (a.raw x) (a.raw y) _ _ _ (Ze8 (d:=i.desc) hi h x y) (Zb3 (Qrg h) x) (Zb3 (Qrg h) y) Op.maxDepth (by decide)
theorem Qyt{P:Program}{tab:Qk}(htab:Qu P tab){kt:Nat}{i:TI}(hi:tab.lookup kt=some i){k v:Qe}(h:Vg P tab kt i.desc k=true)(x:k.El)(w:World):∀(l:List (k.El×v.El)) (es:List MapEntry) (n:Nat),
  es.length=l.length→(∀(j:Nat) (z:k.El×v.El),l[j]? =some z→∃e:MapEntry,es[j]? =some e∧e.key=k.Zk z.1)→
  (Yi k.eqv x l n=none→(Instr.findAsking kt (k.Zk x) es n).run P w=.ok none w)∧(∀j y,Yi k.eqv x l n=some (j,y)→∃e,n≤j∧es[j-n]? =some e∧(Instr.findAsking kt (k.Zk x) es n).run P w=.ok (some (j,e.val)) w)
 |[],[],n,_,_=>⟨fun _=>by simp[Instr.findAsking],fun j y hf=>by cases hf⟩
 |[],_::_,n,hl,_=>by simp at hl
 |_::_,[],n,hl,_=>by simp at hl
 |z::l,e::es,n,hl,hk=>by
  obtain⟨e',g1,g2⟩:=hk 0 z rfl;simp only[List.getElem?_cons_zero,Option.some.injEq]at g1;subst g1;have he:=Zgg htab hi h x z.1 w;rw[←g2]at he;obtain⟨ih1,ih2⟩:=Qyt htab hi h x w l es (n+1) (by simpa using hl) (fun j z hz=>by simpa using hk (j+1) z (by simpa using hz));simp only[Yi,Instr.findAsking,Sem.run_bind,he,Result.andThen_ok];cases k.eqv x z.1 with
  |true=>exact⟨fun hf=>(by cases hf),fun j y hf=>(by cases hf;exact⟨e,Nat.le_refl _,by simp,by simp⟩)⟩
  |false=>refine⟨fun hf=>by simpa using ih1 hf,fun j y hf=>?_⟩;obtain⟨e2,q1,q2,q3⟩:=ih2 j y hf;refine⟨e2,by omega,?_,by simpa using q3⟩;rw[show j-n=(j-(n+1))+1 by omega];simpa using q2
theorem Zvp{P:Program}{tab:Qk}{kt:Nat}{d:TypeDesc}{k:Qe}(h:Vg P tab kt d k=true)(x:k.El)(e:MapEntry)(es:List MapEntry)(n:Nat):Instr.findNow d (k.Zk x) (e::es) n=none:=by
 have hs:∀u,Instr.sameNow d (k.Zk x) u=none:=by
  intro u;unfold Vg at h;split at h
  ·split at h
   ·rfl
   ·rfl
   ·cases h
  ·cases h
 simp only[Instr.findNow,hs]
theorem Qb1{P:Program}{tab:Qk}(htab:Qu P tab){M:Qc}{ρ:Env}{arr:Array MapEntry}{kt:TypeId}{i:TI}(hi:tab.lookup kt=some i){k v:Qe}(hd:K3 P tab kt i.desc k=true){l:List (k.El×v.El)}(hr:X2 M ρ arr (Yn k v 0 l))(x:k.El)(w:World):
  (Yi k.eqv x l 0=none→(Instr.findKey kt (k.Zk x) arr.toList).run P w=.ok none w)∧
  (∀j y,Yi k.eqv x l 0=some (j,y)→∃e,arr[j]? =some e∧j<l.length∧e.key=k.Zk x∧e.born=j∧Qd M ρ e.val (v.raw y)∧(Instr.findKey kt (k.Zk x) arr.toList).run P w=.ok (some (j,e.val)) w):=by
 have hu:=(htab.get hi).und;unfold K3 at hd;split at hd
 ·rename_i hd';exact Zop hu hd' hr x w
 ·have hlen:arr.toList.length=l.length:=by have:=hr.sz;rw[Qaw]at this;simpa using this
  have hkeys:∀(j:Nat) (z:k.El×v.El),l[j]? =some z→∃e:MapEntry,arr.toList[j]? =some e∧e.key=k.Zk z.1:=fun j z hz=>by obtain⟨e,a1,a2,_⟩:=hr.rep j (k.Zk z.1) (v.raw z.2) (0+j) (by rw[Vp,hz];rfl);exact⟨e,by rw[Array.getElem?_toList];exact a1,a2⟩
  obtain⟨f1,f2⟩:=Qyt htab hi hd x w l arr.toList 0 hlen hkeys;have hfk:∀r,(Yi k.eqv x l 0=none∨∃q,Yi k.eqv x l 0=some q)→(Instr.findAsking kt (k.Zk x) arr.toList 0).run P w=.ok r w→(Instr.findKey kt (k.Zk x) arr.toList).run P w=.ok r w:=fun r _ hrun=>by
   unfold Instr.findKey;simp only[Sem.run_bind,run_underlying hu,Result.andThen_ok];cases hl:arr.toList with
   |nil=>rw[hl]at hrun;simp only[Instr.findAsking,Sem.run_pure]at hrun;simp only[Instr.findNow,Sem.run_pure];exact hrun
   |cons e es=>rw[Zvp hd x e es 0];rw[hl]at hrun;exact hrun
  refine⟨fun h=>hfk _ (.inl h) (f1 h),fun j y h=>?_⟩;obtain⟨e,_,q2,q3⟩:=f2 j y h;obtain⟨i',q,b1,b2,b3,b4⟩:=Qry h;have e0:i'=j:=by omega
  subst e0;have hk:=Qe.eqv_ok k _ _ b4;obtain⟨e2,a1,a2,a3,a4⟩:=hr.rep i' (k.Zk q.1) (v.raw q.2) (0+i') (by rw[Vp,b2];rfl);have:e2=e:=by rw[Nat.sub_zero,Array.getElem?_toList,a1]at q2;exact Option.some.inj q2
  subst this;exact⟨e2,a1,(List.getElem?_eq_some_iff.1 b2).1,by rw[a2,←hk],by rw[a3];simp,by rw[←b3];exact a4,hfk _ (.inr ⟨_,h⟩) q3⟩
def Qsc(P:Program)(tab:Qk)(H:List Qa)(kt et:Nat)(ka va:Qe)(l:List (ka.El×va.El))(k:SV)(ok:Bool):Qj:=
 match tab.lookup kt with
 |none=>.fail
 |some ik=>match K3 P tab kt ik.desc ka with
  |false=>.fail
  |true=>match tab.lookup et with
   |none=>.fail
   |some ie=>match ka.Un k with
    |none=>.fail
    |some kx=>match va.ofZ ie.zero with
     |none=>.fail
     |some z=>.ok (if ok then .tup [va.raw (Ym ka.eqv kx l z),.lit (.bool (Qb5 ka.eqv kx l))]else va.raw (Ym ka.eqv kx l z))
def Qnx:TypeDesc→Value→Value→Option Bool
 |.int _,.int k a,.int k' b=>match decide (k=k')with
  |true=>some (decide (a=b))
  |false=>none
 |.string,.string a,.string b=>some (Qf a b)
 |.bool,.bool a,.bool b=>some (Qbf a b)
 |_,_,_=>none
theorem Zwt{d:TypeDesc}{a b:Value}{c:Bool}(h:Qnx d a b=some c):Instr.sameNow d a b=some c:=by
 unfold Qnx at h;split at h
 ·rename_i k' a k b;split at h
  ·rename_i e;have e:=of_decide_eq_true e;subst e;simp only[Instr.sameNow,if_true];rw[←h];rfl
  ·cases h
 ·simp only[Instr.sameNow,Qge];exact h
 ·rename_i a b;cases a<;>cases b<;>(rw[←h];rfl)
 ·cases h
def Qmg(d:TypeDesc)(kv:Value)(nf:Qj)(ok:Bool):List Qy→Qj
 |[]=>nf
 |e::es=>match Qnx d kv e.1 with
  |some c=>.split c (.ok (if ok then .tup [e.2.1,.lit (.bool true)]else e.2.1)) (Qmg d kv nf ok es)
  |none=>.fail
theorem Qz5{H:List Qa}{K:Qm}{d:TypeDesc}{kv:Value}{nf:Qj}{ok:Bool}:∀(es:List Qy) (i:Nat),(Qmg d kv nf ok es).holds H K→
  (∃j e,es[j]? =some e∧Instr.findNow d kv (J3 es) i=some (some (i+j,.bool false))∧K (if ok then .tup [e.2.1,.lit (.bool true)]else e.2.1) H [] [])∨
  (Instr.findNow d kv (J3 es) i=some none∧nf.holds H K)
 |[],i,h=>.inr ⟨rfl,h⟩
 |e::es,i,h=>by
  simp only[Qmg]at h;split at h
  ·rename_i c hc;have hs:=Zwt hc;have hd:J3 (e::es)={key:=e.1,val:=.bool false,born:=e.2.2}::J3 es:=rfl;rw[hd];simp only[Instr.findNow,hs];cases c with
   |true=>exact .inl ⟨0,e,rfl,rfl,h.1 rfl⟩
   |false=>
    rcases Qz5 es (i+1) (h.2 rfl)with⟨j,e',h1,h2,h3⟩|⟨h1,h2⟩
    ·exact .inl ⟨j+1,e',by simpa using h1,by rw[h2];simp;omega,h3⟩
    ·exact .inr ⟨h1,h2⟩
  ·exact h.elim
def Zgq:TypeDesc→Bool
 |.int _=>true
 |.string=>true
 |.bool=>true
 |_=>false
def Qq3(P:Program)(tab:Qk)(kt et:Nat)(es:List Qy)(k:SV)(ok:Bool):Qj:=match k with
 |.pv (.lit kv)=>match tab.lookup kt with
  |none=>.fail
  |some ik=>match Qcg P es.isEmpty kt kv with
   |false=>.fail
   |true=>Qmg ik.desc kv (match tab.lookup et with
    |some i=>.ok (if ok then .tup [.lit i.zero,.lit (.bool false)]else .lit i.zero)
    |none=>.fail) ok es
 |_=>.fail
theorem Qx2{P:Program}{tab:Qk}(htab:Qu P tab){M:Qc}{ρ:Env}{H:List Qa}{K:Qm}{kt et:Nat}{es:List Qy}{k:SV}{vk:Value}{ok:Bool}(hkr:Qd M ρ vk k)
  (h:(Qq3 P tab kt et es k ok).holds H K) {arr:Array MapEntry} (hrep:X2 M ρ arr es):∃ v x,K x H [] [] ∧ Qd M ρ v x ∧
   ∀(w:World) (t b:Nat) (c:Nat),P.underlying t=some (.map kt et)→w.heap[b]? =some (.map arr c)→(Instr.lookup t (.map (some b)) vk ok).run P w=.ok v w:=by
 unfold Qq3 at h;split at h
 ·rename_i kv;have:=hkr.Q7;subst this;split at h
  ·exact h.elim
  ·rename_i ik hik;split at h
   ·exact h.elim
   ·rename_i hko;have hdk:P.underlying kt=some ik.desc:=(htab.get hik).und;have hempty:arr.isEmpty=es.isEmpty:=by have:=hrep.sz;simp only[Array.isEmpty,this];cases es<;>simp
    have hseek:∀r,Instr.findNow ik.desc vk (J3 es) 0=some r→V1 P kt vk es=some (r.map (·.1)):=fun r hr=>by
     have:Yg P (Instr.findKey kt vk (J3 es))=some r:=by
      unfold Instr.findKey;rw[Qd6];have:Yg P (underlying kt)=some ik.desc:=by unfold underlying;rw[Qd6];show(some P).bind _=_;simp only[Option.bind_some,hdk,Km]
      rw[this];simp only[Option.bind_some,hr,Km]
     unfold V1;rw[this];cases r with
     |none=>rfl
     |some p=>rfl
    rcases Qz5 es 0 h with⟨j,e,h1,h2,h3⟩|⟨h1,h2⟩
    ·obtain⟨me,x,a1,a2,a3,a4,a5,_⟩:=(Ko (P:=P) (kt:=kt) (k:=vk) hrep default).2 j (by rw[hseek _ h2];simp);rw[h1]at a2;cases a2;refine⟨_,_,h3,V5 (ok:=ok) (b:=true) a5,fun w t b c hu hheap=>?_⟩;obtain⟨me',x',b1,_,_,_,_,b6⟩:=(Ko (P:=P) (kt:=kt) (k:=vk) hrep w).2 j (by rw[hseek _ h2];simp);rw[a1]at b1;cases b1;have hkey:=Ut hko w;rw[←hempty]at hkey;simp[Instr.lookup,run_underlying hu,run_getObj_map (P:=P) hheap,hkey,b6]
    ·split at h2
     ·rename_i i hi;refine⟨_,_,h2,V5 (ok:=ok) (b:=false) (.pv (.lit _)),fun w t b c hu hheap=>?_⟩;have hkey:=Ut hko w;rw[←hempty]at hkey;simp[Instr.lookup,run_underlying hu,run_getObj_map (P:=P) hheap,hkey,(Ko (P:=P) (kt:=kt) (k:=vk) hrep w).1 (by rw[hseek _ h1];rfl),Vx (htab.get hi)]
     ·exact h2.elim
 ·exact h.elim
def Qhs(P:Program)(tab:Qk)(H:List Qa)(t:Nat)(m k:SV)(ok:Bool):Qj:=
 match m with
 |.mp s=>match H[s]? with
  |some (.tmap ka va l)=>match tab.lookup t with
   |some {desc:=.map kt et,..}=>Qsc P tab H kt et ka va l k ok
   |_=>.fail
  |some (.map es c)=>match tab.lookup t with
   |some {desc:=.map kt et,..}=>match tab.lookup kt with
    |some ik=>match Zgq ik.desc with
     |true=>Qq3 P tab kt et es k ok
     |false=>Qbe P tab H t m k ok
    |none=>.fail
   |_=>.fail
  |_=>Qbe P tab H t m k ok
 |_=>Qbe P tab H t m k ok
theorem Zbq{P:Program}{tab:Qk}(htab:Qu P tab){M:Qc}{ρ:Env}{H:List Qa}{K:Qm}{kt et:Nat}{ka va:Qe}{l:List (ka.El×va.El)}{k:SV}{vk:Value}{ok:Bool}(hkr:Qd M ρ vk k)
  (h:(Qsc P tab H kt et ka va l k ok).holds H K) {arr:Array MapEntry} (hr:X2 M ρ arr (Yn ka va 0 l)):∃ v x,K x H [] [] ∧ Qd M ρ v x ∧
   ∀(w:World) (t b:Nat) (c:Nat),P.underlying t=some (.map kt et)→w.heap[b]? =some (.map arr c)→(Instr.lookup t (.map (some b)) vk ok).run P w=.ok v w:=by
 unfold Qsc at h;split at h
 ·exact h.elim
 ·rename_i ik hik;split at h
  ·exact h.elim
  ·rename_i hd;split at h
   ·exact h.elim
   ·rename_i ie hie;split at h
    ·exact h.elim
    ·rename_i kx hkx;split at h
     ·exact h.elim
     ·rename_i z hz;have hvk:=Qlb (Qgt hd) (Qe.Qau hkx hkr);subst hvk;have hdk:P.underlying kt=some ik.desc:=(htab.get hik).und;have hzr:Qd M ρ ie.zero (va.raw z):=Qe.Qau (M:=M) (ρ:=ρ) hz (.pv (.lit _));cases hf:Yi ka.eqv kx l 0 with
      |none=>
       refine⟨_,_,h,V5 (v:=ie.zero) (b:=Qb5 ka.eqv kx l) (ok:=ok) (by unfold Ym;rw[hf];exact hzr),fun w t b c hu hheap=>?_⟩;have hb:Qb5 ka.eqv kx l=false:=by unfold Qb5;rw[hf];rfl
       rw[hb];simp[Instr.lookup,run_underlying hu,run_getObj_map (P:=P) hheap,Qcy htab hik hd,(Qb1 htab hik hd hr kx w).1 hf,Vx (htab.get hie)]
      |some q=>
       obtain⟨j,y⟩:=q;obtain⟨e,a1,a2,a3,a4,a5,_⟩:=(Qb1 htab hik hd hr kx default).2 j y hf;refine⟨_,_,h,V5 (v:=e.val) (b:=Qb5 ka.eqv kx l) (ok:=ok) (by unfold Ym;rw[hf];exact a5),fun w t b c hu hheap=>?_⟩;have hb:Qb5 ka.eqv kx l=true:=by unfold Qb5;rw[hf];rfl
       rw[hb];obtain⟨e',b1,_,_,_,_,b6⟩:=(Qb1 htab hik hd hr kx w).2 j y hf;rw[a1]at b1;cases b1;simp[Instr.lookup,run_underlying hu,run_getObj_map (P:=P) hheap,Qcy htab hik hd,b6]
theorem Zly{P:Program}{tab:Qk}(htab:Qu P tab){M:Qc}{ρ:Env}{H:List Qa}{w:World}{K:Qm}(hm:Mem M ρ H w){t:Nat}{m k:SV}{vm vk:Value}{ok:Bool}(hmr:Qd M ρ vm m)(hkr:Qd M ρ vk k)
  (h:(Qhs P tab H t m k ok).holds H K):Qp P (Instr.lookup t vm vk ok) M ρ H w K:=by
 unfold Qhs at h;split at h
 ·rename_i s;split at h
  ·rename_i ka va l ho;split at h
   ·rename_i kt et _ _ _ _ hte;cases hmr with
    |mp _ p hp=>obtain⟨arr,hheap,hrep⟩:=X1.rep (hm.own s _ ho) hp;obtain⟨v,x,h1,h2,h3⟩:=Zbq htab hkr h hrep;exact Qp.same hm (h3 w t p.block _ (htab.get hte).und hheap) h2 h1
   ·exact h.elim
  ·rename_i es c ho;split at h
   ·rename_i kt et _ _ _ _ hte;split at h
    ·split at h
     ·cases hmr with
      |mp _ p hp=>obtain⟨arr,hheap,hrep⟩:=(hm.own s _ ho).Qcn hp;obtain⟨v,x,h1,h2,h3⟩:=Qx2 htab hkr h hrep;exact Qp.same hm (h3 w t p.block _ (htab.get hte).und hheap) h2 h1
     ·exact Qo1 htab hm hmr hkr h
    ·exact h.elim
   ·exact h.elim
  ·exact Qo1 htab hm hmr hkr h
 ·exact Qo1 htab hm hmr hkr h
theorem Qhc{P:Program}{M:Qc}{ρ:Env}{H:List Qa}{w:World}{s:Nat}{ka va:Qe}{l l':List (ka.El×va.El)}{p:Place}{arr arr':Array MapEntry}(hm:Mem M ρ H w)(ho:H[s]? =some (.tmap ka va l))(hp:ρ s=some p)
  (hheap:w.heap[p.block]? = some (.map arr l.length)) (hr:X2 M ρ arr' (Yn ka va 0 l')):Mem M ρ (H.set s (.tmap ka va l')) { w with heap := w.heap.setIfInBounds p.block (.map arr' l'.length) } ∧
   Fr M ρ H w M ρ (H.set s (.tmap ka va l')) {w with heap:=w.heap.setIfInBounds p.block (.map arr' l'.length)} H.length [s] []:=by
 have hlt:p.block<w.heap.size:=(Array.getElem?_eq_some_iff.1 hheap).1;exact hm.put ho rfl hp (fun b hb=>Qnn hb) (by simp) rfl ⟨p,arr',hp,by simp[hlt],hr.sz,hr.rep⟩
def Qkf(P:Program)(tab:Qk)(H:List Qa)(t:Nat)(m k x:SV):Qj:=
 match m with
 |.mp s=>match H[s]? with
  |some (.tmap ka va l)=>match tab.lookup t with
   |some {desc:=.map kt et,..}=>match tab.lookup kt with
    |none=>.fail
    |some ik=>match K3 P tab kt ik.desc ka with
     |false=>.fail
     |true=>match ka.Un k with
      |none=>.fail
      |some kx=>match va.Un x with
       |none=>.fail
       |some y=>.eff .any (H.set s (.tmap ka va (Ji ka.eqv kx y l))) [s] []
   |_=>.fail
  |_=>Qls P tab H t m k x
 |_=>Qls P tab H t m k x
theorem Qtv{P:Program}{tab:Qk}(htab:Qu P tab){M:Qc}{ρ:Env}{H:List Qa}{w:World}{K:Qm}(hm:Mem M ρ H w){t:Nat}{m k x:SV}{vm vk v:Value}(hmr:Qd M ρ vm m)(hkr:Qd M ρ vk k)(hx:Qd M ρ v x)
  (h:(Qkf P tab H t m k x).holds H K):Ub P (Instr.mapUpdate t vm vk v) M ρ H w K:=by
 unfold Qkf at h;split at h
 ·rename_i s;split at h
  ·rename_i ka va l ho;split at h
   ·rename_i kt et _ _ _ _ hte;have hu:P.underlying t=some (.map kt et):=(htab.get hte).und;split at h
    ·exact h.elim
    ·rename_i ik hik;split at h
     ·exact h.elim
     ·rename_i hd;split at h
      ·exact h.elim
      ·rename_i kx hkx;split at h
       ·exact h.elim
       ·rename_i y hy;have hvk:=Qlb (Qgt hd) (Qe.Qau hkx hkr);subst hvk;have hdk:P.underlying kt=some ik.desc:=(htab.get hik).und;have hyr:=Qe.Qau hy hx;cases hmr with
        |mp _ p hp=>
         obtain⟨arr,hheap,hrep⟩:=X1.rep (hm.own s _ ho) hp;have hget:=run_getObj_map (P:=P) hheap;cases hf:Yi ka.eqv kx l 0 with
         |none=>
          have hl':Ji ka.eqv kx y l=l++[(kx,y)]:=by unfold Ji;rw[hf]
          rw[hl']at h;obtain⟨g1,g2⟩:=Qhc (P:=P) hm ho hp hheap (l':=l++[(kx,y)]) (arr':=arr.push {key:=ka.Zk kx,val:=v,born:=l.length}) (by have:=hrep.push (k:=ka.Zk kx) (c:=l.length) hyr;rw[Qvc];simpa using this);refine⟨_,?_,.any,_,[s],[],M,ρ,h,rfl,g1,g2⟩;simp[Instr.mapUpdate,run_underlying hu,hget,Qcy htab hik hd,(Qb1 htab hik hd hrep kx w).1 hf,Kn hheap]
         |some q=>
          obtain⟨j,y0⟩:=q;obtain⟨e,a1,a2,a3,a4,a5,a6⟩:=(Qb1 htab hik hd hrep kx w).2 j y0 hf;have hl':Ji ka.eqv kx y l=l.set j (kx,y):=by unfold Ji;rw[hf]
          rw[hl']at h;obtain⟨g1,g2⟩:=Qhc (P:=P) hm ho hp hheap (l':=l.set j (kx,y)) (arr':=arr.modify j fun e=>{e with key:=ka.Zk kx,val:=v}) (by have:=hrep.set (k:=ka.Zk kx) a1 hyr a4 (fun e=>{e with key:=ka.Zk kx,val:=v}) rfl;rw[Qrh];simpa using this);refine⟨_,?_,.any,_,[s],[],M,ρ,h,rfl,g1,g2⟩;have hks:(Instr.keyThatStays (((arr[j]?).map (·.key)).getD (ka.Zk kx)) (ka.Zk kx)).run P w=.ok (ka.Zk kx) w:=by rw[a1];simp only[Option.map_some,Option.getD_some,a3];simp[Instr.keyThatStays,Qy9 (Qgt hd)]
          simp[Instr.mapUpdate,run_underlying hu,hget,Qcy htab hik hd,a6,hks,Kn hheap]
   ·exact h.elim
  ·exact Qx6 htab hm hmr hkr hx h
 ·exact Qx6 htab hm hmr hkr hx h
def Qgk{K V:Type}(eq:K→K→Bool)(k:K)(l:List (K×V))(z:V):List (K×V):=match Yi eq k l 0 with
 |some p=>l.set p.1 (k,p.2)
 |none=>l++[(k,z)]
def Qrk(P:Program)(tab:Qk)(H:List Qa)(t:Nat)(m k:SV):Qj:=
 match m with
 |.mp s=>match H[s]? with
  |some (.tmap ka va l)=>match tab.lookup t with
   |some {desc:=.map kt et,..}=>match tab.lookup kt with
    |none=>.fail
    |some ik=>match K3 P tab kt ik.desc ka with
     |false=>.fail
     |true=>match tab.lookup et with
      |none=>.fail
      |some ie=>match ka.Un k with
       |none=>.fail
       |some kx=>match va.ofZ ie.zero with
        |none=>.fail
        |some z=>.eff (.tup [va.raw (Ym ka.eqv kx l z),.lit (.int .i64 (Qhj ka.eqv kx l))]) (H.set s (.tmap ka va (Qgk ka.eqv kx l z))) [s] []
   |_=>.fail
  |_=>Qjw P tab H t m k
 |_=>Qjw P tab H t m k
theorem Zx1{P:Program}{tab:Qk}(htab:Qu P tab){M:Qc}{ρ:Env}{H:List Qa}{w:World}{K:Qm}(hm:Mem M ρ H w){t:Nat}{m k:SV}{vm vk:Value}(hmr:Qd M ρ vm m)(hkr:Qd M ρ vk k)
  (h:(Qrk P tab H t m k).holds H K):Qp P (Instr.mapEntry t vm vk) M ρ H w K:=by
 unfold Qrk at h;split at h
 ·rename_i s;split at h
  ·rename_i ka va l ho;split at h
   ·rename_i kt et _ _ _ _ hte;have hu:P.underlying t=some (.map kt et):=(htab.get hte).und;split at h
    ·exact h.elim
    ·rename_i ik hik;split at h
     ·exact h.elim
     ·rename_i hd;split at h
      ·exact h.elim
      ·rename_i ie hie;split at h
       ·exact h.elim
       ·rename_i kx hkx;split at h
        ·exact h.elim
        ·rename_i z hz;have hvk:=Qlb (Qgt hd) (Qe.Qau hkx hkr);subst hvk;have hdk:P.underlying kt=some ik.desc:=(htab.get hik).und;have hzr:Qd M ρ ie.zero (va.raw z):=Qe.Qau (M:=M) (ρ:=ρ) hz (.pv (.lit _));cases hmr with
         |mp _ p hp=>
          obtain⟨arr,hheap,hrep⟩:=X1.rep (hm.own s _ ho) hp;have hget:=run_getObj_map (P:=P) hheap;cases hf:Yi ka.eqv kx l 0 with
          |none=>
           have e1:Qgk ka.eqv kx l z=l++[(kx,z)]:=by unfold Qgk;rw[hf]
           have e2:Ym ka.eqv kx l z=z:=by unfold Ym;rw[hf]
           have e3:Qhj ka.eqv kx l=l.length:=by unfold Qhj;rw[hf]
           rw[e1,e2,e3]at h;obtain⟨g1,g2⟩:=Qhc (P:=P) hm ho hp hheap (l':=l++[(kx,z)]) (arr':=arr.push {key:=ka.Zk kx,val:=ie.zero,born:=l.length}) (by have:=hrep.push (k:=ka.Zk kx) (c:=l.length) hzr;rw[Qvc];simpa using this);refine⟨.tuple #[ie.zero,goInt l.length],_,?_,_,_,[s],[],M,ρ,h,Qmp hzr (.pv (.lit _)),g1,g2⟩;simp[Instr.mapEntry,run_underlying hu,hget,Qcy htab hik hd,(Qb1 htab hik hd hrep kx w).1 hf,Kn hheap,Vx (htab.get hie)]
          |some q=>
           obtain⟨j,y0⟩:=q;obtain⟨e,a1,a2,a3,a4,a5,a6⟩:=(Qb1 htab hik hd hrep kx w).2 j y0 hf;have e1:Qgk ka.eqv kx l z=l.set j (kx,y0):=by unfold Qgk;rw[hf]
           have e2:Ym ka.eqv kx l z=y0:=by unfold Ym;rw[hf]
           have e3:Qhj ka.eqv kx l=j:=by unfold Qhj;rw[hf]
           rw[e1,e2,e3]at h;obtain⟨g1,g2⟩:=Qhc (P:=P) hm ho hp hheap (l':=l.set j (kx,y0)) (arr':=arr.modify j fun e=>{e with key:=ka.Zk kx}) (by have:=hrep.set (k:=ka.Zk kx) a1 a5 a4 (fun e=>{e with key:=ka.Zk kx}) rfl;rw[Qrh];simpa using this);refine⟨.tuple #[e.val,goInt e.born],_,?_,_,_,[s],[],M,ρ,h,?_,g1,g2⟩
           ·have hks:(Instr.keyThatStays e.key (ka.Zk kx)).run P w=.ok (ka.Zk kx) w:=by rw[a3];simp[Instr.keyThatStays,Qy9 (Qgt hd)]
            simp[Instr.mapEntry,run_underlying hu,hget,Qcy htab hik hd,a6,hks,Kn hheap,a1]
           ·rw[a4];exact Qmp a5 (.pv (.lit _))
   ·exact h.elim
  ·exact Qtp htab hm hmr hkr h
 ·exact Qtp htab hm hmr hkr h
def Qqt{K V:Type}(j:Nat)(x:V)(l:List (K×V)):List (K×V):=match l[j]? with
 |some e=>l.set j (e.1,x)
 |none=>l
def Qo7(H:List Qa)(m st x:SV):Qj:=
 match m with
 |.mp s=>match H[s]? with
  |some (.tmap ka va l)=>match st with
   |.pv (.lit (.int _ n))=>match va.Un x with
    |none=>.fail
    |some y=>.need (decide (0≤n)) (.need (decide (n.toNat<l.length)) (.eff .any (H.set s (.tmap ka va (Qqt n.toNat y l))) [s] []))
   |_=>.fail
  |_=>Qlm H m st x
 |_=>Qlm H m st x
theorem Zga{P:Program}{M:Qc}{ρ:Env}{H:List Qa}{w:World}{K:Qm}(hm:Mem M ρ H w){t:Nat}{m st x:SV}{vm vs v:Value}(hmr:Qd M ρ vm m)(hst:Qd M ρ vs st)(hx:Qd M ρ v x)
  (h:(Qo7 H m st x).holds H K):Ub P (Instr.entryStore t vm vs v) M ρ H w K:=by
 unfold Qo7 at h;split at h
 ·rename_i s;split at h
  ·rename_i ka va l ho;split at h
   ·rename_i k n;have:=hst.Q7;subst this;split at h
    ·exact h.elim
    ·rename_i y hy;obtain⟨h0,h1,h⟩:=h;have h0:=of_decide_eq_true h0;have h1:=of_decide_eq_true h1;have hyr:=Qe.Qau hy hx;obtain⟨j,rfl⟩:∃j:Nat,n=j:=⟨n.toNat,by omega⟩;simp only[Int.toNat_natCast]at h h1;cases hmr with
     |mp _ p hp=>
      obtain⟨arr,hheap,hrep⟩:=X1.rep (hm.own s _ ho) hp;have hsz:=hrep.sz;rw[Qaw]at hsz;have hgete:∀(i:Nat) (hi:i<l.length),∃e,arr[i]? =some e∧e.key=ka.Zk l[i].1∧e.born=i∧Qd M ρ e.val (va.raw l[i].2):=fun i hi=>by obtain⟨e,a1,a2,a3,a4⟩:=hrep.rep i (ka.Zk l[i].1) (va.raw l[i].2) i (by rw[Vp,List.getElem?_eq_getElem hi];simp);exact⟨e,a1,a2,a3,a4⟩
      obtain⟨e,a1,a2,a3,a4⟩:=hgete j h1;have hidx:arr.findIdx? (fun e=>(e.born:Int)==(j:Int))=some j:=by
       rw[Array.findIdx?_eq_some_iff_getElem];refine⟨by omega,?_,fun i hi=>?_⟩
       ·rw[Array.getElem?_eq_getElem (by omega)]at a1;simp only[Option.some.injEq]at a1;rw[a1,a3];simp
       ·obtain⟨e',b1,_,b3,_⟩:=hgete i (by omega);rw[Array.getElem?_eq_getElem (by omega)]at b1;simp only[Option.some.injEq]at b1;rw[b1,b3];simp;omega
      have el:Qqt j y l=l.set j (l[j].1,y):=by unfold Qqt;rw[List.getElem?_eq_getElem h1]
      rw[el]at h;obtain⟨g1,g2⟩:=Qhc (P:=P) hm ho hp hheap (l':=l.set j (l[j].1,y)) (arr':=arr.modify j fun e=>{e with val:=v}) (by have:=hrep.set (k:=ka.Zk l[j].1) a1 hyr a3 (fun e=>{e with val:=v}) (by rw[←a2]);rw[Qrh];simpa using this);refine⟨_,?_,.any,_,[s],[],M,ρ,h,rfl,g1,g2⟩;simp[Instr.entryStore,run_getObj_map (P:=P) hheap,asInt,asIntOf,hidx,Kn hheap]
   ·exact h.elim
  ·exact Zae hm hmr hst hx h
 ·exact Zae hm hmr hst hx h
def Qa.Qm0:Qa→Option (List (Value×SV×Nat)×Nat)
 |.map es c=>some (es,c)
 |.tmap k v l=>some (Yn k v 0 l,l.length)
 |_=>none
theorem Qoj{M:Qc}{ρ:Env}{w:World}{s:Nat}{o:Qa}{q:List (Value×SV×Nat)×Nat}(h:o.Qm0=some q)(ho:Qt M ρ w s o):X1 M ρ w s q.1 q.2:=by cases o<;>first|(cases h;done)|(cases h;exact ho)
def Qnu(tab:Qk)(H:List Qa)(t:Nat)(x:SV):Qj:=
 match tab.lookup t,x with
 |some {desc:=.string,..},.pv (.lit (.string s))=>.eff (.ptr H.length 0 0 0) (H++[.iter s 0]) [] []
 |some {desc:=.map _ _,..},.mp m=>match H[m]? with
  |some o=>match o.Qm0 with
   |some q=>.eff (.ptr H.length 0 0 0) (H++[.mit (some m) q.2 []]) [] []
   |none=>.fail
  |none=>.fail
 |_,_=>.fail
theorem Zzw{P:Program}{tab:Qk}(htab:Qu P tab){M:Qc}{ρ:Env}{H:List Qa}{w:World}{K:Qm}(hm:Mem M ρ H w){t:Nat}{x:SV}{v:Value}(hx:Qd M ρ v x)(h:(Qnu tab H t x).holds H K):Qp P (Instr.range t v) M ρ H w K:=by
 unfold Qnu at h;split at h
 ·rename_i sz' by' zr rw' s hte;have hu:P.underlying t=some .string:=(htab.get hte).und;have:=hx.Q7;subst this;have hrun:(Instr.range t (.string s)).run P w=.ok (.pointer (some ⟨w.heap.size,0,none⟩)) (w.alloc (.stringIter s 0)):=by simp[Instr.range,run_underlying hu]
  obtain⟨g1,g2⟩:=hm.alloc (w':=w.alloc (.stringIter s 0)) (o:=.stringIter s 0) (so:=.iter s 0) (cap:=0) rfl ⟨_,Env.set_self ..,heap_alloc_new w _⟩;exact⟨_,_,hrun,_,_,[],[],M,_,h,.ptr _ _ _ _ _ _ (Env.set_self ..) (by simp),g1,g2⟩
 ·rename_i k e sz' by' zr rw' m hte;have hu:P.underlying t=some (.map k e):=(htab.get hte).und;split at h
  ·rename_i o ho;split at h
   ·rename_i q hq;obtain⟨es,c⟩:=q;obtain⟨pm,arr,h1,h2,h3,h4⟩:=Qoj hq (hm.own m _ ho);simp only at h2 h;cases hx with
    |mp _ p hp=>
     rw[hp]at h1;cases h1;have hget:(getObj pm.block).run P w=.ok (.map arr c) w:=by simp[getObj,Sem.run,h2]
     have hrun:(Instr.range t (.map (some pm.block))).run P w=.ok (.pointer (some ⟨w.heap.size,0,none⟩)) (w.alloc (.mapIter (some pm.block) c #[] c)):=by simp[Instr.range,run_underlying hu,hget]
     have hne:m≠H.length:=fun e=>by have:=(List.getElem?_eq_some_iff.1 ho).1;omega
     obtain⟨g1,g2⟩:=hm.alloc (w':=w.alloc (.mapIter (some pm.block) c #[] c)) (o:=.mapIter (some pm.block) c #[] c) (so:=.mit (some m) c []) (cap:=0) rfl
       ⟨_,_,_,Env.set_self ..,heap_alloc_new w _,rfl,fun mm e=>by cases e;exact⟨pm,by rw[Env.Yf _ _ hne];exact hp,rfl⟩⟩
     exact⟨_,_,hrun,_,_,[],[],M,_,h,.ptr _ _ _ _ _ _ (Env.set_self ..) (by simp),g1,g2⟩
   ·exact h.elim
  ·exact h.elim
 ·exact h.elim
def Qsg(H:List Qa)(x:SV):Qj:=
 match x with
 |.ptr s 0 0 0=>match H[s]? with
  | some (.iter b pos)=>.split (decide (pos < b.size))
    (.eff (.tup [.lit (.bool true),.lit (.int .i64 pos),.lit (.int .i32 (Utf8.decode b pos).1)]) (H.set s (.iter b (pos+(Utf8.decode b pos).2))) [s] [])
    (.ok (.tup [.lit (.bool false)]))
  |_=>.fail
 |_=>.fail
theorem Zky{P:Program}{M:Qc}{ρ:Env}{H:List Qa}{w:World}{K:Qm}(hm:Mem M ρ H w){t:Nat}{x:SV}{v:Value}(hx:Qd M ρ v x)(h:(Qsg H x).holds H K):Qp P (Instr.next v true t) M ρ H w K:=by
 unfold Qsg at h;split at h
 ·rename_i s;split at h
  ·rename_i b pos ho;cases hx with
   |ptr _ _ _ _ k p hp hk=>
    obtain⟨q,h1,h2⟩:=hm.own s _ ho;rw[hp]at h1;cases h1;have hk0:k=0:=by simpa using hk
    subst hk0;have hget:(getObj p.block).run P w=.ok (.stringIter b pos) w:=by simp[getObj,Sem.run,h2]
    have hset:∀o,(setObj p.block o).run P w=.ok () {w with heap:=w.heap.setIfInBounds p.block o}:=fun o=>by simp[setObj,Sem.run,h2]
    have hlt:p.block<w.heap.size:=(Array.getElem?_eq_some_iff.1 h2).1;obtain⟨ht,hf⟩:=h;by_cases hpos:pos<b.size
    ·have h':=ht (by simpa using hpos);obtain⟨g1,g2⟩:=hm.put (so:=.iter b (pos+(Utf8.decode b pos).2)) (w':={w with heap:=w.heap.setIfInBounds p.block (.stringIter b (pos+(Utf8.decode b pos).2))}) ho rfl hp (fun b' hb=>Qnn hb) (by simp) rfl
      ⟨p,hp,by simp[hlt]⟩
     refine⟨.tuple #[.bool true,goInt pos,.int .i32 (Utf8.decode b pos).1],_,?_,_,_,[s],[],M,ρ,h',?_,g1,g2⟩
     ·simp[Instr.next,hget,hpos,hset]
     ·refine .tup _ _ rfl fun i a c ha hc=>?_;match i with
      |0=>simp at ha hc;subst ha;subst hc;exact .pv (.lit _)
      |1=>simp at ha hc;subst ha;subst hc;exact .pv (.lit _)
      |2=>simp at ha hc;subst ha;subst hc;exact .pv (.lit _)
      |i+3=>simp at hc
    ·have h':=hf (by simpa using hpos);refine Qp.same hm (v:=.tuple #[.bool false]) ?_ ?_ h'
     ·simp[Instr.next,hget,hpos]
     ·refine .tup _ _ rfl fun i a c ha hc=>?_;match i with
      |0=>simp at ha hc;subst ha;subst hc;exact .pv (.lit _)
      |i+1=>simp at hc
  ·exact h.elim
 ·exact h.elim
def Qky(s m c:Nat)(seen:List Nat)(H:List Qa):List (Value×SV×Nat)→Qj
 |[]=>.ok (.tup [.lit (.bool false)])
 |[e]=>.eff (.tup [.lit (.bool true),.lit e.1,e.2.1]) (H.set s (.mit (some m) c (seen++[e.2.2]))) [s] []
 |e::e'::es=>.both (.eff (.tup [.lit (.bool true),.lit e.1,e.2.1]) (H.set s (.mit (some m) c (seen++[e.2.2]))) [s] []) (Qky s m c seen H (e'::es))
def Qn9(H:List Qa)(x:SV):Qj:=
 match x with
 |.ptr s 0 0 0=>match H[s]? with
  |some (.mit (some m) c seen)=>match H[m]? with
   |some o=>match o.Qm0 with
    |some q=>.need (Nat.beq q.2 c&&q.1.all fun e=>Nat.blt e.2.2 c) (Qky s m c seen H (q.1.filter fun e=>!seen.contains e.2.2))
    |none=>.fail
   |none=>.fail
  |_=>.fail
 |_=>.fail
theorem Zgh{s m c:Nat}{seen:List Nat}{H:List Qa}{K:Qm}{l:List (Value×SV×Nat)}(h:(Qky s m c seen H l).holds H K)(hl:l=[]):K (.tup [.lit (.bool false)]) H [] []:=by subst hl;exact h
theorem Qwo{s m c:Nat}{seen:List Nat}{H:List Qa}{K:Qm}:∀{l:List (Value×SV×Nat)},(Qky s m c seen H l).holds H K→∀e∈l,K (.tup [.lit (.bool true),.lit e.1,e.2.1]) (H.set s (.mit (some m) c (seen++[e.2.2]))) [s] []
 |[],h,e,he=>by cases he
 |[e0],h,e,he=>by rw[List.mem_singleton.1 he];exact h
 |e0::e1::l,h,e,he=>by
  rcases List.mem_cons.1 he with rfl|he
  ·exact h.1
  ·exact Qwo (l:=e1::l) h.2 e he
theorem Zup{P:Program}{M:Qc}{ρ:Env}{H:List Qa}{w:World}{K:Qm}(hm:Mem M ρ H w){t:Nat}{x:SV}{v:Value}(hx:Qd M ρ v x)(h:(Qn9 H x).holds H K):Qp P (Instr.next v false t) M ρ H w K:=by
 unfold Qn9 at h;split at h
 ·rename_i s;split at h
  ·rename_i m c seen ho;split at h
   rotate_left
   ·exact h.elim
   rename_i om hom0;split at h
   ·rename_i qm hqm;obtain⟨es,c'⟩:=qm;have hom:=Qoj hqm (hm.own m _ hom0);obtain⟨hc,h⟩:=h;rw[Bool.and_eq_true]at hc;simp only at hc h hom;have hcc:=Nat.eq_of_beq_eq_true hc.1;subst hcc;have hbn:∀e∈es,e.2.2<c':=fun e he=>by have:=List.all_eq_true.1 hc.2 e he;rwa[Nat.blt_eq]at this
    cases hx with
    |ptr _ _ _ _ k p hp hk=>
     obtain⟨p',q,sn,h1,h2,h3,h4⟩:=hm.own s _ ho;rw[hp]at h1;cases h1;obtain⟨pm,a1,a2⟩:=h4 m rfl;subst a2;obtain⟨pm',arr,b1,b2,b3,b4⟩:=hom;rw[a1]at b1;cases b1;have hk0:k=0:=by simpa using hk
     subst hk0;have hent:∀(i:Nat) (me:MapEntry),arr[i]? =some me→∃e,es[i]? =some e∧me.key=e.1∧me.born=e.2.2∧Qd M ρ me.val e.2.1:=fun i me hme=>by
      have hi:i<es.length:=by rw[←b3];exact(Array.getElem?_eq_some_iff.1 hme).1
      obtain⟨e,d1,d2,d3,d4⟩:=b4 i _ _ _ (List.getElem?_eq_getElem hi);rw[hme]at d1;cases d1;exact⟨_,List.getElem?_eq_getElem hi,d2,d3,d4⟩
     have hold:∀me∈arr.toList,me.born<c':=fun me hme=>by obtain⟨i,hi⟩:=List.getElem?_of_mem hme;obtain⟨e,d1,_,d3,_⟩:=hent i me (by simpa using hi);rw[d3];exact hbn e (List.mem_of_getElem? d1)
     have hleft:∀me,me∈(leftOf arr sn).toList↔me∈arr.toList∧¬me.born∈seen:=fun me=>by unfold leftOf;simp[←h3]
     rcases run_next_at (P:=P) w t p.block pm.block c' c' sn arr c' h2 b2 hold (Nat.le_refl _)with⟨hz,hr⟩|⟨me,hme,w1,hw1,hr⟩
     ·have hnil:(es.filter fun e=>!seen.contains e.2.2)=[]:=by
       rw[List.filter_eq_nil_iff];intro e he;obtain⟨i,hi⟩:=List.getElem?_of_mem he;obtain⟨me,d1,d2,d3,d4⟩:=b4 i e.1 e.2.1 e.2.2 hi;intro hn;have hmem:me∈(leftOf arr sn).toList:=(hleft me).2 ⟨by simpa using Array.mem_of_getElem? d1,by rw[d3];simpa using hn⟩;have:(leftOf arr sn).toList=[]:=by simpa using hz
       rw[this]at hmem;cases hmem
      have hk:=Zgh h hnil;refine Qp.same hm hr ?_ hk;refine .tup _ _ rfl fun i a c ha hc=>?_;match i with
      |0=>simp at ha hc;subst ha;subst hc;exact .pv (.lit _)
      |i+1=>simp at hc
     ·obtain⟨m1,m2⟩:=(hleft me).1 hme;obtain⟨i,hi⟩:=List.getElem?_of_mem m1;obtain⟨e,d1,d2,d3,d4⟩:=hent i me (by simpa using hi);have hein:e∈es.filter fun e=>!seen.contains e.2.2:=List.mem_filter.2 ⟨List.mem_of_getElem? d1,by rw[←d3];simpa using m2⟩;have hk:=Qwo h e hein;have hlt:p.block<w.heap.size:=(Array.getElem?_eq_some_iff.1 h2).1;have hh1:w1.heap=w.heap∧w1.os=w.os∧w1.output=w.output:=by rcases hw1 with rfl|rfl<;>exact⟨rfl,rfl,rfl⟩
      obtain⟨g1,g2⟩:=hm.put (so:=.mit (some m) c' (seen++[e.2.2])) (w':=ChangeMaps.setBlock w1 p.block (.mapIter (some pm.block) c' (sn.push me.born) c')) ho rfl hp
       (fun b' hb=>by show(w1.heap.setIfInBounds p.block _)[b']? =_;rw[hh1.1,Array.getElem?_setIfInBounds,if_neg fun e=>hb e.symm])
       (by show(w1.heap.setIfInBounds p.block _).size=_;rw[hh1.1];simp) rfl
       ⟨p,some pm.block,sn.push me.born,hp,by show(w1.heap.setIfInBounds p.block _)[p.block]? =_;rw[hh1.1];simp[hlt],by simp[h3,d3],fun mm e=>by cases e;exact⟨pm,a1,rfl⟩⟩
       ⟨hh1.2.1,hh1.2.2⟩
      refine⟨_,_,hr,_,_,[s],[],M,ρ,hk,?_,g1,g2⟩;refine .tup _ _ rfl fun i a c ha hc=>?_;match i with
      |0=>simp at ha hc;subst ha;subst hc;exact .pv (.lit _)
      |1=>simp at ha hc;subst ha;subst hc;rw[d2];exact .pv (.lit _)
      |2=>simp at ha hc;subst ha;subst hc;exact d4
      |i+3=>simp at hc
   ·exact h.elim
  ·exact h.elim
 ·exact h.elim
def Qo8(H:List Qa)(x:SV):Qj:=
 match x with
 |.ptr s 0 0 0=>match H[s]? with
  |some (.mit (some m) c seen)=>match H[m]? with
   |some o=>match o.Qm0 with
    |some q=>match seen.getLast? with
     |some st=>match q.1.find? fun e=>Nat.beq e.2.2 st with
      |some e=>.need (Nat.beq q.2 c) (.ok (.tup [.lit e.1,e.2.1]))
      |none=>.fail
     |none=>.fail
    |none=>.fail
   |none=>.fail
  |_=>.fail
 |_=>.fail
theorem Zo8{P:Program}{M:Qc}{ρ:Env}{H:List Qa}{w:World}{K:Qm}(hm:Mem M ρ H w){x:SV}{v:Value}(hx:Qd M ρ v x)(h:(Qo8 H x).holds H K):Qp P (Instr.entry v) M ρ H w K:=by
 unfold Qo8 at h;split at h
 rotate_left
 ·exact h.elim
 rename_i s;split at h
 rotate_left
 ·exact h.elim
 rename_i m c seen ho;split at h
 rotate_left
 ·exact h.elim
 rename_i om hom0;split at h
 rotate_left
 ·exact h.elim
 rename_i qm hqm;obtain⟨es,c'⟩:=qm;have hom:=Qoj hqm (hm.own m _ hom0);split at h
 rotate_left
 ·exact h.elim
 rename_i st hst;split at h
 rotate_left
 ·exact h.elim
 rename_i e he;obtain⟨hc,h⟩:=h;simp only at hc h hom he;have hcc:=Nat.eq_of_beq_eq_true hc;subst hcc;cases hx with
 |ptr _ _ _ _ k p hp hk=>
  obtain⟨p',q,sn,h1,h2,h3,h4⟩:=hm.own s _ ho;rw[hp]at h1;cases h1;obtain⟨pm,a1,a2⟩:=h4 m rfl;subst a2;obtain⟨pm',arr,b1,b2,b3,b4⟩:=hom;rw[a1]at b1;cases b1;have hk0:k=0:=by simpa using hk
  subst hk0;obtain⟨hp1,i,hi,hei,hmin⟩:=List.find?_eq_some_iff_getElem.1 he;obtain⟨me,d1,d2,d3,d4⟩:=b4 i e.1 e.2.1 e.2.2 (by rw[List.getElem?_eq_getElem hi,hei]);have hst':e.2.2=st:=Nat.eq_of_beq_eq_true hp1;have hf:arr.find? (fun x=>x.born==st)=some me:=by
   rw[←Array.find?_toList];obtain⟨hia,hme⟩:=Array.getElem?_eq_some_iff.1 d1;refine List.find?_eq_some_iff_getElem.2 ⟨by rw[d3,hst'];simp,i,by simpa using hia,by simpa using hme,fun j hj=>?_⟩;have hj':j<es.length:=by omega
   obtain⟨mj,e1,e2,e3,e4⟩:=b4 j _ _ _ (List.getElem?_eq_getElem hj');have hja:j<arr.size:=by omega
   have e1':arr[j]=mj:=by rw[Array.getElem?_eq_getElem hja]at e1;exact Option.some.inj e1
   have hne:=hmin j hj;simp only[Array.getElem_toList,e1',e3];cases hb:Nat.beq (es[j]).2.2 st with
   |true=>rw[hb]at hne;simp at hne
   |false=>
    have:(es[j]).2.2≠st:=fun hh=>by rw[hh,Nat.beq_refl]at hb;cases hb
    simp[this]
  have hback:sn.back? =some st:=by rw[←h3]at hst;rw[←Array.getLast?_toList];exact hst
  refine Qp.same hm (v:=.tuple #[me.key,me.val]) ?_ ?_ h
  ·simp only[Instr.entry,getObj,Sem.run_bind,Sem.run,h2,b2,Result.andThen,hback,bne_self_eq_false,Bool.false_eq_true,if_false,hf];rfl
  ·refine .tup _ _ rfl fun i a b ha hb=>?_;match i with
   |0=>simp at ha hb;subst ha;subst hb;rw[d2];exact .pv (.lit _)
   |1=>simp at ha hb;subst ha;subst hb;exact d4
   |i+2=>simp at hb
def SV.unslb:SV→SV
 |.slb s sz st n _=>.sl s sz st n
 |x=>x
theorem Qd.unslb{M:Qc}{ρ:Env}{v:Value}{x:SV}(h:Qd M ρ v x):Qd M ρ v x.unslb:=by
 cases h with
 |slb s sz st n m h hm=>exact h
 |any v=>exact .any v
 |pv h=>exact .pv h
 |agg cs l hl h=>exact .agg cs l hl h
 |tup cs l hl h=>exact .tup cs l hl h
 |ptr s sz i j k p hp hk=>exact .ptr s sz i j k p hp hk
 |sl s sz st n c k p hp hk hc hn h6=>exact .sl s sz st n c k p hp hk hc hn h6
 |slz s sz st a=>exact .slz s sz st a
 |mp s p hp=>exact .mp s p hp
 |yld s p hp=>exact .yld s p hp
 |fn f a b x y ha hb h k=>exact .fn f a b x y ha hb h k
def Qcj{α:Type}(l:List α)(n st m:Nat):List α:=l.take n++(l.drop st).take m++l.drop (n+m)
def Qa.Qh0(o:Qa)(n st m:Nat):Option Qa:=match o with
 |.vec ty sz rows=>some (.vec ty sz (Qcj rows n st m))
 |.tvec ty row l=>some (.tvec ty row (Qcj l n st m))
 |.mix ty sz rows=>some (.mix ty sz (Qcj rows n st m))
 |_=>none
theorem Qr2{α:Type}{l:List α}{n st m:Nat}(h1:n+m≤l.length)(h2:st+m≤l.length):(Qcj l n st m).length=l.length:=by simp[Qcj];omega
theorem Qm8{α:Type}{l:List α}{n st m i:Nat}(h1:n+m≤l.length)(h2:st+m≤l.length):(Qcj l n st m)[i]? =if n≤i∧i<n+m then l[st+(i-n)]? else l[i]? :=by
 unfold Qcj;by_cases a:i<n
 ·rw[if_neg (by omega),List.append_assoc,List.getElem?_append_left (by simp;omega),List.getElem?_take,if_pos a]
 ·by_cases b:i<n+m
  ·rw[if_pos ⟨by omega,b⟩,List.append_assoc,List.getElem?_append_right (by simp;omega),List.getElem?_append_left (by simp;omega)];simp only[List.length_take,List.getElem?_take,List.getElem?_drop];rw[show min n l.length=n by omega,if_pos (by omega)]
  ·rw[if_neg (by omega),List.getElem?_append_right (by simp;omega)];simp only[List.length_append,List.length_take,List.length_drop,List.getElem?_drop];congr 1;omega
theorem Ztx{o o':Qa}{sz n st m:Nat}(hz:o.Qs =some sz)(h1:n+m≤o.len)(h2:st+m≤o.len)(h:o.Qh0 n st m=some o'):
  o'.Qs =some sz∧o'.len=o.len∧o'.ty=o.ty∧(∀ty row l r c x,o'≠.tlnk ty row l r c x)∧∀i,i<o.len→o'.row i=if n≤i∧i<n+m then o.row (st+(i-n))else o.row i:=by
 cases o with
 |vec ty sz' rows=>simp only[Qa.Qh0,Option.some.injEq]at h;subst h;refine⟨hz,Qr2 h1 h2,rfl,fun _ _ _ _ _ _ e=>(by cases e),fun i hi=>?_⟩;simp only[Qa.row,List.getD,Qm8 (l:=rows) h1 h2];split<;>rfl
 |tvec ty row l=>simp only[Qa.Qh0,Option.some.injEq]at h;subst h;refine⟨hz,Qr2 h1 h2,rfl,fun _ _ _ _ _ _ e=>(by cases e),fun i hi=>?_⟩;simp only[Qa.row,List.getD,Qm8 (l:=l) h1 h2];split<;>rfl
 |mix ty sz' rows=>simp only[Qa.Qh0,Option.some.injEq]at h;subst h;refine⟨hz,Qr2 h1 h2,rfl,fun _ _ _ _ _ _ e=>(by cases e),fun i hi=>?_⟩;simp only[Qa.row,List.getD,Qm8 (l:=rows) h1 h2];split<;>rfl
 |_=>cases h
def Qpu(tab:Qk)(H:List Qa)(t t':Nat)(a x:SV):Qj:=match a,x.unslb with
 |.slb d sz st n m,.sl d2 sz2 st2 n2=>match tab.lookup t with
  |some {desc:=.slice e,..}=>match tab.lookup e with
   |none=>.fail
   |some i=>match Nat.beq t' t&&(Nat.blt 0 i.size&&(Nat.beq sz i.size&&(Nat.beq sz2 i.size&&(Nat.beq st 0&&Nat.beq d2 d))))with
    |false=>.fail
    | true=>.split (decide (n2 = 0)) (.ok (.slb d sz 0 n m)) <| match H[d]? with
      |none=>.fail
      |some o=>match o.Qh0 n st2 n2 with
       |none=>.fail
       | some o'=>.need (decide (o.Qs = some i.size)) <| .need (decide (o.ty = e)) <| .need (decide (n + n2 ≤ m)) <| .need (decide (n + n2 ≤ o.len)) <| .need (decide (st2 + n2 ≤ o.len)) <|
         .eff (.slb d sz 0 (n+n2) m) (H.set d o') [d] []
  |_=>.fail
 |_,_=>.fail
theorem Zja{P:Program}{tab:Qk}(htab:Qu P tab){M:Qc}{ρ:Env}{H:List Qa}{w:World}{K:Qm}(hm:Mem M ρ H w){t t' ty:Nat}{a x:SV}{v u:Value}(ha:Qd M ρ v a)(hx:Qd M ρ u x)
  (h:(Qpu tab H t t' a x).holds H K):Qp P (Builtin.append_ #[t,t'] ty #[v,u]) M ρ H w K:=by
 have hx:=hx.unslb;unfold Qpu at h;split at h
 ·rename_i d sz st n m d2 sz2 st2 n2 ex;rw[ex]at hx;split at h
  ·rename_i e _ _ _ _ hte;have htt:=htab.get hte;split at h
   ·exact h.elim
   ·rename_i i hi;have ht:=htab.get hi;split at h
    ·exact h.elim
    ·rename_i hc;simp only[Bool.and_eq_true]at hc;have e1:=Nat.eq_of_beq_eq_true hc.1;have e2:=(by have:=hc.2.1;rw[Nat.blt_eq]at this;exact this:0<i.size);have e3:=Nat.eq_of_beq_eq_true hc.2.2.1;have e4:=Nat.eq_of_beq_eq_true hc.2.2.2.1;have e5:=Nat.eq_of_beq_eq_true hc.2.2.2.2.1;have e6:=Nat.eq_of_beq_eq_true hc.2.2.2.2.2;subst e1;subst e3;subst e4;subst e5;subst e6;cases ha with
     |slb _ _ _ _ _ ha hmc=>
     obtain⟨a9,n9,c9,e9,hmc⟩:=hmc;by_cases hz0:n2=0
     ·
      replace h:=h.1 (decide_eq_true hz0);subst hz0;obtain⟨ad,c',rfl⟩:∃ad c',u=.slice ad 0 c':=by
       cases hx with
       |slz=>exact⟨_,_,rfl⟩
       |sl _ _ _ _ c k p hp hk hcc hn h6=>exact⟨_,_,rfl⟩
      cases ha with
      |slz _ _ _ a'=>injection e9 with _ _ e9;subst e9;exact⟨_,_,Qn4 htt.und ht (Nat.le_refl _),_,_,[],[],M,ρ,h,.slb _ _ _ _ _ (.slz _ _ _ _) ⟨_,_,_,rfl,hmc⟩,hm,Fr.refl ..⟩
      |sl _ _ _ _ c k p hp hk hcc hn h6=>injection e9 with _ _ e9;subst e9;exact⟨_,_,Qn4 htt.und ht hn,_,_,[],[],M,ρ,h,.slb _ _ _ _ _ (.sl _ _ _ _ c k p hp hk hcc hn h6) ⟨_,_,_,rfl,hmc⟩,hm,Fr.refl ..⟩
     ·replace h:=h.2 (decide_eq_false hz0);obtain⟨k0,rfl⟩:∃k,n2=k+1:=⟨n2-1,by omega⟩;split at h
      ·exact h.elim
      ·rename_i o ho;split at h
       ·exact h.elim
       ·rename_i o' hmv;simp only[Qj.holds,decide_eq_true_eq]at h;obtain⟨hz,hty,hroom,hn1,hn2,h⟩:=h;obtain⟨f1,f2,f3,f4,f5⟩:=Ztx hz hn1 hn2 hmv;obtain⟨inf,hinf,i1,i2,i3⟩:=ht.inf;have hown:=hm.own d2 o ho;cases ha with
        |slz=>injection e9 with _ _ e9;subst e9;omega
        |sl _ _ _ _ c k p hp hk hcc hn h6=>
         injection e9 with _ _ e9;subst e9;have hk0:k=0:=by simpa using hk
         subst hk0;cases hx with
         |sl _ _ _ _ c2 k2 p2 hp2 hk2 hcc2 hnn2 h62=>
          rw[hp]at hp2;cases hp2;obtain⟨cs,ty0,a1,a2,a3,a4,a5⟩:=(hown.rowOf hz hp).ex;obtain⟨cs2,b1⟩:=hown.heap hz hp;rw[hty]at b1;rw[a1]at b1;cases b1;have hfit2:(st2+(k0+1))*i.size≤cs.size:=Nat.le_trans (Nat.mul_le_mul_right _ hn2) (Nat.le_trans a3 a2);have hfit1:(n+(k0+1))*i.size≤cs.size:=Nat.le_trans (Nat.mul_le_mul_right _ hn1) (Nat.le_trans a3 a2);rw[Nat.add_mul]at hfit1 hfit2;generalize hnews:(cs.toList.drop (st2*i.size)).take ((k0+1)*i.size)=news;have hnl:news.length=(k0+1)*i.size:=by rw[←hnews];simp;omega
          have hng:∀j,j<(k0+1)*i.size→news[j]? =cs[st2*i.size+j]? :=fun j hj=>by rw[←hnews,List.getElem?_take,if_pos hj,List.getElem?_drop,Array.getElem?_toList]
          have hcell:∀(j:Nat) (y:Value),news[j]? =some y→w.cell? ((⟨p.block,k2,none⟩:Addr).add j)=some y:=fun j y hy=>by
           have hj:j<(k0+1)*i.size:=by rw[←hnl];exact(List.getElem?_eq_some_iff.1 hy).1
           rw[hng j hj]at hy;rw[Addr.add_mid,hk2];simp[World.cell?,a1,hy]
          have hone:∀y∈news,y.oneCell'=true:=fun y hy=>by
           obtain⟨j,hj,ej⟩:=List.mem_iff_getElem.1 hy;have hj':j<(k0+1)*i.size:=by omega
           have hjd:j/i.size<k0+1:=by rw[Nat.div_lt_iff_lt_mul e2];exact hj'
           obtain⟨z,z1,z2⟩:=a4 (st2+j/i.size) (j%i.size) (by omega) (Nat.mod_lt _ e2);have hzz:=hng j hj';rw[List.getElem?_eq_getElem hj,ej]at hzz;rw[Nat.add_mul,Nat.add_assoc,Nat.div_add_mod']at z1;rw[z1]at hzz;cases hzz;exact z2
          have hrun:=run_append_room (P:=P) w t' ty e inf htt.und hinf p.block n c cs (by rw[hty]at*;exact a1) ⟨p.block,k2,none⟩ (k0+1) c2 news (by rw[i1];exact hnl) hcell hone (by omega) (by rw[hnl,i1];omega);rw[i1]at hrun;generalize hcs':(cs.toList.take (n*i.size)++news++cs.toList.drop (n*i.size+news.length)).toArray=cs' at hrun;have hget:∀q:Nat,cs'[q]? =if q<n*i.size then cs[q]? else if q<n*i.size+news.length then news[q-n*i.size]? else cs[q]? :=fun q=>by rw[←hcs',List.getElem?_toArray,Kl _ _ _ _ (by rw[hnl];simp;omega)];simp only[Array.getElem?_toList]
          have hsize:cs'.size=cs.size:=by rw[←hcs'];simp[hnl];omega
          have hheap':(w.setRow p.block cs').heap[p.block]? =some (.cells cs' e (0,0)):=setRow_heap w p.block cs cs' e (0,0) (by rw[hty]at*;exact a1);have hat:∀r j,r<o.len→j<i.size→cs'[r*i.size+j]? =if n≤r∧r<n+(k0+1)then cs[(st2+(r-n))*i.size+j]? else cs[r*i.size+j]? :=fun r j hr hj=>by
           rw[hget,hnl];by_cases g1:r<n
           ·rw[if_pos (Wc hj g1),if_neg (by omega)]
           ·have g3:¬r*i.size+j<n*i.size:=by have:=Nat.mul_le_mul_right i.size (show n≤r by omega);omega
            rw[if_neg g3];by_cases g2:r<n+(k0+1)
            ·have g4:=Wc hj g2;rw[Nat.add_mul]at g4;have g5:r*i.size=n*i.size+(r-n)*i.size:=by rw[←Nat.add_mul];congr 1;omega
             rw[if_pos g4,if_pos ⟨by omega,g2⟩,hng _ (by omega)];congr 1;rw[Nat.add_mul];omega
            ·have g4:¬r*i.size+j<n*i.size+(k0+1)*i.size:=by have:=Nat.mul_le_mul_right i.size (show n+(k0+1)≤r by omega);rw[Nat.add_mul]at this;omega
             rw[if_neg g4,if_neg (by omega)]
          have hnew:Qt M ρ (w.setRow p.block cs') d2 o':=by
           refine Uu.Qer f1 hp (fun ty' sz' rows eq=>?_) (fun ty' sz' rows eq=>?_) (fun ty' row l2 eq=>?_) (fun ty' row l2 r c x eq=>absurd eq (f4 _ _ _ _ _ _)) hheap' (by rw[hsize];exact a2) (by rw[f2];exact a3) (fun r j hr hj=>?_) (fun r j y hr hy=>?_)
           ·rw[eq]at f3;exact f3.trans hty
           ·rw[eq]at f3;exact f3.trans hty
           ·rw[eq]at f3;exact f3.trans hty
           ·rw[f2]at hr;rw[hat r j hr hj];split
            ·exact a4 _ j (by omega) hj
            ·exact a4 _ j hr hj
           ·rw[f2]at hr;rw[f5 r hr]at hy;split at hy
            ·rename_i g;obtain⟨q1,q2⟩:=a5 (st2+(r-n)) j y (by omega) hy;refine⟨q1,fun z hz=>q2 z ?_⟩;rw[hat r j hr q1,if_pos g]at hz;exact hz
            ·rename_i g;obtain⟨q1,q2⟩:=a5 r j y hr hy;refine⟨q1,fun z hz=>q2 z ?_⟩;rw[hat r j hr q1,if_neg g]at hz;exact hz
          obtain⟨g1,g2⟩:=hm.put (so:=o') ho (Qc8 hz) hp (fun b hb=>Qca hb) (setRow_size ..) (Qc8 f1) hnew;exact⟨_,_,hrun,_,_,[d2],[],M,ρ,h,.slb _ _ _ _ _ (.sl _ _ 0 _ c 0 p hp (by simp) hcc (by omega) h6) ⟨_,_,_,rfl,hmc⟩,g1,g2⟩
  ·exact h.elim
 ·exact h.elim
def Qng(tab:Qk)(H:List Qa)(t t':Nat)(a x:SV):Qj:=match a with
 |.slb _ _ _ _ _=>Qpu tab H t t' a x
 |_=>Qnp tab H t t' a x
theorem Zzm{P:Program}{tab:Qk}(htab:Qu P tab){M:Qc}{ρ:Env}{H:List Qa}{w:World}{K:Qm}(hm:Mem M ρ H w){t t' ty:Nat}{a x:SV}{v u:Value}(ha:Qd M ρ v a)(hx:Qd M ρ u x)
  (h:(Qng tab H t t' a x).holds H K):Qp P (Builtin.append_ #[t,t'] ty #[v,u]) M ρ H w K:=by
 unfold Qng at h;split at h
 ·exact Zja htab hm ha hx h
 ·exact Zwa htab hm ha hx h
end Go.Sx
