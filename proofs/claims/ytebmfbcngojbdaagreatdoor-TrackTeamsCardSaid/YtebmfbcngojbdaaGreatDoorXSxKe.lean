/- Part Ke of the own logic: equality of rows of cells; which data may be keys. Part I of the own logic: maps and ranges over strings. -/
import Derived.Test.YtebmfbcngojbdaaGreatDoorXSxH
import Derived.Orders
import Derived.IntWalk
import Derived.Maps.RangeRun
set_option linter.unusedVariables false
set_option linter.unusedSimpArgs false
namespace Go.Sx
open Go
theorem Uf{P:Program}{t:TypeId}{i:TI}(h:Yf P t i)(w:World):(isAgg t).run P w=.ok i.desc.isRow w:=by unfold isAgg;rw[Sem.run_bind,run_underlying h.und w];generalize i.desc=d;cases d<;>simp[TypeDesc.isRow]
def SV.cells?:SV→Option (List SV)
 |.agg l=>some l
 |.pv (.lit (.agg a))=>some (a.toList.map .lit)
 |_=>none
theorem Qat{M:Qc}{ρ:Env}{v:Value}{x:SV}{l:List SV}(h:x.cells? =some l)(hr:Qe M ρ v x):
  ∃cs,v=.agg cs∧cs.size=l.length∧∀(i:Nat) (v:Value) (x:SV),cs[i]? =some v→l[i]? =some x→Qe M ρ v x:=by
 unfold SV.cells? at h;split at h
 ·cases h;cases hr with
  |agg cs _ hl hr=>exact⟨cs,rfl,hl,hr⟩
 ·rename_i a;cases h;have:=hr.Q1;subst this;refine⟨a,rfl,by simp,fun i v x hv hx=>?_⟩;simp only[List.getElem?_map,Option.map_eq_some_iff]at hx;obtain⟨z,hz,rfl⟩:=hx;rw[Array.getElem?_toList,hv]at hz;cases hz;exact .pv (.lit _)
 ·cases h
def partOf(tab:Qo)(t:Nat)(l:List SV)(off:Nat):Option SV:=match tab.lookup t with
 |none=>none
 |some i=>match i.desc.isRow with
  |true=>match Nat.ble (off+i.size) l.length with
   |true=>some (.Yd ((l.drop off).take i.size))
   |false=>none
  |false=>l[off]?
theorem Qf4{P:Program}{tab:Qo}(htab:Qf P tab){M:Qc}{ρ:Env}(w:World){t off:Nat}{cs:Array Value}{l:List SV}{x:SV}(hl:cs.size=l.length)
  (hr:∀(i:Nat) (v:Value) (x:SV),cs[i]? =some v→l[i]? =some x→Qe M ρ v x) (h:partOf tab t l off=some x):∃v,(part t cs off).run P w=.ok v w∧Qe M ρ v x:=by
 unfold partOf at h;split at h
 ·cases h
 ·rename_i i hi;have ht:=htab.get hi;obtain⟨inf,hinf,i1,_⟩:=ht.inf;split at h
  ·rename_i hd;split at h
   ·rename_i hle;have hle:=Nat.le_of_ble_eq_true hle;cases h;refine⟨.agg (cs.extract off (off+i.size)),by simp[part,Uf ht,hd,sizeOf,typeInfo,hinf,i1],?_⟩;have:=Qe.Yd (M:=M) (ρ:=ρ) (cs:=(cs.extract off (off+i.size)).toList) (l:=(l.drop off).take i.size) (by simp;omega) (fun k v x hv hx=>by
     rw[List.getElem?_take]at hx;split at hx
     ·rename_i hk;rw[List.getElem?_drop]at hx;rw[Array.getElem?_toList,Array.getElem?_extract]at hv;split at hv
      ·exact hr _ v x hv hx
      ·cases hv
     ·cases hx)
    rwa[Array.toArray_toList]at this
   ·cases h
  ·rename_i hd;have hlt:off<cs.size:=by have:=(List.getElem?_eq_some_iff.1 h).1;omega
   exact⟨cs[off],by simp[part,Uf ht,hd,hlt],hr off _ _ (by simp[hlt]) h⟩
def Vx(d:TypeDesc)(x y:SV):Option Bool:=match d,x,y with
 |.bool,.pv (.lit (.bool a)),.pv (.lit (.bool b))=>some (a==b)
 |.int _,.pv (.lit (.int k a)),.pv (.lit (.int k' b))=>match decide (k=k')with
  |true=>some (decide (a=b))
  |false=>none
 |.string,.pv (.lit (.string a)),.pv (.lit (.string b))=>some (a==b)
 |_,_,_=>none
def Wf(eq:Nat→SV→SV→Option Bool)(tab:Qo)(xs ys:List SV):List Field→Option Bool
 |[]=>some true
 |f::fs=>match decide (f.name= "_")with
  |true=>Wf eq tab xs ys fs
  |false=>match partOf tab f.type xs f.offset with
   |none=>none
   |some a=>match partOf tab f.type ys f.offset with
    |none=>none
    |some b=>match eq f.type a b with
     |none=>none
     |some r=>match Wf eq tab xs ys fs with
      |none=>none
      |some r'=>some (r&&r')
def W7(eq:Nat→SV→SV→Option Bool)(tab:Qo)(xs ys:List SV)(e sz:Nat):Nat→Nat→Option Bool
 |_,0=>some true
 |i,k+1=>match partOf tab e xs (i*sz)with
  |none=>none
  |some a=>match partOf tab e ys (i*sz)with
   |none=>none
   |some b=>match eq e a b with
    |none=>none
    |some r=>match W7 eq tab xs ys e sz (i+1) k with
     |none=>none
     |some r'=>some (r&&r')
def eqV(P:Program)(tab:Qo):Nat→Nat→SV→SV→Option Bool
 |0,_,_,_=>none
 |n+1,t,x,y=>match tab.lookup t with
  |none=>none
  |some i=>match i.desc with
   |.struct fields=>match P.stoodInHeld t with
    |true=>none
    |false=>match x.cells? with
     |none=>none
     |some xs=>match y.cells? with
      |none=>none
      |some ys=>Wf (eqV P tab n) tab xs ys fields.toList
   |.array len e=>match tab.lookup e with
    |none=>none
    |some ie=>match x.cells? with
     |none=>none
     |some xs=>match y.cells? with
      |none=>none
      |some ys=>W7 (eqV P tab n) tab xs ys e ie.size 0 len
   |d=>Vx d x y
theorem Qig{P:Program}{tab:Qo}(htab:Qf P tab){M:Qc}{ρ:Env}(w:World){eq:Nat→SV→SV→Option Bool}{E:Nat→Value→Value→Sem Bool}
  (hE:∀t x y vx vy b,eq t x y=some b→Qe M ρ vx x→Qe M ρ vy y→(E t vx vy).run P w=.ok b w)
  {cx cy:Array Value} {xs ys:List SV} (lx:cx.size=xs.length) (ly:cy.size=ys.length)
  (rx:∀(i:Nat) (v:Value) (x:SV),cx[i]? =some v→xs[i]? =some x→Qe M ρ v x) (ry:∀(i:Nat) (v:Value) (x:SV),cy[i]? =some v→ys[i]? =some x→Qe M ρ v x):
  ∀(fl:List Field) (b:Bool),Wf eq tab xs ys fl=some b→
  Sem.run P (forIn fl ((none,()):Option Bool×Unit) fun f __s=>
      if f.name= "_" then pure (ForInStep.yield (none,()))
      else do
       let a ←part f.type cx f.offset;let c ←part f.type cy f.offset;let r ←E f.type a c
       if r=false then pure (ForInStep.done (some false,()))else pure (ForInStep.yield (none,()))) w=.ok (if b then(none,())else(some false,())) w
 |[],b,h=>by simp[Wf]at h;subst h;simp
 |f::fs,b,h=>by
  rw[List.forIn_cons];simp only[Wf]at h;split at h
  ·rename_i hn;have hn:=of_decide_eq_true hn;simp only[hn,if_true,Sem.run_bind,Sem.run_pure,Result.andThen_ok];exact Qig htab w hE lx ly rx ry fs b h
  ·rename_i hn;have hn:=of_decide_eq_false hn;split at h
   ·cases h
   ·rename_i a ha;split at h
    ·cases h
    ·rename_i c hc;split at h
     ·cases h
     ·rename_i r hr;split at h
      ·cases h
      ·rename_i r' hr';cases h;obtain⟨va,p1,p2⟩:=Qf4 htab w lx rx ha;obtain⟨vc,p3,p4⟩:=Qf4 htab w ly ry hc;have p5:=hE _ _ _ _ _ _ hr p2 p4;have ih:=Qig htab w hE lx ly rx ry fs r' hr';simp only[hn,if_false,Sem.run_bind,p1,p3,p5,Result.andThen_ok];cases r with
       |false=>simp
       |true=>simp only[Bool.true_eq_false,if_false,Sem.run_pure,Result.andThen_ok,Bool.true_and];exact ih
theorem Qwg{P:Program}{tab:Qo}(htab:Qf P tab){M:Qc}{ρ:Env}(w:World){eq:Nat→SV→SV→Option Bool}{E:Nat→Value→Value→Sem Bool}
  (hE:∀t x y vx vy b,eq t x y=some b→Qe M ρ vx x→Qe M ρ vy y→(E t vx vy).run P w=.ok b w)
  {cx cy:Array Value} {xs ys:List SV} (lx:cx.size=xs.length) (ly:cy.size=ys.length)
  (rx:∀(i:Nat) (v:Value) (x:SV),cx[i]? =some v→xs[i]? =some x→Qe M ρ v x) (ry:∀(i:Nat) (v:Value) (x:SV),cy[i]? =some v→ys[i]? =some x→Qe M ρ v x) {e sz:Nat}:
  ∀(k i:Nat) (b:Bool),W7 eq tab xs ys e sz i k=some b→
  Sem.run P (forIn (List.range' i k) ((none,()):Option Bool×Unit) fun i __s=>do
       let a ←part e cx (i*sz);let c ←part e cy (i*sz);let r ←E e a c
       if r=false then pure (ForInStep.done (some false,()))else pure (ForInStep.yield (none,()))) w=.ok (if b then(none,())else(some false,())) w
 |0,i,b,h=>by simp[W7]at h;subst h;simp
 |k+1,i,b,h=>by
  rw[List.range'_succ,List.forIn_cons];simp only[W7]at h;split at h
  ·cases h
  ·rename_i a ha;split at h
   ·cases h
   ·rename_i c hc;split at h
    ·cases h
    ·rename_i r hr;split at h
     ·cases h
     ·rename_i r' hr';cases h;obtain⟨va,p1,p2⟩:=Qf4 htab w lx rx ha;obtain⟨vc,p3,p4⟩:=Qf4 htab w ly ry hc;have p5:=hE _ _ _ _ _ _ hr p2 p4;have ih:=Qwg htab w hE lx ly rx ry k (i+1) r' hr';simp only[Sem.run_bind,p1,p3,p5,Result.andThen_ok];cases r with
      |false=>simp
      |true=>simp only[Bool.true_eq_false,if_false,Sem.run_pure,Result.andThen_ok,Bool.true_and];exact ih
theorem Qe5{P:Program}{tab:Qo}(htab:Qf P tab){M:Qc}{ρ:Env}(w:World):∀(n:Nat) (t:Nat) (x y:SV) (vx vy:Value) (b:Bool),eqV P tab n t x y=some b→Qe M ρ vx x→Qe M ρ vy y→
  ∀d,n≤d→(Op.equalIn d t vx vy).run P w=.ok b w
 |0,t,x,y,vx,vy,b,h,hx,hy=>by simp[eqV]at h
 |n+1,t,x,y,vx,vy,b,h,hx,hy=>by
  intro d hd;obtain⟨d,rfl⟩:∃e,d=e+1:=⟨d-1,by omega⟩;unfold eqV at h;split at h
  ·cases h
  ·rename_i i hi;have ht:=htab.get hi;split at h
   ·rename_i fields hdesc;split at h
    ·cases h
    ·rename_i hst;split at h
     ·cases h
     ·rename_i xs hxs;split at h
      ·cases h
      ·rename_i ys hys;obtain⟨cx,rfl,lx,rx⟩:=Qat hxs hx;obtain⟨cy,rfl,ly,ry⟩:=Qat hys hy;have hu:P.underlying t=some (.struct fields):=by rw[ht.und,hdesc]
       unfold Op.equalIn;simp only[Sem.run_bind,run_underlying hu,Result.andThen_ok];simp[hst];rw[←Array.forIn_toList];generalize fields.toList=fl at h;rw[Qig htab w (fun t x y vx vy b h hx hy=>Qe5 htab w n t x y vx vy b h hx hy d (by omega)) lx ly rx ry fl b h];cases b<;>simp
   ·rename_i len e hdesc;split at h
    ·cases h
    ·rename_i ie hie;split at h
     ·cases h
     ·rename_i xs hxs;split at h
      ·cases h
      ·rename_i ys hys;obtain⟨cx,rfl,lx,rx⟩:=Qat hxs hx;obtain⟨cy,rfl,ly,ry⟩:=Qat hys hy;have hu:P.underlying t=some (.array len e):=by rw[ht.und,hdesc]
       obtain⟨inf,hinf,i1,_⟩:=(htab.get hie).inf;have hsz:(Go.sizeOf e).run P w=.ok ie.size w:=by simp[Go.sizeOf,typeInfo,hinf,i1]
       unfold Op.equalIn;simp only[Sem.run_bind,run_underlying hu,Result.andThen_ok,hsz];simp;rw[Qwg htab w (fun t x y vx vy b h hx hy=>Qe5 htab w n t x y vx vy b h hx hy d (by omega)) lx ly rx ry len 0 b h];cases b<;>simp
   ·rename_i hns;unfold Vx at h;split at h
    ·rename_i hdesc;cases h;have ex:=hx.Q1;have ey:=hy.Q1;subst ex;subst ey;have hu:=ht.und;rw[hdesc]at hu;unfold Op.equalIn;simp[Sem.run_bind,run_underlying hu]
    ·rename_i hdesc;split at h
     ·rename_i hk;cases of_decide_eq_true hk;cases h;have ex:=hx.Q1;have ey:=hy.Q1;subst ex;subst ey;have hu:=ht.und;rw[hdesc]at hu;unfold Op.equalIn;simp[Sem.run_bind,run_underlying hu];rfl
     ·cases h
    ·rename_i hdesc;cases h;have ex:=hx.Q1;have ey:=hy.Q1;subst ex;subst ey;have hu:=ht.und;rw[hdesc]at hu;unfold Op.equalIn;simp[Sem.run_bind,run_underlying hu]
    ·cases h
def Yh:TypeDesc→Qk→Bool
 |.int k,.val (.int k')=>decide (k=k')
 |.string,.val .str=>true
 |.bool,.val .bool=>true
 |_,_=>false
theorem Qsi{d:TypeDesc}{a:Qk}(h:Yh d a=true):a.scalar=true:=by unfold Yh at h;split at h<;>first|rfl|cases h
def Y8(tab:Qo):List Field→List Ty→Nat→Bool
 |[],[],_=>true
 |f::fs,t::ts,i=>match decide (f.name= "_")with
  |true=>false
  |false=>match Nat.beq f.offset i with
   |false=>false
   |true=>match tab.lookup f.type with
    |none=>false
    |some d=>Yh d.desc (.val t)&&Y8 tab fs ts (i+1)
 |_,_,_=>false
def X9(d:TypeDesc):List Ty→Bool
 |[]=>true
 |t::ts=>Yh d (.val t)&&X9 d ts
def Jz(P:Program)(tab:Qo)(kt:Nat)(d:TypeDesc):Qk→Bool
 |.agg row=>match d with
  |.struct fs=>match P.stoodInHeld kt with
   |true=>false
   |false=>Y8 tab fs.toList row 0
  |.array len e=>match tab.lookup e with
   |none=>false
   |some ie=>Nat.beq row.length len&&(Nat.beq ie.size 1&&X9 ie.desc row)
  |_=>false
 |_=>false
def Vg(P:Program)(tab:Qo)(kt:Nat)(d:TypeDesc)(a:Qk):Bool:=match Yh d a with
 |true=>true
 |false=>Jz P tab kt d a
theorem Up{d:TypeDesc}{t:Ty}(h:Yh d (.val t)=true):d.isRow=false∧t.scalar=true:=by refine⟨?_,Qsi (a:=.val t) h⟩;unfold Yh at h;split at h<;>first|rfl|cases h
theorem Zcf{d:TypeDesc}:∀{t:Ty} (h:Yh d (.val t)=true) (x y:t.El),Vx d (.pv (t.pv x)) (.pv (t.pv y))=some (t.eqv x y)
 |.int b,h,x,y=>by
  cases d<;>first|(simp only[Yh,Bool.false_eq_true]at h;done)|skip
  rename_i a;have e:a=b:=by simpa[Yh]using h
  subst e;have key:∀x y:Int,Vx (.int a) (.pv (.lit (.int a x))) (.pv (.lit (.int a y)))=some (Qc9 x y):=fun x y=>by simp[Vx,Qc9]
  exact key x y
 |.str,h,x,y=>by
  cases d<;>first|(simp only[Yh,Bool.false_eq_true]at h;done)|skip
  have key:∀x y:ByteArray,Vx .string (.pv (.lit (.string x))) (.pv (.lit (.string y)))=some (strEq x y):=fun x y=>by simp only[Vx,Qc6]
  exact key x y
 |.bool,h,x,y=>by
  cases d<;>first|(simp only[Yh,Bool.false_eq_true]at h;done)|skip
  have key:∀x y:Bool,Vx .bool (.pv (.lit (.bool x))) (.pv (.lit (.bool y)))=some (U4 x y):=by decide
  exact key x y
 |.seq _,h,x,y=>by cases d<;>simp only[Yh,Bool.false_eq_true]at h
theorem Qfj{P:Program}{tab:Qo}{n ft:Nat}{i:TI}(hi:tab.lookup ft=some i){t:Ty}(h:Yh i.desc (.val t)=true)(x y:t.El):eqV P tab (n+1) ft (.pv (t.pv x)) (.pv (t.pv y))=some (t.eqv x y):=by
 have e:=Zcf h x y;unfold eqV;rw[hi];simp only;split
 ·rename_i hd;rw[hd]at h;exact absurd h (by cases t<;>simp[Yh])
 ·rename_i hd;rw[hd]at h;exact absurd h (by cases t<;>simp[Yh])
 ·exact e
theorem Vw{tab:Qo}{ft off:Nat}{i:TI}(hi:tab.lookup ft=some i){t:Ty}(h:Yh i.desc (.val t)=true){xs:List SV}{q:SV}(hq:xs[off]? =some q):partOf tab ft xs off=some q:=by unfold partOf;rw[hi];simp only[(Up h).1,hq]
theorem Qwo{P:Program}{tab:Qo}{n:Nat}{xs ys:List SV}:∀(fs:List Field) (ts:List Ty) (i:Nat) (x y:Els ts),Y8 tab fs ts i=true→
  (∀j q,(Q3 ts x)[j]? =some q→xs[i+j]? =some (.pv q))→(∀j q,(Q3 ts y)[j]? =some q→ys[i+j]? =some (.pv q))→
  Wf (eqV P tab (n+1)) tab xs ys fs=some (Els.eqv ts x y)
 |[],[],i,x,y,h,hx,hy=>rfl
 |[],_::_,i,x,y,h,hx,hy=>by simp[Y8]at h
 |_::_,[],i,x,y,h,hx,hy=>by simp[Y8]at h
 |f::fs,[t],i,x,y,h,hx,hy=>by
  simp only[Y8]at h;split at h
  ·cases h
  ·rename_i hn;split at h
   ·cases h
   ·rename_i ho;have ho:=Nat.eq_of_beq_eq_true ho;split at h
    ·cases h
    ·rename_i d hd;rw[Bool.and_eq_true]at h;have h1:=Vw hd h.1 (hx 0 (t.pv x) rfl);have h2:=Vw hd h.1 (hy 0 (t.pv y) rfl);have h3:=Qfj (P:=P) (n:=n) hd h.1 x y;have h4:Wf (eqV P tab (n+1)) tab xs ys fs=some true:=by
      cases fs with
      |nil=>rfl
      |cons _ _=>simp[Y8]at h
     simp only[Wf,hn,ho,Nat.add_zero]at h1 h2⊢;simp only[h1,h2,h3,h4,Bool.and_true];rfl
 |f::fs,t::t'::ts,i,x,y,h,hx,hy=>by
  simp only[Y8]at h;split at h
  ·cases h
  ·rename_i hn;split at h
   ·cases h
   ·rename_i ho;have ho:=Nat.eq_of_beq_eq_true ho;split at h
    ·cases h
    ·rename_i d hd;rw[Bool.and_eq_true]at h;have h1:=Vw hd h.1 (hx 0 (t.pv x.1) rfl);have h2:=Vw hd h.1 (hy 0 (t.pv y.1) rfl);have h3:=Qfj (P:=P) (n:=n) hd h.1 x.1 y.1;have h4:=Qwo (P:=P) (n:=n) fs (t'::ts) (i+1) x.2 y.2 h.2 (fun j q hq=>by rw[Nat.add_assoc,Nat.add_comm 1 j];exact hx (j+1) q hq) (fun j q hq=>by rw[Nat.add_assoc,Nat.add_comm 1 j];exact hy (j+1) q hq);simp only[Wf,hn,ho,Nat.add_zero]at h1 h2⊢;simp only[h1,h2,h3,h4];show some (t.eqv x.1 y.1&&Els.eqv (t'::ts) x.2 y.2)=some (Xu t.eqv (Els.eqv (t'::ts)) x y);unfold Xu;cases t.eqv x.1 y.1<;>rfl
theorem Qur{P:Program}{tab:Qo}{n e:Nat}{ie:TI}(he:tab.lookup e=some ie){xs ys:List SV}:∀(ts:List Ty) (i:Nat) (x y:Els ts),X9 ie.desc ts=true→
  (∀j q,(Q3 ts x)[j]? =some q→xs[i+j]? =some (.pv q))→(∀j q,(Q3 ts y)[j]? =some q→ys[i+j]? =some (.pv q))→
  W7 (eqV P tab (n+1)) tab xs ys e 1 i ts.length=some (Els.eqv ts x y)
 |[],i,x,y,h,hx,hy=>rfl
 |[t],i,x,y,h,hx,hy=>by simp only[X9,Bool.and_eq_true]at h;have h1:=Vw he h.1 (hx 0 (t.pv x) rfl);have h2:=Vw he h.1 (hy 0 (t.pv y) rfl);have h3:=Qfj (P:=P) (n:=n) he h.1 x y;simp only[Nat.add_zero]at h1 h2;simp only[List.length_cons,List.length_nil,W7,Nat.mul_one,h1,h2,h3,Bool.and_true];rfl
 |t::t'::ts,i,x,y,h,hx,hy=>by simp only[X9,Bool.and_eq_true]at h;have h1:=Vw he h.1 (hx 0 (t.pv x.1) rfl);have h2:=Vw he h.1 (hy 0 (t.pv y.1) rfl);have h3:=Qfj (P:=P) (n:=n) he h.1 x.1 y.1;have h4:=Qur (P:=P) (n:=n) he (t'::ts) (i+1) x.2 y.2 (by simp only[X9,Bool.and_eq_true];exact h.2) (fun j q hq=>by rw[Nat.add_assoc,Nat.add_comm 1 j];exact hx (j+1) q hq) (fun j q hq=>by rw[Nat.add_assoc,Nat.add_comm 1 j];exact hy (j+1) q hq);simp only[Nat.add_zero]at h1 h2;show W7 (eqV P tab (n+1)) tab xs ys e 1 i ((t'::ts).length+1)=_;simp only[W7,Nat.mul_one,h1,h2,h3,h4];show some (t.eqv x.1 y.1&&Els.eqv (t'::ts) x.2 y.2)=some (Xu t.eqv (Els.eqv (t'::ts)) x y);unfold Xu;cases t.eqv x.1 y.1<;>rfl
theorem Qoa{P:Program}{tab:Qo}{kt:Nat}{d:TypeDesc}{a:Qk}(h:Jz P tab kt d a=true):a.scalar=true:=by
 have key1:∀(fs:List Field) (ts:List Ty) (i:Nat),Y8 tab fs ts i=true→ts.all Ty.scalar=true:=by
  intro fs;induction fs with
  |nil=>intro ts i h;cases ts<;>first|rfl|(simp[Y8]at h)
  |cons f fs ih=>
   intro ts i h;cases ts with
   |nil=>rfl
   |cons t ts=>
    simp only[Y8]at h;split at h
    ·cases h
    ·split at h
     ·cases h
     ·split at h
      ·cases h
      ·rw[Bool.and_eq_true]at h;rw[List.all_cons,Bool.and_eq_true];exact⟨(Up h.1).2,ih _ _ h.2⟩
 have key2:∀(d:TypeDesc) (ts:List Ty),X9 d ts=true→ts.all Ty.scalar=true:=by
  intro d ts;induction ts with
  |nil=>intro _;rfl
  |cons t ts ih=>intro h;simp only[X9,Bool.and_eq_true]at h;rw[List.all_cons,Bool.and_eq_true];exact⟨(Up h.1).2,ih h.2⟩
 unfold Jz at h;split at h
 ·split at h
  ·split at h
   ·cases h
   ·exact key1 _ _ _ h
  ·split at h
   ·cases h
   ·simp only[Bool.and_eq_true]at h;exact key2 _ _ h.2.2
  ·cases h
 ·cases h
theorem Qbn{P:Program}{tab:Qo}{kt:Nat}{d:TypeDesc}{a:Qk}(h:Vg P tab kt d a=true):a.scalar=true:=by
 unfold Vg at h;split at h
 ·rename_i e;exact Qsi e
 ·exact Qoa h
theorem Zdg{P:Program}{tab:Qo}{kt:Nat}{d:TypeDesc}{a:Qk}{i:TI}(hi:tab.lookup kt=some i)(h:Jz P tab kt i.desc a=true)(x y:a.El):eqV P tab 2 kt (a.raw x) (a.raw y)=some (a.eqv x y):=by
 unfold Jz at h;split at h
 ·rename_i row;split at h
  ·rename_i fs hd;split at h
   ·cases h
   ·rename_i hs;simp only[eqV,hi,hd,hs,Qk.raw,SV.cells?];exact Qwo (P:=P) (n:=0) fs.toList row 0 x y h (fun j q hq=>by simp[hq]) (fun j q hq=>by simp[hq])
  ·rename_i len e hd;split at h
   ·cases h
   ·rename_i ie hie;simp only[Bool.and_eq_true]at h;have e1:=Nat.eq_of_beq_eq_true h.1;have e2:=Nat.eq_of_beq_eq_true h.2.1;simp only[eqV,hi,hd,hie,Qk.raw,SV.cells?,e2,←e1];exact Qur (P:=P) (n:=0) hie row 0 x y h.2.2 (fun j q hq=>by simp[hq]) (fun j q hq=>by simp[hq])
  ·cases h
 ·cases h
theorem Qdp{P:Program}{tab:Qo}(htab:Qf P tab){ft off:Nat}{i:TI}(hi:tab.lookup ft=some i)(hd:i.desc.isRow=false){cs:Array Value}{v:Value}(hv:cs[off]? =some v)(w:World):(part ft cs off).run P w=.ok v w:=by have ht:=htab.get hi;obtain⟨h1,h2⟩:=Array.getElem?_eq_some_iff.1 hv;simp[part,Uf ht,hd,h1,h2]
theorem Qbw{P:Program}{tab:Qo}(htab:Qf P tab){ft:Nat}{i:TI}(hi:tab.lookup ft=some i){t:Ty}(h:Yh i.desc (.val t)=true)(x:t.El)(e:Bool)(n:Nat)(w:World):
  (Instr.checkKey e (n+1) ft (t.toV x)).run P w=.ok () w:=by
 unfold Instr.checkKey;simp only[Sem.run_bind,run_underlying (htab.get hi).und,Result.andThen_ok];generalize i.desc=d at h;cases t<;>cases d<;>first|(simp only[Yh,Bool.false_eq_true]at h;done)|rfl
theorem Qt9{P:Program}{tab:Qo}(htab:Qf P tab){cs:Array Value}{e:Bool}{n:Nat}(w:World):∀(fs:List Field) (ts:List Ty) (i:Nat) (x:Els ts),Y8 tab fs ts i=true→(∀j v,(Xj ts x)[j]? =some v→cs[i+j]? =some v)→
  Sem.run P (forIn fs PUnit.unit fun f __s=>if f.name= "_" then pure (ForInStep.yield PUnit.unit)else do
     let v ←part f.type cs f.offset
     (fun a=>ForInStep.yield PUnit.unit)<$>Instr.checkKey e (n+1) f.type v) w=.ok PUnit.unit w
 |[],[],i,x,h,hx=>by simp
 |[],_::_,i,x,h,hx=>by simp[Y8]at h
 |_::_,[],i,x,h,hx=>by simp[Y8]at h
 |f::fs,[t],i,x,h,hx=>by
  simp only[Y8]at h;split at h
  ·cases h
  ·rename_i hn;have hn:=of_decide_eq_false hn;split at h
   ·cases h
   ·rename_i ho;have ho:=Nat.eq_of_beq_eq_true ho;split at h
    ·cases h
    ·rename_i d hd;rw[Bool.and_eq_true]at h;have h1:=Qdp htab hd (Up h.1).1 (hx 0 (t.toV x) rfl) w;rw[Nat.add_zero,←ho]at h1;have h4:fs=[]:=by
      cases fs with
      |nil=>rfl
      |cons _ _=>simp[Y8]at h
     subst h4;rw[List.forIn_cons];simp only[hn,if_false,Sem.run_bind,h1,Result.andThen_ok,Sem.run_map,Qbw htab hd h.1 x e n w];simp
 |f::fs,t::t'::ts,i,x,h,hx=>by
  simp only[Y8]at h;split at h
  ·cases h
  ·rename_i hn;have hn:=of_decide_eq_false hn;split at h
   ·cases h
   ·rename_i ho;have ho:=Nat.eq_of_beq_eq_true ho;split at h
    ·cases h
    ·rename_i d hd;rw[Bool.and_eq_true]at h;have h1:=Qdp htab hd (Up h.1).1 (hx 0 (t.toV x.1) rfl) w;rw[Nat.add_zero,←ho]at h1;have h4:=Qt9 htab (cs:=cs) (e:=e) (n:=n) w fs (t'::ts) (i+1) x.2 h.2 (fun j q hq=>by rw[Nat.add_assoc,Nat.add_comm 1 j];exact hx (j+1) q hq);rw[List.forIn_cons];simp only[hn,if_false,Sem.run_bind,h1,Result.andThen_ok,Sem.run_map,Qbw htab hd h.1 x.1 e n w];simpa using h4
theorem Qvp{P:Program}{tab:Qo}(htab:Qf P tab){cs:Array Value}{e:Bool}{n el:Nat}{ie:TI}(he:tab.lookup el=some ie)(hz:ie.size=1)(w:World):∀(ts:List Ty) (i:Nat) (x:Els ts),X9 ie.desc ts=true→(∀j v,(Xj ts x)[j]? =some v→cs[i+j]? =some v)→
  Sem.run P (forIn (List.range' i ts.length) PUnit.unit fun i __s=>do
    let z ←sizeOf el;let v ←part el cs (i*z)
    (fun a=>ForInStep.yield PUnit.unit)<$>Instr.checkKey e (n+1) el v) w=.ok PUnit.unit w
 |[],i,x,h,hx=>by simp
 |[t],i,x,h,hx=>by
  simp only[X9,Bool.and_eq_true]at h;obtain⟨inf,hinf,i1,_⟩:=(htab.get he).inf;have hsz:(Go.sizeOf el).run P w=.ok 1 w:=by simp[Go.sizeOf,typeInfo,hinf,i1,hz]
  have h1:=Qdp htab he (Up h.1).1 (hx 0 (t.toV x) rfl) w;rw[Nat.add_zero]at h1;simp only[List.length_cons,List.length_nil,List.range'_succ,List.range'_zero,List.forIn_cons,Sem.run_bind,hsz,Nat.mul_one,h1,Result.andThen_ok,Sem.run_map,Qbw htab he h.1 x e n w];simp
 |t::t'::ts,i,x,h,hx=>by
  simp only[X9,Bool.and_eq_true]at h;obtain⟨inf,hinf,i1,_⟩:=(htab.get he).inf;have hsz:(Go.sizeOf el).run P w=.ok 1 w:=by simp[Go.sizeOf,typeInfo,hinf,i1,hz]
  have h1:=Qdp htab he (Up h.1).1 (hx 0 (t.toV x.1) rfl) w;rw[Nat.add_zero]at h1;have h4:=Qvp htab (cs:=cs) (e:=e) (n:=n) he hz w (t'::ts) (i+1) x.2 (by simp only[X9,Bool.and_eq_true];exact h.2) (fun j q hq=>by rw[Nat.add_assoc,Nat.add_comm 1 j];exact hx (j+1) q hq);rw[List.length_cons,List.range'_succ,List.forIn_cons];simp only[Sem.run_bind,hsz,Nat.mul_one,h1,Result.andThen_ok,Sem.run_map,Qbw htab he h.1 x.1 e n w];simpa using h4
theorem Zlt{P:Program}{tab:Qo}(htab:Qf P tab){kt:Nat}{i:TI}(hi:tab.lookup kt=some i){a:Qk}(h:Jz P tab kt i.desc a=true)(x:a.El)(e:Bool)(w:World):(Instr.checkKey e 10000 kt (a.Za x)).run P w=.ok () w:=by
 unfold Jz at h;split at h
 ·rename_i row;split at h
  ·rename_i fs hd;split at h
   ·cases h
   ·have hu:=(htab.get hi).und;rw[hd]at hu;unfold Instr.checkKey;simp only[Sem.run_bind,run_underlying hu,Result.andThen_ok];dsimp only[Qk.Za];simp;rw[←Array.forIn_toList];exact Qt9 htab w fs.toList row 0 x h (fun j v hv=>by simpa using hv)
  ·rename_i len el hd;split at h
   ·cases h
   ·rename_i ie hie;simp only[Bool.and_eq_true]at h;have e1:=Nat.eq_of_beq_eq_true h.1;have e2:=Nat.eq_of_beq_eq_true h.2.1;have hu:=(htab.get hi).und;rw[hd]at hu;unfold Instr.checkKey;simp only[Sem.run_bind,run_underlying hu,Result.andThen_ok];dsimp only[Qk.Za];simp;rw[←e1];exact Qvp htab hie e2 w row 0 x h.2.2 (fun j v hv=>by simpa using hv)
  ·cases h
 ·cases h
theorem Ut{P:Program}{tab:Qo}(htab:Qf P tab){kt:Nat}{i:TI}(hi:tab.lookup kt=some i){a:Qk}(h:Vg P tab kt i.desc a=true)(x:a.El)(e:Bool)(w:World):(Instr.checkKey e 10000 kt (a.Za x)).run P w=.ok () w:=by
 unfold Vg at h;split at h
 ·rename_i hd;cases a with
  |val t=>exact Qbw htab hi hd x e 9999 w
  |agg row=>exact absurd hd (by generalize i.desc=d;cases d<;>simp[Yh])
 ·exact Zlt htab hi h x e w
theorem Zs3:∀(ts:List Ty) (x:Els ts),ts.all Ty.scalar=true→((Xj ts x).zip (Xj ts x)).all (fun p=>Instr.sameBits 9999 p.1 p.2)=true:=by
 have cell:∀(t:Ty) (x:t.El),t.scalar=true→Instr.sameBits 9999 (t.toV x) (t.toV x)=true:=by
  intro t x h;cases t with
  |int k=>
   have key:∀a:Int,Instr.sameBits 9999 (.int k a) (.int k a)=true:=fun a=>by simp[Instr.sameBits]
   exact key x
  |str=>
   have key:∀a:ByteArray,Instr.sameBits 9999 (.string a) (.string a)=true:=fun a=>by simp only[Instr.sameBits,Qc6,strEq,decide_true]
   exact key x
  |bool=>
   have key:∀a:Bool,Instr.sameBits 9999 (.bool a) (.bool a)=true:=fun a=>by simp[Instr.sameBits]
   exact key x
  |seq r=>cases h
 intro ts;induction ts with
 |nil=>intro x h;rfl
 |cons t ts ih=>
  intro x h;rw[List.all_cons,Bool.and_eq_true]at h;cases ts with
  |nil=>show(((t.toV x,t.toV x)::[]).all _)=true;simp[cell t x h.1]
  |cons t' ts=>have:=ih x.2 h.2;show(((t.toV x.1,t.toV x.1)::((Xj (t'::ts) x.2).zip (Xj (t'::ts) x.2))).all _)=true;rw[List.all_cons,cell t x.1 h.1,this];rfl
theorem Qrs{a:Qk}(hs:a.scalar=true)(x:a.El):Instr.sameBits 10000 (a.Za x) (a.Za x)=true:=by
 cases a with
 |val t=>
  cases t with
  |int k=>
   have key:∀a:Int,Instr.sameBits 10000 (.int k a) (.int k a)=true:=fun a=>by simp[Instr.sameBits]
   exact key x
  |str=>
   have key:∀a:ByteArray,Instr.sameBits 10000 (.string a) (.string a)=true:=fun a=>by simp only[Instr.sameBits,Qc6,strEq,decide_true]
   exact key x
  |bool=>
   have key:∀a:Bool,Instr.sameBits 10000 (.bool a) (.bool a)=true:=fun a=>by simp[Instr.sameBits]
   exact key x
  |seq r=>cases hs
 |agg row=>have h:=Zs3 row x hs;show Instr.sameBits (9999+1) (.agg (Xj row x).toArray) (.agg (Xj row x).toArray)=true;simp only[Instr.sameBits,beq_self_eq_true,Bool.true_and];exact h
theorem Qan{α β:Type}(P:Program)(x:Sem α)(f:α→Sem β):Zv P (x>>=f)=(Zv P x).bind fun a=>Zv P (f a):=by
 show Zv P (x.bind f)=_;induction x with
 |pure a=>rfl
 |program k ih=>simp only[Sem.bind,Zv];exact ih P
 |mark m k ih=>simp only[Sem.bind,Zv];exact ih
 |_=>simp[Sem.bind,Zv]
theorem J9{α:Type}(P:Program)(a:α):Zv P (pure a:Sem α)=some a:=rfl
theorem Qzl(kind:TypeDesc)(k:Value):∀(l1 l2:List MapEntry) (i:Nat) (r:Option (Nat×Value)),l1.map (·.key)=l2.map (·.key)→Instr.findNow kind k l1 i=some r→
  (r=none∧Instr.findNow kind k l2 i=some none)∨∃(j:Nat) (v:Value) (e:MapEntry),r=some (i+j,v)∧l2[j]? =some e∧Instr.findNow kind k l2 i=some (some (i+j,e.val))
 |[],[],i,r,_,h=>by simp[Instr.findNow]at h;subst h;exact .inl ⟨rfl,rfl⟩
 |[],_::_,_,_,hk,_=>by simp at hk
 |_::_,[],_,_,hk,_=>by simp at hk
 |a::l1,b::l2,i,r,hk,h=>by
  simp only[List.map_cons,List.cons.injEq]at hk;obtain⟨hk0,hk⟩:=hk;simp only[Instr.findNow,hk0]at h⊢;split at h
  ·rename_i hs;cases h;exact .inr ⟨0,a.val,b,rfl,rfl,by simp[hs]⟩
  ·rename_i hs;rcases Qzl kind k l1 l2 (i+1) r hk h with⟨h1,h2⟩|⟨j,v,e,h1,h2,h3⟩
   ·exact .inl ⟨h1,by simp[hs,h2]⟩
   ·exact .inr ⟨j+1,v,e,by rw[h1];congr 2;omega,by simpa using h2,by simp[hs,h3];omega⟩
  ·cases h
theorem Qtv(kind:TypeDesc)(k:Value):∀(l1 l2:List MapEntry) (i:Nat),l1.map (·.key)=l2.map (·.key)→Instr.findNow kind k l1 i=none→Instr.findNow kind k l2 i=none
 |[],[],i,_,h=>by simp[Instr.findNow]at h
 |[],_::_,_,hk,_=>by simp at hk
 |_::_,[],_,hk,_=>by simp at hk
 |a::l1,b::l2,i,hk,h=>by
  simp only[List.map_cons,List.cons.injEq]at hk;obtain⟨hk0,hk⟩:=hk;simp only[Instr.findNow,hk0]at h⊢;split at h
  ·cases h
  ·rename_i hs;simp[hs,Qtv kind k l1 l2 (i+1) hk h]
  ·rename_i hs;simp[hs]
theorem Qxc(P:Program)(t:TypeId)(k:Value):∀(l1 l2:List MapEntry) (i:Nat) (r:Option (Nat×Value)),l1.map (·.key)=l2.map (·.key)→Zv P (Instr.findAsking t k l1 i)=some r→
  (r=none∧Zv P (Instr.findAsking t k l2 i)=some none)∨∃(j:Nat) (v:Value) (e:MapEntry),r=some (i+j,v)∧l2[j]? =some e∧Zv P (Instr.findAsking t k l2 i)=some (some (i+j,e.val))
 |[],[],i,r,_,h=>by simp[Instr.findAsking,J9]at h;subst h;exact .inl ⟨rfl,rfl⟩
 |[],_::_,_,_,hk,_=>by simp at hk
 |_::_,[],_,_,hk,_=>by simp at hk
 |a::l1,b::l2,i,r,hk,h=>by
  simp only[List.map_cons,List.cons.injEq]at hk;obtain⟨hk0,hk⟩:=hk;simp only[Instr.findAsking,Qan,hk0]at h⊢;cases hb:Zv P (Op.equal t k b.key)with
  |none=>simp[hb]at h
  |some c=>
   simp only[hb,Option.bind_some]at h⊢;cases c with
   |true=>simp[J9]at h;subst h;exact .inr ⟨0,a.val,b,rfl,rfl,by simp[J9]⟩
   |false=>
    simp only[Bool.false_eq_true,if_false]at h⊢;rcases Qxc P t k l1 l2 (i+1) r hk h with⟨h1,h2⟩|⟨j,v,e,h1,h2,h3⟩
    ·exact .inl ⟨h1,h2⟩
    ·exact .inr ⟨j+1,v,e,by rw[h1];congr 2;omega,by simpa using h2,by rw[h3];congr 3;omega⟩
theorem Zfn(P:Program)(t:TypeId)(k:Value){l1 l2:List MapEntry}{r:Option (Nat×Value)}(hk:l1.map (·.key)=l2.map (·.key))(h:Zv P (Instr.findKey t k l1)=some r):
  (r=none∧Zv P (Instr.findKey t k l2)=some none)∨∃(j:Nat) (v:Value) (e:MapEntry),r=some (j,v)∧l2[j]? =some e∧Zv P (Instr.findKey t k l2)=some (some (j,e.val)):=by
 simp only[Instr.findKey,Qan]at h⊢;cases hu:Zv P (underlying t)with
 |none=>simp[hu]at h
 |some d=>
  simp only[hu,Option.bind_some]at h⊢;cases hf:Instr.findNow d k l1 0 with
  |some q=>
   simp only[hf,J9,Option.some.injEq]at h;subst h;rcases Qzl d k l1 l2 0 q hk hf with⟨h1,h2⟩|⟨j,v,e,h1,h2,h3⟩
   ·exact .inl ⟨h1,by simp[h2,J9]⟩
   ·exact .inr ⟨j,v,e,by simpa using h1,h2,by simp[h3,J9]⟩
  |none=>
   simp only[hf]at h;rw[Qtv d k l1 l2 0 hk hf];simp only;rcases Qxc P t k l1 l2 0 r hk h with⟨h1,h2⟩|⟨j,v,e,h1,h2,h3⟩
   ·exact .inl ⟨h1,h2⟩
   ·exact .inr ⟨j,v,e,by simpa using h1,h2,by simpa using h3⟩
abbrev Ent:=Value×SV×Nat
def Xz(es:List Ent):List MapEntry:=es.map fun e=>{key:=e.1,val:=.bool false,born:=e.2.2}
def Wb(P:Program)(kt:TypeId)(k:Value)(es:List Ent):Option (Option Nat):=
 match Zv P (Instr.findKey kt k (Xz es))with
 |none=>none
 |some none=>some none
 |some (some (j,_))=>some (some j)
structure Xa (M:Qc) (ρ:Env) (arr:Array MapEntry) (es:List Ent):Prop where
 sz:arr.size=es.length
 rep:∀(i:Nat) (k:Value) (x:SV) (b:Nat),es[i]? =some (k,x,b)→∃e:MapEntry,arr[i]? =some e∧e.key=k∧e.born=b∧Qe M ρ e.val x
theorem Xa.keys{M:Qc}{ρ:Env}{arr:Array MapEntry}{es:List Ent}(h:Xa M ρ arr es):(Xz es).map (·.key)=arr.toList.map (·.key):=by
 apply List.ext_getElem?;intro i;simp only[Xz,List.map_map,List.getElem?_map];by_cases hi:i<es.length
 ·obtain⟨e,h1,h2,_⟩:=h.rep i es[i].1 es[i].2.1 es[i].2.2 (by simp[hi]);rw[←Array.getElem?_toList]at h1;simp[hi,h1,h2]
 ·rw[List.getElem?_eq_none (by omega),List.getElem?_eq_none (by simp;rw[h.sz];omega)];rfl
theorem Wd{P:Program}{M:Qc}{ρ:Env}{arr:Array MapEntry}{es:List Ent}{kt:TypeId}{k:Value}(h:Xa M ρ arr es)(w:World):
  (Wb P kt k es=some none→(Instr.findKey kt k arr.toList).run P w=.ok none w)∧
  (∀j,Wb P kt k es=some (some j)→∃(e:MapEntry) (x:Ent),arr[j]? =some e∧es[j]? =some x∧e.key=x.1∧e.born=x.2.2∧Qe M ρ e.val x.2.1∧(Instr.findKey kt k arr.toList).run P w=.ok (some (j,e.val)) w):=by
 unfold Wb;cases hf:Zv P (Instr.findKey kt k (Xz es))with
 |none=>exact⟨fun h=>by simp at h,fun j h=>by simp at h⟩
 |some r=>
  rcases Zfn P kt k h.keys hf with⟨rfl,h2⟩|⟨j,v,e,rfl,h2,h3⟩
  ·exact⟨fun _=>Kn h2 w,fun j h=>by simp at h⟩
  ·refine⟨fun h=>by simp at h,fun j' hj=>?_⟩;simp at hj;subst hj;rw[Array.getElem?_toList]at h2;have hlt:j<es.length:=by have:=(Array.getElem?_eq_some_iff.1 h2).1;rw[h.sz]at this;exact this
   obtain⟨e',a1,a2,a3,a4⟩:=h.rep j es[j].1 es[j].2.1 es[j].2.2 (by simp[hlt]);rw[h2]at a1;cases a1;exact⟨e,es[j],h2,by simp[hlt],a2,a3,a4,Kn h3 w⟩
def Un(P:Program)(empty:Bool)(kt:TypeId)(k:Value):Bool:=(Zv P (Instr.checkKey empty 10000 kt k)).isSome
theorem V7{P:Program}{empty:Bool}{kt:TypeId}{k:Value}(h:Un P empty kt k=true)(w:World):(Instr.checkKey empty 10000 kt k).run P w=.ok () w:=by unfold Un at h;obtain⟨u,hu⟩:=Option.isSome_iff_exists.1 h;exact Kn hu w
theorem Qy.Uq{M:Qc}{ρ:Env}{w:World}{s:Nat}{es:List Ent}{c:Nat}{p:Place}(h:Qy M ρ w s (.map es c))(hp:ρ s=some p):∃arr,w.heap[p.block]? =some (.map arr c)∧Xa M ρ arr es:=by obtain⟨q,arr,h1,h2,h3,h4⟩:=h;rw[hp]at h1;cases h1;exact⟨arr,h2,h3,h4⟩
def valOf(t:Ty):SV→Option t.El
 |.pv p=>t.of p
 |_=>none
def Qkc(row:List Ty):SV→Option (Els row)
 |.pv (.lit (.agg cs))=>ofRow row (cs.toList.map .lit)
 |.agg l=>match Js l with
  |some ps=>ofRow row ps
  |none=>none
 |_=>none
def Qk.Wx:(a:Qk)→SV→Option a.El
 |.val t=>valOf t
 |.agg row=>Qkc row
theorem Qk.Kh{M:Qc}{ρ:Env}{a:Qk}{x:SV}{v:Value}{y:a.El}(h:a.Wx x=some y)(hx:Qe M ρ v x):Qe M ρ v (a.raw y):=by
 cases a with
 |val t=>
  have h:valOf t x=some y:=h;unfold valOf at h;split at h
  ·cases hx with
   |pv hp=>exact .pv (Ty.Qp7 h hp)
  ·cases h
 |agg row=>
  replace h:Qkc row x=some y:=h;have fin:∀(cs:Array Value) (l:List PV),ofRow row l=some y→cs.size=l.length→(∀(i:Nat) (u:Value) (q:PV),cs[i]? =some u→l[i]? =some q→Q6 M u q)→Qe M ρ (.agg cs) ((Qk.agg row).raw y):=fun cs l hy hl hr=>by obtain⟨g1,g2⟩:=Kk hy;refine .agg cs _ (by simp[hl,g1]) fun i u z hu hz=>?_;simp only[List.getElem?_map,Option.map_eq_some_iff]at hz;obtain⟨q,hq,rfl⟩:=hz;obtain⟨p,hp,himp⟩:=g2 i q hq;exact .pv (himp M u (hr i u p hu hp))
  unfold Qkc at h;split at h
  ·rename_i cs;have:=hx.Q1;subst this;refine fin cs _ h (by simp) fun i u q hu hq=>?_;simp only[List.getElem?_map,Option.map_eq_some_iff,Array.getElem?_toList]at hq;obtain⟨q',hq',rfl⟩:=hq;rw[hu]at hq';cases hq';exact .lit _
  ·split at h
   ·rename_i l ps hps;have e:=Kd hps;subst e;cases hx with
    |agg cs _ hl hr=>
     refine fin cs ps h (by simpa using hl) fun i u q hu hq=>?_;have:=hr i u (.pv q) hu (by simp[hq]);cases this with
     |pv h=>exact h
   ·cases h
  ·cases h
theorem Ty.Zt7{M:Qc}{v:Value}:∀{t:Ty} {x:t.El},t.scalar=true→Q6 M v (t.pv x)→v=t.toV x
 |.int _,_,_,h=>by cases h;rfl
 |.bool,_,_,h=>by cases h;rfl
 |.str,_,_,h=>by cases h;rfl
theorem Qio:∀(ts:List Ty) (x:Els ts),ts.all Ty.scalar=true→Q3 ts x=(Xj ts x).map .lit
 |[],_,_=>rfl
 |[t],x,h=>by cases t<;>first|rfl|(simp[Ty.scalar]at h)
 |t::t'::ts,x,h=>by simp only[List.all_cons,Bool.and_eq_true]at h;have:=Qio (t'::ts) x.2 (by simp only[List.all_cons,Bool.and_eq_true];exact h.2);simp only[Q3,Xj,List.map_cons,this];cases t<;>first|rfl|(simp[Ty.scalar]at h)
theorem Qfm{M:Qc}{ρ:Env}{a:Qk}{x:a.El}{v:Value}(hs:a.scalar=true)(h:Qe M ρ v (a.raw x)):v=a.Za x:=by
 cases a with
 |val t=>
  cases h with
  |pv h=>exact Ty.Zt7 hs h
 |agg row=>
  have e:=Qio row x hs;simp only[Qk.raw,e]at h;cases h with
  |agg cs _ hl hr=>
   show _=Value.agg (Xj row x).toArray;congr 1;apply Array.ext
   ·simpa using hl
   ·intro i h1 h2;have:=hr i cs[i] (.lit ((Xj row x).toArray[i])) (by simp[h1]) (by simp at h2;simp[h2]);rw[this.Q1]
def Z0{K V:Type}(eq:K→K→Bool)(k:K):List (K×V)→Nat→Option (Nat×V)
 |[],_=>none
 |e::l,i=>match eq k e.1 with
  |true=>some (i,e.2)
  |false=>Z0 eq k l (i+1)
theorem Ji{k v:Qk}:∀(l:List (k.El×v.El)) (n i:Nat),(Zn k v n l)[i]? =(l[i]?).map fun x=>(k.Za x.1,v.raw x.2,n+i)
 |[],n,i=>by simp[Zn]
 |x::l,n,i=>by
  cases i with
  |zero=>simp[Zn]
  |succ i=>simp only[Zn,List.getElem?_cons_succ,Ji l (n+1) i];congr 1;funext x;rw[Nat.add_right_comm,Nat.add_assoc]
theorem Qnl{k v:Qk}(l:List (k.El×v.El))(n j:Nat)(x:k.El×v.El):Zn k v n (l.set j x)=(Zn k v n l).set j (k.Za x.1,v.raw x.2,n+j):=by
 apply List.ext_getElem?;intro i;rw[Ji,List.getElem?_set,List.getElem?_set,W6,Ji];split
 ·rename_i e;subst e;split<;>rfl
 ·rfl
theorem Qud{k v:Qk}(l:List (k.El×v.El))(n:Nat)(x:k.El×v.El):Zn k v n (l++[x])=Zn k v n l++[(k.Za x.1,v.raw x.2,n+l.length)]:=by
 apply List.ext_getElem?;intro i;rw[Ji,List.getElem?_append,List.getElem?_append,W6,Ji];split
 ·rfl
 ·rename_i h;by_cases e:i-l.length=0
  ·have:i=l.length:=by omega
   subst this;simp
  ·obtain⟨m,hm⟩:=Nat.exists_eq_succ_of_ne_zero e;rw[hm];simp
theorem Qsf{d:TypeDesc}{k v:Qk}(hd:Yh d k=true)(x:k.El):∀(l:List (k.El×v.El)) (n i:Nat),
  ∃r,Instr.findNow d (k.Za x) (Xz (Zn k v n l)) i=some r∧r.map (·.1)=(Z0 k.eqv x l i).map (·.1)
 |[],n,i=>⟨none,rfl,rfl⟩
 |y::l,n,i=>by
  obtain⟨r,h1,h2⟩:=Qsf hd x l (n+1) (i+1);have hs:Instr.sameNow d (k.Za x) (k.Za y.1)=some (k.eqv x y.1):=by
   unfold Yh at hd;split at hd
   ·rename_i a b;show Instr.sameNow (.int _) (.int b x) (.int b y.1)=some (Qc9 x y.1);simp only[Instr.sameNow,if_true];rfl
   ·show Instr.sameNow .string (.string x) (.string y.1)=some (strEq x y.1);have key:∀a b:ByteArray,Instr.sameNow .string (.string a) (.string b)=some (strEq a b):=fun a b=>by simp only[Instr.sameNow,Qc6]
    exact key x y.1
   ·show Instr.sameNow .bool (.bool x) (.bool y.1)=some (U4 x y.1);have key:∀a b:Bool,Instr.sameNow .bool (.bool a) (.bool b)=some (U4 a b):=by decide
    exact key x y.1
   ·cases hd
  show∃r,Instr.findNow d (k.Za x) ({key:=k.Za y.1,val:=.bool false,born:=n}::Xz (Zn k v (n+1) l)) i=some r∧_;simp only[Instr.findNow,hs,Z0];cases k.eqv x y.1 with
  |true=>exact⟨_,rfl,rfl⟩
  |false=>exact⟨r,h1,h2⟩
theorem Zgc{P:Program}{kt:TypeId}{d:TypeDesc}(hu:P.underlying kt=some d){k v:Qk}(hd:Yh d k=true)(x:k.El)(l:List (k.El×v.El)):
  Wb P kt (k.Za x) (Zn k v 0 l)=some ((Z0 k.eqv x l 0).map (·.1)):=by
 obtain⟨r,h1,h2⟩:=Qsf hd x l 0 0;have:Zv P (Instr.findKey kt (k.Za x) (Xz (Zn k v 0 l)))=some r:=by
  unfold Instr.findKey;rw[Qan];have:Zv P (underlying kt)=some d:=by unfold underlying;rw[Qan];show(some P).bind _=_;simp only[Option.bind_some,hu,J9]
  rw[this];simp only[Option.bind_some,h1,J9]
 unfold Wb;rw[this];cases r with
 |none=>simp only[Option.map_none]at h2;rw[←h2]
 |some p=>simp only[Option.map_some]at h2;rw[←h2]
theorem Qk4{K V:Type}{eq:K→K→Bool}{k:K}:∀{l:List (K×V)} {n j:Nat} {v:V},Z0 eq k l n=some (j,v)→∃i e,j=n+i∧l[i]? =some e∧e.2=v∧eq k e.1=true
 |[],n,j,v,h=>by cases h
 |e::l,n,j,v,h=>by
  simp only[Z0]at h;split at h
  ·rename_i he;cases h;exact⟨0,e,rfl,rfl,rfl,he⟩
  ·obtain⟨i,e',h1,h2,h3,h4⟩:=Qk4 h;exact⟨i+1,e',by omega,by simpa using h2,h3,h4⟩
def Qk.ofZ:(a:Qk)→Value→Option a.El
 |a,z=>a.Wx (.lit z)
def mgetD{K V:Type}(eq:K→K→Bool)(k:K)(l:List (K×V))(z:V):V:=match Z0 eq k l 0 with
 |some p=>p.2
 |none=>z
def K2{K V:Type}(eq:K→K→Bool)(k:K)(l:List (K×V)):Bool:=(Z0 eq k l 0).isSome
def mput{K V:Type}(eq:K→K→Bool)(k:K)(x:V)(l:List (K×V)):List (K×V):=match Z0 eq k l 0 with
 |some p=>l.set p.1 (k,x)
 |none=>l++[(k,x)]
def Qbj{K V:Type}(eq:K→K→Bool)(k:K)(l:List (K×V)):Nat:=match Z0 eq k l 0 with
 |some p=>p.1
 |none=>l.length
def keyOf:(a:Qk)→Value→Option a.El
 |a,v=>a.Wx (.lit v)
theorem Y7.rep{M:Qc}{ρ:Env}{w:World}{s:Nat}{es:List Ent}{c:Nat}{p:Place}(h:Y7 M ρ w s es c)(hp:ρ s=some p):∃arr,w.heap[p.block]? =some (.map arr c)∧Xa M ρ arr es:=by obtain⟨q,arr,h1,h2,h3,h4⟩:=h;rw[hp]at h1;cases h1;exact⟨arr,h2,h3,h4⟩
def Qsq(H:List Qa):Qn:=.eff (.mp H.length) (H++[.map [] 0]) [] []
theorem Zkc{P:Program}{M:Qc}{ρ:Env}{H:List Qa}{w:World}{K:Qr}(hm:Mem M ρ H w){t:TypeId}(h:(Qsq H).holds H K):Qv P (Instr.makeMap t none) M ρ H w K:=by
 have hrun:(Instr.makeMap t none).run P w=.ok (.map (some w.heap.size)) (w.alloc (.map #[] 0)):=by simp[Instr.makeMap]
 obtain⟨g1,g2⟩:=hm.alloc (w':=w.alloc (.map #[] 0)) (o:=.map #[] 0) (so:=.map [] 0) (cap:=0) rfl
  ⟨_,#[],Env.set_self ..,heap_alloc_new w _,rfl,fun i k x b hi=>by simp at hi⟩
 exact⟨_,_,hrun,_,_,[],[],M,_,h,.mp _ _ (Env.set_self ..),g1,g2⟩
def Ub(P:Program)(tab:Qo)(H:List Qa)(t:Nat)(m k:SV)(ok:Bool):Qn:=
 match tab.lookup t with
 |some {desc:=.map kt et,..}=>match k with
  |.pv (.lit kv)=>match m with
   |.mp s=>match H[s]? with
    | some (.map es c)=>if Un P es.isEmpty kt kv then match Wb P kt kv es with
      |some (some j)=>match es[j]? with
       |some e=>.ok (if ok then .tup [e.2.1,.lit (.bool true)]else e.2.1)
       |none=>.fail
      |some none=>match tab.lookup et with
       |some i=>.ok (if ok then .tup [.lit i.zero,.lit (.bool false)]else .lit i.zero)
       |none=>.fail
      |none=>.fail
     else .fail
    |_=>.fail
   |.pv (.lit (.map none))=>if Un P true kt kv then match tab.lookup et,tab.lookup kt with
     |some i,some _=>.ok (if ok then .tup [.lit i.zero,.lit (.bool false)]else .lit i.zero)
     |_,_=>.fail
    else .fail
   |_=>.fail
  |_=>.fail
 |_=>.fail
theorem J7{M:Qc}{ρ:Env}{v:Value}{x:SV}{b ok:Bool}(h:Qe M ρ v x):Qe M ρ (if ok then .tuple #[v,.bool b]else v) (if ok then .tup [x,.lit (.bool b)]else x):=by
 cases ok with
 |false=>simpa using h
 |true=>
  simp only[if_true];refine .tup _ _ rfl fun i u y hu hy=>?_;match i with
  |0=>simp at hu hy;subst hu;subst hy;exact h
  |1=>simp at hu hy;subst hu;subst hy;exact .pv (.lit _)
  |i+2=>simp at hy
theorem We{P:Program}{t:TypeId}{i:TI}(h:Yf P t i)(w:World):(zeroValue t).run P w=.ok i.zero w:=by obtain⟨n,hn,_,_,h3⟩:=h.inf;simp[zeroValue,typeInfo,hn,h3]
theorem Qnj{P:Program}{tab:Qo}(htab:Qf P tab){M:Qc}{ρ:Env}{H:List Qa}{w:World}{K:Qr}(hm:Mem M ρ H w){t:Nat}{m k:SV}{vm vk:Value}{ok:Bool}(hmr:Qe M ρ vm m)(hkr:Qe M ρ vk k)
  (h:(Ub P tab H t m k ok).holds H K):Qv P (Instr.lookup t vm vk ok) M ρ H w K:=by
 unfold Ub at h;split at h
 ·rename_i kt et sz' by' zr rw' hte;have hu:P.underlying t=some (.map kt et):=(htab.get hte).und;split at h
  ·rename_i kv;have:=hkr.Q1;subst this;split at h
   ·rename_i s;split at h
    ·rename_i es c ho;split at h
     ·rename_i hko;cases hmr with
      |mp _ p hp=>
       obtain⟨arr,hheap,hrep⟩:=(hm.own s _ ho).Uq hp;have hempty:arr.isEmpty=es.isEmpty:=by have:=hrep.sz;simp only[Array.isEmpty,this];cases es<;>simp
       obtain⟨f1,f2⟩:=Wd (P:=P) (kt:=kt) (k:=vk) hrep w;have hget:=run_getObj_map (P:=P) hheap;have hkey:=V7 hko w;rw[←hempty]at hkey;split at h
       ·rename_i j hj;obtain⟨e,x,a1,a2,a3,a4,a5,a6⟩:=f2 j hj;rw[a2]at h;simp only at h;refine Qv.same hm ?_ (J7 (ok:=ok) (b:=true) a5) h;simp[Instr.lookup,run_underlying hu,hget,hkey,a6]
       ·rename_i hj;split at h
        ·rename_i i hi;refine Qv.same hm ?_ (J7 (ok:=ok) (b:=false) (.pv (.lit _))) h;simp[Instr.lookup,run_underlying hu,hget,hkey,f1 hj,We (htab.get hi)]
        ·exact h.elim
       ·exact h.elim
     ·exact h.elim
    ·exact h.elim
   ·split at h
    ·rename_i hko;have:=hmr.Q1;subst this;have hkey:=V7 hko w;split at h
     ·rename_i i ik hi hik;have hnone:(Instr.findKey kt vk []).run P w=.ok none w:=by simp only[Instr.findKey,Instr.findNow,Sem.run_bind,run_underlying (htab.get hik).und,Result.andThen_ok,Sem.run_pure]
      refine Qv.same hm ?_ (J7 (ok:=ok) (b:=false) (.pv (.lit _))) h;simp[Instr.lookup,run_underlying hu,hkey,hnone,We (htab.get hi)]
     ·exact h.elim
    ·exact h.elim
   ·exact h.elim
  ·exact h.elim
 ·exact h.elim
def Qdy(P:Program)(tab:Qo)(H:List Qa)(t:Nat)(m k x:SV):Qn:=
 match tab.lookup t,m,k with
 |some {desc:=.map kt et,..},.mp s,.pv (.lit kv)=>match H[s]? with
  | some (.map es c)=>if Un P false kt kv then match Wb P kt kv es with
    |some (some j)=>match es[j]? with
     |some e=>if Instr.sameBits 10000 e.1 kv then .eff .any (H.set s (.map (es.set j (kv,x,e.2.2)) c)) [s] []else .fail
     |none=>.fail
    |some none=>.eff .any (H.set s (.map (es++[(kv,x,c)]) (c+1))) [s] []
    |none=>.fail
   else .fail
  |_=>.fail
 |_,_,_=>.fail
theorem J5{P:Program}{w:World}{b:Nat}{es:Array MapEntry}{c:Nat}(h:w.heap[b]? =some (.map es c))(o:Obj):(setObj b o).run P w=.ok () {w with heap:=w.heap.setIfInBounds b o}:=by simp[setObj,Sem.run,h]
theorem Qh1{w:World}{b k:Nat}{o:Obj}(h:k≠b):(w.heap.setIfInBounds b o)[k]? =w.heap[k]? :=Array.getElem?_setIfInBounds_ne (Ne.symm h)
theorem Xa.set{M:Qc}{ρ:Env}{arr:Array MapEntry}{es:List Ent}{j:Nat}{e:MapEntry}{k:Value}{v:Value}{x:SV}{b:Nat}(h:Xa M ρ arr es)(hj:arr[j]? =some e)(hx:Qe M ρ v x)(hb:e.born=b)
  (f:MapEntry→MapEntry) (hf:f e={e with key:=k,val:=v}):Xa M ρ (arr.modify j f) (es.set j (k,x,b)):=by
 refine⟨by simp[h.sz],fun i k' x' b' hi=>?_⟩;have hlt:j<arr.size:=(Array.getElem?_eq_some_iff.1 hj).1;rw[List.getElem?_set]at hi;split at hi
 ·rename_i e';subst e';rw[if_pos (by rw[←h.sz];exact hlt)]at hi;cases hi;refine⟨{e with key:=k,val:=v},?_,rfl,hb,hx⟩;rw[Array.getElem?_modify];simp[hj,hf]
 ·rename_i e';obtain⟨q,a1,a2⟩:=h.rep i k' x' b' hi;exact⟨q,by rw[Array.getElem?_modify,if_neg e'];exact a1,a2⟩
theorem Xa.push{M:Qc}{ρ:Env}{arr:Array MapEntry}{es:List Ent}{k v:Value}{x:SV}{c:Nat}(h:Xa M ρ arr es)(hx:Qe M ρ v x):Xa M ρ (arr.push {key:=k,val:=v,born:=c}) (es++[(k,x,c)]):=by
 refine⟨by simp[h.sz],fun i k' x' b' hi=>?_⟩;rw[List.getElem?_append]at hi;split at hi
 ·rename_i hlt;obtain⟨q,a1,a2⟩:=h.rep i k' x' b' hi;exact⟨q,by rw[Array.getElem?_push];rw[if_neg (by rw[h.sz];omega)];exact a1,a2⟩
 ·rename_i hlt;have e:i=es.length:=by
   by_cases e:i=es.length
   ·exact e
   ·rw[List.getElem?_eq_none (by simp;omega)]at hi;cases hi
  subst e;simp at hi;obtain⟨rfl,rfl,rfl⟩:=hi;exact⟨_,by rw[Array.getElem?_push,if_pos h.sz.symm],rfl,rfl,hx⟩
theorem Qbt{P:Program}{M:Qc}{ρ:Env}{H:List Qa}{w:World}{K:Qr}(hm:Mem M ρ H w){s:Nat}{es es':List Ent}{c c':Nat}{p:Place}{arr arr':Array MapEntry}(ho:H[s]? =some (.map es c))(hp:ρ s=some p)
  (hheap:w.heap[p.block]? =some (.map arr c)) (hr:Xa M ρ arr' es'):Mem M ρ (H.set s (.map es' c')) {w with heap:=w.heap.setIfInBounds p.block (.map arr' c')}∧Fr M ρ H w M ρ (H.set s (.map es' c')) {w with heap:=w.heap.setIfInBounds p.block (.map arr' c')} H.length [s] []:=by
 have hlt:p.block<w.heap.size:=(Array.getElem?_eq_some_iff.1 hheap).1;exact hm.put ho rfl hp (fun b hb=>Qh1 hb) (by simp) rfl ⟨p,arr',hp,by simp[hlt],hr.sz,hr.rep⟩
theorem Qr8{P:Program}{tab:Qo}(htab:Qf P tab){M:Qc}{ρ:Env}{H:List Qa}{w:World}{K:Qr}(hm:Mem M ρ H w){t:Nat}{m k x:SV}{vm vk v:Value}(hmr:Qe M ρ vm m)(hkr:Qe M ρ vk k)(hx:Qe M ρ v x)
  (h:(Qdy P tab H t m k x).holds H K):Ve P (Instr.mapUpdate t vm vk v) M ρ H w K:=by
 unfold Qdy at h;split at h
 ·rename_i kt et sz' by' zr rw' s kv hte;have hu:P.underlying t=some (.map kt et):=(htab.get hte).und;have:=hkr.Q1;subst this;split at h
  ·rename_i es c ho;split at h
   ·rename_i hko;cases hmr with
    |mp _ p hp=>
     obtain⟨arr,hheap,hrep⟩:=(hm.own s _ ho).Uq hp;obtain⟨f1,f2⟩:=Wd (P:=P) (kt:=kt) (k:=vk) hrep w;have hget:=run_getObj_map (P:=P) hheap;have hkey:=V7 hko w;split at h
     ·rename_i j hj;obtain⟨e,x',a1,a2,a3,a4,a5,a6⟩:=f2 j hj;rw[a2]at h;simp only at h;split at h
      ·rename_i hsb;have hks:(Instr.keyThatStays (((arr[j]?).map (·.key)).getD vk) vk).run P w=.ok vk w:=by rw[a1];simp only[Option.map_some,Option.getD_some,a3];simp[Instr.keyThatStays,hsb]
       obtain⟨g1,g2⟩:=Qbt (P:=P) (K:=K) (c':=c) hm ho hp hheap (hrep.set a1 hx a4 (fun e=>{e with key:=vk,val:=v}) rfl);refine⟨_,?_,.any,_,[s],[],M,ρ,h,rfl,g1,g2⟩;simp[Instr.mapUpdate,run_underlying hu,hget,hkey,a6,hks,J5 hheap]
      ·exact h.elim
     ·rename_i hj;obtain⟨g1,g2⟩:=Qbt (P:=P) (K:=K) (c':=c+1) hm ho hp hheap (hrep.push (k:=vk) (c:=c) hx);refine⟨_,?_,.any,_,[s],[],M,ρ,h,rfl,g1,g2⟩;simp[Instr.mapUpdate,run_underlying hu,hget,hkey,f1 hj,J5 hheap]
     ·exact h.elim
   ·exact h.elim
  ·exact h.elim
 ·exact h.elim
def Qdw(P:Program)(tab:Qo)(H:List Qa)(t:Nat)(m k:SV):Qn:=
 match tab.lookup t,m,k with
 |some {desc:=.map kt et,..},.mp s,.pv (.lit kv)=>match H[s]? with
  | some (.map es c)=>if Un P false kt kv then match Wb P kt kv es with
    |some (some j)=>match es[j]? with
     |some e=>if Instr.sameBits 10000 e.1 kv then .eff (.tup [e.2.1,.lit (.int .i64 e.2.2)]) (H.set s (.map (es.set j (kv,e.2.1,e.2.2)) c)) [s] []else .fail
     |none=>.fail
    |some none=>match tab.lookup et with
     |some i=>.eff (.tup [.lit i.zero,.lit (.int .i64 c)]) (H.set s (.map (es++[(kv,.lit i.zero,c)]) (c+1))) [s] []
     |none=>.fail
    |none=>.fail
   else .fail
  |_=>.fail
 |_,_,_=>.fail
theorem Qds{M:Qc}{ρ:Env}{v u:Value}{x y:SV}(h:Qe M ρ v x)(k:Qe M ρ u y):Qe M ρ (.tuple #[v,u]) (.tup [x,y]):=by
 refine .tup _ _ rfl fun i a b ha hb=>?_;match i with
 |0=>simp at ha hb;subst ha;subst hb;exact h
 |1=>simp at ha hb;subst ha;subst hb;exact k
 |i+2=>simp at hb
theorem Qvg{P:Program}{tab:Qo}(htab:Qf P tab){M:Qc}{ρ:Env}{H:List Qa}{w:World}{K:Qr}(hm:Mem M ρ H w){t:Nat}{m k:SV}{vm vk:Value}(hmr:Qe M ρ vm m)(hkr:Qe M ρ vk k)
  (h:(Qdw P tab H t m k).holds H K):Qv P (Instr.mapEntry t vm vk) M ρ H w K:=by
 unfold Qdw at h;split at h
 ·rename_i kt et sz' by' zr rw' s kv hte;have hu:P.underlying t=some (.map kt et):=(htab.get hte).und;have:=hkr.Q1;subst this;split at h
  ·rename_i es c ho;split at h
   ·rename_i hko;cases hmr with
    |mp _ p hp=>
     obtain⟨arr,hheap,hrep⟩:=(hm.own s _ ho).Uq hp;obtain⟨f1,f2⟩:=Wd (P:=P) (kt:=kt) (k:=vk) hrep w;have hget:=run_getObj_map (P:=P) hheap;have hkey:=V7 hko w;split at h
     ·rename_i j hj;obtain⟨e,x',a1,a2,a3,a4,a5,a6⟩:=f2 j hj;rw[a2]at h;simp only at h;split at h
      ·rename_i hsb;have hks:(Instr.keyThatStays e.key vk).run P w=.ok vk w:=by rw[a3];simp[Instr.keyThatStays,hsb]
       obtain⟨g1,g2⟩:=Qbt (P:=P) (K:=K) (c':=c) hm ho hp hheap (hrep.set a1 a5 a4 (fun e=>{e with key:=vk}) rfl);refine⟨.tuple #[e.val,goInt e.born],_,?_,_,_,[s],[],M,ρ,h,?_,g1,g2⟩
       ·simp[Instr.mapEntry,run_underlying hu,hget,hkey,a6,hks,J5 hheap,a1]
       ·rw[a4];exact Qds a5 (.pv (.lit _))
      ·exact h.elim
     ·rename_i hj;split at h
      ·rename_i i hi;obtain⟨g1,g2⟩:=Qbt (P:=P) (K:=K) (c':=c+1) hm ho hp hheap (hrep.push (k:=vk) (c:=c) (v:=i.zero) (x:=.lit i.zero) (.pv (.lit _)));refine⟨.tuple #[i.zero,goInt c],_,?_,_,_,[s],[],M,ρ,h,Qds (.pv (.lit _)) (.pv (.lit _)),g1,g2⟩;simp[Instr.mapEntry,run_underlying hu,hget,hkey,f1 hj,J5 hheap,We (htab.get hi)]
      ·exact h.elim
     ·exact h.elim
   ·exact h.elim
  ·exact h.elim
 ·exact h.elim
def Qew(H:List Qa)(m st x:SV):Qn:=
 match m,st with
 |.mp s,.pv (.lit (.int _ n))=>match H[s]? with
  |some (.map es c)=>match es.findIdx? (fun e=>(e.2.2:Int)==n)with
   |some j=>match es[j]? with
    |some e=>.eff .any (H.set s (.map (es.set j (e.1,x,e.2.2)) c)) [s] []
    |none=>.fail
   |none=>.fail
  |_=>.fail
 |_,_=>.fail
theorem Quj{P:Program}{M:Qc}{ρ:Env}{H:List Qa}{w:World}{K:Qr}(hm:Mem M ρ H w){t:Nat}{m st x:SV}{vm vs v:Value}(hmr:Qe M ρ vm m)(hst:Qe M ρ vs st)(hx:Qe M ρ v x)
  (h:(Qew H m st x).holds H K):Ve P (Instr.entryStore t vm vs v) M ρ H w K:=by
 unfold Qew at h;split at h
 ·rename_i s k n;have:=hst.Q1;subst this;split at h
  ·rename_i es c ho;split at h
   ·rename_i j hj;split at h
    ·rename_i e he;cases hmr with
     |mp _ p hp=>
      obtain⟨arr,hheap,hrep⟩:=(hm.own s _ ho).Uq hp;obtain⟨q,a1,a2,a3,a4⟩:=hrep.rep j e.1 e.2.1 e.2.2 he;have hget:=run_getObj_map (P:=P) hheap;have hidx:arr.findIdx? (fun e=>(e.born:Int)==n)=some j:=by
       have hborn:∀i:Nat,(arr[i]?).map (fun e=>(e.born:Int)==n)=(es[i]?).map (fun e=>(e.2.2:Int)==n):=fun i=>by
        by_cases hi:i<es.length
        ·obtain⟨z,b1,b2,b3,_⟩:=hrep.rep i es[i].1 es[i].2.1 es[i].2.2 (by simp[hi]);rw[b1];simp[hi,b3]
        ·rw[List.getElem?_eq_none (by omega),Array.getElem?_eq_none (by rw[hrep.sz];omega)];rfl
       rw[List.findIdx?_eq_some_iff_getElem]at hj;rw[Array.findIdx?_eq_some_iff_getElem];obtain⟨c1,c2,c3⟩:=hj;have hl:j<arr.size:=by rw[hrep.sz];exact c1
       refine⟨hl,?_,fun i hi=>?_⟩
       ·have:=hborn j;simp only[Array.getElem?_eq_getElem hl,List.getElem?_eq_getElem c1,Option.map_some,Option.some.injEq]at this;rw[this];exact c2
       ·have hi2:i<arr.size:=by omega
        have hi3:i<es.length:=by omega
        have:=hborn i;simp only[Array.getElem?_eq_getElem hi2,List.getElem?_eq_getElem hi3,Option.map_some,Option.some.injEq]at this;rw[this];exact c3 i hi
      obtain⟨g1,g2⟩:=Qbt (P:=P) (K:=K) (c':=c) hm ho hp hheap (hrep.set (k:=e.1) a1 hx a3 (fun e=>{e with val:=v}) (by rw[←a2]));refine⟨_,?_,.any,_,[s],[],M,ρ,h,rfl,g1,g2⟩;simp[Instr.entryStore,hget,asInt,asIntOf,hidx,J5 hheap]
    ·exact h.elim
   ·exact h.elim
  ·exact h.elim
 ·exact h.elim
theorem Zoy{P:Program}{M:Qc}{ρ:Env}{arr:Array MapEntry}{kt:TypeId}{d:TypeDesc}(hu:P.underlying kt=some d){k v:Qk}(hd:Yh d k=true){l:List (k.El×v.El)}(hr:Xa M ρ arr (Zn k v 0 l))(x:k.El)(w:World):
  (Z0 k.eqv x l 0=none→(Instr.findKey kt (k.Za x) arr.toList).run P w=.ok none w)∧
  (∀j y,Z0 k.eqv x l 0=some (j,y)→∃e,arr[j]? =some e∧j<l.length∧e.key=k.Za x∧e.born=j∧Qe M ρ e.val (v.raw y)∧(Instr.findKey kt (k.Za x) arr.toList).run P w=.ok (some (j,e.val)) w):=by
 obtain⟨f1,f2⟩:=Wd (P:=P) (kt:=kt) (k:=k.Za x) hr w;have hs:=Zgc (P:=P) hu hd x l;refine⟨fun h=>f1 (by rw[hs,h];rfl),fun j y h=>?_⟩;obtain⟨e,z,a1,a2,a3,a4,a5,a6⟩:=f2 j (by rw[hs,h];rfl);obtain⟨i,q,b1,b2,b3,b4⟩:=Qk4 h;have:i=j:=by omega
 subst this;rw[Ji,b2]at a2;simp only[Option.map_some,Option.some.injEq]at a2;subst a2;have hk:=Qk.eqv_ok k _ _ b4;refine⟨e,a1,(List.getElem?_eq_some_iff.1 b2).1,by rw[a3,←hk],by rw[a4];simp,by rw[←b3];exact a5,a6⟩
theorem Qjy{M:Qc}{ρ:Env}:∀{a:Qk} (hs:a.scalar=true) (x:a.El),Qe M ρ (a.Za x) (a.raw x)
 |.val (.int _),_,_=>.pv (.lit _)
 |.val .str,_,_=>.pv (.lit _)
 |.val .bool,_,_=>.pv (.lit _)
 |.val (.seq _),hs,_=>by cases hs
 |.agg row,hs,x=>by have e:=Qio row x hs;show Qe M ρ (.agg (Xj row x).toArray) (.agg ((Q3 row x).map .pv));rw[e];refine .agg _ _ (by simp) fun i v y hv hy=>?_;simp only[List.getElem?_map,Option.map_eq_some_iff]at hy;obtain⟨q,⟨u,hu,rfl⟩,rfl⟩:=hy;rw[List.getElem?_toArray,hu]at hv;cases hv;exact .pv (.lit _)
theorem Zmw{P:Program}{tab:Qo}(htab:Qf P tab){kt:Nat}{i:TI}(hi:tab.lookup kt=some i){a:Qk}(h:Jz P tab kt i.desc a=true)(x y:a.El)(w:World):(Op.equal kt (a.Za x) (a.Za y)).run P w=.ok (a.eqv x y) w:=
 Qe5 htab (M:=Qc.base) (ρ:=fun _=>none) w 2 kt (a.raw x) (a.raw y) _ _ _ (Zdg (d:=i.desc) hi h x y) (Qjy (Qoa h) x) (Qjy (Qoa h) y) Op.maxDepth (by decide)
theorem Qxu{P:Program}{tab:Qo}(htab:Qf P tab){kt:Nat}{i:TI}(hi:tab.lookup kt=some i){k v:Qk}(h:Jz P tab kt i.desc k=true)(x:k.El)(w:World):∀(l:List (k.El×v.El)) (es:List MapEntry) (n:Nat),
  es.length=l.length→(∀(j:Nat) (z:k.El×v.El),l[j]? =some z→∃e:MapEntry,es[j]? =some e∧e.key=k.Za z.1)→
  (Z0 k.eqv x l n=none→(Instr.findAsking kt (k.Za x) es n).run P w=.ok none w)∧(∀j y,Z0 k.eqv x l n=some (j,y)→∃e,n≤j∧es[j-n]? =some e∧(Instr.findAsking kt (k.Za x) es n).run P w=.ok (some (j,e.val)) w)
 |[],[],n,_,_=>⟨fun _=>by simp[Instr.findAsking],fun j y hf=>by cases hf⟩
 |[],_::_,n,hl,_=>by simp at hl
 |_::_,[],n,hl,_=>by simp at hl
 |z::l,e::es,n,hl,hk=>by
  obtain⟨e',g1,g2⟩:=hk 0 z rfl;simp only[List.getElem?_cons_zero,Option.some.injEq]at g1;subst g1;have he:=Zmw htab hi h x z.1 w;rw[←g2]at he;obtain⟨ih1,ih2⟩:=Qxu htab hi h x w l es (n+1) (by simpa using hl) (fun j z hz=>by simpa using hk (j+1) z (by simpa using hz));simp only[Z0,Instr.findAsking,Sem.run_bind,he,Result.andThen_ok];cases k.eqv x z.1 with
  |true=>exact⟨fun hf=>(by cases hf),fun j y hf=>(by cases hf;exact⟨e,Nat.le_refl _,by simp,by simp⟩)⟩
  |false=>refine⟨fun hf=>by simpa using ih1 hf,fun j y hf=>?_⟩;obtain⟨e2,q1,q2,q3⟩:=ih2 j y hf;refine⟨e2,by omega,?_,by simpa using q3⟩;rw[show j-n=(j-(n+1))+1 by omega];simpa using q2
theorem Zg6{P:Program}{tab:Qo}{kt:Nat}{d:TypeDesc}{k:Qk}(h:Jz P tab kt d k=true)(x:k.El)(e:MapEntry)(es:List MapEntry)(n:Nat):Instr.findNow d (k.Za x) (e::es) n=none:=by
 have hs:∀u,Instr.sameNow d (k.Za x) u=none:=by
  intro u;unfold Jz at h;split at h
  ·split at h
   ·rfl
   ·rfl
   ·cases h
  ·cases h
 simp only[Instr.findNow,hs]
theorem Uc{P:Program}{tab:Qo}(htab:Qf P tab){M:Qc}{ρ:Env}{arr:Array MapEntry}{kt:TypeId}{i:TI}(hi:tab.lookup kt=some i){k v:Qk}(hd:Vg P tab kt i.desc k=true){l:List (k.El×v.El)}(hr:Xa M ρ arr (Zn k v 0 l))(x:k.El)(w:World):
  (Z0 k.eqv x l 0=none→(Instr.findKey kt (k.Za x) arr.toList).run P w=.ok none w)∧
  (∀j y,Z0 k.eqv x l 0=some (j,y)→∃e,arr[j]? =some e∧j<l.length∧e.key=k.Za x∧e.born=j∧Qe M ρ e.val (v.raw y)∧(Instr.findKey kt (k.Za x) arr.toList).run P w=.ok (some (j,e.val)) w):=by
 have hu:=(htab.get hi).und;unfold Vg at hd;split at hd
 ·rename_i hd';exact Zoy hu hd' hr x w
 ·have hlen:arr.toList.length=l.length:=by have:=hr.sz;rw[W6]at this;simpa using this
  have hkeys:∀(j:Nat) (z:k.El×v.El),l[j]? =some z→∃e:MapEntry,arr.toList[j]? =some e∧e.key=k.Za z.1:=fun j z hz=>by obtain⟨e,a1,a2,_⟩:=hr.rep j (k.Za z.1) (v.raw z.2) (0+j) (by rw[Ji,hz];rfl);exact⟨e,by rw[Array.getElem?_toList];exact a1,a2⟩
  obtain⟨f1,f2⟩:=Qxu htab hi hd x w l arr.toList 0 hlen hkeys;have hfk:∀r,(Z0 k.eqv x l 0=none∨∃q,Z0 k.eqv x l 0=some q)→(Instr.findAsking kt (k.Za x) arr.toList 0).run P w=.ok r w→(Instr.findKey kt (k.Za x) arr.toList).run P w=.ok r w:=fun r _ hrun=>by
   unfold Instr.findKey;simp only[Sem.run_bind,run_underlying hu,Result.andThen_ok];cases hl:arr.toList with
   |nil=>rw[hl]at hrun;simp only[Instr.findAsking,Sem.run_pure]at hrun;simp only[Instr.findNow,Sem.run_pure];exact hrun
   |cons e es=>rw[Zg6 hd x e es 0];rw[hl]at hrun;exact hrun
  refine⟨fun h=>hfk _ (.inl h) (f1 h),fun j y h=>?_⟩;obtain⟨e,_,q2,q3⟩:=f2 j y h;obtain⟨i',q,b1,b2,b3,b4⟩:=Qk4 h;have e0:i'=j:=by omega
  subst e0;have hk:=Qk.eqv_ok k _ _ b4;obtain⟨e2,a1,a2,a3,a4⟩:=hr.rep i' (k.Za q.1) (v.raw q.2) (0+i') (by rw[Ji,b2];rfl);have:e2=e:=by rw[Nat.sub_zero,Array.getElem?_toList,a1]at q2;exact Option.some.inj q2
  subst this;exact⟨e2,a1,(List.getElem?_eq_some_iff.1 b2).1,by rw[a2,←hk],by rw[a3];simp,by rw[←b3];exact a4,hfk _ (.inr ⟨_,h⟩) q3⟩
def Qn5(P:Program)(tab:Qo)(H:List Qa)(kt et:Nat)(ka va:Qk)(l:List (ka.El×va.El))(k:SV)(ok:Bool):Qn:=
 match tab.lookup kt with
 |none=>.fail
 |some ik=>match Vg P tab kt ik.desc ka with
  |false=>.fail
  |true=>match tab.lookup et with
   |none=>.fail
   |some ie=>match ka.Wx k with
    |none=>.fail
    |some kx=>match va.ofZ ie.zero with
     |none=>.fail
     |some z=>.ok (if ok then .tup [va.raw (mgetD ka.eqv kx l z),.lit (.bool (K2 ka.eqv kx l))]else va.raw (mgetD ka.eqv kx l z))
def Qiq:TypeDesc→Value→Value→Option Bool
 |.int _,.int k a,.int k' b=>match decide (k=k')with
  |true=>some (decide (a=b))
  |false=>none
 |.string,.string a,.string b=>some (strEq a b)
 |.bool,.bool a,.bool b=>some (U4 a b)
 |_,_,_=>none
theorem Zot{d:TypeDesc}{a b:Value}{c:Bool}(h:Qiq d a b=some c):Instr.sameNow d a b=some c:=by
 unfold Qiq at h;split at h
 ·rename_i k' a k b;split at h
  ·rename_i e;have e:=of_decide_eq_true e;subst e;simp only[Instr.sameNow,if_true];rw[←h];rfl
  ·cases h
 ·simp only[Instr.sameNow,Qc6];exact h
 ·rename_i a b;cases a<;>cases b<;>(rw[←h];rfl)
 ·cases h
def Qeu(d:TypeDesc)(kv:Value)(nf:Qn)(ok:Bool):List Ent→Qn
 |[]=>nf
 |e::es=>match Qiq d kv e.1 with
  |some c=>.split c (.ok (if ok then .tup [e.2.1,.lit (.bool true)]else e.2.1)) (Qeu d kv nf ok es)
  |none=>.fail
theorem Qwh{H:List Qa}{K:Qr}{d:TypeDesc}{kv:Value}{nf:Qn}{ok:Bool}:∀(es:List Ent) (i:Nat),(Qeu d kv nf ok es).holds H K→
  (∃j e,es[j]? =some e∧Instr.findNow d kv (Xz es) i=some (some (i+j,.bool false))∧K (if ok then .tup [e.2.1,.lit (.bool true)]else e.2.1) H [] [])∨
  (Instr.findNow d kv (Xz es) i=some none∧nf.holds H K)
 |[],i,h=>.inr ⟨rfl,h⟩
 |e::es,i,h=>by
  simp only[Qeu]at h;split at h
  ·rename_i c hc;have hs:=Zot hc;have hd:Xz (e::es)={key:=e.1,val:=.bool false,born:=e.2.2}::Xz es:=rfl;rw[hd];simp only[Instr.findNow,hs];cases c with
   |true=>exact .inl ⟨0,e,rfl,rfl,h.1 rfl⟩
   |false=>
    rcases Qwh es (i+1) (h.2 rfl)with⟨j,e',h1,h2,h3⟩|⟨h1,h2⟩
    ·exact .inl ⟨j+1,e',by simpa using h1,by rw[h2];simp;omega,h3⟩
    ·exact .inr ⟨h1,h2⟩
  ·exact h.elim
def Zfq:TypeDesc→Bool
 |.int _=>true
 |.string=>true
 |.bool=>true
 |_=>false
def Qip(P:Program)(tab:Qo)(kt et:Nat)(es:List Ent)(k:SV)(ok:Bool):Qn:=match k with
 |.pv (.lit kv)=>match tab.lookup kt with
  |none=>.fail
  |some ik=>match Un P es.isEmpty kt kv with
   |false=>.fail
   |true=>Qeu ik.desc kv (match tab.lookup et with
    |some i=>.ok (if ok then .tup [.lit i.zero,.lit (.bool false)]else .lit i.zero)
    |none=>.fail) ok es
 |_=>.fail
theorem Qxq{P:Program}{tab:Qo}(htab:Qf P tab){M:Qc}{ρ:Env}{H:List Qa}{K:Qr}{kt et:Nat}{es:List Ent}{k:SV}{vk:Value}{ok:Bool}(hkr:Qe M ρ vk k)
  (h:(Qip P tab kt et es k ok).holds H K) {arr:Array MapEntry} (hrep:Xa M ρ arr es):∃ v x,K x H [] [] ∧ Qe M ρ v x ∧
   ∀(w:World) (t b:Nat) (c:Nat),P.underlying t=some (.map kt et)→w.heap[b]? =some (.map arr c)→(Instr.lookup t (.map (some b)) vk ok).run P w=.ok v w:=by
 unfold Qip at h;split at h
 ·rename_i kv;have:=hkr.Q1;subst this;split at h
  ·exact h.elim
  ·rename_i ik hik;split at h
   ·exact h.elim
   ·rename_i hko;have hdk:P.underlying kt=some ik.desc:=(htab.get hik).und;have hempty:arr.isEmpty=es.isEmpty:=by have:=hrep.sz;simp only[Array.isEmpty,this];cases es<;>simp
    have hseek:∀r,Instr.findNow ik.desc vk (Xz es) 0=some r→Wb P kt vk es=some (r.map (·.1)):=fun r hr=>by
     have:Zv P (Instr.findKey kt vk (Xz es))=some r:=by
      unfold Instr.findKey;rw[Qan];have:Zv P (underlying kt)=some ik.desc:=by unfold underlying;rw[Qan];show(some P).bind _=_;simp only[Option.bind_some,hdk,J9]
      rw[this];simp only[Option.bind_some,hr,J9]
     unfold Wb;rw[this];cases r with
     |none=>rfl
     |some p=>rfl
    rcases Qwh es 0 h with⟨j,e,h1,h2,h3⟩|⟨h1,h2⟩
    ·obtain⟨me,x,a1,a2,a3,a4,a5,_⟩:=(Wd (P:=P) (kt:=kt) (k:=vk) hrep default).2 j (by rw[hseek _ h2];simp);rw[h1]at a2;cases a2;refine⟨_,_,h3,J7 (ok:=ok) (b:=true) a5,fun w t b c hu hheap=>?_⟩;obtain⟨me',x',b1,_,_,_,_,b6⟩:=(Wd (P:=P) (kt:=kt) (k:=vk) hrep w).2 j (by rw[hseek _ h2];simp);rw[a1]at b1;cases b1;have hkey:=V7 hko w;rw[←hempty]at hkey;simp[Instr.lookup,run_underlying hu,run_getObj_map (P:=P) hheap,hkey,b6]
    ·split at h2
     ·rename_i i hi;refine⟨_,_,h2,J7 (ok:=ok) (b:=false) (.pv (.lit _)),fun w t b c hu hheap=>?_⟩;have hkey:=V7 hko w;rw[←hempty]at hkey;simp[Instr.lookup,run_underlying hu,run_getObj_map (P:=P) hheap,hkey,(Wd (P:=P) (kt:=kt) (k:=vk) hrep w).1 (by rw[hseek _ h1];rfl),We (htab.get hi)]
     ·exact h2.elim
 ·exact h.elim
def Qcz(P:Program)(tab:Qo)(H:List Qa)(t:Nat)(m k:SV)(ok:Bool):Qn:=
 match m with
 |.mp s=>match H[s]? with
  |some (.tmap ka va l)=>match tab.lookup t with
   |some {desc:=.map kt et,..}=>Qn5 P tab H kt et ka va l k ok
   |_=>.fail
  |some (.map es c)=>match tab.lookup t with
   |some {desc:=.map kt et,..}=>match tab.lookup kt with
    |some ik=>match Zfq ik.desc with
     |true=>Qip P tab kt et es k ok
     |false=>Ub P tab H t m k ok
    |none=>.fail
   |_=>.fail
  |_=>Ub P tab H t m k ok
 |_=>Ub P tab H t m k ok
theorem Qss{P:Program}{tab:Qo}(htab:Qf P tab){M:Qc}{ρ:Env}{H:List Qa}{K:Qr}{kt et:Nat}{ka va:Qk}{l:List (ka.El×va.El)}{k:SV}{vk:Value}{ok:Bool}(hkr:Qe M ρ vk k)
  (h:(Qn5 P tab H kt et ka va l k ok).holds H K) {arr:Array MapEntry} (hr:Xa M ρ arr (Zn ka va 0 l)):∃ v x,K x H [] [] ∧ Qe M ρ v x ∧
   ∀(w:World) (t b:Nat) (c:Nat),P.underlying t=some (.map kt et)→w.heap[b]? =some (.map arr c)→(Instr.lookup t (.map (some b)) vk ok).run P w=.ok v w:=by
 unfold Qn5 at h;split at h
 ·exact h.elim
 ·rename_i ik hik;split at h
  ·exact h.elim
  ·rename_i hd;split at h
   ·exact h.elim
   ·rename_i ie hie;split at h
    ·exact h.elim
    ·rename_i kx hkx;split at h
     ·exact h.elim
     ·rename_i z hz;have hvk:=Qfm (Qbn hd) (Qk.Kh hkx hkr);subst hvk;have hdk:P.underlying kt=some ik.desc:=(htab.get hik).und;have hzr:Qe M ρ ie.zero (va.raw z):=Qk.Kh (M:=M) (ρ:=ρ) hz (.pv (.lit _));cases hf:Z0 ka.eqv kx l 0 with
      |none=>
       refine⟨_,_,h,J7 (v:=ie.zero) (b:=K2 ka.eqv kx l) (ok:=ok) (by unfold mgetD;rw[hf];exact hzr),fun w t b c hu hheap=>?_⟩;have hb:K2 ka.eqv kx l=false:=by unfold K2;rw[hf];rfl
       rw[hb];simp[Instr.lookup,run_underlying hu,run_getObj_map (P:=P) hheap,Ut htab hik hd,(Uc htab hik hd hr kx w).1 hf,We (htab.get hie)]
      |some q=>
       obtain⟨j,y⟩:=q;obtain⟨e,a1,a2,a3,a4,a5,_⟩:=(Uc htab hik hd hr kx default).2 j y hf;refine⟨_,_,h,J7 (v:=e.val) (b:=K2 ka.eqv kx l) (ok:=ok) (by unfold mgetD;rw[hf];exact a5),fun w t b c hu hheap=>?_⟩;have hb:K2 ka.eqv kx l=true:=by unfold K2;rw[hf];rfl
       rw[hb];obtain⟨e',b1,_,_,_,_,b6⟩:=(Uc htab hik hd hr kx w).2 j y hf;rw[a1]at b1;cases b1;simp[Instr.lookup,run_underlying hu,run_getObj_map (P:=P) hheap,Ut htab hik hd,b6]
theorem Zny{P:Program}{tab:Qo}(htab:Qf P tab){M:Qc}{ρ:Env}{H:List Qa}{w:World}{K:Qr}(hm:Mem M ρ H w){t:Nat}{m k:SV}{vm vk:Value}{ok:Bool}(hmr:Qe M ρ vm m)(hkr:Qe M ρ vk k)
  (h:(Qcz P tab H t m k ok).holds H K):Qv P (Instr.lookup t vm vk ok) M ρ H w K:=by
 unfold Qcz at h;split at h
 ·rename_i s;split at h
  ·rename_i ka va l ho;split at h
   ·rename_i kt et _ _ _ _ hte;cases hmr with
    |mp _ p hp=>obtain⟨arr,hheap,hrep⟩:=Y7.rep (hm.own s _ ho) hp;obtain⟨v,x,h1,h2,h3⟩:=Qss htab hkr h hrep;exact Qv.same hm (h3 w t p.block _ (htab.get hte).und hheap) h2 h1
   ·exact h.elim
  ·rename_i es c ho;split at h
   ·rename_i kt et _ _ _ _ hte;split at h
    ·split at h
     ·cases hmr with
      |mp _ p hp=>obtain⟨arr,hheap,hrep⟩:=(hm.own s _ ho).Uq hp;obtain⟨v,x,h1,h2,h3⟩:=Qxq htab hkr h hrep;exact Qv.same hm (h3 w t p.block _ (htab.get hte).und hheap) h2 h1
     ·exact Qnj htab hm hmr hkr h
    ·exact h.elim
   ·exact h.elim
  ·exact Qnj htab hm hmr hkr h
 ·exact Qnj htab hm hmr hkr h
theorem Qc7{P:Program}{M:Qc}{ρ:Env}{H:List Qa}{w:World}{s:Nat}{ka va:Qk}{l l':List (ka.El×va.El)}{p:Place}{arr arr':Array MapEntry}(hm:Mem M ρ H w)(ho:H[s]? =some (.tmap ka va l))(hp:ρ s=some p)
  (hheap:w.heap[p.block]? = some (.map arr l.length)) (hr:Xa M ρ arr' (Zn ka va 0 l')):Mem M ρ (H.set s (.tmap ka va l')) { w with heap := w.heap.setIfInBounds p.block (.map arr' l'.length) } ∧
   Fr M ρ H w M ρ (H.set s (.tmap ka va l')) {w with heap:=w.heap.setIfInBounds p.block (.map arr' l'.length)} H.length [s] []:=by
 have hlt:p.block<w.heap.size:=(Array.getElem?_eq_some_iff.1 hheap).1;exact hm.put ho rfl hp (fun b hb=>Qh1 hb) (by simp) rfl ⟨p,arr',hp,by simp[hlt],hr.sz,hr.rep⟩
def Qfg(P:Program)(tab:Qo)(H:List Qa)(t:Nat)(m k x:SV):Qn:=
 match m with
 |.mp s=>match H[s]? with
  |some (.tmap ka va l)=>match tab.lookup t with
   |some {desc:=.map kt et,..}=>match tab.lookup kt with
    |none=>.fail
    |some ik=>match Vg P tab kt ik.desc ka with
     |false=>.fail
     |true=>match ka.Wx k with
      |none=>.fail
      |some kx=>match va.Wx x with
       |none=>.fail
       |some y=>.eff .any (H.set s (.tmap ka va (mput ka.eqv kx y l))) [s] []
   |_=>.fail
  |_=>Qdy P tab H t m k x
 |_=>Qdy P tab H t m k x
theorem Qr4{P:Program}{tab:Qo}(htab:Qf P tab){M:Qc}{ρ:Env}{H:List Qa}{w:World}{K:Qr}(hm:Mem M ρ H w){t:Nat}{m k x:SV}{vm vk v:Value}(hmr:Qe M ρ vm m)(hkr:Qe M ρ vk k)(hx:Qe M ρ v x)
  (h:(Qfg P tab H t m k x).holds H K):Ve P (Instr.mapUpdate t vm vk v) M ρ H w K:=by
 unfold Qfg at h;split at h
 ·rename_i s;split at h
  ·rename_i ka va l ho;split at h
   ·rename_i kt et _ _ _ _ hte;have hu:P.underlying t=some (.map kt et):=(htab.get hte).und;split at h
    ·exact h.elim
    ·rename_i ik hik;split at h
     ·exact h.elim
     ·rename_i hd;split at h
      ·exact h.elim
      ·rename_i kx hkx;split at h
       ·exact h.elim
       ·rename_i y hy;have hvk:=Qfm (Qbn hd) (Qk.Kh hkx hkr);subst hvk;have hdk:P.underlying kt=some ik.desc:=(htab.get hik).und;have hyr:=Qk.Kh hy hx;cases hmr with
        |mp _ p hp=>
         obtain⟨arr,hheap,hrep⟩:=Y7.rep (hm.own s _ ho) hp;have hget:=run_getObj_map (P:=P) hheap;cases hf:Z0 ka.eqv kx l 0 with
         |none=>
          have hl':mput ka.eqv kx y l=l++[(kx,y)]:=by unfold mput;rw[hf]
          rw[hl']at h;obtain⟨g1,g2⟩:=Qc7 (P:=P) hm ho hp hheap (l':=l++[(kx,y)]) (arr':=arr.push {key:=ka.Za kx,val:=v,born:=l.length}) (by have:=hrep.push (k:=ka.Za kx) (c:=l.length) hyr;rw[Qud];simpa using this);refine⟨_,?_,.any,_,[s],[],M,ρ,h,rfl,g1,g2⟩;simp[Instr.mapUpdate,run_underlying hu,hget,Ut htab hik hd,(Uc htab hik hd hrep kx w).1 hf,J5 hheap]
         |some q=>
          obtain⟨j,y0⟩:=q;obtain⟨e,a1,a2,a3,a4,a5,a6⟩:=(Uc htab hik hd hrep kx w).2 j y0 hf;have hl':mput ka.eqv kx y l=l.set j (kx,y):=by unfold mput;rw[hf]
          rw[hl']at h;obtain⟨g1,g2⟩:=Qc7 (P:=P) hm ho hp hheap (l':=l.set j (kx,y)) (arr':=arr.modify j fun e=>{e with key:=ka.Za kx,val:=v}) (by have:=hrep.set (k:=ka.Za kx) a1 hyr a4 (fun e=>{e with key:=ka.Za kx,val:=v}) rfl;rw[Qnl];simpa using this);refine⟨_,?_,.any,_,[s],[],M,ρ,h,rfl,g1,g2⟩;have hks:(Instr.keyThatStays (((arr[j]?).map (·.key)).getD (ka.Za kx)) (ka.Za kx)).run P w=.ok (ka.Za kx) w:=by rw[a1];simp only[Option.map_some,Option.getD_some,a3];simp[Instr.keyThatStays,Qrs (Qbn hd)]
          simp[Instr.mapUpdate,run_underlying hu,hget,Ut htab hik hd,a6,hks,J5 hheap]
   ·exact h.elim
  ·exact Qr8 htab hm hmr hkr hx h
 ·exact Qr8 htab hm hmr hkr hx h
def Qcx{K V:Type}(eq:K→K→Bool)(k:K)(l:List (K×V))(z:V):List (K×V):=match Z0 eq k l 0 with
 |some p=>l.set p.1 (k,p.2)
 |none=>l++[(k,z)]
def Qo1(P:Program)(tab:Qo)(H:List Qa)(t:Nat)(m k:SV):Qn:=
 match m with
 |.mp s=>match H[s]? with
  |some (.tmap ka va l)=>match tab.lookup t with
   |some {desc:=.map kt et,..}=>match tab.lookup kt with
    |none=>.fail
    |some ik=>match Vg P tab kt ik.desc ka with
     |false=>.fail
     |true=>match tab.lookup et with
      |none=>.fail
      |some ie=>match ka.Wx k with
       |none=>.fail
       |some kx=>match va.ofZ ie.zero with
        |none=>.fail
        |some z=>.eff (.tup [va.raw (mgetD ka.eqv kx l z),.lit (.int .i64 (Qbj ka.eqv kx l))]) (H.set s (.tmap ka va (Qcx ka.eqv kx l z))) [s] []
   |_=>.fail
  |_=>Qdw P tab H t m k
 |_=>Qdw P tab H t m k
theorem Znj{P:Program}{tab:Qo}(htab:Qf P tab){M:Qc}{ρ:Env}{H:List Qa}{w:World}{K:Qr}(hm:Mem M ρ H w){t:Nat}{m k:SV}{vm vk:Value}(hmr:Qe M ρ vm m)(hkr:Qe M ρ vk k)
  (h:(Qo1 P tab H t m k).holds H K):Qv P (Instr.mapEntry t vm vk) M ρ H w K:=by
 unfold Qo1 at h;split at h
 ·rename_i s;split at h
  ·rename_i ka va l ho;split at h
   ·rename_i kt et _ _ _ _ hte;have hu:P.underlying t=some (.map kt et):=(htab.get hte).und;split at h
    ·exact h.elim
    ·rename_i ik hik;split at h
     ·exact h.elim
     ·rename_i hd;split at h
      ·exact h.elim
      ·rename_i ie hie;split at h
       ·exact h.elim
       ·rename_i kx hkx;split at h
        ·exact h.elim
        ·rename_i z hz;have hvk:=Qfm (Qbn hd) (Qk.Kh hkx hkr);subst hvk;have hdk:P.underlying kt=some ik.desc:=(htab.get hik).und;have hzr:Qe M ρ ie.zero (va.raw z):=Qk.Kh (M:=M) (ρ:=ρ) hz (.pv (.lit _));cases hmr with
         |mp _ p hp=>
          obtain⟨arr,hheap,hrep⟩:=Y7.rep (hm.own s _ ho) hp;have hget:=run_getObj_map (P:=P) hheap;cases hf:Z0 ka.eqv kx l 0 with
          |none=>
           have e1:Qcx ka.eqv kx l z=l++[(kx,z)]:=by unfold Qcx;rw[hf]
           have e2:mgetD ka.eqv kx l z=z:=by unfold mgetD;rw[hf]
           have e3:Qbj ka.eqv kx l=l.length:=by unfold Qbj;rw[hf]
           rw[e1,e2,e3]at h;obtain⟨g1,g2⟩:=Qc7 (P:=P) hm ho hp hheap (l':=l++[(kx,z)]) (arr':=arr.push {key:=ka.Za kx,val:=ie.zero,born:=l.length}) (by have:=hrep.push (k:=ka.Za kx) (c:=l.length) hzr;rw[Qud];simpa using this);refine⟨.tuple #[ie.zero,goInt l.length],_,?_,_,_,[s],[],M,ρ,h,Qds hzr (.pv (.lit _)),g1,g2⟩;simp[Instr.mapEntry,run_underlying hu,hget,Ut htab hik hd,(Uc htab hik hd hrep kx w).1 hf,J5 hheap,We (htab.get hie)]
          |some q=>
           obtain⟨j,y0⟩:=q;obtain⟨e,a1,a2,a3,a4,a5,a6⟩:=(Uc htab hik hd hrep kx w).2 j y0 hf;have e1:Qcx ka.eqv kx l z=l.set j (kx,y0):=by unfold Qcx;rw[hf]
           have e2:mgetD ka.eqv kx l z=y0:=by unfold mgetD;rw[hf]
           have e3:Qbj ka.eqv kx l=j:=by unfold Qbj;rw[hf]
           rw[e1,e2,e3]at h;obtain⟨g1,g2⟩:=Qc7 (P:=P) hm ho hp hheap (l':=l.set j (kx,y0)) (arr':=arr.modify j fun e=>{e with key:=ka.Za kx}) (by have:=hrep.set (k:=ka.Za kx) a1 a5 a4 (fun e=>{e with key:=ka.Za kx}) rfl;rw[Qnl];simpa using this);refine⟨.tuple #[e.val,goInt e.born],_,?_,_,_,[s],[],M,ρ,h,?_,g1,g2⟩
           ·have hks:(Instr.keyThatStays e.key (ka.Za kx)).run P w=.ok (ka.Za kx) w:=by rw[a3];simp[Instr.keyThatStays,Qrs (Qbn hd)]
            simp[Instr.mapEntry,run_underlying hu,hget,Ut htab hik hd,a6,hks,J5 hheap,a1]
           ·rw[a4];exact Qds a5 (.pv (.lit _))
   ·exact h.elim
  ·exact Qvg htab hm hmr hkr h
 ·exact Qvg htab hm hmr hkr h
def Ql4{K V:Type}(j:Nat)(x:V)(l:List (K×V)):List (K×V):=match l[j]? with
 |some e=>l.set j (e.1,x)
 |none=>l
def Qgj(H:List Qa)(m st x:SV):Qn:=
 match m with
 |.mp s=>match H[s]? with
  |some (.tmap ka va l)=>match st with
   |.pv (.lit (.int _ n))=>match va.Wx x with
    |none=>.fail
    |some y=>.need (decide (0≤n)) (.need (decide (n.toNat<l.length)) (.eff .any (H.set s (.tmap ka va (Ql4 n.toNat y l))) [s] []))
   |_=>.fail
  |_=>Qew H m st x
 |_=>Qew H m st x
theorem Zbb{P:Program}{M:Qc}{ρ:Env}{H:List Qa}{w:World}{K:Qr}(hm:Mem M ρ H w){t:Nat}{m st x:SV}{vm vs v:Value}(hmr:Qe M ρ vm m)(hst:Qe M ρ vs st)(hx:Qe M ρ v x)
  (h:(Qgj H m st x).holds H K):Ve P (Instr.entryStore t vm vs v) M ρ H w K:=by
 unfold Qgj at h;split at h
 ·rename_i s;split at h
  ·rename_i ka va l ho;split at h
   ·rename_i k n;have:=hst.Q1;subst this;split at h
    ·exact h.elim
    ·rename_i y hy;obtain⟨h0,h1,h⟩:=h;have h0:=of_decide_eq_true h0;have h1:=of_decide_eq_true h1;have hyr:=Qk.Kh hy hx;obtain⟨j,rfl⟩:∃j:Nat,n=j:=⟨n.toNat,by omega⟩;simp only[Int.toNat_natCast]at h h1;cases hmr with
     |mp _ p hp=>
      obtain⟨arr,hheap,hrep⟩:=Y7.rep (hm.own s _ ho) hp;have hsz:=hrep.sz;rw[W6]at hsz;have hgete:∀(i:Nat) (hi:i<l.length),∃e,arr[i]? =some e∧e.key=ka.Za l[i].1∧e.born=i∧Qe M ρ e.val (va.raw l[i].2):=fun i hi=>by obtain⟨e,a1,a2,a3,a4⟩:=hrep.rep i (ka.Za l[i].1) (va.raw l[i].2) i (by rw[Ji,List.getElem?_eq_getElem hi];simp);exact⟨e,a1,a2,a3,a4⟩
      obtain⟨e,a1,a2,a3,a4⟩:=hgete j h1;have hidx:arr.findIdx? (fun e=>(e.born:Int)==(j:Int))=some j:=by
       rw[Array.findIdx?_eq_some_iff_getElem];refine⟨by omega,?_,fun i hi=>?_⟩
       ·rw[Array.getElem?_eq_getElem (by omega)]at a1;simp only[Option.some.injEq]at a1;rw[a1,a3];simp
       ·obtain⟨e',b1,_,b3,_⟩:=hgete i (by omega);rw[Array.getElem?_eq_getElem (by omega)]at b1;simp only[Option.some.injEq]at b1;rw[b1,b3];simp;omega
      have el:Ql4 j y l=l.set j (l[j].1,y):=by unfold Ql4;rw[List.getElem?_eq_getElem h1]
      rw[el]at h;obtain⟨g1,g2⟩:=Qc7 (P:=P) hm ho hp hheap (l':=l.set j (l[j].1,y)) (arr':=arr.modify j fun e=>{e with val:=v}) (by have:=hrep.set (k:=ka.Za l[j].1) a1 hyr a3 (fun e=>{e with val:=v}) (by rw[←a2]);rw[Qnl];simpa using this);refine⟨_,?_,.any,_,[s],[],M,ρ,h,rfl,g1,g2⟩;simp[Instr.entryStore,run_getObj_map (P:=P) hheap,asInt,asIntOf,hidx,J5 hheap]
   ·exact h.elim
  ·exact Quj hm hmr hst hx h
 ·exact Quj hm hmr hst hx h
def Qa.Qdc:Qa→Option (List (Value×SV×Nat)×Nat)
 |.map es c=>some (es,c)
 |.tmap k v l=>some (Zn k v 0 l,l.length)
 |_=>none
theorem Qik{M:Qc}{ρ:Env}{w:World}{s:Nat}{o:Qa}{q:List (Value×SV×Nat)×Nat}(h:o.Qdc=some q)(ho:Qy M ρ w s o):Y7 M ρ w s q.1 q.2:=by cases o<;>first|(cases h;done)|(cases h;exact ho)
def Qnq(tab:Qo)(H:List Qa)(t:Nat)(x:SV):Qn:=
 match tab.lookup t,x with
 |some {desc:=.string,..},.pv (.lit (.string s))=>.eff (.ptr H.length 0 0 0) (H++[.iter s 0]) [] []
 |some {desc:=.map _ _,..},.mp m=>match H[m]? with
  |some o=>match o.Qdc with
   |some q=>.eff (.ptr H.length 0 0 0) (H++[.mit (some m) q.2 []]) [] []
   |none=>.fail
  |none=>.fail
 |_,_=>.fail
theorem Zpn{P:Program}{tab:Qo}(htab:Qf P tab){M:Qc}{ρ:Env}{H:List Qa}{w:World}{K:Qr}(hm:Mem M ρ H w){t:Nat}{x:SV}{v:Value}(hx:Qe M ρ v x)(h:(Qnq tab H t x).holds H K):Qv P (Instr.range t v) M ρ H w K:=by
 unfold Qnq at h;split at h
 ·rename_i sz' by' zr rw' s hte;have hu:P.underlying t=some .string:=(htab.get hte).und;have:=hx.Q1;subst this;have hrun:(Instr.range t (.string s)).run P w=.ok (.pointer (some ⟨w.heap.size,0,none⟩)) (w.alloc (.stringIter s 0)):=by simp[Instr.range,run_underlying hu]
  obtain⟨g1,g2⟩:=hm.alloc (w':=w.alloc (.stringIter s 0)) (o:=.stringIter s 0) (so:=.iter s 0) (cap:=0) rfl ⟨_,Env.set_self ..,heap_alloc_new w _⟩;exact⟨_,_,hrun,_,_,[],[],M,_,h,.ptr _ _ _ _ _ _ (Env.set_self ..) (by simp),g1,g2⟩
 ·rename_i k e sz' by' zr rw' m hte;have hu:P.underlying t=some (.map k e):=(htab.get hte).und;split at h
  ·rename_i o ho;split at h
   ·rename_i q hq;obtain⟨es,c⟩:=q;obtain⟨pm,arr,h1,h2,h3,h4⟩:=Qik hq (hm.own m _ ho);simp only at h2 h;cases hx with
    |mp _ p hp=>
     rw[hp]at h1;cases h1;have hget:(getObj pm.block).run P w=.ok (.map arr c) w:=by simp[getObj,Sem.run,h2]
     have hrun:(Instr.range t (.map (some pm.block))).run P w=.ok (.pointer (some ⟨w.heap.size,0,none⟩)) (w.alloc (.mapIter (some pm.block) c #[] c)):=by simp[Instr.range,run_underlying hu,hget]
     have hne:m≠H.length:=fun e=>by have:=(List.getElem?_eq_some_iff.1 ho).1;omega
     obtain⟨g1,g2⟩:=hm.alloc (w':=w.alloc (.mapIter (some pm.block) c #[] c)) (o:=.mapIter (some pm.block) c #[] c) (so:=.mit (some m) c []) (cap:=0) rfl
       ⟨_,_,_,Env.set_self ..,heap_alloc_new w _,rfl,fun mm e=>by cases e;exact⟨pm,by rw[Env.Zu _ _ hne];exact hp,rfl⟩⟩
     exact⟨_,_,hrun,_,_,[],[],M,_,h,.ptr _ _ _ _ _ _ (Env.set_self ..) (by simp),g1,g2⟩
   ·exact h.elim
  ·exact h.elim
 ·exact h.elim
def Qh8(H:List Qa)(x:SV):Qn:=
 match x with
 |.ptr s 0 0 0=>match H[s]? with
  | some (.iter b pos)=>.split (decide (pos < b.size))
    (.eff (.tup [.lit (.bool true),.lit (.int .i64 pos),.lit (.int .i32 (Utf8.decode b pos).1)]) (H.set s (.iter b (pos+(Utf8.decode b pos).2))) [s] [])
    (.ok (.tup [.lit (.bool false)]))
  |_=>.fail
 |_=>.fail
theorem Zmk{P:Program}{M:Qc}{ρ:Env}{H:List Qa}{w:World}{K:Qr}(hm:Mem M ρ H w){t:Nat}{x:SV}{v:Value}(hx:Qe M ρ v x)(h:(Qh8 H x).holds H K):Qv P (Instr.next v true t) M ρ H w K:=by
 unfold Qh8 at h;split at h
 ·rename_i s;split at h
  ·rename_i b pos ho;cases hx with
   |ptr _ _ _ _ k p hp hk=>
    obtain⟨q,h1,h2⟩:=hm.own s _ ho;rw[hp]at h1;cases h1;have hk0:k=0:=by simpa using hk
    subst hk0;have hget:(getObj p.block).run P w=.ok (.stringIter b pos) w:=by simp[getObj,Sem.run,h2]
    have hset:∀o,(setObj p.block o).run P w=.ok () {w with heap:=w.heap.setIfInBounds p.block o}:=fun o=>by simp[setObj,Sem.run,h2]
    have hlt:p.block<w.heap.size:=(Array.getElem?_eq_some_iff.1 h2).1;obtain⟨ht,hf⟩:=h;by_cases hpos:pos<b.size
    ·have h':=ht (by simpa using hpos);obtain⟨g1,g2⟩:=hm.put (so:=.iter b (pos+(Utf8.decode b pos).2)) (w':={w with heap:=w.heap.setIfInBounds p.block (.stringIter b (pos+(Utf8.decode b pos).2))}) ho rfl hp (fun b' hb=>Qh1 hb) (by simp) rfl
      ⟨p,hp,by simp[hlt]⟩
     refine⟨.tuple #[.bool true,goInt pos,.int .i32 (Utf8.decode b pos).1],_,?_,_,_,[s],[],M,ρ,h',?_,g1,g2⟩
     ·simp[Instr.next,hget,hpos,hset]
     ·refine .tup _ _ rfl fun i a c ha hc=>?_;match i with
      |0=>simp at ha hc;subst ha;subst hc;exact .pv (.lit _)
      |1=>simp at ha hc;subst ha;subst hc;exact .pv (.lit _)
      |2=>simp at ha hc;subst ha;subst hc;exact .pv (.lit _)
      |i+3=>simp at hc
    ·have h':=hf (by simpa using hpos);refine Qv.same hm (v:=.tuple #[.bool false]) ?_ ?_ h'
     ·simp[Instr.next,hget,hpos]
     ·refine .tup _ _ rfl fun i a c ha hc=>?_;match i with
      |0=>simp at ha hc;subst ha;subst hc;exact .pv (.lit _)
      |i+1=>simp at hc
  ·exact h.elim
 ·exact h.elim
def Qdx(s m c:Nat)(seen:List Nat)(H:List Qa):List (Value×SV×Nat)→Qn
 |[]=>.ok (.tup [.lit (.bool false)])
 |[e]=>.eff (.tup [.lit (.bool true),.lit e.1,e.2.1]) (H.set s (.mit (some m) c (seen++[e.2.2]))) [s] []
 |e::e'::es=>.both (.eff (.tup [.lit (.bool true),.lit e.1,e.2.1]) (H.set s (.mit (some m) c (seen++[e.2.2]))) [s] []) (Qdx s m c seen H (e'::es))
def Qoh(H:List Qa)(x:SV):Qn:=
 match x with
 |.ptr s 0 0 0=>match H[s]? with
  |some (.mit (some m) c seen)=>match H[m]? with
   |some o=>match o.Qdc with
    |some q=>.need (Nat.beq q.2 c&&q.1.all fun e=>Nat.blt e.2.2 c) (Qdx s m c seen H (q.1.filter fun e=>!seen.contains e.2.2))
    |none=>.fail
   |none=>.fail
  |_=>.fail
 |_=>.fail
theorem Zes{s m c:Nat}{seen:List Nat}{H:List Qa}{K:Qr}{l:List (Value×SV×Nat)}(h:(Qdx s m c seen H l).holds H K)(hl:l=[]):K (.tup [.lit (.bool false)]) H [] []:=by subst hl;exact h
theorem Qxk{s m c:Nat}{seen:List Nat}{H:List Qa}{K:Qr}:∀{l:List (Value×SV×Nat)},(Qdx s m c seen H l).holds H K→∀e∈l,K (.tup [.lit (.bool true),.lit e.1,e.2.1]) (H.set s (.mit (some m) c (seen++[e.2.2]))) [s] []
 |[],h,e,he=>by cases he
 |[e0],h,e,he=>by rw[List.mem_singleton.1 he];exact h
 |e0::e1::l,h,e,he=>by
  rcases List.mem_cons.1 he with rfl|he
  ·exact h.1
  ·exact Qxk (l:=e1::l) h.2 e he
theorem Zcd{P:Program}{M:Qc}{ρ:Env}{H:List Qa}{w:World}{K:Qr}(hm:Mem M ρ H w){t:Nat}{x:SV}{v:Value}(hx:Qe M ρ v x)(h:(Qoh H x).holds H K):Qv P (Instr.next v false t) M ρ H w K:=by
 unfold Qoh at h;split at h
 ·rename_i s;split at h
  ·rename_i m c seen ho;split at h
   rotate_left
   ·exact h.elim
   rename_i om hom0;split at h
   ·rename_i qm hqm;obtain⟨es,c'⟩:=qm;have hom:=Qik hqm (hm.own m _ hom0);obtain⟨hc,h⟩:=h;rw[Bool.and_eq_true]at hc;simp only at hc h hom;have hcc:=Nat.eq_of_beq_eq_true hc.1;subst hcc;have hbn:∀e∈es,e.2.2<c':=fun e he=>by have:=List.all_eq_true.1 hc.2 e he;rwa[Nat.blt_eq]at this
    cases hx with
    |ptr _ _ _ _ k p hp hk=>
     obtain⟨p',q,sn,h1,h2,h3,h4⟩:=hm.own s _ ho;rw[hp]at h1;cases h1;obtain⟨pm,a1,a2⟩:=h4 m rfl;subst a2;obtain⟨pm',arr,b1,b2,b3,b4⟩:=hom;rw[a1]at b1;cases b1;have hk0:k=0:=by simpa using hk
     subst hk0;have hent:∀(i:Nat) (me:MapEntry),arr[i]? =some me→∃e,es[i]? =some e∧me.key=e.1∧me.born=e.2.2∧Qe M ρ me.val e.2.1:=fun i me hme=>by
      have hi:i<es.length:=by rw[←b3];exact(Array.getElem?_eq_some_iff.1 hme).1
      obtain⟨e,d1,d2,d3,d4⟩:=b4 i _ _ _ (List.getElem?_eq_getElem hi);rw[hme]at d1;cases d1;exact⟨_,List.getElem?_eq_getElem hi,d2,d3,d4⟩
     have hold:∀me∈arr.toList,me.born<c':=fun me hme=>by obtain⟨i,hi⟩:=List.getElem?_of_mem hme;obtain⟨e,d1,_,d3,_⟩:=hent i me (by simpa using hi);rw[d3];exact hbn e (List.mem_of_getElem? d1)
     have hleft:∀me,me∈(leftOf arr sn).toList↔me∈arr.toList∧¬me.born∈seen:=fun me=>by unfold leftOf;simp[←h3]
     rcases run_next_at (P:=P) w t p.block pm.block c' c' sn arr c' h2 b2 hold (Nat.le_refl _)with⟨hz,hr⟩|⟨me,hme,w1,hw1,hr⟩
     ·have hnil:(es.filter fun e=>!seen.contains e.2.2)=[]:=by
       rw[List.filter_eq_nil_iff];intro e he;obtain⟨i,hi⟩:=List.getElem?_of_mem he;obtain⟨me,d1,d2,d3,d4⟩:=b4 i e.1 e.2.1 e.2.2 hi;intro hn;have hmem:me∈(leftOf arr sn).toList:=(hleft me).2 ⟨by simpa using Array.mem_of_getElem? d1,by rw[d3];simpa using hn⟩;have:(leftOf arr sn).toList=[]:=by simpa using hz
       rw[this]at hmem;cases hmem
      have hk:=Zes h hnil;refine Qv.same hm hr ?_ hk;refine .tup _ _ rfl fun i a c ha hc=>?_;match i with
      |0=>simp at ha hc;subst ha;subst hc;exact .pv (.lit _)
      |i+1=>simp at hc
     ·obtain⟨m1,m2⟩:=(hleft me).1 hme;obtain⟨i,hi⟩:=List.getElem?_of_mem m1;obtain⟨e,d1,d2,d3,d4⟩:=hent i me (by simpa using hi);have hein:e∈es.filter fun e=>!seen.contains e.2.2:=List.mem_filter.2 ⟨List.mem_of_getElem? d1,by rw[←d3];simpa using m2⟩;have hk:=Qxk h e hein;have hlt:p.block<w.heap.size:=(Array.getElem?_eq_some_iff.1 h2).1;have hh1:w1.heap=w.heap∧w1.os=w.os∧w1.output=w.output:=by rcases hw1 with rfl|rfl<;>exact⟨rfl,rfl,rfl⟩
      obtain⟨g1,g2⟩:=hm.put (so:=.mit (some m) c' (seen++[e.2.2])) (w':=ChangeMaps.setBlock w1 p.block (.mapIter (some pm.block) c' (sn.push me.born) c')) ho rfl hp
       (fun b' hb=>by show(w1.heap.setIfInBounds p.block _)[b']? =_;rw[hh1.1,Array.getElem?_setIfInBounds,if_neg fun e=>hb e.symm])
       (by show(w1.heap.setIfInBounds p.block _).size=_;rw[hh1.1];simp) rfl
       ⟨p,some pm.block,sn.push me.born,hp,by show(w1.heap.setIfInBounds p.block _)[p.block]? =_;rw[hh1.1];simp[hlt],by simp[h3,d3],fun mm e=>by cases e;exact⟨pm,a1,rfl⟩⟩
       ⟨hh1.2.1,hh1.2.2⟩
      refine⟨_,_,hr,_,_,[s],[],M,ρ,hk,?_,g1,g2⟩;refine .tup _ _ rfl fun i a c ha hc=>?_;match i with
      |0=>simp at ha hc;subst ha;subst hc;exact .pv (.lit _)
      |1=>simp at ha hc;subst ha;subst hc;rw[d2];exact .pv (.lit _)
      |2=>simp at ha hc;subst ha;subst hc;exact d4
      |i+3=>simp at hc
   ·exact h.elim
  ·exact h.elim
 ·exact h.elim
def Ua(H:List Qa)(x:SV):Qn:=
 match x with
 |.ptr s 0 0 0=>match H[s]? with
  |some (.mit (some m) c seen)=>match H[m]? with
   |some o=>match o.Qdc with
    |some q=>match seen.getLast? with
     |some st=>match q.1.find? fun e=>Nat.beq e.2.2 st with
      |some e=>.need (Nat.beq q.2 c) (.ok (.tup [.lit e.1,e.2.1]))
      |none=>.fail
     |none=>.fail
    |none=>.fail
   |none=>.fail
  |_=>.fail
 |_=>.fail
theorem Qf7{P:Program}{M:Qc}{ρ:Env}{H:List Qa}{w:World}{K:Qr}(hm:Mem M ρ H w){x:SV}{v:Value}(hx:Qe M ρ v x)(h:(Ua H x).holds H K):Qv P (Instr.entry v) M ρ H w K:=by
 unfold Ua at h;split at h
 rotate_left
 ·exact h.elim
 rename_i s;split at h
 rotate_left
 ·exact h.elim
 rename_i m c seen ho;split at h
 rotate_left
 ·exact h.elim
 rename_i om hom0;split at h
 rotate_left
 ·exact h.elim
 rename_i qm hqm;obtain⟨es,c'⟩:=qm;have hom:=Qik hqm (hm.own m _ hom0);split at h
 rotate_left
 ·exact h.elim
 rename_i st hst;split at h
 rotate_left
 ·exact h.elim
 rename_i e he;obtain⟨hc,h⟩:=h;simp only at hc h hom he;have hcc:=Nat.eq_of_beq_eq_true hc;subst hcc;cases hx with
 |ptr _ _ _ _ k p hp hk=>
  obtain⟨p',q,sn,h1,h2,h3,h4⟩:=hm.own s _ ho;rw[hp]at h1;cases h1;obtain⟨pm,a1,a2⟩:=h4 m rfl;subst a2;obtain⟨pm',arr,b1,b2,b3,b4⟩:=hom;rw[a1]at b1;cases b1;have hk0:k=0:=by simpa using hk
  subst hk0;obtain⟨hp1,i,hi,hei,hmin⟩:=List.find?_eq_some_iff_getElem.1 he;obtain⟨me,d1,d2,d3,d4⟩:=b4 i e.1 e.2.1 e.2.2 (by rw[List.getElem?_eq_getElem hi,hei]);have hst':e.2.2=st:=Nat.eq_of_beq_eq_true hp1;have hf:arr.find? (fun x=>x.born==st)=some me:=by
   rw[←Array.find?_toList];obtain⟨hia,hme⟩:=Array.getElem?_eq_some_iff.1 d1;refine List.find?_eq_some_iff_getElem.2 ⟨by rw[d3,hst'];simp,i,by simpa using hia,by simpa using hme,fun j hj=>?_⟩;have hj':j<es.length:=by omega
   obtain⟨mj,e1,e2,e3,e4⟩:=b4 j _ _ _ (List.getElem?_eq_getElem hj');have hja:j<arr.size:=by omega
   have e1':arr[j]=mj:=by rw[Array.getElem?_eq_getElem hja]at e1;exact Option.some.inj e1
   have hne:=hmin j hj;simp only[Array.getElem_toList,e1',e3];cases hb:Nat.beq (es[j]).2.2 st with
   |true=>rw[hb]at hne;simp at hne
   |false=>
    have:(es[j]).2.2≠st:=fun hh=>by rw[hh,Nat.beq_refl]at hb;cases hb
    simp[this]
  have hback:sn.back? =some st:=by rw[←h3]at hst;rw[←Array.getLast?_toList];exact hst
  refine Qv.same hm (v:=.tuple #[me.key,me.val]) ?_ ?_ h
  ·simp only[Instr.entry,getObj,Sem.run_bind,Sem.run,h2,b2,Result.andThen,hback,bne_self_eq_false,Bool.false_eq_true,if_false,hf];rfl
  ·refine .tup _ _ rfl fun i a b ha hb=>?_;match i with
   |0=>simp at ha hb;subst ha;subst hb;rw[d2];exact .pv (.lit _)
   |1=>simp at ha hb;subst ha;subst hb;exact d4
   |i+2=>simp at hb
def Qk.Zx:(a:Qk)→a.El
 |.val t=>t.Zx
 |.agg row=>Els.Zx row
def Vh(l:List Nat):Nat:=l.getLastD 0
theorem Zod{l:List Nat}(h:0<l.length):l.getLast? =some (Vh l):=by
 unfold Vh;cases e:l.getLast? with
 |none=>rw[List.getLast?_eq_none_iff]at e;subst e;simp at h
 |some x=>rw[List.getLastD_eq_getLast?,e];rfl
theorem Zks{k v:Qk}{l:List (k.El×v.El)}{j:Nat}(h:j<l.length):(Zn k v 0 l).find? (fun e=>Nat.beq e.2.2 j)=some (k.Za l[j].1,v.raw l[j].2,j):=by
 rw[List.find?_eq_some_iff_getElem];have hg:∀i (hi:i<l.length),(Zn k v 0 l)[i]? =some (k.Za l[i].1,v.raw l[i].2,i):=fun i hi=>by rw[Ji,List.getElem?_eq_getElem hi];simp
 have hl:j<(Zn k v 0 l).length:=by rw[W6];exact h
 refine⟨Nat.beq_refl j,j,hl,?_,fun i hi=>?_⟩
 ·have:=hg j h;rw[List.getElem?_eq_getElem hl]at this;exact Option.some.inj this
 ·have hi':i<l.length:=by omega
  have:=hg i hi';have hil:i<(Zn k v 0 l).length:=by rw[W6];exact hi'
  rw[List.getElem?_eq_getElem hil]at this;rw[Option.some.inj this];show(!Nat.beq i j)=true;rw[Bool.not_eq_true'];cases he:Nat.beq i j with
  |false=>rfl
  |true=>have:=Nat.eq_of_beq_eq_true he;omega
def Qpn(H:List Qa)(x:SV):Qn:=
 match x with
 |.ptr s 0 0 0=>match H[s]? with
  |some (.mit (some m) c seen)=>match H[m]? with
   |some (.tmap k v l)=>match k.scalar with
    |true=>.need (decide (c=l.length)) <| .need (decide (0<seen.length)) <| .need (decide (Vh seen<l.length)) <| .ok (.tup [k.raw (l.getD (Vh seen) (k.Zx,v.Zx)).1,v.raw (l.getD (Vh seen) (k.Zx,v.Zx)).2])
    |false=>.fail
   |_=>Ua H x
  |_=>Ua H x
 |_=>Ua H x
theorem Zsl{P:Program}{M:Qc}{ρ:Env}{H:List Qa}{w:World}{K:Qr}(hm:Mem M ρ H w){x:SV}{v:Value}(hx:Qe M ρ v x)(h:(Qpn H x).holds H K):Qv P (Instr.entry v) M ρ H w K:=by
 unfold Qpn at h;split at h
 ·rename_i s;split at h
  ·rename_i m c seen ho;split at h
   ·rename_i k va l hl;split at h
    ·rename_i hks;obtain⟨hc,hs,hlt,h⟩:=h;have hc:=of_decide_eq_true hc;have hs:=of_decide_eq_true hs;have hlt:=of_decide_eq_true hlt;rw[List.getD_eq_getElem?_getD,List.getElem?_eq_getElem hlt]at h;have h:K (.tup [k.raw l[Vh seen].1,va.raw l[Vh seen].2]) H [] []:=h;have h0:(Ua H (.ptr s 0 0 0)).holds H fun x' H' t g=>H'=H∧t=[]∧g=[]∧x'=.tup [.lit (k.Za l[Vh seen].1),va.raw l[Vh seen].2]:=by unfold Ua;simp only[ho,hl,Qa.Qdc,Zod hs,Zks hlt];exact⟨by rw[hc];exact Nat.beq_refl _,rfl,rfl,rfl,rfl⟩
     obtain⟨u,w',hr,y,H',t,g,M',ρ',⟨rfl,rfl,rfl,rfl⟩,hrep,hm',hf⟩:=Qf7 (P:=P) hm hx h0;refine⟨u,w',hr,_,_,_,_,M',ρ',h,?_,hm',hf⟩;cases hrep with
     |tup cs _ hlen hrep=>
      refine .tup cs _ hlen fun i a b ha hb=>?_;match i with
      |0=>simp only[List.getElem?_cons_zero,Option.some.injEq]at hb;subst hb;have:=(hrep 0 a _ ha rfl).Q1;subst this;exact Qjy hks _
      |1=>simp only[List.getElem?_cons_succ,List.getElem?_cons_zero,Option.some.injEq]at hb;subst hb;exact hrep 1 a _ ha rfl
      |i+2=>simp at hb
    ·exact h.elim
   ·exact Qf7 hm hx h
  ·exact Qf7 hm hx h
 ·exact Qf7 hm hx h
end Go.Sx
